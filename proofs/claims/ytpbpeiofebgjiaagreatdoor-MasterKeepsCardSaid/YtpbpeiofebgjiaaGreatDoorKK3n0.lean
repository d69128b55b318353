import Derived.Test.YtpbpeiofebgjiaaGreatDoorProg
import Derived.Test.YtpbpeiofebgjiaaGreatDoorSpCopy
import Derived.Test.YtpbpeiofebgjiaaGreatDoorFK3
import Derived.Test.YtpbpeiofebgjiaaGreatDoorSpStr
import Derived.Test.YtpbpeiofebgjiaaGreatDoorSpLib
import Derived.Test.YtpbpeiofebgjiaaGreatDoorConv
import Derived.Test.YtpbpeiofebgjiaaGreatDoorLibs
namespace Go.Sp.K3
open Go Go.Sp Go.Proofs
set_option linter.unusedVariables false
attribute [local irreducible] wpList AnyL Code.wp Calls Does
def ty_Stream : Ty S_Stream where
  sz := 2
  rep := fun f cs x => ∃ (A0 : Option Addr) (c0 : Nat), cs = [.slice A0 x.L.length c0, .int .i64 x.vat] ∧ SlR (tInt .i64) f A0 c0 x.L
  pos := by decide
  len := by rintro f cs x ⟨A0, c0, rfl, h0⟩; rfl
  mono := by rintro f g cs x hl ⟨A0, c0, rfl, h0⟩; exact ⟨A0, c0, rfl, h0.mono hl⟩
  one := by
    rintro f cs x ⟨A0, c0, rfl, h0⟩ v hv
    simp only [List.mem_cons, List.not_mem_nil, or_false] at hv
    rcases hv with rfl | rfl <;> rfl
def ty_Sensor : Ty S_Sensor where
  sz := 8
  rep := fun f cs x => ∃ (A2 : Option Addr) (c2 : Nat) (A3 : Option Addr) (c3 : Nat) (A4 : Option Addr) (c4 : Nat), cs = [.int .i64 x.W, .int .i64 x.H, .slice A2 x.Bias.length c2, .slice A3 x.Dark.length c3, .slice A4 x.Flat.length c4, .int .i64 x.Full, .int .i64 x.Gain, .int .i64 x.Noise] ∧ SlR (tInt .i64) f A2 c2 x.Bias ∧ SlR (tInt .i64) f A3 c3 x.Dark ∧ SlR (tInt .i64) f A4 c4 x.Flat
  pos := by decide
  len := by rintro f cs x ⟨A2, c2, A3, c3, A4, c4, rfl, h2, h3, h4⟩; rfl
  mono := by rintro f g cs x hl ⟨A2, c2, A3, c3, A4, c4, rfl, h2, h3, h4⟩; exact ⟨A2, c2, A3, c3, A4, c4, rfl, h2.mono hl, h3.mono hl, h4.mono hl⟩
  one := by
    rintro f cs x ⟨A2, c2, A3, c3, A4, c4, rfl, h2, h3, h4⟩ v hv
    simp only [List.mem_cons, List.not_mem_nil, or_false] at hv
    rcases hv with rfl | rfl | rfl | rfl | rfl | rfl | rfl | rfl <;> rfl
def ty_Hit : Ty S_Hit where
  sz := 3
  rep := fun f cs x => cs = [.int .i64 x.X, .int .i64 x.Y, .int .i64 x.Quanta]
  pos := by decide
  len := by rintro f cs x rfl; rfl
  mono := by rintro f g cs x hl rfl; exact rfl
  one := by
    rintro f cs x rfl v hv
    simp only [List.mem_cons, List.not_mem_nil, or_false] at hv
    rcases hv with rfl | rfl | rfl <;> rfl
def ty_Plate : Ty S_Plate where
  sz := 4
  rep := fun f cs x => cs = [.int .i64 x.A, .int .i64 x.B, .int .i64 x.C, .int .i64 x.D]
  pos := by decide
  len := by rintro f cs x rfl; rfl
  mono := by rintro f g cs x hl rfl; exact rfl
  one := by
    rintro f cs x rfl v hv
    simp only [List.mem_cons, List.not_mem_nil, or_false] at hv
    rcases hv with rfl | rfl | rfl | rfl <;> rfl
def ty_Shot : Ty S_Shot where
  sz := 14
  rep := fun f cs x => ∃ (A13 : Option Addr) (c13 : Nat), cs = [.int .i64 x.Kind, .int .u64 x.Seed, .int .i64 x.Number, .int .i64 x.Begin, .int .i64 x.Beats, .int .i64 x.Plate.A, .int .i64 x.Plate.B, .int .i64 x.Plate.C, .int .i64 x.Plate.D, .int .i64 x.Seeing, .int .i64 x.DriftX, .int .i64 x.DriftY, .int .i64 x.Lamp, .slice A13 x.Hits.length c13] ∧ SlR ty_Hit f A13 c13 x.Hits
  pos := by decide
  len := by rintro f cs x ⟨A13, c13, rfl, h13⟩; rfl
  mono := by rintro f g cs x hl ⟨A13, c13, rfl, h13⟩; exact ⟨A13, c13, rfl, h13.mono hl⟩
  one := by
    rintro f cs x ⟨A13, c13, rfl, h13⟩ v hv
    simp only [List.mem_cons, List.not_mem_nil, or_false] at hv
    rcases hv with rfl | rfl | rfl | rfl | rfl | rfl | rfl | rfl | rfl | rfl | rfl | rfl | rfl | rfl <;> rfl
def ty_Card : Ty S_Card where
  sz := 4
  rep := fun f cs x => cs = [.string x.Key, .string x.Value, .string x.Unit, .string x.Note]
  pos := by decide
  len := by rintro f cs x rfl; rfl
  mono := by rintro f g cs x hl rfl; exact rfl
  one := by
    rintro f cs x rfl v hv
    simp only [List.mem_cons, List.not_mem_nil, or_false] at hv
    rcases hv with rfl | rfl | rfl | rfl <;> rfl
def ty_Camera : Ty S_Camera where
  sz := 5
  rep := fun f cs x => cs = [.int .i64 x.W, .int .i64 x.H, .int .i64 x.Full, .int .i64 x.Gain, .int .i64 x.Noise]
  pos := by decide
  len := by rintro f cs x rfl; rfl
  mono := by rintro f g cs x hl rfl; exact rfl
  one := by
    rintro f cs x rfl v hv
    simp only [List.mem_cons, List.not_mem_nil, or_false] at hv
    rcases hv with rfl | rfl | rfl | rfl | rfl <;> rfl
def ty_Frame : Ty S_Frame where
  sz := 4
  rep := fun f cs x => ∃ (A2 : Option Addr) (c2 : Nat) (A3 : Option Addr) (c3 : Nat), cs = [.int .i64 x.W, .int .i64 x.H, .slice A2 x.Cards.length c2, .slice A3 x.Counts.length c3] ∧ SlR ty_Card f A2 c2 x.Cards ∧ SlR (tInt .i64) f A3 c3 x.Counts
  pos := by decide
  len := by rintro f cs x ⟨A2, c2, A3, c3, rfl, h2, h3⟩; rfl
  mono := by rintro f g cs x hl ⟨A2, c2, A3, c3, rfl, h2, h3⟩; exact ⟨A2, c2, A3, c3, rfl, h2.mono hl, h3.mono hl⟩
  one := by
    rintro f cs x ⟨A2, c2, A3, c3, rfl, h2, h3⟩ v hv
    simp only [List.mem_cons, List.not_mem_nil, or_false] at hv
    rcases hv with rfl | rfl | rfl | rfl <;> rfl
def ty_Bound : Ty S_Bound where
  sz := 3
  rep := fun f cs x => cs = [.int .i64 x.Lo, .int .i64 x.Hi, .bool x.Unknown]
  pos := by decide
  len := by rintro f cs x rfl; rfl
  mono := by rintro f g cs x hl rfl; exact rfl
  one := by
    rintro f cs x rfl v hv
    simp only [List.mem_cons, List.not_mem_nil, or_false] at hv
    rcases hv with rfl | rfl | rfl <;> rfl
def ty_numbers : Ty S_numbers where
  sz := 5
  rep := fun f cs x => ∃ (A2 : Option Addr) (c2 : Nat) (A3 : Option Addr) (c3 : Nat), cs = [.int .i64 x.f.W, .int .i64 x.f.H, .slice A2 x.f.Cards.length c2, .slice A3 x.f.Counts.length c3, .int .i64 x.e] ∧ SlR ty_Card f A2 c2 x.f.Cards ∧ SlR (tInt .i64) f A3 c3 x.f.Counts
  pos := by decide
  len := by rintro f cs x ⟨A2, c2, A3, c3, rfl, h2, h3⟩; rfl
  mono := by rintro f g cs x hl ⟨A2, c2, A3, c3, rfl, h2, h3⟩; exact ⟨A2, c2, A3, c3, rfl, h2.mono hl, h3.mono hl⟩
  one := by
    rintro f cs x ⟨A2, c2, A3, c3, rfl, h2, h3⟩ v hv
    simp only [List.mem_cons, List.not_mem_nil, or_false] at hv
    rcases hv with rfl | rfl | rfl | rfl | rfl <;> rfl
def ty_Wide : Ty S_Wide where
  sz := 2
  rep := fun f cs x => cs = [.int .i64 x.Hi, .int .u64 x.Lo]
  pos := by decide
  len := by rintro f cs x rfl; rfl
  mono := by rintro f g cs x hl rfl; exact rfl
  one := by
    rintro f cs x rfl v hv
    simp only [List.mem_cons, List.not_mem_nil, or_false] at hv
    rcases hv with rfl | rfl <;> rfl
abbrev ag_Sensor (x : S_Sensor) (A2 : Option Addr) (c2 : Nat) (A3 : Option Addr) (c3 : Nat) (A4 : Option Addr) (c4 : Nat) : Value := .agg #[.int .i64 x.W, .int .i64 x.H, .slice A2 x.Bias.length c2, .slice A3 x.Dark.length c3, .slice A4 x.Flat.length c4, .int .i64 x.Full, .int .i64 x.Gain, .int .i64 x.Noise]
abbrev ag_Shot (x : S_Shot) (A13 : Option Addr) (c13 : Nat) : Value := .agg #[.int .i64 x.Kind, .int .u64 x.Seed, .int .i64 x.Number, .int .i64 x.Begin, .int .i64 x.Beats, .int .i64 x.Plate.A, .int .i64 x.Plate.B, .int .i64 x.Plate.C, .int .i64 x.Plate.D, .int .i64 x.Seeing, .int .i64 x.DriftX, .int .i64 x.DriftY, .int .i64 x.Lamp, .slice A13 x.Hits.length c13]
abbrev ag_Card (x : S_Card) : Value := .agg #[.string x.Key, .string x.Value, .string x.Unit, .string x.Note]
abbrev ag_Camera (x : S_Camera) : Value := .agg #[.int .i64 x.W, .int .i64 x.H, .int .i64 x.Full, .int .i64 x.Gain, .int .i64 x.Noise]
abbrev ag_Frame (x : S_Frame) (A2 : Option Addr) (c2 : Nat) (A3 : Option Addr) (c3 : Nat) : Value := .agg #[.int .i64 x.W, .int .i64 x.H, .slice A2 x.Cards.length c2, .slice A3 x.Counts.length c3]
abbrev ag_numbers (x : S_numbers) (A2 : Option Addr) (c2 : Nat) (A3 : Option Addr) (c3 : Nat) : Value := .agg #[.int .i64 x.f.W, .int .i64 x.f.H, .slice A2 x.f.Cards.length c2, .slice A3 x.f.Counts.length c3, .int .i64 x.e]
abbrev ag_Plate (x : S_Plate) : Value := .agg #[.int .i64 x.A, .int .i64 x.B, .int .i64 x.C, .int .i64 x.D]
abbrev ag_Bound (x : S_Bound) : Value := .agg #[.int .i64 x.Lo, .int .i64 x.Hi, .bool x.Unknown]
theorem inf3 : Inf Tryz.prog 3 1 8 (.int .i64 0) := .mk' kr rfl
theorem inf60 : Inf Tryz.prog 60 1 8 (.int .i64 0) := .mk' kr rfl
theorem inf28 : Inf Tryz.prog 28 1 8 (.int .i64 0) := .mk' kr rfl
theorem inf98 : Inf Tryz.prog 98 4 64 (.agg #[.string ⟨#[]⟩, .string ⟨#[]⟩, .string ⟨#[]⟩, .string ⟨#[]⟩]) := .mk' kr rfl
theorem inf77 : Inf Tryz.prog 77 14 128 (.agg #[.int .i64 0, .int .u64 0, .int .i64 0, .int .i64 0, .int .i64 0, .int .i64 0, .int .i64 0, .int .i64 0, .int .i64 0, .int .i64 0, .int .i64 0, .int .i64 0, .int .i64 0, .slice none 0 0]) := .mk' kr rfl
theorem inf43 : Inf Tryz.prog 43 3 24 (.agg #[.int .i64 0, .int .i64 0, .bool false]) := .mk' kr rfl
theorem inf56 : Inf Tryz.prog 56 3 24 (.agg #[.int .i64 0, .int .i64 0, .bool false]) := .mk' kr rfl
theorem inf4 : Inf Tryz.prog 4 1 1 (.bool false) := .mk' kr rfl
theorem inf40 : Inf Tryz.prog 40 1 24 (.slice none 0 0) := .mk' kr rfl
theorem inf41 : Inf Tryz.prog 41 1 8 (.int .i64 0) := .mk' kr rfl

set_option maxRecDepth 100000 in
set_option maxHeartbeats 4000000 in
theorem spymake_Below.calls (k : Nat)  (x1 : Int) (n2 : Int) {t w : World} {f : FM} {H : List Seg} (HS : St t w f (H)) (rr1 : Int) (h : spymake_Below k x1 n2 = some rr1) :
    Calls Tryz.prog 27 #[.int .i64 x1, .int .i64 n2] w (fun e w' => ∃ (g : FM), e = .returned (Value.int .i64 rr1) ∧ FM.le f g ∧ St t w' g (H)) := by
 unfold spymake_Below at h
 refine enter Tryz.func27 rfl (tm := #[iV x1, iV n2, uV, uV, uV, uV, uV, uV, uV, uV, uV, uV, uV, uV, uV, uV]) kr ?_
 intro B hret hnor hnp
 refine wp_seq_k fun K3 hK4 => rl ?_
 refine seqL1 kr ?_
 refine nl (hK4 _ _ ?_)
 refine wp_seq_k (fun K5 hK6 => ?_)
 refine wp_seq_k fun K7 hK8 => rl ?_
 refine seqL2 kr ?_
 refine nl (hK8 _ _ ?_)
 have hq_ := ite_some h; clear h; rcases hq_ with ⟨c10, h⟩ | ⟨c10, h⟩
 · have c10 : n2 < 1 := c10
   refine wpRwI 6 (x := (decide (n2 < 1))) (v := true) kr (decide_eq_true c10) ?_
   refine condT kr ?_
   refine wp_seq_k fun K11 hK12 => rl ?_
   refine seqL1 kr ?_
   refine nl (hK12 _ _ ?_)
   refine wp_ret ?_
   refine hret _ _ ?_
   refine ends_still (v := Value.int .i64 0) kr kr ?_
   injection h with h
   subst h
   exact ⟨f, rfl, FM.le.refl _, HS⟩
 · have c10 : ¬ (n2 < 1) := c10
   refine wpRwI 6 (x := (decide (n2 < 1))) (v := false) kr (decide_eq_false c10) ?_
   refine condF kr ?_
   refine wp_skip ?_
   refine hK6 _ _ ?_
   refine wp_seq_k fun K13 hK14 => rl ?_
   have hq_ := guard_some h; clear h; obtain ⟨c15, h⟩ := hq_
   have c15 : ¬ (n2 = 0) := c15
   refine seqL2 kr ?_
   refine seqK rfl (does_run (run_rem rfl (kv (.int .i64 x1)) (kv (.int .i64 n2)) c15 w) ?_)
   refine seqL1 kr ?_
   refine nl (hK14 _ _ ?_)
   refine wp_seq_k (fun K16 hK17 => ?_)
   refine wp_seq_k fun K18 hK19 => rl ?_
   refine seqL2 kr ?_
   refine nl (hK19 _ _ ?_)
   have hq_ := ite_some h; clear h; rcases hq_ with ⟨c21, h⟩ | ⟨c21, h⟩
   · have c21 : (Int.tmod x1 n2) < 0 := c21
     refine wpRwI 11 (x := (decide ((Int.tmod x1 n2) < 0))) (v := true) kr (decide_eq_true c21) ?_
     refine condT kr ?_
     refine rl ?_
     refine seqL4 kr ?_
     refine nl (hK17 _ _ ?_)
     refine wp_seq_k fun K22 hK23 => rl ?_
     refine seqL2 kr ?_
     refine nl (hK23 _ _ ?_)
     refine wp_ret ?_
     refine hret _ _ ?_
     refine ends_still (v := Value.int .i64 (w64 ((Int.tmod x1 n2) + n2))) kr kr ?_
     injection h with h
     subst h
     exact ⟨f, rfl, FM.le.refl _, HS⟩
   · have c21 : ¬ ((Int.tmod x1 n2) < 0) := c21
     refine wpRwI 11 (x := (decide ((Int.tmod x1 n2) < 0))) (v := false) kr (decide_eq_false c21) ?_
     refine condF kr ?_
     refine wp_skip ?_
     refine hK17 _ _ ?_
     refine wp_seq_k fun K24 hK25 => rl ?_
     refine seqL2 kr ?_
     refine nl (hK25 _ _ ?_)
     refine wp_ret ?_
     refine hret _ _ ?_
     refine ends_still (v := Value.int .i64 (Int.tmod x1 n2)) kr kr ?_
     injection h with h
     subst h
     exact ⟨f, rfl, FM.le.refl _, HS⟩

set_option maxRecDepth 100000 in
set_option maxHeartbeats 4000000 in
theorem spymake_Stream_Next.calls (k : Nat) (b1 : Nat) (A4 : Option Addr) (c5 : Nat) (s3 : S_Stream) (n7 : Int) {t w : World} {f : FM} {H : List Seg} (HS : St t w f ([(b1, .cells #[.slice A4 s3.L.length c5, .int .i64 s3.vat] 26 (0, 0))] :: H)) (HR6 : SlR (tInt .i64) f A4 c5 s3.L) (rr1 : Int) (rr2 : Int) (h : spymake_Stream_Next k s3 n7 = some (rr1, rr2)) :
    Calls Tryz.prog 10 #[.pointer (some ⟨b1, 0, none⟩), .int .i64 n7] w (fun e w' => ∃ (g : FM), e = .returned (Value.int .i64 rr1) ∧ FM.le f g ∧ St t w' g ([(b1, .cells #[.slice A4 s3.L.length c5, .int .i64 rr2] 26 (0, 0))] :: H)) := by
 unfold spymake_Stream_Next at h
 refine enter Tryz.func10 rfl (tm := #[pV b1 0, iV n7, uV, uV, uV, uV, uV, uV, uV, uV, uV, uV, uV, uV, uV, uV, uV, uV, uV, uV, uV, uV, uV, uV, uV, uV, uV, uV, uV, uV, uV, uV, uV, uV, uV, uV, uV, uV, uV, uV, uV, uV, uV, uV, uV, uV, uV, uV, uV, uV, uV, uV, uV, uV, uV, uV, uV, uV, uV, uV, uV, uV, uV, uV]) kr ?_
 intro B hret hnor hnp
 refine wp_seq_k fun K8 hK9 => rl ?_
 refine seqL1 kr ?_
 refine nl (hK9 _ _ ?_)
 refine wp_seq_k fun K10 hK11 => rl ?_
 refine seqL3 kr ?_
 refine seqK rfl (does_run (run_load rfl Tryz.underlying3 rfl (kv (.pointer (some ⟨b1, 1, none⟩))) (HS.cell 1)) ?_)
 refine seqL3 kr ?_
 refine seqK rfl (does_store (n := 1) (vs := [.int .i64 (w64 (s3.vat + 1))]) (cs' := #[.slice A4 s3.L.length c5, .int .i64 (w64 (s3.vat + 1))]) rfl kr (kv (.pointer (some ⟨b1, 1, none⟩))) (kv (.int .i64 (w64 (s3.vat + 1)))) rfl rfl (by intro u_ hu_; simp only [List.mem_cons, List.not_mem_nil, or_false] at hu_; subst hu_; rfl) HS (Nat.le_of_ble_eq_true rfl) kr ?_)
 intro W12 HS13
 refine nl (hK11 _ _ ?_)
 refine wp_seq_k (fun K14 hK15 => ?_)
 refine wp_seq_k fun K16 hK17 => rl ?_
 refine seqL3 kr ?_
 refine seqK rfl (does_run (run_load rfl Tryz.underlying22 rfl (kv (.pointer (some ⟨b1, 0, none⟩))) (HS13.cell 0)) ?_)
 refine seqL2 kr ?_
 refine nl (hK17 _ _ ?_)
 have hq_ := ite_some h; clear h; rcases hq_ with ⟨c19, h⟩ | ⟨c19, h⟩
 · have c19 : (s3.L.length : Int) = 0 := c19
   refine wpRwI 19 (x := ((s3.L.length : Int) == 0)) (v := true) kr (beq_iff_eq.mpr c19) ?_
   refine condT kr ?_
   refine wp_seq_k fun K20 hK21 => rl ?_
   refine seqL3 kr ?_
   refine seqK rfl (does_run (run_load rfl Tryz.underlying3 rfl (kv (.pointer (some ⟨b1, 1, none⟩))) (HS13.cell 1)) ?_)
   have hq_ := bind_some h; clear h; obtain ⟨vt22, hc23, h⟩ := hq_
   refine seqL2 kr ?_
   refine seqK rfl (does_call (f := 27) (args := #[.int .i64 (w64 ((w64 (s3.vat + 1)) * 7919)), .int .i64 n7]) kr (spymake_Below.calls k (w64 ((w64 (s3.vat + 1)) * 7919)) n7 HS13 vt22 hc23) ?_)
   rintro _ W26 ⟨f24, rfl, L25, HS27⟩
   refine ⟨_, rfl, ?_⟩
   refine seqL1 kr ?_
   refine nl (hK21 _ _ ?_)
   refine wp_ret ?_
   refine hret _ _ ?_
   refine ends_still (v := Value.int .i64 vt22) kr kr ?_
   injection h with h
   injection h with h0_ h
   subst h0_ h
   exact ⟨f24, rfl, L25, HS27⟩
 · have c19 : ¬ ((s3.L.length : Int) = 0) := c19
   refine wpRwI 19 (x := ((s3.L.length : Int) == 0)) (v := false) kr (beq_eq_false_iff_ne.mpr c19) ?_
   refine condF kr ?_
   refine wp_skip ?_
   refine hK15 _ _ ?_
   refine wp_seq_k (fun K28 hK29 => ?_)
   refine heldG (S := Sg t f ([(b1, .cells #[.slice A4 s3.L.length c5, .int .i64 (w64 (s3.vat + 1))] 26 (0, 0))] :: H) []) (n := 12) kr rfl HS13 ?_
   intro W30 HS31
   refine takeGL [0, 1, 2] (n := 12) (fuel := 9) #[true, true, true, false, false, false, false, false, false, false, false, false] rfl kr kr kr hnp (Sg.g0 (Sx.of [] (FM.le.refl _) HS31)) ?_
   refine takeGQ 3 [] rfl kr kr kr kr kr kr hnp (Sg.g0 (Sx.of [] (FM.le.refl _) HS31)) (fun w_ hw_ => by obtain ⟨g_, hl_, hS_⟩ := hw_.st; exact run_load rfl Tryz.underlying3 rfl (kv (.pointer (some ⟨b1, 1, none⟩))) (hS_.cell 1)) ?_
   refine takeGL [4, 5, 6, 7] (n := 8) (fuel := 4) #[true, true, true, true, true, true, true, true, false, false, false, false] rfl kr kr kr hnp (Sg.g0 (Sx.of [] (FM.le.refl _) HS31)) ?_
   refine takeGQ 8 [] rfl kr kr kr kr kr kr hnp (Sg.g0 (Sx.of [] (FM.le.refl _) HS31)) (fun w_ hw_ => by obtain ⟨g_, hl_, hS_⟩ := hw_.st; exact run_load rfl Tryz.underlying22 rfl (kv (.pointer (some ⟨b1, 0, none⟩))) (hS_.cell 0)) ?_
   have hq_ := guard_some h; clear h; obtain ⟨c32, h⟩ := hq_
   have c32 : ¬ ((s3.L.length : Int) = 0) := c32
   refine takeGL [9] (n := 3) (fuel := 2) #[true, true, true, true, true, true, true, true, true, true, false, false] rfl kr kr kr hnp (Sg.g0 (Sx.of [] (FM.le.refl _) HS31)) ?_
   refine takeGQ 10 [] rfl kr kr kr kr kr kr hnp (Sg.g0 (Sx.of [] (FM.le.refl _) HS31)) (fun w_ hw_ => by obtain ⟨g_, hl_, hS_⟩ := hw_.st; exact run_rem rfl (kv (.int .i64 (w64 ((w64 (s3.vat + 1)) - 1)))) (kv (.int .i64 (s3.L.length : Int))) c32 w_) ?_
   refine takeGL [11] (n := 1) (fuel := 0) #[true, true, true, true, true, true, true, true, true, true, true, true] rfl kr kr kr hnp (Sg.g0 (Sx.of [] (FM.le.refl _) HS31)) ?_
   refine doneG kr ?_ _
   refine hK29 _ _ ?_
   refine wp_seq_k (fun K33 hK34 => ?_)
   refine heldG (S := Sg t f ([(b1, .cells #[.slice A4 s3.L.length c5, .int .i64 (w64 (s3.vat + 1))] 26 (0, 0))] :: H) []) (n := 12) kr rfl HS31 ?_
   intro W35 HS36
   refine takeGL [0, 1, 2] (n := 12) (fuel := 9) #[true, true, true, false, false, false, false, false, false, false, false, false] rfl kr kr kr hnp (Sg.g0 (Sx.of [] (FM.le.refl _) HS36)) ?_
   refine takeGQ 3 [] rfl kr kr kr kr kr kr hnp (Sg.g0 (Sx.of [] (FM.le.refl _) HS36)) (fun w_ hw_ => by obtain ⟨g_, hl_, hS_⟩ := hw_.st; exact run_load rfl Tryz.underlying3 rfl (kv (.pointer (some ⟨b1, 1, none⟩))) (hS_.cell 1)) ?_
   refine takeGL [4, 5, 6, 7] (n := 8) (fuel := 4) #[true, true, true, true, true, true, true, true, false, false, false, false] rfl kr kr kr hnp (Sg.g0 (Sx.of [] (FM.le.refl _) HS36)) ?_
   refine takeGQ 8 [] rfl kr kr kr kr kr kr hnp (Sg.g0 (Sx.of [] (FM.le.refl _) HS36)) (fun w_ hw_ => by obtain ⟨g_, hl_, hS_⟩ := hw_.st; exact run_load rfl Tryz.underlying22 rfl (kv (.pointer (some ⟨b1, 0, none⟩))) (hS_.cell 0)) ?_
   refine takeGL [9] (n := 3) (fuel := 2) #[true, true, true, true, true, true, true, true, true, true, false, false] rfl kr kr kr hnp (Sg.g0 (Sx.of [] (FM.le.refl _) HS36)) ?_
   refine takeGQ 10 [] rfl kr kr kr kr kr kr hnp (Sg.g0 (Sx.of [] (FM.le.refl _) HS36)) (fun w_ hw_ => by obtain ⟨g_, hl_, hS_⟩ := hw_.st; exact run_div rfl (kv (.int .i64 (w64 ((w64 (s3.vat + 1)) - 1)))) (kv (.int .i64 (s3.L.length : Int))) c32 w_) ?_
   refine takeGL [11] (n := 1) (fuel := 0) #[true, true, true, true, true, true, true, true, true, true, true, true] rfl kr kr kr hnp (Sg.g0 (Sx.of [] (FM.le.refl _) HS36)) ?_
   refine doneG kr ?_ _
   refine hK34 _ _ ?_
   refine wp_seq_k fun K37 hK38 => rl ?_
   refine seqL3 kr ?_
   refine seqK rfl (does_run (run_load rfl Tryz.underlying22 rfl (kv (.pointer (some ⟨b1, 0, none⟩))) (HS36.cell 0)) ?_)
   have hq_ := guard_some h; clear h; obtain ⟨c39, h⟩ := hq_
   have c39 : 0 ≤ (Int.tmod (w64 ((w64 (s3.vat + 1)) - 1)) (s3.L.length : Int)) := c39
   have hq_ := guard_some h; clear h; obtain ⟨c40, h⟩ := hq_
   have c40 : (Int.tmod (w64 ((w64 (s3.vat + 1)) - 1)) (s3.L.length : Int)) < (s3.L.length : Int) := c40
   obtain ⟨b44, of45, cs41, hA46, hr42, hc43⟩ := HR6.at (i := Int.tmod (w64 ((w64 (s3.vat + 1)) - 1)) (s3.L.length : Int)) c39 c40
   obtain rfl := hr42
   refine seqL1 kr ?_
   refine seqK rfl (does_run (run_indexE hA46 (sz := 1) rfl Tryz.underlying22 kr (kv (.slice A4 s3.L.length c5)) (kv (.int .i64 (Int.tmod (w64 ((w64 (s3.vat + 1)) - 1)) (s3.L.length : Int)))) c39 c40 W35) ?_)
   refine seqK rfl (does_run (run_load rfl Tryz.underlying3 rfl (kv (.pointer (some ⟨b44, of45 + (Int.tmod (w64 ((w64 (s3.vat + 1)) - 1)) (s3.L.length : Int) : Int).toNat * 1, none⟩))) ((hc43 (FM.le.refl _) HS36) 0 (by decide))) ?_)
   have hq_ := bind_some h; clear h; obtain ⟨vt47, hc48, h⟩ := hq_
   refine seqK rfl (does_call (f := 27) (args := #[.int .i64 (rd s3.L (Int.tmod (w64 ((w64 (s3.vat + 1)) - 1)) (s3.L.length : Int))), .int .i64 1073741824]) kr (spymake_Below.calls k (rd s3.L (Int.tmod (w64 ((w64 (s3.vat + 1)) - 1)) (s3.L.length : Int))) 1073741824 HS36 vt47 hc48) ?_)
   rintro _ W51 ⟨f49, rfl, L50, HS52⟩
   refine ⟨_, rfl, ?_⟩
   have hq_ := bind_some h; clear h; obtain ⟨vt53, hc54, h⟩ := hq_
   refine seqL6 kr ?_
   refine seqK rfl (does_call (f := 27) (args := #[.int .i64 (w64 (vt47 + (w64 ((w64 (Int.tdiv (w64 ((w64 (s3.vat + 1)) - 1)) (s3.L.length : Int))) * (w64 (7919 + (Int.tmod (w64 ((w64 (s3.vat + 1)) - 1)) (s3.L.length : Int)))))))), .int .i64 n7]) kr (spymake_Below.calls k (w64 (vt47 + (w64 ((w64 (Int.tdiv (w64 ((w64 (s3.vat + 1)) - 1)) (s3.L.length : Int))) * (w64 (7919 + (Int.tmod (w64 ((w64 (s3.vat + 1)) - 1)) (s3.L.length : Int)))))))) n7 HS52 vt53 hc54) ?_)
   rintro _ W57 ⟨f55, rfl, L56, HS58⟩
   refine ⟨_, rfl, ?_⟩
   refine seqL1 kr ?_
   refine nl (hK38 _ _ ?_)
   refine wp_ret ?_
   refine hret _ _ ?_
   refine ends_still (v := Value.int .i64 vt53) kr kr ?_
   injection h with h
   injection h with h0_ h
   subst h0_ h
   exact ⟨f55, rfl, (L50.trans L56), HS58⟩

set_option maxRecDepth 100000 in
set_option maxHeartbeats 4000000 in
theorem spymake_Stream_Range.calls (k : Nat) (b1 : Nat) (A4 : Option Addr) (c5 : Nat) (s3 : S_Stream) (low7 : Int) (high8 : Int) {t w : World} {f : FM} {H : List Seg} (HS : St t w f ([(b1, .cells #[.slice A4 s3.L.length c5, .int .i64 s3.vat] 26 (0, 0))] :: H)) (HR6 : SlR (tInt .i64) f A4 c5 s3.L) (rr1 : Int) (rr2 : Int) (h : spymake_Stream_Range k s3 low7 high8 = some (rr1, rr2)) :
    Calls Tryz.prog 14 #[.pointer (some ⟨b1, 0, none⟩), .int .i64 low7, .int .i64 high8] w (fun e w' => ∃ (g : FM), e = .returned (Value.int .i64 rr1) ∧ FM.le f g ∧ St t w' g ([(b1, .cells #[.slice A4 s3.L.length c5, .int .i64 rr2] 26 (0, 0))] :: H)) := by
 unfold spymake_Stream_Range at h
 refine enter Tryz.func14 rfl (tm := #[pV b1 0, iV low7, iV high8, uV, uV, uV, uV, uV, uV, uV, uV, uV, uV, uV, uV, uV, uV, uV, uV]) kr ?_
 intro B hret hnor hnp
 refine wp_seq_k fun K9 hK10 => rl ?_
 refine seqL1 kr ?_
 refine nl (hK10 _ _ ?_)
 refine wp_seq_k (fun K11 hK12 => ?_)
 refine wp_seq_k fun K13 hK14 => rl ?_
 refine seqL3 kr ?_
 refine nl (hK14 _ _ ?_)
 have hq_ := ite_some h; clear h; rcases hq_ with ⟨c16, h⟩ | ⟨c16, h⟩
 · have c16 : high8 < low7 := c16
   refine wpRwI 9 (x := (decide (high8 < low7))) (v := true) kr (decide_eq_true c16) ?_
   refine condT kr ?_
   refine wp_seq_k fun K17 hK18 => rl ?_
   refine seqL2 kr ?_
   refine nl (hK18 _ _ ?_)
   refine wp_ret ?_
   refine hret _ _ ?_
   refine ends_still (v := Value.int .i64 low7) kr kr ?_
   injection h with h
   injection h with h0_ h
   subst h0_ h
   exact ⟨f, rfl, FM.le.refl _, HS⟩
 · have c16 : ¬ (high8 < low7) := c16
   refine wpRwI 9 (x := (decide (high8 < low7))) (v := false) kr (decide_eq_false c16) ?_
   refine condF kr ?_
   refine wp_skip ?_
   refine hK12 _ _ ?_
   refine wp_seq_k fun K19 hK20 => rl ?_
   have hq_ := bind_some h; clear h; obtain ⟨⟨vt21, vt22⟩, hc23, h⟩ := hq_
   refine seqL6 kr ?_
   refine seqK rfl (does_call (f := 10) (args := #[.pointer (some ⟨b1, 0, none⟩), .int .i64 (w64 ((w64 (high8 - low7)) + 1))]) kr (spymake_Stream_Next.calls k b1 A4 c5 s3 (w64 ((w64 (high8 - low7)) + 1)) HS HR6 vt21 vt22 hc23) ?_)
   rintro _ W26 ⟨f24, rfl, L25, HS27⟩
   refine ⟨_, rfl, ?_⟩
   refine seqL2 kr ?_
   refine nl (hK20 _ _ ?_)
   refine wp_ret ?_
   refine hret _ _ ?_
   refine ends_still (v := Value.int .i64 (w64 (low7 + vt21))) kr kr ?_
   injection h with h
   injection h with h0_ h
   subst h0_ h
   exact ⟨f24, rfl, L25, HS27⟩

set_option maxRecDepth 100000 in
set_option maxHeartbeats 4000000 in
theorem spymake_Stream_Sensor.calls (k : Nat) (b1 : Nat) (A4 : Option Addr) (c5 : Nat) (s3 : S_Stream) (most7 : Int) {t w : World} {f : FM} {H : List Seg} (HS : St t w f ([(b1, .cells #[.slice A4 s3.L.length c5, .int .i64 s3.vat] 26 (0, 0))] :: H)) (HR6 : SlR (tInt .i64) f A4 c5 s3.L) (rr1 : S_Sensor) (rr2 : Int) (h : spymake_Stream_Sensor k s3 most7 = some (rr1, rr2)) :
    Calls Tryz.prog 4 #[.pointer (some ⟨b1, 0, none⟩), .int .i64 most7] w (fun e w' => ∃ (g : FM) (A578 : Option Addr) (c579 : Nat) (s580 : Seg) (A581 : Option Addr) (c582 : Nat) (s583 : Seg) (A584 : Option Addr) (c585 : Nat) (s586 : Seg), e = .returned (Value.agg #[.int .i64 rr1.W, .int .i64 rr1.H, .slice A578 rr1.Bias.length c579, .slice A581 rr1.Dark.length c582, .slice A584 rr1.Flat.length c585, .int .i64 rr1.Full, .int .i64 rr1.Gain, .int .i64 rr1.Noise]) ∧ FM.le f g ∧ St t w' g (s580 :: s583 :: s586 :: [(b1, .cells #[.slice A4 s3.L.length c5, .int .i64 rr2] 26 (0, 0))] :: H) ∧ Own (tInt .i64) 3 g A578 c579 s580 rr1.Bias ∧ Own (tInt .i64) 60 g A581 c582 s583 rr1.Dark ∧ Own (tInt .i64) 3 g A584 c585 s586 rr1.Flat) := by
 unfold spymake_Stream_Sensor at h
 refine enter Tryz.func4 rfl (tm := #[pV b1 0, iV most7, uV, uV, uV, uV, uV, uV, uV, uV, uV, uV, uV, uV, uV, uV, uV, uV, uV, uV, uV, uV, uV, uV, uV, uV, uV, uV, uV, uV, uV, uV, uV, uV, uV, uV, uV, uV, uV, uV, uV, uV, uV, uV, uV, uV, uV, uV, uV, uV, uV, uV, uV, uV, uV, uV, uV, uV, uV, uV, uV, uV, uV, uV, uV, uV, uV, uV, uV, uV, uV, uV, uV, uV, uV, uV, uV, uV, uV, uV]) kr ?_
 intro B hret hnor hnp
 refine wp_seq_k fun K8 hK9 => rl ?_
 refine seqK rfl (does_alloc (z := Value.agg #[.int .i64 0, .int .i64 0, .slice none 0 0, .slice none 0 0, .slice none 0 0, .int .i64 0, .int .i64 0, .int .i64 0]) (cs := #[.int .i64 0, .int .i64 0, .slice none 0 0, .slice none 0 0, .slice none 0 0, .int .i64 0, .int .i64 0, .int .i64 0]) rfl kr rfl HS ?_)
 intro b10 W11 HS12
 refine nl (hK9 _ _ ?_)
 refine wp_seq_k fun K14 hK15 => rl ?_
 have HS16 := HS12.u1
 have hq_ := bind_some h; clear h; obtain ⟨⟨vt17, vt18⟩, hc19, h⟩ := hq_
 refine seqL2 kr ?_
 refine seqK rfl (does_call (f := 14) (args := #[.pointer (some ⟨b1, 0, none⟩), .int .i64 1, .int .i64 most7]) kr (spymake_Stream_Range.calls k b1 A4 c5 s3 1 most7 HS16 HR6 vt17 vt18 hc19) ?_)
 rintro _ W22 ⟨f20, rfl, L21, HS23⟩
 refine ⟨_, rfl, ?_⟩
 have hq_ := bind_some h; clear h; obtain ⟨⟨vt24, vt25⟩, hc26, h⟩ := hq_
 refine seqL2 kr ?_
 refine seqK rfl (does_call (f := 14) (args := #[.pointer (some ⟨b1, 0, none⟩), .int .i64 1, .int .i64 most7]) kr (spymake_Stream_Range.calls k b1 A4 c5 (⟨s3.L, vt18⟩ : S_Stream) 1 most7 HS23 (HR6.mono L21) vt24 vt25 hc26) ?_)
 rintro _ W29 ⟨f27, rfl, L28, HS30⟩
 refine ⟨_, rfl, ?_⟩
 have hq_ := bind_some h; clear h; obtain ⟨⟨vt31, vt32⟩, hc33, h⟩ := hq_
 refine seqL1 kr ?_
 refine seqK rfl (does_call (f := 14) (args := #[.pointer (some ⟨b1, 0, none⟩), .int .i64 20000, .int .i64 1048576]) kr (spymake_Stream_Range.calls k b1 A4 c5 (⟨s3.L, vt25⟩ : S_Stream) 20000 1048576 HS30 (HR6.mono (L21.trans L28)) vt31 vt32 hc33) ?_)
 rintro _ W36 ⟨f34, rfl, L35, HS37⟩
 refine ⟨_, rfl, ?_⟩
 have hq_ := bind_some h; clear h; obtain ⟨⟨vt38, vt39⟩, hc40, h⟩ := hq_
 refine seqL1 kr ?_
 refine seqK rfl (does_call (f := 14) (args := #[.pointer (some ⟨b1, 0, none⟩), .int .i64 1, .int .i64 4]) kr (spymake_Stream_Range.calls k b1 A4 c5 (⟨s3.L, vt32⟩ : S_Stream) 1 4 HS37 (HR6.mono (L21.trans (L28.trans L35))) vt38 vt39 hc40) ?_)
 rintro _ W43 ⟨f41, rfl, L42, HS44⟩
 refine ⟨_, rfl, ?_⟩
 have hq_ := bind_some h; clear h; obtain ⟨⟨vt45, vt46⟩, hc47, h⟩ := hq_
 refine seqL1 kr ?_
 refine seqK rfl (does_call (f := 10) (args := #[.pointer (some ⟨b1, 0, none⟩), .int .i64 4]) kr (spymake_Stream_Next.calls k b1 A4 c5 (⟨s3.L, vt39⟩ : S_Stream) 4 HS44 (HR6.mono (L21.trans (L28.trans (L35.trans L42)))) vt45 vt46 hc47) ?_)
 rintro _ W50 ⟨f48, rfl, L49, HS51⟩
 refine ⟨_, rfl, ?_⟩
 refine seqL1 kr ?_
 refine seqK rfl (does_alloc (z := Value.agg #[.int .i64 0, .int .i64 0, .slice none 0 0, .slice none 0 0, .slice none 0 0, .int .i64 0, .int .i64 0, .int .i64 0]) (cs := #[.int .i64 0, .int .i64 0, .slice none 0 0, .slice none 0 0, .slice none 0 0, .int .i64 0, .int .i64 0, .int .i64 0]) rfl kr rfl HS51 ?_)
 intro b52 W53 HS54
 refine seqK rfl (does_store (n := 8) (vs := [.int .i64 vt17, .int .i64 vt24, .slice none 0 0, .slice none 0 0, .slice none 0 0, .int .i64 vt31, .int .i64 vt38, .int .i64 vt45]) (cs' := #[.int .i64 vt17, .int .i64 vt24, .slice none 0 0, .slice none 0 0, .slice none 0 0, .int .i64 vt31, .int .i64 vt38, .int .i64 vt45]) rfl kr (kv (.pointer (some ⟨b52, 0, none⟩))) (kv (.agg #[.int .i64 vt17, .int .i64 vt24, .slice none 0 0, .slice none 0 0, .slice none 0 0, .int .i64 vt31, .int .i64 vt38, .int .i64 vt45])) rfl rfl (by intro u_ hu_; simp only [List.mem_cons, List.not_mem_nil, or_false] at hu_; rcases hu_ with rfl | rfl | rfl | rfl | rfl | rfl | rfl | rfl <;> rfl) HS54 (Nat.le_of_ble_eq_true rfl) kr ?_)
 intro W56 HS57
 refine nl (hK15 _ _ ?_)
 refine wp_seq_k (fun K58 hK59 => ?_)
 refine wp_seq_k fun K60 hK61 => rl ?_
 have HS62 := HS57.u1
 have hq_ := bind_some h; clear h; obtain ⟨⟨vt63, vt64⟩, hc65, h⟩ := hq_
 refine seqL1 kr ?_
 refine seqK rfl (does_call (f := 10) (args := #[.pointer (some ⟨b1, 0, none⟩), .int .i64 6]) kr (spymake_Stream_Next.calls k b1 A4 c5 (⟨s3.L, vt46⟩ : S_Stream) 6 HS62 (HR6.mono (L21.trans (L28.trans (L35.trans (L42.trans L49))))) vt63 vt64 hc65) ?_)
 rintro _ W68 ⟨f66, rfl, L67, HS69⟩
 refine ⟨_, rfl, ?_⟩
 refine nl (hK61 _ _ ?_)
 refine blockK (fun B70 hx71 hn72 hr73 ho74 hp75 => ?_)
 refine wp_seq_k fun K77 hK78 => rl ?_
 refine seqL2 kr ?_
 refine nl (hK78 _ _ ?_)
 have hq_ := bind_some h; clear h; obtain ⟨v79, hv137, h⟩ := hq_
 have J138 : ∀ (f128 : FM) (x133 : Int) (x134 : Int) (x135 : Int) (x136 : Int) (j132 : Nat → Value) (W130 : World) (a_ : Act), FM.le f66 f128 → some ((x133, x134, x135, x136)) = some v79 → St t W130 f128 ([(b1, .cells #[.slice A4 s3.L.length c5, .int .i64 x133] 26 (0, 0))] :: [(b52, .cells #[.int .i64 vt17, .int .i64 vt24, .slice none 0 0, .slice none 0 0, .slice none 0 0, .int .i64 x134, .int .i64 x135, .int .i64 x136] 30 (0, 0))] :: [(b10, .cells #[.int .i64 0, .int .i64 0, .slice none 0 0, .slice none 0 0, .slice none 0 0, .int .i64 0, .int .i64 0, .int .i64 0] 30 (0, 0))] :: H) → a_ = ⟨#[pV b1 0, iV most7, uV, uV, pV b10 0, pV b52 0, uV, uV, pV b1 0, iV most7, iV vt17, pV b1 0, iV most7, iV vt24, pV b1 0, iV vt31, pV b1 0, iV vt38, pV b1 0, iV vt45, .agg #[iV vt17, iV vt24, .slice none 0 0, .slice none 0 0, .slice none 0 0, iV vt31, iV vt38, iV vt45], pV b1 0, iV vt63, .bool (vt63 == 0), .bool (vt63 == 0), (j132 0), (j132 1), (j132 2), (j132 3), (j132 4), (j132 5), (j132 6), (j132 7), (j132 8), (j132 9), (j132 10), uV, uV, uV, uV, uV, uV, uV, uV, uV, uV, uV, uV, uV, uV, uV, uV, uV, uV, uV, uV, uV, uV, uV, uV, uV, uV, uV, uV, uV, uV, uV, uV, uV, uV, uV, uV, uV, uV, uV, uV, uV, uV, uV, uV], []⟩ → B70 Exit.normal a_ W130 := by
  intro f128 x133 x134 x135 x136 j132 W130 a_ L129 hj139 HS131  hfr_; subst hfr_
  injection hj139 with hj139; subst hj139; try dsimp only at h
  refine hn72 _ _ ?_
  refine hK59 _ _ ?_
  refine wp_seq_k fun K143 hK144 => rl ?_
  have hq_ := bind_some h; clear h; obtain ⟨⟨vt145, vt146⟩, hc147, h⟩ := hq_
  refine seqL1 kr ?_
  refine seqK rfl (does_call (f := 10) (args := #[.pointer (some ⟨b1, 0, none⟩), .int .i64 3]) kr (spymake_Stream_Next.calls k b1 A4 c5 (⟨s3.L, x133⟩ : S_Stream) 3 HS131 (HR6.mono (L21.trans (L28.trans (L35.trans (L42.trans (L49.trans (L67.trans L129))))))) vt145 vt146 hc147) ?_)
  rintro _ W150 ⟨f148, rfl, L149, HS151⟩
  refine ⟨_, rfl, ?_⟩
  refine seqL1 kr ?_
  refine nl (hK144 _ _ ?_)
  refine wp_seq_k (fun K152 hK153 => ?_)
  refine wp_seq_k fun K154 hK155 => rl ?_
  refine seqL1 kr ?_
  refine seqK rfl (does_run (run_load rfl Tryz.underlying3 rfl (kv (.pointer (some ⟨b52, 0, none⟩))) (HS151.u1.cell 0)) ?_)
  refine seqL1 kr ?_
  refine seqK rfl (does_run (run_load rfl Tryz.underlying3 rfl (kv (.pointer (some ⟨b52, 1, none⟩))) (HS151.u1.cell 1)) ?_)
  refine seqL2 kr ?_
  refine nl (hK155 _ _ ?_)
  refine blockK (fun B156 hx157 hn158 hr159 ho160 hp161 => ?_)
  have hq_ := bind_some h; clear h; obtain ⟨o331, hv544, h⟩ := hq_
  have J545 : ∀ (f520 : FM) (A527 : Option Addr) (c528 : Nat) (s529 : Seg) (A533 : Option Addr) (c534 : Nat) (s535 : Seg) (A539 : Option Addr) (c540 : Nat) (s541 : Seg) (x525 : Int) (x526 : List Int) (x532 : List Int) (x538 : List Int) (j524 : Nat → Value) (W522 : World) (a_ : Act), FM.le f148 f520 → some ((x525, x526, x532, x538)) = some o331 → St t W522 f520 (s541 :: s535 :: s529 :: [(b1, .cells #[.slice A4 s3.L.length c5, .int .i64 x525] 26 (0, 0))] :: [(b52, .cells #[.int .i64 vt17, .int .i64 vt24, .slice A527 x526.length c528, .slice A533 x532.length c534, .slice A539 x538.length c540, .int .i64 x134, .int .i64 x135, .int .i64 x136] 30 (0, 0))] :: [(b10, .cells #[.int .i64 0, .int .i64 0, .slice none 0 0, .slice none 0 0, .slice none 0 0, .int .i64 0, .int .i64 0, .int .i64 0] 30 (0, 0))] :: H) → Own (tInt .i64) 3 f520 A527 c528 s529 x526 → Own (tInt .i64) 60 f520 A533 c534 s535 x532 → Own (tInt .i64) 3 f520 A539 c540 s541 x538 → a_ = ⟨#[pV b1 0, iV most7, uV, uV, pV b10 0, pV b52 0, iV vt145, (j524 0), pV b1 0, iV most7, iV vt17, pV b1 0, iV most7, iV vt24, pV b1 0, iV vt31, pV b1 0, iV vt38, pV b1 0, iV vt45, .agg #[iV vt17, iV vt24, .slice none 0 0, .slice none 0 0, .slice none 0 0, iV vt31, iV vt38, iV vt45], pV b1 0, iV vt63, .bool (vt63 == 0), .bool (vt63 == 0), (j132 0), (j132 1), (j132 2), (j132 3), (j132 4), (j132 5), (j132 6), (j132 7), (j132 8), (j132 9), (j132 10), pV b1 0, iV vt145, pV b52 0, iV vt17, pV b52 1, iV vt24, iV (w64 (vt17 * vt24)), (j524 1), (j524 2), (j524 3), (j524 4), (j524 5), (j524 6), (j524 7), (j524 8), (j524 9), (j524 10), (j524 11), (j524 12), (j524 13), (j524 14), (j524 15), (j524 16), (j524 17), (j524 18), (j524 19), (j524 20), (j524 21), (j524 22), (j524 23), (j524 24), (j524 25), (j524 26), (j524 27), (j524 28), (j524 29), (j524 30), (j524 31), (j524 32), (j524 33), (j524 34), (j524 35), (j524 36), uV], []⟩ → K152 a_ W522 := by
   intro f520 A527 c528 s529 A533 c534 s535 A539 c540 s541 x525 x526 x532 x538 j524 W522 a_ L521 hj546 HS523 HO530 HO536 HO542 hfr_; subst hfr_
   injection hj546 with hj546; subst hj546; try dsimp only at h
   refine hK153 _ _ ?_
   refine wp_seq_k fun K565 hK566 => rl ?_
   refine seqK rfl (does_run (run_loadN (n := 8) rfl Tryz.underlying30 rfl kr (kv (.pointer (some ⟨b52, 0, none⟩))) (cs := [.int .i64 vt17, .int .i64 vt24, .slice A527 x526.length c528, .slice A533 x532.length c534, .slice A539 x538.length c540, .int .i64 x134, .int .i64 x135, .int .i64 x136]) rfl (HS523.u4.cells 0 8 _ rfl)) ?_)
   have HS567 := HS523.u5
   refine seqK rfl (does_store (n := 8) (vs := [.int .i64 vt17, .int .i64 vt24, .slice A527 x526.length c528, .slice A533 x532.length c534, .slice A539 x538.length c540, .int .i64 x134, .int .i64 x135, .int .i64 x136]) (cs' := #[.int .i64 vt17, .int .i64 vt24, .slice A527 x526.length c528, .slice A533 x532.length c534, .slice A539 x538.length c540, .int .i64 x134, .int .i64 x135, .int .i64 x136]) rfl kr (kv (.pointer (some ⟨b10, 0, none⟩))) (kv (.agg #[.int .i64 vt17, .int .i64 vt24, .slice A527 x526.length c528, .slice A533 x532.length c534, .slice A539 x538.length c540, .int .i64 x134, .int .i64 x135, .int .i64 x136])) rfl rfl (by intro u_ hu_; simp only [List.mem_cons, List.not_mem_nil, or_false] at hu_; rcases hu_ with rfl | rfl | rfl | rfl | rfl | rfl | rfl | rfl <;> rfl) HS567 (Nat.le_of_ble_eq_true rfl) kr ?_)
   intro W568 HS569
   refine nl (hK566 _ _ ?_)
   refine wp_ret ?_
   refine hret _ _ ?_
   refine ends (v := Value.agg #[.int .i64 vt17, .int .i64 vt24, .slice A527 x526.length c528, .slice A533 x532.length c534, .slice A539 x538.length c540, .int .i64 x134, .int .i64 x135, .int .i64 x136]) (results1 (q1 := .cell 4 30) kr (resN (n := 8) (cs := [.int .i64 vt17, .int .i64 vt24, .slice A527 x526.length c528, .slice A533 x532.length c534, .slice A539 x538.length c540, .int .i64 x134, .int .i64 x135, .int .i64 x136]) (kv (.pointer (some ⟨b10, 0, none⟩))) Tryz.underlying30 rfl kr rfl (HS569.cells 0 8 _ rfl))) kr ?_
   have HS570 := HS569.u4
   have HS571 := HS570.u2
   have HS572 := HS571.u3
   have HS573 := HS572.u4
   have HS574 := HS573.u5
   have HS575 := HS574.u5
   have HS576 := HS575.drop
   have HS577 := HS576.drop
   injection h with h
   injection h with h0_ h
   subst h0_ h
   exact ⟨f520, A527, c528, s529, A533, c534, s535, A539, c540, s541, rfl, (L21.trans (L28.trans (L35.trans (L42.trans (L49.trans (L67.trans (L129.trans (L149.trans L521)))))))), HS577, HO530, HO536, HO542⟩
  clear h; have h := hv544; clear hv544
  have HS547 := HS151.cons_nil
  have HS549 := HS547.cons_nil
  have HS551 := HS549.cons_nil
  refine loopK (fun n_ a_ w_ => ∃ (f335 : FM) (A343 : Option Addr) (c344 : Nat) (s345 : Seg) (A349 : Option Addr) (c350 : Nat) (s351 : Seg) (A355 : Option Addr) (c356 : Nat) (s357 : Seg) (x340 : Int) (x341 : Int) (x342 : List Int) (x348 : List Int) (x354 : List Int) (j339 : Nat → Value), FM.le f148 f335 ∧ St t w_ f335 (s357 :: s351 :: s345 :: [(b1, .cells #[.slice A4 s3.L.length c5, .int .i64 x341] 26 (0, 0))] :: [(b52, .cells #[.int .i64 vt17, .int .i64 vt24, .slice A343 x342.length c344, .slice A349 x348.length c350, .slice A355 x354.length c356, .int .i64 x134, .int .i64 x135, .int .i64 x136] 30 (0, 0))] :: [(b10, .cells #[.int .i64 0, .int .i64 0, .slice none 0 0, .slice none 0 0, .slice none 0 0, .int .i64 0, .int .i64 0, .int .i64 0] 30 (0, 0))] :: H) ∧ Own (tInt .i64) 3 f335 A343 c344 s345 x342 ∧ Own (tInt .i64) 60 f335 A349 c350 s351 x348 ∧ Own (tInt .i64) 3 f335 A355 c356 s357 x354 ∧ spymake_Stream_Sensor.l0 k vt17 vt24 s3 vt145 n_ x340 x341 x342 x348 x354 = some o331 ∧ a_ = ⟨#[pV b1 0, iV most7, uV, uV, pV b10 0, pV b52 0, iV vt145, (j339 0), pV b1 0, iV most7, iV vt17, pV b1 0, iV most7, iV vt24, pV b1 0, iV vt31, pV b1 0, iV vt38, pV b1 0, iV vt45, .agg #[iV vt17, iV vt24, .slice none 0 0, .slice none 0 0, .slice none 0 0, iV vt31, iV vt38, iV vt45], pV b1 0, iV vt63, .bool (vt63 == 0), .bool (vt63 == 0), (j132 0), (j132 1), (j132 2), (j132 3), (j132 4), (j132 5), (j132 6), (j132 7), (j132 8), (j132 9), (j132 10), pV b1 0, iV vt145, pV b52 0, iV vt17, pV b52 1, iV vt24, iV (w64 (vt17 * vt24)), iV x340, (j339 1), (j339 2), (j339 3), (j339 4), (j339 5), (j339 6), (j339 7), (j339 8), (j339 9), (j339 10), (j339 11), (j339 12), (j339 13), (j339 14), (j339 15), (j339 16), (j339 17), (j339 18), (j339 19), (j339 20), (j339 21), (j339 22), (j339 23), (j339 24), (j339 25), (j339 26), (j339 27), (j339 28), (j339 29), (j339 30), (j339 31), (j339 32), (j339 33), (j339 34), (j339 35), uV], []⟩) k ⟨f148, none, 0, [], none, 0, [], none, 0, [], 0, vt146, ([] : List Int), ([] : List Int), ([] : List Int), (fun i_ => [undef, undef, undef, undef, undef, undef, undef, undef, undef, undef, undef, undef, undef, undef, undef, undef, undef, undef, undef, undef, undef, undef, undef, undef, undef, undef, undef, undef, undef, undef, undef, undef, undef, undef, undef, undef].getD i_ undef), (FM.le.refl _), HS551, (Own.nil _), (Own.nil _), (Own.nil _), h, kr⟩ ?_
  clear h
  rintro n334 _ W337 ⟨f335, A343, c344, s345, A349, c350, s351, A355, c356, s357, x340, x341, x342, x348, x354, j339, L336, HS338, HO346, HO352, HO358, h, rfl⟩ K332 hK333
  obtain _ | n334 := n334
  · exact nomatch h
  simp only [spymake_Stream_Sensor.l0] at h
  refine wp_seq_k fun K360 hK361 => rl ?_
  refine seqL1 kr ?_
  refine nl (hK361 _ _ ?_)
  refine wp_seq_k (fun K362 hK363 => ?_)
  have hq_ := ite_some h; clear h; rcases hq_ with ⟨c365, h⟩ | ⟨c365, h⟩
  · have c365 : x340 < (w64 (vt17 * vt24)) := c365
    refine wpRwI 44 (x := (decide (x340 < (w64 (vt17 * vt24))))) (v := true) kr (decide_eq_true c365) ?_
    refine condT kr ?_
    refine wp_skip ?_
    refine hK363 _ _ ?_
    refine wp_seq_k (fun K366 hK367 => ?_)
    refine blockK (fun B368 hx369 hn370 hr371 ho372 hp373 => ?_)
    refine wp_seq_k (fun K375 hK376 => ?_)
    have HS377 := HS338.u5
    have HS378 := HS377.u2
    have HS379 := HS378.u2
    have HS380 := HS379.u5
    have HS381 := HS380.u5
    have HS382 := HS381.u5
    refine heldG (S := Sg t f335 (s357 :: s351 :: [(b10, .cells #[.int .i64 0, .int .i64 0, .slice none 0 0, .slice none 0 0, .slice none 0 0, .int .i64 0, .int .i64 0, .int .i64 0] 30 (0, 0))] :: H) [(5, s345), (3, [(b1, .cells #[.slice A4 s3.L.length c5, .int .i64 x341] 26 (0, 0))]), (5, [(b52, .cells #[.int .i64 vt17, .int .i64 vt24, .slice A343 x342.length c344, .slice A349 x348.length c350, .slice A355 x354.length c356, .int .i64 x134, .int .i64 x135, .int .i64 x136] 30 (0, 0))])]) (n := 8) kr rfl HS382 ?_
    intro W383 HS384
    refine takeGL [0] (n := 8) (fuel := 7) #[true, false, false, false, false, false, false, false] rfl kr kr kr (fun ch_ a_ w_ q_ => (fun ch_ a_ w_ q_ => hnp ch_ a_ w_ (hp161 ch_ a_ w_ q_)) ch_ a_ w_ (hp373 ch_ a_ w_ q_)) (Sg.g3 (Sx.of [s345, [(b1, .cells #[.slice A4 s3.L.length c5, .int .i64 x341] 26 (0, 0))], [(b52, .cells #[.int .i64 vt17, .int .i64 vt24, .slice A343 x342.length c344, .slice A349 x348.length c350, .slice A355 x354.length c356, .int .i64 x134, .int .i64 x135, .int .i64 x136] 30 (0, 0))]] (FM.le.refl _) HS384) (fun _ => St.only [] HS384 (FM.le.refl _)) (fun _ => St.only [s345] HS384 (FM.le.refl _)) (fun _ => St.only [s345, [(b1, .cells #[.slice A4 s3.L.length c5, .int .i64 x341] 26 (0, 0))]] HS384 (FM.le.refl _))) ?_
    refine takeGQ 1 [5] rfl kr kr kr kr kr kr (fun ch_ a_ w_ q_ => (fun ch_ a_ w_ q_ => hnp ch_ a_ w_ (hp161 ch_ a_ w_ q_)) ch_ a_ w_ (hp373 ch_ a_ w_ q_)) (Sg.g3 (Sx.of [s345, [(b1, .cells #[.slice A4 s3.L.length c5, .int .i64 x341] 26 (0, 0))], [(b52, .cells #[.int .i64 vt17, .int .i64 vt24, .slice A343 x342.length c344, .slice A349 x348.length c350, .slice A355 x354.length c356, .int .i64 x134, .int .i64 x135, .int .i64 x136] 30 (0, 0))]] (FM.le.refl _) HS384) (fun _ => St.only [] HS384 (FM.le.refl _)) (fun _ => St.only [s345] HS384 (FM.le.refl _)) (fun _ => St.only [s345, [(b1, .cells #[.slice A4 s3.L.length c5, .int .i64 x341] 26 (0, 0))]] HS384 (FM.le.refl _))) (fun w_ hw_ => by obtain ⟨g_, hl_, hS_⟩ := hw_.seg (j := 5) (s := [(b52, .cells #[.int .i64 vt17, .int .i64 vt24, .slice A343 x342.length c344, .slice A349 x348.length c350, .slice A355 x354.length c356, .int .i64 x134, .int .i64 x135, .int .i64 x136] 30 (0, 0))]) (by simp) (by simp); exact run_load rfl Tryz.underlying22 rfl (kv (.pointer (some ⟨b52, 2, none⟩))) (hS_.cell 2)) ?_
    refine takeGL [2] (n := 6) (fuel := 5) #[true, true, true, false, false, false, false, false] rfl kr kr kr (fun ch_ a_ w_ q_ => (fun ch_ a_ w_ q_ => hnp ch_ a_ w_ (hp161 ch_ a_ w_ q_)) ch_ a_ w_ (hp373 ch_ a_ w_ q_)) (Sg.g3 (Sx.of [s345, [(b1, .cells #[.slice A4 s3.L.length c5, .int .i64 x341] 26 (0, 0))], [(b52, .cells #[.int .i64 vt17, .int .i64 vt24, .slice A343 x342.length c344, .slice A349 x348.length c350, .slice A355 x354.length c356, .int .i64 x134, .int .i64 x135, .int .i64 x136] 30 (0, 0))]] (FM.le.refl _) HS384) (fun _ => St.only [] HS384 (FM.le.refl _)) (fun _ => St.only [s345] HS384 (FM.le.refl _)) (fun _ => St.only [s345, [(b1, .cells #[.slice A4 s3.L.length c5, .int .i64 x341] 26 (0, 0))]] HS384 (FM.le.refl _))) ?_
    have HS385 := HS384.u1
    have hq_ := bind_some h; clear h; obtain ⟨⟨vt386, vt387⟩, hc388, h⟩ := hq_
    refine takeGE 3 kr rfl kr (does_call (f := 10) (args := #[.pointer (some ⟨b1, 0, none⟩), .int .i64 60]) kr (spymake_Stream_Next.calls k b1 A4 c5 (⟨s3.L, x341⟩ : S_Stream) 60 HS385 (HR6.mono (L21.trans (L28.trans (L35.trans (L42.trans (L49.trans (L67.trans (L129.trans (L149.trans L336))))))))) vt386 vt387 hc388) ?_)
    rintro _ W391 ⟨f389, rfl, L390, HS392⟩
    refine ⟨_, rfl, ?_⟩
    refine ⟨(Sg.g3 (Sx.of [[(b1, .cells #[.slice A4 s3.L.length c5, .int .i64 vt387] 26 (0, 0))], s345, [(b52, .cells #[.int .i64 vt17, .int .i64 vt24, .slice A343 x342.length c344, .slice A349 x348.length c350, .slice A355 x354.length c356, .int .i64 x134, .int .i64 x135, .int .i64 x136] 30 (0, 0))]] L390 HS392) (fun _ => St.only [[(b1, .cells #[.slice A4 s3.L.length c5, .int .i64 vt387] 26 (0, 0))]] HS392 L390) (fun hl_ => Bool.noConfusion (show true = false from hl_)) (fun _ => St.only [[(b1, .cells #[.slice A4 s3.L.length c5, .int .i64 vt387] 26 (0, 0))], s345] HS392 L390)), ?_⟩
    refine takeGE 4 kr rfl kr (does_lit (e := (tInt .i64)) (E := 3) (vs := #[(0, Value.int .i64 vt386)]) (cs := #[.int .i64 vt386]) (xs := ([vt386] : List Int)) rfl Tryz.underlying22 kr kr ⟨[.int .i64 vt386], _, rfl, rfl, rfl⟩ rfl HS392 ?_ (by decide))
    intro b393 W394 s395 HS396 _ HO397
    refine ⟨(Sg.g3 (Sx.of [s395, [(b1, .cells #[.slice A4 s3.L.length c5, .int .i64 vt387] 26 (0, 0))], s345, [(b52, .cells #[.int .i64 vt17, .int .i64 vt24, .slice A343 x342.length c344, .slice A349 x348.length c350, .slice A355 x354.length c356, .int .i64 x134, .int .i64 x135, .int .i64 x136] 30 (0, 0))]] L390 HS396) (fun _ => St.only [s395, [(b1, .cells #[.slice A4 s3.L.length c5, .int .i64 vt387] 26 (0, 0))]] HS396 L390) (fun hl_ => Bool.noConfusion (show true = false from hl_)) (fun _ => St.only [s395, [(b1, .cells #[.slice A4 s3.L.length c5, .int .i64 vt387] 26 (0, 0))], s345] HS396 L390)), ?_⟩
    have hq_ := guard_some h; clear h; obtain ⟨c399, h⟩ := hq_
    have c399 : (x342.length + 1) * 8 ≤ 140737488355328 := c399
    have HS400 := HS396.u2
    have HS401 := HS400.u1
    refine takeGE 5 kr rfl kr (does_append1 (e := (tInt .i64)) (E := 3) (xs := x342) (ys := ([vt386] : List Int)) rfl (kv (.slice A343 x342.length c344)) (kv (.slice (some ⟨b393, 0, none⟩) ([vt386] : List Int).length 1)) Tryz.underlying22 inf3 (HO346.mono L390) HO397 HS401 c399 (lim63 c399 (by decide)) ?_)
    intro A402 c403 s404 W405 HS406 HO407
    refine ⟨(Sg.g3 (Sx.of [s404, [(b1, .cells #[.slice A4 s3.L.length c5, .int .i64 vt387] 26 (0, 0))], [(b52, .cells #[.int .i64 vt17, .int .i64 vt24, .slice A343 x342.length c344, .slice A349 x348.length c350, .slice A355 x354.length c356, .int .i64 x134, .int .i64 x135, .int .i64 x136] 30 (0, 0))]] L390 HS406) (fun hl_ => Bool.noConfusion (show true = false from hl_)) (fun hl_ => Bool.noConfusion (show true = false from hl_)) (fun hl_ => Bool.noConfusion (show true = false from hl_))), ?_⟩
    refine takeGL [6] (n := 2) (fuel := 1) #[true, true, true, true, true, true, true, false] rfl kr kr kr (fun ch_ a_ w_ q_ => (fun ch_ a_ w_ q_ => hnp ch_ a_ w_ (hp161 ch_ a_ w_ q_)) ch_ a_ w_ (hp373 ch_ a_ w_ q_)) (Sg.g3 (Sx.of [s404, [(b1, .cells #[.slice A4 s3.L.length c5, .int .i64 vt387] 26 (0, 0))], [(b52, .cells #[.int .i64 vt17, .int .i64 vt24, .slice A343 x342.length c344, .slice A349 x348.length c350, .slice A355 x354.length c356, .int .i64 x134, .int .i64 x135, .int .i64 x136] 30 (0, 0))]] L390 HS406) (fun hl_ => Bool.noConfusion (show true = false from hl_)) (fun hl_ => Bool.noConfusion (show true = false from hl_)) (fun hl_ => Bool.noConfusion (show true = false from hl_))) ?_
    have HS408 := HS406.u2
    refine takeGE 7 kr rfl kr (does_store (n := 1) (vs := [.slice A402 (x342 ++ ([vt386] : List Int)).length c403]) (cs' := #[.int .i64 vt17, .int .i64 vt24, .slice A402 (x342 ++ ([vt386] : List Int)).length c403, .slice A349 x348.length c350, .slice A355 x354.length c356, .int .i64 x134, .int .i64 x135, .int .i64 x136]) rfl kr (kv (.pointer (some ⟨b52, 2, none⟩))) (kv (.slice A402 (x342 ++ ([vt386] : List Int)).length c403)) rfl rfl (by intro u_ hu_; simp only [List.mem_cons, List.not_mem_nil, or_false] at hu_; subst hu_; rfl) HS408 (Nat.le_of_ble_eq_true rfl) kr ?_)
    intro W409 HS410
    refine ⟨(Sg.g3 (Sx.of [[(b52, .cells #[.int .i64 vt17, .int .i64 vt24, .slice A402 (x342 ++ ([vt386] : List Int)).length c403, .slice A349 x348.length c350, .slice A355 x354.length c356, .int .i64 x134, .int .i64 x135, .int .i64 x136] 30 (0, 0))], s404, [(b1, .cells #[.slice A4 s3.L.length c5, .int .i64 vt387] 26 (0, 0))]] L390 HS410) (fun hl_ => Bool.noConfusion (show true = false from hl_)) (fun hl_ => Bool.noConfusion (show true = false from hl_)) (fun hl_ => Bool.noConfusion (show true = false from hl_))), ?_⟩
    refine doneG kr ?_ _
    refine hK376 _ _ ?_
    refine wp_seq_k (fun K411 hK412 => ?_)
    have HS413 := HS410.u5
    have HS414 := HS413.u4
    have HS415 := HS414.u3
    have HS416 := HS415.u5
    have HS417 := HS416.u5
    have HS418 := HS417.u5
    refine heldG (S := Sg t f389 (s404 :: s357 :: [(b10, .cells #[.int .i64 0, .int .i64 0, .slice none 0 0, .slice none 0 0, .slice none 0 0, .int .i64 0, .int .i64 0, .int .i64 0] 30 (0, 0))] :: H) [(8, [(b52, .cells #[.int .i64 vt17, .int .i64 vt24, .slice A402 (x342 ++ ([vt386] : List Int)).length c403, .slice A349 x348.length c350, .slice A355 x354.length c356, .int .i64 x134, .int .i64 x135, .int .i64 x136] 30 (0, 0))]), (6, [(b1, .cells #[.slice A4 s3.L.length c5, .int .i64 vt387] 26 (0, 0))]), (8, s351)]) (n := 11) kr rfl HS418 ?_
    intro W419 HS420
    refine takeGL [0] (n := 11) (fuel := 10) #[true, false, false, false, false, false, false, false, false, false, false] rfl kr kr kr (fun ch_ a_ w_ q_ => (fun ch_ a_ w_ q_ => hnp ch_ a_ w_ (hp161 ch_ a_ w_ q_)) ch_ a_ w_ (hp373 ch_ a_ w_ q_)) (Sg.g3 (Sx.of [[(b52, .cells #[.int .i64 vt17, .int .i64 vt24, .slice A402 (x342 ++ ([vt386] : List Int)).length c403, .slice A349 x348.length c350, .slice A355 x354.length c356, .int .i64 x134, .int .i64 x135, .int .i64 x136] 30 (0, 0))], [(b1, .cells #[.slice A4 s3.L.length c5, .int .i64 vt387] 26 (0, 0))], s351] (FM.le.refl _) HS420) (fun _ => St.only [] HS420 (FM.le.refl _)) (fun _ => St.only [[(b52, .cells #[.int .i64 vt17, .int .i64 vt24, .slice A402 (x342 ++ ([vt386] : List Int)).length c403, .slice A349 x348.length c350, .slice A355 x354.length c356, .int .i64 x134, .int .i64 x135, .int .i64 x136] 30 (0, 0))]] HS420 (FM.le.refl _)) (fun _ => St.only [[(b52, .cells #[.int .i64 vt17, .int .i64 vt24, .slice A402 (x342 ++ ([vt386] : List Int)).length c403, .slice A349 x348.length c350, .slice A355 x354.length c356, .int .i64 x134, .int .i64 x135, .int .i64 x136] 30 (0, 0))], [(b1, .cells #[.slice A4 s3.L.length c5, .int .i64 vt387] 26 (0, 0))]] HS420 (FM.le.refl _))) ?_
    refine takeGQ 1 [8] rfl kr kr kr kr kr kr (fun ch_ a_ w_ q_ => (fun ch_ a_ w_ q_ => hnp ch_ a_ w_ (hp161 ch_ a_ w_ q_)) ch_ a_ w_ (hp373 ch_ a_ w_ q_)) (Sg.g3 (Sx.of [[(b52, .cells #[.int .i64 vt17, .int .i64 vt24, .slice A402 (x342 ++ ([vt386] : List Int)).length c403, .slice A349 x348.length c350, .slice A355 x354.length c356, .int .i64 x134, .int .i64 x135, .int .i64 x136] 30 (0, 0))], [(b1, .cells #[.slice A4 s3.L.length c5, .int .i64 vt387] 26 (0, 0))], s351] (FM.le.refl _) HS420) (fun _ => St.only [] HS420 (FM.le.refl _)) (fun _ => St.only [[(b52, .cells #[.int .i64 vt17, .int .i64 vt24, .slice A402 (x342 ++ ([vt386] : List Int)).length c403, .slice A349 x348.length c350, .slice A355 x354.length c356, .int .i64 x134, .int .i64 x135, .int .i64 x136] 30 (0, 0))]] HS420 (FM.le.refl _)) (fun _ => St.only [[(b52, .cells #[.int .i64 vt17, .int .i64 vt24, .slice A402 (x342 ++ ([vt386] : List Int)).length c403, .slice A349 x348.length c350, .slice A355 x354.length c356, .int .i64 x134, .int .i64 x135, .int .i64 x136] 30 (0, 0))], [(b1, .cells #[.slice A4 s3.L.length c5, .int .i64 vt387] 26 (0, 0))]] HS420 (FM.le.refl _))) (fun w_ hw_ => by obtain ⟨g_, hl_, hS_⟩ := hw_.seg (j := 8) (s := [(b52, .cells #[.int .i64 vt17, .int .i64 vt24, .slice A402 (x342 ++ ([vt386] : List Int)).length c403, .slice A349 x348.length c350, .slice A355 x354.length c356, .int .i64 x134, .int .i64 x135, .int .i64 x136] 30 (0, 0))]) (by simp) (by simp); exact run_load rfl Tryz.underlying27 rfl (kv (.pointer (some ⟨b52, 3, none⟩))) (hS_.cell 3)) ?_
    refine takeGL [2, 3, 4, 5] (n := 9) (fuel := 5) #[true, true, true, true, true, true, false, false, false, false, false] rfl kr kr kr (fun ch_ a_ w_ q_ => (fun ch_ a_ w_ q_ => hnp ch_ a_ w_ (hp161 ch_ a_ w_ q_)) ch_ a_ w_ (hp373 ch_ a_ w_ q_)) (Sg.g3 (Sx.of [[(b52, .cells #[.int .i64 vt17, .int .i64 vt24, .slice A402 (x342 ++ ([vt386] : List Int)).length c403, .slice A349 x348.length c350, .slice A355 x354.length c356, .int .i64 x134, .int .i64 x135, .int .i64 x136] 30 (0, 0))], [(b1, .cells #[.slice A4 s3.L.length c5, .int .i64 vt387] 26 (0, 0))], s351] (FM.le.refl _) HS420) (fun _ => St.only [] HS420 (FM.le.refl _)) (fun _ => St.only [[(b52, .cells #[.int .i64 vt17, .int .i64 vt24, .slice A402 (x342 ++ ([vt386] : List Int)).length c403, .slice A349 x348.length c350, .slice A355 x354.length c356, .int .i64 x134, .int .i64 x135, .int .i64 x136] 30 (0, 0))]] HS420 (FM.le.refl _)) (fun _ => St.only [[(b52, .cells #[.int .i64 vt17, .int .i64 vt24, .slice A402 (x342 ++ ([vt386] : List Int)).length c403, .slice A349 x348.length c350, .slice A355 x354.length c356, .int .i64 x134, .int .i64 x135, .int .i64 x136] 30 (0, 0))], [(b1, .cells #[.slice A4 s3.L.length c5, .int .i64 vt387] 26 (0, 0))]] HS420 (FM.le.refl _))) ?_
    have HS421 := HS420.u1
    have hq_ := bind_some h; clear h; obtain ⟨⟨vt422, vt423⟩, hc424, h⟩ := hq_
    refine takeGE 6 kr rfl kr (does_call (f := 10) (args := #[.pointer (some ⟨b1, 0, none⟩), .int .i64 (w64 ((w64 (vt145 * 16777216)) + 1))]) kr (spymake_Stream_Next.calls k b1 A4 c5 (⟨s3.L, vt387⟩ : S_Stream) (w64 ((w64 (vt145 * 16777216)) + 1)) HS421 (HR6.mono (L21.trans (L28.trans (L35.trans (L42.trans (L49.trans (L67.trans (L129.trans (L149.trans (L336.trans L390)))))))))) vt422 vt423 hc424) ?_)
    rintro _ W427 ⟨f425, rfl, L426, HS428⟩
    refine ⟨_, rfl, ?_⟩
    refine ⟨(Sg.g3 (Sx.of [[(b1, .cells #[.slice A4 s3.L.length c5, .int .i64 vt423] 26 (0, 0))], [(b52, .cells #[.int .i64 vt17, .int .i64 vt24, .slice A402 (x342 ++ ([vt386] : List Int)).length c403, .slice A349 x348.length c350, .slice A355 x354.length c356, .int .i64 x134, .int .i64 x135, .int .i64 x136] 30 (0, 0))], s351] L426 HS428) (fun _ => St.only [[(b1, .cells #[.slice A4 s3.L.length c5, .int .i64 vt423] 26 (0, 0))]] HS428 L426) (fun hl_ => Bool.noConfusion (show true = false from hl_)) (fun _ => St.only [[(b1, .cells #[.slice A4 s3.L.length c5, .int .i64 vt423] 26 (0, 0))], [(b52, .cells #[.int .i64 vt17, .int .i64 vt24, .slice A402 (x342 ++ ([vt386] : List Int)).length c403, .slice A349 x348.length c350, .slice A355 x354.length c356, .int .i64 x134, .int .i64 x135, .int .i64 x136] 30 (0, 0))]] HS428 L426)), ?_⟩
    refine takeGE 7 kr rfl kr (does_lit (e := (tInt .i64)) (E := 60) (vs := #[(0, Value.int .i64 vt422)]) (cs := #[.int .i64 vt422]) (xs := ([vt422] : List Int)) rfl Tryz.underlying27 kr kr ⟨[.int .i64 vt422], _, rfl, rfl, rfl⟩ rfl HS428 ?_ (by decide))
    intro b429 W430 s431 HS432 _ HO433
    refine ⟨(Sg.g3 (Sx.of [s431, [(b1, .cells #[.slice A4 s3.L.length c5, .int .i64 vt423] 26 (0, 0))], [(b52, .cells #[.int .i64 vt17, .int .i64 vt24, .slice A402 (x342 ++ ([vt386] : List Int)).length c403, .slice A349 x348.length c350, .slice A355 x354.length c356, .int .i64 x134, .int .i64 x135, .int .i64 x136] 30 (0, 0))], s351] L426 HS432) (fun _ => St.only [s431, [(b1, .cells #[.slice A4 s3.L.length c5, .int .i64 vt423] 26 (0, 0))]] HS432 L426) (fun hl_ => Bool.noConfusion (show true = false from hl_)) (fun _ => St.only [s431, [(b1, .cells #[.slice A4 s3.L.length c5, .int .i64 vt423] 26 (0, 0))], [(b52, .cells #[.int .i64 vt17, .int .i64 vt24, .slice A402 (x342 ++ ([vt386] : List Int)).length c403, .slice A349 x348.length c350, .slice A355 x354.length c356, .int .i64 x134, .int .i64 x135, .int .i64 x136] 30 (0, 0))]] HS432 L426)), ?_⟩
    have hq_ := guard_some h; clear h; obtain ⟨c435, h⟩ := hq_
    have c435 : (x348.length + 1) * 8 ≤ 140737488355328 := c435
    have HS436 := HS432.u3
    have HS437 := HS436.u1
    refine takeGE 8 kr rfl kr (does_append1 (e := (tInt .i64)) (E := 60) (xs := x348) (ys := ([vt422] : List Int)) rfl (kv (.slice A349 x348.length c350)) (kv (.slice (some ⟨b429, 0, none⟩) ([vt422] : List Int).length 1)) Tryz.underlying27 inf60 (HO352.mono (L390.trans L426)) HO433 HS437 c435 (lim63 c435 (by decide)) ?_)
    intro A438 c439 s440 W441 HS442 HO443
    refine ⟨(Sg.g3 (Sx.of [s440, [(b1, .cells #[.slice A4 s3.L.length c5, .int .i64 vt423] 26 (0, 0))], [(b52, .cells #[.int .i64 vt17, .int .i64 vt24, .slice A402 (x342 ++ ([vt386] : List Int)).length c403, .slice A349 x348.length c350, .slice A355 x354.length c356, .int .i64 x134, .int .i64 x135, .int .i64 x136] 30 (0, 0))]] L426 HS442) (fun hl_ => Bool.noConfusion (show true = false from hl_)) (fun hl_ => Bool.noConfusion (show true = false from hl_)) (fun hl_ => Bool.noConfusion (show true = false from hl_))), ?_⟩
    refine takeGL [9] (n := 2) (fuel := 1) #[true, true, true, true, true, true, true, true, true, true, false] rfl kr kr kr (fun ch_ a_ w_ q_ => (fun ch_ a_ w_ q_ => hnp ch_ a_ w_ (hp161 ch_ a_ w_ q_)) ch_ a_ w_ (hp373 ch_ a_ w_ q_)) (Sg.g3 (Sx.of [s440, [(b1, .cells #[.slice A4 s3.L.length c5, .int .i64 vt423] 26 (0, 0))], [(b52, .cells #[.int .i64 vt17, .int .i64 vt24, .slice A402 (x342 ++ ([vt386] : List Int)).length c403, .slice A349 x348.length c350, .slice A355 x354.length c356, .int .i64 x134, .int .i64 x135, .int .i64 x136] 30 (0, 0))]] L426 HS442) (fun hl_ => Bool.noConfusion (show true = false from hl_)) (fun hl_ => Bool.noConfusion (show true = false from hl_)) (fun hl_ => Bool.noConfusion (show true = false from hl_))) ?_
    have HS444 := HS442.u2
    refine takeGE 10 kr rfl kr (does_store (n := 1) (vs := [.slice A438 (x348 ++ ([vt422] : List Int)).length c439]) (cs' := #[.int .i64 vt17, .int .i64 vt24, .slice A402 (x342 ++ ([vt386] : List Int)).length c403, .slice A438 (x348 ++ ([vt422] : List Int)).length c439, .slice A355 x354.length c356, .int .i64 x134, .int .i64 x135, .int .i64 x136]) rfl kr (kv (.pointer (some ⟨b52, 3, none⟩))) (kv (.slice A438 (x348 ++ ([vt422] : List Int)).length c439)) rfl rfl (by intro u_ hu_; simp only [List.mem_cons, List.not_mem_nil, or_false] at hu_; subst hu_; rfl) HS444 (Nat.le_of_ble_eq_true rfl) kr ?_)
    intro W445 HS446
    refine ⟨(Sg.g3 (Sx.of [[(b52, .cells #[.int .i64 vt17, .int .i64 vt24, .slice A402 (x342 ++ ([vt386] : List Int)).length c403, .slice A438 (x348 ++ ([vt422] : List Int)).length c439, .slice A355 x354.length c356, .int .i64 x134, .int .i64 x135, .int .i64 x136] 30 (0, 0))], s440, [(b1, .cells #[.slice A4 s3.L.length c5, .int .i64 vt423] 26 (0, 0))]] L426 HS446) (fun hl_ => Bool.noConfusion (show true = false from hl_)) (fun hl_ => Bool.noConfusion (show true = false from hl_)) (fun hl_ => Bool.noConfusion (show true = false from hl_))), ?_⟩
    refine doneG kr ?_ _
    refine hK412 _ _ ?_
    refine wp_seq_k fun K447 hK448 => rl ?_
    have HS449 := HS446.u2
    have hq_ := bind_some h; clear h; obtain ⟨⟨vt450, vt451⟩, hc452, h⟩ := hq_
    refine seqL1 kr ?_
    refine seqK rfl (does_call (f := 14) (args := #[.pointer (some ⟨b1, 0, none⟩), .int .i64 2048, .int .i64 4096]) kr (spymake_Stream_Range.calls k b1 A4 c5 (⟨s3.L, vt423⟩ : S_Stream) 2048 4096 HS449 (HR6.mono (L21.trans (L28.trans (L35.trans (L42.trans (L49.trans (L67.trans (L129.trans (L149.trans (L336.trans (L390.trans L426))))))))))) vt450 vt451 hc452) ?_)
    rintro _ W455 ⟨f453, rfl, L454, HS456⟩
    refine ⟨_, rfl, ?_⟩
    refine seqL1 kr ?_
    refine nl (hK448 _ _ ?_)
    refine wp_seq_k (fun K457 hK458 => ?_)
    refine wp_seq_k fun K459 hK460 => rl ?_
    have hq_ := bind_some h; clear h; obtain ⟨⟨vt461, vt462⟩, hc463, h⟩ := hq_
    refine seqL1 kr ?_
    refine seqK rfl (does_call (f := 10) (args := #[.pointer (some ⟨b1, 0, none⟩), .int .i64 12]) kr (spymake_Stream_Next.calls k b1 A4 c5 (⟨s3.L, vt451⟩ : S_Stream) 12 HS456 (HR6.mono (L21.trans (L28.trans (L35.trans (L42.trans (L49.trans (L67.trans (L129.trans (L149.trans (L336.trans (L390.trans (L426.trans L454)))))))))))) vt461 vt462 hc463) ?_)
    rintro _ W466 ⟨f464, rfl, L465, HS467⟩
    refine ⟨_, rfl, ?_⟩
    refine seqL1 kr ?_
    refine nl (hK460 _ _ ?_)
    have hq_ := ite_some h; clear h; rcases hq_ with ⟨c469, h⟩ | ⟨c469, h⟩
    · have c469 : vt461 = 0 := c469
      refine wpRwI 66 (x := (vt461 == 0)) (v := true) kr (beq_iff_eq.mpr c469) ?_
      refine condT kr ?_
      refine rl ?_
      have hq_ := bind_some h; clear h; obtain ⟨⟨vt470, vt471⟩, hc472, h⟩ := hq_
      refine seqL1 kr ?_
      refine seqK rfl (does_call (f := 10) (args := #[.pointer (some ⟨b1, 0, none⟩), .int .i64 512]) kr (spymake_Stream_Next.calls k b1 A4 c5 (⟨s3.L, vt462⟩ : S_Stream) 512 HS467 (HR6.mono (L21.trans (L28.trans (L35.trans (L42.trans (L49.trans (L67.trans (L129.trans (L149.trans (L336.trans (L390.trans (L426.trans (L454.trans L465))))))))))))) vt470 vt471 hc472) ?_)
      rintro _ W475 ⟨f473, rfl, L474, HS476⟩
      refine ⟨_, rfl, ?_⟩
      have hq_ := bind_some h; clear h; obtain ⟨⟨vt477, vt478⟩, hc479, h⟩ := hq_
      refine seqL1 kr ?_
      refine seqK rfl (does_call (f := 10) (args := #[.pointer (some ⟨b1, 0, none⟩), .int .i64 2]) kr (spymake_Stream_Next.calls k b1 A4 c5 (⟨s3.L, vt471⟩ : S_Stream) 2 HS476 (HR6.mono (L21.trans (L28.trans (L35.trans (L42.trans (L49.trans (L67.trans (L129.trans (L149.trans (L336.trans (L390.trans (L426.trans (L454.trans (L465.trans L474)))))))))))))) vt477 vt478 hc479) ?_)
      rintro _ W482 ⟨f480, rfl, L481, HS483⟩
      refine ⟨_, rfl, ?_⟩
      refine seqL2 kr ?_
      refine nl (hK458 _ _ ?_)
      refine rl ?_
      refine seqL1 kr ?_
      refine seqK rfl (does_run (run_load rfl Tryz.underlying22 rfl (kv (.pointer (some ⟨b52, 4, none⟩))) (HS483.u1.cell 4)) ?_)
      refine seqL1 kr ?_
      refine seqK rfl (does_lit (e := (tInt .i64)) (E := 3) (vs := #[(0, Value.int .i64 (w64 (vt470 * vt477)))]) (cs := #[.int .i64 (w64 (vt470 * vt477))]) (xs := ([w64 (vt470 * vt477)] : List Int)) rfl Tryz.underlying22 kr kr ⟨[.int .i64 (w64 (vt470 * vt477))], _, rfl, rfl, rfl⟩ rfl HS483 ?_ (by decide))
      intro b484 W485 s486 HS487 _ HO488
      have hq_ := guard_some h; clear h; obtain ⟨c490, h⟩ := hq_
      have c490 : (x354.length + 1) * 8 ≤ 140737488355328 := c490
      have HS491 := HS487.u5
      have HS492 := HS491.u1
      refine seqK rfl (does_append1 (e := (tInt .i64)) (E := 3) (xs := x354) (ys := ([w64 (vt470 * vt477)] : List Int)) rfl (kv (.slice A355 x354.length c356)) (kv (.slice (some ⟨b484, 0, none⟩) ([w64 (vt470 * vt477)] : List Int).length 1)) Tryz.underlying22 inf3 (HO358.mono (L390.trans (L426.trans (L454.trans (L465.trans (L474.trans L481)))))) HO488 HS492 c490 (lim63 c490 (by decide)) ?_)
      intro A493 c494 s495 W496 HS497 HO498
      have HS499 := HS497.u2
      refine seqL1 kr ?_
      refine seqK rfl (does_store (n := 1) (vs := [.slice A493 (x354 ++ ([w64 (vt470 * vt477)] : List Int)).length c494]) (cs' := #[.int .i64 vt17, .int .i64 vt24, .slice A402 (x342 ++ ([vt386] : List Int)).length c403, .slice A438 (x348 ++ ([vt422] : List Int)).length c439, .slice A493 (x354 ++ ([w64 (vt470 * vt477)] : List Int)).length c494, .int .i64 x134, .int .i64 x135, .int .i64 x136]) rfl kr (kv (.pointer (some ⟨b52, 4, none⟩))) (kv (.slice A493 (x354 ++ ([w64 (vt470 * vt477)] : List Int)).length c494)) rfl rfl (by intro u_ hu_; simp only [List.mem_cons, List.not_mem_nil, or_false] at hu_; subst hu_; rfl) HS499 (Nat.le_of_ble_eq_true rfl) kr ?_)
      intro W500 HS501
      refine nl ?_
      refine hn370 _ _ ?_
      refine hK367 _ _ ?_
      refine rl ?_
      refine seqL2 kr ?_
      refine nl ?_
      refine hK333 n334 _ _ (Nat.lt_succ_self _) ?_
      have HS553 := HS501.u5
      have HS554 := HS553.u1
      have HS555 := HS554.u3
      have HS556 := HS555.u5
      have HS557 := HS556.u5
      have HS558 := HS557.u5
      exact ⟨f480, A402, c403, s404, A438, c439, s440, A493, c494, s495, (w64 (x340 + 1)), vt478, (x342 ++ ([vt386] : List Int)), (x348 ++ ([vt422] : List Int)), (x354 ++ ([w64 (vt470 * vt477)] : List Int)), (fun i_ => [Value.int .i64 (w64 (vt470 * vt477)), Value.bool true, Value.pointer (some ⟨b52, 2, none⟩), Value.slice A343 x342.length c344, Value.pointer (some ⟨b1, 0, none⟩), Value.int .i64 vt386, Value.slice (some ⟨b393, 0, none⟩) ([vt386] : List Int).length 1, Value.slice A402 (x342 ++ ([vt386] : List Int)).length c403, Value.pointer (some ⟨b52, 2, none⟩), Value.pointer (some ⟨b52, 3, none⟩), Value.slice A349 x348.length c350, Value.pointer (some ⟨b1, 0, none⟩), Value.int .i64 vt145, Value.int .i64 (w64 (vt145 * 16777216)), Value.int .i64 (w64 ((w64 (vt145 * 16777216)) + 1)), Value.int .i64 vt422, Value.slice (some ⟨b429, 0, none⟩) ([vt422] : List Int).length 1, Value.slice A438 (x348 ++ ([vt422] : List Int)).length c439, Value.pointer (some ⟨b52, 3, none⟩), Value.pointer (some ⟨b1, 0, none⟩), Value.int .i64 vt450, Value.pointer (some ⟨b1, 0, none⟩), Value.int .i64 vt461, Value.bool true, Value.pointer (some ⟨b1, 0, none⟩), Value.int .i64 vt470, Value.pointer (some ⟨b1, 0, none⟩), Value.int .i64 vt477, Value.int .i64 (w64 (vt470 * vt477)), Value.pointer (some ⟨b52, 4, none⟩), Value.slice A355 x354.length c356, Value.int .i64 (w64 (vt470 * vt477)), Value.slice (some ⟨b484, 0, none⟩) ([w64 (vt470 * vt477)] : List Int).length 1, Value.slice A493 (x354 ++ ([w64 (vt470 * vt477)] : List Int)).length c494, Value.pointer (some ⟨b52, 4, none⟩), Value.int .i64 (w64 (x340 + 1))].getD i_ undef), (L336.trans (L390.trans (L426.trans (L454.trans (L465.trans (L474.trans L481)))))), HS558, (HO407.mono (L426.trans (L454.trans (L465.trans (L474.trans L481))))), (HO443.mono (L454.trans (L465.trans (L474.trans L481)))), HO498, h, kr⟩
    · have c469 : ¬ (vt461 = 0) := c469
      refine wpRwI 66 (x := (vt461 == 0)) (v := false) kr (beq_eq_false_iff_ne.mpr c469) ?_
      refine condF kr ?_
      refine wp_skip ?_
      refine hK458 _ _ ?_
      refine rl ?_
      refine seqL1 kr ?_
      refine seqK rfl (does_run (run_load rfl Tryz.underlying22 rfl (kv (.pointer (some ⟨b52, 4, none⟩))) (HS467.u1.cell 4)) ?_)
      refine seqL1 kr ?_
      refine seqK rfl (does_lit (e := (tInt .i64)) (E := 3) (vs := #[(0, Value.int .i64 vt450)]) (cs := #[.int .i64 vt450]) (xs := ([vt450] : List Int)) rfl Tryz.underlying22 kr kr ⟨[.int .i64 vt450], _, rfl, rfl, rfl⟩ rfl HS467 ?_ (by decide))
      intro b502 W503 s504 HS505 _ HO506
      have hq_ := guard_some h; clear h; obtain ⟨c508, h⟩ := hq_
      have c508 : (x354.length + 1) * 8 ≤ 140737488355328 := c508
      have HS509 := HS505.u5
      have HS510 := HS509.u1
      refine seqK rfl (does_append1 (e := (tInt .i64)) (E := 3) (xs := x354) (ys := ([vt450] : List Int)) rfl (kv (.slice A355 x354.length c356)) (kv (.slice (some ⟨b502, 0, none⟩) ([vt450] : List Int).length 1)) Tryz.underlying22 inf3 (HO358.mono (L390.trans (L426.trans (L454.trans L465)))) HO506 HS510 c508 (lim63 c508 (by decide)) ?_)
      intro A511 c512 s513 W514 HS515 HO516
      have HS517 := HS515.u2
      refine seqL1 kr ?_
      refine seqK rfl (does_store (n := 1) (vs := [.slice A511 (x354 ++ ([vt450] : List Int)).length c512]) (cs' := #[.int .i64 vt17, .int .i64 vt24, .slice A402 (x342 ++ ([vt386] : List Int)).length c403, .slice A438 (x348 ++ ([vt422] : List Int)).length c439, .slice A511 (x354 ++ ([vt450] : List Int)).length c512, .int .i64 x134, .int .i64 x135, .int .i64 x136]) rfl kr (kv (.pointer (some ⟨b52, 4, none⟩))) (kv (.slice A511 (x354 ++ ([vt450] : List Int)).length c512)) rfl rfl (by intro u_ hu_; simp only [List.mem_cons, List.not_mem_nil, or_false] at hu_; subst hu_; rfl) HS517 (Nat.le_of_ble_eq_true rfl) kr ?_)
      intro W518 HS519
      refine nl ?_
      refine hn370 _ _ ?_
      refine hK367 _ _ ?_
      refine rl ?_
      refine seqL2 kr ?_
      refine nl ?_
      refine hK333 n334 _ _ (Nat.lt_succ_self _) ?_
      have HS559 := HS519.u5
      have HS560 := HS559.u1
      have HS561 := HS560.u3
      have HS562 := HS561.u5
      have HS563 := HS562.u5
      have HS564 := HS563.u5
      exact ⟨f464, A402, c403, s404, A438, c439, s440, A511, c512, s513, (w64 (x340 + 1)), vt462, (x342 ++ ([vt386] : List Int)), (x348 ++ ([vt422] : List Int)), (x354 ++ ([vt450] : List Int)), (fun i_ => [Value.int .i64 vt450, Value.bool true, Value.pointer (some ⟨b52, 2, none⟩), Value.slice A343 x342.length c344, Value.pointer (some ⟨b1, 0, none⟩), Value.int .i64 vt386, Value.slice (some ⟨b393, 0, none⟩) ([vt386] : List Int).length 1, Value.slice A402 (x342 ++ ([vt386] : List Int)).length c403, Value.pointer (some ⟨b52, 2, none⟩), Value.pointer (some ⟨b52, 3, none⟩), Value.slice A349 x348.length c350, Value.pointer (some ⟨b1, 0, none⟩), Value.int .i64 vt145, Value.int .i64 (w64 (vt145 * 16777216)), Value.int .i64 (w64 ((w64 (vt145 * 16777216)) + 1)), Value.int .i64 vt422, Value.slice (some ⟨b429, 0, none⟩) ([vt422] : List Int).length 1, Value.slice A438 (x348 ++ ([vt422] : List Int)).length c439, Value.pointer (some ⟨b52, 3, none⟩), Value.pointer (some ⟨b1, 0, none⟩), Value.int .i64 vt450, Value.pointer (some ⟨b1, 0, none⟩), Value.int .i64 vt461, Value.bool false, (j339 24), (j339 25), (j339 26), (j339 27), (j339 28), Value.pointer (some ⟨b52, 4, none⟩), Value.slice A355 x354.length c356, Value.int .i64 vt450, Value.slice (some ⟨b502, 0, none⟩) ([vt450] : List Int).length 1, Value.slice A511 (x354 ++ ([vt450] : List Int)).length c512, Value.pointer (some ⟨b52, 4, none⟩), Value.int .i64 (w64 (x340 + 1))].getD i_ undef), (L336.trans (L390.trans (L426.trans (L454.trans L465)))), HS564, (HO407.mono (L426.trans (L454.trans L465))), (HO443.mono (L454.trans L465)), HO516, h, kr⟩
  · have c365 : ¬ (x340 < (w64 (vt17 * vt24))) := c365
    refine wpRwI 44 (x := (decide (x340 < (w64 (vt17 * vt24))))) (v := false) kr (decide_eq_false c365) ?_
    refine condF kr ?_
    refine wp_exit ?_
    refine hx157 _ _ ?_
    exact J545 f335 A343 c344 s345 A349 c350 s351 A355 c356 s357 x341 x342 x348 x354 (fun i_ => [(j339 0), Value.int .i64 x340, Value.bool false, (j339 2), (j339 3), (j339 4), (j339 5), (j339 6), (j339 7), (j339 8), (j339 9), (j339 10), (j339 11), (j339 12), (j339 13), (j339 14), (j339 15), (j339 16), (j339 17), (j339 18), (j339 19), (j339 20), (j339 21), (j339 22), (j339 23), (j339 24), (j339 25), (j339 26), (j339 27), (j339 28), (j339 29), (j339 30), (j339 31), (j339 32), (j339 33), (j339 34), (j339 35)].getD i_ undef) W337 _ L336 h HS338 HO346 HO352 HO358 kr
 clear h; have h := hv137; clear hv137
 have hq_ := ite_some h; clear h; rcases hq_ with ⟨c80, h⟩ | ⟨c80, h⟩
 · have c80 : vt63 = 0 := c80
   refine wpRwI 23 (x := (vt63 == 0)) (v := true) kr (beq_iff_eq.mpr c80) ?_
   refine wpRwI 24 (x := (vt63 == 0)) (v := true) kr (beq_iff_eq.mpr c80) ?_
   refine condT kr ?_
   refine rl ?_
   have hq_ := bind_some h; clear h; obtain ⟨⟨vt81, vt82⟩, hc83, h⟩ := hq_
   refine seqL1 kr ?_
   refine seqK rfl (does_call (f := 14) (args := #[.pointer (some ⟨b1, 0, none⟩), .int .i64 200, .int .i64 5000]) kr (spymake_Stream_Range.calls k b1 A4 c5 (⟨s3.L, vt64⟩ : S_Stream) 200 5000 HS69 (HR6.mono (L21.trans (L28.trans (L35.trans (L42.trans (L49.trans L67)))))) vt81 vt82 hc83) ?_)
   rintro _ W86 ⟨f84, rfl, L85, HS87⟩
   refine ⟨_, rfl, ?_⟩
   have HS88 := HS87.u1
   refine seqL1 kr ?_
   refine seqK rfl (does_store (n := 1) (vs := [.int .i64 vt81]) (cs' := #[.int .i64 vt17, .int .i64 vt24, .slice none 0 0, .slice none 0 0, .slice none 0 0, .int .i64 vt81, .int .i64 vt38, .int .i64 vt45]) rfl kr (kv (.pointer (some ⟨b52, 5, none⟩))) (kv (.int .i64 vt81)) rfl rfl (by intro u_ hu_; simp only [List.mem_cons, List.not_mem_nil, or_false] at hu_; subst hu_; rfl) HS88 (Nat.le_of_ble_eq_true rfl) kr ?_)
   intro W89 HS90
   refine nl ?_
   refine fnRwI (F := (B70 Exit.normal)) 24 (x := true) (v := (vt63 == 0)) kr (Eq.symm (beq_iff_eq.mpr c80)) ?_
   refine fnRwI (F := (B70 Exit.normal)) 23 (x := true) (v := (vt63 == 0)) kr (Eq.symm (beq_iff_eq.mpr c80)) ?_
   have HS140 := HS90.u2
   have HS141 := HS140.u1
   have HS142 := HS141.u2
   exact J138 f84 vt82 vt81 vt38 vt45 (fun i_ => [Value.pointer (some ⟨b1, 0, none⟩), Value.int .i64 vt81, Value.pointer (some ⟨b52, 5, none⟩), undef, undef, undef, undef, undef, undef, undef, undef].getD i_ undef) W89 _ L85 h HS142 kr
 · have c80 : ¬ (vt63 = 0) := c80
   refine wpRwI 23 (x := (vt63 == 0)) (v := false) kr (beq_eq_false_iff_ne.mpr c80) ?_
   refine wpRwI 24 (x := (vt63 == 0)) (v := false) kr (beq_eq_false_iff_ne.mpr c80) ?_
   refine condF kr ?_
   refine wp_seq_k fun K91 hK92 => rl ?_
   refine seqL2 kr ?_
   refine nl (hK92 _ _ ?_)
   have hq_ := bind_some h; clear h; obtain ⟨v93, hv122, h⟩ := hq_
   have J123 : ∀ (f114 : FM) (x119 : Int) (x120 : Int) (x121 : Int) (j118 : Nat → Value) (W116 : World) (a_ : Act), FM.le f66 f114 → some ((x119, x120, x121)) = some v93 → St t W116 f114 ([(b1, .cells #[.slice A4 s3.L.length c5, .int .i64 x119] 26 (0, 0))] :: [(b52, .cells #[.int .i64 vt17, .int .i64 vt24, .slice none 0 0, .slice none 0 0, .slice none 0 0, .int .i64 vt31, .int .i64 x120, .int .i64 x121] 30 (0, 0))] :: [(b10, .cells #[.int .i64 0, .int .i64 0, .slice none 0 0, .slice none 0 0, .slice none 0 0, .int .i64 0, .int .i64 0, .int .i64 0] 30 (0, 0))] :: H) → a_ = ⟨#[pV b1 0, iV most7, uV, uV, pV b10 0, pV b52 0, uV, uV, pV b1 0, iV most7, iV vt17, pV b1 0, iV most7, iV vt24, pV b1 0, iV vt31, pV b1 0, iV vt38, pV b1 0, iV vt45, .agg #[iV vt17, iV vt24, .slice none 0 0, .slice none 0 0, .slice none 0 0, iV vt31, iV vt38, iV vt45], pV b1 0, iV vt63, fV, fV, uV, uV, uV, .bool (vt63 == 1), .bool (vt63 == 1), (j118 0), (j118 1), (j118 2), (j118 3), (j118 4), (j118 5), uV, uV, uV, uV, uV, uV, uV, uV, uV, uV, uV, uV, uV, uV, uV, uV, uV, uV, uV, uV, uV, uV, uV, uV, uV, uV, uV, uV, uV, uV, uV, uV, uV, uV, uV, uV, uV, uV, uV, uV, uV, uV, uV, uV], []⟩ → B70 Exit.normal a_ W116 := by
    intro f114 x119 x120 x121 j118 W116 a_ L115 hj124 HS117  hfr_; subst hfr_
    injection hj124 with hj124; subst hj124; try dsimp only at h
    refine fnRwI (F := (B70 Exit.normal)) 24 (x := false) (v := (vt63 == 0)) kr (Eq.symm (beq_eq_false_iff_ne.mpr c80)) ?_
    refine fnRwI (F := (B70 Exit.normal)) 23 (x := false) (v := (vt63 == 0)) kr (Eq.symm (beq_eq_false_iff_ne.mpr c80)) ?_
    exact J138 f114 x119 vt31 x120 x121 (fun i_ => [undef, undef, undef, Value.bool (vt63 == 1), Value.bool (vt63 == 1), (j118 0), (j118 1), (j118 2), (j118 3), (j118 4), (j118 5)].getD i_ undef) W116 _ L115 h HS117 kr
   clear h; have h := hv122; clear hv122
   have hq_ := ite_some h; clear h; rcases hq_ with ⟨c94, h⟩ | ⟨c94, h⟩
   · have c94 : vt63 = 1 := c94
     refine wpRwI 28 (x := (vt63 == 1)) (v := true) kr (beq_iff_eq.mpr c94) ?_
     refine wpRwI 29 (x := (vt63 == 1)) (v := true) kr (beq_iff_eq.mpr c94) ?_
     refine condT kr ?_
     refine rl ?_
     have hq_ := bind_some h; clear h; obtain ⟨⟨vt95, vt96⟩, hc97, h⟩ := hq_
     refine seqL1 kr ?_
     refine seqK rfl (does_call (f := 14) (args := #[.pointer (some ⟨b1, 0, none⟩), .int .i64 1, .int .i64 64]) kr (spymake_Stream_Range.calls k b1 A4 c5 (⟨s3.L, vt64⟩ : S_Stream) 1 64 HS69 (HR6.mono (L21.trans (L28.trans (L35.trans (L42.trans (L49.trans L67)))))) vt95 vt96 hc97) ?_)
     rintro _ W100 ⟨f98, rfl, L99, HS101⟩
     refine ⟨_, rfl, ?_⟩
     have hq_ := bind_some h; clear h; obtain ⟨⟨vt102, vt103⟩, hc104, h⟩ := hq_
     refine seqL1 kr ?_
     refine seqK rfl (does_call (f := 10) (args := #[.pointer (some ⟨b1, 0, none⟩), .int .i64 20]) kr (spymake_Stream_Next.calls k b1 A4 c5 (⟨s3.L, vt96⟩ : S_Stream) 20 HS101 (HR6.mono (L21.trans (L28.trans (L35.trans (L42.trans (L49.trans (L67.trans L99))))))) vt102 vt103 hc104) ?_)
     rintro _ W107 ⟨f105, rfl, L106, HS108⟩
     refine ⟨_, rfl, ?_⟩
     have HS109 := HS108.u1
     refine seqL1 kr ?_
     refine seqK rfl (does_store (n := 1) (vs := [.int .i64 vt95]) (cs' := #[.int .i64 vt17, .int .i64 vt24, .slice none 0 0, .slice none 0 0, .slice none 0 0, .int .i64 vt31, .int .i64 vt95, .int .i64 vt45]) rfl kr (kv (.pointer (some ⟨b52, 6, none⟩))) (kv (.int .i64 vt95)) rfl rfl (by intro u_ hu_; simp only [List.mem_cons, List.not_mem_nil, or_false] at hu_; subst hu_; rfl) HS109 (Nat.le_of_ble_eq_true rfl) kr ?_)
     intro W110 HS111
     refine seqL1 kr ?_
     refine seqK rfl (does_store (n := 1) (vs := [.int .i64 vt102]) (cs' := #[.int .i64 vt17, .int .i64 vt24, .slice none 0 0, .slice none 0 0, .slice none 0 0, .int .i64 vt31, .int .i64 vt95, .int .i64 vt102]) rfl kr (kv (.pointer (some ⟨b52, 7, none⟩))) (kv (.int .i64 vt102)) rfl rfl (by intro u_ hu_; simp only [List.mem_cons, List.not_mem_nil, or_false] at hu_; subst hu_; rfl) HS111 (Nat.le_of_ble_eq_true rfl) kr ?_)
     intro W112 HS113
     refine nl ?_
     refine fnRwI (F := (B70 Exit.normal)) 29 (x := true) (v := (vt63 == 1)) kr (Eq.symm (beq_iff_eq.mpr c94)) ?_
     refine fnRwI (F := (B70 Exit.normal)) 28 (x := true) (v := (vt63 == 1)) kr (Eq.symm (beq_iff_eq.mpr c94)) ?_
     have HS125 := HS113.u2
     have HS126 := HS125.u1
     have HS127 := HS126.u2
     exact J123 f105 vt103 vt95 vt102 (fun i_ => [Value.pointer (some ⟨b1, 0, none⟩), Value.int .i64 vt95, Value.pointer (some ⟨b1, 0, none⟩), Value.int .i64 vt102, Value.pointer (some ⟨b52, 6, none⟩), Value.pointer (some ⟨b52, 7, none⟩)].getD i_ undef) W112 _ (L99.trans L106) h HS127 kr
   · have c94 : ¬ (vt63 = 1) := c94
     refine wpRwI 28 (x := (vt63 == 1)) (v := false) kr (beq_eq_false_iff_ne.mpr c94) ?_
     refine wpRwI 29 (x := (vt63 == 1)) (v := false) kr (beq_eq_false_iff_ne.mpr c94) ?_
     refine condF kr ?_
     refine wp_skip ?_
     refine fnRwI (F := (B70 Exit.normal)) 29 (x := false) (v := (vt63 == 1)) kr (Eq.symm (beq_eq_false_iff_ne.mpr c94)) ?_
     refine fnRwI (F := (B70 Exit.normal)) 28 (x := false) (v := (vt63 == 1)) kr (Eq.symm (beq_eq_false_iff_ne.mpr c94)) ?_
     exact J123 f66 vt64 vt38 vt45 (fun i_ => [undef, undef, undef, undef, undef, undef].getD i_ undef) W68 _ (FM.le.refl _) h HS69 kr

set_option maxRecDepth 100000 in
set_option maxHeartbeats 4000000 in
theorem spykeep3_filled.calls (k : Nat) (b1 : Nat) (A4 : Option Addr) (c5 : Nat) (A8 : Option Addr) (c9 : Nat) (A11 : Option Addr) (c12 : Nat) (A14 : Option Addr) (c15 : Nat) (s3 : S_Stream) (c7 : S_Sensor) {t w : World} {f : FM} {H : List Seg} (HS : St t w f ([(b1, .cells #[.slice A4 s3.L.length c5, .int .i64 s3.vat] 26 (0, 0))] :: H)) (HR6 : SlR (tInt .i64) f A4 c5 s3.L) (HR10 : SlR (tInt .i64) f A8 c9 c7.Bias) (HR13 : SlR (tInt .i64) f A11 c12 c7.Dark) (HR16 : SlR (tInt .i64) f A14 c15 c7.Flat) (rr1 : List Int) (rr2 : Int) (h : spykeep3_filled k s3 c7 = some (rr1, rr2)) :
    Calls Tryz.prog 5 #[.pointer (some ⟨b1, 0, none⟩), .agg #[.int .i64 c7.W, .int .i64 c7.H, .slice A8 c7.Bias.length c9, .slice A11 c7.Dark.length c12, .slice A14 c7.Flat.length c15, .int .i64 c7.Full, .int .i64 c7.Gain, .int .i64 c7.Noise]] w (fun e w' => ∃ (g : FM) (A247 : Option Addr) (c248 : Nat) (s249 : Seg), e = .returned (Value.slice A247 rr1.length c248) ∧ FM.le f g ∧ St t w' g (s249 :: [(b1, .cells #[.slice A4 s3.L.length c5, .int .i64 rr2] 26 (0, 0))] :: H) ∧ Own (tInt .i64) 28 g A247 c248 s249 rr1) := by
 unfold spykeep3_filled at h
 refine enter Tryz.func5 rfl (tm := #[pV b1 0, (ag_Sensor c7 A8 c9 A11 c12 A14 c15), uV, uV, uV, uV, uV, uV, uV, uV, uV, uV, uV, uV, uV, uV, uV, uV, uV, uV, uV, uV, uV, uV, uV, uV, uV, uV, uV, uV, uV, uV, uV]) kr ?_
 intro B hret hnor hnp
 refine wp_seq_k fun K17 hK18 => rl ?_
 refine seqK rfl (does_box (cs := #[.int .i64 c7.W, .int .i64 c7.H, .slice A8 c7.Bias.length c9, .slice A11 c7.Dark.length c12, .slice A14 c7.Flat.length c15, .int .i64 c7.Full, .int .i64 c7.Gain, .int .i64 c7.Noise]) rfl (kv (.agg #[.int .i64 c7.W, .int .i64 c7.H, .slice A8 c7.Bias.length c9, .slice A11 c7.Dark.length c12, .slice A14 c7.Flat.length c15, .int .i64 c7.Full, .int .i64 c7.Gain, .int .i64 c7.Noise])) rfl HS ?_)
 intro b19 W20 HS21
 refine seqL1 kr ?_
 refine nl (hK18 _ _ ?_)
 refine wp_seq_k fun K23 hK24 => rl ?_
 refine seqL1 kr ?_
 refine nl (hK24 _ _ ?_)
 refine wp_seq_k (fun K25 hK26 => ?_)
 refine wp_seq_k fun K27 hK28 => rl ?_
 refine seqL1 kr ?_
 refine seqK rfl (does_run (run_load rfl Tryz.underlying3 rfl (kv (.pointer (some ⟨b19, 0, none⟩))) (HS21.cell 0)) ?_)
 refine seqL1 kr ?_
 refine seqK rfl (does_run (run_load rfl Tryz.underlying3 rfl (kv (.pointer (some ⟨b19, 1, none⟩))) (HS21.cell 1)) ?_)
 refine seqL2 kr ?_
 refine nl (hK28 _ _ ?_)
 refine blockK (fun B29 hx30 hn31 hr32 ho33 hp34 => ?_)
 have hq_ := bind_some h; clear h; obtain ⟨o126, hv230, h⟩ := hq_
 have J231 : ∀ (f218 : FM) (A224 : Option Addr) (c225 : Nat) (s226 : Seg) (out223 : List Int) (x229 : Int) (j222 : Nat → Value) (W220 : World) (a_ : Act), FM.le f f218 → some ((out223, x229)) = some o126 → St t W220 f218 (s226 :: [(b19, .cells #[.int .i64 c7.W, .int .i64 c7.H, .slice A8 c7.Bias.length c9, .slice A11 c7.Dark.length c12, .slice A14 c7.Flat.length c15, .int .i64 c7.Full, .int .i64 c7.Gain, .int .i64 c7.Noise] 30 (0, 0))] :: [(b1, .cells #[.slice A4 s3.L.length c5, .int .i64 x229] 26 (0, 0))] :: H) → Own (tInt .i64) 28 f218 A224 c225 s226 out223 → a_ = ⟨#[pV b1 0, (ag_Sensor c7 A8 c9 A11 c12 A14 c15), uV, pV b19 0, .slice none 0 0, .slice A224 out223.length c225, (j222 0), pV b19 0, iV c7.W, pV b19 1, iV c7.H, iV (w64 (c7.W * c7.H)), (j222 1), (j222 2), (j222 3), (j222 4), (j222 5), (j222 6), (j222 7), (j222 8), (j222 9), (j222 10), (j222 11), (j222 12), (j222 13), (j222 14), (j222 15), (j222 16), (j222 17), (j222 18), (j222 19), (j222 20), uV], []⟩ → K25 a_ W220 := by
  intro f218 A224 c225 s226 out223 x229 j222 W220 a_ L219 hj232 HS221 HO227 hfr_; subst hfr_
  injection hj232 with hj232; subst hj232; try dsimp only at h
  refine hK26 _ _ ?_
  refine wp_seq_k fun K241 hK242 => rl ?_
  refine seqL2 kr ?_
  refine nl (hK242 _ _ ?_)
  refine wp_ret ?_
  refine hret _ _ ?_
  refine ends_still (v := Value.slice A224 out223.length c225) kr kr ?_
  have HS243 := HS221.u2
  have HS244 := HS243.u1
  have HS245 := HS244.u2
  have HS246 := HS245.drop
  injection h with h
  injection h with h0_ h
  subst h0_ h
  exact ⟨f218, A224, c225, s226, rfl, L219, HS246, HO227⟩
 clear h; have h := hv230; clear hv230
 have HS233 := HS21.cons_nil
 refine loopK (fun n_ a_ w_ => ∃ (f130 : FM) (A136 : Option Addr) (c137 : Nat) (s138 : Seg) (out135 : List Int) (x141 : Int) (x142 : Int) (j134 : Nat → Value), FM.le f f130 ∧ St t w_ f130 (s138 :: [(b19, .cells #[.int .i64 c7.W, .int .i64 c7.H, .slice A8 c7.Bias.length c9, .slice A11 c7.Dark.length c12, .slice A14 c7.Flat.length c15, .int .i64 c7.Full, .int .i64 c7.Gain, .int .i64 c7.Noise] 30 (0, 0))] :: [(b1, .cells #[.slice A4 s3.L.length c5, .int .i64 x142] 26 (0, 0))] :: H) ∧ Own (tInt .i64) 28 f130 A136 c137 s138 out135 ∧ spykeep3_filled.l0 k c7 s3 n_ out135 x141 x142 = some o126 ∧ a_ = ⟨#[pV b1 0, (ag_Sensor c7 A8 c9 A11 c12 A14 c15), uV, pV b19 0, .slice none 0 0, .slice A136 out135.length c137, (j134 0), pV b19 0, iV c7.W, pV b19 1, iV c7.H, iV (w64 (c7.W * c7.H)), iV x141, (j134 1), (j134 2), (j134 3), (j134 4), (j134 5), (j134 6), (j134 7), (j134 8), (j134 9), (j134 10), (j134 11), (j134 12), (j134 13), (j134 14), (j134 15), (j134 16), (j134 17), (j134 18), (j134 19), uV], []⟩) k ⟨f, none, 0, [], ([] : List Int), 0, s3.vat, (fun i_ => [undef, undef, undef, undef, undef, undef, undef, undef, undef, undef, undef, undef, undef, undef, undef, undef, undef, undef, undef, undef].getD i_ undef), (FM.le.refl _), HS233, (Own.nil _), h, kr⟩ ?_
 clear h
 rintro n129 _ W132 ⟨f130, A136, c137, s138, out135, x141, x142, j134, L131, HS133, HO139, h, rfl⟩ K127 hK128
 obtain _ | n129 := n129
 · exact nomatch h
 simp only [spykeep3_filled.l0] at h
 refine wp_seq_k fun K143 hK144 => rl ?_
 refine seqL1 kr ?_
 refine nl (hK144 _ _ ?_)
 refine wp_seq_k (fun K145 hK146 => ?_)
 have hq_ := ite_some h; clear h; rcases hq_ with ⟨c148, h⟩ | ⟨c148, h⟩
 · have c148 : x141 < (w64 (c7.W * c7.H)) := c148
   refine wpRwI 13 (x := (decide (x141 < (w64 (c7.W * c7.H))))) (v := true) kr (decide_eq_true c148) ?_
   refine condT kr ?_
   refine wp_skip ?_
   refine hK146 _ _ ?_
   refine wp_seq_k (fun K149 hK150 => ?_)
   refine blockK (fun B151 hx152 hn153 hr154 ho155 hp156 => ?_)
   refine wp_seq_k fun K158 hK159 => rl ?_
   refine seqL2 kr ?_
   refine seqK rfl (does_run (run_load rfl Tryz.underlying28 rfl (kv (.pointer (some ⟨b19, 5, none⟩))) (HS133.u1.cell 5)) ?_)
   have HS160 := HS133.u2
   have hq_ := bind_some h; clear h; obtain ⟨⟨vt161, vt162⟩, hc163, h⟩ := hq_
   refine seqL1 kr ?_
   refine seqK rfl (does_call (f := 10) (args := #[.pointer (some ⟨b1, 0, none⟩), .int .i64 (w64 (c7.Full + 1))]) kr (spymake_Stream_Next.calls k b1 A4 c5 (⟨s3.L, x142⟩ : S_Stream) (w64 (c7.Full + 1)) HS160 (HR6.mono L131) vt161 vt162 hc163) ?_)
   rintro _ W166 ⟨f164, rfl, L165, HS167⟩
   refine ⟨_, rfl, ?_⟩
   refine seqL1 kr ?_
   refine nl (hK159 _ _ ?_)
   refine wp_seq_k (fun K168 hK169 => ?_)
   refine wp_seq_k fun K170 hK171 => rl ?_
   have hq_ := bind_some h; clear h; obtain ⟨⟨vt172, vt173⟩, hc174, h⟩ := hq_
   refine seqL1 kr ?_
   refine seqK rfl (does_call (f := 10) (args := #[.pointer (some ⟨b1, 0, none⟩), .int .i64 5]) kr (spymake_Stream_Next.calls k b1 A4 c5 (⟨s3.L, vt162⟩ : S_Stream) 5 HS167 (HR6.mono (L131.trans L165)) vt172 vt173 hc174) ?_)
   rintro _ W177 ⟨f175, rfl, L176, HS178⟩
   refine ⟨_, rfl, ?_⟩
   refine seqL1 kr ?_
   refine nl (hK171 _ _ ?_)
   have hq_ := ite_some h; clear h; rcases hq_ with ⟨c180, h⟩ | ⟨c180, h⟩
   · have c180 : vt172 = 0 := c180
     refine wpRwI 21 (x := (vt172 == 0)) (v := true) kr (beq_iff_eq.mpr c180) ?_
     refine condT kr ?_
     refine rl ?_
     refine seqL2 kr ?_
     refine seqK rfl (does_run (run_load rfl Tryz.underlying28 rfl (kv (.pointer (some ⟨b19, 5, none⟩))) (HS178.u2.cell 5)) ?_)
     have hq_ := bind_some h; clear h; obtain ⟨⟨vt181, vt182⟩, hc183, h⟩ := hq_
     refine seqL1 kr ?_
     refine seqK rfl (does_call (f := 10) (args := #[.pointer (some ⟨b1, 0, none⟩), .int .i64 (w64 (4 * c7.Full))]) kr (spymake_Stream_Next.calls k b1 A4 c5 (⟨s3.L, vt173⟩ : S_Stream) (w64 (4 * c7.Full)) HS178 (HR6.mono (L131.trans (L165.trans L176))) vt181 vt182 hc183) ?_)
     rintro _ W186 ⟨f184, rfl, L185, HS187⟩
     refine ⟨_, rfl, ?_⟩
     refine seqL1 kr ?_
     refine nl (hK169 _ _ ?_)
     refine rl ?_
     refine seqL2 kr ?_
     refine seqK rfl (does_lit (e := (tInt .i64)) (E := 28) (vs := #[(0, Value.int .i64 vt181)]) (cs := #[.int .i64 vt181]) (xs := ([vt181] : List Int)) rfl Tryz.underlying32 kr kr ⟨[.int .i64 vt181], _, rfl, rfl, rfl⟩ rfl HS187 ?_ (by decide))
     intro b188 W189 s190 HS191 _ HO192
     have hq_ := guard_some h; clear h; obtain ⟨c194, h⟩ := hq_
     have c194 : (out135.length + 1) * 8 ≤ 140737488355328 := c194
     have HS195 := HS191.u2
     have HS196 := HS195.u1
     refine seqK rfl (does_append1 (e := (tInt .i64)) (E := 28) (xs := out135) (ys := ([vt181] : List Int)) rfl (kv (.slice A136 out135.length c137)) (kv (.slice (some ⟨b188, 0, none⟩) ([vt181] : List Int).length 1)) Tryz.underlying32 inf28 (HO139.mono (L165.trans (L176.trans L185))) HO192 HS196 c194 (lim63 c194 (by decide)) ?_)
     intro A197 c198 s199 W200 HS201 HO202
     refine seqL1 kr ?_
     refine nl ?_
     refine hn153 _ _ ?_
     refine hK150 _ _ ?_
     refine rl ?_
     refine seqL2 kr ?_
     refine nl ?_
     refine hK128 n129 _ _ (Nat.lt_succ_self _) ?_
     have HS235 := HS201.u1
     have HS236 := HS235.u2
     have HS237 := HS236.u2
     exact ⟨f184, A197, c198, s199, (out135 ++ ([vt181] : List Int)), (w64 (x141 + 1)), vt182, (fun i_ => [Value.int .i64 vt181, Value.bool true, Value.pointer (some ⟨b1, 0, none⟩), Value.pointer (some ⟨b19, 5, none⟩), Value.int .i64 c7.Full, Value.int .i64 (w64 (c7.Full + 1)), Value.int .i64 vt161, Value.pointer (some ⟨b1, 0, none⟩), Value.int .i64 vt172, Value.bool true, Value.pointer (some ⟨b1, 0, none⟩), Value.pointer (some ⟨b19, 5, none⟩), Value.int .i64 c7.Full, Value.int .i64 (w64 (4 * c7.Full)), Value.int .i64 vt181, Value.slice A136 out135.length c137, Value.int .i64 vt181, Value.slice (some ⟨b188, 0, none⟩) ([vt181] : List Int).length 1, Value.slice A197 (out135 ++ ([vt181] : List Int)).length c198, Value.int .i64 (w64 (x141 + 1))].getD i_ undef), (L131.trans (L165.trans (L176.trans L185))), HS237, HO202, h, kr⟩
   · have c180 : ¬ (vt172 = 0) := c180
     refine wpRwI 21 (x := (vt172 == 0)) (v := false) kr (beq_eq_false_iff_ne.mpr c180) ?_
     refine condF kr ?_
     refine wp_skip ?_
     refine hK169 _ _ ?_
     refine rl ?_
     refine seqL2 kr ?_
     refine seqK rfl (does_lit (e := (tInt .i64)) (E := 28) (vs := #[(0, Value.int .i64 vt161)]) (cs := #[.int .i64 vt161]) (xs := ([vt161] : List Int)) rfl Tryz.underlying32 kr kr ⟨[.int .i64 vt161], _, rfl, rfl, rfl⟩ rfl HS178 ?_ (by decide))
     intro b203 W204 s205 HS206 _ HO207
     have hq_ := guard_some h; clear h; obtain ⟨c209, h⟩ := hq_
     have c209 : (out135.length + 1) * 8 ≤ 140737488355328 := c209
     have HS210 := HS206.u2
     have HS211 := HS210.u1
     refine seqK rfl (does_append1 (e := (tInt .i64)) (E := 28) (xs := out135) (ys := ([vt161] : List Int)) rfl (kv (.slice A136 out135.length c137)) (kv (.slice (some ⟨b203, 0, none⟩) ([vt161] : List Int).length 1)) Tryz.underlying32 inf28 (HO139.mono (L165.trans L176)) HO207 HS211 c209 (lim63 c209 (by decide)) ?_)
     intro A212 c213 s214 W215 HS216 HO217
     refine seqL1 kr ?_
     refine nl ?_
     refine hn153 _ _ ?_
     refine hK150 _ _ ?_
     refine rl ?_
     refine seqL2 kr ?_
     refine nl ?_
     refine hK128 n129 _ _ (Nat.lt_succ_self _) ?_
     have HS238 := HS216.u1
     have HS239 := HS238.u2
     have HS240 := HS239.u2
     exact ⟨f175, A212, c213, s214, (out135 ++ ([vt161] : List Int)), (w64 (x141 + 1)), vt173, (fun i_ => [Value.int .i64 vt161, Value.bool true, Value.pointer (some ⟨b1, 0, none⟩), Value.pointer (some ⟨b19, 5, none⟩), Value.int .i64 c7.Full, Value.int .i64 (w64 (c7.Full + 1)), Value.int .i64 vt161, Value.pointer (some ⟨b1, 0, none⟩), Value.int .i64 vt172, Value.bool false, (j134 10), (j134 11), (j134 12), (j134 13), (j134 14), Value.slice A136 out135.length c137, Value.int .i64 vt161, Value.slice (some ⟨b203, 0, none⟩) ([vt161] : List Int).length 1, Value.slice A212 (out135 ++ ([vt161] : List Int)).length c213, Value.int .i64 (w64 (x141 + 1))].getD i_ undef), (L131.trans (L165.trans L176)), HS240, HO217, h, kr⟩
 · have c148 : ¬ (x141 < (w64 (c7.W * c7.H))) := c148
   refine wpRwI 13 (x := (decide (x141 < (w64 (c7.W * c7.H))))) (v := false) kr (decide_eq_false c148) ?_
   refine condF kr ?_
   refine wp_exit ?_
   refine hx30 _ _ ?_
   exact J231 f130 A136 c137 s138 out135 x142 (fun i_ => [(j134 0), Value.int .i64 x141, Value.bool false, (j134 2), (j134 3), (j134 4), (j134 5), (j134 6), (j134 7), (j134 8), (j134 9), (j134 10), (j134 11), (j134 12), (j134 13), (j134 14), (j134 15), (j134 16), (j134 17), (j134 18), (j134 19)].getD i_ undef) W132 _ L131 h HS133 HO139 kr

set_option maxRecDepth 100000 in
set_option maxHeartbeats 4000000 in
theorem sensor_outside_int_1.calls (k : Nat) (b1 : Nat) (v3 : Int) (x4 : Int) {t w : World} {f : FM} {H : List Seg} (HS : St t w f ([(b1, .cells #[.int .i64 v3] 3 (0, 0))] :: H)) (rr1 : Bool) (h : sensor_outside_int_1 k v3 x4 = some rr1) :
    Calls Tryz.prog 52 #[.int .i64 x4, .pointer (some ⟨b1, 0, none⟩)] w (fun e w' => ∃ (g : FM), e = .returned (Value.bool rr1) ∧ FM.le f g ∧ St t w' g ([(b1, .cells #[.int .i64 v3] 3 (0, 0))] :: H)) := by
 unfold sensor_outside_int_1 at h
 refine enter Tryz.func52 rfl (tm := #[iV x4, pV b1 0, uV, uV, uV, uV, uV, uV, uV, uV, uV]) kr ?_
 intro B hret hnor hnp
 refine wp_seq_k fun K5 hK6 => rl ?_
 refine seqL1 kr ?_
 refine nl (hK6 _ _ ?_)
 refine wp_seq_k fun K7 hK8 => rl ?_
 refine seqL3 kr ?_
 have hq_ := ite_some h; clear h; rcases hq_ with ⟨c9, h⟩ | ⟨c9, h⟩
 · have c9 : x4 < 0 := c9
   refine seqRwI 5 (x := (decide (x4 < 0))) (v := true) kr (decide_eq_true c9) ?_
   refine seqRwI 6 (x := (decide (x4 < 0))) (v := true) kr (decide_eq_true c9) ?_
   refine seqL5 kr ?_
   refine nl (hK8 _ _ ?_)
   refine wp_ret ?_
   refine hret _ _ ?_
   refine ends_still (v := Value.bool true) kr kr ?_
   injection h with h
   subst h
   exact ⟨f, rfl, FM.le.refl _, HS⟩
 · have c9 : ¬ (x4 < 0) := c9
   refine seqRwI 5 (x := (decide (x4 < 0))) (v := false) kr (decide_eq_false c9) ?_
   refine seqRwI 6 (x := (decide (x4 < 0))) (v := false) kr (decide_eq_false c9) ?_
   refine seqL1 kr ?_
   refine seqG kr (does_run (run_load rfl Tryz.underlying3 rfl (kv (.pointer (some ⟨b1, 0, none⟩))) (HS.cell 0)) ?_)
   refine seqL3 kr ?_
   refine nl (hK8 _ _ ?_)
   refine wp_ret ?_
   refine hret _ _ ?_
   refine ends_still (v := Value.bool (decide (x4 > v3))) kr kr ?_
   injection h with h
   subst h
   exact ⟨f, rfl, FM.le.refl _, HS⟩

set_option maxRecDepth 100000 in
set_option maxHeartbeats 4000000 in
theorem slices_IndexFunc_int__sensor_outside_int_1.calls (k : Nat) (b1 : Nat) (A5 : Option Addr) (c6 : Nat) (v3 : Int) (s4 : List Int) {t w : World} {f : FM} {H : List Seg} (HS : St t w f ([(b1, .cells #[.int .i64 v3] 3 (0, 0))] :: H)) (HR7 : SlR (tInt .i64) f A5 c6 s4) (rr1 : Int) (h : slices_IndexFunc_int__sensor_outside_int_1 k v3 s4 = some rr1) :
    Calls Tryz.prog 70 #[.slice A5 s4.length c6, .func (.func 52) #[] #[.pointer (some ⟨b1, 0, none⟩)]] w (fun e w' => ∃ (g : FM), e = .returned (Value.int .i64 rr1) ∧ FM.le f g ∧ St t w' g ([(b1, .cells #[.int .i64 v3] 3 (0, 0))] :: H)) := by
 unfold slices_IndexFunc_int__sensor_outside_int_1 at h
 refine enter Tryz.func70 rfl (tm := #[.slice A5 s4.length c6, .func (.func 52) #[] #[pV b1 0], uV, uV, uV, uV, uV, uV, uV, uV, uV, uV, uV, uV, uV, uV, uV, uV, uV]) kr ?_
 intro B hret hnor hnp
 refine wp_seq_k fun K8 hK9 => rl ?_
 refine seqL1 kr ?_
 refine nl (hK9 _ _ ?_)
 refine wp_seq_k (fun K10 hK11 => ?_)
 refine wp_seq_k fun K12 hK13 => rl ?_
 refine seqL3 kr ?_
 refine nl (hK13 _ _ ?_)
 refine blockK (fun B14 hx15 hn16 hr17 ho18 hp19 => ?_)
 have hq_ := bind_some h; clear h; obtain ⟨o20, hv71, h⟩ := hq_
 have JR73 : ∀ z_, some (Sum.inl z_) = some o20 → some z_ = some rr1 := by
  intro z_ e_; injection e_ with e_; subst e_; exact h
 have J72 : ∀ (f66 : FM) (j70 : Nat → Value) (W68 : World) (a_ : Act), FM.le f f66 → some (Sum.inr ()) = some o20 → St t W68 f66 ([(b1, .cells #[.int .i64 v3] 3 (0, 0))] :: H) → a_ = ⟨#[.slice A5 s4.length c6, .func (.func 52) #[] #[pV b1 0], uV, uV, (j70 0), (j70 1), .slice A5 s4.length c6, iV (s4.length : Int), (j70 2), (j70 3), (j70 4), (j70 5), (j70 6), (j70 7), (j70 8), (j70 9), (j70 10), (j70 11), (j70 12)], []⟩ → K10 a_ W68 := by
  intro f66 j70 W68 a_ L67 hj74 HS69  hfr_; subst hfr_
  injection hj74 with hj74; subst hj74; try dsimp only at h
  simp only [Sum.elim_inr] at h
  refine hK11 _ _ ?_
  refine wp_seq_k fun K75 hK76 => rl ?_
  refine seqL1 kr ?_
  refine nl (hK76 _ _ ?_)
  refine wp_ret ?_
  refine hret _ _ ?_
  refine ends_still (v := Value.int .i64 (-1)) kr kr ?_
  injection h with h
  subst h
  exact ⟨f66, rfl, L67, HS69⟩
 clear h; have h := hv71; clear hv71
 refine loopK (fun n_ a_ w_ => ∃ (f24 : FM) (x29 : Int) (j28 : Nat → Value), FM.le f f24 ∧ St t w_ f24 ([(b1, .cells #[.int .i64 v3] 3 (0, 0))] :: H) ∧ slices_IndexFunc_int__sensor_outside_int_1.l0 k s4 v3 n_ x29 = some o20 ∧ a_ = ⟨#[.slice A5 s4.length c6, .func (.func 52) #[] #[pV b1 0], uV, uV, (j28 0), (j28 1), .slice A5 s4.length c6, iV (s4.length : Int), iV x29, (j28 2), (j28 3), (j28 4), (j28 5), (j28 6), (j28 7), (j28 8), (j28 9), (j28 10), (j28 11)], []⟩) k ⟨f, 0, (fun i_ => [Value.int .i64 0, undef, undef, undef, undef, undef, undef, undef, undef, undef, undef, undef].getD i_ undef), (FM.le.refl _), HS, h, kr⟩ ?_
 clear h
 rintro n23 _ W26 ⟨f24, x29, j28, L25, HS27, h, rfl⟩ K21 hK22
 obtain _ | n23 := n23
 · exact nomatch h
 simp only [slices_IndexFunc_int__sensor_outside_int_1.l0] at h
 refine wp_seq_k fun K30 hK31 => rl ?_
 refine seqL1 kr ?_
 refine nl (hK31 _ _ ?_)
 refine wp_seq_k (fun K32 hK33 => ?_)
 have hq_ := ite_some h; clear h; rcases hq_ with ⟨c35, h⟩ | ⟨c35, h⟩
 · have c35 : x29 < (s4.length : Int) := c35
   refine wpRwI 9 (x := (decide (x29 < (s4.length : Int)))) (v := true) kr (decide_eq_true c35) ?_
   refine condT kr ?_
   refine wp_skip ?_
   refine hK33 _ _ ?_
   refine wp_seq_k (fun K36 hK37 => ?_)
   refine blockK (fun B38 hx39 hn40 hr41 ho42 hp43 => ?_)
   refine wp_seq_k fun K45 hK46 => rl ?_
   refine seqL2 kr ?_
   refine nl (hK46 _ _ ?_)
   refine wp_seq_k fun K47 hK48 => rl ?_
   have hq_ := guard_some h; clear h; obtain ⟨c49, h⟩ := hq_
   have c49 : 0 ≤ x29 := c49
   obtain ⟨b53, of54, cs50, hA55, hr51, hc52⟩ := (HR7.mono L25).at (i := x29) c49 c35
   obtain rfl := hr51
   refine seqL3 kr ?_
   refine seqK rfl (does_run (run_indexE hA55 (sz := 1) rfl Tryz.underlying22 kr (kv (.slice A5 s4.length c6)) (kv (.int .i64 x29)) c49 c35 W26) ?_)
   refine seqK rfl (does_run (run_load rfl Tryz.underlying3 rfl (kv (.pointer (some ⟨b53, of54 + (x29 : Int).toNat * 1, none⟩))) ((hc52 (FM.le.refl _) HS27) 0 (by decide))) ?_)
   have hq_ := bind_some h; clear h; obtain ⟨vt56, hc57, h⟩ := hq_
   refine seqK rfl (does_call (f := 52) (args := #[.int .i64 (rd s4 x29), .pointer (some ⟨b1, 0, none⟩)]) kr (sensor_outside_int_1.calls k b1 v3 (rd s4 x29) HS27 vt56 hc57) ?_)
   rintro _ W60 ⟨f58, rfl, L59, HS61⟩
   refine ⟨_, rfl, ?_⟩
   refine nl (hK48 _ _ ?_)
   have hq_ := ite_some h; clear h; rcases hq_ with ⟨c63, h⟩ | ⟨c63, h⟩
   · have c63 : vt56 = true := c63
     refine wpRwI 16 (x := vt56) (v := true) kr c63 ?_
     refine condT kr ?_
     refine wp_seq_k fun K64 hK65 => rl ?_
     refine seqL2 kr ?_
     refine nl (hK65 _ _ ?_)
     refine wp_ret ?_
     refine hr41 _ _ ?_
     refine hr17 _ _ ?_
     refine hret _ _ ?_
     refine ends_still (v := Value.int .i64 x29) kr kr ?_
     replace h := JR73 _ h
     injection h with h
     subst h
     exact ⟨f58, rfl, (L25.trans L59), HS61⟩
   · have c63 : ¬ (vt56 = true) := c63
     refine wpRwI 16 (x := vt56) (v := false) kr (Bool.eq_false_iff.mpr c63) ?_
     refine condF kr ?_
     refine wp_skip ?_
     refine hn40 _ _ ?_
     refine hK37 _ _ ?_
     refine rl ?_
     refine seqL2 kr ?_
     refine nl ?_
     refine hK22 n23 _ _ (Nat.lt_succ_self _) ?_
     exact ⟨f58, (w64 (x29 + 1)), (fun i_ => [(j28 0), Value.int .i64 x29, Value.bool true, Value.int .i64 x29, Value.func (.func 52) #[] #[.pointer (some ⟨b1, 0, none⟩)], Value.slice A5 s4.length c6, Value.int .i64 x29, Value.pointer (some ⟨b53, of54 + (x29 : Int).toNat * 1, none⟩), Value.int .i64 (rd s4 x29), Value.bool false, (j28 10), Value.int .i64 (w64 (x29 + 1))].getD i_ undef), (L25.trans L59), HS61, h, kr⟩
 · have c35 : ¬ (x29 < (s4.length : Int)) := c35
   refine wpRwI 9 (x := (decide (x29 < (s4.length : Int)))) (v := false) kr (decide_eq_false c35) ?_
   refine condF kr ?_
   refine wp_exit ?_
   refine hx15 _ _ ?_
   exact J72 f24 (fun i_ => [(j28 0), (j28 1), Value.int .i64 x29, Value.bool false, (j28 3), (j28 4), (j28 5), (j28 6), (j28 7), (j28 8), (j28 9), (j28 10), (j28 11)].getD i_ undef) W26 _ L25 h HS27 kr

set_option maxRecDepth 100000 in
set_option maxHeartbeats 4000000 in
theorem slices_ContainsFunc_int__sensor_outside_int_1.calls (k : Nat) (b1 : Nat) (A5 : Option Addr) (c6 : Nat) (v3 : Int) (s4 : List Int) {t w : World} {f : FM} {H : List Seg} (HS : St t w f ([(b1, .cells #[.int .i64 v3] 3 (0, 0))] :: H)) (HR7 : SlR (tInt .i64) f A5 c6 s4) (rr1 : Bool) (h : slices_ContainsFunc_int__sensor_outside_int_1 k v3 s4 = some rr1) :
    Calls Tryz.prog 51 #[.slice A5 s4.length c6, .func (.func 52) #[] #[.pointer (some ⟨b1, 0, none⟩)]] w (fun e w' => ∃ (g : FM), e = .returned (Value.bool rr1) ∧ FM.le f g ∧ St t w' g ([(b1, .cells #[.int .i64 v3] 3 (0, 0))] :: H)) := by
 unfold slices_ContainsFunc_int__sensor_outside_int_1 at h
 refine enter Tryz.func51 rfl (tm := #[.slice A5 s4.length c6, .func (.func 52) #[] #[pV b1 0], uV, uV, uV, uV, uV, uV, uV]) kr ?_
 intro B hret hnor hnp
 refine wp_seq_k fun K8 hK9 => rl ?_
 refine seqL1 kr ?_
 refine nl (hK9 _ _ ?_)
 refine wp_seq_k fun K10 hK11 => rl ?_
 have hq_ := bind_some h; clear h; obtain ⟨vt12, hc13, h⟩ := hq_
 refine seqL2 kr ?_
 refine seqK rfl (does_call (f := 70) (args := #[.slice A5 s4.length c6, .func (.func 52) #[] #[.pointer (some ⟨b1, 0, none⟩)]]) kr (slices_IndexFunc_int__sensor_outside_int_1.calls k b1 A5 c6 v3 s4 HS HR7 vt12 hc13) ?_)
 rintro _ W16 ⟨f14, rfl, L15, HS17⟩
 refine ⟨_, rfl, ?_⟩
 refine seqL2 kr ?_
 refine nl (hK11 _ _ ?_)
 refine wp_ret ?_
 refine hret _ _ ?_
 refine ends_still (v := Value.bool (decide (vt12 ≥ 0))) kr kr ?_
 injection h with h
 subst h
 exact ⟨f14, rfl, L15, HS17⟩

set_option maxRecDepth 100000 in
set_option maxHeartbeats 4000000 in
theorem sensor_outside_int.calls (k : Nat) (A2 : Option Addr) (c3 : Nat) (l1 : List Int) (most5 : Int) {t w : World} {f : FM} {H : List Seg} (HS : St t w f (H)) (HR4 : SlR (tInt .i64) f A2 c3 l1) (rr1 : Bool) (h : sensor_outside_int k l1 most5 = some rr1) :
    Calls Tryz.prog 44 #[.slice A2 l1.length c3, .int .i64 most5] w (fun e w' => ∃ (g : FM), e = .returned (Value.bool rr1) ∧ FM.le f g ∧ St t w' g (H)) := by
 unfold sensor_outside_int at h
 refine enter Tryz.func44 rfl (tm := #[.slice A2 l1.length c3, iV most5, uV, uV, uV, uV, uV, uV]) kr ?_
 intro B hret hnor hnp
 refine wp_seq_k fun K6 hK7 => rl ?_
 refine seqK rfl (does_box (cs := #[.int .i64 most5]) rfl (kv (.int .i64 most5)) rfl HS ?_)
 intro b8 W9 HS10
 refine seqL1 kr ?_
 refine nl (hK7 _ _ ?_)
 refine wp_seq_k fun K12 hK13 => rl ?_
 have hq_ := bind_some h; clear h; obtain ⟨vt14, hc15, h⟩ := hq_
 refine seqL2 kr ?_
 refine seqK rfl (does_call (f := 51) (args := #[.slice A2 l1.length c3, .func (.func 52) #[] #[.pointer (some ⟨b8, 0, none⟩)]]) kr (slices_ContainsFunc_int__sensor_outside_int_1.calls k b8 A2 c3 most5 l1 HS10 HR4 vt14 hc15) ?_)
 rintro _ W18 ⟨f16, rfl, L17, HS19⟩
 refine ⟨_, rfl, ?_⟩
 refine seqL1 kr ?_
 refine nl (hK13 _ _ ?_)
 refine wp_ret ?_
 refine hret _ _ ?_
 refine ends_still (v := Value.bool vt14) kr kr ?_
 have HS20 := HS19.drop
 injection h with h
 subst h
 exact ⟨f16, rfl, L17, HS20⟩

set_option maxRecDepth 100000 in
set_option maxHeartbeats 4000000 in
theorem sensor_outside_Light_1.calls (k : Nat) (b1 : Nat) (v3 : Int) (x4 : Int) {t w : World} {f : FM} {H : List Seg} (HS : St t w f ([(b1, .cells #[.int .i64 v3] 60 (0, 0))] :: H)) (rr1 : Bool) (h : sensor_outside_Light_1 k v3 x4 = some rr1) :
    Calls Tryz.prog 54 #[.int .i64 x4, .pointer (some ⟨b1, 0, none⟩)] w (fun e w' => ∃ (g : FM), e = .returned (Value.bool rr1) ∧ FM.le f g ∧ St t w' g ([(b1, .cells #[.int .i64 v3] 60 (0, 0))] :: H)) := by
 unfold sensor_outside_Light_1 at h
 refine enter Tryz.func54 rfl (tm := #[iV x4, pV b1 0, uV, uV, uV, uV, uV, uV, uV, uV, uV]) kr ?_
 intro B hret hnor hnp
 refine wp_seq_k fun K5 hK6 => rl ?_
 refine seqL1 kr ?_
 refine nl (hK6 _ _ ?_)
 refine wp_seq_k fun K7 hK8 => rl ?_
 refine seqL3 kr ?_
 have hq_ := ite_some h; clear h; rcases hq_ with ⟨c9, h⟩ | ⟨c9, h⟩
 · have c9 : x4 < 0 := c9
   refine seqRwI 5 (x := (decide (x4 < 0))) (v := true) kr (decide_eq_true c9) ?_
   refine seqRwI 6 (x := (decide (x4 < 0))) (v := true) kr (decide_eq_true c9) ?_
   refine seqL5 kr ?_
   refine nl (hK8 _ _ ?_)
   refine wp_ret ?_
   refine hret _ _ ?_
   refine ends_still (v := Value.bool true) kr kr ?_
   injection h with h
   subst h
   exact ⟨f, rfl, FM.le.refl _, HS⟩
 · have c9 : ¬ (x4 < 0) := c9
   refine seqRwI 5 (x := (decide (x4 < 0))) (v := false) kr (decide_eq_false c9) ?_
   refine seqRwI 6 (x := (decide (x4 < 0))) (v := false) kr (decide_eq_false c9) ?_
   refine seqL1 kr ?_
   refine seqG kr (does_run (run_load rfl Tryz.underlying60 rfl (kv (.pointer (some ⟨b1, 0, none⟩))) (HS.cell 0)) ?_)
   refine seqL3 kr ?_
   refine nl (hK8 _ _ ?_)
   refine wp_ret ?_
   refine hret _ _ ?_
   refine ends_still (v := Value.bool (decide (x4 > v3))) kr kr ?_
   injection h with h
   subst h
   exact ⟨f, rfl, FM.le.refl _, HS⟩

set_option maxRecDepth 100000 in
set_option maxHeartbeats 4000000 in
theorem slices_IndexFunc_Light__sensor_outside_Light_1.calls (k : Nat) (b1 : Nat) (A5 : Option Addr) (c6 : Nat) (v3 : Int) (s4 : List Int) {t w : World} {f : FM} {H : List Seg} (HS : St t w f ([(b1, .cells #[.int .i64 v3] 60 (0, 0))] :: H)) (HR7 : SlR (tInt .i64) f A5 c6 s4) (rr1 : Int) (h : slices_IndexFunc_Light__sensor_outside_Light_1 k v3 s4 = some rr1) :
    Calls Tryz.prog 71 #[.slice A5 s4.length c6, .func (.func 54) #[] #[.pointer (some ⟨b1, 0, none⟩)]] w (fun e w' => ∃ (g : FM), e = .returned (Value.int .i64 rr1) ∧ FM.le f g ∧ St t w' g ([(b1, .cells #[.int .i64 v3] 60 (0, 0))] :: H)) := by
 unfold slices_IndexFunc_Light__sensor_outside_Light_1 at h
 refine enter Tryz.func71 rfl (tm := #[.slice A5 s4.length c6, .func (.func 54) #[] #[pV b1 0], uV, uV, uV, uV, uV, uV, uV, uV, uV, uV, uV, uV, uV, uV, uV, uV, uV]) kr ?_
 intro B hret hnor hnp
 refine wp_seq_k fun K8 hK9 => rl ?_
 refine seqL1 kr ?_
 refine nl (hK9 _ _ ?_)
 refine wp_seq_k (fun K10 hK11 => ?_)
 refine wp_seq_k fun K12 hK13 => rl ?_
 refine seqL3 kr ?_
 refine nl (hK13 _ _ ?_)
 refine blockK (fun B14 hx15 hn16 hr17 ho18 hp19 => ?_)
 have hq_ := bind_some h; clear h; obtain ⟨o20, hv71, h⟩ := hq_
 have JR73 : ∀ z_, some (Sum.inl z_) = some o20 → some z_ = some rr1 := by
  intro z_ e_; injection e_ with e_; subst e_; exact h
 have J72 : ∀ (f66 : FM) (j70 : Nat → Value) (W68 : World) (a_ : Act), FM.le f f66 → some (Sum.inr ()) = some o20 → St t W68 f66 ([(b1, .cells #[.int .i64 v3] 60 (0, 0))] :: H) → a_ = ⟨#[.slice A5 s4.length c6, .func (.func 54) #[] #[pV b1 0], uV, uV, (j70 0), (j70 1), .slice A5 s4.length c6, iV (s4.length : Int), (j70 2), (j70 3), (j70 4), (j70 5), (j70 6), (j70 7), (j70 8), (j70 9), (j70 10), (j70 11), (j70 12)], []⟩ → K10 a_ W68 := by
  intro f66 j70 W68 a_ L67 hj74 HS69  hfr_; subst hfr_
  injection hj74 with hj74; subst hj74; try dsimp only at h
  simp only [Sum.elim_inr] at h
  refine hK11 _ _ ?_
  refine wp_seq_k fun K75 hK76 => rl ?_
  refine seqL1 kr ?_
  refine nl (hK76 _ _ ?_)
  refine wp_ret ?_
  refine hret _ _ ?_
  refine ends_still (v := Value.int .i64 (-1)) kr kr ?_
  injection h with h
  subst h
  exact ⟨f66, rfl, L67, HS69⟩
 clear h; have h := hv71; clear hv71
 refine loopK (fun n_ a_ w_ => ∃ (f24 : FM) (x29 : Int) (j28 : Nat → Value), FM.le f f24 ∧ St t w_ f24 ([(b1, .cells #[.int .i64 v3] 60 (0, 0))] :: H) ∧ slices_IndexFunc_Light__sensor_outside_Light_1.l0 k s4 v3 n_ x29 = some o20 ∧ a_ = ⟨#[.slice A5 s4.length c6, .func (.func 54) #[] #[pV b1 0], uV, uV, (j28 0), (j28 1), .slice A5 s4.length c6, iV (s4.length : Int), iV x29, (j28 2), (j28 3), (j28 4), (j28 5), (j28 6), (j28 7), (j28 8), (j28 9), (j28 10), (j28 11)], []⟩) k ⟨f, 0, (fun i_ => [Value.int .i64 0, undef, undef, undef, undef, undef, undef, undef, undef, undef, undef, undef].getD i_ undef), (FM.le.refl _), HS, h, kr⟩ ?_
 clear h
 rintro n23 _ W26 ⟨f24, x29, j28, L25, HS27, h, rfl⟩ K21 hK22
 obtain _ | n23 := n23
 · exact nomatch h
 simp only [slices_IndexFunc_Light__sensor_outside_Light_1.l0] at h
 refine wp_seq_k fun K30 hK31 => rl ?_
 refine seqL1 kr ?_
 refine nl (hK31 _ _ ?_)
 refine wp_seq_k (fun K32 hK33 => ?_)
 have hq_ := ite_some h; clear h; rcases hq_ with ⟨c35, h⟩ | ⟨c35, h⟩
 · have c35 : x29 < (s4.length : Int) := c35
   refine wpRwI 9 (x := (decide (x29 < (s4.length : Int)))) (v := true) kr (decide_eq_true c35) ?_
   refine condT kr ?_
   refine wp_skip ?_
   refine hK33 _ _ ?_
   refine wp_seq_k (fun K36 hK37 => ?_)
   refine blockK (fun B38 hx39 hn40 hr41 ho42 hp43 => ?_)
   refine wp_seq_k fun K45 hK46 => rl ?_
   refine seqL2 kr ?_
   refine nl (hK46 _ _ ?_)
   refine wp_seq_k fun K47 hK48 => rl ?_
   have hq_ := guard_some h; clear h; obtain ⟨c49, h⟩ := hq_
   have c49 : 0 ≤ x29 := c49
   obtain ⟨b53, of54, cs50, hA55, hr51, hc52⟩ := (HR7.mono L25).at (i := x29) c49 c35
   obtain rfl := hr51
   refine seqL3 kr ?_
   refine seqK rfl (does_run (run_indexE hA55 (sz := 1) rfl Tryz.underlying27 kr (kv (.slice A5 s4.length c6)) (kv (.int .i64 x29)) c49 c35 W26) ?_)
   refine seqK rfl (does_run (run_load rfl Tryz.underlying60 rfl (kv (.pointer (some ⟨b53, of54 + (x29 : Int).toNat * 1, none⟩))) ((hc52 (FM.le.refl _) HS27) 0 (by decide))) ?_)
   have hq_ := bind_some h; clear h; obtain ⟨vt56, hc57, h⟩ := hq_
   refine seqK rfl (does_call (f := 54) (args := #[.int .i64 (rd s4 x29), .pointer (some ⟨b1, 0, none⟩)]) kr (sensor_outside_Light_1.calls k b1 v3 (rd s4 x29) HS27 vt56 hc57) ?_)
   rintro _ W60 ⟨f58, rfl, L59, HS61⟩
   refine ⟨_, rfl, ?_⟩
   refine nl (hK48 _ _ ?_)
   have hq_ := ite_some h; clear h; rcases hq_ with ⟨c63, h⟩ | ⟨c63, h⟩
   · have c63 : vt56 = true := c63
     refine wpRwI 16 (x := vt56) (v := true) kr c63 ?_
     refine condT kr ?_
     refine wp_seq_k fun K64 hK65 => rl ?_
     refine seqL2 kr ?_
     refine nl (hK65 _ _ ?_)
     refine wp_ret ?_
     refine hr41 _ _ ?_
     refine hr17 _ _ ?_
     refine hret _ _ ?_
     refine ends_still (v := Value.int .i64 x29) kr kr ?_
     replace h := JR73 _ h
     injection h with h
     subst h
     exact ⟨f58, rfl, (L25.trans L59), HS61⟩
   · have c63 : ¬ (vt56 = true) := c63
     refine wpRwI 16 (x := vt56) (v := false) kr (Bool.eq_false_iff.mpr c63) ?_
     refine condF kr ?_
     refine wp_skip ?_
     refine hn40 _ _ ?_
     refine hK37 _ _ ?_
     refine rl ?_
     refine seqL2 kr ?_
     refine nl ?_
     refine hK22 n23 _ _ (Nat.lt_succ_self _) ?_
     exact ⟨f58, (w64 (x29 + 1)), (fun i_ => [(j28 0), Value.int .i64 x29, Value.bool true, Value.int .i64 x29, Value.func (.func 54) #[] #[.pointer (some ⟨b1, 0, none⟩)], Value.slice A5 s4.length c6, Value.int .i64 x29, Value.pointer (some ⟨b53, of54 + (x29 : Int).toNat * 1, none⟩), Value.int .i64 (rd s4 x29), Value.bool false, (j28 10), Value.int .i64 (w64 (x29 + 1))].getD i_ undef), (L25.trans L59), HS61, h, kr⟩
 · have c35 : ¬ (x29 < (s4.length : Int)) := c35
   refine wpRwI 9 (x := (decide (x29 < (s4.length : Int)))) (v := false) kr (decide_eq_false c35) ?_
   refine condF kr ?_
   refine wp_exit ?_
   refine hx15 _ _ ?_
   exact J72 f24 (fun i_ => [(j28 0), (j28 1), Value.int .i64 x29, Value.bool false, (j28 3), (j28 4), (j28 5), (j28 6), (j28 7), (j28 8), (j28 9), (j28 10), (j28 11)].getD i_ undef) W26 _ L25 h HS27 kr

set_option maxRecDepth 100000 in
set_option maxHeartbeats 4000000 in
theorem slices_ContainsFunc_Light__sensor_outside_Light_1.calls (k : Nat) (b1 : Nat) (A5 : Option Addr) (c6 : Nat) (v3 : Int) (s4 : List Int) {t w : World} {f : FM} {H : List Seg} (HS : St t w f ([(b1, .cells #[.int .i64 v3] 60 (0, 0))] :: H)) (HR7 : SlR (tInt .i64) f A5 c6 s4) (rr1 : Bool) (h : slices_ContainsFunc_Light__sensor_outside_Light_1 k v3 s4 = some rr1) :
    Calls Tryz.prog 53 #[.slice A5 s4.length c6, .func (.func 54) #[] #[.pointer (some ⟨b1, 0, none⟩)]] w (fun e w' => ∃ (g : FM), e = .returned (Value.bool rr1) ∧ FM.le f g ∧ St t w' g ([(b1, .cells #[.int .i64 v3] 60 (0, 0))] :: H)) := by
 unfold slices_ContainsFunc_Light__sensor_outside_Light_1 at h
 refine enter Tryz.func53 rfl (tm := #[.slice A5 s4.length c6, .func (.func 54) #[] #[pV b1 0], uV, uV, uV, uV, uV, uV, uV]) kr ?_
 intro B hret hnor hnp
 refine wp_seq_k fun K8 hK9 => rl ?_
 refine seqL1 kr ?_
 refine nl (hK9 _ _ ?_)
 refine wp_seq_k fun K10 hK11 => rl ?_
 have hq_ := bind_some h; clear h; obtain ⟨vt12, hc13, h⟩ := hq_
 refine seqL2 kr ?_
 refine seqK rfl (does_call (f := 71) (args := #[.slice A5 s4.length c6, .func (.func 54) #[] #[.pointer (some ⟨b1, 0, none⟩)]]) kr (slices_IndexFunc_Light__sensor_outside_Light_1.calls k b1 A5 c6 v3 s4 HS HR7 vt12 hc13) ?_)
 rintro _ W16 ⟨f14, rfl, L15, HS17⟩
 refine ⟨_, rfl, ?_⟩
 refine seqL2 kr ?_
 refine nl (hK11 _ _ ?_)
 refine wp_ret ?_
 refine hret _ _ ?_
 refine ends_still (v := Value.bool (decide (vt12 ≥ 0))) kr kr ?_
 injection h with h
 subst h
 exact ⟨f14, rfl, L15, HS17⟩

set_option maxRecDepth 100000 in
set_option maxHeartbeats 4000000 in
theorem sensor_outside_Light.calls (k : Nat) (A2 : Option Addr) (c3 : Nat) (l1 : List Int) (most5 : Int) {t w : World} {f : FM} {H : List Seg} (HS : St t w f (H)) (HR4 : SlR (tInt .i64) f A2 c3 l1) (rr1 : Bool) (h : sensor_outside_Light k l1 most5 = some rr1) :
    Calls Tryz.prog 45 #[.slice A2 l1.length c3, .int .i64 most5] w (fun e w' => ∃ (g : FM), e = .returned (Value.bool rr1) ∧ FM.le f g ∧ St t w' g (H)) := by
 unfold sensor_outside_Light at h
 refine enter Tryz.func45 rfl (tm := #[.slice A2 l1.length c3, iV most5, uV, uV, uV, uV, uV, uV]) kr ?_
 intro B hret hnor hnp
 refine wp_seq_k fun K6 hK7 => rl ?_
 refine seqK rfl (does_box (cs := #[.int .i64 most5]) rfl (kv (.int .i64 most5)) rfl HS ?_)
 intro b8 W9 HS10
 refine seqL1 kr ?_
 refine nl (hK7 _ _ ?_)
 refine wp_seq_k fun K12 hK13 => rl ?_
 have hq_ := bind_some h; clear h; obtain ⟨vt14, hc15, h⟩ := hq_
 refine seqL2 kr ?_
 refine seqK rfl (does_call (f := 53) (args := #[.slice A2 l1.length c3, .func (.func 54) #[] #[.pointer (some ⟨b8, 0, none⟩)]]) kr (slices_ContainsFunc_Light__sensor_outside_Light_1.calls k b8 A2 c3 most5 l1 HS10 HR4 vt14 hc15) ?_)
 rintro _ W18 ⟨f16, rfl, L17, HS19⟩
 refine ⟨_, rfl, ?_⟩
 refine seqL1 kr ?_
 refine nl (hK13 _ _ ?_)
 refine wp_ret ?_
 refine hret _ _ ?_
 refine ends_still (v := Value.bool vt14) kr kr ?_
 have HS20 := HS19.drop
 injection h with h
 subst h
 exact ⟨f16, rfl, L17, HS20⟩

set_option maxRecDepth 100000 in
set_option maxHeartbeats 4000000 in
theorem sensor_Check.calls (k : Nat) (A2 : Option Addr) (c3 : Nat) (A5 : Option Addr) (c6 : Nat) (A8 : Option Addr) (c9 : Nat) (s1 : S_Sensor) {t w : World} {f : FM} {H : List Seg} (HS : St t w f (H)) (HR4 : SlR (tInt .i64) f A2 c3 s1.Bias) (HR7 : SlR (tInt .i64) f A5 c6 s1.Dark) (HR10 : SlR (tInt .i64) f A8 c9 s1.Flat) (rr1 : Int) (h : sensor_Check k s1 = some rr1) :
    Calls Tryz.prog 32 #[.agg #[.int .i64 s1.W, .int .i64 s1.H, .slice A2 s1.Bias.length c3, .slice A5 s1.Dark.length c6, .slice A8 s1.Flat.length c9, .int .i64 s1.Full, .int .i64 s1.Gain, .int .i64 s1.Noise]] w (fun e w' => ∃ (g : FM), e = .returned (Value.int .i64 rr1) ∧ FM.le f g ∧ St t w' g (H)) := by
 unfold sensor_Check at h
 refine enter Tryz.func32 rfl (tm := #[(ag_Sensor s1 A2 c3 A5 c6 A8 c9), uV, uV, uV, uV, uV, uV, uV, uV, uV, uV, uV, uV, uV, uV, uV, uV, uV, uV, uV, uV, uV, uV, uV, uV, uV, uV, uV, uV, uV, uV, uV, uV, uV, uV, uV, uV, uV, uV, uV, uV, uV, uV, uV, uV, uV, uV, uV, uV, uV, uV, uV, uV, uV, uV, uV, uV, uV, uV, uV, uV, uV, uV, uV, uV, uV, uV, uV, uV, uV, uV, uV, uV, uV, uV, uV, uV, uV, uV, uV, uV, uV, uV, uV, uV, uV, uV]) kr ?_
 intro B hret hnor hnp
 refine wp_seq_k fun K11 hK12 => rl ?_
 refine seqK rfl (does_box (cs := #[.int .i64 s1.W, .int .i64 s1.H, .slice A2 s1.Bias.length c3, .slice A5 s1.Dark.length c6, .slice A8 s1.Flat.length c9, .int .i64 s1.Full, .int .i64 s1.Gain, .int .i64 s1.Noise]) rfl (kv (.agg #[.int .i64 s1.W, .int .i64 s1.H, .slice A2 s1.Bias.length c3, .slice A5 s1.Dark.length c6, .slice A8 s1.Flat.length c9, .int .i64 s1.Full, .int .i64 s1.Gain, .int .i64 s1.Noise])) rfl HS ?_)
 intro b13 W14 HS15
 refine seqL1 kr ?_
 refine nl (hK12 _ _ ?_)
 refine wp_seq_k (fun K17 hK18 => ?_)
 refine wp_seq_k fun K19 hK20 => rl ?_
 refine seqL1 kr ?_
 refine seqK rfl (does_run (run_load rfl Tryz.underlying3 rfl (kv (.pointer (some ⟨b13, 0, none⟩))) (HS15.cell 0)) ?_)
 refine seqL1 kr ?_
 refine seqK rfl (does_run (run_load rfl Tryz.underlying3 rfl (kv (.pointer (some ⟨b13, 1, none⟩))) (HS15.cell 1)) ?_)
 refine seqL2 kr ?_
 refine nl (hK20 _ _ ?_)
 refine blockK (fun B21 hx22 hn23 hr24 ho25 hp26 => ?_)
 refine wp_seq_k fun K28 hK29 => rl ?_
 refine seqL1 kr ?_
 refine seqK rfl (does_run (run_load rfl Tryz.underlying3 rfl (kv (.pointer (some ⟨b13, 0, none⟩))) (HS15.cell 0)) ?_)
 refine seqL1 kr ?_
 refine seqK rfl (does_run (run_load rfl Tryz.underlying3 rfl (kv (.pointer (some ⟨b13, 1, none⟩))) (HS15.cell 1)) ?_)
 refine seqL3 kr ?_
 have hq_ := ite_some h; clear h; rcases hq_ with ⟨c30, h⟩ | ⟨c30, h⟩
 · have c30 : (mn s1.W s1.H) < 1 := c30
   refine seqRwI 15 (x := (decide ((mn s1.W s1.H) < 1))) (v := true) kr (decide_eq_true c30) ?_
   refine seqRwI 16 (x := (decide ((mn s1.W s1.H) < 1))) (v := true) kr (decide_eq_true c30) ?_
   refine seqL8 kr ?_
   refine nl (hK29 _ _ ?_)
   refine condT kr ?_
   refine wp_seq_k fun K31 hK32 => rl ?_
   refine seqL1 kr ?_
   refine nl (hK32 _ _ ?_)
   refine wp_ret ?_
   refine hr24 _ _ ?_
   refine hret _ _ ?_
   refine ends_still (v := Value.int .i64 4) kr kr ?_
   have HS102 := HS15.drop
   injection h with h
   subst h
   exact ⟨f, rfl, FM.le.refl _, HS102⟩
 · have c30 : ¬ ((mn s1.W s1.H) < 1) := c30
   refine seqRwI 15 (x := (decide ((mn s1.W s1.H) < 1))) (v := false) kr (decide_eq_false c30) ?_
   refine seqRwI 16 (x := (decide ((mn s1.W s1.H) < 1))) (v := false) kr (decide_eq_false c30) ?_
   refine seqL1 kr ?_
   refine seqG kr (does_run (run_load rfl Tryz.underlying3 rfl (kv (.pointer (some ⟨b13, 0, none⟩))) (HS15.cell 0)) ?_)
   refine seqL1 kr ?_
   refine seqG kr (does_run (run_load rfl Tryz.underlying3 rfl (kv (.pointer (some ⟨b13, 1, none⟩))) (HS15.cell 1)) ?_)
   refine seqL4 kr ?_
   refine nl (hK29 _ _ ?_)
   have hq_ := ite_some h; clear h; rcases hq_ with ⟨c34, h⟩ | ⟨c34, h⟩
   · have c34 : (mx s1.W s1.H) > 32 := c34
     refine wpRwI 9 (x := (decide ((mx s1.W s1.H) > 32))) (v := true) kr (decide_eq_true c34) ?_
     refine wpRwI 22 (x := (decide ((mx s1.W s1.H) > 32))) (v := true) kr (decide_eq_true c34) ?_
     refine wpRwI 23 (x := (decide ((mx s1.W s1.H) > 32))) (v := true) kr (decide_eq_true c34) ?_
     refine condT kr ?_
     refine wp_seq_k fun K35 hK36 => rl ?_
     refine seqL1 kr ?_
     refine nl (hK36 _ _ ?_)
     refine wp_ret ?_
     refine hr24 _ _ ?_
     refine hret _ _ ?_
     refine ends_still (v := Value.int .i64 4) kr kr ?_
     have HS103 := HS15.drop
     injection h with h
     subst h
     exact ⟨f, rfl, FM.le.refl _, HS103⟩
   · have c34 : ¬ ((mx s1.W s1.H) > 32) := c34
     refine wpRwI 9 (x := (decide ((mx s1.W s1.H) > 32))) (v := false) kr (decide_eq_false c34) ?_
     refine wpRwI 22 (x := (decide ((mx s1.W s1.H) > 32))) (v := false) kr (decide_eq_false c34) ?_
     refine wpRwI 23 (x := (decide ((mx s1.W s1.H) > 32))) (v := false) kr (decide_eq_false c34) ?_
     refine condF kr ?_
     refine wp_seq_k fun K37 hK38 => rl ?_
     refine seqL1 kr ?_
     refine seqK rfl (does_run (run_load rfl Tryz.underlying22 rfl (kv (.pointer (some ⟨b13, 2, none⟩))) (HS15.cell 2)) ?_)
     refine seqL4 kr ?_
     have hq_ := ite_some h; clear h; rcases hq_ with ⟨c39, h⟩ | ⟨c39, h⟩
     · have c39 : (s1.Bias.length : Int) ≠ (w64 (s1.W * s1.H)) := c39
       refine seqRwI 29 (x := ((s1.Bias.length : Int) != (w64 (s1.W * s1.H)))) (v := true) kr (bne_iff_ne.mpr c39) ?_
       refine seqRwI 30 (x := ((s1.Bias.length : Int) != (w64 (s1.W * s1.H)))) (v := true) kr (bne_iff_ne.mpr c39) ?_
       refine seqL14 kr ?_
       refine nl (hK38 _ _ ?_)
       refine condT kr ?_
       refine wp_seq_k fun K40 hK41 => rl ?_
       refine seqL1 kr ?_
       refine nl (hK41 _ _ ?_)
       refine wp_ret ?_
       refine hr24 _ _ ?_
       refine hret _ _ ?_
       refine ends_still (v := Value.int .i64 3) kr kr ?_
       have HS104 := HS15.drop
       injection h with h
       subst h
       exact ⟨f, rfl, FM.le.refl _, HS104⟩
     · have c39 : ¬ ((s1.Bias.length : Int) ≠ (w64 (s1.W * s1.H))) := c39
       refine seqRwI 29 (x := ((s1.Bias.length : Int) != (w64 (s1.W * s1.H)))) (v := false) kr (bne_eq_false_iff_eq.mpr (Decidable.of_not_not c39)) ?_
       refine seqRwI 30 (x := ((s1.Bias.length : Int) != (w64 (s1.W * s1.H)))) (v := false) kr (bne_eq_false_iff_eq.mpr (Decidable.of_not_not c39)) ?_
       refine seqL1 kr ?_
       refine seqG kr (does_run (run_load rfl Tryz.underlying27 rfl (kv (.pointer (some ⟨b13, 3, none⟩))) (HS15.cell 3)) ?_)
       refine seqL5 kr ?_
       have hq_ := ite_some h; clear h; rcases hq_ with ⟨c42, h⟩ | ⟨c42, h⟩
       · have c42 : (s1.Dark.length : Int) ≠ (w64 (s1.W * s1.H)) := c42
         refine seqRwI 35 (x := ((s1.Dark.length : Int) != (w64 (s1.W * s1.H)))) (v := true) kr (bne_iff_ne.mpr c42) ?_
         refine seqRwI 36 (x := ((s1.Dark.length : Int) != (w64 (s1.W * s1.H)))) (v := true) kr (bne_iff_ne.mpr c42) ?_
         refine seqRwI 37 (x := ((s1.Dark.length : Int) != (w64 (s1.W * s1.H)))) (v := true) kr (bne_iff_ne.mpr c42) ?_
         refine seqL7 kr ?_
         refine nl (hK38 _ _ ?_)
         refine condT kr ?_
         refine wp_seq_k fun K43 hK44 => rl ?_
         refine seqL1 kr ?_
         refine nl (hK44 _ _ ?_)
         refine wp_ret ?_
         refine hr24 _ _ ?_
         refine hret _ _ ?_
         refine ends_still (v := Value.int .i64 3) kr kr ?_
         have HS105 := HS15.drop
         injection h with h
         subst h
         exact ⟨f, rfl, FM.le.refl _, HS105⟩
       · have c42 : ¬ ((s1.Dark.length : Int) ≠ (w64 (s1.W * s1.H))) := c42
         refine seqRwI 35 (x := ((s1.Dark.length : Int) != (w64 (s1.W * s1.H)))) (v := false) kr (bne_eq_false_iff_eq.mpr (Decidable.of_not_not c42)) ?_
         refine seqRwI 36 (x := ((s1.Dark.length : Int) != (w64 (s1.W * s1.H)))) (v := false) kr (bne_eq_false_iff_eq.mpr (Decidable.of_not_not c42)) ?_
         refine seqRwI 37 (x := ((s1.Dark.length : Int) != (w64 (s1.W * s1.H)))) (v := false) kr (bne_eq_false_iff_eq.mpr (Decidable.of_not_not c42)) ?_
         refine seqL1 kr ?_
         refine seqG kr (does_run (run_load rfl Tryz.underlying22 rfl (kv (.pointer (some ⟨b13, 4, none⟩))) (HS15.cell 4)) ?_)
         refine seqL5 kr ?_
         refine nl (hK38 _ _ ?_)
         have hq_ := ite_some h; clear h; rcases hq_ with ⟨c46, h⟩ | ⟨c46, h⟩
         · have c46 : (s1.Flat.length : Int) ≠ (w64 (s1.W * s1.H)) := c46
           refine wpRwI 24 (x := ((s1.Flat.length : Int) != (w64 (s1.W * s1.H)))) (v := true) kr (bne_iff_ne.mpr c46) ?_
           refine wpRwI 42 (x := ((s1.Flat.length : Int) != (w64 (s1.W * s1.H)))) (v := true) kr (bne_iff_ne.mpr c46) ?_
           refine wpRwI 43 (x := ((s1.Flat.length : Int) != (w64 (s1.W * s1.H)))) (v := true) kr (bne_iff_ne.mpr c46) ?_
           refine condT kr ?_
           refine wp_seq_k fun K47 hK48 => rl ?_
           refine seqL1 kr ?_
           refine nl (hK48 _ _ ?_)
           refine wp_ret ?_
           refine hr24 _ _ ?_
           refine hret _ _ ?_
           refine ends_still (v := Value.int .i64 3) kr kr ?_
           have HS106 := HS15.drop
           injection h with h
           subst h
           exact ⟨f, rfl, FM.le.refl _, HS106⟩
         · have c46 : ¬ ((s1.Flat.length : Int) ≠ (w64 (s1.W * s1.H))) := c46
           refine wpRwI 24 (x := ((s1.Flat.length : Int) != (w64 (s1.W * s1.H)))) (v := false) kr (bne_eq_false_iff_eq.mpr (Decidable.of_not_not c46)) ?_
           refine wpRwI 42 (x := ((s1.Flat.length : Int) != (w64 (s1.W * s1.H)))) (v := false) kr (bne_eq_false_iff_eq.mpr (Decidable.of_not_not c46)) ?_
           refine wpRwI 43 (x := ((s1.Flat.length : Int) != (w64 (s1.W * s1.H)))) (v := false) kr (bne_eq_false_iff_eq.mpr (Decidable.of_not_not c46)) ?_
           refine condF kr ?_
           refine wp_seq_k fun K49 hK50 => rl ?_
           refine seqL1 kr ?_
           refine seqK rfl (does_run (run_load rfl Tryz.underlying22 rfl (kv (.pointer (some ⟨b13, 2, none⟩))) (HS15.cell 2)) ?_)
           have hq_ := bind_some h; clear h; obtain ⟨vt51, hc52, h⟩ := hq_
           refine seqK rfl (does_call (f := 44) (args := #[.slice A2 s1.Bias.length c3, .int .i64 4096]) kr (sensor_outside_int.calls k A2 c3 s1.Bias 4096 HS15 HR4 vt51 hc52) ?_)
           rintro _ W55 ⟨f53, rfl, L54, HS56⟩
           refine ⟨_, rfl, ?_⟩
           refine seqL1 kr ?_
           have hq_ := ite_some h; clear h; rcases hq_ with ⟨c57, h⟩ | ⟨c57, h⟩
           · have c57 : vt51 = true := c57
             refine seqRwI 47 (x := vt51) (v := true) kr c57 ?_
             refine seqRwI 48 (x := vt51) (v := true) kr c57 ?_
             refine seqL10 kr ?_
             refine nl (hK50 _ _ ?_)
             refine condT kr ?_
             refine wp_seq_k fun K58 hK59 => rl ?_
             refine seqL1 kr ?_
             refine nl (hK59 _ _ ?_)
             refine wp_ret ?_
             refine hr24 _ _ ?_
             refine hret _ _ ?_
             refine ends_still (v := Value.int .i64 4) kr kr ?_
             have HS107 := HS56.drop
             injection h with h
             subst h
             exact ⟨f53, rfl, L54, HS107⟩
           · have c57 : ¬ (vt51 = true) := c57
             refine seqRwI 47 (x := vt51) (v := false) kr (Bool.eq_false_iff.mpr c57) ?_
             refine seqRwI 48 (x := vt51) (v := false) kr (Bool.eq_false_iff.mpr c57) ?_
             refine seqL1 kr ?_
             refine seqG kr (does_run (run_load rfl Tryz.underlying27 rfl (kv (.pointer (some ⟨b13, 3, none⟩))) (HS56.cell 3)) ?_)
             have hq_ := bind_some h; clear h; obtain ⟨vt60, hc61, h⟩ := hq_
             refine seqG kr (does_call (f := 45) (args := #[.slice A5 s1.Dark.length c6, .int .i64 17592186044416]) kr (sensor_outside_Light.calls k A5 c6 s1.Dark 17592186044416 HS56 (HR7.mono L54) vt60 hc61) ?_)
             rintro _ W64 ⟨f62, rfl, L63, HS65⟩
             refine ⟨_, rfl, ?_⟩
             refine seqL2 kr ?_
             have hq_ := ite_some h; clear h; rcases hq_ with ⟨c66, h⟩ | ⟨c66, h⟩
             · have c66 : vt60 = true := c66
               refine seqRwI 51 (x := vt60) (v := true) kr c66 ?_
               refine seqRwI 52 (x := vt60) (v := true) kr c66 ?_
               refine seqRwI 53 (x := vt60) (v := true) kr c66 ?_
               refine seqL5 kr ?_
               refine nl (hK50 _ _ ?_)
               refine condT kr ?_
               refine wp_seq_k fun K67 hK68 => rl ?_
               refine seqL1 kr ?_
               refine nl (hK68 _ _ ?_)
               refine wp_ret ?_
               refine hr24 _ _ ?_
               refine hret _ _ ?_
               refine ends_still (v := Value.int .i64 4) kr kr ?_
               have HS108 := HS65.drop
               injection h with h
               subst h
               exact ⟨f62, rfl, (L54.trans L63), HS108⟩
             · have c66 : ¬ (vt60 = true) := c66
               refine seqRwI 51 (x := vt60) (v := false) kr (Bool.eq_false_iff.mpr c66) ?_
               refine seqRwI 52 (x := vt60) (v := false) kr (Bool.eq_false_iff.mpr c66) ?_
               refine seqRwI 53 (x := vt60) (v := false) kr (Bool.eq_false_iff.mpr c66) ?_
               refine seqL1 kr ?_
               refine seqG kr (does_run (run_load rfl Tryz.underlying22 rfl (kv (.pointer (some ⟨b13, 4, none⟩))) (HS65.cell 4)) ?_)
               have hq_ := bind_some h; clear h; obtain ⟨vt69, hc70, h⟩ := hq_
               refine seqG kr (does_call (f := 44) (args := #[.slice A8 s1.Flat.length c9, .int .i64 4096]) kr (sensor_outside_int.calls k A8 c9 s1.Flat 4096 HS65 (HR10.mono (L54.trans L63)) vt69 hc70) ?_)
               rintro _ W73 ⟨f71, rfl, L72, HS74⟩
               refine ⟨_, rfl, ?_⟩
               refine seqL2 kr ?_
               refine nl (hK50 _ _ ?_)
               have hq_ := ite_some h; clear h; rcases hq_ with ⟨c76, h⟩ | ⟨c76, h⟩
               · have c76 : vt69 = true := c76
                 refine wpRwI 44 (x := vt69) (v := true) kr c76 ?_
                 refine wpRwI 56 (x := vt69) (v := true) kr c76 ?_
                 refine wpRwI 57 (x := vt69) (v := true) kr c76 ?_
                 refine condT kr ?_
                 refine wp_seq_k fun K77 hK78 => rl ?_
                 refine seqL1 kr ?_
                 refine nl (hK78 _ _ ?_)
                 refine wp_ret ?_
                 refine hr24 _ _ ?_
                 refine hret _ _ ?_
                 refine ends_still (v := Value.int .i64 4) kr kr ?_
                 have HS109 := HS74.drop
                 injection h with h
                 subst h
                 exact ⟨f71, rfl, (L54.trans (L63.trans L72)), HS109⟩
               · have c76 : ¬ (vt69 = true) := c76
                 refine wpRwI 44 (x := vt69) (v := false) kr (Bool.eq_false_iff.mpr c76) ?_
                 refine wpRwI 56 (x := vt69) (v := false) kr (Bool.eq_false_iff.mpr c76) ?_
                 refine wpRwI 57 (x := vt69) (v := false) kr (Bool.eq_false_iff.mpr c76) ?_
                 refine condF kr ?_
                 refine wp_seq_k fun K79 hK80 => rl ?_
                 refine seqL1 kr ?_
                 refine seqK rfl (does_run (run_load rfl Tryz.underlying28 rfl (kv (.pointer (some ⟨b13, 5, none⟩))) (HS74.cell 5)) ?_)
                 refine seqL2 kr ?_
                 have hq_ := ite_some h; clear h; rcases hq_ with ⟨c81, h⟩ | ⟨c81, h⟩
                 · have c81 : s1.Full < 1 := c81
                   refine seqRwI 61 (x := (decide (s1.Full < 1))) (v := true) kr (decide_eq_true c81) ?_
                   refine seqRwI 62 (x := (decide (s1.Full < 1))) (v := true) kr (decide_eq_true c81) ?_
                   refine seqS25 (a' := ⟨#[(ag_Sensor s1 A2 c3 A5 c6 A8 c9), pV b13 0, iV 0, iV (w64 (s1.W * s1.H)), pV b13 0, iV s1.W, pV b13 1, iV s1.H, iV (w64 (s1.W * s1.H)), fV, pV b13 0, iV s1.W, pV b13 1, iV s1.H, iV (mn s1.W s1.H), fV, fV, pV b13 0, iV s1.W, pV b13 1, iV s1.H, iV (mx s1.W s1.H), fV, fV, fV, pV b13 2, .slice A2 s1.Bias.length c3, iV (s1.Bias.length : Int), iV (w64 (s1.W * s1.H)), fV, fV, pV b13 3, .slice A5 s1.Dark.length c6, iV (s1.Dark.length : Int), iV (w64 (s1.W * s1.H)), fV, fV, fV, pV b13 4, .slice A8 s1.Flat.length c9, iV (s1.Flat.length : Int), iV (w64 (s1.W * s1.H)), fV, fV, fV, pV b13 2, .slice A2 s1.Bias.length c3, fV, fV, pV b13 3, .slice A5 s1.Dark.length c6, fV, fV, fV, pV b13 4, .slice A8 s1.Flat.length c9, fV, fV, tV, pV b13 5, iV s1.Full, tV, tV, uV, uV, uV, tV, tV, uV, uV, uV, tV, tV, uV, uV, uV, tV, tV, uV, uV, uV, tV, tV, uV, uV, uV, tV], []⟩) kr ?_
                   refine nl (hK80 _ _ ?_)
                   refine condT kr ?_
                   refine wp_seq_k fun K82 hK83 => rl ?_
                   refine seqL1 kr ?_
                   refine nl (hK83 _ _ ?_)
                   refine wp_ret ?_
                   refine hr24 _ _ ?_
                   refine hret _ _ ?_
                   refine ends_still (v := Value.int .i64 4) kr kr ?_
                   have HS110 := HS74.drop
                   injection h with h
                   subst h
                   exact ⟨f71, rfl, (L54.trans (L63.trans L72)), HS110⟩
                 · have c81 : ¬ (s1.Full < 1) := c81
                   refine seqRwI 61 (x := (decide (s1.Full < 1))) (v := false) kr (decide_eq_false c81) ?_
                   refine seqRwI 62 (x := (decide (s1.Full < 1))) (v := false) kr (decide_eq_false c81) ?_
                   refine seqL1 kr ?_
                   refine seqG kr (does_run (run_load rfl Tryz.underlying28 rfl (kv (.pointer (some ⟨b13, 5, none⟩))) (HS74.cell 5)) ?_)
                   refine seqL3 kr ?_
                   have hq_ := ite_some h; clear h; rcases hq_ with ⟨c84, h⟩ | ⟨c84, h⟩
                   · have c84 : s1.Full > 1048576 := c84
                     refine seqRwI 65 (x := (decide (s1.Full > 1048576))) (v := true) kr (decide_eq_true c84) ?_
                     refine seqRwI 66 (x := (decide (s1.Full > 1048576))) (v := true) kr (decide_eq_true c84) ?_
                     refine seqRwI 67 (x := (decide (s1.Full > 1048576))) (v := true) kr (decide_eq_true c84) ?_
                     refine seqS20 (a' := ⟨#[(ag_Sensor s1 A2 c3 A5 c6 A8 c9), pV b13 0, iV 0, iV (w64 (s1.W * s1.H)), pV b13 0, iV s1.W, pV b13 1, iV s1.H, iV (w64 (s1.W * s1.H)), fV, pV b13 0, iV s1.W, pV b13 1, iV s1.H, iV (mn s1.W s1.H), fV, fV, pV b13 0, iV s1.W, pV b13 1, iV s1.H, iV (mx s1.W s1.H), fV, fV, fV, pV b13 2, .slice A2 s1.Bias.length c3, iV (s1.Bias.length : Int), iV (w64 (s1.W * s1.H)), fV, fV, pV b13 3, .slice A5 s1.Dark.length c6, iV (s1.Dark.length : Int), iV (w64 (s1.W * s1.H)), fV, fV, fV, pV b13 4, .slice A8 s1.Flat.length c9, iV (s1.Flat.length : Int), iV (w64 (s1.W * s1.H)), fV, fV, fV, pV b13 2, .slice A2 s1.Bias.length c3, fV, fV, pV b13 3, .slice A5 s1.Dark.length c6, fV, fV, fV, pV b13 4, .slice A8 s1.Flat.length c9, fV, fV, tV, pV b13 5, iV s1.Full, fV, fV, pV b13 5, iV s1.Full, tV, tV, tV, uV, uV, uV, tV, tV, uV, uV, uV, tV, tV, uV, uV, uV, tV, tV, uV, uV, uV, tV], []⟩) kr ?_
                     refine nl (hK80 _ _ ?_)
                     refine condT kr ?_
                     refine wp_seq_k fun K85 hK86 => rl ?_
                     refine seqL1 kr ?_
                     refine nl (hK86 _ _ ?_)
                     refine wp_ret ?_
                     refine hr24 _ _ ?_
                     refine hret _ _ ?_
                     refine ends_still (v := Value.int .i64 4) kr kr ?_
                     have HS111 := HS74.drop
                     injection h with h
                     subst h
                     exact ⟨f71, rfl, (L54.trans (L63.trans L72)), HS111⟩
                   · have c84 : ¬ (s1.Full > 1048576) := c84
                     refine seqRwI 65 (x := (decide (s1.Full > 1048576))) (v := false) kr (decide_eq_false c84) ?_
                     refine seqRwI 66 (x := (decide (s1.Full > 1048576))) (v := false) kr (decide_eq_false c84) ?_
                     refine seqRwI 67 (x := (decide (s1.Full > 1048576))) (v := false) kr (decide_eq_false c84) ?_
                     refine seqL1 kr ?_
                     refine seqG kr (does_run (run_load rfl Tryz.underlying28 rfl (kv (.pointer (some ⟨b13, 6, none⟩))) (HS74.cell 6)) ?_)
                     refine seqL3 kr ?_
                     have hq_ := ite_some h; clear h; rcases hq_ with ⟨c87, h⟩ | ⟨c87, h⟩
                     · have c87 : s1.Gain < 1 := c87
                       refine seqRwI 70 (x := (decide (s1.Gain < 1))) (v := true) kr (decide_eq_true c87) ?_
                       refine seqRwI 71 (x := (decide (s1.Gain < 1))) (v := true) kr (decide_eq_true c87) ?_
                       refine seqRwI 72 (x := (decide (s1.Gain < 1))) (v := true) kr (decide_eq_true c87) ?_
                       refine seqS15 (a' := ⟨#[(ag_Sensor s1 A2 c3 A5 c6 A8 c9), pV b13 0, iV 0, iV (w64 (s1.W * s1.H)), pV b13 0, iV s1.W, pV b13 1, iV s1.H, iV (w64 (s1.W * s1.H)), fV, pV b13 0, iV s1.W, pV b13 1, iV s1.H, iV (mn s1.W s1.H), fV, fV, pV b13 0, iV s1.W, pV b13 1, iV s1.H, iV (mx s1.W s1.H), fV, fV, fV, pV b13 2, .slice A2 s1.Bias.length c3, iV (s1.Bias.length : Int), iV (w64 (s1.W * s1.H)), fV, fV, pV b13 3, .slice A5 s1.Dark.length c6, iV (s1.Dark.length : Int), iV (w64 (s1.W * s1.H)), fV, fV, fV, pV b13 4, .slice A8 s1.Flat.length c9, iV (s1.Flat.length : Int), iV (w64 (s1.W * s1.H)), fV, fV, fV, pV b13 2, .slice A2 s1.Bias.length c3, fV, fV, pV b13 3, .slice A5 s1.Dark.length c6, fV, fV, fV, pV b13 4, .slice A8 s1.Flat.length c9, fV, fV, tV, pV b13 5, iV s1.Full, fV, fV, pV b13 5, iV s1.Full, fV, fV, fV, pV b13 6, iV s1.Gain, tV, tV, tV, uV, uV, uV, tV, tV, uV, uV, uV, tV, tV, uV, uV, uV, tV], []⟩) kr ?_
                       refine nl (hK80 _ _ ?_)
                       refine condT kr ?_
                       refine wp_seq_k fun K88 hK89 => rl ?_
                       refine seqL1 kr ?_
                       refine nl (hK89 _ _ ?_)
                       refine wp_ret ?_
                       refine hr24 _ _ ?_
                       refine hret _ _ ?_
                       refine ends_still (v := Value.int .i64 4) kr kr ?_
                       have HS112 := HS74.drop
                       injection h with h
                       subst h
                       exact ⟨f71, rfl, (L54.trans (L63.trans L72)), HS112⟩
                     · have c87 : ¬ (s1.Gain < 1) := c87
                       refine seqRwI 70 (x := (decide (s1.Gain < 1))) (v := false) kr (decide_eq_false c87) ?_
                       refine seqRwI 71 (x := (decide (s1.Gain < 1))) (v := false) kr (decide_eq_false c87) ?_
                       refine seqRwI 72 (x := (decide (s1.Gain < 1))) (v := false) kr (decide_eq_false c87) ?_
                       refine seqL1 kr ?_
                       refine seqG kr (does_run (run_load rfl Tryz.underlying28 rfl (kv (.pointer (some ⟨b13, 6, none⟩))) (HS74.cell 6)) ?_)
                       refine seqL3 kr ?_
                       have hq_ := ite_some h; clear h; rcases hq_ with ⟨c90, h⟩ | ⟨c90, h⟩
                       · have c90 : s1.Gain > 64 := c90
                         refine seqRwI 75 (x := (decide (s1.Gain > 64))) (v := true) kr (decide_eq_true c90) ?_
                         refine seqRwI 76 (x := (decide (s1.Gain > 64))) (v := true) kr (decide_eq_true c90) ?_
                         refine seqRwI 77 (x := (decide (s1.Gain > 64))) (v := true) kr (decide_eq_true c90) ?_
                         refine seqS10 (a' := ⟨#[(ag_Sensor s1 A2 c3 A5 c6 A8 c9), pV b13 0, iV 0, iV (w64 (s1.W * s1.H)), pV b13 0, iV s1.W, pV b13 1, iV s1.H, iV (w64 (s1.W * s1.H)), fV, pV b13 0, iV s1.W, pV b13 1, iV s1.H, iV (mn s1.W s1.H), fV, fV, pV b13 0, iV s1.W, pV b13 1, iV s1.H, iV (mx s1.W s1.H), fV, fV, fV, pV b13 2, .slice A2 s1.Bias.length c3, iV (s1.Bias.length : Int), iV (w64 (s1.W * s1.H)), fV, fV, pV b13 3, .slice A5 s1.Dark.length c6, iV (s1.Dark.length : Int), iV (w64 (s1.W * s1.H)), fV, fV, fV, pV b13 4, .slice A8 s1.Flat.length c9, iV (s1.Flat.length : Int), iV (w64 (s1.W * s1.H)), fV, fV, fV, pV b13 2, .slice A2 s1.Bias.length c3, fV, fV, pV b13 3, .slice A5 s1.Dark.length c6, fV, fV, fV, pV b13 4, .slice A8 s1.Flat.length c9, fV, fV, tV, pV b13 5, iV s1.Full, fV, fV, pV b13 5, iV s1.Full, fV, fV, fV, pV b13 6, iV s1.Gain, fV, fV, fV, pV b13 6, iV s1.Gain, tV, tV, tV, uV, uV, uV, tV, tV, uV, uV, uV, tV], []⟩) kr ?_
                         refine nl (hK80 _ _ ?_)
                         refine condT kr ?_
                         refine wp_seq_k fun K91 hK92 => rl ?_
                         refine seqL1 kr ?_
                         refine nl (hK92 _ _ ?_)
                         refine wp_ret ?_
                         refine hr24 _ _ ?_
                         refine hret _ _ ?_
                         refine ends_still (v := Value.int .i64 4) kr kr ?_
                         have HS113 := HS74.drop
                         injection h with h
                         subst h
                         exact ⟨f71, rfl, (L54.trans (L63.trans L72)), HS113⟩
                       · have c90 : ¬ (s1.Gain > 64) := c90
                         refine seqRwI 75 (x := (decide (s1.Gain > 64))) (v := false) kr (decide_eq_false c90) ?_
                         refine seqRwI 76 (x := (decide (s1.Gain > 64))) (v := false) kr (decide_eq_false c90) ?_
                         refine seqRwI 77 (x := (decide (s1.Gain > 64))) (v := false) kr (decide_eq_false c90) ?_
                         refine seqL1 kr ?_
                         refine seqG kr (does_run (run_load rfl Tryz.underlying3 rfl (kv (.pointer (some ⟨b13, 7, none⟩))) (HS74.cell 7)) ?_)
                         refine seqL3 kr ?_
                         have hq_ := ite_some h; clear h; rcases hq_ with ⟨c93, h⟩ | ⟨c93, h⟩
                         · have c93 : s1.Noise < 0 := c93
                           refine seqRwI 80 (x := (decide (s1.Noise < 0))) (v := true) kr (decide_eq_true c93) ?_
                           refine seqRwI 81 (x := (decide (s1.Noise < 0))) (v := true) kr (decide_eq_true c93) ?_
                           refine seqRwI 82 (x := (decide (s1.Noise < 0))) (v := true) kr (decide_eq_true c93) ?_
                           refine seqS5 (a' := ⟨#[(ag_Sensor s1 A2 c3 A5 c6 A8 c9), pV b13 0, iV 0, iV (w64 (s1.W * s1.H)), pV b13 0, iV s1.W, pV b13 1, iV s1.H, iV (w64 (s1.W * s1.H)), fV, pV b13 0, iV s1.W, pV b13 1, iV s1.H, iV (mn s1.W s1.H), fV, fV, pV b13 0, iV s1.W, pV b13 1, iV s1.H, iV (mx s1.W s1.H), fV, fV, fV, pV b13 2, .slice A2 s1.Bias.length c3, iV (s1.Bias.length : Int), iV (w64 (s1.W * s1.H)), fV, fV, pV b13 3, .slice A5 s1.Dark.length c6, iV (s1.Dark.length : Int), iV (w64 (s1.W * s1.H)), fV, fV, fV, pV b13 4, .slice A8 s1.Flat.length c9, iV (s1.Flat.length : Int), iV (w64 (s1.W * s1.H)), fV, fV, fV, pV b13 2, .slice A2 s1.Bias.length c3, fV, fV, pV b13 3, .slice A5 s1.Dark.length c6, fV, fV, fV, pV b13 4, .slice A8 s1.Flat.length c9, fV, fV, tV, pV b13 5, iV s1.Full, fV, fV, pV b13 5, iV s1.Full, fV, fV, fV, pV b13 6, iV s1.Gain, fV, fV, fV, pV b13 6, iV s1.Gain, fV, fV, fV, pV b13 7, iV s1.Noise, tV, tV, tV, uV, uV, uV, tV], []⟩) kr ?_
                           refine nl (hK80 _ _ ?_)
                           refine condT kr ?_
                           refine wp_seq_k fun K94 hK95 => rl ?_
                           refine seqL1 kr ?_
                           refine nl (hK95 _ _ ?_)
                           refine wp_ret ?_
                           refine hr24 _ _ ?_
                           refine hret _ _ ?_
                           refine ends_still (v := Value.int .i64 4) kr kr ?_
                           have HS114 := HS74.drop
                           injection h with h
                           subst h
                           exact ⟨f71, rfl, (L54.trans (L63.trans L72)), HS114⟩
                         · have c93 : ¬ (s1.Noise < 0) := c93
                           refine seqRwI 80 (x := (decide (s1.Noise < 0))) (v := false) kr (decide_eq_false c93) ?_
                           refine seqRwI 81 (x := (decide (s1.Noise < 0))) (v := false) kr (decide_eq_false c93) ?_
                           refine seqRwI 82 (x := (decide (s1.Noise < 0))) (v := false) kr (decide_eq_false c93) ?_
                           refine seqL1 kr ?_
                           refine seqG kr (does_run (run_load rfl Tryz.underlying3 rfl (kv (.pointer (some ⟨b13, 7, none⟩))) (HS74.cell 7)) ?_)
                           refine seqS3 (a' := ⟨#[(ag_Sensor s1 A2 c3 A5 c6 A8 c9), pV b13 0, iV 0, iV (w64 (s1.W * s1.H)), pV b13 0, iV s1.W, pV b13 1, iV s1.H, iV (w64 (s1.W * s1.H)), fV, pV b13 0, iV s1.W, pV b13 1, iV s1.H, iV (mn s1.W s1.H), fV, fV, pV b13 0, iV s1.W, pV b13 1, iV s1.H, iV (mx s1.W s1.H), fV, fV, fV, pV b13 2, .slice A2 s1.Bias.length c3, iV (s1.Bias.length : Int), iV (w64 (s1.W * s1.H)), fV, fV, pV b13 3, .slice A5 s1.Dark.length c6, iV (s1.Dark.length : Int), iV (w64 (s1.W * s1.H)), fV, fV, fV, pV b13 4, .slice A8 s1.Flat.length c9, iV (s1.Flat.length : Int), iV (w64 (s1.W * s1.H)), fV, fV, fV, pV b13 2, .slice A2 s1.Bias.length c3, fV, fV, pV b13 3, .slice A5 s1.Dark.length c6, fV, fV, fV, pV b13 4, .slice A8 s1.Flat.length c9, fV, fV, .bool (decide (s1.Noise > 64)), pV b13 5, iV s1.Full, fV, fV, pV b13 5, iV s1.Full, fV, fV, fV, pV b13 6, iV s1.Gain, fV, fV, fV, pV b13 6, iV s1.Gain, fV, fV, fV, pV b13 7, iV s1.Noise, fV, fV, fV, pV b13 7, iV s1.Noise, .bool (decide (s1.Noise > 64)), .bool (decide (s1.Noise > 64))], []⟩) kr ?_
                           refine nl (hK80 _ _ ?_)
                           have hq_ := ite_some h; clear h; rcases hq_ with ⟨c97, h⟩ | ⟨c97, h⟩
                           · have c97 : s1.Noise > 64 := c97
                             refine wpRwI 58 (x := (decide (s1.Noise > 64))) (v := true) kr (decide_eq_true c97) ?_
                             refine wpRwI 85 (x := (decide (s1.Noise > 64))) (v := true) kr (decide_eq_true c97) ?_
                             refine wpRwI 86 (x := (decide (s1.Noise > 64))) (v := true) kr (decide_eq_true c97) ?_
                             refine condT kr ?_
                             refine wp_seq_k fun K98 hK99 => rl ?_
                             refine seqL1 kr ?_
                             refine nl (hK99 _ _ ?_)
                             refine wp_ret ?_
                             refine hr24 _ _ ?_
                             refine hret _ _ ?_
                             refine ends_still (v := Value.int .i64 4) kr kr ?_
                             have HS115 := HS74.drop
                             injection h with h
                             subst h
                             exact ⟨f71, rfl, (L54.trans (L63.trans L72)), HS115⟩
                           · have c97 : ¬ (s1.Noise > 64) := c97
                             refine wpRwI 58 (x := (decide (s1.Noise > 64))) (v := false) kr (decide_eq_false c97) ?_
                             refine wpRwI 85 (x := (decide (s1.Noise > 64))) (v := false) kr (decide_eq_false c97) ?_
                             refine wpRwI 86 (x := (decide (s1.Noise > 64))) (v := false) kr (decide_eq_false c97) ?_
                             refine condF kr ?_
                             refine wp_skip ?_
                             refine hn23 _ _ ?_
                             refine hK18 _ _ ?_
                             refine wp_seq_k fun K100 hK101 => rl ?_
                             refine seqL1 kr ?_
                             refine nl (hK101 _ _ ?_)
                             refine wp_ret ?_
                             refine hret _ _ ?_
                             refine ends_still (v := Value.int .i64 0) kr kr ?_
                             have HS116 := HS74.drop
                             injection h with h
                             subst h
                             exact ⟨f71, rfl, (L54.trans (L63.trans L72)), HS116⟩

set_option maxRecDepth 100000 in
set_option maxHeartbeats 4000000 in
theorem sensor_sized.calls (k : Nat) (A2 : Option Addr) (c3 : Nat) (A5 : Option Addr) (c6 : Nat) (A8 : Option Addr) (c9 : Nat) (s1 : S_Sensor) (n11 : Int) {t w : World} {f : FM} {H : List Seg} (HS : St t w f (H)) (HR4 : SlR (tInt .i64) f A2 c3 s1.Bias) (HR7 : SlR (tInt .i64) f A5 c6 s1.Dark) (HR10 : SlR (tInt .i64) f A8 c9 s1.Flat) (rr1 : Int) (h : sensor_sized k s1 n11 = some rr1) :
    Calls Tryz.prog 15 #[.agg #[.int .i64 s1.W, .int .i64 s1.H, .slice A2 s1.Bias.length c3, .slice A5 s1.Dark.length c6, .slice A8 s1.Flat.length c9, .int .i64 s1.Full, .int .i64 s1.Gain, .int .i64 s1.Noise], .int .i64 n11] w (fun e w' => ∃ (g : FM), e = .returned (Value.int .i64 rr1) ∧ FM.le f g ∧ St t w' g (H)) := by
 unfold sensor_sized at h
 refine enter Tryz.func15 rfl (tm := #[(ag_Sensor s1 A2 c3 A5 c6 A8 c9), iV n11, uV, uV, uV, uV, uV, uV, uV, uV, uV, uV, uV, uV, uV, uV, uV, uV]) kr ?_
 intro B hret hnor hnp
 refine wp_seq_k fun K12 hK13 => rl ?_
 refine seqK rfl (does_box (cs := #[.int .i64 s1.W, .int .i64 s1.H, .slice A2 s1.Bias.length c3, .slice A5 s1.Dark.length c6, .slice A8 s1.Flat.length c9, .int .i64 s1.Full, .int .i64 s1.Gain, .int .i64 s1.Noise]) rfl (kv (.agg #[.int .i64 s1.W, .int .i64 s1.H, .slice A2 s1.Bias.length c3, .slice A5 s1.Dark.length c6, .slice A8 s1.Flat.length c9, .int .i64 s1.Full, .int .i64 s1.Gain, .int .i64 s1.Noise])) rfl HS ?_)
 intro b14 W15 HS16
 refine seqL1 kr ?_
 refine nl (hK13 _ _ ?_)
 refine wp_seq_k (fun K18 hK19 => ?_)
 refine wp_seq_k fun K20 hK21 => rl ?_
 refine seqK rfl (does_run (run_loadN (n := 8) rfl Tryz.underlying30 rfl kr (kv (.pointer (some ⟨b14, 0, none⟩))) (cs := [.int .i64 s1.W, .int .i64 s1.H, .slice A2 s1.Bias.length c3, .slice A5 s1.Dark.length c6, .slice A8 s1.Flat.length c9, .int .i64 s1.Full, .int .i64 s1.Gain, .int .i64 s1.Noise]) rfl (HS16.cells 0 8 _ rfl)) ?_)
 have hq_ := bind_some h; clear h; obtain ⟨vt22, hc23, h⟩ := hq_
 refine seqK rfl (does_call (f := 32) (args := #[.agg #[.int .i64 s1.W, .int .i64 s1.H, .slice A2 s1.Bias.length c3, .slice A5 s1.Dark.length c6, .slice A8 s1.Flat.length c9, .int .i64 s1.Full, .int .i64 s1.Gain, .int .i64 s1.Noise]]) kr (sensor_Check.calls k A2 c3 A5 c6 A8 c9 s1 HS16 HR4 HR7 HR10 vt22 hc23) ?_)
 rintro _ W26 ⟨f24, rfl, L25, HS27⟩
 refine ⟨_, rfl, ?_⟩
 refine seqL1 kr ?_
 refine nl (hK21 _ _ ?_)
 refine wp_seq_k fun K28 hK29 => rl ?_
 refine seqL2 kr ?_
 refine nl (hK29 _ _ ?_)
 have hq_ := ite_some h; clear h; rcases hq_ with ⟨c31, h⟩ | ⟨c31, h⟩
 · have c31 : vt22 ≠ 0 := c31
   refine wpRwI 9 (x := (vt22 != 0)) (v := true) kr (bne_iff_ne.mpr c31) ?_
   refine condT kr ?_
   refine wp_seq_k fun K32 hK33 => rl ?_
   refine seqL2 kr ?_
   refine nl (hK33 _ _ ?_)
   refine wp_ret ?_
   refine hret _ _ ?_
   refine ends_still (v := Value.int .i64 vt22) kr kr ?_
   have HS44 := HS27.drop
   injection h with h
   subst h
   exact ⟨f24, rfl, L25, HS44⟩
 · have c31 : ¬ (vt22 ≠ 0) := c31
   refine wpRwI 9 (x := (vt22 != 0)) (v := false) kr (bne_eq_false_iff_eq.mpr (Decidable.of_not_not c31)) ?_
   refine condF kr ?_
   refine wp_skip ?_
   refine hK19 _ _ ?_
   refine wp_seq_k (fun K34 hK35 => ?_)
   refine wp_seq_k fun K36 hK37 => rl ?_
   refine seqL2 kr ?_
   refine seqK rfl (does_run (run_load rfl Tryz.underlying3 rfl (kv (.pointer (some ⟨b14, 0, none⟩))) (HS27.cell 0)) ?_)
   refine seqL1 kr ?_
   refine seqK rfl (does_run (run_load rfl Tryz.underlying3 rfl (kv (.pointer (some ⟨b14, 1, none⟩))) (HS27.cell 1)) ?_)
   refine seqL2 kr ?_
   refine nl (hK37 _ _ ?_)
   have hq_ := ite_some h; clear h; rcases hq_ with ⟨c39, h⟩ | ⟨c39, h⟩
   · have c39 : n11 ≠ (w64 (s1.W * s1.H)) := c39
     refine wpRwI 17 (x := (n11 != (w64 (s1.W * s1.H)))) (v := true) kr (bne_iff_ne.mpr c39) ?_
     refine condT kr ?_
     refine wp_seq_k fun K40 hK41 => rl ?_
     refine seqL1 kr ?_
     refine nl (hK41 _ _ ?_)
     refine wp_ret ?_
     refine hret _ _ ?_
     refine ends_still (v := Value.int .i64 3) kr kr ?_
     have HS45 := HS27.drop
     injection h with h
     subst h
     exact ⟨f24, rfl, L25, HS45⟩
   · have c39 : ¬ (n11 ≠ (w64 (s1.W * s1.H))) := c39
     refine wpRwI 17 (x := (n11 != (w64 (s1.W * s1.H)))) (v := false) kr (bne_eq_false_iff_eq.mpr (Decidable.of_not_not c39)) ?_
     refine condF kr ?_
     refine wp_skip ?_
     refine hK35 _ _ ?_
     refine wp_seq_k fun K42 hK43 => rl ?_
     refine seqL1 kr ?_
     refine nl (hK43 _ _ ?_)
     refine wp_ret ?_
     refine hret _ _ ?_
     refine ends_still (v := Value.int .i64 0) kr kr ?_
     have HS46 := HS27.drop
     injection h with h
     subst h
     exact ⟨f24, rfl, L25, HS46⟩

set_option maxRecDepth 100000 in
set_option maxHeartbeats 4000000 in
theorem sensor_outside_Quanta_1.calls (k : Nat) (b1 : Nat) (v3 : Int) (x4 : Int) {t w : World} {f : FM} {H : List Seg} (HS : St t w f ([(b1, .cells #[.int .i64 v3] 28 (0, 0))] :: H)) (rr1 : Bool) (h : sensor_outside_Quanta_1 k v3 x4 = some rr1) :
    Calls Tryz.prog 34 #[.int .i64 x4, .pointer (some ⟨b1, 0, none⟩)] w (fun e w' => ∃ (g : FM), e = .returned (Value.bool rr1) ∧ FM.le f g ∧ St t w' g ([(b1, .cells #[.int .i64 v3] 28 (0, 0))] :: H)) := by
 unfold sensor_outside_Quanta_1 at h
 refine enter Tryz.func34 rfl (tm := #[iV x4, pV b1 0, uV, uV, uV, uV, uV, uV, uV, uV, uV]) kr ?_
 intro B hret hnor hnp
 refine wp_seq_k fun K5 hK6 => rl ?_
 refine seqL1 kr ?_
 refine nl (hK6 _ _ ?_)
 refine wp_seq_k fun K7 hK8 => rl ?_
 refine seqL3 kr ?_
 have hq_ := ite_some h; clear h; rcases hq_ with ⟨c9, h⟩ | ⟨c9, h⟩
 · have c9 : x4 < 0 := c9
   refine seqRwI 5 (x := (decide (x4 < 0))) (v := true) kr (decide_eq_true c9) ?_
   refine seqRwI 6 (x := (decide (x4 < 0))) (v := true) kr (decide_eq_true c9) ?_
   refine seqL5 kr ?_
   refine nl (hK8 _ _ ?_)
   refine wp_ret ?_
   refine hret _ _ ?_
   refine ends_still (v := Value.bool true) kr kr ?_
   injection h with h
   subst h
   exact ⟨f, rfl, FM.le.refl _, HS⟩
 · have c9 : ¬ (x4 < 0) := c9
   refine seqRwI 5 (x := (decide (x4 < 0))) (v := false) kr (decide_eq_false c9) ?_
   refine seqRwI 6 (x := (decide (x4 < 0))) (v := false) kr (decide_eq_false c9) ?_
   refine seqL1 kr ?_
   refine seqG kr (does_run (run_load rfl Tryz.underlying28 rfl (kv (.pointer (some ⟨b1, 0, none⟩))) (HS.cell 0)) ?_)
   refine seqL3 kr ?_
   refine nl (hK8 _ _ ?_)
   refine wp_ret ?_
   refine hret _ _ ?_
   refine ends_still (v := Value.bool (decide (x4 > v3))) kr kr ?_
   injection h with h
   subst h
   exact ⟨f, rfl, FM.le.refl _, HS⟩

set_option maxRecDepth 100000 in
set_option maxHeartbeats 4000000 in
theorem slices_IndexFunc_Quanta__sensor_outside_Quanta_1.calls (k : Nat) (b1 : Nat) (A5 : Option Addr) (c6 : Nat) (v3 : Int) (s4 : List Int) {t w : World} {f : FM} {H : List Seg} (HS : St t w f ([(b1, .cells #[.int .i64 v3] 28 (0, 0))] :: H)) (HR7 : SlR (tInt .i64) f A5 c6 s4) (rr1 : Int) (h : slices_IndexFunc_Quanta__sensor_outside_Quanta_1 k v3 s4 = some rr1) :
    Calls Tryz.prog 46 #[.slice A5 s4.length c6, .func (.func 34) #[] #[.pointer (some ⟨b1, 0, none⟩)]] w (fun e w' => ∃ (g : FM), e = .returned (Value.int .i64 rr1) ∧ FM.le f g ∧ St t w' g ([(b1, .cells #[.int .i64 v3] 28 (0, 0))] :: H)) := by
 unfold slices_IndexFunc_Quanta__sensor_outside_Quanta_1 at h
 refine enter Tryz.func46 rfl (tm := #[.slice A5 s4.length c6, .func (.func 34) #[] #[pV b1 0], uV, uV, uV, uV, uV, uV, uV, uV, uV, uV, uV, uV, uV, uV, uV, uV, uV]) kr ?_
 intro B hret hnor hnp
 refine wp_seq_k fun K8 hK9 => rl ?_
 refine seqL1 kr ?_
 refine nl (hK9 _ _ ?_)
 refine wp_seq_k (fun K10 hK11 => ?_)
 refine wp_seq_k fun K12 hK13 => rl ?_
 refine seqL3 kr ?_
 refine nl (hK13 _ _ ?_)
 refine blockK (fun B14 hx15 hn16 hr17 ho18 hp19 => ?_)
 have hq_ := bind_some h; clear h; obtain ⟨o20, hv71, h⟩ := hq_
 have JR73 : ∀ z_, some (Sum.inl z_) = some o20 → some z_ = some rr1 := by
  intro z_ e_; injection e_ with e_; subst e_; exact h
 have J72 : ∀ (f66 : FM) (j70 : Nat → Value) (W68 : World) (a_ : Act), FM.le f f66 → some (Sum.inr ()) = some o20 → St t W68 f66 ([(b1, .cells #[.int .i64 v3] 28 (0, 0))] :: H) → a_ = ⟨#[.slice A5 s4.length c6, .func (.func 34) #[] #[pV b1 0], uV, uV, (j70 0), (j70 1), .slice A5 s4.length c6, iV (s4.length : Int), (j70 2), (j70 3), (j70 4), (j70 5), (j70 6), (j70 7), (j70 8), (j70 9), (j70 10), (j70 11), (j70 12)], []⟩ → K10 a_ W68 := by
  intro f66 j70 W68 a_ L67 hj74 HS69  hfr_; subst hfr_
  injection hj74 with hj74; subst hj74; try dsimp only at h
  simp only [Sum.elim_inr] at h
  refine hK11 _ _ ?_
  refine wp_seq_k fun K75 hK76 => rl ?_
  refine seqL1 kr ?_
  refine nl (hK76 _ _ ?_)
  refine wp_ret ?_
  refine hret _ _ ?_
  refine ends_still (v := Value.int .i64 (-1)) kr kr ?_
  injection h with h
  subst h
  exact ⟨f66, rfl, L67, HS69⟩
 clear h; have h := hv71; clear hv71
 refine loopK (fun n_ a_ w_ => ∃ (f24 : FM) (x29 : Int) (j28 : Nat → Value), FM.le f f24 ∧ St t w_ f24 ([(b1, .cells #[.int .i64 v3] 28 (0, 0))] :: H) ∧ slices_IndexFunc_Quanta__sensor_outside_Quanta_1.l0 k s4 v3 n_ x29 = some o20 ∧ a_ = ⟨#[.slice A5 s4.length c6, .func (.func 34) #[] #[pV b1 0], uV, uV, (j28 0), (j28 1), .slice A5 s4.length c6, iV (s4.length : Int), iV x29, (j28 2), (j28 3), (j28 4), (j28 5), (j28 6), (j28 7), (j28 8), (j28 9), (j28 10), (j28 11)], []⟩) k ⟨f, 0, (fun i_ => [Value.int .i64 0, undef, undef, undef, undef, undef, undef, undef, undef, undef, undef, undef].getD i_ undef), (FM.le.refl _), HS, h, kr⟩ ?_
 clear h
 rintro n23 _ W26 ⟨f24, x29, j28, L25, HS27, h, rfl⟩ K21 hK22
 obtain _ | n23 := n23
 · exact nomatch h
 simp only [slices_IndexFunc_Quanta__sensor_outside_Quanta_1.l0] at h
 refine wp_seq_k fun K30 hK31 => rl ?_
 refine seqL1 kr ?_
 refine nl (hK31 _ _ ?_)
 refine wp_seq_k (fun K32 hK33 => ?_)
 have hq_ := ite_some h; clear h; rcases hq_ with ⟨c35, h⟩ | ⟨c35, h⟩
 · have c35 : x29 < (s4.length : Int) := c35
   refine wpRwI 9 (x := (decide (x29 < (s4.length : Int)))) (v := true) kr (decide_eq_true c35) ?_
   refine condT kr ?_
   refine wp_skip ?_
   refine hK33 _ _ ?_
   refine wp_seq_k (fun K36 hK37 => ?_)
   refine blockK (fun B38 hx39 hn40 hr41 ho42 hp43 => ?_)
   refine wp_seq_k fun K45 hK46 => rl ?_
   refine seqL2 kr ?_
   refine nl (hK46 _ _ ?_)
   refine wp_seq_k fun K47 hK48 => rl ?_
   have hq_ := guard_some h; clear h; obtain ⟨c49, h⟩ := hq_
   have c49 : 0 ≤ x29 := c49
   obtain ⟨b53, of54, cs50, hA55, hr51, hc52⟩ := (HR7.mono L25).at (i := x29) c49 c35
   obtain rfl := hr51
   refine seqL3 kr ?_
   refine seqK rfl (does_run (run_indexE hA55 (sz := 1) rfl Tryz.underlying32 kr (kv (.slice A5 s4.length c6)) (kv (.int .i64 x29)) c49 c35 W26) ?_)
   refine seqK rfl (does_run (run_load rfl Tryz.underlying28 rfl (kv (.pointer (some ⟨b53, of54 + (x29 : Int).toNat * 1, none⟩))) ((hc52 (FM.le.refl _) HS27) 0 (by decide))) ?_)
   have hq_ := bind_some h; clear h; obtain ⟨vt56, hc57, h⟩ := hq_
   refine seqK rfl (does_call (f := 34) (args := #[.int .i64 (rd s4 x29), .pointer (some ⟨b1, 0, none⟩)]) kr (sensor_outside_Quanta_1.calls k b1 v3 (rd s4 x29) HS27 vt56 hc57) ?_)
   rintro _ W60 ⟨f58, rfl, L59, HS61⟩
   refine ⟨_, rfl, ?_⟩
   refine nl (hK48 _ _ ?_)
   have hq_ := ite_some h; clear h; rcases hq_ with ⟨c63, h⟩ | ⟨c63, h⟩
   · have c63 : vt56 = true := c63
     refine wpRwI 16 (x := vt56) (v := true) kr c63 ?_
     refine condT kr ?_
     refine wp_seq_k fun K64 hK65 => rl ?_
     refine seqL2 kr ?_
     refine nl (hK65 _ _ ?_)
     refine wp_ret ?_
     refine hr41 _ _ ?_
     refine hr17 _ _ ?_
     refine hret _ _ ?_
     refine ends_still (v := Value.int .i64 x29) kr kr ?_
     replace h := JR73 _ h
     injection h with h
     subst h
     exact ⟨f58, rfl, (L25.trans L59), HS61⟩
   · have c63 : ¬ (vt56 = true) := c63
     refine wpRwI 16 (x := vt56) (v := false) kr (Bool.eq_false_iff.mpr c63) ?_
     refine condF kr ?_
     refine wp_skip ?_
     refine hn40 _ _ ?_
     refine hK37 _ _ ?_
     refine rl ?_
     refine seqL2 kr ?_
     refine nl ?_
     refine hK22 n23 _ _ (Nat.lt_succ_self _) ?_
     exact ⟨f58, (w64 (x29 + 1)), (fun i_ => [(j28 0), Value.int .i64 x29, Value.bool true, Value.int .i64 x29, Value.func (.func 34) #[] #[.pointer (some ⟨b1, 0, none⟩)], Value.slice A5 s4.length c6, Value.int .i64 x29, Value.pointer (some ⟨b53, of54 + (x29 : Int).toNat * 1, none⟩), Value.int .i64 (rd s4 x29), Value.bool false, (j28 10), Value.int .i64 (w64 (x29 + 1))].getD i_ undef), (L25.trans L59), HS61, h, kr⟩
 · have c35 : ¬ (x29 < (s4.length : Int)) := c35
   refine wpRwI 9 (x := (decide (x29 < (s4.length : Int)))) (v := false) kr (decide_eq_false c35) ?_
   refine condF kr ?_
   refine wp_exit ?_
   refine hx15 _ _ ?_
   exact J72 f24 (fun i_ => [(j28 0), (j28 1), Value.int .i64 x29, Value.bool false, (j28 3), (j28 4), (j28 5), (j28 6), (j28 7), (j28 8), (j28 9), (j28 10), (j28 11)].getD i_ undef) W26 _ L25 h HS27 kr

set_option maxRecDepth 100000 in
set_option maxHeartbeats 4000000 in
theorem slices_ContainsFunc_Quanta__sensor_outside_Quanta_1.calls (k : Nat) (b1 : Nat) (A5 : Option Addr) (c6 : Nat) (v3 : Int) (s4 : List Int) {t w : World} {f : FM} {H : List Seg} (HS : St t w f ([(b1, .cells #[.int .i64 v3] 28 (0, 0))] :: H)) (HR7 : SlR (tInt .i64) f A5 c6 s4) (rr1 : Bool) (h : slices_ContainsFunc_Quanta__sensor_outside_Quanta_1 k v3 s4 = some rr1) :
    Calls Tryz.prog 33 #[.slice A5 s4.length c6, .func (.func 34) #[] #[.pointer (some ⟨b1, 0, none⟩)]] w (fun e w' => ∃ (g : FM), e = .returned (Value.bool rr1) ∧ FM.le f g ∧ St t w' g ([(b1, .cells #[.int .i64 v3] 28 (0, 0))] :: H)) := by
 unfold slices_ContainsFunc_Quanta__sensor_outside_Quanta_1 at h
 refine enter Tryz.func33 rfl (tm := #[.slice A5 s4.length c6, .func (.func 34) #[] #[pV b1 0], uV, uV, uV, uV, uV, uV, uV]) kr ?_
 intro B hret hnor hnp
 refine wp_seq_k fun K8 hK9 => rl ?_
 refine seqL1 kr ?_
 refine nl (hK9 _ _ ?_)
 refine wp_seq_k fun K10 hK11 => rl ?_
 have hq_ := bind_some h; clear h; obtain ⟨vt12, hc13, h⟩ := hq_
 refine seqL2 kr ?_
 refine seqK rfl (does_call (f := 46) (args := #[.slice A5 s4.length c6, .func (.func 34) #[] #[.pointer (some ⟨b1, 0, none⟩)]]) kr (slices_IndexFunc_Quanta__sensor_outside_Quanta_1.calls k b1 A5 c6 v3 s4 HS HR7 vt12 hc13) ?_)
 rintro _ W16 ⟨f14, rfl, L15, HS17⟩
 refine ⟨_, rfl, ?_⟩
 refine seqL2 kr ?_
 refine nl (hK11 _ _ ?_)
 refine wp_ret ?_
 refine hret _ _ ?_
 refine ends_still (v := Value.bool (decide (vt12 ≥ 0))) kr kr ?_
 injection h with h
 subst h
 exact ⟨f14, rfl, L15, HS17⟩

set_option maxRecDepth 100000 in
set_option maxHeartbeats 4000000 in
theorem sensor_outside_Quanta.calls (k : Nat) (A2 : Option Addr) (c3 : Nat) (l1 : List Int) (most5 : Int) {t w : World} {f : FM} {H : List Seg} (HS : St t w f (H)) (HR4 : SlR (tInt .i64) f A2 c3 l1) (rr1 : Bool) (h : sensor_outside_Quanta k l1 most5 = some rr1) :
    Calls Tryz.prog 16 #[.slice A2 l1.length c3, .int .i64 most5] w (fun e w' => ∃ (g : FM), e = .returned (Value.bool rr1) ∧ FM.le f g ∧ St t w' g (H)) := by
 unfold sensor_outside_Quanta at h
 refine enter Tryz.func16 rfl (tm := #[.slice A2 l1.length c3, iV most5, uV, uV, uV, uV, uV, uV]) kr ?_
 intro B hret hnor hnp
 refine wp_seq_k fun K6 hK7 => rl ?_
 refine seqK rfl (does_box (cs := #[.int .i64 most5]) rfl (kv (.int .i64 most5)) rfl HS ?_)
 intro b8 W9 HS10
 refine seqL1 kr ?_
 refine nl (hK7 _ _ ?_)
 refine wp_seq_k fun K12 hK13 => rl ?_
 have hq_ := bind_some h; clear h; obtain ⟨vt14, hc15, h⟩ := hq_
 refine seqL2 kr ?_
 refine seqK rfl (does_call (f := 33) (args := #[.slice A2 l1.length c3, .func (.func 34) #[] #[.pointer (some ⟨b8, 0, none⟩)]]) kr (slices_ContainsFunc_Quanta__sensor_outside_Quanta_1.calls k b8 A2 c3 most5 l1 HS10 HR4 vt14 hc15) ?_)
 rintro _ W18 ⟨f16, rfl, L17, HS19⟩
 refine ⟨_, rfl, ?_⟩
 refine seqL1 kr ?_
 refine nl (hK13 _ _ ?_)
 refine wp_ret ?_
 refine hret _ _ ?_
 refine ends_still (v := Value.bool vt14) kr kr ?_
 have HS20 := HS19.drop
 injection h with h
 subst h
 exact ⟨f16, rfl, L17, HS20⟩

set_option maxRecDepth 100000 in
set_option maxHeartbeats 4000000 in
theorem sensor_Bleed_1.calls (k : Nat) (b1 : Nat) (A6 : Option Addr) (c7 : Nat) (b3 : Nat) (A10 : Option Addr) (c11 : Nat) (A13 : Option Addr) (c14 : Nat) (A16 : Option Addr) (c17 : Nat) (v5 : List Int) (v9 : S_Sensor) (i19 : Int) {t w : World} {f : FM} {H : List Seg} (HS : St t w f ([(b1, .cells #[.slice A6 v5.length c7] 32 (0, 0))] :: [(b3, .cells #[.int .i64 v9.W, .int .i64 v9.H, .slice A10 v9.Bias.length c11, .slice A13 v9.Dark.length c14, .slice A16 v9.Flat.length c17, .int .i64 v9.Full, .int .i64 v9.Gain, .int .i64 v9.Noise] 30 (0, 0))] :: H)) (HR8 : SlR (tInt .i64) f A6 c7 v5) (HR12 : SlR (tInt .i64) f A10 c11 v9.Bias) (HR15 : SlR (tInt .i64) f A13 c14 v9.Dark) (HR18 : SlR (tInt .i64) f A16 c17 v9.Flat) (rr1 : Int) (h : sensor_Bleed_1 k v5 v9 i19 = some rr1) :
    Calls Tryz.prog 17 #[.int .i64 i19, .pointer (some ⟨b1, 0, none⟩), .pointer (some ⟨b3, 0, none⟩)] w (fun e w' => ∃ (g : FM), e = .returned (Value.int .i64 rr1) ∧ FM.le f g ∧ St t w' g ([(b1, .cells #[.slice A6 v5.length c7] 32 (0, 0))] :: [(b3, .cells #[.int .i64 v9.W, .int .i64 v9.H, .slice A10 v9.Bias.length c11, .slice A13 v9.Dark.length c14, .slice A16 v9.Flat.length c17, .int .i64 v9.Full, .int .i64 v9.Gain, .int .i64 v9.Noise] 30 (0, 0))] :: H)) := by
 unfold sensor_Bleed_1 at h
 refine enter Tryz.func17 rfl (tm := #[iV i19, pV b1 0, pV b3 0, uV, uV, uV, uV, uV, uV, uV, uV, uV, uV]) kr ?_
 intro B hret hnor hnp
 refine wp_seq_k fun K20 hK21 => rl ?_
 refine seqL1 kr ?_
 refine nl (hK21 _ _ ?_)
 refine wp_seq_k (fun K22 hK23 => ?_)
 refine heldG (S := Sg t f ([(b1, .cells #[.slice A6 v5.length c7] 32 (0, 0))] :: [(b3, .cells #[.int .i64 v9.W, .int .i64 v9.H, .slice A10 v9.Bias.length c11, .slice A13 v9.Dark.length c14, .slice A16 v9.Flat.length c17, .int .i64 v9.Full, .int .i64 v9.Gain, .int .i64 v9.Noise] 30 (0, 0))] :: H) []) (n := 9) kr rfl HS ?_
 intro W24 HS25
 refine takeGQ 0 [] rfl kr kr kr kr kr kr hnp (Sg.g0 (Sx.of [] (FM.le.refl _) HS25)) (fun w_ hw_ => by obtain ⟨g_, hl_, hS_⟩ := hw_.st; exact run_load rfl Tryz.underlying32 rfl (kv (.pointer (some ⟨b1, 0, none⟩))) (hS_.cell 0)) ?_
 have hq_ := guard_some h; clear h; obtain ⟨c26, h⟩ := hq_
 have c26 : 0 ≤ i19 := c26
 have hq_ := guard_some h; clear h; obtain ⟨c27, h⟩ := hq_
 have c27 : i19 < (v5.length : Int) := c27
 obtain ⟨b31, of32, cs28, hA33, hr29, hc30⟩ := HR8.at (i := i19) c26 c27
 obtain rfl := hr29
 refine takeGL [1] (n := 8) (fuel := 7) #[true, true, false, false, false, false, false, false, false] rfl kr kr kr hnp (Sg.g0 (Sx.of [] (FM.le.refl _) HS25)) ?_
 refine takeGQ 2 [] rfl kr kr kr kr kr kr hnp (Sg.g0 (Sx.of [] (FM.le.refl _) HS25)) (fun w_ hw_ => by obtain ⟨g_, hl_, hS_⟩ := hw_.st; exact run_indexE hA33 (sz := 1) rfl Tryz.underlying32 kr (kv (.slice A6 v5.length c7)) (kv (.int .i64 i19)) c26 c27 w_) ?_
 refine takeGQ 3 [] rfl kr kr kr kr kr kr hnp (Sg.g0 (Sx.of [] (FM.le.refl _) HS25)) (fun w_ hw_ => by obtain ⟨g_, hl_, hS_⟩ := hw_.st; exact run_load rfl Tryz.underlying28 rfl (kv (.pointer (some ⟨b31, of32 + (i19 : Int).toNat * 1, none⟩))) ((hc30 hl_ hS_) 0 (by decide))) ?_
 refine takeGL [4] (n := 5) (fuel := 4) #[true, true, true, true, true, false, false, false, false] rfl kr kr kr hnp (Sg.g0 (Sx.of [] (FM.le.refl _) HS25)) ?_
 refine takeGQ 5 [] rfl kr kr kr kr kr kr hnp (Sg.g0 (Sx.of [] (FM.le.refl _) HS25)) (fun w_ hw_ => by obtain ⟨g_, hl_, hS_⟩ := hw_.st; exact run_load rfl Tryz.underlying28 rfl (kv (.pointer (some ⟨b3, 5, none⟩))) (hS_.u1.cell 5)) ?_
 refine takeGL [6, 7, 8] (n := 3) (fuel := 0) #[true, true, true, true, true, true, true, true, true] rfl kr kr kr hnp (Sg.g0 (Sx.of [] (FM.le.refl _) HS25)) ?_
 refine doneG kr ?_ _
 refine hK23 _ _ ?_
 refine wp_ret ?_
 refine hret _ _ ?_
 refine ends_still (v := Value.int .i64 (mx 0 (w64 ((rd v5 i19) - v9.Full)))) kr kr ?_
 injection h with h
 subst h
 exact ⟨f, rfl, FM.le.refl _, HS25⟩

set_option maxRecDepth 100000 in
set_option maxHeartbeats 4000000 in
theorem sensor_Bleed_2.calls (k : Nat) (b1 : Nat) (b3 : Nat) (A8 : Option Addr) (c9 : Nat) (b5 : Nat) (A12 : Option Addr) (c13 : Nat) (A15 : Option Addr) (c16 : Nat) (A18 : Option Addr) (c19 : Nat) (v7 : List Int) (v11 : S_Sensor) (i21 : Int) {t w : World} {f : FM} {H : List Seg} (HS : St t w f ([(b1, .cells #[.func (.func 17) #[] #[.pointer (some ⟨b3, 0, none⟩), .pointer (some ⟨b5, 0, none⟩)]] 63 (0, 0))] :: [(b3, .cells #[.slice A8 v7.length c9] 32 (0, 0))] :: [(b5, .cells #[.int .i64 v11.W, .int .i64 v11.H, .slice A12 v11.Bias.length c13, .slice A15 v11.Dark.length c16, .slice A18 v11.Flat.length c19, .int .i64 v11.Full, .int .i64 v11.Gain, .int .i64 v11.Noise] 30 (0, 0))] :: H)) (HR10 : SlR (tInt .i64) f A8 c9 v7) (HR14 : SlR (tInt .i64) f A12 c13 v11.Bias) (HR17 : SlR (tInt .i64) f A15 c16 v11.Dark) (HR20 : SlR (tInt .i64) f A18 c19 v11.Flat) (rr1 : Int) (h : sensor_Bleed_2 k v7 v11 i21 = some rr1) :
    Calls Tryz.prog 19 #[.int .i64 i21, .pointer (some ⟨b1, 0, none⟩)] w (fun e w' => ∃ (g : FM), e = .returned (Value.int .i64 rr1) ∧ FM.le f g ∧ St t w' g ([(b1, .cells #[.func (.func 17) #[] #[.pointer (some ⟨b3, 0, none⟩), .pointer (some ⟨b5, 0, none⟩)]] 63 (0, 0))] :: [(b3, .cells #[.slice A8 v7.length c9] 32 (0, 0))] :: [(b5, .cells #[.int .i64 v11.W, .int .i64 v11.H, .slice A12 v11.Bias.length c13, .slice A15 v11.Dark.length c16, .slice A18 v11.Flat.length c19, .int .i64 v11.Full, .int .i64 v11.Gain, .int .i64 v11.Noise] 30 (0, 0))] :: H)) := by
 unfold sensor_Bleed_2 at h
 refine enter Tryz.func19 rfl (tm := #[iV i21, pV b1 0, uV, uV, uV, uV, uV, uV, uV]) kr ?_
 intro B hret hnor hnp
 refine wp_seq_k fun K22 hK23 => rl ?_
 refine seqL1 kr ?_
 refine nl (hK23 _ _ ?_)
 refine wp_seq_k fun K24 hK25 => rl ?_
 refine seqK rfl (does_run (run_load rfl Tryz.underlying63 rfl (kv (.pointer (some ⟨b1, 0, none⟩))) (HS.cell 0)) ?_)
 have HS26 := HS.u2
 have HS27 := HS26.u2
 have hq_ := bind_some h; clear h; obtain ⟨vt28, hc29, h⟩ := hq_
 refine seqL1 kr ?_
 refine seqK rfl (does_call (f := 17) (args := #[.int .i64 i21, .pointer (some ⟨b3, 0, none⟩), .pointer (some ⟨b5, 0, none⟩)]) kr (sensor_Bleed_1.calls k b3 A8 c9 b5 A12 c13 A15 c16 A18 c19 v7 v11 i21 HS27 HR10 HR14 HR17 HR20 vt28 hc29) ?_)
 rintro _ W32 ⟨f30, rfl, L31, HS33⟩
 refine ⟨_, rfl, ?_⟩
 refine seqL3 kr ?_
 refine nl (hK25 _ _ ?_)
 refine wp_ret ?_
 refine hret _ _ ?_
 refine ends_still (v := Value.int .i64 (w64 (Int.tdiv (w64 (vt28 + 1)) 2))) kr kr ?_
 have HS34 := HS33.u1
 have HS35 := HS34.u1
 have HS36 := HS35.u2
 injection h with h
 subst h
 exact ⟨f30, rfl, L31, HS36⟩

set_option maxRecDepth 100000 in
set_option maxHeartbeats 4000000 in
theorem sensor_pour__sensor_Bleed_2.calls (k : Nat) (b1 : Nat) (b3 : Nat) (A8 : Option Addr) (c9 : Nat) (b5 : Nat) (A12 : Option Addr) (c13 : Nat) (A15 : Option Addr) (c16 : Nat) (A18 : Option Addr) (c19 : Nat) (A22 : Option Addr) (c23 : Nat) (A25 : Option Addr) (c26 : Nat) (A28 : Option Addr) (c29 : Nat) (A31 : Option Addr) (c32 : Nat) (s33 : Seg) (A38 : Option Addr) (c39 : Nat) (v7 : List Int) (v11 : S_Sensor) (s21 : S_Sensor) (held35 : List Int) (order37 : List Int) {t w : World} {f : FM} {H : List Seg} (HS : St t w f ([(b1, .cells #[.func (.func 17) #[] #[.pointer (some ⟨b3, 0, none⟩), .pointer (some ⟨b5, 0, none⟩)]] 63 (0, 0))] :: [(b3, .cells #[.slice A8 v7.length c9] 32 (0, 0))] :: [(b5, .cells #[.int .i64 v11.W, .int .i64 v11.H, .slice A12 v11.Bias.length c13, .slice A15 v11.Dark.length c16, .slice A18 v11.Flat.length c19, .int .i64 v11.Full, .int .i64 v11.Gain, .int .i64 v11.Noise] 30 (0, 0))] :: s33 :: H)) (HR10 : SlR (tInt .i64) f A8 c9 v7) (HR14 : SlR (tInt .i64) f A12 c13 v11.Bias) (HR17 : SlR (tInt .i64) f A15 c16 v11.Dark) (HR20 : SlR (tInt .i64) f A18 c19 v11.Flat) (HR24 : SlR (tInt .i64) f A22 c23 s21.Bias) (HR27 : SlR (tInt .i64) f A25 c26 s21.Dark) (HR30 : SlR (tInt .i64) f A28 c29 s21.Flat) (HO34 : Own (tInt .i64) 28 f A31 c32 s33 held35) (HR40 : SlR (tInt .i64) f A38 c39 order37) (rr1 : Int) (rr2 : List Int) (h : sensor_pour__sensor_Bleed_2 k v7 v11 s21 held35 order37 = some (rr1, rr2)) :
    Calls Tryz.prog 18 #[.agg #[.int .i64 s21.W, .int .i64 s21.H, .slice A22 s21.Bias.length c23, .slice A25 s21.Dark.length c26, .slice A28 s21.Flat.length c29, .int .i64 s21.Full, .int .i64 s21.Gain, .int .i64 s21.Noise], .slice A31 held35.length c32, .slice A38 order37.length c39, .func (.func 19) #[] #[.pointer (some ⟨b1, 0, none⟩)]] w (fun e w' => ∃ (g : FM) (s210 : Seg), e = .returned (Value.int .i64 rr1) ∧ FM.le f g ∧ St t w' g ([(b1, .cells #[.func (.func 17) #[] #[.pointer (some ⟨b3, 0, none⟩), .pointer (some ⟨b5, 0, none⟩)]] 63 (0, 0))] :: [(b3, .cells #[.slice A8 v7.length c9] 32 (0, 0))] :: [(b5, .cells #[.int .i64 v11.W, .int .i64 v11.H, .slice A12 v11.Bias.length c13, .slice A15 v11.Dark.length c16, .slice A18 v11.Flat.length c19, .int .i64 v11.Full, .int .i64 v11.Gain, .int .i64 v11.Noise] 30 (0, 0))] :: s210 :: H) ∧ Own (tInt .i64) 28 g A31 c32 s210 rr2 ∧ rr2.length = held35.length) := by
 unfold sensor_pour__sensor_Bleed_2 at h
 refine enter Tryz.func18 rfl (tm := #[(ag_Sensor s21 A22 c23 A25 c26 A28 c29), .slice A31 held35.length c32, .slice A38 order37.length c39, .func (.func 19) #[] #[pV b1 0], uV, uV, uV, uV, uV, uV, uV, uV, uV, uV, uV, uV, uV, uV, uV, uV, uV, uV, uV, uV, uV, uV, uV, uV, uV, uV, uV, uV, uV, uV, uV, uV, uV, uV, uV, uV, uV, uV, uV, uV]) kr ?_
 intro B hret hnor hnp
 refine wp_seq_k fun K41 hK42 => rl ?_
 refine seqK rfl (does_box (cs := #[.int .i64 s21.W, .int .i64 s21.H, .slice A22 s21.Bias.length c23, .slice A25 s21.Dark.length c26, .slice A28 s21.Flat.length c29, .int .i64 s21.Full, .int .i64 s21.Gain, .int .i64 s21.Noise]) rfl (kv (.agg #[.int .i64 s21.W, .int .i64 s21.H, .slice A22 s21.Bias.length c23, .slice A25 s21.Dark.length c26, .slice A28 s21.Flat.length c29, .int .i64 s21.Full, .int .i64 s21.Gain, .int .i64 s21.Noise])) rfl HS ?_)
 intro b43 W44 HS45
 refine seqL1 kr ?_
 refine nl (hK42 _ _ ?_)
 refine wp_seq_k fun K47 hK48 => rl ?_
 refine seqL1 kr ?_
 refine nl (hK48 _ _ ?_)
 refine wp_seq_k (fun K49 hK50 => ?_)
 refine wp_seq_k fun K51 hK52 => rl ?_
 refine seqL3 kr ?_
 refine nl (hK52 _ _ ?_)
 refine blockK (fun B53 hx54 hn55 hr56 ho57 hp58 => ?_)
 have hq_ := bind_some h; clear h; obtain ⟨o122, hv199, h⟩ := hq_
 have J200 : ∀ (f189 : FM) (s195 : Seg) (held194 : List Int) (flow198 : Int) (j193 : Nat → Value) (W191 : World) (a_ : Act), FM.le f f189 → some ((held194, flow198)) = some o122 → St t W191 f189 ([(b43, .cells #[.int .i64 s21.W, .int .i64 s21.H, .slice A22 s21.Bias.length c23, .slice A25 s21.Dark.length c26, .slice A28 s21.Flat.length c29, .int .i64 s21.Full, .int .i64 s21.Gain, .int .i64 s21.Noise] 30 (0, 0))] :: [(b1, .cells #[.func (.func 17) #[] #[.pointer (some ⟨b3, 0, none⟩), .pointer (some ⟨b5, 0, none⟩)]] 63 (0, 0))] :: [(b3, .cells #[.slice A8 v7.length c9] 32 (0, 0))] :: [(b5, .cells #[.int .i64 v11.W, .int .i64 v11.H, .slice A12 v11.Bias.length c13, .slice A15 v11.Dark.length c16, .slice A18 v11.Flat.length c19, .int .i64 v11.Full, .int .i64 v11.Gain, .int .i64 v11.Noise] 30 (0, 0))] :: s195 :: H) → Own (tInt .i64) 28 f189 A31 c32 s195 held194 → held194.length = held35.length → a_ = ⟨#[(ag_Sensor s21 A22 c23 A25 c26 A28 c29), .slice A31 held194.length c32, .slice A38 order37.length c39, .func (.func 19) #[] #[pV b1 0], pV b43 0, uV, uV, uV, iV 0, iV flow198, uV, (j193 0), (j193 1), .slice A38 order37.length c39, iV (order37.length : Int), (j193 2), (j193 3), (j193 4), (j193 5), (j193 6), (j193 7), (j193 8), (j193 9), (j193 10), (j193 11), (j193 12), (j193 13), (j193 14), (j193 15), (j193 16), (j193 17), (j193 18), (j193 19), (j193 20), (j193 21), (j193 22), (j193 23), (j193 24), (j193 25), (j193 26), (j193 27), (j193 28), (j193 29), uV], []⟩ → K49 a_ W191 := by
  intro f189 s195 held194 flow198 j193 W191 a_ L190 hj201 HS192 HO196 HL197 hfr_; subst hfr_
  injection hj201 with hj201; subst hj201; try dsimp only at h
  refine hK50 _ _ ?_
  refine wp_seq_k fun K207 hK208 => rl ?_
  refine seqL2 kr ?_
  refine nl (hK208 _ _ ?_)
  refine wp_ret ?_
  refine hret _ _ ?_
  refine ends_still (v := Value.int .i64 flow198) kr kr ?_
  have HS209 := HS192.drop
  injection h with h
  injection h with h0_ h
  subst h0_ h
  exact ⟨f189, s195, rfl, L190, HS209, HO196, HL197⟩
 clear h; have h := hv199; clear hv199
 refine loopK (fun n_ a_ w_ => ∃ (f126 : FM) (s132 : Seg) (held131 : List Int) (flow135 : Int) (x136 : Int) (j130 : Nat → Value), FM.le f f126 ∧ St t w_ f126 ([(b43, .cells #[.int .i64 s21.W, .int .i64 s21.H, .slice A22 s21.Bias.length c23, .slice A25 s21.Dark.length c26, .slice A28 s21.Flat.length c29, .int .i64 s21.Full, .int .i64 s21.Gain, .int .i64 s21.Noise] 30 (0, 0))] :: [(b1, .cells #[.func (.func 17) #[] #[.pointer (some ⟨b3, 0, none⟩), .pointer (some ⟨b5, 0, none⟩)]] 63 (0, 0))] :: [(b3, .cells #[.slice A8 v7.length c9] 32 (0, 0))] :: [(b5, .cells #[.int .i64 v11.W, .int .i64 v11.H, .slice A12 v11.Bias.length c13, .slice A15 v11.Dark.length c16, .slice A18 v11.Flat.length c19, .int .i64 v11.Full, .int .i64 v11.Gain, .int .i64 v11.Noise] 30 (0, 0))] :: s132 :: H) ∧ Own (tInt .i64) 28 f126 A31 c32 s132 held131 ∧ held131.length = held35.length ∧ sensor_pour__sensor_Bleed_2.l0 k order37 v7 v11 s21 n_ held131 flow135 x136 = some o122 ∧ a_ = ⟨#[(ag_Sensor s21 A22 c23 A25 c26 A28 c29), .slice A31 held131.length c32, .slice A38 order37.length c39, .func (.func 19) #[] #[pV b1 0], pV b43 0, uV, uV, uV, iV 0, iV flow135, uV, (j130 0), (j130 1), .slice A38 order37.length c39, iV (order37.length : Int), iV x136, (j130 2), (j130 3), (j130 4), (j130 5), (j130 6), (j130 7), (j130 8), (j130 9), (j130 10), (j130 11), (j130 12), (j130 13), (j130 14), (j130 15), (j130 16), (j130 17), (j130 18), (j130 19), (j130 20), (j130 21), (j130 22), (j130 23), (j130 24), (j130 25), (j130 26), (j130 27), (j130 28), uV], []⟩) k ⟨f, s33, held35, 0, 0, (fun i_ => [undef, undef, undef, undef, undef, undef, undef, undef, undef, undef, undef, undef, undef, undef, undef, undef, undef, undef, undef, undef, undef, undef, undef, undef, undef, undef, undef, undef, undef].getD i_ undef), (FM.le.refl _), HS45, HO34, rfl, h, kr⟩ ?_
 clear h
 rintro n125 _ W128 ⟨f126, s132, held131, flow135, x136, j130, L127, HS129, HO133, HL134, h, rfl⟩ K123 hK124
 obtain _ | n125 := n125
 · exact nomatch h
 simp only [sensor_pour__sensor_Bleed_2.l0] at h
 refine wp_seq_k fun K137 hK138 => rl ?_
 refine seqL1 kr ?_
 refine nl (hK138 _ _ ?_)
 refine wp_seq_k (fun K139 hK140 => ?_)
 have hq_ := ite_some h; clear h; rcases hq_ with ⟨c142, h⟩ | ⟨c142, h⟩
 · have c142 : x136 < (order37.length : Int) := c142
   refine wpRwI 16 (x := (decide (x136 < (order37.length : Int)))) (v := true) kr (decide_eq_true c142) ?_
   refine condT kr ?_
   refine wp_skip ?_
   refine hK140 _ _ ?_
   refine wp_seq_k (fun K143 hK144 => ?_)
   refine blockK (fun B145 hx146 hn147 hr148 ho149 hp150 => ?_)
   refine wp_seq_k fun K152 hK153 => rl ?_
   have hq_ := guard_some h; clear h; obtain ⟨c154, h⟩ := hq_
   have c154 : 0 ≤ x136 := c154
   obtain ⟨b158, of159, cs155, hA160, hr156, hc157⟩ := (HR40.mono L127).at (i := x136) c154 c142
   obtain rfl := hr156
   refine seqK rfl (does_run (run_indexE hA160 (sz := 1) rfl Tryz.underlying22 kr (kv (.slice A38 order37.length c39)) (kv (.int .i64 x136)) c154 c142 W128) ?_)
   refine seqK rfl (does_run (run_load rfl Tryz.underlying3 rfl (kv (.pointer (some ⟨b158, of159 + (x136 : Int).toNat * 1, none⟩))) ((hc157 (FM.le.refl _) HS129) 0 (by decide))) ?_)
   refine seqL1 kr ?_
   refine nl (hK153 _ _ ?_)
   refine wp_seq_k (fun K161 hK162 => ?_)
   refine heldG (S := Sg t f126 ([(b43, .cells #[.int .i64 s21.W, .int .i64 s21.H, .slice A22 s21.Bias.length c23, .slice A25 s21.Dark.length c26, .slice A28 s21.Flat.length c29, .int .i64 s21.Full, .int .i64 s21.Gain, .int .i64 s21.Noise] 30 (0, 0))] :: [(b1, .cells #[.func (.func 17) #[] #[.pointer (some ⟨b3, 0, none⟩), .pointer (some ⟨b5, 0, none⟩)]] 63 (0, 0))] :: [(b3, .cells #[.slice A8 v7.length c9] 32 (0, 0))] :: [(b5, .cells #[.int .i64 v11.W, .int .i64 v11.H, .slice A12 v11.Bias.length c13, .slice A15 v11.Dark.length c16, .slice A18 v11.Flat.length c19, .int .i64 v11.Full, .int .i64 v11.Gain, .int .i64 v11.Noise] 30 (0, 0))] :: s132 :: H) []) (n := 10) kr rfl HS129 ?_
   intro W163 HS164
   refine takeGL [0, 1] (n := 10) (fuel := 8) #[true, true, false, false, false, false, false, false, false, false] rfl kr kr kr (fun ch_ a_ w_ q_ => (fun ch_ a_ w_ q_ => hnp ch_ a_ w_ (hp58 ch_ a_ w_ q_)) ch_ a_ w_ (hp150 ch_ a_ w_ q_)) (Sg.g0 (Sx.of [] (FM.le.refl _) HS164)) ?_
   refine takeGQ 2 [] rfl kr kr kr kr kr kr (fun ch_ a_ w_ q_ => (fun ch_ a_ w_ q_ => hnp ch_ a_ w_ (hp58 ch_ a_ w_ q_)) ch_ a_ w_ (hp150 ch_ a_ w_ q_)) (Sg.g0 (Sx.of [] (FM.le.refl _) HS164)) (fun w_ hw_ => by obtain ⟨g_, hl_, hS_⟩ := hw_.st; exact run_load rfl Tryz.underlying28 rfl (kv (.pointer (some ⟨b43, 5, none⟩))) (hS_.cell 5)) ?_
   have hq_ := guard_some h; clear h; obtain ⟨c165, h⟩ := hq_
   have c165 : 0 ≤ (rd order37 x136) := c165
   have hq_ := guard_some h; clear h; obtain ⟨c166, h⟩ := hq_
   have c166 : (rd order37 x136) < (held131.length : Int) := c166
   obtain ⟨b170, of171, cs167, hA172, hr168, hc169⟩ := HO133.at (i := (rd order37 x136)) c165 c166
   obtain rfl := hr168
   refine takeGL [3, 4] (n := 7) (fuel := 5) #[true, true, true, true, true, false, false, false, false, false] rfl kr kr kr (fun ch_ a_ w_ q_ => (fun ch_ a_ w_ q_ => hnp ch_ a_ w_ (hp58 ch_ a_ w_ q_)) ch_ a_ w_ (hp150 ch_ a_ w_ q_)) (Sg.g0 (Sx.of [] (FM.le.refl _) HS164)) ?_
   refine takeGQ 5 [] rfl kr kr kr kr kr kr (fun ch_ a_ w_ q_ => (fun ch_ a_ w_ q_ => hnp ch_ a_ w_ (hp58 ch_ a_ w_ q_)) ch_ a_ w_ (hp150 ch_ a_ w_ q_)) (Sg.g0 (Sx.of [] (FM.le.refl _) HS164)) (fun w_ hw_ => by obtain ⟨g_, hl_, hS_⟩ := hw_.st; exact run_indexE hA172 (sz := 1) rfl Tryz.underlying32 kr (kv (.slice A31 held131.length c32)) (kv (.int .i64 (rd order37 x136))) c165 c166 w_) ?_
   refine takeGQ 6 [] rfl kr kr kr kr kr kr (fun ch_ a_ w_ q_ => (fun ch_ a_ w_ q_ => hnp ch_ a_ w_ (hp58 ch_ a_ w_ q_)) ch_ a_ w_ (hp150 ch_ a_ w_ q_)) (Sg.g0 (Sx.of [] (FM.le.refl _) HS164)) (fun w_ hw_ => by obtain ⟨g_, hl_, hS_⟩ := hw_.st; exact run_load rfl Tryz.underlying28 rfl (kv (.pointer (some ⟨b170, of171 + ((rd order37 x136) : Int).toNat * 1, none⟩))) ((hc169 hS_.u4) 0 (by decide))) ?_
   refine takeGL [7, 8, 9] (n := 3) (fuel := 0) #[true, true, true, true, true, true, true, true, true, true] rfl kr kr kr (fun ch_ a_ w_ q_ => (fun ch_ a_ w_ q_ => hnp ch_ a_ w_ (hp58 ch_ a_ w_ q_)) ch_ a_ w_ (hp150 ch_ a_ w_ q_)) (Sg.g0 (Sx.of [] (FM.le.refl _) HS164)) ?_
   refine doneG kr ?_ _
   refine hK162 _ _ ?_
   refine wp_seq_k fun K173 hK174 => rl ?_
   refine seqL2 kr ?_
   refine seqK rfl (does_run (run_indexE hA172 (sz := 1) rfl Tryz.underlying32 kr (kv (.slice A31 held131.length c32)) (kv (.int .i64 (rd order37 x136))) c165 c166 W163) ?_)
   refine seqK rfl (does_run (run_load rfl Tryz.underlying28 rfl (kv (.pointer (some ⟨b170, of171 + ((rd order37 x136) : Int).toNat * 1, none⟩))) ((hc169 HS164.u4) 0 (by decide))) ?_)
   refine seqL2 kr ?_
   refine seqK rfl (does_run (run_indexE hA172 (sz := 1) rfl Tryz.underlying32 kr (kv (.slice A31 held131.length c32)) (kv (.int .i64 (rd order37 x136))) c165 c166 W163) ?_)
   have HS175 := HS164.u4
   refine seqK rfl (does_put (e := (tInt .i64)) (E := 28) (vs := [.int .i64 (w64 ((rd held131 (rd order37 x136)) + (mn flow135 (w64 (s21.Full - (rd held131 (rd order37 x136)))))))]) (u := w64 ((rd held131 (rd order37 x136)) + (mn flow135 (w64 (s21.Full - (rd held131 (rd order37 x136))))))) (i := (rd order37 x136)) rfl kr HO133 HS175 hA172 (kv (.pointer (some ⟨b170, of171 + ((rd order37 x136) : Int).toNat * 1, none⟩))) (kv (.int .i64 (w64 ((rd held131 (rd order37 x136)) + (mn flow135 (w64 (s21.Full - (rd held131 (rd order37 x136))))))))) rfl rfl c165 c166 ?_)
   intro W176 s177 HS178 HO179
   refine seqRwS 1 (A := A31) (m := held131.length) (n := (held131.set ((rd order37 x136)).toNat (w64 ((rd held131 (rd order37 x136)) + (mn flow135 (w64 (s21.Full - (rd held131 (rd order37 x136)))))))).length) (c := c32) kr (List.length_set).symm ?_
   refine seqRwS 22 (A := A31) (m := held131.length) (n := (held131.set ((rd order37 x136)).toNat (w64 ((rd held131 (rd order37 x136)) + (mn flow135 (w64 (s21.Full - (rd held131 (rd order37 x136)))))))).length) (c := c32) kr (List.length_set).symm ?_
   refine seqRwS 28 (A := A31) (m := held131.length) (n := (held131.set ((rd order37 x136)).toNat (w64 ((rd held131 (rd order37 x136)) + (mn flow135 (w64 (s21.Full - (rd held131 (rd order37 x136)))))))).length) (c := c32) kr (List.length_set).symm ?_
   refine nl (hK174 _ _ ?_)
   refine rl ?_
   have HS180 := HS178.u4
   have HS181 := HS180.u4
   have HS182 := HS181.u4
   have hq_ := bind_some h; clear h; obtain ⟨vt183, hc184, h⟩ := hq_
   refine seqL3 kr ?_
   refine seqK rfl (does_call (f := 19) (args := #[.int .i64 (rd order37 x136), .pointer (some ⟨b1, 0, none⟩)]) kr (sensor_Bleed_2.calls k b1 b3 A8 c9 b5 A12 c13 A15 c16 A18 c19 v7 v11 (rd order37 x136) HS182 (HR10.mono L127) (HR14.mono L127) (HR17.mono L127) (HR20.mono L127) vt183 hc184) ?_)
   rintro _ W187 ⟨f185, rfl, L186, HS188⟩
   refine ⟨_, rfl, ?_⟩
   refine seqL4 kr ?_
   refine nl ?_
   refine hn147 _ _ ?_
   refine hK144 _ _ ?_
   refine rl ?_
   refine seqL2 kr ?_
   refine nl ?_
   refine hK124 n125 _ _ (Nat.lt_succ_self _) ?_
   have HS202 := HS188.u3
   have HS203 := HS202.u3
   have HS204 := HS203.u3
   have HS205 := HS204.u3
   have HS206 := HS205.u4
   exact ⟨f185, s177, (held131.set ((rd order37 x136)).toNat (w64 ((rd held131 (rd order37 x136)) + (mn flow135 (w64 (s21.Full - (rd held131 (rd order37 x136)))))))), (w64 (flow135 + (w64 (vt183 - (mn flow135 (w64 (s21.Full - (rd held131 (rd order37 x136))))))))), (w64 (x136 + 1)), (fun i_ => [Value.int .i64 (rd order37 x136), Value.int .i64 (mn flow135 (w64 (s21.Full - (rd held131 (rd order37 x136))))), Value.bool true, Value.pointer (some ⟨b158, of159 + (x136 : Int).toNat * 1, none⟩), Value.int .i64 (rd order37 x136), Value.int .i64 flow135, Value.pointer (some ⟨b43, 5, none⟩), Value.int .i64 s21.Full, Value.slice A31 (held131.set ((rd order37 x136)).toNat (w64 ((rd held131 (rd order37 x136)) + (mn flow135 (w64 (s21.Full - (rd held131 (rd order37 x136)))))))).length c32, Value.int .i64 (rd order37 x136), Value.pointer (some ⟨b170, of171 + ((rd order37 x136) : Int).toNat * 1, none⟩), Value.int .i64 (rd held131 (rd order37 x136)), Value.int .i64 (w64 (s21.Full - (rd held131 (rd order37 x136)))), Value.int .i64 (mn flow135 (w64 (s21.Full - (rd held131 (rd order37 x136))))), Value.slice A31 (held131.set ((rd order37 x136)).toNat (w64 ((rd held131 (rd order37 x136)) + (mn flow135 (w64 (s21.Full - (rd held131 (rd order37 x136)))))))).length c32, Value.int .i64 (rd order37 x136), Value.pointer (some ⟨b170, of171 + ((rd order37 x136) : Int).toNat * 1, none⟩), Value.int .i64 (rd held131 (rd order37 x136)), Value.int .i64 (mn flow135 (w64 (s21.Full - (rd held131 (rd order37 x136))))), Value.int .i64 (w64 ((rd held131 (rd order37 x136)) + (mn flow135 (w64 (s21.Full - (rd held131 (rd order37 x136))))))), Value.pointer (some ⟨b170, of171 + ((rd order37 x136) : Int).toNat * 1, none⟩), Value.int .i64 flow135, Value.func (.func 19) #[] #[.pointer (some ⟨b1, 0, none⟩)], Value.int .i64 (rd order37 x136), Value.int .i64 vt183, Value.int .i64 (mn flow135 (w64 (s21.Full - (rd held131 (rd order37 x136))))), Value.int .i64 (w64 (vt183 - (mn flow135 (w64 (s21.Full - (rd held131 (rd order37 x136))))))), Value.int .i64 (w64 (flow135 + (w64 (vt183 - (mn flow135 (w64 (s21.Full - (rd held131 (rd order37 x136))))))))), Value.int .i64 (w64 (x136 + 1))].getD i_ undef), (L127.trans L186), HS206, (HO179.mono L186), (List.length_set.trans HL134), h, kr⟩
 · have c142 : ¬ (x136 < (order37.length : Int)) := c142
   refine wpRwI 16 (x := (decide (x136 < (order37.length : Int)))) (v := false) kr (decide_eq_false c142) ?_
   refine condF kr ?_
   refine wp_exit ?_
   refine hx54 _ _ ?_
   exact J200 f126 s132 held131 flow135 (fun i_ => [(j130 0), (j130 1), Value.int .i64 x136, Value.bool false, (j130 3), (j130 4), (j130 5), (j130 6), (j130 7), (j130 8), (j130 9), (j130 10), (j130 11), (j130 12), (j130 13), (j130 14), (j130 15), (j130 16), (j130 17), (j130 18), (j130 19), (j130 20), (j130 21), (j130 22), (j130 23), (j130 24), (j130 25), (j130 26), (j130 27), (j130 28)].getD i_ undef) W128 _ L127 h HS129 HO133 HL134 kr

set_option maxRecDepth 100000 in
set_option maxHeartbeats 4000000 in
theorem slices_Reverse_int.calls (k : Nat) (A1 : Option Addr) (c2 : Nat) (s3 : Seg) (s5 : List Int) {t w : World} {f : FM} {H : List Seg} (HS : St t w f (s3 :: H)) (HO4 : Own (tInt .i64) 3 f A1 c2 s3 s5) (rr1 : List Int) (h : slices_Reverse_int k s5 = some rr1) :
    Calls Tryz.prog 20 #[.slice A1 s5.length c2] w (fun e w' => ∃ (g : FM) (s149 : Seg), e = .returned (Value.tuple #[]) ∧ FM.le f g ∧ St t w' g (s149 :: H) ∧ Own (tInt .i64) 3 g A1 c2 s149 rr1 ∧ rr1.length = s5.length) := by
 unfold slices_Reverse_int at h
 refine enter Tryz.func20 rfl (tm := #[.slice A1 s5.length c2, uV, uV, uV, uV, uV, uV, uV, uV, uV, uV, uV, uV, uV, uV, uV, uV, uV, uV, uV, uV, uV, uV, uV, uV, uV, uV, uV]) kr ?_
 intro B hret hnor hnp
 refine wp_seq_k fun K7 hK8 => rl ?_
 refine seqL5 kr ?_
 refine nl (hK8 _ _ ?_)
 refine blockK (fun B9 hx10 hn11 hr12 ho13 hp14 => ?_)
 have hq_ := bind_some h; clear h; obtain ⟨o74, hv146, h⟩ := hq_
 have J147 : ∀ (f137 : FM) (s143 : Seg) (s142 : List Int) (j141 : Nat → Value) (W139 : World) (a_ : Act), FM.le f f137 → some (s142) = some o74 → St t W139 f137 (s143 :: H) → Own (tInt .i64) 3 f137 A1 c2 s143 s142 → s142.length = s5.length → a_ = ⟨#[.slice A1 s142.length c2, uV, (j141 0), (j141 1), (j141 2), iV (s5.length : Int), iV (w64 ((s5.length : Int) - 1)), (j141 3), (j141 4), (j141 5), (j141 6), (j141 7), (j141 8), (j141 9), (j141 10), (j141 11), (j141 12), (j141 13), (j141 14), (j141 15), (j141 16), (j141 17), (j141 18), (j141 19), (j141 20), (j141 21), (j141 22), (j141 23)], []⟩ → B Exit.normal a_ W139 := by
  intro f137 s143 s142 j141 W139 a_ L138 hj148 HS140 HO144 HL145 hfr_; subst hfr_
  injection hj148 with hj148; subst hj148; try dsimp only at h
  refine hnor _ _ ?_
  refine ends_still (v := Value.tuple #[]) kr kr ?_
  injection h with h
  subst h
  exact ⟨f137, s143, rfl, L138, HS140, HO144, HL145⟩
 clear h; have h := hv146; clear hv146
 refine loopK (fun n_ a_ w_ => ∃ (f78 : FM) (s84 : Seg) (s83 : List Int) (i87 : Int) (j88 : Int) (j82 : Nat → Value), FM.le f f78 ∧ St t w_ f78 (s84 :: H) ∧ Own (tInt .i64) 3 f78 A1 c2 s84 s83 ∧ s83.length = s5.length ∧ slices_Reverse_int.l0 k n_ s83 i87 j88 = some o74 ∧ a_ = ⟨#[.slice A1 s83.length c2, uV, iV i87, iV j88, .slice A1 s5.length c2, iV (s5.length : Int), iV (w64 ((s5.length : Int) - 1)), (j82 0), (j82 1), (j82 2), (j82 3), (j82 4), (j82 5), (j82 6), (j82 7), (j82 8), (j82 9), (j82 10), (j82 11), (j82 12), (j82 13), (j82 14), (j82 15), (j82 16), (j82 17), (j82 18), (j82 19), (j82 20)], []⟩) k ⟨f, s3, s5, 0, (w64 ((s5.length : Int) - 1)), (fun i_ => [undef, undef, undef, undef, undef, undef, undef, undef, undef, undef, undef, undef, undef, undef, undef, undef, undef, undef, undef, undef, undef].getD i_ undef), (FM.le.refl _), HS, HO4, rfl, h, kr⟩ ?_
 clear h
 rintro n77 _ W80 ⟨f78, s84, s83, i87, j88, j82, L79, HS81, HO85, HL86, h, rfl⟩ K75 hK76
 obtain _ | n77 := n77
 · exact nomatch h
 simp only [slices_Reverse_int.l0] at h
 refine wp_seq_k (fun K89 hK90 => ?_)
 refine wp_seq_k fun K91 hK92 => rl ?_
 refine seqL3 kr ?_
 refine nl (hK92 _ _ ?_)
 have hq_ := ite_some h; clear h; rcases hq_ with ⟨c94, h⟩ | ⟨c94, h⟩
 · have c94 : i87 < j88 := c94
   refine wpRwI 9 (x := (decide (i87 < j88))) (v := true) kr (decide_eq_true c94) ?_
   refine condT kr ?_
   refine wp_skip ?_
   refine hK90 _ _ ?_
   refine wp_seq_k (fun K95 hK96 => ?_)
   refine blockK (fun B97 hx98 hn99 hr100 ho101 hp102 => ?_)
   refine heldG (S := Sg t f78 (H) [(13, s84)]) (n := 16) kr rfl HS81 ?_
   intro W104 HS105
   have hq_ := guard_some h; clear h; obtain ⟨c106, h⟩ := hq_
   have c106 : 0 ≤ j88 := c106
   have hq_ := guard_some h; clear h; obtain ⟨c107, h⟩ := hq_
   have c107 : j88 < (s83.length : Int) := c107
   obtain ⟨b111, of112, cs108, hA113, hr109, hc110⟩ := HO85.at (i := j88) c106 c107
   obtain rfl := hr109
   refine takeGL [0, 1, 2, 3, 4, 5] (n := 16) (fuel := 10) #[true, true, true, true, true, true, false, false, false, false, false, false, false, false, false, false] rfl kr kr kr (fun ch_ a_ w_ q_ => (fun ch_ a_ w_ q_ => hnp ch_ a_ w_ (hp14 ch_ a_ w_ q_)) ch_ a_ w_ (hp102 ch_ a_ w_ q_)) (Sg.g1 (Sx.of [s84] (FM.le.refl _) HS105) (fun _ => St.only [] HS105 (FM.le.refl _))) ?_
   refine takeGQ 6 [] rfl kr kr kr kr kr kr (fun ch_ a_ w_ q_ => (fun ch_ a_ w_ q_ => hnp ch_ a_ w_ (hp14 ch_ a_ w_ q_)) ch_ a_ w_ (hp102 ch_ a_ w_ q_)) (Sg.g1 (Sx.of [s84] (FM.le.refl _) HS105) (fun _ => St.only [] HS105 (FM.le.refl _))) (fun w_ hw_ => by obtain ⟨g_, hl_, hS_⟩ := hw_.st; exact run_indexE hA113 (sz := 1) rfl Tryz.underlying22 kr (kv (.slice A1 s83.length c2)) (kv (.int .i64 j88)) c106 c107 w_) ?_
   refine takeGQ 7 [13] rfl kr kr kr kr kr kr (fun ch_ a_ w_ q_ => (fun ch_ a_ w_ q_ => hnp ch_ a_ w_ (hp14 ch_ a_ w_ q_)) ch_ a_ w_ (hp102 ch_ a_ w_ q_)) (Sg.g1 (Sx.of [s84] (FM.le.refl _) HS105) (fun _ => St.only [] HS105 (FM.le.refl _))) (fun w_ hw_ => by obtain ⟨g_, hl_, hS_⟩ := hw_.seg (j := 13) (s := s84) (by simp) (by simp); exact run_load rfl Tryz.underlying3 rfl (kv (.pointer (some ⟨b111, of112 + (j88 : Int).toNat * 1, none⟩))) ((hc110 hS_) 0 (by decide))) ?_
   have hq_ := guard_some h; clear h; obtain ⟨c114, h⟩ := hq_
   have c114 : 0 ≤ i87 := c114
   have hq_ := guard_some h; clear h; obtain ⟨c115, h⟩ := hq_
   have c115 : i87 < (s83.length : Int) := c115
   obtain ⟨b119, of120, cs116, hA121, hr117, hc118⟩ := HO85.at (i := i87) c114 c115
   obtain rfl := hr117
   refine takeGL [8, 9] (n := 8) (fuel := 6) #[true, true, true, true, true, true, true, true, true, true, false, false, false, false, false, false] rfl kr kr kr (fun ch_ a_ w_ q_ => (fun ch_ a_ w_ q_ => hnp ch_ a_ w_ (hp14 ch_ a_ w_ q_)) ch_ a_ w_ (hp102 ch_ a_ w_ q_)) (Sg.g1 (Sx.of [s84] (FM.le.refl _) HS105) (fun _ => St.only [] HS105 (FM.le.refl _))) ?_
   refine takeGQ 10 [] rfl kr kr kr kr kr kr (fun ch_ a_ w_ q_ => (fun ch_ a_ w_ q_ => hnp ch_ a_ w_ (hp14 ch_ a_ w_ q_)) ch_ a_ w_ (hp102 ch_ a_ w_ q_)) (Sg.g1 (Sx.of [s84] (FM.le.refl _) HS105) (fun _ => St.only [] HS105 (FM.le.refl _))) (fun w_ hw_ => by obtain ⟨g_, hl_, hS_⟩ := hw_.st; exact run_indexE hA121 (sz := 1) rfl Tryz.underlying22 kr (kv (.slice A1 s83.length c2)) (kv (.int .i64 i87)) c114 c115 w_) ?_
   refine takeGQ 11 [13] rfl kr kr kr kr kr kr (fun ch_ a_ w_ q_ => (fun ch_ a_ w_ q_ => hnp ch_ a_ w_ (hp14 ch_ a_ w_ q_)) ch_ a_ w_ (hp102 ch_ a_ w_ q_)) (Sg.g1 (Sx.of [s84] (FM.le.refl _) HS105) (fun _ => St.only [] HS105 (FM.le.refl _))) (fun w_ hw_ => by obtain ⟨g_, hl_, hS_⟩ := hw_.seg (j := 13) (s := s84) (by simp) (by simp); exact run_load rfl Tryz.underlying3 rfl (kv (.pointer (some ⟨b119, of120 + (i87 : Int).toNat * 1, none⟩))) ((hc118 hS_) 0 (by decide))) ?_
   refine takeGQ 12 [] rfl kr kr kr kr kr kr (fun ch_ a_ w_ q_ => (fun ch_ a_ w_ q_ => hnp ch_ a_ w_ (hp14 ch_ a_ w_ q_)) ch_ a_ w_ (hp102 ch_ a_ w_ q_)) (Sg.g1 (Sx.of [s84] (FM.le.refl _) HS105) (fun _ => St.only [] HS105 (FM.le.refl _))) (fun w_ hw_ => by obtain ⟨g_, hl_, hS_⟩ := hw_.st; exact run_indexE hA121 (sz := 1) rfl Tryz.underlying22 kr (kv (.slice A1 s83.length c2)) (kv (.int .i64 i87)) c114 c115 w_) ?_
   refine takeGE 13 kr rfl kr (does_put (e := (tInt .i64)) (E := 3) (vs := [.int .i64 (rd s83 j88)]) (u := (rd s83 j88)) (i := i87) rfl kr HO85 HS105 hA121 (kv (.pointer (some ⟨b119, of120 + (i87 : Int).toNat * 1, none⟩))) (kv (.int .i64 (rd s83 j88))) rfl rfl c114 c115 ?_)
   intro W122 s123 HS124 HO125
   refine ⟨(Sg.g1 (Sx.of [s123] (FM.le.refl _) HS124) (fun hl_ => Bool.noConfusion (show true = false from hl_))), ?_⟩
   refine gateRwS 0 (A := A1) (m := s83.length) (n := (s83.set (i87).toNat (rd s83 j88)).length) (c := c2) kr (List.length_set).symm ?_
   refine gateRwS 14 (A := A1) (m := s83.length) (n := (s83.set (i87).toNat (rd s83 j88)).length) (c := c2) kr (List.length_set).symm ?_
   refine gateRwS 16 (A := A1) (m := s83.length) (n := (s83.set (i87).toNat (rd s83 j88)).length) (c := c2) kr (List.length_set).symm ?_
   refine gateRwS 18 (A := A1) (m := s83.length) (n := (s83.set (i87).toNat (rd s83 j88)).length) (c := c2) kr (List.length_set).symm ?_
   refine gateRwS 22 (A := A1) (m := s83.length) (n := (s83.set (i87).toNat (rd s83 j88)).length) (c := c2) kr (List.length_set).symm ?_
   have hq_ := guard_some h; clear h; obtain ⟨c126, h⟩ := hq_
   have c126 : j88 < ((s83.set (i87).toNat (rd s83 j88)).length : Int) := c126
   obtain ⟨b130, of131, cs127, hA132, hr128, hc129⟩ := HO125.at (i := j88) c106 c126
   obtain rfl := hr128
   refine takeGQ 14 [] rfl kr kr kr kr kr kr (fun ch_ a_ w_ q_ => (fun ch_ a_ w_ q_ => hnp ch_ a_ w_ (hp14 ch_ a_ w_ q_)) ch_ a_ w_ (hp102 ch_ a_ w_ q_)) (Sg.g1 (Sx.of [s123] (FM.le.refl _) HS124) (fun hl_ => Bool.noConfusion (show true = false from hl_))) (fun w_ hw_ => by obtain ⟨g_, hl_, hS_⟩ := hw_.st; exact run_indexE hA132 (sz := 1) rfl Tryz.underlying22 kr (kv (.slice A1 (s83.set (i87).toNat (rd s83 j88)).length c2)) (kv (.int .i64 j88)) c106 c126 w_) ?_
   refine takeGE 15 kr rfl kr (does_put (e := (tInt .i64)) (E := 3) (vs := [.int .i64 (rd s83 i87)]) (u := (rd s83 i87)) (i := j88) rfl kr HO125 HS124 hA132 (kv (.pointer (some ⟨b130, of131 + (j88 : Int).toNat * 1, none⟩))) (kv (.int .i64 (rd s83 i87))) rfl rfl c106 c126 ?_)
   intro W133 s134 HS135 HO136
   refine ⟨(Sg.g1 (Sx.of [s134] (FM.le.refl _) HS135) (fun hl_ => Bool.noConfusion (show true = false from hl_))), ?_⟩
   refine gateRwS 0 (A := A1) (m := (s83.set (i87).toNat (rd s83 j88)).length) (n := ((s83.set (i87).toNat (rd s83 j88)).set (j88).toNat (rd s83 i87)).length) (c := c2) kr (List.length_set).symm ?_
   refine gateRwS 14 (A := A1) (m := (s83.set (i87).toNat (rd s83 j88)).length) (n := ((s83.set (i87).toNat (rd s83 j88)).set (j88).toNat (rd s83 i87)).length) (c := c2) kr (List.length_set).symm ?_
   refine gateRwS 16 (A := A1) (m := (s83.set (i87).toNat (rd s83 j88)).length) (n := ((s83.set (i87).toNat (rd s83 j88)).set (j88).toNat (rd s83 i87)).length) (c := c2) kr (List.length_set).symm ?_
   refine gateRwS 18 (A := A1) (m := (s83.set (i87).toNat (rd s83 j88)).length) (n := ((s83.set (i87).toNat (rd s83 j88)).set (j88).toNat (rd s83 i87)).length) (c := c2) kr (List.length_set).symm ?_
   refine gateRwS 22 (A := A1) (m := (s83.set (i87).toNat (rd s83 j88)).length) (n := ((s83.set (i87).toNat (rd s83 j88)).set (j88).toNat (rd s83 i87)).length) (c := c2) kr (List.length_set).symm ?_
   refine doneG kr ?_ _
   refine hn99 _ _ ?_
   refine hK96 _ _ ?_
   refine rl ?_
   refine seqL6 kr ?_
   refine nl ?_
   refine hK76 n77 _ _ (Nat.lt_succ_self _) ?_
   exact ⟨f78, s134, ((s83.set (i87).toNat (rd s83 j88)).set (j88).toNat (rd s83 i87)), (w64 (i87 + 1)), (w64 (j88 - 1)), (fun i_ => [Value.int .i64 i87, Value.int .i64 j88, Value.bool true, Value.int .i64 i87, Value.int .i64 (w64 (i87 + 1)), Value.int .i64 j88, Value.int .i64 (w64 (j88 - 1)), Value.slice A1 ((s83.set (i87).toNat (rd s83 j88)).set (j88).toNat (rd s83 i87)).length c2, Value.int .i64 i87, Value.slice A1 ((s83.set (i87).toNat (rd s83 j88)).set (j88).toNat (rd s83 i87)).length c2, Value.int .i64 j88, Value.slice A1 ((s83.set (i87).toNat (rd s83 j88)).set (j88).toNat (rd s83 i87)).length c2, Value.int .i64 j88, Value.pointer (some ⟨b111, of112 + (j88 : Int).toNat * 1, none⟩), Value.int .i64 (rd s83 j88), Value.slice A1 ((s83.set (i87).toNat (rd s83 j88)).set (j88).toNat (rd s83 i87)).length c2, Value.int .i64 i87, Value.pointer (some ⟨b119, of120 + (i87 : Int).toNat * 1, none⟩), Value.int .i64 (rd s83 i87), Value.pointer (some ⟨b119, of120 + (i87 : Int).toNat * 1, none⟩), Value.pointer (some ⟨b130, of131 + (j88 : Int).toNat * 1, none⟩)].getD i_ undef), L79, HS135, HO136, (List.length_set.trans (List.length_set.trans HL86)), h, kr⟩
 · have c94 : ¬ (i87 < j88) := c94
   refine wpRwI 9 (x := (decide (i87 < j88))) (v := false) kr (decide_eq_false c94) ?_
   refine condF kr ?_
   refine wp_exit ?_
   refine hx10 _ _ ?_
   exact J147 f78 s84 s83 (fun i_ => [Value.int .i64 i87, Value.int .i64 j88, Value.slice A1 s5.length c2, Value.int .i64 i87, Value.int .i64 j88, Value.bool false, (j82 3), (j82 4), (j82 5), (j82 6), (j82 7), (j82 8), (j82 9), (j82 10), (j82 11), (j82 12), (j82 13), (j82 14), (j82 15), (j82 16), (j82 17), (j82 18), (j82 19), (j82 20)].getD i_ undef) W80 _ L79 h HS81 HO85 HL86 kr

set_option maxRecDepth 100000 in
set_option maxHeartbeats 4000000 in
theorem sensor_Bleed_3.calls (k : Nat) (b1 : Nat) (b3 : Nat) (A8 : Option Addr) (c9 : Nat) (b5 : Nat) (A12 : Option Addr) (c13 : Nat) (A15 : Option Addr) (c16 : Nat) (A18 : Option Addr) (c19 : Nat) (v7 : List Int) (v11 : S_Sensor) (i21 : Int) {t w : World} {f : FM} {H : List Seg} (HS : St t w f ([(b1, .cells #[.func (.func 17) #[] #[.pointer (some ⟨b3, 0, none⟩), .pointer (some ⟨b5, 0, none⟩)]] 63 (0, 0))] :: [(b3, .cells #[.slice A8 v7.length c9] 32 (0, 0))] :: [(b5, .cells #[.int .i64 v11.W, .int .i64 v11.H, .slice A12 v11.Bias.length c13, .slice A15 v11.Dark.length c16, .slice A18 v11.Flat.length c19, .int .i64 v11.Full, .int .i64 v11.Gain, .int .i64 v11.Noise] 30 (0, 0))] :: H)) (HR10 : SlR (tInt .i64) f A8 c9 v7) (HR14 : SlR (tInt .i64) f A12 c13 v11.Bias) (HR17 : SlR (tInt .i64) f A15 c16 v11.Dark) (HR20 : SlR (tInt .i64) f A18 c19 v11.Flat) (rr1 : Int) (h : sensor_Bleed_3 k v7 v11 i21 = some rr1) :
    Calls Tryz.prog 21 #[.int .i64 i21, .pointer (some ⟨b1, 0, none⟩)] w (fun e w' => ∃ (g : FM), e = .returned (Value.int .i64 rr1) ∧ FM.le f g ∧ St t w' g ([(b1, .cells #[.func (.func 17) #[] #[.pointer (some ⟨b3, 0, none⟩), .pointer (some ⟨b5, 0, none⟩)]] 63 (0, 0))] :: [(b3, .cells #[.slice A8 v7.length c9] 32 (0, 0))] :: [(b5, .cells #[.int .i64 v11.W, .int .i64 v11.H, .slice A12 v11.Bias.length c13, .slice A15 v11.Dark.length c16, .slice A18 v11.Flat.length c19, .int .i64 v11.Full, .int .i64 v11.Gain, .int .i64 v11.Noise] 30 (0, 0))] :: H)) := by
 unfold sensor_Bleed_3 at h
 refine enter Tryz.func21 rfl (tm := #[iV i21, pV b1 0, uV, uV, uV, uV, uV, uV]) kr ?_
 intro B hret hnor hnp
 refine wp_seq_k fun K22 hK23 => rl ?_
 refine seqL1 kr ?_
 refine nl (hK23 _ _ ?_)
 refine wp_seq_k fun K24 hK25 => rl ?_
 refine seqK rfl (does_run (run_load rfl Tryz.underlying63 rfl (kv (.pointer (some ⟨b1, 0, none⟩))) (HS.cell 0)) ?_)
 have HS26 := HS.u2
 have HS27 := HS26.u2
 have hq_ := bind_some h; clear h; obtain ⟨vt28, hc29, h⟩ := hq_
 refine seqL1 kr ?_
 refine seqK rfl (does_call (f := 17) (args := #[.int .i64 i21, .pointer (some ⟨b3, 0, none⟩), .pointer (some ⟨b5, 0, none⟩)]) kr (sensor_Bleed_1.calls k b3 A8 c9 b5 A12 c13 A15 c16 A18 c19 v7 v11 i21 HS27 HR10 HR14 HR17 HR20 vt28 hc29) ?_)
 rintro _ W32 ⟨f30, rfl, L31, HS33⟩
 refine ⟨_, rfl, ?_⟩
 refine seqL2 kr ?_
 refine nl (hK25 _ _ ?_)
 refine wp_ret ?_
 refine hret _ _ ?_
 refine ends_still (v := Value.int .i64 (w64 (Int.tdiv vt28 2))) kr kr ?_
 have HS34 := HS33.u1
 have HS35 := HS34.u1
 have HS36 := HS35.u2
 injection h with h
 subst h
 exact ⟨f30, rfl, L31, HS36⟩

end Go.Sp.K3
