import Derived.Test.YtiibkbligihgoaaGreatProg
import Derived.Test.YtiibkbligihgoaaGreatSpCopy
import Derived.Test.YtiibkbligihgoaaGreatFQ3
import Derived.Test.YtiibkbligihgoaaGreatShelf
import Derived.Test.YtiibkbligihgoaaGreatSpMapR
import Derived.Test.YtiibkbligihgoaaGreatSpKeys
import Derived.Test.YtiibkbligihgoaaGreatSpRound
namespace Go.Sp.Q3
open Go Go.Sp Go.Proofs
set_option linter.unusedVariables false
attribute [local irreducible] wpList AnyL Code.wp Calls Does Code.wpIn wpListIn CallsIn bodyPostM LeavesInM

def ty_Stream : Ty S_Stream where
  sz := 2
  rep := fun f cs x => ∃ (A0 : Option Addr) (c0 : Nat), cs = [.slice A0 x.L.length c0, .int .i64 x.vat] ∧ SlR (tInt .i64) f A0 c0 x.L
  pos := by decide
  len := by rintro f cs x ⟨A0, c0, rfl, h0⟩; rfl
  mono := by rintro f g cs x hl ⟨A0, c0, rfl, h0⟩; exact ⟨A0, c0, rfl, h0.mono hl⟩
  one := by
    rintro f cs x ⟨A0, c0, rfl, h0⟩ v hv
    simp only [List.mem_cons, List.not_mem_nil, or_false] at hv
    rcases hv with rfl | rfl <;> rfl
def ty_Vec : Ty S_Vec where
  sz := 3
  rep := fun f cs x => cs = [.int .i64 x.X, .int .i64 x.Y, .int .i64 x.Z]
  pos := by decide
  len := by rintro f cs x rfl; rfl
  mono := by rintro f g cs x hl rfl; exact rfl
  one := by
    rintro f cs x rfl v hv
    simp only [List.mem_cons, List.not_mem_nil, or_false] at hv
    rcases hv with rfl | rfl | rfl <;> rfl
def ty_Bound : Ty S_Bound where
  sz := 3
  rep := fun f cs x => cs = [.int .i64 x.Lo, .int .i64 x.Hi, .bool x.Unknown]
  pos := by decide
  len := by rintro f cs x rfl; rfl
  mono := by rintro f g cs x hl rfl; exact rfl
  one := by
    rintro f cs x rfl v hv
    simp only [List.mem_cons, List.not_mem_nil, or_false] at hv
    rcases hv with rfl | rfl | rfl <;> rfl
def ty_Box : Ty S_Box where
  sz := 9
  rep := fun f cs x => cs = [.int .i64 x.X.Lo, .int .i64 x.X.Hi, .bool x.X.Unknown, .int .i64 x.Y.Lo, .int .i64 x.Y.Hi, .bool x.Y.Unknown, .int .i64 x.Z.Lo, .int .i64 x.Z.Hi, .bool x.Z.Unknown]
  pos := by decide
  len := by rintro f cs x rfl; rfl
  mono := by rintro f g cs x hl rfl; exact rfl
  one := by
    rintro f cs x rfl v hv
    simp only [List.mem_cons, List.not_mem_nil, or_false] at hv
    rcases hv with rfl | rfl | rfl | rfl | rfl | rfl | rfl | rfl | rfl <;> rfl
def ty_Wide : Ty S_Wide where
  sz := 2
  rep := fun f cs x => cs = [.int .i64 x.Hi, .int .u64 x.Lo]
  pos := by decide
  len := by rintro f cs x rfl; rfl
  mono := by rintro f g cs x hl rfl; exact rfl
  one := by
    rintro f cs x rfl v hv
    simp only [List.mem_cons, List.not_mem_nil, or_false] at hv
    rcases hv with rfl | rfl <;> rfl
def ty_Row : Ty S_Row where
  sz := 18
  rep := fun f cs x => ∃ (A16 : Option Addr) (c16 : Nat), cs = [.int .i64 x.ID, .int .i64 x.Box.X.Lo, .int .i64 x.Box.X.Hi, .bool x.Box.X.Unknown, .int .i64 x.Box.Y.Lo, .int .i64 x.Box.Y.Hi, .bool x.Box.Y.Unknown, .int .i64 x.Box.Z.Lo, .int .i64 x.Box.Z.Hi, .bool x.Box.Z.Unknown, .int .i64 x.Flux.Lo, .int .i64 x.Flux.Hi, .bool x.Flux.Unknown, .int .i64 x.When.Lo, .int .i64 x.When.Hi, .bool x.When.Unknown, .slice A16 x.Frames.length c16, .int .i64 x.Marks] ∧ SlR (tInt .i64) f A16 c16 x.Frames
  pos := by decide
  len := by rintro f cs x ⟨A16, c16, rfl, h16⟩; rfl
  mono := by rintro f g cs x hl ⟨A16, c16, rfl, h16⟩; exact ⟨A16, c16, rfl, h16.mono hl⟩
  one := by
    rintro f cs x ⟨A16, c16, rfl, h16⟩ v hv
    simp only [List.mem_cons, List.not_mem_nil, or_false] at hv
    rcases hv with rfl | rfl | rfl | rfl | rfl | rfl | rfl | rfl | rfl | rfl | rfl | rfl | rfl | rfl | rfl | rfl | rfl | rfl <;> rfl
def ty_Index : Ty S_Index where
  sz := 4
  rep := fun f cs x => ∃ (A0 : Option Addr) (c0 : Nat) (A2 : Option Addr) (c2 : Nat) (A3 : Option Addr) (c3 : Nat), cs = [.slice A0 x.rows.length c0, .int .i64 x.level, .slice A2 x.roots.length c2, .slice A3 x.loose.length c3] ∧ SlR ty_Row f A0 c0 x.rows ∧ SlR tNone f A2 c2 x.roots ∧ SlR (tInt .i64) f A3 c3 x.loose
  pos := by decide
  len := by rintro f cs x ⟨A0, c0, A2, c2, A3, c3, rfl, h0, h2, h3⟩; rfl
  mono := by rintro f g cs x hl ⟨A0, c0, A2, c2, A3, c3, rfl, h0, h2, h3⟩; exact ⟨A0, c0, A2, c2, A3, c3, rfl, h0.mono hl, h2.mono hl, h3.mono hl⟩
  one := by
    rintro f cs x ⟨A0, c0, A2, c2, A3, c3, rfl, h0, h2, h3⟩ v hv
    simp only [List.mem_cons, List.not_mem_nil, or_false] at hv
    rcases hv with rfl | rfl | rfl | rfl <;> rfl
def ty_Cone : Ty S_Cone where
  sz := 4
  rep := fun f cs x => cs = [.int .i64 x.At.X, .int .i64 x.At.Y, .int .i64 x.At.Z, .int .i64 x.Cos]
  pos := by decide
  len := by rintro f cs x rfl; rfl
  mono := by rintro f g cs x hl rfl; exact rfl
  one := by
    rintro f cs x rfl v hv
    simp only [List.mem_cons, List.not_mem_nil, or_false] at hv
    rcases hv with rfl | rfl | rfl | rfl <;> rfl
def ty_Ask : Ty S_Ask where
  sz := 5
  rep := fun f cs x => ∃ (A0 : Option Addr) (c0 : Nat), cs = [.slice A0 x.Cones.length c0, .int .i64 x.From, .int .i64 x.To, .int .i64 x.Least, .int .i64 x.Ban] ∧ SlR ty_Cone f A0 c0 x.Cones
  pos := by decide
  len := by rintro f cs x ⟨A0, c0, rfl, h0⟩; rfl
  mono := by rintro f g cs x hl ⟨A0, c0, rfl, h0⟩; exact ⟨A0, c0, rfl, h0.mono hl⟩
  one := by
    rintro f cs x ⟨A0, c0, rfl, h0⟩ v hv
    simp only [List.mem_cons, List.not_mem_nil, or_false] at hv
    rcases hv with rfl | rfl | rfl | rfl | rfl <;> rfl
def ty_Answer : Ty S_Answer where
  sz := 2
  rep := fun f cs x => cs = [.int .i64 x.ID, .int .i64 x.Grade]
  pos := by decide
  len := by rintro f cs x rfl; rfl
  mono := by rintro f g cs x hl rfl; exact rfl
  one := by
    rintro f cs x rfl v hv
    simp only [List.mem_cons, List.not_mem_nil, or_false] at hv
    rcases hv with rfl | rfl <;> rfl
abbrev ag_Box (x : S_Box) : Value := .agg #[.int .i64 x.X.Lo, .int .i64 x.X.Hi, .bool x.X.Unknown, .int .i64 x.Y.Lo, .int .i64 x.Y.Hi, .bool x.Y.Unknown, .int .i64 x.Z.Lo, .int .i64 x.Z.Hi, .bool x.Z.Unknown]
abbrev ag_Bound (x : S_Bound) : Value := .agg #[.int .i64 x.Lo, .int .i64 x.Hi, .bool x.Unknown]
abbrev ag_Row (x : S_Row) (A16 : Option Addr) (c16 : Nat) : Value := .agg #[.int .i64 x.ID, .int .i64 x.Box.X.Lo, .int .i64 x.Box.X.Hi, .bool x.Box.X.Unknown, .int .i64 x.Box.Y.Lo, .int .i64 x.Box.Y.Hi, .bool x.Box.Y.Unknown, .int .i64 x.Box.Z.Lo, .int .i64 x.Box.Z.Hi, .bool x.Box.Z.Unknown, .int .i64 x.Flux.Lo, .int .i64 x.Flux.Hi, .bool x.Flux.Unknown, .int .i64 x.When.Lo, .int .i64 x.When.Hi, .bool x.When.Unknown, .slice A16 x.Frames.length c16, .int .i64 x.Marks]
abbrev ag_Vec (x : S_Vec) : Value := .agg #[.int .i64 x.X, .int .i64 x.Y, .int .i64 x.Z]
abbrev ag_Index (x : S_Index) (A0 : Option Addr) (c0 : Nat) (A2 : Option Addr) (c2 : Nat) (A3 : Option Addr) (c3 : Nat) : Value := .agg #[.slice A0 x.rows.length c0, .int .i64 x.level, .slice A2 x.roots.length c2, .slice A3 x.loose.length c3]
abbrev ag_Ask (x : S_Ask) (A0 : Option Addr) (c0 : Nat) : Value := .agg #[.slice A0 x.Cones.length c0, .int .i64 x.From, .int .i64 x.To, .int .i64 x.Least, .int .i64 x.Ban]
abbrev ag_Cone (x : S_Cone) : Value := .agg #[.int .i64 x.At.X, .int .i64 x.At.Y, .int .i64 x.At.Z, .int .i64 x.Cos]
theorem inf99 : Inf Tryz.prog 99 18 160 (.agg #[.int .i64 0, .int .i64 0, .int .i64 0, .bool false, .int .i64 0, .int .i64 0, .bool false, .int .i64 0, .int .i64 0, .bool false, .int .i64 0, .int .i64 0, .bool false, .int .i64 0, .int .i64 0, .bool false, .slice none 0 0, .int .i64 0]) := .mk' kr rfl
theorem inf3 : Inf Tryz.prog 3 1 8 (.int .i64 0) := .mk' kr rfl
theorem inf62 : Inf Tryz.prog 62 2 16 (.agg #[.int .i64 0, .int .i64 0]) := .mk' kr rfl

set_option maxRecDepth 100000 in
set_option maxHeartbeats 4000000 in
theorem spymake_Below.calls (k : Nat)  (x1 : Int) (n2 : Int) {t w : World} {f : FM} {H : List Seg} (HS : St t w f (H)) (rr1 : Int) (h : spymake_Below k x1 n2 = some rr1) :
    Calls Tryz.prog 9 #[.int .i64 x1, .int .i64 n2] w (fun e w' => ∃ (g : FM), e = .returned (Value.int .i64 rr1) ∧ FM.le f g ∧ St t w' g (H)) := by
 unfold spymake_Below at h
 refine enter Tryz.func9 rfl (tm := #[iV x1, iV n2, uV, uV, uV, uV, uV, uV, uV, uV, uV, uV, uV, uV, uV, uV]) kr ?_
 intro B hret hnor hnp
 refine wp_seq_k fun K3 hK4 => rl ?_
 refine seqL1 kr ?_
 refine nl (hK4 _ _ ?_)
 refine wp_seq_k (fun K5 hK6 => ?_)
 refine wp_seq_k fun K7 hK8 => rl ?_
 refine seqL2 kr ?_
 refine nl (hK8 _ _ ?_)
 have hq_ := ite_some h; clear h; rcases hq_ with ⟨c10, h⟩ | ⟨c10, h⟩
 · have c10 : n2 < 1 := c10
   refine wpRwI 6 kr (decide_eq_true c10) ?_
   refine condT kr ?_
   refine wp_seq_k fun K11 hK12 => rl ?_
   refine seqL1 kr ?_
   refine nl (hK12 _ _ ?_)
   refine wp_ret ?_
   refine hret _ _ ?_
   refine ends_still (v := Value.int .i64 0) kr kr ?_
   injection h with h
   subst h
   exact ⟨f, rfl, FM.le.refl _, HS⟩
 · have c10 : ¬ (n2 < 1) := c10
   refine wpRwI 6 kr (decide_eq_false c10) ?_
   refine condF kr ?_
   refine wp_skip ?_
   refine hK6 _ _ ?_
   refine wp_seq_k fun K13 hK14 => rl ?_
   have hq_ := guard_some h; clear h; obtain ⟨c15, h⟩ := hq_
   have c15 : ¬ (n2 = 0) := c15
   refine seqL2 kr ?_
   refine seqK rfl (does_run (run_rem rfl (kv (.int .i64 x1)) (kv (.int .i64 n2)) c15 w) ?_)
   refine seqL1 kr ?_
   refine nl (hK14 _ _ ?_)
   refine wp_seq_k (fun K16 hK17 => ?_)
   refine wp_seq_k fun K18 hK19 => rl ?_
   refine seqL2 kr ?_
   refine nl (hK19 _ _ ?_)
   have hq_ := ite_some h; clear h; rcases hq_ with ⟨c21, h⟩ | ⟨c21, h⟩
   · have c21 : (Int.tmod x1 n2) < 0 := c21
     refine wpRwI 11 kr (decide_eq_true c21) ?_
     refine condT kr ?_
     refine rl ?_
     refine seqL4 kr ?_
     refine nl (hK17 _ _ ?_)
     refine wp_seq_k fun K22 hK23 => rl ?_
     refine seqL2 kr ?_
     refine nl (hK23 _ _ ?_)
     refine wp_ret ?_
     refine hret _ _ ?_
     refine ends_still (v := Value.int .i64 (w64 ((Int.tmod x1 n2) + n2))) kr kr ?_
     injection h with h
     subst h
     exact ⟨f, rfl, FM.le.refl _, HS⟩
   · have c21 : ¬ ((Int.tmod x1 n2) < 0) := c21
     refine wpRwI 11 kr (decide_eq_false c21) ?_
     refine condF kr ?_
     refine wp_skip ?_
     refine hK17 _ _ ?_
     refine wp_seq_k fun K24 hK25 => rl ?_
     refine seqL2 kr ?_
     refine nl (hK25 _ _ ?_)
     refine wp_ret ?_
     refine hret _ _ ?_
     refine ends_still (v := Value.int .i64 (Int.tmod x1 n2)) kr kr ?_
     injection h with h
     subst h
     exact ⟨f, rfl, FM.le.refl _, HS⟩

set_option maxRecDepth 100000 in
set_option maxHeartbeats 4000000 in
theorem spymake_Stream_Next.calls (k : Nat) (b1 : Nat) (A4 : Option Addr) (c5 : Nat) (s3 : S_Stream) (n7 : Int) {t w : World} {f : FM} {H : List Seg} (HS : St t w f ([(b1, .cells #[.slice A4 s3.L.length c5, .int .i64 s3.vat] 26 (0, 0))] :: H)) (HR6 : SlR (tInt .i64) f A4 c5 s3.L) (rr1 : Int) (rr2 : Int) (h : spymake_Stream_Next k s3 n7 = some (rr1, rr2)) :
    Calls Tryz.prog 20 #[.pointer (some ⟨b1, 0, none⟩), .int .i64 n7] w (fun e w' => ∃ (g : FM), e = .returned (Value.int .i64 rr1) ∧ FM.le f g ∧ St t w' g ([(b1, .cells #[.slice A4 s3.L.length c5, .int .i64 rr2] 26 (0, 0))] :: H)) := by
 unfold spymake_Stream_Next at h
 refine enter Tryz.func20 rfl (tm := #[pV b1 0, iV n7, uV, uV, uV, uV, uV, uV, uV, uV, uV, uV, uV, uV, uV, uV, uV, uV, uV, uV, uV, uV, uV, uV, uV, uV, uV, uV, uV, uV, uV, uV, uV, uV, uV, uV, uV, uV, uV, uV, uV, uV, uV, uV, uV, uV, uV, uV, uV, uV, uV, uV, uV, uV, uV, uV, uV, uV, uV, uV, uV, uV, uV, uV]) kr ?_
 intro B hret hnor hnp
 refine wp_seq_k fun K8 hK9 => rl ?_
 refine seqL1 kr ?_
 refine nl (hK9 _ _ ?_)
 refine wp_seq_k fun K10 hK11 => rl ?_
 refine seqL3 kr ?_
 refine seqK rfl (does_run (run_load rfl Tryz.underlying3 rfl (kv (.pointer (some ⟨b1, 1, none⟩))) (HS.cell 1)) ?_)
 refine seqL3 kr ?_
 refine seqK rfl (does_store (n := 1) (vs := [.int .i64 (w64 (s3.vat + 1))]) (cs' := #[.slice A4 s3.L.length c5, .int .i64 (w64 (s3.vat + 1))]) rfl kr (kv (.pointer (some ⟨b1, 1, none⟩))) (kv (.int .i64 (w64 (s3.vat + 1)))) rfl rfl (ones rfl) HS (Nat.le_of_ble_eq_true rfl) kr ?_)
 intro W12 HS13
 refine nl (hK11 _ _ ?_)
 refine wp_seq_k (fun K14 hK15 => ?_)
 refine wp_seq_k fun K16 hK17 => rl ?_
 refine seqL3 kr ?_
 refine seqK rfl (does_run (run_load rfl Tryz.underlying22 rfl (kv (.pointer (some ⟨b1, 0, none⟩))) (HS13.cell 0)) ?_)
 refine seqL2 kr ?_
 refine nl (hK17 _ _ ?_)
 have hq_ := ite_some h; clear h; rcases hq_ with ⟨c19, h⟩ | ⟨c19, h⟩
 · have c19 : (s3.L.length : Int) = 0 := c19
   refine wpRwI 19 kr (beq_iff_eq.mpr c19) ?_
   refine condT kr ?_
   refine wp_seq_k fun K20 hK21 => rl ?_
   refine seqL3 kr ?_
   refine seqK rfl (does_run (run_load rfl Tryz.underlying3 rfl (kv (.pointer (some ⟨b1, 1, none⟩))) (HS13.cell 1)) ?_)
   have hq_ := bind_some h; clear h; obtain ⟨vt22, hc23, h⟩ := hq_
   refine seqL2 kr ?_
   refine seqK rfl (does_call (f := 9) (args := #[.int .i64 (w64 ((w64 (s3.vat + 1)) * 7919)), .int .i64 n7]) kr (spymake_Below.calls k (w64 ((w64 (s3.vat + 1)) * 7919)) n7 HS13 vt22 hc23) ?_)
   rintro _ W26 ⟨f24, rfl, L25, HS27⟩
   refine ⟨_, rfl, ?_⟩
   refine seqL1 kr ?_
   refine nl (hK21 _ _ ?_)
   refine wp_ret ?_
   refine hret _ _ ?_
   refine ends_still (v := Value.int .i64 vt22) kr kr ?_
   injection h with h
   injection h with h0_ h
   subst h0_ h
   exact ⟨f24, rfl, L25, HS27⟩
 · have c19 : ¬ ((s3.L.length : Int) = 0) := c19
   refine wpRwI 19 kr (beq_eq_false_iff_ne.mpr c19) ?_
   refine condF kr ?_
   refine wp_skip ?_
   refine hK15 _ _ ?_
   refine wp_seq_k (fun K28 hK29 => ?_)
   refine heldG (S := Sg t f ([(b1, .cells #[.slice A4 s3.L.length c5, .int .i64 (w64 (s3.vat + 1))] 26 (0, 0))] :: H) []) (n := 12) kr rfl HS13 ?_
   intro W30 HS31
   refine takeGL [0, 1, 2] (n := 12) (fuel := 9) #[true, true, true, false, false, false, false, false, false, false, false, false] rfl kr kr kr hnp (Sg.g0 (Sx.of [] fL HS31)) ?_
   refine takeGQ 3 [] rfl kr kr kr kr kr kr hnp (Sg.g0 (Sx.of [] fL HS31)) (fun w_ hw_ => by obtain ⟨g_, hl_, hS_⟩ := hw_.st; exact run_load rfl Tryz.underlying3 rfl (kv (.pointer (some ⟨b1, 1, none⟩))) (hS_.cell 1)) ?_
   refine takeGL [4, 5, 6, 7] (n := 8) (fuel := 4) #[true, true, true, true, true, true, true, true, false, false, false, false] rfl kr kr kr hnp (Sg.g0 (Sx.of [] fL HS31)) ?_
   refine takeGQ 8 [] rfl kr kr kr kr kr kr hnp (Sg.g0 (Sx.of [] fL HS31)) (fun w_ hw_ => by obtain ⟨g_, hl_, hS_⟩ := hw_.st; exact run_load rfl Tryz.underlying22 rfl (kv (.pointer (some ⟨b1, 0, none⟩))) (hS_.cell 0)) ?_
   have hq_ := guard_some h; clear h; obtain ⟨c32, h⟩ := hq_
   have c32 : ¬ ((s3.L.length : Int) = 0) := c32
   refine takeGL [9] (n := 3) (fuel := 2) #[true, true, true, true, true, true, true, true, true, true, false, false] rfl kr kr kr hnp (Sg.g0 (Sx.of [] fL HS31)) ?_
   refine takeGQ 10 [] rfl kr kr kr kr kr kr hnp (Sg.g0 (Sx.of [] fL HS31)) (fun w_ hw_ => by obtain ⟨g_, hl_, hS_⟩ := hw_.st; exact run_rem rfl (kv (.int .i64 (w64 ((w64 (s3.vat + 1)) - 1)))) (kv (.int .i64 (s3.L.length : Int))) c32 w_) ?_
   refine takeGL [11] (n := 1) (fuel := 0) #[true, true, true, true, true, true, true, true, true, true, true, true] rfl kr kr kr hnp (Sg.g0 (Sx.of [] fL HS31)) ?_
   refine doneG kr ?_ _
   refine hK29 _ _ ?_
   refine wp_seq_k (fun K33 hK34 => ?_)
   refine heldG (S := Sg t f ([(b1, .cells #[.slice A4 s3.L.length c5, .int .i64 (w64 (s3.vat + 1))] 26 (0, 0))] :: H) []) (n := 12) kr rfl HS31 ?_
   intro W35 HS36
   refine takeGL [0, 1, 2] (n := 12) (fuel := 9) #[true, true, true, false, false, false, false, false, false, false, false, false] rfl kr kr kr hnp (Sg.g0 (Sx.of [] fL HS36)) ?_
   refine takeGQ 3 [] rfl kr kr kr kr kr kr hnp (Sg.g0 (Sx.of [] fL HS36)) (fun w_ hw_ => by obtain ⟨g_, hl_, hS_⟩ := hw_.st; exact run_load rfl Tryz.underlying3 rfl (kv (.pointer (some ⟨b1, 1, none⟩))) (hS_.cell 1)) ?_
   refine takeGL [4, 5, 6, 7] (n := 8) (fuel := 4) #[true, true, true, true, true, true, true, true, false, false, false, false] rfl kr kr kr hnp (Sg.g0 (Sx.of [] fL HS36)) ?_
   refine takeGQ 8 [] rfl kr kr kr kr kr kr hnp (Sg.g0 (Sx.of [] fL HS36)) (fun w_ hw_ => by obtain ⟨g_, hl_, hS_⟩ := hw_.st; exact run_load rfl Tryz.underlying22 rfl (kv (.pointer (some ⟨b1, 0, none⟩))) (hS_.cell 0)) ?_
   refine takeGL [9] (n := 3) (fuel := 2) #[true, true, true, true, true, true, true, true, true, true, false, false] rfl kr kr kr hnp (Sg.g0 (Sx.of [] fL HS36)) ?_
   refine takeGQ 10 [] rfl kr kr kr kr kr kr hnp (Sg.g0 (Sx.of [] fL HS36)) (fun w_ hw_ => by obtain ⟨g_, hl_, hS_⟩ := hw_.st; exact run_div rfl (kv (.int .i64 (w64 ((w64 (s3.vat + 1)) - 1)))) (kv (.int .i64 (s3.L.length : Int))) c32 w_) ?_
   refine takeGL [11] (n := 1) (fuel := 0) #[true, true, true, true, true, true, true, true, true, true, true, true] rfl kr kr kr hnp (Sg.g0 (Sx.of [] fL HS36)) ?_
   refine doneG kr ?_ _
   refine hK34 _ _ ?_
   refine wp_seq_k fun K37 hK38 => rl ?_
   refine seqL3 kr ?_
   refine seqK rfl (does_run (run_load rfl Tryz.underlying22 rfl (kv (.pointer (some ⟨b1, 0, none⟩))) (HS36.cell 0)) ?_)
   have hq_ := guard_some h; clear h; obtain ⟨c39, h⟩ := hq_
   have c39 : 0 ≤ (Int.tmod (w64 ((w64 (s3.vat + 1)) - 1)) (s3.L.length : Int)) := c39
   have hq_ := guard_some h; clear h; obtain ⟨c40, h⟩ := hq_
   have c40 : (Int.tmod (w64 ((w64 (s3.vat + 1)) - 1)) (s3.L.length : Int)) < (s3.L.length : Int) := c40
   obtain ⟨b44, of45, cs41, hA46, hr42, hc43⟩ := HR6.at (i := Int.tmod (w64 ((w64 (s3.vat + 1)) - 1)) (s3.L.length : Int)) c39 c40
   obtain rfl := hr42
   refine seqL1 kr ?_
   refine seqK rfl (does_run (run_indexE hA46 (sz := 1) rfl Tryz.underlying22 kr (kv (.slice A4 s3.L.length c5)) (kv (.int .i64 (Int.tmod (w64 ((w64 (s3.vat + 1)) - 1)) (s3.L.length : Int)))) c39 c40 W35) ?_)
   refine seqK rfl (does_run (run_load rfl Tryz.underlying3 rfl (kv (.pointer (some ⟨b44, of45 + (Int.tmod (w64 ((w64 (s3.vat + 1)) - 1)) (s3.L.length : Int) : Int).toNat * 1, none⟩))) ((hc43 fL HS36) 0 (by decide))) ?_)
   have hq_ := bind_some h; clear h; obtain ⟨vt47, hc48, h⟩ := hq_
   refine seqK rfl (does_call (f := 9) (args := #[.int .i64 (rd s3.L (Int.tmod (w64 ((w64 (s3.vat + 1)) - 1)) (s3.L.length : Int))), .int .i64 1073741824]) kr (spymake_Below.calls k (rd s3.L (Int.tmod (w64 ((w64 (s3.vat + 1)) - 1)) (s3.L.length : Int))) 1073741824 HS36 vt47 hc48) ?_)
   rintro _ W51 ⟨f49, rfl, L50, HS52⟩
   refine ⟨_, rfl, ?_⟩
   have hq_ := bind_some h; clear h; obtain ⟨vt53, hc54, h⟩ := hq_
   refine seqL6 kr ?_
   refine seqK rfl (does_call (f := 9) (args := #[.int .i64 (w64 (vt47 + (w64 ((w64 (Int.tdiv (w64 ((w64 (s3.vat + 1)) - 1)) (s3.L.length : Int))) * (w64 (7919 + (Int.tmod (w64 ((w64 (s3.vat + 1)) - 1)) (s3.L.length : Int)))))))), .int .i64 n7]) kr (spymake_Below.calls k (w64 (vt47 + (w64 ((w64 (Int.tdiv (w64 ((w64 (s3.vat + 1)) - 1)) (s3.L.length : Int))) * (w64 (7919 + (Int.tmod (w64 ((w64 (s3.vat + 1)) - 1)) (s3.L.length : Int)))))))) n7 HS52 vt53 hc54) ?_)
   rintro _ W57 ⟨f55, rfl, L56, HS58⟩
   refine ⟨_, rfl, ?_⟩
   refine seqL1 kr ?_
   refine nl (hK38 _ _ ?_)
   refine wp_ret ?_
   refine hret _ _ ?_
   refine ends_still (v := Value.int .i64 vt53) kr kr ?_
   injection h with h
   injection h with h0_ h
   subst h0_ h
   exact ⟨f55, rfl, (L50.trans L56), HS58⟩

set_option maxRecDepth 100000 in
set_option maxHeartbeats 4000000 in
theorem spymake_Stream_Range.calls (k : Nat) (b1 : Nat) (A4 : Option Addr) (c5 : Nat) (s3 : S_Stream) (low7 : Int) (high8 : Int) {t w : World} {f : FM} {H : List Seg} (HS : St t w f ([(b1, .cells #[.slice A4 s3.L.length c5, .int .i64 s3.vat] 26 (0, 0))] :: H)) (HR6 : SlR (tInt .i64) f A4 c5 s3.L) (rr1 : Int) (rr2 : Int) (h : spymake_Stream_Range k s3 low7 high8 = some (rr1, rr2)) :
    Calls Tryz.prog 27 #[.pointer (some ⟨b1, 0, none⟩), .int .i64 low7, .int .i64 high8] w (fun e w' => ∃ (g : FM), e = .returned (Value.int .i64 rr1) ∧ FM.le f g ∧ St t w' g ([(b1, .cells #[.slice A4 s3.L.length c5, .int .i64 rr2] 26 (0, 0))] :: H)) := by
 unfold spymake_Stream_Range at h
 refine enter Tryz.func27 rfl (tm := #[pV b1 0, iV low7, iV high8, uV, uV, uV, uV, uV, uV, uV, uV, uV, uV, uV, uV, uV, uV, uV, uV]) kr ?_
 intro B hret hnor hnp
 refine wp_seq_k fun K9 hK10 => rl ?_
 refine seqL1 kr ?_
 refine nl (hK10 _ _ ?_)
 refine wp_seq_k (fun K11 hK12 => ?_)
 refine wp_seq_k fun K13 hK14 => rl ?_
 refine seqL3 kr ?_
 refine nl (hK14 _ _ ?_)
 have hq_ := ite_some h; clear h; rcases hq_ with ⟨c16, h⟩ | ⟨c16, h⟩
 · have c16 : high8 < low7 := c16
   refine wpRwI 9 kr (decide_eq_true c16) ?_
   refine condT kr ?_
   refine wp_seq_k fun K17 hK18 => rl ?_
   refine seqL2 kr ?_
   refine nl (hK18 _ _ ?_)
   refine wp_ret ?_
   refine hret _ _ ?_
   refine ends_still (v := Value.int .i64 low7) kr kr ?_
   injection h with h
   injection h with h0_ h
   subst h0_ h
   exact ⟨f, rfl, FM.le.refl _, HS⟩
 · have c16 : ¬ (high8 < low7) := c16
   refine wpRwI 9 kr (decide_eq_false c16) ?_
   refine condF kr ?_
   refine wp_skip ?_
   refine hK12 _ _ ?_
   refine wp_seq_k fun K19 hK20 => rl ?_
   have hq_ := bind_some h; clear h; obtain ⟨⟨vt21, vt22⟩, hc23, h⟩ := hq_
   refine seqL6 kr ?_
   refine seqK rfl (does_call (f := 20) (args := #[.pointer (some ⟨b1, 0, none⟩), .int .i64 (w64 ((w64 (high8 - low7)) + 1))]) kr (spymake_Stream_Next.calls k b1 A4 c5 s3 (w64 ((w64 (high8 - low7)) + 1)) HS HR6 vt21 vt22 hc23) ?_)
   rintro _ W26 ⟨f24, rfl, L25, HS27⟩
   refine ⟨_, rfl, ?_⟩
   refine seqL2 kr ?_
   refine nl (hK20 _ _ ?_)
   refine wp_ret ?_
   refine hret _ _ ?_
   refine ends_still (v := Value.int .i64 (w64 (low7 + vt21))) kr kr ?_
   injection h with h
   injection h with h0_ h
   subst h0_ h
   exact ⟨f24, rfl, L25, HS27⟩

set_option maxRecDepth 100000 in
set_option maxHeartbeats 4000000 in
theorem spymake_Stream_Vec.calls (k : Nat) (b1 : Nat) (A4 : Option Addr) (c5 : Nat) (s3 : S_Stream) {t w : World} {f : FM} {H : List Seg} (HS : St t w f ([(b1, .cells #[.slice A4 s3.L.length c5, .int .i64 s3.vat] 26 (0, 0))] :: H)) (HR6 : SlR (tInt .i64) f A4 c5 s3.L) (rr1 : S_Vec) (rr2 : Int) (h : spymake_Stream_Vec k s3 = some (rr1, rr2)) :
    Calls Tryz.prog 13 #[.pointer (some ⟨b1, 0, none⟩)] w (fun e w' => ∃ (g : FM), e = .returned (Value.agg #[.int .i64 rr1.X, .int .i64 rr1.Y, .int .i64 rr1.Z]) ∧ FM.le f g ∧ St t w' g ([(b1, .cells #[.slice A4 s3.L.length c5, .int .i64 rr2] 26 (0, 0))] :: H)) := by
 unfold spymake_Stream_Vec at h
 refine enter Tryz.func13 rfl (tm := #[pV b1 0, uV, uV, uV, uV, uV, uV, uV, uV, uV, uV, uV, uV, uV, uV, uV, uV, uV, uV, uV, uV, uV, uV, uV, uV, uV, uV, uV, uV, uV, uV]) kr ?_
 intro B hret hnor hnp
 refine wp_seq_k fun K7 hK8 => rl ?_
 refine seqK rfl (does_alloc (z := Value.agg #[.int .i64 0, .int .i64 0, .int .i64 0]) (cs := #[.int .i64 0, .int .i64 0, .int .i64 0]) rfl kr rfl HS ?_)
 intro b9 W10 HS11
 refine nl (hK8 _ _ ?_)
 refine wp_seq_k fun K13 hK14 => rl ?_
 refine seqK rfl (does_lit (e := (tInt .i64)) (E := 3) (vs := #[(0, Value.int .i64 3), (1, Value.int .i64 100), (2, Value.int .i64 5000), (3, Value.int .i64 1048576)]) (cs := #[.int .i64 3, .int .i64 100, .int .i64 5000, .int .i64 1048576]) (xs := ([3, 100, 5000, 1048576] : List Int)) rfl Tryz.underlying22 kr kr ⟨[.int .i64 3], _, rfl, rfl, ⟨[.int .i64 100], _, rfl, rfl, ⟨[.int .i64 5000], _, rfl, rfl, ⟨[.int .i64 1048576], _, rfl, rfl, rfl⟩⟩⟩⟩ rfl HS11 ?_ (by decide))
 intro b15 W16 s17 HS18 _ HO19
 have HS21 := HS18.u2
 have hq_ := bind_some h; clear h; obtain ⟨⟨vt22, vt23⟩, hc24, h⟩ := hq_
 refine seqL1 kr ?_
 refine seqK rfl (does_call (f := 20) (args := #[.pointer (some ⟨b1, 0, none⟩), .int .i64 4]) kr (spymake_Stream_Next.calls k b1 A4 c5 s3 4 HS21 HR6 vt22 vt23 hc24) ?_)
 rintro _ W27 ⟨f25, rfl, L26, HS28⟩
 refine ⟨_, rfl, ?_⟩
 have hq_ := guard_some h; clear h; obtain ⟨c29, h⟩ := hq_
 have c29 : 0 ≤ vt22 := c29
 have hq_ := guard_some h; clear h; obtain ⟨c30, h⟩ := hq_
 have c30 : vt22 < (([3, 100, 5000, 1048576] : List Int).length : Int) := c30
 obtain ⟨cs31, hr32, hc33⟩ := (HO19.mono L26).at' (i := vt22) c29 c30
 obtain rfl := hr32
 refine seqK rfl (does_run (run_index (sz := 1) rfl Tryz.underlying22 kr (kv (.slice (some ⟨b15, 0, none⟩) ([3, 100, 5000, 1048576] : List Int).length 4)) (kv (.int .i64 vt22)) c29 c30 W27) ?_)
 refine seqK rfl (does_run (run_load rfl Tryz.underlying3 rfl (kv (.pointer (some ⟨b15, 0 + (vt22 : Int).toNat * 1, none⟩))) ((hc33 HS28.u1) 0 (by decide))) ?_)
 refine seqL1 kr ?_
 refine nl (hK14 _ _ ?_)
 refine wp_seq_k fun K34 hK35 => rl ?_
 have hq_ := bind_some h; clear h; obtain ⟨⟨vt36, vt37⟩, hc38, h⟩ := hq_
 refine seqL4 kr ?_
 refine seqK rfl (does_call (f := 27) (args := #[.pointer (some ⟨b1, 0, none⟩), .int .i64 (w64 (0 - (rd ([3, 100, 5000, 1048576] : List Int) vt22))), .int .i64 (rd ([3, 100, 5000, 1048576] : List Int) vt22)]) kr (spymake_Stream_Range.calls k b1 A4 c5 (⟨s3.L, vt23⟩ : S_Stream) (w64 (0 - (rd ([3, 100, 5000, 1048576] : List Int) vt22))) (rd ([3, 100, 5000, 1048576] : List Int) vt22) HS28 (HR6.mono L26) vt36 vt37 hc38) ?_)
 rintro _ W41 ⟨f39, rfl, L40, HS42⟩
 refine ⟨_, rfl, ?_⟩
 have hq_ := bind_some h; clear h; obtain ⟨⟨vt43, vt44⟩, hc45, h⟩ := hq_
 refine seqL4 kr ?_
 refine seqK rfl (does_call (f := 27) (args := #[.pointer (some ⟨b1, 0, none⟩), .int .i64 (w64 (0 - (rd ([3, 100, 5000, 1048576] : List Int) vt22))), .int .i64 (rd ([3, 100, 5000, 1048576] : List Int) vt22)]) kr (spymake_Stream_Range.calls k b1 A4 c5 (⟨s3.L, vt37⟩ : S_Stream) (w64 (0 - (rd ([3, 100, 5000, 1048576] : List Int) vt22))) (rd ([3, 100, 5000, 1048576] : List Int) vt22) HS42 (HR6.mono (L26.trans L40)) vt43 vt44 hc45) ?_)
 rintro _ W48 ⟨f46, rfl, L47, HS49⟩
 refine ⟨_, rfl, ?_⟩
 have hq_ := bind_some h; clear h; obtain ⟨⟨vt50, vt51⟩, hc52, h⟩ := hq_
 refine seqL4 kr ?_
 refine seqK rfl (does_call (f := 27) (args := #[.pointer (some ⟨b1, 0, none⟩), .int .i64 (w64 (0 - (rd ([3, 100, 5000, 1048576] : List Int) vt22))), .int .i64 (rd ([3, 100, 5000, 1048576] : List Int) vt22)]) kr (spymake_Stream_Range.calls k b1 A4 c5 (⟨s3.L, vt44⟩ : S_Stream) (w64 (0 - (rd ([3, 100, 5000, 1048576] : List Int) vt22))) (rd ([3, 100, 5000, 1048576] : List Int) vt22) HS49 (HR6.mono (L26.trans (L40.trans L47))) vt50 vt51 hc52) ?_)
 rintro _ W55 ⟨f53, rfl, L54, HS56⟩
 refine ⟨_, rfl, ?_⟩
 refine seqL1 kr ?_
 refine seqK rfl (does_alloc (z := Value.agg #[.int .i64 0, .int .i64 0, .int .i64 0]) (cs := #[.int .i64 0, .int .i64 0, .int .i64 0]) rfl kr rfl HS56 ?_)
 intro b57 W58 HS59
 refine seqK rfl (does_storeA (vs := [.int .i64 vt36, .int .i64 vt43, .int .i64 vt50]) rfl kr kr kr rfl (ones rfl) HS59 kr ?_)
 intro W61 HS62
 refine nl (hK35 _ _ ?_)
 refine wp_seq_k (fun K63 hK64 => ?_)
 refine wp_seq_k fun K65 hK66 => rl ?_
 refine seqK rfl (does_run (run_loadN (n := 3) rfl Tryz.underlying39 rfl kr (kv (.pointer (some ⟨b57, 0, none⟩))) (cs := [.int .i64 vt36, .int .i64 vt43, .int .i64 vt50]) rfl (HS62.cells 0 3 _ rfl)) ?_)
 refine seqL1 kr ?_
 refine seqK rfl (does_run (run_eqS (b := ((vt36 == 0) && ((vt43 == 0) && ((vt50 == 0) && true)))) rfl (kv (.agg #[.int .i64 vt36, .int .i64 vt43, .int .i64 vt50])) (kv (.agg #[.int .i64 0, .int .i64 0, .int .i64 0])) kr kr W61) ?_)
 refine nl (hK66 _ _ ?_)
 have hq_ := ite_some h; clear h; rcases hq_ with ⟨c68, h⟩ | ⟨c68, h⟩
 · have c68 : ((vt36 == 0) && ((vt43 == 0) && ((vt50 == 0) && true))) = true := c68
   refine wpRwI 28 kr c68 ?_
   refine condT kr ?_
   refine rl ?_
   refine seqL1 kr ?_
   refine seqK rfl (does_store (n := 1) (vs := [.int .i64 1]) (cs' := #[.int .i64 1, .int .i64 vt43, .int .i64 vt50]) rfl kr (kv (.pointer (some ⟨b57, 0, none⟩))) (kv (.int .i64 1)) rfl rfl (ones rfl) HS62 (Nat.le_of_ble_eq_true rfl) kr ?_)
   intro W69 HS70
   refine nl (hK64 _ _ ?_)
   refine wp_seq_k fun K71 hK72 => rl ?_
   refine seqK rfl (does_run (run_loadN (n := 3) rfl Tryz.underlying39 rfl kr (kv (.pointer (some ⟨b57, 0, none⟩))) (cs := [.int .i64 1, .int .i64 vt43, .int .i64 vt50]) rfl (HS70.cells 0 3 _ rfl)) ?_)
   have HS73 := HS70.u3
   refine seqK rfl (does_storeA (vs := [.int .i64 1, .int .i64 vt43, .int .i64 vt50]) rfl kr kr kr rfl (ones rfl) HS73 kr ?_)
   intro W74 HS75
   refine nl (hK72 _ _ ?_)
   refine wp_ret ?_
   refine hret _ _ ?_
   refine ends (v := Value.agg #[.int .i64 1, .int .i64 vt43, .int .i64 vt50]) (results1 (q1 := .cell 2 39) kr (resN (n := 3) (cs := [.int .i64 1, .int .i64 vt43, .int .i64 vt50]) (kv (.pointer (some ⟨b9, 0, none⟩))) Tryz.underlying39 rfl kr rfl (HS75.cells 0 3 _ rfl))) kr ?_
   have HS84 := HS75.u2.u3.u3.u3
   have HS85 := HS84.drop
   have HS86 := HS85.drop
   have HS87 := HS86.drop
   injection h with h
   injection h with h0_ h
   subst h0_ h
   exact ⟨f53, rfl, (L26.trans (L40.trans (L47.trans L54))), HS87⟩
 · have c68 : ¬ (((vt36 == 0) && ((vt43 == 0) && ((vt50 == 0) && true))) = true) := c68
   refine wpRwI 28 kr (Bool.eq_false_iff.mpr c68) ?_
   refine condF kr ?_
   refine wp_skip ?_
   refine hK64 _ _ ?_
   refine wp_seq_k fun K76 hK77 => rl ?_
   refine seqK rfl (does_run (run_loadN (n := 3) rfl Tryz.underlying39 rfl kr (kv (.pointer (some ⟨b57, 0, none⟩))) (cs := [.int .i64 vt36, .int .i64 vt43, .int .i64 vt50]) rfl (HS62.cells 0 3 _ rfl)) ?_)
   have HS78 := HS62.u3
   refine seqK rfl (does_storeA (vs := [.int .i64 vt36, .int .i64 vt43, .int .i64 vt50]) rfl kr kr kr rfl (ones rfl) HS78 kr ?_)
   intro W79 HS80
   refine nl (hK77 _ _ ?_)
   refine wp_ret ?_
   refine hret _ _ ?_
   refine ends (v := Value.agg #[.int .i64 vt36, .int .i64 vt43, .int .i64 vt50]) (results1 (q1 := .cell 2 39) kr (resN (n := 3) (cs := [.int .i64 vt36, .int .i64 vt43, .int .i64 vt50]) (kv (.pointer (some ⟨b9, 0, none⟩))) Tryz.underlying39 rfl kr rfl (HS80.cells 0 3 _ rfl))) kr ?_
   have HS91 := HS80.u2.u3.u3.u3
   have HS92 := HS91.drop
   have HS93 := HS92.drop
   have HS94 := HS93.drop
   injection h with h
   injection h with h0_ h
   subst h0_ h
   exact ⟨f53, rfl, (L26.trans (L40.trans (L47.trans L54))), HS94⟩

set_option maxRecDepth 100000 in
set_option maxHeartbeats 4000000 in
theorem spymake_Stream_Box_1.calls (k : Nat) (b1 : Nat) (b3 : Nat) (A8 : Option Addr) (c9 : Nat) (b5 : Nat) (v7 : S_Stream) (v11 : Int) (c12 : Int) {t w : World} {f : FM} {H : List Seg} (HS : St t w f ([(b1, .cells #[.pointer (some ⟨b3, 0, none⟩)] 24 (0, 0))] :: [(b3, .cells #[.slice A8 v7.L.length c9, .int .i64 v7.vat] 26 (0, 0))] :: [(b5, .cells #[.int .i64 v11] 3 (0, 0))] :: H)) (HR10 : SlR (tInt .i64) f A8 c9 v7.L) (rr1 : S_Bound) (rr2 : Int) (h : spymake_Stream_Box_1 k v7 v11 c12 = some (rr1, rr2)) :
    Calls Tryz.prog 30 #[.int .i64 c12, .pointer (some ⟨b1, 0, none⟩), .pointer (some ⟨b5, 0, none⟩)] w (fun e w' => ∃ (g : FM), e = .returned (Value.agg #[.int .i64 rr1.Lo, .int .i64 rr1.Hi, .bool rr1.Unknown]) ∧ FM.le f g ∧ St t w' g ([(b1, .cells #[.pointer (some ⟨b3, 0, none⟩)] 24 (0, 0))] :: [(b3, .cells #[.slice A8 v7.L.length c9, .int .i64 rr2] 26 (0, 0))] :: [(b5, .cells #[.int .i64 v11] 3 (0, 0))] :: H)) := by
 unfold spymake_Stream_Box_1 at h
 refine enter Tryz.func30 rfl (tm := #[iV c12, pV b1 0, pV b5 0, uV, uV, uV, uV, uV, uV, uV, uV, uV, uV, uV, uV, uV, uV, uV]) kr ?_
 intro B hret hnor hnp
 refine wp_seq_k fun K13 hK14 => rl ?_
 refine seqK rfl (does_alloc (z := Value.agg #[.int .i64 0, .int .i64 0, .bool false]) (cs := #[.int .i64 0, .int .i64 0, .bool false]) rfl kr rfl HS ?_)
 intro b15 W16 HS17
 refine nl (hK14 _ _ ?_)
 refine wp_seq_k (fun K19 hK20 => ?_)
 have HS24 := HS17.u3.u2.u3.u3
 refine heldG (S := Sg t f ([(b1, .cells #[.pointer (some ⟨b3, 0, none⟩)] 24 (0, 0))] :: [(b5, .cells #[.int .i64 v11] 3 (0, 0))] :: H) [(13, [(b15, .cells #[.int .i64 0, .int .i64 0, .bool false] 29 (0, 0))]), (4, [(b3, .cells #[.slice A8 v7.L.length c9, .int .i64 v7.vat] 26 (0, 0))])]) (n := 14) kr rfl HS24 ?_
 intro W25 HS26
 refine takeGL [0] (n := 14) (fuel := 13) #[true, false, false, false, false, false, false, false, false, false, false, false, false, false] rfl kr kr kr hnp (Sg.g2 (Sx.of [[(b15, .cells #[.int .i64 0, .int .i64 0, .bool false] 29 (0, 0))], [(b3, .cells #[.slice A8 v7.L.length c9, .int .i64 v7.vat] 26 (0, 0))]] fL HS26) (fun _ => St.only [] HS26 fL) (fun _ => St.only [[(b15, .cells #[.int .i64 0, .int .i64 0, .bool false] 29 (0, 0))]] HS26 fL)) ?_
 refine takeGQ 1 [] rfl kr kr kr kr kr kr hnp (Sg.g2 (Sx.of [[(b15, .cells #[.int .i64 0, .int .i64 0, .bool false] 29 (0, 0))], [(b3, .cells #[.slice A8 v7.L.length c9, .int .i64 v7.vat] 26 (0, 0))]] fL HS26) (fun _ => St.only [] HS26 fL) (fun _ => St.only [[(b15, .cells #[.int .i64 0, .int .i64 0, .bool false] 29 (0, 0))]] HS26 fL)) (fun w_ hw_ => by obtain ⟨g_, hl_, hS_⟩ := hw_.st; exact run_load rfl Tryz.underlying24 rfl (kv (.pointer (some ⟨b1, 0, none⟩))) (hS_.cell 0)) ?_
 refine takeGQ 2 [] rfl kr kr kr kr kr kr hnp (Sg.g2 (Sx.of [[(b15, .cells #[.int .i64 0, .int .i64 0, .bool false] 29 (0, 0))], [(b3, .cells #[.slice A8 v7.L.length c9, .int .i64 v7.vat] 26 (0, 0))]] fL HS26) (fun _ => St.only [] HS26 fL) (fun _ => St.only [[(b15, .cells #[.int .i64 0, .int .i64 0, .bool false] 29 (0, 0))]] HS26 fL)) (fun w_ hw_ => by obtain ⟨g_, hl_, hS_⟩ := hw_.st; exact run_load rfl Tryz.underlying3 rfl (kv (.pointer (some ⟨b5, 0, none⟩))) (hS_.u1.cell 0)) ?_
 refine takeGL [3, 6] (n := 11) (fuel := 9) #[true, true, true, true, false, false, true, false, false, false, false, false, false, false] rfl kr kr kr hnp (Sg.g2 (Sx.of [[(b15, .cells #[.int .i64 0, .int .i64 0, .bool false] 29 (0, 0))], [(b3, .cells #[.slice A8 v7.L.length c9, .int .i64 v7.vat] 26 (0, 0))]] fL HS26) (fun _ => St.only [] HS26 fL) (fun _ => St.only [[(b15, .cells #[.int .i64 0, .int .i64 0, .bool false] 29 (0, 0))]] HS26 fL)) ?_
 refine takeGQ 7 [] rfl kr kr kr kr kr kr hnp (Sg.g2 (Sx.of [[(b15, .cells #[.int .i64 0, .int .i64 0, .bool false] 29 (0, 0))], [(b3, .cells #[.slice A8 v7.L.length c9, .int .i64 v7.vat] 26 (0, 0))]] fL HS26) (fun _ => St.only [] HS26 fL) (fun _ => St.only [[(b15, .cells #[.int .i64 0, .int .i64 0, .bool false] 29 (0, 0))]] HS26 fL)) (fun w_ hw_ => by obtain ⟨g_, hl_, hS_⟩ := hw_.st; exact run_load rfl Tryz.underlying24 rfl (kv (.pointer (some ⟨b1, 0, none⟩))) (hS_.cell 0)) ?_
 refine takeGQ 8 [] rfl kr kr kr kr kr kr hnp (Sg.g2 (Sx.of [[(b15, .cells #[.int .i64 0, .int .i64 0, .bool false] 29 (0, 0))], [(b3, .cells #[.slice A8 v7.L.length c9, .int .i64 v7.vat] 26 (0, 0))]] fL HS26) (fun _ => St.only [] HS26 fL) (fun _ => St.only [[(b15, .cells #[.int .i64 0, .int .i64 0, .bool false] 29 (0, 0))]] HS26 fL)) (fun w_ hw_ => by obtain ⟨g_, hl_, hS_⟩ := hw_.st; exact run_load rfl Tryz.underlying3 rfl (kv (.pointer (some ⟨b5, 0, none⟩))) (hS_.u1.cell 0)) ?_
 refine takeGL [9] (n := 7) (fuel := 6) #[true, true, true, true, false, false, true, true, true, true, false, false, false, false] rfl kr kr kr hnp (Sg.g2 (Sx.of [[(b15, .cells #[.int .i64 0, .int .i64 0, .bool false] 29 (0, 0))], [(b3, .cells #[.slice A8 v7.L.length c9, .int .i64 v7.vat] 26 (0, 0))]] fL HS26) (fun _ => St.only [] HS26 fL) (fun _ => St.only [[(b15, .cells #[.int .i64 0, .int .i64 0, .bool false] 29 (0, 0))]] HS26 fL)) ?_
 have HS27 := HS26.u1
 have hq_ := bind_some h; clear h; obtain ⟨⟨vt28, vt29⟩, hc30, h⟩ := hq_
 refine takeGE 4 kr rfl kr (does_call (f := 20) (args := #[.pointer (some ⟨b3, 0, none⟩), .int .i64 (w64 (v11 + 1))]) kr (spymake_Stream_Next.calls k b3 A8 c9 v7 (w64 (v11 + 1)) HS27 HR10 vt28 vt29 hc30) ?_)
 rintro _ W33 ⟨f31, rfl, L32, HS34⟩
 refine ⟨_, rfl, ?_⟩
 refine ⟨(Sg.g2 (Sx.of [[(b3, .cells #[.slice A8 v7.L.length c9, .int .i64 vt29] 26 (0, 0))], [(b15, .cells #[.int .i64 0, .int .i64 0, .bool false] 29 (0, 0))]] L32 HS34) (fun _ => St.only [[(b3, .cells #[.slice A8 v7.L.length c9, .int .i64 vt29] 26 (0, 0))]] HS34 L32) (fun hl_ => Bool.noConfusion (show true = false from hl_))), ?_⟩
 refine takeGL [5] (n := 5) (fuel := 4) #[true, true, true, true, true, true, true, true, true, true, false, false, false, false] rfl kr kr kr hnp (Sg.g2 (Sx.of [[(b3, .cells #[.slice A8 v7.L.length c9, .int .i64 vt29] 26 (0, 0))], [(b15, .cells #[.int .i64 0, .int .i64 0, .bool false] 29 (0, 0))]] L32 HS34) (fun _ => St.only [[(b3, .cells #[.slice A8 v7.L.length c9, .int .i64 vt29] 26 (0, 0))]] HS34 L32) (fun hl_ => Bool.noConfusion (show true = false from hl_))) ?_
 have hq_ := bind_some h; clear h; obtain ⟨⟨vt35, vt36⟩, hc37, h⟩ := hq_
 refine takeGE 10 kr rfl kr (does_call (f := 20) (args := #[.pointer (some ⟨b3, 0, none⟩), .int .i64 (w64 (v11 + 1))]) kr (spymake_Stream_Next.calls k b3 A8 c9 (⟨v7.L, vt29⟩ : S_Stream) (w64 (v11 + 1)) HS34 (HR10.mono L32) vt35 vt36 hc37) ?_)
 rintro _ W40 ⟨f38, rfl, L39, HS41⟩
 refine ⟨_, rfl, ?_⟩
 refine ⟨(Sg.g2 (Sx.of [[(b3, .cells #[.slice A8 v7.L.length c9, .int .i64 vt36] 26 (0, 0))], [(b15, .cells #[.int .i64 0, .int .i64 0, .bool false] 29 (0, 0))]] (L32.trans L39) HS41) (fun _ => St.only [[(b3, .cells #[.slice A8 v7.L.length c9, .int .i64 vt36] 26 (0, 0))]] HS41 (L32.trans L39)) (fun hl_ => Bool.noConfusion (show true = false from hl_))), ?_⟩
 refine takeGL [11, 12] (n := 3) (fuel := 1) #[true, true, true, true, true, true, true, true, true, true, true, true, true, false] rfl kr kr kr hnp (Sg.g2 (Sx.of [[(b3, .cells #[.slice A8 v7.L.length c9, .int .i64 vt36] 26 (0, 0))], [(b15, .cells #[.int .i64 0, .int .i64 0, .bool false] 29 (0, 0))]] (L32.trans L39) HS41) (fun _ => St.only [[(b3, .cells #[.slice A8 v7.L.length c9, .int .i64 vt36] 26 (0, 0))]] HS41 (L32.trans L39)) (fun hl_ => Bool.noConfusion (show true = false from hl_))) ?_
 have HS42 := HS41.u1
 refine takeGE 13 kr rfl kr (does_storeA (vs := [.int .i64 (w64 (c12 - vt28)), .int .i64 (w64 (c12 + vt35)), .bool false]) rfl kr kr kr rfl (ones rfl) HS42 kr ?_)
 intro W43 HS44
 refine ⟨(Sg.g2 (Sx.of [[(b15, .cells #[.int .i64 (w64 (c12 - vt28)), .int .i64 (w64 (c12 + vt35)), .bool false] 29 (0, 0))], [(b3, .cells #[.slice A8 v7.L.length c9, .int .i64 vt36] 26 (0, 0))]] (L32.trans L39) HS44) (fun hl_ => Bool.noConfusion (show true = false from hl_)) (fun hl_ => Bool.noConfusion (show true = false from hl_))), ?_⟩
 refine doneG kr ?_ _
 refine hK20 _ _ ?_
 refine wp_ret ?_
 refine hret _ _ ?_
 refine ends (v := Value.agg #[.int .i64 (w64 (c12 - vt28)), .int .i64 (w64 (c12 + vt35)), .bool false]) (results1 (q1 := .cell 4 29) kr (resN (n := 3) (cs := [.int .i64 (w64 (c12 - vt28)), .int .i64 (w64 (c12 + vt35)), .bool false]) (kv (.pointer (some ⟨b15, 0, none⟩))) Tryz.underlying29 rfl kr rfl (HS44.cells 0 3 _ rfl))) kr ?_
 have HS48 := HS44.u3.u2.u3.u3
 have HS49 := HS48.drop
 injection h with h
 injection h with h0_ h
 subst h0_ h
 exact ⟨f38, rfl, (L32.trans L39), HS49⟩

set_option maxRecDepth 100000 in
set_option maxHeartbeats 4000000 in
theorem spymake_Stream_Box.calls (k : Nat) (b1 : Nat) (A4 : Option Addr) (c5 : Nat) (s3 : S_Stream) {t w : World} {f : FM} {H : List Seg} (HS : St t w f ([(b1, .cells #[.slice A4 s3.L.length c5, .int .i64 s3.vat] 26 (0, 0))] :: H)) (HR6 : SlR (tInt .i64) f A4 c5 s3.L) (rr1 : S_Box) (rr2 : Int) (h : spymake_Stream_Box k s3 = some (rr1, rr2)) :
    Calls Tryz.prog 8 #[.pointer (some ⟨b1, 0, none⟩)] w (fun e w' => ∃ (g : FM), e = .returned (Value.agg #[.int .i64 rr1.X.Lo, .int .i64 rr1.X.Hi, .bool rr1.X.Unknown, .int .i64 rr1.Y.Lo, .int .i64 rr1.Y.Hi, .bool rr1.Y.Unknown, .int .i64 rr1.Z.Lo, .int .i64 rr1.Z.Hi, .bool rr1.Z.Unknown]) ∧ FM.le f g ∧ St t w' g ([(b1, .cells #[.slice A4 s3.L.length c5, .int .i64 rr2] 26 (0, 0))] :: H)) := by
 unfold spymake_Stream_Box at h
 refine enter Tryz.func8 rfl (tm := #[pV b1 0, uV, uV, uV, uV, uV, uV, uV, uV, uV, uV, uV, uV, uV, uV, uV, uV, uV, uV, uV, uV, uV, uV, uV, uV, uV, uV, uV, uV, uV, uV, uV, uV, uV, uV, uV]) kr ?_
 intro B hret hnor hnp
 refine wp_seq_k fun K7 hK8 => rl ?_
 refine seqK rfl (does_box (cs := #[.pointer (some ⟨b1, 0, none⟩)]) rfl (kv (.pointer (some ⟨b1, 0, none⟩))) rfl HS ?_)
 intro b9 W10 HS11
 refine seqK rfl (does_alloc (z := Value.agg #[.int .i64 0, .int .i64 0, .bool false, .int .i64 0, .int .i64 0, .bool false, .int .i64 0, .int .i64 0, .bool false]) (cs := #[.int .i64 0, .int .i64 0, .bool false, .int .i64 0, .int .i64 0, .bool false, .int .i64 0, .int .i64 0, .bool false]) rfl kr rfl HS11 ?_)
 intro b13 W14 HS15
 refine nl (hK8 _ _ ?_)
 refine wp_seq_k fun K17 hK18 => rl ?_
 refine seqK rfl (does_run (run_load rfl Tryz.underlying24 rfl (kv (.pointer (some ⟨b9, 0, none⟩))) (HS15.u1.cell 0)) ?_)
 have HS19 := HS15.u2
 have hq_ := bind_some h; clear h; obtain ⟨⟨vt20, vt21⟩, hc22, h⟩ := hq_
 refine seqK rfl (does_call (f := 13) (args := #[.pointer (some ⟨b1, 0, none⟩)]) kr (spymake_Stream_Vec.calls k b1 A4 c5 s3 HS19 HR6 vt20 vt21 hc22) ?_)
 rintro _ W25 ⟨f23, rfl, L24, HS26⟩
 refine ⟨_, rfl, ?_⟩
 refine seqK rfl (does_alloc (z := Value.agg #[.int .i64 0, .int .i64 0, .int .i64 0]) (cs := #[.int .i64 0, .int .i64 0, .int .i64 0]) rfl kr rfl HS26 ?_)
 intro b27 W28 HS29
 refine seqK rfl (does_storeA (vs := [.int .i64 vt20.X, .int .i64 vt20.Y, .int .i64 vt20.Z]) rfl kr kr kr rfl (ones rfl) HS29 kr ?_)
 intro W31 HS32
 refine nl (hK18 _ _ ?_)
 refine wp_seq_k (fun K33 hK34 => ?_)
 refine wp_seq_k fun K35 hK36 => rl ?_
 refine seqK rfl (does_run (run_load rfl Tryz.underlying24 rfl (kv (.pointer (some ⟨b9, 0, none⟩))) (HS32.u3.cell 0)) ?_)
 have HS37 := HS32.u1
 have hq_ := bind_some h; clear h; obtain ⟨⟨vt38, vt39⟩, hc40, h⟩ := hq_
 refine seqK rfl (does_call (f := 20) (args := #[.pointer (some ⟨b1, 0, none⟩), .int .i64 10]) kr (spymake_Stream_Next.calls k b1 A4 c5 (⟨s3.L, vt21⟩ : S_Stream) 10 HS37 (HR6.mono L24) vt38 vt39 hc40) ?_)
 rintro _ W43 ⟨f41, rfl, L42, HS44⟩
 refine ⟨_, rfl, ?_⟩
 refine seqL1 kr ?_
 refine nl (hK36 _ _ ?_)
 have hq_ := ite_some h; clear h; rcases hq_ with ⟨c46, h⟩ | ⟨c46, h⟩
 · have c46 : vt38 = 0 := c46
   refine wpRwI 11 kr (beq_iff_eq.mpr c46) ?_
   refine condT kr ?_
   refine wp_seq_k fun K47 hK48 => rl ?_
   refine seqL1 kr ?_
   refine seqK rfl (does_alloc (z := Value.agg #[.int .i64 0, .int .i64 0, .bool false]) (cs := #[.int .i64 0, .int .i64 0, .bool false]) rfl kr rfl HS44 ?_)
   intro b49 W50 HS51
   refine seqK rfl (does_storeA (vs := [.int .i64 0, .int .i64 0, .bool true]) rfl kr kr kr rfl (ones rfl) HS51 kr ?_)
   intro W53 HS54
   refine nl (hK48 _ _ ?_)
   refine wp_seq_k fun K55 hK56 => rl ?_
   refine seqK rfl (does_run (run_loadN (n := 3) rfl Tryz.underlying29 rfl kr (kv (.pointer (some ⟨b49, 0, none⟩))) (cs := [.int .i64 0, .int .i64 0, .bool true]) rfl (HS54.cells 0 3 _ rfl)) ?_)
   refine seqK rfl (does_run (run_loadN (n := 3) rfl Tryz.underlying29 rfl kr (kv (.pointer (some ⟨b49, 0, none⟩))) (cs := [.int .i64 0, .int .i64 0, .bool true]) rfl (HS54.cells 0 3 _ rfl)) ?_)
   refine seqK rfl (does_run (run_loadN (n := 3) rfl Tryz.underlying29 rfl kr (kv (.pointer (some ⟨b49, 0, none⟩))) (cs := [.int .i64 0, .int .i64 0, .bool true]) rfl (HS54.cells 0 3 _ rfl)) ?_)
   have HS57 := HS54.u3
   refine seqL1 kr ?_
   refine seqK rfl (does_storeA (vs := [.int .i64 0, .int .i64 0, .bool true, .int .i64 0, .int .i64 0, .bool true, .int .i64 0, .int .i64 0, .bool true]) rfl kr kr kr rfl (ones rfl) HS57 kr ?_)
   intro W58 HS59
   refine nl (hK56 _ _ ?_)
   refine wp_ret ?_
   refine hret _ _ ?_
   refine ends (v := Value.agg #[.int .i64 0, .int .i64 0, .bool true, .int .i64 0, .int .i64 0, .bool true, .int .i64 0, .int .i64 0, .bool true]) (results1 (q1 := .cell 2 31) kr (resN (n := 9) (cs := [.int .i64 0, .int .i64 0, .bool true, .int .i64 0, .int .i64 0, .bool true, .int .i64 0, .int .i64 0, .bool true]) (kv (.pointer (some ⟨b13, 0, none⟩))) Tryz.underlying31 rfl kr rfl (HS59.cells 0 9 _ rfl))) kr ?_
   have HS154 := HS59.u2.u4.u4.u4.u4
   have HS155 := HS154.drop
   have HS156 := HS155.drop
   have HS157 := HS156.drop
   have HS158 := HS157.drop
   injection h with h
   injection h with h0_ h
   subst h0_ h
   exact ⟨f41, rfl, (L24.trans L42), HS158⟩
 · have c46 : ¬ (vt38 = 0) := c46
   refine wpRwI 11 kr (beq_eq_false_iff_ne.mpr c46) ?_
   refine condF kr ?_
   refine wp_skip ?_
   refine hK34 _ _ ?_
   refine wp_seq_k fun K60 hK61 => rl ?_
   refine seqK rfl (does_lit (e := (tInt .i64)) (E := 3) (vs := #[(0, Value.int .i64 0), (1, Value.int .i64 2), (2, Value.int .i64 300), (3, Value.int .i64 262144)]) (cs := #[.int .i64 0, .int .i64 2, .int .i64 300, .int .i64 262144]) (xs := ([0, 2, 300, 262144] : List Int)) rfl Tryz.underlying22 kr kr ⟨[.int .i64 0], _, rfl, rfl, ⟨[.int .i64 2], _, rfl, rfl, ⟨[.int .i64 300], _, rfl, rfl, ⟨[.int .i64 262144], _, rfl, rfl, rfl⟩⟩⟩⟩ rfl HS44 ?_ (by decide))
   intro b62 W63 s64 HS65 _ HO66
   refine seqK rfl (does_run (run_load rfl Tryz.underlying24 rfl (kv (.pointer (some ⟨b9, 0, none⟩))) (HS65.u4.cell 0)) ?_)
   have HS68 := HS65.u1
   have hq_ := bind_some h; clear h; obtain ⟨⟨vt69, vt70⟩, hc71, h⟩ := hq_
   refine seqK rfl (does_call (f := 20) (args := #[.pointer (some ⟨b1, 0, none⟩), .int .i64 4]) kr (spymake_Stream_Next.calls k b1 A4 c5 (⟨s3.L, vt39⟩ : S_Stream) 4 HS68 (HR6.mono (L24.trans L42)) vt69 vt70 hc71) ?_)
   rintro _ W74 ⟨f72, rfl, L73, HS75⟩
   refine ⟨_, rfl, ?_⟩
   have hq_ := guard_some h; clear h; obtain ⟨c76, h⟩ := hq_
   have c76 : 0 ≤ vt69 := c76
   have hq_ := guard_some h; clear h; obtain ⟨c77, h⟩ := hq_
   have c77 : vt69 < (([0, 2, 300, 262144] : List Int).length : Int) := c77
   obtain ⟨cs78, hr79, hc80⟩ := (HO66.mono L73).at' (i := vt69) c76 c77
   obtain rfl := hr79
   refine seqK rfl (does_run (run_index (sz := 1) rfl Tryz.underlying22 kr (kv (.slice (some ⟨b62, 0, none⟩) ([0, 2, 300, 262144] : List Int).length 4)) (kv (.int .i64 vt69)) c76 c77 W74) ?_)
   refine seqK rfl (does_run (run_load rfl Tryz.underlying3 rfl (kv (.pointer (some ⟨b62, 0 + (vt69 : Int).toNat * 1, none⟩))) ((hc80 HS75.u1) 0 (by decide))) ?_)
   refine seqK rfl (does_alloc (z := Value.int .i64 0) (cs := #[.int .i64 0]) rfl kr rfl HS75 ?_)
   intro b81 W82 HS83
   refine seqK rfl (does_store (n := 1) (vs := [.int .i64 (rd ([0, 2, 300, 262144] : List Int) vt69)]) (cs' := #[.int .i64 (rd ([0, 2, 300, 262144] : List Int) vt69)]) rfl kr (kv (.pointer (some ⟨b81, 0, none⟩))) (kv (.int .i64 (rd ([0, 2, 300, 262144] : List Int) vt69))) rfl rfl (ones rfl) HS83 (Nat.le_of_ble_eq_true rfl) kr ?_)
   intro W85 HS86
   refine nl (hK61 _ _ ?_)
   refine wp_seq_k fun K87 hK88 => rl ?_
   refine seqL2 kr ?_
   refine nl (hK88 _ _ ?_)
   refine wp_seq_k (fun K89 hK90 => ?_)
   have HS96 := HS86.u3.u3.u2.u5.u5.u5
   refine heldG (S := Sg t f72 ([(b81, .cells #[.int .i64 (rd ([0, 2, 300, 262144] : List Int) vt69)] 3 (0, 0))] :: s64 :: [(b27, .cells #[.int .i64 vt20.X, .int .i64 vt20.Y, .int .i64 vt20.Z] 39 (0, 0))] :: H) [(3, [(b1, .cells #[.slice A4 s3.L.length c5, .int .i64 vt70] 26 (0, 0))]), (13, [(b13, .cells #[.int .i64 0, .int .i64 0, .bool false, .int .i64 0, .int .i64 0, .bool false, .int .i64 0, .int .i64 0, .bool false] 31 (0, 0))]), (3, [(b9, .cells #[.pointer (some ⟨b1, 0, none⟩)] 24 (0, 0))])]) (n := 14) kr rfl HS96 ?_
   intro W97 HS98
   refine takeGL [0, 1] (n := 14) (fuel := 12) #[true, true, false, false, false, false, false, false, false, false, false, false, false, false] rfl kr kr kr hnp (Sg.g3 (Sx.of [[(b1, .cells #[.slice A4 s3.L.length c5, .int .i64 vt70] 26 (0, 0))], [(b13, .cells #[.int .i64 0, .int .i64 0, .bool false, .int .i64 0, .int .i64 0, .bool false, .int .i64 0, .int .i64 0, .bool false] 31 (0, 0))], [(b9, .cells #[.pointer (some ⟨b1, 0, none⟩)] 24 (0, 0))]] fL HS98) (fun _ => St.only [] HS98 fL) (fun _ => St.only [[(b1, .cells #[.slice A4 s3.L.length c5, .int .i64 vt70] 26 (0, 0))]] HS98 fL) (fun _ => St.only [[(b1, .cells #[.slice A4 s3.L.length c5, .int .i64 vt70] 26 (0, 0))], [(b13, .cells #[.int .i64 0, .int .i64 0, .bool false, .int .i64 0, .int .i64 0, .bool false, .int .i64 0, .int .i64 0, .bool false] 31 (0, 0))]] HS98 fL)) ?_
   refine takeGQ 2 [] rfl kr kr kr kr kr kr hnp (Sg.g3 (Sx.of [[(b1, .cells #[.slice A4 s3.L.length c5, .int .i64 vt70] 26 (0, 0))], [(b13, .cells #[.int .i64 0, .int .i64 0, .bool false, .int .i64 0, .int .i64 0, .bool false, .int .i64 0, .int .i64 0, .bool false] 31 (0, 0))], [(b9, .cells #[.pointer (some ⟨b1, 0, none⟩)] 24 (0, 0))]] fL HS98) (fun _ => St.only [] HS98 fL) (fun _ => St.only [[(b1, .cells #[.slice A4 s3.L.length c5, .int .i64 vt70] 26 (0, 0))]] HS98 fL) (fun _ => St.only [[(b1, .cells #[.slice A4 s3.L.length c5, .int .i64 vt70] 26 (0, 0))], [(b13, .cells #[.int .i64 0, .int .i64 0, .bool false, .int .i64 0, .int .i64 0, .bool false, .int .i64 0, .int .i64 0, .bool false] 31 (0, 0))]] HS98 fL)) (fun w_ hw_ => by obtain ⟨g_, hl_, hS_⟩ := hw_.st; exact run_load rfl Tryz.underlying2 rfl (kv (.pointer (some ⟨b27, 0, none⟩))) (hS_.u2.cell 0)) ?_
   refine takeGL [4, 5] (n := 11) (fuel := 9) #[true, true, true, false, true, true, false, false, false, false, false, false, false, false] rfl kr kr kr hnp (Sg.g3 (Sx.of [[(b1, .cells #[.slice A4 s3.L.length c5, .int .i64 vt70] 26 (0, 0))], [(b13, .cells #[.int .i64 0, .int .i64 0, .bool false, .int .i64 0, .int .i64 0, .bool false, .int .i64 0, .int .i64 0, .bool false] 31 (0, 0))], [(b9, .cells #[.pointer (some ⟨b1, 0, none⟩)] 24 (0, 0))]] fL HS98) (fun _ => St.only [] HS98 fL) (fun _ => St.only [[(b1, .cells #[.slice A4 s3.L.length c5, .int .i64 vt70] 26 (0, 0))]] HS98 fL) (fun _ => St.only [[(b1, .cells #[.slice A4 s3.L.length c5, .int .i64 vt70] 26 (0, 0))], [(b13, .cells #[.int .i64 0, .int .i64 0, .bool false, .int .i64 0, .int .i64 0, .bool false, .int .i64 0, .int .i64 0, .bool false] 31 (0, 0))]] HS98 fL)) ?_
   refine takeGQ 6 [] rfl kr kr kr kr kr kr hnp (Sg.g3 (Sx.of [[(b1, .cells #[.slice A4 s3.L.length c5, .int .i64 vt70] 26 (0, 0))], [(b13, .cells #[.int .i64 0, .int .i64 0, .bool false, .int .i64 0, .int .i64 0, .bool false, .int .i64 0, .int .i64 0, .bool false] 31 (0, 0))], [(b9, .cells #[.pointer (some ⟨b1, 0, none⟩)] 24 (0, 0))]] fL HS98) (fun _ => St.only [] HS98 fL) (fun _ => St.only [[(b1, .cells #[.slice A4 s3.L.length c5, .int .i64 vt70] 26 (0, 0))]] HS98 fL) (fun _ => St.only [[(b1, .cells #[.slice A4 s3.L.length c5, .int .i64 vt70] 26 (0, 0))], [(b13, .cells #[.int .i64 0, .int .i64 0, .bool false, .int .i64 0, .int .i64 0, .bool false, .int .i64 0, .int .i64 0, .bool false] 31 (0, 0))]] HS98 fL)) (fun w_ hw_ => by obtain ⟨g_, hl_, hS_⟩ := hw_.st; exact run_load rfl Tryz.underlying2 rfl (kv (.pointer (some ⟨b27, 1, none⟩))) (hS_.u2.cell 1)) ?_
   refine takeGL [8, 9] (n := 8) (fuel := 6) #[true, true, true, false, true, true, true, false, true, true, false, false, false, false] rfl kr kr kr hnp (Sg.g3 (Sx.of [[(b1, .cells #[.slice A4 s3.L.length c5, .int .i64 vt70] 26 (0, 0))], [(b13, .cells #[.int .i64 0, .int .i64 0, .bool false, .int .i64 0, .int .i64 0, .bool false, .int .i64 0, .int .i64 0, .bool false] 31 (0, 0))], [(b9, .cells #[.pointer (some ⟨b1, 0, none⟩)] 24 (0, 0))]] fL HS98) (fun _ => St.only [] HS98 fL) (fun _ => St.only [[(b1, .cells #[.slice A4 s3.L.length c5, .int .i64 vt70] 26 (0, 0))]] HS98 fL) (fun _ => St.only [[(b1, .cells #[.slice A4 s3.L.length c5, .int .i64 vt70] 26 (0, 0))], [(b13, .cells #[.int .i64 0, .int .i64 0, .bool false, .int .i64 0, .int .i64 0, .bool false, .int .i64 0, .int .i64 0, .bool false] 31 (0, 0))]] HS98 fL)) ?_
   refine takeGQ 10 [] rfl kr kr kr kr kr kr hnp (Sg.g3 (Sx.of [[(b1, .cells #[.slice A4 s3.L.length c5, .int .i64 vt70] 26 (0, 0))], [(b13, .cells #[.int .i64 0, .int .i64 0, .bool false, .int .i64 0, .int .i64 0, .bool false, .int .i64 0, .int .i64 0, .bool false] 31 (0, 0))], [(b9, .cells #[.pointer (some ⟨b1, 0, none⟩)] 24 (0, 0))]] fL HS98) (fun _ => St.only [] HS98 fL) (fun _ => St.only [[(b1, .cells #[.slice A4 s3.L.length c5, .int .i64 vt70] 26 (0, 0))]] HS98 fL) (fun _ => St.only [[(b1, .cells #[.slice A4 s3.L.length c5, .int .i64 vt70] 26 (0, 0))], [(b13, .cells #[.int .i64 0, .int .i64 0, .bool false, .int .i64 0, .int .i64 0, .bool false, .int .i64 0, .int .i64 0, .bool false] 31 (0, 0))]] HS98 fL)) (fun w_ hw_ => by obtain ⟨g_, hl_, hS_⟩ := hw_.st; exact run_load rfl Tryz.underlying2 rfl (kv (.pointer (some ⟨b27, 2, none⟩))) (hS_.u2.cell 2)) ?_
   have HS101 := HS98.u3.u1.u3
   have hq_ := bind_some h; clear h; obtain ⟨⟨vt102, vt103⟩, hc104, h⟩ := hq_
   refine takeGE 3 kr rfl kr (does_call (f := 30) (args := #[.int .i64 vt20.X, .pointer (some ⟨b9, 0, none⟩), .pointer (some ⟨b81, 0, none⟩)]) kr (spymake_Stream_Box_1.calls k b9 b1 A4 c5 b81 (⟨s3.L, vt70⟩ : S_Stream) (rd ([0, 2, 300, 262144] : List Int) vt69) vt20.X HS101 (HR6.mono (L24.trans (L42.trans L73))) vt102 vt103 hc104) ?_)
   rintro _ W107 ⟨f105, rfl, L106, HS108⟩
   refine ⟨_, rfl, ?_⟩
   have HS114 := HS108.u5.u5.u4.u5.u5.u5
   refine ⟨(Sg.g3 (Sx.of [[(b9, .cells #[.pointer (some ⟨b1, 0, none⟩)] 24 (0, 0))], [(b1, .cells #[.slice A4 s3.L.length c5, .int .i64 vt103] 26 (0, 0))], [(b13, .cells #[.int .i64 0, .int .i64 0, .bool false, .int .i64 0, .int .i64 0, .bool false, .int .i64 0, .int .i64 0, .bool false] 31 (0, 0))]] L106 HS114) (fun hl_ => Bool.noConfusion (show true = false from hl_)) (fun _ => St.only [[(b9, .cells #[.pointer (some ⟨b1, 0, none⟩)] 24 (0, 0))], [(b1, .cells #[.slice A4 s3.L.length c5, .int .i64 vt103] 26 (0, 0))]] HS114 L106) (fun hl_ => Bool.noConfusion (show true = false from hl_))), ?_⟩
   have HS117 := HS114.u3.u2.u2
   have hq_ := bind_some h; clear h; obtain ⟨⟨vt118, vt119⟩, hc120, h⟩ := hq_
   refine takeGE 7 kr rfl kr (does_call (f := 30) (args := #[.int .i64 vt20.Y, .pointer (some ⟨b9, 0, none⟩), .pointer (some ⟨b81, 0, none⟩)]) kr (spymake_Stream_Box_1.calls k b9 b1 A4 c5 b81 (⟨s3.L, vt103⟩ : S_Stream) (rd ([0, 2, 300, 262144] : List Int) vt69) vt20.Y HS117 (HR6.mono (L24.trans (L42.trans (L73.trans L106)))) vt118 vt119 hc120) ?_)
   rintro _ W123 ⟨f121, rfl, L122, HS124⟩
   refine ⟨_, rfl, ?_⟩
   have HS130 := HS124.u5.u5.u4.u5.u5.u5
   refine ⟨(Sg.g3 (Sx.of [[(b9, .cells #[.pointer (some ⟨b1, 0, none⟩)] 24 (0, 0))], [(b1, .cells #[.slice A4 s3.L.length c5, .int .i64 vt119] 26 (0, 0))], [(b13, .cells #[.int .i64 0, .int .i64 0, .bool false, .int .i64 0, .int .i64 0, .bool false, .int .i64 0, .int .i64 0, .bool false] 31 (0, 0))]] (L106.trans L122) HS130) (fun hl_ => Bool.noConfusion (show true = false from hl_)) (fun _ => St.only [[(b9, .cells #[.pointer (some ⟨b1, 0, none⟩)] 24 (0, 0))], [(b1, .cells #[.slice A4 s3.L.length c5, .int .i64 vt119] 26 (0, 0))]] HS130 (L106.trans L122)) (fun hl_ => Bool.noConfusion (show true = false from hl_))), ?_⟩
   have HS133 := HS130.u3.u2.u2
   have hq_ := bind_some h; clear h; obtain ⟨⟨vt134, vt135⟩, hc136, h⟩ := hq_
   refine takeGE 11 kr rfl kr (does_call (f := 30) (args := #[.int .i64 vt20.Z, .pointer (some ⟨b9, 0, none⟩), .pointer (some ⟨b81, 0, none⟩)]) kr (spymake_Stream_Box_1.calls k b9 b1 A4 c5 b81 (⟨s3.L, vt119⟩ : S_Stream) (rd ([0, 2, 300, 262144] : List Int) vt69) vt20.Z HS133 (HR6.mono (L24.trans (L42.trans (L73.trans (L106.trans L122))))) vt134 vt135 hc136) ?_)
   rintro _ W139 ⟨f137, rfl, L138, HS140⟩
   refine ⟨_, rfl, ?_⟩
   have HS146 := HS140.u5.u5.u4.u5.u5.u5
   refine ⟨(Sg.g3 (Sx.of [[(b9, .cells #[.pointer (some ⟨b1, 0, none⟩)] 24 (0, 0))], [(b1, .cells #[.slice A4 s3.L.length c5, .int .i64 vt135] 26 (0, 0))], [(b13, .cells #[.int .i64 0, .int .i64 0, .bool false, .int .i64 0, .int .i64 0, .bool false, .int .i64 0, .int .i64 0, .bool false] 31 (0, 0))]] (L106.trans (L122.trans L138)) HS146) (fun hl_ => Bool.noConfusion (show true = false from hl_)) (fun _ => St.only [[(b9, .cells #[.pointer (some ⟨b1, 0, none⟩)] 24 (0, 0))], [(b1, .cells #[.slice A4 s3.L.length c5, .int .i64 vt135] 26 (0, 0))]] HS146 (L106.trans (L122.trans L138))) (fun hl_ => Bool.noConfusion (show true = false from hl_))), ?_⟩
   refine takeGL [12] (n := 2) (fuel := 1) #[true, true, true, true, true, true, true, true, true, true, true, true, true, false] rfl kr kr kr hnp (Sg.g3 (Sx.of [[(b9, .cells #[.pointer (some ⟨b1, 0, none⟩)] 24 (0, 0))], [(b1, .cells #[.slice A4 s3.L.length c5, .int .i64 vt135] 26 (0, 0))], [(b13, .cells #[.int .i64 0, .int .i64 0, .bool false, .int .i64 0, .int .i64 0, .bool false, .int .i64 0, .int .i64 0, .bool false] 31 (0, 0))]] (L106.trans (L122.trans L138)) HS146) (fun hl_ => Bool.noConfusion (show true = false from hl_)) (fun _ => St.only [[(b9, .cells #[.pointer (some ⟨b1, 0, none⟩)] 24 (0, 0))], [(b1, .cells #[.slice A4 s3.L.length c5, .int .i64 vt135] 26 (0, 0))]] HS146 (L106.trans (L122.trans L138))) (fun hl_ => Bool.noConfusion (show true = false from hl_))) ?_
   have HS147 := HS146.u2
   refine takeGE 13 kr rfl kr (does_storeA (vs := [.int .i64 vt102.Lo, .int .i64 vt102.Hi, .bool vt102.Unknown, .int .i64 vt118.Lo, .int .i64 vt118.Hi, .bool vt118.Unknown, .int .i64 vt134.Lo, .int .i64 vt134.Hi, .bool vt134.Unknown]) rfl kr kr kr rfl (ones rfl) HS147 kr ?_)
   intro W148 HS149
   refine ⟨(Sg.g3 (Sx.of [[(b13, .cells #[.int .i64 vt102.Lo, .int .i64 vt102.Hi, .bool vt102.Unknown, .int .i64 vt118.Lo, .int .i64 vt118.Hi, .bool vt118.Unknown, .int .i64 vt134.Lo, .int .i64 vt134.Hi, .bool vt134.Unknown] 31 (0, 0))], [(b9, .cells #[.pointer (some ⟨b1, 0, none⟩)] 24 (0, 0))], [(b1, .cells #[.slice A4 s3.L.length c5, .int .i64 vt135] 26 (0, 0))]] (L106.trans (L122.trans L138)) HS149) (fun hl_ => Bool.noConfusion (show true = false from hl_)) (fun hl_ => Bool.noConfusion (show true = false from hl_)) (fun hl_ => Bool.noConfusion (show true = false from hl_))), ?_⟩
   refine doneG kr ?_ _
   refine hK90 _ _ ?_
   refine wp_ret ?_
   refine hret _ _ ?_
   refine ends (v := Value.agg #[.int .i64 vt102.Lo, .int .i64 vt102.Hi, .bool vt102.Unknown, .int .i64 vt118.Lo, .int .i64 vt118.Hi, .bool vt118.Unknown, .int .i64 vt134.Lo, .int .i64 vt134.Hi, .bool vt134.Unknown]) (results1 (q1 := .cell 2 31) kr (resN (n := 9) (cs := [.int .i64 vt102.Lo, .int .i64 vt102.Hi, .bool vt102.Unknown, .int .i64 vt118.Lo, .int .i64 vt118.Hi, .bool vt118.Unknown, .int .i64 vt134.Lo, .int .i64 vt134.Hi, .bool vt134.Unknown]) (kv (.pointer (some ⟨b13, 0, none⟩))) Tryz.underlying31 rfl kr rfl (HS149.cells 0 9 _ rfl))) kr ?_
   have HS164 := HS149.u2.u5.u5.u5.u5.u5
   have HS165 := HS164.drop
   have HS166 := HS165.drop
   have HS167 := HS166.drop
   have HS168 := HS167.drop
   have HS169 := HS168.drop
   injection h with h
   injection h with h0_ h
   subst h0_ h
   exact ⟨f137, rfl, (L24.trans (L42.trans (L73.trans (L106.trans (L122.trans L138))))), HS169⟩

set_option maxRecDepth 100000 in
set_option maxHeartbeats 4000000 in
theorem query_sides.calls (k : Nat)  (b1 : S_Box) {t w : World} {f : FM} {H : List Seg} (HS : St t w f (H)) (rr1 : List S_Bound) (rr2 : Bool) (h : query_sides k b1 = some (rr1, rr2)) :
    Calls Tryz.prog 31 #[.agg #[.int .i64 b1.X.Lo, .int .i64 b1.X.Hi, .bool b1.X.Unknown, .int .i64 b1.Y.Lo, .int .i64 b1.Y.Hi, .bool b1.Y.Unknown, .int .i64 b1.Z.Lo, .int .i64 b1.Z.Hi, .bool b1.Z.Unknown]] w (fun e w' => ∃ (g : FM), e = .returned (Value.tuple #[.agg #[.int .i64 ((rr1.getD 0 default).Lo), .int .i64 ((rr1.getD 0 default).Hi), .bool ((rr1.getD 0 default).Unknown), .int .i64 ((rr1.getD 1 default).Lo), .int .i64 ((rr1.getD 1 default).Hi), .bool ((rr1.getD 1 default).Unknown), .int .i64 ((rr1.getD 2 default).Lo), .int .i64 ((rr1.getD 2 default).Hi), .bool ((rr1.getD 2 default).Unknown)], .bool rr2]) ∧ FM.le f g ∧ St t w' g (H)) := by
 unfold query_sides at h
 refine enter Tryz.func31 rfl (tm := #[(ag_Box b1), uV, uV, uV, uV, uV, uV, uV, uV, uV, uV, uV, uV, uV, uV, uV, uV, uV, uV, uV, uV, uV, uV, uV, uV, uV, uV, uV, uV, uV, uV, uV, uV, uV, uV, uV, uV, uV, uV, uV]) kr ?_
 intro B hret hnor hnp
 refine wp_seq_k fun K2 hK3 => rl ?_
 refine seqK rfl (does_box (cs := #[.int .i64 b1.X.Lo, .int .i64 b1.X.Hi, .bool b1.X.Unknown, .int .i64 b1.Y.Lo, .int .i64 b1.Y.Hi, .bool b1.Y.Unknown, .int .i64 b1.Z.Lo, .int .i64 b1.Z.Hi, .bool b1.Z.Unknown]) rfl (kv (.agg #[.int .i64 b1.X.Lo, .int .i64 b1.X.Hi, .bool b1.X.Unknown, .int .i64 b1.Y.Lo, .int .i64 b1.Y.Hi, .bool b1.Y.Unknown, .int .i64 b1.Z.Lo, .int .i64 b1.Z.Hi, .bool b1.Z.Unknown])) rfl HS ?_)
 intro b4 W5 HS6
 refine seqK rfl (does_alloc (z := Value.agg #[.int .i64 0, .int .i64 0, .bool false, .int .i64 0, .int .i64 0, .bool false, .int .i64 0, .int .i64 0, .bool false]) (cs := #[.int .i64 0, .int .i64 0, .bool false, .int .i64 0, .int .i64 0, .bool false, .int .i64 0, .int .i64 0, .bool false]) rfl kr rfl HS6 ?_)
 intro b8 W9 HS10
 refine seqL1 kr ?_
 refine nl (hK3 _ _ ?_)
 refine wp_seq_k fun K12 hK13 => rl ?_
 refine seqL1 kr ?_
 refine seqK rfl (does_run (run_loadN (n := 3) rfl Tryz.underlying29 rfl kr (kv (.pointer (some ⟨b4, 0, none⟩))) (cs := [.int .i64 b1.X.Lo, .int .i64 b1.X.Hi, .bool b1.X.Unknown]) rfl (HS10.u1.cells 0 3 _ rfl)) ?_)
 refine seqL1 kr ?_
 refine seqK rfl (does_run (run_loadN (n := 3) rfl Tryz.underlying29 rfl kr (kv (.pointer (some ⟨b4, 3, none⟩))) (cs := [.int .i64 b1.Y.Lo, .int .i64 b1.Y.Hi, .bool b1.Y.Unknown]) rfl (HS10.u1.cells 3 3 _ rfl)) ?_)
 refine seqL1 kr ?_
 refine seqK rfl (does_run (run_loadN (n := 3) rfl Tryz.underlying29 rfl kr (kv (.pointer (some ⟨b4, 6, none⟩))) (cs := [.int .i64 b1.Z.Lo, .int .i64 b1.Z.Hi, .bool b1.Z.Unknown]) rfl (HS10.u1.cells 6 3 _ rfl)) ?_)
 refine seqL1 kr ?_
 refine seqK rfl (does_alloc (z := Value.agg #[.int .i64 0, .int .i64 0, .bool false, .int .i64 0, .int .i64 0, .bool false, .int .i64 0, .int .i64 0, .bool false]) (cs := #[.int .i64 0, .int .i64 0, .bool false, .int .i64 0, .int .i64 0, .bool false, .int .i64 0, .int .i64 0, .bool false]) rfl kr rfl HS10 ?_)
 intro b14 W15 HS16
 refine seqK rfl (does_storeA (vs := [.int .i64 b1.X.Lo, .int .i64 b1.X.Hi, .bool b1.X.Unknown, .int .i64 b1.Y.Lo, .int .i64 b1.Y.Hi, .bool b1.Y.Unknown, .int .i64 b1.Z.Lo, .int .i64 b1.Z.Hi, .bool b1.Z.Unknown]) rfl kr kr kr rfl (ones rfl) HS16 kr ?_)
 intro W18 HS19
 refine nl (hK13 _ _ ?_)
 refine wp_seq_k (fun K20 hK21 => ?_)
 refine wp_seq_k fun K22 hK23 => rl ?_
 refine seqK rfl (does_run (run_loadN (n := 9) rfl Tryz.underlying81 rfl kr (kv (.pointer (some ⟨b14, 0, none⟩))) (cs := [.int .i64 b1.X.Lo, .int .i64 b1.X.Hi, .bool b1.X.Unknown, .int .i64 b1.Y.Lo, .int .i64 b1.Y.Hi, .bool b1.Y.Unknown, .int .i64 b1.Z.Lo, .int .i64 b1.Z.Hi, .bool b1.Z.Unknown]) rfl (HS19.cells 0 9 _ rfl)) ?_)
 refine seqL1 kr ?_
 refine nl (hK23 _ _ ?_)
 refine blockK (fun B24 hx25 hn26 hr27 ho28 hp29 => ?_)
 have hq_ := bind_some h; clear h; obtain ⟨o30, hv96, h⟩ := hq_
 have JR98 : ∀ z_, some (Sum.inl z_) = some o30 → some z_ = some (rr1, rr2) := by
  intro z_ e_; injection e_ with e_; subst e_; exact h
 have J97 : ∀ (f91 : FM) (j95 : Nat → Value) (W93 : World) (a_ : Act), FM.le f f91 → some (Sum.inr ()) = some o30 → St t W93 f91 ([(b14, .cells #[.int .i64 b1.X.Lo, .int .i64 b1.X.Hi, .bool b1.X.Unknown, .int .i64 b1.Y.Lo, .int .i64 b1.Y.Hi, .bool b1.Y.Unknown, .int .i64 b1.Z.Lo, .int .i64 b1.Z.Hi, .bool b1.Z.Unknown] 81 (0, 0))] :: [(b8, .cells #[.int .i64 0, .int .i64 0, .bool false, .int .i64 0, .int .i64 0, .bool false, .int .i64 0, .int .i64 0, .bool false] 81 (0, 0))] :: [(b4, .cells #[.int .i64 b1.X.Lo, .int .i64 b1.X.Hi, .bool b1.X.Unknown, .int .i64 b1.Y.Lo, .int .i64 b1.Y.Hi, .bool b1.Y.Unknown, .int .i64 b1.Z.Lo, .int .i64 b1.Z.Hi, .bool b1.Z.Unknown] 31 (0, 0))] :: H) → a_ = ⟨#[(ag_Box b1), pV b4 0, pV b8 0, (j95 0), pV b14 0, uV, (j95 1), pV b4 0, (ag_Bound b1.X), pV b4 3, (ag_Bound b1.Y), pV b4 6, (ag_Bound b1.Z), .agg #[iV b1.X.Lo, iV b1.X.Hi, .bool b1.X.Unknown, iV b1.Y.Lo, iV b1.Y.Hi, .bool b1.Y.Unknown, iV b1.Z.Lo, iV b1.Z.Hi, .bool b1.Z.Unknown], .agg #[iV b1.X.Lo, iV b1.X.Hi, .bool b1.X.Unknown, iV b1.Y.Lo, iV b1.Y.Hi, .bool b1.Y.Unknown, iV b1.Z.Lo, iV b1.Z.Hi, .bool b1.Z.Unknown], (j95 2), (j95 3), (j95 4), (j95 5), (j95 6), (j95 7), (j95 8), (j95 9), (j95 10), (j95 11), (j95 12), (j95 13), (j95 14), (j95 15), (j95 16), (j95 17), (j95 18), (j95 19), (j95 20), (j95 21), (j95 22), (j95 23), (j95 24), (j95 25), uV], []⟩ → K20 a_ W93 := by
  intro f91 j95 W93 a_ L92 hj99 HS94  hfr_; subst hfr_
  injection hj99 with hj99; subst hj99; try dsimp only at h
  simp only [Sum.elim_inr] at h
  refine hK21 _ _ ?_
  refine wp_seq_k fun K105 hK106 => rl ?_
  refine seqK rfl (does_run (run_loadN (n := 9) rfl Tryz.underlying81 rfl kr (kv (.pointer (some ⟨b14, 0, none⟩))) (cs := [.int .i64 b1.X.Lo, .int .i64 b1.X.Hi, .bool b1.X.Unknown, .int .i64 b1.Y.Lo, .int .i64 b1.Y.Hi, .bool b1.Y.Unknown, .int .i64 b1.Z.Lo, .int .i64 b1.Z.Hi, .bool b1.Z.Unknown]) rfl (HS94.cells 0 9 _ rfl)) ?_)
  have HS107 := HS94.u1
  refine seqK rfl (does_storeA (vs := [.int .i64 b1.X.Lo, .int .i64 b1.X.Hi, .bool b1.X.Unknown, .int .i64 b1.Y.Lo, .int .i64 b1.Y.Hi, .bool b1.Y.Unknown, .int .i64 b1.Z.Lo, .int .i64 b1.Z.Hi, .bool b1.Z.Unknown]) rfl kr kr kr rfl (ones rfl) HS107 kr ?_)
  intro W108 HS109
  refine seqL1 kr ?_
  refine nl (hK106 _ _ ?_)
  refine wp_ret ?_
  refine hret _ _ ?_
  refine ends (v := Value.tuple #[.agg #[.int .i64 b1.X.Lo, .int .i64 b1.X.Hi, .bool b1.X.Unknown, .int .i64 b1.Y.Lo, .int .i64 b1.Y.Hi, .bool b1.Y.Unknown, .int .i64 b1.Z.Lo, .int .i64 b1.Z.Hi, .bool b1.Z.Unknown], .bool true]) (results2 (q1 := .cell 2 81) (q2 := .tmp 3) kr (resN (n := 9) (cs := [.int .i64 b1.X.Lo, .int .i64 b1.X.Hi, .bool b1.X.Unknown, .int .i64 b1.Y.Lo, .int .i64 b1.Y.Hi, .bool b1.Y.Unknown, .int .i64 b1.Z.Lo, .int .i64 b1.Z.Hi, .bool b1.Z.Unknown]) (kv (.pointer (some ⟨b8, 0, none⟩))) Tryz.underlying81 rfl kr rfl (HS109.cells 0 9 _ rfl)) (resT (kv (.bool true)))) kr ?_
  have HS126 := HS109.drop
  have HS127 := HS126.drop
  have HS128 := HS127.drop
  injection h with h
  injection h with h0_ h
  subst h0_ h
  exact ⟨f91, rfl, L92, HS128⟩
 clear h; have h := hv96; clear hv96
 refine loopK (fun n_ a_ w_ => ∃ (f34 : FM) (x39 : Int) (j38 : Nat → Value), FM.le f f34 ∧ St t w_ f34 ([(b14, .cells #[.int .i64 b1.X.Lo, .int .i64 b1.X.Hi, .bool b1.X.Unknown, .int .i64 b1.Y.Lo, .int .i64 b1.Y.Hi, .bool b1.Y.Unknown, .int .i64 b1.Z.Lo, .int .i64 b1.Z.Hi, .bool b1.Z.Unknown] 81 (0, 0))] :: [(b8, .cells #[.int .i64 0, .int .i64 0, .bool false, .int .i64 0, .int .i64 0, .bool false, .int .i64 0, .int .i64 0, .bool false] 81 (0, 0))] :: [(b4, .cells #[.int .i64 b1.X.Lo, .int .i64 b1.X.Hi, .bool b1.X.Unknown, .int .i64 b1.Y.Lo, .int .i64 b1.Y.Hi, .bool b1.Y.Unknown, .int .i64 b1.Z.Lo, .int .i64 b1.Z.Hi, .bool b1.Z.Unknown] 31 (0, 0))] :: H) ∧ query_sides.l0 k b1 n_ x39 = some o30 ∧ a_ = ⟨#[(ag_Box b1), pV b4 0, pV b8 0, (j38 0), pV b14 0, uV, (j38 1), pV b4 0, (ag_Bound b1.X), pV b4 3, (ag_Bound b1.Y), pV b4 6, (ag_Bound b1.Z), .agg #[iV b1.X.Lo, iV b1.X.Hi, .bool b1.X.Unknown, iV b1.Y.Lo, iV b1.Y.Hi, .bool b1.Y.Unknown, iV b1.Z.Lo, iV b1.Z.Hi, .bool b1.Z.Unknown], .agg #[iV b1.X.Lo, iV b1.X.Hi, .bool b1.X.Unknown, iV b1.Y.Lo, iV b1.Y.Hi, .bool b1.Y.Unknown, iV b1.Z.Lo, iV b1.Z.Hi, .bool b1.Z.Unknown], iV x39, (j38 2), (j38 3), (j38 4), (j38 5), (j38 6), (j38 7), (j38 8), (j38 9), (j38 10), (j38 11), (j38 12), (j38 13), (j38 14), (j38 15), (j38 16), (j38 17), (j38 18), (j38 19), (j38 20), (j38 21), (j38 22), (j38 23), (j38 24), uV], []⟩) k ⟨f, 0, (jL [fV]), fL, HS19, h, kr⟩ ?_
 clear h
 rintro n33 _ W36 ⟨f34, x39, j38, L35, HS37, h, rfl⟩ K31 hK32
 obtain _ | n33 := n33
 · exact nomatch h
 simp only [query_sides.l0] at h
 refine wp_seq_k fun K40 hK41 => rl ?_
 refine seqL1 kr ?_
 refine nl (hK41 _ _ ?_)
 refine wp_seq_k (fun K42 hK43 => ?_)
 have hq_ := ite_some h; clear h; rcases hq_ with ⟨c45, h⟩ | ⟨c45, h⟩
 · have c45 : x39 < 3 := c45
   refine wpRwI 16 kr (decide_eq_true c45) ?_
   refine condT kr ?_
   refine wp_skip ?_
   refine hK43 _ _ ?_
   refine wp_seq_k (fun K46 hK47 => ?_)
   refine blockK (fun B48 hx49 hn50 hr51 ho52 hp53 => ?_)
   refine wp_seq_k fun K55 hK56 => rl ?_
   have hq_ := guard_some h; clear h; obtain ⟨c57, h⟩ := hq_
   have c57 : 0 ≤ x39 := c57
   refine seqK rfl (does_run (run_arr_agg (e := ty_Bound) (f := fun _ => none) (xs := [b1.X, b1.Y, b1.Z]) (fun x_ => [Value.int .i64 x_.Lo, Value.int .i64 x_.Hi, Value.bool x_.Unknown]) (fun _ _ h_ => h_) rfl Tryz.underlying81 kr Tryz.underlying29 rfl (kv (.agg #[.int .i64 b1.X.Lo, .int .i64 b1.X.Hi, .bool b1.X.Unknown, .int .i64 b1.Y.Lo, .int .i64 b1.Y.Hi, .bool b1.Y.Unknown, .int .i64 b1.Z.Lo, .int .i64 b1.Z.Hi, .bool b1.Z.Unknown])) (kv (.int .i64 x39)) ⟨[Value.int .i64 b1.X.Lo, Value.int .i64 b1.X.Hi, Value.bool b1.X.Unknown], _, rfl, rfl, ⟨[Value.int .i64 b1.Y.Lo, Value.int .i64 b1.Y.Hi, Value.bool b1.Y.Unknown], _, rfl, rfl, ⟨[Value.int .i64 b1.Z.Lo, Value.int .i64 b1.Z.Hi, Value.bool b1.Z.Unknown], _, rfl, rfl, rfl⟩⟩⟩ c57 c45 rfl W36) ?_)
   refine seqK rfl (does_alloc (z := Value.agg #[.int .i64 0, .int .i64 0, .bool false]) (cs := #[.int .i64 0, .int .i64 0, .bool false]) rfl kr rfl HS37 ?_)
   intro b58 W59 HS60
   refine seqK rfl (does_storeA (vs := [.int .i64 ((rd [b1.X, b1.Y, b1.Z] x39).Lo), .int .i64 ((rd [b1.X, b1.Y, b1.Z] x39).Hi), .bool ((rd [b1.X, b1.Y, b1.Z] x39).Unknown)]) rfl kr kr kr rfl (ones rfl) HS60 kr ?_)
   intro W62 HS63
   refine nl (hK56 _ _ ?_)
   refine wp_seq_k fun K64 hK65 => rl ?_
   refine seqL1 kr ?_
   refine seqK rfl (does_run (run_load rfl Tryz.underlying4 rfl (kv (.pointer (some ⟨b58, 2, none⟩))) (HS63.cell 2)) ?_)
   refine seqL1 kr ?_
   have hq_ := ite_some h; clear h; rcases hq_ with ⟨c66, h⟩ | ⟨c66, h⟩
   · have c66 : ((rd [b1.X, b1.Y, b1.Z] x39).Unknown) = true := c66
     refine seqRwI 19 kr c66 ?_
     refine seqRwI 20 kr c66 ?_
     refine seqL16 kr ?_
     refine nl (hK65 _ _ ?_)
     refine condT kr ?_
     refine wp_seq_k fun K67 hK68 => rl ?_
     refine seqK rfl (does_run (run_loadN (n := 9) rfl Tryz.underlying81 rfl kr (kv (.pointer (some ⟨b14, 0, none⟩))) (cs := [.int .i64 b1.X.Lo, .int .i64 b1.X.Hi, .bool b1.X.Unknown, .int .i64 b1.Y.Lo, .int .i64 b1.Y.Hi, .bool b1.Y.Unknown, .int .i64 b1.Z.Lo, .int .i64 b1.Z.Hi, .bool b1.Z.Unknown]) rfl (HS63.u1.cells 0 9 _ rfl)) ?_)
     have HS69 := HS63.u2
     refine seqK rfl (does_storeA (vs := [.int .i64 b1.X.Lo, .int .i64 b1.X.Hi, .bool b1.X.Unknown, .int .i64 b1.Y.Lo, .int .i64 b1.Y.Hi, .bool b1.Y.Unknown, .int .i64 b1.Z.Lo, .int .i64 b1.Z.Hi, .bool b1.Z.Unknown]) rfl kr kr kr rfl (ones rfl) HS69 kr ?_)
     intro W70 HS71
     refine seqL1 kr ?_
     refine nl (hK68 _ _ ?_)
     refine wp_ret ?_
     refine hr51 _ _ ?_
     refine hr27 _ _ ?_
     refine hret _ _ ?_
     refine ends (v := Value.tuple #[.agg #[.int .i64 b1.X.Lo, .int .i64 b1.X.Hi, .bool b1.X.Unknown, .int .i64 b1.Y.Lo, .int .i64 b1.Y.Hi, .bool b1.Y.Unknown, .int .i64 b1.Z.Lo, .int .i64 b1.Z.Hi, .bool b1.Z.Unknown], .bool false]) (results2 (q1 := .cell 2 81) (q2 := .tmp 3) kr (resN (n := 9) (cs := [.int .i64 b1.X.Lo, .int .i64 b1.X.Hi, .bool b1.X.Unknown, .int .i64 b1.Y.Lo, .int .i64 b1.Y.Hi, .bool b1.Y.Unknown, .int .i64 b1.Z.Lo, .int .i64 b1.Z.Hi, .bool b1.Z.Unknown]) (kv (.pointer (some ⟨b8, 0, none⟩))) Tryz.underlying81 rfl kr rfl (HS71.cells 0 9 _ rfl)) (resT (kv (.bool false)))) kr ?_
     have HS110 := HS71.drop
     have HS111 := HS110.drop
     have HS112 := HS111.drop
     have HS113 := HS112.drop
     replace h := JR98 _ h
     injection h with h
     injection h with h0_ h
     subst h0_ h
     exact ⟨f34, rfl, L35, HS113⟩
   · have c66 : ¬ (((rd [b1.X, b1.Y, b1.Z] x39).Unknown) = true) := c66
     refine seqRwI 19 kr (Bool.eq_false_iff.mpr c66) ?_
     refine seqRwI 20 kr (Bool.eq_false_iff.mpr c66) ?_
     refine seqL1 kr ?_
     refine seqG kr (does_run (run_load rfl Tryz.underlying27 rfl (kv (.pointer (some ⟨b58, 0, none⟩))) (HS63.cell 0)) ?_)
     refine seqL1 kr ?_
     refine seqG kr (does_run (run_load rfl Tryz.underlying27 rfl (kv (.pointer (some ⟨b58, 1, none⟩))) (HS63.cell 1)) ?_)
     refine seqL3 kr ?_
     have hq_ := ite_some h; clear h; rcases hq_ with ⟨c72, h⟩ | ⟨c72, h⟩
     · have c72 : ((rd [b1.X, b1.Y, b1.Z] x39).Lo) > ((rd [b1.X, b1.Y, b1.Z] x39).Hi) := c72
       refine seqRwI 25 kr (decide_eq_true c72) ?_
       refine seqRwI 26 kr (decide_eq_true c72) ?_
       refine seqRwI 27 kr (decide_eq_true c72) ?_
       refine seqL9 kr ?_
       refine nl (hK65 _ _ ?_)
       refine condT kr ?_
       refine wp_seq_k fun K73 hK74 => rl ?_
       refine seqK rfl (does_run (run_loadN (n := 9) rfl Tryz.underlying81 rfl kr (kv (.pointer (some ⟨b14, 0, none⟩))) (cs := [.int .i64 b1.X.Lo, .int .i64 b1.X.Hi, .bool b1.X.Unknown, .int .i64 b1.Y.Lo, .int .i64 b1.Y.Hi, .bool b1.Y.Unknown, .int .i64 b1.Z.Lo, .int .i64 b1.Z.Hi, .bool b1.Z.Unknown]) rfl (HS63.u1.cells 0 9 _ rfl)) ?_)
       have HS75 := HS63.u2
       refine seqK rfl (does_storeA (vs := [.int .i64 b1.X.Lo, .int .i64 b1.X.Hi, .bool b1.X.Unknown, .int .i64 b1.Y.Lo, .int .i64 b1.Y.Hi, .bool b1.Y.Unknown, .int .i64 b1.Z.Lo, .int .i64 b1.Z.Hi, .bool b1.Z.Unknown]) rfl kr kr kr rfl (ones rfl) HS75 kr ?_)
       intro W76 HS77
       refine seqL1 kr ?_
       refine nl (hK74 _ _ ?_)
       refine wp_ret ?_
       refine hr51 _ _ ?_
       refine hr27 _ _ ?_
       refine hret _ _ ?_
       refine ends (v := Value.tuple #[.agg #[.int .i64 b1.X.Lo, .int .i64 b1.X.Hi, .bool b1.X.Unknown, .int .i64 b1.Y.Lo, .int .i64 b1.Y.Hi, .bool b1.Y.Unknown, .int .i64 b1.Z.Lo, .int .i64 b1.Z.Hi, .bool b1.Z.Unknown], .bool false]) (results2 (q1 := .cell 2 81) (q2 := .tmp 3) kr (resN (n := 9) (cs := [.int .i64 b1.X.Lo, .int .i64 b1.X.Hi, .bool b1.X.Unknown, .int .i64 b1.Y.Lo, .int .i64 b1.Y.Hi, .bool b1.Y.Unknown, .int .i64 b1.Z.Lo, .int .i64 b1.Z.Hi, .bool b1.Z.Unknown]) (kv (.pointer (some ⟨b8, 0, none⟩))) Tryz.underlying81 rfl kr rfl (HS77.cells 0 9 _ rfl)) (resT (kv (.bool false)))) kr ?_
       have HS114 := HS77.drop
       have HS115 := HS114.drop
       have HS116 := HS115.drop
       have HS117 := HS116.drop
       replace h := JR98 _ h
       injection h with h
       injection h with h0_ h
       subst h0_ h
       exact ⟨f34, rfl, L35, HS117⟩
     · have c72 : ¬ (((rd [b1.X, b1.Y, b1.Z] x39).Lo) > ((rd [b1.X, b1.Y, b1.Z] x39).Hi)) := c72
       refine seqRwI 25 kr (decide_eq_false c72) ?_
       refine seqRwI 26 kr (decide_eq_false c72) ?_
       refine seqRwI 27 kr (decide_eq_false c72) ?_
       refine seqL1 kr ?_
       refine seqG kr (does_run (run_load rfl Tryz.underlying27 rfl (kv (.pointer (some ⟨b58, 0, none⟩))) (HS63.cell 0)) ?_)
       refine seqL3 kr ?_
       have hq_ := ite_some h; clear h; rcases hq_ with ⟨c78, h⟩ | ⟨c78, h⟩
       · have c78 : ((rd [b1.X, b1.Y, b1.Z] x39).Lo) < (-1073741824) := c78
         refine seqRwI 30 kr (decide_eq_true c78) ?_
         refine seqRwI 31 kr (decide_eq_true c78) ?_
         refine seqRwI 32 kr (decide_eq_true c78) ?_
         refine seqL4 kr ?_
         refine nl (hK65 _ _ ?_)
         refine condT kr ?_
         refine wp_seq_k fun K79 hK80 => rl ?_
         refine seqK rfl (does_run (run_loadN (n := 9) rfl Tryz.underlying81 rfl kr (kv (.pointer (some ⟨b14, 0, none⟩))) (cs := [.int .i64 b1.X.Lo, .int .i64 b1.X.Hi, .bool b1.X.Unknown, .int .i64 b1.Y.Lo, .int .i64 b1.Y.Hi, .bool b1.Y.Unknown, .int .i64 b1.Z.Lo, .int .i64 b1.Z.Hi, .bool b1.Z.Unknown]) rfl (HS63.u1.cells 0 9 _ rfl)) ?_)
         have HS81 := HS63.u2
         refine seqK rfl (does_storeA (vs := [.int .i64 b1.X.Lo, .int .i64 b1.X.Hi, .bool b1.X.Unknown, .int .i64 b1.Y.Lo, .int .i64 b1.Y.Hi, .bool b1.Y.Unknown, .int .i64 b1.Z.Lo, .int .i64 b1.Z.Hi, .bool b1.Z.Unknown]) rfl kr kr kr rfl (ones rfl) HS81 kr ?_)
         intro W82 HS83
         refine seqL1 kr ?_
         refine nl (hK80 _ _ ?_)
         refine wp_ret ?_
         refine hr51 _ _ ?_
         refine hr27 _ _ ?_
         refine hret _ _ ?_
         refine ends (v := Value.tuple #[.agg #[.int .i64 b1.X.Lo, .int .i64 b1.X.Hi, .bool b1.X.Unknown, .int .i64 b1.Y.Lo, .int .i64 b1.Y.Hi, .bool b1.Y.Unknown, .int .i64 b1.Z.Lo, .int .i64 b1.Z.Hi, .bool b1.Z.Unknown], .bool false]) (results2 (q1 := .cell 2 81) (q2 := .tmp 3) kr (resN (n := 9) (cs := [.int .i64 b1.X.Lo, .int .i64 b1.X.Hi, .bool b1.X.Unknown, .int .i64 b1.Y.Lo, .int .i64 b1.Y.Hi, .bool b1.Y.Unknown, .int .i64 b1.Z.Lo, .int .i64 b1.Z.Hi, .bool b1.Z.Unknown]) (kv (.pointer (some ⟨b8, 0, none⟩))) Tryz.underlying81 rfl kr rfl (HS83.cells 0 9 _ rfl)) (resT (kv (.bool false)))) kr ?_
         have HS118 := HS83.drop
         have HS119 := HS118.drop
         have HS120 := HS119.drop
         have HS121 := HS120.drop
         replace h := JR98 _ h
         injection h with h
         injection h with h0_ h
         subst h0_ h
         exact ⟨f34, rfl, L35, HS121⟩
       · have c78 : ¬ (((rd [b1.X, b1.Y, b1.Z] x39).Lo) < (-1073741824)) := c78
         refine seqRwI 30 kr (decide_eq_false c78) ?_
         refine seqRwI 31 kr (decide_eq_false c78) ?_
         refine seqRwI 32 kr (decide_eq_false c78) ?_
         refine seqL1 kr ?_
         refine seqG kr (does_run (run_load rfl Tryz.underlying27 rfl (kv (.pointer (some ⟨b58, 1, none⟩))) (HS63.cell 1)) ?_)
         refine seqL2 kr ?_
         refine nl (hK65 _ _ ?_)
         have hq_ := ite_some h; clear h; rcases hq_ with ⟨c85, h⟩ | ⟨c85, h⟩
         · have c85 : ((rd [b1.X, b1.Y, b1.Z] x39).Hi) > 1073741824 := c85
           refine wpRwI 35 kr (decide_eq_true c85) ?_
           refine wpRwI 36 kr (decide_eq_true c85) ?_
           refine condT kr ?_
           refine wp_seq_k fun K86 hK87 => rl ?_
           refine seqK rfl (does_run (run_loadN (n := 9) rfl Tryz.underlying81 rfl kr (kv (.pointer (some ⟨b14, 0, none⟩))) (cs := [.int .i64 b1.X.Lo, .int .i64 b1.X.Hi, .bool b1.X.Unknown, .int .i64 b1.Y.Lo, .int .i64 b1.Y.Hi, .bool b1.Y.Unknown, .int .i64 b1.Z.Lo, .int .i64 b1.Z.Hi, .bool b1.Z.Unknown]) rfl (HS63.u1.cells 0 9 _ rfl)) ?_)
           have HS88 := HS63.u2
           refine seqK rfl (does_storeA (vs := [.int .i64 b1.X.Lo, .int .i64 b1.X.Hi, .bool b1.X.Unknown, .int .i64 b1.Y.Lo, .int .i64 b1.Y.Hi, .bool b1.Y.Unknown, .int .i64 b1.Z.Lo, .int .i64 b1.Z.Hi, .bool b1.Z.Unknown]) rfl kr kr kr rfl (ones rfl) HS88 kr ?_)
           intro W89 HS90
           refine seqL1 kr ?_
           refine nl (hK87 _ _ ?_)
           refine wp_ret ?_
           refine hr51 _ _ ?_
           refine hr27 _ _ ?_
           refine hret _ _ ?_
           refine ends (v := Value.tuple #[.agg #[.int .i64 b1.X.Lo, .int .i64 b1.X.Hi, .bool b1.X.Unknown, .int .i64 b1.Y.Lo, .int .i64 b1.Y.Hi, .bool b1.Y.Unknown, .int .i64 b1.Z.Lo, .int .i64 b1.Z.Hi, .bool b1.Z.Unknown], .bool false]) (results2 (q1 := .cell 2 81) (q2 := .tmp 3) kr (resN (n := 9) (cs := [.int .i64 b1.X.Lo, .int .i64 b1.X.Hi, .bool b1.X.Unknown, .int .i64 b1.Y.Lo, .int .i64 b1.Y.Hi, .bool b1.Y.Unknown, .int .i64 b1.Z.Lo, .int .i64 b1.Z.Hi, .bool b1.Z.Unknown]) (kv (.pointer (some ⟨b8, 0, none⟩))) Tryz.underlying81 rfl kr rfl (HS90.cells 0 9 _ rfl)) (resT (kv (.bool false)))) kr ?_
           have HS122 := HS90.drop
           have HS123 := HS122.drop
           have HS124 := HS123.drop
           have HS125 := HS124.drop
           replace h := JR98 _ h
           injection h with h
           injection h with h0_ h
           subst h0_ h
           exact ⟨f34, rfl, L35, HS125⟩
         · have c85 : ¬ (((rd [b1.X, b1.Y, b1.Z] x39).Hi) > 1073741824) := c85
           refine wpRwI 35 kr (decide_eq_false c85) ?_
           refine wpRwI 36 kr (decide_eq_false c85) ?_
           refine condF kr ?_
           refine wp_skip ?_
           refine hn50 _ _ ?_
           refine hK47 _ _ ?_
           refine rl ?_
           refine seqL2 kr ?_
           refine nl ?_
           refine hK32 n33 _ _ (Nat.lt_succ_self _) ?_
           have HS103 := HS63.u3.u3.u3.u3
           have HS104 := HS103.drop
           exact ⟨f34, (w64 (x39 + 1)), (jL [(j38 0), .pointer (some ⟨b58, 0, none⟩), tV, (ag_Bound (rd [b1.X, b1.Y, b1.Z] x39)), .pointer (some ⟨b58, 2, none⟩), fV, fV, .pointer (some ⟨b58, 0, none⟩), iV ((rd [b1.X, b1.Y, b1.Z] x39).Lo), .pointer (some ⟨b58, 1, none⟩), iV ((rd [b1.X, b1.Y, b1.Z] x39).Hi), fV, fV, fV, .pointer (some ⟨b58, 0, none⟩), iV ((rd [b1.X, b1.Y, b1.Z] x39).Lo), fV, fV, fV, .pointer (some ⟨b58, 1, none⟩), iV ((rd [b1.X, b1.Y, b1.Z] x39).Hi), fV, fV, (j38 23), iV (w64 (x39 + 1))]), L35, HS104, h, kr⟩
 · have c45 : ¬ (x39 < 3) := c45
   refine wpRwI 16 kr (decide_eq_false c45) ?_
   refine condF kr ?_
   refine wp_exit ?_
   refine hx25 _ _ ?_
   exact J97 f34 (jL [(j38 0), (j38 1), iV x39, fV, (j38 3), (j38 4), (j38 5), (j38 6), (j38 7), (j38 8), (j38 9), (j38 10), (j38 11), (j38 12), (j38 13), (j38 14), (j38 15), (j38 16), (j38 17), (j38 18), (j38 19), (j38 20), (j38 21), (j38 22), (j38 23), (j38 24)]) W36 _ L35 h HS37 kr

set_option maxRecDepth 100000 in
set_option maxHeartbeats 4000000 in
theorem query_product.calls (k : Nat)  (a1 : S_Bound) (b2 : S_Bound) {t w : World} {f : FM} {H : List Seg} (HS : St t w f (H)) (rr1 : Int) (rr2 : Int) (h : query_product k a1 b2 = some (rr1, rr2)) :
    Calls Tryz.prog 32 #[.agg #[.int .i64 a1.Lo, .int .i64 a1.Hi, .bool a1.Unknown], .agg #[.int .i64 b2.Lo, .int .i64 b2.Hi, .bool b2.Unknown]] w (fun e w' => ∃ (g : FM), e = .returned (Value.tuple #[.int .i64 rr1, .int .i64 rr2]) ∧ FM.le f g ∧ St t w' g (H)) := by
 unfold query_product at h
 refine enter Tryz.func32 rfl (tm := #[(ag_Bound a1), (ag_Bound b2), uV, uV, uV, uV, uV, uV, uV, uV, uV, uV, uV, uV, uV, uV, uV, uV, uV, uV, uV, uV, uV, uV, uV, uV, uV, uV, uV, uV, uV, uV, uV, uV, uV, uV, uV, uV, uV, uV]) kr ?_
 intro B hret hnor hnp
 refine wp_seq_k fun K3 hK4 => rl ?_
 refine seqK rfl (does_box (cs := #[.int .i64 a1.Lo, .int .i64 a1.Hi, .bool a1.Unknown]) rfl (kv (.agg #[.int .i64 a1.Lo, .int .i64 a1.Hi, .bool a1.Unknown])) rfl HS ?_)
 intro b5 W6 HS7
 refine seqK rfl (does_box (cs := #[.int .i64 b2.Lo, .int .i64 b2.Hi, .bool b2.Unknown]) rfl (kv (.agg #[.int .i64 b2.Lo, .int .i64 b2.Hi, .bool b2.Unknown])) rfl HS7 ?_)
 intro b9 W10 HS11
 refine seqL2 kr ?_
 refine nl (hK4 _ _ ?_)
 refine wp_seq_k (fun K13 hK14 => ?_)
 refine heldG (S := Sg t f ([(b9, .cells #[.int .i64 b2.Lo, .int .i64 b2.Hi, .bool b2.Unknown] 29 (0, 0))] :: [(b5, .cells #[.int .i64 a1.Lo, .int .i64 a1.Hi, .bool a1.Unknown] 29 (0, 0))] :: H) []) (n := 12) kr rfl HS11 ?_
 intro W15 HS16
 refine takeGL [0] (n := 12) (fuel := 11) #[true, false, false, false, false, false, false, false, false, false, false, false] rfl kr kr kr hnp (Sg.g0 (Sx.of [] fL HS16)) ?_
 refine takeGQ 1 [] rfl kr kr kr kr kr kr hnp (Sg.g0 (Sx.of [] fL HS16)) (fun w_ hw_ => by obtain ⟨g_, hl_, hS_⟩ := hw_.st; exact run_load rfl Tryz.underlying27 rfl (kv (.pointer (some ⟨b5, 0, none⟩))) (hS_.u1.cell 0)) ?_
 refine takeGL [2] (n := 10) (fuel := 9) #[true, true, true, false, false, false, false, false, false, false, false, false] rfl kr kr kr hnp (Sg.g0 (Sx.of [] fL HS16)) ?_
 refine takeGQ 3 [] rfl kr kr kr kr kr kr hnp (Sg.g0 (Sx.of [] fL HS16)) (fun w_ hw_ => by obtain ⟨g_, hl_, hS_⟩ := hw_.st; exact run_load rfl Tryz.underlying27 rfl (kv (.pointer (some ⟨b9, 0, none⟩))) (hS_.cell 0)) ?_
 refine takeGL [4, 5] (n := 8) (fuel := 6) #[true, true, true, true, true, true, false, false, false, false, false, false] rfl kr kr kr hnp (Sg.g0 (Sx.of [] fL HS16)) ?_
 refine takeGQ 6 [] rfl kr kr kr kr kr kr hnp (Sg.g0 (Sx.of [] fL HS16)) (fun w_ hw_ => by obtain ⟨g_, hl_, hS_⟩ := hw_.st; exact run_load rfl Tryz.underlying27 rfl (kv (.pointer (some ⟨b5, 0, none⟩))) (hS_.u1.cell 0)) ?_
 refine takeGL [7] (n := 5) (fuel := 4) #[true, true, true, true, true, true, true, true, false, false, false, false] rfl kr kr kr hnp (Sg.g0 (Sx.of [] fL HS16)) ?_
 refine takeGQ 8 [] rfl kr kr kr kr kr kr hnp (Sg.g0 (Sx.of [] fL HS16)) (fun w_ hw_ => by obtain ⟨g_, hl_, hS_⟩ := hw_.st; exact run_load rfl Tryz.underlying27 rfl (kv (.pointer (some ⟨b9, 1, none⟩))) (hS_.cell 1)) ?_
 refine takeGL [9, 10, 11] (n := 3) (fuel := 0) #[true, true, true, true, true, true, true, true, true, true, true, true] rfl kr kr kr hnp (Sg.g0 (Sx.of [] fL HS16)) ?_
 refine doneG kr ?_ _
 refine hK14 _ _ ?_
 refine wp_seq_k (fun K17 hK18 => ?_)
 refine heldG (S := Sg t f ([(b9, .cells #[.int .i64 b2.Lo, .int .i64 b2.Hi, .bool b2.Unknown] 29 (0, 0))] :: [(b5, .cells #[.int .i64 a1.Lo, .int .i64 a1.Hi, .bool a1.Unknown] 29 (0, 0))] :: H) []) (n := 12) kr rfl HS16 ?_
 intro W19 HS20
 refine takeGL [0] (n := 12) (fuel := 11) #[true, false, false, false, false, false, false, false, false, false, false, false] rfl kr kr kr hnp (Sg.g0 (Sx.of [] fL HS20)) ?_
 refine takeGQ 1 [] rfl kr kr kr kr kr kr hnp (Sg.g0 (Sx.of [] fL HS20)) (fun w_ hw_ => by obtain ⟨g_, hl_, hS_⟩ := hw_.st; exact run_load rfl Tryz.underlying27 rfl (kv (.pointer (some ⟨b5, 1, none⟩))) (hS_.u1.cell 1)) ?_
 refine takeGL [2] (n := 10) (fuel := 9) #[true, true, true, false, false, false, false, false, false, false, false, false] rfl kr kr kr hnp (Sg.g0 (Sx.of [] fL HS20)) ?_
 refine takeGQ 3 [] rfl kr kr kr kr kr kr hnp (Sg.g0 (Sx.of [] fL HS20)) (fun w_ hw_ => by obtain ⟨g_, hl_, hS_⟩ := hw_.st; exact run_load rfl Tryz.underlying27 rfl (kv (.pointer (some ⟨b9, 0, none⟩))) (hS_.cell 0)) ?_
 refine takeGL [4, 5] (n := 8) (fuel := 6) #[true, true, true, true, true, true, false, false, false, false, false, false] rfl kr kr kr hnp (Sg.g0 (Sx.of [] fL HS20)) ?_
 refine takeGQ 6 [] rfl kr kr kr kr kr kr hnp (Sg.g0 (Sx.of [] fL HS20)) (fun w_ hw_ => by obtain ⟨g_, hl_, hS_⟩ := hw_.st; exact run_load rfl Tryz.underlying27 rfl (kv (.pointer (some ⟨b5, 1, none⟩))) (hS_.u1.cell 1)) ?_
 refine takeGL [7] (n := 5) (fuel := 4) #[true, true, true, true, true, true, true, true, false, false, false, false] rfl kr kr kr hnp (Sg.g0 (Sx.of [] fL HS20)) ?_
 refine takeGQ 8 [] rfl kr kr kr kr kr kr hnp (Sg.g0 (Sx.of [] fL HS20)) (fun w_ hw_ => by obtain ⟨g_, hl_, hS_⟩ := hw_.st; exact run_load rfl Tryz.underlying27 rfl (kv (.pointer (some ⟨b9, 1, none⟩))) (hS_.cell 1)) ?_
 refine takeGL [9, 10, 11] (n := 3) (fuel := 0) #[true, true, true, true, true, true, true, true, true, true, true, true] rfl kr kr kr hnp (Sg.g0 (Sx.of [] fL HS20)) ?_
 refine doneG kr ?_ _
 refine hK18 _ _ ?_
 refine wp_seq_k fun K21 hK22 => rl ?_
 refine seqL12 kr ?_
 refine nl (hK22 _ _ ?_)
 refine wp_ret ?_
 refine hret _ _ ?_
 refine ends_still (v := Value.tuple #[.int .i64 (mn (mn (mn (w64 (a1.Lo * b2.Lo)) (w64 (a1.Lo * b2.Hi))) (w64 (a1.Hi * b2.Lo))) (w64 (a1.Hi * b2.Hi))), .int .i64 (mx (mx (mx (w64 (a1.Lo * b2.Lo)) (w64 (a1.Lo * b2.Hi))) (w64 (a1.Hi * b2.Lo))) (w64 (a1.Hi * b2.Hi)))]) kr kr ?_
 have HS23 := HS20.drop
 have HS24 := HS23.drop
 injection h with h
 injection h with h0_ h
 subst h0_ h
 exact ⟨f, rfl, FM.le.refl _, HS24⟩

set_option maxRecDepth 100000 in
set_option maxHeartbeats 4000000 in
theorem query_square.calls (k : Nat)  (b1 : S_Bound) {t w : World} {f : FM} {H : List Seg} (HS : St t w f (H)) (rr1 : Int) (rr2 : Int) (h : query_square k b1 = some (rr1, rr2)) :
    Calls Tryz.prog 33 #[.agg #[.int .i64 b1.Lo, .int .i64 b1.Hi, .bool b1.Unknown]] w (fun e w' => ∃ (g : FM), e = .returned (Value.tuple #[.int .i64 rr1, .int .i64 rr2]) ∧ FM.le f g ∧ St t w' g (H)) := by
 unfold query_square at h
 refine enter Tryz.func33 rfl (tm := #[(ag_Bound b1), uV, uV, uV, uV, uV, uV, uV, uV, uV, uV, uV, uV, uV, uV, uV, uV, uV, uV, uV, uV, uV, uV, uV, uV, uV, uV, uV, uV, uV, uV, uV]) kr ?_
 intro B hret hnor hnp
 refine wp_seq_k fun K2 hK3 => rl ?_
 refine seqK rfl (does_box (cs := #[.int .i64 b1.Lo, .int .i64 b1.Hi, .bool b1.Unknown]) rfl (kv (.agg #[.int .i64 b1.Lo, .int .i64 b1.Hi, .bool b1.Unknown])) rfl HS ?_)
 intro b4 W5 HS6
 refine seqL2 kr ?_
 refine nl (hK3 _ _ ?_)
 refine wp_seq_k (fun K8 hK9 => ?_)
 refine heldG (S := Sg t f ([(b4, .cells #[.int .i64 b1.Lo, .int .i64 b1.Hi, .bool b1.Unknown] 29 (0, 0))] :: H) []) (n := 6) kr rfl HS6 ?_
 intro W10 HS11
 refine takeGL [0] (n := 6) (fuel := 5) #[true, false, false, false, false, false] rfl kr kr kr hnp (Sg.g0 (Sx.of [] fL HS11)) ?_
 refine takeGQ 1 [] rfl kr kr kr kr kr kr hnp (Sg.g0 (Sx.of [] fL HS11)) (fun w_ hw_ => by obtain ⟨g_, hl_, hS_⟩ := hw_.st; exact run_load rfl Tryz.underlying27 rfl (kv (.pointer (some ⟨b4, 0, none⟩))) (hS_.cell 0)) ?_
 refine takeGL [2] (n := 4) (fuel := 3) #[true, true, true, false, false, false] rfl kr kr kr hnp (Sg.g0 (Sx.of [] fL HS11)) ?_
 refine takeGQ 3 [] rfl kr kr kr kr kr kr hnp (Sg.g0 (Sx.of [] fL HS11)) (fun w_ hw_ => by obtain ⟨g_, hl_, hS_⟩ := hw_.st; exact run_load rfl Tryz.underlying27 rfl (kv (.pointer (some ⟨b4, 1, none⟩))) (hS_.cell 1)) ?_
 refine takeGL [4, 5] (n := 2) (fuel := 0) #[true, true, true, true, true, true] rfl kr kr kr hnp (Sg.g0 (Sx.of [] fL HS11)) ?_
 refine doneG kr ?_ _
 refine hK9 _ _ ?_
 refine wp_seq_k fun K12 hK13 => rl ?_
 refine seqL8 kr ?_
 refine nl (hK13 _ _ ?_)
 refine wp_seq_k (fun K14 hK15 => ?_)
 refine wp_seq_k fun K16 hK17 => rl ?_
 refine seqL3 kr ?_
 have hq_ := ite_some h; clear h; rcases hq_ with ⟨c18, h⟩ | ⟨c18, h⟩
 · have c18 : b1.Lo > 0 := c18
   refine seqRwI 18 kr (decide_eq_true c18) ?_
   refine seqRwI 19 kr (decide_eq_true c18) ?_
   refine seqL3 kr ?_
   refine nl (hK17 _ _ ?_)
   refine condT kr ?_
   refine rl ?_
   refine seqL8 kr ?_
   refine nl (hK15 _ _ ?_)
   refine wp_seq_k fun K19 hK20 => rl ?_
   refine seqL4 kr ?_
   refine nl (hK20 _ _ ?_)
   refine wp_ret ?_
   refine hret _ _ ?_
   refine ends_still (v := Value.tuple #[.int .i64 (mn (w64 (b1.Lo * b1.Lo)) (w64 (b1.Hi * b1.Hi))), .int .i64 (mx (w64 (b1.Lo * b1.Lo)) (w64 (b1.Hi * b1.Hi)))]) kr kr ?_
   have HS27 := HS11.drop
   injection h with h
   injection h with h0_ h
   subst h0_ h
   exact ⟨f, rfl, FM.le.refl _, HS27⟩
 · have c18 : ¬ (b1.Lo > 0) := c18
   refine seqRwI 18 kr (decide_eq_false c18) ?_
   refine seqRwI 19 kr (decide_eq_false c18) ?_
   refine seqL3 kr ?_
   refine nl (hK17 _ _ ?_)
   have hq_ := ite_some h; clear h; rcases hq_ with ⟨c22, h⟩ | ⟨c22, h⟩
   · have c22 : b1.Hi < 0 := c22
     refine wpRwI 21 kr (decide_eq_true c22) ?_
     refine wpRwI 22 kr (decide_eq_true c22) ?_
     refine condT kr ?_
     refine rl ?_
     refine seqL8 kr ?_
     refine nl (hK15 _ _ ?_)
     refine wp_seq_k fun K23 hK24 => rl ?_
     refine seqL4 kr ?_
     refine nl (hK24 _ _ ?_)
     refine wp_ret ?_
     refine hret _ _ ?_
     refine ends_still (v := Value.tuple #[.int .i64 (mn (w64 (b1.Lo * b1.Lo)) (w64 (b1.Hi * b1.Hi))), .int .i64 (mx (w64 (b1.Lo * b1.Lo)) (w64 (b1.Hi * b1.Hi)))]) kr kr ?_
     have HS28 := HS11.drop
     injection h with h
     injection h with h0_ h
     subst h0_ h
     exact ⟨f, rfl, FM.le.refl _, HS28⟩
   · have c22 : ¬ (b1.Hi < 0) := c22
     refine wpRwI 21 kr (decide_eq_false c22) ?_
     refine wpRwI 22 kr (decide_eq_false c22) ?_
     refine condF kr ?_
     refine wp_skip ?_
     refine hK15 _ _ ?_
     refine wp_seq_k fun K25 hK26 => rl ?_
     refine seqL4 kr ?_
     refine nl (hK26 _ _ ?_)
     refine wp_ret ?_
     refine hret _ _ ?_
     refine ends_still (v := Value.tuple #[.int .i64 0, .int .i64 (mx (w64 (b1.Lo * b1.Lo)) (w64 (b1.Hi * b1.Hi)))]) kr kr ?_
     have HS29 := HS11.drop
     injection h with h
     injection h with h0_ h
     subst h0_ h
     exact ⟨f, rfl, FM.le.refl _, HS29⟩

set_option maxRecDepth 100000 in
set_option maxHeartbeats 4000000 in
theorem bits_Mul64.calls (k : Nat)  (x1 : Int) (y2 : Int) {t w : World} {f : FM} {H : List Seg} (HS : St t w f (H)) (rr1 : Int) (rr2 : Int) (h : bits_Mul64 k x1 y2 = some (rr1, rr2)) :
    Calls Tryz.prog 64 #[.int .u64 x1, .int .u64 y2] w (fun e w' => ∃ (g : FM), e = .returned (Value.tuple #[.int .u64 rr1, .int .u64 rr2]) ∧ FM.le f g ∧ St t w' g (H)) := by
 unfold bits_Mul64 at h
 refine enter Tryz.func64 rfl (tm := #[.int .u64 x1, .int .u64 y2, uV, uV, uV, uV, uV, uV, uV, uV, uV, uV, uV, uV, uV, uV, uV, uV, uV, uV, uV, uV, uV, uV, uV, uV, uV, uV, uV, uV, uV, uV, uV, uV, uV, uV, uV, uV, uV, uV, uV, uV, uV, uV, uV, uV, uV, uV, uV, uV, uV]) kr ?_
 intro B hret hnor hnp
 refine wp_seq_k fun K3 hK4 => rl ?_
 refine seqL2 kr ?_
 refine nl (hK4 _ _ ?_)
 refine wp_seq_k fun K5 hK6 => rl ?_
 refine seqL3 kr ?_
 refine nl (hK6 _ _ ?_)
 refine wp_seq_k fun K7 hK8 => rl ?_
 refine seqL3 kr ?_
 refine nl (hK8 _ _ ?_)
 refine wp_seq_k fun K9 hK10 => rl ?_
 refine seqL3 kr ?_
 refine nl (hK10 _ _ ?_)
 refine wp_seq_k fun K11 hK12 => rl ?_
 refine seqL3 kr ?_
 refine nl (hK12 _ _ ?_)
 refine wp_seq_k fun K13 hK14 => rl ?_
 refine seqL4 kr ?_
 refine nl (hK14 _ _ ?_)
 refine wp_seq_k fun K15 hK16 => rl ?_
 refine seqL7 kr ?_
 refine nl (hK16 _ _ ?_)
 refine wp_seq_k fun K17 hK18 => rl ?_
 refine seqL3 kr ?_
 refine nl (hK18 _ _ ?_)
 refine wp_seq_k fun K19 hK20 => rl ?_
 refine seqL3 kr ?_
 refine nl (hK20 _ _ ?_)
 refine wp_seq_k fun K21 hK22 => rl ?_
 refine seqL6 kr ?_
 refine nl (hK22 _ _ ?_)
 refine wp_seq_k fun K23 hK24 => rl ?_
 refine seqL9 kr ?_
 refine nl (hK24 _ _ ?_)
 refine wp_seq_k fun K25 hK26 => rl ?_
 refine seqL4 kr ?_
 refine nl (hK26 _ _ ?_)
 refine wp_ret ?_
 refine hret _ _ ?_
 refine ends_still (v := Value.tuple #[.int .u64 (u64 ((u64 ((u64 ((shr x1 32) * (shr y2 32))) + (shr (u64 ((u64 ((shr x1 32) * (Go.bits .and .u64 y2 4294967295))) + (shr (u64 ((Go.bits .and .u64 x1 4294967295) * (Go.bits .and .u64 y2 4294967295))) 32))) 32))) + (shr (u64 ((Go.bits .and .u64 (u64 ((u64 ((shr x1 32) * (Go.bits .and .u64 y2 4294967295))) + (shr (u64 ((Go.bits .and .u64 x1 4294967295) * (Go.bits .and .u64 y2 4294967295))) 32))) 4294967295) + (u64 ((Go.bits .and .u64 x1 4294967295) * (shr y2 32))))) 32))), .int .u64 (u64 (x1 * y2))]) kr kr ?_
 injection h with h
 injection h with h0_ h
 subst h0_ h
 exact ⟨f, rfl, FM.le.refl _, HS⟩

set_option maxRecDepth 100000 in
set_option maxHeartbeats 4000000 in
theorem num_SqrtMul.calls (k : Nat)  (a1 : Int) (b2 : Int) {t w : World} {f : FM} {H : List Seg} (HS : St t w f (H)) (rr1 : Int) (h : num_SqrtMul k a1 b2 = some rr1) :
    Calls Tryz.prog 34 #[.int .i64 a1, .int .i64 b2] w (fun e w' => ∃ (g : FM), e = .returned (Value.int .i64 rr1) ∧ FM.le f g ∧ St t w' g (H)) := by
 unfold num_SqrtMul at h
 refine enter Tryz.func34 rfl (tm := #[iV a1, iV b2, uV, uV, uV, uV, uV, uV, uV, uV, uV, uV, uV, uV, uV, uV, uV, uV, uV, uV, uV, uV, uV, uV, uV, uV, uV, uV, uV, uV, uV, uV, uV, uV, uV, uV, uV, uV, uV, uV, uV, uV, uV, uV, uV, uV, uV, uV, uV, uV, uV, uV, uV, uV, uV, uV, uV]) kr ?_
 intro B hret hnor hnp
 refine wp_seq_k fun K3 hK4 => rl ?_
 refine seqL1 kr ?_
 refine nl (hK4 _ _ ?_)
 refine wp_seq_k (fun K5 hK6 => ?_)
 refine wp_seq_k fun K7 hK8 => rl ?_
 refine seqL3 kr ?_
 have hq_ := ite_some h; clear h; rcases hq_ with ⟨c9, h⟩ | ⟨c9, h⟩
 · have c9 : a1 < 0 := c9
   refine seqRwI 12 kr (decide_eq_true c9) ?_
   refine seqRwI 13 kr (decide_eq_true c9) ?_
   refine seqL3 kr ?_
   refine nl (hK8 _ _ ?_)
   refine condT kr ?_
   refine wp_seq_k fun K10 hK11 => rl ?_
   refine seqL1 kr ?_
   refine nl (hK11 _ _ ?_)
   refine wp_ret ?_
   refine hret _ _ ?_
   refine ends_still (v := Value.int .i64 0) kr kr ?_
   injection h with h
   subst h
   exact ⟨f, rfl, FM.le.refl _, HS⟩
 · have c9 : ¬ (a1 < 0) := c9
   refine seqRwI 12 kr (decide_eq_false c9) ?_
   refine seqRwI 13 kr (decide_eq_false c9) ?_
   refine seqL3 kr ?_
   refine nl (hK8 _ _ ?_)
   have hq_ := ite_some h; clear h; rcases hq_ with ⟨c13, h⟩ | ⟨c13, h⟩
   · have c13 : b2 < 0 := c13
     refine wpRwI 15 kr (decide_eq_true c13) ?_
     refine wpRwI 16 kr (decide_eq_true c13) ?_
     refine condT kr ?_
     refine wp_seq_k fun K14 hK15 => rl ?_
     refine seqL1 kr ?_
     refine nl (hK15 _ _ ?_)
     refine wp_ret ?_
     refine hret _ _ ?_
     refine ends_still (v := Value.int .i64 0) kr kr ?_
     injection h with h
     subst h
     exact ⟨f, rfl, FM.le.refl _, HS⟩
   · have c13 : ¬ (b2 < 0) := c13
     refine wpRwI 15 kr (decide_eq_false c13) ?_
     refine wpRwI 16 kr (decide_eq_false c13) ?_
     refine condF kr ?_
     refine wp_skip ?_
     refine hK6 _ _ ?_
     refine wp_seq_k fun K16 hK17 => rl ?_
     have hq_ := bind_some h; clear h; obtain ⟨⟨vt18, vt19⟩, hc20, h⟩ := hq_
     refine seqL4 kr ?_
     refine seqK rfl (does_call (f := 64) (args := #[.int .u64 (u64 (a1)), .int .u64 (u64 (b2))]) kr (bits_Mul64.calls k (u64 (a1)) (u64 (b2)) HS vt18 vt19 hc20) ?_)
     rintro _ W23 ⟨f21, rfl, L22, HS24⟩
     refine ⟨_, rfl, ?_⟩
     refine seqL5 kr ?_
     refine nl (hK17 _ _ ?_)
     refine wp_seq_k fun K25 hK26 => rl ?_
     refine seqL1 kr ?_
     refine nl (hK26 _ _ ?_)
     refine wp_seq_k (fun K27 hK28 => ?_)
     refine wp_seq_k fun K29 hK30 => rl ?_
     refine seqL1 kr ?_
     refine nl (hK30 _ _ ?_)
     refine blockK (fun B31 hx32 hn33 hr34 ho35 hp36 => ?_)
     have hq_ := bind_some h; clear h; obtain ⟨o37, hv84, h⟩ := hq_
     have J85 : ∀ (f78 : FM) (r83 : Int) (j82 : Nat → Value) (W80 : World) (a_ : Act), FM.le f21 f78 → some (r83) = some o37 → St t W80 f78 (H) → a_ = ⟨#[iV a1, iV b2, uV, uV, iV 0, .int .u64 vt18, .int .u64 vt19, .int .u64 r83, (j82 0), (j82 1), (j82 2), iV a1, fV, fV, iV b2, fV, fV, .tuple #[.int .u64 vt18, .int .u64 vt19], iV a1, .int .u64 (u64 (a1)), iV b2, .int .u64 (u64 (b2)), .tuple #[.int .u64 vt18, .int .u64 vt19], .int .u64 vt18, .int .u64 vt19, (j82 3), (j82 4), (j82 5), (j82 6), (j82 7), (j82 8), (j82 9), (j82 10), (j82 11), (j82 12), (j82 13), (j82 14), (j82 15), (j82 16), (j82 17), (j82 18), (j82 19), (j82 20), (j82 21), (j82 22), (j82 23), (j82 24), (j82 25), (j82 26), (j82 27), (j82 28), (j82 29), (j82 30), (j82 31), (j82 32), uV, uV], []⟩ → K27 a_ W80 := by
      intro f78 r83 j82 W80 a_ L79 hj86 HS81  hfr_; subst hfr_
      injection hj86 with hj86; subst hj86; try dsimp only at h
      refine hK28 _ _ ?_
      refine wp_seq_k fun K87 hK88 => rl ?_
      refine seqL3 kr ?_
      refine nl (hK88 _ _ ?_)
      refine wp_ret ?_
      refine hret _ _ ?_
      refine ends_still (v := Value.int .i64 (w64 (r83))) kr kr ?_
      injection h with h
      subst h
      exact ⟨f78, rfl, (L22.trans L79), HS81⟩
     clear h; have h := hv84; clear hv84
     refine loopK (fun n_ a_ w_ => ∃ (f41 : FM) (r46 : Int) (bit47 : Int) (j45 : Nat → Value), FM.le f21 f41 ∧ St t w_ f41 (H) ∧ num_SqrtMul.l0 k vt18 vt19 n_ r46 bit47 = some o37 ∧ a_ = ⟨#[iV a1, iV b2, uV, uV, iV 0, .int .u64 vt18, .int .u64 vt19, .int .u64 r46, .int .u64 bit47, (j45 0), (j45 1), iV a1, fV, fV, iV b2, fV, fV, .tuple #[.int .u64 vt18, .int .u64 vt19], iV a1, .int .u64 (u64 (a1)), iV b2, .int .u64 (u64 (b2)), .tuple #[.int .u64 vt18, .int .u64 vt19], .int .u64 vt18, .int .u64 vt19, (j45 2), (j45 3), (j45 4), (j45 5), (j45 6), (j45 7), (j45 8), (j45 9), (j45 10), (j45 11), (j45 12), (j45 13), (j45 14), (j45 15), (j45 16), (j45 17), (j45 18), (j45 19), (j45 20), (j45 21), (j45 22), (j45 23), (j45 24), (j45 25), (j45 26), (j45 27), (j45 28), (j45 29), (j45 30), (j45 31), uV, uV], []⟩) k ⟨f21, 0, 4611686018427387904, (jL []), fL, HS24, h, kr⟩ ?_
     clear h
     rintro n40 _ W43 ⟨f41, r46, bit47, j45, L42, HS44, h, rfl⟩ K38 hK39
     obtain _ | n40 := n40
     · exact nomatch h
     simp only [num_SqrtMul.l0] at h
     refine wp_seq_k (fun K48 hK49 => ?_)
     refine wp_seq_k fun K50 hK51 => rl ?_
     refine seqL2 kr ?_
     refine nl (hK51 _ _ ?_)
     have hq_ := ite_some h; clear h; rcases hq_ with ⟨c53, h⟩ | ⟨c53, h⟩
     · have c53 : bit47 > 0 := c53
       refine wpRwI 26 kr (decide_eq_true c53) ?_
       refine condT kr ?_
       refine wp_skip ?_
       refine hK49 _ _ ?_
       refine wp_seq_k (fun K54 hK55 => ?_)
       refine blockK (fun B56 hx57 hn58 hr59 ho60 hp61 => ?_)
       refine wp_seq_k fun K63 hK64 => rl ?_
       have hq_ := bind_some h; clear h; obtain ⟨⟨vt65, vt66⟩, hc67, h⟩ := hq_
       refine seqL6 kr ?_
       refine seqK rfl (does_call (f := 64) (args := #[.int .u64 (Go.bits .or .u64 r46 bit47), .int .u64 (Go.bits .or .u64 r46 bit47)]) kr (bits_Mul64.calls k (Go.bits .or .u64 r46 bit47) (Go.bits .or .u64 r46 bit47) HS44 vt65 vt66 hc67) ?_)
       rintro _ W70 ⟨f68, rfl, L69, HS71⟩
       refine ⟨_, rfl, ?_⟩
       refine seqL5 kr ?_
       refine nl (hK64 _ _ ?_)
       refine wp_seq_k fun K72 hK73 => rl ?_
       refine seqL4 kr ?_
       have hq_ := ite_some h; clear h; rcases hq_ with ⟨c74, h⟩ | ⟨c74, h⟩
       · have c74 : vt65 < vt18 := c74
         refine seqRwI 41 kr (decide_eq_true c74) ?_
         refine seqRwI 42 kr (decide_eq_true c74) ?_
         refine seqL9 kr ?_
         refine nl (hK73 _ _ ?_)
         refine condT kr ?_
         refine rl ?_
         refine seqL4 kr ?_
         refine nl ?_
         refine hn58 _ _ ?_
         refine hK55 _ _ ?_
         refine rl ?_
         refine seqL3 kr ?_
         refine nl ?_
         refine hK39 n40 _ _ (Nat.lt_succ_self _) ?_
         exact ⟨f68, (Go.bits .or .u64 r46 bit47), (shr bit47 1), (jL [.int .u64 vt65, .int .u64 vt66, .int .u64 bit47, tV, .int .u64 bit47, .int .u64 (shr bit47 1), .tuple #[.int .u64 vt65, .int .u64 vt66], .int .u64 r46, .int .u64 bit47, .int .u64 (Go.bits .or .u64 r46 bit47), .int .u64 r46, .int .u64 bit47, .int .u64 (Go.bits .or .u64 r46 bit47), .tuple #[.int .u64 vt65, .int .u64 vt66], .int .u64 vt65, .int .u64 vt66, .int .u64 vt65, .int .u64 vt18, tV, tV, uV, uV, uV, uV, uV, uV, uV, uV, tV, .int .u64 r46, .int .u64 bit47, .int .u64 (Go.bits .or .u64 r46 bit47)]), (L42.trans L69), HS71, h, kr⟩
       · have c74 : ¬ (vt65 < vt18) := c74
         refine seqRwI 41 kr (decide_eq_false c74) ?_
         refine seqRwI 42 kr (decide_eq_false c74) ?_
         refine seqL4 kr ?_
         have hq_ := ite_some h; clear h; rcases hq_ with ⟨c75, h⟩ | ⟨c75, h⟩
         · have c75 : vt65 = vt18 := c75
           refine seqRwI 45 kr (beq_iff_eq.mpr c75) ?_
           refine seqRwI 46 kr (beq_iff_eq.mpr c75) ?_
           refine seqL5 kr ?_
           refine nl (hK73 _ _ ?_)
           have hq_ := ite_some h; clear h; rcases hq_ with ⟨c77, h⟩ | ⟨c77, h⟩
           · have c77 : vt66 ≤ vt19 := c77
             refine wpRwI 49 kr (decide_eq_true c77) ?_
             refine wpRwI 50 kr (decide_eq_true c77) ?_
             refine wpRwI 51 kr (decide_eq_true c77) ?_
             refine condT kr ?_
             refine rl ?_
             refine seqL4 kr ?_
             refine nl ?_
             refine hn58 _ _ ?_
             refine hK55 _ _ ?_
             refine rl ?_
             refine seqL3 kr ?_
             refine nl ?_
             refine hK39 n40 _ _ (Nat.lt_succ_self _) ?_
             exact ⟨f68, (Go.bits .or .u64 r46 bit47), (shr bit47 1), (jL [.int .u64 vt65, .int .u64 vt66, .int .u64 bit47, tV, .int .u64 bit47, .int .u64 (shr bit47 1), .tuple #[.int .u64 vt65, .int .u64 vt66], .int .u64 r46, .int .u64 bit47, .int .u64 (Go.bits .or .u64 r46 bit47), .int .u64 r46, .int .u64 bit47, .int .u64 (Go.bits .or .u64 r46 bit47), .tuple #[.int .u64 vt65, .int .u64 vt66], .int .u64 vt65, .int .u64 vt66, .int .u64 vt65, .int .u64 vt18, fV, fV, .int .u64 vt65, .int .u64 vt18, tV, tV, .int .u64 vt66, .int .u64 vt19, tV, tV, tV, .int .u64 r46, .int .u64 bit47, .int .u64 (Go.bits .or .u64 r46 bit47)]), (L42.trans L69), HS71, h, kr⟩
           · have c77 : ¬ (vt66 ≤ vt19) := c77
             refine wpRwI 49 kr (decide_eq_false c77) ?_
             refine wpRwI 50 kr (decide_eq_false c77) ?_
             refine wpRwI 51 kr (decide_eq_false c77) ?_
             refine condF kr ?_
             refine wp_skip ?_
             refine hn58 _ _ ?_
             refine hK55 _ _ ?_
             refine rl ?_
             refine seqL3 kr ?_
             refine nl ?_
             refine hK39 n40 _ _ (Nat.lt_succ_self _) ?_
             exact ⟨f68, r46, (shr bit47 1), (jL [.int .u64 vt65, .int .u64 vt66, .int .u64 bit47, tV, .int .u64 bit47, .int .u64 (shr bit47 1), .tuple #[.int .u64 vt65, .int .u64 vt66], .int .u64 r46, .int .u64 bit47, .int .u64 (Go.bits .or .u64 r46 bit47), .int .u64 r46, .int .u64 bit47, .int .u64 (Go.bits .or .u64 r46 bit47), .tuple #[.int .u64 vt65, .int .u64 vt66], .int .u64 vt65, .int .u64 vt66, .int .u64 vt65, .int .u64 vt18, fV, fV, .int .u64 vt65, .int .u64 vt18, tV, tV, .int .u64 vt66, .int .u64 vt19, fV, fV, fV, (j45 29), (j45 30), (j45 31)]), (L42.trans L69), HS71, h, kr⟩
         · have c75 : ¬ (vt65 = vt18) := c75
           refine seqRwI 45 kr (beq_eq_false_iff_ne.mpr c75) ?_
           refine seqRwI 46 kr (beq_eq_false_iff_ne.mpr c75) ?_
           refine seqL5 kr ?_
           refine nl (hK73 _ _ ?_)
           refine condF kr ?_
           refine wp_skip ?_
           refine hn58 _ _ ?_
           refine hK55 _ _ ?_
           refine rl ?_
           refine seqL3 kr ?_
           refine nl ?_
           refine hK39 n40 _ _ (Nat.lt_succ_self _) ?_
           exact ⟨f68, r46, (shr bit47 1), (jL [.int .u64 vt65, .int .u64 vt66, .int .u64 bit47, tV, .int .u64 bit47, .int .u64 (shr bit47 1), .tuple #[.int .u64 vt65, .int .u64 vt66], .int .u64 r46, .int .u64 bit47, .int .u64 (Go.bits .or .u64 r46 bit47), .int .u64 r46, .int .u64 bit47, .int .u64 (Go.bits .or .u64 r46 bit47), .tuple #[.int .u64 vt65, .int .u64 vt66], .int .u64 vt65, .int .u64 vt66, .int .u64 vt65, .int .u64 vt18, fV, fV, .int .u64 vt65, .int .u64 vt18, fV, fV, uV, uV, uV, fV, fV, (j45 29), (j45 30), (j45 31)]), (L42.trans L69), HS71, h, kr⟩
     · have c53 : ¬ (bit47 > 0) := c53
       refine wpRwI 26 kr (decide_eq_false c53) ?_
       refine condF kr ?_
       refine wp_exit ?_
       refine hx32 _ _ ?_
       exact J85 f41 r46 (jL [.int .u64 bit47, (j45 0), (j45 1), .int .u64 bit47, fV, (j45 4), (j45 5), (j45 6), (j45 7), (j45 8), (j45 9), (j45 10), (j45 11), (j45 12), (j45 13), (j45 14), (j45 15), (j45 16), (j45 17), (j45 18), (j45 19), (j45 20), (j45 21), (j45 22), (j45 23), (j45 24), (j45 25), (j45 26), (j45 27), (j45 28), (j45 29), (j45 30), (j45 31)]) W43 _ L42 h HS44 kr

set_option maxRecDepth 100000 in
set_option maxHeartbeats 4000000 in
theorem num_size.calls (k : Nat)  (a1 : Int) {t w : World} {f : FM} {H : List Seg} (HS : St t w f (H)) (rr1 : Int) (h : num_size k a1 = some rr1) :
    Calls Tryz.prog 65 #[.int .i64 a1] w (fun e w' => ∃ (g : FM), e = .returned (Value.int .u64 rr1) ∧ FM.le f g ∧ St t w' g (H)) := by
 unfold num_size at h
 refine enter Tryz.func65 rfl (tm := #[iV a1, uV, uV, uV, uV, uV, uV, uV, uV, uV]) kr ?_
 intro B hret hnor hnp
 refine wp_seq_k fun K2 hK3 => rl ?_
 refine seqL1 kr ?_
 refine nl (hK3 _ _ ?_)
 refine wp_seq_k (fun K4 hK5 => ?_)
 refine wp_seq_k fun K6 hK7 => rl ?_
 refine seqL2 kr ?_
 refine nl (hK7 _ _ ?_)
 have hq_ := ite_some h; clear h; rcases hq_ with ⟨c9, h⟩ | ⟨c9, h⟩
 · have c9 : a1 < 0 := c9
   refine wpRwI 4 kr (decide_eq_true c9) ?_
   refine condT kr ?_
   refine wp_seq_k fun K10 hK11 => rl ?_
   refine seqL4 kr ?_
   refine nl (hK11 _ _ ?_)
   refine wp_ret ?_
   refine hret _ _ ?_
   refine ends_still (v := Value.int .u64 (u64 (0 - (u64 (a1))))) kr kr ?_
   injection h with h
   subst h
   exact ⟨f, rfl, FM.le.refl _, HS⟩
 · have c9 : ¬ (a1 < 0) := c9
   refine wpRwI 4 kr (decide_eq_false c9) ?_
   refine condF kr ?_
   refine wp_skip ?_
   refine hK5 _ _ ?_
   refine wp_seq_k fun K12 hK13 => rl ?_
   refine seqL3 kr ?_
   refine nl (hK13 _ _ ?_)
   refine wp_ret ?_
   refine hret _ _ ?_
   refine ends_still (v := Value.int .u64 (u64 (a1))) kr kr ?_
   injection h with h
   subst h
   exact ⟨f, rfl, FM.le.refl _, HS⟩

set_option maxRecDepth 100000 in
set_option maxHeartbeats 4000000 in
theorem num_Wide_Neg.calls (k : Nat)  (vw1 : S_Wide) {t w : World} {f : FM} {H : List Seg} (HS : St t w f (H)) (rr1 : S_Wide) (h : num_Wide_Neg k vw1 = some rr1) :
    Calls Tryz.prog 66 #[.agg #[.int .i64 vw1.Hi, .int .u64 vw1.Lo]] w (fun e w' => ∃ (g : FM), e = .returned (Value.agg #[.int .i64 rr1.Hi, .int .u64 rr1.Lo]) ∧ FM.le f g ∧ St t w' g (H)) := by
 unfold num_Wide_Neg at h
 refine enter Tryz.func66 rfl (tm := #[.agg #[iV vw1.Hi, .int .u64 vw1.Lo], uV, uV, uV, uV, uV, uV, uV, uV, uV, uV, uV, uV, uV, uV, uV, uV, uV, uV, uV, uV, uV, uV, uV, uV, uV, uV]) kr ?_
 intro B hret hnor hnp
 refine wp_seq_k fun K2 hK3 => rl ?_
 refine seqK rfl (does_box (cs := #[.int .i64 vw1.Hi, .int .u64 vw1.Lo]) rfl (kv (.agg #[.int .i64 vw1.Hi, .int .u64 vw1.Lo])) rfl HS ?_)
 intro b4 W5 HS6
 refine seqK rfl (does_alloc (z := Value.agg #[.int .i64 0, .int .u64 0]) (cs := #[.int .i64 0, .int .u64 0]) rfl kr rfl HS6 ?_)
 intro b8 W9 HS10
 refine nl (hK3 _ _ ?_)
 refine wp_seq_k fun K12 hK13 => rl ?_
 refine seqL1 kr ?_
 refine seqK rfl (does_run (run_load rfl Tryz.underlying88 rfl (kv (.pointer (some ⟨b4, 1, none⟩))) (HS10.u1.cell 1)) ?_)
 have hq_ := guard_some h; clear h; obtain ⟨c14, h⟩ := hq_
 have c14 : 0 ≤ (Go.bits .xor .u64 IntKind.u64.max vw1.Lo) := c14
 refine seqL1 kr ?_
 refine seqK rfl (does_run (run_add64op (x := Go.bits .xor .u64 IntKind.u64.max vw1.Lo) (y := 1) (c := 0) kr Tryz.func91 kr kr kr kr c14 (by decide) (by decide) (by decide) W9) ?_)
 refine seqL5 kr ?_
 refine nl (hK13 _ _ ?_)
 refine wp_seq_k fun K15 hK16 => rl ?_
 refine seqL1 kr ?_
 refine seqK rfl (does_run (run_load rfl Tryz.underlying2 rfl (kv (.pointer (some ⟨b4, 0, none⟩))) (HS10.u1.cell 0)) ?_)
 have hq_ := guard_some h; clear h; obtain ⟨c17, h⟩ := hq_
 have c17 : 0 ≤ (Go.bits .xor .u64 IntKind.u64.max (u64 (vw1.Hi))) := c17
 have hq_ := guard_some h; clear h; obtain ⟨c18, h⟩ := hq_
 have c18 : 0 ≤ (((Go.bits .xor .u64 IntKind.u64.max vw1.Lo) + 1 + 0) / 18446744073709551616) := c18
 have hq_ := guard_some h; clear h; obtain ⟨c19, h⟩ := hq_
 have c19 : (((Go.bits .xor .u64 IntKind.u64.max vw1.Lo) + 1 + 0) / 18446744073709551616) ≤ 1 := c19
 refine seqL3 kr ?_
 refine seqK rfl (does_run (run_add64op (x := Go.bits .xor .u64 IntKind.u64.max (u64 (vw1.Hi))) (y := 0) (c := ((Go.bits .xor .u64 IntKind.u64.max vw1.Lo) + 1 + 0) / 18446744073709551616) kr Tryz.func91 kr kr kr kr c17 (by decide) c18 c19 W9) ?_)
 refine seqL5 kr ?_
 refine nl (hK16 _ _ ?_)
 refine wp_seq_k fun K20 hK21 => rl ?_
 refine seqL4 kr ?_
 refine seqK rfl (does_storeA (vs := [.int .i64 (w64 (((Go.bits .xor .u64 IntKind.u64.max (u64 (vw1.Hi))) + 0 + (((Go.bits .xor .u64 IntKind.u64.max vw1.Lo) + 1 + 0) / 18446744073709551616)) % 18446744073709551616)), .int .u64 (((Go.bits .xor .u64 IntKind.u64.max vw1.Lo) + 1 + 0) % 18446744073709551616)]) rfl kr kr kr rfl (ones rfl) HS10 kr ?_)
 intro W22 HS23
 refine nl (hK21 _ _ ?_)
 refine wp_ret ?_
 refine hret _ _ ?_
 refine ends (v := Value.agg #[.int .i64 (w64 (((Go.bits .xor .u64 IntKind.u64.max (u64 (vw1.Hi))) + 0 + (((Go.bits .xor .u64 IntKind.u64.max vw1.Lo) + 1 + 0) / 18446744073709551616)) % 18446744073709551616)), .int .u64 (((Go.bits .xor .u64 IntKind.u64.max vw1.Lo) + 1 + 0) % 18446744073709551616)]) (results1 (q1 := .cell 2 90) kr (resN (n := 2) (cs := [.int .i64 (w64 (((Go.bits .xor .u64 IntKind.u64.max (u64 (vw1.Hi))) + 0 + (((Go.bits .xor .u64 IntKind.u64.max vw1.Lo) + 1 + 0) / 18446744073709551616)) % 18446744073709551616)), .int .u64 (((Go.bits .xor .u64 IntKind.u64.max vw1.Lo) + 1 + 0) % 18446744073709551616)]) (kv (.pointer (some ⟨b8, 0, none⟩))) Tryz.underlying90 rfl kr rfl (HS23.cells 0 2 _ rfl))) kr ?_
 have HS24 := HS23.drop
 have HS25 := HS24.drop
 injection h with h
 subst h
 exact ⟨f, rfl, FM.le.refl _, HS25⟩

set_option maxRecDepth 100000 in
set_option maxHeartbeats 4000000 in
theorem num_Product.calls (k : Nat)  (a1 : Int) (b2 : Int) {t w : World} {f : FM} {H : List Seg} (HS : St t w f (H)) (rr1 : S_Wide) (h : num_Product k a1 b2 = some rr1) :
    Calls Tryz.prog 35 #[.int .i64 a1, .int .i64 b2] w (fun e w' => ∃ (g : FM), e = .returned (Value.agg #[.int .i64 rr1.Hi, .int .u64 rr1.Lo]) ∧ FM.le f g ∧ St t w' g (H)) := by
 unfold num_Product at h
 refine enter Tryz.func35 rfl (tm := #[iV a1, iV b2, uV, uV, uV, uV, uV, uV, uV, uV, uV, uV, uV, uV, uV, uV, uV, uV, uV, uV, uV, uV, uV, uV, uV, uV, uV, uV]) kr ?_
 intro B hret hnor hnp
 refine wp_seq_k fun K3 hK4 => rl ?_
 refine seqK rfl (does_alloc (z := Value.agg #[.int .i64 0, .int .u64 0]) (cs := #[.int .i64 0, .int .u64 0]) rfl kr rfl HS ?_)
 intro b5 W6 HS7
 refine nl (hK4 _ _ ?_)
 refine wp_seq_k fun K9 hK10 => rl ?_
 have hq_ := bind_some h; clear h; obtain ⟨vt11, hc12, h⟩ := hq_
 refine seqL1 kr ?_
 refine seqK rfl (does_call (f := 65) (args := #[.int .i64 a1]) kr (num_size.calls k a1 HS7 vt11 hc12) ?_)
 rintro _ W15 ⟨f13, rfl, L14, HS16⟩
 refine ⟨_, rfl, ?_⟩
 have hq_ := bind_some h; clear h; obtain ⟨vt17, hc18, h⟩ := hq_
 refine seqL1 kr ?_
 refine seqK rfl (does_call (f := 65) (args := #[.int .i64 b2]) kr (num_size.calls k b2 HS16 vt17 hc18) ?_)
 rintro _ W21 ⟨f19, rfl, L20, HS22⟩
 refine ⟨_, rfl, ?_⟩
 have hq_ := bind_some h; clear h; obtain ⟨⟨vt23, vt24⟩, hc25, h⟩ := hq_
 refine seqK rfl (does_call (f := 64) (args := #[.int .u64 vt11, .int .u64 vt17]) kr (bits_Mul64.calls k vt11 vt17 HS22 vt23 vt24 hc25) ?_)
 rintro _ W28 ⟨f26, rfl, L27, HS29⟩
 refine ⟨_, rfl, ?_⟩
 refine seqL5 kr ?_
 refine nl (hK10 _ _ ?_)
 refine wp_seq_k fun K30 hK31 => rl ?_
 refine seqL4 kr ?_
 refine seqK rfl (does_alloc (z := Value.agg #[.int .i64 0, .int .u64 0]) (cs := #[.int .i64 0, .int .u64 0]) rfl kr rfl HS29 ?_)
 intro b32 W33 HS34
 refine seqK rfl (does_storeA (vs := [.int .i64 (w64 (vt23)), .int .u64 vt24]) rfl kr kr kr rfl (ones rfl) HS34 kr ?_)
 intro W36 HS37
 refine nl (hK31 _ _ ?_)
 refine wp_seq_k (fun K38 hK39 => ?_)
 refine wp_seq_k fun K40 hK41 => rl ?_
 refine seqL5 kr ?_
 refine nl (hK41 _ _ ?_)
 have hq_ := ite_some h; clear h; rcases hq_ with ⟨c43, h⟩ | ⟨c43, h⟩
 · have c43 : ((decide (a1 < 0)) != (decide (b2 < 0))) = true := c43
   refine wpRwI 24 kr c43 ?_
   refine condT kr ?_
   refine wp_seq_k fun K44 hK45 => rl ?_
   refine seqK rfl (does_run (run_loadN (n := 2) rfl Tryz.underlying90 rfl kr (kv (.pointer (some ⟨b32, 0, none⟩))) (cs := [.int .i64 (w64 (vt23)), .int .u64 vt24]) rfl (HS37.cells 0 2 _ rfl)) ?_)
   have hq_ := bind_some h; clear h; obtain ⟨vt46, hc47, h⟩ := hq_
   refine seqK rfl (does_call (f := 66) (args := #[.agg #[.int .i64 (w64 (vt23)), .int .u64 vt24]]) kr (num_Wide_Neg.calls k (⟨w64 (vt23), vt24⟩ : S_Wide) HS37 vt46 hc47) ?_)
   rintro _ W50 ⟨f48, rfl, L49, HS51⟩
   refine ⟨_, rfl, ?_⟩
   have HS52 := HS51.u1
   refine seqK rfl (does_storeA (vs := [.int .i64 vt46.Hi, .int .u64 vt46.Lo]) rfl kr kr kr rfl (ones rfl) HS52 kr ?_)
   intro W53 HS54
   refine nl (hK45 _ _ ?_)
   refine wp_ret ?_
   refine hret _ _ ?_
   refine ends (v := Value.agg #[.int .i64 vt46.Hi, .int .u64 vt46.Lo]) (results1 (q1 := .cell 4 90) kr (resN (n := 2) (cs := [.int .i64 vt46.Hi, .int .u64 vt46.Lo]) (kv (.pointer (some ⟨b5, 0, none⟩))) Tryz.underlying90 rfl kr rfl (HS54.cells 0 2 _ rfl))) kr ?_
   have HS60 := HS54.drop
   have HS61 := HS60.drop
   injection h with h
   subst h
   exact ⟨f48, rfl, (L14.trans (L20.trans (L27.trans L49))), HS61⟩
 · have c43 : ¬ (((decide (a1 < 0)) != (decide (b2 < 0))) = true) := c43
   refine wpRwI 24 kr (Bool.eq_false_iff.mpr c43) ?_
   refine condF kr ?_
   refine wp_skip ?_
   refine hK39 _ _ ?_
   refine wp_seq_k fun K55 hK56 => rl ?_
   refine seqK rfl (does_run (run_loadN (n := 2) rfl Tryz.underlying90 rfl kr (kv (.pointer (some ⟨b32, 0, none⟩))) (cs := [.int .i64 (w64 (vt23)), .int .u64 vt24]) rfl (HS37.cells 0 2 _ rfl)) ?_)
   have HS57 := HS37.u1
   refine seqK rfl (does_storeA (vs := [.int .i64 (w64 (vt23)), .int .u64 vt24]) rfl kr kr kr rfl (ones rfl) HS57 kr ?_)
   intro W58 HS59
   refine nl (hK56 _ _ ?_)
   refine wp_ret ?_
   refine hret _ _ ?_
   refine ends (v := Value.agg #[.int .i64 (w64 (vt23)), .int .u64 vt24]) (results1 (q1 := .cell 4 90) kr (resN (n := 2) (cs := [.int .i64 (w64 (vt23)), .int .u64 vt24]) (kv (.pointer (some ⟨b5, 0, none⟩))) Tryz.underlying90 rfl kr rfl (HS59.cells 0 2 _ rfl))) kr ?_
   have HS62 := HS59.drop
   have HS63 := HS62.drop
   injection h with h
   subst h
   exact ⟨f26, rfl, (L14.trans (L20.trans L27)), HS63⟩

set_option maxRecDepth 100000 in
set_option maxHeartbeats 4000000 in
theorem cmp_isNaN_int64.calls (k : Nat)  (x1 : Int) {t w : World} {f : FM} {H : List Seg} (HS : St t w f (H)) (rr1 : Bool) (h : cmp_isNaN_int64 k x1 = some rr1) :
    Calls Tryz.prog 92 #[.int .i64 x1] w (fun e w' => ∃ (g : FM), e = .returned (Value.bool rr1) ∧ FM.le f g ∧ St t w' g (H)) := by
 unfold cmp_isNaN_int64 at h
 refine enter Tryz.func92 rfl (tm := #[iV x1, uV, uV, uV, uV, uV]) kr ?_
 intro B hret hnor hnp
 refine wp_seq_k fun K2 hK3 => rl ?_
 refine seqL1 kr ?_
 refine nl (hK3 _ _ ?_)
 refine wp_seq_k fun K4 hK5 => rl ?_
 refine seqL4 kr ?_
 refine nl (hK5 _ _ ?_)
 refine wp_ret ?_
 refine hret _ _ ?_
 refine ends_still (v := Value.bool (x1 != x1)) kr kr ?_
 injection h with h
 subst h
 exact ⟨f, rfl, FM.le.refl _, HS⟩

set_option maxRecDepth 100000 in
set_option maxHeartbeats 4000000 in
theorem cmp_Compare_int64.calls (k : Nat)  (x1 : Int) (y2 : Int) {t w : World} {f : FM} {H : List Seg} (HS : St t w f (H)) (rr1 : Int) (h : cmp_Compare_int64 k x1 y2 = some rr1) :
    Calls Tryz.prog 67 #[.int .i64 x1, .int .i64 y2] w (fun e w' => ∃ (g : FM), e = .returned (Value.int .i64 rr1) ∧ FM.le f g ∧ St t w' g (H)) := by
 unfold cmp_Compare_int64 at h
 refine enter Tryz.func67 rfl (tm := #[iV x1, iV y2, uV, uV, uV, uV, uV, uV, uV, uV, uV, uV, uV, uV, uV, uV, uV, uV, uV, uV]) kr ?_
 intro B hret hnor hnp
 refine wp_seq_k fun K3 hK4 => rl ?_
 refine seqL1 kr ?_
 refine nl (hK4 _ _ ?_)
 refine wp_seq_k fun K5 hK6 => rl ?_
 have hq_ := bind_some h; clear h; obtain ⟨vt7, hc8, h⟩ := hq_
 refine seqL1 kr ?_
 refine seqK rfl (does_call (f := 92) (args := #[.int .i64 x1]) kr (cmp_isNaN_int64.calls k x1 HS vt7 hc8) ?_)
 rintro _ W11 ⟨f9, rfl, L10, HS12⟩
 refine ⟨_, rfl, ?_⟩
 refine seqL1 kr ?_
 refine nl (hK6 _ _ ?_)
 refine wp_seq_k fun K13 hK14 => rl ?_
 have hq_ := bind_some h; clear h; obtain ⟨vt15, hc16, h⟩ := hq_
 refine seqL1 kr ?_
 refine seqK rfl (does_call (f := 92) (args := #[.int .i64 y2]) kr (cmp_isNaN_int64.calls k y2 HS12 vt15 hc16) ?_)
 rintro _ W19 ⟨f17, rfl, L18, HS20⟩
 refine ⟨_, rfl, ?_⟩
 refine seqL1 kr ?_
 refine nl (hK14 _ _ ?_)
 refine wp_seq_k (fun K21 hK22 => ?_)
 refine wp_seq_k fun K23 hK24 => rl ?_
 refine seqL1 kr ?_
 refine nl (hK24 _ _ ?_)
 have hq_ := ite_some h; clear h; rcases hq_ with ⟨c26, h⟩ | ⟨c26, h⟩
 · have c26 : vt7 = true := c26
   refine wpRwI 5 kr c26 ?_
   refine wpRwI 8 kr c26 ?_
   refine wpRwI 11 kr c26 ?_
   refine condT kr ?_
   refine wp_seq_k (fun K27 hK28 => ?_)
   refine wp_seq_k fun K29 hK30 => rl ?_
   refine seqL1 kr ?_
   refine nl (hK30 _ _ ?_)
   have hq_ := ite_some h; clear h; rcases hq_ with ⟨c32, h⟩ | ⟨c32, h⟩
   · have c32 : vt15 = true := c32
     refine wpRwI 6 kr c32 ?_
     refine wpRwI 10 kr c32 ?_
     refine wpRwI 12 kr c32 ?_
     refine condT kr ?_
     refine wp_seq_k fun K33 hK34 => rl ?_
     refine seqL1 kr ?_
     refine nl (hK34 _ _ ?_)
     refine wp_ret ?_
     refine hret _ _ ?_
     refine ends_still (v := Value.int .i64 0) kr kr ?_
     injection h with h
     subst h
     exact ⟨f17, rfl, (L10.trans L18), HS20⟩
   · have c32 : ¬ (vt15 = true) := c32
     refine wpRwI 6 kr (Bool.eq_false_iff.mpr c32) ?_
     refine wpRwI 10 kr (Bool.eq_false_iff.mpr c32) ?_
     refine wpRwI 12 kr (Bool.eq_false_iff.mpr c32) ?_
     refine condF kr ?_
     refine wp_skip ?_
     refine hK28 _ _ ?_
     refine wp_seq_k fun K35 hK36 => rl ?_
     refine seqL1 kr ?_
     refine nl (hK36 _ _ ?_)
     refine wp_ret ?_
     refine hret _ _ ?_
     refine ends_still (v := Value.int .i64 (-1)) kr kr ?_
     injection h with h
     subst h
     exact ⟨f17, rfl, (L10.trans L18), HS20⟩
 · have c26 : ¬ (vt7 = true) := c26
   refine wpRwI 5 kr (Bool.eq_false_iff.mpr c26) ?_
   refine wpRwI 8 kr (Bool.eq_false_iff.mpr c26) ?_
   refine wpRwI 11 kr (Bool.eq_false_iff.mpr c26) ?_
   refine condF kr ?_
   refine wp_skip ?_
   refine hK22 _ _ ?_
   refine wp_seq_k (fun K37 hK38 => ?_)
   refine wp_seq_k fun K39 hK40 => rl ?_
   refine seqL1 kr ?_
   refine nl (hK40 _ _ ?_)
   have hq_ := ite_some h; clear h; rcases hq_ with ⟨c42, h⟩ | ⟨c42, h⟩
   · have c42 : vt15 = true := c42
     refine wpRwI 6 kr c42 ?_
     refine wpRwI 10 kr c42 ?_
     refine wpRwI 13 kr c42 ?_
     refine condT kr ?_
     refine wp_seq_k fun K43 hK44 => rl ?_
     refine seqL1 kr ?_
     refine nl (hK44 _ _ ?_)
     refine wp_ret ?_
     refine hret _ _ ?_
     refine ends_still (v := Value.int .i64 1) kr kr ?_
     injection h with h
     subst h
     exact ⟨f17, rfl, (L10.trans L18), HS20⟩
   · have c42 : ¬ (vt15 = true) := c42
     refine wpRwI 6 kr (Bool.eq_false_iff.mpr c42) ?_
     refine wpRwI 10 kr (Bool.eq_false_iff.mpr c42) ?_
     refine wpRwI 13 kr (Bool.eq_false_iff.mpr c42) ?_
     refine condF kr ?_
     refine wp_skip ?_
     refine hK38 _ _ ?_
     refine wp_seq_k (fun K45 hK46 => ?_)
     refine wp_seq_k fun K47 hK48 => rl ?_
     refine seqL3 kr ?_
     refine nl (hK48 _ _ ?_)
     have hq_ := ite_some h; clear h; rcases hq_ with ⟨c50, h⟩ | ⟨c50, h⟩
     · have c50 : x1 < y2 := c50
       refine wpRwI 16 kr (decide_eq_true c50) ?_
       refine condT kr ?_
       refine wp_seq_k fun K51 hK52 => rl ?_
       refine seqL1 kr ?_
       refine nl (hK52 _ _ ?_)
       refine wp_ret ?_
       refine hret _ _ ?_
       refine ends_still (v := Value.int .i64 (-1)) kr kr ?_
       injection h with h
       subst h
       exact ⟨f17, rfl, (L10.trans L18), HS20⟩
     · have c50 : ¬ (x1 < y2) := c50
       refine wpRwI 16 kr (decide_eq_false c50) ?_
       refine condF kr ?_
       refine wp_skip ?_
       refine hK46 _ _ ?_
       refine wp_seq_k (fun K53 hK54 => ?_)
       refine wp_seq_k fun K55 hK56 => rl ?_
       refine seqL3 kr ?_
       refine nl (hK56 _ _ ?_)
       have hq_ := ite_some h; clear h; rcases hq_ with ⟨c58, h⟩ | ⟨c58, h⟩
       · have c58 : x1 > y2 := c58
         refine wpRwI 19 kr (decide_eq_true c58) ?_
         refine condT kr ?_
         refine wp_seq_k fun K59 hK60 => rl ?_
         refine seqL1 kr ?_
         refine nl (hK60 _ _ ?_)
         refine wp_ret ?_
         refine hret _ _ ?_
         refine ends_still (v := Value.int .i64 1) kr kr ?_
         injection h with h
         subst h
         exact ⟨f17, rfl, (L10.trans L18), HS20⟩
       · have c58 : ¬ (x1 > y2) := c58
         refine wpRwI 19 kr (decide_eq_false c58) ?_
         refine condF kr ?_
         refine wp_skip ?_
         refine hK54 _ _ ?_
         refine wp_seq_k fun K61 hK62 => rl ?_
         refine seqL1 kr ?_
         refine nl (hK62 _ _ ?_)
         refine wp_ret ?_
         refine hret _ _ ?_
         refine ends_still (v := Value.int .i64 0) kr kr ?_
         injection h with h
         subst h
         exact ⟨f17, rfl, (L10.trans L18), HS20⟩

set_option maxRecDepth 100000 in
set_option maxHeartbeats 4000000 in
theorem cmp_isNaN_uint64.calls (k : Nat)  (x1 : Int) {t w : World} {f : FM} {H : List Seg} (HS : St t w f (H)) (rr1 : Bool) (h : cmp_isNaN_uint64 k x1 = some rr1) :
    Calls Tryz.prog 93 #[.int .u64 x1] w (fun e w' => ∃ (g : FM), e = .returned (Value.bool rr1) ∧ FM.le f g ∧ St t w' g (H)) := by
 unfold cmp_isNaN_uint64 at h
 refine enter Tryz.func93 rfl (tm := #[.int .u64 x1, uV, uV, uV, uV, uV]) kr ?_
 intro B hret hnor hnp
 refine wp_seq_k fun K2 hK3 => rl ?_
 refine seqL1 kr ?_
 refine nl (hK3 _ _ ?_)
 refine wp_seq_k fun K4 hK5 => rl ?_
 refine seqL4 kr ?_
 refine nl (hK5 _ _ ?_)
 refine wp_ret ?_
 refine hret _ _ ?_
 refine ends_still (v := Value.bool (x1 != x1)) kr kr ?_
 injection h with h
 subst h
 exact ⟨f, rfl, FM.le.refl _, HS⟩

set_option maxRecDepth 100000 in
set_option maxHeartbeats 4000000 in
theorem cmp_Compare_uint64.calls (k : Nat)  (x1 : Int) (y2 : Int) {t w : World} {f : FM} {H : List Seg} (HS : St t w f (H)) (rr1 : Int) (h : cmp_Compare_uint64 k x1 y2 = some rr1) :
    Calls Tryz.prog 68 #[.int .u64 x1, .int .u64 y2] w (fun e w' => ∃ (g : FM), e = .returned (Value.int .i64 rr1) ∧ FM.le f g ∧ St t w' g (H)) := by
 unfold cmp_Compare_uint64 at h
 refine enter Tryz.func68 rfl (tm := #[.int .u64 x1, .int .u64 y2, uV, uV, uV, uV, uV, uV, uV, uV, uV, uV, uV, uV, uV, uV, uV, uV, uV, uV]) kr ?_
 intro B hret hnor hnp
 refine wp_seq_k fun K3 hK4 => rl ?_
 refine seqL1 kr ?_
 refine nl (hK4 _ _ ?_)
 refine wp_seq_k fun K5 hK6 => rl ?_
 have hq_ := bind_some h; clear h; obtain ⟨vt7, hc8, h⟩ := hq_
 refine seqL1 kr ?_
 refine seqK rfl (does_call (f := 93) (args := #[.int .u64 x1]) kr (cmp_isNaN_uint64.calls k x1 HS vt7 hc8) ?_)
 rintro _ W11 ⟨f9, rfl, L10, HS12⟩
 refine ⟨_, rfl, ?_⟩
 refine seqL1 kr ?_
 refine nl (hK6 _ _ ?_)
 refine wp_seq_k fun K13 hK14 => rl ?_
 have hq_ := bind_some h; clear h; obtain ⟨vt15, hc16, h⟩ := hq_
 refine seqL1 kr ?_
 refine seqK rfl (does_call (f := 93) (args := #[.int .u64 y2]) kr (cmp_isNaN_uint64.calls k y2 HS12 vt15 hc16) ?_)
 rintro _ W19 ⟨f17, rfl, L18, HS20⟩
 refine ⟨_, rfl, ?_⟩
 refine seqL1 kr ?_
 refine nl (hK14 _ _ ?_)
 refine wp_seq_k (fun K21 hK22 => ?_)
 refine wp_seq_k fun K23 hK24 => rl ?_
 refine seqL1 kr ?_
 refine nl (hK24 _ _ ?_)
 have hq_ := ite_some h; clear h; rcases hq_ with ⟨c26, h⟩ | ⟨c26, h⟩
 · have c26 : vt7 = true := c26
   refine wpRwI 5 kr c26 ?_
   refine wpRwI 8 kr c26 ?_
   refine wpRwI 11 kr c26 ?_
   refine condT kr ?_
   refine wp_seq_k (fun K27 hK28 => ?_)
   refine wp_seq_k fun K29 hK30 => rl ?_
   refine seqL1 kr ?_
   refine nl (hK30 _ _ ?_)
   have hq_ := ite_some h; clear h; rcases hq_ with ⟨c32, h⟩ | ⟨c32, h⟩
   · have c32 : vt15 = true := c32
     refine wpRwI 6 kr c32 ?_
     refine wpRwI 10 kr c32 ?_
     refine wpRwI 12 kr c32 ?_
     refine condT kr ?_
     refine wp_seq_k fun K33 hK34 => rl ?_
     refine seqL1 kr ?_
     refine nl (hK34 _ _ ?_)
     refine wp_ret ?_
     refine hret _ _ ?_
     refine ends_still (v := Value.int .i64 0) kr kr ?_
     injection h with h
     subst h
     exact ⟨f17, rfl, (L10.trans L18), HS20⟩
   · have c32 : ¬ (vt15 = true) := c32
     refine wpRwI 6 kr (Bool.eq_false_iff.mpr c32) ?_
     refine wpRwI 10 kr (Bool.eq_false_iff.mpr c32) ?_
     refine wpRwI 12 kr (Bool.eq_false_iff.mpr c32) ?_
     refine condF kr ?_
     refine wp_skip ?_
     refine hK28 _ _ ?_
     refine wp_seq_k fun K35 hK36 => rl ?_
     refine seqL1 kr ?_
     refine nl (hK36 _ _ ?_)
     refine wp_ret ?_
     refine hret _ _ ?_
     refine ends_still (v := Value.int .i64 (-1)) kr kr ?_
     injection h with h
     subst h
     exact ⟨f17, rfl, (L10.trans L18), HS20⟩
 · have c26 : ¬ (vt7 = true) := c26
   refine wpRwI 5 kr (Bool.eq_false_iff.mpr c26) ?_
   refine wpRwI 8 kr (Bool.eq_false_iff.mpr c26) ?_
   refine wpRwI 11 kr (Bool.eq_false_iff.mpr c26) ?_
   refine condF kr ?_
   refine wp_skip ?_
   refine hK22 _ _ ?_
   refine wp_seq_k (fun K37 hK38 => ?_)
   refine wp_seq_k fun K39 hK40 => rl ?_
   refine seqL1 kr ?_
   refine nl (hK40 _ _ ?_)
   have hq_ := ite_some h; clear h; rcases hq_ with ⟨c42, h⟩ | ⟨c42, h⟩
   · have c42 : vt15 = true := c42
     refine wpRwI 6 kr c42 ?_
     refine wpRwI 10 kr c42 ?_
     refine wpRwI 13 kr c42 ?_
     refine condT kr ?_
     refine wp_seq_k fun K43 hK44 => rl ?_
     refine seqL1 kr ?_
     refine nl (hK44 _ _ ?_)
     refine wp_ret ?_
     refine hret _ _ ?_
     refine ends_still (v := Value.int .i64 1) kr kr ?_
     injection h with h
     subst h
     exact ⟨f17, rfl, (L10.trans L18), HS20⟩
   · have c42 : ¬ (vt15 = true) := c42
     refine wpRwI 6 kr (Bool.eq_false_iff.mpr c42) ?_
     refine wpRwI 10 kr (Bool.eq_false_iff.mpr c42) ?_
     refine wpRwI 13 kr (Bool.eq_false_iff.mpr c42) ?_
     refine condF kr ?_
     refine wp_skip ?_
     refine hK38 _ _ ?_
     refine wp_seq_k (fun K45 hK46 => ?_)
     refine wp_seq_k fun K47 hK48 => rl ?_
     refine seqL3 kr ?_
     refine nl (hK48 _ _ ?_)
     have hq_ := ite_some h; clear h; rcases hq_ with ⟨c50, h⟩ | ⟨c50, h⟩
     · have c50 : x1 < y2 := c50
       refine wpRwI 16 kr (decide_eq_true c50) ?_
       refine condT kr ?_
       refine wp_seq_k fun K51 hK52 => rl ?_
       refine seqL1 kr ?_
       refine nl (hK52 _ _ ?_)
       refine wp_ret ?_
       refine hret _ _ ?_
       refine ends_still (v := Value.int .i64 (-1)) kr kr ?_
       injection h with h
       subst h
       exact ⟨f17, rfl, (L10.trans L18), HS20⟩
     · have c50 : ¬ (x1 < y2) := c50
       refine wpRwI 16 kr (decide_eq_false c50) ?_
       refine condF kr ?_
       refine wp_skip ?_
       refine hK46 _ _ ?_
       refine wp_seq_k (fun K53 hK54 => ?_)
       refine wp_seq_k fun K55 hK56 => rl ?_
       refine seqL3 kr ?_
       refine nl (hK56 _ _ ?_)
       have hq_ := ite_some h; clear h; rcases hq_ with ⟨c58, h⟩ | ⟨c58, h⟩
       · have c58 : x1 > y2 := c58
         refine wpRwI 19 kr (decide_eq_true c58) ?_
         refine condT kr ?_
         refine wp_seq_k fun K59 hK60 => rl ?_
         refine seqL1 kr ?_
         refine nl (hK60 _ _ ?_)
         refine wp_ret ?_
         refine hret _ _ ?_
         refine ends_still (v := Value.int .i64 1) kr kr ?_
         injection h with h
         subst h
         exact ⟨f17, rfl, (L10.trans L18), HS20⟩
       · have c58 : ¬ (x1 > y2) := c58
         refine wpRwI 19 kr (decide_eq_false c58) ?_
         refine condF kr ?_
         refine wp_skip ?_
         refine hK54 _ _ ?_
         refine wp_seq_k fun K61 hK62 => rl ?_
         refine seqL1 kr ?_
         refine nl (hK62 _ _ ?_)
         refine wp_ret ?_
         refine hret _ _ ?_
         refine ends_still (v := Value.int .i64 0) kr kr ?_
         injection h with h
         subst h
         exact ⟨f17, rfl, (L10.trans L18), HS20⟩

end Go.Sp.Q3
