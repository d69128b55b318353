import Derived.Test.YtiibkbligihgoaaGreatProg
import Derived.Test.YtiibkbligihgoaaGreatSpCopy
import Derived.Test.YtiibkbligihgoaaGreatFJ7
import Derived.Test.YtiibkbligihgoaaGreatSpSort3P
import Derived.Test.YtiibkbligihgoaaGreatShelf
import Derived.Test.YtiibkbligihgoaaGreatSpMapR
import Derived.Test.YtiibkbligihgoaaGreatSpKeys
import Derived.Test.YtiibkbligihgoaaGreatSpNode
import Derived.Test.YtiibkbligihgoaaGreatSpKeyP
import Derived.Test.YtiibkbligihgoaaGreatSpArr
import Derived.Test.YtiibkbligihgoaaGreatSpRound
namespace Go.Sp.J7
open Go Go.Sp Go.Proofs
set_option linter.unusedVariables false
attribute [local irreducible] wpList AnyL Code.wp Calls Does Code.wpIn wpListIn CallsIn bodyPostM LeavesInM

def G_node (t : Ty S_node) : Ty S_node where
  sz := 14
  rep := fun f cs x => ∃ (A12 : Option Addr) (c12 : Nat) (A13 : Option Addr) (c13 : Nat), cs = [.int .i64 x.box.X.Lo, .int .i64 x.box.X.Hi, .bool x.box.X.Unknown, .int .i64 x.box.Y.Lo, .int .i64 x.box.Y.Hi, .bool x.box.Y.Unknown, .int .i64 x.box.Z.Lo, .int .i64 x.box.Z.Hi, .bool x.box.Z.Unknown, .int .i64 x.when.Lo, .int .i64 x.when.Hi, .bool x.when.Unknown, .slice A12 x.kids.length c12, .slice A13 x.rows.length c13] ∧ SlR t f A12 c12 x.kids ∧ SlR (tInt .i64) f A13 c13 x.rows
  pos := by decide
  len := by rintro f cs x ⟨A12, c12, A13, c13, rfl, h12, h13⟩; rfl
  mono := by rintro f g cs x hl ⟨A12, c12, A13, c13, rfl, h12, h13⟩; exact ⟨A12, c12, A13, c13, rfl, h12.mono hl, h13.mono hl⟩
  one := by
    rintro f cs x ⟨A12, c12, A13, c13, rfl, h12, h13⟩ v hv
    simp only [List.mem_cons, List.not_mem_nil, or_false] at hv
    rcases hv with rfl | rfl | rfl | rfl | rfl | rfl | rfl | rfl | rfl | rfl | rfl | rfl | rfl | rfl <;> rfl
def fx_node : Fix S_node := ⟨119, G_node, fun {s t} h => ⟨rfl, by
  rintro f cs x ⟨A12, c12, A13, c13, rfl, h12, h13⟩
  exact ⟨A12, c12, A13, c13, rfl, h12.sub h, h13⟩⟩⟩
def own_node (f : FM) (b : Nat) (s : Seg) (x : S_node) : Prop := ∃ (A12 : Option Addr) (c12 : Nat) (s12 : Seg) (A13 : Option Addr) (c13 : Nat) (s13 : Seg), s = [(b, .cells #[.int .i64 x.box.X.Lo, .int .i64 x.box.X.Hi, .bool x.box.X.Unknown, .int .i64 x.box.Y.Lo, .int .i64 x.box.Y.Hi, .bool x.box.Y.Unknown, .int .i64 x.box.Z.Lo, .int .i64 x.box.Z.Hi, .bool x.box.Z.Unknown, .int .i64 x.when.Lo, .int .i64 x.when.Hi, .bool x.when.Unknown, .slice A12 x.kids.length c12, .slice A13 x.rows.length c13] 119 (0, 0))] ++ s12 ++ s13 ∧ Own fx_node.t 116 f A12 c12 s12 x.kids ∧ Own (tInt .i64) 3 f A13 c13 s13 x.rows
theorem own_node_mono {f g : FM} {b : Nat} {s : Seg} {x : S_node} (h : own_node f b s x) (hl : FM.le f g) : own_node g b s x := by
  obtain ⟨A12, c12, s12, A13, c13, s13, rfl, h12, h13⟩ := h
  exact ⟨A12, c12, s12, A13, c13, s13, rfl, h12.mono hl, h13.mono hl⟩
theorem own_node_fz {t w : World} {f : FM} {H : List Seg} {b : Nat} {s : Seg} {x : S_node} (h : own_node f b s x) (HS : St t w f (s :: H)) : ∃ g, FM.le f g ∧ St t w g H ∧ fx_node.t.rep g [.pointer (some ⟨b, 0, none⟩)] x := by
  obtain ⟨A12, c12, s12, A13, c13, s13, rfl, h12, h13⟩ := h
  have S0 : St t w f (s12 :: s13 :: [(b, _)] :: H) := HS.perm ((List.perm_append_comm (l₁ := [(b, _)]) (l₂ := s12 ++ s13)).append_right (flat H) |> fun p => by simpa [flat] using p)
  obtain ⟨g12, l12, S1, r12⟩ := h12.freeze S0
  obtain ⟨g13, l13, S2, r13⟩ := (h13.mono l12).freeze S1
  have r12 := r12.mono (l13.trans S2.le_freeze)
  have r13 := r13.mono S2.le_freeze
  obtain ⟨d, r12⟩ := fx_node.slr r12
  exact ⟨_, (l12.trans (l13.trans S2.le_freeze)), S2.freeze, d + 1, b, _, _, rfl, FM.add_self _ _ _, A12, c12, A13, c13, rfl, r12, r13⟩
def rk_node : RecK S_node := ⟨119, fx_node.t, own_node, own_node_mono, own_node_fz⟩
def ty_Stream : Ty S_Stream where
  sz := 2
  rep := fun f cs x => ∃ (A0 : Option Addr) (c0 : Nat), cs = [.slice A0 x.L.length c0, .int .i64 x.vat] ∧ SlR (tInt .i64) f A0 c0 x.L
  pos := by decide
  len := by rintro f cs x ⟨A0, c0, rfl, h0⟩; rfl
  mono := by rintro f g cs x hl ⟨A0, c0, rfl, h0⟩; exact ⟨A0, c0, rfl, h0.mono hl⟩
  one := by
    rintro f cs x ⟨A0, c0, rfl, h0⟩ v hv
    simp only [List.mem_cons, List.not_mem_nil, or_false] at hv
    rcases hv with rfl | rfl <;> rfl
def ty_Bound : Ty S_Bound where
  sz := 3
  rep := fun f cs x => cs = [.int .i64 x.Lo, .int .i64 x.Hi, .bool x.Unknown]
  pos := by decide
  len := by rintro f cs x rfl; rfl
  mono := by rintro f g cs x hl rfl; exact rfl
  one := by
    rintro f cs x rfl v hv
    simp only [List.mem_cons, List.not_mem_nil, or_false] at hv
    rcases hv with rfl | rfl | rfl <;> rfl
def ty_Box : Ty S_Box where
  sz := 9
  rep := fun f cs x => cs = [.int .i64 x.X.Lo, .int .i64 x.X.Hi, .bool x.X.Unknown, .int .i64 x.Y.Lo, .int .i64 x.Y.Hi, .bool x.Y.Unknown, .int .i64 x.Z.Lo, .int .i64 x.Z.Hi, .bool x.Z.Unknown]
  pos := by decide
  len := by rintro f cs x rfl; rfl
  mono := by rintro f g cs x hl rfl; exact rfl
  one := by
    rintro f cs x rfl v hv
    simp only [List.mem_cons, List.not_mem_nil, or_false] at hv
    rcases hv with rfl | rfl | rfl | rfl | rfl | rfl | rfl | rfl | rfl <;> rfl
def ty_Row : Ty S_Row where
  sz := 18
  rep := fun f cs x => ∃ (A16 : Option Addr) (c16 : Nat), cs = [.int .i64 x.ID, .int .i64 x.Box.X.Lo, .int .i64 x.Box.X.Hi, .bool x.Box.X.Unknown, .int .i64 x.Box.Y.Lo, .int .i64 x.Box.Y.Hi, .bool x.Box.Y.Unknown, .int .i64 x.Box.Z.Lo, .int .i64 x.Box.Z.Hi, .bool x.Box.Z.Unknown, .int .i64 x.Flux.Lo, .int .i64 x.Flux.Hi, .bool x.Flux.Unknown, .int .i64 x.When.Lo, .int .i64 x.When.Hi, .bool x.When.Unknown, .slice A16 x.Frames.length c16, .int .i64 x.Marks] ∧ SlR (tInt .i64) f A16 c16 x.Frames
  pos := by decide
  len := by rintro f cs x ⟨A16, c16, rfl, h16⟩; rfl
  mono := by rintro f g cs x hl ⟨A16, c16, rfl, h16⟩; exact ⟨A16, c16, rfl, h16.mono hl⟩
  one := by
    rintro f cs x ⟨A16, c16, rfl, h16⟩ v hv
    simp only [List.mem_cons, List.not_mem_nil, or_false] at hv
    rcases hv with rfl | rfl | rfl | rfl | rfl | rfl | rfl | rfl | rfl | rfl | rfl | rfl | rfl | rfl | rfl | rfl | rfl | rfl <;> rfl
def ty_Vec : Ty S_Vec where
  sz := 3
  rep := fun f cs x => cs = [.int .i64 x.X, .int .i64 x.Y, .int .i64 x.Z]
  pos := by decide
  len := by rintro f cs x rfl; rfl
  mono := by rintro f g cs x hl rfl; exact rfl
  one := by
    rintro f cs x rfl v hv
    simp only [List.mem_cons, List.not_mem_nil, or_false] at hv
    rcases hv with rfl | rfl | rfl <;> rfl
def ty_Index : Ty S_Index where
  sz := 4
  rep := fun f cs x => ∃ (A0 : Option Addr) (c0 : Nat) (A2 : Option Addr) (c2 : Nat) (A3 : Option Addr) (c3 : Nat), cs = [.slice A0 x.rows.length c0, .int .i64 x.level, .slice A2 x.roots.length c2, .slice A3 x.loose.length c3] ∧ SlR ty_Row f A0 c0 x.rows ∧ SlR fx_node.t f A2 c2 x.roots ∧ SlR (tInt .i64) f A3 c3 x.loose
  pos := by decide
  len := by rintro f cs x ⟨A0, c0, A2, c2, A3, c3, rfl, h0, h2, h3⟩; rfl
  mono := by rintro f g cs x hl ⟨A0, c0, A2, c2, A3, c3, rfl, h0, h2, h3⟩; exact ⟨A0, c0, A2, c2, A3, c3, rfl, h0.mono hl, h2.mono hl, h3.mono hl⟩
  one := by
    rintro f cs x ⟨A0, c0, A2, c2, A3, c3, rfl, h0, h2, h3⟩ v hv
    simp only [List.mem_cons, List.not_mem_nil, or_false] at hv
    rcases hv with rfl | rfl | rfl | rfl <;> rfl
def ty_Cone : Ty S_Cone where
  sz := 4
  rep := fun f cs x => cs = [.int .i64 x.At.X, .int .i64 x.At.Y, .int .i64 x.At.Z, .int .i64 x.Cos]
  pos := by decide
  len := by rintro f cs x rfl; rfl
  mono := by rintro f g cs x hl rfl; exact rfl
  one := by
    rintro f cs x rfl v hv
    simp only [List.mem_cons, List.not_mem_nil, or_false] at hv
    rcases hv with rfl | rfl | rfl | rfl <;> rfl
def ty_Ask : Ty S_Ask where
  sz := 5
  rep := fun f cs x => ∃ (A0 : Option Addr) (c0 : Nat), cs = [.slice A0 x.Cones.length c0, .int .i64 x.From, .int .i64 x.To, .int .i64 x.Least, .int .i64 x.Ban] ∧ SlR ty_Cone f A0 c0 x.Cones
  pos := by decide
  len := by rintro f cs x ⟨A0, c0, rfl, h0⟩; rfl
  mono := by rintro f g cs x hl ⟨A0, c0, rfl, h0⟩; exact ⟨A0, c0, rfl, h0.mono hl⟩
  one := by
    rintro f cs x ⟨A0, c0, rfl, h0⟩ v hv
    simp only [List.mem_cons, List.not_mem_nil, or_false] at hv
    rcases hv with rfl | rfl | rfl | rfl | rfl <;> rfl
def ty_Answer : Ty S_Answer where
  sz := 2
  rep := fun f cs x => cs = [.int .i64 x.ID, .int .i64 x.Grade]
  pos := by decide
  len := by rintro f cs x rfl; rfl
  mono := by rintro f g cs x hl rfl; exact rfl
  one := by
    rintro f cs x rfl v hv
    simp only [List.mem_cons, List.not_mem_nil, or_false] at hv
    rcases hv with rfl | rfl <;> rfl
def ty_Wide : Ty S_Wide where
  sz := 2
  rep := fun f cs x => cs = [.int .i64 x.Hi, .int .u64 x.Lo]
  pos := by decide
  len := by rintro f cs x rfl; rfl
  mono := by rintro f g cs x hl rfl; exact rfl
  one := by
    rintro f cs x rfl v hv
    simp only [List.mem_cons, List.not_mem_nil, or_false] at hv
    rcases hv with rfl | rfl <;> rfl
def ty_Pair : Ty S_Pair where
  sz := 3
  rep := fun f cs x => cs = [.int .i64 x.Left, .int .i64 x.Right, .int .i64 x.Grade]
  pos := by decide
  len := by rintro f cs x rfl; rfl
  mono := by rintro f g cs x hl rfl; exact rfl
  one := by
    rintro f cs x rfl v hv
    simp only [List.mem_cons, List.not_mem_nil, or_false] at hv
    rcases hv with rfl | rfl | rfl <;> rfl
abbrev ag_Box (x : S_Box) : Value := .agg #[.int .i64 x.X.Lo, .int .i64 x.X.Hi, .bool x.X.Unknown, .int .i64 x.Y.Lo, .int .i64 x.Y.Hi, .bool x.Y.Unknown, .int .i64 x.Z.Lo, .int .i64 x.Z.Hi, .bool x.Z.Unknown]
abbrev ag_Bound (x : S_Bound) : Value := .agg #[.int .i64 x.Lo, .int .i64 x.Hi, .bool x.Unknown]
abbrev ag_Row (x : S_Row) (A16 : Option Addr) (c16 : Nat) : Value := .agg #[.int .i64 x.ID, .int .i64 x.Box.X.Lo, .int .i64 x.Box.X.Hi, .bool x.Box.X.Unknown, .int .i64 x.Box.Y.Lo, .int .i64 x.Box.Y.Hi, .bool x.Box.Y.Unknown, .int .i64 x.Box.Z.Lo, .int .i64 x.Box.Z.Hi, .bool x.Box.Z.Unknown, .int .i64 x.Flux.Lo, .int .i64 x.Flux.Hi, .bool x.Flux.Unknown, .int .i64 x.When.Lo, .int .i64 x.When.Hi, .bool x.When.Unknown, .slice A16 x.Frames.length c16, .int .i64 x.Marks]
abbrev ag_Vec (x : S_Vec) : Value := .agg #[.int .i64 x.X, .int .i64 x.Y, .int .i64 x.Z]
abbrev ag_Index (x : S_Index) (A0 : Option Addr) (c0 : Nat) (A2 : Option Addr) (c2 : Nat) (A3 : Option Addr) (c3 : Nat) : Value := .agg #[.slice A0 x.rows.length c0, .int .i64 x.level, .slice A2 x.roots.length c2, .slice A3 x.loose.length c3]
abbrev ag_Ask (x : S_Ask) (A0 : Option Addr) (c0 : Nat) : Value := .agg #[.slice A0 x.Cones.length c0, .int .i64 x.From, .int .i64 x.To, .int .i64 x.Least, .int .i64 x.Ban]
abbrev ag_Cone (x : S_Cone) : Value := .agg #[.int .i64 x.At.X, .int .i64 x.At.Y, .int .i64 x.At.Z, .int .i64 x.Cos]
abbrev ag_Pair (x : S_Pair) : Value := .agg #[.int .i64 x.Left, .int .i64 x.Right, .int .i64 x.Grade]
theorem inf3 : Inf Tryz.prog 3 1 8 (.int .i64 0) := .mk' kr rfl
theorem inf99 : Inf Tryz.prog 99 18 160 (.agg #[.int .i64 0, .int .i64 0, .int .i64 0, .bool false, .int .i64 0, .int .i64 0, .bool false, .int .i64 0, .int .i64 0, .bool false, .int .i64 0, .int .i64 0, .bool false, .int .i64 0, .int .i64 0, .bool false, .slice none 0 0, .int .i64 0]) := .mk' kr rfl
theorem inf116 : Inf Tryz.prog 116 1 8 (.pointer none) := .mk' kr rfl
theorem inf62 : Inf Tryz.prog 62 2 16 (.agg #[.int .i64 0, .int .i64 0]) := .mk' kr rfl
theorem inf77 : Inf Tryz.prog 77 3 24 (.agg #[.int .i64 0, .int .i64 0, .int .i64 0]) := .mk' kr rfl

set_option maxRecDepth 100000 in
set_option maxHeartbeats 4000000 in
theorem spymake_Below.calls (k : Nat)  (x1 : Int) (n2 : Int) {t w : World} {f : FM} {H : List Seg} (HS : St t w f (H)) (rr1 : Int) (h : spymake_Below k x1 n2 = some rr1) :
    Calls Tryz.prog 9 #[.int .i64 x1, .int .i64 n2] w (fun e w' => ∃ (g : FM), e = .returned (Value.int .i64 rr1) ∧ FM.le f g ∧ St t w' g (H)) := by
 unfold spymake_Below at h
 refine enter Tryz.func9 rfl (tm := #[iV x1, iV n2, uV, uV, uV, uV, uV, uV, uV, uV, uV, uV, uV, uV, uV, uV]) kr ?_
 intro B hret hnor hnp
 refine wp_seq_k fun K3 hK4 => rl ?_
 refine seqL1 kr ?_
 refine nl (hK4 _ _ ?_)
 refine wp_seq_k (fun K5 hK6 => ?_)
 refine wp_seq_k fun K7 hK8 => rl ?_
 refine seqL2 kr ?_
 refine nl (hK8 _ _ ?_)
 have hq_ := ite_some h; clear h; rcases hq_ with ⟨c10, h⟩ | ⟨c10, h⟩
 · have c10 : n2 < 1 := c10
   refine wpRwI 6 kr (decide_eq_true c10) ?_
   refine condT kr ?_
   refine wp_seq_k fun K11 hK12 => rl ?_
   refine seqL1 kr ?_
   refine nl (hK12 _ _ ?_)
   refine wp_ret ?_
   refine hret _ _ ?_
   refine ends_still (v := Value.int .i64 0) kr kr ?_
   injection h with h
   subst h
   exact ⟨f, rfl, FM.le.refl _, HS⟩
 · have c10 : ¬ (n2 < 1) := c10
   refine wpRwI 6 kr (decide_eq_false c10) ?_
   refine condF kr ?_
   refine wp_skip ?_
   refine hK6 _ _ ?_
   refine wp_seq_k fun K13 hK14 => rl ?_
   have hq_ := guard_some h; clear h; obtain ⟨c15, h⟩ := hq_
   have c15 : ¬ (n2 = 0) := c15
   refine seqL2 kr ?_
   refine seqK rfl (does_run (run_rem rfl (kv (.int .i64 x1)) (kv (.int .i64 n2)) c15 w) ?_)
   refine seqL1 kr ?_
   refine nl (hK14 _ _ ?_)
   refine wp_seq_k (fun K16 hK17 => ?_)
   refine wp_seq_k fun K18 hK19 => rl ?_
   refine seqL2 kr ?_
   refine nl (hK19 _ _ ?_)
   have hq_ := ite_some h; clear h; rcases hq_ with ⟨c21, h⟩ | ⟨c21, h⟩
   · have c21 : (Int.tmod x1 n2) < 0 := c21
     refine wpRwI 11 kr (decide_eq_true c21) ?_
     refine condT kr ?_
     refine rl ?_
     refine seqL4 kr ?_
     refine nl (hK17 _ _ ?_)
     refine wp_seq_k fun K22 hK23 => rl ?_
     refine seqL2 kr ?_
     refine nl (hK23 _ _ ?_)
     refine wp_ret ?_
     refine hret _ _ ?_
     refine ends_still (v := Value.int .i64 (w64 ((Int.tmod x1 n2) + n2))) kr kr ?_
     injection h with h
     subst h
     exact ⟨f, rfl, FM.le.refl _, HS⟩
   · have c21 : ¬ ((Int.tmod x1 n2) < 0) := c21
     refine wpRwI 11 kr (decide_eq_false c21) ?_
     refine condF kr ?_
     refine wp_skip ?_
     refine hK17 _ _ ?_
     refine wp_seq_k fun K24 hK25 => rl ?_
     refine seqL2 kr ?_
     refine nl (hK25 _ _ ?_)
     refine wp_ret ?_
     refine hret _ _ ?_
     refine ends_still (v := Value.int .i64 (Int.tmod x1 n2)) kr kr ?_
     injection h with h
     subst h
     exact ⟨f, rfl, FM.le.refl _, HS⟩

set_option maxRecDepth 100000 in
set_option maxHeartbeats 4000000 in
theorem spymake_Stream_Next.calls (k : Nat) (b1 : Nat) (A4 : Option Addr) (c5 : Nat) (s3 : S_Stream) (n7 : Int) {t w : World} {f : FM} {H : List Seg} (HS : St t w f ([(b1, .cells #[.slice A4 s3.L.length c5, .int .i64 s3.vat] 26 (0, 0))] :: H)) (HR6 : SlR (tInt .i64) f A4 c5 s3.L) (rr1 : Int) (rr2 : Int) (h : spymake_Stream_Next k s3 n7 = some (rr1, rr2)) :
    Calls Tryz.prog 20 #[.pointer (some ⟨b1, 0, none⟩), .int .i64 n7] w (fun e w' => ∃ (g : FM), e = .returned (Value.int .i64 rr1) ∧ FM.le f g ∧ St t w' g ([(b1, .cells #[.slice A4 s3.L.length c5, .int .i64 rr2] 26 (0, 0))] :: H)) := by
 unfold spymake_Stream_Next at h
 refine enter Tryz.func20 rfl (tm := #[pV b1 0, iV n7, uV, uV, uV, uV, uV, uV, uV, uV, uV, uV, uV, uV, uV, uV, uV, uV, uV, uV, uV, uV, uV, uV, uV, uV, uV, uV, uV, uV, uV, uV, uV, uV, uV, uV, uV, uV, uV, uV, uV, uV, uV, uV, uV, uV, uV, uV, uV, uV, uV, uV, uV, uV, uV, uV, uV, uV, uV, uV, uV, uV, uV, uV]) kr ?_
 intro B hret hnor hnp
 refine wp_seq_k fun K8 hK9 => rl ?_
 refine seqL1 kr ?_
 refine nl (hK9 _ _ ?_)
 refine wp_seq_k fun K10 hK11 => rl ?_
 refine seqL3 kr ?_
 refine seqK rfl (does_run (run_load rfl Tryz.underlying3 rfl (kv (.pointer (some ⟨b1, 1, none⟩))) (HS.cell 1)) ?_)
 refine seqL3 kr ?_
 refine seqK rfl (does_store (n := 1) (vs := [.int .i64 (w64 (s3.vat + 1))]) (cs' := #[.slice A4 s3.L.length c5, .int .i64 (w64 (s3.vat + 1))]) rfl kr (kv (.pointer (some ⟨b1, 1, none⟩))) (kv (.int .i64 (w64 (s3.vat + 1)))) rfl rfl (ones rfl) HS (Nat.le_of_ble_eq_true rfl) kr ?_)
 intro W12 HS13
 refine nl (hK11 _ _ ?_)
 refine wp_seq_k (fun K14 hK15 => ?_)
 refine wp_seq_k fun K16 hK17 => rl ?_
 refine seqL3 kr ?_
 refine seqK rfl (does_run (run_load rfl Tryz.underlying22 rfl (kv (.pointer (some ⟨b1, 0, none⟩))) (HS13.cell 0)) ?_)
 refine seqL2 kr ?_
 refine nl (hK17 _ _ ?_)
 have hq_ := ite_some h; clear h; rcases hq_ with ⟨c19, h⟩ | ⟨c19, h⟩
 · have c19 : (s3.L.length : Int) = 0 := c19
   refine wpRwI 19 kr (beq_iff_eq.mpr c19) ?_
   refine condT kr ?_
   refine wp_seq_k fun K20 hK21 => rl ?_
   refine seqL3 kr ?_
   refine seqK rfl (does_run (run_load rfl Tryz.underlying3 rfl (kv (.pointer (some ⟨b1, 1, none⟩))) (HS13.cell 1)) ?_)
   have hq_ := bind_some h; clear h; obtain ⟨vt22, hc23, h⟩ := hq_
   refine seqL2 kr ?_
   refine seqK rfl (does_call (f := 9) (args := #[.int .i64 (w64 ((w64 (s3.vat + 1)) * 7919)), .int .i64 n7]) kr (spymake_Below.calls k (w64 ((w64 (s3.vat + 1)) * 7919)) n7 HS13 vt22 hc23) ?_)
   rintro _ W26 ⟨f24, rfl, L25, HS27⟩
   refine ⟨_, rfl, ?_⟩
   refine seqL1 kr ?_
   refine nl (hK21 _ _ ?_)
   refine wp_ret ?_
   refine hret _ _ ?_
   refine ends_still (v := Value.int .i64 vt22) kr kr ?_
   injection h with h
   injection h with h0_ h
   subst h0_ h
   exact ⟨f24, rfl, L25, HS27⟩
 · have c19 : ¬ ((s3.L.length : Int) = 0) := c19
   refine wpRwI 19 kr (beq_eq_false_iff_ne.mpr c19) ?_
   refine condF kr ?_
   refine wp_skip ?_
   refine hK15 _ _ ?_
   refine wp_seq_k (fun K28 hK29 => ?_)
   refine heldG (S := Sg t f ([(b1, .cells #[.slice A4 s3.L.length c5, .int .i64 (w64 (s3.vat + 1))] 26 (0, 0))] :: H) []) (n := 12) kr rfl HS13 ?_
   intro W30 HS31
   refine takeGL [0, 1, 2] (n := 12) (fuel := 9) #[true, true, true, false, false, false, false, false, false, false, false, false] rfl kr kr kr hnp (Sg.g0 (Sx.of [] fL HS31)) ?_
   refine takeGQ 3 [] rfl kr kr kr kr kr kr hnp (Sg.g0 (Sx.of [] fL HS31)) (fun w_ hw_ => by obtain ⟨g_, hl_, hS_⟩ := hw_.st; exact run_load rfl Tryz.underlying3 rfl (kv (.pointer (some ⟨b1, 1, none⟩))) (hS_.cell 1)) ?_
   refine takeGL [4, 5, 6, 7] (n := 8) (fuel := 4) #[true, true, true, true, true, true, true, true, false, false, false, false] rfl kr kr kr hnp (Sg.g0 (Sx.of [] fL HS31)) ?_
   refine takeGQ 8 [] rfl kr kr kr kr kr kr hnp (Sg.g0 (Sx.of [] fL HS31)) (fun w_ hw_ => by obtain ⟨g_, hl_, hS_⟩ := hw_.st; exact run_load rfl Tryz.underlying22 rfl (kv (.pointer (some ⟨b1, 0, none⟩))) (hS_.cell 0)) ?_
   have hq_ := guard_some h; clear h; obtain ⟨c32, h⟩ := hq_
   have c32 : ¬ ((s3.L.length : Int) = 0) := c32
   refine takeGL [9] (n := 3) (fuel := 2) #[true, true, true, true, true, true, true, true, true, true, false, false] rfl kr kr kr hnp (Sg.g0 (Sx.of [] fL HS31)) ?_
   refine takeGQ 10 [] rfl kr kr kr kr kr kr hnp (Sg.g0 (Sx.of [] fL HS31)) (fun w_ hw_ => by obtain ⟨g_, hl_, hS_⟩ := hw_.st; exact run_rem rfl (kv (.int .i64 (w64 ((w64 (s3.vat + 1)) - 1)))) (kv (.int .i64 (s3.L.length : Int))) c32 w_) ?_
   refine takeGL [11] (n := 1) (fuel := 0) #[true, true, true, true, true, true, true, true, true, true, true, true] rfl kr kr kr hnp (Sg.g0 (Sx.of [] fL HS31)) ?_
   refine doneG kr ?_ _
   refine hK29 _ _ ?_
   refine wp_seq_k (fun K33 hK34 => ?_)
   refine heldG (S := Sg t f ([(b1, .cells #[.slice A4 s3.L.length c5, .int .i64 (w64 (s3.vat + 1))] 26 (0, 0))] :: H) []) (n := 12) kr rfl HS31 ?_
   intro W35 HS36
   refine takeGL [0, 1, 2] (n := 12) (fuel := 9) #[true, true, true, false, false, false, false, false, false, false, false, false] rfl kr kr kr hnp (Sg.g0 (Sx.of [] fL HS36)) ?_
   refine takeGQ 3 [] rfl kr kr kr kr kr kr hnp (Sg.g0 (Sx.of [] fL HS36)) (fun w_ hw_ => by obtain ⟨g_, hl_, hS_⟩ := hw_.st; exact run_load rfl Tryz.underlying3 rfl (kv (.pointer (some ⟨b1, 1, none⟩))) (hS_.cell 1)) ?_
   refine takeGL [4, 5, 6, 7] (n := 8) (fuel := 4) #[true, true, true, true, true, true, true, true, false, false, false, false] rfl kr kr kr hnp (Sg.g0 (Sx.of [] fL HS36)) ?_
   refine takeGQ 8 [] rfl kr kr kr kr kr kr hnp (Sg.g0 (Sx.of [] fL HS36)) (fun w_ hw_ => by obtain ⟨g_, hl_, hS_⟩ := hw_.st; exact run_load rfl Tryz.underlying22 rfl (kv (.pointer (some ⟨b1, 0, none⟩))) (hS_.cell 0)) ?_
   refine takeGL [9] (n := 3) (fuel := 2) #[true, true, true, true, true, true, true, true, true, true, false, false] rfl kr kr kr hnp (Sg.g0 (Sx.of [] fL HS36)) ?_
   refine takeGQ 10 [] rfl kr kr kr kr kr kr hnp (Sg.g0 (Sx.of [] fL HS36)) (fun w_ hw_ => by obtain ⟨g_, hl_, hS_⟩ := hw_.st; exact run_div rfl (kv (.int .i64 (w64 ((w64 (s3.vat + 1)) - 1)))) (kv (.int .i64 (s3.L.length : Int))) c32 w_) ?_
   refine takeGL [11] (n := 1) (fuel := 0) #[true, true, true, true, true, true, true, true, true, true, true, true] rfl kr kr kr hnp (Sg.g0 (Sx.of [] fL HS36)) ?_
   refine doneG kr ?_ _
   refine hK34 _ _ ?_
   refine wp_seq_k fun K37 hK38 => rl ?_
   refine seqL3 kr ?_
   refine seqK rfl (does_run (run_load rfl Tryz.underlying22 rfl (kv (.pointer (some ⟨b1, 0, none⟩))) (HS36.cell 0)) ?_)
   have hq_ := guard_some h; clear h; obtain ⟨c39, h⟩ := hq_
   have c39 : 0 ≤ (Int.tmod (w64 ((w64 (s3.vat + 1)) - 1)) (s3.L.length : Int)) := c39
   have hq_ := guard_some h; clear h; obtain ⟨c40, h⟩ := hq_
   have c40 : (Int.tmod (w64 ((w64 (s3.vat + 1)) - 1)) (s3.L.length : Int)) < (s3.L.length : Int) := c40
   obtain ⟨b44, of45, cs41, hA46, hr42, hc43⟩ := HR6.at (i := Int.tmod (w64 ((w64 (s3.vat + 1)) - 1)) (s3.L.length : Int)) c39 c40
   obtain rfl := hr42
   refine seqL1 kr ?_
   refine seqK rfl (does_run (run_indexE hA46 (sz := 1) rfl Tryz.underlying22 kr (kv (.slice A4 s3.L.length c5)) (kv (.int .i64 (Int.tmod (w64 ((w64 (s3.vat + 1)) - 1)) (s3.L.length : Int)))) c39 c40 W35) ?_)
   refine seqK rfl (does_run (run_load rfl Tryz.underlying3 rfl (kv (.pointer (some ⟨b44, of45 + (Int.tmod (w64 ((w64 (s3.vat + 1)) - 1)) (s3.L.length : Int) : Int).toNat * 1, none⟩))) ((hc43 fL HS36) 0 (by decide))) ?_)
   have hq_ := bind_some h; clear h; obtain ⟨vt47, hc48, h⟩ := hq_
   refine seqK rfl (does_call (f := 9) (args := #[.int .i64 (rd s3.L (Int.tmod (w64 ((w64 (s3.vat + 1)) - 1)) (s3.L.length : Int))), .int .i64 1073741824]) kr (spymake_Below.calls k (rd s3.L (Int.tmod (w64 ((w64 (s3.vat + 1)) - 1)) (s3.L.length : Int))) 1073741824 HS36 vt47 hc48) ?_)
   rintro _ W51 ⟨f49, rfl, L50, HS52⟩
   refine ⟨_, rfl, ?_⟩
   have hq_ := bind_some h; clear h; obtain ⟨vt53, hc54, h⟩ := hq_
   refine seqL6 kr ?_
   refine seqK rfl (does_call (f := 9) (args := #[.int .i64 (w64 (vt47 + (w64 ((w64 (Int.tdiv (w64 ((w64 (s3.vat + 1)) - 1)) (s3.L.length : Int))) * (w64 (7919 + (Int.tmod (w64 ((w64 (s3.vat + 1)) - 1)) (s3.L.length : Int)))))))), .int .i64 n7]) kr (spymake_Below.calls k (w64 (vt47 + (w64 ((w64 (Int.tdiv (w64 ((w64 (s3.vat + 1)) - 1)) (s3.L.length : Int))) * (w64 (7919 + (Int.tmod (w64 ((w64 (s3.vat + 1)) - 1)) (s3.L.length : Int)))))))) n7 HS52 vt53 hc54) ?_)
   rintro _ W57 ⟨f55, rfl, L56, HS58⟩
   refine ⟨_, rfl, ?_⟩
   refine seqL1 kr ?_
   refine nl (hK38 _ _ ?_)
   refine wp_ret ?_
   refine hret _ _ ?_
   refine ends_still (v := Value.int .i64 vt53) kr kr ?_
   injection h with h
   injection h with h0_ h
   subst h0_ h
   exact ⟨f55, rfl, (L50.trans L56), HS58⟩

set_option maxRecDepth 100000 in
set_option maxHeartbeats 4000000 in
theorem spymake_Stream_Range.calls (k : Nat) (b1 : Nat) (A4 : Option Addr) (c5 : Nat) (s3 : S_Stream) (low7 : Int) (high8 : Int) {t w : World} {f : FM} {H : List Seg} (HS : St t w f ([(b1, .cells #[.slice A4 s3.L.length c5, .int .i64 s3.vat] 26 (0, 0))] :: H)) (HR6 : SlR (tInt .i64) f A4 c5 s3.L) (rr1 : Int) (rr2 : Int) (h : spymake_Stream_Range k s3 low7 high8 = some (rr1, rr2)) :
    Calls Tryz.prog 27 #[.pointer (some ⟨b1, 0, none⟩), .int .i64 low7, .int .i64 high8] w (fun e w' => ∃ (g : FM), e = .returned (Value.int .i64 rr1) ∧ FM.le f g ∧ St t w' g ([(b1, .cells #[.slice A4 s3.L.length c5, .int .i64 rr2] 26 (0, 0))] :: H)) := by
 unfold spymake_Stream_Range at h
 refine enter Tryz.func27 rfl (tm := #[pV b1 0, iV low7, iV high8, uV, uV, uV, uV, uV, uV, uV, uV, uV, uV, uV, uV, uV, uV, uV, uV]) kr ?_
 intro B hret hnor hnp
 refine wp_seq_k fun K9 hK10 => rl ?_
 refine seqL1 kr ?_
 refine nl (hK10 _ _ ?_)
 refine wp_seq_k (fun K11 hK12 => ?_)
 refine wp_seq_k fun K13 hK14 => rl ?_
 refine seqL3 kr ?_
 refine nl (hK14 _ _ ?_)
 have hq_ := ite_some h; clear h; rcases hq_ with ⟨c16, h⟩ | ⟨c16, h⟩
 · have c16 : high8 < low7 := c16
   refine wpRwI 9 kr (decide_eq_true c16) ?_
   refine condT kr ?_
   refine wp_seq_k fun K17 hK18 => rl ?_
   refine seqL2 kr ?_
   refine nl (hK18 _ _ ?_)
   refine wp_ret ?_
   refine hret _ _ ?_
   refine ends_still (v := Value.int .i64 low7) kr kr ?_
   injection h with h
   injection h with h0_ h
   subst h0_ h
   exact ⟨f, rfl, FM.le.refl _, HS⟩
 · have c16 : ¬ (high8 < low7) := c16
   refine wpRwI 9 kr (decide_eq_false c16) ?_
   refine condF kr ?_
   refine wp_skip ?_
   refine hK12 _ _ ?_
   refine wp_seq_k fun K19 hK20 => rl ?_
   have hq_ := bind_some h; clear h; obtain ⟨⟨vt21, vt22⟩, hc23, h⟩ := hq_
   refine seqL6 kr ?_
   refine seqK rfl (does_call (f := 20) (args := #[.pointer (some ⟨b1, 0, none⟩), .int .i64 (w64 ((w64 (high8 - low7)) + 1))]) kr (spymake_Stream_Next.calls k b1 A4 c5 s3 (w64 ((w64 (high8 - low7)) + 1)) HS HR6 vt21 vt22 hc23) ?_)
   rintro _ W26 ⟨f24, rfl, L25, HS27⟩
   refine ⟨_, rfl, ?_⟩
   refine seqL2 kr ?_
   refine nl (hK20 _ _ ?_)
   refine wp_ret ?_
   refine hret _ _ ?_
   refine ends_still (v := Value.int .i64 (w64 (low7 + vt21))) kr kr ?_
   injection h with h
   injection h with h0_ h
   subst h0_ h
   exact ⟨f24, rfl, L25, HS27⟩

set_option maxRecDepth 100000 in
set_option maxHeartbeats 4000000 in
theorem spymake_Stream_Vec.calls (k : Nat) (b1 : Nat) (A4 : Option Addr) (c5 : Nat) (s3 : S_Stream) {t w : World} {f : FM} {H : List Seg} (HS : St t w f ([(b1, .cells #[.slice A4 s3.L.length c5, .int .i64 s3.vat] 26 (0, 0))] :: H)) (HR6 : SlR (tInt .i64) f A4 c5 s3.L) (rr1 : S_Vec) (rr2 : Int) (h : spymake_Stream_Vec k s3 = some (rr1, rr2)) :
    Calls Tryz.prog 13 #[.pointer (some ⟨b1, 0, none⟩)] w (fun e w' => ∃ (g : FM), e = .returned (Value.agg #[.int .i64 rr1.X, .int .i64 rr1.Y, .int .i64 rr1.Z]) ∧ FM.le f g ∧ St t w' g ([(b1, .cells #[.slice A4 s3.L.length c5, .int .i64 rr2] 26 (0, 0))] :: H)) := by
 unfold spymake_Stream_Vec at h
 refine enter Tryz.func13 rfl (tm := #[pV b1 0, uV, uV, uV, uV, uV, uV, uV, uV, uV, uV, uV, uV, uV, uV, uV, uV, uV, uV, uV, uV, uV, uV, uV, uV, uV, uV, uV, uV, uV, uV]) kr ?_
 intro B hret hnor hnp
 refine wp_seq_k fun K7 hK8 => rl ?_
 refine seqK rfl (does_alloc (z := Value.agg #[.int .i64 0, .int .i64 0, .int .i64 0]) (cs := #[.int .i64 0, .int .i64 0, .int .i64 0]) rfl kr rfl HS ?_)
 intro b9 W10 HS11
 refine nl (hK8 _ _ ?_)
 refine wp_seq_k fun K13 hK14 => rl ?_
 refine seqK rfl (does_lit (e := (tInt .i64)) (E := 3) (vs := #[(0, Value.int .i64 3), (1, Value.int .i64 100), (2, Value.int .i64 5000), (3, Value.int .i64 1048576)]) (cs := #[.int .i64 3, .int .i64 100, .int .i64 5000, .int .i64 1048576]) (xs := ([3, 100, 5000, 1048576] : List Int)) rfl Tryz.underlying22 kr kr ⟨[.int .i64 3], _, rfl, rfl, ⟨[.int .i64 100], _, rfl, rfl, ⟨[.int .i64 5000], _, rfl, rfl, ⟨[.int .i64 1048576], _, rfl, rfl, rfl⟩⟩⟩⟩ rfl HS11 ?_ (by decide))
 intro b15 W16 s17 HS18 _ HO19
 have HS21 := HS18.u2
 have hq_ := bind_some h; clear h; obtain ⟨⟨vt22, vt23⟩, hc24, h⟩ := hq_
 refine seqL1 kr ?_
 refine seqK rfl (does_call (f := 20) (args := #[.pointer (some ⟨b1, 0, none⟩), .int .i64 4]) kr (spymake_Stream_Next.calls k b1 A4 c5 s3 4 HS21 HR6 vt22 vt23 hc24) ?_)
 rintro _ W27 ⟨f25, rfl, L26, HS28⟩
 refine ⟨_, rfl, ?_⟩
 have hq_ := guard_some h; clear h; obtain ⟨c29, h⟩ := hq_
 have c29 : 0 ≤ vt22 := c29
 have hq_ := guard_some h; clear h; obtain ⟨c30, h⟩ := hq_
 have c30 : vt22 < (([3, 100, 5000, 1048576] : List Int).length : Int) := c30
 obtain ⟨cs31, hr32, hc33⟩ := (HO19.mono L26).at' (i := vt22) c29 c30
 obtain rfl := hr32
 refine seqK rfl (does_run (run_index (sz := 1) rfl Tryz.underlying22 kr (kv (.slice (some ⟨b15, 0, none⟩) ([3, 100, 5000, 1048576] : List Int).length 4)) (kv (.int .i64 vt22)) c29 c30 W27) ?_)
 refine seqK rfl (does_run (run_load rfl Tryz.underlying3 rfl (kv (.pointer (some ⟨b15, 0 + (vt22 : Int).toNat * 1, none⟩))) ((hc33 HS28.u1) 0 (by decide))) ?_)
 refine seqL1 kr ?_
 refine nl (hK14 _ _ ?_)
 refine wp_seq_k fun K34 hK35 => rl ?_
 have hq_ := bind_some h; clear h; obtain ⟨⟨vt36, vt37⟩, hc38, h⟩ := hq_
 refine seqL4 kr ?_
 refine seqK rfl (does_call (f := 27) (args := #[.pointer (some ⟨b1, 0, none⟩), .int .i64 (w64 (0 - (rd ([3, 100, 5000, 1048576] : List Int) vt22))), .int .i64 (rd ([3, 100, 5000, 1048576] : List Int) vt22)]) kr (spymake_Stream_Range.calls k b1 A4 c5 (⟨s3.L, vt23⟩ : S_Stream) (w64 (0 - (rd ([3, 100, 5000, 1048576] : List Int) vt22))) (rd ([3, 100, 5000, 1048576] : List Int) vt22) HS28 (HR6.mono L26) vt36 vt37 hc38) ?_)
 rintro _ W41 ⟨f39, rfl, L40, HS42⟩
 refine ⟨_, rfl, ?_⟩
 have hq_ := bind_some h; clear h; obtain ⟨⟨vt43, vt44⟩, hc45, h⟩ := hq_
 refine seqL4 kr ?_
 refine seqK rfl (does_call (f := 27) (args := #[.pointer (some ⟨b1, 0, none⟩), .int .i64 (w64 (0 - (rd ([3, 100, 5000, 1048576] : List Int) vt22))), .int .i64 (rd ([3, 100, 5000, 1048576] : List Int) vt22)]) kr (spymake_Stream_Range.calls k b1 A4 c5 (⟨s3.L, vt37⟩ : S_Stream) (w64 (0 - (rd ([3, 100, 5000, 1048576] : List Int) vt22))) (rd ([3, 100, 5000, 1048576] : List Int) vt22) HS42 (HR6.mono (L26.trans L40)) vt43 vt44 hc45) ?_)
 rintro _ W48 ⟨f46, rfl, L47, HS49⟩
 refine ⟨_, rfl, ?_⟩
 have hq_ := bind_some h; clear h; obtain ⟨⟨vt50, vt51⟩, hc52, h⟩ := hq_
 refine seqL4 kr ?_
 refine seqK rfl (does_call (f := 27) (args := #[.pointer (some ⟨b1, 0, none⟩), .int .i64 (w64 (0 - (rd ([3, 100, 5000, 1048576] : List Int) vt22))), .int .i64 (rd ([3, 100, 5000, 1048576] : List Int) vt22)]) kr (spymake_Stream_Range.calls k b1 A4 c5 (⟨s3.L, vt44⟩ : S_Stream) (w64 (0 - (rd ([3, 100, 5000, 1048576] : List Int) vt22))) (rd ([3, 100, 5000, 1048576] : List Int) vt22) HS49 (HR6.mono (L26.trans (L40.trans L47))) vt50 vt51 hc52) ?_)
 rintro _ W55 ⟨f53, rfl, L54, HS56⟩
 refine ⟨_, rfl, ?_⟩
 refine seqL1 kr ?_
 refine seqK rfl (does_alloc (z := Value.agg #[.int .i64 0, .int .i64 0, .int .i64 0]) (cs := #[.int .i64 0, .int .i64 0, .int .i64 0]) rfl kr rfl HS56 ?_)
 intro b57 W58 HS59
 refine seqK rfl (does_storeA (vs := [.int .i64 vt36, .int .i64 vt43, .int .i64 vt50]) rfl kr kr kr rfl (ones rfl) HS59 kr ?_)
 intro W61 HS62
 refine nl (hK35 _ _ ?_)
 refine wp_seq_k (fun K63 hK64 => ?_)
 refine wp_seq_k fun K65 hK66 => rl ?_
 refine seqK rfl (does_run (run_loadN (n := 3) rfl Tryz.underlying39 rfl kr (kv (.pointer (some ⟨b57, 0, none⟩))) (cs := [.int .i64 vt36, .int .i64 vt43, .int .i64 vt50]) rfl (HS62.cells 0 3 _ rfl)) ?_)
 refine seqL1 kr ?_
 refine seqK rfl (does_run (run_eqS (b := ((vt36 == 0) && ((vt43 == 0) && ((vt50 == 0) && true)))) rfl (kv (.agg #[.int .i64 vt36, .int .i64 vt43, .int .i64 vt50])) (kv (.agg #[.int .i64 0, .int .i64 0, .int .i64 0])) kr kr W61) ?_)
 refine nl (hK66 _ _ ?_)
 have hq_ := ite_some h; clear h; rcases hq_ with ⟨c68, h⟩ | ⟨c68, h⟩
 · have c68 : ((vt36 == 0) && ((vt43 == 0) && ((vt50 == 0) && true))) = true := c68
   refine wpRwI 28 kr c68 ?_
   refine condT kr ?_
   refine rl ?_
   refine seqL1 kr ?_
   refine seqK rfl (does_store (n := 1) (vs := [.int .i64 1]) (cs' := #[.int .i64 1, .int .i64 vt43, .int .i64 vt50]) rfl kr (kv (.pointer (some ⟨b57, 0, none⟩))) (kv (.int .i64 1)) rfl rfl (ones rfl) HS62 (Nat.le_of_ble_eq_true rfl) kr ?_)
   intro W69 HS70
   refine nl (hK64 _ _ ?_)
   refine wp_seq_k fun K71 hK72 => rl ?_
   refine seqK rfl (does_run (run_loadN (n := 3) rfl Tryz.underlying39 rfl kr (kv (.pointer (some ⟨b57, 0, none⟩))) (cs := [.int .i64 1, .int .i64 vt43, .int .i64 vt50]) rfl (HS70.cells 0 3 _ rfl)) ?_)
   have HS73 := HS70.u3
   refine seqK rfl (does_storeA (vs := [.int .i64 1, .int .i64 vt43, .int .i64 vt50]) rfl kr kr kr rfl (ones rfl) HS73 kr ?_)
   intro W74 HS75
   refine nl (hK72 _ _ ?_)
   refine wp_ret ?_
   refine hret _ _ ?_
   refine ends (v := Value.agg #[.int .i64 1, .int .i64 vt43, .int .i64 vt50]) (results1 (q1 := .cell 2 39) kr (resN (n := 3) (cs := [.int .i64 1, .int .i64 vt43, .int .i64 vt50]) (kv (.pointer (some ⟨b9, 0, none⟩))) Tryz.underlying39 rfl kr rfl (HS75.cells 0 3 _ rfl))) kr ?_
   have HS84 := HS75.u2.u3.u3.u3
   have HS85 := HS84.drop
   have HS86 := HS85.drop
   have HS87 := HS86.drop
   injection h with h
   injection h with h0_ h
   subst h0_ h
   exact ⟨f53, rfl, (L26.trans (L40.trans (L47.trans L54))), HS87⟩
 · have c68 : ¬ (((vt36 == 0) && ((vt43 == 0) && ((vt50 == 0) && true))) = true) := c68
   refine wpRwI 28 kr (Bool.eq_false_iff.mpr c68) ?_
   refine condF kr ?_
   refine wp_skip ?_
   refine hK64 _ _ ?_
   refine wp_seq_k fun K76 hK77 => rl ?_
   refine seqK rfl (does_run (run_loadN (n := 3) rfl Tryz.underlying39 rfl kr (kv (.pointer (some ⟨b57, 0, none⟩))) (cs := [.int .i64 vt36, .int .i64 vt43, .int .i64 vt50]) rfl (HS62.cells 0 3 _ rfl)) ?_)
   have HS78 := HS62.u3
   refine seqK rfl (does_storeA (vs := [.int .i64 vt36, .int .i64 vt43, .int .i64 vt50]) rfl kr kr kr rfl (ones rfl) HS78 kr ?_)
   intro W79 HS80
   refine nl (hK77 _ _ ?_)
   refine wp_ret ?_
   refine hret _ _ ?_
   refine ends (v := Value.agg #[.int .i64 vt36, .int .i64 vt43, .int .i64 vt50]) (results1 (q1 := .cell 2 39) kr (resN (n := 3) (cs := [.int .i64 vt36, .int .i64 vt43, .int .i64 vt50]) (kv (.pointer (some ⟨b9, 0, none⟩))) Tryz.underlying39 rfl kr rfl (HS80.cells 0 3 _ rfl))) kr ?_
   have HS91 := HS80.u2.u3.u3.u3
   have HS92 := HS91.drop
   have HS93 := HS92.drop
   have HS94 := HS93.drop
   injection h with h
   injection h with h0_ h
   subst h0_ h
   exact ⟨f53, rfl, (L26.trans (L40.trans (L47.trans L54))), HS94⟩

set_option maxRecDepth 100000 in
set_option maxHeartbeats 4000000 in
theorem spymake_Stream_Box_1.calls (k : Nat) (b1 : Nat) (b3 : Nat) (A8 : Option Addr) (c9 : Nat) (b5 : Nat) (v7 : S_Stream) (v11 : Int) (c12 : Int) {t w : World} {f : FM} {H : List Seg} (HS : St t w f ([(b1, .cells #[.pointer (some ⟨b3, 0, none⟩)] 24 (0, 0))] :: [(b3, .cells #[.slice A8 v7.L.length c9, .int .i64 v7.vat] 26 (0, 0))] :: [(b5, .cells #[.int .i64 v11] 3 (0, 0))] :: H)) (HR10 : SlR (tInt .i64) f A8 c9 v7.L) (rr1 : S_Bound) (rr2 : Int) (h : spymake_Stream_Box_1 k v7 v11 c12 = some (rr1, rr2)) :
    Calls Tryz.prog 30 #[.int .i64 c12, .pointer (some ⟨b1, 0, none⟩), .pointer (some ⟨b5, 0, none⟩)] w (fun e w' => ∃ (g : FM), e = .returned (Value.agg #[.int .i64 rr1.Lo, .int .i64 rr1.Hi, .bool rr1.Unknown]) ∧ FM.le f g ∧ St t w' g ([(b1, .cells #[.pointer (some ⟨b3, 0, none⟩)] 24 (0, 0))] :: [(b3, .cells #[.slice A8 v7.L.length c9, .int .i64 rr2] 26 (0, 0))] :: [(b5, .cells #[.int .i64 v11] 3 (0, 0))] :: H)) := by
 unfold spymake_Stream_Box_1 at h
 refine enter Tryz.func30 rfl (tm := #[iV c12, pV b1 0, pV b5 0, uV, uV, uV, uV, uV, uV, uV, uV, uV, uV, uV, uV, uV, uV, uV]) kr ?_
 intro B hret hnor hnp
 refine wp_seq_k fun K13 hK14 => rl ?_
 refine seqK rfl (does_alloc (z := Value.agg #[.int .i64 0, .int .i64 0, .bool false]) (cs := #[.int .i64 0, .int .i64 0, .bool false]) rfl kr rfl HS ?_)
 intro b15 W16 HS17
 refine nl (hK14 _ _ ?_)
 refine wp_seq_k (fun K19 hK20 => ?_)
 have HS24 := HS17.u3.u2.u3.u3
 refine heldG (S := Sg t f ([(b1, .cells #[.pointer (some ⟨b3, 0, none⟩)] 24 (0, 0))] :: [(b5, .cells #[.int .i64 v11] 3 (0, 0))] :: H) [(13, [(b15, .cells #[.int .i64 0, .int .i64 0, .bool false] 29 (0, 0))]), (4, [(b3, .cells #[.slice A8 v7.L.length c9, .int .i64 v7.vat] 26 (0, 0))])]) (n := 14) kr rfl HS24 ?_
 intro W25 HS26
 refine takeGL [0] (n := 14) (fuel := 13) #[true, false, false, false, false, false, false, false, false, false, false, false, false, false] rfl kr kr kr hnp (Sg.g2 (Sx.of [[(b15, .cells #[.int .i64 0, .int .i64 0, .bool false] 29 (0, 0))], [(b3, .cells #[.slice A8 v7.L.length c9, .int .i64 v7.vat] 26 (0, 0))]] fL HS26) (fun _ => St.only [] HS26 fL) (fun _ => St.only [[(b15, .cells #[.int .i64 0, .int .i64 0, .bool false] 29 (0, 0))]] HS26 fL)) ?_
 refine takeGQ 1 [] rfl kr kr kr kr kr kr hnp (Sg.g2 (Sx.of [[(b15, .cells #[.int .i64 0, .int .i64 0, .bool false] 29 (0, 0))], [(b3, .cells #[.slice A8 v7.L.length c9, .int .i64 v7.vat] 26 (0, 0))]] fL HS26) (fun _ => St.only [] HS26 fL) (fun _ => St.only [[(b15, .cells #[.int .i64 0, .int .i64 0, .bool false] 29 (0, 0))]] HS26 fL)) (fun w_ hw_ => by obtain ⟨g_, hl_, hS_⟩ := hw_.st; exact run_load rfl Tryz.underlying24 rfl (kv (.pointer (some ⟨b1, 0, none⟩))) (hS_.cell 0)) ?_
 refine takeGQ 2 [] rfl kr kr kr kr kr kr hnp (Sg.g2 (Sx.of [[(b15, .cells #[.int .i64 0, .int .i64 0, .bool false] 29 (0, 0))], [(b3, .cells #[.slice A8 v7.L.length c9, .int .i64 v7.vat] 26 (0, 0))]] fL HS26) (fun _ => St.only [] HS26 fL) (fun _ => St.only [[(b15, .cells #[.int .i64 0, .int .i64 0, .bool false] 29 (0, 0))]] HS26 fL)) (fun w_ hw_ => by obtain ⟨g_, hl_, hS_⟩ := hw_.st; exact run_load rfl Tryz.underlying3 rfl (kv (.pointer (some ⟨b5, 0, none⟩))) (hS_.u1.cell 0)) ?_
 refine takeGL [3, 6] (n := 11) (fuel := 9) #[true, true, true, true, false, false, true, false, false, false, false, false, false, false] rfl kr kr kr hnp (Sg.g2 (Sx.of [[(b15, .cells #[.int .i64 0, .int .i64 0, .bool false] 29 (0, 0))], [(b3, .cells #[.slice A8 v7.L.length c9, .int .i64 v7.vat] 26 (0, 0))]] fL HS26) (fun _ => St.only [] HS26 fL) (fun _ => St.only [[(b15, .cells #[.int .i64 0, .int .i64 0, .bool false] 29 (0, 0))]] HS26 fL)) ?_
 refine takeGQ 7 [] rfl kr kr kr kr kr kr hnp (Sg.g2 (Sx.of [[(b15, .cells #[.int .i64 0, .int .i64 0, .bool false] 29 (0, 0))], [(b3, .cells #[.slice A8 v7.L.length c9, .int .i64 v7.vat] 26 (0, 0))]] fL HS26) (fun _ => St.only [] HS26 fL) (fun _ => St.only [[(b15, .cells #[.int .i64 0, .int .i64 0, .bool false] 29 (0, 0))]] HS26 fL)) (fun w_ hw_ => by obtain ⟨g_, hl_, hS_⟩ := hw_.st; exact run_load rfl Tryz.underlying24 rfl (kv (.pointer (some ⟨b1, 0, none⟩))) (hS_.cell 0)) ?_
 refine takeGQ 8 [] rfl kr kr kr kr kr kr hnp (Sg.g2 (Sx.of [[(b15, .cells #[.int .i64 0, .int .i64 0, .bool false] 29 (0, 0))], [(b3, .cells #[.slice A8 v7.L.length c9, .int .i64 v7.vat] 26 (0, 0))]] fL HS26) (fun _ => St.only [] HS26 fL) (fun _ => St.only [[(b15, .cells #[.int .i64 0, .int .i64 0, .bool false] 29 (0, 0))]] HS26 fL)) (fun w_ hw_ => by obtain ⟨g_, hl_, hS_⟩ := hw_.st; exact run_load rfl Tryz.underlying3 rfl (kv (.pointer (some ⟨b5, 0, none⟩))) (hS_.u1.cell 0)) ?_
 refine takeGL [9] (n := 7) (fuel := 6) #[true, true, true, true, false, false, true, true, true, true, false, false, false, false] rfl kr kr kr hnp (Sg.g2 (Sx.of [[(b15, .cells #[.int .i64 0, .int .i64 0, .bool false] 29 (0, 0))], [(b3, .cells #[.slice A8 v7.L.length c9, .int .i64 v7.vat] 26 (0, 0))]] fL HS26) (fun _ => St.only [] HS26 fL) (fun _ => St.only [[(b15, .cells #[.int .i64 0, .int .i64 0, .bool false] 29 (0, 0))]] HS26 fL)) ?_
 have HS27 := HS26.u1
 have hq_ := bind_some h; clear h; obtain ⟨⟨vt28, vt29⟩, hc30, h⟩ := hq_
 refine takeGE 4 kr rfl kr (does_call (f := 20) (args := #[.pointer (some ⟨b3, 0, none⟩), .int .i64 (w64 (v11 + 1))]) kr (spymake_Stream_Next.calls k b3 A8 c9 v7 (w64 (v11 + 1)) HS27 HR10 vt28 vt29 hc30) ?_)
 rintro _ W33 ⟨f31, rfl, L32, HS34⟩
 refine ⟨_, rfl, ?_⟩
 refine ⟨(Sg.g2 (Sx.of [[(b3, .cells #[.slice A8 v7.L.length c9, .int .i64 vt29] 26 (0, 0))], [(b15, .cells #[.int .i64 0, .int .i64 0, .bool false] 29 (0, 0))]] L32 HS34) (fun _ => St.only [[(b3, .cells #[.slice A8 v7.L.length c9, .int .i64 vt29] 26 (0, 0))]] HS34 L32) (fun hl_ => Bool.noConfusion (show true = false from hl_))), ?_⟩
 refine takeGL [5] (n := 5) (fuel := 4) #[true, true, true, true, true, true, true, true, true, true, false, false, false, false] rfl kr kr kr hnp (Sg.g2 (Sx.of [[(b3, .cells #[.slice A8 v7.L.length c9, .int .i64 vt29] 26 (0, 0))], [(b15, .cells #[.int .i64 0, .int .i64 0, .bool false] 29 (0, 0))]] L32 HS34) (fun _ => St.only [[(b3, .cells #[.slice A8 v7.L.length c9, .int .i64 vt29] 26 (0, 0))]] HS34 L32) (fun hl_ => Bool.noConfusion (show true = false from hl_))) ?_
 have hq_ := bind_some h; clear h; obtain ⟨⟨vt35, vt36⟩, hc37, h⟩ := hq_
 refine takeGE 10 kr rfl kr (does_call (f := 20) (args := #[.pointer (some ⟨b3, 0, none⟩), .int .i64 (w64 (v11 + 1))]) kr (spymake_Stream_Next.calls k b3 A8 c9 (⟨v7.L, vt29⟩ : S_Stream) (w64 (v11 + 1)) HS34 (HR10.mono L32) vt35 vt36 hc37) ?_)
 rintro _ W40 ⟨f38, rfl, L39, HS41⟩
 refine ⟨_, rfl, ?_⟩
 refine ⟨(Sg.g2 (Sx.of [[(b3, .cells #[.slice A8 v7.L.length c9, .int .i64 vt36] 26 (0, 0))], [(b15, .cells #[.int .i64 0, .int .i64 0, .bool false] 29 (0, 0))]] (L32.trans L39) HS41) (fun _ => St.only [[(b3, .cells #[.slice A8 v7.L.length c9, .int .i64 vt36] 26 (0, 0))]] HS41 (L32.trans L39)) (fun hl_ => Bool.noConfusion (show true = false from hl_))), ?_⟩
 refine takeGL [11, 12] (n := 3) (fuel := 1) #[true, true, true, true, true, true, true, true, true, true, true, true, true, false] rfl kr kr kr hnp (Sg.g2 (Sx.of [[(b3, .cells #[.slice A8 v7.L.length c9, .int .i64 vt36] 26 (0, 0))], [(b15, .cells #[.int .i64 0, .int .i64 0, .bool false] 29 (0, 0))]] (L32.trans L39) HS41) (fun _ => St.only [[(b3, .cells #[.slice A8 v7.L.length c9, .int .i64 vt36] 26 (0, 0))]] HS41 (L32.trans L39)) (fun hl_ => Bool.noConfusion (show true = false from hl_))) ?_
 have HS42 := HS41.u1
 refine takeGE 13 kr rfl kr (does_storeA (vs := [.int .i64 (w64 (c12 - vt28)), .int .i64 (w64 (c12 + vt35)), .bool false]) rfl kr kr kr rfl (ones rfl) HS42 kr ?_)
 intro W43 HS44
 refine ⟨(Sg.g2 (Sx.of [[(b15, .cells #[.int .i64 (w64 (c12 - vt28)), .int .i64 (w64 (c12 + vt35)), .bool false] 29 (0, 0))], [(b3, .cells #[.slice A8 v7.L.length c9, .int .i64 vt36] 26 (0, 0))]] (L32.trans L39) HS44) (fun hl_ => Bool.noConfusion (show true = false from hl_)) (fun hl_ => Bool.noConfusion (show true = false from hl_))), ?_⟩
 refine doneG kr ?_ _
 refine hK20 _ _ ?_
 refine wp_ret ?_
 refine hret _ _ ?_
 refine ends (v := Value.agg #[.int .i64 (w64 (c12 - vt28)), .int .i64 (w64 (c12 + vt35)), .bool false]) (results1 (q1 := .cell 4 29) kr (resN (n := 3) (cs := [.int .i64 (w64 (c12 - vt28)), .int .i64 (w64 (c12 + vt35)), .bool false]) (kv (.pointer (some ⟨b15, 0, none⟩))) Tryz.underlying29 rfl kr rfl (HS44.cells 0 3 _ rfl))) kr ?_
 have HS48 := HS44.u3.u2.u3.u3
 have HS49 := HS48.drop
 injection h with h
 injection h with h0_ h
 subst h0_ h
 exact ⟨f38, rfl, (L32.trans L39), HS49⟩

set_option maxRecDepth 100000 in
set_option maxHeartbeats 4000000 in
theorem spymake_Stream_Box.calls (k : Nat) (b1 : Nat) (A4 : Option Addr) (c5 : Nat) (s3 : S_Stream) {t w : World} {f : FM} {H : List Seg} (HS : St t w f ([(b1, .cells #[.slice A4 s3.L.length c5, .int .i64 s3.vat] 26 (0, 0))] :: H)) (HR6 : SlR (tInt .i64) f A4 c5 s3.L) (rr1 : S_Box) (rr2 : Int) (h : spymake_Stream_Box k s3 = some (rr1, rr2)) :
    Calls Tryz.prog 8 #[.pointer (some ⟨b1, 0, none⟩)] w (fun e w' => ∃ (g : FM), e = .returned (Value.agg #[.int .i64 rr1.X.Lo, .int .i64 rr1.X.Hi, .bool rr1.X.Unknown, .int .i64 rr1.Y.Lo, .int .i64 rr1.Y.Hi, .bool rr1.Y.Unknown, .int .i64 rr1.Z.Lo, .int .i64 rr1.Z.Hi, .bool rr1.Z.Unknown]) ∧ FM.le f g ∧ St t w' g ([(b1, .cells #[.slice A4 s3.L.length c5, .int .i64 rr2] 26 (0, 0))] :: H)) := by
 unfold spymake_Stream_Box at h
 refine enter Tryz.func8 rfl (tm := #[pV b1 0, uV, uV, uV, uV, uV, uV, uV, uV, uV, uV, uV, uV, uV, uV, uV, uV, uV, uV, uV, uV, uV, uV, uV, uV, uV, uV, uV, uV, uV, uV, uV, uV, uV, uV, uV]) kr ?_
 intro B hret hnor hnp
 refine wp_seq_k fun K7 hK8 => rl ?_
 refine seqK rfl (does_box (cs := #[.pointer (some ⟨b1, 0, none⟩)]) rfl (kv (.pointer (some ⟨b1, 0, none⟩))) rfl HS ?_)
 intro b9 W10 HS11
 refine seqK rfl (does_alloc (z := Value.agg #[.int .i64 0, .int .i64 0, .bool false, .int .i64 0, .int .i64 0, .bool false, .int .i64 0, .int .i64 0, .bool false]) (cs := #[.int .i64 0, .int .i64 0, .bool false, .int .i64 0, .int .i64 0, .bool false, .int .i64 0, .int .i64 0, .bool false]) rfl kr rfl HS11 ?_)
 intro b13 W14 HS15
 refine nl (hK8 _ _ ?_)
 refine wp_seq_k fun K17 hK18 => rl ?_
 refine seqK rfl (does_run (run_load rfl Tryz.underlying24 rfl (kv (.pointer (some ⟨b9, 0, none⟩))) (HS15.u1.cell 0)) ?_)
 have HS19 := HS15.u2
 have hq_ := bind_some h; clear h; obtain ⟨⟨vt20, vt21⟩, hc22, h⟩ := hq_
 refine seqK rfl (does_call (f := 13) (args := #[.pointer (some ⟨b1, 0, none⟩)]) kr (spymake_Stream_Vec.calls k b1 A4 c5 s3 HS19 HR6 vt20 vt21 hc22) ?_)
 rintro _ W25 ⟨f23, rfl, L24, HS26⟩
 refine ⟨_, rfl, ?_⟩
 refine seqK rfl (does_alloc (z := Value.agg #[.int .i64 0, .int .i64 0, .int .i64 0]) (cs := #[.int .i64 0, .int .i64 0, .int .i64 0]) rfl kr rfl HS26 ?_)
 intro b27 W28 HS29
 refine seqK rfl (does_storeA (vs := [.int .i64 vt20.X, .int .i64 vt20.Y, .int .i64 vt20.Z]) rfl kr kr kr rfl (ones rfl) HS29 kr ?_)
 intro W31 HS32
 refine nl (hK18 _ _ ?_)
 refine wp_seq_k (fun K33 hK34 => ?_)
 refine wp_seq_k fun K35 hK36 => rl ?_
 refine seqK rfl (does_run (run_load rfl Tryz.underlying24 rfl (kv (.pointer (some ⟨b9, 0, none⟩))) (HS32.u3.cell 0)) ?_)
 have HS37 := HS32.u1
 have hq_ := bind_some h; clear h; obtain ⟨⟨vt38, vt39⟩, hc40, h⟩ := hq_
 refine seqK rfl (does_call (f := 20) (args := #[.pointer (some ⟨b1, 0, none⟩), .int .i64 10]) kr (spymake_Stream_Next.calls k b1 A4 c5 (⟨s3.L, vt21⟩ : S_Stream) 10 HS37 (HR6.mono L24) vt38 vt39 hc40) ?_)
 rintro _ W43 ⟨f41, rfl, L42, HS44⟩
 refine ⟨_, rfl, ?_⟩
 refine seqL1 kr ?_
 refine nl (hK36 _ _ ?_)
 have hq_ := ite_some h; clear h; rcases hq_ with ⟨c46, h⟩ | ⟨c46, h⟩
 · have c46 : vt38 = 0 := c46
   refine wpRwI 11 kr (beq_iff_eq.mpr c46) ?_
   refine condT kr ?_
   refine wp_seq_k fun K47 hK48 => rl ?_
   refine seqL1 kr ?_
   refine seqK rfl (does_alloc (z := Value.agg #[.int .i64 0, .int .i64 0, .bool false]) (cs := #[.int .i64 0, .int .i64 0, .bool false]) rfl kr rfl HS44 ?_)
   intro b49 W50 HS51
   refine seqK rfl (does_storeA (vs := [.int .i64 0, .int .i64 0, .bool true]) rfl kr kr kr rfl (ones rfl) HS51 kr ?_)
   intro W53 HS54
   refine nl (hK48 _ _ ?_)
   refine wp_seq_k fun K55 hK56 => rl ?_
   refine seqK rfl (does_run (run_loadN (n := 3) rfl Tryz.underlying29 rfl kr (kv (.pointer (some ⟨b49, 0, none⟩))) (cs := [.int .i64 0, .int .i64 0, .bool true]) rfl (HS54.cells 0 3 _ rfl)) ?_)
   refine seqK rfl (does_run (run_loadN (n := 3) rfl Tryz.underlying29 rfl kr (kv (.pointer (some ⟨b49, 0, none⟩))) (cs := [.int .i64 0, .int .i64 0, .bool true]) rfl (HS54.cells 0 3 _ rfl)) ?_)
   refine seqK rfl (does_run (run_loadN (n := 3) rfl Tryz.underlying29 rfl kr (kv (.pointer (some ⟨b49, 0, none⟩))) (cs := [.int .i64 0, .int .i64 0, .bool true]) rfl (HS54.cells 0 3 _ rfl)) ?_)
   have HS57 := HS54.u3
   refine seqL1 kr ?_
   refine seqK rfl (does_storeA (vs := [.int .i64 0, .int .i64 0, .bool true, .int .i64 0, .int .i64 0, .bool true, .int .i64 0, .int .i64 0, .bool true]) rfl kr kr kr rfl (ones rfl) HS57 kr ?_)
   intro W58 HS59
   refine nl (hK56 _ _ ?_)
   refine wp_ret ?_
   refine hret _ _ ?_
   refine ends (v := Value.agg #[.int .i64 0, .int .i64 0, .bool true, .int .i64 0, .int .i64 0, .bool true, .int .i64 0, .int .i64 0, .bool true]) (results1 (q1 := .cell 2 31) kr (resN (n := 9) (cs := [.int .i64 0, .int .i64 0, .bool true, .int .i64 0, .int .i64 0, .bool true, .int .i64 0, .int .i64 0, .bool true]) (kv (.pointer (some ⟨b13, 0, none⟩))) Tryz.underlying31 rfl kr rfl (HS59.cells 0 9 _ rfl))) kr ?_
   have HS154 := HS59.u2.u4.u4.u4.u4
   have HS155 := HS154.drop
   have HS156 := HS155.drop
   have HS157 := HS156.drop
   have HS158 := HS157.drop
   injection h with h
   injection h with h0_ h
   subst h0_ h
   exact ⟨f41, rfl, (L24.trans L42), HS158⟩
 · have c46 : ¬ (vt38 = 0) := c46
   refine wpRwI 11 kr (beq_eq_false_iff_ne.mpr c46) ?_
   refine condF kr ?_
   refine wp_skip ?_
   refine hK34 _ _ ?_
   refine wp_seq_k fun K60 hK61 => rl ?_
   refine seqK rfl (does_lit (e := (tInt .i64)) (E := 3) (vs := #[(0, Value.int .i64 0), (1, Value.int .i64 2), (2, Value.int .i64 300), (3, Value.int .i64 262144)]) (cs := #[.int .i64 0, .int .i64 2, .int .i64 300, .int .i64 262144]) (xs := ([0, 2, 300, 262144] : List Int)) rfl Tryz.underlying22 kr kr ⟨[.int .i64 0], _, rfl, rfl, ⟨[.int .i64 2], _, rfl, rfl, ⟨[.int .i64 300], _, rfl, rfl, ⟨[.int .i64 262144], _, rfl, rfl, rfl⟩⟩⟩⟩ rfl HS44 ?_ (by decide))
   intro b62 W63 s64 HS65 _ HO66
   refine seqK rfl (does_run (run_load rfl Tryz.underlying24 rfl (kv (.pointer (some ⟨b9, 0, none⟩))) (HS65.u4.cell 0)) ?_)
   have HS68 := HS65.u1
   have hq_ := bind_some h; clear h; obtain ⟨⟨vt69, vt70⟩, hc71, h⟩ := hq_
   refine seqK rfl (does_call (f := 20) (args := #[.pointer (some ⟨b1, 0, none⟩), .int .i64 4]) kr (spymake_Stream_Next.calls k b1 A4 c5 (⟨s3.L, vt39⟩ : S_Stream) 4 HS68 (HR6.mono (L24.trans L42)) vt69 vt70 hc71) ?_)
   rintro _ W74 ⟨f72, rfl, L73, HS75⟩
   refine ⟨_, rfl, ?_⟩
   have hq_ := guard_some h; clear h; obtain ⟨c76, h⟩ := hq_
   have c76 : 0 ≤ vt69 := c76
   have hq_ := guard_some h; clear h; obtain ⟨c77, h⟩ := hq_
   have c77 : vt69 < (([0, 2, 300, 262144] : List Int).length : Int) := c77
   obtain ⟨cs78, hr79, hc80⟩ := (HO66.mono L73).at' (i := vt69) c76 c77
   obtain rfl := hr79
   refine seqK rfl (does_run (run_index (sz := 1) rfl Tryz.underlying22 kr (kv (.slice (some ⟨b62, 0, none⟩) ([0, 2, 300, 262144] : List Int).length 4)) (kv (.int .i64 vt69)) c76 c77 W74) ?_)
   refine seqK rfl (does_run (run_load rfl Tryz.underlying3 rfl (kv (.pointer (some ⟨b62, 0 + (vt69 : Int).toNat * 1, none⟩))) ((hc80 HS75.u1) 0 (by decide))) ?_)
   refine seqK rfl (does_alloc (z := Value.int .i64 0) (cs := #[.int .i64 0]) rfl kr rfl HS75 ?_)
   intro b81 W82 HS83
   refine seqK rfl (does_store (n := 1) (vs := [.int .i64 (rd ([0, 2, 300, 262144] : List Int) vt69)]) (cs' := #[.int .i64 (rd ([0, 2, 300, 262144] : List Int) vt69)]) rfl kr (kv (.pointer (some ⟨b81, 0, none⟩))) (kv (.int .i64 (rd ([0, 2, 300, 262144] : List Int) vt69))) rfl rfl (ones rfl) HS83 (Nat.le_of_ble_eq_true rfl) kr ?_)
   intro W85 HS86
   refine nl (hK61 _ _ ?_)
   refine wp_seq_k fun K87 hK88 => rl ?_
   refine seqL2 kr ?_
   refine nl (hK88 _ _ ?_)
   refine wp_seq_k (fun K89 hK90 => ?_)
   have HS96 := HS86.u3.u3.u2.u5.u5.u5
   refine heldG (S := Sg t f72 ([(b81, .cells #[.int .i64 (rd ([0, 2, 300, 262144] : List Int) vt69)] 3 (0, 0))] :: s64 :: [(b27, .cells #[.int .i64 vt20.X, .int .i64 vt20.Y, .int .i64 vt20.Z] 39 (0, 0))] :: H) [(3, [(b1, .cells #[.slice A4 s3.L.length c5, .int .i64 vt70] 26 (0, 0))]), (13, [(b13, .cells #[.int .i64 0, .int .i64 0, .bool false, .int .i64 0, .int .i64 0, .bool false, .int .i64 0, .int .i64 0, .bool false] 31 (0, 0))]), (3, [(b9, .cells #[.pointer (some ⟨b1, 0, none⟩)] 24 (0, 0))])]) (n := 14) kr rfl HS96 ?_
   intro W97 HS98
   refine takeGL [0, 1] (n := 14) (fuel := 12) #[true, true, false, false, false, false, false, false, false, false, false, false, false, false] rfl kr kr kr hnp (Sg.g3 (Sx.of [[(b1, .cells #[.slice A4 s3.L.length c5, .int .i64 vt70] 26 (0, 0))], [(b13, .cells #[.int .i64 0, .int .i64 0, .bool false, .int .i64 0, .int .i64 0, .bool false, .int .i64 0, .int .i64 0, .bool false] 31 (0, 0))], [(b9, .cells #[.pointer (some ⟨b1, 0, none⟩)] 24 (0, 0))]] fL HS98) (fun _ => St.only [] HS98 fL) (fun _ => St.only [[(b1, .cells #[.slice A4 s3.L.length c5, .int .i64 vt70] 26 (0, 0))]] HS98 fL) (fun _ => St.only [[(b1, .cells #[.slice A4 s3.L.length c5, .int .i64 vt70] 26 (0, 0))], [(b13, .cells #[.int .i64 0, .int .i64 0, .bool false, .int .i64 0, .int .i64 0, .bool false, .int .i64 0, .int .i64 0, .bool false] 31 (0, 0))]] HS98 fL)) ?_
   refine takeGQ 2 [] rfl kr kr kr kr kr kr hnp (Sg.g3 (Sx.of [[(b1, .cells #[.slice A4 s3.L.length c5, .int .i64 vt70] 26 (0, 0))], [(b13, .cells #[.int .i64 0, .int .i64 0, .bool false, .int .i64 0, .int .i64 0, .bool false, .int .i64 0, .int .i64 0, .bool false] 31 (0, 0))], [(b9, .cells #[.pointer (some ⟨b1, 0, none⟩)] 24 (0, 0))]] fL HS98) (fun _ => St.only [] HS98 fL) (fun _ => St.only [[(b1, .cells #[.slice A4 s3.L.length c5, .int .i64 vt70] 26 (0, 0))]] HS98 fL) (fun _ => St.only [[(b1, .cells #[.slice A4 s3.L.length c5, .int .i64 vt70] 26 (0, 0))], [(b13, .cells #[.int .i64 0, .int .i64 0, .bool false, .int .i64 0, .int .i64 0, .bool false, .int .i64 0, .int .i64 0, .bool false] 31 (0, 0))]] HS98 fL)) (fun w_ hw_ => by obtain ⟨g_, hl_, hS_⟩ := hw_.st; exact run_load rfl Tryz.underlying2 rfl (kv (.pointer (some ⟨b27, 0, none⟩))) (hS_.u2.cell 0)) ?_
   refine takeGL [4, 5] (n := 11) (fuel := 9) #[true, true, true, false, true, true, false, false, false, false, false, false, false, false] rfl kr kr kr hnp (Sg.g3 (Sx.of [[(b1, .cells #[.slice A4 s3.L.length c5, .int .i64 vt70] 26 (0, 0))], [(b13, .cells #[.int .i64 0, .int .i64 0, .bool false, .int .i64 0, .int .i64 0, .bool false, .int .i64 0, .int .i64 0, .bool false] 31 (0, 0))], [(b9, .cells #[.pointer (some ⟨b1, 0, none⟩)] 24 (0, 0))]] fL HS98) (fun _ => St.only [] HS98 fL) (fun _ => St.only [[(b1, .cells #[.slice A4 s3.L.length c5, .int .i64 vt70] 26 (0, 0))]] HS98 fL) (fun _ => St.only [[(b1, .cells #[.slice A4 s3.L.length c5, .int .i64 vt70] 26 (0, 0))], [(b13, .cells #[.int .i64 0, .int .i64 0, .bool false, .int .i64 0, .int .i64 0, .bool false, .int .i64 0, .int .i64 0, .bool false] 31 (0, 0))]] HS98 fL)) ?_
   refine takeGQ 6 [] rfl kr kr kr kr kr kr hnp (Sg.g3 (Sx.of [[(b1, .cells #[.slice A4 s3.L.length c5, .int .i64 vt70] 26 (0, 0))], [(b13, .cells #[.int .i64 0, .int .i64 0, .bool false, .int .i64 0, .int .i64 0, .bool false, .int .i64 0, .int .i64 0, .bool false] 31 (0, 0))], [(b9, .cells #[.pointer (some ⟨b1, 0, none⟩)] 24 (0, 0))]] fL HS98) (fun _ => St.only [] HS98 fL) (fun _ => St.only [[(b1, .cells #[.slice A4 s3.L.length c5, .int .i64 vt70] 26 (0, 0))]] HS98 fL) (fun _ => St.only [[(b1, .cells #[.slice A4 s3.L.length c5, .int .i64 vt70] 26 (0, 0))], [(b13, .cells #[.int .i64 0, .int .i64 0, .bool false, .int .i64 0, .int .i64 0, .bool false, .int .i64 0, .int .i64 0, .bool false] 31 (0, 0))]] HS98 fL)) (fun w_ hw_ => by obtain ⟨g_, hl_, hS_⟩ := hw_.st; exact run_load rfl Tryz.underlying2 rfl (kv (.pointer (some ⟨b27, 1, none⟩))) (hS_.u2.cell 1)) ?_
   refine takeGL [8, 9] (n := 8) (fuel := 6) #[true, true, true, false, true, true, true, false, true, true, false, false, false, false] rfl kr kr kr hnp (Sg.g3 (Sx.of [[(b1, .cells #[.slice A4 s3.L.length c5, .int .i64 vt70] 26 (0, 0))], [(b13, .cells #[.int .i64 0, .int .i64 0, .bool false, .int .i64 0, .int .i64 0, .bool false, .int .i64 0, .int .i64 0, .bool false] 31 (0, 0))], [(b9, .cells #[.pointer (some ⟨b1, 0, none⟩)] 24 (0, 0))]] fL HS98) (fun _ => St.only [] HS98 fL) (fun _ => St.only [[(b1, .cells #[.slice A4 s3.L.length c5, .int .i64 vt70] 26 (0, 0))]] HS98 fL) (fun _ => St.only [[(b1, .cells #[.slice A4 s3.L.length c5, .int .i64 vt70] 26 (0, 0))], [(b13, .cells #[.int .i64 0, .int .i64 0, .bool false, .int .i64 0, .int .i64 0, .bool false, .int .i64 0, .int .i64 0, .bool false] 31 (0, 0))]] HS98 fL)) ?_
   refine takeGQ 10 [] rfl kr kr kr kr kr kr hnp (Sg.g3 (Sx.of [[(b1, .cells #[.slice A4 s3.L.length c5, .int .i64 vt70] 26 (0, 0))], [(b13, .cells #[.int .i64 0, .int .i64 0, .bool false, .int .i64 0, .int .i64 0, .bool false, .int .i64 0, .int .i64 0, .bool false] 31 (0, 0))], [(b9, .cells #[.pointer (some ⟨b1, 0, none⟩)] 24 (0, 0))]] fL HS98) (fun _ => St.only [] HS98 fL) (fun _ => St.only [[(b1, .cells #[.slice A4 s3.L.length c5, .int .i64 vt70] 26 (0, 0))]] HS98 fL) (fun _ => St.only [[(b1, .cells #[.slice A4 s3.L.length c5, .int .i64 vt70] 26 (0, 0))], [(b13, .cells #[.int .i64 0, .int .i64 0, .bool false, .int .i64 0, .int .i64 0, .bool false, .int .i64 0, .int .i64 0, .bool false] 31 (0, 0))]] HS98 fL)) (fun w_ hw_ => by obtain ⟨g_, hl_, hS_⟩ := hw_.st; exact run_load rfl Tryz.underlying2 rfl (kv (.pointer (some ⟨b27, 2, none⟩))) (hS_.u2.cell 2)) ?_
   have HS101 := HS98.u3.u1.u3
   have hq_ := bind_some h; clear h; obtain ⟨⟨vt102, vt103⟩, hc104, h⟩ := hq_
   refine takeGE 3 kr rfl kr (does_call (f := 30) (args := #[.int .i64 vt20.X, .pointer (some ⟨b9, 0, none⟩), .pointer (some ⟨b81, 0, none⟩)]) kr (spymake_Stream_Box_1.calls k b9 b1 A4 c5 b81 (⟨s3.L, vt70⟩ : S_Stream) (rd ([0, 2, 300, 262144] : List Int) vt69) vt20.X HS101 (HR6.mono (L24.trans (L42.trans L73))) vt102 vt103 hc104) ?_)
   rintro _ W107 ⟨f105, rfl, L106, HS108⟩
   refine ⟨_, rfl, ?_⟩
   have HS114 := HS108.u5.u5.u4.u5.u5.u5
   refine ⟨(Sg.g3 (Sx.of [[(b9, .cells #[.pointer (some ⟨b1, 0, none⟩)] 24 (0, 0))], [(b1, .cells #[.slice A4 s3.L.length c5, .int .i64 vt103] 26 (0, 0))], [(b13, .cells #[.int .i64 0, .int .i64 0, .bool false, .int .i64 0, .int .i64 0, .bool false, .int .i64 0, .int .i64 0, .bool false] 31 (0, 0))]] L106 HS114) (fun hl_ => Bool.noConfusion (show true = false from hl_)) (fun _ => St.only [[(b9, .cells #[.pointer (some ⟨b1, 0, none⟩)] 24 (0, 0))], [(b1, .cells #[.slice A4 s3.L.length c5, .int .i64 vt103] 26 (0, 0))]] HS114 L106) (fun hl_ => Bool.noConfusion (show true = false from hl_))), ?_⟩
   have HS117 := HS114.u3.u2.u2
   have hq_ := bind_some h; clear h; obtain ⟨⟨vt118, vt119⟩, hc120, h⟩ := hq_
   refine takeGE 7 kr rfl kr (does_call (f := 30) (args := #[.int .i64 vt20.Y, .pointer (some ⟨b9, 0, none⟩), .pointer (some ⟨b81, 0, none⟩)]) kr (spymake_Stream_Box_1.calls k b9 b1 A4 c5 b81 (⟨s3.L, vt103⟩ : S_Stream) (rd ([0, 2, 300, 262144] : List Int) vt69) vt20.Y HS117 (HR6.mono (L24.trans (L42.trans (L73.trans L106)))) vt118 vt119 hc120) ?_)
   rintro _ W123 ⟨f121, rfl, L122, HS124⟩
   refine ⟨_, rfl, ?_⟩
   have HS130 := HS124.u5.u5.u4.u5.u5.u5
   refine ⟨(Sg.g3 (Sx.of [[(b9, .cells #[.pointer (some ⟨b1, 0, none⟩)] 24 (0, 0))], [(b1, .cells #[.slice A4 s3.L.length c5, .int .i64 vt119] 26 (0, 0))], [(b13, .cells #[.int .i64 0, .int .i64 0, .bool false, .int .i64 0, .int .i64 0, .bool false, .int .i64 0, .int .i64 0, .bool false] 31 (0, 0))]] (L106.trans L122) HS130) (fun hl_ => Bool.noConfusion (show true = false from hl_)) (fun _ => St.only [[(b9, .cells #[.pointer (some ⟨b1, 0, none⟩)] 24 (0, 0))], [(b1, .cells #[.slice A4 s3.L.length c5, .int .i64 vt119] 26 (0, 0))]] HS130 (L106.trans L122)) (fun hl_ => Bool.noConfusion (show true = false from hl_))), ?_⟩
   have HS133 := HS130.u3.u2.u2
   have hq_ := bind_some h; clear h; obtain ⟨⟨vt134, vt135⟩, hc136, h⟩ := hq_
   refine takeGE 11 kr rfl kr (does_call (f := 30) (args := #[.int .i64 vt20.Z, .pointer (some ⟨b9, 0, none⟩), .pointer (some ⟨b81, 0, none⟩)]) kr (spymake_Stream_Box_1.calls k b9 b1 A4 c5 b81 (⟨s3.L, vt119⟩ : S_Stream) (rd ([0, 2, 300, 262144] : List Int) vt69) vt20.Z HS133 (HR6.mono (L24.trans (L42.trans (L73.trans (L106.trans L122))))) vt134 vt135 hc136) ?_)
   rintro _ W139 ⟨f137, rfl, L138, HS140⟩
   refine ⟨_, rfl, ?_⟩
   have HS146 := HS140.u5.u5.u4.u5.u5.u5
   refine ⟨(Sg.g3 (Sx.of [[(b9, .cells #[.pointer (some ⟨b1, 0, none⟩)] 24 (0, 0))], [(b1, .cells #[.slice A4 s3.L.length c5, .int .i64 vt135] 26 (0, 0))], [(b13, .cells #[.int .i64 0, .int .i64 0, .bool false, .int .i64 0, .int .i64 0, .bool false, .int .i64 0, .int .i64 0, .bool false] 31 (0, 0))]] (L106.trans (L122.trans L138)) HS146) (fun hl_ => Bool.noConfusion (show true = false from hl_)) (fun _ => St.only [[(b9, .cells #[.pointer (some ⟨b1, 0, none⟩)] 24 (0, 0))], [(b1, .cells #[.slice A4 s3.L.length c5, .int .i64 vt135] 26 (0, 0))]] HS146 (L106.trans (L122.trans L138))) (fun hl_ => Bool.noConfusion (show true = false from hl_))), ?_⟩
   refine takeGL [12] (n := 2) (fuel := 1) #[true, true, true, true, true, true, true, true, true, true, true, true, true, false] rfl kr kr kr hnp (Sg.g3 (Sx.of [[(b9, .cells #[.pointer (some ⟨b1, 0, none⟩)] 24 (0, 0))], [(b1, .cells #[.slice A4 s3.L.length c5, .int .i64 vt135] 26 (0, 0))], [(b13, .cells #[.int .i64 0, .int .i64 0, .bool false, .int .i64 0, .int .i64 0, .bool false, .int .i64 0, .int .i64 0, .bool false] 31 (0, 0))]] (L106.trans (L122.trans L138)) HS146) (fun hl_ => Bool.noConfusion (show true = false from hl_)) (fun _ => St.only [[(b9, .cells #[.pointer (some ⟨b1, 0, none⟩)] 24 (0, 0))], [(b1, .cells #[.slice A4 s3.L.length c5, .int .i64 vt135] 26 (0, 0))]] HS146 (L106.trans (L122.trans L138))) (fun hl_ => Bool.noConfusion (show true = false from hl_))) ?_
   have HS147 := HS146.u2
   refine takeGE 13 kr rfl kr (does_storeA (vs := [.int .i64 vt102.Lo, .int .i64 vt102.Hi, .bool vt102.Unknown, .int .i64 vt118.Lo, .int .i64 vt118.Hi, .bool vt118.Unknown, .int .i64 vt134.Lo, .int .i64 vt134.Hi, .bool vt134.Unknown]) rfl kr kr kr rfl (ones rfl) HS147 kr ?_)
   intro W148 HS149
   refine ⟨(Sg.g3 (Sx.of [[(b13, .cells #[.int .i64 vt102.Lo, .int .i64 vt102.Hi, .bool vt102.Unknown, .int .i64 vt118.Lo, .int .i64 vt118.Hi, .bool vt118.Unknown, .int .i64 vt134.Lo, .int .i64 vt134.Hi, .bool vt134.Unknown] 31 (0, 0))], [(b9, .cells #[.pointer (some ⟨b1, 0, none⟩)] 24 (0, 0))], [(b1, .cells #[.slice A4 s3.L.length c5, .int .i64 vt135] 26 (0, 0))]] (L106.trans (L122.trans L138)) HS149) (fun hl_ => Bool.noConfusion (show true = false from hl_)) (fun hl_ => Bool.noConfusion (show true = false from hl_)) (fun hl_ => Bool.noConfusion (show true = false from hl_))), ?_⟩
   refine doneG kr ?_ _
   refine hK90 _ _ ?_
   refine wp_ret ?_
   refine hret _ _ ?_
   refine ends (v := Value.agg #[.int .i64 vt102.Lo, .int .i64 vt102.Hi, .bool vt102.Unknown, .int .i64 vt118.Lo, .int .i64 vt118.Hi, .bool vt118.Unknown, .int .i64 vt134.Lo, .int .i64 vt134.Hi, .bool vt134.Unknown]) (results1 (q1 := .cell 2 31) kr (resN (n := 9) (cs := [.int .i64 vt102.Lo, .int .i64 vt102.Hi, .bool vt102.Unknown, .int .i64 vt118.Lo, .int .i64 vt118.Hi, .bool vt118.Unknown, .int .i64 vt134.Lo, .int .i64 vt134.Hi, .bool vt134.Unknown]) (kv (.pointer (some ⟨b13, 0, none⟩))) Tryz.underlying31 rfl kr rfl (HS149.cells 0 9 _ rfl))) kr ?_
   have HS164 := HS149.u2.u5.u5.u5.u5.u5
   have HS165 := HS164.drop
   have HS166 := HS165.drop
   have HS167 := HS166.drop
   have HS168 := HS167.drop
   have HS169 := HS168.drop
   injection h with h
   injection h with h0_ h
   subst h0_ h
   exact ⟨f137, rfl, (L24.trans (L42.trans (L73.trans (L106.trans (L122.trans L138))))), HS169⟩

set_option maxRecDepth 100000 in
set_option maxHeartbeats 4000000 in
theorem spymake_Bound_Quanta.calls (k : Nat) (b1 : Nat) (A4 : Option Addr) (c5 : Nat) (s3 : S_Stream) (most7 : Int) {t w : World} {f : FM} {H : List Seg} (HS : St t w f ([(b1, .cells #[.slice A4 s3.L.length c5, .int .i64 s3.vat] 26 (0, 0))] :: H)) (HR6 : SlR (tInt .i64) f A4 c5 s3.L) (rr1 : S_Bound) (rr2 : Int) (h : spymake_Bound_Quanta k s3 most7 = some (rr1, rr2)) :
    Calls Tryz.prog 70 #[.pointer (some ⟨b1, 0, none⟩), .int .i64 most7] w (fun e w' => ∃ (g : FM), e = .returned (Value.agg #[.int .i64 rr1.Lo, .int .i64 rr1.Hi, .bool rr1.Unknown]) ∧ FM.le f g ∧ St t w' g ([(b1, .cells #[.slice A4 s3.L.length c5, .int .i64 rr2] 26 (0, 0))] :: H)) := by
 unfold spymake_Bound_Quanta at h
 refine enter Tryz.func70 rfl (tm := #[pV b1 0, iV most7, uV, uV, uV, uV, uV, uV, uV, uV, uV, uV, uV, uV, uV, uV, uV, uV, uV, uV, uV, uV, uV, uV, uV, uV, uV, uV, uV, uV, uV, uV, uV, uV, uV, uV, uV, uV, uV, uV]) kr ?_
 intro B hret hnor hnp
 refine wp_seq_k fun K8 hK9 => rl ?_
 refine seqK rfl (does_alloc (z := Value.agg #[.int .i64 0, .int .i64 0, .bool false]) (cs := #[.int .i64 0, .int .i64 0, .bool false]) rfl kr rfl HS ?_)
 intro b10 W11 HS12
 refine nl (hK9 _ _ ?_)
 refine wp_seq_k (fun K14 hK15 => ?_)
 refine wp_seq_k fun K16 hK17 => rl ?_
 have HS18 := HS12.u1
 have hq_ := bind_some h; clear h; obtain ⟨⟨vt19, vt20⟩, hc21, h⟩ := hq_
 refine seqL1 kr ?_
 refine seqK rfl (does_call (f := 20) (args := #[.pointer (some ⟨b1, 0, none⟩), .int .i64 8]) kr (spymake_Stream_Next.calls k b1 A4 c5 s3 8 HS18 HR6 vt19 vt20 hc21) ?_)
 rintro _ W24 ⟨f22, rfl, L23, HS25⟩
 refine ⟨_, rfl, ?_⟩
 refine nl (hK17 _ _ ?_)
 refine blockK (fun B26 hx27 hn28 hr29 ho30 hp31 => ?_)
 refine wp_seq_k fun K33 hK34 => rl ?_
 refine seqL2 kr ?_
 refine nl (hK34 _ _ ?_)
 have hq_ := ite_some h; clear h; rcases hq_ with ⟨c36, h⟩ | ⟨c36, h⟩
 · have c36 : vt19 = 0 := c36
   refine wpRwI 10 kr (beq_iff_eq.mpr c36) ?_
   refine wpRwI 11 kr (beq_iff_eq.mpr c36) ?_
   refine condT kr ?_
   refine wp_seq_k fun K37 hK38 => rl ?_
   have HS39 := HS25.u1
   refine seqL1 kr ?_
   refine seqK rfl (does_storeA (vs := [.int .i64 0, .int .i64 0, .bool true]) rfl kr kr kr rfl (ones rfl) HS39 kr ?_)
   intro W40 HS41
   refine nl (hK38 _ _ ?_)
   refine wp_ret ?_
   refine hr29 _ _ ?_
   refine hret _ _ ?_
   refine ends (v := Value.agg #[.int .i64 0, .int .i64 0, .bool true]) (results1 (q1 := .cell 4 95) kr (resN (n := 3) (cs := [.int .i64 0, .int .i64 0, .bool true]) (kv (.pointer (some ⟨b10, 0, none⟩))) Tryz.underlying95 rfl kr rfl (HS41.cells 0 3 _ rfl))) kr ?_
   have HS81 := HS41.drop
   injection h with h
   injection h with h0_ h
   subst h0_ h
   exact ⟨f22, rfl, L23, HS81⟩
 · have c36 : ¬ (vt19 = 0) := c36
   refine wpRwI 10 kr (beq_eq_false_iff_ne.mpr c36) ?_
   refine wpRwI 11 kr (beq_eq_false_iff_ne.mpr c36) ?_
   refine condF kr ?_
   refine wp_seq_k fun K42 hK43 => rl ?_
   refine seqL2 kr ?_
   refine nl (hK43 _ _ ?_)
   have hq_ := ite_some h; clear h; rcases hq_ with ⟨c45, h⟩ | ⟨c45, h⟩
   · have c45 : vt19 = 1 := c45
     refine wpRwI 13 kr (beq_iff_eq.mpr c45) ?_
     refine wpRwI 14 kr (beq_iff_eq.mpr c45) ?_
     refine condT kr ?_
     refine wp_seq_k fun K46 hK47 => rl ?_
     have hq_ := bind_some h; clear h; obtain ⟨⟨vt48, vt49⟩, hc50, h⟩ := hq_
     refine seqL4 kr ?_
     refine seqK rfl (does_call (f := 27) (args := #[.pointer (some ⟨b1, 0, none⟩), .int .i64 (w64 (0 - most7)), .int .i64 most7]) kr (spymake_Stream_Range.calls k b1 A4 c5 (⟨s3.L, vt20⟩ : S_Stream) (w64 (0 - most7)) most7 HS25 (HR6.mono L23) vt48 vt49 hc50) ?_)
     rintro _ W53 ⟨f51, rfl, L52, HS54⟩
     refine ⟨_, rfl, ?_⟩
     refine seqL1 kr ?_
     refine nl (hK47 _ _ ?_)
     refine wp_seq_k fun K55 hK56 => rl ?_
     have HS57 := HS54.u1
     refine seqL3 kr ?_
     refine seqK rfl (does_storeA (vs := [.int .i64 vt48, .int .i64 vt48, .bool false]) rfl kr kr kr rfl (ones rfl) HS57 kr ?_)
     intro W58 HS59
     refine nl (hK56 _ _ ?_)
     refine wp_ret ?_
     refine hr29 _ _ ?_
     refine hret _ _ ?_
     refine ends (v := Value.agg #[.int .i64 vt48, .int .i64 vt48, .bool false]) (results1 (q1 := .cell 4 95) kr (resN (n := 3) (cs := [.int .i64 vt48, .int .i64 vt48, .bool false]) (kv (.pointer (some ⟨b10, 0, none⟩))) Tryz.underlying95 rfl kr rfl (HS59.cells 0 3 _ rfl))) kr ?_
     have HS82 := HS59.drop
     injection h with h
     injection h with h0_ h
     subst h0_ h
     exact ⟨f51, rfl, (L23.trans L52), HS82⟩
   · have c45 : ¬ (vt19 = 1) := c45
     refine wpRwI 13 kr (beq_eq_false_iff_ne.mpr c45) ?_
     refine wpRwI 14 kr (beq_eq_false_iff_ne.mpr c45) ?_
     refine condF kr ?_
     refine wp_skip ?_
     refine hn28 _ _ ?_
     refine hK15 _ _ ?_
     refine wp_seq_k fun K60 hK61 => rl ?_
     have hq_ := bind_some h; clear h; obtain ⟨⟨vt62, vt63⟩, hc64, h⟩ := hq_
     refine seqL4 kr ?_
     refine seqK rfl (does_call (f := 27) (args := #[.pointer (some ⟨b1, 0, none⟩), .int .i64 (w64 (0 - most7)), .int .i64 most7]) kr (spymake_Stream_Range.calls k b1 A4 c5 (⟨s3.L, vt20⟩ : S_Stream) (w64 (0 - most7)) most7 HS25 (HR6.mono L23) vt62 vt63 hc64) ?_)
     rintro _ W67 ⟨f65, rfl, L66, HS68⟩
     refine ⟨_, rfl, ?_⟩
     have hq_ := bind_some h; clear h; obtain ⟨⟨vt69, vt70⟩, hc71, h⟩ := hq_
     refine seqL4 kr ?_
     refine seqK rfl (does_call (f := 27) (args := #[.pointer (some ⟨b1, 0, none⟩), .int .i64 (w64 (0 - most7)), .int .i64 most7]) kr (spymake_Stream_Range.calls k b1 A4 c5 (⟨s3.L, vt63⟩ : S_Stream) (w64 (0 - most7)) most7 HS68 (HR6.mono (L23.trans L66)) vt69 vt70 hc71) ?_)
     rintro _ W74 ⟨f72, rfl, L73, HS75⟩
     refine ⟨_, rfl, ?_⟩
     refine seqL2 kr ?_
     refine nl (hK61 _ _ ?_)
     refine wp_seq_k fun K76 hK77 => rl ?_
     have HS78 := HS75.u1
     refine seqL7 kr ?_
     refine seqK rfl (does_storeA (vs := [.int .i64 (mn vt62 vt69), .int .i64 (mx vt62 vt69), .bool false]) rfl kr kr kr rfl (ones rfl) HS78 kr ?_)
     intro W79 HS80
     refine nl (hK77 _ _ ?_)
     refine wp_ret ?_
     refine hret _ _ ?_
     refine ends (v := Value.agg #[.int .i64 (mn vt62 vt69), .int .i64 (mx vt62 vt69), .bool false]) (results1 (q1 := .cell 4 95) kr (resN (n := 3) (cs := [.int .i64 (mn vt62 vt69), .int .i64 (mx vt62 vt69), .bool false]) (kv (.pointer (some ⟨b10, 0, none⟩))) Tryz.underlying95 rfl kr rfl (HS80.cells 0 3 _ rfl))) kr ?_
     have HS83 := HS80.drop
     injection h with h
     injection h with h0_ h
     subst h0_ h
     exact ⟨f72, rfl, (L23.trans (L66.trans L73)), HS83⟩

set_option maxRecDepth 100000 in
set_option maxHeartbeats 4000000 in
theorem spymake_Bound_Tick.calls (k : Nat) (b1 : Nat) (A4 : Option Addr) (c5 : Nat) (s3 : S_Stream) (most7 : Int) {t w : World} {f : FM} {H : List Seg} (HS : St t w f ([(b1, .cells #[.slice A4 s3.L.length c5, .int .i64 s3.vat] 26 (0, 0))] :: H)) (HR6 : SlR (tInt .i64) f A4 c5 s3.L) (rr1 : S_Bound) (rr2 : Int) (h : spymake_Bound_Tick k s3 most7 = some (rr1, rr2)) :
    Calls Tryz.prog 71 #[.pointer (some ⟨b1, 0, none⟩), .int .i64 most7] w (fun e w' => ∃ (g : FM), e = .returned (Value.agg #[.int .i64 rr1.Lo, .int .i64 rr1.Hi, .bool rr1.Unknown]) ∧ FM.le f g ∧ St t w' g ([(b1, .cells #[.slice A4 s3.L.length c5, .int .i64 rr2] 26 (0, 0))] :: H)) := by
 unfold spymake_Bound_Tick at h
 refine enter Tryz.func71 rfl (tm := #[pV b1 0, iV most7, uV, uV, uV, uV, uV, uV, uV, uV, uV, uV, uV, uV, uV, uV, uV, uV, uV, uV, uV, uV, uV, uV, uV, uV, uV, uV, uV, uV, uV, uV, uV, uV, uV, uV, uV, uV, uV, uV]) kr ?_
 intro B hret hnor hnp
 refine wp_seq_k fun K8 hK9 => rl ?_
 refine seqK rfl (does_alloc (z := Value.agg #[.int .i64 0, .int .i64 0, .bool false]) (cs := #[.int .i64 0, .int .i64 0, .bool false]) rfl kr rfl HS ?_)
 intro b10 W11 HS12
 refine nl (hK9 _ _ ?_)
 refine wp_seq_k (fun K14 hK15 => ?_)
 refine wp_seq_k fun K16 hK17 => rl ?_
 have HS18 := HS12.u1
 have hq_ := bind_some h; clear h; obtain ⟨⟨vt19, vt20⟩, hc21, h⟩ := hq_
 refine seqL1 kr ?_
 refine seqK rfl (does_call (f := 20) (args := #[.pointer (some ⟨b1, 0, none⟩), .int .i64 8]) kr (spymake_Stream_Next.calls k b1 A4 c5 s3 8 HS18 HR6 vt19 vt20 hc21) ?_)
 rintro _ W24 ⟨f22, rfl, L23, HS25⟩
 refine ⟨_, rfl, ?_⟩
 refine nl (hK17 _ _ ?_)
 refine blockK (fun B26 hx27 hn28 hr29 ho30 hp31 => ?_)
 refine wp_seq_k fun K33 hK34 => rl ?_
 refine seqL2 kr ?_
 refine nl (hK34 _ _ ?_)
 have hq_ := ite_some h; clear h; rcases hq_ with ⟨c36, h⟩ | ⟨c36, h⟩
 · have c36 : vt19 = 0 := c36
   refine wpRwI 10 kr (beq_iff_eq.mpr c36) ?_
   refine wpRwI 11 kr (beq_iff_eq.mpr c36) ?_
   refine condT kr ?_
   refine wp_seq_k fun K37 hK38 => rl ?_
   have HS39 := HS25.u1
   refine seqL1 kr ?_
   refine seqK rfl (does_storeA (vs := [.int .i64 0, .int .i64 0, .bool true]) rfl kr kr kr rfl (ones rfl) HS39 kr ?_)
   intro W40 HS41
   refine nl (hK38 _ _ ?_)
   refine wp_ret ?_
   refine hr29 _ _ ?_
   refine hret _ _ ?_
   refine ends (v := Value.agg #[.int .i64 0, .int .i64 0, .bool true]) (results1 (q1 := .cell 4 97) kr (resN (n := 3) (cs := [.int .i64 0, .int .i64 0, .bool true]) (kv (.pointer (some ⟨b10, 0, none⟩))) Tryz.underlying97 rfl kr rfl (HS41.cells 0 3 _ rfl))) kr ?_
   have HS81 := HS41.drop
   injection h with h
   injection h with h0_ h
   subst h0_ h
   exact ⟨f22, rfl, L23, HS81⟩
 · have c36 : ¬ (vt19 = 0) := c36
   refine wpRwI 10 kr (beq_eq_false_iff_ne.mpr c36) ?_
   refine wpRwI 11 kr (beq_eq_false_iff_ne.mpr c36) ?_
   refine condF kr ?_
   refine wp_seq_k fun K42 hK43 => rl ?_
   refine seqL2 kr ?_
   refine nl (hK43 _ _ ?_)
   have hq_ := ite_some h; clear h; rcases hq_ with ⟨c45, h⟩ | ⟨c45, h⟩
   · have c45 : vt19 = 1 := c45
     refine wpRwI 13 kr (beq_iff_eq.mpr c45) ?_
     refine wpRwI 14 kr (beq_iff_eq.mpr c45) ?_
     refine condT kr ?_
     refine wp_seq_k fun K46 hK47 => rl ?_
     have hq_ := bind_some h; clear h; obtain ⟨⟨vt48, vt49⟩, hc50, h⟩ := hq_
     refine seqL4 kr ?_
     refine seqK rfl (does_call (f := 27) (args := #[.pointer (some ⟨b1, 0, none⟩), .int .i64 (w64 (0 - most7)), .int .i64 most7]) kr (spymake_Stream_Range.calls k b1 A4 c5 (⟨s3.L, vt20⟩ : S_Stream) (w64 (0 - most7)) most7 HS25 (HR6.mono L23) vt48 vt49 hc50) ?_)
     rintro _ W53 ⟨f51, rfl, L52, HS54⟩
     refine ⟨_, rfl, ?_⟩
     refine seqL1 kr ?_
     refine nl (hK47 _ _ ?_)
     refine wp_seq_k fun K55 hK56 => rl ?_
     have HS57 := HS54.u1
     refine seqL3 kr ?_
     refine seqK rfl (does_storeA (vs := [.int .i64 vt48, .int .i64 vt48, .bool false]) rfl kr kr kr rfl (ones rfl) HS57 kr ?_)
     intro W58 HS59
     refine nl (hK56 _ _ ?_)
     refine wp_ret ?_
     refine hr29 _ _ ?_
     refine hret _ _ ?_
     refine ends (v := Value.agg #[.int .i64 vt48, .int .i64 vt48, .bool false]) (results1 (q1 := .cell 4 97) kr (resN (n := 3) (cs := [.int .i64 vt48, .int .i64 vt48, .bool false]) (kv (.pointer (some ⟨b10, 0, none⟩))) Tryz.underlying97 rfl kr rfl (HS59.cells 0 3 _ rfl))) kr ?_
     have HS82 := HS59.drop
     injection h with h
     injection h with h0_ h
     subst h0_ h
     exact ⟨f51, rfl, (L23.trans L52), HS82⟩
   · have c45 : ¬ (vt19 = 1) := c45
     refine wpRwI 13 kr (beq_eq_false_iff_ne.mpr c45) ?_
     refine wpRwI 14 kr (beq_eq_false_iff_ne.mpr c45) ?_
     refine condF kr ?_
     refine wp_skip ?_
     refine hn28 _ _ ?_
     refine hK15 _ _ ?_
     refine wp_seq_k fun K60 hK61 => rl ?_
     have hq_ := bind_some h; clear h; obtain ⟨⟨vt62, vt63⟩, hc64, h⟩ := hq_
     refine seqL4 kr ?_
     refine seqK rfl (does_call (f := 27) (args := #[.pointer (some ⟨b1, 0, none⟩), .int .i64 (w64 (0 - most7)), .int .i64 most7]) kr (spymake_Stream_Range.calls k b1 A4 c5 (⟨s3.L, vt20⟩ : S_Stream) (w64 (0 - most7)) most7 HS25 (HR6.mono L23) vt62 vt63 hc64) ?_)
     rintro _ W67 ⟨f65, rfl, L66, HS68⟩
     refine ⟨_, rfl, ?_⟩
     have hq_ := bind_some h; clear h; obtain ⟨⟨vt69, vt70⟩, hc71, h⟩ := hq_
     refine seqL4 kr ?_
     refine seqK rfl (does_call (f := 27) (args := #[.pointer (some ⟨b1, 0, none⟩), .int .i64 (w64 (0 - most7)), .int .i64 most7]) kr (spymake_Stream_Range.calls k b1 A4 c5 (⟨s3.L, vt63⟩ : S_Stream) (w64 (0 - most7)) most7 HS68 (HR6.mono (L23.trans L66)) vt69 vt70 hc71) ?_)
     rintro _ W74 ⟨f72, rfl, L73, HS75⟩
     refine ⟨_, rfl, ?_⟩
     refine seqL2 kr ?_
     refine nl (hK61 _ _ ?_)
     refine wp_seq_k fun K76 hK77 => rl ?_
     have HS78 := HS75.u1
     refine seqL7 kr ?_
     refine seqK rfl (does_storeA (vs := [.int .i64 (mn vt62 vt69), .int .i64 (mx vt62 vt69), .bool false]) rfl kr kr kr rfl (ones rfl) HS78 kr ?_)
     intro W79 HS80
     refine nl (hK77 _ _ ?_)
     refine wp_ret ?_
     refine hret _ _ ?_
     refine ends (v := Value.agg #[.int .i64 (mn vt62 vt69), .int .i64 (mx vt62 vt69), .bool false]) (results1 (q1 := .cell 4 97) kr (resN (n := 3) (cs := [.int .i64 (mn vt62 vt69), .int .i64 (mx vt62 vt69), .bool false]) (kv (.pointer (some ⟨b10, 0, none⟩))) Tryz.underlying97 rfl kr rfl (HS80.cells 0 3 _ rfl))) kr ?_
     have HS83 := HS80.drop
     injection h with h
     injection h with h0_ h
     subst h0_ h
     exact ⟨f72, rfl, (L23.trans (L66.trans L73)), HS83⟩

set_option maxRecDepth 100000 in
set_option maxHeartbeats 4000000 in
theorem spymake_Stream_Row.calls (k : Nat) (b1 : Nat) (A4 : Option Addr) (c5 : Nat) (s3 : S_Stream) (vid7 : Int) {t w : World} {f : FM} {H : List Seg} (HS : St t w f ([(b1, .cells #[.slice A4 s3.L.length c5, .int .i64 s3.vat] 26 (0, 0))] :: H)) (HR6 : SlR (tInt .i64) f A4 c5 s3.L) (rr1 : S_Row) (rr2 : Int) (h : spymake_Stream_Row k s3 vid7 = some (rr1, rr2)) :
    Calls Tryz.prog 41 #[.pointer (some ⟨b1, 0, none⟩), .int .i64 vid7] w (fun e w' => ∃ (g : FM) (A219 : Option Addr) (c220 : Nat) (s221 : Seg), e = .returned (Value.agg #[.int .i64 rr1.ID, .int .i64 rr1.Box.X.Lo, .int .i64 rr1.Box.X.Hi, .bool rr1.Box.X.Unknown, .int .i64 rr1.Box.Y.Lo, .int .i64 rr1.Box.Y.Hi, .bool rr1.Box.Y.Unknown, .int .i64 rr1.Box.Z.Lo, .int .i64 rr1.Box.Z.Hi, .bool rr1.Box.Z.Unknown, .int .i64 rr1.Flux.Lo, .int .i64 rr1.Flux.Hi, .bool rr1.Flux.Unknown, .int .i64 rr1.When.Lo, .int .i64 rr1.When.Hi, .bool rr1.When.Unknown, .slice A219 rr1.Frames.length c220, .int .i64 rr1.Marks]) ∧ FM.le f g ∧ St t w' g (s221 :: [(b1, .cells #[.slice A4 s3.L.length c5, .int .i64 rr2] 26 (0, 0))] :: H) ∧ Own (tInt .i64) 3 g A219 c220 s221 rr1.Frames) := by
 unfold spymake_Stream_Row at h
 refine enter Tryz.func41 rfl (tm := #[pV b1 0, iV vid7, uV, uV, uV, uV, uV, uV, uV, uV, uV, uV, uV, uV, uV, uV, uV, uV, uV, uV, uV, uV, uV, uV, uV, uV, uV, uV, uV, uV, uV, uV, uV]) kr ?_
 intro B hret hnor hnp
 refine wp_seq_k fun K8 hK9 => rl ?_
 refine seqK rfl (does_alloc (z := Value.agg #[.int .i64 0, .int .i64 0, .int .i64 0, .bool false, .int .i64 0, .int .i64 0, .bool false, .int .i64 0, .int .i64 0, .bool false, .int .i64 0, .int .i64 0, .bool false, .int .i64 0, .int .i64 0, .bool false, .slice none 0 0, .int .i64 0]) (cs := #[.int .i64 0, .int .i64 0, .int .i64 0, .bool false, .int .i64 0, .int .i64 0, .bool false, .int .i64 0, .int .i64 0, .bool false, .int .i64 0, .int .i64 0, .bool false, .int .i64 0, .int .i64 0, .bool false, .slice none 0 0, .int .i64 0]) rfl kr rfl HS ?_)
 intro b10 W11 HS12
 refine nl (hK9 _ _ ?_)
 refine wp_seq_k fun K14 hK15 => rl ?_
 have HS16 := HS12.u1
 have hq_ := bind_some h; clear h; obtain ⟨⟨vt17, vt18⟩, hc19, h⟩ := hq_
 refine seqL2 kr ?_
 refine seqK rfl (does_call (f := 8) (args := #[.pointer (some ⟨b1, 0, none⟩)]) kr (spymake_Stream_Box.calls k b1 A4 c5 s3 HS16 HR6 vt17 vt18 hc19) ?_)
 rintro _ W22 ⟨f20, rfl, L21, HS23⟩
 refine ⟨_, rfl, ?_⟩
 have hq_ := bind_some h; clear h; obtain ⟨⟨vt24, vt25⟩, hc26, h⟩ := hq_
 refine seqL1 kr ?_
 refine seqK rfl (does_call (f := 70) (args := #[.pointer (some ⟨b1, 0, none⟩), .int .i64 1000]) kr (spymake_Bound_Quanta.calls k b1 A4 c5 (⟨s3.L, vt18⟩ : S_Stream) 1000 HS23 (HR6.mono L21) vt24 vt25 hc26) ?_)
 rintro _ W29 ⟨f27, rfl, L28, HS30⟩
 refine ⟨_, rfl, ?_⟩
 have hq_ := bind_some h; clear h; obtain ⟨⟨vt31, vt32⟩, hc33, h⟩ := hq_
 refine seqL1 kr ?_
 refine seqK rfl (does_call (f := 71) (args := #[.pointer (some ⟨b1, 0, none⟩), .int .i64 5000]) kr (spymake_Bound_Tick.calls k b1 A4 c5 (⟨s3.L, vt25⟩ : S_Stream) 5000 HS30 (HR6.mono (L21.trans L28)) vt31 vt32 hc33) ?_)
 rintro _ W36 ⟨f34, rfl, L35, HS37⟩
 refine ⟨_, rfl, ?_⟩
 have hq_ := bind_some h; clear h; obtain ⟨⟨vt38, vt39⟩, hc40, h⟩ := hq_
 refine seqL1 kr ?_
 refine seqK rfl (does_call (f := 20) (args := #[.pointer (some ⟨b1, 0, none⟩), .int .i64 4]) kr (spymake_Stream_Next.calls k b1 A4 c5 (⟨s3.L, vt32⟩ : S_Stream) 4 HS37 (HR6.mono (L21.trans (L28.trans L35))) vt38 vt39 hc40) ?_)
 rintro _ W43 ⟨f41, rfl, L42, HS44⟩
 refine ⟨_, rfl, ?_⟩
 refine seqL1 kr ?_
 refine seqK rfl (does_alloc (z := Value.agg #[.int .i64 0, .int .i64 0, .int .i64 0, .bool false, .int .i64 0, .int .i64 0, .bool false, .int .i64 0, .int .i64 0, .bool false, .int .i64 0, .int .i64 0, .bool false, .int .i64 0, .int .i64 0, .bool false, .slice none 0 0, .int .i64 0]) (cs := #[.int .i64 0, .int .i64 0, .int .i64 0, .bool false, .int .i64 0, .int .i64 0, .bool false, .int .i64 0, .int .i64 0, .bool false, .int .i64 0, .int .i64 0, .bool false, .int .i64 0, .int .i64 0, .bool false, .slice none 0 0, .int .i64 0]) rfl kr rfl HS44 ?_)
 intro b45 W46 HS47
 refine seqK rfl (does_storeA (vs := [.int .i64 vid7, .int .i64 vt17.X.Lo, .int .i64 vt17.X.Hi, .bool vt17.X.Unknown, .int .i64 vt17.Y.Lo, .int .i64 vt17.Y.Hi, .bool vt17.Y.Unknown, .int .i64 vt17.Z.Lo, .int .i64 vt17.Z.Hi, .bool vt17.Z.Unknown, .int .i64 vt24.Lo, .int .i64 vt24.Hi, .bool vt24.Unknown, .int .i64 vt31.Lo, .int .i64 vt31.Hi, .bool vt31.Unknown, .slice none 0 0, .int .i64 vt38]) rfl kr kr kr rfl (ones rfl) HS47 kr ?_)
 intro W49 HS50
 refine nl (hK15 _ _ ?_)
 refine wp_seq_k fun K51 hK52 => rl ?_
 refine seqL1 kr ?_
 refine nl (hK52 _ _ ?_)
 refine wp_seq_k (fun K53 hK54 => ?_)
 refine wp_seq_k fun K55 hK56 => rl ?_
 have HS57 := HS50.u1
 have hq_ := bind_some h; clear h; obtain ⟨⟨vt58, vt59⟩, hc60, h⟩ := hq_
 refine seqL1 kr ?_
 refine seqK rfl (does_call (f := 27) (args := #[.pointer (some ⟨b1, 0, none⟩), .int .i64 1, .int .i64 3]) kr (spymake_Stream_Range.calls k b1 A4 c5 (⟨s3.L, vt39⟩ : S_Stream) 1 3 HS57 (HR6.mono (L21.trans (L28.trans (L35.trans L42)))) vt58 vt59 hc60) ?_)
 rintro _ W63 ⟨f61, rfl, L62, HS64⟩
 refine ⟨_, rfl, ?_⟩
 refine seqL1 kr ?_
 refine nl (hK56 _ _ ?_)
 refine blockK (fun B65 hx66 hn67 hr68 ho69 hp70 => ?_)
 have hq_ := bind_some h; clear h; obtain ⟨o126, hv199, h⟩ := hq_
 have J200 : ∀ (f187 : FM) (A194 : Option Addr) (c195 : Nat) (s196 : Seg) (x192 : Int) (x193 : List Int) (j191 : Nat → Value) (W189 : World) (a_ : Act), FM.le f61 f187 → some ((x192, x193)) = some o126 → St t W189 f187 (s196 :: [(b1, .cells #[.slice A4 s3.L.length c5, .int .i64 x192] 26 (0, 0))] :: [(b45, .cells #[.int .i64 vid7, .int .i64 vt17.X.Lo, .int .i64 vt17.X.Hi, .bool vt17.X.Unknown, .int .i64 vt17.Y.Lo, .int .i64 vt17.Y.Hi, .bool vt17.Y.Unknown, .int .i64 vt17.Z.Lo, .int .i64 vt17.Z.Hi, .bool vt17.Z.Unknown, .int .i64 vt24.Lo, .int .i64 vt24.Hi, .bool vt24.Unknown, .int .i64 vt31.Lo, .int .i64 vt31.Hi, .bool vt31.Unknown, .slice A194 x193.length c195, .int .i64 vt38] 99 (0, 0))] :: [(b10, .cells #[.int .i64 0, .int .i64 0, .int .i64 0, .bool false, .int .i64 0, .int .i64 0, .bool false, .int .i64 0, .int .i64 0, .bool false, .int .i64 0, .int .i64 0, .bool false, .int .i64 0, .int .i64 0, .bool false, .slice none 0 0, .int .i64 0] 99 (0, 0))] :: H) → Own (tInt .i64) 3 f187 A194 c195 s196 x193 → a_ = ⟨#[pV b1 0, iV vid7, uV, uV, pV b10 0, pV b45 0, (j191 0), iV vid7, pV b1 0, (ag_Box vt17), pV b1 0, (ag_Bound vt24), pV b1 0, (ag_Bound vt31), pV b1 0, iV vt38, .agg #[iV vid7, iV vt17.X.Lo, iV vt17.X.Hi, .bool vt17.X.Unknown, iV vt17.Y.Lo, iV vt17.Y.Hi, .bool vt17.Y.Unknown, iV vt17.Z.Lo, iV vt17.Z.Hi, .bool vt17.Z.Unknown, iV vt24.Lo, iV vt24.Hi, .bool vt24.Unknown, iV vt31.Lo, iV vt31.Hi, .bool vt31.Unknown, .slice none 0 0, iV vt38], pV b1 0, iV vt58, (j191 1), (j191 2), (j191 3), (j191 4), (j191 5), (j191 6), (j191 7), (j191 8), (j191 9), (j191 10), (j191 11), (j191 12), (j191 13), uV], []⟩ → K53 a_ W189 := by
  intro f187 A194 c195 s196 x192 x193 j191 W189 a_ L188 hj201 HS190 HO197 hfr_; subst hfr_
  injection hj201 with hj201; subst hj201; try dsimp only at h
  refine hK54 _ _ ?_
  refine wp_seq_k fun K208 hK209 => rl ?_
  refine seqK rfl (does_run (run_loadN (n := 18) rfl Tryz.underlying99 rfl kr (kv (.pointer (some ⟨b45, 0, none⟩))) (cs := [.int .i64 vid7, .int .i64 vt17.X.Lo, .int .i64 vt17.X.Hi, .bool vt17.X.Unknown, .int .i64 vt17.Y.Lo, .int .i64 vt17.Y.Hi, .bool vt17.Y.Unknown, .int .i64 vt17.Z.Lo, .int .i64 vt17.Z.Hi, .bool vt17.Z.Unknown, .int .i64 vt24.Lo, .int .i64 vt24.Hi, .bool vt24.Unknown, .int .i64 vt31.Lo, .int .i64 vt31.Hi, .bool vt31.Unknown, .slice A194 x193.length c195, .int .i64 vt38]) rfl (HS190.u2.cells 0 18 _ rfl)) ?_)
  have HS210 := HS190.u3
  refine seqK rfl (does_storeA (vs := [.int .i64 vid7, .int .i64 vt17.X.Lo, .int .i64 vt17.X.Hi, .bool vt17.X.Unknown, .int .i64 vt17.Y.Lo, .int .i64 vt17.Y.Hi, .bool vt17.Y.Unknown, .int .i64 vt17.Z.Lo, .int .i64 vt17.Z.Hi, .bool vt17.Z.Unknown, .int .i64 vt24.Lo, .int .i64 vt24.Hi, .bool vt24.Unknown, .int .i64 vt31.Lo, .int .i64 vt31.Hi, .bool vt31.Unknown, .slice A194 x193.length c195, .int .i64 vt38]) rfl kr kr kr rfl (ones rfl) HS210 kr ?_)
  intro W211 HS212
  refine nl (hK209 _ _ ?_)
  refine wp_ret ?_
  refine hret _ _ ?_
  refine ends (v := Value.agg #[.int .i64 vid7, .int .i64 vt17.X.Lo, .int .i64 vt17.X.Hi, .bool vt17.X.Unknown, .int .i64 vt17.Y.Lo, .int .i64 vt17.Y.Hi, .bool vt17.Y.Unknown, .int .i64 vt17.Z.Lo, .int .i64 vt17.Z.Hi, .bool vt17.Z.Unknown, .int .i64 vt24.Lo, .int .i64 vt24.Hi, .bool vt24.Unknown, .int .i64 vt31.Lo, .int .i64 vt31.Hi, .bool vt31.Unknown, .slice A194 x193.length c195, .int .i64 vt38]) (results1 (q1 := .cell 4 99) kr (resN (n := 18) (cs := [.int .i64 vid7, .int .i64 vt17.X.Lo, .int .i64 vt17.X.Hi, .bool vt17.X.Unknown, .int .i64 vt17.Y.Lo, .int .i64 vt17.Y.Hi, .bool vt17.Y.Unknown, .int .i64 vt17.Z.Lo, .int .i64 vt17.Z.Hi, .bool vt17.Z.Unknown, .int .i64 vt24.Lo, .int .i64 vt24.Hi, .bool vt24.Unknown, .int .i64 vt31.Lo, .int .i64 vt31.Hi, .bool vt31.Unknown, .slice A194 x193.length c195, .int .i64 vt38]) (kv (.pointer (some ⟨b10, 0, none⟩))) Tryz.underlying99 rfl kr rfl (HS212.cells 0 18 _ rfl))) kr ?_
  have HS216 := HS212.u2.u2.u3.u3
  have HS217 := HS216.drop
  have HS218 := HS217.drop
  injection h with h
  injection h with h0_ h
  subst h0_ h
  exact ⟨f187, A194, c195, s196, rfl, (L21.trans (L28.trans (L35.trans (L42.trans (L62.trans L188))))), HS218, HO197⟩
 clear h; have h := hv199; clear hv199
 have HS202 := HS64.cons_nil
 refine loopK (fun n_ a_ w_ => ∃ (f130 : FM) (A139 : Option Addr) (c140 : Nat) (s141 : Seg) (n135 : Int) (x136 : Int) (x137 : Int) (x138 : List Int) (j134 : Nat → Value), FM.le f61 f130 ∧ St t w_ f130 (s141 :: [(b1, .cells #[.slice A4 s3.L.length c5, .int .i64 x137] 26 (0, 0))] :: [(b45, .cells #[.int .i64 vid7, .int .i64 vt17.X.Lo, .int .i64 vt17.X.Hi, .bool vt17.X.Unknown, .int .i64 vt17.Y.Lo, .int .i64 vt17.Y.Hi, .bool vt17.Y.Unknown, .int .i64 vt17.Z.Lo, .int .i64 vt17.Z.Hi, .bool vt17.Z.Unknown, .int .i64 vt24.Lo, .int .i64 vt24.Hi, .bool vt24.Unknown, .int .i64 vt31.Lo, .int .i64 vt31.Hi, .bool vt31.Unknown, .slice A139 x138.length c140, .int .i64 vt38] 99 (0, 0))] :: [(b10, .cells #[.int .i64 0, .int .i64 0, .int .i64 0, .bool false, .int .i64 0, .int .i64 0, .bool false, .int .i64 0, .int .i64 0, .bool false, .int .i64 0, .int .i64 0, .bool false, .int .i64 0, .int .i64 0, .bool false, .slice none 0 0, .int .i64 0] 99 (0, 0))] :: H) ∧ Own (tInt .i64) 3 f130 A139 c140 s141 x138 ∧ spymake_Stream_Row.l0 k vt58 s3 n_ n135 x136 x137 x138 = some o126 ∧ a_ = ⟨#[pV b1 0, iV vid7, uV, uV, pV b10 0, pV b45 0, iV n135, iV vid7, pV b1 0, (ag_Box vt17), pV b1 0, (ag_Bound vt24), pV b1 0, (ag_Bound vt31), pV b1 0, iV vt38, .agg #[iV vid7, iV vt17.X.Lo, iV vt17.X.Hi, .bool vt17.X.Unknown, iV vt17.Y.Lo, iV vt17.Y.Hi, .bool vt17.Y.Unknown, iV vt17.Z.Lo, iV vt17.Z.Hi, .bool vt17.Z.Unknown, iV vt24.Lo, iV vt24.Hi, .bool vt24.Unknown, iV vt31.Lo, iV vt31.Hi, .bool vt31.Unknown, .slice none 0 0, iV vt38], pV b1 0, iV vt58, iV x136, (j134 0), (j134 1), (j134 2), (j134 3), (j134 4), (j134 5), (j134 6), (j134 7), (j134 8), (j134 9), (j134 10), (j134 11), uV], []⟩) k ⟨f61, none, 0, [], 0, 0, vt59, ([] : List Int), (jL []), fL, HS202, (Own.nil _), h, kr⟩ ?_
 clear h
 rintro n129 _ W132 ⟨f130, A139, c140, s141, n135, x136, x137, x138, j134, L131, HS133, HO142, h, rfl⟩ K127 hK128
 obtain _ | n129 := n129
 · exact nomatch h
 simp only [spymake_Stream_Row.l0] at h
 refine wp_seq_k fun K144 hK145 => rl ?_
 refine seqL1 kr ?_
 refine nl (hK145 _ _ ?_)
 refine wp_seq_k (fun K146 hK147 => ?_)
 have hq_ := ite_some h; clear h; rcases hq_ with ⟨c149, h⟩ | ⟨c149, h⟩
 · have c149 : x136 < vt58 := c149
   refine wpRwI 20 kr (decide_eq_true c149) ?_
   refine condT kr ?_
   refine wp_skip ?_
   refine hK147 _ _ ?_
   refine wp_seq_k (fun K150 hK151 => ?_)
   refine blockK (fun B152 hx153 hn154 hr155 ho156 hp157 => ?_)
   refine wp_seq_k fun K159 hK160 => rl ?_
   have HS161 := HS133.u1
   have hq_ := bind_some h; clear h; obtain ⟨⟨vt162, vt163⟩, hc164, h⟩ := hq_
   refine seqL2 kr ?_
   refine seqK rfl (does_call (f := 27) (args := #[.pointer (some ⟨b1, 0, none⟩), .int .i64 1, .int .i64 50]) kr (spymake_Stream_Range.calls k b1 A4 c5 (⟨s3.L, x137⟩ : S_Stream) 1 50 HS161 (HR6.mono (L21.trans (L28.trans (L35.trans (L42.trans (L62.trans L131)))))) vt162 vt163 hc164) ?_)
   rintro _ W167 ⟨f165, rfl, L166, HS168⟩
   refine ⟨_, rfl, ?_⟩
   refine seqL2 kr ?_
   refine nl (hK160 _ _ ?_)
   refine rl ?_
   refine seqL1 kr ?_
   refine seqK rfl (does_run (run_load rfl Tryz.underlying22 rfl (kv (.pointer (some ⟨b45, 16, none⟩))) (HS168.u2.cell 16)) ?_)
   refine seqL1 kr ?_
   refine seqK rfl (does_lit (e := (tInt .i64)) (E := 3) (vs := #[(0, Value.int .i64 (w64 (n135 + vt162)))]) (cs := #[.int .i64 (w64 (n135 + vt162))]) (xs := ([w64 (n135 + vt162)] : List Int)) rfl Tryz.underlying22 kr kr ⟨[.int .i64 (w64 (n135 + vt162))], _, rfl, rfl, rfl⟩ rfl HS168 ?_ (by decide))
   intro b169 W170 s171 HS172 _ HO173
   have hq_ := guard_some h; clear h; obtain ⟨c175, h⟩ := hq_
   have c175 : (x138.length + 1) * 8 ≤ 140737488355328 := c175
   have HS177 := HS172.u2.u1
   refine seqK rfl (does_append1 (e := (tInt .i64)) (E := 3) (xs := x138) (ys := ([w64 (n135 + vt162)] : List Int)) rfl (kv (.slice A139 x138.length c140)) (kv (.slice (some ⟨b169, 0, none⟩) ([w64 (n135 + vt162)] : List Int).length 1)) Tryz.underlying22 inf3 (HO142.mono L166) HO173 HS177 c175 (lim63 c175 (by decide)) ?_)
   intro A178 c179 s180 W181 HS182 HO183
   have HS184 := HS182.u2
   refine seqL1 kr ?_
   refine seqK rfl (does_store (n := 1) (vs := [.slice A178 (x138 ++ ([w64 (n135 + vt162)] : List Int)).length c179]) (cs' := #[.int .i64 vid7, .int .i64 vt17.X.Lo, .int .i64 vt17.X.Hi, .bool vt17.X.Unknown, .int .i64 vt17.Y.Lo, .int .i64 vt17.Y.Hi, .bool vt17.Y.Unknown, .int .i64 vt17.Z.Lo, .int .i64 vt17.Z.Hi, .bool vt17.Z.Unknown, .int .i64 vt24.Lo, .int .i64 vt24.Hi, .bool vt24.Unknown, .int .i64 vt31.Lo, .int .i64 vt31.Hi, .bool vt31.Unknown, .slice A178 (x138 ++ ([w64 (n135 + vt162)] : List Int)).length c179, .int .i64 vt38]) rfl kr (kv (.pointer (some ⟨b45, 16, none⟩))) (kv (.slice A178 (x138 ++ ([w64 (n135 + vt162)] : List Int)).length c179)) rfl rfl (ones rfl) HS184 (Nat.le_of_ble_eq_true rfl) kr ?_)
   intro W185 HS186
   refine nl ?_
   refine hn154 _ _ ?_
   refine hK151 _ _ ?_
   refine rl ?_
   refine seqL2 kr ?_
   refine nl ?_
   refine hK128 n129 _ _ (Nat.lt_succ_self _) ?_
   have HS207 := HS186.u3.u1.u3.u3
   exact ⟨f165, A178, c179, s180, (w64 (n135 + vt162)), (w64 (x136 + 1)), vt163, (x138 ++ ([w64 (n135 + vt162)] : List Int)), (jL [tV, iV n135, .pointer (some ⟨b1, 0, none⟩), iV vt162, iV (w64 (n135 + vt162)), .pointer (some ⟨b45, 16, none⟩), .slice A139 x138.length c140, iV (w64 (n135 + vt162)), .slice (some ⟨b169, 0, none⟩) ([w64 (n135 + vt162)] : List Int).length 1, .slice A178 (x138 ++ ([w64 (n135 + vt162)] : List Int)).length c179, .pointer (some ⟨b45, 16, none⟩), iV (w64 (x136 + 1))]), (L131.trans L166), HS207, HO183, h, kr⟩
 · have c149 : ¬ (x136 < vt58) := c149
   refine wpRwI 20 kr (decide_eq_false c149) ?_
   refine condF kr ?_
   refine wp_exit ?_
   refine hx66 _ _ ?_
   exact J200 f130 A139 c140 s141 x137 x138 (jL [iV n135, iV x136, fV, (j134 1), (j134 2), (j134 3), (j134 4), (j134 5), (j134 6), (j134 7), (j134 8), (j134 9), (j134 10), (j134 11)]) W132 _ L131 h HS133 HO142 kr

set_option maxRecDepth 100000 in
set_option maxHeartbeats 4000000 in
theorem spymake_Stream_Rows.calls (k : Nat) (b1 : Nat) (A4 : Option Addr) (c5 : Nat) (s3 : S_Stream) (most7 : Int) {t w : World} {f : FM} {H : List Seg} (HS : St t w f ([(b1, .cells #[.slice A4 s3.L.length c5, .int .i64 s3.vat] 26 (0, 0))] :: H)) (HR6 : SlR (tInt .i64) f A4 c5 s3.L) (rr1 : List S_Row) (rr2 : Int) (h : spymake_Stream_Rows k s3 most7 = some (rr1, rr2)) :
    Calls Tryz.prog 17 #[.pointer (some ⟨b1, 0, none⟩), .int .i64 most7] w (fun e w' => ∃ (g : FM) (A197 : Option Addr) (c198 : Nat) (s199 : Seg), e = .returned (Value.slice A197 rr1.length c198) ∧ FM.le f g ∧ St t w' g (s199 :: [(b1, .cells #[.slice A4 s3.L.length c5, .int .i64 rr2] 26 (0, 0))] :: H) ∧ Own ty_Row 99 g A197 c198 s199 rr1) := by
 unfold spymake_Stream_Rows at h
 refine enter Tryz.func17 rfl (tm := #[pV b1 0, iV most7, uV, uV, uV, uV, uV, uV, uV, uV, uV, uV, uV, uV, uV, uV, uV, uV, uV, uV, uV, uV, uV, uV, uV]) kr ?_
 intro B hret hnor hnp
 refine wp_seq_k fun K8 hK9 => rl ?_
 refine seqL1 kr ?_
 refine nl (hK9 _ _ ?_)
 refine wp_seq_k fun K10 hK11 => rl ?_
 refine seqL1 kr ?_
 refine nl (hK11 _ _ ?_)
 refine wp_seq_k fun K12 hK13 => rl ?_
 refine seqL1 kr ?_
 refine nl (hK13 _ _ ?_)
 refine wp_seq_k (fun K14 hK15 => ?_)
 refine wp_seq_k fun K16 hK17 => rl ?_
 have hq_ := bind_some h; clear h; obtain ⟨⟨vt18, vt19⟩, hc20, h⟩ := hq_
 refine seqL3 kr ?_
 refine seqK rfl (does_call (f := 20) (args := #[.pointer (some ⟨b1, 0, none⟩), .int .i64 (w64 (most7 + 1))]) kr (spymake_Stream_Next.calls k b1 A4 c5 s3 (w64 (most7 + 1)) HS HR6 vt18 vt19 hc20) ?_)
 rintro _ W23 ⟨f21, rfl, L22, HS24⟩
 refine ⟨_, rfl, ?_⟩
 refine seqL1 kr ?_
 refine nl (hK17 _ _ ?_)
 refine blockK (fun B25 hx26 hn27 hr28 ho29 hp30 => ?_)
 have hq_ := bind_some h; clear h; obtain ⟨o104, hv190, h⟩ := hq_
 have J191 : ∀ (f178 : FM) (A184 : Option Addr) (c185 : Nat) (s186 : Seg) (out183 : List S_Row) (x189 : Int) (j182 : Nat → Value) (W180 : World) (a_ : Act), FM.le f21 f178 → some ((out183, x189)) = some o104 → St t W180 f178 (s186 :: [(b1, .cells #[.slice A4 s3.L.length c5, .int .i64 x189] 26 (0, 0))] :: H) → Own ty_Row 99 f178 A184 c185 s186 out183 → a_ = ⟨#[pV b1 0, iV most7, uV, uV, .slice none 0 0, .slice A184 out183.length c185, (j182 0), pV b1 0, iV most7, iV (w64 (most7 + 1)), iV vt18, (j182 1), (j182 2), (j182 3), (j182 4), (j182 5), (j182 6), (j182 7), (j182 8), (j182 9), (j182 10), (j182 11), (j182 12), (j182 13), uV], []⟩ → K14 a_ W180 := by
  intro f178 A184 c185 s186 out183 x189 j182 W180 a_ L179 hj192 HS181 HO187 hfr_; subst hfr_
  injection hj192 with hj192; subst hj192; try dsimp only at h
  refine hK15 _ _ ?_
  refine wp_seq_k fun K195 hK196 => rl ?_
  refine seqL2 kr ?_
  refine nl (hK196 _ _ ?_)
  refine wp_ret ?_
  refine hret _ _ ?_
  refine ends_still (v := Value.slice A184 out183.length c185) kr kr ?_
  injection h with h
  injection h with h0_ h
  subst h0_ h
  exact ⟨f178, A184, c185, s186, rfl, (L22.trans L179), HS181, HO187⟩
 clear h; have h := hv190; clear hv190
 have HS193 := HS24.cons_nil
 refine loopK (fun n_ a_ w_ => ∃ (f108 : FM) (A114 : Option Addr) (c115 : Nat) (s116 : Seg) (out113 : List S_Row) (vid119 : Int) (x120 : Int) (x121 : Int) (j112 : Nat → Value), FM.le f21 f108 ∧ St t w_ f108 (s116 :: [(b1, .cells #[.slice A4 s3.L.length c5, .int .i64 x121] 26 (0, 0))] :: H) ∧ Own ty_Row 99 f108 A114 c115 s116 out113 ∧ spymake_Stream_Rows.l0 k vt18 s3 n_ out113 vid119 x120 x121 = some o104 ∧ a_ = ⟨#[pV b1 0, iV most7, uV, uV, .slice none 0 0, .slice A114 out113.length c115, iV vid119, pV b1 0, iV most7, iV (w64 (most7 + 1)), iV vt18, iV x120, (j112 0), (j112 1), (j112 2), (j112 3), (j112 4), (j112 5), (j112 6), (j112 7), (j112 8), (j112 9), (j112 10), (j112 11), uV], []⟩) k ⟨f21, none, 0, [], ([] : List S_Row), 0, 0, vt19, (jL []), fL, HS193, (Own.nil _), h, kr⟩ ?_
 clear h
 rintro n107 _ W110 ⟨f108, A114, c115, s116, out113, vid119, x120, x121, j112, L109, HS111, HO117, h, rfl⟩ K105 hK106
 obtain _ | n107 := n107
 · exact nomatch h
 simp only [spymake_Stream_Rows.l0] at h
 refine wp_seq_k fun K122 hK123 => rl ?_
 refine seqL1 kr ?_
 refine nl (hK123 _ _ ?_)
 refine wp_seq_k (fun K124 hK125 => ?_)
 have hq_ := ite_some h; clear h; rcases hq_ with ⟨c127, h⟩ | ⟨c127, h⟩
 · have c127 : x120 < vt18 := c127
   refine wpRwI 12 kr (decide_eq_true c127) ?_
   refine condT kr ?_
   refine wp_skip ?_
   refine hK125 _ _ ?_
   refine wp_seq_k (fun K128 hK129 => ?_)
   refine blockK (fun B130 hx131 hn132 hr133 ho134 hp135 => ?_)
   refine wp_seq_k fun K137 hK138 => rl ?_
   have HS139 := HS111.u1
   have hq_ := bind_some h; clear h; obtain ⟨⟨vt140, vt141⟩, hc142, h⟩ := hq_
   refine seqL2 kr ?_
   refine seqK rfl (does_call (f := 27) (args := #[.pointer (some ⟨b1, 0, none⟩), .int .i64 1, .int .i64 4]) kr (spymake_Stream_Range.calls k b1 A4 c5 (⟨s3.L, x121⟩ : S_Stream) 1 4 HS139 (HR6.mono (L22.trans L109)) vt140 vt141 hc142) ?_)
   rintro _ W145 ⟨f143, rfl, L144, HS146⟩
   refine ⟨_, rfl, ?_⟩
   refine seqL2 kr ?_
   refine nl (hK138 _ _ ?_)
   refine rl ?_
   have hq_ := bind_some h; clear h; obtain ⟨⟨vt147, vt148⟩, hc149, h⟩ := hq_
   refine seqL3 kr ?_
   refine seqK rfl (does_call (f := 41) (args := #[.pointer (some ⟨b1, 0, none⟩), .int .i64 (w64 (vid119 + vt140))]) kr (spymake_Stream_Row.calls k b1 A4 c5 (⟨s3.L, vt141⟩ : S_Stream) (w64 (vid119 + vt140)) HS146 (HR6.mono (L22.trans (L109.trans L144))) vt147 vt148 hc149) ?_)
   rintro _ W152 ⟨f150, A154, c155, s156, rfl, L151, HS153, HO157⟩
   refine ⟨_, rfl, ?_⟩
   obtain ⟨f159, L160, HS161, HR162⟩ := HO157.freeze HS153
   refine seqK rfl (does_lit (e := ty_Row) (E := 99) (vs := #[(0, Value.agg #[.int .i64 vt147.ID, .int .i64 vt147.Box.X.Lo, .int .i64 vt147.Box.X.Hi, .bool vt147.Box.X.Unknown, .int .i64 vt147.Box.Y.Lo, .int .i64 vt147.Box.Y.Hi, .bool vt147.Box.Y.Unknown, .int .i64 vt147.Box.Z.Lo, .int .i64 vt147.Box.Z.Hi, .bool vt147.Box.Z.Unknown, .int .i64 vt147.Flux.Lo, .int .i64 vt147.Flux.Hi, .bool vt147.Flux.Unknown, .int .i64 vt147.When.Lo, .int .i64 vt147.When.Hi, .bool vt147.When.Unknown, .slice A154 vt147.Frames.length c155, .int .i64 vt147.Marks])]) (cs := #[.int .i64 vt147.ID, .int .i64 vt147.Box.X.Lo, .int .i64 vt147.Box.X.Hi, .bool vt147.Box.X.Unknown, .int .i64 vt147.Box.Y.Lo, .int .i64 vt147.Box.Y.Hi, .bool vt147.Box.Y.Unknown, .int .i64 vt147.Box.Z.Lo, .int .i64 vt147.Box.Z.Hi, .bool vt147.Box.Z.Unknown, .int .i64 vt147.Flux.Lo, .int .i64 vt147.Flux.Hi, .bool vt147.Flux.Unknown, .int .i64 vt147.When.Lo, .int .i64 vt147.When.Hi, .bool vt147.When.Unknown, .slice A154 vt147.Frames.length c155, .int .i64 vt147.Marks]) (xs := ([vt147] : List S_Row)) rfl Tryz.underlying45 kr kr ⟨[.int .i64 vt147.ID, .int .i64 vt147.Box.X.Lo, .int .i64 vt147.Box.X.Hi, .bool vt147.Box.X.Unknown, .int .i64 vt147.Box.Y.Lo, .int .i64 vt147.Box.Y.Hi, .bool vt147.Box.Y.Unknown, .int .i64 vt147.Box.Z.Lo, .int .i64 vt147.Box.Z.Hi, .bool vt147.Box.Z.Unknown, .int .i64 vt147.Flux.Lo, .int .i64 vt147.Flux.Hi, .bool vt147.Flux.Unknown, .int .i64 vt147.When.Lo, .int .i64 vt147.When.Hi, .bool vt147.When.Unknown, .slice A154 vt147.Frames.length c155, .int .i64 vt147.Marks], _, rfl, ⟨A154, c155, rfl, HR162⟩, rfl⟩ rfl HS161 ?_ (by decide))
   intro b163 W164 s165 HS166 _ HO167
   have hq_ := guard_some h; clear h; obtain ⟨c169, h⟩ := hq_
   have c169 : (out113.length + 1) * 160 ≤ 140737488355328 := c169
   have HS171 := HS166.u2.u1
   refine seqK rfl (does_append1 (e := ty_Row) (E := 99) (xs := out113) (ys := ([vt147] : List S_Row)) rfl (kv (.slice A114 out113.length c115)) (kv (.slice (some ⟨b163, 0, none⟩) ([vt147] : List S_Row).length 1)) Tryz.underlying45 inf99 (HO117.mono (L144.trans (L151.trans L160))) HO167 HS171 c169 (lim63 c169 (by decide)) ?_)
   intro A172 c173 s174 W175 HS176 HO177
   refine seqL1 kr ?_
   refine nl ?_
   refine hn132 _ _ ?_
   refine hK129 _ _ ?_
   refine rl ?_
   refine seqL2 kr ?_
   refine nl ?_
   refine hK106 n107 _ _ (Nat.lt_succ_self _) ?_
   exact ⟨f159, A172, c173, s174, (out113 ++ ([vt147] : List S_Row)), (w64 (vid119 + vt140)), (w64 (x120 + 1)), vt148, (jL [tV, iV vid119, .pointer (some ⟨b1, 0, none⟩), iV vt140, iV (w64 (vid119 + vt140)), .slice A114 out113.length c115, .pointer (some ⟨b1, 0, none⟩), iV (w64 (vid119 + vt140)), (ag_Row vt147 A154 c155), .slice (some ⟨b163, 0, none⟩) ([vt147] : List S_Row).length 1, .slice A172 (out113 ++ ([vt147] : List S_Row)).length c173, iV (w64 (x120 + 1))]), (L109.trans (L144.trans (L151.trans L160))), HS176, HO177, h, kr⟩
 · have c127 : ¬ (x120 < vt18) := c127
   refine wpRwI 12 kr (decide_eq_false c127) ?_
   refine condF kr ?_
   refine wp_exit ?_
   refine hx26 _ _ ?_
   exact J191 f108 A114 c115 s116 out113 x121 (jL [iV vid119, iV x120, fV, (j112 1), (j112 2), (j112 3), (j112 4), (j112 5), (j112 6), (j112 7), (j112 8), (j112 9), (j112 10), (j112 11)]) W110 _ L109 h HS111 HO117 kr

set_option maxRecDepth 100000 in
set_option maxHeartbeats 4000000 in
theorem bound_Check_Coord.calls (k : Nat)  (b1 : S_Bound) {t w : World} {f : FM} {H : List Seg} (HS : St t w f (H)) (rr1 : Int) (h : bound_Check_Coord k b1 = some rr1) :
    Calls Tryz.prog 94 #[.agg #[.int .i64 b1.Lo, .int .i64 b1.Hi, .bool b1.Unknown]] w (fun e w' => ∃ (g : FM), e = .returned (Value.int .i64 rr1) ∧ FM.le f g ∧ St t w' g (H)) := by
 unfold bound_Check_Coord at h
 refine enter Tryz.func94 rfl (tm := #[(ag_Bound b1), uV, uV, uV, uV, uV, uV, uV, uV, uV, uV, uV, uV, uV, uV, uV, uV, uV, uV, uV, uV, uV, uV, uV, uV, uV, uV, uV, uV, uV, uV, uV, uV, uV, uV, uV, uV]) kr ?_
 intro B hret hnor hnp
 refine wp_seq_k fun K2 hK3 => rl ?_
 refine seqK rfl (does_box (cs := #[.int .i64 b1.Lo, .int .i64 b1.Hi, .bool b1.Unknown]) rfl (kv (.agg #[.int .i64 b1.Lo, .int .i64 b1.Hi, .bool b1.Unknown])) rfl HS ?_)
 intro b4 W5 HS6
 refine seqL1 kr ?_
 refine nl (hK3 _ _ ?_)
 refine wp_seq_k (fun K8 hK9 => ?_)
 refine blockK (fun B10 hx11 hn12 hr13 ho14 hp15 => ?_)
 refine wp_seq_k fun K17 hK18 => rl ?_
 refine seqL1 kr ?_
 refine seqK rfl (does_run (run_load rfl Tryz.underlying4 rfl (kv (.pointer (some ⟨b4, 2, none⟩))) (HS6.cell 2)) ?_)
 refine seqL1 kr ?_
 have hq_ := ite_some h; clear h; rcases hq_ with ⟨c19, h⟩ | ⟨c19, h⟩
 · have c19 : b1.Unknown = true := c19
   refine seqRwI 5 kr c19 ?_
   refine seqRwI 6 kr c19 ?_
   refine seqL1 kr ?_
   refine seqG kr (does_run (run_load rfl Tryz.underlying27 rfl (kv (.pointer (some ⟨b4, 0, none⟩))) (HS6.cell 0)) ?_)
   refine seqL2 kr ?_
   have hq_ := ite_some h; clear h; rcases hq_ with ⟨c20, h⟩ | ⟨c20, h⟩
   · have c20 : b1.Lo ≠ 0 := c20
     refine seqRwI 9 kr (bne_iff_ne.mpr c20) ?_
     refine seqRwI 10 kr (bne_iff_ne.mpr c20) ?_
     refine seqL6 kr ?_
     refine nl (hK18 _ _ ?_)
     refine condT kr ?_
     refine wp_seq_k fun K21 hK22 => rl ?_
     refine seqL1 kr ?_
     refine nl (hK22 _ _ ?_)
     refine wp_ret ?_
     refine hr13 _ _ ?_
     refine hret _ _ ?_
     refine ends_still (v := Value.int .i64 3) kr kr ?_
     have HS61 := HS6.drop
     injection h with h
     subst h
     exact ⟨f, rfl, FM.le.refl _, HS61⟩
   · have c20 : ¬ (b1.Lo ≠ 0) := c20
     refine seqRwI 9 (x := (b1.Lo != 0)) (v := false) kr (bne_eq_false_iff_eq.mpr (Decidable.of_not_not c20)) ?_
     refine seqRwI 10 (x := (b1.Lo != 0)) (v := false) kr (bne_eq_false_iff_eq.mpr (Decidable.of_not_not c20)) ?_
     refine seqL1 kr ?_
     refine seqG kr (does_run (run_load rfl Tryz.underlying27 rfl (kv (.pointer (some ⟨b4, 1, none⟩))) (HS6.cell 1)) ?_)
     refine seqL4 kr ?_
     refine nl (hK18 _ _ ?_)
     have hq_ := ite_some h; clear h; rcases hq_ with ⟨c24, h⟩ | ⟨c24, h⟩
     · have c24 : b1.Hi ≠ 0 := c24
       refine wpRwI 3 kr (bne_iff_ne.mpr c24) ?_
       refine wpRwI 13 kr (bne_iff_ne.mpr c24) ?_
       refine wpRwI 14 kr (bne_iff_ne.mpr c24) ?_
       refine wpRwI 15 kr (bne_iff_ne.mpr c24) ?_
       refine condT kr ?_
       refine wp_seq_k fun K25 hK26 => rl ?_
       refine seqL1 kr ?_
       refine nl (hK26 _ _ ?_)
       refine wp_ret ?_
       refine hr13 _ _ ?_
       refine hret _ _ ?_
       refine ends_still (v := Value.int .i64 3) kr kr ?_
       have HS62 := HS6.drop
       injection h with h
       subst h
       exact ⟨f, rfl, FM.le.refl _, HS62⟩
     · have c24 : ¬ (b1.Hi ≠ 0) := c24
       refine wpRwI 3 (x := (b1.Hi != 0)) (v := false) kr (bne_eq_false_iff_eq.mpr (Decidable.of_not_not c24)) ?_
       refine wpRwI 13 (x := (b1.Hi != 0)) (v := false) kr (bne_eq_false_iff_eq.mpr (Decidable.of_not_not c24)) ?_
       refine wpRwI 14 (x := (b1.Hi != 0)) (v := false) kr (bne_eq_false_iff_eq.mpr (Decidable.of_not_not c24)) ?_
       refine wpRwI 15 (x := (b1.Hi != 0)) (v := false) kr (bne_eq_false_iff_eq.mpr (Decidable.of_not_not c24)) ?_
       refine condF kr ?_
       refine wp_seq_k fun K27 hK28 => rl ?_
       refine seqL1 kr ?_
       refine seqK rfl (does_run (run_load rfl Tryz.underlying27 rfl (kv (.pointer (some ⟨b4, 0, none⟩))) (HS6.cell 0)) ?_)
       refine seqL1 kr ?_
       refine seqK rfl (does_run (run_load rfl Tryz.underlying27 rfl (kv (.pointer (some ⟨b4, 1, none⟩))) (HS6.cell 1)) ?_)
       refine seqL3 kr ?_
       have hq_ := ite_some h; clear h; rcases hq_ with ⟨c29, h⟩ | ⟨c29, h⟩
       · have c29 : (mn b1.Lo b1.Hi) < (-1152921504606846976) := c29
         refine seqRwI 22 kr (decide_eq_true c29) ?_
         refine seqRwI 23 kr (decide_eq_true c29) ?_
         refine seqL8 kr ?_
         refine nl (hK28 _ _ ?_)
         refine condT kr ?_
         refine wp_seq_k fun K30 hK31 => rl ?_
         refine seqL1 kr ?_
         refine nl (hK31 _ _ ?_)
         refine wp_ret ?_
         refine hr13 _ _ ?_
         refine hret _ _ ?_
         refine ends_still (v := Value.int .i64 4) kr kr ?_
         have HS63 := HS6.drop
         injection h with h
         subst h
         exact ⟨f, rfl, FM.le.refl _, HS63⟩
       · have c29 : ¬ ((mn b1.Lo b1.Hi) < (-1152921504606846976)) := c29
         refine seqRwI 22 kr (decide_eq_false c29) ?_
         refine seqRwI 23 kr (decide_eq_false c29) ?_
         refine seqL1 kr ?_
         refine seqG kr (does_run (run_load rfl Tryz.underlying27 rfl (kv (.pointer (some ⟨b4, 0, none⟩))) (HS6.cell 0)) ?_)
         refine seqL1 kr ?_
         refine seqG kr (does_run (run_load rfl Tryz.underlying27 rfl (kv (.pointer (some ⟨b4, 1, none⟩))) (HS6.cell 1)) ?_)
         refine seqL4 kr ?_
         refine nl (hK28 _ _ ?_)
         have hq_ := ite_some h; clear h; rcases hq_ with ⟨c33, h⟩ | ⟨c33, h⟩
         · have c33 : (mx b1.Lo b1.Hi) > 1152921504606846976 := c33
           refine wpRwI 16 kr (decide_eq_true c33) ?_
           refine wpRwI 29 kr (decide_eq_true c33) ?_
           refine wpRwI 30 kr (decide_eq_true c33) ?_
           refine condT kr ?_
           refine wp_seq_k fun K34 hK35 => rl ?_
           refine seqL1 kr ?_
           refine nl (hK35 _ _ ?_)
           refine wp_ret ?_
           refine hr13 _ _ ?_
           refine hret _ _ ?_
           refine ends_still (v := Value.int .i64 4) kr kr ?_
           have HS64 := HS6.drop
           injection h with h
           subst h
           exact ⟨f, rfl, FM.le.refl _, HS64⟩
         · have c33 : ¬ ((mx b1.Lo b1.Hi) > 1152921504606846976) := c33
           refine wpRwI 16 kr (decide_eq_false c33) ?_
           refine wpRwI 29 kr (decide_eq_false c33) ?_
           refine wpRwI 30 kr (decide_eq_false c33) ?_
           refine condF kr ?_
           refine wp_seq_k fun K36 hK37 => rl ?_
           refine seqL1 kr ?_
           refine seqK rfl (does_run (run_load rfl Tryz.underlying27 rfl (kv (.pointer (some ⟨b4, 0, none⟩))) (HS6.cell 0)) ?_)
           refine seqL1 kr ?_
           refine seqK rfl (does_run (run_load rfl Tryz.underlying27 rfl (kv (.pointer (some ⟨b4, 1, none⟩))) (HS6.cell 1)) ?_)
           refine seqL2 kr ?_
           refine nl (hK37 _ _ ?_)
           have hq_ := ite_some h; clear h; rcases hq_ with ⟨c39, h⟩ | ⟨c39, h⟩
           · have c39 : b1.Lo > b1.Hi := c39
             refine wpRwI 31 kr (decide_eq_true c39) ?_
             refine wpRwI 36 kr (decide_eq_true c39) ?_
             refine condT kr ?_
             refine wp_seq_k fun K40 hK41 => rl ?_
             refine seqL1 kr ?_
             refine nl (hK41 _ _ ?_)
             refine wp_ret ?_
             refine hr13 _ _ ?_
             refine hret _ _ ?_
             refine ends_still (v := Value.int .i64 11) kr kr ?_
             have HS65 := HS6.drop
             injection h with h
             subst h
             exact ⟨f, rfl, FM.le.refl _, HS65⟩
           · have c39 : ¬ (b1.Lo > b1.Hi) := c39
             refine wpRwI 31 kr (decide_eq_false c39) ?_
             refine wpRwI 36 kr (decide_eq_false c39) ?_
             refine condF kr ?_
             refine wp_skip ?_
             refine hn12 _ _ ?_
             refine hK9 _ _ ?_
             refine wp_seq_k fun K57 hK58 => rl ?_
             refine seqL1 kr ?_
             refine nl (hK58 _ _ ?_)
             refine wp_ret ?_
             refine hret _ _ ?_
             refine ends_still (v := Value.int .i64 0) kr kr ?_
             have HS69 := HS6.drop
             injection h with h
             subst h
             exact ⟨f, rfl, FM.le.refl _, HS69⟩
 · have c19 : ¬ (b1.Unknown = true) := c19
   refine seqRwI 5 kr (Bool.eq_false_iff.mpr c19) ?_
   refine seqRwI 6 kr (Bool.eq_false_iff.mpr c19) ?_
   refine seqL10 kr ?_
   refine nl (hK18 _ _ ?_)
   refine condF kr ?_
   refine wp_seq_k fun K42 hK43 => rl ?_
   refine seqL1 kr ?_
   refine seqK rfl (does_run (run_load rfl Tryz.underlying27 rfl (kv (.pointer (some ⟨b4, 0, none⟩))) (HS6.cell 0)) ?_)
   refine seqL1 kr ?_
   refine seqK rfl (does_run (run_load rfl Tryz.underlying27 rfl (kv (.pointer (some ⟨b4, 1, none⟩))) (HS6.cell 1)) ?_)
   refine seqL3 kr ?_
   have hq_ := ite_some h; clear h; rcases hq_ with ⟨c44, h⟩ | ⟨c44, h⟩
   · have c44 : (mn b1.Lo b1.Hi) < (-1152921504606846976) := c44
     refine seqRwI 22 kr (decide_eq_true c44) ?_
     refine seqRwI 23 kr (decide_eq_true c44) ?_
     refine seqL8 kr ?_
     refine nl (hK43 _ _ ?_)
     refine condT kr ?_
     refine wp_seq_k fun K45 hK46 => rl ?_
     refine seqL1 kr ?_
     refine nl (hK46 _ _ ?_)
     refine wp_ret ?_
     refine hr13 _ _ ?_
     refine hret _ _ ?_
     refine ends_still (v := Value.int .i64 4) kr kr ?_
     have HS66 := HS6.drop
     injection h with h
     subst h
     exact ⟨f, rfl, FM.le.refl _, HS66⟩
   · have c44 : ¬ ((mn b1.Lo b1.Hi) < (-1152921504606846976)) := c44
     refine seqRwI 22 kr (decide_eq_false c44) ?_
     refine seqRwI 23 kr (decide_eq_false c44) ?_
     refine seqL1 kr ?_
     refine seqG kr (does_run (run_load rfl Tryz.underlying27 rfl (kv (.pointer (some ⟨b4, 0, none⟩))) (HS6.cell 0)) ?_)
     refine seqL1 kr ?_
     refine seqG kr (does_run (run_load rfl Tryz.underlying27 rfl (kv (.pointer (some ⟨b4, 1, none⟩))) (HS6.cell 1)) ?_)
     refine seqL4 kr ?_
     refine nl (hK43 _ _ ?_)
     have hq_ := ite_some h; clear h; rcases hq_ with ⟨c48, h⟩ | ⟨c48, h⟩
     · have c48 : (mx b1.Lo b1.Hi) > 1152921504606846976 := c48
       refine wpRwI 16 kr (decide_eq_true c48) ?_
       refine wpRwI 29 kr (decide_eq_true c48) ?_
       refine wpRwI 30 kr (decide_eq_true c48) ?_
       refine condT kr ?_
       refine wp_seq_k fun K49 hK50 => rl ?_
       refine seqL1 kr ?_
       refine nl (hK50 _ _ ?_)
       refine wp_ret ?_
       refine hr13 _ _ ?_
       refine hret _ _ ?_
       refine ends_still (v := Value.int .i64 4) kr kr ?_
       have HS67 := HS6.drop
       injection h with h
       subst h
       exact ⟨f, rfl, FM.le.refl _, HS67⟩
     · have c48 : ¬ ((mx b1.Lo b1.Hi) > 1152921504606846976) := c48
       refine wpRwI 16 kr (decide_eq_false c48) ?_
       refine wpRwI 29 kr (decide_eq_false c48) ?_
       refine wpRwI 30 kr (decide_eq_false c48) ?_
       refine condF kr ?_
       refine wp_seq_k fun K51 hK52 => rl ?_
       refine seqL1 kr ?_
       refine seqK rfl (does_run (run_load rfl Tryz.underlying27 rfl (kv (.pointer (some ⟨b4, 0, none⟩))) (HS6.cell 0)) ?_)
       refine seqL1 kr ?_
       refine seqK rfl (does_run (run_load rfl Tryz.underlying27 rfl (kv (.pointer (some ⟨b4, 1, none⟩))) (HS6.cell 1)) ?_)
       refine seqL2 kr ?_
       refine nl (hK52 _ _ ?_)
       have hq_ := ite_some h; clear h; rcases hq_ with ⟨c54, h⟩ | ⟨c54, h⟩
       · have c54 : b1.Lo > b1.Hi := c54
         refine wpRwI 31 kr (decide_eq_true c54) ?_
         refine wpRwI 36 kr (decide_eq_true c54) ?_
         refine condT kr ?_
         refine wp_seq_k fun K55 hK56 => rl ?_
         refine seqL1 kr ?_
         refine nl (hK56 _ _ ?_)
         refine wp_ret ?_
         refine hr13 _ _ ?_
         refine hret _ _ ?_
         refine ends_still (v := Value.int .i64 11) kr kr ?_
         have HS68 := HS6.drop
         injection h with h
         subst h
         exact ⟨f, rfl, FM.le.refl _, HS68⟩
       · have c54 : ¬ (b1.Lo > b1.Hi) := c54
         refine wpRwI 31 kr (decide_eq_false c54) ?_
         refine wpRwI 36 kr (decide_eq_false c54) ?_
         refine condF kr ?_
         refine wp_skip ?_
         refine hn12 _ _ ?_
         refine hK9 _ _ ?_
         refine wp_seq_k fun K59 hK60 => rl ?_
         refine seqL1 kr ?_
         refine nl (hK60 _ _ ?_)
         refine wp_ret ?_
         refine hret _ _ ?_
         refine ends_still (v := Value.int .i64 0) kr kr ?_
         have HS70 := HS6.drop
         injection h with h
         subst h
         exact ⟨f, rfl, FM.le.refl _, HS70⟩

set_option maxRecDepth 100000 in
set_option maxHeartbeats 4000000 in
theorem catalog_ends_Coord.calls (k : Nat)  (b1 : S_Bound) (most2 : Int) {t w : World} {f : FM} {H : List Seg} (HS : St t w f (H)) (rr1 : Int) (h : catalog_ends_Coord k b1 most2 = some rr1) :
    Calls Tryz.prog 96 #[.agg #[.int .i64 b1.Lo, .int .i64 b1.Hi, .bool b1.Unknown], .int .i64 most2] w (fun e w' => ∃ (g : FM), e = .returned (Value.int .i64 rr1) ∧ FM.le f g ∧ St t w' g (H)) := by
 unfold catalog_ends_Coord at h
 refine enter Tryz.func96 rfl (tm := #[(ag_Bound b1), iV most2, uV, uV, uV, uV, uV, uV, uV, uV, uV, uV, uV, uV, uV, uV, uV, uV, uV, uV, uV, uV]) kr ?_
 intro B hret hnor hnp
 refine wp_seq_k fun K3 hK4 => rl ?_
 refine seqK rfl (does_box (cs := #[.int .i64 b1.Lo, .int .i64 b1.Hi, .bool b1.Unknown]) rfl (kv (.agg #[.int .i64 b1.Lo, .int .i64 b1.Hi, .bool b1.Unknown])) rfl HS ?_)
 intro b5 W6 HS7
 refine seqL1 kr ?_
 refine nl (hK4 _ _ ?_)
 refine wp_seq_k (fun K9 hK10 => ?_)
 refine wp_seq_k fun K11 hK12 => rl ?_
 refine seqK rfl (does_run (run_loadN (n := 3) rfl Tryz.underlying29 rfl kr (kv (.pointer (some ⟨b5, 0, none⟩))) (cs := [.int .i64 b1.Lo, .int .i64 b1.Hi, .bool b1.Unknown]) rfl (HS7.cells 0 3 _ rfl)) ?_)
 have hq_ := bind_some h; clear h; obtain ⟨vt13, hc14, h⟩ := hq_
 refine seqK rfl (does_call (f := 94) (args := #[.agg #[.int .i64 b1.Lo, .int .i64 b1.Hi, .bool b1.Unknown]]) kr (bound_Check_Coord.calls k b1 HS7 vt13 hc14) ?_)
 rintro _ W17 ⟨f15, rfl, L16, HS18⟩
 refine ⟨_, rfl, ?_⟩
 refine seqL1 kr ?_
 refine nl (hK12 _ _ ?_)
 refine wp_seq_k fun K19 hK20 => rl ?_
 refine seqL2 kr ?_
 refine nl (hK20 _ _ ?_)
 have hq_ := ite_some h; clear h; rcases hq_ with ⟨c22, h⟩ | ⟨c22, h⟩
 · have c22 : vt13 ≠ 0 := c22
   refine wpRwI 9 kr (bne_iff_ne.mpr c22) ?_
   refine condT kr ?_
   refine wp_seq_k fun K23 hK24 => rl ?_
   refine seqL2 kr ?_
   refine nl (hK24 _ _ ?_)
   refine wp_ret ?_
   refine hret _ _ ?_
   refine ends_still (v := Value.int .i64 vt13) kr kr ?_
   have HS38 := HS18.drop
   injection h with h
   subst h
   exact ⟨f15, rfl, L16, HS38⟩
 · have c22 : ¬ (vt13 ≠ 0) := c22
   refine wpRwI 9 (x := (vt13 != 0)) (v := false) kr (bne_eq_false_iff_eq.mpr (Decidable.of_not_not c22)) ?_
   refine condF kr ?_
   refine wp_skip ?_
   refine hK10 _ _ ?_
   refine wp_seq_k (fun K25 hK26 => ?_)
   refine wp_seq_k fun K27 hK28 => rl ?_
   refine seqL1 kr ?_
   refine seqK rfl (does_run (run_load rfl Tryz.underlying27 rfl (kv (.pointer (some ⟨b5, 0, none⟩))) (HS18.cell 0)) ?_)
   refine seqL4 kr ?_
   have hq_ := ite_some h; clear h; rcases hq_ with ⟨c29, h⟩ | ⟨c29, h⟩
   · have c29 : b1.Lo < (w64 (0 - most2)) := c29
     refine seqRwI 15 kr (decide_eq_true c29) ?_
     refine seqRwI 16 kr (decide_eq_true c29) ?_
     refine seqL5 kr ?_
     refine nl (hK28 _ _ ?_)
     refine condT kr ?_
     refine wp_seq_k fun K30 hK31 => rl ?_
     refine seqL1 kr ?_
     refine nl (hK31 _ _ ?_)
     refine wp_ret ?_
     refine hret _ _ ?_
     refine ends_still (v := Value.int .i64 4) kr kr ?_
     have HS39 := HS18.drop
     injection h with h
     subst h
     exact ⟨f15, rfl, L16, HS39⟩
   · have c29 : ¬ (b1.Lo < (w64 (0 - most2))) := c29
     refine seqRwI 15 kr (decide_eq_false c29) ?_
     refine seqRwI 16 kr (decide_eq_false c29) ?_
     refine seqL1 kr ?_
     refine seqG kr (does_run (run_load rfl Tryz.underlying27 rfl (kv (.pointer (some ⟨b5, 1, none⟩))) (HS18.cell 1)) ?_)
     refine seqL3 kr ?_
     refine nl (hK28 _ _ ?_)
     have hq_ := ite_some h; clear h; rcases hq_ with ⟨c33, h⟩ | ⟨c33, h⟩
     · have c33 : b1.Hi > most2 := c33
       refine wpRwI 20 kr (decide_eq_true c33) ?_
       refine wpRwI 21 kr (decide_eq_true c33) ?_
       refine condT kr ?_
       refine wp_seq_k fun K34 hK35 => rl ?_
       refine seqL1 kr ?_
       refine nl (hK35 _ _ ?_)
       refine wp_ret ?_
       refine hret _ _ ?_
       refine ends_still (v := Value.int .i64 4) kr kr ?_
       have HS40 := HS18.drop
       injection h with h
       subst h
       exact ⟨f15, rfl, L16, HS40⟩
     · have c33 : ¬ (b1.Hi > most2) := c33
       refine wpRwI 20 kr (decide_eq_false c33) ?_
       refine wpRwI 21 kr (decide_eq_false c33) ?_
       refine condF kr ?_
       refine wp_skip ?_
       refine hK26 _ _ ?_
       refine wp_seq_k fun K36 hK37 => rl ?_
       refine seqL1 kr ?_
       refine nl (hK37 _ _ ?_)
       refine wp_ret ?_
       refine hret _ _ ?_
       refine ends_still (v := Value.int .i64 0) kr kr ?_
       have HS41 := HS18.drop
       injection h with h
       subst h
       exact ⟨f15, rfl, L16, HS41⟩

set_option maxRecDepth 100000 in
set_option maxHeartbeats 4000000 in
theorem bound_Check_Quanta.calls (k : Nat)  (b1 : S_Bound) {t w : World} {f : FM} {H : List Seg} (HS : St t w f (H)) (rr1 : Int) (h : bound_Check_Quanta k b1 = some rr1) :
    Calls Tryz.prog 120 #[.agg #[.int .i64 b1.Lo, .int .i64 b1.Hi, .bool b1.Unknown]] w (fun e w' => ∃ (g : FM), e = .returned (Value.int .i64 rr1) ∧ FM.le f g ∧ St t w' g (H)) := by
 unfold bound_Check_Quanta at h
 refine enter Tryz.func120 rfl (tm := #[(ag_Bound b1), uV, uV, uV, uV, uV, uV, uV, uV, uV, uV, uV, uV, uV, uV, uV, uV, uV, uV, uV, uV, uV, uV, uV, uV, uV, uV, uV, uV, uV, uV, uV, uV, uV, uV, uV, uV]) kr ?_
 intro B hret hnor hnp
 refine wp_seq_k fun K2 hK3 => rl ?_
 refine seqK rfl (does_box (cs := #[.int .i64 b1.Lo, .int .i64 b1.Hi, .bool b1.Unknown]) rfl (kv (.agg #[.int .i64 b1.Lo, .int .i64 b1.Hi, .bool b1.Unknown])) rfl HS ?_)
 intro b4 W5 HS6
 refine seqL1 kr ?_
 refine nl (hK3 _ _ ?_)
 refine wp_seq_k (fun K8 hK9 => ?_)
 refine blockK (fun B10 hx11 hn12 hr13 ho14 hp15 => ?_)
 refine wp_seq_k fun K17 hK18 => rl ?_
 refine seqL1 kr ?_
 refine seqK rfl (does_run (run_load rfl Tryz.underlying4 rfl (kv (.pointer (some ⟨b4, 2, none⟩))) (HS6.cell 2)) ?_)
 refine seqL1 kr ?_
 have hq_ := ite_some h; clear h; rcases hq_ with ⟨c19, h⟩ | ⟨c19, h⟩
 · have c19 : b1.Unknown = true := c19
   refine seqRwI 5 kr c19 ?_
   refine seqRwI 6 kr c19 ?_
   refine seqL1 kr ?_
   refine seqG kr (does_run (run_load rfl Tryz.underlying49 rfl (kv (.pointer (some ⟨b4, 0, none⟩))) (HS6.cell 0)) ?_)
   refine seqL2 kr ?_
   have hq_ := ite_some h; clear h; rcases hq_ with ⟨c20, h⟩ | ⟨c20, h⟩
   · have c20 : b1.Lo ≠ 0 := c20
     refine seqRwI 9 kr (bne_iff_ne.mpr c20) ?_
     refine seqRwI 10 kr (bne_iff_ne.mpr c20) ?_
     refine seqL6 kr ?_
     refine nl (hK18 _ _ ?_)
     refine condT kr ?_
     refine wp_seq_k fun K21 hK22 => rl ?_
     refine seqL1 kr ?_
     refine nl (hK22 _ _ ?_)
     refine wp_ret ?_
     refine hr13 _ _ ?_
     refine hret _ _ ?_
     refine ends_still (v := Value.int .i64 3) kr kr ?_
     have HS61 := HS6.drop
     injection h with h
     subst h
     exact ⟨f, rfl, FM.le.refl _, HS61⟩
   · have c20 : ¬ (b1.Lo ≠ 0) := c20
     refine seqRwI 9 (x := (b1.Lo != 0)) (v := false) kr (bne_eq_false_iff_eq.mpr (Decidable.of_not_not c20)) ?_
     refine seqRwI 10 (x := (b1.Lo != 0)) (v := false) kr (bne_eq_false_iff_eq.mpr (Decidable.of_not_not c20)) ?_
     refine seqL1 kr ?_
     refine seqG kr (does_run (run_load rfl Tryz.underlying49 rfl (kv (.pointer (some ⟨b4, 1, none⟩))) (HS6.cell 1)) ?_)
     refine seqL4 kr ?_
     refine nl (hK18 _ _ ?_)
     have hq_ := ite_some h; clear h; rcases hq_ with ⟨c24, h⟩ | ⟨c24, h⟩
     · have c24 : b1.Hi ≠ 0 := c24
       refine wpRwI 3 kr (bne_iff_ne.mpr c24) ?_
       refine wpRwI 13 kr (bne_iff_ne.mpr c24) ?_
       refine wpRwI 14 kr (bne_iff_ne.mpr c24) ?_
       refine wpRwI 15 kr (bne_iff_ne.mpr c24) ?_
       refine condT kr ?_
       refine wp_seq_k fun K25 hK26 => rl ?_
       refine seqL1 kr ?_
       refine nl (hK26 _ _ ?_)
       refine wp_ret ?_
       refine hr13 _ _ ?_
       refine hret _ _ ?_
       refine ends_still (v := Value.int .i64 3) kr kr ?_
       have HS62 := HS6.drop
       injection h with h
       subst h
       exact ⟨f, rfl, FM.le.refl _, HS62⟩
     · have c24 : ¬ (b1.Hi ≠ 0) := c24
       refine wpRwI 3 (x := (b1.Hi != 0)) (v := false) kr (bne_eq_false_iff_eq.mpr (Decidable.of_not_not c24)) ?_
       refine wpRwI 13 (x := (b1.Hi != 0)) (v := false) kr (bne_eq_false_iff_eq.mpr (Decidable.of_not_not c24)) ?_
       refine wpRwI 14 (x := (b1.Hi != 0)) (v := false) kr (bne_eq_false_iff_eq.mpr (Decidable.of_not_not c24)) ?_
       refine wpRwI 15 (x := (b1.Hi != 0)) (v := false) kr (bne_eq_false_iff_eq.mpr (Decidable.of_not_not c24)) ?_
       refine condF kr ?_
       refine wp_seq_k fun K27 hK28 => rl ?_
       refine seqL1 kr ?_
       refine seqK rfl (does_run (run_load rfl Tryz.underlying49 rfl (kv (.pointer (some ⟨b4, 0, none⟩))) (HS6.cell 0)) ?_)
       refine seqL1 kr ?_
       refine seqK rfl (does_run (run_load rfl Tryz.underlying49 rfl (kv (.pointer (some ⟨b4, 1, none⟩))) (HS6.cell 1)) ?_)
       refine seqL3 kr ?_
       have hq_ := ite_some h; clear h; rcases hq_ with ⟨c29, h⟩ | ⟨c29, h⟩
       · have c29 : (mn b1.Lo b1.Hi) < (-1152921504606846976) := c29
         refine seqRwI 22 kr (decide_eq_true c29) ?_
         refine seqRwI 23 kr (decide_eq_true c29) ?_
         refine seqL8 kr ?_
         refine nl (hK28 _ _ ?_)
         refine condT kr ?_
         refine wp_seq_k fun K30 hK31 => rl ?_
         refine seqL1 kr ?_
         refine nl (hK31 _ _ ?_)
         refine wp_ret ?_
         refine hr13 _ _ ?_
         refine hret _ _ ?_
         refine ends_still (v := Value.int .i64 4) kr kr ?_
         have HS63 := HS6.drop
         injection h with h
         subst h
         exact ⟨f, rfl, FM.le.refl _, HS63⟩
       · have c29 : ¬ ((mn b1.Lo b1.Hi) < (-1152921504606846976)) := c29
         refine seqRwI 22 kr (decide_eq_false c29) ?_
         refine seqRwI 23 kr (decide_eq_false c29) ?_
         refine seqL1 kr ?_
         refine seqG kr (does_run (run_load rfl Tryz.underlying49 rfl (kv (.pointer (some ⟨b4, 0, none⟩))) (HS6.cell 0)) ?_)
         refine seqL1 kr ?_
         refine seqG kr (does_run (run_load rfl Tryz.underlying49 rfl (kv (.pointer (some ⟨b4, 1, none⟩))) (HS6.cell 1)) ?_)
         refine seqL4 kr ?_
         refine nl (hK28 _ _ ?_)
         have hq_ := ite_some h; clear h; rcases hq_ with ⟨c33, h⟩ | ⟨c33, h⟩
         · have c33 : (mx b1.Lo b1.Hi) > 1152921504606846976 := c33
           refine wpRwI 16 kr (decide_eq_true c33) ?_
           refine wpRwI 29 kr (decide_eq_true c33) ?_
           refine wpRwI 30 kr (decide_eq_true c33) ?_
           refine condT kr ?_
           refine wp_seq_k fun K34 hK35 => rl ?_
           refine seqL1 kr ?_
           refine nl (hK35 _ _ ?_)
           refine wp_ret ?_
           refine hr13 _ _ ?_
           refine hret _ _ ?_
           refine ends_still (v := Value.int .i64 4) kr kr ?_
           have HS64 := HS6.drop
           injection h with h
           subst h
           exact ⟨f, rfl, FM.le.refl _, HS64⟩
         · have c33 : ¬ ((mx b1.Lo b1.Hi) > 1152921504606846976) := c33
           refine wpRwI 16 kr (decide_eq_false c33) ?_
           refine wpRwI 29 kr (decide_eq_false c33) ?_
           refine wpRwI 30 kr (decide_eq_false c33) ?_
           refine condF kr ?_
           refine wp_seq_k fun K36 hK37 => rl ?_
           refine seqL1 kr ?_
           refine seqK rfl (does_run (run_load rfl Tryz.underlying49 rfl (kv (.pointer (some ⟨b4, 0, none⟩))) (HS6.cell 0)) ?_)
           refine seqL1 kr ?_
           refine seqK rfl (does_run (run_load rfl Tryz.underlying49 rfl (kv (.pointer (some ⟨b4, 1, none⟩))) (HS6.cell 1)) ?_)
           refine seqL2 kr ?_
           refine nl (hK37 _ _ ?_)
           have hq_ := ite_some h; clear h; rcases hq_ with ⟨c39, h⟩ | ⟨c39, h⟩
           · have c39 : b1.Lo > b1.Hi := c39
             refine wpRwI 31 kr (decide_eq_true c39) ?_
             refine wpRwI 36 kr (decide_eq_true c39) ?_
             refine condT kr ?_
             refine wp_seq_k fun K40 hK41 => rl ?_
             refine seqL1 kr ?_
             refine nl (hK41 _ _ ?_)
             refine wp_ret ?_
             refine hr13 _ _ ?_
             refine hret _ _ ?_
             refine ends_still (v := Value.int .i64 11) kr kr ?_
             have HS65 := HS6.drop
             injection h with h
             subst h
             exact ⟨f, rfl, FM.le.refl _, HS65⟩
           · have c39 : ¬ (b1.Lo > b1.Hi) := c39
             refine wpRwI 31 kr (decide_eq_false c39) ?_
             refine wpRwI 36 kr (decide_eq_false c39) ?_
             refine condF kr ?_
             refine wp_skip ?_
             refine hn12 _ _ ?_
             refine hK9 _ _ ?_
             refine wp_seq_k fun K57 hK58 => rl ?_
             refine seqL1 kr ?_
             refine nl (hK58 _ _ ?_)
             refine wp_ret ?_
             refine hret _ _ ?_
             refine ends_still (v := Value.int .i64 0) kr kr ?_
             have HS69 := HS6.drop
             injection h with h
             subst h
             exact ⟨f, rfl, FM.le.refl _, HS69⟩
 · have c19 : ¬ (b1.Unknown = true) := c19
   refine seqRwI 5 kr (Bool.eq_false_iff.mpr c19) ?_
   refine seqRwI 6 kr (Bool.eq_false_iff.mpr c19) ?_
   refine seqL10 kr ?_
   refine nl (hK18 _ _ ?_)
   refine condF kr ?_
   refine wp_seq_k fun K42 hK43 => rl ?_
   refine seqL1 kr ?_
   refine seqK rfl (does_run (run_load rfl Tryz.underlying49 rfl (kv (.pointer (some ⟨b4, 0, none⟩))) (HS6.cell 0)) ?_)
   refine seqL1 kr ?_
   refine seqK rfl (does_run (run_load rfl Tryz.underlying49 rfl (kv (.pointer (some ⟨b4, 1, none⟩))) (HS6.cell 1)) ?_)
   refine seqL3 kr ?_
   have hq_ := ite_some h; clear h; rcases hq_ with ⟨c44, h⟩ | ⟨c44, h⟩
   · have c44 : (mn b1.Lo b1.Hi) < (-1152921504606846976) := c44
     refine seqRwI 22 kr (decide_eq_true c44) ?_
     refine seqRwI 23 kr (decide_eq_true c44) ?_
     refine seqL8 kr ?_
     refine nl (hK43 _ _ ?_)
     refine condT kr ?_
     refine wp_seq_k fun K45 hK46 => rl ?_
     refine seqL1 kr ?_
     refine nl (hK46 _ _ ?_)
     refine wp_ret ?_
     refine hr13 _ _ ?_
     refine hret _ _ ?_
     refine ends_still (v := Value.int .i64 4) kr kr ?_
     have HS66 := HS6.drop
     injection h with h
     subst h
     exact ⟨f, rfl, FM.le.refl _, HS66⟩
   · have c44 : ¬ ((mn b1.Lo b1.Hi) < (-1152921504606846976)) := c44
     refine seqRwI 22 kr (decide_eq_false c44) ?_
     refine seqRwI 23 kr (decide_eq_false c44) ?_
     refine seqL1 kr ?_
     refine seqG kr (does_run (run_load rfl Tryz.underlying49 rfl (kv (.pointer (some ⟨b4, 0, none⟩))) (HS6.cell 0)) ?_)
     refine seqL1 kr ?_
     refine seqG kr (does_run (run_load rfl Tryz.underlying49 rfl (kv (.pointer (some ⟨b4, 1, none⟩))) (HS6.cell 1)) ?_)
     refine seqL4 kr ?_
     refine nl (hK43 _ _ ?_)
     have hq_ := ite_some h; clear h; rcases hq_ with ⟨c48, h⟩ | ⟨c48, h⟩
     · have c48 : (mx b1.Lo b1.Hi) > 1152921504606846976 := c48
       refine wpRwI 16 kr (decide_eq_true c48) ?_
       refine wpRwI 29 kr (decide_eq_true c48) ?_
       refine wpRwI 30 kr (decide_eq_true c48) ?_
       refine condT kr ?_
       refine wp_seq_k fun K49 hK50 => rl ?_
       refine seqL1 kr ?_
       refine nl (hK50 _ _ ?_)
       refine wp_ret ?_
       refine hr13 _ _ ?_
       refine hret _ _ ?_
       refine ends_still (v := Value.int .i64 4) kr kr ?_
       have HS67 := HS6.drop
       injection h with h
       subst h
       exact ⟨f, rfl, FM.le.refl _, HS67⟩
     · have c48 : ¬ ((mx b1.Lo b1.Hi) > 1152921504606846976) := c48
       refine wpRwI 16 kr (decide_eq_false c48) ?_
       refine wpRwI 29 kr (decide_eq_false c48) ?_
       refine wpRwI 30 kr (decide_eq_false c48) ?_
       refine condF kr ?_
       refine wp_seq_k fun K51 hK52 => rl ?_
       refine seqL1 kr ?_
       refine seqK rfl (does_run (run_load rfl Tryz.underlying49 rfl (kv (.pointer (some ⟨b4, 0, none⟩))) (HS6.cell 0)) ?_)
       refine seqL1 kr ?_
       refine seqK rfl (does_run (run_load rfl Tryz.underlying49 rfl (kv (.pointer (some ⟨b4, 1, none⟩))) (HS6.cell 1)) ?_)
       refine seqL2 kr ?_
       refine nl (hK52 _ _ ?_)
       have hq_ := ite_some h; clear h; rcases hq_ with ⟨c54, h⟩ | ⟨c54, h⟩
       · have c54 : b1.Lo > b1.Hi := c54
         refine wpRwI 31 kr (decide_eq_true c54) ?_
         refine wpRwI 36 kr (decide_eq_true c54) ?_
         refine condT kr ?_
         refine wp_seq_k fun K55 hK56 => rl ?_
         refine seqL1 kr ?_
         refine nl (hK56 _ _ ?_)
         refine wp_ret ?_
         refine hr13 _ _ ?_
         refine hret _ _ ?_
         refine ends_still (v := Value.int .i64 11) kr kr ?_
         have HS68 := HS6.drop
         injection h with h
         subst h
         exact ⟨f, rfl, FM.le.refl _, HS68⟩
       · have c54 : ¬ (b1.Lo > b1.Hi) := c54
         refine wpRwI 31 kr (decide_eq_false c54) ?_
         refine wpRwI 36 kr (decide_eq_false c54) ?_
         refine condF kr ?_
         refine wp_skip ?_
         refine hn12 _ _ ?_
         refine hK9 _ _ ?_
         refine wp_seq_k fun K59 hK60 => rl ?_
         refine seqL1 kr ?_
         refine nl (hK60 _ _ ?_)
         refine wp_ret ?_
         refine hret _ _ ?_
         refine ends_still (v := Value.int .i64 0) kr kr ?_
         have HS70 := HS6.drop
         injection h with h
         subst h
         exact ⟨f, rfl, FM.le.refl _, HS70⟩

end Go.Sp.J7
