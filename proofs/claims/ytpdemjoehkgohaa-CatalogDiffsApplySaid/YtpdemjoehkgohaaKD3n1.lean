import Derived.Test.YtpdemjoehkgohaaProg
import Derived.Test.YtpdemjoehkgohaaSpCopy
import Derived.Test.YtpdemjoehkgohaaFD3
import Derived.Test.YtpdemjoehkgohaaSpSort
import Derived.Test.YtpdemjoehkgohaaShelf
import Derived.Test.YtpdemjoehkgohaaSpMapR
import Derived.Test.YtpdemjoehkgohaaSpKeys
import Derived.Test.YtpdemjoehkgohaaKD3n0
namespace Go.Sp.D3
open Go Go.Sp Go.Proofs
set_option linter.unusedVariables false
attribute [local irreducible] wpList AnyL Code.wp Calls Does
set_option maxRecDepth 100000 in
set_option maxHeartbeats 4000000 in
theorem spymake_Stream_Rows.calls (k : Nat) (b1 : Nat) (A4 : Option Addr) (c5 : Nat) (s3 : S_Stream) (most7 : Int) {t w : World} {f : FM} {H : List Seg} (HS : St t w f ([(b1, .cells #[.slice A4 s3.L.length c5, .int .i64 s3.vat] 25 (0, 0))] :: H)) (HR6 : SlR (tInt .i64) f A4 c5 s3.L) (rr1 : List S_Row) (rr2 : Int) (h : spymake_Stream_Rows k s3 most7 = some (rr1, rr2)) :
    Calls Try.prog 7 #[.pointer (some ⟨b1, 0, none⟩), .int .i64 most7] w (fun e w' => ∃ (g : FM) (A197 : Option Addr) (c198 : Nat) (s199 : Seg), e = .returned (Value.slice A197 rr1.length c198) ∧ FM.le f g ∧ St t w' g (s199 :: [(b1, .cells #[.slice A4 s3.L.length c5, .int .i64 rr2] 25 (0, 0))] :: H) ∧ Own ty_Row 65 g A197 c198 s199 rr1) := by
  unfold spymake_Stream_Rows at h
  refine enter Try.func7 rfl (tm := #[.pointer (some ⟨b1, 0, none⟩), iV most7, uV, uV, uV, uV, uV, uV, uV, uV, uV, uV, uV, uV, uV, uV, uV, uV, uV, uV, uV, uV, uV, uV, uV]) (by kernel_rfl) ?_
  intro B hret hnor hnp
  refine wp_seq_k (fun K8 hK9 => ?_)
  refine wp_region_lit ?_
  refine seqS1 (a' := ⟨#[.pointer (some ⟨b1, 0, none⟩), iV most7, uV, uV, .slice none 0 0, uV, uV, uV, uV, uV, uV, uV, uV, uV, uV, uV, uV, uV, uV, uV, uV, uV, uV, uV, uV], []⟩) (by kernel_rfl) ?_
  refine wpList_nil ?_
  refine hK9 _ _ ?_
  refine wp_seq_k (fun K10 hK11 => ?_)
  refine wp_region_lit ?_
  refine seqS1 (a' := ⟨#[.pointer (some ⟨b1, 0, none⟩), iV most7, uV, uV, .slice none 0 0, .slice none 0 0, uV, uV, uV, uV, uV, uV, uV, uV, uV, uV, uV, uV, uV, uV, uV, uV, uV, uV, uV], []⟩) (by kernel_rfl) ?_
  refine wpList_nil ?_
  refine hK11 _ _ ?_
  refine wp_seq_k (fun K12 hK13 => ?_)
  refine wp_region_lit ?_
  refine seqS1 (a' := ⟨#[.pointer (some ⟨b1, 0, none⟩), iV most7, uV, uV, .slice none 0 0, .slice none 0 0, iV 0, uV, uV, uV, uV, uV, uV, uV, uV, uV, uV, uV, uV, uV, uV, uV, uV, uV, uV], []⟩) (by kernel_rfl) ?_
  refine wpList_nil ?_
  refine hK13 _ _ ?_
  refine wp_seq_k (fun K14 hK15 => ?_)
  refine wp_seq_k (fun K16 hK17 => ?_)
  refine wp_region_lit ?_
  have hq_ := bind_some h; clear h; obtain ⟨⟨vt18, vt19⟩, hc20, h⟩ := hq_
  refine seqL3 (by kernel_rfl) ?_
  refine seqK rfl (does_call (f := 22) (args := #[.pointer (some ⟨b1, 0, none⟩), .int .i64 (w64 (most7 + 1))]) (by kernel_rfl) (spymake_Stream_Next.calls k b1 A4 c5 s3 (w64 (most7 + 1)) HS HR6 vt18 vt19 hc20) ?_)
  rintro _ W23 ⟨f21, rfl, L22, HS24⟩
  refine ⟨_, rfl, ?_⟩
  refine seqS1 (a' := ⟨#[.pointer (some ⟨b1, 0, none⟩), iV most7, uV, uV, .slice none 0 0, .slice none 0 0, iV 0, .pointer (some ⟨b1, 0, none⟩), iV most7, iV (w64 (most7 + 1)), iV vt18, iV 0, uV, uV, uV, uV, uV, uV, uV, uV, uV, uV, uV, uV, uV], []⟩) (by kernel_rfl) ?_
  refine wpList_nil ?_
  refine hK17 _ _ ?_
  refine blockK (fun B25 hx26 hn27 hr28 ho29 hp30 => ?_)
  have hq_ := bind_some h; clear h; obtain ⟨o104, hv190, h⟩ := hq_
  have J191 : ∀ (f178 : FM) (A184 : Option Addr) (c185 : Nat) (s186 : Seg) (out183 : List S_Row) (x189 : Int) (j182 : Nat → Value) (W180 : World) (a_ : Act), FM.le f21 f178 → some ((out183, x189)) = some o104 → St t W180 f178 (s186 :: [(b1, .cells #[.slice A4 s3.L.length c5, .int .i64 x189] 25 (0, 0))] :: H) → Own ty_Row 65 f178 A184 c185 s186 out183 → a_ = ⟨#[.pointer (some ⟨b1, 0, none⟩), iV most7, uV, uV, .slice none 0 0, .slice A184 out183.length c185, (j182 0), .pointer (some ⟨b1, 0, none⟩), iV most7, iV (w64 (most7 + 1)), iV vt18, (j182 1), (j182 2), (j182 3), (j182 4), (j182 5), (j182 6), (j182 7), (j182 8), (j182 9), (j182 10), (j182 11), (j182 12), (j182 13), uV], []⟩ → K14 a_ W180 := by
    intro f178 A184 c185 s186 out183 x189 j182 W180 a_ L179 hj192 HS181 HO187 hfr_; subst hfr_
    injection hj192 with hj192; subst hj192; try dsimp only at h
    refine hK15 _ _ ?_
    refine wp_seq_k (fun K195 hK196 => ?_)
    refine wp_region_lit ?_
    refine seqS2 (a' := ⟨#[.pointer (some ⟨b1, 0, none⟩), iV most7, uV, uV, .slice A184 out183.length c185, .slice A184 out183.length c185, (j182 0), .pointer (some ⟨b1, 0, none⟩), iV most7, iV (w64 (most7 + 1)), iV vt18, (j182 1), (j182 2), (j182 3), (j182 4), (j182 5), (j182 6), (j182 7), (j182 8), (j182 9), (j182 10), (j182 11), (j182 12), (j182 13), .slice A184 out183.length c185], []⟩) (by kernel_rfl) ?_
    refine wpList_nil ?_
    refine hK196 _ _ ?_
    refine wp_ret ?_
    refine hret _ _ ?_
    refine ends_still (v := Value.slice A184 out183.length c185) (by kernel_rfl) (by kernel_rfl) ?_
    injection h with h
    injection h with h0_ h
    subst h0_ h
    exact ⟨f178, A184, c185, s186, rfl, (L22.trans L179), HS181, HO187⟩
  clear h; have h := hv190; clear hv190
  have HS193 := HS24.cons_nil
  refine loopK (fun n_ a_ w_ => ∃ (f108 : FM) (A114 : Option Addr) (c115 : Nat) (s116 : Seg) (out113 : List S_Row) (vid119 : Int) (x120 : Int) (x121 : Int) (j112 : Nat → Value), FM.le f21 f108 ∧ St t w_ f108 (s116 :: [(b1, .cells #[.slice A4 s3.L.length c5, .int .i64 x121] 25 (0, 0))] :: H) ∧ Own ty_Row 65 f108 A114 c115 s116 out113 ∧ spymake_Stream_Rows.l0 k vt18 s3 n_ out113 vid119 x120 x121 = some o104 ∧ a_ = ⟨#[.pointer (some ⟨b1, 0, none⟩), iV most7, uV, uV, .slice none 0 0, .slice A114 out113.length c115, iV vid119, .pointer (some ⟨b1, 0, none⟩), iV most7, iV (w64 (most7 + 1)), iV vt18, iV x120, (j112 0), (j112 1), (j112 2), (j112 3), (j112 4), (j112 5), (j112 6), (j112 7), (j112 8), (j112 9), (j112 10), (j112 11), uV], []⟩) k ⟨f21, none, 0, [], ([] : List S_Row), 0, 0, vt19, (fun i_ => [undef, undef, undef, undef, undef, undef, undef, undef, undef, undef, undef, undef].getD i_ undef), (FM.le.refl _), HS193, (Own.nil _), h, (by kernel_rfl)⟩ ?_
  clear h
  rintro n107 _ W110 ⟨f108, A114, c115, s116, out113, vid119, x120, x121, j112, L109, HS111, HO117, h, rfl⟩ K105 hK106
  obtain _ | n107 := n107
  · exact nomatch h
  simp only [spymake_Stream_Rows.l0] at h
  refine wp_seq_k (fun K122 hK123 => ?_)
  refine wp_region_lit ?_
  refine seqS1 (a' := ⟨#[.pointer (some ⟨b1, 0, none⟩), iV most7, uV, uV, .slice none 0 0, .slice A114 out113.length c115, iV vid119, .pointer (some ⟨b1, 0, none⟩), iV most7, iV (w64 (most7 + 1)), iV vt18, iV x120, .bool (decide (x120 < vt18)), (j112 1), (j112 2), (j112 3), (j112 4), (j112 5), (j112 6), (j112 7), (j112 8), (j112 9), (j112 10), (j112 11), uV], []⟩) (by kernel_rfl) ?_
  refine wpList_nil ?_
  refine hK123 _ _ ?_
  refine wp_seq_k (fun K124 hK125 => ?_)
  have hq_ := ite_some h; clear h; rcases hq_ with ⟨c127, h⟩ | ⟨c127, h⟩
  · have c127 : x120 < vt18 := c127
    refine wpRwI 12 (x := (decide (x120 < vt18))) (v := true) (by kernel_rfl) (decide_eq_true c127) ?_
    refine condT (by kernel_rfl) ?_
    refine wp_skip ?_
    refine hK125 _ _ ?_
    refine wp_seq_k (fun K128 hK129 => ?_)
    refine blockK (fun B130 hx131 hn132 hr133 ho134 hp135 => ?_)
    refine wp_seq_k (fun K137 hK138 => ?_)
    refine wp_region_lit ?_
    have HS139 := HS111.u1
    have hq_ := bind_some h; clear h; obtain ⟨⟨vt140, vt141⟩, hc142, h⟩ := hq_
    refine seqL2 (by kernel_rfl) ?_
    refine seqK rfl (does_call (f := 23) (args := #[.pointer (some ⟨b1, 0, none⟩), .int .i64 1, .int .i64 4]) (by kernel_rfl) (spymake_Stream_Range.calls k b1 A4 c5 (⟨s3.L, x121⟩ : S_Stream) 1 4 HS139 (HR6.mono (L22.trans L109)) vt140 vt141 hc142) ?_)
    rintro _ W145 ⟨f143, rfl, L144, HS146⟩
    refine ⟨_, rfl, ?_⟩
    refine seqS2 (a' := ⟨#[.pointer (some ⟨b1, 0, none⟩), iV most7, uV, uV, .slice none 0 0, .slice A114 out113.length c115, iV (w64 (vid119 + vt140)), .pointer (some ⟨b1, 0, none⟩), iV most7, iV (w64 (most7 + 1)), iV vt18, iV x120, .bool true, iV vid119, .pointer (some ⟨b1, 0, none⟩), iV vt140, iV (w64 (vid119 + vt140)), (j112 5), (j112 6), (j112 7), (j112 8), (j112 9), (j112 10), (j112 11), uV], []⟩) (by kernel_rfl) ?_
    refine wpList_nil ?_
    refine hK138 _ _ ?_
    refine wp_region_lit ?_
    have hq_ := bind_some h; clear h; obtain ⟨⟨vt147, vt148⟩, hc149, h⟩ := hq_
    refine seqL3 (by kernel_rfl) ?_
    refine seqK rfl (does_call (f := 24) (args := #[.pointer (some ⟨b1, 0, none⟩), .int .i64 (w64 (vid119 + vt140))]) (by kernel_rfl) (spymake_Stream_Row.calls k b1 A4 c5 (⟨s3.L, vt141⟩ : S_Stream) (w64 (vid119 + vt140)) HS146 (HR6.mono (L22.trans (L109.trans L144))) vt147 vt148 hc149) ?_)
    rintro _ W152 ⟨f150, A154, c155, s156, rfl, L151, HS153, HO157⟩
    refine ⟨_, rfl, ?_⟩
    obtain ⟨f159, L160, HS161, HR162⟩ := HO157.freeze HS153
    refine seqK rfl (does_lit (e := ty_Row) (E := 65) (vs := #[(0, Value.agg #[.int .i64 vt147.ID, .int .i64 vt147.Box.X.Lo, .int .i64 vt147.Box.X.Hi, .bool vt147.Box.X.Unknown, .int .i64 vt147.Box.Y.Lo, .int .i64 vt147.Box.Y.Hi, .bool vt147.Box.Y.Unknown, .int .i64 vt147.Box.Z.Lo, .int .i64 vt147.Box.Z.Hi, .bool vt147.Box.Z.Unknown, .int .i64 vt147.Flux.Lo, .int .i64 vt147.Flux.Hi, .bool vt147.Flux.Unknown, .int .i64 vt147.When.Lo, .int .i64 vt147.When.Hi, .bool vt147.When.Unknown, .slice A154 vt147.Frames.length c155, .int .i64 vt147.Marks])]) (cs := #[.int .i64 vt147.ID, .int .i64 vt147.Box.X.Lo, .int .i64 vt147.Box.X.Hi, .bool vt147.Box.X.Unknown, .int .i64 vt147.Box.Y.Lo, .int .i64 vt147.Box.Y.Hi, .bool vt147.Box.Y.Unknown, .int .i64 vt147.Box.Z.Lo, .int .i64 vt147.Box.Z.Hi, .bool vt147.Box.Z.Unknown, .int .i64 vt147.Flux.Lo, .int .i64 vt147.Flux.Hi, .bool vt147.Flux.Unknown, .int .i64 vt147.When.Lo, .int .i64 vt147.When.Hi, .bool vt147.When.Unknown, .slice A154 vt147.Frames.length c155, .int .i64 vt147.Marks]) (xs := ([vt147] : List S_Row)) rfl Try.underlying26 (by kernel_rfl) (by kernel_rfl) ⟨[.int .i64 vt147.ID, .int .i64 vt147.Box.X.Lo, .int .i64 vt147.Box.X.Hi, .bool vt147.Box.X.Unknown, .int .i64 vt147.Box.Y.Lo, .int .i64 vt147.Box.Y.Hi, .bool vt147.Box.Y.Unknown, .int .i64 vt147.Box.Z.Lo, .int .i64 vt147.Box.Z.Hi, .bool vt147.Box.Z.Unknown, .int .i64 vt147.Flux.Lo, .int .i64 vt147.Flux.Hi, .bool vt147.Flux.Unknown, .int .i64 vt147.When.Lo, .int .i64 vt147.When.Hi, .bool vt147.When.Unknown, .slice A154 vt147.Frames.length c155, .int .i64 vt147.Marks], _, rfl, ⟨A154, c155, rfl, HR162⟩, rfl⟩ rfl HS161 ?_ (by decide))
    intro b163 W164 s165 HS166 _ HO167
    have hq_ := guard_some h; clear h; obtain ⟨c169, h⟩ := hq_
    have c169 : (out113.length + 1) * 160 ≤ 140737488355328 := c169
    have HS170 := HS166.u2
    have HS171 := HS170.u1
    refine seqK rfl (does_append1 (e := ty_Row) (E := 65) (xs := out113) (ys := ([vt147] : List S_Row)) rfl (by kernel_rfl : _ = Value.slice A114 out113.length c115) (by kernel_rfl : _ = Value.slice (some ⟨b163, 0, none⟩) ([vt147] : List S_Row).length 1) Try.underlying26 inf65 (HO117.mono (L144.trans (L151.trans L160))) HO167 HS171 c169 (lim63 c169 (by decide)) ?_)
    intro A172 c173 s174 W175 HS176 HO177
    refine seqS1 (a' := ⟨#[.pointer (some ⟨b1, 0, none⟩), iV most7, uV, uV, .slice none 0 0, .slice A172 (out113 ++ ([vt147] : List S_Row)).length c173, iV (w64 (vid119 + vt140)), .pointer (some ⟨b1, 0, none⟩), iV most7, iV (w64 (most7 + 1)), iV vt18, iV x120, .bool true, iV vid119, .pointer (some ⟨b1, 0, none⟩), iV vt140, iV (w64 (vid119 + vt140)), .slice A114 out113.length c115, .pointer (some ⟨b1, 0, none⟩), iV (w64 (vid119 + vt140)), (ag_Row vt147 A154 c155), .slice (some ⟨b163, 0, none⟩) ([vt147] : List S_Row).length 1, .slice A172 (out113 ++ ([vt147] : List S_Row)).length c173, (j112 11), uV], []⟩) (by kernel_rfl) ?_
    refine wpList_nil ?_
    refine hn132 _ _ ?_
    refine hK129 _ _ ?_
    refine wp_region_lit ?_
    refine seqS2 (a' := ⟨#[.pointer (some ⟨b1, 0, none⟩), iV most7, uV, uV, .slice none 0 0, .slice A172 (out113 ++ ([vt147] : List S_Row)).length c173, iV (w64 (vid119 + vt140)), .pointer (some ⟨b1, 0, none⟩), iV most7, iV (w64 (most7 + 1)), iV vt18, iV (w64 (x120 + 1)), .bool true, iV vid119, .pointer (some ⟨b1, 0, none⟩), iV vt140, iV (w64 (vid119 + vt140)), .slice A114 out113.length c115, .pointer (some ⟨b1, 0, none⟩), iV (w64 (vid119 + vt140)), (ag_Row vt147 A154 c155), .slice (some ⟨b163, 0, none⟩) ([vt147] : List S_Row).length 1, .slice A172 (out113 ++ ([vt147] : List S_Row)).length c173, iV (w64 (x120 + 1)), uV], []⟩) (by kernel_rfl) ?_
    refine wpList_nil ?_
    refine hK106 n107 _ _ (Nat.lt_succ_self _) ?_
    exact ⟨f159, A172, c173, s174, (out113 ++ ([vt147] : List S_Row)), (w64 (vid119 + vt140)), (w64 (x120 + 1)), vt148, (fun i_ => [Value.bool true, Value.int .i64 vid119, Value.pointer (some ⟨b1, 0, none⟩), Value.int .i64 vt140, Value.int .i64 (w64 (vid119 + vt140)), Value.slice A114 out113.length c115, Value.pointer (some ⟨b1, 0, none⟩), Value.int .i64 (w64 (vid119 + vt140)), (ag_Row vt147 A154 c155), Value.slice (some ⟨b163, 0, none⟩) ([vt147] : List S_Row).length 1, Value.slice A172 (out113 ++ ([vt147] : List S_Row)).length c173, Value.int .i64 (w64 (x120 + 1))].getD i_ undef), (L109.trans (L144.trans (L151.trans L160))), HS176, HO177, h, (by kernel_rfl)⟩
  · have c127 : ¬ (x120 < vt18) := c127
    refine wpRwI 12 (x := (decide (x120 < vt18))) (v := false) (by kernel_rfl) (decide_eq_false c127) ?_
    refine condF (by kernel_rfl) ?_
    refine wp_exit ?_
    refine hx26 _ _ ?_
    exact J191 f108 A114 c115 s116 out113 x121 (fun i_ => [Value.int .i64 vid119, Value.int .i64 x120, Value.bool false, (j112 1), (j112 2), (j112 3), (j112 4), (j112 5), (j112 6), (j112 7), (j112 8), (j112 9), (j112 10), (j112 11)].getD i_ undef) W110 _ L109 h HS111 HO117 (by kernel_rfl)

set_option maxRecDepth 100000 in
set_option maxHeartbeats 4000000 in
theorem bound_Check_Coord.calls (k : Nat)  (b1 : S_Bound) {t w : World} {f : FM} {H : List Seg} (HS : St t w f (H)) (rr1 : Int) (h : bound_Check_Coord k b1 = some rr1) :
    Calls Try.prog 60 #[.agg #[.int .i64 b1.Lo, .int .i64 b1.Hi, .bool b1.Unknown]] w (fun e w' => ∃ (g : FM), e = .returned (Value.int .i64 rr1) ∧ FM.le f g ∧ St t w' g (H)) := by
  unfold bound_Check_Coord at h
  refine enter Try.func60 rfl (tm := #[(ag_Bound b1), uV, uV, uV, uV, uV, uV, uV, uV, uV, uV, uV, uV, uV, uV, uV, uV, uV, uV, uV, uV, uV, uV, uV, uV, uV, uV, uV, uV, uV, uV, uV, uV, uV, uV, uV, uV]) (by kernel_rfl) ?_
  intro B hret hnor hnp
  refine wp_seq_k (fun K2 hK3 => ?_)
  refine wp_region_lit ?_
  refine seqK rfl (does_box (cs := #[.int .i64 b1.Lo, .int .i64 b1.Hi, .bool b1.Unknown]) rfl (by kernel_rfl : _ = Value.agg #[.int .i64 b1.Lo, .int .i64 b1.Hi, .bool b1.Unknown]) rfl HS ?_)
  intro b4 W5 HS6
  refine seqS1 (a' := ⟨#[(ag_Bound b1), .pointer (some ⟨b4, 0, none⟩), iV 0, uV, uV, uV, uV, uV, uV, uV, uV, uV, uV, uV, uV, uV, uV, uV, uV, uV, uV, uV, uV, uV, uV, uV, uV, uV, uV, uV, uV, uV, uV, uV, uV, uV, uV], []⟩) (by kernel_rfl) ?_
  refine wpList_nil ?_
  refine hK3 _ _ ?_
  refine wp_seq_k (fun K8 hK9 => ?_)
  refine blockK (fun B10 hx11 hn12 hr13 ho14 hp15 => ?_)
  refine wp_seq_k (fun K17 hK18 => ?_)
  refine wp_region_lit ?_
  refine seqL1 (by kernel_rfl) ?_
  refine seqK rfl (does_run (run_load rfl Try.underlying4 rfl (by kernel_rfl : _ = Value.pointer (some ⟨b4, 2, none⟩)) (HS6.cell 2)) ?_)
  refine seqS1 (a' := ⟨#[(ag_Bound b1), .pointer (some ⟨b4, 0, none⟩), iV 0, uV, .pointer (some ⟨b4, 2, none⟩), .bool b1.Unknown, .bool b1.Unknown, uV, uV, uV, uV, uV, uV, uV, uV, uV, uV, uV, uV, uV, uV, uV, uV, uV, uV, uV, uV, uV, uV, uV, uV, uV, uV, uV, uV, uV, uV], []⟩) (by kernel_rfl) ?_
  have hq_ := ite_some h; clear h; rcases hq_ with ⟨c19, h⟩ | ⟨c19, h⟩
  · have c19 : b1.Unknown = true := c19
    refine seqRwI 5 (x := b1.Unknown) (v := true) (by kernel_rfl) c19 ?_
    refine seqRwI 6 (x := b1.Unknown) (v := true) (by kernel_rfl) c19 ?_
    refine seqL1 (by kernel_rfl) ?_
    refine seqG (by kernel_rfl) (does_run (run_load rfl Try.underlying53 rfl (by kernel_rfl : _ = Value.pointer (some ⟨b4, 0, none⟩)) (HS6.cell 0)) ?_)
    refine seqS2 (a' := ⟨#[(ag_Bound b1), .pointer (some ⟨b4, 0, none⟩), iV 0, uV, .pointer (some ⟨b4, 2, none⟩), .bool true, .bool true, .pointer (some ⟨b4, 0, none⟩), iV b1.Lo, .bool (b1.Lo != 0), .bool (b1.Lo != 0), uV, uV, uV, uV, uV, uV, uV, uV, uV, uV, uV, uV, uV, uV, uV, uV, uV, uV, uV, uV, uV, uV, uV, uV, uV, uV], []⟩) (by kernel_rfl) ?_
    have hq_ := ite_some h; clear h; rcases hq_ with ⟨c20, h⟩ | ⟨c20, h⟩
    · have c20 : b1.Lo ≠ 0 := c20
      refine seqRwI 9 (x := (b1.Lo != 0)) (v := true) (by kernel_rfl) (bne_iff_ne.mpr c20) ?_
      refine seqRwI 10 (x := (b1.Lo != 0)) (v := true) (by kernel_rfl) (bne_iff_ne.mpr c20) ?_
      refine seqS6 (a' := ⟨#[(ag_Bound b1), .pointer (some ⟨b4, 0, none⟩), iV 0, .bool true, .pointer (some ⟨b4, 2, none⟩), .bool true, .bool true, .pointer (some ⟨b4, 0, none⟩), iV b1.Lo, .bool true, .bool true, uV, uV, uV, .bool true, .bool true, uV, uV, uV, uV, uV, uV, uV, uV, uV, uV, uV, uV, uV, uV, uV, uV, uV, uV, uV, uV, uV], []⟩) (by kernel_rfl) ?_
      refine wpList_nil ?_
      refine hK18 _ _ ?_
      refine condT (by kernel_rfl) ?_
      refine wp_seq_k (fun K21 hK22 => ?_)
      refine wp_region_lit ?_
      refine seqS1 (a' := ⟨#[(ag_Bound b1), .pointer (some ⟨b4, 0, none⟩), iV 3, .bool true, .pointer (some ⟨b4, 2, none⟩), .bool true, .bool true, .pointer (some ⟨b4, 0, none⟩), iV b1.Lo, .bool true, .bool true, uV, uV, uV, .bool true, .bool true, uV, uV, uV, uV, uV, uV, uV, uV, uV, uV, uV, uV, uV, uV, uV, uV, uV, uV, uV, uV, uV], []⟩) (by kernel_rfl) ?_
      refine wpList_nil ?_
      refine hK22 _ _ ?_
      refine wp_ret ?_
      refine hr13 _ _ ?_
      refine hret _ _ ?_
      refine ends_still (v := Value.int .i64 3) (by kernel_rfl) (by kernel_rfl) ?_
      have HS61 := HS6.drop
      injection h with h
      subst h
      exact ⟨f, rfl, FM.le.refl _, HS61⟩
    · have c20 : ¬ (b1.Lo ≠ 0) := c20
      refine seqRwI 9 (x := (b1.Lo != 0)) (v := false) (by kernel_rfl) (bne_eq_false_iff_eq.mpr (Decidable.of_not_not c20)) ?_
      refine seqRwI 10 (x := (b1.Lo != 0)) (v := false) (by kernel_rfl) (bne_eq_false_iff_eq.mpr (Decidable.of_not_not c20)) ?_
      refine seqL1 (by kernel_rfl) ?_
      refine seqG (by kernel_rfl) (does_run (run_load rfl Try.underlying53 rfl (by kernel_rfl : _ = Value.pointer (some ⟨b4, 1, none⟩)) (HS6.cell 1)) ?_)
      refine seqS4 (a' := ⟨#[(ag_Bound b1), .pointer (some ⟨b4, 0, none⟩), iV 0, .bool (b1.Hi != 0), .pointer (some ⟨b4, 2, none⟩), .bool true, .bool true, .pointer (some ⟨b4, 0, none⟩), iV b1.Lo, .bool false, .bool false, .pointer (some ⟨b4, 1, none⟩), iV b1.Hi, .bool (b1.Hi != 0), .bool (b1.Hi != 0), .bool (b1.Hi != 0), uV, uV, uV, uV, uV, uV, uV, uV, uV, uV, uV, uV, uV, uV, uV, uV, uV, uV, uV, uV, uV], []⟩) (by kernel_rfl) ?_
      refine wpList_nil ?_
      refine hK18 _ _ ?_
      have hq_ := ite_some h; clear h; rcases hq_ with ⟨c24, h⟩ | ⟨c24, h⟩
      · have c24 : b1.Hi ≠ 0 := c24
        refine wpRwI 3 (x := (b1.Hi != 0)) (v := true) (by kernel_rfl) (bne_iff_ne.mpr c24) ?_
        refine wpRwI 13 (x := (b1.Hi != 0)) (v := true) (by kernel_rfl) (bne_iff_ne.mpr c24) ?_
        refine wpRwI 14 (x := (b1.Hi != 0)) (v := true) (by kernel_rfl) (bne_iff_ne.mpr c24) ?_
        refine wpRwI 15 (x := (b1.Hi != 0)) (v := true) (by kernel_rfl) (bne_iff_ne.mpr c24) ?_
        refine condT (by kernel_rfl) ?_
        refine wp_seq_k (fun K25 hK26 => ?_)
        refine wp_region_lit ?_
        refine seqS1 (a' := ⟨#[(ag_Bound b1), .pointer (some ⟨b4, 0, none⟩), iV 3, .bool true, .pointer (some ⟨b4, 2, none⟩), .bool true, .bool true, .pointer (some ⟨b4, 0, none⟩), iV b1.Lo, .bool false, .bool false, .pointer (some ⟨b4, 1, none⟩), iV b1.Hi, .bool true, .bool true, .bool true, uV, uV, uV, uV, uV, uV, uV, uV, uV, uV, uV, uV, uV, uV, uV, uV, uV, uV, uV, uV, uV], []⟩) (by kernel_rfl) ?_
        refine wpList_nil ?_
        refine hK26 _ _ ?_
        refine wp_ret ?_
        refine hr13 _ _ ?_
        refine hret _ _ ?_
        refine ends_still (v := Value.int .i64 3) (by kernel_rfl) (by kernel_rfl) ?_
        have HS62 := HS6.drop
        injection h with h
        subst h
        exact ⟨f, rfl, FM.le.refl _, HS62⟩
      · have c24 : ¬ (b1.Hi ≠ 0) := c24
        refine wpRwI 3 (x := (b1.Hi != 0)) (v := false) (by kernel_rfl) (bne_eq_false_iff_eq.mpr (Decidable.of_not_not c24)) ?_
        refine wpRwI 13 (x := (b1.Hi != 0)) (v := false) (by kernel_rfl) (bne_eq_false_iff_eq.mpr (Decidable.of_not_not c24)) ?_
        refine wpRwI 14 (x := (b1.Hi != 0)) (v := false) (by kernel_rfl) (bne_eq_false_iff_eq.mpr (Decidable.of_not_not c24)) ?_
        refine wpRwI 15 (x := (b1.Hi != 0)) (v := false) (by kernel_rfl) (bne_eq_false_iff_eq.mpr (Decidable.of_not_not c24)) ?_
        refine condF (by kernel_rfl) ?_
        refine wp_seq_k (fun K27 hK28 => ?_)
        refine wp_region_lit ?_
        refine seqL1 (by kernel_rfl) ?_
        refine seqK rfl (does_run (run_load rfl Try.underlying53 rfl (by kernel_rfl : _ = Value.pointer (some ⟨b4, 0, none⟩)) (HS6.cell 0)) ?_)
        refine seqL1 (by kernel_rfl) ?_
        refine seqK rfl (does_run (run_load rfl Try.underlying53 rfl (by kernel_rfl : _ = Value.pointer (some ⟨b4, 1, none⟩)) (HS6.cell 1)) ?_)
        refine seqS3 (a' := ⟨#[(ag_Bound b1), .pointer (some ⟨b4, 0, none⟩), iV 0, .bool false, .pointer (some ⟨b4, 2, none⟩), .bool true, .bool true, .pointer (some ⟨b4, 0, none⟩), iV b1.Lo, .bool false, .bool false, .pointer (some ⟨b4, 1, none⟩), iV b1.Hi, .bool false, .bool false, .bool false, uV, .pointer (some ⟨b4, 0, none⟩), iV b1.Lo, .pointer (some ⟨b4, 1, none⟩), iV b1.Hi, iV (mn b1.Lo b1.Hi), .bool (decide ((mn b1.Lo b1.Hi) < (-1152921504606846976))), .bool (decide ((mn b1.Lo b1.Hi) < (-1152921504606846976))), uV, uV, uV, uV, uV, uV, uV, uV, uV, uV, uV, uV, uV], []⟩) (by kernel_rfl) ?_
        have hq_ := ite_some h; clear h; rcases hq_ with ⟨c29, h⟩ | ⟨c29, h⟩
        · have c29 : (mn b1.Lo b1.Hi) < (-1152921504606846976) := c29
          refine seqRwI 22 (x := (decide ((mn b1.Lo b1.Hi) < (-1152921504606846976)))) (v := true) (by kernel_rfl) (decide_eq_true c29) ?_
          refine seqRwI 23 (x := (decide ((mn b1.Lo b1.Hi) < (-1152921504606846976)))) (v := true) (by kernel_rfl) (decide_eq_true c29) ?_
          refine seqS8 (a' := ⟨#[(ag_Bound b1), .pointer (some ⟨b4, 0, none⟩), iV 0, .bool false, .pointer (some ⟨b4, 2, none⟩), .bool true, .bool true, .pointer (some ⟨b4, 0, none⟩), iV b1.Lo, .bool false, .bool false, .pointer (some ⟨b4, 1, none⟩), iV b1.Hi, .bool false, .bool false, .bool false, .bool true, .pointer (some ⟨b4, 0, none⟩), iV b1.Lo, .pointer (some ⟨b4, 1, none⟩), iV b1.Hi, iV (mn b1.Lo b1.Hi), .bool true, .bool true, uV, uV, uV, uV, uV, uV, .bool true, uV, uV, uV, uV, uV, uV], []⟩) (by kernel_rfl) ?_
          refine wpList_nil ?_
          refine hK28 _ _ ?_
          refine condT (by kernel_rfl) ?_
          refine wp_seq_k (fun K30 hK31 => ?_)
          refine wp_region_lit ?_
          refine seqS1 (a' := ⟨#[(ag_Bound b1), .pointer (some ⟨b4, 0, none⟩), iV 4, .bool false, .pointer (some ⟨b4, 2, none⟩), .bool true, .bool true, .pointer (some ⟨b4, 0, none⟩), iV b1.Lo, .bool false, .bool false, .pointer (some ⟨b4, 1, none⟩), iV b1.Hi, .bool false, .bool false, .bool false, .bool true, .pointer (some ⟨b4, 0, none⟩), iV b1.Lo, .pointer (some ⟨b4, 1, none⟩), iV b1.Hi, iV (mn b1.Lo b1.Hi), .bool true, .bool true, uV, uV, uV, uV, uV, uV, .bool true, uV, uV, uV, uV, uV, uV], []⟩) (by kernel_rfl) ?_
          refine wpList_nil ?_
          refine hK31 _ _ ?_
          refine wp_ret ?_
          refine hr13 _ _ ?_
          refine hret _ _ ?_
          refine ends_still (v := Value.int .i64 4) (by kernel_rfl) (by kernel_rfl) ?_
          have HS63 := HS6.drop
          injection h with h
          subst h
          exact ⟨f, rfl, FM.le.refl _, HS63⟩
        · have c29 : ¬ ((mn b1.Lo b1.Hi) < (-1152921504606846976)) := c29
          refine seqRwI 22 (x := (decide ((mn b1.Lo b1.Hi) < (-1152921504606846976)))) (v := false) (by kernel_rfl) (decide_eq_false c29) ?_
          refine seqRwI 23 (x := (decide ((mn b1.Lo b1.Hi) < (-1152921504606846976)))) (v := false) (by kernel_rfl) (decide_eq_false c29) ?_
          refine seqL1 (by kernel_rfl) ?_
          refine seqG (by kernel_rfl) (does_run (run_load rfl Try.underlying53 rfl (by kernel_rfl : _ = Value.pointer (some ⟨b4, 0, none⟩)) (HS6.cell 0)) ?_)
          refine seqL1 (by kernel_rfl) ?_
          refine seqG (by kernel_rfl) (does_run (run_load rfl Try.underlying53 rfl (by kernel_rfl : _ = Value.pointer (some ⟨b4, 1, none⟩)) (HS6.cell 1)) ?_)
          refine seqS4 (a' := ⟨#[(ag_Bound b1), .pointer (some ⟨b4, 0, none⟩), iV 0, .bool false, .pointer (some ⟨b4, 2, none⟩), .bool true, .bool true, .pointer (some ⟨b4, 0, none⟩), iV b1.Lo, .bool false, .bool false, .pointer (some ⟨b4, 1, none⟩), iV b1.Hi, .bool false, .bool false, .bool false, .bool (decide ((mx b1.Lo b1.Hi) > 1152921504606846976)), .pointer (some ⟨b4, 0, none⟩), iV b1.Lo, .pointer (some ⟨b4, 1, none⟩), iV b1.Hi, iV (mn b1.Lo b1.Hi), .bool false, .bool false, .pointer (some ⟨b4, 0, none⟩), iV b1.Lo, .pointer (some ⟨b4, 1, none⟩), iV b1.Hi, iV (mx b1.Lo b1.Hi), .bool (decide ((mx b1.Lo b1.Hi) > 1152921504606846976)), .bool (decide ((mx b1.Lo b1.Hi) > 1152921504606846976)), uV, uV, uV, uV, uV, uV], []⟩) (by kernel_rfl) ?_
          refine wpList_nil ?_
          refine hK28 _ _ ?_
          have hq_ := ite_some h; clear h; rcases hq_ with ⟨c33, h⟩ | ⟨c33, h⟩
          · have c33 : (mx b1.Lo b1.Hi) > 1152921504606846976 := c33
            refine wpRwI 16 (x := (decide ((mx b1.Lo b1.Hi) > 1152921504606846976))) (v := true) (by kernel_rfl) (decide_eq_true c33) ?_
            refine wpRwI 29 (x := (decide ((mx b1.Lo b1.Hi) > 1152921504606846976))) (v := true) (by kernel_rfl) (decide_eq_true c33) ?_
            refine wpRwI 30 (x := (decide ((mx b1.Lo b1.Hi) > 1152921504606846976))) (v := true) (by kernel_rfl) (decide_eq_true c33) ?_
            refine condT (by kernel_rfl) ?_
            refine wp_seq_k (fun K34 hK35 => ?_)
            refine wp_region_lit ?_
            refine seqS1 (a' := ⟨#[(ag_Bound b1), .pointer (some ⟨b4, 0, none⟩), iV 4, .bool false, .pointer (some ⟨b4, 2, none⟩), .bool true, .bool true, .pointer (some ⟨b4, 0, none⟩), iV b1.Lo, .bool false, .bool false, .pointer (some ⟨b4, 1, none⟩), iV b1.Hi, .bool false, .bool false, .bool false, .bool true, .pointer (some ⟨b4, 0, none⟩), iV b1.Lo, .pointer (some ⟨b4, 1, none⟩), iV b1.Hi, iV (mn b1.Lo b1.Hi), .bool false, .bool false, .pointer (some ⟨b4, 0, none⟩), iV b1.Lo, .pointer (some ⟨b4, 1, none⟩), iV b1.Hi, iV (mx b1.Lo b1.Hi), .bool true, .bool true, uV, uV, uV, uV, uV, uV], []⟩) (by kernel_rfl) ?_
            refine wpList_nil ?_
            refine hK35 _ _ ?_
            refine wp_ret ?_
            refine hr13 _ _ ?_
            refine hret _ _ ?_
            refine ends_still (v := Value.int .i64 4) (by kernel_rfl) (by kernel_rfl) ?_
            have HS64 := HS6.drop
            injection h with h
            subst h
            exact ⟨f, rfl, FM.le.refl _, HS64⟩
          · have c33 : ¬ ((mx b1.Lo b1.Hi) > 1152921504606846976) := c33
            refine wpRwI 16 (x := (decide ((mx b1.Lo b1.Hi) > 1152921504606846976))) (v := false) (by kernel_rfl) (decide_eq_false c33) ?_
            refine wpRwI 29 (x := (decide ((mx b1.Lo b1.Hi) > 1152921504606846976))) (v := false) (by kernel_rfl) (decide_eq_false c33) ?_
            refine wpRwI 30 (x := (decide ((mx b1.Lo b1.Hi) > 1152921504606846976))) (v := false) (by kernel_rfl) (decide_eq_false c33) ?_
            refine condF (by kernel_rfl) ?_
            refine wp_seq_k (fun K36 hK37 => ?_)
            refine wp_region_lit ?_
            refine seqL1 (by kernel_rfl) ?_
            refine seqK rfl (does_run (run_load rfl Try.underlying53 rfl (by kernel_rfl : _ = Value.pointer (some ⟨b4, 0, none⟩)) (HS6.cell 0)) ?_)
            refine seqL1 (by kernel_rfl) ?_
            refine seqK rfl (does_run (run_load rfl Try.underlying53 rfl (by kernel_rfl : _ = Value.pointer (some ⟨b4, 1, none⟩)) (HS6.cell 1)) ?_)
            refine seqS2 (a' := ⟨#[(ag_Bound b1), .pointer (some ⟨b4, 0, none⟩), iV 0, .bool false, .pointer (some ⟨b4, 2, none⟩), .bool true, .bool true, .pointer (some ⟨b4, 0, none⟩), iV b1.Lo, .bool false, .bool false, .pointer (some ⟨b4, 1, none⟩), iV b1.Hi, .bool false, .bool false, .bool false, .bool false, .pointer (some ⟨b4, 0, none⟩), iV b1.Lo, .pointer (some ⟨b4, 1, none⟩), iV b1.Hi, iV (mn b1.Lo b1.Hi), .bool false, .bool false, .pointer (some ⟨b4, 0, none⟩), iV b1.Lo, .pointer (some ⟨b4, 1, none⟩), iV b1.Hi, iV (mx b1.Lo b1.Hi), .bool false, .bool false, .bool (decide (b1.Lo > b1.Hi)), .pointer (some ⟨b4, 0, none⟩), iV b1.Lo, .pointer (some ⟨b4, 1, none⟩), iV b1.Hi, .bool (decide (b1.Lo > b1.Hi))], []⟩) (by kernel_rfl) ?_
            refine wpList_nil ?_
            refine hK37 _ _ ?_
            have hq_ := ite_some h; clear h; rcases hq_ with ⟨c39, h⟩ | ⟨c39, h⟩
            · have c39 : b1.Lo > b1.Hi := c39
              refine wpRwI 31 (x := (decide (b1.Lo > b1.Hi))) (v := true) (by kernel_rfl) (decide_eq_true c39) ?_
              refine wpRwI 36 (x := (decide (b1.Lo > b1.Hi))) (v := true) (by kernel_rfl) (decide_eq_true c39) ?_
              refine condT (by kernel_rfl) ?_
              refine wp_seq_k (fun K40 hK41 => ?_)
              refine wp_region_lit ?_
              refine seqS1 (a' := ⟨#[(ag_Bound b1), .pointer (some ⟨b4, 0, none⟩), iV 11, .bool false, .pointer (some ⟨b4, 2, none⟩), .bool true, .bool true, .pointer (some ⟨b4, 0, none⟩), iV b1.Lo, .bool false, .bool false, .pointer (some ⟨b4, 1, none⟩), iV b1.Hi, .bool false, .bool false, .bool false, .bool false, .pointer (some ⟨b4, 0, none⟩), iV b1.Lo, .pointer (some ⟨b4, 1, none⟩), iV b1.Hi, iV (mn b1.Lo b1.Hi), .bool false, .bool false, .pointer (some ⟨b4, 0, none⟩), iV b1.Lo, .pointer (some ⟨b4, 1, none⟩), iV b1.Hi, iV (mx b1.Lo b1.Hi), .bool false, .bool false, .bool true, .pointer (some ⟨b4, 0, none⟩), iV b1.Lo, .pointer (some ⟨b4, 1, none⟩), iV b1.Hi, .bool true], []⟩) (by kernel_rfl) ?_
              refine wpList_nil ?_
              refine hK41 _ _ ?_
              refine wp_ret ?_
              refine hr13 _ _ ?_
              refine hret _ _ ?_
              refine ends_still (v := Value.int .i64 11) (by kernel_rfl) (by kernel_rfl) ?_
              have HS65 := HS6.drop
              injection h with h
              subst h
              exact ⟨f, rfl, FM.le.refl _, HS65⟩
            · have c39 : ¬ (b1.Lo > b1.Hi) := c39
              refine wpRwI 31 (x := (decide (b1.Lo > b1.Hi))) (v := false) (by kernel_rfl) (decide_eq_false c39) ?_
              refine wpRwI 36 (x := (decide (b1.Lo > b1.Hi))) (v := false) (by kernel_rfl) (decide_eq_false c39) ?_
              refine condF (by kernel_rfl) ?_
              refine wp_skip ?_
              refine hn12 _ _ ?_
              refine hK9 _ _ ?_
              refine wp_seq_k (fun K57 hK58 => ?_)
              refine wp_region_lit ?_
              refine seqS1 (a' := ⟨#[(ag_Bound b1), .pointer (some ⟨b4, 0, none⟩), iV 0, .bool false, .pointer (some ⟨b4, 2, none⟩), .bool true, .bool true, .pointer (some ⟨b4, 0, none⟩), iV b1.Lo, .bool false, .bool false, .pointer (some ⟨b4, 1, none⟩), iV b1.Hi, .bool false, .bool false, .bool false, .bool false, .pointer (some ⟨b4, 0, none⟩), iV b1.Lo, .pointer (some ⟨b4, 1, none⟩), iV b1.Hi, iV (mn b1.Lo b1.Hi), .bool false, .bool false, .pointer (some ⟨b4, 0, none⟩), iV b1.Lo, .pointer (some ⟨b4, 1, none⟩), iV b1.Hi, iV (mx b1.Lo b1.Hi), .bool false, .bool false, .bool false, .pointer (some ⟨b4, 0, none⟩), iV b1.Lo, .pointer (some ⟨b4, 1, none⟩), iV b1.Hi, .bool false], []⟩) (by kernel_rfl) ?_
              refine wpList_nil ?_
              refine hK58 _ _ ?_
              refine wp_ret ?_
              refine hret _ _ ?_
              refine ends_still (v := Value.int .i64 0) (by kernel_rfl) (by kernel_rfl) ?_
              have HS69 := HS6.drop
              injection h with h
              subst h
              exact ⟨f, rfl, FM.le.refl _, HS69⟩
  · have c19 : ¬ (b1.Unknown = true) := c19
    refine seqRwI 5 (x := b1.Unknown) (v := false) (by kernel_rfl) (Bool.eq_false_iff.mpr c19) ?_
    refine seqRwI 6 (x := b1.Unknown) (v := false) (by kernel_rfl) (Bool.eq_false_iff.mpr c19) ?_
    refine seqS10 (a' := ⟨#[(ag_Bound b1), .pointer (some ⟨b4, 0, none⟩), iV 0, .bool false, .pointer (some ⟨b4, 2, none⟩), .bool false, .bool false, uV, uV, uV, uV, uV, uV, uV, uV, .bool false, uV, uV, uV, uV, uV, uV, uV, uV, uV, uV, uV, uV, uV, uV, uV, uV, uV, uV, uV, uV, uV], []⟩) (by kernel_rfl) ?_
    refine wpList_nil ?_
    refine hK18 _ _ ?_
    refine condF (by kernel_rfl) ?_
    refine wp_seq_k (fun K42 hK43 => ?_)
    refine wp_region_lit ?_
    refine seqL1 (by kernel_rfl) ?_
    refine seqK rfl (does_run (run_load rfl Try.underlying53 rfl (by kernel_rfl : _ = Value.pointer (some ⟨b4, 0, none⟩)) (HS6.cell 0)) ?_)
    refine seqL1 (by kernel_rfl) ?_
    refine seqK rfl (does_run (run_load rfl Try.underlying53 rfl (by kernel_rfl : _ = Value.pointer (some ⟨b4, 1, none⟩)) (HS6.cell 1)) ?_)
    refine seqS3 (a' := ⟨#[(ag_Bound b1), .pointer (some ⟨b4, 0, none⟩), iV 0, .bool false, .pointer (some ⟨b4, 2, none⟩), .bool false, .bool false, uV, uV, uV, uV, uV, uV, uV, uV, .bool false, uV, .pointer (some ⟨b4, 0, none⟩), iV b1.Lo, .pointer (some ⟨b4, 1, none⟩), iV b1.Hi, iV (mn b1.Lo b1.Hi), .bool (decide ((mn b1.Lo b1.Hi) < (-1152921504606846976))), .bool (decide ((mn b1.Lo b1.Hi) < (-1152921504606846976))), uV, uV, uV, uV, uV, uV, uV, uV, uV, uV, uV, uV, uV], []⟩) (by kernel_rfl) ?_
    have hq_ := ite_some h; clear h; rcases hq_ with ⟨c44, h⟩ | ⟨c44, h⟩
    · have c44 : (mn b1.Lo b1.Hi) < (-1152921504606846976) := c44
      refine seqRwI 22 (x := (decide ((mn b1.Lo b1.Hi) < (-1152921504606846976)))) (v := true) (by kernel_rfl) (decide_eq_true c44) ?_
      refine seqRwI 23 (x := (decide ((mn b1.Lo b1.Hi) < (-1152921504606846976)))) (v := true) (by kernel_rfl) (decide_eq_true c44) ?_
      refine seqS8 (a' := ⟨#[(ag_Bound b1), .pointer (some ⟨b4, 0, none⟩), iV 0, .bool false, .pointer (some ⟨b4, 2, none⟩), .bool false, .bool false, uV, uV, uV, uV, uV, uV, uV, uV, .bool false, .bool true, .pointer (some ⟨b4, 0, none⟩), iV b1.Lo, .pointer (some ⟨b4, 1, none⟩), iV b1.Hi, iV (mn b1.Lo b1.Hi), .bool true, .bool true, uV, uV, uV, uV, uV, uV, .bool true, uV, uV, uV, uV, uV, uV], []⟩) (by kernel_rfl) ?_
      refine wpList_nil ?_
      refine hK43 _ _ ?_
      refine condT (by kernel_rfl) ?_
      refine wp_seq_k (fun K45 hK46 => ?_)
      refine wp_region_lit ?_
      refine seqS1 (a' := ⟨#[(ag_Bound b1), .pointer (some ⟨b4, 0, none⟩), iV 4, .bool false, .pointer (some ⟨b4, 2, none⟩), .bool false, .bool false, uV, uV, uV, uV, uV, uV, uV, uV, .bool false, .bool true, .pointer (some ⟨b4, 0, none⟩), iV b1.Lo, .pointer (some ⟨b4, 1, none⟩), iV b1.Hi, iV (mn b1.Lo b1.Hi), .bool true, .bool true, uV, uV, uV, uV, uV, uV, .bool true, uV, uV, uV, uV, uV, uV], []⟩) (by kernel_rfl) ?_
      refine wpList_nil ?_
      refine hK46 _ _ ?_
      refine wp_ret ?_
      refine hr13 _ _ ?_
      refine hret _ _ ?_
      refine ends_still (v := Value.int .i64 4) (by kernel_rfl) (by kernel_rfl) ?_
      have HS66 := HS6.drop
      injection h with h
      subst h
      exact ⟨f, rfl, FM.le.refl _, HS66⟩
    · have c44 : ¬ ((mn b1.Lo b1.Hi) < (-1152921504606846976)) := c44
      refine seqRwI 22 (x := (decide ((mn b1.Lo b1.Hi) < (-1152921504606846976)))) (v := false) (by kernel_rfl) (decide_eq_false c44) ?_
      refine seqRwI 23 (x := (decide ((mn b1.Lo b1.Hi) < (-1152921504606846976)))) (v := false) (by kernel_rfl) (decide_eq_false c44) ?_
      refine seqL1 (by kernel_rfl) ?_
      refine seqG (by kernel_rfl) (does_run (run_load rfl Try.underlying53 rfl (by kernel_rfl : _ = Value.pointer (some ⟨b4, 0, none⟩)) (HS6.cell 0)) ?_)
      refine seqL1 (by kernel_rfl) ?_
      refine seqG (by kernel_rfl) (does_run (run_load rfl Try.underlying53 rfl (by kernel_rfl : _ = Value.pointer (some ⟨b4, 1, none⟩)) (HS6.cell 1)) ?_)
      refine seqS4 (a' := ⟨#[(ag_Bound b1), .pointer (some ⟨b4, 0, none⟩), iV 0, .bool false, .pointer (some ⟨b4, 2, none⟩), .bool false, .bool false, uV, uV, uV, uV, uV, uV, uV, uV, .bool false, .bool (decide ((mx b1.Lo b1.Hi) > 1152921504606846976)), .pointer (some ⟨b4, 0, none⟩), iV b1.Lo, .pointer (some ⟨b4, 1, none⟩), iV b1.Hi, iV (mn b1.Lo b1.Hi), .bool false, .bool false, .pointer (some ⟨b4, 0, none⟩), iV b1.Lo, .pointer (some ⟨b4, 1, none⟩), iV b1.Hi, iV (mx b1.Lo b1.Hi), .bool (decide ((mx b1.Lo b1.Hi) > 1152921504606846976)), .bool (decide ((mx b1.Lo b1.Hi) > 1152921504606846976)), uV, uV, uV, uV, uV, uV], []⟩) (by kernel_rfl) ?_
      refine wpList_nil ?_
      refine hK43 _ _ ?_
      have hq_ := ite_some h; clear h; rcases hq_ with ⟨c48, h⟩ | ⟨c48, h⟩
      · have c48 : (mx b1.Lo b1.Hi) > 1152921504606846976 := c48
        refine wpRwI 16 (x := (decide ((mx b1.Lo b1.Hi) > 1152921504606846976))) (v := true) (by kernel_rfl) (decide_eq_true c48) ?_
        refine wpRwI 29 (x := (decide ((mx b1.Lo b1.Hi) > 1152921504606846976))) (v := true) (by kernel_rfl) (decide_eq_true c48) ?_
        refine wpRwI 30 (x := (decide ((mx b1.Lo b1.Hi) > 1152921504606846976))) (v := true) (by kernel_rfl) (decide_eq_true c48) ?_
        refine condT (by kernel_rfl) ?_
        refine wp_seq_k (fun K49 hK50 => ?_)
        refine wp_region_lit ?_
        refine seqS1 (a' := ⟨#[(ag_Bound b1), .pointer (some ⟨b4, 0, none⟩), iV 4, .bool false, .pointer (some ⟨b4, 2, none⟩), .bool false, .bool false, uV, uV, uV, uV, uV, uV, uV, uV, .bool false, .bool true, .pointer (some ⟨b4, 0, none⟩), iV b1.Lo, .pointer (some ⟨b4, 1, none⟩), iV b1.Hi, iV (mn b1.Lo b1.Hi), .bool false, .bool false, .pointer (some ⟨b4, 0, none⟩), iV b1.Lo, .pointer (some ⟨b4, 1, none⟩), iV b1.Hi, iV (mx b1.Lo b1.Hi), .bool true, .bool true, uV, uV, uV, uV, uV, uV], []⟩) (by kernel_rfl) ?_
        refine wpList_nil ?_
        refine hK50 _ _ ?_
        refine wp_ret ?_
        refine hr13 _ _ ?_
        refine hret _ _ ?_
        refine ends_still (v := Value.int .i64 4) (by kernel_rfl) (by kernel_rfl) ?_
        have HS67 := HS6.drop
        injection h with h
        subst h
        exact ⟨f, rfl, FM.le.refl _, HS67⟩
      · have c48 : ¬ ((mx b1.Lo b1.Hi) > 1152921504606846976) := c48
        refine wpRwI 16 (x := (decide ((mx b1.Lo b1.Hi) > 1152921504606846976))) (v := false) (by kernel_rfl) (decide_eq_false c48) ?_
        refine wpRwI 29 (x := (decide ((mx b1.Lo b1.Hi) > 1152921504606846976))) (v := false) (by kernel_rfl) (decide_eq_false c48) ?_
        refine wpRwI 30 (x := (decide ((mx b1.Lo b1.Hi) > 1152921504606846976))) (v := false) (by kernel_rfl) (decide_eq_false c48) ?_
        refine condF (by kernel_rfl) ?_
        refine wp_seq_k (fun K51 hK52 => ?_)
        refine wp_region_lit ?_
        refine seqL1 (by kernel_rfl) ?_
        refine seqK rfl (does_run (run_load rfl Try.underlying53 rfl (by kernel_rfl : _ = Value.pointer (some ⟨b4, 0, none⟩)) (HS6.cell 0)) ?_)
        refine seqL1 (by kernel_rfl) ?_
        refine seqK rfl (does_run (run_load rfl Try.underlying53 rfl (by kernel_rfl : _ = Value.pointer (some ⟨b4, 1, none⟩)) (HS6.cell 1)) ?_)
        refine seqS2 (a' := ⟨#[(ag_Bound b1), .pointer (some ⟨b4, 0, none⟩), iV 0, .bool false, .pointer (some ⟨b4, 2, none⟩), .bool false, .bool false, uV, uV, uV, uV, uV, uV, uV, uV, .bool false, .bool false, .pointer (some ⟨b4, 0, none⟩), iV b1.Lo, .pointer (some ⟨b4, 1, none⟩), iV b1.Hi, iV (mn b1.Lo b1.Hi), .bool false, .bool false, .pointer (some ⟨b4, 0, none⟩), iV b1.Lo, .pointer (some ⟨b4, 1, none⟩), iV b1.Hi, iV (mx b1.Lo b1.Hi), .bool false, .bool false, .bool (decide (b1.Lo > b1.Hi)), .pointer (some ⟨b4, 0, none⟩), iV b1.Lo, .pointer (some ⟨b4, 1, none⟩), iV b1.Hi, .bool (decide (b1.Lo > b1.Hi))], []⟩) (by kernel_rfl) ?_
        refine wpList_nil ?_
        refine hK52 _ _ ?_
        have hq_ := ite_some h; clear h; rcases hq_ with ⟨c54, h⟩ | ⟨c54, h⟩
        · have c54 : b1.Lo > b1.Hi := c54
          refine wpRwI 31 (x := (decide (b1.Lo > b1.Hi))) (v := true) (by kernel_rfl) (decide_eq_true c54) ?_
          refine wpRwI 36 (x := (decide (b1.Lo > b1.Hi))) (v := true) (by kernel_rfl) (decide_eq_true c54) ?_
          refine condT (by kernel_rfl) ?_
          refine wp_seq_k (fun K55 hK56 => ?_)
          refine wp_region_lit ?_
          refine seqS1 (a' := ⟨#[(ag_Bound b1), .pointer (some ⟨b4, 0, none⟩), iV 11, .bool false, .pointer (some ⟨b4, 2, none⟩), .bool false, .bool false, uV, uV, uV, uV, uV, uV, uV, uV, .bool false, .bool false, .pointer (some ⟨b4, 0, none⟩), iV b1.Lo, .pointer (some ⟨b4, 1, none⟩), iV b1.Hi, iV (mn b1.Lo b1.Hi), .bool false, .bool false, .pointer (some ⟨b4, 0, none⟩), iV b1.Lo, .pointer (some ⟨b4, 1, none⟩), iV b1.Hi, iV (mx b1.Lo b1.Hi), .bool false, .bool false, .bool true, .pointer (some ⟨b4, 0, none⟩), iV b1.Lo, .pointer (some ⟨b4, 1, none⟩), iV b1.Hi, .bool true], []⟩) (by kernel_rfl) ?_
          refine wpList_nil ?_
          refine hK56 _ _ ?_
          refine wp_ret ?_
          refine hr13 _ _ ?_
          refine hret _ _ ?_
          refine ends_still (v := Value.int .i64 11) (by kernel_rfl) (by kernel_rfl) ?_
          have HS68 := HS6.drop
          injection h with h
          subst h
          exact ⟨f, rfl, FM.le.refl _, HS68⟩
        · have c54 : ¬ (b1.Lo > b1.Hi) := c54
          refine wpRwI 31 (x := (decide (b1.Lo > b1.Hi))) (v := false) (by kernel_rfl) (decide_eq_false c54) ?_
          refine wpRwI 36 (x := (decide (b1.Lo > b1.Hi))) (v := false) (by kernel_rfl) (decide_eq_false c54) ?_
          refine condF (by kernel_rfl) ?_
          refine wp_skip ?_
          refine hn12 _ _ ?_
          refine hK9 _ _ ?_
          refine wp_seq_k (fun K59 hK60 => ?_)
          refine wp_region_lit ?_
          refine seqS1 (a' := ⟨#[(ag_Bound b1), .pointer (some ⟨b4, 0, none⟩), iV 0, .bool false, .pointer (some ⟨b4, 2, none⟩), .bool false, .bool false, uV, uV, uV, uV, uV, uV, uV, uV, .bool false, .bool false, .pointer (some ⟨b4, 0, none⟩), iV b1.Lo, .pointer (some ⟨b4, 1, none⟩), iV b1.Hi, iV (mn b1.Lo b1.Hi), .bool false, .bool false, .pointer (some ⟨b4, 0, none⟩), iV b1.Lo, .pointer (some ⟨b4, 1, none⟩), iV b1.Hi, iV (mx b1.Lo b1.Hi), .bool false, .bool false, .bool false, .pointer (some ⟨b4, 0, none⟩), iV b1.Lo, .pointer (some ⟨b4, 1, none⟩), iV b1.Hi, .bool false], []⟩) (by kernel_rfl) ?_
          refine wpList_nil ?_
          refine hK60 _ _ ?_
          refine wp_ret ?_
          refine hret _ _ ?_
          refine ends_still (v := Value.int .i64 0) (by kernel_rfl) (by kernel_rfl) ?_
          have HS70 := HS6.drop
          injection h with h
          subst h
          exact ⟨f, rfl, FM.le.refl _, HS70⟩

set_option maxRecDepth 100000 in
set_option maxHeartbeats 4000000 in
theorem catalog_ends_Coord.calls (k : Nat)  (b1 : S_Bound) (most2 : Int) {t w : World} {f : FM} {H : List Seg} (HS : St t w f (H)) (rr1 : Int) (h : catalog_ends_Coord k b1 most2 = some rr1) :
    Calls Try.prog 54 #[.agg #[.int .i64 b1.Lo, .int .i64 b1.Hi, .bool b1.Unknown], .int .i64 most2] w (fun e w' => ∃ (g : FM), e = .returned (Value.int .i64 rr1) ∧ FM.le f g ∧ St t w' g (H)) := by
  unfold catalog_ends_Coord at h
  refine enter Try.func54 rfl (tm := #[(ag_Bound b1), iV most2, uV, uV, uV, uV, uV, uV, uV, uV, uV, uV, uV, uV, uV, uV, uV, uV, uV, uV, uV, uV]) (by kernel_rfl) ?_
  intro B hret hnor hnp
  refine wp_seq_k (fun K3 hK4 => ?_)
  refine wp_region_lit ?_
  refine seqK rfl (does_box (cs := #[.int .i64 b1.Lo, .int .i64 b1.Hi, .bool b1.Unknown]) rfl (by kernel_rfl : _ = Value.agg #[.int .i64 b1.Lo, .int .i64 b1.Hi, .bool b1.Unknown]) rfl HS ?_)
  intro b5 W6 HS7
  refine seqS1 (a' := ⟨#[(ag_Bound b1), iV most2, .pointer (some ⟨b5, 0, none⟩), uV, iV 0, uV, uV, uV, uV, uV, uV, uV, uV, uV, uV, uV, uV, uV, uV, uV, uV, uV], []⟩) (by kernel_rfl) ?_
  refine wpList_nil ?_
  refine hK4 _ _ ?_
  refine wp_seq_k (fun K9 hK10 => ?_)
  refine wp_seq_k (fun K11 hK12 => ?_)
  refine wp_region_lit ?_
  refine seqK rfl (does_run (run_loadN (n := 3) rfl Try.underlying55 rfl (by kernel_rfl) (by kernel_rfl : _ = Value.pointer (some ⟨b5, 0, none⟩)) (cs := [.int .i64 b1.Lo, .int .i64 b1.Hi, .bool b1.Unknown]) rfl (HS7.cells 0 3 _ rfl)) ?_)
  have hq_ := bind_some h; clear h; obtain ⟨vt13, hc14, h⟩ := hq_
  refine seqK rfl (does_call (f := 60) (args := #[.agg #[.int .i64 b1.Lo, .int .i64 b1.Hi, .bool b1.Unknown]]) (by kernel_rfl) (bound_Check_Coord.calls k b1 HS7 vt13 hc14) ?_)
  rintro _ W17 ⟨f15, rfl, L16, HS18⟩
  refine ⟨_, rfl, ?_⟩
  refine seqS1 (a' := ⟨#[(ag_Bound b1), iV most2, .pointer (some ⟨b5, 0, none⟩), uV, iV 0, iV vt13, (ag_Bound b1), iV vt13, uV, uV, uV, uV, uV, uV, uV, uV, uV, uV, uV, uV, uV, uV], []⟩) (by kernel_rfl) ?_
  refine wpList_nil ?_
  refine hK12 _ _ ?_
  refine wp_seq_k (fun K19 hK20 => ?_)
  refine wp_region_lit ?_
  refine seqS2 (a' := ⟨#[(ag_Bound b1), iV most2, .pointer (some ⟨b5, 0, none⟩), uV, iV 0, iV vt13, (ag_Bound b1), iV vt13, iV vt13, .bool (vt13 != 0), uV, uV, uV, uV, uV, uV, uV, uV, uV, uV, uV, uV], []⟩) (by kernel_rfl) ?_
  refine wpList_nil ?_
  refine hK20 _ _ ?_
  have hq_ := ite_some h; clear h; rcases hq_ with ⟨c22, h⟩ | ⟨c22, h⟩
  · have c22 : vt13 ≠ 0 := c22
    refine wpRwI 9 (x := (vt13 != 0)) (v := true) (by kernel_rfl) (bne_iff_ne.mpr c22) ?_
    refine condT (by kernel_rfl) ?_
    refine wp_seq_k (fun K23 hK24 => ?_)
    refine wp_region_lit ?_
    refine seqS2 (a' := ⟨#[(ag_Bound b1), iV most2, .pointer (some ⟨b5, 0, none⟩), uV, iV vt13, iV vt13, (ag_Bound b1), iV vt13, iV vt13, .bool true, iV vt13, uV, uV, uV, uV, uV, uV, uV, uV, uV, uV, uV], []⟩) (by kernel_rfl) ?_
    refine wpList_nil ?_
    refine hK24 _ _ ?_
    refine wp_ret ?_
    refine hret _ _ ?_
    refine ends_still (v := Value.int .i64 vt13) (by kernel_rfl) (by kernel_rfl) ?_
    have HS38 := HS18.drop
    injection h with h
    subst h
    exact ⟨f15, rfl, L16, HS38⟩
  · have c22 : ¬ (vt13 ≠ 0) := c22
    refine wpRwI 9 (x := (vt13 != 0)) (v := false) (by kernel_rfl) (bne_eq_false_iff_eq.mpr (Decidable.of_not_not c22)) ?_
    refine condF (by kernel_rfl) ?_
    refine wp_skip ?_
    refine hK10 _ _ ?_
    refine wp_seq_k (fun K25 hK26 => ?_)
    refine wp_seq_k (fun K27 hK28 => ?_)
    refine wp_region_lit ?_
    refine seqL1 (by kernel_rfl) ?_
    refine seqK rfl (does_run (run_load rfl Try.underlying53 rfl (by kernel_rfl : _ = Value.pointer (some ⟨b5, 0, none⟩)) (HS18.cell 0)) ?_)
    refine seqS4 (a' := ⟨#[(ag_Bound b1), iV most2, .pointer (some ⟨b5, 0, none⟩), uV, iV 0, iV vt13, (ag_Bound b1), iV vt13, iV vt13, .bool false, uV, .pointer (some ⟨b5, 0, none⟩), iV b1.Lo, iV most2, iV (w64 (0 - most2)), .bool (decide (b1.Lo < (w64 (0 - most2)))), .bool (decide (b1.Lo < (w64 (0 - most2)))), uV, uV, uV, uV, uV], []⟩) (by kernel_rfl) ?_
    have hq_ := ite_some h; clear h; rcases hq_ with ⟨c29, h⟩ | ⟨c29, h⟩
    · have c29 : b1.Lo < (w64 (0 - most2)) := c29
      refine seqRwI 15 (x := (decide (b1.Lo < (w64 (0 - most2))))) (v := true) (by kernel_rfl) (decide_eq_true c29) ?_
      refine seqRwI 16 (x := (decide (b1.Lo < (w64 (0 - most2))))) (v := true) (by kernel_rfl) (decide_eq_true c29) ?_
      refine seqS5 (a' := ⟨#[(ag_Bound b1), iV most2, .pointer (some ⟨b5, 0, none⟩), uV, iV 0, iV vt13, (ag_Bound b1), iV vt13, iV vt13, .bool false, uV, .pointer (some ⟨b5, 0, none⟩), iV b1.Lo, iV most2, iV (w64 (0 - most2)), .bool true, .bool true, uV, uV, uV, uV, .bool true], []⟩) (by kernel_rfl) ?_
      refine wpList_nil ?_
      refine hK28 _ _ ?_
      refine condT (by kernel_rfl) ?_
      refine wp_seq_k (fun K30 hK31 => ?_)
      refine wp_region_lit ?_
      refine seqS1 (a' := ⟨#[(ag_Bound b1), iV most2, .pointer (some ⟨b5, 0, none⟩), uV, iV 4, iV vt13, (ag_Bound b1), iV vt13, iV vt13, .bool false, uV, .pointer (some ⟨b5, 0, none⟩), iV b1.Lo, iV most2, iV (w64 (0 - most2)), .bool true, .bool true, uV, uV, uV, uV, .bool true], []⟩) (by kernel_rfl) ?_
      refine wpList_nil ?_
      refine hK31 _ _ ?_
      refine wp_ret ?_
      refine hret _ _ ?_
      refine ends_still (v := Value.int .i64 4) (by kernel_rfl) (by kernel_rfl) ?_
      have HS39 := HS18.drop
      injection h with h
      subst h
      exact ⟨f15, rfl, L16, HS39⟩
    · have c29 : ¬ (b1.Lo < (w64 (0 - most2))) := c29
      refine seqRwI 15 (x := (decide (b1.Lo < (w64 (0 - most2))))) (v := false) (by kernel_rfl) (decide_eq_false c29) ?_
      refine seqRwI 16 (x := (decide (b1.Lo < (w64 (0 - most2))))) (v := false) (by kernel_rfl) (decide_eq_false c29) ?_
      refine seqL1 (by kernel_rfl) ?_
      refine seqG (by kernel_rfl) (does_run (run_load rfl Try.underlying53 rfl (by kernel_rfl : _ = Value.pointer (some ⟨b5, 1, none⟩)) (HS18.cell 1)) ?_)
      refine seqS3 (a' := ⟨#[(ag_Bound b1), iV most2, .pointer (some ⟨b5, 0, none⟩), uV, iV 0, iV vt13, (ag_Bound b1), iV vt13, iV vt13, .bool false, uV, .pointer (some ⟨b5, 0, none⟩), iV b1.Lo, iV most2, iV (w64 (0 - most2)), .bool false, .bool false, .pointer (some ⟨b5, 1, none⟩), iV b1.Hi, iV most2, .bool (decide (b1.Hi > most2)), .bool (decide (b1.Hi > most2))], []⟩) (by kernel_rfl) ?_
      refine wpList_nil ?_
      refine hK28 _ _ ?_
      have hq_ := ite_some h; clear h; rcases hq_ with ⟨c33, h⟩ | ⟨c33, h⟩
      · have c33 : b1.Hi > most2 := c33
        refine wpRwI 20 (x := (decide (b1.Hi > most2))) (v := true) (by kernel_rfl) (decide_eq_true c33) ?_
        refine wpRwI 21 (x := (decide (b1.Hi > most2))) (v := true) (by kernel_rfl) (decide_eq_true c33) ?_
        refine condT (by kernel_rfl) ?_
        refine wp_seq_k (fun K34 hK35 => ?_)
        refine wp_region_lit ?_
        refine seqS1 (a' := ⟨#[(ag_Bound b1), iV most2, .pointer (some ⟨b5, 0, none⟩), uV, iV 4, iV vt13, (ag_Bound b1), iV vt13, iV vt13, .bool false, uV, .pointer (some ⟨b5, 0, none⟩), iV b1.Lo, iV most2, iV (w64 (0 - most2)), .bool false, .bool false, .pointer (some ⟨b5, 1, none⟩), iV b1.Hi, iV most2, .bool true, .bool true], []⟩) (by kernel_rfl) ?_
        refine wpList_nil ?_
        refine hK35 _ _ ?_
        refine wp_ret ?_
        refine hret _ _ ?_
        refine ends_still (v := Value.int .i64 4) (by kernel_rfl) (by kernel_rfl) ?_
        have HS40 := HS18.drop
        injection h with h
        subst h
        exact ⟨f15, rfl, L16, HS40⟩
      · have c33 : ¬ (b1.Hi > most2) := c33
        refine wpRwI 20 (x := (decide (b1.Hi > most2))) (v := false) (by kernel_rfl) (decide_eq_false c33) ?_
        refine wpRwI 21 (x := (decide (b1.Hi > most2))) (v := false) (by kernel_rfl) (decide_eq_false c33) ?_
        refine condF (by kernel_rfl) ?_
        refine wp_skip ?_
        refine hK26 _ _ ?_
        refine wp_seq_k (fun K36 hK37 => ?_)
        refine wp_region_lit ?_
        refine seqS1 (a' := ⟨#[(ag_Bound b1), iV most2, .pointer (some ⟨b5, 0, none⟩), uV, iV 0, iV vt13, (ag_Bound b1), iV vt13, iV vt13, .bool false, uV, .pointer (some ⟨b5, 0, none⟩), iV b1.Lo, iV most2, iV (w64 (0 - most2)), .bool false, .bool false, .pointer (some ⟨b5, 1, none⟩), iV b1.Hi, iV most2, .bool false, .bool false], []⟩) (by kernel_rfl) ?_
        refine wpList_nil ?_
        refine hK37 _ _ ?_
        refine wp_ret ?_
        refine hret _ _ ?_
        refine ends_still (v := Value.int .i64 0) (by kernel_rfl) (by kernel_rfl) ?_
        have HS41 := HS18.drop
        injection h with h
        subst h
        exact ⟨f15, rfl, L16, HS41⟩

set_option maxRecDepth 100000 in
set_option maxHeartbeats 4000000 in
theorem bound_Check_Quanta.calls (k : Nat)  (b1 : S_Bound) {t w : World} {f : FM} {H : List Seg} (HS : St t w f (H)) (rr1 : Int) (h : bound_Check_Quanta k b1 = some rr1) :
    Calls Try.prog 61 #[.agg #[.int .i64 b1.Lo, .int .i64 b1.Hi, .bool b1.Unknown]] w (fun e w' => ∃ (g : FM), e = .returned (Value.int .i64 rr1) ∧ FM.le f g ∧ St t w' g (H)) := by
  unfold bound_Check_Quanta at h
  refine enter Try.func61 rfl (tm := #[(ag_Bound b1), uV, uV, uV, uV, uV, uV, uV, uV, uV, uV, uV, uV, uV, uV, uV, uV, uV, uV, uV, uV, uV, uV, uV, uV, uV, uV, uV, uV, uV, uV, uV, uV, uV, uV, uV, uV]) (by kernel_rfl) ?_
  intro B hret hnor hnp
  refine wp_seq_k (fun K2 hK3 => ?_)
  refine wp_region_lit ?_
  refine seqK rfl (does_box (cs := #[.int .i64 b1.Lo, .int .i64 b1.Hi, .bool b1.Unknown]) rfl (by kernel_rfl : _ = Value.agg #[.int .i64 b1.Lo, .int .i64 b1.Hi, .bool b1.Unknown]) rfl HS ?_)
  intro b4 W5 HS6
  refine seqS1 (a' := ⟨#[(ag_Bound b1), .pointer (some ⟨b4, 0, none⟩), iV 0, uV, uV, uV, uV, uV, uV, uV, uV, uV, uV, uV, uV, uV, uV, uV, uV, uV, uV, uV, uV, uV, uV, uV, uV, uV, uV, uV, uV, uV, uV, uV, uV, uV, uV], []⟩) (by kernel_rfl) ?_
  refine wpList_nil ?_
  refine hK3 _ _ ?_
  refine wp_seq_k (fun K8 hK9 => ?_)
  refine blockK (fun B10 hx11 hn12 hr13 ho14 hp15 => ?_)
  refine wp_seq_k (fun K17 hK18 => ?_)
  refine wp_region_lit ?_
  refine seqL1 (by kernel_rfl) ?_
  refine seqK rfl (does_run (run_load rfl Try.underlying4 rfl (by kernel_rfl : _ = Value.pointer (some ⟨b4, 2, none⟩)) (HS6.cell 2)) ?_)
  refine seqS1 (a' := ⟨#[(ag_Bound b1), .pointer (some ⟨b4, 0, none⟩), iV 0, uV, .pointer (some ⟨b4, 2, none⟩), .bool b1.Unknown, .bool b1.Unknown, uV, uV, uV, uV, uV, uV, uV, uV, uV, uV, uV, uV, uV, uV, uV, uV, uV, uV, uV, uV, uV, uV, uV, uV, uV, uV, uV, uV, uV, uV], []⟩) (by kernel_rfl) ?_
  have hq_ := ite_some h; clear h; rcases hq_ with ⟨c19, h⟩ | ⟨c19, h⟩
  · have c19 : b1.Unknown = true := c19
    refine seqRwI 5 (x := b1.Unknown) (v := true) (by kernel_rfl) c19 ?_
    refine seqRwI 6 (x := b1.Unknown) (v := true) (by kernel_rfl) c19 ?_
    refine seqL1 (by kernel_rfl) ?_
    refine seqG (by kernel_rfl) (does_run (run_load rfl Try.underlying58 rfl (by kernel_rfl : _ = Value.pointer (some ⟨b4, 0, none⟩)) (HS6.cell 0)) ?_)
    refine seqS2 (a' := ⟨#[(ag_Bound b1), .pointer (some ⟨b4, 0, none⟩), iV 0, uV, .pointer (some ⟨b4, 2, none⟩), .bool true, .bool true, .pointer (some ⟨b4, 0, none⟩), iV b1.Lo, .bool (b1.Lo != 0), .bool (b1.Lo != 0), uV, uV, uV, uV, uV, uV, uV, uV, uV, uV, uV, uV, uV, uV, uV, uV, uV, uV, uV, uV, uV, uV, uV, uV, uV, uV], []⟩) (by kernel_rfl) ?_
    have hq_ := ite_some h; clear h; rcases hq_ with ⟨c20, h⟩ | ⟨c20, h⟩
    · have c20 : b1.Lo ≠ 0 := c20
      refine seqRwI 9 (x := (b1.Lo != 0)) (v := true) (by kernel_rfl) (bne_iff_ne.mpr c20) ?_
      refine seqRwI 10 (x := (b1.Lo != 0)) (v := true) (by kernel_rfl) (bne_iff_ne.mpr c20) ?_
      refine seqS6 (a' := ⟨#[(ag_Bound b1), .pointer (some ⟨b4, 0, none⟩), iV 0, .bool true, .pointer (some ⟨b4, 2, none⟩), .bool true, .bool true, .pointer (some ⟨b4, 0, none⟩), iV b1.Lo, .bool true, .bool true, uV, uV, uV, .bool true, .bool true, uV, uV, uV, uV, uV, uV, uV, uV, uV, uV, uV, uV, uV, uV, uV, uV, uV, uV, uV, uV, uV], []⟩) (by kernel_rfl) ?_
      refine wpList_nil ?_
      refine hK18 _ _ ?_
      refine condT (by kernel_rfl) ?_
      refine wp_seq_k (fun K21 hK22 => ?_)
      refine wp_region_lit ?_
      refine seqS1 (a' := ⟨#[(ag_Bound b1), .pointer (some ⟨b4, 0, none⟩), iV 3, .bool true, .pointer (some ⟨b4, 2, none⟩), .bool true, .bool true, .pointer (some ⟨b4, 0, none⟩), iV b1.Lo, .bool true, .bool true, uV, uV, uV, .bool true, .bool true, uV, uV, uV, uV, uV, uV, uV, uV, uV, uV, uV, uV, uV, uV, uV, uV, uV, uV, uV, uV, uV], []⟩) (by kernel_rfl) ?_
      refine wpList_nil ?_
      refine hK22 _ _ ?_
      refine wp_ret ?_
      refine hr13 _ _ ?_
      refine hret _ _ ?_
      refine ends_still (v := Value.int .i64 3) (by kernel_rfl) (by kernel_rfl) ?_
      have HS61 := HS6.drop
      injection h with h
      subst h
      exact ⟨f, rfl, FM.le.refl _, HS61⟩
    · have c20 : ¬ (b1.Lo ≠ 0) := c20
      refine seqRwI 9 (x := (b1.Lo != 0)) (v := false) (by kernel_rfl) (bne_eq_false_iff_eq.mpr (Decidable.of_not_not c20)) ?_
      refine seqRwI 10 (x := (b1.Lo != 0)) (v := false) (by kernel_rfl) (bne_eq_false_iff_eq.mpr (Decidable.of_not_not c20)) ?_
      refine seqL1 (by kernel_rfl) ?_
      refine seqG (by kernel_rfl) (does_run (run_load rfl Try.underlying58 rfl (by kernel_rfl : _ = Value.pointer (some ⟨b4, 1, none⟩)) (HS6.cell 1)) ?_)
      refine seqS4 (a' := ⟨#[(ag_Bound b1), .pointer (some ⟨b4, 0, none⟩), iV 0, .bool (b1.Hi != 0), .pointer (some ⟨b4, 2, none⟩), .bool true, .bool true, .pointer (some ⟨b4, 0, none⟩), iV b1.Lo, .bool false, .bool false, .pointer (some ⟨b4, 1, none⟩), iV b1.Hi, .bool (b1.Hi != 0), .bool (b1.Hi != 0), .bool (b1.Hi != 0), uV, uV, uV, uV, uV, uV, uV, uV, uV, uV, uV, uV, uV, uV, uV, uV, uV, uV, uV, uV, uV], []⟩) (by kernel_rfl) ?_
      refine wpList_nil ?_
      refine hK18 _ _ ?_
      have hq_ := ite_some h; clear h; rcases hq_ with ⟨c24, h⟩ | ⟨c24, h⟩
      · have c24 : b1.Hi ≠ 0 := c24
        refine wpRwI 3 (x := (b1.Hi != 0)) (v := true) (by kernel_rfl) (bne_iff_ne.mpr c24) ?_
        refine wpRwI 13 (x := (b1.Hi != 0)) (v := true) (by kernel_rfl) (bne_iff_ne.mpr c24) ?_
        refine wpRwI 14 (x := (b1.Hi != 0)) (v := true) (by kernel_rfl) (bne_iff_ne.mpr c24) ?_
        refine wpRwI 15 (x := (b1.Hi != 0)) (v := true) (by kernel_rfl) (bne_iff_ne.mpr c24) ?_
        refine condT (by kernel_rfl) ?_
        refine wp_seq_k (fun K25 hK26 => ?_)
        refine wp_region_lit ?_
        refine seqS1 (a' := ⟨#[(ag_Bound b1), .pointer (some ⟨b4, 0, none⟩), iV 3, .bool true, .pointer (some ⟨b4, 2, none⟩), .bool true, .bool true, .pointer (some ⟨b4, 0, none⟩), iV b1.Lo, .bool false, .bool false, .pointer (some ⟨b4, 1, none⟩), iV b1.Hi, .bool true, .bool true, .bool true, uV, uV, uV, uV, uV, uV, uV, uV, uV, uV, uV, uV, uV, uV, uV, uV, uV, uV, uV, uV, uV], []⟩) (by kernel_rfl) ?_
        refine wpList_nil ?_
        refine hK26 _ _ ?_
        refine wp_ret ?_
        refine hr13 _ _ ?_
        refine hret _ _ ?_
        refine ends_still (v := Value.int .i64 3) (by kernel_rfl) (by kernel_rfl) ?_
        have HS62 := HS6.drop
        injection h with h
        subst h
        exact ⟨f, rfl, FM.le.refl _, HS62⟩
      · have c24 : ¬ (b1.Hi ≠ 0) := c24
        refine wpRwI 3 (x := (b1.Hi != 0)) (v := false) (by kernel_rfl) (bne_eq_false_iff_eq.mpr (Decidable.of_not_not c24)) ?_
        refine wpRwI 13 (x := (b1.Hi != 0)) (v := false) (by kernel_rfl) (bne_eq_false_iff_eq.mpr (Decidable.of_not_not c24)) ?_
        refine wpRwI 14 (x := (b1.Hi != 0)) (v := false) (by kernel_rfl) (bne_eq_false_iff_eq.mpr (Decidable.of_not_not c24)) ?_
        refine wpRwI 15 (x := (b1.Hi != 0)) (v := false) (by kernel_rfl) (bne_eq_false_iff_eq.mpr (Decidable.of_not_not c24)) ?_
        refine condF (by kernel_rfl) ?_
        refine wp_seq_k (fun K27 hK28 => ?_)
        refine wp_region_lit ?_
        refine seqL1 (by kernel_rfl) ?_
        refine seqK rfl (does_run (run_load rfl Try.underlying58 rfl (by kernel_rfl : _ = Value.pointer (some ⟨b4, 0, none⟩)) (HS6.cell 0)) ?_)
        refine seqL1 (by kernel_rfl) ?_
        refine seqK rfl (does_run (run_load rfl Try.underlying58 rfl (by kernel_rfl : _ = Value.pointer (some ⟨b4, 1, none⟩)) (HS6.cell 1)) ?_)
        refine seqS3 (a' := ⟨#[(ag_Bound b1), .pointer (some ⟨b4, 0, none⟩), iV 0, .bool false, .pointer (some ⟨b4, 2, none⟩), .bool true, .bool true, .pointer (some ⟨b4, 0, none⟩), iV b1.Lo, .bool false, .bool false, .pointer (some ⟨b4, 1, none⟩), iV b1.Hi, .bool false, .bool false, .bool false, uV, .pointer (some ⟨b4, 0, none⟩), iV b1.Lo, .pointer (some ⟨b4, 1, none⟩), iV b1.Hi, iV (mn b1.Lo b1.Hi), .bool (decide ((mn b1.Lo b1.Hi) < (-1152921504606846976))), .bool (decide ((mn b1.Lo b1.Hi) < (-1152921504606846976))), uV, uV, uV, uV, uV, uV, uV, uV, uV, uV, uV, uV, uV], []⟩) (by kernel_rfl) ?_
        have hq_ := ite_some h; clear h; rcases hq_ with ⟨c29, h⟩ | ⟨c29, h⟩
        · have c29 : (mn b1.Lo b1.Hi) < (-1152921504606846976) := c29
          refine seqRwI 22 (x := (decide ((mn b1.Lo b1.Hi) < (-1152921504606846976)))) (v := true) (by kernel_rfl) (decide_eq_true c29) ?_
          refine seqRwI 23 (x := (decide ((mn b1.Lo b1.Hi) < (-1152921504606846976)))) (v := true) (by kernel_rfl) (decide_eq_true c29) ?_
          refine seqS8 (a' := ⟨#[(ag_Bound b1), .pointer (some ⟨b4, 0, none⟩), iV 0, .bool false, .pointer (some ⟨b4, 2, none⟩), .bool true, .bool true, .pointer (some ⟨b4, 0, none⟩), iV b1.Lo, .bool false, .bool false, .pointer (some ⟨b4, 1, none⟩), iV b1.Hi, .bool false, .bool false, .bool false, .bool true, .pointer (some ⟨b4, 0, none⟩), iV b1.Lo, .pointer (some ⟨b4, 1, none⟩), iV b1.Hi, iV (mn b1.Lo b1.Hi), .bool true, .bool true, uV, uV, uV, uV, uV, uV, .bool true, uV, uV, uV, uV, uV, uV], []⟩) (by kernel_rfl) ?_
          refine wpList_nil ?_
          refine hK28 _ _ ?_
          refine condT (by kernel_rfl) ?_
          refine wp_seq_k (fun K30 hK31 => ?_)
          refine wp_region_lit ?_
          refine seqS1 (a' := ⟨#[(ag_Bound b1), .pointer (some ⟨b4, 0, none⟩), iV 4, .bool false, .pointer (some ⟨b4, 2, none⟩), .bool true, .bool true, .pointer (some ⟨b4, 0, none⟩), iV b1.Lo, .bool false, .bool false, .pointer (some ⟨b4, 1, none⟩), iV b1.Hi, .bool false, .bool false, .bool false, .bool true, .pointer (some ⟨b4, 0, none⟩), iV b1.Lo, .pointer (some ⟨b4, 1, none⟩), iV b1.Hi, iV (mn b1.Lo b1.Hi), .bool true, .bool true, uV, uV, uV, uV, uV, uV, .bool true, uV, uV, uV, uV, uV, uV], []⟩) (by kernel_rfl) ?_
          refine wpList_nil ?_
          refine hK31 _ _ ?_
          refine wp_ret ?_
          refine hr13 _ _ ?_
          refine hret _ _ ?_
          refine ends_still (v := Value.int .i64 4) (by kernel_rfl) (by kernel_rfl) ?_
          have HS63 := HS6.drop
          injection h with h
          subst h
          exact ⟨f, rfl, FM.le.refl _, HS63⟩
        · have c29 : ¬ ((mn b1.Lo b1.Hi) < (-1152921504606846976)) := c29
          refine seqRwI 22 (x := (decide ((mn b1.Lo b1.Hi) < (-1152921504606846976)))) (v := false) (by kernel_rfl) (decide_eq_false c29) ?_
          refine seqRwI 23 (x := (decide ((mn b1.Lo b1.Hi) < (-1152921504606846976)))) (v := false) (by kernel_rfl) (decide_eq_false c29) ?_
          refine seqL1 (by kernel_rfl) ?_
          refine seqG (by kernel_rfl) (does_run (run_load rfl Try.underlying58 rfl (by kernel_rfl : _ = Value.pointer (some ⟨b4, 0, none⟩)) (HS6.cell 0)) ?_)
          refine seqL1 (by kernel_rfl) ?_
          refine seqG (by kernel_rfl) (does_run (run_load rfl Try.underlying58 rfl (by kernel_rfl : _ = Value.pointer (some ⟨b4, 1, none⟩)) (HS6.cell 1)) ?_)
          refine seqS4 (a' := ⟨#[(ag_Bound b1), .pointer (some ⟨b4, 0, none⟩), iV 0, .bool false, .pointer (some ⟨b4, 2, none⟩), .bool true, .bool true, .pointer (some ⟨b4, 0, none⟩), iV b1.Lo, .bool false, .bool false, .pointer (some ⟨b4, 1, none⟩), iV b1.Hi, .bool false, .bool false, .bool false, .bool (decide ((mx b1.Lo b1.Hi) > 1152921504606846976)), .pointer (some ⟨b4, 0, none⟩), iV b1.Lo, .pointer (some ⟨b4, 1, none⟩), iV b1.Hi, iV (mn b1.Lo b1.Hi), .bool false, .bool false, .pointer (some ⟨b4, 0, none⟩), iV b1.Lo, .pointer (some ⟨b4, 1, none⟩), iV b1.Hi, iV (mx b1.Lo b1.Hi), .bool (decide ((mx b1.Lo b1.Hi) > 1152921504606846976)), .bool (decide ((mx b1.Lo b1.Hi) > 1152921504606846976)), uV, uV, uV, uV, uV, uV], []⟩) (by kernel_rfl) ?_
          refine wpList_nil ?_
          refine hK28 _ _ ?_
          have hq_ := ite_some h; clear h; rcases hq_ with ⟨c33, h⟩ | ⟨c33, h⟩
          · have c33 : (mx b1.Lo b1.Hi) > 1152921504606846976 := c33
            refine wpRwI 16 (x := (decide ((mx b1.Lo b1.Hi) > 1152921504606846976))) (v := true) (by kernel_rfl) (decide_eq_true c33) ?_
            refine wpRwI 29 (x := (decide ((mx b1.Lo b1.Hi) > 1152921504606846976))) (v := true) (by kernel_rfl) (decide_eq_true c33) ?_
            refine wpRwI 30 (x := (decide ((mx b1.Lo b1.Hi) > 1152921504606846976))) (v := true) (by kernel_rfl) (decide_eq_true c33) ?_
            refine condT (by kernel_rfl) ?_
            refine wp_seq_k (fun K34 hK35 => ?_)
            refine wp_region_lit ?_
            refine seqS1 (a' := ⟨#[(ag_Bound b1), .pointer (some ⟨b4, 0, none⟩), iV 4, .bool false, .pointer (some ⟨b4, 2, none⟩), .bool true, .bool true, .pointer (some ⟨b4, 0, none⟩), iV b1.Lo, .bool false, .bool false, .pointer (some ⟨b4, 1, none⟩), iV b1.Hi, .bool false, .bool false, .bool false, .bool true, .pointer (some ⟨b4, 0, none⟩), iV b1.Lo, .pointer (some ⟨b4, 1, none⟩), iV b1.Hi, iV (mn b1.Lo b1.Hi), .bool false, .bool false, .pointer (some ⟨b4, 0, none⟩), iV b1.Lo, .pointer (some ⟨b4, 1, none⟩), iV b1.Hi, iV (mx b1.Lo b1.Hi), .bool true, .bool true, uV, uV, uV, uV, uV, uV], []⟩) (by kernel_rfl) ?_
            refine wpList_nil ?_
            refine hK35 _ _ ?_
            refine wp_ret ?_
            refine hr13 _ _ ?_
            refine hret _ _ ?_
            refine ends_still (v := Value.int .i64 4) (by kernel_rfl) (by kernel_rfl) ?_
            have HS64 := HS6.drop
            injection h with h
            subst h
            exact ⟨f, rfl, FM.le.refl _, HS64⟩
          · have c33 : ¬ ((mx b1.Lo b1.Hi) > 1152921504606846976) := c33
            refine wpRwI 16 (x := (decide ((mx b1.Lo b1.Hi) > 1152921504606846976))) (v := false) (by kernel_rfl) (decide_eq_false c33) ?_
            refine wpRwI 29 (x := (decide ((mx b1.Lo b1.Hi) > 1152921504606846976))) (v := false) (by kernel_rfl) (decide_eq_false c33) ?_
            refine wpRwI 30 (x := (decide ((mx b1.Lo b1.Hi) > 1152921504606846976))) (v := false) (by kernel_rfl) (decide_eq_false c33) ?_
            refine condF (by kernel_rfl) ?_
            refine wp_seq_k (fun K36 hK37 => ?_)
            refine wp_region_lit ?_
            refine seqL1 (by kernel_rfl) ?_
            refine seqK rfl (does_run (run_load rfl Try.underlying58 rfl (by kernel_rfl : _ = Value.pointer (some ⟨b4, 0, none⟩)) (HS6.cell 0)) ?_)
            refine seqL1 (by kernel_rfl) ?_
            refine seqK rfl (does_run (run_load rfl Try.underlying58 rfl (by kernel_rfl : _ = Value.pointer (some ⟨b4, 1, none⟩)) (HS6.cell 1)) ?_)
            refine seqS2 (a' := ⟨#[(ag_Bound b1), .pointer (some ⟨b4, 0, none⟩), iV 0, .bool false, .pointer (some ⟨b4, 2, none⟩), .bool true, .bool true, .pointer (some ⟨b4, 0, none⟩), iV b1.Lo, .bool false, .bool false, .pointer (some ⟨b4, 1, none⟩), iV b1.Hi, .bool false, .bool false, .bool false, .bool false, .pointer (some ⟨b4, 0, none⟩), iV b1.Lo, .pointer (some ⟨b4, 1, none⟩), iV b1.Hi, iV (mn b1.Lo b1.Hi), .bool false, .bool false, .pointer (some ⟨b4, 0, none⟩), iV b1.Lo, .pointer (some ⟨b4, 1, none⟩), iV b1.Hi, iV (mx b1.Lo b1.Hi), .bool false, .bool false, .bool (decide (b1.Lo > b1.Hi)), .pointer (some ⟨b4, 0, none⟩), iV b1.Lo, .pointer (some ⟨b4, 1, none⟩), iV b1.Hi, .bool (decide (b1.Lo > b1.Hi))], []⟩) (by kernel_rfl) ?_
            refine wpList_nil ?_
            refine hK37 _ _ ?_
            have hq_ := ite_some h; clear h; rcases hq_ with ⟨c39, h⟩ | ⟨c39, h⟩
            · have c39 : b1.Lo > b1.Hi := c39
              refine wpRwI 31 (x := (decide (b1.Lo > b1.Hi))) (v := true) (by kernel_rfl) (decide_eq_true c39) ?_
              refine wpRwI 36 (x := (decide (b1.Lo > b1.Hi))) (v := true) (by kernel_rfl) (decide_eq_true c39) ?_
              refine condT (by kernel_rfl) ?_
              refine wp_seq_k (fun K40 hK41 => ?_)
              refine wp_region_lit ?_
              refine seqS1 (a' := ⟨#[(ag_Bound b1), .pointer (some ⟨b4, 0, none⟩), iV 11, .bool false, .pointer (some ⟨b4, 2, none⟩), .bool true, .bool true, .pointer (some ⟨b4, 0, none⟩), iV b1.Lo, .bool false, .bool false, .pointer (some ⟨b4, 1, none⟩), iV b1.Hi, .bool false, .bool false, .bool false, .bool false, .pointer (some ⟨b4, 0, none⟩), iV b1.Lo, .pointer (some ⟨b4, 1, none⟩), iV b1.Hi, iV (mn b1.Lo b1.Hi), .bool false, .bool false, .pointer (some ⟨b4, 0, none⟩), iV b1.Lo, .pointer (some ⟨b4, 1, none⟩), iV b1.Hi, iV (mx b1.Lo b1.Hi), .bool false, .bool false, .bool true, .pointer (some ⟨b4, 0, none⟩), iV b1.Lo, .pointer (some ⟨b4, 1, none⟩), iV b1.Hi, .bool true], []⟩) (by kernel_rfl) ?_
              refine wpList_nil ?_
              refine hK41 _ _ ?_
              refine wp_ret ?_
              refine hr13 _ _ ?_
              refine hret _ _ ?_
              refine ends_still (v := Value.int .i64 11) (by kernel_rfl) (by kernel_rfl) ?_
              have HS65 := HS6.drop
              injection h with h
              subst h
              exact ⟨f, rfl, FM.le.refl _, HS65⟩
            · have c39 : ¬ (b1.Lo > b1.Hi) := c39
              refine wpRwI 31 (x := (decide (b1.Lo > b1.Hi))) (v := false) (by kernel_rfl) (decide_eq_false c39) ?_
              refine wpRwI 36 (x := (decide (b1.Lo > b1.Hi))) (v := false) (by kernel_rfl) (decide_eq_false c39) ?_
              refine condF (by kernel_rfl) ?_
              refine wp_skip ?_
              refine hn12 _ _ ?_
              refine hK9 _ _ ?_
              refine wp_seq_k (fun K57 hK58 => ?_)
              refine wp_region_lit ?_
              refine seqS1 (a' := ⟨#[(ag_Bound b1), .pointer (some ⟨b4, 0, none⟩), iV 0, .bool false, .pointer (some ⟨b4, 2, none⟩), .bool true, .bool true, .pointer (some ⟨b4, 0, none⟩), iV b1.Lo, .bool false, .bool false, .pointer (some ⟨b4, 1, none⟩), iV b1.Hi, .bool false, .bool false, .bool false, .bool false, .pointer (some ⟨b4, 0, none⟩), iV b1.Lo, .pointer (some ⟨b4, 1, none⟩), iV b1.Hi, iV (mn b1.Lo b1.Hi), .bool false, .bool false, .pointer (some ⟨b4, 0, none⟩), iV b1.Lo, .pointer (some ⟨b4, 1, none⟩), iV b1.Hi, iV (mx b1.Lo b1.Hi), .bool false, .bool false, .bool false, .pointer (some ⟨b4, 0, none⟩), iV b1.Lo, .pointer (some ⟨b4, 1, none⟩), iV b1.Hi, .bool false], []⟩) (by kernel_rfl) ?_
              refine wpList_nil ?_
              refine hK58 _ _ ?_
              refine wp_ret ?_
              refine hret _ _ ?_
              refine ends_still (v := Value.int .i64 0) (by kernel_rfl) (by kernel_rfl) ?_
              have HS69 := HS6.drop
              injection h with h
              subst h
              exact ⟨f, rfl, FM.le.refl _, HS69⟩
  · have c19 : ¬ (b1.Unknown = true) := c19
    refine seqRwI 5 (x := b1.Unknown) (v := false) (by kernel_rfl) (Bool.eq_false_iff.mpr c19) ?_
    refine seqRwI 6 (x := b1.Unknown) (v := false) (by kernel_rfl) (Bool.eq_false_iff.mpr c19) ?_
    refine seqS10 (a' := ⟨#[(ag_Bound b1), .pointer (some ⟨b4, 0, none⟩), iV 0, .bool false, .pointer (some ⟨b4, 2, none⟩), .bool false, .bool false, uV, uV, uV, uV, uV, uV, uV, uV, .bool false, uV, uV, uV, uV, uV, uV, uV, uV, uV, uV, uV, uV, uV, uV, uV, uV, uV, uV, uV, uV, uV], []⟩) (by kernel_rfl) ?_
    refine wpList_nil ?_
    refine hK18 _ _ ?_
    refine condF (by kernel_rfl) ?_
    refine wp_seq_k (fun K42 hK43 => ?_)
    refine wp_region_lit ?_
    refine seqL1 (by kernel_rfl) ?_
    refine seqK rfl (does_run (run_load rfl Try.underlying58 rfl (by kernel_rfl : _ = Value.pointer (some ⟨b4, 0, none⟩)) (HS6.cell 0)) ?_)
    refine seqL1 (by kernel_rfl) ?_
    refine seqK rfl (does_run (run_load rfl Try.underlying58 rfl (by kernel_rfl : _ = Value.pointer (some ⟨b4, 1, none⟩)) (HS6.cell 1)) ?_)
    refine seqS3 (a' := ⟨#[(ag_Bound b1), .pointer (some ⟨b4, 0, none⟩), iV 0, .bool false, .pointer (some ⟨b4, 2, none⟩), .bool false, .bool false, uV, uV, uV, uV, uV, uV, uV, uV, .bool false, uV, .pointer (some ⟨b4, 0, none⟩), iV b1.Lo, .pointer (some ⟨b4, 1, none⟩), iV b1.Hi, iV (mn b1.Lo b1.Hi), .bool (decide ((mn b1.Lo b1.Hi) < (-1152921504606846976))), .bool (decide ((mn b1.Lo b1.Hi) < (-1152921504606846976))), uV, uV, uV, uV, uV, uV, uV, uV, uV, uV, uV, uV, uV], []⟩) (by kernel_rfl) ?_
    have hq_ := ite_some h; clear h; rcases hq_ with ⟨c44, h⟩ | ⟨c44, h⟩
    · have c44 : (mn b1.Lo b1.Hi) < (-1152921504606846976) := c44
      refine seqRwI 22 (x := (decide ((mn b1.Lo b1.Hi) < (-1152921504606846976)))) (v := true) (by kernel_rfl) (decide_eq_true c44) ?_
      refine seqRwI 23 (x := (decide ((mn b1.Lo b1.Hi) < (-1152921504606846976)))) (v := true) (by kernel_rfl) (decide_eq_true c44) ?_
      refine seqS8 (a' := ⟨#[(ag_Bound b1), .pointer (some ⟨b4, 0, none⟩), iV 0, .bool false, .pointer (some ⟨b4, 2, none⟩), .bool false, .bool false, uV, uV, uV, uV, uV, uV, uV, uV, .bool false, .bool true, .pointer (some ⟨b4, 0, none⟩), iV b1.Lo, .pointer (some ⟨b4, 1, none⟩), iV b1.Hi, iV (mn b1.Lo b1.Hi), .bool true, .bool true, uV, uV, uV, uV, uV, uV, .bool true, uV, uV, uV, uV, uV, uV], []⟩) (by kernel_rfl) ?_
      refine wpList_nil ?_
      refine hK43 _ _ ?_
      refine condT (by kernel_rfl) ?_
      refine wp_seq_k (fun K45 hK46 => ?_)
      refine wp_region_lit ?_
      refine seqS1 (a' := ⟨#[(ag_Bound b1), .pointer (some ⟨b4, 0, none⟩), iV 4, .bool false, .pointer (some ⟨b4, 2, none⟩), .bool false, .bool false, uV, uV, uV, uV, uV, uV, uV, uV, .bool false, .bool true, .pointer (some ⟨b4, 0, none⟩), iV b1.Lo, .pointer (some ⟨b4, 1, none⟩), iV b1.Hi, iV (mn b1.Lo b1.Hi), .bool true, .bool true, uV, uV, uV, uV, uV, uV, .bool true, uV, uV, uV, uV, uV, uV], []⟩) (by kernel_rfl) ?_
      refine wpList_nil ?_
      refine hK46 _ _ ?_
      refine wp_ret ?_
      refine hr13 _ _ ?_
      refine hret _ _ ?_
      refine ends_still (v := Value.int .i64 4) (by kernel_rfl) (by kernel_rfl) ?_
      have HS66 := HS6.drop
      injection h with h
      subst h
      exact ⟨f, rfl, FM.le.refl _, HS66⟩
    · have c44 : ¬ ((mn b1.Lo b1.Hi) < (-1152921504606846976)) := c44
      refine seqRwI 22 (x := (decide ((mn b1.Lo b1.Hi) < (-1152921504606846976)))) (v := false) (by kernel_rfl) (decide_eq_false c44) ?_
      refine seqRwI 23 (x := (decide ((mn b1.Lo b1.Hi) < (-1152921504606846976)))) (v := false) (by kernel_rfl) (decide_eq_false c44) ?_
      refine seqL1 (by kernel_rfl) ?_
      refine seqG (by kernel_rfl) (does_run (run_load rfl Try.underlying58 rfl (by kernel_rfl : _ = Value.pointer (some ⟨b4, 0, none⟩)) (HS6.cell 0)) ?_)
      refine seqL1 (by kernel_rfl) ?_
      refine seqG (by kernel_rfl) (does_run (run_load rfl Try.underlying58 rfl (by kernel_rfl : _ = Value.pointer (some ⟨b4, 1, none⟩)) (HS6.cell 1)) ?_)
      refine seqS4 (a' := ⟨#[(ag_Bound b1), .pointer (some ⟨b4, 0, none⟩), iV 0, .bool false, .pointer (some ⟨b4, 2, none⟩), .bool false, .bool false, uV, uV, uV, uV, uV, uV, uV, uV, .bool false, .bool (decide ((mx b1.Lo b1.Hi) > 1152921504606846976)), .pointer (some ⟨b4, 0, none⟩), iV b1.Lo, .pointer (some ⟨b4, 1, none⟩), iV b1.Hi, iV (mn b1.Lo b1.Hi), .bool false, .bool false, .pointer (some ⟨b4, 0, none⟩), iV b1.Lo, .pointer (some ⟨b4, 1, none⟩), iV b1.Hi, iV (mx b1.Lo b1.Hi), .bool (decide ((mx b1.Lo b1.Hi) > 1152921504606846976)), .bool (decide ((mx b1.Lo b1.Hi) > 1152921504606846976)), uV, uV, uV, uV, uV, uV], []⟩) (by kernel_rfl) ?_
      refine wpList_nil ?_
      refine hK43 _ _ ?_
      have hq_ := ite_some h; clear h; rcases hq_ with ⟨c48, h⟩ | ⟨c48, h⟩
      · have c48 : (mx b1.Lo b1.Hi) > 1152921504606846976 := c48
        refine wpRwI 16 (x := (decide ((mx b1.Lo b1.Hi) > 1152921504606846976))) (v := true) (by kernel_rfl) (decide_eq_true c48) ?_
        refine wpRwI 29 (x := (decide ((mx b1.Lo b1.Hi) > 1152921504606846976))) (v := true) (by kernel_rfl) (decide_eq_true c48) ?_
        refine wpRwI 30 (x := (decide ((mx b1.Lo b1.Hi) > 1152921504606846976))) (v := true) (by kernel_rfl) (decide_eq_true c48) ?_
        refine condT (by kernel_rfl) ?_
        refine wp_seq_k (fun K49 hK50 => ?_)
        refine wp_region_lit ?_
        refine seqS1 (a' := ⟨#[(ag_Bound b1), .pointer (some ⟨b4, 0, none⟩), iV 4, .bool false, .pointer (some ⟨b4, 2, none⟩), .bool false, .bool false, uV, uV, uV, uV, uV, uV, uV, uV, .bool false, .bool true, .pointer (some ⟨b4, 0, none⟩), iV b1.Lo, .pointer (some ⟨b4, 1, none⟩), iV b1.Hi, iV (mn b1.Lo b1.Hi), .bool false, .bool false, .pointer (some ⟨b4, 0, none⟩), iV b1.Lo, .pointer (some ⟨b4, 1, none⟩), iV b1.Hi, iV (mx b1.Lo b1.Hi), .bool true, .bool true, uV, uV, uV, uV, uV, uV], []⟩) (by kernel_rfl) ?_
        refine wpList_nil ?_
        refine hK50 _ _ ?_
        refine wp_ret ?_
        refine hr13 _ _ ?_
        refine hret _ _ ?_
        refine ends_still (v := Value.int .i64 4) (by kernel_rfl) (by kernel_rfl) ?_
        have HS67 := HS6.drop
        injection h with h
        subst h
        exact ⟨f, rfl, FM.le.refl _, HS67⟩
      · have c48 : ¬ ((mx b1.Lo b1.Hi) > 1152921504606846976) := c48
        refine wpRwI 16 (x := (decide ((mx b1.Lo b1.Hi) > 1152921504606846976))) (v := false) (by kernel_rfl) (decide_eq_false c48) ?_
        refine wpRwI 29 (x := (decide ((mx b1.Lo b1.Hi) > 1152921504606846976))) (v := false) (by kernel_rfl) (decide_eq_false c48) ?_
        refine wpRwI 30 (x := (decide ((mx b1.Lo b1.Hi) > 1152921504606846976))) (v := false) (by kernel_rfl) (decide_eq_false c48) ?_
        refine condF (by kernel_rfl) ?_
        refine wp_seq_k (fun K51 hK52 => ?_)
        refine wp_region_lit ?_
        refine seqL1 (by kernel_rfl) ?_
        refine seqK rfl (does_run (run_load rfl Try.underlying58 rfl (by kernel_rfl : _ = Value.pointer (some ⟨b4, 0, none⟩)) (HS6.cell 0)) ?_)
        refine seqL1 (by kernel_rfl) ?_
        refine seqK rfl (does_run (run_load rfl Try.underlying58 rfl (by kernel_rfl : _ = Value.pointer (some ⟨b4, 1, none⟩)) (HS6.cell 1)) ?_)
        refine seqS2 (a' := ⟨#[(ag_Bound b1), .pointer (some ⟨b4, 0, none⟩), iV 0, .bool false, .pointer (some ⟨b4, 2, none⟩), .bool false, .bool false, uV, uV, uV, uV, uV, uV, uV, uV, .bool false, .bool false, .pointer (some ⟨b4, 0, none⟩), iV b1.Lo, .pointer (some ⟨b4, 1, none⟩), iV b1.Hi, iV (mn b1.Lo b1.Hi), .bool false, .bool false, .pointer (some ⟨b4, 0, none⟩), iV b1.Lo, .pointer (some ⟨b4, 1, none⟩), iV b1.Hi, iV (mx b1.Lo b1.Hi), .bool false, .bool false, .bool (decide (b1.Lo > b1.Hi)), .pointer (some ⟨b4, 0, none⟩), iV b1.Lo, .pointer (some ⟨b4, 1, none⟩), iV b1.Hi, .bool (decide (b1.Lo > b1.Hi))], []⟩) (by kernel_rfl) ?_
        refine wpList_nil ?_
        refine hK52 _ _ ?_
        have hq_ := ite_some h; clear h; rcases hq_ with ⟨c54, h⟩ | ⟨c54, h⟩
        · have c54 : b1.Lo > b1.Hi := c54
          refine wpRwI 31 (x := (decide (b1.Lo > b1.Hi))) (v := true) (by kernel_rfl) (decide_eq_true c54) ?_
          refine wpRwI 36 (x := (decide (b1.Lo > b1.Hi))) (v := true) (by kernel_rfl) (decide_eq_true c54) ?_
          refine condT (by kernel_rfl) ?_
          refine wp_seq_k (fun K55 hK56 => ?_)
          refine wp_region_lit ?_
          refine seqS1 (a' := ⟨#[(ag_Bound b1), .pointer (some ⟨b4, 0, none⟩), iV 11, .bool false, .pointer (some ⟨b4, 2, none⟩), .bool false, .bool false, uV, uV, uV, uV, uV, uV, uV, uV, .bool false, .bool false, .pointer (some ⟨b4, 0, none⟩), iV b1.Lo, .pointer (some ⟨b4, 1, none⟩), iV b1.Hi, iV (mn b1.Lo b1.Hi), .bool false, .bool false, .pointer (some ⟨b4, 0, none⟩), iV b1.Lo, .pointer (some ⟨b4, 1, none⟩), iV b1.Hi, iV (mx b1.Lo b1.Hi), .bool false, .bool false, .bool true, .pointer (some ⟨b4, 0, none⟩), iV b1.Lo, .pointer (some ⟨b4, 1, none⟩), iV b1.Hi, .bool true], []⟩) (by kernel_rfl) ?_
          refine wpList_nil ?_
          refine hK56 _ _ ?_
          refine wp_ret ?_
          refine hr13 _ _ ?_
          refine hret _ _ ?_
          refine ends_still (v := Value.int .i64 11) (by kernel_rfl) (by kernel_rfl) ?_
          have HS68 := HS6.drop
          injection h with h
          subst h
          exact ⟨f, rfl, FM.le.refl _, HS68⟩
        · have c54 : ¬ (b1.Lo > b1.Hi) := c54
          refine wpRwI 31 (x := (decide (b1.Lo > b1.Hi))) (v := false) (by kernel_rfl) (decide_eq_false c54) ?_
          refine wpRwI 36 (x := (decide (b1.Lo > b1.Hi))) (v := false) (by kernel_rfl) (decide_eq_false c54) ?_
          refine condF (by kernel_rfl) ?_
          refine wp_skip ?_
          refine hn12 _ _ ?_
          refine hK9 _ _ ?_
          refine wp_seq_k (fun K59 hK60 => ?_)
          refine wp_region_lit ?_
          refine seqS1 (a' := ⟨#[(ag_Bound b1), .pointer (some ⟨b4, 0, none⟩), iV 0, .bool false, .pointer (some ⟨b4, 2, none⟩), .bool false, .bool false, uV, uV, uV, uV, uV, uV, uV, uV, .bool false, .bool false, .pointer (some ⟨b4, 0, none⟩), iV b1.Lo, .pointer (some ⟨b4, 1, none⟩), iV b1.Hi, iV (mn b1.Lo b1.Hi), .bool false, .bool false, .pointer (some ⟨b4, 0, none⟩), iV b1.Lo, .pointer (some ⟨b4, 1, none⟩), iV b1.Hi, iV (mx b1.Lo b1.Hi), .bool false, .bool false, .bool false, .pointer (some ⟨b4, 0, none⟩), iV b1.Lo, .pointer (some ⟨b4, 1, none⟩), iV b1.Hi, .bool false], []⟩) (by kernel_rfl) ?_
          refine wpList_nil ?_
          refine hK60 _ _ ?_
          refine wp_ret ?_
          refine hret _ _ ?_
          refine ends_still (v := Value.int .i64 0) (by kernel_rfl) (by kernel_rfl) ?_
          have HS70 := HS6.drop
          injection h with h
          subst h
          exact ⟨f, rfl, FM.le.refl _, HS70⟩

set_option maxRecDepth 100000 in
set_option maxHeartbeats 4000000 in
theorem catalog_ends_Quanta.calls (k : Nat)  (b1 : S_Bound) (most2 : Int) {t w : World} {f : FM} {H : List Seg} (HS : St t w f (H)) (rr1 : Int) (h : catalog_ends_Quanta k b1 most2 = some rr1) :
    Calls Try.prog 55 #[.agg #[.int .i64 b1.Lo, .int .i64 b1.Hi, .bool b1.Unknown], .int .i64 most2] w (fun e w' => ∃ (g : FM), e = .returned (Value.int .i64 rr1) ∧ FM.le f g ∧ St t w' g (H)) := by
  unfold catalog_ends_Quanta at h
  refine enter Try.func55 rfl (tm := #[(ag_Bound b1), iV most2, uV, uV, uV, uV, uV, uV, uV, uV, uV, uV, uV, uV, uV, uV, uV, uV, uV, uV, uV, uV]) (by kernel_rfl) ?_
  intro B hret hnor hnp
  refine wp_seq_k (fun K3 hK4 => ?_)
  refine wp_region_lit ?_
  refine seqK rfl (does_box (cs := #[.int .i64 b1.Lo, .int .i64 b1.Hi, .bool b1.Unknown]) rfl (by kernel_rfl : _ = Value.agg #[.int .i64 b1.Lo, .int .i64 b1.Hi, .bool b1.Unknown]) rfl HS ?_)
  intro b5 W6 HS7
  refine seqS1 (a' := ⟨#[(ag_Bound b1), iV most2, .pointer (some ⟨b5, 0, none⟩), uV, iV 0, uV, uV, uV, uV, uV, uV, uV, uV, uV, uV, uV, uV, uV, uV, uV, uV, uV], []⟩) (by kernel_rfl) ?_
  refine wpList_nil ?_
  refine hK4 _ _ ?_
  refine wp_seq_k (fun K9 hK10 => ?_)
  refine wp_seq_k (fun K11 hK12 => ?_)
  refine wp_region_lit ?_
  refine seqK rfl (does_run (run_loadN (n := 3) rfl Try.underlying60 rfl (by kernel_rfl) (by kernel_rfl : _ = Value.pointer (some ⟨b5, 0, none⟩)) (cs := [.int .i64 b1.Lo, .int .i64 b1.Hi, .bool b1.Unknown]) rfl (HS7.cells 0 3 _ rfl)) ?_)
  have hq_ := bind_some h; clear h; obtain ⟨vt13, hc14, h⟩ := hq_
  refine seqK rfl (does_call (f := 61) (args := #[.agg #[.int .i64 b1.Lo, .int .i64 b1.Hi, .bool b1.Unknown]]) (by kernel_rfl) (bound_Check_Quanta.calls k b1 HS7 vt13 hc14) ?_)
  rintro _ W17 ⟨f15, rfl, L16, HS18⟩
  refine ⟨_, rfl, ?_⟩
  refine seqS1 (a' := ⟨#[(ag_Bound b1), iV most2, .pointer (some ⟨b5, 0, none⟩), uV, iV 0, iV vt13, (ag_Bound b1), iV vt13, uV, uV, uV, uV, uV, uV, uV, uV, uV, uV, uV, uV, uV, uV], []⟩) (by kernel_rfl) ?_
  refine wpList_nil ?_
  refine hK12 _ _ ?_
  refine wp_seq_k (fun K19 hK20 => ?_)
  refine wp_region_lit ?_
  refine seqS2 (a' := ⟨#[(ag_Bound b1), iV most2, .pointer (some ⟨b5, 0, none⟩), uV, iV 0, iV vt13, (ag_Bound b1), iV vt13, iV vt13, .bool (vt13 != 0), uV, uV, uV, uV, uV, uV, uV, uV, uV, uV, uV, uV], []⟩) (by kernel_rfl) ?_
  refine wpList_nil ?_
  refine hK20 _ _ ?_
  have hq_ := ite_some h; clear h; rcases hq_ with ⟨c22, h⟩ | ⟨c22, h⟩
  · have c22 : vt13 ≠ 0 := c22
    refine wpRwI 9 (x := (vt13 != 0)) (v := true) (by kernel_rfl) (bne_iff_ne.mpr c22) ?_
    refine condT (by kernel_rfl) ?_
    refine wp_seq_k (fun K23 hK24 => ?_)
    refine wp_region_lit ?_
    refine seqS2 (a' := ⟨#[(ag_Bound b1), iV most2, .pointer (some ⟨b5, 0, none⟩), uV, iV vt13, iV vt13, (ag_Bound b1), iV vt13, iV vt13, .bool true, iV vt13, uV, uV, uV, uV, uV, uV, uV, uV, uV, uV, uV], []⟩) (by kernel_rfl) ?_
    refine wpList_nil ?_
    refine hK24 _ _ ?_
    refine wp_ret ?_
    refine hret _ _ ?_
    refine ends_still (v := Value.int .i64 vt13) (by kernel_rfl) (by kernel_rfl) ?_
    have HS38 := HS18.drop
    injection h with h
    subst h
    exact ⟨f15, rfl, L16, HS38⟩
  · have c22 : ¬ (vt13 ≠ 0) := c22
    refine wpRwI 9 (x := (vt13 != 0)) (v := false) (by kernel_rfl) (bne_eq_false_iff_eq.mpr (Decidable.of_not_not c22)) ?_
    refine condF (by kernel_rfl) ?_
    refine wp_skip ?_
    refine hK10 _ _ ?_
    refine wp_seq_k (fun K25 hK26 => ?_)
    refine wp_seq_k (fun K27 hK28 => ?_)
    refine wp_region_lit ?_
    refine seqL1 (by kernel_rfl) ?_
    refine seqK rfl (does_run (run_load rfl Try.underlying58 rfl (by kernel_rfl : _ = Value.pointer (some ⟨b5, 0, none⟩)) (HS18.cell 0)) ?_)
    refine seqS4 (a' := ⟨#[(ag_Bound b1), iV most2, .pointer (some ⟨b5, 0, none⟩), uV, iV 0, iV vt13, (ag_Bound b1), iV vt13, iV vt13, .bool false, uV, .pointer (some ⟨b5, 0, none⟩), iV b1.Lo, iV most2, iV (w64 (0 - most2)), .bool (decide (b1.Lo < (w64 (0 - most2)))), .bool (decide (b1.Lo < (w64 (0 - most2)))), uV, uV, uV, uV, uV], []⟩) (by kernel_rfl) ?_
    have hq_ := ite_some h; clear h; rcases hq_ with ⟨c29, h⟩ | ⟨c29, h⟩
    · have c29 : b1.Lo < (w64 (0 - most2)) := c29
      refine seqRwI 15 (x := (decide (b1.Lo < (w64 (0 - most2))))) (v := true) (by kernel_rfl) (decide_eq_true c29) ?_
      refine seqRwI 16 (x := (decide (b1.Lo < (w64 (0 - most2))))) (v := true) (by kernel_rfl) (decide_eq_true c29) ?_
      refine seqS5 (a' := ⟨#[(ag_Bound b1), iV most2, .pointer (some ⟨b5, 0, none⟩), uV, iV 0, iV vt13, (ag_Bound b1), iV vt13, iV vt13, .bool false, uV, .pointer (some ⟨b5, 0, none⟩), iV b1.Lo, iV most2, iV (w64 (0 - most2)), .bool true, .bool true, uV, uV, uV, uV, .bool true], []⟩) (by kernel_rfl) ?_
      refine wpList_nil ?_
      refine hK28 _ _ ?_
      refine condT (by kernel_rfl) ?_
      refine wp_seq_k (fun K30 hK31 => ?_)
      refine wp_region_lit ?_
      refine seqS1 (a' := ⟨#[(ag_Bound b1), iV most2, .pointer (some ⟨b5, 0, none⟩), uV, iV 4, iV vt13, (ag_Bound b1), iV vt13, iV vt13, .bool false, uV, .pointer (some ⟨b5, 0, none⟩), iV b1.Lo, iV most2, iV (w64 (0 - most2)), .bool true, .bool true, uV, uV, uV, uV, .bool true], []⟩) (by kernel_rfl) ?_
      refine wpList_nil ?_
      refine hK31 _ _ ?_
      refine wp_ret ?_
      refine hret _ _ ?_
      refine ends_still (v := Value.int .i64 4) (by kernel_rfl) (by kernel_rfl) ?_
      have HS39 := HS18.drop
      injection h with h
      subst h
      exact ⟨f15, rfl, L16, HS39⟩
    · have c29 : ¬ (b1.Lo < (w64 (0 - most2))) := c29
      refine seqRwI 15 (x := (decide (b1.Lo < (w64 (0 - most2))))) (v := false) (by kernel_rfl) (decide_eq_false c29) ?_
      refine seqRwI 16 (x := (decide (b1.Lo < (w64 (0 - most2))))) (v := false) (by kernel_rfl) (decide_eq_false c29) ?_
      refine seqL1 (by kernel_rfl) ?_
      refine seqG (by kernel_rfl) (does_run (run_load rfl Try.underlying58 rfl (by kernel_rfl : _ = Value.pointer (some ⟨b5, 1, none⟩)) (HS18.cell 1)) ?_)
      refine seqS3 (a' := ⟨#[(ag_Bound b1), iV most2, .pointer (some ⟨b5, 0, none⟩), uV, iV 0, iV vt13, (ag_Bound b1), iV vt13, iV vt13, .bool false, uV, .pointer (some ⟨b5, 0, none⟩), iV b1.Lo, iV most2, iV (w64 (0 - most2)), .bool false, .bool false, .pointer (some ⟨b5, 1, none⟩), iV b1.Hi, iV most2, .bool (decide (b1.Hi > most2)), .bool (decide (b1.Hi > most2))], []⟩) (by kernel_rfl) ?_
      refine wpList_nil ?_
      refine hK28 _ _ ?_
      have hq_ := ite_some h; clear h; rcases hq_ with ⟨c33, h⟩ | ⟨c33, h⟩
      · have c33 : b1.Hi > most2 := c33
        refine wpRwI 20 (x := (decide (b1.Hi > most2))) (v := true) (by kernel_rfl) (decide_eq_true c33) ?_
        refine wpRwI 21 (x := (decide (b1.Hi > most2))) (v := true) (by kernel_rfl) (decide_eq_true c33) ?_
        refine condT (by kernel_rfl) ?_
        refine wp_seq_k (fun K34 hK35 => ?_)
        refine wp_region_lit ?_
        refine seqS1 (a' := ⟨#[(ag_Bound b1), iV most2, .pointer (some ⟨b5, 0, none⟩), uV, iV 4, iV vt13, (ag_Bound b1), iV vt13, iV vt13, .bool false, uV, .pointer (some ⟨b5, 0, none⟩), iV b1.Lo, iV most2, iV (w64 (0 - most2)), .bool false, .bool false, .pointer (some ⟨b5, 1, none⟩), iV b1.Hi, iV most2, .bool true, .bool true], []⟩) (by kernel_rfl) ?_
        refine wpList_nil ?_
        refine hK35 _ _ ?_
        refine wp_ret ?_
        refine hret _ _ ?_
        refine ends_still (v := Value.int .i64 4) (by kernel_rfl) (by kernel_rfl) ?_
        have HS40 := HS18.drop
        injection h with h
        subst h
        exact ⟨f15, rfl, L16, HS40⟩
      · have c33 : ¬ (b1.Hi > most2) := c33
        refine wpRwI 20 (x := (decide (b1.Hi > most2))) (v := false) (by kernel_rfl) (decide_eq_false c33) ?_
        refine wpRwI 21 (x := (decide (b1.Hi > most2))) (v := false) (by kernel_rfl) (decide_eq_false c33) ?_
        refine condF (by kernel_rfl) ?_
        refine wp_skip ?_
        refine hK26 _ _ ?_
        refine wp_seq_k (fun K36 hK37 => ?_)
        refine wp_region_lit ?_
        refine seqS1 (a' := ⟨#[(ag_Bound b1), iV most2, .pointer (some ⟨b5, 0, none⟩), uV, iV 0, iV vt13, (ag_Bound b1), iV vt13, iV vt13, .bool false, uV, .pointer (some ⟨b5, 0, none⟩), iV b1.Lo, iV most2, iV (w64 (0 - most2)), .bool false, .bool false, .pointer (some ⟨b5, 1, none⟩), iV b1.Hi, iV most2, .bool false, .bool false], []⟩) (by kernel_rfl) ?_
        refine wpList_nil ?_
        refine hK37 _ _ ?_
        refine wp_ret ?_
        refine hret _ _ ?_
        refine ends_still (v := Value.int .i64 0) (by kernel_rfl) (by kernel_rfl) ?_
        have HS41 := HS18.drop
        injection h with h
        subst h
        exact ⟨f15, rfl, L16, HS41⟩

set_option maxRecDepth 100000 in
set_option maxHeartbeats 4000000 in
theorem bound_Check_Tick.calls (k : Nat)  (b1 : S_Bound) {t w : World} {f : FM} {H : List Seg} (HS : St t w f (H)) (rr1 : Int) (h : bound_Check_Tick k b1 = some rr1) :
    Calls Try.prog 62 #[.agg #[.int .i64 b1.Lo, .int .i64 b1.Hi, .bool b1.Unknown]] w (fun e w' => ∃ (g : FM), e = .returned (Value.int .i64 rr1) ∧ FM.le f g ∧ St t w' g (H)) := by
  unfold bound_Check_Tick at h
  refine enter Try.func62 rfl (tm := #[(ag_Bound b1), uV, uV, uV, uV, uV, uV, uV, uV, uV, uV, uV, uV, uV, uV, uV, uV, uV, uV, uV, uV, uV, uV, uV, uV, uV, uV, uV, uV, uV, uV, uV, uV, uV, uV, uV, uV]) (by kernel_rfl) ?_
  intro B hret hnor hnp
  refine wp_seq_k (fun K2 hK3 => ?_)
  refine wp_region_lit ?_
  refine seqK rfl (does_box (cs := #[.int .i64 b1.Lo, .int .i64 b1.Hi, .bool b1.Unknown]) rfl (by kernel_rfl : _ = Value.agg #[.int .i64 b1.Lo, .int .i64 b1.Hi, .bool b1.Unknown]) rfl HS ?_)
  intro b4 W5 HS6
  refine seqS1 (a' := ⟨#[(ag_Bound b1), .pointer (some ⟨b4, 0, none⟩), iV 0, uV, uV, uV, uV, uV, uV, uV, uV, uV, uV, uV, uV, uV, uV, uV, uV, uV, uV, uV, uV, uV, uV, uV, uV, uV, uV, uV, uV, uV, uV, uV, uV, uV, uV], []⟩) (by kernel_rfl) ?_
  refine wpList_nil ?_
  refine hK3 _ _ ?_
  refine wp_seq_k (fun K8 hK9 => ?_)
  refine blockK (fun B10 hx11 hn12 hr13 ho14 hp15 => ?_)
  refine wp_seq_k (fun K17 hK18 => ?_)
  refine wp_region_lit ?_
  refine seqL1 (by kernel_rfl) ?_
  refine seqK rfl (does_run (run_load rfl Try.underlying4 rfl (by kernel_rfl : _ = Value.pointer (some ⟨b4, 2, none⟩)) (HS6.cell 2)) ?_)
  refine seqS1 (a' := ⟨#[(ag_Bound b1), .pointer (some ⟨b4, 0, none⟩), iV 0, uV, .pointer (some ⟨b4, 2, none⟩), .bool b1.Unknown, .bool b1.Unknown, uV, uV, uV, uV, uV, uV, uV, uV, uV, uV, uV, uV, uV, uV, uV, uV, uV, uV, uV, uV, uV, uV, uV, uV, uV, uV, uV, uV, uV, uV], []⟩) (by kernel_rfl) ?_
  have hq_ := ite_some h; clear h; rcases hq_ with ⟨c19, h⟩ | ⟨c19, h⟩
  · have c19 : b1.Unknown = true := c19
    refine seqRwI 5 (x := b1.Unknown) (v := true) (by kernel_rfl) c19 ?_
    refine seqRwI 6 (x := b1.Unknown) (v := true) (by kernel_rfl) c19 ?_
    refine seqL1 (by kernel_rfl) ?_
    refine seqG (by kernel_rfl) (does_run (run_load rfl Try.underlying61 rfl (by kernel_rfl : _ = Value.pointer (some ⟨b4, 0, none⟩)) (HS6.cell 0)) ?_)
    refine seqS2 (a' := ⟨#[(ag_Bound b1), .pointer (some ⟨b4, 0, none⟩), iV 0, uV, .pointer (some ⟨b4, 2, none⟩), .bool true, .bool true, .pointer (some ⟨b4, 0, none⟩), iV b1.Lo, .bool (b1.Lo != 0), .bool (b1.Lo != 0), uV, uV, uV, uV, uV, uV, uV, uV, uV, uV, uV, uV, uV, uV, uV, uV, uV, uV, uV, uV, uV, uV, uV, uV, uV, uV], []⟩) (by kernel_rfl) ?_
    have hq_ := ite_some h; clear h; rcases hq_ with ⟨c20, h⟩ | ⟨c20, h⟩
    · have c20 : b1.Lo ≠ 0 := c20
      refine seqRwI 9 (x := (b1.Lo != 0)) (v := true) (by kernel_rfl) (bne_iff_ne.mpr c20) ?_
      refine seqRwI 10 (x := (b1.Lo != 0)) (v := true) (by kernel_rfl) (bne_iff_ne.mpr c20) ?_
      refine seqS6 (a' := ⟨#[(ag_Bound b1), .pointer (some ⟨b4, 0, none⟩), iV 0, .bool true, .pointer (some ⟨b4, 2, none⟩), .bool true, .bool true, .pointer (some ⟨b4, 0, none⟩), iV b1.Lo, .bool true, .bool true, uV, uV, uV, .bool true, .bool true, uV, uV, uV, uV, uV, uV, uV, uV, uV, uV, uV, uV, uV, uV, uV, uV, uV, uV, uV, uV, uV], []⟩) (by kernel_rfl) ?_
      refine wpList_nil ?_
      refine hK18 _ _ ?_
      refine condT (by kernel_rfl) ?_
      refine wp_seq_k (fun K21 hK22 => ?_)
      refine wp_region_lit ?_
      refine seqS1 (a' := ⟨#[(ag_Bound b1), .pointer (some ⟨b4, 0, none⟩), iV 3, .bool true, .pointer (some ⟨b4, 2, none⟩), .bool true, .bool true, .pointer (some ⟨b4, 0, none⟩), iV b1.Lo, .bool true, .bool true, uV, uV, uV, .bool true, .bool true, uV, uV, uV, uV, uV, uV, uV, uV, uV, uV, uV, uV, uV, uV, uV, uV, uV, uV, uV, uV, uV], []⟩) (by kernel_rfl) ?_
      refine wpList_nil ?_
      refine hK22 _ _ ?_
      refine wp_ret ?_
      refine hr13 _ _ ?_
      refine hret _ _ ?_
      refine ends_still (v := Value.int .i64 3) (by kernel_rfl) (by kernel_rfl) ?_
      have HS61 := HS6.drop
      injection h with h
      subst h
      exact ⟨f, rfl, FM.le.refl _, HS61⟩
    · have c20 : ¬ (b1.Lo ≠ 0) := c20
      refine seqRwI 9 (x := (b1.Lo != 0)) (v := false) (by kernel_rfl) (bne_eq_false_iff_eq.mpr (Decidable.of_not_not c20)) ?_
      refine seqRwI 10 (x := (b1.Lo != 0)) (v := false) (by kernel_rfl) (bne_eq_false_iff_eq.mpr (Decidable.of_not_not c20)) ?_
      refine seqL1 (by kernel_rfl) ?_
      refine seqG (by kernel_rfl) (does_run (run_load rfl Try.underlying61 rfl (by kernel_rfl : _ = Value.pointer (some ⟨b4, 1, none⟩)) (HS6.cell 1)) ?_)
      refine seqS4 (a' := ⟨#[(ag_Bound b1), .pointer (some ⟨b4, 0, none⟩), iV 0, .bool (b1.Hi != 0), .pointer (some ⟨b4, 2, none⟩), .bool true, .bool true, .pointer (some ⟨b4, 0, none⟩), iV b1.Lo, .bool false, .bool false, .pointer (some ⟨b4, 1, none⟩), iV b1.Hi, .bool (b1.Hi != 0), .bool (b1.Hi != 0), .bool (b1.Hi != 0), uV, uV, uV, uV, uV, uV, uV, uV, uV, uV, uV, uV, uV, uV, uV, uV, uV, uV, uV, uV, uV], []⟩) (by kernel_rfl) ?_
      refine wpList_nil ?_
      refine hK18 _ _ ?_
      have hq_ := ite_some h; clear h; rcases hq_ with ⟨c24, h⟩ | ⟨c24, h⟩
      · have c24 : b1.Hi ≠ 0 := c24
        refine wpRwI 3 (x := (b1.Hi != 0)) (v := true) (by kernel_rfl) (bne_iff_ne.mpr c24) ?_
        refine wpRwI 13 (x := (b1.Hi != 0)) (v := true) (by kernel_rfl) (bne_iff_ne.mpr c24) ?_
        refine wpRwI 14 (x := (b1.Hi != 0)) (v := true) (by kernel_rfl) (bne_iff_ne.mpr c24) ?_
        refine wpRwI 15 (x := (b1.Hi != 0)) (v := true) (by kernel_rfl) (bne_iff_ne.mpr c24) ?_
        refine condT (by kernel_rfl) ?_
        refine wp_seq_k (fun K25 hK26 => ?_)
        refine wp_region_lit ?_
        refine seqS1 (a' := ⟨#[(ag_Bound b1), .pointer (some ⟨b4, 0, none⟩), iV 3, .bool true, .pointer (some ⟨b4, 2, none⟩), .bool true, .bool true, .pointer (some ⟨b4, 0, none⟩), iV b1.Lo, .bool false, .bool false, .pointer (some ⟨b4, 1, none⟩), iV b1.Hi, .bool true, .bool true, .bool true, uV, uV, uV, uV, uV, uV, uV, uV, uV, uV, uV, uV, uV, uV, uV, uV, uV, uV, uV, uV, uV], []⟩) (by kernel_rfl) ?_
        refine wpList_nil ?_
        refine hK26 _ _ ?_
        refine wp_ret ?_
        refine hr13 _ _ ?_
        refine hret _ _ ?_
        refine ends_still (v := Value.int .i64 3) (by kernel_rfl) (by kernel_rfl) ?_
        have HS62 := HS6.drop
        injection h with h
        subst h
        exact ⟨f, rfl, FM.le.refl _, HS62⟩
      · have c24 : ¬ (b1.Hi ≠ 0) := c24
        refine wpRwI 3 (x := (b1.Hi != 0)) (v := false) (by kernel_rfl) (bne_eq_false_iff_eq.mpr (Decidable.of_not_not c24)) ?_
        refine wpRwI 13 (x := (b1.Hi != 0)) (v := false) (by kernel_rfl) (bne_eq_false_iff_eq.mpr (Decidable.of_not_not c24)) ?_
        refine wpRwI 14 (x := (b1.Hi != 0)) (v := false) (by kernel_rfl) (bne_eq_false_iff_eq.mpr (Decidable.of_not_not c24)) ?_
        refine wpRwI 15 (x := (b1.Hi != 0)) (v := false) (by kernel_rfl) (bne_eq_false_iff_eq.mpr (Decidable.of_not_not c24)) ?_
        refine condF (by kernel_rfl) ?_
        refine wp_seq_k (fun K27 hK28 => ?_)
        refine wp_region_lit ?_
        refine seqL1 (by kernel_rfl) ?_
        refine seqK rfl (does_run (run_load rfl Try.underlying61 rfl (by kernel_rfl : _ = Value.pointer (some ⟨b4, 0, none⟩)) (HS6.cell 0)) ?_)
        refine seqL1 (by kernel_rfl) ?_
        refine seqK rfl (does_run (run_load rfl Try.underlying61 rfl (by kernel_rfl : _ = Value.pointer (some ⟨b4, 1, none⟩)) (HS6.cell 1)) ?_)
        refine seqS3 (a' := ⟨#[(ag_Bound b1), .pointer (some ⟨b4, 0, none⟩), iV 0, .bool false, .pointer (some ⟨b4, 2, none⟩), .bool true, .bool true, .pointer (some ⟨b4, 0, none⟩), iV b1.Lo, .bool false, .bool false, .pointer (some ⟨b4, 1, none⟩), iV b1.Hi, .bool false, .bool false, .bool false, uV, .pointer (some ⟨b4, 0, none⟩), iV b1.Lo, .pointer (some ⟨b4, 1, none⟩), iV b1.Hi, iV (mn b1.Lo b1.Hi), .bool (decide ((mn b1.Lo b1.Hi) < (-1152921504606846976))), .bool (decide ((mn b1.Lo b1.Hi) < (-1152921504606846976))), uV, uV, uV, uV, uV, uV, uV, uV, uV, uV, uV, uV, uV], []⟩) (by kernel_rfl) ?_
        have hq_ := ite_some h; clear h; rcases hq_ with ⟨c29, h⟩ | ⟨c29, h⟩
        · have c29 : (mn b1.Lo b1.Hi) < (-1152921504606846976) := c29
          refine seqRwI 22 (x := (decide ((mn b1.Lo b1.Hi) < (-1152921504606846976)))) (v := true) (by kernel_rfl) (decide_eq_true c29) ?_
          refine seqRwI 23 (x := (decide ((mn b1.Lo b1.Hi) < (-1152921504606846976)))) (v := true) (by kernel_rfl) (decide_eq_true c29) ?_
          refine seqS8 (a' := ⟨#[(ag_Bound b1), .pointer (some ⟨b4, 0, none⟩), iV 0, .bool false, .pointer (some ⟨b4, 2, none⟩), .bool true, .bool true, .pointer (some ⟨b4, 0, none⟩), iV b1.Lo, .bool false, .bool false, .pointer (some ⟨b4, 1, none⟩), iV b1.Hi, .bool false, .bool false, .bool false, .bool true, .pointer (some ⟨b4, 0, none⟩), iV b1.Lo, .pointer (some ⟨b4, 1, none⟩), iV b1.Hi, iV (mn b1.Lo b1.Hi), .bool true, .bool true, uV, uV, uV, uV, uV, uV, .bool true, uV, uV, uV, uV, uV, uV], []⟩) (by kernel_rfl) ?_
          refine wpList_nil ?_
          refine hK28 _ _ ?_
          refine condT (by kernel_rfl) ?_
          refine wp_seq_k (fun K30 hK31 => ?_)
          refine wp_region_lit ?_
          refine seqS1 (a' := ⟨#[(ag_Bound b1), .pointer (some ⟨b4, 0, none⟩), iV 4, .bool false, .pointer (some ⟨b4, 2, none⟩), .bool true, .bool true, .pointer (some ⟨b4, 0, none⟩), iV b1.Lo, .bool false, .bool false, .pointer (some ⟨b4, 1, none⟩), iV b1.Hi, .bool false, .bool false, .bool false, .bool true, .pointer (some ⟨b4, 0, none⟩), iV b1.Lo, .pointer (some ⟨b4, 1, none⟩), iV b1.Hi, iV (mn b1.Lo b1.Hi), .bool true, .bool true, uV, uV, uV, uV, uV, uV, .bool true, uV, uV, uV, uV, uV, uV], []⟩) (by kernel_rfl) ?_
          refine wpList_nil ?_
          refine hK31 _ _ ?_
          refine wp_ret ?_
          refine hr13 _ _ ?_
          refine hret _ _ ?_
          refine ends_still (v := Value.int .i64 4) (by kernel_rfl) (by kernel_rfl) ?_
          have HS63 := HS6.drop
          injection h with h
          subst h
          exact ⟨f, rfl, FM.le.refl _, HS63⟩
        · have c29 : ¬ ((mn b1.Lo b1.Hi) < (-1152921504606846976)) := c29
          refine seqRwI 22 (x := (decide ((mn b1.Lo b1.Hi) < (-1152921504606846976)))) (v := false) (by kernel_rfl) (decide_eq_false c29) ?_
          refine seqRwI 23 (x := (decide ((mn b1.Lo b1.Hi) < (-1152921504606846976)))) (v := false) (by kernel_rfl) (decide_eq_false c29) ?_
          refine seqL1 (by kernel_rfl) ?_
          refine seqG (by kernel_rfl) (does_run (run_load rfl Try.underlying61 rfl (by kernel_rfl : _ = Value.pointer (some ⟨b4, 0, none⟩)) (HS6.cell 0)) ?_)
          refine seqL1 (by kernel_rfl) ?_
          refine seqG (by kernel_rfl) (does_run (run_load rfl Try.underlying61 rfl (by kernel_rfl : _ = Value.pointer (some ⟨b4, 1, none⟩)) (HS6.cell 1)) ?_)
          refine seqS4 (a' := ⟨#[(ag_Bound b1), .pointer (some ⟨b4, 0, none⟩), iV 0, .bool false, .pointer (some ⟨b4, 2, none⟩), .bool true, .bool true, .pointer (some ⟨b4, 0, none⟩), iV b1.Lo, .bool false, .bool false, .pointer (some ⟨b4, 1, none⟩), iV b1.Hi, .bool false, .bool false, .bool false, .bool (decide ((mx b1.Lo b1.Hi) > 1152921504606846976)), .pointer (some ⟨b4, 0, none⟩), iV b1.Lo, .pointer (some ⟨b4, 1, none⟩), iV b1.Hi, iV (mn b1.Lo b1.Hi), .bool false, .bool false, .pointer (some ⟨b4, 0, none⟩), iV b1.Lo, .pointer (some ⟨b4, 1, none⟩), iV b1.Hi, iV (mx b1.Lo b1.Hi), .bool (decide ((mx b1.Lo b1.Hi) > 1152921504606846976)), .bool (decide ((mx b1.Lo b1.Hi) > 1152921504606846976)), uV, uV, uV, uV, uV, uV], []⟩) (by kernel_rfl) ?_
          refine wpList_nil ?_
          refine hK28 _ _ ?_
          have hq_ := ite_some h; clear h; rcases hq_ with ⟨c33, h⟩ | ⟨c33, h⟩
          · have c33 : (mx b1.Lo b1.Hi) > 1152921504606846976 := c33
            refine wpRwI 16 (x := (decide ((mx b1.Lo b1.Hi) > 1152921504606846976))) (v := true) (by kernel_rfl) (decide_eq_true c33) ?_
            refine wpRwI 29 (x := (decide ((mx b1.Lo b1.Hi) > 1152921504606846976))) (v := true) (by kernel_rfl) (decide_eq_true c33) ?_
            refine wpRwI 30 (x := (decide ((mx b1.Lo b1.Hi) > 1152921504606846976))) (v := true) (by kernel_rfl) (decide_eq_true c33) ?_
            refine condT (by kernel_rfl) ?_
            refine wp_seq_k (fun K34 hK35 => ?_)
            refine wp_region_lit ?_
            refine seqS1 (a' := ⟨#[(ag_Bound b1), .pointer (some ⟨b4, 0, none⟩), iV 4, .bool false, .pointer (some ⟨b4, 2, none⟩), .bool true, .bool true, .pointer (some ⟨b4, 0, none⟩), iV b1.Lo, .bool false, .bool false, .pointer (some ⟨b4, 1, none⟩), iV b1.Hi, .bool false, .bool false, .bool false, .bool true, .pointer (some ⟨b4, 0, none⟩), iV b1.Lo, .pointer (some ⟨b4, 1, none⟩), iV b1.Hi, iV (mn b1.Lo b1.Hi), .bool false, .bool false, .pointer (some ⟨b4, 0, none⟩), iV b1.Lo, .pointer (some ⟨b4, 1, none⟩), iV b1.Hi, iV (mx b1.Lo b1.Hi), .bool true, .bool true, uV, uV, uV, uV, uV, uV], []⟩) (by kernel_rfl) ?_
            refine wpList_nil ?_
            refine hK35 _ _ ?_
            refine wp_ret ?_
            refine hr13 _ _ ?_
            refine hret _ _ ?_
            refine ends_still (v := Value.int .i64 4) (by kernel_rfl) (by kernel_rfl) ?_
            have HS64 := HS6.drop
            injection h with h
            subst h
            exact ⟨f, rfl, FM.le.refl _, HS64⟩
          · have c33 : ¬ ((mx b1.Lo b1.Hi) > 1152921504606846976) := c33
            refine wpRwI 16 (x := (decide ((mx b1.Lo b1.Hi) > 1152921504606846976))) (v := false) (by kernel_rfl) (decide_eq_false c33) ?_
            refine wpRwI 29 (x := (decide ((mx b1.Lo b1.Hi) > 1152921504606846976))) (v := false) (by kernel_rfl) (decide_eq_false c33) ?_
            refine wpRwI 30 (x := (decide ((mx b1.Lo b1.Hi) > 1152921504606846976))) (v := false) (by kernel_rfl) (decide_eq_false c33) ?_
            refine condF (by kernel_rfl) ?_
            refine wp_seq_k (fun K36 hK37 => ?_)
            refine wp_region_lit ?_
            refine seqL1 (by kernel_rfl) ?_
            refine seqK rfl (does_run (run_load rfl Try.underlying61 rfl (by kernel_rfl : _ = Value.pointer (some ⟨b4, 0, none⟩)) (HS6.cell 0)) ?_)
            refine seqL1 (by kernel_rfl) ?_
            refine seqK rfl (does_run (run_load rfl Try.underlying61 rfl (by kernel_rfl : _ = Value.pointer (some ⟨b4, 1, none⟩)) (HS6.cell 1)) ?_)
            refine seqS2 (a' := ⟨#[(ag_Bound b1), .pointer (some ⟨b4, 0, none⟩), iV 0, .bool false, .pointer (some ⟨b4, 2, none⟩), .bool true, .bool true, .pointer (some ⟨b4, 0, none⟩), iV b1.Lo, .bool false, .bool false, .pointer (some ⟨b4, 1, none⟩), iV b1.Hi, .bool false, .bool false, .bool false, .bool false, .pointer (some ⟨b4, 0, none⟩), iV b1.Lo, .pointer (some ⟨b4, 1, none⟩), iV b1.Hi, iV (mn b1.Lo b1.Hi), .bool false, .bool false, .pointer (some ⟨b4, 0, none⟩), iV b1.Lo, .pointer (some ⟨b4, 1, none⟩), iV b1.Hi, iV (mx b1.Lo b1.Hi), .bool false, .bool false, .bool (decide (b1.Lo > b1.Hi)), .pointer (some ⟨b4, 0, none⟩), iV b1.Lo, .pointer (some ⟨b4, 1, none⟩), iV b1.Hi, .bool (decide (b1.Lo > b1.Hi))], []⟩) (by kernel_rfl) ?_
            refine wpList_nil ?_
            refine hK37 _ _ ?_
            have hq_ := ite_some h; clear h; rcases hq_ with ⟨c39, h⟩ | ⟨c39, h⟩
            · have c39 : b1.Lo > b1.Hi := c39
              refine wpRwI 31 (x := (decide (b1.Lo > b1.Hi))) (v := true) (by kernel_rfl) (decide_eq_true c39) ?_
              refine wpRwI 36 (x := (decide (b1.Lo > b1.Hi))) (v := true) (by kernel_rfl) (decide_eq_true c39) ?_
              refine condT (by kernel_rfl) ?_
              refine wp_seq_k (fun K40 hK41 => ?_)
              refine wp_region_lit ?_
              refine seqS1 (a' := ⟨#[(ag_Bound b1), .pointer (some ⟨b4, 0, none⟩), iV 11, .bool false, .pointer (some ⟨b4, 2, none⟩), .bool true, .bool true, .pointer (some ⟨b4, 0, none⟩), iV b1.Lo, .bool false, .bool false, .pointer (some ⟨b4, 1, none⟩), iV b1.Hi, .bool false, .bool false, .bool false, .bool false, .pointer (some ⟨b4, 0, none⟩), iV b1.Lo, .pointer (some ⟨b4, 1, none⟩), iV b1.Hi, iV (mn b1.Lo b1.Hi), .bool false, .bool false, .pointer (some ⟨b4, 0, none⟩), iV b1.Lo, .pointer (some ⟨b4, 1, none⟩), iV b1.Hi, iV (mx b1.Lo b1.Hi), .bool false, .bool false, .bool true, .pointer (some ⟨b4, 0, none⟩), iV b1.Lo, .pointer (some ⟨b4, 1, none⟩), iV b1.Hi, .bool true], []⟩) (by kernel_rfl) ?_
              refine wpList_nil ?_
              refine hK41 _ _ ?_
              refine wp_ret ?_
              refine hr13 _ _ ?_
              refine hret _ _ ?_
              refine ends_still (v := Value.int .i64 11) (by kernel_rfl) (by kernel_rfl) ?_
              have HS65 := HS6.drop
              injection h with h
              subst h
              exact ⟨f, rfl, FM.le.refl _, HS65⟩
            · have c39 : ¬ (b1.Lo > b1.Hi) := c39
              refine wpRwI 31 (x := (decide (b1.Lo > b1.Hi))) (v := false) (by kernel_rfl) (decide_eq_false c39) ?_
              refine wpRwI 36 (x := (decide (b1.Lo > b1.Hi))) (v := false) (by kernel_rfl) (decide_eq_false c39) ?_
              refine condF (by kernel_rfl) ?_
              refine wp_skip ?_
              refine hn12 _ _ ?_
              refine hK9 _ _ ?_
              refine wp_seq_k (fun K57 hK58 => ?_)
              refine wp_region_lit ?_
              refine seqS1 (a' := ⟨#[(ag_Bound b1), .pointer (some ⟨b4, 0, none⟩), iV 0, .bool false, .pointer (some ⟨b4, 2, none⟩), .bool true, .bool true, .pointer (some ⟨b4, 0, none⟩), iV b1.Lo, .bool false, .bool false, .pointer (some ⟨b4, 1, none⟩), iV b1.Hi, .bool false, .bool false, .bool false, .bool false, .pointer (some ⟨b4, 0, none⟩), iV b1.Lo, .pointer (some ⟨b4, 1, none⟩), iV b1.Hi, iV (mn b1.Lo b1.Hi), .bool false, .bool false, .pointer (some ⟨b4, 0, none⟩), iV b1.Lo, .pointer (some ⟨b4, 1, none⟩), iV b1.Hi, iV (mx b1.Lo b1.Hi), .bool false, .bool false, .bool false, .pointer (some ⟨b4, 0, none⟩), iV b1.Lo, .pointer (some ⟨b4, 1, none⟩), iV b1.Hi, .bool false], []⟩) (by kernel_rfl) ?_
              refine wpList_nil ?_
              refine hK58 _ _ ?_
              refine wp_ret ?_
              refine hret _ _ ?_
              refine ends_still (v := Value.int .i64 0) (by kernel_rfl) (by kernel_rfl) ?_
              have HS69 := HS6.drop
              injection h with h
              subst h
              exact ⟨f, rfl, FM.le.refl _, HS69⟩
  · have c19 : ¬ (b1.Unknown = true) := c19
    refine seqRwI 5 (x := b1.Unknown) (v := false) (by kernel_rfl) (Bool.eq_false_iff.mpr c19) ?_
    refine seqRwI 6 (x := b1.Unknown) (v := false) (by kernel_rfl) (Bool.eq_false_iff.mpr c19) ?_
    refine seqS10 (a' := ⟨#[(ag_Bound b1), .pointer (some ⟨b4, 0, none⟩), iV 0, .bool false, .pointer (some ⟨b4, 2, none⟩), .bool false, .bool false, uV, uV, uV, uV, uV, uV, uV, uV, .bool false, uV, uV, uV, uV, uV, uV, uV, uV, uV, uV, uV, uV, uV, uV, uV, uV, uV, uV, uV, uV, uV], []⟩) (by kernel_rfl) ?_
    refine wpList_nil ?_
    refine hK18 _ _ ?_
    refine condF (by kernel_rfl) ?_
    refine wp_seq_k (fun K42 hK43 => ?_)
    refine wp_region_lit ?_
    refine seqL1 (by kernel_rfl) ?_
    refine seqK rfl (does_run (run_load rfl Try.underlying61 rfl (by kernel_rfl : _ = Value.pointer (some ⟨b4, 0, none⟩)) (HS6.cell 0)) ?_)
    refine seqL1 (by kernel_rfl) ?_
    refine seqK rfl (does_run (run_load rfl Try.underlying61 rfl (by kernel_rfl : _ = Value.pointer (some ⟨b4, 1, none⟩)) (HS6.cell 1)) ?_)
    refine seqS3 (a' := ⟨#[(ag_Bound b1), .pointer (some ⟨b4, 0, none⟩), iV 0, .bool false, .pointer (some ⟨b4, 2, none⟩), .bool false, .bool false, uV, uV, uV, uV, uV, uV, uV, uV, .bool false, uV, .pointer (some ⟨b4, 0, none⟩), iV b1.Lo, .pointer (some ⟨b4, 1, none⟩), iV b1.Hi, iV (mn b1.Lo b1.Hi), .bool (decide ((mn b1.Lo b1.Hi) < (-1152921504606846976))), .bool (decide ((mn b1.Lo b1.Hi) < (-1152921504606846976))), uV, uV, uV, uV, uV, uV, uV, uV, uV, uV, uV, uV, uV], []⟩) (by kernel_rfl) ?_
    have hq_ := ite_some h; clear h; rcases hq_ with ⟨c44, h⟩ | ⟨c44, h⟩
    · have c44 : (mn b1.Lo b1.Hi) < (-1152921504606846976) := c44
      refine seqRwI 22 (x := (decide ((mn b1.Lo b1.Hi) < (-1152921504606846976)))) (v := true) (by kernel_rfl) (decide_eq_true c44) ?_
      refine seqRwI 23 (x := (decide ((mn b1.Lo b1.Hi) < (-1152921504606846976)))) (v := true) (by kernel_rfl) (decide_eq_true c44) ?_
      refine seqS8 (a' := ⟨#[(ag_Bound b1), .pointer (some ⟨b4, 0, none⟩), iV 0, .bool false, .pointer (some ⟨b4, 2, none⟩), .bool false, .bool false, uV, uV, uV, uV, uV, uV, uV, uV, .bool false, .bool true, .pointer (some ⟨b4, 0, none⟩), iV b1.Lo, .pointer (some ⟨b4, 1, none⟩), iV b1.Hi, iV (mn b1.Lo b1.Hi), .bool true, .bool true, uV, uV, uV, uV, uV, uV, .bool true, uV, uV, uV, uV, uV, uV], []⟩) (by kernel_rfl) ?_
      refine wpList_nil ?_
      refine hK43 _ _ ?_
      refine condT (by kernel_rfl) ?_
      refine wp_seq_k (fun K45 hK46 => ?_)
      refine wp_region_lit ?_
      refine seqS1 (a' := ⟨#[(ag_Bound b1), .pointer (some ⟨b4, 0, none⟩), iV 4, .bool false, .pointer (some ⟨b4, 2, none⟩), .bool false, .bool false, uV, uV, uV, uV, uV, uV, uV, uV, .bool false, .bool true, .pointer (some ⟨b4, 0, none⟩), iV b1.Lo, .pointer (some ⟨b4, 1, none⟩), iV b1.Hi, iV (mn b1.Lo b1.Hi), .bool true, .bool true, uV, uV, uV, uV, uV, uV, .bool true, uV, uV, uV, uV, uV, uV], []⟩) (by kernel_rfl) ?_
      refine wpList_nil ?_
      refine hK46 _ _ ?_
      refine wp_ret ?_
      refine hr13 _ _ ?_
      refine hret _ _ ?_
      refine ends_still (v := Value.int .i64 4) (by kernel_rfl) (by kernel_rfl) ?_
      have HS66 := HS6.drop
      injection h with h
      subst h
      exact ⟨f, rfl, FM.le.refl _, HS66⟩
    · have c44 : ¬ ((mn b1.Lo b1.Hi) < (-1152921504606846976)) := c44
      refine seqRwI 22 (x := (decide ((mn b1.Lo b1.Hi) < (-1152921504606846976)))) (v := false) (by kernel_rfl) (decide_eq_false c44) ?_
      refine seqRwI 23 (x := (decide ((mn b1.Lo b1.Hi) < (-1152921504606846976)))) (v := false) (by kernel_rfl) (decide_eq_false c44) ?_
      refine seqL1 (by kernel_rfl) ?_
      refine seqG (by kernel_rfl) (does_run (run_load rfl Try.underlying61 rfl (by kernel_rfl : _ = Value.pointer (some ⟨b4, 0, none⟩)) (HS6.cell 0)) ?_)
      refine seqL1 (by kernel_rfl) ?_
      refine seqG (by kernel_rfl) (does_run (run_load rfl Try.underlying61 rfl (by kernel_rfl : _ = Value.pointer (some ⟨b4, 1, none⟩)) (HS6.cell 1)) ?_)
      refine seqS4 (a' := ⟨#[(ag_Bound b1), .pointer (some ⟨b4, 0, none⟩), iV 0, .bool false, .pointer (some ⟨b4, 2, none⟩), .bool false, .bool false, uV, uV, uV, uV, uV, uV, uV, uV, .bool false, .bool (decide ((mx b1.Lo b1.Hi) > 1152921504606846976)), .pointer (some ⟨b4, 0, none⟩), iV b1.Lo, .pointer (some ⟨b4, 1, none⟩), iV b1.Hi, iV (mn b1.Lo b1.Hi), .bool false, .bool false, .pointer (some ⟨b4, 0, none⟩), iV b1.Lo, .pointer (some ⟨b4, 1, none⟩), iV b1.Hi, iV (mx b1.Lo b1.Hi), .bool (decide ((mx b1.Lo b1.Hi) > 1152921504606846976)), .bool (decide ((mx b1.Lo b1.Hi) > 1152921504606846976)), uV, uV, uV, uV, uV, uV], []⟩) (by kernel_rfl) ?_
      refine wpList_nil ?_
      refine hK43 _ _ ?_
      have hq_ := ite_some h; clear h; rcases hq_ with ⟨c48, h⟩ | ⟨c48, h⟩
      · have c48 : (mx b1.Lo b1.Hi) > 1152921504606846976 := c48
        refine wpRwI 16 (x := (decide ((mx b1.Lo b1.Hi) > 1152921504606846976))) (v := true) (by kernel_rfl) (decide_eq_true c48) ?_
        refine wpRwI 29 (x := (decide ((mx b1.Lo b1.Hi) > 1152921504606846976))) (v := true) (by kernel_rfl) (decide_eq_true c48) ?_
        refine wpRwI 30 (x := (decide ((mx b1.Lo b1.Hi) > 1152921504606846976))) (v := true) (by kernel_rfl) (decide_eq_true c48) ?_
        refine condT (by kernel_rfl) ?_
        refine wp_seq_k (fun K49 hK50 => ?_)
        refine wp_region_lit ?_
        refine seqS1 (a' := ⟨#[(ag_Bound b1), .pointer (some ⟨b4, 0, none⟩), iV 4, .bool false, .pointer (some ⟨b4, 2, none⟩), .bool false, .bool false, uV, uV, uV, uV, uV, uV, uV, uV, .bool false, .bool true, .pointer (some ⟨b4, 0, none⟩), iV b1.Lo, .pointer (some ⟨b4, 1, none⟩), iV b1.Hi, iV (mn b1.Lo b1.Hi), .bool false, .bool false, .pointer (some ⟨b4, 0, none⟩), iV b1.Lo, .pointer (some ⟨b4, 1, none⟩), iV b1.Hi, iV (mx b1.Lo b1.Hi), .bool true, .bool true, uV, uV, uV, uV, uV, uV], []⟩) (by kernel_rfl) ?_
        refine wpList_nil ?_
        refine hK50 _ _ ?_
        refine wp_ret ?_
        refine hr13 _ _ ?_
        refine hret _ _ ?_
        refine ends_still (v := Value.int .i64 4) (by kernel_rfl) (by kernel_rfl) ?_
        have HS67 := HS6.drop
        injection h with h
        subst h
        exact ⟨f, rfl, FM.le.refl _, HS67⟩
      · have c48 : ¬ ((mx b1.Lo b1.Hi) > 1152921504606846976) := c48
        refine wpRwI 16 (x := (decide ((mx b1.Lo b1.Hi) > 1152921504606846976))) (v := false) (by kernel_rfl) (decide_eq_false c48) ?_
        refine wpRwI 29 (x := (decide ((mx b1.Lo b1.Hi) > 1152921504606846976))) (v := false) (by kernel_rfl) (decide_eq_false c48) ?_
        refine wpRwI 30 (x := (decide ((mx b1.Lo b1.Hi) > 1152921504606846976))) (v := false) (by kernel_rfl) (decide_eq_false c48) ?_
        refine condF (by kernel_rfl) ?_
        refine wp_seq_k (fun K51 hK52 => ?_)
        refine wp_region_lit ?_
        refine seqL1 (by kernel_rfl) ?_
        refine seqK rfl (does_run (run_load rfl Try.underlying61 rfl (by kernel_rfl : _ = Value.pointer (some ⟨b4, 0, none⟩)) (HS6.cell 0)) ?_)
        refine seqL1 (by kernel_rfl) ?_
        refine seqK rfl (does_run (run_load rfl Try.underlying61 rfl (by kernel_rfl : _ = Value.pointer (some ⟨b4, 1, none⟩)) (HS6.cell 1)) ?_)
        refine seqS2 (a' := ⟨#[(ag_Bound b1), .pointer (some ⟨b4, 0, none⟩), iV 0, .bool false, .pointer (some ⟨b4, 2, none⟩), .bool false, .bool false, uV, uV, uV, uV, uV, uV, uV, uV, .bool false, .bool false, .pointer (some ⟨b4, 0, none⟩), iV b1.Lo, .pointer (some ⟨b4, 1, none⟩), iV b1.Hi, iV (mn b1.Lo b1.Hi), .bool false, .bool false, .pointer (some ⟨b4, 0, none⟩), iV b1.Lo, .pointer (some ⟨b4, 1, none⟩), iV b1.Hi, iV (mx b1.Lo b1.Hi), .bool false, .bool false, .bool (decide (b1.Lo > b1.Hi)), .pointer (some ⟨b4, 0, none⟩), iV b1.Lo, .pointer (some ⟨b4, 1, none⟩), iV b1.Hi, .bool (decide (b1.Lo > b1.Hi))], []⟩) (by kernel_rfl) ?_
        refine wpList_nil ?_
        refine hK52 _ _ ?_
        have hq_ := ite_some h; clear h; rcases hq_ with ⟨c54, h⟩ | ⟨c54, h⟩
        · have c54 : b1.Lo > b1.Hi := c54
          refine wpRwI 31 (x := (decide (b1.Lo > b1.Hi))) (v := true) (by kernel_rfl) (decide_eq_true c54) ?_
          refine wpRwI 36 (x := (decide (b1.Lo > b1.Hi))) (v := true) (by kernel_rfl) (decide_eq_true c54) ?_
          refine condT (by kernel_rfl) ?_
          refine wp_seq_k (fun K55 hK56 => ?_)
          refine wp_region_lit ?_
          refine seqS1 (a' := ⟨#[(ag_Bound b1), .pointer (some ⟨b4, 0, none⟩), iV 11, .bool false, .pointer (some ⟨b4, 2, none⟩), .bool false, .bool false, uV, uV, uV, uV, uV, uV, uV, uV, .bool false, .bool false, .pointer (some ⟨b4, 0, none⟩), iV b1.Lo, .pointer (some ⟨b4, 1, none⟩), iV b1.Hi, iV (mn b1.Lo b1.Hi), .bool false, .bool false, .pointer (some ⟨b4, 0, none⟩), iV b1.Lo, .pointer (some ⟨b4, 1, none⟩), iV b1.Hi, iV (mx b1.Lo b1.Hi), .bool false, .bool false, .bool true, .pointer (some ⟨b4, 0, none⟩), iV b1.Lo, .pointer (some ⟨b4, 1, none⟩), iV b1.Hi, .bool true], []⟩) (by kernel_rfl) ?_
          refine wpList_nil ?_
          refine hK56 _ _ ?_
          refine wp_ret ?_
          refine hr13 _ _ ?_
          refine hret _ _ ?_
          refine ends_still (v := Value.int .i64 11) (by kernel_rfl) (by kernel_rfl) ?_
          have HS68 := HS6.drop
          injection h with h
          subst h
          exact ⟨f, rfl, FM.le.refl _, HS68⟩
        · have c54 : ¬ (b1.Lo > b1.Hi) := c54
          refine wpRwI 31 (x := (decide (b1.Lo > b1.Hi))) (v := false) (by kernel_rfl) (decide_eq_false c54) ?_
          refine wpRwI 36 (x := (decide (b1.Lo > b1.Hi))) (v := false) (by kernel_rfl) (decide_eq_false c54) ?_
          refine condF (by kernel_rfl) ?_
          refine wp_skip ?_
          refine hn12 _ _ ?_
          refine hK9 _ _ ?_
          refine wp_seq_k (fun K59 hK60 => ?_)
          refine wp_region_lit ?_
          refine seqS1 (a' := ⟨#[(ag_Bound b1), .pointer (some ⟨b4, 0, none⟩), iV 0, .bool false, .pointer (some ⟨b4, 2, none⟩), .bool false, .bool false, uV, uV, uV, uV, uV, uV, uV, uV, .bool false, .bool false, .pointer (some ⟨b4, 0, none⟩), iV b1.Lo, .pointer (some ⟨b4, 1, none⟩), iV b1.Hi, iV (mn b1.Lo b1.Hi), .bool false, .bool false, .pointer (some ⟨b4, 0, none⟩), iV b1.Lo, .pointer (some ⟨b4, 1, none⟩), iV b1.Hi, iV (mx b1.Lo b1.Hi), .bool false, .bool false, .bool false, .pointer (some ⟨b4, 0, none⟩), iV b1.Lo, .pointer (some ⟨b4, 1, none⟩), iV b1.Hi, .bool false], []⟩) (by kernel_rfl) ?_
          refine wpList_nil ?_
          refine hK60 _ _ ?_
          refine wp_ret ?_
          refine hret _ _ ?_
          refine ends_still (v := Value.int .i64 0) (by kernel_rfl) (by kernel_rfl) ?_
          have HS70 := HS6.drop
          injection h with h
          subst h
          exact ⟨f, rfl, FM.le.refl _, HS70⟩

set_option maxRecDepth 100000 in
set_option maxHeartbeats 4000000 in
theorem catalog_ends_Tick.calls (k : Nat)  (b1 : S_Bound) (most2 : Int) {t w : World} {f : FM} {H : List Seg} (HS : St t w f (H)) (rr1 : Int) (h : catalog_ends_Tick k b1 most2 = some rr1) :
    Calls Try.prog 56 #[.agg #[.int .i64 b1.Lo, .int .i64 b1.Hi, .bool b1.Unknown], .int .i64 most2] w (fun e w' => ∃ (g : FM), e = .returned (Value.int .i64 rr1) ∧ FM.le f g ∧ St t w' g (H)) := by
  unfold catalog_ends_Tick at h
  refine enter Try.func56 rfl (tm := #[(ag_Bound b1), iV most2, uV, uV, uV, uV, uV, uV, uV, uV, uV, uV, uV, uV, uV, uV, uV, uV, uV, uV, uV, uV]) (by kernel_rfl) ?_
  intro B hret hnor hnp
  refine wp_seq_k (fun K3 hK4 => ?_)
  refine wp_region_lit ?_
  refine seqK rfl (does_box (cs := #[.int .i64 b1.Lo, .int .i64 b1.Hi, .bool b1.Unknown]) rfl (by kernel_rfl : _ = Value.agg #[.int .i64 b1.Lo, .int .i64 b1.Hi, .bool b1.Unknown]) rfl HS ?_)
  intro b5 W6 HS7
  refine seqS1 (a' := ⟨#[(ag_Bound b1), iV most2, .pointer (some ⟨b5, 0, none⟩), uV, iV 0, uV, uV, uV, uV, uV, uV, uV, uV, uV, uV, uV, uV, uV, uV, uV, uV, uV], []⟩) (by kernel_rfl) ?_
  refine wpList_nil ?_
  refine hK4 _ _ ?_
  refine wp_seq_k (fun K9 hK10 => ?_)
  refine wp_seq_k (fun K11 hK12 => ?_)
  refine wp_region_lit ?_
  refine seqK rfl (does_run (run_loadN (n := 3) rfl Try.underlying63 rfl (by kernel_rfl) (by kernel_rfl : _ = Value.pointer (some ⟨b5, 0, none⟩)) (cs := [.int .i64 b1.Lo, .int .i64 b1.Hi, .bool b1.Unknown]) rfl (HS7.cells 0 3 _ rfl)) ?_)
  have hq_ := bind_some h; clear h; obtain ⟨vt13, hc14, h⟩ := hq_
  refine seqK rfl (does_call (f := 62) (args := #[.agg #[.int .i64 b1.Lo, .int .i64 b1.Hi, .bool b1.Unknown]]) (by kernel_rfl) (bound_Check_Tick.calls k b1 HS7 vt13 hc14) ?_)
  rintro _ W17 ⟨f15, rfl, L16, HS18⟩
  refine ⟨_, rfl, ?_⟩
  refine seqS1 (a' := ⟨#[(ag_Bound b1), iV most2, .pointer (some ⟨b5, 0, none⟩), uV, iV 0, iV vt13, (ag_Bound b1), iV vt13, uV, uV, uV, uV, uV, uV, uV, uV, uV, uV, uV, uV, uV, uV], []⟩) (by kernel_rfl) ?_
  refine wpList_nil ?_
  refine hK12 _ _ ?_
  refine wp_seq_k (fun K19 hK20 => ?_)
  refine wp_region_lit ?_
  refine seqS2 (a' := ⟨#[(ag_Bound b1), iV most2, .pointer (some ⟨b5, 0, none⟩), uV, iV 0, iV vt13, (ag_Bound b1), iV vt13, iV vt13, .bool (vt13 != 0), uV, uV, uV, uV, uV, uV, uV, uV, uV, uV, uV, uV], []⟩) (by kernel_rfl) ?_
  refine wpList_nil ?_
  refine hK20 _ _ ?_
  have hq_ := ite_some h; clear h; rcases hq_ with ⟨c22, h⟩ | ⟨c22, h⟩
  · have c22 : vt13 ≠ 0 := c22
    refine wpRwI 9 (x := (vt13 != 0)) (v := true) (by kernel_rfl) (bne_iff_ne.mpr c22) ?_
    refine condT (by kernel_rfl) ?_
    refine wp_seq_k (fun K23 hK24 => ?_)
    refine wp_region_lit ?_
    refine seqS2 (a' := ⟨#[(ag_Bound b1), iV most2, .pointer (some ⟨b5, 0, none⟩), uV, iV vt13, iV vt13, (ag_Bound b1), iV vt13, iV vt13, .bool true, iV vt13, uV, uV, uV, uV, uV, uV, uV, uV, uV, uV, uV], []⟩) (by kernel_rfl) ?_
    refine wpList_nil ?_
    refine hK24 _ _ ?_
    refine wp_ret ?_
    refine hret _ _ ?_
    refine ends_still (v := Value.int .i64 vt13) (by kernel_rfl) (by kernel_rfl) ?_
    have HS38 := HS18.drop
    injection h with h
    subst h
    exact ⟨f15, rfl, L16, HS38⟩
  · have c22 : ¬ (vt13 ≠ 0) := c22
    refine wpRwI 9 (x := (vt13 != 0)) (v := false) (by kernel_rfl) (bne_eq_false_iff_eq.mpr (Decidable.of_not_not c22)) ?_
    refine condF (by kernel_rfl) ?_
    refine wp_skip ?_
    refine hK10 _ _ ?_
    refine wp_seq_k (fun K25 hK26 => ?_)
    refine wp_seq_k (fun K27 hK28 => ?_)
    refine wp_region_lit ?_
    refine seqL1 (by kernel_rfl) ?_
    refine seqK rfl (does_run (run_load rfl Try.underlying61 rfl (by kernel_rfl : _ = Value.pointer (some ⟨b5, 0, none⟩)) (HS18.cell 0)) ?_)
    refine seqS4 (a' := ⟨#[(ag_Bound b1), iV most2, .pointer (some ⟨b5, 0, none⟩), uV, iV 0, iV vt13, (ag_Bound b1), iV vt13, iV vt13, .bool false, uV, .pointer (some ⟨b5, 0, none⟩), iV b1.Lo, iV most2, iV (w64 (0 - most2)), .bool (decide (b1.Lo < (w64 (0 - most2)))), .bool (decide (b1.Lo < (w64 (0 - most2)))), uV, uV, uV, uV, uV], []⟩) (by kernel_rfl) ?_
    have hq_ := ite_some h; clear h; rcases hq_ with ⟨c29, h⟩ | ⟨c29, h⟩
    · have c29 : b1.Lo < (w64 (0 - most2)) := c29
      refine seqRwI 15 (x := (decide (b1.Lo < (w64 (0 - most2))))) (v := true) (by kernel_rfl) (decide_eq_true c29) ?_
      refine seqRwI 16 (x := (decide (b1.Lo < (w64 (0 - most2))))) (v := true) (by kernel_rfl) (decide_eq_true c29) ?_
      refine seqS5 (a' := ⟨#[(ag_Bound b1), iV most2, .pointer (some ⟨b5, 0, none⟩), uV, iV 0, iV vt13, (ag_Bound b1), iV vt13, iV vt13, .bool false, uV, .pointer (some ⟨b5, 0, none⟩), iV b1.Lo, iV most2, iV (w64 (0 - most2)), .bool true, .bool true, uV, uV, uV, uV, .bool true], []⟩) (by kernel_rfl) ?_
      refine wpList_nil ?_
      refine hK28 _ _ ?_
      refine condT (by kernel_rfl) ?_
      refine wp_seq_k (fun K30 hK31 => ?_)
      refine wp_region_lit ?_
      refine seqS1 (a' := ⟨#[(ag_Bound b1), iV most2, .pointer (some ⟨b5, 0, none⟩), uV, iV 4, iV vt13, (ag_Bound b1), iV vt13, iV vt13, .bool false, uV, .pointer (some ⟨b5, 0, none⟩), iV b1.Lo, iV most2, iV (w64 (0 - most2)), .bool true, .bool true, uV, uV, uV, uV, .bool true], []⟩) (by kernel_rfl) ?_
      refine wpList_nil ?_
      refine hK31 _ _ ?_
      refine wp_ret ?_
      refine hret _ _ ?_
      refine ends_still (v := Value.int .i64 4) (by kernel_rfl) (by kernel_rfl) ?_
      have HS39 := HS18.drop
      injection h with h
      subst h
      exact ⟨f15, rfl, L16, HS39⟩
    · have c29 : ¬ (b1.Lo < (w64 (0 - most2))) := c29
      refine seqRwI 15 (x := (decide (b1.Lo < (w64 (0 - most2))))) (v := false) (by kernel_rfl) (decide_eq_false c29) ?_
      refine seqRwI 16 (x := (decide (b1.Lo < (w64 (0 - most2))))) (v := false) (by kernel_rfl) (decide_eq_false c29) ?_
      refine seqL1 (by kernel_rfl) ?_
      refine seqG (by kernel_rfl) (does_run (run_load rfl Try.underlying61 rfl (by kernel_rfl : _ = Value.pointer (some ⟨b5, 1, none⟩)) (HS18.cell 1)) ?_)
      refine seqS3 (a' := ⟨#[(ag_Bound b1), iV most2, .pointer (some ⟨b5, 0, none⟩), uV, iV 0, iV vt13, (ag_Bound b1), iV vt13, iV vt13, .bool false, uV, .pointer (some ⟨b5, 0, none⟩), iV b1.Lo, iV most2, iV (w64 (0 - most2)), .bool false, .bool false, .pointer (some ⟨b5, 1, none⟩), iV b1.Hi, iV most2, .bool (decide (b1.Hi > most2)), .bool (decide (b1.Hi > most2))], []⟩) (by kernel_rfl) ?_
      refine wpList_nil ?_
      refine hK28 _ _ ?_
      have hq_ := ite_some h; clear h; rcases hq_ with ⟨c33, h⟩ | ⟨c33, h⟩
      · have c33 : b1.Hi > most2 := c33
        refine wpRwI 20 (x := (decide (b1.Hi > most2))) (v := true) (by kernel_rfl) (decide_eq_true c33) ?_
        refine wpRwI 21 (x := (decide (b1.Hi > most2))) (v := true) (by kernel_rfl) (decide_eq_true c33) ?_
        refine condT (by kernel_rfl) ?_
        refine wp_seq_k (fun K34 hK35 => ?_)
        refine wp_region_lit ?_
        refine seqS1 (a' := ⟨#[(ag_Bound b1), iV most2, .pointer (some ⟨b5, 0, none⟩), uV, iV 4, iV vt13, (ag_Bound b1), iV vt13, iV vt13, .bool false, uV, .pointer (some ⟨b5, 0, none⟩), iV b1.Lo, iV most2, iV (w64 (0 - most2)), .bool false, .bool false, .pointer (some ⟨b5, 1, none⟩), iV b1.Hi, iV most2, .bool true, .bool true], []⟩) (by kernel_rfl) ?_
        refine wpList_nil ?_
        refine hK35 _ _ ?_
        refine wp_ret ?_
        refine hret _ _ ?_
        refine ends_still (v := Value.int .i64 4) (by kernel_rfl) (by kernel_rfl) ?_
        have HS40 := HS18.drop
        injection h with h
        subst h
        exact ⟨f15, rfl, L16, HS40⟩
      · have c33 : ¬ (b1.Hi > most2) := c33
        refine wpRwI 20 (x := (decide (b1.Hi > most2))) (v := false) (by kernel_rfl) (decide_eq_false c33) ?_
        refine wpRwI 21 (x := (decide (b1.Hi > most2))) (v := false) (by kernel_rfl) (decide_eq_false c33) ?_
        refine condF (by kernel_rfl) ?_
        refine wp_skip ?_
        refine hK26 _ _ ?_
        refine wp_seq_k (fun K36 hK37 => ?_)
        refine wp_region_lit ?_
        refine seqS1 (a' := ⟨#[(ag_Bound b1), iV most2, .pointer (some ⟨b5, 0, none⟩), uV, iV 0, iV vt13, (ag_Bound b1), iV vt13, iV vt13, .bool false, uV, .pointer (some ⟨b5, 0, none⟩), iV b1.Lo, iV most2, iV (w64 (0 - most2)), .bool false, .bool false, .pointer (some ⟨b5, 1, none⟩), iV b1.Hi, iV most2, .bool false, .bool false], []⟩) (by kernel_rfl) ?_
        refine wpList_nil ?_
        refine hK37 _ _ ?_
        refine wp_ret ?_
        refine hret _ _ ?_
        refine ends_still (v := Value.int .i64 0) (by kernel_rfl) (by kernel_rfl) ?_
        have HS41 := HS18.drop
        injection h with h
        subst h
        exact ⟨f15, rfl, L16, HS41⟩

set_option maxRecDepth 100000 in
set_option maxHeartbeats 4000000 in
theorem cmp_Or_Errno.calls (k : Nat) (A2 : Option Addr) (c3 : Nat) (vals1 : List Int) {t w : World} {f : FM} {H : List Seg} (HS : St t w f (H)) (HR4 : SlR (tInt .i64) f A2 c3 vals1) (rr1 : Int) (h : cmp_Or_Errno k vals1 = some rr1) :
    Calls Try.prog 25 #[.slice A2 vals1.length c3] w (fun e w' => ∃ (g : FM), e = .returned (Value.int .i64 rr1) ∧ FM.le f g ∧ St t w' g (H)) := by
  unfold cmp_Or_Errno at h
  refine enter Try.func25 rfl (tm := #[.slice A2 vals1.length c3, uV, uV, uV, uV, uV, uV, uV, uV, uV, uV, uV, uV, uV, uV, uV, uV, uV]) (by kernel_rfl) ?_
  intro B hret hnor hnp
  refine wp_seq_k (fun K5 hK6 => ?_)
  refine wp_region_lit ?_
  refine seqS1 (a' := ⟨#[.slice A2 vals1.length c3, uV, iV 0, uV, uV, uV, uV, uV, uV, uV, uV, uV, uV, uV, uV, uV, uV, uV], []⟩) (by kernel_rfl) ?_
  refine wpList_nil ?_
  refine hK6 _ _ ?_
  refine wp_seq_k (fun K7 hK8 => ?_)
  refine wp_region_lit ?_
  refine seqS1 (a' := ⟨#[.slice A2 vals1.length c3, uV, iV 0, iV 0, uV, uV, uV, uV, uV, uV, uV, uV, uV, uV, uV, uV, uV, uV], []⟩) (by kernel_rfl) ?_
  refine wpList_nil ?_
  refine hK8 _ _ ?_
  refine wp_seq_k (fun K9 hK10 => ?_)
  refine wp_seq_k (fun K11 hK12 => ?_)
  refine wp_region_lit ?_
  refine seqS3 (a' := ⟨#[.slice A2 vals1.length c3, uV, iV 0, iV 0, uV, uV, .slice A2 vals1.length c3, iV (vals1.length : Int), iV 0, uV, uV, uV, uV, uV, uV, uV, uV, uV], []⟩) (by kernel_rfl) ?_
  refine wpList_nil ?_
  refine hK12 _ _ ?_
  refine blockK (fun B13 hx14 hn15 hr16 ho17 hp18 => ?_)
  have hq_ := bind_some h; clear h; obtain ⟨o19, hv64, h⟩ := hq_
  have JR66 : ∀ z_, some (Sum.inl z_) = some o19 → some z_ = some rr1 := by
    intro z_ e_; injection e_ with e_; subst e_; exact h
  have J65 : ∀ (f59 : FM) (j63 : Nat → Value) (W61 : World) (a_ : Act), FM.le f f59 → some (Sum.inr ()) = some o19 → St t W61 f59 (H) → a_ = ⟨#[.slice A2 vals1.length c3, uV, (j63 0), iV 0, uV, (j63 1), .slice A2 vals1.length c3, iV (vals1.length : Int), (j63 2), (j63 3), (j63 4), (j63 5), (j63 6), (j63 7), (j63 8), (j63 9), (j63 10), uV], []⟩ → K9 a_ W61 := by
    intro f59 j63 W61 a_ L60 hj67 HS62  hfr_; subst hfr_
    injection hj67 with hj67; subst hj67; try dsimp only at h
    simp only [Sum.elim_inr] at h
    refine hK10 _ _ ?_
    refine wp_seq_k (fun K68 hK69 => ?_)
    refine wp_region_lit ?_
    refine seqS2 (a' := ⟨#[.slice A2 vals1.length c3, uV, iV 0, iV 0, uV, (j63 1), .slice A2 vals1.length c3, iV (vals1.length : Int), (j63 2), (j63 3), (j63 4), (j63 5), (j63 6), (j63 7), (j63 8), (j63 9), (j63 10), iV 0], []⟩) (by kernel_rfl) ?_
    refine wpList_nil ?_
    refine hK69 _ _ ?_
    refine wp_ret ?_
    refine hret _ _ ?_
    refine ends_still (v := Value.int .i64 0) (by kernel_rfl) (by kernel_rfl) ?_
    injection h with h
    subst h
    exact ⟨f59, rfl, L60, HS62⟩
  clear h; have h := hv64; clear hv64
  refine loopK (fun n_ a_ w_ => ∃ (f23 : FM) (x28 : Int) (j27 : Nat → Value), FM.le f f23 ∧ St t w_ f23 (H) ∧ cmp_Or_Errno.l0 k vals1 n_ x28 = some o19 ∧ a_ = ⟨#[.slice A2 vals1.length c3, uV, (j27 0), iV 0, uV, (j27 1), .slice A2 vals1.length c3, iV (vals1.length : Int), iV x28, (j27 2), (j27 3), (j27 4), (j27 5), (j27 6), (j27 7), (j27 8), (j27 9), uV], []⟩) k ⟨f, 0, (fun i_ => [Value.int .i64 0, undef, undef, undef, undef, undef, undef, undef, undef, undef].getD i_ undef), (FM.le.refl _), HS, h, (by kernel_rfl)⟩ ?_
  clear h
  rintro n22 _ W25 ⟨f23, x28, j27, L24, HS26, h, rfl⟩ K20 hK21
  obtain _ | n22 := n22
  · exact nomatch h
  simp only [cmp_Or_Errno.l0] at h
  refine wp_seq_k (fun K29 hK30 => ?_)
  refine wp_region_lit ?_
  refine seqS1 (a' := ⟨#[.slice A2 vals1.length c3, uV, (j27 0), iV 0, uV, (j27 1), .slice A2 vals1.length c3, iV (vals1.length : Int), iV x28, .bool (decide (x28 < (vals1.length : Int))), (j27 3), (j27 4), (j27 5), (j27 6), (j27 7), (j27 8), (j27 9), uV], []⟩) (by kernel_rfl) ?_
  refine wpList_nil ?_
  refine hK30 _ _ ?_
  refine wp_seq_k (fun K31 hK32 => ?_)
  have hq_ := ite_some h; clear h; rcases hq_ with ⟨c34, h⟩ | ⟨c34, h⟩
  · have c34 : x28 < (vals1.length : Int) := c34
    refine wpRwI 9 (x := (decide (x28 < (vals1.length : Int)))) (v := true) (by kernel_rfl) (decide_eq_true c34) ?_
    refine condT (by kernel_rfl) ?_
    refine wp_skip ?_
    refine hK32 _ _ ?_
    refine wp_seq_k (fun K35 hK36 => ?_)
    refine blockK (fun B37 hx38 hn39 hr40 ho41 hp42 => ?_)
    refine wp_seq_k (fun K44 hK45 => ?_)
    refine wp_region_lit ?_
    have hq_ := guard_some h; clear h; obtain ⟨c46, h⟩ := hq_
    have c46 : 0 ≤ x28 := c46
    obtain ⟨b50, of51, cs47, hA52, hr48, hc49⟩ := (HR4.mono L24).at (i := x28) c46 c34
    obtain rfl := hr48
    refine seqK rfl (does_run (run_indexE hA52 (sz := 1) rfl Try.underlying102 (by kernel_rfl) (by kernel_rfl : _ = Value.slice A2 vals1.length c3) (by kernel_rfl : _ = Value.int .i64 x28) c46 c34 W25) ?_)
    refine seqK rfl (does_run (run_load rfl Try.underlying29 rfl (by kernel_rfl : _ = Value.pointer (some ⟨b50, of51 + (x28 : Int).toNat * 1, none⟩)) ((hc49 (FM.le.refl _) HS26) 0 (by decide))) ?_)
    refine seqS1 (a' := ⟨#[.slice A2 vals1.length c3, uV, (j27 0), iV 0, uV, iV (rd vals1 x28), .slice A2 vals1.length c3, iV (vals1.length : Int), iV x28, .bool true, .pointer (some ⟨b50, of51 + (x28 : Int).toNat * 1, none⟩), iV (rd vals1 x28), (j27 5), (j27 6), (j27 7), (j27 8), (j27 9), uV], []⟩) (by kernel_rfl) ?_
    refine wpList_nil ?_
    refine hK45 _ _ ?_
    refine wp_seq_k (fun K53 hK54 => ?_)
    refine wp_region_lit ?_
    refine seqS3 (a' := ⟨#[.slice A2 vals1.length c3, uV, (j27 0), iV 0, uV, iV (rd vals1 x28), .slice A2 vals1.length c3, iV (vals1.length : Int), iV x28, .bool true, .pointer (some ⟨b50, of51 + (x28 : Int).toNat * 1, none⟩), iV (rd vals1 x28), iV (rd vals1 x28), iV 0, .bool ((rd vals1 x28) != 0), (j27 8), (j27 9), uV], []⟩) (by kernel_rfl) ?_
    refine wpList_nil ?_
    refine hK54 _ _ ?_
    have hq_ := ite_some h; clear h; rcases hq_ with ⟨c56, h⟩ | ⟨c56, h⟩
    · have c56 : (rd vals1 x28) ≠ 0 := c56
      refine wpRwI 14 (x := ((rd vals1 x28) != 0)) (v := true) (by kernel_rfl) (bne_iff_ne.mpr c56) ?_
      refine condT (by kernel_rfl) ?_
      refine wp_seq_k (fun K57 hK58 => ?_)
      refine wp_region_lit ?_
      refine seqS2 (a' := ⟨#[.slice A2 vals1.length c3, uV, iV (rd vals1 x28), iV 0, uV, iV (rd vals1 x28), .slice A2 vals1.length c3, iV (vals1.length : Int), iV x28, .bool true, .pointer (some ⟨b50, of51 + (x28 : Int).toNat * 1, none⟩), iV (rd vals1 x28), iV (rd vals1 x28), iV 0, .bool true, iV (rd vals1 x28), (j27 9), uV], []⟩) (by kernel_rfl) ?_
      refine wpList_nil ?_
      refine hK58 _ _ ?_
      refine wp_ret ?_
      refine hr40 _ _ ?_
      refine hr16 _ _ ?_
      refine hret _ _ ?_
      refine ends_still (v := Value.int .i64 (rd vals1 x28)) (by kernel_rfl) (by kernel_rfl) ?_
      replace h := JR66 _ h
      injection h with h
      subst h
      exact ⟨f23, rfl, L24, HS26⟩
    · have c56 : ¬ ((rd vals1 x28) ≠ 0) := c56
      refine wpRwI 14 (x := ((rd vals1 x28) != 0)) (v := false) (by kernel_rfl) (bne_eq_false_iff_eq.mpr (Decidable.of_not_not c56)) ?_
      refine condF (by kernel_rfl) ?_
      refine wp_skip ?_
      refine hn39 _ _ ?_
      refine hK36 _ _ ?_
      refine wp_region_lit ?_
      refine seqS2 (a' := ⟨#[.slice A2 vals1.length c3, uV, (j27 0), iV 0, uV, iV (rd vals1 x28), .slice A2 vals1.length c3, iV (vals1.length : Int), iV (w64 (x28 + 1)), .bool true, .pointer (some ⟨b50, of51 + (x28 : Int).toNat * 1, none⟩), iV (rd vals1 x28), iV (rd vals1 x28), iV 0, .bool false, (j27 8), iV (w64 (x28 + 1)), uV], []⟩) (by kernel_rfl) ?_
      refine wpList_nil ?_
      refine hK21 n22 _ _ (Nat.lt_succ_self _) ?_
      exact ⟨f23, (w64 (x28 + 1)), (fun i_ => [(j27 0), Value.int .i64 (rd vals1 x28), Value.bool true, Value.pointer (some ⟨b50, of51 + (x28 : Int).toNat * 1, none⟩), Value.int .i64 (rd vals1 x28), Value.int .i64 (rd vals1 x28), Value.int .i64 0, Value.bool false, (j27 8), Value.int .i64 (w64 (x28 + 1))].getD i_ undef), L24, HS26, h, (by kernel_rfl)⟩
  · have c34 : ¬ (x28 < (vals1.length : Int)) := c34
    refine wpRwI 9 (x := (decide (x28 < (vals1.length : Int)))) (v := false) (by kernel_rfl) (decide_eq_false c34) ?_
    refine condF (by kernel_rfl) ?_
    refine wp_exit ?_
    refine hx14 _ _ ?_
    exact J65 f23 (fun i_ => [(j27 0), (j27 1), Value.int .i64 x28, Value.bool false, (j27 3), (j27 4), (j27 5), (j27 6), (j27 7), (j27 8), (j27 9)].getD i_ undef) W25 _ L24 h HS26 (by kernel_rfl)

end Go.Sp.D3
