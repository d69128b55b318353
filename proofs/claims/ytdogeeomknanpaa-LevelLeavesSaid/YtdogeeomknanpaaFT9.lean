import Derived.Lib.SlicesCompact
import Derived.Test.YtdogeeomknanpaaSpCopy
namespace Go.Sp.T9
open Go Go.Sp
set_option linter.unusedVariables false
structure S_Stream where
  L : List Int
  vat : Int
instance : Inhabited S_Stream := ⟨⟨default, default⟩⟩
structure S_Bound where
  Lo : Int
  Hi : Int
  Unknown : Bool
instance : Inhabited S_Bound := ⟨⟨default, default, default⟩⟩
structure S_Cells where
  W : Int
  H : Int
  At : List S_Bound
instance : Inhabited S_Cells := ⟨⟨default, default, default⟩⟩
def spymake_Below (k : Nat) (x1 : Int) (n2 : Int) : Option (Int) :=
  if n2 < 1 then (some 0) else (if ¬ (n2 = 0) then (if (Int.tmod x1 n2) < 0 then (some (w64 ((Int.tmod x1 n2) + n2))) else (some (Int.tmod x1 n2))) else none)
def spymake_Stream_Next (k : Nat) (s3 : S_Stream) (n7 : Int) : Option (Int × Int) :=
  if (s3.L.length : Int) = 0 then ((spymake_Below k (w64 ((w64 (s3.vat + 1)) * 7919)) n7).bind fun vt22 => (some (vt22, w64 (s3.vat + 1)))) else (if ¬ ((s3.L.length : Int) = 0) then (if 0 ≤ (Int.tmod (w64 ((w64 (s3.vat + 1)) - 1)) (s3.L.length : Int)) then (if (Int.tmod (w64 ((w64 (s3.vat + 1)) - 1)) (s3.L.length : Int)) < (s3.L.length : Int) then ((spymake_Below k (rd s3.L (Int.tmod (w64 ((w64 (s3.vat + 1)) - 1)) (s3.L.length : Int))) 1073741824).bind fun vt47 => ((spymake_Below k (w64 (vt47 + (w64 ((w64 (Int.tdiv (w64 ((w64 (s3.vat + 1)) - 1)) (s3.L.length : Int))) * (w64 (7919 + (Int.tmod (w64 ((w64 (s3.vat + 1)) - 1)) (s3.L.length : Int)))))))) n7).bind fun vt53 => (some (vt53, w64 (s3.vat + 1))))) else none) else none) else none)
def spymake_Stream_Range (k : Nat) (s3 : S_Stream) (low7 : Int) (high8 : Int) : Option (Int × Int) :=
  if high8 < low7 then (some (low7, s3.vat)) else ((spymake_Stream_Next k s3 (w64 ((w64 (high8 - low7)) + 1))).bind fun (vt21, vt22) => (some (w64 (low7 + vt21), vt22)))
def spymake_Stream_Field.l0 (k : Nat) (vw7 : Int) (vh8 : Int) (s3 : S_Stream) (vt26 : Int) (vt33 : Int) : Nat → Int → Int → (List S_Bound) → Option (Int × (List S_Bound))
  | 0, _, _, _ => none
  | n_ + 1, x195, x196, x197 =>
    if x195 < (w64 (vw7 * vh8)) then ((spymake_Stream_Next k (⟨s3.L, x196⟩ : S_Stream) 5).bind fun (vt225, vt226) => (((if vt225 = 0 then ((spymake_Stream_Next k (⟨s3.L, vt226⟩ : S_Stream) 2000).bind fun (vt234, vt235) => (some ((w64 (vt26 + vt234)), vt235))) else (some (vt26, vt226)) : Option (Int × Int))).bind fun (light246, x247) => ((spymake_Stream_Next k (⟨s3.L, x247⟩ : S_Stream) (w64 (vt33 + 1))).bind fun (vt253, vt254) => ((spymake_Stream_Next k (⟨s3.L, vt254⟩ : S_Stream) (w64 (vt33 + 1))).bind fun (vt260, vt261) => ((spymake_Stream_Next k (⟨s3.L, vt261⟩ : S_Stream) 15).bind fun (vt278, vt279) => (if vt278 = 0 then (if (x197.length + 1) * 24 ≤ 140737488355328 then (spymake_Stream_Field.l0 k vw7 vh8 s3 vt26 vt33 n_ (w64 (x195 + 1)) vt279 (x197 ++ ([(⟨0, 0, true⟩ : S_Bound)] : List S_Bound))) else none) else (if (x197.length + 1) * 24 ≤ 140737488355328 then (spymake_Stream_Field.l0 k vw7 vh8 s3 vt26 vt33 n_ (w64 (x195 + 1)) vt279 (x197 ++ ([(⟨w64 (light246 - vt253), w64 (light246 + vt260), false⟩ : S_Bound)] : List S_Bound))) else none))))))) else (some (x196, x197))
def spymake_Stream_Field (k : Nat) (s3 : S_Stream) (vw7 : Int) (vh8 : Int) : Option (S_Cells × Int) :=
  (spymake_Stream_Next k s3 200).bind fun (vt26, vt27) => ((spymake_Stream_Range k (⟨s3.L, vt27⟩ : S_Stream) 0 30).bind fun (vt33, vt34) => ((spymake_Stream_Field.l0 k vw7 vh8 s3 vt26 vt33 k 0 vt34 ([] : List S_Bound)).bind fun (x331, x332) => (some ((⟨vw7, vh8, x332⟩ : S_Cells), x331))))
def bound_Check_Quanta (k : Nat) (b1 : S_Bound) : Option (Int) :=
  if b1.Unknown = true then (if b1.Lo ≠ 0 then (some 3) else (if b1.Hi ≠ 0 then (some 3) else (if (mn b1.Lo b1.Hi) < (-1152921504606846976) then (some 4) else (if (mx b1.Lo b1.Hi) > 1152921504606846976 then (some 4) else (if b1.Lo > b1.Hi then (some 11) else (some 0)))))) else (if (mn b1.Lo b1.Hi) < (-1152921504606846976) then (some 4) else (if (mx b1.Lo b1.Hi) > 1152921504606846976 then (some 4) else (if b1.Lo > b1.Hi then (some 11) else (some 0))))
def bound_None_Quanta (k : Nat) : Option (S_Bound) :=
  some (⟨0, 0, true⟩ : S_Bound)
def bound_Norm_Quanta (k : Nat) (b1 : S_Bound) : Option (S_Bound) :=
  (bound_Check_Quanta k b1).bind fun vt16 => (if vt16 ≠ 0 then ((bound_None_Quanta k).bind fun vt26 => (some vt26)) else (some b1))
def bound_Of_Quanta (k : Nat) (lo1 : Int) (hi2 : Int) : Option (S_Bound) :=
  (bound_Norm_Quanta k (⟨lo1, hi2, false⟩ : S_Bound)).bind fun vt11 => (some vt11)
def clean_Check.l0 (k : Nat) (c1 : S_Cells) : Nat → Int → Option (Sum Int Unit)
  | 0, _ => none
  | n_ + 1, x44 =>
    if x44 < (c1.At.length : Int) then (if 0 ≤ x44 then ((bound_Check_Quanta k (rd c1.At x44)).bind fun vt79 => (if vt79 ≠ 0 then (some (Sum.inl vt79)) else (if ((rd c1.At x44).Lo) < (-1099511627776) then (some (Sum.inl 4)) else (if ((rd c1.At x44).Hi) > 1099511627776 then (some (Sum.inl 4)) else (clean_Check.l0 k c1 n_ (w64 (x44 + 1))))))) else none) else (some (Sum.inr ()))
def clean_Check (k : Nat) (c1 : S_Cells) : Option (Int) :=
  if (mn c1.W c1.H) < 1 then (some 3) else (if (mx c1.W c1.H) > 32 then (some 3) else (if (c1.At.length : Int) ≠ (w64 (c1.W * c1.H)) then (some 3) else ((clean_Check.l0 k c1 k 0).bind fun z_ => Sum.elim (fun y_ => some y_) (fun _ => (some 0)) z_)))
def cmp_Or_Errno.l0 (k : Nat) (vals1 : List Int) : Nat → Int → Option (Sum Int Unit)
  | 0, _ => none
  | n_ + 1, x28 =>
    if x28 < (vals1.length : Int) then (if 0 ≤ x28 then (if (rd vals1 x28) ≠ 0 then (some (Sum.inl (rd vals1 x28))) else (cmp_Or_Errno.l0 k vals1 n_ (w64 (x28 + 1)))) else none) else (some (Sum.inr ()))
def cmp_Or_Errno (k : Nat) (vals1 : List Int) : Option (Int) :=
  (cmp_Or_Errno.l0 k vals1 k 0).bind fun z_ => Sum.elim (fun y_ => some y_) (fun _ => (some 0)) z_
def bound_Neg_Quanta (k : Nat) (b1 : S_Bound) : Option (S_Bound) :=
  (bound_Norm_Quanta k b1).bind fun vt14 => (some (⟨w64 (0 - vt14.Hi), w64 (0 - vt14.Lo), vt14.Unknown⟩ : S_Bound))
def bound_vague_Quanta (k : Nat) (a1 : S_Bound) (b2 : S_Bound) : Option (Bool) :=
  (bound_Norm_Quanta k a1).bind fun vt15 => (if vt15.Unknown = true then (some true) else ((bound_Norm_Quanta k b2).bind fun vt22 => (some vt22.Unknown)))
def bound_Add_Quanta (k : Nat) (a1 : S_Bound) (b2 : S_Bound) : Option (S_Bound) :=
  (bound_vague_Quanta k a1 b2).bind fun vt21 => (if vt21 = true then ((bound_None_Quanta k).bind fun vt31 => (some vt31)) else ((bound_Of_Quanta k (w64 (a1.Lo + b2.Lo)) (w64 (a1.Hi + b2.Hi))).bind fun vt41 => (some vt41)))
def bound_Sub_Quanta (k : Nat) (a1 : S_Bound) (b2 : S_Bound) : Option (S_Bound) :=
  (bound_Neg_Quanta k b2).bind fun vt24 => ((bound_Add_Quanta k a1 vt24).bind fun vt30 => (some vt30))
def bound_Exact_Quanta (k : Nat) (v1 : Int) : Option (S_Bound) :=
  (bound_Of_Quanta k v1 v1).bind fun vt10 => (some vt10)
def bound_Min_Quanta (k : Nat) (a1 : S_Bound) (b2 : S_Bound) : Option (S_Bound) :=
  (bound_vague_Quanta k a1 b2).bind fun vt21 => (if vt21 = true then ((bound_None_Quanta k).bind fun vt31 => (some vt31)) else ((bound_Of_Quanta k (mn a1.Lo b2.Lo) (mn a1.Hi b2.Hi)).bind fun vt41 => (some vt41)))
def bound_Max_Quanta (k : Nat) (a1 : S_Bound) (b2 : S_Bound) : Option (S_Bound) :=
  (bound_Neg_Quanta k a1).bind fun vt24 => ((bound_Neg_Quanta k b2).bind fun vt30 => ((bound_Min_Quanta k vt24 vt30).bind fun vt36 => ((bound_Neg_Quanta k vt36).bind fun vt42 => (some vt42))))
def level_Subtract.l0 (k : Nat) (c1 : S_Cells) (b5 : S_Bound) : Nat → Int → (List S_Bound) → Option ((List S_Bound))
  | 0, _, _ => none
  | n_ + 1, x275, x276 =>
    if x275 < (c1.At.length : Int) then (if 0 ≤ x275 then ((bound_Sub_Quanta k (rd c1.At x275) b5).bind fun vt314 => (((if vt314.Hi < 0 then ((bound_None_Quanta k).bind fun vt332 => (some (vt332.Lo, vt332.Hi, vt332.Unknown))) else (some (vt314.Lo, vt314.Hi, vt314.Unknown)) : Option (Int × Int × Bool))).bind fun (x345, x346, x347) => ((bound_Exact_Quanta k 0).bind fun vt360 => ((bound_Max_Quanta k (⟨x345, x346, x347⟩ : S_Bound) vt360).bind fun vt366 => (if (x276.length + 1) * 24 ≤ 140737488355328 then (level_Subtract.l0 k c1 b5 n_ (w64 (x275 + 1)) (x276 ++ ([vt366] : List S_Bound))) else none))))) else none) else (some x276)
def level_Subtract (k : Nat) (c1 : S_Cells) (b5 : S_Bound) : Option (S_Cells × Int) :=
  (clean_Check k c1).bind fun vt24 => (if vt24 ≠ 0 then (some ((⟨0, 0, ([] : List S_Bound)⟩ : S_Cells), vt24)) else ((bound_Check_Quanta k b5).bind fun vt42 => (if vt42 ≠ 0 then ((cmp_Or_Errno k ([vt42, 4] : List Int)).bind fun vt64 => (some ((⟨0, 0, ([] : List S_Bound)⟩ : S_Cells), vt64))) else (if b5.Lo < (-549755813888) then ((cmp_Or_Errno k ([vt42, 4] : List Int)).bind fun vt90 => (some ((⟨0, 0, ([] : List S_Bound)⟩ : S_Cells), vt90))) else (if b5.Hi > 549755813888 then ((cmp_Or_Errno k ([vt42, 4] : List Int)).bind fun vt117 => (some ((⟨0, 0, ([] : List S_Bound)⟩ : S_Cells), vt117))) else ((level_Subtract.l0 k c1 b5 k 0 ([] : List S_Bound)).bind fun x395 => (some ((⟨c1.W, c1.H, x395⟩ : S_Cells), 0))))))))
def cmp_isNaN_Quanta (k : Nat) (x1 : Int) : Option (Bool) :=
  some (x1 != x1)
def cmp_Compare_Quanta (k : Nat) (x1 : Int) (y2 : Int) : Option (Int) :=
  (cmp_isNaN_Quanta k x1).bind fun vt7 => ((cmp_isNaN_Quanta k y2).bind fun vt15 => (if vt7 = true then (if vt15 = true then (some 0) else (some (-1))) else (if vt15 = true then (some 1) else (if x1 < y2 then (some (-1)) else (if x1 > y2 then (some 1) else (some 0))))))
def level_known_1 (k : Nat) (v3 : S_Cells) (i7 : Int) (j8 : Int) : Option (Int) :=
  if 0 ≤ i7 then (if i7 < (v3.At.length : Int) then (if 0 ≤ j8 then (if j8 < (v3.At.length : Int) then ((cmp_Compare_Quanta k ((rd v3.At i7).Lo) ((rd v3.At j8).Lo)).bind fun vt31 => (some vt31)) else none) else none) else none) else none
def slices_insertionSortCmpFunc_int__level_known_1.l1 (k : Nat) (a13 : Int) (v3 : S_Cells) : Nat → (List Int) → Int → Option ((List Int))
  | 0, _, _ => none
  | n_ + 1, data323, j327 =>
    if j327 > a13 then (if 0 ≤ j327 then (if j327 < (data323.length : Int) then (if 0 ≤ (w64 (j327 - 1)) then (if (w64 (j327 - 1)) < (data323.length : Int) then ((level_known_1 k v3 (rd data323 j327) (rd data323 (w64 (j327 - 1)))).bind fun vt351 => (if vt351 < 0 then (if (w64 (j327 - 1)) < ((data323.set (j327).toNat (rd data323 (w64 (j327 - 1)))).length : Int) then (slices_insertionSortCmpFunc_int__level_known_1.l1 k a13 v3 n_ ((data323.set (j327).toNat (rd data323 (w64 (j327 - 1)))).set (w64 (j327 - 1)).toNat (rd data323 j327)) (w64 (j327 - 1))) else none) else (some data323))) else none) else none) else none) else none) else (some data323)
def slices_insertionSortCmpFunc_int__level_known_1.l0 (k : Nat) (b14 : Int) (a13 : Int) (v3 : S_Cells) : Nat → (List Int) → Int → Option ((List Int))
  | 0, _, _ => none
  | n_ + 1, data218, i222 =>
    if i222 < b14 then ((slices_insertionSortCmpFunc_int__level_known_1.l1 k a13 v3 k data218 i222).bind fun data391 => (slices_insertionSortCmpFunc_int__level_known_1.l0 k b14 a13 v3 n_ data391 (w64 (i222 + 1)))) else (some data218)
def slices_insertionSortCmpFunc_int__level_known_1 (k : Nat) (v3 : S_Cells) (data11 : List Int) (a13 : Int) (b14 : Int) : Option ((List Int)) :=
  (slices_insertionSortCmpFunc_int__level_known_1.l0 k b14 a13 v3 k data11 (w64 (a13 + 1))).bind fun data404 => (some data404)
def slices_swapRangeCmpFunc_int__level_known_1.l0 (k : Nat) (n15 : Int) (b14 : Int) (a13 : Int) : Nat → (List Int) → Int → Option ((List Int))
  | 0, _, _ => none
  | n_ + 1, data92, i96 =>
    if i96 < n15 then (if 0 ≤ (w64 (b14 + i96)) then (if (w64 (b14 + i96)) < (data92.length : Int) then (if 0 ≤ (w64 (a13 + i96)) then (if (w64 (a13 + i96)) < (data92.length : Int) then (if (w64 (b14 + i96)) < ((data92.set (w64 (a13 + i96)).toNat (rd data92 (w64 (b14 + i96)))).length : Int) then (slices_swapRangeCmpFunc_int__level_known_1.l0 k n15 b14 a13 n_ ((data92.set (w64 (a13 + i96)).toNat (rd data92 (w64 (b14 + i96)))).set (w64 (b14 + i96)).toNat (rd data92 (w64 (a13 + i96)))) (w64 (i96 + 1))) else none) else none) else none) else none) else none) else (some data92)
def slices_swapRangeCmpFunc_int__level_known_1 (k : Nat) (v3 : S_Cells) (data11 : List Int) (a13 : Int) (b14 : Int) (n15 : Int) : Option ((List Int)) :=
  (slices_swapRangeCmpFunc_int__level_known_1.l0 k n15 b14 a13 k data11 0).bind fun data151 => (some data151)
def slices_rotateCmpFunc_int__level_known_1.l0 (k : Nat) (v3 : S_Cells) (m14 : Int) : Nat → (List Int) → Int → Int → Option ((List Int) × Int)
  | 0, _, _, _ => none
  | n_ + 1, data91, i95, j96 =>
    if i95 ≠ j96 then (if i95 > j96 then ((slices_swapRangeCmpFunc_int__level_known_1 k v3 data91 (w64 (m14 - i95)) m14 j96).bind fun vt118 => (slices_rotateCmpFunc_int__level_known_1.l0 k v3 m14 n_ vt118 (w64 (i95 - j96)) j96)) else ((slices_swapRangeCmpFunc_int__level_known_1 k v3 data91 (w64 (m14 - i95)) (w64 ((w64 (m14 + j96)) - i95)) i95).bind fun vt131 => (slices_rotateCmpFunc_int__level_known_1.l0 k v3 m14 n_ vt131 i95 (w64 (j96 - i95))))) else (some (data91, i95))
def slices_rotateCmpFunc_int__level_known_1 (k : Nat) (v3 : S_Cells) (data11 : List Int) (a13 : Int) (m14 : Int) (b15 : Int) : Option ((List Int)) :=
  (slices_rotateCmpFunc_int__level_known_1.l0 k v3 m14 k data11 (w64 (m14 - a13)) (w64 (b15 - m14))).bind fun (data145, i149) => ((slices_swapRangeCmpFunc_int__level_known_1 k v3 data145 (w64 (m14 - i149)) m14 i149).bind fun vt155 => (some vt155))
def slices_symMergeCmpFunc_int__level_known_1.l0 (k : Nat) (data11 : List Int) (a13 : Int) (v3 : S_Cells) : Nat → Int → Int → Option (Int)
  | 0, _, _ => none
  | n_ + 1, i43, j44 =>
    if i43 < j44 then (if 0 ≤ (w64 (shr (u64 (w64 (i43 + j44))) 1)) then (if (w64 (shr (u64 (w64 (i43 + j44))) 1)) < (data11.length : Int) then (if 0 ≤ a13 then (if a13 < (data11.length : Int) then ((level_known_1 k v3 (rd data11 (w64 (shr (u64 (w64 (i43 + j44))) 1))) (rd data11 a13)).bind fun vt80 => (if vt80 < 0 then (slices_symMergeCmpFunc_int__level_known_1.l0 k data11 a13 v3 n_ (w64 ((w64 (shr (u64 (w64 (i43 + j44))) 1)) + 1)) j44) else (slices_symMergeCmpFunc_int__level_known_1.l0 k data11 a13 v3 n_ i43 (w64 (shr (u64 (w64 (i43 + j44))) 1))))) else none) else none) else none) else none) else (some i43)
def slices_symMergeCmpFunc_int__level_known_1.l1 (k : Nat) (i93 : Int) : Nat → (List Int) → Int → Option ((List Int))
  | 0, _, _ => none
  | n_ + 1, data175, vk179 =>
    if vk179 < (w64 (i93 - 1)) then (if 0 ≤ (w64 (vk179 + 1)) then (if (w64 (vk179 + 1)) < (data175.length : Int) then (if 0 ≤ vk179 then (if vk179 < (data175.length : Int) then (if (w64 (vk179 + 1)) < ((data175.set (vk179).toNat (rd data175 (w64 (vk179 + 1)))).length : Int) then (slices_symMergeCmpFunc_int__level_known_1.l1 k i93 n_ ((data175.set (vk179).toNat (rd data175 (w64 (vk179 + 1)))).set (w64 (vk179 + 1)).toNat (rd data175 vk179)) (w64 (vk179 + 1))) else none) else none) else none) else none) else none) else (some data175)
def slices_symMergeCmpFunc_int__level_known_1.l2 (k : Nat) (m14 : Int) (data11 : List Int) (v3 : S_Cells) : Nat → Int → Int → Option (Int)
  | 0, _, _ => none
  | n_ + 1, i269, j270 =>
    if i269 < j270 then (if 0 ≤ m14 then (if m14 < (data11.length : Int) then (if 0 ≤ (w64 (shr (u64 (w64 (i269 + j270))) 1)) then (if (w64 (shr (u64 (w64 (i269 + j270))) 1)) < (data11.length : Int) then ((level_known_1 k v3 (rd data11 m14) (rd data11 (w64 (shr (u64 (w64 (i269 + j270))) 1)))).bind fun vt306 => (if ¬ (vt306 < 0) then (slices_symMergeCmpFunc_int__level_known_1.l2 k m14 data11 v3 n_ (w64 ((w64 (shr (u64 (w64 (i269 + j270))) 1)) + 1)) j270) else (slices_symMergeCmpFunc_int__level_known_1.l2 k m14 data11 v3 n_ i269 (w64 (shr (u64 (w64 (i269 + j270))) 1))))) else none) else none) else none) else none) else (some i269)
def slices_symMergeCmpFunc_int__level_known_1.l3 (k : Nat) (i319 : Int) : Nat → (List Int) → Int → Option ((List Int))
  | 0, _, _ => none
  | n_ + 1, data401, vk405 =>
    if vk405 > i319 then (if 0 ≤ (w64 (vk405 - 1)) then (if (w64 (vk405 - 1)) < (data401.length : Int) then (if 0 ≤ vk405 then (if vk405 < (data401.length : Int) then (if (w64 (vk405 - 1)) < ((data401.set (vk405).toNat (rd data401 (w64 (vk405 - 1)))).length : Int) then (slices_symMergeCmpFunc_int__level_known_1.l3 k i319 n_ ((data401.set (vk405).toNat (rd data401 (w64 (vk405 - 1)))).set (w64 (vk405 - 1)).toNat (rd data401 vk405)) (w64 (vk405 - 1))) else none) else none) else none) else none) else none) else (some data401)
def slices_symMergeCmpFunc_int__level_known_1.l4 (k : Nat) (a13 : Int) (b15 : Int) (m14 : Int) (data11 : List Int) (v3 : S_Cells) : Nat → Int → Int → Option (Int)
  | 0, _, _ => none
  | n_ + 1, start513, r514 =>
    if start513 < r514 then (if 0 ≤ (w64 ((w64 ((w64 ((w64 (shr (u64 (w64 (a13 + b15))) 1)) + m14)) - 1)) - (w64 (shr (u64 (w64 (start513 + r514))) 1)))) then (if (w64 ((w64 ((w64 ((w64 (shr (u64 (w64 (a13 + b15))) 1)) + m14)) - 1)) - (w64 (shr (u64 (w64 (start513 + r514))) 1)))) < (data11.length : Int) then (if 0 ≤ (w64 (shr (u64 (w64 (start513 + r514))) 1)) then (if (w64 (shr (u64 (w64 (start513 + r514))) 1)) < (data11.length : Int) then ((level_known_1 k v3 (rd data11 (w64 ((w64 ((w64 ((w64 (shr (u64 (w64 (a13 + b15))) 1)) + m14)) - 1)) - (w64 (shr (u64 (w64 (start513 + r514))) 1))))) (rd data11 (w64 (shr (u64 (w64 (start513 + r514))) 1)))).bind fun vt550 => (if ¬ (vt550 < 0) then (slices_symMergeCmpFunc_int__level_known_1.l4 k a13 b15 m14 data11 v3 n_ (w64 ((w64 (shr (u64 (w64 (start513 + r514))) 1)) + 1)) r514) else (slices_symMergeCmpFunc_int__level_known_1.l4 k a13 b15 m14 data11 v3 n_ start513 (w64 (shr (u64 (w64 (start513 + r514))) 1))))) else none) else none) else none) else none) else (some start513)
def slices_symMergeCmpFunc_int__level_known_1.r (k : Nat) : Nat → S_Cells → (List Int) → Int → Int → Int → Option ((List Int))
  | 0, _, _, _, _, _ => none
  | q_ + 1, v3, data11, a13, m14, b15 =>
    if (w64 (m14 - a13)) = 1 then ((slices_symMergeCmpFunc_int__level_known_1.l0 k data11 a13 v3 k m14 b15).bind fun i93 => ((slices_symMergeCmpFunc_int__level_known_1.l1 k i93 k data11 a13).bind fun data234 => (some data234))) else (if (w64 (b15 - m14)) = 1 then ((slices_symMergeCmpFunc_int__level_known_1.l2 k m14 data11 v3 k a13 m14).bind fun i319 => ((slices_symMergeCmpFunc_int__level_known_1.l3 k i319 k data11 m14).bind fun data460 => (some data460))) else (((if m14 > (w64 (shr (u64 (w64 (a13 + b15))) 1)) then (some ((w64 ((w64 ((w64 (shr (u64 (w64 (a13 + b15))) 1)) + m14)) - b15)), (w64 (shr (u64 (w64 (a13 + b15))) 1)))) else (some (a13, m14)) : Option (Int × Int))).bind fun (start489, r490) => ((slices_symMergeCmpFunc_int__level_known_1.l4 k a13 b15 m14 data11 v3 k start489 r490).bind fun start563 => (if start563 < m14 then (((if m14 < (w64 ((w64 ((w64 (shr (u64 (w64 (a13 + b15))) 1)) + m14)) - start563)) then ((slices_rotateCmpFunc_int__level_known_1 k v3 data11 start563 m14 (w64 ((w64 ((w64 (shr (u64 (w64 (a13 + b15))) 1)) + m14)) - start563))).bind fun vt578 => (some vt578)) else (some data11) : Option ((List Int)))).bind fun data592 => (if a13 < start563 then (((if start563 < (w64 (shr (u64 (w64 (a13 + b15))) 1)) then ((slices_symMergeCmpFunc_int__level_known_1.r k q_ v3 data592 a13 start563 (w64 (shr (u64 (w64 (a13 + b15))) 1))).bind fun vt608 => (some vt608)) else (some data592) : Option ((List Int)))).bind fun data622 => (if (w64 (shr (u64 (w64 (a13 + b15))) 1)) < (w64 ((w64 ((w64 (shr (u64 (w64 (a13 + b15))) 1)) + m14)) - start563)) then (if (w64 ((w64 ((w64 (shr (u64 (w64 (a13 + b15))) 1)) + m14)) - start563)) < b15 then ((slices_symMergeCmpFunc_int__level_known_1.r k q_ v3 data622 (w64 (shr (u64 (w64 (a13 + b15))) 1)) (w64 ((w64 ((w64 (shr (u64 (w64 (a13 + b15))) 1)) + m14)) - start563)) b15).bind fun vt636 => (some vt636)) else (some data622)) else (some data622))) else (if (w64 (shr (u64 (w64 (a13 + b15))) 1)) < (w64 ((w64 ((w64 (shr (u64 (w64 (a13 + b15))) 1)) + m14)) - start563)) then (if (w64 ((w64 ((w64 (shr (u64 (w64 (a13 + b15))) 1)) + m14)) - start563)) < b15 then ((slices_symMergeCmpFunc_int__level_known_1.r k q_ v3 data592 (w64 (shr (u64 (w64 (a13 + b15))) 1)) (w64 ((w64 ((w64 (shr (u64 (w64 (a13 + b15))) 1)) + m14)) - start563)) b15).bind fun vt652 => (some vt652)) else (some data592)) else (some data592)))) else (if a13 < start563 then (((if start563 < (w64 (shr (u64 (w64 (a13 + b15))) 1)) then ((slices_symMergeCmpFunc_int__level_known_1.r k q_ v3 data11 a13 start563 (w64 (shr (u64 (w64 (a13 + b15))) 1))).bind fun vt670 => (some vt670)) else (some data11) : Option ((List Int)))).bind fun data684 => (if (w64 (shr (u64 (w64 (a13 + b15))) 1)) < (w64 ((w64 ((w64 (shr (u64 (w64 (a13 + b15))) 1)) + m14)) - start563)) then (if (w64 ((w64 ((w64 (shr (u64 (w64 (a13 + b15))) 1)) + m14)) - start563)) < b15 then ((slices_symMergeCmpFunc_int__level_known_1.r k q_ v3 data684 (w64 (shr (u64 (w64 (a13 + b15))) 1)) (w64 ((w64 ((w64 (shr (u64 (w64 (a13 + b15))) 1)) + m14)) - start563)) b15).bind fun vt698 => (some vt698)) else (some data684)) else (some data684))) else (if (w64 (shr (u64 (w64 (a13 + b15))) 1)) < (w64 ((w64 ((w64 (shr (u64 (w64 (a13 + b15))) 1)) + m14)) - start563)) then (if (w64 ((w64 ((w64 (shr (u64 (w64 (a13 + b15))) 1)) + m14)) - start563)) < b15 then ((slices_symMergeCmpFunc_int__level_known_1.r k q_ v3 data11 (w64 (shr (u64 (w64 (a13 + b15))) 1)) (w64 ((w64 ((w64 (shr (u64 (w64 (a13 + b15))) 1)) + m14)) - start563)) b15).bind fun vt714 => (some vt714)) else (some data11)) else (some data11)))))))
def slices_symMergeCmpFunc_int__level_known_1 (k : Nat) (v3 : S_Cells) (data11 : List Int) (a13 : Int) (m14 : Int) (b15 : Int) : Option ((List Int)) := slices_symMergeCmpFunc_int__level_known_1.r k k v3 data11 a13 m14 b15
def slices_stableCmpFunc_int__level_known_1.l0 (k : Nat) (n13 : Int) (v3 : S_Cells) : Nat → (List Int) → Int → Int → Option ((List Int) × Int)
  | 0, _, _, _ => none
  | n_ + 1, data74, a78, b79 =>
    if b79 ≤ n13 then ((slices_insertionSortCmpFunc_int__level_known_1 k v3 data74 a78 b79).bind fun vt97 => (slices_stableCmpFunc_int__level_known_1.l0 k n13 v3 n_ vt97 b79 (w64 (b79 + 20)))) else (some (data74, a78))
def slices_stableCmpFunc_int__level_known_1.l2 (k : Nat) (n13 : Int) (v3 : S_Cells) (blockSize300 : Int) : Nat → (List Int) → Int → Int → Option ((List Int) × Int)
  | 0, _, _, _ => none
  | n_ + 1, data372, a376, b377 =>
    if b377 ≤ n13 then ((slices_symMergeCmpFunc_int__level_known_1 k v3 data372 a376 (w64 (a376 + blockSize300)) b377).bind fun vt395 => (slices_stableCmpFunc_int__level_known_1.l2 k n13 v3 blockSize300 n_ vt395 b377 (w64 (b377 + (w64 (2 * blockSize300)))))) else (some (data372, a376))
def slices_stableCmpFunc_int__level_known_1.l1 (k : Nat) (n13 : Int) (v3 : S_Cells) : Nat → (List Int) → Int → Option ((List Int))
  | 0, _, _ => none
  | n_ + 1, data296, blockSize300 =>
    if blockSize300 < n13 then ((slices_stableCmpFunc_int__level_known_1.l2 k n13 v3 blockSize300 k data296 0 (w64 (2 * blockSize300))).bind fun (data411, a415) => (if (w64 (a415 + blockSize300)) < n13 then ((slices_symMergeCmpFunc_int__level_known_1 k v3 data411 a415 (w64 (a415 + blockSize300)) n13).bind fun vt429 => (slices_stableCmpFunc_int__level_known_1.l1 k n13 v3 n_ vt429 (w64 (blockSize300 * 2)))) else (slices_stableCmpFunc_int__level_known_1.l1 k n13 v3 n_ data411 (w64 (blockSize300 * 2))))) else (some data296)
def slices_stableCmpFunc_int__level_known_1 (k : Nat) (v3 : S_Cells) (data11 : List Int) (n13 : Int) : Option ((List Int)) :=
  (slices_stableCmpFunc_int__level_known_1.l0 k n13 v3 k data11 0 20).bind fun (data113, a117) => ((slices_insertionSortCmpFunc_int__level_known_1 k v3 data113 a117 n13).bind fun vt125 => ((slices_stableCmpFunc_int__level_known_1.l1 k n13 v3 k vt125 20).bind fun data443 => (some data443)))
def slices_SortStableFunc_int__level_known_1 (k : Nat) (v3 : S_Cells) (x11 : List Int) : Option ((List Int)) :=
  (slices_stableCmpFunc_int__level_known_1 k v3 x11 (x11.length : Int)).bind fun vt15 => (some vt15)
def level_known.l0 (k : Nat) (c1 : S_Cells) : Nat → (List Int) → Int → Option ((List Int))
  | 0, _, _ => none
  | n_ + 1, out32, x38 =>
    if x38 < (c1.At.length : Int) then (if 0 ≤ x38 then (if ¬ (((rd c1.At x38).Unknown) = true) then (if (out32.length + 1) * 8 ≤ 140737488355328 then (level_known.l0 k c1 n_ (out32 ++ ([x38] : List Int)) (w64 (x38 + 1))) else none) else (level_known.l0 k c1 n_ out32 (w64 (x38 + 1)))) else none) else (some out32)
def level_known (k : Nat) (c1 : S_Cells) : Option ((List Int)) :=
  (level_known.l0 k c1 k ([] : List Int) 0).bind fun out93 => ((slices_SortStableFunc_int__level_known_1 k c1 out93).bind fun vt115 => (some vt115))
def cmp_Or_int.l0 (k : Nat) (vals1 : List Int) : Nat → Int → Option (Sum Int Unit)
  | 0, _ => none
  | n_ + 1, x28 =>
    if x28 < (vals1.length : Int) then (if 0 ≤ x28 then (if (rd vals1 x28) ≠ 0 then (some (Sum.inl (rd vals1 x28))) else (cmp_Or_int.l0 k vals1 n_ (w64 (x28 + 1)))) else none) else (some (Sum.inr ()))
def cmp_Or_int (k : Nat) (vals1 : List Int) : Option (Int) :=
  (cmp_Or_int.l0 k vals1 k 0).bind fun z_ => Sum.elim (fun y_ => some y_) (fun _ => (some 0)) z_
def level_Witness_1 (k : Nat) (v3 : S_Cells) (i7 : Int) (j8 : Int) : Option (Int) :=
  if 0 ≤ i7 then (if i7 < (v3.At.length : Int) then (if 0 ≤ j8 then (if j8 < (v3.At.length : Int) then ((cmp_Compare_Quanta k ((rd v3.At i7).Hi) ((rd v3.At j8).Hi)).bind fun vt31 => ((cmp_Or_int k ([vt31, w64 (i7 - j8)] : List Int)).bind fun vt48 => (some vt48))) else none) else none) else none) else none
def slices_MinFunc_int__level_Witness_1.l0 (k : Nat) (x7 : List Int) (v3 : S_Cells) : Nat → Int → Int → Option (Int)
  | 0, _, _ => none
  | n_ + 1, m47, i48 =>
    if i48 < (x7.length : Int) then (if 0 ≤ i48 then ((level_Witness_1 k v3 (rd x7 i48) m47).bind fun vt73 => (if vt73 < 0 then (slices_MinFunc_int__level_Witness_1.l0 k x7 v3 n_ (rd x7 i48) (w64 (i48 + 1))) else (slices_MinFunc_int__level_Witness_1.l0 k x7 v3 n_ m47 (w64 (i48 + 1))))) else none) else (some m47)
def slices_MinFunc_int__level_Witness_1 (k : Nat) (v3 : S_Cells) (x7 : List Int) : Option (Int) :=
  if (x7.length : Int) < 1 then (none) else (if 0 < (x7.length : Int) then ((slices_MinFunc_int__level_Witness_1.l0 k x7 v3 k (rd x7 0) 1).bind fun m86 => (some m86)) else none)
def slices_Clone_int (k : Nat) (s1 : List Int) : Option ((List Int)) :=
  if (([] : List Int).length + s1.length) * 8 ≤ 140737488355328 then (some (([] : List Int) ++ s1)) else none
def slices_Sort_int (k : Nat) (xs : List Int) : Option (List Int) :=
  if xs.length < 4611686018427387904 then some (xs.mergeSort fun x y => decide (x ≤ y)) else none
def slices_Compact_int (k : Nat) (xs : List Int) : Option (List Int) :=
  if xs.length < 4611686018427387904 then some (Lib.compact xs) else none
def level_Witness (k : Nat) (c1 : S_Cells) (least5 : Int) : Option ((List Int) × Int) :=
  (clean_Check k c1).bind fun vt16 => (if vt16 ≠ 0 then (some (([] : List Int), vt16)) else (if least5 < 1 then (some (([] : List Int), 1)) else ((level_known k c1).bind fun vt38 => (if (vt38.length : Int) < least5 then (some (([] : List Int), 14)) else ((slices_MinFunc_int__level_Witness_1 k c1 vt38).bind fun vt64 => (if 0 ≤ least5 then (if least5 ≤ (vt38.length : Int) then ((slices_Clone_int k (vt38.take (least5).toNat)).bind fun vt82 => (if (vt82.length + 1) * 8 ≤ 140737488355328 then ((slices_Sort_int k (vt82 ++ ([vt64] : List Int))).bind fun vt113 => ((slices_Compact_int k vt113).bind fun vt124 => (some (vt124, 0)))) else none)) else none) else none))))))
def level_Of.l0 (k : Nat) (vt18 : List Int) (c1 : S_Cells) : Nat → Int → Int → Option (Int)
  | 0, _, _ => none
  | n_ + 1, x275, x276 =>
    if x275 < (vt18.length : Int) then (if 0 ≤ x275 then (if 0 ≤ (rd vt18 x275) then (if (rd vt18 x275) < (c1.At.length : Int) then (level_Of.l0 k vt18 c1 n_ (w64 (x275 + 1)) (mn x276 ((rd c1.At (rd vt18 x275)).Hi))) else none) else none) else none) else (some x276)
def level_Of (k : Nat) (c1 : S_Cells) (least5 : Int) : Option (S_Bound × Int) :=
  (level_Witness k c1 least5).bind fun (vt18, vt19) => (if vt19 ≠ 0 then (some ((⟨0, 0, false⟩ : S_Bound), vt19)) else ((level_known k c1).bind fun vt45 => (if 0 ≤ (w64 (least5 - 1)) then (if (w64 (least5 - 1)) < (vt45.length : Int) then (if 0 ≤ (rd vt45 (w64 (least5 - 1))) then (if (rd vt45 (w64 (least5 - 1))) < (c1.At.length : Int) then ((level_Of.l0 k vt18 c1 k 0 1099511627776).bind fun x323 => (if ((rd c1.At (rd vt45 (w64 (least5 - 1)))).Lo) > x323 then (some ((⟨0, 0, false⟩ : S_Bound), 15)) else (some ((⟨(rd c1.At (rd vt45 (w64 (least5 - 1)))).Lo, x323, false⟩ : S_Bound), 0)))) else none) else none) else none) else none)))
def spykeep3_levelled (k : Nat) : Option (Bool) :=
  (level_Of k (⟨2, 1, ([(⟨3, 9, false⟩ : S_Bound), (⟨4, 6, false⟩ : S_Bound)] : List S_Bound)⟩ : S_Cells) 2).bind fun (vt25, vt26) => (if vt26 = 0 then (some ((vt25.Lo == 4) && ((vt25.Hi == 6) && ((vt25.Unknown == false) && true)))) else (some false))
def bound_Has_Quanta (k : Nat) (b1 : S_Bound) (v2 : Int) : Option (Bool) :=
  (bound_vague_Quanta k b1 b1).bind fun vt11 => (if vt11 = true then (some true) else (if b1.Lo ≤ v2 then (some (decide (v2 ≤ b1.Hi))) else (some false)))
def spykeep3_LevelLeaves.l1 (k : Nat) (vt29 : S_Cells) (x153 : Int) (vt50 : Int) (vt93 : S_Cells) (l1 : List Int) : Nat → Int → Option (Sum (Sum Bool Unit) Unit)
  | 0, _ => none
  | n_ + 1, x207 =>
    if x207 < (([(rd vt29.At x153).Lo, (rd vt29.At x153).Hi, w64 (Int.tdiv (w64 (((rd vt29.At x153).Lo) + ((rd vt29.At x153).Hi))) 2)] : List Int).length : Int) then (if 0 ≤ x207 then (if ¬ (((rd vt29.At x153).Unknown) = true) then (if (rd ([(rd vt29.At x153).Lo, (rd vt29.At x153).Hi, w64 (Int.tdiv (w64 (((rd vt29.At x153).Lo) + ((rd vt29.At x153).Hi))) 2)] : List Int) x207) ≥ vt50 then (if x153 < (vt93.At.length : Int) then ((bound_Has_Quanta k (rd vt93.At x153) (w64 ((rd ([(rd vt29.At x153).Lo, (rd vt29.At x153).Hi, w64 (Int.tdiv (w64 (((rd vt29.At x153).Lo) + ((rd vt29.At x153).Hi))) 2)] : List Int) x207) - vt50))).bind fun vt240 => (if ¬ (vt240 = true) then (some (Sum.inl (Sum.inl false))) else (if ((rd vt93.At x153).Lo) < 0 then (some (Sum.inl (Sum.inl false))) else (spykeep3_LevelLeaves.l1 k vt29 x153 vt50 vt93 l1 n_ (w64 (x207 + 1)))))) else none) else (if x153 < (vt93.At.length : Int) then (if ((rd vt93.At x153).Lo) < 0 then (some (Sum.inl (Sum.inl false))) else (spykeep3_LevelLeaves.l1 k vt29 x153 vt50 vt93 l1 n_ (w64 (x207 + 1)))) else none)) else (if x153 < (vt93.At.length : Int) then (if ((rd vt93.At x153).Lo) < 0 then (some (Sum.inl (Sum.inl false))) else (spykeep3_LevelLeaves.l1 k vt29 x153 vt50 vt93 l1 n_ (w64 (x207 + 1)))) else none)) else none) else (some (Sum.inr ()))
def spykeep3_LevelLeaves.l0 (k : Nat) (vt29 : S_Cells) (l1 : List Int) (vt50 : Int) (vt93 : S_Cells) : Nat → Int → Option (Sum Bool Unit)
  | 0, _ => none
  | n_ + 1, x153 =>
    if x153 < (vt29.At.length : Int) then (if 0 ≤ x153 then ((spykeep3_LevelLeaves.l1 k vt29 x153 vt50 vt93 l1 k 0).bind fun z_ => Sum.elim (fun y_ => some y_) (fun _ => (spykeep3_LevelLeaves.l0 k vt29 l1 vt50 vt93 n_ (w64 (x153 + 1)))) z_) else none) else (some (Sum.inr ()))
def spykeep3_LevelLeaves (k : Nat) (l1 : List Int) : Option (Bool) :=
  (spymake_Stream_Range k (⟨l1, 0⟩ : S_Stream) 1 5).bind fun (vt15, vt16) => ((spymake_Stream_Range k (⟨l1, vt16⟩ : S_Stream) 1 5).bind fun (vt22, vt23) => ((spymake_Stream_Field k (⟨l1, vt23⟩ : S_Stream) vt15 vt22).bind fun (vt29, vt30) => ((spymake_Stream_Next k (⟨l1, vt30⟩ : S_Stream) 300).bind fun (vt50, vt51) => ((spymake_Stream_Next k (⟨l1, vt51⟩ : S_Stream) 9).bind fun (vt59, vt60) => ((spymake_Stream_Next k (⟨l1, vt60⟩ : S_Stream) 9).bind fun (vt66, vt67) => ((bound_Of_Quanta k (w64 (vt50 - vt59)) (w64 (vt50 + vt66))).bind fun vt73 => ((level_Subtract k vt29 vt73).bind fun (vt93, vt94) => ((spykeep3_levelled k).bind fun vt118 => (if ¬ (vt118 = true) then (some false) else (if vt94 ≠ 0 then (some false) else (if (vt93.At.length : Int) ≠ (vt29.At.length : Int) then (some false) else ((spykeep3_LevelLeaves.l0 k vt29 l1 vt50 vt93 k 0).bind fun z_ => Sum.elim (fun y_ => some y_) (fun _ => (some true)) z_))))))))))))
end Go.Sp.T9
