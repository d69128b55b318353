import Derived.Test.YtfphahhebijhjaaDoorSpCopy
namespace Go.Sp.E3
open Go Go.Sp
set_option linter.unusedVariables false
structure S_Card where
  Key : ByteArray
  Value : ByteArray
  Unit : ByteArray
  Note : ByteArray
instance : Inhabited S_Card := ⟨⟨default, default, default, default⟩⟩
structure S_Frame where
  W : Int
  H : Int
  Cards : List S_Card
  Counts : List Int
instance : Inhabited S_Frame := ⟨⟨default, default, default, default⟩⟩
structure S_writer where
  out : List Int
  used : Int
instance : Inhabited S_writer := ⟨⟨default, default⟩⟩
structure S_reader where
  b : List Int
  used : Int
  over : Bool
instance : Inhabited S_reader := ⟨⟨default, default, default⟩⟩
def spymake_Below (k : Nat) (x1 : Int) (n2 : Int) : Option (Int) :=
  if n2 < 1 then (some 0) else (if ¬ (n2 = 0) then (if (Int.tmod x1 n2) < 0 then (some (w64 ((Int.tmod x1 n2) + n2))) else (some (Int.tmod x1 n2))) else none)
def bits_Mul64 (k : Nat) (x1 : Int) (y2 : Int) : Option (Int × Int) :=
  some (u64 ((u64 ((u64 ((shr x1 32) * (shr y2 32))) + (shr (u64 ((u64 ((shr x1 32) * (Go.bits .and .u64 y2 4294967295))) + (shr (u64 ((Go.bits .and .u64 x1 4294967295) * (Go.bits .and .u64 y2 4294967295))) 32))) 32))) + (shr (u64 ((Go.bits .and .u64 (u64 ((u64 ((shr x1 32) * (Go.bits .and .u64 y2 4294967295))) + (shr (u64 ((Go.bits .and .u64 x1 4294967295) * (Go.bits .and .u64 y2 4294967295))) 32))) 4294967295) + (u64 ((Go.bits .and .u64 x1 4294967295) * (shr y2 32))))) 32)), u64 (x1 * y2))
def bits_Mul (k : Nat) (x1 : Int) (y2 : Int) : Option (Int × Int) :=
  (bits_Mul64 k x1 y2).bind fun (vt9, vt10) => (some (vt9, vt10))
def slices_Repeat_int.l0 (k : Nat) : Nat → (List Int) → Int → Option ((List Int))
  | 0, _, _ => none
  | n_ + 1, newslice94, n98 =>
    if n98 < (newslice94.length : Int) then (if 0 ≤ n98 then (if n98 ≤ (newslice94.length : Int) then (slices_Repeat_int.l0 k n_ (cpy newslice94 (n98).toNat (newslice94.take (n98).toNat)) (w64 (n98 + ((min (newslice94.take (n98).toNat).length (newslice94.length - (n98).toNat) : Nat) : Int)))) else none) else none) else (some newslice94)
def slices_Repeat_int (k : Nat) (x1 : List Int) (count5 : Int) : Option ((List Int)) :=
  if count5 < 0 then (none) else ((bits_Mul k (u64 ((x1.length : Int))) (u64 (count5))).bind fun (vt16, vt17) => (if vt16 > 0 then (none) else (if vt17 > 9223372036854775807 then (none) else (if 0 ≤ (w64 (vt17)) then (if (w64 (vt17)) * 8 ≤ 140737488355328 then ((slices_Repeat_int.l0 k k (cpy (List.replicate (w64 (vt17)).toNat (0 : Int)) 0 x1) ((min x1.length ((List.replicate (w64 (vt17)).toNat (0 : Int)).length - 0) : Nat) : Int)).bind fun newslice125 => (some newslice125)) else none) else none))))
def frame_Check_1 (k : Nat) (n1 : Int) : Option (Bool) :=
  if n1 < 0 then (some true) else (some (decide (n1 > 65535)))
def slices_IndexFunc_int__frame_Check_1.l0 (k : Nat) (s1 : List Int) : Nat → Int → Option (Sum Int Unit)
  | 0, _ => none
  | n_ + 1, x26 =>
    if x26 < (s1.length : Int) then (if 0 ≤ x26 then ((frame_Check_1 k (rd s1 x26)).bind fun vt53 => (if vt53 = true then (some (Sum.inl x26)) else (slices_IndexFunc_int__frame_Check_1.l0 k s1 n_ (w64 (x26 + 1))))) else none) else (some (Sum.inr ()))
def slices_IndexFunc_int__frame_Check_1 (k : Nat) (s1 : List Int) : Option (Int) :=
  (slices_IndexFunc_int__frame_Check_1.l0 k s1 k 0).bind fun z_ => Sum.elim (fun y_ => some y_) (fun _ => (some (-1))) z_
def slices_ContainsFunc_int__frame_Check_1 (k : Nat) (s1 : List Int) : Option (Bool) :=
  (slices_IndexFunc_int__frame_Check_1 k s1).bind fun vt9 => (some (decide (vt9 ≥ 0)))
def frame_Check (k : Nat) (vf1 : S_Frame) : Option (Int) :=
  if (mn vf1.W vf1.H) < 1 then (some 4) else (if (mx vf1.W vf1.H) > 32 then (some 4) else (if (vf1.Counts.length : Int) ≠ (w64 (vf1.W * vf1.H)) then (some 3) else ((slices_ContainsFunc_int__frame_Check_1 k vf1.Counts).bind fun vt37 => (if vt37 = true then (some 4) else (some 0)))))
def slices_Chunk_int (k : Nat) (s1 : List Int) (n5 : Int) : Option ((List Int) × Int) :=
  if n5 < 1 then (none) else (some (s1, n5))
def slices_Chunk_int_1.l0 (k : Nat) (x2 : List Int) (x8 : Int) : Nat → Int → Option (List (List Int))
  | 0, _ => none
  | n_ + 1, i27 =>
    if i27 < (x2.length : Int) then (if 0 ≤ i27 then (if i27 ≤ (x2.length : Int) then (if i27 ≤ (w64 (i27 + (mn x8 ((x2.drop (i27).toNat).length : Int)))) then (if (w64 (i27 + (mn x8 ((x2.drop (i27).toNat).length : Int)))) ≤ (x2.length : Int) then ((slices_Chunk_int_1.l0 k x2 x8 n_ (w64 (i27 + x8))).bind (fun z_ => some (((x2.take (w64 (i27 + (mn x8 ((x2.drop (i27).toNat).length : Int)))).toNat).drop (i27).toNat) :: z_))) else none) else none) else none) else none) else (some [])
def slices_Chunk_int_1 (k : Nat) (x2 : List Int) (x8 : Int) : Option (List (List Int)) :=
  slices_Chunk_int_1.l0 k x2 x8 k 0
def squeeze_writer_put.l0 (k : Nat) (v9 : Int) : Nat → Int → (List Int) → Int → Option ((List Int) × Int)
  | 0, _, _, _ => none
  | n_ + 1, n231, x232, x237 =>
    if n231 ≥ 0 then (if (Int.tmod x237 8) = 0 then (if (x232.length + 1) * 1 ≤ 140737488355328 then (if 0 ≤ (w64 (((x232 ++ ([0] : List Int)).length : Int) - 1)) then (if (w64 (((x232 ++ ([0] : List Int)).length : Int) - 1)) < ((x232 ++ ([0] : List Int)).length : Int) then (if ¬ (n231 < 0) then (if ¬ ((w64 (7 - (Int.tmod x237 8))) < 0) then (squeeze_writer_put.l0 k v9 n_ (w64 (n231 - 1)) ((x232 ++ ([0] : List Int)).set (w64 (((x232 ++ ([0] : List Int)).length : Int) - 1)).toNat (Go.bits .or .u8 (rd (x232 ++ ([0] : List Int)) (w64 (((x232 ++ ([0] : List Int)).length : Int) - 1))) (u8 ((u8 (Go.bits .and .i64 (shr v9 (min (n231).toNat 64)) 1)) * 2 ^ (min (w64 (7 - (Int.tmod x237 8))).toNat 8))))) (w64 (x237 + 1))) else none) else none) else none) else none) else none) else (if 0 ≤ (w64 ((x232.length : Int) - 1)) then (if (w64 ((x232.length : Int) - 1)) < (x232.length : Int) then (if ¬ (n231 < 0) then (if ¬ ((w64 (7 - (Int.tmod x237 8))) < 0) then (squeeze_writer_put.l0 k v9 n_ (w64 (n231 - 1)) (x232.set (w64 ((x232.length : Int) - 1)).toNat (Go.bits .or .u8 (rd x232 (w64 ((x232.length : Int) - 1))) (u8 ((u8 (Go.bits .and .i64 (shr v9 (min (n231).toNat 64)) 1)) * 2 ^ (min (w64 (7 - (Int.tmod x237 8))).toNat 8))))) (w64 (x237 + 1))) else none) else none) else none) else none)) else (some (x232, x237))
def squeeze_writer_put (k : Nat) (vw3 : S_writer) (v9 : Int) (n10 : Int) : Option ((List Int) × Int) :=
  (squeeze_writer_put.l0 k v9 k (w64 (n10 - 1)) vw3.out vw3.used).bind fun (x332, x337) => (some (x332, x337))
def squeeze_fold (k : Nat) (d1 : Int) : Option (Int) :=
  if d1 < 0 then (some (w64 ((w64 ((-2) * d1)) - 1))) else (some (w64 (2 * d1)))
def squeeze_cost.l0 (k : Nat) (group1 : List Int) (vk5 : Int) : Nat → Int → Int → Option (Int)
  | 0, _, _ => none
  | n_ + 1, n29, x30 =>
    if x30 < (group1.length : Int) then (if 0 ≤ x30 then (if vk5 = 15 then (squeeze_cost.l0 k group1 vk5 n_ (w64 (n29 + 17)) (w64 (x30 + 1))) else (if ¬ (vk5 < 0) then (squeeze_cost.l0 k group1 vk5 n_ (w64 (n29 + (w64 ((w64 ((shr (rd group1 x30) (min (vk5).toNat 64)) + 1)) + vk5)))) (w64 (x30 + 1))) else none)) else none) else (some n29)
def squeeze_cost (k : Nat) (group1 : List Int) (vk5 : Int) : Option (Int) :=
  (squeeze_cost.l0 k group1 vk5 k 0 0).bind fun n65 => (some n65)
def squeeze_row.l0 (k : Nat) (counts1 : List Int) : Nat → (List Int) → Int → Option ((List Int))
  | 0, _, _ => none
  | n_ + 1, folds69, i75 =>
    if i75 < (counts1.length : Int) then (if 0 ≤ i75 then (if 0 ≤ (w64 (i75 - 1)) then (if (w64 (i75 - 1)) < (counts1.length : Int) then ((squeeze_fold k (w64 ((rd counts1 i75) - (rd counts1 (w64 (i75 - 1)))))).bind fun vt112 => (if (folds69.length + 1) * 8 ≤ 140737488355328 then (squeeze_row.l0 k counts1 n_ (folds69 ++ ([vt112] : List Int)) (w64 (i75 + 1))) else none)) else none) else none) else none) else (some folds69)
def squeeze_row.l2 (k : Nat) (x1873 : List Int) : Nat → Int → Int → Option (Int)
  | 0, _, _ => none
  | n_ + 1, best1914, x1915 =>
    if x1915 < 16 then ((squeeze_cost k x1873 x1915).bind fun vt1935 => ((squeeze_cost k x1873 best1914).bind fun vt1941 => (if vt1935 < vt1941 then (squeeze_row.l2 k x1873 n_ x1915 (w64 (x1915 + 1))) else (squeeze_row.l2 k x1873 n_ best1914 (w64 (x1915 + 1)))))) else (some best1914)
def squeeze_row.l4 (k : Nat) (x1873 : List Int) (x2461 : Int) (best1954 : Int) : Nat → Int → (List Int) → Int → Option ((List Int) × Int)
  | 0, _, _, _ => none
  | n_ + 1, x2614, x2615, x2620 =>
    if x2614 < (shr (rd x1873 x2461) (min (best1954).toNat 64)) then ((squeeze_writer_put k (⟨x2615, x2620⟩ : S_writer) 1 1).bind fun (vt2637, vt2638) => (squeeze_row.l4 k x1873 x2461 best1954 n_ (w64 (x2614 + 1)) vt2637 vt2638)) else (some (x2615, x2620))
def squeeze_row.l3 (k : Nat) (x1873 : List Int) (best1954 : Int) : Nat → Int → (List Int) → Int → Option ((List Int) × Int)
  | 0, _, _, _ => none
  | n_ + 1, x2461, x2462, x2467 =>
    if x2461 < (x1873.length : Int) then (if 0 ≤ x2461 then (if best1954 = 15 then ((squeeze_writer_put k (⟨x2462, x2467⟩ : S_writer) (rd x1873 x2461) 17).bind fun (vt2501, vt2502) => (squeeze_row.l3 k x1873 best1954 n_ (w64 (x2461 + 1)) vt2501 vt2502)) else (if ¬ (best1954 < 0) then ((squeeze_row.l4 k x1873 x2461 best1954 k 0 x2462 x2467).bind fun (x2654, x2659) => ((squeeze_writer_put k (⟨x2654, x2659⟩ : S_writer) 0 1).bind fun (vt2666, vt2667) => ((squeeze_writer_put k (⟨vt2666, vt2667⟩ : S_writer) (rd x1873 x2461) best1954).bind fun (vt2679, vt2680) => (squeeze_row.l3 k x1873 best1954 n_ (w64 (x2461 + 1)) vt2679 vt2680)))) else none)) else none) else (some (x2462, x2467))
def squeeze_row.g1 (k : Nat) : List ((List Int)) → (List Int) → Int → Option ((List Int) × Int)
  | [], x1867, x1872 => some (x1867, x1872)
  | x1873 :: n_, x1867, x1872 =>
    (squeeze_row.l2 k x1873 k 0 0).bind fun best1954 => ((squeeze_writer_put k (⟨x1867, x1872⟩ : S_writer) best1954 4).bind fun (vt1961, vt1962) => ((squeeze_row.l3 k x1873 best1954 k 0 vt1961 vt1962).bind fun (x2696, x2701) => (squeeze_row.g1 k n_ x2696 x2701)))
def squeeze_row (k : Nat) (counts1 : List Int) : Option ((List Int)) :=
  if 0 < (counts1.length : Int) then ((squeeze_writer_put k (⟨([] : List Int), 0⟩ : S_writer) (rd counts1 0) 16).bind fun (vt36, vt37) => ((squeeze_row.l0 k counts1 k ([] : List Int) 1).bind fun folds138 => ((slices_Chunk_int k folds138 8).bind fun (vt157, vt158) => ((slices_Chunk_int_1 k vt157 vt158).bind fun xs177 => ((squeeze_row.g1 k xs177 vt36 vt37).bind (fun (x2711, x2716) => (some x2711))))))) else none
def squeeze_Pack.g0 (k : Nat) : List ((List Int)) → (List Int) → Option ((List Int))
  | [], x206 => some x206
  | x211 :: n_, x206 =>
    (squeeze_row k x211).bind fun vt233 => (if (x206.length + 2) * 1 ≤ 140737488355328 then (if ((x206 ++ ([u8 (shr (vt233.length : Int) 8), u8 ((vt233.length : Int))] : List Int)).length + vt233.length) * 1 ≤ 140737488355328 then (squeeze_Pack.g0 k n_ ((x206 ++ ([u8 (shr (vt233.length : Int) 8), u8 ((vt233.length : Int))] : List Int)) ++ vt233)) else none) else none)
def squeeze_Pack (k : Nat) (vw1 : Int) (vh2 : Int) (counts3 : List Int) : Option ((List Int) × Int) :=
  (frame_Check k (⟨vw1, vh2, ([] : List S_Card), counts3⟩ : S_Frame)).bind fun vt13 => (if vt13 ≠ 0 then (some (([] : List Int), vt13)) else ((slices_Chunk_int k counts3 vw1).bind fun (vt43, vt44) => ((slices_Chunk_int_1 k vt43 vt44).bind fun xs63 => ((squeeze_Pack.g0 k xs63 ([u8 (vw1), u8 (vh2)] : List Int)).bind (fun x276 => (some (x276, 0)))))))
def squeeze_Index.l0 (k : Nat) (b1 : List Int) : Nat → Int → Int → (List Int) → Int → Int → Option (Sum (Int × Int × (List Int) × Int) (Int × Int × (List Int) × Int))
  | 0, _, _, _, _, _ => none
  | n_ + 1, vw66, vh67, vat68, next74, x75 =>
    if x75 < (w64 ((rd b1 1))) then (if (w64 ((b1.length : Int) - next74)) < 2 then (some (Sum.inl (0, 0, ([] : List Int), 3))) else (if 0 ≤ next74 then (if next74 < (b1.length : Int) then (if 0 ≤ (w64 (next74 + 1)) then (if (w64 (next74 + 1)) < (b1.length : Int) then (if (vat68.length + 1) * 8 ≤ 140737488355328 then (if (Go.bits .or .i64 (w64 ((w64 ((rd b1 next74))) * 2 ^ 8)) (w64 ((rd b1 (w64 (next74 + 1)))))) > (w64 ((w64 ((b1.length : Int) - next74)) - 2)) then (some (Sum.inl (0, 0, ([] : List Int), 3))) else (squeeze_Index.l0 k b1 n_ vw66 vh67 (vat68 ++ ([w64 (next74 + 2)] : List Int)) (w64 (next74 + (w64 (2 + (Go.bits .or .i64 (w64 ((w64 ((rd b1 next74))) * 2 ^ 8)) (w64 ((rd b1 (w64 (next74 + 1)))))))))) (w64 (x75 + 1)))) else none) else none) else none) else none) else none)) else (some (Sum.inr (vw66, vh67, vat68, next74)))
def squeeze_Index (k : Nat) (b1 : List Int) : Option (Int × Int × (List Int) × Int) :=
  if (b1.length : Int) < 2 then (some (0, 0, ([] : List Int), 3)) else (if 0 < (b1.length : Int) then (if (rd b1 0) < 1 then (some (0, 0, ([] : List Int), 3)) else (if (rd b1 0) > 32 then (some (0, 0, ([] : List Int), 3)) else (if 1 < (b1.length : Int) then (if (rd b1 1) < 1 then (some (0, 0, ([] : List Int), 3)) else (if (rd b1 1) > 32 then (some (0, 0, ([] : List Int), 3)) else ((squeeze_Index.l0 k b1 k (w64 ((rd b1 0))) (w64 ((rd b1 1))) ([] : List Int) 2 0).bind fun z_ => Sum.elim (fun y_ => some y_) (fun (vw149, vh150, vat151, next157) => (if next157 ≠ (b1.length : Int) then (some (0, 0, ([] : List Int), 3)) else (if (vat151.length + 1) * 8 ≤ 140737488355328 then (some (vw149, vh150, (vat151 ++ ([(b1.length : Int)] : List Int)), 0)) else none))) z_))) else none))) else none)
def squeeze_reader_get.l0 (k : Nat) (n7 : Int) (r3 : S_reader) : Nat → Int → Int → Int → Bool → Option (Int × Int × Bool)
  | 0, _, _, _, _ => none
  | n_ + 1, v86, x87, x88, x89 =>
    if x87 < n7 then (if x88 ≥ (w64 (8 * (r3.b.length : Int))) then (squeeze_reader_get.l0 k n7 r3 n_ (w64 (v86 * 2 ^ 1)) (w64 (x87 + 1)) x88 true) else (if 0 ≤ (w64 (Int.tdiv x88 8)) then (if (w64 (Int.tdiv x88 8)) < (r3.b.length : Int) then (if ¬ ((w64 (7 - (Int.tmod x88 8))) < 0) then (squeeze_reader_get.l0 k n7 r3 n_ (Go.bits .or .i64 (w64 (v86 * 2 ^ 1)) (Go.bits .and .i64 (w64 (shr (rd r3.b (w64 (Int.tdiv x88 8))) (min (w64 (7 - (Int.tmod x88 8))).toNat 8))) 1)) (w64 (x87 + 1)) (w64 (x88 + 1)) x89) else none) else none) else none)) else (some (v86, x88, x89))
def squeeze_reader_get (k : Nat) (r3 : S_reader) (n7 : Int) : Option (Int × Int × Bool) :=
  (squeeze_reader_get.l0 k n7 r3 k 0 0 r3.used r3.over).bind fun (v139, x140, x141) => (some (v139, x140, x141))
def squeeze_read_1 (k : Nat) (n1 : Int) : Option (Bool) :=
  if n1 < 0 then (some true) else (some (decide (n1 > 65535)))
def slices_IndexFunc_int__squeeze_read_1.l0 (k : Nat) (s1 : List Int) : Nat → Int → Option (Sum Int Unit)
  | 0, _ => none
  | n_ + 1, x26 =>
    if x26 < (s1.length : Int) then (if 0 ≤ x26 then ((squeeze_read_1 k (rd s1 x26)).bind fun vt53 => (if vt53 = true then (some (Sum.inl x26)) else (slices_IndexFunc_int__squeeze_read_1.l0 k s1 n_ (w64 (x26 + 1))))) else none) else (some (Sum.inr ()))
def slices_IndexFunc_int__squeeze_read_1 (k : Nat) (s1 : List Int) : Option (Int) :=
  (slices_IndexFunc_int__squeeze_read_1.l0 k s1 k 0).bind fun z_ => Sum.elim (fun y_ => some y_) (fun _ => (some (-1))) z_
def slices_ContainsFunc_int__squeeze_read_1 (k : Nat) (s1 : List Int) : Option (Bool) :=
  (slices_IndexFunc_int__squeeze_read_1 k s1).bind fun vt9 => (some (decide (vt9 ≥ 0)))
def slices_Equal_byte.l0 (k : Nat) (s11 : List Int) (s25 : List Int) : Nat → Int → Option (Sum Bool Unit)
  | 0, _ => none
  | n_ + 1, x38 =>
    if x38 < (s11.length : Int) then (if 0 ≤ x38 then (if x38 < (s25.length : Int) then (if (rd s11 x38) ≠ (rd s25 x38) then (some (Sum.inl false)) else (slices_Equal_byte.l0 k s11 s25 n_ (w64 (x38 + 1)))) else none) else none) else (some (Sum.inr ()))
def slices_Equal_byte (k : Nat) (s11 : List Int) (s25 : List Int) : Option (Bool) :=
  if (s11.length : Int) ≠ (s25.length : Int) then (some false) else ((slices_Equal_byte.l0 k s11 s25 k 0).bind fun z_ => Sum.elim (fun y_ => some y_) (fun _ => (some true)) z_)
def squeeze_read.l1 (k : Nat) (b1 : List Int) : Nat → Int → Int → Bool → Option (Int × Int × Bool)
  | 0, _, _, _ => none
  | n_ + 1, z404, x405, x406 =>
    (squeeze_reader_get k (⟨b1, x405, x406⟩ : S_reader) 1).bind fun (vt412, vt413, vt414) => (if vt412 = 1 then (squeeze_read.l1 k b1 n_ (w64 (z404 + 1)) vt413 vt414) else (some (z404, vt413, vt414)))
def squeeze_read.l0 (k : Nat) (vw5 : Int) (b1 : List Int) : Nat → (List Int) → Int → Int → Int → Bool → Option ((List Int) × Int × Bool)
  | 0, _, _, _, _, _ => none
  | n_ + 1, out286, vk291, i292, x293, x294 =>
    if i292 < vw5 then (if ¬ (x294 = true) then (((if (Int.tmod (w64 (i292 - 1)) 8) = 0 then ((squeeze_reader_get k (⟨b1, x293, x294⟩ : S_reader) 4).bind fun (vt318, vt319, vt320) => (some (vt318, vt319, vt320))) else (some (vk291, x293, x294)) : Option (Int × Int × Bool))).bind fun (vk331, x332, x333) => (((if vk331 = 15 then ((squeeze_reader_get k (⟨b1, x332, x333⟩ : S_reader) 17).bind fun (vt347, vt348, vt349) => (some (vt347, vt348, vt349))) else ((squeeze_read.l1 k b1 k 0 x332 x333).bind fun (z434, x435, x436) => (if ¬ (vk331 < 0) then ((squeeze_reader_get k (⟨b1, x435, x436⟩ : S_reader) vk331).bind fun (vt446, vt447, vt448) => (some ((Go.bits .or .i64 (w64 (z434 * 2 ^ (min (vk331).toNat 64))) vt446), vt447, vt448))) else none)) : Option (Int × Int × Bool))).bind fun (z459, x460, x461) => (if (Int.tmod z459 2) = 1 then (if 0 ≤ (w64 (i292 - 1)) then (if (w64 (i292 - 1)) < (out286.length : Int) then (if (out286.length + 1) * 8 ≤ 140737488355328 then (squeeze_read.l0 k vw5 b1 n_ (out286 ++ ([w64 ((rd out286 (w64 (i292 - 1))) + (w64 ((w64 (0 - (w64 (Int.tdiv z459 2)))) - 1)))] : List Int)) vk331 (w64 (i292 + 1)) x460 x461) else none) else none) else none) else (if 0 ≤ (w64 (i292 - 1)) then (if (w64 (i292 - 1)) < (out286.length : Int) then (if (out286.length + 1) * 8 ≤ 140737488355328 then (squeeze_read.l0 k vw5 b1 n_ (out286 ++ ([w64 ((rd out286 (w64 (i292 - 1))) + (w64 (Int.tdiv z459 2)))] : List Int)) vk331 (w64 (i292 + 1)) x460 x461) else none) else none) else none)))) else (some (out286, x293, x294))) else (some (out286, x293, x294))
def squeeze_read (k : Nat) (b1 : List Int) (vw5 : Int) : Option ((List Int) × Bool) :=
  (squeeze_reader_get k (⟨b1, 0, false⟩ : S_reader) 16).bind fun (vt16, vt17, vt18) => ((squeeze_read.l0 k vw5 b1 k ([vt16] : List Int) 0 1 vt17 vt18).bind fun (out526, x531, x532) => (if x532 = true then (some (([] : List Int), false)) else ((slices_ContainsFunc_int__squeeze_read_1 k out526).bind fun vt548 => (if vt548 = true then (some (([] : List Int), false)) else ((squeeze_row k out526).bind fun vt565 => ((slices_Equal_byte k vt565 b1).bind fun vt585 => (if ¬ (vt585 = true) then (some (([] : List Int), false)) else (some (out526, true)))))))))
def squeeze_Row (k : Nat) (b1 : List Int) (y5 : Int) : Option ((List Int) × Int) :=
  (squeeze_Index k b1).bind fun (vt10, vt11, vt12, vt13) => (if vt13 ≠ 0 then (some (([] : List Int), vt13)) else (if y5 < 0 then (some (([] : List Int), 4)) else (if y5 ≥ vt11 then (some (([] : List Int), 4)) else (if 0 ≤ (w64 (y5 + 1)) then (if (w64 (y5 + 1)) < (vt12.length : Int) then (((if (w64 (y5 + 1)) < vt11 then (some (w64 ((rd vt12 (w64 (y5 + 1))) - 2))) else (some (rd vt12 (w64 (y5 + 1)))) : Option (Int))).bind fun vend64 => (if 0 ≤ y5 then (if y5 < (vt12.length : Int) then (if 0 ≤ (rd vt12 y5) then (if (rd vt12 y5) ≤ vend64 then (if vend64 ≤ (b1.length : Int) then ((squeeze_read k ((b1.take (vend64).toNat).drop ((rd vt12 y5)).toNat) vt10).bind fun (vt84, vt85) => (if ¬ (vt85 = true) then (some (([] : List Int), 3)) else (some (vt84, 0)))) else none) else none) else none) else none) else none)) else none) else none))))
def slices_Equal_int.l0 (k : Nat) (s11 : List Int) (s25 : List Int) : Nat → Int → Option (Sum Bool Unit)
  | 0, _ => none
  | n_ + 1, x38 =>
    if x38 < (s11.length : Int) then (if 0 ≤ x38 then (if x38 < (s25.length : Int) then (if (rd s11 x38) ≠ (rd s25 x38) then (some (Sum.inl false)) else (slices_Equal_int.l0 k s11 s25 n_ (w64 (x38 + 1)))) else none) else none) else (some (Sum.inr ()))
def slices_Equal_int (k : Nat) (s11 : List Int) (s25 : List Int) : Option (Bool) :=
  if (s11.length : Int) ≠ (s25.length : Int) then (some false) else ((slices_Equal_int.l0 k s11 s25 k 0).bind fun z_ => Sum.elim (fun y_ => some y_) (fun _ => (some true)) z_)
def spykeep3_squeezed (k : Nat) : Option (Bool) :=
  (squeeze_Pack k 2 2 ([1, 1, 7, 8] : List Int)).bind fun (vt16, vt17) => ((squeeze_Row k vt16 1).bind fun (vt39, vt40) => (if vt17 = 0 then (if vt40 = 0 then ((slices_Equal_int k vt39 ([7, 8] : List Int)).bind fun vt75 => (some vt75)) else (some false)) else (some false)))
def spykeep3_SqueezeEven (k : Nat) (vw1 : Int) (vh2 : Int) (n3 : Int) : Option (Bool) :=
  (spymake_Below k vw1 32).bind fun vt8 => ((spymake_Below k vh2 32).bind fun vt14 => ((spymake_Below k n3 65536).bind fun vt20 => ((slices_Repeat_int k ([vt20] : List Int) (w64 ((w64 (vt8 + 1)) * (w64 (vt14 + 1))))).bind fun vt39 => ((squeeze_Pack k (w64 (vt8 + 1)) (w64 (vt14 + 1)) vt39).bind fun (vt59, vt60) => ((spykeep3_squeezed k).bind fun vt76 => (if vt76 = true then (if vt60 = 0 then (some (decide ((vt59.length : Int) ≤ (w64 (2 + (w64 (10 * (w64 (vt14 + 1))))))))) else (some false)) else (some false)))))))
end Go.Sp.E3
