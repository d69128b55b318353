import Derived.Test.YtcnhbfdkediodaaSpMapA
import Derived.Test.YtcnhbfdkediodaaSpCopy
namespace Go.Sp.X4
open Go Go.Sp
set_option linter.unusedVariables false
structure S_Point where
  X : Int
  Y : Int
instance : Inhabited S_Point := ⟨⟨default, default⟩⟩
structure S_Stream where
  L : List Int
  vat : Int
instance : Inhabited S_Stream := ⟨⟨default, default⟩⟩
structure S_Spot where
  X : Int
  Y : Int
  Light : Int
instance : Inhabited S_Spot := ⟨⟨default, default, default⟩⟩
structure S_Part where
  Cell : Int
  Weight : Int
instance : Inhabited S_Part := ⟨⟨default, default⟩⟩
structure S_Frac where
  Num : Int
  Den : Int
instance : Inhabited S_Frac := ⟨⟨default, default⟩⟩
structure S_Wide where
  Hi : Int
  Lo : Int
instance : Inhabited S_Wide := ⟨⟨default, default⟩⟩
def spymake_Below (k : Nat) (x1 : Int) (n2 : Int) : Option (Int) :=
  if n2 < 1 then (some 0) else (if ¬ (n2 = 0) then (if (Int.tmod x1 n2) < 0 then (some (w64 ((Int.tmod x1 n2) + n2))) else (some (Int.tmod x1 n2))) else none)
def spymake_Stream_Next (k : Nat) (s3 : S_Stream) (n7 : Int) : Option (Int × Int) :=
  if (s3.L.length : Int) = 0 then ((spymake_Below k (w64 ((w64 (s3.vat + 1)) * 7919)) n7).bind fun vt22 => (some (vt22, w64 (s3.vat + 1)))) else (if ¬ ((s3.L.length : Int) = 0) then (if 0 ≤ (Int.tmod (w64 ((w64 (s3.vat + 1)) - 1)) (s3.L.length : Int)) then (if (Int.tmod (w64 ((w64 (s3.vat + 1)) - 1)) (s3.L.length : Int)) < (s3.L.length : Int) then ((spymake_Below k (rd s3.L (Int.tmod (w64 ((w64 (s3.vat + 1)) - 1)) (s3.L.length : Int))) 1073741824).bind fun vt47 => ((spymake_Below k (w64 (vt47 + (w64 ((w64 (Int.tdiv (w64 ((w64 (s3.vat + 1)) - 1)) (s3.L.length : Int))) * (w64 (7919 + (Int.tmod (w64 ((w64 (s3.vat + 1)) - 1)) (s3.L.length : Int)))))))) n7).bind fun vt53 => (some (vt53, w64 (s3.vat + 1))))) else none) else none) else none)
def spymake_Stream_Range (k : Nat) (s3 : S_Stream) (low7 : Int) (high8 : Int) : Option (Int × Int) :=
  if high8 < low7 then (some (low7, s3.vat)) else ((spymake_Stream_Next k s3 (w64 ((w64 (high8 - low7)) + 1))).bind fun (vt21, vt22) => (some (w64 (low7 + vt21), vt22)))
def spykeep3_half (k : Nat) (n1 : Int) : Option (Int) :=
  (spymake_Below k n1 3).bind fun vt6 => (if ¬ (vt6 < 0) then (some (w64 (1 * 2 ^ (min (vt6).toNat 64)))) else none)
def optics_Trail_1 (k : Nat) (q1 : Int) : Option (Bool) :=
  if q1 < 0 then (some true) else (some (decide (q1 > 1048576)))
def slices_IndexFunc_Quanta__optics_Trail_1.l0 (k : Nat) (s1 : List Int) : Nat → Int → Option (Sum Int Unit)
  | 0, _ => none
  | n_ + 1, x26 =>
    if x26 < (s1.length : Int) then (if 0 ≤ x26 then ((optics_Trail_1 k (rd s1 x26)).bind fun vt53 => (if vt53 = true then (some (Sum.inl x26)) else (slices_IndexFunc_Quanta__optics_Trail_1.l0 k s1 n_ (w64 (x26 + 1))))) else none) else (some (Sum.inr ()))
def slices_IndexFunc_Quanta__optics_Trail_1 (k : Nat) (s1 : List Int) : Option (Int) :=
  (slices_IndexFunc_Quanta__optics_Trail_1.l0 k s1 k 0).bind fun z_ => Sum.elim (fun y_ => some y_) (fun _ => (some (-1))) z_
def slices_ContainsFunc_Quanta__optics_Trail_1 (k : Nat) (s1 : List Int) : Option (Bool) :=
  (slices_IndexFunc_Quanta__optics_Trail_1 k s1).bind fun vt9 => (some (decide (vt9 ≥ 0)))
def optics_Reach (k : Nat) (half1 : Int) : Option (Int) :=
  if half1 ≠ 1 then (if half1 ≠ 2 then (if half1 ≠ 4 then (some 0) else (some half1)) else (some half1)) else (some half1)
def num_FloorDiv (k : Nat) (a1 : Int) (b2 : Int) : Option (Int) :=
  if b2 < 1 then (some 0) else (if ¬ (b2 = 0) then (if (Int.tmod a1 b2) < 0 then (some (w64 ((w64 (Int.tdiv a1 b2)) - 1))) else (some (w64 (Int.tdiv a1 b2)))) else none)
def optics_before (k : Nat) (d1 : Int) (n2 : Int) : Option (Int) :=
  if d1 ≤ (w64 (0 - n2)) then (some 0) else (if d1 ≤ 0 then (some (w64 (Int.tdiv (w64 ((w64 (n2 + d1)) * (w64 ((w64 (n2 + d1)) - 1)))) 2))) else (if d1 < n2 then (some (w64 ((w64 (n2 * n2)) - (w64 (Int.tdiv (w64 ((w64 (n2 - d1)) * (w64 ((w64 (n2 - d1)) + 1)))) 2))))) else (some (w64 (n2 * n2)))))
def optics_Axis.l0 (k : Nat) (vt45 : Int) (half2 : Int) (vt37 : Int) : Nat → (List S_Part) → Int → Option ((List S_Part))
  | 0, _, _ => none
  | n_ + 1, out77, cell83 =>
    if cell83 ≤ (w64 ((w64 (vt45 + half2)) + 1)) then ((optics_before k (w64 ((w64 ((w64 (16 * cell83)) - vt37)) + 16)) (w64 (16 * half2))).bind fun vt103 => ((optics_before k (w64 ((w64 (16 * cell83)) - vt37)) (w64 (16 * half2))).bind fun vt109 => (if (w64 (vt103 - vt109)) > 0 then (if (out77.length + 1) * 16 ≤ 140737488355328 then (optics_Axis.l0 k vt45 half2 vt37 n_ (out77 ++ ([(⟨cell83, w64 ((w64 (Int.tdiv 16 (w64 (half2 * half2)))) * (w64 (vt103 - vt109)))⟩ : S_Part)] : List S_Part)) (w64 (cell83 + 1))) else none) else (optics_Axis.l0 k vt45 half2 vt37 n_ out77 (w64 (cell83 + 1)))))) else (some out77)
def optics_Axis (k : Nat) (vat1 : Int) (half2 : Int) : Option ((List S_Part) × Int) :=
  if vat1 < (-65536) then (some (([] : List S_Part), 4)) else (if vat1 > 65536 then (some (([] : List S_Part), 4)) else ((optics_Reach k half2).bind fun vt25 => (if vt25 = 0 then (some (([] : List S_Part), 1)) else ((num_FloorDiv k vat1 16).bind fun vt37 => ((num_FloorDiv k vt37 16).bind fun vt45 => (if ¬ ((w64 (half2 * half2)) = 0) then ((optics_Axis.l0 k vt45 half2 vt37 k ([] : List S_Part) (w64 ((w64 (vt45 - half2)) - 1))).bind fun out139 => (some (out139, 0))) else none))))))
def cmp_Or_Errno.l0 (k : Nat) (vals1 : List Int) : Nat → Int → Option (Sum Int Unit)
  | 0, _ => none
  | n_ + 1, x28 =>
    if x28 < (vals1.length : Int) then (if 0 ≤ x28 then (if (rd vals1 x28) ≠ 0 then (some (Sum.inl (rd vals1 x28))) else (cmp_Or_Errno.l0 k vals1 n_ (w64 (x28 + 1)))) else none) else (some (Sum.inr ()))
def cmp_Or_Errno (k : Nat) (vals1 : List Int) : Option (Int) :=
  (cmp_Or_Errno.l0 k vals1 k 0).bind fun z_ => Sum.elim (fun y_ => some y_) (fun _ => (some 0)) z_
def optics_Point.l1 (k : Nat) (vt12 : List S_Part) (vt26 : List S_Part) (x95 : Int) : Nat → (List S_Spot) → Int → Option ((List S_Spot))
  | 0, _, _ => none
  | n_ + 1, out202, x207 =>
    if x207 < (vt12.length : Int) then (if 0 ≤ x207 then (if (out202.length + 1) * 24 ≤ 140737488355328 then (optics_Point.l1 k vt12 vt26 x95 n_ (out202 ++ ([(⟨(rd vt12 x207).Cell, (rd vt26 x95).Cell, w64 (((rd vt12 x207).Weight) * ((rd vt26 x95).Weight))⟩ : S_Spot)] : List S_Spot)) (w64 (x207 + 1))) else none) else none) else (some out202)
def optics_Point.l0 (k : Nat) (vt26 : List S_Part) (vt12 : List S_Part) : Nat → (List S_Spot) → Int → Option ((List S_Spot))
  | 0, _, _ => none
  | n_ + 1, out89, x95 =>
    if x95 < (vt26.length : Int) then (if 0 ≤ x95 then ((optics_Point.l1 k vt12 vt26 x95 k out89 0).bind fun out258 => (optics_Point.l0 k vt26 vt12 n_ out258 (w64 (x95 + 1)))) else none) else (some out89)
def optics_Point (k : Nat) (p1 : S_Point) (wide2 : Int) (high3 : Int) : Option ((List S_Spot) × Int) :=
  (optics_Axis k p1.X wide2).bind fun (vt12, vt13) => ((optics_Axis k p1.Y high3).bind fun (vt26, vt27) => ((cmp_Or_Errno k ([vt13, vt27] : List Int)).bind fun vt53 => (if vt53 ≠ 0 then (some (([] : List S_Spot), vt53)) else ((optics_Point.l0 k vt26 vt12 k ([] : List S_Spot) 0).bind fun out279 => (some (out279, 0))))))
def optics_add.l1 (k : Nat) (a1 : List S_Spot) (b5 : List S_Spot) (x210 : Int) : Nat → Int → (List ((Int × Int) × Int)) → Option ((List ((Int × Int) × Int)))
  | 0, _, _ => none
  | n_ + 1, x312, x313 =>
    if x312 < ((rd ([a1, b5] : List (List S_Spot)) x210).length : Int) then (if 0 ≤ x312 then (optics_add.l1 k a1 b5 x210 n_ (w64 (x312 + 1)) (aput x313 ((rd (rd ([a1, b5] : List (List S_Spot)) x210) x312).Y, (rd (rd ([a1, b5] : List (List S_Spot)) x210) x312).X) (w64 ((aget 0 x313 ((rd (rd ([a1, b5] : List (List S_Spot)) x210) x312).Y, (rd (rd ([a1, b5] : List (List S_Spot)) x210) x312).X)) + ((rd (rd ([a1, b5] : List (List S_Spot)) x210) x312).Light))))) else none) else (some x313)
def optics_add.l0 (k : Nat) (a1 : List S_Spot) (b5 : List S_Spot) : Nat → Int → (List ((Int × Int) × Int)) → Option ((List ((Int × Int) × Int)))
  | 0, _, _ => none
  | n_ + 1, x210, x211 =>
    if x210 < 2 then (if 0 ≤ x210 then ((optics_add.l1 k a1 b5 x210 k 0 x211).bind fun x370 => (optics_add.l0 k a1 b5 n_ (w64 (x210 + 1)) x370)) else none) else (some x211)
def optics_add.l2 (k : Nat) (vt397 : List (List Int)) (x381 : List ((Int × Int) × Int)) : Nat → (List S_Spot) → Int → Option ((List S_Spot))
  | 0, _, _ => none
  | n_ + 1, out421, x427 =>
    if x427 < (vt397.length : Int) then (if 0 ≤ x427 then (if (aget 0 x381 (((rd vt397 x427).getD 0 default), ((rd vt397 x427).getD 1 default))) ≠ 0 then (if (out421.length + 1) * 24 ≤ 140737488355328 then (optics_add.l2 k vt397 x381 n_ (out421 ++ ([(⟨((rd vt397 x427).getD 1 default), ((rd vt397 x427).getD 0 default), aget 0 x381 (((rd vt397 x427).getD 0 default), ((rd vt397 x427).getD 1 default))⟩ : S_Spot)] : List S_Spot)) (w64 (x427 + 1))) else none) else (optics_add.l2 k vt397 x381 n_ out421 (w64 (x427 + 1)))) else none) else (some out421)
def optics_add (k : Nat) (a1 : List S_Spot) (b5 : List S_Spot) : Option ((List S_Spot)) :=
  (optics_add.l0 k a1 b5 k 0 ([] : List ((Int × Int) × Int))).bind fun x381 => ((sortedKeysA x381).bind fun vt397 => ((optics_add.l2 k vt397 x381 k ([] : List S_Spot) 0).bind fun out489 => (some out489)))
def optics_Trail.l1 (k : Nat) (vt128 : List S_Spot) (rates4 : List Int) (x101 : Int) : Nat → (List S_Spot) → Int → Option ((List S_Spot))
  | 0, _, _ => none
  | n_ + 1, l205, x209 =>
    if x209 < (vt128.length : Int) then (if 0 ≤ x209 then (if x209 < (l205.length : Int) then (optics_Trail.l1 k vt128 rates4 x101 n_ (l205.set (x209).toNat (⟨(rd l205 x209).X, (rd l205 x209).Y, w64 (((rd l205 x209).Light) * (rd rates4 x101))⟩ : S_Spot)) (w64 (x209 + 1))) else none) else none) else (some l205)
def optics_Trail.l0 (k : Nat) (rates4 : List Int) (p1 : S_Point) (dx2 : Int) (dy3 : Int) (wide8 : Int) (high9 : Int) : Nat → (List S_Spot) → Int → Option (Sum ((List S_Spot) × Int) (List S_Spot))
  | 0, _, _ => none
  | n_ + 1, out95, x101 =>
    if x101 < (rates4.length : Int) then (if 0 ≤ x101 then ((optics_Point k (⟨w64 (p1.X + (w64 (x101 * dx2))), w64 (p1.Y + (w64 (x101 * dy3)))⟩ : S_Point) wide8 high9).bind fun (vt128, vt129) => (if vt129 ≠ 0 then (some (Sum.inl (([] : List S_Spot), vt129))) else ((optics_Trail.l1 k vt128 rates4 x101 k vt128 0).bind fun l244 => ((optics_add k out95 l244).bind fun vt262 => (optics_Trail.l0 k rates4 p1 dx2 dy3 wide8 high9 n_ vt262 (w64 (x101 + 1))))))) else none) else (some (Sum.inr out95))
def optics_Trail (k : Nat) (p1 : S_Point) (dx2 : Int) (dy3 : Int) (rates4 : List Int) (wide8 : Int) (high9 : Int) : Option ((List S_Spot) × Int) :=
  if (rates4.length : Int) > 16 then (some (([] : List S_Spot), 2)) else (if (mx dx2 dy3) > 64 then (some (([] : List S_Spot), 4)) else (if (mn dx2 dy3) < (-64) then (some (([] : List S_Spot), 4)) else ((slices_ContainsFunc_Quanta__optics_Trail_1 k rates4).bind fun vt42 => (if vt42 = true then (some (([] : List S_Spot), 4)) else ((optics_Point k p1 wide8 high9).bind fun (vt56, vt57) => (if vt57 ≠ 0 then (some (([] : List S_Spot), vt57)) else ((optics_Trail.l0 k rates4 p1 dx2 dy3 wide8 high9 k ([] : List S_Spot) 0).bind fun z_ => Sum.elim (fun y_ => some y_) (fun out284 => (some (out284, 0))) z_)))))))
def frac_size (k : Nat) (a1 : Int) : Option (Int) :=
  if a1 < 0 then (some (u64 (0 - (u64 (a1))))) else (some (u64 (a1)))
def frac_Make.l0 (k : Nat) : Nat → Int → Int → Option (Int)
  | 0, _, _ => none
  | n_ + 1, x50, y51 =>
    if y51 > 0 then (if ¬ (y51 = 0) then (frac_Make.l0 k n_ y51 (Int.tmod x50 y51)) else none) else (some x50)
def frac_Make (k : Nat) (n1 : Int) (d2 : Int) : Option (S_Frac × Int) :=
  if d2 = 0 then (some ((⟨0, 0⟩ : S_Frac), 1)) else ((frac_size k n1).bind fun vt21 => ((frac_size k d2).bind fun vt27 => ((frac_Make.l0 k k vt21 vt27).bind fun x73 => ((frac_size k n1).bind fun vt81 => (if ¬ (x73 = 0) then ((frac_size k d2).bind fun vt88 => (if (u64 (Int.tdiv vt81 x73)) > 1152921504606846976 then (some ((⟨0, 0⟩ : S_Frac), 2)) else (if (u64 (Int.tdiv vt88 x73)) > 1152921504606846976 then (some ((⟨0, 0⟩ : S_Frac), 2)) else (if ((decide (n1 < 0)) != (decide (d2 < 0))) = true then (some ((⟨w64 (0 - (w64 (u64 (Int.tdiv vt81 x73)))), w64 (u64 (Int.tdiv vt88 x73))⟩ : S_Frac), 0)) else (some ((⟨w64 (u64 (Int.tdiv vt81 x73)), w64 (u64 (Int.tdiv vt88 x73))⟩ : S_Frac), 0)))))) else none)))))
def num_size (k : Nat) (a1 : Int) : Option (Int) :=
  if a1 < 0 then (some (u64 (0 - (u64 (a1))))) else (some (u64 (a1)))
def num_Gcd.l0 (k : Nat) : Nat → Int → Int → Option (Int)
  | 0, _, _ => none
  | n_ + 1, x36, y37 =>
    if y37 > 0 then (if ¬ (y37 = 0) then (num_Gcd.l0 k n_ y37 (Int.tmod x36 y37)) else none) else (some x36)
def num_Gcd (k : Nat) (a1 : Int) (b2 : Int) : Option (Int) :=
  (num_size k a1).bind fun vt7 => ((num_size k b2).bind fun vt13 => ((num_Gcd.l0 k k vt7 vt13).bind fun x59 => (some (w64 (Go.bits .andNot .u64 x59 9223372036854775808)))))
def frac_Check (k : Nat) (x1 : S_Frac) : Option (Int) :=
  if x1.Num < (-1152921504606846976) then (some 4) else (if x1.Num > 1152921504606846976 then (some 4) else (if x1.Den < 1 then (some 4) else (if x1.Den > 1152921504606846976 then (some 4) else ((num_Gcd k x1.Num x1.Den).bind fun vt29 => (if vt29 ≠ 1 then (some 3) else (some 0))))))
def frac_both (k : Nat) (a1 : S_Frac) (b2 : S_Frac) : Option (Int) :=
  (frac_Check k a1).bind fun vt17 => ((frac_Check k b2).bind fun vt23 => ((cmp_Or_Errno k ([vt17, vt23] : List Int)).bind fun vt40 => (some vt40)))
def bits_Mul64 (k : Nat) (x1 : Int) (y2 : Int) : Option (Int × Int) :=
  some (u64 ((u64 ((u64 ((shr x1 32) * (shr y2 32))) + (shr (u64 ((u64 ((shr x1 32) * (Go.bits .and .u64 y2 4294967295))) + (shr (u64 ((Go.bits .and .u64 x1 4294967295) * (Go.bits .and .u64 y2 4294967295))) 32))) 32))) + (shr (u64 ((Go.bits .and .u64 (u64 ((u64 ((shr x1 32) * (Go.bits .and .u64 y2 4294967295))) + (shr (u64 ((Go.bits .and .u64 x1 4294967295) * (Go.bits .and .u64 y2 4294967295))) 32))) 4294967295) + (u64 ((Go.bits .and .u64 x1 4294967295) * (shr y2 32))))) 32)), u64 (x1 * y2))
def num_Wide_Neg (k : Nat) (vw1 : S_Wide) : Option (S_Wide) :=
  if 0 ≤ (Go.bits .xor .u64 IntKind.u64.max vw1.Lo) then (if 0 ≤ (Go.bits .xor .u64 IntKind.u64.max (u64 (vw1.Hi))) then (if 0 ≤ (((Go.bits .xor .u64 IntKind.u64.max vw1.Lo) + 1 + 0) / 18446744073709551616) then (if (((Go.bits .xor .u64 IntKind.u64.max vw1.Lo) + 1 + 0) / 18446744073709551616) ≤ 1 then (some (⟨w64 (((Go.bits .xor .u64 IntKind.u64.max (u64 (vw1.Hi))) + 0 + (((Go.bits .xor .u64 IntKind.u64.max vw1.Lo) + 1 + 0) / 18446744073709551616)) % 18446744073709551616), ((Go.bits .xor .u64 IntKind.u64.max vw1.Lo) + 1 + 0) % 18446744073709551616⟩ : S_Wide)) else none) else none) else none) else none
def num_Product (k : Nat) (a1 : Int) (b2 : Int) : Option (S_Wide) :=
  (num_size k a1).bind fun vt11 => ((num_size k b2).bind fun vt17 => ((bits_Mul64 k vt11 vt17).bind fun (vt23, vt24) => (if ((decide (a1 < 0)) != (decide (b2 < 0))) = true then ((num_Wide_Neg k (⟨w64 (vt23), vt24⟩ : S_Wide)).bind fun vt46 => (some vt46)) else (some (⟨w64 (vt23), vt24⟩ : S_Wide)))))
def num_Mul (k : Nat) (a1 : Int) (b2 : Int) : Option (Int × Bool) :=
  (num_Product k a1 b2).bind fun vt7 => (if vt7.Hi ≠ (shr (w64 (vt7.Lo)) 63) then (some (0, false)) else (some (w64 (vt7.Lo), true)))
def frac_made.l0 (k : Nat) (ok3 : List Bool) : Nat → Int → Option (Sum (S_Frac × Int) Unit)
  | 0, _ => none
  | n_ + 1, x32 =>
    if x32 < (ok3.length : Int) then (if 0 ≤ x32 then (if ¬ ((rd ok3 x32) = true) then (some (Sum.inl ((⟨0, 0⟩ : S_Frac), 2))) else (frac_made.l0 k ok3 n_ (w64 (x32 + 1)))) else none) else (some (Sum.inr ()))
def frac_made (k : Nat) (n1 : Int) (d2 : Int) (ok3 : List Bool) : Option (S_Frac × Int) :=
  (frac_made.l0 k ok3 k 0).bind fun z_ => Sum.elim (fun y_ => some y_) (fun _ => (if n1 < (-1152921504606846976) then (some ((⟨0, 0⟩ : S_Frac), 2)) else (if n1 > 1152921504606846976 then (some ((⟨0, 0⟩ : S_Frac), 2)) else (if d2 > 1152921504606846976 then (some ((⟨0, 0⟩ : S_Frac), 2)) else (some ((⟨n1, d2⟩ : S_Frac), 0)))))) z_
def frac_Mul (k : Nat) (a1 : S_Frac) (b2 : S_Frac) : Option (S_Frac × Int) :=
  (frac_both k a1 b2).bind fun vt21 => (if vt21 ≠ 0 then (some ((⟨0, 0⟩ : S_Frac), vt21)) else ((num_Gcd k a1.Num b2.Den).bind fun vt39 => ((num_Gcd k b2.Num a1.Den).bind fun vt45 => (if ¬ (vt39 = 0) then (if ¬ (vt45 = 0) then ((num_Mul k (w64 (Int.tdiv a1.Num vt39)) (w64 (Int.tdiv b2.Num vt45))).bind fun (vt57, vt58) => ((num_Mul k (w64 (Int.tdiv a1.Den vt45)) (w64 (Int.tdiv b2.Den vt39))).bind fun (vt68, vt69) => ((frac_made k vt57 vt68 ([vt58, vt69] : List Bool)).bind fun (vt88, vt89) => (some (vt88, vt89))))) else none) else none))))
def optics_Centre_1 (k : Nat) (v5 : Int) (v6 : Int) (n7 : Int) : Option (S_Frac × Int) :=
  (frac_Make k n7 v5).bind fun (vt16, vt17) => ((frac_Mul k vt16 (⟨128, 1⟩ : S_Frac)).bind fun (vt31, vt32) => ((cmp_Or_Errno k ([v6, vt17, vt32] : List Int)).bind fun vt53 => (some (vt31, vt53))))
def optics_Centre.l0 (k : Nat) (l1 : List S_Spot) : Nat → Int → Int → Int → Int → Option (Sum (S_Frac × S_Frac × Int) (Int × Int × Int))
  | 0, _, _, _, _ => none
  | n_ + 1, sx156, sy157, x158, x159 =>
    if x158 < (l1.length : Int) then (if 0 ≤ x158 then (if (mx ((rd l1 x158).X) ((rd l1 x158).Y)) > 300 then (some (Sum.inl ((⟨0, 0⟩ : S_Frac), (⟨0, 0⟩ : S_Frac), 4))) else (if (mn ((rd l1 x158).X) ((rd l1 x158).Y)) < (-300) then (some (Sum.inl ((⟨0, 0⟩ : S_Frac), (⟨0, 0⟩ : S_Frac), 4))) else (if ((rd l1 x158).Light) < 0 then (some (Sum.inl ((⟨0, 0⟩ : S_Frac), (⟨0, 0⟩ : S_Frac), 4))) else (if ((rd l1 x158).Light) > (w64 (281474976710656 - x159)) then (some (Sum.inl ((⟨0, 0⟩ : S_Frac), (⟨0, 0⟩ : S_Frac), 2))) else (optics_Centre.l0 k l1 n_ (w64 (sx156 + (w64 (((rd l1 x158).Light) * (w64 ((w64 (2 * ((rd l1 x158).X))) + 1)))))) (w64 (sy157 + (w64 (((rd l1 x158).Light) * (w64 ((w64 (2 * ((rd l1 x158).Y))) + 1)))))) (w64 (x158 + 1)) (w64 (x159 + ((rd l1 x158).Light)))))))) else none) else (some (Sum.inr (sx156, sy157, x159)))
def optics_Centre (k : Nat) (l1 : List S_Spot) : Option (S_Frac × S_Frac × Int) :=
  (optics_Centre.l0 k l1 k 0 0 0 0).bind fun z_ => Sum.elim (fun y_ => some y_) (fun (sx265, sy266, x267) => (if x267 = 0 then (some ((⟨0, 0⟩ : S_Frac), (⟨0, 0⟩ : S_Frac), 8)) else ((optics_Centre_1 k x267 0 sx265).bind fun (vt303, vt304) => ((optics_Centre_1 k x267 vt304 sy266).bind fun (vt312, vt313) => (if vt313 ≠ 0 then (some ((⟨0, 0⟩ : S_Frac), (⟨0, 0⟩ : S_Frac), vt313)) else (some (vt303, vt312, 0))))))) z_
def spykeep3_spreads (k : Nat) : Option (Bool) :=
  (optics_Point k (⟨128, 128⟩ : S_Point) 1 1).bind fun (vt5, vt6) => (if vt6 = 0 then (if (vt5.length : Int) = 9 then (if 4 < (vt5.length : Int) then (some ((((rd vt5 4).X) == 0) && ((((rd vt5 4).Y) == 0) && ((((rd vt5 4).Light) == 9437184) && true)))) else none) else (some false)) else (some false))
def frac_rounded__num_FloorDiv (k : Nat) (x1 : S_Frac) : Option (Int) :=
  (frac_Check k x1).bind fun vt12 => (if vt12 ≠ 0 then (some 0) else ((num_FloorDiv k x1.Num x1.Den).bind fun vt24 => (some vt24)))
def frac_Floor (k : Nat) (x1 : S_Frac) : Option (Int) :=
  (frac_rounded__num_FloorDiv k x1).bind fun vt10 => (some vt10)
def num_CeilDiv (k : Nat) (a1 : Int) (b2 : Int) : Option (Int) :=
  if b2 < 1 then (some 0) else (if ¬ (b2 = 0) then (if (Int.tmod a1 b2) > 0 then (some (w64 ((w64 (Int.tdiv a1 b2)) + 1))) else (some (w64 (Int.tdiv a1 b2)))) else none)
def frac_rounded__num_CeilDiv (k : Nat) (x1 : S_Frac) : Option (Int) :=
  (frac_Check k x1).bind fun vt12 => (if vt12 ≠ 0 then (some 0) else ((num_CeilDiv k x1.Num x1.Den).bind fun vt24 => (some vt24)))
def frac_Ceil (k : Nat) (x1 : S_Frac) : Option (Int) :=
  (frac_rounded__num_CeilDiv k x1).bind fun vt10 => (some vt10)
def spykeep3_OpticsTrailsCentre_1 (k : Nat) (v3 : List Int) (c7 : S_Frac) (vat8 : Int) (d9 : Int) : Option (Bool) :=
  (frac_Floor k c7).bind fun vt20 => (if vt20 ≥ (w64 ((w64 (vat8 - 7)) + (mn 0 (w64 (d9 * (w64 ((v3.length : Int) - 1))))))) then ((frac_Ceil k c7).bind fun vt27 => (some (decide (vt27 ≤ (w64 ((w64 (vat8 + 8)) + (mx 0 (w64 (d9 * (w64 ((v3.length : Int) - 1))))))))))) else (some false))
def spykeep3_OpticsTrailsCentre.l0 (k : Nat) (vt55 : Int) (l4 : List Int) : Nat → Int → Int → (List Int) → Option (Int × (List Int))
  | 0, _, _, _ => none
  | n_ + 1, x194, x195, x196 =>
    if x194 < vt55 then ((spymake_Stream_Next k (⟨l4, x195⟩ : S_Stream) 5000).bind fun (vt222, vt223) => (if (x196.length + 1) * 8 ≤ 140737488355328 then (spykeep3_OpticsTrailsCentre.l0 k vt55 l4 n_ (w64 (x194 + 1)) vt223 (x196 ++ ([vt222] : List Int))) else none)) else (some (x195, x196))
def spykeep3_OpticsTrailsCentre (k : Nat) (p1 : S_Point) (dx2 : Int) (dy3 : Int) (l4 : List Int) (n8 : Int) : Option (Bool) :=
  (spymake_Stream_Range k (⟨l4, 0⟩ : S_Stream) 1 5000).bind fun (vt31, vt32) => ((spymake_Stream_Next k (⟨l4, vt32⟩ : S_Stream) 16).bind fun (vt55, vt56) => ((spykeep3_OpticsTrailsCentre.l0 k vt55 l4 k 0 vt56 ([vt31] : List Int)).bind fun (x252, x253) => ((spykeep3_half k n8).bind fun vt269 => ((spykeep3_half k (w64 (Int.tdiv n8 3))).bind fun vt275 => ((optics_Trail k (⟨Int.tmod p1.X 20000, Int.tmod p1.Y 20000⟩ : S_Point) (Int.tmod dx2 65) (Int.tmod dy3 65) x253 vt269 vt275).bind fun (vt287, vt288) => ((optics_Centre k vt287).bind fun (vt314, vt315, vt316) => ((spykeep3_spreads k).bind fun vt343 => (if ¬ (vt343 = true) then (some false) else (if vt288 ≠ 0 then (some false) else (if vt316 ≠ 0 then (some false) else ((spykeep3_OpticsTrailsCentre_1 k x253 vt314 (Int.tmod p1.X 20000) (Int.tmod dx2 65)).bind fun vt370 => (if vt370 = true then ((spykeep3_OpticsTrailsCentre_1 k x253 vt315 (Int.tmod p1.Y 20000) (Int.tmod dy3 65)).bind fun vt385 => (some vt385)) else (some false)))))))))))))
end Go.Sp.X4
