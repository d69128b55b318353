import Derived.Test.YtjdjbmokjhooaaaSpRows
namespace Go.Sp.T4
open Go Go.Sp
set_option linter.unusedVariables false
structure S_Point where
  X : Int
  Y : Int
instance : Inhabited S_Point := ⟨⟨default, default⟩⟩
structure S_Spot where
  X : Int
  Y : Int
  Light : Int
instance : Inhabited S_Spot := ⟨⟨default, default, default⟩⟩
structure S_Part where
  Cell : Int
  Weight : Int
instance : Inhabited S_Part := ⟨⟨default, default⟩⟩
structure S_Frac where
  Num : Int
  Den : Int
instance : Inhabited S_Frac := ⟨⟨default, default⟩⟩
structure S_Wide where
  Hi : Int
  Lo : Int
instance : Inhabited S_Wide := ⟨⟨default, default⟩⟩
def spymake_Below (k : Nat) (x1 : Int) (n2 : Int) : Option (Int) :=
  if n2 < 1 then (some 0) else (if ¬ (n2 = 0) then (if (Int.tmod x1 n2) < 0 then (some (w64 ((Int.tmod x1 n2) + n2))) else (some (Int.tmod x1 n2))) else none)
def spykeep3_half (k : Nat) (n1 : Int) : Option (Int) :=
  (spymake_Below k n1 3).bind fun vt6 => (if ¬ (vt6 < 0) then (some (w64 (1 * 2 ^ (min (vt6).toNat 64)))) else none)
def optics_Reach (k : Nat) (half1 : Int) : Option (Int) :=
  if half1 ≠ 1 then (if half1 ≠ 2 then (if half1 ≠ 4 then (some 0) else (some half1)) else (some half1)) else (some half1)
def num_FloorDiv (k : Nat) (a1 : Int) (b2 : Int) : Option (Int) :=
  if b2 < 1 then (some 0) else (if ¬ (b2 = 0) then (if (Int.tmod a1 b2) < 0 then (some (w64 ((w64 (Int.tdiv a1 b2)) - 1))) else (some (w64 (Int.tdiv a1 b2)))) else none)
def optics_before (k : Nat) (d1 : Int) (n2 : Int) : Option (Int) :=
  if d1 ≤ (w64 (0 - n2)) then (some 0) else (if d1 ≤ 0 then (some (w64 (Int.tdiv (w64 ((w64 (n2 + d1)) * (w64 ((w64 (n2 + d1)) - 1)))) 2))) else (if d1 < n2 then (some (w64 ((w64 (n2 * n2)) - (w64 (Int.tdiv (w64 ((w64 (n2 - d1)) * (w64 ((w64 (n2 - d1)) + 1)))) 2))))) else (some (w64 (n2 * n2)))))
def optics_Axis.l0 (k : Nat) (vt45 : Int) (half2 : Int) (vt37 : Int) : Nat → (List S_Part) → Int → Option ((List S_Part))
  | 0, _, _ => none
  | n_ + 1, out77, cell83 =>
    if cell83 ≤ (w64 ((w64 (vt45 + half2)) + 1)) then ((optics_before k (w64 ((w64 ((w64 (16 * cell83)) - vt37)) + 16)) (w64 (16 * half2))).bind fun vt103 => ((optics_before k (w64 ((w64 (16 * cell83)) - vt37)) (w64 (16 * half2))).bind fun vt109 => (if (w64 (vt103 - vt109)) > 0 then (if (out77.length + 1) * 16 ≤ 140737488355328 then (optics_Axis.l0 k vt45 half2 vt37 n_ (out77 ++ ([(⟨cell83, w64 ((w64 (Int.tdiv 16 (w64 (half2 * half2)))) * (w64 (vt103 - vt109)))⟩ : S_Part)] : List S_Part)) (w64 (cell83 + 1))) else none) else (optics_Axis.l0 k vt45 half2 vt37 n_ out77 (w64 (cell83 + 1)))))) else (some out77)
def optics_Axis (k : Nat) (vat1 : Int) (half2 : Int) : Option ((List S_Part) × Int) :=
  if vat1 < (-65536) then (some (([] : List S_Part), 4)) else (if vat1 > 65536 then (some (([] : List S_Part), 4)) else ((optics_Reach k half2).bind fun vt25 => (if vt25 = 0 then (some (([] : List S_Part), 1)) else ((num_FloorDiv k vat1 16).bind fun vt37 => ((num_FloorDiv k vt37 16).bind fun vt45 => (if ¬ ((w64 (half2 * half2)) = 0) then ((optics_Axis.l0 k vt45 half2 vt37 k ([] : List S_Part) (w64 ((w64 (vt45 - half2)) - 1))).bind fun out139 => (some (out139, 0))) else none))))))
def cmp_Or_Errno.l0 (k : Nat) (vals1 : List Int) : Nat → Int → Option (Sum Int Unit)
  | 0, _ => none
  | n_ + 1, x28 =>
    if x28 < (vals1.length : Int) then (if 0 ≤ x28 then (if (rd vals1 x28) ≠ 0 then (some (Sum.inl (rd vals1 x28))) else (cmp_Or_Errno.l0 k vals1 n_ (w64 (x28 + 1)))) else none) else (some (Sum.inr ()))
def cmp_Or_Errno (k : Nat) (vals1 : List Int) : Option (Int) :=
  (cmp_Or_Errno.l0 k vals1 k 0).bind fun z_ => Sum.elim (fun y_ => some y_) (fun _ => (some 0)) z_
def optics_Point.l1 (k : Nat) (vt12 : List S_Part) (vt26 : List S_Part) (x95 : Int) : Nat → (List S_Spot) → Int → Option ((List S_Spot))
  | 0, _, _ => none
  | n_ + 1, out200, x205 =>
    if x205 < (vt12.length : Int) then (if 0 ≤ x205 then (if (out200.length + 1) * 24 ≤ 140737488355328 then (optics_Point.l1 k vt12 vt26 x95 n_ (out200 ++ ([(⟨(rd vt12 x205).Cell, (rd vt26 x95).Cell, w64 (((rd vt12 x205).Weight) * ((rd vt26 x95).Weight))⟩ : S_Spot)] : List S_Spot)) (w64 (x205 + 1))) else none) else none) else (some out200)
def optics_Point.l0 (k : Nat) (vt26 : List S_Part) (vt12 : List S_Part) : Nat → (List S_Spot) → Int → Option ((List S_Spot))
  | 0, _, _ => none
  | n_ + 1, out89, x95 =>
    if x95 < (vt26.length : Int) then (if 0 ≤ x95 then ((optics_Point.l1 k vt12 vt26 x95 k out89 0).bind fun out255 => (optics_Point.l0 k vt26 vt12 n_ out255 (w64 (x95 + 1)))) else none) else (some out89)
def optics_Point (k : Nat) (p1 : S_Point) (wide2 : Int) (high3 : Int) : Option ((List S_Spot) × Int) :=
  (optics_Axis k p1.X wide2).bind fun (vt12, vt13) => ((optics_Axis k p1.Y high3).bind fun (vt26, vt27) => ((cmp_Or_Errno k ([vt13, vt27] : List Int)).bind fun vt53 => (if vt53 ≠ 0 then (some (([] : List S_Spot), vt53)) else ((optics_Point.l0 k vt26 vt12 k ([] : List S_Spot) 0).bind fun out276 => (some (out276, 0))))))
def frac_size (k : Nat) (a1 : Int) : Option (Int) :=
  if a1 < 0 then (some (u64 (0 - (u64 (a1))))) else (some (u64 (a1)))
def frac_Make.l0 (k : Nat) : Nat → Int → Int → Option (Int)
  | 0, _, _ => none
  | n_ + 1, x50, y51 =>
    if y51 > 0 then (if ¬ (y51 = 0) then (frac_Make.l0 k n_ y51 (Int.tmod x50 y51)) else none) else (some x50)
def frac_Make (k : Nat) (n1 : Int) (d2 : Int) : Option (S_Frac × Int) :=
  if d2 = 0 then (some ((⟨0, 0⟩ : S_Frac), 1)) else ((frac_size k n1).bind fun vt21 => ((frac_size k d2).bind fun vt27 => ((frac_Make.l0 k k vt21 vt27).bind fun x73 => ((frac_size k n1).bind fun vt81 => (if ¬ (x73 = 0) then ((frac_size k d2).bind fun vt88 => (if (u64 (Int.tdiv vt81 x73)) > 1152921504606846976 then (some ((⟨0, 0⟩ : S_Frac), 2)) else (if (u64 (Int.tdiv vt88 x73)) > 1152921504606846976 then (some ((⟨0, 0⟩ : S_Frac), 2)) else (if ((decide (n1 < 0)) != (decide (d2 < 0))) = true then (some ((⟨w64 (0 - (w64 (u64 (Int.tdiv vt81 x73)))), w64 (u64 (Int.tdiv vt88 x73))⟩ : S_Frac), 0)) else (some ((⟨w64 (u64 (Int.tdiv vt81 x73)), w64 (u64 (Int.tdiv vt88 x73))⟩ : S_Frac), 0)))))) else none)))))
def num_size (k : Nat) (a1 : Int) : Option (Int) :=
  if a1 < 0 then (some (u64 (0 - (u64 (a1))))) else (some (u64 (a1)))
def num_Gcd.l0 (k : Nat) : Nat → Int → Int → Option (Int)
  | 0, _, _ => none
  | n_ + 1, x36, y37 =>
    if y37 > 0 then (if ¬ (y37 = 0) then (num_Gcd.l0 k n_ y37 (Int.tmod x36 y37)) else none) else (some x36)
def num_Gcd (k : Nat) (a1 : Int) (b2 : Int) : Option (Int) :=
  (num_size k a1).bind fun vt7 => ((num_size k b2).bind fun vt13 => ((num_Gcd.l0 k k vt7 vt13).bind fun x59 => (some (w64 (Go.bits .andNot .u64 x59 9223372036854775808)))))
def frac_Check (k : Nat) (x1 : S_Frac) : Option (Int) :=
  if x1.Num < (-1152921504606846976) then (some 4) else (if x1.Num > 1152921504606846976 then (some 4) else (if x1.Den < 1 then (some 4) else (if x1.Den > 1152921504606846976 then (some 4) else ((num_Gcd k x1.Num x1.Den).bind fun vt29 => (if vt29 ≠ 1 then (some 3) else (some 0))))))
def frac_both (k : Nat) (a1 : S_Frac) (b2 : S_Frac) : Option (Int) :=
  (frac_Check k a1).bind fun vt17 => ((frac_Check k b2).bind fun vt23 => ((cmp_Or_Errno k ([vt17, vt23] : List Int)).bind fun vt40 => (some vt40)))
def bits_Mul64 (k : Nat) (x1 : Int) (y2 : Int) : Option (Int × Int) :=
  some (u64 ((u64 ((u64 ((shr x1 32) * (shr y2 32))) + (shr (u64 ((u64 ((shr x1 32) * (Go.bits .and .u64 y2 4294967295))) + (shr (u64 ((Go.bits .and .u64 x1 4294967295) * (Go.bits .and .u64 y2 4294967295))) 32))) 32))) + (shr (u64 ((Go.bits .and .u64 (u64 ((u64 ((shr x1 32) * (Go.bits .and .u64 y2 4294967295))) + (shr (u64 ((Go.bits .and .u64 x1 4294967295) * (Go.bits .and .u64 y2 4294967295))) 32))) 4294967295) + (u64 ((Go.bits .and .u64 x1 4294967295) * (shr y2 32))))) 32)), u64 (x1 * y2))
def num_Wide_Neg (k : Nat) (vw1 : S_Wide) : Option (S_Wide) :=
  if 0 ≤ (Go.bits .xor .u64 IntKind.u64.max vw1.Lo) then (if 0 ≤ (Go.bits .xor .u64 IntKind.u64.max (u64 (vw1.Hi))) then (if 0 ≤ (((Go.bits .xor .u64 IntKind.u64.max vw1.Lo) + 1 + 0) / 18446744073709551616) then (if (((Go.bits .xor .u64 IntKind.u64.max vw1.Lo) + 1 + 0) / 18446744073709551616) ≤ 1 then (some (⟨w64 (((Go.bits .xor .u64 IntKind.u64.max (u64 (vw1.Hi))) + 0 + (((Go.bits .xor .u64 IntKind.u64.max vw1.Lo) + 1 + 0) / 18446744073709551616)) % 18446744073709551616), ((Go.bits .xor .u64 IntKind.u64.max vw1.Lo) + 1 + 0) % 18446744073709551616⟩ : S_Wide)) else none) else none) else none) else none
def num_Product (k : Nat) (a1 : Int) (b2 : Int) : Option (S_Wide) :=
  (num_size k a1).bind fun vt11 => ((num_size k b2).bind fun vt17 => ((bits_Mul64 k vt11 vt17).bind fun (vt23, vt24) => (if ((decide (a1 < 0)) != (decide (b2 < 0))) = true then ((num_Wide_Neg k (⟨w64 (vt23), vt24⟩ : S_Wide)).bind fun vt46 => (some vt46)) else (some (⟨w64 (vt23), vt24⟩ : S_Wide)))))
def num_Mul (k : Nat) (a1 : Int) (b2 : Int) : Option (Int × Bool) :=
  (num_Product k a1 b2).bind fun vt7 => (if vt7.Hi ≠ (shr (w64 (vt7.Lo)) 63) then (some (0, false)) else (some (w64 (vt7.Lo), true)))
def frac_made.l0 (k : Nat) (ok3 : List Bool) : Nat → Int → Option (Sum (S_Frac × Int) Unit)
  | 0, _ => none
  | n_ + 1, x32 =>
    if x32 < (ok3.length : Int) then (if 0 ≤ x32 then (if ¬ ((rd ok3 x32) = true) then (some (Sum.inl ((⟨0, 0⟩ : S_Frac), 2))) else (frac_made.l0 k ok3 n_ (w64 (x32 + 1)))) else none) else (some (Sum.inr ()))
def frac_made (k : Nat) (n1 : Int) (d2 : Int) (ok3 : List Bool) : Option (S_Frac × Int) :=
  (frac_made.l0 k ok3 k 0).bind fun z_ => Sum.elim (fun y_ => some y_) (fun _ => (if n1 < (-1152921504606846976) then (some ((⟨0, 0⟩ : S_Frac), 2)) else (if n1 > 1152921504606846976 then (some ((⟨0, 0⟩ : S_Frac), 2)) else (if d2 > 1152921504606846976 then (some ((⟨0, 0⟩ : S_Frac), 2)) else (some ((⟨n1, d2⟩ : S_Frac), 0)))))) z_
def frac_Mul (k : Nat) (a1 : S_Frac) (b2 : S_Frac) : Option (S_Frac × Int) :=
  (frac_both k a1 b2).bind fun vt21 => (if vt21 ≠ 0 then (some ((⟨0, 0⟩ : S_Frac), vt21)) else ((num_Gcd k a1.Num b2.Den).bind fun vt39 => ((num_Gcd k b2.Num a1.Den).bind fun vt45 => (if ¬ (vt39 = 0) then (if ¬ (vt45 = 0) then ((num_Mul k (w64 (Int.tdiv a1.Num vt39)) (w64 (Int.tdiv b2.Num vt45))).bind fun (vt57, vt58) => ((num_Mul k (w64 (Int.tdiv a1.Den vt45)) (w64 (Int.tdiv b2.Den vt39))).bind fun (vt68, vt69) => ((frac_made k vt57 vt68 ([vt58, vt69] : List Bool)).bind fun (vt88, vt89) => (some (vt88, vt89))))) else none) else none))))
def optics_Centre_1 (k : Nat) (v5 : Int) (v6 : Int) (n7 : Int) : Option (S_Frac × Int) :=
  (frac_Make k n7 v5).bind fun (vt16, vt17) => ((frac_Mul k vt16 (⟨128, 1⟩ : S_Frac)).bind fun (vt31, vt32) => ((cmp_Or_Errno k ([v6, vt17, vt32] : List Int)).bind fun vt53 => (some (vt31, vt53))))
def optics_Centre.l0 (k : Nat) (l1 : List S_Spot) : Nat → Int → Int → Int → Int → Option (Sum (S_Frac × S_Frac × Int) (Int × Int × Int))
  | 0, _, _, _, _ => none
  | n_ + 1, sx155, sy156, x157, x158 =>
    if x157 < (l1.length : Int) then (if 0 ≤ x157 then (if (mx ((rd l1 x157).X) ((rd l1 x157).Y)) > 300 then (some (Sum.inl ((⟨0, 0⟩ : S_Frac), (⟨0, 0⟩ : S_Frac), 4))) else (if (mn ((rd l1 x157).X) ((rd l1 x157).Y)) < (-300) then (some (Sum.inl ((⟨0, 0⟩ : S_Frac), (⟨0, 0⟩ : S_Frac), 4))) else (if ((rd l1 x157).Light) < 0 then (some (Sum.inl ((⟨0, 0⟩ : S_Frac), (⟨0, 0⟩ : S_Frac), 4))) else (if ((rd l1 x157).Light) > (w64 (281474976710656 - x158)) then (some (Sum.inl ((⟨0, 0⟩ : S_Frac), (⟨0, 0⟩ : S_Frac), 2))) else (optics_Centre.l0 k l1 n_ (w64 (sx155 + (w64 (((rd l1 x157).Light) * (w64 ((w64 (2 * ((rd l1 x157).X))) + 1)))))) (w64 (sy156 + (w64 (((rd l1 x157).Light) * (w64 ((w64 (2 * ((rd l1 x157).Y))) + 1)))))) (w64 (x157 + 1)) (w64 (x158 + ((rd l1 x157).Light)))))))) else none) else (some (Sum.inr (sx155, sy156, x158)))
def optics_Centre (k : Nat) (l1 : List S_Spot) : Option (S_Frac × S_Frac × Int) :=
  (optics_Centre.l0 k l1 k 0 0 0 0).bind fun z_ => Sum.elim (fun y_ => some y_) (fun (sx263, sy264, x265) => (if x265 = 0 then (some ((⟨0, 0⟩ : S_Frac), (⟨0, 0⟩ : S_Frac), 8)) else ((optics_Centre_1 k x265 0 sx263).bind fun (vt301, vt302) => ((optics_Centre_1 k x265 vt302 sy264).bind fun (vt310, vt311) => (if vt311 ≠ 0 then (some ((⟨0, 0⟩ : S_Frac), (⟨0, 0⟩ : S_Frac), vt311)) else (some (vt301, vt310, 0))))))) z_
def spykeep3_spreads (k : Nat) : Option (Bool) :=
  (optics_Point k (⟨128, 128⟩ : S_Point) 1 1).bind fun (vt5, vt6) => (if vt6 = 0 then (if (vt5.length : Int) = 9 then (if 4 < (vt5.length : Int) then (some ((((rd vt5 4).X) == 0) && ((((rd vt5 4).Y) == 0) && ((((rd vt5 4).Light) == 9437184) && true)))) else none) else (some false)) else (some false))
def spykeep3_OpticsPointsCentre.l0 (k : Nat) (vt46 : List S_Spot) (vt74 : List S_Spot) (vt18 : Int) (vt24 : Int) : Nat → Int → Int → Option (Sum Bool Int)
  | 0, _, _ => none
  | n_ + 1, sum166, x167 =>
    if x167 < (vt46.length : Int) then (if 0 ≤ x167 then (if x167 < (vt74.length : Int) then (if (!((((rd vt74 x167).X) == (w64 (((rd vt46 x167).X) + (w64 (vt18 - 30))))) && ((((rd vt74 x167).Y) == (w64 (((rd vt46 x167).Y) + (w64 (vt24 - 30))))) && ((((rd vt74 x167).Light) == ((rd vt46 x167).Light)) && true)))) = true then (some (Sum.inl false)) else (spykeep3_OpticsPointsCentre.l0 k vt46 vt74 vt18 vt24 n_ (w64 (sum166 + ((rd vt46 x167).Light))) (w64 (x167 + 1)))) else none) else none) else (some (Sum.inr sum166))
def spykeep3_OpticsPointsCentre (k : Nat) (p1 : S_Point) (wide2 : Int) (high3 : Int) (dx4 : Int) (dy5 : Int) : Option (Bool) :=
  (spymake_Below k dx4 60).bind fun vt18 => ((spymake_Below k dy5 60).bind fun vt24 => ((spykeep3_half k wide2).bind fun vt34 => ((spykeep3_half k high3).bind fun vt40 => ((optics_Point k (⟨Int.tmod p1.X 20000, Int.tmod p1.Y 20000⟩ : S_Point) vt34 vt40).bind fun (vt46, vt47) => ((spykeep3_half k wide2).bind fun vt62 => ((spykeep3_half k high3).bind fun vt68 => ((optics_Point k (⟨w64 ((Int.tmod p1.X 20000) + (w64 (256 * (w64 (vt18 - 30))))), w64 ((Int.tmod p1.Y 20000) + (w64 (256 * (w64 (vt24 - 30)))))⟩ : S_Point) vt62 vt68).bind fun (vt74, vt75) => ((optics_Centre k vt46).bind fun (vt94, vt95, vt96) => ((spykeep3_spreads k).bind fun vt123 => (if ¬ (vt123 = true) then (some false) else (if vt47 ≠ 0 then (some false) else (if vt75 ≠ 0 then (some false) else (if vt96 ≠ 0 then (some false) else (if (vt46.length : Int) ≠ (vt74.length : Int) then (some false) else ((spykeep3_OpticsPointsCentre.l0 k vt46 vt74 vt18 vt24 k 0 0).bind fun z_ => Sum.elim (fun y_ => some y_) (fun sum218 => (if sum218 = 16777216 then (if ((vt94.Num == (w64 ((w64 ((shr (Int.tmod p1.X 20000) 4) * 16)) + 8))) && ((vt94.Den == 1) && true)) = true then (some ((vt95.Num == (w64 ((w64 ((shr (Int.tmod p1.Y 20000) 4) * 16)) + 8))) && ((vt95.Den == 1) && true))) else (some false)) else (some false))) z_)))))))))))))))
end Go.Sp.T4
