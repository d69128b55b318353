import Derived.Test.YtcnhbfdkediodaaSpMapA
import Derived.Test.YtcnhbfdkediodaaSpCopy
namespace Go.Sp.X3
open Go Go.Sp
set_option linter.unusedVariables false
structure S_Point where
  X : Int
  Y : Int
instance : Inhabited S_Point := ⟨⟨default, default⟩⟩
structure S_Stream where
  L : List Int
  vat : Int
instance : Inhabited S_Stream := ⟨⟨default, default⟩⟩
structure S_Spot where
  X : Int
  Y : Int
  Light : Int
instance : Inhabited S_Spot := ⟨⟨default, default, default⟩⟩
structure S_Part where
  Cell : Int
  Weight : Int
instance : Inhabited S_Part := ⟨⟨default, default⟩⟩
def spymake_Below (k : Nat) (x1 : Int) (n2 : Int) : Option (Int) :=
  if n2 < 1 then (some 0) else (if ¬ (n2 = 0) then (if (Int.tmod x1 n2) < 0 then (some (w64 ((Int.tmod x1 n2) + n2))) else (some (Int.tmod x1 n2))) else none)
def spymake_Stream_Next (k : Nat) (s3 : S_Stream) (n7 : Int) : Option (Int × Int) :=
  if (s3.L.length : Int) = 0 then ((spymake_Below k (w64 ((w64 (s3.vat + 1)) * 7919)) n7).bind fun vt22 => (some (vt22, w64 (s3.vat + 1)))) else (if ¬ ((s3.L.length : Int) = 0) then (if 0 ≤ (Int.tmod (w64 ((w64 (s3.vat + 1)) - 1)) (s3.L.length : Int)) then (if (Int.tmod (w64 ((w64 (s3.vat + 1)) - 1)) (s3.L.length : Int)) < (s3.L.length : Int) then ((spymake_Below k (rd s3.L (Int.tmod (w64 ((w64 (s3.vat + 1)) - 1)) (s3.L.length : Int))) 1073741824).bind fun vt47 => ((spymake_Below k (w64 (vt47 + (w64 ((w64 (Int.tdiv (w64 ((w64 (s3.vat + 1)) - 1)) (s3.L.length : Int))) * (w64 (7919 + (Int.tmod (w64 ((w64 (s3.vat + 1)) - 1)) (s3.L.length : Int)))))))) n7).bind fun vt53 => (some (vt53, w64 (s3.vat + 1))))) else none) else none) else none)
def spykeep3_rates.l0 (k : Nat) (vt15 : Int) (s3 : S_Stream) : Nat → (List Int) → Int → Int → Option ((List Int) × Int)
  | 0, _, _, _ => none
  | n_ + 1, out91, x97, x98 =>
    if x97 < vt15 then ((spymake_Stream_Next k (⟨s3.L, x98⟩ : S_Stream) 5000).bind fun (vt115, vt116) => (if (out91.length + 1) * 8 ≤ 140737488355328 then (spykeep3_rates.l0 k vt15 s3 n_ (out91 ++ ([vt115] : List Int)) (w64 (x97 + 1)) vt116) else none)) else (some (out91, x98))
def spykeep3_rates (k : Nat) (s3 : S_Stream) : Option ((List Int) × Int) :=
  (spymake_Stream_Next k s3 17).bind fun (vt15, vt16) => ((spykeep3_rates.l0 k vt15 s3 k ([] : List Int) 0 vt16).bind fun (out142, x148) => (some (out142, x148)))
def spykeep3_half (k : Nat) (n1 : Int) : Option (Int) :=
  (spymake_Below k n1 3).bind fun vt6 => (if ¬ (vt6 < 0) then (some (w64 (1 * 2 ^ (min (vt6).toNat 64)))) else none)
def optics_Trail_1 (k : Nat) (q1 : Int) : Option (Bool) :=
  if q1 < 0 then (some true) else (some (decide (q1 > 1048576)))
def slices_IndexFunc_Quanta__optics_Trail_1.l0 (k : Nat) (s1 : List Int) : Nat → Int → Option (Sum Int Unit)
  | 0, _ => none
  | n_ + 1, x26 =>
    if x26 < (s1.length : Int) then (if 0 ≤ x26 then ((optics_Trail_1 k (rd s1 x26)).bind fun vt53 => (if vt53 = true then (some (Sum.inl x26)) else (slices_IndexFunc_Quanta__optics_Trail_1.l0 k s1 n_ (w64 (x26 + 1))))) else none) else (some (Sum.inr ()))
def slices_IndexFunc_Quanta__optics_Trail_1 (k : Nat) (s1 : List Int) : Option (Int) :=
  (slices_IndexFunc_Quanta__optics_Trail_1.l0 k s1 k 0).bind fun z_ => Sum.elim (fun y_ => some y_) (fun _ => (some (-1))) z_
def slices_ContainsFunc_Quanta__optics_Trail_1 (k : Nat) (s1 : List Int) : Option (Bool) :=
  (slices_IndexFunc_Quanta__optics_Trail_1 k s1).bind fun vt9 => (some (decide (vt9 ≥ 0)))
def optics_Reach (k : Nat) (half1 : Int) : Option (Int) :=
  if half1 ≠ 1 then (if half1 ≠ 2 then (if half1 ≠ 4 then (some 0) else (some half1)) else (some half1)) else (some half1)
def num_FloorDiv (k : Nat) (a1 : Int) (b2 : Int) : Option (Int) :=
  if b2 < 1 then (some 0) else (if ¬ (b2 = 0) then (if (Int.tmod a1 b2) < 0 then (some (w64 ((w64 (Int.tdiv a1 b2)) - 1))) else (some (w64 (Int.tdiv a1 b2)))) else none)
def optics_before (k : Nat) (d1 : Int) (n2 : Int) : Option (Int) :=
  if d1 ≤ (w64 (0 - n2)) then (some 0) else (if d1 ≤ 0 then (some (w64 (Int.tdiv (w64 ((w64 (n2 + d1)) * (w64 ((w64 (n2 + d1)) - 1)))) 2))) else (if d1 < n2 then (some (w64 ((w64 (n2 * n2)) - (w64 (Int.tdiv (w64 ((w64 (n2 - d1)) * (w64 ((w64 (n2 - d1)) + 1)))) 2))))) else (some (w64 (n2 * n2)))))
def optics_Axis.l0 (k : Nat) (vt45 : Int) (half2 : Int) (vt37 : Int) : Nat → (List S_Part) → Int → Option ((List S_Part))
  | 0, _, _ => none
  | n_ + 1, out77, cell83 =>
    if cell83 ≤ (w64 ((w64 (vt45 + half2)) + 1)) then ((optics_before k (w64 ((w64 ((w64 (16 * cell83)) - vt37)) + 16)) (w64 (16 * half2))).bind fun vt103 => ((optics_before k (w64 ((w64 (16 * cell83)) - vt37)) (w64 (16 * half2))).bind fun vt109 => (if (w64 (vt103 - vt109)) > 0 then (if (out77.length + 1) * 16 ≤ 140737488355328 then (optics_Axis.l0 k vt45 half2 vt37 n_ (out77 ++ ([(⟨cell83, w64 ((w64 (Int.tdiv 16 (w64 (half2 * half2)))) * (w64 (vt103 - vt109)))⟩ : S_Part)] : List S_Part)) (w64 (cell83 + 1))) else none) else (optics_Axis.l0 k vt45 half2 vt37 n_ out77 (w64 (cell83 + 1)))))) else (some out77)
def optics_Axis (k : Nat) (vat1 : Int) (half2 : Int) : Option ((List S_Part) × Int) :=
  if vat1 < (-65536) then (some (([] : List S_Part), 4)) else (if vat1 > 65536 then (some (([] : List S_Part), 4)) else ((optics_Reach k half2).bind fun vt25 => (if vt25 = 0 then (some (([] : List S_Part), 1)) else ((num_FloorDiv k vat1 16).bind fun vt37 => ((num_FloorDiv k vt37 16).bind fun vt45 => (if ¬ ((w64 (half2 * half2)) = 0) then ((optics_Axis.l0 k vt45 half2 vt37 k ([] : List S_Part) (w64 ((w64 (vt45 - half2)) - 1))).bind fun out139 => (some (out139, 0))) else none))))))
def cmp_Or_Errno.l0 (k : Nat) (vals1 : List Int) : Nat → Int → Option (Sum Int Unit)
  | 0, _ => none
  | n_ + 1, x28 =>
    if x28 < (vals1.length : Int) then (if 0 ≤ x28 then (if (rd vals1 x28) ≠ 0 then (some (Sum.inl (rd vals1 x28))) else (cmp_Or_Errno.l0 k vals1 n_ (w64 (x28 + 1)))) else none) else (some (Sum.inr ()))
def cmp_Or_Errno (k : Nat) (vals1 : List Int) : Option (Int) :=
  (cmp_Or_Errno.l0 k vals1 k 0).bind fun z_ => Sum.elim (fun y_ => some y_) (fun _ => (some 0)) z_
def optics_Point.l1 (k : Nat) (vt12 : List S_Part) (vt26 : List S_Part) (x95 : Int) : Nat → (List S_Spot) → Int → Option ((List S_Spot))
  | 0, _, _ => none
  | n_ + 1, out202, x207 =>
    if x207 < (vt12.length : Int) then (if 0 ≤ x207 then (if (out202.length + 1) * 24 ≤ 140737488355328 then (optics_Point.l1 k vt12 vt26 x95 n_ (out202 ++ ([(⟨(rd vt12 x207).Cell, (rd vt26 x95).Cell, w64 (((rd vt12 x207).Weight) * ((rd vt26 x95).Weight))⟩ : S_Spot)] : List S_Spot)) (w64 (x207 + 1))) else none) else none) else (some out202)
def optics_Point.l0 (k : Nat) (vt26 : List S_Part) (vt12 : List S_Part) : Nat → (List S_Spot) → Int → Option ((List S_Spot))
  | 0, _, _ => none
  | n_ + 1, out89, x95 =>
    if x95 < (vt26.length : Int) then (if 0 ≤ x95 then ((optics_Point.l1 k vt12 vt26 x95 k out89 0).bind fun out258 => (optics_Point.l0 k vt26 vt12 n_ out258 (w64 (x95 + 1)))) else none) else (some out89)
def optics_Point (k : Nat) (p1 : S_Point) (wide2 : Int) (high3 : Int) : Option ((List S_Spot) × Int) :=
  (optics_Axis k p1.X wide2).bind fun (vt12, vt13) => ((optics_Axis k p1.Y high3).bind fun (vt26, vt27) => ((cmp_Or_Errno k ([vt13, vt27] : List Int)).bind fun vt53 => (if vt53 ≠ 0 then (some (([] : List S_Spot), vt53)) else ((optics_Point.l0 k vt26 vt12 k ([] : List S_Spot) 0).bind fun out279 => (some (out279, 0))))))
def optics_add.l1 (k : Nat) (a1 : List S_Spot) (b5 : List S_Spot) (x210 : Int) : Nat → Int → (List ((Int × Int) × Int)) → Option ((List ((Int × Int) × Int)))
  | 0, _, _ => none
  | n_ + 1, x312, x313 =>
    if x312 < ((rd ([a1, b5] : List (List S_Spot)) x210).length : Int) then (if 0 ≤ x312 then (optics_add.l1 k a1 b5 x210 n_ (w64 (x312 + 1)) (aput x313 ((rd (rd ([a1, b5] : List (List S_Spot)) x210) x312).Y, (rd (rd ([a1, b5] : List (List S_Spot)) x210) x312).X) (w64 ((aget 0 x313 ((rd (rd ([a1, b5] : List (List S_Spot)) x210) x312).Y, (rd (rd ([a1, b5] : List (List S_Spot)) x210) x312).X)) + ((rd (rd ([a1, b5] : List (List S_Spot)) x210) x312).Light))))) else none) else (some x313)
def optics_add.l0 (k : Nat) (a1 : List S_Spot) (b5 : List S_Spot) : Nat → Int → (List ((Int × Int) × Int)) → Option ((List ((Int × Int) × Int)))
  | 0, _, _ => none
  | n_ + 1, x210, x211 =>
    if x210 < 2 then (if 0 ≤ x210 then ((optics_add.l1 k a1 b5 x210 k 0 x211).bind fun x370 => (optics_add.l0 k a1 b5 n_ (w64 (x210 + 1)) x370)) else none) else (some x211)
def optics_add.l2 (k : Nat) (vt397 : List (List Int)) (x381 : List ((Int × Int) × Int)) : Nat → (List S_Spot) → Int → Option ((List S_Spot))
  | 0, _, _ => none
  | n_ + 1, out421, x427 =>
    if x427 < (vt397.length : Int) then (if 0 ≤ x427 then (if (aget 0 x381 (((rd vt397 x427).getD 0 default), ((rd vt397 x427).getD 1 default))) ≠ 0 then (if (out421.length + 1) * 24 ≤ 140737488355328 then (optics_add.l2 k vt397 x381 n_ (out421 ++ ([(⟨((rd vt397 x427).getD 1 default), ((rd vt397 x427).getD 0 default), aget 0 x381 (((rd vt397 x427).getD 0 default), ((rd vt397 x427).getD 1 default))⟩ : S_Spot)] : List S_Spot)) (w64 (x427 + 1))) else none) else (optics_add.l2 k vt397 x381 n_ out421 (w64 (x427 + 1)))) else none) else (some out421)
def optics_add (k : Nat) (a1 : List S_Spot) (b5 : List S_Spot) : Option ((List S_Spot)) :=
  (optics_add.l0 k a1 b5 k 0 ([] : List ((Int × Int) × Int))).bind fun x381 => ((sortedKeysA x381).bind fun vt397 => ((optics_add.l2 k vt397 x381 k ([] : List S_Spot) 0).bind fun out489 => (some out489)))
def optics_Trail.l1 (k : Nat) (vt128 : List S_Spot) (rates4 : List Int) (x101 : Int) : Nat → (List S_Spot) → Int → Option ((List S_Spot))
  | 0, _, _ => none
  | n_ + 1, l205, x209 =>
    if x209 < (vt128.length : Int) then (if 0 ≤ x209 then (if x209 < (l205.length : Int) then (optics_Trail.l1 k vt128 rates4 x101 n_ (l205.set (x209).toNat (⟨(rd l205 x209).X, (rd l205 x209).Y, w64 (((rd l205 x209).Light) * (rd rates4 x101))⟩ : S_Spot)) (w64 (x209 + 1))) else none) else none) else (some l205)
def optics_Trail.l0 (k : Nat) (rates4 : List Int) (p1 : S_Point) (dx2 : Int) (dy3 : Int) (wide8 : Int) (high9 : Int) : Nat → (List S_Spot) → Int → Option (Sum ((List S_Spot) × Int) (List S_Spot))
  | 0, _, _ => none
  | n_ + 1, out95, x101 =>
    if x101 < (rates4.length : Int) then (if 0 ≤ x101 then ((optics_Point k (⟨w64 (p1.X + (w64 (x101 * dx2))), w64 (p1.Y + (w64 (x101 * dy3)))⟩ : S_Point) wide8 high9).bind fun (vt128, vt129) => (if vt129 ≠ 0 then (some (Sum.inl (([] : List S_Spot), vt129))) else ((optics_Trail.l1 k vt128 rates4 x101 k vt128 0).bind fun l244 => ((optics_add k out95 l244).bind fun vt262 => (optics_Trail.l0 k rates4 p1 dx2 dy3 wide8 high9 n_ vt262 (w64 (x101 + 1))))))) else none) else (some (Sum.inr out95))
def optics_Trail (k : Nat) (p1 : S_Point) (dx2 : Int) (dy3 : Int) (rates4 : List Int) (wide8 : Int) (high9 : Int) : Option ((List S_Spot) × Int) :=
  if (rates4.length : Int) > 16 then (some (([] : List S_Spot), 2)) else (if (mx dx2 dy3) > 64 then (some (([] : List S_Spot), 4)) else (if (mn dx2 dy3) < (-64) then (some (([] : List S_Spot), 4)) else ((slices_ContainsFunc_Quanta__optics_Trail_1 k rates4).bind fun vt42 => (if vt42 = true then (some (([] : List S_Spot), 4)) else ((optics_Point k p1 wide8 high9).bind fun (vt56, vt57) => (if vt57 ≠ 0 then (some (([] : List S_Spot), vt57)) else ((optics_Trail.l0 k rates4 p1 dx2 dy3 wide8 high9 k ([] : List S_Spot) 0).bind fun z_ => Sum.elim (fun y_ => some y_) (fun out284 => (some (out284, 0))) z_)))))))
def spykeep3_spreads (k : Nat) : Option (Bool) :=
  (optics_Point k (⟨128, 128⟩ : S_Point) 1 1).bind fun (vt5, vt6) => (if vt6 = 0 then (if (vt5.length : Int) = 9 then (if 4 < (vt5.length : Int) then (some ((((rd vt5 4).X) == 0) && ((((rd vt5 4).Y) == 0) && ((((rd vt5 4).Light) == 9437184) && true)))) else none) else (some false)) else (some false))
def spykeep3_total.l0 (k : Nat) (l1 : List S_Spot) : Nat → Int → Int → Option (Int)
  | 0, _, _ => none
  | n_ + 1, n26, x27 =>
    if x27 < (l1.length : Int) then (if 0 ≤ x27 then (spykeep3_total.l0 k l1 n_ (w64 (n26 + ((rd l1 x27).Light))) (w64 (x27 + 1))) else none) else (some n26)
def spykeep3_total (k : Nat) (l1 : List S_Spot) : Option (Int) :=
  (spykeep3_total.l0 k l1 k 0 0).bind fun n63 => (some n63)
def slices_Grow_Spot (k : Nat) (n1 : Int) : Option ((List S_Spot)) :=
  if n1 < 0 then (none) else (if (w64 (n1 - (w64 (0 - 0)))) > 0 then (if 0 < (w64 (n1 - (w64 (0 - 0)))) then (if (w64 (n1 - (w64 (0 - 0)))) * 24 ≤ 140737488355328 then (if 0 ≤ ((List.replicate (w64 (n1 - (w64 (0 - 0)))).toNat ((⟨0, 0, 0⟩ : S_Spot) : S_Spot)).length : Int) then (some ((List.replicate (w64 (n1 - (w64 (0 - 0)))).toNat ((⟨0, 0, 0⟩ : S_Spot) : S_Spot)).take (0 : Int).toNat)) else none) else none) else none) else (some ([] : List S_Spot)))
def slices_Concat_Spot.l0 (k : Nat) (slices1 : List (List S_Spot)) : Nat → Int → Int → Option (Int)
  | 0, _, _ => none
  | n_ + 1, size28, x29 =>
    if x29 < (slices1.length : Int) then (if 0 ≤ x29 then (if (w64 (size28 + ((rd slices1 x29).length : Int))) < 0 then (none) else (slices_Concat_Spot.l0 k slices1 n_ (w64 (size28 + ((rd slices1 x29).length : Int))) (w64 (x29 + 1)))) else none) else (some size28)
def slices_Concat_Spot.l1 (k : Nat) (slices1 : List (List S_Spot)) : Nat → (List S_Spot) → Int → Option ((List S_Spot))
  | 0, _, _ => none
  | n_ + 1, newslice148, x153 =>
    if x153 < (slices1.length : Int) then (if 0 ≤ x153 then (if (newslice148.length + (rd slices1 x153).length) * 24 ≤ 140737488355328 then (slices_Concat_Spot.l1 k slices1 n_ (newslice148 ++ (rd slices1 x153)) (w64 (x153 + 1))) else none) else none) else (some newslice148)
def slices_Concat_Spot (k : Nat) (slices1 : List (List S_Spot)) : Option ((List S_Spot)) :=
  (slices_Concat_Spot.l0 k slices1 k 0 0).bind fun size66 => ((slices_Grow_Spot k size66).bind fun vt72 => ((slices_Concat_Spot.l1 k slices1 k vt72 0).bind fun newslice191 => (some newslice191)))
def spykeep3_light.l0 (k : Nat) (l1 : List S_Spot) (x5 : Int) (y6 : Int) : Nat → Int → Int → Option (Int)
  | 0, _, _ => none
  | n_ + 1, n28, x29 =>
    if x29 < (l1.length : Int) then (if 0 ≤ x29 then (if ((rd l1 x29).X) = x5 then (if ((rd l1 x29).Y) = y6 then (spykeep3_light.l0 k l1 x5 y6 n_ (w64 (n28 + ((rd l1 x29).Light))) (w64 (x29 + 1))) else (spykeep3_light.l0 k l1 x5 y6 n_ n28 (w64 (x29 + 1)))) else (spykeep3_light.l0 k l1 x5 y6 n_ n28 (w64 (x29 + 1)))) else none) else (some n28)
def spykeep3_light (k : Nat) (l1 : List S_Spot) (x5 : Int) (y6 : Int) : Option (Int) :=
  (spykeep3_light.l0 k l1 x5 y6 k 0 0).bind fun n70 => (some n70)
def spykeep3_OpticsTrailsAdd.l0 (k : Nat) (vt31 : List Int) (l4 : List Int) : Nat → (List Int) → (List Int) → Int → Int → Int → Option ((List Int) × (List Int) × Int × Int)
  | 0, _, _, _, _, _ => none
  | n_ + 1, b171, both177, sum183, x184, x185 =>
    if x184 < (vt31.length : Int) then (if 0 ≤ x184 then ((spymake_Stream_Next k (⟨l4, x185⟩ : S_Stream) 5000).bind fun (vt213, vt214) => (if (b171.length + 1) * 8 ≤ 140737488355328 then (if 0 ≤ (w64 (((b171 ++ ([vt213] : List Int)).length : Int) - 1)) then (if (w64 (((b171 ++ ([vt213] : List Int)).length : Int) - 1)) < ((b171 ++ ([vt213] : List Int)).length : Int) then (if (both177.length + 1) * 8 ≤ 140737488355328 then (if 0 ≤ (w64 (((both177 ++ ([w64 ((rd vt31 x184) + (rd (b171 ++ ([vt213] : List Int)) (w64 (((b171 ++ ([vt213] : List Int)).length : Int) - 1))))] : List Int)).length : Int) - 1)) then (if (w64 (((both177 ++ ([w64 ((rd vt31 x184) + (rd (b171 ++ ([vt213] : List Int)) (w64 (((b171 ++ ([vt213] : List Int)).length : Int) - 1))))] : List Int)).length : Int) - 1)) < ((both177 ++ ([w64 ((rd vt31 x184) + (rd (b171 ++ ([vt213] : List Int)) (w64 (((b171 ++ ([vt213] : List Int)).length : Int) - 1))))] : List Int)).length : Int) then (spykeep3_OpticsTrailsAdd.l0 k vt31 l4 n_ (b171 ++ ([vt213] : List Int)) (both177 ++ ([w64 ((rd vt31 x184) + (rd (b171 ++ ([vt213] : List Int)) (w64 (((b171 ++ ([vt213] : List Int)).length : Int) - 1))))] : List Int)) (w64 (sum183 + (rd (both177 ++ ([w64 ((rd vt31 x184) + (rd (b171 ++ ([vt213] : List Int)) (w64 (((b171 ++ ([vt213] : List Int)).length : Int) - 1))))] : List Int)) (w64 (((both177 ++ ([w64 ((rd vt31 x184) + (rd (b171 ++ ([vt213] : List Int)) (w64 (((b171 ++ ([vt213] : List Int)).length : Int) - 1))))] : List Int)).length : Int) - 1))))) (w64 (x184 + 1)) vt214) else none) else none) else none) else none) else none) else none)) else none) else (some (b171, both177, sum183, x185))
def spykeep3_OpticsTrailsAdd.l1 (k : Nat) (vt500 : List S_Spot) (vt321 : List S_Spot) (vt364 : List S_Spot) (vt408 : List S_Spot) : Nat → Int → Option (Sum Bool Unit)
  | 0, _ => none
  | n_ + 1, x529 =>
    if x529 < (vt500.length : Int) then (if 0 ≤ x529 then ((spykeep3_light k vt321 ((rd vt500 x529).X) ((rd vt500 x529).Y)).bind fun vt564 => ((spykeep3_light k vt364 ((rd vt500 x529).X) ((rd vt500 x529).Y)).bind fun vt570 => ((spykeep3_light k vt408 ((rd vt500 x529).X) ((rd vt500 x529).Y)).bind fun vt576 => (if (w64 (vt564 + vt570)) ≠ vt576 then (some (Sum.inl false)) else (spykeep3_OpticsTrailsAdd.l1 k vt500 vt321 vt364 vt408 n_ (w64 (x529 + 1))))))) else none) else (some (Sum.inr ()))
def spykeep3_OpticsTrailsAdd (k : Nat) (p1 : S_Point) (dx2 : Int) (dy3 : Int) (l4 : List Int) (n8 : Int) : Option (Bool) :=
  (spykeep3_rates k (⟨l4, 0⟩ : S_Stream)).bind fun (vt31, vt32) => ((spykeep3_OpticsTrailsAdd.l0 k vt31 l4 k ([] : List Int) ([] : List Int) 0 0 vt32).bind fun (b273, both279, sum285, x286) => ((spykeep3_half k n8).bind fun vt303 => ((spykeep3_half k (w64 (Int.tdiv n8 3))).bind fun vt309 => ((optics_Trail k (⟨Int.tmod p1.X 20000, Int.tmod p1.Y 20000⟩ : S_Point) (Int.tmod dx2 65) (Int.tmod dy3 65) vt31 vt303 vt309).bind fun (vt321, vt322) => ((spykeep3_half k n8).bind fun vt346 => ((spykeep3_half k (w64 (Int.tdiv n8 3))).bind fun vt352 => ((optics_Trail k (⟨Int.tmod p1.X 20000, Int.tmod p1.Y 20000⟩ : S_Point) (Int.tmod dx2 65) (Int.tmod dy3 65) b273 vt346 vt352).bind fun (vt364, vt365) => ((spykeep3_half k n8).bind fun vt390 => ((spykeep3_half k (w64 (Int.tdiv n8 3))).bind fun vt396 => ((optics_Trail k (⟨Int.tmod p1.X 20000, Int.tmod p1.Y 20000⟩ : S_Point) (Int.tmod dx2 65) (Int.tmod dy3 65) both279 vt390 vt396).bind fun (vt408, vt409) => ((spykeep3_spreads k).bind fun vt435 => (if ¬ (vt435 = true) then (some false) else (if vt322 ≠ 0 then (some false) else (if vt365 ≠ 0 then (some false) else (if vt409 ≠ 0 then (some false) else ((spykeep3_total k vt408).bind fun vt458 => (if vt458 ≠ (w64 (sum285 * 16777216)) then (some false) else ((slices_Concat_Spot k ([vt321, vt364, vt408] : List (List S_Spot))).bind fun vt500 => ((spykeep3_OpticsTrailsAdd.l1 k vt500 vt321 vt364 vt408 k 0).bind fun z_ => Sum.elim (fun y_ => some y_) (fun _ => (some true)) z_)))))))))))))))))))
end Go.Sp.X3
