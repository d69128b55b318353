import Derived.Test.YtjibamedpdpofaaSpRows
namespace Go.Sp.X5
open Go Go.Sp
set_option linter.unusedVariables false
def str0 : ByteArray := ⟨#[0, 1, 2, 2, 3, 3, 3, 3, 4, 4, 4, 4, 4, 4, 4, 4, 5, 5, 5, 5, 5, 5, 5, 5, 5, 5, 5, 5, 5, 5, 5, 5, 6, 6, 6, 6, 6, 6, 6, 6, 6, 6, 6, 6, 6, 6, 6, 6, 6, 6, 6, 6, 6, 6, 6, 6, 6, 6, 6, 6, 6, 6, 6, 6, 7, 7, 7, 7, 7, 7, 7, 7, 7, 7, 7, 7, 7, 7, 7, 7, 7, 7, 7, 7, 7, 7, 7, 7, 7, 7, 7, 7, 7, 7, 7, 7, 7, 7, 7, 7, 7, 7, 7, 7, 7, 7, 7, 7, 7, 7, 7, 7, 7, 7, 7, 7, 7, 7, 7, 7, 7, 7, 7, 7, 7, 7, 7, 7, 8, 8, 8, 8, 8, 8, 8, 8, 8, 8, 8, 8, 8, 8, 8, 8, 8, 8, 8, 8, 8, 8, 8, 8, 8, 8, 8, 8, 8, 8, 8, 8, 8, 8, 8, 8, 8, 8, 8, 8, 8, 8, 8, 8, 8, 8, 8, 8, 8, 8, 8, 8, 8, 8, 8, 8, 8, 8, 8, 8, 8, 8, 8, 8, 8, 8, 8, 8, 8, 8, 8, 8, 8, 8, 8, 8, 8, 8, 8, 8, 8, 8, 8, 8, 8, 8, 8, 8, 8, 8, 8, 8, 8, 8, 8, 8, 8, 8, 8, 8, 8, 8, 8, 8, 8, 8, 8, 8, 8, 8, 8, 8, 8, 8, 8, 8, 8, 8, 8, 8, 8, 8, 8, 8, 8, 8, 8, 8]⟩
structure S_Stream where
  L : List Int
  vat : Int
instance : Inhabited S_Stream := ⟨⟨default, default⟩⟩
structure S_Sensor where
  W : Int
  H : Int
  Bias : List Int
  Dark : List Int
  Flat : List Int
  Full : Int
  Gain : Int
  Noise : Int
instance : Inhabited S_Sensor := ⟨⟨default, default, default, default, default, default, default, default⟩⟩
structure S_Wide where
  Hi : Int
  Lo : Int
instance : Inhabited S_Wide := ⟨⟨default, default⟩⟩
def spymake_Below (k : Nat) (x1 : Int) (n2 : Int) : Option (Int) :=
  if n2 < 1 then (some 0) else (if ¬ (n2 = 0) then (if (Int.tmod x1 n2) < 0 then (some (w64 ((Int.tmod x1 n2) + n2))) else (some (Int.tmod x1 n2))) else none)
def spymake_Stream_Next (k : Nat) (s3 : S_Stream) (n7 : Int) : Option (Int × Int) :=
  if (s3.L.length : Int) = 0 then ((spymake_Below k (w64 ((w64 (s3.vat + 1)) * 7919)) n7).bind fun vt22 => (some (vt22, w64 (s3.vat + 1)))) else (if ¬ ((s3.L.length : Int) = 0) then (if 0 ≤ (Int.tmod (w64 ((w64 (s3.vat + 1)) - 1)) (s3.L.length : Int)) then (if (Int.tmod (w64 ((w64 (s3.vat + 1)) - 1)) (s3.L.length : Int)) < (s3.L.length : Int) then ((spymake_Below k (rd s3.L (Int.tmod (w64 ((w64 (s3.vat + 1)) - 1)) (s3.L.length : Int))) 1073741824).bind fun vt46 => ((spymake_Below k (w64 (vt46 + (w64 ((w64 (Int.tdiv (w64 ((w64 (s3.vat + 1)) - 1)) (s3.L.length : Int))) * (w64 (7919 + (Int.tmod (w64 ((w64 (s3.vat + 1)) - 1)) (s3.L.length : Int)))))))) n7).bind fun vt52 => (some (vt52, w64 (s3.vat + 1))))) else none) else none) else none)
def spymake_Stream_Range (k : Nat) (s3 : S_Stream) (low7 : Int) (high8 : Int) : Option (Int × Int) :=
  if high8 < low7 then (some (low7, s3.vat)) else ((spymake_Stream_Next k s3 (w64 ((w64 (high8 - low7)) + 1))).bind fun (vt21, vt22) => (some (w64 (low7 + vt21), vt22)))
def spymake_Stream_Sensor.l0 (k : Nat) (vt17 : Int) (vt24 : Int) (s3 : S_Stream) (vt145 : Int) : Nat → Int → Int → (List Int) → (List Int) → (List Int) → Option (Int × (List Int) × (List Int) × (List Int))
  | 0, _, _, _, _, _ => none
  | n_ + 1, x340, x341, x342, x348, x354 =>
    if x340 < (w64 (vt17 * vt24)) then ((spymake_Stream_Next k (⟨s3.L, x341⟩ : S_Stream) 60).bind fun (vt386, vt387) => (if (x342.length + 1) * 8 ≤ 140737488355328 then ((spymake_Stream_Next k (⟨s3.L, vt387⟩ : S_Stream) (w64 ((w64 (vt145 * 16777216)) + 1))).bind fun (vt422, vt423) => (if (x348.length + 1) * 8 ≤ 140737488355328 then ((spymake_Stream_Range k (⟨s3.L, vt423⟩ : S_Stream) 2048 4096).bind fun (vt450, vt451) => ((spymake_Stream_Next k (⟨s3.L, vt451⟩ : S_Stream) 12).bind fun (vt461, vt462) => (if vt461 = 0 then ((spymake_Stream_Next k (⟨s3.L, vt462⟩ : S_Stream) 512).bind fun (vt470, vt471) => ((spymake_Stream_Next k (⟨s3.L, vt471⟩ : S_Stream) 2).bind fun (vt477, vt478) => (if (x354.length + 1) * 8 ≤ 140737488355328 then (spymake_Stream_Sensor.l0 k vt17 vt24 s3 vt145 n_ (w64 (x340 + 1)) vt478 (x342 ++ ([vt386] : List Int)) (x348 ++ ([vt422] : List Int)) (x354 ++ ([w64 (vt470 * vt477)] : List Int))) else none))) else (if (x354.length + 1) * 8 ≤ 140737488355328 then (spymake_Stream_Sensor.l0 k vt17 vt24 s3 vt145 n_ (w64 (x340 + 1)) vt462 (x342 ++ ([vt386] : List Int)) (x348 ++ ([vt422] : List Int)) (x354 ++ ([vt450] : List Int))) else none)))) else none)) else none)) else (some (x341, x342, x348, x354))
def spymake_Stream_Sensor (k : Nat) (s3 : S_Stream) (most7 : Int) : Option (S_Sensor × Int) :=
  (spymake_Stream_Range k s3 1 most7).bind fun (vt17, vt18) => ((spymake_Stream_Range k (⟨s3.L, vt18⟩ : S_Stream) 1 most7).bind fun (vt24, vt25) => ((spymake_Stream_Range k (⟨s3.L, vt25⟩ : S_Stream) 20000 1048576).bind fun (vt31, vt32) => ((spymake_Stream_Range k (⟨s3.L, vt32⟩ : S_Stream) 1 4).bind fun (vt38, vt39) => ((spymake_Stream_Next k (⟨s3.L, vt39⟩ : S_Stream) 4).bind fun (vt45, vt46) => ((spymake_Stream_Next k (⟨s3.L, vt46⟩ : S_Stream) 6).bind fun (vt63, vt64) => (((if vt63 = 0 then ((spymake_Stream_Range k (⟨s3.L, vt64⟩ : S_Stream) 200 5000).bind fun (vt81, vt82) => (some (vt82, vt81, vt38, vt45))) else (((if vt63 = 1 then ((spymake_Stream_Range k (⟨s3.L, vt64⟩ : S_Stream) 1 64).bind fun (vt95, vt96) => ((spymake_Stream_Next k (⟨s3.L, vt96⟩ : S_Stream) 20).bind fun (vt102, vt103) => (some (vt103, vt95, vt102)))) else (some (vt64, vt38, vt45)) : Option (Int × Int × Int))).bind fun (x119, x120, x121) => (some (x119, vt31, x120, x121))) : Option (Int × Int × Int × Int))).bind fun (x133, x134, x135, x136) => ((spymake_Stream_Next k (⟨s3.L, x133⟩ : S_Stream) 3).bind fun (vt145, vt146) => ((spymake_Stream_Sensor.l0 k vt17 vt24 s3 vt145 k 0 vt146 ([] : List Int) ([] : List Int) ([] : List Int)).bind fun (x525, x526, x532, x538) => (some ((⟨vt17, vt24, x526, x532, x538, x134, x135, x136⟩ : S_Sensor), x525))))))))))
def spykeep3_filled.l0 (k : Nat) (c7 : S_Sensor) (s3 : S_Stream) : Nat → (List Int) → Int → Int → Option ((List Int) × Int)
  | 0, _, _, _ => none
  | n_ + 1, out135, x141, x142 =>
    if x141 < (w64 (c7.W * c7.H)) then ((spymake_Stream_Next k (⟨s3.L, x142⟩ : S_Stream) (w64 (c7.Full + 1))).bind fun (vt161, vt162) => ((spymake_Stream_Next k (⟨s3.L, vt162⟩ : S_Stream) 5).bind fun (vt172, vt173) => (if vt172 = 0 then ((spymake_Stream_Next k (⟨s3.L, vt173⟩ : S_Stream) (w64 (4 * c7.Full))).bind fun (vt181, vt182) => (if (out135.length + 1) * 8 ≤ 140737488355328 then (spykeep3_filled.l0 k c7 s3 n_ (out135 ++ ([vt181] : List Int)) (w64 (x141 + 1)) vt182) else none)) else (if (out135.length + 1) * 8 ≤ 140737488355328 then (spykeep3_filled.l0 k c7 s3 n_ (out135 ++ ([vt161] : List Int)) (w64 (x141 + 1)) vt173) else none)))) else (some (out135, x142))
def spykeep3_filled (k : Nat) (s3 : S_Stream) (c7 : S_Sensor) : Option ((List Int) × Int) :=
  (spykeep3_filled.l0 k c7 s3 k ([] : List Int) 0 s3.vat).bind fun (out223, x229) => (some (out223, x229))
def sensor_outside_int_1 (k : Nat) (v3 : Int) (x4 : Int) : Option (Bool) :=
  if x4 < 0 then (some true) else (some (decide (x4 > v3)))
def slices_IndexFunc_int__sensor_outside_int_1.l0 (k : Nat) (s4 : List Int) (v3 : Int) : Nat → Int → Option (Sum Int Unit)
  | 0, _ => none
  | n_ + 1, x29 =>
    if x29 < (s4.length : Int) then (if 0 ≤ x29 then ((sensor_outside_int_1 k v3 (rd s4 x29)).bind fun vt55 => (if vt55 = true then (some (Sum.inl x29)) else (slices_IndexFunc_int__sensor_outside_int_1.l0 k s4 v3 n_ (w64 (x29 + 1))))) else none) else (some (Sum.inr ()))
def slices_IndexFunc_int__sensor_outside_int_1 (k : Nat) (v3 : Int) (s4 : List Int) : Option (Int) :=
  (slices_IndexFunc_int__sensor_outside_int_1.l0 k s4 v3 k 0).bind fun z_ => Sum.elim (fun y_ => some y_) (fun _ => (some (-1))) z_
def slices_ContainsFunc_int__sensor_outside_int_1 (k : Nat) (v3 : Int) (s4 : List Int) : Option (Bool) :=
  (slices_IndexFunc_int__sensor_outside_int_1 k v3 s4).bind fun vt12 => (some (decide (vt12 ≥ 0)))
def sensor_outside_int (k : Nat) (l1 : List Int) (most5 : Int) : Option (Bool) :=
  (slices_ContainsFunc_int__sensor_outside_int_1 k most5 l1).bind fun vt14 => (some vt14)
def sensor_outside_Light_1 (k : Nat) (v3 : Int) (x4 : Int) : Option (Bool) :=
  if x4 < 0 then (some true) else (some (decide (x4 > v3)))
def slices_IndexFunc_Light__sensor_outside_Light_1.l0 (k : Nat) (s4 : List Int) (v3 : Int) : Nat → Int → Option (Sum Int Unit)
  | 0, _ => none
  | n_ + 1, x29 =>
    if x29 < (s4.length : Int) then (if 0 ≤ x29 then ((sensor_outside_Light_1 k v3 (rd s4 x29)).bind fun vt55 => (if vt55 = true then (some (Sum.inl x29)) else (slices_IndexFunc_Light__sensor_outside_Light_1.l0 k s4 v3 n_ (w64 (x29 + 1))))) else none) else (some (Sum.inr ()))
def slices_IndexFunc_Light__sensor_outside_Light_1 (k : Nat) (v3 : Int) (s4 : List Int) : Option (Int) :=
  (slices_IndexFunc_Light__sensor_outside_Light_1.l0 k s4 v3 k 0).bind fun z_ => Sum.elim (fun y_ => some y_) (fun _ => (some (-1))) z_
def slices_ContainsFunc_Light__sensor_outside_Light_1 (k : Nat) (v3 : Int) (s4 : List Int) : Option (Bool) :=
  (slices_IndexFunc_Light__sensor_outside_Light_1 k v3 s4).bind fun vt12 => (some (decide (vt12 ≥ 0)))
def sensor_outside_Light (k : Nat) (l1 : List Int) (most5 : Int) : Option (Bool) :=
  (slices_ContainsFunc_Light__sensor_outside_Light_1 k most5 l1).bind fun vt14 => (some vt14)
def sensor_Check (k : Nat) (s1 : S_Sensor) : Option (Int) :=
  if (mn s1.W s1.H) < 1 then (some 4) else (if (mx s1.W s1.H) > 32 then (some 4) else (if (s1.Bias.length : Int) ≠ (w64 (s1.W * s1.H)) then (some 3) else (if (s1.Dark.length : Int) ≠ (w64 (s1.W * s1.H)) then (some 3) else (if (s1.Flat.length : Int) ≠ (w64 (s1.W * s1.H)) then (some 3) else ((sensor_outside_int k s1.Bias 4096).bind fun vt51 => (if vt51 = true then (some 4) else ((sensor_outside_Light k s1.Dark 17592186044416).bind fun vt60 => (if vt60 = true then (some 4) else ((sensor_outside_int k s1.Flat 4096).bind fun vt69 => (if vt69 = true then (some 4) else (if s1.Full < 1 then (some 4) else (if s1.Full > 1048576 then (some 4) else (if s1.Gain < 1 then (some 4) else (if s1.Gain > 64 then (some 4) else (if s1.Noise < 0 then (some 4) else (if s1.Noise > 64 then (some 4) else (some 0)))))))))))))))))
def sensor_sized (k : Nat) (s1 : S_Sensor) (n11 : Int) : Option (Int) :=
  (sensor_Check k s1).bind fun vt22 => (if vt22 ≠ 0 then (some vt22) else (if n11 ≠ (w64 (s1.W * s1.H)) then (some 3) else (some 0)))
def sensor_outside_Quanta_1 (k : Nat) (v3 : Int) (x4 : Int) : Option (Bool) :=
  if x4 < 0 then (some true) else (some (decide (x4 > v3)))
def slices_IndexFunc_Quanta__sensor_outside_Quanta_1.l0 (k : Nat) (s4 : List Int) (v3 : Int) : Nat → Int → Option (Sum Int Unit)
  | 0, _ => none
  | n_ + 1, x29 =>
    if x29 < (s4.length : Int) then (if 0 ≤ x29 then ((sensor_outside_Quanta_1 k v3 (rd s4 x29)).bind fun vt55 => (if vt55 = true then (some (Sum.inl x29)) else (slices_IndexFunc_Quanta__sensor_outside_Quanta_1.l0 k s4 v3 n_ (w64 (x29 + 1))))) else none) else (some (Sum.inr ()))
def slices_IndexFunc_Quanta__sensor_outside_Quanta_1 (k : Nat) (v3 : Int) (s4 : List Int) : Option (Int) :=
  (slices_IndexFunc_Quanta__sensor_outside_Quanta_1.l0 k s4 v3 k 0).bind fun z_ => Sum.elim (fun y_ => some y_) (fun _ => (some (-1))) z_
def slices_ContainsFunc_Quanta__sensor_outside_Quanta_1 (k : Nat) (v3 : Int) (s4 : List Int) : Option (Bool) :=
  (slices_IndexFunc_Quanta__sensor_outside_Quanta_1 k v3 s4).bind fun vt12 => (some (decide (vt12 ≥ 0)))
def sensor_outside_Quanta (k : Nat) (l1 : List Int) (most5 : Int) : Option (Bool) :=
  (slices_ContainsFunc_Quanta__sensor_outside_Quanta_1 k most5 l1).bind fun vt14 => (some vt14)
def sensor_Bleed_1 (k : Nat) (v5 : List Int) (v9 : S_Sensor) (i19 : Int) : Option (Int) :=
  if 0 ≤ i19 then (if i19 < (v5.length : Int) then (some (mx 0 (w64 ((rd v5 i19) - v9.Full)))) else none) else none
def sensor_Bleed_2 (k : Nat) (v7 : List Int) (v11 : S_Sensor) (i21 : Int) : Option (Int) :=
  (sensor_Bleed_1 k v7 v11 i21).bind fun vt28 => (some (w64 (Int.tdiv (w64 (vt28 + 1)) 2)))
def sensor_pour__sensor_Bleed_2.l0 (k : Nat) (order37 : List Int) (v7 : List Int) (v11 : S_Sensor) (s21 : S_Sensor) : Nat → (List Int) → Int → Int → Option ((List Int) × Int)
  | 0, _, _, _ => none
  | n_ + 1, held129, flow133, x134 =>
    if x134 < (order37.length : Int) then (if 0 ≤ x134 then (if 0 ≤ (rd order37 x134) then (if (rd order37 x134) < (held129.length : Int) then ((sensor_Bleed_2 k v7 v11 (rd order37 x134)).bind fun vt179 => (sensor_pour__sensor_Bleed_2.l0 k order37 v7 v11 s21 n_ (held129.set ((rd order37 x134)).toNat (w64 ((rd held129 (rd order37 x134)) + (mn flow133 (w64 (s21.Full - (rd held129 (rd order37 x134)))))))) (w64 (flow133 + (w64 (vt179 - (mn flow133 (w64 (s21.Full - (rd held129 (rd order37 x134))))))))) (w64 (x134 + 1)))) else none) else none) else none) else (some (held129, flow133))
def sensor_pour__sensor_Bleed_2 (k : Nat) (v7 : List Int) (v11 : S_Sensor) (s21 : S_Sensor) (held35 : List Int) (order37 : List Int) : Option (Int × (List Int)) :=
  (sensor_pour__sensor_Bleed_2.l0 k order37 v7 v11 s21 k held35 0 0).bind fun (held190, flow194) => (some (flow194, held190))
def slices_Reverse_int.l0 (k : Nat) : Nat → (List Int) → Int → Int → Option ((List Int))
  | 0, _, _, _ => none
  | n_ + 1, s76, i80, j81 =>
    if i80 < j81 then (if 0 ≤ j81 then (if j81 < (s76.length : Int) then (if 0 ≤ i80 then (if i80 < (s76.length : Int) then (if j81 < ((s76.set (i80).toNat (rd s76 j81)).length : Int) then (slices_Reverse_int.l0 k n_ ((s76.set (i80).toNat (rd s76 j81)).set (j81).toNat (rd s76 i80)) (w64 (i80 + 1)) (w64 (j81 - 1))) else none) else none) else none) else none) else none) else (some s76)
def slices_Reverse_int (k : Nat) (s5 : List Int) : Option ((List Int)) :=
  (slices_Reverse_int.l0 k k s5 0 (w64 ((s5.length : Int) - 1))).bind fun s128 => (some s128)
def sensor_Bleed_3 (k : Nat) (v7 : List Int) (v11 : S_Sensor) (i21 : Int) : Option (Int) :=
  (sensor_Bleed_1 k v7 v11 i21).bind fun vt28 => (some (w64 (Int.tdiv vt28 2)))
def sensor_pour__sensor_Bleed_3.l0 (k : Nat) (order37 : List Int) (v7 : List Int) (v11 : S_Sensor) (s21 : S_Sensor) : Nat → (List Int) → Int → Int → Option ((List Int) × Int)
  | 0, _, _, _ => none
  | n_ + 1, held129, flow133, x134 =>
    if x134 < (order37.length : Int) then (if 0 ≤ x134 then (if 0 ≤ (rd order37 x134) then (if (rd order37 x134) < (held129.length : Int) then ((sensor_Bleed_3 k v7 v11 (rd order37 x134)).bind fun vt179 => (sensor_pour__sensor_Bleed_3.l0 k order37 v7 v11 s21 n_ (held129.set ((rd order37 x134)).toNat (w64 ((rd held129 (rd order37 x134)) + (mn flow133 (w64 (s21.Full - (rd held129 (rd order37 x134)))))))) (w64 (flow133 + (w64 (vt179 - (mn flow133 (w64 (s21.Full - (rd held129 (rd order37 x134))))))))) (w64 (x134 + 1)))) else none) else none) else none) else (some (held129, flow133))
def sensor_pour__sensor_Bleed_3 (k : Nat) (v7 : List Int) (v11 : S_Sensor) (s21 : S_Sensor) (held35 : List Int) (order37 : List Int) : Option (Int × (List Int)) :=
  (sensor_pour__sensor_Bleed_3.l0 k order37 v7 v11 s21 k held35 0 0).bind fun (held190, flow194) => (some (flow194, held190))
def sensor_Bleed.l0 (k : Nat) (q11 : List Int) (s1 : S_Sensor) : Nat → (List Int) → Int → Option ((List Int))
  | 0, _, _ => none
  | n_ + 1, out125, x129 =>
    if x129 < (q11.length : Int) then (if 0 ≤ x129 then (if x129 < (out125.length : Int) then (sensor_Bleed.l0 k q11 s1 n_ (out125.set (x129).toNat (mn (rd q11 x129) s1.Full)) (w64 (x129 + 1))) else none) else none) else (some out125)
def sensor_Bleed.l2 (k : Nat) (s1 : S_Sensor) (x366 : Int) : Nat → (List Int) → Int → Option ((List Int))
  | 0, _, _ => none
  | n_ + 1, column405, x411 =>
    if x411 < s1.H then (if (column405.length + 1) * 8 ≤ 140737488355328 then (sensor_Bleed.l2 k s1 x366 n_ (column405 ++ ([w64 ((w64 (x411 * s1.W)) + x366)] : List Int)) (w64 (x411 + 1))) else none) else (some column405)
def sensor_Bleed.l1 (k : Nat) (s1 : S_Sensor) (q11 : List Int) : Nat → (List Int) → Int → Int → Option ((List Int) × Int)
  | 0, _, _, _ => none
  | n_ + 1, out361, lost365, x366 =>
    if x366 < s1.W then ((sensor_Bleed.l2 k s1 x366 k ([] : List Int) 0).bind fun column449 => ((sensor_pour__sensor_Bleed_2 k q11 s1 s1 out361 column449).bind fun (vt471, vt472) => ((slices_Reverse_int k column449).bind fun vt486 => ((sensor_pour__sensor_Bleed_3 k q11 s1 s1 vt472 vt486).bind fun (vt504, vt505) => (sensor_Bleed.l1 k s1 q11 n_ vt505 (w64 ((w64 (lost365 + vt471)) + vt504)) (w64 (x366 + 1))))))) else (some (out361, lost365))
def sensor_Bleed (k : Nat) (s1 : S_Sensor) (q11 : List Int) : Option ((List Int) × Int × Int) :=
  (sensor_sized k s1 (q11.length : Int)).bind fun vt29 => (if vt29 ≠ 0 then (some (([] : List Int), 0, vt29)) else ((sensor_outside_Quanta k q11 4294967296).bind fun vt45 => (if vt45 = true then (some (([] : List Int), 0, 4)) else (if 0 ≤ (q11.length : Int) then (if (q11.length : Int) * 8 ≤ 140737488355328 then ((sensor_Bleed.l0 k q11 s1 k (List.replicate ((q11.length : Int)).toNat (0 : Int)) 0).bind fun out166 => ((sensor_Bleed.l1 k s1 q11 k out166 0 0).bind fun (out522, lost526) => (some (out522, lost526, 0)))) else none) else none))))
def num_size (k : Nat) (a1 : Int) : Option (Int) :=
  if a1 < 0 then (some (u64 (0 - (u64 (a1))))) else (some (u64 (a1)))
def bits_Mul64 (k : Nat) (x1 : Int) (y2 : Int) : Option (Int × Int) :=
  some (u64 ((u64 ((u64 ((shr x1 32) * (shr y2 32))) + (shr (u64 ((u64 ((shr x1 32) * (Go.bits .and .u64 y2 4294967295))) + (shr (u64 ((Go.bits .and .u64 x1 4294967295) * (Go.bits .and .u64 y2 4294967295))) 32))) 32))) + (shr (u64 ((Go.bits .and .u64 (u64 ((u64 ((shr x1 32) * (Go.bits .and .u64 y2 4294967295))) + (shr (u64 ((Go.bits .and .u64 x1 4294967295) * (Go.bits .and .u64 y2 4294967295))) 32))) 4294967295) + (u64 ((Go.bits .and .u64 x1 4294967295) * (shr y2 32))))) 32)), u64 (x1 * y2))
def num_Wide_Neg (k : Nat) (vw1 : S_Wide) : Option (S_Wide) :=
  if 0 ≤ (Go.bits .xor .u64 IntKind.u64.max vw1.Lo) then (if 0 ≤ (Go.bits .xor .u64 IntKind.u64.max (u64 (vw1.Hi))) then (if 0 ≤ (((Go.bits .xor .u64 IntKind.u64.max vw1.Lo) + 1 + 0) / 18446744073709551616) then (if (((Go.bits .xor .u64 IntKind.u64.max vw1.Lo) + 1 + 0) / 18446744073709551616) ≤ 1 then (some (⟨w64 (((Go.bits .xor .u64 IntKind.u64.max (u64 (vw1.Hi))) + 0 + (((Go.bits .xor .u64 IntKind.u64.max vw1.Lo) + 1 + 0) / 18446744073709551616)) % 18446744073709551616), ((Go.bits .xor .u64 IntKind.u64.max vw1.Lo) + 1 + 0) % 18446744073709551616⟩ : S_Wide)) else none) else none) else none) else none
def num_Product (k : Nat) (a1 : Int) (b2 : Int) : Option (S_Wide) :=
  (num_size k a1).bind fun vt11 => ((num_size k b2).bind fun vt17 => ((bits_Mul64 k vt11 vt17).bind fun (vt23, vt24) => (if ((decide (a1 < 0)) != (decide (b2 < 0))) = true then ((num_Wide_Neg k (⟨w64 (vt23), vt24⟩ : S_Wide)).bind fun vt46 => (some vt46)) else (some (⟨w64 (vt23), vt24⟩ : S_Wide)))))
def bits_Len64 (k : Nat) (x1 : Int) : Option (Int) :=
  ((if x1 ≥ 4294967296 then (some ((shr x1 32), 32)) else (some (x1, 0)) : Option (Int × Int))).bind fun (x17, n18) => (((if x17 ≥ 65536 then (some ((shr x17 16), (w64 (n18 + 16)))) else (some (x17, n18)) : Option (Int × Int))).bind fun (x35, n36) => (if x35 ≥ 256 then (if 0 ≤ (u8 (shr x35 8)) then (if (u8 (shr x35 8)) < (str0.size : Int) then (some (w64 ((w64 (n36 + 8)) + (w64 ((bt str0 (u8 (shr x35 8)))))))) else none) else none) else (if 0 ≤ (u8 (x35)) then (if (u8 (x35)) < (str0.size : Int) then (some (w64 (n36 + (w64 ((bt str0 (u8 (x35)))))))) else none) else none)))
def bits_LeadingZeros64 (k : Nat) (x1 : Int) : Option (Int) :=
  (bits_Len64 k x1).bind fun vt6 => (some (w64 (64 - vt6)))
def bits_Div64.l0 (k : Nat) (y3 : Int) (vt31 : Int) (lo2 : Int) : Nat → Int → Int → Option (Int)
  | 0, _, _ => none
  | n_ + 1, q175, rhat76 =>
    if q175 ≥ 4294967296 then (if (u64 (rhat76 + (shr (u64 (y3 * 2 ^ (min (u64 (vt31)).toNat 64))) 32))) ≥ 4294967296 then (some (u64 (q175 - 1))) else (bits_Div64.l0 k y3 vt31 lo2 n_ (u64 (q175 - 1)) (u64 (rhat76 + (shr (u64 (y3 * 2 ^ (min (u64 (vt31)).toNat 64))) 32))))) else (if (u64 (q175 * (Go.bits .and .u64 (u64 (y3 * 2 ^ (min (u64 (vt31)).toNat 64))) 4294967295))) > (u64 ((u64 (4294967296 * rhat76)) + (shr (u64 (lo2 * 2 ^ (min (u64 (vt31)).toNat 64))) 32))) then (if (u64 (rhat76 + (shr (u64 (y3 * 2 ^ (min (u64 (vt31)).toNat 64))) 32))) ≥ 4294967296 then (some (u64 (q175 - 1))) else (bits_Div64.l0 k y3 vt31 lo2 n_ (u64 (q175 - 1)) (u64 (rhat76 + (shr (u64 (y3 * 2 ^ (min (u64 (vt31)).toNat 64))) 32))))) else (some q175))
def bits_Div64.l1 (k : Nat) (y3 : Int) (vt31 : Int) (lo2 : Int) : Nat → Int → Int → Option (Int)
  | 0, _, _ => none
  | n_ + 1, rhat146, q0147 =>
    if q0147 ≥ 4294967296 then (if (u64 (rhat146 + (shr (u64 (y3 * 2 ^ (min (u64 (vt31)).toNat 64))) 32))) ≥ 4294967296 then (some (u64 (q0147 - 1))) else (bits_Div64.l1 k y3 vt31 lo2 n_ (u64 (rhat146 + (shr (u64 (y3 * 2 ^ (min (u64 (vt31)).toNat 64))) 32))) (u64 (q0147 - 1)))) else (if (u64 (q0147 * (Go.bits .and .u64 (u64 (y3 * 2 ^ (min (u64 (vt31)).toNat 64))) 4294967295))) > (u64 ((u64 (4294967296 * rhat146)) + (Go.bits .and .u64 (u64 (lo2 * 2 ^ (min (u64 (vt31)).toNat 64))) 4294967295))) then (if (u64 (rhat146 + (shr (u64 (y3 * 2 ^ (min (u64 (vt31)).toNat 64))) 32))) ≥ 4294967296 then (some (u64 (q0147 - 1))) else (bits_Div64.l1 k y3 vt31 lo2 n_ (u64 (rhat146 + (shr (u64 (y3 * 2 ^ (min (u64 (vt31)).toNat 64))) 32))) (u64 (q0147 - 1)))) else (some q0147))
def bits_Div64 (k : Nat) (hi1 : Int) (lo2 : Int) (y3 : Int) : Option (Int × Int) :=
  if y3 = 0 then (none) else (if y3 ≤ hi1 then (none) else (if hi1 = 0 then (if ¬ (y3 = 0) then (some (u64 (Int.tdiv lo2 y3), Int.tmod lo2 y3)) else none) else ((bits_LeadingZeros64 k y3).bind fun vt31 => (if ¬ ((u64 (vt31)) < 0) then (if ¬ ((u64 (64 - (u64 (vt31)))) < 0) then (if ¬ ((shr (u64 (y3 * 2 ^ (min (u64 (vt31)).toNat 64))) 32) = 0) then ((bits_Div64.l0 k y3 vt31 lo2 k (u64 (Int.tdiv (Go.bits .or .u64 (u64 (hi1 * 2 ^ (min (u64 (vt31)).toNat 64))) (shr lo2 (min (u64 (64 - (u64 (vt31)))).toNat 64))) (shr (u64 (y3 * 2 ^ (min (u64 (vt31)).toNat 64))) 32))) (u64 ((Go.bits .or .u64 (u64 (hi1 * 2 ^ (min (u64 (vt31)).toNat 64))) (shr lo2 (min (u64 (64 - (u64 (vt31)))).toNat 64))) - (u64 ((u64 (Int.tdiv (Go.bits .or .u64 (u64 (hi1 * 2 ^ (min (u64 (vt31)).toNat 64))) (shr lo2 (min (u64 (64 - (u64 (vt31)))).toNat 64))) (shr (u64 (y3 * 2 ^ (min (u64 (vt31)).toNat 64))) 32))) * (shr (u64 (y3 * 2 ^ (min (u64 (vt31)).toNat 64))) 32)))))).bind fun q1119 => ((bits_Div64.l1 k y3 vt31 lo2 k (u64 ((u64 ((u64 ((u64 ((Go.bits .or .u64 (u64 (hi1 * 2 ^ (min (u64 (vt31)).toNat 64))) (shr lo2 (min (u64 (64 - (u64 (vt31)))).toNat 64))) * 4294967296)) + (shr (u64 (lo2 * 2 ^ (min (u64 (vt31)).toNat 64))) 32))) - (u64 (q1119 * (u64 (y3 * 2 ^ (min (u64 (vt31)).toNat 64))))))) - (u64 ((u64 (Int.tdiv (u64 ((u64 ((u64 ((Go.bits .or .u64 (u64 (hi1 * 2 ^ (min (u64 (vt31)).toNat 64))) (shr lo2 (min (u64 (64 - (u64 (vt31)))).toNat 64))) * 4294967296)) + (shr (u64 (lo2 * 2 ^ (min (u64 (vt31)).toNat 64))) 32))) - (u64 (q1119 * (u64 (y3 * 2 ^ (min (u64 (vt31)).toNat 64))))))) (shr (u64 (y3 * 2 ^ (min (u64 (vt31)).toNat 64))) 32))) * (shr (u64 (y3 * 2 ^ (min (u64 (vt31)).toNat 64))) 32))))) (u64 (Int.tdiv (u64 ((u64 ((u64 ((Go.bits .or .u64 (u64 (hi1 * 2 ^ (min (u64 (vt31)).toNat 64))) (shr lo2 (min (u64 (64 - (u64 (vt31)))).toNat 64))) * 4294967296)) + (shr (u64 (lo2 * 2 ^ (min (u64 (vt31)).toNat 64))) 32))) - (u64 (q1119 * (u64 (y3 * 2 ^ (min (u64 (vt31)).toNat 64))))))) (shr (u64 (y3 * 2 ^ (min (u64 (vt31)).toNat 64))) 32)))).bind fun q0190 => (some (u64 ((u64 (q1119 * 4294967296)) + q0190), shr (u64 ((u64 ((u64 ((u64 ((u64 ((u64 ((Go.bits .or .u64 (u64 (hi1 * 2 ^ (min (u64 (vt31)).toNat 64))) (shr lo2 (min (u64 (64 - (u64 (vt31)))).toNat 64))) * 4294967296)) + (shr (u64 (lo2 * 2 ^ (min (u64 (vt31)).toNat 64))) 32))) - (u64 (q1119 * (u64 (y3 * 2 ^ (min (u64 (vt31)).toNat 64))))))) * 4294967296)) + (Go.bits .and .u64 (u64 (lo2 * 2 ^ (min (u64 (vt31)).toNat 64))) 4294967295))) - (u64 (q0190 * (u64 (y3 * 2 ^ (min (u64 (vt31)).toNat 64))))))) (min (u64 (vt31)).toNat 64))))) else none) else none) else none))))
def num_Wide_Div (k : Nat) (vw1 : S_Wide) (d2 : Int) : Option (Int × Int) :=
  if d2 < 1 then (some (0, 1)) else (((if vw1.Hi < 0 then ((num_Wide_Neg k vw1).bind fun vt31 => (some (vt31.Hi, vt31.Lo))) else (some (vw1.Hi, vw1.Lo)) : Option (Int × Int))).bind fun (x44, x45) => (if (u64 (x44)) ≥ (u64 (d2)) then (some (0, 2)) else ((bits_Div64 k (u64 (x44)) x45 (u64 (d2))).bind fun (vt59, vt60) => (((if vw1.Hi < 0 then (((if vt60 > 0 then (some (u64 (9223372036854775808 - 1))) else (some 9223372036854775808) : Option (Int))).bind fun most85 => (some most85)) else (some 9223372036854775807) : Option (Int))).bind fun most94 => (if vt59 > most94 then (some (0, 2)) else (if vw1.Hi ≥ 0 then (some (w64 (vt59), 0)) else (if vt60 > 0 then (some (w64 ((w64 (u64 (0 - vt59))) - 1), 0)) else (some (w64 (u64 (0 - vt59)), 0)))))))))
def num_MulDiv (k : Nat) (a1 : Int) (b2 : Int) (c3 : Int) : Option (Int × Int) :=
  (num_Product k a1 b2).bind fun vt8 => ((num_Wide_Div k vt8 c3).bind fun (vt14, vt15) => (some (vt14, vt15)))
def sensor_Expect.l0 (k : Nat) (light11 : List Int) (s1 : S_Sensor) (beats15 : Int) : Nat → (List Int) → Int → Option ((List Int))
  | 0, _, _ => none
  | n_ + 1, out149, x153 =>
    if x153 < (light11.length : Int) then (if 0 ≤ x153 then (if x153 < (s1.Flat.length : Int) then ((num_MulDiv k (rd light11 x153) (rd s1.Flat x153) 4096).bind fun (vt185, vt186) => (if x153 < (s1.Dark.length : Int) then (if x153 < (out149.length : Int) then (sensor_Expect.l0 k light11 s1 beats15 n_ (out149.set (x153).toNat (w64 (vt185 + (w64 ((rd s1.Dark x153) * beats15))))) (w64 (x153 + 1))) else none) else none)) else none) else none) else (some out149)
def sensor_Expect (k : Nat) (s1 : S_Sensor) (light11 : List Int) (beats15 : Int) : Option ((List Int) × Int) :=
  (sensor_sized k s1 (light11.length : Int)).bind fun vt26 => (if vt26 ≠ 0 then (some (([] : List Int), vt26)) else (if beats15 < 0 then (some (([] : List Int), 4)) else (if beats15 > 16 then (some (([] : List Int), 4)) else ((sensor_outside_Light k light11 72057594037927936).bind fun vt48 => (if vt48 = true then (some (([] : List Int), 4)) else (if 0 ≤ (light11.length : Int) then (if (light11.length : Int) * 8 ≤ 140737488355328 then ((sensor_Expect.l0 k light11 s1 beats15 k (List.replicate ((light11.length : Int)).toNat (0 : Int)) 0).bind fun out211 => (some (out211, 0))) else none) else none))))))
def slices_Equal_Quanta.l0 (k : Nat) (s11 : List Int) (s25 : List Int) : Nat → Int → Option (Sum Bool Unit)
  | 0, _ => none
  | n_ + 1, x38 =>
    if x38 < (s11.length : Int) then (if 0 ≤ x38 then (if x38 < (s25.length : Int) then (if (rd s11 x38) ≠ (rd s25 x38) then (some (Sum.inl false)) else (slices_Equal_Quanta.l0 k s11 s25 n_ (w64 (x38 + 1)))) else none) else none) else (some (Sum.inr ()))
def slices_Equal_Quanta (k : Nat) (s11 : List Int) (s25 : List Int) : Option (Bool) :=
  if (s11.length : Int) ≠ (s25.length : Int) then (some false) else ((slices_Equal_Quanta.l0 k s11 s25 k 0).bind fun z_ => Sum.elim (fun y_ => some y_) (fun _ => (some true)) z_)
def slices_Equal_Light.l0 (k : Nat) (s11 : List Int) (s25 : List Int) : Nat → Int → Option (Sum Bool Unit)
  | 0, _ => none
  | n_ + 1, x38 =>
    if x38 < (s11.length : Int) then (if 0 ≤ x38 then (if x38 < (s25.length : Int) then (if (rd s11 x38) ≠ (rd s25 x38) then (some (Sum.inl false)) else (slices_Equal_Light.l0 k s11 s25 n_ (w64 (x38 + 1)))) else none) else none) else (some (Sum.inr ()))
def slices_Equal_Light (k : Nat) (s11 : List Int) (s25 : List Int) : Option (Bool) :=
  if (s11.length : Int) ≠ (s25.length : Int) then (some false) else ((slices_Equal_Light.l0 k s11 s25 k 0).bind fun z_ => Sum.elim (fun y_ => some y_) (fun _ => (some true)) z_)
def spykeep3_column (k : Nat) : Option (Bool) :=
  (sensor_Bleed k (⟨1, 2, ([1, 2] : List Int), ([0, 3] : List Int), ([4096, 0] : List Int), 10, 1, 0⟩ : S_Sensor) ([13, 0] : List Int)).bind fun (vt60, vt61, vt62) => ((sensor_Expect k (⟨1, 2, ([1, 2] : List Int), ([0, 3] : List Int), ([4096, 0] : List Int), 10, 1, 0⟩ : S_Sensor) ([9, 9] : List Int) 2).bind fun (vt116, vt117) => (if vt62 = 0 then (if vt117 = 0 then (if vt61 = 1 then ((slices_Equal_Quanta k vt60 ([10, 2] : List Int)).bind fun vt162 => (if vt162 = true then ((slices_Equal_Light k vt116 ([9, 6] : List Int)).bind fun vt192 => (some vt192)) else (some false))) else (some false)) else (some false)) else (some false)))
def spykeep3_SensorBleedsKeep_1 (k : Nat) (v5 : List Int) (v9 : S_Sensor) (vk19 : Int) : Option (Bool) :=
  if vk19 ≥ 0 then (if vk19 < (v5.length : Int) then (if 0 ≤ vk19 then (some ((rd v5 vk19) == v9.Full)) else none) else (some false)) else (some false)
def spykeep3_SensorBleedsKeep.l0 (k : Nat) (vt64 : List Int) (vt107 : List Int) (vt15 : S_Sensor) : Nat → Int → Int → Int → Option (Sum Bool (Int × Int))
  | 0, _, _, _ => none
  | n_ + 1, before182, after183, x184 =>
    if x184 < (vt64.length : Int) then (if 0 ≤ x184 then (if x184 < (vt107.length : Int) then (if (rd vt107 x184) > vt15.Full then (some (Sum.inl false)) else (if (rd vt107 x184) < (mn (rd vt64 x184) vt15.Full) then (some (Sum.inl false)) else (if (rd vt107 x184) > (rd vt64 x184) then ((spykeep3_SensorBleedsKeep_1 k vt107 vt15 (w64 (x184 - vt15.W))).bind fun vt257 => (if ¬ (vt257 = true) then ((spykeep3_SensorBleedsKeep_1 k vt107 vt15 (w64 (x184 + vt15.W))).bind fun vt310 => (if ¬ (vt310 = true) then (some (Sum.inl false)) else (spykeep3_SensorBleedsKeep.l0 k vt64 vt107 vt15 n_ (w64 (before182 + (rd vt64 x184))) (w64 (after183 + (rd vt107 x184))) (w64 (x184 + 1))))) else (spykeep3_SensorBleedsKeep.l0 k vt64 vt107 vt15 n_ (w64 (before182 + (rd vt64 x184))) (w64 (after183 + (rd vt107 x184))) (w64 (x184 + 1))))) else (spykeep3_SensorBleedsKeep.l0 k vt64 vt107 vt15 n_ (w64 (before182 + (rd vt64 x184))) (w64 (after183 + (rd vt107 x184))) (w64 (x184 + 1)))))) else none) else none) else (some (Sum.inr (before182, after183)))
def spykeep3_SensorBleedsKeep (k : Nat) (l1 : List Int) : Option (Bool) :=
  (spymake_Stream_Sensor k (⟨l1, 0⟩ : S_Stream) 6).bind fun (vt15, vt16) => ((spykeep3_filled k (⟨l1, vt16⟩ : S_Stream) vt15).bind fun (vt64, vt65) => ((sensor_Bleed k vt15 vt64).bind fun (vt107, vt108, vt109) => ((spykeep3_column k).bind fun vt142 => (if ¬ (vt142 = true) then (some false) else (if vt109 ≠ 0 then (some false) else (if (vt107.length : Int) ≠ (vt64.length : Int) then (some false) else (if vt108 < 0 then (some false) else ((spykeep3_SensorBleedsKeep.l0 k vt64 vt107 vt15 k 0 vt108 0).bind fun z_ => Sum.elim (fun y_ => some y_) (fun (before345, after346) => (some (before345 == after346))) z_))))))))
end Go.Sp.X5
