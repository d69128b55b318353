import Derived.Test.YtpbpeiofebgjiaaGreatDoorSpStr
import Derived.Test.YtpbpeiofebgjiaaGreatDoorSpLib
import Derived.Test.YtpbpeiofebgjiaaGreatDoorSpCopy
namespace Go.Sp.K3
open Go Go.Sp
set_option linter.unusedVariables false
structure S_Stream where
  L : List Int
  vat : Int
instance : Inhabited S_Stream := ⟨⟨default, default⟩⟩
structure S_Sensor where
  W : Int
  H : Int
  Bias : List Int
  Dark : List Int
  Flat : List Int
  Full : Int
  Gain : Int
  Noise : Int
instance : Inhabited S_Sensor := ⟨⟨default, default, default, default, default, default, default, default⟩⟩
structure S_Hit where
  X : Int
  Y : Int
  Quanta : Int
instance : Inhabited S_Hit := ⟨⟨default, default, default⟩⟩
structure S_Plate where
  A : Int
  B : Int
  C : Int
  D : Int
instance : Inhabited S_Plate := ⟨⟨default, default, default, default⟩⟩
structure S_Shot where
  Kind : Int
  Seed : Int
  Number : Int
  Begin : Int
  Beats : Int
  Plate : S_Plate
  Seeing : Int
  DriftX : Int
  DriftY : Int
  Lamp : Int
  Hits : List S_Hit
instance : Inhabited S_Shot := ⟨⟨default, default, default, default, default, default, default, default, default, default, default⟩⟩
structure S_Card where
  Key : ByteArray
  Value : ByteArray
  Unit : ByteArray
  Note : ByteArray
instance : Inhabited S_Card := ⟨⟨default, default, default, default⟩⟩
structure S_Camera where
  W : Int
  H : Int
  Full : Int
  Gain : Int
  Noise : Int
instance : Inhabited S_Camera := ⟨⟨default, default, default, default, default⟩⟩
structure S_Frame where
  W : Int
  H : Int
  Cards : List S_Card
  Counts : List Int
instance : Inhabited S_Frame := ⟨⟨default, default, default, default⟩⟩
structure S_Bound where
  Lo : Int
  Hi : Int
  Unknown : Bool
instance : Inhabited S_Bound := ⟨⟨default, default, default⟩⟩
structure S_numbers where
  f : S_Frame
  e : Int
instance : Inhabited S_numbers := ⟨⟨default, default⟩⟩
structure S_Wide where
  Hi : Int
  Lo : Int
instance : Inhabited S_Wide := ⟨⟨default, default⟩⟩
def spymake_Below (k : Nat) (x1 : Int) (n2 : Int) : Option (Int) :=
  if n2 < 1 then (some 0) else (if ¬ (n2 = 0) then (if (Int.tmod x1 n2) < 0 then (some (w64 ((Int.tmod x1 n2) + n2))) else (some (Int.tmod x1 n2))) else none)
def spymake_Stream_Next (k : Nat) (s3 : S_Stream) (n7 : Int) : Option (Int × Int) :=
  if (s3.L.length : Int) = 0 then ((spymake_Below k (w64 ((w64 (s3.vat + 1)) * 7919)) n7).bind fun vt22 => (some (vt22, w64 (s3.vat + 1)))) else (if ¬ ((s3.L.length : Int) = 0) then (if 0 ≤ (Int.tmod (w64 ((w64 (s3.vat + 1)) - 1)) (s3.L.length : Int)) then (if (Int.tmod (w64 ((w64 (s3.vat + 1)) - 1)) (s3.L.length : Int)) < (s3.L.length : Int) then ((spymake_Below k (rd s3.L (Int.tmod (w64 ((w64 (s3.vat + 1)) - 1)) (s3.L.length : Int))) 1073741824).bind fun vt47 => ((spymake_Below k (w64 (vt47 + (w64 ((w64 (Int.tdiv (w64 ((w64 (s3.vat + 1)) - 1)) (s3.L.length : Int))) * (w64 (7919 + (Int.tmod (w64 ((w64 (s3.vat + 1)) - 1)) (s3.L.length : Int)))))))) n7).bind fun vt53 => (some (vt53, w64 (s3.vat + 1))))) else none) else none) else none)
def spymake_Stream_Range (k : Nat) (s3 : S_Stream) (low7 : Int) (high8 : Int) : Option (Int × Int) :=
  if high8 < low7 then (some (low7, s3.vat)) else ((spymake_Stream_Next k s3 (w64 ((w64 (high8 - low7)) + 1))).bind fun (vt21, vt22) => (some (w64 (low7 + vt21), vt22)))
def spymake_Stream_Sensor.l0 (k : Nat) (vt17 : Int) (vt24 : Int) (s3 : S_Stream) (vt145 : Int) : Nat → Int → Int → (List Int) → (List Int) → (List Int) → Option (Int × (List Int) × (List Int) × (List Int))
  | 0, _, _, _, _, _ => none
  | n_ + 1, x340, x341, x342, x348, x354 =>
    if x340 < (w64 (vt17 * vt24)) then ((spymake_Stream_Next k (⟨s3.L, x341⟩ : S_Stream) 60).bind fun (vt386, vt387) => (if (x342.length + 1) * 8 ≤ 140737488355328 then ((spymake_Stream_Next k (⟨s3.L, vt387⟩ : S_Stream) (w64 ((w64 (vt145 * 16777216)) + 1))).bind fun (vt422, vt423) => (if (x348.length + 1) * 8 ≤ 140737488355328 then ((spymake_Stream_Range k (⟨s3.L, vt423⟩ : S_Stream) 2048 4096).bind fun (vt450, vt451) => ((spymake_Stream_Next k (⟨s3.L, vt451⟩ : S_Stream) 12).bind fun (vt461, vt462) => (if vt461 = 0 then ((spymake_Stream_Next k (⟨s3.L, vt462⟩ : S_Stream) 512).bind fun (vt470, vt471) => ((spymake_Stream_Next k (⟨s3.L, vt471⟩ : S_Stream) 2).bind fun (vt477, vt478) => (if (x354.length + 1) * 8 ≤ 140737488355328 then (spymake_Stream_Sensor.l0 k vt17 vt24 s3 vt145 n_ (w64 (x340 + 1)) vt478 (x342 ++ ([vt386] : List Int)) (x348 ++ ([vt422] : List Int)) (x354 ++ ([w64 (vt470 * vt477)] : List Int))) else none))) else (if (x354.length + 1) * 8 ≤ 140737488355328 then (spymake_Stream_Sensor.l0 k vt17 vt24 s3 vt145 n_ (w64 (x340 + 1)) vt462 (x342 ++ ([vt386] : List Int)) (x348 ++ ([vt422] : List Int)) (x354 ++ ([vt450] : List Int))) else none)))) else none)) else none)) else (some (x341, x342, x348, x354))
def spymake_Stream_Sensor (k : Nat) (s3 : S_Stream) (most7 : Int) : Option (S_Sensor × Int) :=
  (spymake_Stream_Range k s3 1 most7).bind fun (vt17, vt18) => ((spymake_Stream_Range k (⟨s3.L, vt18⟩ : S_Stream) 1 most7).bind fun (vt24, vt25) => ((spymake_Stream_Range k (⟨s3.L, vt25⟩ : S_Stream) 20000 1048576).bind fun (vt31, vt32) => ((spymake_Stream_Range k (⟨s3.L, vt32⟩ : S_Stream) 1 4).bind fun (vt38, vt39) => ((spymake_Stream_Next k (⟨s3.L, vt39⟩ : S_Stream) 4).bind fun (vt45, vt46) => ((spymake_Stream_Next k (⟨s3.L, vt46⟩ : S_Stream) 6).bind fun (vt63, vt64) => (((if vt63 = 0 then ((spymake_Stream_Range k (⟨s3.L, vt64⟩ : S_Stream) 200 5000).bind fun (vt81, vt82) => (some (vt82, vt81, vt38, vt45))) else (((if vt63 = 1 then ((spymake_Stream_Range k (⟨s3.L, vt64⟩ : S_Stream) 1 64).bind fun (vt95, vt96) => ((spymake_Stream_Next k (⟨s3.L, vt96⟩ : S_Stream) 20).bind fun (vt102, vt103) => (some (vt103, vt95, vt102)))) else (some (vt64, vt38, vt45)) : Option (Int × Int × Int))).bind fun (x119, x120, x121) => (some (x119, vt31, x120, x121))) : Option (Int × Int × Int × Int))).bind fun (x133, x134, x135, x136) => ((spymake_Stream_Next k (⟨s3.L, x133⟩ : S_Stream) 3).bind fun (vt145, vt146) => ((spymake_Stream_Sensor.l0 k vt17 vt24 s3 vt145 k 0 vt146 ([] : List Int) ([] : List Int) ([] : List Int)).bind fun (x525, x526, x532, x538) => (some ((⟨vt17, vt24, x526, x532, x538, x134, x135, x136⟩ : S_Sensor), x525))))))))))
def spykeep3_filled.l0 (k : Nat) (c7 : S_Sensor) (s3 : S_Stream) : Nat → (List Int) → Int → Int → Option ((List Int) × Int)
  | 0, _, _, _ => none
  | n_ + 1, out135, x141, x142 =>
    if x141 < (w64 (c7.W * c7.H)) then ((spymake_Stream_Next k (⟨s3.L, x142⟩ : S_Stream) (w64 (c7.Full + 1))).bind fun (vt161, vt162) => ((spymake_Stream_Next k (⟨s3.L, vt162⟩ : S_Stream) 5).bind fun (vt172, vt173) => (if vt172 = 0 then ((spymake_Stream_Next k (⟨s3.L, vt173⟩ : S_Stream) (w64 (4 * c7.Full))).bind fun (vt181, vt182) => (if (out135.length + 1) * 8 ≤ 140737488355328 then (spykeep3_filled.l0 k c7 s3 n_ (out135 ++ ([vt181] : List Int)) (w64 (x141 + 1)) vt182) else none)) else (if (out135.length + 1) * 8 ≤ 140737488355328 then (spykeep3_filled.l0 k c7 s3 n_ (out135 ++ ([vt161] : List Int)) (w64 (x141 + 1)) vt173) else none)))) else (some (out135, x142))
def spykeep3_filled (k : Nat) (s3 : S_Stream) (c7 : S_Sensor) : Option ((List Int) × Int) :=
  (spykeep3_filled.l0 k c7 s3 k ([] : List Int) 0 s3.vat).bind fun (out223, x229) => (some (out223, x229))
def sensor_outside_int_1 (k : Nat) (v3 : Int) (x4 : Int) : Option (Bool) :=
  if x4 < 0 then (some true) else (some (decide (x4 > v3)))
def slices_IndexFunc_int__sensor_outside_int_1.l0 (k : Nat) (s4 : List Int) (v3 : Int) : Nat → Int → Option (Sum Int Unit)
  | 0, _ => none
  | n_ + 1, x29 =>
    if x29 < (s4.length : Int) then (if 0 ≤ x29 then ((sensor_outside_int_1 k v3 (rd s4 x29)).bind fun vt56 => (if vt56 = true then (some (Sum.inl x29)) else (slices_IndexFunc_int__sensor_outside_int_1.l0 k s4 v3 n_ (w64 (x29 + 1))))) else none) else (some (Sum.inr ()))
def slices_IndexFunc_int__sensor_outside_int_1 (k : Nat) (v3 : Int) (s4 : List Int) : Option (Int) :=
  (slices_IndexFunc_int__sensor_outside_int_1.l0 k s4 v3 k 0).bind fun z_ => Sum.elim (fun y_ => some y_) (fun _ => (some (-1))) z_
def slices_ContainsFunc_int__sensor_outside_int_1 (k : Nat) (v3 : Int) (s4 : List Int) : Option (Bool) :=
  (slices_IndexFunc_int__sensor_outside_int_1 k v3 s4).bind fun vt12 => (some (decide (vt12 ≥ 0)))
def sensor_outside_int (k : Nat) (l1 : List Int) (most5 : Int) : Option (Bool) :=
  (slices_ContainsFunc_int__sensor_outside_int_1 k most5 l1).bind fun vt14 => (some vt14)
def sensor_outside_Light_1 (k : Nat) (v3 : Int) (x4 : Int) : Option (Bool) :=
  if x4 < 0 then (some true) else (some (decide (x4 > v3)))
def slices_IndexFunc_Light__sensor_outside_Light_1.l0 (k : Nat) (s4 : List Int) (v3 : Int) : Nat → Int → Option (Sum Int Unit)
  | 0, _ => none
  | n_ + 1, x29 =>
    if x29 < (s4.length : Int) then (if 0 ≤ x29 then ((sensor_outside_Light_1 k v3 (rd s4 x29)).bind fun vt56 => (if vt56 = true then (some (Sum.inl x29)) else (slices_IndexFunc_Light__sensor_outside_Light_1.l0 k s4 v3 n_ (w64 (x29 + 1))))) else none) else (some (Sum.inr ()))
def slices_IndexFunc_Light__sensor_outside_Light_1 (k : Nat) (v3 : Int) (s4 : List Int) : Option (Int) :=
  (slices_IndexFunc_Light__sensor_outside_Light_1.l0 k s4 v3 k 0).bind fun z_ => Sum.elim (fun y_ => some y_) (fun _ => (some (-1))) z_
def slices_ContainsFunc_Light__sensor_outside_Light_1 (k : Nat) (v3 : Int) (s4 : List Int) : Option (Bool) :=
  (slices_IndexFunc_Light__sensor_outside_Light_1 k v3 s4).bind fun vt12 => (some (decide (vt12 ≥ 0)))
def sensor_outside_Light (k : Nat) (l1 : List Int) (most5 : Int) : Option (Bool) :=
  (slices_ContainsFunc_Light__sensor_outside_Light_1 k most5 l1).bind fun vt14 => (some vt14)
def sensor_Check (k : Nat) (s1 : S_Sensor) : Option (Int) :=
  if (mn s1.W s1.H) < 1 then (some 4) else (if (mx s1.W s1.H) > 32 then (some 4) else (if (s1.Bias.length : Int) ≠ (w64 (s1.W * s1.H)) then (some 3) else (if (s1.Dark.length : Int) ≠ (w64 (s1.W * s1.H)) then (some 3) else (if (s1.Flat.length : Int) ≠ (w64 (s1.W * s1.H)) then (some 3) else ((sensor_outside_int k s1.Bias 4096).bind fun vt51 => (if vt51 = true then (some 4) else ((sensor_outside_Light k s1.Dark 17592186044416).bind fun vt60 => (if vt60 = true then (some 4) else ((sensor_outside_int k s1.Flat 4096).bind fun vt69 => (if vt69 = true then (some 4) else (if s1.Full < 1 then (some 4) else (if s1.Full > 1048576 then (some 4) else (if s1.Gain < 1 then (some 4) else (if s1.Gain > 64 then (some 4) else (if s1.Noise < 0 then (some 4) else (if s1.Noise > 64 then (some 4) else (some 0)))))))))))))))))
def sensor_sized (k : Nat) (s1 : S_Sensor) (n11 : Int) : Option (Int) :=
  (sensor_Check k s1).bind fun vt22 => (if vt22 ≠ 0 then (some vt22) else (if n11 ≠ (w64 (s1.W * s1.H)) then (some 3) else (some 0)))
def sensor_outside_Quanta_1 (k : Nat) (v3 : Int) (x4 : Int) : Option (Bool) :=
  if x4 < 0 then (some true) else (some (decide (x4 > v3)))
def slices_IndexFunc_Quanta__sensor_outside_Quanta_1.l0 (k : Nat) (s4 : List Int) (v3 : Int) : Nat → Int → Option (Sum Int Unit)
  | 0, _ => none
  | n_ + 1, x29 =>
    if x29 < (s4.length : Int) then (if 0 ≤ x29 then ((sensor_outside_Quanta_1 k v3 (rd s4 x29)).bind fun vt56 => (if vt56 = true then (some (Sum.inl x29)) else (slices_IndexFunc_Quanta__sensor_outside_Quanta_1.l0 k s4 v3 n_ (w64 (x29 + 1))))) else none) else (some (Sum.inr ()))
def slices_IndexFunc_Quanta__sensor_outside_Quanta_1 (k : Nat) (v3 : Int) (s4 : List Int) : Option (Int) :=
  (slices_IndexFunc_Quanta__sensor_outside_Quanta_1.l0 k s4 v3 k 0).bind fun z_ => Sum.elim (fun y_ => some y_) (fun _ => (some (-1))) z_
def slices_ContainsFunc_Quanta__sensor_outside_Quanta_1 (k : Nat) (v3 : Int) (s4 : List Int) : Option (Bool) :=
  (slices_IndexFunc_Quanta__sensor_outside_Quanta_1 k v3 s4).bind fun vt12 => (some (decide (vt12 ≥ 0)))
def sensor_outside_Quanta (k : Nat) (l1 : List Int) (most5 : Int) : Option (Bool) :=
  (slices_ContainsFunc_Quanta__sensor_outside_Quanta_1 k most5 l1).bind fun vt14 => (some vt14)
def sensor_Bleed_1 (k : Nat) (v5 : List Int) (v9 : S_Sensor) (i19 : Int) : Option (Int) :=
  if 0 ≤ i19 then (if i19 < (v5.length : Int) then (some (mx 0 (w64 ((rd v5 i19) - v9.Full)))) else none) else none
def sensor_Bleed_2 (k : Nat) (v7 : List Int) (v11 : S_Sensor) (i21 : Int) : Option (Int) :=
  (sensor_Bleed_1 k v7 v11 i21).bind fun vt28 => (some (w64 (Int.tdiv (w64 (vt28 + 1)) 2)))
def sensor_pour__sensor_Bleed_2.l0 (k : Nat) (order37 : List Int) (v7 : List Int) (v11 : S_Sensor) (s21 : S_Sensor) : Nat → (List Int) → Int → Int → Option ((List Int) × Int)
  | 0, _, _, _ => none
  | n_ + 1, held131, flow135, x136 =>
    if x136 < (order37.length : Int) then (if 0 ≤ x136 then (if 0 ≤ (rd order37 x136) then (if (rd order37 x136) < (held131.length : Int) then ((sensor_Bleed_2 k v7 v11 (rd order37 x136)).bind fun vt183 => (sensor_pour__sensor_Bleed_2.l0 k order37 v7 v11 s21 n_ (held131.set ((rd order37 x136)).toNat (w64 ((rd held131 (rd order37 x136)) + (mn flow135 (w64 (s21.Full - (rd held131 (rd order37 x136)))))))) (w64 (flow135 + (w64 (vt183 - (mn flow135 (w64 (s21.Full - (rd held131 (rd order37 x136))))))))) (w64 (x136 + 1)))) else none) else none) else none) else (some (held131, flow135))
def sensor_pour__sensor_Bleed_2 (k : Nat) (v7 : List Int) (v11 : S_Sensor) (s21 : S_Sensor) (held35 : List Int) (order37 : List Int) : Option (Int × (List Int)) :=
  (sensor_pour__sensor_Bleed_2.l0 k order37 v7 v11 s21 k held35 0 0).bind fun (held194, flow198) => (some (flow198, held194))
def slices_Reverse_int.l0 (k : Nat) : Nat → (List Int) → Int → Int → Option ((List Int))
  | 0, _, _, _ => none
  | n_ + 1, s83, i87, j88 =>
    if i87 < j88 then (if 0 ≤ j88 then (if j88 < (s83.length : Int) then (if 0 ≤ i87 then (if i87 < (s83.length : Int) then (if j88 < ((s83.set (i87).toNat (rd s83 j88)).length : Int) then (slices_Reverse_int.l0 k n_ ((s83.set (i87).toNat (rd s83 j88)).set (j88).toNat (rd s83 i87)) (w64 (i87 + 1)) (w64 (j88 - 1))) else none) else none) else none) else none) else none) else (some s83)
def slices_Reverse_int (k : Nat) (s5 : List Int) : Option ((List Int)) :=
  (slices_Reverse_int.l0 k k s5 0 (w64 ((s5.length : Int) - 1))).bind fun s142 => (some s142)
def sensor_Bleed_3 (k : Nat) (v7 : List Int) (v11 : S_Sensor) (i21 : Int) : Option (Int) :=
  (sensor_Bleed_1 k v7 v11 i21).bind fun vt28 => (some (w64 (Int.tdiv vt28 2)))
def sensor_pour__sensor_Bleed_3.l0 (k : Nat) (order37 : List Int) (v7 : List Int) (v11 : S_Sensor) (s21 : S_Sensor) : Nat → (List Int) → Int → Int → Option ((List Int) × Int)
  | 0, _, _, _ => none
  | n_ + 1, held131, flow135, x136 =>
    if x136 < (order37.length : Int) then (if 0 ≤ x136 then (if 0 ≤ (rd order37 x136) then (if (rd order37 x136) < (held131.length : Int) then ((sensor_Bleed_3 k v7 v11 (rd order37 x136)).bind fun vt183 => (sensor_pour__sensor_Bleed_3.l0 k order37 v7 v11 s21 n_ (held131.set ((rd order37 x136)).toNat (w64 ((rd held131 (rd order37 x136)) + (mn flow135 (w64 (s21.Full - (rd held131 (rd order37 x136)))))))) (w64 (flow135 + (w64 (vt183 - (mn flow135 (w64 (s21.Full - (rd held131 (rd order37 x136))))))))) (w64 (x136 + 1)))) else none) else none) else none) else (some (held131, flow135))
def sensor_pour__sensor_Bleed_3 (k : Nat) (v7 : List Int) (v11 : S_Sensor) (s21 : S_Sensor) (held35 : List Int) (order37 : List Int) : Option (Int × (List Int)) :=
  (sensor_pour__sensor_Bleed_3.l0 k order37 v7 v11 s21 k held35 0 0).bind fun (held194, flow198) => (some (flow198, held194))
def sensor_Bleed.l0 (k : Nat) (q11 : List Int) (s1 : S_Sensor) : Nat → (List Int) → Int → Option ((List Int))
  | 0, _, _ => none
  | n_ + 1, out126, x130 =>
    if x130 < (q11.length : Int) then (if 0 ≤ x130 then (if x130 < (out126.length : Int) then (sensor_Bleed.l0 k q11 s1 n_ (out126.set (x130).toNat (mn (rd q11 x130) s1.Full)) (w64 (x130 + 1))) else none) else none) else (some out126)
def sensor_Bleed.l2 (k : Nat) (s1 : S_Sensor) (x368 : Int) : Nat → (List Int) → Int → Option ((List Int))
  | 0, _, _ => none
  | n_ + 1, column407, x413 =>
    if x413 < s1.H then (if (column407.length + 1) * 8 ≤ 140737488355328 then (sensor_Bleed.l2 k s1 x368 n_ (column407 ++ ([w64 ((w64 (x413 * s1.W)) + x368)] : List Int)) (w64 (x413 + 1))) else none) else (some column407)
def sensor_Bleed.l1 (k : Nat) (s1 : S_Sensor) (q11 : List Int) : Nat → (List Int) → Int → Int → Option ((List Int) × Int)
  | 0, _, _, _ => none
  | n_ + 1, out363, lost367, x368 =>
    if x368 < s1.W then ((sensor_Bleed.l2 k s1 x368 k ([] : List Int) 0).bind fun column451 => ((sensor_pour__sensor_Bleed_2 k q11 s1 s1 out363 column451).bind fun (vt473, vt474) => ((slices_Reverse_int k column451).bind fun vt488 => ((sensor_pour__sensor_Bleed_3 k q11 s1 s1 vt474 vt488).bind fun (vt506, vt507) => (sensor_Bleed.l1 k s1 q11 n_ vt507 (w64 ((w64 (lost367 + vt473)) + vt506)) (w64 (x368 + 1))))))) else (some (out363, lost367))
def sensor_Bleed (k : Nat) (s1 : S_Sensor) (q11 : List Int) : Option ((List Int) × Int × Int) :=
  (sensor_sized k s1 (q11.length : Int)).bind fun vt29 => (if vt29 ≠ 0 then (some (([] : List Int), 0, vt29)) else ((sensor_outside_Quanta k q11 4294967296).bind fun vt45 => (if vt45 = true then (some (([] : List Int), 0, 4)) else (if 0 ≤ (q11.length : Int) then (if (q11.length : Int) * 8 ≤ 140737488355328 then ((sensor_Bleed.l0 k q11 s1 k (List.replicate ((q11.length : Int)).toNat (0 : Int)) 0).bind fun out168 => ((sensor_Bleed.l1 k s1 q11 k out168 0 0).bind fun (out524, lost528) => (some (out524, lost528, 0)))) else none) else none))))
def quanta_Mix (k : Nat) (seed1 : Int) (n2 : Int) : Option (Int) :=
  some (Go.bits .xor .u64 (u64 ((Go.bits .xor .u64 (u64 ((Go.bits .xor .u64 (u64 (seed1 + (u64 ((u64 (w64 (n2 + 1))) * 11400714819323198485)))) (shr (u64 (seed1 + (u64 ((u64 (w64 (n2 + 1))) * 11400714819323198485)))) 30)) * 13787848793156543929)) (shr (u64 ((Go.bits .xor .u64 (u64 (seed1 + (u64 ((u64 (w64 (n2 + 1))) * 11400714819323198485)))) (shr (u64 (seed1 + (u64 ((u64 (w64 (n2 + 1))) * 11400714819323198485)))) 30)) * 13787848793156543929)) 27)) * 10723151780598845931)) (shr (u64 ((Go.bits .xor .u64 (u64 ((Go.bits .xor .u64 (u64 (seed1 + (u64 ((u64 (w64 (n2 + 1))) * 11400714819323198485)))) (shr (u64 (seed1 + (u64 ((u64 (w64 (n2 + 1))) * 11400714819323198485)))) 30)) * 13787848793156543929)) (shr (u64 ((Go.bits .xor .u64 (u64 (seed1 + (u64 ((u64 (w64 (n2 + 1))) * 11400714819323198485)))) (shr (u64 (seed1 + (u64 ((u64 (w64 (n2 + 1))) * 11400714819323198485)))) 30)) * 13787848793156543929)) 27)) * 10723151780598845931)) 31))
def bits_Mul64 (k : Nat) (x1 : Int) (y2 : Int) : Option (Int × Int) :=
  some (u64 ((u64 ((u64 ((shr x1 32) * (shr y2 32))) + (shr (u64 ((u64 ((shr x1 32) * (Go.bits .and .u64 y2 4294967295))) + (shr (u64 ((Go.bits .and .u64 x1 4294967295) * (Go.bits .and .u64 y2 4294967295))) 32))) 32))) + (shr (u64 ((Go.bits .and .u64 (u64 ((u64 ((shr x1 32) * (Go.bits .and .u64 y2 4294967295))) + (shr (u64 ((Go.bits .and .u64 x1 4294967295) * (Go.bits .and .u64 y2 4294967295))) 32))) 4294967295) + (u64 ((Go.bits .and .u64 x1 4294967295) * (shr y2 32))))) 32)), u64 (x1 * y2))
def quanta_Below (k : Nat) (x1 : Int) (n2 : Int) : Option (Int) :=
  if n2 < 1 then (some 0) else ((bits_Mul64 k x1 (u64 (n2))).bind fun (vt15, vt16) => (some (w64 (vt15))))
def sensor_Read.l0 (k : Nat) (q13 : List Int) (seed11 : Int) (number12 : Int) (s1 : S_Sensor) : Nat → (List Int) → Int → Option ((List Int))
  | 0, _, _ => none
  | n_ + 1, out152, x156 =>
    if x156 < (q13.length : Int) then (if 0 ≤ x156 then ((quanta_Mix k seed11 (w64 ((w64 (number12 * (q13.length : Int))) + x156))).bind fun vt185 => ((quanta_Below k vt185 (w64 ((w64 (2 * s1.Noise)) + 1))).bind fun vt191 => (if x156 < (s1.Bias.length : Int) then (if ¬ (s1.Gain = 0) then (if x156 < (out152.length : Int) then (sensor_Read.l0 k q13 seed11 number12 s1 n_ (out152.set (x156).toNat (mn 65535 (mx 0 (w64 ((w64 ((rd s1.Bias x156) + (w64 (Int.tdiv (rd q13 x156) s1.Gain)))) + (w64 (vt191 - s1.Noise))))))) (w64 (x156 + 1))) else none) else none) else none))) else none) else (some out152)
def sensor_Read (k : Nat) (s1 : S_Sensor) (seed11 : Int) (number12 : Int) (q13 : List Int) : Option ((List Int) × Int) :=
  (sensor_sized k s1 (q13.length : Int)).bind fun vt27 => (if vt27 ≠ 0 then (some (([] : List Int), vt27)) else ((sensor_outside_Quanta k q13 4294967296).bind fun vt43 => (if vt43 = true then (some (([] : List Int), 4)) else (if 0 ≤ (q13.length : Int) then (if (q13.length : Int) * 8 ≤ 140737488355328 then ((sensor_Read.l0 k q13 seed11 number12 s1 k (List.replicate ((q13.length : Int)).toNat (0 : Int)) 0).bind fun out222 => (some (out222, 0))) else none) else none))))
def strconv_FormatInt (k : Nat) (n b : Int) : Option (ByteArray) :=
  if b = 10 then (if -9223372036854775808 ≤ n then (if n ≤ 9223372036854775807 then (some (numeral n)) else none) else none) else none
def spymake_Cards_1 (k : Nat) (key1 : ByteArray) (n2 : Int) (unit3 : ByteArray) : Option (S_Card) :=
  (strconv_FormatInt k n2 10).bind fun vt12 => (some (⟨key1, vt12, unit3, (⟨#[]⟩ : ByteArray)⟩ : S_Card))
def spymake_Cards.l0 (k : Nat) (x1 : S_Shot) : Nat → (List S_Card) → Int → Option ((List S_Card))
  | 0, _, _ => none
  | n_ + 1, out147, x152 =>
    if x152 < 4 then (if 0 ≤ x152 then (if (⟨#[80, 76, 65, 84, 69, 45]⟩ : ByteArray).size + (bstr ([u8 (w64 (65 + x152))] : List Int)).size ≤ 9223372036854775807 then ((spymake_Cards_1 k ((⟨#[80, 76, 65, 84, 69, 45]⟩ : ByteArray) ++ (bstr ([u8 (w64 (65 + x152))] : List Int))) (rd [x1.Plate.A, x1.Plate.B, x1.Plate.C, x1.Plate.D] x152) (⟨#[]⟩ : ByteArray)).bind fun vt178 => (if (out147.length + 1) * 64 ≤ 140737488355328 then (spymake_Cards.l0 k x1 n_ (out147 ++ ([vt178] : List S_Card)) (w64 (x152 + 1))) else none)) else none) else none) else (some out147)
def spymake_Cards (k : Nat) (x1 : S_Shot) : Option ((List S_Card)) :=
  (spymake_Below k x1.Kind 4).bind fun vt21 => (if 0 ≤ vt21 then (if vt21 < (([(⟨#[98, 105, 97, 115]⟩ : ByteArray), (⟨#[100, 97, 114, 107]⟩ : ByteArray), (⟨#[102, 108, 97, 116]⟩ : ByteArray), (⟨#[115, 99, 105, 101, 110, 99, 101]⟩ : ByteArray)] : List ByteArray).length : Int) then ((spymake_Cards_1 k (⟨#[78, 85, 77, 66, 69, 82]⟩ : ByteArray) x1.Number (⟨#[]⟩ : ByteArray)).bind fun vt36 => ((spymake_Cards_1 k (⟨#[66, 69, 71, 73, 78]⟩ : ByteArray) x1.Begin (⟨#[116, 105, 99, 107]⟩ : ByteArray)).bind fun vt42 => ((spymake_Cards_1 k (⟨#[66, 69, 65, 84, 83]⟩ : ByteArray) x1.Beats (⟨#[98, 101, 97, 116]⟩ : ByteArray)).bind fun vt48 => (if x1.Kind ≠ 3 then (some ([(⟨(⟨#[75, 73, 78, 68]⟩ : ByteArray), (rd ([(⟨#[98, 105, 97, 115]⟩ : ByteArray), (⟨#[100, 97, 114, 107]⟩ : ByteArray), (⟨#[102, 108, 97, 116]⟩ : ByteArray), (⟨#[115, 99, 105, 101, 110, 99, 101]⟩ : ByteArray)] : List ByteArray) vt21), (⟨#[]⟩ : ByteArray), (⟨#[]⟩ : ByteArray)⟩ : S_Card), vt36, vt42, vt48] : List S_Card)) else ((spymake_Cards.l0 k x1 k ([(⟨(⟨#[75, 73, 78, 68]⟩ : ByteArray), (rd ([(⟨#[98, 105, 97, 115]⟩ : ByteArray), (⟨#[100, 97, 114, 107]⟩ : ByteArray), (⟨#[102, 108, 97, 116]⟩ : ByteArray), (⟨#[115, 99, 105, 101, 110, 99, 101]⟩ : ByteArray)] : List ByteArray) vt21), (⟨#[]⟩ : ByteArray), (⟨#[]⟩ : ByteArray)⟩ : S_Card), vt36, vt42, vt48] : List S_Card) 0).bind fun out204 => ((spymake_Cards_1 k (⟨#[83, 69, 69, 73, 78, 71]⟩ : ByteArray) x1.Seeing (⟨#[99, 101, 108, 108]⟩ : ByteArray)).bind fun vt224 => ((spymake_Cards_1 k (⟨#[68, 82, 73, 70, 84, 45, 88]⟩ : ByteArray) x1.DriftX (⟨#[115, 117, 98]⟩ : ByteArray)).bind fun vt230 => ((spymake_Cards_1 k (⟨#[68, 82, 73, 70, 84, 45, 89]⟩ : ByteArray) x1.DriftY (⟨#[115, 117, 98]⟩ : ByteArray)).bind fun vt236 => (if (out204.length + 3) * 64 ≤ 140737488355328 then (some (out204 ++ ([vt224, vt230, vt236] : List S_Card))) else none))))))))) else none) else none)
def master_CheckCamera (k : Nat) (vk1 : S_Camera) : Option (Int) :=
  if (mn vk1.W vk1.H) < 1 then (some 4) else (if (mx vk1.W vk1.H) > 32 then (some 4) else (if vk1.Full < 1 then (some 4) else (if vk1.Full > 1048576 then (some 4) else (if vk1.Gain < 1 then (some 4) else (if vk1.Gain > 64 then (some 4) else (if vk1.Noise < 0 then (some 4) else (if vk1.Noise > 64 then (some 4) else (some 0))))))))
def frame_Check_1 (k : Nat) (n1 : Int) : Option (Bool) :=
  if n1 < 0 then (some true) else (some (decide (n1 > 65535)))
def slices_IndexFunc_int__frame_Check_1.l0 (k : Nat) (s1 : List Int) : Nat → Int → Option (Sum Int Unit)
  | 0, _ => none
  | n_ + 1, x26 =>
    if x26 < (s1.length : Int) then (if 0 ≤ x26 then ((frame_Check_1 k (rd s1 x26)).bind fun vt53 => (if vt53 = true then (some (Sum.inl x26)) else (slices_IndexFunc_int__frame_Check_1.l0 k s1 n_ (w64 (x26 + 1))))) else none) else (some (Sum.inr ()))
def slices_IndexFunc_int__frame_Check_1 (k : Nat) (s1 : List Int) : Option (Int) :=
  (slices_IndexFunc_int__frame_Check_1.l0 k s1 k 0).bind fun z_ => Sum.elim (fun y_ => some y_) (fun _ => (some (-1))) z_
def slices_ContainsFunc_int__frame_Check_1 (k : Nat) (s1 : List Int) : Option (Bool) :=
  (slices_IndexFunc_int__frame_Check_1 k s1).bind fun vt9 => (some (decide (vt9 ≥ 0)))
def frame_upper (k : Nat) (c1 : Int) : Option (Bool) :=
  if c1 ≥ 65 then (some (decide (c1 ≤ 90))) else (some false)
def frame_digit (k : Nat) (c1 : Int) : Option (Bool) :=
  if c1 ≥ 48 then (some (decide (c1 ≤ 57))) else (some false)
def frame_inKey (k : Nat) (c1 : Int) : Option (Bool) :=
  (frame_upper k c1).bind fun vt6 => (if vt6 = true then (some true) else ((frame_digit k c1).bind fun vt13 => (if vt13 = true then (some true) else (some (c1 == 45)))))
def frame_all__frame_inKey.l0 (k : Nat) (s1 : ByteArray) : Nat → Int → Option (Sum Bool Unit)
  | 0, _ => none
  | n_ + 1, x23 =>
    if x23 < (s1.size : Int) then (if 0 ≤ x23 then ((frame_inKey k (bt s1 x23)).bind fun vt44 => (if ¬ (vt44 = true) then (some (Sum.inl false)) else (frame_all__frame_inKey.l0 k s1 n_ (w64 (x23 + 1))))) else none) else (some (Sum.inr ()))
def frame_all__frame_inKey (k : Nat) (s1 : ByteArray) : Option (Bool) :=
  (frame_all__frame_inKey.l0 k s1 k 0).bind fun z_ => Sum.elim (fun y_ => some y_) (fun _ => (some true)) z_
def frame_own (k : Nat) (key1 : ByteArray) : Option (Bool) :=
  if (key1.toList == (⟨#[87, 73, 68, 84, 72]⟩ : ByteArray).toList) = true then (some true) else (if (key1.toList == (⟨#[72, 69, 73, 71, 72, 84]⟩ : ByteArray).toList) = true then (some true) else (if (key1.toList == (⟨#[66, 89, 84, 69, 83]⟩ : ByteArray).toList) = true then (some true) else (some (key1.toList == (⟨#[69, 78, 68]⟩ : ByteArray).toList))))
def frame_inked (k : Nat) (c1 : Int) : Option (Bool) :=
  if c1 > 32 then (some (decide (c1 ≤ 126))) else (some false)
def frame_all__frame_inked.l0 (k : Nat) (s1 : ByteArray) : Nat → Int → Option (Sum Bool Unit)
  | 0, _ => none
  | n_ + 1, x23 =>
    if x23 < (s1.size : Int) then (if 0 ≤ x23 then ((frame_inked k (bt s1 x23)).bind fun vt44 => (if ¬ (vt44 = true) then (some (Sum.inl false)) else (frame_all__frame_inked.l0 k s1 n_ (w64 (x23 + 1))))) else none) else (some (Sum.inr ()))
def frame_all__frame_inked (k : Nat) (s1 : ByteArray) : Option (Bool) :=
  (frame_all__frame_inked.l0 k s1 k 0).bind fun z_ => Sum.elim (fun y_ => some y_) (fun _ => (some true)) z_
def frame_lower (k : Nat) (c1 : Int) : Option (Bool) :=
  if c1 ≥ 97 then (some (decide (c1 ≤ 122))) else (some false)
def frame_all__frame_lower.l0 (k : Nat) (s1 : ByteArray) : Nat → Int → Option (Sum Bool Unit)
  | 0, _ => none
  | n_ + 1, x23 =>
    if x23 < (s1.size : Int) then (if 0 ≤ x23 then ((frame_lower k (bt s1 x23)).bind fun vt44 => (if ¬ (vt44 = true) then (some (Sum.inl false)) else (frame_all__frame_lower.l0 k s1 n_ (w64 (x23 + 1))))) else none) else (some (Sum.inr ()))
def frame_all__frame_lower (k : Nat) (s1 : ByteArray) : Option (Bool) :=
  (frame_all__frame_lower.l0 k s1 k 0).bind fun z_ => Sum.elim (fun y_ => some y_) (fun _ => (some true)) z_
def frame_typed (k : Nat) (c1 : Int) : Option (Bool) :=
  if c1 ≥ 32 then (some (decide (c1 ≤ 126))) else (some false)
def frame_all__frame_typed.l0 (k : Nat) (s1 : ByteArray) : Nat → Int → Option (Sum Bool Unit)
  | 0, _ => none
  | n_ + 1, x23 =>
    if x23 < (s1.size : Int) then (if 0 ≤ x23 then ((frame_typed k (bt s1 x23)).bind fun vt44 => (if ¬ (vt44 = true) then (some (Sum.inl false)) else (frame_all__frame_typed.l0 k s1 n_ (w64 (x23 + 1))))) else none) else (some (Sum.inr ()))
def frame_all__frame_typed (k : Nat) (s1 : ByteArray) : Option (Bool) :=
  (frame_all__frame_typed.l0 k s1 k 0).bind fun z_ => Sum.elim (fun y_ => some y_) (fun _ => (some true)) z_
def strings_TrimSpace (k : Nat) (s : ByteArray) : Option (ByteArray) :=
  (if s.size ≤ 9223372036854775807 then (if s.data.toList.all (fun b => decide (b.toNat < 128)) = true then some ((⟨(Go.Lib.trimSpace s.data.toList).toArray⟩ : ByteArray)) else none) else none)
def strings_Repeat (k : Nat) (s : ByteArray) (n : Int) : Option (ByteArray) :=
  (if 0 ≤ n then (if s.size * n.toNat ≤ 140737488355328 then (if n ≤ 9223372036854775807 then some ((⟨(Go.Lib.repeatL s.data.toList n.toNat).toArray⟩ : ByteArray)) else none) else none) else none)
def frame_text (k : Nat) (c1 : S_Card) : Option (ByteArray) :=
  (strings_Repeat k (⟨#[32]⟩ : ByteArray) (mx 0 (w64 (8 - (c1.Key.size : Int))))).bind fun vt12 => (if c1.Key.size + vt12.size ≤ 9223372036854775807 then (if (c1.Key ++ vt12).size + (⟨#[61, 32]⟩ : ByteArray).size ≤ 9223372036854775807 then (if ((c1.Key ++ vt12) ++ (⟨#[61, 32]⟩ : ByteArray)).size + c1.Value.size ≤ 9223372036854775807 then (if (!(c1.Unit.toList == (⟨#[]⟩ : ByteArray).toList)) = true then (if (⟨#[32, 91]⟩ : ByteArray).size + c1.Unit.size ≤ 9223372036854775807 then (if ((⟨#[32, 91]⟩ : ByteArray) ++ c1.Unit).size + (⟨#[93]⟩ : ByteArray).size ≤ 9223372036854775807 then (if (((c1.Key ++ vt12) ++ (⟨#[61, 32]⟩ : ByteArray)) ++ c1.Value).size + (((⟨#[32, 91]⟩ : ByteArray) ++ c1.Unit) ++ (⟨#[93]⟩ : ByteArray)).size ≤ 9223372036854775807 then (if (!(c1.Note.toList == (⟨#[]⟩ : ByteArray).toList)) = true then (if (⟨#[32, 47, 32]⟩ : ByteArray).size + c1.Note.size ≤ 9223372036854775807 then (if ((((c1.Key ++ vt12) ++ (⟨#[61, 32]⟩ : ByteArray)) ++ c1.Value) ++ (((⟨#[32, 91]⟩ : ByteArray) ++ c1.Unit) ++ (⟨#[93]⟩ : ByteArray))).size + ((⟨#[32, 47, 32]⟩ : ByteArray) ++ c1.Note).size ≤ 9223372036854775807 then (some (((((c1.Key ++ vt12) ++ (⟨#[61, 32]⟩ : ByteArray)) ++ c1.Value) ++ (((⟨#[32, 91]⟩ : ByteArray) ++ c1.Unit) ++ (⟨#[93]⟩ : ByteArray))) ++ ((⟨#[32, 47, 32]⟩ : ByteArray) ++ c1.Note))) else none) else none) else (some ((((c1.Key ++ vt12) ++ (⟨#[61, 32]⟩ : ByteArray)) ++ c1.Value) ++ (((⟨#[32, 91]⟩ : ByteArray) ++ c1.Unit) ++ (⟨#[93]⟩ : ByteArray))))) else none) else none) else none) else (if (!(c1.Note.toList == (⟨#[]⟩ : ByteArray).toList)) = true then (if (⟨#[32, 47, 32]⟩ : ByteArray).size + c1.Note.size ≤ 9223372036854775807 then (if (((c1.Key ++ vt12) ++ (⟨#[61, 32]⟩ : ByteArray)) ++ c1.Value).size + ((⟨#[32, 47, 32]⟩ : ByteArray) ++ c1.Note).size ≤ 9223372036854775807 then (some ((((c1.Key ++ vt12) ++ (⟨#[61, 32]⟩ : ByteArray)) ++ c1.Value) ++ ((⟨#[32, 47, 32]⟩ : ByteArray) ++ c1.Note))) else none) else none) else (some (((c1.Key ++ vt12) ++ (⟨#[61, 32]⟩ : ByteArray)) ++ c1.Value)))) else none) else none) else none)
def frame_CheckCard (k : Nat) (c1 : S_Card) : Option (Int) :=
  if (c1.Key.toList == (⟨#[]⟩ : ByteArray).toList) = true then (some 6) else (if (c1.Key.size : Int) > 8 then (some 6) else (if 0 < (c1.Key.size : Int) then ((frame_upper k (bt c1.Key 0)).bind fun vt26 => (if ¬ (vt26 = true) then (some 6) else ((frame_all__frame_inKey k c1.Key).bind fun vt35 => (if ¬ (vt35 = true) then (some 6) else ((frame_own k c1.Key).bind fun vt44 => (if vt44 = true then (some 6) else (if (c1.Value.toList == (⟨#[]⟩ : ByteArray).toList) = true then (some 3) else (if (c1.Value.size : Int) > 20 then (some 3) else ((frame_all__frame_inked k c1.Value).bind fun vt62 => (if ¬ (vt62 = true) then (some 3) else (if (c1.Unit.size : Int) > 8 then (some 3) else ((frame_all__frame_lower k c1.Unit).bind fun vt77 => (if ¬ (vt77 = true) then (some 3) else ((frame_all__frame_typed k c1.Note).bind fun vt91 => (if ¬ (vt91 = true) then (some 3) else ((strings_TrimSpace k c1.Note).bind fun vt100 => (if (!(vt100.toList == c1.Note.toList)) = true then (some 3) else ((frame_text k c1).bind fun vt112 => (if (vt112.size : Int) > 64 then (some 2) else (some 0)))))))))))))))))))) else none))
def frame_find_1 (k : Nat) (v3 : ByteArray) (c4 : S_Card) : Option (Bool) :=
  some (c4.Key.toList == v3.toList)
def slices_IndexFunc_Card__frame_find_1.l0 (k : Nat) (s4 : List S_Card) (v3 : ByteArray) : Nat → Int → Option (Sum Int Unit)
  | 0, _ => none
  | n_ + 1, x29 =>
    if x29 < (s4.length : Int) then (if 0 ≤ x29 then ((frame_find_1 k v3 (rd s4 x29)).bind fun vt56 => (if vt56 = true then (some (Sum.inl x29)) else (slices_IndexFunc_Card__frame_find_1.l0 k s4 v3 n_ (w64 (x29 + 1))))) else none) else (some (Sum.inr ()))
def slices_IndexFunc_Card__frame_find_1 (k : Nat) (v3 : ByteArray) (s4 : List S_Card) : Option (Int) :=
  (slices_IndexFunc_Card__frame_find_1.l0 k s4 v3 k 0).bind fun z_ => Sum.elim (fun y_ => some y_) (fun _ => (some (-1))) z_
def frame_find (k : Nat) (l1 : List S_Card) (key5 : ByteArray) : Option (Int) :=
  (slices_IndexFunc_Card__frame_find_1 k key5 l1).bind fun vt14 => (some vt14)
def frame_Check.l0 (k : Nat) (vf1 : S_Frame) : Nat → Int → Option (Sum Int Unit)
  | 0, _ => none
  | n_ + 1, x75 =>
    if x75 < (vf1.Cards.length : Int) then (if 0 ≤ x75 then ((frame_CheckCard k (rd vf1.Cards x75)).bind fun vt110 => (if vt110 ≠ 0 then (some (Sum.inl vt110)) else (if x75 ≤ (vf1.Cards.length : Int) then ((frame_find k (vf1.Cards.take (x75).toNat) ((rd vf1.Cards x75).Key)).bind fun vt127 => (if vt127 ≥ 0 then (some (Sum.inl 7)) else (frame_Check.l0 k vf1 n_ (w64 (x75 + 1))))) else none))) else none) else (some (Sum.inr ()))
def frame_Check (k : Nat) (vf1 : S_Frame) : Option (Int) :=
  if (mn vf1.W vf1.H) < 1 then (some 4) else (if (mx vf1.W vf1.H) > 32 then (some 4) else (if (vf1.Counts.length : Int) ≠ (w64 (vf1.W * vf1.H)) then (some 3) else ((slices_ContainsFunc_int__frame_Check_1 k vf1.Counts).bind fun vt40 => (if vt40 = true then (some 4) else (if (vf1.Cards.length : Int) > 28 then (some 2) else ((frame_Check.l0 k vf1 k 0).bind fun z_ => Sum.elim (fun y_ => some y_) (fun _ => (some 0)) z_))))))
def frame_Get (k : Nat) (vf1 : S_Frame) (key8 : ByteArray) : Option (S_Card × Bool) :=
  (frame_find k vf1.Cards key8).bind fun vt23 => (if vt23 ≥ 0 then (if 0 ≤ vt23 then (if vt23 < (vf1.Cards.length : Int) then (some ((rd vf1.Cards vt23), true)) else none) else none) else (some ((⟨(⟨#[]⟩ : ByteArray), (⟨#[]⟩ : ByteArray), (⟨#[]⟩ : ByteArray), (⟨#[]⟩ : ByteArray)⟩ : S_Card), false)))
def expose_kinds (k : Nat) : Option ((List ByteArray)) :=
  some ([(⟨#[98, 105, 97, 115]⟩ : ByteArray), (⟨#[100, 97, 114, 107]⟩ : ByteArray), (⟨#[102, 108, 97, 116]⟩ : ByteArray), (⟨#[115, 99, 105, 101, 110, 99, 101]⟩ : ByteArray)] : List ByteArray)
def strconv_ParseInt (k : Nat) (s : ByteArray) (b : Int) (n : Int) : Option (Int) :=
  (if b = 10 then (if n = 64 then (if s.size ≤ 9223372036854775806 then (match Go.Lib.parseIntB 64 s.data.toList with | .ok v_ => some v_ | _ => none) else none) else none) else none)
def frame_unit (k : Nat) (s1 : ByteArray) : Option (ByteArray × Int) :=
  if (s1.toList == (⟨#[116, 105, 99, 107]⟩ : ByteArray).toList) = true then (some ((⟨#[116, 105, 109, 101]⟩ : ByteArray), 1)) else (((if (s1.toList == (⟨#[98, 101, 97, 116]⟩ : ByteArray).toList) = true then (some (s1.toList == (⟨#[98, 101, 97, 116]⟩ : ByteArray).toList)) else (some (s1.toList == (⟨#[115, 101, 99, 111, 110, 100]⟩ : ByteArray).toList)) : Option (Bool))).bind fun x32 => (if x32 = true then (some ((⟨#[116, 105, 109, 101]⟩ : ByteArray), 1000)) else (if (s1.toList == (⟨#[109, 105, 110, 117, 116, 101]⟩ : ByteArray).toList) = true then (some ((⟨#[116, 105, 109, 101]⟩ : ByteArray), 60000)) else (if (s1.toList == (⟨#[104, 111, 117, 114]⟩ : ByteArray).toList) = true then (some ((⟨#[116, 105, 109, 101]⟩ : ByteArray), 3600000)) else (if (s1.toList == (⟨#[100, 97, 121]⟩ : ByteArray).toList) = true then (some ((⟨#[116, 105, 109, 101]⟩ : ByteArray), 86400000)) else (if (s1.toList == (⟨#[115, 117, 98]⟩ : ByteArray).toList) = true then (some ((⟨#[108, 101, 110, 103, 116, 104]⟩ : ByteArray), 1)) else (if (s1.toList == (⟨#[99, 101, 108, 108]⟩ : ByteArray).toList) = true then (some ((⟨#[108, 101, 110, 103, 116, 104]⟩ : ByteArray), 256)) else (if (s1.toList == (⟨#[97, 114, 99]⟩ : ByteArray).toList) = true then (some ((⟨#[97, 110, 103, 108, 101]⟩ : ByteArray), 1)) else (if (s1.toList == (⟨#[116, 117, 114, 110]⟩ : ByteArray).toList) = true then (some ((⟨#[97, 110, 103, 108, 101]⟩ : ByteArray), 4294967296)) else (some ((⟨#[]⟩ : ByteArray), 0)))))))))))
def num_size (k : Nat) (a1 : Int) : Option (Int) :=
  if a1 < 0 then (some (u64 (0 - (u64 (a1))))) else (some (u64 (a1)))
def num_Wide_Neg (k : Nat) (vw1 : S_Wide) : Option (S_Wide) :=
  if 0 ≤ (Go.bits .xor .u64 IntKind.u64.max vw1.Lo) then (if 0 ≤ (Go.bits .xor .u64 IntKind.u64.max (u64 (vw1.Hi))) then (if 0 ≤ (((Go.bits .xor .u64 IntKind.u64.max vw1.Lo) + 1 + 0) / 18446744073709551616) then (if (((Go.bits .xor .u64 IntKind.u64.max vw1.Lo) + 1 + 0) / 18446744073709551616) ≤ 1 then (some (⟨w64 (((Go.bits .xor .u64 IntKind.u64.max (u64 (vw1.Hi))) + 0 + (((Go.bits .xor .u64 IntKind.u64.max vw1.Lo) + 1 + 0) / 18446744073709551616)) % 18446744073709551616), ((Go.bits .xor .u64 IntKind.u64.max vw1.Lo) + 1 + 0) % 18446744073709551616⟩ : S_Wide)) else none) else none) else none) else none
def num_Product (k : Nat) (a1 : Int) (b2 : Int) : Option (S_Wide) :=
  (num_size k a1).bind fun vt11 => ((num_size k b2).bind fun vt17 => ((bits_Mul64 k vt11 vt17).bind fun (vt23, vt24) => (if ((decide (a1 < 0)) != (decide (b2 < 0))) = true then ((num_Wide_Neg k (⟨w64 (vt23), vt24⟩ : S_Wide)).bind fun vt46 => (some vt46)) else (some (⟨w64 (vt23), vt24⟩ : S_Wide)))))
def num_Mul (k : Nat) (a1 : Int) (b2 : Int) : Option (Int × Bool) :=
  (num_Product k a1 b2).bind fun vt7 => (if vt7.Hi ≠ (shr (w64 (vt7.Lo)) 63) then (some (0, false)) else (some (w64 (vt7.Lo), true)))
def frame_Number (k : Nat) (vf1 : S_Frame) (key8 : ByteArray) (vto9 : ByteArray) : Option (Int × Int) :=
  (frame_Get k vf1 key8).bind fun (vt18, vt19) => (if ¬ (vt19 = true) then (some (0, 8)) else ((strconv_ParseInt k vt18.Value 10 64).bind fun vt41 => ((strconv_FormatInt k vt41 10).bind fun vt53 => (if (!(vt53.toList == vt18.Value.toList)) = true then (some (0, 5)) else (if (vt18.Unit.toList == vto9.toList) = true then (some (vt41, 0)) else ((frame_unit k vt18.Unit).bind fun (vt73, vt74) => ((frame_unit k vto9).bind fun (vt82, vt83) => (if (vt73.toList == (⟨#[]⟩ : ByteArray).toList) = true then (some (0, 12)) else (if (!(vt73.toList == vt82.toList)) = true then (some (0, 12)) else ((num_Mul k vt41 vt74).bind fun (vt102, vt103) => (if ¬ (vt103 = true) then (some (0, 2)) else (if ¬ (vt83 = 0) then (if (Int.tmod vt102 vt83) ≠ 0 then (some (0, 3)) else (some (w64 (Int.tdiv vt102 vt83), 0))) else none))))))))))))
def expose_numbers_get (k : Nat) (n3 : S_numbers) (key10 : ByteArray) (unit11 : ByteArray) : Option (Int × Int) :=
  if n3.e ≠ 0 then (some (0, n3.e)) else ((frame_Number k n3.f key10 unit11).bind fun (vt24, vt25) => (some (vt24, vt25)))
def optics_Reach (k : Nat) (half1 : Int) : Option (Int) :=
  if half1 ≠ 1 then (if half1 ≠ 2 then (if half1 ≠ 4 then (some 0) else (some half1)) else (some half1)) else (some half1)
def sphere_CheckPlate (k : Nat) (p1 : S_Plate) : Option (Int) :=
  if (mx (mx (mx p1.A p1.B) p1.C) p1.D) > 1024 then (some 4) else (if (mn (mn (mn p1.A p1.B) p1.C) p1.D) < (-1024) then (some 4) else (if ((p1.A == 0) && ((p1.B == 0) && ((p1.C == 0) && ((p1.D == 0) && true)))) = true then (some 8) else (some 0)))
def expose_described (k : Nat) (x1 : S_Shot) : Option (Int) :=
  if x1.Number < 1 then (some 4) else (if x1.Number > 1048576 then (some 4) else (if x1.Begin < (-17592186044416) then (some 4) else (if x1.Begin > 17592186028416 then (some 4) else (if x1.Beats < 0 then (some 4) else (if x1.Beats > 16 then (some 4) else (if ((x1.Kind == 0) != (x1.Beats == 0)) = true then (some 4) else (if x1.Kind ≠ 3 then (some 0) else ((optics_Reach k x1.Seeing).bind fun vt55 => (if vt55 = 0 then (some 4) else (if (mx x1.DriftX x1.DriftY) > 64 then (some 4) else (if (mn x1.DriftX x1.DriftY) < (-64) then (some 4) else ((sphere_CheckPlate k x1.Plate).bind fun vt73 => (some vt73)))))))))))))
def expose_Shot.l0 (k : Nat) (vt74 : List ByteArray) (vt38 : S_Card) : Nat → Int → Int → Option (Int)
  | 0, _, _ => none
  | n_ + 1, x142, x143 =>
    if x142 < (vt74.length : Int) then (if 0 ≤ x142 then (if ((rd vt74 x142).toList == vt38.Value.toList) = true then (if (vt38.Unit.toList == (⟨#[]⟩ : ByteArray).toList) = true then (expose_Shot.l0 k vt74 vt38 n_ (w64 (x142 + 1)) x142) else (expose_Shot.l0 k vt74 vt38 n_ (w64 (x142 + 1)) x143)) else (expose_Shot.l0 k vt74 vt38 n_ (w64 (x142 + 1)) x143)) else none) else (some x143)
def expose_Shot (k : Nat) (vf1 : S_Frame) : Option (S_Shot × Int) :=
  (frame_Check k vf1).bind fun vt22 => (if vt22 ≠ 0 then (some ((⟨0, 0, 0, 0, 0, (⟨0, 0, 0, 0⟩ : S_Plate), 0, 0, 0, 0, ([] : List S_Hit)⟩ : S_Shot), vt22)) else ((frame_Get k vf1 (⟨#[75, 73, 78, 68]⟩ : ByteArray)).bind fun (vt38, vt39) => (if ¬ (vt39 = true) then (some ((⟨0, 0, 0, 0, 0, (⟨0, 0, 0, 0⟩ : S_Plate), 0, 0, 0, 0, ([] : List S_Hit)⟩ : S_Shot), 8)) else ((expose_kinds k).bind fun vt74 => ((expose_Shot.l0 k vt74 vt38 k 0 (-1)).bind fun x181 => (if x181 < 0 then (some ((⟨0, 0, 0, 0, 0, (⟨0, 0, 0, 0⟩ : S_Plate), 0, 0, 0, 0, ([] : List S_Hit)⟩ : S_Shot), 12)) else ((expose_numbers_get k (⟨vf1, 0⟩ : S_numbers) (⟨#[78, 85, 77, 66, 69, 82]⟩ : ByteArray) (⟨#[]⟩ : ByteArray)).bind fun (vt209, vt210) => ((expose_numbers_get k (⟨vf1, vt210⟩ : S_numbers) (⟨#[66, 69, 71, 73, 78]⟩ : ByteArray) (⟨#[116, 105, 99, 107]⟩ : ByteArray)).bind fun (vt216, vt217) => ((expose_numbers_get k (⟨vf1, vt217⟩ : S_numbers) (⟨#[66, 69, 65, 84, 83]⟩ : ByteArray) (⟨#[98, 101, 97, 116]⟩ : ByteArray)).bind fun (vt223, vt224) => (((if x181 = 3 then ((expose_numbers_get k (⟨vf1, vt224⟩ : S_numbers) (⟨#[80, 76, 65, 84, 69, 45, 65]⟩ : ByteArray) (⟨#[]⟩ : ByteArray)).bind fun (vt246, vt247) => ((expose_numbers_get k (⟨vf1, vt247⟩ : S_numbers) (⟨#[80, 76, 65, 84, 69, 45, 66]⟩ : ByteArray) (⟨#[]⟩ : ByteArray)).bind fun (vt253, vt254) => ((expose_numbers_get k (⟨vf1, vt254⟩ : S_numbers) (⟨#[80, 76, 65, 84, 69, 45, 67]⟩ : ByteArray) (⟨#[]⟩ : ByteArray)).bind fun (vt260, vt261) => ((expose_numbers_get k (⟨vf1, vt261⟩ : S_numbers) (⟨#[80, 76, 65, 84, 69, 45, 68]⟩ : ByteArray) (⟨#[]⟩ : ByteArray)).bind fun (vt267, vt268) => ((expose_numbers_get k (⟨vf1, vt268⟩ : S_numbers) (⟨#[83, 69, 69, 73, 78, 71]⟩ : ByteArray) (⟨#[99, 101, 108, 108]⟩ : ByteArray)).bind fun (vt278, vt279) => ((expose_numbers_get k (⟨vf1, vt279⟩ : S_numbers) (⟨#[68, 82, 73, 70, 84, 45, 88]⟩ : ByteArray) (⟨#[115, 117, 98]⟩ : ByteArray)).bind fun (vt285, vt286) => ((expose_numbers_get k (⟨vf1, vt286⟩ : S_numbers) (⟨#[68, 82, 73, 70, 84, 45, 89]⟩ : ByteArray) (⟨#[115, 117, 98]⟩ : ByteArray)).bind fun (vt292, vt293) => (some (vt246, vt253, vt260, vt267, vt278, vt285, vt292, vt293))))))))) else (some (0, 0, 0, 0, 0, 0, 0, vt224)) : Option (Int × Int × Int × Int × Int × Int × Int × Int))).bind fun (x311, x312, x313, x314, x315, x316, x317, x318) => (if x318 ≠ 0 then (some ((⟨0, 0, 0, 0, 0, (⟨0, 0, 0, 0⟩ : S_Plate), 0, 0, 0, 0, ([] : List S_Hit)⟩ : S_Shot), x318)) else ((expose_described k (⟨x181, 0, vt209, vt216, vt223, (⟨x311, x312, x313, x314⟩ : S_Plate), x315, x316, x317, 0, ([] : List S_Hit)⟩ : S_Shot)).bind fun vt344 => (if vt344 ≠ 0 then (some ((⟨0, 0, 0, 0, 0, (⟨0, 0, 0, 0⟩ : S_Plate), 0, 0, 0, 0, ([] : List S_Hit)⟩ : S_Shot), vt344)) else (some ((⟨x181, 0, vt209, vt216, vt223, (⟨x311, x312, x313, x314⟩ : S_Plate), x315, x316, x317, 0, ([] : List S_Hit)⟩ : S_Shot), 0)))))))))))))))
def master_frames.l0 (k : Nat) (l2 : List S_Frame) (kind6 : Int) (vk1 : S_Camera) : Nat → (List S_Shot) → Int → Option (Sum ((List S_Shot) × Int) (List S_Shot))
  | 0, _, _ => none
  | n_ + 1, out81, x87 =>
    if x87 < (l2.length : Int) then (if 0 ≤ x87 then ((expose_Shot k (rd l2 x87)).bind fun (vt122, vt123) => (if vt123 ≠ 0 then (some (Sum.inl (([] : List S_Shot), vt123))) else (if vt122.Kind ≠ kind6 then (some (Sum.inl (([] : List S_Shot), 12))) else (if ((rd l2 x87).W) ≠ vk1.W then (some (Sum.inl (([] : List S_Shot), 3))) else (if ((rd l2 x87).H) ≠ vk1.H then (some (Sum.inl (([] : List S_Shot), 3))) else (if (out81.length + 1) * 128 ≤ 140737488355328 then (master_frames.l0 k l2 kind6 vk1 n_ (out81 ++ ([vt122] : List S_Shot)) (w64 (x87 + 1))) else none)))))) else none) else (some (Sum.inr out81))
def master_frames (k : Nat) (vk1 : S_Camera) (l2 : List S_Frame) (kind6 : Int) (vf7 : Int) : Option ((List S_Shot) × Int) :=
  (master_CheckCamera k vk1).bind fun vt18 => (if vt18 ≠ 0 then (some (([] : List S_Shot), vt18)) else (if vf7 < 0 then (some (([] : List S_Shot), 1)) else (if (l2.length : Int) > 16 then (some (([] : List S_Shot), 2)) else (if vf7 > 16 then (some (([] : List S_Shot), 14)) else (if (l2.length : Int) < (w64 ((w64 (2 * vf7)) + 1)) then (some (([] : List S_Shot), 14)) else ((master_frames.l0 k l2 kind6 vk1 k ([] : List S_Shot) 0).bind fun z_ => Sum.elim (fun y_ => some y_) (fun out195 => (some (out195, 0))) z_))))))
def bound_Check_Count (k : Nat) (b1 : S_Bound) : Option (Int) :=
  if b1.Unknown = true then (if b1.Lo ≠ 0 then (some 3) else (if b1.Hi ≠ 0 then (some 3) else (if (mn b1.Lo b1.Hi) < (-1152921504606846976) then (some 4) else (if (mx b1.Lo b1.Hi) > 1152921504606846976 then (some 4) else (if b1.Lo > b1.Hi then (some 11) else (some 0)))))) else (if (mn b1.Lo b1.Hi) < (-1152921504606846976) then (some 4) else (if (mx b1.Lo b1.Hi) > 1152921504606846976 then (some 4) else (if b1.Lo > b1.Hi then (some 11) else (some 0))))
def bound_None_Count (k : Nat) : Option (S_Bound) :=
  some (⟨0, 0, true⟩ : S_Bound)
def bound_Norm_Count (k : Nat) (b1 : S_Bound) : Option (S_Bound) :=
  (bound_Check_Count k b1).bind fun vt16 => (if vt16 ≠ 0 then ((bound_None_Count k).bind fun vt26 => (some vt26)) else (some b1))
def bound_Of_Count (k : Nat) (lo1 : Int) (hi2 : Int) : Option (S_Bound) :=
  (bound_Norm_Count k (⟨lo1, hi2, false⟩ : S_Bound)).bind fun vt11 => (some vt11)
def bound_None_Quanta (k : Nat) : Option (S_Bound) :=
  some (⟨0, 0, true⟩ : S_Bound)
def bound_Check_Quanta (k : Nat) (b1 : S_Bound) : Option (Int) :=
  if b1.Unknown = true then (if b1.Lo ≠ 0 then (some 3) else (if b1.Hi ≠ 0 then (some 3) else (if (mn b1.Lo b1.Hi) < (-1152921504606846976) then (some 4) else (if (mx b1.Lo b1.Hi) > 1152921504606846976 then (some 4) else (if b1.Lo > b1.Hi then (some 11) else (some 0)))))) else (if (mn b1.Lo b1.Hi) < (-1152921504606846976) then (some 4) else (if (mx b1.Lo b1.Hi) > 1152921504606846976 then (some 4) else (if b1.Lo > b1.Hi then (some 11) else (some 0))))
def bound_Norm_Quanta (k : Nat) (b1 : S_Bound) : Option (S_Bound) :=
  (bound_Check_Quanta k b1).bind fun vt16 => (if vt16 ≠ 0 then ((bound_None_Quanta k).bind fun vt26 => (some vt26)) else (some b1))
def bound_Of_Quanta (k : Nat) (lo1 : Int) (hi2 : Int) : Option (S_Bound) :=
  (bound_Norm_Quanta k (⟨lo1, hi2, false⟩ : S_Bound)).bind fun vt11 => (some vt11)
def master_Counted (k : Nat) (vk1 : S_Camera) (bias2 : S_Bound) (count3 : Int) : Option (S_Bound) :=
  (bound_Norm_Count k bias2).bind fun vt20 => ((master_CheckCamera k vk1).bind fun vt33 => (if vt33 ≠ 0 then ((bound_None_Quanta k).bind fun vt42 => (some vt42)) else (if vt20.Unknown = true then ((bound_None_Quanta k).bind fun vt54 => (some vt54)) else (if count3 < 0 then ((bound_None_Quanta k).bind fun vt66 => (some vt66)) else (if count3 ≥ 65535 then ((bound_None_Quanta k).bind fun vt78 => (some vt78)) else (if vt20.Lo < 0 then ((bound_None_Quanta k).bind fun vt90 => (some vt90)) else (if vt20.Hi > 65535 then ((bound_None_Quanta k).bind fun vt103 => (some vt103)) else (if (w64 ((w64 (count3 + vk1.Noise)) - vt20.Lo)) < 0 then ((bound_None_Quanta k).bind fun vt124 => (some vt124)) else ((bound_Of_Quanta k (mx 0 (w64 ((w64 ((w64 (count3 - vk1.Noise)) - vt20.Hi)) * vk1.Gain))) (w64 ((w64 ((w64 ((w64 ((w64 (count3 + vk1.Noise)) - vt20.Lo)) * vk1.Gain)) + vk1.Gain)) - 1))).bind fun vt135 => (some vt135))))))))))
def master_Held.l0 (k : Nat) (vf6 : S_Frame) (bias2 : List S_Bound) (vk1 : S_Camera) : Nat → (List S_Bound) → (List Bool) → Int → Option ((List S_Bound) × (List Bool))
  | 0, _, _, _ => none
  | n_ + 1, out184, full188, x192 =>
    if x192 < (vf6.Counts.length : Int) then (if 0 ≤ x192 then (if x192 < (bias2.length : Int) then ((master_Counted k vk1 (rd bias2 x192) (rd vf6.Counts x192)).bind fun vt232 => (if x192 < (out184.length : Int) then (if x192 < ((out184.set (x192).toNat vt232).length : Int) then (if ((rd (out184.set (x192).toNat vt232) x192).Unknown) = true then (if x192 < (full188.length : Int) then (master_Held.l0 k vf6 bias2 vk1 n_ (out184.set (x192).toNat vt232) (full188.set (x192).toNat true) (w64 (x192 + 1))) else none) else (if x192 < (full188.length : Int) then (master_Held.l0 k vf6 bias2 vk1 n_ (out184.set (x192).toNat vt232) (full188.set (x192).toNat (decide (((rd (out184.set (x192).toNat vt232) x192).Hi) ≥ vk1.Full))) (w64 (x192 + 1))) else none)) else none) else none)) else none) else none) else (some (out184, full188))
def master_Held.l1 (k : Nat) (out278 : List S_Bound) (full282 : List Bool) (vk1 : S_Camera) : Nat → (List S_Bound) → Int → Option ((List S_Bound))
  | 0, _, _ => none
  | n_ + 1, out454, x458 =>
    if x458 < (out278.length : Int) then (((if 0 ≤ x458 then (if x458 < (full282.length : Int) then (if (rd full282 x458) = true then ((bound_None_Quanta k).bind fun vt488 => (if x458 < (out454.length : Int) then (some (out454.set (x458).toNat vt488)) else none)) else (if (w64 (x458 - vk1.W)) ≥ 0 then (if 0 ≤ (w64 (x458 - vk1.W)) then (if (w64 (x458 - vk1.W)) < (full282.length : Int) then (if (rd full282 (w64 (x458 - vk1.W))) = true then ((bound_None_Quanta k).bind fun vt510 => (if x458 < (out454.length : Int) then (some (out454.set (x458).toNat vt510)) else none)) else (if (w64 (x458 + vk1.W)) < (out454.length : Int) then (if 0 ≤ (w64 (x458 + vk1.W)) then (if (w64 (x458 + vk1.W)) < (full282.length : Int) then (if (rd full282 (w64 (x458 + vk1.W))) = true then ((bound_None_Quanta k).bind fun vt533 => (if x458 < (out454.length : Int) then (some (out454.set (x458).toNat vt533)) else none)) else (some out454)) else none) else none) else (some out454))) else none) else none) else (if (w64 (x458 + vk1.W)) < (out454.length : Int) then (if 0 ≤ (w64 (x458 + vk1.W)) then (if (w64 (x458 + vk1.W)) < (full282.length : Int) then (if (rd full282 (w64 (x458 + vk1.W))) = true then ((bound_None_Quanta k).bind fun vt556 => (if x458 < (out454.length : Int) then (some (out454.set (x458).toNat vt556)) else none)) else (some out454)) else none) else none) else (some out454)))) else none) else none : Option ((List S_Bound)))).bind fun out576 => (master_Held.l1 k out278 full282 vk1 n_ out576 (w64 (x458 + 1)))) else (some out454)
def master_Held (k : Nat) (vk1 : S_Camera) (bias2 : List S_Bound) (vf6 : S_Frame) : Option ((List S_Bound) × Int) :=
  (master_CheckCamera k vk1).bind fun vt27 => (if vt27 ≠ 0 then (some (([] : List S_Bound), vt27)) else (if (bias2.length : Int) ≠ (w64 (vk1.W * vk1.H)) then (some (([] : List S_Bound), 3)) else (if vf6.W ≠ vk1.W then (some (([] : List S_Bound), 3)) else (if vf6.H ≠ vk1.H then (some (([] : List S_Bound), 3)) else (if (vf6.Counts.length : Int) ≠ (bias2.length : Int) then (some (([] : List S_Bound), 3)) else (if 0 ≤ (bias2.length : Int) then (if (bias2.length : Int) * 24 ≤ 140737488355328 then (if (bias2.length : Int) * 1 ≤ 140737488355328 then ((master_Held.l0 k vf6 bias2 vk1 k (List.replicate ((bias2.length : Int)).toNat ((⟨0, 0, false⟩ : S_Bound) : S_Bound)) (List.replicate ((bias2.length : Int)).toNat (false : Bool)) 0).bind fun (out278, full282) => ((master_Held.l1 k out278 full282 vk1 k out278 0).bind fun out604 => (some (out604, 0)))) else none) else none) else none))))))
def bound_vague_Count (k : Nat) (a1 : S_Bound) (b2 : S_Bound) : Option (Bool) :=
  (bound_Norm_Count k a1).bind fun vt15 => (if vt15.Unknown = true then (some true) else ((bound_Norm_Count k b2).bind fun vt22 => (some vt22.Unknown)))
def bound_Has_Count (k : Nat) (b1 : S_Bound) (v2 : Int) : Option (Bool) :=
  (bound_vague_Count k b1 b1).bind fun vt11 => (if vt11 = true then (some true) else (if b1.Lo ≤ v2 then (some (decide (v2 ≤ b1.Hi))) else (some false)))
def bound_Votes_Count.l0 (k : Nat) (l1 : List S_Bound) (v5 : Int) : Nat → Int → Int → Option (Int)
  | 0, _, _ => none
  | n_ + 1, n29, x30 =>
    if x30 < (l1.length : Int) then (if 0 ≤ x30 then ((bound_vague_Count k (rd l1 x30) (rd l1 x30)).bind fun vt63 => (if ¬ (vt63 = true) then ((bound_Has_Count k (rd l1 x30) v5).bind fun vt70 => (if vt70 = true then (bound_Votes_Count.l0 k l1 v5 n_ (w64 (n29 + 1)) (w64 (x30 + 1))) else (bound_Votes_Count.l0 k l1 v5 n_ n29 (w64 (x30 + 1))))) else (bound_Votes_Count.l0 k l1 v5 n_ n29 (w64 (x30 + 1))))) else none) else (some n29)
def bound_Votes_Count (k : Nat) (l1 : List S_Bound) (v5 : Int) : Option (Int) :=
  (bound_Votes_Count.l0 k l1 v5 k 0 0).bind fun n83 => (some n83)
def bound_Fuse_Count_1 (k : Nat) (v5 : List S_Bound) (v9 : Int) (v10 : Int) : Option (Bool) :=
  (bound_Votes_Count k v5 v10).bind fun vt17 => (some (decide (vt17 < v9)))
def slices_IndexFunc_Count__bound_Fuse_Count_1.l0 (k : Nat) (s10 : List Int) (v5 : List S_Bound) (v9 : Int) : Nat → Int → Option (Sum Int Unit)
  | 0, _ => none
  | n_ + 1, x35 =>
    if x35 < (s10.length : Int) then (if 0 ≤ x35 then ((bound_Fuse_Count_1 k v5 v9 (rd s10 x35)).bind fun vt64 => (if vt64 = true then (some (Sum.inl x35)) else (slices_IndexFunc_Count__bound_Fuse_Count_1.l0 k s10 v5 v9 n_ (w64 (x35 + 1))))) else none) else (some (Sum.inr ()))
def slices_IndexFunc_Count__bound_Fuse_Count_1 (k : Nat) (v5 : List S_Bound) (v9 : Int) (s10 : List Int) : Option (Int) :=
  (slices_IndexFunc_Count__bound_Fuse_Count_1.l0 k s10 v5 v9 k 0).bind fun z_ => Sum.elim (fun y_ => some y_) (fun _ => (some (-1))) z_
def slices_DeleteFunc_Count__bound_Fuse_Count_1.l0 (k : Nat) (v5 : List S_Bound) (v9 : Int) : Nat → (List Int) → Int → Int → Option ((List Int) × Int)
  | 0, _, _, _ => none
  | n_ + 1, s126, i130, j131 =>
    if j131 < (s126.length : Int) then (if 0 ≤ j131 then ((bound_Fuse_Count_1 k v5 v9 (rd s126 j131)).bind fun vt160 => (if ¬ (vt160 = true) then (if 0 ≤ i130 then (if i130 < (s126.length : Int) then (slices_DeleteFunc_Count__bound_Fuse_Count_1.l0 k v5 v9 n_ (s126.set (i130).toNat (rd s126 j131)) (w64 (i130 + 1)) (w64 (j131 + 1))) else none) else none) else (slices_DeleteFunc_Count__bound_Fuse_Count_1.l0 k v5 v9 n_ s126 i130 (w64 (j131 + 1))))) else none) else (some (s126, i130))
def slices_DeleteFunc_Count__bound_Fuse_Count_1 (k : Nat) (v5 : List S_Bound) (v9 : Int) (s14 : List Int) : Option ((List Int)) :=
  (slices_IndexFunc_Count__bound_Fuse_Count_1 k v5 v9 s14).bind fun vt28 => (if vt28 = (-1) then (some s14) else ((slices_DeleteFunc_Count__bound_Fuse_Count_1.l0 k v5 v9 k s14 vt28 (w64 (vt28 + 1))).bind fun (s188, i192) => (if 0 ≤ i192 then (if i192 ≤ (s188.length : Int) then (if i192 ≤ ((clr s188 (i192).toNat 0).length : Int) then (some ((clr s188 (i192).toNat 0).take (i192).toNat)) else none) else none) else none)))
def slices_Min_Count.l0 (k : Nat) (x1 : List Int) : Nat → Int → Int → Option (Int)
  | 0, _, _ => none
  | n_ + 1, m41, i42 =>
    if i42 < (x1.length : Int) then (if 0 ≤ i42 then (slices_Min_Count.l0 k x1 n_ (mn m41 (rd x1 i42)) (w64 (i42 + 1))) else none) else (some m41)
def slices_Min_Count (k : Nat) (x1 : List Int) : Option (Int) :=
  if (x1.length : Int) < 1 then (none) else (if 0 < (x1.length : Int) then ((slices_Min_Count.l0 k x1 k (rd x1 0) 1).bind fun m70 => (some m70)) else none)
def slices_Max_Count.l0 (k : Nat) (x1 : List Int) : Nat → Int → Int → Option (Int)
  | 0, _, _ => none
  | n_ + 1, m41, i42 =>
    if i42 < (x1.length : Int) then (if 0 ≤ i42 then (slices_Max_Count.l0 k x1 n_ (mx m41 (rd x1 i42)) (w64 (i42 + 1))) else none) else (some m41)
def slices_Max_Count (k : Nat) (x1 : List Int) : Option (Int) :=
  if (x1.length : Int) < 1 then (none) else (if 0 < (x1.length : Int) then ((slices_Max_Count.l0 k x1 k (rd x1 0) 1).bind fun m70 => (some m70)) else none)
def bound_Fuse_Count.l0 (k : Nat) (l1 : List S_Bound) : Nat → (List Int) → Int → Option ((List Int))
  | 0, _, _ => none
  | n_ + 1, ends37, x43 =>
    if x43 < (l1.length : Int) then (if 0 ≤ x43 then ((bound_vague_Count k (rd l1 x43) (rd l1 x43)).bind fun vt76 => (if ¬ (vt76 = true) then (if (ends37.length + 2) * 8 ≤ 140737488355328 then (bound_Fuse_Count.l0 k l1 n_ (ends37 ++ ([(rd l1 x43).Lo, (rd l1 x43).Hi] : List Int)) (w64 (x43 + 1))) else none) else (bound_Fuse_Count.l0 k l1 n_ ends37 (w64 (x43 + 1))))) else none) else (some ends37)
def bound_Fuse_Count (k : Nat) (l1 : List S_Bound) (vf5 : Int) : Option (S_Bound) :=
  (bound_Fuse_Count.l0 k l1 k ([] : List Int) 0).bind fun ends104 => (if vf5 < 0 then ((bound_None_Count k).bind fun vt140 => (some vt140)) else (if (w64 ((w64 (Int.tdiv (ends104.length : Int) 2)) - vf5)) ≤ 0 then ((bound_None_Count k).bind fun vt153 => (some vt153)) else ((slices_DeleteFunc_Count__bound_Fuse_Count_1 k l1 (w64 ((w64 (Int.tdiv (ends104.length : Int) 2)) - vf5)) ends104).bind fun vt171 => (if (vt171.length : Int) = 0 then ((bound_None_Count k).bind fun vt188 => (some vt188)) else ((slices_Min_Count k vt171).bind fun vt204 => ((slices_Max_Count k vt171).bind fun vt218 => ((bound_Of_Count k vt204 vt218).bind fun vt227 => (some vt227))))))))
def master_fuse_Count.l1 (k : Nat) (l1 : List (List S_Bound)) (x184 : Int) : Nat → (List S_Bound) → Int → Option ((List S_Bound))
  | 0, _, _ => none
  | n_ + 1, cell223, x229 =>
    if x229 < (l1.length : Int) then (if 0 ≤ x229 then (if 0 ≤ x184 then (if x184 < ((rd l1 x229).length : Int) then (if (cell223.length + 1) * 24 ≤ 140737488355328 then (master_fuse_Count.l1 k l1 x184 n_ (cell223 ++ ([(rd (rd l1 x229) x184)] : List S_Bound)) (w64 (x229 + 1))) else none) else none) else none) else none) else (some cell223)
def master_fuse_Count.l0 (k : Nat) (n5 : Int) (l1 : List (List S_Bound)) (vf6 : Int) : Nat → (List S_Bound) → Int → Option ((List S_Bound))
  | 0, _, _ => none
  | n_ + 1, out180, x184 =>
    if x184 < ((List.replicate (n5).toNat ((⟨0, 0, false⟩ : S_Bound) : S_Bound)).length : Int) then ((master_fuse_Count.l1 k l1 x184 k ([] : List S_Bound) 0).bind fun cell283 => ((bound_Fuse_Count k cell283 vf6).bind fun vt299 => (if 0 ≤ x184 then (if x184 < (out180.length : Int) then (master_fuse_Count.l0 k n5 l1 vf6 n_ (out180.set (x184).toNat vt299) (w64 (x184 + 1))) else none) else none))) else (some out180)
def master_fuse_Count (k : Nat) (l1 : List (List S_Bound)) (n5 : Int) (vf6 : Int) : Option ((List S_Bound)) :=
  if 0 ≤ n5 then (if n5 * 24 ≤ 140737488355328 then ((master_fuse_Count.l0 k n5 l1 vf6 k (List.replicate (n5).toNat ((⟨0, 0, false⟩ : S_Bound) : S_Bound)) 0).bind fun out323 => (some out323)) else none) else none
def master_Bias.l0 (k : Nat) (vk1 : S_Camera) : Nat → (List S_Bound) → Int → Option ((List S_Bound))
  | 0, _, _ => none
  | n_ + 1, vopen105, x109 =>
    if x109 < ((List.replicate (w64 (vk1.W * vk1.H)).toNat ((⟨0, 0, false⟩ : S_Bound) : S_Bound)).length : Int) then ((bound_Of_Count k 0 4096).bind fun vt127 => (if 0 ≤ x109 then (if x109 < (vopen105.length : Int) then (master_Bias.l0 k vk1 n_ (vopen105.set (x109).toNat vt127) (w64 (x109 + 1))) else none) else none)) else (some vopen105)
def master_Bias.l2 (k : Nat) (l2 : List S_Frame) (x181 : Int) (vt222 : List S_Bound) (vk1 : S_Camera) : Nat → (List S_Bound) → Int → Option ((List S_Bound))
  | 0, _, _ => none
  | n_ + 1, b349, x353 =>
    if x353 < (((rd l2 x181).Counts).length : Int) then (if 0 ≤ x353 then ((bound_None_Count k).bind fun vt380 => (if x353 < (b349.length : Int) then (if x353 < (vt222.length : Int) then (if ¬ (((rd vt222 x353).Unknown) = true) then ((bound_Of_Count k (mx 0 (w64 ((rd ((rd l2 x181).Counts) x353) - vk1.Noise))) (mn 65535 (w64 ((rd ((rd l2 x181).Counts) x353) + vk1.Noise)))).bind fun vt405 => (if x353 < ((b349.set (x353).toNat vt380).length : Int) then (master_Bias.l2 k l2 x181 vt222 vk1 n_ ((b349.set (x353).toNat vt380).set (x353).toNat vt405) (w64 (x353 + 1))) else none)) else (master_Bias.l2 k l2 x181 vt222 vk1 n_ (b349.set (x353).toNat vt380) (w64 (x353 + 1)))) else none) else none)) else none) else (some b349)
def master_Bias.l1 (k : Nat) (l2 : List S_Frame) (vk1 : S_Camera) (vopen147 : List S_Bound) : Nat → (List (List S_Bound)) → Int → Option (Sum ((List S_Bound) × Int) (List (List S_Bound)))
  | 0, _, _ => none
  | n_ + 1, vall175, x181 =>
    if x181 < (l2.length : Int) then (if 0 ≤ x181 then ((master_Held k vk1 vopen147 (rd l2 x181)).bind fun (vt222, vt223) => (if vt223 ≠ 0 then (some (Sum.inl (([] : List S_Bound), vt223))) else (if 0 ≤ (vt222.length : Int) then (if (vt222.length : Int) * 24 ≤ 140737488355328 then ((master_Bias.l2 k l2 x181 vt222 vk1 k (List.replicate ((vt222.length : Int)).toNat ((⟨0, 0, false⟩ : S_Bound) : S_Bound)) 0).bind fun b424 => (if (vall175.length + 1) * 24 ≤ 140737488355328 then (master_Bias.l1 k l2 vk1 vopen147 n_ (vall175 ++ ([b424] : List (List S_Bound))) (w64 (x181 + 1))) else none)) else none) else none))) else none) else (some (Sum.inr vall175))
def master_Bias (k : Nat) (vk1 : S_Camera) (l2 : List S_Frame) (vf6 : Int) : Option ((List S_Bound) × Int) :=
  (master_frames k vk1 l2 0 vf6).bind fun (vt17, vt18) => (if vt18 ≠ 0 then (some (([] : List S_Bound), vt18)) else (if 0 ≤ (w64 (vk1.W * vk1.H)) then (if (w64 (vk1.W * vk1.H)) * 24 ≤ 140737488355328 then ((master_Bias.l0 k vk1 k (List.replicate (w64 (vk1.W * vk1.H)).toNat ((⟨0, 0, false⟩ : S_Bound) : S_Bound)) 0).bind fun vopen147 => ((master_Bias.l1 k l2 vk1 vopen147 k ([] : List (List S_Bound)) 0).bind fun z_ => Sum.elim (fun y_ => some y_) (fun vall455 => ((master_fuse_Count k vall455 (w64 (vk1.W * vk1.H)) vf6).bind fun vt482 => (some (vt482, 0)))) z_)) else none) else none))
def spykeep3_mastered (k : Nat) : Option (Bool) :=
  (spymake_Cards k (⟨0, 0, 1, 0, 0, (⟨0, 0, 0, 0⟩ : S_Plate), 0, 0, 0, 0, ([] : List S_Hit)⟩ : S_Shot)).bind fun vt17 => ((master_Bias k (⟨1, 1, 60000, 1, 2⟩ : S_Camera) ([(⟨1, 1, vt17, ([50] : List Int)⟩ : S_Frame)] : List S_Frame) 0).bind fun (vt77, vt78) => (if vt78 = 0 then (if (vt77.length : Int) = 1 then (if 0 < (vt77.length : Int) then (some ((((rd vt77 0).Lo) == 48) && ((((rd vt77 0).Hi) == 52) && ((((rd vt77 0).Unknown) == false) && true)))) else none) else (some false)) else (some false)))
def master_Of (k : Nat) (s1 : S_Sensor) : Option (S_Camera) :=
  some (⟨s1.W, s1.H, s1.Full, s1.Gain, s1.Noise⟩ : S_Camera)
def bound_vague_Quanta (k : Nat) (a1 : S_Bound) (b2 : S_Bound) : Option (Bool) :=
  (bound_Norm_Quanta k a1).bind fun vt15 => (if vt15.Unknown = true then (some true) else ((bound_Norm_Quanta k b2).bind fun vt22 => (some vt22.Unknown)))
def bound_Has_Quanta (k : Nat) (b1 : S_Bound) (v2 : Int) : Option (Bool) :=
  (bound_vague_Quanta k b1 b1).bind fun vt11 => (if vt11 = true then (some true) else (if b1.Lo ≤ v2 then (some (decide (v2 ≤ b1.Hi))) else (some false)))
def spykeep3_MasterKeeps.l0 (k : Nat) (vt16 : S_Sensor) (l1 : List Int) : Nat → (List S_Bound) → Int → Int → Option ((List S_Bound) × Int)
  | 0, _, _, _ => none
  | n_ + 1, bias300, x306, x307 =>
    if x306 < (vt16.Bias.length : Int) then (if 0 ≤ x306 then ((spymake_Stream_Next k (⟨l1, x307⟩ : S_Stream) 3).bind fun (vt333, vt334) => ((spymake_Stream_Next k (⟨l1, vt334⟩ : S_Stream) 3).bind fun (vt340, vt341) => ((bound_Of_Count k (mx 0 (w64 ((rd vt16.Bias x306) - vt333))) (w64 ((rd vt16.Bias x306) + vt340))).bind fun vt347 => (if (bias300.length + 1) * 24 ≤ 140737488355328 then (spykeep3_MasterKeeps.l0 k vt16 l1 n_ (bias300 ++ ([vt347] : List S_Bound)) (w64 (x306 + 1)) vt341) else none)))) else none) else (some (bias300, x307))
def spykeep3_MasterKeeps.l1 (k : Nat) (vt65 : List Int) (vt451 : List S_Bound) (vt108 : List Int) (vt16 : S_Sensor) (l1 : List Int) : Nat → Int → Option (Sum Bool Unit)
  | 0, _ => none
  | n_ + 1, x509 =>
    if x509 < (vt65.length : Int) then (if 0 ≤ x509 then (if x509 < (vt451.length : Int) then (if ¬ (((rd vt451 x509).Unknown) = true) then ((bound_Has_Quanta k (rd vt451 x509) (rd vt65 x509)).bind fun vt546 => (if ¬ (vt546 = true) then (some (Sum.inl false)) else (if x509 < (vt108.length : Int) then (if (rd vt108 x509) ≠ (rd vt65 x509) then (some (Sum.inl false)) else (if (rd vt65 x509) ≥ vt16.Full then (some (Sum.inl false)) else (spykeep3_MasterKeeps.l1 k vt65 vt451 vt108 vt16 l1 n_ (w64 (x509 + 1))))) else none))) else (spykeep3_MasterKeeps.l1 k vt65 vt451 vt108 vt16 l1 n_ (w64 (x509 + 1)))) else none) else none) else (some (Sum.inr ()))
def spykeep3_MasterKeeps (k : Nat) (l1 : List Int) (seed5 : Int) : Option (Bool) :=
  (spymake_Stream_Sensor k (⟨l1, 0⟩ : S_Stream) 5).bind fun (vt16, vt17) => ((spykeep3_filled k (⟨l1, vt17⟩ : S_Stream) vt16).bind fun (vt65, vt66) => ((sensor_Bleed k vt16 vt65).bind fun (vt108, vt109, vt110) => ((sensor_Read k vt16 seed5 1 vt108).bind fun (vt156, vt157) => ((spykeep3_mastered k).bind fun vt184 => (if ¬ (vt184 = true) then (some false) else (if vt110 ≠ 0 then (some false) else (if vt157 ≠ 0 then (some false) else (if (vt108.length : Int) ≠ (vt65.length : Int) then (some false) else ((spykeep3_MasterKeeps.l0 k vt16 l1 k ([] : List S_Bound) 0 vt66).bind fun (bias373, x379) => ((master_Of k vt16).bind fun vt416 => ((master_Held k vt416 bias373 (⟨vt16.W, vt16.H, ([] : List S_Card), vt156⟩ : S_Frame)).bind fun (vt451, vt452) => (if vt452 ≠ 0 then (some false) else (if (vt451.length : Int) ≠ (vt65.length : Int) then (some false) else ((spykeep3_MasterKeeps.l1 k vt65 vt451 vt108 vt16 l1 k 0).bind fun z_ => Sum.elim (fun y_ => some y_) (fun _ => (some true)) z_))))))))))))))
end Go.Sp.K3
