/- A text of this claim. -/
import Derived.Test.YtjnehahcpeiheaaGreatDoorSpStr
import Derived.Test.YtjnehahcpeiheaaGreatDoorSpLib
import Derived.Test.YtjnehahcpeiheaaGreatDoorSpBld
import Derived.Test.YtjnehahcpeiheaaGreatDoorSpCopy
namespace Go.Sp.T6
open Go Go.Sp
set_option linter.unusedVariables false
structure S_Stream where
  L : List Int
  vat : Int
instance : Inhabited S_Stream := ⟨⟨default, default⟩⟩
structure S_Card where
  Key : ByteArray
  Value : ByteArray
  Unit : ByteArray
  Note : ByteArray
instance : Inhabited S_Card := ⟨⟨default, default, default, default⟩⟩
structure S_Sensor where
  W : Int
  H : Int
  Bias : List Int
  Dark : List Int
  Flat : List Int
  Full : Int
  Gain : Int
  Noise : Int
instance : Inhabited S_Sensor := ⟨⟨default, default, default, default, default, default, default, default⟩⟩
structure S_Hit where
  X : Int
  Y : Int
  Quanta : Int
instance : Inhabited S_Hit := ⟨⟨default, default, default⟩⟩
structure S_Plate where
  A : Int
  B : Int
  C : Int
  D : Int
instance : Inhabited S_Plate := ⟨⟨default, default, default, default⟩⟩
structure S_Shot where
  Kind : Int
  Seed : Int
  Number : Int
  Begin : Int
  Beats : Int
  Plate : S_Plate
  Seeing : Int
  DriftX : Int
  DriftY : Int
  Lamp : Int
  Hits : List S_Hit
instance : Inhabited S_Shot := ⟨⟨default, default, default, default, default, default, default, default, default, default, default⟩⟩
structure S_Frame where
  W : Int
  H : Int
  Cards : List S_Card
  Counts : List Int
instance : Inhabited S_Frame := ⟨⟨default, default, default, default⟩⟩
structure S_Wide where
  Hi : Int
  Lo : Int
instance : Inhabited S_Wide := ⟨⟨default, default⟩⟩
def spymake_Below (k : Nat) (x1 : Int) (n2 : Int) : Option (Int) :=
  if n2 < 1 then (some 0) else (if ¬ (n2 = 0) then (if (Int.tmod x1 n2) < 0 then (some (w64 ((Int.tmod x1 n2) + n2))) else (some (Int.tmod x1 n2))) else none)
def spymake_Stream_Next (k : Nat) (s3 : S_Stream) (n7 : Int) : Option (Int × Int) :=
  if (s3.L.length : Int) = 0 then ((spymake_Below k (w64 ((w64 (s3.vat + 1)) * 7919)) n7).bind fun vt22 => (some (vt22, w64 (s3.vat + 1)))) else (if ¬ ((s3.L.length : Int) = 0) then (if 0 ≤ (Int.tmod (w64 ((w64 (s3.vat + 1)) - 1)) (s3.L.length : Int)) then (if (Int.tmod (w64 ((w64 (s3.vat + 1)) - 1)) (s3.L.length : Int)) < (s3.L.length : Int) then ((spymake_Below k (rd s3.L (Int.tmod (w64 ((w64 (s3.vat + 1)) - 1)) (s3.L.length : Int))) 1073741824).bind fun vt47 => ((spymake_Below k (w64 (vt47 + (w64 ((w64 (Int.tdiv (w64 ((w64 (s3.vat + 1)) - 1)) (s3.L.length : Int))) * (w64 (7919 + (Int.tmod (w64 ((w64 (s3.vat + 1)) - 1)) (s3.L.length : Int)))))))) n7).bind fun vt53 => (some (vt53, w64 (s3.vat + 1))))) else none) else none) else none)
def spymake_Stream_Range (k : Nat) (s3 : S_Stream) (low7 : Int) (high8 : Int) : Option (Int × Int) :=
  if high8 < low7 then (some (low7, s3.vat)) else ((spymake_Stream_Next k s3 (w64 ((w64 (high8 - low7)) + 1))).bind fun (vt21, vt22) => (some (w64 (low7 + vt21), vt22)))
def spymake_Stream_Sensor.l0 (k : Nat) (vt17 : Int) (vt24 : Int) (s3 : S_Stream) (vt145 : Int) : Nat → Int → Int → (List Int) → (List Int) → (List Int) → Option (Int × (List Int) × (List Int) × (List Int))
  | 0, _, _, _, _, _ => none
  | n_ + 1, x340, x341, x342, x348, x354 =>
    if x340 < (w64 (vt17 * vt24)) then ((spymake_Stream_Next k (⟨s3.L, x341⟩ : S_Stream) 60).bind fun (vt386, vt387) => (if (x342.length + 1) * 8 ≤ 140737488355328 then ((spymake_Stream_Next k (⟨s3.L, vt387⟩ : S_Stream) (w64 ((w64 (vt145 * 16777216)) + 1))).bind fun (vt422, vt423) => (if (x348.length + 1) * 8 ≤ 140737488355328 then ((spymake_Stream_Range k (⟨s3.L, vt423⟩ : S_Stream) 2048 4096).bind fun (vt450, vt451) => ((spymake_Stream_Next k (⟨s3.L, vt451⟩ : S_Stream) 12).bind fun (vt461, vt462) => (if vt461 = 0 then ((spymake_Stream_Next k (⟨s3.L, vt462⟩ : S_Stream) 512).bind fun (vt470, vt471) => ((spymake_Stream_Next k (⟨s3.L, vt471⟩ : S_Stream) 2).bind fun (vt477, vt478) => (if (x354.length + 1) * 8 ≤ 140737488355328 then (spymake_Stream_Sensor.l0 k vt17 vt24 s3 vt145 n_ (w64 (x340 + 1)) vt478 (x342 ++ ([vt386] : List Int)) (x348 ++ ([vt422] : List Int)) (x354 ++ ([w64 (vt470 * vt477)] : List Int))) else none))) else (if (x354.length + 1) * 8 ≤ 140737488355328 then (spymake_Stream_Sensor.l0 k vt17 vt24 s3 vt145 n_ (w64 (x340 + 1)) vt462 (x342 ++ ([vt386] : List Int)) (x348 ++ ([vt422] : List Int)) (x354 ++ ([vt450] : List Int))) else none)))) else none)) else none)) else (some (x341, x342, x348, x354))
def spymake_Stream_Sensor (k : Nat) (s3 : S_Stream) (most7 : Int) : Option (S_Sensor × Int) :=
  (spymake_Stream_Range k s3 1 most7).bind fun (vt17, vt18) => ((spymake_Stream_Range k (⟨s3.L, vt18⟩ : S_Stream) 1 most7).bind fun (vt24, vt25) => ((spymake_Stream_Range k (⟨s3.L, vt25⟩ : S_Stream) 20000 1048576).bind fun (vt31, vt32) => ((spymake_Stream_Range k (⟨s3.L, vt32⟩ : S_Stream) 1 4).bind fun (vt38, vt39) => ((spymake_Stream_Next k (⟨s3.L, vt39⟩ : S_Stream) 4).bind fun (vt45, vt46) => ((spymake_Stream_Next k (⟨s3.L, vt46⟩ : S_Stream) 6).bind fun (vt63, vt64) => (((if vt63 = 0 then ((spymake_Stream_Range k (⟨s3.L, vt64⟩ : S_Stream) 200 5000).bind fun (vt81, vt82) => (some (vt82, vt81, vt38, vt45))) else (((if vt63 = 1 then ((spymake_Stream_Range k (⟨s3.L, vt64⟩ : S_Stream) 1 64).bind fun (vt95, vt96) => ((spymake_Stream_Next k (⟨s3.L, vt96⟩ : S_Stream) 20).bind fun (vt102, vt103) => (some (vt103, vt95, vt102)))) else (some (vt64, vt38, vt45)) : Option (Int × Int × Int))).bind fun (x119, x120, x121) => (some (x119, vt31, x120, x121))) : Option (Int × Int × Int × Int))).bind fun (x133, x134, x135, x136) => ((spymake_Stream_Next k (⟨s3.L, x133⟩ : S_Stream) 3).bind fun (vt145, vt146) => ((spymake_Stream_Sensor.l0 k vt17 vt24 s3 vt145 k 0 vt146 ([] : List Int) ([] : List Int) ([] : List Int)).bind fun (x525, x526, x532, x538) => (some ((⟨vt17, vt24, x526, x532, x538, x134, x135, x136⟩ : S_Sensor), x525))))))))))
def spymake_Stream_Plate (k : Nat) (s3 : S_Stream) : Option (S_Plate × Int) :=
  (spymake_Stream_Next k s3 3).bind fun (vt22, vt23) => (if 0 ≤ vt22 then (if vt22 < (([2, 30, 1024] : List Int).length : Int) then ((spymake_Stream_Range k (⟨s3.L, vt23⟩ : S_Stream) (w64 (0 - (rd ([2, 30, 1024] : List Int) vt22))) (rd ([2, 30, 1024] : List Int) vt22)).bind fun (vt36, vt37) => ((spymake_Stream_Range k (⟨s3.L, vt37⟩ : S_Stream) (w64 (0 - (rd ([2, 30, 1024] : List Int) vt22))) (rd ([2, 30, 1024] : List Int) vt22)).bind fun (vt43, vt44) => ((spymake_Stream_Range k (⟨s3.L, vt44⟩ : S_Stream) (w64 (0 - (rd ([2, 30, 1024] : List Int) vt22))) (rd ([2, 30, 1024] : List Int) vt22)).bind fun (vt50, vt51) => ((spymake_Stream_Range k (⟨s3.L, vt51⟩ : S_Stream) (w64 (0 - (rd ([2, 30, 1024] : List Int) vt22))) (rd ([2, 30, 1024] : List Int) vt22)).bind fun (vt57, vt58) => (if ((vt36 == 0) && ((vt43 == 0) && ((vt50 == 0) && ((vt57 == 0) && true)))) = true then (some ((⟨1, vt43, vt50, vt57⟩ : S_Plate), vt58)) else (some ((⟨vt36, vt43, vt50, vt57⟩ : S_Plate), vt58))))))) else none) else none)
def spymake_Stream_Shot (k : Nat) (s3 : S_Stream) (c7 : S_Sensor) (kind17 : Int) (number18 : Int) : Option (S_Shot × Int) :=
  (spymake_Stream_Next k s3 1073741824).bind fun (vt32, vt33) => ((spymake_Stream_Range k (⟨s3.L, vt33⟩ : S_Stream) (-3000) 3000).bind fun (vt39, vt40) => ((spymake_Stream_Next k (⟨s3.L, vt40⟩ : S_Stream) 5).bind fun (vt57, vt58) => (((if vt57 = 0 then ((spymake_Stream_Range k (⟨s3.L, vt58⟩ : S_Stream) (-30) 30).bind fun (vt66, vt67) => (some (vt67, (w64 (vt66 * 28800000))))) else (some (vt58, vt39)) : Option (Int × Int))).bind fun (x81, x82) => (((if kind17 ≠ 0 then ((spymake_Stream_Next k (⟨s3.L, x81⟩ : S_Stream) 3).bind fun (vt103, vt104) => (if 0 ≤ vt103 then (if vt103 < (([2, 5, 16] : List Int).length : Int) then ((spymake_Stream_Range k (⟨s3.L, vt104⟩ : S_Stream) 1 (rd ([2, 5, 16] : List Int) vt103)).bind fun (vt115, vt116) => (some (vt116, vt115))) else none) else none)) else (some (x81, 0)) : Option (Int × Int))).bind fun (x130, x131) => (if kind17 = 2 then ((spymake_Stream_Next k (⟨s3.L, x130⟩ : S_Stream) 3).bind fun (vt163, vt164) => (if 0 ≤ vt163 then (if vt163 < (([100, 3000, 40000] : List Int).length : Int) then ((spymake_Stream_Range k (⟨s3.L, vt164⟩ : S_Stream) 1 (rd ([100, 3000, 40000] : List Int) vt163)).bind fun (vt175, vt176) => (some ((⟨kind17, u64 ((u64 (vt32)) * 11400714819323198485), number18, x82, x131, (⟨0, 0, 0, 0⟩ : S_Plate), 0, 0, 0, vt175, ([] : List S_Hit)⟩ : S_Shot), vt176))) else none) else none)) else (if kind17 = 3 then ((spymake_Stream_Plate k (⟨s3.L, x130⟩ : S_Stream)).bind fun (vt191, vt192) => ((spymake_Stream_Next k (⟨s3.L, vt192⟩ : S_Stream) 2).bind fun (vt204, vt205) => (if ¬ (vt204 < 0) then ((spymake_Stream_Next k (⟨s3.L, vt205⟩ : S_Stream) 6).bind fun (vt220, vt221) => (((if vt220 = 0 then (some 4) else (some (w64 (1 * 2 ^ (min (vt204).toNat 64)))) : Option (Int))).bind fun x237 => ((spymake_Stream_Next k (⟨s3.L, vt221⟩ : S_Stream) 3).bind fun (vt247, vt248) => (if vt247 = 0 then ((spymake_Stream_Range k (⟨s3.L, vt248⟩ : S_Stream) (-64) 64).bind fun (vt256, vt257) => ((spymake_Stream_Range k (⟨s3.L, vt257⟩ : S_Stream) (-64) 64).bind fun (vt263, vt264) => (some ((⟨kind17, u64 ((u64 (vt32)) * 11400714819323198485), number18, x82, x131, vt191, x237, vt256, vt263, 0, ([] : List S_Hit)⟩ : S_Shot), vt264)))) else (some ((⟨kind17, u64 ((u64 (vt32)) * 11400714819323198485), number18, x82, x131, vt191, x237, 0, 0, 0, ([] : List S_Hit)⟩ : S_Shot), vt248)))))) else none))) else (some ((⟨kind17, u64 ((u64 (vt32)) * 11400714819323198485), number18, x82, x131, (⟨0, 0, 0, 0⟩ : S_Plate), 0, 0, 0, 0, ([] : List S_Hit)⟩ : S_Shot), x130))))))))
def strconv_FormatInt (k : Nat) (n b : Int) : Option (ByteArray) :=
  if b = 10 then (if -9223372036854775808 ≤ n then (if n ≤ 9223372036854775807 then (some (numeral n)) else none) else none) else none
def spymake_Cards_1 (k : Nat) (key1 : ByteArray) (n2 : Int) (unit3 : ByteArray) : Option (S_Card) :=
  (strconv_FormatInt k n2 10).bind fun vt12 => (some (⟨key1, vt12, unit3, (⟨#[]⟩ : ByteArray)⟩ : S_Card))
def spymake_Cards.l0 (k : Nat) (x1 : S_Shot) : Nat → (List S_Card) → Int → Option ((List S_Card))
  | 0, _, _ => none
  | n_ + 1, out147, x152 =>
    if x152 < 4 then (if 0 ≤ x152 then (if (⟨#[80, 76, 65, 84, 69, 45]⟩ : ByteArray).size + (bstr ([u8 (w64 (65 + x152))] : List Int)).size ≤ 9223372036854775807 then ((spymake_Cards_1 k ((⟨#[80, 76, 65, 84, 69, 45]⟩ : ByteArray) ++ (bstr ([u8 (w64 (65 + x152))] : List Int))) (rd [x1.Plate.A, x1.Plate.B, x1.Plate.C, x1.Plate.D] x152) (⟨#[]⟩ : ByteArray)).bind fun vt178 => (if (out147.length + 1) * 64 ≤ 140737488355328 then (spymake_Cards.l0 k x1 n_ (out147 ++ ([vt178] : List S_Card)) (w64 (x152 + 1))) else none)) else none) else none) else (some out147)
def spymake_Cards (k : Nat) (x1 : S_Shot) : Option ((List S_Card)) :=
  (spymake_Below k x1.Kind 4).bind fun vt21 => (if 0 ≤ vt21 then (if vt21 < (([(⟨#[98, 105, 97, 115]⟩ : ByteArray), (⟨#[100, 97, 114, 107]⟩ : ByteArray), (⟨#[102, 108, 97, 116]⟩ : ByteArray), (⟨#[115, 99, 105, 101, 110, 99, 101]⟩ : ByteArray)] : List ByteArray).length : Int) then ((spymake_Cards_1 k (⟨#[78, 85, 77, 66, 69, 82]⟩ : ByteArray) x1.Number (⟨#[]⟩ : ByteArray)).bind fun vt36 => ((spymake_Cards_1 k (⟨#[66, 69, 71, 73, 78]⟩ : ByteArray) x1.Begin (⟨#[116, 105, 99, 107]⟩ : ByteArray)).bind fun vt42 => ((spymake_Cards_1 k (⟨#[66, 69, 65, 84, 83]⟩ : ByteArray) x1.Beats (⟨#[98, 101, 97, 116]⟩ : ByteArray)).bind fun vt48 => (if x1.Kind ≠ 3 then (some ([(⟨(⟨#[75, 73, 78, 68]⟩ : ByteArray), (rd ([(⟨#[98, 105, 97, 115]⟩ : ByteArray), (⟨#[100, 97, 114, 107]⟩ : ByteArray), (⟨#[102, 108, 97, 116]⟩ : ByteArray), (⟨#[115, 99, 105, 101, 110, 99, 101]⟩ : ByteArray)] : List ByteArray) vt21), (⟨#[]⟩ : ByteArray), (⟨#[]⟩ : ByteArray)⟩ : S_Card), vt36, vt42, vt48] : List S_Card)) else ((spymake_Cards.l0 k x1 k ([(⟨(⟨#[75, 73, 78, 68]⟩ : ByteArray), (rd ([(⟨#[98, 105, 97, 115]⟩ : ByteArray), (⟨#[100, 97, 114, 107]⟩ : ByteArray), (⟨#[102, 108, 97, 116]⟩ : ByteArray), (⟨#[115, 99, 105, 101, 110, 99, 101]⟩ : ByteArray)] : List ByteArray) vt21), (⟨#[]⟩ : ByteArray), (⟨#[]⟩ : ByteArray)⟩ : S_Card), vt36, vt42, vt48] : List S_Card) 0).bind fun out204 => ((spymake_Cards_1 k (⟨#[83, 69, 69, 73, 78, 71]⟩ : ByteArray) x1.Seeing (⟨#[99, 101, 108, 108]⟩ : ByteArray)).bind fun vt224 => ((spymake_Cards_1 k (⟨#[68, 82, 73, 70, 84, 45, 88]⟩ : ByteArray) x1.DriftX (⟨#[115, 117, 98]⟩ : ByteArray)).bind fun vt230 => ((spymake_Cards_1 k (⟨#[68, 82, 73, 70, 84, 45, 89]⟩ : ByteArray) x1.DriftY (⟨#[115, 117, 98]⟩ : ByteArray)).bind fun vt236 => (if (out204.length + 3) * 64 ≤ 140737488355328 then (some (out204 ++ ([vt224, vt230, vt236] : List S_Card))) else none))))))))) else none) else none)
def spymake_Stream_Frame.l0 (k : Nat) (vw11 : Int) (vh12 : Int) (s3 : S_Stream) (vt51 : Int) (vt65 : Int) : Nat → Int → Int → (List Int) → Option (Int × (List Int))
  | 0, _, _, _ => none
  | n_ + 1, x185, x186, x187 =>
    if x185 < (w64 (vw11 * vh12)) then ((spymake_Stream_Range k (⟨s3.L, x186⟩ : S_Stream) (-3) 3).bind fun (vt211, vt212) => ((spymake_Stream_Next k (⟨s3.L, vt212⟩ : S_Stream) 3).bind fun (vt222, vt223) => (if vt222 = 0 then ((spymake_Stream_Next k (⟨s3.L, vt223⟩ : S_Stream) (rd ([2, 256, 300, 5000, 65536] : List Int) vt51)).bind fun (vt231, vt232) => (if (x187.length + 1) * 8 ≤ 140737488355328 then (spymake_Stream_Frame.l0 k vw11 vh12 s3 vt51 vt65 n_ (w64 (x185 + 1)) vt232 (x187 ++ ([mx 0 (mn 65535 vt231)] : List Int))) else none)) else (if (x187.length + 1) * 8 ≤ 140737488355328 then (spymake_Stream_Frame.l0 k vw11 vh12 s3 vt51 vt65 n_ (w64 (x185 + 1)) vt223 (x187 ++ ([mx 0 (mn 65535 (w64 (vt65 + vt211)))] : List Int))) else none)))) else (some (x186, x187))
def spymake_Stream_Frame (k : Nat) (s3 : S_Stream) (x7 : S_Shot) (vw11 : Int) (vh12 : Int) : Option (S_Frame × Int) :=
  (spymake_Cards k x7).bind fun vt25 => ((spymake_Stream_Next k s3 5).bind fun (vt51, vt52) => (if 0 ≤ vt51 then (if vt51 < (([2, 256, 300, 5000, 65536] : List Int).length : Int) then ((spymake_Stream_Next k (⟨s3.L, vt52⟩ : S_Stream) (rd ([2, 256, 300, 5000, 65536] : List Int) vt51)).bind fun (vt65, vt66) => ((spymake_Stream_Frame.l0 k vw11 vh12 s3 vt51 vt65 k 0 vt66 ([] : List Int)).bind fun (x279, x280) => (some ((⟨vw11, vh12, vt25, x280⟩ : S_Frame), x279)))) else none) else none))
def strconv_Itoa (k : Nat) (n : Int) : Option (ByteArray) :=
  if -9223372036854775808 ≤ n then (if n ≤ 9223372036854775807 then (some (numeral n)) else none) else none
def spymake_Stream_Notes.l0 (k : Nat) (vt44 : Int) (s3 : S_Stream) : Nat → (List S_Card) → Int → Int → Option ((List S_Card) × Int)
  | 0, _, _, _ => none
  | n_ + 1, l250, x255, x256 =>
    if x255 < vt44 then ((strconv_Itoa k x255).bind fun vt276 => (if (⟨#[88]⟩ : ByteArray).size + vt276.size ≤ 9223372036854775807 then ((spymake_Stream_Next k (⟨s3.L, x256⟩ : S_Stream) 6).bind fun (vt290, vt291) => (if 0 ≤ vt290 then (if vt290 < (([(⟨#[49]⟩ : ByteArray), (⟨#[97, 47, 98]⟩ : ByteArray), (⟨#[61]⟩ : ByteArray), (⟨#[91, 55, 93]⟩ : ByteArray), (⟨#[45, 49, 50]⟩ : ByteArray), (⟨#[50, 48]⟩ : ByteArray)] : List ByteArray).length : Int) then ((spymake_Stream_Next k (⟨s3.L, vt291⟩ : S_Stream) 2).bind fun (vt313, vt314) => (((if vt313 = 0 then ((spymake_Stream_Next k (⟨s3.L, vt314⟩ : S_Stream) 5).bind fun (vt329, vt330) => (if 0 ≤ vt329 then (if vt329 < (([(⟨#[116, 105, 99, 107]⟩ : ByteArray), (⟨#[109, 105, 110, 117, 116, 101]⟩ : ByteArray), (⟨#[99, 101, 108, 108]⟩ : ByteArray), (⟨#[116, 117, 114, 110]⟩ : ByteArray), (⟨#[111, 100, 100]⟩ : ByteArray)] : List ByteArray).length : Int) then (some (vt330, (rd ([(⟨#[116, 105, 99, 107]⟩ : ByteArray), (⟨#[109, 105, 110, 117, 116, 101]⟩ : ByteArray), (⟨#[99, 101, 108, 108]⟩ : ByteArray), (⟨#[116, 117, 114, 110]⟩ : ByteArray), (⟨#[111, 100, 100]⟩ : ByteArray)] : List ByteArray) vt329))) else none) else none)) else (some (vt314, (⟨#[]⟩ : ByteArray))) : Option (Int × ByteArray))).bind fun (x349, x350) => ((spymake_Stream_Next k (⟨s3.L, x349⟩ : S_Stream) 2).bind fun (vt366, vt367) => (if vt366 = 0 then ((spymake_Stream_Next k (⟨s3.L, vt367⟩ : S_Stream) 4).bind fun (vt382, vt383) => (if 0 ≤ vt382 then (if vt382 < (([(⟨#[97]⟩ : ByteArray), (⟨#[47, 32, 98]⟩ : ByteArray), (⟨#[120, 32, 32, 121]⟩ : ByteArray), (⟨#[91, 122, 93, 32, 61, 32, 49]⟩ : ByteArray)] : List ByteArray).length : Int) then (if (l250.length + 1) * 64 ≤ 140737488355328 then (spymake_Stream_Notes.l0 k vt44 s3 n_ (l250 ++ ([(⟨((⟨#[88]⟩ : ByteArray) ++ vt276), (rd ([(⟨#[49]⟩ : ByteArray), (⟨#[97, 47, 98]⟩ : ByteArray), (⟨#[61]⟩ : ByteArray), (⟨#[91, 55, 93]⟩ : ByteArray), (⟨#[45, 49, 50]⟩ : ByteArray), (⟨#[50, 48]⟩ : ByteArray)] : List ByteArray) vt290), x350, (rd ([(⟨#[97]⟩ : ByteArray), (⟨#[47, 32, 98]⟩ : ByteArray), (⟨#[120, 32, 32, 121]⟩ : ByteArray), (⟨#[91, 122, 93, 32, 61, 32, 49]⟩ : ByteArray)] : List ByteArray) vt382)⟩ : S_Card)] : List S_Card)) (w64 (x255 + 1)) vt383) else none) else none) else none)) else (if (l250.length + 1) * 64 ≤ 140737488355328 then (spymake_Stream_Notes.l0 k vt44 s3 n_ (l250 ++ ([(⟨((⟨#[88]⟩ : ByteArray) ++ vt276), (rd ([(⟨#[49]⟩ : ByteArray), (⟨#[97, 47, 98]⟩ : ByteArray), (⟨#[61]⟩ : ByteArray), (⟨#[91, 55, 93]⟩ : ByteArray), (⟨#[45, 49, 50]⟩ : ByteArray), (⟨#[50, 48]⟩ : ByteArray)] : List ByteArray) vt290), x350, (⟨#[]⟩ : ByteArray)⟩ : S_Card)] : List S_Card)) (w64 (x255 + 1)) vt367) else none))))) else none) else none)) else none)) else (some (l250, x256))
def spymake_Stream_Notes (k : Nat) (s3 : S_Stream) (vf7 : S_Frame) : Option (S_Frame × Int) :=
  if (([] : List S_Card).length + vf7.Cards.length) * 64 ≤ 140737488355328 then ((spymake_Stream_Next k s3 4).bind fun (vt44, vt45) => ((spymake_Stream_Notes.l0 k vt44 s3 k (([] : List S_Card) ++ vf7.Cards) 0 vt45).bind fun (l432, x437) => (some ((⟨vf7.W, vf7.H, l432, vf7.Counts⟩ : S_Frame), x437)))) else none
def spykeep3_noted (k : Nat) (s3 : S_Stream) : Option (S_Frame × Int) :=
  (spymake_Stream_Sensor k s3 9).bind fun (vt16, vt17) => ((spymake_Stream_Next k (⟨s3.L, vt17⟩ : S_Stream) 4).bind fun (vt54, vt55) => ((spymake_Stream_Range k (⟨s3.L, vt55⟩ : S_Stream) 1 99).bind fun (vt61, vt62) => ((spymake_Stream_Shot k (⟨s3.L, vt62⟩ : S_Stream) vt16 vt54 vt61).bind fun (vt86, vt87) => ((spymake_Stream_Frame k (⟨s3.L, vt87⟩ : S_Stream) vt86 vt16.W vt16.H).bind fun (vt119, vt120) => ((spymake_Stream_Notes k (⟨s3.L, vt120⟩ : S_Stream) vt119).bind fun (vt150, vt151) => (some (vt150, vt151)))))))
def frame_Check_1 (k : Nat) (n1 : Int) : Option (Bool) :=
  if n1 < 0 then (some true) else (some (decide (n1 > 65535)))
def slices_IndexFunc_int__frame_Check_1.l0 (k : Nat) (s1 : List Int) : Nat → Int → Option (Sum Int Unit)
  | 0, _ => none
  | n_ + 1, x26 =>
    if x26 < (s1.length : Int) then (if 0 ≤ x26 then ((frame_Check_1 k (rd s1 x26)).bind fun vt53 => (if vt53 = true then (some (Sum.inl x26)) else (slices_IndexFunc_int__frame_Check_1.l0 k s1 n_ (w64 (x26 + 1))))) else none) else (some (Sum.inr ()))
def slices_IndexFunc_int__frame_Check_1 (k : Nat) (s1 : List Int) : Option (Int) :=
  (slices_IndexFunc_int__frame_Check_1.l0 k s1 k 0).bind fun z_ => Sum.elim (fun y_ => some y_) (fun _ => (some (-1))) z_
def slices_ContainsFunc_int__frame_Check_1 (k : Nat) (s1 : List Int) : Option (Bool) :=
  (slices_IndexFunc_int__frame_Check_1 k s1).bind fun vt9 => (some (decide (vt9 ≥ 0)))
def frame_upper (k : Nat) (c1 : Int) : Option (Bool) :=
  if c1 ≥ 65 then (some (decide (c1 ≤ 90))) else (some false)
def frame_digit (k : Nat) (c1 : Int) : Option (Bool) :=
  if c1 ≥ 48 then (some (decide (c1 ≤ 57))) else (some false)
def frame_inKey (k : Nat) (c1 : Int) : Option (Bool) :=
  (frame_upper k c1).bind fun vt6 => (if vt6 = true then (some true) else ((frame_digit k c1).bind fun vt13 => (if vt13 = true then (some true) else (some (c1 == 45)))))
def frame_all__frame_inKey.l0 (k : Nat) (s1 : ByteArray) : Nat → Int → Option (Sum Bool Unit)
  | 0, _ => none
  | n_ + 1, x23 =>
    if x23 < (s1.size : Int) then (if 0 ≤ x23 then ((frame_inKey k (bt s1 x23)).bind fun vt44 => (if ¬ (vt44 = true) then (some (Sum.inl false)) else (frame_all__frame_inKey.l0 k s1 n_ (w64 (x23 + 1))))) else none) else (some (Sum.inr ()))
def frame_all__frame_inKey (k : Nat) (s1 : ByteArray) : Option (Bool) :=
  (frame_all__frame_inKey.l0 k s1 k 0).bind fun z_ => Sum.elim (fun y_ => some y_) (fun _ => (some true)) z_
def frame_own (k : Nat) (key1 : ByteArray) : Option (Bool) :=
  if (key1.toList == (⟨#[87, 73, 68, 84, 72]⟩ : ByteArray).toList) = true then (some true) else (if (key1.toList == (⟨#[72, 69, 73, 71, 72, 84]⟩ : ByteArray).toList) = true then (some true) else (if (key1.toList == (⟨#[66, 89, 84, 69, 83]⟩ : ByteArray).toList) = true then (some true) else (some (key1.toList == (⟨#[69, 78, 68]⟩ : ByteArray).toList))))
def frame_inked (k : Nat) (c1 : Int) : Option (Bool) :=
  if c1 > 32 then (some (decide (c1 ≤ 126))) else (some false)
def frame_all__frame_inked.l0 (k : Nat) (s1 : ByteArray) : Nat → Int → Option (Sum Bool Unit)
  | 0, _ => none
  | n_ + 1, x23 =>
    if x23 < (s1.size : Int) then (if 0 ≤ x23 then ((frame_inked k (bt s1 x23)).bind fun vt44 => (if ¬ (vt44 = true) then (some (Sum.inl false)) else (frame_all__frame_inked.l0 k s1 n_ (w64 (x23 + 1))))) else none) else (some (Sum.inr ()))
def frame_all__frame_inked (k : Nat) (s1 : ByteArray) : Option (Bool) :=
  (frame_all__frame_inked.l0 k s1 k 0).bind fun z_ => Sum.elim (fun y_ => some y_) (fun _ => (some true)) z_
def frame_lower (k : Nat) (c1 : Int) : Option (Bool) :=
  if c1 ≥ 97 then (some (decide (c1 ≤ 122))) else (some false)
def frame_all__frame_lower.l0 (k : Nat) (s1 : ByteArray) : Nat → Int → Option (Sum Bool Unit)
  | 0, _ => none
  | n_ + 1, x23 =>
    if x23 < (s1.size : Int) then (if 0 ≤ x23 then ((frame_lower k (bt s1 x23)).bind fun vt44 => (if ¬ (vt44 = true) then (some (Sum.inl false)) else (frame_all__frame_lower.l0 k s1 n_ (w64 (x23 + 1))))) else none) else (some (Sum.inr ()))
def frame_all__frame_lower (k : Nat) (s1 : ByteArray) : Option (Bool) :=
  (frame_all__frame_lower.l0 k s1 k 0).bind fun z_ => Sum.elim (fun y_ => some y_) (fun _ => (some true)) z_
def frame_typed (k : Nat) (c1 : Int) : Option (Bool) :=
  if c1 ≥ 32 then (some (decide (c1 ≤ 126))) else (some false)
def frame_all__frame_typed.l0 (k : Nat) (s1 : ByteArray) : Nat → Int → Option (Sum Bool Unit)
  | 0, _ => none
  | n_ + 1, x23 =>
    if x23 < (s1.size : Int) then (if 0 ≤ x23 then ((frame_typed k (bt s1 x23)).bind fun vt44 => (if ¬ (vt44 = true) then (some (Sum.inl false)) else (frame_all__frame_typed.l0 k s1 n_ (w64 (x23 + 1))))) else none) else (some (Sum.inr ()))
def frame_all__frame_typed (k : Nat) (s1 : ByteArray) : Option (Bool) :=
  (frame_all__frame_typed.l0 k s1 k 0).bind fun z_ => Sum.elim (fun y_ => some y_) (fun _ => (some true)) z_
def strings_TrimSpace (k : Nat) (s : ByteArray) : Option (ByteArray) :=
  (if s.size ≤ 9223372036854775807 then (if s.data.toList.all (fun b => decide (b.toNat < 128)) = true then some ((⟨(Go.Lib.trimSpace s.data.toList).toArray⟩ : ByteArray)) else none) else none)
def strings_Repeat (k : Nat) (s : ByteArray) (n : Int) : Option (ByteArray) :=
  (if 0 ≤ n then (if s.size * n.toNat ≤ 140737488355328 then (if n ≤ 9223372036854775807 then some ((⟨(Go.Lib.repeatL s.data.toList n.toNat).toArray⟩ : ByteArray)) else none) else none) else none)
def frame_text (k : Nat) (c1 : S_Card) : Option (ByteArray) :=
  (strings_Repeat k (⟨#[32]⟩ : ByteArray) (mx 0 (w64 (8 - (c1.Key.size : Int))))).bind fun vt12 => (if c1.Key.size + vt12.size ≤ 9223372036854775807 then (if (c1.Key ++ vt12).size + (⟨#[61, 32]⟩ : ByteArray).size ≤ 9223372036854775807 then (if ((c1.Key ++ vt12) ++ (⟨#[61, 32]⟩ : ByteArray)).size + c1.Value.size ≤ 9223372036854775807 then (if (!(c1.Unit.toList == (⟨#[]⟩ : ByteArray).toList)) = true then (if (⟨#[32, 91]⟩ : ByteArray).size + c1.Unit.size ≤ 9223372036854775807 then (if ((⟨#[32, 91]⟩ : ByteArray) ++ c1.Unit).size + (⟨#[93]⟩ : ByteArray).size ≤ 9223372036854775807 then (if (((c1.Key ++ vt12) ++ (⟨#[61, 32]⟩ : ByteArray)) ++ c1.Value).size + (((⟨#[32, 91]⟩ : ByteArray) ++ c1.Unit) ++ (⟨#[93]⟩ : ByteArray)).size ≤ 9223372036854775807 then (if (!(c1.Note.toList == (⟨#[]⟩ : ByteArray).toList)) = true then (if (⟨#[32, 47, 32]⟩ : ByteArray).size + c1.Note.size ≤ 9223372036854775807 then (if ((((c1.Key ++ vt12) ++ (⟨#[61, 32]⟩ : ByteArray)) ++ c1.Value) ++ (((⟨#[32, 91]⟩ : ByteArray) ++ c1.Unit) ++ (⟨#[93]⟩ : ByteArray))).size + ((⟨#[32, 47, 32]⟩ : ByteArray) ++ c1.Note).size ≤ 9223372036854775807 then (some (((((c1.Key ++ vt12) ++ (⟨#[61, 32]⟩ : ByteArray)) ++ c1.Value) ++ (((⟨#[32, 91]⟩ : ByteArray) ++ c1.Unit) ++ (⟨#[93]⟩ : ByteArray))) ++ ((⟨#[32, 47, 32]⟩ : ByteArray) ++ c1.Note))) else none) else none) else (some ((((c1.Key ++ vt12) ++ (⟨#[61, 32]⟩ : ByteArray)) ++ c1.Value) ++ (((⟨#[32, 91]⟩ : ByteArray) ++ c1.Unit) ++ (⟨#[93]⟩ : ByteArray))))) else none) else none) else none) else (if (!(c1.Note.toList == (⟨#[]⟩ : ByteArray).toList)) = true then (if (⟨#[32, 47, 32]⟩ : ByteArray).size + c1.Note.size ≤ 9223372036854775807 then (if (((c1.Key ++ vt12) ++ (⟨#[61, 32]⟩ : ByteArray)) ++ c1.Value).size + ((⟨#[32, 47, 32]⟩ : ByteArray) ++ c1.Note).size ≤ 9223372036854775807 then (some ((((c1.Key ++ vt12) ++ (⟨#[61, 32]⟩ : ByteArray)) ++ c1.Value) ++ ((⟨#[32, 47, 32]⟩ : ByteArray) ++ c1.Note))) else none) else none) else (some (((c1.Key ++ vt12) ++ (⟨#[61, 32]⟩ : ByteArray)) ++ c1.Value)))) else none) else none) else none)
def frame_CheckCard (k : Nat) (c1 : S_Card) : Option (Int) :=
  if (c1.Key.toList == (⟨#[]⟩ : ByteArray).toList) = true then (some 6) else (if (c1.Key.size : Int) > 8 then (some 6) else (if 0 < (c1.Key.size : Int) then ((frame_upper k (bt c1.Key 0)).bind fun vt26 => (if ¬ (vt26 = true) then (some 6) else ((frame_all__frame_inKey k c1.Key).bind fun vt35 => (if ¬ (vt35 = true) then (some 6) else ((frame_own k c1.Key).bind fun vt44 => (if vt44 = true then (some 6) else (if (c1.Value.toList == (⟨#[]⟩ : ByteArray).toList) = true then (some 3) else (if (c1.Value.size : Int) > 20 then (some 3) else ((frame_all__frame_inked k c1.Value).bind fun vt62 => (if ¬ (vt62 = true) then (some 3) else (if (c1.Unit.size : Int) > 8 then (some 3) else ((frame_all__frame_lower k c1.Unit).bind fun vt77 => (if ¬ (vt77 = true) then (some 3) else ((frame_all__frame_typed k c1.Note).bind fun vt91 => (if ¬ (vt91 = true) then (some 3) else ((strings_TrimSpace k c1.Note).bind fun vt100 => (if (!(vt100.toList == c1.Note.toList)) = true then (some 3) else ((frame_text k c1).bind fun vt112 => (if (vt112.size : Int) > 64 then (some 2) else (some 0)))))))))))))))))))) else none))
def frame_find_1 (k : Nat) (v3 : ByteArray) (c4 : S_Card) : Option (Bool) :=
  some (c4.Key.toList == v3.toList)
def slices_IndexFunc_Card__frame_find_1.l0 (k : Nat) (s4 : List S_Card) (v3 : ByteArray) : Nat → Int → Option (Sum Int Unit)
  | 0, _ => none
  | n_ + 1, x29 =>
    if x29 < (s4.length : Int) then (if 0 ≤ x29 then ((frame_find_1 k v3 (rd s4 x29)).bind fun vt56 => (if vt56 = true then (some (Sum.inl x29)) else (slices_IndexFunc_Card__frame_find_1.l0 k s4 v3 n_ (w64 (x29 + 1))))) else none) else (some (Sum.inr ()))
def slices_IndexFunc_Card__frame_find_1 (k : Nat) (v3 : ByteArray) (s4 : List S_Card) : Option (Int) :=
  (slices_IndexFunc_Card__frame_find_1.l0 k s4 v3 k 0).bind fun z_ => Sum.elim (fun y_ => some y_) (fun _ => (some (-1))) z_
def frame_find (k : Nat) (l1 : List S_Card) (key5 : ByteArray) : Option (Int) :=
  (slices_IndexFunc_Card__frame_find_1 k key5 l1).bind fun vt14 => (some vt14)
def frame_Check.l0 (k : Nat) (vf1 : S_Frame) : Nat → Int → Option (Sum Int Unit)
  | 0, _ => none
  | n_ + 1, x75 =>
    if x75 < (vf1.Cards.length : Int) then (if 0 ≤ x75 then ((frame_CheckCard k (rd vf1.Cards x75)).bind fun vt110 => (if vt110 ≠ 0 then (some (Sum.inl vt110)) else (if x75 ≤ (vf1.Cards.length : Int) then ((frame_find k (vf1.Cards.take (x75).toNat) ((rd vf1.Cards x75).Key)).bind fun vt127 => (if vt127 ≥ 0 then (some (Sum.inl 7)) else (frame_Check.l0 k vf1 n_ (w64 (x75 + 1))))) else none))) else none) else (some (Sum.inr ()))
def frame_Check (k : Nat) (vf1 : S_Frame) : Option (Int) :=
  if (mn vf1.W vf1.H) < 1 then (some 4) else (if (mx vf1.W vf1.H) > 32 then (some 4) else (if (vf1.Counts.length : Int) ≠ (w64 (vf1.W * vf1.H)) then (some 3) else ((slices_ContainsFunc_int__frame_Check_1 k vf1.Counts).bind fun vt40 => (if vt40 = true then (some 4) else (if (vf1.Cards.length : Int) > 28 then (some 2) else ((frame_Check.l0 k vf1 k 0).bind fun z_ => Sum.elim (fun y_ => some y_) (fun _ => (some 0)) z_))))))
def slices_Clone_Card (k : Nat) (s1 : List S_Card) : Option ((List S_Card)) :=
  if (([] : List S_Card).length + s1.length) * 64 ≤ 140737488355328 then (some (([] : List S_Card) ++ s1)) else none
def slices_Clone_int (k : Nat) (s1 : List Int) : Option ((List Int)) :=
  if (([] : List Int).length + s1.length) * 8 ≤ 140737488355328 then (some (([] : List Int) ++ s1)) else none
def frame_Set (k : Nat) (vf1 : S_Frame) (c8 : S_Card) : Option (S_Frame × Int) :=
  (frame_Check k vf1).bind fun vt27 => (if vt27 ≠ 0 then (some ((⟨0, 0, ([] : List S_Card), ([] : List Int)⟩ : S_Frame), vt27)) else ((slices_Clone_Card k vf1.Cards).bind fun vt45 => ((slices_Clone_int k vf1.Counts).bind fun vt56 => ((frame_find k vt45 c8.Key).bind fun vt154 => (((if vt154 ≥ 0 then (if 0 ≤ vt154 then (if vt154 < (vt45.length : Int) then (some (vt45.set (vt154).toNat c8)) else none) else none) else (if (vt45.length + 1) * 64 ≤ 140737488355328 then (some (vt45 ++ ([c8] : List S_Card))) else none) : Option ((List S_Card)))).bind fun x203 => ((frame_Check k (⟨vf1.W, vf1.H, x203, vt56⟩ : S_Frame)).bind fun vt232 => (if vt232 ≠ 0 then (some ((⟨0, 0, ([] : List S_Card), ([] : List Int)⟩ : S_Frame), vt232)) else (some ((⟨vf1.W, vf1.H, x203, vt56⟩ : S_Frame), 0)))))))))
def frame_Get (k : Nat) (vf1 : S_Frame) (key8 : ByteArray) : Option (S_Card × Bool) :=
  (frame_find k vf1.Cards key8).bind fun vt23 => (if vt23 ≥ 0 then (if 0 ≤ vt23 then (if vt23 < (vf1.Cards.length : Int) then (some ((rd vf1.Cards vt23), true)) else none) else none) else (some ((⟨(⟨#[]⟩ : ByteArray), (⟨#[]⟩ : ByteArray), (⟨#[]⟩ : ByteArray), (⟨#[]⟩ : ByteArray)⟩ : S_Card), false)))
def strings_Builder_WriteString (k : Nat) (l : List UInt8) (str : ByteArray) : Option (Int × List UInt8) :=
  if l.length + str.size ≤ 140737488355328 then some ((str.size : Int), l ++ str.data.toList) else none
def frame_header_1 (k : Nat) (vt1 : ByteArray) (x6 : List UInt8) : Option ((List UInt8)) :=
  (strings_Repeat k (⟨#[32]⟩ : ByteArray) (w64 (64 - (vt1.size : Int)))).bind fun vt8 => (if vt1.size + vt8.size ≤ 9223372036854775807 then ((strings_Builder_WriteString k x6 (vt1 ++ vt8)).bind fun (vt15, vt16) => (some vt16)) else none)
def strings_Builder_Len (k : Nat) (l : List UInt8) : Option (Int × List UInt8) :=
  some ((l.length : Int), l)
def strings_Builder_String (k : Nat) (l : List UInt8) : Option (ByteArray) :=
  if l ≠ [] then some (⟨l.toArray⟩) else none
def frame_header.l0 (k : Nat) (vt19 : ByteArray) (vt25 : ByteArray) (vt31 : ByteArray) (vf1 : S_Frame) : Nat → (List UInt8) → Int → Option ((List UInt8))
  | 0, _, _ => none
  | n_ + 1, s136, x139 =>
    if x139 < ((([(⟨(⟨#[87, 73, 68, 84, 72]⟩ : ByteArray), vt19, (⟨#[]⟩ : ByteArray), (⟨#[]⟩ : ByteArray)⟩ : S_Card), (⟨(⟨#[72, 69, 73, 71, 72, 84]⟩ : ByteArray), vt25, (⟨#[]⟩ : ByteArray), (⟨#[]⟩ : ByteArray)⟩ : S_Card), (⟨(⟨#[66, 89, 84, 69, 83]⟩ : ByteArray), vt31, (⟨#[]⟩ : ByteArray), (⟨#[]⟩ : ByteArray)⟩ : S_Card)] : List S_Card) ++ vf1.Cards).length : Int) then (if 0 ≤ x139 then ((frame_text k (rd (([(⟨(⟨#[87, 73, 68, 84, 72]⟩ : ByteArray), vt19, (⟨#[]⟩ : ByteArray), (⟨#[]⟩ : ByteArray)⟩ : S_Card), (⟨(⟨#[72, 69, 73, 71, 72, 84]⟩ : ByteArray), vt25, (⟨#[]⟩ : ByteArray), (⟨#[]⟩ : ByteArray)⟩ : S_Card), (⟨(⟨#[66, 89, 84, 69, 83]⟩ : ByteArray), vt31, (⟨#[]⟩ : ByteArray), (⟨#[]⟩ : ByteArray)⟩ : S_Card)] : List S_Card) ++ vf1.Cards) x139)).bind fun vt170 => ((frame_header_1 k vt170 s136).bind fun vt177 => (frame_header.l0 k vt19 vt25 vt31 vf1 n_ vt177 (w64 (x139 + 1))))) else none) else (some s136)
def frame_header.l1 (k : Nat) : Nat → (List UInt8) → Option ((List UInt8))
  | 0, _ => none
  | n_ + 1, s272 =>
    (strings_Builder_Len k s272).bind fun (vt279, vt280) => (if (Int.tmod vt279 256) ≠ 0 then ((frame_header_1 k (⟨#[]⟩ : ByteArray) vt280).bind fun vt298 => (frame_header.l1 k n_ vt298)) else (some vt280))
def frame_header (k : Nat) (vf1 : S_Frame) (size8 : Int) : Option (ByteArray) :=
  (strconv_Itoa k vf1.W).bind fun vt19 => ((strconv_Itoa k vf1.H).bind fun vt25 => ((strconv_Itoa k size8).bind fun vt31 => (if (([(⟨(⟨#[87, 73, 68, 84, 72]⟩ : ByteArray), vt19, (⟨#[]⟩ : ByteArray), (⟨#[]⟩ : ByteArray)⟩ : S_Card), (⟨(⟨#[72, 69, 73, 71, 72, 84]⟩ : ByteArray), vt25, (⟨#[]⟩ : ByteArray), (⟨#[]⟩ : ByteArray)⟩ : S_Card), (⟨(⟨#[66, 89, 84, 69, 83]⟩ : ByteArray), vt31, (⟨#[]⟩ : ByteArray), (⟨#[]⟩ : ByteArray)⟩ : S_Card)] : List S_Card).length + vf1.Cards.length) * 64 ≤ 140737488355328 then ((frame_header.l0 k vt19 vt25 vt31 vf1 k ([] : List UInt8) 0).bind fun s191 => ((frame_header_1 k (⟨#[69, 78, 68]⟩ : ByteArray) s191).bind fun vt205 => ((frame_header.l1 k k vt205).bind fun s312 => ((strings_Builder_String k s312).bind fun vt320 => (some vt320))))) else none)))
def frame_four (k : Nat) (n1 : Int) : Option ((List Int)) :=
  some ([u8 (shr n1 24), u8 (shr n1 16), u8 (shr n1 8), u8 (n1)] : List Int)
def frame_Sum.l1 (k : Nat) : Nat → Int → Int → Option (Int)
  | 0, _, _ => none
  | n_ + 1, s73, x74 =>
    if x74 < 8 then (if (Go.bits .and .u32 s73 1) = 1 then (frame_Sum.l1 k n_ (Go.bits .xor .u32 (shr s73 1) 3988292384) (w64 (x74 + 1))) else (frame_Sum.l1 k n_ (shr s73 1) (w64 (x74 + 1)))) else (some s73)
def frame_Sum.l0 (k : Nat) (b1 : List Int) : Nat → Int → Int → Option (Int)
  | 0, _, _ => none
  | n_ + 1, s28, x29 =>
    if x29 < (b1.length : Int) then (if 0 ≤ x29 then ((frame_Sum.l1 k k (Go.bits .xor .u32 s28 (u32 ((rd b1 x29)))) 0).bind fun s99 => (frame_Sum.l0 k b1 n_ s99 (w64 (x29 + 1)))) else none) else (some s28)
def frame_Sum (k : Nat) (b1 : List Int) : Option (Int) :=
  (frame_Sum.l0 k b1 k 4294967295 0).bind fun s108 => (some (Go.bits .xor .u32 IntKind.u32.max s108))
def frame_seal (k : Nat) (i1 : Int) (block2 : List Int) : Option ((List Int)) :=
  (frame_four k (u32 (i1))).bind fun vt10 => (if (vt10.length + block2.length) * 1 ≤ 140737488355328 then ((frame_Sum k (vt10 ++ block2)).bind fun vt33 => ((frame_four k vt33).bind fun vt42 => (some vt42))) else none)
def frame_Encode.l0 (k : Nat) (vf1 : S_Frame) : Nat → Int → Int → Option (Int)
  | 0, _, _ => none
  | n_ + 1, size51, x52 =>
    if x52 < (vf1.Counts.length : Int) then (if 0 ≤ x52 then (if (rd vf1.Counts x52) > 255 then (frame_Encode.l0 k vf1 n_ 2 (w64 (x52 + 1))) else (frame_Encode.l0 k vf1 n_ size51 (w64 (x52 + 1)))) else none) else (some size51)
def frame_Encode.l1 (k : Nat) (vf1 : S_Frame) (size86 : Int) : Nat → (List Int) → Int → Option ((List Int))
  | 0, _, _ => none
  | n_ + 1, body214, x219 =>
    if x219 < (vf1.Counts.length : Int) then (if 0 ≤ x219 then (if size86 = 2 then (if (body214.length + 1) * 1 ≤ 140737488355328 then (if ((body214 ++ ([u8 (shr (rd vf1.Counts x219) 8)] : List Int)).length + 1) * 1 ≤ 140737488355328 then (frame_Encode.l1 k vf1 size86 n_ ((body214 ++ ([u8 (shr (rd vf1.Counts x219) 8)] : List Int)) ++ ([u8 ((rd vf1.Counts x219))] : List Int)) (w64 (x219 + 1))) else none) else none) else (if (body214.length + 1) * 1 ≤ 140737488355328 then (frame_Encode.l1 k vf1 size86 n_ (body214 ++ ([u8 ((rd vf1.Counts x219))] : List Int)) (w64 (x219 + 1))) else none)) else none) else (some body214)
def frame_Encode.l2 (k : Nat) : Nat → (List Int) → Option ((List Int))
  | 0, _ => none
  | n_ + 1, body366 =>
    if (Int.tmod (body366.length : Int) 256) ≠ 0 then (if (body366.length + 1) * 1 ≤ 140737488355328 then (frame_Encode.l2 k n_ (body366 ++ ([0] : List Int))) else none) else (some body366)
def frame_Encode.l3 (k : Nat) (body404 : List Int) : Nat → (List Int) → Int → Option ((List Int))
  | 0, _, _ => none
  | n_ + 1, out508, i514 =>
    if (w64 (i514 * 256)) < (body404.length : Int) then (if 0 ≤ (w64 (i514 * 256)) then (if (w64 (i514 * 256)) ≤ (w64 ((w64 (i514 + 1)) * 256)) then (if (w64 ((w64 (i514 + 1)) * 256)) ≤ (body404.length : Int) then (if (out508.length + ((body404.take (w64 ((w64 (i514 + 1)) * 256)).toNat).drop (w64 (i514 * 256)).toNat).length) * 1 ≤ 140737488355328 then ((frame_seal k i514 ((body404.take (w64 ((w64 (i514 + 1)) * 256)).toNat).drop (w64 (i514 * 256)).toNat)).bind fun vt545 => (if ((out508 ++ ((body404.take (w64 ((w64 (i514 + 1)) * 256)).toNat).drop (w64 (i514 * 256)).toNat)).length + vt545.length) * 1 ≤ 140737488355328 then (frame_Encode.l3 k body404 n_ ((out508 ++ ((body404.take (w64 ((w64 (i514 + 1)) * 256)).toNat).drop (w64 (i514 * 256)).toNat)) ++ vt545) (w64 (i514 + 1))) else none)) else none) else none) else none) else none) else (some out508)
def frame_Encode (k : Nat) (vf1 : S_Frame) : Option ((List Int) × Int) :=
  (frame_Check k vf1).bind fun vt18 => (if vt18 ≠ 0 then (some (([] : List Int), vt18)) else ((frame_Encode.l0 k vf1 k 1 0).bind fun size86 => ((frame_header k vf1 size86).bind fun vt92 => (if vt92.size ≤ 140737488355328 then ((frame_Encode.l1 k vf1 size86 k (sby vt92) 0).bind fun body300 => ((frame_Encode.l2 k k body300).bind fun body404 => ((frame_Encode.l3 k body404 k ([] : List Int) 0).bind fun out570 => (some (out570, 0))))) else none))))
def frame_Verify.l0 (k : Nat) (b1 : List Int) : Nat → (List Int) → Int → Option ((List Int))
  | 0, _, _ => none
  | n_ + 1, out39, i45 =>
    if (w64 (i45 * 260)) < (b1.length : Int) then (if 0 ≤ (w64 (i45 * 260)) then (if (w64 (i45 * 260)) ≤ (w64 ((w64 (i45 + 1)) * 260)) then (if (w64 ((w64 (i45 + 1)) * 260)) ≤ (b1.length : Int) then (if 256 ≤ (((b1.take (w64 ((w64 (i45 + 1)) * 260)).toNat).drop (w64 (i45 * 260)).toNat).length : Int) then ((frame_seal k i45 (((b1.take (w64 ((w64 (i45 + 1)) * 260)).toNat).drop (w64 (i45 * 260)).toNat).take (256 : Int).toNat)).bind fun vt77 => (if (!((bstr vt77).toList == (bstr (((b1.take (w64 ((w64 (i45 + 1)) * 260)).toNat).drop (w64 (i45 * 260)).toNat).drop (256 : Int).toNat)).toList)) = true then (if (out39.length + 1) * 8 ≤ 140737488355328 then (frame_Verify.l0 k b1 n_ (out39 ++ ([i45] : List Int)) (w64 (i45 + 1))) else none) else (frame_Verify.l0 k b1 n_ out39 (w64 (i45 + 1))))) else none) else none) else none) else none) else (some out39)
def frame_Verify (k : Nat) (b1 : List Int) : Option ((List Int) × Int) :=
  if (b1.length : Int) = 0 then (some (([] : List Int), 14)) else (if (Int.tmod (b1.length : Int) 260) ≠ 0 then (some (([] : List Int), 14)) else ((frame_Verify.l0 k b1 k ([] : List Int) 0).bind fun out143 => (some (out143, 0))))
def strings_TrimRight (k : Nat) (s : ByteArray) (p : ByteArray) : Option (ByteArray) :=
  (if s.size ≤ 9223372036854775807 then (if p.data.toList = [32] then some ((⟨(Go.Lib.trimRightB s.data.toList 32).toArray⟩ : ByteArray)) else none) else none)
def strings_Cut (k : Nat) (s : ByteArray) (p : ByteArray) : Option (ByteArray × ByteArray × Bool) :=
  (if s.size < 4294967281 then some ((⟨(Go.Lib.cut s.data.toList p.data.toList).1.toArray⟩ : ByteArray), (⟨(Go.Lib.cut s.data.toList p.data.toList).2.1.toArray⟩ : ByteArray), ((Go.Lib.cut s.data.toList p.data.toList).2.2 : Bool)) else none)
def strings_CutPrefix (k : Nat) (s : ByteArray) (p : ByteArray) : Option (ByteArray × Bool) :=
  some ((⟨(Go.Lib.trimPrefix s.data.toList p.data.toList).toArray⟩ : ByteArray), (Go.Lib.hasPrefix s.data.toList p.data.toList : Bool))
def strings_TrimPrefix (k : Nat) (s : ByteArray) (p : ByteArray) : Option (ByteArray) :=
  some ((⟨(Go.Lib.trimPrefix s.data.toList p.data.toList).toArray⟩ : ByteArray))
def frame_card (k : Nat) (s1 : ByteArray) : Option (S_Card × Bool) :=
  if (s1.size : Int) < 11 then (some ((⟨(⟨#[]⟩ : ByteArray), (⟨#[]⟩ : ByteArray), (⟨#[]⟩ : ByteArray), (⟨#[]⟩ : ByteArray)⟩ : S_Card), false)) else (if 10 ≤ (s1.size : Int) then (if (!((scut s1 8 10).toList == (⟨#[61, 32]⟩ : ByteArray).toList)) = true then (some ((⟨(⟨#[]⟩ : ByteArray), (⟨#[]⟩ : ByteArray), (⟨#[]⟩ : ByteArray), (⟨#[]⟩ : ByteArray)⟩ : S_Card), false)) else (if 8 ≤ (s1.size : Int) then ((strings_TrimRight k (scut s1 0 8) (⟨#[32]⟩ : ByteArray)).bind fun vt27 => ((strings_TrimRight k (scut s1 10 (s1.size : Int)) (⟨#[32]⟩ : ByteArray)).bind fun vt41 => ((strings_Cut k vt41 (⟨#[32]⟩ : ByteArray)).bind fun (vt49, vt50, vt51) => ((strings_CutPrefix k vt50 (⟨#[91]⟩ : ByteArray)).bind fun (vt63, vt64) => (if vt64 = true then ((strings_Cut k vt63 (⟨#[93]⟩ : ByteArray)).bind fun (vt76, vt77, vt78) => ((strings_TrimPrefix k vt77 (⟨#[32]⟩ : ByteArray)).bind fun vt88 => (if ¬ (vt78 = true) then (some ((⟨(⟨#[]⟩ : ByteArray), (⟨#[]⟩ : ByteArray), (⟨#[]⟩ : ByteArray), (⟨#[]⟩ : ByteArray)⟩ : S_Card), false)) else ((strings_TrimPrefix k vt88 (⟨#[47, 32]⟩ : ByteArray)).bind fun vt105 => (some ((⟨vt27, vt49, vt76, vt105⟩ : S_Card), true)))))) else ((strings_TrimPrefix k vt50 (⟨#[47, 32]⟩ : ByteArray)).bind fun vt120 => (some ((⟨vt27, vt49, (⟨#[]⟩ : ByteArray), vt120⟩ : S_Card), true)))))))) else none)) else none)
def strconv_Atoi (k : Nat) (s : ByteArray) : Option (Int) :=
  (if s.size ≤ 9223372036854775806 then (match Go.Lib.atoiAll s.data.toList with | .ok v_ => some v_ | _ => none) else none)
def frame_whole.l1 (k : Nat) (data5 : List Int) (x406 : Int) (vt192 : Int) : Nat → Int → Int → Option (Int)
  | 0, _, _ => none
  | n_ + 1, c457, x458 =>
    if x458 < (((data5.take (w64 ((w64 (x406 + 1)) * vt192)).toNat).drop (w64 (x406 * vt192)).toNat).length : Int) then (if 0 ≤ x458 then (frame_whole.l1 k data5 x406 vt192 n_ (Go.bits .or .i64 (w64 (c457 * 2 ^ 8)) (w64 ((rd ((data5.take (w64 ((w64 (x406 + 1)) * vt192)).toNat).drop (w64 (x406 * vt192)).toNat) x458)))) (w64 (x458 + 1))) else none) else (some c457)
def frame_whole.l0 (k : Nat) (vt68 : Int) (vt130 : Int) (vt192 : Int) (data5 : List Int) : Nat → Int → (List Int) → Option ((List Int))
  | 0, _, _ => none
  | n_ + 1, x406, x407 =>
    if x406 < (w64 (vt68 * vt130)) then (if 0 ≤ (w64 (x406 * vt192)) then (if (w64 (x406 * vt192)) ≤ (w64 ((w64 (x406 + 1)) * vt192)) then (if (w64 ((w64 (x406 + 1)) * vt192)) ≤ (data5.length : Int) then ((frame_whole.l1 k data5 x406 vt192 k 0 0).bind fun c488 => (if (x407.length + 1) * 8 ≤ 140737488355328 then (frame_whole.l0 k vt68 vt130 vt192 data5 n_ (w64 (x406 + 1)) (x407 ++ ([c488] : List Int))) else none)) else none) else none) else none) else (some x407)
def frame_whole (k : Nat) (cards1 : List S_Card) (data5 : List Int) : Option (S_Frame × Bool) :=
  if 0 ≥ (cards1.length : Int) then (some ((⟨0, 0, ([] : List S_Card), ([] : List Int)⟩ : S_Frame), false)) else (if 0 < (cards1.length : Int) then ((strconv_Atoi k ((rd cards1 0).Value)).bind fun vt68 => (if vt68 < 1 then (some ((⟨0, 0, ([] : List S_Card), ([] : List Int)⟩ : S_Frame), false)) else (if vt68 > 32 then (some ((⟨0, 0, ([] : List S_Card), ([] : List Int)⟩ : S_Frame), false)) else (if 1 ≥ (cards1.length : Int) then (some ((⟨0, 0, ([] : List S_Card), ([] : List Int)⟩ : S_Frame), false)) else (if 1 < (cards1.length : Int) then ((strconv_Atoi k ((rd cards1 1).Value)).bind fun vt130 => (if vt130 < 1 then (some ((⟨0, 0, ([] : List S_Card), ([] : List Int)⟩ : S_Frame), false)) else (if vt130 > 32 then (some ((⟨0, 0, ([] : List S_Card), ([] : List Int)⟩ : S_Frame), false)) else (if 2 ≥ (cards1.length : Int) then (some ((⟨0, 0, ([] : List S_Card), ([] : List Int)⟩ : S_Frame), false)) else (if 2 < (cards1.length : Int) then ((strconv_Atoi k ((rd cards1 2).Value)).bind fun vt192 => (if vt192 < 1 then (some ((⟨0, 0, ([] : List S_Card), ([] : List Int)⟩ : S_Frame), false)) else (if vt192 > 32 then (some ((⟨0, 0, ([] : List S_Card), ([] : List Int)⟩ : S_Frame), false)) else (if 3 ≤ (cards1.length : Int) then (if vt192 > 2 then (some ((⟨0, 0, ([] : List S_Card), ([] : List Int)⟩ : S_Frame), false)) else (if (data5.length : Int) < (w64 ((w64 (vt68 * vt130)) * vt192)) then (some ((⟨0, 0, ([] : List S_Card), ([] : List Int)⟩ : S_Frame), false)) else ((frame_whole.l0 k vt68 vt130 vt192 data5 k 0 ([] : List Int)).bind fun x515 => (some ((⟨vt68, vt130, (cards1.drop (3 : Int).toNat), x515⟩ : S_Frame), true))))) else none)))) else none))))) else none))))) else none)
def frame_Decode.l0 (k : Nat) (b1 : List Int) : Nat → (List Int) → Int → Option ((List Int))
  | 0, _, _ => none
  | n_ + 1, body73, i79 =>
    if i79 < (b1.length : Int) then (if 0 ≤ i79 then (if i79 ≤ (w64 (i79 + 256)) then (if (w64 (i79 + 256)) ≤ (b1.length : Int) then (if (body73.length + ((b1.take (w64 (i79 + 256)).toNat).drop (i79).toNat).length) * 1 ≤ 140737488355328 then (frame_Decode.l0 k b1 n_ (body73 ++ ((b1.take (w64 (i79 + 256)).toNat).drop (i79).toNat)) (w64 (i79 + 260))) else none) else none) else none) else none) else (some body73)
def frame_Decode.l1 (k : Nat) (body113 : List Int) : Nat → (List S_Card) → Int → Option (Sum (S_Frame × Int) ((List S_Card) × Int))
  | 0, _, _ => none
  | n_ + 1, cards248, vat254 =>
    if vat254 < (body113.length : Int) then (if 0 ≤ vat254 then (if vat254 ≤ (w64 (vat254 + 64)) then (if (w64 (vat254 + 64)) ≤ (body113.length : Int) then ((strings_TrimRight k (bstr ((body113.take (w64 (vat254 + 64)).toNat).drop (vat254).toNat)) (⟨#[32]⟩ : ByteArray)).bind fun vt266 => (if (!(vt266.toList == (⟨#[69, 78, 68]⟩ : ByteArray).toList)) = true then ((frame_card k (bstr ((body113.take (w64 (vat254 + 64)).toNat).drop (vat254).toNat))).bind fun (vt288, vt289) => (if ¬ (vt289 = true) then (some (Sum.inl ((⟨0, 0, ([] : List S_Card), ([] : List Int)⟩ : S_Frame), 3))) else (if (cards248.length : Int) > 31 then (some (Sum.inl ((⟨0, 0, ([] : List S_Card), ([] : List Int)⟩ : S_Frame), 3))) else (if (cards248.length + 1) * 64 ≤ 140737488355328 then (frame_Decode.l1 k body113 n_ (cards248 ++ ([vt288] : List S_Card)) (w64 (vat254 + 64))) else none)))) else (some (Sum.inr (cards248, vat254))))) else none) else none) else none) else (some (Sum.inr (cards248, vat254)))
def frame_Decode (k : Nat) (b1 : List Int) : Option (S_Frame × Int) :=
  (frame_Verify k b1).bind fun (vt13, vt14) => (if vt14 ≠ 0 then (some ((⟨0, 0, ([] : List S_Card), ([] : List Int)⟩ : S_Frame), vt14)) else (if (vt13.length : Int) > 0 then (some ((⟨0, 0, ([] : List S_Card), ([] : List Int)⟩ : S_Frame), 13)) else ((frame_Decode.l0 k b1 k ([] : List Int) 0).bind fun body113 => ((frame_Decode.l1 k body113 k ([] : List S_Card) 0).bind fun z_ => Sum.elim (fun y_ => some y_) (fun (cards338, vat344) => (if 0 ≤ (mn (body113.length : Int) (w64 ((w64 ((w64 (Int.tdiv vat344 256)) + 1)) * 256))) then (if (mn (body113.length : Int) (w64 ((w64 ((w64 (Int.tdiv vat344 256)) + 1)) * 256))) ≤ (body113.length : Int) then ((frame_whole k cards338 (body113.drop (mn (body113.length : Int) (w64 ((w64 ((w64 (Int.tdiv vat344 256)) + 1)) * 256))).toNat)).bind fun (vt367, vt368) => (if ¬ (vt368 = true) then (some ((⟨0, 0, ([] : List S_Card), ([] : List Int)⟩ : S_Frame), 3)) else ((frame_Encode k vt367).bind fun (vt409, vt410) => (if vt410 ≠ 0 then (some ((⟨0, 0, ([] : List S_Card), ([] : List Int)⟩ : S_Frame), 3)) else (if (!((bstr vt409).toList == (bstr b1).toList)) = true then (some ((⟨0, 0, ([] : List S_Card), ([] : List Int)⟩ : S_Frame), 3)) else (some (vt367, 0))))))) else none) else none)) z_))))
def strconv_ParseInt (k : Nat) (s : ByteArray) (b : Int) (n : Int) : Option (Int) :=
  (if b = 10 then (if n = 64 then (if s.size ≤ 9223372036854775806 then (match Go.Lib.parseIntB 64 s.data.toList with | .ok v_ => some v_ | _ => none) else none) else none) else none)
def frame_unit (k : Nat) (s1 : ByteArray) : Option (ByteArray × Int) :=
  if (s1.toList == (⟨#[116, 105, 99, 107]⟩ : ByteArray).toList) = true then (some ((⟨#[116, 105, 109, 101]⟩ : ByteArray), 1)) else (((if (s1.toList == (⟨#[98, 101, 97, 116]⟩ : ByteArray).toList) = true then (some (s1.toList == (⟨#[98, 101, 97, 116]⟩ : ByteArray).toList)) else (some (s1.toList == (⟨#[115, 101, 99, 111, 110, 100]⟩ : ByteArray).toList)) : Option (Bool))).bind fun x32 => (if x32 = true then (some ((⟨#[116, 105, 109, 101]⟩ : ByteArray), 1000)) else (if (s1.toList == (⟨#[109, 105, 110, 117, 116, 101]⟩ : ByteArray).toList) = true then (some ((⟨#[116, 105, 109, 101]⟩ : ByteArray), 60000)) else (if (s1.toList == (⟨#[104, 111, 117, 114]⟩ : ByteArray).toList) = true then (some ((⟨#[116, 105, 109, 101]⟩ : ByteArray), 3600000)) else (if (s1.toList == (⟨#[100, 97, 121]⟩ : ByteArray).toList) = true then (some ((⟨#[116, 105, 109, 101]⟩ : ByteArray), 86400000)) else (if (s1.toList == (⟨#[115, 117, 98]⟩ : ByteArray).toList) = true then (some ((⟨#[108, 101, 110, 103, 116, 104]⟩ : ByteArray), 1)) else (if (s1.toList == (⟨#[99, 101, 108, 108]⟩ : ByteArray).toList) = true then (some ((⟨#[108, 101, 110, 103, 116, 104]⟩ : ByteArray), 256)) else (if (s1.toList == (⟨#[97, 114, 99]⟩ : ByteArray).toList) = true then (some ((⟨#[97, 110, 103, 108, 101]⟩ : ByteArray), 1)) else (if (s1.toList == (⟨#[116, 117, 114, 110]⟩ : ByteArray).toList) = true then (some ((⟨#[97, 110, 103, 108, 101]⟩ : ByteArray), 4294967296)) else (some ((⟨#[]⟩ : ByteArray), 0)))))))))))
def num_size (k : Nat) (a1 : Int) : Option (Int) :=
  if a1 < 0 then (some (u64 (0 - (u64 (a1))))) else (some (u64 (a1)))
def bits_Mul64 (k : Nat) (x1 : Int) (y2 : Int) : Option (Int × Int) :=
  some (u64 ((u64 ((u64 ((shr x1 32) * (shr y2 32))) + (shr (u64 ((u64 ((shr x1 32) * (Go.bits .and .u64 y2 4294967295))) + (shr (u64 ((Go.bits .and .u64 x1 4294967295) * (Go.bits .and .u64 y2 4294967295))) 32))) 32))) + (shr (u64 ((Go.bits .and .u64 (u64 ((u64 ((shr x1 32) * (Go.bits .and .u64 y2 4294967295))) + (shr (u64 ((Go.bits .and .u64 x1 4294967295) * (Go.bits .and .u64 y2 4294967295))) 32))) 4294967295) + (u64 ((Go.bits .and .u64 x1 4294967295) * (shr y2 32))))) 32)), u64 (x1 * y2))
def num_Wide_Neg (k : Nat) (vw1 : S_Wide) : Option (S_Wide) :=
  if 0 ≤ (Go.bits .xor .u64 IntKind.u64.max vw1.Lo) then (if 0 ≤ (Go.bits .xor .u64 IntKind.u64.max (u64 (vw1.Hi))) then (if 0 ≤ (((Go.bits .xor .u64 IntKind.u64.max vw1.Lo) + 1 + 0) / 18446744073709551616) then (if (((Go.bits .xor .u64 IntKind.u64.max vw1.Lo) + 1 + 0) / 18446744073709551616) ≤ 1 then (some (⟨w64 (((Go.bits .xor .u64 IntKind.u64.max (u64 (vw1.Hi))) + 0 + (((Go.bits .xor .u64 IntKind.u64.max vw1.Lo) + 1 + 0) / 18446744073709551616)) % 18446744073709551616), ((Go.bits .xor .u64 IntKind.u64.max vw1.Lo) + 1 + 0) % 18446744073709551616⟩ : S_Wide)) else none) else none) else none) else none
def num_Product (k : Nat) (a1 : Int) (b2 : Int) : Option (S_Wide) :=
  (num_size k a1).bind fun vt11 => ((num_size k b2).bind fun vt17 => ((bits_Mul64 k vt11 vt17).bind fun (vt23, vt24) => (if ((decide (a1 < 0)) != (decide (b2 < 0))) = true then ((num_Wide_Neg k (⟨w64 (vt23), vt24⟩ : S_Wide)).bind fun vt46 => (some vt46)) else (some (⟨w64 (vt23), vt24⟩ : S_Wide)))))
def num_Mul (k : Nat) (a1 : Int) (b2 : Int) : Option (Int × Bool) :=
  (num_Product k a1 b2).bind fun vt7 => (if vt7.Hi ≠ (shr (w64 (vt7.Lo)) 63) then (some (0, false)) else (some (w64 (vt7.Lo), true)))
def frame_Number (k : Nat) (vf1 : S_Frame) (key8 : ByteArray) (vto9 : ByteArray) : Option (Int × Int) :=
  (frame_Get k vf1 key8).bind fun (vt18, vt19) => (if ¬ (vt19 = true) then (some (0, 8)) else ((strconv_ParseInt k vt18.Value 10 64).bind fun vt41 => ((strconv_FormatInt k vt41 10).bind fun vt53 => (if (!(vt53.toList == vt18.Value.toList)) = true then (some (0, 5)) else (if (vt18.Unit.toList == vto9.toList) = true then (some (vt41, 0)) else ((frame_unit k vt18.Unit).bind fun (vt73, vt74) => ((frame_unit k vto9).bind fun (vt82, vt83) => (if (vt73.toList == (⟨#[]⟩ : ByteArray).toList) = true then (some (0, 12)) else (if (!(vt73.toList == vt82.toList)) = true then (some (0, 12)) else ((num_Mul k vt41 vt74).bind fun (vt102, vt103) => (if ¬ (vt103 = true) then (some (0, 2)) else (if ¬ (vt83 = 0) then (if (Int.tmod vt102 vt83) ≠ 0 then (some (0, 3)) else (some (w64 (Int.tdiv vt102 vt83), 0))) else none))))))))))))
def spykeep3_filed (k : Nat) : Option (Bool) :=
  (frame_Encode k (⟨1, 1, ([(⟨(⟨#[65]⟩ : ByteArray), (⟨#[51]⟩ : ByteArray), (⟨#[98, 101, 97, 116]⟩ : ByteArray), (⟨#[]⟩ : ByteArray)⟩ : S_Card)] : List S_Card), ([9] : List Int)⟩ : S_Frame)).bind fun (vt37, vt38) => ((frame_Decode k vt37).bind fun (vt62, vt63) => ((frame_Number k vt62 (⟨#[65]⟩ : ByteArray) (⟨#[116, 105, 99, 107]⟩ : ByteArray)).bind fun (vt91, vt92) => (if vt38 = 0 then (if vt63 = 0 then (if vt92 = 0 then (if vt91 = 3000 then (some ((vt37.length : Int) == 780)) else (some false)) else (some false)) else (some false)) else (some false))))
def slices_Equal_int.l0 (k : Nat) (s11 : List Int) (s25 : List Int) : Nat → Int → Option (Sum Bool Unit)
  | 0, _ => none
  | n_ + 1, x38 =>
    if x38 < (s11.length : Int) then (if 0 ≤ x38 then (if x38 < (s25.length : Int) then (if (rd s11 x38) ≠ (rd s25 x38) then (some (Sum.inl false)) else (slices_Equal_int.l0 k s11 s25 n_ (w64 (x38 + 1)))) else none) else none) else (some (Sum.inr ()))
def slices_Equal_int (k : Nat) (s11 : List Int) (s25 : List Int) : Option (Bool) :=
  if (s11.length : Int) ≠ (s25.length : Int) then (some false) else ((slices_Equal_int.l0 k s11 s25 k 0).bind fun z_ => Sum.elim (fun y_ => some y_) (fun _ => (some true)) z_)
def spykeep3_FrameSets.l0 (k : Nat) (vt15 : S_Frame) (vt1694 : S_Frame) (vt46 : Int) : Nat → Int → Option (Sum Bool Unit)
  | 0, _ => none
  | n_ + 1, x1813 =>
    if x1813 < (vt15.Cards.length : Int) then (if 0 ≤ x1813 then ((frame_Get k vt1694 ((rd vt15.Cards x1813).Key)).bind fun (vt1858, vt1859) => (if (!(((rd vt15.Cards x1813).Key).toList == (rd ([(⟨#[75, 73, 78, 68]⟩ : ByteArray), (⟨#[78, 85, 77, 66, 69, 82]⟩ : ByteArray), (⟨#[78, 69, 87]⟩ : ByteArray), (⟨#[88, 48]⟩ : ByteArray)] : List ByteArray) vt46).toList)) = true then (if ¬ (vt1859 = true) then (some (Sum.inl false)) else (if (!((vt1858.Key.toList == ((rd vt15.Cards x1813).Key).toList) && ((vt1858.Value.toList == ((rd vt15.Cards x1813).Value).toList) && ((vt1858.Unit.toList == ((rd vt15.Cards x1813).Unit).toList) && ((vt1858.Note.toList == ((rd vt15.Cards x1813).Note).toList) && true))))) = true then (some (Sum.inl false)) else (spykeep3_FrameSets.l0 k vt15 vt1694 vt46 n_ (w64 (x1813 + 1))))) else (spykeep3_FrameSets.l0 k vt15 vt1694 vt46 n_ (w64 (x1813 + 1))))) else none) else (some (Sum.inr ()))
def spykeep3_FrameSets (k : Nat) (l1 : List Int) (vk5 : Int) (value6 : Int) : Option (Bool) :=
  (spykeep3_noted k (⟨l1, 0⟩ : S_Stream)).bind fun (vt15, vt16) => ((spymake_Below k vk5 4).bind fun vt46 => (if 0 ≤ vt46 then (if vt46 < (([(⟨#[75, 73, 78, 68]⟩ : ByteArray), (⟨#[78, 85, 77, 66, 69, 82]⟩ : ByteArray), (⟨#[78, 69, 87]⟩ : ByteArray), (⟨#[88, 48]⟩ : ByteArray)] : List ByteArray).length : Int) then ((spymake_Below k value6 3).bind fun vt83 => (if 0 ≤ vt83 then (if vt83 < (([(⟨#[97]⟩ : ByteArray), (⟨#[55]⟩ : ByteArray), (⟨#[91, 120, 93]⟩ : ByteArray)] : List ByteArray).length : Int) then ((frame_Set k vt15 (⟨(rd ([(⟨#[75, 73, 78, 68]⟩ : ByteArray), (⟨#[78, 85, 77, 66, 69, 82]⟩ : ByteArray), (⟨#[78, 69, 87]⟩ : ByteArray), (⟨#[88, 48]⟩ : ByteArray)] : List ByteArray) vt46), (rd ([(⟨#[97]⟩ : ByteArray), (⟨#[55]⟩ : ByteArray), (⟨#[91, 120, 93]⟩ : ByteArray)] : List ByteArray) vt83), (⟨#[]⟩ : ByteArray), (⟨#[]⟩ : ByteArray)⟩ : S_Card)).bind fun (vt1694, vt1695) => ((frame_Get k vt1694 (rd ([(⟨#[75, 73, 78, 68]⟩ : ByteArray), (⟨#[78, 85, 77, 66, 69, 82]⟩ : ByteArray), (⟨#[78, 69, 87]⟩ : ByteArray), (⟨#[88, 48]⟩ : ByteArray)] : List ByteArray) vt46)).bind fun (vt1734, vt1735) => ((spykeep3_filed k).bind fun vt1757 => (if ¬ (vt1757 = true) then (some false) else (if vt1695 ≠ 0 then (some false) else (if ¬ (vt1735 = true) then (some false) else (if (!((vt1734.Key.toList == (rd ([(⟨#[75, 73, 78, 68]⟩ : ByteArray), (⟨#[78, 85, 77, 66, 69, 82]⟩ : ByteArray), (⟨#[78, 69, 87]⟩ : ByteArray), (⟨#[88, 48]⟩ : ByteArray)] : List ByteArray) vt46).toList) && ((vt1734.Value.toList == (rd ([(⟨#[97]⟩ : ByteArray), (⟨#[55]⟩ : ByteArray), (⟨#[91, 120, 93]⟩ : ByteArray)] : List ByteArray) vt83).toList) && ((vt1734.Unit.toList == (⟨#[]⟩ : ByteArray).toList) && ((vt1734.Note.toList == (⟨#[]⟩ : ByteArray).toList) && true))))) = true then (some false) else ((slices_Equal_int k vt15.Counts vt1694.Counts).bind fun vt1781 => (if ¬ (vt1781 = true) then (some false) else ((spykeep3_FrameSets.l0 k vt15 vt1694 vt46 k 0).bind fun z_ => Sum.elim (fun y_ => some y_) (fun _ => ((frame_Get k vt15 (rd ([(⟨#[75, 73, 78, 68]⟩ : ByteArray), (⟨#[78, 85, 77, 66, 69, 82]⟩ : ByteArray), (⟨#[78, 69, 87]⟩ : ByteArray), (⟨#[88, 48]⟩ : ByteArray)] : List ByteArray) vt46)).bind fun (vt1932, vt1933) => (if vt1933 = true then (if (vt1694.Cards.length : Int) = (vt15.Cards.length : Int) then (some true) else (some false)) else (some ((vt1694.Cards.length : Int) == (w64 ((vt15.Cards.length : Int) + 1))))))) z_)))))))))) else none) else none)) else none) else none))
end Go.Sp.T6
