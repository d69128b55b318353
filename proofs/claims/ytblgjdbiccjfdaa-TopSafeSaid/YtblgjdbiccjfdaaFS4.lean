/- A text of this claim. -/
import Derived.Test.YtblgjdbiccjfdaaSpNone
import Derived.Test.YtblgjdbiccjfdaaSpCopy
namespace Go.Sp.S4
open Go Go.Sp
set_option linter.unusedVariables false
structure S_Stream where
  L : List Int
  vat : Int
instance : Inhabited S_Stream := ⟨⟨default, default⟩⟩
structure S_Axis where
  Min : Int
  Max : Int
  Speed : Int
  Accel : Int
instance : Inhabited S_Axis := ⟨⟨default, default, default, default⟩⟩
structure S_Pose where
  Az : Int
  Alt : Int
instance : Inhabited S_Pose := ⟨⟨default, default⟩⟩
structure S_Mount where
  Az : S_Axis
  Alt : S_Axis
  Park : S_Pose
instance : Inhabited S_Mount := ⟨⟨default, default, default⟩⟩
structure S_Cmd where
  Op : Int
  Arg : Int
  Due : Int
instance : Inhabited S_Cmd := ⟨⟨default, default, default⟩⟩
structure S_Fate where
  Lost : Bool
  Delay : Int
  Twice : Int
  Bits : List Int
instance : Inhabited S_Fate := ⟨⟨default, default, default, default⟩⟩
structure S_Exec where
  Cmd : Int
  At : Int
instance : Inhabited S_Exec := ⟨⟨default, default⟩⟩
structure S_Log where
  Execs : List S_Exec
  Reports : List Int
  At : List Int
  Sent : Int
  Heard : Int
instance : Inhabited S_Log := ⟨⟨default, default, default, default, default⟩⟩
structure S_parcel where
  vat : Int
  bytes : List Int
instance : Inhabited S_parcel := ⟨⟨default, default⟩⟩
structure S_line where
  fates : List S_Fate
  way : List S_parcel
  count : Int
instance : Inhabited S_line := ⟨⟨default, default, default⟩⟩
structure S_Packet where
  Addr : Int
  Kind : Int
  Seq : Int
  Data : List Int
instance : Inhabited S_Packet := ⟨⟨default, default, default, default⟩⟩
structure S_Reader where
  body : List Int
  escape : Bool
  skip : Bool
  vopen : Bool
  Bad : Int
instance : Inhabited S_Reader := ⟨⟨default, default, default, default, default⟩⟩
structure S_device where
  last : Int
  did : Bool
  log : List S_Exec
instance : Inhabited S_device := ⟨⟨default, default, default⟩⟩
structure S_controller where
  l : List S_Cmd
  now : Int
  first : Int
  log : Unit
instance : Inhabited S_controller := ⟨⟨default, default, default, default⟩⟩
structure S_State where
  At : Int
  Speed : Int
  Goal : Int
  Halt : Bool
instance : Inhabited S_State := ⟨⟨default, default, default, default⟩⟩
structure S_State2 where
  Az : S_State
  Alt : S_State
  Mode : Int
instance : Inhabited S_State2 := ⟨⟨default, default, default⟩⟩
structure S_State3 where
  Shutter : Int
  Cover : Int
  Open : Bool
  Lift : Bool
  Turn : S_State
instance : Inhabited S_State3 := ⟨⟨default, default, default, default, default⟩⟩
structure S_State4 where
  Mode : Int
  Left : Int
  Beats : Int
  Number : Int
instance : Inhabited S_State4 := ⟨⟨default, default, default, default⟩⟩
structure S_Sensors where
  Rain : Bool
  Wind : Bool
  Day : Bool
  Power : Bool
  Key : Bool
instance : Inhabited S_Sensors := ⟨⟨default, default, default, default, default⟩⟩
structure S_World where
  Mount : S_State2
  Dome : S_State3
  Camera : S_State4
  Sensors : S_Sensors
  Aim : S_Pose
  Mode : Int
  Hazard : Int
  Key : Int
instance : Inhabited S_World := ⟨⟨default, default, default, default, default, default, default, default⟩⟩
structure S_Order where
  Kind : Int
  Arg : Int
instance : Inhabited S_Order := ⟨⟨default, default⟩⟩
structure S_Input where
  Orders : List S_Order
  Sensors : S_Sensors
instance : Inhabited S_Input := ⟨⟨default, default⟩⟩
def spymake_Below (k : Nat) (x1 : Int) (n2 : Int) : Option (Int) :=
  if n2 < 1 then (some 0) else (if ¬ (n2 = 0) then (if (Int.tmod x1 n2) < 0 then (some (w64 ((Int.tmod x1 n2) + n2))) else (some (Int.tmod x1 n2))) else none)
def spymake_Stream_Next (k : Nat) (s3 : S_Stream) (n7 : Int) : Option (Int × Int) :=
  if (s3.L.length : Int) = 0 then ((spymake_Below k (w64 ((w64 (s3.vat + 1)) * 7919)) n7).bind fun vt22 => (some (vt22, w64 (s3.vat + 1)))) else (if ¬ ((s3.L.length : Int) = 0) then (if 0 ≤ (Int.tmod (w64 ((w64 (s3.vat + 1)) - 1)) (s3.L.length : Int)) then (if (Int.tmod (w64 ((w64 (s3.vat + 1)) - 1)) (s3.L.length : Int)) < (s3.L.length : Int) then ((spymake_Below k (rd s3.L (Int.tmod (w64 ((w64 (s3.vat + 1)) - 1)) (s3.L.length : Int))) 1073741824).bind fun vt61 => ((spymake_Below k (w64 (vt61 + (w64 ((w64 (Int.tdiv (w64 ((w64 (s3.vat + 1)) - 1)) (s3.L.length : Int))) * (w64 (7919 + (Int.tmod (w64 ((w64 (s3.vat + 1)) - 1)) (s3.L.length : Int)))))))) n7).bind fun vt67 => (some (vt67, w64 (s3.vat + 1))))) else none) else none) else none)
def spymake_Stream_Range (k : Nat) (s3 : S_Stream) (low7 : Int) (high8 : Int) : Option (Int × Int) :=
  if high8 < low7 then (some (low7, s3.vat)) else ((spymake_Stream_Next k s3 (w64 ((w64 (high8 - low7)) + 1))).bind fun (vt21, vt22) => (some (w64 (low7 + vt21), vt22)))
def spymake_Stream_Axis (k : Nat) (s3 : S_Stream) : Option (S_Axis × Int) :=
  (spymake_Stream_Range k s3 24 30).bind fun (vt16, vt17) => (if ¬ (vt16 < 0) then ((spymake_Stream_Range k (⟨s3.L, vt17⟩ : S_Stream) 1 8).bind fun (vt26, vt27) => (if ¬ (vt26 = 0) then ((spymake_Stream_Next k (⟨s3.L, vt27⟩ : S_Stream) 3).bind fun (vt38, vt39) => (((if vt38 = 0 then ((spymake_Stream_Next k (⟨s3.L, vt39⟩ : S_Stream) 1000).bind fun (vt49, vt50) => ((spymake_Stream_Next k (⟨s3.L, vt50⟩ : S_Stream) 1000).bind fun (vt56, vt57) => (some ((w64 ((w64 (1 * 2 ^ (min (vt16).toNat 64))) - (w64 (vt49 * (mn 1 (shr (w64 ((w64 (1 * 2 ^ (min (vt16).toNat 64))) - 16777216)) 10)))))), (mn (w64 ((w64 (Int.tdiv (w64 (1 * 2 ^ (min (vt16).toNat 64))) vt26)) + vt56)) (w64 ((w64 (1 * 2 ^ (min (vt16).toNat 64))) - (w64 (vt49 * (mn 1 (shr (w64 ((w64 (1 * 2 ^ (min (vt16).toNat 64))) - 16777216)) 10))))))), vt57)))) else (some ((w64 (1 * 2 ^ (min (vt16).toNat 64))), (w64 (Int.tdiv (w64 (1 * 2 ^ (min (vt16).toNat 64))) vt26)), vt39)) : Option (Int × Int × Int))).bind fun (speed68, accel69, x70) => ((spymake_Stream_Range k (⟨s3.L, x70⟩ : S_Stream) 0 6).bind fun (vt76, vt77) => ((spymake_Stream_Range k (⟨s3.L, vt77⟩ : S_Stream) 1 6).bind fun (vt83, vt84) => ((spymake_Stream_Next k (⟨s3.L, vt84⟩ : S_Stream) 4).bind fun (vt94, vt95) => (if vt94 = 0 then ((spymake_Stream_Next k (⟨s3.L, vt95⟩ : S_Stream) 1048576).bind fun (vt103, vt104) => ((spymake_Stream_Next k (⟨s3.L, vt104⟩ : S_Stream) 1048576).bind fun (vt110, vt111) => (some ((⟨w64 ((w64 ((w64 (0 - vt76)) * 1073741824)) + vt103), w64 ((w64 (vt83 * 1073741824)) - vt110), speed68, accel69⟩ : S_Axis), vt111)))) else (some ((⟨w64 ((w64 (0 - vt76)) * 1073741824), w64 (vt83 * 1073741824), speed68, accel69⟩ : S_Axis), vt95)))))))) else none)) else none)
def spymake_Stream_Inside (k : Nat) (s3 : S_Stream) (a7 : S_Axis) : Option (Int × Int) :=
  (spymake_Stream_Next k s3 6).bind fun (vt19, vt20) => (if vt19 = 0 then (some (a7.Min, vt20)) else (if vt19 = 1 then (some (a7.Max, vt20)) else ((spymake_Stream_Next k (⟨s3.L, vt20⟩ : S_Stream) 1000).bind fun (vt56, vt57) => ((spymake_Stream_Next k (⟨s3.L, vt57⟩ : S_Stream) (w64 ((w64 (Int.tdiv (w64 (a7.Max - a7.Min)) 1000)) + 1))).bind fun (vt65, vt66) => (some (w64 ((w64 (a7.Min + (w64 ((w64 (Int.tdiv (w64 (a7.Max - a7.Min)) 1000)) * vt56)))) + vt65), vt66))))))
def spymake_Stream_Mount (k : Nat) (s3 : S_Stream) : Option (S_Mount × Int) :=
  (spymake_Stream_Axis k s3).bind fun (vt16, vt17) => ((spymake_Stream_Axis k (⟨s3.L, vt17⟩ : S_Stream)).bind fun (vt23, vt24) => ((spymake_Stream_Next k (⟨s3.L, vt24⟩ : S_Stream) 3).bind fun (vt41, vt42) => (((if vt41 > 0 then (some ((-6442450944), 6442450944)) else (some (vt16.Min, vt16.Max)) : Option (Int × Int))).bind fun (x60, x61) => ((spymake_Stream_Next k (⟨s3.L, vt42⟩ : S_Stream) 3).bind fun (vt72, vt73) => (((if vt72 > 0 then (some ((-1073741824), 1073741824)) else (some (vt23.Min, vt23.Max)) : Option (Int × Int))).bind fun (x91, x92) => ((spymake_Stream_Inside k (⟨s3.L, vt73⟩ : S_Stream) (⟨x60, x61, vt16.Speed, vt16.Accel⟩ : S_Axis)).bind fun (vt110, vt111) => ((spymake_Stream_Inside k (⟨s3.L, vt111⟩ : S_Stream) (⟨x91, x92, vt23.Speed, vt23.Accel⟩ : S_Axis)).bind fun (vt118, vt119) => (some ((⟨(⟨x60, x61, vt16.Speed, vt16.Accel⟩ : S_Axis), (⟨x91, x92, vt23.Speed, vt23.Accel⟩ : S_Axis), (⟨vt110, vt118⟩ : S_Pose)⟩ : S_Mount), vt119)))))))))
def spytop_h1orders.l0 (k : Nat) (vt35 : Int) (s3 : S_Stream) (m7 : S_Mount) : Nat → (List S_Cmd) → Int → Int → Option ((List S_Cmd) × Int)
  | 0, _, _, _ => none
  | n_ + 1, l232, x237, x238 =>
    if x237 < vt35 then ((spymake_Stream_Next k (⟨s3.L, x238⟩ : S_Stream) 14).bind fun (vt256, vt257) => (((if vt256 = 0 then (some (vt256 == 0)) else (some (vt256 == 8)) : Option (Bool))).bind fun x293 => (if x293 = true then ((spymake_Stream_Inside k (⟨s3.L, vt257⟩ : S_Stream) m7.Az).bind fun (vt300, vt301) => (if (l232.length + 1) * 24 ≤ 140737488355328 then (spytop_h1orders.l0 k vt35 s3 m7 n_ (l232 ++ ([(⟨vt256, vt300, 0⟩ : S_Cmd)] : List S_Cmd)) (w64 (x237 + 1)) vt301) else none)) else (if vt256 = 1 then ((spymake_Stream_Inside k (⟨s3.L, vt257⟩ : S_Stream) m7.Alt).bind fun (vt315, vt316) => (if (l232.length + 1) * 24 ≤ 140737488355328 then (spytop_h1orders.l0 k vt35 s3 m7 n_ (l232 ++ ([(⟨vt256, vt315, 0⟩ : S_Cmd)] : List S_Cmd)) (w64 (x237 + 1)) vt316) else none)) else (if vt256 = 9 then ((spymake_Stream_Range k (⟨s3.L, vt257⟩ : S_Stream) 1 9).bind fun (vt330, vt331) => (if (l232.length + 1) * 24 ≤ 140737488355328 then (spytop_h1orders.l0 k vt35 s3 m7 n_ (l232 ++ ([(⟨vt256, vt330, 0⟩ : S_Cmd)] : List S_Cmd)) (w64 (x237 + 1)) vt331) else none)) else (if (l232.length + 1) * 24 ≤ 140737488355328 then (spytop_h1orders.l0 k vt35 s3 m7 n_ (l232 ++ ([(⟨vt256, 0, 0⟩ : S_Cmd)] : List S_Cmd)) (w64 (x237 + 1)) vt257) else none)))))) else (some (l232, x238))
def spytop_h1orders.l1 (k : Nat) (l405 : List S_Cmd) (s3 : S_Stream) : Nat → (List S_Cmd) → Int → Int → Int → Option ((List S_Cmd) × Int)
  | 0, _, _, _, _ => none
  | n_ + 1, l504, due508, x509, x510 =>
    if x509 < (l405.length : Int) then ((spymake_Stream_Next k (⟨s3.L, x510⟩ : S_Stream) 24).bind fun (vt530, vt531) => (if 0 ≤ x509 then (if x509 < (l504.length : Int) then (spytop_h1orders.l1 k l405 s3 n_ (l504.set (x509).toNat (⟨(rd l504 x509).Op, (rd l504 x509).Arg, w64 (due508 + vt530)⟩ : S_Cmd)) (w64 (due508 + vt530)) (w64 (x509 + 1)) vt531) else none) else none)) else (some (l504, x510))
def spytop_h1orders (k : Nat) (s3 : S_Stream) (m7 : S_Mount) : Option ((List S_Cmd) × Int) :=
  (spymake_Stream_Inside k s3 m7.Az).bind fun (vt17, vt18) => ((spymake_Stream_Next k (⟨s3.L, vt18⟩ : S_Stream) 10).bind fun (vt35, vt36) => ((spytop_h1orders.l0 k vt35 s3 m7 k ([(⟨13, 0, 0⟩ : S_Cmd), (⟨6, 0, 0⟩ : S_Cmd), (⟨0, vt17, 0⟩ : S_Cmd), (⟨2, 0, 0⟩ : S_Cmd)] : List S_Cmd) 0 vt36).bind fun (l405, x410) => ((spytop_h1orders.l1 k l405 s3 k l405 0 0 x410).bind fun (l555, x559) => (some (l555, x559)))))
def spytop_h1fates.l0 (k : Nat) (vt15 : Int) (s3 : S_Stream) : Nat → (List S_Fate) → Int → Int → Option ((List S_Fate) × Int)
  | 0, _, _, _ => none
  | n_ + 1, out223, x229, x230 =>
    if x229 < vt15 then ((spymake_Stream_Range k (⟨s3.L, x230⟩ : S_Stream) 1 8).bind fun (vt249, vt250) => ((spymake_Stream_Next k (⟨s3.L, vt250⟩ : S_Stream) 4).bind fun (vt267, vt268) => (if vt267 = 0 then (if (out223.length + 1) * 48 ≤ 140737488355328 then (spytop_h1fates.l0 k vt15 s3 n_ (out223 ++ ([(⟨true, 0, 0, ([] : List Int)⟩ : S_Fate)] : List S_Fate)) (w64 (x229 + 1)) vt268) else none) else (if vt267 = 1 then ((spymake_Stream_Range k (⟨s3.L, vt268⟩ : S_Stream) 1 8).bind fun (vt292, vt293) => (if (out223.length + 1) * 48 ≤ 140737488355328 then (spytop_h1fates.l0 k vt15 s3 n_ (out223 ++ ([(⟨false, vt249, vt292, ([] : List Int)⟩ : S_Fate)] : List S_Fate)) (w64 (x229 + 1)) vt293) else none)) else (if vt267 = 2 then ((spymake_Stream_Next k (⟨s3.L, vt268⟩ : S_Stream) 40).bind fun (vt306, vt307) => ((spymake_Stream_Next k (⟨s3.L, vt307⟩ : S_Stream) 80).bind fun (vt313, vt314) => ((spymake_Stream_Next k (⟨s3.L, vt314⟩ : S_Stream) 9).bind fun (vt320, vt321) => (if (out223.length + 1) * 48 ≤ 140737488355328 then (spytop_h1fates.l0 k vt15 s3 n_ (out223 ++ ([(⟨false, vt249, 0, ([vt306, w64 (40 + vt313), w64 (120 + vt320)] : List Int)⟩ : S_Fate)] : List S_Fate)) (w64 (x229 + 1)) vt321) else none)))) else (if (out223.length + 1) * 48 ≤ 140737488355328 then (spytop_h1fates.l0 k vt15 s3 n_ (out223 ++ ([(⟨false, vt249, 0, ([] : List Int)⟩ : S_Fate)] : List S_Fate)) (w64 (x229 + 1)) vt268) else none)))))) else (some (out223, x230))
def spytop_h1fates (k : Nat) (s3 : S_Stream) : Option ((List S_Fate) × Int) :=
  (spymake_Stream_Next k s3 30).bind fun (vt15, vt16) => ((spytop_h1fates.l0 k vt15 s3 k ([] : List S_Fate) 0 vt16).bind fun (out406, x412) => (some (out406, x412)))
def link_CheckFate.l1 (k : Nat) (vf1 : S_Fate) (x87 : Int) : Nat → Int → Option (Unit)
  | 0, _ => none
  | n_ + 1, x138 =>
    if x138 < ((vf1.Bits.take (x87).toNat).length : Int) then (if 0 ≤ x138 then (if (rd vf1.Bits x87) = (rd (vf1.Bits.take (x87).toNat) x138) then (none) else (link_CheckFate.l1 k vf1 x87 n_ (w64 (x138 + 1)))) else none) else (some ())
def link_CheckFate.l0 (k : Nat) (vf1 : S_Fate) : Nat → Int → Option (Unit)
  | 0, _ => none
  | n_ + 1, x87 =>
    if x87 < (vf1.Bits.length : Int) then (if 0 ≤ x87 then (if (rd vf1.Bits x87) < 0 then (none) else (if x87 ≤ (vf1.Bits.length : Int) then ((link_CheckFate.l1 k vf1 x87 k 0).bind fun _ => (link_CheckFate.l0 k vf1 n_ (w64 (x87 + 1)))) else none)) else none) else (some ())
def link_CheckFate (k : Nat) (vf1 : S_Fate) : Option (Int) :=
  if vf1.Lost = true then (((if vf1.Delay ≠ 0 then (some true) else (if vf1.Twice ≠ 0 then (some true) else (some ((vf1.Bits.length : Int) != 0))) : Option (Bool))).bind fun x29 => (if x29 = true then (none) else (some 0))) else (((if vf1.Delay < 1 then (some true) else (if vf1.Delay > 8 then (some true) else (if vf1.Twice < 0 then (some true) else (some (decide (vf1.Twice > 8))))) : Option (Bool))).bind fun x52 => (if x52 = true then (none) else (if (vf1.Bits.length : Int) > 3 then (none) else ((link_CheckFate.l0 k vf1 k 0).bind fun _ => (some 0)))))
def link_Check.l0 (k : Nat) (l1 : List S_Cmd) : Nat → Int → Option (Unit)
  | 0, _ => none
  | n_ + 1, x54 =>
    if x54 < (l1.length : Int) then (if 0 ≤ x54 then (((if ((rd l1 x54).Op) < 0 then (some true) else (if ((rd l1 x54).Op) > 255 then (some true) else (if ((rd l1 x54).Due) < 0 then (some true) else (some (decide (((rd l1 x54).Due) > 2000))))) : Option (Bool))).bind fun x96 => (if x96 = true then (none) else (link_Check.l0 k l1 n_ (w64 (x54 + 1))))) else none) else (some ())
def link_Check.l2 (k : Nat) (there5 : List S_Fate) (back9 : List S_Fate) (x138 : Int) : Nat → Int → Option (Unit)
  | 0, _ => none
  | n_ + 1, x178 =>
    if x178 < ((rd ([there5, back9] : List (List S_Fate)) x138).length : Int) then (if 0 ≤ x178 then ((link_CheckFate k (rd (rd ([there5, back9] : List (List S_Fate)) x138) x178)).bind fun vt212 => (if vt212 ≠ 0 then (none) else (link_Check.l2 k there5 back9 x138 n_ (w64 (x178 + 1))))) else none) else (some ())
def link_Check.l1 (k : Nat) (there5 : List S_Fate) (back9 : List S_Fate) (l1 : List S_Cmd) : Nat → Int → Option (Unit)
  | 0, _ => none
  | n_ + 1, x138 =>
    if x138 < (([there5, back9] : List (List S_Fate)).length : Int) then (if 0 ≤ x138 then ((link_Check.l2 k there5 back9 x138 k 0).bind fun _ => (link_Check.l1 k there5 back9 l1 n_ (w64 (x138 + 1)))) else none) else (some ())
def link_Check (k : Nat) (l1 : List S_Cmd) (there5 : List S_Fate) (back9 : List S_Fate) : Option (Int) :=
  ((if (l1.length : Int) > 16 then (some true) else (if (there5.length : Int) > 200 then (some true) else (some (decide ((back9.length : Int) > 200)))) : Option (Bool))).bind fun x27 => (if x27 = true then (none) else ((link_Check.l0 k l1 k 0).bind fun _ => ((link_Check.l1 k there5 back9 l1 k 0).bind fun _ => (some 0))))
def bus_Sum.l1 (k : Nat) : Nat → Int → Int → Option (Int)
  | 0, _, _ => none
  | n_ + 1, c73, x74 =>
    if x74 < 8 then (if (Go.bits .and .u16 c73 32768) ≠ 0 then (bus_Sum.l1 k n_ (Go.bits .xor .u16 (IntKind.u16.wrap (c73 * 2 ^ 1)) 4129) (w64 (x74 + 1))) else (bus_Sum.l1 k n_ (IntKind.u16.wrap (c73 * 2 ^ 1)) (w64 (x74 + 1)))) else (some c73)
def bus_Sum.l0 (k : Nat) (b1 : List Int) : Nat → Int → Int → Option (Int)
  | 0, _, _ => none
  | n_ + 1, c28, x29 =>
    if x29 < (b1.length : Int) then (if 0 ≤ x29 then ((bus_Sum.l1 k k (Go.bits .xor .u16 c28 (IntKind.u16.wrap ((IntKind.u16.wrap ((rd b1 x29))) * 2 ^ 8))) 0).bind fun c99 => (bus_Sum.l0 k b1 n_ c99 (w64 (x29 + 1)))) else none) else (some c28)
def bus_Sum (k : Nat) (b1 : List Int) : Option (Int) :=
  (bus_Sum.l0 k b1 k 65535 0).bind fun c108 => (some c108)
def bus_Parse (k : Nat) (b1 : List Int) : Option (S_Packet × Int) :=
  if (b1.length : Int) < 5 then (some ((⟨0, 0, 0, ([] : List Int)⟩ : S_Packet), 14)) else (if (b1.length : Int) > 21 then (some ((⟨0, 0, 0, ([] : List Int)⟩ : S_Packet), 2)) else (if 0 ≤ (w64 ((b1.length : Int) - 2)) then (if (w64 ((b1.length : Int) - 2)) ≤ (b1.length : Int) then ((bus_Sum k (b1.take (w64 ((b1.length : Int) - 2)).toNat)).bind fun vt39 => (if (w64 ((b1.length : Int) - 2)) < (b1.length : Int) then (if (rd b1 (w64 ((b1.length : Int) - 2))) ≠ (u8 (shr vt39 8)) then (some ((⟨0, 0, 0, ([] : List Int)⟩ : S_Packet), 13)) else (if 0 ≤ (w64 ((w64 ((b1.length : Int) - 2)) + 1)) then (if (w64 ((w64 ((b1.length : Int) - 2)) + 1)) < (b1.length : Int) then (if (rd b1 (w64 ((w64 ((b1.length : Int) - 2)) + 1))) ≠ (u8 (vt39)) then (some ((⟨0, 0, 0, ([] : List Int)⟩ : S_Packet), 13)) else (if 0 < (b1.length : Int) then (if 1 < (b1.length : Int) then (if 2 < (b1.length : Int) then (if 3 ≤ (w64 ((b1.length : Int) - 2)) then (if (([] : List Int).length + ((b1.take (w64 ((b1.length : Int) - 2)).toNat).drop (3 : Int).toNat).length) * 1 ≤ 140737488355328 then (some ((⟨w64 (shr (rd b1 0) 4), w64 (Go.bits .and .u8 (rd b1 0) 15), Go.bits .or .i64 (w64 ((w64 ((rd b1 1))) * 2 ^ 8)) (w64 ((rd b1 2))), (([] : List Int) ++ ((b1.take (w64 ((b1.length : Int) - 2)).toNat).drop (3 : Int).toNat))⟩ : S_Packet), 0)) else none) else none) else none) else none) else none)) else none) else none)) else none)) else none) else none))
def bus_Reader_flag (k : Nat) (r3 : S_Reader) : Option (S_Packet × Bool × (List Int) × Bool × Bool × Bool × Int) :=
  ((if r3.skip = true then (some (r3.body, true, ((r3.body.length : Int) == 0))) else (some (r3.body, r3.escape, ((r3.body.length : Int) == 0))) : Option ((List Int) × Bool × Bool))).bind fun (body39, bad43, empty44) => (((if empty44 = true then (some (!bad43)) else (some false) : Option (Bool))).bind fun x64 => (if x64 = true then (some ((⟨0, 0, 0, ([] : List Int)⟩ : S_Packet), false, ([] : List Int), false, false, true, r3.Bad)) else ((bus_Parse k body39).bind fun (vt83, vt84) => (if bad43 = true then (some ((⟨0, 0, 0, ([] : List Int)⟩ : S_Packet), false, ([] : List Int), false, false, true, w64 (r3.Bad + 1))) else (if vt84 ≠ 0 then (some ((⟨0, 0, 0, ([] : List Int)⟩ : S_Packet), false, ([] : List Int), false, false, true, w64 (r3.Bad + 1))) else (some (vt83, true, ([] : List Int), false, false, true, r3.Bad)))))))
def bus_Reader_put (k : Nat) (r3 : S_Reader) (x9 : Int) : Option ((List Int) × Bool) :=
  if (r3.body.length : Int) = 21 then (some (r3.body, true)) else (if (r3.body.length + 1) * 1 ≤ 140737488355328 then (some ((r3.body ++ ([x9] : List Int)), r3.skip)) else none)
def bus_Reader_Feed (k : Nat) (r3 : S_Reader) (x9 : Int) : Option (S_Packet × Bool × (List Int) × Bool × Bool × Bool × Int) :=
  if x9 = 126 then ((bus_Reader_flag k r3).bind fun (vt26, vt27, vt28, vt29, vt30, vt31, vt32) => (some (vt26, vt27, vt28, vt29, vt30, vt31, vt32))) else (((if r3.skip = true then (some true) else (some (!r3.vopen)) : Option (Bool))).bind fun x69 => (if x69 = true then (some ((⟨0, 0, 0, ([] : List Int)⟩ : S_Packet), false, r3.body, r3.escape, r3.skip, r3.vopen, r3.Bad)) else (if r3.escape = true then (((if (Go.bits .xor .u8 x9 32) = 126 then (some true) else (some ((Go.bits .xor .u8 x9 32) == 125)) : Option (Bool))).bind fun x95 => (if x95 = true then ((bus_Reader_put k (⟨r3.body, false, r3.skip, r3.vopen, r3.Bad⟩ : S_Reader) (Go.bits .xor .u8 x9 32)).bind fun (vt103, vt104) => (some ((⟨0, 0, 0, ([] : List Int)⟩ : S_Packet), false, vt103, false, vt104, r3.vopen, r3.Bad))) else (some ((⟨0, 0, 0, ([] : List Int)⟩ : S_Packet), false, r3.body, false, true, r3.vopen, r3.Bad)))) else (if x9 = 125 then (some ((⟨0, 0, 0, ([] : List Int)⟩ : S_Packet), false, r3.body, true, r3.skip, r3.vopen, r3.Bad)) else ((bus_Reader_put k r3 x9).bind fun (vt126, vt127) => (some ((⟨0, 0, 0, ([] : List Int)⟩ : S_Packet), false, vt126, r3.escape, vt127, r3.vopen, r3.Bad)))))))
def bus_Decode.l0 (k : Nat) (stream1 : List Int) : Nat → (List S_Packet) → Int → (List Int) → Bool → Bool → Bool → Int → Option ((List S_Packet) × (List Int) × Bool × Bool × Bool × Int)
  | 0, _, _, _, _, _, _, _ => none
  | n_ + 1, out133, x139, x140, x146, x147, x148, x149 =>
    if x139 < (stream1.length : Int) then (if 0 ≤ x139 then ((bus_Reader_Feed k (⟨x140, x146, x147, x148, x149⟩ : S_Reader) (rd stream1 x139)).bind fun (vt177, vt178, vt179, vt180, vt181, vt182, vt183) => (if vt178 = true then (if (out133.length + 1) * 48 ≤ 140737488355328 then (bus_Decode.l0 k stream1 n_ (out133 ++ ([vt177] : List S_Packet)) (w64 (x139 + 1)) vt179 vt180 vt181 vt182 vt183) else none) else (bus_Decode.l0 k stream1 n_ out133 (w64 (x139 + 1)) vt179 vt180 vt181 vt182 vt183))) else none) else (some (out133, x140, x146, x147, x148, x149))
def bus_Decode (k : Nat) (stream1 : List Int) : Option ((List S_Packet) × Int) :=
  (bus_Decode.l0 k stream1 k ([] : List S_Packet) 0 ([] : List Int) false false false 0).bind fun (out234, x240, x246, x247, x248, x249) => (some (out234, x249))
def link_line_take.l0 (k : Nat) (l3 : S_line) (vt12 : Int) : Nat → (List Int) → (List S_parcel) → Int → Option ((List Int) × (List S_parcel))
  | 0, _, _, _ => none
  | n_ + 1, stream38, rest44, x50 =>
    if x50 < (l3.way.length : Int) then (if 0 ≤ x50 then (if ((rd l3.way x50).vat) = vt12 then (if (stream38.length + ((rd l3.way x50).bytes).length) * 1 ≤ 140737488355328 then (link_line_take.l0 k l3 vt12 n_ (stream38 ++ (rd l3.way x50).bytes) rest44 (w64 (x50 + 1))) else none) else (if (rest44.length + 1) * 32 ≤ 140737488355328 then (link_line_take.l0 k l3 vt12 n_ stream38 (rest44 ++ ([(rd l3.way x50)] : List S_parcel)) (w64 (x50 + 1))) else none)) else none) else (some (stream38, rest44))
def link_line_take (k : Nat) (l3 : S_line) (vt12 : Int) : Option ((List S_Packet) × (List S_parcel)) :=
  (link_line_take.l0 k l3 vt12 k ([] : List Int) ([] : List S_parcel) 0).bind fun (stream114, rest120) => ((bus_Decode k stream114).bind fun (vt157, vt158) => (some (vt157, rest120)))
def link_due (k : Nat) (p1 : S_Packet) : Option (Int) :=
  if (p1.Data.length : Int) < 3 then (some (-1)) else (if 1 < (p1.Data.length : Int) then (if 2 < (p1.Data.length : Int) then (some (Go.bits .or .i64 (w64 ((w64 ((rd p1.Data 1))) * 2 ^ 8)) (w64 ((rd p1.Data 2))))) else none) else none)
def link_device_hear (k : Nat) (d3 : S_device) (p9 : S_Packet) (vt13 : Int) : Option (S_Packet × Bool × Int × Bool × (List S_Exec)) :=
  ((if p9.Kind ≠ 1 then (if p9.Kind ≠ 2 then (some true) else (some (decide (p9.Seq < d3.last)))) else (some (decide (p9.Seq < d3.last))) : Option (Bool))).bind fun x55 => (if x55 = true then (some ((⟨0, 0, 0, ([] : List Int)⟩ : S_Packet), false, d3.last, d3.did, d3.log)) else (((if p9.Seq > d3.last then (((if p9.Kind = 1 then ((link_due k p9).bind fun vt89 => (some (decide (vt13 ≤ vt89)))) else (some false) : Option (Bool))).bind fun x100 => (((if x100 = true then (if (d3.log.length + 1) * 16 ≤ 140737488355328 then (some (true, (d3.log ++ ([(⟨w64 (p9.Seq - 1), vt13⟩ : S_Exec)] : List S_Exec)))) else none) else (some (false, d3.log)) : Option (Bool × (List S_Exec)))).bind fun (x148, x149) => (some (p9.Seq, x148, x149)))) else (some (d3.last, d3.did, d3.log)) : Option (Int × Bool × (List S_Exec)))).bind fun (x166, x167, x168) => (if x167 = true then (some ((⟨0, 3, p9.Seq, ([] : List Int)⟩ : S_Packet), true, x166, x167, x168)) else (some ((⟨0, 4, p9.Seq, ([] : List Int)⟩ : S_Packet), true, x166, x167, x168)))))
def bus_Check (k : Nat) (p1 : S_Packet) : Option (Int) :=
  ((if p1.Addr < 0 then (some true) else (if p1.Addr > 15 then (some true) else (if p1.Kind < 0 then (some true) else (if p1.Kind > 15 then (some true) else (if p1.Seq < 0 then (some true) else (some (decide (p1.Seq > 65535))))))) : Option (Bool))).bind fun x26 => (if x26 = true then (none) else (if (p1.Data.length : Int) > 16 then (none) else (some 0)))
def bus_Body (k : Nat) (p1 : S_Packet) : Option ((List Int) × Int) :=
  (bus_Check k p1).bind fun vt15 => (if vt15 ≠ 0 then (none) else (if (([u8 (Go.bits .or .i64 (w64 (p1.Addr * 2 ^ 4)) p1.Kind), u8 (shr p1.Seq 8), u8 (p1.Seq)] : List Int).length + p1.Data.length) * 1 ≤ 140737488355328 then ((bus_Sum k (([u8 (Go.bits .or .i64 (w64 (p1.Addr * 2 ^ 4)) p1.Kind), u8 (shr p1.Seq 8), u8 (p1.Seq)] : List Int) ++ p1.Data)).bind fun vt51 => (if ((([u8 (Go.bits .or .i64 (w64 (p1.Addr * 2 ^ 4)) p1.Kind), u8 (shr p1.Seq 8), u8 (p1.Seq)] : List Int) ++ p1.Data).length + 2) * 1 ≤ 140737488355328 then (some (((([u8 (Go.bits .or .i64 (w64 (p1.Addr * 2 ^ 4)) p1.Kind), u8 (shr p1.Seq 8), u8 (p1.Seq)] : List Int) ++ p1.Data) ++ ([u8 (shr vt51 8), u8 (vt51)] : List Int)), 0)) else none)) else none))
def bus_Stuff.l0 (k : Nat) (b1 : List Int) : Nat → (List Int) → Int → Option ((List Int))
  | 0, _, _ => none
  | n_ + 1, out123, x128 =>
    if x128 < (b1.length : Int) then (if 0 ≤ x128 then (if (rd b1 x128) = 126 then (if (out123.length + 2) * 1 ≤ 140737488355328 then (bus_Stuff.l0 k b1 n_ (out123 ++ ([125, Go.bits .xor .u8 (rd b1 x128) 32] : List Int)) (w64 (x128 + 1))) else none) else (if (rd b1 x128) = 125 then (if (out123.length + 2) * 1 ≤ 140737488355328 then (bus_Stuff.l0 k b1 n_ (out123 ++ ([125, Go.bits .xor .u8 (rd b1 x128) 32] : List Int)) (w64 (x128 + 1))) else none) else (if (out123.length + 1) * 1 ≤ 140737488355328 then (bus_Stuff.l0 k b1 n_ (out123 ++ ([(rd b1 x128)] : List Int)) (w64 (x128 + 1))) else none))) else none) else (some out123)
def bus_Stuff (k : Nat) (b1 : List Int) : Option ((List Int)) :=
  (bus_Stuff.l0 k b1 k ([126] : List Int) 0).bind fun out209 => (if (out209.length + 1) * 1 ≤ 140737488355328 then (some (out209 ++ ([126] : List Int))) else none)
def bus_Noise.l0 (k : Nat) (bits5 : List Int) : Nat → (List Int) → Int → Option ((List Int))
  | 0, _, _ => none
  | n_ + 1, b121, x125 =>
    if x125 < (bits5.length : Int) then (if 0 ≤ x125 then (if 0 ≤ (rd bits5 x125) then (if (rd bits5 x125) < (w64 (8 * (b121.length : Int))) then (if 0 ≤ (w64 (Int.tdiv (rd bits5 x125) 8)) then (if (w64 (Int.tdiv (rd bits5 x125) 8)) < (b121.length : Int) then (if ¬ ((Int.tmod (rd bits5 x125) 8) < 0) then (bus_Noise.l0 k bits5 n_ (b121.set (w64 (Int.tdiv (rd bits5 x125) 8)).toNat (Go.bits .xor .u8 (rd b121 (w64 (Int.tdiv (rd bits5 x125) 8))) (u8 (1 * 2 ^ (min (Int.tmod (rd bits5 x125) 8).toNat 8))))) (w64 (x125 + 1))) else none) else none) else none) else (bus_Noise.l0 k bits5 n_ b121 (w64 (x125 + 1)))) else (bus_Noise.l0 k bits5 n_ b121 (w64 (x125 + 1)))) else none) else (some b121)
def bus_Noise (k : Nat) (p1 : S_Packet) (bits5 : List Int) : Option ((List Int) × Int) :=
  (bus_Body k p1).bind fun (vt17, vt18) => (if vt18 ≠ 0 then (none) else ((bus_Noise.l0 k bits5 k vt17 0).bind fun b186 => ((bus_Stuff k b186).bind fun vt200 => (some (vt200, 0)))))
def link_line_send (k : Nat) (l3 : S_line) (p12 : S_Packet) (vt16 : Int) : Option ((List S_parcel) × Int) :=
  ((if l3.count < (l3.fates.length : Int) then (if 0 ≤ l3.count then (some (((rd l3.fates l3.count).Lost), ((rd l3.fates l3.count).Delay), ((rd l3.fates l3.count).Twice), ((rd l3.fates l3.count).Bits))) else none) else (some (false, 1, 0, ([] : List Int))) : Option (Bool × Int × Int × (List Int)))).bind fun (x72, x73, x74, x75) => (if x72 = true then (some (l3.way, w64 (l3.count + 1))) else ((bus_Noise k p12 x75).bind fun (vt95, vt96) => (if (l3.way.length + 1) * 32 ≤ 140737488355328 then (if x74 > 0 then (if ((l3.way ++ ([(⟨w64 (vt16 + x73), vt95⟩ : S_parcel)] : List S_parcel)).length + 1) * 32 ≤ 140737488355328 then (some (((l3.way ++ ([(⟨w64 (vt16 + x73), vt95⟩ : S_parcel)] : List S_parcel)) ++ ([(⟨w64 (vt16 + x74), vt95⟩ : S_parcel)] : List S_parcel)), w64 (l3.count + 1))) else none) else (some ((l3.way ++ ([(⟨w64 (vt16 + x73), vt95⟩ : S_parcel)] : List S_parcel)), w64 (l3.count + 1)))) else none)))
def link_controller_hear (k : Nat) (c5 : S_controller) (v9 : S_Log) (p23 : S_Packet) (vt27 : Int) : Option (Int × (List Int) × (List Int)) :=
  ((if c5.now ≥ (c5.l.length : Int) then (some true) else (if p23.Seq ≠ (w64 (c5.now + 1)) then (some true) else (if 0 ≤ c5.now then (if c5.now < (v9.Reports.length : Int) then (some ((rd v9.Reports c5.now) != 1)) else none) else none)) : Option (Bool))).bind fun x77 => (if x77 = true then (some (c5.now, v9.Reports, v9.At)) else (if p23.Kind = 3 then (if 0 ≤ c5.now then (if c5.now < (v9.Reports.length : Int) then (if c5.now < (v9.At.length : Int) then (some (w64 (c5.now + 1), (v9.Reports.set (c5.now).toNat 2), (v9.At.set (c5.now).toNat vt27))) else none) else none) else none) else (if p23.Kind = 4 then (if 0 ≤ c5.now then (if c5.now < (v9.Reports.length : Int) then (if c5.now < (v9.At.length : Int) then (some (w64 (c5.now + 1), (v9.Reports.set (c5.now).toNat 3), (v9.At.set (c5.now).toNat vt27))) else none) else none) else none) else (some (c5.now, v9.Reports, v9.At)))))
def link_data.l0 (k : Nat) (c1 : S_Cmd) : Nat → (List Int) → Int → Option ((List Int))
  | 0, _, _ => none
  | n_ + 1, b80, i85 =>
    if i85 ≥ 0 then (if ¬ (i85 < 0) then (if (b80.length + 1) * 1 ≤ 140737488355328 then (link_data.l0 k c1 n_ (b80 ++ ([u8 (shr (u64 (c1.Arg)) (min (i85).toNat 64))] : List Int)) (w64 (i85 - 8))) else none) else none) else (some b80)
def link_data (k : Nat) (c1 : S_Cmd) : Option ((List Int)) :=
  (link_data.l0 k c1 k ([u8 (c1.Op), u8 (shr c1.Due 8), u8 (c1.Due)] : List Int) 56).bind fun b122 => (some b122)
def link_controller_act (k : Nat) (c5 : S_controller) (v9 : S_Log) (vt23 : Int) : Option (S_Packet × Bool × Int × (List Int) × (List Int)) :=
  if c5.now ≥ (c5.l.length : Int) then (some ((⟨0, 0, 0, ([] : List Int)⟩ : S_Packet), false, c5.first, v9.Reports, v9.At)) else (if 0 ≤ c5.now then (if c5.now < (v9.Reports.length : Int) then (((if (rd v9.Reports c5.now) = 0 then (some (vt23, (v9.Reports.set (c5.now).toNat 1))) else (some (c5.first, v9.Reports)) : Option (Int × (List Int)))).bind fun (x104, x105) => (if (Int.tmod (w64 (vt23 - x104)) 4) ≠ 0 then (some ((⟨0, 0, 0, ([] : List Int)⟩ : S_Packet), false, x104, x105, v9.At)) else (if c5.now < (c5.l.length : Int) then (if vt23 > ((rd c5.l c5.now).Due) then (some ((⟨0, 2, w64 (c5.now + 1), ([] : List Int)⟩ : S_Packet), true, x104, x105, v9.At)) else ((link_data k (rd c5.l c5.now)).bind fun vt171 => (some ((⟨0, 1, w64 (c5.now + 1), vt171⟩ : S_Packet), true, x104, x105, v9.At)))) else none))) else none) else none)
def link_Run.l1 (k : Nat) (vt1755 : List S_Packet) (x1697 : Int) (back9 : List S_Fate) (l1 : List S_Cmd) : Nat → Int → (List S_parcel) → Int → Int → Bool → (List S_Exec) → Option ((List S_parcel) × Int × Int × Bool × (List S_Exec))
  | 0, _, _, _, _, _, _ => none
  | n_ + 1, x1986, x1987, x1992, x1993, x1994, x1995 =>
    if x1986 < (vt1755.length : Int) then (if 0 ≤ x1986 then ((link_device_hear k (⟨x1993, x1994, x1995⟩ : S_device) (rd vt1755 x1986) x1697).bind fun (vt2035, vt2036, vt2037, vt2038, vt2039) => (if vt2036 = true then ((link_line_send k (⟨back9, x1987, x1992⟩ : S_line) vt2035 x1697).bind fun (vt2072, vt2073) => (link_Run.l1 k vt1755 x1697 back9 l1 n_ (w64 (x1986 + 1)) vt2072 vt2073 vt2037 vt2038 vt2039)) else (link_Run.l1 k vt1755 x1697 back9 l1 n_ (w64 (x1986 + 1)) x1987 x1992 vt2037 vt2038 vt2039))) else none) else (some (x1987, x1992, x1993, x1994, x1995))
def link_Run.l2 (k : Nat) (vt2145 : List S_Packet) (l1 : List S_Cmd) (x1713 : Int) (x1697 : Int) : Nat → Int → Int → (List Int) → (List Int) → Option (Int × (List Int) × (List Int))
  | 0, _, _, _, _ => none
  | n_ + 1, x2312, x2313, x2314, x2319 =>
    if x2312 < (vt2145.length : Int) then (if 0 ≤ x2312 then ((link_controller_hear k (⟨l1, x2313, x1713, ()⟩ : S_controller) (⟨([] : List S_Exec), x2314, x2319, 0, 0⟩ : S_Log) (rd vt2145 x2312) x1697).bind fun (vt2359, vt2360, vt2361) => (link_Run.l2 k vt2145 l1 x1713 x1697 n_ (w64 (x2312 + 1)) vt2359 vt2360 vt2361)) else none) else (some (x2313, x2314, x2319))
def link_Run.l0 (k : Nat) (steps13 : Int) (there5 : List S_Fate) (l1 : List S_Cmd) (back9 : List S_Fate) : Nat → Int → (List S_parcel) → Int → (List S_parcel) → Int → Int → Int → Int → Bool → (List S_Exec) → (List Int) → (List Int) → Option ((List S_parcel) × Int × (List S_parcel) × Int × Int × Int × Int × Bool × (List S_Exec) × (List Int) × (List Int))
  | 0, _, _, _, _, _, _, _, _, _, _, _, _ => none
  | n_ + 1, x1697, x1698, x1704, x1705, x1711, x1712, x1713, x1714, x1715, x1716, x1722, x1727 =>
    if x1697 < steps13 then ((link_line_take k (⟨there5, x1705, x1711⟩ : S_line) x1697).bind fun (vt1755, vt1756) => ((link_Run.l1 k vt1755 x1697 back9 l1 k 0 x1698 x1704 x1714 x1715 x1716).bind fun (x2089, x2094, x2095, x2096, x2097) => ((link_line_take k (⟨back9, x2089, x2094⟩ : S_line) x1697).bind fun (vt2145, vt2146) => ((link_Run.l2 k vt2145 l1 x1713 x1697 k 0 x1712 x1722 x1727).bind fun (x2382, x2383, x2388) => ((link_controller_act k (⟨l1, x2382, x1713, ()⟩ : S_controller) (⟨([] : List S_Exec), x2383, x2388, 0, 0⟩ : S_Log) x1697).bind fun (vt2417, vt2418, vt2419, vt2420, vt2421) => (if vt2418 = true then ((link_line_send k (⟨there5, vt1756, x1711⟩ : S_line) vt2417 x1697).bind fun (vt2459, vt2460) => (link_Run.l0 k steps13 there5 l1 back9 n_ (w64 (x1697 + 1)) vt2146 x2094 vt2459 vt2460 x2382 vt2419 x2095 x2096 x2097 vt2420 vt2421)) else (link_Run.l0 k steps13 there5 l1 back9 n_ (w64 (x1697 + 1)) vt2146 x2094 vt1756 x1711 x2382 vt2419 x2095 x2096 x2097 vt2420 vt2421))))))) else (some (x1698, x1704, x1705, x1711, x1712, x1713, x1714, x1715, x1716, x1722, x1727))
def link_Run (k : Nat) (l1 : List S_Cmd) (there5 : List S_Fate) (back9 : List S_Fate) (steps13 : Int) : Option (S_Log × Int) :=
  (link_Check k l1 there5 back9).bind fun vt24 => (if vt24 ≠ 0 then (none) else (((if steps13 < 0 then (some true) else (some (decide (steps13 > 2000))) : Option (Bool))).bind fun x47 => (if x47 = true then (none) else (if 0 ≤ (l1.length : Int) then (if (l1.length : Int) * 8 ≤ 140737488355328 then ((link_Run.l0 k steps13 there5 l1 back9 k 0 ([] : List S_parcel) 0 ([] : List S_parcel) 0 0 0 0 false ([] : List S_Exec) (List.replicate ((l1.length : Int)).toNat (0 : Int)) (List.replicate ((l1.length : Int)).toNat (0 : Int))).bind fun (x2476, x2482, x2483, x2489, x2490, x2491, x2492, x2493, x2494, x2500, x2505) => (some ((⟨x2494, x2500, x2505, x2489, x2482⟩ : S_Log), 0))) else none) else none))))
def axis_Rest (k : Nat) (p1 : Int) : Option (S_State) :=
  some (⟨p1, 0, p1, false⟩ : S_State)
def mount_Rest (k : Nat) (m1 : S_Mount) : Option (S_State2) :=
  (axis_Rest k m1.Park.Az).bind fun vt22 => ((axis_Rest k m1.Park.Alt).bind fun vt29 => (some (⟨vt22, vt29, 0⟩ : S_State2)))
def guard_Start (k : Nat) (m1 : S_Mount) : Option (S_World) :=
  (mount_Rest k m1).bind fun vt14 => (some (⟨vt14, (⟨0, 0, false, false, (⟨0, 0, 0, false⟩ : S_State)⟩ : S_State3), (⟨0, 0, 0, 0⟩ : S_State4), (⟨false, false, false, false, false⟩ : S_Sensors), (⟨0, 0⟩ : S_Pose), 2, 0, 0⟩ : S_World))
def spytop_h1script.l1 (k : Nat) (x11 : S_Log) (x421 : Int) (l7 : List S_Cmd) : Nat → Int → (List S_Order) → Option ((List S_Order))
  | 0, _, _ => none
  | n_ + 1, x562, x563 =>
    if x562 < (x11.Execs.length : Int) then (if 0 ≤ x562 then (if ((rd x11.Execs x562).At) = x421 then (if ((rd x11.Execs x562).Cmd) < (l7.length : Int) then (if 0 ≤ ((rd x11.Execs x562).Cmd) then (if (x563.length + 1) * 16 ≤ 140737488355328 then (spytop_h1script.l1 k x11 x421 l7 n_ (w64 (x562 + 1)) (x563 ++ ([(⟨(rd l7 ((rd x11.Execs x562).Cmd)).Op, (rd l7 ((rd x11.Execs x562).Cmd)).Arg⟩ : S_Order)] : List S_Order))) else none) else none) else (spytop_h1script.l1 k x11 x421 l7 n_ (w64 (x562 + 1)) x563)) else (spytop_h1script.l1 k x11 x421 l7 n_ (w64 (x562 + 1)) x563)) else none) else (some x563)
def spytop_h1script.l0 (k : Nat) (steps21 : Int) (x11 : S_Log) (l7 : List S_Cmd) (s3 : S_Stream) : Nat → (List S_Input) → Int → Int → Option ((List S_Input) × Int)
  | 0, _, _, _ => none
  | n_ + 1, out416, x421, x422 =>
    if x421 < steps21 then ((spytop_h1script.l1 k x11 x421 l7 k 0 ([] : List S_Order)).bind fun x660 => ((spymake_Stream_Next k (⟨s3.L, x422⟩ : S_Stream) 40).bind fun (vt697, vt698) => (if vt697 = 0 then ((spymake_Stream_Next k (⟨s3.L, vt698⟩ : S_Stream) 2).bind fun (vt706, vt707) => ((spymake_Stream_Next k (⟨s3.L, vt707⟩ : S_Stream) 2).bind fun (vt713, vt714) => ((spymake_Stream_Next k (⟨s3.L, vt714⟩ : S_Stream) 2).bind fun (vt720, vt721) => (if (out416.length + 1) * 32 ≤ 140737488355328 then (spytop_h1script.l0 k steps21 x11 l7 s3 n_ (out416 ++ ([(⟨x660, (⟨(vt706 == 0), (vt713 == 0), false, false, (vt720 == 0)⟩ : S_Sensors)⟩ : S_Input)] : List S_Input)) (w64 (x421 + 1)) vt721) else none)))) else (if (out416.length + 1) * 32 ≤ 140737488355328 then (spytop_h1script.l0 k steps21 x11 l7 s3 n_ (out416 ++ ([(⟨x660, (⟨false, false, false, false, false⟩ : S_Sensors)⟩ : S_Input)] : List S_Input)) (w64 (x421 + 1)) vt698) else none)))) else (some (out416, x422))
def spytop_h1script (k : Nat) (s3 : S_Stream) (l7 : List S_Cmd) (x11 : S_Log) (steps21 : Int) : Option ((List S_Input) × Int) :=
  (spytop_h1script.l0 k steps21 x11 l7 s3 k ([] : List S_Input) 0 s3.vat).bind fun (out775, x780) => (some (out775, x780))
def slew_CheckAxis (k : Nat) (a1 : S_Axis) : Option (Int) :=
  ((if a1.Min < (-17179869184) then (some true) else (some (decide (a1.Max > 17179869184))) : Option (Bool))).bind fun x19 => (if x19 = true then (none) else (if a1.Min > a1.Max then (none) else (((if a1.Speed < 16777216 then (some true) else (if a1.Speed > 1073741824 then (some true) else (if a1.Accel > a1.Speed then (some true) else (if a1.Accel < 1 then (some true) else (some (decide ((w64 (a1.Accel * 64)) < a1.Speed)))))) : Option (Bool))).bind fun x49 => (if x49 = true then (none) else (some 0)))))
def slew_In (k : Nat) (a1 : S_Axis) (p2 : Int) : Option (Bool) :=
  if a1.Min ≤ p2 then (some (decide (p2 ≤ a1.Max))) else (some false)
def slew_CheckMount (k : Nat) (m1 : S_Mount) : Option (Int) :=
  (slew_CheckAxis k m1.Az).bind fun vt12 => (if vt12 ≠ 0 then (none) else ((slew_CheckAxis k m1.Alt).bind fun vt28 => (if vt28 ≠ 0 then (none) else ((slew_In k m1.Az m1.Park.Az).bind fun vt45 => (if ¬ (vt45 = true) then (none) else ((slew_In k m1.Alt m1.Park.Alt).bind fun vt52 => (if ¬ (vt52 = true) then (none) else (some 0))))))))
def axis_Stop.l0 (k : Nat) (a1 : S_Axis) : Nat → Int → Int → Option (Int)
  | 0, _, _ => none
  | n_ + 1, v58, sum59 =>
    if v58 > 0 then (axis_Stop.l0 k a1 n_ (w64 (v58 - a1.Accel)) (w64 (sum59 + v58))) else (some sum59)
def axis_Stop (k : Nat) (a1 : S_Axis) (v2 : Int) : Option (Int) :=
  (((slew_CheckAxis k a1).bind fun vt14 => (if vt14 ≠ 0 then (some true) else (if v2 < (w64 (0 - a1.Speed)) then (some true) else (some (decide (v2 > a1.Speed))))) : Option (Bool))).bind fun x27 => (if x27 = true then (none) else ((axis_Stop.l0 k a1 k (w64 ((mx v2 (w64 (0 - v2))) - a1.Accel)) 0).bind fun sum80 => (some sum80)))
def axis_Check (k : Nat) (a1 : S_Axis) (s2 : S_State) : Option (Int) :=
  (slew_CheckAxis k a1).bind fun vt17 => (if vt17 ≠ 0 then (none) else ((((slew_In k a1 s2.At).bind fun vt34 => (if ¬ (vt34 = true) then (some true) else ((slew_In k a1 s2.Goal).bind fun vt41 => (if ¬ (vt41 = true) then (some true) else (if s2.Speed < (w64 (0 - a1.Speed)) then (some true) else (some (decide (s2.Speed > a1.Speed))))))) : Option (Bool))).bind fun x54 => (if x54 = true then (none) else ((axis_Stop k a1 s2.Speed).bind fun vt71 => (((if s2.Speed < 0 then ((axis_Stop k a1 s2.Speed).bind fun vt92 => (some (w64 (s2.At - vt92)))) else (some (w64 (s2.At + vt71))) : Option (Int))).bind fun vend105 => ((slew_In k a1 vend105).bind fun vt113 => (if ¬ (vt113 = true) then (none) else (some 0))))))))
def axis_Resting (k : Nat) (s1 : S_State) : Option (Bool) :=
  if s1.Speed = 0 then (if s1.At = s1.Goal then (some (!s1.Halt)) else (some false)) else (some false)
def mount_Check (k : Nat) (m1 : S_Mount) (s2 : S_State2) : Option (Int) :=
  (slew_CheckMount k m1).bind fun vt17 => (if vt17 ≠ 0 then (none) else ((axis_Check k m1.Az s2.Az).bind fun vt33 => (if vt33 ≠ 0 then (none) else ((axis_Check k m1.Alt s2.Alt).bind fun vt49 => (if vt49 ≠ 0 then (none) else (((if s2.Mode < 0 then (some true) else (some (decide (s2.Mode ≥ 6))) : Option (Bool))).bind fun x72 => (if x72 = true then (none) else (if s2.Mode = 0 then ((mount_Rest k m1).bind fun vt101 => (if ¬ ((((s2.Az.At == vt101.Az.At) && ((s2.Az.Speed == vt101.Az.Speed) && ((s2.Az.Goal == vt101.Az.Goal) && ((s2.Az.Halt == vt101.Az.Halt) && true)))) && (((s2.Alt.At == vt101.Alt.At) && ((s2.Alt.Speed == vt101.Alt.Speed) && ((s2.Alt.Goal == vt101.Alt.Goal) && ((s2.Alt.Halt == vt101.Alt.Halt) && true)))) && ((s2.Mode == vt101.Mode) && true))) = true) then (none) else (some 0))) else (((if s2.Mode = 1 then ((axis_Resting k s2.Az).bind fun vt114 => (if vt114 = true then ((axis_Resting k s2.Alt).bind fun vt121 => (some vt121)) else (some false))) else (((if s2.Mode = 5 then (if s2.Az.Halt = true then (if s2.Alt.Halt = true then (some true) else ((axis_Resting k s2.Alt).bind fun vt133 => (some vt133))) else ((axis_Resting k s2.Az).bind fun vt139 => (if vt139 = true then (if s2.Alt.Halt = true then (some true) else ((axis_Resting k s2.Alt).bind fun vt147 => (some vt147))) else (some false)))) else (if ¬ (s2.Az.Halt = true) then (if ¬ (s2.Alt.Halt = true) then (if s2.Mode ≠ 4 then (some true) else (if s2.Az.Goal = m1.Park.Az then (some (s2.Alt.Goal == m1.Park.Alt)) else (some false))) else (some false)) else (some false)) : Option (Bool))).bind fun ok162 => (some ok162)) : Option (Bool))).bind fun ok171 => (if ¬ (ok171 = true) then (none) else (some 0)))))))))))
def dome_Axis (k : Nat) : Option (S_Axis) :=
  some (⟨(-8589934592), 8589934592, 33554432, 4194304⟩ : S_Axis)
def dome_Check (k : Nat) (s1 : S_State3) : Option (Int) :=
  ((if s1.Shutter < 0 then (some true) else (if s1.Shutter > 100 then (some true) else (if s1.Cover < 0 then (some true) else (some (decide (s1.Cover > 20))))) : Option (Bool))).bind fun x21 => (if x21 = true then (none) else (((if s1.Cover > 0 then (some (decide (s1.Shutter < 100))) else (some false) : Option (Bool))).bind fun x40 => (if x40 = true then (none) else ((dome_Axis k).bind fun vt54 => ((axis_Check k vt54 s1.Turn).bind fun vt61 => (some vt61))))))
def camera_Check (k : Nat) (s1 : S_State4) : Option (Int) :=
  ((if s1.Mode < 0 then (some true) else (if s1.Mode ≥ 4 then (some true) else (if s1.Number < 0 then (some true) else (if s1.Number > 1073741824 then (some true) else (if s1.Beats < 0 then (some true) else (some (decide (s1.Beats > 16))))))) : Option (Bool))).bind fun x23 => (if x23 = true then (none) else (((if s1.Mode = 0 then (if s1.Left = 0 then (some (s1.Beats == 0)) else (some false)) else (((if s1.Mode = 1 then (if 1 ≤ s1.Left then (some (decide (s1.Left ≤ s1.Beats))) else (some false)) else (((if s1.Mode = 2 then (if 1 ≤ s1.Left then (some (decide (s1.Left ≤ 3))) else (some false)) else (if s1.Mode = 3 then (some (s1.Left == 0)) else (some true)) : Option (Bool))).bind fun ok68 => (some ok68)) : Option (Bool))).bind fun ok77 => (some ok77)) : Option (Bool))).bind fun ok86 => (((if ¬ (ok86 = true) then (some true) else (if s1.Mode ≠ 0 then (some (s1.Number == 0)) else (some false)) : Option (Bool))).bind fun x102 => (if x102 = true then (none) else (some 0)))))
def guard_Hard (k : Nat) (vw1 : S_World) : Option (Int) :=
  if vw1.Dome.Cover > 0 then (if vw1.Dome.Shutter < 100 then (((if vw1.Camera.Mode = 1 then (if vw1.Mount.Mode ≠ 3 then (some true) else (if vw1.Dome.Shutter ≠ 100 then (some true) else (some (vw1.Dome.Cover != 20)))) else (some false) : Option (Bool))).bind fun x31 => (if x31 = true then (some (Go.bits .or .i64 (Go.bits .or .i64 0 1) 2)) else (some (Go.bits .or .i64 0 1)))) else (((if vw1.Camera.Mode = 1 then (if vw1.Mount.Mode ≠ 3 then (some true) else (if vw1.Dome.Shutter ≠ 100 then (some true) else (some (vw1.Dome.Cover != 20)))) else (some false) : Option (Bool))).bind fun x54 => (if x54 = true then (some (Go.bits .or .i64 0 2)) else (some 0)))) else (((if vw1.Camera.Mode = 1 then (if vw1.Mount.Mode ≠ 3 then (some true) else (if vw1.Dome.Shutter ≠ 100 then (some true) else (some (vw1.Dome.Cover != 20)))) else (some false) : Option (Bool))).bind fun x77 => (if x77 = true then (some (Go.bits .or .i64 0 2)) else (some 0)))
def guard_Sensors_Hazard (k : Nat) (s1 : S_Sensors) : Option (Bool) :=
  if s1.Rain = true then (some true) else (if s1.Wind = true then (some true) else (if s1.Day = true then (some true) else (some s1.Power)))
def mount_Moving (k : Nat) (s1 : S_State2) : Option (Bool) :=
  if s1.Az.Speed ≠ 0 then (some true) else (some (s1.Alt.Speed != 0))
def dome_Closed (k : Nat) (s1 : S_State3) : Option (Bool) :=
  if s1.Shutter = 0 then (some (s1.Cover == 0)) else (some false)
def guard_AtRest (k : Nat) (vw1 : S_World) : Option (Bool) :=
  (mount_Moving k vw1.Mount).bind fun vt11 => (if ¬ (vt11 = true) then (if vw1.Dome.Turn.Speed = 0 then (if vw1.Camera.Mode ≠ 1 then ((dome_Closed k vw1.Dome).bind fun vt20 => (some vt20)) else (some false)) else (some false)) else (some false))
def guard_stops (k : Nat) (vw1 : S_World) : Option (Bool) :=
  ((if vw1.Mount.Mode = 0 then (some true) else (if vw1.Mount.Mode = 1 then (some true) else (some (vw1.Mount.Mode == 5))) : Option (Bool))).bind fun still18 => (if still18 = true then (if vw1.Dome.Turn.Halt = true then (if ¬ (vw1.Dome.Open = true) then (if ¬ (vw1.Dome.Lift = true) then (some (vw1.Camera.Mode != 1)) else (some false)) else (some false)) else ((axis_Resting k vw1.Dome.Turn).bind fun vt29 => (if vt29 = true then (if ¬ (vw1.Dome.Open = true) then (if ¬ (vw1.Dome.Lift = true) then (some (vw1.Camera.Mode != 1)) else (some false)) else (some false)) else (some false)))) else (some false))
def guard_Check (k : Nat) (m1 : S_Mount) (vw2 : S_World) : Option (Int) :=
  (mount_Check k m1 vw2.Mount).bind fun vt17 => (if vt17 ≠ 0 then (none) else ((dome_Check k vw2.Dome).bind fun vt33 => (if vt33 ≠ 0 then (none) else ((camera_Check k vw2.Camera).bind fun vt49 => (if vt49 ≠ 0 then (none) else (((if vw2.Mode < 0 then (some true) else (if vw2.Mode ≥ 3 then (some true) else (if vw2.Hazard < 0 then (some true) else (if vw2.Key < 0 then (some true) else (if vw2.Hazard > 17592186044416 then (some true) else (some (decide (vw2.Key > 17592186044416))))))) : Option (Bool))).bind fun x76 => (if x76 = true then (none) else ((guard_Hard k vw2).bind fun vt88 => (if vt88 ≠ 0 then (none) else ((((guard_Sensors_Hazard k vw2.Sensors).bind fun vt109 => (if ((decide (vw2.Hazard > 0)) != vt109) = true then (some true) else (if ((decide (vw2.Key > 0)) != vw2.Sensors.Key) = true then (some true) else (if vw2.Mode = 0 then (some (decide (vw2.Hazard > 0))) else (some false)))) : Option (Bool))).bind fun x139 => (if x139 = true then (none) else (((if vw2.Mode = 2 then ((guard_AtRest k vw2).bind fun vt153 => (if ¬ (vt153 = true) then (some true) else (if vw2.Mode ≠ 0 then ((guard_stops k vw2).bind fun vt161 => (if ¬ (vt161 = true) then (some true) else (if vw2.Camera.Mode = 1 then (if vw2.Dome.Open = true then (some (!vw2.Dome.Lift)) else (some true)) else (some false)))) else (if vw2.Camera.Mode = 1 then (if vw2.Dome.Open = true then (some (!vw2.Dome.Lift)) else (some true)) else (some false))))) else (if vw2.Mode ≠ 0 then ((guard_stops k vw2).bind fun vt173 => (if ¬ (vt173 = true) then (some true) else (if vw2.Camera.Mode = 1 then (if vw2.Dome.Open = true then (some (!vw2.Dome.Lift)) else (some true)) else (some false)))) else (if vw2.Camera.Mode = 1 then (if vw2.Dome.Open = true then (some (!vw2.Dome.Lift)) else (some true)) else (some false))) : Option (Bool))).bind fun x189 => (if x189 = true then (none) else (some 0))))))))))))))
def guard_uses (k : Nat) (kind1 : Int) : Option (Bool) :=
  if kind1 = 0 then (some true) else (if kind1 = 1 then (some true) else (if kind1 = 8 then (some true) else (some (kind1 == 9))))
def guard_permitted (k : Nat) (vw1 : S_World) (kind2 : Int) : Option (Bool) :=
  ((if kind2 = 0 then (some (kind2 == 0)) else (((if kind2 = 1 then (some (kind2 == 1)) else (((if kind2 = 7 then (some (kind2 == 7)) else (((if kind2 = 5 then (some (kind2 == 5)) else (((if kind2 = 10 then (some (kind2 == 10)) else (((if kind2 = 11 then (some (kind2 == 11)) else (some (kind2 == 12)) : Option (Bool))).bind fun x51 => (some x51)) : Option (Bool))).bind fun x60 => (some x60)) : Option (Bool))).bind fun x69 => (some x69)) : Option (Bool))).bind fun x78 => (some x78)) : Option (Bool))).bind fun x87 => (some x87)) : Option (Bool))).bind fun x96 => (if x96 = true then (some true) else (if kind2 = 13 then (if vw1.Mode = 2 then (some (vw1.Hazard == 0)) else (some false)) else (((if kind2 = 2 then (some (kind2 == 2)) else (if kind2 = 3 then (some true) else (((if kind2 = 4 then (some (kind2 == 4)) else (if kind2 = 8 then (some true) else (some (kind2 == 9))) : Option (Bool))).bind fun x135 => (some x135))) : Option (Bool))).bind fun x144 => (if x144 = true then (if vw1.Mode = 0 then (some (vw1.Key == 0)) else (some false)) else (some (vw1.Mode == 0))))))
def axis_Send (k : Nat) (a1 : S_Axis) (s2 : S_State) (goal3 : Int) : Option (S_State × Int) :=
  (axis_Check k a1 s2).bind fun vt22 => (if vt22 ≠ 0 then (none) else ((slew_In k a1 goal3).bind fun vt38 => (if ¬ (vt38 = true) then (some ((⟨0, 0, 0, false⟩ : S_State), 4)) else (some ((⟨s2.At, s2.Speed, goal3, false⟩ : S_State), 0)))))
def mount_send (k : Nat) (m1 : S_Mount) (s2 : S_State2) (p3 : S_Pose) (mode4 : Int) : Option (S_State2 × Int) :=
  (axis_Send k m1.Az s2.Az p3.Az).bind fun (vt25, vt26) => (if vt26 ≠ 0 then (some ((⟨(⟨0, 0, 0, false⟩ : S_State), (⟨0, 0, 0, false⟩ : S_State), 0⟩ : S_State2), vt26)) else ((axis_Send k m1.Alt s2.Alt p3.Alt).bind fun (vt51, vt52) => (if vt52 ≠ 0 then (some ((⟨(⟨0, 0, 0, false⟩ : S_State), (⟨0, 0, 0, false⟩ : S_State), 0⟩ : S_State2), vt52)) else (some ((⟨vt25, vt51, mode4⟩ : S_State2), 0)))))
def mount_Goto (k : Nat) (m1 : S_Mount) (s2 : S_State2) (p3 : S_Pose) : Option (S_State2 × Int) :=
  (mount_Check k m1 s2).bind fun vt26 => (if vt26 ≠ 0 then (none) else (if s2.Mode = 5 then (some ((⟨(⟨0, 0, 0, false⟩ : S_State), (⟨0, 0, 0, false⟩ : S_State), 0⟩ : S_State2), 10)) else ((mount_send k m1 s2 p3 2).bind fun (vt50, vt51) => (some (vt50, vt51)))))
def mount_far (k : Nat) (a1 : Int) (b2 : Int) : Option (Bool) :=
  if a1 > (w64 (b2 + 67108864)) then (some true) else (some (decide (a1 < (w64 (b2 - 67108864)))))
def mount_Follow (k : Nat) (m1 : S_Mount) (s2 : S_State2) (p3 : S_Pose) : Option (S_State2 × Int) :=
  (mount_Check k m1 s2).bind fun vt26 => (if vt26 ≠ 0 then (none) else (if s2.Mode ≠ 3 then (some ((⟨(⟨0, 0, 0, false⟩ : S_State), (⟨0, 0, 0, false⟩ : S_State), 0⟩ : S_State2), 10)) else ((mount_far k p3.Az s2.Az.Goal).bind fun vt53 => (if vt53 = true then (some ((⟨(⟨0, 0, 0, false⟩ : S_State), (⟨0, 0, 0, false⟩ : S_State), 0⟩ : S_State2), 16)) else ((mount_far k p3.Alt s2.Alt.Goal).bind fun vt60 => (if vt60 = true then (some ((⟨(⟨0, 0, 0, false⟩ : S_State), (⟨0, 0, 0, false⟩ : S_State), 0⟩ : S_State2), 16)) else ((mount_send k m1 s2 p3 3).bind fun (vt78, vt79) => (some (vt78, vt79)))))))))
def mount_Park (k : Nat) (m1 : S_Mount) (s2 : S_State2) : Option (S_State2 × Int) :=
  (mount_Check k m1 s2).bind fun vt21 => (if vt21 ≠ 0 then (none) else (if s2.Mode = 5 then (some ((⟨(⟨0, 0, 0, false⟩ : S_State), (⟨0, 0, 0, false⟩ : S_State), 0⟩ : S_State2), 10)) else ((mount_send k m1 s2 (⟨m1.Park.Az, m1.Park.Alt⟩ : S_Pose) 4).bind fun (vt45, vt46) => (some (vt45, vt46)))))
def axis_Brake (k : Nat) (a1 : S_Axis) (s2 : S_State) : Option (S_State × Int) :=
  (axis_Check k a1 s2).bind fun vt21 => (if vt21 ≠ 0 then (none) else (some ((⟨s2.At, s2.Speed, s2.Goal, true⟩ : S_State), 0)))
def mount_Stop (k : Nat) (m1 : S_Mount) (s2 : S_State2) : Option (S_State2 × Int) :=
  (mount_Check k m1 s2).bind fun vt21 => (if vt21 ≠ 0 then (none) else (if s2.Mode = 0 then (some (s2, 0)) else ((axis_Brake k m1.Az s2.Az).bind fun (vt45, vt46) => ((axis_Brake k m1.Alt s2.Alt).bind fun (vt60, vt61) => (some ((⟨vt45, vt60, 5⟩ : S_State2), 0))))))
def dome_Brake (k : Nat) (s1 : S_State3) : Option (S_State3 × Int) :=
  (dome_Check k s1).bind fun vt16 => (if vt16 ≠ 0 then (none) else ((dome_Axis k).bind fun vt35 => ((axis_Brake k vt35 s1.Turn).bind fun (vt42, vt43) => (some ((⟨s1.Shutter, s1.Cover, s1.Open, s1.Lift, vt42⟩ : S_State3), 0)))))
def dome_Set (k : Nat) (s1 : S_State3) (vopen2 : Bool) (lift3 : Bool) : Option (S_State3 × Int) :=
  (dome_Check k s1).bind fun vt18 => (if vt18 ≠ 0 then (none) else (some ((⟨s1.Shutter, s1.Cover, vopen2, lift3, s1.Turn⟩ : S_State3), 0)))
def slew_mod (k : Nat) (x1 : Int) : Option (Int) :=
  if (Int.tmod x1 4294967296) < 0 then (some (w64 ((Int.tmod x1 4294967296) + 4294967296))) else (some (Int.tmod x1 4294967296))
def slew_abs (k : Nat) (x1 : Int) : Option (Int) :=
  some (mx x1 (w64 (0 - x1)))
def slew_Target.l0 (k : Nat) (a1 : S_Axis) (vfrom2 : Int) : Nat → Int → Int → Option (Int)
  | 0, _, _ => none
  | n_ + 1, p98, best99 =>
    if p98 ≤ a1.Max then ((slew_abs k (w64 (p98 - vfrom2))).bind fun vt117 => ((slew_abs k (w64 (best99 - vfrom2))).bind fun vt123 => (if vt117 < vt123 then (slew_Target.l0 k a1 vfrom2 n_ (w64 (p98 + 4294967296)) p98) else (slew_Target.l0 k a1 vfrom2 n_ (w64 (p98 + 4294967296)) best99)))) else (some best99)
def slew_Target (k : Nat) (a1 : S_Axis) (vfrom2 : Int) (angle3 : Int) : Option (Int × Int) :=
  (slew_CheckAxis k a1).bind fun vt14 => (if vt14 ≠ 0 then (none) else ((slew_In k a1 vfrom2).bind fun vt30 => (if ¬ (vt30 = true) then (none) else ((slew_mod k angle3).bind fun vt48 => ((slew_mod k a1.Min).bind fun vt55 => ((slew_mod k (w64 (vt48 - vt55))).bind fun vt63 => (if (w64 (a1.Min + vt63)) > a1.Max then (none) else ((slew_Target.l0 k a1 vfrom2 k (w64 (a1.Min + vt63)) (w64 (a1.Min + vt63))).bind fun best136 => (some (best136, 0))))))))))
def dome_Rotate (k : Nat) (s1 : S_State3) (az2 : Int) : Option (S_State3 × Int) :=
  (dome_Check k s1).bind fun vt17 => (if vt17 ≠ 0 then (none) else ((dome_Axis k).bind fun vt36 => ((slew_Target k vt36 s1.Turn.At az2).bind fun (vt43, vt44) => (if vt44 ≠ 0 then (none) else ((dome_Axis k).bind fun vt70 => ((axis_Send k vt70 s1.Turn vt43).bind fun (vt77, vt78) => (if vt78 ≠ 0 then (none) else (some ((⟨s1.Shutter, s1.Cover, s1.Open, s1.Lift, vt77⟩ : S_State3), 0)))))))))
def dome_Clear (k : Nat) (s1 : S_State3) : Option (Bool) :=
  if s1.Shutter = 100 then (if s1.Cover = 20 then (if s1.Open = true then (some s1.Lift) else (some false)) else (some false)) else (some false)
def dome_Covers (k : Nat) (s1 : S_State3) (az2 : Int) : Option (Bool) :=
  if (Int.tmod (w64 ((Int.tmod s1.Turn.At 4294967296) - (Int.tmod az2 4294967296))) 4294967296) < 0 then (if (w64 ((Int.tmod (w64 ((Int.tmod s1.Turn.At 4294967296) - (Int.tmod az2 4294967296))) 4294967296) + 4294967296)) ≤ 178956970 then (some true) else (some (decide ((w64 ((Int.tmod (w64 ((Int.tmod s1.Turn.At 4294967296) - (Int.tmod az2 4294967296))) 4294967296) + 4294967296)) ≥ 4116010326)))) else (if (Int.tmod (w64 ((Int.tmod s1.Turn.At 4294967296) - (Int.tmod az2 4294967296))) 4294967296) ≤ 178956970 then (some true) else (some (decide ((Int.tmod (w64 ((Int.tmod s1.Turn.At 4294967296) - (Int.tmod az2 4294967296))) 4294967296) ≥ 4116010326))))
def camera_Expose (k : Nat) (s1 : S_State4) (beats2 : Int) : Option (S_State4 × Int) :=
  (camera_Check k s1).bind fun vt17 => (if vt17 ≠ 0 then (none) else (if s1.Mode ≠ 0 then (some ((⟨0, 0, 0, 0⟩ : S_State4), 10)) else (((if beats2 < 0 then (some true) else (some (decide (beats2 > 16))) : Option (Bool))).bind fun x50 => (if x50 = true then (none) else (if s1.Number = 1073741824 then (some ((⟨0, 0, 0, 0⟩ : S_State4), 9)) else (if beats2 = 0 then (some ((⟨2, 3, beats2, w64 (s1.Number + 1)⟩ : S_State4), 0)) else (some ((⟨1, beats2, beats2, w64 (s1.Number + 1)⟩ : S_State4), 0))))))))
def guard_expose (k : Nat) (vw1 : S_World) (beats2 : Int) : Option (S_World × Int) :=
  ((if beats2 < 1 then (some true) else (some (decide (beats2 > 16))) : Option (Bool))).bind fun x24 => (if x24 = true then (some ((⟨(⟨(⟨0, 0, 0, false⟩ : S_State), (⟨0, 0, 0, false⟩ : S_State), 0⟩ : S_State2), (⟨0, 0, false, false, (⟨0, 0, 0, false⟩ : S_State)⟩ : S_State3), (⟨0, 0, 0, 0⟩ : S_State4), (⟨false, false, false, false, false⟩ : S_Sensors), (⟨0, 0⟩ : S_Pose), 0, 0, 0⟩ : S_World), 4)) else (((if vw1.Mount.Mode ≠ 3 then (some true) else ((dome_Clear k vw1.Dome).bind fun vt40 => (if ¬ (vt40 = true) then (some true) else ((dome_Covers k vw1.Dome vw1.Mount.Az.At).bind fun vt47 => (some (!vt47))))) : Option (Bool))).bind fun x58 => (if x58 = true then (some ((⟨(⟨(⟨0, 0, 0, false⟩ : S_State), (⟨0, 0, 0, false⟩ : S_State), 0⟩ : S_State2), (⟨0, 0, false, false, (⟨0, 0, 0, false⟩ : S_State)⟩ : S_State3), (⟨0, 0, 0, 0⟩ : S_State4), (⟨false, false, false, false, false⟩ : S_Sensors), (⟨0, 0⟩ : S_Pose), 0, 0, 0⟩ : S_World), 16)) else ((camera_Expose k vw1.Camera beats2).bind fun (vt72, vt73) => (some ((⟨vw1.Mount, vw1.Dome, vt72, vw1.Sensors, (⟨vw1.Aim.Az, vw1.Aim.Alt⟩ : S_Pose), vw1.Mode, vw1.Hazard, vw1.Key⟩ : S_World), vt73))))))
def camera_Abort (k : Nat) (s1 : S_State4) : Option (S_State4 × Int) :=
  (camera_Check k s1).bind fun vt16 => (if vt16 ≠ 0 then (none) else (if s1.Mode ≠ 1 then (some ((⟨0, 0, 0, 0⟩ : S_State4), 10)) else (some ((⟨0, 0, 0, s1.Number⟩ : S_State4), 0))))
def camera_Fetch (k : Nat) (s1 : S_State4) : Option (S_State4 × Int × Int × Int) :=
  (camera_Check k s1).bind fun vt16 => (if vt16 ≠ 0 then (none) else (if s1.Mode ≠ 3 then (some ((⟨0, 0, 0, 0⟩ : S_State4), 0, 0, 10)) else (some ((⟨0, 0, 0, s1.Number⟩ : S_State4), s1.Number, s1.Beats, 0))))
def guard_begin (k : Nat) (m1 : S_Mount) (vw2 : S_World) : Option (S_World) :=
  ((if vw2.Camera.Mode = 1 then ((camera_Abort k vw2.Camera).bind fun (vt28, vt29) => (some (⟨vw2.Mount, vw2.Dome, vt28, vw2.Sensors, (⟨vw2.Aim.Az, vw2.Aim.Alt⟩ : S_Pose), 1, vw2.Hazard, vw2.Key⟩ : S_World))) else (some (⟨vw2.Mount, vw2.Dome, vw2.Camera, vw2.Sensors, (⟨vw2.Aim.Az, vw2.Aim.Alt⟩ : S_Pose), 1, vw2.Hazard, vw2.Key⟩ : S_World)) : Option (S_World))).bind fun x42 => ((mount_Stop k m1 x42.Mount).bind fun (vt48, vt49) => ((dome_Set k x42.Dome false false).bind fun (vt59, vt60) => ((dome_Brake k vt59).bind fun (vt70, vt71) => (some (⟨vt48, vt70, x42.Camera, x42.Sensors, (⟨x42.Aim.Az, x42.Aim.Alt⟩ : S_Pose), x42.Mode, x42.Hazard, x42.Key⟩ : S_World)))))
def guard_carry (k : Nat) (m1 : S_Mount) (vw2 : S_World) (o3 : S_Order) : Option (S_World × Int) :=
  ((if o3.Kind = 0 then (some (o3.Kind == 0)) else (some (o3.Kind == 1)) : Option (Bool))).bind fun x46 => (((if x46 = true then (if o3.Arg < (-17179869184) then (some (Sum.inl ((⟨(⟨(⟨0, 0, 0, false⟩ : S_State), (⟨0, 0, 0, false⟩ : S_State), 0⟩ : S_State2), (⟨0, 0, false, false, (⟨0, 0, 0, false⟩ : S_State)⟩ : S_State3), (⟨0, 0, 0, 0⟩ : S_State4), (⟨false, false, false, false, false⟩ : S_Sensors), (⟨0, 0⟩ : S_Pose), 0, 0, 0⟩ : S_World), 4))) else (if o3.Arg > 17179869184 then (some (Sum.inl ((⟨(⟨(⟨0, 0, 0, false⟩ : S_State), (⟨0, 0, 0, false⟩ : S_State), 0⟩ : S_State2), (⟨0, 0, false, false, (⟨0, 0, 0, false⟩ : S_State)⟩ : S_State3), (⟨0, 0, 0, 0⟩ : S_State4), (⟨false, false, false, false, false⟩ : S_Sensors), (⟨0, 0⟩ : S_Pose), 0, 0, 0⟩ : S_World), 4))) else (if o3.Kind = 0 then (some (Sum.inr (0, (⟨vw2.Mount, vw2.Dome, vw2.Camera, vw2.Sensors, (⟨o3.Arg, vw2.Aim.Alt⟩ : S_Pose), vw2.Mode, vw2.Hazard, vw2.Key⟩ : S_World)))) else (some (Sum.inr (0, (⟨vw2.Mount, vw2.Dome, vw2.Camera, vw2.Sensors, (⟨vw2.Aim.Az, o3.Arg⟩ : S_Pose), vw2.Mode, vw2.Hazard, vw2.Key⟩ : S_World))))))) else (if o3.Kind = 2 then ((mount_Goto k m1 vw2.Mount (⟨vw2.Aim.Az, vw2.Aim.Alt⟩ : S_Pose)).bind fun (vt82, vt83) => (some (Sum.inr (vt83, (⟨vt82, vw2.Dome, vw2.Camera, vw2.Sensors, (⟨vw2.Aim.Az, vw2.Aim.Alt⟩ : S_Pose), vw2.Mode, vw2.Hazard, vw2.Key⟩ : S_World))))) else (if o3.Kind = 3 then ((mount_Follow k m1 vw2.Mount (⟨vw2.Aim.Az, vw2.Aim.Alt⟩ : S_Pose)).bind fun (vt96, vt97) => (some (Sum.inr (vt97, (⟨vt96, vw2.Dome, vw2.Camera, vw2.Sensors, (⟨vw2.Aim.Az, vw2.Aim.Alt⟩ : S_Pose), vw2.Mode, vw2.Hazard, vw2.Key⟩ : S_World))))) else (if o3.Kind = 4 then ((mount_Park k m1 vw2.Mount).bind fun (vt110, vt111) => (some (Sum.inr (vt111, (⟨vt110, vw2.Dome, vw2.Camera, vw2.Sensors, (⟨vw2.Aim.Az, vw2.Aim.Alt⟩ : S_Pose), vw2.Mode, vw2.Hazard, vw2.Key⟩ : S_World))))) else (if o3.Kind = 5 then ((mount_Stop k m1 vw2.Mount).bind fun (vt126, vt127) => ((dome_Brake k vw2.Dome).bind fun (vt136, vt137) => (some (Sum.inr (0, (⟨vt126, vt136, vw2.Camera, vw2.Sensors, (⟨vw2.Aim.Az, vw2.Aim.Alt⟩ : S_Pose), vw2.Mode, vw2.Hazard, vw2.Key⟩ : S_World)))))) else (((if o3.Kind = 6 then (some (o3.Kind == 6)) else (some (o3.Kind == 7)) : Option (Bool))).bind fun x156 => (if x156 = true then ((dome_Set k vw2.Dome (o3.Kind == 6) (o3.Kind == 6)).bind fun (vt162, vt163) => (some (Sum.inr (vt163, (⟨vw2.Mount, vt162, vw2.Camera, vw2.Sensors, (⟨vw2.Aim.Az, vw2.Aim.Alt⟩ : S_Pose), vw2.Mode, vw2.Hazard, vw2.Key⟩ : S_World))))) else (((if o3.Kind = 8 then ((dome_Rotate k vw2.Dome o3.Arg).bind fun (vt176, vt177) => (some (Sum.inr (vt177, (⟨vw2.Mount, vt176, vw2.Camera, vw2.Sensors, (⟨vw2.Aim.Az, vw2.Aim.Alt⟩ : S_Pose), vw2.Mode, vw2.Hazard, vw2.Key⟩ : S_World))))) else (if o3.Kind = 9 then ((guard_expose k vw2 o3.Arg).bind fun (vt192, vt193) => (some (Sum.inl (Sum.inl (vt192, vt193))))) else (if o3.Kind = 10 then ((camera_Abort k vw2.Camera).bind fun (vt205, vt206) => (some (Sum.inr (vt206, (⟨vw2.Mount, vw2.Dome, vt205, vw2.Sensors, (⟨vw2.Aim.Az, vw2.Aim.Alt⟩ : S_Pose), vw2.Mode, vw2.Hazard, vw2.Key⟩ : S_World))))) else (if o3.Kind = 11 then ((camera_Fetch k vw2.Camera).bind fun (vt219, vt220, vt221, vt222) => (some (Sum.inr (vt222, (⟨vw2.Mount, vw2.Dome, vt219, vw2.Sensors, (⟨vw2.Aim.Az, vw2.Aim.Alt⟩ : S_Pose), vw2.Mode, vw2.Hazard, vw2.Key⟩ : S_World))))) else (if o3.Kind = 12 then (if vw2.Mode = 0 then ((guard_begin k m1 vw2).bind fun vt239 => (some (Sum.inr (0, vt239)))) else (some (Sum.inr (0, vw2)))) else (if o3.Kind = 13 then (some (Sum.inr (0, (⟨vw2.Mount, vw2.Dome, vw2.Camera, vw2.Sensors, (⟨vw2.Aim.Az, vw2.Aim.Alt⟩ : S_Pose), 0, vw2.Hazard, vw2.Key⟩ : S_World)))) else (some (Sum.inr (0, vw2)))))))) : Option (Sum (Sum (S_World × Int) (Int × S_World)) (Int × S_World)))).bind fun z_ => Sum.elim (fun y_ => some y_) (fun (e260, x261) => (some (Sum.inr (e260, x261)))) z_))))))) : Option (Sum (S_World × Int) (Int × S_World)))).bind fun z_ => Sum.elim (fun y_ => some y_) (fun (e291, x292) => (some (x292, e291))) z_)
def guard_Give (k : Nat) (m1 : S_Mount) (vw2 : S_World) (o3 : S_Order) : Option (S_World × Int) :=
  (guard_Check k m1 vw2).bind fun vt26 => (if vt26 ≠ 0 then (none) else (((if o3.Kind < 0 then (some true) else (if o3.Kind ≥ 14 then (some true) else ((guard_uses k o3.Kind).bind fun vt45 => (if ¬ (vt45 = true) then (some (o3.Arg != 0)) else (some false)))) : Option (Bool))).bind fun x57 => (if x57 = true then (some ((⟨(⟨(⟨0, 0, 0, false⟩ : S_State), (⟨0, 0, 0, false⟩ : S_State), 0⟩ : S_State2), (⟨0, 0, false, false, (⟨0, 0, 0, false⟩ : S_State)⟩ : S_State3), (⟨0, 0, 0, 0⟩ : S_State4), (⟨false, false, false, false, false⟩ : S_Sensors), (⟨0, 0⟩ : S_Pose), 0, 0, 0⟩ : S_World), 3)) else ((guard_permitted k vw2 o3.Kind).bind fun vt71 => (if ¬ (vt71 = true) then (some ((⟨(⟨(⟨0, 0, 0, false⟩ : S_State), (⟨0, 0, 0, false⟩ : S_State), 0⟩ : S_State2), (⟨0, 0, false, false, (⟨0, 0, 0, false⟩ : S_State)⟩ : S_State3), (⟨0, 0, 0, 0⟩ : S_State4), (⟨false, false, false, false, false⟩ : S_Sensors), (⟨0, 0⟩ : S_Pose), 0, 0, 0⟩ : S_World), 16)) else (((if vw2.Camera.Mode = 1 then (if o3.Kind = 2 then (some true) else (if o3.Kind = 4 then (some true) else (if o3.Kind = 5 then (some true) else (if o3.Kind = 7 then (some true) else (some (o3.Kind == 8)))))) else (some false) : Option (Bool))).bind fun x100 => (if x100 = true then (some ((⟨(⟨(⟨0, 0, 0, false⟩ : S_State), (⟨0, 0, 0, false⟩ : S_State), 0⟩ : S_State2), (⟨0, 0, false, false, (⟨0, 0, 0, false⟩ : S_State)⟩ : S_State3), (⟨0, 0, 0, 0⟩ : S_State4), (⟨false, false, false, false, false⟩ : S_Sensors), (⟨0, 0⟩ : S_Pose), 0, 0, 0⟩ : S_World), 16)) else ((guard_carry k m1 vw2 o3).bind fun (vt112, vt113) => (if vt113 ≠ 0 then (some ((⟨(⟨(⟨0, 0, 0, false⟩ : S_State), (⟨0, 0, 0, false⟩ : S_State), 0⟩ : S_State2), (⟨0, 0, false, false, (⟨0, 0, 0, false⟩ : S_State)⟩ : S_State3), (⟨0, 0, 0, 0⟩ : S_State4), (⟨false, false, false, false, false⟩ : S_Sensors), (⟨0, 0⟩ : S_Pose), 0, 0, 0⟩ : S_World), vt113)) else (some (vt112, 0)))))))))))
def guard_count (k : Nat) (n1 : Int) (on2 : Bool) : Option (Int) :=
  if ¬ (on2 = true) then (some 0) else (some (mn (w64 (n1 + 1)) 17592186044416))
def guard_lock (k : Nat) (m1 : S_Mount) (vw2 : S_World) : Option (S_World) :=
  ((if vw2.Camera.Mode = 1 then ((camera_Abort k vw2.Camera).bind fun (vt23, vt24) => (some (⟨vw2.Mount, vw2.Dome, vt23, vw2.Sensors, (⟨vw2.Aim.Az, vw2.Aim.Alt⟩ : S_Pose), vw2.Mode, vw2.Hazard, vw2.Key⟩ : S_World))) else (some vw2) : Option (S_World))).bind fun x38 => ((mount_Stop k m1 x38.Mount).bind fun (vt47, vt48) => ((dome_Brake k x38.Dome).bind fun (vt59, vt60) => (some (⟨vt47, vt59, x38.Camera, x38.Sensors, (⟨x38.Aim.Az, x38.Aim.Alt⟩ : S_Pose), x38.Mode, x38.Hazard, x38.Key⟩ : S_World))))
def slew_fastest.l0 (k : Nat) (d2 : Int) (a1 : S_Axis) : Nat → Int → Option (Sum Int Unit)
  | 0, _ => none
  | n_ + 1, vk28 =>
    if vk28 ≤ 64 then (if d2 ≤ (w64 (a1.Accel * (w64 (Int.tdiv (w64 (vk28 * (w64 (vk28 + 1)))) 2)))) then (if ¬ (vk28 = 0) then (some (Sum.inl (mn a1.Speed (w64 (Int.tdiv (w64 (d2 + (w64 (a1.Accel * (w64 (Int.tdiv (w64 (vk28 * (w64 (vk28 - 1)))) 2)))))) vk28))))) else none) else (slew_fastest.l0 k d2 a1 n_ (w64 (vk28 + 1)))) else (some (Sum.inr ()))
def slew_fastest (k : Nat) (a1 : S_Axis) (d2 : Int) : Option (Int) :=
  (slew_fastest.l0 k d2 a1 k 1).bind fun z_ => Sum.elim (fun y_ => some y_) (fun _ => (some a1.Speed)) z_
def slew_Fastest (k : Nat) (a1 : S_Axis) (d2 : Int) : Option (Int) :=
  (slew_CheckAxis k a1).bind fun vt14 => (if vt14 ≠ 0 then (none) else (if d2 < 0 then (none) else ((slew_fastest k a1 d2).bind fun vt29 => (some vt29))))
def axis_next (k : Nat) (a1 : S_Axis) (d2 : Int) (v3 : Int) : Option (Int) :=
  if v3 < 0 then (some (mn (w64 (v3 + a1.Accel)) 0)) else ((slew_Fastest k a1 d2).bind fun vt29 => (some (mx (mx (w64 (v3 - a1.Accel)) 0) (mn (w64 (v3 + a1.Accel)) vt29))))
def axis_Step (k : Nat) (a1 : S_Axis) (s2 : S_State) : Option (S_State) :=
  (axis_Check k a1 s2).bind fun vt21 => (if vt21 ≠ 0 then (none) else (((if s2.Halt = true then (some (decide (s2.Speed > 0))) else (some false) : Option (Bool))).bind fun x49 => (((if x49 = true then (some (mx (w64 (s2.Speed - a1.Accel)) 0)) else (((if s2.Halt = true then (some (mn (w64 (s2.Speed + a1.Accel)) 0)) else (((if s2.Goal ≥ s2.At then ((axis_next k a1 (w64 (s2.Goal - s2.At)) s2.Speed).bind fun vt69 => (some vt69)) else ((axis_next k a1 (w64 (s2.At - s2.Goal)) (w64 (0 - s2.Speed))).bind fun vt78 => (some (w64 (0 - vt78)))) : Option (Int))).bind fun x92 => (some x92)) : Option (Int))).bind fun x107 => (some x107)) : Option (Int))).bind fun x119 => (if s2.Halt = true then (if x119 = 0 then (some (⟨w64 (s2.At + x119), x119, w64 (s2.At + x119), false⟩ : S_State)) else (some (⟨w64 (s2.At + x119), x119, s2.Goal, s2.Halt⟩ : S_State))) else (some (⟨w64 (s2.At + x119), x119, s2.Goal, s2.Halt⟩ : S_State))))))
def mount_Step (k : Nat) (m1 : S_Mount) (s2 : S_State2) : Option (S_State2) :=
  (mount_Check k m1 s2).bind fun vt21 => (if vt21 ≠ 0 then (none) else ((axis_Step k m1.Az s2.Az).bind fun vt46 => ((axis_Step k m1.Alt s2.Alt).bind fun vt54 => ((((axis_Resting k vt46).bind fun vt73 => (if ¬ (vt73 = true) then (some true) else ((axis_Resting k vt54).bind fun vt80 => (some (!vt80)))) : Option (Bool))).bind fun x91 => (if x91 = true then (some (⟨vt46, vt54, s2.Mode⟩ : S_State2)) else (if s2.Mode = 2 then (some (⟨vt46, vt54, 3⟩ : S_State2)) else (if s2.Mode = 4 then (some (⟨vt46, vt54, 0⟩ : S_State2)) else (if s2.Mode = 5 then (some (⟨vt46, vt54, 1⟩ : S_State2)) else (some (⟨vt46, vt54, s2.Mode⟩ : S_State2))))))))))
def dome_Step (k : Nat) (s1 : S_State3) : Option (S_State3) :=
  (dome_Check k s1).bind fun vt16 => (if vt16 ≠ 0 then (none) else (((if s1.Lift = true then (some s1.Open) else (some false) : Option (Bool))).bind fun x37 => (((if x37 = true then (((if s1.Shutter = 100 then (some (mn (w64 (s1.Cover + 1)) 20)) else (some s1.Cover) : Option (Int))).bind fun x55 => (some x55)) else (some (mx (w64 (s1.Cover - 2)) 0)) : Option (Int))).bind fun x68 => (((if s1.Open = true then (some (mn (w64 (s1.Shutter + 4)) 100)) else (((if x68 = 0 then (some (mx (w64 (s1.Shutter - 5)) 0)) else (some s1.Shutter) : Option (Int))).bind fun x101 => (some x101)) : Option (Int))).bind fun x111 => ((dome_Axis k).bind fun vt123 => ((axis_Step k vt123 s1.Turn).bind fun vt130 => (some (⟨x111, x68, s1.Open, s1.Lift, vt130⟩ : S_State3))))))))
def camera_Step (k : Nat) (s1 : S_State4) : Option (S_State4) :=
  (camera_Check k s1).bind fun vt16 => (if vt16 ≠ 0 then (none) else (if s1.Mode = 1 then (if (w64 (s1.Left - 1)) = 0 then (some (⟨2, 3, s1.Beats, s1.Number⟩ : S_State4)) else (some (⟨s1.Mode, w64 (s1.Left - 1), s1.Beats, s1.Number⟩ : S_State4))) else (if s1.Mode = 2 then (if (w64 (s1.Left - 1)) = 0 then (some (⟨3, w64 (s1.Left - 1), s1.Beats, s1.Number⟩ : S_State4)) else (some (⟨s1.Mode, w64 (s1.Left - 1), s1.Beats, s1.Number⟩ : S_State4))) else (some s1))))
def guard_Step (k : Nat) (m1 : S_Mount) (vw2 : S_World) (s3 : S_Sensors) : Option (S_World) :=
  (guard_Check k m1 vw2).bind fun vt26 => (if vt26 ≠ 0 then (none) else ((guard_Sensors_Hazard k s3).bind fun vt53 => ((guard_count k vw2.Hazard vt53).bind fun vt60 => ((guard_count k vw2.Key s3.Key).bind fun vt67 => (((if vw2.Mode = 0 then ((guard_Sensors_Hazard k s3).bind fun vt91 => (some vt91)) else (some false) : Option (Bool))).bind fun x102 => (((if x102 = true then ((guard_begin k m1 (⟨vw2.Mount, vw2.Dome, vw2.Camera, s3, (⟨vw2.Aim.Az, vw2.Aim.Alt⟩ : S_Pose), vw2.Mode, vt60, vt67⟩ : S_World)).bind fun vt108 => (some vt108)) else (some (⟨vw2.Mount, vw2.Dome, vw2.Camera, s3, (⟨vw2.Aim.Az, vw2.Aim.Alt⟩ : S_Pose), vw2.Mode, vt60, vt67⟩ : S_World)) : Option (S_World))).bind fun x121 => (((if s3.Key = true then ((guard_lock k m1 x121).bind fun vt131 => (some vt131)) else (some x121) : Option (S_World))).bind fun x144 => ((mount_Step k m1 x144.Mount).bind fun vt163 => ((dome_Step k x144.Dome).bind fun vt171 => ((camera_Step k x144.Camera).bind fun vt178 => (if x144.Mode = 1 then ((guard_AtRest k (⟨vt163, vt171, vt178, x144.Sensors, (⟨x144.Aim.Az, x144.Aim.Alt⟩ : S_Pose), x144.Mode, x144.Hazard, x144.Key⟩ : S_World)).bind fun vt202 => (if vt202 = true then (some (⟨vt163, vt171, vt178, x144.Sensors, (⟨x144.Aim.Az, x144.Aim.Alt⟩ : S_Pose), 2, x144.Hazard, x144.Key⟩ : S_World)) else (some (⟨vt163, vt171, vt178, x144.Sensors, (⟨x144.Aim.Az, x144.Aim.Alt⟩ : S_Pose), x144.Mode, x144.Hazard, x144.Key⟩ : S_World)))) else (some (⟨vt163, vt171, vt178, x144.Sensors, (⟨x144.Aim.Az, x144.Aim.Alt⟩ : S_Pose), x144.Mode, x144.Hazard, x144.Key⟩ : S_World)))))))))))))
def guard_Run.l1 (k : Nat) (l3 : List S_Input) (x395 : Int) (m1 : S_Mount) : Nat → (List Int) → Int → S_World → Option ((List Int) × S_World)
  | 0, _, _, _ => none
  | n_ + 1, es545, x550, x551 =>
    if x550 < (((rd l3 x395).Orders).length : Int) then (if 0 ≤ x550 then ((guard_Give k m1 x551 (rd ((rd l3 x395).Orders) x550)).bind fun (vt584, vt585) => (if vt585 = 0 then (if (es545.length + 1) * 8 ≤ 140737488355328 then (guard_Run.l1 k l3 x395 m1 n_ (es545 ++ ([vt585] : List Int)) (w64 (x550 + 1)) vt584) else none) else (if (es545.length + 1) * 8 ≤ 140737488355328 then (guard_Run.l1 k l3 x395 m1 n_ (es545 ++ ([vt585] : List Int)) (w64 (x550 + 1)) x551) else none))) else none) else (some (es545, x551))
def guard_Run.l0 (k : Nat) (l3 : List S_Input) (m1 : S_Mount) : Nat → (List S_World) → (List Int) → Int → S_World → Option ((List S_World) × (List Int) × S_World)
  | 0, _, _, _, _ => none
  | n_ + 1, out383, es389, x395, x396 =>
    if x395 < (l3.length : Int) then (if 0 ≤ x395 then ((guard_Run.l1 k l3 x395 m1 k es389 0 x396).bind fun (es641, x646) => ((guard_Step k m1 x646 ((rd l3 x395).Sensors)).bind fun vt670 => (if (out383.length + 1) * 208 ≤ 140737488355328 then (guard_Run.l0 k l3 m1 n_ (out383 ++ ([vt670] : List S_World)) es641 (w64 (x395 + 1)) vt670) else none))) else none) else (some (out383, es389, x396))
def guard_Run (k : Nat) (m1 : S_Mount) (vw2 : S_World) (l3 : List S_Input) : Option ((List S_World) × (List Int) × Int) :=
  (guard_Check k m1 vw2).bind fun vt21 => (if vt21 ≠ 0 then (none) else (if (l3.length : Int) > 2000 then (none) else ((guard_Run.l0 k l3 m1 k ([] : List S_World) ([] : List Int) 0 vw2).bind fun (out699, es705, x711) => (some (out699, es705, 0)))))
def spytop_h1sends (k : Nat) : Option (Bool) :=
  (link_Run k ([(⟨13, 0, 10⟩ : S_Cmd)] : List S_Cmd) ([] : List S_Fate) ([] : List S_Fate) 3).bind fun (vt16, vt17) => ((guard_Start k (⟨(⟨0, 0, 0, 0⟩ : S_Axis), (⟨0, 0, 0, 0⟩ : S_Axis), (⟨0, 0⟩ : S_Pose)⟩ : S_Mount)).bind fun vt49 => (if vt17 = 0 then (if (vt16.Execs.length : Int) = 1 then (some (vt49.Mode == 2)) else (some false)) else (some false)))
def spytop_TopSafe.l1 (k : Nat) (vt16 : S_Mount) (l1 : List Int) : Nat → Int → S_World → Option (S_World)
  | 0, _, _ => none
  | n_ + 1, x899, x900 =>
    if x899 < (([6, 2, 4, 7, 5] : List Int).length : Int) then (if 0 ≤ x899 then ((guard_Give k vt16 x900 (⟨(rd ([6, 2, 4, 7, 5] : List Int) x899), 0⟩ : S_Order)).bind fun (vt924, vt925) => (if vt925 = 0 then (spytop_TopSafe.l1 k vt16 l1 n_ (w64 (x899 + 1)) vt924) else (spytop_TopSafe.l1 k vt16 l1 n_ (w64 (x899 + 1)) x900))) else none) else (some x900)
def spytop_TopSafe.l0 (k : Nat) (l1 : List Int) (vt16 : S_Mount) : Nat → Int → S_World → Int → Option (S_World × Int)
  | 0, _, _, _ => none
  | n_ + 1, x801, x802, x803 =>
    if x801 < 102 then ((spytop_TopSafe.l1 k vt16 l1 k 0 x802).bind fun x949 => ((spymake_Stream_Next k (⟨l1, x803⟩ : S_Stream) 9).bind fun (vt995, vt996) => ((spymake_Stream_Next k (⟨l1, vt996⟩ : S_Stream) 9).bind fun (vt1004, vt1005) => ((guard_Step k vt16 x949 (⟨(vt995 == 0), false, false, false, (vt1004 == 0)⟩ : S_Sensors)).bind fun vt1013 => (((if x801 ≥ 96 then (if vt1013.Mode ≠ 2 then (some true) else ((guard_AtRest k vt1013).bind fun vt1029 => (if ¬ (vt1029 = true) then (some true) else ((dome_Closed k vt1013.Dome).bind fun vt1036 => (some (!vt1036)))))) else (some false) : Option (Bool))).bind fun x1047 => (if x1047 = true then (none) else (spytop_TopSafe.l0 k l1 vt16 n_ (w64 (x801 + 1)) vt1013 vt1005))))))) else (some (x802, x803))
def spytop_TopSafe (k : Nat) (l1 : List Int) (vk5 : Int) : Option (Bool) :=
  (spymake_Stream_Mount k (⟨l1, 0⟩ : S_Stream)).bind fun (vt16, vt17) => ((spytop_h1orders k (⟨l1, vt17⟩ : S_Stream) vt16).bind fun (vt32, vt33) => ((spytop_h1fates k (⟨l1, vt33⟩ : S_Stream)).bind fun (vt45, vt46) => ((spytop_h1fates k (⟨l1, vt46⟩ : S_Stream)).bind fun (vt58, vt59) => ((spymake_Below k vk5 200).bind fun vt72 => ((link_Run k vt32 vt45 vt58 (w64 (vt72 + 1))).bind fun (vt97, vt98) => ((guard_Start k vt16).bind fun vt366 => ((spytop_h1script k (⟨l1, vt59⟩ : S_Stream) vt32 vt97 (w64 (vt72 + 1))).bind fun (vt389, vt390) => ((guard_Run k vt16 vt366 vt389).bind fun (vt407, vt408, vt409) => ((((spytop_h1sends k).bind fun vt435 => (if ¬ (vt435 = true) then (some true) else (if vt98 ≠ 0 then (some true) else (if vt409 ≠ 0 then (some true) else (some ((vt407.length : Int) != (w64 (vt72 + 1))))))) : Option (Bool))).bind fun x449 => (if x449 = true then (none) else (if 0 ≤ (w64 ((w64 (vt72 + 1)) - 1)) then (if (w64 ((w64 (vt72 + 1)) - 1)) < (vt407.length : Int) then ((guard_Give k vt16 (rd vt407 (w64 ((w64 (vt72 + 1)) - 1))) (⟨12, 0⟩ : S_Order)).bind fun (vt473, vt474) => ((spytop_TopSafe.l0 k l1 vt16 k 0 vt473 vt390).bind fun (x1060, x1061) => (some (vt474 == 0)))) else none) else none)))))))))))
end Go.Sp.S4
