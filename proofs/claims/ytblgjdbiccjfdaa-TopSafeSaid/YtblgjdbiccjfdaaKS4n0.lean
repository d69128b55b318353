import Derived.Test.YtblgjdbiccjfdaaProg
import Derived.Test.YtblgjdbiccjfdaaSpCopy
import Derived.Test.YtblgjdbiccjfdaaFS4
import Derived.Test.YtblgjdbiccjfdaaSpTake
namespace Go.Sp.S4
open Go Go.Sp Go.Proofs
set_option linter.unusedVariables false
attribute [local irreducible] wpList AnyL Code.wp Calls Does

def ty_Stream : Ty S_Stream where
  sz := 2
  rep := fun f cs x => ∃ (A0 : Option Addr) (c0 : Nat), cs = [.slice A0 x.L.length c0, .int .i64 x.vat] ∧ SlR (tInt .i64) f A0 c0 x.L
  pos := by decide
  len := by rintro f cs x ⟨A0, c0, rfl, h0⟩; rfl
  mono := by rintro f g cs x hl ⟨A0, c0, rfl, h0⟩; exact ⟨A0, c0, rfl, h0.mono hl⟩
  one := by
    rintro f cs x ⟨A0, c0, rfl, h0⟩ v hv
    simp only [List.mem_cons, List.not_mem_nil, or_false] at hv
    rcases hv with rfl | rfl <;> rfl
def ty_Axis : Ty S_Axis where
  sz := 4
  rep := fun f cs x => cs = [.int .i64 x.Min, .int .i64 x.Max, .int .i64 x.Speed, .int .i64 x.Accel]
  pos := by decide
  len := by rintro f cs x rfl; rfl
  mono := by rintro f g cs x hl rfl; exact rfl
  one := by
    rintro f cs x rfl v hv
    simp only [List.mem_cons, List.not_mem_nil, or_false] at hv
    rcases hv with rfl | rfl | rfl | rfl <;> rfl
def ty_Pose : Ty S_Pose where
  sz := 2
  rep := fun f cs x => cs = [.int .i64 x.Az, .int .i64 x.Alt]
  pos := by decide
  len := by rintro f cs x rfl; rfl
  mono := by rintro f g cs x hl rfl; exact rfl
  one := by
    rintro f cs x rfl v hv
    simp only [List.mem_cons, List.not_mem_nil, or_false] at hv
    rcases hv with rfl | rfl <;> rfl
def ty_Mount : Ty S_Mount where
  sz := 10
  rep := fun f cs x => cs = [.int .i64 x.Az.Min, .int .i64 x.Az.Max, .int .i64 x.Az.Speed, .int .i64 x.Az.Accel, .int .i64 x.Alt.Min, .int .i64 x.Alt.Max, .int .i64 x.Alt.Speed, .int .i64 x.Alt.Accel, .int .i64 x.Park.Az, .int .i64 x.Park.Alt]
  pos := by decide
  len := by rintro f cs x rfl; rfl
  mono := by rintro f g cs x hl rfl; exact rfl
  one := by
    rintro f cs x rfl v hv
    simp only [List.mem_cons, List.not_mem_nil, or_false] at hv
    rcases hv with rfl | rfl | rfl | rfl | rfl | rfl | rfl | rfl | rfl | rfl <;> rfl
def ty_Cmd : Ty S_Cmd where
  sz := 3
  rep := fun f cs x => cs = [.int .i64 x.Op, .int .i64 x.Arg, .int .i64 x.Due]
  pos := by decide
  len := by rintro f cs x rfl; rfl
  mono := by rintro f g cs x hl rfl; exact rfl
  one := by
    rintro f cs x rfl v hv
    simp only [List.mem_cons, List.not_mem_nil, or_false] at hv
    rcases hv with rfl | rfl | rfl <;> rfl
def ty_Fate : Ty S_Fate where
  sz := 4
  rep := fun f cs x => ∃ (A3 : Option Addr) (c3 : Nat), cs = [.bool x.Lost, .int .i64 x.Delay, .int .i64 x.Twice, .slice A3 x.Bits.length c3] ∧ SlR (tInt .i64) f A3 c3 x.Bits
  pos := by decide
  len := by rintro f cs x ⟨A3, c3, rfl, h3⟩; rfl
  mono := by rintro f g cs x hl ⟨A3, c3, rfl, h3⟩; exact ⟨A3, c3, rfl, h3.mono hl⟩
  one := by
    rintro f cs x ⟨A3, c3, rfl, h3⟩ v hv
    simp only [List.mem_cons, List.not_mem_nil, or_false] at hv
    rcases hv with rfl | rfl | rfl | rfl <;> rfl
def ty_Exec : Ty S_Exec where
  sz := 2
  rep := fun f cs x => cs = [.int .i64 x.Cmd, .int .i64 x.At]
  pos := by decide
  len := by rintro f cs x rfl; rfl
  mono := by rintro f g cs x hl rfl; exact rfl
  one := by
    rintro f cs x rfl v hv
    simp only [List.mem_cons, List.not_mem_nil, or_false] at hv
    rcases hv with rfl | rfl <;> rfl
def ty_Log : Ty S_Log where
  sz := 5
  rep := fun f cs x => ∃ (A0 : Option Addr) (c0 : Nat) (A1 : Option Addr) (c1 : Nat) (A2 : Option Addr) (c2 : Nat), cs = [.slice A0 x.Execs.length c0, .slice A1 x.Reports.length c1, .slice A2 x.At.length c2, .int .i64 x.Sent, .int .i64 x.Heard] ∧ SlR ty_Exec f A0 c0 x.Execs ∧ SlR (tInt .i64) f A1 c1 x.Reports ∧ SlR (tInt .i64) f A2 c2 x.At
  pos := by decide
  len := by rintro f cs x ⟨A0, c0, A1, c1, A2, c2, rfl, h0, h1, h2⟩; rfl
  mono := by rintro f g cs x hl ⟨A0, c0, A1, c1, A2, c2, rfl, h0, h1, h2⟩; exact ⟨A0, c0, A1, c1, A2, c2, rfl, h0.mono hl, h1.mono hl, h2.mono hl⟩
  one := by
    rintro f cs x ⟨A0, c0, A1, c1, A2, c2, rfl, h0, h1, h2⟩ v hv
    simp only [List.mem_cons, List.not_mem_nil, or_false] at hv
    rcases hv with rfl | rfl | rfl | rfl | rfl <;> rfl
def ty_parcel : Ty S_parcel where
  sz := 2
  rep := fun f cs x => ∃ (A1 : Option Addr) (c1 : Nat), cs = [.int .i64 x.vat, .slice A1 x.bytes.length c1] ∧ SlR (tInt .u8) f A1 c1 x.bytes
  pos := by decide
  len := by rintro f cs x ⟨A1, c1, rfl, h1⟩; rfl
  mono := by rintro f g cs x hl ⟨A1, c1, rfl, h1⟩; exact ⟨A1, c1, rfl, h1.mono hl⟩
  one := by
    rintro f cs x ⟨A1, c1, rfl, h1⟩ v hv
    simp only [List.mem_cons, List.not_mem_nil, or_false] at hv
    rcases hv with rfl | rfl <;> rfl
def ty_line : Ty S_line where
  sz := 3
  rep := fun f cs x => ∃ (A0 : Option Addr) (c0 : Nat) (A1 : Option Addr) (c1 : Nat), cs = [.slice A0 x.fates.length c0, .slice A1 x.way.length c1, .int .i64 x.count] ∧ SlR ty_Fate f A0 c0 x.fates ∧ SlR ty_parcel f A1 c1 x.way
  pos := by decide
  len := by rintro f cs x ⟨A0, c0, A1, c1, rfl, h0, h1⟩; rfl
  mono := by rintro f g cs x hl ⟨A0, c0, A1, c1, rfl, h0, h1⟩; exact ⟨A0, c0, A1, c1, rfl, h0.mono hl, h1.mono hl⟩
  one := by
    rintro f cs x ⟨A0, c0, A1, c1, rfl, h0, h1⟩ v hv
    simp only [List.mem_cons, List.not_mem_nil, or_false] at hv
    rcases hv with rfl | rfl | rfl <;> rfl
def ty_Packet : Ty S_Packet where
  sz := 4
  rep := fun f cs x => ∃ (A3 : Option Addr) (c3 : Nat), cs = [.int .i64 x.Addr, .int .i64 x.Kind, .int .i64 x.Seq, .slice A3 x.Data.length c3] ∧ SlR (tInt .u8) f A3 c3 x.Data
  pos := by decide
  len := by rintro f cs x ⟨A3, c3, rfl, h3⟩; rfl
  mono := by rintro f g cs x hl ⟨A3, c3, rfl, h3⟩; exact ⟨A3, c3, rfl, h3.mono hl⟩
  one := by
    rintro f cs x ⟨A3, c3, rfl, h3⟩ v hv
    simp only [List.mem_cons, List.not_mem_nil, or_false] at hv
    rcases hv with rfl | rfl | rfl | rfl <;> rfl
def ty_Reader : Ty S_Reader where
  sz := 5
  rep := fun f cs x => ∃ (A0 : Option Addr) (c0 : Nat), cs = [.slice A0 x.body.length c0, .bool x.escape, .bool x.skip, .bool x.vopen, .int .i64 x.Bad] ∧ SlR (tInt .u8) f A0 c0 x.body
  pos := by decide
  len := by rintro f cs x ⟨A0, c0, rfl, h0⟩; rfl
  mono := by rintro f g cs x hl ⟨A0, c0, rfl, h0⟩; exact ⟨A0, c0, rfl, h0.mono hl⟩
  one := by
    rintro f cs x ⟨A0, c0, rfl, h0⟩ v hv
    simp only [List.mem_cons, List.not_mem_nil, or_false] at hv
    rcases hv with rfl | rfl | rfl | rfl | rfl <;> rfl
def ty_device : Ty S_device where
  sz := 3
  rep := fun f cs x => ∃ (A2 : Option Addr) (c2 : Nat), cs = [.int .i64 x.last, .bool x.did, .slice A2 x.log.length c2] ∧ SlR ty_Exec f A2 c2 x.log
  pos := by decide
  len := by rintro f cs x ⟨A2, c2, rfl, h2⟩; rfl
  mono := by rintro f g cs x hl ⟨A2, c2, rfl, h2⟩; exact ⟨A2, c2, rfl, h2.mono hl⟩
  one := by
    rintro f cs x ⟨A2, c2, rfl, h2⟩ v hv
    simp only [List.mem_cons, List.not_mem_nil, or_false] at hv
    rcases hv with rfl | rfl | rfl <;> rfl
def ty_State : Ty S_State where
  sz := 4
  rep := fun f cs x => cs = [.int .i64 x.At, .int .i64 x.Speed, .int .i64 x.Goal, .bool x.Halt]
  pos := by decide
  len := by rintro f cs x rfl; rfl
  mono := by rintro f g cs x hl rfl; exact rfl
  one := by
    rintro f cs x rfl v hv
    simp only [List.mem_cons, List.not_mem_nil, or_false] at hv
    rcases hv with rfl | rfl | rfl | rfl <;> rfl
def ty_State2 : Ty S_State2 where
  sz := 9
  rep := fun f cs x => cs = [.int .i64 x.Az.At, .int .i64 x.Az.Speed, .int .i64 x.Az.Goal, .bool x.Az.Halt, .int .i64 x.Alt.At, .int .i64 x.Alt.Speed, .int .i64 x.Alt.Goal, .bool x.Alt.Halt, .int .i64 x.Mode]
  pos := by decide
  len := by rintro f cs x rfl; rfl
  mono := by rintro f g cs x hl rfl; exact rfl
  one := by
    rintro f cs x rfl v hv
    simp only [List.mem_cons, List.not_mem_nil, or_false] at hv
    rcases hv with rfl | rfl | rfl | rfl | rfl | rfl | rfl | rfl | rfl <;> rfl
def ty_State3 : Ty S_State3 where
  sz := 8
  rep := fun f cs x => cs = [.int .i64 x.Shutter, .int .i64 x.Cover, .bool x.Open, .bool x.Lift, .int .i64 x.Turn.At, .int .i64 x.Turn.Speed, .int .i64 x.Turn.Goal, .bool x.Turn.Halt]
  pos := by decide
  len := by rintro f cs x rfl; rfl
  mono := by rintro f g cs x hl rfl; exact rfl
  one := by
    rintro f cs x rfl v hv
    simp only [List.mem_cons, List.not_mem_nil, or_false] at hv
    rcases hv with rfl | rfl | rfl | rfl | rfl | rfl | rfl | rfl <;> rfl
def ty_State4 : Ty S_State4 where
  sz := 4
  rep := fun f cs x => cs = [.int .i64 x.Mode, .int .i64 x.Left, .int .i64 x.Beats, .int .i64 x.Number]
  pos := by decide
  len := by rintro f cs x rfl; rfl
  mono := by rintro f g cs x hl rfl; exact rfl
  one := by
    rintro f cs x rfl v hv
    simp only [List.mem_cons, List.not_mem_nil, or_false] at hv
    rcases hv with rfl | rfl | rfl | rfl <;> rfl
def ty_Sensors : Ty S_Sensors where
  sz := 5
  rep := fun f cs x => cs = [.bool x.Rain, .bool x.Wind, .bool x.Day, .bool x.Power, .bool x.Key]
  pos := by decide
  len := by rintro f cs x rfl; rfl
  mono := by rintro f g cs x hl rfl; exact rfl
  one := by
    rintro f cs x rfl v hv
    simp only [List.mem_cons, List.not_mem_nil, or_false] at hv
    rcases hv with rfl | rfl | rfl | rfl | rfl <;> rfl
def ty_World : Ty S_World where
  sz := 31
  rep := fun f cs x => cs = [.int .i64 x.Mount.Az.At, .int .i64 x.Mount.Az.Speed, .int .i64 x.Mount.Az.Goal, .bool x.Mount.Az.Halt, .int .i64 x.Mount.Alt.At, .int .i64 x.Mount.Alt.Speed, .int .i64 x.Mount.Alt.Goal, .bool x.Mount.Alt.Halt, .int .i64 x.Mount.Mode, .int .i64 x.Dome.Shutter, .int .i64 x.Dome.Cover, .bool x.Dome.Open, .bool x.Dome.Lift, .int .i64 x.Dome.Turn.At, .int .i64 x.Dome.Turn.Speed, .int .i64 x.Dome.Turn.Goal, .bool x.Dome.Turn.Halt, .int .i64 x.Camera.Mode, .int .i64 x.Camera.Left, .int .i64 x.Camera.Beats, .int .i64 x.Camera.Number, .bool x.Sensors.Rain, .bool x.Sensors.Wind, .bool x.Sensors.Day, .bool x.Sensors.Power, .bool x.Sensors.Key, .int .i64 x.Aim.Az, .int .i64 x.Aim.Alt, .int .i64 x.Mode, .int .i64 x.Hazard, .int .i64 x.Key]
  pos := by decide
  len := by rintro f cs x rfl; rfl
  mono := by rintro f g cs x hl rfl; exact rfl
  one := by
    rintro f cs x rfl v hv
    simp only [List.mem_cons, List.not_mem_nil, or_false] at hv
    rcases hv with rfl | rfl | rfl | rfl | rfl | rfl | rfl | rfl | rfl | rfl | rfl | rfl | rfl | rfl | rfl | rfl | rfl | rfl | rfl | rfl | rfl | rfl | rfl | rfl | rfl | rfl | rfl | rfl | rfl | rfl | rfl <;> rfl
def ty_Order : Ty S_Order where
  sz := 2
  rep := fun f cs x => cs = [.int .i64 x.Kind, .int .i64 x.Arg]
  pos := by decide
  len := by rintro f cs x rfl; rfl
  mono := by rintro f g cs x hl rfl; exact rfl
  one := by
    rintro f cs x rfl v hv
    simp only [List.mem_cons, List.not_mem_nil, or_false] at hv
    rcases hv with rfl | rfl <;> rfl
def ty_Input : Ty S_Input where
  sz := 6
  rep := fun f cs x => ∃ (A0 : Option Addr) (c0 : Nat), cs = [.slice A0 x.Orders.length c0, .bool x.Sensors.Rain, .bool x.Sensors.Wind, .bool x.Sensors.Day, .bool x.Sensors.Power, .bool x.Sensors.Key] ∧ SlR ty_Order f A0 c0 x.Orders
  pos := by decide
  len := by rintro f cs x ⟨A0, c0, rfl, h0⟩; rfl
  mono := by rintro f g cs x hl ⟨A0, c0, rfl, h0⟩; exact ⟨A0, c0, rfl, h0.mono hl⟩
  one := by
    rintro f cs x ⟨A0, c0, rfl, h0⟩ v hv
    simp only [List.mem_cons, List.not_mem_nil, or_false] at hv
    rcases hv with rfl | rfl | rfl | rfl | rfl | rfl <;> rfl
abbrev ag_Axis (x : S_Axis) : Value := .agg #[.int .i64 x.Min, .int .i64 x.Max, .int .i64 x.Speed, .int .i64 x.Accel]
abbrev ag_Mount (x : S_Mount) : Value := .agg #[.int .i64 x.Az.Min, .int .i64 x.Az.Max, .int .i64 x.Az.Speed, .int .i64 x.Az.Accel, .int .i64 x.Alt.Min, .int .i64 x.Alt.Max, .int .i64 x.Alt.Speed, .int .i64 x.Alt.Accel, .int .i64 x.Park.Az, .int .i64 x.Park.Alt]
abbrev ag_Cmd (x : S_Cmd) : Value := .agg #[.int .i64 x.Op, .int .i64 x.Arg, .int .i64 x.Due]
abbrev ag_Fate (x : S_Fate) (A3 : Option Addr) (c3 : Nat) : Value := .agg #[.bool x.Lost, .int .i64 x.Delay, .int .i64 x.Twice, .slice A3 x.Bits.length c3]
abbrev ag_Log (x : S_Log) (A0 : Option Addr) (c0 : Nat) (A1 : Option Addr) (c1 : Nat) (A2 : Option Addr) (c2 : Nat) : Value := .agg #[.slice A0 x.Execs.length c0, .slice A1 x.Reports.length c1, .slice A2 x.At.length c2, .int .i64 x.Sent, .int .i64 x.Heard]
abbrev ag_Reader (x : S_Reader) (A0 : Option Addr) (c0 : Nat) : Value := .agg #[.slice A0 x.body.length c0, .bool x.escape, .bool x.skip, .bool x.vopen, .int .i64 x.Bad]
abbrev ag_Packet (x : S_Packet) (A3 : Option Addr) (c3 : Nat) : Value := .agg #[.int .i64 x.Addr, .int .i64 x.Kind, .int .i64 x.Seq, .slice A3 x.Data.length c3]
abbrev ag_line (x : S_line) (A0 : Option Addr) (c0 : Nat) (A1 : Option Addr) (c1 : Nat) : Value := .agg #[.slice A0 x.fates.length c0, .slice A1 x.way.length c1, .int .i64 x.count]
abbrev ag_Sensors (x : S_Sensors) : Value := .agg #[.bool x.Rain, .bool x.Wind, .bool x.Day, .bool x.Power, .bool x.Key]
abbrev ag_Input (x : S_Input) (A0 : Option Addr) (c0 : Nat) : Value := .agg #[.slice A0 x.Orders.length c0, .bool x.Sensors.Rain, .bool x.Sensors.Wind, .bool x.Sensors.Day, .bool x.Sensors.Power, .bool x.Sensors.Key]
abbrev ag_World (x : S_World) : Value := .agg #[.int .i64 x.Mount.Az.At, .int .i64 x.Mount.Az.Speed, .int .i64 x.Mount.Az.Goal, .bool x.Mount.Az.Halt, .int .i64 x.Mount.Alt.At, .int .i64 x.Mount.Alt.Speed, .int .i64 x.Mount.Alt.Goal, .bool x.Mount.Alt.Halt, .int .i64 x.Mount.Mode, .int .i64 x.Dome.Shutter, .int .i64 x.Dome.Cover, .bool x.Dome.Open, .bool x.Dome.Lift, .int .i64 x.Dome.Turn.At, .int .i64 x.Dome.Turn.Speed, .int .i64 x.Dome.Turn.Goal, .bool x.Dome.Turn.Halt, .int .i64 x.Camera.Mode, .int .i64 x.Camera.Left, .int .i64 x.Camera.Beats, .int .i64 x.Camera.Number, .bool x.Sensors.Rain, .bool x.Sensors.Wind, .bool x.Sensors.Day, .bool x.Sensors.Power, .bool x.Sensors.Key, .int .i64 x.Aim.Az, .int .i64 x.Aim.Alt, .int .i64 x.Mode, .int .i64 x.Hazard, .int .i64 x.Key]
abbrev ag_State2 (x : S_State2) : Value := .agg #[.int .i64 x.Az.At, .int .i64 x.Az.Speed, .int .i64 x.Az.Goal, .bool x.Az.Halt, .int .i64 x.Alt.At, .int .i64 x.Alt.Speed, .int .i64 x.Alt.Goal, .bool x.Alt.Halt, .int .i64 x.Mode]
abbrev ag_State (x : S_State) : Value := .agg #[.int .i64 x.At, .int .i64 x.Speed, .int .i64 x.Goal, .bool x.Halt]
abbrev ag_State3 (x : S_State3) : Value := .agg #[.int .i64 x.Shutter, .int .i64 x.Cover, .bool x.Open, .bool x.Lift, .int .i64 x.Turn.At, .int .i64 x.Turn.Speed, .int .i64 x.Turn.Goal, .bool x.Turn.Halt]
abbrev ag_State4 (x : S_State4) : Value := .agg #[.int .i64 x.Mode, .int .i64 x.Left, .int .i64 x.Beats, .int .i64 x.Number]
theorem inf76 : Inf Try.prog 76 3 24 (.agg #[.int .i64 0, .int .i64 0, .int .i64 0]) := .mk' kr rfl
theorem inf78 : Inf Try.prog 78 4 48 (.agg #[.bool false, .int .i64 0, .int .i64 0, .slice none 0 0]) := .mk' kr rfl
theorem inf3 : Inf Try.prog 3 1 8 (.int .i64 0) := .mk' kr rfl
theorem inf5 : Inf Try.prog 5 1 1 (.int .u8 0) := .mk' kr rfl
theorem inf117 : Inf Try.prog 117 2 32 (.agg #[.int .i64 0, .slice none 0 0]) := .mk' kr rfl
theorem inf93 : Inf Try.prog 93 4 48 (.agg #[.int .i64 0, .int .i64 0, .int .i64 0, .slice none 0 0]) := .mk' kr rfl
theorem inf104 : Inf Try.prog 104 2 16 (.agg #[.int .i64 0, .int .i64 0]) := .mk' kr rfl
theorem inf67 : Inf Try.prog 67 2 16 (.agg #[.int .i64 0, .int .i64 0]) := .mk' kr rfl
theorem inf101 : Inf Try.prog 101 6 32 (.agg #[.slice none 0 0, .bool false, .bool false, .bool false, .bool false, .bool false]) := .mk' kr rfl
theorem inf41 : Inf Try.prog 41 1 8 (.int .i64 0) := .mk' kr rfl
theorem inf59 : Inf Try.prog 59 31 208 (.agg #[.int .i64 0, .int .i64 0, .int .i64 0, .bool false, .int .i64 0, .int .i64 0, .int .i64 0, .bool false, .int .i64 0, .int .i64 0, .int .i64 0, .bool false, .bool false, .int .i64 0, .int .i64 0, .int .i64 0, .bool false, .int .i64 0, .int .i64 0, .int .i64 0, .int .i64 0, .bool false, .bool false, .bool false, .bool false, .bool false, .int .i64 0, .int .i64 0, .int .i64 0, .int .i64 0, .int .i64 0]) := .mk' kr rfl

abbrev cl_Axis (x : S_Axis) : Array Value := #[.int .i64 x.Min, .int .i64 x.Max, .int .i64 x.Speed, .int .i64 x.Accel]
abbrev cl_Cmd (x : S_Cmd) : Array Value := #[.int .i64 x.Op, .int .i64 x.Arg, .int .i64 x.Due]
abbrev cl_Mount (x : S_Mount) : Array Value := #[.int .i64 x.Az.Min, .int .i64 x.Az.Max, .int .i64 x.Az.Speed, .int .i64 x.Az.Accel, .int .i64 x.Alt.Min, .int .i64 x.Alt.Max, .int .i64 x.Alt.Speed, .int .i64 x.Alt.Accel, .int .i64 x.Park.Az, .int .i64 x.Park.Alt]
abbrev cl_Sensors (x : S_Sensors) : Array Value := #[.bool x.Rain, .bool x.Wind, .bool x.Day, .bool x.Power, .bool x.Key]
abbrev cl_State (x : S_State) : Array Value := #[.int .i64 x.At, .int .i64 x.Speed, .int .i64 x.Goal, .bool x.Halt]
abbrev cl_State2 (x : S_State2) : Array Value := #[.int .i64 x.Az.At, .int .i64 x.Az.Speed, .int .i64 x.Az.Goal, .bool x.Az.Halt, .int .i64 x.Alt.At, .int .i64 x.Alt.Speed, .int .i64 x.Alt.Goal, .bool x.Alt.Halt, .int .i64 x.Mode]
abbrev cl_State3 (x : S_State3) : Array Value := #[.int .i64 x.Shutter, .int .i64 x.Cover, .bool x.Open, .bool x.Lift, .int .i64 x.Turn.At, .int .i64 x.Turn.Speed, .int .i64 x.Turn.Goal, .bool x.Turn.Halt]
abbrev cl_State4 (x : S_State4) : Array Value := #[.int .i64 x.Mode, .int .i64 x.Left, .int .i64 x.Beats, .int .i64 x.Number]
abbrev cl_World (x : S_World) : Array Value := #[.int .i64 x.Mount.Az.At, .int .i64 x.Mount.Az.Speed, .int .i64 x.Mount.Az.Goal, .bool x.Mount.Az.Halt, .int .i64 x.Mount.Alt.At, .int .i64 x.Mount.Alt.Speed, .int .i64 x.Mount.Alt.Goal, .bool x.Mount.Alt.Halt, .int .i64 x.Mount.Mode, .int .i64 x.Dome.Shutter, .int .i64 x.Dome.Cover, .bool x.Dome.Open, .bool x.Dome.Lift, .int .i64 x.Dome.Turn.At, .int .i64 x.Dome.Turn.Speed, .int .i64 x.Dome.Turn.Goal, .bool x.Dome.Turn.Halt, .int .i64 x.Camera.Mode, .int .i64 x.Camera.Left, .int .i64 x.Camera.Beats, .int .i64 x.Camera.Number, .bool x.Sensors.Rain, .bool x.Sensors.Wind, .bool x.Sensors.Day, .bool x.Sensors.Power, .bool x.Sensors.Key, .int .i64 x.Aim.Az, .int .i64 x.Aim.Alt, .int .i64 x.Mode, .int .i64 x.Hazard, .int .i64 x.Key]
abbrev cm_Axis (a0 : Int) (a1 : Int) (a2 : Int) (a3 : Int) : Array Value := #[.int .i64 a0, .int .i64 a1, .int .i64 a2, .int .i64 a3]
abbrev cm_Cmd (a0 : Int) (a1 : Int) (a2 : Int) : Array Value := #[.int .i64 a0, .int .i64 a1, .int .i64 a2]
abbrev cm_Mount (a0 : S_Axis) (a1 : S_Axis) (a2 : S_Pose) : Array Value := #[.int .i64 a0.Min, .int .i64 a0.Max, .int .i64 a0.Speed, .int .i64 a0.Accel, .int .i64 a1.Min, .int .i64 a1.Max, .int .i64 a1.Speed, .int .i64 a1.Accel, .int .i64 a2.Az, .int .i64 a2.Alt]
abbrev cm_Sensors (a0 : Bool) (a1 : Bool) (a2 : Bool) (a3 : Bool) (a4 : Bool) : Array Value := #[.bool a0, .bool a1, .bool a2, .bool a3, .bool a4]
abbrev cm_State (a0 : Int) (a1 : Int) (a2 : Int) (a3 : Bool) : Array Value := #[.int .i64 a0, .int .i64 a1, .int .i64 a2, .bool a3]
abbrev cm_State2 (a0 : S_State) (a1 : S_State) (a2 : Int) : Array Value := #[.int .i64 a0.At, .int .i64 a0.Speed, .int .i64 a0.Goal, .bool a0.Halt, .int .i64 a1.At, .int .i64 a1.Speed, .int .i64 a1.Goal, .bool a1.Halt, .int .i64 a2]
abbrev cm_State3 (a0 : Int) (a1 : Int) (a2 : Bool) (a3 : Bool) (a4 : S_State) : Array Value := #[.int .i64 a0, .int .i64 a1, .bool a2, .bool a3, .int .i64 a4.At, .int .i64 a4.Speed, .int .i64 a4.Goal, .bool a4.Halt]
abbrev cm_World (a0 : S_State2) (a1 : S_State3) (a2 : S_State4) (a3 : S_Sensors) (a4 : S_Pose) (a5 : Int) (a6 : Int) (a7 : Int) : Array Value := #[.int .i64 a0.Az.At, .int .i64 a0.Az.Speed, .int .i64 a0.Az.Goal, .bool a0.Az.Halt, .int .i64 a0.Alt.At, .int .i64 a0.Alt.Speed, .int .i64 a0.Alt.Goal, .bool a0.Alt.Halt, .int .i64 a0.Mode, .int .i64 a1.Shutter, .int .i64 a1.Cover, .bool a1.Open, .bool a1.Lift, .int .i64 a1.Turn.At, .int .i64 a1.Turn.Speed, .int .i64 a1.Turn.Goal, .bool a1.Turn.Halt, .int .i64 a2.Mode, .int .i64 a2.Left, .int .i64 a2.Beats, .int .i64 a2.Number, .bool a3.Rain, .bool a3.Wind, .bool a3.Day, .bool a3.Power, .bool a3.Key, .int .i64 a4.Az, .int .i64 a4.Alt, .int .i64 a5, .int .i64 a6, .int .i64 a7]
abbrev ll_Axis (x : S_Axis) : List Value := [.int .i64 x.Min, .int .i64 x.Max, .int .i64 x.Speed, .int .i64 x.Accel]
abbrev ll_Cmd (x : S_Cmd) : List Value := [.int .i64 x.Op, .int .i64 x.Arg, .int .i64 x.Due]
abbrev ll_Mount (x : S_Mount) : List Value := [.int .i64 x.Az.Min, .int .i64 x.Az.Max, .int .i64 x.Az.Speed, .int .i64 x.Az.Accel, .int .i64 x.Alt.Min, .int .i64 x.Alt.Max, .int .i64 x.Alt.Speed, .int .i64 x.Alt.Accel, .int .i64 x.Park.Az, .int .i64 x.Park.Alt]
abbrev ll_Sensors (x : S_Sensors) : List Value := [.bool x.Rain, .bool x.Wind, .bool x.Day, .bool x.Power, .bool x.Key]
abbrev ll_State (x : S_State) : List Value := [.int .i64 x.At, .int .i64 x.Speed, .int .i64 x.Goal, .bool x.Halt]
abbrev ll_State2 (x : S_State2) : List Value := [.int .i64 x.Az.At, .int .i64 x.Az.Speed, .int .i64 x.Az.Goal, .bool x.Az.Halt, .int .i64 x.Alt.At, .int .i64 x.Alt.Speed, .int .i64 x.Alt.Goal, .bool x.Alt.Halt, .int .i64 x.Mode]
abbrev ll_State3 (x : S_State3) : List Value := [.int .i64 x.Shutter, .int .i64 x.Cover, .bool x.Open, .bool x.Lift, .int .i64 x.Turn.At, .int .i64 x.Turn.Speed, .int .i64 x.Turn.Goal, .bool x.Turn.Halt]
abbrev ll_State4 (x : S_State4) : List Value := [.int .i64 x.Mode, .int .i64 x.Left, .int .i64 x.Beats, .int .i64 x.Number]
abbrev ll_World (x : S_World) : List Value := [.int .i64 x.Mount.Az.At, .int .i64 x.Mount.Az.Speed, .int .i64 x.Mount.Az.Goal, .bool x.Mount.Az.Halt, .int .i64 x.Mount.Alt.At, .int .i64 x.Mount.Alt.Speed, .int .i64 x.Mount.Alt.Goal, .bool x.Mount.Alt.Halt, .int .i64 x.Mount.Mode, .int .i64 x.Dome.Shutter, .int .i64 x.Dome.Cover, .bool x.Dome.Open, .bool x.Dome.Lift, .int .i64 x.Dome.Turn.At, .int .i64 x.Dome.Turn.Speed, .int .i64 x.Dome.Turn.Goal, .bool x.Dome.Turn.Halt, .int .i64 x.Camera.Mode, .int .i64 x.Camera.Left, .int .i64 x.Camera.Beats, .int .i64 x.Camera.Number, .bool x.Sensors.Rain, .bool x.Sensors.Wind, .bool x.Sensors.Day, .bool x.Sensors.Power, .bool x.Sensors.Key, .int .i64 x.Aim.Az, .int .i64 x.Aim.Alt, .int .i64 x.Mode, .int .i64 x.Hazard, .int .i64 x.Key]
abbrev lm_Axis (a0 : Int) (a1 : Int) (a2 : Int) (a3 : Int) : List Value := [.int .i64 a0, .int .i64 a1, .int .i64 a2, .int .i64 a3]
abbrev lm_Cmd (a0 : Int) (a1 : Int) (a2 : Int) : List Value := [.int .i64 a0, .int .i64 a1, .int .i64 a2]
abbrev lm_Mount (a0 : S_Axis) (a1 : S_Axis) (a2 : S_Pose) : List Value := [.int .i64 a0.Min, .int .i64 a0.Max, .int .i64 a0.Speed, .int .i64 a0.Accel, .int .i64 a1.Min, .int .i64 a1.Max, .int .i64 a1.Speed, .int .i64 a1.Accel, .int .i64 a2.Az, .int .i64 a2.Alt]
abbrev lm_Sensors (a0 : Bool) (a1 : Bool) (a2 : Bool) (a3 : Bool) (a4 : Bool) : List Value := [.bool a0, .bool a1, .bool a2, .bool a3, .bool a4]
abbrev lm_State (a0 : Int) (a1 : Int) (a2 : Int) (a3 : Bool) : List Value := [.int .i64 a0, .int .i64 a1, .int .i64 a2, .bool a3]
abbrev lm_State2 (a0 : S_State) (a1 : S_State) (a2 : Int) : List Value := [.int .i64 a0.At, .int .i64 a0.Speed, .int .i64 a0.Goal, .bool a0.Halt, .int .i64 a1.At, .int .i64 a1.Speed, .int .i64 a1.Goal, .bool a1.Halt, .int .i64 a2]
abbrev lm_State3 (a0 : Int) (a1 : Int) (a2 : Bool) (a3 : Bool) (a4 : S_State) : List Value := [.int .i64 a0, .int .i64 a1, .bool a2, .bool a3, .int .i64 a4.At, .int .i64 a4.Speed, .int .i64 a4.Goal, .bool a4.Halt]
abbrev lm_World (a0 : S_State2) (a1 : S_State3) (a2 : S_State4) (a3 : S_Sensors) (a4 : S_Pose) (a5 : Int) (a6 : Int) (a7 : Int) : List Value := [.int .i64 a0.Az.At, .int .i64 a0.Az.Speed, .int .i64 a0.Az.Goal, .bool a0.Az.Halt, .int .i64 a0.Alt.At, .int .i64 a0.Alt.Speed, .int .i64 a0.Alt.Goal, .bool a0.Alt.Halt, .int .i64 a0.Mode, .int .i64 a1.Shutter, .int .i64 a1.Cover, .bool a1.Open, .bool a1.Lift, .int .i64 a1.Turn.At, .int .i64 a1.Turn.Speed, .int .i64 a1.Turn.Goal, .bool a1.Turn.Halt, .int .i64 a2.Mode, .int .i64 a2.Left, .int .i64 a2.Beats, .int .i64 a2.Number, .bool a3.Rain, .bool a3.Wind, .bool a3.Day, .bool a3.Power, .bool a3.Key, .int .i64 a4.Az, .int .i64 a4.Alt, .int .i64 a5, .int .i64 a6, .int .i64 a7]

set_option maxRecDepth 100000 in
set_option maxHeartbeats 4000000 in
theorem spymake_Below.calls (k : Nat)  (x1 : Int) (n2 : Int) {t w : World} {f : FM} {H : List Seg} (HS : St t w f (H)) (rr1 : Int) (h : spymake_Below k x1 n2 = some rr1) :
    Calls Try.prog 7 #[.int .i64 x1, .int .i64 n2] w (fun e w' => ∃ (g : FM), e = .returned (Value.int .i64 rr1) ∧ FM.le f g ∧ St t w' g (H)) := by
 unfold spymake_Below at h
 refine enter Try.func7 rfl (tm := ⟨[iV x1, iV n2] ++ (un 14 [])⟩) kr ?_
 intro B hret hnor hnp
 refine wp_seq_k fun K3 hK4 => rl ?_
 refine seqL1 kr ?_
 refine nl (hK4 _ _ ?_)
 refine wp_seq_k (fun K5 hK6 => ?_)
 refine wp_seq_k fun K7 hK8 => rl ?_
 refine seqL2 kr ?_
 refine nl (hK8 _ _ ?_)
 replace h := ite_some h; rcases h with ⟨c10, h⟩ | ⟨c10, h⟩
 · have c10 : n2 < 1 := c10
   refine wpRwI 6 kr (decide_eq_true c10) ?_
   refine condT kr ?_
   refine wp_seq_k fun K11 hK12 => rl ?_
   refine seqL1 kr ?_
   refine nl (hK12 _ _ ?_)
   refine wp_ret ?_
   refine hret _ _ ?_
   refine ends_still (v := Value.int .i64 0) kr kr ?_
   injection h with h
   subst h
   exact ⟨f, rfl, FM.le.refl _, HS⟩
 have c10 : ¬ (n2 < 1) := c10
 refine wpRwI 6 kr (decide_eq_false c10) ?_
 refine condF kr ?_
 refine wp_skip ?_
 refine hK6 _ _ ?_
 refine wp_seq_k fun K13 hK14 => rl ?_
 replace h := guard_some h; obtain ⟨c15, h⟩ := h
 have c15 : ¬ (n2 = 0) := c15
 refine seqL2 kr ?_
 refine seqK rfl (does_run (run_rem rfl (kv (.int .i64 x1)) (kv (.int .i64 n2)) c15 w) ?_)
 refine seqL1 kr ?_
 refine nl (hK14 _ _ ?_)
 refine wp_seq_k (fun K16 hK17 => ?_)
 refine wp_seq_k fun K18 hK19 => rl ?_
 refine seqL2 kr ?_
 refine nl (hK19 _ _ ?_)
 replace h := ite_some h; rcases h with ⟨c21, h⟩ | ⟨c21, h⟩
 · have c21 : (Int.tmod x1 n2) < 0 := c21
   refine wpRwI 11 kr (decide_eq_true c21) ?_
   refine condT kr ?_
   refine rl ?_
   refine seqL4 kr ?_
   refine nl (hK17 _ _ ?_)
   refine wp_seq_k fun K22 hK23 => rl ?_
   refine seqL2 kr ?_
   refine nl (hK23 _ _ ?_)
   refine wp_ret ?_
   refine hret _ _ ?_
   refine ends_still (v := Value.int .i64 (w64 ((Int.tmod x1 n2) + n2))) kr kr ?_
   injection h with h
   subst h
   exact ⟨f, rfl, FM.le.refl _, HS⟩
 have c21 : ¬ ((Int.tmod x1 n2) < 0) := c21
 refine wpRwI 11 kr (decide_eq_false c21) ?_
 refine condF kr ?_
 refine wp_skip ?_
 refine hK17 _ _ ?_
 refine wp_seq_k fun K24 hK25 => rl ?_
 refine seqL2 kr ?_
 refine nl (hK25 _ _ ?_)
 refine wp_ret ?_
 refine hret _ _ ?_
 refine ends_still (v := Value.int .i64 (Int.tmod x1 n2)) kr kr ?_
 injection h with h
 subst h
 exact ⟨f, rfl, FM.le.refl _, HS⟩

set_option maxRecDepth 100000 in
set_option maxHeartbeats 4000000 in
theorem spymake_Stream_Next.calls (k : Nat) (b1 : Nat) (A4 : Option Addr) (c5 : Nat) (s3 : S_Stream) (n7 : Int) {t w : World} {f : FM} {H : List Seg} (HS : St t w f ([(b1, .cells #[.slice A4 s3.L.length c5, .int .i64 s3.vat] 25 (0, 0))] :: H)) (HR6 : SlR (tInt .i64) f A4 c5 s3.L) (rr1 : Int) (rr2 : Int) (h : spymake_Stream_Next k s3 n7 = some (rr1, rr2)) :
    Calls Try.prog 15 #[pV b1 0, .int .i64 n7] w (fun e w' => ∃ (g : FM), e = .returned (Value.int .i64 rr1) ∧ FM.le f g ∧ St t w' g ([(b1, .cells #[.slice A4 s3.L.length c5, .int .i64 rr2] 25 (0, 0))] :: H)) := by
 unfold spymake_Stream_Next at h
 refine enter Try.func15 rfl (tm := ⟨[pV b1 0, iV n7] ++ (un 62 [])⟩) kr ?_
 intro B hret hnor hnp
 refine wp_seq_k fun K8 hK9 => rl ?_
 refine seqL1 kr ?_
 refine nl (hK9 _ _ ?_)
 refine wp_seq_k fun K10 hK11 => rl ?_
 refine seqL3 kr ?_
 refine seqK rfl (does_run (run_load rfl Try.underlying3 rfl (kv (pV b1 1)) (HS.cell 1)) ?_)
 refine seqL3 kr ?_
 refine seqK rfl (does_store (n := 1) (vs := [.int .i64 (w64 (s3.vat + 1))]) (cs' := #[.slice A4 s3.L.length c5, .int .i64 (w64 (s3.vat + 1))]) rfl kr (kv (pV b1 1)) (kv (.int .i64 (w64 (s3.vat + 1)))) rfl rfl (ones rfl) HS (Nat.le_of_ble_eq_true rfl) kr ?_)
 intro W12 HS13
 refine nl (hK11 _ _ ?_)
 refine wp_seq_k (fun K14 hK15 => ?_)
 refine wp_seq_k fun K16 hK17 => rl ?_
 refine seqL3 kr ?_
 refine seqK rfl (does_run (run_load rfl Try.underlying22 rfl (kv (pV b1 0)) (HS13.cell 0)) ?_)
 refine seqL2 kr ?_
 refine nl (hK17 _ _ ?_)
 replace h := ite_some h; rcases h with ⟨c19, h⟩ | ⟨c19, h⟩
 · have c19 : (s3.L.length : Int) = 0 := c19
   refine wpRwI 19 kr (beq_iff_eq.mpr c19) ?_
   refine condT kr ?_
   refine wp_seq_k fun K20 hK21 => rl ?_
   refine seqL3 kr ?_
   refine seqK rfl (does_run (run_load rfl Try.underlying3 rfl (kv (pV b1 1)) (HS13.cell 1)) ?_)
   replace h := bind_some h; obtain ⟨vt22, hc23, h⟩ := h
   refine seqL2 kr ?_
   refine seqK rfl (does_call kr (spymake_Below.calls k (w64 ((w64 (s3.vat + 1)) * 7919)) n7 HS13 vt22 hc23) ?_)
   rintro _ W26 ⟨f24, rfl, L25, HS27⟩
   refine ⟨_, rfl, ?_⟩
   refine seqL1 kr ?_
   refine nl (hK21 _ _ ?_)
   refine wp_ret ?_
   refine hret _ _ ?_
   refine ends_still (v := Value.int .i64 vt22) kr kr ?_
   injection h with h
   injection h with h0_ h
   subst h0_ h
   exact ⟨f24, rfl, L25, HS27⟩
 have c19 : ¬ ((s3.L.length : Int) = 0) := c19
 refine wpRwI 19 kr (beq_eq_false_iff_ne.mpr c19) ?_
 refine condF kr ?_
 refine wp_skip ?_
 refine hK15 _ _ ?_
 refine wp_seq_k (fun K28 hK29 => ?_)
 refine heldG (S := Sg t f ([(b1, .cells #[.slice A4 s3.L.length c5, .int .i64 (w64 (s3.vat + 1))] 25 (0, 0))] :: H) []) (n := 12) kr rfl HS13 ?_
 intro W30 HS31
 refine gL [0, 1, 2] (fuel := 9) (bA 12 7) rfl kr kr kr hnp (Sg.g0 (Sx.of [] fL HS31)) fun X32 => ?_
 refine gQ 3 rfl kr kr kr kr kr hnp X32 (fun hl_ hS_ => run_load rfl Try.underlying3 rfl (kv (pV b1 1)) (hS_.cell 1)) fun X33 => ?_
 refine gL [4, 5, 6, 7] (fuel := 4) (bA 12 255) rfl kr kr kr hnp X33 fun X34 => ?_
 refine gQ 8 rfl kr kr kr kr kr hnp X34 (fun hl_ hS_ => run_load rfl Try.underlying22 rfl (kv (pV b1 0)) (hS_.cell 0)) fun X35 => ?_
 replace h := guard_some h; obtain ⟨c36, h⟩ := h
 have c36 : ¬ ((s3.L.length : Int) = 0) := c36
 refine gL [9] (fuel := 2) (bA 12 1023) rfl kr kr kr hnp X35 fun X37 => ?_
 refine gQ 10 rfl kr kr kr kr kr hnp X37 (fun hl_ hS_ => run_rem rfl (kv (.int .i64 (w64 ((w64 (s3.vat + 1)) - 1)))) (kv (.int .i64 (s3.L.length : Int))) c36 _) fun X38 => ?_
 refine gL [11] (fuel := 0) (bA 12 4095) rfl kr kr kr hnp X38 fun X39 => ?_
 refine doneG kr ?_ _
 refine hK29 _ _ ?_
 refine wp_seq_k (fun K40 hK41 => ?_)
 refine heldG (S := Sg t f ([(b1, .cells #[.slice A4 s3.L.length c5, .int .i64 (w64 (s3.vat + 1))] 25 (0, 0))] :: H) []) (n := 12) kr rfl HS31 ?_
 intro W42 HS43
 refine gL [0, 1, 2] (fuel := 9) (bA 12 7) rfl kr kr kr hnp (Sg.g0 (Sx.of [] fL HS43)) fun X44 => ?_
 refine gQ 3 rfl kr kr kr kr kr hnp X44 (fun hl_ hS_ => run_load rfl Try.underlying3 rfl (kv (pV b1 1)) (hS_.cell 1)) fun X45 => ?_
 refine gL [4, 5, 6, 7] (fuel := 4) (bA 12 255) rfl kr kr kr hnp X45 fun X46 => ?_
 refine gQ 8 rfl kr kr kr kr kr hnp X46 (fun hl_ hS_ => run_load rfl Try.underlying22 rfl (kv (pV b1 0)) (hS_.cell 0)) fun X47 => ?_
 refine gL [9] (fuel := 2) (bA 12 1023) rfl kr kr kr hnp X47 fun X48 => ?_
 refine gQ 10 rfl kr kr kr kr kr hnp X48 (fun hl_ hS_ => run_div rfl (kv (.int .i64 (w64 ((w64 (s3.vat + 1)) - 1)))) (kv (.int .i64 (s3.L.length : Int))) c36 _) fun X49 => ?_
 refine gL [11] (fuel := 0) (bA 12 4095) rfl kr kr kr hnp X49 fun X50 => ?_
 refine doneG kr ?_ _
 refine hK41 _ _ ?_
 refine wp_seq_k fun K51 hK52 => rl ?_
 refine seqL3 kr ?_
 refine seqK rfl (does_run (run_load rfl Try.underlying22 rfl (kv (pV b1 0)) (HS43.cell 0)) ?_)
 replace h := guard_some h; obtain ⟨c53, h⟩ := h
 have c53 : 0 ≤ (Int.tmod (w64 ((w64 (s3.vat + 1)) - 1)) (s3.L.length : Int)) := c53
 replace h := guard_some h; obtain ⟨c54, h⟩ := h
 have c54 : (Int.tmod (w64 ((w64 (s3.vat + 1)) - 1)) (s3.L.length : Int)) < (s3.L.length : Int) := c54
 obtain ⟨b58, of59, cs55, hA60, hr56, hc57⟩ := HR6.at (i := Int.tmod (w64 ((w64 (s3.vat + 1)) - 1)) (s3.L.length : Int)) c53 c54
 obtain rfl := hr56
 refine seqL1 kr ?_
 refine seqK rfl (does_run (run_indexE hA60 (sz := 1) rfl Try.underlying22 kr (kv (.slice A4 s3.L.length c5)) (kv (.int .i64 (Int.tmod (w64 ((w64 (s3.vat + 1)) - 1)) (s3.L.length : Int)))) c53 c54 W42) ?_)
 refine seqK rfl (does_run (run_load rfl Try.underlying3 rfl (by kernel_rfl : _ = pV b58 (of59 + (Int.tmod (w64 ((w64 (s3.vat + 1)) - 1)) (s3.L.length : Int) : Int).toNat * 1)) ((hc57 fL HS43) 0 (by decide))) ?_)
 replace h := bind_some h; obtain ⟨vt61, hc62, h⟩ := h
 refine seqK rfl (does_call kr (spymake_Below.calls k (rd s3.L (Int.tmod (w64 ((w64 (s3.vat + 1)) - 1)) (s3.L.length : Int))) 1073741824 HS43 vt61 hc62) ?_)
 rintro _ W65 ⟨f63, rfl, L64, HS66⟩
 refine ⟨_, rfl, ?_⟩
 replace h := bind_some h; obtain ⟨vt67, hc68, h⟩ := h
 refine seqL6 kr ?_
 refine seqK rfl (does_call kr (spymake_Below.calls k (w64 (vt61 + (w64 ((w64 (Int.tdiv (w64 ((w64 (s3.vat + 1)) - 1)) (s3.L.length : Int))) * (w64 (7919 + (Int.tmod (w64 ((w64 (s3.vat + 1)) - 1)) (s3.L.length : Int)))))))) n7 HS66 vt67 hc68) ?_)
 rintro _ W71 ⟨f69, rfl, L70, HS72⟩
 refine ⟨_, rfl, ?_⟩
 refine seqL1 kr ?_
 refine nl (hK52 _ _ ?_)
 refine wp_ret ?_
 refine hret _ _ ?_
 refine ends_still (v := Value.int .i64 vt67) kr kr ?_
 injection h with h
 injection h with h0_ h
 subst h0_ h
 exact ⟨f69, rfl, (L64.trans L70), HS72⟩

set_option maxRecDepth 100000 in
set_option maxHeartbeats 4000000 in
theorem spymake_Stream_Range.calls (k : Nat) (b1 : Nat) (A4 : Option Addr) (c5 : Nat) (s3 : S_Stream) (low7 : Int) (high8 : Int) {t w : World} {f : FM} {H : List Seg} (HS : St t w f ([(b1, .cells #[.slice A4 s3.L.length c5, .int .i64 s3.vat] 25 (0, 0))] :: H)) (HR6 : SlR (tInt .i64) f A4 c5 s3.L) (rr1 : Int) (rr2 : Int) (h : spymake_Stream_Range k s3 low7 high8 = some (rr1, rr2)) :
    Calls Try.prog 20 #[pV b1 0, .int .i64 low7, .int .i64 high8] w (fun e w' => ∃ (g : FM), e = .returned (Value.int .i64 rr1) ∧ FM.le f g ∧ St t w' g ([(b1, .cells #[.slice A4 s3.L.length c5, .int .i64 rr2] 25 (0, 0))] :: H)) := by
 unfold spymake_Stream_Range at h
 refine enter Try.func20 rfl (tm := ⟨[pV b1 0, iV low7, iV high8] ++ (un 16 [])⟩) kr ?_
 intro B hret hnor hnp
 refine wp_seq_k fun K9 hK10 => rl ?_
 refine seqL1 kr ?_
 refine nl (hK10 _ _ ?_)
 refine wp_seq_k (fun K11 hK12 => ?_)
 refine wp_seq_k fun K13 hK14 => rl ?_
 refine seqL3 kr ?_
 refine nl (hK14 _ _ ?_)
 replace h := ite_some h; rcases h with ⟨c16, h⟩ | ⟨c16, h⟩
 · have c16 : high8 < low7 := c16
   refine wpRwI 9 kr (decide_eq_true c16) ?_
   refine condT kr ?_
   refine wp_seq_k fun K17 hK18 => rl ?_
   refine seqL2 kr ?_
   refine nl (hK18 _ _ ?_)
   refine wp_ret ?_
   refine hret _ _ ?_
   refine ends_still (v := Value.int .i64 low7) kr kr ?_
   injection h with h
   injection h with h0_ h
   subst h0_ h
   exact ⟨f, rfl, FM.le.refl _, HS⟩
 have c16 : ¬ (high8 < low7) := c16
 refine wpRwI 9 kr (decide_eq_false c16) ?_
 refine condF kr ?_
 refine wp_skip ?_
 refine hK12 _ _ ?_
 refine wp_seq_k fun K19 hK20 => rl ?_
 replace h := bind_some h; obtain ⟨⟨vt21, vt22⟩, hc23, h⟩ := h
 refine seqL6 kr ?_
 refine seqK rfl (does_call kr (spymake_Stream_Next.calls k b1 A4 c5 s3 (w64 ((w64 (high8 - low7)) + 1)) HS HR6 vt21 vt22 hc23) ?_)
 rintro _ W26 ⟨f24, rfl, L25, HS27⟩
 refine ⟨_, rfl, ?_⟩
 refine seqL2 kr ?_
 refine nl (hK20 _ _ ?_)
 refine wp_ret ?_
 refine hret _ _ ?_
 refine ends_still (v := Value.int .i64 (w64 (low7 + vt21))) kr kr ?_
 injection h with h
 injection h with h0_ h
 subst h0_ h
 exact ⟨f24, rfl, L25, HS27⟩

set_option maxRecDepth 100000 in
set_option maxHeartbeats 4000000 in
theorem spymake_Stream_Axis.calls (k : Nat) (b1 : Nat) (A4 : Option Addr) (c5 : Nat) (s3 : S_Stream) {t w : World} {f : FM} {H : List Seg} (HS : St t w f ([(b1, .cells #[.slice A4 s3.L.length c5, .int .i64 s3.vat] 25 (0, 0))] :: H)) (HR6 : SlR (tInt .i64) f A4 c5 s3.L) (rr1 : S_Axis) (rr2 : Int) (h : spymake_Stream_Axis k s3 = some (rr1, rr2)) :
    Calls Try.prog 18 #[pV b1 0] w (fun e w' => ∃ (g : FM), e = .returned (Value.agg (cl_Axis rr1)) ∧ FM.le f g ∧ St t w' g ([(b1, .cells #[.slice A4 s3.L.length c5, .int .i64 rr2] 25 (0, 0))] :: H)) := by
 unfold spymake_Stream_Axis at h
 refine enter Try.func18 rfl (tm := ⟨[pV b1 0] ++ (un 55 [])⟩) kr ?_
 intro B hret hnor hnp
 refine wp_seq_k fun K7 hK8 => rl ?_
 refine seqK rfl (does_alloc (z := Value.agg (cm_Axis 0 0 0 0)) (cs := (cm_Axis 0 0 0 0)) rfl kr rfl HS ?_)
 intro b9 W10 HS11
 refine nl (hK8 _ _ ?_)
 refine wp_seq_k fun K13 hK14 => rl ?_
 have HS15 := HS11.u1
 replace h := bind_some h; obtain ⟨⟨vt16, vt17⟩, hc18, h⟩ := h
 refine seqL1 kr ?_
 refine seqK rfl (does_call kr (spymake_Stream_Range.calls k b1 A4 c5 s3 24 30 HS15 HR6 vt16 vt17 hc18) ?_)
 rintro _ W21 ⟨f19, rfl, L20, HS22⟩
 refine ⟨_, rfl, ?_⟩
 replace h := guard_some h; obtain ⟨c23, h⟩ := h
 have c23 : ¬ (vt16 < 0) := c23
 refine seqK rfl (does_run (run_shl rfl (kv (.int .i64 1)) (kv (.int .i64 vt16)) c23 W21) ?_)
 refine seqL1 kr ?_
 refine nl (hK14 _ _ ?_)
 refine wp_seq_k fun K24 hK25 => rl ?_
 replace h := bind_some h; obtain ⟨⟨vt26, vt27⟩, hc28, h⟩ := h
 refine seqL2 kr ?_
 refine seqK rfl (does_call kr (spymake_Stream_Range.calls k b1 A4 c5 (⟨s3.L, vt17⟩ : S_Stream) 1 8 HS22 (HR6.mono L20) vt26 vt27 hc28) ?_)
 rintro _ W31 ⟨f29, rfl, L30, HS32⟩
 refine ⟨_, rfl, ?_⟩
 replace h := guard_some h; obtain ⟨c33, h⟩ := h
 have c33 : ¬ (vt26 = 0) := c33
 refine seqK rfl (does_run (run_div rfl (kv (.int .i64 (w64 (1 * 2 ^ (min (vt16).toNat 64))))) (kv (.int .i64 vt26)) c33 W31) ?_)
 refine seqL1 kr ?_
 refine nl (hK25 _ _ ?_)
 refine wp_seq_k (fun K34 hK35 => ?_)
 refine wp_seq_k fun K36 hK37 => rl ?_
 replace h := bind_some h; obtain ⟨⟨vt38, vt39⟩, hc40, h⟩ := h
 refine seqL1 kr ?_
 refine seqK rfl (does_call kr (spymake_Stream_Next.calls k b1 A4 c5 (⟨s3.L, vt27⟩ : S_Stream) 3 HS32 (HR6.mono (L20.trans L30)) vt38 vt39 hc40) ?_)
 rintro _ W43 ⟨f41, rfl, L42, HS44⟩
 refine ⟨_, rfl, ?_⟩
 refine seqL1 kr ?_
 refine nl (hK37 _ _ ?_)
 replace h := bind_some h; obtain ⟨v45, hv71, h⟩ := h
 have J72 : ∀ (f63 : FM) (speed68 : Int) (accel69 : Int) (x70 : Int) (j67 : Nat → Value) (W65 : World) (a_ : Act), FM.le f41 f63 → some ((speed68, accel69, x70)) = some v45 → St t W65 f63 ([(b1, .cells #[.slice A4 s3.L.length c5, .int .i64 x70] 25 (0, 0))] :: [(b9, .cells (cm_Axis 0 0 0 0) 27 (0, 0))] :: H) → a_ = ⟨⟨[pV b1 0, uV, pV b9 0, iV speed68, iV accel69, uV, uV, pV b1 0, iV vt16, iV (w64 (1 * 2 ^ (min (vt16).toNat 64))), iV (w64 (1 * 2 ^ (min (vt16).toNat 64))), pV b1 0, iV vt26, iV (w64 (Int.tdiv (w64 (1 * 2 ^ (min (vt16).toNat 64))) vt26)), pV b1 0, iV vt38, .bool (vt38 == 0)] ++ (jr j67 0 16 (un 23 []))⟩, []⟩ → K34 a_ W65 := by
  intro f63 speed68 accel69 x70 j67 W65 a_ L64 hj73 HS66  hfr_; subst hfr_
  injection hj73 with hj73; subst hj73; try dsimp only at h
  refine hK35 _ _ ?_
  refine wp_seq_k fun K74 hK75 => rl ?_
  replace h := bind_some h; obtain ⟨⟨vt76, vt77⟩, hc78, h⟩ := h
  refine seqL1 kr ?_
  refine seqK rfl (does_call kr (spymake_Stream_Range.calls k b1 A4 c5 (⟨s3.L, x70⟩ : S_Stream) 0 6 HS66 (HR6.mono (L20.trans (L30.trans (L42.trans L64)))) vt76 vt77 hc78) ?_)
  rintro _ W81 ⟨f79, rfl, L80, HS82⟩
  refine ⟨_, rfl, ?_⟩
  replace h := bind_some h; obtain ⟨⟨vt83, vt84⟩, hc85, h⟩ := h
  refine seqL3 kr ?_
  refine seqK rfl (does_call kr (spymake_Stream_Range.calls k b1 A4 c5 (⟨s3.L, vt77⟩ : S_Stream) 1 6 HS82 (HR6.mono (L20.trans (L30.trans (L42.trans (L64.trans L80))))) vt83 vt84 hc85) ?_)
  rintro _ W88 ⟨f86, rfl, L87, HS89⟩
  refine ⟨_, rfl, ?_⟩
  refine seqL3 kr ?_
  refine nl (hK75 _ _ ?_)
  refine wp_seq_k (fun K90 hK91 => ?_)
  refine wp_seq_k fun K92 hK93 => rl ?_
  replace h := bind_some h; obtain ⟨⟨vt94, vt95⟩, hc96, h⟩ := h
  refine seqL1 kr ?_
  refine seqK rfl (does_call kr (spymake_Stream_Next.calls k b1 A4 c5 (⟨s3.L, vt84⟩ : S_Stream) 4 HS89 (HR6.mono (L20.trans (L30.trans (L42.trans (L64.trans (L80.trans L87)))))) vt94 vt95 hc96) ?_)
  rintro _ W99 ⟨f97, rfl, L98, HS100⟩
  refine ⟨_, rfl, ?_⟩
  refine seqL1 kr ?_
  refine nl (hK93 _ _ ?_)
  replace h := ite_some h; rcases h with ⟨c102, h⟩ | ⟨c102, h⟩
  rotate_left
  · have c102 : ¬ (vt94 = 0) := c102
    refine wpRwI 42 kr (beq_eq_false_iff_ne.mpr c102) ?_
    refine condF kr ?_
    refine wp_skip ?_
    refine hK91 _ _ ?_
    refine wp_seq_k fun K122 hK123 => rl ?_
    have HS124 := HS100.u1
    refine seqL5 kr ?_
    refine seqK rfl (does_storeA (vs := (lm_Axis (w64 ((w64 (0 - vt76)) * 1073741824)) (w64 (vt83 * 1073741824)) speed68 accel69)) rfl kr kr kr rfl (ones rfl) HS124 kr ?_)
    intro W125 HS126
    refine nl (hK123 _ _ ?_)
    refine wp_ret ?_
    refine hret _ _ ?_
    refine ends (v := Value.agg (cm_Axis (w64 ((w64 (0 - vt76)) * 1073741824)) (w64 (vt83 * 1073741824)) speed68 accel69)) (results1 (q1 := .cell 2 27) kr (resN (n := 4) (cs := (lm_Axis (w64 ((w64 (0 - vt76)) * 1073741824)) (w64 (vt83 * 1073741824)) speed68 accel69)) (kv (pV b9 0)) Try.underlying27 rfl kr rfl (HS126.cells 0 4 _ rfl))) kr ?_
    have HS128 := HS126.drop
    injection h with h
    injection h with h0_ h
    subst h0_ h
    exact ⟨f97, rfl, (L20.trans (L30.trans (L42.trans (L64.trans (L80.trans (L87.trans L98)))))), HS128⟩
  have c102 : vt94 = 0 := c102
  refine wpRwI 42 kr (beq_iff_eq.mpr c102) ?_
  refine condT kr ?_
  refine rl ?_
  replace h := bind_some h; obtain ⟨⟨vt103, vt104⟩, hc105, h⟩ := h
  refine seqL2 kr ?_
  refine seqK rfl (does_call kr (spymake_Stream_Next.calls k b1 A4 c5 (⟨s3.L, vt95⟩ : S_Stream) 1048576 HS100 (HR6.mono (L20.trans (L30.trans (L42.trans (L64.trans (L80.trans (L87.trans L98))))))) vt103 vt104 hc105) ?_)
  rintro _ W108 ⟨f106, rfl, L107, HS109⟩
  refine ⟨_, rfl, ?_⟩
  replace h := bind_some h; obtain ⟨⟨vt110, vt111⟩, hc112, h⟩ := h
  refine seqL3 kr ?_
  refine seqK rfl (does_call kr (spymake_Stream_Next.calls k b1 A4 c5 (⟨s3.L, vt104⟩ : S_Stream) 1048576 HS109 (HR6.mono (L20.trans (L30.trans (L42.trans (L64.trans (L80.trans (L87.trans (L98.trans L107)))))))) vt110 vt111 hc112) ?_)
  rintro _ W115 ⟨f113, rfl, L114, HS116⟩
  refine ⟨_, rfl, ?_⟩
  refine seqL3 kr ?_
  refine nl (hK91 _ _ ?_)
  refine wp_seq_k fun K117 hK118 => rl ?_
  have HS119 := HS116.u1
  refine seqL5 kr ?_
  refine seqK rfl (does_storeA (vs := (lm_Axis (w64 ((w64 ((w64 (0 - vt76)) * 1073741824)) + vt103)) (w64 ((w64 (vt83 * 1073741824)) - vt110)) speed68 accel69)) rfl kr kr kr rfl (ones rfl) HS119 kr ?_)
  intro W120 HS121
  refine nl (hK118 _ _ ?_)
  refine wp_ret ?_
  refine hret _ _ ?_
  refine ends (v := Value.agg (cm_Axis (w64 ((w64 ((w64 (0 - vt76)) * 1073741824)) + vt103)) (w64 ((w64 (vt83 * 1073741824)) - vt110)) speed68 accel69)) (results1 (q1 := .cell 2 27) kr (resN (n := 4) (cs := (lm_Axis (w64 ((w64 ((w64 (0 - vt76)) * 1073741824)) + vt103)) (w64 ((w64 (vt83 * 1073741824)) - vt110)) speed68 accel69)) (kv (pV b9 0)) Try.underlying27 rfl kr rfl (HS121.cells 0 4 _ rfl))) kr ?_
  have HS127 := HS121.drop
  injection h with h
  injection h with h0_ h
  subst h0_ h
  exact ⟨f113, rfl, (L20.trans (L30.trans (L42.trans (L64.trans (L80.trans (L87.trans (L98.trans (L107.trans L114)))))))), HS127⟩
 clear h; have h := hv71; clear hv71
 replace h := ite_some h; rcases h with ⟨c46, h⟩ | ⟨c46, h⟩
 rotate_left
 · have c46 : ¬ (vt38 = 0) := c46
   refine wpRwI 16 kr (beq_eq_false_iff_ne.mpr c46) ?_
   refine condF kr ?_
   refine wp_skip ?_
   refine fnRwI (F := K34) 16 (x := false) (v := (vt38 == 0)) kr (Eq.symm (beq_eq_false_iff_ne.mpr c46)) ?_
   exact J72 f41 (w64 (1 * 2 ^ (min (vt16).toNat 64))) (w64 (Int.tdiv (w64 (1 * 2 ^ (min (vt16).toNat 64))) vt26)) vt39 (jL []) W43 _ fL h HS44 kr
 have c46 : vt38 = 0 := c46
 refine wpRwI 16 kr (beq_iff_eq.mpr c46) ?_
 refine condT kr ?_
 refine wp_seq_k fun K47 hK48 => rl ?_
 replace h := bind_some h; obtain ⟨⟨vt49, vt50⟩, hc51, h⟩ := h
 refine seqL2 kr ?_
 refine seqK rfl (does_call kr (spymake_Stream_Next.calls k b1 A4 c5 (⟨s3.L, vt39⟩ : S_Stream) 1000 HS44 (HR6.mono (L20.trans (L30.trans L42))) vt49 vt50 hc51) ?_)
 rintro _ W54 ⟨f52, rfl, L53, HS55⟩
 refine ⟨_, rfl, ?_⟩
 replace h := bind_some h; obtain ⟨⟨vt56, vt57⟩, hc58, h⟩ := h
 refine seqL8 kr ?_
 refine seqK rfl (does_call kr (spymake_Stream_Next.calls k b1 A4 c5 (⟨s3.L, vt50⟩ : S_Stream) 1000 HS55 (HR6.mono (L20.trans (L30.trans (L42.trans L53)))) vt56 vt57 hc58) ?_)
 rintro _ W61 ⟨f59, rfl, L60, HS62⟩
 refine ⟨_, rfl, ?_⟩
 refine seqL3 kr ?_
 refine nl (hK48 _ _ ?_)
 refine rl ?_
 refine seqL4 kr ?_
 refine nl ?_
 refine fnRwI (F := K34) 16 (x := true) (v := (vt38 == 0)) kr (Eq.symm (beq_iff_eq.mpr c46)) ?_
 exact J72 f59 (w64 ((w64 (1 * 2 ^ (min (vt16).toNat 64))) - (w64 (vt49 * (mn 1 (shr (w64 ((w64 (1 * 2 ^ (min (vt16).toNat 64))) - 16777216)) 10)))))) (mn (w64 ((w64 (Int.tdiv (w64 (1 * 2 ^ (min (vt16).toNat 64))) vt26)) + vt56)) (w64 ((w64 (1 * 2 ^ (min (vt16).toNat 64))) - (w64 (vt49 * (mn 1 (shr (w64 ((w64 (1 * 2 ^ (min (vt16).toNat 64))) - 16777216)) 10))))))) vt57 (jL [iV (w64 (1 * 2 ^ (min (vt16).toNat 64))), pV b1 0, iV vt49, iV (w64 (1 * 2 ^ (min (vt16).toNat 64))), iV (w64 ((w64 (1 * 2 ^ (min (vt16).toNat 64))) - 16777216)), iV (shr (w64 ((w64 (1 * 2 ^ (min (vt16).toNat 64))) - 16777216)) 10), iV (mn 1 (shr (w64 ((w64 (1 * 2 ^ (min (vt16).toNat 64))) - 16777216)) 10)), iV (w64 (vt49 * (mn 1 (shr (w64 ((w64 (1 * 2 ^ (min (vt16).toNat 64))) - 16777216)) 10)))), iV (w64 ((w64 (1 * 2 ^ (min (vt16).toNat 64))) - (w64 (vt49 * (mn 1 (shr (w64 ((w64 (1 * 2 ^ (min (vt16).toNat 64))) - 16777216)) 10)))))), iV (w64 (Int.tdiv (w64 (1 * 2 ^ (min (vt16).toNat 64))) vt26)), pV b1 0, iV vt56, iV (w64 ((w64 (Int.tdiv (w64 (1 * 2 ^ (min (vt16).toNat 64))) vt26)) + vt56)), iV (w64 ((w64 (Int.tdiv (w64 (1 * 2 ^ (min (vt16).toNat 64))) vt26)) + vt56)), iV (w64 ((w64 (1 * 2 ^ (min (vt16).toNat 64))) - (w64 (vt49 * (mn 1 (shr (w64 ((w64 (1 * 2 ^ (min (vt16).toNat 64))) - 16777216)) 10)))))), iV (mn (w64 ((w64 (Int.tdiv (w64 (1 * 2 ^ (min (vt16).toNat 64))) vt26)) + vt56)) (w64 ((w64 (1 * 2 ^ (min (vt16).toNat 64))) - (w64 (vt49 * (mn 1 (shr (w64 ((w64 (1 * 2 ^ (min (vt16).toNat 64))) - 16777216)) 10)))))))]) W61 _ (L53.trans L60) h HS62 kr

set_option maxRecDepth 100000 in
set_option maxHeartbeats 4000000 in
theorem spymake_Stream_Inside.calls (k : Nat) (b1 : Nat) (A4 : Option Addr) (c5 : Nat) (s3 : S_Stream) (a7 : S_Axis) {t w : World} {f : FM} {H : List Seg} (HS : St t w f ([(b1, .cells #[.slice A4 s3.L.length c5, .int .i64 s3.vat] 25 (0, 0))] :: H)) (HR6 : SlR (tInt .i64) f A4 c5 s3.L) (rr1 : Int) (rr2 : Int) (h : spymake_Stream_Inside k s3 a7 = some (rr1, rr2)) :
    Calls Try.prog 19 #[pV b1 0, .agg (cl_Axis a7)] w (fun e w' => ∃ (g : FM), e = .returned (Value.int .i64 rr1) ∧ FM.le f g ∧ St t w' g ([(b1, .cells #[.slice A4 s3.L.length c5, .int .i64 rr2] 25 (0, 0))] :: H)) := by
 unfold spymake_Stream_Inside at h
 refine enter Try.func19 rfl (tm := ⟨[pV b1 0, (ag_Axis a7)] ++ (un 32 [])⟩) kr ?_
 intro B hret hnor hnp
 refine wp_seq_k fun K8 hK9 => rl ?_
 refine seqK rfl (does_box (cs := (cl_Axis a7)) rfl (kv (.agg (cl_Axis a7))) rfl HS ?_)
 intro b10 W11 HS12
 refine seqL1 kr ?_
 refine nl (hK9 _ _ ?_)
 refine wp_seq_k (fun K14 hK15 => ?_)
 refine wp_seq_k fun K16 hK17 => rl ?_
 have HS18 := HS12.u1
 replace h := bind_some h; obtain ⟨⟨vt19, vt20⟩, hc21, h⟩ := h
 refine seqL1 kr ?_
 refine seqK rfl (does_call kr (spymake_Stream_Next.calls k b1 A4 c5 s3 6 HS18 HR6 vt19 vt20 hc21) ?_)
 rintro _ W24 ⟨f22, rfl, L23, HS25⟩
 refine ⟨_, rfl, ?_⟩
 refine nl (hK17 _ _ ?_)
 refine blockK (fun B26 hx27 hn28 hr29 ho30 hp31 => ?_)
 refine wp_seq_k fun K33 hK34 => rl ?_
 refine seqL2 kr ?_
 refine nl (hK34 _ _ ?_)
 replace h := ite_some h; rcases h with ⟨c36, h⟩ | ⟨c36, h⟩
 · have c36 : vt19 = 0 := c36
   refine wpRwI 8 kr (beq_iff_eq.mpr c36) ?_
   refine wpRwI 9 kr (beq_iff_eq.mpr c36) ?_
   refine condT kr ?_
   refine wp_seq_k fun K37 hK38 => rl ?_
   refine seqL1 kr ?_
   refine seqK rfl (does_run (run_load rfl Try.underlying2 rfl (kv (pV b10 0)) (HS25.u1.cell 0)) ?_)
   refine seqL1 kr ?_
   refine nl (hK38 _ _ ?_)
   refine wp_ret ?_
   refine hr29 _ _ ?_
   refine hret _ _ ?_
   refine ends_still (v := Value.int .i64 a7.Min) kr kr ?_
   have HS74 := HS25.u1
   have HS75 := HS74.drop
   injection h with h
   injection h with h0_ h
   subst h0_ h
   exact ⟨f22, rfl, L23, HS75⟩
 have c36 : ¬ (vt19 = 0) := c36
 refine wpRwI 8 kr (beq_eq_false_iff_ne.mpr c36) ?_
 refine wpRwI 9 kr (beq_eq_false_iff_ne.mpr c36) ?_
 refine condF kr ?_
 refine wp_seq_k fun K39 hK40 => rl ?_
 refine seqL2 kr ?_
 refine nl (hK40 _ _ ?_)
 replace h := ite_some h; rcases h with ⟨c42, h⟩ | ⟨c42, h⟩
 · have c42 : vt19 = 1 := c42
   refine wpRwI 12 kr (beq_iff_eq.mpr c42) ?_
   refine wpRwI 13 kr (beq_iff_eq.mpr c42) ?_
   refine condT kr ?_
   refine wp_seq_k fun K43 hK44 => rl ?_
   refine seqL1 kr ?_
   refine seqK rfl (does_run (run_load rfl Try.underlying2 rfl (kv (pV b10 1)) (HS25.u1.cell 1)) ?_)
   refine seqL1 kr ?_
   refine nl (hK44 _ _ ?_)
   refine wp_ret ?_
   refine hr29 _ _ ?_
   refine hret _ _ ?_
   refine ends_still (v := Value.int .i64 a7.Max) kr kr ?_
   have HS76 := HS25.u1
   have HS77 := HS76.drop
   injection h with h
   injection h with h0_ h
   subst h0_ h
   exact ⟨f22, rfl, L23, HS77⟩
 have c42 : ¬ (vt19 = 1) := c42
 refine wpRwI 12 kr (beq_eq_false_iff_ne.mpr c42) ?_
 refine wpRwI 13 kr (beq_eq_false_iff_ne.mpr c42) ?_
 refine condF kr ?_
 refine wp_skip ?_
 refine hn28 _ _ ?_
 refine hK15 _ _ ?_
 refine wp_seq_k fun K45 hK46 => rl ?_
 refine seqL1 kr ?_
 refine seqK rfl (does_run (run_load rfl Try.underlying2 rfl (kv (pV b10 1)) (HS25.u1.cell 1)) ?_)
 refine seqL1 kr ?_
 refine seqK rfl (does_run (run_load rfl Try.underlying2 rfl (kv (pV b10 0)) (HS25.u1.cell 0)) ?_)
 refine seqL3 kr ?_
 refine nl (hK46 _ _ ?_)
 refine wp_seq_k (fun K47 hK48 => ?_)
 have HS50 := HS25.u1.u1
 refine heldG (S := Sg t f22 ([(b10, .cells (cl_Axis a7) 27 (0, 0))] :: H) [(4, [(b1, .cells #[.slice A4 s3.L.length c5, .int .i64 vt20] 25 (0, 0))])]) (n := 13) kr rfl HS50 ?_
 intro W51 HS52
 refine gL [0] (fuel := 12) (bA 13 1) rfl kr kr kr hnp (Sg.g1 (Sx.of [[(b1, .cells #[.slice A4 s3.L.length c5, .int .i64 vt20] 25 (0, 0))]] fL HS52) (fun _ => St.only [] HS52 fL)) fun X53 => ?_
 refine gQ 1 rfl kr kr kr kr kr hnp X53 (fun hl_ hS_ => run_load rfl Try.underlying2 rfl (kv (pV b10 0)) (hS_.cell 0)) fun X54 => ?_
 refine gL [2, 3, 7, 8, 9] (fuel := 6) (bA 13 911) rfl kr kr kr hnp X54 fun X55 => ?_
 replace h := bind_some h; obtain ⟨⟨vt56, vt57⟩, hc58, h⟩ := h
 refine takeGE 4 kr rfl kr (does_call kr (spymake_Stream_Next.calls k b1 A4 c5 (⟨s3.L, vt20⟩ : S_Stream) 1000 HS52 (HR6.mono L23) vt56 vt57 hc58) ?_)
 rintro _ W61 ⟨f59, rfl, L60, HS62⟩
 refine ⟨_, rfl, ?_⟩
 refine kB (Sg.g1 (Sx.of [[(b1, .cells #[.slice A4 s3.L.length c5, .int .i64 vt57] 25 (0, 0))]] L60 HS62) (fun hl_ => Bool.noConfusion (show true = false from hl_))) fun X63 => ?_
 refine gL [5, 6] (fuel := 3) (bA 13 1023) rfl kr kr kr hnp X63 fun X64 => ?_
 replace h := bind_some h; obtain ⟨⟨vt65, vt66⟩, hc67, h⟩ := h
 refine takeGE 10 kr rfl kr (does_call kr (spymake_Stream_Next.calls k b1 A4 c5 (⟨s3.L, vt57⟩ : S_Stream) (w64 ((w64 (Int.tdiv (w64 (a7.Max - a7.Min)) 1000)) + 1)) HS62 (HR6.mono (L23.trans L60)) vt65 vt66 hc67) ?_)
 rintro _ W70 ⟨f68, rfl, L69, HS71⟩
 refine ⟨_, rfl, ?_⟩
 refine kB (Sg.g1 (Sx.of [[(b1, .cells #[.slice A4 s3.L.length c5, .int .i64 vt66] 25 (0, 0))]] (L60.trans L69) HS71) (fun hl_ => Bool.noConfusion (show true = false from hl_))) fun X72 => ?_
 refine gL [11, 12] (fuel := 0) (bA 13 8191) rfl kr kr kr hnp X72 fun X73 => ?_
 refine doneG kr ?_ _
 refine hK48 _ _ ?_
 refine wp_ret ?_
 refine hret _ _ ?_
 refine ends_still (v := Value.int .i64 (w64 ((w64 (a7.Min + (w64 ((w64 (Int.tdiv (w64 (a7.Max - a7.Min)) 1000)) * vt56)))) + vt65))) kr kr ?_
 have HS78 := HS71.u1
 have HS79 := HS78.drop
 injection h with h
 injection h with h0_ h
 subst h0_ h
 exact ⟨f68, rfl, (L23.trans (L60.trans L69)), HS79⟩

set_option maxRecDepth 100000 in
set_option maxHeartbeats 4000000 in
theorem spymake_Stream_Mount.calls (k : Nat) (b1 : Nat) (A4 : Option Addr) (c5 : Nat) (s3 : S_Stream) {t w : World} {f : FM} {H : List Seg} (HS : St t w f ([(b1, .cells #[.slice A4 s3.L.length c5, .int .i64 s3.vat] 25 (0, 0))] :: H)) (HR6 : SlR (tInt .i64) f A4 c5 s3.L) (rr1 : S_Mount) (rr2 : Int) (h : spymake_Stream_Mount k s3 = some (rr1, rr2)) :
    Calls Try.prog 4 #[pV b1 0] w (fun e w' => ∃ (g : FM), e = .returned (Value.agg (cl_Mount rr1)) ∧ FM.le f g ∧ St t w' g ([(b1, .cells #[.slice A4 s3.L.length c5, .int .i64 rr2] 25 (0, 0))] :: H)) := by
 unfold spymake_Stream_Mount at h
 refine enter Try.func4 rfl (tm := ⟨[pV b1 0] ++ (un 33 [])⟩) kr ?_
 intro B hret hnor hnp
 refine wp_seq_k fun K7 hK8 => rl ?_
 refine seqK rfl (does_alloc (z := Value.agg (cm_Mount ⟨0, 0, 0, 0⟩ ⟨0, 0, 0, 0⟩ ⟨0, 0⟩)) (cs := (cm_Mount ⟨0, 0, 0, 0⟩ ⟨0, 0, 0, 0⟩ ⟨0, 0⟩)) rfl kr rfl HS ?_)
 intro b9 W10 HS11
 refine nl (hK8 _ _ ?_)
 refine wp_seq_k fun K13 hK14 => rl ?_
 have HS15 := HS11.u1
 replace h := bind_some h; obtain ⟨⟨vt16, vt17⟩, hc18, h⟩ := h
 refine seqL1 kr ?_
 refine seqK rfl (does_call kr (spymake_Stream_Axis.calls k b1 A4 c5 s3 HS15 HR6 vt16 vt17 hc18) ?_)
 rintro _ W21 ⟨f19, rfl, L20, HS22⟩
 refine ⟨_, rfl, ?_⟩
 replace h := bind_some h; obtain ⟨⟨vt23, vt24⟩, hc25, h⟩ := h
 refine seqL1 kr ?_
 refine seqK rfl (does_call kr (spymake_Stream_Axis.calls k b1 A4 c5 (⟨s3.L, vt17⟩ : S_Stream) HS22 (HR6.mono L20) vt23 vt24 hc25) ?_)
 rintro _ W28 ⟨f26, rfl, L27, HS29⟩
 refine ⟨_, rfl, ?_⟩
 refine seqL1 kr ?_
 refine seqK rfl (does_alloc (z := Value.agg (cm_Mount ⟨0, 0, 0, 0⟩ ⟨0, 0, 0, 0⟩ ⟨0, 0⟩)) (cs := (cm_Mount ⟨0, 0, 0, 0⟩ ⟨0, 0, 0, 0⟩ ⟨0, 0⟩)) rfl kr rfl HS29 ?_)
 intro b30 W31 HS32
 refine seqK rfl (does_storeA (vs := (lm_Mount vt16 vt23 ⟨0, 0⟩)) rfl kr kr kr rfl (ones rfl) HS32 kr ?_)
 intro W34 HS35
 refine nl (hK14 _ _ ?_)
 refine wp_seq_k (fun K36 hK37 => ?_)
 refine wp_seq_k fun K38 hK39 => rl ?_
 have HS40 := HS35.u1
 replace h := bind_some h; obtain ⟨⟨vt41, vt42⟩, hc43, h⟩ := h
 refine seqL1 kr ?_
 refine seqK rfl (does_call kr (spymake_Stream_Next.calls k b1 A4 c5 (⟨s3.L, vt24⟩ : S_Stream) 3 HS40 (HR6.mono (L20.trans L27)) vt41 vt42 hc43) ?_)
 rintro _ W46 ⟨f44, rfl, L45, HS47⟩
 refine ⟨_, rfl, ?_⟩
 refine seqL1 kr ?_
 refine nl (hK39 _ _ ?_)
 replace h := bind_some h; obtain ⟨v48, hv62, h⟩ := h
 have J63 : ∀ (f55 : FM) (x60 : Int) (x61 : Int) (j59 : Nat → Value) (W57 : World) (a_ : Act), FM.le f44 f55 → some ((x60, x61)) = some v48 → St t W57 f55 ([(b1, .cells #[.slice A4 s3.L.length c5, .int .i64 vt42] 25 (0, 0))] :: [(b30, .cells (cm_Mount ⟨x60, x61, vt16.Speed, vt16.Accel⟩ vt23 ⟨0, 0⟩) 31 (0, 0))] :: [(b9, .cells (cm_Mount ⟨0, 0, 0, 0⟩ ⟨0, 0, 0, 0⟩ ⟨0, 0⟩) 31 (0, 0))] :: H) → a_ = ⟨⟨[pV b1 0, uV, pV b9 0, pV b30 0, pV b1 0, (ag_Axis vt16), pV b1 0, (ag_Axis vt23), .agg #[iV vt16.Min, iV vt16.Max, iV vt16.Speed, iV vt16.Accel, iV vt23.Min, iV vt23.Max, iV vt23.Speed, iV vt23.Accel, iV 0, iV 0], pV b1 0, iV vt41, .bool (decide (vt41 > 0))] ++ (jr j59 0 4 (un 18 []))⟩, []⟩ → K36 a_ W57 := by
  intro f55 x60 x61 j59 W57 a_ L56 hj64 HS58  hfr_; subst hfr_
  injection hj64 with hj64; subst hj64; try dsimp only at h
  refine hK37 _ _ ?_
  refine wp_seq_k (fun K68 hK69 => ?_)
  refine wp_seq_k fun K70 hK71 => rl ?_
  replace h := bind_some h; obtain ⟨⟨vt72, vt73⟩, hc74, h⟩ := h
  refine seqL1 kr ?_
  refine seqK rfl (does_call kr (spymake_Stream_Next.calls k b1 A4 c5 (⟨s3.L, vt42⟩ : S_Stream) 3 HS58 (HR6.mono (L20.trans (L27.trans (L45.trans L56)))) vt72 vt73 hc74) ?_)
  rintro _ W77 ⟨f75, rfl, L76, HS78⟩
  refine ⟨_, rfl, ?_⟩
  refine seqL1 kr ?_
  refine nl (hK71 _ _ ?_)
  replace h := bind_some h; obtain ⟨v79, hv93, h⟩ := h
  have J94 : ∀ (f86 : FM) (x91 : Int) (x92 : Int) (j90 : Nat → Value) (W88 : World) (a_ : Act), FM.le f75 f86 → some ((x91, x92)) = some v79 → St t W88 f86 ([(b1, .cells #[.slice A4 s3.L.length c5, .int .i64 vt73] 25 (0, 0))] :: [(b30, .cells (cm_Mount ⟨x60, x61, vt16.Speed, vt16.Accel⟩ ⟨x91, x92, vt23.Speed, vt23.Accel⟩ ⟨0, 0⟩) 31 (0, 0))] :: [(b9, .cells (cm_Mount ⟨0, 0, 0, 0⟩ ⟨0, 0, 0, 0⟩ ⟨0, 0⟩) 31 (0, 0))] :: H) → a_ = ⟨⟨[pV b1 0, uV, pV b9 0, pV b30 0, pV b1 0, (ag_Axis vt16), pV b1 0, (ag_Axis vt23), .agg #[iV vt16.Min, iV vt16.Max, iV vt16.Speed, iV vt16.Accel, iV vt23.Min, iV vt23.Max, iV vt23.Speed, iV vt23.Accel, iV 0, iV 0], pV b1 0, iV vt41, .bool (decide (vt41 > 0))] ++ (jr j59 0 4 ([pV b1 0, iV vt72, .bool (decide (vt72 > 0))] ++ (jr j90 0 4 (un 11 []))))⟩, []⟩ → K68 a_ W88 := by
   intro f86 x91 x92 j90 W88 a_ L87 hj95 HS89  hfr_; subst hfr_
   injection hj95 with hj95; subst hj95; try dsimp only at h
   refine hK69 _ _ ?_
   refine wp_seq_k (fun K99 hK100 => ?_)
   have HS103 := HS89.u2.u2.u2
   refine heldG (S := Sg t f86 ([(b9, .cells (cm_Mount ⟨0, 0, 0, 0⟩ ⟨0, 0, 0, 0⟩ ⟨0, 0⟩) 31 (0, 0))] :: H) [(3, [(b1, .cells #[.slice A4 s3.L.length c5, .int .i64 vt73] 25 (0, 0))]), (10, [(b30, .cells (cm_Mount ⟨x60, x61, vt16.Speed, vt16.Accel⟩ ⟨x91, x92, vt23.Speed, vt23.Accel⟩ ⟨0, 0⟩) 31 (0, 0))])]) (n := 11) kr rfl HS103 ?_
   intro W104 HS105
   refine gL [0, 1] (fuel := 9) (bA 11 3) rfl kr kr kr hnp (Sg.g2 (Sx.of [[(b1, .cells #[.slice A4 s3.L.length c5, .int .i64 vt73] 25 (0, 0))], [(b30, .cells (cm_Mount ⟨x60, x61, vt16.Speed, vt16.Accel⟩ ⟨x91, x92, vt23.Speed, vt23.Accel⟩ ⟨0, 0⟩) 31 (0, 0))]] fL HS105) (fun _ => St.only [] HS105 fL) (fun _ => St.only [[(b1, .cells #[.slice A4 s3.L.length c5, .int .i64 vt73] 25 (0, 0))]] HS105 fL)) fun X106 => ?_
   refine gQs 2 10 rfl kr kr kr kr kr (.tail _ (.head _)) kr hnp X106 (fun hl_ hS_ => run_loadN (n := 4) rfl Try.underlying27 rfl kr (kv (pV b30 0)) (cs := (lm_Axis x60 x61 vt16.Speed vt16.Accel)) rfl (hS_.cells 0 4 _ rfl)) fun X107 => ?_
   refine gL [4, 5] (fuel := 6) (bA 11 55) rfl kr kr kr hnp X107 fun X108 => ?_
   refine gQs 6 10 rfl kr kr kr kr kr (.tail _ (.head _)) kr hnp X108 (fun hl_ hS_ => run_loadN (n := 4) rfl Try.underlying27 rfl kr (kv (pV b30 4)) (cs := (lm_Axis x91 x92 vt23.Speed vt23.Accel)) rfl (hS_.cells 4 4 _ rfl)) fun X109 => ?_
   replace h := bind_some h; obtain ⟨⟨vt110, vt111⟩, hc112, h⟩ := h
   refine takeGE 3 kr rfl kr (does_call kr (spymake_Stream_Inside.calls k b1 A4 c5 (⟨s3.L, vt73⟩ : S_Stream) (⟨x60, x61, vt16.Speed, vt16.Accel⟩ : S_Axis) HS105 (HR6.mono (L20.trans (L27.trans (L45.trans (L56.trans (L76.trans L87)))))) vt110 vt111 hc112) ?_)
   rintro _ W115 ⟨f113, rfl, L114, HS116⟩
   refine ⟨_, rfl, ?_⟩
   refine kB (Sg.g2 (Sx.of [[(b1, .cells #[.slice A4 s3.L.length c5, .int .i64 vt111] 25 (0, 0))], [(b30, .cells (cm_Mount ⟨x60, x61, vt16.Speed, vt16.Accel⟩ ⟨x91, x92, vt23.Speed, vt23.Accel⟩ ⟨0, 0⟩) 31 (0, 0))]] L114 HS116) (fun hl_ => Bool.noConfusion (show true = false from hl_)) (fun _ => St.only [[(b1, .cells #[.slice A4 s3.L.length c5, .int .i64 vt111] 25 (0, 0))]] HS116 L114)) fun X117 => ?_
   replace h := bind_some h; obtain ⟨⟨vt118, vt119⟩, hc120, h⟩ := h
   refine takeGE 7 kr rfl kr (does_call kr (spymake_Stream_Inside.calls k b1 A4 c5 (⟨s3.L, vt111⟩ : S_Stream) (⟨x91, x92, vt23.Speed, vt23.Accel⟩ : S_Axis) HS116 (HR6.mono (L20.trans (L27.trans (L45.trans (L56.trans (L76.trans (L87.trans L114))))))) vt118 vt119 hc120) ?_)
   rintro _ W123 ⟨f121, rfl, L122, HS124⟩
   refine ⟨_, rfl, ?_⟩
   refine kB (Sg.g2 (Sx.of [[(b1, .cells #[.slice A4 s3.L.length c5, .int .i64 vt119] 25 (0, 0))], [(b30, .cells (cm_Mount ⟨x60, x61, vt16.Speed, vt16.Accel⟩ ⟨x91, x92, vt23.Speed, vt23.Accel⟩ ⟨0, 0⟩) 31 (0, 0))]] (L114.trans L122) HS124) (fun hl_ => Bool.noConfusion (show true = false from hl_)) (fun _ => St.only [[(b1, .cells #[.slice A4 s3.L.length c5, .int .i64 vt119] 25 (0, 0))]] HS124 (L114.trans L122))) fun X125 => ?_
   refine gL [8, 9] (fuel := 1) (bA 11 1023) rfl kr kr kr hnp X125 fun X126 => ?_
   have HS127 := HS124.u1
   refine takeGE 10 kr rfl kr (does_store (n := 2) (vs := [.int .i64 vt110, .int .i64 vt118]) (cs' := (cm_Mount ⟨x60, x61, vt16.Speed, vt16.Accel⟩ ⟨x91, x92, vt23.Speed, vt23.Accel⟩ ⟨vt110, vt118⟩)) rfl kr (kv (pV b30 8)) (kv (.agg #[.int .i64 vt110, .int .i64 vt118])) rfl rfl (ones rfl) HS127 (Nat.le_of_ble_eq_true rfl) kr ?_)
   intro W128 HS129
   refine kB (Sg.g2 (Sx.of [[(b30, .cells (cm_Mount ⟨x60, x61, vt16.Speed, vt16.Accel⟩ ⟨x91, x92, vt23.Speed, vt23.Accel⟩ ⟨vt110, vt118⟩) 31 (0, 0))], [(b1, .cells #[.slice A4 s3.L.length c5, .int .i64 vt119] 25 (0, 0))]] (L114.trans L122) HS129) (fun hl_ => Bool.noConfusion (show true = false from hl_)) (fun hl_ => Bool.noConfusion (show true = false from hl_))) fun X130 => ?_
   refine doneG kr ?_ _
   refine hK100 _ _ ?_
   refine wp_seq_k fun K131 hK132 => rl ?_
   refine seqK rfl (does_run (run_loadN (n := 10) rfl Try.underlying31 rfl kr (kv (pV b30 0)) (cs := (lm_Mount ⟨x60, x61, vt16.Speed, vt16.Accel⟩ ⟨x91, x92, vt23.Speed, vt23.Accel⟩ ⟨vt110, vt118⟩)) rfl (HS129.cells 0 10 _ rfl)) ?_)
   have HS133 := HS129.u2
   refine seqK rfl (does_storeA (vs := (lm_Mount ⟨x60, x61, vt16.Speed, vt16.Accel⟩ ⟨x91, x92, vt23.Speed, vt23.Accel⟩ ⟨vt110, vt118⟩)) rfl kr kr kr rfl (ones rfl) HS133 kr ?_)
   intro W134 HS135
   refine nl (hK132 _ _ ?_)
   refine wp_ret ?_
   refine hret _ _ ?_
   refine ends (v := Value.agg (cm_Mount ⟨x60, x61, vt16.Speed, vt16.Accel⟩ ⟨x91, x92, vt23.Speed, vt23.Accel⟩ ⟨vt110, vt118⟩)) (results1 (q1 := .cell 2 31) kr (resN (n := 10) (cs := (lm_Mount ⟨x60, x61, vt16.Speed, vt16.Accel⟩ ⟨x91, x92, vt23.Speed, vt23.Accel⟩ ⟨vt110, vt118⟩)) (kv (pV b9 0)) Try.underlying31 rfl kr rfl (HS135.cells 0 10 _ rfl))) kr ?_
   have HS136 := HS135.drop
   have HS137 := HS136.drop
   injection h with h
   injection h with h0_ h
   subst h0_ h
   exact ⟨f121, rfl, (L20.trans (L27.trans (L45.trans (L56.trans (L76.trans (L87.trans (L114.trans L122))))))), HS137⟩
  clear h; have h := hv93; clear hv93
  replace h := ite_some h; rcases h with ⟨c80, h⟩ | ⟨c80, h⟩
  rotate_left
  · have c80 : ¬ (vt72 > 0) := c80
    refine wpRwI 18 kr (decide_eq_false c80) ?_
    refine condF kr ?_
    refine wp_skip ?_
    refine fnRwI (F := K68) 18 (x := false) (v := (decide (vt72 > 0))) kr (Eq.symm (decide_eq_false c80)) ?_
    exact J94 f75 vt23.Min vt23.Max (jL []) W77 _ fL h HS78 kr
  have c80 : vt72 > 0 := c80
  refine wpRwI 18 kr (decide_eq_true c80) ?_
  refine condT kr ?_
  refine rl ?_
  have HS81 := HS78.u1
  refine seqL2 kr ?_
  refine seqK rfl (does_store (n := 1) (vs := [.int .i64 (-1073741824)]) (cs' := (cm_Mount ⟨x60, x61, vt16.Speed, vt16.Accel⟩ ⟨(-1073741824), vt23.Max, vt23.Speed, vt23.Accel⟩ ⟨0, 0⟩)) rfl kr (kv (pV b30 4)) (kv (.int .i64 (-1073741824))) rfl rfl (ones rfl) HS81 (Nat.le_of_ble_eq_true rfl) kr ?_)
  intro W82 HS83
  refine seqL2 kr ?_
  refine seqK rfl (does_store (n := 1) (vs := [.int .i64 1073741824]) (cs' := (cm_Mount ⟨x60, x61, vt16.Speed, vt16.Accel⟩ ⟨(-1073741824), 1073741824, vt23.Speed, vt23.Accel⟩ ⟨0, 0⟩)) rfl kr (kv (pV b30 5)) (kv (.int .i64 1073741824)) rfl rfl (ones rfl) HS83 (Nat.le_of_ble_eq_true rfl) kr ?_)
  intro W84 HS85
  refine nl ?_
  refine fnRwI (F := K68) 18 (x := true) (v := (decide (vt72 > 0))) kr (Eq.symm (decide_eq_true c80)) ?_
  have HS98 := HS85.u2.u1.u2
  exact J94 f75 (-1073741824) 1073741824 (jL [pV b30 4, pV b30 4, pV b30 4, pV b30 5]) W84 _ fL h HS98 kr
 clear h; have h := hv62; clear hv62
 replace h := ite_some h; rcases h with ⟨c49, h⟩ | ⟨c49, h⟩
 rotate_left
 · have c49 : ¬ (vt41 > 0) := c49
   refine wpRwI 11 kr (decide_eq_false c49) ?_
   refine condF kr ?_
   refine wp_skip ?_
   refine fnRwI (F := K36) 11 (x := false) (v := (decide (vt41 > 0))) kr (Eq.symm (decide_eq_false c49)) ?_
   exact J63 f44 vt16.Min vt16.Max (jL []) W46 _ fL h HS47 kr
 have c49 : vt41 > 0 := c49
 refine wpRwI 11 kr (decide_eq_true c49) ?_
 refine condT kr ?_
 refine rl ?_
 have HS50 := HS47.u1
 refine seqL2 kr ?_
 refine seqK rfl (does_store (n := 1) (vs := [.int .i64 (-6442450944)]) (cs' := (cm_Mount ⟨(-6442450944), vt16.Max, vt16.Speed, vt16.Accel⟩ vt23 ⟨0, 0⟩)) rfl kr (kv (pV b30 0)) (kv (.int .i64 (-6442450944))) rfl rfl (ones rfl) HS50 (Nat.le_of_ble_eq_true rfl) kr ?_)
 intro W51 HS52
 refine seqL2 kr ?_
 refine seqK rfl (does_store (n := 1) (vs := [.int .i64 6442450944]) (cs' := (cm_Mount ⟨(-6442450944), 6442450944, vt16.Speed, vt16.Accel⟩ vt23 ⟨0, 0⟩)) rfl kr (kv (pV b30 1)) (kv (.int .i64 6442450944)) rfl rfl (ones rfl) HS52 (Nat.le_of_ble_eq_true rfl) kr ?_)
 intro W53 HS54
 refine nl ?_
 refine fnRwI (F := K36) 11 (x := true) (v := (decide (vt41 > 0))) kr (Eq.symm (decide_eq_true c49)) ?_
 have HS67 := HS54.u2.u1.u2
 exact J63 f44 (-6442450944) 6442450944 (jL [pV b30 0, pV b30 0, pV b30 0, pV b30 1]) W53 _ fL h HS67 kr

set_option maxRecDepth 100000 in
set_option maxHeartbeats 4000000 in
theorem spytop_h1orders.calls (k : Nat) (b1 : Nat) (A4 : Option Addr) (c5 : Nat) (s3 : S_Stream) (m7 : S_Mount) {t w : World} {f : FM} {H : List Seg} (HS : St t w f ([(b1, .cells #[.slice A4 s3.L.length c5, .int .i64 s3.vat] 25 (0, 0))] :: H)) (HR6 : SlR (tInt .i64) f A4 c5 s3.L) (rr1 : List S_Cmd) (rr2 : Int) (h : spytop_h1orders k s3 m7 = some (rr1, rr2)) :
    Calls Try.prog 5 #[pV b1 0, .agg (cl_Mount m7)] w (fun e w' => ∃ (g : FM) (A571 : Option Addr) (c572 : Nat) (s573 : Seg), e = .returned (Value.slice A571 rr1.length c572) ∧ FM.le f g ∧ St t w' g (s573 :: [(b1, .cells #[.slice A4 s3.L.length c5, .int .i64 rr2] 25 (0, 0))] :: H) ∧ Own ty_Cmd 76 g A571 c572 s573 rr1) := by
 unfold spytop_h1orders at h
 refine enter Try.func5 rfl (tm := ⟨[pV b1 0, (ag_Mount m7)] ++ (un 67 [])⟩) kr ?_
 intro B hret hnor hnp
 refine wp_seq_k fun K8 hK9 => rl ?_
 refine seqK rfl (does_box (cs := (cl_Mount m7)) rfl (kv (.agg (cl_Mount m7))) rfl HS ?_)
 intro b10 W11 HS12
 refine seqL1 kr ?_
 refine nl (hK9 _ _ ?_)
 refine wp_seq_k fun K14 hK15 => rl ?_
 refine seqL4 kr ?_
 refine seqK rfl (does_run (run_loadN (n := 4) rfl Try.underlying27 rfl kr (kv (pV b10 0)) (cs := (ll_Axis m7.Az)) rfl (HS12.cells 0 4 _ rfl)) ?_)
 have HS16 := HS12.u1
 replace h := bind_some h; obtain ⟨⟨vt17, vt18⟩, hc19, h⟩ := h
 refine seqK rfl (does_call kr (spymake_Stream_Inside.calls k b1 A4 c5 s3 m7.Az HS16 HR6 vt17 vt18 hc19) ?_)
 rintro _ W22 ⟨f20, rfl, L21, HS23⟩
 refine ⟨_, rfl, ?_⟩
 refine seqL2 kr ?_
 refine seqK rfl (does_lit (e := ty_Cmd) (E := 76) (vs := #[(0, Value.agg (cm_Cmd 13 0 0)), (1, Value.agg (cm_Cmd 6 0 0)), (2, Value.agg (cm_Cmd 0 vt17 0)), (3, Value.agg (cm_Cmd 2 0 0))]) (cs := #[.int .i64 13, .int .i64 0, .int .i64 0, .int .i64 6, .int .i64 0, .int .i64 0, .int .i64 0, .int .i64 vt17, .int .i64 0, .int .i64 2, .int .i64 0, .int .i64 0]) (xs := ([(⟨13, 0, 0⟩ : S_Cmd), (⟨6, 0, 0⟩ : S_Cmd), (⟨0, vt17, 0⟩ : S_Cmd), (⟨2, 0, 0⟩ : S_Cmd)] : List S_Cmd)) rfl Try.underlying33 kr kr ⟨(lm_Cmd 13 0 0), _, rfl, rfl, ⟨(lm_Cmd 6 0 0), _, rfl, rfl, ⟨(lm_Cmd 0 vt17 0), _, rfl, rfl, ⟨(lm_Cmd 2 0 0), _, rfl, rfl, rfl⟩⟩⟩⟩ rfl HS23 ?_ (by decide))
 intro b24 W25 s26 HS27 _ HO28
 refine seqL1 kr ?_
 refine nl (hK15 _ _ ?_)
 refine wp_seq_k (fun K30 hK31 => ?_)
 refine wp_seq_k fun K32 hK33 => rl ?_
 have HS34 := HS27.u1
 replace h := bind_some h; obtain ⟨⟨vt35, vt36⟩, hc37, h⟩ := h
 refine seqL1 kr ?_
 refine seqK rfl (does_call kr (spymake_Stream_Next.calls k b1 A4 c5 (⟨s3.L, vt18⟩ : S_Stream) 10 HS34 (HR6.mono L21) vt35 vt36 hc37) ?_)
 rintro _ W40 ⟨f38, rfl, L39, HS41⟩
 refine ⟨_, rfl, ?_⟩
 refine seqL1 kr ?_
 refine nl (hK33 _ _ ?_)
 refine blockK (fun B42 hx43 hn44 hr45 ho46 hp47 => ?_)
 replace h := bind_some h; obtain ⟨o223, hv411, h⟩ := h
 have J412 : ∀ (f400 : FM) (A406 : Option Addr) (c407 : Nat) (s408 : Seg) (l405 : List S_Cmd) (x410 : Int) (j404 : Nat → Value) (W402 : World) (a_ : Act), FM.le f38 f400 → some ((l405, x410)) = some o223 → St t W402 f400 ([(b1, .cells #[.slice A4 s3.L.length c5, .int .i64 x410] 25 (0, 0))] :: s408 :: [(b10, .cells (cl_Mount m7) 31 (0, 0))] :: H) → Own ty_Cmd 76 f400 A406 c407 s408 l405 → a_ = ⟨⟨[pV b1 0, (ag_Mount m7), uV, pV b10 0, .slice none 0 0, .slice A406 l405.length c407, (j404 0), (j404 1), uV, uV, .agg #[iV 13, iV 0, iV 0], .agg #[iV 6, iV 0, iV 0], pV b1 0, pV b10 0, (ag_Axis m7.Az), iV vt17, .agg #[iV 0, iV vt17, iV 0], .agg #[iV 2, iV 0, iV 0], (j404 2), pV b1 0, iV vt35] ++ (jr j404 3 32 (un 16 []))⟩, []⟩ → K30 a_ W402 := by
  intro f400 A406 c407 s408 l405 x410 j404 W402 a_ L401 hj413 HS403 HO409 hfr_; subst hfr_
  injection hj413 with hj413; subst hj413; try dsimp only at h
  refine hK31 _ _ ?_
  refine wp_seq_k fun K434 hK435 => rl ?_
  refine seqL1 kr ?_
  refine nl (hK435 _ _ ?_)
  refine wp_seq_k (fun K436 hK437 => ?_)
  refine wp_seq_k fun K438 hK439 => rl ?_
  refine seqL3 kr ?_
  refine nl (hK439 _ _ ?_)
  refine blockK (fun B440 hx441 hn442 hr443 ho444 hp445 => ?_)
  replace h := bind_some h; obtain ⟨o495, hv560, h⟩ := h
  have J561 : ∀ (f550 : FM) (s556 : Seg) (l555 : List S_Cmd) (x559 : Int) (j554 : Nat → Value) (W552 : World) (a_ : Act), FM.le f400 f550 → some ((l555, x559)) = some o495 → St t W552 f550 ([(b1, .cells #[.slice A4 s3.L.length c5, .int .i64 x559] 25 (0, 0))] :: s556 :: [(b10, .cells (cl_Mount m7) 31 (0, 0))] :: H) → Own ty_Cmd 76 f550 A406 c407 s556 l555 → l555.length = l405.length → a_ = ⟨⟨[pV b1 0, (ag_Mount m7), uV, pV b10 0, .slice none 0 0, .slice A406 l555.length c407, (j404 0), (j404 1), (j554 0), (j554 1), .agg #[iV 13, iV 0, iV 0], .agg #[iV 6, iV 0, iV 0], pV b1 0, pV b10 0, (ag_Axis m7.Az), iV vt17, .agg #[iV 0, iV vt17, iV 0], .agg #[iV 2, iV 0, iV 0], (j404 2), pV b1 0, iV vt35] ++ (jr j404 3 32 ([(j554 2), iV (l405.length : Int)] ++ (jr j554 3 13 [uV])))⟩, []⟩ → K436 a_ W552 := by
   intro f550 s556 l555 x559 j554 W552 a_ L551 hj562 HS553 HO557 HL558 hfr_; subst hfr_
   injection hj562 with hj562; subst hj562; try dsimp only at h
   refine hK437 _ _ ?_
   refine wp_seq_k fun K566 hK567 => rl ?_
   refine seqL2 kr ?_
   refine nl (hK567 _ _ ?_)
   refine wp_ret ?_
   refine hret _ _ ?_
   refine ends_still (v := Value.slice A406 l555.length c407) kr kr ?_
   have HS569 := HS553.u1.u2
   have HS570 := HS569.drop
   injection h with h
   injection h with h0_ h
   subst h0_ h
   exact ⟨f550, A406, c407, s556, rfl, (L21.trans (L39.trans (L401.trans L551))), HS570, HO557⟩
  clear h; have h := hv560; clear hv560
  refine loopK (fun n_ a_ w_ => ∃ (f499 : FM) (s505 : Seg) (l504 : List S_Cmd) (due508 : Int) (x509 : Int) (x510 : Int) (j503 : Nat → Value), FM.le f400 f499 ∧ St t w_ f499 ([(b1, .cells #[.slice A4 s3.L.length c5, .int .i64 x510] 25 (0, 0))] :: s505 :: [(b10, .cells (cl_Mount m7) 31 (0, 0))] :: H) ∧ Own ty_Cmd 76 f499 A406 c407 s505 l504 ∧ l504.length = l405.length ∧ spytop_h1orders.l1 k l405 s3 n_ l504 due508 x509 x510 = some o495 ∧ a_ = ⟨⟨[pV b1 0, (ag_Mount m7), uV, pV b10 0, .slice none 0 0, .slice A406 l504.length c407, (j404 0), (j404 1), iV due508, (j503 0), .agg #[iV 13, iV 0, iV 0], .agg #[iV 6, iV 0, iV 0], pV b1 0, pV b10 0, (ag_Axis m7.Az), iV vt17, .agg #[iV 0, iV vt17, iV 0], .agg #[iV 2, iV 0, iV 0], (j404 2), pV b1 0, iV vt35] ++ (jr j404 3 32 ([.slice A406 l405.length c407, iV (l405.length : Int), iV x509] ++ (jr j503 1 12 [uV])))⟩, []⟩) k ⟨f400, s408, l405, 0, 0, x410, (jL []), fL, HS403, HO409, rfl, h, kr⟩ ?_
  clear h
  rintro n498 _ W501 ⟨f499, s505, l504, due508, x509, x510, j503, L500, HS502, HO506, HL507, h, rfl⟩ K496 hK497
  obtain _ | n498 := n498
  · exact nomatch h
  simp only [spytop_h1orders.l1] at h
  refine wp_seq_k fun K511 hK512 => rl ?_
  refine seqL1 kr ?_
  refine nl (hK512 _ _ ?_)
  refine wp_seq_k (fun K513 hK514 => ?_)
  replace h := ite_some h; rcases h with ⟨c516, h⟩ | ⟨c516, h⟩
  rotate_left
  · have c516 : ¬ (x509 < (l405.length : Int)) := c516
    refine wpRwI 56 kr (decide_eq_false c516) ?_
    refine condF kr ?_
    refine wp_exit ?_
    refine hx441 _ _ ?_
    exact J561 f499 s505 l504 x510 (jL [iV due508, (j503 0), .slice A406 l405.length c407, iV x509, fV, (j503 2), (j503 3), (j503 4), (j503 5), (j503 6), (j503 7), (j503 8), (j503 9), (j503 10), (j503 11), (j503 12)]) W501 _ L500 h HS502 HO506 HL507 kr
  have c516 : x509 < (l405.length : Int) := c516
  refine wpRwI 56 kr (decide_eq_true c516) ?_
  refine condT kr ?_
  refine wp_skip ?_
  refine hK514 _ _ ?_
  refine wp_seq_k (fun K517 hK518 => ?_)
  refine blockK (fun B519 hx520 hn521 hr522 ho523 hp524 => ?_)
  refine wp_seq_k fun K526 hK527 => rl ?_
  refine seqL2 kr ?_
  refine nl (hK527 _ _ ?_)
  refine wp_seq_k fun K528 hK529 => rl ?_
  replace h := bind_some h; obtain ⟨⟨vt530, vt531⟩, hc532, h⟩ := h
  refine seqL2 kr ?_
  refine seqK rfl (does_call kr (spymake_Stream_Next.calls k b1 A4 c5 (⟨s3.L, x510⟩ : S_Stream) 24 HS502 (HR6.mono (L21.trans (L39.trans (L401.trans L500)))) vt530 vt531 hc532) ?_)
  rintro _ W535 ⟨f533, rfl, L534, HS536⟩
  refine ⟨_, rfl, ?_⟩
  refine seqL2 kr ?_
  refine nl (hK529 _ _ ?_)
  refine rl ?_
  replace h := guard_some h; obtain ⟨c537, h⟩ := h
  have c537 : 0 ≤ x509 := c537
  replace h := guard_some h; obtain ⟨c538, h⟩ := h
  have c538 : x509 < (l504.length : Int) := c538
  obtain ⟨b542, of543, cs539, hA544, hr540, hc541⟩ := (HO506.mono L534).at (i := x509) c537 c538
  obtain rfl := hr540
  refine seqL3 kr ?_
  refine seqK rfl (does_run (run_indexE hA544 (sz := 3) rfl Try.underlying33 kr (kv (.slice A406 l504.length c407)) (kv (.int .i64 x509)) c537 c538 W535) ?_)
  have HS545 := HS536.u1
  refine seqL1 kr ?_
  refine seqK rfl (does_putP (e := ty_Cmd) (E := 76) (fo := 2) (vs := [.int .i64 (w64 (due508 + vt530))]) (u := (⟨(rd l504 x509).Op, (rd l504 x509).Arg, w64 (due508 + vt530)⟩ : S_Cmd)) (i := x509) rfl kr (HO506.mono L534) HS545 hA544 (kv (pV b542 (of543 + (x509 : Int).toNat * 3 + 2))) (kv (.int .i64 (w64 (due508 + vt530)))) rfl rfl (ones rfl) (u0 := (rd l504 x509)) rfl rfl rfl (Nat.le_of_ble_eq_true rfl) (hc541 HS545) c537 c538 ?_)
  intro W546 s547 HS548 HO549
  refine seqRwS 5 (A := A406) (m := l504.length) (n := (l504.set (x509).toNat (⟨(rd l504 x509).Op, (rd l504 x509).Arg, w64 (due508 + vt530)⟩ : S_Cmd)).length) (c := c407) kr (List.length_set).symm ?_
  refine seqRwS 62 (A := A406) (m := l504.length) (n := (l504.set (x509).toNat (⟨(rd l504 x509).Op, (rd l504 x509).Arg, w64 (due508 + vt530)⟩ : S_Cmd)).length) (c := c407) kr (List.length_set).symm ?_
  refine nl ?_
  refine hn521 _ _ ?_
  refine hK518 _ _ ?_
  refine rl ?_
  refine seqL2 kr ?_
  refine nl ?_
  refine hK497 n498 _ _ (Nat.lt_succ_self _) ?_
  have HS565 := HS548.u2.u1.u2
  exact ⟨f533, s547, (l504.set (x509).toNat (⟨(rd l504 x509).Op, (rd l504 x509).Arg, w64 (due508 + vt530)⟩ : S_Cmd)), (w64 (due508 + vt530)), (w64 (x509 + 1)), vt531, (jL [iV x509, tV, iV x509, iV due508, pV b1 0, iV vt530, iV (w64 (due508 + vt530)), .slice A406 (l504.set (x509).toNat (⟨(rd l504 x509).Op, (rd l504 x509).Arg, w64 (due508 + vt530)⟩ : S_Cmd)).length c407, iV x509, iV (w64 (due508 + vt530)), pV b542 (of543 + (x509 : Int).toNat * 3), pV b542 (of543 + (x509 : Int).toNat * 3 + 2), iV (w64 (x509 + 1))]), (L500.trans L534), HS565, HO549, (List.length_set.trans HL507), h, kr⟩
 clear h; have h := hv411; clear hv411
 refine loopK (fun n_ a_ w_ => ∃ (f227 : FM) (A233 : Option Addr) (c234 : Nat) (s235 : Seg) (l232 : List S_Cmd) (x237 : Int) (x238 : Int) (j231 : Nat → Value), FM.le f38 f227 ∧ St t w_ f227 ([(b1, .cells #[.slice A4 s3.L.length c5, .int .i64 x238] 25 (0, 0))] :: s235 :: [(b10, .cells (cl_Mount m7) 31 (0, 0))] :: H) ∧ Own ty_Cmd 76 f227 A233 c234 s235 l232 ∧ spytop_h1orders.l0 k vt35 s3 m7 n_ l232 x237 x238 = some o223 ∧ a_ = ⟨⟨[pV b1 0, (ag_Mount m7), uV, pV b10 0, .slice none 0 0, .slice A233 l232.length c234, (j231 0), (j231 1), uV, uV, .agg #[iV 13, iV 0, iV 0], .agg #[iV 6, iV 0, iV 0], pV b1 0, pV b10 0, (ag_Axis m7.Az), iV vt17, .agg #[iV 0, iV vt17, iV 0], .agg #[iV 2, iV 0, iV 0], .slice (some ⟨b24, 0, none⟩) ([(⟨13, 0, 0⟩ : S_Cmd), (⟨6, 0, 0⟩ : S_Cmd), (⟨0, vt17, 0⟩ : S_Cmd), (⟨2, 0, 0⟩ : S_Cmd)] : List S_Cmd).length 4, pV b1 0, iV vt35, iV x237] ++ (jr j231 2 31 (un 16 []))⟩, []⟩) k ⟨f38, (some ⟨b24, 0, none⟩), 4, s26, ([(⟨13, 0, 0⟩ : S_Cmd), (⟨6, 0, 0⟩ : S_Cmd), (⟨0, vt17, 0⟩ : S_Cmd), (⟨2, 0, 0⟩ : S_Cmd)] : List S_Cmd), 0, vt36, (jL []), fL, HS41, (HO28.mono L39), h, kr⟩ ?_
 clear h
 rintro n226 _ W229 ⟨f227, A233, c234, s235, l232, x237, x238, j231, L228, HS230, HO236, h, rfl⟩ K224 hK225
 obtain _ | n226 := n226
 · exact nomatch h
 simp only [spytop_h1orders.l0] at h
 refine wp_seq_k fun K239 hK240 => rl ?_
 refine seqL1 kr ?_
 refine nl (hK240 _ _ ?_)
 refine wp_seq_k (fun K241 hK242 => ?_)
 replace h := ite_some h; rcases h with ⟨c244, h⟩ | ⟨c244, h⟩
 rotate_left
 · have c244 : ¬ (x237 < vt35) := c244
   refine wpRwI 22 kr (decide_eq_false c244) ?_
   refine condF kr ?_
   refine wp_exit ?_
   refine hx43 _ _ ?_
   exact J412 f227 A233 c234 s235 l232 x238 (jL [(j231 0), (j231 1), .slice (some ⟨b24, 0, none⟩) ([(⟨13, 0, 0⟩ : S_Cmd), (⟨6, 0, 0⟩ : S_Cmd), (⟨0, vt17, 0⟩ : S_Cmd), (⟨2, 0, 0⟩ : S_Cmd)] : List S_Cmd).length 4, iV x237, fV, (j231 3), (j231 4), (j231 5), (j231 6), (j231 7), (j231 8), (j231 9), (j231 10), (j231 11), (j231 12), (j231 13), (j231 14), (j231 15), (j231 16), (j231 17), (j231 18), (j231 19), (j231 20), (j231 21), (j231 22), (j231 23), (j231 24), (j231 25), (j231 26), (j231 27), (j231 28), (j231 29), (j231 30), (j231 31), (j231 32)]) W229 _ L228 h HS230 HO236 kr
 have c244 : x237 < vt35 := c244
 refine wpRwI 22 kr (decide_eq_true c244) ?_
 refine condT kr ?_
 refine wp_skip ?_
 refine hK242 _ _ ?_
 refine wp_seq_k (fun K245 hK246 => ?_)
 refine blockK (fun B247 hx248 hn249 hr250 ho251 hp252 => ?_)
 refine wp_seq_k fun K254 hK255 => rl ?_
 replace h := bind_some h; obtain ⟨⟨vt256, vt257⟩, hc258, h⟩ := h
 refine seqL1 kr ?_
 refine seqK rfl (does_call kr (spymake_Stream_Next.calls k b1 A4 c5 (⟨s3.L, x238⟩ : S_Stream) 14 HS230 (HR6.mono (L21.trans (L39.trans L228))) vt256 vt257 hc258) ?_)
 rintro _ W261 ⟨f259, rfl, L260, HS262⟩
 refine ⟨_, rfl, ?_⟩
 refine seqL1 kr ?_
 refine nl (hK255 _ _ ?_)
 refine wp_seq_k fun K263 hK264 => rl ?_
 refine seqL2 kr ?_
 refine seqK rfl (does_alloc (z := Value.agg (cm_Cmd 0 0 0)) (cs := (cm_Cmd 0 0 0)) rfl kr rfl HS262 ?_)
 intro b265 W266 HS267
 refine seqK rfl (does_storeA (vs := (lm_Cmd vt256 0 0)) rfl kr kr kr rfl (ones rfl) HS267 kr ?_)
 intro W269 HS270
 refine nl (hK264 _ _ ?_)
 refine wp_seq_k (fun K271 hK272 => ?_)
 refine wp_seq_k fun K273 hK274 => rl ?_
 refine seqL1 kr ?_
 refine nl (hK274 _ _ ?_)
 refine blockK (fun B275 hx276 hn277 hr278 ho279 hp280 => ?_)
 refine wp_seq_k (fun K282 hK283 => ?_)
 refine wp_seq_k fun K284 hK285 => rl ?_
 refine seqL2 kr ?_
 refine nl (hK285 _ _ ?_)
 replace h := bind_some h; obtain ⟨v286, hv294, h⟩ := h
 have J295 : ∀ (f288 : FM) (x293 : Bool) (j292 : Nat → Value) (W290 : World) (a_ : Act), FM.le f259 f288 → some (x293) = some v286 → St t W290 f288 ([(b265, .cells (cm_Cmd vt256 0 0) 76 (0, 0))] :: [(b1, .cells #[.slice A4 s3.L.length c5, .int .i64 vt257] 25 (0, 0))] :: s235 :: [(b10, .cells (cl_Mount m7) 31 (0, 0))] :: H) → a_ = ⟨⟨[pV b1 0, (ag_Mount m7), uV, pV b10 0, .slice none 0 0, .slice A233 l232.length c234, iV vt256, pV b265 0, uV, uV, .agg #[iV 13, iV 0, iV 0], .agg #[iV 6, iV 0, iV 0], pV b1 0, pV b10 0, (ag_Axis m7.Az), iV vt17, .agg #[iV 0, iV vt17, iV 0], .agg #[iV 2, iV 0, iV 0], .slice (some ⟨b24, 0, none⟩) ([(⟨13, 0, 0⟩ : S_Cmd), (⟨6, 0, 0⟩ : S_Cmd), (⟨0, vt17, 0⟩ : S_Cmd), (⟨2, 0, 0⟩ : S_Cmd)] : List S_Cmd).length 4, pV b1 0, iV vt35, iV x237, tV, pV b1 0, iV vt256, iV vt256, .agg #[iV vt256, iV 0, iV 0], iV vt256, .bool x293, .bool (vt256 == 0), (j292 0)] ++ (jr j231 11 22 (un 16 []))⟩, []⟩ → K282 a_ W290 := by
  intro f288 x293 j292 W290 a_ L289 hj296 HS291  hfr_; subst hfr_
  injection hj296 with hj296; subst hj296; try dsimp only at h
  refine hK283 _ _ ?_
  replace h := ite_some h; rcases h with ⟨c298, h⟩ | ⟨c298, h⟩
  · have c298 : x293 = true := c298
    refine wpRwI 28 kr c298 ?_
    refine condT kr ?_
    refine rl ?_
    refine seqL2 kr ?_
    refine seqK rfl (does_run (run_loadN (n := 4) rfl Try.underlying27 rfl kr (kv (pV b10 0)) (cs := (ll_Axis m7.Az)) rfl (HS291.u3.cells 0 4 _ rfl)) ?_)
    have HS299 := HS291.u1
    replace h := bind_some h; obtain ⟨⟨vt300, vt301⟩, hc302, h⟩ := h
    refine seqK rfl (does_call kr (spymake_Stream_Inside.calls k b1 A4 c5 (⟨s3.L, vt257⟩ : S_Stream) m7.Az HS299 (HR6.mono (L21.trans (L39.trans (L228.trans (L260.trans L289))))) vt300 vt301 hc302) ?_)
    rintro _ W305 ⟨f303, rfl, L304, HS306⟩
    refine ⟨_, rfl, ?_⟩
    have HS307 := HS306.u1
    refine seqL1 kr ?_
    refine seqK rfl (does_store (n := 1) (vs := [.int .i64 vt300]) (cs' := (cm_Cmd vt256 vt300 0)) rfl kr (kv (pV b265 1)) (kv (.int .i64 vt300)) rfl rfl (ones rfl) HS307 (Nat.le_of_ble_eq_true rfl) kr ?_)
    intro W308 HS309
    refine nl ?_
    refine hn277 _ _ ?_
    refine hK272 _ _ ?_
    refine rl ?_
    refine seqL1 kr ?_
    refine seqK rfl (does_run (run_loadN (n := 3) rfl Try.underlying76 rfl kr (kv (pV b265 0)) (cs := (lm_Cmd vt256 vt300 0)) rfl (HS309.cells 0 3 _ rfl)) ?_)
    refine seqK rfl (does_lit (e := ty_Cmd) (E := 76) (vs := #[(0, Value.agg (cm_Cmd vt256 vt300 0))]) (cs := (cm_Cmd vt256 vt300 0)) (xs := ([(⟨vt256, vt300, 0⟩ : S_Cmd)] : List S_Cmd)) rfl Try.underlying33 kr kr ⟨(lm_Cmd vt256 vt300 0), _, rfl, rfl, rfl⟩ rfl HS309 ?_ (by decide))
    intro b340 W341 s342 HS343 _ HO344
    replace h := guard_some h; obtain ⟨c346, h⟩ := h
    have c346 : (l232.length + 1) * 24 ≤ 140737488355328 := c346
    have HS348 := HS343.u3.u1
    refine seqK rfl (does_append1 (e := ty_Cmd) (E := 76) (xs := l232) (ys := ([(⟨vt256, vt300, 0⟩ : S_Cmd)] : List S_Cmd)) rfl (kv (.slice A233 l232.length c234)) (kv (.slice (some ⟨b340, 0, none⟩) ([(⟨vt256, vt300, 0⟩ : S_Cmd)] : List S_Cmd).length 1)) Try.underlying33 inf76 (HO236.mono (L260.trans (L289.trans L304))) HO344 HS348 c346 (lim63 c346 (by decide)) ?_)
    intro A349 c350 s351 W352 HS353 HO354
    refine seqL1 kr ?_
    refine nl ?_
    refine hn249 _ _ ?_
    refine hK246 _ _ ?_
    refine rl ?_
    refine seqL2 kr ?_
    refine nl ?_
    refine hK225 n226 _ _ (Nat.lt_succ_self _) ?_
    have HS417 := HS353.u3.u1.u3.u3
    have HS418 := HS417.drop
    exact ⟨f303, A349, c350, s351, (l232 ++ ([(⟨vt256, vt300, 0⟩ : S_Cmd)] : List S_Cmd)), (w64 (x237 + 1)), vt301, (jL [iV vt256, pV b265 0, tV, pV b1 0, iV vt256, iV vt256, .agg (cm_Cmd vt256 0 0), iV vt256, tV, .bool (vt256 == 0), (j292 0), pV b1 0, pV b10 0, (ag_Axis m7.Az), iV vt300, pV b265 1, (j231 16), (j231 17), (j231 18), (j231 19), (j231 20), (j231 21), (j231 22), (j231 23), (j231 24), (j231 25), (j231 26), (j231 27), .slice A233 l232.length c234, .agg (cm_Cmd vt256 vt300 0), .slice (some ⟨b340, 0, none⟩) ([(⟨vt256, vt300, 0⟩ : S_Cmd)] : List S_Cmd).length 1, .slice A349 (l232 ++ ([(⟨vt256, vt300, 0⟩ : S_Cmd)] : List S_Cmd)).length c350, iV (w64 (x237 + 1))]), (L228.trans (L260.trans (L289.trans L304))), HS418, HO354, h, kr⟩
  have c298 : ¬ (x293 = true) := c298
  refine wpRwI 28 kr (Bool.eq_false_iff.mpr c298) ?_
  refine condF kr ?_
  refine wp_seq_k fun K310 hK311 => rl ?_
  refine seqL2 kr ?_
  refine nl (hK311 _ _ ?_)
  replace h := ite_some h; rcases h with ⟨c313, h⟩ | ⟨c313, h⟩
  · have c313 : vt256 = 1 := c313
    refine wpRwI 36 kr (beq_iff_eq.mpr c313) ?_
    refine wpRwI 37 kr (beq_iff_eq.mpr c313) ?_
    refine condT kr ?_
    refine rl ?_
    refine seqL2 kr ?_
    refine seqK rfl (does_run (run_loadN (n := 4) rfl Try.underlying27 rfl kr (kv (pV b10 4)) (cs := (ll_Axis m7.Alt)) rfl (HS291.u3.cells 4 4 _ rfl)) ?_)
    have HS314 := HS291.u1
    replace h := bind_some h; obtain ⟨⟨vt315, vt316⟩, hc317, h⟩ := h
    refine seqK rfl (does_call kr (spymake_Stream_Inside.calls k b1 A4 c5 (⟨s3.L, vt257⟩ : S_Stream) m7.Alt HS314 (HR6.mono (L21.trans (L39.trans (L228.trans (L260.trans L289))))) vt315 vt316 hc317) ?_)
    rintro _ W320 ⟨f318, rfl, L319, HS321⟩
    refine ⟨_, rfl, ?_⟩
    have HS322 := HS321.u1
    refine seqL1 kr ?_
    refine seqK rfl (does_store (n := 1) (vs := [.int .i64 vt315]) (cs' := (cm_Cmd vt256 vt315 0)) rfl kr (kv (pV b265 1)) (kv (.int .i64 vt315)) rfl rfl (ones rfl) HS322 (Nat.le_of_ble_eq_true rfl) kr ?_)
    intro W323 HS324
    refine nl ?_
    refine hn277 _ _ ?_
    refine hK272 _ _ ?_
    refine rl ?_
    refine seqL1 kr ?_
    refine seqK rfl (does_run (run_loadN (n := 3) rfl Try.underlying76 rfl kr (kv (pV b265 0)) (cs := (lm_Cmd vt256 vt315 0)) rfl (HS324.cells 0 3 _ rfl)) ?_)
    refine seqK rfl (does_lit (e := ty_Cmd) (E := 76) (vs := #[(0, Value.agg (cm_Cmd vt256 vt315 0))]) (cs := (cm_Cmd vt256 vt315 0)) (xs := ([(⟨vt256, vt315, 0⟩ : S_Cmd)] : List S_Cmd)) rfl Try.underlying33 kr kr ⟨(lm_Cmd vt256 vt315 0), _, rfl, rfl, rfl⟩ rfl HS324 ?_ (by decide))
    intro b355 W356 s357 HS358 _ HO359
    replace h := guard_some h; obtain ⟨c361, h⟩ := h
    have c361 : (l232.length + 1) * 24 ≤ 140737488355328 := c361
    have HS363 := HS358.u3.u1
    refine seqK rfl (does_append1 (e := ty_Cmd) (E := 76) (xs := l232) (ys := ([(⟨vt256, vt315, 0⟩ : S_Cmd)] : List S_Cmd)) rfl (kv (.slice A233 l232.length c234)) (kv (.slice (some ⟨b355, 0, none⟩) ([(⟨vt256, vt315, 0⟩ : S_Cmd)] : List S_Cmd).length 1)) Try.underlying33 inf76 (HO236.mono (L260.trans (L289.trans L319))) HO359 HS363 c361 (lim63 c361 (by decide)) ?_)
    intro A364 c365 s366 W367 HS368 HO369
    refine seqL1 kr ?_
    refine nl ?_
    refine hn249 _ _ ?_
    refine hK246 _ _ ?_
    refine rl ?_
    refine seqL2 kr ?_
    refine nl ?_
    refine hK225 n226 _ _ (Nat.lt_succ_self _) ?_
    have HS422 := HS368.u3.u1.u3.u3
    have HS423 := HS422.drop
    exact ⟨f318, A364, c365, s366, (l232 ++ ([(⟨vt256, vt315, 0⟩ : S_Cmd)] : List S_Cmd)), (w64 (x237 + 1)), vt316, (jL [iV vt256, pV b265 0, tV, pV b1 0, iV vt256, iV vt256, .agg (cm_Cmd vt256 0 0), iV vt256, fV, .bool (vt256 == 0), (j292 0), (j231 11), (j231 12), (j231 13), (j231 14), (j231 15), tV, tV, pV b1 0, pV b10 4, (ag_Axis m7.Alt), iV vt315, pV b265 1, (j231 23), (j231 24), (j231 25), (j231 26), (j231 27), .slice A233 l232.length c234, .agg (cm_Cmd vt256 vt315 0), .slice (some ⟨b355, 0, none⟩) ([(⟨vt256, vt315, 0⟩ : S_Cmd)] : List S_Cmd).length 1, .slice A364 (l232 ++ ([(⟨vt256, vt315, 0⟩ : S_Cmd)] : List S_Cmd)).length c365, iV (w64 (x237 + 1))]), (L228.trans (L260.trans (L289.trans L319))), HS423, HO369, h, kr⟩
  have c313 : ¬ (vt256 = 1) := c313
  refine wpRwI 36 kr (beq_eq_false_iff_ne.mpr c313) ?_
  refine wpRwI 37 kr (beq_eq_false_iff_ne.mpr c313) ?_
  refine condF kr ?_
  refine wp_seq_k fun K325 hK326 => rl ?_
  refine seqL2 kr ?_
  refine nl (hK326 _ _ ?_)
  replace h := ite_some h; rcases h with ⟨c328, h⟩ | ⟨c328, h⟩
  rotate_left
  · have c328 : ¬ (vt256 = 9) := c328
    refine wpRwI 43 kr (beq_eq_false_iff_ne.mpr c328) ?_
    refine wpRwI 44 kr (beq_eq_false_iff_ne.mpr c328) ?_
    refine condF kr ?_
    refine wp_skip ?_
    refine hn277 _ _ ?_
    refine hK272 _ _ ?_
    refine rl ?_
    refine seqL1 kr ?_
    refine seqK rfl (does_run (run_loadN (n := 3) rfl Try.underlying76 rfl kr (kv (pV b265 0)) (cs := (lm_Cmd vt256 0 0)) rfl (HS291.cells 0 3 _ rfl)) ?_)
    refine seqK rfl (does_lit (e := ty_Cmd) (E := 76) (vs := #[(0, Value.agg (cm_Cmd vt256 0 0))]) (cs := (cm_Cmd vt256 0 0)) (xs := ([(⟨vt256, 0, 0⟩ : S_Cmd)] : List S_Cmd)) rfl Try.underlying33 kr kr ⟨(lm_Cmd vt256 0 0), _, rfl, rfl, rfl⟩ rfl HS291 ?_ (by decide))
    intro b385 W386 s387 HS388 _ HO389
    replace h := guard_some h; obtain ⟨c391, h⟩ := h
    have c391 : (l232.length + 1) * 24 ≤ 140737488355328 := c391
    have HS393 := HS388.u3.u1
    refine seqK rfl (does_append1 (e := ty_Cmd) (E := 76) (xs := l232) (ys := ([(⟨vt256, 0, 0⟩ : S_Cmd)] : List S_Cmd)) rfl (kv (.slice A233 l232.length c234)) (kv (.slice (some ⟨b385, 0, none⟩) ([(⟨vt256, 0, 0⟩ : S_Cmd)] : List S_Cmd).length 1)) Try.underlying33 inf76 (HO236.mono (L260.trans L289)) HO389 HS393 c391 (lim63 c391 (by decide)) ?_)
    intro A394 c395 s396 W397 HS398 HO399
    refine seqL1 kr ?_
    refine nl ?_
    refine hn249 _ _ ?_
    refine hK246 _ _ ?_
    refine rl ?_
    refine seqL2 kr ?_
    refine nl ?_
    refine hK225 n226 _ _ (Nat.lt_succ_self _) ?_
    have HS432 := HS398.u3.u1.u3.u3
    have HS433 := HS432.drop
    exact ⟨f288, A394, c395, s396, (l232 ++ ([(⟨vt256, 0, 0⟩ : S_Cmd)] : List S_Cmd)), (w64 (x237 + 1)), vt257, (jL [iV vt256, pV b265 0, tV, pV b1 0, iV vt256, iV vt256, .agg (cm_Cmd vt256 0 0), iV vt256, fV, .bool (vt256 == 0), (j292 0), (j231 11), (j231 12), (j231 13), (j231 14), (j231 15), fV, fV, (j231 18), (j231 19), (j231 20), (j231 21), (j231 22), fV, fV, (j231 25), (j231 26), (j231 27), .slice A233 l232.length c234, .agg (cm_Cmd vt256 0 0), .slice (some ⟨b385, 0, none⟩) ([(⟨vt256, 0, 0⟩ : S_Cmd)] : List S_Cmd).length 1, .slice A394 (l232 ++ ([(⟨vt256, 0, 0⟩ : S_Cmd)] : List S_Cmd)).length c395, iV (w64 (x237 + 1))]), (L228.trans (L260.trans L289)), HS433, HO399, h, kr⟩
  have c328 : vt256 = 9 := c328
  refine wpRwI 43 kr (beq_iff_eq.mpr c328) ?_
  refine wpRwI 44 kr (beq_iff_eq.mpr c328) ?_
  refine condT kr ?_
  refine rl ?_
  have HS329 := HS291.u1
  replace h := bind_some h; obtain ⟨⟨vt330, vt331⟩, hc332, h⟩ := h
  refine seqL1 kr ?_
  refine seqK rfl (does_call kr (spymake_Stream_Range.calls k b1 A4 c5 (⟨s3.L, vt257⟩ : S_Stream) 1 9 HS329 (HR6.mono (L21.trans (L39.trans (L228.trans (L260.trans L289))))) vt330 vt331 hc332) ?_)
  rintro _ W335 ⟨f333, rfl, L334, HS336⟩
  refine ⟨_, rfl, ?_⟩
  have HS337 := HS336.u1
  refine seqL1 kr ?_
  refine seqK rfl (does_store (n := 1) (vs := [.int .i64 vt330]) (cs' := (cm_Cmd vt256 vt330 0)) rfl kr (kv (pV b265 1)) (kv (.int .i64 vt330)) rfl rfl (ones rfl) HS337 (Nat.le_of_ble_eq_true rfl) kr ?_)
  intro W338 HS339
  refine nl ?_
  refine hn277 _ _ ?_
  refine hK272 _ _ ?_
  refine rl ?_
  refine seqL1 kr ?_
  refine seqK rfl (does_run (run_loadN (n := 3) rfl Try.underlying76 rfl kr (kv (pV b265 0)) (cs := (lm_Cmd vt256 vt330 0)) rfl (HS339.cells 0 3 _ rfl)) ?_)
  refine seqK rfl (does_lit (e := ty_Cmd) (E := 76) (vs := #[(0, Value.agg (cm_Cmd vt256 vt330 0))]) (cs := (cm_Cmd vt256 vt330 0)) (xs := ([(⟨vt256, vt330, 0⟩ : S_Cmd)] : List S_Cmd)) rfl Try.underlying33 kr kr ⟨(lm_Cmd vt256 vt330 0), _, rfl, rfl, rfl⟩ rfl HS339 ?_ (by decide))
  intro b370 W371 s372 HS373 _ HO374
  replace h := guard_some h; obtain ⟨c376, h⟩ := h
  have c376 : (l232.length + 1) * 24 ≤ 140737488355328 := c376
  have HS378 := HS373.u3.u1
  refine seqK rfl (does_append1 (e := ty_Cmd) (E := 76) (xs := l232) (ys := ([(⟨vt256, vt330, 0⟩ : S_Cmd)] : List S_Cmd)) rfl (kv (.slice A233 l232.length c234)) (kv (.slice (some ⟨b370, 0, none⟩) ([(⟨vt256, vt330, 0⟩ : S_Cmd)] : List S_Cmd).length 1)) Try.underlying33 inf76 (HO236.mono (L260.trans (L289.trans L334))) HO374 HS378 c376 (lim63 c376 (by decide)) ?_)
  intro A379 c380 s381 W382 HS383 HO384
  refine seqL1 kr ?_
  refine nl ?_
  refine hn249 _ _ ?_
  refine hK246 _ _ ?_
  refine rl ?_
  refine seqL2 kr ?_
  refine nl ?_
  refine hK225 n226 _ _ (Nat.lt_succ_self _) ?_
  have HS427 := HS383.u3.u1.u3.u3
  have HS428 := HS427.drop
  exact ⟨f333, A379, c380, s381, (l232 ++ ([(⟨vt256, vt330, 0⟩ : S_Cmd)] : List S_Cmd)), (w64 (x237 + 1)), vt331, (jL [iV vt256, pV b265 0, tV, pV b1 0, iV vt256, iV vt256, .agg (cm_Cmd vt256 0 0), iV vt256, fV, .bool (vt256 == 0), (j292 0), (j231 11), (j231 12), (j231 13), (j231 14), (j231 15), fV, fV, (j231 18), (j231 19), (j231 20), (j231 21), (j231 22), tV, tV, pV b1 0, iV vt330, pV b265 1, .slice A233 l232.length c234, .agg (cm_Cmd vt256 vt330 0), .slice (some ⟨b370, 0, none⟩) ([(⟨vt256, vt330, 0⟩ : S_Cmd)] : List S_Cmd).length 1, .slice A379 (l232 ++ ([(⟨vt256, vt330, 0⟩ : S_Cmd)] : List S_Cmd)).length c380, iV (w64 (x237 + 1))]), (L228.trans (L260.trans (L289.trans L334))), HS428, HO384, h, kr⟩
 clear h; have h := hv294; clear hv294
 replace h := ite_some h; rcases h with ⟨c287, h⟩ | ⟨c287, h⟩
 · have c287 : vt256 = 0 := c287
   refine wpRwI 28 kr (beq_iff_eq.mpr c287) ?_
   refine wpRwI 29 kr (beq_iff_eq.mpr c287) ?_
   refine condT kr ?_
   refine wp_skip ?_
   refine fnRwI (F := K282) 28 (x := true) (v := (vt256 == 0)) kr (Eq.symm (beq_iff_eq.mpr c287)) ?_
   refine fnRwI (F := K282) 29 (x := true) (v := (vt256 == 0)) kr (Eq.symm (beq_iff_eq.mpr c287)) ?_
   exact J295 f259 (vt256 == 0) (jL [(j231 10)]) W269 _ fL h HS270 kr
 have c287 : ¬ (vt256 = 0) := c287
 refine wpRwI 28 kr (beq_eq_false_iff_ne.mpr c287) ?_
 refine wpRwI 29 kr (beq_eq_false_iff_ne.mpr c287) ?_
 refine condF kr ?_
 refine rl ?_
 refine seqL2 kr ?_
 refine nl ?_
 refine fnRwI (F := K282) 29 (x := false) (v := (vt256 == 0)) kr (Eq.symm (beq_eq_false_iff_ne.mpr c287)) ?_
 exact J295 f259 (vt256 == 8) (jL [.bool (vt256 == 8)]) W269 _ fL h HS270 kr

set_option maxRecDepth 100000 in
set_option maxHeartbeats 4000000 in
theorem spytop_h1fates.calls (k : Nat) (b1 : Nat) (A4 : Option Addr) (c5 : Nat) (s3 : S_Stream) {t w : World} {f : FM} {H : List Seg} (HS : St t w f ([(b1, .cells #[.slice A4 s3.L.length c5, .int .i64 s3.vat] 25 (0, 0))] :: H)) (HR6 : SlR (tInt .i64) f A4 c5 s3.L) (rr1 : List S_Fate) (rr2 : Int) (h : spytop_h1fates k s3 = some (rr1, rr2)) :
    Calls Try.prog 6 #[pV b1 0] w (fun e w' => ∃ (g : FM) (A436 : Option Addr) (c437 : Nat) (s438 : Seg), e = .returned (Value.slice A436 rr1.length c437) ∧ FM.le f g ∧ St t w' g (s438 :: [(b1, .cells #[.slice A4 s3.L.length c5, .int .i64 rr2] 25 (0, 0))] :: H) ∧ Own ty_Fate 78 g A436 c437 s438 rr1) := by
 unfold spytop_h1fates at h
 refine enter Try.func6 rfl (tm := ⟨[pV b1 0] ++ (un 39 [])⟩) kr ?_
 intro B hret hnor hnp
 refine wp_seq_k fun K7 hK8 => rl ?_
 refine seqL1 kr ?_
 refine nl (hK8 _ _ ?_)
 refine wp_seq_k fun K9 hK10 => rl ?_
 refine seqL1 kr ?_
 refine nl (hK10 _ _ ?_)
 refine wp_seq_k (fun K11 hK12 => ?_)
 refine wp_seq_k fun K13 hK14 => rl ?_
 replace h := bind_some h; obtain ⟨⟨vt15, vt16⟩, hc17, h⟩ := h
 refine seqL1 kr ?_
 refine seqK rfl (does_call kr (spymake_Stream_Next.calls k b1 A4 c5 s3 30 HS HR6 vt15 vt16 hc17) ?_)
 rintro _ W20 ⟨f18, rfl, L19, HS21⟩
 refine ⟨_, rfl, ?_⟩
 refine seqL1 kr ?_
 refine nl (hK14 _ _ ?_)
 refine blockK (fun B22 hx23 hn24 hr25 ho26 hp27 => ?_)
 replace h := bind_some h; obtain ⟨o214, hv413, h⟩ := h
 have J414 : ∀ (f401 : FM) (A407 : Option Addr) (c408 : Nat) (s409 : Seg) (out406 : List S_Fate) (x412 : Int) (j405 : Nat → Value) (W403 : World) (a_ : Act), FM.le f18 f401 → some ((out406, x412)) = some o214 → St t W403 f401 (s409 :: [(b1, .cells #[.slice A4 s3.L.length c5, .int .i64 x412] 25 (0, 0))] :: H) → Own ty_Fate 78 f401 A407 c408 s409 out406 → a_ = ⟨⟨[pV b1 0, uV, .slice none 0 0, .slice A407 out406.length c408, (j405 0), pV b1 0, iV vt15] ++ (jr j405 1 32 [uV])⟩, []⟩ → K11 a_ W403 := by
  intro f401 A407 c408 s409 out406 x412 j405 W403 a_ L402 hj415 HS404 HO410 hfr_; subst hfr_
  injection hj415 with hj415; subst hj415; try dsimp only at h
  refine hK12 _ _ ?_
  refine wp_seq_k fun K434 hK435 => rl ?_
  refine seqL2 kr ?_
  refine nl (hK435 _ _ ?_)
  refine wp_ret ?_
  refine hret _ _ ?_
  refine ends_still (v := Value.slice A407 out406.length c408) kr kr ?_
  injection h with h
  injection h with h0_ h
  subst h0_ h
  exact ⟨f401, A407, c408, s409, rfl, (L19.trans L402), HS404, HO410⟩
 clear h; have h := hv413; clear hv413
 have HS416 := HS21.cons_nil
 refine loopK (fun n_ a_ w_ => ∃ (f218 : FM) (A224 : Option Addr) (c225 : Nat) (s226 : Seg) (out223 : List S_Fate) (x229 : Int) (x230 : Int) (j222 : Nat → Value), FM.le f18 f218 ∧ St t w_ f218 (s226 :: [(b1, .cells #[.slice A4 s3.L.length c5, .int .i64 x230] 25 (0, 0))] :: H) ∧ Own ty_Fate 78 f218 A224 c225 s226 out223 ∧ spytop_h1fates.l0 k vt15 s3 n_ out223 x229 x230 = some o214 ∧ a_ = ⟨⟨[pV b1 0, uV, .slice none 0 0, .slice A224 out223.length c225, (j222 0), pV b1 0, iV vt15, iV x229] ++ (jr j222 1 31 [uV])⟩, []⟩) k ⟨f18, none, 0, [], ([] : List S_Fate), 0, vt16, (jL []), fL, HS416, (Own.nil _), h, kr⟩ ?_
 clear h
 rintro n217 _ W220 ⟨f218, A224, c225, s226, out223, x229, x230, j222, L219, HS221, HO227, h, rfl⟩ K215 hK216
 obtain _ | n217 := n217
 · exact nomatch h
 simp only [spytop_h1fates.l0] at h
 refine wp_seq_k fun K231 hK232 => rl ?_
 refine seqL1 kr ?_
 refine nl (hK232 _ _ ?_)
 refine wp_seq_k (fun K233 hK234 => ?_)
 replace h := ite_some h; rcases h with ⟨c236, h⟩ | ⟨c236, h⟩
 rotate_left
 · have c236 : ¬ (x229 < vt15) := c236
   refine wpRwI 8 kr (decide_eq_false c236) ?_
   refine condF kr ?_
   refine wp_exit ?_
   refine hx23 _ _ ?_
   exact J414 f218 A224 c225 s226 out223 x230 (jL [(j222 0), iV x229, fV, (j222 2), (j222 3), (j222 4), (j222 5), (j222 6), (j222 7), (j222 8), (j222 9), (j222 10), (j222 11), (j222 12), (j222 13), (j222 14), (j222 15), (j222 16), (j222 17), (j222 18), (j222 19), (j222 20), (j222 21), (j222 22), (j222 23), (j222 24), (j222 25), (j222 26), (j222 27), (j222 28), (j222 29), (j222 30), (j222 31)]) W220 _ L219 h HS221 HO227 kr
 have c236 : x229 < vt15 := c236
 refine wpRwI 8 kr (decide_eq_true c236) ?_
 refine condT kr ?_
 refine wp_skip ?_
 refine hK234 _ _ ?_
 refine wp_seq_k (fun K237 hK238 => ?_)
 refine blockK (fun B239 hx240 hn241 hr242 ho243 hp244 => ?_)
 refine wp_seq_k fun K246 hK247 => rl ?_
 have HS248 := HS221.u1
 replace h := bind_some h; obtain ⟨⟨vt249, vt250⟩, hc251, h⟩ := h
 refine seqL1 kr ?_
 refine seqK rfl (does_call kr (spymake_Stream_Range.calls k b1 A4 c5 (⟨s3.L, x230⟩ : S_Stream) 1 8 HS248 (HR6.mono (L19.trans L219)) vt249 vt250 hc251) ?_)
 rintro _ W254 ⟨f252, rfl, L253, HS255⟩
 refine ⟨_, rfl, ?_⟩
 refine seqL1 kr ?_
 refine seqK rfl (does_alloc (z := Value.agg #[.bool false, .int .i64 0, .int .i64 0, .slice none 0 0]) (cs := #[.bool false, .int .i64 0, .int .i64 0, .slice none 0 0]) rfl kr rfl HS255 ?_)
 intro b256 W257 HS258
 refine seqK rfl (does_storeA (vs := [.bool false, .int .i64 vt249, .int .i64 0, .slice none 0 0]) rfl kr kr kr rfl (ones rfl) HS258 kr ?_)
 intro W260 HS261
 refine nl (hK247 _ _ ?_)
 refine wp_seq_k (fun K262 hK263 => ?_)
 refine wp_seq_k fun K264 hK265 => rl ?_
 have HS266 := HS261.u1
 replace h := bind_some h; obtain ⟨⟨vt267, vt268⟩, hc269, h⟩ := h
 refine seqL1 kr ?_
 refine seqK rfl (does_call kr (spymake_Stream_Next.calls k b1 A4 c5 (⟨s3.L, vt250⟩ : S_Stream) 4 HS266 (HR6.mono (L19.trans (L219.trans L253))) vt267 vt268 hc269) ?_)
 rintro _ W272 ⟨f270, rfl, L271, HS273⟩
 refine ⟨_, rfl, ?_⟩
 refine nl (hK265 _ _ ?_)
 refine blockK (fun B274 hx275 hn276 hr277 ho278 hp279 => ?_)
 refine wp_seq_k fun K281 hK282 => rl ?_
 refine seqL2 kr ?_
 refine nl (hK282 _ _ ?_)
 replace h := ite_some h; rcases h with ⟨c284, h⟩ | ⟨c284, h⟩
 · have c284 : vt267 = 0 := c284
   refine wpRwI 14 kr (beq_iff_eq.mpr c284) ?_
   refine wpRwI 15 kr (beq_iff_eq.mpr c284) ?_
   refine condT kr ?_
   refine rl ?_
   have HS285 := HS273.u1
   refine seqL1 kr ?_
   refine seqK rfl (does_storeA (vs := [.bool true, .int .i64 0, .int .i64 0, .slice none 0 0]) rfl kr kr kr rfl (ones rfl) HS285 kr ?_)
   intro W286 HS287
   refine nl ?_
   refine hn276 _ _ ?_
   refine hK263 _ _ ?_
   refine rl ?_
   refine seqL1 kr ?_
   refine seqK rfl (does_run (run_loadN (n := 4) rfl Try.underlying78 rfl kr (kv (pV b256 0)) (cs := [.bool true, .int .i64 0, .int .i64 0, .slice none 0 0]) rfl (HS287.cells 0 4 _ rfl)) ?_)
   refine seqK rfl (does_lit (e := ty_Fate) (E := 78) (vs := #[(0, Value.agg #[.bool true, .int .i64 0, .int .i64 0, .slice none 0 0])]) (cs := #[.bool true, .int .i64 0, .int .i64 0, .slice none 0 0]) (xs := ([(⟨true, 0, 0, ([] : List Int)⟩ : S_Fate)] : List S_Fate)) rfl Try.underlying35 kr kr ⟨[.bool true, .int .i64 0, .int .i64 0, .slice none 0 0], _, rfl, ⟨none, 0, rfl, (SlR.nil _ _)⟩, rfl⟩ rfl HS287 ?_ (by decide))
   intro b336 W337 s338 HS339 _ HO340
   replace h := guard_some h; obtain ⟨c342, h⟩ := h
   have c342 : (out223.length + 1) * 48 ≤ 140737488355328 := c342
   have HS344 := HS339.u3.u1
   refine seqK rfl (does_append1 (e := ty_Fate) (E := 78) (xs := out223) (ys := ([(⟨true, 0, 0, ([] : List Int)⟩ : S_Fate)] : List S_Fate)) rfl (kv (.slice A224 out223.length c225)) (kv (.slice (some ⟨b336, 0, none⟩) ([(⟨true, 0, 0, ([] : List Int)⟩ : S_Fate)] : List S_Fate).length 1)) Try.underlying35 inf78 (HO227.mono (L253.trans L271)) HO340 HS344 c342 (lim63 c342 (by decide)) ?_)
   intro A345 c346 s347 W348 HS349 HO350
   refine seqL1 kr ?_
   refine nl ?_
   refine hn241 _ _ ?_
   refine hK238 _ _ ?_
   refine rl ?_
   refine seqL2 kr ?_
   refine nl ?_
   refine hK216 n217 _ _ (Nat.lt_succ_self _) ?_
   have HS420 := HS349.u2.u1.u2
   have HS421 := HS420.drop
   exact ⟨f270, A345, c346, s347, (out223 ++ ([(⟨true, 0, 0, ([] : List Int)⟩ : S_Fate)] : List S_Fate)), (w64 (x229 + 1)), vt268, (jL [pV b256 0, tV, pV b1 0, iV vt249, .agg #[.bool false, .int .i64 vt249, .int .i64 0, .slice none 0 0], pV b1 0, iV vt267, tV, tV, .agg #[.bool true, .int .i64 0, .int .i64 0, .slice none 0 0], (j222 10), (j222 11), (j222 12), (j222 13), (j222 14), (j222 15), (j222 16), (j222 17), (j222 18), (j222 19), (j222 20), (j222 21), (j222 22), (j222 23), (j222 24), (j222 25), (j222 26), .slice A224 out223.length c225, .agg #[.bool true, .int .i64 0, .int .i64 0, .slice none 0 0], .slice (some ⟨b336, 0, none⟩) ([(⟨true, 0, 0, ([] : List Int)⟩ : S_Fate)] : List S_Fate).length 1, .slice A345 (out223 ++ ([(⟨true, 0, 0, ([] : List Int)⟩ : S_Fate)] : List S_Fate)).length c346, iV (w64 (x229 + 1))]), (L219.trans (L253.trans L271)), HS421, HO350, h, kr⟩
 have c284 : ¬ (vt267 = 0) := c284
 refine wpRwI 14 kr (beq_eq_false_iff_ne.mpr c284) ?_
 refine wpRwI 15 kr (beq_eq_false_iff_ne.mpr c284) ?_
 refine condF kr ?_
 refine wp_seq_k fun K288 hK289 => rl ?_
 refine seqL2 kr ?_
 refine nl (hK289 _ _ ?_)
 replace h := ite_some h; rcases h with ⟨c291, h⟩ | ⟨c291, h⟩
 · have c291 : vt267 = 1 := c291
   refine wpRwI 17 kr (beq_iff_eq.mpr c291) ?_
   refine wpRwI 18 kr (beq_iff_eq.mpr c291) ?_
   refine condT kr ?_
   refine rl ?_
   replace h := bind_some h; obtain ⟨⟨vt292, vt293⟩, hc294, h⟩ := h
   refine seqL1 kr ?_
   refine seqK rfl (does_call kr (spymake_Stream_Range.calls k b1 A4 c5 (⟨s3.L, vt268⟩ : S_Stream) 1 8 HS273 (HR6.mono (L19.trans (L219.trans (L253.trans L271)))) vt292 vt293 hc294) ?_)
   rintro _ W297 ⟨f295, rfl, L296, HS298⟩
   refine ⟨_, rfl, ?_⟩
   have HS299 := HS298.u1
   refine seqL1 kr ?_
   refine seqK rfl (does_store (n := 1) (vs := [.int .i64 vt292]) (cs' := #[.bool false, .int .i64 vt249, .int .i64 vt292, .slice none 0 0]) rfl kr (kv (pV b256 2)) (kv (.int .i64 vt292)) rfl rfl (ones rfl) HS299 (Nat.le_of_ble_eq_true rfl) kr ?_)
   intro W300 HS301
   refine nl ?_
   refine hn276 _ _ ?_
   refine hK263 _ _ ?_
   refine rl ?_
   refine seqL1 kr ?_
   refine seqK rfl (does_run (run_loadN (n := 4) rfl Try.underlying78 rfl kr (kv (pV b256 0)) (cs := [.bool false, .int .i64 vt249, .int .i64 vt292, .slice none 0 0]) rfl (HS301.cells 0 4 _ rfl)) ?_)
   refine seqK rfl (does_lit (e := ty_Fate) (E := 78) (vs := #[(0, Value.agg #[.bool false, .int .i64 vt249, .int .i64 vt292, .slice none 0 0])]) (cs := #[.bool false, .int .i64 vt249, .int .i64 vt292, .slice none 0 0]) (xs := ([(⟨false, vt249, vt292, ([] : List Int)⟩ : S_Fate)] : List S_Fate)) rfl Try.underlying35 kr kr ⟨[.bool false, .int .i64 vt249, .int .i64 vt292, .slice none 0 0], _, rfl, ⟨none, 0, rfl, (SlR.nil _ _)⟩, rfl⟩ rfl HS301 ?_ (by decide))
   intro b351 W352 s353 HS354 _ HO355
   replace h := guard_some h; obtain ⟨c357, h⟩ := h
   have c357 : (out223.length + 1) * 48 ≤ 140737488355328 := c357
   have HS359 := HS354.u3.u1
   refine seqK rfl (does_append1 (e := ty_Fate) (E := 78) (xs := out223) (ys := ([(⟨false, vt249, vt292, ([] : List Int)⟩ : S_Fate)] : List S_Fate)) rfl (kv (.slice A224 out223.length c225)) (kv (.slice (some ⟨b351, 0, none⟩) ([(⟨false, vt249, vt292, ([] : List Int)⟩ : S_Fate)] : List S_Fate).length 1)) Try.underlying35 inf78 (HO227.mono (L253.trans (L271.trans L296))) HO355 HS359 c357 (lim63 c357 (by decide)) ?_)
   intro A360 c361 s362 W363 HS364 HO365
   refine seqL1 kr ?_
   refine nl ?_
   refine hn241 _ _ ?_
   refine hK238 _ _ ?_
   refine rl ?_
   refine seqL2 kr ?_
   refine nl ?_
   refine hK216 n217 _ _ (Nat.lt_succ_self _) ?_
   have HS424 := HS364.u2.u1.u2
   have HS425 := HS424.drop
   exact ⟨f295, A360, c361, s362, (out223 ++ ([(⟨false, vt249, vt292, ([] : List Int)⟩ : S_Fate)] : List S_Fate)), (w64 (x229 + 1)), vt293, (jL [pV b256 0, tV, pV b1 0, iV vt249, .agg #[.bool false, .int .i64 vt249, .int .i64 0, .slice none 0 0], pV b1 0, iV vt267, fV, fV, (j222 9), tV, tV, pV b1 0, iV vt292, pV b256 2, (j222 15), (j222 16), (j222 17), (j222 18), (j222 19), (j222 20), (j222 21), (j222 22), (j222 23), (j222 24), (j222 25), (j222 26), .slice A224 out223.length c225, .agg #[.bool false, .int .i64 vt249, .int .i64 vt292, .slice none 0 0], .slice (some ⟨b351, 0, none⟩) ([(⟨false, vt249, vt292, ([] : List Int)⟩ : S_Fate)] : List S_Fate).length 1, .slice A360 (out223 ++ ([(⟨false, vt249, vt292, ([] : List Int)⟩ : S_Fate)] : List S_Fate)).length c361, iV (w64 (x229 + 1))]), (L219.trans (L253.trans (L271.trans L296))), HS425, HO365, h, kr⟩
 have c291 : ¬ (vt267 = 1) := c291
 refine wpRwI 17 kr (beq_eq_false_iff_ne.mpr c291) ?_
 refine wpRwI 18 kr (beq_eq_false_iff_ne.mpr c291) ?_
 refine condF kr ?_
 refine wp_seq_k fun K302 hK303 => rl ?_
 refine seqL2 kr ?_
 refine nl (hK303 _ _ ?_)
 replace h := ite_some h; rcases h with ⟨c305, h⟩ | ⟨c305, h⟩
 rotate_left
 · have c305 : ¬ (vt267 = 2) := c305
   refine wpRwI 22 kr (beq_eq_false_iff_ne.mpr c305) ?_
   refine wpRwI 23 kr (beq_eq_false_iff_ne.mpr c305) ?_
   refine condF kr ?_
   refine wp_skip ?_
   refine hn276 _ _ ?_
   refine hK263 _ _ ?_
   refine rl ?_
   refine seqL1 kr ?_
   refine seqK rfl (does_run (run_loadN (n := 4) rfl Try.underlying78 rfl kr (kv (pV b256 0)) (cs := [.bool false, .int .i64 vt249, .int .i64 0, .slice none 0 0]) rfl (HS273.u1.cells 0 4 _ rfl)) ?_)
   refine seqK rfl (does_lit (e := ty_Fate) (E := 78) (vs := #[(0, Value.agg #[.bool false, .int .i64 vt249, .int .i64 0, .slice none 0 0])]) (cs := #[.bool false, .int .i64 vt249, .int .i64 0, .slice none 0 0]) (xs := ([(⟨false, vt249, 0, ([] : List Int)⟩ : S_Fate)] : List S_Fate)) rfl Try.underlying35 kr kr ⟨[.bool false, .int .i64 vt249, .int .i64 0, .slice none 0 0], _, rfl, ⟨none, 0, rfl, (SlR.nil _ _)⟩, rfl⟩ rfl HS273 ?_ (by decide))
   intro b386 W387 s388 HS389 _ HO390
   replace h := guard_some h; obtain ⟨c392, h⟩ := h
   have c392 : (out223.length + 1) * 48 ≤ 140737488355328 := c392
   have HS394 := HS389.u3.u1
   refine seqK rfl (does_append1 (e := ty_Fate) (E := 78) (xs := out223) (ys := ([(⟨false, vt249, 0, ([] : List Int)⟩ : S_Fate)] : List S_Fate)) rfl (kv (.slice A224 out223.length c225)) (kv (.slice (some ⟨b386, 0, none⟩) ([(⟨false, vt249, 0, ([] : List Int)⟩ : S_Fate)] : List S_Fate).length 1)) Try.underlying35 inf78 (HO227.mono (L253.trans L271)) HO390 HS394 c392 (lim63 c392 (by decide)) ?_)
   intro A395 c396 s397 W398 HS399 HO400
   refine seqL1 kr ?_
   refine nl ?_
   refine hn241 _ _ ?_
   refine hK238 _ _ ?_
   refine rl ?_
   refine seqL2 kr ?_
   refine nl ?_
   refine hK216 n217 _ _ (Nat.lt_succ_self _) ?_
   have HS432 := HS399.u1.u1.u2
   have HS433 := HS432.drop
   exact ⟨f270, A395, c396, s397, (out223 ++ ([(⟨false, vt249, 0, ([] : List Int)⟩ : S_Fate)] : List S_Fate)), (w64 (x229 + 1)), vt268, (jL [pV b256 0, tV, pV b1 0, iV vt249, .agg #[.bool false, .int .i64 vt249, .int .i64 0, .slice none 0 0], pV b1 0, iV vt267, fV, fV, (j222 9), fV, fV, (j222 12), (j222 13), (j222 14), fV, fV, (j222 17), (j222 18), (j222 19), (j222 20), (j222 21), (j222 22), (j222 23), (j222 24), (j222 25), (j222 26), .slice A224 out223.length c225, .agg #[.bool false, .int .i64 vt249, .int .i64 0, .slice none 0 0], .slice (some ⟨b386, 0, none⟩) ([(⟨false, vt249, 0, ([] : List Int)⟩ : S_Fate)] : List S_Fate).length 1, .slice A395 (out223 ++ ([(⟨false, vt249, 0, ([] : List Int)⟩ : S_Fate)] : List S_Fate)).length c396, iV (w64 (x229 + 1))]), (L219.trans (L253.trans L271)), HS433, HO400, h, kr⟩
 have c305 : vt267 = 2 := c305
 refine wpRwI 22 kr (beq_iff_eq.mpr c305) ?_
 refine wpRwI 23 kr (beq_iff_eq.mpr c305) ?_
 refine condT kr ?_
 refine rl ?_
 replace h := bind_some h; obtain ⟨⟨vt306, vt307⟩, hc308, h⟩ := h
 refine seqL1 kr ?_
 refine seqK rfl (does_call kr (spymake_Stream_Next.calls k b1 A4 c5 (⟨s3.L, vt268⟩ : S_Stream) 40 HS273 (HR6.mono (L19.trans (L219.trans (L253.trans L271)))) vt306 vt307 hc308) ?_)
 rintro _ W311 ⟨f309, rfl, L310, HS312⟩
 refine ⟨_, rfl, ?_⟩
 replace h := bind_some h; obtain ⟨⟨vt313, vt314⟩, hc315, h⟩ := h
 refine seqL1 kr ?_
 refine seqK rfl (does_call kr (spymake_Stream_Next.calls k b1 A4 c5 (⟨s3.L, vt307⟩ : S_Stream) 80 HS312 (HR6.mono (L19.trans (L219.trans (L253.trans (L271.trans L310))))) vt313 vt314 hc315) ?_)
 rintro _ W318 ⟨f316, rfl, L317, HS319⟩
 refine ⟨_, rfl, ?_⟩
 replace h := bind_some h; obtain ⟨⟨vt320, vt321⟩, hc322, h⟩ := h
 refine seqL2 kr ?_
 refine seqK rfl (does_call kr (spymake_Stream_Next.calls k b1 A4 c5 (⟨s3.L, vt314⟩ : S_Stream) 9 HS319 (HR6.mono (L19.trans (L219.trans (L253.trans (L271.trans (L310.trans L317)))))) vt320 vt321 hc322) ?_)
 rintro _ W325 ⟨f323, rfl, L324, HS326⟩
 refine ⟨_, rfl, ?_⟩
 refine seqL1 kr ?_
 refine seqK rfl (does_lit (e := (tInt .i64)) (E := 3) (vs := #[(0, Value.int .i64 vt306), (1, Value.int .i64 (w64 (40 + vt313))), (2, Value.int .i64 (w64 (120 + vt320)))]) (cs := (cm_Cmd vt306 (w64 (40 + vt313)) (w64 (120 + vt320)))) (xs := ([vt306, w64 (40 + vt313), w64 (120 + vt320)] : List Int)) rfl Try.underlying22 kr kr ⟨[.int .i64 vt306], _, rfl, rfl, ⟨[.int .i64 (w64 (40 + vt313))], _, rfl, rfl, ⟨[.int .i64 (w64 (120 + vt320))], _, rfl, rfl, rfl⟩⟩⟩ rfl HS326 ?_ (by decide))
 intro b327 W328 s329 HS330 _ HO331
 have HS333 := HS330.u2
 refine seqL1 kr ?_
 refine seqK rfl (does_store (n := 1) (vs := [.slice (some ⟨b327, 0, none⟩) ([vt306, w64 (40 + vt313), w64 (120 + vt320)] : List Int).length 3]) (cs' := #[.bool false, .int .i64 vt249, .int .i64 0, .slice (some ⟨b327, 0, none⟩) ([vt306, w64 (40 + vt313), w64 (120 + vt320)] : List Int).length 3]) rfl kr (kv (pV b256 3)) (kv (.slice (some ⟨b327, 0, none⟩) ([vt306, w64 (40 + vt313), w64 (120 + vt320)] : List Int).length 3)) rfl rfl (ones rfl) HS333 (Nat.le_of_ble_eq_true rfl) kr ?_)
 intro W334 HS335
 refine nl ?_
 refine hn276 _ _ ?_
 refine hK263 _ _ ?_
 refine rl ?_
 refine seqL1 kr ?_
 refine seqK rfl (does_run (run_loadN (n := 4) rfl Try.underlying78 rfl kr (kv (pV b256 0)) (cs := [.bool false, .int .i64 vt249, .int .i64 0, .slice (some ⟨b327, 0, none⟩) ([vt306, w64 (40 + vt313), w64 (120 + vt320)] : List Int).length 3]) rfl (HS335.cells 0 4 _ rfl)) ?_)
 have HS366 := HS335.u1
 obtain ⟨f367, L368, HS369, HR370⟩ := HO331.freeze HS366
 refine seqK rfl (does_lit (e := ty_Fate) (E := 78) (vs := #[(0, Value.agg #[.bool false, .int .i64 vt249, .int .i64 0, .slice (some ⟨b327, 0, none⟩) ([vt306, w64 (40 + vt313), w64 (120 + vt320)] : List Int).length 3])]) (cs := #[.bool false, .int .i64 vt249, .int .i64 0, .slice (some ⟨b327, 0, none⟩) ([vt306, w64 (40 + vt313), w64 (120 + vt320)] : List Int).length 3]) (xs := ([(⟨false, vt249, 0, ([vt306, w64 (40 + vt313), w64 (120 + vt320)] : List Int)⟩ : S_Fate)] : List S_Fate)) rfl Try.underlying35 kr kr ⟨[.bool false, .int .i64 vt249, .int .i64 0, .slice (some ⟨b327, 0, none⟩) ([vt306, w64 (40 + vt313), w64 (120 + vt320)] : List Int).length 3], _, rfl, ⟨(some ⟨b327, 0, none⟩), 3, rfl, HR370⟩, rfl⟩ rfl HS369 ?_ (by decide))
 intro b371 W372 s373 HS374 _ HO375
 replace h := guard_some h; obtain ⟨c377, h⟩ := h
 have c377 : (out223.length + 1) * 48 ≤ 140737488355328 := c377
 have HS379 := HS374.u3.u1
 refine seqK rfl (does_append1 (e := ty_Fate) (E := 78) (xs := out223) (ys := ([(⟨false, vt249, 0, ([vt306, w64 (40 + vt313), w64 (120 + vt320)] : List Int)⟩ : S_Fate)] : List S_Fate)) rfl (kv (.slice A224 out223.length c225)) (kv (.slice (some ⟨b371, 0, none⟩) ([(⟨false, vt249, 0, ([vt306, w64 (40 + vt313), w64 (120 + vt320)] : List Int)⟩ : S_Fate)] : List S_Fate).length 1)) Try.underlying35 inf78 (HO227.mono (L253.trans (L271.trans (L310.trans (L317.trans (L324.trans L368)))))) HO375 HS379 c377 (lim63 c377 (by decide)) ?_)
 intro A380 c381 s382 W383 HS384 HO385
 refine seqL1 kr ?_
 refine nl ?_
 refine hn241 _ _ ?_
 refine hK238 _ _ ?_
 refine rl ?_
 refine seqL2 kr ?_
 refine nl ?_
 refine hK216 n217 _ _ (Nat.lt_succ_self _) ?_
 have HS428 := HS384.u2.u1.u2
 have HS429 := HS428.drop
 exact ⟨f367, A380, c381, s382, (out223 ++ ([(⟨false, vt249, 0, ([vt306, w64 (40 + vt313), w64 (120 + vt320)] : List Int)⟩ : S_Fate)] : List S_Fate)), (w64 (x229 + 1)), vt321, (jL [pV b256 0, tV, pV b1 0, iV vt249, .agg #[.bool false, .int .i64 vt249, .int .i64 0, .slice none 0 0], pV b1 0, iV vt267, fV, fV, (j222 9), fV, fV, (j222 12), (j222 13), (j222 14), tV, tV, pV b1 0, iV vt306, pV b1 0, iV vt313, iV (w64 (40 + vt313)), pV b1 0, iV vt320, iV (w64 (120 + vt320)), .slice (some ⟨b327, 0, none⟩) ([vt306, w64 (40 + vt313), w64 (120 + vt320)] : List Int).length 3, pV b256 3, .slice A224 out223.length c225, .agg #[.bool false, .int .i64 vt249, .int .i64 0, .slice (some ⟨b327, 0, none⟩) ([vt306, w64 (40 + vt313), w64 (120 + vt320)] : List Int).length 3], .slice (some ⟨b371, 0, none⟩) ([(⟨false, vt249, 0, ([vt306, w64 (40 + vt313), w64 (120 + vt320)] : List Int)⟩ : S_Fate)] : List S_Fate).length 1, .slice A380 (out223 ++ ([(⟨false, vt249, 0, ([vt306, w64 (40 + vt313), w64 (120 + vt320)] : List Int)⟩ : S_Fate)] : List S_Fate)).length c381, iV (w64 (x229 + 1))]), (L219.trans (L253.trans (L271.trans (L310.trans (L317.trans (L324.trans L368)))))), HS429, HO385, h, kr⟩

set_option maxRecDepth 100000 in
set_option maxHeartbeats 4000000 in
theorem link_CheckFate.calls (k : Nat) (A2 : Option Addr) (c3 : Nat) (vf1 : S_Fate) {t w : World} {f : FM} {H : List Seg} (HS : St t w f (H)) (HR4 : SlR (tInt .i64) f A2 c3 vf1.Bits) (rr1 : Int) (h : link_CheckFate k vf1 = some rr1) :
    Calls Try.prog 40 #[.agg #[.bool vf1.Lost, .int .i64 vf1.Delay, .int .i64 vf1.Twice, .slice A2 vf1.Bits.length c3]] w (fun e w' => ∃ (g : FM), e = .returned (Value.int .i64 rr1) ∧ FM.le f g ∧ St t w' g (H)) := by
 unfold link_CheckFate at h
 refine enter Try.func40 rfl (tm := ⟨[(ag_Fate vf1 A2 c3)] ++ (un 68 [])⟩) kr ?_
 intro B hret hnor hnp
 refine wp_seq_k fun K5 hK6 => rl ?_
 refine seqK rfl (does_box (cs := #[.bool vf1.Lost, .int .i64 vf1.Delay, .int .i64 vf1.Twice, .slice A2 vf1.Bits.length c3]) rfl (kv (.agg #[.bool vf1.Lost, .int .i64 vf1.Delay, .int .i64 vf1.Twice, .slice A2 vf1.Bits.length c3])) rfl HS ?_)
 intro b7 W8 HS9
 refine seqL1 kr ?_
 refine nl (hK6 _ _ ?_)
 refine wp_seq_k (fun K11 hK12 => ?_)
 refine wp_seq_k fun K13 hK14 => rl ?_
 refine seqL1 kr ?_
 refine seqK rfl (does_run (run_load rfl Try.underlying4 rfl (kv (pV b7 0)) (HS9.cell 0)) ?_)
 refine nl (hK14 _ _ ?_)
 replace h := ite_some h; rcases h with ⟨c16, h⟩ | ⟨c16, h⟩
 · have c16 : vf1.Lost = true := c16
   refine wpRwI 8 kr c16 ?_
   refine condT kr ?_
   refine wp_seq_k (fun K17 hK18 => ?_)
   refine wp_seq_k (fun K19 hK20 => ?_)
   replace h := bind_some h; obtain ⟨v21, hv30, h⟩ := h
   have J31 : ∀ (f24 : FM) (x29 : Bool) (j28 : Nat → Value) (W26 : World) (a_ : Act), FM.le f f24 → some (x29) = some v21 → St t W26 f24 ([(b7, .cells #[.bool vf1.Lost, .int .i64 vf1.Delay, .int .i64 vf1.Twice, .slice A2 vf1.Bits.length c3] 78 (0, 0))] :: H) → a_ = ⟨⟨[(ag_Fate vf1 A2 c3), pV b7 0, iV 0] ++ (un 4 ([pV b7 0, tV] ++ (jr j28 0 13 ([.bool x29] ++ (un 46 [])))))⟩, []⟩ → K19 a_ W26 := by
    intro f24 x29 j28 W26 a_ L25 hj32 HS27  hfr_; subst hfr_
    injection hj32 with hj32; subst hj32; try dsimp only at h
    refine hK20 _ _ ?_
    replace h := ite_some h; rcases h with ⟨c34, h⟩ | ⟨c34, h⟩
    · have c34 : x29 = true := c34
      refine wpRwI 22 kr c34 ?_
      refine condT kr ?_
      refine wp_seq_k (fun K35 hK36 => ?_)
      exact nomatch h
    have c34 : ¬ (x29 = true) := c34
    refine wpRwI 22 kr (Bool.eq_false_iff.mpr c34) ?_
    refine condF kr ?_
    refine wp_skip ?_
    refine hK18 _ _ ?_
    refine wp_seq_k fun K37 hK38 => rl ?_
    refine seqL1 kr ?_
    refine nl (hK38 _ _ ?_)
    refine wp_ret ?_
    refine hret _ _ ?_
    refine ends_still (v := Value.int .i64 0) kr kr ?_
    have HS187 := HS27.drop
    injection h with h
    subst h
    exact ⟨f24, rfl, L25, HS187⟩
   clear h; have h := hv30; clear hv30
   refine rl ?_
   refine seqL1 kr ?_
   refine seqK rfl (does_run (run_load rfl Try.underlying3 rfl (kv (pV b7 1)) (HS9.cell 1)) ?_)
   refine seqL2 kr ?_
   replace h := ite_some h; rcases h with ⟨c22, h⟩ | ⟨c22, h⟩
   · have c22 : vf1.Delay ≠ 0 := c22
     refine seqRwI 11 kr (bne_iff_ne.mpr c22) ?_
     refine seqRwI 12 kr (bne_iff_ne.mpr c22) ?_
     refine seqL10 kr ?_
     refine nl ?_
     exact J31 f true (jL [pV b7 1, iV vf1.Delay, tV, tV, uV, uV, uV, tV, tV]) W8 _ fL h HS9 kr
   have c22 : ¬ (vf1.Delay ≠ 0) := c22
   refine seqRwI 11 (x := (vf1.Delay != 0)) (v := false) kr (bne_eq_false_iff_eq.mpr (Decidable.of_not_not c22)) ?_
   refine seqRwI 12 (x := (vf1.Delay != 0)) (v := false) kr (bne_eq_false_iff_eq.mpr (Decidable.of_not_not c22)) ?_
   refine seqL1 kr ?_
   refine seqG kr (does_run (run_load rfl Try.underlying3 rfl (kv (pV b7 2)) (HS9.cell 2)) ?_)
   refine seqL3 kr ?_
   replace h := ite_some h; rcases h with ⟨c23, h⟩ | ⟨c23, h⟩
   · have c23 : vf1.Twice ≠ 0 := c23
     refine seqRwI 15 kr (bne_iff_ne.mpr c23) ?_
     refine seqRwI 16 kr (bne_iff_ne.mpr c23) ?_
     refine seqRwI 17 kr (bne_iff_ne.mpr c23) ?_
     refine seqL5 kr ?_
     refine nl ?_
     exact J31 f true (jL [pV b7 1, iV vf1.Delay, fV, fV, pV b7 2, iV vf1.Twice, tV, tV, tV]) W8 _ fL h HS9 kr
   have c23 : ¬ (vf1.Twice ≠ 0) := c23
   refine seqRwI 15 (x := (vf1.Twice != 0)) (v := false) kr (bne_eq_false_iff_eq.mpr (Decidable.of_not_not c23)) ?_
   refine seqRwI 16 (x := (vf1.Twice != 0)) (v := false) kr (bne_eq_false_iff_eq.mpr (Decidable.of_not_not c23)) ?_
   refine seqRwI 17 (x := (vf1.Twice != 0)) (v := false) kr (bne_eq_false_iff_eq.mpr (Decidable.of_not_not c23)) ?_
   refine seqL1 kr ?_
   refine seqG kr (does_run (run_load rfl Try.underlying22 rfl (kv (pV b7 3)) (HS9.cell 3)) ?_)
   refine seqL3 kr ?_
   refine nl ?_
   exact J31 f ((vf1.Bits.length : Int) != 0) (jL [pV b7 1, iV vf1.Delay, fV, fV, pV b7 2, iV vf1.Twice, fV, fV, fV, pV b7 3, .slice A2 vf1.Bits.length c3, iV (vf1.Bits.length : Int), .bool ((vf1.Bits.length : Int) != 0)]) W8 _ fL h HS9 kr
 have c16 : ¬ (vf1.Lost = true) := c16
 refine wpRwI 8 kr (Bool.eq_false_iff.mpr c16) ?_
 refine condF kr ?_
 refine wp_skip ?_
 refine hK12 _ _ ?_
 refine wp_seq_k (fun K39 hK40 => ?_)
 refine wp_seq_k (fun K41 hK42 => ?_)
 replace h := bind_some h; obtain ⟨v43, hv53, h⟩ := h
 have J54 : ∀ (f47 : FM) (x52 : Bool) (j51 : Nat → Value) (W49 : World) (a_ : Act), FM.le f f47 → some (x52) = some v43 → St t W49 f47 ([(b7, .cells #[.bool vf1.Lost, .int .i64 vf1.Delay, .int .i64 vf1.Twice, .slice A2 vf1.Bits.length c3] 78 (0, 0))] :: H) → a_ = ⟨⟨[(ag_Fate vf1 A2 c3), pV b7 0, iV 0] ++ (un 4 ([pV b7 0, fV] ++ (un 14 (jr j51 0 17 ([.bool x52] ++ (un 28 []))))))⟩, []⟩ → K41 a_ W49 := by
  intro f47 x52 j51 W49 a_ L48 hj55 HS50  hfr_; subst hfr_
  injection hj55 with hj55; subst hj55; try dsimp only at h
  refine hK42 _ _ ?_
  replace h := ite_some h; rcases h with ⟨c57, h⟩ | ⟨c57, h⟩
  · have c57 : x52 = true := c57
    refine wpRwI 40 kr c57 ?_
    refine condT kr ?_
    refine wp_seq_k (fun K58 hK59 => ?_)
    exact nomatch h
  have c57 : ¬ (x52 = true) := c57
  refine wpRwI 40 kr (Bool.eq_false_iff.mpr c57) ?_
  refine condF kr ?_
  refine wp_skip ?_
  refine hK40 _ _ ?_
  refine wp_seq_k (fun K60 hK61 => ?_)
  refine wp_seq_k fun K62 hK63 => rl ?_
  refine seqL1 kr ?_
  refine seqK rfl (does_run (run_load rfl Try.underlying22 rfl (kv (pV b7 3)) (HS50.cell 3)) ?_)
  refine seqL2 kr ?_
  refine nl (hK63 _ _ ?_)
  replace h := ite_some h; rcases h with ⟨c65, h⟩ | ⟨c65, h⟩
  · have c65 : (vf1.Bits.length : Int) > 3 := c65
    refine wpRwI 44 kr (decide_eq_true c65) ?_
    refine condT kr ?_
    refine wp_seq_k (fun K66 hK67 => ?_)
    exact nomatch h
  have c65 : ¬ ((vf1.Bits.length : Int) > 3) := c65
  refine wpRwI 44 kr (decide_eq_false c65) ?_
  refine condF kr ?_
  refine wp_skip ?_
  refine hK61 _ _ ?_
  refine wp_seq_k (fun K68 hK69 => ?_)
  refine wp_seq_k fun K70 hK71 => rl ?_
  refine seqL1 kr ?_
  refine seqK rfl (does_run (run_load rfl Try.underlying22 rfl (kv (pV b7 3)) (HS50.cell 3)) ?_)
  refine seqL2 kr ?_
  refine nl (hK71 _ _ ?_)
  refine blockK (fun B72 hx73 hn74 hr75 ho76 hp77 => ?_)
  replace h := bind_some h; obtain ⟨o78, hv182, h⟩ := h
  have J183 : ∀ (f177 : FM) (j181 : Nat → Value) (W179 : World) (a_ : Act), FM.le f47 f177 → some (()) = some o78 → St t W179 f177 ([(b7, .cells #[.bool vf1.Lost, .int .i64 vf1.Delay, .int .i64 vf1.Twice, .slice A2 vf1.Bits.length c3] 78 (0, 0))] :: H) → a_ = ⟨⟨[(ag_Fate vf1 A2 c3), pV b7 0] ++ (jr j181 0 3 ([uV, (j181 3), pV b7 0, fV] ++ (un 14 (jr j51 0 17 ([fV, pV b7 3, .slice A2 vf1.Bits.length c3, iV (vf1.Bits.length : Int), fV, pV b7 3, .slice A2 vf1.Bits.length c3, iV (vf1.Bits.length : Int)] ++ (jr j181 4 21 []))))))⟩, []⟩ → K68 a_ W179 := by
   intro f177 j181 W179 a_ L178 hj184 HS180  hfr_; subst hfr_
   injection hj184 with hj184; subst hj184; try dsimp only at h
   refine hK69 _ _ ?_
   refine wp_seq_k fun K185 hK186 => rl ?_
   refine seqL1 kr ?_
   refine nl (hK186 _ _ ?_)
   refine wp_ret ?_
   refine hret _ _ ?_
   refine ends_still (v := Value.int .i64 0) kr kr ?_
   have HS188 := HS180.drop
   injection h with h
   subst h
   exact ⟨f177, rfl, (L48.trans L178), HS188⟩
  clear h; have h := hv182; clear hv182
  refine loopK (fun n_ a_ w_ => ∃ (f82 : FM) (x87 : Int) (j86 : Nat → Value), FM.le f47 f82 ∧ St t w_ f82 ([(b7, .cells #[.bool vf1.Lost, .int .i64 vf1.Delay, .int .i64 vf1.Twice, .slice A2 vf1.Bits.length c3] 78 (0, 0))] :: H) ∧ link_CheckFate.l0 k vf1 n_ x87 = some o78 ∧ a_ = ⟨⟨[(ag_Fate vf1 A2 c3), pV b7 0] ++ (jr j86 0 3 ([uV, (j86 3), pV b7 0, fV] ++ (un 14 (jr j51 0 17 ([fV, pV b7 3, .slice A2 vf1.Bits.length c3, iV (vf1.Bits.length : Int), fV, pV b7 3, .slice A2 vf1.Bits.length c3, iV (vf1.Bits.length : Int), iV x87] ++ (jr j86 4 20 []))))))⟩, []⟩) k ⟨f47, 0, (jL [iV 0]), fL, HS50, h, kr⟩ ?_
  clear h
  rintro n81 _ W84 ⟨f82, x87, j86, L83, HS85, h, rfl⟩ K79 hK80
  obtain _ | n81 := n81
  · exact nomatch h
  simp only [link_CheckFate.l0] at h
  refine wp_seq_k fun K88 hK89 => rl ?_
  refine seqL1 kr ?_
  refine nl (hK89 _ _ ?_)
  refine wp_seq_k (fun K90 hK91 => ?_)
  replace h := ite_some h; rcases h with ⟨c93, h⟩ | ⟨c93, h⟩
  rotate_left
  · have c93 : ¬ (x87 < (vf1.Bits.length : Int)) := c93
    refine wpRwI 49 kr (decide_eq_false c93) ?_
    refine condF kr ?_
    refine wp_exit ?_
    refine hx73 _ _ ?_
    exact J183 f82 (jL [(j86 0), (j86 1), (j86 2), (j86 3), iV x87, fV, (j86 5), (j86 6), (j86 7), (j86 8), (j86 9), (j86 10), (j86 11), (j86 12), (j86 13), (j86 14), (j86 15), (j86 16), (j86 17), (j86 18), (j86 19), (j86 20), (j86 21), (j86 22), (j86 23)]) W84 _ L83 h HS85 kr
  have c93 : x87 < (vf1.Bits.length : Int) := c93
  refine wpRwI 49 kr (decide_eq_true c93) ?_
  refine condT kr ?_
  refine wp_skip ?_
  refine hK91 _ _ ?_
  refine wp_seq_k (fun K94 hK95 => ?_)
  refine blockK (fun B96 hx97 hn98 hr99 ho100 hp101 => ?_)
  refine wp_seq_k fun K103 hK104 => rl ?_
  replace h := guard_some h; obtain ⟨c105, h⟩ := h
  have c105 : 0 ≤ x87 := c105
  obtain ⟨b109, of110, cs106, hA111, hr107, hc108⟩ := (HR4.mono (L48.trans L83)).at (i := x87) c105 c93
  obtain rfl := hr107
  refine seqL1 kr ?_
  refine seqK rfl (does_run (run_indexE hA111 (sz := 1) rfl Try.underlying22 kr (kv (.slice A2 vf1.Bits.length c3)) (kv (.int .i64 x87)) c105 c93 W84) ?_)
  refine seqK rfl (does_run (run_load rfl Try.underlying3 rfl (kv (pV b109 (of110 + (x87 : Int).toNat * 1))) ((hc108 fL HS85) 0 (by decide))) ?_)
  refine seqL2 kr ?_
  refine nl (hK104 _ _ ?_)
  refine wp_seq_k (fun K112 hK113 => ?_)
  refine wp_seq_k fun K114 hK115 => rl ?_
  refine seqL2 kr ?_
  refine nl (hK115 _ _ ?_)
  replace h := ite_some h; rcases h with ⟨c117, h⟩ | ⟨c117, h⟩
  · have c117 : (rd vf1.Bits x87) < 0 := c117
    refine wpRwI 54 kr (decide_eq_true c117) ?_
    refine condT kr ?_
    refine wp_seq_k (fun K118 hK119 => ?_)
    exact nomatch h
  have c117 : ¬ ((rd vf1.Bits x87) < 0) := c117
  refine wpRwI 54 kr (decide_eq_false c117) ?_
  refine condF kr ?_
  refine wp_skip ?_
  refine hK113 _ _ ?_
  refine wp_seq_k fun K120 hK121 => rl ?_
  refine seqL1 kr ?_
  refine seqK rfl (does_run (run_load rfl Try.underlying22 rfl (kv (pV b7 3)) (HS85.cell 3)) ?_)
  replace h := guard_some h; obtain ⟨c122, h⟩ := h
  have c122 : x87 ≤ (vf1.Bits.length : Int) := c122
  refine seqL1 kr ?_
  refine seqK rfl (does_run (run_cutH (e := (tInt .i64)) (xs := vf1.Bits) rfl Try.underlying22 kr (kv (.slice A2 vf1.Bits.length c3)) (kv (.int .i64 x87)) c105 c122 HR4.le W84) ?_)
  refine seqL2 kr ?_
  refine nl (hK121 _ _ ?_)
  refine blockK (fun B123 hx124 hn125 hr126 ho127 hp128 => ?_)
  replace h := bind_some h; obtain ⟨o129, hv174, h⟩ := h
  have J175 : ∀ (f169 : FM) (j173 : Nat → Value) (W171 : World) (a_ : Act), FM.le f82 f169 → some (()) = some o129 → St t W171 f169 ([(b7, .cells #[.bool vf1.Lost, .int .i64 vf1.Delay, .int .i64 vf1.Twice, .slice A2 vf1.Bits.length c3] 78 (0, 0))] :: H) → a_ = ⟨⟨[(ag_Fate vf1 A2 c3), pV b7 0, (j173 0), iV x87, iV (rd vf1.Bits x87), uV, (j173 1), pV b7 0, fV] ++ (un 14 (jr j51 0 17 ([fV, pV b7 3, .slice A2 vf1.Bits.length c3, iV (vf1.Bits.length : Int), fV, pV b7 3, .slice A2 vf1.Bits.length c3, iV (vf1.Bits.length : Int), iV x87, tV, iV x87, pV b109 (of110 + (x87 : Int).toNat * 1), iV (rd vf1.Bits x87), iV (rd vf1.Bits x87), fV, pV b7 3, .slice A2 vf1.Bits.length c3, iV x87, .slice A2 (vf1.Bits.take (x87).toNat).length c3, iV ((vf1.Bits.take (x87).toNat).length : Int)] ++ (jr j173 2 8 [(j86 23)]))))⟩, []⟩ → B96 Exit.normal a_ W171 := by
   intro f169 j173 W171 a_ L170 hj176 HS172  hfr_; subst hfr_
   injection hj176 with hj176; subst hj176; try dsimp only at h
   refine hn98 _ _ ?_
   refine hK95 _ _ ?_
   refine rl ?_
   refine seqL2 kr ?_
   refine nl ?_
   refine hK80 n81 _ _ (Nat.lt_succ_self _) ?_
   exact ⟨f169, (w64 (x87 + 1)), (jL [(j173 0), iV x87, iV (rd vf1.Bits x87), (j173 1), tV, iV x87, pV b109 (of110 + (x87 : Int).toNat * 1), iV (rd vf1.Bits x87), iV (rd vf1.Bits x87), fV, pV b7 3, .slice A2 vf1.Bits.length c3, iV x87, .slice A2 (vf1.Bits.take (x87).toNat).length c3, iV ((vf1.Bits.take (x87).toNat).length : Int), (j173 2), (j173 3), (j173 4), (j173 5), (j173 6), (j173 7), (j173 8), (j173 9), iV (w64 (x87 + 1))]), (L83.trans L170), HS172, h, kr⟩
  clear h; have h := hv174; clear hv174
  refine loopK (fun n_ a_ w_ => ∃ (f133 : FM) (x138 : Int) (j137 : Nat → Value), FM.le f82 f133 ∧ St t w_ f133 ([(b7, .cells #[.bool vf1.Lost, .int .i64 vf1.Delay, .int .i64 vf1.Twice, .slice A2 vf1.Bits.length c3] 78 (0, 0))] :: H) ∧ link_CheckFate.l1 k vf1 x87 n_ x138 = some o129 ∧ a_ = ⟨⟨[(ag_Fate vf1 A2 c3), pV b7 0, (j137 0), iV x87, iV (rd vf1.Bits x87), uV, (j137 1), pV b7 0, fV] ++ (un 14 (jr j51 0 17 ([fV, pV b7 3, .slice A2 vf1.Bits.length c3, iV (vf1.Bits.length : Int), fV, pV b7 3, .slice A2 vf1.Bits.length c3, iV (vf1.Bits.length : Int), iV x87, tV, iV x87, pV b109 (of110 + (x87 : Int).toNat * 1), iV (rd vf1.Bits x87), iV (rd vf1.Bits x87), fV, pV b7 3, .slice A2 vf1.Bits.length c3, iV x87, .slice A2 (vf1.Bits.take (x87).toNat).length c3, iV ((vf1.Bits.take (x87).toNat).length : Int), iV x138] ++ (jr j137 2 7 [(j86 23)]))))⟩, []⟩) k ⟨f82, 0, (jL [(j86 0), (j86 3), (j86 16), (j86 17), (j86 18), (j86 19), (j86 20), (j86 21), (j86 22)]), fL, HS85, h, kr⟩ ?_
  clear h
  rintro n132 _ W135 ⟨f133, x138, j137, L134, HS136, h, rfl⟩ K130 hK131
  obtain _ | n132 := n132
  · exact nomatch h
  simp only [link_CheckFate.l1] at h
  refine wp_seq_k fun K139 hK140 => rl ?_
  refine seqL1 kr ?_
  refine nl (hK140 _ _ ?_)
  refine wp_seq_k (fun K141 hK142 => ?_)
  replace h := ite_some h; rcases h with ⟨c144, h⟩ | ⟨c144, h⟩
  rotate_left
  · have c144 : ¬ (x138 < ((vf1.Bits.take (x87).toNat).length : Int)) := c144
    refine wpRwI 61 kr (decide_eq_false c144) ?_
    refine condF kr ?_
    refine wp_exit ?_
    refine hx124 _ _ ?_
    exact J175 f133 (jL [(j137 0), (j137 1), iV x138, fV, (j137 3), (j137 4), (j137 5), (j137 6), (j137 7), (j137 8)]) W135 _ L134 h HS136 kr
  have c144 : x138 < ((vf1.Bits.take (x87).toNat).length : Int) := c144
  refine wpRwI 61 kr (decide_eq_true c144) ?_
  refine condT kr ?_
  refine wp_skip ?_
  refine hK142 _ _ ?_
  refine wp_seq_k (fun K145 hK146 => ?_)
  refine blockK (fun B147 hx148 hn149 hr150 ho151 hp152 => ?_)
  refine wp_seq_k fun K154 hK155 => rl ?_
  replace h := guard_some h; obtain ⟨c156, h⟩ := h
  have c156 : 0 ≤ x138 := c156
  obtain ⟨b160, of161, cs157, hA162, hr158, hc159⟩ := ((HR4.take (x87).toNat).mono (L48.trans (L83.trans L134))).at (i := x138) c156 c144
  obtain rfl := hr158
  refine seqK rfl (does_run (run_indexE hA162 (sz := 1) rfl Try.underlying22 kr (kv (.slice A2 (vf1.Bits.take (x87).toNat).length c3)) (kv (.int .i64 x138)) c156 c144 W135) ?_)
  refine seqK rfl (does_run (run_load rfl Try.underlying3 rfl (kv (pV b160 (of161 + (x138 : Int).toNat * 1))) ((hc159 fL HS136) 0 (by decide))) ?_)
  refine seqL1 kr ?_
  refine nl (hK155 _ _ ?_)
  refine wp_seq_k fun K163 hK164 => rl ?_
  refine seqL3 kr ?_
  refine nl (hK164 _ _ ?_)
  replace h := ite_some h; rcases h with ⟨c166, h⟩ | ⟨c166, h⟩
  · have c166 : (rd vf1.Bits x87) = (rd (vf1.Bits.take (x87).toNat) x138) := c166
    refine wpRwI 66 kr (beq_iff_eq.mpr c166) ?_
    refine condT kr ?_
    refine wp_seq_k (fun K167 hK168 => ?_)
    exact nomatch h
  have c166 : ¬ ((rd vf1.Bits x87) = (rd (vf1.Bits.take (x87).toNat) x138)) := c166
  refine wpRwI 66 kr (beq_eq_false_iff_ne.mpr c166) ?_
  refine condF kr ?_
  refine wp_skip ?_
  refine hn149 _ _ ?_
  refine hK146 _ _ ?_
  refine rl ?_
  refine seqL2 kr ?_
  refine nl ?_
  refine hK131 n132 _ _ (Nat.lt_succ_self _) ?_
  exact ⟨f133, (w64 (x138 + 1)), (jL [(j137 0), iV (rd (vf1.Bits.take (x87).toNat) x138), tV, pV b160 (of161 + (x138 : Int).toNat * 1), iV (rd (vf1.Bits.take (x87).toNat) x138), iV (rd vf1.Bits x87), iV (rd (vf1.Bits.take (x87).toNat) x138), fV, iV (w64 (x138 + 1))]), L134, HS136, h, kr⟩
 clear h; have h := hv53; clear hv53
 refine rl ?_
 refine seqL1 kr ?_
 refine seqK rfl (does_run (run_load rfl Try.underlying3 rfl (kv (pV b7 1)) (HS9.cell 1)) ?_)
 refine seqL2 kr ?_
 replace h := ite_some h; rcases h with ⟨c44, h⟩ | ⟨c44, h⟩
 · have c44 : vf1.Delay < 1 := c44
   refine seqRwI 25 kr (decide_eq_true c44) ?_
   refine seqRwI 26 kr (decide_eq_true c44) ?_
   refine seqL14 kr ?_
   refine nl ?_
   exact J54 f true (jL [pV b7 1, iV vf1.Delay, tV, tV, uV, uV, uV, tV, tV, uV, uV, uV, tV, tV]) W8 _ fL h HS9 kr
 have c44 : ¬ (vf1.Delay < 1) := c44
 refine seqRwI 25 kr (decide_eq_false c44) ?_
 refine seqRwI 26 kr (decide_eq_false c44) ?_
 refine seqL1 kr ?_
 refine seqG kr (does_run (run_load rfl Try.underlying3 rfl (kv (pV b7 1)) (HS9.cell 1)) ?_)
 refine seqL3 kr ?_
 replace h := ite_some h; rcases h with ⟨c45, h⟩ | ⟨c45, h⟩
 · have c45 : vf1.Delay > 8 := c45
   refine seqRwI 29 kr (decide_eq_true c45) ?_
   refine seqRwI 30 kr (decide_eq_true c45) ?_
   refine seqRwI 31 kr (decide_eq_true c45) ?_
   refine seqL9 kr ?_
   refine nl ?_
   exact J54 f true (jL [pV b7 1, iV vf1.Delay, fV, fV, pV b7 1, iV vf1.Delay, tV, tV, tV, uV, uV, uV, tV, tV]) W8 _ fL h HS9 kr
 have c45 : ¬ (vf1.Delay > 8) := c45
 refine seqRwI 29 kr (decide_eq_false c45) ?_
 refine seqRwI 30 kr (decide_eq_false c45) ?_
 refine seqRwI 31 kr (decide_eq_false c45) ?_
 refine seqL1 kr ?_
 refine seqG kr (does_run (run_load rfl Try.underlying3 rfl (kv (pV b7 2)) (HS9.cell 2)) ?_)
 refine seqL3 kr ?_
 replace h := ite_some h; rcases h with ⟨c46, h⟩ | ⟨c46, h⟩
 · have c46 : vf1.Twice < 0 := c46
   refine seqRwI 34 kr (decide_eq_true c46) ?_
   refine seqRwI 35 kr (decide_eq_true c46) ?_
   refine seqRwI 36 kr (decide_eq_true c46) ?_
   refine seqL4 kr ?_
   refine nl ?_
   exact J54 f true (jL [pV b7 1, iV vf1.Delay, fV, fV, pV b7 1, iV vf1.Delay, fV, fV, fV, pV b7 2, iV vf1.Twice, tV, tV, tV]) W8 _ fL h HS9 kr
 have c46 : ¬ (vf1.Twice < 0) := c46
 refine seqRwI 34 kr (decide_eq_false c46) ?_
 refine seqRwI 35 kr (decide_eq_false c46) ?_
 refine seqRwI 36 kr (decide_eq_false c46) ?_
 refine seqL1 kr ?_
 refine seqG kr (does_run (run_load rfl Try.underlying3 rfl (kv (pV b7 2)) (HS9.cell 2)) ?_)
 refine seqL2 kr ?_
 refine nl ?_
 exact J54 f (decide (vf1.Twice > 8)) (jL [pV b7 1, iV vf1.Delay, fV, fV, pV b7 1, iV vf1.Delay, fV, fV, fV, pV b7 2, iV vf1.Twice, fV, fV, fV, pV b7 2, iV vf1.Twice, .bool (decide (vf1.Twice > 8))]) W8 _ fL h HS9 kr

end Go.Sp.S4
