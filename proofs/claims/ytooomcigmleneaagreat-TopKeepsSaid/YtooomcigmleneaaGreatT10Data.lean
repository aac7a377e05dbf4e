import Derived.Test.YtooomcigmleneaaGreatT10Pen
import Derived.Test.YtooomcigmleneaaGreatKxJ
import Derived.Test.YtooomcigmleneaaGreatKxP
import Derived.Test.YtooomcigmleneaaGreatProg
import Derived.KernelRfl
set_option linter.all false
namespace Go.Proofs.T10
open Tryz
open Go Go.Kx
variable{m:Mem}{p:Addr}
structure Span where
 Lo:Int
 Hi:Int
 deriving DecidableEq,Inhabited
instance:Flat Span:=⟨2,by decide,fun x=>[J x.Lo,J x.Hi],fun _=>rfl,fun x v hv=>by simp at hv;rcases hv with rfl|rfl <;> rfl⟩
instance:Enc Span:=G1 Span
instance:FlatEnc Span:=⟨rfl,fun _ _=>rfl⟩
theorem Z3{x:Span}(h:At m p x):At m (p.add 0) x.Lo:=h.fl 0 rfl rfl
theorem W4{x:Span}(h:At m p x):At m (p.add 1) x.Hi:=h.fl 1 rfl rfl
structure Paper where
 Pitch:Int
 Height:Int
 Radius:Int
 Low:Int
 High:Int
 Columns:Int
 Along:Span
 Across:Span
 deriving DecidableEq,Inhabited
instance:Flat Paper:=⟨10,by decide,fun x=>[J x.Pitch,J x.Height,J x.Radius,J x.Low,J x.High,J x.Columns,J x.Along.Lo,J x.Along.Hi,J x.Across.Lo,J x.Across.Hi],fun _=>rfl,fun x v hv=>by simp at hv;rcases hv with rfl|rfl|rfl|rfl|rfl|rfl|rfl|rfl|rfl|rfl <;> rfl⟩
instance:Enc Paper:=G1 Paper
instance:FlatEnc Paper:=⟨rfl,fun _ _=>rfl⟩
theorem A5N{x:Paper}(h:At m p x):At m (p.add 0) x.Pitch:=h.fl 0 rfl rfl
theorem B7k{x:Paper}(h:At m p x):At m (p.add 1) x.Height:=h.fl 1 rfl rfl
theorem Z1{x:Paper}(h:At m p x):At m (p.add 5) x.Columns:=h.fl 5 rfl rfl
structure Stp where
 Column:Int
 Ticks:Span
 deriving DecidableEq,Inhabited
instance:Flat Stp:=⟨3,by decide,fun x=>[J x.Column,J x.Ticks.Lo,J x.Ticks.Hi],fun _=>rfl,fun x v hv=>by simp at hv;rcases hv with rfl|rfl|rfl <;> rfl⟩
instance:Enc Stp:=G1 Stp
instance:FlatEnc Stp:=⟨rfl,fun _ _=>rfl⟩
theorem B3g{x:Stp}(h:At m p x):At m (p.add 0) x.Column:=h.fl 0 rfl rfl
theorem A5K{x:Stp}(h:At m p x):At m (p.add 1) x.Ticks:=h.fl 1 rfl rfl
structure Mark where
 Column:Int
 Ticks:Span
 deriving DecidableEq,Inhabited
instance:Flat Mark:=⟨3,by decide,fun x=>[J x.Column,J x.Ticks.Lo,J x.Ticks.Hi],fun _=>rfl,fun x v hv=>by simp at hv;rcases hv with rfl|rfl|rfl <;> rfl⟩
instance:Enc Mark:=G1 Mark
instance:FlatEnc Mark:=⟨rfl,fun _ _=>rfl⟩
theorem B8V{x:Mark}(h:At m p x):At m (p.add 0) x.Column:=h.fl 0 rfl rfl
theorem B8i{x:Mark}(h:At m p x):At m (p.add 1) x.Ticks:=h.fl 1 rfl rfl
structure Point where
 X:Int
 Y:Int
 Half:Int
 deriving DecidableEq,Inhabited
instance:Flat Point:=⟨3,by decide,fun x=>[J x.X,J x.Y,J x.Half],fun _=>rfl,fun x v hv=>by simp at hv;rcases hv with rfl|rfl|rfl <;> rfl⟩
instance:Enc Point:=G1 Point
instance:FlatEnc Point:=⟨rfl,fun _ _=>rfl⟩
theorem B6e{x:Point}(h:At m p x):At m (p.add 2) x.Half:=h.fl 2 rfl rfl
structure Pen where
 Band:Int
 Zero:Span
 Rate:Int
 deriving DecidableEq,Inhabited
instance:Flat Pen:=⟨4,by decide,fun x=>[J x.Band,J x.Zero.Lo,J x.Zero.Hi,J x.Rate],fun _=>rfl,fun x v hv=>by simp at hv;rcases hv with rfl|rfl|rfl|rfl <;> rfl⟩
instance:Enc Pen:=G1 Pen
instance:FlatEnc Pen:=⟨rfl,fun _ _=>rfl⟩
theorem A5L{x:Pen}(h:At m p x):At m (p.add 0) x.Band:=h.fl 0 rfl rfl
theorem A4n{x:Pen}(h:At m p x):At m (p.add 1) x.Zero:=h.fl 1 rfl rfl
theorem B3Q{x:Pen}(h:At m p x):At m (p.add 3) x.Rate:=h.fl 3 rfl rfl
structure Drum where
 Rates:List Span
 Stops:List Stp
 deriving DecidableEq,Inhabited
instance:Enc Drum where
 sz:=2
 pos:=by decide
 rd m vs x:=∃v0 v1:Value,vs=[v0,v1]∧Sl m v0 x.Rates∧Sl m v1 x.Stops
 len h:=by obtain⟨v0,v1,rfl,h0,h1⟩:=h;rfl
 mono hm h:=by obtain⟨v0,v1,hv,h0,h1⟩:=h;exact⟨v0,v1,hv,h0.mono hm,h1.mono hm⟩
 one h:=by
  obtain⟨v0,v1,rfl,h0,h1⟩:=h
  intro u hu
  simp at hu
  rcases hu with rfl|rfl <;> first|rfl|exact h0.one|exact h1.one
theorem R6{x:Drum}(h:At m p x):At m (p.add 0) x.Rates:=by obtain⟨_,⟨_,_,rfl,h0,_⟩,c⟩:=h;exact⟨_,⟨_,rfl,h0⟩,c.cut 0⟩
theorem O6{x:Drum}(h:At m p x):At m (p.add 1) x.Stops:=by obtain⟨_,⟨_,_,rfl,_,h1⟩,c⟩:=h;exact⟨_,⟨_,rfl,h1⟩,c.cut 1⟩
structure Sheet where
 Paper:Paper
 Trace:List Point
 Blots:List Int
 Drum:Drum
 Pen:Pen
 deriving DecidableEq,Inhabited
instance:Enc Sheet where
 sz:=18
 pos:=by decide
 rd m vs x:=∃v0 v1 v2 v3:Value,vs=[J x.Paper.Pitch,J x.Paper.Height,J x.Paper.Radius,J x.Paper.Low,J x.Paper.High,J x.Paper.Columns,J x.Paper.Along.Lo,J x.Paper.Along.Hi,J x.Paper.Across.Lo,J x.Paper.Across.Hi,v0,v1,v2,v3,J x.Pen.Band,J x.Pen.Zero.Lo,J x.Pen.Zero.Hi,J x.Pen.Rate]∧Sl m v0 x.Trace∧Sl m v1 x.Blots∧Sl m v2 x.Drum.Rates∧Sl m v3 x.Drum.Stops
 len h:=by obtain⟨v0,v1,v2,v3,rfl,h0,h1,h2,h3⟩:=h;rfl
 mono hm h:=by obtain⟨v0,v1,v2,v3,hv,h0,h1,h2,h3⟩:=h;exact⟨v0,v1,v2,v3,hv,h0.mono hm,h1.mono hm,h2.mono hm,h3.mono hm⟩
 one h:=by
  obtain⟨v0,v1,v2,v3,rfl,h0,h1,h2,h3⟩:=h
  intro u hu
  simp at hu
  rcases hu with rfl|rfl|rfl|rfl|rfl|rfl|rfl|rfl|rfl|rfl|rfl|rfl|rfl|rfl|rfl|rfl|rfl|rfl <;> first|rfl|exact h0.one|exact h1.one|exact h2.one|exact h3.one
theorem P6{x:Sheet}(h:At m p x):At m (p.add 0) x.Paper:=by obtain⟨_,⟨_,_,_,_,rfl,_,_,_,_⟩,c⟩:=h;exact⟨_,rfl,c.cut 0⟩
theorem Y1{x:Sheet}(h:At m p x):At m (p.add 10) x.Trace:=by obtain⟨_,⟨_,_,_,_,rfl,h0,_,_,_⟩,c⟩:=h;exact⟨_,⟨_,rfl,h0⟩,c.cut 10⟩
theorem A0t{x:Sheet}(h:At m p x):At m (p.add 11) x.Blots:=by obtain⟨_,⟨_,_,_,_,rfl,_,h1,_,_⟩,c⟩:=h;exact⟨_,⟨_,rfl,h1⟩,c.cut 11⟩
theorem F8{x:Sheet}(h:At m p x):At m (p.add 12) x.Drum:=by obtain⟨_,⟨_,_,_,_,rfl,_,_,h2,h3⟩,c⟩:=h;exact⟨_,⟨_,_,rfl,h2,h3⟩,c.cut 12⟩
theorem J6{x:Sheet}(h:At m p x):At m (p.add 14) x.Pen:=by obtain⟨_,⟨_,_,_,_,rfl,_,_,_,_⟩,c⟩:=h;exact⟨_,rfl,c.cut 14⟩
structure Course where
 Zero:Int
 Ticks:List Int
 Shown:List Int
 Levels:List Int
 deriving DecidableEq,Inhabited
instance:Enc Course where
 sz:=4
 pos:=by decide
 rd m vs x:=∃v0 v1 v2:Value,vs=[J x.Zero,v0,v1,v2]∧Sl m v0 x.Ticks∧Sl m v1 x.Shown∧Sl m v2 x.Levels
 len h:=by obtain⟨v0,v1,v2,rfl,h0,h1,h2⟩:=h;rfl
 mono hm h:=by obtain⟨v0,v1,v2,hv,h0,h1,h2⟩:=h;exact⟨v0,v1,v2,hv,h0.mono hm,h1.mono hm,h2.mono hm⟩
 one h:=by
  obtain⟨v0,v1,v2,rfl,h0,h1,h2⟩:=h
  intro u hu
  simp at hu
  rcases hu with rfl|rfl|rfl|rfl <;> first|rfl|exact h0.one|exact h1.one|exact h2.one
theorem A1v{x:Course}(h:At m p x):At m (p.add 0) x.Zero:=by obtain⟨_,⟨_,_,_,rfl,_,_,_⟩,c⟩:=h;exact⟨_,rfl,c.cut 0⟩
theorem K0{x:Course}(h:At m p x):At m (p.add 1) x.Ticks:=by obtain⟨_,⟨_,_,_,rfl,h0,_,_⟩,c⟩:=h;exact⟨_,⟨_,rfl,h0⟩,c.cut 1⟩
theorem T4{x:Course}(h:At m p x):At m (p.add 2) x.Shown:=by obtain⟨_,⟨_,_,_,rfl,_,h1,_⟩,c⟩:=h;exact⟨_,⟨_,rfl,h1⟩,c.cut 2⟩
theorem L5{x:Course}(h:At m p x):At m (p.add 3) x.Levels:=by obtain⟨_,⟨_,_,_,rfl,_,_,h2⟩,c⟩:=h;exact⟨_,⟨_,rfl,h2⟩,c.cut 3⟩
structure Inked where
 Columns:List (List Span)
 deriving DecidableEq,Inhabited
instance:Enc Inked where
 sz:=1
 pos:=by decide
 rd m vs x:=∃v0:Value,vs=[v0]∧Sl m v0 x.Columns
 len h:=by obtain⟨v0,rfl,h0⟩:=h;rfl
 mono hm h:=by obtain⟨v0,hv,h0⟩:=h;exact⟨v0,hv,h0.mono hm⟩
 one h:=by
  obtain⟨v0,rfl,h0⟩:=h
  intro u hu
  simp at hu
  rcases hu with rfl <;> first|rfl|exact h0.one
structure Moment where
 Shown:Int
 Real:Int
 deriving DecidableEq,Inhabited
instance:Flat Moment:=⟨2,by decide,fun x=>[J x.Shown,J x.Real],fun _=>rfl,fun x v hv=>by simp at hv;rcases hv with rfl|rfl <;> rfl⟩
instance:Enc Moment:=G1 Moment
instance:FlatEnc Moment:=⟨rfl,fun _ _=>rfl⟩
theorem B4q{x:Moment}(h:At m p x):At m (p.add 0) x.Shown:=h.fl 0 rfl rfl
theorem B4s{x:Moment}(h:At m p x):At m (p.add 1) x.Real:=h.fl 1 rfl rfl
structure Clk where
 gaps:List Span
 at_:List Span
 deriving DecidableEq,Inhabited
instance:Enc Clk where
 sz:=2
 pos:=by decide
 rd m vs x:=∃v0 v1:Value,vs=[v0,v1]∧Sl m v0 x.gaps∧Sl m v1 x.at_
 len h:=by obtain⟨v0,v1,rfl,h0,h1⟩:=h;rfl
 mono hm h:=by obtain⟨v0,v1,hv,h0,h1⟩:=h;exact⟨v0,v1,hv,h0.mono hm,h1.mono hm⟩
 one h:=by
  obtain⟨v0,v1,rfl,h0,h1⟩:=h
  intro u hu
  simp at hu
  rcases hu with rfl|rfl <;> first|rfl|exact h0.one|exact h1.one
structure Height where
 Week:Int
 Metres:Span
 deriving DecidableEq,Inhabited
instance:Flat Height:=⟨3,by decide,fun x=>[J x.Week,J x.Metres.Lo,J x.Metres.Hi],fun _=>rfl,fun x v hv=>by simp at hv;rcases hv with rfl|rfl|rfl <;> rfl⟩
instance:Enc Height:=G1 Height
instance:FlatEnc Height:=⟨rfl,fun _ _=>rfl⟩
theorem A3c{x:Height}(h:At m p x):At m (p.add 0) x.Week:=h.fl 0 rfl rfl
theorem A5j{x:Height}(h:At m p x):At m (p.add 1) x.Metres:=h.fl 1 rfl rfl
structure Station where
 ID:Int
 X:Int
 Y:Int
 Heights:List Height
 deriving DecidableEq,Inhabited
instance:Enc Station where
 sz:=4
 pos:=by decide
 rd m vs x:=∃v0:Value,vs=[J x.ID,J x.X,J x.Y,v0]∧Sl m v0 x.Heights
 len h:=by obtain⟨v0,rfl,h0⟩:=h;rfl
 mono hm h:=by obtain⟨v0,hv,h0⟩:=h;exact⟨v0,hv,h0.mono hm⟩
 one h:=by
  obtain⟨v0,rfl,h0⟩:=h
  intro u hu
  simp at hu
  rcases hu with rfl|rfl|rfl|rfl <;> first|rfl|exact h0.one
theorem B2X{x:Station}(h:At m p x):At m (p.add 0) x.ID:=by obtain⟨_,⟨_,rfl,_⟩,c⟩:=h;exact⟨_,rfl,c.cut 0⟩
theorem A7o{x:Station}(h:At m p x):At m (p.add 3) x.Heights:=by obtain⟨_,⟨_,rfl,h0⟩,c⟩:=h;exact⟨_,⟨_,rfl,h0⟩,c.cut 3⟩
structure Wind where
 Fixed:Int
 Each:Int
 deriving DecidableEq,Inhabited
instance:Flat Wind:=⟨2,by decide,fun x=>[J x.Fixed,J x.Each],fun _=>rfl,fun x v hv=>by simp at hv;rcases hv with rfl|rfl <;> rfl⟩
instance:Enc Wind:=G1 Wind
instance:FlatEnc Wind:=⟨rfl,fun _ _=>rfl⟩
structure NName where
 Clerk:Int
 Num:Int
 deriving DecidableEq,Inhabited
instance:Flat NName:=⟨2,by decide,fun x=>[J x.Clerk,J x.Num],fun _=>rfl,fun x v hv=>by simp at hv;rcases hv with rfl|rfl <;> rfl⟩
instance:Enc NName:=G1 NName
instance:FlatEnc NName:=⟨rfl,fun _ _=>rfl⟩
theorem A9p{x:NName}(h:At m p x):At m (p.add 0) x.Clerk:=h.fl 0 rfl rfl
theorem A9d{x:NName}(h:At m p x):At m (p.add 1) x.Num:=h.fl 1 rfl rfl
structure ReadT where
 Station:Int
 Week:Int
 Tick:Int
 Levels:Span
 deriving DecidableEq,Inhabited
instance:Flat ReadT:=⟨5,by decide,fun x=>[J x.Station,J x.Week,J x.Tick,J x.Levels.Lo,J x.Levels.Hi],fun _=>rfl,fun x v hv=>by simp at hv;rcases hv with rfl|rfl|rfl|rfl|rfl <;> rfl⟩
instance:Enc ReadT:=G1 ReadT
instance:FlatEnc ReadT:=⟨rfl,fun _ _=>rfl⟩
theorem A1p{x:ReadT}(h:At m p x):At m (p.add 0) x.Station:=h.fl 0 rfl rfl
theorem B0b{x:ReadT}(h:At m p x):At m (p.add 1) x.Week:=h.fl 1 rfl rfl
theorem A3K{x:ReadT}(h:At m p x):At m (p.add 2) x.Tick:=h.fl 2 rfl rfl
theorem A3Z{x:ReadT}(h:At m p x):At m (p.add 3) x.Levels:=h.fl 3 rfl rfl
structure ClaimT where
 Kind:Int
 Sheet:Int
 Index:Int
 deriving DecidableEq,Inhabited
instance:Flat ClaimT:=⟨3,by decide,fun x=>[J x.Kind,J x.Sheet,J x.Index],fun _=>rfl,fun x v hv=>by simp at hv;rcases hv with rfl|rfl|rfl <;> rfl⟩
instance:Enc ClaimT:=G1 ClaimT
instance:FlatEnc ClaimT:=⟨rfl,fun _ _=>rfl⟩
structure BaseT where
 Stations:List Station
 Wind:Wind
 Term:Int
 Ticks:Int
 Clerks:Int
 deriving DecidableEq,Inhabited
instance:Enc BaseT where
 sz:=6
 pos:=by decide
 rd m vs x:=∃v0:Value,vs=[v0,J x.Wind.Fixed,J x.Wind.Each,J x.Term,J x.Ticks,J x.Clerks]∧Sl m v0 x.Stations
 len h:=by obtain⟨v0,rfl,h0⟩:=h;rfl
 mono hm h:=by obtain⟨v0,hv,h0⟩:=h;exact⟨v0,hv,h0.mono hm⟩
 one h:=by
  obtain⟨v0,rfl,h0⟩:=h
  intro u hu
  simp at hu
  rcases hu with rfl|rfl|rfl|rfl|rfl|rfl <;> first|rfl|exact h0.one
theorem N2{x:BaseT}(h:At m p x):At m (p.add 0) x.Stations:=by obtain⟨_,⟨_,rfl,h0⟩,c⟩:=h;exact⟨_,⟨_,rfl,h0⟩,c.cut 0⟩
theorem A3Y{x:BaseT}(h:At m p x):At m (p.add 1) x.Wind:=by obtain⟨_,⟨_,rfl,_⟩,c⟩:=h;exact⟨_,rfl,c.cut 1⟩
theorem A4a{x:BaseT}(h:At m p x):At m (p.add 3) x.Term:=by obtain⟨_,⟨_,rfl,_⟩,c⟩:=h;exact⟨_,rfl,c.cut 3⟩
theorem V4{x:BaseT}(h:At m p x):At m (p.add 4) x.Ticks:=by obtain⟨_,⟨_,rfl,_⟩,c⟩:=h;exact⟨_,rfl,c.cut 4⟩
theorem B6J{x:BaseT}(h:At m p x):At m (p.add 5) x.Clerks:=by obtain⟨_,⟨_,rfl,_⟩,c⟩:=h;exact⟨_,rfl,c.cut 5⟩
structure FiledT where
 Name:NName
 Station:Int
 Week:Int
 Sheet:Sheet
 Marks:List Mark
 Names:List NName
 deriving DecidableEq,Inhabited
instance:Enc FiledT where
 sz:=24
 pos:=by decide
 rd m vs x:=∃v0 v1 v2 v3 v4 v5:Value,vs=[J x.Name.Clerk,J x.Name.Num,J x.Station,J x.Week,J x.Sheet.Paper.Pitch,J x.Sheet.Paper.Height,J x.Sheet.Paper.Radius,J x.Sheet.Paper.Low,J x.Sheet.Paper.High,J x.Sheet.Paper.Columns,J x.Sheet.Paper.Along.Lo,J x.Sheet.Paper.Along.Hi,J x.Sheet.Paper.Across.Lo,J x.Sheet.Paper.Across.Hi,v0,v1,v2,v3,J x.Sheet.Pen.Band,J x.Sheet.Pen.Zero.Lo,J x.Sheet.Pen.Zero.Hi,J x.Sheet.Pen.Rate,v4,v5]∧Sl m v0 x.Sheet.Trace∧Sl m v1 x.Sheet.Blots∧Sl m v2 x.Sheet.Drum.Rates∧Sl m v3 x.Sheet.Drum.Stops∧Sl m v4 x.Marks∧Sl m v5 x.Names
 len h:=by obtain⟨v0,v1,v2,v3,v4,v5,rfl,h0,h1,h2,h3,h4,h5⟩:=h;rfl
 mono hm h:=by obtain⟨v0,v1,v2,v3,v4,v5,hv,h0,h1,h2,h3,h4,h5⟩:=h;exact⟨v0,v1,v2,v3,v4,v5,hv,h0.mono hm,h1.mono hm,h2.mono hm,h3.mono hm,h4.mono hm,h5.mono hm⟩
 one h:=by
  obtain⟨v0,v1,v2,v3,v4,v5,rfl,h0,h1,h2,h3,h4,h5⟩:=h
  intro u hu
  simp at hu
  rcases hu with rfl|rfl|rfl|rfl|rfl|rfl|rfl|rfl|rfl|rfl|rfl|rfl|rfl|rfl|rfl|rfl|rfl|rfl|rfl|rfl|rfl|rfl|rfl|rfl <;> first|rfl|exact h0.one|exact h1.one|exact h2.one|exact h3.one|exact h4.one|exact h5.one
theorem P5{x:FiledT}(h:At m p x):At m (p.add 2) x.Station:=by obtain⟨_,⟨_,_,_,_,_,_,rfl,_,_,_,_,_,_⟩,c⟩:=h;exact⟨_,rfl,c.cut 2⟩
theorem A8f{x:FiledT}(h:At m p x):At m (p.add 3) x.Week:=by obtain⟨_,⟨_,_,_,_,_,_,rfl,_,_,_,_,_,_⟩,c⟩:=h;exact⟨_,rfl,c.cut 3⟩
theorem A3g{x:FiledT}(h:At m p x):At m (p.add 4) x.Sheet:=by obtain⟨_,⟨_,_,_,_,_,_,rfl,h0,h1,h2,h3,_,_⟩,c⟩:=h;exact⟨_,⟨_,_,_,_,rfl,h0,h1,h2,h3⟩,c.cut 4⟩
theorem A1w{x:FiledT}(h:At m p x):At m (p.add 22) x.Marks:=by obtain⟨_,⟨_,_,_,_,_,_,rfl,_,_,_,_,h4,_⟩,c⟩:=h;exact⟨_,⟨_,rfl,h4⟩,c.cut 22⟩
theorem B4o{x:FiledT}(h:At m p x):At m (p.add 23) x.Names:=by obtain⟨_,⟨_,_,_,_,_,_,rfl,_,_,_,_,_,h5⟩,c⟩:=h;exact⟨_,⟨_,rfl,h5⟩,c.cut 23⟩
structure NoteT where
 Clerk:Int
 Num:Int
 Clock:Int
 Day:Int
 Kind:Int
 Station:Int
 Week:Int
 Sheet:Sheet
 Mark:Mark
 Read:ReadT
 Height:Height
 Ref:NName
 deriving DecidableEq,Inhabited
instance:Enc NoteT where
 sz:=38
 pos:=by decide
 rd m vs x:=∃v0 v1 v2 v3:Value,vs=[J x.Clerk,J x.Num,J x.Clock,J x.Day,J x.Kind,J x.Station,J x.Week,J x.Sheet.Paper.Pitch,J x.Sheet.Paper.Height,J x.Sheet.Paper.Radius,J x.Sheet.Paper.Low,J x.Sheet.Paper.High,J x.Sheet.Paper.Columns,J x.Sheet.Paper.Along.Lo,J x.Sheet.Paper.Along.Hi,J x.Sheet.Paper.Across.Lo,J x.Sheet.Paper.Across.Hi,v0,v1,v2,v3,J x.Sheet.Pen.Band,J x.Sheet.Pen.Zero.Lo,J x.Sheet.Pen.Zero.Hi,J x.Sheet.Pen.Rate,J x.Mark.Column,J x.Mark.Ticks.Lo,J x.Mark.Ticks.Hi,J x.Read.Station,J x.Read.Week,J x.Read.Tick,J x.Read.Levels.Lo,J x.Read.Levels.Hi,J x.Height.Week,J x.Height.Metres.Lo,J x.Height.Metres.Hi,J x.Ref.Clerk,J x.Ref.Num]∧Sl m v0 x.Sheet.Trace∧Sl m v1 x.Sheet.Blots∧Sl m v2 x.Sheet.Drum.Rates∧Sl m v3 x.Sheet.Drum.Stops
 len h:=by obtain⟨v0,v1,v2,v3,rfl,h0,h1,h2,h3⟩:=h;rfl
 mono hm h:=by obtain⟨v0,v1,v2,v3,hv,h0,h1,h2,h3⟩:=h;exact⟨v0,v1,v2,v3,hv,h0.mono hm,h1.mono hm,h2.mono hm,h3.mono hm⟩
 one h:=by
  obtain⟨v0,v1,v2,v3,rfl,h0,h1,h2,h3⟩:=h
  intro u hu
  simp at hu
  rcases hu with rfl|rfl|rfl|rfl|rfl|rfl|rfl|rfl|rfl|rfl|rfl|rfl|rfl|rfl|rfl|rfl|rfl|rfl|rfl|rfl|rfl|rfl|rfl|rfl|rfl|rfl|rfl|rfl|rfl|rfl|rfl|rfl|rfl|rfl|rfl|rfl|rfl|rfl <;> first|rfl|exact h0.one|exact h1.one|exact h2.one|exact h3.one
theorem B6h{x:NoteT}(h:At m p x):At m (p.add 0) x.Clerk:=by obtain⟨_,⟨_,_,_,_,rfl,_,_,_,_⟩,c⟩:=h;exact⟨_,rfl,c.cut 0⟩
theorem B5V{x:NoteT}(h:At m p x):At m (p.add 1) x.Num:=by obtain⟨_,⟨_,_,_,_,rfl,_,_,_,_⟩,c⟩:=h;exact⟨_,rfl,c.cut 1⟩
theorem A1f{x:NoteT}(h:At m p x):At m (p.add 2) x.Clock:=by obtain⟨_,⟨_,_,_,_,rfl,_,_,_,_⟩,c⟩:=h;exact⟨_,rfl,c.cut 2⟩
theorem A1a{x:NoteT}(h:At m p x):At m (p.add 3) x.Day:=by obtain⟨_,⟨_,_,_,_,rfl,_,_,_,_⟩,c⟩:=h;exact⟨_,rfl,c.cut 3⟩
theorem A2o{x:NoteT}(h:At m p x):At m (p.add 4) x.Kind:=by obtain⟨_,⟨_,_,_,_,rfl,_,_,_,_⟩,c⟩:=h;exact⟨_,rfl,c.cut 4⟩
theorem T6{x:NoteT}(h:At m p x):At m (p.add 5) x.Station:=by obtain⟨_,⟨_,_,_,_,rfl,_,_,_,_⟩,c⟩:=h;exact⟨_,rfl,c.cut 5⟩
theorem A0y{x:NoteT}(h:At m p x):At m (p.add 6) x.Week:=by obtain⟨_,⟨_,_,_,_,rfl,_,_,_,_⟩,c⟩:=h;exact⟨_,rfl,c.cut 6⟩
theorem A1g{x:NoteT}(h:At m p x):At m (p.add 7) x.Sheet:=by obtain⟨_,⟨_,_,_,_,rfl,h0,h1,h2,h3⟩,c⟩:=h;exact⟨_,⟨_,_,_,_,rfl,h0,h1,h2,h3⟩,c.cut 7⟩
theorem O2{x:NoteT}(h:At m p x):At m (p.add 25) x.Mark:=by obtain⟨_,⟨_,_,_,_,rfl,_,_,_,_⟩,c⟩:=h;exact⟨_,rfl,c.cut 25⟩
theorem T7{x:NoteT}(h:At m p x):At m (p.add 28) x.Read:=by obtain⟨_,⟨_,_,_,_,rfl,_,_,_,_⟩,c⟩:=h;exact⟨_,rfl,c.cut 28⟩
theorem A1y{x:NoteT}(h:At m p x):At m (p.add 33) x.Height:=by obtain⟨_,⟨_,_,_,_,rfl,_,_,_,_⟩,c⟩:=h;exact⟨_,rfl,c.cut 33⟩
theorem D9{x:NoteT}(h:At m p x):At m (p.add 36) x.Ref:=by obtain⟨_,⟨_,_,_,_,rfl,_,_,_,_⟩,c⟩:=h;exact⟨_,rfl,c.cut 36⟩
structure WeekT where
 Base:BaseT
 Week:Int
 Sheets:List FiledT
 Reads:List ReadT
 deriving DecidableEq,Inhabited
instance:Enc WeekT where
 sz:=9
 pos:=by decide
 rd m vs x:=∃v0 v1 v2:Value,vs=[v0,J x.Base.Wind.Fixed,J x.Base.Wind.Each,J x.Base.Term,J x.Base.Ticks,J x.Base.Clerks,J x.Week,v1,v2]∧Sl m v0 x.Base.Stations∧Sl m v1 x.Sheets∧Sl m v2 x.Reads
 len h:=by obtain⟨v0,v1,v2,rfl,h0,h1,h2⟩:=h;rfl
 mono hm h:=by obtain⟨v0,v1,v2,hv,h0,h1,h2⟩:=h;exact⟨v0,v1,v2,hv,h0.mono hm,h1.mono hm,h2.mono hm⟩
 one h:=by
  obtain⟨v0,v1,v2,rfl,h0,h1,h2⟩:=h
  intro u hu
  simp at hu
  rcases hu with rfl|rfl|rfl|rfl|rfl|rfl|rfl|rfl|rfl <;> first|rfl|exact h0.one|exact h1.one|exact h2.one
theorem K6{x:WeekT}(h:At m p x):At m (p.add 0) x.Base:=by obtain⟨_,⟨_,_,_,rfl,h0,_,_⟩,c⟩:=h;exact⟨_,⟨_,rfl,h0⟩,c.cut 0⟩
theorem A2w{x:WeekT}(h:At m p x):At m (p.add 6) x.Week:=by obtain⟨_,⟨_,_,_,rfl,_,_,_⟩,c⟩:=h;exact⟨_,rfl,c.cut 6⟩
theorem N0{x:WeekT}(h:At m p x):At m (p.add 7) x.Sheets:=by obtain⟨_,⟨_,_,_,rfl,_,h1,_⟩,c⟩:=h;exact⟨_,⟨_,rfl,h1⟩,c.cut 7⟩
theorem A2j{x:WeekT}(h:At m p x):At m (p.add 8) x.Reads:=by obtain⟨_,⟨_,_,_,rfl,_,_,h2⟩,c⟩:=h;exact⟨_,⟨_,rfl,h2⟩,c.cut 8⟩
structure RegT where
 Sheets:List FiledT
 Reads:List ReadT
 Stations:List Station
 Conflicts:List NName
 deriving DecidableEq,Inhabited
instance:Enc RegT where
 sz:=4
 pos:=by decide
 rd m vs x:=∃v0 v1 v2 v3:Value,vs=[v0,v1,v2,v3]∧Sl m v0 x.Sheets∧Sl m v1 x.Reads∧Sl m v2 x.Stations∧Sl m v3 x.Conflicts
 len h:=by obtain⟨v0,v1,v2,v3,rfl,h0,h1,h2,h3⟩:=h;rfl
 mono hm h:=by obtain⟨v0,v1,v2,v3,hv,h0,h1,h2,h3⟩:=h;exact⟨v0,v1,v2,v3,hv,h0.mono hm,h1.mono hm,h2.mono hm,h3.mono hm⟩
 one h:=by
  obtain⟨v0,v1,v2,v3,rfl,h0,h1,h2,h3⟩:=h
  intro u hu
  simp at hu
  rcases hu with rfl|rfl|rfl|rfl <;> first|rfl|exact h0.one|exact h1.one|exact h2.one|exact h3.one
theorem A0Z{x:RegT}(h:At m p x):At m (p.add 0) x.Sheets:=by obtain⟨_,⟨_,_,_,_,rfl,h0,_,_,_⟩,c⟩:=h;exact⟨_,⟨_,rfl,h0⟩,c.cut 0⟩
theorem A7m{x:RegT}(h:At m p x):At m (p.add 1) x.Reads:=by obtain⟨_,⟨_,_,_,_,rfl,_,h1,_,_⟩,c⟩:=h;exact⟨_,⟨_,rfl,h1⟩,c.cut 1⟩
theorem A4O{x:RegT}(h:At m p x):At m (p.add 2) x.Stations:=by obtain⟨_,⟨_,_,_,_,rfl,_,_,h2,_⟩,c⟩:=h;exact⟨_,⟨_,rfl,h2⟩,c.cut 2⟩
theorem B7w{x:RegT}(h:At m p x):At m (p.add 3) x.Conflicts:=by obtain⟨_,⟨_,_,_,_,rfl,_,_,_,h3⟩,c⟩:=h;exact⟨_,⟨_,rfl,h3⟩,c.cut 3⟩
theorem G9(fs:Array Field)(h:prog.underlying 23=some (.struct fs))(w:World):(fs.mapM fun f=>do pure (f.offset,←sizeOf f.type):Sem _).run prog w= .ok #[(0,1),(1,1)] w:=by
 rw[underlying23]at h;cases h;simp[sizeOf3]
theorem C4z:prog.eqGuardType prog.depth 23=false:=by kernel_rfl
theorem C8h:prog.underlying 23=some (.struct (prog.fieldsOf 23)):=by simp only[Program.fieldsOf,underlying23]
theorem C7Q:prog.stoodInHeld 23=false:=by kernel_rfl
theorem C8c:prog.eqGuardType prog.depth 25=false:=by kernel_rfl
theorem C7K:prog.underlying 25=some (.struct (prog.fieldsOf 25)):=by simp only[Program.fieldsOf,underlying25]
theorem C7O:prog.stoodInHeld 25=false:=by kernel_rfl
theorem C5x:SlT prog 26 102 3 24 (.agg #[J 0,J 0,J 0]):=⟨underlying26,⟨t102,M1 typeInfo102,rfl,rfl,rfl⟩,rfl,by decide⟩
theorem K8:SlT prog 27 3 1 8 (J 0):=⟨underlying27,⟨t3,M1 typeInfo3,rfl,rfl,rfl⟩,rfl,by decide⟩
theorem P9:SlT prog 28 23 2 16 (.agg #[J 0,J 0]):=⟨underlying28,⟨t23,M1 typeInfo23,rfl,rfl,rfl⟩,rfl,by decide⟩
theorem C5w:SlT prog 29 108 3 24 (.agg #[J 0,J 0,J 0]):=⟨underlying29,⟨t108,M1 typeInfo108,rfl,rfl,rfl⟩,rfl,by decide⟩
theorem B3V(fs:Array Field)(h:prog.underlying 31=some (.struct fs))(w:World):(fs.mapM fun f=>do pure (f.offset,←sizeOf f.type):Sem _).run prog w= .ok #[(0,1),(1,1)] w:=by
 rw[underlying31]at h;cases h;simp[sizeOf28,sizeOf29]
theorem C1r(fs:Array Field)(h:prog.underlying 33=some (.struct fs))(w:World):(fs.mapM fun f=>do pure (f.offset,←sizeOf f.type):Sem _).run prog w= .ok #[(0,1),(1,2),(3,1)] w:=by
 rw[underlying33]at h;cases h;simp[sizeOf3,sizeOf23]
theorem C8r:prog.eqGuardType prog.depth 33=false:=by kernel_rfl
theorem C8k:prog.underlying 33=some (.struct (prog.fieldsOf 33)):=by simp only[Program.fieldsOf,underlying33]
theorem C7N:prog.stoodInHeld 33=false:=by kernel_rfl
theorem A7h:SlT prog 47 128 4 48 (.agg #[J 0,J 0,J 0,.slice none 0 0]):=⟨underlying47,⟨t128,M1 typeInfo128,rfl,rfl,rfl⟩,rfl,by decide⟩
theorem C4B:SlT prog 52 200 38 368 (.agg #[J 0,J 0,J 0,J 0,J 0,J 0,J 0,J 0,J 0,J 0,J 0,J 0,J 0,J 0,J 0,J 0,J 0,.slice none 0 0,.slice none 0 0,.slice none 0 0,.slice none 0 0,J 0,J 0,J 0,J 0,J 0,J 0,J 0,J 0,J 0,J 0,J 0,J 0,J 0,J 0,J 0,J 0,J 0]):=⟨underlying52,⟨t200,M1 typeInfo200,rfl,rfl,rfl⟩,rfl,by decide⟩
theorem B6C:SlT prog 54 76 24 288 (.agg #[J 0,J 0,J 0,J 0,J 0,J 0,J 0,J 0,J 0,J 0,J 0,J 0,J 0,J 0,.slice none 0 0,.slice none 0 0,.slice none 0 0,.slice none 0 0,J 0,J 0,J 0,J 0,.slice none 0 0,.slice none 0 0]):=⟨underlying54,⟨t76,M1 typeInfo76,rfl,rfl,rfl⟩,rfl,by decide⟩
theorem B0K:SlT prog 55 196 5 40 (.agg #[J 0,J 0,J 0,J 0,J 0]):=⟨underlying55,⟨t196,M1 typeInfo196,rfl,rfl,rfl⟩,rfl,by decide⟩
theorem A5r:SlT prog 56 73 2 16 (.agg #[J 0,J 0]):=⟨underlying56,⟨t73,M1 typeInfo73,rfl,rfl,rfl⟩,rfl,by decide⟩
theorem A4A(fs:Array Field)(h:prog.underlying 58=some (.struct fs))(w:World):(fs.mapM fun f=>do pure (f.offset,←sizeOf f.type):Sem _).run prog w= .ok #[(0,1),(1,1),(2,1),(3,1)] w:=by
 rw[underlying58]at h;cases h;simp[sizeOf47,sizeOf54,sizeOf55,sizeOf56]
theorem A0A(fs:Array Field)(h:prog.underlying 60=some (.struct fs))(w:World):(fs.mapM fun f=>do pure (f.offset,←sizeOf f.type):Sem _).run prog w= .ok #[(0,6),(6,1),(7,1),(8,1)] w:=by
 rw[underlying60]at h;cases h;simp[sizeOf3,sizeOf51,sizeOf54,sizeOf55]
theorem C0X:SlT prog 67 28 1 24 (.slice none 0 0):=⟨underlying67,⟨t28,M1 typeInfo28,rfl,rfl,rfl⟩,rfl,by decide⟩
theorem C0y(fs:Array Field)(h:prog.underlying 73=some (.struct fs))(w:World):(fs.mapM fun f=>do pure (f.offset,←sizeOf f.type):Sem _).run prog w= .ok #[(0,1),(1,1)] w:=by
 rw[underlying73]at h;cases h;simp[sizeOf3]
theorem C5i:prog.eqGuardType prog.depth 73=false:=by kernel_rfl
theorem C7T:prog.underlying 73=some (.struct (prog.fieldsOf 73)):=by simp only[Program.fieldsOf,underlying73]
theorem C7Z:prog.stoodInHeld 73=false:=by kernel_rfl
theorem B2E:SlT prog 74 98 3 24 (.agg #[J 0,J 0,J 0]):=⟨underlying74,⟨t98,M1 typeInfo98,rfl,rfl,rfl⟩,rfl,by decide⟩
theorem B3d(fs:Array Field)(h:prog.underlying 76=some (.struct fs))(w:World):(fs.mapM fun f=>do pure (f.offset,←sizeOf f.type):Sem _).run prog w= .ok #[(0,2),(2,1),(3,1),(4,18),(22,1),(23,1)] w:=by
 rw[underlying76]at h;cases h;simp[sizeOf3,sizeOf35,sizeOf56,sizeOf73,sizeOf74]
theorem C5j:SlT prog 89 92 1 24 (.slice none 0 0):=⟨underlying89,⟨t92,M1 typeInfo92,rfl,rfl,rfl⟩,rfl,by decide⟩
theorem C8q:SlT prog 92 5 1 1 (.int .u8 0):=⟨underlying92,⟨t5,M1 typeInfo5,rfl,rfl,rfl⟩,rfl,by decide⟩
theorem C1b(fs:Array Field)(h:prog.underlying 98=some (.struct fs))(w:World):(fs.mapM fun f=>do pure (f.offset,←sizeOf f.type):Sem _).run prog w= .ok #[(0,1),(1,2)] w:=by
 rw[underlying98]at h;cases h;simp[sizeOf3,sizeOf23]
theorem C7V:prog.eqGuardType prog.depth 98=false:=by kernel_rfl
theorem C7W:prog.underlying 98=some (.struct (prog.fieldsOf 98)):=by simp only[Program.fieldsOf,underlying98]
theorem C7X:prog.stoodInHeld 98=false:=by kernel_rfl
theorem C7o:prog.eqGuardType prog.depth 102=false:=by kernel_rfl
theorem C7B:prog.underlying 102=some (.struct (prog.fieldsOf 102)):=by simp only[Program.fieldsOf,underlying102]
theorem C6A:prog.stoodInHeld 102=false:=by kernel_rfl
theorem A3t(fs:Array Field)(h:prog.underlying 104=some (.struct fs))(w:World):(fs.mapM fun f=>do pure (f.offset,←sizeOf f.type):Sem _).run prog w= .ok #[(0,1)] w:=by
 rw[underlying104]at h;cases h;simp[sizeOf67]
theorem C6K:prog.eqGuardType prog.depth 108=false:=by kernel_rfl
theorem C6I:prog.underlying 108=some (.struct (prog.fieldsOf 108)):=by simp only[Program.fieldsOf,underlying108]
theorem C7t:prog.stoodInHeld 108=false:=by kernel_rfl
theorem B8a(fs:Array Field)(h:prog.underlying 113=some (.struct fs))(w:World):(fs.mapM fun f=>do pure (f.offset,←sizeOf f.type):Sem _).run prog w= .ok #[(0,4)] w:=by
 rw[underlying113]at h;cases h;simp[sizeOf33]
theorem A4N:SlT prog 126 198 3 24 (.agg #[J 0,J 0,J 0]):=⟨underlying126,⟨t198,M1 typeInfo198,rfl,rfl,rfl⟩,rfl,by decide⟩
theorem A7e(fs:Array Field)(h:prog.underlying 128=some (.struct fs))(w:World):(fs.mapM fun f=>do pure (f.offset,←sizeOf f.type):Sem _).run prog w= .ok #[(0,1),(1,1),(2,1),(3,1)] w:=by
 rw[underlying128]at h;cases h;simp[sizeOf3,sizeOf126]
theorem B2f:SlT prog 131 231 3 24 (.agg #[J 0,J 0,J 0]):=⟨underlying131,⟨t231,M1 typeInfo231,rfl,rfl,rfl⟩,rfl,by decide⟩
theorem C2t:SlT prog 157 160 64 64 (.agg #[.int .u8 0,.int .u8 0,.int .u8 0,.int .u8 0,.int .u8 0,.int .u8 0,.int .u8 0,.int .u8 0,.int .u8 0,.int .u8 0,.int .u8 0,.int .u8 0,.int .u8 0,.int .u8 0,.int .u8 0,.int .u8 0,.int .u8 0,.int .u8 0,.int .u8 0,.int .u8 0,.int .u8 0,.int .u8 0,.int .u8 0,.int .u8 0,.int .u8 0,.int .u8 0,.int .u8 0,.int .u8 0,.int .u8 0,.int .u8 0,.int .u8 0,.int .u8 0,.int .u8 0,.int .u8 0,.int .u8 0,.int .u8 0,.int .u8 0,.int .u8 0,.int .u8 0,.int .u8 0,.int .u8 0,.int .u8 0,.int .u8 0,.int .u8 0,.int .u8 0,.int .u8 0,.int .u8 0,.int .u8 0,.int .u8 0,.int .u8 0,.int .u8 0,.int .u8 0,.int .u8 0,.int .u8 0,.int .u8 0,.int .u8 0,.int .u8 0,.int .u8 0,.int .u8 0,.int .u8 0,.int .u8 0,.int .u8 0,.int .u8 0,.int .u8 0]):=⟨underlying157,⟨t160,M1 typeInfo160,rfl,rfl,rfl⟩,rfl,by decide⟩
theorem A3i(fs:Array Field)(h:prog.underlying 172=some (.struct fs))(w:World):(fs.mapM fun f=>do pure (f.offset,←sizeOf f.type):Sem _).run prog w= .ok #[(0,1),(1,1)] w:=by
 rw[underlying172]at h;cases h;simp[sizeOf3]
theorem A3r(fs:Array Field)(h:prog.underlying 174=some (.struct fs))(w:World):(fs.mapM fun f=>do pure (f.offset,←sizeOf f.type):Sem _).run prog w= .ok #[(0,1),(1,1)] w:=by
 rw[underlying174]at h;cases h;simp[sizeOf28]
theorem B1K(fs:Array Field)(h:prog.underlying 179=some (.struct fs))(w:World):(fs.mapM fun f=>do pure (f.offset,←sizeOf f.type):Sem _).run prog w= .ok #[(0,10)] w:=by
 rw[underlying179]at h;cases h;simp[sizeOf25]
theorem C7v:SlT prog 182 186 2 32 (.agg #[.slice none 0 0,.bool false]):=⟨underlying182,⟨t186,M1 typeInfo186,rfl,rfl,rfl⟩,rfl,by decide⟩
theorem C7h:SlT prog 187 184 1 24 (.agg #[.slice none 0 0]):=⟨underlying187,⟨t184,M1 typeInfo184,rfl,rfl,rfl⟩,rfl,by decide⟩
theorem C7d:prog.eqGuardType prog.depth 196=false:=by kernel_rfl
theorem C6H:prog.underlying 196=some (.struct (prog.fieldsOf 196)):=by simp only[Program.fieldsOf,underlying196]
theorem C6Y:prog.stoodInHeld 196=false:=by kernel_rfl
theorem C6F:prog.eqGuardType prog.depth 198=false:=by kernel_rfl
theorem C6C:prog.underlying 198=some (.struct (prog.fieldsOf 198)):=by simp only[Program.fieldsOf,underlying198]
theorem C7C:prog.stoodInHeld 198=false:=by kernel_rfl
theorem B7H(fs:Array Field)(h:prog.underlying 200=some (.struct fs))(w:World):(fs.mapM fun f=>do pure (f.offset,←sizeOf f.type):Sem _).run prog w= .ok #[(0,1),(1,1),(2,1),(3,1),(4,1),(5,1),(6,1),(7,18),(25,3),(28,5),(33,3),(36,2)] w:=by
 rw[underlying200]at h;cases h;simp[sizeOf3,sizeOf35,sizeOf73,sizeOf98,sizeOf196,sizeOf198]
theorem C2l:SlT prog 225 172 2 16 (.agg #[J 0,J 0]):=⟨underlying225,⟨t172,M1 typeInfo172,rfl,rfl,rfl⟩,rfl,by decide⟩
theorem B1R(fs:Array Field)(h:prog.underlying 231=some (.struct fs))(w:World):(fs.mapM fun f=>do pure (f.offset,←sizeOf f.type):Sem _).run prog w= .ok #[(0,1),(1,1),(2,1)] w:=by
 rw[underlying231]at h;cases h;simp[sizeOf3]
theorem C6x:SlT prog 278 52 1 24 (.slice none 0 0):=⟨underlying278,⟨t52,M1 typeInfo52,rfl,rfl,rfl⟩,rfl,by decide⟩
theorem A3N(d:Nat)(a b:Span)(w:World):(Op.equalIn (d+2) 23 (.agg (Flat.enc a).toArray) (.agg (Flat.enc b).toArray)).run prog w= .ok (decide (a=b)) w:=by
 obtain⟨x0,x1⟩:=a
 obtain⟨y0,y1⟩:=b
 simp only[Flat.enc,run_equalIn_agg w (d+1) 23 _ _ C8h C7Q,Program.fieldsOf,underlying23]
 simp[Op.eqFields,part,sizeOf3,isAgg3,run_equalIn_int _ _ _ _ _ _ _ underlying3]
 repeat' split
 all_goals simp_all
theorem B6V(d:Nat)(a b:NName)(w:World):(Op.equalIn (d+2) 73 (.agg (Flat.enc a).toArray) (.agg (Flat.enc b).toArray)).run prog w= .ok (decide (a=b)) w:=by
 obtain⟨x0,x1⟩:=a
 obtain⟨y0,y1⟩:=b
 simp only[Flat.enc,run_equalIn_agg w (d+1) 73 _ _ C7T C7Z,Program.fieldsOf,underlying73]
 simp[Op.eqFields,part,sizeOf3,isAgg3,run_equalIn_int _ _ _ _ _ _ _ underlying3]
 repeat' split
 all_goals simp_all
theorem C6v(d:Nat)(a b:Point)(w:World):(Op.equalIn (d+2) 102 (.agg (Flat.enc a).toArray) (.agg (Flat.enc b).toArray)).run prog w= .ok (decide (a=b)) w:=by
 obtain⟨x0,x1,x2⟩:=a
 obtain⟨y0,y1,y2⟩:=b
 simp only[Flat.enc,run_equalIn_agg w (d+1) 102 _ _ C7B C6A,Program.fieldsOf,underlying102]
 simp[Op.eqFields,part,sizeOf3,isAgg3,run_equalIn_int _ _ _ _ _ _ _ underlying3]
 repeat' split
 all_goals simp_all
theorem C6X(d:Nat)(a b:Paper)(w:World):(Op.equalIn (d+3) 25 (.agg (Flat.enc a).toArray) (.agg (Flat.enc b).toArray)).run prog w= .ok (decide (a=b)) w:=by
 obtain⟨x0,x1,x2,x3,x4,x5,x6,x7⟩:=a
 obtain⟨y0,y1,y2,y3,y4,y5,y6,y7⟩:=b
 have h6:=fun w=>A3N (d+0) x6 y6 w
 simp only[Flat.enc]at h6
 have h7:=fun w=>A3N (d+0) x7 y7 w
 simp only[Flat.enc]at h7
 simp only[Flat.enc,run_equalIn_agg w (d+2) 25 _ _ C7K C7O,Program.fieldsOf,underlying25]
 simp[Op.eqFields,part,sizeOf3,sizeOf23,isAgg3,isAgg23,h6,h7,run_equalIn_int _ _ _ _ _ _ _ underlying3]
 repeat' split
 all_goals simp_all
theorem C6T(d:Nat)(a b:Pen)(w:World):(Op.equalIn (d+3) 33 (.agg (Flat.enc a).toArray) (.agg (Flat.enc b).toArray)).run prog w= .ok (decide (a=b)) w:=by
 obtain⟨x0,x1,x2⟩:=a
 obtain⟨y0,y1,y2⟩:=b
 have h1:=fun w=>A3N (d+0) x1 y1 w
 simp only[Flat.enc]at h1
 simp only[Flat.enc,run_equalIn_agg w (d+2) 33 _ _ C8k C7N,Program.fieldsOf,underlying33]
 simp[Op.eqFields,part,sizeOf3,sizeOf23,isAgg3,isAgg23,h1,run_equalIn_int _ _ _ _ _ _ _ underlying3]
 repeat' split
 all_goals simp_all
theorem C6Q(d:Nat)(a b:Mark)(w:World):(Op.equalIn (d+3) 98 (.agg (Flat.enc a).toArray) (.agg (Flat.enc b).toArray)).run prog w= .ok (decide (a=b)) w:=by
 obtain⟨x0,x1⟩:=a
 obtain⟨y0,y1⟩:=b
 have h1:=fun w=>A3N (d+0) x1 y1 w
 simp only[Flat.enc]at h1
 simp only[Flat.enc,run_equalIn_agg w (d+2) 98 _ _ C7W C7X,Program.fieldsOf,underlying98]
 simp[Op.eqFields,part,sizeOf3,sizeOf23,isAgg3,isAgg23,h1,run_equalIn_int _ _ _ _ _ _ _ underlying3]
 repeat' split
 all_goals simp_all
theorem C5D(d:Nat)(a b:Stp)(w:World):(Op.equalIn (d+3) 108 (.agg (Flat.enc a).toArray) (.agg (Flat.enc b).toArray)).run prog w= .ok (decide (a=b)) w:=by
 obtain⟨x0,x1⟩:=a
 obtain⟨y0,y1⟩:=b
 have h1:=fun w=>A3N (d+0) x1 y1 w
 simp only[Flat.enc]at h1
 simp only[Flat.enc,run_equalIn_agg w (d+2) 108 _ _ C6I C7t,Program.fieldsOf,underlying108]
 simp[Op.eqFields,part,sizeOf3,sizeOf23,isAgg3,isAgg23,h1,run_equalIn_int _ _ _ _ _ _ _ underlying3]
 repeat' split
 all_goals simp_all
theorem C6h(d:Nat)(a b:ReadT)(w:World):(Op.equalIn (d+3) 196 (.agg (Flat.enc a).toArray) (.agg (Flat.enc b).toArray)).run prog w= .ok (decide (a=b)) w:=by
 obtain⟨x0,x1,x2,x3⟩:=a
 obtain⟨y0,y1,y2,y3⟩:=b
 have h3:=fun w=>A3N (d+0) x3 y3 w
 simp only[Flat.enc]at h3
 simp only[Flat.enc,run_equalIn_agg w (d+2) 196 _ _ C6H C6Y,Program.fieldsOf,underlying196]
 simp[Op.eqFields,part,sizeOf3,sizeOf23,isAgg3,isAgg23,h3,run_equalIn_int _ _ _ _ _ _ _ underlying3]
 repeat' split
 all_goals simp_all
theorem C6r(d:Nat)(a b:Height)(w:World):(Op.equalIn (d+3) 198 (.agg (Flat.enc a).toArray) (.agg (Flat.enc b).toArray)).run prog w= .ok (decide (a=b)) w:=by
 obtain⟨x0,x1⟩:=a
 obtain⟨y0,y1⟩:=b
 have h1:=fun w=>A3N (d+0) x1 y1 w
 simp only[Flat.enc]at h1
 simp only[Flat.enc,run_equalIn_agg w (d+2) 198 _ _ C6C C7C,Program.fieldsOf,underlying198]
 simp[Op.eqFields,part,sizeOf3,sizeOf23,isAgg3,isAgg23,h1,run_equalIn_int _ _ _ _ _ _ _ underlying3]
 repeat' split
 all_goals simp_all
end Go.Proofs.T10
