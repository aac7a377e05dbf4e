import Derived.Test.YtooomcigmleneaaGreatT10Pen
import Derived.Test.YtooomcigmleneaaGreatKxJ
import Derived.Test.YtooomcigmleneaaGreatKxP
import Derived.Test.YtooomcigmleneaaGreatProg
import Derived.KernelRfl
set_option linter.all false
namespace Go.Proofs.T10
open Tryz
open Go Go.Kx
variable{m:Mem}{p:Addr}
structure Span where
 Lo:Int
 Hi:Int
 deriving DecidableEq,Inhabited
instance:Flat Span:=⟨2,by decide,fun x=>[J x.Lo,J x.Hi],fun _=>rfl,fun x v hv=>by simp at hv;rcases hv with rfl|rfl <;> rfl⟩
instance:Enc Span:=G1 Span
instance:FlatEnc Span:=⟨rfl,fun _ _=>rfl⟩
theorem Z0{x:Span}(h:At m p x):At m (p.add 0) x.Lo:=h.fl 0 rfl rfl
theorem W3{x:Span}(h:At m p x):At m (p.add 1) x.Hi:=h.fl 1 rfl rfl
structure Paper where
 Pitch:Int
 Height:Int
 Radius:Int
 Low:Int
 High:Int
 Columns:Int
 Along:Span
 Across:Span
 deriving DecidableEq,Inhabited
instance:Flat Paper:=⟨10,by decide,fun x=>[J x.Pitch,J x.Height,J x.Radius,J x.Low,J x.High,J x.Columns,J x.Along.Lo,J x.Along.Hi,J x.Across.Lo,J x.Across.Hi],fun _=>rfl,fun x v hv=>by simp at hv;rcases hv with rfl|rfl|rfl|rfl|rfl|rfl|rfl|rfl|rfl|rfl <;> rfl⟩
instance:Enc Paper:=G1 Paper
instance:FlatEnc Paper:=⟨rfl,fun _ _=>rfl⟩
theorem A5R{x:Paper}(h:At m p x):At m (p.add 0) x.Pitch:=h.fl 0 rfl rfl
theorem B6J{x:Paper}(h:At m p x):At m (p.add 1) x.Height:=h.fl 1 rfl rfl
theorem Y7{x:Paper}(h:At m p x):At m (p.add 5) x.Columns:=h.fl 5 rfl rfl
structure Stp where
 Column:Int
 Ticks:Span
 deriving DecidableEq,Inhabited
instance:Flat Stp:=⟨3,by decide,fun x=>[J x.Column,J x.Ticks.Lo,J x.Ticks.Hi],fun _=>rfl,fun x v hv=>by simp at hv;rcases hv with rfl|rfl|rfl <;> rfl⟩
instance:Enc Stp:=G1 Stp
instance:FlatEnc Stp:=⟨rfl,fun _ _=>rfl⟩
theorem B2Q{x:Stp}(h:At m p x):At m (p.add 0) x.Column:=h.fl 0 rfl rfl
theorem A6t{x:Stp}(h:At m p x):At m (p.add 1) x.Ticks:=h.fl 1 rfl rfl
structure Mark where
 Column:Int
 Ticks:Span
 deriving DecidableEq,Inhabited
instance:Flat Mark:=⟨3,by decide,fun x=>[J x.Column,J x.Ticks.Lo,J x.Ticks.Hi],fun _=>rfl,fun x v hv=>by simp at hv;rcases hv with rfl|rfl|rfl <;> rfl⟩
instance:Enc Mark:=G1 Mark
instance:FlatEnc Mark:=⟨rfl,fun _ _=>rfl⟩
theorem B9c{x:Mark}(h:At m p x):At m (p.add 0) x.Column:=h.fl 0 rfl rfl
theorem B8J{x:Mark}(h:At m p x):At m (p.add 1) x.Ticks:=h.fl 1 rfl rfl
structure Point where
 X:Int
 Y:Int
 Half:Int
 deriving DecidableEq,Inhabited
instance:Flat Point:=⟨3,by decide,fun x=>[J x.X,J x.Y,J x.Half],fun _=>rfl,fun x v hv=>by simp at hv;rcases hv with rfl|rfl|rfl <;> rfl⟩
instance:Enc Point:=G1 Point
instance:FlatEnc Point:=⟨rfl,fun _ _=>rfl⟩
theorem B7f{x:Point}(h:At m p x):At m (p.add 2) x.Half:=h.fl 2 rfl rfl
structure Pen where
 Band:Int
 Zero:Span
 Rate:Int
 deriving DecidableEq,Inhabited
instance:Flat Pen:=⟨4,by decide,fun x=>[J x.Band,J x.Zero.Lo,J x.Zero.Hi,J x.Rate],fun _=>rfl,fun x v hv=>by simp at hv;rcases hv with rfl|rfl|rfl|rfl <;> rfl⟩
instance:Enc Pen:=G1 Pen
instance:FlatEnc Pen:=⟨rfl,fun _ _=>rfl⟩
theorem A6B{x:Pen}(h:At m p x):At m (p.add 0) x.Band:=h.fl 0 rfl rfl
theorem A4D{x:Pen}(h:At m p x):At m (p.add 1) x.Zero:=h.fl 1 rfl rfl
theorem B4a{x:Pen}(h:At m p x):At m (p.add 3) x.Rate:=h.fl 3 rfl rfl
structure Drum where
 Rates:List Span
 Stops:List Stp
 deriving DecidableEq,Inhabited
instance:Enc Drum where
 sz:=2
 pos:=by decide
 rd m vs x:=∃v0 v1:Value,vs=[v0,v1]∧Sl m v0 x.Rates∧Sl m v1 x.Stops
 len h:=by obtain⟨v0,v1,rfl,h0,h1⟩:=h;rfl
 mono hm h:=by obtain⟨v0,v1,hv,h0,h1⟩:=h;exact⟨v0,v1,hv,h0.mono hm,h1.mono hm⟩
 one h:=by
  obtain⟨v0,v1,rfl,h0,h1⟩:=h
  intro u hu
  simp at hu
  rcases hu with rfl|rfl <;> first|rfl|exact h0.one|exact h1.one
theorem R9{x:Drum}(h:At m p x):At m (p.add 0) x.Rates:=by obtain⟨_,⟨_,_,rfl,h0,_⟩,c⟩:=h;exact⟨_,⟨_,rfl,h0⟩,c.cut 0⟩
theorem P3{x:Drum}(h:At m p x):At m (p.add 1) x.Stops:=by obtain⟨_,⟨_,_,rfl,_,h1⟩,c⟩:=h;exact⟨_,⟨_,rfl,h1⟩,c.cut 1⟩
structure Sheet where
 Paper:Paper
 Trace:List Point
 Blots:List Int
 Drum:Drum
 Pen:Pen
 deriving DecidableEq,Inhabited
instance:Enc Sheet where
 sz:=18
 pos:=by decide
 rd m vs x:=∃v0 v1 v2 v3:Value,vs=[J x.Paper.Pitch,J x.Paper.Height,J x.Paper.Radius,J x.Paper.Low,J x.Paper.High,J x.Paper.Columns,J x.Paper.Along.Lo,J x.Paper.Along.Hi,J x.Paper.Across.Lo,J x.Paper.Across.Hi,v0,v1,v2,v3,J x.Pen.Band,J x.Pen.Zero.Lo,J x.Pen.Zero.Hi,J x.Pen.Rate]∧Sl m v0 x.Trace∧Sl m v1 x.Blots∧Sl m v2 x.Drum.Rates∧Sl m v3 x.Drum.Stops
 len h:=by obtain⟨v0,v1,v2,v3,rfl,h0,h1,h2,h3⟩:=h;rfl
 mono hm h:=by obtain⟨v0,v1,v2,v3,hv,h0,h1,h2,h3⟩:=h;exact⟨v0,v1,v2,v3,hv,h0.mono hm,h1.mono hm,h2.mono hm,h3.mono hm⟩
 one h:=by
  obtain⟨v0,v1,v2,v3,rfl,h0,h1,h2,h3⟩:=h
  intro u hu
  simp at hu
  rcases hu with rfl|rfl|rfl|rfl|rfl|rfl|rfl|rfl|rfl|rfl|rfl|rfl|rfl|rfl|rfl|rfl|rfl|rfl <;> first|rfl|exact h0.one|exact h1.one|exact h2.one|exact h3.one
theorem Q2{x:Sheet}(h:At m p x):At m (p.add 0) x.Paper:=by obtain⟨_,⟨_,_,_,_,rfl,_,_,_,_⟩,c⟩:=h;exact⟨_,rfl,c.cut 0⟩
theorem Z9{x:Sheet}(h:At m p x):At m (p.add 10) x.Trace:=by obtain⟨_,⟨_,_,_,_,rfl,h0,_,_,_⟩,c⟩:=h;exact⟨_,⟨_,rfl,h0⟩,c.cut 10⟩
theorem A0I{x:Sheet}(h:At m p x):At m (p.add 11) x.Blots:=by obtain⟨_,⟨_,_,_,_,rfl,_,h1,_,_⟩,c⟩:=h;exact⟨_,⟨_,rfl,h1⟩,c.cut 11⟩
theorem F9{x:Sheet}(h:At m p x):At m (p.add 12) x.Drum:=by obtain⟨_,⟨_,_,_,_,rfl,_,_,h2,h3⟩,c⟩:=h;exact⟨_,⟨_,_,rfl,h2,h3⟩,c.cut 12⟩
theorem J9{x:Sheet}(h:At m p x):At m (p.add 14) x.Pen:=by obtain⟨_,⟨_,_,_,_,rfl,_,_,_,_⟩,c⟩:=h;exact⟨_,rfl,c.cut 14⟩
structure Course where
 Zero:Int
 Ticks:List Int
 Shown:List Int
 Levels:List Int
 deriving DecidableEq,Inhabited
instance:Enc Course where
 sz:=4
 pos:=by decide
 rd m vs x:=∃v0 v1 v2:Value,vs=[J x.Zero,v0,v1,v2]∧Sl m v0 x.Ticks∧Sl m v1 x.Shown∧Sl m v2 x.Levels
 len h:=by obtain⟨v0,v1,v2,rfl,h0,h1,h2⟩:=h;rfl
 mono hm h:=by obtain⟨v0,v1,v2,hv,h0,h1,h2⟩:=h;exact⟨v0,v1,v2,hv,h0.mono hm,h1.mono hm,h2.mono hm⟩
 one h:=by
  obtain⟨v0,v1,v2,rfl,h0,h1,h2⟩:=h
  intro u hu
  simp at hu
  rcases hu with rfl|rfl|rfl|rfl <;> first|rfl|exact h0.one|exact h1.one|exact h2.one
theorem A1N{x:Course}(h:At m p x):At m (p.add 0) x.Zero:=by obtain⟨_,⟨_,_,_,rfl,_,_,_⟩,c⟩:=h;exact⟨_,rfl,c.cut 0⟩
theorem K3{x:Course}(h:At m p x):At m (p.add 1) x.Ticks:=by obtain⟨_,⟨_,_,_,rfl,h0,_,_⟩,c⟩:=h;exact⟨_,⟨_,rfl,h0⟩,c.cut 1⟩
theorem T9{x:Course}(h:At m p x):At m (p.add 2) x.Shown:=by obtain⟨_,⟨_,_,_,rfl,_,h1,_⟩,c⟩:=h;exact⟨_,⟨_,rfl,h1⟩,c.cut 2⟩
theorem J1{x:Course}(h:At m p x):At m (p.add 3) x.Levels:=by obtain⟨_,⟨_,_,_,rfl,_,_,h2⟩,c⟩:=h;exact⟨_,⟨_,rfl,h2⟩,c.cut 3⟩
structure Inked where
 Columns:List (List Span)
 deriving DecidableEq,Inhabited
instance:Enc Inked where
 sz:=1
 pos:=by decide
 rd m vs x:=∃v0:Value,vs=[v0]∧Sl m v0 x.Columns
 len h:=by obtain⟨v0,rfl,h0⟩:=h;rfl
 mono hm h:=by obtain⟨v0,hv,h0⟩:=h;exact⟨v0,hv,h0.mono hm⟩
 one h:=by
  obtain⟨v0,rfl,h0⟩:=h
  intro u hu
  simp at hu
  rcases hu with rfl <;> first|rfl|exact h0.one
structure Moment where
 Shown:Int
 Real:Int
 deriving DecidableEq,Inhabited
instance:Flat Moment:=⟨2,by decide,fun x=>[J x.Shown,J x.Real],fun _=>rfl,fun x v hv=>by simp at hv;rcases hv with rfl|rfl <;> rfl⟩
instance:Enc Moment:=G1 Moment
instance:FlatEnc Moment:=⟨rfl,fun _ _=>rfl⟩
theorem B4N{x:Moment}(h:At m p x):At m (p.add 0) x.Shown:=h.fl 0 rfl rfl
theorem B4Q{x:Moment}(h:At m p x):At m (p.add 1) x.Real:=h.fl 1 rfl rfl
structure Clk where
 gaps:List Span
 at_:List Span
 deriving DecidableEq,Inhabited
instance:Enc Clk where
 sz:=2
 pos:=by decide
 rd m vs x:=∃v0 v1:Value,vs=[v0,v1]∧Sl m v0 x.gaps∧Sl m v1 x.at_
 len h:=by obtain⟨v0,v1,rfl,h0,h1⟩:=h;rfl
 mono hm h:=by obtain⟨v0,v1,hv,h0,h1⟩:=h;exact⟨v0,v1,hv,h0.mono hm,h1.mono hm⟩
 one h:=by
  obtain⟨v0,v1,rfl,h0,h1⟩:=h
  intro u hu
  simp at hu
  rcases hu with rfl|rfl <;> first|rfl|exact h0.one|exact h1.one
structure Height where
 Week:Int
 Metres:Span
 deriving DecidableEq,Inhabited
instance:Flat Height:=⟨3,by decide,fun x=>[J x.Week,J x.Metres.Lo,J x.Metres.Hi],fun _=>rfl,fun x v hv=>by simp at hv;rcases hv with rfl|rfl|rfl <;> rfl⟩
instance:Enc Height:=G1 Height
instance:FlatEnc Height:=⟨rfl,fun _ _=>rfl⟩
theorem A3g{x:Height}(h:At m p x):At m (p.add 0) x.Week:=h.fl 0 rfl rfl
theorem A5r{x:Height}(h:At m p x):At m (p.add 1) x.Metres:=h.fl 1 rfl rfl
structure Station where
 ID:Int
 X:Int
 Y:Int
 Heights:List Height
 deriving DecidableEq,Inhabited
instance:Enc Station where
 sz:=4
 pos:=by decide
 rd m vs x:=∃v0:Value,vs=[J x.ID,J x.X,J x.Y,v0]∧Sl m v0 x.Heights
 len h:=by obtain⟨v0,rfl,h0⟩:=h;rfl
 mono hm h:=by obtain⟨v0,hv,h0⟩:=h;exact⟨v0,hv,h0.mono hm⟩
 one h:=by
  obtain⟨v0,rfl,h0⟩:=h
  intro u hu
  simp at hu
  rcases hu with rfl|rfl|rfl|rfl <;> first|rfl|exact h0.one
theorem B2C{x:Station}(h:At m p x):At m (p.add 0) x.ID:=by obtain⟨_,⟨_,rfl,_⟩,c⟩:=h;exact⟨_,rfl,c.cut 0⟩
theorem A7r{x:Station}(h:At m p x):At m (p.add 3) x.Heights:=by obtain⟨_,⟨_,rfl,h0⟩,c⟩:=h;exact⟨_,⟨_,rfl,h0⟩,c.cut 3⟩
structure Wind where
 Fixed:Int
 Each:Int
 deriving DecidableEq,Inhabited
instance:Flat Wind:=⟨2,by decide,fun x=>[J x.Fixed,J x.Each],fun _=>rfl,fun x v hv=>by simp at hv;rcases hv with rfl|rfl <;> rfl⟩
instance:Enc Wind:=G1 Wind
instance:FlatEnc Wind:=⟨rfl,fun _ _=>rfl⟩
structure NName where
 Clerk:Int
 Num:Int
 deriving DecidableEq,Inhabited
instance:Flat NName:=⟨2,by decide,fun x=>[J x.Clerk,J x.Num],fun _=>rfl,fun x v hv=>by simp at hv;rcases hv with rfl|rfl <;> rfl⟩
instance:Enc NName:=G1 NName
instance:FlatEnc NName:=⟨rfl,fun _ _=>rfl⟩
theorem B0i{x:NName}(h:At m p x):At m (p.add 0) x.Clerk:=h.fl 0 rfl rfl
theorem A9F{x:NName}(h:At m p x):At m (p.add 1) x.Num:=h.fl 1 rfl rfl
structure ReadT where
 Station:Int
 Week:Int
 Tick:Int
 Levels:Span
 deriving DecidableEq,Inhabited
instance:Flat ReadT:=⟨5,by decide,fun x=>[J x.Station,J x.Week,J x.Tick,J x.Levels.Lo,J x.Levels.Hi],fun _=>rfl,fun x v hv=>by simp at hv;rcases hv with rfl|rfl|rfl|rfl|rfl <;> rfl⟩
instance:Enc ReadT:=G1 ReadT
instance:FlatEnc ReadT:=⟨rfl,fun _ _=>rfl⟩
theorem A1C{x:ReadT}(h:At m p x):At m (p.add 0) x.Station:=h.fl 0 rfl rfl
theorem A9T{x:ReadT}(h:At m p x):At m (p.add 1) x.Week:=h.fl 1 rfl rfl
theorem A3V{x:ReadT}(h:At m p x):At m (p.add 2) x.Tick:=h.fl 2 rfl rfl
theorem A3U{x:ReadT}(h:At m p x):At m (p.add 3) x.Levels:=h.fl 3 rfl rfl
structure ClaimT where
 Kind:Int
 Sheet:Int
 Index:Int
 deriving DecidableEq,Inhabited
instance:Flat ClaimT:=⟨3,by decide,fun x=>[J x.Kind,J x.Sheet,J x.Index],fun _=>rfl,fun x v hv=>by simp at hv;rcases hv with rfl|rfl|rfl <;> rfl⟩
instance:Enc ClaimT:=G1 ClaimT
instance:FlatEnc ClaimT:=⟨rfl,fun _ _=>rfl⟩
structure BaseT where
 Stations:List Station
 Wind:Wind
 Term:Int
 Ticks:Int
 Clerks:Int
 deriving DecidableEq,Inhabited
instance:Enc BaseT where
 sz:=6
 pos:=by decide
 rd m vs x:=∃v0:Value,vs=[v0,J x.Wind.Fixed,J x.Wind.Each,J x.Term,J x.Ticks,J x.Clerks]∧Sl m v0 x.Stations
 len h:=by obtain⟨v0,rfl,h0⟩:=h;rfl
 mono hm h:=by obtain⟨v0,hv,h0⟩:=h;exact⟨v0,hv,h0.mono hm⟩
 one h:=by
  obtain⟨v0,rfl,h0⟩:=h
  intro u hu
  simp at hu
  rcases hu with rfl|rfl|rfl|rfl|rfl|rfl <;> first|rfl|exact h0.one
theorem N3{x:BaseT}(h:At m p x):At m (p.add 0) x.Stations:=by obtain⟨_,⟨_,rfl,h0⟩,c⟩:=h;exact⟨_,⟨_,rfl,h0⟩,c.cut 0⟩
theorem A4i{x:BaseT}(h:At m p x):At m (p.add 1) x.Wind:=by obtain⟨_,⟨_,rfl,_⟩,c⟩:=h;exact⟨_,rfl,c.cut 1⟩
theorem A1E{x:BaseT}(h:At m p x):At m (p.add 3) x.Term:=by obtain⟨_,⟨_,rfl,_⟩,c⟩:=h;exact⟨_,rfl,c.cut 3⟩
theorem W2{x:BaseT}(h:At m p x):At m (p.add 4) x.Ticks:=by obtain⟨_,⟨_,rfl,_⟩,c⟩:=h;exact⟨_,rfl,c.cut 4⟩
theorem B7d{x:BaseT}(h:At m p x):At m (p.add 5) x.Clerks:=by obtain⟨_,⟨_,rfl,_⟩,c⟩:=h;exact⟨_,rfl,c.cut 5⟩
structure FiledT where
 Name:NName
 Station:Int
 Week:Int
 Sheet:Sheet
 Marks:List Mark
 Names:List NName
 deriving DecidableEq,Inhabited
instance:Enc FiledT where
 sz:=24
 pos:=by decide
 rd m vs x:=∃v0 v1 v2 v3 v4 v5:Value,vs=[J x.Name.Clerk,J x.Name.Num,J x.Station,J x.Week,J x.Sheet.Paper.Pitch,J x.Sheet.Paper.Height,J x.Sheet.Paper.Radius,J x.Sheet.Paper.Low,J x.Sheet.Paper.High,J x.Sheet.Paper.Columns,J x.Sheet.Paper.Along.Lo,J x.Sheet.Paper.Along.Hi,J x.Sheet.Paper.Across.Lo,J x.Sheet.Paper.Across.Hi,v0,v1,v2,v3,J x.Sheet.Pen.Band,J x.Sheet.Pen.Zero.Lo,J x.Sheet.Pen.Zero.Hi,J x.Sheet.Pen.Rate,v4,v5]∧Sl m v0 x.Sheet.Trace∧Sl m v1 x.Sheet.Blots∧Sl m v2 x.Sheet.Drum.Rates∧Sl m v3 x.Sheet.Drum.Stops∧Sl m v4 x.Marks∧Sl m v5 x.Names
 len h:=by obtain⟨v0,v1,v2,v3,v4,v5,rfl,h0,h1,h2,h3,h4,h5⟩:=h;rfl
 mono hm h:=by obtain⟨v0,v1,v2,v3,v4,v5,hv,h0,h1,h2,h3,h4,h5⟩:=h;exact⟨v0,v1,v2,v3,v4,v5,hv,h0.mono hm,h1.mono hm,h2.mono hm,h3.mono hm,h4.mono hm,h5.mono hm⟩
 one h:=by
  obtain⟨v0,v1,v2,v3,v4,v5,rfl,h0,h1,h2,h3,h4,h5⟩:=h
  intro u hu
  simp at hu
  rcases hu with rfl|rfl|rfl|rfl|rfl|rfl|rfl|rfl|rfl|rfl|rfl|rfl|rfl|rfl|rfl|rfl|rfl|rfl|rfl|rfl|rfl|rfl|rfl|rfl <;> first|rfl|exact h0.one|exact h1.one|exact h2.one|exact h3.one|exact h4.one|exact h5.one
theorem P7{x:FiledT}(h:At m p x):At m (p.add 2) x.Station:=by obtain⟨_,⟨_,_,_,_,_,_,rfl,_,_,_,_,_,_⟩,c⟩:=h;exact⟨_,rfl,c.cut 2⟩
theorem A8g{x:FiledT}(h:At m p x):At m (p.add 3) x.Week:=by obtain⟨_,⟨_,_,_,_,_,_,rfl,_,_,_,_,_,_⟩,c⟩:=h;exact⟨_,rfl,c.cut 3⟩
theorem A3j{x:FiledT}(h:At m p x):At m (p.add 4) x.Sheet:=by obtain⟨_,⟨_,_,_,_,_,_,rfl,h0,h1,h2,h3,_,_⟩,c⟩:=h;exact⟨_,⟨_,_,_,_,rfl,h0,h1,h2,h3⟩,c.cut 4⟩
theorem A1M{x:FiledT}(h:At m p x):At m (p.add 22) x.Marks:=by obtain⟨_,⟨_,_,_,_,_,_,rfl,_,_,_,_,h4,_⟩,c⟩:=h;exact⟨_,⟨_,rfl,h4⟩,c.cut 22⟩
theorem B4G{x:FiledT}(h:At m p x):At m (p.add 23) x.Names:=by obtain⟨_,⟨_,_,_,_,_,_,rfl,_,_,_,_,_,h5⟩,c⟩:=h;exact⟨_,⟨_,rfl,h5⟩,c.cut 23⟩
structure NoteT where
 Clerk:Int
 Num:Int
 Clock:Int
 Day:Int
 Kind:Int
 Station:Int
 Week:Int
 Sheet:Sheet
 Mark:Mark
 Read:ReadT
 Height:Height
 Ref:NName
 deriving DecidableEq,Inhabited
instance:Enc NoteT where
 sz:=38
 pos:=by decide
 rd m vs x:=∃v0 v1 v2 v3:Value,vs=[J x.Clerk,J x.Num,J x.Clock,J x.Day,J x.Kind,J x.Station,J x.Week,J x.Sheet.Paper.Pitch,J x.Sheet.Paper.Height,J x.Sheet.Paper.Radius,J x.Sheet.Paper.Low,J x.Sheet.Paper.High,J x.Sheet.Paper.Columns,J x.Sheet.Paper.Along.Lo,J x.Sheet.Paper.Along.Hi,J x.Sheet.Paper.Across.Lo,J x.Sheet.Paper.Across.Hi,v0,v1,v2,v3,J x.Sheet.Pen.Band,J x.Sheet.Pen.Zero.Lo,J x.Sheet.Pen.Zero.Hi,J x.Sheet.Pen.Rate,J x.Mark.Column,J x.Mark.Ticks.Lo,J x.Mark.Ticks.Hi,J x.Read.Station,J x.Read.Week,J x.Read.Tick,J x.Read.Levels.Lo,J x.Read.Levels.Hi,J x.Height.Week,J x.Height.Metres.Lo,J x.Height.Metres.Hi,J x.Ref.Clerk,J x.Ref.Num]∧Sl m v0 x.Sheet.Trace∧Sl m v1 x.Sheet.Blots∧Sl m v2 x.Sheet.Drum.Rates∧Sl m v3 x.Sheet.Drum.Stops
 len h:=by obtain⟨v0,v1,v2,v3,rfl,h0,h1,h2,h3⟩:=h;rfl
 mono hm h:=by obtain⟨v0,v1,v2,v3,hv,h0,h1,h2,h3⟩:=h;exact⟨v0,v1,v2,v3,hv,h0.mono hm,h1.mono hm,h2.mono hm,h3.mono hm⟩
 one h:=by
  obtain⟨v0,v1,v2,v3,rfl,h0,h1,h2,h3⟩:=h
  intro u hu
  simp at hu
  rcases hu with rfl|rfl|rfl|rfl|rfl|rfl|rfl|rfl|rfl|rfl|rfl|rfl|rfl|rfl|rfl|rfl|rfl|rfl|rfl|rfl|rfl|rfl|rfl|rfl|rfl|rfl|rfl|rfl|rfl|rfl|rfl|rfl|rfl|rfl|rfl|rfl|rfl|rfl <;> first|rfl|exact h0.one|exact h1.one|exact h2.one|exact h3.one
theorem B7h{x:NoteT}(h:At m p x):At m (p.add 0) x.Clerk:=by obtain⟨_,⟨_,_,_,_,rfl,_,_,_,_⟩,c⟩:=h;exact⟨_,rfl,c.cut 0⟩
theorem B6L{x:NoteT}(h:At m p x):At m (p.add 1) x.Num:=by obtain⟨_,⟨_,_,_,_,rfl,_,_,_,_⟩,c⟩:=h;exact⟨_,rfl,c.cut 1⟩
theorem A1t{x:NoteT}(h:At m p x):At m (p.add 2) x.Clock:=by obtain⟨_,⟨_,_,_,_,rfl,_,_,_,_⟩,c⟩:=h;exact⟨_,rfl,c.cut 2⟩
theorem A1y{x:NoteT}(h:At m p x):At m (p.add 3) x.Day:=by obtain⟨_,⟨_,_,_,_,rfl,_,_,_,_⟩,c⟩:=h;exact⟨_,rfl,c.cut 3⟩
theorem A2L{x:NoteT}(h:At m p x):At m (p.add 4) x.Kind:=by obtain⟨_,⟨_,_,_,_,rfl,_,_,_,_⟩,c⟩:=h;exact⟨_,rfl,c.cut 4⟩
theorem U0{x:NoteT}(h:At m p x):At m (p.add 5) x.Station:=by obtain⟨_,⟨_,_,_,_,rfl,_,_,_,_⟩,c⟩:=h;exact⟨_,rfl,c.cut 5⟩
theorem A0H{x:NoteT}(h:At m p x):At m (p.add 6) x.Week:=by obtain⟨_,⟨_,_,_,_,rfl,_,_,_,_⟩,c⟩:=h;exact⟨_,rfl,c.cut 6⟩
theorem A1v{x:NoteT}(h:At m p x):At m (p.add 7) x.Sheet:=by obtain⟨_,⟨_,_,_,_,rfl,h0,h1,h2,h3⟩,c⟩:=h;exact⟨_,⟨_,_,_,_,rfl,h0,h1,h2,h3⟩,c.cut 7⟩
theorem O3{x:NoteT}(h:At m p x):At m (p.add 25) x.Mark:=by obtain⟨_,⟨_,_,_,_,rfl,_,_,_,_⟩,c⟩:=h;exact⟨_,rfl,c.cut 25⟩
theorem U1{x:NoteT}(h:At m p x):At m (p.add 28) x.Read:=by obtain⟨_,⟨_,_,_,_,rfl,_,_,_,_⟩,c⟩:=h;exact⟨_,rfl,c.cut 28⟩
theorem A1Q{x:NoteT}(h:At m p x):At m (p.add 33) x.Height:=by obtain⟨_,⟨_,_,_,_,rfl,_,_,_,_⟩,c⟩:=h;exact⟨_,rfl,c.cut 33⟩
theorem D8{x:NoteT}(h:At m p x):At m (p.add 36) x.Ref:=by obtain⟨_,⟨_,_,_,_,rfl,_,_,_,_⟩,c⟩:=h;exact⟨_,rfl,c.cut 36⟩
structure WeekT where
 Base:BaseT
 Week:Int
 Sheets:List FiledT
 Reads:List ReadT
 deriving DecidableEq,Inhabited
instance:Enc WeekT where
 sz:=9
 pos:=by decide
 rd m vs x:=∃v0 v1 v2:Value,vs=[v0,J x.Base.Wind.Fixed,J x.Base.Wind.Each,J x.Base.Term,J x.Base.Ticks,J x.Base.Clerks,J x.Week,v1,v2]∧Sl m v0 x.Base.Stations∧Sl m v1 x.Sheets∧Sl m v2 x.Reads
 len h:=by obtain⟨v0,v1,v2,rfl,h0,h1,h2⟩:=h;rfl
 mono hm h:=by obtain⟨v0,v1,v2,hv,h0,h1,h2⟩:=h;exact⟨v0,v1,v2,hv,h0.mono hm,h1.mono hm,h2.mono hm⟩
 one h:=by
  obtain⟨v0,v1,v2,rfl,h0,h1,h2⟩:=h
  intro u hu
  simp at hu
  rcases hu with rfl|rfl|rfl|rfl|rfl|rfl|rfl|rfl|rfl <;> first|rfl|exact h0.one|exact h1.one|exact h2.one
theorem K9{x:WeekT}(h:At m p x):At m (p.add 0) x.Base:=by obtain⟨_,⟨_,_,_,rfl,h0,_,_⟩,c⟩:=h;exact⟨_,⟨_,rfl,h0⟩,c.cut 0⟩
theorem A2O{x:WeekT}(h:At m p x):At m (p.add 6) x.Week:=by obtain⟨_,⟨_,_,_,rfl,_,_,_⟩,c⟩:=h;exact⟨_,rfl,c.cut 6⟩
theorem N1{x:WeekT}(h:At m p x):At m (p.add 7) x.Sheets:=by obtain⟨_,⟨_,_,_,rfl,_,h1,_⟩,c⟩:=h;exact⟨_,⟨_,rfl,h1⟩,c.cut 7⟩
theorem A2x{x:WeekT}(h:At m p x):At m (p.add 8) x.Reads:=by obtain⟨_,⟨_,_,_,rfl,_,_,h2⟩,c⟩:=h;exact⟨_,⟨_,rfl,h2⟩,c.cut 8⟩
structure RegT where
 Sheets:List FiledT
 Reads:List ReadT
 Stations:List Station
 Conflicts:List NName
 deriving DecidableEq,Inhabited
instance:Enc RegT where
 sz:=4
 pos:=by decide
 rd m vs x:=∃v0 v1 v2 v3:Value,vs=[v0,v1,v2,v3]∧Sl m v0 x.Sheets∧Sl m v1 x.Reads∧Sl m v2 x.Stations∧Sl m v3 x.Conflicts
 len h:=by obtain⟨v0,v1,v2,v3,rfl,h0,h1,h2,h3⟩:=h;rfl
 mono hm h:=by obtain⟨v0,v1,v2,v3,hv,h0,h1,h2,h3⟩:=h;exact⟨v0,v1,v2,v3,hv,h0.mono hm,h1.mono hm,h2.mono hm,h3.mono hm⟩
 one h:=by
  obtain⟨v0,v1,v2,v3,rfl,h0,h1,h2,h3⟩:=h
  intro u hu
  simp at hu
  rcases hu with rfl|rfl|rfl|rfl <;> first|rfl|exact h0.one|exact h1.one|exact h2.one|exact h3.one
theorem A1h{x:RegT}(h:At m p x):At m (p.add 0) x.Sheets:=by obtain⟨_,⟨_,_,_,_,rfl,h0,_,_,_⟩,c⟩:=h;exact⟨_,⟨_,rfl,h0⟩,c.cut 0⟩
theorem A7j{x:RegT}(h:At m p x):At m (p.add 1) x.Reads:=by obtain⟨_,⟨_,_,_,_,rfl,_,h1,_,_⟩,c⟩:=h;exact⟨_,⟨_,rfl,h1⟩,c.cut 1⟩
theorem A5a{x:RegT}(h:At m p x):At m (p.add 2) x.Stations:=by obtain⟨_,⟨_,_,_,_,rfl,_,_,h2,_⟩,c⟩:=h;exact⟨_,⟨_,rfl,h2⟩,c.cut 2⟩
theorem B7R{x:RegT}(h:At m p x):At m (p.add 3) x.Conflicts:=by obtain⟨_,⟨_,_,_,_,rfl,_,_,_,h3⟩,c⟩:=h;exact⟨_,⟨_,rfl,h3⟩,c.cut 3⟩
theorem H3(fs:Array Field)(h:prog.underlying 23=some (.struct fs))(w:World):(fs.mapM fun f=>do pure (f.offset,←sizeOf f.type):Sem _).run prog w= .ok #[(0,1),(1,1)] w:=by
 rw[underlying23]at h;cases h;simp[sizeOf3]
theorem C5G:prog.eqGuardType prog.depth 23=false:=by kernel_rfl
theorem C8q:prog.underlying 23=some (.struct (prog.fieldsOf 23)):=by simp only[Program.fieldsOf,underlying23]
theorem C8t:prog.stoodInHeld 23=false:=by kernel_rfl
theorem C8A:prog.eqGuardType prog.depth 25=false:=by kernel_rfl
theorem C8o:prog.underlying 25=some (.struct (prog.fieldsOf 25)):=by simp only[Program.fieldsOf,underlying25]
theorem C8D:prog.stoodInHeld 25=false:=by kernel_rfl
theorem C4Z:SlT prog 26 102 3 24 (.agg #[J 0,J 0,J 0]):=⟨underlying26,⟨t102,L7 typeInfo102,rfl,rfl,rfl⟩,rfl,by decide⟩
theorem L6:SlT prog 27 3 1 8 (J 0):=⟨underlying27,⟨t3,L7 typeInfo3,rfl,rfl,rfl⟩,rfl,by decide⟩
theorem Q7:SlT prog 28 23 2 16 (.agg #[J 0,J 0]):=⟨underlying28,⟨t23,L7 typeInfo23,rfl,rfl,rfl⟩,rfl,by decide⟩
theorem C5e:SlT prog 29 108 3 24 (.agg #[J 0,J 0,J 0]):=⟨underlying29,⟨t108,L7 typeInfo108,rfl,rfl,rfl⟩,rfl,by decide⟩
theorem B4i(fs:Array Field)(h:prog.underlying 31=some (.struct fs))(w:World):(fs.mapM fun f=>do pure (f.offset,←sizeOf f.type):Sem _).run prog w= .ok #[(0,1),(1,1)] w:=by
 rw[underlying31]at h;cases h;simp[sizeOf28,sizeOf29]
theorem C2r(fs:Array Field)(h:prog.underlying 33=some (.struct fs))(w:World):(fs.mapM fun f=>do pure (f.offset,←sizeOf f.type):Sem _).run prog w= .ok #[(0,1),(1,2),(3,1)] w:=by
 rw[underlying33]at h;cases h;simp[sizeOf3,sizeOf23]
theorem C8u:prog.eqGuardType prog.depth 33=false:=by kernel_rfl
theorem C8z:prog.underlying 33=some (.struct (prog.fieldsOf 33)):=by simp only[Program.fieldsOf,underlying33]
theorem C8F:prog.stoodInHeld 33=false:=by kernel_rfl
theorem A6R:SlT prog 47 128 4 48 (.agg #[J 0,J 0,J 0,.slice none 0 0]):=⟨underlying47,⟨t128,L7 typeInfo128,rfl,rfl,rfl⟩,rfl,by decide⟩
theorem C5l:SlT prog 52 200 38 368 (.agg #[J 0,J 0,J 0,J 0,J 0,J 0,J 0,J 0,J 0,J 0,J 0,J 0,J 0,J 0,J 0,J 0,J 0,.slice none 0 0,.slice none 0 0,.slice none 0 0,.slice none 0 0,J 0,J 0,J 0,J 0,J 0,J 0,J 0,J 0,J 0,J 0,J 0,J 0,J 0,J 0,J 0,J 0,J 0]):=⟨underlying52,⟨t200,L7 typeInfo200,rfl,rfl,rfl⟩,rfl,by decide⟩
theorem A7e:SlT prog 53 37 4 80 (.agg #[J 0,.slice none 0 0,.slice none 0 0,.slice none 0 0]):=⟨underlying53,⟨t37,L7 typeInfo37,rfl,rfl,rfl⟩,rfl,by decide⟩
theorem B6B:SlT prog 54 76 24 288 (.agg #[J 0,J 0,J 0,J 0,J 0,J 0,J 0,J 0,J 0,J 0,J 0,J 0,J 0,J 0,.slice none 0 0,.slice none 0 0,.slice none 0 0,.slice none 0 0,J 0,J 0,J 0,J 0,.slice none 0 0,.slice none 0 0]):=⟨underlying54,⟨t76,L7 typeInfo76,rfl,rfl,rfl⟩,rfl,by decide⟩
theorem B0T:SlT prog 55 196 5 40 (.agg #[J 0,J 0,J 0,J 0,J 0]):=⟨underlying55,⟨t196,L7 typeInfo196,rfl,rfl,rfl⟩,rfl,by decide⟩
theorem A5j:SlT prog 56 73 2 16 (.agg #[J 0,J 0]):=⟨underlying56,⟨t73,L7 typeInfo73,rfl,rfl,rfl⟩,rfl,by decide⟩
theorem A4N(fs:Array Field)(h:prog.underlying 58=some (.struct fs))(w:World):(fs.mapM fun f=>do pure (f.offset,←sizeOf f.type):Sem _).run prog w= .ok #[(0,1),(1,1),(2,1),(3,1)] w:=by
 rw[underlying58]at h;cases h;simp[sizeOf47,sizeOf54,sizeOf55,sizeOf56]
theorem A0D(fs:Array Field)(h:prog.underlying 60=some (.struct fs))(w:World):(fs.mapM fun f=>do pure (f.offset,←sizeOf f.type):Sem _).run prog w= .ok #[(0,6),(6,1),(7,1),(8,1)] w:=by
 rw[underlying60]at h;cases h;simp[sizeOf3,sizeOf51,sizeOf54,sizeOf55]
theorem C2t:SlT prog 67 28 1 24 (.slice none 0 0):=⟨underlying67,⟨t28,L7 typeInfo28,rfl,rfl,rfl⟩,rfl,by decide⟩
theorem C1w(fs:Array Field)(h:prog.underlying 73=some (.struct fs))(w:World):(fs.mapM fun f=>do pure (f.offset,←sizeOf f.type):Sem _).run prog w= .ok #[(0,1),(1,1)] w:=by
 rw[underlying73]at h;cases h;simp[sizeOf3]
theorem C5Q:prog.eqGuardType prog.depth 73=false:=by kernel_rfl
theorem C8g:prog.underlying 73=some (.struct (prog.fieldsOf 73)):=by simp only[Program.fieldsOf,underlying73]
theorem C8E:prog.stoodInHeld 73=false:=by kernel_rfl
theorem B3x:SlT prog 74 98 3 24 (.agg #[J 0,J 0,J 0]):=⟨underlying74,⟨t98,L7 typeInfo98,rfl,rfl,rfl⟩,rfl,by decide⟩
theorem B2F(fs:Array Field)(h:prog.underlying 76=some (.struct fs))(w:World):(fs.mapM fun f=>do pure (f.offset,←sizeOf f.type):Sem _).run prog w= .ok #[(0,2),(2,1),(3,1),(4,18),(22,1),(23,1)] w:=by
 rw[underlying76]at h;cases h;simp[sizeOf3,sizeOf35,sizeOf56,sizeOf73,sizeOf74]
theorem C6E:SlT prog 89 92 1 24 (.slice none 0 0):=⟨underlying89,⟨t92,L7 typeInfo92,rfl,rfl,rfl⟩,rfl,by decide⟩
theorem C8l:SlT prog 92 5 1 1 (.int .u8 0):=⟨underlying92,⟨t5,L7 typeInfo5,rfl,rfl,rfl⟩,rfl,by decide⟩
theorem C1p(fs:Array Field)(h:prog.underlying 98=some (.struct fs))(w:World):(fs.mapM fun f=>do pure (f.offset,←sizeOf f.type):Sem _).run prog w= .ok #[(0,1),(1,2)] w:=by
 rw[underlying98]at h;cases h;simp[sizeOf3,sizeOf23]
theorem C8h:prog.eqGuardType prog.depth 98=false:=by kernel_rfl
theorem C8r:prog.underlying 98=some (.struct (prog.fieldsOf 98)):=by simp only[Program.fieldsOf,underlying98]
theorem C8M:prog.stoodInHeld 98=false:=by kernel_rfl
theorem C7d:prog.eqGuardType prog.depth 102=false:=by kernel_rfl
theorem C7t:prog.underlying 102=some (.struct (prog.fieldsOf 102)):=by simp only[Program.fieldsOf,underlying102]
theorem C7R:prog.stoodInHeld 102=false:=by kernel_rfl
theorem A3t(fs:Array Field)(h:prog.underlying 104=some (.struct fs))(w:World):(fs.mapM fun f=>do pure (f.offset,←sizeOf f.type):Sem _).run prog w= .ok #[(0,1)] w:=by
 rw[underlying104]at h;cases h;simp[sizeOf67]
theorem C7b:prog.eqGuardType prog.depth 108=false:=by kernel_rfl
theorem C7y:prog.underlying 108=some (.struct (prog.fieldsOf 108)):=by simp only[Program.fieldsOf,underlying108]
theorem C7p:prog.stoodInHeld 108=false:=by kernel_rfl
theorem B8q(fs:Array Field)(h:prog.underlying 113=some (.struct fs))(w:World):(fs.mapM fun f=>do pure (f.offset,←sizeOf f.type):Sem _).run prog w= .ok #[(0,4)] w:=by
 rw[underlying113]at h;cases h;simp[sizeOf33]
theorem A4W:SlT prog 126 198 3 24 (.agg #[J 0,J 0,J 0]):=⟨underlying126,⟨t198,L7 typeInfo198,rfl,rfl,rfl⟩,rfl,by decide⟩
theorem A7L(fs:Array Field)(h:prog.underlying 128=some (.struct fs))(w:World):(fs.mapM fun f=>do pure (f.offset,←sizeOf f.type):Sem _).run prog w= .ok #[(0,1),(1,1),(2,1),(3,1)] w:=by
 rw[underlying128]at h;cases h;simp[sizeOf3,sizeOf126]
theorem B2v:SlT prog 131 231 3 24 (.agg #[J 0,J 0,J 0]):=⟨underlying131,⟨t231,L7 typeInfo231,rfl,rfl,rfl⟩,rfl,by decide⟩
theorem C2Q:SlT prog 157 160 64 64 (.agg #[.int .u8 0,.int .u8 0,.int .u8 0,.int .u8 0,.int .u8 0,.int .u8 0,.int .u8 0,.int .u8 0,.int .u8 0,.int .u8 0,.int .u8 0,.int .u8 0,.int .u8 0,.int .u8 0,.int .u8 0,.int .u8 0,.int .u8 0,.int .u8 0,.int .u8 0,.int .u8 0,.int .u8 0,.int .u8 0,.int .u8 0,.int .u8 0,.int .u8 0,.int .u8 0,.int .u8 0,.int .u8 0,.int .u8 0,.int .u8 0,.int .u8 0,.int .u8 0,.int .u8 0,.int .u8 0,.int .u8 0,.int .u8 0,.int .u8 0,.int .u8 0,.int .u8 0,.int .u8 0,.int .u8 0,.int .u8 0,.int .u8 0,.int .u8 0,.int .u8 0,.int .u8 0,.int .u8 0,.int .u8 0,.int .u8 0,.int .u8 0,.int .u8 0,.int .u8 0,.int .u8 0,.int .u8 0,.int .u8 0,.int .u8 0,.int .u8 0,.int .u8 0,.int .u8 0,.int .u8 0,.int .u8 0,.int .u8 0,.int .u8 0,.int .u8 0]):=⟨underlying157,⟨t160,L7 typeInfo160,rfl,rfl,rfl⟩,rfl,by decide⟩
theorem A3C(fs:Array Field)(h:prog.underlying 172=some (.struct fs))(w:World):(fs.mapM fun f=>do pure (f.offset,←sizeOf f.type):Sem _).run prog w= .ok #[(0,1),(1,1)] w:=by
 rw[underlying172]at h;cases h;simp[sizeOf3]
theorem A3x(fs:Array Field)(h:prog.underlying 174=some (.struct fs))(w:World):(fs.mapM fun f=>do pure (f.offset,←sizeOf f.type):Sem _).run prog w= .ok #[(0,1),(1,1)] w:=by
 rw[underlying174]at h;cases h;simp[sizeOf28]
theorem B1K(fs:Array Field)(h:prog.underlying 179=some (.struct fs))(w:World):(fs.mapM fun f=>do pure (f.offset,←sizeOf f.type):Sem _).run prog w= .ok #[(0,10)] w:=by
 rw[underlying179]at h;cases h;simp[sizeOf25]
theorem C7u:SlT prog 182 186 2 32 (.agg #[.slice none 0 0,.bool false]):=⟨underlying182,⟨t186,L7 typeInfo186,rfl,rfl,rfl⟩,rfl,by decide⟩
theorem C6W:SlT prog 187 184 1 24 (.agg #[.slice none 0 0]):=⟨underlying187,⟨t184,L7 typeInfo184,rfl,rfl,rfl⟩,rfl,by decide⟩
theorem C7i:prog.eqGuardType prog.depth 196=false:=by kernel_rfl
theorem C7s:prog.underlying 196=some (.struct (prog.fieldsOf 196)):=by simp only[Program.fieldsOf,underlying196]
theorem C7E:prog.stoodInHeld 196=false:=by kernel_rfl
theorem C7r:prog.eqGuardType prog.depth 198=false:=by kernel_rfl
theorem C7H:prog.underlying 198=some (.struct (prog.fieldsOf 198)):=by simp only[Program.fieldsOf,underlying198]
theorem C7G:prog.stoodInHeld 198=false:=by kernel_rfl
theorem B9r(fs:Array Field)(h:prog.underlying 200=some (.struct fs))(w:World):(fs.mapM fun f=>do pure (f.offset,←sizeOf f.type):Sem _).run prog w= .ok #[(0,1),(1,1),(2,1),(3,1),(4,1),(5,1),(6,1),(7,18),(25,3),(28,5),(33,3),(36,2)] w:=by
 rw[underlying200]at h;cases h;simp[sizeOf3,sizeOf35,sizeOf73,sizeOf98,sizeOf196,sizeOf198]
theorem C2E:SlT prog 225 172 2 16 (.agg #[J 0,J 0]):=⟨underlying225,⟨t172,L7 typeInfo172,rfl,rfl,rfl⟩,rfl,by decide⟩
theorem B2b(fs:Array Field)(h:prog.underlying 231=some (.struct fs))(w:World):(fs.mapM fun f=>do pure (f.offset,←sizeOf f.type):Sem _).run prog w= .ok #[(0,1),(1,1),(2,1)] w:=by
 rw[underlying231]at h;cases h;simp[sizeOf3]
theorem C7W:SlT prog 278 52 1 24 (.slice none 0 0):=⟨underlying278,⟨t52,L7 typeInfo52,rfl,rfl,rfl⟩,rfl,by decide⟩
theorem A4j(d:Nat)(a b:Span)(w:World):(Op.equalIn (d+2) 23 (.agg (Flat.enc a).toArray) (.agg (Flat.enc b).toArray)).run prog w= .ok (decide (a=b)) w:=by
 obtain⟨x0,x1⟩:=a
 obtain⟨y0,y1⟩:=b
 simp only[Flat.enc,run_equalIn_agg w (d+1) 23 _ _ C8q C8t,Program.fieldsOf,underlying23]
 simp[Op.eqFields,part,sizeOf3,isAgg3,run_equalIn_int _ _ _ _ _ _ _ underlying3]
 repeat' split
 all_goals simp_all
theorem B6Y(d:Nat)(a b:NName)(w:World):(Op.equalIn (d+2) 73 (.agg (Flat.enc a).toArray) (.agg (Flat.enc b).toArray)).run prog w= .ok (decide (a=b)) w:=by
 obtain⟨x0,x1⟩:=a
 obtain⟨y0,y1⟩:=b
 simp only[Flat.enc,run_equalIn_agg w (d+1) 73 _ _ C8g C8E,Program.fieldsOf,underlying73]
 simp[Op.eqFields,part,sizeOf3,isAgg3,run_equalIn_int _ _ _ _ _ _ _ underlying3]
 repeat' split
 all_goals simp_all
theorem C5Y(d:Nat)(a b:Point)(w:World):(Op.equalIn (d+2) 102 (.agg (Flat.enc a).toArray) (.agg (Flat.enc b).toArray)).run prog w= .ok (decide (a=b)) w:=by
 obtain⟨x0,x1,x2⟩:=a
 obtain⟨y0,y1,y2⟩:=b
 simp only[Flat.enc,run_equalIn_agg w (d+1) 102 _ _ C7t C7R,Program.fieldsOf,underlying102]
 simp[Op.eqFields,part,sizeOf3,isAgg3,run_equalIn_int _ _ _ _ _ _ _ underlying3]
 repeat' split
 all_goals simp_all
theorem C6Q(d:Nat)(a b:Paper)(w:World):(Op.equalIn (d+3) 25 (.agg (Flat.enc a).toArray) (.agg (Flat.enc b).toArray)).run prog w= .ok (decide (a=b)) w:=by
 obtain⟨x0,x1,x2,x3,x4,x5,x6,x7⟩:=a
 obtain⟨y0,y1,y2,y3,y4,y5,y6,y7⟩:=b
 have h6:=fun w=>A4j (d+0) x6 y6 w
 simp only[Flat.enc]at h6
 have h7:=fun w=>A4j (d+0) x7 y7 w
 simp only[Flat.enc]at h7
 simp only[Flat.enc,run_equalIn_agg w (d+2) 25 _ _ C8o C8D,Program.fieldsOf,underlying25]
 simp[Op.eqFields,part,sizeOf3,sizeOf23,isAgg3,isAgg23,h6,h7,run_equalIn_int _ _ _ _ _ _ _ underlying3]
 repeat' split
 all_goals simp_all
theorem C7Q(d:Nat)(a b:Pen)(w:World):(Op.equalIn (d+3) 33 (.agg (Flat.enc a).toArray) (.agg (Flat.enc b).toArray)).run prog w= .ok (decide (a=b)) w:=by
 obtain⟨x0,x1,x2⟩:=a
 obtain⟨y0,y1,y2⟩:=b
 have h1:=fun w=>A4j (d+0) x1 y1 w
 simp only[Flat.enc]at h1
 simp only[Flat.enc,run_equalIn_agg w (d+2) 33 _ _ C8z C8F,Program.fieldsOf,underlying33]
 simp[Op.eqFields,part,sizeOf3,sizeOf23,isAgg3,isAgg23,h1,run_equalIn_int _ _ _ _ _ _ _ underlying3]
 repeat' split
 all_goals simp_all
theorem C7S(d:Nat)(a b:Mark)(w:World):(Op.equalIn (d+3) 98 (.agg (Flat.enc a).toArray) (.agg (Flat.enc b).toArray)).run prog w= .ok (decide (a=b)) w:=by
 obtain⟨x0,x1⟩:=a
 obtain⟨y0,y1⟩:=b
 have h1:=fun w=>A4j (d+0) x1 y1 w
 simp only[Flat.enc]at h1
 simp only[Flat.enc,run_equalIn_agg w (d+2) 98 _ _ C8r C8M,Program.fieldsOf,underlying98]
 simp[Op.eqFields,part,sizeOf3,sizeOf23,isAgg3,isAgg23,h1,run_equalIn_int _ _ _ _ _ _ _ underlying3]
 repeat' split
 all_goals simp_all
theorem C5z(d:Nat)(a b:Stp)(w:World):(Op.equalIn (d+3) 108 (.agg (Flat.enc a).toArray) (.agg (Flat.enc b).toArray)).run prog w= .ok (decide (a=b)) w:=by
 obtain⟨x0,x1⟩:=a
 obtain⟨y0,y1⟩:=b
 have h1:=fun w=>A4j (d+0) x1 y1 w
 simp only[Flat.enc]at h1
 simp only[Flat.enc,run_equalIn_agg w (d+2) 108 _ _ C7y C7p,Program.fieldsOf,underlying108]
 simp[Op.eqFields,part,sizeOf3,sizeOf23,isAgg3,isAgg23,h1,run_equalIn_int _ _ _ _ _ _ _ underlying3]
 repeat' split
 all_goals simp_all
theorem C6F(d:Nat)(a b:ReadT)(w:World):(Op.equalIn (d+3) 196 (.agg (Flat.enc a).toArray) (.agg (Flat.enc b).toArray)).run prog w= .ok (decide (a=b)) w:=by
 obtain⟨x0,x1,x2,x3⟩:=a
 obtain⟨y0,y1,y2,y3⟩:=b
 have h3:=fun w=>A4j (d+0) x3 y3 w
 simp only[Flat.enc]at h3
 simp only[Flat.enc,run_equalIn_agg w (d+2) 196 _ _ C7s C7E,Program.fieldsOf,underlying196]
 simp[Op.eqFields,part,sizeOf3,sizeOf23,isAgg3,isAgg23,h3,run_equalIn_int _ _ _ _ _ _ _ underlying3]
 repeat' split
 all_goals simp_all
theorem C6b(d:Nat)(a b:Height)(w:World):(Op.equalIn (d+3) 198 (.agg (Flat.enc a).toArray) (.agg (Flat.enc b).toArray)).run prog w= .ok (decide (a=b)) w:=by
 obtain⟨x0,x1⟩:=a
 obtain⟨y0,y1⟩:=b
 have h1:=fun w=>A4j (d+0) x1 y1 w
 simp only[Flat.enc]at h1
 simp only[Flat.enc,run_equalIn_agg w (d+2) 198 _ _ C7H C7G,Program.fieldsOf,underlying198]
 simp[Op.eqFields,part,sizeOf3,sizeOf23,isAgg3,isAgg23,h1,run_equalIn_int _ _ _ _ _ _ _ underlying3]
 repeat' split
 all_goals simp_all
end Go.Proofs.T10
