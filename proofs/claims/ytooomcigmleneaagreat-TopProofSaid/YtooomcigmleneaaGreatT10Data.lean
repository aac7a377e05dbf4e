import Derived.Test.YtooomcigmleneaaGreatT10Pen
import Derived.Test.YtooomcigmleneaaGreatProg
import Derived.KernelRfl
set_option linter.all false
namespace Go.Proofs.T10
open Tryz Go Go.Kx
variable{m:Mem}{p:Addr}
structure Span where
 Lo:Int
 Hi:Int
 deriving DecidableEq,Inhabited
instance:Flat Span:=⟨2,by decide,fun x=>[J x.Lo,J x.Hi],fun _=>rfl,fun x v a=>by simp at a;rcases a with rfl|rfl <;> rfl⟩
instance:Enc Span:=G8 Span
instance:FlatEnc Span:=⟨rfl,fun _ _=>rfl⟩
theorem P5{x:Span}(h:At m p x):At m (p.add 0) x.Lo:=h.fl 0 rfl rfl
theorem J7{x:Span}(h:At m p x):At m (p.add 1) x.Hi:=h.fl 1 rfl rfl
structure Paper where
 Pitch:Int
 Height:Int
 Radius:Int
 Low:Int
 High:Int
 Columns:Int
 Along:Span
 Across:Span
 deriving DecidableEq,Inhabited
instance:Flat Paper:=⟨10,by decide,fun x=>[J x.Pitch,J x.Height,J x.Radius,J x.Low,J x.High,J x.Columns,J x.Along.Lo,J x.Along.Hi,J x.Across.Lo,J x.Across.Hi],fun _=>rfl,fun x v a=>by simp at a;rcases a with rfl|rfl|rfl|rfl|rfl|rfl|rfl|rfl|rfl|rfl <;> rfl⟩
instance:Enc Paper:=G8 Paper
instance:FlatEnc Paper:=⟨rfl,fun _ _=>rfl⟩
theorem HF{x:Paper}(h:At m p x):At m (p.add 0) x.Pitch:=h.fl 0 rfl rfl
theorem A3W{x:Paper}(h:At m p x):At m (p.add 1) x.Height:=h.fl 1 rfl rfl
theorem An{x:Paper}(h:At m p x):At m (p.add 5) x.Columns:=h.fl 5 rfl rfl
structure Stp where
 Column:Int
 Ticks:Span
 deriving DecidableEq,Inhabited
instance:Flat Stp:=⟨3,by decide,fun x=>[J x.Column,J x.Ticks.Lo,J x.Ticks.Hi],fun _=>rfl,fun x v a=>by simp at a;rcases a with rfl|rfl|rfl <;> rfl⟩
instance:Enc Stp:=G8 Stp
instance:FlatEnc Stp:=⟨rfl,fun _ _=>rfl⟩
structure Mark where
 Column:Int
 Ticks:Span
 deriving DecidableEq,Inhabited
instance:Flat Mark:=⟨3,by decide,fun x=>[J x.Column,J x.Ticks.Lo,J x.Ticks.Hi],fun _=>rfl,fun x v a=>by simp at a;rcases a with rfl|rfl|rfl <;> rfl⟩
instance:Enc Mark:=G8 Mark
instance:FlatEnc Mark:=⟨rfl,fun _ _=>rfl⟩
theorem A6R{x:Mark}(h:At m p x):At m (p.add 0) x.Column:=h.fl 0 rfl rfl
theorem A4s{x:Mark}(h:At m p x):At m (p.add 1) x.Ticks:=h.fl 1 rfl rfl
structure Point where
 X:Int
 Y:Int
 Half:Int
 deriving DecidableEq,Inhabited
instance:Flat Point:=⟨3,by decide,fun x=>[J x.X,J x.Y,J x.Half],fun _=>rfl,fun x v a=>by simp at a;rcases a with rfl|rfl|rfl <;> rfl⟩
instance:Enc Point:=G8 Point
instance:FlatEnc Point:=⟨rfl,fun _ _=>rfl⟩
theorem A3B{x:Point}(h:At m p x):At m (p.add 2) x.Half:=h.fl 2 rfl rfl
structure Pen where
 Band:Int
 Zero:Span
 Rate:Int
 deriving DecidableEq,Inhabited
instance:Flat Pen:=⟨4,by decide,fun x=>[J x.Band,J x.Zero.Lo,J x.Zero.Hi,J x.Rate],fun _=>rfl,fun x v a=>by simp at a;rcases a with rfl|rfl|rfl|rfl <;> rfl⟩
instance:Enc Pen:=G8 Pen
instance:FlatEnc Pen:=⟨rfl,fun _ _=>rfl⟩
theorem W5{x:Pen}(h:At m p x):At m (p.add 0) x.Band:=h.fl 0 rfl rfl
theorem KT{x:Pen}(h:At m p x):At m (p.add 1) x.Zero:=h.fl 1 rfl rfl
theorem LY{x:Pen}(h:At m p x):At m (p.add 3) x.Rate:=h.fl 3 rfl rfl
structure Drum where
 Rates:List Span
 Stops:List Stp
 deriving DecidableEq,Inhabited
instance:Enc Drum where
 sz:=2
 pos:=by decide
 rd m vs x:=∃a b:Value,vs=[a,b]∧Sl m a x.Rates∧Sl m b x.Stops
 len h:=by obtain⟨a,b,rfl,c,d⟩:=h;rfl
 mono hm h:=by obtain⟨a,b,g,c,d⟩:=h;exact⟨a,b,g,c.mono hm,d.mono hm⟩
 one h:=by
  obtain⟨a,b,rfl,c,d⟩:=h
  intro u f
  simp at f
  rcases f with rfl|rfl <;> first|rfl|exact c.one|exact d.one
theorem Av{x:Drum}(h:At m p x):At m (p.add 0) x.Rates:=by obtain⟨_,⟨_,_,rfl,a,_⟩,c⟩:=h;exact⟨_,⟨_,rfl,a⟩,c.cut 0⟩
theorem EA{x:Drum}(h:At m p x):At m (p.add 1) x.Stops:=by obtain⟨_,⟨_,_,rfl,_,a⟩,c⟩:=h;exact⟨_,⟨_,rfl,a⟩,c.cut 1⟩
structure Sheet where
 Paper:Paper
 Trace:List Point
 Blots:List Int
 Drum:Drum
 Pen:Pen
 deriving DecidableEq,Inhabited
instance:Enc Sheet where
 sz:=18
 pos:=by decide
 rd m vs x:=∃a b c d:Value,vs=[J x.Paper.Pitch,J x.Paper.Height,J x.Paper.Radius,J x.Paper.Low,J x.Paper.High,J x.Paper.Columns,J x.Paper.Along.Lo,J x.Paper.Along.Hi,J x.Paper.Across.Lo,J x.Paper.Across.Hi,a,b,c,d,J x.Pen.Band,J x.Pen.Zero.Lo,J x.Pen.Zero.Hi,J x.Pen.Rate]∧Sl m a x.Trace∧Sl m b x.Blots∧Sl m c x.Drum.Rates∧Sl m d x.Drum.Stops
 len h:=by obtain⟨a,b,c,d,rfl,f,g,k,l⟩:=h;rfl
 mono hm h:=by obtain⟨a,b,c,d,o,f,g,k,l⟩:=h;exact⟨a,b,c,d,o,f.mono hm,g.mono hm,k.mono hm,l.mono hm⟩
 one h:=by
  obtain⟨a,b,c,d,rfl,f,g,k,l⟩:=h
  intro u n
  simp at n
  rcases n with rfl|rfl|rfl|rfl|rfl|rfl|rfl|rfl|rfl|rfl|rfl|rfl|rfl|rfl|rfl|rfl|rfl|rfl <;> first|rfl|exact f.one|exact g.one|exact k.one|exact l.one
theorem U7{x:Sheet}(h:At m p x):At m (p.add 0) x.Paper:=by obtain⟨_,⟨_,_,_,_,rfl,_,_,_,_⟩,c⟩:=h;exact⟨_,rfl,c.cut 0⟩
theorem Bc{x:Sheet}(h:At m p x):At m (p.add 10) x.Trace:=by obtain⟨_,⟨_,_,_,_,rfl,a,_,_,_⟩,c⟩:=h;exact⟨_,⟨_,rfl,a⟩,c.cut 10⟩
theorem Cg{x:Sheet}(h:At m p x):At m (p.add 11) x.Blots:=by obtain⟨_,⟨_,_,_,_,rfl,_,a,_,_⟩,c⟩:=h;exact⟨_,⟨_,rfl,a⟩,c.cut 11⟩
theorem S7{x:Sheet}(h:At m p x):At m (p.add 12) x.Drum:=by obtain⟨_,⟨_,_,_,_,rfl,_,_,a,b⟩,c⟩:=h;exact⟨_,⟨_,_,rfl,a,b⟩,c.cut 12⟩
theorem Q4{x:Sheet}(h:At m p x):At m (p.add 14) x.Pen:=by obtain⟨_,⟨_,_,_,_,rfl,_,_,_,_⟩,c⟩:=h;exact⟨_,rfl,c.cut 14⟩
structure Course where
 Zero:Int
 Ticks:List Int
 Shown:List Int
 Levels:List Int
 deriving DecidableEq,Inhabited
instance:Enc Course where
 sz:=4
 pos:=by decide
 rd m vs x:=∃a b c:Value,vs=[J x.Zero,a,b,c]∧Sl m a x.Ticks∧Sl m b x.Shown∧Sl m c x.Levels
 len h:=by obtain⟨a,b,c,rfl,d,f,g⟩:=h;rfl
 mono hm h:=by obtain⟨a,b,c,l,d,f,g⟩:=h;exact⟨a,b,c,l,d.mono hm,f.mono hm,g.mono hm⟩
 one h:=by
  obtain⟨a,b,c,rfl,d,f,g⟩:=h
  intro u k
  simp at k
  rcases k with rfl|rfl|rfl|rfl <;> first|rfl|exact d.one|exact f.one|exact g.one
structure Inked where
 Columns:List (List Span)
 deriving DecidableEq,Inhabited
instance:Enc Inked where
 sz:=1
 pos:=by decide
 rd m vs x:=∃a:Value,vs=[a]∧Sl m a x.Columns
 len h:=by obtain⟨a,rfl,b⟩:=h;rfl
 mono hm h:=by obtain⟨a,d,b⟩:=h;exact⟨a,d,b.mono hm⟩
 one h:=by
  obtain⟨a,rfl,b⟩:=h
  intro u c
  simp at c
  rcases c with rfl <;> first|rfl|exact b.one
structure Moment where
 Shown:Int
 Real:Int
 deriving DecidableEq,Inhabited
instance:Flat Moment:=⟨2,by decide,fun x=>[J x.Shown,J x.Real],fun _=>rfl,fun x v a=>by simp at a;rcases a with rfl|rfl <;> rfl⟩
instance:Enc Moment:=G8 Moment
instance:FlatEnc Moment:=⟨rfl,fun _ _=>rfl⟩
structure Clk where
 gaps:List Span
 at_:List Span
 deriving DecidableEq,Inhabited
instance:Enc Clk where
 sz:=2
 pos:=by decide
 rd m vs x:=∃a b:Value,vs=[a,b]∧Sl m a x.gaps∧Sl m b x.at_
 len h:=by obtain⟨a,b,rfl,c,d⟩:=h;rfl
 mono hm h:=by obtain⟨a,b,g,c,d⟩:=h;exact⟨a,b,g,c.mono hm,d.mono hm⟩
 one h:=by
  obtain⟨a,b,rfl,c,d⟩:=h
  intro u f
  simp at f
  rcases f with rfl|rfl <;> first|rfl|exact c.one|exact d.one
structure Height where
 Week:Int
 Metres:Span
 deriving DecidableEq,Inhabited
instance:Flat Height:=⟨3,by decide,fun x=>[J x.Week,J x.Metres.Lo,J x.Metres.Hi],fun _=>rfl,fun x v a=>by simp at a;rcases a with rfl|rfl|rfl <;> rfl⟩
instance:Enc Height:=G8 Height
instance:FlatEnc Height:=⟨rfl,fun _ _=>rfl⟩
theorem En{x:Height}(h:At m p x):At m (p.add 0) x.Week:=h.fl 0 rfl rfl
theorem A1a{x:Height}(h:At m p x):At m (p.add 1) x.Metres:=h.fl 1 rfl rfl
structure Station where
 ID:Int
 X:Int
 Y:Int
 Heights:List Height
 deriving DecidableEq,Inhabited
instance:Enc Station where
 sz:=4
 pos:=by decide
 rd m vs x:=∃a:Value,vs=[J x.ID,J x.X,J x.Y,a]∧Sl m a x.Heights
 len h:=by obtain⟨a,rfl,b⟩:=h;rfl
 mono hm h:=by obtain⟨a,d,b⟩:=h;exact⟨a,d,b.mono hm⟩
 one h:=by
  obtain⟨a,rfl,b⟩:=h
  intro u c
  simp at c
  rcases c with rfl|rfl|rfl|rfl <;> first|rfl|exact b.one
theorem RJ{x:Station}(h:At m p x):At m (p.add 0) x.ID:=by obtain⟨_,⟨_,rfl,_⟩,c⟩:=h;exact⟨_,rfl,c.cut 0⟩
theorem Jm{x:Station}(h:At m p x):At m (p.add 3) x.Heights:=by obtain⟨_,⟨_,rfl,a⟩,c⟩:=h;exact⟨_,⟨_,rfl,a⟩,c.cut 3⟩
structure Wind where
 Fixed:Int
 Each:Int
 deriving DecidableEq,Inhabited
instance:Flat Wind:=⟨2,by decide,fun x=>[J x.Fixed,J x.Each],fun _=>rfl,fun x v a=>by simp at a;rcases a with rfl|rfl <;> rfl⟩
instance:Enc Wind:=G8 Wind
instance:FlatEnc Wind:=⟨rfl,fun _ _=>rfl⟩
structure NName where
 Clerk:Int
 Num:Int
 deriving DecidableEq,Inhabited
instance:Flat NName:=⟨2,by decide,fun x=>[J x.Clerk,J x.Num],fun _=>rfl,fun x v a=>by simp at a;rcases a with rfl|rfl <;> rfl⟩
instance:Enc NName:=G8 NName
instance:FlatEnc NName:=⟨rfl,fun _ _=>rfl⟩
theorem Nu{x:NName}(h:At m p x):At m (p.add 0) x.Clerk:=h.fl 0 rfl rfl
theorem Nw{x:NName}(h:At m p x):At m (p.add 1) x.Num:=h.fl 1 rfl rfl
structure ReadT where
 Station:Int
 Week:Int
 Tick:Int
 Levels:Span
 deriving DecidableEq,Inhabited
instance:Flat ReadT:=⟨5,by decide,fun x=>[J x.Station,J x.Week,J x.Tick,J x.Levels.Lo,J x.Levels.Hi],fun _=>rfl,fun x v a=>by simp at a;rcases a with rfl|rfl|rfl|rfl|rfl <;> rfl⟩
instance:Enc ReadT:=G8 ReadT
instance:FlatEnc ReadT:=⟨rfl,fun _ _=>rfl⟩
theorem DI{x:ReadT}(h:At m p x):At m (p.add 0) x.Station:=h.fl 0 rfl rfl
theorem Nc{x:ReadT}(h:At m p x):At m (p.add 1) x.Week:=h.fl 1 rfl rfl
theorem Nb{x:ReadT}(h:At m p x):At m (p.add 2) x.Tick:=h.fl 2 rfl rfl
theorem Nq{x:ReadT}(h:At m p x):At m (p.add 3) x.Levels:=h.fl 3 rfl rfl
structure ClaimT where
 Kind:Int
 Sheet:Int
 Index:Int
 deriving DecidableEq,Inhabited
instance:Flat ClaimT:=⟨3,by decide,fun x=>[J x.Kind,J x.Sheet,J x.Index],fun _=>rfl,fun x v a=>by simp at a;rcases a with rfl|rfl|rfl <;> rfl⟩
instance:Enc ClaimT:=G8 ClaimT
instance:FlatEnc ClaimT:=⟨rfl,fun _ _=>rfl⟩
structure BaseT where
 Stations:List Station
 Wind:Wind
 Term:Int
 Ticks:Int
 Clerks:Int
 deriving DecidableEq,Inhabited
instance:Enc BaseT where
 sz:=6
 pos:=by decide
 rd m vs x:=∃a:Value,vs=[a,J x.Wind.Fixed,J x.Wind.Each,J x.Term,J x.Ticks,J x.Clerks]∧Sl m a x.Stations
 len h:=by obtain⟨a,rfl,b⟩:=h;rfl
 mono hm h:=by obtain⟨a,d,b⟩:=h;exact⟨a,d,b.mono hm⟩
 one h:=by
  obtain⟨a,rfl,b⟩:=h
  intro u c
  simp at c
  rcases c with rfl|rfl|rfl|rfl|rfl|rfl <;> first|rfl|exact b.one
theorem Y3{x:BaseT}(h:At m p x):At m (p.add 0) x.Stations:=by obtain⟨_,⟨_,rfl,a⟩,c⟩:=h;exact⟨_,⟨_,rfl,a⟩,c.cut 0⟩
theorem MU{x:BaseT}(h:At m p x):At m (p.add 1) x.Wind:=by obtain⟨_,⟨_,rfl,_⟩,c⟩:=h;exact⟨_,rfl,c.cut 1⟩
theorem MC{x:BaseT}(h:At m p x):At m (p.add 3) x.Term:=by obtain⟨_,⟨_,rfl,_⟩,c⟩:=h;exact⟨_,rfl,c.cut 3⟩
theorem Aw{x:BaseT}(h:At m p x):At m (p.add 4) x.Ticks:=by obtain⟨_,⟨_,rfl,_⟩,c⟩:=h;exact⟨_,rfl,c.cut 4⟩
theorem A3v{x:BaseT}(h:At m p x):At m (p.add 5) x.Clerks:=by obtain⟨_,⟨_,rfl,_⟩,c⟩:=h;exact⟨_,rfl,c.cut 5⟩
structure FiledT where
 Name:NName
 Station:Int
 Week:Int
 Sheet:Sheet
 Marks:List Mark
 Names:List NName
 deriving DecidableEq,Inhabited
instance:Enc FiledT where
 sz:=24
 pos:=by decide
 rd m vs x:=∃a b c d f g:Value,vs=[J x.Name.Clerk,J x.Name.Num,J x.Station,J x.Week,J x.Sheet.Paper.Pitch,J x.Sheet.Paper.Height,J x.Sheet.Paper.Radius,J x.Sheet.Paper.Low,J x.Sheet.Paper.High,J x.Sheet.Paper.Columns,J x.Sheet.Paper.Along.Lo,J x.Sheet.Paper.Along.Hi,J x.Sheet.Paper.Across.Lo,J x.Sheet.Paper.Across.Hi,a,b,c,d,J x.Sheet.Pen.Band,J x.Sheet.Pen.Zero.Lo,J x.Sheet.Pen.Zero.Hi,J x.Sheet.Pen.Rate,f,g]∧Sl m a x.Sheet.Trace∧Sl m b x.Sheet.Blots∧Sl m c x.Sheet.Drum.Rates∧Sl m d x.Sheet.Drum.Stops∧Sl m f x.Marks∧Sl m g x.Names
 len h:=by obtain⟨a,b,c,d,f,g,rfl,k,l,n,o,p,q⟩:=h;rfl
 mono hm h:=by obtain⟨a,b,c,d,f,g,s,k,l,n,o,p,q⟩:=h;exact⟨a,b,c,d,f,g,s,k.mono hm,l.mono hm,n.mono hm,o.mono hm,p.mono hm,q.mono hm⟩
 one h:=by
  obtain⟨a,b,c,d,f,g,rfl,k,l,n,o,p,q⟩:=h
  intro u r
  simp at r
  rcases r with rfl|rfl|rfl|rfl|rfl|rfl|rfl|rfl|rfl|rfl|rfl|rfl|rfl|rfl|rfl|rfl|rfl|rfl|rfl|rfl|rfl|rfl|rfl|rfl <;> first|rfl|exact k.one|exact l.one|exact n.one|exact o.one|exact p.one|exact q.one
theorem AE{x:FiledT}(h:At m p x):At m (p.add 2) x.Station:=by obtain⟨_,⟨_,_,_,_,_,_,rfl,_,_,_,_,_,_⟩,c⟩:=h;exact⟨_,rfl,c.cut 2⟩
theorem Ks{x:FiledT}(h:At m p x):At m (p.add 3) x.Week:=by obtain⟨_,⟨_,_,_,_,_,_,rfl,_,_,_,_,_,_⟩,c⟩:=h;exact⟨_,rfl,c.cut 3⟩
theorem CE{x:FiledT}(h:At m p x):At m (p.add 4) x.Sheet:=by obtain⟨_,⟨_,_,_,_,_,_,rfl,a,b,d,f,_,_⟩,c⟩:=h;exact⟨_,⟨_,_,_,_,rfl,a,b,d,f⟩,c.cut 4⟩
theorem Gw{x:FiledT}(h:At m p x):At m (p.add 22) x.Marks:=by obtain⟨_,⟨_,_,_,_,_,_,rfl,_,_,_,_,a,_⟩,c⟩:=h;exact⟨_,⟨_,rfl,a⟩,c.cut 22⟩
theorem A0U{x:FiledT}(h:At m p x):At m (p.add 23) x.Names:=by obtain⟨_,⟨_,_,_,_,_,_,rfl,_,_,_,_,_,a⟩,c⟩:=h;exact⟨_,⟨_,rfl,a⟩,c.cut 23⟩
structure NoteT where
 Clerk:Int
 Num:Int
 Clock:Int
 Day:Int
 Kind:Int
 Station:Int
 Week:Int
 Sheet:Sheet
 Mark:Mark
 Read:ReadT
 Height:Height
 Ref:NName
 deriving DecidableEq,Inhabited
instance:Enc NoteT where
 sz:=38
 pos:=by decide
 rd m vs x:=∃a b c d:Value,vs=[J x.Clerk,J x.Num,J x.Clock,J x.Day,J x.Kind,J x.Station,J x.Week,J x.Sheet.Paper.Pitch,J x.Sheet.Paper.Height,J x.Sheet.Paper.Radius,J x.Sheet.Paper.Low,J x.Sheet.Paper.High,J x.Sheet.Paper.Columns,J x.Sheet.Paper.Along.Lo,J x.Sheet.Paper.Along.Hi,J x.Sheet.Paper.Across.Lo,J x.Sheet.Paper.Across.Hi,a,b,c,d,J x.Sheet.Pen.Band,J x.Sheet.Pen.Zero.Lo,J x.Sheet.Pen.Zero.Hi,J x.Sheet.Pen.Rate,J x.Mark.Column,J x.Mark.Ticks.Lo,J x.Mark.Ticks.Hi,J x.Read.Station,J x.Read.Week,J x.Read.Tick,J x.Read.Levels.Lo,J x.Read.Levels.Hi,J x.Height.Week,J x.Height.Metres.Lo,J x.Height.Metres.Hi,J x.Ref.Clerk,J x.Ref.Num]∧Sl m a x.Sheet.Trace∧Sl m b x.Sheet.Blots∧Sl m c x.Sheet.Drum.Rates∧Sl m d x.Sheet.Drum.Stops
 len h:=by obtain⟨a,b,c,d,rfl,f,g,k,l⟩:=h;rfl
 mono hm h:=by obtain⟨a,b,c,d,o,f,g,k,l⟩:=h;exact⟨a,b,c,d,o,f.mono hm,g.mono hm,k.mono hm,l.mono hm⟩
 one h:=by
  obtain⟨a,b,c,d,rfl,f,g,k,l⟩:=h
  intro u n
  simp at n
  rcases n with rfl|rfl|rfl|rfl|rfl|rfl|rfl|rfl|rfl|rfl|rfl|rfl|rfl|rfl|rfl|rfl|rfl|rfl|rfl|rfl|rfl|rfl|rfl|rfl|rfl|rfl|rfl|rfl|rfl|rfl|rfl|rfl|rfl|rfl|rfl|rfl|rfl|rfl <;> first|rfl|exact f.one|exact g.one|exact k.one|exact l.one
theorem A2Z{x:NoteT}(h:At m p x):At m (p.add 0) x.Clerk:=by obtain⟨_,⟨_,_,_,_,rfl,_,_,_,_⟩,c⟩:=h;exact⟨_,rfl,c.cut 0⟩
theorem A3Q{x:NoteT}(h:At m p x):At m (p.add 1) x.Num:=by obtain⟨_,⟨_,_,_,_,rfl,_,_,_,_⟩,c⟩:=h;exact⟨_,rfl,c.cut 1⟩
theorem Ca{x:NoteT}(h:At m p x):At m (p.add 2) x.Clock:=by obtain⟨_,⟨_,_,_,_,rfl,_,_,_,_⟩,c⟩:=h;exact⟨_,rfl,c.cut 2⟩
theorem BY{x:NoteT}(h:At m p x):At m (p.add 3) x.Day:=by obtain⟨_,⟨_,_,_,_,rfl,_,_,_,_⟩,c⟩:=h;exact⟨_,rfl,c.cut 3⟩
theorem Dq{x:NoteT}(h:At m p x):At m (p.add 4) x.Kind:=by obtain⟨_,⟨_,_,_,_,rfl,_,_,_,_⟩,c⟩:=h;exact⟨_,rfl,c.cut 4⟩
theorem U9{x:NoteT}(h:At m p x):At m (p.add 5) x.Station:=by obtain⟨_,⟨_,_,_,_,rfl,_,_,_,_⟩,c⟩:=h;exact⟨_,rfl,c.cut 5⟩
theorem Bh{x:NoteT}(h:At m p x):At m (p.add 6) x.Week:=by obtain⟨_,⟨_,_,_,_,rfl,_,_,_,_⟩,c⟩:=h;exact⟨_,rfl,c.cut 6⟩
theorem BX{x:NoteT}(h:At m p x):At m (p.add 7) x.Sheet:=by obtain⟨_,⟨_,_,_,_,rfl,a,b,d,f⟩,c⟩:=h;exact⟨_,⟨_,_,_,_,rfl,a,b,d,f⟩,c.cut 7⟩
theorem Q1{x:NoteT}(h:At m p x):At m (p.add 25) x.Mark:=by obtain⟨_,⟨_,_,_,_,rfl,_,_,_,_⟩,c⟩:=h;exact⟨_,rfl,c.cut 25⟩
theorem V1{x:NoteT}(h:At m p x):At m (p.add 28) x.Read:=by obtain⟨_,⟨_,_,_,_,rfl,_,_,_,_⟩,c⟩:=h;exact⟨_,rfl,c.cut 28⟩
theorem CD{x:NoteT}(h:At m p x):At m (p.add 33) x.Height:=by obtain⟨_,⟨_,_,_,_,rfl,_,_,_,_⟩,c⟩:=h;exact⟨_,rfl,c.cut 33⟩
theorem F1{x:NoteT}(h:At m p x):At m (p.add 36) x.Ref:=by obtain⟨_,⟨_,_,_,_,rfl,_,_,_,_⟩,c⟩:=h;exact⟨_,rfl,c.cut 36⟩
structure WeekT where
 Base:BaseT
 Week:Int
 Sheets:List FiledT
 Reads:List ReadT
 deriving DecidableEq,Inhabited
instance:Enc WeekT where
 sz:=9
 pos:=by decide
 rd m vs x:=∃a b c:Value,vs=[a,J x.Base.Wind.Fixed,J x.Base.Wind.Each,J x.Base.Term,J x.Base.Ticks,J x.Base.Clerks,J x.Week,b,c]∧Sl m a x.Base.Stations∧Sl m b x.Sheets∧Sl m c x.Reads
 len h:=by obtain⟨a,b,c,rfl,d,f,g⟩:=h;rfl
 mono hm h:=by obtain⟨a,b,c,l,d,f,g⟩:=h;exact⟨a,b,c,l,d.mono hm,f.mono hm,g.mono hm⟩
 one h:=by
  obtain⟨a,b,c,rfl,d,f,g⟩:=h
  intro u k
  simp at k
  rcases k with rfl|rfl|rfl|rfl|rfl|rfl|rfl|rfl|rfl <;> first|rfl|exact d.one|exact f.one|exact g.one
theorem Cj{x:WeekT}(h:At m p x):At m (p.add 0) x.Base:=by obtain⟨_,⟨_,_,_,rfl,a,_,_⟩,c⟩:=h;exact⟨_,⟨_,rfl,a⟩,c.cut 0⟩
theorem Ic{x:WeekT}(h:At m p x):At m (p.add 6) x.Week:=by obtain⟨_,⟨_,_,_,rfl,_,_,_⟩,c⟩:=h;exact⟨_,rfl,c.cut 6⟩
theorem X7{x:WeekT}(h:At m p x):At m (p.add 7) x.Sheets:=by obtain⟨_,⟨_,_,_,rfl,_,a,_⟩,c⟩:=h;exact⟨_,⟨_,rfl,a⟩,c.cut 7⟩
theorem In{x:WeekT}(h:At m p x):At m (p.add 8) x.Reads:=by obtain⟨_,⟨_,_,_,rfl,_,_,a⟩,c⟩:=h;exact⟨_,⟨_,rfl,a⟩,c.cut 8⟩
structure RegT where
 Sheets:List FiledT
 Reads:List ReadT
 Stations:List Station
 Conflicts:List NName
 deriving DecidableEq,Inhabited
instance:Enc RegT where
 sz:=4
 pos:=by decide
 rd m vs x:=∃a b c d:Value,vs=[a,b,c,d]∧Sl m a x.Sheets∧Sl m b x.Reads∧Sl m c x.Stations∧Sl m d x.Conflicts
 len h:=by obtain⟨a,b,c,d,rfl,f,g,k,l⟩:=h;rfl
 mono hm h:=by obtain⟨a,b,c,d,o,f,g,k,l⟩:=h;exact⟨a,b,c,d,o,f.mono hm,g.mono hm,k.mono hm,l.mono hm⟩
 one h:=by
  obtain⟨a,b,c,d,rfl,f,g,k,l⟩:=h
  intro u n
  simp at n
  rcases n with rfl|rfl|rfl|rfl <;> first|rfl|exact f.one|exact g.one|exact k.one|exact l.one
theorem BG{x:RegT}(h:At m p x):At m (p.add 0) x.Sheets:=by obtain⟨_,⟨_,_,_,_,rfl,a,_,_,_⟩,c⟩:=h;exact⟨_,⟨_,rfl,a⟩,c.cut 0⟩
theorem IY{x:RegT}(h:At m p x):At m (p.add 1) x.Reads:=by obtain⟨_,⟨_,_,_,_,rfl,_,a,_,_⟩,c⟩:=h;exact⟨_,⟨_,rfl,a⟩,c.cut 1⟩
theorem Gi{x:RegT}(h:At m p x):At m (p.add 2) x.Stations:=by obtain⟨_,⟨_,_,_,_,rfl,_,_,a,_⟩,c⟩:=h;exact⟨_,⟨_,rfl,a⟩,c.cut 2⟩
theorem A5E{x:RegT}(h:At m p x):At m (p.add 3) x.Conflicts:=by obtain⟨_,⟨_,_,_,_,rfl,_,_,_,a⟩,c⟩:=h;exact⟨_,⟨_,rfl,a⟩,c.cut 3⟩
theorem H6(fs:Array Field)(h:prog.underlying 23=some (.struct fs))(w:World):(fs.mapM fun f=>do pure (f.offset,←sizeOf f.type):Sem _).run prog w= .ok #[(0,1),(1,1)] w:=by
 rw[underlying23]at h;cases h;simp[sizeOf3]
theorem A8c:prog.eqGuardType prog.depth 23=false:=by kernel_rfl
theorem B7o:prog.underlying 23=some (.struct (prog.fieldsOf 23)):=by simp only[Program.fieldsOf,underlying23]
theorem B7l:prog.stoodInHeld 23=false:=by kernel_rfl
theorem B7y:prog.eqGuardType prog.depth 25=false:=by kernel_rfl
theorem B7m:prog.underlying 25=some (.struct (prog.fieldsOf 25)):=by simp only[Program.fieldsOf,underlying25]
theorem B7v:prog.stoodInHeld 25=false:=by kernel_rfl
theorem B3I:SlT prog 26 102 3 24 (.agg #[J 0,J 0,J 0]):=⟨underlying26,⟨t102,M1 typeInfo102,rfl,rfl,rfl⟩,rfl,by decide⟩
theorem Y1:SlT prog 27 3 1 8 (J 0):=⟨underlying27,⟨t3,M1 typeInfo3,rfl,rfl,rfl⟩,rfl,by decide⟩
theorem K9:SlT prog 28 23 2 16 (.agg #[J 0,J 0]):=⟨underlying28,⟨t23,M1 typeInfo23,rfl,rfl,rfl⟩,rfl,by decide⟩
theorem B4C:SlT prog 29 108 3 24 (.agg #[J 0,J 0,J 0]):=⟨underlying29,⟨t108,M1 typeInfo108,rfl,rfl,rfl⟩,rfl,by decide⟩
theorem A0A(fs:Array Field)(h:prog.underlying 31=some (.struct fs))(w:World):(fs.mapM fun f=>do pure (f.offset,←sizeOf f.type):Sem _).run prog w= .ok #[(0,1),(1,1)] w:=by
 rw[underlying31]at h;cases h;simp[sizeOf28,sizeOf29]
theorem A9U(fs:Array Field)(h:prog.underlying 33=some (.struct fs))(w:World):(fs.mapM fun f=>do pure (f.offset,←sizeOf f.type):Sem _).run prog w= .ok #[(0,1),(1,2),(3,1)] w:=by
 rw[underlying33]at h;cases h;simp[sizeOf3,sizeOf23]
theorem B7z:prog.eqGuardType prog.depth 33=false:=by kernel_rfl
theorem B6P:prog.underlying 33=some (.struct (prog.fieldsOf 33)):=by simp only[Program.fieldsOf,underlying33]
theorem B6X:prog.stoodInHeld 33=false:=by kernel_rfl
theorem A2A:SlT prog 47 128 4 48 (.agg #[J 0,J 0,J 0,.slice none 0 0]):=⟨underlying47,⟨t128,M1 typeInfo128,rfl,rfl,rfl⟩,rfl,by decide⟩
theorem B4Z:SlT prog 52 200 38 368 (.agg #[J 0,J 0,J 0,J 0,J 0,J 0,J 0,J 0,J 0,J 0,J 0,J 0,J 0,J 0,J 0,J 0,J 0,.slice none 0 0,.slice none 0 0,.slice none 0 0,.slice none 0 0,J 0,J 0,J 0,J 0,J 0,J 0,J 0,J 0,J 0,J 0,J 0,J 0,J 0,J 0,J 0,J 0,J 0]):=⟨underlying52,⟨t200,M1 typeInfo200,rfl,rfl,rfl⟩,rfl,by decide⟩
theorem A2y:SlT prog 54 76 24 288 (.agg #[J 0,J 0,J 0,J 0,J 0,J 0,J 0,J 0,J 0,J 0,J 0,J 0,J 0,J 0,.slice none 0 0,.slice none 0 0,.slice none 0 0,.slice none 0 0,J 0,J 0,J 0,J 0,.slice none 0 0,.slice none 0 0]):=⟨underlying54,⟨t76,M1 typeInfo76,rfl,rfl,rfl⟩,rfl,by decide⟩
theorem Ot:SlT prog 55 196 5 40 (.agg #[J 0,J 0,J 0,J 0,J 0]):=⟨underlying55,⟨t196,M1 typeInfo196,rfl,rfl,rfl⟩,rfl,by decide⟩
theorem GB:SlT prog 56 73 2 16 (.agg #[J 0,J 0]):=⟨underlying56,⟨t73,M1 typeInfo73,rfl,rfl,rfl⟩,rfl,by decide⟩
theorem FZ(fs:Array Field)(h:prog.underlying 58=some (.struct fs))(w:World):(fs.mapM fun f=>do pure (f.offset,←sizeOf f.type):Sem _).run prog w= .ok #[(0,1),(1,1),(2,1),(3,1)] w:=by
 rw[underlying58]at h;cases h;simp[sizeOf47,sizeOf54,sizeOf55,sizeOf56]
theorem Bj(fs:Array Field)(h:prog.underlying 60=some (.struct fs))(w:World):(fs.mapM fun f=>do pure (f.offset,←sizeOf f.type):Sem _).run prog w= .ok #[(0,6),(6,1),(7,1),(8,1)] w:=by
 rw[underlying60]at h;cases h;simp[sizeOf3,sizeOf51,sizeOf54,sizeOf55]
theorem Lq:SlT prog 67 28 1 24 (.slice none 0 0):=⟨underlying67,⟨t28,M1 typeInfo28,rfl,rfl,rfl⟩,rfl,by decide⟩
theorem A9P(fs:Array Field)(h:prog.underlying 73=some (.struct fs))(w:World):(fs.mapM fun f=>do pure (f.offset,←sizeOf f.type):Sem _).run prog w= .ok #[(0,1),(1,1)] w:=by
 rw[underlying73]at h;cases h;simp[sizeOf3]
theorem B3G:prog.eqGuardType prog.depth 73=false:=by kernel_rfl
theorem B7j:prog.underlying 73=some (.struct (prog.fieldsOf 73)):=by simp only[Program.fieldsOf,underlying73]
theorem B7d:prog.stoodInHeld 73=false:=by kernel_rfl
theorem RK:SlT prog 74 98 3 24 (.agg #[J 0,J 0,J 0]):=⟨underlying74,⟨t98,M1 typeInfo98,rfl,rfl,rfl⟩,rfl,by decide⟩
theorem Rr(fs:Array Field)(h:prog.underlying 76=some (.struct fs))(w:World):(fs.mapM fun f=>do pure (f.offset,←sizeOf f.type):Sem _).run prog w= .ok #[(0,2),(2,1),(3,1),(4,18),(22,1),(23,1)] w:=by
 rw[underlying76]at h;cases h;simp[sizeOf3,sizeOf35,sizeOf56,sizeOf73,sizeOf74]
theorem B4u:SlT prog 77 149 1 24 (.slice none 0 0):=⟨underlying77,⟨t149,M1 typeInfo149,rfl,rfl,rfl⟩,rfl,by decide⟩
theorem A9b:SlT prog 82 67 1 24 (.slice none 0 0):=⟨underlying82,⟨t67,M1 typeInfo67,rfl,rfl,rfl⟩,rfl,by decide⟩
theorem B3J:SlT prog 89 92 1 24 (.slice none 0 0):=⟨underlying89,⟨t92,M1 typeInfo92,rfl,rfl,rfl⟩,rfl,by decide⟩
theorem B7D:SlT prog 92 5 1 1 (.int .u8 0):=⟨underlying92,⟨t5,M1 typeInfo5,rfl,rfl,rfl⟩,rfl,by decide⟩
theorem A9c(fs:Array Field)(h:prog.underlying 98=some (.struct fs))(w:World):(fs.mapM fun f=>do pure (f.offset,←sizeOf f.type):Sem _).run prog w= .ok #[(0,1),(1,2)] w:=by
 rw[underlying98]at h;cases h;simp[sizeOf3,sizeOf23]
theorem B7t:prog.eqGuardType prog.depth 98=false:=by kernel_rfl
theorem B6O:prog.underlying 98=some (.struct (prog.fieldsOf 98)):=by simp only[Program.fieldsOf,underlying98]
theorem B7p:prog.stoodInHeld 98=false:=by kernel_rfl
theorem B6a:prog.eqGuardType prog.depth 102=false:=by kernel_rfl
theorem B6x:prog.underlying 102=some (.struct (prog.fieldsOf 102)):=by simp only[Program.fieldsOf,underlying102]
theorem B6n:prog.stoodInHeld 102=false:=by kernel_rfl
theorem Eu(fs:Array Field)(h:prog.underlying 104=some (.struct fs))(w:World):(fs.mapM fun f=>do pure (f.offset,←sizeOf f.type):Sem _).run prog w= .ok #[(0,1)] w:=by
 rw[underlying104]at h;cases h;simp[sizeOf67]
theorem B6m:prog.eqGuardType prog.depth 108=false:=by kernel_rfl
theorem B6b:prog.underlying 108=some (.struct (prog.fieldsOf 108)):=by simp only[Program.fieldsOf,underlying108]
theorem B5V:prog.stoodInHeld 108=false:=by kernel_rfl
theorem A5m(fs:Array Field)(h:prog.underlying 113=some (.struct fs))(w:World):(fs.mapM fun f=>do pure (f.offset,←sizeOf f.type):Sem _).run prog w= .ok #[(0,4)] w:=by
 rw[underlying113]at h;cases h;simp[sizeOf33]
theorem Gr:SlT prog 126 198 3 24 (.agg #[J 0,J 0,J 0]):=⟨underlying126,⟨t198,M1 typeInfo198,rfl,rfl,rfl⟩,rfl,by decide⟩
theorem IF(fs:Array Field)(h:prog.underlying 128=some (.struct fs))(w:World):(fs.mapM fun f=>do pure (f.offset,←sizeOf f.type):Sem _).run prog w= .ok #[(0,1),(1,1),(2,1),(3,1)] w:=by
 rw[underlying128]at h;cases h;simp[sizeOf3,sizeOf126]
theorem Qw:SlT prog 149 152 2 48 (.agg #[.slice none 0 0,.slice none 0 0]):=⟨underlying149,⟨t152,M1 typeInfo152,rfl,rfl,rfl⟩,rfl,by decide⟩
theorem Qz:SlT prog 150 155 3 24 (.agg #[J 0,J 0,J 0]):=⟨underlying150,⟨t155,M1 typeInfo155,rfl,rfl,rfl⟩,rfl,by decide⟩
theorem B0s:SlT prog 157 160 64 64 (.agg #[.int .u8 0,.int .u8 0,.int .u8 0,.int .u8 0,.int .u8 0,.int .u8 0,.int .u8 0,.int .u8 0,.int .u8 0,.int .u8 0,.int .u8 0,.int .u8 0,.int .u8 0,.int .u8 0,.int .u8 0,.int .u8 0,.int .u8 0,.int .u8 0,.int .u8 0,.int .u8 0,.int .u8 0,.int .u8 0,.int .u8 0,.int .u8 0,.int .u8 0,.int .u8 0,.int .u8 0,.int .u8 0,.int .u8 0,.int .u8 0,.int .u8 0,.int .u8 0,.int .u8 0,.int .u8 0,.int .u8 0,.int .u8 0,.int .u8 0,.int .u8 0,.int .u8 0,.int .u8 0,.int .u8 0,.int .u8 0,.int .u8 0,.int .u8 0,.int .u8 0,.int .u8 0,.int .u8 0,.int .u8 0,.int .u8 0,.int .u8 0,.int .u8 0,.int .u8 0,.int .u8 0,.int .u8 0,.int .u8 0,.int .u8 0,.int .u8 0,.int .u8 0,.int .u8 0,.int .u8 0,.int .u8 0,.int .u8 0,.int .u8 0,.int .u8 0]):=⟨underlying157,⟨t160,M1 typeInfo160,rfl,rfl,rfl⟩,rfl,by decide⟩
theorem Gg(fs:Array Field)(h:prog.underlying 172=some (.struct fs))(w:World):(fs.mapM fun f=>do pure (f.offset,←sizeOf f.type):Sem _).run prog w= .ok #[(0,1),(1,1)] w:=by
 rw[underlying172]at h;cases h;simp[sizeOf3]
theorem ED(fs:Array Field)(h:prog.underlying 174=some (.struct fs))(w:World):(fs.mapM fun f=>do pure (f.offset,←sizeOf f.type):Sem _).run prog w= .ok #[(0,1),(1,1)] w:=by
 rw[underlying174]at h;cases h;simp[sizeOf28]
theorem Pe(fs:Array Field)(h:prog.underlying 179=some (.struct fs))(w:World):(fs.mapM fun f=>do pure (f.offset,←sizeOf f.type):Sem _).run prog w= .ok #[(0,10)] w:=by
 rw[underlying179]at h;cases h;simp[sizeOf25]
theorem B5I:SlT prog 182 186 2 32 (.agg #[.slice none 0 0,.bool false]):=⟨underlying182,⟨t186,M1 typeInfo186,rfl,rfl,rfl⟩,rfl,by decide⟩
theorem B5F:SlT prog 187 184 1 24 (.agg #[.slice none 0 0]):=⟨underlying187,⟨t184,M1 typeInfo184,rfl,rfl,rfl⟩,rfl,by decide⟩
theorem B6v:prog.eqGuardType prog.depth 196=false:=by kernel_rfl
theorem B5N:prog.underlying 196=some (.struct (prog.fieldsOf 196)):=by simp only[Program.fieldsOf,underlying196]
theorem B6y:prog.stoodInHeld 196=false:=by kernel_rfl
theorem B5D:prog.eqGuardType prog.depth 198=false:=by kernel_rfl
theorem B6B:prog.underlying 198=some (.struct (prog.fieldsOf 198)):=by simp only[Program.fieldsOf,underlying198]
theorem B5L:prog.stoodInHeld 198=false:=by kernel_rfl
theorem A5j(fs:Array Field)(h:prog.underlying 200=some (.struct fs))(w:World):(fs.mapM fun f=>do pure (f.offset,←sizeOf f.type):Sem _).run prog w= .ok #[(0,1),(1,1),(2,1),(3,1),(4,1),(5,1),(6,1),(7,18),(25,3),(28,5),(33,3),(36,2)] w:=by
 rw[underlying200]at h;cases h;simp[sizeOf3,sizeOf35,sizeOf73,sizeOf98,sizeOf196,sizeOf198]
theorem B0n:SlT prog 216 246 3 24 (.agg #[J 0,J 0,J 0]):=⟨underlying216,⟨t246,M1 typeInfo246,rfl,rfl,rfl⟩,rfl,by decide⟩
theorem B6K:SlT prog 278 52 1 24 (.slice none 0 0):=⟨underlying278,⟨t52,M1 typeInfo52,rfl,rfl,rfl⟩,rfl,by decide⟩
theorem Ed(d:Nat)(a b:Span)(w:World):(Op.equalIn (d+2) 23 (.agg (Flat.enc a).toArray) (.agg (Flat.enc b).toArray)).run prog w= .ok (decide (a=b)) w:=by
 obtain⟨c,f⟩:=a
 obtain⟨g,k⟩:=b
 simp only[Flat.enc,run_equalIn_agg w (d+1) 23 _ _ B7o B7l,Program.fieldsOf,underlying23]
 simp[Op.eqFields,part,sizeOf3,isAgg3,run_equalIn_int _ _ _ _ _ _ _ underlying3]
 repeat' split
 all_goals simp_all
theorem A4m(d:Nat)(a b:NName)(w:World):(Op.equalIn (d+2) 73 (.agg (Flat.enc a).toArray) (.agg (Flat.enc b).toArray)).run prog w= .ok (decide (a=b)) w:=by
 obtain⟨c,f⟩:=a
 obtain⟨g,k⟩:=b
 simp only[Flat.enc,run_equalIn_agg w (d+1) 73 _ _ B7j B7d,Program.fieldsOf,underlying73]
 simp[Op.eqFields,part,sizeOf3,isAgg3,run_equalIn_int _ _ _ _ _ _ _ underlying3]
 repeat' split
 all_goals simp_all
theorem B3r(d:Nat)(a b:Point)(w:World):(Op.equalIn (d+2) 102 (.agg (Flat.enc a).toArray) (.agg (Flat.enc b).toArray)).run prog w= .ok (decide (a=b)) w:=by
 obtain⟨c,f,g⟩:=a
 obtain⟨k,l,m⟩:=b
 simp only[Flat.enc,run_equalIn_agg w (d+1) 102 _ _ B6x B6n,Program.fieldsOf,underlying102]
 simp[Op.eqFields,part,sizeOf3,isAgg3,run_equalIn_int _ _ _ _ _ _ _ underlying3]
 repeat' split
 all_goals simp_all
theorem B6k(d:Nat)(a b:Paper)(w:World):(Op.equalIn (d+3) 25 (.agg (Flat.enc a).toArray) (.agg (Flat.enc b).toArray)).run prog w= .ok (decide (a=b)) w:=by
 obtain⟨n,o,p,q,r,s,g,k⟩:=a
 obtain⟨t,u,v,x,y,z,l,m⟩:=b
 have c:=fun w=>Ed (d+0) g l w
 simp only[Flat.enc]at c
 have f:=fun w=>Ed (d+0) k m w
 simp only[Flat.enc]at f
 simp only[Flat.enc,run_equalIn_agg w (d+2) 25 _ _ B7m B7v,Program.fieldsOf,underlying25]
 simp[Op.eqFields,part,sizeOf3,sizeOf23,isAgg3,isAgg23,c,f,run_equalIn_int _ _ _ _ _ _ _ underlying3]
 repeat' split
 all_goals simp_all
theorem B6c(d:Nat)(a b:Pen)(w:World):(Op.equalIn (d+3) 33 (.agg (Flat.enc a).toArray) (.agg (Flat.enc b).toArray)).run prog w= .ok (decide (a=b)) w:=by
 obtain⟨k,f,l⟩:=a
 obtain⟨m,g,n⟩:=b
 have c:=fun w=>Ed (d+0) f g w
 simp only[Flat.enc]at c
 simp only[Flat.enc,run_equalIn_agg w (d+2) 33 _ _ B6P B6X,Program.fieldsOf,underlying33]
 simp[Op.eqFields,part,sizeOf3,sizeOf23,isAgg3,isAgg23,c,run_equalIn_int _ _ _ _ _ _ _ underlying3]
 repeat' split
 all_goals simp_all
theorem B5G(d:Nat)(a b:Mark)(w:World):(Op.equalIn (d+3) 98 (.agg (Flat.enc a).toArray) (.agg (Flat.enc b).toArray)).run prog w= .ok (decide (a=b)) w:=by
 obtain⟨k,f⟩:=a
 obtain⟨l,g⟩:=b
 have c:=fun w=>Ed (d+0) f g w
 simp only[Flat.enc]at c
 simp only[Flat.enc,run_equalIn_agg w (d+2) 98 _ _ B6O B7p,Program.fieldsOf,underlying98]
 simp[Op.eqFields,part,sizeOf3,sizeOf23,isAgg3,isAgg23,c,run_equalIn_int _ _ _ _ _ _ _ underlying3]
 repeat' split
 all_goals simp_all
theorem B4T(d:Nat)(a b:Stp)(w:World):(Op.equalIn (d+3) 108 (.agg (Flat.enc a).toArray) (.agg (Flat.enc b).toArray)).run prog w= .ok (decide (a=b)) w:=by
 obtain⟨k,f⟩:=a
 obtain⟨l,g⟩:=b
 have c:=fun w=>Ed (d+0) f g w
 simp only[Flat.enc]at c
 simp only[Flat.enc,run_equalIn_agg w (d+2) 108 _ _ B6b B5V,Program.fieldsOf,underlying108]
 simp[Op.eqFields,part,sizeOf3,sizeOf23,isAgg3,isAgg23,c,run_equalIn_int _ _ _ _ _ _ _ underlying3]
 repeat' split
 all_goals simp_all
theorem B4G(d:Nat)(a b:ReadT)(w:World):(Op.equalIn (d+3) 196 (.agg (Flat.enc a).toArray) (.agg (Flat.enc b).toArray)).run prog w= .ok (decide (a=b)) w:=by
 obtain⟨k,l,m,f⟩:=a
 obtain⟨n,o,p,g⟩:=b
 have c:=fun w=>Ed (d+0) f g w
 simp only[Flat.enc]at c
 simp only[Flat.enc,run_equalIn_agg w (d+2) 196 _ _ B5N B6y,Program.fieldsOf,underlying196]
 simp[Op.eqFields,part,sizeOf3,sizeOf23,isAgg3,isAgg23,c,run_equalIn_int _ _ _ _ _ _ _ underlying3]
 repeat' split
 all_goals simp_all
theorem B3s(d:Nat)(a b:Height)(w:World):(Op.equalIn (d+3) 198 (.agg (Flat.enc a).toArray) (.agg (Flat.enc b).toArray)).run prog w= .ok (decide (a=b)) w:=by
 obtain⟨k,f⟩:=a
 obtain⟨l,g⟩:=b
 have c:=fun w=>Ed (d+0) f g w
 simp only[Flat.enc]at c
 simp only[Flat.enc,run_equalIn_agg w (d+2) 198 _ _ B6B B5L,Program.fieldsOf,underlying198]
 simp[Op.eqFields,part,sizeOf3,sizeOf23,isAgg3,isAgg23,c,run_equalIn_int _ _ _ _ _ _ _ underlying3]
 repeat' split
 all_goals simp_all
end Go.Proofs.T10
