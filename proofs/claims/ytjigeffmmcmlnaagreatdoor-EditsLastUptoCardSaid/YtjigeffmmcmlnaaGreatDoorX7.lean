import Derived.Test.YtjigeffmmcmlnaaGreatDoorX6
import Derived.Test.YtjigeffmmcmlnaaGreatDoorProg
import Derived.Shelf.SlGeneric
import Derived.Shelf.SlSortCmp.WholeK
import Derived.Shelf.SlSortCmp.NoneTotal
import Derived.Shelf.SlIterI.Nil
import Derived.Shelf.SortM.Plain
import Derived.Shelf.SortM.SortNone
import Derived.Ground.SlsfProg
import Derived.Ground.GgzProg
import Derived.Ground.SlgmProg
import Derived.Shelf.Spec.SlicesGrow
set_option linter.all false
set_option linter.unnecessarySimpa false
set_option linter.deprecated false
set_option linter.unusedVariables false
set_option linter.unusedSimpArgs false
set_option linter.unusedSectionVars false
namespace Go.Proofs.YtjigeffmmcmlnaaGreatDoor
open Go Go.an
def amw:List (Nat×TI):=[
 (3,⟨1,8,[.int .i64 0],.tj .i64⟩),
 (4,⟨1,1,[.bool false],.FB⟩),
 (22,⟨1,24,[.slice 4 []],.slice 67⟩),
 (23,⟨1,24,[.slice 13 []],.slice 71⟩),
 (24,⟨1,24,[.slice 12 []],.slice 50⟩),
 (26,⟨4,80,[.int .i64 0,.slice 4 [],.slice 13 [],.slice 12 []],.struct [(0,3),(1,22),(2,23),(3,24)]⟩),
 (27,⟨1,24,[.slice 15 []],.slice 52⟩),
 (31,⟨1,24,[.slice 1 []],.slice 32⟩),
 (32,⟨1,8,[.int .i64 0],.tj .i64⟩),
 (37,⟨1,24,[.slice 31 []],.slice 64⟩),
 (46,⟨2,16,[.int .i64 0,.int .i64 0],.struct [(0,3),(1,3)]⟩),
 (48,⟨3,24,[.int .i64 0,.int .i64 0,.int .i64 0],.struct [(0,3),(1,3),(2,3)]⟩),
 (50,⟨12,96,[.int .i64 0,.int .i64 0,.int .i64 0,.int .i64 0,.int .i64 0,.int .i64 0,.int .i64 0,.int .i64 0,.int .i64 0,.int .i64 0,.int .i64 0,.int .i64 0],.struct [(0,3),(1,3),(2,3),(3,3),(4,3),(5,46),(7,46),(9,48)]⟩),
 (52,⟨15,120,[.int .i64 0,.int .i64 0,.int .i64 0,.int .i64 0,.int .i64 0,.int .i64 0,.int .i64 0,.int .i64 0,.int .i64 0,.int .i64 0,.int .i64 0,.int .i64 0,.int .i64 0,.int .i64 0,.int .i64 0],.struct [(0,3),(1,3),(2,3),(3,50)]⟩),
 (60,⟨1,8,[.map [] []],.map 3 4⟩),
 (64,⟨31,248,[.int .i64 0,.int .i64 0,.int .i64 0,.int .i64 0,.int .i64 0,.int .i64 0,.int .i64 0,.int .i64 0,.int .i64 0,.int .i64 0,.int .i64 0,.int .i64 0,.int .i64 0,.int .i64 0,.int .i64 0,.int .i64 0,.int .i64 0,.int .i64 0,.int .i64 0,.int .i64 0,.int .i64 0,.int .i64 0,.int .i64 0,.int .i64 0,.int .i64 0,.int .i64 0,.int .i64 0,.int .i64 0,.int .i64 0,.int .i64 0,.int .i64 0],.struct [(0,3),(1,52),(16,52)]⟩),
 (67,⟨4,32,[.int .i64 0,.int .i64 0,.int .i64 0,.int .i64 0],.struct [(0,3),(1,46),(3,3)]⟩),
 (69,⟨2,16,[.int .i64 0,.int .i64 0],.struct [(0,3),(1,3)]⟩),
 (71,⟨13,104,[.int .i64 0,.int .i64 0,.int .i64 0,.int .i64 0,.int .i64 0,.int .i64 0,.int .i64 0,.int .i64 0,.int .i64 0,.int .i64 0,.int .i64 0,.int .i64 0,.int .i64 0],.struct [(0,3),(1,3),(2,3),(3,3),(4,3),(5,69),(7,48),(10,48)]⟩),
 (87,⟨1,8,[.map [] []],.map 3 52⟩),
 (90,⟨1,24,[.slice 1 []],.slice 3⟩),
 (97,⟨1,8,[.map [] []],.map 3 50⟩),
 (111,⟨1,8,[.wm],.FB⟩),
 (117,⟨1,24,[.slice 1 []],.slice 27⟩),
 (120,⟨1,8,[.map [] []],.map 121 52⟩),
 (121,⟨2,16,[.int .i64 0,.int .i64 0],.array 2 3⟩),
 (136,⟨1,8,[.map [] []],.map 3 71⟩),
 (139,⟨1,8,[.map [] []],.map 3 3⟩),
 (152,⟨1,8,[.wm],.FB⟩),
 (186,⟨2,16,[.int .i64 0,.int .i64 0],.struct [(0,3),(1,3)]⟩),
 (197,⟨7,56,[.int .i64 0,.int .i64 0,.int .i64 0,.int .i64 0,.int .i64 0,.int .i64 0,.int .i64 0],.array 7 3⟩)]
def gL:dh:=fun t=>(amw.find? fun p=>p.1 == t).map (·.2)
theorem aAn:amw.all (fun p=>ON Tryz.prog p.1 p.2)=true:=by kernel_rfl
theorem ac3:cP Tryz.prog gL:=cP.aaG aAn
theorem nD:gL 3=some ⟨1,8,[.int .i64 0],.tj .i64⟩:=rfl
theorem nH:gL 4=some ⟨1,1,[.bool false],.FB⟩:=rfl
theorem kv:gL 22=some ⟨1,24,[.slice 4 []],.slice 67⟩:=rfl
theorem kz:gL 23=some ⟨1,24,[.slice 13 []],.slice 71⟩:=rfl
theorem iQ:gL 24=some ⟨1,24,[.slice 12 []],.slice 50⟩:=rfl
theorem nB:gL 26=some ⟨4,80,[.int .i64 0,.slice 4 [],.slice 13 [],.slice 12 []],.struct [(0,3),(1,22),(2,23),(3,24)]⟩:=rfl
theorem nC:gL 27=some ⟨1,24,[.slice 15 []],.slice 52⟩:=rfl
theorem nE:gL 31=some ⟨1,24,[.slice 1 []],.slice 32⟩:=rfl
theorem nF:gL 32=some ⟨1,8,[.int .i64 0],.tj .i64⟩:=rfl
theorem nG:gL 37=some ⟨1,24,[.slice 31 []],.slice 64⟩:=rfl
theorem nI:gL 46=some ⟨2,16,[.int .i64 0,.int .i64 0],.struct [(0,3),(1,3)]⟩:=rfl
theorem nJ:gL 48=some ⟨3,24,[.int .i64 0,.int .i64 0,.int .i64 0],.struct [(0,3),(1,3),(2,3)]⟩:=rfl
theorem jD:gL 50=some ⟨12,96,[.int .i64 0,.int .i64 0,.int .i64 0,.int .i64 0,.int .i64 0,.int .i64 0,.int .i64 0,.int .i64 0,.int .i64 0,.int .i64 0,.int .i64 0,.int .i64 0],.struct [(0,3),(1,3),(2,3),(3,3),(4,3),(5,46),(7,46),(9,48)]⟩:=rfl
theorem jE:gL 52=some ⟨15,120,[.int .i64 0,.int .i64 0,.int .i64 0,.int .i64 0,.int .i64 0,.int .i64 0,.int .i64 0,.int .i64 0,.int .i64 0,.int .i64 0,.int .i64 0,.int .i64 0,.int .i64 0,.int .i64 0,.int .i64 0],.struct [(0,3),(1,3),(2,3),(3,50)]⟩:=rfl
theorem nL:gL 60=some ⟨1,8,[.map [] []],.map 3 4⟩:=rfl
theorem nM:gL 64=some ⟨31,248,[.int .i64 0,.int .i64 0,.int .i64 0,.int .i64 0,.int .i64 0,.int .i64 0,.int .i64 0,.int .i64 0,.int .i64 0,.int .i64 0,.int .i64 0,.int .i64 0,.int .i64 0,.int .i64 0,.int .i64 0,.int .i64 0,.int .i64 0,.int .i64 0,.int .i64 0,.int .i64 0,.int .i64 0,.int .i64 0,.int .i64 0,.int .i64 0,.int .i64 0,.int .i64 0,.int .i64 0,.int .i64 0,.int .i64 0,.int .i64 0,.int .i64 0],.struct [(0,3),(1,52),(16,52)]⟩:=rfl
theorem nN:gL 67=some ⟨4,32,[.int .i64 0,.int .i64 0,.int .i64 0,.int .i64 0],.struct [(0,3),(1,46),(3,3)]⟩:=rfl
theorem nO:gL 69=some ⟨2,16,[.int .i64 0,.int .i64 0],.struct [(0,3),(1,3)]⟩:=rfl
theorem nP:gL 71=some ⟨13,104,[.int .i64 0,.int .i64 0,.int .i64 0,.int .i64 0,.int .i64 0,.int .i64 0,.int .i64 0,.int .i64 0,.int .i64 0,.int .i64 0,.int .i64 0,.int .i64 0,.int .i64 0],.struct [(0,3),(1,3),(2,3),(3,3),(4,3),(5,69),(7,48),(10,48)]⟩:=rfl
theorem nQ:gL 87=some ⟨1,8,[.map [] []],.map 3 52⟩:=rfl
theorem nR:gL 90=some ⟨1,24,[.slice 1 []],.slice 3⟩:=rfl
theorem nS:gL 97=some ⟨1,8,[.map [] []],.map 3 50⟩:=rfl
theorem nq:gL 111=some ⟨1,8,[.wm],.FB⟩:=rfl
theorem nr:gL 117=some ⟨1,24,[.slice 1 []],.slice 27⟩:=rfl
theorem nu:gL 120=some ⟨1,8,[.map [] []],.map 121 52⟩:=rfl
theorem nv:gL 121=some ⟨2,16,[.int .i64 0,.int .i64 0],.array 2 3⟩:=rfl
theorem nw:gL 136=some ⟨1,8,[.map [] []],.map 3 71⟩:=rfl
theorem nx:gL 139=some ⟨1,8,[.map [] []],.map 3 3⟩:=rfl
theorem ny:gL 152=some ⟨1,8,[.wm],.FB⟩:=rfl
theorem nz:gL 186=some ⟨2,16,[.int .i64 0,.int .i64 0],.struct [(0,3),(1,3)]⟩:=rfl
theorem nA:gL 197=some ⟨7,56,[.int .i64 0,.int .i64 0,.int .i64 0,.int .i64 0,.int .i64 0,.int .i64 0,.int .i64 0],.array 7 3⟩:=rfl
structure Rat where
 n:Int
 d:Int
 deriving DecidableEq
instance:au Rat:=⟨fun r=> .agg [.int .i64 r.n,.int .i64 r.d],fun d=>match d with | .agg [.int _ x0,.int _ x1]=>⟨x0,x1⟩ | _=>⟨0,0⟩,2,fun _=>rfl,fun _=>rfl,by simp[D.cells,D.one,fL]⟩
theorem lF (r:Rat):au.enc r = .agg [.int .i64 r.n,.int .i64 r.d]:=rfl
theorem lb (k0 k1:IntKind) (x0:Int) (x1:Int):(au.dec (.agg [.int k0 x0,.int k1 x1]):Rat)=⟨x0,x1⟩:=rfl
theorem mZ:au.size Rat=2:=rfl
theorem l9 (r:Rat):(⟨r.n,r.d⟩:Rat)=r:=rfl
theorem jQ (a b:Rat):eO [.int .i64 a.n,.int .i64 a.d] [.int .i64 b.n,.int .i64 b.d]=decide (a=b):=by
 rw[Bool.eq_iff_iff];rcases a with ⟨a1,a2⟩;rcases b with ⟨b1,b2⟩;simp[eO,pd,and_assoc]
theorem kM (a:Rat) (b0:Int) (b1:Int):eO [.int .i64 a.n,.int .i64 a.d] [.int .i64 b0,.int .i64 b1]=decide (a=⟨b0,b1⟩):=jQ a ⟨b0,b1⟩
structure aT where
 id:Int
 length:Rat
 key:Int
 deriving DecidableEq
instance:au aT:=⟨fun r=> .agg [.int .i64 r.id,.int .i64 r.length.n,.int .i64 r.length.d,.int .i64 r.key],fun d=>match d with | .agg [.int _ x0,.int _ x1,.int _ x2,.int _ x3]=>⟨x0,⟨x1,x2⟩,x3⟩ | _=>⟨0,⟨0,0⟩,0⟩,4,fun _=>rfl,fun _=>rfl,by simp[D.cells,D.one,fL]⟩
theorem lu (r:aT):au.enc r = .agg [.int .i64 r.id,.int .i64 r.length.n,.int .i64 r.length.d,.int .i64 r.key]:=rfl
theorem kR (k0 k1 k2 k3:IntKind) (x0:Int) (x1:Int) (x2:Int) (x3:Int):(au.dec (.agg [.int k0 x0,.int k1 x1,.int k2 x2,.int k3 x3]):aT)=⟨x0,⟨x1,x2⟩,x3⟩:=rfl
theorem mP:au.size aT=4:=rfl
theorem lW (r:aT):(⟨r.id,r.length,r.key⟩:aT)=r:=rfl
theorem jI (a b:aT):eO [.int .i64 a.id,.int .i64 a.length.n,.int .i64 a.length.d,.int .i64 a.key] [.int .i64 b.id,.int .i64 b.length.n,.int .i64 b.length.d,.int .i64 b.key]=decide (a=b):=by
 rw[Bool.eq_iff_iff];rcases a with ⟨a1,⟨a2,a3⟩,a4⟩;rcases b with ⟨b1,⟨b2,b3⟩,b4⟩;simp[eO,pd,and_assoc]
theorem kC (a:aT) (b0:Int) (b1:Int) (b2:Int) (b3:Int):eO [.int .i64 a.id,.int .i64 a.length.n,.int .i64 a.length.d,.int .i64 a.key] [.int .i64 b0,.int .i64 b1,.int .i64 b2,.int .i64 b3]=decide (a=⟨b0,⟨b1,b2⟩,b3⟩):=jI a ⟨b0,⟨b1,b2⟩,b3⟩
structure Interval where
 steps:Int
 gu:Int
 deriving DecidableEq
instance:au Interval:=⟨fun r=> .agg [.int .i64 r.steps,.int .i64 r.gu],fun d=>match d with | .agg [.int _ x0,.int _ x1]=>⟨x0,x1⟩ | _=>⟨0,0⟩,2,fun _=>rfl,fun _=>rfl,by simp[D.cells,D.one,fL]⟩
theorem lA (r:Interval):au.enc r = .agg [.int .i64 r.steps,.int .i64 r.gu]:=rfl
theorem kV (k0 k1:IntKind) (x0:Int) (x1:Int):(au.dec (.agg [.int k0 x0,.int k1 x1]):Interval)=⟨x0,x1⟩:=rfl
theorem mT:au.size Interval=2:=rfl
theorem l4 (r:Interval):(⟨r.steps,r.gu⟩:Interval)=r:=rfl
theorem jM (a b:Interval):eO [.int .i64 a.steps,.int .i64 a.gu] [.int .i64 b.steps,.int .i64 b.gu]=decide (a=b):=by
 rw[Bool.eq_iff_iff];rcases a with ⟨a1,a2⟩;rcases b with ⟨b1,b2⟩;simp[eO,pd,and_assoc]
theorem kH (a:Interval) (b0:Int) (b1:Int):eO [.int .i64 a.steps,.int .i64 a.gu] [.int .i64 b0,.int .i64 b1]=decide (a=⟨b0,b1⟩):=jM a ⟨b0,b1⟩
structure az where
 step:Int
 alter:Int
 bU:Int
 deriving DecidableEq
instance:au az:=⟨fun r=> .agg [.int .i64 r.step,.int .i64 r.alter,.int .i64 r.bU],fun d=>match d with | .agg [.int _ x0,.int _ x1,.int _ x2]=>⟨x0,x1,x2⟩ | _=>⟨0,0,0⟩,3,fun _=>rfl,fun _=>rfl,by simp[D.cells,D.one,fL]⟩
theorem lE (r:az):au.enc r = .agg [.int .i64 r.step,.int .i64 r.alter,.int .i64 r.bU]:=rfl
theorem la (k0 k1 k2:IntKind) (x0:Int) (x1:Int) (x2:Int):(au.dec (.agg [.int k0 x0,.int k1 x1,.int k2 x2]):az)=⟨x0,x1,x2⟩:=rfl
theorem mY:au.size az=3:=rfl
theorem l8 (r:az):(⟨r.step,r.alter,r.bU⟩:az)=r:=rfl
theorem jP (a b:az):eO [.int .i64 a.step,.int .i64 a.alter,.int .i64 a.bU] [.int .i64 b.step,.int .i64 b.alter,.int .i64 b.bU]=decide (a=b):=by
 rw[Bool.eq_iff_iff];rcases a with ⟨a1,a2,a3⟩;rcases b with ⟨b1,b2,b3⟩;simp[eO,pd,and_assoc]
theorem kL (a:az) (b0:Int) (b1:Int) (b2:Int):eO [.int .i64 a.step,.int .i64 a.alter,.int .i64 a.bU] [.int .i64 b0,.int .i64 b1,.int .i64 b2]=decide (a=⟨b0,b1,b2⟩):=jP a ⟨b0,b1,b2⟩
structure Part where
 id:Int
 xC:Int
 of:Int
 bU:Int
 wW:Int
 shift:Interval
 low:az
 high:az
 deriving DecidableEq
instance:au Part:=⟨fun r=> .agg [.int .i64 r.id,.int .i64 r.xC,.int .i64 r.of,.int .i64 r.bU,.int .i64 r.wW,.int .i64 r.shift.steps,.int .i64 r.shift.gu,.int .i64 r.low.step,.int .i64 r.low.alter,.int .i64 r.low.bU,.int .i64 r.high.step,.int .i64 r.high.alter,.int .i64 r.high.bU],fun d=>match d with | .agg [.int _ x0,.int _ x1,.int _ x2,.int _ x3,.int _ x4,.int _ x5,.int _ x6,.int _ x7,.int _ x8,.int _ x9,.int _ dw,.int _ cb,.int _ vz]=>⟨x0,x1,x2,x3,x4,⟨x5,x6⟩,⟨x7,x8,x9⟩,⟨dw,cb,vz⟩⟩ | _=>⟨0,0,0,0,0,⟨0,0⟩,⟨0,0,0⟩,⟨0,0,0⟩⟩,13,fun _=>rfl,fun _=>rfl,by simp[D.cells,D.one,fL]⟩
theorem lD (r:Part):au.enc r = .agg [.int .i64 r.id,.int .i64 r.xC,.int .i64 r.of,.int .i64 r.bU,.int .i64 r.wW,.int .i64 r.shift.steps,.int .i64 r.shift.gu,.int .i64 r.low.step,.int .i64 r.low.alter,.int .i64 r.low.bU,.int .i64 r.high.step,.int .i64 r.high.alter,.int .i64 r.high.bU]:=rfl
theorem kZ (k0 k1 k2 k3 k4 k5 k6 k7 k8 k9 oj gS gF:IntKind) (x0:Int) (x1:Int) (x2:Int) (x3:Int) (x4:Int) (x5:Int) (x6:Int) (x7:Int) (x8:Int) (x9:Int) (dw:Int) (cb:Int) (vz:Int):(au.dec (.agg [.int k0 x0,.int k1 x1,.int k2 x2,.int k3 x3,.int k4 x4,.int k5 x5,.int k6 x6,.int k7 x7,.int k8 x8,.int k9 x9,.int oj dw,.int gS cb,.int gF vz]):Part)=⟨x0,x1,x2,x3,x4,⟨x5,x6⟩,⟨x7,x8,x9⟩,⟨dw,cb,vz⟩⟩:=rfl
theorem mX:au.size Part=13:=rfl
theorem l7 (r:Part):(⟨r.id,r.xC,r.of,r.bU,r.wW,r.shift,r.low,r.high⟩:Part)=r:=rfl
theorem jO (a b:Part):eO [.int .i64 a.id,.int .i64 a.xC,.int .i64 a.of,.int .i64 a.bU,.int .i64 a.wW,.int .i64 a.shift.steps,.int .i64 a.shift.gu,.int .i64 a.low.step,.int .i64 a.low.alter,.int .i64 a.low.bU,.int .i64 a.high.step,.int .i64 a.high.alter,.int .i64 a.high.bU] [.int .i64 b.id,.int .i64 b.xC,.int .i64 b.of,.int .i64 b.bU,.int .i64 b.wW,.int .i64 b.shift.steps,.int .i64 b.shift.gu,.int .i64 b.low.step,.int .i64 b.low.alter,.int .i64 b.low.bU,.int .i64 b.high.step,.int .i64 b.high.alter,.int .i64 b.high.bU]=decide (a=b):=by
 rw[Bool.eq_iff_iff];rcases a with ⟨a1,a2,a3,a4,a5,⟨a6,a7⟩,⟨a8,a9,DN⟩,⟨DO,a12,a13⟩⟩;rcases b with ⟨b1,b2,b3,b4,b5,⟨b6,b7⟩,⟨b8,b9,qd⟩,⟨qe,tO,y8⟩⟩;simp[eO,pd,and_assoc]
theorem kJ (a:Part) (b0:Int) (b1:Int) (b2:Int) (b3:Int) (b4:Int) (b5:Int) (b6:Int) (b7:Int) (b8:Int) (b9:Int) (qd:Int) (qe:Int) (tO:Int):eO [.int .i64 a.id,.int .i64 a.xC,.int .i64 a.of,.int .i64 a.bU,.int .i64 a.wW,.int .i64 a.shift.steps,.int .i64 a.shift.gu,.int .i64 a.low.step,.int .i64 a.low.alter,.int .i64 a.low.bU,.int .i64 a.high.step,.int .i64 a.high.alter,.int .i64 a.high.bU] [.int .i64 b0,.int .i64 b1,.int .i64 b2,.int .i64 b3,.int .i64 b4,.int .i64 b5,.int .i64 b6,.int .i64 b7,.int .i64 b8,.int .i64 b9,.int .i64 qd,.int .i64 qe,.int .i64 tO]=decide (a=⟨b0,b1,b2,b3,b4,⟨b5,b6⟩,⟨b7,b8,b9⟩,⟨qd,qe,tO⟩⟩):=jO a ⟨b0,b1,b2,b3,b4,⟨b5,b6⟩,⟨b7,b8,b9⟩,⟨qd,qe,tO⟩⟩
structure ae where
 id:Int
 part:Int
 dC:Int
 fR:Int
 jy:Int
 start:Rat
 length:Rat
 bM:az
 deriving DecidableEq
instance:au ae:=⟨fun r=> .agg [.int .i64 r.id,.int .i64 r.part,.int .i64 r.dC,.int .i64 r.fR,.int .i64 r.jy,.int .i64 r.start.n,.int .i64 r.start.d,.int .i64 r.length.n,.int .i64 r.length.d,.int .i64 r.bM.step,.int .i64 r.bM.alter,.int .i64 r.bM.bU],fun d=>match d with | .agg [.int _ x0,.int _ x1,.int _ x2,.int _ x3,.int _ x4,.int _ x5,.int _ x6,.int _ x7,.int _ x8,.int _ x9,.int _ dw,.int _ cb]=>⟨x0,x1,x2,x3,x4,⟨x5,x6⟩,⟨x7,x8⟩,⟨x9,dw,cb⟩⟩ | _=>⟨0,0,0,0,0,⟨0,0⟩,⟨0,0⟩,⟨0,0,0⟩⟩,12,fun _=>rfl,fun _=>rfl,by simp[D.cells,D.one,fL]⟩
theorem jX (r:ae):au.enc r = .agg [.int .i64 r.id,.int .i64 r.part,.int .i64 r.dC,.int .i64 r.fR,.int .i64 r.jy,.int .i64 r.start.n,.int .i64 r.start.d,.int .i64 r.length.n,.int .i64 r.length.d,.int .i64 r.bM.step,.int .i64 r.bM.alter,.int .i64 r.bM.bU]:=rfl
theorem kX (k0 k1 k2 k3 k4 k5 k6 k7 k8 k9 oj gS:IntKind) (x0:Int) (x1:Int) (x2:Int) (x3:Int) (x4:Int) (x5:Int) (x6:Int) (x7:Int) (x8:Int) (x9:Int) (dw:Int) (cb:Int):(au.dec (.agg [.int k0 x0,.int k1 x1,.int k2 x2,.int k3 x3,.int k4 x4,.int k5 x5,.int k6 x6,.int k7 x7,.int k8 x8,.int k9 x9,.int oj dw,.int gS cb]):ae)=⟨x0,x1,x2,x3,x4,⟨x5,x6⟩,⟨x7,x8⟩,⟨x9,dw,cb⟩⟩:=rfl
theorem mV:au.size ae=12:=rfl
theorem l5 (r:ae):(⟨r.id,r.part,r.dC,r.fR,r.jy,r.start,r.length,r.bM⟩:ae)=r:=rfl
theorem jN (a b:ae):eO [.int .i64 a.id,.int .i64 a.part,.int .i64 a.dC,.int .i64 a.fR,.int .i64 a.jy,.int .i64 a.start.n,.int .i64 a.start.d,.int .i64 a.length.n,.int .i64 a.length.d,.int .i64 a.bM.step,.int .i64 a.bM.alter,.int .i64 a.bM.bU] [.int .i64 b.id,.int .i64 b.part,.int .i64 b.dC,.int .i64 b.fR,.int .i64 b.jy,.int .i64 b.start.n,.int .i64 b.start.d,.int .i64 b.length.n,.int .i64 b.length.d,.int .i64 b.bM.step,.int .i64 b.bM.alter,.int .i64 b.bM.bU]=decide (a=b):=by
 rw[Bool.eq_iff_iff];rcases a with ⟨a1,a2,a3,a4,a5,⟨a6,a7⟩,⟨a8,a9⟩,⟨DN,DO,a12⟩⟩;rcases b with ⟨b1,b2,b3,b4,b5,⟨b6,b7⟩,⟨b8,b9⟩,⟨qd,qe,tO⟩⟩;simp[eO,pd,and_assoc]
theorem kI (a:ae) (b0:Int) (b1:Int) (b2:Int) (b3:Int) (b4:Int) (b5:Int) (b6:Int) (b7:Int) (b8:Int) (b9:Int) (qd:Int) (qe:Int):eO [.int .i64 a.id,.int .i64 a.part,.int .i64 a.dC,.int .i64 a.fR,.int .i64 a.jy,.int .i64 a.start.n,.int .i64 a.start.d,.int .i64 a.length.n,.int .i64 a.length.d,.int .i64 a.bM.step,.int .i64 a.bM.alter,.int .i64 a.bM.bU] [.int .i64 b0,.int .i64 b1,.int .i64 b2,.int .i64 b3,.int .i64 b4,.int .i64 b5,.int .i64 b6,.int .i64 b7,.int .i64 b8,.int .i64 b9,.int .i64 qd,.int .i64 qe]=decide (a=⟨b0,b1,b2,b3,b4,⟨b5,b6⟩,⟨b7,b8⟩,⟨b9,qd,qe⟩⟩):=jN a ⟨b0,b1,b2,b3,b4,⟨b5,b6⟩,⟨b7,b8⟩,⟨b9,qd,qe⟩⟩
structure Score where
 version:Int
 bars:(List aT)
 parts:(List Part)
 notes:(List ae)
 deriving DecidableEq
instance:au Score:=⟨fun r=> .agg [.int .i64 r.version,au.enc (r.bars:(List aT)),au.enc (r.parts:(List Part)),au.enc (r.notes:(List ae))],fun d=>match d with | .agg [.int _ x0,x1,x2,x3]=>⟨x0,au.dec x1,au.dec x2,au.dec x3⟩ | _=>⟨0,[],[],[]⟩,4,fun a=>by cases a;simp[au.lj],fun _=>rfl,by simp[D.cells,D.one,fL]⟩
theorem lG (r:Score):au.enc r = .agg [.int .i64 r.version,au.enc (r.bars:(List aT)),au.enc (r.parts:(List Part)),au.enc (r.notes:(List ae))]:=rfl
theorem lf (k0:IntKind) (x0:Int) (x1:D) (x2:D) (x3:D):(au.dec (.agg [.int k0 x0,x1,x2,x3]):Score)=⟨x0,au.dec x1,au.dec x2,au.dec x3⟩:=rfl
theorem nc:au.size Score=4:=rfl
theorem ma (r:Score):(⟨r.version,r.bars,r.parts,r.notes⟩:Score)=r:=rfl
structure aa where
 kind:Int
 clock:Int
 ev:Int
 note:ae
 deriving DecidableEq
instance:au aa:=⟨fun r=> .agg [.int .i64 r.kind,.int .i64 r.clock,.int .i64 r.ev,.int .i64 r.note.id,.int .i64 r.note.part,.int .i64 r.note.dC,.int .i64 r.note.fR,.int .i64 r.note.jy,.int .i64 r.note.start.n,.int .i64 r.note.start.d,.int .i64 r.note.length.n,.int .i64 r.note.length.d,.int .i64 r.note.bM.step,.int .i64 r.note.bM.alter,.int .i64 r.note.bM.bU],fun d=>match d with | .agg [.int _ x0,.int _ x1,.int _ x2,.int _ x3,.int _ x4,.int _ x5,.int _ x6,.int _ x7,.int _ x8,.int _ x9,.int _ dw,.int _ cb,.int _ vz,.int _ gw,.int _ aU]=>⟨x0,x1,x2,⟨x3,x4,x5,x6,x7,⟨x8,x9⟩,⟨dw,cb⟩,⟨vz,gw,aU⟩⟩⟩ | _=>⟨0,0,0,⟨0,0,0,0,0,⟨0,0⟩,⟨0,0⟩,⟨0,0,0⟩⟩⟩,15,fun _=>rfl,fun _=>rfl,by simp[D.cells,D.one,fL]⟩
theorem jW (r:aa):au.enc r = .agg [.int .i64 r.kind,.int .i64 r.clock,.int .i64 r.ev,.int .i64 r.note.id,.int .i64 r.note.part,.int .i64 r.note.dC,.int .i64 r.note.fR,.int .i64 r.note.jy,.int .i64 r.note.start.n,.int .i64 r.note.start.d,.int .i64 r.note.length.n,.int .i64 r.note.length.d,.int .i64 r.note.bM.step,.int .i64 r.note.bM.alter,.int .i64 r.note.bM.bU]:=rfl
theorem kT (k0 k1 k2 k3 k4 k5 k6 k7 k8 k9 oj gS gF o0 fY:IntKind) (x0:Int) (x1:Int) (x2:Int) (x3:Int) (x4:Int) (x5:Int) (x6:Int) (x7:Int) (x8:Int) (x9:Int) (dw:Int) (cb:Int) (vz:Int) (gw:Int) (aU:Int):(au.dec (.agg [.int k0 x0,.int k1 x1,.int k2 x2,.int k3 x3,.int k4 x4,.int k5 x5,.int k6 x6,.int k7 x7,.int k8 x8,.int k9 x9,.int oj dw,.int gS cb,.int gF vz,.int o0 gw,.int fY aU]):aa)=⟨x0,x1,x2,⟨x3,x4,x5,x6,x7,⟨x8,x9⟩,⟨dw,cb⟩,⟨vz,gw,aU⟩⟩⟩:=rfl
theorem mR:au.size aa=15:=rfl
theorem lY (r:aa):(⟨r.kind,r.clock,r.ev,r.note⟩:aa)=r:=rfl
theorem jK (a b:aa):eO [.int .i64 a.kind,.int .i64 a.clock,.int .i64 a.ev,.int .i64 a.note.id,.int .i64 a.note.part,.int .i64 a.note.dC,.int .i64 a.note.fR,.int .i64 a.note.jy,.int .i64 a.note.start.n,.int .i64 a.note.start.d,.int .i64 a.note.length.n,.int .i64 a.note.length.d,.int .i64 a.note.bM.step,.int .i64 a.note.bM.alter,.int .i64 a.note.bM.bU] [.int .i64 b.kind,.int .i64 b.clock,.int .i64 b.ev,.int .i64 b.note.id,.int .i64 b.note.part,.int .i64 b.note.dC,.int .i64 b.note.fR,.int .i64 b.note.jy,.int .i64 b.note.start.n,.int .i64 b.note.start.d,.int .i64 b.note.length.n,.int .i64 b.note.length.d,.int .i64 b.note.bM.step,.int .i64 b.note.bM.alter,.int .i64 b.note.bM.bU]=decide (a=b):=by
 rw[Bool.eq_iff_iff];rcases a with ⟨a1,a2,a3,⟨a4,a5,a6,a7,a8,⟨a9,DN⟩,⟨DO,a12⟩,⟨a13,a14,a15⟩⟩⟩;rcases b with ⟨b1,b2,b3,⟨b4,b5,b6,b7,b8,⟨b9,qd⟩,⟨qe,tO⟩,⟨y8,Ay,JT⟩⟩⟩;simp[eO,pd,and_assoc]
theorem kF (a:aa) (b0:Int) (b1:Int) (b2:Int) (b3:Int) (b4:Int) (b5:Int) (b6:Int) (b7:Int) (b8:Int) (b9:Int) (qd:Int) (qe:Int) (tO:Int) (y8:Int) (Ay:Int):eO [.int .i64 a.kind,.int .i64 a.clock,.int .i64 a.ev,.int .i64 a.note.id,.int .i64 a.note.part,.int .i64 a.note.dC,.int .i64 a.note.fR,.int .i64 a.note.jy,.int .i64 a.note.start.n,.int .i64 a.note.start.d,.int .i64 a.note.length.n,.int .i64 a.note.length.d,.int .i64 a.note.bM.step,.int .i64 a.note.bM.alter,.int .i64 a.note.bM.bU] [.int .i64 b0,.int .i64 b1,.int .i64 b2,.int .i64 b3,.int .i64 b4,.int .i64 b5,.int .i64 b6,.int .i64 b7,.int .i64 b8,.int .i64 b9,.int .i64 qd,.int .i64 qe,.int .i64 tO,.int .i64 y8,.int .i64 Ay]=decide (a=⟨b0,b1,b2,⟨b3,b4,b5,b6,b7,⟨b8,b9⟩,⟨qd,qe⟩,⟨tO,y8,Ay⟩⟩⟩):=jK a ⟨b0,b1,b2,⟨b3,b4,b5,b6,b7,⟨b8,b9⟩,⟨qd,qe⟩,⟨tO,y8,Ay⟩⟩⟩
structure aJ where
 note:Int
 first:aa
 second:aa
 deriving DecidableEq
instance:au aJ:=⟨fun r=> .agg [.int .i64 r.note,.int .i64 r.first.kind,.int .i64 r.first.clock,.int .i64 r.first.ev,.int .i64 r.first.note.id,.int .i64 r.first.note.part,.int .i64 r.first.note.dC,.int .i64 r.first.note.fR,.int .i64 r.first.note.jy,.int .i64 r.first.note.start.n,.int .i64 r.first.note.start.d,.int .i64 r.first.note.length.n,.int .i64 r.first.note.length.d,.int .i64 r.first.note.bM.step,.int .i64 r.first.note.bM.alter,.int .i64 r.first.note.bM.bU,.int .i64 r.second.kind,.int .i64 r.second.clock,.int .i64 r.second.ev,.int .i64 r.second.note.id,.int .i64 r.second.note.part,.int .i64 r.second.note.dC,.int .i64 r.second.note.fR,.int .i64 r.second.note.jy,.int .i64 r.second.note.start.n,.int .i64 r.second.note.start.d,.int .i64 r.second.note.length.n,.int .i64 r.second.note.length.d,.int .i64 r.second.note.bM.step,.int .i64 r.second.note.bM.alter,.int .i64 r.second.note.bM.bU],fun d=>match d with | .agg [.int _ x0,.int _ x1,.int _ x2,.int _ x3,.int _ x4,.int _ x5,.int _ x6,.int _ x7,.int _ x8,.int _ x9,.int _ dw,.int _ cb,.int _ vz,.int _ gw,.int _ aU,.int _ aX,.int _ cL,.int _ o6,.int _ bh,.int _ ru,.int _ bN,.int _ bJ,.int _ ot,.int _ fu,.int _ fT,.int _ bK,.int _ aM,.int _ br,.int _ bc,.int _ ei,.int _ kA]=>⟨x0,⟨x1,x2,x3,⟨x4,x5,x6,x7,x8,⟨x9,dw⟩,⟨cb,vz⟩,⟨gw,aU,aX⟩⟩⟩,⟨cL,o6,bh,⟨ru,bN,bJ,ot,fu,⟨fT,bK⟩,⟨aM,br⟩,⟨bc,ei,kA⟩⟩⟩⟩ | _=>⟨0,⟨0,0,0,⟨0,0,0,0,0,⟨0,0⟩,⟨0,0⟩,⟨0,0,0⟩⟩⟩,⟨0,0,0,⟨0,0,0,0,0,⟨0,0⟩,⟨0,0⟩,⟨0,0,0⟩⟩⟩⟩,31,fun _=>rfl,fun _=>rfl,by simp[D.cells,D.one,fL]⟩
theorem lv (r:aJ):au.enc r = .agg [.int .i64 r.note,.int .i64 r.first.kind,.int .i64 r.first.clock,.int .i64 r.first.ev,.int .i64 r.first.note.id,.int .i64 r.first.note.part,.int .i64 r.first.note.dC,.int .i64 r.first.note.fR,.int .i64 r.first.note.jy,.int .i64 r.first.note.start.n,.int .i64 r.first.note.start.d,.int .i64 r.first.note.length.n,.int .i64 r.first.note.length.d,.int .i64 r.first.note.bM.step,.int .i64 r.first.note.bM.alter,.int .i64 r.first.note.bM.bU,.int .i64 r.second.kind,.int .i64 r.second.clock,.int .i64 r.second.ev,.int .i64 r.second.note.id,.int .i64 r.second.note.part,.int .i64 r.second.note.dC,.int .i64 r.second.note.fR,.int .i64 r.second.note.jy,.int .i64 r.second.note.start.n,.int .i64 r.second.note.start.d,.int .i64 r.second.note.length.n,.int .i64 r.second.note.length.d,.int .i64 r.second.note.bM.step,.int .i64 r.second.note.bM.alter,.int .i64 r.second.note.bM.bU]:=rfl
theorem kS (k0 k1 k2 k3 k4 k5 k6 k7 k8 k9 oj gS gF o0 fY rj Bm Y3 Mt vg Mu yJ Ig Mw wc Y6 Fg yK CZ zQ Ih:IntKind) (x0:Int) (x1:Int) (x2:Int) (x3:Int) (x4:Int) (x5:Int) (x6:Int) (x7:Int) (x8:Int) (x9:Int) (dw:Int) (cb:Int) (vz:Int) (gw:Int) (aU:Int) (aX:Int) (cL:Int) (o6:Int) (bh:Int) (ru:Int) (bN:Int) (bJ:Int) (ot:Int) (fu:Int) (fT:Int) (bK:Int) (aM:Int) (br:Int) (bc:Int) (ei:Int) (kA:Int):(au.dec (.agg [.int k0 x0,.int k1 x1,.int k2 x2,.int k3 x3,.int k4 x4,.int k5 x5,.int k6 x6,.int k7 x7,.int k8 x8,.int k9 x9,.int oj dw,.int gS cb,.int gF vz,.int o0 gw,.int fY aU,.int rj aX,.int Bm cL,.int Y3 o6,.int Mt bh,.int vg ru,.int Mu bN,.int yJ bJ,.int Ig ot,.int Mw fu,.int wc fT,.int Y6 bK,.int Fg aM,.int yK br,.int CZ bc,.int zQ ei,.int Ih kA]):aJ)=⟨x0,⟨x1,x2,x3,⟨x4,x5,x6,x7,x8,⟨x9,dw⟩,⟨cb,vz⟩,⟨gw,aU,aX⟩⟩⟩,⟨cL,o6,bh,⟨ru,bN,bJ,ot,fu,⟨fT,bK⟩,⟨aM,br⟩,⟨bc,ei,kA⟩⟩⟩⟩:=rfl
theorem mQ:au.size aJ=31:=rfl
theorem lX (r:aJ):(⟨r.note,r.first,r.second⟩:aJ)=r:=rfl
theorem jJ (a b:aJ):eO [.int .i64 a.note,.int .i64 a.first.kind,.int .i64 a.first.clock,.int .i64 a.first.ev,.int .i64 a.first.note.id,.int .i64 a.first.note.part,.int .i64 a.first.note.dC,.int .i64 a.first.note.fR,.int .i64 a.first.note.jy,.int .i64 a.first.note.start.n,.int .i64 a.first.note.start.d,.int .i64 a.first.note.length.n,.int .i64 a.first.note.length.d,.int .i64 a.first.note.bM.step,.int .i64 a.first.note.bM.alter,.int .i64 a.first.note.bM.bU,.int .i64 a.second.kind,.int .i64 a.second.clock,.int .i64 a.second.ev,.int .i64 a.second.note.id,.int .i64 a.second.note.part,.int .i64 a.second.note.dC,.int .i64 a.second.note.fR,.int .i64 a.second.note.jy,.int .i64 a.second.note.start.n,.int .i64 a.second.note.start.d,.int .i64 a.second.note.length.n,.int .i64 a.second.note.length.d,.int .i64 a.second.note.bM.step,.int .i64 a.second.note.bM.alter,.int .i64 a.second.note.bM.bU] [.int .i64 b.note,.int .i64 b.first.kind,.int .i64 b.first.clock,.int .i64 b.first.ev,.int .i64 b.first.note.id,.int .i64 b.first.note.part,.int .i64 b.first.note.dC,.int .i64 b.first.note.fR,.int .i64 b.first.note.jy,.int .i64 b.first.note.start.n,.int .i64 b.first.note.start.d,.int .i64 b.first.note.length.n,.int .i64 b.first.note.length.d,.int .i64 b.first.note.bM.step,.int .i64 b.first.note.bM.alter,.int .i64 b.first.note.bM.bU,.int .i64 b.second.kind,.int .i64 b.second.clock,.int .i64 b.second.ev,.int .i64 b.second.note.id,.int .i64 b.second.note.part,.int .i64 b.second.note.dC,.int .i64 b.second.note.fR,.int .i64 b.second.note.jy,.int .i64 b.second.note.start.n,.int .i64 b.second.note.start.d,.int .i64 b.second.note.length.n,.int .i64 b.second.note.length.d,.int .i64 b.second.note.bM.step,.int .i64 b.second.note.bM.alter,.int .i64 b.second.note.bM.bU]=decide (a=b):=by
 rw[Bool.eq_iff_iff];rcases a with ⟨a1,⟨a2,a3,a4,⟨a5,a6,a7,a8,a9,⟨DN,DO⟩,⟨a12,a13⟩,⟨a14,a15,a16⟩⟩⟩,⟨a17,a18,a19,⟨a20,a21,a22,a23,a24,⟨a25,a26⟩,⟨a27,a28⟩,⟨a29,a30,a31⟩⟩⟩⟩;rcases b with ⟨b1,⟨b2,b3,b4,⟨b5,b6,b7,b8,b9,⟨qd,qe⟩,⟨tO,y8⟩,⟨Ay,JT,Pb⟩⟩⟩,⟨Pc,Pd,Pe,⟨Pf,Pg,Ph,Pj,Pk,⟨Pm,Pn⟩,⟨Po,Pp⟩,⟨Pq,Pr,b31⟩⟩⟩⟩;simp[eO,pd,and_assoc]
theorem kD (a:aJ) (b0:Int) (b1:Int) (b2:Int) (b3:Int) (b4:Int) (b5:Int) (b6:Int) (b7:Int) (b8:Int) (b9:Int) (qd:Int) (qe:Int) (tO:Int) (y8:Int) (Ay:Int) (JT:Int) (Pb:Int) (Pc:Int) (Pd:Int) (Pe:Int) (Pf:Int) (Pg:Int) (Ph:Int) (Pj:Int) (Pk:Int) (Pm:Int) (Pn:Int) (Po:Int) (Pp:Int) (Pq:Int) (Pr:Int):eO [.int .i64 a.note,.int .i64 a.first.kind,.int .i64 a.first.clock,.int .i64 a.first.ev,.int .i64 a.first.note.id,.int .i64 a.first.note.part,.int .i64 a.first.note.dC,.int .i64 a.first.note.fR,.int .i64 a.first.note.jy,.int .i64 a.first.note.start.n,.int .i64 a.first.note.start.d,.int .i64 a.first.note.length.n,.int .i64 a.first.note.length.d,.int .i64 a.first.note.bM.step,.int .i64 a.first.note.bM.alter,.int .i64 a.first.note.bM.bU,.int .i64 a.second.kind,.int .i64 a.second.clock,.int .i64 a.second.ev,.int .i64 a.second.note.id,.int .i64 a.second.note.part,.int .i64 a.second.note.dC,.int .i64 a.second.note.fR,.int .i64 a.second.note.jy,.int .i64 a.second.note.start.n,.int .i64 a.second.note.start.d,.int .i64 a.second.note.length.n,.int .i64 a.second.note.length.d,.int .i64 a.second.note.bM.step,.int .i64 a.second.note.bM.alter,.int .i64 a.second.note.bM.bU] [.int .i64 b0,.int .i64 b1,.int .i64 b2,.int .i64 b3,.int .i64 b4,.int .i64 b5,.int .i64 b6,.int .i64 b7,.int .i64 b8,.int .i64 b9,.int .i64 qd,.int .i64 qe,.int .i64 tO,.int .i64 y8,.int .i64 Ay,.int .i64 JT,.int .i64 Pb,.int .i64 Pc,.int .i64 Pd,.int .i64 Pe,.int .i64 Pf,.int .i64 Pg,.int .i64 Ph,.int .i64 Pj,.int .i64 Pk,.int .i64 Pm,.int .i64 Pn,.int .i64 Po,.int .i64 Pp,.int .i64 Pq,.int .i64 Pr]=decide (a=⟨b0,⟨b1,b2,b3,⟨b4,b5,b6,b7,b8,⟨b9,qd⟩,⟨qe,tO⟩,⟨y8,Ay,JT⟩⟩⟩,⟨Pb,Pc,Pd,⟨Pe,Pf,Pg,Ph,Pj,⟨Pk,Pm⟩,⟨Pn,Po⟩,⟨Pp,Pq,Pr⟩⟩⟩⟩):=jJ a ⟨b0,⟨b1,b2,b3,⟨b4,b5,b6,b7,b8,⟨b9,qd⟩,⟨qe,tO⟩,⟨y8,Ay,JT⟩⟩⟩,⟨Pb,Pc,Pd,⟨Pe,Pf,Pg,Ph,Pj,⟨Pk,Pm⟩,⟨Pn,Po⟩,⟨Pp,Pq,Pr⟩⟩⟩⟩
structure Fraction where
 n:Int
 d:Int
 deriving DecidableEq
instance:au Fraction:=⟨fun r=> .agg [.int .i64 r.n,.int .i64 r.d],fun d=>match d with | .agg [.int _ x0,.int _ x1]=>⟨x0,x1⟩ | _=>⟨0,0⟩,2,fun _=>rfl,fun _=>rfl,by simp[D.cells,D.one,fL]⟩
theorem lz (r:Fraction):au.enc r = .agg [.int .i64 r.n,.int .i64 r.d]:=rfl
theorem kU (k0 k1:IntKind) (x0:Int) (x1:Int):(au.dec (.agg [.int k0 x0,.int k1 x1]):Fraction)=⟨x0,x1⟩:=rfl
theorem mS:au.size Fraction=2:=rfl
theorem lZ (r:Fraction):(⟨r.n,r.d⟩:Fraction)=r:=rfl
theorem jL (a b:Fraction):eO [.int .i64 a.n,.int .i64 a.d] [.int .i64 b.n,.int .i64 b.d]=decide (a=b):=by
 rw[Bool.eq_iff_iff];rcases a with ⟨a1,a2⟩;rcases b with ⟨b1,b2⟩;simp[eO,pd,and_assoc]
theorem kG (a:Fraction) (b0:Int) (b1:Int):eO [.int .i64 a.n,.int .i64 a.d] [.int .i64 b0,.int .i64 b1]=decide (a=⟨b0,b1⟩):=jL a ⟨b0,b1⟩
class e8 where
 on:Prop
def wk:List Int:=[0,2,4,5,7,9,11]
def ac1:Nat→Option D:=fun g=>if g=0 then some (.agg (wk.map au.enc)) else none
instance Cv [e8]:ck:=⟨e8.on,ac1⟩
theorem kQ [e8]:ck.uK 0=some (.agg (wk.map au.enc)):=rfl
theorem km:wk.length=7:=rfl
theorem mixed:Tryz.prog.follows .mixedOrders=true:=by kernel_rfl
def wX:List (Nat×List Lf):=[(4,[.bool]),(46,[.int .i64,.int .i64]),(67,[.int .i64,.int .i64,.int .i64,.int .i64]),(69,[.int .i64,.int .i64]),(48,[.int .i64,.int .i64,.int .i64]),(71,[.int .i64,.int .i64,.int .i64,.int .i64,.int .i64,.int .i64,.int .i64,.int .i64,.int .i64,.int .i64,.int .i64,.int .i64,.int .i64]),(50,[.int .i64,.int .i64,.int .i64,.int .i64,.int .i64,.int .i64,.int .i64,.int .i64,.int .i64,.int .i64,.int .i64,.int .i64]),(52,[.int .i64,.int .i64,.int .i64,.int .i64,.int .i64,.int .i64,.int .i64,.int .i64,.int .i64,.int .i64,.int .i64,.int .i64,.int .i64,.int .i64,.int .i64]),(64,[.int .i64,.int .i64,.int .i64,.int .i64,.int .i64,.int .i64,.int .i64,.int .i64,.int .i64,.int .i64,.int .i64,.int .i64,.int .i64,.int .i64,.int .i64,.int .i64,.int .i64,.int .i64,.int .i64,.int .i64,.int .i64,.int .i64,.int .i64,.int .i64,.int .i64,.int .i64,.int .i64,.int .i64,.int .i64,.int .i64,.int .i64]),(186,[.int .i64,.int .i64])]
theorem aot:GZ Tryz.prog (xv wX):=GZ.aaG (by kernel_rfl)
theorem lN:xv wX 4=some [.bool]:=rfl
theorem lO:xv wX 46=some [.int .i64,.int .i64]:=rfl
theorem lT:xv wX 67=some [.int .i64,.int .i64,.int .i64,.int .i64]:=rfl
theorem lU:xv wX 69=some [.int .i64,.int .i64]:=rfl
theorem lP:xv wX 48=some [.int .i64,.int .i64,.int .i64]:=rfl
theorem lV:xv wX 71=some [.int .i64,.int .i64,.int .i64,.int .i64,.int .i64,.int .i64,.int .i64,.int .i64,.int .i64,.int .i64,.int .i64,.int .i64,.int .i64]:=rfl
theorem lQ:xv wX 50=some [.int .i64,.int .i64,.int .i64,.int .i64,.int .i64,.int .i64,.int .i64,.int .i64,.int .i64,.int .i64,.int .i64,.int .i64]:=rfl
theorem lR:xv wX 52=some [.int .i64,.int .i64,.int .i64,.int .i64,.int .i64,.int .i64,.int .i64,.int .i64,.int .i64,.int .i64,.int .i64,.int .i64,.int .i64,.int .i64,.int .i64]:=rfl
theorem lS:xv wX 64=some [.int .i64,.int .i64,.int .i64,.int .i64,.int .i64,.int .i64,.int .i64,.int .i64,.int .i64,.int .i64,.int .i64,.int .i64,.int .i64,.int .i64,.int .i64,.int .i64,.int .i64,.int .i64,.int .i64,.int .i64,.int .i64,.int .i64,.int .i64,.int .i64,.int .i64,.int .i64,.int .i64,.int .i64,.int .i64,.int .i64,.int .i64]:=rfl
theorem lM:xv wX 186=some [.int .i64,.int .i64]:=rfl
noncomputable def env (l:List (FuncId×an.Spec)):Env:={ E:=gL,C:=im l,xy:=xv wX,P:=Tryz.prog }
theorem aW [ck] {l:List (FuncId×an.Spec)} (h:vF Tryz.prog l):bO Tryz.prog (env l):=haveI:=cJ;⟨ac3,h.ok,aot,(fun _ _ _ _ h=>by cases h),rfl⟩
end Go.Proofs.YtjigeffmmcmlnaaGreatDoor
namespace Go.Proofs.YtjigeffmmcmlnaaGreatDoor
open Go Go.an au
noncomputable def Ja (a0:Int):Option Int:=
 aG (ax (0 - a0)) (some (max a0 (0 - a0)))
noncomputable def aa9 (a0:Int) (a1:Int) (a2:Int):Option Bool:=
 (ak (decide (a1≤a0)) (some (decide (a0≤a2))) (some false))
noncomputable def BD (a0:Int) (a1:Int) (a2:Int):Option Bool:=
 ag (aa9 a0 a1 a2) fun ij=>
 some ij
noncomputable def aa8 (a0:az):Option Bool:=
 (ag (BD a0.step 0 6) fun x2=>
 ak x2 (ag (BD a0.alter (-4) 4) fun x4=>
 ak x4 (ag (BD a0.bU (-8) 20) fun x6=>
 some x6) (some false)) (some false))
noncomputable def De (a0:az):Option Bool:=
 ag (aa8 a0) fun GS=>
 some GS
noncomputable def S7 (a0:az):Option Int:=
 aG (ax (12*a0.bU)) (ag (aP wk a0.step) fun x3=>
 aG (ax ((12*a0.bU)+x3)) (aG (ax (((12*a0.bU)+x3)+a0.alter)) (some (((12*a0.bU)+x3)+a0.alter))))
noncomputable def FA (a0:az):Option (Int×Int):=
 ag (De a0) fun x3=>
 ak (!x3) (some (0,1))
 (ag (S7 a0) fun x8=>
 some (x8,0))
noncomputable def abc (a0:Interval):Option Bool:=
 (ag (BD a0.steps (-70) 70) fun x2=>
 ak x2 (ag (BD a0.gu (-120) 120) fun x4=>
 some x4) (some false))
noncomputable def S5 (a0:Interval):Option Bool:=
 ag (abc a0) fun GO=>
 some GO
noncomputable def S3 (a0:Interval):Option (Interval×Int):=
 ag (S5 a0) fun x3=>
 ak (!x3) (some ((⟨0,0⟩:Interval),1))
 (aG (ax (0 - a0.steps)) (aG (ax (0 - a0.gu)) (some ((⟨(0 - a0.steps),(0 - a0.gu)⟩:Interval),0))))
noncomputable def RY (a0:Interval):Option Bool:=
 ag (S3 a0) fun(x2,x3)=>
 some (decide (x3=0))
noncomputable def MD (a0:Interval):Option (Int×Int):=
 ag (RY a0) fun x3=>
 ak (!x3) (some (0,1))
 (aG (ax (7*a0.gu)) (aG (ax (12*a0.steps)) (aG (ax ((7*a0.gu) - (12*a0.steps))) (some (((7*a0.gu) - (12*a0.steps)),0)))))
noncomputable def ajk (a0:Int) (a1:Int) (a2:Int):Option Bool:=
 (ak (decide (a1≤a0)) (some (decide (a0≤a2))) (some false))
noncomputable def Da (a0:Int) (a1:Int) (a2:Int):Option Bool:=
 ag (ajk a0 a1 a2) fun ij=>
 some ij
noncomputable def IE (a0:Int):Option Bool:=
 ag (Da a0 1 1000000) fun x2=>
 some x2
noncomputable def SJ (bE:Int) (Gv:(List (Int×Int))):Option (((List (Int×Int))×Int)⊕(((List (Int×Int))))):=
 aG (ax (bE+1)) (some (.inl (Gv,(bE+1))))
noncomputable def ID (a0:(List aT)):((List (Int×Int))×Int)→Option (((List (Int×Int))×Int)⊕(((List (Int×Int))))):=fun(bj,bE)=>
 ak (decide (bE < (a0.length:Int))) (ag (aP a0 bE) fun ry=>
 SJ bE (cq bj ry.id bE))
 (some (.inr bj))
noncomputable def aax (jH:(List (Int×Int))):Option (List (Int×Int)):=
 some jH
noncomputable def IC (a0:(List aT)):Option (List (Int×Int)):=
 ag (aH (ID a0) ([],0)) fun ays=>
 aax ays
noncomputable def amk (a0:Int) (a1:Int) (a2:Int):Option Bool:=
 (ak (decide (a1≤a0)) (some (decide (a0≤a2))) (some false))
noncomputable def wE (a0:Int) (a1:Int) (a2:Int):Option Bool:=
 ag (amk a0 a1 a2) fun ij=>
 some ij
noncomputable def FT (a0:Int):Option Bool:=
 ag (wE a0 1 1000000) fun x2=>
 some x2
noncomputable def afA (a0:Int) (a1:Int):Option Bool:=
 (ak (decide (1≤a0)) (some (decide (a0≤a1))) (some false))
noncomputable def Ep (a0:Int) (a1:Int):Option Bool:=
 ag (afA a0 a1) fun yY=>
 some yY
noncomputable def VK (a0:aa):Option Bool:=
 (ag (Ep a0.clock 1000000000) fun x3=>
 ak (!x3) (some true) (ag (Ep a0.ev 1000000) fun x5=>
 ak (!x5) (some true) (ag (Ep a0.note.id 1000000) fun x7=>
 some (!x7))))
noncomputable def VL (a0:aa):Option Bool:=
 (ak (decide (a0.kind=1)) (some true) (ak (decide (a0.kind=2)) (some (decide (a0.note=(⟨a0.note.id,0,0,0,0,(⟨0,0⟩:Rat),(⟨0,0⟩:Rat),(⟨0,0,0⟩:az)⟩:ae)))) (some false)))
noncomputable def Hu (a0:aa):Option Bool:=
 ag (VK a0) fun GX=>
 ak GX (some false)
 (ag (VL a0) fun Gm=>
 some Gm)
noncomputable def Qo (a0:ae):Option Int:=
 some a0.id
noncomputable def Cy (a0:aa):Option P2:=
 some (⟨a0.clock,a0.ev⟩:P2)
noncomputable def VI (bj:(List (P2×aa))) (oN:aa) (tF:P2):Option Bool:=
 (ak (pU bj tF) (some (!decide (oN=(o4 bj tF (⟨0,0,0,(⟨0,0,0,0,0,(⟨0,0⟩:Rat),(⟨0,0⟩:Rat),(⟨0,0,0⟩:az)⟩:ae)⟩:aa))))) (some false))
noncomputable def Qn (bB:Int) (B9:(List (P2×aa))):Option (((List (P2×aa))×Int)⊕((Bool)⊕(Unit))):=
 aG (ax (bB+1)) (some (.inl (B9,(bB+1))))
noncomputable def KT (a0:(List aa)):((List (P2×aa))×Int)→Option (((List (P2×aa))×Int)⊕((Bool)⊕(Unit))):=fun(bj,bB)=>
 ak (decide (bB < (a0.length:Int))) (ag (aP a0 bB) fun oN=>
 ag (Cy oN) fun tF=>
 ag (VI bj oN tF) fun aey=>
 ak aey (some (.inr (.inl false)))
 (ag (Cy oN) fun UT=>
 Qn bB (pV bj UT oN)))
 (some (.inr (.inr ())))
noncomputable def VH:Option Bool:=
 some true
noncomputable def En (a0:(List aa)):Option Bool:=
 ag (aH (KT a0) ([],0)) fun o57=>
 match o57 with
 | .inl ayV=>some ayV
 | .inr ()=>VH
noncomputable def isNaN (a0:Int):Option Bool:=
 some false
noncomputable def KD (a0:Int) (a1:Int):Option Int:=
 ag (isNaN a0) fun x2=>
 ag (isNaN a1) fun x5=>
 ak x2 (ak x5 (some 0)
 (some (-1)))
 (ak x5 (some 1)
 (ak (decide (a0 < a1)) (some (-1))
 (ak (decide (a1 < a0)) (some 1)
 (some 0))))
noncomputable def P4 (aO:Int):Option ((Int)⊕((Int)⊕(Unit))):=
 aG (ax (aO+1)) (some (.inl (aO+1)))
noncomputable def Cq (a0:(List Int)):Int→Option ((Int)⊕((Int)⊕(Unit))):=fun(aO:Int)=>
 ak (decide (aO < (a0.length:Int))) (ag (aP a0 aO) fun ig=>
 ak (!decide (ig=0)) (some (.inr (.inl ig)))
 (P4 aO))
 (some (.inr (.inr ())))
noncomputable def P3:Option Int:=
 some 0
noncomputable def KF (a0:(List Int)):Option Int:=
 ag (aH (Cq a0) 0) fun o33=>
 match o33 with
 | .inl ayy=>some ayy
 | .inr ()=>P3
noncomputable def Dp (bB:Int):Option ((Int)⊕((Int)⊕(Unit))):=
 aG (ax (bB+1)) (some (.inl (bB+1)))
noncomputable def wB (a0:(List Int)) (a1:(List Int)):Int→Option ((Int)⊕((Int)⊕(Unit))):=fun(bB:Int)=>
 ak (decide (bB < (a0.length:Int))) (ag (aP a0 bB) fun B5=>
 ak (decide ((a1.length:Int)≤bB)) (some (.inr (.inl 1)))
 (ag (aP a1 bB) fun pY=>
 ag (KD B5 pY) fun wM=>
 ak (!decide (wM=0)) (some (.inr (.inl wM)))
 (Dp bB)))
 (some (.inr (.inr ())))
noncomputable def Ul (a0:(List Int)) (a1:(List Int)):Option Int:=
 ak (decide ((a0.length:Int) < (a1.length:Int))) (some (-1))
 (some 0)
noncomputable def Ou (a0:(List Int)) (a1:(List Int)):Option Int:=
 ag (aH (wB a0 a1) 0) fun o52=>
 match o52 with
 | .inl ayS=>some ayS
 | .inr ()=>Ul a0 a1
noncomputable def Cw (a0:aa) (a1:aa):Option Int:=
 ag (Cy a0) fun x2=>
 ag (Cy a1) fun x4=>
 ag (Ou ([x2.a0,x2.a1]) ([x4.a0,x4.a1])) fun x7=>
 some x7
noncomputable def VO (bj:(List (Int×aa))) (oM:aa):Option Bool:=
 (ak (!(eu bj oM.note.id)) (some true) (ag (Cw oM (aV bj oM.note.id (⟨0,0,0,(⟨0,0,0,0,0,(⟨0,0⟩:Rat),(⟨0,0⟩:Rat),(⟨0,0,0⟩:az)⟩:ae)⟩:aa))) fun JH=>
 some (decide (0 < JH))))
noncomputable def KV (bB:Int) (GH:(List (Int×aa))):Option (((List (Int×aa))×Int)⊕(((List (Int×aa))))):=
 aG (ax (bB+1)) (some (.inl (GH,(bB+1))))
noncomputable def KW (a0:(List aa)):((List (Int×aa))×Int)→Option (((List (Int×aa))×Int)⊕(((List (Int×aa))))):=fun(bj,bB)=>
 ak (decide (bB < (a0.length:Int))) (ag (aP a0 bB) fun oM=>
 ag (VO bj oM) fun aes=>
 ak aes (KV bB (cq bj oM.note.id oM))
 (KV bB bj))
 (some (.inr bj))
noncomputable def VN (jH:(List (Int×aa))):Option (List (Int×aa)):=
 some jH
noncomputable def vM (a0:(List aa)):Option (List (Int×aa)):=
 ag (aH (KW a0) ([],0)) fun ayM=>
 VN ayM
noncomputable def abo (a0:Int) (a1:Int) (a2:Int):Option Bool:=
 (ak (decide (a1≤a0)) (some (decide (a0≤a2))) (some false))
noncomputable def BG (a0:Int) (a1:Int) (a2:Int):Option Bool:=
 ag (abo a0 a1 a2) fun ij=>
 some ij
noncomputable def Tc (GF:Int):Option Int:=
 some GF
noncomputable def Tb (a0:Int):Option Int:=
 aG (ax (2*a0)) (ak (decide (2 < a0)) (aG (ax ((2*a0) - 1)) (Tc ((2*a0) - 1)))
 (Tc (2*a0)))
noncomputable def xA (a0:az):Option Int:=
 aG (ax (12*a0.bU)) (ag (Tb a0.step) fun x3=>
 aG (ax ((12*a0.bU)+x3)) (aG (ax (((12*a0.bU)+x3)+a0.alter)) (some (((12*a0.bU)+x3)+a0.alter))))
noncomputable def abn (a0:az) (x2:Bool) (x5:Bool):Option Bool:=
 (ak x2 (ak x5 (ag (BG a0.bU (-8) 20) fun x8=>
 some x8) (some false)) (some false))
noncomputable def FE (a0:az):Option Bool:=
 ag (BG a0.step 0 6) fun x2=>
 ag (BG a0.alter (-4) 4) fun x5=>
 ag (abn a0 x2 x5) fun adC=>
 some adC
noncomputable def abm (a0:az) (x2:Bool):Option Bool:=
 (ak x2 (ag (BG a0.alter (-2) 2) fun x5=>
 ak x5 (ag (BG a0.bU 0 9) fun x7=>
 some x7) (some false)) (some false))
noncomputable def Ni (a0:az):Option Bool:=
 ag (FE a0) fun x2=>
 ag (abm a0 x2) fun aeI=>
 some aeI
noncomputable def ako (a0:Int) (a1:Int) (a2:Int):Option Bool:=
 (ak (decide (a1≤a0)) (some (decide (a0≤a2))) (some false))
noncomputable def Nk (a0:Int) (a1:Int) (a2:Int):Option Bool:=
 ag (ako a0 a1 a2) fun ij=>
 some ij
noncomputable def abp (a0:Interval):Option Bool:=
 (ag (Nk a0.steps (-70) 70) fun x2=>
 ak x2 (ag (Nk a0.gu (-120) 120) fun x4=>
 some x4) (some false))
noncomputable def Td (a0:Interval):Option Bool:=
 ag (abp a0) fun GO=>
 some GO
noncomputable def Nj (a0:Interval):Option (Int×Int):=
 ag (Td a0) fun x3=>
 ak (!x3) (some (0,1))
 (aG (ax (7*a0.gu)) (aG (ax (12*a0.steps)) (aG (ax ((7*a0.gu) - (12*a0.steps))) (some (((7*a0.gu) - (12*a0.steps)),0)))))
noncomputable def Di:(Int×Int)→Option ((Int×Int)⊕((Int))):=fun(Ca,uy)=>
 ak (!decide (uy=0)) (aG (uy≠0) (some (.inl (uy,(Int.tmod Ca uy)))))
 (some (.inr Ca))
noncomputable def Ti (Gq:Int):Option Int:=
 some Gq
noncomputable def Np (a0:Int) (a1:Int):Option Int:=
 ag (aH Di (a0,a1)) fun ayo=>
 Ti ayo
noncomputable def abq (a0:Rat):Option Bool:=
 (ak (decide (a0.d < 1)) (some true) (aG (a0.d≠0) (ak (!decide ((Int.tmod 1680 a0.d)=0)) (some true) (ak (decide (a0.n < 0)) (some true) (ak (decide (1000000000 < a0.n)) (some true) (ag (Np a0.n a0.d) fun x4=>
 some (!decide (x4=1))))))))
noncomputable def BI (a0:Rat):Option Int:=
 ag (abq a0) fun aet=>
 ak aet (some (-1))
 (aG (a0.d≠0) (aG (ax (Int.tdiv 1680 a0.d)) (aG (ax (a0.n*(Int.tdiv 1680 a0.d))) (some (a0.n*(Int.tdiv 1680 a0.d))))))
noncomputable def abr (a0:(List aT)):Option Bool:=
 (ak (decide ((a0.length:Int) < 1)) (some true) (some (decide (4000 < (a0.length:Int)))))
noncomputable def Th (a0:(List aT)) (cI:Int) (JC:Int):Option Bool:=
 (ag (aP a0 cI) fun xJ=>
 ak (decide (xJ.id < 1)) (some true) (ak (decide (1000000 < xJ.id)) (some true) (ak (decide (JC < 1)) (some true) (ak (decide (40320 < JC)) (some true) (ak (decide (xJ.key < (-7))) (some true) (some (decide (7 < xJ.key))))))))
noncomputable def Tg (ux:Int):Option ((Int)⊕((Bool)⊕(Unit))):=
 aG (ax (ux+1)) (some (.inl (ux+1)))
noncomputable def No (a0:(List aT)) (cI:Int):Int→Option ((Int)⊕((Bool)⊕(Unit))):=fun(ux:Int)=>
 ak (decide (ux < cI)) (ag (aP a0 ux) fun adv=>
 ag (aP a0 cI) fun adw=>
 ak (decide (adv.id=adw.id)) (some (.inr (.inl false)))
 (Tg ux))
 (some (.inr (.inr ())))
noncomputable def Te (cI:Int):Option ((Int)⊕((Bool)⊕(Unit))):=
 aG (ax (cI+1)) (some (.inl (cI+1)))
noncomputable def Nn (a0:(List aT)):Int→Option ((Int)⊕((Bool)⊕(Unit))):=fun(cI:Int)=>
 ak (decide (cI < (a0.length:Int))) (ag (aP a0 cI) fun amN=>
 ag (BI amN.length) fun JC=>
 ag (Th a0 cI JC) fun adW=>
 ak adW (some (.inr (.inl false)))
 (ag (aH (No a0 cI) 0) fun ajv=>
 match ajv with
 | .inl aym=>some (.inr (.inl aym))
 | .inr ()=>Te cI))
 (some (.inr (.inr ())))
noncomputable def Tf:Option Bool:=
 some true
noncomputable def IM (a0:(List aT)):Option Bool:=
 ag (abr a0) fun Gw=>
 ak Gw (some false)
 (ag (aH (Nn a0) 0) fun ajr=>
 match ajr with
 | .inl ayn=>some ayn
 | .inr ()=>Tf)
noncomputable def aku (a0:Int) (a1:Int) (a2:Int):Option Bool:=
 (ak (decide (a1≤a0)) (some (decide (a0≤a2))) (some false))
noncomputable def FF (a0:Int) (a1:Int) (a2:Int):Option Bool:=
 ag (aku a0 a1 a2) fun ij=>
 some ij
noncomputable def Tj (aD:Int):Option ((Int)⊕((Int)⊕(Unit))):=
 aG (ax (aD+1)) (some (.inl (aD+1)))
noncomputable def Nq (a0:(List aT)) (a1:Int):Int→Option ((Int)⊕((Int)⊕(Unit))):=fun(aD:Int)=>
 ak (decide (aD < (a0.length:Int))) (ag (aP a0 aD) fun iE=>
 ak (decide (iE.id=a1)) (some (.inr (.inl aD)))
 (Tj aD))
 (some (.inr (.inr ())))
noncomputable def abt:Option Int:=
 some (-1)
noncomputable def IN (a0:(List aT)) (a1:Int):Option Int:=
 ag (aH (Nq a0 a1) 0) fun Db=>
 match Db with
 | .inl Nh=>some Nh
 | .inr ()=>abt
noncomputable def akz (a0:Int) (a1:Int) (a2:Int):Option Bool:=
 (ak (decide (a1≤a0)) (some (decide (a0≤a2))) (some false))
noncomputable def vo (a0:Int) (a1:Int) (a2:Int):Option Bool:=
 ag (akz a0 a1 a2) fun ij=>
 some ij
noncomputable def Tx (aD:Int):Option ((Int)⊕((Int)⊕(Unit))):=
 aG (ax (aD+1)) (some (.inl (aD+1)))
noncomputable def ND (a0:(List Part)) (a1:Int):Int→Option ((Int)⊕((Int)⊕(Unit))):=fun(aD:Int)=>
 ak (decide (aD < (a0.length:Int))) (ag (aP a0 aD) fun iE=>
 ak (decide (iE.id=a1)) (some (.inr (.inl aD)))
 (Tx aD))
 (some (.inr (.inr ())))
noncomputable def abB:Option Int:=
 some (-1)
noncomputable def FH (a0:(List Part)) (a1:Int):Option Int:=
 ag (aH (ND a0 a1) 0) fun Db=>
 match Db with
 | .inl Nh=>some Nh
 | .inr ()=>abB
noncomputable def Tw (aD:Int):Option ((Int)⊕((Int)⊕(Unit))):=
 aG (ax (aD+1)) (some (.inl (aD+1)))
noncomputable def NB (a0:(List ae)) (a1:Int):Int→Option ((Int)⊕((Int)⊕(Unit))):=fun(aD:Int)=>
 ak (decide (aD < (a0.length:Int))) (ag (aP a0 aD) fun iE=>
 ak (decide (iE.id=a1)) (some (.inr (.inl aD)))
 (Tw aD))
 (some (.inr (.inr ())))
noncomputable def aby:Option Int:=
 some (-1)
noncomputable def wv (a0:(List ae)) (a1:Int):Option Int:=
 ag (aH (NB a0 a1) 0) fun Db=>
 match Db with
 | .inl Nh=>some Nh
 | .inr ()=>aby
noncomputable def TB (aD:Int):Option ((Int)⊕((Bool)⊕(Unit))):=
 aG (ax (aD+1)) (some (.inl (aD+1)))
noncomputable def NH (a0:(List aT)) (a1:(List aT)):Int→Option ((Int)⊕((Bool)⊕(Unit))):=fun(aD:Int)=>
 ak (decide (aD < (a0.length:Int))) (ag (aP a0 aD) fun ej=>
 ag (aP a1 aD) fun fH=>
 ak (!decide (ej=fH)) (some (.inr (.inl false)))
 (TB aD))
 (some (.inr (.inr ())))
noncomputable def TA:Option Bool:=
 some true
noncomputable def IV (a0:(List aT)) (a1:(List aT)):Option Bool:=
 ak (!decide ((a0.length:Int)=(a1.length:Int))) (some false)
 (ag (aH (NH a0 a1) 0) fun qB=>
 match qB with
 | .inl yQ=>some yQ
 | .inr ()=>TA)
noncomputable def TE (aD:Int):Option ((Int)⊕((Bool)⊕(Unit))):=
 aG (ax (aD+1)) (some (.inl (aD+1)))
noncomputable def NI (a0:(List Part)) (a1:(List Part)):Int→Option ((Int)⊕((Bool)⊕(Unit))):=fun(aD:Int)=>
 ak (decide (aD < (a0.length:Int))) (ag (aP a0 aD) fun ej=>
 ag (aP a1 aD) fun fH=>
 ak (!decide (ej=fH)) (some (.inr (.inl false)))
 (TE aD))
 (some (.inr (.inr ())))
noncomputable def TC:Option Bool:=
 some true
noncomputable def IW (a0:(List Part)) (a1:(List Part)):Option Bool:=
 ak (!decide ((a0.length:Int)=(a1.length:Int))) (some false)
 (ag (aH (NI a0 a1) 0) fun qB=>
 match qB with
 | .inl yQ=>some yQ
 | .inr ()=>TC)
noncomputable def Tn (aD:Int):Option ((Int)⊕((Bool)⊕(Unit))):=
 aG (ax (aD+1)) (some (.inl (aD+1)))
noncomputable def Nt (a0:(List ae)) (a1:(List ae)):Int→Option ((Int)⊕((Bool)⊕(Unit))):=fun(aD:Int)=>
 ak (decide (aD < (a0.length:Int))) (ag (aP a0 aD) fun ej=>
 ag (aP a1 aD) fun fH=>
 ak (!decide (ej=fH)) (some (.inr (.inl false)))
 (Tn aD))
 (some (.inr (.inr ())))
noncomputable def Tl:Option Bool:=
 some true
noncomputable def Ns (a0:(List ae)) (a1:(List ae)):Option Bool:=
 ak (!decide ((a0.length:Int)=(a1.length:Int))) (some false)
 (ag (aH (Nt a0 a1) 0) fun qB=>
 match qB with
 | .inl yQ=>some yQ
 | .inr ()=>Tl)
noncomputable def TG (a0:Score) (a1:Score) (x2:Bool) (x5:Bool) (x8:Bool):Option Bool:=
 (ak (decide (a0.version=a1.version)) (ak x2 (ak x5 (some x8) (some false)) (some false)) (some false))
noncomputable def z7 (a0:Score) (a1:Score):Option Bool:=
 ag (IV a0.bars a1.bars) fun x2=>
 ag (IW a0.parts a1.parts) fun x5=>
 ag (Ns a0.notes a1.notes) fun x8=>
 ag (TG a0 a1 x2 x5 x8) fun adL=>
 some adL
noncomputable def Tv (a0:Score):Option Bool:=
 (ak (decide ((a0.bars.length:Int)≤60)) (ak (decide ((a0.parts.length:Int)≤61)) (some (decide ((a0.notes.length:Int)≤60))) (some false)) (some false))
noncomputable def IT (a0:Score):Option Bool:=
 ag (Tv a0) fun Gr=>
 some Gr
noncomputable def akF (a0:Int) (a1:Int) (a2:Int):Option Bool:=
 (ak (decide (a1≤a0)) (some (decide (a0≤a2))) (some false))
noncomputable def FP (a0:Int) (a1:Int) (a2:Int):Option Bool:=
 ag (akF a0 a1 a2) fun ij=>
 some ij
noncomputable def abS (a0:aa) (a1:aa):Option Bool:=
 (ak (decide (a1.clock < a0.clock)) (some true) (ak (decide (a0.clock=a1.clock)) (some (decide (a1.ev < a0.ev))) (some false)))
noncomputable def Aa (a0:aa) (a1:aa):Option Bool:=
 ag (abS a0 a1) fun yY=>
 some yY
noncomputable def abW (a0:aa) (a1:aa):Option Bool:=
 (ak (decide (a0.clock=a1.clock)) (some (decide (a0.ev=a1.ev))) (some false))
noncomputable def N3 (a0:aa) (a1:aa):Option Bool:=
 ag (abW a0 a1) fun yY=>
 some yY
noncomputable def abR (a0:(List aa)) (a1:Int) (aD:Int) (ct:Int):Option Bool:=
 (ag (aP a0 ct) fun JH=>
 ak (decide (JH.note.id=a1)) (ak (decide (aD < 0)) (some true) (ag (aP a0 aD) fun x66=>
 ag (Aa JH x66) fun oN=>
 some oN)) (some false))
noncomputable def NU (ct:Int) (GL:Int):Option ((Int×Int)⊕((Int))):=
 aG (ax (ct+1)) (some (.inl (GL,(ct+1))))
noncomputable def FJ (a0:(List aa)) (a1:Int):(Int×Int)→Option ((Int×Int)⊕((Int))):=fun(aD,ct)=>
 ak (decide (ct < (a0.length:Int))) (ag (abR a0 a1 aD ct) fun aew=>
 ak aew (NU ct ct)
 (NU ct aD))
 (some (.inr aD))
noncomputable def abQ (sH:Int):Option Int:=
 some sH
noncomputable def tz (a0:(List aa)) (a1:Int):Option Int:=
 ag (aH (FJ a0 a1) ((-1),0)) fun ayR=>
 abQ ayR
noncomputable def T0 (aD:Int):Option ((Int)⊕((Bool)⊕(Unit))):=
 aG (ax (aD+1)) (some (.inl (aD+1)))
noncomputable def N2 (a0:(List aa)) (a1:(List aa)):Int→Option ((Int)⊕((Bool)⊕(Unit))):=fun(aD:Int)=>
 ak (decide (aD < (a0.length:Int))) (ag (aP a0 aD) fun ej=>
 ag (aP a1 aD) fun fH=>
 ak (!decide (ej=fH)) (some (.inr (.inl false)))
 (T0 aD))
 (some (.inr (.inr ())))
noncomputable def TZ:Option Bool:=
 some true
noncomputable def Ab (a0:(List aa)) (a1:(List aa)):Option Bool:=
 ak (!decide ((a0.length:Int)=(a1.length:Int))) (some false)
 (ag (aH (N2 a0 a1) 0) fun qB=>
 match qB with
 | .inl yQ=>some yQ
 | .inr ()=>TZ)
noncomputable def TW (aD:Int):Option ((Int)⊕((Bool)⊕(Unit))):=
 aG (ax (aD+1)) (some (.inl (aD+1)))
noncomputable def N0 (a0:(List aJ)) (a1:(List aJ)):Int→Option ((Int)⊕((Bool)⊕(Unit))):=fun(aD:Int)=>
 ak (decide (aD < (a0.length:Int))) (ag (aP a0 aD) fun ej=>
 ag (aP a1 aD) fun fH=>
 ak (!decide (ej=fH)) (some (.inr (.inl false)))
 (TW aD))
 (some (.inr (.inr ())))
noncomputable def TV:Option Bool:=
 some true
noncomputable def FL (a0:(List aJ)) (a1:(List aJ)):Option Bool:=
 ak (!decide ((a0.length:Int)=(a1.length:Int))) (some false)
 (ag (aH (N0 a0 a1) 0) fun qB=>
 match qB with
 | .inl yQ=>some yQ
 | .inr ()=>TV)
noncomputable def TY (aD:Int):Option ((Int)⊕((Bool)⊕(Unit))):=
 aG (ax (aD+1)) (some (.inl (aD+1)))
noncomputable def N1 (a0:(List Int)) (a1:(List Int)):Int→Option ((Int)⊕((Bool)⊕(Unit))):=fun(aD:Int)=>
 ak (decide (aD < (a0.length:Int))) (ag (aP a0 aD) fun ej=>
 ag (aP a1 aD) fun fH=>
 ak (!decide (ej=fH)) (some (.inr (.inl false)))
 (TY aD))
 (some (.inr (.inr ())))
noncomputable def TX:Option Bool:=
 some true
noncomputable def FM (a0:(List Int)) (a1:(List Int)):Option Bool:=
 ak (!decide ((a0.length:Int)=(a1.length:Int))) (some false)
 (ag (aH (N1 a0 a1) 0) fun qB=>
 match qB with
 | .inl yQ=>some yQ
 | .inr ()=>TX)
noncomputable def abP (a0:(List aa)):Option Bool:=
 (ak (decide ((a0.length:Int)≤30)) (some true) (ak (decide (1000 < (a0.length:Int))) (some (decide ((a0.length:Int) < 2000))) (some false)))
noncomputable def NT (a0:(List aa)):Option Bool:=
 ag (abP a0) fun Gr=>
 some Gr
noncomputable def ab3 (a0:(List ae)) (a2:Int) (n3:Int) (aO:Int):Option Bool:=
 (ag (aP a0 aO) fun oM=>
 ak (decide (a2 < oM.id)) (ak (decide (n3 < 0)) (some true) (some (decide (oM.id < n3)))) (some false))
noncomputable def N9 (aO:Int) (GI:Int):Option ((Int×Int)⊕((Int))):=
 aG (ax (aO+1)) (some (.inl (GI,(aO+1))))
noncomputable def I7 (a0:(List ae)) (a2:Int):(Int×Int)→Option ((Int×Int)⊕((Int))):=fun(n3,aO)=>
 ak (decide (aO < (a0.length:Int))) (ag (ab3 a0 a2 n3 aO) fun aer=>
 ak aer (ag (aP a0 aO) fun pY=>
 N9 aO pY.id)
 (N9 aO n3))
 (some (.inr n3))
noncomputable def ab2 (a1:(List ae)) (a2:Int) (y0:Int) (pZ:Int):Option Bool:=
 (ag (aP a1 pZ) fun adn=>
 ak (decide (a2 < adn.id)) (ak (decide (y0 < 0)) (some true) (some (decide (adn.id < y0)))) (some false))
noncomputable def N8 (pZ:Int) (Gi:Int):Option ((Int×Int)⊕((Int))):=
 aG (ax (pZ+1)) (some (.inl (Gi,(pZ+1))))
noncomputable def I6 (a1:(List ae)) (a2:Int):(Int×Int)→Option ((Int×Int)⊕((Int))):=fun(y0,pZ)=>
 ak (decide (pZ < (a1.length:Int))) (ag (ab2 a1 a2 y0 pZ) fun adQ=>
 ak adQ (ag (aP a1 pZ) fun ado=>
 N8 pZ ado.id)
 (N8 pZ y0))
 (some (.inr y0))
noncomputable def ab1 (GQ:Int):Option Int:=
 some GQ
noncomputable def T6 (a1:(List ae)) (a2:Int) (ik:Int):Option Int:=
 ag (aH (I6 a1 a2) (ik,0)) fun ayb=>
 ab1 ayb
noncomputable def N7 (a0:(List ae)) (a1:(List ae)) (a2:Int):Option Int:=
 ag (aH (I7 a0 a2) ((-1),0)) fun ayN=>
 T6 a1 a2 ayN
noncomputable def abM (a0:(List aa)) (bj:Int) (sI:Int):Option Bool:=
 (ag (aP a0 bj) fun adt=>
 ag (aP a0 sI) fun adu=>
 ag (N3 adt adu) fun amS=>
 ak amS (some (!decide (adt=adu))) (some false))
noncomputable def TN (sI:Int):Option ((Int)⊕((Bool)⊕(Unit))):=
 aG (ax (sI+1)) (some (.inl (sI+1)))
noncomputable def NR (a0:(List aa)) (bj:Int):Int→Option ((Int)⊕((Bool)⊕(Unit))):=fun(sI:Int)=>
 ak (decide (sI < bj)) (ag (abM a0 bj sI) fun ad0=>
 ak ad0 (some (.inr (.inl false)))
 (TN sI))
 (some (.inr (.inr ())))
noncomputable def TM (bj:Int):Option ((Int)⊕((Bool)⊕(Unit))):=
 aG (ax (bj+1)) (some (.inl (bj+1)))
noncomputable def NQ (a0:(List aa)):Int→Option ((Int)⊕((Bool)⊕(Unit))):=fun(bj:Int)=>
 ak (decide (bj < (a0.length:Int))) (ag (aH (NR a0 bj) 0) fun aju=>
 match aju with
 | .inl ayj=>some (.inr (.inl ayj))
 | .inr ()=>TM bj)
 (some (.inr (.inr ())))
noncomputable def abL:Option Bool:=
 some true
noncomputable def NP (a0:(List aa)):Option Bool:=
 ag (aH (NQ a0) 0) fun ajq=>
 match ajq with
 | .inl ayk=>some ayk
 | .inr ()=>abL
noncomputable def abY (a0:aa):Option Bool:=
 (ag (FP a0.clock 1 1000000000) fun x3=>
 ak (!x3) (some true) (ag (FP a0.ev 1 1000000) fun x5=>
 ak (!x5) (some true) (ag (FP a0.note.id 1 1000000) fun x7=>
 some (!x7))))
noncomputable def abZ (a0:aa):Option Bool:=
 (ak (decide (a0.kind=1)) (some true) (ak (decide (a0.kind=2)) (some (decide (a0.note=(⟨a0.note.id,0,0,0,0,(⟨0,0⟩:Rat),(⟨0,0⟩:Rat),(⟨0,0,0⟩:az)⟩:ae)))) (some false)))
noncomputable def I4 (a0:aa):Option Bool:=
 ag (abY a0) fun GX=>
 ak GX (some false)
 (ag (abZ a0) fun Gm=>
 some Gm)
noncomputable def akH (ct:Int) (aAZ:(List ae)):Option (((List ae)×Int)⊕(((List ae)))):=
 aG (ax (ct+1)) (some (.inl (aAZ,(ct+1))))
noncomputable def azn (a0:(List ae)) (a1:Int):((List ae)×Int)→Option (((List ae)×Int)⊕(((List ae)))):=fun(aD,ct)=>
 ak (decide (ct < (a0.length:Int))) (ag (aP a0 ct) fun gY=>
 ak (!decide (gY.id=a1)) (ag (aP a0 ct) fun rA=>
 aG (((aD++[rA]):List ae).length*96≤140737488355328) (akH ct (aD++[rA])))
 (akH ct aD))
 (some (.inr aD))
noncomputable def azm (sH:(List ae)):Option (List ae):=
 some sH
noncomputable def azl (a0:(List ae)) (a1:Int):Option (List ae):=
 ag (aH (azn a0 a1) ([],0)) fun ayD=>
 azm ayD
@[reducible] def aw4:e8:=⟨False⟩
attribute [local instance] cJ aw4
section
variable {α:Type}
theorem aao (n:Int) (p:Int×α) (m:List (Int×α)):gU n (p::m)=if n=p.1 then some 0 else(gU n m).map (· + 1):=by
 unfold gU
 rw[List.findIdx?_cons]
 by_cases h:n=p.1<;>simp[h]
theorem MV (n:Int) (v:α):cq [] n v=[(n,v)]:=rfl
theorem MU (n:Int) (v:α) (p:Int×α) (m:List (Int×α)):cq (p::m) n v=if n=p.1 then(n,v)::m else p::cq m n v:=by
 unfold cq
 rw[aao]
 by_cases h:n=p.1
 ·rw[if_pos h,if_pos h];rfl
 rw[if_neg h,if_neg h]
 cases gU n m<;>simp
theorem Ft (n:Int) (z:α) (p:Int×α) (m:List (Int×α)):aV (p::m) n z=if n=p.1 then p.2 else aV m n z:=by
 unfold aV
 rw[aao]
 by_cases h:n=p.1
 ·rw[if_pos h,if_pos h];rfl
 rw[if_neg h,if_neg h]
 cases gU n m<;>simp
theorem Zu (n:Int) (v:α):∀ (m:List (Int×α)),(aA m).Nodup→(aA (cq m n v)).Nodup∧∀ k,k∈aA (cq m n v)↔k=n∨k∈aA m
 | [],_=>by simp[MV,aA]
 | (a,b)::m,hn=>by
  have yw:=hn
  simp only[aA,List.map_cons,List.nodup_cons] at hn
  obtain⟨h1,h2⟩:=Zu n v m hn.2
  rw[MU]
  by_cases h:n=a
  ·subst h
   simp only[if_true]
   refine⟨by simpa [aA] using yw,fun k=>by simp[aA]⟩
  simp only[if_neg h]
  refine⟨?_,fun k=>?_⟩
  ·simp only[aA,List.map_cons,List.nodup_cons]
   refine⟨fun hm=>?_,h1⟩
   rcases (h2 a).1 hm with h3 | h3
   ·exact h h3.symm
   exact hn.1 h3
  simp only[aA,List.map_cons,List.mem_cons]
  have:=h2 k
  simp only[aA] at this
  rw[this]
  constructor
  ·rintro(h3 | h3 | h3)
   ·exact .inr (.inl h3)
   ·exact .inl h3
   exact .inr (.inr h3)
  rintro(h3 | h3 | h3)
  ·exact .inr (.inl h3)
  ·exact .inl h3
  exact .inr (.inr h3)
end
theorem wj {α:Type} (n:Int):∀ (m:List (Int×α)),eu m n=true↔n∈aA m
 | []=>by simp[eu,gU,aA]
 | p::m=>by
  have ih:=wj n m
  simp only[eu,aao,aA,List.map_cons,List.mem_cons] at ih ⊢
  by_cases h:n=p.1
  ·simp[h]
  simp only[h,if_false,false_or,Option.isSome_map];exact ih
theorem avB {α:Type} {m:List (Int×α)} {n:Int} (v:α) (h:n∉aA m):cq m n v=m++[(n,v)]:=by
 have:gU n m=none:=by
  have:=mt (wj n m).1 h
  unfold eu at this
  cases hx:gU n m with
  | none=>rfl
  | some j=>rw[hx] at this;simp at this
 simp[cq,this]
theorem MP {α:Type} (n:Int) (v:α) (k:Int) (z:α):∀ (m:List (Int×α)),aV (cq m n v) k z=if k=n then v else aV m k z
 | []=>by rw[MV,Ft]
 | p::m=>by
  have ih:=MP n v k z m
  rw[MU]
  by_cases h:n=p.1
  ·rw[if_pos h,Ft,Ft]
   by_cases h2:k=n
   ·rw[if_pos h2,if_pos h2]
   rw[if_neg h2,if_neg h2,if_neg (by rw[←h];exact h2)]
  rw[if_neg h,Ft,Ft,ih]
  by_cases h2:k=n
  ·subst h2;rw[if_neg h,if_pos rfl,if_pos rfl]
  rw[if_neg h2,if_neg h2]
theorem SB {α:Type} (n:Int) (v:α) (k:Int):∀ (m:List (Int×α)),k∈aA (cq m n v)↔k=n∨k∈aA m
 | []=>by simp[MV,aA]
 | p::m=>by
  have ih:=SB n v k m
  rw[MU]
  by_cases h:n=p.1
  ·rw[if_pos h];simp[aA,←h]
  rw[if_neg h];simp only[aA,List.map_cons,List.mem_cons] at ih ⊢;rw[ih];constructor<;>(rintro(h1 | h1 | h1)<;>simp[h1])
theorem avx {α:Type} (n:Int) (v:α) (k:Int) (m:List (Int×α)):eu (cq m n v) k=(decide (k=n)||eu m k):=by
 rw[Bool.eq_iff_iff,wj,SB];simp[wj]
theorem SE {α:Type} (n:Int) (v:α):∀ (m:List (Int×α)),(cq m n v).length=if eu m n=true then m.length else m.length+1
 | []=>by simp[MV,eu,gU]
 | p::m=>by
  have ih:=SE n v m
  rw[MU]
  by_cases h:n=p.1
  ·rw[if_pos h,if_pos ((wj n _).2 (by simp[aA,h]))];rfl
  rw[if_neg h,List.length_cons,ih]
  have:eu (p::m) n=eu m n:=by rw[Bool.eq_iff_iff,wj,wj];simp[aA,h]
  rw[this];split<;>simp
end Go.Proofs.YtjigeffmmcmlnaaGreatDoor
namespace Go.Proofs
open Go.Shelf
def Tryz.az2:Go.Shelf.Ren:=⟨fun | 6=>135 | 15=>114 | 14=>166 | 28=>147 | 29=>148 | 20=>179 | 21=>180 | 22=>181 | 23=>182 | 24=>183 | 25=>184 | 26=>185 | 27=>186 | 46=>191 | 47=>168 | 48=>169 | 49=>192 | 50=>193 | 57=>195 | n=>n,fun | 22=>24 | 24=>50 | 25=>165 | 3=>3 | 39=>151 | 0=>0 | 53=>175 | 55=>177 | 4=>4 | 46=>169 | 45=>168 | 50=>141 | 5=>5 | 9=>9 | 66=>189 | 70=>193 | 76=>203 | 77=>204 | n=>n,fun | n=>n⟩
theorem Tryz.aln:Go.Proofs.SlLaysF0.n6 Tryz.prog Tryz.az2:={
 mixed:=by kernel_rfl
 f6:=⟨Tryz.f135.name,by decide,Tryz.func135.trans (congrArg some (by kernel_rfl))⟩
 f14:=⟨Tryz.f166.name,by decide,Tryz.func166.trans (congrArg some (by kernel_rfl))⟩
 f15:=Tryz.func114.trans (congrArg some (by kernel_rfl))
 f20:=⟨Tryz.f179.name,by decide,Tryz.func179.trans (congrArg some (by kernel_rfl))⟩
 f21:=⟨Tryz.f180.name,by decide,Tryz.func180.trans (congrArg some (by kernel_rfl))⟩
 f22:=⟨Tryz.f181.name,by decide,Tryz.func181.trans (congrArg some (by kernel_rfl))⟩
 f23:=⟨Tryz.f182.name,by decide,Tryz.func182.trans (congrArg some (by kernel_rfl))⟩
 f24:=⟨Tryz.f183.name,by decide,Tryz.func183.trans (congrArg some (by kernel_rfl))⟩
 f25:=⟨Tryz.f184.name,by decide,Tryz.func184.trans (congrArg some (by kernel_rfl))⟩
 f26:=⟨Tryz.f185.name,by decide,Tryz.func185.trans (congrArg some (by kernel_rfl))⟩
 f27:=⟨Tryz.f186.name,by decide,Tryz.func186.trans (congrArg some (by kernel_rfl))⟩
 f28:=Tryz.func147.trans (congrArg some (by kernel_rfl))
 f29:=Tryz.func148.trans (congrArg some (by kernel_rfl))
 f46:=⟨Tryz.f191.name,by decide,Tryz.func191.trans (congrArg some (by kernel_rfl))⟩
 f47:=Tryz.func168.trans (congrArg some (by kernel_rfl))
 f48:=Tryz.func169.trans (congrArg some (by kernel_rfl))
 f49:=⟨Tryz.f192.name,by decide,Tryz.func192.trans (congrArg some (by kernel_rfl))⟩
 f50:=⟨Tryz.f193.name,by decide,Tryz.func193.trans (congrArg some (by kernel_rfl))⟩
 f57:=⟨Tryz.f195.name,by decide,Tryz.func195.trans (congrArg some (by kernel_rfl))⟩
 t0:=Tryz.underlying0
 a0:=Tryz.isAgg0
 z0:=Tryz.sizeOf0
 v0:=Tryz.zeroValue0
 t3:=Tryz.underlying3
 a3:=Tryz.isAgg3
 z3:=Tryz.sizeOf3
 v3:=Tryz.zeroValue3
 t4:=Tryz.underlying4
 a4:=Tryz.isAgg4
 z4:=Tryz.sizeOf4
 v4:=Tryz.zeroValue4
 t5:=Tryz.underlying5
 a5:=Tryz.isAgg5
 z5:=Tryz.sizeOf5
 v5:=Tryz.zeroValue5
 t9:=Tryz.underlying9
 a9:=Tryz.isAgg9
 z9:=Tryz.sizeOf9
 v9:=Tryz.zeroValue9
 t22:=Tryz.underlying24
 a22:=Tryz.isAgg24
 z22:=Tryz.sizeOf24
 v22:=Tryz.zeroValue24
 t25:=Tryz.underlying165
 a25:=Tryz.isAgg165
 z25:=Tryz.sizeOf165
 v25:=Tryz.zeroValue165
 t39:=Tryz.underlying151
 a39:=Tryz.isAgg151
 z39:=Tryz.sizeOf151
 v39:=Tryz.zeroValue151
 t45:=Tryz.underlying168
 a45:=Tryz.isAgg168
 z45:=Tryz.sizeOf168
 v45:=Tryz.zeroValue168
 t46:=Tryz.underlying169
 a46:=Tryz.isAgg169
 z46:=Tryz.sizeOf169
 v46:=Tryz.zeroValue169
 t50:=Tryz.underlying141
 a50:=Tryz.isAgg141
 z50:=Tryz.sizeOf141
 v50:=Tryz.zeroValue141
 t53:=Tryz.underlying175
 a53:=Tryz.isAgg175
 z53:=Tryz.sizeOf175
 v53:=Tryz.zeroValue175
 t55:=Tryz.underlying177
 a55:=Tryz.isAgg177
 z55:=Tryz.sizeOf177
 v55:=Tryz.zeroValue177
 t66:=Tryz.underlying189
 a66:=Tryz.isAgg189
 z66:=Tryz.sizeOf189
 v66:=Tryz.zeroValue189
 t70:=Tryz.underlying193
 a70:=Tryz.isAgg193
 z70:=Tryz.sizeOf193
 v70:=Tryz.zeroValue193
 t76:=Tryz.underlying203
 a76:=Tryz.isAgg203
 z76:=Tryz.sizeOf203
 v76:=Tryz.zeroValue203
 t77:=Tryz.underlying204
 a77:=Tryz.isAgg204
 z77:=Tryz.sizeOf204
 v77:=Tryz.zeroValue204 }
def Tryz.az0:Go.Shelf.Ren:=⟨fun | 6=>81 | 15=>114 | 14=>113 | 28=>147 | 29=>148 | 20=>139 | 21=>140 | 22=>141 | 23=>142 | 24=>143 | 25=>144 | 26=>145 | 27=>146 | 46=>167 | 47=>168 | 48=>169 | 49=>170 | 50=>171 | 57=>187 | n=>n,fun | 22=>27 | 24=>52 | 25=>89 | 3=>3 | 39=>151 | 0=>0 | 53=>175 | 55=>177 | 4=>4 | 46=>169 | 45=>168 | 50=>141 | 5=>5 | 9=>9 | 66=>189 | 70=>193 | 76=>203 | 77=>204 | n=>n,fun | n=>n⟩
theorem Tryz.alk:Go.Proofs.SlLaysF0.n6 Tryz.prog Tryz.az0:={
 mixed:=by kernel_rfl
 f6:=⟨Tryz.f81.name,by decide,Tryz.func81.trans (congrArg some (by kernel_rfl))⟩
 f14:=⟨Tryz.f113.name,by decide,Tryz.func113.trans (congrArg some (by kernel_rfl))⟩
 f15:=Tryz.func114.trans (congrArg some (by kernel_rfl))
 f20:=⟨Tryz.f139.name,by decide,Tryz.func139.trans (congrArg some (by kernel_rfl))⟩
 f21:=⟨Tryz.f140.name,by decide,Tryz.func140.trans (congrArg some (by kernel_rfl))⟩
 f22:=⟨Tryz.f141.name,by decide,Tryz.func141.trans (congrArg some (by kernel_rfl))⟩
 f23:=⟨Tryz.f142.name,by decide,Tryz.func142.trans (congrArg some (by kernel_rfl))⟩
 f24:=⟨Tryz.f143.name,by decide,Tryz.func143.trans (congrArg some (by kernel_rfl))⟩
 f25:=⟨Tryz.f144.name,by decide,Tryz.func144.trans (congrArg some (by kernel_rfl))⟩
 f26:=⟨Tryz.f145.name,by decide,Tryz.func145.trans (congrArg some (by kernel_rfl))⟩
 f27:=⟨Tryz.f146.name,by decide,Tryz.func146.trans (congrArg some (by kernel_rfl))⟩
 f28:=Tryz.func147.trans (congrArg some (by kernel_rfl))
 f29:=Tryz.func148.trans (congrArg some (by kernel_rfl))
 f46:=⟨Tryz.f167.name,by decide,Tryz.func167.trans (congrArg some (by kernel_rfl))⟩
 f47:=Tryz.func168.trans (congrArg some (by kernel_rfl))
 f48:=Tryz.func169.trans (congrArg some (by kernel_rfl))
 f49:=⟨Tryz.f170.name,by decide,Tryz.func170.trans (congrArg some (by kernel_rfl))⟩
 f50:=⟨Tryz.f171.name,by decide,Tryz.func171.trans (congrArg some (by kernel_rfl))⟩
 f57:=⟨Tryz.f187.name,by decide,Tryz.func187.trans (congrArg some (by kernel_rfl))⟩
 t0:=Tryz.underlying0
 a0:=Tryz.isAgg0
 z0:=Tryz.sizeOf0
 v0:=Tryz.zeroValue0
 t3:=Tryz.underlying3
 a3:=Tryz.isAgg3
 z3:=Tryz.sizeOf3
 v3:=Tryz.zeroValue3
 t4:=Tryz.underlying4
 a4:=Tryz.isAgg4
 z4:=Tryz.sizeOf4
 v4:=Tryz.zeroValue4
 t5:=Tryz.underlying5
 a5:=Tryz.isAgg5
 z5:=Tryz.sizeOf5
 v5:=Tryz.zeroValue5
 t9:=Tryz.underlying9
 a9:=Tryz.isAgg9
 z9:=Tryz.sizeOf9
 v9:=Tryz.zeroValue9
 t22:=Tryz.underlying27
 a22:=Tryz.isAgg27
 z22:=Tryz.sizeOf27
 v22:=Tryz.zeroValue27
 t25:=Tryz.underlying89
 a25:=Tryz.isAgg89
 z25:=Tryz.sizeOf89
 v25:=Tryz.zeroValue89
 t39:=Tryz.underlying151
 a39:=Tryz.isAgg151
 z39:=Tryz.sizeOf151
 v39:=Tryz.zeroValue151
 t45:=Tryz.underlying168
 a45:=Tryz.isAgg168
 z45:=Tryz.sizeOf168
 v45:=Tryz.zeroValue168
 t46:=Tryz.underlying169
 a46:=Tryz.isAgg169
 z46:=Tryz.sizeOf169
 v46:=Tryz.zeroValue169
 t50:=Tryz.underlying141
 a50:=Tryz.isAgg141
 z50:=Tryz.sizeOf141
 v50:=Tryz.zeroValue141
 t53:=Tryz.underlying175
 a53:=Tryz.isAgg175
 z53:=Tryz.sizeOf175
 v53:=Tryz.zeroValue175
 t55:=Tryz.underlying177
 a55:=Tryz.isAgg177
 z55:=Tryz.sizeOf177
 v55:=Tryz.zeroValue177
 t66:=Tryz.underlying189
 a66:=Tryz.isAgg189
 z66:=Tryz.sizeOf189
 v66:=Tryz.zeroValue189
 t70:=Tryz.underlying193
 a70:=Tryz.isAgg193
 z70:=Tryz.sizeOf193
 v70:=Tryz.zeroValue193
 t76:=Tryz.underlying203
 a76:=Tryz.isAgg203
 z76:=Tryz.sizeOf203
 v76:=Tryz.zeroValue203
 t77:=Tryz.underlying204
 a77:=Tryz.isAgg204
 z77:=Tryz.sizeOf204
 v77:=Tryz.zeroValue204 }
def Tryz.Zq:Go.Shelf.Ren:=⟨fun | 7=>49 | 10=>86 | n=>n,fun | 23=>87 | 26=>3 | 3=>52 | 28=>93 | 0=>0 | 27=>92 | 33=>107 | 4=>4 | n=>n,fun | n=>n⟩
theorem Tryz.Zp:Go.Proofs.SlLaysZI.n7 Tryz.prog Tryz.Zq:={
 mixed:=by kernel_rfl
 f7:=⟨Tryz.f49.name,by decide,Tryz.func49.trans (congrArg some (by kernel_rfl))⟩
 f10:=⟨Tryz.f86.name,by decide,Tryz.func86.trans (congrArg some (by kernel_rfl))⟩
 t0:=Tryz.underlying0
 a0:=Tryz.isAgg0
 z0:=Tryz.sizeOf0
 v0:=Tryz.zeroValue0
 t4:=Tryz.underlying4
 a4:=Tryz.isAgg4
 z4:=Tryz.sizeOf4
 v4:=Tryz.zeroValue4
 t23:=Tryz.underlying87
 a23:=Tryz.isAgg87
 z23:=Tryz.sizeOf87
 v23:=Tryz.zeroValue87
 t26:=Tryz.underlying3
 a26:=Tryz.isAgg3
 z26:=Tryz.sizeOf3
 v26:=Tryz.zeroValue3
 t27:=Tryz.underlying92
 a27:=Tryz.isAgg92
 z27:=Tryz.sizeOf92
 v27:=Tryz.zeroValue92
 t28:=Tryz.underlying93
 a28:=Tryz.isAgg93
 z28:=Tryz.sizeOf93
 v28:=Tryz.zeroValue93
 t33:=Tryz.underlying107
 a33:=Tryz.isAgg107
 z33:=Tryz.sizeOf107
 v33:=Tryz.zeroValue107 }
def Tryz.Zs:Go.Shelf.Ren:=⟨fun | 7=>54 | 10=>88 | n=>n,fun | 23=>97 | 26=>3 | 3=>50 | 28=>93 | 0=>0 | 27=>92 | 33=>107 | 4=>4 | n=>n,fun | n=>n⟩
theorem Tryz.Zr:Go.Proofs.SlLaysZI.n7 Tryz.prog Tryz.Zs:={
 mixed:=by kernel_rfl
 f7:=⟨Tryz.f54.name,by decide,Tryz.func54.trans (congrArg some (by kernel_rfl))⟩
 f10:=⟨Tryz.f88.name,by decide,Tryz.func88.trans (congrArg some (by kernel_rfl))⟩
 t0:=Tryz.underlying0
 a0:=Tryz.isAgg0
 z0:=Tryz.sizeOf0
 v0:=Tryz.zeroValue0
 t4:=Tryz.underlying4
 a4:=Tryz.isAgg4
 z4:=Tryz.sizeOf4
 v4:=Tryz.zeroValue4
 t23:=Tryz.underlying97
 a23:=Tryz.isAgg97
 z23:=Tryz.sizeOf97
 v23:=Tryz.zeroValue97
 t26:=Tryz.underlying3
 a26:=Tryz.isAgg3
 z26:=Tryz.sizeOf3
 v26:=Tryz.zeroValue3
 t27:=Tryz.underlying92
 a27:=Tryz.isAgg92
 z27:=Tryz.sizeOf92
 v27:=Tryz.zeroValue92
 t28:=Tryz.underlying93
 a28:=Tryz.isAgg93
 z28:=Tryz.sizeOf93
 v28:=Tryz.zeroValue93
 t33:=Tryz.underlying107
 a33:=Tryz.isAgg107
 z33:=Tryz.sizeOf107
 v33:=Tryz.zeroValue107 }
def Tryz.als:Go.Shelf.Ren:=⟨fun | 6=>48 | 8=>84 | 9=>85 | 11=>116 | 13=>114 | 12=>117 | 23=>147 | 24=>148 | 14=>150 | 15=>151 | 16=>152 | 17=>153 | 18=>154 | 19=>155 | 20=>156 | 21=>157 | 22=>158 | 25=>172 | 26=>168 | 27=>169 | 28=>173 | 29=>174 | 30=>149 | 31=>188 | n=>n,fun | 26=>3 | 28=>93 | 24=>90 | 0=>0 | 3=>3 | 37=>151 | 48=>175 | 50=>177 | 4=>4 | 40=>169 | 39=>168 | 45=>141 | 5=>5 | 9=>9 | 51=>189 | 55=>193 | 57=>203 | 58=>204 | 33=>107 | n=>n,fun | n=>n⟩
theorem Tryz.alr:Go.Proofs.SlLaysZI.n6 Tryz.prog Tryz.als:={
 mixed:=by kernel_rfl
 f6:=⟨Tryz.f48.name,by decide,Tryz.func48.trans (congrArg some (by kernel_rfl))⟩
 f8:=⟨Tryz.f84.name,by decide,Tryz.func84.trans (congrArg some (by kernel_rfl))⟩
 f11:=⟨Tryz.f116.name,by decide,Tryz.func116.trans (congrArg some (by kernel_rfl))⟩
 t0:=Tryz.underlying0
 a0:=Tryz.isAgg0
 z0:=Tryz.sizeOf0
 v0:=Tryz.zeroValue0
 t24:=Tryz.underlying90
 a24:=Tryz.isAgg90
 z24:=Tryz.sizeOf90
 v24:=Tryz.zeroValue90
 t26:=Tryz.underlying3
 a26:=Tryz.isAgg3
 z26:=Tryz.sizeOf3
 v26:=Tryz.zeroValue3
 t28:=Tryz.underlying93
 a28:=Tryz.isAgg93
 z28:=Tryz.sizeOf93
 v28:=Tryz.zeroValue93
 i26:=by kernel_rfl }
def Tryz.az1:Go.Shelf.Ren:=⟨fun | 5=>85 | 8=>114 | 7=>117 | 19=>147 | 20=>148 | 10=>150 | 11=>151 | 12=>152 | 13=>153 | 14=>154 | 15=>155 | 16=>156 | 17=>157 | 18=>158 | 30=>172 | 31=>168 | 32=>169 | 33=>173 | 34=>174 | 35=>149 | 40=>188 | n=>n,fun | 23=>90 | 25=>3 | 3=>3 | 32=>151 | 22=>90 | 0=>0 | 44=>175 | 46=>177 | 4=>4 | 36=>169 | 35=>168 | 41=>141 | 5=>5 | 9=>9 | 53=>189 | 57=>193 | 63=>203 | 64=>204 | n=>n,fun | n=>n⟩
theorem Tryz.sortInt:Go.Proofs.SlLaysM.n5 Tryz.prog Tryz.az1:={
 mixed:=by kernel_rfl
 f5:=⟨Tryz.f85.name,by decide,Tryz.func85.trans (congrArg some (by kernel_rfl))⟩
 f7:=⟨Tryz.f117.name,by decide,Tryz.func117.trans (congrArg some (by kernel_rfl))⟩
 f8:=Tryz.func114.trans (congrArg some (by kernel_rfl))
 f10:=⟨Tryz.f150.name,by decide,Tryz.func150.trans (congrArg some (by kernel_rfl))⟩
 f11:=⟨Tryz.f151.name,by decide,Tryz.func151.trans (congrArg some (by kernel_rfl))⟩
 f12:=⟨Tryz.f152.name,by decide,Tryz.func152.trans (congrArg some (by kernel_rfl))⟩
 f13:=⟨Tryz.f153.name,by decide,Tryz.func153.trans (congrArg some (by kernel_rfl))⟩
 f14:=⟨Tryz.f154.name,by decide,Tryz.func154.trans (congrArg some (by kernel_rfl))⟩
 f15:=⟨Tryz.f155.name,by decide,Tryz.func155.trans (congrArg some (by kernel_rfl))⟩
 f16:=⟨Tryz.f156.name,by decide,Tryz.func156.trans (congrArg some (by kernel_rfl))⟩
 f17:=⟨Tryz.f157.name,by decide,Tryz.func157.trans (congrArg some (by kernel_rfl))⟩
 f18:=⟨Tryz.f158.name,by decide,Tryz.func158.trans (congrArg some (by kernel_rfl))⟩
 f19:=Tryz.func147.trans (congrArg some (by kernel_rfl))
 f20:=Tryz.func148.trans (congrArg some (by kernel_rfl))
 f30:=⟨Tryz.f172.name,by decide,Tryz.func172.trans (congrArg some (by kernel_rfl))⟩
 f31:=Tryz.func168.trans (congrArg some (by kernel_rfl))
 f32:=Tryz.func169.trans (congrArg some (by kernel_rfl))
 f33:=⟨Tryz.f173.name,by decide,Tryz.func173.trans (congrArg some (by kernel_rfl))⟩
 f34:=⟨Tryz.f174.name,by decide,Tryz.func174.trans (congrArg some (by kernel_rfl))⟩
 f35:=⟨Tryz.f149.name,by decide,Tryz.func149.trans (congrArg some (by kernel_rfl))⟩
 f40:=⟨Tryz.f188.name,by decide,Tryz.func188.trans (congrArg some (by kernel_rfl))⟩
 t0:=Tryz.underlying0
 a0:=Tryz.isAgg0
 z0:=Tryz.sizeOf0
 v0:=Tryz.zeroValue0
 t3:=Tryz.underlying3
 a3:=Tryz.isAgg3
 z3:=Tryz.sizeOf3
 v3:=Tryz.zeroValue3
 t4:=Tryz.underlying4
 a4:=Tryz.isAgg4
 z4:=Tryz.sizeOf4
 v4:=Tryz.zeroValue4
 t5:=Tryz.underlying5
 a5:=Tryz.isAgg5
 z5:=Tryz.sizeOf5
 v5:=Tryz.zeroValue5
 t9:=Tryz.underlying9
 a9:=Tryz.isAgg9
 z9:=Tryz.sizeOf9
 v9:=Tryz.zeroValue9
 t22:=Tryz.underlying90
 a22:=Tryz.isAgg90
 z22:=Tryz.sizeOf90
 v22:=Tryz.zeroValue90
 t23:=Tryz.underlying90
 a23:=Tryz.isAgg90
 z23:=Tryz.sizeOf90
 v23:=Tryz.zeroValue90
 t25:=Tryz.underlying3
 a25:=Tryz.isAgg3
 z25:=Tryz.sizeOf3
 v25:=Tryz.zeroValue3
 t32:=Tryz.underlying151
 a32:=Tryz.isAgg151
 z32:=Tryz.sizeOf151
 v32:=Tryz.zeroValue151
 t35:=Tryz.underlying168
 a35:=Tryz.isAgg168
 z35:=Tryz.sizeOf168
 v35:=Tryz.zeroValue168
 t36:=Tryz.underlying169
 a36:=Tryz.isAgg169
 z36:=Tryz.sizeOf169
 v36:=Tryz.zeroValue169
 t41:=Tryz.underlying141
 a41:=Tryz.isAgg141
 z41:=Tryz.sizeOf141
 v41:=Tryz.zeroValue141
 t44:=Tryz.underlying175
 a44:=Tryz.isAgg175
 z44:=Tryz.sizeOf175
 v44:=Tryz.zeroValue175
 t46:=Tryz.underlying177
 a46:=Tryz.isAgg177
 z46:=Tryz.sizeOf177
 v46:=Tryz.zeroValue177
 t53:=Tryz.underlying189
 a53:=Tryz.isAgg189
 z53:=Tryz.sizeOf189
 v53:=Tryz.zeroValue189
 t57:=Tryz.underlying193
 a57:=Tryz.isAgg193
 z57:=Tryz.sizeOf193
 v57:=Tryz.zeroValue193
 t63:=Tryz.underlying203
 a63:=Tryz.isAgg203
 z63:=Tryz.sizeOf203
 v63:=Tryz.zeroValue203
 t64:=Tryz.underlying204
 a64:=Tryz.isAgg204
 z64:=Tryz.sizeOf204
 v64:=Tryz.zeroValue204 }
end Go.Proofs
namespace Go.Proofs.YtjigeffmmcmlnaaGreatDoor
open Go Go.an au
set_option maxRecDepth 4000
attribute [local instance] cJ
attribute [local congr] ab.kO
attribute [local simp] bu dz dU evalOp bd an.get fk strip bq an.after iI typed gr holds cR R.ok R.bad gI iU jk gW ku ji Op.operands Call.operands dY dA dQ dR iH il fm im gK fg nj nk nm np fK lH lL lJ fL jq lg lp lk ln ng ni jv mD bf D.cells T.eT D.one gH fV gb fo setAt eI fC jC fa gN bw cX iy fU iA gv jV arith et iM jf dG gC iN TD.agg env bR List.map fe iD ff gn gT mapOf iz iq dr mH mI mJ mK mL mM mN mO lK nh ll me mC my mB mr mG lq mi ml jw mE ko jh fh du fj iP gJ jB gone unbox iW fE gB gG lI lh nf jg jS List.contains_cons List.contains_nil lr iO iC iB gm ib gX lC kY mW l6 mw mu mz kr mF mh mj P2.list mA lB kW mU lF lb mZ l9 jQ kM lu kR mP lW jI kC lA kV mT l4 jM kH lE la mY l8 jP kL lD kZ mX l7 jO kJ jX kX mV l5 jN kI lG lf nc ma jW kT mR lY jK kF lv kS mQ lX jJ kD lz kU mS lZ jL kG kQ km lN lO lT lU lP lV lQ lR lS lM nD nH kv kz iQ nB nC nE nF nG nI nJ jD jE nL nM nN nO nP nQ nR nS nq nr nu nv nw nx ny nz nA
section
set_option maxRecDepth 10000
open Go.Maps Go.Sort Go.Shelf Go.RowKit
instance aj8:e8:=⟨False⟩
theorem anS (ks vs:List D):ee Tryz.prog 49 [.map ks vs] (.aR 86 [.box (.map ks vs)]):=by
 intro w I args bX hlen dg
 obtain⟨v,rfl⟩:∃ v,args = #[v]:=by
  match args,hlen with
  | ⟨[a]⟩,_=>exact⟨a,rfl⟩
 have hv:=dg 0 v _ rfl rfl
 obtain⟨mb,rfl⟩:∃ mb,v = .map mb:=by cases hv<;>exact⟨_,rfl⟩
 have cK:CallsIn Fence.wide 5 Tryz.prog 49 #[.map mb] w fun e w'=>e = .returned (.func (.func 86) #[] #[.pointer (some ⟨w.heap.size,0,none⟩)])∧w'=w.alloc (.cells #[.map mb] 87):=AnyZI.keys_in Tryz.Zp Fence.wide 5 trivial rfl mb w
 refine((callsIn_wide (n:=5)).1 cK).mono ?_
 rintro e w' ⟨rfl,rfl⟩
 let J:aC:=⟨fun b o=>if b=w.heap.size then(if o=0 then some (.map mb) else none) else I.cell b o,I.mp,I.df⟩
 have ca:=bX.gp (Nat.le_refl w.heap.size)
 have hle:I.le J:=⟨fun b o u hc=>by
  have:b≠w.heap.size:=fun e=>by subst e;rw[ca.1] at hc;cases hc
  simp only[J,if_neg this];exact hc,fun _ _ h=>h,fun _ h=>h⟩
 refine⟨_,J,rfl,(eL.refl _ _).alloc (Nat.le_refl _) _,.of hle (fun b hb=>by funext o;simp only[J,if_neg (Nat.ne_of_lt hb)]) (fun _ _=>rfl),⟨fun b o u hc=>?_,fun b es hc=>?_,fun b hd=>(Below.heap_alloc w _ b (bX.tu hd)).trans (bX.df b hd),fun g d hg=>(bX.dS g d hg).mono hle⟩,?_⟩
 ·by_cases hb:b=w.heap.size
  ·subst hb
   simp only[J,if_true] at hc
   by_cases ho:o=0
   ·subst ho;simp at hc;subst hc
    show(w.alloc _).cell? ⟨w.heap.size,0,none⟩=_
    rw[World.cell?_alloc_new];rfl
   simp[ho] at hc
  simp only[J,if_neg hb] at hc
  exact(World.cell?_of_block (w:=w) (a:=⟨b,o,none⟩) (Below.heap_alloc w _ b (bX.lt hc))).trans (bX.cell b o u hc)
 ·exact iT.to (Below.heap_alloc w _ b (bX.wi hc)) (bX.mp b es hc)
 refine .aR _ _ _ rfl fun i u d hu hd=>?_
 rcases i with _ | i
 ·simp at hu hd;subst hu;subst hd
  refine .box _ _ (fun _=> .map mb) (by simp[D.cells,D.one]) (fun k hk=>?_) (fun k x hx=>?_)
  ·simp[D.cells] at hk;subst hk;simp[J]
  rcases k with _ | k
  ·simp[D.cells] at hx;subst hx;exact hv.mono hle
  simp[D.cells] at hx
 simp at hu
def R0:Value→Option (DataW Unit×List MemPlace):=fun _=>some (.lit (.bool true),[])
theorem aiG {w:World} {b di:Nat} {es:Array MapEntry} {xs:List Int} (hh:iT w.heap[b]? (es,di)) (aS:es.size=xs.length) (hk:∀ (i:Nat) (e:MapEntry) x,es[i]?=some e→xs[i]?=some x→e.key = .int .i64 x) (E8:∀ x∈xs,-9223372036854775808≤x∧x≤9223372036854775807) (fc:xs.length≤1000000000) :
  ∃ D0:DataW Unit,w.ownsMap Tryz.prog 3 R0 b xs.length D0∧(intKeys D0).Perm xs∧Maps.size D0=xs.length:=by
 have ath:∀ x∈xs,(Lit.int .i64 x).wf=true:=fun x hx=>WalkArith.wf_i64 (by have:=E8 x hx;omega)
 have hkx:∀ e∈es.toList,∃ x∈xs,e.key = .int .i64 x:=by
  intro e he
  obtain⟨i,hi,rfl⟩:=List.mem_iff_getElem.1 he
  have gi:i < es.size:=by simpa using hi
  have hx:xs[i]?=some xs[i]:=List.getElem?_eq_getElem (by omega)
  exact⟨_,List.mem_of_getElem? hx,hk i _ _ (by simp[gi]) hx⟩
 have dg:∀ e∈es.toList,∀ x∈xs,e.key = .int .i64 x→WideElems.rd Tryz.prog 3 R0 e=some (.int .i64 x,.lit (.bool true)):=by
  intro e he x hx pP
  simp[WideElems.rd,pP,keyOf_int_mk Tryz.underlying3 (ath x hx),R0]
 refine⟨_,⟨es,di,hh.1,⟨by rw[aS];unfold maxLen;omega,hh.2,fun e he=>?_⟩,by omega,rfl⟩,?_,?_⟩
 ·obtain⟨x,hx,pP⟩:=hkx e he
  exact⟨_,dg e he x hx pP⟩
 ·show(((es.toList.map (WideElems.rg Tryz.prog 3 R0)).foldr DataW.insert []).map fun p=>Go.intOf p.1).Perm xs
  refine((WideShapes.sorted_perm _).map _).trans ?_
  have:(es.toList.map (WideElems.rg Tryz.prog 3 R0)).map (fun p=>Go.intOf p.1)=xs:=by
   apply List.ext_getElem?
   intro i
   rw[List.getElem?_map,List.getElem?_map]
   by_cases hi:i < es.size
   ·have he:es.toList[i]?=some es[i]:=by simp[hi]
    have hx:xs[i]?=some xs[i]:=List.getElem?_eq_getElem (by omega)
    have pP:=hk i es[i] xs[i] (by simp[hi]) hx
    have:=dg es[i] (List.mem_of_getElem? he) _ (List.mem_of_getElem? hx) pP
    rw[he,hx]
    simp[WideElems.rg,this,Go.intOf]
   rw[List.getElem?_eq_none (by simp;omega),List.getElem?_eq_none (by omega)];rfl
  rw[this]
 show((es.toList.map (WideElems.rg Tryz.prog 3 R0)).foldr DataW.insert []).length=xs.length
 rw[(WideShapes.sorted_perm _).length_eq];simp[aS]
def aE (xs:List Int):List Int:=xs.mergeSort leI
theorem alm {xs ys:List Int} (h:xs.Perm ys):aE xs=aE ys:=mergeSort_of_perm_i h
theorem ak9 {w:World} {I:aC} {B g:Nat} {cur:Array Value} {e:TypeId} {fl:Nat×Nat} (bX:eD w I) (ca:I.gp g) (hB:B≤g) (hh:w.heap[g]?=some (.cells cur e fl)) :
  eD w (I.fG g cur.toList)∧jn B I (I.fG g cur.toList):=by
 have oW:∀ b,b≠g→(I.fG g cur.toList).cell b=I.cell b:=fun b hb=>by funext o;simp[aC.fG,hb]
 have hle:I.le (I.fG g cur.toList):=⟨fun b o v hc=>by
  have hb:b≠g:=by rintro rfl;rw[ca.1 o] at hc;cases hc
  rw[oW b hb];exact hc,fun _ _ h=>h,fun _ h=>h⟩
 refine⟨⟨fun b o v hc=>?_,fun b es hc=>bX.mp b es hc,bX.df,fun g d hd=>(bX.dS g d hd).mono hle⟩,.of hle (fun b hb=>oW b (by omega)) (fun _ _=>rfl)⟩
 by_cases hb:b=g
 ·subst hb
  simp only[aC.fG,if_true] at hc
  cases hx:cur[o]? with
  | none=>simp[hx,ca.1 o] at hc
  | some x=>simp[hx] at hc;subst hc;simp[World.cell?,hh,hx]
 rw[oW b hb] at hc;exact bX.cell b o v hc
theorem alv (m:Nat):AnyZI.SortsIn Tryz.prog Tryz.als Fence.wide m:=
 ⟨fun JW off cap ss W hH hblk aS=>callsIn_wide.2 (AnyM.slices_Sort_int Tryz.sortInt JW off cap ss W hH hblk aS),
  fun p cap W=>callsIn_wide.2 (AnyM.slices_Sort_int_none Tryz.sortInt p cap W)⟩
theorem anQ (xs:List Int) (vs:List D) (E8:∀ x∈xs,-9223372036854775808≤x∧x≤9223372036854775807) (fc:xs.length≤1000000000) :
  ee Tryz.prog 48 [.aR 86 [.box (.map (xs.map enc) vs)]] (.slice 1 ((aE xs).map enc)):=by
 intro w I args bX hlen dg
 obtain⟨v,rfl⟩:∃ v,args = #[v]:=by
  match args,hlen with
  | ⟨[a]⟩,_=>exact⟨a,rfl⟩
 have hv:=dg 0 v _ rfl rfl
 obtain⟨p,rfl,hp⟩:∃ p,v = .func (.func 86) #[] #[p]∧Rd I p (.box (.map (xs.map enc) vs)):=by
  generalize xs.map (enc:Int→D)=ks at hv ⊢
  cases hv with
  | aR f ps ds h1 h2=>
   match ps,h1 with
   | ⟨[p]⟩,_=>exact⟨p,rfl,h2 0 p _ rfl rfl⟩
 obtain⟨b,mb,rfl,oz,hm⟩:∃ b mb,p = .pointer (some ⟨b,0,none⟩)∧w.cell? ⟨b,0,none⟩=some (.map mb)∧Rd I (.map mb) (.map (xs.map enc) vs):=by
  generalize xs.map (enc:Int→D)=ks at hp ⊢
  cases hp with
  | box b d val h1 h2 h3=>
   have h4:=h2 0 (by simp[D.cells])
   have h5:=h3 0 _ rfl
   obtain⟨mb,Rc⟩:∃ mb,val 0 = .map mb:=by
    generalize val 0=z at h5
    cases h5<;>exact⟨_,rfl⟩
   rw[Rc] at h4 h5
   exact⟨b,mb,rfl,bX.cell _ _ _ h4,h5⟩
 have hb:b < w.heap.size:=World.block_lt_of_cell? w ⟨b,0,none⟩ oz
 have main:∀ (S:List Int→Prop) (N:Nat),N≤1000000000→SeqGives Fence.wide 2 Tryz.prog 86 #[.pointer (some ⟨b,0,none⟩)] encZ S N w→(∀ ss,S ss→aE ss=aE xs) →
   Calls Tryz.prog 48 #[.func (.func 86) #[] #[.pointer (some ⟨b,0,none⟩)]] w fun e w'=>∃ v J,e = .returned v∧eL w.heap.size w w'∧jn w.heap.size I J∧eD w' J∧Rd J v (.slice 1 ((aE xs).map enc)):=by
  intro S N hN Ym hS
  have cS:=AnyZI.sorted_in Tryz.alr Fence.wide 5 trivial trivial trivial trivial rfl (by omega) (alv _) (enters_of Tryz.func85 (by kernel_rfl) rfl) 86 #[.pointer (some ⟨b,0,none⟩)] trivial (enters_of Tryz.func86 (by kernel_rfl) rfl) S N (by unfold maxLen;omega) (by omega) w Ym
  change CallsIn _ _ Tryz.prog 48 _ _ _ at cS
  refine((callsIn_wide (n:=5)).1 cS).mono ?_
  rintro e w' ⟨v,ss,rfl,Xt,ja,_,Xw⟩
  have E3:=hS ss Xt
  unfold aE at E3
  have hlen:(aE xs).length=xs.length:=by unfold aE;rw[(List.mergeSort_perm _ _).length_eq]
  change ss.mergeSort leI=aE xs at E3
  rw[E3] at ja
  generalize aE xs=ys at ja hlen
  obtain⟨n,ja⟩:∃ n,w'.ownsRow w.heap.size 3 1 v n (ys.map encZ):=⟨_,ja⟩
  have yj:eL w.heap.size w w':=eL.of Xw fun h=>h.elim
  have L8:eD w' I:=⟨fun b o u hc=>(World.cell?_of_block (w:=w) (a:=⟨b,o,none⟩) (yj.block b (bX.lt hc))).trans (bX.cell b o u hc),fun b es hc=>by
   exact iT.to (yj.block b (bX.wi hc)) (bX.mp b es hc),fun b hd=>(yj.block b (bX.tu hd)).trans (bX.df b hd),bX.dS⟩
  obtain⟨hn,⟨rfl,h0⟩ | ⟨g,cap,cur,rfl,hg,hh,gE,rY,aS,jc⟩⟩:=ja
  ·have:ys=[]:=by simpa [h0] using hn
   subst this
   exact⟨_,I,rfl,yj,jn.refl _ _,L8,.uj _ _ _ (Nat.zero_le _)⟩
  have ca:=bX.gp hg
  obtain⟨k1,k2⟩:=ak9 (B:=w.heap.size) L8 ca hg hh
  refine⟨_,_,rfl,yj,k2,k1,.slice _ _ _ _ _ _ (fun k=>(cur[k]?).getD undef) (by simpa using hn) gE rY (fun d hd=>?_) (fun k hk=>?_) (fun k x hx=>?_)⟩
  ·obtain⟨y,_,rfl⟩:=List.mem_map.1 hd
   simp[fK,D.cells,D.one]
  ·have:cur[k]?=some (cur[k]'(by omega)):=Array.getElem?_eq_getElem (by omega)
   simp[aC.fG,this]
  have bS:flat (ys.map (enc:Int→D))=ys.map enc:=by
   unfold flat
   rw[List.flatMap_map]
   simp[fK,D.cells]
   rw[←List.map_eq_flatMap]
   exact List.map_congr_left fun z _=>(fK z).symm
  rw[bS] at hx
  have hk:k < ys.length:=by have:=(List.getElem?_eq_some_iff.1 hx).1;simpa using this
  have hy:ys[k]?=some ys[k]:=List.getElem?_eq_getElem hk
  have oF:x=enc ys[k]:=by simpa [hy] using hx.symm
  have hc:cur[k]?=some (encZ ys[k]):=by
   have h1:(cur.toList.take (n*1))[k]?=(ys.map encZ)[k]?:=by rw[jc]
   rw[List.getElem?_take_of_lt (by simp at hn;omega)] at h1
   simpa [hy] using h1
  rw[hc,oF,fK]
  exact .int _ _
 cases mb with
 | none=>
  have hx:xs=[]:=by
   generalize A8:xs.map (enc:Int→D)=ks at hm
   cases hm
   simpa using A8
  subst hx
  exact main (fun ss=>ss=[]) 0 (by omega) (AnyZI.keys_gives_nil (ρ:=Tryz.Zq) { Tryz.Zp with } Fence.wide _ trivial rfl b w hb oz) (fun ss h=>by rw[h])
 | some bb=>
  obtain⟨⟨es,di⟩,h1,h2,h3⟩:∃ es:ME,I.mp bb=some es∧es.1.size=(xs.map (enc:Int→D)).length∧∀ (i:Nat) (e:MapEntry) (d:D),es.1[i]?=some e→(xs.map (enc:Int→D))[i]?=some d→Rd I e.key d:=by
   generalize A8:xs.map (enc:Int→D)=ks at hm
   cases hm with
   | map _ es _ _ q1 q2 q3 q4 q5=>exact⟨es,q1,q2,q4⟩
  have hh:=bX.mp bb (es,di) h1
  obtain⟨D0,g1,g2,g3⟩:=aiG (xs:=xs) hh (by simpa using h2) (fun i e x he hx=>by
   have:=h3 i e (enc x) he (by simp[hx])
   rw[fK] at this
   generalize e.key=z at this
   cases this;rfl) E8 fc
  exact main (fun ss=>ss.Perm (intKeys D0)) (Maps.size D0) (by omega) (AnyZI.keys_gives (ρ:=Tryz.Zq) { Tryz.Zp with } Fence.wide _ trivial rfl (by omega) b bb xs.length D0 w hb oz g1) (fun ss h=>alm (h.trans g2))
def OD:an.Spec:=fun ds=>match ds with
 | [.map ks vs]=>some (.aR 86 [.box (.map ks vs)],True)
 | _=>none
theorem aaW:aL Tryz.prog 49 OD:=⟨Enters.of Tryz.func49 (by decide),fun ds r ob hs af=>by
 unfold OD at hs;split at hs
 ·cases hs;exact anS _ _
 cases hs⟩
def SS (ks:List D):Prop:=(ks.map (dec:D→Int)).map enc=ks∧(∀ x∈ks.map (dec:D→Int),-9223372036854775808≤x∧x≤9223372036854775807)∧ks.length≤1000000000
theorem BA {α:Type} (x:List (Int×α)):SS (x.map kE)↔(∀ k∈aA x,ax k)∧x.length≤1000000000:=by
 unfold SS
 rw[jw,ko,List.length_map]
 exact⟨fun h=>h.2,fun h=>⟨rfl,h⟩⟩
end
section
set_option maxRecDepth 10000
open Go.Maps Go.Sort Go.Shelf Go.RowKit
theorem anT (ks vs:List D):ee Tryz.prog 54 [.map ks vs] (.aR 88 [.box (.map ks vs)]):=by
 intro w I args bX hlen dg
 obtain⟨v,rfl⟩:∃ v,args = #[v]:=by
  match args,hlen with
  | ⟨[a]⟩,_=>exact⟨a,rfl⟩
 have hv:=dg 0 v _ rfl rfl
 obtain⟨mb,rfl⟩:∃ mb,v = .map mb:=by cases hv<;>exact⟨_,rfl⟩
 have cK:CallsIn Fence.wide 5 Tryz.prog 54 #[.map mb] w fun e w'=>e = .returned (.func (.func 88) #[] #[.pointer (some ⟨w.heap.size,0,none⟩)])∧w'=w.alloc (.cells #[.map mb] 97):=AnyZI.keys_in Tryz.Zr Fence.wide 5 trivial rfl mb w
 refine((callsIn_wide (n:=5)).1 cK).mono ?_
 rintro e w' ⟨rfl,rfl⟩
 let J:aC:=⟨fun b o=>if b=w.heap.size then(if o=0 then some (.map mb) else none) else I.cell b o,I.mp,I.df⟩
 have ca:=bX.gp (Nat.le_refl w.heap.size)
 have hle:I.le J:=⟨fun b o u hc=>by
  have:b≠w.heap.size:=fun e=>by subst e;rw[ca.1] at hc;cases hc
  simp only[J,if_neg this];exact hc,fun _ _ h=>h,fun _ h=>h⟩
 refine⟨_,J,rfl,(eL.refl _ _).alloc (Nat.le_refl _) _,.of hle (fun b hb=>by funext o;simp only[J,if_neg (Nat.ne_of_lt hb)]) (fun _ _=>rfl),⟨fun b o u hc=>?_,fun b es hc=>?_,fun b hd=>(Below.heap_alloc w _ b (bX.tu hd)).trans (bX.df b hd),fun g d hg=>(bX.dS g d hg).mono hle⟩,?_⟩
 ·by_cases hb:b=w.heap.size
  ·subst hb
   simp only[J,if_true] at hc
   by_cases ho:o=0
   ·subst ho;simp at hc;subst hc
    show(w.alloc _).cell? ⟨w.heap.size,0,none⟩=_
    rw[World.cell?_alloc_new];rfl
   simp[ho] at hc
  simp only[J,if_neg hb] at hc
  exact(World.cell?_of_block (w:=w) (a:=⟨b,o,none⟩) (Below.heap_alloc w _ b (bX.lt hc))).trans (bX.cell b o u hc)
 ·exact iT.to (Below.heap_alloc w _ b (bX.wi hc)) (bX.mp b es hc)
 refine .aR _ _ _ rfl fun i u d hu hd=>?_
 rcases i with _ | i
 ·simp at hu hd;subst hu;subst hd
  refine .box _ _ (fun _=> .map mb) (by simp[D.cells,D.one]) (fun k hk=>?_) (fun k x hx=>?_)
  ·simp[D.cells] at hk;subst hk;simp[J]
  rcases k with _ | k
  ·simp[D.cells] at hx;subst hx;exact hv.mono hle
  simp[D.cells] at hx
 simp at hu
theorem anR (xs:List Int) (vs:List D) (E8:∀ x∈xs,-9223372036854775808≤x∧x≤9223372036854775807) (fc:xs.length≤1000000000) :
  ee Tryz.prog 48 [.aR 88 [.box (.map (xs.map enc) vs)]] (.slice 1 ((aE xs).map enc)):=by
 intro w I args bX hlen dg
 obtain⟨v,rfl⟩:∃ v,args = #[v]:=by
  match args,hlen with
  | ⟨[a]⟩,_=>exact⟨a,rfl⟩
 have hv:=dg 0 v _ rfl rfl
 obtain⟨p,rfl,hp⟩:∃ p,v = .func (.func 88) #[] #[p]∧Rd I p (.box (.map (xs.map enc) vs)):=by
  generalize xs.map (enc:Int→D)=ks at hv ⊢
  cases hv with
  | aR f ps ds h1 h2=>
   match ps,h1 with
   | ⟨[p]⟩,_=>exact⟨p,rfl,h2 0 p _ rfl rfl⟩
 obtain⟨b,mb,rfl,oz,hm⟩:∃ b mb,p = .pointer (some ⟨b,0,none⟩)∧w.cell? ⟨b,0,none⟩=some (.map mb)∧Rd I (.map mb) (.map (xs.map enc) vs):=by
  generalize xs.map (enc:Int→D)=ks at hp ⊢
  cases hp with
  | box b d val h1 h2 h3=>
   have h4:=h2 0 (by simp[D.cells])
   have h5:=h3 0 _ rfl
   obtain⟨mb,Rc⟩:∃ mb,val 0 = .map mb:=by
    generalize val 0=z at h5
    cases h5<;>exact⟨_,rfl⟩
   rw[Rc] at h4 h5
   exact⟨b,mb,rfl,bX.cell _ _ _ h4,h5⟩
 have hb:b < w.heap.size:=World.block_lt_of_cell? w ⟨b,0,none⟩ oz
 have main:∀ (S:List Int→Prop) (N:Nat),N≤1000000000→SeqGives Fence.wide 2 Tryz.prog 88 #[.pointer (some ⟨b,0,none⟩)] encZ S N w→(∀ ss,S ss→aE ss=aE xs) →
   Calls Tryz.prog 48 #[.func (.func 88) #[] #[.pointer (some ⟨b,0,none⟩)]] w fun e w'=>∃ v J,e = .returned v∧eL w.heap.size w w'∧jn w.heap.size I J∧eD w' J∧Rd J v (.slice 1 ((aE xs).map enc)):=by
  intro S N hN Ym hS
  have cS:=AnyZI.sorted_in Tryz.alr Fence.wide 5 trivial trivial trivial trivial rfl (by omega) (alv _) (enters_of Tryz.func85 (by kernel_rfl) rfl) 88 #[.pointer (some ⟨b,0,none⟩)] trivial (enters_of Tryz.func88 (by kernel_rfl) rfl) S N (by unfold maxLen;omega) (by omega) w Ym
  change CallsIn _ _ Tryz.prog 48 _ _ _ at cS
  refine((callsIn_wide (n:=5)).1 cS).mono ?_
  rintro e w' ⟨v,ss,rfl,Xt,ja,_,Xw⟩
  have E3:=hS ss Xt
  unfold aE at E3
  have hlen:(aE xs).length=xs.length:=by unfold aE;rw[(List.mergeSort_perm _ _).length_eq]
  change ss.mergeSort leI=aE xs at E3
  rw[E3] at ja
  generalize aE xs=ys at ja hlen
  obtain⟨n,ja⟩:∃ n,w'.ownsRow w.heap.size 3 1 v n (ys.map encZ):=⟨_,ja⟩
  have yj:eL w.heap.size w w':=eL.of Xw fun h=>h.elim
  have L8:eD w' I:=⟨fun b o u hc=>(World.cell?_of_block (w:=w) (a:=⟨b,o,none⟩) (yj.block b (bX.lt hc))).trans (bX.cell b o u hc),fun b es hc=>by
   exact iT.to (yj.block b (bX.wi hc)) (bX.mp b es hc),fun b hd=>(yj.block b (bX.tu hd)).trans (bX.df b hd),bX.dS⟩
  obtain⟨hn,⟨rfl,h0⟩ | ⟨g,cap,cur,rfl,hg,hh,gE,rY,aS,jc⟩⟩:=ja
  ·have:ys=[]:=by simpa [h0] using hn
   subst this
   exact⟨_,I,rfl,yj,jn.refl _ _,L8,.uj _ _ _ (Nat.zero_le _)⟩
  have ca:=bX.gp hg
  obtain⟨k1,k2⟩:=ak9 (B:=w.heap.size) L8 ca hg hh
  refine⟨_,_,rfl,yj,k2,k1,.slice _ _ _ _ _ _ (fun k=>(cur[k]?).getD undef) (by simpa using hn) gE rY (fun d hd=>?_) (fun k hk=>?_) (fun k x hx=>?_)⟩
  ·obtain⟨y,_,rfl⟩:=List.mem_map.1 hd
   simp[fK,D.cells,D.one]
  ·have:cur[k]?=some (cur[k]'(by omega)):=Array.getElem?_eq_getElem (by omega)
   simp[aC.fG,this]
  have bS:flat (ys.map (enc:Int→D))=ys.map enc:=by
   unfold flat
   rw[List.flatMap_map]
   simp[fK,D.cells]
   rw[←List.map_eq_flatMap]
   exact List.map_congr_left fun z _=>(fK z).symm
  rw[bS] at hx
  have hk:k < ys.length:=by have:=(List.getElem?_eq_some_iff.1 hx).1;simpa using this
  have hy:ys[k]?=some ys[k]:=List.getElem?_eq_getElem hk
  have oF:x=enc ys[k]:=by simpa [hy] using hx.symm
  have hc:cur[k]?=some (encZ ys[k]):=by
   have h1:(cur.toList.take (n*1))[k]?=(ys.map encZ)[k]?:=by rw[jc]
   rw[List.getElem?_take_of_lt (by simp at hn;omega)] at h1
   simpa [hy] using h1
  rw[hc,oF,fK]
  exact .int _ _
 cases mb with
 | none=>
  have hx:xs=[]:=by
   generalize A8:xs.map (enc:Int→D)=ks at hm
   cases hm
   simpa using A8
  subst hx
  exact main (fun ss=>ss=[]) 0 (by omega) (AnyZI.keys_gives_nil (ρ:=Tryz.Zs) { Tryz.Zr with } Fence.wide _ trivial rfl b w hb oz) (fun ss h=>by rw[h])
 | some bb=>
  obtain⟨⟨es,di⟩,h1,h2,h3⟩:∃ es:ME,I.mp bb=some es∧es.1.size=(xs.map (enc:Int→D)).length∧∀ (i:Nat) (e:MapEntry) (d:D),es.1[i]?=some e→(xs.map (enc:Int→D))[i]?=some d→Rd I e.key d:=by
   generalize A8:xs.map (enc:Int→D)=ks at hm
   cases hm with
   | map _ es _ _ q1 q2 q3 q4 q5=>exact⟨es,q1,q2,q4⟩
  have hh:=bX.mp bb (es,di) h1
  obtain⟨D0,g1,g2,g3⟩:=aiG (xs:=xs) hh (by simpa using h2) (fun i e x he hx=>by
   have:=h3 i e (enc x) he (by simp[hx])
   rw[fK] at this
   generalize e.key=z at this
   cases this;rfl) E8 fc
  exact main (fun ss=>ss.Perm (intKeys D0)) (Maps.size D0) (by omega) (AnyZI.keys_gives (ρ:=Tryz.Zs) { Tryz.Zr with } Fence.wide _ trivial rfl (by omega) b bb xs.length D0 w hb oz g1) (fun ss h=>alm (h.trans g2))
def Uz:an.Spec:=fun ds=>match ds with
 | [.map ks vs]=>some (.aR 88 [.box (.map ks vs)],True)
 | _=>none
theorem awH:aL Tryz.prog 54 Uz:=⟨Enters.of Tryz.func54 (by decide),fun ds r ob hs af=>by
 unfold Uz at hs;split at hs
 ·cases hs;exact anT _ _
 cases hs⟩
end
section
set_option maxRecDepth 10000
attribute [local simp] eJ
def F3:an.Spec:=fun ds=>match ds with
 | [.aR 86 [.box (.map ks vs)]]=>some (.slice 1 ((aE (ks.map dec)).map enc),SS ks)
 | [.aR 88 [.box (.map ks vs)]]=>some (.slice 1 ((aE (ks.map dec)).map enc),SS ks)
 | _=>none
theorem SR:aL Tryz.prog 48 F3:=⟨Enters.of Tryz.func48 (by decide),fun ds r ob hs af=>by
 unfold F3 at hs;split at hs
 ·cases hs
  rename_i ks vs
  obtain⟨h1,h2,h3⟩:=af
  have:=anQ (ks.map dec) vs h2 (by simpa using h3)
  rw[h1] at this
  exact this
 ·cases hs
  rename_i ks vs
  obtain⟨h1,h2,h3⟩:=af
  have:=anR (ks.map dec) vs h2 (by simpa using h3)
  rw[h1] at this
  exact this
 cases hs⟩
end
end Go.Proofs.YtjigeffmmcmlnaaGreatDoor
namespace Go.Proofs.YtjigeffmmcmlnaaGreatDoor
open Go Go.an au
@[reducible] def aw6:e8:=⟨False⟩
attribute [local instance] cJ aw6
def Dh {α:Type} (x:List (P2×α)):List P2:=x.map (·.1)
theorem abg {α:Type} (n:P2) (p:P2×α) (m:List (P2×α)):kp n (p::m)=if n=p.1 then some 0 else(kp n m).map (· + 1):=by
 unfold kp
 rw[List.findIdx?_cons]
 by_cases h:n=p.1<;>simp[h]
theorem akj {α:Type} (n:P2) (v:α):pV [] n v=[(n,v)]:=rfl
theorem aki {α:Type} (n:P2) (v:α) (p:P2×α) (m:List (P2×α)):pV (p::m) n v=if n=p.1 then(n,v)::m else p::pV m n v:=by
 unfold pV
 rw[abg]
 by_cases h:n=p.1
 ·rw[if_pos h,if_pos h];rfl
 rw[if_neg h,if_neg h]
 cases kp n m<;>simp
theorem Ng {α:Type} (n:P2) (z:α) (p:P2×α) (m:List (P2×α)):o4 (p::m) n z=if n=p.1 then p.2 else o4 m n z:=by
 unfold o4
 rw[abg]
 by_cases h:n=p.1
 ·rw[if_pos h,if_pos h];rfl
 rw[if_neg h,if_neg h]
 cases kp n m<;>simp
theorem abf {α:Type} (n:P2):∀ (m:List (P2×α)),pU m n=true↔n∈Dh m
 | []=>by simp[pU,kp,Dh]
 | p::m=>by
  have ih:=abf n m
  simp only[pU,abg,Dh,List.map_cons,List.mem_cons] at ih ⊢
  by_cases h:n=p.1
  ·simp[h]
  simp only[h,if_false,false_or,Option.isSome_map];exact ih
theorem akf {α:Type} (n:P2) (v:α) (k:P2) (z:α):∀ (m:List (P2×α)),o4 (pV m n v) k z=if k=n then v else o4 m k z
 | []=>by rw[akj,Ng]
 | p::m=>by
  have ih:=akf n v k z m
  rw[aki]
  by_cases h:n=p.1
  ·rw[if_pos h,Ng,Ng]
   by_cases h2:k=n
   ·rw[if_pos h2,if_pos h2]
   rw[if_neg h2,if_neg h2,if_neg (by rw[←h];exact h2)]
  rw[if_neg h,Ng,Ng,ih]
  by_cases h2:k=n
  ·subst h2;rw[if_neg h,if_pos rfl,if_pos rfl]
  rw[if_neg h2,if_neg h2]
theorem akh {α:Type} (n:P2) (v:α) (k:P2):∀ (m:List (P2×α)),k∈Dh (pV m n v)↔k=n∨k∈Dh m
 | []=>by simp[akj,Dh]
 | p::m=>by
  have ih:=akh n v k m
  rw[aki]
  by_cases h:n=p.1
  ·rw[if_pos h];simp[Dh,←h]
  rw[if_neg h];simp only[Dh,List.map_cons,List.mem_cons] at ih ⊢;rw[ih];constructor<;>(rintro(h1 | h1 | h1)<;>simp[h1])
theorem axN {α:Type} (n:P2) (v:α) (k:P2) (m:List (P2×α)):pU (pV m n v) k=(decide (k=n)||pU m k):=by
 rw[Bool.eq_iff_iff,abf,akh];simp[abf]
end Go.Proofs.YtjigeffmmcmlnaaGreatDoor
namespace Go.Proofs
open Go.Shelf
def Tryz.Qx:Go.Shelf.Ren:=⟨fun | 4=>77 | n=>n,fun | 22=>27 | 25=>52 | 3=>3 | 4=>4 | 9=>9 | 20=>20 | 0=>0 | n=>n,fun | n=>n⟩
theorem Tryz.agc:Go.Proofs.Lays8.n4 Tryz.prog Tryz.Qx:={
 mixed:=by kernel_rfl
 f4:=⟨Tryz.f77.name,by decide,Tryz.func77.trans (congrArg some (by kernel_rfl))⟩
 t0:=Tryz.underlying0
 a0:=Tryz.isAgg0
 z0:=Tryz.sizeOf0
 v0:=Tryz.zeroValue0
 t3:=Tryz.underlying3
 a3:=Tryz.isAgg3
 z3:=Tryz.sizeOf3
 v3:=Tryz.zeroValue3
 t4:=Tryz.underlying4
 a4:=Tryz.isAgg4
 z4:=Tryz.sizeOf4
 v4:=Tryz.zeroValue4
 t9:=Tryz.underlying9
 a9:=Tryz.isAgg9
 z9:=Tryz.sizeOf9
 v9:=Tryz.zeroValue9
 t20:=Tryz.underlying20
 a20:=Tryz.isAgg20
 z20:=Tryz.sizeOf20
 v20:=Tryz.zeroValue20
 t22:=Tryz.underlying27
 a22:=Tryz.isAgg27
 z22:=Tryz.sizeOf27
 v22:=Tryz.zeroValue27 }
end Go.Proofs
