import Derived.Test.YtdkcjecllbdljaaCFnSlimPlaces21
import Derived.WalkSpells
import Derived.Test.YtdkcjecllbdljaaCFnSlimPlaces33
import Derived.Test.YtdkcjecllbdljaaCFnSlimPlaces51
import Derived.Test.YtdkcjecllbdljaaCFnSlimPlaces60
namespace Go.Proofs.Ytdkcjecllbdljaa.GSlim
open Go.RowKit Go.Proofs.YtdkcjecllbdljaaW.PrintWords Go.Proofs.YtdkcjecllbdljaaW.PrintLast Go.Proofs.YtdkcjecllbdljaaW.PrintMore
attribute [local go_sem] Zq Zt Uh Ui Zi Zj Zr Zu
set_option linter.unusedVariables false
set_option linter.unusedSimpArgs false
def impl_Ins_28.f (l0:List (S31)):Option (List (S31)):=if l0.length<4398046511104 then some l0 else none
end Go.Proofs.Ytdkcjecllbdljaa.GSlim
namespace Go.Proofs.Ytdkcjecllbdljaa.GSlim
open Go.RowKit Go.Proofs.YtdkcjecllbdljaaW.PrintWords Go.Proofs.YtdkcjecllbdljaaW.PrintLast Go.Proofs.YtdkcjecllbdljaaW.PrintMore
attribute [local go_sem] Zq Zt Uh Ui Zi Zj Zr Zu
set_option linter.unusedVariables false
set_option linter.unusedSimpArgs false
def impl_follow.l0:Nat→List (S31)→Int→Int→Int→Option (Int × Bool)
 |0,_,_,_,_=>none
 |k+1,x0,x1,x8,x9=>if x9<x8 then (if 0≤x1 then (if x1<(x0.length:Int) then (if ((Xb x0 x1).f0)=7 then (impl_follow.l0 k x0 ((Xb x0 x1).f3) x8 (wrap64 (x9+1))) else (some (x1,true))) else (none)) else (none)) else (some (0,false))
def impl_follow.f (k:Nat) (l0:List (S31)) (a1:Int):Option (Int × Bool):=impl_follow.l0 k l0 a1 (wrap64 ((l0.length:Int)+1)) 0
mutual
def impl_slimJumps.l0:Nat→List (S31)→List (S31)→List (S31)→Int→Int→Option ((List (S31)))
 |0,_,_,_,_,_=>none
 |k+1,x0,x3,x10,x11,x12=>if x12<x11 then (if 0≤x12 then (if x12<(x10.length:Int) then (if ((Xb x10 x12).f0)=7 then (impl_slimJumps.j1 k x0 x3 x12 x10 x11 x12 false ((Xb x10 x12).f0) ((Xb x10 x12).f1) ((Xb x10 x12).f2) ((Xb x10 x12).f3)) else (impl_slimJumps.j1 k x0 x3 x12 x10 x11 x12 (((Xb x10 x12).f0) != 6) ((Xb x10 x12).f0) ((Xb x10 x12).f1) ((Xb x10 x12).f2) ((Xb x10 x12).f3))) else (none)) else (none)) else (some x3)
def impl_slimJumps.j1:Nat→List (S31)→List (S31)→Int→List (S31)→Int→Int→Bool→Int→Int→Int→Int→Option ((List (S31)))
 |0,_,_,_,_,_,_,_,_,_,_,_=>none
 |k+1,x0,x3,x4,x10,x11,x12,x24,x634000,x634001,x634002,x634003=>if x24=true then (impl_slimJumps.l0 k x0 x3 x10 x11 (wrap64 (x12+1))) else ((impl_follow.f k x0 x634003).bind fun bt634=>(if bt634.2=true then (if 0≤x4 then (if x4<(x3.length:Int) then (impl_slimJumps.l0 k x0 (x3.set (x4:Int).toNat (⟨(Xb x3 x4).f0,(Xb x3 x4).f1,(Xb x3 x4).f2,bt634.1⟩:S31)) x10 x11 (wrap64 (x12+1))) else (none)) else (none)) else (impl_slimJumps.l0 k x0 x3 x10 x11 (wrap64 (x12+1)))))
end
def impl_slimJumps.f (k:Nat) (l0:List (S31)):Option ((List (S31))):=(impl_Ins_28.f l0).bind fun t629=>(impl_slimJumps.l0 k l0 t629 l0 (l0.length:Int) 0)
end Go.Proofs.Ytdkcjecllbdljaa.GSlim
namespace Go.Proofs.Ytdkcjecllbdljaa.GSlim
open Go.RowKit Go.Proofs.YtdkcjecllbdljaaW.PrintWords Go.Proofs.YtdkcjecllbdljaaW.PrintLast Go.Proofs.YtdkcjecllbdljaaW.PrintMore
attribute [local go_sem] Zq Zt Uh Ui Zi Zj Zr Zu
set_option linter.unusedVariables false
set_option linter.unusedSimpArgs false
attribute [local go_sem high] eqA31
def Vx.l0:Nat→List (S31)→List (S31)→Int→Option (Bool)
 |0,_,_,_=>none
 |k+1,x0,x1,x5=>if x5<(x0.length:Int) then (if 0≤x5 then (if x5<(x1.length:Int) then (if (!(((Xb x0 x5).f0) == ((Xb x1 x5).f0))||(!(((Xb x0 x5).f1) == ((Xb x1 x5).f1))||(!(((Xb x0 x5).f2) == ((Xb x1 x5).f2))||(!(((Xb x0 x5).f3) == ((Xb x1 x5).f3))))))=true then (some false) else (Vx.l0 k x0 x1 (wrap64 (x5+1)))) else (none)) else (none)) else (some true)
def Vx.f (k:Nat) (l0:List (S31)) (l1:List (S31)):Option (Bool):=if (l0.length:Int)=(l1.length:Int) then (Vx.l0 k l0 l1 0) else (some false)
end Go.Proofs.Ytdkcjecllbdljaa.GSlim
namespace Go.Proofs.Ytdkcjecllbdljaa.Pure
open Go.RowKit Go.Proofs.Ytdkcjecllbdljaa.GSlim Go.Proofs.YtdkcjecllbdljaaW.PrintWords Go.Proofs.YtdkcjecllbdljaaW.PrintLast Go.Proofs.YtdkcjecllbdljaaW.PrintMore Go.Proofs.Ytdkcjecllbdljaa.Evt Go.Proofs.Ytdkcjecllbdljaa.HForms
set_option linter.unusedVariables false
set_option linter.unusedSimpArgs false
theorem at_lt {c:List Ins} {i:Nat} (h:i<c.length):at_ c i=c[i]:=by unfold at_;exact getD_at _ h
theorem Valid.target {c:List Ins} (hv:Valid c) {i:Nat} (hi:i<c.length) (ho:(at_ c i).f0=6∨(at_ c i).f0=7):0≤(at_ c i).f3∧(at_ c i).f3<c.length:=index_ok (hv.ins i hi) ho
end Go.Proofs.Ytdkcjecllbdljaa.Pure
