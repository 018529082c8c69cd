import Derived.Test.YtjmlpgpkmhjdiaaCFnSlimReach21
import Derived.Test.YtjmlpgpkmhjdiaaCFnSlimReach22
import Derived.Test.YtjmlpgpkmhjdiaaCFnSlimReach27
import Derived.Test.YtjmlpgpkmhjdiaaCFnSlimReach39
import Derived.WalkSpells
import Derived.Test.YtjmlpgpkmhjdiaaCFnSlimReach36
namespace Go.Proofs.Ytjmlpgpkmhjdiaa.GSlim
open Go.RowKit Go.Proofs.YtjmlpgpkmhjdiaaW.PrintWords Go.Proofs.YtjmlpgpkmhjdiaaW.PrintLast Go.Proofs.YtjmlpgpkmhjdiaaW.PrintMore
attribute [local go_sem] Zh Zf Zt Zq Zc Zb Zi Zg
set_option linter.unusedVariables false
set_option linter.unusedSimpArgs false
end Go.Proofs.Ytjmlpgpkmhjdiaa.GSlim
namespace Go.Proofs.Ytjmlpgpkmhjdiaa.GSlim
open Go.RowKit Go.Proofs.YtjmlpgpkmhjdiaaW.PrintWords Go.Proofs.YtjmlpgpkmhjdiaaW.PrintLast Go.Proofs.YtjmlpgpkmhjdiaaW.PrintMore
attribute [local go_sem] Zh Zf Zt Zq Zc Zb Zi Zg
set_option linter.unusedVariables false
set_option linter.unusedSimpArgs false
end Go.Proofs.Ytjmlpgpkmhjdiaa.GSlim
namespace Go.Proofs.Ytjmlpgpkmhjdiaa.GSlim
open Go.RowKit Go.Proofs.YtjmlpgpkmhjdiaaW.PrintWords Go.Proofs.YtjmlpgpkmhjdiaaW.PrintLast Go.Proofs.YtjmlpgpkmhjdiaaW.PrintMore
attribute [local go_sem] Zh Zf Zt Zq Zc Zb Zi Zg
set_option linter.unusedVariables false
set_option linter.unusedSimpArgs false
def impl_Ins_71.f (l0:List (S47)):Option (List (S47)):=if l0.length<4398046511104 then some l0 else none
end Go.Proofs.Ytjmlpgpkmhjdiaa.GSlim
namespace Go.Proofs.Ytjmlpgpkmhjdiaa.GSlim
open Go.RowKit Go.Proofs.YtjmlpgpkmhjdiaaW.PrintWords Go.Proofs.YtjmlpgpkmhjdiaaW.PrintLast Go.Proofs.YtjmlpgpkmhjdiaaW.PrintMore
attribute [local go_sem] Zh Zf Zt Zq Zc Zb Zi Zg
set_option linter.unusedVariables false
set_option linter.unusedSimpArgs false
def impl_follow.l0:Nat→List (S47)→Int→Int→Int→Option (Int × Bool)
 |0,_,_,_,_=>none
 |k+1,x0,x1,x8,x9=>if x9<x8 then (if 0≤x1 then (if x1<(x0.length:Int) then (if ((Xb x0 x1).f0)=7 then (impl_follow.l0 k x0 ((Xb x0 x1).f3) x8 (wrap64 (x9+1))) else (some (x1,true))) else (none)) else (none)) else (some (0,false))
def impl_follow.f (k:Nat) (l0:List (S47)) (a1:Int):Option (Int × Bool):=impl_follow.l0 k l0 a1 (wrap64 ((l0.length:Int)+1)) 0
mutual
def impl_slimJumps.l0:Nat→List (S47)→List (S47)→List (S47)→Int→Int→Option ((List (S47)))
 |0,_,_,_,_,_=>none
 |k+1,x0,x3,x10,x11,x12=>if x12<x11 then (if 0≤x12 then (if x12<(x10.length:Int) then (if ((Xb x10 x12).f0)=7 then (impl_slimJumps.j1 k x0 x3 x12 x10 x11 x12 false ((Xb x10 x12).f0) ((Xb x10 x12).f1) ((Xb x10 x12).f2) ((Xb x10 x12).f3)) else (impl_slimJumps.j1 k x0 x3 x12 x10 x11 x12 (((Xb x10 x12).f0) != 6) ((Xb x10 x12).f0) ((Xb x10 x12).f1) ((Xb x10 x12).f2) ((Xb x10 x12).f3))) else (none)) else (none)) else (some x3)
def impl_slimJumps.j1:Nat→List (S47)→List (S47)→Int→List (S47)→Int→Int→Bool→Int→Int→Int→Int→Option ((List (S47)))
 |0,_,_,_,_,_,_,_,_,_,_,_=>none
 |k+1,x0,x3,x4,x10,x11,x12,x24,x310000,x310001,x310002,x310003=>if x24=true then (impl_slimJumps.l0 k x0 x3 x10 x11 (wrap64 (x12+1))) else ((impl_follow.f k x0 x310003).bind fun bt310=>(if bt310.2=true then (if 0≤x4 then (if x4<(x3.length:Int) then (impl_slimJumps.l0 k x0 (x3.set (x4:Int).toNat (⟨(Xb x3 x4).f0,(Xb x3 x4).f1,(Xb x3 x4).f2,bt310.1⟩:S47)) x10 x11 (wrap64 (x12+1))) else (none)) else (none)) else (impl_slimJumps.l0 k x0 x3 x10 x11 (wrap64 (x12+1)))))
end
def impl_slimJumps.f (k:Nat) (l0:List (S47)):Option ((List (S47))):=(impl_Ins_71.f l0).bind fun t305=>(impl_slimJumps.l0 k l0 t305 l0 (l0.length:Int) 0)
end Go.Proofs.Ytjmlpgpkmhjdiaa.GSlim
