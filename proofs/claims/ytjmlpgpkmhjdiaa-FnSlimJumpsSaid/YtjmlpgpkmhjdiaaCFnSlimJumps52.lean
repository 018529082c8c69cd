import Derived.Test.YtjmlpgpkmhjdiaaCFnSlimJumps21
import Derived.Test.YtjmlpgpkmhjdiaaCFnSlimJumps41
import Derived.Test.YtjmlpgpkmhjdiaaCFnSlimJumps49
import Derived.Test.YtjmlpgpkmhjdiaaCFnSlimJumps29
import Derived.Lib.Hide
import Derived.WalkSpells
import Derived.Deep.DeepMust
import Derived.Test.YtjmlpgpkmhjdiaaCFnSlimJumps22
import Derived.Test.YtjmlpgpkmhjdiaaCFnSlimJumps27
import Derived.Test.YtjmlpgpkmhjdiaaCFnSlimJumps36
import Derived.Test.YtjmlpgpkmhjdiaaCFnSlimJumps37
namespace Go.Proofs.Ytjmlpgpkmhjdiaa.GSlim
open Go.RowKit Go.Proofs.YtjmlpgpkmhjdiaaW.PrintWords Go.Proofs.YtjmlpgpkmhjdiaaW.PrintLast Go.Proofs.YtjmlpgpkmhjdiaaW.PrintMore
attribute [local go_sem] Zn Zp Ua Ub Zh Zi Zo Zq
set_option linter.unusedVariables false
set_option linter.unusedSimpArgs false
def slices_Index_bool_bool.l0:Nat→List Bool→Bool→Int→Int→Option (Int)
 |0,_,_,_,_=>none
 |k+1,x0,x1,x7,x8=>if x8<x7 then (if 0≤x8 then (if x8<(x0.length:Int) then (if (x1 == (rdOf false x0 x8))=true then (some x8) else (slices_Index_bool_bool.l0 k x0 x1 x7 (wrap64 (x8+1)))) else (none)) else (none)) else (some (-1))
def slices_Index_bool_bool.f (k:Nat) (l0:List Bool) (a1:Bool):Option (Int):=slices_Index_bool_bool.l0 k l0 a1 (l0.length:Int) 0
def slices_Contains_bool_bool.f (k:Nat) (l0:List Bool) (a1:Bool):Option (Bool):=(slices_Index_bool_bool.f k l0 a1).bind fun t360=>(some (decide (t360 ≥ 0)))
mutual
def impl_keep.l0:Nat→List Bool→List Bool→List (S47)→Int→Int→Option (List Bool)
 |0,_,_,_,_,_=>none
 |k+1,x3,x5,x18,x19,x20=>if x20<x19 then (if 0≤x20 then (if x20<(x18.length:Int) then (if ((Xb x18 x20).f0)=7 then (impl_keep.j1 k x3 x5 x20 x18 x19 x20 (decide (((Xb x18 x20).f3)≤x20)) ((Xb x18 x20).f0) ((Xb x18 x20).f1) ((Xb x18 x20).f2) ((Xb x18 x20).f3)) else (impl_keep.j1 k x3 x5 x20 x18 x19 x20 true ((Xb x18 x20).f0) ((Xb x18 x20).f1) ((Xb x18 x20).f2) ((Xb x18 x20).f3))) else (none)) else (none)) else (some x5)
def impl_keep.j1:Nat→List Bool→List Bool→Int→List (S47)→Int→Int→Bool→Int→Int→Int→Int→Option (List Bool)
 |0,_,_,_,_,_,_,_,_,_,_,_=>none
 |k+1,x3,x5,x6,x18,x19,x20,x33,x370000,x370001,x370002,x370003=>if x33=true then (impl_keep.l0 k x3 x5 x18 x19 (wrap64 (x20+1))) else (if 0≤(wrap64 (x6+1)) then (if (wrap64 (x6+1))≤x370003 then (if x370003≤(x3.length:Int) then ((slices_Contains_bool_bool.f k ((x3.take (x370003:Int).toNat).drop ((wrap64 (x6+1)):Int).toNat) true).bind fun t374=>(if t374=true then (impl_keep.l0 k x3 x5 x18 x19 (wrap64 (x20+1))) else (if 0≤x370003 then (if x370003<(x3.length:Int) then (if rdOf false x3 x370003=true then (if 0≤x6 then (if x6<(x5.length:Int) then (impl_keep.l0 k x3 (x5.set (x6:Int).toNat false) x18 x19 (wrap64 (x20+1))) else (none)) else (none)) else (impl_keep.l0 k x3 x5 x18 x19 (wrap64 (x20+1)))) else (none)) else (none)))) else (none)) else (none)) else (none))
end
def impl_keep.f (k:Nat) (l0:List (S47)):Option (List Bool):=(impl_reach.f k l0).bind fun t361=>(if 0≤(wrap64 ((l0.length:Int) - 1)) then (if (wrap64 ((l0.length:Int) - 1))<(t361.length:Int) then ((some (t361.set ((wrap64 ((l0.length:Int) - 1)):Int).toNat true:List Bool)).bind fun y364=>((slices_Clone_bool_bool.f y364).bind fun t365=>(impl_keep.l0 k y364 t365 l0 (l0.length:Int) 0))) else (none)) else (none))
end Go.Proofs.Ytjmlpgpkmhjdiaa.GSlim
namespace Go.Proofs.Ytjmlpgpkmhjdiaa.GSlim
open Go.RowKit Go.Proofs.YtjmlpgpkmhjdiaaW.PrintWords Go.Proofs.YtjmlpgpkmhjdiaaW.PrintLast Go.Proofs.YtjmlpgpkmhjdiaaW.PrintMore
attribute [local go_sem] Zn Zp Ua Ub Zh Zi Zo Zq
set_option linter.unusedVariables false
set_option linter.unusedSimpArgs false
section
open Go.Proofs.Ytjmlpgpkmhjdiaa.HMap
def impl_slimDead.f (k:Nat) (l0:List dead.I):Option (List dead.I):=(impl_keep.f k l0).bind fun kept=>if kept.length=l0.length∧l0.length<1000000 then some (dead.out kept l0 kept) else none
end
end Go.Proofs.Ytjmlpgpkmhjdiaa.GSlim
namespace Go.Proofs.Ytjmlpgpkmhjdiaa.GSlim
open Go.RowKit Go.Proofs.YtjmlpgpkmhjdiaaW.PrintWords Go.Proofs.YtjmlpgpkmhjdiaaW.PrintLast Go.Proofs.YtjmlpgpkmhjdiaaW.PrintMore
attribute [local go_sem] Zn Zp Ua Ub Zh Zi Zo Zq
set_option linter.unusedVariables false
set_option linter.unusedSimpArgs false
attribute [local go_sem high] eqA47
def Vl.l0:Nat→List (S47)→List (S47)→Int→Option (Bool)
 |0,_,_,_=>none
 |k+1,x0,x1,x5=>if x5<(x0.length:Int) then (if 0≤x5 then (if x5<(x1.length:Int) then (if (!(((Xb x0 x5).f0) == ((Xb x1 x5).f0))||(!(((Xb x0 x5).f1) == ((Xb x1 x5).f1))||(!(((Xb x0 x5).f2) == ((Xb x1 x5).f2))||(!(((Xb x0 x5).f3) == ((Xb x1 x5).f3))))))=true then (some false) else (Vl.l0 k x0 x1 (wrap64 (x5+1)))) else (none)) else (none)) else (some true)
def Vl.f (k:Nat) (l0:List (S47)) (l1:List (S47)):Option (Bool):=if (l0.length:Int)=(l1.length:Int) then (Vl.l0 k l0 l1 0) else (some false)
end Go.Proofs.Ytjmlpgpkmhjdiaa.GSlim
