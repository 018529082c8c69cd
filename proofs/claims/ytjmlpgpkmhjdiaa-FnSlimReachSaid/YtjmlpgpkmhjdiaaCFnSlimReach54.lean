import Derived.Test.YtjmlpgpkmhjdiaaCFnSlimReach21
import Derived.Test.YtjmlpgpkmhjdiaaCFnSlimReach38
import Derived.Test.YtjmlpgpkmhjdiaaCFnSlimReach49
import Derived.Test.YtjmlpgpkmhjdiaaCFnSlimReach29
import Derived.Lib.Hide
import Derived.WalkSpells
import Derived.Deep.DeepMust
import Derived.Test.YtjmlpgpkmhjdiaaCFnSlimReach22
import Derived.Test.YtjmlpgpkmhjdiaaCFnSlimReach27
import Derived.Test.YtjmlpgpkmhjdiaaCFnSlimReach36
import Derived.Test.YtjmlpgpkmhjdiaaCFnSlimReach39
import Derived.Test.YtjmlpgpkmhjdiaaCFnSlimReach43
namespace Go.Proofs.Ytjmlpgpkmhjdiaa.GSlim
open Go.RowKit Go.Proofs.YtjmlpgpkmhjdiaaW.PrintWords Go.Proofs.YtjmlpgpkmhjdiaaW.PrintLast Go.Proofs.YtjmlpgpkmhjdiaaW.PrintMore
attribute [local go_sem] Zh Zf Zt Zq Zc Zb Zi Zg
set_option linter.unusedVariables false
set_option linter.unusedSimpArgs false
def slices_Index_bool_bool.l0:Nat→List Bool→Bool→Int→Int→Option (Int)
 |0,_,_,_,_=>none
 |k+1,x0,x1,x7,x8=>if x8<x7 then (if 0≤x8 then (if x8<(x0.length:Int) then (if (x1 == (rdOf false x0 x8))=true then (some x8) else (slices_Index_bool_bool.l0 k x0 x1 x7 (wrap64 (x8+1)))) else (none)) else (none)) else (some (-1))
def slices_Index_bool_bool.f (k:Nat) (l0:List Bool) (a1:Bool):Option (Int):=slices_Index_bool_bool.l0 k l0 a1 (l0.length:Int) 0
def slices_Contains_bool_bool.f (k:Nat) (l0:List Bool) (a1:Bool):Option (Bool):=(slices_Index_bool_bool.f k l0 a1).bind fun t360=>(some (decide (t360 ≥ 0)))
mutual
def impl_keep.l0:Nat→List Bool→List Bool→List (S47)→Int→Int→Option (List Bool)
 |0,_,_,_,_,_=>none
 |k+1,x3,x5,x18,x19,x20=>if x20<x19 then (if 0≤x20 then (if x20<(x18.length:Int) then (if ((Xb x18 x20).f0)=7 then (impl_keep.j1 k x3 x5 x20 x18 x19 x20 (decide (((Xb x18 x20).f3)≤x20)) ((Xb x18 x20).f0) ((Xb x18 x20).f1) ((Xb x18 x20).f2) ((Xb x18 x20).f3)) else (impl_keep.j1 k x3 x5 x20 x18 x19 x20 true ((Xb x18 x20).f0) ((Xb x18 x20).f1) ((Xb x18 x20).f2) ((Xb x18 x20).f3))) else (none)) else (none)) else (some x5)
def impl_keep.j1:Nat→List Bool→List Bool→Int→List (S47)→Int→Int→Bool→Int→Int→Int→Int→Option (List Bool)
 |0,_,_,_,_,_,_,_,_,_,_,_=>none
 |k+1,x3,x5,x6,x18,x19,x20,x33,x370000,x370001,x370002,x370003=>if x33=true then (impl_keep.l0 k x3 x5 x18 x19 (wrap64 (x20+1))) else (if 0≤(wrap64 (x6+1)) then (if (wrap64 (x6+1))≤x370003 then (if x370003≤(x3.length:Int) then ((slices_Contains_bool_bool.f k ((x3.take (x370003:Int).toNat).drop ((wrap64 (x6+1)):Int).toNat) true).bind fun t374=>(if t374=true then (impl_keep.l0 k x3 x5 x18 x19 (wrap64 (x20+1))) else (if 0≤x370003 then (if x370003<(x3.length:Int) then (if rdOf false x3 x370003=true then (if 0≤x6 then (if x6<(x5.length:Int) then (impl_keep.l0 k x3 (x5.set (x6:Int).toNat false) x18 x19 (wrap64 (x20+1))) else (none)) else (none)) else (impl_keep.l0 k x3 x5 x18 x19 (wrap64 (x20+1)))) else (none)) else (none)))) else (none)) else (none)) else (none))
end
def impl_keep.f (k:Nat) (l0:List (S47)):Option (List Bool):=(impl_reach.f k l0).bind fun t361=>(if 0≤(wrap64 ((l0.length:Int) - 1)) then (if (wrap64 ((l0.length:Int) - 1))<(t361.length:Int) then ((some (t361.set ((wrap64 ((l0.length:Int) - 1)):Int).toNat true:List Bool)).bind fun y364=>((slices_Clone_bool_bool.f y364).bind fun t365=>(impl_keep.l0 k y364 t365 l0 (l0.length:Int) 0))) else (none)) else (none))
end Go.Proofs.Ytjmlpgpkmhjdiaa.GSlim
namespace Go.Proofs.Ytjmlpgpkmhjdiaa.GSlim
open Go.RowKit Go.Proofs.YtjmlpgpkmhjdiaaW.PrintWords Go.Proofs.YtjmlpgpkmhjdiaaW.PrintLast Go.Proofs.YtjmlpgpkmhjdiaaW.PrintMore
attribute [local go_sem] Zh Zf Zt Zq Zc Zb Zi Zg
set_option linter.unusedVariables false
set_option linter.unusedSimpArgs false
section
open Go.Proofs.Ytjmlpgpkmhjdiaa.HMap
def impl_slimDead.f (k:Nat) (l0:List dead.I):Option (List dead.I):=(impl_keep.f k l0).bind fun kept=>if kept.length=l0.length∧l0.length<1000000 then some (dead.out kept l0 kept) else none
end
end Go.Proofs.Ytjmlpgpkmhjdiaa.GSlim
namespace Go.Proofs.Ytjmlpgpkmhjdiaa.GSlim
open Go.RowKit Go.Proofs.YtjmlpgpkmhjdiaaW.PrintWords Go.Proofs.YtjmlpgpkmhjdiaaW.PrintLast Go.Proofs.YtjmlpgpkmhjdiaaW.PrintMore
attribute [local go_sem] Zh Zf Zt Zq Zc Zb Zi Zg
set_option linter.unusedVariables false
set_option linter.unusedSimpArgs false
attribute [local go_sem high] eqA47
end Go.Proofs.Ytjmlpgpkmhjdiaa.GSlim
namespace Go.Proofs.Ytjmlpgpkmhjdiaa.GSlim
open Go.RowKit Go.Proofs.YtjmlpgpkmhjdiaaW.PrintWords Go.Proofs.YtjmlpgpkmhjdiaaW.PrintLast Go.Proofs.YtjmlpgpkmhjdiaaW.PrintMore
attribute [local go_sem] Zh Zf Zt Zq Zc Zb Zi Zg
set_option linter.unusedVariables false
set_option linter.unusedSimpArgs false
attribute [local go_sem high] eqA47
def impl_Ins_67.l0:Nat→List (S47)→List (S47)→Int→Int→Option (Bool)
 |0,_,_,_,_=>none
 |k+1,x0,x1,x12,x13=>if x13<x12 then (if 0≤x13 then (if x13<(x0.length:Int) then (if x13<(x1.length:Int) then (if (!(((Xb x0 x13).f0) == ((Xb x1 x13).f0))||(!(((Xb x0 x13).f1) == ((Xb x1 x13).f1))||(!(((Xb x0 x13).f2) == ((Xb x1 x13).f2))||(!(((Xb x0 x13).f3) == ((Xb x1 x13).f3))))))=true then (some false) else (impl_Ins_67.l0 k x0 x1 x12 (wrap64 (x13+1)))) else (none)) else (none)) else (none)) else (some true)
def impl_Ins_67.f (k:Nat) (l0:List (S47)) (l1:List (S47)):Option (Bool):=if (l0.length:Int)=(l1.length:Int) then (impl_Ins_67.l0 k l0 l1 (l0.length:Int) 0) else (some false)
end Go.Proofs.Ytjmlpgpkmhjdiaa.GSlim
namespace Go.Proofs.Ytjmlpgpkmhjdiaa.GSlim
open Go.RowKit Go.Proofs.YtjmlpgpkmhjdiaaW.PrintWords Go.Proofs.YtjmlpgpkmhjdiaaW.PrintLast Go.Proofs.YtjmlpgpkmhjdiaaW.PrintMore
attribute [local go_sem] Zh Zf Zt Zq Zc Zb Zi Zg
set_option linter.unusedVariables false
set_option linter.unusedSimpArgs false
set_option maxHeartbeats 8000000 in
set_option maxRecDepth 100000 in
theorem impl_passes.made (w:World):Calls Try.prog 72 #[] w fun e w'=>∃ g,e=.returned (.slice (some ⟨g,0,none⟩) 2 2)∧w.heap.size≤g∧w'.heap[g]?=some (.cells #[.func (.func 59) #[] #[],.func (.func 61) #[] #[]] 71 (0,0))∧Below w.heap.size w w':=by
 go_enter Try.func72,Try.ntmps72
 go_wp2
 go_ret
 exact ⟨_,rfl,Nat.le_refl _,heap_alloc_new w _,Vd (Below.refl _ _) _⟩
def slim.step (k:Nat) (now:List (S47)):Option (List (S47)):=(impl_slimJumps.f k now).bind fun a=>impl_slimDead.f k a
def slim.go (k:Nat):Nat→List (S47)→Option (List (S47))
 |0,now=>some now
 |d+1,now=>(slim.step k now).bind fun next=>(impl_Ins_67.f k next now).bind fun b=>if b=true then some now else slim.go k d next
end Go.Proofs.Ytjmlpgpkmhjdiaa.GSlim
