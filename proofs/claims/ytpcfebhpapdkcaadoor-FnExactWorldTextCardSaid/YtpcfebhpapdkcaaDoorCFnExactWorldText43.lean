import Derived.Test.YtpcfebhpapdkcaaDoorCFnExactWorldText42
import Derived.Test.YtpcfebhpapdkcaaDoorCFnExactWorldText40
import Derived.Test.YtpcfebhpapdkcaaDoorCFnExactWorldText41
import Derived.Test.YtpcfebhpapdkcaaDoorRows
namespace Go.Proofs.YtpcfebhpapdkcaaDoor.KindsWorld
open Go.RowKit Go.ChangeShapes Go.WideShapes Go.Proofs.YtpcfebhpapdkcaaDoorW.PrintWords Go.Proofs.YtpcfebhpapdkcaaDoorW.PrintLast Go.Proofs.YtpcfebhpapdkcaaDoorW.PrintMore Go.Proofs.YtpcfebhpapdkcaaDoor.Open Go.Proofs.YtpcfebhpapdkcaaDoor.GWorld Go.Proofs.YtpcfebhpapdkcaaDoor.Pure
set_option linter.unusedVariables false
section
variable {H:Type} {enc:TypeId × Value→H} {w:World} {base:Nat} {spare:Nat→Bool} {held:Bool}
theorem opensI:Opens enc Tryd.prog w base spare held (Kd.int .i64) Num 3:=opens_int Tryd.underlying3 (by kernel_rfl)
theorem opensIs:Opens enc Tryd.prog w base spare held (Kd.slice 3 (Kd.int .i64)) (fun zs=>zs.length≤9223372036854775807∧∀ z ∈ zs,Num z) 23:=opens_slice Tryd.underlying23 (by kernel_rfl) opensI
theorem opensIss:Opens enc Tryd.prog w base spare held (Kd.slice 23 (Kd.slice 3 (Kd.int .i64))) (fun zs=>zs.length≤9223372036854775807∧∀ z ∈ zs,z.length≤9223372036854775807∧∀ n ∈ z,Num n) 24:=opens_slice Tryd.underlying24 (by kernel_rfl) opensIs
theorem opensSs:Opens enc Tryd.prog w base spare held (Kd.slice 78 k78) (fun zs=>zs.length≤9223372036854775807∧∀ z ∈ zs,StmtN z) 58:=opens_slice Tryd.underlying58 (by kernel_rfl) opens_stmt
theorem opens60:Opens enc Tryd.prog w base spare held k60 ProcN 60:=
  opens_iso (fun x:S60=>(x.f0,x.f1,x.f2,x.f3,x.f4)) (fun z=>⟨z.1,z.2.1,z.2.2.1,z.2.2.2.1,z.2.2.2.2⟩) (fun _=>rfl) (opens_struct Tryd.underlying60 (by kernel_rfl) (by kernel_rfl) (opensF_cons opensIs (opensF_cons opensSs (opensF_cons opensI (opensF_cons opensI (opensF_one opensI))))))
def SayN (s:S66):Prop:=Num s.f0∧Num s.f1
theorem opens66:Opens enc Tryd.prog w base spare held k66 SayN 66:=
  opens_iso (fun x:S66=>(x.f0,x.f1)) (fun z=>⟨z.1,z.2⟩) (fun _=>rfl) (opens_struct Tryd.underlying66 (by kernel_rfl) (by kernel_rfl) (opensF_cons opensI (opensF_one opensI)))
theorem arg27 {cs:Array Value} {x:DataW H} {p:List MemPlace} (hx:DataW.Trod enc Tryd.prog w base spare held 27 (.agg cs) x p) :
    ∃ (A0:Option Addr) (c0:Nat) (z0:List S60) (A1:Option Addr) (c1:Nat) (z1:List Int) (A2:Option Addr) (c2:Nat) (z2:List Int) (A3:Option Addr) (c3:Nat) (z3:List (List Int)) (A4:Option Addr) (c4:Nat) (z4:List S66),
      cs=#[.slice A0 z0.length c0,.slice A1 z1.length c1,.slice A2 z2.length c2,.slice A3 z3.length c3,.slice A4 z4.length c4]∧
      (Kd.C k60 w A0 z0.length z0∧z0.length≤c0)∧(Kd.C (Kd.int .i64) w A1 z1.length z1∧z1.length≤c1)∧(Kd.C (Kd.int .i64) w A2 z2.length z2∧z2.length≤c2)∧(Kd.C (Kd.slice 3 (Kd.int .i64)) w A3 z3.length z3∧z3.length≤c3)∧(Kd.C k66 w A4 z4.length z4∧z4.length≤c4)∧LFits z0 z1 z2 z3 z4:=by
  obtain ⟨fuel,hf⟩:=hx
  have o:=opens_struct (enc:=enc) (P:=Tryd.prog) (w:=w) (base:=base) (spare:=spare) (held:=held) (d:=Kd.pair (Kd.slice 60 k60) (Kd.pair (Kd.slice 3 (Kd.int .i64)) (Kd.pair (Kd.slice 3 (Kd.int .i64)) (Kd.pair (Kd.slice 23 (Kd.slice 3 (Kd.int .i64))) (Kd.slice 66 k66))))) Tryd.underlying27 (by kernel_rfl) (by kernel_rfl) (opensF_cons (opens_slice Tryd.underlying22 (by kernel_rfl) opens60) (opensF_cons opensIs (opensF_cons opensIs (opensF_cons opensIss (opensF_one (opens_slice Tryd.underlying25 (by kernel_rfl) opens66))))))
  obtain ⟨⟨z0,z1,z2,z3,z4⟩,hk,hw⟩:=o.2 fuel _ _ hf
  obtain ⟨_,_,e,⟨A0,c0,rfl,l0,g0⟩,⟨_,_,rfl,⟨A1,c1,rfl,l1,g1⟩,⟨_,_,rfl,⟨A2,c2,rfl,l2,g2⟩,⟨_,_,rfl,⟨A3,c3,rfl,l3,g3⟩,⟨A4,c4,rfl,l4,g4⟩⟩⟩⟩⟩:=hk
  obtain ⟨w0,w1,w2,w3,w4⟩:=hw
  refine ⟨A0,c0,z0,A1,c1,z1,A2,c2,z2,A3,c3,z3,A4,c4,z4,?_,⟨g0,l0⟩,⟨g1,l1⟩,⟨g2,l2⟩,⟨g3,l3⟩,⟨g4,l4⟩,⟨w0,w1,w2,w3,w4⟩⟩
  exact Array.toList_inj.1 e
end
end Go.Proofs.YtpcfebhpapdkcaaDoor.KindsWorld
