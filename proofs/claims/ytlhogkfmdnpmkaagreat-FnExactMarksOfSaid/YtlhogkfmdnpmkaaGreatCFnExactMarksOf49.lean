import Derived.Test.YtlhogkfmdnpmkaaGreatCFnExactMarksOf47
set_option linter.unusedSectionVars false
set_option linter.unusedVariables false
set_option linter.unusedSimpArgs false
set_option maxHeartbeats 4000000
set_option maxRecDepth 100000
namespace Go.Proofs.YtlhogkfmdnpmkaaGreat.Mean
open RowKit GMarks YtlhogkfmdnpmkaaGreatW.PrintWords YtlhogkfmdnpmkaaGreatW.PrintLast YtlhogkfmdnpmkaaGreatW.PrintMore
variable [Prot]
theorem deed_numDeed (W:World) (t1 t2 t3:Int) (A4:Option Addr) (n4 c4:Nat) (A5:Option Addr) (n5 c5:Nat) :
  Calls Tryz.prog 85 #[.agg #[.int .i64 1,.int .i64 t1,.int .i64 t2,.int .i64 t3,.slice A4 n4 c4,.slice A5 n5 c5]] W fun e W'=>e=.returned (.iface 139 (.agg #[.int .i64 t1,.int .i64 t3]))∧Below W.heap.size W W':=by
 go_enter Tryz.func85,Tryz.ntmps85;go_upto_region 1 with (fail);have HB:=Xf (Below.refl W.heap.size W) (.cells #[.int .i64 1,.int .i64 t1,.int .i64 t2,.int .i64 t3,.slice A4 n4 c4,.slice A5 n5 c5] 87);have hbx:=Yc W (.cells #[.int .i64 1,.int .i64 t1,.int .i64 t2,.int .i64 t3,.slice A4 n4 c4,.slice A5 n5 c5] 87);generalize W.alloc (.cells #[.int .i64 1,.int .i64 t1,.int .i64 t2,.int .i64 t3,.slice A4 n4 c4,.slice A5 n5 c5] 87)=W1 at *;obtain ⟨b0,b1,b2,b3,b4,b5⟩:=box6 hbx;have HBB:=Xa.mk HB;clear HB hbx;go_wp2;go_ret
 exact ⟨rfl,HBB.out⟩
theorem deed_opDeed (W:World) (t1 t2 t3:Int) (A4:Option Addr) (n4 c4:Nat) (A5:Option Addr) (n5 c5:Nat) :
  Calls Tryz.prog 85 #[.agg #[.int .i64 2,.int .i64 t1,.int .i64 t2,.int .i64 t3,.slice A4 n4 c4,.slice A5 n5 c5]] W fun e W'=>e=.returned (.iface 141 (.agg #[.int .i64 t1,.int .i64 t2,.int .i64 t3]))∧Below W.heap.size W W':=by
 go_enter Tryz.func85,Tryz.ntmps85;go_upto_region 1 with (fail);have HB:=Xf (Below.refl W.heap.size W) (.cells #[.int .i64 2,.int .i64 t1,.int .i64 t2,.int .i64 t3,.slice A4 n4 c4,.slice A5 n5 c5] 87);have hbx:=Yc W (.cells #[.int .i64 2,.int .i64 t1,.int .i64 t2,.int .i64 t3,.slice A4 n4 c4,.slice A5 n5 c5] 87);generalize W.alloc (.cells #[.int .i64 2,.int .i64 t1,.int .i64 t2,.int .i64 t3,.slice A4 n4 c4,.slice A5 n5 c5] 87)=W1 at *;obtain ⟨b0,b1,b2,b3,b4,b5⟩:=box6 hbx;have HBB:=Xa.mk HB;clear HB hbx;go_wp2;go_ret
 exact ⟨rfl,HBB.out⟩
theorem deed_loadDeed (W:World) (t1 t2 t3:Int) (A4:Option Addr) (n4 c4:Nat) (A5:Option Addr) (n5 c5:Nat) :
  Calls Tryz.prog 85 #[.agg #[.int .i64 3,.int .i64 t1,.int .i64 t2,.int .i64 t3,.slice A4 n4 c4,.slice A5 n5 c5]] W fun e W'=>e=.returned (.iface 143 (.agg #[.int .i64 t1,.int .i64 t2]))∧Below W.heap.size W W':=by
 go_enter Tryz.func85,Tryz.ntmps85;go_upto_region 1 with (fail);have HB:=Xf (Below.refl W.heap.size W) (.cells #[.int .i64 3,.int .i64 t1,.int .i64 t2,.int .i64 t3,.slice A4 n4 c4,.slice A5 n5 c5] 87);have hbx:=Yc W (.cells #[.int .i64 3,.int .i64 t1,.int .i64 t2,.int .i64 t3,.slice A4 n4 c4,.slice A5 n5 c5] 87);generalize W.alloc (.cells #[.int .i64 3,.int .i64 t1,.int .i64 t2,.int .i64 t3,.slice A4 n4 c4,.slice A5 n5 c5] 87)=W1 at *;obtain ⟨b0,b1,b2,b3,b4,b5⟩:=box6 hbx;have HBB:=Xa.mk HB;clear HB hbx;go_wp2;go_ret
 exact ⟨rfl,HBB.out⟩
theorem deed_storeDeed (W:World) (t1 t2 t3:Int) (A4:Option Addr) (n4 c4:Nat) (A5:Option Addr) (n5 c5:Nat) :
  Calls Tryz.prog 85 #[.agg #[.int .i64 4,.int .i64 t1,.int .i64 t2,.int .i64 t3,.slice A4 n4 c4,.slice A5 n5 c5]] W fun e W'=>e=.returned (.iface 145 (.agg #[.int .i64 t1,.int .i64 t2]))∧Below W.heap.size W W':=by
 go_enter Tryz.func85,Tryz.ntmps85;go_upto_region 1 with (fail);have HB:=Xf (Below.refl W.heap.size W) (.cells #[.int .i64 4,.int .i64 t1,.int .i64 t2,.int .i64 t3,.slice A4 n4 c4,.slice A5 n5 c5] 87);have hbx:=Yc W (.cells #[.int .i64 4,.int .i64 t1,.int .i64 t2,.int .i64 t3,.slice A4 n4 c4,.slice A5 n5 c5] 87);generalize W.alloc (.cells #[.int .i64 4,.int .i64 t1,.int .i64 t2,.int .i64 t3,.slice A4 n4 c4,.slice A5 n5 c5] 87)=W1 at *;obtain ⟨b0,b1,b2,b3,b4,b5⟩:=box6 hbx;have HBB:=Xa.mk HB;clear HB hbx;go_wp2;go_ret
 exact ⟨rfl,HBB.out⟩
theorem deed_sayDeed (W:World) (t1 t2 t3:Int) (A4:Option Addr) (n4 c4:Nat) (A5:Option Addr) (n5 c5:Nat) :
  Calls Tryz.prog 85 #[.agg #[.int .i64 5,.int .i64 t1,.int .i64 t2,.int .i64 t3,.slice A4 n4 c4,.slice A5 n5 c5]] W fun e W'=>e=.returned (.iface 147 (.agg #[.int .i64 t1]))∧Below W.heap.size W W':=by
 go_enter Tryz.func85,Tryz.ntmps85;go_upto_region 1 with (fail);have HB:=Xf (Below.refl W.heap.size W) (.cells #[.int .i64 5,.int .i64 t1,.int .i64 t2,.int .i64 t3,.slice A4 n4 c4,.slice A5 n5 c5] 87);have hbx:=Yc W (.cells #[.int .i64 5,.int .i64 t1,.int .i64 t2,.int .i64 t3,.slice A4 n4 c4,.slice A5 n5 c5] 87);generalize W.alloc (.cells #[.int .i64 5,.int .i64 t1,.int .i64 t2,.int .i64 t3,.slice A4 n4 c4,.slice A5 n5 c5] 87)=W1 at *;obtain ⟨b0,b1,b2,b3,b4,b5⟩:=box6 hbx;have HBB:=Xa.mk HB;clear HB hbx;go_wp2;go_ret
 exact ⟨rfl,HBB.out⟩
theorem deed_ifDeed (W:World) (t1 t2 t3:Int) (A4:Option Addr) (n4 c4:Nat) (A5:Option Addr) (n5 c5:Nat) :
  Calls Tryz.prog 85 #[.agg #[.int .i64 6,.int .i64 t1,.int .i64 t2,.int .i64 t3,.slice A4 n4 c4,.slice A5 n5 c5]] W fun e W'=>e=.returned (.iface 149 (.agg #[.int .i64 6,.int .i64 t1,.int .i64 t2,.int .i64 t3,.slice A4 n4 c4,.slice A5 n5 c5]))∧Below W.heap.size W W':=by
 go_enter Tryz.func85,Tryz.ntmps85;go_upto_region 1 with (fail);have HB:=Xf (Below.refl W.heap.size W) (.cells #[.int .i64 6,.int .i64 t1,.int .i64 t2,.int .i64 t3,.slice A4 n4 c4,.slice A5 n5 c5] 87);have hbx:=Yc W (.cells #[.int .i64 6,.int .i64 t1,.int .i64 t2,.int .i64 t3,.slice A4 n4 c4,.slice A5 n5 c5] 87);generalize W.alloc (.cells #[.int .i64 6,.int .i64 t1,.int .i64 t2,.int .i64 t3,.slice A4 n4 c4,.slice A5 n5 c5] 87)=W1 at *;obtain ⟨b0,b1,b2,b3,b4,b5⟩:=box6 hbx;have HBB:=Xa.mk HB;clear HB hbx;go_wp2;go_ret
 exact ⟨rfl,HBB.out⟩
theorem deed_whileDeed (W:World) (t1 t2 t3:Int) (A4:Option Addr) (n4 c4:Nat) (A5:Option Addr) (n5 c5:Nat) :
  Calls Tryz.prog 85 #[.agg #[.int .i64 7,.int .i64 t1,.int .i64 t2,.int .i64 t3,.slice A4 n4 c4,.slice A5 n5 c5]] W fun e W'=>e=.returned (.iface 150 (.agg #[.int .i64 7,.int .i64 t1,.int .i64 t2,.int .i64 t3,.slice A4 n4 c4,.slice A5 n5 c5]))∧Below W.heap.size W W':=by
 go_enter Tryz.func85,Tryz.ntmps85;go_upto_region 1 with (fail);have HB:=Xf (Below.refl W.heap.size W) (.cells #[.int .i64 7,.int .i64 t1,.int .i64 t2,.int .i64 t3,.slice A4 n4 c4,.slice A5 n5 c5] 87);have hbx:=Yc W (.cells #[.int .i64 7,.int .i64 t1,.int .i64 t2,.int .i64 t3,.slice A4 n4 c4,.slice A5 n5 c5] 87);generalize W.alloc (.cells #[.int .i64 7,.int .i64 t1,.int .i64 t2,.int .i64 t3,.slice A4 n4 c4,.slice A5 n5 c5] 87)=W1 at *;obtain ⟨b0,b1,b2,b3,b4,b5⟩:=box6 hbx;have HBB:=Xa.mk HB;clear HB hbx;go_wp2;go_ret
 exact ⟨rfl,HBB.out⟩
theorem deed_inDeed (W:World) (t1 t2 t3:Int) (A4:Option Addr) (n4 c4:Nat) (A5:Option Addr) (n5 c5:Nat) :
  Calls Tryz.prog 85 #[.agg #[.int .i64 8,.int .i64 t1,.int .i64 t2,.int .i64 t3,.slice A4 n4 c4,.slice A5 n5 c5]] W fun e W'=>e=.returned (.iface 151 (.agg #[.int .i64 8,.int .i64 t1,.int .i64 t2,.int .i64 t3,.slice A4 n4 c4,.slice A5 n5 c5]))∧Below W.heap.size W W':=by
 go_enter Tryz.func85,Tryz.ntmps85;go_upto_region 1 with (fail);have HB:=Xf (Below.refl W.heap.size W) (.cells #[.int .i64 8,.int .i64 t1,.int .i64 t2,.int .i64 t3,.slice A4 n4 c4,.slice A5 n5 c5] 87);have hbx:=Yc W (.cells #[.int .i64 8,.int .i64 t1,.int .i64 t2,.int .i64 t3,.slice A4 n4 c4,.slice A5 n5 c5] 87);generalize W.alloc (.cells #[.int .i64 8,.int .i64 t1,.int .i64 t2,.int .i64 t3,.slice A4 n4 c4,.slice A5 n5 c5] 87)=W1 at *;obtain ⟨b0,b1,b2,b3,b4,b5⟩:=box6 hbx;have HBB:=Xa.mk HB;clear HB hbx;go_wp2;go_ret
 exact ⟨rfl,HBB.out⟩
theorem deed_waitDeed (W:World) (t1 t2 t3:Int) (A4:Option Addr) (n4 c4:Nat) (A5:Option Addr) (n5 c5:Nat) :
  Calls Tryz.prog 85 #[.agg #[.int .i64 9,.int .i64 t1,.int .i64 t2,.int .i64 t3,.slice A4 n4 c4,.slice A5 n5 c5]] W fun e W'=>e=.returned (.iface 153 (.agg #[.int .i64 t1]))∧Below W.heap.size W W':=by
 go_enter Tryz.func85,Tryz.ntmps85;go_upto_region 1 with (fail);have HB:=Xf (Below.refl W.heap.size W) (.cells #[.int .i64 9,.int .i64 t1,.int .i64 t2,.int .i64 t3,.slice A4 n4 c4,.slice A5 n5 c5] 87);have hbx:=Yc W (.cells #[.int .i64 9,.int .i64 t1,.int .i64 t2,.int .i64 t3,.slice A4 n4 c4,.slice A5 n5 c5] 87);generalize W.alloc (.cells #[.int .i64 9,.int .i64 t1,.int .i64 t2,.int .i64 t3,.slice A4 n4 c4,.slice A5 n5 c5] 87)=W1 at *;obtain ⟨b0,b1,b2,b3,b4,b5⟩:=box6 hbx;have HBB:=Xa.mk HB;clear HB hbx;go_wp2;go_ret
 exact ⟨rfl,HBB.out⟩
theorem deed_signalDeed (W:World) (t1 t2 t3:Int) (A4:Option Addr) (n4 c4:Nat) (A5:Option Addr) (n5 c5:Nat) :
  Calls Tryz.prog 85 #[.agg #[.int .i64 10,.int .i64 t1,.int .i64 t2,.int .i64 t3,.slice A4 n4 c4,.slice A5 n5 c5]] W fun e W'=>e=.returned (.iface 154 (.agg #[.int .i64 t1]))∧Below W.heap.size W W':=by
 go_enter Tryz.func85,Tryz.ntmps85;go_upto_region 1 with (fail);have HB:=Xf (Below.refl W.heap.size W) (.cells #[.int .i64 10,.int .i64 t1,.int .i64 t2,.int .i64 t3,.slice A4 n4 c4,.slice A5 n5 c5] 87);have hbx:=Yc W (.cells #[.int .i64 10,.int .i64 t1,.int .i64 t2,.int .i64 t3,.slice A4 n4 c4,.slice A5 n5 c5] 87);generalize W.alloc (.cells #[.int .i64 10,.int .i64 t1,.int .i64 t2,.int .i64 t3,.slice A4 n4 c4,.slice A5 n5 c5] 87)=W1 at *;obtain ⟨b0,b1,b2,b3,b4,b5⟩:=box6 hbx;have HBB:=Xa.mk HB;clear HB hbx;go_wp2;go_ret
 exact ⟨rfl,HBB.out⟩
theorem deed_leaveDeed (W:World) (t1 t2 t3:Int) (A4:Option Addr) (n4 c4:Nat) (A5:Option Addr) (n5 c5:Nat) :
  Calls Tryz.prog 85 #[.agg #[.int .i64 12,.int .i64 t1,.int .i64 t2,.int .i64 t3,.slice A4 n4 c4,.slice A5 n5 c5]] W fun e W'=>e=.returned (.iface 156 (.agg #[.int .i64 t1]))∧Below W.heap.size W W':=by
 go_enter Tryz.func85,Tryz.ntmps85;go_upto_region 1 with (fail);have HB:=Xf (Below.refl W.heap.size W) (.cells #[.int .i64 12,.int .i64 t1,.int .i64 t2,.int .i64 t3,.slice A4 n4 c4,.slice A5 n5 c5] 87);have hbx:=Yc W (.cells #[.int .i64 12,.int .i64 t1,.int .i64 t2,.int .i64 t3,.slice A4 n4 c4,.slice A5 n5 c5] 87);generalize W.alloc (.cells #[.int .i64 12,.int .i64 t1,.int .i64 t2,.int .i64 t3,.slice A4 n4 c4,.slice A5 n5 c5] 87)=W1 at *;obtain ⟨b0,b1,b2,b3,b4,b5⟩:=box6 hbx;have HBB:=Xa.mk HB;clear HB hbx;go_wp2;go_ret
 exact ⟨rfl,HBB.out⟩
theorem deed_yieldDeed (W:World) (k:Int) (t1 t2 t3:Int) (A4:Option Addr) (n4 c4:Nat) (A5:Option Addr) (n5 c5:Nat) (h1:k≠1) (h2:k≠2) (h3:k≠3) (h4:k≠4) (h5:k≠5) (h6:k≠6) (h7:k≠7) (h8:k≠8) (h9:k≠9) (h10:k≠10) (h12:k≠12) :
  Calls Tryz.prog 85 #[.agg #[.int .i64 k,.int .i64 t1,.int .i64 t2,.int .i64 t3,.slice A4 n4 c4,.slice A5 n5 c5]] W fun e W'=>e=.returned (.iface 158 (.agg #[]))∧Below W.heap.size W W':=by
 have k1:(k == 1)=false:=by simpa using h1
 have l1:decide (k=1)=false:=df_ h1
 have k2:(k == 2)=false:=by simpa using h2
 have l2:decide (k=2)=false:=df_ h2
 have k3:(k == 3)=false:=by simpa using h3
 have l3:decide (k=3)=false:=df_ h3
 have k4:(k == 4)=false:=by simpa using h4
 have l4:decide (k=4)=false:=df_ h4
 have k5:(k == 5)=false:=by simpa using h5
 have l5:decide (k=5)=false:=df_ h5
 have k6:(k == 6)=false:=by simpa using h6
 have l6:decide (k=6)=false:=df_ h6
 have k7:(k == 7)=false:=by simpa using h7
 have l7:decide (k=7)=false:=df_ h7
 have k8:(k == 8)=false:=by simpa using h8
 have l8:decide (k=8)=false:=df_ h8
 have k9:(k == 9)=false:=by simpa using h9
 have l9:decide (k=9)=false:=df_ h9
 have k10:(k == 10)=false:=by simpa using h10
 have l10:decide (k=10)=false:=df_ h10
 have k12:(k == 12)=false:=by simpa using h12
 have l12:decide (k=12)=false:=df_ h12;go_enter Tryz.func85,Tryz.ntmps85;go_upto_region 1 with (fail);have HB:=Xf (Below.refl W.heap.size W) (.cells #[.int .i64 k,.int .i64 t1,.int .i64 t2,.int .i64 t3,.slice A4 n4 c4,.slice A5 n5 c5] 87);have hbx:=Yc W (.cells #[.int .i64 k,.int .i64 t1,.int .i64 t2,.int .i64 t3,.slice A4 n4 c4,.slice A5 n5 c5] 87);generalize W.alloc (.cells #[.int .i64 k,.int .i64 t1,.int .i64 t2,.int .i64 t3,.slice A4 n4 c4,.slice A5 n5 c5] 87)=W1 at *;obtain ⟨b0,b1,b2,b3,b4,b5⟩:=box6 hbx;have HBB:=Xa.mk HB;clear HB hbx;go_wp2;go_ret
 exact ⟨rfl,HBB.out⟩
abbrev CSV (t:T) (A4:Option Addr) (c4:Nat) (A5:Option Addr) (c5:Nat):Array Value:=#[.int .i64 t.f0,.int .i64 t.f1,.int .i64 t.f2,.int .i64 t.f3,.slice A4 t.f4.length c4,.slice A5 t.f5.length c5]
theorem up_up {α:Type} (f:Nat→α) (i:Nat) (x y:α):up (up f i x) i y=up f i y:=by funext k;unfold up;split <;> rfl
theorem inNext_eq (s:WS) (i:Nat) (t:T):inNext s i t = { (s.Yq i { s.proc i with todo:=t.f4 ++ [leave t.f1] ++ (s.proc i).todo,room:=t.f1 }) with room:=up s.room t.f1.toNat ((i:Int)+1) }:=by
 unfold inNext doTodo;have e:(inRoom s i t).proc i = { s.proc i with room:=t.f1 }:=Un _ _ _;rw [e];show WS.mk _ (up (up s.proc i _) i _) _ _ _ _=WS.mk _ (up s.proc i _) _ _ _ _
 rw [up_up];rfl
structure DoOk (s:WS) (i:Nat) (t:T):Prop where
 n:s.n≤1000
 head:Head t.f0 t.f1 t.f2 t.f3 (s.proc i).room t.f4.length t.f5.length∨(t.f0=12∧0≤t.f1∧t.f1<2)
 room:t.f0=9→0≤(s.proc i).room∧(s.proc i).room<2
 queue:∀ j,j<2→(s.sign j).length≤1000∧∀ q ∈ s.sign j,0≤q∧q<s.n
 said:s.said.length≤1000000
 todo:(s.proc i).todo.length≤400000
def Disp (W2:World) (base:Nat) (ok:Nat→Prop) (g i:Nat) (cs:Array Value) (s':WS):Prop:=∃ (Ty:Nat) (v:Value) (f:Nat),Calls Tryz.prog 85 #[.agg cs] W2 (fun e W'=>e=.returned (.iface Ty v)∧Below W2.heap.size W2 W')∧
   (∀ w,(method 303 Ty v "loop.example/changeringer/impl.do").run Tryz.prog w=.ok (f,v) w)∧(∀ xs w,(callFunc f xs).run Tryz.prog w=.ok (.enter f xs) w)∧
   (∀ W3,Below W2.heap.size W2 W3→Calls Tryz.prog f #[v,.pointer (some ⟨g,0,none⟩),.int .i64 (i:Int)] W3 fun e W'=>e=.returned (.tuple #[])∧Left W3 base ok s' g W')
theorem disp_numDeed (W2:World) (base:Nat) (ok:Nat→Prop) (b:BK) (s:WS) (g i:Nat) (t:T) (A4:Option Addr) (c4:Nat) (A5:Option Addr) (c5:Nat) (P0:Nat→Prop) (h:St W2 base ok b s g) (hi:i<s.n) (ht:StmtIn W2 3 t A4 c4 A5 c5 P0) (hp:∀ k,P0 k→free (lay b s) k) (ho:DoOk s i t) (hk:t.f0=1) :
  Disp W2 base ok g i (CSV t A4 c4 A5 c5) (Ur s i t):=by
 have hh:=ho.head;refine ⟨139,(.agg #[.int .i64 t.f1,.int .i64 t.f3]),134,?_,fun w=>kr_,fun xs w=>Tryz.call134 xs w,fun W3 hb=>?_⟩
 ·have hD:=deed_numDeed W2 t.f1 t.f2 t.f3 A4 t.f4.length c4 A5 t.f5.length c5;unfold CSV;rw [hk];exact hD
 ·refine (numDeed_do W3 base ok b s g i t.f1 t.f3 (h.below hb) hi (by unfold Head at hh;omega)).mono (fun e w' hw=>⟨hw.1,?_⟩);have hL:=hw.2;unfold Ur;simp only [];rw [if_pos hk];exact hL
theorem disp_opDeed (W2:World) (base:Nat) (ok:Nat→Prop) (b:BK) (s:WS) (g i:Nat) (t:T) (A4:Option Addr) (c4:Nat) (A5:Option Addr) (c5:Nat) (P0:Nat→Prop) (h:St W2 base ok b s g) (hi:i<s.n) (ht:StmtIn W2 3 t A4 c4 A5 c5 P0) (hp:∀ k,P0 k→free (lay b s) k) (ho:DoOk s i t) (hk:t.f0=2) :
  Disp W2 base ok g i (CSV t A4 c4 A5 c5) (Ur s i t):=by
 have hh:=ho.head;refine ⟨141,(.agg #[.int .i64 t.f1,.int .i64 t.f2,.int .i64 t.f3]),135,?_,fun w=>kr_,fun xs w=>Tryz.call135 xs w,fun W3 hb=>?_⟩
 ·have hD:=deed_opDeed W2 t.f1 t.f2 t.f3 A4 t.f4.length c4 A5 t.f5.length c5;unfold CSV;rw [hk];exact hD
 ·refine (opDeed_do W3 base ok b s g i t.f1 t.f2 t.f3 (h.below hb) hi (by unfold Head at hh;omega) (by unfold Head at hh;omega)).mono (fun e w' hw=>⟨hw.1,?_⟩);have hL:=hw.2;unfold Ur;simp only [];rw [if_neg (show ¬ t.f0=1 by omega),if_pos hk];exact hL
theorem disp_loadDeed (W2:World) (base:Nat) (ok:Nat→Prop) (b:BK) (s:WS) (g i:Nat) (t:T) (A4:Option Addr) (c4:Nat) (A5:Option Addr) (c5:Nat) (P0:Nat→Prop) (h:St W2 base ok b s g) (hi:i<s.n) (ht:StmtIn W2 3 t A4 c4 A5 c5 P0) (hp:∀ k,P0 k→free (lay b s) k) (ho:DoOk s i t) (hk:t.f0=3) :
  Disp W2 base ok g i (CSV t A4 c4 A5 c5) (Ur s i t):=by
 have hh:=ho.head;refine ⟨143,(.agg #[.int .i64 t.f1,.int .i64 t.f2]),144,?_,fun w=>kr_,fun xs w=>Tryz.call144 xs w,fun W3 hb=>?_⟩
 ·have hD:=deed_loadDeed W2 t.f1 t.f2 t.f3 A4 t.f4.length c4 A5 t.f5.length c5;unfold CSV;rw [hk];exact hD
 ·refine (loadDeed_do W3 base ok b s g i t.f1 t.f2 (h.below hb) hi (by unfold Head at hh;omega) (by unfold Head at hh;omega)).mono (fun e w' hw=>⟨hw.1,?_⟩);have hL:=hw.2;unfold Ur;simp only [];rw [if_neg (show ¬ t.f0=1 by omega),if_neg (show ¬ t.f0=2 by omega),if_pos hk];exact hL
theorem disp_storeDeed (W2:World) (base:Nat) (ok:Nat→Prop) (b:BK) (s:WS) (g i:Nat) (t:T) (A4:Option Addr) (c4:Nat) (A5:Option Addr) (c5:Nat) (P0:Nat→Prop) (h:St W2 base ok b s g) (hi:i<s.n) (ht:StmtIn W2 3 t A4 c4 A5 c5 P0) (hp:∀ k,P0 k→free (lay b s) k) (ho:DoOk s i t) (hk:t.f0=4) :
  Disp W2 base ok g i (CSV t A4 c4 A5 c5) (Ur s i t):=by
 have hh:=ho.head;refine ⟨145,(.agg #[.int .i64 t.f1,.int .i64 t.f2]),145,?_,fun w=>kr_,fun xs w=>Tryz.call145 xs w,fun W3 hb=>?_⟩
 ·have hD:=deed_storeDeed W2 t.f1 t.f2 t.f3 A4 t.f4.length c4 A5 t.f5.length c5;unfold CSV;rw [hk];exact hD
 ·refine (storeDeed_do W3 base ok b s g i t.f1 t.f2 (h.below hb) hi (by unfold Head at hh;omega) (by unfold Head at hh;omega)).mono (fun e w' hw=>⟨hw.1,?_⟩);have hL:=hw.2;unfold Ur;simp only [];rw [if_neg (show ¬ t.f0=1 by omega),if_neg (show ¬ t.f0=2 by omega),if_neg (show ¬ t.f0=3 by omega),if_pos hk];exact hL
theorem disp_sayDeed (W2:World) (base:Nat) (ok:Nat→Prop) (b:BK) (s:WS) (g i:Nat) (t:T) (A4:Option Addr) (c4:Nat) (A5:Option Addr) (c5:Nat) (P0:Nat→Prop) (h:St W2 base ok b s g) (hi:i<s.n) (ht:StmtIn W2 3 t A4 c4 A5 c5 P0) (hp:∀ k,P0 k→free (lay b s) k) (ho:DoOk s i t) (hk:t.f0=5) :
  Disp W2 base ok g i (CSV t A4 c4 A5 c5) (Ur s i t):=by
 have hh:=ho.head;refine ⟨147,(.agg #[.int .i64 t.f1]),146,?_,fun w=>kr_,fun xs w=>Tryz.call146 xs w,fun W3 hb=>?_⟩
 ·have hD:=deed_sayDeed W2 t.f1 t.f2 t.f3 A4 t.f4.length c4 A5 t.f5.length c5;unfold CSV;rw [hk];exact hD
 ·refine (sayDeed_do W3 base ok b s g i t.f1 (h.below hb) hi (by unfold Head at hh;omega) ho.said).mono (fun e w' hw=>⟨hw.1,?_⟩);have hL:=hw.2;unfold Ur;simp only [];rw [if_neg (show ¬ t.f0=1 by omega),if_neg (show ¬ t.f0=2 by omega),if_neg (show ¬ t.f0=3 by omega),if_neg (show ¬ t.f0=4 by omega),if_pos hk];exact hL
theorem disp_ifDeed (W2:World) (base:Nat) (ok:Nat→Prop) (b:BK) (s:WS) (g i:Nat) (t:T) (A4:Option Addr) (c4:Nat) (A5:Option Addr) (c5:Nat) (P0:Nat→Prop) (h:St W2 base ok b s g) (hi:i<s.n) (ht:StmtIn W2 3 t A4 c4 A5 c5 P0) (hp:∀ k,P0 k→free (lay b s) k) (ho:DoOk s i t) (hk:t.f0=6) :
  Disp W2 base ok g i (CSV t A4 c4 A5 c5) (Ur s i t):=by
 have hh:=ho.head;refine ⟨149,(.agg (CSV t A4 c4 A5 c5)),147,?_,fun w=>kr_,fun xs w=>Tryz.call147 xs w,fun W3 hb=>?_⟩
 ·have hD:=deed_ifDeed W2 t.f1 t.f2 t.f3 A4 t.f4.length c4 A5 t.f5.length c5;unfold CSV;rw [hk];exact hD
 ·refine (ifDeed_do W3 base ok b s g i t A4 c4 A5 c5 3 P0 (h.below hb) hi (ht.below hb) ho.todo (by unfold Head at hh;omega)).mono (fun e w' hw=>⟨hw.1,?_⟩);have hL:=hw.2;unfold Ur;simp only [];rw [if_neg (show ¬ t.f0=1 by omega),if_neg (show ¬ t.f0=2 by omega),if_neg (show ¬ t.f0=3 by omega),if_neg (show ¬ t.f0=4 by omega),if_neg (show ¬ t.f0=5 by omega),if_pos hk];exact hL
theorem disp_whileDeed (W2:World) (base:Nat) (ok:Nat→Prop) (b:BK) (s:WS) (g i:Nat) (t:T) (A4:Option Addr) (c4:Nat) (A5:Option Addr) (c5:Nat) (P0:Nat→Prop) (h:St W2 base ok b s g) (hi:i<s.n) (ht:StmtIn W2 3 t A4 c4 A5 c5 P0) (hp:∀ k,P0 k→free (lay b s) k) (ho:DoOk s i t) (hk:t.f0=7) :
  Disp W2 base ok g i (CSV t A4 c4 A5 c5) (Ur s i t):=by
 have hh:=ho.head;refine ⟨150,(.agg (CSV t A4 c4 A5 c5)),150,?_,fun w=>kr_,fun xs w=>Tryz.call150 xs w,fun W3 hb=>?_⟩
 ·have hD:=deed_whileDeed W2 t.f1 t.f2 t.f3 A4 t.f4.length c4 A5 t.f5.length c5;unfold CSV;rw [hk];exact hD
 ·refine (whileDeed_do W3 base ok b s g i t A4 c4 A5 c5 3 P0 (h.below hb) hi (ht.below hb) ho.todo (by unfold Head at hh;omega)).mono (fun e w' hw=>⟨hw.1,?_⟩);have hL:=hw.2;unfold Ur;simp only [];rw [if_neg (show ¬ t.f0=1 by omega),if_neg (show ¬ t.f0=2 by omega),if_neg (show ¬ t.f0=3 by omega),if_neg (show ¬ t.f0=4 by omega),if_neg (show ¬ t.f0=5 by omega),if_neg (show ¬ t.f0=6 by omega),if_pos hk];exact hL
theorem disp_inDeed (W2:World) (base:Nat) (ok:Nat→Prop) (b:BK) (s:WS) (g i:Nat) (t:T) (A4:Option Addr) (c4:Nat) (A5:Option Addr) (c5:Nat) (P0:Nat→Prop) (h:St W2 base ok b s g) (hi:i<s.n) (ht:StmtIn W2 3 t A4 c4 A5 c5 P0) (hp:∀ k,P0 k→free (lay b s) k) (ho:DoOk s i t) (hk:t.f0=8) :
  Disp W2 base ok g i (CSV t A4 c4 A5 c5) (Ur s i t):=by
 have hh:=ho.head;refine ⟨151,(.agg (CSV t A4 c4 A5 c5)),152,?_,fun w=>kr_,fun xs w=>Tryz.call152 xs w,fun W3 hb=>?_⟩
 ·have hD:=deed_inDeed W2 t.f1 t.f2 t.f3 A4 t.f4.length c4 A5 t.f5.length c5;unfold CSV;rw [hk];exact hD
 ·refine (inDeed_do W3 base ok b s g i t A4 c4 A5 c5 3 P0 (h.below hb) hi (ht.below hb) ho.todo (by unfold Head at hh;omega) ho.n hp).mono (fun e w' hw=>⟨hw.1,?_⟩);have hL:=hw.2;unfold Ur;simp only [];rw [if_neg (show ¬ t.f0=1 by omega),if_neg (show ¬ t.f0=2 by omega),if_neg (show ¬ t.f0=3 by omega),if_neg (show ¬ t.f0=4 by omega),if_neg (show ¬ t.f0=5 by omega),if_neg (show ¬ t.f0=6 by omega),if_neg (show ¬ t.f0=7 by omega),if_pos hk];rw [inNext_eq] at hL;exact hL
theorem disp_waitDeed (W2:World) (base:Nat) (ok:Nat→Prop) (b:BK) (s:WS) (g i:Nat) (t:T) (A4:Option Addr) (c4:Nat) (A5:Option Addr) (c5:Nat) (P0:Nat→Prop) (h:St W2 base ok b s g) (hi:i<s.n) (ht:StmtIn W2 3 t A4 c4 A5 c5 P0) (hp:∀ k,P0 k→free (lay b s) k) (ho:DoOk s i t) (hk:t.f0=9) :
  Disp W2 base ok g i (CSV t A4 c4 A5 c5) (Ur s i t):=by
 have hh:=ho.head;refine ⟨153,(.agg #[.int .i64 t.f1]),153,?_,fun w=>kr_,fun xs w=>Tryz.call153 xs w,fun W3 hb=>?_⟩
 ·have hD:=deed_waitDeed W2 t.f1 t.f2 t.f3 A4 t.f4.length c4 A5 t.f5.length c5;unfold CSV;rw [hk];exact hD
 ·refine (waitDeed_do W3 base ok b s g i t.f1 (h.below hb) hi (by unfold Head at hh;omega) (ho.room hk) (ho.queue t.f1.toNat (by unfold Head at hh;omega)).1).mono (fun e w' hw=>⟨hw.1,?_⟩);have hL:=hw.2;unfold Ur;simp only [];rw [if_neg (show ¬ t.f0=1 by omega),if_neg (show ¬ t.f0=2 by omega),if_neg (show ¬ t.f0=3 by omega),if_neg (show ¬ t.f0=4 by omega),if_neg (show ¬ t.f0=5 by omega),if_neg (show ¬ t.f0=6 by omega),if_neg (show ¬ t.f0=7 by omega),if_neg (show ¬ t.f0=8 by omega),if_pos hk];exact hL
theorem disp_signalDeed (W2:World) (base:Nat) (ok:Nat→Prop) (b:BK) (s:WS) (g i:Nat) (t:T) (A4:Option Addr) (c4:Nat) (A5:Option Addr) (c5:Nat) (P0:Nat→Prop) (h:St W2 base ok b s g) (hi:i<s.n) (ht:StmtIn W2 3 t A4 c4 A5 c5 P0) (hp:∀ k,P0 k→free (lay b s) k) (ho:DoOk s i t) (hk:t.f0=10) :
  Disp W2 base ok g i (CSV t A4 c4 A5 c5) (Ur s i t):=by
 have hh:=ho.head;refine ⟨154,(.agg #[.int .i64 t.f1]),154,?_,fun w=>kr_,fun xs w=>Tryz.call154 xs w,fun W3 hb=>?_⟩
 ·have hD:=deed_signalDeed W2 t.f1 t.f2 t.f3 A4 t.f4.length c4 A5 t.f5.length c5;unfold CSV;rw [hk];exact hD
 ·refine (signalDeed_do W3 base ok b s g i t.f1 (h.below hb) hi (by unfold Head at hh;omega) (ho.queue t.f1.toNat (by unfold Head at hh;omega)).2 (ho.queue t.f1.toNat (by unfold Head at hh;omega)).1).mono (fun e w' hw=>⟨hw.1,?_⟩);have hL:=hw.2;unfold Ur;simp only [];rw [if_neg (show ¬ t.f0=1 by omega),if_neg (show ¬ t.f0=2 by omega),if_neg (show ¬ t.f0=3 by omega),if_neg (show ¬ t.f0=4 by omega),if_neg (show ¬ t.f0=5 by omega),if_neg (show ¬ t.f0=6 by omega),if_neg (show ¬ t.f0=7 by omega),if_neg (show ¬ t.f0=8 by omega),if_neg (show ¬ t.f0=9 by omega),if_pos hk];unfold sigNext at hL
  revert hL
  cases s.sign t.f1.toNat <;> intro hL <;> exact hL
theorem disp_leaveDeed (W2:World) (base:Nat) (ok:Nat→Prop) (b:BK) (s:WS) (g i:Nat) (t:T) (A4:Option Addr) (c4:Nat) (A5:Option Addr) (c5:Nat) (P0:Nat→Prop) (h:St W2 base ok b s g) (hi:i<s.n) (ht:StmtIn W2 3 t A4 c4 A5 c5 P0) (hp:∀ k,P0 k→free (lay b s) k) (ho:DoOk s i t) (hk:t.f0=12) :
  Disp W2 base ok g i (CSV t A4 c4 A5 c5) (Ur s i t):=by
 have hh:=ho.head;refine ⟨156,(.agg #[.int .i64 t.f1]),155,?_,fun w=>kr_,fun xs w=>Tryz.call155 xs w,fun W3 hb=>?_⟩
 ·have hD:=deed_leaveDeed W2 t.f1 t.f2 t.f3 A4 t.f4.length c4 A5 t.f5.length c5;unfold CSV;rw [hk];exact hD
 ·refine (leaveDeed_do W3 base ok b s g i t.f1 (h.below hb) hi (by unfold Head at hh;omega)).mono (fun e w' hw=>⟨hw.1,?_⟩);have hL:=hw.2;unfold Ur;simp only [];rw [if_neg (show ¬ t.f0=1 by omega),if_neg (show ¬ t.f0=2 by omega),if_neg (show ¬ t.f0=3 by omega),if_neg (show ¬ t.f0=4 by omega),if_neg (show ¬ t.f0=5 by omega),if_neg (show ¬ t.f0=6 by omega),if_neg (show ¬ t.f0=7 by omega),if_neg (show ¬ t.f0=8 by omega),if_neg (show ¬ t.f0=9 by omega),if_neg (show ¬ t.f0=10 by omega),if_pos hk];exact hL
theorem disp_yieldDeed (W2:World) (base:Nat) (ok:Nat→Prop) (b:BK) (s:WS) (g i:Nat) (t:T) (A4:Option Addr) (c4:Nat) (A5:Option Addr) (c5:Nat) (P0:Nat→Prop) (h:St W2 base ok b s g) (hi:i<s.n) (ht:StmtIn W2 3 t A4 c4 A5 c5 P0) (hp:∀ k,P0 k→free (lay b s) k) (ho:DoOk s i t) (h1:t.f0≠1) (h2:t.f0≠2) (h3:t.f0≠3) (h4:t.f0≠4) (h5:t.f0≠5) (h6:t.f0≠6) (h7:t.f0≠7) (h8:t.f0≠8) (h9:t.f0≠9) (h10:t.f0≠10) (h12:t.f0≠12) :
  Disp W2 base ok g i (CSV t A4 c4 A5 c5) (Ur s i t):=by
 have hh:=ho.head;refine ⟨158,(.agg #[]),156,?_,fun w=>kr_,fun xs w=>Tryz.call156 xs w,fun W3 hb=>?_⟩
 ·have hD:=deed_yieldDeed W2 t.f0 t.f1 t.f2 t.f3 A4 t.f4.length c4 A5 t.f5.length c5 h1 h2 h3 h4 h5 h6 h7 h8 h9 h10 h12;unfold CSV;exact hD
 ·refine (yieldDeed_do W3 base ok b s g i (h.below hb)).mono (fun e w' hw=>⟨hw.1,?_⟩);have hL:=hw.2;unfold Ur;simp only [];rw [if_neg (show ¬ t.f0=1 by omega),if_neg (show ¬ t.f0=2 by omega),if_neg (show ¬ t.f0=3 by omega),if_neg (show ¬ t.f0=4 by omega),if_neg (show ¬ t.f0=5 by omega),if_neg (show ¬ t.f0=6 by omega),if_neg (show ¬ t.f0=7 by omega),if_neg (show ¬ t.f0=8 by omega),if_neg (show ¬ t.f0=9 by omega),if_neg (show ¬ t.f0=10 by omega),if_neg (show ¬ t.f0=12 by omega)];exact hL
theorem disp (W2:World) (base:Nat) (ok:Nat→Prop) (b:BK) (s:WS) (g i:Nat) (t:T) (A4:Option Addr) (c4:Nat) (A5:Option Addr) (c5:Nat) (P0:Nat→Prop) (h:St W2 base ok b s g) (hi:i<s.n) (ht:StmtIn W2 3 t A4 c4 A5 c5 P0) (hp:∀ k,P0 k→free (lay b s) k) (ho:DoOk s i t) :
  Disp W2 base ok g i (CSV t A4 c4 A5 c5) (Ur s i t):=by
 by_cases h1:t.f0=1
 ·exact disp_numDeed W2 base ok b s g i t A4 c4 A5 c5 P0 h hi ht hp ho h1
 by_cases h2:t.f0=2
 ·exact disp_opDeed W2 base ok b s g i t A4 c4 A5 c5 P0 h hi ht hp ho h2
 by_cases h3:t.f0=3
 ·exact disp_loadDeed W2 base ok b s g i t A4 c4 A5 c5 P0 h hi ht hp ho h3
 by_cases h4:t.f0=4
 ·exact disp_storeDeed W2 base ok b s g i t A4 c4 A5 c5 P0 h hi ht hp ho h4
 by_cases h5:t.f0=5
 ·exact disp_sayDeed W2 base ok b s g i t A4 c4 A5 c5 P0 h hi ht hp ho h5
 by_cases h6:t.f0=6
 ·exact disp_ifDeed W2 base ok b s g i t A4 c4 A5 c5 P0 h hi ht hp ho h6
 by_cases h7:t.f0=7
 ·exact disp_whileDeed W2 base ok b s g i t A4 c4 A5 c5 P0 h hi ht hp ho h7
 by_cases h8:t.f0=8
 ·exact disp_inDeed W2 base ok b s g i t A4 c4 A5 c5 P0 h hi ht hp ho h8
 by_cases h9:t.f0=9
 ·exact disp_waitDeed W2 base ok b s g i t A4 c4 A5 c5 P0 h hi ht hp ho h9
 by_cases h10:t.f0=10
 ·exact disp_signalDeed W2 base ok b s g i t A4 c4 A5 c5 P0 h hi ht hp ho h10
 by_cases h12:t.f0=12
 ·exact disp_leaveDeed W2 base ok b s g i t A4 c4 A5 c5 P0 h hi ht hp ho h12
 exact disp_yieldDeed W2 base ok b s g i t A4 c4 A5 c5 P0 h hi ht hp ho h1 h2 h3 h4 h5 h6 h7 h8 h9 h10 h12
end Go.Proofs.YtlhogkfmdnpmkaaGreat.Mean
