import Derived.Test.YtlhogkfmdnpmkaaGreatCFnExactMarksOf52
set_option linter.unusedSectionVars false
set_option linter.unusedVariables false
set_option linter.unusedSimpArgs false
set_option maxHeartbeats 4000000
set_option maxRecDepth 100000
namespace Go.Proofs.YtlhogkfmdnpmkaaGreat.Mean
open RowKit GMarks YtlhogkfmdnpmkaaGreatW.PrintWords YtlhogkfmdnpmkaaGreatW.PrintLast YtlhogkfmdnpmkaaGreatW.PrintMore
variable [Prot]
theorem code_neg (W:World) (base:Nat) (ok:Nat→Prop) (b:BK) (s:WS) (g:Nat) (h:St W base ok b s g) (hn:0<s.n) (who:Int) (hw:who<0) :
  Calls Tryz.prog 63 #[.pointer (some ⟨g,0,none⟩),.int .i64 who] W fun e W'=>e=.returned (.int .i64 3)∧Below W.heap.size W W':=by
 obtain ⟨c0,c1,c2,c3,c4⟩:=h.wb.cells;obtain ⟨P,cp,HP⟩:=h.at_.procs hn;rw [HP.v_] at c0;have d1:decide (who<0)=true:=dt_ hw;go_enter Tryz.func63,Tryz.ntmps63;go_wp2;go_ret
 exact ⟨rfl,by repeat (first|exact Below.refl _ _|apply Xf|apply Xg|apply Xh)⟩
theorem code_far (W:World) (base:Nat) (ok:Nat→Prop) (b:BK) (s:WS) (g:Nat) (h:St W base ok b s g) (hn:0<s.n) (who:Int) (hw:(s.n:Int)≤who) :
  Calls Tryz.prog 63 #[.pointer (some ⟨g,0,none⟩),.int .i64 who] W fun e W'=>e=.returned (.int .i64 3)∧Below W.heap.size W W':=by
 obtain ⟨c0,c1,c2,c3,c4⟩:=h.wb.cells;obtain ⟨P,cp,HP⟩:=h.at_.procs hn;rw [HP.v_] at c0;have d1:decide (who<0)=false:=df_ om_;have d2:decide (who ≥ (s.n:Int))=true:=dt_ hw;have d3:decide ((s.n:Int)≤who)=true:=dt_ hw
 have d4:¬ who<0:=om_
 go_enter Tryz.func63,Tryz.ntmps63;go_wp2;go_ret
 exact ⟨rfl,by repeat (first|exact Below.refl _ _|apply Xf|apply Xg|apply Xh)⟩
theorem code_waits (W:World) (base:Nat) (ok:Nat→Prop) (b:BK) (s:WS) (g:Nat) (h:St W base ok b s g) (i:Nat) (hi:i<s.n) (hm:(s.proc i).mode=1) :
  Calls Tryz.prog 63 #[.pointer (some ⟨g,0,none⟩),.int .i64 (i:Int)] W fun e W'=>e=.returned (.int .i64 2)∧Below W.heap.size W W':=by
 have HMO:=Xa.mk hm;clear hm;obtain ⟨c0,c1,c2,c3,c4⟩:=h.wb.cells;obtain ⟨P,cp,HP⟩:=h.at_.procs om_;rw [HP.v_] at c0;obtain ⟨M,cm,HM⟩:=h.at_.rooms;rw [HM.v_] at c2;obtain ⟨R,cr,HR⟩:=h.at_.regs hi;have hV:=h.at_.tree i hi;obtain ⟨A,ct,eT⟩:=Kd.V_slice hV;have p0:=HP.cell i 0 hi om_;have p1:=HP.cell i 1 hi om_;have p2:=HP.cell i 2 hi om_;have p3:=HP.cell i 3 hi om_;have p4:=HP.cell i 4 hi om_;simp only [Yn,if_true,Nat.add_zero,HR.v_,eT] at p0 p1;simp only [Yn] at p2 p3 p4;simp at p1 p2 p3 p4
 have i0:(0:Int)≤(i:Int):=om_
 have i1:(i:Int)<(s.n:Int):=om_
 have i2:decide (i<s.n)=true:=dt_ hi;have i3:decide ((i:Int)<0)=false:=df_ om_;have i4:decide ((i:Int) ≥ (s.n:Int))=false:=df_ om_;have i5:decide ((s.n:Int)≤(i:Int))=false:=df_ om_
 have i6:¬ (i:Int)<0:=om_
 have i7:decide (s.n≤i)=false:=df_ om_;go_enter Tryz.func63,Tryz.ntmps63;go_upto_region 3 with (fail);go_upto_region 4 with (fail);have HB:=Xf (Below.refl W.heap.size W) (.cells #[.slice (some ⟨R,0,none⟩) 3 cr,.slice A (s.proc i).todo.length ct,.int .i64 (s.proc i).mode,.int .i64 (s.proc i).on,.int .i64 (s.proc i).room] 85);have hbx:=Yc W (.cells #[.slice (some ⟨R,0,none⟩) 3 cr,.slice A (s.proc i).todo.length ct,.int .i64 (s.proc i).mode,.int .i64 (s.proc i).on,.int .i64 (s.proc i).room] 85);generalize W.alloc (.cells #[.slice (some ⟨R,0,none⟩) 3 cr,.slice A (s.proc i).todo.length ct,.int .i64 (s.proc i).mode,.int .i64 (s.proc i).on,.int .i64 (s.proc i).room] 85)=W1 at *;have h1:=h.below HB;clear c0 c1 c2 c3 c4 p0 p1 p2 p3 p4;have aA:=ints_at h1.at_.rooms HM.v_;obtain ⟨c0,c1,c2,c3,c4⟩:=h1.wb.cells;rw [aA.v_] at c2;have b1:W1.cell? ⟨W.heap.size,1,none⟩=some (.slice A (s.proc i).todo.length ct):=(Xd hbx 1).trans rfl;have b2:W1.cell? ⟨W.heap.size,2,none⟩=some (.int .i64 (s.proc i).mode):=(Xd hbx 2).trans rfl;have b4:W1.cell? ⟨W.heap.size,4,none⟩=some (.int .i64 (s.proc i).room):=(Xd hbx 4).trans rfl;rw [HMO.out] at b2;go_wp2;go_ret
 exact ⟨rfl,by repeat (first|exact HB|exact Below.refl _ _|apply Xf|apply Xg|apply Xh)⟩
theorem code_back0 (W:World) (base:Nat) (ok:Nat→Prop) (b:BK) (s:WS) (g:Nat) (h:St W base ok b s g) (i:Nat) (hi:i<s.n) (hm:(s.proc i).mode=2) (hr:0≤(s.proc i).room∧(s.proc i).room<2) (hz:s.room (s.proc i).room.toNat=0) :
  Calls Tryz.prog 63 #[.pointer (some ⟨g,0,none⟩),.int .i64 (i:Int)] W fun e W'=>e=.returned (.int .i64 0)∧Below W.heap.size W W':=by
 have HMO:=Xa.mk hm;clear hm;obtain ⟨c0,c1,c2,c3,c4⟩:=h.wb.cells;obtain ⟨P,cp,HP⟩:=h.at_.procs om_;rw [HP.v_] at c0;obtain ⟨M,cm,HM⟩:=h.at_.rooms;rw [HM.v_] at c2;obtain ⟨R,cr,HR⟩:=h.at_.regs hi;have hV:=h.at_.tree i hi;obtain ⟨A,ct,eT⟩:=Kd.V_slice hV;have p0:=HP.cell i 0 hi om_;have p1:=HP.cell i 1 hi om_;have p2:=HP.cell i 2 hi om_;have p3:=HP.cell i 3 hi om_;have p4:=HP.cell i 4 hi om_;simp only [Yn,if_true,Nat.add_zero,HR.v_,eT] at p0 p1;simp only [Yn] at p2 p3 p4;simp at p1 p2 p3 p4
 have i0:(0:Int)≤(i:Int):=om_
 have i1:(i:Int)<(s.n:Int):=om_
 have i2:decide (i<s.n)=true:=dt_ hi;have i3:decide ((i:Int)<0)=false:=df_ om_;have i4:decide ((i:Int) ≥ (s.n:Int))=false:=df_ om_;have i5:decide ((s.n:Int)≤(i:Int))=false:=df_ om_
 have i6:¬ (i:Int)<0:=om_
 have i7:decide (s.n≤i)=false:=df_ om_;go_enter Tryz.func63,Tryz.ntmps63;go_upto_region 3 with (fail);go_upto_region 4 with (fail);have HB:=Xf (Below.refl W.heap.size W) (.cells #[.slice (some ⟨R,0,none⟩) 3 cr,.slice A (s.proc i).todo.length ct,.int .i64 (s.proc i).mode,.int .i64 (s.proc i).on,.int .i64 (s.proc i).room] 85);have hbx:=Yc W (.cells #[.slice (some ⟨R,0,none⟩) 3 cr,.slice A (s.proc i).todo.length ct,.int .i64 (s.proc i).mode,.int .i64 (s.proc i).on,.int .i64 (s.proc i).room] 85);generalize W.alloc (.cells #[.slice (some ⟨R,0,none⟩) 3 cr,.slice A (s.proc i).todo.length ct,.int .i64 (s.proc i).mode,.int .i64 (s.proc i).on,.int .i64 (s.proc i).room] 85)=W1 at *;have h1:=h.below HB;clear c0 c1 c2 c3 c4 p0 p1 p2 p3 p4;have aA:=ints_at h1.at_.rooms HM.v_;obtain ⟨c0,c1,c2,c3,c4⟩:=h1.wb.cells;rw [aA.v_] at c2;have b1:W1.cell? ⟨W.heap.size,1,none⟩=some (.slice A (s.proc i).todo.length ct):=(Xd hbx 1).trans rfl;have b2:W1.cell? ⟨W.heap.size,2,none⟩=some (.int .i64 (s.proc i).mode):=(Xd hbx 2).trans rfl;have b4:W1.cell? ⟨W.heap.size,4,none⟩=some (.int .i64 (s.proc i).room):=(Xd hbx 4).trans rfl;rw [HMO.out] at b2;obtain ⟨r,hrr⟩:=Int.eq_ofNat_of_zero_le hr.1;have m_a:=aA.cell r om_
 have r3:(r:Int)<2:=om_
 have r5:(0:Int)≤(r:Int):=om_
 have r4:decide (r<2)=true:=dt_ om_;rw [hrr] at b4
 have e0:(s.proc i).room.toNat=r:=by rw [hrr];rfl
 rw [e0] at hz;rw [hz] at m_a;clear hrr e0 hz hr;go_upto_region 5 with (fail)
 go_quiet (fail)
 go_wp2;go_ret
 exact ⟨rfl,by repeat (first|exact HB|exact Below.refl _ _|apply Xf|apply Xg|apply Xh)⟩
theorem code_back1 (W:World) (base:Nat) (ok:Nat→Prop) (b:BK) (s:WS) (g:Nat) (h:St W base ok b s g) (i:Nat) (hi:i<s.n) (hm:(s.proc i).mode=2) (hr:0≤(s.proc i).room∧(s.proc i).room<2) (hz:s.room (s.proc i).room.toNat≠0) :
  Calls Tryz.prog 63 #[.pointer (some ⟨g,0,none⟩),.int .i64 (i:Int)] W fun e W'=>e=.returned (.int .i64 2)∧Below W.heap.size W W':=by
 have HMO:=Xa.mk hm;clear hm;obtain ⟨c0,c1,c2,c3,c4⟩:=h.wb.cells;obtain ⟨P,cp,HP⟩:=h.at_.procs om_;rw [HP.v_] at c0;obtain ⟨M,cm,HM⟩:=h.at_.rooms;rw [HM.v_] at c2;obtain ⟨R,cr,HR⟩:=h.at_.regs hi;have hV:=h.at_.tree i hi;obtain ⟨A,ct,eT⟩:=Kd.V_slice hV;have p0:=HP.cell i 0 hi om_;have p1:=HP.cell i 1 hi om_;have p2:=HP.cell i 2 hi om_;have p3:=HP.cell i 3 hi om_;have p4:=HP.cell i 4 hi om_;simp only [Yn,if_true,Nat.add_zero,HR.v_,eT] at p0 p1;simp only [Yn] at p2 p3 p4;simp at p1 p2 p3 p4
 have i0:(0:Int)≤(i:Int):=om_
 have i1:(i:Int)<(s.n:Int):=om_
 have i2:decide (i<s.n)=true:=dt_ hi;have i3:decide ((i:Int)<0)=false:=df_ om_;have i4:decide ((i:Int) ≥ (s.n:Int))=false:=df_ om_;have i5:decide ((s.n:Int)≤(i:Int))=false:=df_ om_
 have i6:¬ (i:Int)<0:=om_
 have i7:decide (s.n≤i)=false:=df_ om_;go_enter Tryz.func63,Tryz.ntmps63;go_upto_region 3 with (fail);go_upto_region 4 with (fail);have HB:=Xf (Below.refl W.heap.size W) (.cells #[.slice (some ⟨R,0,none⟩) 3 cr,.slice A (s.proc i).todo.length ct,.int .i64 (s.proc i).mode,.int .i64 (s.proc i).on,.int .i64 (s.proc i).room] 85);have hbx:=Yc W (.cells #[.slice (some ⟨R,0,none⟩) 3 cr,.slice A (s.proc i).todo.length ct,.int .i64 (s.proc i).mode,.int .i64 (s.proc i).on,.int .i64 (s.proc i).room] 85);generalize W.alloc (.cells #[.slice (some ⟨R,0,none⟩) 3 cr,.slice A (s.proc i).todo.length ct,.int .i64 (s.proc i).mode,.int .i64 (s.proc i).on,.int .i64 (s.proc i).room] 85)=W1 at *;have h1:=h.below HB;clear c0 c1 c2 c3 c4 p0 p1 p2 p3 p4;have aA:=ints_at h1.at_.rooms HM.v_;obtain ⟨c0,c1,c2,c3,c4⟩:=h1.wb.cells;rw [aA.v_] at c2;have b1:W1.cell? ⟨W.heap.size,1,none⟩=some (.slice A (s.proc i).todo.length ct):=(Xd hbx 1).trans rfl;have b2:W1.cell? ⟨W.heap.size,2,none⟩=some (.int .i64 (s.proc i).mode):=(Xd hbx 2).trans rfl;have b4:W1.cell? ⟨W.heap.size,4,none⟩=some (.int .i64 (s.proc i).room):=(Xd hbx 4).trans rfl;rw [HMO.out] at b2;obtain ⟨r,hrr⟩:=Int.eq_ofNat_of_zero_le hr.1;have m_a:=aA.cell r om_
 have r3:(r:Int)<2:=om_
 have r5:(0:Int)≤(r:Int):=om_
 have r4:decide (r<2)=true:=dt_ om_;rw [hrr] at b4
 have e0:(s.proc i).room.toNat=r:=by rw [hrr];rfl
 rw [e0] at hz
 have z1:(s.room r == 0)=false:=by simpa using hz
 have z2:(s.room r != 0)=true:=by simpa using hz
 clear hrr e0 hr;go_upto_region 5 with (fail)
 go_quiet (fail)
 go_wp2;go_ret
 exact ⟨rfl,by repeat (first|exact HB|exact Below.refl _ _|apply Xf|apply Xg|apply Xh)⟩
theorem code_done (W:World) (base:Nat) (ok:Nat→Prop) (b:BK) (s:WS) (g:Nat) (h:St W base ok b s g) (i:Nat) (hi:i<s.n) (hm:(s.proc i).mode=0) (ht:(s.proc i).todo=[]) :
  Calls Tryz.prog 63 #[.pointer (some ⟨g,0,none⟩),.int .i64 (i:Int)] W fun e W'=>e=.returned (.int .i64 1)∧Below W.heap.size W W':=by
 have HT:=Xa.mk ht;clear ht;have HMO:=Xa.mk hm;clear hm;obtain ⟨c0,c1,c2,c3,c4⟩:=h.wb.cells;obtain ⟨P,cp,HP⟩:=h.at_.procs om_;rw [HP.v_] at c0;obtain ⟨M,cm,HM⟩:=h.at_.rooms;rw [HM.v_] at c2;obtain ⟨R,cr,HR⟩:=h.at_.regs hi;have hV:=h.at_.tree i hi;obtain ⟨A,ct,eT⟩:=Kd.V_slice hV;have p0:=HP.cell i 0 hi om_;have p1:=HP.cell i 1 hi om_;have p2:=HP.cell i 2 hi om_;have p3:=HP.cell i 3 hi om_;have p4:=HP.cell i 4 hi om_;simp only [Yn,if_true,Nat.add_zero,HR.v_,eT] at p0 p1;simp only [Yn] at p2 p3 p4;simp at p1 p2 p3 p4
 have i0:(0:Int)≤(i:Int):=om_
 have i1:(i:Int)<(s.n:Int):=om_
 have i2:decide (i<s.n)=true:=dt_ hi;have i3:decide ((i:Int)<0)=false:=df_ om_;have i4:decide ((i:Int) ≥ (s.n:Int))=false:=df_ om_;have i5:decide ((s.n:Int)≤(i:Int))=false:=df_ om_
 have i6:¬ (i:Int)<0:=om_
 have i7:decide (s.n≤i)=false:=df_ om_;go_enter Tryz.func63,Tryz.ntmps63;go_upto_region 3 with (fail);go_upto_region 4 with (fail);have HB:=Xf (Below.refl W.heap.size W) (.cells #[.slice (some ⟨R,0,none⟩) 3 cr,.slice A (s.proc i).todo.length ct,.int .i64 (s.proc i).mode,.int .i64 (s.proc i).on,.int .i64 (s.proc i).room] 85);have hbx:=Yc W (.cells #[.slice (some ⟨R,0,none⟩) 3 cr,.slice A (s.proc i).todo.length ct,.int .i64 (s.proc i).mode,.int .i64 (s.proc i).on,.int .i64 (s.proc i).room] 85);generalize W.alloc (.cells #[.slice (some ⟨R,0,none⟩) 3 cr,.slice A (s.proc i).todo.length ct,.int .i64 (s.proc i).mode,.int .i64 (s.proc i).on,.int .i64 (s.proc i).room] 85)=W1 at *;have h1:=h.below HB;clear c0 c1 c2 c3 c4 p0 p1 p2 p3 p4;have aA:=ints_at h1.at_.rooms HM.v_;obtain ⟨c0,c1,c2,c3,c4⟩:=h1.wb.cells;rw [aA.v_] at c2;have b1:W1.cell? ⟨W.heap.size,1,none⟩=some (.slice A (s.proc i).todo.length ct):=(Xd hbx 1).trans rfl;have b2:W1.cell? ⟨W.heap.size,2,none⟩=some (.int .i64 (s.proc i).mode):=(Xd hbx 2).trans rfl;have b4:W1.cell? ⟨W.heap.size,4,none⟩=some (.int .i64 (s.proc i).room):=(Xd hbx 4).trans rfl;rw [HMO.out] at b2;rw [HT.out,List.length_nil] at b1;go_upto_region 5 with (fail)
 go_quiet (fail)
 go_wp2;go_ret
 exact ⟨rfl,by repeat (first|exact HB|exact Below.refl _ _|apply Xf|apply Xg|apply Xh)⟩
theorem code_plain (W:World) (base:Nat) (ok:Nat→Prop) (b:BK) (s:WS) (g:Nat) (h:St W base ok b s g) (i:Nat) (hi:i<s.n) (hm:(s.proc i).mode=0) (t:T) (l:List T) (ht:(s.proc i).todo=t :: l) (h8:t.f0≠8) :
  Calls Tryz.prog 63 #[.pointer (some ⟨g,0,none⟩),.int .i64 (i:Int)] W fun e W'=>e=.returned (.int .i64 0)∧Below W.heap.size W W':=by
 have HT:=Xa.mk ht;clear ht;have HMO:=Xa.mk hm;clear hm;obtain ⟨c0,c1,c2,c3,c4⟩:=h.wb.cells;obtain ⟨P,cp,HP⟩:=h.at_.procs om_;rw [HP.v_] at c0;obtain ⟨M,cm,HM⟩:=h.at_.rooms;rw [HM.v_] at c2;obtain ⟨R,cr,HR⟩:=h.at_.regs hi;have hV:=h.at_.tree i hi;obtain ⟨A,ct,eT⟩:=Kd.V_slice hV;have hV':=hV;rw [HT.out,eT,HT.out,List.length_cons] at hV';obtain ⟨ad,A4,aB,A5,aC,eA,a0,a1,_,_,_,_,_,_⟩:=V_first hV'
 have ad0:ad.add 0=ad:=by simp [Addr.add]
 rw [ad0] at a0 a1;subst eA;have p0:=HP.cell i 0 hi om_;have p1:=HP.cell i 1 hi om_;have p2:=HP.cell i 2 hi om_;have p3:=HP.cell i 3 hi om_;have p4:=HP.cell i 4 hi om_;simp only [Yn,if_true,Nat.add_zero,HR.v_,eT] at p0 p1;simp only [Yn] at p2 p3 p4;simp at p1 p2 p3 p4
 have i0:(0:Int)≤(i:Int):=om_
 have i1:(i:Int)<(s.n:Int):=om_
 have i2:decide (i<s.n)=true:=dt_ hi;have i3:decide ((i:Int)<0)=false:=df_ om_;have i4:decide ((i:Int) ≥ (s.n:Int))=false:=df_ om_;have i5:decide ((s.n:Int)≤(i:Int))=false:=df_ om_
 have i6:¬ (i:Int)<0:=om_
 have i7:decide (s.n≤i)=false:=df_ om_;go_enter Tryz.func63,Tryz.ntmps63;go_upto_region 3 with (fail);go_upto_region 4 with (fail);have HB:=Xf (Below.refl W.heap.size W) (.cells #[.slice (some ⟨R,0,none⟩) 3 cr,.slice (some ad) (s.proc i).todo.length ct,.int .i64 (s.proc i).mode,.int .i64 (s.proc i).on,.int .i64 (s.proc i).room] 85);have hbx:=Yc W (.cells #[.slice (some ⟨R,0,none⟩) 3 cr,.slice (some ad) (s.proc i).todo.length ct,.int .i64 (s.proc i).mode,.int .i64 (s.proc i).on,.int .i64 (s.proc i).room] 85);generalize W.alloc (.cells #[.slice (some ⟨R,0,none⟩) 3 cr,.slice (some ad) (s.proc i).todo.length ct,.int .i64 (s.proc i).mode,.int .i64 (s.proc i).on,.int .i64 (s.proc i).room] 85)=W1 at *;have h1:=h.below HB;clear c0 c1 c2 c3 c4 p0 p1 p2 p3 p4;have aA:=ints_at h1.at_.rooms HM.v_;obtain ⟨c0,c1,c2,c3,c4⟩:=h1.wb.cells;rw [aA.v_] at c2;have b1:W1.cell? ⟨W.heap.size,1,none⟩=some (.slice (some ad) (s.proc i).todo.length ct):=(Xd hbx 1).trans rfl;have b2:W1.cell? ⟨W.heap.size,2,none⟩=some (.int .i64 (s.proc i).mode):=(Xd hbx 2).trans rfl;have b4:W1.cell? ⟨W.heap.size,4,none⟩=some (.int .i64 (s.proc i).room):=(Xd hbx 4).trans rfl;rw [HMO.out] at b2;have a0':=Xb HB a0;have a1':=Xb HB a1;clear a0 a1;rw [HT.out,List.length_cons] at b1
 have n1:(0:Int)<((l.length+1:Nat):Int):=om_
 have n2:(0:Int)<((l.length:Int)+1):=om_
 have n3:(((l.length:Int)+1) == 0)=false:=by simp;omega
 have n4:decide (((l.length:Int)+1)=0)=false:=df_ om_
 have k8:(t.f0 == 8)=false:=by simpa using h8
 have k9:decide (t.f0=8)=false:=df_ h8;go_upto_region 5 with (fail)
 go_quiet (fail)
 go_upto_region 11 with (fail)
 go_quiet (fail)
 go_wp2;go_ret
 exact ⟨rfl,by repeat (first|exact HB|exact Below.refl _ _|apply Xf|apply Xg|apply Xh)⟩
theorem code_in0 (W:World) (base:Nat) (ok:Nat→Prop) (b:BK) (s:WS) (g:Nat) (h:St W base ok b s g) (i:Nat) (hi:i<s.n) (hm:(s.proc i).mode=0) (t:T) (l:List T) (ht:(s.proc i).todo=t :: l) (h8:t.f0=8) (hr:0≤t.f1∧t.f1<2) (hz:s.room t.f1.toNat=0) :
  Calls Tryz.prog 63 #[.pointer (some ⟨g,0,none⟩),.int .i64 (i:Int)] W fun e W'=>e=.returned (.int .i64 0)∧Below W.heap.size W W':=by
 have HT:=Xa.mk ht;clear ht;have HMO:=Xa.mk hm;clear hm;obtain ⟨c0,c1,c2,c3,c4⟩:=h.wb.cells;obtain ⟨P,cp,HP⟩:=h.at_.procs om_;rw [HP.v_] at c0;obtain ⟨M,cm,HM⟩:=h.at_.rooms;rw [HM.v_] at c2;obtain ⟨R,cr,HR⟩:=h.at_.regs hi;have hV:=h.at_.tree i hi;obtain ⟨A,ct,eT⟩:=Kd.V_slice hV;have hV':=hV;rw [HT.out,eT,HT.out,List.length_cons] at hV';obtain ⟨ad,A4,aB,A5,aC,eA,a0,a1,_,_,_,_,_,_⟩:=V_first hV'
 have ad0:ad.add 0=ad:=by simp [Addr.add]
 rw [ad0] at a0 a1;subst eA;have p0:=HP.cell i 0 hi om_;have p1:=HP.cell i 1 hi om_;have p2:=HP.cell i 2 hi om_;have p3:=HP.cell i 3 hi om_;have p4:=HP.cell i 4 hi om_;simp only [Yn,if_true,Nat.add_zero,HR.v_,eT] at p0 p1;simp only [Yn] at p2 p3 p4;simp at p1 p2 p3 p4
 have i0:(0:Int)≤(i:Int):=om_
 have i1:(i:Int)<(s.n:Int):=om_
 have i2:decide (i<s.n)=true:=dt_ hi;have i3:decide ((i:Int)<0)=false:=df_ om_;have i4:decide ((i:Int) ≥ (s.n:Int))=false:=df_ om_;have i5:decide ((s.n:Int)≤(i:Int))=false:=df_ om_
 have i6:¬ (i:Int)<0:=om_
 have i7:decide (s.n≤i)=false:=df_ om_;go_enter Tryz.func63,Tryz.ntmps63;go_upto_region 3 with (fail);go_upto_region 4 with (fail);have HB:=Xf (Below.refl W.heap.size W) (.cells #[.slice (some ⟨R,0,none⟩) 3 cr,.slice (some ad) (s.proc i).todo.length ct,.int .i64 (s.proc i).mode,.int .i64 (s.proc i).on,.int .i64 (s.proc i).room] 85);have hbx:=Yc W (.cells #[.slice (some ⟨R,0,none⟩) 3 cr,.slice (some ad) (s.proc i).todo.length ct,.int .i64 (s.proc i).mode,.int .i64 (s.proc i).on,.int .i64 (s.proc i).room] 85);generalize W.alloc (.cells #[.slice (some ⟨R,0,none⟩) 3 cr,.slice (some ad) (s.proc i).todo.length ct,.int .i64 (s.proc i).mode,.int .i64 (s.proc i).on,.int .i64 (s.proc i).room] 85)=W1 at *;have h1:=h.below HB;clear c0 c1 c2 c3 c4 p0 p1 p2 p3 p4;have aA:=ints_at h1.at_.rooms HM.v_;obtain ⟨c0,c1,c2,c3,c4⟩:=h1.wb.cells;rw [aA.v_] at c2;have b1:W1.cell? ⟨W.heap.size,1,none⟩=some (.slice (some ad) (s.proc i).todo.length ct):=(Xd hbx 1).trans rfl;have b2:W1.cell? ⟨W.heap.size,2,none⟩=some (.int .i64 (s.proc i).mode):=(Xd hbx 2).trans rfl;have b4:W1.cell? ⟨W.heap.size,4,none⟩=some (.int .i64 (s.proc i).room):=(Xd hbx 4).trans rfl;rw [HMO.out] at b2;have a0':=Xb HB a0;have a1':=Xb HB a1;clear a0 a1;rw [HT.out,List.length_cons] at b1
 have n1:(0:Int)<((l.length+1:Nat):Int):=om_
 have n2:(0:Int)<((l.length:Int)+1):=om_
 have n3:(((l.length:Int)+1) == 0)=false:=by simp;omega
 have n4:decide (((l.length:Int)+1)=0)=false:=df_ om_;obtain ⟨r,hrr⟩:=Int.eq_ofNat_of_zero_le hr.1;have m_a:=aA.cell r om_
 have r3:(r:Int)<2:=om_
 have r5:(0:Int)≤(r:Int):=om_
 have r4:decide (r<2)=true:=dt_ om_;rw [hrr] at a1';rw [h8] at a0'
 have e0:t.f1.toNat=r:=by rw [hrr];rfl
 rw [e0] at hz;rw [hz] at m_a;clear hrr e0 hz hr h8;go_upto_region 5 with (fail)
 go_quiet (fail)
 go_upto_region 11 with (fail)
 go_quiet (fail)
 go_wp2;go_ret
 exact ⟨rfl,by repeat (first|exact HB|exact Below.refl _ _|apply Xf|apply Xg|apply Xh)⟩
theorem code_in1 (W:World) (base:Nat) (ok:Nat→Prop) (b:BK) (s:WS) (g:Nat) (h:St W base ok b s g) (i:Nat) (hi:i<s.n) (hm:(s.proc i).mode=0) (t:T) (l:List T) (ht:(s.proc i).todo=t :: l) (h8:t.f0=8) (hr:0≤t.f1∧t.f1<2) (hz:s.room t.f1.toNat≠0) :
  Calls Tryz.prog 63 #[.pointer (some ⟨g,0,none⟩),.int .i64 (i:Int)] W fun e W'=>e=.returned (.int .i64 2)∧Below W.heap.size W W':=by
 have HT:=Xa.mk ht;clear ht;have HMO:=Xa.mk hm;clear hm;obtain ⟨c0,c1,c2,c3,c4⟩:=h.wb.cells;obtain ⟨P,cp,HP⟩:=h.at_.procs om_;rw [HP.v_] at c0;obtain ⟨M,cm,HM⟩:=h.at_.rooms;rw [HM.v_] at c2;obtain ⟨R,cr,HR⟩:=h.at_.regs hi;have hV:=h.at_.tree i hi;obtain ⟨A,ct,eT⟩:=Kd.V_slice hV;have hV':=hV;rw [HT.out,eT,HT.out,List.length_cons] at hV';obtain ⟨ad,A4,aB,A5,aC,eA,a0,a1,_,_,_,_,_,_⟩:=V_first hV'
 have ad0:ad.add 0=ad:=by simp [Addr.add]
 rw [ad0] at a0 a1;subst eA;have p0:=HP.cell i 0 hi om_;have p1:=HP.cell i 1 hi om_;have p2:=HP.cell i 2 hi om_;have p3:=HP.cell i 3 hi om_;have p4:=HP.cell i 4 hi om_;simp only [Yn,if_true,Nat.add_zero,HR.v_,eT] at p0 p1;simp only [Yn] at p2 p3 p4;simp at p1 p2 p3 p4
 have i0:(0:Int)≤(i:Int):=om_
 have i1:(i:Int)<(s.n:Int):=om_
 have i2:decide (i<s.n)=true:=dt_ hi;have i3:decide ((i:Int)<0)=false:=df_ om_;have i4:decide ((i:Int) ≥ (s.n:Int))=false:=df_ om_;have i5:decide ((s.n:Int)≤(i:Int))=false:=df_ om_
 have i6:¬ (i:Int)<0:=om_
 have i7:decide (s.n≤i)=false:=df_ om_;go_enter Tryz.func63,Tryz.ntmps63;go_upto_region 3 with (fail);go_upto_region 4 with (fail);have HB:=Xf (Below.refl W.heap.size W) (.cells #[.slice (some ⟨R,0,none⟩) 3 cr,.slice (some ad) (s.proc i).todo.length ct,.int .i64 (s.proc i).mode,.int .i64 (s.proc i).on,.int .i64 (s.proc i).room] 85);have hbx:=Yc W (.cells #[.slice (some ⟨R,0,none⟩) 3 cr,.slice (some ad) (s.proc i).todo.length ct,.int .i64 (s.proc i).mode,.int .i64 (s.proc i).on,.int .i64 (s.proc i).room] 85);generalize W.alloc (.cells #[.slice (some ⟨R,0,none⟩) 3 cr,.slice (some ad) (s.proc i).todo.length ct,.int .i64 (s.proc i).mode,.int .i64 (s.proc i).on,.int .i64 (s.proc i).room] 85)=W1 at *;have h1:=h.below HB;clear c0 c1 c2 c3 c4 p0 p1 p2 p3 p4;have aA:=ints_at h1.at_.rooms HM.v_;obtain ⟨c0,c1,c2,c3,c4⟩:=h1.wb.cells;rw [aA.v_] at c2;have b1:W1.cell? ⟨W.heap.size,1,none⟩=some (.slice (some ad) (s.proc i).todo.length ct):=(Xd hbx 1).trans rfl;have b2:W1.cell? ⟨W.heap.size,2,none⟩=some (.int .i64 (s.proc i).mode):=(Xd hbx 2).trans rfl;have b4:W1.cell? ⟨W.heap.size,4,none⟩=some (.int .i64 (s.proc i).room):=(Xd hbx 4).trans rfl;rw [HMO.out] at b2;have a0':=Xb HB a0;have a1':=Xb HB a1;clear a0 a1;rw [HT.out,List.length_cons] at b1
 have n1:(0:Int)<((l.length+1:Nat):Int):=om_
 have n2:(0:Int)<((l.length:Int)+1):=om_
 have n3:(((l.length:Int)+1) == 0)=false:=by simp;omega
 have n4:decide (((l.length:Int)+1)=0)=false:=df_ om_;obtain ⟨r,hrr⟩:=Int.eq_ofNat_of_zero_le hr.1;have m_a:=aA.cell r om_
 have r3:(r:Int)<2:=om_
 have r5:(0:Int)≤(r:Int):=om_
 have r4:decide (r<2)=true:=dt_ om_;rw [hrr] at a1';rw [h8] at a0'
 have e0:t.f1.toNat=r:=by rw [hrr];rfl
 rw [e0] at hz
 have z1:(s.room r == 0)=false:=by simpa using hz
 have z2:(s.room r != 0)=true:=by simpa using hz
 clear hrr e0 hr h8;go_upto_region 5 with (fail)
 go_quiet (fail)
 go_upto_region 11 with (fail)
 go_quiet (fail)
 go_wp2;go_ret
 exact ⟨rfl,by repeat (first|exact HB|exact Below.refl _ _|apply Xf|apply Xg|apply Xh)⟩
theorem code_do (W:World) (base:Nat) (ok:Nat→Prop) (b:BK) (s:WS) (g K:Nat) (h:St W base ok b s g) (inv:Inv s K) (who:Int) :
  Calls Tryz.prog 63 #[.pointer (some ⟨g,0,none⟩),.int .i64 who] W fun e W'=>e=.returned (.int .i64 (code s who))∧Below W.heap.size W W':=by
 have hn:0<s.n:=inv.n.1;by_cases h0:who<0
 ·have e:code s who=3:=if_pos (.inl h0);rw [e];exact code_neg W base ok b s g h hn who h0
 by_cases h1:(s.n:Int)≤who
 ·have e:code s who=3:=if_pos (.inr h1);rw [e];exact code_far W base ok b s g h hn who h1
 obtain ⟨i,rfl⟩:=Int.eq_ofNat_of_zero_le (Int.not_lt.1 h0)
 have hi:i<s.n:=om_
 have e:code s (i:Int)=codeN s i:=if_neg (fun hh=>hh.elim h0 h1);rw [e];by_cases m1:(s.proc i).mode=1
 ·have e:codeN s i=2:=if_pos m1;rw [e];exact code_waits W base ok b s g h i hi m1
 by_cases m2:(s.proc i).mode=2
 ·have hr:0≤(s.proc i).room∧(s.proc i).room<2:=by
   rcases inv.mode i hi with hm|hm
   ·omega
   ·rcases inv.room hi with hr|hr
    ·omega
    ·exact hr
  by_cases hz:s.room (s.proc i).room.toNat=0
  ·have e:codeN s i=0:=by unfold codeN;rw [if_neg m1,if_pos m2,if_pos hz]
   rw [e];exact code_back0 W base ok b s g h i hi m2 hr hz
  ·have e:codeN s i=2:=by unfold codeN;rw [if_neg m1,if_pos m2,if_neg hz]
   rw [e];exact code_back1 W base ok b s g h i hi m2 hr hz
 have m0:(s.proc i).mode=0:=(inv.mode i hi).elim id (fun x=>(x.1.elim m1 m2).elim)
 cases ht:(s.proc i).todo with
 |nil=>
  have e:codeN s i=1:=by unfold codeN;rw [if_neg m1,if_neg m2,ht]
  rw [e];exact code_done W base ok b s g h i hi m0 ht
 |cons t l=>
  by_cases h8:t.f0=8
  ·have hok:=inv.todo i hi;rw [ht] at hok
   have hr:0≤t.f1∧t.f1<2:=by
    rcases hok.first with ⟨hf,_⟩|⟨_,_,rfl,_⟩
    ·have hh:=hf.head;unfold Head at hh;omega
    ·exact absurd (show (12:Int)=8 from h8) de_
   by_cases hz:s.room t.f1.toNat=0
   ·have e:codeN s i=0:=by unfold codeN;rw [if_neg m1,if_neg m2,ht];exact if_neg (fun hh=>hh.2 hz)
    rw [e];exact code_in0 W base ok b s g h i hi m0 t l ht h8 hr hz
   ·have e:codeN s i=2:=by unfold codeN;rw [if_neg m1,if_neg m2,ht];exact if_pos ⟨h8,hz⟩
    rw [e];exact code_in1 W base ok b s g h i hi m0 t l ht h8 hr hz
  ·have e:codeN s i=0:=by unfold codeN;rw [if_neg m1,if_neg m2,ht];exact if_neg (fun hh=>h8 hh.1)
   rw [e];exact code_plain W base ok b s g h i hi m0 t l ht h8
end Go.Proofs.YtlhogkfmdnpmkaaGreat.Mean
