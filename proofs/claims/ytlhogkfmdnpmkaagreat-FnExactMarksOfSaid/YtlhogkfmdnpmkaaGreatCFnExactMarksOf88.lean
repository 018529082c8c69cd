import Derived.Test.YtlhogkfmdnpmkaaGreatCFnExactMarksOf81
set_option linter.unusedSectionVars false
set_option linter.unusedVariables false
set_option linter.unusedSimpArgs false
set_option maxHeartbeats 4000000
set_option maxRecDepth 100000
namespace Go.Proofs.YtlhogkfmdnpmkaaGreat.Mean
open RowKit GMarks YtlhogkfmdnpmkaaGreatW.PrintWords
theorem rOk (n:Int):Ui.f n=some (nOk n):=by
 unfold Ui.f nOk;by_cases c:n ≥ -999
 ·rw [if_pos c];simp [c]
 ·rw [if_neg c];simp;omega
theorem rCut (n:Int):Vf.f n=some (nCut n):=by
 unfold Vf.f nCut;by_cases c:n < -999
 ·have d:¬ n > 999:=om_
  simp only [if_pos c,if_neg d]
 ·by_cases d:n > 999
  ·simp only [if_neg c,if_pos d]
  ·simp only [if_neg c,if_neg d]
theorem rIf (b:Bool):spec_l1If.f b=some (if b=true then 1 else 0):=by unfold spec_l1If.f;split <;> rfl
theorem refNum (op a b:Int):∃ q,Zu.f 1 op a b=some (num op a b,q):=by
 unfold Zu.f num;rw [rOk,rOk];simp only [Option.bind_some];by_cases ha:nOk a=true
 ·rw [if_pos ha];by_cases hb:nOk b=true
  ·rw [hb]
   have h1:-999≤a∧a≤999:=by simpa [nOk] using ha
   have h2:-999≤b∧b≤999:=by simpa [nOk] using hb
   have hm:(a * b).natAbs≤999 * 999:=by rw [Int.natAbs_mul];exact Nat.mul_le_mul om_ om_
   have w1:wrap64 (a+b)=a+b:=by unfold wrap64;omega
   have w2:wrap64 (a - b)=a - b:=by unfold wrap64;omega
   have w3:wrap64 (a * b)=a * b:=by generalize a * b=p at *;unfold wrap64;omega
   have d1:nCut 1=1:=de_
   have d0:nCut 0=0:=de_
   rw [ha];simp only [Zu.j0,Bool.not_true,Bool.false_eq_true,if_false,w1,w2,w3];simp only [rCut,rIf,Option.bind_some,Bool.and_true,decide_eq_true_eq,beq_iff_eq,Bool.and_eq_true];by_cases c1:op=1
   ·subst c1;exact ⟨true,sm_⟩
   by_cases c2:op=2
   ·subst c2;exact ⟨true,sm_⟩
   by_cases c3:op=3
   ·subst c3;exact ⟨true,sm_⟩
   by_cases c4:op=4
   ·subst c4;exact ⟨true,by simp;split <;> simp [d1,d0]⟩
   by_cases c5:op=5
   ·subst c5;exact ⟨true,by simp;split <;> simp [d1,d0]⟩
   exact ⟨false,by rw [if_neg c1,if_neg c2,if_neg c3,if_neg c4,if_neg c5,if_neg om_]⟩
  ·have hb':nOk b=false:=by simpa using hb
   exact ⟨false,by rw [ha,hb'];simp [Zu.j0]⟩
 ·have ha':nOk a=false:=by simpa using ha
  rw [ha',if_neg de_];exact ⟨false,by simp [Zu.j0]⟩
open YtlhogkfmdnpmkaaGreatW.PrintLast YtlhogkfmdnpmkaaGreatW.PrintMore
variable [Prot]
theorem leaf_num (W:World) (base:Nat) (ok:Nat→Prop) (b:BK) (s:WS) (i:Nat) (a c n:Int) (A4:Option Addr) (n4 aA:Nat) (A5:Option Addr) (n5 aB:Nat) (h:At W base ok b s) (hup:∀ k,W.heap.size≤k→ok k) (hi:i<s.n) (ha:0≤a∧a<3) :
  Calls Tryz.prog 57 #[RV b,.int .i64 (i:Int),.agg #[.int .i64 1,.int .i64 a,.int .i64 c,.int .i64 n,.slice A4 n4 aA,.slice A5 n5 aB]] W (RL W base ok (doReg s i a n)):=by
 obtain ⟨a',rfl⟩:=Int.eq_ofNat_of_zero_le ha.1;obtain ⟨P,C,M,S,Ad,q0,q1,q2,q3,q4,HF⟩:=h.forms om_;have R:=RS.start3 h hup (.cells #[.int .i64 1,.int .i64 (a':Int),.int .i64 c,.int .i64 n,.slice A4 n4 aA,.slice A5 n5 aB] 87);rw [HF.rb] at R;rw [HF.rv];have HFA:=Xa.mk HF;clear h hup HF;go_enter Tryz.func57,Tryz.ntmps57;go_upto_region 1 with (fail);generalize ((W.alloc (.cells #[.slice (some ⟨P,0,none⟩) s.n q0,.slice (some ⟨C,0,none⟩) 3 q1,.slice (some ⟨M,0,none⟩) 2 q2,.slice (some ⟨S,0,none⟩) 2 q3,.slice Ad s.said.length q4] 56)).alloc (.cells #[.int .i64 1,.int .i64 (a':Int),.int .i64 c,.int .i64 n,.slice A4 n4 aA,.slice A5 n5 aB] 87)).alloc ZB=W1 at *;obtain ⟨R,hsb,hbW⟩:=R;generalize hgz:W.heap.size+1+1=z at *;generalize hgs:W.heap.size+1=sb at *;generalize hg:W.heap.size=g at *;obtain ⟨c0,c1,c2,c3,c4⟩:=HFA.out.cells R.st.wb;have HP:=R.st.at_.Yf om_ HFA.out.p;obtain ⟨b0,b1,b2,b3,b4,b5⟩:=box6 hsb
 have i0:(0:Int)≤(i:Int):=om_
 have i1:(i:Int)<(s.n:Int):=om_
 have i2:decide (i<s.n)=true:=dt_ hi;obtain ⟨Rg,cr,HR⟩:=R.st.at_.regs hi;have p0:=HP.cell i 0 hi om_;simp only [Yn,if_true,Nat.add_zero] at p0;rw [HR.v_] at p0;have r_a:=HR.cell a' om_;have f_a:=HR.free_ a'
 have a3:(a':Int)<3:=om_
 have a4:decide (a'<3)=true:=dt_ om_;go_upto_region 14 with (fail);have hw:=R.st.at_.reg R.st.up hi a' n HR;have R2:=R.write (t':=b.t) (q':=b.q) hw;clear c0 c1 c2 c3 c4 HP b0 b1 b2 b3 b4 b5 p0 r_a f_a hsb hw R HR;generalize W1.setCell ⟨Rg,a',none⟩ (.int .i64 n)=W2 at *;have HFB:Forms b (doReg s i (a':Int) n) P C M S Ad q0 q1 q2 q3 q4:=⟨HFA.out.p,HFA.out.c,HFA.out.m,HFA.out.g,HFA.out.d⟩;obtain ⟨d0,d1,d2,d3,d4⟩:=Forms.cells HFB R2.st.wb;obtain ⟨z0,z1,z2,z3,z4⟩:=R2.zc;have f0:=Xc R2.z_ 0;have f1:=Xc R2.z_ 1;have f2:=Xc R2.z_ 2;have f3:=Xc R2.z_ 3;have f4:=Xc R2.z_ 4;have HFIN:=Xa.mk (R2.finish HFB);go_wp2
 (try simp only [Exit.inBlock,Exit.then])
 refine bodyPost_ret (results_cell_row rfl _ _ z 56 #[.slice (some ⟨P,0,none⟩) s.n q0,.slice (some ⟨C,0,none⟩) 3 q1,.slice (some ⟨M,0,none⟩) 2 q2,.slice (some ⟨S,0,none⟩) 2 q3,.slice Ad s.said.length q4] (0,0) _ rfl HFIN.out.1 Tryz.underlying56 rfl kr_) rfl ?_;exact HFIN.out.2
theorem leaf_load (W:World) (base:Nat) (ok:Nat→Prop) (b:BK) (s:WS) (i:Nat) (a c n:Int) (A4:Option Addr) (n4 aA:Nat) (A5:Option Addr) (n5 aB:Nat) (h:At W base ok b s) (hup:∀ k,W.heap.size≤k→ok k) (hi:i<s.n) (ha:0≤a∧a<3) (hc:0≤c∧c<3) :
  Calls Tryz.prog 57 #[RV b,.int .i64 (i:Int),.agg #[.int .i64 3,.int .i64 a,.int .i64 c,.int .i64 n,.slice A4 n4 aA,.slice A5 n5 aB]] W (RL W base ok (doReg s i a (s.cell c.toNat))):=by
 obtain ⟨a',rfl⟩:=Int.eq_ofNat_of_zero_le ha.1;obtain ⟨c',rfl⟩:=Int.eq_ofNat_of_zero_le hc.1;obtain ⟨P,C,M,S,Ad,q0,q1,q2,q3,q4,HF⟩:=h.forms om_;have R:=RS.start3 h hup (.cells #[.int .i64 3,.int .i64 (a':Int),.int .i64 (c':Int),.int .i64 n,.slice A4 n4 aA,.slice A5 n5 aB] 87);rw [HF.rb] at R;rw [HF.rv];have HFA:=Xa.mk HF;clear h hup HF;go_enter Tryz.func57,Tryz.ntmps57;go_upto_region 1 with (fail);generalize ((W.alloc (.cells #[.slice (some ⟨P,0,none⟩) s.n q0,.slice (some ⟨C,0,none⟩) 3 q1,.slice (some ⟨M,0,none⟩) 2 q2,.slice (some ⟨S,0,none⟩) 2 q3,.slice Ad s.said.length q4] 56)).alloc (.cells #[.int .i64 3,.int .i64 (a':Int),.int .i64 (c':Int),.int .i64 n,.slice A4 n4 aA,.slice A5 n5 aB] 87)).alloc ZB=W1 at *;obtain ⟨R,hsb,hbW⟩:=R;generalize hgz:W.heap.size+1+1=z at *;generalize hgs:W.heap.size+1=sb at *;generalize hg:W.heap.size=g at *;obtain ⟨c0,c1,c2,c3,c4⟩:=HFA.out.cells R.st.wb;have HP:=R.st.at_.Yf om_ HFA.out.p;obtain ⟨b0,b1,b2,b3,b4,b5⟩:=box6 hsb
 have i0:(0:Int)≤(i:Int):=om_
 have i1:(i:Int)<(s.n:Int):=om_
 have i2:decide (i<s.n)=true:=dt_ hi;obtain ⟨Rg,cr,HR⟩:=R.st.at_.regs hi;have p0:=HP.cell i 0 hi om_;simp only [Yn,if_true,Nat.add_zero] at p0;rw [HR.v_] at p0;have r_a:=HR.cell a' om_;have f_a:=HR.free_ a'
 have a3:(a':Int)<3:=om_
 have a4:decide (a'<3)=true:=dt_ om_;have HC:=ints_at R.st.at_.cells HFA.out.c;have k_c:=HC.cell c' om_
 have c3':(c':Int)<3:=om_
 have aA:decide (c'<3)=true:=dt_ om_;go_upto_region 9 with (fail)
 go_still_tail 10,kr_
 change wpList _ _ _ _ _ W1.drew;go_upto_region 14 with (fail);have hw:=R.st.at_.reg R.st.up hi a' (s.cell c') HR;have R2:=(R.write (t':=b.t) (q':=b.q) hw).below (Xh (Below.refl _ _));clear c0 c1 c2 c3 c4 HP b0 b1 b2 b3 b4 b5 hsb hw R p0 r_a f_a k_c HR HC;generalize (W1.setCell ⟨Rg,a',none⟩ (.int .i64 (s.cell c'))).drew=W2 at *;have HFB:Forms b (doReg s i (a':Int) (s.cell c')) P C M S Ad q0 q1 q2 q3 q4:=⟨HFA.out.p,HFA.out.c,HFA.out.m,HFA.out.g,HFA.out.d⟩;obtain ⟨d0,d1,d2,d3,d4⟩:=Forms.cells HFB R2.st.wb;obtain ⟨z0,z1,z2,z3,z4⟩:=R2.zc;have f0:=Xc R2.z_ 0;have f1:=Xc R2.z_ 1;have f2:=Xc R2.z_ 2;have f3:=Xc R2.z_ 3;have f4:=Xc R2.z_ 4;have HFIN:=Xa.mk (R2.finish HFB);go_wp2
 (try simp only [Exit.inBlock,Exit.then])
 refine bodyPost_ret (results_cell_row rfl _ _ z 56 #[.slice (some ⟨P,0,none⟩) s.n q0,.slice (some ⟨C,0,none⟩) 3 q1,.slice (some ⟨M,0,none⟩) 2 q2,.slice (some ⟨S,0,none⟩) 2 q3,.slice Ad s.said.length q4] (0,0) _ rfl HFIN.out.1 Tryz.underlying56 rfl kr_) rfl ?_;exact HFIN.out.2
theorem leaf_store (W:World) (base:Nat) (ok:Nat→Prop) (b:BK) (s:WS) (i:Nat) (a c n:Int) (A4:Option Addr) (n4 aA:Nat) (A5:Option Addr) (n5 aB:Nat) (h:At W base ok b s) (hup:∀ k,W.heap.size≤k→ok k) (hi:i<s.n) (ha:0≤a∧a<3) (hc:0≤c∧c<3) :
  Calls Tryz.prog 57 #[RV b,.int .i64 (i:Int),.agg #[.int .i64 4,.int .i64 a,.int .i64 c,.int .i64 n,.slice A4 n4 aA,.slice A5 n5 aB]] W (RL W base ok ({ s with cell:=up s.cell a.toNat ((s.proc i).regs c.toNat) })):=by
 obtain ⟨a',rfl⟩:=Int.eq_ofNat_of_zero_le ha.1;obtain ⟨c',rfl⟩:=Int.eq_ofNat_of_zero_le hc.1;obtain ⟨P,C,M,S,Ad,q0,q1,q2,q3,q4,HF⟩:=h.forms om_;have R:=RS.start3 h hup (.cells #[.int .i64 4,.int .i64 (a':Int),.int .i64 (c':Int),.int .i64 n,.slice A4 n4 aA,.slice A5 n5 aB] 87);rw [HF.rb] at R;rw [HF.rv];have HFA:=Xa.mk HF;clear h hup HF;go_enter Tryz.func57,Tryz.ntmps57;go_upto_region 1 with (fail);generalize ((W.alloc (.cells #[.slice (some ⟨P,0,none⟩) s.n q0,.slice (some ⟨C,0,none⟩) 3 q1,.slice (some ⟨M,0,none⟩) 2 q2,.slice (some ⟨S,0,none⟩) 2 q3,.slice Ad s.said.length q4] 56)).alloc (.cells #[.int .i64 4,.int .i64 (a':Int),.int .i64 (c':Int),.int .i64 n,.slice A4 n4 aA,.slice A5 n5 aB] 87)).alloc ZB=W1 at *;obtain ⟨R,hsb,hbW⟩:=R;generalize hgz:W.heap.size+1+1=z at *;generalize hgs:W.heap.size+1=sb at *;generalize hg:W.heap.size=g at *;obtain ⟨c0,c1,c2,c3,c4⟩:=HFA.out.cells R.st.wb;have HP:=R.st.at_.Yf om_ HFA.out.p;obtain ⟨b0,b1,b2,b3,b4,b5⟩:=box6 hsb
 have i0:(0:Int)≤(i:Int):=om_
 have i1:(i:Int)<(s.n:Int):=om_
 have i2:decide (i<s.n)=true:=dt_ hi;obtain ⟨Rg,cr,HR⟩:=R.st.at_.regs hi;have p0:=HP.cell i 0 hi om_;simp only [Yn,if_true,Nat.add_zero] at p0;rw [HR.v_] at p0;have HC:=ints_at R.st.at_.cells HFA.out.c;have r_c:=HR.cell c' om_;have k_a:=HC.cell a' om_;have k_f:=HC.free_ a'
 have a3':(a':Int)<3:=om_
 have a4':decide (a'<3)=true:=dt_ om_
 have c3':(c':Int)<3:=om_
 have aA:decide (c'<3)=true:=dt_ om_;go_upto_region 11 with (fail)
 go_still_tail 10,kr_
 change wpList _ _ _ _ _ W1.drew;go_upto_region 14 with (fail);have hw:=R.st.at_.cellSet R.st.up a' ((s.proc i).regs c') HC;have R2:=(R.write (t':=b.t) (q':=b.q) hw).below (Xh (Below.refl _ _));clear c0 c1 c2 c3 c4 HP b0 b1 b2 b3 b4 b5 hsb hw R p0 r_c k_a k_f HR HC;generalize (W1.setCell ⟨C,a',none⟩ (.int .i64 ((s.proc i).regs c'))).drew=W2 at *;have HFB:Forms b ({ s with cell:=up s.cell a' ((s.proc i).regs c') }) P C M S Ad q0 q1 q2 q3 q4:=⟨HFA.out.p,HFA.out.c,HFA.out.m,HFA.out.g,HFA.out.d⟩;obtain ⟨d0,d1,d2,d3,d4⟩:=Forms.cells HFB R2.st.wb;obtain ⟨z0,z1,z2,z3,z4⟩:=R2.zc;have f0:=Xc R2.z_ 0;have f1:=Xc R2.z_ 1;have f2:=Xc R2.z_ 2;have f3:=Xc R2.z_ 3;have f4:=Xc R2.z_ 4;have HFIN:=Xa.mk (R2.finish HFB);go_wp2
 (try simp only [Exit.inBlock,Exit.then])
 refine bodyPost_ret (results_cell_row rfl _ _ z 56 #[.slice (some ⟨P,0,none⟩) s.n q0,.slice (some ⟨C,0,none⟩) 3 q1,.slice (some ⟨M,0,none⟩) 2 q2,.slice (some ⟨S,0,none⟩) 2 q3,.slice Ad s.said.length q4] (0,0) _ rfl HFIN.out.1 Tryz.underlying56 rfl kr_) rfl ?_;exact HFIN.out.2
theorem leaf_op (W:World) (base:Nat) (ok:Nat→Prop) (b:BK) (s:WS) (i:Nat) (a c n:Int) (A4:Option Addr) (n4 aA:Nat) (A5:Option Addr) (n5 aB:Nat) (h:At W base ok b s) (hup:∀ k,W.heap.size≤k→ok k) (hi:i<s.n) (ha:0≤a∧a<3) (hc:0≤c∧c<3) :
  Calls Tryz.prog 57 #[RV b,.int .i64 (i:Int),.agg #[.int .i64 2,.int .i64 a,.int .i64 c,.int .i64 n,.slice A4 n4 aA,.slice A5 n5 aB]] W (RL W base ok (doReg s i a (num n ((s.proc i).regs a.toNat) ((s.proc i).regs c.toNat)))):=by
 obtain ⟨a',rfl⟩:=Int.eq_ofNat_of_zero_le ha.1;obtain ⟨c',rfl⟩:=Int.eq_ofNat_of_zero_le hc.1;obtain ⟨P,C,M,S,Ad,q0,q1,q2,q3,q4,HF⟩:=h.forms om_;have R:=RS.start3 h hup (.cells #[.int .i64 2,.int .i64 (a':Int),.int .i64 (c':Int),.int .i64 n,.slice A4 n4 aA,.slice A5 n5 aB] 87);rw [HF.rb] at R;rw [HF.rv];have HFA:=Xa.mk HF;clear h hup HF;go_enter Tryz.func57,Tryz.ntmps57;go_upto_region 1 with (fail);generalize ((W.alloc (.cells #[.slice (some ⟨P,0,none⟩) s.n q0,.slice (some ⟨C,0,none⟩) 3 q1,.slice (some ⟨M,0,none⟩) 2 q2,.slice (some ⟨S,0,none⟩) 2 q3,.slice Ad s.said.length q4] 56)).alloc (.cells #[.int .i64 2,.int .i64 (a':Int),.int .i64 (c':Int),.int .i64 n,.slice A4 n4 aA,.slice A5 n5 aB] 87)).alloc ZB=W1 at *;obtain ⟨R,hsb,hbW⟩:=R;generalize hgz:W.heap.size+1+1=z at *;generalize hgs:W.heap.size+1=sb at *;generalize hg:W.heap.size=g at *;obtain ⟨c0,c1,c2,c3,c4⟩:=HFA.out.cells R.st.wb;have HP:=R.st.at_.Yf om_ HFA.out.p;obtain ⟨b0,b1,b2,b3,b4,b5⟩:=box6 hsb
 have i0:(0:Int)≤(i:Int):=om_
 have i1:(i:Int)<(s.n:Int):=om_
 have i2:decide (i<s.n)=true:=dt_ hi;obtain ⟨qq,hnum⟩:=refNum n ((s.proc i).regs a') ((s.proc i).regs c');have HND:=Lib.hid (fun w=>Zu.calls 1 _ _ _ _ _ w hnum);clear hnum;obtain ⟨Rg,cr,HR⟩:=R.st.at_.regs hi;have p0:=HP.cell i 0 hi om_;simp only [Yn,if_true,Nat.add_zero] at p0;rw [HR.v_] at p0;have r_a:=HR.cell a' om_;have f_a:=HR.free_ a'
 have a3:(a':Int)<3:=om_
 have a4:decide (a'<3)=true:=dt_ om_;have r_c:=HR.cell c' om_
 have c3':(c':Int)<3:=om_
 have aA:decide (c'<3)=true:=dt_ om_;go_upto_region 6 with (fail)
 go_quiet ((go_at_call 79;exact Calls.quiet_of ((HND.out _).mono (fun _ _ hd=>⟨hd.1,hd.2.out⟩))))
 go_upto_region 7 with (fail);generalize hW2:W1.drewN _=W2;have hb2:Below W1.heap.size W1 W2:=hW2 ▸ Xg (Below.refl _ _) _;have R':=R.below hb2;have HRV:=Xa.mk HR.v_;have aD:=(hb2.block sb (by have:=(Xq hsb);omega)).trans hsb;clear hW2 c0 c1 c2 c3 c4 HP b0 b1 b2 b3 b4 b5 p0 r_a f_a r_c hsb R HR HND;obtain ⟨b0,b1,b2,b3,b4,b5⟩:=box6 aD;have aG:=ints_at (R'.st.at_.regs hi) HRV.out;have r_a:=aG.cell a' om_;have f_a:=aG.free_ a';go_upto_region 14 with (fail);have hw:=R'.st.at_.reg R'.st.up hi a' (num n ((s.proc i).regs a') ((s.proc i).regs c')) aG;have R2:=R'.write (t':=b.t) (q':=b.q) hw;clear b0 b1 b2 b3 b4 b5 aD hw R' aG r_a f_a hb2;generalize W2.setCell ⟨Rg,a',none⟩ (.int .i64 (num n ((s.proc i).regs a') ((s.proc i).regs c')))=W3 at *;have HFB:Forms b (doReg s i (a':Int) (num n ((s.proc i).regs a') ((s.proc i).regs c'))) P C M S Ad q0 q1 q2 q3 q4:=⟨HFA.out.p,HFA.out.c,HFA.out.m,HFA.out.g,HFA.out.d⟩;obtain ⟨d0,d1,d2,d3,d4⟩:=Forms.cells HFB R2.st.wb;obtain ⟨z0,z1,z2,z3,z4⟩:=R2.zc;have f0:=Xc R2.z_ 0;have f1:=Xc R2.z_ 1;have f2:=Xc R2.z_ 2;have f3:=Xc R2.z_ 3;have f4:=Xc R2.z_ 4;have HFIN:=Xa.mk (R2.finish HFB);go_wp2
 (try simp only [Exit.inBlock,Exit.then])
 refine bodyPost_ret (results_cell_row rfl _ _ z 56 #[.slice (some ⟨P,0,none⟩) s.n q0,.slice (some ⟨C,0,none⟩) 3 q1,.slice (some ⟨M,0,none⟩) 2 q2,.slice (some ⟨S,0,none⟩) 2 q3,.slice Ad s.said.length q4] (0,0) _ rfl HFIN.out.1 Tryz.underlying56 rfl kr_) rfl ?_;exact HFIN.out.2
structure YL (g sb Rg a:Nat) (dv:Value) (x:Int) (W:World):Prop where
 d:W.cell? ⟨g,4,none⟩=some dv
 b:W.cell? ⟨sb,1,none⟩=some (.int .i64 (a:Int))
 x:W.cell? ⟨Rg,a,none⟩=some (.int .i64 x)
theorem YL.later {g sb Rg a:Nat} {dv:Value} {x:Int} {W W1:World} (h:YL g sb Rg a dv x W) (hb:Below W.heap.size W W1):YL g sb Rg a dv x W1:=⟨Xb hb h.d,Xb hb h.b,Xb hb h.x⟩
theorem YL.grown {g sb Rg a:Nat} {dv:Value} {x:Int} {W W1:World} {row:Option Nat} (h:YL g sb Rg a dv x W) (hg:W.grownBy W1 row) (h1:some g≠row) (h2:some sb≠row) (h3:some Rg≠row):YL g sb Rg a dv x W1:=⟨hg.cell h.d h1,hg.cell h.b h2,hg.cell h.x h3⟩
theorem leaf_say (W:World) (base:Nat) (ok:Nat→Prop) (b:BK) (s:WS) (i:Nat) (a c n:Int) (A4:Option Addr) (n4 aA:Nat) (A5:Option Addr) (n5 aB:Nat) (h:At W base ok b s) (hup:∀ k,W.heap.size≤k→ok k) (hi:i<s.n) (ha:0≤a∧a<3) (hq:s.said.length≤1000000) :
  Calls Tryz.prog 57 #[RV b,.int .i64 (i:Int),.agg #[.int .i64 5,.int .i64 a,.int .i64 c,.int .i64 n,.slice A4 n4 aA,.slice A5 n5 aB]] W (RL W base ok ({ s with said:=s.said ++ [((i:Int),(s.proc i).regs a.toNat)] })):=by
 obtain ⟨a',rfl⟩:=Int.eq_ofNat_of_zero_le ha.1;obtain ⟨P,C,M,S,Ad,q0,q1,q2,q3,q4,HF⟩:=h.forms om_;have R:=RS.start3 h hup (.cells #[.int .i64 5,.int .i64 (a':Int),.int .i64 c,.int .i64 n,.slice A4 n4 aA,.slice A5 n5 aB] 87);rw [HF.rb] at R;rw [HF.rv];have HFA:=Xa.mk HF;clear h hup HF;go_enter Tryz.func57,Tryz.ntmps57;go_upto_region 1 with (fail);generalize ((W.alloc (.cells #[.slice (some ⟨P,0,none⟩) s.n q0,.slice (some ⟨C,0,none⟩) 3 q1,.slice (some ⟨M,0,none⟩) 2 q2,.slice (some ⟨S,0,none⟩) 2 q3,.slice Ad s.said.length q4] 56)).alloc (.cells #[.int .i64 5,.int .i64 (a':Int),.int .i64 c,.int .i64 n,.slice A4 n4 aA,.slice A5 n5 aB] 87)).alloc ZB=W1 at *;obtain ⟨R,hsb,hbW⟩:=R;generalize hgz:W.heap.size+1+1=z at *;generalize hgs:W.heap.size+1=sb at *;generalize hg:W.heap.size=g at *;obtain ⟨c0,c1,c2,c3,c4⟩:=HFA.out.cells R.st.wb;have HP:=R.st.at_.Yf om_ HFA.out.p;obtain ⟨b0,b1,b2,b3,b4,b5⟩:=box6 hsb
 have i0:(0:Int)≤(i:Int):=om_
 have i1:(i:Int)<(s.n:Int):=om_
 have i2:decide (i<s.n)=true:=dt_ hi;obtain ⟨Rg,cr,HR⟩:=R.st.at_.regs hi;have p0:=HP.cell i 0 hi om_;simp only [Yn,if_true,Nat.add_zero] at p0;rw [HR.v_] at p0;have r_a:=HR.cell a' om_;have f_a:=HR.free_ a'
 have a3:(a':Int)<3:=om_
 have a4:decide (a'<3)=true:=dt_ om_;go_upto_region 13 with (fail);have R5:=R.below (Xh (Below.refl _ W1))
 have aF:=(Xh (Below.refl W1.heap.size W1)).block sb (Xq hsb)|>.trans hsb
 have aM:=ints_at (R5.st.at_.regs hi) HR.v_;have hd0:W1.ownsRow base 118 2 b.d s.said.length (saidC s.said):=R.st.at_.rows.at_ 4 _ rfl;have hd5:W1.drew.ownsRow base 118 2 b.d s.said.length (saidC s.said):=R5.st.at_.rows.at_ 4 _ rfl;have hdo:∀ k,b.d.ownBlock=some k→ok k∧¬ (k=g∨k=sb∨k=z):=fun k hk=>R.st.at_.rows.ok_ 4 _ rfl k hk;have hdv:=HFA.out.d;have aI:Xa (some g≠(Value.slice Ad s.said.length q4).ownBlock):=⟨fun e=>(hdo g (by rw [hdv];exact e.symm)).2 (.inl rfl)⟩;have aK:Xa (some sb≠(Value.slice Ad s.said.length q4).ownBlock):=⟨fun e=>(hdo sb (by rw [hdv];exact e.symm)).2 (.inr (.inl rfl))⟩;have aL:Xa (some Rg≠(Value.slice Ad s.said.length q4).ownBlock):=⟨fun e=>R.st.at_.rows.apart (i+7) 4 _ _ om_ (lay_reg b s hi) rfl Rg (by show (b.r i).ownBlock=_;rw [HR.v_];rfl) (by show b.d.ownBlock=_;rw [hdv];exact e.symm)⟩;have HNZ:Xa (some z≠(Value.slice Ad s.said.length q4).ownBlock):=⟨fun e=>(hdo z (by rw [hdv];exact e.symm)).2 (.inr (.inr rfl))⟩;have aH:Xa (YL g sb Rg a' (.slice Ad s.said.length q4) ((s.proc i).regs a') W1.drew):=⟨⟨(HFA.out.cells R5.st.wb).2.2.2.2,(Xd aF 1).trans rfl,aM.cell a' om_⟩⟩;have HQ:Xa (W1.drew.ownsRow base 118 2 (.slice Ad s.said.length q4) s.said.length (saidC s.said)):=⟨hdv ▸ hd5⟩
 have HBS:Xa (base≤W1.drew.heap.size):=⟨by
  have:=Zl (R5.st.at_.rows.at_ 0 _ rfl) P (by show b.p.ownBlock=_;rw [HFA.out.p];rfl)
  have:=(R5.st.at_.Yf om_ HFA.out.p).lt
  omega⟩
 have HLEN:Xa ((s.said.length+1) * 16≤140737488355328):=⟨om_⟩;have HGL:Xa (g<W1.drew.heap.size):=⟨Xq R5.st.wb⟩;have HGF:Xa (∀ k,W1.drew.frozen? ⟨g,k,none⟩=false):=⟨fun k=>Xc R5.st.wb k⟩;have H5:=Xa.mk R5;have HDV:=Xa.mk hdv;clear R5 aF aM hd0 hd5 hdo hdv c0 c1 c2 c3 c4 HP b0 b1 b2 b3 b4 b5 p0 r_a f_a hsb R HR;refine Ul (n:=13) (S:=YL g sb Rg a' (.slice Ad s.said.length q4) ((s.proc i).regs a')) (ds:=[12]) #[false,false,false,false,false,false,false,false,false,false,false,false,false] kr_ rfl rl1_ aH.out (fun hHeld=>?_);refine pu_' 0 (some 75) ?_;refine pu_' 2 (some 77) ?_;refine pu_' 3 (some 78) ?_;refine pu_' 4 (some 79) ?_;refine tk_' 1 (some 76) rfl hHeld (by rintro w' s0;have c0:=s0.d;have c1:=s0.b;have c2:=s0.x;clear s0;go_simp;with_reducible rfl) ?_;refine tk_' 5 (some 80) rfl hHeld (by rintro w' s0;have c0:=s0.d;have c1:=s0.b;have c2:=s0.x;clear s0;go_simp;with_reducible rfl) ?_;refine pu_' 6 (some 81) ?_;refine tk_' 7 (some 82) rfl hHeld (by rintro w' s0;have c0:=s0.d;have c1:=s0.b;have c2:=s0.x;clear s0;go_simp;with_reducible rfl) ?_;refine pu_' 8 (some 83) ?_;refine re_' 9 (some 84) fun K hK=>?_;refine value_ (v:=.slice (some ⟨W1.drew.heap.size,0,none⟩) 1 1) (w1:=W1.drew.alloc (.cells #[.int .i64 (i:Int),.int .i64 ((s.proc i).regs a')] 118)) rfl rfl kr_ ?_;refine hK.out _ _ (aH.out.later ((Below.refl _ _).alloc (nr_ _) _)) (fun hHeld=>?_);clear hK K;refine no_ ?_;refine re_' 10 (some 85) fun K hK=>?_;refine Uv (w0:=W1.drew) base rfl (.tmp 76) (.tmp 84) 54 118 (.agg #[(.int .i64 0),(.int .i64 0)]) 2 16 rfl Tryz.underlying54 inSay rfl de_ de_ (.slice Ad s.said.length q4) s.said.length (saidC s.said) [.int .i64 (i:Int),.int .i64 ((s.proc i).regs a')] rfl rl1_ rfl (by simp [Value.oneCell']) HQ.out (Below.refl _ _) HBS.out HLEN.out ?_;intro v1 w1 hq1 hb1 hg1 aC;obtain ⟨A1,c1,aO⟩:=Yl hq1;subst aO;have aN:=Xa.mk hq1;have aJ:=Xa.mk hg1;have HAT:=Xa.mk aC;have hx1:=(aH.out.grown hg1 aI.out aK.out aL.out).d
 have hf1:w1.frozen? ⟨g,4,none⟩=false:=by rw [World.frozen?_of_block (hg1.block g HGL.out aI.out)];exact HGF.out 4
 clear hq1 hg1 aC hb1;refine hK.out _ _ (aH.out.grown aJ.out aI.out aK.out aL.out) (fun hHeld=>?_);clear hK K;refine no_ ?_;refine pu_' 11 (some 86) ?_;refine rl_' 12 none fun K hK=>?_;refine skip_ (w1:=w1.setCell ⟨g,4,none⟩ (.slice A1 (s.said.length+1) c1)) rfl rfl ?_ ?_
 ·first|(go_simp;done)|(go_simp;rfl)
 refine hK.out _ _ ?_;clear hK K;refine Uz kr_ ?_;skip;go_upto_region 14 with (fail);have hs:=H5.out.st.at_.say H5.out.st.up (.slice A1 (s.said.length+1) c1) ((i:Int),(s.proc i).regs a') (by rw [HDV.out];exact aJ.out) aN.out (by rw [HDV.out];exact HAT.out.elim .inl (fun x=>.inr (.inr x)));have R2:=H5.out.said hs;clear hx1 hf1 hs;generalize w1.setCell ⟨g,4,none⟩ (.slice A1 (s.said.length+1) c1)=W3 at *;have HFB:Forms { b with d:=.slice A1 (s.said.length+1) c1 } { s with said:=s.said ++ [((i:Int),(s.proc i).regs a')] } P C M S A1 q0 q1 q2 q3 c1:=⟨HFA.out.p,HFA.out.c,HFA.out.m,HFA.out.g,by show Value.slice A1 (s.said.length+1) c1=.slice A1 (s.said ++ [((i:Int),(s.proc i).regs a')]).length c1;rw [List.length_append,List.length_singleton]⟩
 have el:(s.said ++ [((i:Int),(s.proc i).regs a')]).length=s.said.length+1:=by rw [List.length_append,List.length_singleton]
 obtain ⟨d0,d1,d2,d3,d4⟩:=Forms.cells HFB R2.st.wb;obtain ⟨z0,z1,z2,z3,z4⟩:=R2.zc;have f0:=Xc R2.z_ 0;have f1:=Xc R2.z_ 1;have f2:=Xc R2.z_ 2;have f3:=Xc R2.z_ 3;have f4:=Xc R2.z_ 4;have HFIN:=Xa.mk (R2.finish HFB);simp only [el] at d4 HFIN;clear el;go_wp2
 (try simp only [Exit.inBlock,Exit.then])
 refine bodyPost_ret (results_cell_row rfl _ _ z 56 #[.slice (some ⟨P,0,none⟩) s.n q0,.slice (some ⟨C,0,none⟩) 3 q1,.slice (some ⟨M,0,none⟩) 2 q2,.slice (some ⟨S,0,none⟩) 2 q3,.slice A1 (s.said.length+1) c1] (0,0) _ rfl HFIN.out.1 Tryz.underlying56 rfl kr_) rfl ?_;exact HFIN.out.2
theorem leaf_none (W:World) (base:Nat) (ok:Nat→Prop) (b:BK) (s:WS) (i:Nat) (a c n k:Int) (A4:Option Addr) (n4 aA:Nat) (A5:Option Addr) (n5 aB:Nat) (h:At W base ok b s) (hup:∀ k,W.heap.size≤k→ok k) (hi:i<s.n) (hk:k≠1∧k≠2∧k≠3∧k≠4∧k≠5) :
  Calls Tryz.prog 57 #[RV b,.int .i64 (i:Int),.agg #[.int .i64 k,.int .i64 a,.int .i64 c,.int .i64 n,.slice A4 n4 aA,.slice A5 n5 aB]] W (RL W base ok (s)):=by
 obtain ⟨P,C,M,S,Ad,q0,q1,q2,q3,q4,HF⟩:=h.forms om_;have R:=RS.start3 h hup (.cells #[.int .i64 k,.int .i64 a,.int .i64 c,.int .i64 n,.slice A4 n4 aA,.slice A5 n5 aB] 87);rw [HF.rb] at R;rw [HF.rv];have HFA:=Xa.mk HF;clear h hup HF;go_enter Tryz.func57,Tryz.ntmps57;go_upto_region 1 with (fail);generalize ((W.alloc (.cells #[.slice (some ⟨P,0,none⟩) s.n q0,.slice (some ⟨C,0,none⟩) 3 q1,.slice (some ⟨M,0,none⟩) 2 q2,.slice (some ⟨S,0,none⟩) 2 q3,.slice Ad s.said.length q4] 56)).alloc (.cells #[.int .i64 k,.int .i64 a,.int .i64 c,.int .i64 n,.slice A4 n4 aA,.slice A5 n5 aB] 87)).alloc ZB=W1 at *;obtain ⟨R,hsb,hbW⟩:=R;generalize hgz:W.heap.size+1+1=z at *;generalize hgs:W.heap.size+1=sb at *;generalize hg:W.heap.size=g at *;obtain ⟨c0,c1,c2,c3,c4⟩:=HFA.out.cells R.st.wb;have HP:=R.st.at_.Yf om_ HFA.out.p;obtain ⟨b0,b1,b2,b3,b4,b5⟩:=box6 hsb
 have i0:(0:Int)≤(i:Int):=om_
 have i1:(i:Int)<(s.n:Int):=om_
 have i2:decide (i<s.n)=true:=dt_ hi;obtain ⟨Rg,cr,HR⟩:=R.st.at_.regs hi;have p0:=HP.cell i 0 hi om_;simp only [Yn,if_true,Nat.add_zero] at p0;rw [HR.v_] at p0;obtain ⟨k1,k2,k3,k4,k5⟩:=hk
 have e1:(k == 1)=false:=by simpa using k1
 have e2:(k == 2)=false:=by simpa using k2
 have e3:(k == 3)=false:=by simpa using k3
 have e4:(k == 4)=false:=by simpa using k4
 have e5:(k == 5)=false:=by simpa using k5
 go_upto_region 14 with (fail);clear c0 c1 c2 c3 c4 HP b0 b1 b2 b3 b4 b5 p0 hsb HR;obtain ⟨d0,d1,d2,d3,d4⟩:=Forms.cells HFA.out R.st.wb;obtain ⟨z0,z1,z2,z3,z4⟩:=R.zc;have f0:=Xc R.z_ 0;have f1:=Xc R.z_ 1;have f2:=Xc R.z_ 2;have f3:=Xc R.z_ 3;have f4:=Xc R.z_ 4;have HFIN:=Xa.mk (R.finish HFA.out);go_wp2
 (try simp only [Exit.inBlock,Exit.then])
 refine bodyPost_ret (results_cell_row rfl _ _ z 56 #[.slice (some ⟨P,0,none⟩) s.n q0,.slice (some ⟨C,0,none⟩) 3 q1,.slice (some ⟨M,0,none⟩) 2 q2,.slice (some ⟨S,0,none⟩) 2 q3,.slice Ad s.said.length q4] (0,0) _ rfl HFIN.out.1 Tryz.underlying56 rfl kr_) rfl ?_;exact HFIN.out.2
end Go.Proofs.YtlhogkfmdnpmkaaGreat.Mean
