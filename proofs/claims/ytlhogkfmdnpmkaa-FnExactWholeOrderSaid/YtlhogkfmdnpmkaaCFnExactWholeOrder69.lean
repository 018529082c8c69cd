import Derived.Test.YtlhogkfmdnpmkaaCFnExactWholeOrder64
import Derived.Test.YtlhogkfmdnpmkaaCFnExactWholeOrder68
import Derived.Test.YtlhogkfmdnpmkaaCFnExactWholeOrder49
set_option maxHeartbeats 40000000
set_option maxRecDepth 100000
set_option linter.unusedVariables false
set_option linter.unusedSectionVars false
set_option linter.unusedSimpArgs false
namespace Go.Proofs.Ytlhogkfmdnpmkaa.Mean
open Go.RowKit Go.Proofs.Ytlhogkfmdnpmkaa.GWhole Go.Proofs.YtlhogkfmdnpmkaaW.PrintWords Go.Proofs.YtlhogkfmdnpmkaaW.PrintLast Go.Proofs.YtlhogkfmdnpmkaaW.PrintMore
variable [Prot]
theorem rstep_back (W:World) (base:Nat) (ok:Nat→Prop) (b:BK) (s:WS) (i:Nat) (h:At W base ok b s) (hup:∀ k,W.heap.size≤k→ok k) (hi:i<s.n) (hn:s.n≤1000) (hm:(s.proc i).mode=2) (hr:0≤(s.proc i).room∧(s.proc i).room<2) :
    Calls Try.prog 22 #[RV b,.int .i64 (i:Int)] W (RL W base ok (step s i)):=by
  obtain ⟨P,C,M,S,Ad,q0,q1,q2,q3,q4,HF⟩:=h.forms (by omega)
  have R:=RS.start2 h hup
  rw [HF.rb] at R
  rw [HF.rv]
  have HFA:=Xa.mk HF
  clear h hup HF
  go_enter Try.func22,Try.ntmps22
  go_upto_region 1 with (fail)
  generalize (W.alloc (.cells #[.slice (some ⟨P,0,none⟩) s.n q0,.slice (some ⟨C,0,none⟩) 3 q1,.slice (some ⟨M,0,none⟩) 2 q2,.slice (some ⟨S,0,none⟩) 2 q3,.slice Ad s.said.length q4] 45)).alloc ZB=W1 at *
  generalize hgz:W.heap.size+1=z at *
  generalize hg:W.heap.size=g at *
  obtain ⟨c0,c1,c2,c3,c4⟩:=HFA.out.cells R.st.wb
  have HP:=R.st.at_.Yj (by omega) HFA.out.p
  have i0:(0:Int)≤(i:Int):=by omega
  have i1:(i:Int)<(s.n:Int):=by omega
  have i2:decide (i<s.n)=true:=decide_eq_true hi
  obtain ⟨Rg,cr,HR⟩:=R.st.at_.regs hi
  have hVT:=R.st.at_.tree i hi
  obtain ⟨AT,cT,eT⟩:=Kd.V_slice hVT
  have p0:=HP.cell i 0 hi (by omega)
  have p1:=HP.cell i 1 hi (by omega)
  have p2:=HP.cell i 2 hi (by omega)
  have p3:=HP.cell i 3 hi (by omega)
  have p4:=HP.cell i 4 hi (by omega)
  simp only [Yr,if_true,Nat.add_zero] at p0
  rw [HR.v_] at p0
  simp only [Yr,eT] at p1
  simp only [Yr] at p2 p3 p4
  simp at p1 p2 p3 p4
  obtain ⟨r,hrr⟩:=Int.eq_ofNat_of_zero_le hr.1
  rw [hm] at p2
  rw [hrr] at p4
  have HMM:=Xa.mk hm
  have HRR:=Xa.mk hrr
  have r3:(r:Int)<2:=by omega
  have r4:decide (r<2)=true:=decide_eq_true (by omega)
  have hw1:IntKind.i64.wrap ((i:Int)+1)=(i:Int)+1:=by rw [IntKind.wrap_i64];omega
  clear hm hrr hr
  go_upto_region 2 with (fail)
  have hba:=Xj (Below.refl W1.heap.size W1) (.cells #[.slice (some ⟨Rg,0,none⟩) 3 cr,.slice AT (s.proc i).todo.length cT,.int .i64 2,.int .i64 (s.proc i).on,.int .i64 (r:Int)] 67)
  have hbx:=Yz W1 (.cells #[.slice (some ⟨Rg,0,none⟩) 3 cr,.slice AT (s.proc i).todo.length cT,.int .i64 2,.int .i64 (s.proc i).on,.int .i64 (r:Int)] 67)
  have R2:=R.below hba
  clear c0 c1 c2 c3 c4 HP p0 p1 p2 p3 p4 R HR hVT hba
  generalize W1.alloc (.cells #[.slice (some ⟨Rg,0,none⟩) 3 cr,.slice AT (s.proc i).todo.length cT,.int .i64 2,.int .i64 (s.proc i).on,.int .i64 (r:Int)] 67)=W2 at *
  generalize W1.heap.size=xb at *
  have x2:W2.cell? ⟨xb,2,none⟩=some (.int .i64 2):=(Xm hbx 2).trans rfl
  have x4:W2.cell? ⟨xb,4,none⟩=some (.int .i64 (r:Int)):=(Xm hbx 4).trans rfl
  obtain ⟨c0,c1,c2,c3,c4⟩:=HFA.out.cells R2.st.wb
  have HM:=ints_at R2.st.at_.rooms HFA.out.m
  have m_a:=HM.cell r (by omega)
  have m_f:=HM.free_ r
  go_upto_region 4 with (fail)
  have hw:=R2.st.at_.roomSet R2.st.up r ((i:Int)+1) HM
  have R3:=R2.write (t':=b.t) (q':=b.q) hw
  clear c0 c1 c2 c3 c4 hw R2 HM m_a m_f x2 x4 hbx
  generalize W2.setCell ⟨M,r,none⟩ (.int .i64 ((i:Int)+1))=W3 at *
  obtain ⟨c0,c1,c2,c3,c4⟩:=Forms.cells (Forms.mk HFA.out.p HFA.out.c HFA.out.m HFA.out.g HFA.out.d) R3.st.wb
  change _=some (Value.slice (some ⟨P,0,none⟩) s.n q0) at c0
  have HP:=R3.st.at_.Yj (Nat.lt_of_le_of_lt (Nat.zero_le i) hi) HFA.out.p
  have p2:=HP.cell i 2 hi (by omega)
  have bH:=HP.free_ (i * 5+2)
  go_upto_region 5 with (fail)
  have hw:=R3.st.at_.mode R3.st.up (i:=i) hi 0 HP
  have R4:=R3.write (t':=b.t) (q':=b.q) hw
  clear c0 c1 c2 c3 c4 HP hw R3 p2 bH
  generalize W3.setCell ⟨P,i * 5+2,none⟩ (.int .i64 0)=W4 at *
  have e1:(s.proc i).room.toNat=r:=by rw [HRR.out];rfl
  have EST:Xa (step s i=_):=⟨(step_back HMM.out).trans (by rw [e1])⟩
  clear e1
  obtain ⟨d0,d1,d2,d3,d4⟩:=Forms.cells (Forms.mk HFA.out.p HFA.out.c HFA.out.m HFA.out.g HFA.out.d) R4.st.wb
  obtain ⟨z0,z1,z2,z3,z4⟩:=R4.zc
  have f0:=Xb R4.z_ 0
  have f1:=Xb R4.z_ 1
  have f2:=Xb R4.z_ 2
  have f3:=Xb R4.z_ 3
  have f4:=Xb R4.z_ 4
  have HFIN:=Xa.mk (R4.finish (Forms.mk HFA.out.p HFA.out.c HFA.out.m HFA.out.g HFA.out.d))
  go_wp2
  (try simp only [Exit.inBlock,Exit.then])
  refine bodyPost_ret (results_cell_row rfl _ _ z 45 #[.slice (some ⟨P,0,none⟩) s.n q0,.slice (some ⟨C,0,none⟩) 3 q1,.slice (some ⟨M,0,none⟩) 2 q2,.slice (some ⟨S,0,none⟩) 2 q3,.slice Ad s.said.length q4] (0,0) _ rfl HFIN.out.1 Try.underlying45 rfl (by kernel_rfl)) rfl ?_
  rw [EST.out]
  exact HFIN.out.2
theorem doIt_n (s:WS) (i:Nat) (t:T):(Uh s i t).n=s.n:=by
  have h:∀ p q,(s.Yx p q).n=s.n:=fun _ _=>rfl
  unfold Uh doReg doTodo
  dsimp only
  by_cases h1:t.f0=1
  · rw [if_pos h1];rfl
  rw [if_neg h1]
  by_cases h1:t.f0=2
  · rw [if_pos h1];rfl
  rw [if_neg h1]
  by_cases h1:t.f0=3
  · rw [if_pos h1];rfl
  rw [if_neg h1]
  by_cases h1:t.f0=4
  · rw [if_pos h1]
  rw [if_neg h1]
  by_cases h1:t.f0=5
  · rw [if_pos h1]
  rw [if_neg h1]
  by_cases h1:t.f0=6
  · rw [if_pos h1];rfl
  rw [if_neg h1]
  by_cases h1:t.f0=7
  · rw [if_pos h1];split <;> rfl
  rw [if_neg h1]
  by_cases h1:t.f0=8
  · rw [if_pos h1];rfl
  rw [if_neg h1]
  by_cases h1:t.f0=9
  · rw [if_pos h1];rfl
  rw [if_neg h1]
  by_cases h1:t.f0=10
  · rw [if_pos h1];split <;> rfl
  rw [if_neg h1]
  by_cases h1:t.f0=12
  · rw [if_pos h1];rfl
  rw [if_neg h1]
section
variable (s:WS) (i:Nat) (ta tb tn:Int) (l4 l5:List T) (l:List T)
theorem doIt_k1:Uh s i ⟨1,ta,tb,tn,l4,l5⟩=doReg s i ta tn:=by simp [Uh]
theorem doIt_k2:Uh s i ⟨2,ta,tb,tn,l4,l5⟩=doReg s i ta (num tn ((s.proc i).regs ta.toNat) ((s.proc i).regs tb.toNat)):=by simp [Uh]
theorem doIt_k3:Uh s i ⟨3,ta,tb,tn,l4,l5⟩=doReg s i ta (s.cell tb.toNat):=by simp [Uh]
theorem doIt_k4:Uh s i ⟨4,ta,tb,tn,l4,l5⟩ = { s with cell:=up s.cell ta.toNat ((s.proc i).regs tb.toNat) }:=by simp [Uh]
theorem doIt_k5:Uh s i ⟨5,ta,tb,tn,l4,l5⟩ = { s with said:=s.said ++ [((i:Int),(s.proc i).regs ta.toNat)] }:=by simp [Uh]
theorem doIt_k11:Uh s i ⟨11,ta,tb,tn,l4,l5⟩=s:=by simp [Uh]
theorem doIt_goes6:Uh (s.Yx i { s.proc i with todo:=l }) i ⟨6,ta,tb,tn,l4,l5⟩=s.Yx i { s.proc i with todo:=goesL s i ⟨6,ta,tb,tn,l4,l5⟩ ++ l }:=by
  have e:∀ m:List T,doTodo (s.Yx i { s.proc i with todo:=l }) i m=s.Yx i { s.proc i with todo:=m ++ l }:=fun m=>by unfold doTodo;rw [Yv,setP_setP]
  have h:Uh (s.Yx i { s.proc i with todo:=l }) i ⟨6,ta,tb,tn,l4,l5⟩=doTodo (s.Yx i { s.proc i with todo:=l }) i (if ((s.Yx i { s.proc i with todo:=l }).proc i).regs ta.toNat≠0 then l4 else l5):=by simp [Uh]
  rw [h,e,Yv]
  rfl
theorem doIt_goes7:Uh (s.Yx i { s.proc i with todo:=l }) i ⟨7,ta,tb,tn,l4,l5⟩=s.Yx i { s.proc i with todo:=goesL s i ⟨7,ta,tb,tn,l4,l5⟩ ++ l }:=by
  have e:∀ m:List T,doTodo (s.Yx i { s.proc i with todo:=l }) i m=s.Yx i { s.proc i with todo:=m ++ l }:=fun m=>by unfold doTodo;rw [Yv,setP_setP]
  have h:Uh (s.Yx i { s.proc i with todo:=l }) i ⟨7,ta,tb,tn,l4,l5⟩=if ((s.Yx i { s.proc i with todo:=l }).proc i).regs ta.toNat≠0 then doTodo (s.Yx i { s.proc i with todo:=l }) i (l4 ++ [⟨7,ta,tb,tn,l4,l5⟩]) else s.Yx i { s.proc i with todo:=l }:=by simp [Uh]
  rw [h,e,Yv]
  unfold goesL
  by_cases hx:(s.proc i).regs ta.toNat=0
  · rw [if_neg (by simp [hx]),if_neg (by simp [hx])];rfl
  · rw [if_pos (by simp [hx]),if_pos (by simp [hx])];rfl
end
theorem N_empty {W:World} {n base:Nat} {ok:Nat→Prop} (h:W.heap[n]?=some (.cells #[] 69 (0,0))) (hb:base≤n) (hok:ok n):Kd.N KT 69 W base ok (.slice (some ⟨n,0,none⟩) 0 0) ([]:List T):=
  Kd.R_N ⟨fun k hk=>by injection hk with hk;exact hk ▸ hok,[],⟨rfl,.inr ⟨n,0,#[],rfl,hb,h,Nat.le_refl _,by decide,rfl,rfl⟩⟩,Zw.none _ _⟩
theorem rstep_on (W:World) (base:Nat) (ok:Nat→Prop) (b:BK) (s:WS) (i:Nat) (t:T) (rest:List T) (h:At W base ok b s) (hup:∀ k,W.heap.size≤k→ok k) (hi:i<s.n) (hm:(s.proc i).mode≠2) (hm1:(s.proc i).mode≠1) (ht:(s.proc i).todo=t :: rest) (hl4:t.f4.length≤100) (hl5:t.f5.length≤100) (hlr:rest.length≤400000) (hok:DoOk (s.Yx i { s.proc i with todo:=rest }) i t) :
    Calls Try.prog 22 #[RV b,.int .i64 (i:Int)] W (RL W base ok (step s i)):=by
  have EST:Xa (step s i=_):=⟨step_on hm ht⟩
  obtain ⟨tk,ta,tb,tn,l4,l5⟩:=t
  have HOK:=Xa.mk hok
  have aY:=Xa.mk hl4
  have bB:=Xa.mk hl5
  have HLR:=Xa.mk hlr
  clear hok hl4 hl5 hlr
  obtain ⟨P,C,M,S,Ad,q0,q1,q2,q3,q4,HF⟩:=h.forms (by omega)
  have R:=RS.start2 h hup
  rw [HF.rb] at R
  rw [HF.rv]
  have HFA:=Xa.mk HF
  clear h hup HF
  go_enter Try.func22,Try.ntmps22
  go_upto_region 1 with (fail)
  generalize (W.alloc (.cells #[.slice (some ⟨P,0,none⟩) s.n q0,.slice (some ⟨C,0,none⟩) 3 q1,.slice (some ⟨M,0,none⟩) 2 q2,.slice (some ⟨S,0,none⟩) 2 q3,.slice Ad s.said.length q4] 45)).alloc ZB=W1 at *
  generalize hgz:W.heap.size+1=z at *
  generalize hg:W.heap.size=g at *
  obtain ⟨c0,c1,c2,c3,c4⟩:=HFA.out.cells R.st.wb
  have HP:=R.st.at_.Yj (by omega) HFA.out.p
  have i0:(0:Int)≤(i:Int):=by omega
  have i1:(i:Int)<(s.n:Int):=by omega
  have i2:decide (i<s.n)=true:=decide_eq_true hi
  obtain ⟨Rg,cr,HR⟩:=R.st.at_.regs hi
  have hVT:=R.st.at_.tree i hi
  rw [ht] at hVT
  obtain ⟨AT,cT,eT⟩:=Kd.V_slice hVT
  rw [eT] at hVT
  rw [List.length_cons] at eT
  obtain ⟨ad,A4,aG,A5,aH,eA,a0,a1,a2,a3,a4,a5,hv4,hv5⟩:=V_first hVT
  subst eA
  dsimp only at a0 a1 a2 a3 a4 a5 hv4 hv5
  have hcap:=(Kd.V_at hVT).2.1
  rw [List.length_cons] at hcap
  have hVt:=V_tail hVT
  have p0:=HP.cell i 0 hi (by omega)
  have p1:=HP.cell i 1 hi (by omega)
  have p2:=HP.cell i 2 hi (by omega)
  have p3:=HP.cell i 3 hi (by omega)
  have p4:=HP.cell i 4 hi (by omega)
  simp only [Yr,if_true,Nat.add_zero] at p0
  rw [HR.v_] at p0
  simp only [Yr,eT] at p1
  simp only [Yr] at p2 p3 p4
  simp at p1 p2 p3 p4
  have ad0:ad.add 0=ad:=by simp [Addr.add]
  rw [ad0] at a0 a1 a2 a3 a4 a5
  have qm2:((s.proc i).mode == 2)=false:=by simpa using hm
  have qm3:decide ((s.proc i).mode=2)=false:=decide_eq_false hm
  have HMM:Xa ((s.proc i).mode≠2):=⟨hm⟩
  have HTT:=Xa.mk ht
  clear hm hm1 ad0 ht
  go_upto_region 2 with (fail)
  have hba:=Xj (Below.refl W1.heap.size W1) (.cells #[.slice (some ⟨Rg,0,none⟩) 3 cr,.slice (some ad) (rest.length+1) cT,.int .i64 (s.proc i).mode,.int .i64 (s.proc i).on,.int .i64 (s.proc i).room] 67)
  have hbx:=Yz W1 (.cells #[.slice (some ⟨Rg,0,none⟩) 3 cr,.slice (some ad) (rest.length+1) cT,.int .i64 (s.proc i).mode,.int .i64 (s.proc i).on,.int .i64 (s.proc i).room] 67)
  have R2:=R.below hba
  have aV:=Kd.V_below hv4 hba
  have aW:=Kd.V_below hv5 hba
  have aT:=Kd.V_below hVt hba
  have a0':=Xc hba a0
  have a1':=Xc hba a1
  have bD:=Xc hba a2
  have a3':=Xc hba a3
  have a4':=Xc hba a4
  have bE:=Xc hba a5
  have HXS:Xa (z<W1.heap.size):=⟨(R.gt z (.inr rfl)).2⟩
  have HPX:Xa (P<W1.heap.size):=⟨HP.lt⟩
  clear c0 c1 c2 c3 c4 HP p0 p1 p2 p3 p4 R HR hVT hba hv4 hv5 hVt a0 a1 a2 a3 a4 a5
  generalize W1.alloc (.cells #[.slice (some ⟨Rg,0,none⟩) 3 cr,.slice (some ad) (rest.length+1) cT,.int .i64 (s.proc i).mode,.int .i64 (s.proc i).on,.int .i64 (s.proc i).room] 67)=W2 at *
  generalize W1.heap.size=xb at *
  have x1:W2.cell? ⟨xb,1,none⟩=some (.slice (some ad) (rest.length+1) cT):=(Xm hbx 1).trans rfl
  have x2:W2.cell? ⟨xb,2,none⟩=some (.int .i64 (s.proc i).mode):=(Xm hbx 2).trans rfl
  have n1:(0:Int)<((rest.length+1:Nat):Int):=by omega
  have n2:(0:Int)<((rest.length:Int)+1):=by omega
  go_upto_region 7 with (fail)
  have hba:=Xj (Below.refl W2.heap.size W2) (.cells #[.int .i64 tk,.int .i64 ta,.int .i64 tb,.int .i64 tn,.slice A4 l4.length aG,.slice A5 l5.length aH] 69)
  have hby:=Yz W2 (.cells #[.int .i64 tk,.int .i64 ta,.int .i64 tb,.int .i64 tn,.slice A4 l4.length aG,.slice A5 l5.length aH] 69)
  have R3:=R2.below hba
  have HXT:Xa (xb<W2.heap.size):=⟨Yu hbx⟩
  have hv4:=Kd.V_below aV hba
  have hv5:=Kd.V_below aW hba
  have hVt:=Kd.V_below aT hba
  have aU:=Xt hbx hba
  clear x1 x2 hba hbx a0' a1' bD a3' a4' bE aV aW aT R2
  generalize W2.alloc (.cells #[.int .i64 tk,.int .i64 ta,.int .i64 tb,.int .i64 tn,.slice A4 l4.length aG,.slice A5 l5.length aH] 69)=W3 at *
  generalize W2.heap.size=aP at *
  have x1:W3.cell? ⟨xb,1,none⟩=some (.slice (some ad) (rest.length+1) cT):=(Xm aU 1).trans rfl
  have bI:∀ o,(W3.alloc o).cell? ⟨xb,1,none⟩=some (.slice (some ad) (rest.length+1) cT):=fun o=>Xc (Xj (Below.refl _ _) o) x1
  obtain ⟨i0',hi0,hx2,hsz,hx3⟩:=info_parts info69
  have hcut:=cut_from (P:=Try.prog) 50 69 .i64 Try.underlying50 hi0 6 hsz (some ad) (rest.length+1) cT 1 (by omega) (by omega)
  have e1:(1:Int).toNat=1:=rfl
  have hl1:rest.length+1 - 1=rest.length:=rfl
  obtain ⟨A1,hA1⟩:∃ A1,A1=(if cT=1 then some ad else Option.map (·.add (1 * 6)) (some ad)):=⟨_,rfl⟩
  obtain ⟨c1',hc1⟩:∃ c1,c1=cT - 1:=⟨_,rfl⟩
  rw [e1,hl1,← hA1,← hc1] at hcut
  rw [← hA1,← hc1] at hVt
  clear e1 hl1 hA1 hc1 hx2 hx3 hsz hi0 hcap
  have hbe:=Xj (Below.refl W3.heap.size W3) (.cells #[] 69)
  have HNE:Xa (Kd.N KT 69 (W3.alloc (.cells #[] 69)) W3.heap.size (fun k=>((ok k∧¬ (k=g∨k=z))∧free (lay b s) k∧k<W3.heap.size)∨W3.heap.size≤k) (.slice (some ⟨W3.heap.size,0,none⟩) 0 0) ([]:List T)):=⟨N_empty (Yz W3 _) (Nat.le_refl _) (.inr (Nat.le_refl _))⟩
  have HFR:Xa (Kd.F KT (W3.alloc (.cells #[] 69)) (fun k=>(ok k∧¬ (k=g∨k=z))∧free (lay b s) k∧k<W3.heap.size) A1 rest.length rest):=⟨(Kd.V_at (Kd.Um (Kd.V_below (Kd.V_bound hVt) hbe) (ok':=fun k=>(ok k∧¬ (k=g∨k=z))∧free (lay b s) k∧k<W3.heap.size) (fun k hk=>⟨hk.1.1,hk.1.2,hk.2⟩))).2.2⟩
  have HR3:=Xa.mk R3
  have aR:=Xa.mk hv4
  have aS:=Xa.mk hv5
  have HBY:=Xa.mk hby
  have HBE:=Xa.mk hbe
  clear hbe R3 hv4 hv5 hVt hby aU
  go_upto_region 8 with (first|(at_builtin;refine Kd.N_append_rows KT (w0:=W3.alloc (.cells #[] 69)) W3.heap.size rfl (.tmp 33) (.tmp 36) 50 69 ZT 80 rfl Try.underlying50 info69 rfl (by decide) (by decide) (.slice (some ⟨W3.heap.size,0,none⟩) 0 0) [] rest A1 rest.length c1' (fun k=>((ok k∧¬ (k=g∨k=z))∧free (lay b s) k∧k<W3.heap.size)∨W3.heap.size≤k) (fun k=>(ok k∧¬ (k=g∨k=z))∧free (lay b s) k∧k<W3.heap.size) rfl rfl HNE.out HFR.out (fun k hk=>⟨.inl hk,fun e=>by injection e with e;have e1:k=W3.heap.size:=e;have:=hk.2.2;omega⟩) (fun k hk=>.inr (Nat.le_trans HBE.out.size hk)) ⟨rfl,rfl,rfl,Nat.le_refl _,fun _ _=>rfl⟩ HBE.out.size (by have:=HLR.out;simp only [List.length_nil];omega) ?_;intro v7 w7 aX bC bG bA;rw [List.nil_append] at aX;obtain ⟨Ar,cR,bF⟩:=Kd.N_slice aX;subst bF))
  have aK:Below W3.heap.size W3 w7:=HBE.out.trans bC
  have R7:=HR3.out.below aK
  have aB:=Xa.mk R7
  have aZ:Xa (Kd.V KT 69 w7 0 (fun k=>(ok k∧¬ (k=g∨k=z))∧free (lay b s) k) (.slice A4 l4.length aG) l4):=⟨Ub aR.out aK⟩
  have HV5:Xa (Kd.V KT 69 w7 0 (fun k=>(ok k∧¬ (k=g∨k=z))∧free (lay b s) k) (.slice A5 l5.length aH) l5):=⟨Ub aS.out aK⟩
  have HVR:Xa (Kd.V KT 69 w7 0 (fun k=>(ok k∧¬ (k=g∨k=z))∧free (lay b s) k) (.slice Ar rest.length cR) rest):=⟨Kd.Um (Kd.N_V (base':=0) aX) (fun k hk=>hk.elim (fun hk=>⟨hk.1,hk.2.1⟩) (fun hk=>HR3.out.new hk))⟩
  have aO:=(aK.block aP (Yu HBY.out)).trans HBY.out
  have aQ:=Xa.mk aO
  obtain ⟨b0,b1,b2,b3,b4,b5⟩:=box6 aO
  obtain ⟨c0,c1,c2,c3,c4⟩:=HFA.out.cells R7.st.wb
  clear x1 bI hcut aX bC bG bA aK aO R7 n1 n2 HNE HFR HR3 aR aS HBY HBE
  have hh:=HOK.out.head
  unfold Head at hh
  dsimp only at hh
  rw [Yv] at hh
  dsimp only at hh
  rcases hh with (⟨rfl,h1,h2,h3⟩|⟨rfl,h1,h2,h3,h4,h5⟩|⟨rfl|rfl,h1,h2,h3,h4,h5⟩|⟨rfl,h1,h2,h3⟩|⟨rfl,h1,h2,h3,h4⟩|⟨rfl,h1,h2,h3,h4⟩|⟨rfl,h1,h2,h3,h4⟩|⟨rfl,h1,h2,h3⟩|⟨rfl,h1,h2,h3⟩|⟨rfl,h1,h2,h3⟩)|⟨rfl,h1,h2⟩
  · clear h3
    have HP:=aB.out.st.at_.Yj (by omega) HFA.out.p
    have p1:=HP.cell i 1 hi (by omega)
    simp only [Yr] at p1
    simp at p1
    have aF:=eT
    rw [aF] at p1
    have aL:=HP.free_ (i * 5+1)
    go_upto_region 18 with (fail)
    have hw:=aB.out.st.at_.todo aB.out.st.up hi (.slice Ar rest.length cR) rest HP HVR.out
    have R8:=aB.out.write (t':=up b.t i (.slice Ar rest.length cR)) (q':=b.q) hw
    have aD:=Zf (p:=⟨P,i * 5+1,none⟩) aQ.out (show aP≠P from fun e=>by have:=HPX.out;have:=HXT.out;omega) (.slice Ar rest.length cR)
    clear c0 c1 c2 c3 c4 HP p1 aL hw b0 b1 b2 b3 b4 b5 aF
    generalize w7.setCell ⟨P,i * 5+1,none⟩ (.slice Ar rest.length cR)=W8 at *
    have HFB:Forms { b with t:=up b.t i (.slice Ar rest.length cR),q:=b.q } (s.Yx i { s.proc i with todo:=rest }) P C M S Ad q0 q1 q2 q3 q4:=⟨HFA.out.p,HFA.out.c,HFA.out.m,HFA.out.g,HFA.out.d⟩
    obtain ⟨c0,c1,c2,c3,c4⟩:=HFB.cells R8.st.wb
    obtain ⟨b0,b1,b2,b3,b4,b5⟩:=box6 aD
    have aJ:=Xa.mk R8
    have hct:=leaf_num W8 base (fun k=>ok k∧¬ (k=g∨k=z)) { b with t:=up b.t i (.slice Ar rest.length cR),q:=b.q } (s.Yx i { s.proc i with todo:=rest }) i ta tb tn A4 l4.length aG A5 l5.length aH R8.st.at_ R8.st.up hi ⟨h1,h2⟩
    rw [HFB.rv] at hct
    have HCT:=Lib.hid hct
    have HNN:Xa (0<(Uh (s.Yx i { s.proc i with todo:=rest }) i (⟨1,ta,tb,tn,l4,l5⟩:T)).n):=⟨by rw [doIt_n];show 0<s.n;omega⟩
    clear hct R8 aD HFB
    rw [doIt_k1] at HNN
    go_wp2_with (first|(go_at_call 38;refine (HCT.out).mono ?_;rintro e w9 ⟨b',rfl,hA',aC⟩;obtain ⟨P',C',M',S',aI,aM,q1',q2',q3',aN,aA⟩:=hA'.forms HNN.out;rw [aA.rv];have HPUT:=Xa.mk (RS.put aJ.out hA' aC aA);have HCA:=Xa.mk HPUT.out.1;clear hA' aC aA;obtain ⟨z0,z1,z2,z3,z4⟩:=ZB.cells HCA.out;have f0:=Xb HCA.out 0;have f1:=Xb HCA.out 1;have f2:=Xb HCA.out 2;have f3:=Xb HCA.out 3;have f4:=Xb HCA.out 4))
    (try simp only [Exit.inBlock,Exit.then])
    refine bodyPost_ret (results_cell_row rfl _ _ z 45 _ (0,0) _ rfl HPUT.out.2.1 Try.underlying45 rfl (by kernel_rfl)) rfl ?_
    rw [EST.out,doIt_k1]
    exact HPUT.out.2.2
  · clear h5
    have HP:=aB.out.st.at_.Yj (by omega) HFA.out.p
    have p1:=HP.cell i 1 hi (by omega)
    simp only [Yr] at p1
    simp at p1
    have aF:=eT
    rw [aF] at p1
    have aL:=HP.free_ (i * 5+1)
    go_upto_region 18 with (fail)
    have hw:=aB.out.st.at_.todo aB.out.st.up hi (.slice Ar rest.length cR) rest HP HVR.out
    have R8:=aB.out.write (t':=up b.t i (.slice Ar rest.length cR)) (q':=b.q) hw
    have aD:=Zf (p:=⟨P,i * 5+1,none⟩) aQ.out (show aP≠P from fun e=>by have:=HPX.out;have:=HXT.out;omega) (.slice Ar rest.length cR)
    clear c0 c1 c2 c3 c4 HP p1 aL hw b0 b1 b2 b3 b4 b5 aF
    generalize w7.setCell ⟨P,i * 5+1,none⟩ (.slice Ar rest.length cR)=W8 at *
    have HFB:Forms { b with t:=up b.t i (.slice Ar rest.length cR),q:=b.q } (s.Yx i { s.proc i with todo:=rest }) P C M S Ad q0 q1 q2 q3 q4:=⟨HFA.out.p,HFA.out.c,HFA.out.m,HFA.out.g,HFA.out.d⟩
    obtain ⟨c0,c1,c2,c3,c4⟩:=HFB.cells R8.st.wb
    obtain ⟨b0,b1,b2,b3,b4,b5⟩:=box6 aD
    have aJ:=Xa.mk R8
    have hct:=leaf_op W8 base (fun k=>ok k∧¬ (k=g∨k=z)) { b with t:=up b.t i (.slice Ar rest.length cR),q:=b.q } (s.Yx i { s.proc i with todo:=rest }) i ta tb tn A4 l4.length aG A5 l5.length aH R8.st.at_ R8.st.up hi ⟨h1,h2⟩ ⟨h3,h4⟩
    rw [HFB.rv] at hct
    have HCT:=Lib.hid hct
    have HNN:Xa (0<(Uh (s.Yx i { s.proc i with todo:=rest }) i (⟨2,ta,tb,tn,l4,l5⟩:T)).n):=⟨by rw [doIt_n];show 0<s.n;omega⟩
    clear hct R8 aD HFB
    rw [doIt_k2] at HNN
    go_wp2_with (first|(go_at_call 38;refine (HCT.out).mono ?_;rintro e w9 ⟨b',rfl,hA',aC⟩;obtain ⟨P',C',M',S',aI,aM,q1',q2',q3',aN,aA⟩:=hA'.forms HNN.out;rw [aA.rv];have HPUT:=Xa.mk (RS.put aJ.out hA' aC aA);have HCA:=Xa.mk HPUT.out.1;clear hA' aC aA;obtain ⟨z0,z1,z2,z3,z4⟩:=ZB.cells HCA.out;have f0:=Xb HCA.out 0;have f1:=Xb HCA.out 1;have f2:=Xb HCA.out 2;have f3:=Xb HCA.out 3;have f4:=Xb HCA.out 4))
    (try simp only [Exit.inBlock,Exit.then])
    refine bodyPost_ret (results_cell_row rfl _ _ z 45 _ (0,0) _ rfl HPUT.out.2.1 Try.underlying45 rfl (by kernel_rfl)) rfl ?_
    rw [EST.out,doIt_k2]
    exact HPUT.out.2.2
  · clear h5
    have HP:=aB.out.st.at_.Yj (by omega) HFA.out.p
    have p1:=HP.cell i 1 hi (by omega)
    simp only [Yr] at p1
    simp at p1
    have aF:=eT
    rw [aF] at p1
    have aL:=HP.free_ (i * 5+1)
    go_upto_region 18 with (fail)
    have hw:=aB.out.st.at_.todo aB.out.st.up hi (.slice Ar rest.length cR) rest HP HVR.out
    have R8:=aB.out.write (t':=up b.t i (.slice Ar rest.length cR)) (q':=b.q) hw
    have aD:=Zf (p:=⟨P,i * 5+1,none⟩) aQ.out (show aP≠P from fun e=>by have:=HPX.out;have:=HXT.out;omega) (.slice Ar rest.length cR)
    clear c0 c1 c2 c3 c4 HP p1 aL hw b0 b1 b2 b3 b4 b5 aF
    generalize w7.setCell ⟨P,i * 5+1,none⟩ (.slice Ar rest.length cR)=W8 at *
    have HFB:Forms { b with t:=up b.t i (.slice Ar rest.length cR),q:=b.q } (s.Yx i { s.proc i with todo:=rest }) P C M S Ad q0 q1 q2 q3 q4:=⟨HFA.out.p,HFA.out.c,HFA.out.m,HFA.out.g,HFA.out.d⟩
    obtain ⟨c0,c1,c2,c3,c4⟩:=HFB.cells R8.st.wb
    obtain ⟨b0,b1,b2,b3,b4,b5⟩:=box6 aD
    have aJ:=Xa.mk R8
    have hct:=leaf_load W8 base (fun k=>ok k∧¬ (k=g∨k=z)) { b with t:=up b.t i (.slice Ar rest.length cR),q:=b.q } (s.Yx i { s.proc i with todo:=rest }) i ta tb tn A4 l4.length aG A5 l5.length aH R8.st.at_ R8.st.up hi ⟨h1,h2⟩ ⟨h3,h4⟩
    rw [HFB.rv] at hct
    have HCT:=Lib.hid hct
    have HNN:Xa (0<(Uh (s.Yx i { s.proc i with todo:=rest }) i (⟨3,ta,tb,tn,l4,l5⟩:T)).n):=⟨by rw [doIt_n];show 0<s.n;omega⟩
    clear hct R8 aD HFB
    rw [doIt_k3] at HNN
    go_wp2_with (first|(go_at_call 38;refine (HCT.out).mono ?_;rintro e w9 ⟨b',rfl,hA',aC⟩;obtain ⟨P',C',M',S',aI,aM,q1',q2',q3',aN,aA⟩:=hA'.forms HNN.out;rw [aA.rv];have HPUT:=Xa.mk (RS.put aJ.out hA' aC aA);have HCA:=Xa.mk HPUT.out.1;clear hA' aC aA;obtain ⟨z0,z1,z2,z3,z4⟩:=ZB.cells HCA.out;have f0:=Xb HCA.out 0;have f1:=Xb HCA.out 1;have f2:=Xb HCA.out 2;have f3:=Xb HCA.out 3;have f4:=Xb HCA.out 4))
    (try simp only [Exit.inBlock,Exit.then])
    refine bodyPost_ret (results_cell_row rfl _ _ z 45 _ (0,0) _ rfl HPUT.out.2.1 Try.underlying45 rfl (by kernel_rfl)) rfl ?_
    rw [EST.out,doIt_k3]
    exact HPUT.out.2.2
  · clear h5
    have HP:=aB.out.st.at_.Yj (by omega) HFA.out.p
    have p1:=HP.cell i 1 hi (by omega)
    simp only [Yr] at p1
    simp at p1
    have aF:=eT
    rw [aF] at p1
    have aL:=HP.free_ (i * 5+1)
    go_upto_region 18 with (fail)
    have hw:=aB.out.st.at_.todo aB.out.st.up hi (.slice Ar rest.length cR) rest HP HVR.out
    have R8:=aB.out.write (t':=up b.t i (.slice Ar rest.length cR)) (q':=b.q) hw
    have aD:=Zf (p:=⟨P,i * 5+1,none⟩) aQ.out (show aP≠P from fun e=>by have:=HPX.out;have:=HXT.out;omega) (.slice Ar rest.length cR)
    clear c0 c1 c2 c3 c4 HP p1 aL hw b0 b1 b2 b3 b4 b5 aF
    generalize w7.setCell ⟨P,i * 5+1,none⟩ (.slice Ar rest.length cR)=W8 at *
    have HFB:Forms { b with t:=up b.t i (.slice Ar rest.length cR),q:=b.q } (s.Yx i { s.proc i with todo:=rest }) P C M S Ad q0 q1 q2 q3 q4:=⟨HFA.out.p,HFA.out.c,HFA.out.m,HFA.out.g,HFA.out.d⟩
    obtain ⟨c0,c1,c2,c3,c4⟩:=HFB.cells R8.st.wb
    obtain ⟨b0,b1,b2,b3,b4,b5⟩:=box6 aD
    have aJ:=Xa.mk R8
    have hct:=leaf_store W8 base (fun k=>ok k∧¬ (k=g∨k=z)) { b with t:=up b.t i (.slice Ar rest.length cR),q:=b.q } (s.Yx i { s.proc i with todo:=rest }) i ta tb tn A4 l4.length aG A5 l5.length aH R8.st.at_ R8.st.up hi ⟨h1,h2⟩ ⟨h3,h4⟩
    rw [HFB.rv] at hct
    have HCT:=Lib.hid hct
    have HNN:Xa (0<(Uh (s.Yx i { s.proc i with todo:=rest }) i (⟨4,ta,tb,tn,l4,l5⟩:T)).n):=⟨by rw [doIt_n];show 0<s.n;omega⟩
    clear hct R8 aD HFB
    rw [doIt_k4] at HNN
    go_wp2_with (first|(go_at_call 38;refine (HCT.out).mono ?_;rintro e w9 ⟨b',rfl,hA',aC⟩;obtain ⟨P',C',M',S',aI,aM,q1',q2',q3',aN,aA⟩:=hA'.forms HNN.out;rw [aA.rv];have HPUT:=Xa.mk (RS.put aJ.out hA' aC aA);have HCA:=Xa.mk HPUT.out.1;clear hA' aC aA;obtain ⟨z0,z1,z2,z3,z4⟩:=ZB.cells HCA.out;have f0:=Xb HCA.out 0;have f1:=Xb HCA.out 1;have f2:=Xb HCA.out 2;have f3:=Xb HCA.out 3;have f4:=Xb HCA.out 4))
    (try simp only [Exit.inBlock,Exit.then])
    refine bodyPost_ret (results_cell_row rfl _ _ z 45 _ (0,0) _ rfl HPUT.out.2.1 Try.underlying45 rfl (by kernel_rfl)) rfl ?_
    rw [EST.out,doIt_k4]
    exact HPUT.out.2.2
  · clear h3
    have HP:=aB.out.st.at_.Yj (by omega) HFA.out.p
    have p1:=HP.cell i 1 hi (by omega)
    simp only [Yr] at p1
    simp at p1
    have aF:=eT
    rw [aF] at p1
    have aL:=HP.free_ (i * 5+1)
    go_upto_region 18 with (fail)
    have hw:=aB.out.st.at_.todo aB.out.st.up hi (.slice Ar rest.length cR) rest HP HVR.out
    have R8:=aB.out.write (t':=up b.t i (.slice Ar rest.length cR)) (q':=b.q) hw
    have aD:=Zf (p:=⟨P,i * 5+1,none⟩) aQ.out (show aP≠P from fun e=>by have:=HPX.out;have:=HXT.out;omega) (.slice Ar rest.length cR)
    clear c0 c1 c2 c3 c4 HP p1 aL hw b0 b1 b2 b3 b4 b5 aF
    generalize w7.setCell ⟨P,i * 5+1,none⟩ (.slice Ar rest.length cR)=W8 at *
    have HFB:Forms { b with t:=up b.t i (.slice Ar rest.length cR),q:=b.q } (s.Yx i { s.proc i with todo:=rest }) P C M S Ad q0 q1 q2 q3 q4:=⟨HFA.out.p,HFA.out.c,HFA.out.m,HFA.out.g,HFA.out.d⟩
    obtain ⟨c0,c1,c2,c3,c4⟩:=HFB.cells R8.st.wb
    obtain ⟨b0,b1,b2,b3,b4,b5⟩:=box6 aD
    have aJ:=Xa.mk R8
    have hct:=leaf_say W8 base (fun k=>ok k∧¬ (k=g∨k=z)) { b with t:=up b.t i (.slice Ar rest.length cR),q:=b.q } (s.Yx i { s.proc i with todo:=rest }) i ta tb tn A4 l4.length aG A5 l5.length aH R8.st.at_ R8.st.up hi ⟨h1,h2⟩ HOK.out.said
    rw [HFB.rv] at hct
    have HCT:=Lib.hid hct
    have HNN:Xa (0<(Uh (s.Yx i { s.proc i with todo:=rest }) i (⟨5,ta,tb,tn,l4,l5⟩:T)).n):=⟨by rw [doIt_n];show 0<s.n;omega⟩
    clear hct R8 aD HFB
    rw [doIt_k5] at HNN
    go_wp2_with (first|(go_at_call 38;refine (HCT.out).mono ?_;rintro e w9 ⟨b',rfl,hA',aC⟩;obtain ⟨P',C',M',S',aI,aM,q1',q2',q3',aN,aA⟩:=hA'.forms HNN.out;rw [aA.rv];have HPUT:=Xa.mk (RS.put aJ.out hA' aC aA);simp only [List.length_append,List.length_singleton] at HPUT;have HCA:=Xa.mk HPUT.out.1;clear hA' aC aA;obtain ⟨z0,z1,z2,z3,z4⟩:=ZB.cells HCA.out;have f0:=Xb HCA.out 0;have f1:=Xb HCA.out 1;have f2:=Xb HCA.out 2;have f3:=Xb HCA.out 3;have f4:=Xb HCA.out 4))
    (try simp only [Exit.inBlock,Exit.then])
    refine bodyPost_ret (results_cell_row rfl _ _ z 45 _ (0,0) _ rfl HPUT.out.2.1 Try.underlying45 rfl (by kernel_rfl)) rfl ?_
    rw [EST.out,doIt_k5]
    exact HPUT.out.2.2
  · clear h3 h4
    have hct:=goes_do w7 base (fun k=>ok k∧¬ (k=g∨k=z)) b s i (⟨6,ta,tb,tn,l4,l5⟩:T) A4 aG A5 aH (fun k=>(ok k∧¬ (k=g∨k=z))∧free (lay b s) k) Ar cR rest aB.out.st.at_ aB.out.st.up hi ⟨aZ.out,HV5.out,aY.out,bB.out⟩ HVR.out (fun _ hk=>hk) (.inl rfl) ⟨h1,h2⟩ HLR.out
    rw [HFA.out.rv] at hct
    dsimp only at hct
    have HCT:=Lib.hid hct
    have HNN:Xa (0<(s.Yx i { s.proc i with todo:=goesL s i (⟨6,ta,tb,tn,l4,l5⟩:T) ++ rest }).n):=⟨by show 0<s.n;omega⟩
    clear hct
    go_wp2_with (first|(go_at_call 36;refine (HCT.out).mono ?_;rintro e w9 ⟨b',rfl,hA',aC⟩;obtain ⟨P',C',M',S',aI,aM,q1',q2',q3',aN,aA⟩:=hA'.forms HNN.out;rw [aA.rv];have HPUT:=Xa.mk (RS.put aB.out hA' aC aA);have HCA:=Xa.mk HPUT.out.1;clear hA' aC aA;obtain ⟨z0,z1,z2,z3,z4⟩:=ZB.cells HCA.out;have f0:=Xb HCA.out 0;have f1:=Xb HCA.out 1;have f2:=Xb HCA.out 2;have f3:=Xb HCA.out 3;have f4:=Xb HCA.out 4))
    (try simp only [Exit.inBlock,Exit.then])
    refine bodyPost_ret (results_cell_row rfl _ _ z 45 _ (0,0) _ rfl HPUT.out.2.1 Try.underlying45 rfl (by kernel_rfl)) rfl ?_
    rw [EST.out,doIt_goes6]
    exact HPUT.out.2.2
  · clear h3 h4
    have hct:=goes_do w7 base (fun k=>ok k∧¬ (k=g∨k=z)) b s i (⟨7,ta,tb,tn,l4,l5⟩:T) A4 aG A5 aH (fun k=>(ok k∧¬ (k=g∨k=z))∧free (lay b s) k) Ar cR rest aB.out.st.at_ aB.out.st.up hi ⟨aZ.out,HV5.out,aY.out,bB.out⟩ HVR.out (fun _ hk=>hk) (.inr rfl) ⟨h1,h2⟩ HLR.out
    rw [HFA.out.rv] at hct
    dsimp only at hct
    have HCT:=Lib.hid hct
    have HNN:Xa (0<(s.Yx i { s.proc i with todo:=goesL s i (⟨7,ta,tb,tn,l4,l5⟩:T) ++ rest }).n):=⟨by show 0<s.n;omega⟩
    clear hct
    go_wp2_with (first|(go_at_call 36;refine (HCT.out).mono ?_;rintro e w9 ⟨b',rfl,hA',aC⟩;obtain ⟨P',C',M',S',aI,aM,q1',q2',q3',aN,aA⟩:=hA'.forms HNN.out;rw [aA.rv];have HPUT:=Xa.mk (RS.put aB.out hA' aC aA);have HCA:=Xa.mk HPUT.out.1;clear hA' aC aA;obtain ⟨z0,z1,z2,z3,z4⟩:=ZB.cells HCA.out;have f0:=Xb HCA.out 0;have f1:=Xb HCA.out 1;have f2:=Xb HCA.out 2;have f3:=Xb HCA.out 3;have f4:=Xb HCA.out 4))
    (try simp only [Exit.inBlock,Exit.then])
    refine bodyPost_ret (results_cell_row rfl _ _ z 45 _ (0,0) _ rfl HPUT.out.2.1 Try.underlying45 rfl (by kernel_rfl)) rfl ?_
    rw [EST.out,doIt_goes7]
    exact HPUT.out.2.2
  · clear h3 h4
    have hct:=room_in w7 base (fun k=>ok k∧¬ (k=g∨k=z)) b s i ta tb tn l4 l5 A4 aG A5 aH (fun k=>(ok k∧¬ (k=g∨k=z))∧free (lay b s) k) Ar cR rest aB.out.st.at_ aB.out.st.up hi HVR.out (fun _ hk=>hk) ⟨h1,h2⟩ HLR.out aZ.out aY.out (by have:=HOK.out.n;show i≤1000;have:s.n≤1000:=this;omega)
    rw [HFA.out.rv] at hct
    dsimp only at hct
    have HCT:=Lib.hid hct
    have HNN:Xa (0<(Uh (s.Yx i { s.proc i with todo:=rest }) i (⟨8,ta,tb,tn,l4,l5⟩:T)).n):=⟨by rw [doIt_n];show 0<s.n;omega⟩
    clear hct
    go_wp2_with (first|(go_at_call 37;refine (HCT.out).mono ?_;rintro e w9 ⟨b',rfl,hA',aC⟩;obtain ⟨P',C',M',S',aI,aM,q1',q2',q3',aN,aA⟩:=hA'.forms HNN.out;rw [aA.rv];have HPUT:=Xa.mk (RS.put aB.out hA' aC aA);have HCA:=Xa.mk HPUT.out.1;clear hA' aC aA;obtain ⟨z0,z1,z2,z3,z4⟩:=ZB.cells HCA.out;have f0:=Xb HCA.out 0;have f1:=Xb HCA.out 1;have f2:=Xb HCA.out 2;have f3:=Xb HCA.out 3;have f4:=Xb HCA.out 4))
    (try simp only [Exit.inBlock,Exit.then])
    refine bodyPost_ret (results_cell_row rfl _ _ z 45 _ (0,0) _ rfl HPUT.out.2.1 Try.underlying45 rfl (by kernel_rfl)) rfl ?_
    rw [EST.out]
    exact HPUT.out.2.2
  · clear h3
    have hct:=room_wait w7 base (fun k=>ok k∧¬ (k=g∨k=z)) b s i ta tb tn l4 l5 A4 aG A5 aH (fun k=>(ok k∧¬ (k=g∨k=z))∧free (lay b s) k) Ar cR rest aB.out.st.at_ aB.out.st.up hi HVR.out (fun _ hk=>hk) ⟨h1,h2⟩ HLR.out (by have:=HOK.out.room rfl;rw [Yv] at this;exact this) (HOK.out.queue ta.toNat (by omega)).1
    rw [HFA.out.rv] at hct
    dsimp only at hct
    have HCT:=Lib.hid hct
    have HNN:Xa (0<(Uh (s.Yx i { s.proc i with todo:=rest }) i (⟨9,ta,tb,tn,l4,l5⟩:T)).n):=⟨by rw [doIt_n];show 0<s.n;omega⟩
    clear hct
    go_wp2_with (first|(go_at_call 37;refine (HCT.out).mono ?_;rintro e w9 ⟨b',rfl,hA',aC⟩;obtain ⟨P',C',M',S',aI,aM,q1',q2',q3',aN,aA⟩:=hA'.forms HNN.out;rw [aA.rv];have HPUT:=Xa.mk (RS.put aB.out hA' aC aA);have HCA:=Xa.mk HPUT.out.1;clear hA' aC aA;obtain ⟨z0,z1,z2,z3,z4⟩:=ZB.cells HCA.out;have f0:=Xb HCA.out 0;have f1:=Xb HCA.out 1;have f2:=Xb HCA.out 2;have f3:=Xb HCA.out 3;have f4:=Xb HCA.out 4))
    (try simp only [Exit.inBlock,Exit.then])
    refine bodyPost_ret (results_cell_row rfl _ _ z 45 _ (0,0) _ rfl HPUT.out.2.1 Try.underlying45 rfl (by kernel_rfl)) rfl ?_
    rw [EST.out]
    exact HPUT.out.2.2
  · clear h3
    have hct:=room_signal w7 base (fun k=>ok k∧¬ (k=g∨k=z)) b s i ta tb tn l4 l5 A4 aG A5 aH (fun k=>(ok k∧¬ (k=g∨k=z))∧free (lay b s) k) Ar cR rest aB.out.st.at_ aB.out.st.up hi HVR.out (fun _ hk=>hk) ⟨h1,h2⟩ HLR.out (HOK.out.queue ta.toNat (by omega)).2 (HOK.out.queue ta.toNat (by omega)).1
    rw [HFA.out.rv] at hct
    dsimp only at hct
    have HCT:=Lib.hid hct
    have HNN:Xa (0<(Uh (s.Yx i { s.proc i with todo:=rest }) i (⟨10,ta,tb,tn,l4,l5⟩:T)).n):=⟨by rw [doIt_n];show 0<s.n;omega⟩
    clear hct
    go_wp2_with (first|(go_at_call 37;refine (HCT.out).mono ?_;rintro e w9 ⟨b',rfl,hA',aC⟩;obtain ⟨P',C',M',S',aI,aM,q1',q2',q3',aN,aA⟩:=hA'.forms HNN.out;rw [aA.rv];have HPUT:=Xa.mk (RS.put aB.out hA' aC aA);have HCA:=Xa.mk HPUT.out.1;clear hA' aC aA;obtain ⟨z0,z1,z2,z3,z4⟩:=ZB.cells HCA.out;have f0:=Xb HCA.out 0;have f1:=Xb HCA.out 1;have f2:=Xb HCA.out 2;have f3:=Xb HCA.out 3;have f4:=Xb HCA.out 4))
    (try simp only [Exit.inBlock,Exit.then])
    refine bodyPost_ret (results_cell_row rfl _ _ z 45 _ (0,0) _ rfl HPUT.out.2.1 Try.underlying45 rfl (by kernel_rfl)) rfl ?_
    rw [EST.out]
    exact HPUT.out.2.2
  · clear h1 h2 h3
    have HP:=aB.out.st.at_.Yj (by omega) HFA.out.p
    have p1:=HP.cell i 1 hi (by omega)
    simp only [Yr] at p1
    simp at p1
    have aF:=eT
    rw [aF] at p1
    have aL:=HP.free_ (i * 5+1)
    go_upto_region 18 with (fail)
    have hw:=aB.out.st.at_.todo aB.out.st.up hi (.slice Ar rest.length cR) rest HP HVR.out
    have R8:=aB.out.write (t':=up b.t i (.slice Ar rest.length cR)) (q':=b.q) hw
    have aD:=Zf (p:=⟨P,i * 5+1,none⟩) aQ.out (show aP≠P from fun e=>by have:=HPX.out;have:=HXT.out;omega) (.slice Ar rest.length cR)
    clear c0 c1 c2 c3 c4 HP p1 aL hw b0 b1 b2 b3 b4 b5 aF
    generalize w7.setCell ⟨P,i * 5+1,none⟩ (.slice Ar rest.length cR)=W8 at *
    have HFB:Forms { b with t:=up b.t i (.slice Ar rest.length cR),q:=b.q } (s.Yx i { s.proc i with todo:=rest }) P C M S Ad q0 q1 q2 q3 q4:=⟨HFA.out.p,HFA.out.c,HFA.out.m,HFA.out.g,HFA.out.d⟩
    obtain ⟨c0,c1,c2,c3,c4⟩:=HFB.cells R8.st.wb
    obtain ⟨b0,b1,b2,b3,b4,b5⟩:=box6 aD
    have aJ:=Xa.mk R8
    have hct:=leaf_none W8 base (fun k=>ok k∧¬ (k=g∨k=z)) { b with t:=up b.t i (.slice Ar rest.length cR),q:=b.q } (s.Yx i { s.proc i with todo:=rest }) i ta tb tn (11) A4 l4.length aG A5 l5.length aH R8.st.at_ R8.st.up hi (by decide)
    rw [HFB.rv] at hct
    have HCT:=Lib.hid hct
    have HNN:Xa (0<(Uh (s.Yx i { s.proc i with todo:=rest }) i (⟨11,ta,tb,tn,l4,l5⟩:T)).n):=⟨by rw [doIt_n];show 0<s.n;omega⟩
    clear hct R8 aD HFB
    rw [doIt_k11] at HNN
    go_wp2_with (first|(go_at_call 38;refine (HCT.out).mono ?_;rintro e w9 ⟨b',rfl,hA',aC⟩;obtain ⟨P',C',M',S',aI,aM,q1',q2',q3',aN,aA⟩:=hA'.forms HNN.out;rw [aA.rv];have HPUT:=Xa.mk (RS.put aJ.out hA' aC aA);have HCA:=Xa.mk HPUT.out.1;clear hA' aC aA;obtain ⟨z0,z1,z2,z3,z4⟩:=ZB.cells HCA.out;have f0:=Xb HCA.out 0;have f1:=Xb HCA.out 1;have f2:=Xb HCA.out 2;have f3:=Xb HCA.out 3;have f4:=Xb HCA.out 4))
    (try simp only [Exit.inBlock,Exit.then])
    refine bodyPost_ret (results_cell_row rfl _ _ z 45 _ (0,0) _ rfl HPUT.out.2.1 Try.underlying45 rfl (by kernel_rfl)) rfl ?_
    rw [EST.out,doIt_k11]
    exact HPUT.out.2.2
  · have hct:=room_leave w7 base (fun k=>ok k∧¬ (k=g∨k=z)) b s i ta tb tn l4 l5 A4 aG A5 aH (fun k=>(ok k∧¬ (k=g∨k=z))∧free (lay b s) k) Ar cR rest aB.out.st.at_ aB.out.st.up hi HVR.out (fun _ hk=>hk) ⟨h1,h2⟩ HLR.out
    rw [HFA.out.rv] at hct
    dsimp only at hct
    have HCT:=Lib.hid hct
    have HNN:Xa (0<(Uh (s.Yx i { s.proc i with todo:=rest }) i (⟨12,ta,tb,tn,l4,l5⟩:T)).n):=⟨by rw [doIt_n];show 0<s.n;omega⟩
    clear hct
    go_wp2_with (first|(go_at_call 37;refine (HCT.out).mono ?_;rintro e w9 ⟨b',rfl,hA',aC⟩;obtain ⟨P',C',M',S',aI,aM,q1',q2',q3',aN,aA⟩:=hA'.forms HNN.out;rw [aA.rv];have HPUT:=Xa.mk (RS.put aB.out hA' aC aA);have HCA:=Xa.mk HPUT.out.1;clear hA' aC aA;obtain ⟨z0,z1,z2,z3,z4⟩:=ZB.cells HCA.out;have f0:=Xb HCA.out 0;have f1:=Xb HCA.out 1;have f2:=Xb HCA.out 2;have f3:=Xb HCA.out 3;have f4:=Xb HCA.out 4))
    (try simp only [Exit.inBlock,Exit.then])
    refine bodyPost_ret (results_cell_row rfl _ _ z 45 _ (0,0) _ rfl HPUT.out.2.1 Try.underlying45 rfl (by kernel_rfl)) rfl ?_
    rw [EST.out]
    exact HPUT.out.2.2
end Go.Proofs.Ytlhogkfmdnpmkaa.Mean
