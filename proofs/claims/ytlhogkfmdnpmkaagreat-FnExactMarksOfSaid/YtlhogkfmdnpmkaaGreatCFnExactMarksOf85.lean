import Derived.Test.YtlhogkfmdnpmkaaGreatCFnExactMarksOf52
set_option linter.unusedSectionVars false
set_option linter.unusedVariables false
set_option linter.unusedSimpArgs false
set_option maxRecDepth 100000
namespace Go.Proofs.YtlhogkfmdnpmkaaGreat.Mean
open RowKit GMarks YtlhogkfmdnpmkaaGreatW.PrintWords YtlhogkfmdnpmkaaGreatW.PrintLast YtlhogkfmdnpmkaaGreatW.PrintMore
variable [Prot]
set_option maxHeartbeats 4000000 in
theorem signal_do (W:World) (base:Nat) (ok:Nat→Prop) (b:BK) (s:WS) (a:Int) (h:At W base ok b s) (hup:∀ k,W.heap.size≤k→ok k) (hn:0<s.n) (ha:0≤a∧a<2) (hq:∀ q ∈ s.sign a.toNat,0≤q∧q<s.n) (hl:(s.sign a.toNat).length≤1000) :
  Calls Tryz.prog 78 #[RV b,.int .i64 a] W (RL W base ok (sigNext s a)):=by
 obtain ⟨a',rfl⟩:=Int.eq_ofNat_of_zero_le ha.1;obtain ⟨P,C,M,S,Ad,q0,q1,q2,q3,q4,HF⟩:=h.forms om_;have R:=RS.start2 h hup;rw [HF.rb] at R;rw [HF.rv];have HFA:=Xa.mk HF;clear h hup HF;go_enter Tryz.func78,Tryz.ntmps78;go_upto_region 1 with (fail);generalize (W.alloc (.cells #[.slice (some ⟨P,0,none⟩) s.n q0,.slice (some ⟨C,0,none⟩) 3 q1,.slice (some ⟨M,0,none⟩) 2 q2,.slice (some ⟨S,0,none⟩) 2 q3,.slice Ad s.said.length q4] 56)).alloc ZB=W1 at *;generalize hgz:W.heap.size+1=z at *;generalize hg:W.heap.size=g at *;obtain ⟨c0,c1,c2,c3,c4⟩:=HFA.out.cells R.st.wb
 have a3:(a':Int)<2:=om_
 have a4:decide (a'<2)=true:=dt_ om_;have e0:((a':Int)).toNat=a':=rfl;rw [e0] at hq hl;obtain ⟨hSl,hSc,hSf⟩:=R.st.at_.signs_at HFA.out.g;have s0:=hSc a' om_;have hQ:=R.st.at_.queue (j:=a') om_
 cases hs:s.sign a' with
 |nil=>
  obtain ⟨A,c,eQ,_⟩:=q_slice hQ;rw [eQ,hs,List.length_nil] at s0;have HSN:Xa (sigNext s ((a':Nat):Int)=s):=⟨sigNext_nil hs⟩;clear c0 c1 c2 c4 hQ hSl hSc hSf;obtain ⟨d0,d1,d2,d3,d4⟩:=Forms.cells HFA.out R.st.wb;obtain ⟨z0,z1,z2,z3,z4⟩:=R.zc;have f0:=Xc R.z_ 0;have f1:=Xc R.z_ 1;have f2:=Xc R.z_ 2;have f3:=Xc R.z_ 3;have f4:=Xc R.z_ 4;have HFIN:=Xa.mk (R.finish HFA.out);go_wp2
  (try simp only [Exit.inBlock,Exit.then])
  refine bodyPost_ret (results_cell_row rfl _ _ z 56 #[.slice (some ⟨P,0,none⟩) s.n q0,.slice (some ⟨C,0,none⟩) 3 q1,.slice (some ⟨M,0,none⟩) 2 q2,.slice (some ⟨S,0,none⟩) 2 q3,.slice Ad s.said.length q4] (0,0) _ rfl HFIN.out.1 Tryz.underlying56 rfl kr_) rfl ?_;rw [HSN.out];exact HFIN.out.2
 |cons q r=>
  obtain ⟨q',hq'⟩:=Int.eq_ofNat_of_zero_le (hq q (by rw [hs];exact List.mem_cons_self)).1;subst hq'
  have hqn:q'<s.n:=by have:=(hq (q':Int) (by rw [hs];exact List.mem_cons_self)).2;omega
  obtain ⟨Q,cq,eQ,hQc,hQcap⟩:=q_form hQ (by rw [hs];exact Nat.succ_pos _);rw [hs,List.length_cons] at eQ;rw [eQ] at s0;have x0:=hQc _ (show (nums IntKind.i64 (s.sign a'))[0]?=some (.int .i64 (q':Int)) by rw [hs];rfl)
  have n0:¬ ((r.length+1:Nat):Int)=0:=om_
  have n1:(0:Int)<((r.length+1:Nat):Int):=om_
  have n2:((r.length:Int)+1 == 0)=false:=by simp;omega
  have n3:¬ ((r.length:Int)+1)=0:=om_
  have n4:(0:Int)<((r.length:Int)+1):=om_
  have hqlen:r.length+1≤1000:=by rw [hs,List.length_cons] at hl;exact hl
  have sf:=hSf a'
  have hcapq:r.length+1≤cq:=by rw [hs,List.length_cons] at hQcap;exact hQcap
  have aA:=hQ;rw [eQ,hs,List.length_cons] at aA;have hQd:=q_drop (k:=1) aA om_;obtain ⟨i0,hi0,hx2,hsz,hx3⟩:=info_parts info3;have hcut:=cut_from (P:=Tryz.prog) 23 3 .i64 Tryz.underlying23 hi0 1 hsz (some Q) (r.length+1) cq 1 om_ om_;have e1:(1:Int).toNat=1:=rfl;have hl1:r.length+1 - 1=r.length:=rfl
  have hob:(Value.slice (if cq=1 then some (Q:Addr) else Option.map (·.add (1 * 1)) (some (Q:Addr))) r.length (cq - 1)).ownBlock=(b.q a').ownBlock:=by rw [eQ];exact cut_block
  obtain ⟨A1,hA1⟩:∃ A1,A1=(if cq=1 then some (Q:Addr) else Option.map (·.add (1 * 1)) (some (Q:Addr))):=⟨_,rfl⟩;obtain ⟨c1',hc1⟩:∃ c1,c1=cq - 1:=⟨_,rfl⟩;rw [e1,hl1,← hA1,← hc1] at hcut;rw [hl1,← hA1,← hc1] at hQd;rw [← hA1,← hc1] at hob;have hQe:QRow W1 base 3 1 (.slice A1 r.length c1') r.length (nums .i64 r):=hQd;have HOB:=Xa.mk hob;have HQE:=Xa.mk hQe;have HQN:=Xa.mk hqn;have HS:=Xa.mk hs;have HN:=Xa.mk hn;clear hx2 hx3 hsz hi0 e1 hl1 hA1 hc1 hQd aA hQ hQc hQcap hob hQe hcapq hSc hSf hl hq ha hs eQ;go_upto_region 4 with (fail)
  go_still_tail 10,kr_
  change wpList _ _ _ _ _ W1.drew;go_upto_region 5 with (fail);have hqu:=R.st.at_.queue2 R.st.up (j:=a') om_ (.slice A1 r.length c1') r ⟨rfl,rfl,rfl,nr_ _,fun _ _ _=>rfl⟩ HQE.out (.inl HOB.out) HFA.out.g;have R2:=(R.write (t':=b.t) (q':=up b.q a' (.slice A1 r.length c1')) hqu).below (Xh (Below.refl _ _));clear c0 c1 c2 c3 c4 hqu R hSl sf s0 x0;generalize (W1.setCell ⟨S,a',none⟩ (.slice A1 r.length c1')).drew=W2 at *;have HFB:Forms { b with t:=b.t,q:=up b.q a' (.slice A1 r.length c1') } { s with sign:=up s.sign a' r } P C M S Ad q0 q1 q2 q3 q4:=⟨HFA.out.p,HFA.out.c,HFA.out.m,HFA.out.g,HFA.out.d⟩;obtain ⟨c0,c1,c2,c3,c4⟩:=HFB.cells R2.st.wb;have HP:=R2.st.at_.Yf HN.out HFB.p;have p2:=HP.cell q' 2 HQN.out om_;have aB:=HP.free_ (q' * 5+2)
  have i0':(0:Int)≤((q':Nat):Int):=om_
  have i1:((q':Nat):Int)<(s.n:Int):=om_
  have i2:decide (q'<s.n)=true:=dt_ HQN.out;clear hqn;go_upto_region 6 with (fail);have hm1:=R2.st.at_.mode R2.st.up (i:=q') HQN.out 2 HP;have R3:=R2.write (t':=b.t) (q':=up b.q a' (.slice A1 r.length c1')) hm1;clear c0 c1 c2 c3 c4 hm1 R2 HP p2 aB;generalize W2.setCell ⟨P,q' * 5+2,none⟩ (.int .i64 2)=W3 at *;obtain ⟨c0,c1,c2,c3,c4⟩:=Forms.cells (Forms.mk HFB.p HFB.c HFB.m HFB.g HFB.d) R3.st.wb;have HP:=R3.st.at_.Yf HN.out HFB.p;have p3:=HP.cell q' 3 HQN.out om_;have aC:=HP.free_ (q' * 5+3);go_upto_region 7 with (fail);have hm2:=R3.st.at_.on R3.st.up (i:=q') HQN.out 0 HP;have R4:=R3.write (t':=b.t) (q':=up b.q a' (.slice A1 r.length c1')) hm2;clear c0 c1 c2 c3 c4 hm2 R3 HP p3 aC;generalize W3.setCell ⟨P,q' * 5+3,none⟩ (.int .i64 0)=W4 at *;simp only [Yp,setP_setP] at R4;have HFD:=Forms.mk (s:={ ({ s with sign:=up s.sign a' r }:WS).Yq q' { ({ s with sign:=up s.sign a' r }:WS).proc q' with mode:=2,on:=0 } with n:=s.n }) HFB.p HFB.c HFB.m HFB.g HFB.d;obtain ⟨d0,d1,d2,d3,d4⟩:=Forms.cells HFD R4.st.wb;obtain ⟨z0,z1,z2,z3,z4⟩:=R4.zc;have f0:=Xc R4.z_ 0;have f1:=Xc R4.z_ 1;have f2:=Xc R4.z_ 2;have f3:=Xc R4.z_ 3;have f4:=Xc R4.z_ 4;have HFIN:=Xa.mk (R4.finish HFD);go_wp2
  (try simp only [Exit.inBlock,Exit.then])
  refine bodyPost_ret (results_cell_row rfl _ _ z 56 #[.slice (some ⟨P,0,none⟩) s.n q0,.slice (some ⟨C,0,none⟩) 3 q1,.slice (some ⟨M,0,none⟩) 2 q2,.slice (some ⟨S,0,none⟩) 2 q3,.slice Ad s.said.length q4] (0,0) _ rfl HFIN.out.1 Tryz.underlying56 rfl kr_) rfl ?_;rw [sigNext_cons HS.out];exact HFIN.out.2
end Go.Proofs.YtlhogkfmdnpmkaaGreat.Mean
