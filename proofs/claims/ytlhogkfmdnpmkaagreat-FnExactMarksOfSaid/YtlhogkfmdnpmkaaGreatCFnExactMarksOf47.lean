import Derived.Test.YtlhogkfmdnpmkaaGreatCFnExactMarksOf46
set_option linter.unusedSectionVars false
set_option linter.unusedVariables false
set_option linter.unusedSimpArgs false
set_option maxHeartbeats 4000000
set_option maxRecDepth 100000
namespace Go.Proofs.YtlhogkfmdnpmkaaGreat.Mean
open RowKit GMarks YtlhogkfmdnpmkaaGreatW.PrintWords YtlhogkfmdnpmkaaGreatW.PrintLast YtlhogkfmdnpmkaaGreatW.PrintMore
variable [Prot]
theorem numDo_is (op a b:Int):∃ q,numDo op a b=(num op a b,q):=by
 by_cases h:1≤op∧op≤5∧okN a=true∧okN b=true
 ·refine ⟨true,?_⟩
  have e2:(decide (1≤op) && decide (op≤5) && nOk a && nOk b)=true:=by
   rw [dt_ h.1,dt_ h.2.1];simp only [Bool.true_and];exact Bool.and_eq_true_iff.2 ⟨h.2.2.1,h.2.2.2⟩
  show (if _ then _ else _)=(if _ then _ else _,_)
  rw [if_pos h,if_pos e2]
  have d1:nCut 1=1:=de_
  have d0:nCut 0=0:=de_
  congr 1
  show _=nCut (if op=1 then _ else _)
  split
  ·rfl
  ·split
   ·rfl
   ·split
    ·rfl
    ·split <;> split <;> first|exact d1.symm|exact d0.symm
 ·refine ⟨false,?_⟩
  have e2:¬ (decide (1≤op) && decide (op≤5) && nOk a && nOk b)=true:=fun e=>h (by
   simp only [Bool.and_eq_true,decide_eq_true_eq] at e;exact ⟨e.1.1.1,e.1.1.2,e.1.2,e.2⟩)
  show (if _ then _ else _)=(if _ then _ else _,_)
  rw [if_neg h,if_neg e2]
def sigNext (s:WS) (a:Int):WS:=match s.sign a.toNat with
 |[]=>s
 |q :: r=>{ (s.Yq q.toNat { s.proc q.toNat with mode:=2,on:=0 }) with sign:=up s.sign a.toNat r }
theorem sigNext_nil {s:WS} {a:Int} (h:s.sign a.toNat=[]):sigNext s a=s:=by unfold sigNext;rw [h]
theorem sigNext_cons {s:WS} {a:Int} {q:Int} {r:List Int} (h:s.sign a.toNat=q :: r):sigNext s a = { (s.Yq q.toNat { s.proc q.toNat with mode:=2,on:=0 }) with sign:=up s.sign a.toNat r }:=by unfold sigNext;rw [h]
theorem opDeed_do (W:World) (base:Nat) (ok:Nat→Prop) (b:BK) (s:WS) (g i:Nat) (a:Int) (c:Int) (n:Int) (h:St W base ok b s g) (hi:i<s.n) (ha:0≤a∧a<3) (hc:0≤c∧c<3) :
  Calls Tryz.prog 135 #[.agg #[.int .i64 a,.int .i64 c,.int .i64 n],.pointer (some ⟨g,0,none⟩),.int .i64 (i:Int)] W fun e W'=>e=.returned (.tuple #[])∧Left W base ok (doReg s i a (num n ((s.proc i).regs a.toNat) ((s.proc i).regs c.toNat))) g W':=by
 obtain ⟨a',rfl⟩:=Int.eq_ofNat_of_zero_le ha.1;obtain ⟨c',rfl⟩:=Int.eq_ofNat_of_zero_le hc.1;go_enter Tryz.func135,Tryz.ntmps135;go_upto_region 1 with (fail);have HB:=Xf (Below.refl W.heap.size W) (.cells #[.int .i64 (a':Int),.int .i64 (c':Int),.int .i64 n] 141);have hbx:=Yc W (.cells #[.int .i64 (a':Int),.int .i64 (c':Int),.int .i64 n] 141);generalize W.alloc (.cells #[.int .i64 (a':Int),.int .i64 (c':Int),.int .i64 n] 141)=W1 at *;have h1:=h.below HB;obtain ⟨P,cp,HP⟩:=h1.at_.procs om_;obtain ⟨R,cr,HR⟩:=h1.at_.regs hi;obtain ⟨c0,c1,c2,c3,c4⟩:=h1.wb.cells;rw [HP.v_] at c0;have p0:=HP.cell i 0 hi om_;simp only [Yn,if_true,Nat.add_zero] at p0;rw [HR.v_] at p0
 have i0:(0:Int)≤(i:Int):=om_
 have i1:(i:Int)<(s.n:Int):=om_
 have i2:decide (i<s.n)=true:=dt_ hi;have r_a:=HR.cell a' om_;have r_c:=HR.cell c' om_
 have a3:(a':Int)<3:=om_
 have a4:decide (a'<3)=true:=dt_ om_
 have d3:(c':Int)<3:=om_
 have d4:decide (c'<3)=true:=dt_ om_;have hbd:=Xh (Below.refl W1.heap.size W1);have E0:=Xa.mk (Xb hbd (show W1.cell? ⟨W.heap.size,0,none⟩=some (.int .i64 (a':Int)) from (Xd hbx 0).trans rfl));have E1:=Xa.mk (Xb hbd (show W1.cell? ⟨W.heap.size,1,none⟩=some (.int .i64 (c':Int)) from (Xd hbx 1).trans rfl));have E2:=Xa.mk (Xb hbd (show W1.cell? ⟨W.heap.size,2,none⟩=some (.int .i64 n) from (Xd hbx 2).trans rfl));have E3:=Xa.mk (Xb hbd r_a);have E4:=Xa.mk (Xb hbd r_c);have HRL:Xa (R<W1.drew.heap.size):=⟨nl_ HR.lt hbd.size⟩;have HRF:Xa (∀ k,W1.drew.frozen? ⟨R,k,none⟩=false):=⟨fun k=>by rw [World.frozen?_of_block (hbd.block R HR.lt)];exact HR.free_ k⟩;obtain ⟨q,hq⟩:=numDo_is n ((s.proc i).regs a') ((s.proc i).regs c');have HQ:Xa (impl_NumDo.f n ((s.proc i).regs a') ((s.proc i).regs c')=some (num n ((s.proc i).regs a') ((s.proc i).regs c'),q)):=⟨congrArg some hq⟩;have H1:=Xa.mk h1;have HBB:=Xa.mk HB;have HBD:=Xa.mk hbd;have HUP:=Xa.mk h.up;have HRV:=Xa.mk HR.v_;go_upto_region 2 with (fail);clear hq h1 HB hbd h HR HP hbx c0 c1 c2 c3 c4 p0 r_a r_c ha hc;refine Ul (n:=21) (S:=fun w'=>Below W1.drew.heap.size W1.drew w') (ds:=[20]) #[false,false,false,false,false,false,false,false,false,false,false,false,false,false,false,false,false,false,false,false,false] kr_ rfl rl1_ (Below.refl _ _) (fun hHeld=>?_);refine pu_' 0 (some 16) ?_;refine pu_' 1 (some 17) ?_;refine pu_' 3 (some 19) ?_;refine pu_' 5 (some 21) ?_;refine pu_' 6 (some 22) ?_;refine pu_' 10 (some 26) ?_;refine pu_' 11 (some 27) ?_;refine tk_' 2 (some 18) rfl hHeld (by rintro w' s0;have c0:=Xb s0 E0.out;have c1:=Xb s0 E1.out;have c2:=Xb s0 E2.out;have c3:=Xb s0 E3.out;have c4:=Xb s0 E4.out;clear s0;go_simp;with_reducible rfl) ?_;refine tk_' 4 (some 20) rfl hHeld (by rintro w' s0;have c0:=Xb s0 E0.out;have c1:=Xb s0 E1.out;have c2:=Xb s0 E2.out;have c3:=Xb s0 E3.out;have c4:=Xb s0 E4.out;clear s0;go_simp;with_reducible rfl) ?_;refine tk_' 7 (some 23) rfl hHeld (by rintro w' s0;have c0:=Xb s0 E0.out;have c1:=Xb s0 E1.out;have c2:=Xb s0 E2.out;have c3:=Xb s0 E3.out;have c4:=Xb s0 E4.out;clear s0;go_simp;with_reducible rfl) ?_;refine pu_' 8 (some 24) ?_;refine tk_' 9 (some 25) rfl hHeld (by rintro w' s0;have c0:=Xb s0 E0.out;have c1:=Xb s0 E1.out;have c2:=Xb s0 E2.out;have c3:=Xb s0 E3.out;have c4:=Xb s0 E4.out;clear s0;go_simp;with_reducible rfl) ?_;refine tk_' 12 (some 28) rfl hHeld (by rintro w' s0;have c0:=Xb s0 E0.out;have c1:=Xb s0 E1.out;have c2:=Xb s0 E2.out;have c3:=Xb s0 E3.out;have c4:=Xb s0 E4.out;clear s0;go_simp;with_reducible rfl) ?_;refine pu_' 13 (some 29) ?_;refine tk_' 14 (some 30) rfl hHeld (by rintro w' s0;have c0:=Xb s0 E0.out;have c1:=Xb s0 E1.out;have c2:=Xb s0 E2.out;have c3:=Xb s0 E3.out;have c4:=Xb s0 E4.out;clear s0;go_simp;with_reducible rfl) ?_;refine re_' 15 (some 31) fun K hK=>?_;refine Vd Tryz.func136 kr_ rfl #[.int .i64 n,.int .i64 ((s.proc i).regs a'),.int .i64 ((s.proc i).regs c')] rl1_ rfl rfl ga_ ?_;refine (impl_NumDo.calls n ((s.proc i).regs a') ((s.proc i).regs c') (num n ((s.proc i).regs a') ((s.proc i).regs c')) q W1.drew HQ.out).mono ?_;rintro e wA ⟨rfl,hbA⟩;refine ⟨_,rfl,?_⟩;have HBA:=Xa.mk hbA;have hx1:=Xb hbA E3.out
 have hf1:wA.frozen? ⟨R,a',none⟩=false:=by rw [World.frozen?_of_block (hbA.block R HRL.out)];exact HRF.out a'
 clear hbA;refine hK.out _ _ HBA.out (fun hHeld=>?_);clear hK K;refine no_ ?_;refine pu_' 16 (some 15) ?_;refine pu_' 17 (some 32) ?_;refine pu_' 18 (some 33) ?_;refine pu_' 19 (some 34) ?_;refine rl_' 20 none fun K hK=>?_;refine skip_ (w1:=wA.setCell ⟨R,a',none⟩ (.int .i64 (num n ((s.proc i).regs a') ((s.proc i).regs c')))) rfl rfl ?_ ?_
 ·first|(go_simp;done)|(go_simp;rfl)
 refine hK.out _ _ ?_;clear hK K;refine Uz kr_ ?_;skip;go_wp2;go_end0;refine ⟨rfl,?_⟩;have h2:=H1.out.below (HBD.out.trans ⟨HBA.out.os,HBA.out.tape,HBA.out.output,HBA.out.size,fun j hj=>HBA.out.block j (nl_ hj HBD.out.size)⟩);have hw:=h2.at_.reg h2.up hi a' (num n ((s.proc i).regs a') ((s.proc i).regs c')) (ints_at (h2.at_.regs hi) HRV.out);have h3:=h2.write (t':=b.t) (q':=b.q) hw;exact Left.of h3 HBB.out ((Only.of_below (HBD.out.trans ⟨HBA.out.os,HBA.out.tape,HBA.out.output,HBA.out.size,fun j hj=>HBA.out.block j (nl_ hj HBD.out.size)⟩) _).trans (hw.2.mono (fun k hk=>.inl (.inl hk)))) HUP.out
theorem signalDeed_do (W:World) (base:Nat) (ok:Nat→Prop) (b:BK) (s:WS) (g i:Nat) (a:Int) (h:St W base ok b s g) (hi:i<s.n) (ha:0≤a∧a<2) (hq:∀ q ∈ s.sign a.toNat,0≤q∧q<s.n) (hl:(s.sign a.toNat).length≤1000) :
  Calls Tryz.prog 154 #[.agg #[.int .i64 a],.pointer (some ⟨g,0,none⟩),.int .i64 (i:Int)] W fun e W'=>e=.returned (.tuple #[])∧Left W base ok (sigNext s a) g W':=by
 obtain ⟨a',rfl⟩:=Int.eq_ofNat_of_zero_le ha.1;go_enter Tryz.func154,Tryz.ntmps154;go_upto_region 1 with (fail);have HB:=Xf (Below.refl W.heap.size W) (.cells #[.int .i64 (a':Int)] 154);have hbx:=Yc W (.cells #[.int .i64 (a':Int)] 154);generalize W.alloc (.cells #[.int .i64 (a':Int)] 154)=W1 at *;have h1:=h.below HB
 have a3:(a':Int)<2:=om_
 have a4:decide (a'<2)=true:=dt_ om_;have e0:((a':Int)).toNat=a':=rfl;rw [e0] at hq hl;have HBB:=Xa.mk HB;obtain ⟨c0,c1,c2,c3,c4⟩:=h1.wb.cells;obtain ⟨S,cs,hSv,hSl,hSc,hSf⟩:=h1.at_.signs;rw [hSv] at c3;have s0:=hSc a' om_;have hQ:=h1.at_.queue (j:=a') om_;have b0:W1.cell? ⟨W.heap.size,0,none⟩=some (.int .i64 (a':Int)):=(Xd hbx 0).trans rfl
 cases hs:s.sign a' with
 |nil=>
  obtain ⟨A,c,eQ,_⟩:=q_slice hQ;rw [eQ,hs,List.length_nil] at s0;have H1:=Xa.mk h1
  go_quiet (fail)
  go_wp2
  (try simp only [Exit.inBlock,Exit.then])
  refine bodyPost_ret (results_none rfl _ _ _) rfl ?_;rw [sigNext_nil hs];exact ⟨rfl,Left.after HBB.out ⟨b,H1.out.below (Xg (Below.refl _ _) _),Only.of_below (Xg (Below.refl _ _) _) _⟩⟩
 |cons q r=>
  obtain ⟨q',hq'⟩:=Int.eq_ofNat_of_zero_le (hq q (by rw [hs];exact List.mem_cons_self)).1;subst hq'
  have hqn:q'<s.n:=by have:=(hq (q':Int) (by rw [hs];exact List.mem_cons_self)).2;omega
  obtain ⟨Q,cq,eQ,hQc,hQcap⟩:=q_form hQ (by rw [hs];exact Nat.succ_pos _);rw [hs,List.length_cons] at eQ;rw [eQ] at s0
  have hlen:(((r.length+1:Nat):Int) == 0)=false:=by simp;omega
  have n0:¬ ((r.length+1:Nat):Int)=0:=om_
  have n1:(0:Int)<((r.length+1:Nat):Int):=om_
  have n2:((r.length:Int)+1 == 0)=false:=by simp;omega
  have n3:¬ ((r.length:Int)+1)=0:=om_
  have n4:(0:Int)<((r.length:Int)+1):=om_
  have hqlen:r.length+1≤1000:=by rw [hs,List.length_cons] at hl;exact hl
  go_quiet (fail)
  go_upto_region 3 with (fail);generalize hW2:W1.drewN _=W2;have hb2:Below W1.heap.size W1 W2:=hW2 ▸ Xg (Below.refl _ _) _;clear hW2 c0 c1 c2 c3 c4 s0 b0;have h2:=h1.below hb2;obtain ⟨c0,c1,c2,c3,c4⟩:=h2.wb.cells;obtain ⟨P,cp,aC⟩:=h.at_.procs om_;have HP:=h2.at_.Yf om_ aC.v_;rw [HP.v_] at c0;have q0:W2.cell? Q=some (.int .i64 (q':Int)):=Xb hb2 (hQc _ (by rw [hs];rfl))
  have i1:((q':Nat):Int)<(s.n:Int):=om_
  have i2:decide (q'<s.n)=true:=dt_ hqn
  have i3:(0:Int)≤((q':Nat):Int):=om_
  go_quiet (fail)
  go_upto_region 4 with (fail);generalize hW3:W2.drewN _=W3;have hb3:Below W1.heap.size W1 W3:=hb2.trans ((hW3 ▸ Xg (Below.refl _ _) _:Below W2.heap.size W2 W3).mono hb2.size);clear hW3 c0 c1 c2 c3 c4 q0 HP h2;have h3:=h1.below hb3;have aB:=h3.at_.Yf om_ aC.v_;have p2:=aB.cell q' 2 hqn om_;have p3:=aB.cell q' 3 hqn om_;have aL:=aB.free_ (q' * 5+2);have aM:=aB.free_ (q' * 5+3);go_upto_region 5 with (fail);have hm1:=h3.at_.mode h3.up (i:=q') hqn 2 aB;have h4:=h3.write (t':=b.t) (q':=b.q) hm1;have aI:=h4.at_.Yf (show 0<s.n by omega) aC.v_;have hm2:=h4.at_.on h4.up (i:=q') hqn 0 aI;have h5:=h4.write (t':=b.t) (q':=b.q) hm2;have o5:=hm1.2.trans (hm2.2.mono (fun k hk=>.inl hk));have hPlt:P<W.heap.size:=aC.lt;have hb5:((W3.setCell ⟨P,q' * 5+2,none⟩ (.int .i64 2)).setCell ⟨P,q' * 5+3,none⟩ (.int .i64 0)).heap[W.heap.size]?=some (.cells #[.int .i64 (a':Int)] 154 (0,0)):=Yr (Yr (Xm hbx hb3) (fun e=>by have:W.heap.size=P:=e;omega) _) (fun e=>by have:W.heap.size=P:=e;omega) _;clear hm1 h4 aI hm2 p2 p3 aL aM aB h3;change St ((W3.setCell ⟨P,q' * 5+2,none⟩ (.int .i64 2)).setCell ⟨P,q' * 5+3,none⟩ (.int .i64 0)) _ _ _ _ _ at h5;change Only W3 ((W3.setCell ⟨P,q' * 5+2,none⟩ (.int .i64 2)).setCell ⟨P,q' * 5+3,none⟩ (.int .i64 0)) _ at o5;generalize ((W3.setCell ⟨P,q' * 5+2,none⟩ (.int .i64 2)).setCell ⟨P,q' * 5+3,none⟩ (.int .i64 0))=W4 at *;have hbd:Below W4.heap.size W4 W4.drew:=Xh (Below.refl _ _);have h6:=h5.below hbd;have aJ:QRow W4.drew base 3 1 (b.q a') (s.sign a').length (nums .i64 (s.sign a')):=h6.at_.queue (j:=a') om_;obtain ⟨S2,cs2,aA,aG,aD,aF⟩:=h6.at_.signs
  have eS:S2=S∧cs2=cs:=by
   rw [hSv] at aA;injection aA with e1 e2 e3;injection e1 with e1;injection e1 with e1;exact ⟨e1.symm,e3.symm⟩
  obtain ⟨rfl,rfl⟩:=eS;have E0:Xa (W4.drew.cell? ⟨g,3,none⟩=some (.slice (some ⟨S2,0,none⟩) 2 cs2)):=⟨by have:=h6.wb.cells.2.2.2.1;rw [aA] at this;exact this⟩;have E1:Xa (W4.drew.cell? ⟨W.heap.size,0,none⟩=some (.int .i64 (a':Int))):=⟨(Xd (Xr hb5) 0).trans rfl⟩;have E2:Xa (W4.drew.cell? ⟨S2,a',none⟩=some (b.q a')):=⟨aD a' om_⟩;have HSL:=Xa.mk aG;have HSF:=Xa.mk aF;have hR:Kd.Q (Kd.int .i64) 3 W4.drew base (fun _=>True) (b.q a') (s.sign a'):=Q_of_q aJ (fun _ _=>trivial);rw [eQ,hs] at hR;obtain ⟨hx0,hcap,hC0⟩:=Kd.Q_reads' hR;have aH:=Kd.C_drop (m:=1) hC0 sm_ hcap;obtain ⟨i0,hi0,hx2,hsz,hx3⟩:=info_parts info3;have hcut:=cut_from (P:=Tryz.prog) 23 3 .i64 Tryz.underlying23 hi0 1 hsz (some Q) (r.length+1) cq 1 om_ om_;have e1:(1:Int).toNat=1:=rfl;have hl1:r.length+1 - 1=r.length:=rfl;have hl2:(((q':Int) :: r).drop 1)=r:=rfl;have hsz1:(Kd.int .i64).sz=1:=rfl;rw [hl2,hsz1] at aH;obtain ⟨A1,hA1⟩:∃ A1,A1=(if cq=1 then some (Q:Addr) else Option.map (·.add (1 * 1)) (some (Q:Addr))):=⟨_,rfl⟩;obtain ⟨c1,hc1⟩:∃ c1,c1=cq - 1:=⟨_,rfl⟩;rw [e1,hl1,← hA1,← hc1] at hcut;rw [← hA1] at aH;have HC:=Xa.mk aH;have HCL:Xa (r.length≤c1):=⟨by rw [hc1];have:r.length+1≤cq:=hcap;omega⟩;have HCF:Xa (Uq.f r=some r):=⟨by unfold Uq.f;rw [if_pos om_]⟩;have H6:=Xa.mk h6;have O5:Xa (Only W1 W4.drew ok):=⟨((Only.of_below hb3 ok).trans (o5.mono (fun k hk=>.inl hk))).trans (Only.of_below hbd _)⟩;have HUP:=Xa.mk h.up;have HSV:=Xa.mk aA
  have HBSZ:Xa (base≤W4.drew.heap.size):=⟨by
   have:=Zl (h6.at_.rows.at_ 3 _ rfl) S2 (by show b.s.ownBlock=_;rw [aA];rfl)
   omega⟩
  have HA2:Xa (a'<2):=⟨om_⟩;rw [eQ] at E2;have HS:=Xa.mk hs;clear hx0 hx2 hx3 hsz hi0 eQ e0 e1 hqlen hl hs hSv aA hi aG aF aD hSc hSf hSl hR hcap hC0 aH hA1 hc1 h6 h5 o5 hb5 hbd hb3 hb2 aJ hQ hQc hQcap HB h1 h hbx hlen n0 n1 n2 n3 n4 i1 i2 i3 hl1 hl2 hsz1 aC hq ha hPlt;refine Ul (n:=11) (S:=fun w'=>Below W4.drew.heap.size W4.drew w') (ds:=[10]) #[false,false,false,false,false,false,false,false,false,false,false] kr_ rfl rl1_ (Below.refl _ _) (fun hHeld=>?_);refine pu_' 0 (some 33) ?_;refine pu_' 1 (some 34) ?_;refine pu_' 2 (some 35) ?_;refine pu_' 4 (some 37) ?_;refine pu_' 6 (some 39) ?_;refine pu_' 7 (some 40) ?_;refine tk_' 3 (some 36) rfl hHeld (by rintro w' s0;have c0:=Xb s0 E0.out;have c1:=Xb s0 E1.out;have c2:=Xb s0 E2.out;clear s0;go_simp;with_reducible rfl) ?_;refine tk_' 5 (some 38) rfl hHeld (by rintro w' s0;have c0:=Xb s0 E0.out;have c1:=Xb s0 E1.out;have c2:=Xb s0 E2.out;clear s0;go_simp;with_reducible rfl) ?_;refine re_' 8 (some 41) fun K hK=>?_;refine Vd Tryz.func67 kr_ rfl #[.slice A1 r.length c1] rl1_ rfl rfl ga_ ?_;refine (Uq.calls A1 c1 r r W4.drew HC.out HCL.out HCF.out).mono ?_;rintro e wA ⟨v1,rfl,hr1,hbA⟩;obtain ⟨A7,c7,aK⟩:=Kd.Zq hr1;subst aK;refine ⟨_,rfl,?_⟩;have HBA:=Xa.mk hbA;have HR1:=Xa.mk hr1;have hx1:=Xb hbA E2.out
  have hf1:wA.frozen? ⟨S2,a',none⟩=false:=by rw [World.frozen?_of_block (hbA.block S2 HSL.out)];exact HSF.out a'
  clear hbA hr1;refine hK.out _ _ HBA.out (fun hHeld=>?_);clear hK K;refine no_ ?_;refine pu_' 9 (some 42) ?_;refine rl_' 10 none fun K hK=>?_;refine skip_ (w1:=wA.setCell ⟨S2,a',none⟩ (.slice A7 r.length c7)) rfl rfl ?_ ?_
  ·first|(go_simp;done)|(go_simp;rfl)
  refine hK.out _ _ ?_;clear hK K;refine Uz kr_ ?_;skip;go_wp2;go_end0;refine ⟨rfl,?_⟩;have hq2:=H6.out.at_.queue2 H6.out.up HA2.out (.slice A7 r.length c7) r ⟨HBA.out.os,HBA.out.tape,HBA.out.output,HBA.out.size,fun k hk _=>HBA.out.block k hk⟩ (q_of_own (Kd.own_of_R (Kd.R_lower HR1.out HBSZ.out))) (.inr (Kd.R_base2 HR1.out)) HSV.out;have h7:=H6.out.write (t':=b.t) (q':=up b.q a' (.slice A7 r.length c7)) hq2;have hfin:=Left.of h7 HBB.out ((O5.out.trans (hq2.2.mono (fun k hk=>.inl hk))).mono (fun k hk=>.inl hk)) HUP.out;rw [sigNext_cons HS.out];simp only [Yp,setP_setP] at hfin;exact hfin
theorem yieldDeed_do (W:World) (base:Nat) (ok:Nat→Prop) (b:BK) (s:WS) (g i:Nat) (h:St W base ok b s g) :
  Calls Tryz.prog 156 #[.agg #[],.pointer (some ⟨g,0,none⟩),.int .i64 (i:Int)] W fun e W'=>e=.returned (.tuple #[])∧Left W base ok s g W':=by
 have H:=Xa.mk h;clear h;go_enter Tryz.func156,Tryz.ntmps156;go_wp2;go_end0;exact ⟨rfl,b,H.out.below (Xf (Below.refl _ _) _),Only.of_below (Xf (Below.refl _ _) _) _⟩
end Go.Proofs.YtlhogkfmdnpmkaaGreat.Mean
