import Derived.Test.YtokajnfbiddpjaaCFnSlimSome21
import Derived.Test.YtokajnfbiddpjaaCFnSlimSome56
import Derived.Test.YtokajnfbiddpjaaCFnSlimSome57
import Derived.Test.YtokajnfbiddpjaaCFnSlimSome50
import Derived.Test.YtokajnfbiddpjaaCFnSlimSome31
import Derived.Lib.Hide
import Derived.WalkSpells
import Derived.Deep.DeepMust
set_option maxRecDepth 100000
namespace Go.Proofs.Ytokajnfbiddpjaa.GSlim
open Go.RowKit Go.Proofs.YtokajnfbiddpjaaW.PrintWords Go.Proofs.YtokajnfbiddpjaaW.PrintLast Go.Proofs.YtokajnfbiddpjaaW.PrintMore
attribute [local go_sem] Zx Zz Ul Um Zl Zm Zy Ua
set_option linter.unusedVariables false
set_option linter.unusedSimpArgs false
section
def Ux.keeps (k:Nat) (c:List (S31)) (re:List Bool):Nat→Option (List Bool)
 |0=>some []
 |j+1=>(Ux.keeps k c re j).bind fun l=>(spec_l9Keeps.f k c re (j:Int)).bind fun b=>some (l ++ [b])
def Ux.okN (n:Nat):List (S31)→List Bool→Bool
 |s :: c,b :: ks=>(!b||!(decide (s.f0=7∨s.f0=6))||decide (0≤s.f3∧s.f3<(n:Int))) && Ux.okN n c ks
 |_,_=>true
def Vy.f (k:Nat) (l0:List (S31)):Option (List (S31)):=(Yb.f k l0).bind fun ok=>if ok=true then ((Uj.f k l0).bind fun re=>if l0.length<1000000 then ((Ux.keeps k l0 re l0.length).bind fun ks=>if Ux.okN l0.length l0 ks=true then some (dead.out ks l0 ks) else none) else none) else some []
theorem Ux.keeps_is {k:Nat} {c:List (S31)} {re:List Bool}:∀ (n:Nat) (ks:List Bool),Ux.keeps k c re n=some ks→ks.length=n∧∀ j (h:j<ks.length),spec_l9Keeps.f k c re (j:Int)=some ks[j]
 |0,ks,h=>by
  have:ks=[]:=by simpa [Ux.keeps] using h.symm
  subst this;exact ⟨rfl,fun j h=>by simp at h⟩
 |n+1,ks,h=>by
  rw [Ux.keeps] at h;obtain ⟨l,h1,h⟩:=Option.bind_eq_some_iff.1 h;obtain ⟨b,h2,h⟩:=Option.bind_eq_some_iff.1 h;obtain rfl:=Option.some.inj h;obtain ⟨hl,hj⟩:=Ux.keeps_is n l h1;refine ⟨by simp [hl],fun j hlt=>?_⟩
  rcases Nat.lt_or_ge j l.length with h3|h3
  ·rw [List.getElem_append_left h3];exact hj j h3
  ·have:j=n:=by simp at hlt;omega
   subst this;rw [List.getElem_append_right h3]
   simpa [hl] using h2
theorem Ux.okN_is {n:Nat}:∀ (c:List (S31)) (ks:List Bool) (j:Nat) (h1:j<c.length) (h2:j<ks.length),Ux.okN n c ks=true→ks[j]=true→(c[j].f0=7∨c[j].f0=6)→0≤c[j].f3∧c[j].f3<(n:Int)
 |[],_,_,h1,_,_,_,_=>by simp at h1
 |_ :: _,[],_,_,h2,_,_,_=>by simp at h2
 |s :: c,b :: ks,0,_,_,h,hb,ho=>by
  simp only [List.getElem_cons_zero] at hb ho ⊢;simp only [Ux.okN,Bool.and_eq_true,Bool.or_eq_true,hb,Bool.not_true,Bool.false_eq_true,false_or,decide_eq_true ho,decide_eq_true_eq] at h;exact h.1
 |s :: c,b :: ks,j+1,h1,h2,h,hb,ho=>by
  simp only [Ux.okN,Bool.and_eq_true] at h;simp only [List.getElem_cons_succ] at hb ho ⊢;exact Ux.okN_is c ks j _ _ h.2 hb ho
def Ux.pl (ks:List Bool) (j:Nat):List Int:=(List.range j).map (fun (i:Nat)=>(dead.cnt ks i:Int))
theorem Ux.pl_succ (ks:List Bool) (j:Nat):Ux.pl ks (j+1)=Ux.pl ks j ++ [(dead.cnt ks j:Int)]:=by unfold Ux.pl;rw [List.range_succ,List.map_append];rfl
theorem Ux.length_pl (ks:List Bool) (j:Nat):(Ux.pl ks j).length=j:=by simp [Ux.pl]
theorem Ux.rd_pl {ks:List Bool} {N:Int} (h0:0≤N) (h1:N<(ks.length:Int)):rd (Ux.pl ks ks.length) N=dead.look ks N:=by
 unfold rd dead.look Ux.pl
 rw [if_pos ⟨h0,h1⟩,List.getD_eq_getElem?_getD,List.getElem?_map,List.getElem?_range (by omega)];rfl
set_option maxHeartbeats 8000000 in
theorem Vy.calls (k:Nat) (A0:Option Addr) (c0:Nat) (l0:List (S31)) (r:List (S31)) (w:World) (hr0:Kd.C k31 w A0 l0.length l0) (hc0:l0.length≤c0) (h:Vy.f k l0=some r) :
  Calls Try.prog 20 #[.slice A0 l0.length c0] w fun e w'=>∃ bD:Value,e=.returned (bD)∧Kd.R k31 31 w' w.heap.size (fun _=>True) bD r∧Below w.heap.size w w':=by
 unfold Vy.f at h
 obtain ⟨ok,hok,h1⟩:=Option.bind_eq_some_iff.1 h;clear h;have aJ:=Xa.mk hr0;have aQ:=Xa.mk hc0;have HOK:=Xa.mk hok;clear hr0 hc0 hok;have HB:=Xa.mk (Below.refl w.heap.size w)
 cases ok with
 |false=>
  have hr:r=[]:=by simpa using h1.symm
  subst hr;clear h1
  go_enter Try.func20,Try.ntmps20
  go_wp2_with (first|((with_reducible refine Xh (f:=19) rfl ?_);refine Ye (some 11) rfl rfl Try.func19 (by kernel_rfl) rfl #[.slice A0 l0.length c0] rfl ga_ ?_;(with_reducible refine (Yb.calls k _ _ l0 false _ aJ.out aQ.out HOK.out).mono ?_);rintro e w1 ⟨rfl,hb⟩;refine ⟨_,rfl,?_⟩;have HB1:=Xa.mk hb;clear hb)|((with_reducible refine Xt (N:=13) rfl ?_);refine Kd.Vo k31 _ 31 ?hg (N:=13) ?hd (xs:=([]:List (S31))) (inner:=[]) (ok:=fun _=>True) (okp:=fun _=>True) ?hr ?hp (fun _ hk=>hk) trivial (Below.refl _ _) (Nat.le_refl _) (by simp) ?_;(case hd|hg=>rfl);(case hr=>exact hr_);(case hp=>exact (Yj.none _ _));intro v2 w2 ho2 hb2 aX aA;clear aX aA))
  go_ret
  exact ⟨_,rfl,Kd.Yi ho2 HB1.out.size,Xe HB1.out hb2⟩
 |true=>
  rw [if_pos rfl] at h1;obtain ⟨re,hre,h2⟩:=Option.bind_eq_some_iff.1 h1;clear h1;by_cases hl:l0.length<1000000
  ·rw [if_pos hl] at h2;obtain ⟨ks,hks,h3⟩:=Option.bind_eq_some_iff.1 h2;clear h2;by_cases hn:Ux.okN l0.length l0 ks=true
   ·rw [if_pos hn] at h3;obtain rfl:=Option.some.inj h3;clear h3;have HL:=Xa.mk hl;have HRE:=Xa.mk hre;have HKS:=Xa.mk (Ux.keeps_is l0.length ks hks);have HN:=Xa.mk hn;clear hl hre hks hn
    go_enter Try.func20,Try.ntmps20
    go_upto_block 0 with (first|((with_reducible refine Xh (f:=19) rfl ?_);refine Ye (some 11) rfl rfl Try.func19 (by kernel_rfl) rfl #[.slice A0 l0.length c0] rfl ga_ ?_;(with_reducible refine (Yb.calls k _ _ l0 true _ aJ.out aQ.out HOK.out).mono ?_);rintro e w1 ⟨rfl,hb⟩;refine ⟨_,rfl,?_⟩;have HB1:=Xa.mk hb;clear hb)|((with_reducible refine Xh (f:=39) rfl ?_);refine Ye (some 15) rfl rfl Try.func39 (by kernel_rfl) rfl #[.slice A0 l0.length c0] rfl ga_ ?_;(with_reducible refine (Uj.calls k _ _ l0 re _ (Kd.Ze aJ.out HB1.out) aQ.out HRE.out).mono ?_);rintro e w2 ⟨vr,rfl,ho0,hb⟩;refine ⟨_,rfl,?_⟩;obtain ⟨Ar,cr,er⟩:=Kd.Yo ho0;subst er;have HKR:=Xa.mk (Kd.Yi ho0 HB1.out.size);have HB2:=Xa.mk (Xe HB1.out hb);clear ho0 hb HB1)|((with_reducible refine Xt (N:=16) rfl ?_);refine Kd.Vo (Kd.int .i64) _ 3 ?hg (N:=16) ?hd (xs:=([]:List Int)) (inner:=[]) (ok:=fun _=>True) (okp:=fun _=>True) ?hr ?hp (fun _ hk=>hk) trivial (Below.refl _ _) (Nat.le_refl _) (by simp) ?_;(case hd|hg=>rfl);(case hr=>exact hr_);(case hp=>exact (Yj.none _ _));intro v3 w3 ho3 hb3 aX aA;clear aX aA;have HP:=Xa.mk (Kd.Yi ho3 HB2.out.size);replace HKR:=Xa.mk (Kd.Zf HKR.out hb3);replace HB2:=Xa.mk (Xe HB2.out hb3);clear ho3 hb3))
    clear HB;have HLE:=Xa.mk (show re.length≤cr from (Kd.R_reads' HKR.out).2.1);go_wp2
    go_loopw [4,5,6] (fun v4 v5 v6 W=>∃ (j:Nat),v5=.int .i64 (dead.cnt ks j:Int)∧v6=.int .i64 (j:Int)∧Xa (j≤l0.length)∧Xa (Kd.R (Kd.int .i64) 3 W w.heap.size (fun _=>True) v4 (Ux.pl ks j))∧Xa (Kd.R Kd.bool 4 W w.heap.size (fun _=>True) (.slice Ar re.length cr) re)∧Xa (Below w.heap.size w W)) (fun _ _ v6 _=>l0.length - (intOf v6).toNat)
    case atStart=>exact ⟨0,rfl,rfl,⟨Nat.zero_le _⟩,HP,HKR,HB2⟩
    case round=>
     clear HP HKR HB2;obtain ⟨j,rfl,rfl,Hj,HP,HKR,HB⟩:=hrel;by_cases hlt:j<l0.length
     ·have hlk:j<ks.length:=by rw [HKS.out.1];exact hlt
      have hkp:=HKS.out.2 j hlk;have hd1:decide ((j:Int)<(l0.length:Int))=true:=decide_eq_true (by omega);have hd2:decide (j<l0.length)=true:=decide_eq_true hlt;have hcs:=dead.cnt_succ ks j hlk;have hcl:=dead.cnt_le ks j
      have hjw:IntKind.i64.wrap ((j:Int)+1)=((j+1:Nat):Int):=by have:=HL.out;rw [IntKind.wrap_i64];omega
      have hcw:IntKind.i64.wrap ((dead.cnt ks j:Int)+1)=((dead.cnt ks j+1:Nat):Int):=by have:=HL.out;rw [IntKind.wrap_i64];omega
      have Hlt:=Xa.mk hlt;obtain ⟨b,hb⟩:∃ b,ks[j]=b:=⟨_,rfl⟩;rw [hb] at hkp hcs;have HKP:=Xa.mk hkp;have HCS:=Xa.mk hcs;clear hkp hcs hcl hb hlt hlk
      cases b with
      |true=>
       go_wp2_with (first|((with_reducible refine Xh (f:=40) rfl ?_);refine Ye (some 30) rfl rfl Try.func40 (by kernel_rfl) rfl #[.slice A0 l0.length c0,.slice Ar re.length cr,.int .i64 (j:Int)] rfl ga_ ?_;(with_reducible refine (spec_l9Keeps.calls k _ _ l0 _ _ re (j:Int) true _ (Kd.Ze aJ.out HB.out) aQ.out (Kd.R_reads' HKR.out).2.2 HLE.out HKP.out).mono ?_);rintro e w8 ⟨rfl,⟨nd,hnd⟩⟩;refine ⟨_,rfl,?_⟩;replace HP:=Xa.mk (show Kd.R (Kd.int .i64) 3 w8 w.heap.size (fun _=>True) aU (Ux.pl ks j ++ [(dead.cnt ks j:Int)]) from by rw [hnd];exact Kd.Ug HP.out nd);replace HKR:=Xa.mk (show Kd.R Kd.bool 4 w8 w.heap.size (fun _=>True) (.slice Ar re.length cr) re from by rw [hnd];exact Kd.Ug HKR.out nd);replace HB:=Xa.mk (show Below w.heap.size w w8 from by rw [hnd];exact Xk HB.out nd);clear hnd)|((with_reducible refine Yp (b:=.append) (xs:=#[.tmp 23,.tmp 25]) rfl ?_);at_builtin;refine Kd.R_append (Kd.int .i64) (w0:=w) w.heap.size rfl (.tmp 23) (.tmp 25) 54 3 (.int .i64 0) 8 rfl Try.underlying54 info3 rfl (by decide) (by omega) u4 (Ux.pl ks j) (dead.cnt ks j:Int) [.int .i64 (dead.cnt ks j:Int)] (fun _=>True) (fun _=>False) rfl (by first|rfl|(simp [Act.eval];done)) ?aP (fun _ hk=>hk.elim) ?aF ?aO ?aB ?aS ?aL ?_;(case aP=>exact rfl);(case aB=>exact HB.out);(case aF=>exact fun _ _=>trivial);(case aO=>exact HP.out);(case aS=>exact HB.out.size);(case aL=>rw [Ux.length_pl];have:=HL.out;have:=Hlt.out;omega);intro aU w7 aY aV aW aR;have aC:=Xa.mk aY;have aD:=Xa.mk (Kd.R_over HKR.out HP.out (fun q hq=>by simp [Kd.bool,Kd.scalar] at hq;omega) aW);have aG:=Xa.mk aV;clear aY aV aW aR HP HKR HB;have HP:=aC;have HKR:=aD;have HB:=aG;clear aC aD aG))
       go_roundw
       case measure=>have:=Hlt.out;simp [intOf];omega
       case rel=>exact ⟨j+1,by rw [HCS.out];simp,by simp,⟨Hlt.out⟩,⟨by rw [Ux.pl_succ];exact HP.out⟩,HKR,HB⟩
      |false=>
       go_wp2_with (first|((with_reducible refine Xh (f:=40) rfl ?_);refine Ye (some 30) rfl rfl Try.func40 (by kernel_rfl) rfl #[.slice A0 l0.length c0,.slice Ar re.length cr,.int .i64 (j:Int)] rfl ga_ ?_;(with_reducible refine (spec_l9Keeps.calls k _ _ l0 _ _ re (j:Int) false _ (Kd.Ze aJ.out HB.out) aQ.out (Kd.R_reads' HKR.out).2.2 HLE.out HKP.out).mono ?_);rintro e w8 ⟨rfl,⟨nd,hnd⟩⟩;refine ⟨_,rfl,?_⟩;replace HP:=Xa.mk (show Kd.R (Kd.int .i64) 3 w8 w.heap.size (fun _=>True) aU (Ux.pl ks j ++ [(dead.cnt ks j:Int)]) from by rw [hnd];exact Kd.Ug HP.out nd);replace HKR:=Xa.mk (show Kd.R Kd.bool 4 w8 w.heap.size (fun _=>True) (.slice Ar re.length cr) re from by rw [hnd];exact Kd.Ug HKR.out nd);replace HB:=Xa.mk (show Below w.heap.size w w8 from by rw [hnd];exact Xk HB.out nd);clear hnd)|((with_reducible refine Yp (b:=.append) (xs:=#[.tmp 23,.tmp 25]) rfl ?_);at_builtin;refine Kd.R_append (Kd.int .i64) (w0:=w) w.heap.size rfl (.tmp 23) (.tmp 25) 54 3 (.int .i64 0) 8 rfl Try.underlying54 info3 rfl (by decide) (by omega) u4 (Ux.pl ks j) (dead.cnt ks j:Int) [.int .i64 (dead.cnt ks j:Int)] (fun _=>True) (fun _=>False) rfl (by first|rfl|(simp [Act.eval];done)) ?aP (fun _ hk=>hk.elim) ?aF ?aO ?aB ?aS ?aL ?_;(case aP=>exact rfl);(case aB=>exact HB.out);(case aF=>exact fun _ _=>trivial);(case aO=>exact HP.out);(case aS=>exact HB.out.size);(case aL=>rw [Ux.length_pl];have:=HL.out;have:=Hlt.out;omega);intro aU w7 aY aV aW aR;have aC:=Xa.mk aY;have aD:=Xa.mk (Kd.R_over HKR.out HP.out (fun q hq=>by simp [Kd.bool,Kd.scalar] at hq;omega) aW);have aG:=Xa.mk aV;clear aY aV aW aR HP HKR HB;have HP:=aC;have HKR:=aD;have HB:=aG;clear aC aD aG))
       go_roundw
       case measure=>have:=Hlt.out;simp [intOf];omega
       case rel=>exact ⟨j+1,by rw [HCS.out];simp,by simp,⟨Hlt.out⟩,⟨by rw [Ux.pl_succ];exact HP.out⟩,HKR,HB⟩
     ·have hd1:decide ((j:Int)<(l0.length:Int))=false:=decide_eq_false (by omega);have hd2:decide (j<l0.length)=false:=decide_eq_false hlt
      have hj:j=l0.length:=by have:=Hj.out;omega
      subst hj;obtain ⟨Ap,cp,ep⟩:=Kd.Yo HP.out;rw [Ux.length_pl] at ep;subst ep;clear Hj hlt hd1 hd2
      go_upto_block 2 with ((with_reducible refine Xt (N:=33) rfl ?_);refine Kd.Vo k31 _ 31 ?hg (N:=33) ?hd (xs:=([]:List (S31))) (inner:=[]) (ok:=fun _=>True) (okp:=fun _=>True) ?hr ?hp (fun _ hk=>hk) trivial (Below.refl _ _) (Nat.le_refl _) (by simp) ?_;(case hd|hg=>rfl);(case hr=>exact hr_);(case hp=>exact (Yj.none _ _));intro v3 w3 ho3 hb3 aX aA;clear aX aA;have HO:=Xa.mk (Kd.Yi ho3 HB.out.size);replace HP:=Xa.mk (Kd.Zf HP.out hb3);replace HKR:=Xa.mk (Kd.Zf HKR.out hb3);replace HB:=Xa.mk (Xe HB.out hb3);clear ho3 hb3)
      go_wp2
      go_loopw [7,8] (fun v7 v8 W=>∃ (j:Nat),v8=.int .i64 (j:Int)∧Xa (j≤l0.length)∧Xa (Kd.R k31 31 W w.heap.size (fun _=>True) v7 (dead.upto ks l0 j))∧Xa (Kd.R (Kd.int .i64) 3 W w.heap.size (fun _=>True) (.slice Ap l0.length cp) (Ux.pl ks l0.length))∧Xa (Kd.R Kd.bool 4 W w.heap.size (fun _=>True) (.slice Ar re.length cr) re)∧Xa (Below w.heap.size w W)) (fun _ v8 _=>l0.length - (intOf v8).toNat)
      case atStart=>exact ⟨0,rfl,⟨Nat.zero_le _⟩,HO,HP,HKR,HB⟩
      case round=>
       clear HO HP HKR HB;obtain ⟨j,rfl,Hj,HO,HP,HKR,HB⟩:=hrel;by_cases hlt:j<l0.length
       ·have hlk:j<ks.length:=by rw [HKS.out.1];exact hlt
        have hkp:=HKS.out.2 j hlk;have hup:=dead.upto_succ ks l0 j hlk hlt;have hd1:decide ((j:Int)<(l0.length:Int))=true:=decide_eq_true (by omega);have hd2:decide (j<l0.length)=true:=decide_eq_true hlt;have hj0:((0:Int)≤(j:Int))=True:=eq_true (by omega);have hj2:((j:Int)<(l0.length:Int))=True:=eq_true (by omega)
        have hjw:IntKind.i64.wrap ((j:Int)+1)=((j+1:Nat):Int):=by have:=HL.out;rw [IntKind.wrap_i64];omega
        have hokn:=Ux.okN_is (n:=l0.length) l0 ks j hlt hlk HN.out;have Hlt:=Xa.mk hlt
        have hrs:Xb l0 (j:Int)=l0[j]:=by unfold Xb;simp [List.getD_eq_getElem?_getD,hlt]
        obtain ⟨b,hb⟩:∃ b,ks[j]=b:=⟨_,rfl⟩;obtain ⟨s,hs⟩:∃ s,l0[j]=s:=⟨_,rfl⟩;rw [hb] at hkp hup hokn;rw [hs] at hup hokn hrs;have HRS:=Xa.mk hrs;have HKP:=Xa.mk hkp;have HOKN:=Xa.mk hokn;clear hkp hb hs hlt hlk hokn hrs
        cases b with
        |false=>
         have Hup:Xa (dead.upto ks l0 (j+1)=dead.upto ks l0 j):=⟨by rw [hup];simp⟩;clear hup;go_wp2_with ((with_reducible refine Xh (f:=40) rfl ?_);refine Ye (some 43) rfl rfl Try.func40 (by kernel_rfl) rfl #[.slice A0 l0.length c0,.slice Ar re.length cr,.int .i64 (j:Int)] rfl ga_ ?_;(with_reducible refine (spec_l9Keeps.calls k _ _ l0 _ _ re (j:Int) false _ (Kd.Ze aJ.out HB.out) aQ.out (Kd.R_reads' HKR.out).2.2 HLE.out HKP.out).mono ?_);rintro e w8 ⟨rfl,⟨nd,hnd⟩⟩;refine ⟨_,rfl,?_⟩;replace HP:=Xa.mk (show Kd.R (Kd.int .i64) 3 w8 w.heap.size (fun _=>True) (.slice Ap l0.length cp) (Ux.pl ks l0.length) from by rw [hnd];exact Kd.Ug HP.out nd);replace HKR:=Xa.mk (show Kd.R Kd.bool 4 w8 w.heap.size (fun _=>True) (.slice Ar re.length cr) re from by rw [hnd];exact Kd.Ug HKR.out nd);replace HB:=Xa.mk (show Below w.heap.size w w8 from by rw [hnd];exact Xk HB.out nd);replace HO:=Xa.mk (show Kd.R k31 31 w8 w.heap.size (fun _=>True) u7 (dead.upto ks l0 j) from by rw [hnd];exact Kd.Ug HO.out nd);clear hnd)
         go_roundw
         case measure=>have:=Hlt.out;simp [intOf];omega
         case rel=>exact ⟨j+1,by simp,⟨Hlt.out⟩,⟨by rw [Hup.out];exact HO.out⟩,HP,HKR,HB⟩
        |true=>
         go_upto_region 17 with ((with_reducible refine Xh (f:=40) rfl ?_);refine Ye (some 43) rfl rfl Try.func40 (by kernel_rfl) rfl #[.slice A0 l0.length c0,.slice Ar re.length cr,.int .i64 (j:Int)] rfl ga_ ?_;(with_reducible refine (spec_l9Keeps.calls k _ _ l0 _ _ re (j:Int) true _ (Kd.Ze aJ.out HB.out) aQ.out (Kd.R_reads' HKR.out).2.2 HLE.out HKP.out).mono ?_);rintro e w8 ⟨rfl,⟨nd,hnd⟩⟩;refine ⟨_,rfl,?_⟩;replace HP:=Xa.mk (show Kd.R (Kd.int .i64) 3 w8 w.heap.size (fun _=>True) (.slice Ap l0.length cp) (Ux.pl ks l0.length) from by rw [hnd];exact Kd.Ug HP.out nd);replace HKR:=Xa.mk (show Kd.R Kd.bool 4 w8 w.heap.size (fun _=>True) (.slice Ar re.length cr) re from by rw [hnd];exact Kd.Ug HKR.out nd);replace HB:=Xa.mk (show Below w.heap.size w w8 from by rw [hnd];exact Xk HB.out nd);replace HO:=Xa.mk (show Kd.R k31 31 w8 w.heap.size (fun _=>True) u7 (dead.upto ks l0 j) from by rw [hnd];exact Kd.Ug HO.out nd);clear hnd)
         obtain ⟨ad2,e2,aZ,bA,bB,bC⟩:=Zv (Kd.Ze aJ.out HB.out) (j:Int) (by omega) (by have:=Hlt.out;omega);subst e2;rw [HRS.out] at aZ bA bB bC;simp only [Int.toNat_natCast] at aZ bA bB bC;by_cases aT:s.f0=7∨s.f0=6
         ·have Hup:Xa (dead.upto ks l0 (j+1)=dead.upto ks l0 j ++ [⟨s.f0,s.f1,s.f2,dead.look ks s.f3⟩]):=⟨by rw [hup,if_pos rfl,dead.fix,if_pos aT]⟩;obtain ⟨t0,t1⟩:=HOKN.out rfl aT.symm.symm;obtain ⟨adp,ep,hpx⟩:=Kd.Ur (Kd.R_reads' HP.out).2.2 s.f3 t0 (by rw [Ux.length_pl];exact t1)
          have hrl:rd (Ux.pl ks l0.length) s.f3=dead.look ks s.f3:=by
           have:=Ux.rd_pl (ks:=ks) t0 (by rw [HKS.out.1];exact t1)
           rwa [HKS.out.1] at this
          rw [hrl] at hpx;subst ep;have hx1:∀ o:Obj,(w8.alloc o).cell? (adp.add s.f3.toNat)=some (.int .i64 (dead.look ks s.f3)):=fun o=>Go.cell_later ((Below.refl _ _).alloc (Nat.le_refl _) o) hpx;have t0':=eq_true t0;have t1':=eq_true t1;clear hup hpx hrl;by_cases h7:s.f0=7
          ·have e7:(s.f0 == 7)=true:=by simp [h7]
           clear h7 aT;go_wp2_with ((with_reducible refine Yp (b:=.append) (xs:=#[.tmp 63,.tmp 65]) rfl ?_);at_builtin;refine Kd.R_append k31 (w0:=w) w.heap.size rfl (.tmp 63) (.tmp 65) 25 31 (.agg #[(.int .i64 0),(.int .i64 0),(.int .i64 0),(.int .i64 0)]) 32 rfl Try.underlying25 info31 rfl (by decide) (by omega) u7 (dead.upto ks l0 j) (⟨s.f0,s.f1,s.f2,dead.look ks s.f3⟩) [.int .i64 s.f0,.int .i64 s.f1,.int .i64 s.f2,.int .i64 (dead.look ks s.f3)] (fun k=>k≠w8.heap.size) (fun _=>False) rfl (by first|rfl|(simp [Act.eval];done)) ?aP (fun _ hk=>hk.elim) ?aF ?aO ?aB ?aS ?aL ?_;(case aP=>exact Vg _ _ _ (⟨s.f0,s.f1,s.f2,dead.look ks s.f3⟩));(case aB=>exact HB.out.alloc HB.out.size _);(case aF=>intro k hk;simp at hk;omega);(case aO=>exact Kd.Xo (Kd.Uh (Kd.Vf HO.out) _) (fun k hk=>by have:=hk.2.2.1;omega));(case aS=>have:=HB.out.size;simp;omega);(case aL=>have:=dead.upto_len ks l0 j;have:=HL.out;omega);intro aU w9 aM aK aI aH;have aC:=Xa.mk (dead.row_behind (x:=.bool true) HP.out HO.out (fun q hq=>by simp [Kd.int,Kd.scalar] at hq;omega) (.inl rfl) aI);have aD:=Xa.mk (Kd.Xo (ok':=fun _=>True) aM (fun _ _=>trivial));have aG:=Xa.mk (dead.row_behind (x:=.bool true) HKR.out HO.out (fun q hq=>by simp [Kd.bool,Kd.scalar] at hq;omega) (.inl rfl) aI);have aN:=Xa.mk aK;clear aM aK aI aH HP HO HKR HB;have HP:=aC;have HO:=aD;have HKR:=aG;have HB:=aN;clear aC aD aG aN)
           go_roundw
           case measure=>have:=Hlt.out;simp [intOf];omega
           case rel=>exact ⟨j+1,by simp,⟨Hlt.out⟩,⟨by rw [Hup.out];exact HO.out⟩,HP,HKR,HB⟩
          ·have e7:(s.f0 == 7)=false:=by simp [h7]
           have e6:(s.f0 == 6)=true:=by simp;omega
           clear h7 aT;go_wp2_with ((with_reducible refine Yp (b:=.append) (xs:=#[.tmp 63,.tmp 65]) rfl ?_);at_builtin;refine Kd.R_append k31 (w0:=w) w.heap.size rfl (.tmp 63) (.tmp 65) 25 31 (.agg #[(.int .i64 0),(.int .i64 0),(.int .i64 0),(.int .i64 0)]) 32 rfl Try.underlying25 info31 rfl (by decide) (by omega) u7 (dead.upto ks l0 j) (⟨s.f0,s.f1,s.f2,dead.look ks s.f3⟩) [.int .i64 s.f0,.int .i64 s.f1,.int .i64 s.f2,.int .i64 (dead.look ks s.f3)] (fun k=>k≠w8.heap.size) (fun _=>False) rfl (by first|rfl|(simp [Act.eval];done)) ?aP (fun _ hk=>hk.elim) ?aF ?aO ?aB ?aS ?aL ?_;(case aP=>exact Vg _ _ _ (⟨s.f0,s.f1,s.f2,dead.look ks s.f3⟩));(case aB=>exact HB.out.alloc HB.out.size _);(case aF=>intro k hk;simp at hk;omega);(case aO=>exact Kd.Xo (Kd.Uh (Kd.Vf HO.out) _) (fun k hk=>by have:=hk.2.2.1;omega));(case aS=>have:=HB.out.size;simp;omega);(case aL=>have:=dead.upto_len ks l0 j;have:=HL.out;omega);intro aU w9 aM aK aI aH;have aC:=Xa.mk (dead.row_behind (x:=.bool true) HP.out HO.out (fun q hq=>by simp [Kd.int,Kd.scalar] at hq;omega) (.inl rfl) aI);have aD:=Xa.mk (Kd.Xo (ok':=fun _=>True) aM (fun _ _=>trivial));have aG:=Xa.mk (dead.row_behind (x:=.bool true) HKR.out HO.out (fun q hq=>by simp [Kd.bool,Kd.scalar] at hq;omega) (.inl rfl) aI);have aN:=Xa.mk aK;clear aM aK aI aH HP HO HKR HB;have HP:=aC;have HO:=aD;have HKR:=aG;have HB:=aN;clear aC aD aG aN)
           go_roundw
           case measure=>have:=Hlt.out;simp [intOf];omega
           case rel=>exact ⟨j+1,by simp,⟨Hlt.out⟩,⟨by rw [Hup.out];exact HO.out⟩,HP,HKR,HB⟩
         ·have Hup:Xa (dead.upto ks l0 (j+1)=dead.upto ks l0 j ++ [⟨s.f0,s.f1,s.f2,s.f3⟩]):=⟨by rw [hup,if_pos rfl,dead.fix,if_neg aT]⟩
          have e7:(s.f0 == 7)=false:=by simp;omega
          have e6:(s.f0 == 6)=false:=by simp;omega
          clear hup aT;go_wp2_with ((with_reducible refine Yp (b:=.append) (xs:=#[.tmp 63,.tmp 65]) rfl ?_);at_builtin;refine Kd.R_append k31 (w0:=w) w.heap.size rfl (.tmp 63) (.tmp 65) 25 31 (.agg #[(.int .i64 0),(.int .i64 0),(.int .i64 0),(.int .i64 0)]) 32 rfl Try.underlying25 info31 rfl (by decide) (by omega) u7 (dead.upto ks l0 j) (⟨s.f0,s.f1,s.f2,s.f3⟩) [.int .i64 s.f0,.int .i64 s.f1,.int .i64 s.f2,.int .i64 s.f3] (fun k=>k≠w8.heap.size) (fun _=>False) rfl (by first|rfl|(simp [Act.eval];done)) ?aP (fun _ hk=>hk.elim) ?aF ?aO ?aB ?aS ?aL ?_;(case aP=>exact Vg _ _ _ (⟨s.f0,s.f1,s.f2,s.f3⟩));(case aB=>exact HB.out.alloc HB.out.size _);(case aF=>intro k hk;simp at hk;omega);(case aO=>exact Kd.Xo (Kd.Uh (Kd.Vf HO.out) _) (fun k hk=>by have:=hk.2.2.1;omega));(case aS=>have:=HB.out.size;simp;omega);(case aL=>have:=dead.upto_len ks l0 j;have:=HL.out;omega);intro aU w9 aM aK aI aH;have aC:=Xa.mk (dead.row_behind (x:=.bool true) HP.out HO.out (fun q hq=>by simp [Kd.int,Kd.scalar] at hq;omega) (.inl rfl) aI);have aD:=Xa.mk (Kd.Xo (ok':=fun _=>True) aM (fun _ _=>trivial));have aG:=Xa.mk (dead.row_behind (x:=.bool true) HKR.out HO.out (fun q hq=>by simp [Kd.bool,Kd.scalar] at hq;omega) (.inl rfl) aI);have aN:=Xa.mk aK;clear aM aK aI aH HP HO HKR HB;have HP:=aC;have HO:=aD;have HKR:=aG;have HB:=aN;clear aC aD aG aN)
          go_roundw
          case measure=>have:=Hlt.out;simp [intOf];omega
          case rel=>exact ⟨j+1,by simp,⟨Hlt.out⟩,⟨by rw [Hup.out];exact HO.out⟩,HP,HKR,HB⟩
       ·have hd1:decide ((j:Int)<(l0.length:Int))=false:=decide_eq_false (by omega);have hd2:decide (j<l0.length)=false:=decide_eq_false hlt
        have hj:j=l0.length:=by have:=Hj.out;omega
        subst hj;go_wp2
        go_ret
        exact ⟨_,rfl,by rw [← dead.upto_all ks l0 HKS.out.1];exact HO.out,HB.out⟩
   ·rw [if_neg hn] at h3
    cases h3
  ·rw [if_neg hl] at h2
   cases h2
end
end Go.Proofs.Ytokajnfbiddpjaa.GSlim
