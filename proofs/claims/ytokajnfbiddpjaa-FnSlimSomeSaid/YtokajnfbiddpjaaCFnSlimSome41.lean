import Derived.Test.YtokajnfbiddpjaaCFnSlimSome21
import Derived.Test.YtokajnfbiddpjaaCFnSlimSome39
import Derived.Test.YtokajnfbiddpjaaCFnSlimSome40
set_option maxRecDepth 100000
namespace Go.Proofs.Ytokajnfbiddpjaa.GSlim
open Go.RowKit Go.Proofs.YtokajnfbiddpjaaW.PrintWords Go.Proofs.YtokajnfbiddpjaaW.PrintLast Go.Proofs.YtokajnfbiddpjaaW.PrintMore
attribute [local go_sem] Zx Zz Ul Um Zl Zm Zy Ua
set_option linter.unusedVariables false
set_option linter.unusedSimpArgs false
mutual
def Xx.l0:Nat→List (S31)→List Int→List Int→Option (Bool)
 |0,_,_,_=>none
 |k+1,x0,x3,x4=>if (x4.length:Int) > 0 then (if 0<(x4.length:Int) then (if 1≤(x4.length:Int) then (if 0≤(rd x4 0) then (if (rd x4 0)<(x0.length:Int) then (if (rd x4 0)<(x3.length:Int) then ((impl_Ins_moves.f ((Xb x0 (rd x4 0)).f0) ((Xb x0 (rd x4 0)).f1) ((Xb x0 (rd x4 0)).f2) ((Xb x0 (rd x4 0)).f3) (rd x3 (rd x4 0))).bind fun bX=>(if bX.2=true then ((Ui.f ((Xb x0 (rd x4 0)).f0) ((Xb x0 (rd x4 0)).f1) ((Xb x0 (rd x4 0)).f2) ((Xb x0 (rd x4 0)).f3) (rd x4 0)).bind fun aD=>(Xx.l1 k x0 x3 (x4.drop (1:Int).toNat) bX.1 aD (aD.length:Int) 0)) else (some false))) else (none)) else (none)) else (none)) else (none)) else (none)) else (some true)
def Xx.l1:Nat→List (S31)→List Int→List Int→Int→List Int→Int→Int→Option (Bool)
 |0,_,_,_,_,_,_,_=>none
 |k+1,x0,x3,x4,x6,dZ,jF,dQ=>if dQ<jF then (if 0≤dQ then (if dQ<(dZ.length:Int) then (if 0≤(rd dZ dQ) then (if (rd dZ dQ)<(x3.length:Int) then (if (rd x3 (rd dZ dQ))=(-2) then (if x4.length<17592186044416 then (Xx.l1 k x0 (x3.set ((rd dZ dQ):Int).toNat x6) (x4 ++ [rd dZ dQ]) x6 dZ jF (wrap64 (dQ+1))) else (none)) else (if (rd x3 (rd dZ dQ))=x6 then (Xx.l1 k x0 x3 x4 x6 dZ jF (wrap64 (dQ+1))) else (some false))) else (none)) else (none)) else (none)) else (none)) else (Xx.l0 k x0 x3 x4)
end
def Xx.f (k:Nat) (l0:List (S31)):Option (Bool):=(Xm.f (([(-2)]:List Int)) (l0.length:Int)).bind fun bA=>(if 0<(bA.length:Int) then (Xx.l0 k l0 (bA.set (0:Int).toNat (-1)) (([0]:List Int))) else (none))
def Xx.T7:Bool × List (List Nat × List Nat):=(true,[([],[]),([],[]),([0,1],[0,1]),([2],[2]),([],[]),([],[]),([4,5],[4,5]),([6],[6]),([3,7],[3,7]),([8],[8]),([9],[9]),([9],[9]),([10,8,0,1,2,3,4,5,6,7,8,9,10],[10]),([11,12,0,1,2,3,4,5,6,7,8,9,10,11,12],[11])])
def Xx.B7:List Nat:=[0,0,3,7,0,0,48,112,255,511,1023,1023,2047,8191]
theorem Xx.tab7:rtab .any (opsOf Try.f27 7)=Xx.T7:=by kernel_rfl
theorem Xx.bits7:waitsOk Xx.T7.2 Xx.B7=true:=by kernel_rfl
set_option maxHeartbeats 8000000 in
theorem Xx.calls (k:Nat) (A0:Option Addr) (c0:Nat) (l0:List (S31)) (r:Bool) (w:World) (hr0:Kd.C k31 w A0 l0.length l0) (hc0:l0.length≤c0) (h:Xx.f k l0=some r) :
  Calls Try.prog 27 #[.slice A0 l0.length c0] w fun e w'=>e=.returned (.bool r)∧Below w.heap.size w w':=by
 have hu31:=Try.underlying31;have iR:=Xa.mk hr0;have HC0:=Xa.mk hc0;clear hr0 hc0;have HB:=Xa.mk (Below.refl w.heap.size w);have H:((Xm.f (([(-2)]:List Int)) (l0.length:Int)).bind fun bA=>(if 0<(bA.length:Int) then (Xx.l0 k l0 (bA.set (0:Int).toNat (-1)) (([0]:List Int))) else (none)))=some r:=h;clear h;obtain ⟨dR,dK⟩:∃ y_:List Int,y_=(([(-2)]:List Int)):=⟨_,rfl⟩
 replace H:((Xm.f dR (l0.length:Int)).bind fun bA=>(if 0<(bA.length:Int) then (Xx.l0 k l0 (bA.set (0:Int).toNat (-1)) (([0]:List Int))) else (none)))=some r:=by subst dK;first|with_reducible exact H|(have z:=(Option.bind_some _ _).symm.trans H;with_reducible exact z)|exact H
 have eF:=Xa.mk dK;clear dK;replace H:=Option.bind_eq_some_iff.mp H;obtain ⟨bA,jH,H⟩:=H;replace H:(if 0<(bA.length:Int) then (Xx.l0 k l0 (bA.set (0:Int).toNat (-1)) (([0]:List Int))) else (none))=some r:=H;have A2:=Xa.mk jH;clear jH;by_cases c3:0<(bA.length:Int)
 ·rw [if_pos c3] at H;have gW:=decide_eq_true c3;have gX:decide (0<bA.length)=true:=decide_eq_true (by omega);clear c3;obtain ⟨d9,dL⟩:∃ y_:List Int,y_=(bA.set (0:Int).toNat (-1)):=⟨_,rfl⟩
  replace H:(Xx.l0 k l0 d9 (([0]:List Int)))=some r:=by subst dL;first|with_reducible exact H|(have z:=(Option.bind_some _ _).symm.trans H;with_reducible exact z)|exact H
  have fZ:=Xa.mk dL;clear dL;obtain ⟨iF,dM⟩:∃ y_:List Int,y_=(([0]:List Int)):=⟨_,rfl⟩
  replace H:(Xx.l0 k l0 d9 iF)=some r:=by subst dM;first|with_reducible exact H|(have z:=(Option.bind_some _ _).symm.trans H;with_reducible exact z)|exact H
  have eG:=Xa.mk dM;clear dM;have H':=Xa.mk H;clear H
  go_enter Try.func27,Try.ntmps27
  go_wp2_with (first|((with_reducible refine Xt (N:=10) rfl ?_);refine Kd.Vo (Kd.int .i64) _ 3 ?hg (N:=10) ?hd (xs:=([(-2)]:List Int)) (inner:=[.int .i64 (-2)]) (ok:=fun _=>True) (okp:=fun _=>True) ?hr ?hp (fun _ hk=>hk) trivial (Below.refl _ _) (Nat.le_refl _) (by simp) ?_;(case hd|hg=>rfl);(case hr=>exact hr_);(case hp=>exact (Yj.one (show Kd.M (Kd.int .i64) _ _ _ (-2) [.int .i64 (-2)] from rfl) (Yj.none _ _)));intro v308 w5 gY hb jA dH;clear jA dH;(first|rw [← eF.out] at gY|(simp only [Int.reduceToNat] at gY;rw [← eF.out] at gY));have bD:=Xa.mk (Kd.Yi gY (Xd (bl_ HB)));replace HB:=Xa.mk (Xe (bl_ HB) hb);clear hb gY;obtain ⟨iN,iU,jQ⟩:=Kd.Yo bD.out;subst jQ)|((with_reducible refine Xh (f:=48) rfl ?_);refine Ye (some 13) rfl rfl Try.func48 (by kernel_rfl) rfl #[.slice iN dR.length iU,.int .i64 (l0.length:Int)] rfl ga_ ?_;(with_reducible refine (Xm.calls _ _ dR (l0.length:Int) bA _ ?side1 ?side2 A2.out).mono ?_);(case side1=>exact Kd.ca_ (Kd.R_reads' bD.out).2.2);(case side2=>exact (Kd.R_reads' bD.out).2.1);rintro e w8 ⟨v311,rfl,ho0,hb⟩;refine ⟨_,rfl,?_⟩;have bE:=Xa.mk (Kd.Yi (Kd.R_new' ho0 (Kd.Uu (Kd.ra_ (bD.out)))) (Xd (bl_ HB)));replace bD:=Xa.mk (Kd.R_elder' (Kd.ra_ (bD.out)) (Kd.Yv ho0) hb);replace HB:=Xa.mk (Xe (bl_ HB) hb);clear hb ho0;have p4:0≤(0:Int):=(by omega);have q4:(0:Int)<((bA.length:Int):Int):=of_decide_eq_true (by assumption);have jM:(0<bA.length)=True:=eq_true (by omega);obtain ⟨bK,bY,jK,jL,jR,cl4,jJ⟩:=Kd.R_form bE.out (by omega);(first|cases jK|(injection jK with iK jP jO;(first|subst iK|(injection iK with iK;subst iK));subst jO;clear jP));have jI:=Xa.mk jL;have GG4:=Xa.mk jJ;clear jL jR jJ;obtain ⟨dF,eP⟩:=Kd.R_celln 0 bE.out (0:Int) p4 q4;(try rw [show ((0:Int)).toNat=0 from rfl] at dF);(try simp only [Nat.reduceMul,Nat.zero_mul,Nat.zero_add,Nat.reduceAdd] at dF);(try rw [show ((0:Int)).toNat=0 from rfl] at eP);(try simp only [Nat.reduceMul,Nat.zero_mul,Nat.zero_add,Nat.reduceAdd] at eP);replace p4:=eq_true p4;replace q4:=eq_true q4;replace bE:=Xa.mk (Kd.Xo (ok':=(fun k_=>some k_≠(.slice iN dR.length iU:Value).ownBlock)) bE.out (fun k_ hk=>hk.2));obtain ⟨iA,iB⟩:=Kd.R_celln 0 bE.out (0:Int) (by omega) (of_decide_eq_true (by assumption));(try simp only [Int.reduceToNat,Int.toNat_zero,Int.toNat_ofNat,Nat.reduceMul,Nat.zero_mul,Nat.zero_add] at iA iB);(try rw [show ((0:Int)).toNat=0 from rfl] at iA);(try rw [show ((0:Int)).toNat=0 from rfl] at iB);have iQ:=Kd.R_putg bE.out (0:Int) (-1))|((with_reducible refine Vn (t:=3) (p:=15) rfl ?_);refine Ve (t:=3) (p:=15) (v:=?vo_w10) (w1:=(w8.setCell ⟨bK,(0:Int).toNat,none⟩ (.int .i64 (-1)))) ?hg ?ho ?hn ?hr ?_;(case ho=>rfl);(case hg=>rfl);(case hn=>rfl);(case hr=>exact hr_);intro jD hw;have hg:w8.grownBy jD (some bK):=(by rw [hw];exact iQ.2);have gZ:Kd.R (Kd.int .i64) 3 jD w.heap.size (fun k_=>some k_≠(.slice iN dR.length iU:Value).ownBlock) (.slice (some ⟨bK,0,none⟩) bA.length bY) d9:=(by rw [hw,fZ.out];exact iQ.1);clear iQ;replace bD:=Xa.mk (Kd.Ue (v:=(.slice (some ⟨bK,0,none⟩) bA.length bY)) (v1:=(.slice (some ⟨bK,0,none⟩) bA.length bY)) (ok:=(fun _=>True)) (Kd.ra_ (bD.out)) hg (.inl rfl));replace bE:=Xa.mk (gZ);replace HB:=Xa.mk ((by rw [hw];exact Vk (HB.out) jI.out:Below w.heap.size w jD));clear hg hw gZ)|((with_reducible refine Xt (N:=16) rfl ?_);refine Kd.Vo (Kd.int .i64) _ 3 ?hg (N:=16) ?hd (xs:=([0]:List Int)) (inner:=[.int .i64 0]) (ok:=fun _=>True) (okp:=fun _=>True) ?hr ?hp (fun _ hk=>hk) trivial (Below.refl _ _) (Nat.le_refl _) (by simp) ?_;(case hd|hg=>rfl);(case hr=>exact hr_);(case hp=>exact (Yj.one (show Kd.M (Kd.int .i64) _ _ _ 0 [.int .i64 0] from rfl) (Yj.none _ _)));intro v315 w11 dC hb jA dH;clear jA dH;(first|rw [← eG.out] at dC|(simp only [Int.reduceToNat] at dC;rw [← eG.out] at dC));have fQ:=Xa.mk (Kd.Yi (Kd.R_new' (Kd.R_new' dC (Kd.Uu (Kd.ra_ (bD.out)))) (Kd.Uu (Kd.ra_ (bE.out)))) (Xd (bl_ HB)));replace bD:=Xa.mk (Kd.R_elder' (Kd.ra_ (bD.out)) (Kd.Yv dC) hb);replace bE:=Xa.mk (Kd.R_elder' (Kd.ra_ (bE.out)) (Kd.Yv dC) hb);replace HB:=Xa.mk (Xe (bl_ HB) hb);clear hb dC))
  go_loopg [4] k (fun kq v4 w'=>∃ (aW:List Int) (aA:List Int),Xa (Xx.l0 kq l0 aW aA=some r)∧Xa (kq≤k)∧Xa (Kd.R (Kd.int .i64) 3 w' w.heap.size (fun k_=>some k_≠(v4:Value).ownBlock) (.slice (some ⟨bK,0,none⟩) bA.length bY) aW)∧Xa (Kd.Q (Kd.int .i64) 3 w' w.heap.size (fun k_=>some k_≠((.slice (some ⟨bK,0,none⟩) bA.length bY):Value).ownBlock) v4 aA)∧Xa (Below w.heap.size w w'))
  case atStart=>exact ⟨(d9),(iF),H',⟨Nat.le_refl _⟩,⟨Kd.ra_ (Kd.Xo bE.out (fun _ hk=>hk.2))⟩,⟨Kd.Q_of_R (Kd.ra_ (Kd.Xo fQ.out (fun _ hk=>hk.2)))⟩,⟨bl_ HB⟩⟩
  case round=>
   clear H'
   try clear c3
   try clear gW
   try clear gX
   try clear p4
   try clear q4
   try clear jM
   try clear dF
   try clear p4
   try clear q4
   obtain ⟨aW,aA,HA,fK,aG,bC,HB⟩:=hrel;have aY:=(Kd.R_reads' aG.out).1;rw [aY] at aG
   (try simp only [aY])
   (try simp only [aY] at bC)
   cases gk with
   |zero=>exact absurd HA.out (by simp [Xx.l0])
   |succ k1=>
    have H:=HA.out;clear HA;simp only [Xx.l0] at H;by_cases c13:(aA.length:Int) > 0
    ·rw [if_pos c13] at H;have eH:=decide_eq_true c13;have eO:decide (0<aA.length)=true:=decide_eq_true (by omega);clear c13;by_cases c14:0<(aA.length:Int)
     ·rw [if_pos c14] at H;have gG:=decide_eq_true c14;have gH:decide (0<aA.length)=true:=decide_eq_true (by omega);clear c14;by_cases c15:1≤(aA.length:Int)
      ·rw [if_pos c15] at H;have gI:=eq_true c15;have gJ:=decide_eq_true c15;clear c15;obtain ⟨bJ,dN⟩:∃ y_:List Int,y_=(aA.drop (1:Int).toNat):=⟨_,rfl⟩
       replace H:(if 0≤(rd aA 0) then (if (rd aA 0)<(l0.length:Int) then (if (rd aA 0)<(aW.length:Int) then ((impl_Ins_moves.f ((Xb l0 (rd aA 0)).f0) ((Xb l0 (rd aA 0)).f1) ((Xb l0 (rd aA 0)).f2) ((Xb l0 (rd aA 0)).f3) (rd aW (rd aA 0))).bind fun bX=>(if bX.2=true then ((Ui.f ((Xb l0 (rd aA 0)).f0) ((Xb l0 (rd aA 0)).f1) ((Xb l0 (rd aA 0)).f2) ((Xb l0 (rd aA 0)).f3) (rd aA 0)).bind fun aD=>(Xx.l1 k1 l0 aW bJ bX.1 aD (aD.length:Int) 0)) else (some false))) else (none)) else (none)) else (none))=some r:=by subst dN;first|with_reducible exact H|(have z:=(Option.bind_some _ _).symm.trans H;with_reducible exact z)|exact H
       have dD:=Xa.mk dN;clear dN;by_cases c16:0≤(rd aA 0)
       ·rw [if_pos c16] at H;have gK:=decide_eq_true c16;clear c16;by_cases c17:(rd aA 0)<(l0.length:Int)
        ·rw [if_pos c17] at H;have gM:=decide_eq_true c17;clear c17;by_cases c18:(rd aA 0)<(aW.length:Int)
         ·rw [if_pos c18] at H;have gN:=decide_eq_true c18;clear c18;replace H:=Option.bind_eq_some_iff.mp H;obtain ⟨⟨bL,iE⟩,fO,H⟩:=H;replace H:(if iE=true then ((Ui.f ((Xb l0 (rd aA 0)).f0) ((Xb l0 (rd aA 0)).f1) ((Xb l0 (rd aA 0)).f2) ((Xb l0 (rd aA 0)).f3) (rd aA 0)).bind fun aD=>(Xx.l1 k1 l0 aW bJ bL aD (aD.length:Int) 0)) else (some false))=some r:=H;have jG:=Xa.mk fO;clear fO;by_cases c20:iE=true
          ·subst c20
           replace H:((Ui.f ((Xb l0 (rd aA 0)).f0) ((Xb l0 (rd aA 0)).f1) ((Xb l0 (rd aA 0)).f2) ((Xb l0 (rd aA 0)).f3) (rd aA 0)).bind fun aD=>(Xx.l1 k1 l0 aW bJ bL aD (aD.length:Int) 0))=some r:=(by rw [if_pos rfl] at H;exact H);replace H:=Option.bind_eq_some_iff.mp H;obtain ⟨aD,fP,H⟩:=H;replace H:(Xx.l1 k1 l0 aW bJ bL aD (aD.length:Int) 0)=some r:=H;have jN:=Xa.mk fP;clear fP;have H':=Xa.mk H;clear H;obtain ⟨Ao22,dS,iW,_⟩:=Kd.Q_slice bC.out;subst iW;have bZ:0≤(0:Int):=(by omega);have cO:0<(aA.length:Int):=of_decide_eq_true (by assumption);obtain ⟨bG,e317,bH⟩:=Kd.Ur (Kd.Q_reads' bC.out).2.2 0 bZ cO;cases e317
           have iD:(0<aA.length)=True:=eq_true (by omega)
           (try rw [show ((0:Int)).toNat=0 from rfl] at bH)
           (try rw [Addr.add_zero'] at bH)
           replace bZ:=eq_true bZ;replace cO:=eq_true cO;have iC:(1:Int)≤((aA.length:Int):Int):=of_decide_eq_true (by assumption);obtain ⟨i023,eQ,_,eU,_⟩:=info_parts info3;have fG:=cut_from (P:=Try.prog) 54 3 .i64 Try.underlying54 eQ 1 eU (some bG) aA.length dS 1 (by omega) iC;have dI:=Kd.Q_drop (k:=(1:Int).toNat) bC.out (by omega);obtain ⟨iL,dV⟩:∃ A1,A1=(if dS=(1:Int).toNat then (some bG) else ((some bG):Option Addr).map (·.add ((1:Int).toNat * 1))):=⟨_,rfl⟩;obtain ⟨c23,fE⟩:∃ c1,c1=dS - (1:Int).toNat:=⟨_,rfl⟩;have fI:bJ.length=aA.length - (1:Int).toNat:=(by rw [dD.out,List.length_drop]);rw [← dD.out] at dI;rw [← fI,← dV,← fE] at fG;replace dI:Kd.Q (Kd.int .i64) 3 wr w.heap.size (fun k_=>some k_≠(.slice (some ⟨bK,0,none⟩) aW.length bY:Value).ownBlock) (.slice iL bJ.length c23) bJ:=(by rw [dV,fE,fI];exact dI);have iO:Xa ((Value.slice iL bJ.length c23).ownBlock=(.slice (some bG) aA.length dS:Value).ownBlock):=⟨by rw [dV];split <;> (cases ((some bG):Option Addr) <;> rfl)⟩;clear fI eQ eU bC dV fE;have aX:=Xa.mk dI;clear dI;replace iC:=eq_true iC;replace aG:=Xa.mk (Kd.Xo (ok':=fun k_=>some k_≠(.slice iL bJ.length c23:Value).ownBlock) aG.out (fun k_ hk=>(by rw [iO.out];exact hk)))
           try go_wp2
           replace aG:=Xa.mk (Kd.Uz aG.out);replace aX:=Xa.mk (Kd.Q_drew aX.out);replace HB:=Xa.mk (below_drew1 HB.out);have cB:0≤((rd aA 0):Int):=of_decide_eq_true (by assumption);have cZ:(rd aA 0)<(l0.length:Int):=of_decide_eq_true (by assumption);obtain ⟨aQ,e321,aJ,aK,aM,aN⟩:=Zv iR.out (rd aA 0) cB cZ;have aV:=aN;have aU:=aM;have aT:=aK;have aR:=aJ;cases e321
           replace aJ:=bw_ HB aJ;replace aK:=bw_ HB aK;replace aM:=bw_ HB aM;replace aN:=bw_ HB aN;replace cB:=eq_true cB;replace cZ:=eq_true cZ;have cK:0≤((rd aA 0):Int):=of_decide_eq_true (by assumption);have dA:(rd aA 0)<(aW.length:Int):=of_decide_eq_true (by assumption);obtain ⟨dG,fD,aH⟩:=Kd.Ur (Kd.R_reads' aG.out).2.2 (rd aA 0) cK dA;obtain rfl:(⟨bK,0,none⟩:Addr)=dG:=(by injection fD)
           (first|simp only [add_plain] at aH|simp only [add_at] at aH|simp only [Addr.add,Nat.zero_add] at aH|skip)
           replace cK:=eq_true cK;replace dA:=eq_true dA;refine start_ (n:=14) (S:=fun w'=>w'.cell? (aQ.add (((rd aA 0)).toNat * 4))=some (.int .i64 ((Xb l0 (rd aA 0)).f0))∧w'.cell? ⟨(aQ.add (((rd aA 0)).toNat * 4)).block,(aQ.add (((rd aA 0)).toNat * 4)).off+1,none⟩=some (.int .i64 ((Xb l0 (rd aA 0)).f1))∧w'.cell? ⟨(aQ.add (((rd aA 0)).toNat * 4)).block,(aQ.add (((rd aA 0)).toNat * 4)).off+2,none⟩=some (.int .i64 ((Xb l0 (rd aA 0)).f2))∧w'.cell? ⟨(aQ.add (((rd aA 0)).toNat * 4)).block,(aQ.add (((rd aA 0)).toNat * 4)).off+3,none⟩=some (.int .i64 ((Xb l0 (rd aA 0)).f3))∧w'.cell? ⟨bK,((rd aA 0)).toNat,none⟩=some (.int .i64 (rd aW (rd aA 0)))) (ds:=[]) #[false,false,false,false,false,false,false,false,false,false,false,false,false,false] (by kernel_rfl) rfl rfl ⟨((HB.out.cell (World.block_lt_of_cell? w _ aR)).trans aR),((HB.out.cell (World.block_lt_of_cell? w _ aT)).trans aT),((HB.out.cell (World.block_lt_of_cell? w _ aU)).trans aU),((HB.out.cell (World.block_lt_of_cell? w _ aV)).trans aV),aH⟩ (fun hHeld=>?_);refine with_tabW Xx.tab7 Xx.bits7 (fun bI fU=>?_)
           generalize wr.drew=w24 at aG aX HB aJ aK aM aN aH hHeld ⊢
           refine Za (i:=0) (N:=some 26) (v:=?_) (a':=?_) #[true,false,false,false,false,false,false,false,false,false,false,false,false,false] rfl rfl (Zk bI.out (by kernel_rfl)) (fun _ _ _ h=>h) (Or.inl ⟨by rfl,?_⟩) ?_ ?_
           rotate_left
           · exact wr_
           rotate_left
           · exact ap_
           refine Za (i:=1) (N:=some 27) (v:=?_) (a':=?_) #[true,true,false,false,false,false,false,false,false,false,false,false,false,false] rfl rfl (Zk bI.out (by kernel_rfl)) (fun _ _ _ h=>h) (Or.inl ⟨by rfl,?_⟩) ?_ ?_
           rotate_left
           · exact wr_
           rotate_left
           · exact ap_
           refine Za (i:=2) (N:=some 28) (v:=?_) (a':=?_) #[true,true,true,false,false,false,false,false,false,false,false,false,false,false] rfl rfl (Zk bI.out (by kernel_rfl)) (fun _ _ _ h=>h) (Or.inl ⟨by rfl,?_⟩) ?_ ?_
           rotate_left
           · exact wr_
           rotate_left
           · exact ap_
           refine Za (i:=4) (N:=some 30) (v:=?_) (a':=?_) #[true,true,true,false,true,false,false,false,false,false,false,false,false,false] rfl rfl (Zk bI.out (by kernel_rfl)) (fun _ _ _ h=>h) (Or.inl ⟨by rfl,?_⟩) ?_ ?_
           rotate_left
           · exact wr_
           rotate_left
           · exact ap_
           refine Za (i:=5) (N:=some 31) (v:=?_) (a':=?_) #[true,true,true,false,true,true,false,false,false,false,false,false,false,false] rfl rfl (Zk bI.out (by kernel_rfl)) (fun _ _ _ h=>h) (Or.inl ⟨by rfl,?_⟩) ?_ ?_
           rotate_left
           · exact wr_
           rotate_left
           · exact ap_
           refine Za (i:=6) (N:=some 32) (v:=?_) (a':=?_) #[true,true,true,false,true,true,true,false,false,false,false,false,false,false] rfl rfl (Zk bI.out (by kernel_rfl)) (fun _ _ _ h=>h) (Or.inl ⟨by rfl,?_⟩) ?_ ?_
           rotate_left
           · exact wr_
           rotate_left
           · exact ap_
           refine take_ (i:=3) (N:=some 29) (v:=?_) (a':=?_) #[true,true,true,true,true,true,true,false,false,false,false,false,false,false] rfl rfl (take_ofW bI.out fU.out (by kernel_rfl)) (fun _ _ _ h=>h) (Or.inl ⟨by rfl,?_⟩) hHeld ?_ ?_
           rotate_left
           ·rintro w' ⟨s0,s1,s2,s3,s4⟩
            go_simp
            with_reducible rfl
           rotate_left
           · exact ap_
           refine take_ (i:=7) (N:=some 33) (v:=?_) (a':=?_) #[true,true,true,true,true,true,true,true,false,false,false,false,false,false] rfl rfl (take_ofW bI.out fU.out (by kernel_rfl)) (fun _ _ _ h=>h) (Or.inl ⟨by rfl,?_⟩) hHeld ?_ ?_
           rotate_left
           ·rintro w' ⟨s0,s1,s2,s3,s4⟩
            go_simp
            with_reducible rfl
           rotate_left
           · exact ap_
           refine one_ (i:=8) (N:=some 34) #[true,true,true,true,true,true,true,true,true,false,false,false,false,false] rfl rfl (one_of bI.out (by kernel_rfl)) (by decide) (fun K hK=>?_)
           refine goes_ Try.func49 (by kernel_rfl) rfl #[.agg #[.int .i64 ((Xb l0 (rd aA 0)).f0),.int .i64 ((Xb l0 (rd aA 0)).f1),.int .i64 ((Xb l0 (rd aA 0)).f2),.int .i64 ((Xb l0 (rd aA 0)).f3)],.int .i64 (rd aW (rd aA 0))] (by rfl) rfl rfl ga_ ?_
           with_reducible refine (impl_Ins_moves.calls ((Xb l0 (rd aA 0)).f0) ((Xb l0 (rd aA 0)).f1) ((Xb l0 (rd aA 0)).f2) ((Xb l0 (rd aA 0)).f3) (rd aW (rd aA 0)) bL true _ jG.out).mono ?_
           rintro e w25 ⟨rfl,hb⟩
           have fA:=(hb.cell (World.block_lt_of_cell? _ _ (hHeld.2.2.2.2))).trans (hHeld.2.2.2.2);refine ⟨_,rfl,?_⟩
           replace aG:=Xa.mk (Kd.Zf (Kd.ra_ (aG.out)) hb);replace aX:=Xa.mk (Kd.Q_below (Kd.qa_ (aX.out)) hb);replace HB:=Xa.mk (Xe (bl_ HB) hb)
           clear hb
           skip
           skip
           skip
           refine hK.out _ _ ⟨((HB.out.cell (World.block_lt_of_cell? w _ aR)).trans aR),((HB.out.cell (World.block_lt_of_cell? w _ aT)).trans aT),((HB.out.cell (World.block_lt_of_cell? w _ aU)).trans aU),((HB.out.cell (World.block_lt_of_cell? w _ aV)).trans aV),fA⟩ (fun hHeld=>?_)
           clear hK K;refine norm_ (a':=?_) ?_ ?_
           rotate_left
           ·show Act.put _ (some 34) _=_
            simp only [Act.put,List.setIfInBounds_toArray,List.set_cons_zero,List.set_cons_succ,Ub,Uf];rfl
           refine Za (i:=9) (N:=some 25) (v:=?_) (a':=?_) #[true,true,true,true,true,true,true,true,true,true,false,false,false,false] rfl rfl (Zk bI.out (by kernel_rfl)) (fun _ _ _ h=>h) (Or.inl ⟨by rfl,?_⟩) ?_ ?_
           rotate_left
           · exact wr_
           rotate_left
           · exact ap_
           refine Za (i:=10) (N:=some 35) (v:=?_) (a':=?_) #[true,true,true,true,true,true,true,true,true,true,true,false,false,false] rfl rfl (Zk bI.out (by kernel_rfl)) (fun _ _ _ h=>h) (Or.inl ⟨by rfl,?_⟩) ?_ ?_
           rotate_left
           · exact wr_
           rotate_left
           · exact ap_
           refine Za (i:=11) (N:=some 36) (v:=?_) (a':=?_) #[true,true,true,true,true,true,true,true,true,true,true,true,false,false] rfl rfl (Zk bI.out (by kernel_rfl)) (fun _ _ _ h=>h) (Or.inl ⟨by rfl,?_⟩) ?_ ?_
           rotate_left
           · exact wr_
           rotate_left
           · exact ap_
           refine Za (i:=12) (N:=some 6) (v:=?_) (a':=?_) #[true,true,true,true,true,true,true,true,true,true,true,true,true,false] rfl rfl (Zk bI.out (by kernel_rfl)) (fun _ _ _ h=>h) (Or.inl ⟨by rfl,?_⟩) ?_ ?_
           rotate_left
           · exact wr_
           rotate_left
           · exact ap_
           refine Za (i:=13) (N:=some 7) (v:=?_) (a':=?_) #[true,true,true,true,true,true,true,true,true,true,true,true,true,true] rfl rfl (Zk bI.out (by kernel_rfl)) (fun _ _ _ h=>h) (Or.inl ⟨by rfl,?_⟩) ?_ ?_
           rotate_left
           · exact wr_
           rotate_left
           · exact ap_
           refine done_ (done_of bI.out (by kernel_rfl)) ?_
           have dX:0≤((rd aA 0):Int):=of_decide_eq_true (by assumption);have dY:(rd aA 0)<(l0.length:Int):=of_decide_eq_true (by assumption);obtain ⟨gF,iV,bS,bT,bU,bV⟩:=Zv iR.out (rd aA 0) dX dY;obtain rfl:aQ=gF:=(by injection iV);replace bS:=bw_ HB bS;replace bT:=bw_ HB bT;replace bU:=bw_ HB bU;replace bV:=bw_ HB bV;replace dX:=eq_true dX;replace dY:=eq_true dY
           try go_wp2_with (first|((with_reducible refine Xh (f:=50) rfl ?_);refine Ye (some 44) rfl rfl Try.func50 (by kernel_rfl) rfl #[.agg #[.int .i64 ((Xb l0 (rd aA 0)).f0),.int .i64 ((Xb l0 (rd aA 0)).f1),.int .i64 ((Xb l0 (rd aA 0)).f2),.int .i64 ((Xb l0 (rd aA 0)).f3)],.int .i64 (rd aA 0)] rfl ga_ ?_;(with_reducible refine (Ui.calls ((Xb l0 (rd aA 0)).f0) ((Xb l0 (rd aA 0)).f1) ((Xb l0 (rd aA 0)).f2) ((Xb l0 (rd aA 0)).f3) (rd aA 0) aD _ jN.out).mono ?_);rintro e w26 ⟨v327,rfl,ho0,hb⟩;refine ⟨_,rfl,?_⟩;have eD:=Xa.mk (Kd.Yi (Kd.R_new' (Kd.R_new' ho0 (Kd.Uu (Kd.ra_ (aG.out)))) (Kd.Q_lt (Kd.qa_ (aX.out)))) (Xd (bl_ HB)));replace aG:=Xa.mk (Kd.R_elder' (Kd.ra_ (aG.out)) (Kd.Yv ho0) hb);replace aX:=Xa.mk (Kd.Q_elder' (Kd.qa_ (aX.out)) (Kd.Yv ho0) hb);replace HB:=Xa.mk (Xe (bl_ HB) hb);clear hb ho0;obtain ⟨eY,dB,iX⟩:=Kd.Yo eD.out;subst iX))
           go_loopg [4,46] k1 (fun kq v4 v46 w'=>∃ (bB:List Int) (bQ:List Int) (aC:Int),v46=.int .i64 aC∧Xa (Xx.l1 kq l0 bB bQ bL aD (aD.length:Int) aC=some r)∧Xa (kq≤k1)∧Xa (Kd.R (Kd.int .i64) 3 w' w.heap.size (fun k_=>some k_≠(v4:Value).ownBlock∧some k_≠((.slice eY aD.length dB):Value).ownBlock) (.slice (some ⟨bK,0,none⟩) aW.length bY) bB)∧Xa (Kd.Q (Kd.int .i64) 3 w' w.heap.size (fun k_=>some k_≠((.slice (some ⟨bK,0,none⟩) aW.length bY):Value).ownBlock∧some k_≠((.slice eY aD.length dB):Value).ownBlock) v4 bQ)∧Xa (Kd.R (Kd.int .i64) 3 w' w.heap.size (fun k_=>some k_≠((.slice (some ⟨bK,0,none⟩) aW.length bY):Value).ownBlock∧some k_≠(v4:Value).ownBlock) (.slice eY aD.length dB) aD)∧Xa (Below w.heap.size w w'))
           case atStart=>exact ⟨(aW),(bJ),(0),rg_,H',⟨Nat.le_refl _⟩,⟨by (try simp only [aY]);(with_reducible repeat (first|apply Kd.Uh|apply Kd.Ug|apply Kd.Uz));exact aG.out⟩,⟨by (try simp only [aY]);(with_reducible repeat (first|apply Kd.Q_alloc|apply Kd.Q_drewN|apply Kd.Q_drew));exact aX.out⟩,⟨by (try simp only [aY]);(with_reducible repeat (first|apply Kd.Uh|apply Kd.Ug|apply Kd.Uz));exact Kd.Xo eD.out (fun _ hk=>⟨hk.1.2,hk.2⟩)⟩,⟨bl_ HB⟩⟩
           case round=>
            clear H'
            try clear c1
            try clear c3
            try clear gW
            try clear gX
            try clear p4
            try clear q4
            try clear jM
            try clear c13
            try clear eH
            try clear eO
            try clear c14
            try clear gG
            try clear gH
            try clear c15
            try clear gI
            try clear gJ
            try clear c16
            try clear gK
            try clear c17
            try clear gM
            try clear c18
            try clear gN
            try clear c20
            try clear c23
            try clear iC
            try clear bH
            try clear aJ
            try clear aK
            try clear aM
            try clear aN
            try clear aH
            try clear bS
            try clear bT
            try clear bU
            try clear bV
            try clear dF
            try clear bZ
            try clear cB
            try clear cK
            try clear dX
            try clear p4
            try clear iC
            try clear cO
            try clear cZ
            try clear dA
            try clear dY
            try clear q4
            obtain ⟨bB,bQ,aC,rfl,HA,fM,aG,bC,bF,HB⟩:=hrel;have aZ:=(Kd.R_reads' aG.out).1;rw [aZ] at aG
            (try simp only [aZ])
            (try simp only [aZ] at bC)
            (try simp only [aZ] at bF)
            cases gk with
            |zero=>exact absurd HA.out (by simp [Xx.l1])
            |succ k2=>
             have H:=HA.out;clear HA;simp only [Xx.l1] at H;by_cases c28:aC<(aD.length:Int)
             ·rw [if_pos c28] at H;have gP:=decide_eq_true c28;clear c28;by_cases iH:0≤aC
              ·rw [if_pos iH] at H;replace iH:=decide_eq_true iH;by_cases iI:aC<(aD.length:Int)
               ·rw [if_pos iI] at H;replace iI:=decide_eq_true iI;by_cases c31:0≤(rd aD aC)
                ·rw [if_pos c31] at H;replace c31:=decide_eq_true c31;by_cases c32:(rd aD aC)<(bB.length:Int)
                 ·rw [if_pos c32] at H;replace c32:=decide_eq_true c32;by_cases fB:(rd bB (rd aD aC))=(-2)
                  ·rw [if_pos fB] at H;have gQ:=beq_iff_eq.mpr fB;have gT:=bne_eq_false_iff_eq.mpr fB;clear fB;obtain ⟨eB,dO⟩:∃ y_:List Int,y_=(bB.set ((rd aD aC):Int).toNat bL):=⟨_,rfl⟩
                   replace H:(if bQ.length<17592186044416 then (Xx.l1 k2 l0 eB (bQ ++ [rd aD aC]) bL aD (aD.length:Int) (wrap64 (aC+1))) else (none))=some r:=by subst dO;first|with_reducible exact H|(have z:=(Option.bind_some _ _).symm.trans H;with_reducible exact z)|exact H
                   have gB:=Xa.mk dO;clear dO;by_cases iJ:bQ.length<17592186044416
                   ·rw [if_pos iJ] at H;have fV:=Xa.mk iJ;clear iJ;obtain ⟨iG,dP⟩:∃ y_:List Int,y_=(bQ ++ [rd aD aC]):=⟨_,rfl⟩
                    replace H:(Xx.l1 k2 l0 eB iG bL aD (aD.length:Int) (wrap64 (aC+1)))=some r:=by subst dP;first|with_reducible exact H|(have z:=(Option.bind_some _ _).symm.trans H;with_reducible exact z)|exact H
                    have gD:=Xa.mk dP;clear dP;have H':=Xa.mk H;clear H;have bM:0≤(aC:Int):=of_decide_eq_true (by assumption);have bO:aC<(aD.length:Int):=of_decide_eq_true (by assumption);obtain ⟨bR,e329,dE⟩:=Kd.Ur (Kd.R_reads' bF.out).2.2 aC bM bO;cases e329
                    replace bM:=eq_true bM;replace bO:=eq_true bO;have bN:0≤((rd aD aC):Int):=of_decide_eq_true (by assumption);have bP:(rd aD aC)<(bB.length:Int):=of_decide_eq_true (by assumption);obtain ⟨bW,e330,aI⟩:=Kd.Ur (Kd.R_reads' aG.out).2.2 (rd aD aC) bN bP;obtain rfl:(⟨bK,0,none⟩:Addr)=bW:=(by injection e330)
                    (first|simp only [add_plain] at aI|simp only [add_at] at aI|simp only [Addr.add,Nat.zero_add] at aI|skip)
                    replace bN:=eq_true bN;replace bP:=eq_true bP;have p34:0≤((rd aD aC):Int):=of_decide_eq_true (by assumption);have jB:((rd aD aC):Int)<((bB.length:Int):Int):=of_decide_eq_true (by assumption);obtain ⟨hx34_0,hf34_0⟩:=Kd.R_celln 0 aG.out ((rd aD aC):Int) p34 jB;replace p34:=eq_true p34;replace jB:=eq_true jB;have eZ:=Kd.R_putg aG.out ((rd aD aC):Int) bL;go_wp2_with (first|((with_reducible refine Vn (t:=3) (p:=59) rfl ?_);refine Ve (t:=3) (p:=59) (v:=?vo_w37) (w1:=(wr.setCell ⟨bK,((rd aD aC):Int).toNat,none⟩ (.int .i64 bL))) ?hg ?ho ?hn ?hr ?_;(case ho=>rfl);(case hg=>rfl);(case hn=>rfl);(case hr=>exact hr_);intro jE hw;have hg:wr.grownBy jE (some bK):=(by rw [hw];exact eZ.2);have gZ:Kd.R (Kd.int .i64) 3 jE w.heap.size (fun k_=>some k_≠(u4:Value).ownBlock∧some k_≠(.slice (some bR) aD.length dB:Value).ownBlock) (.slice (some ⟨bK,0,none⟩) bB.length bY) eB:=(by rw [hw,gB.out];exact eZ.1);clear eZ;replace aG:=Xa.mk (gZ);replace bC:=Xa.mk (Kd.Q_after (v:=(.slice (some ⟨bK,0,none⟩) bB.length bY)) (v1:=(.slice (some ⟨bK,0,none⟩) bB.length bY)) (ok:=(fun k_=>some k_≠(.slice (some bR) aD.length dB:Value).ownBlock)) (Kd.qa_ (Kd.Q_mono bC.out (fun _ hk=>⟨hk.2,hk.1⟩))) hg (.inl rfl));replace bF:=Xa.mk (Kd.Ue (v:=(.slice (some ⟨bK,0,none⟩) bB.length bY)) (v1:=(.slice (some ⟨bK,0,none⟩) bB.length bY)) (ok:=(fun k_=>some k_≠(u4:Value).ownBlock)) (Kd.ra_ (Kd.Xo bF.out (fun _ hk=>⟨hk.2,hk.1⟩))) hg (.inl rfl));replace HB:=Xa.mk ((by rw [hw];exact Vk (HB.out) jI.out:Below w.heap.size w jE));clear hg hw gZ)|((with_reducible refine Yp (b:=.append) (xs:=#[.tmp 60,.tmp 62]) rfl ?_);at_builtin;refine Kd.Q_append (Kd.int .i64) (w0:=w) w.heap.size rfl (.tmp 60) (.tmp 62) 54 3 (.int .i64 0) 8 rfl Try.underlying54 info3 rfl (by decide) (by omega) u4 bQ (rd aD aC) [.int .i64 (rd aD aC)] (fun k_=>some k_≠(.slice (some ⟨bK,0,none⟩) bB.length bY:Value).ownBlock∧some k_≠(.slice (some bR) aD.length dB:Value).ownBlock) (fun _=>False) rfl rfl ?aP (fun _ hk=>hk.elim) ?aF ?aO ?aB ?aS ?aL ?_;(case aP=>exact rfl);(case aB=>exact (bl_ HB));(case aF=>exact (fun k_ hk=>⟨Kd.fresh' (Kd.Uu (Kd.ra_ (aG.out))) k_ hk,Kd.fresh' (Kd.Uu (Kd.ra_ (bF.out))) k_ hk⟩));(case aO=>exact (Kd.qa_ (Kd.Q_mono bC.out (fun _ hk=>⟨hk.2,hk.1⟩))));(case aS=>exact (Xd (bl_ HB)));(case aL=>have:=fV.out;omega);intro v333 w38 ho hb hg hat;rw [← gD.out] at ho;replace aG:=Xa.mk (Kd.Ue (ok:=(fun k_=>some k_≠(.slice (some bR) aD.length dB:Value).ownBlock)) (Kd.ra_ (Kd.Xo aG.out (fun _ hk=>⟨hk.2,hk.1⟩))) hg hat);replace bF:=Xa.mk (Kd.Ue (ok:=(fun k_=>some k_≠(.slice (some ⟨bK,0,none⟩) bB.length bY:Value).ownBlock)) (Kd.ra_ (Kd.Xo bF.out (fun _ hk=>⟨hk.2,hk.1⟩))) hg hat);replace HB:=Xa.mk (hb);have fT:=Xa.mk (ho);clear bC ho hb hg hat))
                    (try simp only [← aZ])
                    go_roundg k2
                    case measure=>have:=fK.out;have:=fM.out;omega
                    case rel=>exact ⟨(eB),(iG),(wrap64 (aC+1)),rg_,H',⟨by have:=fK.out;have:=fM.out;omega⟩,⟨by (try simp only [aY]);(try simp only [aZ]);(with_reducible repeat (first|apply Kd.Uh|apply Kd.Ug|apply Kd.Uz));exact Kd.Xo aG.out (fun _ hk=>⟨hk.2,hk.1⟩)⟩,⟨by (try simp only [aY]);(try simp only [aZ]);(with_reducible repeat (first|apply Kd.Q_alloc|apply Kd.Q_drewN|apply Kd.Q_drew));exact fT.out⟩,⟨by (try simp only [aY]);(try simp only [aZ]);(with_reducible repeat (first|apply Kd.Uh|apply Kd.Ug|apply Kd.Uz));exact bF.out⟩,⟨bl_ HB⟩⟩
                   ·rw [if_neg iJ] at H;exact absurd H (by simp)
                  ·rw [if_neg fB] at H;have gQ:=beq_eq_false_iff_ne.mpr fB;have gT:=bne_iff_ne.mpr fB;by_cases fC:(rd bB (rd aD aC))=bL
                   ·rw [if_pos fC] at H;have gU:=beq_iff_eq.mpr fC;have gV:=bne_eq_false_iff_eq.mpr fC;clear fC;have H':=Xa.mk H;clear H;have bM:0≤(aC:Int):=of_decide_eq_true (by assumption);have bO:aC<(aD.length:Int):=of_decide_eq_true (by assumption);obtain ⟨bR,e329,dE⟩:=Kd.Ur (Kd.R_reads' bF.out).2.2 aC bM bO;cases e329
                    replace bM:=eq_true bM;replace bO:=eq_true bO;have bN:0≤((rd aD aC):Int):=of_decide_eq_true (by assumption);have bP:(rd aD aC)<(bB.length:Int):=of_decide_eq_true (by assumption);obtain ⟨bW,e330,aI⟩:=Kd.Ur (Kd.R_reads' aG.out).2.2 (rd aD aC) bN bP;obtain rfl:(⟨bK,0,none⟩:Addr)=bW:=(by injection e330)
                    (first|simp only [add_plain] at aI|simp only [add_at] at aI|simp only [Addr.add,Nat.zero_add] at aI|skip)
                    replace bN:=eq_true bN;replace bP:=eq_true bP;go_wp2
                    (try simp only [← aZ])
                    go_roundg k2
                    case measure=>have:=fK.out;have:=fM.out;omega
                    case rel=>exact ⟨(bB),(bQ),(wrap64 (aC+1)),rg_,H',⟨by have:=fK.out;have:=fM.out;omega⟩,⟨by (try simp only [aY]);(try simp only [aZ]);(with_reducible repeat (first|apply Kd.Uh|apply Kd.Ug|apply Kd.Uz));exact aG.out⟩,⟨by (try simp only [aY]);(try simp only [aZ]);(with_reducible repeat (first|apply Kd.Q_alloc|apply Kd.Q_drewN|apply Kd.Q_drew));exact bC.out⟩,⟨by (try simp only [aY]);(try simp only [aZ]);(with_reducible repeat (first|apply Kd.Uh|apply Kd.Ug|apply Kd.Uz));exact bF.out⟩,⟨bl_ HB⟩⟩
                   ·rw [if_neg fC] at H;have gU:=beq_eq_false_iff_ne.mpr fC;have gV:=bne_iff_ne.mpr fC;obtain rfl:=Option.some.inj H;have bM:0≤(aC:Int):=of_decide_eq_true (by assumption);have bO:aC<(aD.length:Int):=of_decide_eq_true (by assumption);obtain ⟨bR,e329,dE⟩:=Kd.Ur (Kd.R_reads' bF.out).2.2 aC bM bO;cases e329
                    replace bM:=eq_true bM;replace bO:=eq_true bO;have bN:0≤((rd aD aC):Int):=of_decide_eq_true (by assumption);have bP:(rd aD aC)<(bB.length:Int):=of_decide_eq_true (by assumption);obtain ⟨bW,e330,aI⟩:=Kd.Ur (Kd.R_reads' aG.out).2.2 (rd aD aC) bN bP;obtain rfl:(⟨bK,0,none⟩:Addr)=bW:=(by injection e330)
                    (first|simp only [add_plain] at aI|simp only [add_at] at aI|simp only [Addr.add,Nat.zero_add] at aI|skip)
                    replace bN:=eq_true bN;replace bP:=eq_true bP;go_wp2
                    go_ret
                    exact ⟨rf_,bl_ HB⟩
                 ·rw [if_neg c32] at H;exact absurd H (by simp)
                ·rw [if_neg c31] at H;exact absurd H (by simp)
               ·rw [if_neg iI] at H;exact absurd H (by simp)
              ·rw [if_neg iH] at H;exact absurd H (by simp)
             ·rw [if_neg c28] at H;have gP:=decide_eq_false c28;clear c28;have H':=Xa.mk H;clear H;go_wp2
              (try simp only [← aY,← aZ])
              go_roundg k2
              case measure=>have:=fK.out;have:=fM.out;omega
              case rel=>exact ⟨(bB),(bQ),H',⟨by have:=fK.out;have:=fM.out;omega⟩,⟨by (try simp only [aY]);(try simp only [aZ]);(with_reducible repeat (first|apply Kd.Uh|apply Kd.Ug|apply Kd.Uz));exact Kd.Xo aG.out (fun _ hk=>hk.1)⟩,⟨by (try simp only [aY]);(try simp only [aZ]);(with_reducible repeat (first|apply Kd.Q_alloc|apply Kd.Q_drewN|apply Kd.Q_drew));exact Kd.Q_mono bC.out (fun _ hk=>hk.1)⟩,⟨bl_ HB⟩⟩
          ·replace c20:=Bool.eq_false_iff.mpr c20;subst c20
           replace H:(some false)=some r:=(by rw [if_neg (show ¬ (false=true) by decide)] at H;exact H);obtain rfl:=Option.some.inj H;obtain ⟨Ao40,dU,iY,_⟩:=Kd.Q_slice bC.out;subst iY;have bZ:0≤(0:Int):=(by omega);have cO:0<(aA.length:Int):=of_decide_eq_true (by assumption);obtain ⟨bG,e317,bH⟩:=Kd.Ur (Kd.Q_reads' bC.out).2.2 0 bZ cO;cases e317
           have iD:(0<aA.length)=True:=eq_true (by omega)
           (try rw [show ((0:Int)).toNat=0 from rfl] at bH)
           (try rw [Addr.add_zero'] at bH)
           replace bZ:=eq_true bZ;replace cO:=eq_true cO;have jC:(1:Int)≤((aA.length:Int):Int):=of_decide_eq_true (by assumption);obtain ⟨i041,eT,_,eX,_⟩:=info_parts info3;have fH:=cut_from (P:=Try.prog) 54 3 .i64 Try.underlying54 eT 1 eX (some bG) aA.length dU 1 (by omega) jC;have dJ:=Kd.Q_drop (k:=(1:Int).toNat) bC.out (by omega);obtain ⟨iM,dW⟩:∃ A1,A1=(if dU=(1:Int).toNat then (some bG) else ((some bG):Option Addr).map (·.add ((1:Int).toNat * 1))):=⟨_,rfl⟩;obtain ⟨iT,fF⟩:∃ c1,c1=dU - (1:Int).toNat:=⟨_,rfl⟩;have fJ:bJ.length=aA.length - (1:Int).toNat:=(by rw [dD.out,List.length_drop]);rw [← dD.out] at dJ;rw [← fJ,← dW,← fF] at fH;replace dJ:Kd.Q (Kd.int .i64) 3 wr w.heap.size (fun k_=>some k_≠(.slice (some ⟨bK,0,none⟩) aW.length bY:Value).ownBlock) (.slice iM bJ.length iT) bJ:=(by rw [dW,fF,fJ];exact dJ);have iP:Xa ((Value.slice iM bJ.length iT).ownBlock=(.slice (some bG) aA.length dU:Value).ownBlock):=⟨by rw [dW];split <;> (cases ((some bG):Option Addr) <;> rfl)⟩;clear fJ eT eX bC dW fF;have aX:=Xa.mk dJ;clear dJ;replace jC:=eq_true jC;replace aG:=Xa.mk (Kd.Xo (ok':=fun k_=>some k_≠(.slice iM bJ.length iT:Value).ownBlock) aG.out (fun k_ hk=>(by rw [iP.out];exact hk)))
           try go_wp2
           replace aG:=Xa.mk (Kd.Uz aG.out);replace aX:=Xa.mk (Kd.Q_drew aX.out);replace HB:=Xa.mk (below_drew1 HB.out);have cB:0≤((rd aA 0):Int):=of_decide_eq_true (by assumption);have cZ:(rd aA 0)<(l0.length:Int):=of_decide_eq_true (by assumption);obtain ⟨aQ,e321,aJ,aK,aM,aN⟩:=Zv iR.out (rd aA 0) cB cZ;have aV:=aN;have aU:=aM;have aT:=aK;have aR:=aJ;cases e321
           replace aJ:=bw_ HB aJ;replace aK:=bw_ HB aK;replace aM:=bw_ HB aM;replace aN:=bw_ HB aN;replace cB:=eq_true cB;replace cZ:=eq_true cZ;have cK:0≤((rd aA 0):Int):=of_decide_eq_true (by assumption);have dA:(rd aA 0)<(aW.length:Int):=of_decide_eq_true (by assumption);obtain ⟨dG,fD,aH⟩:=Kd.Ur (Kd.R_reads' aG.out).2.2 (rd aA 0) cK dA;obtain rfl:(⟨bK,0,none⟩:Addr)=dG:=(by injection fD)
           (first|simp only [add_plain] at aH|simp only [add_at] at aH|simp only [Addr.add,Nat.zero_add] at aH|skip)
           replace cK:=eq_true cK;replace dA:=eq_true dA;refine start_ (n:=14) (S:=fun w'=>w'.cell? (aQ.add (((rd aA 0)).toNat * 4))=some (.int .i64 ((Xb l0 (rd aA 0)).f0))∧w'.cell? ⟨(aQ.add (((rd aA 0)).toNat * 4)).block,(aQ.add (((rd aA 0)).toNat * 4)).off+1,none⟩=some (.int .i64 ((Xb l0 (rd aA 0)).f1))∧w'.cell? ⟨(aQ.add (((rd aA 0)).toNat * 4)).block,(aQ.add (((rd aA 0)).toNat * 4)).off+2,none⟩=some (.int .i64 ((Xb l0 (rd aA 0)).f2))∧w'.cell? ⟨(aQ.add (((rd aA 0)).toNat * 4)).block,(aQ.add (((rd aA 0)).toNat * 4)).off+3,none⟩=some (.int .i64 ((Xb l0 (rd aA 0)).f3))∧w'.cell? ⟨bK,((rd aA 0)).toNat,none⟩=some (.int .i64 (rd aW (rd aA 0)))) (ds:=[]) #[false,false,false,false,false,false,false,false,false,false,false,false,false,false] (by kernel_rfl) rfl rfl ⟨((HB.out.cell (World.block_lt_of_cell? w _ aR)).trans aR),((HB.out.cell (World.block_lt_of_cell? w _ aT)).trans aT),((HB.out.cell (World.block_lt_of_cell? w _ aU)).trans aU),((HB.out.cell (World.block_lt_of_cell? w _ aV)).trans aV),aH⟩ (fun hHeld=>?_);refine with_tabW Xx.tab7 Xx.bits7 (fun bI fU=>?_)
           generalize wr.drew=w42 at aG aX HB aJ aK aM aN aH hHeld ⊢
           refine Za (i:=0) (N:=some 26) (v:=?_) (a':=?_) #[true,false,false,false,false,false,false,false,false,false,false,false,false,false] rfl rfl (Zk bI.out (by kernel_rfl)) (fun _ _ _ h=>h) (Or.inl ⟨by rfl,?_⟩) ?_ ?_
           rotate_left
           · exact wr_
           rotate_left
           · exact ap_
           refine Za (i:=1) (N:=some 27) (v:=?_) (a':=?_) #[true,true,false,false,false,false,false,false,false,false,false,false,false,false] rfl rfl (Zk bI.out (by kernel_rfl)) (fun _ _ _ h=>h) (Or.inl ⟨by rfl,?_⟩) ?_ ?_
           rotate_left
           · exact wr_
           rotate_left
           · exact ap_
           refine Za (i:=2) (N:=some 28) (v:=?_) (a':=?_) #[true,true,true,false,false,false,false,false,false,false,false,false,false,false] rfl rfl (Zk bI.out (by kernel_rfl)) (fun _ _ _ h=>h) (Or.inl ⟨by rfl,?_⟩) ?_ ?_
           rotate_left
           · exact wr_
           rotate_left
           · exact ap_
           refine Za (i:=4) (N:=some 30) (v:=?_) (a':=?_) #[true,true,true,false,true,false,false,false,false,false,false,false,false,false] rfl rfl (Zk bI.out (by kernel_rfl)) (fun _ _ _ h=>h) (Or.inl ⟨by rfl,?_⟩) ?_ ?_
           rotate_left
           · exact wr_
           rotate_left
           · exact ap_
           refine Za (i:=5) (N:=some 31) (v:=?_) (a':=?_) #[true,true,true,false,true,true,false,false,false,false,false,false,false,false] rfl rfl (Zk bI.out (by kernel_rfl)) (fun _ _ _ h=>h) (Or.inl ⟨by rfl,?_⟩) ?_ ?_
           rotate_left
           · exact wr_
           rotate_left
           · exact ap_
           refine Za (i:=6) (N:=some 32) (v:=?_) (a':=?_) #[true,true,true,false,true,true,true,false,false,false,false,false,false,false] rfl rfl (Zk bI.out (by kernel_rfl)) (fun _ _ _ h=>h) (Or.inl ⟨by rfl,?_⟩) ?_ ?_
           rotate_left
           · exact wr_
           rotate_left
           · exact ap_
           refine take_ (i:=3) (N:=some 29) (v:=?_) (a':=?_) #[true,true,true,true,true,true,true,false,false,false,false,false,false,false] rfl rfl (take_ofW bI.out fU.out (by kernel_rfl)) (fun _ _ _ h=>h) (Or.inl ⟨by rfl,?_⟩) hHeld ?_ ?_
           rotate_left
           ·rintro w' ⟨s0,s1,s2,s3,s4⟩
            go_simp
            with_reducible rfl
           rotate_left
           · exact ap_
           refine take_ (i:=7) (N:=some 33) (v:=?_) (a':=?_) #[true,true,true,true,true,true,true,true,false,false,false,false,false,false] rfl rfl (take_ofW bI.out fU.out (by kernel_rfl)) (fun _ _ _ h=>h) (Or.inl ⟨by rfl,?_⟩) hHeld ?_ ?_
           rotate_left
           ·rintro w' ⟨s0,s1,s2,s3,s4⟩
            go_simp
            with_reducible rfl
           rotate_left
           · exact ap_
           refine one_ (i:=8) (N:=some 34) #[true,true,true,true,true,true,true,true,true,false,false,false,false,false] rfl rfl (one_of bI.out (by kernel_rfl)) (by decide) (fun K hK=>?_)
           refine goes_ Try.func49 (by kernel_rfl) rfl #[.agg #[.int .i64 ((Xb l0 (rd aA 0)).f0),.int .i64 ((Xb l0 (rd aA 0)).f1),.int .i64 ((Xb l0 (rd aA 0)).f2),.int .i64 ((Xb l0 (rd aA 0)).f3)],.int .i64 (rd aW (rd aA 0))] (by rfl) rfl rfl ga_ ?_
           with_reducible refine (impl_Ins_moves.calls ((Xb l0 (rd aA 0)).f0) ((Xb l0 (rd aA 0)).f1) ((Xb l0 (rd aA 0)).f2) ((Xb l0 (rd aA 0)).f3) (rd aW (rd aA 0)) bL false _ jG.out).mono ?_
           rintro e w43 ⟨rfl,hb⟩
           have fA:=(hb.cell (World.block_lt_of_cell? _ _ (hHeld.2.2.2.2))).trans (hHeld.2.2.2.2);refine ⟨_,rfl,?_⟩
           replace aG:=Xa.mk (Kd.Zf (Kd.ra_ (aG.out)) hb);replace aX:=Xa.mk (Kd.Q_below (Kd.qa_ (aX.out)) hb);replace HB:=Xa.mk (Xe (bl_ HB) hb)
           clear hb
           skip
           skip
           skip
           refine hK.out _ _ ⟨((HB.out.cell (World.block_lt_of_cell? w _ aR)).trans aR),((HB.out.cell (World.block_lt_of_cell? w _ aT)).trans aT),((HB.out.cell (World.block_lt_of_cell? w _ aU)).trans aU),((HB.out.cell (World.block_lt_of_cell? w _ aV)).trans aV),fA⟩ (fun hHeld=>?_)
           clear hK K;refine norm_ (a':=?_) ?_ ?_
           rotate_left
           ·show Act.put _ (some 34) _=_
            simp only [Act.put,List.setIfInBounds_toArray,List.set_cons_zero,List.set_cons_succ,Ub,Uf];rfl
           refine Za (i:=9) (N:=some 25) (v:=?_) (a':=?_) #[true,true,true,true,true,true,true,true,true,true,false,false,false,false] rfl rfl (Zk bI.out (by kernel_rfl)) (fun _ _ _ h=>h) (Or.inl ⟨by rfl,?_⟩) ?_ ?_
           rotate_left
           · exact wr_
           rotate_left
           · exact ap_
           refine Za (i:=10) (N:=some 35) (v:=?_) (a':=?_) #[true,true,true,true,true,true,true,true,true,true,true,false,false,false] rfl rfl (Zk bI.out (by kernel_rfl)) (fun _ _ _ h=>h) (Or.inl ⟨by rfl,?_⟩) ?_ ?_
           rotate_left
           · exact wr_
           rotate_left
           · exact ap_
           refine Za (i:=11) (N:=some 36) (v:=?_) (a':=?_) #[true,true,true,true,true,true,true,true,true,true,true,true,false,false] rfl rfl (Zk bI.out (by kernel_rfl)) (fun _ _ _ h=>h) (Or.inl ⟨by rfl,?_⟩) ?_ ?_
           rotate_left
           · exact wr_
           rotate_left
           · exact ap_
           refine Za (i:=12) (N:=some 6) (v:=?_) (a':=?_) #[true,true,true,true,true,true,true,true,true,true,true,true,true,false] rfl rfl (Zk bI.out (by kernel_rfl)) (fun _ _ _ h=>h) (Or.inl ⟨by rfl,?_⟩) ?_ ?_
           rotate_left
           · exact wr_
           rotate_left
           · exact ap_
           refine Za (i:=13) (N:=some 7) (v:=?_) (a':=?_) #[true,true,true,true,true,true,true,true,true,true,true,true,true,true] rfl rfl (Zk bI.out (by kernel_rfl)) (fun _ _ _ h=>h) (Or.inl ⟨by rfl,?_⟩) ?_ ?_
           rotate_left
           · exact wr_
           rotate_left
           · exact ap_
           refine done_ (done_of bI.out (by kernel_rfl)) ?_
           try go_wp2
           go_ret
           exact ⟨rf_,bl_ HB⟩
         ·rw [if_neg c18] at H;exact absurd H (by simp)
        ·rw [if_neg c17] at H;exact absurd H (by simp)
       ·rw [if_neg c16] at H;exact absurd H (by simp)
      ·rw [if_neg c15] at H;exact absurd H (by simp)
     ·rw [if_neg c14] at H;exact absurd H (by simp)
    ·rw [if_neg c13] at H;have eH:=decide_eq_false c13;have eO:decide (0<aA.length)=false:=decide_eq_false (by omega);clear c13;obtain rfl:=Option.some.inj H;obtain ⟨Ao44,co44,iZ,_⟩:=Kd.Q_slice bC.out;subst iZ;go_wp2
     go_ret
     exact ⟨rf_,bl_ HB⟩
 ·rw [if_neg c3] at H;exact absurd H (by simp)
end Go.Proofs.Ytokajnfbiddpjaa.GSlim
