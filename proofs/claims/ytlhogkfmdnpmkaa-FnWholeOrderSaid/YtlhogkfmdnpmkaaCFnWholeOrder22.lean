import Derived.Test.YtlhogkfmdnpmkaaCFnWholeOrder21
set_option linter.unusedVariables false
set_option linter.unusedSimpArgs false
set_option maxHeartbeats 8000000
set_option maxRecDepth 100000
namespace Go.Proofs.Ytlhogkfmdnpmkaa.GWhole
open RowKit YtlhogkfmdnpmkaaW.PrintWords YtlhogkfmdnpmkaaW.PrintLast YtlhogkfmdnpmkaaW.PrintMore
attribute [local go_sem] Uq Us max_two min_two Zz Ua Ur Ut
mutual
def Xz.l0:Nat→List (S69)→List (S69)→Int→Int→Option ((List (S69)))
 |0,_,_,_,_=>none
 |k+1,x3,x6,x7,x8=>if x8<x7 then (if 0≤x8 then (if x8<(x6.length:Int) then ((Xz.f k ((Xb x6 x8).f4)).bind fun aK=>((Xz.f k ((Xb x6 x8).f5)).bind fun aM=>(if x3.length<1759218604441 then (Xz.l0 k (x3 ++ [(⟨(Xb x6 x8).f0,(Xb x6 x8).f1,(Xb x6 x8).f2,(Xb x6 x8).f3,aK,aM⟩:S69)]) x6 x7 (wrap64 (x8+1))) else (none)))) else (none)) else (none)) else (some x3)
def Xz.f:Nat→List (S69)→Option ((List (S69)))
 |0,_=>none
 |k+1,l0=>Xz.l0 k ([]:List (S69)) l0 (l0.length:Int) 0
end
def Xz.T5:Bool × List (List Nat × List Nat):=(true,[([],[]),([0],[0]),([1],[1]),([],[]),([3],[3]),([4,2],[4]),([0,1,2,3,4],[]),([6,2,5,0,1,2,3,4],[2,6]),([0,1,2,3,4,5,6,7],[]),([8,5,7,0,1,2,3,4,5,6,7],[5,8])])
def Xz.B5:List Nat:=[0,1,3,0,8,31,31,127,255,511]
theorem Xz.tab5:rtab .any (opsOf Try.f41 5)=Xz.T5:=kr_
theorem Xz.bits5:waitsOk Xz.T5.2 Xz.B5=true:=kr_
theorem Xz.calls (k:Nat):∀ (A0:Option Addr) (c0:Nat) (l0:List (S69)) (r:List (S69)) (w:World) (hr0:Kd.C k69 w A0 l0.length l0) (hc0:l0.length≤c0) (h:Xz.f k l0=some r),
  Calls Try.prog 41 #[.slice A0 l0.length c0] w fun e w'=>∃ eY:Value,e=.returned (eY)∧Kd.R k69 69 w' w.heap.size (fun _=>True) eY r∧Below w.heap.size w w':=by
 induction k using Nat.strongRecOn with
 |_ k ih=>
 intro A0 c0 l0 r w hr0 hc0 h
 cases k with
 |zero=>exact absurd h (by simp [Xz.f])
 |succ k=>
 simp only [Xz.f] at h;have eG:=Try.underlying69;have fA:=Xa.mk hr0;have HC0:=Xa.mk hc0;clear hr0 hc0;have HB:=Xa.mk (Below.refl w.heap.size w);have H:(Xz.l0 k ([]:List (S69)) l0 (l0.length:Int) 0)=some r:=h;clear h;have H':=Xa.mk H;clear H;go_enter Try.func41,Try.ntmps41;go_wp2
 go_loopg [3,8] k (fun kq v3 v8 w'=>∃ (bA:List (S69)) (aA:Int),v8=.int .i64 aA∧Xa (Xz.l0 kq bA l0 (l0.length:Int) aA=some r)∧Xa (kq≤k)∧Xa (Kd.R k69 69 w' w.heap.size (fun _=>True) v3 bA)∧Xa (Below w.heap.size w w'))
 case atStart=>exact ⟨(([]:List (S69))),(0),rg_,H',⟨nr_ _⟩,⟨ni_⟩,⟨bl_ HB⟩⟩
 case round=>
  clear H';obtain ⟨bA,aA,rfl,HA,dV,aN,HB⟩:=hrel
  cases gk with
  |zero=>exact absurd HA.out (by simp [Xz.l0])
  |succ k1=>
   have H:=HA.out;clear HA;simp only [Xz.l0] at H;by_cases c2:aA<(l0.length:Int)
   ·rw [if_pos c2] at H;have bE:decide (aA<(l0.length:Int))=true:=dt_ c2;clear c2;by_cases c3:0≤aA
    ·rw [if_pos c3] at H;have dN:decide (0≤aA)=true:=dt_ c3;clear c3;by_cases c4:aA<(l0.length:Int)
     ·rw [if_pos c4] at H;have dO:decide (aA<(l0.length:Int))=true:=dt_ c4;clear c4;replace H:=bo_ H;obtain ⟨aK,eQ,H⟩:=H;replace H:((Xz.f k1 ((Xb l0 aA).f5)).bind fun aM=>(if bA.length<1759218604441 then (Xz.l0 k1 (bA ++ [(⟨(Xb l0 aA).f0,(Xb l0 aA).f1,(Xb l0 aA).f2,(Xb l0 aA).f3,aK,aM⟩:S69)]) l0 (l0.length:Int) (wrap64 (aA+1))) else (none)))=some r:=H;have A5:=Xa.mk eQ;clear eQ;replace H:=bo_ H;obtain ⟨aM,eT,H⟩:=H;replace H:(if bA.length<1759218604441 then (Xz.l0 k1 (bA ++ [(⟨(Xb l0 aA).f0,(Xb l0 aA).f1,(Xb l0 aA).f2,(Xb l0 aA).f3,aK,aM⟩:S69)]) l0 (l0.length:Int) (wrap64 (aA+1))) else (none))=some r:=H;have A6:=Xa.mk eT;clear eT;by_cases c7:bA.length<1759218604441
      ·rw [if_pos c7] at H;have dW:=Xa.mk c7;clear c7;obtain ⟨dU,bY⟩:∃ y_:List (S69),y_=(bA ++ [(⟨(Xb l0 aA).f0,(Xb l0 aA).f1,(Xb l0 aA).f2,(Xb l0 aA).f3,aK,aM⟩:S69)]):=⟨_,rfl⟩
       replace H:(Xz.l0 k1 dU l0 (l0.length:Int) (wrap64 (aA+1)))=some r:=by subst bY;exact hh_ H
       have dM:=Xa.mk bY;clear bY;have H':=Xa.mk H;clear H;have dJ:0≤(aA:Int):=od_ as_;have dK:aA<(l0.length:Int):=od_ as_;obtain ⟨ad108,aG,aI,aH,aJ,e108,bJ,bK,bL,bM,bN,bO,bH,bF,bI,bG⟩:=at_T69 fA.out aA dJ dK;cases e108
       replace bJ:=bw_ HB bJ;replace bK:=bw_ HB bK;replace bL:=bw_ HB bL;replace bM:=bw_ HB bM;replace bN:=bw_ HB bN;replace bO:=bw_ HB bO;have cK:=Xa.mk bF;have bZ:=Xa.mk bH;clear bF bH;have cO:=Xa.mk bG;have cB:=Xa.mk bI;clear bG bI;replace dJ:=eq_true dJ;replace dK:=eq_true dK
       try go_wp2_with (first|((with_reducible refine Zc (N:=5) rfl ?_);refine Zy ?hg (N:=5) ?hd (cs:=#[.int .i64 0,.int .i64 0,.int .i64 0,.int .i64 0,.slice none 0 0,.slice none 0 0]) (t:=69) ?hr ?_;(case hd|hg=>rfl);(case hr=>exact hr_);intro aC hg w8 hbox hb;replace aN:=Xa.mk (Kd.R_below (Kd.R_elderB (Kd.ra_ (aN.out)) aC (Nat.le_of_eq hg.symm)) hb);have aD:=Xa.mk (hbox);have GW109:=Xa.mk ((ge_ hg (Xr (bl_ HB)):w.heap.size≤aC));have GE109:=Xa.mk ((ge_ hg (Xr (bl_ HB)):w.heap.size≤aC));replace HB:=Xa.mk (Xo (bl_ HB) hb);clear hb hbox hg;obtain ⟨_,_,_,_,_,_⟩:=Ug aD.out;obtain ⟨_,_,_,_,_,_⟩:=Uh aD.out))
       have dG:Xa (Kd.R k69 69 ((((((w8.setCell ⟨aC,0,none⟩ (.int .i64 ((Xb l0 aA).f0))).setCell ⟨aC,1,none⟩ (.int .i64 ((Xb l0 aA).f1))).setCell ⟨aC,2,none⟩ (.int .i64 ((Xb l0 aA).f2))).setCell ⟨aC,3,none⟩ (.int .i64 ((Xb l0 aA).f3))).setCell ⟨aC,4,none⟩ (.slice aG ((Xb l0 aA).f4).length aI)).setCell ⟨aC,5,none⟩ (.slice aH ((Xb l0 aA).f5).length aJ)) w.heap.size (fun k_=>k_≠aC) u3 bA):=⟨Kd.ra_ (Kd.Yj (Kd.Zp (p:=⟨aC,5,none⟩) (Kd.Zp (p:=⟨aC,4,none⟩) (Kd.Zp (p:=⟨aC,3,none⟩) (Kd.Zp (p:=⟨aC,2,none⟩) (Kd.Zp (p:=⟨aC,1,none⟩) (Kd.Zp (p:=⟨aC,0,none⟩) (Kd.Yj aN.out (fun k_ hk=>(⟨hk,hk.2⟩:_∧k_≠aC))) (fun _ hk=>hk.2) (.int .i64 ((Xb l0 aA).f0))) (fun _ hk=>hk.2) (.int .i64 ((Xb l0 aA).f1))) (fun _ hk=>hk.2) (.int .i64 ((Xb l0 aA).f2))) (fun _ hk=>hk.2) (.int .i64 ((Xb l0 aA).f3))) (fun _ hk=>hk.2) (.slice aG ((Xb l0 aA).f4).length aI)) (fun _ hk=>hk.2) (.slice aH ((Xb l0 aA).f5).length aJ)) (fun _ hk=>hk.1.2))⟩;have dH:Xa (((((((w8.setCell ⟨aC,0,none⟩ (.int .i64 ((Xb l0 aA).f0))).setCell ⟨aC,1,none⟩ (.int .i64 ((Xb l0 aA).f1))).setCell ⟨aC,2,none⟩ (.int .i64 ((Xb l0 aA).f2))).setCell ⟨aC,3,none⟩ (.int .i64 ((Xb l0 aA).f3))).setCell ⟨aC,4,none⟩ (.slice aG ((Xb l0 aA).f4).length aI)).setCell ⟨aC,5,none⟩ (.slice aH ((Xb l0 aA).f5).length aJ)).heap[aC]?=some (.cells #[.int .i64 ((Xb l0 aA).f0),.int .i64 ((Xb l0 aA).f1),.int .i64 ((Xb l0 aA).f2),.int .i64 ((Xb l0 aA).f3),.slice aG ((Xb l0 aA).f4).length aI,.slice aH ((Xb l0 aA).f5).length aJ] 69 (0,0))):=⟨by refine bb_ (Zx (cs:=#[.int .i64 ((Xb l0 aA).f0),.int .i64 ((Xb l0 aA).f1),.int .i64 ((Xb l0 aA).f2),.int .i64 ((Xb l0 aA).f3),.slice aG ((Xb l0 aA).f4).length aI,.slice none 0 0]) ?_ 5 _ rfl);refine bb_ (Zx (cs:=#[.int .i64 ((Xb l0 aA).f0),.int .i64 ((Xb l0 aA).f1),.int .i64 ((Xb l0 aA).f2),.int .i64 ((Xb l0 aA).f3),.slice none 0 0,.slice none 0 0]) ?_ 4 _ rfl);refine bb_ (Zx (cs:=#[.int .i64 ((Xb l0 aA).f0),.int .i64 ((Xb l0 aA).f1),.int .i64 ((Xb l0 aA).f2),.int .i64 0,.slice none 0 0,.slice none 0 0]) ?_ 3 _ rfl);refine bb_ (Zx (cs:=#[.int .i64 ((Xb l0 aA).f0),.int .i64 ((Xb l0 aA).f1),.int .i64 0,.int .i64 0,.slice none 0 0,.slice none 0 0]) ?_ 2 _ rfl);refine bb_ (Zx (cs:=#[.int .i64 ((Xb l0 aA).f0),.int .i64 0,.int .i64 0,.int .i64 0,.slice none 0 0,.slice none 0 0]) ?_ 1 _ rfl);refine bb_ (Zx (cs:=#[.int .i64 0,.int .i64 0,.int .i64 0,.int .i64 0,.slice none 0 0,.slice none 0 0]) ?_ 0 _ rfl);(with_reducible repeat (first|refine Zq ?_ _|refine Yy ?_|refine Zb ?_ _));exact aD.out⟩;have dI:Xa (Below w.heap.size w ((((((w8.setCell ⟨aC,0,none⟩ (.int .i64 ((Xb l0 aA).f0))).setCell ⟨aC,1,none⟩ (.int .i64 ((Xb l0 aA).f1))).setCell ⟨aC,2,none⟩ (.int .i64 ((Xb l0 aA).f2))).setCell ⟨aC,3,none⟩ (.int .i64 ((Xb l0 aA).f3))).setCell ⟨aC,4,none⟩ (.slice aG ((Xb l0 aA).f4).length aI)).setCell ⟨aC,5,none⟩ (.slice aH ((Xb l0 aA).f5).length aJ))):=⟨bl_ HB⟩
       (try clear aN)
       (try clear aD)
       (try clear HB)
       generalize ((((((w8.setCell ⟨aC,0,none⟩ (.int .i64 ((Xb l0 aA).f0))).setCell ⟨aC,1,none⟩ (.int .i64 ((Xb l0 aA).f1))).setCell ⟨aC,2,none⟩ (.int .i64 ((Xb l0 aA).f2))).setCell ⟨aC,3,none⟩ (.int .i64 ((Xb l0 aA).f3))).setCell ⟨aC,4,none⟩ (.slice aG ((Xb l0 aA).f4).length aI)).setCell ⟨aC,5,none⟩ (.slice aH ((Xb l0 aA).f5).length aJ))=eZ at dG dH dI ⊢;have aN:=dG;have aD:=dH;have HB:=dI;clear dG dH dI;replace aN:=Xa.mk (Kd.R_drew aN.out);replace aD:=Xa.mk (Yy aD.out);replace HB:=Xa.mk (below_drew1 HB.out);refine start_ (n:=10) (S:=fun w'=>w'.cell? ⟨aC,0,none⟩=some (.int .i64 ((Xb l0 aA).f0))∧w'.cell? ⟨aC,1,none⟩=some (.int .i64 ((Xb l0 aA).f1))∧w'.cell? ⟨aC,2,none⟩=some (.int .i64 ((Xb l0 aA).f2))∧w'.cell? ⟨aC,3,none⟩=some (.int .i64 ((Xb l0 aA).f3))∧w'.cell? ⟨aC,4,none⟩=some (.slice aG ((Xb l0 aA).f4).length aI)∧w'.cell? ⟨aC,5,none⟩=some (.slice aH ((Xb l0 aA).f5).length aJ)) (ds:=[7,9]) #[false,false,false,false,false,false,false,false,false,false] kr_ rfl rfl ⟨(Xh aD.out 0).trans rfl,(Xh aD.out 1).trans rfl,(Xh aD.out 2).trans rfl,(Xh aD.out 3).trans rfl,(Xh aD.out 4).trans rfl,(Xh aD.out 5).trans rfl⟩ (fun hHeld=>?_);refine with_tabW Xz.tab5 Xz.bits5 (fun bV eX=>?_);generalize eZ.drew=w11 at aN aD HB hHeld ⊢;refine pure_ (i:=0) (N:=some 12) (v:=?_) (a':=?_) #[true,false,false,false,false,false,false,false,false,false] rfl rfl (any_of bV.out kr_) (fun _ _ _ h=>h) (Or.inl ⟨rl1_,?_⟩) ?_ ?_;rotate_left
       · exact wr_
       rotate_left
       · exact ap_
       refine pure_ (i:=3) (N:=some 15) (v:=?_) (a':=?_) #[true,false,false,true,false,false,false,false,false,false] rfl rfl (any_of bV.out kr_) (fun _ _ _ h=>h) (Or.inl ⟨rl1_,?_⟩) ?_ ?_;rotate_left
       · exact wr_
       rotate_left
       · exact ap_
       refine take_ (i:=1) (N:=some 13) (v:=?_) (a':=?_) #[true,true,false,true,false,false,false,false,false,false] rfl rfl (take_ofW bV.out eX.out kr_) (fun _ _ _ h=>h) (Or.inl ⟨rl1_,?_⟩) hHeld ?_ ?_;rotate_left
       ·rintro w' ⟨s0,s1,s2,s3,s4,s5⟩;go_simp
        with_reducible rfl
       rotate_left
       · exact ap_
       refine take_ (i:=4) (N:=some 16) (v:=?_) (a':=?_) #[true,true,false,true,true,false,false,false,false,false] rfl rfl (take_ofW bV.out eX.out kr_) (fun _ _ _ h=>h) (Or.inl ⟨rl1_,?_⟩) hHeld ?_ ?_;rotate_left
       ·rintro w' ⟨s0,s1,s2,s3,s4,s5⟩;go_simp
        with_reducible rfl
       rotate_left
       · exact ap_
       refine one_ (i:=2) (N:=some 14) #[true,true,true,true,true,false,false,false,false,false] rfl rfl (one_of bV.out kr_) de_ (fun K hK=>?_);refine goes_ Try.func41 kr_ rfl #[.slice aG ((Xb l0 aA).f4).length aI] rl1_ rfl rfl ga_ ?_
       with_reducible refine (ih k1 (by have:=dV.out;omega) _ _ ((Xb l0 aA).f4) aK _ ?side1 ?side2 A5.out).mono ?_
       (case side1=>exact Kd.ca_ (Kd.Yr cK.out HB.out))
       (case side2=>exact bZ.out)
       rintro e w12 ⟨v111,rfl,ho0,hb⟩;refine ⟨_,rfl,?_⟩;have aX:=Xa.mk (Kd.Zr (Kd.R_newB (Kd.R_new' ho0 (Kd.R_lt (Kd.ra_ (aN.out)))) (g:=aC) (o:=.cells #[.int .i64 ((Xb l0 aA).f0),.int .i64 ((Xb l0 aA).f1),.int .i64 ((Xb l0 aA).f2),.int .i64 ((Xb l0 aA).f3),.slice aG ((Xb l0 aA).f4).length aI,.slice aH ((Xb l0 aA).f5).length aJ] 69 (0,0)) (ba_ aD)) (Xr (bl_ HB)));replace aN:=Xa.mk (Kd.R_elder' (Kd.ra_ (aN.out)) (Kd.Za ho0) hb);replace aD:=Xa.mk (Xu (g:=aC) (o:=.cells #[.int .i64 ((Xb l0 aA).f0),.int .i64 ((Xb l0 aA).f1),.int .i64 ((Xb l0 aA).f2),.int .i64 ((Xb l0 aA).f3),.slice aG ((Xb l0 aA).f4).length aI,.slice aH ((Xb l0 aA).f5).length aJ] 69 (0,0)) (ba_ aD) hb);replace HB:=Xa.mk (Xo (bl_ HB) hb)
       clear hb
       skip
       skip
       skip
       clear ho0
       refine hK.out _ _ ⟨(Xh aD.out 0).trans rfl,(Xh aD.out 1).trans rfl,(Xh aD.out 2).trans rfl,(Xh aD.out 3).trans rfl,(Xh aD.out 4).trans rfl,(Xh aD.out 5).trans rfl⟩ (fun hHeld=>?_);clear hK K;refine no_ ?_;refine pure_ (i:=6) (N:=some 18) (v:=?_) (a':=?_) #[true,true,true,true,true,false,true,false,false,false] rfl rfl (any_of bV.out kr_) (fun _ _ _ h=>h) (Or.inl ⟨rl1_,?_⟩) ?_ ?_;rotate_left
       · exact wr_
       rotate_left
       · exact ap_
       refine one_ (i:=5) (N:=some 17) #[true,true,true,true,true,true,true,false,false,false] rfl rfl (one_of bV.out kr_) de_ (fun K hK=>?_);refine goes_ Try.func41 kr_ rfl #[.slice aH ((Xb l0 aA).f5).length aJ] rl1_ rfl rfl ga_ ?_
       with_reducible refine (ih k1 (by have:=dV.out;omega) _ _ ((Xb l0 aA).f5) aM _ ?side1 ?side2 A6.out).mono ?_
       (case side1=>exact Kd.ca_ (Kd.Yr cO.out HB.out))
       (case side2=>exact cB.out)
       rintro e dF ⟨v114,rfl,ho0,hb⟩;refine ⟨_,rfl,?_⟩;have bB:=Xa.mk (Kd.Zr (Kd.R_newB (Kd.R_new' (Kd.R_new' ho0 (Kd.R_lt (Kd.ra_ (aN.out)))) (Kd.R_lt (Kd.ra_ (aX.out)))) (g:=aC) (o:=.cells #[.int .i64 ((Xb l0 aA).f0),.int .i64 ((Xb l0 aA).f1),.int .i64 ((Xb l0 aA).f2),.int .i64 ((Xb l0 aA).f3),.slice aG ((Xb l0 aA).f4).length aI,.slice aH ((Xb l0 aA).f5).length aJ] 69 (0,0)) (ba_ aD)) (Xr (bl_ HB)));replace aN:=Xa.mk (Kd.R_elder' (Kd.ra_ (aN.out)) (Kd.Za ho0) hb);replace aX:=Xa.mk (Kd.R_elder' (Kd.ra_ (aX.out)) (Kd.Za ho0) hb);replace aD:=Xa.mk (Xu (g:=aC) (o:=.cells #[.int .i64 ((Xb l0 aA).f0),.int .i64 ((Xb l0 aA).f1),.int .i64 ((Xb l0 aA).f2),.int .i64 ((Xb l0 aA).f3),.slice aG ((Xb l0 aA).f4).length aI,.slice aH ((Xb l0 aA).f5).length aJ] 69 (0,0)) (ba_ aD) hb);replace HB:=Xa.mk (Xo (bl_ HB) hb)
       clear hb
       skip
       skip
       skip
       clear ho0
       obtain ⟨aR,aT,dP⟩:=Kd.Zd aX.out
       (first|subst dP|(injection dP with dR eB dS;have eD:=dR.symm;have eF:=dS.symm;clear dR eB dS;subst eD;subst eF))
       obtain ⟨aU,aW,dQ⟩:=Kd.Zd bB.out
       (first|subst dQ|(injection dQ with dR eB dS;have eD:=dR.symm;have eF:=dS.symm;clear dR eB dS;subst eD;subst eF))
       refine hK.out _ _ ⟨(Xh aD.out 0).trans rfl,(Xh aD.out 1).trans rfl,(Xh aD.out 2).trans rfl,(Xh aD.out 3).trans rfl,(Xh aD.out 4).trans rfl,(Xh aD.out 5).trans rfl⟩ (fun hHeld=>?_);clear hK K;refine no_ ?_;refine last_ (i:=7) (N:=none) #[true,true,true,true,true,true,true,true,false,false] rfl rfl (one_of bV.out kr_) de_ (fun K hK=>?_);have hs15:dF.cell? ⟨aC,4,none⟩=some (.slice aG ((Xb l0 aA).f4).length aI):=(Xh aD.out 4).trans rfl;have hfs15:=Xc aD.out 4;refine skip_ (w1:=?_) rl1_ rfl ?_ ?_;rotate_left
       ·go_simp
        rfl
       refine hK.out _ _ ?_;clear hK K;refine pure_ (i:=8) (N:=some 19) (v:=?_) (a':=?_) #[true,true,true,true,true,true,true,true,true,false] rfl rfl (any_of bV.out kr_) (fun _ _ _ h=>h) (Or.inl ⟨rl1_,?_⟩) ?_ ?_;rotate_left
       · exact wr_
       rotate_left
       · exact ap_
       refine last_ (i:=9) (N:=none) #[true,true,true,true,true,true,true,true,true,true] rfl rfl (one_of bV.out kr_) de_ (fun K hK=>?_);have hs17:dF.cell? ⟨aC,5,none⟩=some (.slice aH ((Xb l0 aA).f5).length aJ):=(Xh aD.out 5).trans rfl;have hfs17:=Xc aD.out 5;refine skip_ (w1:=?_) rl1_ rfl ?_ ?_;rotate_left
       ·go_simp
        rfl
       refine hK.out _ _ ?_;clear hK K;refine done_ (done_of bV.out kr_) ?_;have dG:Xa (Kd.R k69 69 ((dF.setCell ⟨aC,4,none⟩ (.slice aR aK.length aT)).setCell ⟨aC,5,none⟩ (.slice aU aM.length aW)) w.heap.size (fun k_=>some k_≠(.slice aR aK.length aT:Value).ownBlock∧some k_≠(.slice aU aM.length aW:Value).ownBlock∧k_≠aC) u3 bA):=⟨Kd.ra_ (Kd.Yj (Kd.Zp (p:=⟨aC,5,none⟩) (Kd.Zp (p:=⟨aC,4,none⟩) (Kd.Yj aN.out (fun k_ hk=>(⟨hk,hk.1.1⟩:_∧k_≠aC))) (fun _ hk=>hk.2) (.slice aR aK.length aT)) (fun _ hk=>hk.2) (.slice aU aM.length aW)) (fun _ hk=>⟨hk.1.1.2,⟨hk.1.2,hk.1.1.1⟩⟩))⟩;have dH:Xa (Kd.R k69 69 ((dF.setCell ⟨aC,4,none⟩ (.slice aR aK.length aT)).setCell ⟨aC,5,none⟩ (.slice aU aM.length aW)) w.heap.size (fun k_=>some k_≠(u3:Value).ownBlock∧some k_≠(.slice aU aM.length aW:Value).ownBlock∧k_≠aC) (.slice aR aK.length aT) aK):=⟨Kd.ra_ (Kd.Yj (Kd.Zp (p:=⟨aC,5,none⟩) (Kd.Zp (p:=⟨aC,4,none⟩) (Kd.Yj aX.out (fun k_ hk=>(⟨hk,hk.1.2⟩:_∧k_≠aC))) (fun _ hk=>hk.2) (.slice aR aK.length aT)) (fun _ hk=>hk.2) (.slice aU aM.length aW)) (fun _ hk=>⟨hk.1.1.1.2,⟨hk.1.2,hk.1.1.2⟩⟩))⟩;have dI:Xa (Kd.R k69 69 ((dF.setCell ⟨aC,4,none⟩ (.slice aR aK.length aT)).setCell ⟨aC,5,none⟩ (.slice aU aM.length aW)) w.heap.size (fun k_=>some k_≠(u3:Value).ownBlock∧some k_≠(.slice aR aK.length aT:Value).ownBlock∧k_≠aC) (.slice aU aM.length aW) aM):=⟨Kd.ra_ (Kd.Yj (Kd.Zp (p:=⟨aC,5,none⟩) (Kd.Zp (p:=⟨aC,4,none⟩) (Kd.Yj bB.out (fun k_ hk=>(⟨hk,hk.2⟩:_∧k_≠aC))) (fun _ hk=>hk.2) (.slice aR aK.length aT)) (fun _ hk=>hk.2) (.slice aU aM.length aW)) (fun _ hk=>⟨hk.1.1.1.2,⟨hk.1.1.2,hk.1.2⟩⟩))⟩;have eH:Xa (((dF.setCell ⟨aC,4,none⟩ (.slice aR aK.length aT)).setCell ⟨aC,5,none⟩ (.slice aU aM.length aW)).heap[aC]?=some (.cells #[.int .i64 ((Xb l0 aA).f0),.int .i64 ((Xb l0 aA).f1),.int .i64 ((Xb l0 aA).f2),.int .i64 ((Xb l0 aA).f3),.slice aR aK.length aT,.slice aU aM.length aW] 69 (0,0))):=⟨by refine bb_ (Zx (cs:=#[.int .i64 ((Xb l0 aA).f0),.int .i64 ((Xb l0 aA).f1),.int .i64 ((Xb l0 aA).f2),.int .i64 ((Xb l0 aA).f3),.slice aR aK.length aT,.slice aH ((Xb l0 aA).f5).length aJ]) ?_ 5 _ rfl);refine bb_ (Zx (cs:=#[.int .i64 ((Xb l0 aA).f0),.int .i64 ((Xb l0 aA).f1),.int .i64 ((Xb l0 aA).f2),.int .i64 ((Xb l0 aA).f3),.slice aG ((Xb l0 aA).f4).length aI,.slice aH ((Xb l0 aA).f5).length aJ]) ?_ 4 _ rfl);(with_reducible repeat (first|refine Zq ?_ _|refine Yy ?_|refine Zb ?_ _));exact aD.out⟩;have eO:Xa (Below w.heap.size w ((dF.setCell ⟨aC,4,none⟩ (.slice aR aK.length aT)).setCell ⟨aC,5,none⟩ (.slice aU aM.length aW))):=⟨bl_ HB⟩
       (try clear aN)
       (try clear aX)
       (try clear bB)
       (try clear aD)
       (try clear HB)
       generalize ((dF.setCell ⟨aC,4,none⟩ (.slice aR aK.length aT)).setCell ⟨aC,5,none⟩ (.slice aU aM.length aW))=w18 at dG dH dI eH eO ⊢;have aN:=dG;have aX:=dH;have bB:=dI;have aD:=eH;have HB:=eO;clear dG dH dI eH eO;obtain ⟨_,_,_,_,_,_⟩:=Ug aD.out;obtain ⟨_,_,_,_,_,_⟩:=Uh aD.out
       try go_wp2_with (first|((with_reducible refine Zl (b:=.append) (xs:=#[.tmp 20,.tmp 22]) rfl ?_);at_builtin;refine Kd.R_append k69 (w0:=w) w.heap.size rfl (.tmp 20) (.tmp 22) 50 69 (.agg #[(.int .i64 0),(.int .i64 0),(.int .i64 0),(.int .i64 0),(.slice none 0 0),(.slice none 0 0)]) 80 rfl Try.underlying50 info69 rfl de_ om_ u3 bA (⟨(Xb l0 aA).f0,(Xb l0 aA).f1,(Xb l0 aA).f2,(Xb l0 aA).f3,aK,aM⟩:S69) [.int .i64 ((Xb l0 aA).f0),.int .i64 ((Xb l0 aA).f1),.int .i64 ((Xb l0 aA).f2),.int .i64 ((Xb l0 aA).f3),.slice aR aK.length aT,.slice aU aM.length aW] (fun k_=>k_≠aC) (fun k_=>((fun k_=>k_≠aC)) k_∧some k_≠(u3:Value).ownBlock) rfl rfl ?aP (fun _ hk=>hk) ?aF ?aO ?aB ?aS ?aL ?_;(case aP=>exact k69_mkM _ _ _ (⟨(Xb l0 aA).f0,(Xb l0 aA).f1,(Xb l0 aA).f2,(Xb l0 aA).f3,aK,aM⟩:S69) (Kd.Yj (aX.out) (fun k_ hk=>⟨hk.2.2,hk.1⟩)) (Kd.Yj (bB.out) (fun k_ hk=>⟨hk.2.2,hk.1⟩)));(case aB=>exact (bl_ HB));(case aF=>exact (fun k_ hk=>Kd.freshB (g:=aC) (o:=.cells #[.int .i64 ((Xb l0 aA).f0),.int .i64 ((Xb l0 aA).f1),.int .i64 ((Xb l0 aA).f2),.int .i64 ((Xb l0 aA).f3),.slice aR aK.length aT,.slice aU aM.length aW] 69 (0,0)) (ba_ aD) k_ hk));(case aO=>exact (Kd.ra_ (Kd.Yj aN.out (fun _ hk=>hk.2.2))));(case aS=>exact (Xr (bl_ HB)));(case aL=>have:=dW.out;omega);intro v117 w20 ho hb hg hat;rw [← dM.out] at ho;replace aD:=Xa.mk (blk_grown (g:=aC) (o:=.cells #[.int .i64 ((Xb l0 aA).f0),.int .i64 ((Xb l0 aA).f1),.int .i64 ((Xb l0 aA).f2),.int .i64 ((Xb l0 aA).f3),.slice aR aK.length aT,.slice aU aM.length aW] 69 (0,0)) (ba_ aD) hg (Kd.R_away aN.out (fun _ hk=>hk.2.2)));replace HB:=Xa.mk (hb);have dL:=Xa.mk (ho);clear aN aX bB ho hb hg hat))
       go_roundg k1
       case measure=>have:=dV.out;omega
       case rel=>exact ⟨(dU),(wrap64 (aA+1)),rg_,H',⟨by have:=dV.out;omega⟩,⟨Kd.ra_ (Kd.Yj dL.out (fun _ hk=>trivial))⟩,⟨bl_ HB⟩⟩
      ·rw [if_neg c7] at H;exact absurd H sm_
     ·rw [if_neg c4] at H;exact absurd H sm_
    ·rw [if_neg c3] at H;exact absurd H sm_
   ·rw [if_neg c2] at H;have bE:decide (aA<(l0.length:Int))=false:=df_ c2;clear c2;obtain rfl:=sj_ H;go_wp2;go_ret
    exact ⟨_,rf_,Kd.ra_ (aN.out),bl_ HB⟩
def impl_fits.f (a0:Int) (a1:Int):Option (Bool):=if a0=0 then (some true) else (if a0 > 0 then (some (decide (a0<a1))) else (some false))
theorem impl_fits.calls (a0:Int) (a1:Int) (r:Bool) (w:World) (h:impl_fits.f a0 a1=some r) :
  Calls Try.prog 82 #[.int .i64 a0,.int .i64 a1] w fun e w'=>e=.returned (.bool r)∧Yq w w':=by
 have H:(if a0=0 then (some true) else (if a0 > 0 then (some (decide (a0<a1))) else (some false)))=some r:=h;clear h;by_cases c3:a0=0
 ·rw [if_pos c3] at H;have dN:(a0 == 0)=true:=eb_ c3;have dY:(a0 != 0)=false:=nq_ c3;clear c3;obtain rfl:=sj_ H;go_enter Try.func82,Try.ntmps82;go_wp2;go_ret
  exact ⟨by first|rfl|(simp;done)|(simp [*];done),by repeat (first|exact Yq.refl _|apply Yq.step)⟩
 ·rw [if_neg c3] at H;have dN:(a0 == 0)=false:=nb_ c3;have dY:(a0 != 0)=true:=nn_ c3;by_cases c4:a0 > 0
  ·rw [if_pos c4] at H;have dO:decide (0<a0)=true:=dt_ c4;clear c4;obtain rfl:=sj_ H;go_enter Try.func82,Try.ntmps82;go_wp2;go_ret
   exact ⟨by first|rfl|(simp;done)|(simp [*];done),by repeat (first|exact Yq.refl _|apply Yq.step)⟩
  ·rw [if_neg c4] at H;have dO:decide (0<a0)=false:=df_ c4;clear c4;obtain rfl:=sj_ H;go_enter Try.func82,Try.ntmps82;go_wp2;go_ret
   exact ⟨by first|rfl|(simp;done)|(simp [*];done),by repeat (first|exact Yq.refl _|apply Yq.step)⟩
def impl_NumOk.f (a0:Int):Option (Bool):=if a0 ≥ (-999) then (some (decide (a0≤999))) else (some false)
theorem impl_NumOk.calls (a0:Int) (r:Bool) (w:World) (h:impl_NumOk.f a0=some r) :
  Calls Try.prog 84 #[.int .i64 a0] w fun e w'=>e=.returned (.bool r)∧Yq w w':=by
 have H:(if a0 ≥ (-999) then (some (decide (a0≤999))) else (some false))=some r:=h;clear h;by_cases c2:a0 ≥ (-999)
 ·rw [if_pos c2] at H;have bE:decide ((-999)≤a0)=true:=dt_ c2;clear c2;obtain rfl:=sj_ H;go_enter Try.func84,Try.ntmps84;go_wp2;go_ret
  exact ⟨by first|rfl|(simp;done)|(simp [*];done),by repeat (first|exact Yq.refl _|apply Yq.step)⟩
 ·rw [if_neg c2] at H;have bE:decide ((-999)≤a0)=false:=df_ c2;clear c2;obtain rfl:=sj_ H;go_enter Try.func84,Try.ntmps84;go_wp2;go_ret
  exact ⟨by first|rfl|(simp;done)|(simp [*];done),by repeat (first|exact Yq.refl _|apply Yq.step)⟩
def impl_isOp.f (a0:Int):Option (Bool):=if a0 ≥ 1 then (some (decide (a0≤5))) else (some false)
theorem impl_isOp.calls (a0:Int) (r:Bool) (w:World) (h:impl_isOp.f a0=some r) :
  Calls Try.prog 85 #[.int .i64 a0] w fun e w'=>e=.returned (.bool r)∧Yq w w':=by
 have H:(if a0 ≥ 1 then (some (decide (a0≤5))) else (some false))=some r:=h;clear h;by_cases c2:a0 ≥ 1
 ·rw [if_pos c2] at H;have bE:decide (1≤a0)=true:=dt_ c2;clear c2;obtain rfl:=sj_ H;go_enter Try.func85,Try.ntmps85;go_wp2;go_ret
  exact ⟨by first|rfl|(simp;done)|(simp [*];done),by repeat (first|exact Yq.refl _|apply Yq.step)⟩
 ·rw [if_neg c2] at H;have bE:decide (1≤a0)=false:=df_ c2;clear c2;obtain rfl:=sj_ H;go_enter Try.func85,Try.ntmps85;go_wp2;go_ret
  exact ⟨by first|rfl|(simp;done)|(simp [*];done),by repeat (first|exact Yq.refl _|apply Yq.step)⟩
def impl_Stmt_numberOk.f (aQ:Int) (bP:Int) (bQ:Int) (aV:Int) (bC:List (S69)) (bD:List (S69)):Option (Bool):=if aQ=1 then ((impl_NumOk.f aV).bind fun bR=>(some bR)) else (if aQ=2 then ((impl_isOp.f aV).bind fun bS=>(some bS)) else (some (aV == 0)))
theorem impl_Stmt_numberOk.calls (aQ:Int) (bP:Int) (bQ:Int) (aV:Int) (bT:Option Addr) (bW:Nat) (bC:List (S69)) (bU:Option Addr) (bX:Nat) (bD:List (S69)) (r:Bool) (w:World) (dD:Kd.C k69 w bT bC.length bC) (dB:bC.length≤bW) (dE:Kd.C k69 w bU bD.length bD) (dC:bD.length≤bX) (h:impl_Stmt_numberOk.f aQ bP bQ aV bC bD=some r) :
  Calls Try.prog 83 #[.agg #[.int .i64 aQ,.int .i64 bP,.int .i64 bQ,.int .i64 aV,.slice bT bC.length bW,.slice bU bD.length bX]] w fun e w'=>e=.returned (.bool r)∧Below w.heap.size w w':=by
 have eG:=Try.underlying69;have HR0_4:=Xa.mk dD;have HC0_4:=Xa.mk dB;clear dD dB;have HR0_5:=Xa.mk dE;have HC0_5:=Xa.mk dC;clear dE dC;have HB:=Xa.mk (Below.refl w.heap.size w);have H:(if aQ=1 then ((impl_NumOk.f aV).bind fun bR=>(some bR)) else (if aQ=2 then ((impl_isOp.f aV).bind fun bS=>(some bS)) else (some (aV == 0))))=some r:=h;clear h;by_cases c2:aQ=1
 ·rw [if_pos c2] at H;have bE:(aQ == 1)=true:=eb_ c2;have dX:(aQ != 1)=false:=nq_ c2;clear c2;replace H:=bo_ H;obtain ⟨bR,eP,H⟩:=H;replace H:(some bR)=some r:=H;have A3:=Xa.mk eP;clear eP;obtain rfl:=sj_ H;go_enter Try.func83,Try.ntmps83;go_wp2_with (first|((with_reducible refine Zc (N:=1) rfl ?_);refine Zy ?hg (N:=1) ?hd (cs:=#[.int .i64 aQ,.int .i64 bP,.int .i64 bQ,.int .i64 aV,.slice bT bC.length bW,.slice bU bD.length bX]) (t:=69) ?hr ?_;(case hd|hg=>rfl);(case hr=>exact hr_);intro aZ hg w4 hbox hb;have aY:=Xa.mk (hbox);have dA:=Xa.mk ((ge_ hg (Xr (bl_ HB)):w.heap.size≤aZ));have cZ:=Xa.mk ((ge_ hg (Xr (bl_ HB)):w.heap.size≤aZ));replace HB:=Xa.mk (Xo (bl_ HB) hb);clear hb hbox hg;obtain ⟨_,_,_,_,_,_⟩:=Ug aY.out;obtain ⟨_,_,_,_,_,_⟩:=Uh aY.out)|((with_reducible refine Xq (f:=84) rfl ?_);refine Zg (some 9) rfl rfl Try.func84 kr_ rfl #[.int .i64 aV] rfl ga_ ?_;(with_reducible refine (impl_NumOk.calls aV bR _ A3.out).mono ?_);rintro e w' ⟨rfl,⟨nd,rfl⟩⟩;refine ⟨_,rfl,?_⟩));go_ret
  exact ⟨rf_,bl_ HB⟩
 ·rw [if_neg c2] at H;have bE:(aQ == 1)=false:=nb_ c2;have dX:(aQ != 1)=true:=nn_ c2;by_cases c6:aQ=2
  ·rw [if_pos c6] at H;have dZ:(aQ == 2)=true:=eb_ c6;have d9:(aQ != 2)=false:=nq_ c6;clear c6;replace H:=bo_ H;obtain ⟨bS,eU,H⟩:=H;replace H:(some bS)=some r:=H;have A7:=Xa.mk eU;clear eU;obtain rfl:=sj_ H;go_enter Try.func83,Try.ntmps83;go_wp2_with (first|((with_reducible refine Zc (N:=1) rfl ?_);refine Zy ?hg (N:=1) ?hd (cs:=#[.int .i64 aQ,.int .i64 bP,.int .i64 bQ,.int .i64 aV,.slice bT bC.length bW,.slice bU bD.length bX]) (t:=69) ?hr ?_;(case hd|hg=>rfl);(case hr=>exact hr_);intro aZ hg w8 hbox hb;have aY:=Xa.mk (hbox);have dA:=Xa.mk ((ge_ hg (Xr (bl_ HB)):w.heap.size≤aZ));have cZ:=Xa.mk ((ge_ hg (Xr (bl_ HB)):w.heap.size≤aZ));replace HB:=Xa.mk (Xo (bl_ HB) hb);clear hb hbox hg;obtain ⟨_,_,_,_,_,_⟩:=Ug aY.out;obtain ⟨_,_,_,_,_,_⟩:=Uh aY.out)|((with_reducible refine Xq (f:=85) rfl ?_);refine Zg (some 14) rfl rfl Try.func85 kr_ rfl #[.int .i64 aV] rfl ga_ ?_;(with_reducible refine (impl_isOp.calls aV bS _ A7.out).mono ?_);rintro e w' ⟨rfl,⟨nd,rfl⟩⟩;refine ⟨_,rfl,?_⟩));go_ret
   exact ⟨rf_,bl_ HB⟩
  ·rw [if_neg c6] at H;have dZ:(aQ == 2)=false:=nb_ c6;have d9:(aQ != 2)=true:=nn_ c6;obtain rfl:=sj_ H;go_enter Try.func83,Try.ntmps83;go_wp2_with (first|((with_reducible refine Zc (N:=1) rfl ?_);refine Zy ?hg (N:=1) ?hd (cs:=#[.int .i64 aQ,.int .i64 bP,.int .i64 bQ,.int .i64 aV,.slice bT bC.length bW,.slice bU bD.length bX]) (t:=69) ?hr ?_;(case hd|hg=>rfl);(case hr=>exact hr_);intro aZ hg eZ hbox hb;have aY:=Xa.mk (hbox);have dA:=Xa.mk ((ge_ hg (Xr (bl_ HB)):w.heap.size≤aZ));have cZ:=Xa.mk ((ge_ hg (Xr (bl_ HB)):w.heap.size≤aZ));replace HB:=Xa.mk (Xo (bl_ HB) hb);clear hb hbox hg;obtain ⟨_,_,_,_,_,_⟩:=Ug aY.out;obtain ⟨_,_,_,_,_,_⟩:=Uh aY.out));go_ret
   exact ⟨rf_,bl_ HB⟩
end Go.Proofs.Ytlhogkfmdnpmkaa.GWhole
