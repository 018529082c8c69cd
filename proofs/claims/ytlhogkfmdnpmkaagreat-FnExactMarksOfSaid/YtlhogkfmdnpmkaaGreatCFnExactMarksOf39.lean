import Derived.Test.YtlhogkfmdnpmkaaGreatCFnExactMarksOf21
set_option linter.unusedVariables false
set_option linter.unusedSimpArgs false
set_option maxRecDepth 100000
namespace Go.Proofs.YtlhogkfmdnpmkaaGreat.GMarks
open RowKit YtlhogkfmdnpmkaaGreatW.PrintWords YtlhogkfmdnpmkaaGreatW.PrintLast YtlhogkfmdnpmkaaGreatW.PrintMore
attribute [local go_sem] Ua Ud Uu Ux Zo Zp Ub Ue
mutual
def Xw.l0:Nat→List (S87)→List (S87)→Int→Int→Option ((List (S87)))
 |0,_,_,_,_=>none
 |k+1,x3,x6,x7,x8=>if x8<x7 then (if 0≤x8 then (if x8<(x6.length:Int) then ((Xw.f k ((Xe x6 x8).f4)).bind fun aK=>((Xw.f k ((Xe x6 x8).f5)).bind fun aM=>(if x3.length<1759218604441 then (Xw.l0 k (x3 ++ [(⟨(Xe x6 x8).f0,(Xe x6 x8).f1,(Xe x6 x8).f2,(Xe x6 x8).f3,aK,aM⟩:S87)]) x6 x7 (wrap64 (x8+1))) else (none)))) else (none)) else (none)) else (some x3)
def Xw.f:Nat→List (S87)→Option ((List (S87)))
 |0,_=>none
 |k+1,l0=>Xw.l0 k ([]:List (S87)) l0 (l0.length:Int) 0
end
def Xw.T5:Bool × List (List Nat × List Nat):=(true,[([],[]),([0],[0]),([1],[1]),([],[]),([3],[3]),([4,2],[4]),([0,1,2,3,4],[]),([6,2,5,0,1,2,3,4],[2,6]),([0,1,2,3,4,5,6,7],[]),([8,5,7,0,1,2,3,4,5,6,7],[5,8])])
def Xw.B5:List Nat:=[0,1,3,0,8,31,31,127,255,511]
theorem Xw.tab5:rtab .any (opsOf Tryz.f83 5)=Xw.T5:=kr_
theorem Xw.bits5:waitsOk Xw.T5.2 Xw.B5=true:=kr_
set_option maxHeartbeats 8000000 in
theorem Xw.calls (k:Nat):∀ (A0:Option Addr) (c0:Nat) (l0:List (S87)) (r:List (S87)) (w:World) (hr0:Kd.C k87 w A0 l0.length l0) (hc0:l0.length≤c0) (h:Xw.f k l0=some r),
  Calls Tryz.prog 83 #[.slice A0 l0.length c0] w fun e w'=>∃ dJ:Value,e=.returned (dJ)∧Kd.R k87 87 w' w.heap.size (fun _=>True) dJ r∧Below w.heap.size w w':=by
 induction k using Nat.strongRecOn with
 |_ k ih=>
 intro A0 c0 l0 r w hr0 hc0 h
 cases k with
 |zero=>exact absurd h (by simp [Xw.f])
 |succ k=>
 simp only [Xw.f] at h;have hu87:=Tryz.underlying87;have dK:=Xa.mk hr0;have HC0:=Xa.mk hc0;clear hr0 hc0;have HB:=Xa.mk (Below.refl w.heap.size w);have H:(Xw.l0 k ([]:List (S87)) l0 (l0.length:Int) 0)=some r:=h;clear h;have H':=Xa.mk H;clear H;go_enter Tryz.func83,Tryz.ntmps83;go_wp2
 go_loopg [3,8] k (fun kq v3 v8 w'=>∃ (aW:List (S87)) (aA:Int),v8=.int .i64 aA∧Xa (Xw.l0 kq aW l0 (l0.length:Int) aA=some r)∧Xa (kq≤k)∧Xa (Kd.R k87 87 w' w.heap.size (fun _=>True) v3 aW)∧Xa (Below w.heap.size w w'))
 case atStart=>exact ⟨(([]:List (S87))),(0),rg_,H',⟨nr_ _⟩,⟨ni_⟩,⟨bl_ HB⟩⟩
 case round=>
  clear H';obtain ⟨aW,aA,rfl,HA,cK,aN,HB⟩:=hrel
  cases gk with
  |zero=>exact absurd HA.out (by simp [Xw.l0])
  |succ k1=>
   have H:=HA.out;clear HA;simp only [Xw.l0] at H;by_cases c2:aA<(l0.length:Int)
   ·rw [if_pos c2] at H;have cZ:decide (aA<(l0.length:Int))=true:=dt_ c2;clear c2;by_cases c3:0≤aA
    ·rw [if_pos c3] at H;have c3b0:decide (0≤aA)=true:=dt_ c3;clear c3;by_cases c4:aA<(l0.length:Int)
     ·rw [if_pos c4] at H;have c4b0:decide (aA<(l0.length:Int))=true:=dt_ c4;clear c4;replace H:=bo_ H;obtain ⟨aK,dG,H⟩:=H;replace H:((Xw.f k1 ((Xe l0 aA).f5)).bind fun aM=>(if aW.length<1759218604441 then (Xw.l0 k1 (aW ++ [(⟨(Xe l0 aA).f0,(Xe l0 aA).f1,(Xe l0 aA).f2,(Xe l0 aA).f3,aK,aM⟩:S87)]) l0 (l0.length:Int) (wrap64 (aA+1))) else (none)))=some r:=H;have A5:=Xa.mk dG;clear dG;replace H:=bo_ H;obtain ⟨aM,dH,H⟩:=H;replace H:(if aW.length<1759218604441 then (Xw.l0 k1 (aW ++ [(⟨(Xe l0 aA).f0,(Xe l0 aA).f1,(Xe l0 aA).f2,(Xe l0 aA).f3,aK,aM⟩:S87)]) l0 (l0.length:Int) (wrap64 (aA+1))) else (none))=some r:=H;have A6:=Xa.mk dH;clear dH;by_cases c7:aW.length<1759218604441
      ·rw [if_pos c7] at H;have cO:=Xa.mk c7;clear c7;obtain ⟨cB,bJ⟩:∃ y_:List (S87),y_=(aW ++ [(⟨(Xe l0 aA).f0,(Xe l0 aA).f1,(Xe l0 aA).f2,(Xe l0 aA).f3,aK,aM⟩:S87)]):=⟨_,rfl⟩
       replace H:(Xw.l0 k1 cB l0 (l0.length:Int) (wrap64 (aA+1)))=some r:=by subst bJ;exact hh_ H
       have bV:=Xa.mk bJ;clear bJ;have H':=Xa.mk H;clear H;have bS:0≤(aA:Int):=od_ as_;have bT:aA<(l0.length:Int):=od_ as_;obtain ⟨ad161,aG,aI,aH,aJ,dA,bC,bD,bE,bF,bG,bH,bA,aY,bB,aZ⟩:=at_T87 dK.out aA bS bT;cases dA
       replace bC:=bw_ HB bC;replace bD:=bw_ HB bD;replace bE:=bw_ HB bE;replace bF:=bw_ HB bF;replace bG:=bw_ HB bG;replace bH:=bw_ HB bH;have bM:=Xa.mk aY;have bK:=Xa.mk bA;clear aY bA;have bN:=Xa.mk aZ;have bL:=Xa.mk bB;clear aZ bB;replace bS:=eq_true bS;replace bT:=eq_true bT
       try go_wp2_with (first|((with_reducible refine Yv (N:=5) rfl ?_);refine Zb ?hg (N:=5) ?hd (cs:=#[.int .i64 0,.int .i64 0,.int .i64 0,.int .i64 0,.slice none 0 0,.slice none 0 0]) (t:=87) ?hr ?_;(case hd|hg=>rfl);(case hr=>exact hr_);intro aC hg w8 hbox hb;replace aN:=Xa.mk (Kd.R_below (Kd.R_elderB (Kd.ra_ (aN.out)) aC (Nat.le_of_eq hg.symm)) hb);have aD:=Xa.mk (hbox);have GW162:=Xa.mk ((ge_ hg (Xj (bl_ HB)):w.heap.size≤aC));have GE162:=Xa.mk ((ge_ hg (Xj (bl_ HB)):w.heap.size≤aC));replace HB:=Xa.mk (Xi (bl_ HB) hb);clear hb hbox hg;obtain ⟨_,_,_,_,_,_⟩:=Zr aD.out;obtain ⟨_,_,_,_,_,_⟩:=Zt aD.out))
       have bP:Xa (Kd.R k87 87 ((((((w8.setCell ⟨aC,0,none⟩ (.int .i64 ((Xe l0 aA).f0))).setCell ⟨aC,1,none⟩ (.int .i64 ((Xe l0 aA).f1))).setCell ⟨aC,2,none⟩ (.int .i64 ((Xe l0 aA).f2))).setCell ⟨aC,3,none⟩ (.int .i64 ((Xe l0 aA).f3))).setCell ⟨aC,4,none⟩ (.slice aG ((Xe l0 aA).f4).length aI)).setCell ⟨aC,5,none⟩ (.slice aH ((Xe l0 aA).f5).length aJ)) w.heap.size (fun k_=>k_≠aC) u3 aW):=⟨Kd.ra_ (Kd.Zc (Kd.R_far (p:=⟨aC,5,none⟩) (Kd.R_far (p:=⟨aC,4,none⟩) (Kd.R_far (p:=⟨aC,3,none⟩) (Kd.R_far (p:=⟨aC,2,none⟩) (Kd.R_far (p:=⟨aC,1,none⟩) (Kd.R_far (p:=⟨aC,0,none⟩) (Kd.Zc aN.out (fun k_ hk=>(⟨hk,hk.2⟩:_∧k_≠aC))) (fun _ hk=>hk.2) (.int .i64 ((Xe l0 aA).f0))) (fun _ hk=>hk.2) (.int .i64 ((Xe l0 aA).f1))) (fun _ hk=>hk.2) (.int .i64 ((Xe l0 aA).f2))) (fun _ hk=>hk.2) (.int .i64 ((Xe l0 aA).f3))) (fun _ hk=>hk.2) (.slice aG ((Xe l0 aA).f4).length aI)) (fun _ hk=>hk.2) (.slice aH ((Xe l0 aA).f5).length aJ)) (fun _ hk=>hk.1.2))⟩;have bQ:Xa (((((((w8.setCell ⟨aC,0,none⟩ (.int .i64 ((Xe l0 aA).f0))).setCell ⟨aC,1,none⟩ (.int .i64 ((Xe l0 aA).f1))).setCell ⟨aC,2,none⟩ (.int .i64 ((Xe l0 aA).f2))).setCell ⟨aC,3,none⟩ (.int .i64 ((Xe l0 aA).f3))).setCell ⟨aC,4,none⟩ (.slice aG ((Xe l0 aA).f4).length aI)).setCell ⟨aC,5,none⟩ (.slice aH ((Xe l0 aA).f5).length aJ)).heap[aC]?=some (.cells #[.int .i64 ((Xe l0 aA).f0),.int .i64 ((Xe l0 aA).f1),.int .i64 ((Xe l0 aA).f2),.int .i64 ((Xe l0 aA).f3),.slice aG ((Xe l0 aA).f4).length aI,.slice aH ((Xe l0 aA).f5).length aJ] 87 (0,0))):=⟨by refine bb_ (Xn (cs:=#[.int .i64 ((Xe l0 aA).f0),.int .i64 ((Xe l0 aA).f1),.int .i64 ((Xe l0 aA).f2),.int .i64 ((Xe l0 aA).f3),.slice aG ((Xe l0 aA).f4).length aI,.slice none 0 0]) ?_ 5 _ rfl);refine bb_ (Xn (cs:=#[.int .i64 ((Xe l0 aA).f0),.int .i64 ((Xe l0 aA).f1),.int .i64 ((Xe l0 aA).f2),.int .i64 ((Xe l0 aA).f3),.slice none 0 0,.slice none 0 0]) ?_ 4 _ rfl);refine bb_ (Xn (cs:=#[.int .i64 ((Xe l0 aA).f0),.int .i64 ((Xe l0 aA).f1),.int .i64 ((Xe l0 aA).f2),.int .i64 0,.slice none 0 0,.slice none 0 0]) ?_ 3 _ rfl);refine bb_ (Xn (cs:=#[.int .i64 ((Xe l0 aA).f0),.int .i64 ((Xe l0 aA).f1),.int .i64 0,.int .i64 0,.slice none 0 0,.slice none 0 0]) ?_ 2 _ rfl);refine bb_ (Xn (cs:=#[.int .i64 ((Xe l0 aA).f0),.int .i64 0,.int .i64 0,.int .i64 0,.slice none 0 0,.slice none 0 0]) ?_ 1 _ rfl);refine bb_ (Xn (cs:=#[.int .i64 0,.int .i64 0,.int .i64 0,.int .i64 0,.slice none 0 0,.slice none 0 0]) ?_ 0 _ rfl);(with_reducible repeat (first|refine Xx ?_ _|refine Xr ?_|refine Xl ?_ _));exact aD.out⟩;have bR:Xa (Below w.heap.size w ((((((w8.setCell ⟨aC,0,none⟩ (.int .i64 ((Xe l0 aA).f0))).setCell ⟨aC,1,none⟩ (.int .i64 ((Xe l0 aA).f1))).setCell ⟨aC,2,none⟩ (.int .i64 ((Xe l0 aA).f2))).setCell ⟨aC,3,none⟩ (.int .i64 ((Xe l0 aA).f3))).setCell ⟨aC,4,none⟩ (.slice aG ((Xe l0 aA).f4).length aI)).setCell ⟨aC,5,none⟩ (.slice aH ((Xe l0 aA).f5).length aJ))):=⟨bl_ HB⟩
       (try clear aN)
       (try clear aD)
       (try clear HB)
       generalize ((((((w8.setCell ⟨aC,0,none⟩ (.int .i64 ((Xe l0 aA).f0))).setCell ⟨aC,1,none⟩ (.int .i64 ((Xe l0 aA).f1))).setCell ⟨aC,2,none⟩ (.int .i64 ((Xe l0 aA).f2))).setCell ⟨aC,3,none⟩ (.int .i64 ((Xe l0 aA).f3))).setCell ⟨aC,4,none⟩ (.slice aG ((Xe l0 aA).f4).length aI)).setCell ⟨aC,5,none⟩ (.slice aH ((Xe l0 aA).f5).length aJ))=dL at bP bQ bR ⊢;have aN:=bP;have aD:=bQ;have HB:=bR;clear bP bQ bR;replace aN:=Xa.mk (Kd.R_drew aN.out);replace aD:=Xa.mk (Xr aD.out);replace HB:=Xa.mk (below_drew1 HB.out);refine Ul (n:=10) (S:=fun w'=>w'.cell? ⟨aC,0,none⟩=some (.int .i64 ((Xe l0 aA).f0))∧w'.cell? ⟨aC,1,none⟩=some (.int .i64 ((Xe l0 aA).f1))∧w'.cell? ⟨aC,2,none⟩=some (.int .i64 ((Xe l0 aA).f2))∧w'.cell? ⟨aC,3,none⟩=some (.int .i64 ((Xe l0 aA).f3))∧w'.cell? ⟨aC,4,none⟩=some (.slice aG ((Xe l0 aA).f4).length aI)∧w'.cell? ⟨aC,5,none⟩=some (.slice aH ((Xe l0 aA).f5).length aJ)) (ds:=[7,9]) #[false,false,false,false,false,false,false,false,false,false] kr_ rfl rfl ⟨(Xd aD.out 0).trans rfl,(Xd aD.out 1).trans rfl,(Xd aD.out 2).trans rfl,(Xd aD.out 3).trans rfl,(Xd aD.out 4).trans rfl,(Xd aD.out 5).trans rfl⟩ (fun hHeld=>?_);refine with_tabW Xw.tab5 Xw.bits5 (fun bI dI=>?_);generalize dL.drew=w11 at aN aD HB hHeld ⊢;refine Zv (i:=0) (N:=some 12) (v:=?_) (a':=?_) #[true,false,false,false,false,false,false,false,false,false] rfl rfl (Zf bI.out kr_) (fun _ _ _ h=>h) (Or.inl ⟨rl1_,?_⟩) ?_ ?_;rotate_left
       · exact wr_
       rotate_left
       · exact ap_
       refine Zv (i:=3) (N:=some 15) (v:=?_) (a':=?_) #[true,false,false,true,false,false,false,false,false,false] rfl rfl (Zf bI.out kr_) (fun _ _ _ h=>h) (Or.inl ⟨rl1_,?_⟩) ?_ ?_;rotate_left
       · exact wr_
       rotate_left
       · exact ap_
       refine take_ (i:=1) (N:=some 13) (v:=?_) (a':=?_) #[true,true,false,true,false,false,false,false,false,false] rfl rfl (take_ofW bI.out dI.out kr_) (fun _ _ _ h=>h) (Or.inl ⟨rl1_,?_⟩) hHeld ?_ ?_;rotate_left
       ·rintro w' ⟨s0,s1,s2,s3,s4,s5⟩;go_simp
        with_reducible rfl
       rotate_left
       · exact ap_
       refine take_ (i:=4) (N:=some 16) (v:=?_) (a':=?_) #[true,true,false,true,true,false,false,false,false,false] rfl rfl (take_ofW bI.out dI.out kr_) (fun _ _ _ h=>h) (Or.inl ⟨rl1_,?_⟩) hHeld ?_ ?_;rotate_left
       ·rintro w' ⟨s0,s1,s2,s3,s4,s5⟩;go_simp
        with_reducible rfl
       rotate_left
       · exact ap_
       refine one_ (i:=2) (N:=some 14) #[true,true,true,true,true,false,false,false,false,false] rfl rfl (one_of bI.out kr_) de_ (fun K hK=>?_);refine Vd Tryz.func83 kr_ rfl #[.slice aG ((Xe l0 aA).f4).length aI] rl1_ rfl rfl ga_ ?_
       with_reducible refine (ih k1 (by have:=cK.out;omega) _ _ ((Xe l0 aA).f4) aK _ ?side1 ?side2 A5.out).mono ?_
       (case side1=>exact Kd.ca_ (Kd.Xy bM.out HB.out))
       (case side2=>exact bK.out)
       rintro e w12 ⟨v164,rfl,ho0,hb⟩;refine ⟨_,rfl,?_⟩;have aV:=Xa.mk (Kd.R_lower (Kd.R_newB (Kd.R_new' ho0 (Kd.R_lt (Kd.ra_ (aN.out)))) (g:=aC) (o:=.cells #[.int .i64 ((Xe l0 aA).f0),.int .i64 ((Xe l0 aA).f1),.int .i64 ((Xe l0 aA).f2),.int .i64 ((Xe l0 aA).f3),.slice aG ((Xe l0 aA).f4).length aI,.slice aH ((Xe l0 aA).f5).length aJ] 87 (0,0)) (ba_ aD)) (Xj (bl_ HB)));replace aN:=Xa.mk (Kd.R_elder' (Kd.ra_ (aN.out)) (Kd.R_base ho0) hb);replace aD:=Xa.mk (Xm (g:=aC) (o:=.cells #[.int .i64 ((Xe l0 aA).f0),.int .i64 ((Xe l0 aA).f1),.int .i64 ((Xe l0 aA).f2),.int .i64 ((Xe l0 aA).f3),.slice aG ((Xe l0 aA).f4).length aI,.slice aH ((Xe l0 aA).f5).length aJ] 87 (0,0)) (ba_ aD) hb);replace HB:=Xa.mk (Xi (bl_ HB) hb)
       clear hb
       skip
       skip
       skip
       clear ho0
       refine hK.out _ _ ⟨(Xd aD.out 0).trans rfl,(Xd aD.out 1).trans rfl,(Xd aD.out 2).trans rfl,(Xd aD.out 3).trans rfl,(Xd aD.out 4).trans rfl,(Xd aD.out 5).trans rfl⟩ (fun hHeld=>?_);clear hK K;refine no_ ?_;refine Zv (i:=6) (N:=some 18) (v:=?_) (a':=?_) #[true,true,true,true,true,false,true,false,false,false] rfl rfl (Zf bI.out kr_) (fun _ _ _ h=>h) (Or.inl ⟨rl1_,?_⟩) ?_ ?_;rotate_left
       · exact wr_
       rotate_left
       · exact ap_
       refine one_ (i:=5) (N:=some 17) #[true,true,true,true,true,true,true,false,false,false] rfl rfl (one_of bI.out kr_) de_ (fun K hK=>?_);refine Vd Tryz.func83 kr_ rfl #[.slice aH ((Xe l0 aA).f5).length aJ] rl1_ rfl rfl ga_ ?_
       with_reducible refine (ih k1 (by have:=cK.out;omega) _ _ ((Xe l0 aA).f5) aM _ ?side1 ?side2 A6.out).mono ?_
       (case side1=>exact Kd.ca_ (Kd.Xy bN.out HB.out))
       (case side2=>exact bL.out)
       rintro e bO ⟨v167,rfl,ho0,hb⟩;refine ⟨_,rfl,?_⟩;have aX:=Xa.mk (Kd.R_lower (Kd.R_newB (Kd.R_new' (Kd.R_new' ho0 (Kd.R_lt (Kd.ra_ (aN.out)))) (Kd.R_lt (Kd.ra_ (aV.out)))) (g:=aC) (o:=.cells #[.int .i64 ((Xe l0 aA).f0),.int .i64 ((Xe l0 aA).f1),.int .i64 ((Xe l0 aA).f2),.int .i64 ((Xe l0 aA).f3),.slice aG ((Xe l0 aA).f4).length aI,.slice aH ((Xe l0 aA).f5).length aJ] 87 (0,0)) (ba_ aD)) (Xj (bl_ HB)));replace aN:=Xa.mk (Kd.R_elder' (Kd.ra_ (aN.out)) (Kd.R_base ho0) hb);replace aV:=Xa.mk (Kd.R_elder' (Kd.ra_ (aV.out)) (Kd.R_base ho0) hb);replace aD:=Xa.mk (Xm (g:=aC) (o:=.cells #[.int .i64 ((Xe l0 aA).f0),.int .i64 ((Xe l0 aA).f1),.int .i64 ((Xe l0 aA).f2),.int .i64 ((Xe l0 aA).f3),.slice aG ((Xe l0 aA).f4).length aI,.slice aH ((Xe l0 aA).f5).length aJ] 87 (0,0)) (ba_ aD) hb);replace HB:=Xa.mk (Xi (bl_ HB) hb)
       clear hb
       skip
       skip
       skip
       clear ho0
       obtain ⟨aQ,aR,bW⟩:=Kd.Zq aV.out
       (first|subst bW|(injection bW with bY dB bZ;have dC:=bY.symm;have dD:=bZ.symm;clear bY dB bZ;subst dC;subst dD))
       obtain ⟨aT,aU,bX⟩:=Kd.Zq aX.out
       (first|subst bX|(injection bX with bY dB bZ;have dC:=bY.symm;have dD:=bZ.symm;clear bY dB bZ;subst dC;subst dD))
       refine hK.out _ _ ⟨(Xd aD.out 0).trans rfl,(Xd aD.out 1).trans rfl,(Xd aD.out 2).trans rfl,(Xd aD.out 3).trans rfl,(Xd aD.out 4).trans rfl,(Xd aD.out 5).trans rfl⟩ (fun hHeld=>?_);clear hK K;refine no_ ?_;refine last_ (i:=7) (N:=none) #[true,true,true,true,true,true,true,true,false,false] rfl rfl (one_of bI.out kr_) de_ (fun K hK=>?_);have hs15:bO.cell? ⟨aC,4,none⟩=some (.slice aG ((Xe l0 aA).f4).length aI):=(Xd aD.out 4).trans rfl;have hfs15:=Xc aD.out 4;refine skip_ (w1:=?_) rl1_ rfl ?_ ?_;rotate_left
       ·go_simp
        rfl
       refine hK.out _ _ ?_;clear hK K;refine Zv (i:=8) (N:=some 19) (v:=?_) (a':=?_) #[true,true,true,true,true,true,true,true,true,false] rfl rfl (Zf bI.out kr_) (fun _ _ _ h=>h) (Or.inl ⟨rl1_,?_⟩) ?_ ?_;rotate_left
       · exact wr_
       rotate_left
       · exact ap_
       refine last_ (i:=9) (N:=none) #[true,true,true,true,true,true,true,true,true,true] rfl rfl (one_of bI.out kr_) de_ (fun K hK=>?_);have hs17:bO.cell? ⟨aC,5,none⟩=some (.slice aH ((Xe l0 aA).f5).length aJ):=(Xd aD.out 5).trans rfl;have hfs17:=Xc aD.out 5;refine skip_ (w1:=?_) rl1_ rfl ?_ ?_;rotate_left
       ·go_simp
        rfl
       refine hK.out _ _ ?_;clear hK K;refine Uz (done_of bI.out kr_) ?_;have bP:Xa (Kd.R k87 87 ((bO.setCell ⟨aC,4,none⟩ (.slice aQ aK.length aR)).setCell ⟨aC,5,none⟩ (.slice aT aM.length aU)) w.heap.size (fun k_=>some k_≠(.slice aQ aK.length aR:Value).ownBlock∧some k_≠(.slice aT aM.length aU:Value).ownBlock∧k_≠aC) u3 aW):=⟨Kd.ra_ (Kd.Zc (Kd.R_far (p:=⟨aC,5,none⟩) (Kd.R_far (p:=⟨aC,4,none⟩) (Kd.Zc aN.out (fun k_ hk=>(⟨hk,hk.1.1⟩:_∧k_≠aC))) (fun _ hk=>hk.2) (.slice aQ aK.length aR)) (fun _ hk=>hk.2) (.slice aT aM.length aU)) (fun _ hk=>⟨hk.1.1.2,⟨hk.1.2,hk.1.1.1⟩⟩))⟩;have bQ:Xa (Kd.R k87 87 ((bO.setCell ⟨aC,4,none⟩ (.slice aQ aK.length aR)).setCell ⟨aC,5,none⟩ (.slice aT aM.length aU)) w.heap.size (fun k_=>some k_≠(u3:Value).ownBlock∧some k_≠(.slice aT aM.length aU:Value).ownBlock∧k_≠aC) (.slice aQ aK.length aR) aK):=⟨Kd.ra_ (Kd.Zc (Kd.R_far (p:=⟨aC,5,none⟩) (Kd.R_far (p:=⟨aC,4,none⟩) (Kd.Zc aV.out (fun k_ hk=>(⟨hk,hk.1.2⟩:_∧k_≠aC))) (fun _ hk=>hk.2) (.slice aQ aK.length aR)) (fun _ hk=>hk.2) (.slice aT aM.length aU)) (fun _ hk=>⟨hk.1.1.1.2,⟨hk.1.2,hk.1.1.2⟩⟩))⟩;have bR:Xa (Kd.R k87 87 ((bO.setCell ⟨aC,4,none⟩ (.slice aQ aK.length aR)).setCell ⟨aC,5,none⟩ (.slice aT aM.length aU)) w.heap.size (fun k_=>some k_≠(u3:Value).ownBlock∧some k_≠(.slice aQ aK.length aR:Value).ownBlock∧k_≠aC) (.slice aT aM.length aU) aM):=⟨Kd.ra_ (Kd.Zc (Kd.R_far (p:=⟨aC,5,none⟩) (Kd.R_far (p:=⟨aC,4,none⟩) (Kd.Zc aX.out (fun k_ hk=>(⟨hk,hk.2⟩:_∧k_≠aC))) (fun _ hk=>hk.2) (.slice aQ aK.length aR)) (fun _ hk=>hk.2) (.slice aT aM.length aU)) (fun _ hk=>⟨hk.1.1.1.2,⟨hk.1.1.2,hk.1.2⟩⟩))⟩;have dE:Xa (((bO.setCell ⟨aC,4,none⟩ (.slice aQ aK.length aR)).setCell ⟨aC,5,none⟩ (.slice aT aM.length aU)).heap[aC]?=some (.cells #[.int .i64 ((Xe l0 aA).f0),.int .i64 ((Xe l0 aA).f1),.int .i64 ((Xe l0 aA).f2),.int .i64 ((Xe l0 aA).f3),.slice aQ aK.length aR,.slice aT aM.length aU] 87 (0,0))):=⟨by refine bb_ (Xn (cs:=#[.int .i64 ((Xe l0 aA).f0),.int .i64 ((Xe l0 aA).f1),.int .i64 ((Xe l0 aA).f2),.int .i64 ((Xe l0 aA).f3),.slice aQ aK.length aR,.slice aH ((Xe l0 aA).f5).length aJ]) ?_ 5 _ rfl);refine bb_ (Xn (cs:=#[.int .i64 ((Xe l0 aA).f0),.int .i64 ((Xe l0 aA).f1),.int .i64 ((Xe l0 aA).f2),.int .i64 ((Xe l0 aA).f3),.slice aG ((Xe l0 aA).f4).length aI,.slice aH ((Xe l0 aA).f5).length aJ]) ?_ 4 _ rfl);(with_reducible repeat (first|refine Xx ?_ _|refine Xr ?_|refine Xl ?_ _));exact aD.out⟩;have dF:Xa (Below w.heap.size w ((bO.setCell ⟨aC,4,none⟩ (.slice aQ aK.length aR)).setCell ⟨aC,5,none⟩ (.slice aT aM.length aU))):=⟨bl_ HB⟩
       (try clear aN)
       (try clear aV)
       (try clear aX)
       (try clear aD)
       (try clear HB)
       generalize ((bO.setCell ⟨aC,4,none⟩ (.slice aQ aK.length aR)).setCell ⟨aC,5,none⟩ (.slice aT aM.length aU))=w18 at bP bQ bR dE dF ⊢;have aN:=bP;have aV:=bQ;have aX:=bR;have aD:=dE;have HB:=dF;clear bP bQ bR dE dF;obtain ⟨_,_,_,_,_,_⟩:=Zr aD.out;obtain ⟨_,_,_,_,_,_⟩:=Zt aD.out
       try go_wp2_with (first|((with_reducible refine gate_builtin (b:=.append) (xs:=#[.tmp 20,.tmp 22]) rfl ?_);at_builtin;refine Kd.R_append k87 (w0:=w) w.heap.size rfl (.tmp 20) (.tmp 22) 64 87 (.agg #[(.int .i64 0),(.int .i64 0),(.int .i64 0),(.int .i64 0),(.slice none 0 0),(.slice none 0 0)]) 80 rfl Tryz.underlying64 info87 rfl de_ om_ u3 aW (⟨(Xe l0 aA).f0,(Xe l0 aA).f1,(Xe l0 aA).f2,(Xe l0 aA).f3,aK,aM⟩:S87) [.int .i64 ((Xe l0 aA).f0),.int .i64 ((Xe l0 aA).f1),.int .i64 ((Xe l0 aA).f2),.int .i64 ((Xe l0 aA).f3),.slice aQ aK.length aR,.slice aT aM.length aU] (fun k_=>k_≠aC) (fun k_=>((fun k_=>k_≠aC)) k_∧some k_≠(u3:Value).ownBlock) rfl rfl ?aP (fun _ hk=>hk) ?aF ?aO ?aB ?aS ?aL ?_;(case aP=>exact k87_mkM _ _ _ (⟨(Xe l0 aA).f0,(Xe l0 aA).f1,(Xe l0 aA).f2,(Xe l0 aA).f3,aK,aM⟩:S87) (Kd.Zc (aV.out) (fun k_ hk=>⟨hk.2.2,hk.1⟩)) (Kd.Zc (aX.out) (fun k_ hk=>⟨hk.2.2,hk.1⟩)));(case aB=>exact (bl_ HB));(case aF=>exact (fun k_ hk=>Kd.freshB (g:=aC) (o:=.cells #[.int .i64 ((Xe l0 aA).f0),.int .i64 ((Xe l0 aA).f1),.int .i64 ((Xe l0 aA).f2),.int .i64 ((Xe l0 aA).f3),.slice aQ aK.length aR,.slice aT aM.length aU] 87 (0,0)) (ba_ aD) k_ hk));(case aO=>exact (Kd.ra_ (Kd.Zc aN.out (fun _ hk=>hk.2.2))));(case aS=>exact (Xj (bl_ HB)));(case aL=>have:=cO.out;omega);intro v170 w20 ho hb hg hat;rw [← bV.out] at ho;replace aD:=Xa.mk (blk_grown (g:=aC) (o:=.cells #[.int .i64 ((Xe l0 aA).f0),.int .i64 ((Xe l0 aA).f1),.int .i64 ((Xe l0 aA).f2),.int .i64 ((Xe l0 aA).f3),.slice aQ aK.length aR,.slice aT aM.length aU] 87 (0,0)) (ba_ aD) hg (Kd.R_away aN.out (fun _ hk=>hk.2.2)));replace HB:=Xa.mk (hb);have bU:=Xa.mk (ho);clear aN aV aX ho hb hg hat))
       go_roundg k1
       case measure=>have:=cK.out;omega
       case rel=>exact ⟨(cB),(wrap64 (aA+1)),rg_,H',⟨by have:=cK.out;omega⟩,⟨Kd.ra_ (Kd.Zc bU.out (fun _ hk=>trivial))⟩,⟨bl_ HB⟩⟩
      ·rw [if_neg c7] at H;exact absurd H sm_
     ·rw [if_neg c4] at H;exact absurd H sm_
    ·rw [if_neg c3] at H;exact absurd H sm_
   ·rw [if_neg c2] at H;have cZ:decide (aA<(l0.length:Int))=false:=df_ c2;clear c2;obtain rfl:=sj_ H;go_wp2;go_ret
    exact ⟨_,rf_,Kd.ra_ (aN.out),bl_ HB⟩
end Go.Proofs.YtlhogkfmdnpmkaaGreat.GMarks
