import Derived.Test.YtlhogkfmdnpmkaaCFnWholeOrder61
set_option linter.unusedVariables false
set_option linter.unusedSimpArgs false
set_option maxHeartbeats 8000000
set_option maxRecDepth 100000
namespace Go.Proofs.Ytlhogkfmdnpmkaa.GWhole
open RowKit YtlhogkfmdnpmkaaW.PrintWords YtlhogkfmdnpmkaaW.PrintLast YtlhogkfmdnpmkaaW.PrintMore
attribute [local go_sem] Uq Us max_two min_two Zz Ua Ur Ut
mutual
def Xx.l0:Nat→List (S69)→Int→Int→Int→Option (Int)
 |0,_,_,_,_=>none
 |k+1,x0,x1,x5,x6=>if x6<(x0.length:Int) then (Xx.j1 k x0 x1 x5 x6 (decide (x1 > 0))) else (Xx.j1 k x0 x1 x5 x6 false)
def Xx.j1:Nat→List (S69)→Int→Int→Int→Bool→Option (Int)
 |0,_,_,_,_,_=>none
 |k+1,x0,x1,x5,x6,eO=>if eO=true then (if 0≤x6 then (if x6<(x0.length:Int) then ((Xx.f k ((Xb x0 x6).f4) (wrap64 (x1 - 1))).bind fun bL=>((Xx.f k ((Xb x0 x6).f5) (wrap64 (x1 - 1))).bind fun bJ=>(Xx.l0 k x0 x1 (wrap64 ((wrap64 ((wrap64 (x5+1))+bL))+bJ)) (wrap64 (x6+1))))) else (none)) else (none)) else (some x5)
def Xx.f:Nat→List (S69)→Int→Option (Int)
 |0,_,_=>none
 |k+1,l0,a1=>Xx.l0 k l0 a1 0 0
end
def Xx.T5:Bool × List (List Nat × List Nat):=(true,[([],[]),([0],[0]),([],[]),([],[]),([2,3],[2,3]),([4],[4]),([5],[5]),([],[]),([7],[7]),([6,8],[6,8]),([1,9],[1,9]),([],[]),([],[]),([11,12],[11,12]),([13],[13]),([14],[14]),([],[]),([16],[16]),([15,17,9],[15,17]),([10,18],[10,18]),([19,18,0,1,2,3,4,5,6,7,8,9,10,11,12,13,14,15,16,17,18,19],[0,19])])
def Xx.B5:List Nat:=[0,1,0,0,12,28,60,0,128,508,1023,0,0,6144,14336,30720,0,65536,261116,524287,1048575]
theorem Xx.tab5:rtab .any (opsOf Try.f54 5)=Xx.T5:=kr_
theorem Xx.bits5:waitsOk Xx.T5.2 Xx.B5=true:=kr_
theorem Xx.calls (k:Nat):∀ (A0:Option Addr) (c0:Nat) (l0:List (S69)) (a1:Int) (r:Int) (w:World) (hr0:Kd.C k69 w A0 l0.length l0) (hc0:l0.length≤c0) (h:Xx.f k l0 a1=some r),
  Calls Try.prog 54 #[.slice A0 l0.length c0,.int .i64 a1] w fun e w'=>e=.returned (.int .i64 r)∧Below w.heap.size w w':=by
 induction k using Nat.strongRecOn with
 |_ k ih=>
 intro A0 c0 l0 a1 r w hr0 hc0 h
 cases k with
 |zero=>exact absurd h (by simp [Xx.f])
 |succ k=>
 simp only [Xx.f] at h;have dG:=Xa.mk hr0;have dQ:=Xa.mk hc0;clear hr0 hc0;have HB:=Xa.mk (Below.refl w.heap.size w);have H:(Xx.l0 k l0 a1 0 0)=some r:=h;clear h;have H':=Xa.mk H;clear H;go_enter Try.func54,Try.ntmps54;go_wp2
 go_loopg [5,6] k (fun kq v5 v6 w'=>∃ (bK:Int) (aA:Int),v5=.int .i64 bK∧v6=.int .i64 aA∧Xa (Xx.l0 kq l0 a1 bK aA=some r)∧Xa (kq≤k)∧Xa (Below w.heap.size w w'))
 case atStart=>exact ⟨(0),(0),rg_,rg_,H',⟨nr_ _⟩,⟨bl_ HB⟩⟩
 case round=>
  clear H';obtain ⟨bK,aA,rfl,rfl,HA,dF,HB⟩:=hrel
  cases gk with
  |zero=>exact absurd HA.out (by simp [Xx.l0])
  |succ k1=>
   have H:=HA.out;clear HA;simp only [Xx.l0] at H;have dU:=Xa.mk H;clear H;go_upto_region 3 with (fail)
   go_cut [14] (fun v14 wc=>∃ (kq:Nat) (dA:Bool),v14=.bool dA∧Xa (Xx.j1 kq l0 a1 bK aA dA=some r)∧Xa (kq≤k1)∧Xa (Below w.heap.size w wc))
   case first=>
    have H:=dU.out;clear dU;by_cases c4:aA<(l0.length:Int)
    ·rw [if_pos c4] at H;have dC:decide (aA<(l0.length:Int))=true:=dt_ c4;clear c4
     (first|rw [dC]|(simp only [i64_w,i32_w];rw [dC])|skip)
     have H':=Xa.mk H;clear H;go_wp2;go_meet
     case rel=>exact ⟨_,(decide (a1 > 0)),rg_,H',⟨by have:=dF.out;first|omega|exact nr_ _⟩,⟨bl_ HB⟩⟩
    ·rw [if_neg c4] at H;have dC:decide (aA<(l0.length:Int))=false:=df_ c4;clear c4
     (first|rw [dC]|(simp only [i64_w,i32_w];rw [dC])|skip)
     have H':=Xa.mk H;clear H;go_wp2;go_meet
     case rel=>exact ⟨_,(false),rg_,H',⟨by have:=dF.out;first|omega|exact nr_ _⟩,⟨bl_ HB⟩⟩
   case rest=>
    clear dU;obtain ⟨kq,dA,rfl,HA,HJ2,HB⟩:=hcut
    cases kq with
    |zero=>exact absurd HA.out (by simp [Xx.j1])
    |succ dJ=>
     have H:=HA.out;clear HA;simp only [Xx.j1] at H;by_cases c5:dA=true
     ·subst c5
      replace H:(if 0≤aA then (if aA<(l0.length:Int) then ((Xx.f dJ ((Xb l0 aA).f4) (wrap64 (a1 - 1))).bind fun bL=>((Xx.f dJ ((Xb l0 aA).f5) (wrap64 (a1 - 1))).bind fun bJ=>(Xx.l0 dJ l0 a1 (wrap64 ((wrap64 ((wrap64 (bK+1))+bL))+bJ)) (wrap64 (aA+1))))) else (none)) else (none))=some r:=ph_;by_cases c6:0≤aA
      ·rw [if_pos c6] at H;have c6b0:decide (0≤aA)=true:=dt_ c6;clear c6;by_cases c7:aA<(l0.length:Int)
       ·rw [if_pos c7] at H;have c7b0:decide (aA<(l0.length:Int))=true:=dt_ c7;clear c7;replace H:=bo_ H;obtain ⟨bL,eF,H⟩:=H;replace H:((Xx.f dJ ((Xb l0 aA).f5) (wrap64 (a1 - 1))).bind fun bJ=>(Xx.l0 dJ l0 a1 (wrap64 ((wrap64 ((wrap64 (bK+1))+bL))+bJ)) (wrap64 (aA+1))))=some r:=H;have A8:=Xa.mk eF;clear eF;replace H:=bo_ H;obtain ⟨bJ,eG,H⟩:=H;replace H:(Xx.l0 dJ l0 a1 (wrap64 ((wrap64 ((wrap64 (bK+1))+bL))+bJ)) (wrap64 (aA+1)))=some r:=H;have A9:=Xa.mk eG;clear eG;have H':=Xa.mk H;clear H
        try go_wp2
        replace HB:=Xa.mk (below_drew1 HB.out);have dL:0≤(aA:Int):=od_ as_;have dN:aA<(l0.length:Int):=od_ as_;obtain ⟨aB,bM,bP,bN,bQ,dY,aX,aY,aZ,bA,aS,aT,cB,bW,cK,bX⟩:=at_T69 dG.out aA dL dN;have aJ:=aT;have aI:=aS;have aH:=bA;have aG:=aZ;have aF:=aY;have aD:=aX;cases dY
        replace aX:=bw_ HB aX;replace aY:=bw_ HB aY;replace aZ:=bw_ HB aZ;replace bA:=bw_ HB bA;replace aS:=bw_ HB aS;replace aT:=bw_ HB aT;have bU:=Xa.mk bW;have dD:=Xa.mk cB;clear bW cB;have dH:=Xa.mk bX;have HC132_5:=Xa.mk cK;clear bX cK;replace dL:=eq_true dL;replace dN:=eq_true dN;have dM:0≤(aA:Int):=od_ as_;have dO:aA<(l0.length:Int):=od_ as_;obtain ⟨dR,A134_4,c134_4,A134_5,c134_5,dZ,bB,bC,bD,bE,aU,aV,cO,bY,cZ,bZ⟩:=at_T69 dG.out aA dM dO;have aP:=aV;have aO:=aU;have aN:=bE;have aM:=bD;have aL:=bC;have aK:=bB;obtain rfl:aB=dR:=(by injection dZ);replace bB:=bw_ HB bB;replace bC:=bw_ HB bC;replace bD:=bw_ HB bD;replace bE:=bw_ HB bE;replace aU:=bw_ HB aU;replace aV:=bw_ HB aV;have dI:=Xa.mk bY;have HC134_4:=Xa.mk cO;clear bY cO;have bV:=Xa.mk bZ;have dE:=Xa.mk cZ;clear bZ cZ;replace dM:=eq_true dM;replace dO:=eq_true dO;have dK:=sj_ (aS.symm.trans aU);injection dK with dK eB d9;subst dK;subst d9;clear eB;have dK:=sj_ (aT.symm.trans aV);injection dK with dK eB d9;subst dK;subst d9;clear eB;refine start_ (n:=21) (S:=fun w'=>w'.cell? (aB.add ((aA).toNat * 6))=some (.int .i64 ((Xb l0 aA).f0))∧w'.cell? ⟨(aB.add ((aA).toNat * 6)).block,(aB.add ((aA).toNat * 6)).off+1,none⟩=some (.int .i64 ((Xb l0 aA).f1))∧w'.cell? ⟨(aB.add ((aA).toNat * 6)).block,(aB.add ((aA).toNat * 6)).off+2,none⟩=some (.int .i64 ((Xb l0 aA).f2))∧w'.cell? ⟨(aB.add ((aA).toNat * 6)).block,(aB.add ((aA).toNat * 6)).off+3,none⟩=some (.int .i64 ((Xb l0 aA).f3))∧w'.cell? ⟨(aB.add ((aA).toNat * 6)).block,(aB.add ((aA).toNat * 6)).off+4,none⟩=some (.slice bM ((Xb l0 aA).f4).length bP)∧w'.cell? ⟨(aB.add ((aA).toNat * 6)).block,(aB.add ((aA).toNat * 6)).off+5,none⟩=some (.slice bN ((Xb l0 aA).f5).length bQ)∧w'.cell? (aB.add ((aA).toNat * 6))=some (.int .i64 ((Xb l0 aA).f0))∧w'.cell? ⟨(aB.add ((aA).toNat * 6)).block,(aB.add ((aA).toNat * 6)).off+1,none⟩=some (.int .i64 ((Xb l0 aA).f1))∧w'.cell? ⟨(aB.add ((aA).toNat * 6)).block,(aB.add ((aA).toNat * 6)).off+2,none⟩=some (.int .i64 ((Xb l0 aA).f2))∧w'.cell? ⟨(aB.add ((aA).toNat * 6)).block,(aB.add ((aA).toNat * 6)).off+3,none⟩=some (.int .i64 ((Xb l0 aA).f3))∧w'.cell? ⟨(aB.add ((aA).toNat * 6)).block,(aB.add ((aA).toNat * 6)).off+4,none⟩=some (.slice bM ((Xb l0 aA).f4).length bP)∧w'.cell? ⟨(aB.add ((aA).toNat * 6)).block,(aB.add ((aA).toNat * 6)).off+5,none⟩=some (.slice bN ((Xb l0 aA).f5).length bQ)) (ds:=[]) #[false,false,false,false,false,false,false,false,false,false,false,false,false,false,false,false,false,false,false,false,false] kr_ rfl rfl ⟨((HB.out.cell (World.block_lt_of_cell? w _ aD)).trans aD),((HB.out.cell (World.block_lt_of_cell? w _ aF)).trans aF),((HB.out.cell (World.block_lt_of_cell? w _ aG)).trans aG),((HB.out.cell (World.block_lt_of_cell? w _ aH)).trans aH),((HB.out.cell (World.block_lt_of_cell? w _ aI)).trans aI),((HB.out.cell (World.block_lt_of_cell? w _ aJ)).trans aJ),((HB.out.cell (World.block_lt_of_cell? w _ aK)).trans aK),((HB.out.cell (World.block_lt_of_cell? w _ aL)).trans aL),((HB.out.cell (World.block_lt_of_cell? w _ aM)).trans aM),((HB.out.cell (World.block_lt_of_cell? w _ aN)).trans aN),((HB.out.cell (World.block_lt_of_cell? w _ aO)).trans aO),((HB.out.cell (World.block_lt_of_cell? w _ aP)).trans aP)⟩ (fun hHeld=>?_);refine with_tabW Xx.tab5 Xx.bits5 (fun bF eH=>?_);generalize wc.drew=w10 at HB bU dH dI bV aX aY aZ bA aS aT bB bC bD bE aU aV hHeld ⊢;refine pure_ (i:=0) (N:=some 17) (v:=?_) (a':=?_) #[true,false,false,false,false,false,false,false,false,false,false,false,false,false,false,false,false,false,false,false,false] rfl rfl (any_of bF.out kr_) (fun _ _ _ h=>h) (Or.inl ⟨rl1_,?_⟩) ?_ ?_;rotate_left
        · exact wr_
        rotate_left
        · exact ap_
        refine pure_ (i:=1) (N:=some 18) (v:=?_) (a':=?_) #[true,true,false,false,false,false,false,false,false,false,false,false,false,false,false,false,false,false,false,false,false] rfl rfl (any_of bF.out kr_) (fun _ _ _ h=>h) (Or.inl ⟨rl1_,?_⟩) ?_ ?_;rotate_left
        · exact wr_
        rotate_left
        · exact ap_
        refine pure_ (i:=2) (N:=some 19) (v:=?_) (a':=?_) #[true,true,true,false,false,false,false,false,false,false,false,false,false,false,false,false,false,false,false,false,false] rfl rfl (any_of bF.out kr_) (fun _ _ _ h=>h) (Or.inl ⟨rl1_,?_⟩) ?_ ?_;rotate_left
        · exact wr_
        rotate_left
        · exact ap_
        refine pure_ (i:=3) (N:=some 20) (v:=?_) (a':=?_) #[true,true,true,true,false,false,false,false,false,false,false,false,false,false,false,false,false,false,false,false,false] rfl rfl (any_of bF.out kr_) (fun _ _ _ h=>h) (Or.inl ⟨rl1_,?_⟩) ?_ ?_;rotate_left
        · exact wr_
        rotate_left
        · exact ap_
        refine pure_ (i:=4) (N:=some 21) (v:=?_) (a':=?_) #[true,true,true,true,true,false,false,false,false,false,false,false,false,false,false,false,false,false,false,false,false] rfl rfl (any_of bF.out kr_) (fun _ _ _ h=>h) (Or.inl ⟨rl1_,?_⟩) ?_ ?_;rotate_left
        · exact wr_
        rotate_left
        · exact ap_
        refine pure_ (i:=5) (N:=some 22) (v:=?_) (a':=?_) #[true,true,true,true,true,true,false,false,false,false,false,false,false,false,false,false,false,false,false,false,false] rfl rfl (any_of bF.out kr_) (fun _ _ _ h=>h) (Or.inl ⟨rl1_,?_⟩) ?_ ?_;rotate_left
        · exact wr_
        rotate_left
        · exact ap_
        refine pure_ (i:=7) (N:=some 24) (v:=?_) (a':=?_) #[true,true,true,true,true,true,false,true,false,false,false,false,false,false,false,false,false,false,false,false,false] rfl rfl (any_of bF.out kr_) (fun _ _ _ h=>h) (Or.inl ⟨rl1_,?_⟩) ?_ ?_;rotate_left
        · exact wr_
        rotate_left
        · exact ap_
        refine pure_ (i:=8) (N:=some 25) (v:=?_) (a':=?_) #[true,true,true,true,true,true,false,true,true,false,false,false,false,false,false,false,false,false,false,false,false] rfl rfl (any_of bF.out kr_) (fun _ _ _ h=>h) (Or.inl ⟨rl1_,?_⟩) ?_ ?_;rotate_left
        · exact wr_
        rotate_left
        · exact ap_
        refine pure_ (i:=11) (N:=some 28) (v:=?_) (a':=?_) #[true,true,true,true,true,true,false,true,true,false,false,true,false,false,false,false,false,false,false,false,false] rfl rfl (any_of bF.out kr_) (fun _ _ _ h=>h) (Or.inl ⟨rl1_,?_⟩) ?_ ?_;rotate_left
        · exact wr_
        rotate_left
        · exact ap_
        refine pure_ (i:=12) (N:=some 29) (v:=?_) (a':=?_) #[true,true,true,true,true,true,false,true,true,false,false,true,true,false,false,false,false,false,false,false,false] rfl rfl (any_of bF.out kr_) (fun _ _ _ h=>h) (Or.inl ⟨rl1_,?_⟩) ?_ ?_;rotate_left
        · exact wr_
        rotate_left
        · exact ap_
        refine pure_ (i:=13) (N:=some 30) (v:=?_) (a':=?_) #[true,true,true,true,true,true,false,true,true,false,false,true,true,true,false,false,false,false,false,false,false] rfl rfl (any_of bF.out kr_) (fun _ _ _ h=>h) (Or.inl ⟨rl1_,?_⟩) ?_ ?_;rotate_left
        · exact wr_
        rotate_left
        · exact ap_
        refine pure_ (i:=14) (N:=some 31) (v:=?_) (a':=?_) #[true,true,true,true,true,true,false,true,true,false,false,true,true,true,true,false,false,false,false,false,false] rfl rfl (any_of bF.out kr_) (fun _ _ _ h=>h) (Or.inl ⟨rl1_,?_⟩) ?_ ?_;rotate_left
        · exact wr_
        rotate_left
        · exact ap_
        refine pure_ (i:=16) (N:=some 33) (v:=?_) (a':=?_) #[true,true,true,true,true,true,false,true,true,false,false,true,true,true,true,false,true,false,false,false,false] rfl rfl (any_of bF.out kr_) (fun _ _ _ h=>h) (Or.inl ⟨rl1_,?_⟩) ?_ ?_;rotate_left
        · exact wr_
        rotate_left
        · exact ap_
        refine pure_ (i:=17) (N:=some 34) (v:=?_) (a':=?_) #[true,true,true,true,true,true,false,true,true,false,false,true,true,true,true,false,true,true,false,false,false] rfl rfl (any_of bF.out kr_) (fun _ _ _ h=>h) (Or.inl ⟨rl1_,?_⟩) ?_ ?_;rotate_left
        · exact wr_
        rotate_left
        · exact ap_
        refine take_ (i:=6) (N:=some 23) (v:=?_) (a':=?_) #[true,true,true,true,true,true,true,true,true,false,false,true,true,true,true,false,true,true,false,false,false] rfl rfl (take_ofW bF.out eH.out kr_) (fun _ _ _ h=>h) (Or.inl ⟨rl1_,?_⟩) hHeld ?_ ?_;rotate_left
        ·rintro w' ⟨s0,s1,s2,s3,s4,s5,s6,s7,s8,s9,s10,s11⟩;go_simp
         with_reducible rfl
        rotate_left
        · exact ap_
        refine take_ (i:=15) (N:=some 32) (v:=?_) (a':=?_) #[true,true,true,true,true,true,true,true,true,false,false,true,true,true,true,true,true,true,false,false,false] rfl rfl (take_ofW bF.out eH.out kr_) (fun _ _ _ h=>h) (Or.inl ⟨rl1_,?_⟩) hHeld ?_ ?_;rotate_left
        ·rintro w' ⟨s0,s1,s2,s3,s4,s5,s6,s7,s8,s9,s10,s11⟩;go_simp
         with_reducible rfl
        rotate_left
        · exact ap_
        refine one_ (i:=9) (N:=some 26) #[true,true,true,true,true,true,true,true,true,true,false,true,true,true,true,true,true,true,false,false,false] rfl rfl (one_of bF.out kr_) de_ (fun K hK=>?_);refine goes_ Try.func54 kr_ rfl #[.slice bM ((Xb l0 aA).f4).length bP,.int .i64 (wrap64 (a1 - 1))] rl1_ rfl rfl ga_ ?_
        with_reducible refine (ih dJ (by have:=dF.out;have:=HJ2.out;omega) _ _ ((Xb l0 aA).f4) (wrap64 (a1 - 1)) bL _ ?side1 ?side2 A8.out).mono ?_
        (case side1=>exact Kd.ca_ (Kd.Yr bU.out HB.out))
        (case side2=>exact dD.out)
        rintro e w11 ⟨rfl,hb⟩;refine ⟨_,rfl,?_⟩;replace HB:=Xa.mk (Xo (bl_ HB) hb)
        clear hb
        skip
        skip
        skip
        refine hK.out _ _ ⟨((HB.out.cell (World.block_lt_of_cell? w _ aD)).trans aD),((HB.out.cell (World.block_lt_of_cell? w _ aF)).trans aF),((HB.out.cell (World.block_lt_of_cell? w _ aG)).trans aG),((HB.out.cell (World.block_lt_of_cell? w _ aH)).trans aH),((HB.out.cell (World.block_lt_of_cell? w _ aI)).trans aI),((HB.out.cell (World.block_lt_of_cell? w _ aJ)).trans aJ),((HB.out.cell (World.block_lt_of_cell? w _ aK)).trans aK),((HB.out.cell (World.block_lt_of_cell? w _ aL)).trans aL),((HB.out.cell (World.block_lt_of_cell? w _ aM)).trans aM),((HB.out.cell (World.block_lt_of_cell? w _ aN)).trans aN),((HB.out.cell (World.block_lt_of_cell? w _ aO)).trans aO),((HB.out.cell (World.block_lt_of_cell? w _ aP)).trans aP)⟩ (fun hHeld=>?_);clear hK K;refine no_ ?_;refine pure_ (i:=10) (N:=some 27) (v:=?_) (a':=?_) #[true,true,true,true,true,true,true,true,true,true,true,true,true,true,true,true,true,true,false,false,false] rfl rfl (any_of bF.out kr_) (fun _ _ _ h=>h) (Or.inl ⟨rl1_,?_⟩) ?_ ?_;rotate_left
        · exact wr_
        rotate_left
        · exact ap_
        refine one_ (i:=18) (N:=some 35) #[true,true,true,true,true,true,true,true,true,true,true,true,true,true,true,true,true,true,true,false,false] rfl rfl (one_of bF.out kr_) de_ (fun K hK=>?_);refine goes_ Try.func54 kr_ rfl #[.slice bN ((Xb l0 aA).f5).length bQ,.int .i64 (wrap64 (a1 - 1))] rl1_ rfl rfl ga_ ?_
        with_reducible refine (ih dJ (by have:=dF.out;have:=HJ2.out;omega) _ _ ((Xb l0 aA).f5) (wrap64 (a1 - 1)) bJ _ ?side1 ?side2 A9.out).mono ?_
        (case side1=>exact Kd.ca_ (Kd.Yr bV.out HB.out))
        (case side2=>exact dE.out)
        rintro e w12 ⟨rfl,hb⟩;refine ⟨_,rfl,?_⟩;replace HB:=Xa.mk (Xo (bl_ HB) hb)
        clear hb
        skip
        skip
        skip
        refine hK.out _ _ ⟨((HB.out.cell (World.block_lt_of_cell? w _ aD)).trans aD),((HB.out.cell (World.block_lt_of_cell? w _ aF)).trans aF),((HB.out.cell (World.block_lt_of_cell? w _ aG)).trans aG),((HB.out.cell (World.block_lt_of_cell? w _ aH)).trans aH),((HB.out.cell (World.block_lt_of_cell? w _ aI)).trans aI),((HB.out.cell (World.block_lt_of_cell? w _ aJ)).trans aJ),((HB.out.cell (World.block_lt_of_cell? w _ aK)).trans aK),((HB.out.cell (World.block_lt_of_cell? w _ aL)).trans aL),((HB.out.cell (World.block_lt_of_cell? w _ aM)).trans aM),((HB.out.cell (World.block_lt_of_cell? w _ aN)).trans aN),((HB.out.cell (World.block_lt_of_cell? w _ aO)).trans aO),((HB.out.cell (World.block_lt_of_cell? w _ aP)).trans aP)⟩ (fun hHeld=>?_);clear hK K;refine no_ ?_;refine pure_ (i:=19) (N:=some 36) (v:=?_) (a':=?_) #[true,true,true,true,true,true,true,true,true,true,true,true,true,true,true,true,true,true,true,true,false] rfl rfl (any_of bF.out kr_) (fun _ _ _ h=>h) (Or.inl ⟨rl1_,?_⟩) ?_ ?_;rotate_left
        · exact wr_
        rotate_left
        · exact ap_
        refine pure_ (i:=20) (N:=some 5) (v:=?_) (a':=?_) #[true,true,true,true,true,true,true,true,true,true,true,true,true,true,true,true,true,true,true,true,true] rfl rfl (any_of bF.out kr_) (fun _ _ _ h=>h) (Or.inl ⟨rl1_,?_⟩) ?_ ?_;rotate_left
        · exact wr_
        rotate_left
        · exact ap_
        refine done_ (done_of bF.out kr_) ?_
        try go_wp2
        go_roundg dJ
        case measure=>have:=dF.out;have:=HJ2.out;omega
        case rel=>exact ⟨(wrap64 ((wrap64 ((wrap64 (bK+1))+bL))+bJ)),(wrap64 (aA+1)),rg_,rg_,H',⟨by have:=dF.out;have:=HJ2.out;omega⟩,⟨bl_ HB⟩⟩
       ·rw [if_neg c7] at H;exact absurd H sm_
      ·rw [if_neg c6] at H;exact absurd H sm_
     ·replace c5:=Bool.eq_false_iff.mpr c5;subst c5
      replace H:(some bK)=some r:=fh_;obtain rfl:=sj_ H;go_wp2;go_ret
      exact ⟨rf_,bl_ HB⟩
def Ue.f (k:Nat) (l0:List (S69)):Option (Bool):=(Yo.f k l0 3 (-1)).bind fun dB=>(if dB=true then ((Xx.f k l0 3).bind fun bG=>(some (decide (bG≤14)))) else (some false))
theorem Ue.calls (k:Nat) (A0:Option Addr) (c0:Nat) (l0:List (S69)) (r:Bool) (w:World) (hr0:Kd.C k69 w A0 l0.length l0) (hc0:l0.length≤c0) (h:Ue.f k l0=some r) :
  Calls Try.prog 34 #[.slice A0 l0.length c0] w fun e w'=>e=.returned (.bool r)∧Below w.heap.size w w':=by
 have dG:=Xa.mk hr0;have dQ:=Xa.mk hc0;clear hr0 hc0;have HB:=Xa.mk (Below.refl w.heap.size w);have H:((Yo.f k l0 3 (-1)).bind fun dB=>(if dB=true then ((Xx.f k l0 3).bind fun bG=>(some (decide (bG≤14)))) else (some false)))=some r:=h;clear h;replace H:=bo_ H;obtain ⟨dB,eD,H⟩:=H;replace H:(if dB=true then ((Xx.f k l0 3).bind fun bG=>(some (decide (bG≤14)))) else (some false))=some r:=H;have A2:=Xa.mk eD;clear eD;by_cases c3:dB=true
 ·subst c3
  replace H:((Xx.f k l0 3).bind fun bG=>(some (decide (bG≤14))))=some r:=ph_;replace H:=bo_ H;obtain ⟨bG,dP,H⟩:=H;replace H:(some (decide (bG≤14)))=some r:=H;have A4:=Xa.mk dP;clear dP;obtain rfl:=sj_ H;go_enter Try.func34,Try.ntmps34;go_wp2_with (first|((with_reducible refine Xq (f:=53) rfl ?_);refine Zg (some 4) rfl rfl Try.func53 kr_ rfl #[.slice A0 l0.length c0,.int .i64 3,.int .i64 (-1)] rfl ga_ ?_;(with_reducible refine (Yo.calls k _ _ l0 3 (-1) true _ ?side1 ?side2 A2.out).mono ?_);(case side1=>exact Kd.ca_ dG.out);(case side2=>exact dQ.out);rintro e w5 ⟨rfl,hb⟩;refine ⟨_,rfl,?_⟩;replace HB:=Xa.mk (Xo (bl_ HB) hb);clear hb)|(go_at_call 54;(with_reducible refine (Xx.calls k _ _ l0 3 bG _ ?side1 ?side2 A4.out).mono ?_);(case side1=>exact Kd.ca_ (Kd.Yr dG.out HB.out));(case side2=>exact dQ.out);rintro e w6 ⟨rfl,hb⟩;replace HB:=Xa.mk (Xo (bl_ HB) hb);clear hb));go_ret
  exact ⟨rf_,bl_ HB⟩
 ·replace c3:=Bool.eq_false_iff.mpr c3;subst c3
  replace H:(some false)=some r:=fh_;obtain rfl:=sj_ H;go_enter Try.func34,Try.ntmps34;go_wp2_with (first|((with_reducible refine Xq (f:=53) rfl ?_);refine Zg (some 4) rfl rfl Try.func53 kr_ rfl #[.slice A0 l0.length c0,.int .i64 3,.int .i64 (-1)] rfl ga_ ?_;(with_reducible refine (Yo.calls k _ _ l0 3 (-1) false _ ?side1 ?side2 A2.out).mono ?_);(case side1=>exact Kd.ca_ dG.out);(case side2=>exact dQ.out);rintro e w7 ⟨rfl,hb⟩;refine ⟨_,rfl,?_⟩;replace HB:=Xa.mk (Xo (bl_ HB) hb);clear hb));go_ret
  exact ⟨rf_,bl_ HB⟩
def Zh.l0:Nat→List (List (S69))→Int→Option (Bool)
 |0,_,_=>none
 |k+1,x0,x3=>if x3<(x0.length:Int) then (if 0≤x3 then ((Ue.f k (rd_L4 x0 x3)).bind fun t139=>(if t139=true then (Zh.l0 k x0 (wrap64 (x3+1))) else (some false))) else (none)) else (if (x0.length:Int) ≥ 1 then (some (decide ((x0.length:Int)≤3))) else (some false))
def Zh.f (k:Nat) (l0:List (List (S69))):Option (Bool):=Zh.l0 k l0 0
theorem Zh.calls (k:Nat) (A0:Option Addr) (c0:Nat) (l0:List (List (S69))) (r:Bool) (w:World) (hr0:Kd.C (Kd.slice 69 k69) w A0 l0.length l0) (hc0:l0.length≤c0) (h:Zh.f k l0=some r) :
  Calls Try.prog 17 #[.slice A0 l0.length c0] w fun e w'=>e=.returned (.bool r)∧Below w.heap.size w w':=by
 have dG:=Xa.mk hr0;have dQ:=Xa.mk hc0;clear hr0 hc0;have HB:=Xa.mk (Below.refl w.heap.size w);have H:(Zh.l0 k l0 0)=some r:=h;clear h;have H':=Xa.mk H;clear H;go_enter Try.func17,Try.ntmps17;go_wp2
 go_loopg [3] k (fun kq v3 w'=>∃ (aC:Int),v3=.int .i64 aC∧Xa (Zh.l0 kq l0 aC=some r)∧Xa (kq≤k)∧Xa (Below w.heap.size w w'))
 case atStart=>exact ⟨(0),rg_,H',⟨nr_ _⟩,⟨bl_ HB⟩⟩
 case round=>
  clear H';obtain ⟨aC,rfl,HA,dF,HB⟩:=hrel
  cases gk with
  |zero=>exact absurd HA.out (by simp [Zh.l0])
  |succ k1=>
   have H:=HA.out;clear HA;simp only [Zh.l0] at H;by_cases c2:aC<(l0.length:Int)
   ·rw [if_pos c2] at H;have dV:decide (aC<(l0.length:Int))=true:=dt_ c2;clear c2;by_cases c3:0≤aC
    ·rw [if_pos c3] at H;have c3b0:decide (0≤aC)=true:=dt_ c3;clear c3;replace H:=bo_ H;obtain ⟨t139,dP,H⟩:=H;replace H:(if t139=true then (Zh.l0 k1 l0 (wrap64 (aC+1))) else (some false))=some r:=H;have A4:=Xa.mk dP;clear dP;by_cases c5:t139=true
     ·subst c5
      replace H:(Zh.l0 k1 l0 (wrap64 (aC+1)))=some r:=ph_;have H':=Xa.mk H;clear H;have bS:0≤(aC:Int):=od_ as_;have bT:aC<(l0.length:Int):=od_ as_;obtain ⟨dS,bO,bR,e138,aW,aR,aQ⟩:=at_L4 dG.out aC bS bT;cases e138
      replace aW:=bw_ HB aW;have bI:=Xa.mk aQ;have bH:=Xa.mk aR;clear aQ aR;replace bS:=eq_true bS;replace bT:=eq_true bT;go_wp2_with (first|((with_reducible refine Xq (f:=34) rfl ?_);refine Zg (some 14) rfl rfl Try.func34 kr_ rfl #[.slice bO (rd_L4 l0 aC).length bR] rfl ga_ ?_;(with_reducible refine (Ue.calls k1 _ _ (rd_L4 l0 aC) true _ ?side1 ?side2 A4.out).mono ?_);(case side1=>exact Kd.ca_ (Kd.Yr bI.out HB.out));(case side2=>exact bH.out);rintro e w6 ⟨rfl,hb⟩;refine ⟨_,rfl,?_⟩;replace HB:=Xa.mk (Xo (bl_ HB) hb);clear hb));go_roundg k1
      case measure=>have:=dF.out;omega
      case rel=>exact ⟨(wrap64 (aC+1)),rg_,H',⟨by have:=dF.out;omega⟩,⟨bl_ HB⟩⟩
     ·replace c5:=Bool.eq_false_iff.mpr c5;subst c5
      replace H:(some false)=some r:=fh_;obtain rfl:=sj_ H;have bS:0≤(aC:Int):=od_ as_;have bT:aC<(l0.length:Int):=od_ as_;obtain ⟨dS,bO,bR,e138,aW,aR,aQ⟩:=at_L4 dG.out aC bS bT;cases e138
      replace aW:=bw_ HB aW;have bI:=Xa.mk aQ;have bH:=Xa.mk aR;clear aQ aR;replace bS:=eq_true bS;replace bT:=eq_true bT;go_wp2_with (first|((with_reducible refine Xq (f:=34) rfl ?_);refine Zg (some 14) rfl rfl Try.func34 kr_ rfl #[.slice bO (rd_L4 l0 aC).length bR] rfl ga_ ?_;(with_reducible refine (Ue.calls k1 _ _ (rd_L4 l0 aC) false _ ?side1 ?side2 A4.out).mono ?_);(case side1=>exact Kd.ca_ (Kd.Yr bI.out HB.out));(case side2=>exact bH.out);rintro e w7 ⟨rfl,hb⟩;refine ⟨_,rfl,?_⟩;replace HB:=Xa.mk (Xo (bl_ HB) hb);clear hb));go_ret
      exact ⟨rf_,bl_ HB⟩
    ·rw [if_neg c3] at H;exact absurd H sm_
   ·rw [if_neg c2] at H;have dV:decide (aC<(l0.length:Int))=false:=df_ c2;clear c2;by_cases c8:(l0.length:Int) ≥ 1
    ·rw [if_pos c8] at H;have dW:decide (1≤(l0.length:Int))=true:=dt_ c8;have dX:decide (1≤l0.length)=true:=dt_ om_;clear c8;obtain rfl:=sj_ H;go_wp2;go_ret
     exact ⟨rf_,bl_ HB⟩
    ·rw [if_neg c8] at H;have dW:decide (1≤(l0.length:Int))=false:=df_ c8;have dX:decide (1≤l0.length)=false:=df_ om_;clear c8;obtain rfl:=sj_ H;go_wp2;go_ret
     exact ⟨rf_,bl_ HB⟩
end Go.Proofs.Ytlhogkfmdnpmkaa.GWhole
