import Derived.Test.YtlhogkfmdnpmkaaGreatCFnExactMarksOf97
set_option linter.unusedVariables false
set_option linter.unusedSimpArgs false
set_option maxHeartbeats 8000000
set_option maxRecDepth 100000
namespace Go.Proofs.YtlhogkfmdnpmkaaGreat.GMarks
open RowKit YtlhogkfmdnpmkaaGreatW.PrintWords YtlhogkfmdnpmkaaGreatW.PrintLast YtlhogkfmdnpmkaaGreatW.PrintMore
attribute [local go_sem] Ua Ud Uu Ux Zo Zp Ub Ue
mutual
def Xv.l0:Nat→List (S87)→Int→Int→Int→Option (Int)
 |0,_,_,_,_=>none
 |k+1,x0,x1,x5,x6=>if x6<(x0.length:Int) then (Xv.j1 k x0 x1 x5 x6 (decide (x1 > 0))) else (Xv.j1 k x0 x1 x5 x6 false)
def Xv.j1:Nat→List (S87)→Int→Int→Int→Bool→Option (Int)
 |0,_,_,_,_,_=>none
 |k+1,x0,x1,x5,x6,eP=>if eP=true then (if 0≤x6 then (if x6<(x0.length:Int) then ((Xv.f k ((Xe x0 x6).f4) (wrap64 (x1 - 1))).bind fun t183=>((Xv.f k ((Xe x0 x6).f5) (wrap64 (x1 - 1))).bind fun bJ=>(Xv.l0 k x0 x1 (wrap64 ((wrap64 ((wrap64 (x5+1))+t183))+bJ)) (wrap64 (x6+1))))) else (none)) else (none)) else (some x5)
def Xv.f:Nat→List (S87)→Int→Option (Int)
 |0,_,_=>none
 |k+1,l0,a1=>Xv.l0 k l0 a1 0 0
end
def Xv.T5:Bool × List (List Nat × List Nat):=(true,[([],[]),([0],[0]),([],[]),([],[]),([2,3],[2,3]),([4],[4]),([5],[5]),([],[]),([7],[7]),([6,8],[6,8]),([1,9],[1,9]),([],[]),([],[]),([11,12],[11,12]),([13],[13]),([14],[14]),([],[]),([16],[16]),([15,17,9],[15,17]),([10,18],[10,18]),([19,18,0,1,2,3,4,5,6,7,8,9,10,11,12,13,14,15,16,17,18,19],[0,19])])
def Xv.B5:List Nat:=[0,1,0,0,12,28,60,0,128,508,1023,0,0,6144,14336,30720,0,65536,261116,524287,1048575]
theorem Xv.tab5:rtab .any (opsOf Tryz.f75 5)=Xv.T5:=kr_
theorem Xv.bits5:waitsOk Xv.T5.2 Xv.B5=true:=kr_
theorem Xv.calls (k:Nat):∀ (A0:Option Addr) (c0:Nat) (l0:List (S87)) (a1:Int) (r:Int) (w:World) (hr0:Kd.C k87 w A0 l0.length l0) (hc0:l0.length≤c0) (h:Xv.f k l0 a1=some r),
  Calls Tryz.prog 75 #[.slice A0 l0.length c0,.int .i64 a1] w fun e w'=>e=.returned (.int .i64 r)∧Below w.heap.size w w':=by
 induction k using Nat.strongRecOn with
 |_ k ih=>
 intro A0 c0 l0 a1 r w hr0 hc0 h
 cases k with
 |zero=>exact absurd h (by simp [Xv.f])
 |succ k=>
 simp only [Xv.f] at h;have dF:=Xa.mk hr0;have dR:=Xa.mk hc0;clear hr0 hc0;have HB:=Xa.mk (Below.refl w.heap.size w);have H:(Xv.l0 k l0 a1 0 0)=some r:=h;clear h;have H':=Xa.mk H;clear H;go_enter Tryz.func75,Tryz.ntmps75;go_wp2
 go_loopg [5,6] k (fun kq v5 v6 w'=>∃ (bK:Int) (aA:Int),v5=.int .i64 bK∧v6=.int .i64 aA∧Xa (Xv.l0 kq l0 a1 bK aA=some r)∧Xa (kq≤k)∧Xa (Below w.heap.size w w'))
 case atStart=>exact ⟨(0),(0),rg_,rg_,H',⟨nr_ _⟩,⟨bl_ HB⟩⟩
 case round=>
  clear H';obtain ⟨bK,aA,rfl,rfl,HA,dE,HB⟩:=hrel
  cases gk with
  |zero=>exact absurd HA.out (by simp [Xv.l0])
  |succ k1=>
   have H:=HA.out;clear HA;simp only [Xv.l0] at H;have dV:=Xa.mk H;clear H;go_upto_region 3 with (fail)
   go_cut [14] (fun v14 wc=>∃ (kq:Nat) (cZ:Bool),v14=.bool cZ∧Xa (Xv.j1 kq l0 a1 bK aA cZ=some r)∧Xa (kq≤k1)∧Xa (Below w.heap.size w wc))
   case first=>
    have H:=dV.out;clear dV;by_cases c4:aA<(l0.length:Int)
    ·rw [if_pos c4] at H;have dB:decide (aA<(l0.length:Int))=true:=dt_ c4;clear c4
     (first|rw [dB]|(simp only [i64_w,i32_w];rw [dB])|skip)
     have H':=Xa.mk H;clear H;go_wp2;go_meet
     case rel=>exact ⟨_,(decide (a1 > 0)),rg_,H',⟨by have:=dE.out;first|omega|exact nr_ _⟩,⟨bl_ HB⟩⟩
    ·rw [if_neg c4] at H;have dB:decide (aA<(l0.length:Int))=false:=df_ c4;clear c4
     (first|rw [dB]|(simp only [i64_w,i32_w];rw [dB])|skip)
     have H':=Xa.mk H;clear H;go_wp2;go_meet
     case rel=>exact ⟨_,(false),rg_,H',⟨by have:=dE.out;first|omega|exact nr_ _⟩,⟨bl_ HB⟩⟩
   case rest=>
    clear dV;obtain ⟨kq,cZ,rfl,HA,HJ2,HB⟩:=hcut
    cases kq with
    |zero=>exact absurd HA.out (by simp [Xv.j1])
    |succ dI=>
     have H:=HA.out;clear HA;simp only [Xv.j1] at H;by_cases c5:cZ=true
     ·subst c5
      replace H:(if 0≤aA then (if aA<(l0.length:Int) then ((Xv.f dI ((Xe l0 aA).f4) (wrap64 (a1 - 1))).bind fun t183=>((Xv.f dI ((Xe l0 aA).f5) (wrap64 (a1 - 1))).bind fun bJ=>(Xv.l0 dI l0 a1 (wrap64 ((wrap64 ((wrap64 (bK+1))+t183))+bJ)) (wrap64 (aA+1))))) else (none)) else (none))=some r:=ph_;by_cases c6:0≤aA
      ·rw [if_pos c6] at H;have c6b0:decide (0≤aA)=true:=dt_ c6;clear c6;by_cases c7:aA<(l0.length:Int)
       ·rw [if_pos c7] at H;have c7b0:decide (aA<(l0.length:Int))=true:=dt_ c7;clear c7;replace H:=bo_ H;obtain ⟨t183,eG,H⟩:=H;replace H:((Xv.f dI ((Xe l0 aA).f5) (wrap64 (a1 - 1))).bind fun bJ=>(Xv.l0 dI l0 a1 (wrap64 ((wrap64 ((wrap64 (bK+1))+t183))+bJ)) (wrap64 (aA+1))))=some r:=H;have A8:=Xa.mk eG;clear eG;replace H:=bo_ H;obtain ⟨bJ,eH,H⟩:=H;replace H:(Xv.l0 dI l0 a1 (wrap64 ((wrap64 ((wrap64 (bK+1))+t183))+bJ)) (wrap64 (aA+1)))=some r:=H;have A9:=Xa.mk eH;clear eH;have H':=Xa.mk H;clear H
        try go_wp2
        replace HB:=Xa.mk (below_drew1 HB.out);have dM:0≤(aA:Int):=od_ as_;have dO:aA<(l0.length:Int):=od_ as_;obtain ⟨aB,bL,bO,bM,bP,dZ,aX,aY,aZ,bA,aS,aT,bZ,bV,cB,bW⟩:=at_T87 dF.out aA dM dO;have aJ:=aT;have aI:=aS;have aH:=bA;have aG:=aZ;have aF:=aY;have aD:=aX;cases dZ
        replace aX:=bw_ HB aX;replace aY:=bw_ HB aY;replace aZ:=bw_ HB aZ;replace bA:=bw_ HB bA;replace aS:=bw_ HB aS;replace aT:=bw_ HB aT;have bT:=Xa.mk bV;have dC:=Xa.mk bZ;clear bV bZ;have dG:=Xa.mk bW;have HC182_5:=Xa.mk cB;clear bW cB;replace dM:=eq_true dM;replace dO:=eq_true dO;have dN:0≤(aA:Int):=od_ as_;have dP:aA<(l0.length:Int):=od_ as_;obtain ⟨dS,A184_4,c184_4,A184_5,c184_5,d9,bB,bC,bD,bE,aU,aV,cK,bX,cO,bY⟩:=at_T87 dF.out aA dN dP;have aP:=aV;have aO:=aU;have aN:=bE;have aM:=bD;have aL:=bC;have aK:=bB;obtain rfl:aB=dS:=(by injection d9);replace bB:=bw_ HB bB;replace bC:=bw_ HB bC;replace bD:=bw_ HB bD;replace bE:=bw_ HB bE;replace aU:=bw_ HB aU;replace aV:=bw_ HB aV;have dH:=Xa.mk bX;have HC184_4:=Xa.mk cK;clear bX cK;have bU:=Xa.mk bY;have dD:=Xa.mk cO;clear bY cO;replace dN:=eq_true dN;replace dP:=eq_true dP;have dL:=sj_ (aS.symm.trans aU);injection dL with dL eD eB;subst dL;subst eB;clear eD;have dL:=sj_ (aT.symm.trans aV);injection dL with dL eD eB;subst dL;subst eB;clear eD;refine Ul (n:=21) (S:=fun w'=>w'.cell? (aB.add ((aA).toNat * 6))=some (.int .i64 ((Xe l0 aA).f0))∧w'.cell? ⟨(aB.add ((aA).toNat * 6)).block,(aB.add ((aA).toNat * 6)).off+1,none⟩=some (.int .i64 ((Xe l0 aA).f1))∧w'.cell? ⟨(aB.add ((aA).toNat * 6)).block,(aB.add ((aA).toNat * 6)).off+2,none⟩=some (.int .i64 ((Xe l0 aA).f2))∧w'.cell? ⟨(aB.add ((aA).toNat * 6)).block,(aB.add ((aA).toNat * 6)).off+3,none⟩=some (.int .i64 ((Xe l0 aA).f3))∧w'.cell? ⟨(aB.add ((aA).toNat * 6)).block,(aB.add ((aA).toNat * 6)).off+4,none⟩=some (.slice bL ((Xe l0 aA).f4).length bO)∧w'.cell? ⟨(aB.add ((aA).toNat * 6)).block,(aB.add ((aA).toNat * 6)).off+5,none⟩=some (.slice bM ((Xe l0 aA).f5).length bP)∧w'.cell? (aB.add ((aA).toNat * 6))=some (.int .i64 ((Xe l0 aA).f0))∧w'.cell? ⟨(aB.add ((aA).toNat * 6)).block,(aB.add ((aA).toNat * 6)).off+1,none⟩=some (.int .i64 ((Xe l0 aA).f1))∧w'.cell? ⟨(aB.add ((aA).toNat * 6)).block,(aB.add ((aA).toNat * 6)).off+2,none⟩=some (.int .i64 ((Xe l0 aA).f2))∧w'.cell? ⟨(aB.add ((aA).toNat * 6)).block,(aB.add ((aA).toNat * 6)).off+3,none⟩=some (.int .i64 ((Xe l0 aA).f3))∧w'.cell? ⟨(aB.add ((aA).toNat * 6)).block,(aB.add ((aA).toNat * 6)).off+4,none⟩=some (.slice bL ((Xe l0 aA).f4).length bO)∧w'.cell? ⟨(aB.add ((aA).toNat * 6)).block,(aB.add ((aA).toNat * 6)).off+5,none⟩=some (.slice bM ((Xe l0 aA).f5).length bP)) (ds:=[]) #[false,false,false,false,false,false,false,false,false,false,false,false,false,false,false,false,false,false,false,false,false] kr_ rfl rfl ⟨((HB.out.cell (World.block_lt_of_cell? w _ aD)).trans aD),((HB.out.cell (World.block_lt_of_cell? w _ aF)).trans aF),((HB.out.cell (World.block_lt_of_cell? w _ aG)).trans aG),((HB.out.cell (World.block_lt_of_cell? w _ aH)).trans aH),((HB.out.cell (World.block_lt_of_cell? w _ aI)).trans aI),((HB.out.cell (World.block_lt_of_cell? w _ aJ)).trans aJ),((HB.out.cell (World.block_lt_of_cell? w _ aK)).trans aK),((HB.out.cell (World.block_lt_of_cell? w _ aL)).trans aL),((HB.out.cell (World.block_lt_of_cell? w _ aM)).trans aM),((HB.out.cell (World.block_lt_of_cell? w _ aN)).trans aN),((HB.out.cell (World.block_lt_of_cell? w _ aO)).trans aO),((HB.out.cell (World.block_lt_of_cell? w _ aP)).trans aP)⟩ (fun hHeld=>?_);refine with_tabW Xv.tab5 Xv.bits5 (fun bF eO=>?_);generalize wc.drew=w10 at HB bT dG dH bU aX aY aZ bA aS aT bB bC bD bE aU aV hHeld ⊢;refine Zv (i:=0) (N:=some 17) (v:=?_) (a':=?_) #[true,false,false,false,false,false,false,false,false,false,false,false,false,false,false,false,false,false,false,false,false] rfl rfl (Zf bF.out kr_) (fun _ _ _ h=>h) (Or.inl ⟨rl1_,?_⟩) ?_ ?_;rotate_left
        · exact wr_
        rotate_left
        · exact ap_
        refine Zv (i:=1) (N:=some 18) (v:=?_) (a':=?_) #[true,true,false,false,false,false,false,false,false,false,false,false,false,false,false,false,false,false,false,false,false] rfl rfl (Zf bF.out kr_) (fun _ _ _ h=>h) (Or.inl ⟨rl1_,?_⟩) ?_ ?_;rotate_left
        · exact wr_
        rotate_left
        · exact ap_
        refine Zv (i:=2) (N:=some 19) (v:=?_) (a':=?_) #[true,true,true,false,false,false,false,false,false,false,false,false,false,false,false,false,false,false,false,false,false] rfl rfl (Zf bF.out kr_) (fun _ _ _ h=>h) (Or.inl ⟨rl1_,?_⟩) ?_ ?_;rotate_left
        · exact wr_
        rotate_left
        · exact ap_
        refine Zv (i:=3) (N:=some 20) (v:=?_) (a':=?_) #[true,true,true,true,false,false,false,false,false,false,false,false,false,false,false,false,false,false,false,false,false] rfl rfl (Zf bF.out kr_) (fun _ _ _ h=>h) (Or.inl ⟨rl1_,?_⟩) ?_ ?_;rotate_left
        · exact wr_
        rotate_left
        · exact ap_
        refine Zv (i:=4) (N:=some 21) (v:=?_) (a':=?_) #[true,true,true,true,true,false,false,false,false,false,false,false,false,false,false,false,false,false,false,false,false] rfl rfl (Zf bF.out kr_) (fun _ _ _ h=>h) (Or.inl ⟨rl1_,?_⟩) ?_ ?_;rotate_left
        · exact wr_
        rotate_left
        · exact ap_
        refine Zv (i:=5) (N:=some 22) (v:=?_) (a':=?_) #[true,true,true,true,true,true,false,false,false,false,false,false,false,false,false,false,false,false,false,false,false] rfl rfl (Zf bF.out kr_) (fun _ _ _ h=>h) (Or.inl ⟨rl1_,?_⟩) ?_ ?_;rotate_left
        · exact wr_
        rotate_left
        · exact ap_
        refine Zv (i:=7) (N:=some 24) (v:=?_) (a':=?_) #[true,true,true,true,true,true,false,true,false,false,false,false,false,false,false,false,false,false,false,false,false] rfl rfl (Zf bF.out kr_) (fun _ _ _ h=>h) (Or.inl ⟨rl1_,?_⟩) ?_ ?_;rotate_left
        · exact wr_
        rotate_left
        · exact ap_
        refine Zv (i:=8) (N:=some 25) (v:=?_) (a':=?_) #[true,true,true,true,true,true,false,true,true,false,false,false,false,false,false,false,false,false,false,false,false] rfl rfl (Zf bF.out kr_) (fun _ _ _ h=>h) (Or.inl ⟨rl1_,?_⟩) ?_ ?_;rotate_left
        · exact wr_
        rotate_left
        · exact ap_
        refine Zv (i:=11) (N:=some 28) (v:=?_) (a':=?_) #[true,true,true,true,true,true,false,true,true,false,false,true,false,false,false,false,false,false,false,false,false] rfl rfl (Zf bF.out kr_) (fun _ _ _ h=>h) (Or.inl ⟨rl1_,?_⟩) ?_ ?_;rotate_left
        · exact wr_
        rotate_left
        · exact ap_
        refine Zv (i:=12) (N:=some 29) (v:=?_) (a':=?_) #[true,true,true,true,true,true,false,true,true,false,false,true,true,false,false,false,false,false,false,false,false] rfl rfl (Zf bF.out kr_) (fun _ _ _ h=>h) (Or.inl ⟨rl1_,?_⟩) ?_ ?_;rotate_left
        · exact wr_
        rotate_left
        · exact ap_
        refine Zv (i:=13) (N:=some 30) (v:=?_) (a':=?_) #[true,true,true,true,true,true,false,true,true,false,false,true,true,true,false,false,false,false,false,false,false] rfl rfl (Zf bF.out kr_) (fun _ _ _ h=>h) (Or.inl ⟨rl1_,?_⟩) ?_ ?_;rotate_left
        · exact wr_
        rotate_left
        · exact ap_
        refine Zv (i:=14) (N:=some 31) (v:=?_) (a':=?_) #[true,true,true,true,true,true,false,true,true,false,false,true,true,true,true,false,false,false,false,false,false] rfl rfl (Zf bF.out kr_) (fun _ _ _ h=>h) (Or.inl ⟨rl1_,?_⟩) ?_ ?_;rotate_left
        · exact wr_
        rotate_left
        · exact ap_
        refine Zv (i:=16) (N:=some 33) (v:=?_) (a':=?_) #[true,true,true,true,true,true,false,true,true,false,false,true,true,true,true,false,true,false,false,false,false] rfl rfl (Zf bF.out kr_) (fun _ _ _ h=>h) (Or.inl ⟨rl1_,?_⟩) ?_ ?_;rotate_left
        · exact wr_
        rotate_left
        · exact ap_
        refine Zv (i:=17) (N:=some 34) (v:=?_) (a':=?_) #[true,true,true,true,true,true,false,true,true,false,false,true,true,true,true,false,true,true,false,false,false] rfl rfl (Zf bF.out kr_) (fun _ _ _ h=>h) (Or.inl ⟨rl1_,?_⟩) ?_ ?_;rotate_left
        · exact wr_
        rotate_left
        · exact ap_
        refine take_ (i:=6) (N:=some 23) (v:=?_) (a':=?_) #[true,true,true,true,true,true,true,true,true,false,false,true,true,true,true,false,true,true,false,false,false] rfl rfl (take_ofW bF.out eO.out kr_) (fun _ _ _ h=>h) (Or.inl ⟨rl1_,?_⟩) hHeld ?_ ?_;rotate_left
        ·rintro w' ⟨s0,s1,s2,s3,s4,s5,s6,s7,s8,s9,s10,s11⟩;go_simp
         with_reducible rfl
        rotate_left
        · exact ap_
        refine take_ (i:=15) (N:=some 32) (v:=?_) (a':=?_) #[true,true,true,true,true,true,true,true,true,false,false,true,true,true,true,true,true,true,false,false,false] rfl rfl (take_ofW bF.out eO.out kr_) (fun _ _ _ h=>h) (Or.inl ⟨rl1_,?_⟩) hHeld ?_ ?_;rotate_left
        ·rintro w' ⟨s0,s1,s2,s3,s4,s5,s6,s7,s8,s9,s10,s11⟩;go_simp
         with_reducible rfl
        rotate_left
        · exact ap_
        refine one_ (i:=9) (N:=some 26) #[true,true,true,true,true,true,true,true,true,true,false,true,true,true,true,true,true,true,false,false,false] rfl rfl (one_of bF.out kr_) de_ (fun K hK=>?_);refine Vd Tryz.func75 kr_ rfl #[.slice bL ((Xe l0 aA).f4).length bO,.int .i64 (wrap64 (a1 - 1))] rl1_ rfl rfl ga_ ?_
        with_reducible refine (ih dI (by have:=dE.out;have:=HJ2.out;omega) _ _ ((Xe l0 aA).f4) (wrap64 (a1 - 1)) t183 _ ?side1 ?side2 A8.out).mono ?_
        (case side1=>exact Kd.ca_ (Kd.Xy bT.out HB.out))
        (case side2=>exact dC.out)
        rintro e w11 ⟨rfl,hb⟩;refine ⟨_,rfl,?_⟩;replace HB:=Xa.mk (Xi (bl_ HB) hb)
        clear hb
        skip
        skip
        skip
        refine hK.out _ _ ⟨((HB.out.cell (World.block_lt_of_cell? w _ aD)).trans aD),((HB.out.cell (World.block_lt_of_cell? w _ aF)).trans aF),((HB.out.cell (World.block_lt_of_cell? w _ aG)).trans aG),((HB.out.cell (World.block_lt_of_cell? w _ aH)).trans aH),((HB.out.cell (World.block_lt_of_cell? w _ aI)).trans aI),((HB.out.cell (World.block_lt_of_cell? w _ aJ)).trans aJ),((HB.out.cell (World.block_lt_of_cell? w _ aK)).trans aK),((HB.out.cell (World.block_lt_of_cell? w _ aL)).trans aL),((HB.out.cell (World.block_lt_of_cell? w _ aM)).trans aM),((HB.out.cell (World.block_lt_of_cell? w _ aN)).trans aN),((HB.out.cell (World.block_lt_of_cell? w _ aO)).trans aO),((HB.out.cell (World.block_lt_of_cell? w _ aP)).trans aP)⟩ (fun hHeld=>?_);clear hK K;refine no_ ?_;refine Zv (i:=10) (N:=some 27) (v:=?_) (a':=?_) #[true,true,true,true,true,true,true,true,true,true,true,true,true,true,true,true,true,true,false,false,false] rfl rfl (Zf bF.out kr_) (fun _ _ _ h=>h) (Or.inl ⟨rl1_,?_⟩) ?_ ?_;rotate_left
        · exact wr_
        rotate_left
        · exact ap_
        refine one_ (i:=18) (N:=some 35) #[true,true,true,true,true,true,true,true,true,true,true,true,true,true,true,true,true,true,true,false,false] rfl rfl (one_of bF.out kr_) de_ (fun K hK=>?_);refine Vd Tryz.func75 kr_ rfl #[.slice bM ((Xe l0 aA).f5).length bP,.int .i64 (wrap64 (a1 - 1))] rl1_ rfl rfl ga_ ?_
        with_reducible refine (ih dI (by have:=dE.out;have:=HJ2.out;omega) _ _ ((Xe l0 aA).f5) (wrap64 (a1 - 1)) bJ _ ?side1 ?side2 A9.out).mono ?_
        (case side1=>exact Kd.ca_ (Kd.Xy bU.out HB.out))
        (case side2=>exact dD.out)
        rintro e w12 ⟨rfl,hb⟩;refine ⟨_,rfl,?_⟩;replace HB:=Xa.mk (Xi (bl_ HB) hb)
        clear hb
        skip
        skip
        skip
        refine hK.out _ _ ⟨((HB.out.cell (World.block_lt_of_cell? w _ aD)).trans aD),((HB.out.cell (World.block_lt_of_cell? w _ aF)).trans aF),((HB.out.cell (World.block_lt_of_cell? w _ aG)).trans aG),((HB.out.cell (World.block_lt_of_cell? w _ aH)).trans aH),((HB.out.cell (World.block_lt_of_cell? w _ aI)).trans aI),((HB.out.cell (World.block_lt_of_cell? w _ aJ)).trans aJ),((HB.out.cell (World.block_lt_of_cell? w _ aK)).trans aK),((HB.out.cell (World.block_lt_of_cell? w _ aL)).trans aL),((HB.out.cell (World.block_lt_of_cell? w _ aM)).trans aM),((HB.out.cell (World.block_lt_of_cell? w _ aN)).trans aN),((HB.out.cell (World.block_lt_of_cell? w _ aO)).trans aO),((HB.out.cell (World.block_lt_of_cell? w _ aP)).trans aP)⟩ (fun hHeld=>?_);clear hK K;refine no_ ?_;refine Zv (i:=19) (N:=some 36) (v:=?_) (a':=?_) #[true,true,true,true,true,true,true,true,true,true,true,true,true,true,true,true,true,true,true,true,false] rfl rfl (Zf bF.out kr_) (fun _ _ _ h=>h) (Or.inl ⟨rl1_,?_⟩) ?_ ?_;rotate_left
        · exact wr_
        rotate_left
        · exact ap_
        refine Zv (i:=20) (N:=some 5) (v:=?_) (a':=?_) #[true,true,true,true,true,true,true,true,true,true,true,true,true,true,true,true,true,true,true,true,true] rfl rfl (Zf bF.out kr_) (fun _ _ _ h=>h) (Or.inl ⟨rl1_,?_⟩) ?_ ?_;rotate_left
        · exact wr_
        rotate_left
        · exact ap_
        refine Uz (done_of bF.out kr_) ?_
        try go_wp2
        go_roundg dI
        case measure=>have:=dE.out;have:=HJ2.out;omega
        case rel=>exact ⟨(wrap64 ((wrap64 ((wrap64 (bK+1))+t183))+bJ)),(wrap64 (aA+1)),rg_,rg_,H',⟨by have:=dE.out;have:=HJ2.out;omega⟩,⟨bl_ HB⟩⟩
       ·rw [if_neg c7] at H;exact absurd H sm_
      ·rw [if_neg c6] at H;exact absurd H sm_
     ·replace c5:=Bool.eq_false_iff.mpr c5;subst c5
      replace H:(some bK)=some r:=fh_;obtain rfl:=sj_ H;go_wp2;go_ret
      exact ⟨rf_,bl_ HB⟩
def spec_StmtsOk.f (k:Nat) (l0:List (S87)):Option (Bool):=(Yi.f k l0 3 (-1)).bind fun dA=>(if dA=true then ((Xv.f k l0 3).bind fun bG=>(some (decide (bG≤14)))) else (some false))
theorem spec_StmtsOk.calls (k:Nat) (A0:Option Addr) (c0:Nat) (l0:List (S87)) (r:Bool) (w:World) (hr0:Kd.C k87 w A0 l0.length l0) (hc0:l0.length≤c0) (h:spec_StmtsOk.f k l0=some r) :
  Calls Tryz.prog 52 #[.slice A0 l0.length c0] w fun e w'=>e=.returned (.bool r)∧Below w.heap.size w w':=by
 have dF:=Xa.mk hr0;have dR:=Xa.mk hc0;clear hr0 hc0;have HB:=Xa.mk (Below.refl w.heap.size w);have H:((Yi.f k l0 3 (-1)).bind fun dA=>(if dA=true then ((Xv.f k l0 3).bind fun bG=>(some (decide (bG≤14)))) else (some false)))=some r:=h;clear h;replace H:=bo_ H;obtain ⟨dA,eF,H⟩:=H;replace H:(if dA=true then ((Xv.f k l0 3).bind fun bG=>(some (decide (bG≤14)))) else (some false))=some r:=H;have A2:=Xa.mk eF;clear eF;by_cases c3:dA=true
 ·subst c3
  replace H:((Xv.f k l0 3).bind fun bG=>(some (decide (bG≤14))))=some r:=ph_;replace H:=bo_ H;obtain ⟨bG,dQ,H⟩:=H;replace H:(some (decide (bG≤14)))=some r:=H;have A4:=Xa.mk dQ;clear dQ;obtain rfl:=sj_ H;go_enter Tryz.func52,Tryz.ntmps52;go_wp2_with (first|((with_reducible refine Yh (f:=74) rfl ?_);refine Zz (some 4) rfl rfl Tryz.func74 kr_ rfl #[.slice A0 l0.length c0,.int .i64 3,.int .i64 (-1)] rfl ga_ ?_;(with_reducible refine (Yi.calls k _ _ l0 3 (-1) true _ ?side1 ?side2 A2.out).mono ?_);(case side1=>exact Kd.ca_ dF.out);(case side2=>exact dR.out);rintro e w5 ⟨rfl,hb⟩;refine ⟨_,rfl,?_⟩;replace HB:=Xa.mk (Xi (bl_ HB) hb);clear hb)|(go_at_call 75;(with_reducible refine (Xv.calls k _ _ l0 3 bG _ ?side1 ?side2 A4.out).mono ?_);(case side1=>exact Kd.ca_ (Kd.Xy dF.out HB.out));(case side2=>exact dR.out);rintro e w6 ⟨rfl,hb⟩;replace HB:=Xa.mk (Xi (bl_ HB) hb);clear hb));go_ret
  exact ⟨rf_,bl_ HB⟩
 ·replace c3:=Bool.eq_false_iff.mpr c3;subst c3
  replace H:(some false)=some r:=fh_;obtain rfl:=sj_ H;go_enter Tryz.func52,Tryz.ntmps52;go_wp2_with (first|((with_reducible refine Yh (f:=74) rfl ?_);refine Zz (some 4) rfl rfl Tryz.func74 kr_ rfl #[.slice A0 l0.length c0,.int .i64 3,.int .i64 (-1)] rfl ga_ ?_;(with_reducible refine (Yi.calls k _ _ l0 3 (-1) false _ ?side1 ?side2 A2.out).mono ?_);(case side1=>exact Kd.ca_ dF.out);(case side2=>exact dR.out);rintro e w7 ⟨rfl,hb⟩;refine ⟨_,rfl,?_⟩;replace HB:=Xa.mk (Xi (bl_ HB) hb);clear hb));go_ret
  exact ⟨rf_,bl_ HB⟩
def Uh.l0:Nat→List (List (S87))→Int→Option (Bool)
 |0,_,_=>none
 |k+1,x0,x3=>if x3<(x0.length:Int) then (if 0≤x3 then ((spec_StmtsOk.f k (rd_L4 x0 x3)).bind fun dJ=>(if dJ=true then (Uh.l0 k x0 (wrap64 (x3+1))) else (some false))) else (none)) else (if (x0.length:Int) ≥ 1 then (some (decide ((x0.length:Int)≤3))) else (some false))
def Uh.f (k:Nat) (l0:List (List (S87))):Option (Bool):=Uh.l0 k l0 0
theorem Uh.calls (k:Nat) (A0:Option Addr) (c0:Nat) (l0:List (List (S87))) (r:Bool) (w:World) (hr0:Kd.C (Kd.slice 87 k87) w A0 l0.length l0) (hc0:l0.length≤c0) (h:Uh.f k l0=some r) :
  Calls Tryz.prog 29 #[.slice A0 l0.length c0] w fun e w'=>e=.returned (.bool r)∧Below w.heap.size w w':=by
 have dF:=Xa.mk hr0;have dR:=Xa.mk hc0;clear hr0 hc0;have HB:=Xa.mk (Below.refl w.heap.size w);have H:(Uh.l0 k l0 0)=some r:=h;clear h;have H':=Xa.mk H;clear H;go_enter Tryz.func29,Tryz.ntmps29;go_wp2
 go_loopg [3] k (fun kq v3 w'=>∃ (aC:Int),v3=.int .i64 aC∧Xa (Uh.l0 kq l0 aC=some r)∧Xa (kq≤k)∧Xa (Below w.heap.size w w'))
 case atStart=>exact ⟨(0),rg_,H',⟨nr_ _⟩,⟨bl_ HB⟩⟩
 case round=>
  clear H';obtain ⟨aC,rfl,HA,dE,HB⟩:=hrel
  cases gk with
  |zero=>exact absurd HA.out (by simp [Uh.l0])
  |succ k1=>
   have H:=HA.out;clear HA;simp only [Uh.l0] at H;by_cases c2:aC<(l0.length:Int)
   ·rw [if_pos c2] at H;have dW:decide (aC<(l0.length:Int))=true:=dt_ c2;clear c2;by_cases c3:0≤aC
    ·rw [if_pos c3] at H;have c3b0:decide (0≤aC)=true:=dt_ c3;clear c3;replace H:=bo_ H;obtain ⟨dJ,dQ,H⟩:=H;replace H:(if dJ=true then (Uh.l0 k1 l0 (wrap64 (aC+1))) else (some false))=some r:=H;have A4:=Xa.mk dQ;clear dQ;by_cases c5:dJ=true
     ·subst c5
      replace H:(Uh.l0 k1 l0 (wrap64 (aC+1)))=some r:=ph_;have H':=Xa.mk H;clear H;have bR:0≤(aC:Int):=od_ as_;have bS:aC<(l0.length:Int):=od_ as_;obtain ⟨dU,bN,bQ,dK,aW,aR,aQ⟩:=at_L4 dF.out aC bR bS;cases dK
      replace aW:=bw_ HB aW;have bI:=Xa.mk aQ;have bH:=Xa.mk aR;clear aQ aR;replace bR:=eq_true bR;replace bS:=eq_true bS;go_wp2_with (first|((with_reducible refine Yh (f:=52) rfl ?_);refine Zz (some 14) rfl rfl Tryz.func52 kr_ rfl #[.slice bN (rd_L4 l0 aC).length bQ] rfl ga_ ?_;(with_reducible refine (spec_StmtsOk.calls k1 _ _ (rd_L4 l0 aC) true _ ?side1 ?side2 A4.out).mono ?_);(case side1=>exact Kd.ca_ (Kd.Xy bI.out HB.out));(case side2=>exact bH.out);rintro e w6 ⟨rfl,hb⟩;refine ⟨_,rfl,?_⟩;replace HB:=Xa.mk (Xi (bl_ HB) hb);clear hb));go_roundg k1
      case measure=>have:=dE.out;omega
      case rel=>exact ⟨(wrap64 (aC+1)),rg_,H',⟨by have:=dE.out;omega⟩,⟨bl_ HB⟩⟩
     ·replace c5:=Bool.eq_false_iff.mpr c5;subst c5
      replace H:(some false)=some r:=fh_;obtain rfl:=sj_ H;have bR:0≤(aC:Int):=od_ as_;have bS:aC<(l0.length:Int):=od_ as_;obtain ⟨dU,bN,bQ,dK,aW,aR,aQ⟩:=at_L4 dF.out aC bR bS;cases dK
      replace aW:=bw_ HB aW;have bI:=Xa.mk aQ;have bH:=Xa.mk aR;clear aQ aR;replace bR:=eq_true bR;replace bS:=eq_true bS;go_wp2_with (first|((with_reducible refine Yh (f:=52) rfl ?_);refine Zz (some 14) rfl rfl Tryz.func52 kr_ rfl #[.slice bN (rd_L4 l0 aC).length bQ] rfl ga_ ?_;(with_reducible refine (spec_StmtsOk.calls k1 _ _ (rd_L4 l0 aC) false _ ?side1 ?side2 A4.out).mono ?_);(case side1=>exact Kd.ca_ (Kd.Xy bI.out HB.out));(case side2=>exact bH.out);rintro e w7 ⟨rfl,hb⟩;refine ⟨_,rfl,?_⟩;replace HB:=Xa.mk (Xi (bl_ HB) hb);clear hb));go_ret
      exact ⟨rf_,bl_ HB⟩
    ·rw [if_neg c3] at H;exact absurd H sm_
   ·rw [if_neg c2] at H;have dW:decide (aC<(l0.length:Int))=false:=df_ c2;clear c2;by_cases c8:(l0.length:Int) ≥ 1
    ·rw [if_pos c8] at H;have dX:decide (1≤(l0.length:Int))=true:=dt_ c8;have dY:decide (1≤l0.length)=true:=dt_ om_;clear c8;obtain rfl:=sj_ H;go_wp2;go_ret
     exact ⟨rf_,bl_ HB⟩
    ·rw [if_neg c8] at H;have dX:decide (1≤(l0.length:Int))=false:=df_ c8;have dY:decide (1≤l0.length)=false:=df_ om_;clear c8;obtain rfl:=sj_ H;go_wp2;go_ret
     exact ⟨rf_,bl_ HB⟩
end Go.Proofs.YtlhogkfmdnpmkaaGreat.GMarks
