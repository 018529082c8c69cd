import Derived.Test.YtokajnfbiddpjaaCFnSlimSome21
import Derived.Test.YtokajnfbiddpjaaCFnSlimSome25
set_option maxHeartbeats 8000000
set_option maxRecDepth 100000
namespace Go.Proofs.Ytokajnfbiddpjaa.GSlim
open Go.RowKit Go.Proofs.YtokajnfbiddpjaaW.PrintWords Go.Proofs.YtokajnfbiddpjaaW.PrintLast Go.Proofs.YtokajnfbiddpjaaW.PrintMore
attribute [local go_sem] Zx Zz Ul Um Zl Zm Zy Ua
set_option linter.unusedVariables false
set_option linter.unusedSimpArgs false
mutual
def Xw.l0:Nat→List (S63)→Int→Int→Int→Option (Int)
 |0,_,_,_,_=>none
 |k+1,x0,x1,x5,x6=>if x6<(x0.length:Int) then (Xw.j1 k x0 x1 x5 x6 (decide (x1 > 0))) else (Xw.j1 k x0 x1 x5 x6 false)
def Xw.j1:Nat→List (S63)→Int→Int→Int→Bool→Option (Int)
 |0,_,_,_,_,_=>none
 |k+1,x0,x1,x5,x6,dO=>if dO=true then (if 0≤x6 then (if x6<(x0.length:Int) then ((Xw.f k ((Xc x0 x6).f4) (wrap64 (x1 - 1))).bind fun bE=>((Xw.f k ((Xc x0 x6).f5) (wrap64 (x1 - 1))).bind fun t168=>(Xw.l0 k x0 x1 (wrap64 ((wrap64 ((wrap64 (x5+1))+bE))+t168)) (wrap64 (x6+1))))) else (none)) else (none)) else (some x5)
def Xw.f:Nat→List (S63)→Int→Option (Int)
 |0,_,_=>none
 |k+1,l0,a1=>Xw.l0 k l0 a1 0 0
end
def Xw.T5:Bool × List (List Nat × List Nat):=(true,[([],[]),([0],[0]),([],[]),([],[]),([2,3],[2,3]),([4],[4]),([5],[5]),([],[]),([7],[7]),([6,8],[6,8]),([1,9],[1,9]),([],[]),([],[]),([11,12],[11,12]),([13],[13]),([14],[14]),([],[]),([16],[16]),([15,17,9],[15,17]),([10,18],[10,18]),([19,18,0,1,2,3,4,5,6,7,8,9,10,11,12,13,14,15,16,17,18,19],[0,19])])
def Xw.B5:List Nat:=[0,1,0,0,12,28,60,0,128,508,1023,0,0,6144,14336,30720,0,65536,261116,524287,1048575]
theorem Xw.tab5:rtab .any (opsOf Try.f25 5)=Xw.T5:=by kernel_rfl
theorem Xw.bits5:waitsOk Xw.T5.2 Xw.B5=true:=by kernel_rfl
theorem Xw.calls (k:Nat):∀ (A0:Option Addr) (c0:Nat) (l0:List (S63)) (a1:Int) (r:Int) (w:World) (hr0:Kd.C k63 w A0 l0.length l0) (hc0:l0.length≤c0) (h:Xw.f k l0 a1=some r),
  Calls Try.prog 25 #[.slice A0 l0.length c0,.int .i64 a1] w fun e w'=>e=.returned (.int .i64 r)∧Below w.heap.size w w':=by
 induction k using Nat.strongRecOn with
 |_ k ih=>
 intro A0 c0 l0 a1 r w hr0 hc0 h
 cases k with
 |zero=>exact absurd h (by simp [Xw.f])
 |succ k=>
 simp only [Xw.f] at h;have dD:=Xa.mk hr0;have dF:=Xa.mk hc0;clear hr0 hc0;have HB:=Xa.mk (Below.refl w.heap.size w);have H:(Xw.l0 k l0 a1 0 0)=some r:=h;clear h;have H':=Xa.mk H;clear H
 go_enter Try.func25,Try.ntmps25
 go_wp2
 go_loopg [5,6] k (fun kq v5 v6 w'=>∃ (bD:Int) (aA:Int),v5=.int .i64 bD∧v6=.int .i64 aA∧Xa (Xw.l0 kq l0 a1 bD aA=some r)∧Xa (kq≤k)∧Xa (Below w.heap.size w w'))
 case atStart=>exact ⟨(0),(0),rg_,rg_,H',⟨Nat.le_refl _⟩,⟨bl_ HB⟩⟩
 case round=>
  clear H';obtain ⟨bD,aA,rfl,rfl,HA,dC,HB⟩:=hrel
  cases gk with
  |zero=>exact absurd HA.out (by simp [Xw.l0])
  |succ k1=>
   have H:=HA.out;clear HA;simp only [Xw.l0] at H;have dG:=Xa.mk H;clear H
   go_upto_region 3 with (fail)
   go_cut [14] (fun v14 wc=>∃ (kq:Nat) (bT:Bool),v14=.bool bT∧Xa (Xw.j1 kq l0 a1 bD aA bT=some r)∧Xa (kq≤k1)∧Xa (Below w.heap.size w wc))
   case first=>
    have H:=dG.out;clear dG;by_cases c4:aA<(l0.length:Int)
    ·rw [if_pos c4] at H;have bV:=decide_eq_true c4;clear c4
     (first|rw [bV]|(simp only [Ub,Uf];rw [bV])|skip)
     have H':=Xa.mk H;clear H;go_wp2
     go_meet
     case rel=>exact ⟨_,(decide (a1 > 0)),rg_,H',⟨by have:=dC.out;first|omega|exact Nat.le_refl _⟩,⟨bl_ HB⟩⟩
    ·rw [if_neg c4] at H;have bV:=decide_eq_false c4;clear c4
     (first|rw [bV]|(simp only [Ub,Uf];rw [bV])|skip)
     have H':=Xa.mk H;clear H;go_wp2
     go_meet
     case rel=>exact ⟨_,(false),rg_,H',⟨by have:=dC.out;first|omega|exact Nat.le_refl _⟩,⟨bl_ HB⟩⟩
   case rest=>
    clear dG;obtain ⟨kq,bT,rfl,HA,HJ2,HB⟩:=hcut
    cases kq with
    |zero=>exact absurd HA.out (by simp [Xw.j1])
    |succ cB=>
     have H:=HA.out;clear HA;simp only [Xw.j1] at H;by_cases c5:bT=true
     ·subst c5
      replace H:(if 0≤aA then (if aA<(l0.length:Int) then ((Xw.f cB ((Xc l0 aA).f4) (wrap64 (a1 - 1))).bind fun bE=>((Xw.f cB ((Xc l0 aA).f5) (wrap64 (a1 - 1))).bind fun t168=>(Xw.l0 cB l0 a1 (wrap64 ((wrap64 ((wrap64 (bD+1))+bE))+t168)) (wrap64 (aA+1))))) else (none)) else (none))=some r:=(by rw [if_pos rfl] at H;exact H);by_cases c6:0≤aA
      ·rw [if_pos c6] at H;replace c6:=decide_eq_true c6;by_cases c7:aA<(l0.length:Int)
       ·rw [if_pos c7] at H;replace c7:=decide_eq_true c7;replace H:=Option.bind_eq_some_iff.mp H;obtain ⟨bE,dL,H⟩:=H;replace H:((Xw.f cB ((Xc l0 aA).f5) (wrap64 (a1 - 1))).bind fun t168=>(Xw.l0 cB l0 a1 (wrap64 ((wrap64 ((wrap64 (bD+1))+bE))+t168)) (wrap64 (aA+1))))=some r:=H;have A8:=Xa.mk dL;clear dL;replace H:=Option.bind_eq_some_iff.mp H;obtain ⟨t168,dM,H⟩:=H;replace H:(Xw.l0 cB l0 a1 (wrap64 ((wrap64 ((wrap64 (bD+1))+bE))+t168)) (wrap64 (aA+1)))=some r:=H;have A9:=Xa.mk dM;clear dM;have H':=Xa.mk H;clear H
        try go_wp2
        replace HB:=Xa.mk (below_drew1 HB.out);have cO:0≤(aA:Int):=of_decide_eq_true (by assumption);have dA:aA<(l0.length:Int):=of_decide_eq_true (by assumption);obtain ⟨aB,bF,bH,bG,bI,e165,aT,aU,aV,aW,aP,aQ,bP,bL,bQ,bM⟩:=at_T63 dD.out aA cO dA;have aI:=aQ;have aH:=aP;have aG:=aW;have aF:=aV;have aD:=aU;have aC:=aT;cases e165
        replace aT:=bw_ HB aT;replace aU:=bw_ HB aU;replace aV:=bw_ HB aV;replace aW:=bw_ HB aW;replace aP:=bw_ HB aP;replace aQ:=bw_ HB aQ;have bJ:=Xa.mk bL;have bW:=Xa.mk bP;clear bL bP;have bY:=Xa.mk bM;have HC165_5:=Xa.mk bQ;clear bM bQ;replace cO:=eq_true cO;replace dA:=eq_true dA;have cZ:0≤(aA:Int):=of_decide_eq_true (by assumption);have dB:aA<(l0.length:Int):=of_decide_eq_true (by assumption);obtain ⟨dE,A167_4,c167_4,A167_5,c167_5,e167,aX,aY,aZ,bA,aR,aS,bR,bN,bS,bO⟩:=at_T63 dD.out aA cZ dB;have aO:=aS;have aN:=aR;have aM:=bA;have aL:=aZ;have aK:=aY;have aJ:=aX;obtain rfl:aB=dE:=(by injection e167);replace aX:=bw_ HB aX;replace aY:=bw_ HB aY;replace aZ:=bw_ HB aZ;replace bA:=bw_ HB bA;replace aR:=bw_ HB aR;replace aS:=bw_ HB aS;have bZ:=Xa.mk bN;have HC167_4:=Xa.mk bR;clear bN bR;have bK:=Xa.mk bO;have bX:=Xa.mk bS;clear bO bS;replace cZ:=eq_true cZ;replace dB:=eq_true dB;have cK:=Option.some.inj (aP.symm.trans aR)
        injection cK with cK dI dH
        subst cK;subst dH;clear dI;have cK:=Option.some.inj (aQ.symm.trans aS)
        injection cK with cK dI dH
        subst cK;subst dH;clear dI;refine start_ (n:=21) (S:=fun w'=>w'.cell? (aB.add ((aA).toNat * 6))=some (.int .i64 ((Xc l0 aA).f0))∧w'.cell? ⟨(aB.add ((aA).toNat * 6)).block,(aB.add ((aA).toNat * 6)).off+1,none⟩=some (.int .i64 ((Xc l0 aA).f1))∧w'.cell? ⟨(aB.add ((aA).toNat * 6)).block,(aB.add ((aA).toNat * 6)).off+2,none⟩=some (.int .i64 ((Xc l0 aA).f2))∧w'.cell? ⟨(aB.add ((aA).toNat * 6)).block,(aB.add ((aA).toNat * 6)).off+3,none⟩=some (.int .i64 ((Xc l0 aA).f3))∧w'.cell? ⟨(aB.add ((aA).toNat * 6)).block,(aB.add ((aA).toNat * 6)).off+4,none⟩=some (.slice bF ((Xc l0 aA).f4).length bH)∧w'.cell? ⟨(aB.add ((aA).toNat * 6)).block,(aB.add ((aA).toNat * 6)).off+5,none⟩=some (.slice bG ((Xc l0 aA).f5).length bI)∧w'.cell? (aB.add ((aA).toNat * 6))=some (.int .i64 ((Xc l0 aA).f0))∧w'.cell? ⟨(aB.add ((aA).toNat * 6)).block,(aB.add ((aA).toNat * 6)).off+1,none⟩=some (.int .i64 ((Xc l0 aA).f1))∧w'.cell? ⟨(aB.add ((aA).toNat * 6)).block,(aB.add ((aA).toNat * 6)).off+2,none⟩=some (.int .i64 ((Xc l0 aA).f2))∧w'.cell? ⟨(aB.add ((aA).toNat * 6)).block,(aB.add ((aA).toNat * 6)).off+3,none⟩=some (.int .i64 ((Xc l0 aA).f3))∧w'.cell? ⟨(aB.add ((aA).toNat * 6)).block,(aB.add ((aA).toNat * 6)).off+4,none⟩=some (.slice bF ((Xc l0 aA).f4).length bH)∧w'.cell? ⟨(aB.add ((aA).toNat * 6)).block,(aB.add ((aA).toNat * 6)).off+5,none⟩=some (.slice bG ((Xc l0 aA).f5).length bI)) (ds:=[]) #[false,false,false,false,false,false,false,false,false,false,false,false,false,false,false,false,false,false,false,false,false] (by kernel_rfl) rfl rfl ⟨((HB.out.cell (World.block_lt_of_cell? w _ aC)).trans aC),((HB.out.cell (World.block_lt_of_cell? w _ aD)).trans aD),((HB.out.cell (World.block_lt_of_cell? w _ aF)).trans aF),((HB.out.cell (World.block_lt_of_cell? w _ aG)).trans aG),((HB.out.cell (World.block_lt_of_cell? w _ aH)).trans aH),((HB.out.cell (World.block_lt_of_cell? w _ aI)).trans aI),((HB.out.cell (World.block_lt_of_cell? w _ aJ)).trans aJ),((HB.out.cell (World.block_lt_of_cell? w _ aK)).trans aK),((HB.out.cell (World.block_lt_of_cell? w _ aL)).trans aL),((HB.out.cell (World.block_lt_of_cell? w _ aM)).trans aM),((HB.out.cell (World.block_lt_of_cell? w _ aN)).trans aN),((HB.out.cell (World.block_lt_of_cell? w _ aO)).trans aO)⟩ (fun hHeld=>?_);refine with_tabW Xw.tab5 Xw.bits5 (fun bB dN=>?_)
        generalize wc.drew=w10 at HB bJ bY bZ bK aT aU aV aW aP aQ aX aY aZ bA aR aS hHeld ⊢
        refine Za (i:=0) (N:=some 17) (v:=?_) (a':=?_) #[true,false,false,false,false,false,false,false,false,false,false,false,false,false,false,false,false,false,false,false,false] rfl rfl (Zk bB.out (by kernel_rfl)) (fun _ _ _ h=>h) (Or.inl ⟨by rfl,?_⟩) ?_ ?_
        rotate_left
        · exact wr_
        rotate_left
        · exact ap_
        refine Za (i:=1) (N:=some 18) (v:=?_) (a':=?_) #[true,true,false,false,false,false,false,false,false,false,false,false,false,false,false,false,false,false,false,false,false] rfl rfl (Zk bB.out (by kernel_rfl)) (fun _ _ _ h=>h) (Or.inl ⟨by rfl,?_⟩) ?_ ?_
        rotate_left
        · exact wr_
        rotate_left
        · exact ap_
        refine Za (i:=2) (N:=some 19) (v:=?_) (a':=?_) #[true,true,true,false,false,false,false,false,false,false,false,false,false,false,false,false,false,false,false,false,false] rfl rfl (Zk bB.out (by kernel_rfl)) (fun _ _ _ h=>h) (Or.inl ⟨by rfl,?_⟩) ?_ ?_
        rotate_left
        · exact wr_
        rotate_left
        · exact ap_
        refine Za (i:=3) (N:=some 20) (v:=?_) (a':=?_) #[true,true,true,true,false,false,false,false,false,false,false,false,false,false,false,false,false,false,false,false,false] rfl rfl (Zk bB.out (by kernel_rfl)) (fun _ _ _ h=>h) (Or.inl ⟨by rfl,?_⟩) ?_ ?_
        rotate_left
        · exact wr_
        rotate_left
        · exact ap_
        refine Za (i:=4) (N:=some 21) (v:=?_) (a':=?_) #[true,true,true,true,true,false,false,false,false,false,false,false,false,false,false,false,false,false,false,false,false] rfl rfl (Zk bB.out (by kernel_rfl)) (fun _ _ _ h=>h) (Or.inl ⟨by rfl,?_⟩) ?_ ?_
        rotate_left
        · exact wr_
        rotate_left
        · exact ap_
        refine Za (i:=5) (N:=some 22) (v:=?_) (a':=?_) #[true,true,true,true,true,true,false,false,false,false,false,false,false,false,false,false,false,false,false,false,false] rfl rfl (Zk bB.out (by kernel_rfl)) (fun _ _ _ h=>h) (Or.inl ⟨by rfl,?_⟩) ?_ ?_
        rotate_left
        · exact wr_
        rotate_left
        · exact ap_
        refine Za (i:=7) (N:=some 24) (v:=?_) (a':=?_) #[true,true,true,true,true,true,false,true,false,false,false,false,false,false,false,false,false,false,false,false,false] rfl rfl (Zk bB.out (by kernel_rfl)) (fun _ _ _ h=>h) (Or.inl ⟨by rfl,?_⟩) ?_ ?_
        rotate_left
        · exact wr_
        rotate_left
        · exact ap_
        refine Za (i:=8) (N:=some 25) (v:=?_) (a':=?_) #[true,true,true,true,true,true,false,true,true,false,false,false,false,false,false,false,false,false,false,false,false] rfl rfl (Zk bB.out (by kernel_rfl)) (fun _ _ _ h=>h) (Or.inl ⟨by rfl,?_⟩) ?_ ?_
        rotate_left
        · exact wr_
        rotate_left
        · exact ap_
        refine Za (i:=11) (N:=some 28) (v:=?_) (a':=?_) #[true,true,true,true,true,true,false,true,true,false,false,true,false,false,false,false,false,false,false,false,false] rfl rfl (Zk bB.out (by kernel_rfl)) (fun _ _ _ h=>h) (Or.inl ⟨by rfl,?_⟩) ?_ ?_
        rotate_left
        · exact wr_
        rotate_left
        · exact ap_
        refine Za (i:=12) (N:=some 29) (v:=?_) (a':=?_) #[true,true,true,true,true,true,false,true,true,false,false,true,true,false,false,false,false,false,false,false,false] rfl rfl (Zk bB.out (by kernel_rfl)) (fun _ _ _ h=>h) (Or.inl ⟨by rfl,?_⟩) ?_ ?_
        rotate_left
        · exact wr_
        rotate_left
        · exact ap_
        refine Za (i:=13) (N:=some 30) (v:=?_) (a':=?_) #[true,true,true,true,true,true,false,true,true,false,false,true,true,true,false,false,false,false,false,false,false] rfl rfl (Zk bB.out (by kernel_rfl)) (fun _ _ _ h=>h) (Or.inl ⟨by rfl,?_⟩) ?_ ?_
        rotate_left
        · exact wr_
        rotate_left
        · exact ap_
        refine Za (i:=14) (N:=some 31) (v:=?_) (a':=?_) #[true,true,true,true,true,true,false,true,true,false,false,true,true,true,true,false,false,false,false,false,false] rfl rfl (Zk bB.out (by kernel_rfl)) (fun _ _ _ h=>h) (Or.inl ⟨by rfl,?_⟩) ?_ ?_
        rotate_left
        · exact wr_
        rotate_left
        · exact ap_
        refine Za (i:=16) (N:=some 33) (v:=?_) (a':=?_) #[true,true,true,true,true,true,false,true,true,false,false,true,true,true,true,false,true,false,false,false,false] rfl rfl (Zk bB.out (by kernel_rfl)) (fun _ _ _ h=>h) (Or.inl ⟨by rfl,?_⟩) ?_ ?_
        rotate_left
        · exact wr_
        rotate_left
        · exact ap_
        refine Za (i:=17) (N:=some 34) (v:=?_) (a':=?_) #[true,true,true,true,true,true,false,true,true,false,false,true,true,true,true,false,true,true,false,false,false] rfl rfl (Zk bB.out (by kernel_rfl)) (fun _ _ _ h=>h) (Or.inl ⟨by rfl,?_⟩) ?_ ?_
        rotate_left
        · exact wr_
        rotate_left
        · exact ap_
        refine take_ (i:=6) (N:=some 23) (v:=?_) (a':=?_) #[true,true,true,true,true,true,true,true,true,false,false,true,true,true,true,false,true,true,false,false,false] rfl rfl (take_ofW bB.out dN.out (by kernel_rfl)) (fun _ _ _ h=>h) (Or.inl ⟨by rfl,?_⟩) hHeld ?_ ?_
        rotate_left
        ·rintro w' ⟨s0,s1,s2,s3,s4,s5,s6,s7,s8,s9,s10,s11⟩
         go_simp
         with_reducible rfl
        rotate_left
        · exact ap_
        refine take_ (i:=15) (N:=some 32) (v:=?_) (a':=?_) #[true,true,true,true,true,true,true,true,true,false,false,true,true,true,true,true,true,true,false,false,false] rfl rfl (take_ofW bB.out dN.out (by kernel_rfl)) (fun _ _ _ h=>h) (Or.inl ⟨by rfl,?_⟩) hHeld ?_ ?_
        rotate_left
        ·rintro w' ⟨s0,s1,s2,s3,s4,s5,s6,s7,s8,s9,s10,s11⟩
         go_simp
         with_reducible rfl
        rotate_left
        · exact ap_
        refine one_ (i:=9) (N:=some 26) #[true,true,true,true,true,true,true,true,true,true,false,true,true,true,true,true,true,true,false,false,false] rfl rfl (one_of bB.out (by kernel_rfl)) (by decide) (fun K hK=>?_)
        refine goes_ Try.func25 (by kernel_rfl) rfl #[.slice bF ((Xc l0 aA).f4).length bH,.int .i64 (wrap64 (a1 - 1))] (by rfl) rfl rfl ga_ ?_
        with_reducible refine (ih cB (by have:=dC.out;have:=HJ2.out;omega) _ _ ((Xc l0 aA).f4) (wrap64 (a1 - 1)) bE _ ?side1 ?side2 A8.out).mono ?_
        (case side1=>exact Kd.ca_ (Kd.Ze bJ.out HB.out))
        (case side2=>exact bW.out)
        rintro e w11 ⟨rfl,hb⟩
        refine ⟨_,rfl,?_⟩
        replace HB:=Xa.mk (Xe (bl_ HB) hb)
        clear hb
        skip
        skip
        skip
        refine hK.out _ _ ⟨((HB.out.cell (World.block_lt_of_cell? w _ aC)).trans aC),((HB.out.cell (World.block_lt_of_cell? w _ aD)).trans aD),((HB.out.cell (World.block_lt_of_cell? w _ aF)).trans aF),((HB.out.cell (World.block_lt_of_cell? w _ aG)).trans aG),((HB.out.cell (World.block_lt_of_cell? w _ aH)).trans aH),((HB.out.cell (World.block_lt_of_cell? w _ aI)).trans aI),((HB.out.cell (World.block_lt_of_cell? w _ aJ)).trans aJ),((HB.out.cell (World.block_lt_of_cell? w _ aK)).trans aK),((HB.out.cell (World.block_lt_of_cell? w _ aL)).trans aL),((HB.out.cell (World.block_lt_of_cell? w _ aM)).trans aM),((HB.out.cell (World.block_lt_of_cell? w _ aN)).trans aN),((HB.out.cell (World.block_lt_of_cell? w _ aO)).trans aO)⟩ (fun hHeld=>?_)
        clear hK K;refine norm_ (a':=?_) ?_ ?_
        rotate_left
        ·show Act.put _ (some 26) _=_
         simp only [Act.put,List.setIfInBounds_toArray,List.set_cons_zero,List.set_cons_succ,Ub,Uf];rfl
        refine Za (i:=10) (N:=some 27) (v:=?_) (a':=?_) #[true,true,true,true,true,true,true,true,true,true,true,true,true,true,true,true,true,true,false,false,false] rfl rfl (Zk bB.out (by kernel_rfl)) (fun _ _ _ h=>h) (Or.inl ⟨by rfl,?_⟩) ?_ ?_
        rotate_left
        · exact wr_
        rotate_left
        · exact ap_
        refine one_ (i:=18) (N:=some 35) #[true,true,true,true,true,true,true,true,true,true,true,true,true,true,true,true,true,true,true,false,false] rfl rfl (one_of bB.out (by kernel_rfl)) (by decide) (fun K hK=>?_)
        refine goes_ Try.func25 (by kernel_rfl) rfl #[.slice bG ((Xc l0 aA).f5).length bI,.int .i64 (wrap64 (a1 - 1))] (by rfl) rfl rfl ga_ ?_
        with_reducible refine (ih cB (by have:=dC.out;have:=HJ2.out;omega) _ _ ((Xc l0 aA).f5) (wrap64 (a1 - 1)) t168 _ ?side1 ?side2 A9.out).mono ?_
        (case side1=>exact Kd.ca_ (Kd.Ze bK.out HB.out))
        (case side2=>exact bX.out)
        rintro e w12 ⟨rfl,hb⟩
        refine ⟨_,rfl,?_⟩
        replace HB:=Xa.mk (Xe (bl_ HB) hb)
        clear hb
        skip
        skip
        skip
        refine hK.out _ _ ⟨((HB.out.cell (World.block_lt_of_cell? w _ aC)).trans aC),((HB.out.cell (World.block_lt_of_cell? w _ aD)).trans aD),((HB.out.cell (World.block_lt_of_cell? w _ aF)).trans aF),((HB.out.cell (World.block_lt_of_cell? w _ aG)).trans aG),((HB.out.cell (World.block_lt_of_cell? w _ aH)).trans aH),((HB.out.cell (World.block_lt_of_cell? w _ aI)).trans aI),((HB.out.cell (World.block_lt_of_cell? w _ aJ)).trans aJ),((HB.out.cell (World.block_lt_of_cell? w _ aK)).trans aK),((HB.out.cell (World.block_lt_of_cell? w _ aL)).trans aL),((HB.out.cell (World.block_lt_of_cell? w _ aM)).trans aM),((HB.out.cell (World.block_lt_of_cell? w _ aN)).trans aN),((HB.out.cell (World.block_lt_of_cell? w _ aO)).trans aO)⟩ (fun hHeld=>?_)
        clear hK K;refine norm_ (a':=?_) ?_ ?_
        rotate_left
        ·show Act.put _ (some 35) _=_
         simp only [Act.put,List.setIfInBounds_toArray,List.set_cons_zero,List.set_cons_succ,Ub,Uf];rfl
        refine Za (i:=19) (N:=some 36) (v:=?_) (a':=?_) #[true,true,true,true,true,true,true,true,true,true,true,true,true,true,true,true,true,true,true,true,false] rfl rfl (Zk bB.out (by kernel_rfl)) (fun _ _ _ h=>h) (Or.inl ⟨by rfl,?_⟩) ?_ ?_
        rotate_left
        · exact wr_
        rotate_left
        · exact ap_
        refine Za (i:=20) (N:=some 5) (v:=?_) (a':=?_) #[true,true,true,true,true,true,true,true,true,true,true,true,true,true,true,true,true,true,true,true,true] rfl rfl (Zk bB.out (by kernel_rfl)) (fun _ _ _ h=>h) (Or.inl ⟨by rfl,?_⟩) ?_ ?_
        rotate_left
        · exact wr_
        rotate_left
        · exact ap_
        refine done_ (done_of bB.out (by kernel_rfl)) ?_
        try go_wp2
        go_roundg cB
        case measure=>have:=dC.out;have:=HJ2.out;omega
        case rel=>exact ⟨(wrap64 ((wrap64 ((wrap64 (bD+1))+bE))+t168)),(wrap64 (aA+1)),rg_,rg_,H',⟨by have:=dC.out;have:=HJ2.out;omega⟩,⟨bl_ HB⟩⟩
       ·rw [if_neg c7] at H;exact absurd H (by simp)
      ·rw [if_neg c6] at H;exact absurd H (by simp)
     ·replace c5:=Bool.eq_false_iff.mpr c5;subst c5
      replace H:(some bD)=some r:=(by rw [if_neg (show ¬ (false=true) by decide)] at H;exact H);obtain rfl:=Option.some.inj H;go_wp2
      go_ret
      exact ⟨rf_,bl_ HB⟩
def Zg.f (k:Nat) (l0:List (S63)):Option (Bool):=(Yl.f k l0 3 (-1)).bind fun bU=>(if bU=true then ((Xw.f k l0 3).bind fun bC=>(some (decide (bC≤14)))) else (some false))
theorem Zg.calls (k:Nat) (A0:Option Addr) (c0:Nat) (l0:List (S63)) (r:Bool) (w:World) (hr0:Kd.C k63 w A0 l0.length l0) (hc0:l0.length≤c0) (h:Zg.f k l0=some r) :
  Calls Try.prog 11 #[.slice A0 l0.length c0] w fun e w'=>e=.returned (.bool r)∧Below w.heap.size w w':=by
 have dD:=Xa.mk hr0;have dF:=Xa.mk hc0;clear hr0 hc0;have HB:=Xa.mk (Below.refl w.heap.size w);have H:((Yl.f k l0 3 (-1)).bind fun bU=>(if bU=true then ((Xw.f k l0 3).bind fun bC=>(some (decide (bC≤14)))) else (some false)))=some r:=h;clear h;replace H:=Option.bind_eq_some_iff.mp H;obtain ⟨bU,dJ,H⟩:=H;replace H:(if bU=true then ((Xw.f k l0 3).bind fun bC=>(some (decide (bC≤14)))) else (some false))=some r:=H;have A2:=Xa.mk dJ;clear dJ;by_cases c3:bU=true
 ·subst c3
  replace H:((Xw.f k l0 3).bind fun bC=>(some (decide (bC≤14))))=some r:=(by rw [if_pos rfl] at H;exact H);replace H:=Option.bind_eq_some_iff.mp H;obtain ⟨bC,dK,H⟩:=H;replace H:(some (decide (bC≤14)))=some r:=H;have A4:=Xa.mk dK;clear dK;obtain rfl:=Option.some.inj H
  go_enter Try.func11,Try.ntmps11
  go_wp2_with (first|((with_reducible refine Xh (f:=24) rfl ?_);refine Ye (some 4) rfl rfl Try.func24 (by kernel_rfl) rfl #[.slice A0 l0.length c0,.int .i64 3,.int .i64 (-1)] rfl ga_ ?_;(with_reducible refine (Yl.calls k _ _ l0 3 (-1) true _ ?side1 ?side2 A2.out).mono ?_);(case side1=>exact Kd.ca_ dD.out);(case side2=>exact dF.out);rintro e w5 ⟨rfl,hb⟩;refine ⟨_,rfl,?_⟩;replace HB:=Xa.mk (Xe (bl_ HB) hb);clear hb)|(go_at_call 25;(with_reducible refine (Xw.calls k _ _ l0 3 bC _ ?side1 ?side2 A4.out).mono ?_);(case side1=>exact Kd.ca_ (Kd.Ze dD.out HB.out));(case side2=>exact dF.out);rintro e w6 ⟨rfl,hb⟩;replace HB:=Xa.mk (Xe (bl_ HB) hb);clear hb))
  go_ret
  exact ⟨rf_,bl_ HB⟩
 ·replace c3:=Bool.eq_false_iff.mpr c3;subst c3
  replace H:(some false)=some r:=(by rw [if_neg (show ¬ (false=true) by decide)] at H;exact H);obtain rfl:=Option.some.inj H
  go_enter Try.func11,Try.ntmps11
  go_wp2_with (first|((with_reducible refine Xh (f:=24) rfl ?_);refine Ye (some 4) rfl rfl Try.func24 (by kernel_rfl) rfl #[.slice A0 l0.length c0,.int .i64 3,.int .i64 (-1)] rfl ga_ ?_;(with_reducible refine (Yl.calls k _ _ l0 3 (-1) false _ ?side1 ?side2 A2.out).mono ?_);(case side1=>exact Kd.ca_ dD.out);(case side2=>exact dF.out);rintro e w7 ⟨rfl,hb⟩;refine ⟨_,rfl,?_⟩;replace HB:=Xa.mk (Xe (bl_ HB) hb);clear hb))
  go_ret
  exact ⟨rf_,bl_ HB⟩
end Go.Proofs.Ytokajnfbiddpjaa.GSlim
