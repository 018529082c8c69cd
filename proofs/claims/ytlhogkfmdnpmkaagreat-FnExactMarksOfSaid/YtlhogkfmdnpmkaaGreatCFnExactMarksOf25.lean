import Derived.Test.YtlhogkfmdnpmkaaGreatCFnExactMarksOf24
set_option linter.unusedVariables false
set_option linter.unusedSimpArgs false
set_option maxHeartbeats 8000000
set_option maxRecDepth 100000
namespace Go.Proofs.YtlhogkfmdnpmkaaGreat.GMarks
open RowKit YtlhogkfmdnpmkaaGreatW.PrintWords YtlhogkfmdnpmkaaGreatW.PrintLast YtlhogkfmdnpmkaaGreatW.PrintMore
attribute [local go_sem] Ua Ud Uu Ux Zo Zp Ub Ue
def Ym.l0:Nat→List (List (S87))→List (List (S87))→Int→Option (Bool)
 |0,_,_,_=>none
 |k+1,x0,x1,x5=>if x5<(x0.length:Int) then (if 0≤x5 then (if x5<(x1.length:Int) then ((Xt.f k (rd_L4 x0 x5) (rd_L4 x1 x5)).bind fun t154=>(if t154=true then (Ym.l0 k x0 x1 (wrap64 (x5+1))) else (some false))) else (none)) else (none)) else (some true)
def Ym.f (k:Nat) (l0:List (List (S87))) (l1:List (List (S87))):Option (Bool):=if (l0.length:Int)=(l1.length:Int) then (Ym.l0 k l0 l1 0) else (some false)
def Ym.T6:Bool × List (List Nat × List Nat):=(true,[([],[]),([],[]),([0,1],[0,1]),([2],[2]),([],[]),([],[]),([4,5],[4,5]),([6],[6]),([3,7],[3,7]),([8],[8])])
def Ym.B6:List Nat:=[0,0,3,7,0,0,48,112,255,511]
theorem Ym.tab6:rtab .any (opsOf Tryz.f14 6)=Ym.T6:=kr_
theorem Ym.bits6:waitsOk Ym.T6.2 Ym.B6=true:=kr_
theorem Ym.calls (k:Nat) (A0:Option Addr) (c0:Nat) (l0:List (List (S87))) (A1:Option Addr) (c1:Nat) (l1:List (List (S87))) (r:Bool) (w:World) (hr0:Kd.C (Kd.slice 87 k87) w A0 l0.length l0) (hc0:l0.length≤c0) (hr1:Kd.C (Kd.slice 87 k87) w A1 l1.length l1) (hc1:l1.length≤c1) (h:Ym.f k l0 l1=some r) :
  Calls Tryz.prog 14 #[.slice A0 l0.length c0,.slice A1 l1.length c1] w fun e w'=>e=.returned (.bool r)∧Below w.heap.size w w':=by
 have bM:=Xa.mk hr0;have bV:=Xa.mk hc0;clear hr0 hc0;have HR1:=Xa.mk hr1;have bW:=Xa.mk hc1;clear hr1 hc1;have HB:=Xa.mk (Below.refl w.heap.size w);have H:(if (l0.length:Int)=(l1.length:Int) then (Ym.l0 k l0 l1 0) else (some false))=some r:=h;clear h;by_cases c3:(l0.length:Int)=(l1.length:Int)
 ·rw [if_pos c3] at H;have bD:((l0.length:Int) == (l1.length:Int))=true:=eb_ c3;have bE:((l0.length:Int) != (l1.length:Int))=false:=nq_ c3
  have bF:(l0.length == l1.length)=true:=by first|simpa using c3|(simp at c3 ⊢;omega)
  clear c3;have H':=Xa.mk H;clear H;go_enter Tryz.func14,Tryz.ntmps14;go_wp2
  go_loopg [5] k (fun kq v5 w'=>∃ (aA:Int),v5=.int .i64 aA∧Xa (Ym.l0 kq l0 l1 aA=some r)∧Xa (kq≤k)∧Xa (Below w.heap.size w w'))
  case atStart=>exact ⟨(0),rg_,H',⟨nr_ _⟩,⟨bl_ HB⟩⟩
  case round=>
   clear H'
   try clear c1
   try clear c3
   try clear bD
   try clear bE
   try clear bF
   obtain ⟨aA,rfl,HA,bL,HB⟩:=hrel
   cases gk with
   |zero=>exact absurd HA.out (by simp [Ym.l0])
   |succ k1=>
    have H:=HA.out;clear HA;simp only [Ym.l0] at H;by_cases c4:aA<(l0.length:Int)
    ·rw [if_pos c4] at H;have bI:decide (aA<(l0.length:Int))=true:=dt_ c4;clear c4;by_cases c5:0≤aA
     ·rw [if_pos c5] at H;have bQ:decide (0≤aA)=true:=dt_ c5;clear c5;by_cases c6:aA<(l1.length:Int)
      ·rw [if_pos c6] at H;have bR:decide (aA<(l1.length:Int))=true:=dt_ c6;clear c6;replace H:=bo_ H;obtain ⟨t154,bU,H⟩:=H;replace H:(if t154=true then (Ym.l0 k1 l0 l1 (wrap64 (aA+1))) else (some false))=some r:=H;have A7:=Xa.mk bU;clear bU;by_cases c8:t154=true
       ·subst c8
        replace H:(Ym.l0 k1 l0 l1 (wrap64 (aA+1)))=some r:=ph_;have H':=Xa.mk H;clear H
        try go_wp2
        replace HB:=Xa.mk (below_drew1 HB.out);have aT:0≤(aA:Int):=od_ as_;have aX:aA<(l0.length:Int):=od_ as_;obtain ⟨bB,aM,aP,e152,aD,aK,aI⟩:=at_L4 bM.out aA aT aX;have aB:=aD;cases e152
        replace aD:=bw_ HB aD;have aG:=Xa.mk aI;have aR:=Xa.mk aK;clear aI aK;replace aT:=eq_true aT;replace aX:=eq_true aX;have aU:0≤(aA:Int):=od_ as_;have aY:aA<(l1.length:Int):=od_ as_;obtain ⟨bC,aN,aQ,e153,aF,aL,aJ⟩:=at_L4 HR1.out aA aU aY;have aC:=aF;cases e153
        replace aF:=bw_ HB aF;have aH:=Xa.mk aJ;have aS:=Xa.mk aL;clear aJ aL;replace aU:=eq_true aU;replace aY:=eq_true aY;refine Ul (n:=10) (S:=fun w'=>w'.cell? (bB.add (aA).toNat)=some (.slice aM (rd_L4 l0 aA).length aP)∧w'.cell? (bC.add (aA).toNat)=some (.slice aN (rd_L4 l1 aA).length aQ)) (ds:=[]) #[false,false,false,false,false,false,false,false,false,false] kr_ rfl rfl ⟨((HB.out.cell (World.block_lt_of_cell? w _ aB)).trans aB),((HB.out.cell (World.block_lt_of_cell? w _ aC)).trans aC)⟩ (fun hHeld=>?_);refine with_tabW Ym.tab6 Ym.bits6 (fun aO bN=>?_);generalize wr.drew=w9 at HB aG aH aD aF hHeld ⊢;refine Zv (i:=0) (N:=some 17) (v:=?_) (a':=?_) #[true,false,false,false,false,false,false,false,false,false] rfl rfl (Zf aO.out kr_) (fun _ _ _ h=>h) (Or.inl ⟨rl1_,?_⟩) ?_ ?_;rotate_left
        · exact wr_
        rotate_left
        · exact ap_
        refine Zv (i:=1) (N:=some 18) (v:=?_) (a':=?_) #[true,true,false,false,false,false,false,false,false,false] rfl rfl (Zf aO.out kr_) (fun _ _ _ h=>h) (Or.inl ⟨rl1_,?_⟩) ?_ ?_;rotate_left
        · exact wr_
        rotate_left
        · exact ap_
        refine Zv (i:=2) (N:=some 19) (v:=?_) (a':=?_) #[true,true,true,false,false,false,false,false,false,false] rfl rfl (Zf aO.out kr_) (fun _ _ _ h=>h) (Or.inl ⟨rl1_,?_⟩) ?_ ?_;rotate_left
        · exact wr_
        rotate_left
        · exact ap_
        refine Zv (i:=4) (N:=some 21) (v:=?_) (a':=?_) #[true,true,true,false,true,false,false,false,false,false] rfl rfl (Zf aO.out kr_) (fun _ _ _ h=>h) (Or.inl ⟨rl1_,?_⟩) ?_ ?_;rotate_left
        · exact wr_
        rotate_left
        · exact ap_
        refine Zv (i:=5) (N:=some 22) (v:=?_) (a':=?_) #[true,true,true,false,true,true,false,false,false,false] rfl rfl (Zf aO.out kr_) (fun _ _ _ h=>h) (Or.inl ⟨rl1_,?_⟩) ?_ ?_;rotate_left
        · exact wr_
        rotate_left
        · exact ap_
        refine Zv (i:=6) (N:=some 23) (v:=?_) (a':=?_) #[true,true,true,false,true,true,true,false,false,false] rfl rfl (Zf aO.out kr_) (fun _ _ _ h=>h) (Or.inl ⟨rl1_,?_⟩) ?_ ?_;rotate_left
        · exact wr_
        rotate_left
        · exact ap_
        refine take_ (i:=3) (N:=some 20) (v:=?_) (a':=?_) #[true,true,true,true,true,true,true,false,false,false] rfl rfl (take_ofW aO.out bN.out kr_) (fun _ _ _ h=>h) (Or.inl ⟨rl1_,?_⟩) hHeld ?_ ?_;rotate_left
        ·rintro w' ⟨s0,s1⟩;go_simp
         with_reducible rfl
        rotate_left
        · exact ap_
        refine take_ (i:=7) (N:=some 24) (v:=?_) (a':=?_) #[true,true,true,true,true,true,true,true,false,false] rfl rfl (take_ofW aO.out bN.out kr_) (fun _ _ _ h=>h) (Or.inl ⟨rl1_,?_⟩) hHeld ?_ ?_;rotate_left
        ·rintro w' ⟨s0,s1⟩;go_simp
         with_reducible rfl
        rotate_left
        · exact ap_
        refine one_ (i:=8) (N:=some 25) #[true,true,true,true,true,true,true,true,true,false] rfl rfl (one_of aO.out kr_) de_ (fun K hK=>?_);refine Vd Tryz.func41 kr_ rfl #[.slice aM (rd_L4 l0 aA).length aP,.slice aN (rd_L4 l1 aA).length aQ] rl1_ rfl rfl ga_ ?_
        with_reducible refine (Xt.calls k1 _ _ (rd_L4 l0 aA) _ _ (rd_L4 l1 aA) true _ ?side1 ?side2 ?side3 ?side4 A7.out).mono ?_
        (case side1=>exact Kd.ca_ (Kd.Xy aG.out HB.out))
        (case side2=>exact aR.out)
        (case side3=>exact Kd.ca_ (Kd.Xy aH.out HB.out))
        (case side4=>exact aS.out)
        rintro e w10 ⟨rfl,hb⟩;refine ⟨_,rfl,?_⟩;replace HB:=Xa.mk (Xi (bl_ HB) hb)
        clear hb
        skip
        skip
        skip
        refine hK.out _ _ ⟨((HB.out.cell (World.block_lt_of_cell? w _ aB)).trans aB),((HB.out.cell (World.block_lt_of_cell? w _ aC)).trans aC)⟩ (fun hHeld=>?_);clear hK K;refine no_ ?_;refine Zv (i:=9) (N:=some 26) (v:=?_) (a':=?_) #[true,true,true,true,true,true,true,true,true,true] rfl rfl (Zf aO.out kr_) (fun _ _ _ h=>h) (Or.inl ⟨rl1_,?_⟩) ?_ ?_;rotate_left
        · exact wr_
        rotate_left
        · exact ap_
        refine Uz (done_of aO.out kr_) ?_
        try go_wp2
        go_roundg k1
        case measure=>have:=bL.out;omega
        case rel=>exact ⟨(wrap64 (aA+1)),rg_,H',⟨by have:=bL.out;omega⟩,⟨bl_ HB⟩⟩
       ·replace c8:=Bool.eq_false_iff.mpr c8;subst c8
        replace H:(some false)=some r:=fh_;obtain rfl:=sj_ H
        try go_wp2
        replace HB:=Xa.mk (below_drew1 HB.out);have aT:0≤(aA:Int):=od_ as_;have aX:aA<(l0.length:Int):=od_ as_;obtain ⟨bB,aM,aP,e152,aD,aK,aI⟩:=at_L4 bM.out aA aT aX;have aB:=aD;cases e152
        replace aD:=bw_ HB aD;have aG:=Xa.mk aI;have aR:=Xa.mk aK;clear aI aK;replace aT:=eq_true aT;replace aX:=eq_true aX;have aU:0≤(aA:Int):=od_ as_;have aY:aA<(l1.length:Int):=od_ as_;obtain ⟨bC,aN,aQ,e153,aF,aL,aJ⟩:=at_L4 HR1.out aA aU aY;have aC:=aF;cases e153
        replace aF:=bw_ HB aF;have aH:=Xa.mk aJ;have aS:=Xa.mk aL;clear aJ aL;replace aU:=eq_true aU;replace aY:=eq_true aY;refine Ul (n:=10) (S:=fun w'=>w'.cell? (bB.add (aA).toNat)=some (.slice aM (rd_L4 l0 aA).length aP)∧w'.cell? (bC.add (aA).toNat)=some (.slice aN (rd_L4 l1 aA).length aQ)) (ds:=[]) #[false,false,false,false,false,false,false,false,false,false] kr_ rfl rfl ⟨((HB.out.cell (World.block_lt_of_cell? w _ aB)).trans aB),((HB.out.cell (World.block_lt_of_cell? w _ aC)).trans aC)⟩ (fun hHeld=>?_);refine with_tabW Ym.tab6 Ym.bits6 (fun aO bN=>?_);generalize wr.drew=w11 at HB aG aH aD aF hHeld ⊢;refine Zv (i:=0) (N:=some 17) (v:=?_) (a':=?_) #[true,false,false,false,false,false,false,false,false,false] rfl rfl (Zf aO.out kr_) (fun _ _ _ h=>h) (Or.inl ⟨rl1_,?_⟩) ?_ ?_;rotate_left
        · exact wr_
        rotate_left
        · exact ap_
        refine Zv (i:=1) (N:=some 18) (v:=?_) (a':=?_) #[true,true,false,false,false,false,false,false,false,false] rfl rfl (Zf aO.out kr_) (fun _ _ _ h=>h) (Or.inl ⟨rl1_,?_⟩) ?_ ?_;rotate_left
        · exact wr_
        rotate_left
        · exact ap_
        refine Zv (i:=2) (N:=some 19) (v:=?_) (a':=?_) #[true,true,true,false,false,false,false,false,false,false] rfl rfl (Zf aO.out kr_) (fun _ _ _ h=>h) (Or.inl ⟨rl1_,?_⟩) ?_ ?_;rotate_left
        · exact wr_
        rotate_left
        · exact ap_
        refine Zv (i:=4) (N:=some 21) (v:=?_) (a':=?_) #[true,true,true,false,true,false,false,false,false,false] rfl rfl (Zf aO.out kr_) (fun _ _ _ h=>h) (Or.inl ⟨rl1_,?_⟩) ?_ ?_;rotate_left
        · exact wr_
        rotate_left
        · exact ap_
        refine Zv (i:=5) (N:=some 22) (v:=?_) (a':=?_) #[true,true,true,false,true,true,false,false,false,false] rfl rfl (Zf aO.out kr_) (fun _ _ _ h=>h) (Or.inl ⟨rl1_,?_⟩) ?_ ?_;rotate_left
        · exact wr_
        rotate_left
        · exact ap_
        refine Zv (i:=6) (N:=some 23) (v:=?_) (a':=?_) #[true,true,true,false,true,true,true,false,false,false] rfl rfl (Zf aO.out kr_) (fun _ _ _ h=>h) (Or.inl ⟨rl1_,?_⟩) ?_ ?_;rotate_left
        · exact wr_
        rotate_left
        · exact ap_
        refine take_ (i:=3) (N:=some 20) (v:=?_) (a':=?_) #[true,true,true,true,true,true,true,false,false,false] rfl rfl (take_ofW aO.out bN.out kr_) (fun _ _ _ h=>h) (Or.inl ⟨rl1_,?_⟩) hHeld ?_ ?_;rotate_left
        ·rintro w' ⟨s0,s1⟩;go_simp
         with_reducible rfl
        rotate_left
        · exact ap_
        refine take_ (i:=7) (N:=some 24) (v:=?_) (a':=?_) #[true,true,true,true,true,true,true,true,false,false] rfl rfl (take_ofW aO.out bN.out kr_) (fun _ _ _ h=>h) (Or.inl ⟨rl1_,?_⟩) hHeld ?_ ?_;rotate_left
        ·rintro w' ⟨s0,s1⟩;go_simp
         with_reducible rfl
        rotate_left
        · exact ap_
        refine one_ (i:=8) (N:=some 25) #[true,true,true,true,true,true,true,true,true,false] rfl rfl (one_of aO.out kr_) de_ (fun K hK=>?_);refine Vd Tryz.func41 kr_ rfl #[.slice aM (rd_L4 l0 aA).length aP,.slice aN (rd_L4 l1 aA).length aQ] rl1_ rfl rfl ga_ ?_
        with_reducible refine (Xt.calls k1 _ _ (rd_L4 l0 aA) _ _ (rd_L4 l1 aA) false _ ?side1 ?side2 ?side3 ?side4 A7.out).mono ?_
        (case side1=>exact Kd.ca_ (Kd.Xy aG.out HB.out))
        (case side2=>exact aR.out)
        (case side3=>exact Kd.ca_ (Kd.Xy aH.out HB.out))
        (case side4=>exact aS.out)
        rintro e w12 ⟨rfl,hb⟩;refine ⟨_,rfl,?_⟩;replace HB:=Xa.mk (Xi (bl_ HB) hb)
        clear hb
        skip
        skip
        skip
        refine hK.out _ _ ⟨((HB.out.cell (World.block_lt_of_cell? w _ aB)).trans aB),((HB.out.cell (World.block_lt_of_cell? w _ aC)).trans aC)⟩ (fun hHeld=>?_);clear hK K;refine no_ ?_;refine Zv (i:=9) (N:=some 26) (v:=?_) (a':=?_) #[true,true,true,true,true,true,true,true,true,true] rfl rfl (Zf aO.out kr_) (fun _ _ _ h=>h) (Or.inl ⟨rl1_,?_⟩) ?_ ?_;rotate_left
        · exact wr_
        rotate_left
        · exact ap_
        refine Uz (done_of aO.out kr_) ?_
        try go_wp2
        go_ret
        exact ⟨rf_,bl_ HB⟩
      ·rw [if_neg c6] at H;exact absurd H sm_
     ·rw [if_neg c5] at H;exact absurd H sm_
    ·rw [if_neg c4] at H;have bI:decide (aA<(l0.length:Int))=false:=df_ c4;clear c4;obtain rfl:=sj_ H;go_wp2;go_ret
     exact ⟨rf_,bl_ HB⟩
 ·rw [if_neg c3] at H;have bD:((l0.length:Int) == (l1.length:Int))=false:=nb_ c3;have bE:((l0.length:Int) != (l1.length:Int))=true:=nn_ c3
  have bF:(l0.length == l1.length)=false:=by first|simpa using c3|(simp at c3 ⊢;omega)
  obtain rfl:=sj_ H;go_enter Tryz.func14,Tryz.ntmps14;go_wp2;go_ret
  exact ⟨rf_,bl_ HB⟩
def Zy.l0:Nat→List Int→List Int→Int→Option (Bool)
 |0,_,_,_=>none
 |k+1,x0,x1,x5=>if x5<(x0.length:Int) then (if 0≤x5 then (if x5<(x1.length:Int) then (if (rd x0 x5)=(rd x1 x5) then (Zy.l0 k x0 x1 (wrap64 (x5+1))) else (some false)) else (none)) else (none)) else (some true)
def Zy.f (k:Nat) (l0:List Int) (l1:List Int):Option (Bool):=if (l0.length:Int)=(l1.length:Int) then (Zy.l0 k l0 l1 0) else (some false)
theorem Zy.calls (k:Nat) (A0:Option Addr) (c0:Nat) (l0:List Int) (A1:Option Addr) (c1:Nat) (l1:List Int) (r:Bool) (w:World) (hr0:Kd.C (Kd.int .i64) w A0 l0.length l0) (hc0:l0.length≤c0) (hr1:Kd.C (Kd.int .i64) w A1 l1.length l1) (hc1:l1.length≤c1) (h:Zy.f k l0 l1=some r) :
  Calls Tryz.prog 15 #[.slice A0 l0.length c0,.slice A1 l1.length c1] w fun e w'=>e=.returned (.bool r)∧Xz w w':=by
 have bM:=Xa.mk hr0;have bV:=Xa.mk hc0;clear hr0 hc0;have HR1:=Xa.mk hr1;have bW:=Xa.mk hc1;clear hr1 hc1;have H:(if (l0.length:Int)=(l1.length:Int) then (Zy.l0 k l0 l1 0) else (some false))=some r:=h;clear h;by_cases c3:(l0.length:Int)=(l1.length:Int)
 ·rw [if_pos c3] at H;have bD:((l0.length:Int) == (l1.length:Int))=true:=eb_ c3;have bE:((l0.length:Int) != (l1.length:Int))=false:=nq_ c3
  have bF:(l0.length == l1.length)=true:=by first|simpa using c3|(simp at c3 ⊢;omega)
  clear c3;have H':=Xa.mk H;clear H;go_enter Tryz.func15,Tryz.ntmps15;go_wp2
  repeat (go_quiet (fail);try go_wp2)
  go_loopg [5] k (fun kq v5 w'=>∃ (aA:Int),v5=.int .i64 aA∧Xa (Zy.l0 kq l0 l1 aA=some r)∧Xa (kq≤k)∧Xz w w')
  case atStart=>exact ⟨(0),rg_,H',⟨nr_ _⟩,by repeat (first|exact Xz.refl _|apply Xz.step)⟩
  case round=>
   clear H'
   try clear c1
   try clear c3
   try clear bD
   try clear bE
   try clear bF
   obtain ⟨aA,rfl,HA,bL,⟨m1,rfl⟩⟩:=hrel
   cases gk with
   |zero=>exact absurd HA.out (by simp [Zy.l0])
   |succ k1=>
    have H:=HA.out;clear HA;simp only [Zy.l0] at H;by_cases c4:aA<(l0.length:Int)
    ·rw [if_pos c4] at H;have bI:decide (aA<(l0.length:Int))=true:=dt_ c4;clear c4;by_cases c5:0≤aA
     ·rw [if_pos c5] at H;have bQ:decide (0≤aA)=true:=dt_ c5;clear c5;by_cases c6:aA<(l1.length:Int)
      ·rw [if_pos c6] at H;have bR:decide (aA<(l1.length:Int))=true:=dt_ c6;clear c6;by_cases c7:(rd l0 aA)=(rd l1 aA)
       ·rw [if_pos c7] at H;have bS:((rd l0 aA) == (rd l1 aA))=true:=eb_ c7;have bT:((rd l0 aA) != (rd l1 aA))=false:=nq_ c7;clear c7;have H':=Xa.mk H;clear H;have aV:0≤(aA:Int):=od_ as_;have aZ:aA<(l0.length:Int):=od_ as_;obtain ⟨bO,bJ,bG⟩:=Kd.at_int bM.out aA aV aZ;cases bJ
        replace aV:=eq_true aV;replace aZ:=eq_true aZ;have aW:0≤(aA:Int):=od_ as_;have bA:aA<(l1.length:Int):=od_ as_;obtain ⟨bP,bK,bH⟩:=Kd.at_int HR1.out aA aW bA;cases bK
        replace aW:=eq_true aW;replace bA:=eq_true bA;go_wp2
        repeat (go_quiet (fail);try go_wp2)
        go_roundg k1
        case measure=>have:=bL.out;omega
        case rel=>exact ⟨(wrap64 (aA+1)),rg_,H',⟨by have:=bL.out;omega⟩,by repeat (first|exact Xz.refl _|apply Xz.step)⟩
       ·rw [if_neg c7] at H;have bS:((rd l0 aA) == (rd l1 aA))=false:=nb_ c7;have bT:((rd l0 aA) != (rd l1 aA))=true:=nn_ c7;obtain rfl:=sj_ H;have aV:0≤(aA:Int):=od_ as_;have aZ:aA<(l0.length:Int):=od_ as_;obtain ⟨bO,bJ,bG⟩:=Kd.at_int bM.out aA aV aZ;cases bJ
        replace aV:=eq_true aV;replace aZ:=eq_true aZ;have aW:0≤(aA:Int):=od_ as_;have bA:aA<(l1.length:Int):=od_ as_;obtain ⟨bP,bK,bH⟩:=Kd.at_int HR1.out aA aW bA;cases bK
        replace aW:=eq_true aW;replace bA:=eq_true bA;go_wp2
        repeat (go_quiet (fail);try go_wp2)
        go_ret
        exact ⟨by first|rfl|(simp;done)|(simp [*];done),by repeat (first|exact Xz.refl _|apply Xz.step)⟩
      ·rw [if_neg c6] at H;exact absurd H sm_
     ·rw [if_neg c5] at H;exact absurd H sm_
    ·rw [if_neg c4] at H;have bI:decide (aA<(l0.length:Int))=false:=df_ c4;clear c4;obtain rfl:=sj_ H;go_wp2
     repeat (go_quiet (fail);try go_wp2)
     go_ret
     exact ⟨by first|rfl|(simp;done)|(simp [*];done),by repeat (first|exact Xz.refl _|apply Xz.step)⟩
 ·rw [if_neg c3] at H;have bD:((l0.length:Int) == (l1.length:Int))=false:=nb_ c3;have bE:((l0.length:Int) != (l1.length:Int))=true:=nn_ c3
  have bF:(l0.length == l1.length)=false:=by first|simpa using c3|(simp at c3 ⊢;omega)
  obtain rfl:=sj_ H;go_enter Tryz.func15,Tryz.ntmps15;go_wp2
  repeat (go_quiet (fail);try go_wp2)
  go_ret
  exact ⟨by first|rfl|(simp;done)|(simp [*];done),by repeat (first|exact Xz.refl _|apply Xz.step)⟩
end Go.Proofs.YtlhogkfmdnpmkaaGreat.GMarks
