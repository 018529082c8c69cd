import Derived.Test.YtlhogkfmdnpmkaaCFnExactWholeOrder21
import Derived.Test.YtlhogkfmdnpmkaaCFnExactWholeOrder83
set_option maxRecDepth 100000
namespace Go.Proofs.Ytlhogkfmdnpmkaa.GWhole
open Go.RowKit Go.Proofs.YtlhogkfmdnpmkaaW.PrintWords Go.Proofs.YtlhogkfmdnpmkaaW.PrintLast Go.Proofs.YtlhogkfmdnpmkaaW.PrintMore
attribute [local go_sem] Ui Uk max_two min_two Zx Zy Uj Ul
set_option linter.unusedVariables false
set_option linter.unusedSimpArgs false
def Xy.l0:Nat→List (List (S69))→List (List (S69))→Int→Option (Bool)
 |0,_,_,_=>none
 |k+1,x0,x1,x5=>if x5<(x0.length:Int) then (if 0≤x5 then (if x5<(x1.length:Int) then ((Xv.f k (rd_L4 x0 x5) (rd_L4 x1 x5)).bind fun t206=>(if t206=true then (Xy.l0 k x0 x1 (wrap64 (x5+1))) else (some false))) else (none)) else (none)) else (some true)
def Xy.f (k:Nat) (l0:List (List (S69))) (l1:List (List (S69))):Option (Bool):=if (l0.length:Int)=(l1.length:Int) then (Xy.l0 k l0 l1 0) else (some false)
def Xy.T6:Bool × List (List Nat × List Nat):=(true,[([],[]),([],[]),([0,1],[0,1]),([2],[2]),([],[]),([],[]),([4,5],[4,5]),([6],[6]),([3,7],[3,7]),([8],[8])])
def Xy.B6:List Nat:=[0,0,3,7,0,0,48,112,255,511]
theorem Xy.tab6:rtab .any (opsOf Try.f11 6)=Xy.T6:=by kernel_rfl
theorem Xy.bits6:waitsOk Xy.T6.2 Xy.B6=true:=by kernel_rfl
set_option maxHeartbeats 8000000 in
theorem Xy.calls (k:Nat) (A0:Option Addr) (c0:Nat) (l0:List (List (S69))) (A1:Option Addr) (c1:Nat) (l1:List (List (S69))) (r:Bool) (w:World) (hr0:Kd.C (Kd.slice 69 k69) w A0 l0.length l0) (hc0:l0.length≤c0) (hr1:Kd.C (Kd.slice 69 k69) w A1 l1.length l1) (hc1:l1.length≤c1) (h:Xy.f k l0 l1=some r) :
  Calls Try.prog 11 #[.slice A0 l0.length c0,.slice A1 l1.length c1] w fun e w'=>e=.returned (.bool r)∧Below w.heap.size w w':=by
 have bH:=Xa.mk hr0;have HC0:=Xa.mk hc0;clear hr0 hc0;have HR1:=Xa.mk hr1;have HC1:=Xa.mk hc1;clear hr1 hc1;have HB:=Xa.mk (Below.refl w.heap.size w);have H:(if (l0.length:Int)=(l1.length:Int) then (Xy.l0 k l0 l1 0) else (some false))=some r:=h;clear h;by_cases c3:(l0.length:Int)=(l1.length:Int)
 ·rw [if_pos c3] at H;have bB:=beq_iff_eq.mpr c3;have bC:=bne_eq_false_iff_eq.mpr c3
  have bD:(l0.length == l1.length)=true:=by first|simpa using c3|(simp at c3 ⊢;omega)
  clear c3;have H':=Xa.mk H;clear H
  go_enter Try.func11,Try.ntmps11
  go_wp2
  go_loopg [5] k (fun kq v5 w'=>∃ (aA:Int),v5=.int .i64 aA∧Xa (Xy.l0 kq l0 l1 aA=some r)∧Xa (kq≤k)∧Xa (Below w.heap.size w w'))
  case atStart=>exact ⟨(0),rg_,H',⟨Nat.le_refl _⟩,⟨bl_ HB⟩⟩
  case round=>
   clear H'
   try clear c1
   try clear c3
   try clear bB
   try clear bC
   try clear bD
   obtain ⟨aA,rfl,HA,bG,HB⟩:=hrel
   cases gk with
   |zero=>exact absurd HA.out (by simp [Xy.l0])
   |succ k1=>
    have H:=HA.out;clear HA;simp only [Xy.l0] at H;by_cases c4:aA<(l0.length:Int)
    ·rw [if_pos c4] at H;have bE:=decide_eq_true c4;clear c4;by_cases c5:0≤aA
     ·rw [if_pos c5] at H;replace c5:=decide_eq_true c5;by_cases c6:aA<(l1.length:Int)
      ·rw [if_pos c6] at H;replace c6:=decide_eq_true c6;replace H:=Option.bind_eq_some_iff.mp H;obtain ⟨t206,bF,H⟩:=H;replace H:(if t206=true then (Xy.l0 k1 l0 l1 (wrap64 (aA+1))) else (some false))=some r:=H;have A7:=Xa.mk bF;clear bF;by_cases c8:t206=true
       ·subst c8
        replace H:(Xy.l0 k1 l0 l1 (wrap64 (aA+1)))=some r:=(by rw [if_pos rfl] at H;exact H);have H':=Xa.mk H;clear H
        try go_wp2
        replace HB:=Xa.mk (below_drew1 HB.out);have aT:0≤(aA:Int):=of_decide_eq_true (by assumption);have aV:aA<(l0.length:Int):=of_decide_eq_true (by assumption);obtain ⟨aX,aM,aP,e204,aD,aK,aI⟩:=at_L4 bH.out aA aT aV;have aB:=aD;cases e204
        replace aD:=bw_ HB aD;have aG:=Xa.mk aI;have aR:=Xa.mk aK;clear aI aK;replace aT:=eq_true aT;replace aV:=eq_true aV;have aU:0≤(aA:Int):=of_decide_eq_true (by assumption);have aW:aA<(l1.length:Int):=of_decide_eq_true (by assumption);obtain ⟨aY,aN,aQ,aZ,aF,aL,aJ⟩:=at_L4 HR1.out aA aU aW;have aC:=aF;cases aZ
        replace aF:=bw_ HB aF;have aH:=Xa.mk aJ;have aS:=Xa.mk aL;clear aJ aL;replace aU:=eq_true aU;replace aW:=eq_true aW;refine start_ (n:=10) (S:=fun w'=>w'.cell? (aX.add (aA).toNat)=some (.slice aM (rd_L4 l0 aA).length aP)∧w'.cell? (aY.add (aA).toNat)=some (.slice aN (rd_L4 l1 aA).length aQ)) (ds:=[]) #[false,false,false,false,false,false,false,false,false,false] (by kernel_rfl) rfl rfl ⟨((HB.out.cell (World.block_lt_of_cell? w _ aB)).trans aB),((HB.out.cell (World.block_lt_of_cell? w _ aC)).trans aC)⟩ (fun hHeld=>?_);refine with_tabW Xy.tab6 Xy.bits6 (fun aO bA=>?_)
        generalize wr.drew=w9 at HB aG aH aD aF hHeld ⊢
        refine Xp (i:=0) (N:=some 17) (v:=?_) (a':=?_) #[true,false,false,false,false,false,false,false,false,false] rfl rfl (Zn aO.out (by kernel_rfl)) (fun _ _ _ h=>h) (Or.inl ⟨by rfl,?_⟩) ?_ ?_
        rotate_left
        · exact wr_
        rotate_left
        · exact ap_
        refine Xp (i:=1) (N:=some 18) (v:=?_) (a':=?_) #[true,true,false,false,false,false,false,false,false,false] rfl rfl (Zn aO.out (by kernel_rfl)) (fun _ _ _ h=>h) (Or.inl ⟨by rfl,?_⟩) ?_ ?_
        rotate_left
        · exact wr_
        rotate_left
        · exact ap_
        refine Xp (i:=2) (N:=some 19) (v:=?_) (a':=?_) #[true,true,true,false,false,false,false,false,false,false] rfl rfl (Zn aO.out (by kernel_rfl)) (fun _ _ _ h=>h) (Or.inl ⟨by rfl,?_⟩) ?_ ?_
        rotate_left
        · exact wr_
        rotate_left
        · exact ap_
        refine Xp (i:=4) (N:=some 21) (v:=?_) (a':=?_) #[true,true,true,false,true,false,false,false,false,false] rfl rfl (Zn aO.out (by kernel_rfl)) (fun _ _ _ h=>h) (Or.inl ⟨by rfl,?_⟩) ?_ ?_
        rotate_left
        · exact wr_
        rotate_left
        · exact ap_
        refine Xp (i:=5) (N:=some 22) (v:=?_) (a':=?_) #[true,true,true,false,true,true,false,false,false,false] rfl rfl (Zn aO.out (by kernel_rfl)) (fun _ _ _ h=>h) (Or.inl ⟨by rfl,?_⟩) ?_ ?_
        rotate_left
        · exact wr_
        rotate_left
        · exact ap_
        refine Xp (i:=6) (N:=some 23) (v:=?_) (a':=?_) #[true,true,true,false,true,true,true,false,false,false] rfl rfl (Zn aO.out (by kernel_rfl)) (fun _ _ _ h=>h) (Or.inl ⟨by rfl,?_⟩) ?_ ?_
        rotate_left
        · exact wr_
        rotate_left
        · exact ap_
        refine Zp (i:=3) (N:=some 20) (v:=?_) (a':=?_) #[true,true,true,true,true,true,true,false,false,false] rfl rfl (take_ofW aO.out bA.out (by kernel_rfl)) (fun _ _ _ h=>h) (Or.inl ⟨by rfl,?_⟩) hHeld ?_ ?_
        rotate_left
        ·rintro w' ⟨s0,s1⟩
         go_simp
         with_reducible rfl
        rotate_left
        · exact ap_
        refine Zp (i:=7) (N:=some 24) (v:=?_) (a':=?_) #[true,true,true,true,true,true,true,true,false,false] rfl rfl (take_ofW aO.out bA.out (by kernel_rfl)) (fun _ _ _ h=>h) (Or.inl ⟨by rfl,?_⟩) hHeld ?_ ?_
        rotate_left
        ·rintro w' ⟨s0,s1⟩
         go_simp
         with_reducible rfl
        rotate_left
        · exact ap_
        refine one_ (i:=8) (N:=some 25) #[true,true,true,true,true,true,true,true,true,false] rfl rfl (one_of aO.out (by kernel_rfl)) (by decide) (fun K hK=>?_)
        refine goes_ Try.func29 (by kernel_rfl) rfl #[.slice aM (rd_L4 l0 aA).length aP,.slice aN (rd_L4 l1 aA).length aQ] (by rfl) rfl rfl ga_ ?_
        with_reducible refine (Xv.calls k1 _ _ (rd_L4 l0 aA) _ _ (rd_L4 l1 aA) true _ ?side1 ?side2 ?side3 ?side4 A7.out).mono ?_
        (case side1=>exact Kd.ca_ (Kd.Xr aG.out HB.out))
        (case side2=>exact aR.out)
        (case side3=>exact Kd.ca_ (Kd.Xr aH.out HB.out))
        (case side4=>exact aS.out)
        rintro e w10 ⟨rfl,hb⟩
        refine ⟨_,rfl,?_⟩
        replace HB:=Xa.mk (Xe (bl_ HB) hb)
        clear hb
        skip
        skip
        skip
        refine hK.out _ _ ⟨((HB.out.cell (World.block_lt_of_cell? w _ aB)).trans aB),((HB.out.cell (World.block_lt_of_cell? w _ aC)).trans aC)⟩ (fun hHeld=>?_)
        clear hK K;refine Zj (a':=?_) ?_ ?_
        rotate_left
        ·show Act.put _ (some 25) _=_
         simp only [Act.put,List.setIfInBounds_toArray,List.set_cons_zero,List.set_cons_succ,Zc,Zb];rfl
        refine Xp (i:=9) (N:=some 26) (v:=?_) (a':=?_) #[true,true,true,true,true,true,true,true,true,true] rfl rfl (Zn aO.out (by kernel_rfl)) (fun _ _ _ h=>h) (Or.inl ⟨by rfl,?_⟩) ?_ ?_
        rotate_left
        · exact wr_
        rotate_left
        · exact ap_
        refine done_ (done_of aO.out (by kernel_rfl)) ?_
        try go_wp2
        go_roundg k1
        case measure=>have:=bG.out;omega
        case rel=>exact ⟨(wrap64 (aA+1)),rg_,H',⟨by have:=bG.out;omega⟩,⟨bl_ HB⟩⟩
       ·replace c8:=Bool.eq_false_iff.mpr c8;subst c8
        replace H:(some false)=some r:=(by rw [if_neg (show ¬ (false=true) by decide)] at H;exact H);obtain rfl:=Option.some.inj H
        try go_wp2
        replace HB:=Xa.mk (below_drew1 HB.out);have aT:0≤(aA:Int):=of_decide_eq_true (by assumption);have aV:aA<(l0.length:Int):=of_decide_eq_true (by assumption);obtain ⟨aX,aM,aP,e204,aD,aK,aI⟩:=at_L4 bH.out aA aT aV;have aB:=aD;cases e204
        replace aD:=bw_ HB aD;have aG:=Xa.mk aI;have aR:=Xa.mk aK;clear aI aK;replace aT:=eq_true aT;replace aV:=eq_true aV;have aU:0≤(aA:Int):=of_decide_eq_true (by assumption);have aW:aA<(l1.length:Int):=of_decide_eq_true (by assumption);obtain ⟨aY,aN,aQ,aZ,aF,aL,aJ⟩:=at_L4 HR1.out aA aU aW;have aC:=aF;cases aZ
        replace aF:=bw_ HB aF;have aH:=Xa.mk aJ;have aS:=Xa.mk aL;clear aJ aL;replace aU:=eq_true aU;replace aW:=eq_true aW;refine start_ (n:=10) (S:=fun w'=>w'.cell? (aX.add (aA).toNat)=some (.slice aM (rd_L4 l0 aA).length aP)∧w'.cell? (aY.add (aA).toNat)=some (.slice aN (rd_L4 l1 aA).length aQ)) (ds:=[]) #[false,false,false,false,false,false,false,false,false,false] (by kernel_rfl) rfl rfl ⟨((HB.out.cell (World.block_lt_of_cell? w _ aB)).trans aB),((HB.out.cell (World.block_lt_of_cell? w _ aC)).trans aC)⟩ (fun hHeld=>?_);refine with_tabW Xy.tab6 Xy.bits6 (fun aO bA=>?_)
        generalize wr.drew=w11 at HB aG aH aD aF hHeld ⊢
        refine Xp (i:=0) (N:=some 17) (v:=?_) (a':=?_) #[true,false,false,false,false,false,false,false,false,false] rfl rfl (Zn aO.out (by kernel_rfl)) (fun _ _ _ h=>h) (Or.inl ⟨by rfl,?_⟩) ?_ ?_
        rotate_left
        · exact wr_
        rotate_left
        · exact ap_
        refine Xp (i:=1) (N:=some 18) (v:=?_) (a':=?_) #[true,true,false,false,false,false,false,false,false,false] rfl rfl (Zn aO.out (by kernel_rfl)) (fun _ _ _ h=>h) (Or.inl ⟨by rfl,?_⟩) ?_ ?_
        rotate_left
        · exact wr_
        rotate_left
        · exact ap_
        refine Xp (i:=2) (N:=some 19) (v:=?_) (a':=?_) #[true,true,true,false,false,false,false,false,false,false] rfl rfl (Zn aO.out (by kernel_rfl)) (fun _ _ _ h=>h) (Or.inl ⟨by rfl,?_⟩) ?_ ?_
        rotate_left
        · exact wr_
        rotate_left
        · exact ap_
        refine Xp (i:=4) (N:=some 21) (v:=?_) (a':=?_) #[true,true,true,false,true,false,false,false,false,false] rfl rfl (Zn aO.out (by kernel_rfl)) (fun _ _ _ h=>h) (Or.inl ⟨by rfl,?_⟩) ?_ ?_
        rotate_left
        · exact wr_
        rotate_left
        · exact ap_
        refine Xp (i:=5) (N:=some 22) (v:=?_) (a':=?_) #[true,true,true,false,true,true,false,false,false,false] rfl rfl (Zn aO.out (by kernel_rfl)) (fun _ _ _ h=>h) (Or.inl ⟨by rfl,?_⟩) ?_ ?_
        rotate_left
        · exact wr_
        rotate_left
        · exact ap_
        refine Xp (i:=6) (N:=some 23) (v:=?_) (a':=?_) #[true,true,true,false,true,true,true,false,false,false] rfl rfl (Zn aO.out (by kernel_rfl)) (fun _ _ _ h=>h) (Or.inl ⟨by rfl,?_⟩) ?_ ?_
        rotate_left
        · exact wr_
        rotate_left
        · exact ap_
        refine Zp (i:=3) (N:=some 20) (v:=?_) (a':=?_) #[true,true,true,true,true,true,true,false,false,false] rfl rfl (take_ofW aO.out bA.out (by kernel_rfl)) (fun _ _ _ h=>h) (Or.inl ⟨by rfl,?_⟩) hHeld ?_ ?_
        rotate_left
        ·rintro w' ⟨s0,s1⟩
         go_simp
         with_reducible rfl
        rotate_left
        · exact ap_
        refine Zp (i:=7) (N:=some 24) (v:=?_) (a':=?_) #[true,true,true,true,true,true,true,true,false,false] rfl rfl (take_ofW aO.out bA.out (by kernel_rfl)) (fun _ _ _ h=>h) (Or.inl ⟨by rfl,?_⟩) hHeld ?_ ?_
        rotate_left
        ·rintro w' ⟨s0,s1⟩
         go_simp
         with_reducible rfl
        rotate_left
        · exact ap_
        refine one_ (i:=8) (N:=some 25) #[true,true,true,true,true,true,true,true,true,false] rfl rfl (one_of aO.out (by kernel_rfl)) (by decide) (fun K hK=>?_)
        refine goes_ Try.func29 (by kernel_rfl) rfl #[.slice aM (rd_L4 l0 aA).length aP,.slice aN (rd_L4 l1 aA).length aQ] (by rfl) rfl rfl ga_ ?_
        with_reducible refine (Xv.calls k1 _ _ (rd_L4 l0 aA) _ _ (rd_L4 l1 aA) false _ ?side1 ?side2 ?side3 ?side4 A7.out).mono ?_
        (case side1=>exact Kd.ca_ (Kd.Xr aG.out HB.out))
        (case side2=>exact aR.out)
        (case side3=>exact Kd.ca_ (Kd.Xr aH.out HB.out))
        (case side4=>exact aS.out)
        rintro e w12 ⟨rfl,hb⟩
        refine ⟨_,rfl,?_⟩
        replace HB:=Xa.mk (Xe (bl_ HB) hb)
        clear hb
        skip
        skip
        skip
        refine hK.out _ _ ⟨((HB.out.cell (World.block_lt_of_cell? w _ aB)).trans aB),((HB.out.cell (World.block_lt_of_cell? w _ aC)).trans aC)⟩ (fun hHeld=>?_)
        clear hK K;refine Zj (a':=?_) ?_ ?_
        rotate_left
        ·show Act.put _ (some 25) _=_
         simp only [Act.put,List.setIfInBounds_toArray,List.set_cons_zero,List.set_cons_succ,Zc,Zb];rfl
        refine Xp (i:=9) (N:=some 26) (v:=?_) (a':=?_) #[true,true,true,true,true,true,true,true,true,true] rfl rfl (Zn aO.out (by kernel_rfl)) (fun _ _ _ h=>h) (Or.inl ⟨by rfl,?_⟩) ?_ ?_
        rotate_left
        · exact wr_
        rotate_left
        · exact ap_
        refine done_ (done_of aO.out (by kernel_rfl)) ?_
        try go_wp2
        go_ret
        exact ⟨rf_,bl_ HB⟩
      ·rw [if_neg c6] at H;exact absurd H (by simp)
     ·rw [if_neg c5] at H;exact absurd H (by simp)
    ·rw [if_neg c4] at H;have bE:=decide_eq_false c4;clear c4;obtain rfl:=Option.some.inj H;go_wp2
     go_ret
     exact ⟨rf_,bl_ HB⟩
 ·rw [if_neg c3] at H;have bB:=beq_eq_false_iff_ne.mpr c3;have bC:=bne_iff_ne.mpr c3
  have bD:(l0.length == l1.length)=false:=by first|simpa using c3|(simp at c3 ⊢;omega)
  obtain rfl:=Option.some.inj H
  go_enter Try.func11,Try.ntmps11
  go_wp2
  go_ret
  exact ⟨rf_,bl_ HB⟩
end Go.Proofs.Ytlhogkfmdnpmkaa.GWhole
