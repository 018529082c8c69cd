import Derived.Test.YtlhogkfmdnpmkaaGreatCFnExactMarksOf21
set_option linter.unusedVariables false
set_option linter.unusedSimpArgs false
set_option maxRecDepth 100000
namespace Go.Proofs.YtlhogkfmdnpmkaaGreat.GMarks
open RowKit YtlhogkfmdnpmkaaGreatW.PrintWords YtlhogkfmdnpmkaaGreatW.PrintLast YtlhogkfmdnpmkaaGreatW.PrintMore
attribute [local go_sem] Ua Ud Uu Ux Zo Zp Ub Ue
mutual
def Ya.l0:Nat→Int→Int→List (List Int)→List (S45)→Option ((List (List Int)) × (List (List Int)) × (List (S45)))
 |0,_,_,_,_=>none
 |k+1,x0,x4,aV,aW=>if x4<x0 then (if 0≤x0 then (if (x0:Int).toNat≤35184372088832 then (if aV.length<5864062014805 then (Ya.l0 k x0 (wrap64 (x4+1)) (aV ++ [(List.replicate (x0:Int).toNat 0)]) aW) else (none)) else (none)) else (none)) else (Ya.l1 k x0 0 aV ([]:List (List Int)) aW)
def Ya.l1:Nat→Int→Int→List (List Int)→List (List Int)→List (S45)→Option ((List (List Int)) × (List (List Int)) × (List (S45)))
 |0,_,_,_,_,_=>none
 |k+1,x0,x5,aV,aY,aW=>if x5<2 then (if 0≤x0 then (if (x0:Int).toNat≤35184372088832 then (if aY.length<5864062014805 then (Ya.l1 k x0 (wrap64 (x5+1)) aV (aY ++ [(List.replicate (x0:Int).toNat 0)]) aW) else (none)) else (none)) else (none)) else (some (aV,aY,aW))
end
def Ya.f (k:Nat) (a0:Int):Option ((List (List Int)) × (List (List Int)) × (List (S45))):=Ya.l0 k a0 0 ([]:List (List Int)) (([]:List (S45)))
def Ya.T5:Bool × List (List Nat × List Nat):=(true,[([],[]),([0],[0]),([],[]),([2,2],[2]),([3],[3]),([1,4],[1,4]),([0,1,2,3,4,5],[]),([6,5,5,0,1,2,3,4,5],[5,6])])
def Ya.B5:List Nat:=[0,1,0,4,12,31,63,127]
theorem Ya.tab5:rtab .any (opsOf Tryz.f32 5)=Ya.T5:=kr_
theorem Ya.bits5:waitsOk Ya.T5.2 Ya.B5=true:=kr_
def Ya.T9:Bool × List (List Nat × List Nat):=(true,[([],[]),([0],[0]),([],[]),([2,2],[2]),([3],[3]),([1,4],[1,4]),([0,1,2,3,4,5],[]),([6,5,5,0,1,2,3,4,5],[5,6])])
def Ya.B9:List Nat:=[0,1,0,4,12,31,63,127]
theorem Ya.tab9:rtab .any (opsOf Tryz.f32 9)=Ya.T9:=kr_
theorem Ya.bits9:waitsOk Ya.T9.2 Ya.B9=true:=kr_
set_option maxHeartbeats 8000000 in
theorem Ya.calls (k:Nat) (a0:Int) (r1:List (List Int)) (r2:List (List Int)) (r3:List (S45)) (w:World) (h:Ya.f k a0=some (r1,r2,r3)) :
  Calls Tryz.prog 32 #[.int .i64 a0] w fun e w'=>∃ eT eU eY:Value,e=.returned (.agg #[eT,eU,eY])∧Kd.S (Kd.slice 3 (Kd.int .i64)) 23 w' w.heap.size (fun k_=>some k_≠(eU:Value).ownBlock) eT r1∧Kd.S (Kd.slice 3 (Kd.int .i64)) 23 w' w.heap.size (fun k_=>some k_≠(eT:Value).ownBlock) eU r2∧Kd.S k45 45 w' w.heap.size (fun _=>True) eY r3∧Below w.heap.size w w':=by
 have hu59:=Tryz.underlying59;have HB:=Xa.mk (Below.refl w.heap.size w);have H:(Ya.l0 k a0 0 ([]:List (List Int)) (([]:List (S45))))=some (r1,r2,r3):=h;clear h;obtain ⟨aT,bX⟩:∃ y_:List (S45),y_=(([]:List (S45))):=⟨_,rfl⟩
 replace H:(Ya.l0 k a0 0 ([]:List (List Int)) aT)=some (r1,r2,r3):=by subst bX;exact hh_ H
 have dE:=Xa.mk bX;clear bX;have H':=Xa.mk H;clear H;go_enter Tryz.func32,Tryz.ntmps32;go_wp2_with (first|((with_reducible refine Yv (N:=2) rfl ?_);refine Zb ?hg (N:=2) ?hd (cs:=#[.slice none 0 0,.slice none 0 0,.slice none 0 0]) (t:=59) ?hr ?_;(case hd|hg=>rfl);(case hr=>exact hr_);intro aN hg w2 hbox hb;have aI:=Xa.mk (hbox);have GW190:=Xa.mk ((ge_ hg (Xj (bl_ HB)):w.heap.size≤aN));have GE190:=Xa.mk ((ge_ hg (Xj (bl_ HB)):w.heap.size≤aN));replace HB:=Xa.mk (Xi (bl_ HB) hb);clear hb hbox hg)|((with_reducible refine Yv (N:=6) rfl ?_);refine Kd.S_lit k45 _ 45 ?hg (N:=6) ?hd (xs:=([]:List (S45))) (inner:=[]) (ok:=fun _=>True) (okp:=fun _=>True) ?hr ?hp (fun _ hk=>hk) trivial (Below.refl _ _) (nr_ _) sm_ ?_;(case hd|hg=>rfl);(case hr=>exact hr_);(case hp=>exact (Reps.none _ _));intro v192 w3 eF hb eD bD;clear eD bD;(first|rw [← dE.out] at eF|(simp only [Int.reduceToNat] at eF;rw [← dE.out] at eF));have bG:=Xa.mk (Kd.S_lower eF (Xj (bl_ HB)));replace aI:=Xa.mk (Xm (g:=aN) (o:=.cells #[.slice none 0 0,.slice none 0 0,.slice none 0 0] 59 (0,0)) (ba_ aI) hb);replace HB:=Xa.mk (Xi (bl_ HB) hb);clear hb eF;obtain ⟨bB,bC,eZ⟩:=Kd.S_slice bG.out;subst eZ)|((with_reducible refine Yv (N:=3) rfl ?_);refine Zb ?hg (N:=3) ?hd (cs:=#[.slice none 0 0,.slice none 0 0,.slice none 0 0]) (t:=59) ?hr ?_;(case hd|hg=>rfl);(case hr=>exact hr_);intro aM hg w6 hbox hb;replace bG:=Xa.mk (Kd.S_below (Kd.sa_ (bG.out)) hb);have aC:=Xa.mk (hbox);have GW194:=Xa.mk ((ge_ hg (Xj (bl_ HB)):w.heap.size≤aM));have GE194:=Xa.mk ((ge_ hg (Xj (bl_ HB)):w.heap.size≤aM));replace HB:=Xa.mk (Xi (bl_ HB) hb);have aQ:=Xa.mk ((by rw [hg];exact Nat.ne_of_lt (Xq (g:=aN) (o:=.cells #[.slice none 0 0,.slice none 0 0,.slice none 0 0] 59 (0,0)) (ba_ aI)):aN≠aM));have aU:=Xa.mk ((by rw [hg];exact Nat.ne_of_gt (Xq (g:=aN) (o:=.cells #[.slice none 0 0,.slice none 0 0,.slice none 0 0] 59 (0,0)) (ba_ aI)):aM≠aN));replace aI:=Xa.mk (Xm (g:=aN) (o:=.cells #[.slice none 0 0,.slice none 0 0,.slice none 0 0] 59 (0,0)) (ba_ aI) hb);clear hb hbox hg;have hnb7:=aU.out;have hnc7:=aQ.out;obtain ⟨bR,bS,bT⟩:=bc3_ aC.out;obtain ⟨bU,bV,bW⟩:=bf3_ aC.out))
 go_loopg [4] k (fun kq v4 w'=>∃ (aZ:Int) (aG:List (List Int)) (aH:Value),v4=.int .i64 aZ∧Xa (Ya.l0 kq a0 aZ aG aT=some (r1,r2,r3))∧Xa (kq≤k)∧Xa (Kd.S (Kd.slice 3 (Kd.int .i64)) 23 w' w.heap.size (fun _=>True) aH aG)∧Xa (Kd.S k45 45 w' w.heap.size (fun _=>True) (.slice bB aT.length bC) aT)∧Xa (w'.heap[aN]?=some (.cells #[(.slice none 0 0),(.slice none 0 0),(.slice none 0 0)] 59 (0,0)))∧Xa (w'.heap[aM]?=some (.cells #[aH,(.slice none 0 0),(.slice bB aT.length bC)] 59 (0,0)))∧Xa (Below w.heap.size w w'))
 case atStart=>exact ⟨(0),(([]:List (List Int))),(.slice none 0 0),rg_,H',⟨nr_ _⟩,⟨by first|exact Kd.S_nil _ _ _ _ _|exact Kd.N_nil _ _ _ _ _|exact Kd.V_nil _ _ _ _ _|exact Kd.Q_nil _ _ _ _ _|exact Kd.R_nil _ _ _ _ _⟩,⟨Kd.sa_ (Kd.S_mono (Kd.S_far (p:=⟨aM,2,none⟩) (Kd.S_far (p:=⟨aM,1,none⟩) (Kd.S_far (p:=⟨aM,0,none⟩) (Kd.S_types bG.out aC.out de_) (fun _ hk=>hk.2) (.slice none 0 0)) (fun _ hk=>hk.2) (.slice none 0 0)) (fun _ hk=>hk.2) (.slice bB aT.length bC)) (fun _ hk=>trivial))⟩,⟨by (with_reducible repeat (first|refine Xx ?_ _|refine Xr ?_|refine Xl ?_ _));refine Yr ?_ aQ.out _;(with_reducible repeat (first|refine Xx ?_ _|refine Xr ?_|refine Xl ?_ _));refine Yr ?_ aQ.out _;(with_reducible repeat (first|refine Xx ?_ _|refine Xr ?_|refine Xl ?_ _));refine Yr ?_ aQ.out _;(with_reducible repeat (first|refine Xx ?_ _|refine Xr ?_|refine Xl ?_ _));exact aI.out⟩,⟨by refine bb_ (Xn (cs:=#[.slice none 0 0,.slice none 0 0,.slice none 0 0]) ?_ 2 _ rfl);refine bb_ (Xn (cs:=#[.slice none 0 0,.slice none 0 0,.slice none 0 0]) ?_ 1 _ rfl);refine bb_ (Xn (cs:=#[.slice none 0 0,.slice none 0 0,.slice none 0 0]) ?_ 0 _ rfl);(with_reducible repeat (first|refine Xx ?_ _|refine Xr ?_|refine Xl ?_ _));exact aC.out⟩,⟨bl_ HB⟩⟩
 case round=>
  clear H'
  try clear bR
  try clear bS
  try clear bT
  try clear bU
  try clear bV
  try clear bW
  obtain ⟨aZ,aG,aH,rfl,HA,eG,aA,aD,aI,aC,HB⟩:=hrel
  cases gk with
  |zero=>exact absurd HA.out (by simp [Ya.l0])
  |succ k1=>
   have H:=HA.out;clear HA;simp only [Ya.l0] at H;by_cases c9:aZ<a0
   ·rw [if_pos c9] at H;have dW:decide (aZ<a0)=true:=dt_ c9;clear c9;by_cases c10:0≤a0
    ·rw [if_pos c10] at H;have c10b0:=eq_true c10;have c10b1:decide (0≤a0)=true:=dt_ c10;clear c10;by_cases c11:(a0:Int).toNat≤35184372088832
     ·rw [if_pos c11] at H;have c11b0:=eq_true c11;have c11b1:decide ((a0:Int).toNat≤35184372088832)=true:=dt_ c11;clear c11;obtain ⟨cO,bY⟩:∃ y_:List Int,y_=(List.replicate (a0:Int).toNat 0):=⟨_,rfl⟩
      replace H:(if aG.length<5864062014805 then (Ya.l0 k1 a0 (wrap64 (aZ+1)) (aG ++ [cO]) aT) else (none))=some (r1,r2,r3):=by subst bY;exact hh_ H
      have dF:=Xa.mk bY;clear bY;by_cases c12:aG.length<5864062014805
      ·rw [if_pos c12] at H;have dP:=Xa.mk c12;clear c12;obtain ⟨cZ,bZ⟩:∃ y_:List (List Int),y_=(aG ++ [cO]):=⟨_,rfl⟩
       replace H:(Ya.l0 k1 a0 (wrap64 (aZ+1)) cZ aT)=some (r1,r2,r3):=by subst bZ;exact hh_ H
       have dR:=Xa.mk bZ;clear bZ;have H':=Xa.mk H;clear H
       try go_wp2
       replace aA:=Xa.mk (Kd.S_drew aA.out);replace aD:=Xa.mk (Kd.S_drew aD.out);replace aI:=Xa.mk (Xr aI.out);replace aC:=Xa.mk (Xr aC.out);replace HB:=Xa.mk (below_drew1 HB.out);refine Ul (n:=8) (S:=fun w'=>w'.cell? ⟨aM,0,none⟩=some (aH)∧w'.cell? ⟨aM,1,none⟩=some (.slice none 0 0)∧w'.cell? ⟨aM,2,none⟩=some (.slice bB aT.length bC)) (ds:=[7]) #[false,false,false,false,false,false,false,false] kr_ rfl rfl ⟨(Xd aC.out 0).trans rfl,(Xd aC.out 1).trans rfl,(Xd aC.out 2).trans rfl⟩ (fun hHeld=>?_);refine with_tabW Ya.tab5 Ya.bits5 (fun aX eH=>?_);generalize wr.drew=w13 at aA aD aI aC HB hHeld ⊢;refine Zv (i:=0) (N:=some 13) (v:=?_) (a':=?_) #[true,false,false,false,false,false,false,false] rfl rfl (Zf aX.out kr_) (fun _ _ _ h=>h) (Or.inl ⟨rl1_,?_⟩) ?_ ?_;rotate_left
       · exact wr_
       rotate_left
       · exact ap_
       refine Zv (i:=2) (N:=some 15) (v:=?_) (a':=?_) #[true,false,true,false,false,false,false,false] rfl rfl (Zf aX.out kr_) (fun _ _ _ h=>h) (Or.inl ⟨rl1_,?_⟩) ?_ ?_;rotate_left
       · exact wr_
       rotate_left
       · exact ap_
       refine take_ (i:=1) (N:=some 14) (v:=?_) (a':=?_) #[true,true,true,false,false,false,false,false] rfl rfl (take_ofW aX.out eH.out kr_) (fun _ _ _ h=>h) (Or.inl ⟨rl1_,?_⟩) hHeld ?_ ?_;rotate_left
       ·rintro w' ⟨s0,s1,s2⟩;go_simp
        with_reducible rfl
       rotate_left
       · exact ap_
       refine one_ (i:=3) (N:=some 16) #[true,true,true,true,false,false,false,false] rfl rfl (one_of aX.out kr_) de_ (fun K hK=>?_);refine Kd.R_make_step (Kd.int .i64) _ 3 rl1_ (N:=16) rfl 23 _ _ rfl a0 rfl rfl Tryz.underlying23 (.int .i64 0) 8 info3 rfl de_ om_ 0 (ok:=fun _=>True) (okp:=fun _=>True) rfl (fun _ hk=>hk) trivial (od_ as_) (nt_ (Nat.mul_le_mul_right _ (od_ as_:a0.toNat≤35184372088832)) om_) (Below.refl _ _) (nr_ _) ?_;intro v196 w14 bF hb eD bD;clear eD bD
       (first|rw [← dF.out] at bF|(simp only [Int.reduceToNat] at bF;rw [← dF.out] at bF))
       replace aA:=Xa.mk (Kd.S_elder' (Kd.sa_ (aA.out)) (Kd.R_base bF) hb);replace aD:=Xa.mk (Kd.S_elder' (Kd.sa_ (aD.out)) (Kd.R_base bF) hb);have bH:=Xa.mk (Kd.R_lower bF (Xj (bl_ HB)));replace aI:=Xa.mk (Xm (g:=aN) (o:=.cells #[.slice none 0 0,.slice none 0 0,.slice none 0 0] 59 (0,0)) (ba_ aI) hb);replace aC:=Xa.mk (Xm (g:=aM) (o:=.cells #[aH,.slice none 0 0,.slice bB aT.length bC] 59 (0,0)) (ba_ aC) hb);replace HB:=Xa.mk (Xi (bl_ HB) hb);clear hb bF;obtain ⟨dO,dX,dY⟩:=Kd.Zq bH.out
       (first|subst dY|(injection dY with bP dL bQ;have dM:=bP.symm;have dN:=bQ.symm;clear bP dL bQ;subst dM;subst dN))
       refine hK.out _ _ ⟨(Xd aC.out 0).trans rfl,(Xd aC.out 1).trans rfl,(Xd aC.out 2).trans rfl⟩ (fun hHeld=>?_);clear hK K;refine no_ ?_;refine one_ (i:=4) (N:=some 17) #[true,true,true,true,true,false,false,false] rfl rfl (one_of aX.out kr_) de_ (fun K hK=>?_);refine value_ (w1:=?_) (v:=?_) rl1_ rfl ?_ ?_;rotate_left 2
       ·go_simp
        constructor
        ·rfl
        ·rfl
       refine hK.out _ _ ⟨(Xd (Xl aC.out _) 0).trans rfl,(Xd (Xl aC.out _) 1).trans rfl,(Xd (Xl aC.out _) 2).trans rfl⟩ (fun hHeld=>?_);clear hK K;refine no_ ?_;refine one_ (i:=5) (N:=some 18) #[true,true,true,true,true,true,false,false] rfl rfl (one_of aX.out kr_) de_ (fun K hK=>?_);refine Kd.S_append_step (Kd.slice 3 (Kd.int .i64)) (w0:=w) w.heap.size rl1_ (.tmp 14) (.tmp 17) 53 23 (.slice none 0 0) 24 rfl Tryz.underlying53 info23 rfl de_ om_ aH aG cO [.slice dO cO.length dX] (fun _=>True) (fun k_=>some k_=(.slice dO cO.length dX:Value).ownBlock) rfl rfl ?aP (fun k_ eQ=>((Kd.Zc (ok':=fun k_=>((fun _=>True)) k_∧some k_≠(aH:Value).ownBlock) (Kd.R_apart' (bH.out) (Kd.S_typed aA.out) de_) (fun k_ hk=>⟨trivial,hk.2⟩))).1 k_ eQ.symm) ?aF ?aO ?aB ?aS ?aL ?_
       (case aP=>exact Kd.M_row (Kd.Zc (Kd.R_tight rfl (Kd.Zc (ok':=fun k_=>((fun _=>True)) k_∧some k_≠(aH:Value).ownBlock) (Kd.R_apart' (bH.out) (Kd.S_typed aA.out) de_) (fun k_ hk=>⟨trivial,hk.2⟩))) (fun _ h_=>h_)))
       (case aB=>exact (bl_ HB))
       (case aF=>exact (fun _ _=>trivial))
       (case aO=>exact (Kd.sa_ (Kd.S_mono aA.out (fun k_ hk=>⟨trivial,fun e_=>hk.2 e_⟩))))
       (case aS=>exact (Xj (bl_ HB)))
       (case aL=>have:=dP.out;omega)
       intro v199 w16 ho hb hg hat;rw [← dR.out] at ho;replace aD:=Xa.mk (Kd.S_over' (Kd.sa_ (aD.out)) (Kd.S_typed (Kd.sa_ (aA.out))) de_ hg);replace aI:=Xa.mk (blk_grown (g:=aN) (o:=.cells #[.slice none 0 0,.slice none 0 0,.slice none 0 0] 59 (0,0)) (ba_ aI) hg (Kd.S_ne aA.out aI.out de_));replace aC:=Xa.mk (blk_grown (g:=aM) (o:=.cells #[aH,.slice none 0 0,.slice bB aT.length bC] 59 (0,0)) (ba_ aC) hg (Kd.S_ne aA.out aC.out de_));replace HB:=Xa.mk (hb);have dC:=Xa.mk (ho);clear aA bH ho hb hg hat;obtain ⟨dH,dJ,dZ⟩:=Kd.S_slice dC.out
       (first|subst dZ|(injection dZ with bP dL bQ;have dM:=bP.symm;have dN:=bQ.symm;clear bP dL bQ;subst dM;subst dN))
       refine hK.out _ _ ⟨(Xd aC.out 0).trans rfl,(Xd aC.out 1).trans rfl,(Xd aC.out 2).trans rfl⟩ (fun hHeld=>?_);clear hK K;refine no_ ?_;refine Zv (i:=6) (N:=some 19) (v:=?_) (a':=?_) #[true,true,true,true,true,true,true,false] rfl rfl (Zf aX.out kr_) (fun _ _ _ h=>h) (Or.inl ⟨rl1_,?_⟩) ?_ ?_;rotate_left
       · exact wr_
       rotate_left
       · exact ap_
       refine last_ (i:=7) (N:=none) #[true,true,true,true,true,true,true,true] rfl rfl (one_of aX.out kr_) de_ (fun K hK=>?_);have hs19:w16.cell? ⟨aM,0,none⟩=some (aH):=(Xd aC.out 0).trans rfl;have hfs19:=Xc aC.out 0;have hns19_0:=aQ.out;have hms19_0:=aU.out;refine skip_ (w1:=?_) rl1_ rfl ?_ ?_;rotate_left
       ·go_simp
        rfl
       refine hK.out _ _ ?_;clear hK K;refine Uz (done_of aX.out kr_) ?_
       try go_wp2
       go_roundg k1
       case measure=>have:=eG.out;omega
       case rel=>exact ⟨(wrap64 (aZ+1)),(cZ),(.slice dH cZ.length dJ),rg_,H',⟨by have:=eG.out;omega⟩,⟨Kd.sa_ (Kd.S_mono (Kd.S_far (p:=⟨aM,0,none⟩) (Kd.S_types dC.out aC.out de_) (fun _ hk=>hk.2) (.slice dH cZ.length dJ)) (fun _ hk=>trivial))⟩,⟨Kd.sa_ (Kd.S_mono (Kd.S_far (p:=⟨aM,0,none⟩) (Kd.S_types aD.out aC.out de_) (fun _ hk=>hk.2) (.slice dH cZ.length dJ)) (fun _ hk=>trivial))⟩,⟨by (with_reducible repeat (first|refine Xx ?_ _|refine Xr ?_|refine Xl ?_ _));refine Yr ?_ aQ.out _;(with_reducible repeat (first|refine Xx ?_ _|refine Xr ?_|refine Xl ?_ _));exact aI.out⟩,⟨by refine bb_ (Xn (cs:=#[aH,.slice none 0 0,.slice bB aT.length bC]) ?_ 0 _ rfl);(with_reducible repeat (first|refine Xx ?_ _|refine Xr ?_|refine Xl ?_ _));exact aC.out⟩,⟨bl_ HB⟩⟩
      ·rw [if_neg c12] at H;exact absurd H sm_
     ·rw [if_neg c11] at H;exact absurd H sm_
    ·rw [if_neg c10] at H;exact absurd H sm_
   ·rw [if_neg c9] at H;have dW:decide (aZ<a0)=false:=df_ c9;clear c9;have H':=Xa.mk H;clear H;go_wp2
    go_loopg [5] k1 (fun kq v5 w'=>∃ (bA:Int) (aK:List (List Int)) (aR:Value),v5=.int .i64 bA∧Xa (Ya.l1 kq a0 bA aG aK aT=some (r1,r2,r3))∧Xa (kq≤k1)∧Xa (Kd.S (Kd.slice 3 (Kd.int .i64)) 23 w' w.heap.size (fun k_=>some k_≠(aR:Value).ownBlock) aH aG)∧Xa (Kd.S (Kd.slice 3 (Kd.int .i64)) 23 w' w.heap.size (fun k_=>some k_≠(aH:Value).ownBlock) aR aK)∧Xa (Kd.S k45 45 w' w.heap.size (fun _=>True) (.slice bB aT.length bC) aT)∧Xa (w'.heap[aN]?=some (.cells #[(.slice none 0 0),(.slice none 0 0),(.slice none 0 0)] 59 (0,0)))∧Xa (w'.heap[aM]?=some (.cells #[aH,aR,(.slice bB aT.length bC)] 59 (0,0)))∧Xa (Below w.heap.size w w'))
    case atStart=>exact ⟨(0),(([]:List (List Int))),(.slice none 0 0),rg_,H',⟨nr_ _⟩,⟨Kd.sa_ (Kd.S_mono aA.out (fun _ hk=>(by simp [Value.ownBlock])))⟩,⟨by first|exact Kd.S_nil _ _ _ _ _|exact Kd.N_nil _ _ _ _ _|exact Kd.V_nil _ _ _ _ _|exact Kd.Q_nil _ _ _ _ _|exact Kd.R_nil _ _ _ _ _⟩,⟨Kd.sa_ (aD.out)⟩,⟨ba_ aI⟩,⟨ba_ aC⟩,⟨bl_ HB⟩⟩
    case round=>
     clear H'
     try clear c9
     try clear dW
     try clear bR
     try clear bS
     try clear bT
     try clear bU
     try clear bV
     try clear bW
     obtain ⟨bA,aK,aR,rfl,HA,eX,aA,aJ,aD,aI,aC,HB⟩:=hrel
     cases gk with
     |zero=>exact absurd HA.out (by simp [Ya.l1])
     |succ k2=>
      have H:=HA.out;clear HA;simp only [Ya.l1] at H;by_cases c20:bA<2
      ·rw [if_pos c20] at H;have dU:decide (bA<2)=true:=dt_ c20;clear c20;by_cases c21:0≤a0
       ·rw [if_pos c21] at H;have c21b0:=eq_true c21;have c21b1:decide (0≤a0)=true:=dt_ c21;clear c21;by_cases dV:(a0:Int).toNat≤35184372088832
        ·rw [if_pos dV] at H;have c22b0:=eq_true dV;have c22b1:decide ((a0:Int).toNat≤35184372088832)=true:=dt_ dV;clear dV;obtain ⟨bL,cB⟩:∃ y_:List Int,y_=(List.replicate (a0:Int).toNat 0):=⟨_,rfl⟩
         replace H:(if aK.length<5864062014805 then (Ya.l1 k2 a0 (wrap64 (bA+1)) aG (aK ++ [bL]) aT) else (none))=some (r1,r2,r3):=by subst cB;exact hh_ H
         have dG:=Xa.mk cB;clear cB;by_cases c23:aK.length<5864062014805
         ·rw [if_pos c23] at H;have dQ:=Xa.mk c23;clear c23;obtain ⟨bM,cK⟩:∃ y_:List (List Int),y_=(aK ++ [bL]):=⟨_,rfl⟩
          replace H:(Ya.l1 k2 a0 (wrap64 (bA+1)) aG bM aT)=some (r1,r2,r3):=by subst cK;exact hh_ H
          have dS:=Xa.mk cK;clear cK;have H':=Xa.mk H;clear H
          try go_wp2
          replace aA:=Xa.mk (Kd.S_drew aA.out);replace aJ:=Xa.mk (Kd.S_drew aJ.out);replace aD:=Xa.mk (Kd.S_drew aD.out);replace aI:=Xa.mk (Xr aI.out);replace aC:=Xa.mk (Xr aC.out);replace HB:=Xa.mk (below_drew1 HB.out);refine Ul (n:=8) (S:=fun w'=>w'.cell? ⟨aM,0,none⟩=some (aH)∧w'.cell? ⟨aM,1,none⟩=some (aR)∧w'.cell? ⟨aM,2,none⟩=some (.slice bB aT.length bC)) (ds:=[7]) #[false,false,false,false,false,false,false,false] kr_ rfl rfl ⟨(Xd aC.out 0).trans rfl,(Xd aC.out 1).trans rfl,(Xd aC.out 2).trans rfl⟩ (fun hHeld=>?_);refine with_tabW Ya.tab9 Ya.bits9 (fun aX eH=>?_);generalize wr.drew=w24 at aA aJ aD aI aC HB hHeld ⊢;refine Zv (i:=0) (N:=some 24) (v:=?_) (a':=?_) #[true,false,false,false,false,false,false,false] rfl rfl (Zf aX.out kr_) (fun _ _ _ h=>h) (Or.inl ⟨rl1_,?_⟩) ?_ ?_;rotate_left
          · exact wr_
          rotate_left
          · exact ap_
          refine Zv (i:=2) (N:=some 26) (v:=?_) (a':=?_) #[true,false,true,false,false,false,false,false] rfl rfl (Zf aX.out kr_) (fun _ _ _ h=>h) (Or.inl ⟨rl1_,?_⟩) ?_ ?_;rotate_left
          · exact wr_
          rotate_left
          · exact ap_
          refine take_ (i:=1) (N:=some 25) (v:=?_) (a':=?_) #[true,true,true,false,false,false,false,false] rfl rfl (take_ofW aX.out eH.out kr_) (fun _ _ _ h=>h) (Or.inl ⟨rl1_,?_⟩) hHeld ?_ ?_;rotate_left
          ·rintro w' ⟨s0,s1,s2⟩;go_simp
           with_reducible rfl
          rotate_left
          · exact ap_
          refine one_ (i:=3) (N:=some 27) #[true,true,true,true,false,false,false,false] rfl rfl (one_of aX.out kr_) de_ (fun K hK=>?_);refine Kd.R_make_step (Kd.int .i64) _ 3 rl1_ (N:=27) rfl 23 _ _ rfl a0 rfl rfl Tryz.underlying23 (.int .i64 0) 8 info3 rfl de_ om_ 0 (ok:=fun _=>True) (okp:=fun _=>True) rfl (fun _ hk=>hk) trivial (od_ as_) (nt_ (Nat.mul_le_mul_right _ (od_ as_:a0.toNat≤35184372088832)) om_) (Below.refl _ _) (nr_ _) ?_;intro v202 w25 bE hb eD bD;clear eD bD
          (first|rw [← dG.out] at bE|(simp only [Int.reduceToNat] at bE;rw [← dG.out] at bE))
          replace aA:=Xa.mk (Kd.S_elder' (Kd.sa_ (aA.out)) (Kd.R_base bE) hb);replace aJ:=Xa.mk (Kd.S_elder' (Kd.sa_ (aJ.out)) (Kd.R_base bE) hb);replace aD:=Xa.mk (Kd.S_elder' (Kd.sa_ (aD.out)) (Kd.R_base bE) hb);have bI:=Xa.mk (Kd.R_lower bE (Xj (bl_ HB)));replace aI:=Xa.mk (Xm (g:=aN) (o:=.cells #[.slice none 0 0,.slice none 0 0,.slice none 0 0] 59 (0,0)) (ba_ aI) hb);replace aC:=Xa.mk (Xm (g:=aM) (o:=.cells #[aH,aR,.slice bB aT.length bC] 59 (0,0)) (ba_ aC) hb);replace HB:=Xa.mk (Xi (bl_ HB) hb);clear hb bE;obtain ⟨dI,dK,d9⟩:=Kd.Zq bI.out
          (first|subst d9|(injection d9 with bP dL bQ;have dM:=bP.symm;have dN:=bQ.symm;clear bP dL bQ;subst dM;subst dN))
          refine hK.out _ _ ⟨(Xd aC.out 0).trans rfl,(Xd aC.out 1).trans rfl,(Xd aC.out 2).trans rfl⟩ (fun hHeld=>?_);clear hK K;refine no_ ?_;refine one_ (i:=4) (N:=some 28) #[true,true,true,true,true,false,false,false] rfl rfl (one_of aX.out kr_) de_ (fun K hK=>?_);refine value_ (w1:=?_) (v:=?_) rl1_ rfl ?_ ?_;rotate_left 2
          ·go_simp
           constructor
           ·rfl
           ·rfl
          refine hK.out _ _ ⟨(Xd (Xl aC.out _) 0).trans rfl,(Xd (Xl aC.out _) 1).trans rfl,(Xd (Xl aC.out _) 2).trans rfl⟩ (fun hHeld=>?_);clear hK K;refine no_ ?_;refine one_ (i:=5) (N:=some 29) #[true,true,true,true,true,true,false,false] rfl rfl (one_of aX.out kr_) de_ (fun K hK=>?_);refine Kd.S_append_step (Kd.slice 3 (Kd.int .i64)) (w0:=w) w.heap.size rl1_ (.tmp 25) (.tmp 28) 53 23 (.slice none 0 0) 24 rfl Tryz.underlying53 info23 rfl de_ om_ aR aK bL [.slice dI bL.length dK] (fun k_=>some k_≠(aH:Value).ownBlock) (fun k_=>some k_=(.slice dI bL.length dK:Value).ownBlock) rfl rfl ?aP (fun k_ eQ=>((Kd.Zc (ok':=fun k_=>((fun k_=>some k_≠(aH:Value).ownBlock)) k_∧some k_≠(aR:Value).ownBlock) (Kd.R_apart' (Kd.R_apart' (bI.out) (Kd.S_typed aA.out) de_) (Kd.S_typed aJ.out) de_) (fun k_ hk=>⟨hk.1.2,hk.2⟩))).1 k_ eQ.symm) ?aF ?aO ?aB ?aS ?aL ?_
          (case aP=>exact Kd.M_row (Kd.Zc (Kd.R_tight rfl (Kd.Zc (ok':=fun k_=>((fun k_=>some k_≠(aH:Value).ownBlock)) k_∧some k_≠(aR:Value).ownBlock) (Kd.R_apart' (Kd.R_apart' (bI.out) (Kd.S_typed aA.out) de_) (Kd.S_typed aJ.out) de_) (fun k_ hk=>⟨hk.1.2,hk.2⟩))) (fun _ h_=>h_)))
          (case aB=>exact (bl_ HB))
          (case aF=>exact (fun k_ hk=>Kd.fresh' (Kd.S_lt (Kd.sa_ (aA.out))) k_ hk))
          (case aO=>exact (Kd.sa_ (Kd.S_mono aJ.out (fun k_ hk=>⟨hk.1,fun e_=>hk.2 e_⟩))))
          (case aS=>exact (Xj (bl_ HB)))
          (case aL=>have:=dQ.out;omega)
          intro v205 fA ho hb hg hat;rw [← dS.out] at ho;replace aA:=Xa.mk (Kd.S_after (ok:=(fun k_=>some k_≠(.slice dI bL.length dK:Value).ownBlock)) (Kd.sa_ (Kd.S_mono aA.out (fun _ hk=>⟨hk.2,hk.1⟩))) hg hat);replace aD:=Xa.mk (Kd.S_over' (Kd.sa_ (aD.out)) (Kd.S_typed (Kd.sa_ (aJ.out))) de_ hg);replace aI:=Xa.mk (blk_grown (g:=aN) (o:=.cells #[.slice none 0 0,.slice none 0 0,.slice none 0 0] 59 (0,0)) (ba_ aI) hg (Kd.S_ne aJ.out aI.out de_));replace aC:=Xa.mk (blk_grown (g:=aM) (o:=.cells #[aH,aR,.slice bB aT.length bC] 59 (0,0)) (ba_ aC) hg (Kd.S_ne aJ.out aC.out de_));replace HB:=Xa.mk (hb);have dD:=Xa.mk (ho);clear aJ bI ho hb hg hat;obtain ⟨dA,dB,eB⟩:=Kd.S_slice dD.out
          (first|subst eB|(injection eB with bP dL bQ;have dM:=bP.symm;have dN:=bQ.symm;clear bP dL bQ;subst dM;subst dN))
          refine hK.out _ _ ⟨(Xd aC.out 0).trans rfl,(Xd aC.out 1).trans rfl,(Xd aC.out 2).trans rfl⟩ (fun hHeld=>?_);clear hK K;refine no_ ?_;refine Zv (i:=6) (N:=some 30) (v:=?_) (a':=?_) #[true,true,true,true,true,true,true,false] rfl rfl (Zf aX.out kr_) (fun _ _ _ h=>h) (Or.inl ⟨rl1_,?_⟩) ?_ ?_;rotate_left
          · exact wr_
          rotate_left
          · exact ap_
          refine last_ (i:=7) (N:=none) #[true,true,true,true,true,true,true,true] rfl rfl (one_of aX.out kr_) de_ (fun K hK=>?_);have hs30:fA.cell? ⟨aM,1,none⟩=some (aR):=(Xd aC.out 1).trans rfl;have hfs30:=Xc aC.out 1;have hns30_0:=aQ.out;have hms30_0:=aU.out;refine skip_ (w1:=?_) rl1_ rfl ?_ ?_;rotate_left
          ·go_simp
           rfl
          refine hK.out _ _ ?_;clear hK K;refine Uz (done_of aX.out kr_) ?_
          try go_wp2
          go_roundg k2
          case measure=>have:=eG.out;have:=eX.out;omega
          case rel=>exact ⟨(wrap64 (bA+1)),(bM),(.slice dA bM.length dB),rg_,H',⟨by have:=eG.out;have:=eX.out;omega⟩,⟨Kd.sa_ (Kd.S_mono (Kd.S_far (p:=⟨aM,1,none⟩) (Kd.S_types aA.out aC.out de_) (fun _ hk=>hk.2) (.slice dA bM.length dB)) (fun _ hk=>hk.1.2))⟩,⟨Kd.sa_ (Kd.S_mono (Kd.S_far (p:=⟨aM,1,none⟩) (Kd.S_types dD.out aC.out de_) (fun _ hk=>hk.2) (.slice dA bM.length dB)) (fun _ hk=>hk.1))⟩,⟨Kd.sa_ (Kd.S_mono (Kd.S_far (p:=⟨aM,1,none⟩) (Kd.S_types aD.out aC.out de_) (fun _ hk=>hk.2) (.slice dA bM.length dB)) (fun _ hk=>trivial))⟩,⟨by (with_reducible repeat (first|refine Xx ?_ _|refine Xr ?_|refine Xl ?_ _));refine Yr ?_ aQ.out _;(with_reducible repeat (first|refine Xx ?_ _|refine Xr ?_|refine Xl ?_ _));exact aI.out⟩,⟨by refine bb_ (Xn (cs:=#[aH,aR,.slice bB aT.length bC]) ?_ 1 _ rfl);(with_reducible repeat (first|refine Xx ?_ _|refine Xr ?_|refine Xl ?_ _));exact aC.out⟩,⟨bl_ HB⟩⟩
         ·rw [if_neg c23] at H;exact absurd H sm_
        ·rw [if_neg dV] at H;exact absurd H sm_
       ·rw [if_neg c21] at H;exact absurd H sm_
      ·rw [if_neg c20] at H;have dU:decide (bA<2)=false:=df_ c20;clear c20;simp only [Option.some.injEq,Prod.mk.injEq] at H;obtain ⟨rfl,rfl,rfl⟩:=H;have hnb31:=aU.out;have hnc31:=aQ.out;obtain ⟨_,_,_⟩:=bc3_ aC.out;obtain ⟨_,_,_⟩:=bf3_ aC.out;obtain ⟨bJ,bK,eO⟩:=Kd.S_slice aA.out;subst eO;obtain ⟨_,_,_⟩:=bc3_ aI.out;obtain ⟨_,_,_⟩:=bf3_ aI.out;obtain ⟨bN,bO,eP⟩:=Kd.S_slice aJ.out;subst eP;go_wp2;refine bodyPost_ret (results_cell_row rfl _ _ aN 59 #[.slice bJ aG.length bK,.slice bN aK.length bO,.slice bB aT.length bC] (0,0) _ rfl (by refine bb_ (Xn (cs:=#[.slice bJ aG.length bK,.slice bN aK.length bO,.slice none 0 0]) ?_ 2 _ rfl);refine bb_ (Xn (cs:=#[.slice bJ aG.length bK,.slice none 0 0,.slice none 0 0]) ?_ 1 _ rfl);refine bb_ (Xn (cs:=#[.slice none 0 0,.slice none 0 0,.slice none 0 0]) ?_ 0 _ rfl);(with_reducible repeat (first|refine Xx ?_ _|refine Xr ?_|refine Xl ?_ _));exact aI.out) Tryz.underlying59 rfl kr_) rfl ?_;exact ⟨_,_,_,rf_,Kd.sa_ (Kd.S_mono (Kd.S_far (p:=⟨aN,2,none⟩) (Kd.S_far (p:=⟨aN,1,none⟩) (Kd.S_far (p:=⟨aN,0,none⟩) (Kd.S_types aA.out aI.out de_) (fun _ hk=>hk.2) (.slice bJ aG.length bK)) (fun _ hk=>hk.2) (.slice bN aK.length bO)) (fun _ hk=>hk.2) (.slice bB aT.length bC)) (fun _ hk=>hk.1)),Kd.sa_ (Kd.S_mono (Kd.S_far (p:=⟨aN,2,none⟩) (Kd.S_far (p:=⟨aN,1,none⟩) (Kd.S_far (p:=⟨aN,0,none⟩) (Kd.S_types aJ.out aI.out de_) (fun _ hk=>hk.2) (.slice bJ aG.length bK)) (fun _ hk=>hk.2) (.slice bN aK.length bO)) (fun _ hk=>hk.2) (.slice bB aT.length bC)) (fun _ hk=>hk.1)),Kd.sa_ (Kd.S_mono (Kd.S_far (p:=⟨aN,2,none⟩) (Kd.S_far (p:=⟨aN,1,none⟩) (Kd.S_far (p:=⟨aN,0,none⟩) (Kd.S_types aD.out aI.out de_) (fun _ hk=>hk.2) (.slice bJ aG.length bK)) (fun _ hk=>hk.2) (.slice bN aK.length bO)) (fun _ hk=>hk.2) (.slice bB aT.length bC)) (fun _ hk=>trivial)),bl_ HB⟩
end Go.Proofs.YtlhogkfmdnpmkaaGreat.GMarks
