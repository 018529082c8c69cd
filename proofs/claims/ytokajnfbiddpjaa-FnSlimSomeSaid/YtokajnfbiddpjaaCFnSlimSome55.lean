import Derived.Test.YtokajnfbiddpjaaCFnSlimSome21
import Derived.Test.YtokajnfbiddpjaaCFnSlimSome54
set_option maxRecDepth 100000
namespace Go.Proofs.Ytokajnfbiddpjaa.GSlim
open Go.RowKit Go.Proofs.YtokajnfbiddpjaaW.PrintWords Go.Proofs.YtokajnfbiddpjaaW.PrintLast Go.Proofs.YtokajnfbiddpjaaW.PrintMore
attribute [local go_sem] Zx Zz Ul Um Zl Zm Zy Ua
set_option linter.unusedVariables false
set_option linter.unusedSimpArgs false
mutual
def Xp.l0:Nat→List (S31)→List Int→Int→Option (List Int × Bool)
 |0,_,_,_=>none
 |k+1,x0,x4,x5=>if x5<(x0.length:Int) then (if x4.length<17592186044416 then (Xp.l0 k x0 (x4 ++ [(-1)]) (wrap64 (x5+1))) else (none)) else (if 0<(x4.length:Int) then (Xp.l1 k x0 (x4.set (0:Int).toNat 0) (([0]:List Int)) 0) else (none))
def Xp.l1:Nat→List (S31)→List Int→List Int→Int→Option (List Int × Bool)
 |0,_,_,_,_=>none
 |k+1,x0,x4,x6,x7=>if x7<(x6.length:Int) then (if 0≤x7 then (if 0≤(rd x6 x7) then (if (rd x6 x7)<(x0.length:Int) then (if (rd x6 x7)<(x4.length:Int) then ((spec_l4Held.f ((Xb x0 (rd x6 x7)).f0) ((Xb x0 (rd x6 x7)).f1) ((Xb x0 (rd x6 x7)).f2) ((Xb x0 (rd x6 x7)).f3) (rd x4 (rd x6 x7))).bind fun fE=>(if fE.2=true then ((spec_l4Next.f x0 (rd x6 x7)).bind fun aC=>(Xp.l2 k x0 x4 x6 x7 fE.1 aC 0)) else (some (x4,false)))) else (none)) else (none)) else (none)) else (none)) else (some (x4,true))
def Xp.l2:Nat→List (S31)→List Int→List Int→Int→Int→List Int→Int→Option (List Int × Bool)
 |0,_,_,_,_,_,_,_=>none
 |k+1,x0,x4,x6,x7,x9,eG,eF=>if eF<(eG.length:Int) then (if 0≤eF then (if 0≤(rd eG eF) then (if (rd eG eF)<(x4.length:Int) then (if (rd x4 (rd eG eF))<0 then ((some (x4.set ((rd eG eF):Int).toNat x9:List Int)).bind fun bI=>(if x6.length<17592186044416 then (if (rd bI (rd eG eF))=x9 then (Xp.l2 k x0 bI (x6 ++ [rd eG eF]) x7 x9 eG (wrap64 (eF+1))) else (some (bI,false))) else (none))) else (if (rd x4 (rd eG eF))=x9 then (Xp.l2 k x0 x4 x6 x7 x9 eG (wrap64 (eF+1))) else (some (x4,false)))) else (none)) else (none)) else (none)) else (Xp.l1 k x0 x4 x6 (wrap64 (x7+1)))
end
def Xp.f (k:Nat) (l0:List (S31)):Option (List Int × Bool):=Xp.l0 k l0 (([]:List Int)) 0
def Xp.T12:Bool × List (List Nat × List Nat):=(true,[([],[]),([],[]),([0,1],[0,1]),([2],[2]),([],[]),([],[]),([4,5],[4,5]),([6],[6]),([3,7],[3,7]),([8],[8]),([9],[9]),([9],[9]),([10,8,0,1,2,3,4,5,6,7,8,9,10],[10]),([11,12,0,1,2,3,4,5,6,7,8,9,10,11,12],[11])])
def Xp.B12:List Nat:=[0,0,3,7,0,0,48,112,255,511,1023,1023,2047,8191]
theorem Xp.tab12:rtab .any (opsOf Try.f38 12)=Xp.T12:=by kernel_rfl
theorem Xp.bits12:waitsOk Xp.T12.2 Xp.B12=true:=by kernel_rfl
set_option maxHeartbeats 8000000 in
theorem Xp.calls (k:Nat) (A0:Option Addr) (c0:Nat) (l0:List (S31)) (r1:List Int) (r2:Bool) (w:World) (hr0:Kd.C k31 w A0 l0.length l0) (hc0:l0.length≤c0) (h:Xp.f k l0=some (r1,r2)) :
  Calls Try.prog 38 #[.slice A0 l0.length c0] w fun e w'=>∃ jU:Value,e=.returned (.tuple #[jU,.bool r2])∧Kd.R (Kd.int .i64) 3 w' w.heap.size (fun _=>True) jU r1∧Below w.heap.size w w':=by
 have hu31:=Try.underlying31;have jA:=Xa.mk hr0;have jW:=Xa.mk hc0;clear hr0 hc0;have HB:=Xa.mk (Below.refl w.heap.size w);have H:(Xp.l0 k l0 (([]:List Int)) 0)=some (r1,r2):=h;clear h;obtain ⟨iQ,dX⟩:∃ y_:List Int,y_=(([]:List Int)):=⟨_,rfl⟩
 replace H:(Xp.l0 k l0 iQ 0)=some (r1,r2):=by subst dX;first|with_reducible exact H|(have z:=(Option.bind_some _ _).symm.trans H;with_reducible exact z)|exact H
 have fB:=Xa.mk dX;clear dX;have H':=Xa.mk H;clear H
 go_enter Try.func38,Try.ntmps38
 go_wp2_with (first|((with_reducible refine Xt (N:=13) rfl ?_);refine Kd.Vo (Kd.int .i64) _ 3 ?hg (N:=13) ?hd (xs:=([]:List Int)) (inner:=[]) (ok:=fun _=>True) (okp:=fun _=>True) ?hr ?hp (fun _ hk=>hk) trivial (Below.refl _ _) (Nat.le_refl _) (by simp) ?_;(case hd|hg=>rfl);(case hr=>exact hr_);(case hp=>exact (Yj.none _ _));intro v389 w2 ho3 hb jK dW;clear jK dW;(first|rw [← fB.out] at ho3|(simp only [Int.reduceToNat] at ho3;rw [← fB.out] at ho3));have gU:=Xa.mk (Kd.Yi ho3 (Xd (bl_ HB)));replace HB:=Xa.mk (Xe (bl_ HB) hb);clear hb ho3))
 go_loopg [4,5] k (fun kq v4 v5 w'=>∃ (bO:List Int) (dN:Int),v5=.int .i64 dN∧Xa (Xp.l0 kq l0 bO dN=some (r1,r2))∧Xa (kq≤k)∧Xa (Kd.R (Kd.int .i64) 3 w' w.heap.size (fun _=>True) v4 bO)∧Xa (Below w.heap.size w w'))
 case atStart=>exact ⟨(iQ),(0),rg_,H',⟨Nat.le_refl _⟩,⟨Kd.ra_ (gU.out)⟩,⟨bl_ HB⟩⟩
 case round=>
  clear H';obtain ⟨bO,dN,rfl,HA,eY,aH,HB⟩:=hrel
  cases gk with
  |zero=>exact absurd HA.out (by simp [Xp.l0])
  |succ k1=>
   have H:=HA.out;clear HA;simp only [Xp.l0] at H;by_cases c4:dN<(l0.length:Int)
   ·rw [if_pos c4] at H;have fO:=decide_eq_true c4;clear c4;by_cases c5:bO.length<17592186044416
    ·rw [if_pos c5] at H;have jB:=Xa.mk c5;clear c5;obtain ⟨iR,dY⟩:∃ y_:List Int,y_=(bO ++ [(-1)]):=⟨_,rfl⟩
     replace H:(Xp.l0 k1 l0 iR (wrap64 (dN+1)))=some (r1,r2):=by subst dY;first|with_reducible exact H|(have z:=(Option.bind_some _ _).symm.trans H;with_reducible exact z)|exact H
     have gZ:=Xa.mk dY;clear dY;have H':=Xa.mk H;clear H;go_wp2_with (first|((with_reducible refine Yp (b:=.append) (xs:=#[.tmp 20,.tmp 21]) rfl ?_);at_builtin;refine Kd.R_append (Kd.int .i64) (w0:=w) w.heap.size rfl (.tmp 20) (.tmp 21) 54 3 (.int .i64 0) 8 rfl Try.underlying54 info3 rfl (by decide) (by omega) u4 bO (-1) [.int .i64 (-1)] (fun _=>True) (fun _=>False) rfl rfl ?aP (fun _ hk=>hk.elim) ?aF ?aO ?aB ?aS ?aL ?_;(case aP=>exact rfl);(case aB=>exact (bl_ HB));(case aF=>exact (fun _ _=>trivial));(case aO=>exact (Kd.ra_ (aH.out)));(case aS=>exact (Xd (bl_ HB)));(case aL=>have:=jB.out;omega);intro v392 w6 ho hb hg hat;rw [← gZ.out] at ho;replace HB:=Xa.mk (hb);have gV:=Xa.mk (ho);clear aH ho hb hg hat))
     go_roundg k1
     case measure=>have:=eY.out;omega
     case rel=>exact ⟨(iR),(wrap64 (dN+1)),rg_,H',⟨by have:=eY.out;omega⟩,⟨Kd.ra_ (gV.out)⟩,⟨bl_ HB⟩⟩
    ·rw [if_neg c5] at H;exact absurd H (by simp)
   ·rw [if_neg c4] at H;have fO:=decide_eq_false c4;clear c4;by_cases c7:0<(bO.length:Int)
    ·rw [if_pos c7] at H;have iM:=decide_eq_true c7;have iN:decide (0<bO.length)=true:=decide_eq_true (by omega);clear c7;obtain ⟨eX,dZ⟩:∃ y_:List Int,y_=(bO.set (0:Int).toNat 0):=⟨_,rfl⟩
     replace H:(Xp.l1 k1 l0 eX (([0]:List Int)) 0)=some (r1,r2):=by subst dZ;first|with_reducible exact H|(have z:=(Option.bind_some _ _).symm.trans H;with_reducible exact z)|exact H
     have iA:=Xa.mk dZ;clear dZ;obtain ⟨iT,d9⟩:∃ y_:List Int,y_=(([0]:List Int)):=⟨_,rfl⟩
     replace H:(Xp.l1 k1 l0 eX iT 0)=some (r1,r2):=by subst d9;first|with_reducible exact H|(have z:=(Option.bind_some _ _).symm.trans H;with_reducible exact z)|exact H
     have fC:=Xa.mk d9;clear d9;have H':=Xa.mk H;clear H;have p8:0≤(0:Int):=(by omega);have q8:(0:Int)<((bO.length:Int):Int):=of_decide_eq_true (by assumption);have jT:(0<bO.length)=True:=eq_true (by omega);obtain ⟨bG,bR,jR,jS,jZ,cl8,jQ⟩:=Kd.R_form aH.out (by omega)
     (first|cases jR|(injection jR with iX jY jX;(first|subst iX|(injection iX with iX;subst iX));subst jX;clear jY))
     have iY:=Xa.mk jS;have GG8:=Xa.mk jQ;clear jS jZ jQ;obtain ⟨dL,fG⟩:=Kd.R_celln 0 aH.out (0:Int) p8 q8
     (try rw [show ((0:Int)).toNat=0 from rfl] at dL)
     (try simp only [Nat.reduceMul,Nat.zero_mul,Nat.zero_add,Nat.reduceAdd] at dL)
     (try rw [show ((0:Int)).toNat=0 from rfl] at fG)
     (try simp only [Nat.reduceMul,Nat.zero_mul,Nat.zero_add,Nat.reduceAdd] at fG)
     replace p8:=eq_true p8;replace q8:=eq_true q8;have iZ:=Kd.R_putg aH.out (0:Int) 0;go_wp2_with (first|((with_reducible refine Vn (t:=3) (p:=24) rfl ?_);refine Ve (t:=3) (p:=24) (v:=?vo_w10) (w1:=(wr.setCell ⟨bG,(0:Int).toNat,none⟩ (.int .i64 0))) ?hg ?ho ?hn ?hr ?_;(case ho=>rfl);(case hg=>rfl);(case hn=>rfl);(case hr=>exact hr_);intro jM hw;have hg:wr.grownBy jM (some bG):=(by rw [hw];exact iZ.2);have fH:Kd.R (Kd.int .i64) 3 jM w.heap.size (fun _=>True) (.slice (some ⟨bG,0,none⟩) bO.length bR) eX:=(by rw [hw,iA.out];exact iZ.1);clear iZ;replace aH:=Xa.mk (fH);replace HB:=Xa.mk ((by rw [hw];exact Vk (HB.out) iY.out:Below w.heap.size w jM));clear hg hw fH)|((with_reducible refine Xt (N:=25) rfl ?_);refine Kd.Vo (Kd.int .i64) _ 3 ?hg (N:=25) ?hd (xs:=([0]:List Int)) (inner:=[.int .i64 0]) (ok:=fun _=>True) (okp:=fun _=>True) ?hr ?hp (fun _ hk=>hk) trivial (Below.refl _ _) (Nat.le_refl _) (by simp) ?_;(case hd|hg=>rfl);(case hr=>exact hr_);(case hp=>exact (Yj.one (show Kd.M (Kd.int .i64) _ _ _ 0 [.int .i64 0] from rfl) (Yj.none _ _)));intro v396 w11 dM hb jK dW;clear jK dW;(first|rw [← fC.out] at dM|(simp only [Int.reduceToNat] at dM;rw [← fC.out] at dM));have gW:=Xa.mk (Kd.Yi (Kd.R_new' dM (Kd.Uu (Kd.ra_ (aH.out)))) (Xd (bl_ HB)));replace aH:=Xa.mk (Kd.R_elder' (Kd.ra_ (aH.out)) (Kd.Yv dM) hb);replace HB:=Xa.mk (Xe (bl_ HB) hb);clear hb dM))
     go_loopg [6,7] k1 (fun kq v6 v7 w'=>∃ (bD:List Int) (aG:List Int) (aD:Int),v7=.int .i64 aD∧Xa (Xp.l1 kq l0 bD aG aD=some (r1,r2))∧Xa (kq≤k1)∧Xa (Kd.R (Kd.int .i64) 3 w' w.heap.size (fun k_=>some k_≠(v6:Value).ownBlock) (.slice (some ⟨bG,0,none⟩) bO.length bR) bD)∧Xa (Kd.R (Kd.int .i64) 3 w' w.heap.size (fun k_=>some k_≠((.slice (some ⟨bG,0,none⟩) bO.length bR):Value).ownBlock) v6 aG)∧Xa (Below w.heap.size w w'))
     case atStart=>exact ⟨(eX),(iT),(0),rg_,H',⟨Nat.le_refl _⟩,⟨Kd.ra_ (Kd.Xo aH.out (fun _ hk=>hk.2))⟩,⟨Kd.ra_ (Kd.Xo gW.out (fun _ hk=>hk.2))⟩,⟨bl_ HB⟩⟩
     case round=>
      clear H'
      try clear c4
      try clear fO
      try clear c7
      try clear iM
      try clear iN
      try clear p8
      try clear q8
      try clear jT
      try clear dL
      try clear p8
      try clear q8
      obtain ⟨bD,aG,aD,rfl,HA,gK,aH,aM,HB⟩:=hrel;have bB:=(Kd.R_reads' aH.out).1;rw [bB] at aH
      (try simp only [bB])
      (try simp only [bB] at aM)
      cases gk with
      |zero=>exact absurd HA.out (by simp [Xp.l1])
      |succ k2=>
       have H:=HA.out;clear HA;simp only [Xp.l1] at H;by_cases c13:aD<(aG.length:Int)
       ·rw [if_pos c13] at H;have fF:=decide_eq_true c13;clear c13;by_cases c14:0≤aD
        ·rw [if_pos c14] at H;have iC:=decide_eq_true c14;clear c14;by_cases c15:0≤(rd aG aD)
         ·rw [if_pos c15] at H;have iD:=decide_eq_true c15;clear c15;by_cases c16:(rd aG aD)<(l0.length:Int)
          ·rw [if_pos c16] at H;have iE:=decide_eq_true c16;clear c16;by_cases c17:(rd aG aD)<(bD.length:Int)
           ·rw [if_pos c17] at H;have iF:=decide_eq_true c17;clear c17;replace H:=Option.bind_eq_some_iff.mp H;obtain ⟨⟨bH,iP⟩,gQ,H⟩:=H;replace H:(if iP=true then ((spec_l4Next.f l0 (rd aG aD)).bind fun aC=>(Xp.l2 k2 l0 bD aG aD bH aC 0)) else (some (bD,false)))=some (r1,r2):=H;have jP:=Xa.mk gQ;clear gQ;by_cases c19:iP=true
            ·subst c19
             replace H:((spec_l4Next.f l0 (rd aG aD)).bind fun aC=>(Xp.l2 k2 l0 bD aG aD bH aC 0))=some (r1,r2):=(by rw [if_pos rfl] at H;exact H);replace H:=Option.bind_eq_some_iff.mp H;obtain ⟨aC,gT,H⟩:=H;replace H:(Xp.l2 k2 l0 bD aG aD bH aC 0)=some (r1,r2):=H;have jV:=Xa.mk gT;clear gT;have H':=Xa.mk H;clear H;obtain ⟨Ao21,co21,jC⟩:=Kd.Yo aM.out;subst jC;have bT:0≤(aD:Int):=of_decide_eq_true (by assumption);have bW:aD<(aG.length:Int):=of_decide_eq_true (by assumption);obtain ⟨iB,fP,dK⟩:=Kd.Ur (Kd.R_reads' aM.out).2.2 aD bT bW;cases fP
             replace bT:=eq_true bT;replace bW:=eq_true bW
             try go_wp2
             replace aH:=Xa.mk (Kd.Uz aH.out);replace aM:=Xa.mk (Kd.Uz aM.out);replace HB:=Xa.mk (below_drew1 HB.out);have bU:0≤((rd aG aD):Int):=of_decide_eq_true (by assumption);have bX:(rd aG aD)<(l0.length:Int):=of_decide_eq_true (by assumption);obtain ⟨aW,fQ,aR,aT,aU,aV⟩:=Zv jA.out (rd aG aD) bU bX;have bA:=aV;have aZ:=aU;have aY:=aT;have aX:=aR;cases fQ
             replace aR:=bw_ HB aR;replace aT:=bw_ HB aT;replace aU:=bw_ HB aU;replace aV:=bw_ HB aV;replace bU:=eq_true bU;replace bX:=eq_true bX;have bV:0≤((rd aG aD):Int):=of_decide_eq_true (by assumption);have bY:(rd aG aD)<(bD.length:Int):=of_decide_eq_true (by assumption);obtain ⟨dO,fT,aN⟩:=Kd.Ur (Kd.R_reads' aH.out).2.2 (rd aG aD) bV bY;obtain rfl:(⟨bG,0,none⟩:Addr)=dO:=(by injection fT)
             (first|simp only [add_plain] at aN|simp only [add_at] at aN|simp only [Addr.add,Nat.zero_add] at aN|skip)
             replace bV:=eq_true bV;replace bY:=eq_true bY;refine start_ (n:=14) (S:=fun w'=>w'.cell? (aW.add (((rd aG aD)).toNat * 4))=some (.int .i64 ((Xb l0 (rd aG aD)).f0))∧w'.cell? ⟨(aW.add (((rd aG aD)).toNat * 4)).block,(aW.add (((rd aG aD)).toNat * 4)).off+1,none⟩=some (.int .i64 ((Xb l0 (rd aG aD)).f1))∧w'.cell? ⟨(aW.add (((rd aG aD)).toNat * 4)).block,(aW.add (((rd aG aD)).toNat * 4)).off+2,none⟩=some (.int .i64 ((Xb l0 (rd aG aD)).f2))∧w'.cell? ⟨(aW.add (((rd aG aD)).toNat * 4)).block,(aW.add (((rd aG aD)).toNat * 4)).off+3,none⟩=some (.int .i64 ((Xb l0 (rd aG aD)).f3))∧w'.cell? ⟨bG,((rd aG aD)).toNat,none⟩=some (.int .i64 (rd bD (rd aG aD)))) (ds:=[]) #[false,false,false,false,false,false,false,false,false,false,false,false,false,false] (by kernel_rfl) rfl rfl ⟨((HB.out.cell (World.block_lt_of_cell? w _ aX)).trans aX),((HB.out.cell (World.block_lt_of_cell? w _ aY)).trans aY),((HB.out.cell (World.block_lt_of_cell? w _ aZ)).trans aZ),((HB.out.cell (World.block_lt_of_cell? w _ bA)).trans bA),aN⟩ (fun hHeld=>?_);refine with_tabW Xp.tab12 Xp.bits12 (fun bJ gY=>?_)
             generalize wr.drew=w22 at aH aM HB aR aT aU aV aN hHeld ⊢
             refine Za (i:=0) (N:=some 37) (v:=?_) (a':=?_) #[true,false,false,false,false,false,false,false,false,false,false,false,false,false] rfl rfl (Zk bJ.out (by kernel_rfl)) (fun _ _ _ h=>h) (Or.inl ⟨by rfl,?_⟩) ?_ ?_
             rotate_left
             · exact wr_
             rotate_left
             · exact ap_
             refine Za (i:=1) (N:=some 38) (v:=?_) (a':=?_) #[true,true,false,false,false,false,false,false,false,false,false,false,false,false] rfl rfl (Zk bJ.out (by kernel_rfl)) (fun _ _ _ h=>h) (Or.inl ⟨by rfl,?_⟩) ?_ ?_
             rotate_left
             · exact wr_
             rotate_left
             · exact ap_
             refine Za (i:=2) (N:=some 39) (v:=?_) (a':=?_) #[true,true,true,false,false,false,false,false,false,false,false,false,false,false] rfl rfl (Zk bJ.out (by kernel_rfl)) (fun _ _ _ h=>h) (Or.inl ⟨by rfl,?_⟩) ?_ ?_
             rotate_left
             · exact wr_
             rotate_left
             · exact ap_
             refine Za (i:=4) (N:=some 41) (v:=?_) (a':=?_) #[true,true,true,false,true,false,false,false,false,false,false,false,false,false] rfl rfl (Zk bJ.out (by kernel_rfl)) (fun _ _ _ h=>h) (Or.inl ⟨by rfl,?_⟩) ?_ ?_
             rotate_left
             · exact wr_
             rotate_left
             · exact ap_
             refine Za (i:=5) (N:=some 42) (v:=?_) (a':=?_) #[true,true,true,false,true,true,false,false,false,false,false,false,false,false] rfl rfl (Zk bJ.out (by kernel_rfl)) (fun _ _ _ h=>h) (Or.inl ⟨by rfl,?_⟩) ?_ ?_
             rotate_left
             · exact wr_
             rotate_left
             · exact ap_
             refine Za (i:=6) (N:=some 43) (v:=?_) (a':=?_) #[true,true,true,false,true,true,true,false,false,false,false,false,false,false] rfl rfl (Zk bJ.out (by kernel_rfl)) (fun _ _ _ h=>h) (Or.inl ⟨by rfl,?_⟩) ?_ ?_
             rotate_left
             · exact wr_
             rotate_left
             · exact ap_
             refine take_ (i:=3) (N:=some 40) (v:=?_) (a':=?_) #[true,true,true,true,true,true,true,false,false,false,false,false,false,false] rfl rfl (take_ofW bJ.out gY.out (by kernel_rfl)) (fun _ _ _ h=>h) (Or.inl ⟨by rfl,?_⟩) hHeld ?_ ?_
             rotate_left
             ·rintro w' ⟨s0,s1,s2,s3,s4⟩
              go_simp
              with_reducible rfl
             rotate_left
             · exact ap_
             refine take_ (i:=7) (N:=some 44) (v:=?_) (a':=?_) #[true,true,true,true,true,true,true,true,false,false,false,false,false,false] rfl rfl (take_ofW bJ.out gY.out (by kernel_rfl)) (fun _ _ _ h=>h) (Or.inl ⟨by rfl,?_⟩) hHeld ?_ ?_
             rotate_left
             ·rintro w' ⟨s0,s1,s2,s3,s4⟩
              go_simp
              with_reducible rfl
             rotate_left
             · exact ap_
             refine one_ (i:=8) (N:=some 45) #[true,true,true,true,true,true,true,true,true,false,false,false,false,false] rfl rfl (one_of bJ.out (by kernel_rfl)) (by decide) (fun K hK=>?_)
             refine goes_ Try.func63 (by kernel_rfl) rfl #[.agg #[.int .i64 ((Xb l0 (rd aG aD)).f0),.int .i64 ((Xb l0 (rd aG aD)).f1),.int .i64 ((Xb l0 (rd aG aD)).f2),.int .i64 ((Xb l0 (rd aG aD)).f3)],.int .i64 (rd bD (rd aG aD))] (by rfl) rfl rfl ga_ ?_
             with_reducible refine (spec_l4Held.calls ((Xb l0 (rd aG aD)).f0) ((Xb l0 (rd aG aD)).f1) ((Xb l0 (rd aG aD)).f2) ((Xb l0 (rd aG aD)).f3) (rd bD (rd aG aD)) bH true _ jP.out).mono ?_
             rintro e w23 ⟨rfl,hb⟩
             have fK:=(hb.cell (World.block_lt_of_cell? _ _ (hHeld.2.2.2.2))).trans (hHeld.2.2.2.2);refine ⟨_,rfl,?_⟩
             replace aH:=Xa.mk (Kd.Zf (Kd.ra_ (aH.out)) hb);replace aM:=Xa.mk (Kd.Zf (Kd.ra_ (aM.out)) hb);replace HB:=Xa.mk (Xe (bl_ HB) hb)
             clear hb
             skip
             skip
             skip
             refine hK.out _ _ ⟨((HB.out.cell (World.block_lt_of_cell? w _ aX)).trans aX),((HB.out.cell (World.block_lt_of_cell? w _ aY)).trans aY),((HB.out.cell (World.block_lt_of_cell? w _ aZ)).trans aZ),((HB.out.cell (World.block_lt_of_cell? w _ bA)).trans bA),fK⟩ (fun hHeld=>?_)
             clear hK K;refine norm_ (a':=?_) ?_ ?_
             rotate_left
             ·show Act.put _ (some 45) _=_
              simp only [Act.put,List.setIfInBounds_toArray,List.set_cons_zero,List.set_cons_succ,Ub,Uf];rfl
             refine Za (i:=9) (N:=some 36) (v:=?_) (a':=?_) #[true,true,true,true,true,true,true,true,true,true,false,false,false,false] rfl rfl (Zk bJ.out (by kernel_rfl)) (fun _ _ _ h=>h) (Or.inl ⟨by rfl,?_⟩) ?_ ?_
             rotate_left
             · exact wr_
             rotate_left
             · exact ap_
             refine Za (i:=10) (N:=some 46) (v:=?_) (a':=?_) #[true,true,true,true,true,true,true,true,true,true,true,false,false,false] rfl rfl (Zk bJ.out (by kernel_rfl)) (fun _ _ _ h=>h) (Or.inl ⟨by rfl,?_⟩) ?_ ?_
             rotate_left
             · exact wr_
             rotate_left
             · exact ap_
             refine Za (i:=11) (N:=some 47) (v:=?_) (a':=?_) #[true,true,true,true,true,true,true,true,true,true,true,true,false,false] rfl rfl (Zk bJ.out (by kernel_rfl)) (fun _ _ _ h=>h) (Or.inl ⟨by rfl,?_⟩) ?_ ?_
             rotate_left
             · exact wr_
             rotate_left
             · exact ap_
             refine Za (i:=12) (N:=some 9) (v:=?_) (a':=?_) #[true,true,true,true,true,true,true,true,true,true,true,true,true,false] rfl rfl (Zk bJ.out (by kernel_rfl)) (fun _ _ _ h=>h) (Or.inl ⟨by rfl,?_⟩) ?_ ?_
             rotate_left
             · exact wr_
             rotate_left
             · exact ap_
             refine Za (i:=13) (N:=some 10) (v:=?_) (a':=?_) #[true,true,true,true,true,true,true,true,true,true,true,true,true,true] rfl rfl (Zk bJ.out (by kernel_rfl)) (fun _ _ _ h=>h) (Or.inl ⟨by rfl,?_⟩) ?_ ?_
             rotate_left
             · exact wr_
             rotate_left
             · exact ap_
             refine done_ (done_of bJ.out (by kernel_rfl)) ?_
             try go_wp2_with (first|((with_reducible refine Xh (f:=64) rfl ?_);refine Ye (some 53) rfl rfl Try.func64 (by kernel_rfl) rfl #[.slice (some aW) l0.length c0,.int .i64 (rd aG aD)] rfl ga_ ?_;(with_reducible refine (spec_l4Next.calls _ _ l0 (rd aG aD) aC _ ?side1 ?side2 jV.out).mono ?_);(case side1=>exact Kd.ca_ (Kd.Ze jA.out HB.out));(case side2=>exact jW.out);rintro e w24 ⟨gJ,rfl,ho0,hb⟩;refine ⟨_,rfl,?_⟩;have gX:=Xa.mk (Kd.Yi (Kd.R_new' (Kd.R_new' ho0 (Kd.Uu (Kd.ra_ (aH.out)))) (Kd.Uu (Kd.ra_ (aM.out)))) (Xd (bl_ HB)));replace aH:=Xa.mk (Kd.R_elder' (Kd.ra_ (aH.out)) (Kd.Yv ho0) hb);replace aM:=Xa.mk (Kd.R_elder' (Kd.ra_ (aM.out)) (Kd.Yv ho0) hb);replace HB:=Xa.mk (Xe (bl_ HB) hb);clear hb ho0))
             go_loopg [6,12] k2 (fun kq v6 v12 w'=>∃ (aK:List Int) (bQ:List Int) (aA:Int),v12=.int .i64 aA∧Xa (Xp.l2 kq l0 aK bQ aD bH aC aA=some (r1,r2))∧Xa (kq≤k2)∧Xa (Kd.R (Kd.int .i64) 3 w' w.heap.size (fun k_=>some k_≠(v6:Value).ownBlock∧some k_≠(gJ:Value).ownBlock) (.slice (some ⟨bG,0,none⟩) bD.length bR) aK)∧Xa (Kd.R (Kd.int .i64) 3 w' w.heap.size (fun k_=>some k_≠((.slice (some ⟨bG,0,none⟩) bD.length bR):Value).ownBlock∧some k_≠(gJ:Value).ownBlock) v6 bQ)∧Xa (Kd.R (Kd.int .i64) 3 w' w.heap.size (fun k_=>some k_≠((.slice (some ⟨bG,0,none⟩) bD.length bR):Value).ownBlock∧some k_≠(v6:Value).ownBlock) gJ aC)∧Xa (Below w.heap.size w w'))
             case atStart=>exact ⟨(bD),(aG),(0),rg_,H',⟨Nat.le_refl _⟩,⟨by (try simp only [bB]);(with_reducible repeat (first|apply Kd.Uh|apply Kd.Ug|apply Kd.Uz));exact aH.out⟩,⟨by (try simp only [bB]);(with_reducible repeat (first|apply Kd.Uh|apply Kd.Ug|apply Kd.Uz));exact aM.out⟩,⟨by (try simp only [bB]);(with_reducible repeat (first|apply Kd.Uh|apply Kd.Ug|apply Kd.Uz));exact Kd.Xo gX.out (fun _ hk=>⟨hk.1.2,hk.2⟩)⟩,⟨bl_ HB⟩⟩
             case round=>
              clear H'
              try clear c4
              try clear fO
              try clear c7
              try clear iM
              try clear iN
              try clear p8
              try clear q8
              try clear jT
              try clear c13
              try clear fF
              try clear c14
              try clear iC
              try clear c15
              try clear iD
              try clear c16
              try clear iE
              try clear c17
              try clear iF
              try clear c19
              try clear dK
              try clear aR
              try clear aT
              try clear aU
              try clear aV
              try clear aN
              try clear dL
              try clear bT
              try clear bU
              try clear bV
              try clear p8
              try clear bW
              try clear bX
              try clear bY
              try clear q8
              obtain ⟨aK,bQ,aA,rfl,HA,gM,aH,aM,aI,HB⟩:=hrel;have bC:=(Kd.R_reads' aH.out).1;rw [bC] at aH
              (try simp only [bC])
              (try simp only [bC] at aM)
              (try simp only [bC] at aI)
              cases gk with
              |zero=>exact absurd HA.out (by simp [Xp.l2])
              |succ k3=>
               have H:=HA.out;clear HA;simp only [Xp.l2] at H;by_cases gN:aA<(aC.length:Int)
               ·rw [if_pos gN] at H;have iG:=decide_eq_true gN;clear gN;by_cases iV:0≤aA
                ·rw [if_pos iV] at H;replace iV:=decide_eq_true iV;by_cases iW:0≤(rd aC aA)
                 ·rw [if_pos iW] at H;replace iW:=decide_eq_true iW;by_cases c28:(rd aC aA)<(aK.length:Int)
                  ·rw [if_pos c28] at H;replace c28:=decide_eq_true c28;by_cases gP:(rd aK (rd aC aA))<0
                   ·rw [if_pos gP] at H;have iH:=decide_eq_true gP;clear gP;obtain ⟨bI,eB⟩:∃ y_:List Int,y_=(aK.set ((rd aC aA):Int).toNat bH):=⟨_,rfl⟩
                    replace H:(if bQ.length<17592186044416 then (if (rd bI (rd aC aA))=bH then (Xp.l2 k3 l0 bI (bQ ++ [rd aC aA]) aD bH aC (wrap64 (aA+1))) else (some (bI,false))) else (none))=some (r1,r2):=by subst eB;first|with_reducible exact H|(have z:=(Option.bind_some _ _).symm.trans H;with_reducible exact z)|exact H
                    have dJ:=Xa.mk eB;clear eB;by_cases c31:bQ.length<17592186044416
                    ·rw [if_pos c31] at H;have fA:=Xa.mk c31;clear c31;obtain ⟨iU,eD⟩:∃ y_:List Int,y_=(bQ ++ [rd aC aA]):=⟨_,rfl⟩
                     replace H:(if (rd bI (rd aC aA))=bH then (Xp.l2 k3 l0 bI iU aD bH aC (wrap64 (aA+1))) else (some (bI,false)))=some (r1,r2):=by subst eD;first|with_reducible exact H|(have z:=(Option.bind_some _ _).symm.trans H;with_reducible exact z)|exact H
                     have fD:=Xa.mk eD;clear eD;by_cases c32:(rd bI (rd aC aA))=bH
                     ·rw [if_pos c32] at H;have iI:=beq_iff_eq.mpr c32;have iJ:=bne_eq_false_iff_eq.mpr c32;clear c32;have H':=Xa.mk H;clear H;obtain ⟨Ao33,eH,jD⟩:=Kd.Yo aI.out;subst jD;have bK:0≤(aA:Int):=of_decide_eq_true (by assumption);have bM:aA<(aC.length:Int):=of_decide_eq_true (by assumption);obtain ⟨aQ,bZ,bS⟩:=Kd.Ur (Kd.R_reads' aI.out).2.2 aA bK bM;cases bZ
                      replace bK:=eq_true bK;replace bM:=eq_true bM;have bL:0≤((rd aC aA):Int):=of_decide_eq_true (by assumption);have bN:(rd aC aA)<(aK.length:Int):=of_decide_eq_true (by assumption);obtain ⟨bP,cB,aJ⟩:=Kd.Ur (Kd.R_reads' aH.out).2.2 (rd aC aA) bL bN;obtain rfl:(⟨bG,0,none⟩:Addr)=bP:=(by injection cB)
                      (first|simp only [add_plain] at aJ|simp only [add_at] at aJ|simp only [Addr.add,Nat.zero_add] at aJ|skip)
                      replace bL:=eq_true bL;replace bN:=eq_true bN;have cK:0≤(aA:Int):=of_decide_eq_true (by assumption);have dD:aA<(aC.length:Int):=of_decide_eq_true (by assumption);obtain ⟨dP,fU,eP⟩:=Kd.Ur (Kd.R_reads' aI.out).2.2 aA cK dD;obtain rfl:aQ=dP:=(by injection fU);replace cK:=eq_true cK;replace dD:=eq_true dD;have p30:0≤((rd aC aA):Int):=of_decide_eq_true (by assumption);have gI:((rd aC aA):Int)<((aK.length:Int):Int):=of_decide_eq_true (by assumption);obtain ⟨gH,gG⟩:=Kd.R_celln 0 aH.out ((rd aC aA):Int) p30 gI;replace p30:=eq_true p30;replace gI:=eq_true gI;have fI:=Kd.R_putg aH.out ((rd aC aA):Int) bH;go_wp2_with (first|((with_reducible refine Vn (t:=3) (p:=74) rfl ?_);refine Ve (t:=3) (p:=74) (v:=?vo_w35) (w1:=(wr.setCell ⟨bG,((rd aC aA):Int).toNat,none⟩ (.int .i64 bH))) ?hg ?ho ?hn ?hr ?_;(case ho=>rfl);(case hg=>rfl);(case hn=>rfl);(case hr=>exact hr_);intro jN hw;have hg:wr.grownBy jN (some bG):=(by rw [hw];exact fI.2);have fH:Kd.R (Kd.int .i64) 3 jN w.heap.size (fun k_=>some k_≠(u6:Value).ownBlock∧some k_≠(.slice (some aQ) aC.length eH:Value).ownBlock) (.slice (some ⟨bG,0,none⟩) aK.length bR) bI:=(by rw [hw,dJ.out];exact fI.1);clear fI;replace aH:=Xa.mk (fH);replace aM:=Xa.mk (Kd.Ue (v:=(.slice (some ⟨bG,0,none⟩) aK.length bR)) (v1:=(.slice (some ⟨bG,0,none⟩) aK.length bR)) (ok:=(fun k_=>some k_≠(.slice (some aQ) aC.length eH:Value).ownBlock)) (Kd.ra_ (Kd.Xo aM.out (fun _ hk=>⟨hk.2,hk.1⟩))) hg (.inl rfl));replace aI:=Xa.mk (Kd.Ue (v:=(.slice (some ⟨bG,0,none⟩) aK.length bR)) (v1:=(.slice (some ⟨bG,0,none⟩) aK.length bR)) (ok:=(fun k_=>some k_≠(u6:Value).ownBlock)) (Kd.ra_ (Kd.Xo aI.out (fun _ hk=>⟨hk.2,hk.1⟩))) hg (.inl rfl));replace HB:=Xa.mk ((by rw [hw];exact Vk (HB.out) iY.out:Below w.heap.size w jN));clear hg hw fH;have cO:0≤(aA:Int):=of_decide_eq_true (by assumption);have dE:aA<(aC.length:Int):=of_decide_eq_true (by assumption);obtain ⟨dQ,fV,eQ⟩:=Kd.Ur (Kd.R_reads' aI.out).2.2 aA cO dE;obtain rfl:aQ=dQ:=(by injection fV);replace cO:=eq_true cO;replace dE:=eq_true dE)|((with_reducible refine Yp (b:=.append) (xs:=#[.tmp 75,.tmp 80]) rfl ?_);at_builtin;refine Kd.R_append (Kd.int .i64) (w0:=w) w.heap.size rfl (.tmp 75) (.tmp 80) 54 3 (.int .i64 0) 8 rfl Try.underlying54 info3 rfl (by decide) (by omega) u6 bQ (rd aC aA) [.int .i64 (rd aC aA)] (fun k_=>some k_≠(.slice (some ⟨bG,0,none⟩) aK.length bR:Value).ownBlock∧some k_≠(.slice (some aQ) aC.length eH:Value).ownBlock) (fun _=>False) rfl rfl ?aP (fun _ hk=>hk.elim) ?aF ?aO ?aB ?aS ?aL ?_;(case aP=>exact rfl);(case aB=>exact (bl_ HB));(case aF=>exact (fun k_ hk=>⟨Kd.fresh' (Kd.Uu (Kd.ra_ (aH.out))) k_ hk,Kd.fresh' (Kd.Uu (Kd.ra_ (aI.out))) k_ hk⟩));(case aO=>exact (Kd.ra_ (Kd.Xo aM.out (fun _ hk=>⟨hk.2,hk.1⟩))));(case aS=>exact (Xd (bl_ HB)));(case aL=>have:=fA.out;omega);intro jL w36 ho hb hg hat;rw [← fD.out] at ho;replace aH:=Xa.mk (Kd.Ue (ok:=(fun k_=>some k_≠(.slice (some aQ) aC.length eH:Value).ownBlock)) (Kd.ra_ (Kd.Xo aH.out (fun _ hk=>⟨hk.2,hk.1⟩))) hg hat);replace aI:=Xa.mk (Kd.Ue (ok:=(fun k_=>some k_≠(.slice (some ⟨bG,0,none⟩) aK.length bR:Value).ownBlock)) (Kd.ra_ (Kd.Xo aI.out (fun _ hk=>⟨hk.2,hk.1⟩))) hg hat);replace HB:=Xa.mk (hb);have eZ:=Xa.mk (ho);clear aM ho hb hg hat;have cZ:0≤(aA:Int):=of_decide_eq_true (by assumption);have dF:aA<(aC.length:Int):=of_decide_eq_true (by assumption);obtain ⟨dR,fZ,eT⟩:=Kd.Ur (Kd.R_reads' aI.out).2.2 aA cZ dF;obtain rfl:aQ=dR:=(by injection fZ);replace cZ:=eq_true cZ;replace dF:=eq_true dF;have dA:0≤((rd aC aA):Int):=of_decide_eq_true (by assumption);have dG:(rd aC aA)<(bI.length:Int):=(by have h_:((rd aC aA):Int)<((aK.length:Int):Int):=of_decide_eq_true (by assumption);first|(have e_:=(Kd.R_reads' aH.out).1;omega)|simpa only [dJ.out,List.length_set] using h_);have iO:(((rd aC aA):Int)<((aK.length:Int):Int))=True:=eq_true (of_decide_eq_true (by assumption));obtain ⟨dS,gB,bE⟩:=Kd.Ur (Kd.R_reads' aH.out).2.2 (rd aC aA) dA dG;obtain rfl:(⟨bG,0,none⟩:Addr)=dS:=(by injection gB);(first|simp only [add_plain] at bE|simp only [add_at] at bE|simp only [Addr.add,Nat.zero_add] at bE|skip);replace dA:=eq_true dA;replace dG:=eq_true dG))
                      (try simp only [← bC])
                      go_roundg k3
                      case measure=>have:=eY.out;have:=gK.out;have:=gM.out;omega
                      case rel=>exact ⟨(bI),(iU),(wrap64 (aA+1)),rg_,H',⟨by have:=eY.out;have:=gK.out;have:=gM.out;omega⟩,⟨by (try simp only [bB]);(try simp only [bC]);(with_reducible repeat (first|apply Kd.Uh|apply Kd.Ug|apply Kd.Uz));exact Kd.Xo aH.out (fun _ hk=>⟨hk.2,hk.1⟩)⟩,⟨by (try simp only [bB]);(try simp only [bC]);(with_reducible repeat (first|apply Kd.Uh|apply Kd.Ug|apply Kd.Uz));exact eZ.out⟩,⟨by (try simp only [bB]);(try simp only [bC]);(with_reducible repeat (first|apply Kd.Uh|apply Kd.Ug|apply Kd.Uz));exact aI.out⟩,⟨bl_ HB⟩⟩
                     ·rw [if_neg c32] at H;have iI:=beq_eq_false_iff_ne.mpr c32;have iJ:=bne_iff_ne.mpr c32;simp only [Option.some.injEq,Prod.mk.injEq] at H;obtain ⟨rfl,rfl⟩:=H;obtain ⟨Ao37,eO,jE⟩:=Kd.Yo aI.out;subst jE;have bK:0≤(aA:Int):=of_decide_eq_true (by assumption);have bM:aA<(aC.length:Int):=of_decide_eq_true (by assumption);obtain ⟨aQ,bZ,bS⟩:=Kd.Ur (Kd.R_reads' aI.out).2.2 aA bK bM;cases bZ
                      replace bK:=eq_true bK;replace bM:=eq_true bM;have bL:0≤((rd aC aA):Int):=of_decide_eq_true (by assumption);have bN:(rd aC aA)<(aK.length:Int):=of_decide_eq_true (by assumption);obtain ⟨bP,cB,aJ⟩:=Kd.Ur (Kd.R_reads' aH.out).2.2 (rd aC aA) bL bN;obtain rfl:(⟨bG,0,none⟩:Addr)=bP:=(by injection cB)
                      (first|simp only [add_plain] at aJ|simp only [add_at] at aJ|simp only [Addr.add,Nat.zero_add] at aJ|skip)
                      replace bL:=eq_true bL;replace bN:=eq_true bN;have cK:0≤(aA:Int):=of_decide_eq_true (by assumption);have dD:aA<(aC.length:Int):=of_decide_eq_true (by assumption);obtain ⟨dP,fU,eP⟩:=Kd.Ur (Kd.R_reads' aI.out).2.2 aA cK dD;obtain rfl:aQ=dP:=(by injection fU);replace cK:=eq_true cK;replace dD:=eq_true dD;have p30:0≤((rd aC aA):Int):=of_decide_eq_true (by assumption);have gI:((rd aC aA):Int)<((aK.length:Int):Int):=of_decide_eq_true (by assumption);obtain ⟨gH,gG⟩:=Kd.R_celln 0 aH.out ((rd aC aA):Int) p30 gI;replace p30:=eq_true p30;replace gI:=eq_true gI;have fJ:=Kd.R_putg aH.out ((rd aC aA):Int) bH;go_wp2_with (first|((with_reducible refine Vn (t:=3) (p:=74) rfl ?_);refine Ve (t:=3) (p:=74) (v:=?vo_w39) (w1:=(wr.setCell ⟨bG,((rd aC aA):Int).toNat,none⟩ (.int .i64 bH))) ?hg ?ho ?hn ?hr ?_;(case ho=>rfl);(case hg=>rfl);(case hn=>rfl);(case hr=>exact hr_);intro jO hw;have hg:wr.grownBy jO (some bG):=(by rw [hw];exact fJ.2);have fH:Kd.R (Kd.int .i64) 3 jO w.heap.size (fun k_=>some k_≠(u6:Value).ownBlock∧some k_≠(.slice (some aQ) aC.length eO:Value).ownBlock) (.slice (some ⟨bG,0,none⟩) aK.length bR) bI:=(by rw [hw,dJ.out];exact fJ.1);clear fJ;replace aH:=Xa.mk (fH);replace aM:=Xa.mk (Kd.Ue (v:=(.slice (some ⟨bG,0,none⟩) aK.length bR)) (v1:=(.slice (some ⟨bG,0,none⟩) aK.length bR)) (ok:=(fun k_=>some k_≠(.slice (some aQ) aC.length eO:Value).ownBlock)) (Kd.ra_ (Kd.Xo aM.out (fun _ hk=>⟨hk.2,hk.1⟩))) hg (.inl rfl));replace aI:=Xa.mk (Kd.Ue (v:=(.slice (some ⟨bG,0,none⟩) aK.length bR)) (v1:=(.slice (some ⟨bG,0,none⟩) aK.length bR)) (ok:=(fun k_=>some k_≠(u6:Value).ownBlock)) (Kd.ra_ (Kd.Xo aI.out (fun _ hk=>⟨hk.2,hk.1⟩))) hg (.inl rfl));replace HB:=Xa.mk ((by rw [hw];exact Vk (HB.out) iY.out:Below w.heap.size w jO));clear hg hw fH;have cO:0≤(aA:Int):=of_decide_eq_true (by assumption);have dE:aA<(aC.length:Int):=of_decide_eq_true (by assumption);obtain ⟨dQ,fV,eQ⟩:=Kd.Ur (Kd.R_reads' aI.out).2.2 aA cO dE;obtain rfl:aQ=dQ:=(by injection fV);replace cO:=eq_true cO;replace dE:=eq_true dE)|((with_reducible refine Yp (b:=.append) (xs:=#[.tmp 75,.tmp 80]) rfl ?_);at_builtin;refine Kd.R_append (Kd.int .i64) (w0:=w) w.heap.size rfl (.tmp 75) (.tmp 80) 54 3 (.int .i64 0) 8 rfl Try.underlying54 info3 rfl (by decide) (by omega) u6 bQ (rd aC aA) [.int .i64 (rd aC aA)] (fun k_=>some k_≠(.slice (some ⟨bG,0,none⟩) aK.length bR:Value).ownBlock∧some k_≠(.slice (some aQ) aC.length eO:Value).ownBlock) (fun _=>False) rfl rfl ?aP (fun _ hk=>hk.elim) ?aF ?aO ?aB ?aS ?aL ?_;(case aP=>exact rfl);(case aB=>exact (bl_ HB));(case aF=>exact (fun k_ hk=>⟨Kd.fresh' (Kd.Uu (Kd.ra_ (aH.out))) k_ hk,Kd.fresh' (Kd.Uu (Kd.ra_ (aI.out))) k_ hk⟩));(case aO=>exact (Kd.ra_ (Kd.Xo aM.out (fun _ hk=>⟨hk.2,hk.1⟩))));(case aS=>exact (Xd (bl_ HB)));(case aL=>have:=fA.out;omega);intro jL w40 ho hb hg hat;rw [← fD.out] at ho;replace aH:=Xa.mk (Kd.Ue (ok:=(fun k_=>some k_≠(.slice (some aQ) aC.length eO:Value).ownBlock)) (Kd.ra_ (Kd.Xo aH.out (fun _ hk=>⟨hk.2,hk.1⟩))) hg hat);replace aI:=Xa.mk (Kd.Ue (ok:=(fun k_=>some k_≠(.slice (some ⟨bG,0,none⟩) aK.length bR:Value).ownBlock)) (Kd.ra_ (Kd.Xo aI.out (fun _ hk=>⟨hk.2,hk.1⟩))) hg hat);replace HB:=Xa.mk (hb);have eZ:=Xa.mk (ho);clear aM ho hb hg hat;have cZ:0≤(aA:Int):=of_decide_eq_true (by assumption);have dF:aA<(aC.length:Int):=of_decide_eq_true (by assumption);obtain ⟨dR,fZ,eT⟩:=Kd.Ur (Kd.R_reads' aI.out).2.2 aA cZ dF;obtain rfl:aQ=dR:=(by injection fZ);replace cZ:=eq_true cZ;replace dF:=eq_true dF;have dA:0≤((rd aC aA):Int):=of_decide_eq_true (by assumption);have dG:(rd aC aA)<(bI.length:Int):=(by have h_:((rd aC aA):Int)<((aK.length:Int):Int):=of_decide_eq_true (by assumption);first|(have e_:=(Kd.R_reads' aH.out).1;omega)|simpa only [dJ.out,List.length_set] using h_);have iO:(((rd aC aA):Int)<((aK.length:Int):Int))=True:=eq_true (of_decide_eq_true (by assumption));obtain ⟨dS,gB,bE⟩:=Kd.Ur (Kd.R_reads' aH.out).2.2 (rd aC aA) dA dG;obtain rfl:(⟨bG,0,none⟩:Addr)=dS:=(by injection gB);(first|simp only [add_plain] at bE|simp only [add_at] at bE|simp only [Addr.add,Nat.zero_add] at bE|skip);replace dA:=eq_true dA;replace dG:=eq_true dG))
                      go_ret2
                      exact ⟨_,rf_,Kd.ra_ (Kd.Xo aH.out (fun _ hk=>trivial)),bl_ HB⟩
                    ·rw [if_neg c31] at H;exact absurd H (by simp)
                   ·rw [if_neg gP] at H;have iH:=decide_eq_false gP;clear gP;by_cases fM:(rd aK (rd aC aA))=bH
                    ·rw [if_pos fM] at H;have iK:=beq_iff_eq.mpr fM;have iL:=bne_eq_false_iff_eq.mpr fM;clear fM;have H':=Xa.mk H;clear H;obtain ⟨Ao42,co42,jF⟩:=Kd.Yo aI.out;subst jF;have bK:0≤(aA:Int):=of_decide_eq_true (by assumption);have bM:aA<(aC.length:Int):=of_decide_eq_true (by assumption);obtain ⟨aQ,bZ,bS⟩:=Kd.Ur (Kd.R_reads' aI.out).2.2 aA bK bM;cases bZ
                     replace bK:=eq_true bK;replace bM:=eq_true bM;have bL:0≤((rd aC aA):Int):=of_decide_eq_true (by assumption);have bN:(rd aC aA)<(aK.length:Int):=of_decide_eq_true (by assumption);obtain ⟨bP,cB,aJ⟩:=Kd.Ur (Kd.R_reads' aH.out).2.2 (rd aC aA) bL bN;obtain rfl:(⟨bG,0,none⟩:Addr)=bP:=(by injection cB)
                     (first|simp only [add_plain] at aJ|simp only [add_at] at aJ|simp only [Addr.add,Nat.zero_add] at aJ|skip)
                     replace bL:=eq_true bL;replace bN:=eq_true bN;have dB:0≤(aA:Int):=of_decide_eq_true (by assumption);have dH:aA<(aC.length:Int):=of_decide_eq_true (by assumption);obtain ⟨dU,gD,eU⟩:=Kd.Ur (Kd.R_reads' aI.out).2.2 aA dB dH;obtain rfl:aQ=dU:=(by injection gD);replace dB:=eq_true dB;replace dH:=eq_true dH;have dC:0≤((rd aC aA):Int):=of_decide_eq_true (by assumption);have dI:(rd aC aA)<(aK.length:Int):=of_decide_eq_true (by assumption);obtain ⟨dV,gF,bF⟩:=Kd.Ur (Kd.R_reads' aH.out).2.2 (rd aC aA) dC dI;obtain rfl:(⟨bG,0,none⟩:Addr)=dV:=(by injection gF)
                     (first|simp only [add_plain] at bF|simp only [add_at] at bF|simp only [Addr.add,Nat.zero_add] at bF|skip)
                     replace dC:=eq_true dC;replace dI:=eq_true dI;go_wp2
                     (try simp only [← bC])
                     go_roundg k3
                     case measure=>have:=eY.out;have:=gK.out;have:=gM.out;omega
                     case rel=>exact ⟨(aK),(bQ),(wrap64 (aA+1)),rg_,H',⟨by have:=eY.out;have:=gK.out;have:=gM.out;omega⟩,⟨by (try simp only [bB]);(try simp only [bC]);(with_reducible repeat (first|apply Kd.Uh|apply Kd.Ug|apply Kd.Uz));exact aH.out⟩,⟨by (try simp only [bB]);(try simp only [bC]);(with_reducible repeat (first|apply Kd.Uh|apply Kd.Ug|apply Kd.Uz));exact aM.out⟩,⟨by (try simp only [bB]);(try simp only [bC]);(with_reducible repeat (first|apply Kd.Uh|apply Kd.Ug|apply Kd.Uz));exact aI.out⟩,⟨bl_ HB⟩⟩
                    ·rw [if_neg fM] at H;have iK:=beq_eq_false_iff_ne.mpr fM;have iL:=bne_iff_ne.mpr fM;simp only [Option.some.injEq,Prod.mk.injEq] at H;obtain ⟨rfl,rfl⟩:=H;obtain ⟨Ao43,co43,jG⟩:=Kd.Yo aI.out;subst jG;have bK:0≤(aA:Int):=of_decide_eq_true (by assumption);have bM:aA<(aC.length:Int):=of_decide_eq_true (by assumption);obtain ⟨aQ,bZ,bS⟩:=Kd.Ur (Kd.R_reads' aI.out).2.2 aA bK bM;cases bZ
                     replace bK:=eq_true bK;replace bM:=eq_true bM;have bL:0≤((rd aC aA):Int):=of_decide_eq_true (by assumption);have bN:(rd aC aA)<(aK.length:Int):=of_decide_eq_true (by assumption);obtain ⟨bP,cB,aJ⟩:=Kd.Ur (Kd.R_reads' aH.out).2.2 (rd aC aA) bL bN;obtain rfl:(⟨bG,0,none⟩:Addr)=bP:=(by injection cB)
                     (first|simp only [add_plain] at aJ|simp only [add_at] at aJ|simp only [Addr.add,Nat.zero_add] at aJ|skip)
                     replace bL:=eq_true bL;replace bN:=eq_true bN;have dB:0≤(aA:Int):=of_decide_eq_true (by assumption);have dH:aA<(aC.length:Int):=of_decide_eq_true (by assumption);obtain ⟨dU,gD,eU⟩:=Kd.Ur (Kd.R_reads' aI.out).2.2 aA dB dH;obtain rfl:aQ=dU:=(by injection gD);replace dB:=eq_true dB;replace dH:=eq_true dH;have dC:0≤((rd aC aA):Int):=of_decide_eq_true (by assumption);have dI:(rd aC aA)<(aK.length:Int):=of_decide_eq_true (by assumption);obtain ⟨dV,gF,bF⟩:=Kd.Ur (Kd.R_reads' aH.out).2.2 (rd aC aA) dC dI;obtain rfl:(⟨bG,0,none⟩:Addr)=dV:=(by injection gF)
                     (first|simp only [add_plain] at bF|simp only [add_at] at bF|simp only [Addr.add,Nat.zero_add] at bF|skip)
                     replace dC:=eq_true dC;replace dI:=eq_true dI;go_wp2
                     go_ret2
                     exact ⟨_,rf_,Kd.ra_ (Kd.Xo aH.out (fun _ hk=>trivial)),bl_ HB⟩
                  ·rw [if_neg c28] at H;exact absurd H (by simp)
                 ·rw [if_neg iW] at H;exact absurd H (by simp)
                ·rw [if_neg iV] at H;exact absurd H (by simp)
               ·rw [if_neg gN] at H;have iG:=decide_eq_false gN;clear gN;have H':=Xa.mk H;clear H;obtain ⟨Ao44,co44,jH⟩:=Kd.Yo aI.out;subst jH;go_wp2
                (try simp only [← bB,← bC])
                go_roundg k3
                case measure=>have:=eY.out;have:=gK.out;have:=gM.out;omega
                case rel=>exact ⟨(aK),(bQ),(wrap64 (aD+1)),rg_,H',⟨by have:=eY.out;have:=gK.out;have:=gM.out;omega⟩,⟨by (try simp only [bB]);(try simp only [bC]);(with_reducible repeat (first|apply Kd.Uh|apply Kd.Ug|apply Kd.Uz));exact Kd.Xo aH.out (fun _ hk=>hk.1)⟩,⟨by (try simp only [bB]);(try simp only [bC]);(with_reducible repeat (first|apply Kd.Uh|apply Kd.Ug|apply Kd.Uz));exact Kd.Xo aM.out (fun _ hk=>hk.1)⟩,⟨bl_ HB⟩⟩
            ·replace c19:=Bool.eq_false_iff.mpr c19;subst c19
             replace H:(some (bD,false))=some (r1,r2):=(by rw [if_neg (show ¬ (false=true) by decide)] at H;exact H);simp only [Option.some.injEq,Prod.mk.injEq] at H;obtain ⟨rfl,rfl⟩:=H;obtain ⟨Ao45,co45,jI⟩:=Kd.Yo aM.out;subst jI;have bT:0≤(aD:Int):=of_decide_eq_true (by assumption);have bW:aD<(aG.length:Int):=of_decide_eq_true (by assumption);obtain ⟨iB,fP,dK⟩:=Kd.Ur (Kd.R_reads' aM.out).2.2 aD bT bW;cases fP
             replace bT:=eq_true bT;replace bW:=eq_true bW
             try go_wp2
             replace aH:=Xa.mk (Kd.Uz aH.out);replace aM:=Xa.mk (Kd.Uz aM.out);replace HB:=Xa.mk (below_drew1 HB.out);have bU:0≤((rd aG aD):Int):=of_decide_eq_true (by assumption);have bX:(rd aG aD)<(l0.length:Int):=of_decide_eq_true (by assumption);obtain ⟨aW,fQ,aR,aT,aU,aV⟩:=Zv jA.out (rd aG aD) bU bX;have bA:=aV;have aZ:=aU;have aY:=aT;have aX:=aR;cases fQ
             replace aR:=bw_ HB aR;replace aT:=bw_ HB aT;replace aU:=bw_ HB aU;replace aV:=bw_ HB aV;replace bU:=eq_true bU;replace bX:=eq_true bX;have bV:0≤((rd aG aD):Int):=of_decide_eq_true (by assumption);have bY:(rd aG aD)<(bD.length:Int):=of_decide_eq_true (by assumption);obtain ⟨dO,fT,aN⟩:=Kd.Ur (Kd.R_reads' aH.out).2.2 (rd aG aD) bV bY;obtain rfl:(⟨bG,0,none⟩:Addr)=dO:=(by injection fT)
             (first|simp only [add_plain] at aN|simp only [add_at] at aN|simp only [Addr.add,Nat.zero_add] at aN|skip)
             replace bV:=eq_true bV;replace bY:=eq_true bY;refine start_ (n:=14) (S:=fun w'=>w'.cell? (aW.add (((rd aG aD)).toNat * 4))=some (.int .i64 ((Xb l0 (rd aG aD)).f0))∧w'.cell? ⟨(aW.add (((rd aG aD)).toNat * 4)).block,(aW.add (((rd aG aD)).toNat * 4)).off+1,none⟩=some (.int .i64 ((Xb l0 (rd aG aD)).f1))∧w'.cell? ⟨(aW.add (((rd aG aD)).toNat * 4)).block,(aW.add (((rd aG aD)).toNat * 4)).off+2,none⟩=some (.int .i64 ((Xb l0 (rd aG aD)).f2))∧w'.cell? ⟨(aW.add (((rd aG aD)).toNat * 4)).block,(aW.add (((rd aG aD)).toNat * 4)).off+3,none⟩=some (.int .i64 ((Xb l0 (rd aG aD)).f3))∧w'.cell? ⟨bG,((rd aG aD)).toNat,none⟩=some (.int .i64 (rd bD (rd aG aD)))) (ds:=[]) #[false,false,false,false,false,false,false,false,false,false,false,false,false,false] (by kernel_rfl) rfl rfl ⟨((HB.out.cell (World.block_lt_of_cell? w _ aX)).trans aX),((HB.out.cell (World.block_lt_of_cell? w _ aY)).trans aY),((HB.out.cell (World.block_lt_of_cell? w _ aZ)).trans aZ),((HB.out.cell (World.block_lt_of_cell? w _ bA)).trans bA),aN⟩ (fun hHeld=>?_);refine with_tabW Xp.tab12 Xp.bits12 (fun bJ gY=>?_)
             generalize wr.drew=w46 at aH aM HB aR aT aU aV aN hHeld ⊢
             refine Za (i:=0) (N:=some 37) (v:=?_) (a':=?_) #[true,false,false,false,false,false,false,false,false,false,false,false,false,false] rfl rfl (Zk bJ.out (by kernel_rfl)) (fun _ _ _ h=>h) (Or.inl ⟨by rfl,?_⟩) ?_ ?_
             rotate_left
             · exact wr_
             rotate_left
             · exact ap_
             refine Za (i:=1) (N:=some 38) (v:=?_) (a':=?_) #[true,true,false,false,false,false,false,false,false,false,false,false,false,false] rfl rfl (Zk bJ.out (by kernel_rfl)) (fun _ _ _ h=>h) (Or.inl ⟨by rfl,?_⟩) ?_ ?_
             rotate_left
             · exact wr_
             rotate_left
             · exact ap_
             refine Za (i:=2) (N:=some 39) (v:=?_) (a':=?_) #[true,true,true,false,false,false,false,false,false,false,false,false,false,false] rfl rfl (Zk bJ.out (by kernel_rfl)) (fun _ _ _ h=>h) (Or.inl ⟨by rfl,?_⟩) ?_ ?_
             rotate_left
             · exact wr_
             rotate_left
             · exact ap_
             refine Za (i:=4) (N:=some 41) (v:=?_) (a':=?_) #[true,true,true,false,true,false,false,false,false,false,false,false,false,false] rfl rfl (Zk bJ.out (by kernel_rfl)) (fun _ _ _ h=>h) (Or.inl ⟨by rfl,?_⟩) ?_ ?_
             rotate_left
             · exact wr_
             rotate_left
             · exact ap_
             refine Za (i:=5) (N:=some 42) (v:=?_) (a':=?_) #[true,true,true,false,true,true,false,false,false,false,false,false,false,false] rfl rfl (Zk bJ.out (by kernel_rfl)) (fun _ _ _ h=>h) (Or.inl ⟨by rfl,?_⟩) ?_ ?_
             rotate_left
             · exact wr_
             rotate_left
             · exact ap_
             refine Za (i:=6) (N:=some 43) (v:=?_) (a':=?_) #[true,true,true,false,true,true,true,false,false,false,false,false,false,false] rfl rfl (Zk bJ.out (by kernel_rfl)) (fun _ _ _ h=>h) (Or.inl ⟨by rfl,?_⟩) ?_ ?_
             rotate_left
             · exact wr_
             rotate_left
             · exact ap_
             refine take_ (i:=3) (N:=some 40) (v:=?_) (a':=?_) #[true,true,true,true,true,true,true,false,false,false,false,false,false,false] rfl rfl (take_ofW bJ.out gY.out (by kernel_rfl)) (fun _ _ _ h=>h) (Or.inl ⟨by rfl,?_⟩) hHeld ?_ ?_
             rotate_left
             ·rintro w' ⟨s0,s1,s2,s3,s4⟩
              go_simp
              with_reducible rfl
             rotate_left
             · exact ap_
             refine take_ (i:=7) (N:=some 44) (v:=?_) (a':=?_) #[true,true,true,true,true,true,true,true,false,false,false,false,false,false] rfl rfl (take_ofW bJ.out gY.out (by kernel_rfl)) (fun _ _ _ h=>h) (Or.inl ⟨by rfl,?_⟩) hHeld ?_ ?_
             rotate_left
             ·rintro w' ⟨s0,s1,s2,s3,s4⟩
              go_simp
              with_reducible rfl
             rotate_left
             · exact ap_
             refine one_ (i:=8) (N:=some 45) #[true,true,true,true,true,true,true,true,true,false,false,false,false,false] rfl rfl (one_of bJ.out (by kernel_rfl)) (by decide) (fun K hK=>?_)
             refine goes_ Try.func63 (by kernel_rfl) rfl #[.agg #[.int .i64 ((Xb l0 (rd aG aD)).f0),.int .i64 ((Xb l0 (rd aG aD)).f1),.int .i64 ((Xb l0 (rd aG aD)).f2),.int .i64 ((Xb l0 (rd aG aD)).f3)],.int .i64 (rd bD (rd aG aD))] (by rfl) rfl rfl ga_ ?_
             with_reducible refine (spec_l4Held.calls ((Xb l0 (rd aG aD)).f0) ((Xb l0 (rd aG aD)).f1) ((Xb l0 (rd aG aD)).f2) ((Xb l0 (rd aG aD)).f3) (rd bD (rd aG aD)) bH false _ jP.out).mono ?_
             rintro e w47 ⟨rfl,hb⟩
             have fK:=(hb.cell (World.block_lt_of_cell? _ _ (hHeld.2.2.2.2))).trans (hHeld.2.2.2.2);refine ⟨_,rfl,?_⟩
             replace aH:=Xa.mk (Kd.Zf (Kd.ra_ (aH.out)) hb);replace aM:=Xa.mk (Kd.Zf (Kd.ra_ (aM.out)) hb);replace HB:=Xa.mk (Xe (bl_ HB) hb)
             clear hb
             skip
             skip
             skip
             refine hK.out _ _ ⟨((HB.out.cell (World.block_lt_of_cell? w _ aX)).trans aX),((HB.out.cell (World.block_lt_of_cell? w _ aY)).trans aY),((HB.out.cell (World.block_lt_of_cell? w _ aZ)).trans aZ),((HB.out.cell (World.block_lt_of_cell? w _ bA)).trans bA),fK⟩ (fun hHeld=>?_)
             clear hK K;refine norm_ (a':=?_) ?_ ?_
             rotate_left
             ·show Act.put _ (some 45) _=_
              simp only [Act.put,List.setIfInBounds_toArray,List.set_cons_zero,List.set_cons_succ,Ub,Uf];rfl
             refine Za (i:=9) (N:=some 36) (v:=?_) (a':=?_) #[true,true,true,true,true,true,true,true,true,true,false,false,false,false] rfl rfl (Zk bJ.out (by kernel_rfl)) (fun _ _ _ h=>h) (Or.inl ⟨by rfl,?_⟩) ?_ ?_
             rotate_left
             · exact wr_
             rotate_left
             · exact ap_
             refine Za (i:=10) (N:=some 46) (v:=?_) (a':=?_) #[true,true,true,true,true,true,true,true,true,true,true,false,false,false] rfl rfl (Zk bJ.out (by kernel_rfl)) (fun _ _ _ h=>h) (Or.inl ⟨by rfl,?_⟩) ?_ ?_
             rotate_left
             · exact wr_
             rotate_left
             · exact ap_
             refine Za (i:=11) (N:=some 47) (v:=?_) (a':=?_) #[true,true,true,true,true,true,true,true,true,true,true,true,false,false] rfl rfl (Zk bJ.out (by kernel_rfl)) (fun _ _ _ h=>h) (Or.inl ⟨by rfl,?_⟩) ?_ ?_
             rotate_left
             · exact wr_
             rotate_left
             · exact ap_
             refine Za (i:=12) (N:=some 9) (v:=?_) (a':=?_) #[true,true,true,true,true,true,true,true,true,true,true,true,true,false] rfl rfl (Zk bJ.out (by kernel_rfl)) (fun _ _ _ h=>h) (Or.inl ⟨by rfl,?_⟩) ?_ ?_
             rotate_left
             · exact wr_
             rotate_left
             · exact ap_
             refine Za (i:=13) (N:=some 10) (v:=?_) (a':=?_) #[true,true,true,true,true,true,true,true,true,true,true,true,true,true] rfl rfl (Zk bJ.out (by kernel_rfl)) (fun _ _ _ h=>h) (Or.inl ⟨by rfl,?_⟩) ?_ ?_
             rotate_left
             · exact wr_
             rotate_left
             · exact ap_
             refine done_ (done_of bJ.out (by kernel_rfl)) ?_
             try go_wp2
             go_ret2
             exact ⟨_,rf_,Kd.ra_ (Kd.Xo aH.out (fun _ hk=>trivial)),bl_ HB⟩
           ·rw [if_neg c17] at H;exact absurd H (by simp)
          ·rw [if_neg c16] at H;exact absurd H (by simp)
         ·rw [if_neg c15] at H;exact absurd H (by simp)
        ·rw [if_neg c14] at H;exact absurd H (by simp)
       ·rw [if_neg c13] at H;have fF:=decide_eq_false c13;clear c13;simp only [Option.some.injEq,Prod.mk.injEq] at H;obtain ⟨rfl,rfl⟩:=H;obtain ⟨Ao48,co48,jJ⟩:=Kd.Yo aM.out;subst jJ;go_wp2
        go_ret2
        exact ⟨_,rf_,Kd.ra_ (Kd.Xo aH.out (fun _ hk=>trivial)),bl_ HB⟩
    ·rw [if_neg c7] at H;exact absurd H (by simp)
end Go.Proofs.Ytokajnfbiddpjaa.GSlim
