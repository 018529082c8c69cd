import Derived.Test.YtdkcjecllbdljaaCFnSlim21
import Derived.Test.YtdkcjecllbdljaaCFnSlim49
namespace Go.Proofs.Ytdkcjecllbdljaa.GSlim
open Go.RowKit Go.Proofs.YtdkcjecllbdljaaW.PrintWords Go.Proofs.YtdkcjecllbdljaaW.PrintLast Go.Proofs.YtdkcjecllbdljaaW.PrintMore
attribute [local go_sem] Zv Zx Un Uo Zm Zn Zw Zy
set_option linter.unusedVariables false
set_option linter.unusedSimpArgs false
mutual
def Xp.l0:Nat→List (S31)→List Int→Int→Option (List Int × Bool)
 |0,_,_,_=>none
 |k+1,x0,x4,x5=>if x5<(x0.length:Int) then (if x4.length<17592186044416 then (Xp.l0 k x0 (x4 ++ [(-1)]) (wrap64 (x5+1))) else (none)) else (if 0<(x4.length:Int) then (Xp.l1 k x0 (x4.set (0:Int).toNat 0) (([0]:List Int)) 0) else (none))
def Xp.l1:Nat→List (S31)→List Int→List Int→Int→Option (List Int × Bool)
 |0,_,_,_,_=>none
 |k+1,x0,x4,x6,x7=>if x7<(x6.length:Int) then (if 0≤x7 then (if 0≤(rd x6 x7) then (if (rd x6 x7)<(x0.length:Int) then (if (rd x6 x7)<(x4.length:Int) then ((spec_l4Held.f ((Xb x0 (rd x6 x7)).f0) ((Xb x0 (rd x6 x7)).f1) ((Xb x0 (rd x6 x7)).f2) ((Xb x0 (rd x6 x7)).f3) (rd x4 (rd x6 x7))).bind fun bt530=>(if bt530.2=true then ((spec_l4Next.f x0 (rd x6 x7)).bind fun t532=>(Xp.l2 k x0 x4 x6 x7 bt530.1 t532 0)) else (some (x4,false)))) else (none)) else (none)) else (none)) else (none)) else (some (x4,true))
def Xp.l2:Nat→List (S31)→List Int→List Int→Int→Int→List Int→Int→Option (List Int × Bool)
 |0,_,_,_,_,_,_,_=>none
 |k+1,x0,x4,x6,x7,x9,x11,x12=>if x12<(x11.length:Int) then (if 0≤x12 then (if 0≤(rd x11 x12) then (if (rd x11 x12)<(x4.length:Int) then (if (rd x4 (rd x11 x12))<0 then ((some (x4.set ((rd x11 x12):Int).toNat x9:List Int)).bind fun y538=>(if x6.length<17592186044416 then (if (rd y538 (rd x11 x12))=x9 then (Xp.l2 k x0 y538 (x6 ++ [rd x11 x12]) x7 x9 x11 (wrap64 (x12+1))) else (some (y538,false))) else (none))) else (if (rd x4 (rd x11 x12))=x9 then (Xp.l2 k x0 x4 x6 x7 x9 x11 (wrap64 (x12+1))) else (some (x4,false)))) else (none)) else (none)) else (none)) else (Xp.l1 k x0 x4 x6 (wrap64 (x7+1)))
end
def Xp.f (k:Nat) (l0:List (S31)):Option (List Int × Bool):=Xp.l0 k l0 (([]:List Int)) 0
def Xp.T12:Bool × List (List Nat × List Nat):=(true,[([],[]),([],[]),([0,1],[0,1]),([2],[2]),([],[]),([],[]),([4,5],[4,5]),([6],[6]),([3,7],[3,7]),([8],[8]),([9],[9]),([9],[9]),([10,8,0,1,2,3,4,5,6,7,8,9,10],[10]),([11,12,0,1,2,3,4,5,6,7,8,9,10,11,12],[11])])
def Xp.B12:List Nat:=[0,0,3,7,0,0,48,112,255,511,1023,1023,2047,8191]
theorem Xp.tab12:rtab .any (opsOf Try.f24 12)=Xp.T12:=by kernel_rfl
theorem Xp.bits12:waitsOk Xp.T12.2 Xp.B12=true:=by kernel_rfl
set_option maxHeartbeats 8000000 in
set_option maxRecDepth 100000 in
theorem Xp.calls (k:Nat) (A0:Option Addr) (c0:Nat) (l0:List (S31)) (r1:List Int) (r2:Bool) (w:World) (hr0:Kd.C k31 w A0 l0.length l0) (hc0:l0.length≤c0) (h:Xp.f k l0=some (r1,r2)) :
  Calls Try.prog 24 #[.slice A0 l0.length c0] w fun e w'=>∃ v0_:Value,e=.returned (.tuple #[v0_,.bool r2])∧Kd.R (Kd.int .i64) 3 w' w.heap.size (fun _=>True) v0_ r1∧Below w.heap.size w w':=by
 have hu31:=Try.underlying31;have HR0:=Xa.mk hr0;have HC0:=Xa.mk hc0;clear hr0 hc0;have HB:=Xa.mk (Below.refl w.heap.size w);have H:(Xp.l0 k l0 (([]:List Int)) 0)=some (r1,r2):=h;clear h;obtain ⟨y517,hy517⟩:∃ y_:List Int,y_=(([]:List Int)):=⟨_,rfl⟩
 replace H:(Xp.l0 k l0 y517 0)=some (r1,r2):=by subst hy517;first|with_reducible exact H|(have z:=(Option.bind_some _ _).symm.trans H;with_reducible exact z)|exact H
 have Ny517:=Xa.mk hy517;clear hy517;have H':=Xa.mk H;clear H
 go_enter Try.func24,Try.ntmps24
 go_wp2_with (first|((with_reducible refine Xx (N:=13) rfl ?_);refine Kd.Vq (Kd.int .i64) _ 3 ?hg (N:=13) ?hd (xs:=([]:List Int)) (inner:=[]) (ok:=fun _=>True) (okp:=fun _=>True) ?hr ?hp (fun _ hk=>hk) trivial (Below.refl _ _) (Nat.le_refl _) (by simp) ?_;(case hd=>rfl);(case hg=>rfl);(case hr=>first|(go_simp;done)|(go_simp;rfl));(case hp=>exact (Yl.none _ _));intro v518 w2 ho3 hb hg_ hnew_;clear hg_ hnew_;(first|rw [← Ny517.out] at ho3|(simp only [Int.reduceToNat] at ho3;rw [← Ny517.out] at ho3));have n0_:=Xa.mk (Kd.Yg ho3 (Xc (bl_ HB)));have n1_:=Xa.mk (Xd (bl_ HB) hb);clear HB;have HO519:=n0_;have HB:=n1_;clear n0_ n1_;clear hb ho3))
 go_loopg [4,5] k (fun kq v4 v5 w'=>∃ (x4_1:List Int) (x5_1:Int),v5=.int .i64 x5_1∧Xa (Xp.l0 kq l0 x4_1 x5_1=some (r1,r2))∧Xa (kq≤k)∧Xa (Kd.R (Kd.int .i64) 3 w' w.heap.size (fun _=>True) v4 x4_1)∧Xa (Below w.heap.size w w'))
 case atStart=>exact ⟨(y517),(0),(by first|rfl|(simp;done)|(simp [*];done)),H',⟨Nat.le_refl _⟩,⟨Kd.ra_ (HO519.out)⟩,⟨bl_ HB⟩⟩
 case round=>
  clear H'
  try clear c2
  try clear p2
  obtain ⟨x4_1,x5_1,rfl,HA,HK1,HO_4,HB⟩:=hrel
  cases gk with
  |zero=>exact absurd HA.out (by simp [Xp.l0])
  |succ k1=>
   have H:=HA.out;clear HA;simp only [Xp.l0] at H;by_cases c4:x5_1<(l0.length:Int)
   ·rw [if_pos c4] at H;have c4b0:decide (x5_1<(l0.length:Int))=true:=decide_eq_true c4;clear c4;by_cases c5:x4_1.length<17592186044416
    ·rw [if_pos c5] at H;have LMc5:=Xa.mk c5;clear c5;obtain ⟨y520,hy520⟩:∃ y_:List Int,y_=(x4_1 ++ [(-1)]):=⟨_,rfl⟩
     replace H:(Xp.l0 k1 l0 y520 (wrap64 (x5_1+1)))=some (r1,r2):=by subst hy520;first|with_reducible exact H|(have z:=(Option.bind_some _ _).symm.trans H;with_reducible exact z)|exact H
     have Ny520:=Xa.mk hy520;clear hy520;have H':=Xa.mk H;clear H;go_wp2_with (first|((with_reducible refine Yp (b:=.append) (xs:=#[.tmp 20,.tmp 21]) rfl ?_);at_builtin;refine Kd.Vo (Kd.int .i64) (w0:=w) w.heap.size rfl (.tmp 20) (.tmp 21) 34 3 (.int .i64 0) 8 rfl Try.underlying34 info3 rfl (by decide) (by omega) u4 x4_1 (-1) [.int .i64 (-1)] (fun _=>True) (fun _=>False) rfl rfl ?aP (fun _ hk=>hk.elim) ?aF ?aO ?aB ?aS ?aL ?_;(case aP=>exact rfl);(case aB=>exact (bl_ HB));(case aF=>exact (fun _ _=>trivial));(case aO=>exact (Kd.ra_ (HO_4.out)));(case aS=>exact (Xc (bl_ HB)));(case aL=>have:=LMc5.out;omega);intro v521 w6 ho hb hg hat;rw [← Ny520.out] at ho;have n0_:=Xa.mk (hb);have n1_:=Xa.mk (ho);clear HB;clear HO_4;have HB:=n0_;have HO522:=n1_;clear n0_ n1_;clear ho hb hg hat))
     go_roundg k1
     case measure=>have:=HK1.out;omega
     case rel=>exact ⟨(y520),(wrap64 (x5_1+1)),(by first|rfl|(simp;done)|(simp [*];done)),H',⟨by have:=HK1.out;omega⟩,⟨Kd.ra_ (HO522.out)⟩,⟨bl_ HB⟩⟩
    ·rw [if_neg c5] at H;exact absurd H (by simp)
   ·rw [if_neg c4] at H;have c4b0:decide (x5_1<(l0.length:Int))=false:=decide_eq_false c4;clear c4;by_cases c7:0<(x4_1.length:Int)
    ·rw [if_pos c7] at H;have c7b0:decide (0<(x4_1.length:Int))=true:=decide_eq_true c7;have c7b1:decide (0<x4_1.length)=true:=decide_eq_true (by omega);clear c7;obtain ⟨y523,hy523⟩:∃ y_:List Int,y_=(x4_1.set (0:Int).toNat 0):=⟨_,rfl⟩
     replace H:(Xp.l1 k1 l0 y523 (([0]:List Int)) 0)=some (r1,r2):=by subst hy523;first|with_reducible exact H|(have z:=(Option.bind_some _ _).symm.trans H;with_reducible exact z)|exact H
     have Ny523:=Xa.mk hy523;clear hy523;obtain ⟨y524,hy524⟩:∃ y_:List Int,y_=(([0]:List Int)):=⟨_,rfl⟩
     replace H:(Xp.l1 k1 l0 y523 y524 0)=some (r1,r2):=by subst hy524;first|with_reducible exact H|(have z:=(Option.bind_some _ _).symm.trans H;with_reducible exact z)|exact H
     have Ny524:=Xa.mk hy524;clear hy524;have H':=Xa.mk H;clear H;have p8:0≤(0:Int):=(by omega);have q8:(0:Int)<((x4_1.length:Int):Int):=of_decide_eq_true (by first|(with_reducible assumption)|assumption);have qi8:(0<x4_1.length)=True:=eq_true (by omega);obtain ⟨go8,co8,eo8,gb8,gl8,cl8,HG8⟩:=Kd.R_form HO_4.out (by omega)
     (first|cases eo8|(injection eo8 with ea_ en_ ec_;(first|subst ea_|(injection ea_ with ea_;subst ea_));subst ec_;clear en_))
     have GB8:=Xa.mk gb8;have GG8:=Xa.mk HG8;clear gb8 gl8 HG8;obtain ⟨hx8_0,hf8_0⟩:=Kd.R_celln 0 HO_4.out (0:Int) p8 q8
     (try rw [show ((0:Int)).toNat=0 from rfl] at hx8_0)
     (try simp only [Nat.reduceMul,Nat.zero_mul,Nat.zero_add,Nat.reduceAdd] at hx8_0)
     (try rw [show ((0:Int)).toNat=0 from rfl] at hf8_0)
     (try simp only [Nat.reduceMul,Nat.zero_mul,Nat.zero_add,Nat.reduceAdd] at hf8_0)
     replace p8:=eq_true p8;replace q8:=eq_true q8;have HP9:=Kd.R_putg HO_4.out (0:Int) 0;go_wp2_with (first|((with_reducible refine gate_store (t:=3) (p:=24) rfl ?_);refine Wh (t:=3) (p:=24) (v:=?vo_w10) (w1:=(wr.setCell ⟨go8,(0:Int).toNat,none⟩ (.int .i64 0))) ?hg ?ho ?hn ?hr ?_;(case ho=>rfl);(case hg=>rfl);(case hn=>rfl);(case hr=>first|(go_simp;done)|(go_simp;rfl));intro w10 hw;have hg:wr.grownBy w10 (some go8):=(by rw [hw];exact HP9.2);have hp_:Kd.R (Kd.int .i64) 3 w10 w.heap.size (fun _=>True) (.slice (some ⟨go8,0,none⟩) x4_1.length co8) y523:=(by rw [hw,Ny523.out];exact HP9.1);clear HP9;have n0_:=Xa.mk (hp_);have n1_:=Xa.mk ((by rw [hw];exact below_set (HB.out) GB8.out:Below w.heap.size w w10));clear HO_4;clear HB;have HO_4:=n0_;have HB:=n1_;clear n0_ n1_;clear hg hw hp_)|((with_reducible refine Xx (N:=25) rfl ?_);refine Kd.Vq (Kd.int .i64) _ 3 ?hg (N:=25) ?hd (xs:=([0]:List Int)) (inner:=[.int .i64 0]) (ok:=fun _=>True) (okp:=fun _=>True) ?hr ?hp (fun _ hk=>hk) trivial (Below.refl _ _) (Nat.le_refl _) (by simp) ?_;(case hd=>rfl);(case hg=>rfl);(case hr=>first|(go_simp;done)|(go_simp;rfl));(case hp=>exact (Yl.one (show Kd.M (Kd.int .i64) _ _ _ 0 [.int .i64 0] from rfl) (Yl.none _ _)));intro v525 w11 ho12 hb hg_ hnew_;clear hg_ hnew_;(first|rw [← Ny524.out] at ho12|(simp only [Int.reduceToNat] at ho12;rw [← Ny524.out] at ho12));have n0_:=Xa.mk (Kd.R_elder' (Kd.ra_ (HO_4.out)) (Kd.Zj ho12) hb);have n1_:=Xa.mk (Kd.Yg (Kd.R_new' ho12 (Kd.Ut (Kd.ra_ (HO_4.out)))) (Xc (bl_ HB)));have n2_:=Xa.mk (Xd (bl_ HB) hb);clear HO_4;clear HB;have HO_4:=n0_;have HO526:=n1_;have HB:=n2_;clear n0_ n1_ n2_;clear hb ho12))
     go_loopg [6,7] k1 (fun kq v6 v7 w'=>∃ (x4_2:List Int) (x6_2:List Int) (x7_2:Int),v7=.int .i64 x7_2∧Xa (Xp.l1 kq l0 x4_2 x6_2 x7_2=some (r1,r2))∧Xa (kq≤k1)∧Xa (Kd.R (Kd.int .i64) 3 w' w.heap.size (fun k_=>some k_≠(v6:Value).ownBlock) (.slice (some ⟨go8,0,none⟩) x4_1.length co8) x4_2)∧Xa (Kd.R (Kd.int .i64) 3 w' w.heap.size (fun k_=>some k_≠((.slice (some ⟨go8,0,none⟩) x4_1.length co8):Value).ownBlock) v6 x6_2)∧Xa (Below w.heap.size w w'))
     case atStart=>exact ⟨(y523),(y524),(0),(by first|rfl|(simp;done)|(simp [*];done)),H',⟨Nat.le_refl _⟩,⟨Kd.ra_ (Kd.Xn HO_4.out (fun _ hk=>hk.2))⟩,⟨Kd.ra_ (Kd.Xn HO526.out (fun _ hk=>hk.2))⟩,⟨bl_ HB⟩⟩
     case round=>
      clear H'
      try clear c2
      try clear p2
      try clear c4
      try clear c4b0
      try clear c5
      try clear p6
      try clear c7
      try clear c7b0
      try clear c7b1
      try clear p8
      try clear q8
      try clear hx8
      try clear qi8
      try clear hf8
      try clear hx8_0
      try clear p2
      try clear p8
      try clear q8
      obtain ⟨x4_2,x6_2,x7_2,rfl,HA,HK2,HO_4,HO_6,HB⟩:=hrel;have hl4_2:=(Kd.R_reads' HO_4.out).1;rw [hl4_2] at HO_4
      (try simp only [hl4_2])
      (try simp only [hl4_2] at HO_6)
      cases gk with
      |zero=>exact absurd HA.out (by simp [Xp.l1])
      |succ k2=>
       have H:=HA.out;clear HA;simp only [Xp.l1] at H;by_cases c13:x7_2<(x6_2.length:Int)
       ·rw [if_pos c13] at H;have c13b0:decide (x7_2<(x6_2.length:Int))=true:=decide_eq_true c13;clear c13;by_cases c14:0≤x7_2
        ·rw [if_pos c14] at H;have c14b0:decide (0≤x7_2)=true:=decide_eq_true c14;clear c14;by_cases c15:0≤(rd x6_2 x7_2)
         ·rw [if_pos c15] at H;have c15b0:decide (0≤(rd x6_2 x7_2))=true:=decide_eq_true c15;clear c15;by_cases c16:(rd x6_2 x7_2)<(l0.length:Int)
          ·rw [if_pos c16] at H;have c16b0:decide ((rd x6_2 x7_2)<(l0.length:Int))=true:=decide_eq_true c16;clear c16;by_cases c17:(rd x6_2 x7_2)<(x4_2.length:Int)
           ·rw [if_pos c17] at H;have c17b0:decide ((rd x6_2 x7_2)<(x4_2.length:Int))=true:=decide_eq_true c17;clear c17;replace H:=Option.bind_eq_some_iff.mp H;obtain ⟨⟨t530,t531⟩,A180,H⟩:=H;replace H:(if t531=true then ((spec_l4Next.f l0 (rd x6_2 x7_2)).bind fun t532=>(Xp.l2 k2 l0 x4_2 x6_2 x7_2 t530 t532 0)) else (some (x4_2,false)))=some (r1,r2):=H;have A18:=Xa.mk A180;clear A180;by_cases c19:t531=true
            ·subst c19
             have H1:((spec_l4Next.f l0 (rd x6_2 x7_2)).bind fun t532=>(Xp.l2 k2 l0 x4_2 x6_2 x7_2 t530 t532 0))=some (r1,r2):=by rw [if_pos rfl] at H;exact H
             clear H;have H:=H1;clear H1;replace H:=Option.bind_eq_some_iff.mp H;obtain ⟨t532,A200,H⟩:=H;replace H:(Xp.l2 k2 l0 x4_2 x6_2 x7_2 t530 t532 0)=some (r1,r2):=H;have A20:=Xa.mk A200;clear A200;have H':=Xa.mk H;clear H;obtain ⟨Ao21,co21,eo21⟩:=Kd.Yr HO_6.out;subst eo21;have p527:0≤(x7_2:Int):=of_decide_eq_true (by first|(with_reducible assumption)|assumption);have q527:x7_2<(x6_2.length:Int):=of_decide_eq_true (by first|(with_reducible assumption)|assumption);obtain ⟨ad527,e527,hx527_0⟩:=Kd.Uv (Kd.R_reads' HO_6.out).2.2 x7_2 p527 q527;cases e527
             replace p527:=eq_true p527;replace q527:=eq_true q527
             try go_wp2
             have n0_:=Xa.mk (Kd.Va HO_4.out);have n1_:=Xa.mk (Kd.Va HO_6.out);have n2_:=Xa.mk (below_drew1 HB.out);clear HO_4;clear HO_6;clear HB;have HO_4:=n0_;have HO_6:=n1_;have HB:=n2_;clear n0_ n1_ n2_;have p528:0≤((rd x6_2 x7_2):Int):=of_decide_eq_true (by first|(with_reducible assumption)|assumption);have q528:(rd x6_2 x7_2)<(l0.length:Int):=of_decide_eq_true (by first|(with_reducible assumption)|assumption);obtain ⟨ad528,e528,hx528_0,hx528_1,hx528_2,hx528_3⟩:=Zt HR0.out (rd x6_2 x7_2) p528 q528;have hw528_3:=hx528_3;have hw528_2:=hx528_2;have hw528_1:=hx528_1;have hw528_0:=hx528_0;cases e528
             replace hx528_0:=(HB.out.cell (World.block_lt_of_cell? w _ hx528_0)).trans hx528_0;replace hx528_1:=(HB.out.cell (World.block_lt_of_cell? w _ hx528_1)).trans hx528_1;replace hx528_2:=(HB.out.cell (World.block_lt_of_cell? w _ hx528_2)).trans hx528_2;replace hx528_3:=(HB.out.cell (World.block_lt_of_cell? w _ hx528_3)).trans hx528_3;replace p528:=eq_true p528;replace q528:=eq_true q528;have p529:0≤((rd x6_2 x7_2):Int):=of_decide_eq_true (by first|(with_reducible assumption)|assumption);have q529:(rd x6_2 x7_2)<(x4_2.length:Int):=of_decide_eq_true (by first|(with_reducible assumption)|assumption);obtain ⟨ad529,e529,hx529_0⟩:=Kd.Uv (Kd.R_reads' HO_4.out).2.2 (rd x6_2 x7_2) p529 q529;obtain rfl:(⟨go8,0,none⟩:Addr)=ad529:=(by injection e529)
             (first|simp only [add_plain] at hx529_0|simp only [add_at] at hx529_0|simp only [Addr.add,Nat.zero_add] at hx529_0|skip)
             replace p529:=eq_true p529;replace q529:=eq_true q529;refine start_ (n:=14) (S:=fun w'=>w'.cell? (ad528.add (((rd x6_2 x7_2)).toNat * 4))=some (.int .i64 ((Xb l0 (rd x6_2 x7_2)).f0))∧w'.cell? ⟨(ad528.add (((rd x6_2 x7_2)).toNat * 4)).block,(ad528.add (((rd x6_2 x7_2)).toNat * 4)).off+1,none⟩=some (.int .i64 ((Xb l0 (rd x6_2 x7_2)).f1))∧w'.cell? ⟨(ad528.add (((rd x6_2 x7_2)).toNat * 4)).block,(ad528.add (((rd x6_2 x7_2)).toNat * 4)).off+2,none⟩=some (.int .i64 ((Xb l0 (rd x6_2 x7_2)).f2))∧w'.cell? ⟨(ad528.add (((rd x6_2 x7_2)).toNat * 4)).block,(ad528.add (((rd x6_2 x7_2)).toNat * 4)).off+3,none⟩=some (.int .i64 ((Xb l0 (rd x6_2 x7_2)).f3))∧w'.cell? ⟨go8,((rd x6_2 x7_2)).toNat,none⟩=some (.int .i64 (rd x4_2 (rd x6_2 x7_2)))) (ds:=[]) #[false,false,false,false,false,false,false,false,false,false,false,false,false,false] (by kernel_rfl) rfl rfl ⟨((HB.out.cell (World.block_lt_of_cell? w _ hw528_0)).trans hw528_0),((HB.out.cell (World.block_lt_of_cell? w _ hw528_1)).trans hw528_1),((HB.out.cell (World.block_lt_of_cell? w _ hw528_2)).trans hw528_2),((HB.out.cell (World.block_lt_of_cell? w _ hw528_3)).trans hw528_3),hx529_0⟩ (fun hHeld=>?_);refine with_tabW Xp.tab12 Xp.bits12 (fun HT_ HW_=>?_)
             generalize wr.drew=w22 at HO_4 HO_6 HB hx528_0 hx528_1 hx528_2 hx528_3 hx529_0 hHeld ⊢
             refine Zf (i:=0) (N:=some 37) (v:=?_) (a':=?_) #[true,false,false,false,false,false,false,false,false,false,false,false,false,false] rfl rfl (Za HT_.out (by kernel_rfl)) (fun _ _ _ h=>h) (Or.inl ⟨by rfl,?_⟩) ?_ ?_
             rotate_left
             ·intro w';go_simp
              with_reducible rfl
             rotate_left
             ·simp only [Act.put,List.setIfInBounds_toArray,List.set_cons_zero,List.set_cons_succ,Xy,Xz];rfl
             refine Zf (i:=1) (N:=some 38) (v:=?_) (a':=?_) #[true,true,false,false,false,false,false,false,false,false,false,false,false,false] rfl rfl (Za HT_.out (by kernel_rfl)) (fun _ _ _ h=>h) (Or.inl ⟨by rfl,?_⟩) ?_ ?_
             rotate_left
             ·intro w';go_simp
              with_reducible rfl
             rotate_left
             ·simp only [Act.put,List.setIfInBounds_toArray,List.set_cons_zero,List.set_cons_succ,Xy,Xz];rfl
             refine Zf (i:=2) (N:=some 39) (v:=?_) (a':=?_) #[true,true,true,false,false,false,false,false,false,false,false,false,false,false] rfl rfl (Za HT_.out (by kernel_rfl)) (fun _ _ _ h=>h) (Or.inl ⟨by rfl,?_⟩) ?_ ?_
             rotate_left
             ·intro w';go_simp
              with_reducible rfl
             rotate_left
             ·simp only [Act.put,List.setIfInBounds_toArray,List.set_cons_zero,List.set_cons_succ,Xy,Xz];rfl
             refine Zf (i:=4) (N:=some 41) (v:=?_) (a':=?_) #[true,true,true,false,true,false,false,false,false,false,false,false,false,false] rfl rfl (Za HT_.out (by kernel_rfl)) (fun _ _ _ h=>h) (Or.inl ⟨by rfl,?_⟩) ?_ ?_
             rotate_left
             ·intro w';go_simp
              with_reducible rfl
             rotate_left
             ·simp only [Act.put,List.setIfInBounds_toArray,List.set_cons_zero,List.set_cons_succ,Xy,Xz];rfl
             refine Zf (i:=5) (N:=some 42) (v:=?_) (a':=?_) #[true,true,true,false,true,true,false,false,false,false,false,false,false,false] rfl rfl (Za HT_.out (by kernel_rfl)) (fun _ _ _ h=>h) (Or.inl ⟨by rfl,?_⟩) ?_ ?_
             rotate_left
             ·intro w';go_simp
              with_reducible rfl
             rotate_left
             ·simp only [Act.put,List.setIfInBounds_toArray,List.set_cons_zero,List.set_cons_succ,Xy,Xz];rfl
             refine Zf (i:=6) (N:=some 43) (v:=?_) (a':=?_) #[true,true,true,false,true,true,true,false,false,false,false,false,false,false] rfl rfl (Za HT_.out (by kernel_rfl)) (fun _ _ _ h=>h) (Or.inl ⟨by rfl,?_⟩) ?_ ?_
             rotate_left
             ·intro w';go_simp
              with_reducible rfl
             rotate_left
             ·simp only [Act.put,List.setIfInBounds_toArray,List.set_cons_zero,List.set_cons_succ,Xy,Xz];rfl
             refine take_ (i:=3) (N:=some 40) (v:=?_) (a':=?_) #[true,true,true,true,true,true,true,false,false,false,false,false,false,false] rfl rfl (take_ofW HT_.out HW_.out (by kernel_rfl)) (fun _ _ _ h=>h) (Or.inl ⟨by rfl,?_⟩) hHeld ?_ ?_
             rotate_left
             ·rintro w' ⟨s0,s1,s2,s3,s4⟩
              go_simp
              with_reducible rfl
             rotate_left
             ·simp only [Act.put,List.setIfInBounds_toArray,List.set_cons_zero,List.set_cons_succ,Xy,Xz];rfl
             refine take_ (i:=7) (N:=some 44) (v:=?_) (a':=?_) #[true,true,true,true,true,true,true,true,false,false,false,false,false,false] rfl rfl (take_ofW HT_.out HW_.out (by kernel_rfl)) (fun _ _ _ h=>h) (Or.inl ⟨by rfl,?_⟩) hHeld ?_ ?_
             rotate_left
             ·rintro w' ⟨s0,s1,s2,s3,s4⟩
              go_simp
              with_reducible rfl
             rotate_left
             ·simp only [Act.put,List.setIfInBounds_toArray,List.set_cons_zero,List.set_cons_succ,Xy,Xz];rfl
             refine one_ (i:=8) (N:=some 45) #[true,true,true,true,true,true,true,true,true,false,false,false,false,false] rfl rfl (one_of HT_.out (by kernel_rfl)) (by decide) (fun K hK=>?_)
             refine goes_ Try.func39 (by kernel_rfl) rfl #[.agg #[.int .i64 ((Xb l0 (rd x6_2 x7_2)).f0),.int .i64 ((Xb l0 (rd x6_2 x7_2)).f1),.int .i64 ((Xb l0 (rd x6_2 x7_2)).f2),.int .i64 ((Xb l0 (rd x6_2 x7_2)).f3)],.int .i64 (rd x4_2 (rd x6_2 x7_2))] (by rfl) rfl rfl ga_ ?_
             with_reducible refine (spec_l4Held.calls ((Xb l0 (rd x6_2 x7_2)).f0) ((Xb l0 (rd x6_2 x7_2)).f1) ((Xb l0 (rd x6_2 x7_2)).f2) ((Xb l0 (rd x6_2 x7_2)).f3) (rd x4_2 (rd x6_2 x7_2)) t530 true _ A18.out).mono ?_
             rintro e w23 ⟨rfl,hb⟩
             have HS4_:=(hb.cell (World.block_lt_of_cell? _ _ (hHeld.2.2.2.2))).trans (hHeld.2.2.2.2);refine ⟨_,rfl,?_⟩
             have n0_:=Xa.mk (Kd.Zl (Kd.ra_ (HO_4.out)) hb);have n1_:=Xa.mk (Kd.Zl (Kd.ra_ (HO_6.out)) hb);have n2_:=Xa.mk (Xd (bl_ HB) hb);clear HO_4;clear HO_6;clear HB;have HO_4:=n0_;have HO_6:=n1_;have HB:=n2_;clear n0_ n1_ n2_
             (try clear hb)
             (try clear hb2)
             (try clear hk)
             (try clear hi)
             refine hK.out _ _ ⟨((HB.out.cell (World.block_lt_of_cell? w _ hw528_0)).trans hw528_0),((HB.out.cell (World.block_lt_of_cell? w _ hw528_1)).trans hw528_1),((HB.out.cell (World.block_lt_of_cell? w _ hw528_2)).trans hw528_2),((HB.out.cell (World.block_lt_of_cell? w _ hw528_3)).trans hw528_3),HS4_⟩ (fun hHeld=>?_)
             clear hK K;refine Vr (a':=?_) ?_ ?_
             rotate_left
             ·show Act.put _ (some 45) _=_
              simp only [Act.put,List.setIfInBounds_toArray,List.set_cons_zero,List.set_cons_succ,Xy,Xz];rfl
             refine Zf (i:=9) (N:=some 36) (v:=?_) (a':=?_) #[true,true,true,true,true,true,true,true,true,true,false,false,false,false] rfl rfl (Za HT_.out (by kernel_rfl)) (fun _ _ _ h=>h) (Or.inl ⟨by rfl,?_⟩) ?_ ?_
             rotate_left
             ·intro w';go_simp
              with_reducible rfl
             rotate_left
             ·simp only [Act.put,List.setIfInBounds_toArray,List.set_cons_zero,List.set_cons_succ,Xy,Xz];rfl
             refine Zf (i:=10) (N:=some 46) (v:=?_) (a':=?_) #[true,true,true,true,true,true,true,true,true,true,true,false,false,false] rfl rfl (Za HT_.out (by kernel_rfl)) (fun _ _ _ h=>h) (Or.inl ⟨by rfl,?_⟩) ?_ ?_
             rotate_left
             ·intro w';go_simp
              with_reducible rfl
             rotate_left
             ·simp only [Act.put,List.setIfInBounds_toArray,List.set_cons_zero,List.set_cons_succ,Xy,Xz];rfl
             refine Zf (i:=11) (N:=some 47) (v:=?_) (a':=?_) #[true,true,true,true,true,true,true,true,true,true,true,true,false,false] rfl rfl (Za HT_.out (by kernel_rfl)) (fun _ _ _ h=>h) (Or.inl ⟨by rfl,?_⟩) ?_ ?_
             rotate_left
             ·intro w';go_simp
              with_reducible rfl
             rotate_left
             ·simp only [Act.put,List.setIfInBounds_toArray,List.set_cons_zero,List.set_cons_succ,Xy,Xz];rfl
             refine Zf (i:=12) (N:=some 9) (v:=?_) (a':=?_) #[true,true,true,true,true,true,true,true,true,true,true,true,true,false] rfl rfl (Za HT_.out (by kernel_rfl)) (fun _ _ _ h=>h) (Or.inl ⟨by rfl,?_⟩) ?_ ?_
             rotate_left
             ·intro w';go_simp
              with_reducible rfl
             rotate_left
             ·simp only [Act.put,List.setIfInBounds_toArray,List.set_cons_zero,List.set_cons_succ,Xy,Xz];rfl
             refine Zf (i:=13) (N:=some 10) (v:=?_) (a':=?_) #[true,true,true,true,true,true,true,true,true,true,true,true,true,true] rfl rfl (Za HT_.out (by kernel_rfl)) (fun _ _ _ h=>h) (Or.inl ⟨by rfl,?_⟩) ?_ ?_
             rotate_left
             ·intro w';go_simp
              with_reducible rfl
             rotate_left
             ·simp only [Act.put,List.setIfInBounds_toArray,List.set_cons_zero,List.set_cons_succ,Xy,Xz];rfl
             refine done_ (done_of HT_.out (by kernel_rfl)) ?_
             try go_wp2_with (first|((with_reducible refine Xf (f:=40) rfl ?_);refine Yf (some 53) rfl rfl Try.func40 (by kernel_rfl) rfl #[.slice (some ad528) l0.length c0,.int .i64 (rd x6_2 x7_2)] rfl ga_ ?_;(with_reducible refine (spec_l4Next.calls _ _ l0 (rd x6_2 x7_2) t532 _ ?side1 ?side2 A20.out).mono ?_);(case side1=>repeat (first|exact (Kd.Zi HR0.out HB.out)|(with_reducible refine Kd.Xq ?_ _)|(with_reducible refine Kd.Xr ?_ _)|(with_reducible refine Kd.Yc ?_)));(case side2=>exact HC0.out);rintro e w24 ⟨v533,rfl,ho0,hb⟩;refine ⟨_,rfl,?_⟩;have n0_:=Xa.mk (Kd.R_elder' (Kd.ra_ (HO_4.out)) (Kd.Zj ho0) hb);have n1_:=Xa.mk (Kd.R_elder' (Kd.ra_ (HO_6.out)) (Kd.Zj ho0) hb);have n2_:=Xa.mk (Kd.Yg (Kd.R_new' (Kd.R_new' ho0 (Kd.Ut (Kd.ra_ (HO_4.out)))) (Kd.Ut (Kd.ra_ (HO_6.out)))) (Xc (bl_ HB)));have n3_:=Xa.mk (Xd (bl_ HB) hb);clear HO_4;clear HO_6;clear HB;have HO_4:=n0_;have HO_6:=n1_;have HO534:=n2_;have HB:=n3_;clear n0_ n1_ n2_ n3_;(try clear hb);(try clear hb2);(try clear hk);(try clear hi);(try clear ho0)))
             go_loopg [6,12] k2 (fun kq v6 v12 w'=>∃ (x4_3:List Int) (x6_3:List Int) (x12_3:Int),v12=.int .i64 x12_3∧Xa (Xp.l2 kq l0 x4_3 x6_3 x7_2 t530 t532 x12_3=some (r1,r2))∧Xa (kq≤k2)∧Xa (Kd.R (Kd.int .i64) 3 w' w.heap.size (fun k_=>some k_≠(v6:Value).ownBlock∧some k_≠(v533:Value).ownBlock) (.slice (some ⟨go8,0,none⟩) x4_2.length co8) x4_3)∧Xa (Kd.R (Kd.int .i64) 3 w' w.heap.size (fun k_=>some k_≠((.slice (some ⟨go8,0,none⟩) x4_2.length co8):Value).ownBlock∧some k_≠(v533:Value).ownBlock) v6 x6_3)∧Xa (Kd.R (Kd.int .i64) 3 w' w.heap.size (fun k_=>some k_≠((.slice (some ⟨go8,0,none⟩) x4_2.length co8):Value).ownBlock∧some k_≠(v6:Value).ownBlock) v533 t532)∧Xa (Below w.heap.size w w'))
             case atStart=>exact ⟨(x4_2),(x6_2),(0),(by first|rfl|(simp;done)|(simp [*];done)),H',⟨Nat.le_refl _⟩,⟨by (try simp only [hl4_2]);(with_reducible repeat (first|apply Kd.Ud|apply Kd.Ua|apply Kd.Va));exact HO_4.out⟩,⟨by (try simp only [hl4_2]);(with_reducible repeat (first|apply Kd.Ud|apply Kd.Ua|apply Kd.Va));exact HO_6.out⟩,⟨by (try simp only [hl4_2]);(with_reducible repeat (first|apply Kd.Ud|apply Kd.Ua|apply Kd.Va));exact Kd.Xn HO534.out (fun _ hk=>⟨hk.1.2,hk.2⟩)⟩,⟨bl_ HB⟩⟩
             case round=>
              clear H'
              try clear c1
              try clear c2
              try clear p2
              try clear c3
              try clear c4
              try clear c4b0
              try clear c5
              try clear p5
              try clear q5
              try clear hx5
              try clear p6
              try clear c7
              try clear c7b0
              try clear c7b1
              try clear p8
              try clear q8
              try clear hx8
              try clear qi8
              try clear hf8
              try clear c13
              try clear c13b0
              try clear c14
              try clear c14b0
              try clear c15
              try clear c15b0
              try clear c16
              try clear c16b0
              try clear c17
              try clear c17b0
              try clear c19
              try clear c24
              try clear hx527_0
              try clear hx528_0
              try clear hx528_1
              try clear hx528_2
              try clear hx528_3
              try clear hx529_0
              try clear hx8_0
              try clear p2
              try clear p527
              try clear p528
              try clear p529
              try clear p6
              try clear p8
              try clear q527
              try clear q528
              try clear q529
              try clear q8
              obtain ⟨x4_3,x6_3,x12_3,rfl,HA,HK3,HO_4,HO_6,HO_11,HB⟩:=hrel;have hl4_3:=(Kd.R_reads' HO_4.out).1;rw [hl4_3] at HO_4
              (try simp only [hl4_3])
              (try simp only [hl4_3] at HO_6)
              (try simp only [hl4_3] at HO_11)
              cases gk with
              |zero=>exact absurd HA.out (by simp [Xp.l2])
              |succ k3=>
               have H:=HA.out;clear HA;simp only [Xp.l2] at H;by_cases c25:x12_3<(t532.length:Int)
               ·rw [if_pos c25] at H;have c25b0:decide (x12_3<(t532.length:Int))=true:=decide_eq_true c25;clear c25;by_cases c26:0≤x12_3
                ·rw [if_pos c26] at H;have c26b0:decide (0≤x12_3)=true:=decide_eq_true c26;clear c26;by_cases c27:0≤(rd t532 x12_3)
                 ·rw [if_pos c27] at H;have c27b0:decide (0≤(rd t532 x12_3))=true:=decide_eq_true c27;clear c27;by_cases c28:(rd t532 x12_3)<(x4_3.length:Int)
                  ·rw [if_pos c28] at H;have c28b0:decide ((rd t532 x12_3)<(x4_3.length:Int))=true:=decide_eq_true c28;clear c28;by_cases c29:(rd x4_3 (rd t532 x12_3))<0
                   ·rw [if_pos c29] at H;have c29b0:decide ((rd x4_3 (rd t532 x12_3))<0)=true:=decide_eq_true c29;clear c29;obtain ⟨y538,hy538⟩:∃ y_:List Int,y_=(x4_3.set ((rd t532 x12_3):Int).toNat t530):=⟨_,rfl⟩
                    replace H:(if x6_3.length<17592186044416 then (if (rd y538 (rd t532 x12_3))=t530 then (Xp.l2 k3 l0 y538 (x6_3 ++ [rd t532 x12_3]) x7_2 t530 t532 (wrap64 (x12_3+1))) else (some (y538,false))) else (none))=some (r1,r2):=by subst hy538;first|with_reducible exact H|(have z:=(Option.bind_some _ _).symm.trans H;with_reducible exact z)|exact H
                    have Ny538:=Xa.mk hy538;clear hy538;by_cases c31:x6_3.length<17592186044416
                    ·rw [if_pos c31] at H;have LMc31:=Xa.mk c31;clear c31;obtain ⟨y540,hy540⟩:∃ y_:List Int,y_=(x6_3 ++ [rd t532 x12_3]):=⟨_,rfl⟩
                     replace H:(if (rd y538 (rd t532 x12_3))=t530 then (Xp.l2 k3 l0 y538 y540 x7_2 t530 t532 (wrap64 (x12_3+1))) else (some (y538,false)))=some (r1,r2):=by subst hy540;first|with_reducible exact H|(have z:=(Option.bind_some _ _).symm.trans H;with_reducible exact z)|exact H
                     have Ny540:=Xa.mk hy540;clear hy540;by_cases c32:(rd y538 (rd t532 x12_3))=t530
                     ·rw [if_pos c32] at H;have c32b0:((rd y538 (rd t532 x12_3)) == t530)=true:=beq_iff_eq.mpr c32;have c32b1:((rd y538 (rd t532 x12_3)) != t530)=false:=bne_eq_false_iff_eq.mpr c32;clear c32;have H':=Xa.mk H;clear H;obtain ⟨Ao33,co33,eo33⟩:=Kd.Yr HO_11.out;subst eo33;have p535:0≤(x12_3:Int):=of_decide_eq_true (by first|(with_reducible assumption)|assumption);have q535:x12_3<(t532.length:Int):=of_decide_eq_true (by first|(with_reducible assumption)|assumption);obtain ⟨ad535,e535,hx535_0⟩:=Kd.Uv (Kd.R_reads' HO_11.out).2.2 x12_3 p535 q535;cases e535
                      replace p535:=eq_true p535;replace q535:=eq_true q535;have p536:0≤((rd t532 x12_3):Int):=of_decide_eq_true (by first|(with_reducible assumption)|assumption);have q536:(rd t532 x12_3)<(x4_3.length:Int):=of_decide_eq_true (by first|(with_reducible assumption)|assumption);obtain ⟨ad536,e536,hx536_0⟩:=Kd.Uv (Kd.R_reads' HO_4.out).2.2 (rd t532 x12_3) p536 q536;obtain rfl:(⟨go8,0,none⟩:Addr)=ad536:=(by injection e536)
                      (first|simp only [add_plain] at hx536_0|simp only [add_at] at hx536_0|simp only [Addr.add,Nat.zero_add] at hx536_0|skip)
                      replace p536:=eq_true p536;replace q536:=eq_true q536;have p537:0≤(x12_3:Int):=of_decide_eq_true (by first|(with_reducible assumption)|assumption);have q537:x12_3<(t532.length:Int):=of_decide_eq_true (by first|(with_reducible assumption)|assumption);obtain ⟨ad537,e537,hx537_0⟩:=Kd.Uv (Kd.R_reads' HO_11.out).2.2 x12_3 p537 q537;obtain rfl:ad535=ad537:=(by injection e537);replace p537:=eq_true p537;replace q537:=eq_true q537;have p30:0≤((rd t532 x12_3):Int):=of_decide_eq_true (by first|(with_reducible assumption)|assumption);have q30:((rd t532 x12_3):Int)<((x4_3.length:Int):Int):=of_decide_eq_true (by first|(with_reducible assumption)|assumption);obtain ⟨hx30_0,hf30_0⟩:=Kd.R_celln 0 HO_4.out ((rd t532 x12_3):Int) p30 q30;replace p30:=eq_true p30;replace q30:=eq_true q30;have HP34:=Kd.R_putg HO_4.out ((rd t532 x12_3):Int) t530;go_wp2_with (first|((with_reducible refine gate_store (t:=3) (p:=74) rfl ?_);refine Wh (t:=3) (p:=74) (v:=?vo_w35) (w1:=(wr.setCell ⟨go8,((rd t532 x12_3):Int).toNat,none⟩ (.int .i64 t530))) ?hg ?ho ?hn ?hr ?_;(case ho=>rfl);(case hg=>rfl);(case hn=>rfl);(case hr=>first|(go_simp;done)|(go_simp;rfl));intro w35 hw;have hg:wr.grownBy w35 (some go8):=(by rw [hw];exact HP34.2);have hp_:Kd.R (Kd.int .i64) 3 w35 w.heap.size (fun k_=>some k_≠(u6:Value).ownBlock∧some k_≠(.slice (some ad535) t532.length co33:Value).ownBlock) (.slice (some ⟨go8,0,none⟩) x4_3.length co8) y538:=(by rw [hw,Ny538.out];exact HP34.1);clear HP34;have n0_:=Xa.mk (hp_);have n1_:=Xa.mk (Kd.Yz (v:=(.slice (some ⟨go8,0,none⟩) x4_3.length co8)) (v1:=(.slice (some ⟨go8,0,none⟩) x4_3.length co8)) (ok:=(fun k_=>some k_≠(.slice (some ad535) t532.length co33:Value).ownBlock)) (Kd.ra_ (Kd.Xn HO_6.out (fun _ hk=>⟨hk.2,hk.1⟩))) hg (.inl rfl));have n2_:=Xa.mk (Kd.Yz (v:=(.slice (some ⟨go8,0,none⟩) x4_3.length co8)) (v1:=(.slice (some ⟨go8,0,none⟩) x4_3.length co8)) (ok:=(fun k_=>some k_≠(u6:Value).ownBlock)) (Kd.ra_ (Kd.Xn HO_11.out (fun _ hk=>⟨hk.2,hk.1⟩))) hg (.inl rfl));have n3_:=Xa.mk ((by rw [hw];exact below_set (HB.out) GB8.out:Below w.heap.size w w35));clear HO_4;clear HO_6;clear HO_11;clear HB;have HO_4:=n0_;have HO_6:=n1_;have HO_11:=n2_;have HB:=n3_;clear n0_ n1_ n2_ n3_;clear hg hw hp_;have p539:0≤(x12_3:Int):=of_decide_eq_true (by first|(with_reducible assumption)|assumption);have q539:x12_3<(t532.length:Int):=of_decide_eq_true (by first|(with_reducible assumption)|assumption);obtain ⟨ad539,e539,hx539_0⟩:=Kd.Uv (Kd.R_reads' HO_11.out).2.2 x12_3 p539 q539;obtain rfl:ad535=ad539:=(by injection e539);replace p539:=eq_true p539;replace q539:=eq_true q539)|((with_reducible refine Yp (b:=.append) (xs:=#[.tmp 75,.tmp 80]) rfl ?_);at_builtin;refine Kd.Vo (Kd.int .i64) (w0:=w) w.heap.size rfl (.tmp 75) (.tmp 80) 34 3 (.int .i64 0) 8 rfl Try.underlying34 info3 rfl (by decide) (by omega) u6 x6_3 (rd t532 x12_3) [.int .i64 (rd t532 x12_3)] (fun k_=>some k_≠(.slice (some ⟨go8,0,none⟩) x4_3.length co8:Value).ownBlock∧some k_≠(.slice (some ad535) t532.length co33:Value).ownBlock) (fun _=>False) rfl rfl ?aP (fun _ hk=>hk.elim) ?aF ?aO ?aB ?aS ?aL ?_;(case aP=>exact rfl);(case aB=>exact (bl_ HB));(case aF=>exact (fun k_ hk=>⟨Kd.fresh' (Kd.Ut (Kd.ra_ (HO_4.out))) k_ hk,Kd.fresh' (Kd.Ut (Kd.ra_ (HO_11.out))) k_ hk⟩));(case aO=>exact (Kd.ra_ (Kd.Xn HO_6.out (fun _ hk=>⟨hk.2,hk.1⟩))));(case aS=>exact (Xc (bl_ HB)));(case aL=>have:=LMc31.out;omega);intro v541 w36 ho hb hg hat;rw [← Ny540.out] at ho;have n0_:=Xa.mk (Kd.Yz (ok:=(fun k_=>some k_≠(.slice (some ad535) t532.length co33:Value).ownBlock)) (Kd.ra_ (Kd.Xn HO_4.out (fun _ hk=>⟨hk.2,hk.1⟩))) hg hat);have n1_:=Xa.mk (Kd.Yz (ok:=(fun k_=>some k_≠(.slice (some ⟨go8,0,none⟩) x4_3.length co8:Value).ownBlock)) (Kd.ra_ (Kd.Xn HO_11.out (fun _ hk=>⟨hk.2,hk.1⟩))) hg hat);have n2_:=Xa.mk (hb);have n3_:=Xa.mk (ho);clear HO_4;clear HO_11;clear HB;clear HO_6;have HO_4:=n0_;have HO_11:=n1_;have HB:=n2_;have HO542:=n3_;clear n0_ n1_ n2_ n3_;clear ho hb hg hat;have p543:0≤(x12_3:Int):=of_decide_eq_true (by first|(with_reducible assumption)|assumption);have q543:x12_3<(t532.length:Int):=of_decide_eq_true (by first|(with_reducible assumption)|assumption);obtain ⟨ad543,e543,hx543_0⟩:=Kd.Uv (Kd.R_reads' HO_11.out).2.2 x12_3 p543 q543;obtain rfl:ad535=ad543:=(by injection e543);replace p543:=eq_true p543;replace q543:=eq_true q543;have p544:0≤((rd t532 x12_3):Int):=of_decide_eq_true (by first|(with_reducible assumption)|assumption);have q544:(rd t532 x12_3)<(y538.length:Int):=(by have h_:((rd t532 x12_3):Int)<((x4_3.length:Int):Int):=of_decide_eq_true (by first|(with_reducible assumption)|assumption);first|(have e_:=(Kd.R_reads' HO_4.out).1;omega)|simpa only [Ny538.out,List.length_set] using h_);have ql544:(((rd t532 x12_3):Int)<((x4_3.length:Int):Int))=True:=eq_true (of_decide_eq_true (by first|(with_reducible assumption)|assumption));obtain ⟨ad544,e544,hx544_0⟩:=Kd.Uv (Kd.R_reads' HO_4.out).2.2 (rd t532 x12_3) p544 q544;obtain rfl:(⟨go8,0,none⟩:Addr)=ad544:=(by injection e544);(first|simp only [add_plain] at hx544_0|simp only [add_at] at hx544_0|simp only [Addr.add,Nat.zero_add] at hx544_0|skip);replace p544:=eq_true p544;replace q544:=eq_true q544))
                      (try simp only [← hl4_3])
                      go_roundg k3
                      case measure=>have:=HK1.out;have:=HK2.out;have:=HK3.out;omega
                      case rel=>exact ⟨(y538),(y540),(wrap64 (x12_3+1)),(by first|rfl|(simp;done)|(simp [*];done)),H',⟨by have:=HK1.out;have:=HK2.out;have:=HK3.out;omega⟩,⟨by (try simp only [hl4_2]);(try simp only [hl4_3]);(with_reducible repeat (first|apply Kd.Ud|apply Kd.Ua|apply Kd.Va));exact Kd.Xn HO_4.out (fun _ hk=>⟨hk.2,hk.1⟩)⟩,⟨by (try simp only [hl4_2]);(try simp only [hl4_3]);(with_reducible repeat (first|apply Kd.Ud|apply Kd.Ua|apply Kd.Va));exact HO542.out⟩,⟨by (try simp only [hl4_2]);(try simp only [hl4_3]);(with_reducible repeat (first|apply Kd.Ud|apply Kd.Ua|apply Kd.Va));exact HO_11.out⟩,⟨bl_ HB⟩⟩
                     ·rw [if_neg c32] at H;have c32b0:((rd y538 (rd t532 x12_3)) == t530)=false:=beq_eq_false_iff_ne.mpr c32;have c32b1:((rd y538 (rd t532 x12_3)) != t530)=true:=bne_iff_ne.mpr c32;simp only [Option.some.injEq,Prod.mk.injEq] at H;obtain ⟨rfl,rfl⟩:=H;obtain ⟨Ao37,co37,eo37⟩:=Kd.Yr HO_11.out;subst eo37;have p535:0≤(x12_3:Int):=of_decide_eq_true (by first|(with_reducible assumption)|assumption);have q535:x12_3<(t532.length:Int):=of_decide_eq_true (by first|(with_reducible assumption)|assumption);obtain ⟨ad535,e535,hx535_0⟩:=Kd.Uv (Kd.R_reads' HO_11.out).2.2 x12_3 p535 q535;cases e535
                      replace p535:=eq_true p535;replace q535:=eq_true q535;have p536:0≤((rd t532 x12_3):Int):=of_decide_eq_true (by first|(with_reducible assumption)|assumption);have q536:(rd t532 x12_3)<(x4_3.length:Int):=of_decide_eq_true (by first|(with_reducible assumption)|assumption);obtain ⟨ad536,e536,hx536_0⟩:=Kd.Uv (Kd.R_reads' HO_4.out).2.2 (rd t532 x12_3) p536 q536;obtain rfl:(⟨go8,0,none⟩:Addr)=ad536:=(by injection e536)
                      (first|simp only [add_plain] at hx536_0|simp only [add_at] at hx536_0|simp only [Addr.add,Nat.zero_add] at hx536_0|skip)
                      replace p536:=eq_true p536;replace q536:=eq_true q536;have p537:0≤(x12_3:Int):=of_decide_eq_true (by first|(with_reducible assumption)|assumption);have q537:x12_3<(t532.length:Int):=of_decide_eq_true (by first|(with_reducible assumption)|assumption);obtain ⟨ad537,e537,hx537_0⟩:=Kd.Uv (Kd.R_reads' HO_11.out).2.2 x12_3 p537 q537;obtain rfl:ad535=ad537:=(by injection e537);replace p537:=eq_true p537;replace q537:=eq_true q537;have p30:0≤((rd t532 x12_3):Int):=of_decide_eq_true (by first|(with_reducible assumption)|assumption);have q30:((rd t532 x12_3):Int)<((x4_3.length:Int):Int):=of_decide_eq_true (by first|(with_reducible assumption)|assumption);obtain ⟨hx30_0,hf30_0⟩:=Kd.R_celln 0 HO_4.out ((rd t532 x12_3):Int) p30 q30;replace p30:=eq_true p30;replace q30:=eq_true q30;have HP38:=Kd.R_putg HO_4.out ((rd t532 x12_3):Int) t530;go_wp2_with (first|((with_reducible refine gate_store (t:=3) (p:=74) rfl ?_);refine Wh (t:=3) (p:=74) (v:=?vo_w39) (w1:=(wr.setCell ⟨go8,((rd t532 x12_3):Int).toNat,none⟩ (.int .i64 t530))) ?hg ?ho ?hn ?hr ?_;(case ho=>rfl);(case hg=>rfl);(case hn=>rfl);(case hr=>first|(go_simp;done)|(go_simp;rfl));intro w39 hw;have hg:wr.grownBy w39 (some go8):=(by rw [hw];exact HP38.2);have hp_:Kd.R (Kd.int .i64) 3 w39 w.heap.size (fun k_=>some k_≠(u6:Value).ownBlock∧some k_≠(.slice (some ad535) t532.length co37:Value).ownBlock) (.slice (some ⟨go8,0,none⟩) x4_3.length co8) y538:=(by rw [hw,Ny538.out];exact HP38.1);clear HP38;have n0_:=Xa.mk (hp_);have n1_:=Xa.mk (Kd.Yz (v:=(.slice (some ⟨go8,0,none⟩) x4_3.length co8)) (v1:=(.slice (some ⟨go8,0,none⟩) x4_3.length co8)) (ok:=(fun k_=>some k_≠(.slice (some ad535) t532.length co37:Value).ownBlock)) (Kd.ra_ (Kd.Xn HO_6.out (fun _ hk=>⟨hk.2,hk.1⟩))) hg (.inl rfl));have n2_:=Xa.mk (Kd.Yz (v:=(.slice (some ⟨go8,0,none⟩) x4_3.length co8)) (v1:=(.slice (some ⟨go8,0,none⟩) x4_3.length co8)) (ok:=(fun k_=>some k_≠(u6:Value).ownBlock)) (Kd.ra_ (Kd.Xn HO_11.out (fun _ hk=>⟨hk.2,hk.1⟩))) hg (.inl rfl));have n3_:=Xa.mk ((by rw [hw];exact below_set (HB.out) GB8.out:Below w.heap.size w w39));clear HO_4;clear HO_6;clear HO_11;clear HB;have HO_4:=n0_;have HO_6:=n1_;have HO_11:=n2_;have HB:=n3_;clear n0_ n1_ n2_ n3_;clear hg hw hp_;have p539:0≤(x12_3:Int):=of_decide_eq_true (by first|(with_reducible assumption)|assumption);have q539:x12_3<(t532.length:Int):=of_decide_eq_true (by first|(with_reducible assumption)|assumption);obtain ⟨ad539,e539,hx539_0⟩:=Kd.Uv (Kd.R_reads' HO_11.out).2.2 x12_3 p539 q539;obtain rfl:ad535=ad539:=(by injection e539);replace p539:=eq_true p539;replace q539:=eq_true q539)|((with_reducible refine Yp (b:=.append) (xs:=#[.tmp 75,.tmp 80]) rfl ?_);at_builtin;refine Kd.Vo (Kd.int .i64) (w0:=w) w.heap.size rfl (.tmp 75) (.tmp 80) 34 3 (.int .i64 0) 8 rfl Try.underlying34 info3 rfl (by decide) (by omega) u6 x6_3 (rd t532 x12_3) [.int .i64 (rd t532 x12_3)] (fun k_=>some k_≠(.slice (some ⟨go8,0,none⟩) x4_3.length co8:Value).ownBlock∧some k_≠(.slice (some ad535) t532.length co37:Value).ownBlock) (fun _=>False) rfl rfl ?aP (fun _ hk=>hk.elim) ?aF ?aO ?aB ?aS ?aL ?_;(case aP=>exact rfl);(case aB=>exact (bl_ HB));(case aF=>exact (fun k_ hk=>⟨Kd.fresh' (Kd.Ut (Kd.ra_ (HO_4.out))) k_ hk,Kd.fresh' (Kd.Ut (Kd.ra_ (HO_11.out))) k_ hk⟩));(case aO=>exact (Kd.ra_ (Kd.Xn HO_6.out (fun _ hk=>⟨hk.2,hk.1⟩))));(case aS=>exact (Xc (bl_ HB)));(case aL=>have:=LMc31.out;omega);intro v541 w40 ho hb hg hat;rw [← Ny540.out] at ho;have n0_:=Xa.mk (Kd.Yz (ok:=(fun k_=>some k_≠(.slice (some ad535) t532.length co37:Value).ownBlock)) (Kd.ra_ (Kd.Xn HO_4.out (fun _ hk=>⟨hk.2,hk.1⟩))) hg hat);have n1_:=Xa.mk (Kd.Yz (ok:=(fun k_=>some k_≠(.slice (some ⟨go8,0,none⟩) x4_3.length co8:Value).ownBlock)) (Kd.ra_ (Kd.Xn HO_11.out (fun _ hk=>⟨hk.2,hk.1⟩))) hg hat);have n2_:=Xa.mk (hb);have n3_:=Xa.mk (ho);clear HO_4;clear HO_11;clear HB;clear HO_6;have HO_4:=n0_;have HO_11:=n1_;have HB:=n2_;have HO542:=n3_;clear n0_ n1_ n2_ n3_;clear ho hb hg hat;have p543:0≤(x12_3:Int):=of_decide_eq_true (by first|(with_reducible assumption)|assumption);have q543:x12_3<(t532.length:Int):=of_decide_eq_true (by first|(with_reducible assumption)|assumption);obtain ⟨ad543,e543,hx543_0⟩:=Kd.Uv (Kd.R_reads' HO_11.out).2.2 x12_3 p543 q543;obtain rfl:ad535=ad543:=(by injection e543);replace p543:=eq_true p543;replace q543:=eq_true q543;have p544:0≤((rd t532 x12_3):Int):=of_decide_eq_true (by first|(with_reducible assumption)|assumption);have q544:(rd t532 x12_3)<(y538.length:Int):=(by have h_:((rd t532 x12_3):Int)<((x4_3.length:Int):Int):=of_decide_eq_true (by first|(with_reducible assumption)|assumption);first|(have e_:=(Kd.R_reads' HO_4.out).1;omega)|simpa only [Ny538.out,List.length_set] using h_);have ql544:(((rd t532 x12_3):Int)<((x4_3.length:Int):Int))=True:=eq_true (of_decide_eq_true (by first|(with_reducible assumption)|assumption));obtain ⟨ad544,e544,hx544_0⟩:=Kd.Uv (Kd.R_reads' HO_4.out).2.2 (rd t532 x12_3) p544 q544;obtain rfl:(⟨go8,0,none⟩:Addr)=ad544:=(by injection e544);(first|simp only [add_plain] at hx544_0|simp only [add_at] at hx544_0|simp only [Addr.add,Nat.zero_add] at hx544_0|skip);replace p544:=eq_true p544;replace q544:=eq_true q544))
                      go_ret2
                      exact ⟨_,rf_,Kd.ra_ (Kd.Xn HO_4.out (fun _ hk=>trivial)),bl_ HB⟩
                    ·rw [if_neg c31] at H;exact absurd H (by simp)
                   ·rw [if_neg c29] at H;have c29b0:decide ((rd x4_3 (rd t532 x12_3))<0)=false:=decide_eq_false c29;clear c29;by_cases c41:(rd x4_3 (rd t532 x12_3))=t530
                    ·rw [if_pos c41] at H;have c41b0:((rd x4_3 (rd t532 x12_3)) == t530)=true:=beq_iff_eq.mpr c41;have c41b1:((rd x4_3 (rd t532 x12_3)) != t530)=false:=bne_eq_false_iff_eq.mpr c41;clear c41;have H':=Xa.mk H;clear H;obtain ⟨Ao42,co42,eo42⟩:=Kd.Yr HO_11.out;subst eo42;have p535:0≤(x12_3:Int):=of_decide_eq_true (by first|(with_reducible assumption)|assumption);have q535:x12_3<(t532.length:Int):=of_decide_eq_true (by first|(with_reducible assumption)|assumption);obtain ⟨ad535,e535,hx535_0⟩:=Kd.Uv (Kd.R_reads' HO_11.out).2.2 x12_3 p535 q535;cases e535
                     replace p535:=eq_true p535;replace q535:=eq_true q535;have p536:0≤((rd t532 x12_3):Int):=of_decide_eq_true (by first|(with_reducible assumption)|assumption);have q536:(rd t532 x12_3)<(x4_3.length:Int):=of_decide_eq_true (by first|(with_reducible assumption)|assumption);obtain ⟨ad536,e536,hx536_0⟩:=Kd.Uv (Kd.R_reads' HO_4.out).2.2 (rd t532 x12_3) p536 q536;obtain rfl:(⟨go8,0,none⟩:Addr)=ad536:=(by injection e536)
                     (first|simp only [add_plain] at hx536_0|simp only [add_at] at hx536_0|simp only [Addr.add,Nat.zero_add] at hx536_0|skip)
                     replace p536:=eq_true p536;replace q536:=eq_true q536;have p545:0≤(x12_3:Int):=of_decide_eq_true (by first|(with_reducible assumption)|assumption);have q545:x12_3<(t532.length:Int):=of_decide_eq_true (by first|(with_reducible assumption)|assumption);obtain ⟨ad545,e545,hx545_0⟩:=Kd.Uv (Kd.R_reads' HO_11.out).2.2 x12_3 p545 q545;obtain rfl:ad535=ad545:=(by injection e545);replace p545:=eq_true p545;replace q545:=eq_true q545;have p546:0≤((rd t532 x12_3):Int):=of_decide_eq_true (by first|(with_reducible assumption)|assumption);have q546:(rd t532 x12_3)<(x4_3.length:Int):=of_decide_eq_true (by first|(with_reducible assumption)|assumption);obtain ⟨ad546,e546,hx546_0⟩:=Kd.Uv (Kd.R_reads' HO_4.out).2.2 (rd t532 x12_3) p546 q546;obtain rfl:(⟨go8,0,none⟩:Addr)=ad546:=(by injection e546)
                     (first|simp only [add_plain] at hx546_0|simp only [add_at] at hx546_0|simp only [Addr.add,Nat.zero_add] at hx546_0|skip)
                     replace p546:=eq_true p546;replace q546:=eq_true q546;go_wp2
                     (try simp only [← hl4_3])
                     go_roundg k3
                     case measure=>have:=HK1.out;have:=HK2.out;have:=HK3.out;omega
                     case rel=>exact ⟨(x4_3),(x6_3),(wrap64 (x12_3+1)),(by first|rfl|(simp;done)|(simp [*];done)),H',⟨by have:=HK1.out;have:=HK2.out;have:=HK3.out;omega⟩,⟨by (try simp only [hl4_2]);(try simp only [hl4_3]);(with_reducible repeat (first|apply Kd.Ud|apply Kd.Ua|apply Kd.Va));exact HO_4.out⟩,⟨by (try simp only [hl4_2]);(try simp only [hl4_3]);(with_reducible repeat (first|apply Kd.Ud|apply Kd.Ua|apply Kd.Va));exact HO_6.out⟩,⟨by (try simp only [hl4_2]);(try simp only [hl4_3]);(with_reducible repeat (first|apply Kd.Ud|apply Kd.Ua|apply Kd.Va));exact HO_11.out⟩,⟨bl_ HB⟩⟩
                    ·rw [if_neg c41] at H;have c41b0:((rd x4_3 (rd t532 x12_3)) == t530)=false:=beq_eq_false_iff_ne.mpr c41;have c41b1:((rd x4_3 (rd t532 x12_3)) != t530)=true:=bne_iff_ne.mpr c41;simp only [Option.some.injEq,Prod.mk.injEq] at H;obtain ⟨rfl,rfl⟩:=H;obtain ⟨Ao43,co43,eo43⟩:=Kd.Yr HO_11.out;subst eo43;have p535:0≤(x12_3:Int):=of_decide_eq_true (by first|(with_reducible assumption)|assumption);have q535:x12_3<(t532.length:Int):=of_decide_eq_true (by first|(with_reducible assumption)|assumption);obtain ⟨ad535,e535,hx535_0⟩:=Kd.Uv (Kd.R_reads' HO_11.out).2.2 x12_3 p535 q535;cases e535
                     replace p535:=eq_true p535;replace q535:=eq_true q535;have p536:0≤((rd t532 x12_3):Int):=of_decide_eq_true (by first|(with_reducible assumption)|assumption);have q536:(rd t532 x12_3)<(x4_3.length:Int):=of_decide_eq_true (by first|(with_reducible assumption)|assumption);obtain ⟨ad536,e536,hx536_0⟩:=Kd.Uv (Kd.R_reads' HO_4.out).2.2 (rd t532 x12_3) p536 q536;obtain rfl:(⟨go8,0,none⟩:Addr)=ad536:=(by injection e536)
                     (first|simp only [add_plain] at hx536_0|simp only [add_at] at hx536_0|simp only [Addr.add,Nat.zero_add] at hx536_0|skip)
                     replace p536:=eq_true p536;replace q536:=eq_true q536;have p545:0≤(x12_3:Int):=of_decide_eq_true (by first|(with_reducible assumption)|assumption);have q545:x12_3<(t532.length:Int):=of_decide_eq_true (by first|(with_reducible assumption)|assumption);obtain ⟨ad545,e545,hx545_0⟩:=Kd.Uv (Kd.R_reads' HO_11.out).2.2 x12_3 p545 q545;obtain rfl:ad535=ad545:=(by injection e545);replace p545:=eq_true p545;replace q545:=eq_true q545;have p546:0≤((rd t532 x12_3):Int):=of_decide_eq_true (by first|(with_reducible assumption)|assumption);have q546:(rd t532 x12_3)<(x4_3.length:Int):=of_decide_eq_true (by first|(with_reducible assumption)|assumption);obtain ⟨ad546,e546,hx546_0⟩:=Kd.Uv (Kd.R_reads' HO_4.out).2.2 (rd t532 x12_3) p546 q546;obtain rfl:(⟨go8,0,none⟩:Addr)=ad546:=(by injection e546)
                     (first|simp only [add_plain] at hx546_0|simp only [add_at] at hx546_0|simp only [Addr.add,Nat.zero_add] at hx546_0|skip)
                     replace p546:=eq_true p546;replace q546:=eq_true q546;go_wp2
                     go_ret2
                     exact ⟨_,rf_,Kd.ra_ (Kd.Xn HO_4.out (fun _ hk=>trivial)),bl_ HB⟩
                  ·rw [if_neg c28] at H;exact absurd H (by simp)
                 ·rw [if_neg c27] at H;exact absurd H (by simp)
                ·rw [if_neg c26] at H;exact absurd H (by simp)
               ·rw [if_neg c25] at H;have c25b0:decide (x12_3<(t532.length:Int))=false:=decide_eq_false c25;clear c25;have H':=Xa.mk H;clear H;obtain ⟨Ao44,co44,eo44⟩:=Kd.Yr HO_11.out;subst eo44;go_wp2
                (try simp only [← hl4_2,← hl4_3])
                go_roundg k3
                case measure=>have:=HK1.out;have:=HK2.out;have:=HK3.out;omega
                case rel=>exact ⟨(x4_3),(x6_3),(wrap64 (x7_2+1)),(by first|rfl|(simp;done)|(simp [*];done)),H',⟨by have:=HK1.out;have:=HK2.out;have:=HK3.out;omega⟩,⟨by (try simp only [hl4_2]);(try simp only [hl4_3]);(with_reducible repeat (first|apply Kd.Ud|apply Kd.Ua|apply Kd.Va));exact Kd.Xn HO_4.out (fun _ hk=>hk.1)⟩,⟨by (try simp only [hl4_2]);(try simp only [hl4_3]);(with_reducible repeat (first|apply Kd.Ud|apply Kd.Ua|apply Kd.Va));exact Kd.Xn HO_6.out (fun _ hk=>hk.1)⟩,⟨bl_ HB⟩⟩
            ·replace c19:=Bool.eq_false_iff.mpr c19;subst c19
             have H1:(some (x4_2,false))=some (r1,r2):=by rw [if_neg (show ¬ (false=true) by decide)] at H;exact H
             clear H;have H:=H1;clear H1;simp only [Option.some.injEq,Prod.mk.injEq] at H;obtain ⟨rfl,rfl⟩:=H;obtain ⟨Ao45,co45,eo45⟩:=Kd.Yr HO_6.out;subst eo45;have p527:0≤(x7_2:Int):=of_decide_eq_true (by first|(with_reducible assumption)|assumption);have q527:x7_2<(x6_2.length:Int):=of_decide_eq_true (by first|(with_reducible assumption)|assumption);obtain ⟨ad527,e527,hx527_0⟩:=Kd.Uv (Kd.R_reads' HO_6.out).2.2 x7_2 p527 q527;cases e527
             replace p527:=eq_true p527;replace q527:=eq_true q527
             try go_wp2
             have n0_:=Xa.mk (Kd.Va HO_4.out);have n1_:=Xa.mk (Kd.Va HO_6.out);have n2_:=Xa.mk (below_drew1 HB.out);clear HO_4;clear HO_6;clear HB;have HO_4:=n0_;have HO_6:=n1_;have HB:=n2_;clear n0_ n1_ n2_;have p528:0≤((rd x6_2 x7_2):Int):=of_decide_eq_true (by first|(with_reducible assumption)|assumption);have q528:(rd x6_2 x7_2)<(l0.length:Int):=of_decide_eq_true (by first|(with_reducible assumption)|assumption);obtain ⟨ad528,e528,hx528_0,hx528_1,hx528_2,hx528_3⟩:=Zt HR0.out (rd x6_2 x7_2) p528 q528;have hw528_3:=hx528_3;have hw528_2:=hx528_2;have hw528_1:=hx528_1;have hw528_0:=hx528_0;cases e528
             replace hx528_0:=(HB.out.cell (World.block_lt_of_cell? w _ hx528_0)).trans hx528_0;replace hx528_1:=(HB.out.cell (World.block_lt_of_cell? w _ hx528_1)).trans hx528_1;replace hx528_2:=(HB.out.cell (World.block_lt_of_cell? w _ hx528_2)).trans hx528_2;replace hx528_3:=(HB.out.cell (World.block_lt_of_cell? w _ hx528_3)).trans hx528_3;replace p528:=eq_true p528;replace q528:=eq_true q528;have p529:0≤((rd x6_2 x7_2):Int):=of_decide_eq_true (by first|(with_reducible assumption)|assumption);have q529:(rd x6_2 x7_2)<(x4_2.length:Int):=of_decide_eq_true (by first|(with_reducible assumption)|assumption);obtain ⟨ad529,e529,hx529_0⟩:=Kd.Uv (Kd.R_reads' HO_4.out).2.2 (rd x6_2 x7_2) p529 q529;obtain rfl:(⟨go8,0,none⟩:Addr)=ad529:=(by injection e529)
             (first|simp only [add_plain] at hx529_0|simp only [add_at] at hx529_0|simp only [Addr.add,Nat.zero_add] at hx529_0|skip)
             replace p529:=eq_true p529;replace q529:=eq_true q529;refine start_ (n:=14) (S:=fun w'=>w'.cell? (ad528.add (((rd x6_2 x7_2)).toNat * 4))=some (.int .i64 ((Xb l0 (rd x6_2 x7_2)).f0))∧w'.cell? ⟨(ad528.add (((rd x6_2 x7_2)).toNat * 4)).block,(ad528.add (((rd x6_2 x7_2)).toNat * 4)).off+1,none⟩=some (.int .i64 ((Xb l0 (rd x6_2 x7_2)).f1))∧w'.cell? ⟨(ad528.add (((rd x6_2 x7_2)).toNat * 4)).block,(ad528.add (((rd x6_2 x7_2)).toNat * 4)).off+2,none⟩=some (.int .i64 ((Xb l0 (rd x6_2 x7_2)).f2))∧w'.cell? ⟨(ad528.add (((rd x6_2 x7_2)).toNat * 4)).block,(ad528.add (((rd x6_2 x7_2)).toNat * 4)).off+3,none⟩=some (.int .i64 ((Xb l0 (rd x6_2 x7_2)).f3))∧w'.cell? ⟨go8,((rd x6_2 x7_2)).toNat,none⟩=some (.int .i64 (rd x4_2 (rd x6_2 x7_2)))) (ds:=[]) #[false,false,false,false,false,false,false,false,false,false,false,false,false,false] (by kernel_rfl) rfl rfl ⟨((HB.out.cell (World.block_lt_of_cell? w _ hw528_0)).trans hw528_0),((HB.out.cell (World.block_lt_of_cell? w _ hw528_1)).trans hw528_1),((HB.out.cell (World.block_lt_of_cell? w _ hw528_2)).trans hw528_2),((HB.out.cell (World.block_lt_of_cell? w _ hw528_3)).trans hw528_3),hx529_0⟩ (fun hHeld=>?_);refine with_tabW Xp.tab12 Xp.bits12 (fun HT_ HW_=>?_)
             generalize wr.drew=w46 at HO_4 HO_6 HB hx528_0 hx528_1 hx528_2 hx528_3 hx529_0 hHeld ⊢
             refine Zf (i:=0) (N:=some 37) (v:=?_) (a':=?_) #[true,false,false,false,false,false,false,false,false,false,false,false,false,false] rfl rfl (Za HT_.out (by kernel_rfl)) (fun _ _ _ h=>h) (Or.inl ⟨by rfl,?_⟩) ?_ ?_
             rotate_left
             ·intro w';go_simp
              with_reducible rfl
             rotate_left
             ·simp only [Act.put,List.setIfInBounds_toArray,List.set_cons_zero,List.set_cons_succ,Xy,Xz];rfl
             refine Zf (i:=1) (N:=some 38) (v:=?_) (a':=?_) #[true,true,false,false,false,false,false,false,false,false,false,false,false,false] rfl rfl (Za HT_.out (by kernel_rfl)) (fun _ _ _ h=>h) (Or.inl ⟨by rfl,?_⟩) ?_ ?_
             rotate_left
             ·intro w';go_simp
              with_reducible rfl
             rotate_left
             ·simp only [Act.put,List.setIfInBounds_toArray,List.set_cons_zero,List.set_cons_succ,Xy,Xz];rfl
             refine Zf (i:=2) (N:=some 39) (v:=?_) (a':=?_) #[true,true,true,false,false,false,false,false,false,false,false,false,false,false] rfl rfl (Za HT_.out (by kernel_rfl)) (fun _ _ _ h=>h) (Or.inl ⟨by rfl,?_⟩) ?_ ?_
             rotate_left
             ·intro w';go_simp
              with_reducible rfl
             rotate_left
             ·simp only [Act.put,List.setIfInBounds_toArray,List.set_cons_zero,List.set_cons_succ,Xy,Xz];rfl
             refine Zf (i:=4) (N:=some 41) (v:=?_) (a':=?_) #[true,true,true,false,true,false,false,false,false,false,false,false,false,false] rfl rfl (Za HT_.out (by kernel_rfl)) (fun _ _ _ h=>h) (Or.inl ⟨by rfl,?_⟩) ?_ ?_
             rotate_left
             ·intro w';go_simp
              with_reducible rfl
             rotate_left
             ·simp only [Act.put,List.setIfInBounds_toArray,List.set_cons_zero,List.set_cons_succ,Xy,Xz];rfl
             refine Zf (i:=5) (N:=some 42) (v:=?_) (a':=?_) #[true,true,true,false,true,true,false,false,false,false,false,false,false,false] rfl rfl (Za HT_.out (by kernel_rfl)) (fun _ _ _ h=>h) (Or.inl ⟨by rfl,?_⟩) ?_ ?_
             rotate_left
             ·intro w';go_simp
              with_reducible rfl
             rotate_left
             ·simp only [Act.put,List.setIfInBounds_toArray,List.set_cons_zero,List.set_cons_succ,Xy,Xz];rfl
             refine Zf (i:=6) (N:=some 43) (v:=?_) (a':=?_) #[true,true,true,false,true,true,true,false,false,false,false,false,false,false] rfl rfl (Za HT_.out (by kernel_rfl)) (fun _ _ _ h=>h) (Or.inl ⟨by rfl,?_⟩) ?_ ?_
             rotate_left
             ·intro w';go_simp
              with_reducible rfl
             rotate_left
             ·simp only [Act.put,List.setIfInBounds_toArray,List.set_cons_zero,List.set_cons_succ,Xy,Xz];rfl
             refine take_ (i:=3) (N:=some 40) (v:=?_) (a':=?_) #[true,true,true,true,true,true,true,false,false,false,false,false,false,false] rfl rfl (take_ofW HT_.out HW_.out (by kernel_rfl)) (fun _ _ _ h=>h) (Or.inl ⟨by rfl,?_⟩) hHeld ?_ ?_
             rotate_left
             ·rintro w' ⟨s0,s1,s2,s3,s4⟩
              go_simp
              with_reducible rfl
             rotate_left
             ·simp only [Act.put,List.setIfInBounds_toArray,List.set_cons_zero,List.set_cons_succ,Xy,Xz];rfl
             refine take_ (i:=7) (N:=some 44) (v:=?_) (a':=?_) #[true,true,true,true,true,true,true,true,false,false,false,false,false,false] rfl rfl (take_ofW HT_.out HW_.out (by kernel_rfl)) (fun _ _ _ h=>h) (Or.inl ⟨by rfl,?_⟩) hHeld ?_ ?_
             rotate_left
             ·rintro w' ⟨s0,s1,s2,s3,s4⟩
              go_simp
              with_reducible rfl
             rotate_left
             ·simp only [Act.put,List.setIfInBounds_toArray,List.set_cons_zero,List.set_cons_succ,Xy,Xz];rfl
             refine one_ (i:=8) (N:=some 45) #[true,true,true,true,true,true,true,true,true,false,false,false,false,false] rfl rfl (one_of HT_.out (by kernel_rfl)) (by decide) (fun K hK=>?_)
             refine goes_ Try.func39 (by kernel_rfl) rfl #[.agg #[.int .i64 ((Xb l0 (rd x6_2 x7_2)).f0),.int .i64 ((Xb l0 (rd x6_2 x7_2)).f1),.int .i64 ((Xb l0 (rd x6_2 x7_2)).f2),.int .i64 ((Xb l0 (rd x6_2 x7_2)).f3)],.int .i64 (rd x4_2 (rd x6_2 x7_2))] (by rfl) rfl rfl ga_ ?_
             with_reducible refine (spec_l4Held.calls ((Xb l0 (rd x6_2 x7_2)).f0) ((Xb l0 (rd x6_2 x7_2)).f1) ((Xb l0 (rd x6_2 x7_2)).f2) ((Xb l0 (rd x6_2 x7_2)).f3) (rd x4_2 (rd x6_2 x7_2)) t530 false _ A18.out).mono ?_
             rintro e w47 ⟨rfl,hb⟩
             have HS4_:=(hb.cell (World.block_lt_of_cell? _ _ (hHeld.2.2.2.2))).trans (hHeld.2.2.2.2);refine ⟨_,rfl,?_⟩
             have n0_:=Xa.mk (Kd.Zl (Kd.ra_ (HO_4.out)) hb);have n1_:=Xa.mk (Kd.Zl (Kd.ra_ (HO_6.out)) hb);have n2_:=Xa.mk (Xd (bl_ HB) hb);clear HO_4;clear HO_6;clear HB;have HO_4:=n0_;have HO_6:=n1_;have HB:=n2_;clear n0_ n1_ n2_
             (try clear hb)
             (try clear hb2)
             (try clear hk)
             (try clear hi)
             refine hK.out _ _ ⟨((HB.out.cell (World.block_lt_of_cell? w _ hw528_0)).trans hw528_0),((HB.out.cell (World.block_lt_of_cell? w _ hw528_1)).trans hw528_1),((HB.out.cell (World.block_lt_of_cell? w _ hw528_2)).trans hw528_2),((HB.out.cell (World.block_lt_of_cell? w _ hw528_3)).trans hw528_3),HS4_⟩ (fun hHeld=>?_)
             clear hK K;refine Vr (a':=?_) ?_ ?_
             rotate_left
             ·show Act.put _ (some 45) _=_
              simp only [Act.put,List.setIfInBounds_toArray,List.set_cons_zero,List.set_cons_succ,Xy,Xz];rfl
             refine Zf (i:=9) (N:=some 36) (v:=?_) (a':=?_) #[true,true,true,true,true,true,true,true,true,true,false,false,false,false] rfl rfl (Za HT_.out (by kernel_rfl)) (fun _ _ _ h=>h) (Or.inl ⟨by rfl,?_⟩) ?_ ?_
             rotate_left
             ·intro w';go_simp
              with_reducible rfl
             rotate_left
             ·simp only [Act.put,List.setIfInBounds_toArray,List.set_cons_zero,List.set_cons_succ,Xy,Xz];rfl
             refine Zf (i:=10) (N:=some 46) (v:=?_) (a':=?_) #[true,true,true,true,true,true,true,true,true,true,true,false,false,false] rfl rfl (Za HT_.out (by kernel_rfl)) (fun _ _ _ h=>h) (Or.inl ⟨by rfl,?_⟩) ?_ ?_
             rotate_left
             ·intro w';go_simp
              with_reducible rfl
             rotate_left
             ·simp only [Act.put,List.setIfInBounds_toArray,List.set_cons_zero,List.set_cons_succ,Xy,Xz];rfl
             refine Zf (i:=11) (N:=some 47) (v:=?_) (a':=?_) #[true,true,true,true,true,true,true,true,true,true,true,true,false,false] rfl rfl (Za HT_.out (by kernel_rfl)) (fun _ _ _ h=>h) (Or.inl ⟨by rfl,?_⟩) ?_ ?_
             rotate_left
             ·intro w';go_simp
              with_reducible rfl
             rotate_left
             ·simp only [Act.put,List.setIfInBounds_toArray,List.set_cons_zero,List.set_cons_succ,Xy,Xz];rfl
             refine Zf (i:=12) (N:=some 9) (v:=?_) (a':=?_) #[true,true,true,true,true,true,true,true,true,true,true,true,true,false] rfl rfl (Za HT_.out (by kernel_rfl)) (fun _ _ _ h=>h) (Or.inl ⟨by rfl,?_⟩) ?_ ?_
             rotate_left
             ·intro w';go_simp
              with_reducible rfl
             rotate_left
             ·simp only [Act.put,List.setIfInBounds_toArray,List.set_cons_zero,List.set_cons_succ,Xy,Xz];rfl
             refine Zf (i:=13) (N:=some 10) (v:=?_) (a':=?_) #[true,true,true,true,true,true,true,true,true,true,true,true,true,true] rfl rfl (Za HT_.out (by kernel_rfl)) (fun _ _ _ h=>h) (Or.inl ⟨by rfl,?_⟩) ?_ ?_
             rotate_left
             ·intro w';go_simp
              with_reducible rfl
             rotate_left
             ·simp only [Act.put,List.setIfInBounds_toArray,List.set_cons_zero,List.set_cons_succ,Xy,Xz];rfl
             refine done_ (done_of HT_.out (by kernel_rfl)) ?_
             try go_wp2
             go_ret2
             exact ⟨_,rf_,Kd.ra_ (Kd.Xn HO_4.out (fun _ hk=>trivial)),bl_ HB⟩
           ·rw [if_neg c17] at H;exact absurd H (by simp)
          ·rw [if_neg c16] at H;exact absurd H (by simp)
         ·rw [if_neg c15] at H;exact absurd H (by simp)
        ·rw [if_neg c14] at H;exact absurd H (by simp)
       ·rw [if_neg c13] at H;have c13b0:decide (x7_2<(x6_2.length:Int))=false:=decide_eq_false c13;clear c13;simp only [Option.some.injEq,Prod.mk.injEq] at H;obtain ⟨rfl,rfl⟩:=H;obtain ⟨Ao48,co48,eo48⟩:=Kd.Yr HO_6.out;subst eo48;go_wp2
        go_ret2
        exact ⟨_,rf_,Kd.ra_ (Kd.Xn HO_4.out (fun _ hk=>trivial)),bl_ HB⟩
    ·rw [if_neg c7] at H;exact absurd H (by simp)
end Go.Proofs.Ytdkcjecllbdljaa.GSlim
