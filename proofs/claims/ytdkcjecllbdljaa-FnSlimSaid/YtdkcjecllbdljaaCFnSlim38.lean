import Derived.Test.YtdkcjecllbdljaaCFnSlim21
import Derived.Test.YtdkcjecllbdljaaCFnSlim36
import Derived.Test.YtdkcjecllbdljaaCFnSlim37
namespace Go.Proofs.Ytdkcjecllbdljaa.GSlim
open Go.RowKit Go.Proofs.YtdkcjecllbdljaaW.PrintWords Go.Proofs.YtdkcjecllbdljaaW.PrintLast Go.Proofs.YtdkcjecllbdljaaW.PrintMore
attribute [local go_sem] Zv Zx Un Uo Zm Zn Zw Zy
set_option linter.unusedVariables false
set_option linter.unusedSimpArgs false
mutual
def Ya.l0:Nat→List (S31)→List Int→List Int→Option (Bool)
 |0,_,_,_=>none
 |k+1,x0,x3,x4=>if (x4.length:Int) > 0 then (if 0<(x4.length:Int) then (if 1≤(x4.length:Int) then (if 0≤(rd x4 0) then (if (rd x4 0)<(x0.length:Int) then (if (rd x4 0)<(x3.length:Int) then ((impl_Ins_moves.f ((Xb x0 (rd x4 0)).f0) ((Xb x0 (rd x4 0)).f1) ((Xb x0 (rd x4 0)).f2) ((Xb x0 (rd x4 0)).f3) (rd x3 (rd x4 0))).bind fun bt458=>(if bt458.2=true then ((Ue.f ((Xb x0 (rd x4 0)).f0) ((Xb x0 (rd x4 0)).f1) ((Xb x0 (rd x4 0)).f2) ((Xb x0 (rd x4 0)).f3) (rd x4 0)).bind fun t461=>(Ya.l1 k x0 x3 (x4.drop (1:Int).toNat) bt458.1 t461 (t461.length:Int) 0)) else (some false))) else (none)) else (none)) else (none)) else (none)) else (none)) else (some true)
def Ya.l1:Nat→List (S31)→List Int→List Int→Int→List Int→Int→Int→Option (Bool)
 |0,_,_,_,_,_,_,_=>none
 |k+1,x0,x3,x4,x6,x44,x45,x46=>if x46<x45 then (if 0≤x46 then (if x46<(x44.length:Int) then (if 0≤(rd x44 x46) then (if (rd x44 x46)<(x3.length:Int) then (if (rd x3 (rd x44 x46))=(-2) then (if x4.length<17592186044416 then (Ya.l1 k x0 (x3.set ((rd x44 x46):Int).toNat x6) (x4 ++ [rd x44 x46]) x6 x44 x45 (wrap64 (x46+1))) else (none)) else (if (rd x3 (rd x44 x46))=x6 then (Ya.l1 k x0 x3 x4 x6 x44 x45 (wrap64 (x46+1))) else (some false))) else (none)) else (none)) else (none)) else (none)) else (Ya.l0 k x0 x3 x4)
end
def Ya.f (k:Nat) (l0:List (S31)):Option (Bool):=(Xl.f (([(-2)]:List Int)) (l0.length:Int)).bind fun t445=>(if 0<(t445.length:Int) then (Ya.l0 k l0 (t445.set (0:Int).toNat (-1)) (([0]:List Int))) else (none))
def Ya.T7:Bool × List (List Nat × List Nat):=(true,[([],[]),([],[]),([0,1],[0,1]),([2],[2]),([],[]),([],[]),([4,5],[4,5]),([6],[6]),([3,7],[3,7]),([8],[8]),([9],[9]),([9],[9]),([10,8,0,1,2,3,4,5,6,7,8,9,10],[10]),([11,12,0,1,2,3,4,5,6,7,8,9,10,11,12],[11])])
def Ya.B7:List Nat:=[0,0,3,7,0,0,48,112,255,511,1023,1023,2047,8191]
theorem Ya.tab7:rtab .any (opsOf Try.f27 7)=Ya.T7:=by kernel_rfl
theorem Ya.bits7:waitsOk Ya.T7.2 Ya.B7=true:=by kernel_rfl
set_option maxHeartbeats 8000000 in
set_option maxRecDepth 100000 in
theorem Ya.calls (k:Nat) (A0:Option Addr) (c0:Nat) (l0:List (S31)) (r:Bool) (w:World) (hr0:Kd.C k31 w A0 l0.length l0) (hc0:l0.length≤c0) (h:Ya.f k l0=some r) :
  Calls Try.prog 27 #[.slice A0 l0.length c0] w fun e w'=>e=.returned (.bool r)∧Below w.heap.size w w':=by
 have hu31:=Try.underlying31;have HR0:=Xa.mk hr0;have HC0:=Xa.mk hc0;clear hr0 hc0;have HB:=Xa.mk (Below.refl w.heap.size w);have H:((Xl.f (([(-2)]:List Int)) (l0.length:Int)).bind fun t445=>(if 0<(t445.length:Int) then (Ya.l0 k l0 (t445.set (0:Int).toNat (-1)) (([0]:List Int))) else (none)))=some r:=h;clear h;obtain ⟨y442,hy442⟩:∃ y_:List Int,y_=(([(-2)]:List Int)):=⟨_,rfl⟩
 replace H:((Xl.f y442 (l0.length:Int)).bind fun t445=>(if 0<(t445.length:Int) then (Ya.l0 k l0 (t445.set (0:Int).toNat (-1)) (([0]:List Int))) else (none)))=some r:=by subst hy442;first|with_reducible exact H|(have z:=(Option.bind_some _ _).symm.trans H;with_reducible exact z)|exact H
 have Ny442:=Xa.mk hy442;clear hy442;replace H:=Option.bind_eq_some_iff.mp H;obtain ⟨t445,A20,H⟩:=H;replace H:(if 0<(t445.length:Int) then (Ya.l0 k l0 (t445.set (0:Int).toNat (-1)) (([0]:List Int))) else (none))=some r:=H;have A2:=Xa.mk A20;clear A20;by_cases c3:0<(t445.length:Int)
 ·rw [if_pos c3] at H;have c3b0:decide (0<(t445.length:Int))=true:=decide_eq_true c3;have c3b1:decide (0<t445.length)=true:=decide_eq_true (by omega);clear c3;obtain ⟨y448,hy448⟩:∃ y_:List Int,y_=(t445.set (0:Int).toNat (-1)):=⟨_,rfl⟩
  replace H:(Ya.l0 k l0 y448 (([0]:List Int)))=some r:=by subst hy448;first|with_reducible exact H|(have z:=(Option.bind_some _ _).symm.trans H;with_reducible exact z)|exact H
  have Ny448:=Xa.mk hy448;clear hy448;obtain ⟨y449,hy449⟩:∃ y_:List Int,y_=(([0]:List Int)):=⟨_,rfl⟩
  replace H:(Ya.l0 k l0 y448 y449)=some r:=by subst hy449;first|with_reducible exact H|(have z:=(Option.bind_some _ _).symm.trans H;with_reducible exact z)|exact H
  have Ny449:=Xa.mk hy449;clear hy449;have H':=Xa.mk H;clear H
  go_enter Try.func27,Try.ntmps27
  go_wp2_with (first|((with_reducible refine Xx (N:=10) rfl ?_);refine Kd.Vq (Kd.int .i64) _ 3 ?hg (N:=10) ?hd (xs:=([(-2)]:List Int)) (inner:=[.int .i64 (-2)]) (ok:=fun _=>True) (okp:=fun _=>True) ?hr ?hp (fun _ hk=>hk) trivial (Below.refl _ _) (Nat.le_refl _) (by simp) ?_;(case hd=>rfl);(case hg=>rfl);(case hr=>first|(go_simp;done)|(go_simp;rfl));(case hp=>exact (Yl.one (show Kd.M (Kd.int .i64) _ _ _ (-2) [.int .i64 (-2)] from rfl) (Yl.none _ _)));intro v443 w5 ho6 hb hg_ hnew_;clear hg_ hnew_;(first|rw [← Ny442.out] at ho6|(simp only [Int.reduceToNat] at ho6;rw [← Ny442.out] at ho6));have n0_:=Xa.mk (Kd.Yg ho6 (Xc (bl_ HB)));have n1_:=Xa.mk (Xd (bl_ HB) hb);clear HB;have HO444:=n0_;have HB:=n1_;clear n0_ n1_;clear hb ho6;obtain ⟨Ao7,co7,eo7⟩:=Kd.Yr HO444.out;subst eo7)|((with_reducible refine Xf (f:=46) rfl ?_);refine Yf (some 13) rfl rfl Try.func46 (by kernel_rfl) rfl #[.slice Ao7 y442.length co7,.int .i64 (l0.length:Int)] rfl ga_ ?_;(with_reducible refine (Xl.calls _ _ y442 (l0.length:Int) t445 _ ?side1 ?side2 A2.out).mono ?_);(case side1=>repeat (first|exact (Kd.R_reads' HO444.out).2.2|(with_reducible refine Kd.Xq ?_ _)|(with_reducible refine Kd.Xr ?_ _)|(with_reducible refine Kd.Yc ?_)));(case side2=>exact (Kd.R_reads' HO444.out).2.1);rintro e w8 ⟨v446,rfl,ho0,hb⟩;refine ⟨_,rfl,?_⟩;have n0_:=Xa.mk (Kd.R_elder' (Kd.ra_ (HO444.out)) (Kd.Zj ho0) hb);have n1_:=Xa.mk (Kd.Yg (Kd.R_new' ho0 (Kd.Ut (Kd.ra_ (HO444.out)))) (Xc (bl_ HB)));have n2_:=Xa.mk (Xd (bl_ HB) hb);clear HO444;clear HB;have HO444:=n0_;have HO447:=n1_;have HB:=n2_;clear n0_ n1_ n2_;(try clear hb);(try clear hb2);(try clear hk);(try clear hi);(try clear ho0);have p4:0≤(0:Int):=(by omega);have q4:(0:Int)<((t445.length:Int):Int):=of_decide_eq_true (by first|(with_reducible assumption)|assumption);have qi4:(0<t445.length)=True:=eq_true (by omega);obtain ⟨go4,co4,eo4,gb4,gl4,cl4,HG4⟩:=Kd.R_form HO447.out (by omega);(first|cases eo4|(injection eo4 with ea_ en_ ec_;(first|subst ea_|(injection ea_ with ea_;subst ea_));subst ec_;clear en_));have GB4:=Xa.mk gb4;have GG4:=Xa.mk HG4;clear gb4 gl4 HG4;obtain ⟨hx4_0,hf4_0⟩:=Kd.R_celln 0 HO447.out (0:Int) p4 q4;(try rw [show ((0:Int)).toNat=0 from rfl] at hx4_0);(try simp only [Nat.reduceMul,Nat.zero_mul,Nat.zero_add,Nat.reduceAdd] at hx4_0);(try rw [show ((0:Int)).toNat=0 from rfl] at hf4_0);(try simp only [Nat.reduceMul,Nat.zero_mul,Nat.zero_add,Nat.reduceAdd] at hf4_0);replace p4:=eq_true p4;replace q4:=eq_true q4;have n_:=Xa.mk (Kd.Xn (ok':=(fun k_=>some k_≠(.slice Ao7 y442.length co7:Value).ownBlock)) HO447.out (fun k_ hk=>hk.2));clear HO447;have HO447:=n_;clear n_;obtain ⟨hy9_,hz9_⟩:=Kd.R_celln 0 HO447.out (0:Int) (by omega) (of_decide_eq_true (by first|(with_reducible assumption)|assumption));(try simp only [Int.reduceToNat,Int.toNat_zero,Int.toNat_ofNat,Nat.reduceMul,Nat.zero_mul,Nat.zero_add] at hy9_ hz9_);(try rw [show ((0:Int)).toNat=0 from rfl] at hy9_);(try rw [show ((0:Int)).toNat=0 from rfl] at hz9_);have HP9:=Kd.R_putg HO447.out (0:Int) (-1))|((with_reducible refine gate_store (t:=3) (p:=15) rfl ?_);refine Wh (t:=3) (p:=15) (v:=?vo_w10) (w1:=(w8.setCell ⟨go4,(0:Int).toNat,none⟩ (.int .i64 (-1)))) ?hg ?ho ?hn ?hr ?_;(case ho=>rfl);(case hg=>rfl);(case hn=>rfl);(case hr=>first|(go_simp;done)|(go_simp;rfl));intro w10 hw;have hg:w8.grownBy w10 (some go4):=(by rw [hw];exact HP9.2);have hp_:Kd.R (Kd.int .i64) 3 w10 w.heap.size (fun k_=>some k_≠(.slice Ao7 y442.length co7:Value).ownBlock) (.slice (some ⟨go4,0,none⟩) t445.length co4) y448:=(by rw [hw,Ny448.out];exact HP9.1);clear HP9;have n0_:=Xa.mk (Kd.Yz (v:=(.slice (some ⟨go4,0,none⟩) t445.length co4)) (v1:=(.slice (some ⟨go4,0,none⟩) t445.length co4)) (ok:=(fun _=>True)) (Kd.ra_ (HO444.out)) hg (.inl rfl));have n1_:=Xa.mk (hp_);have n2_:=Xa.mk ((by rw [hw];exact below_set (HB.out) GB4.out:Below w.heap.size w w10));clear HO444;clear HO447;clear HB;have HO444:=n0_;have HO447:=n1_;have HB:=n2_;clear n0_ n1_ n2_;clear hg hw hp_)|((with_reducible refine Xx (N:=16) rfl ?_);refine Kd.Vq (Kd.int .i64) _ 3 ?hg (N:=16) ?hd (xs:=([0]:List Int)) (inner:=[.int .i64 0]) (ok:=fun _=>True) (okp:=fun _=>True) ?hr ?hp (fun _ hk=>hk) trivial (Below.refl _ _) (Nat.le_refl _) (by simp) ?_;(case hd=>rfl);(case hg=>rfl);(case hr=>first|(go_simp;done)|(go_simp;rfl));(case hp=>exact (Yl.one (show Kd.M (Kd.int .i64) _ _ _ 0 [.int .i64 0] from rfl) (Yl.none _ _)));intro v450 w11 ho12 hb hg_ hnew_;clear hg_ hnew_;(first|rw [← Ny449.out] at ho12|(simp only [Int.reduceToNat] at ho12;rw [← Ny449.out] at ho12));have n0_:=Xa.mk (Kd.R_elder' (Kd.ra_ (HO444.out)) (Kd.Zj ho12) hb);have n1_:=Xa.mk (Kd.R_elder' (Kd.ra_ (HO447.out)) (Kd.Zj ho12) hb);have n2_:=Xa.mk (Kd.Yg (Kd.R_new' (Kd.R_new' ho12 (Kd.Ut (Kd.ra_ (HO444.out)))) (Kd.Ut (Kd.ra_ (HO447.out)))) (Xc (bl_ HB)));have n3_:=Xa.mk (Xd (bl_ HB) hb);clear HO444;clear HO447;clear HB;have HO444:=n0_;have HO447:=n1_;have HO451:=n2_;have HB:=n3_;clear n0_ n1_ n2_ n3_;clear hb ho12))
  go_loopg [4] k (fun kq v4 w'=>∃ (x3_1:List Int) (x4_1:List Int),Xa (Ya.l0 kq l0 x3_1 x4_1=some r)∧Xa (kq≤k)∧Xa (Kd.R (Kd.int .i64) 3 w' w.heap.size (fun k_=>some k_≠(v4:Value).ownBlock) (.slice (some ⟨go4,0,none⟩) t445.length co4) x3_1)∧Xa (Kd.Q (Kd.int .i64) 3 w' w.heap.size (fun k_=>some k_≠((.slice (some ⟨go4,0,none⟩) t445.length co4):Value).ownBlock) v4 x4_1)∧Xa (Below w.heap.size w w'))
  case atStart=>exact ⟨(y448),(y449),H',⟨Nat.le_refl _⟩,⟨Kd.ra_ (Kd.Xn HO447.out (fun _ hk=>hk.2))⟩,⟨Kd.Q_of_R (Kd.ra_ (Kd.Xn HO451.out (fun _ hk=>hk.2)))⟩,⟨bl_ HB⟩⟩
  case round=>
   clear H'
   try clear c2
   try clear p2
   try clear c3
   try clear c3b0
   try clear c3b1
   try clear c4
   try clear p4
   try clear q4
   try clear hx4
   try clear qi4
   try clear hf4
   try clear hx4_0
   try clear p4
   try clear q4
   obtain ⟨x3_1,x4_1,HA,HK1,HO_3,HO_4,HB⟩:=hrel;have hl3_1:=(Kd.R_reads' HO_3.out).1;rw [hl3_1] at HO_3
   (try simp only [hl3_1])
   (try simp only [hl3_1] at HO_4)
   cases gk with
   |zero=>exact absurd HA.out (by simp [Ya.l0])
   |succ k1=>
    have H:=HA.out;clear HA;simp only [Ya.l0] at H;by_cases c13:(x4_1.length:Int) > 0
    ·rw [if_pos c13] at H;have c13b0:decide (0<(x4_1.length:Int))=true:=decide_eq_true c13;have c13b1:decide (0<x4_1.length)=true:=decide_eq_true (by omega);clear c13;by_cases c14:0<(x4_1.length:Int)
     ·rw [if_pos c14] at H;have c14b0:decide (0<(x4_1.length:Int))=true:=decide_eq_true c14;have c14b1:decide (0<x4_1.length)=true:=decide_eq_true (by omega);clear c14;by_cases c15:1≤(x4_1.length:Int)
      ·rw [if_pos c15] at H;have c15b0:=eq_true c15;have c15b1:decide (1≤(x4_1.length:Int))=true:=decide_eq_true c15;clear c15;obtain ⟨y453,hy453⟩:∃ y_:List Int,y_=(x4_1.drop (1:Int).toNat):=⟨_,rfl⟩
       replace H:(if 0≤(rd x4_1 0) then (if (rd x4_1 0)<(l0.length:Int) then (if (rd x4_1 0)<(x3_1.length:Int) then ((impl_Ins_moves.f ((Xb l0 (rd x4_1 0)).f0) ((Xb l0 (rd x4_1 0)).f1) ((Xb l0 (rd x4_1 0)).f2) ((Xb l0 (rd x4_1 0)).f3) (rd x3_1 (rd x4_1 0))).bind fun bt458=>(if bt458.2=true then ((Ue.f ((Xb l0 (rd x4_1 0)).f0) ((Xb l0 (rd x4_1 0)).f1) ((Xb l0 (rd x4_1 0)).f2) ((Xb l0 (rd x4_1 0)).f3) (rd x4_1 0)).bind fun t461=>(Ya.l1 k1 l0 x3_1 y453 bt458.1 t461 (t461.length:Int) 0)) else (some false))) else (none)) else (none)) else (none))=some r:=by subst hy453;first|with_reducible exact H|(have z:=(Option.bind_some _ _).symm.trans H;with_reducible exact z)|exact H
       have Ny453:=Xa.mk hy453;clear hy453;by_cases c16:0≤(rd x4_1 0)
       ·rw [if_pos c16] at H;have c16b0:decide (0≤(rd x4_1 0))=true:=decide_eq_true c16;clear c16;by_cases c17:(rd x4_1 0)<(l0.length:Int)
        ·rw [if_pos c17] at H;have c17b0:decide ((rd x4_1 0)<(l0.length:Int))=true:=decide_eq_true c17;clear c17;by_cases c18:(rd x4_1 0)<(x3_1.length:Int)
         ·rw [if_pos c18] at H;have c18b0:decide ((rd x4_1 0)<(x3_1.length:Int))=true:=decide_eq_true c18;clear c18;replace H:=Option.bind_eq_some_iff.mp H;obtain ⟨⟨t458,t459⟩,A190,H⟩:=H;replace H:(if t459=true then ((Ue.f ((Xb l0 (rd x4_1 0)).f0) ((Xb l0 (rd x4_1 0)).f1) ((Xb l0 (rd x4_1 0)).f2) ((Xb l0 (rd x4_1 0)).f3) (rd x4_1 0)).bind fun t461=>(Ya.l1 k1 l0 x3_1 y453 t458 t461 (t461.length:Int) 0)) else (some false))=some r:=H;have A19:=Xa.mk A190;clear A190;by_cases c20:t459=true
          ·subst c20
           have H1:((Ue.f ((Xb l0 (rd x4_1 0)).f0) ((Xb l0 (rd x4_1 0)).f1) ((Xb l0 (rd x4_1 0)).f2) ((Xb l0 (rd x4_1 0)).f3) (rd x4_1 0)).bind fun t461=>(Ya.l1 k1 l0 x3_1 y453 t458 t461 (t461.length:Int) 0))=some r:=by rw [if_pos rfl] at H;exact H
           clear H;have H:=H1;clear H1;replace H:=Option.bind_eq_some_iff.mp H;obtain ⟨t461,A210,H⟩:=H;replace H:(Ya.l1 k1 l0 x3_1 y453 t458 t461 (t461.length:Int) 0)=some r:=H;have A21:=Xa.mk A210;clear A210;have H':=Xa.mk H;clear H;obtain ⟨Ao22,co22,eo22,_⟩:=Kd.Q_slice HO_4.out;subst eo22;have p452:0≤(0:Int):=(by omega);have q452:0<(x4_1.length:Int):=of_decide_eq_true (by first|(with_reducible assumption)|assumption);obtain ⟨ad452,e452,hx452_0⟩:=Kd.Uv (Kd.Q_reads' HO_4.out).2.2 0 p452 q452;cases e452
           have qi452:(0<x4_1.length)=True:=eq_true (by omega)
           (try rw [show ((0:Int)).toNat=0 from rfl] at hx452_0)
           (try rw [Addr.add_zero'] at hx452_0)
           replace p452:=eq_true p452;replace q452:=eq_true q452;have q23:(1:Int)≤((x4_1.length:Int):Int):=of_decide_eq_true (by first|(with_reducible assumption)|assumption);obtain ⟨i023,hi023,_,hsz23,_⟩:=info_parts info3;have hcut23:=cut_from (P:=Try.prog) 34 3 .i64 Try.underlying34 hi023 1 hsz23 (some ad452) x4_1.length co22 1 (by omega) q23;have hr23:=Kd.Q_drop (k:=(1:Int).toNat) HO_4.out (by omega);obtain ⟨A23,hA23⟩:∃ A1,A1=(if co22=(1:Int).toNat then (some ad452) else ((some ad452):Option Addr).map (·.add ((1:Int).toNat * 1))):=⟨_,rfl⟩;obtain ⟨c23,hc23⟩:∃ c1,c1=co22 - (1:Int).toNat:=⟨_,rfl⟩;have hy23:y453.length=x4_1.length - (1:Int).toNat:=(by rw [Ny453.out,List.length_drop]);rw [← Ny453.out] at hr23;rw [← hy23,← hA23,← hc23] at hcut23;replace hr23:Kd.Q (Kd.int .i64) 3 wr w.heap.size (fun k_=>some k_≠(.slice (some ⟨go4,0,none⟩) x3_1.length co4:Value).ownBlock) (.slice A23 y453.length c23) y453:=(by rw [hA23,hc23,hy23];exact hr23);have HE23:Xa ((Value.slice A23 y453.length c23).ownBlock=(.slice (some ad452) x4_1.length co22:Value).ownBlock):=⟨by rw [hA23];split <;> (cases ((some ad452):Option Addr) <;> rfl)⟩;clear hy23 hi023 hsz23 HO_4 hA23 hc23;have HO455:=Xa.mk hr23;clear hr23;replace q23:=eq_true q23;have n_:=Xa.mk (Kd.Xn (ok':=fun k_=>some k_≠(.slice A23 y453.length c23:Value).ownBlock) HO_3.out (fun k_ hk=>(by rw [HE23.out];exact hk)));clear HO_3;have HO_3:=n_;clear n_
           try go_wp2
           have n0_:=Xa.mk (Kd.Va HO_3.out);have n1_:=Xa.mk (Kd.Q_drew HO455.out);have n2_:=Xa.mk (below_drew1 HB.out);clear HO_3;clear HO455;clear HB;have HO_3:=n0_;have HO455:=n1_;have HB:=n2_;clear n0_ n1_ n2_;have p456:0≤((rd x4_1 0):Int):=of_decide_eq_true (by first|(with_reducible assumption)|assumption);have q456:(rd x4_1 0)<(l0.length:Int):=of_decide_eq_true (by first|(with_reducible assumption)|assumption);obtain ⟨ad456,e456,hx456_0,hx456_1,hx456_2,hx456_3⟩:=Zt HR0.out (rd x4_1 0) p456 q456;have hw456_3:=hx456_3;have hw456_2:=hx456_2;have hw456_1:=hx456_1;have hw456_0:=hx456_0;cases e456
           replace hx456_0:=(HB.out.cell (World.block_lt_of_cell? w _ hx456_0)).trans hx456_0;replace hx456_1:=(HB.out.cell (World.block_lt_of_cell? w _ hx456_1)).trans hx456_1;replace hx456_2:=(HB.out.cell (World.block_lt_of_cell? w _ hx456_2)).trans hx456_2;replace hx456_3:=(HB.out.cell (World.block_lt_of_cell? w _ hx456_3)).trans hx456_3;replace p456:=eq_true p456;replace q456:=eq_true q456;have p457:0≤((rd x4_1 0):Int):=of_decide_eq_true (by first|(with_reducible assumption)|assumption);have q457:(rd x4_1 0)<(x3_1.length:Int):=of_decide_eq_true (by first|(with_reducible assumption)|assumption);obtain ⟨ad457,e457,hx457_0⟩:=Kd.Uv (Kd.R_reads' HO_3.out).2.2 (rd x4_1 0) p457 q457;obtain rfl:(⟨go4,0,none⟩:Addr)=ad457:=(by injection e457)
           (first|simp only [add_plain] at hx457_0|simp only [add_at] at hx457_0|simp only [Addr.add,Nat.zero_add] at hx457_0|skip)
           replace p457:=eq_true p457;replace q457:=eq_true q457;refine start_ (n:=14) (S:=fun w'=>w'.cell? (ad456.add (((rd x4_1 0)).toNat * 4))=some (.int .i64 ((Xb l0 (rd x4_1 0)).f0))∧w'.cell? ⟨(ad456.add (((rd x4_1 0)).toNat * 4)).block,(ad456.add (((rd x4_1 0)).toNat * 4)).off+1,none⟩=some (.int .i64 ((Xb l0 (rd x4_1 0)).f1))∧w'.cell? ⟨(ad456.add (((rd x4_1 0)).toNat * 4)).block,(ad456.add (((rd x4_1 0)).toNat * 4)).off+2,none⟩=some (.int .i64 ((Xb l0 (rd x4_1 0)).f2))∧w'.cell? ⟨(ad456.add (((rd x4_1 0)).toNat * 4)).block,(ad456.add (((rd x4_1 0)).toNat * 4)).off+3,none⟩=some (.int .i64 ((Xb l0 (rd x4_1 0)).f3))∧w'.cell? ⟨go4,((rd x4_1 0)).toNat,none⟩=some (.int .i64 (rd x3_1 (rd x4_1 0)))) (ds:=[]) #[false,false,false,false,false,false,false,false,false,false,false,false,false,false] (by kernel_rfl) rfl rfl ⟨((HB.out.cell (World.block_lt_of_cell? w _ hw456_0)).trans hw456_0),((HB.out.cell (World.block_lt_of_cell? w _ hw456_1)).trans hw456_1),((HB.out.cell (World.block_lt_of_cell? w _ hw456_2)).trans hw456_2),((HB.out.cell (World.block_lt_of_cell? w _ hw456_3)).trans hw456_3),hx457_0⟩ (fun hHeld=>?_);refine with_tabW Ya.tab7 Ya.bits7 (fun HT_ HW_=>?_)
           generalize wr.drew=w24 at HO_3 HO455 HB hx456_0 hx456_1 hx456_2 hx456_3 hx457_0 hHeld ⊢
           refine Zf (i:=0) (N:=some 26) (v:=?_) (a':=?_) #[true,false,false,false,false,false,false,false,false,false,false,false,false,false] rfl rfl (Za HT_.out (by kernel_rfl)) (fun _ _ _ h=>h) (Or.inl ⟨by rfl,?_⟩) ?_ ?_
           rotate_left
           ·intro w';go_simp
            with_reducible rfl
           rotate_left
           ·simp only [Act.put,List.setIfInBounds_toArray,List.set_cons_zero,List.set_cons_succ,Xy,Xz];rfl
           refine Zf (i:=1) (N:=some 27) (v:=?_) (a':=?_) #[true,true,false,false,false,false,false,false,false,false,false,false,false,false] rfl rfl (Za HT_.out (by kernel_rfl)) (fun _ _ _ h=>h) (Or.inl ⟨by rfl,?_⟩) ?_ ?_
           rotate_left
           ·intro w';go_simp
            with_reducible rfl
           rotate_left
           ·simp only [Act.put,List.setIfInBounds_toArray,List.set_cons_zero,List.set_cons_succ,Xy,Xz];rfl
           refine Zf (i:=2) (N:=some 28) (v:=?_) (a':=?_) #[true,true,true,false,false,false,false,false,false,false,false,false,false,false] rfl rfl (Za HT_.out (by kernel_rfl)) (fun _ _ _ h=>h) (Or.inl ⟨by rfl,?_⟩) ?_ ?_
           rotate_left
           ·intro w';go_simp
            with_reducible rfl
           rotate_left
           ·simp only [Act.put,List.setIfInBounds_toArray,List.set_cons_zero,List.set_cons_succ,Xy,Xz];rfl
           refine Zf (i:=4) (N:=some 30) (v:=?_) (a':=?_) #[true,true,true,false,true,false,false,false,false,false,false,false,false,false] rfl rfl (Za HT_.out (by kernel_rfl)) (fun _ _ _ h=>h) (Or.inl ⟨by rfl,?_⟩) ?_ ?_
           rotate_left
           ·intro w';go_simp
            with_reducible rfl
           rotate_left
           ·simp only [Act.put,List.setIfInBounds_toArray,List.set_cons_zero,List.set_cons_succ,Xy,Xz];rfl
           refine Zf (i:=5) (N:=some 31) (v:=?_) (a':=?_) #[true,true,true,false,true,true,false,false,false,false,false,false,false,false] rfl rfl (Za HT_.out (by kernel_rfl)) (fun _ _ _ h=>h) (Or.inl ⟨by rfl,?_⟩) ?_ ?_
           rotate_left
           ·intro w';go_simp
            with_reducible rfl
           rotate_left
           ·simp only [Act.put,List.setIfInBounds_toArray,List.set_cons_zero,List.set_cons_succ,Xy,Xz];rfl
           refine Zf (i:=6) (N:=some 32) (v:=?_) (a':=?_) #[true,true,true,false,true,true,true,false,false,false,false,false,false,false] rfl rfl (Za HT_.out (by kernel_rfl)) (fun _ _ _ h=>h) (Or.inl ⟨by rfl,?_⟩) ?_ ?_
           rotate_left
           ·intro w';go_simp
            with_reducible rfl
           rotate_left
           ·simp only [Act.put,List.setIfInBounds_toArray,List.set_cons_zero,List.set_cons_succ,Xy,Xz];rfl
           refine take_ (i:=3) (N:=some 29) (v:=?_) (a':=?_) #[true,true,true,true,true,true,true,false,false,false,false,false,false,false] rfl rfl (take_ofW HT_.out HW_.out (by kernel_rfl)) (fun _ _ _ h=>h) (Or.inl ⟨by rfl,?_⟩) hHeld ?_ ?_
           rotate_left
           ·rintro w' ⟨s0,s1,s2,s3,s4⟩
            go_simp
            with_reducible rfl
           rotate_left
           ·simp only [Act.put,List.setIfInBounds_toArray,List.set_cons_zero,List.set_cons_succ,Xy,Xz];rfl
           refine take_ (i:=7) (N:=some 33) (v:=?_) (a':=?_) #[true,true,true,true,true,true,true,true,false,false,false,false,false,false] rfl rfl (take_ofW HT_.out HW_.out (by kernel_rfl)) (fun _ _ _ h=>h) (Or.inl ⟨by rfl,?_⟩) hHeld ?_ ?_
           rotate_left
           ·rintro w' ⟨s0,s1,s2,s3,s4⟩
            go_simp
            with_reducible rfl
           rotate_left
           ·simp only [Act.put,List.setIfInBounds_toArray,List.set_cons_zero,List.set_cons_succ,Xy,Xz];rfl
           refine one_ (i:=8) (N:=some 34) #[true,true,true,true,true,true,true,true,true,false,false,false,false,false] rfl rfl (one_of HT_.out (by kernel_rfl)) (by decide) (fun K hK=>?_)
           refine goes_ Try.func47 (by kernel_rfl) rfl #[.agg #[.int .i64 ((Xb l0 (rd x4_1 0)).f0),.int .i64 ((Xb l0 (rd x4_1 0)).f1),.int .i64 ((Xb l0 (rd x4_1 0)).f2),.int .i64 ((Xb l0 (rd x4_1 0)).f3)],.int .i64 (rd x3_1 (rd x4_1 0))] (by rfl) rfl rfl ga_ ?_
           with_reducible refine (impl_Ins_moves.calls ((Xb l0 (rd x4_1 0)).f0) ((Xb l0 (rd x4_1 0)).f1) ((Xb l0 (rd x4_1 0)).f2) ((Xb l0 (rd x4_1 0)).f3) (rd x3_1 (rd x4_1 0)) t458 true _ A19.out).mono ?_
           rintro e w25 ⟨rfl,hb⟩
           have HS4_:=(hb.cell (World.block_lt_of_cell? _ _ (hHeld.2.2.2.2))).trans (hHeld.2.2.2.2);refine ⟨_,rfl,?_⟩
           have n0_:=Xa.mk (Kd.Zl (Kd.ra_ (HO_3.out)) hb);have n1_:=Xa.mk (Kd.Q_below (Kd.qa_ (HO455.out)) hb);have n2_:=Xa.mk (Xd (bl_ HB) hb);clear HO_3;clear HO455;clear HB;have HO_3:=n0_;have HO455:=n1_;have HB:=n2_;clear n0_ n1_ n2_
           (try clear hb)
           (try clear hb2)
           (try clear hk)
           (try clear hi)
           refine hK.out _ _ ⟨((HB.out.cell (World.block_lt_of_cell? w _ hw456_0)).trans hw456_0),((HB.out.cell (World.block_lt_of_cell? w _ hw456_1)).trans hw456_1),((HB.out.cell (World.block_lt_of_cell? w _ hw456_2)).trans hw456_2),((HB.out.cell (World.block_lt_of_cell? w _ hw456_3)).trans hw456_3),HS4_⟩ (fun hHeld=>?_)
           clear hK K;refine Vr (a':=?_) ?_ ?_
           rotate_left
           ·show Act.put _ (some 34) _=_
            simp only [Act.put,List.setIfInBounds_toArray,List.set_cons_zero,List.set_cons_succ,Xy,Xz];rfl
           refine Zf (i:=9) (N:=some 25) (v:=?_) (a':=?_) #[true,true,true,true,true,true,true,true,true,true,false,false,false,false] rfl rfl (Za HT_.out (by kernel_rfl)) (fun _ _ _ h=>h) (Or.inl ⟨by rfl,?_⟩) ?_ ?_
           rotate_left
           ·intro w';go_simp
            with_reducible rfl
           rotate_left
           ·simp only [Act.put,List.setIfInBounds_toArray,List.set_cons_zero,List.set_cons_succ,Xy,Xz];rfl
           refine Zf (i:=10) (N:=some 35) (v:=?_) (a':=?_) #[true,true,true,true,true,true,true,true,true,true,true,false,false,false] rfl rfl (Za HT_.out (by kernel_rfl)) (fun _ _ _ h=>h) (Or.inl ⟨by rfl,?_⟩) ?_ ?_
           rotate_left
           ·intro w';go_simp
            with_reducible rfl
           rotate_left
           ·simp only [Act.put,List.setIfInBounds_toArray,List.set_cons_zero,List.set_cons_succ,Xy,Xz];rfl
           refine Zf (i:=11) (N:=some 36) (v:=?_) (a':=?_) #[true,true,true,true,true,true,true,true,true,true,true,true,false,false] rfl rfl (Za HT_.out (by kernel_rfl)) (fun _ _ _ h=>h) (Or.inl ⟨by rfl,?_⟩) ?_ ?_
           rotate_left
           ·intro w';go_simp
            with_reducible rfl
           rotate_left
           ·simp only [Act.put,List.setIfInBounds_toArray,List.set_cons_zero,List.set_cons_succ,Xy,Xz];rfl
           refine Zf (i:=12) (N:=some 6) (v:=?_) (a':=?_) #[true,true,true,true,true,true,true,true,true,true,true,true,true,false] rfl rfl (Za HT_.out (by kernel_rfl)) (fun _ _ _ h=>h) (Or.inl ⟨by rfl,?_⟩) ?_ ?_
           rotate_left
           ·intro w';go_simp
            with_reducible rfl
           rotate_left
           ·simp only [Act.put,List.setIfInBounds_toArray,List.set_cons_zero,List.set_cons_succ,Xy,Xz];rfl
           refine Zf (i:=13) (N:=some 7) (v:=?_) (a':=?_) #[true,true,true,true,true,true,true,true,true,true,true,true,true,true] rfl rfl (Za HT_.out (by kernel_rfl)) (fun _ _ _ h=>h) (Or.inl ⟨by rfl,?_⟩) ?_ ?_
           rotate_left
           ·intro w';go_simp
            with_reducible rfl
           rotate_left
           ·simp only [Act.put,List.setIfInBounds_toArray,List.set_cons_zero,List.set_cons_succ,Xy,Xz];rfl
           refine done_ (done_of HT_.out (by kernel_rfl)) ?_
           have p460:0≤((rd x4_1 0):Int):=of_decide_eq_true (by first|(with_reducible assumption)|assumption);have q460:(rd x4_1 0)<(l0.length:Int):=of_decide_eq_true (by first|(with_reducible assumption)|assumption);obtain ⟨ad460,e460,hx460_0,hx460_1,hx460_2,hx460_3⟩:=Zt HR0.out (rd x4_1 0) p460 q460;obtain rfl:ad456=ad460:=(by injection e460);replace hx460_0:=(HB.out.cell (World.block_lt_of_cell? w _ hx460_0)).trans hx460_0;replace hx460_1:=(HB.out.cell (World.block_lt_of_cell? w _ hx460_1)).trans hx460_1;replace hx460_2:=(HB.out.cell (World.block_lt_of_cell? w _ hx460_2)).trans hx460_2;replace hx460_3:=(HB.out.cell (World.block_lt_of_cell? w _ hx460_3)).trans hx460_3;replace p460:=eq_true p460;replace q460:=eq_true q460
           try go_wp2_with (first|((with_reducible refine Xf (f:=48) rfl ?_);refine Yf (some 44) rfl rfl Try.func48 (by kernel_rfl) rfl #[.agg #[.int .i64 ((Xb l0 (rd x4_1 0)).f0),.int .i64 ((Xb l0 (rd x4_1 0)).f1),.int .i64 ((Xb l0 (rd x4_1 0)).f2),.int .i64 ((Xb l0 (rd x4_1 0)).f3)],.int .i64 (rd x4_1 0)] rfl ga_ ?_;(with_reducible refine (Ue.calls ((Xb l0 (rd x4_1 0)).f0) ((Xb l0 (rd x4_1 0)).f1) ((Xb l0 (rd x4_1 0)).f2) ((Xb l0 (rd x4_1 0)).f3) (rd x4_1 0) t461 _ A21.out).mono ?_);rintro e w26 ⟨v462,rfl,ho0,hb⟩;refine ⟨_,rfl,?_⟩;have n0_:=Xa.mk (Kd.R_elder' (Kd.ra_ (HO_3.out)) (Kd.Zj ho0) hb);have n1_:=Xa.mk (Kd.Q_elder' (Kd.qa_ (HO455.out)) (Kd.Zj ho0) hb);have n2_:=Xa.mk (Kd.Yg (Kd.R_new' (Kd.R_new' ho0 (Kd.Ut (Kd.ra_ (HO_3.out)))) (Kd.Q_lt (Kd.qa_ (HO455.out)))) (Xc (bl_ HB)));have n3_:=Xa.mk (Xd (bl_ HB) hb);clear HO_3;clear HO455;clear HB;have HO_3:=n0_;have HO455:=n1_;have HO463:=n2_;have HB:=n3_;clear n0_ n1_ n2_ n3_;(try clear hb);(try clear hb2);(try clear hk);(try clear hi);(try clear ho0);obtain ⟨Ao27,co27,eo27⟩:=Kd.Yr HO463.out;subst eo27))
           go_loopg [4,46] k1 (fun kq v4 v46 w'=>∃ (x3_2:List Int) (x4_2:List Int) (x46_2:Int),v46=.int .i64 x46_2∧Xa (Ya.l1 kq l0 x3_2 x4_2 t458 t461 (t461.length:Int) x46_2=some r)∧Xa (kq≤k1)∧Xa (Kd.R (Kd.int .i64) 3 w' w.heap.size (fun k_=>some k_≠(v4:Value).ownBlock∧some k_≠((.slice Ao27 t461.length co27):Value).ownBlock) (.slice (some ⟨go4,0,none⟩) x3_1.length co4) x3_2)∧Xa (Kd.Q (Kd.int .i64) 3 w' w.heap.size (fun k_=>some k_≠((.slice (some ⟨go4,0,none⟩) x3_1.length co4):Value).ownBlock∧some k_≠((.slice Ao27 t461.length co27):Value).ownBlock) v4 x4_2)∧Xa (Kd.R (Kd.int .i64) 3 w' w.heap.size (fun k_=>some k_≠((.slice (some ⟨go4,0,none⟩) x3_1.length co4):Value).ownBlock∧some k_≠(v4:Value).ownBlock) (.slice Ao27 t461.length co27) t461)∧Xa (Below w.heap.size w w'))
           case atStart=>exact ⟨(x3_1),(y453),(0),(by first|rfl|(simp;done)|(simp [*];done)),H',⟨Nat.le_refl _⟩,⟨by (try simp only [hl3_1]);(with_reducible repeat (first|apply Kd.Ud|apply Kd.Ua|apply Kd.Va));exact HO_3.out⟩,⟨by (try simp only [hl3_1]);(with_reducible repeat (first|apply Kd.Q_alloc|apply Kd.Q_drewN|apply Kd.Q_drew));exact HO455.out⟩,⟨by (try simp only [hl3_1]);(with_reducible repeat (first|apply Kd.Ud|apply Kd.Ua|apply Kd.Va));exact Kd.Xn HO463.out (fun _ hk=>⟨hk.1.2,hk.2⟩)⟩,⟨bl_ HB⟩⟩
           case round=>
            clear H'
            try clear c1
            try clear c2
            try clear p2
            try clear q2
            try clear c3
            try clear c3b0
            try clear c3b1
            try clear c4
            try clear p4
            try clear q4
            try clear hx4
            try clear qi4
            try clear hf4
            try clear c13
            try clear c13b0
            try clear c13b1
            try clear c14
            try clear c14b0
            try clear c14b1
            try clear c15
            try clear c15b0
            try clear c15b1
            try clear c16
            try clear c16b0
            try clear c17
            try clear c17b0
            try clear c18
            try clear c18b0
            try clear c20
            try clear c23
            try clear q23
            try clear c27
            try clear hx452_0
            try clear hx456_0
            try clear hx456_1
            try clear hx456_2
            try clear hx456_3
            try clear hx457_0
            try clear hx460_0
            try clear hx460_1
            try clear hx460_2
            try clear hx460_3
            try clear hx4_0
            try clear p2
            try clear p4
            try clear p452
            try clear p456
            try clear p457
            try clear p460
            try clear q23
            try clear q4
            try clear q452
            try clear q456
            try clear q457
            try clear q460
            obtain ⟨x3_2,x4_2,x46_2,rfl,HA,HK2,HO_3,HO_4,HO_44,HB⟩:=hrel;have hl3_2:=(Kd.R_reads' HO_3.out).1;rw [hl3_2] at HO_3
            (try simp only [hl3_2])
            (try simp only [hl3_2] at HO_4)
            (try simp only [hl3_2] at HO_44)
            cases gk with
            |zero=>exact absurd HA.out (by simp [Ya.l1])
            |succ k2=>
             have H:=HA.out;clear HA;simp only [Ya.l1] at H;by_cases c28:x46_2<(t461.length:Int)
             ·rw [if_pos c28] at H;have c28b0:decide (x46_2<(t461.length:Int))=true:=decide_eq_true c28;clear c28;by_cases c29:0≤x46_2
              ·rw [if_pos c29] at H;have c29b0:decide (0≤x46_2)=true:=decide_eq_true c29;clear c29;by_cases c30:x46_2<(t461.length:Int)
               ·rw [if_pos c30] at H;have c30b0:decide (x46_2<(t461.length:Int))=true:=decide_eq_true c30;clear c30;by_cases c31:0≤(rd t461 x46_2)
                ·rw [if_pos c31] at H;have c31b0:decide (0≤(rd t461 x46_2))=true:=decide_eq_true c31;clear c31;by_cases c32:(rd t461 x46_2)<(x3_2.length:Int)
                 ·rw [if_pos c32] at H;have c32b0:decide ((rd t461 x46_2)<(x3_2.length:Int))=true:=decide_eq_true c32;clear c32;by_cases c33:(rd x3_2 (rd t461 x46_2))=(-2)
                  ·rw [if_pos c33] at H;have c33b0:((rd x3_2 (rd t461 x46_2)) == (-2))=true:=beq_iff_eq.mpr c33;have c33b1:((rd x3_2 (rd t461 x46_2)) != (-2))=false:=bne_eq_false_iff_eq.mpr c33;clear c33;obtain ⟨y466,hy466⟩:∃ y_:List Int,y_=(x3_2.set ((rd t461 x46_2):Int).toNat t458):=⟨_,rfl⟩
                   replace H:(if x4_2.length<17592186044416 then (Ya.l1 k2 l0 y466 (x4_2 ++ [rd t461 x46_2]) t458 t461 (t461.length:Int) (wrap64 (x46_2+1))) else (none))=some r:=by subst hy466;first|with_reducible exact H|(have z:=(Option.bind_some _ _).symm.trans H;with_reducible exact z)|exact H
                   have Ny466:=Xa.mk hy466;clear hy466;by_cases c35:x4_2.length<17592186044416
                   ·rw [if_pos c35] at H;have LMc35:=Xa.mk c35;clear c35;obtain ⟨y467,hy467⟩:∃ y_:List Int,y_=(x4_2 ++ [rd t461 x46_2]):=⟨_,rfl⟩
                    replace H:(Ya.l1 k2 l0 y466 y467 t458 t461 (t461.length:Int) (wrap64 (x46_2+1)))=some r:=by subst hy467;first|with_reducible exact H|(have z:=(Option.bind_some _ _).symm.trans H;with_reducible exact z)|exact H
                    have Ny467:=Xa.mk hy467;clear hy467;have H':=Xa.mk H;clear H;have p464:0≤(x46_2:Int):=of_decide_eq_true (by first|(with_reducible assumption)|assumption);have q464:x46_2<(t461.length:Int):=of_decide_eq_true (by first|(with_reducible assumption)|assumption);obtain ⟨ad464,e464,hx464_0⟩:=Kd.Uv (Kd.R_reads' HO_44.out).2.2 x46_2 p464 q464;cases e464
                    replace p464:=eq_true p464;replace q464:=eq_true q464;have p465:0≤((rd t461 x46_2):Int):=of_decide_eq_true (by first|(with_reducible assumption)|assumption);have q465:(rd t461 x46_2)<(x3_2.length:Int):=of_decide_eq_true (by first|(with_reducible assumption)|assumption);obtain ⟨ad465,e465,hx465_0⟩:=Kd.Uv (Kd.R_reads' HO_3.out).2.2 (rd t461 x46_2) p465 q465;obtain rfl:(⟨go4,0,none⟩:Addr)=ad465:=(by injection e465)
                    (first|simp only [add_plain] at hx465_0|simp only [add_at] at hx465_0|simp only [Addr.add,Nat.zero_add] at hx465_0|skip)
                    replace p465:=eq_true p465;replace q465:=eq_true q465;have p34:0≤((rd t461 x46_2):Int):=of_decide_eq_true (by first|(with_reducible assumption)|assumption);have q34:((rd t461 x46_2):Int)<((x3_2.length:Int):Int):=of_decide_eq_true (by first|(with_reducible assumption)|assumption);obtain ⟨hx34_0,hf34_0⟩:=Kd.R_celln 0 HO_3.out ((rd t461 x46_2):Int) p34 q34;replace p34:=eq_true p34;replace q34:=eq_true q34;have HP36:=Kd.R_putg HO_3.out ((rd t461 x46_2):Int) t458;go_wp2_with (first|((with_reducible refine gate_store (t:=3) (p:=59) rfl ?_);refine Wh (t:=3) (p:=59) (v:=?vo_w37) (w1:=(wr.setCell ⟨go4,((rd t461 x46_2):Int).toNat,none⟩ (.int .i64 t458))) ?hg ?ho ?hn ?hr ?_;(case ho=>rfl);(case hg=>rfl);(case hn=>rfl);(case hr=>first|(go_simp;done)|(go_simp;rfl));intro w37 hw;have hg:wr.grownBy w37 (some go4):=(by rw [hw];exact HP36.2);have hp_:Kd.R (Kd.int .i64) 3 w37 w.heap.size (fun k_=>some k_≠(u4:Value).ownBlock∧some k_≠(.slice (some ad464) t461.length co27:Value).ownBlock) (.slice (some ⟨go4,0,none⟩) x3_2.length co4) y466:=(by rw [hw,Ny466.out];exact HP36.1);clear HP36;have n0_:=Xa.mk (hp_);have n1_:=Xa.mk (Kd.Q_after (v:=(.slice (some ⟨go4,0,none⟩) x3_2.length co4)) (v1:=(.slice (some ⟨go4,0,none⟩) x3_2.length co4)) (ok:=(fun k_=>some k_≠(.slice (some ad464) t461.length co27:Value).ownBlock)) (Kd.qa_ (Kd.Q_mono HO_4.out (fun _ hk=>⟨hk.2,hk.1⟩))) hg (.inl rfl));have n2_:=Xa.mk (Kd.Yz (v:=(.slice (some ⟨go4,0,none⟩) x3_2.length co4)) (v1:=(.slice (some ⟨go4,0,none⟩) x3_2.length co4)) (ok:=(fun k_=>some k_≠(u4:Value).ownBlock)) (Kd.ra_ (Kd.Xn HO_44.out (fun _ hk=>⟨hk.2,hk.1⟩))) hg (.inl rfl));have n3_:=Xa.mk ((by rw [hw];exact below_set (HB.out) GB4.out:Below w.heap.size w w37));clear HO_3;clear HO_4;clear HO_44;clear HB;have HO_3:=n0_;have HO_4:=n1_;have HO_44:=n2_;have HB:=n3_;clear n0_ n1_ n2_ n3_;clear hg hw hp_)|((with_reducible refine Yp (b:=.append) (xs:=#[.tmp 60,.tmp 62]) rfl ?_);at_builtin;refine Kd.Q_append (Kd.int .i64) (w0:=w) w.heap.size rfl (.tmp 60) (.tmp 62) 34 3 (.int .i64 0) 8 rfl Try.underlying34 info3 rfl (by decide) (by omega) u4 x4_2 (rd t461 x46_2) [.int .i64 (rd t461 x46_2)] (fun k_=>some k_≠(.slice (some ⟨go4,0,none⟩) x3_2.length co4:Value).ownBlock∧some k_≠(.slice (some ad464) t461.length co27:Value).ownBlock) (fun _=>False) rfl rfl ?aP (fun _ hk=>hk.elim) ?aF ?aO ?aB ?aS ?aL ?_;(case aP=>exact rfl);(case aB=>exact (bl_ HB));(case aF=>exact (fun k_ hk=>⟨Kd.fresh' (Kd.Ut (Kd.ra_ (HO_3.out))) k_ hk,Kd.fresh' (Kd.Ut (Kd.ra_ (HO_44.out))) k_ hk⟩));(case aO=>exact (Kd.qa_ (Kd.Q_mono HO_4.out (fun _ hk=>⟨hk.2,hk.1⟩))));(case aS=>exact (Xc (bl_ HB)));(case aL=>have:=LMc35.out;omega);intro v468 w38 ho hb hg hat;rw [← Ny467.out] at ho;have n0_:=Xa.mk (Kd.Yz (ok:=(fun k_=>some k_≠(.slice (some ad464) t461.length co27:Value).ownBlock)) (Kd.ra_ (Kd.Xn HO_3.out (fun _ hk=>⟨hk.2,hk.1⟩))) hg hat);have n1_:=Xa.mk (Kd.Yz (ok:=(fun k_=>some k_≠(.slice (some ⟨go4,0,none⟩) x3_2.length co4:Value).ownBlock)) (Kd.ra_ (Kd.Xn HO_44.out (fun _ hk=>⟨hk.2,hk.1⟩))) hg hat);have n2_:=Xa.mk (hb);have n3_:=Xa.mk (ho);clear HO_3;clear HO_44;clear HB;clear HO_4;have HO_3:=n0_;have HO_44:=n1_;have HB:=n2_;have HO469:=n3_;clear n0_ n1_ n2_ n3_;clear ho hb hg hat))
                    (try simp only [← hl3_2])
                    go_roundg k2
                    case measure=>have:=HK1.out;have:=HK2.out;omega
                    case rel=>exact ⟨(y466),(y467),(wrap64 (x46_2+1)),(by first|rfl|(simp;done)|(simp [*];done)),H',⟨by have:=HK1.out;have:=HK2.out;omega⟩,⟨by (try simp only [hl3_1]);(try simp only [hl3_2]);(with_reducible repeat (first|apply Kd.Ud|apply Kd.Ua|apply Kd.Va));exact Kd.Xn HO_3.out (fun _ hk=>⟨hk.2,hk.1⟩)⟩,⟨by (try simp only [hl3_1]);(try simp only [hl3_2]);(with_reducible repeat (first|apply Kd.Q_alloc|apply Kd.Q_drewN|apply Kd.Q_drew));exact HO469.out⟩,⟨by (try simp only [hl3_1]);(try simp only [hl3_2]);(with_reducible repeat (first|apply Kd.Ud|apply Kd.Ua|apply Kd.Va));exact HO_44.out⟩,⟨bl_ HB⟩⟩
                   ·rw [if_neg c35] at H;exact absurd H (by simp)
                  ·rw [if_neg c33] at H;have c33b0:((rd x3_2 (rd t461 x46_2)) == (-2))=false:=beq_eq_false_iff_ne.mpr c33;have c33b1:((rd x3_2 (rd t461 x46_2)) != (-2))=true:=bne_iff_ne.mpr c33;by_cases c39:(rd x3_2 (rd t461 x46_2))=t458
                   ·rw [if_pos c39] at H;have c39b0:((rd x3_2 (rd t461 x46_2)) == t458)=true:=beq_iff_eq.mpr c39;have c39b1:((rd x3_2 (rd t461 x46_2)) != t458)=false:=bne_eq_false_iff_eq.mpr c39;clear c39;have H':=Xa.mk H;clear H;have p464:0≤(x46_2:Int):=of_decide_eq_true (by first|(with_reducible assumption)|assumption);have q464:x46_2<(t461.length:Int):=of_decide_eq_true (by first|(with_reducible assumption)|assumption);obtain ⟨ad464,e464,hx464_0⟩:=Kd.Uv (Kd.R_reads' HO_44.out).2.2 x46_2 p464 q464;cases e464
                    replace p464:=eq_true p464;replace q464:=eq_true q464;have p465:0≤((rd t461 x46_2):Int):=of_decide_eq_true (by first|(with_reducible assumption)|assumption);have q465:(rd t461 x46_2)<(x3_2.length:Int):=of_decide_eq_true (by first|(with_reducible assumption)|assumption);obtain ⟨ad465,e465,hx465_0⟩:=Kd.Uv (Kd.R_reads' HO_3.out).2.2 (rd t461 x46_2) p465 q465;obtain rfl:(⟨go4,0,none⟩:Addr)=ad465:=(by injection e465)
                    (first|simp only [add_plain] at hx465_0|simp only [add_at] at hx465_0|simp only [Addr.add,Nat.zero_add] at hx465_0|skip)
                    replace p465:=eq_true p465;replace q465:=eq_true q465;go_wp2
                    (try simp only [← hl3_2])
                    go_roundg k2
                    case measure=>have:=HK1.out;have:=HK2.out;omega
                    case rel=>exact ⟨(x3_2),(x4_2),(wrap64 (x46_2+1)),(by first|rfl|(simp;done)|(simp [*];done)),H',⟨by have:=HK1.out;have:=HK2.out;omega⟩,⟨by (try simp only [hl3_1]);(try simp only [hl3_2]);(with_reducible repeat (first|apply Kd.Ud|apply Kd.Ua|apply Kd.Va));exact HO_3.out⟩,⟨by (try simp only [hl3_1]);(try simp only [hl3_2]);(with_reducible repeat (first|apply Kd.Q_alloc|apply Kd.Q_drewN|apply Kd.Q_drew));exact HO_4.out⟩,⟨by (try simp only [hl3_1]);(try simp only [hl3_2]);(with_reducible repeat (first|apply Kd.Ud|apply Kd.Ua|apply Kd.Va));exact HO_44.out⟩,⟨bl_ HB⟩⟩
                   ·rw [if_neg c39] at H;have c39b0:((rd x3_2 (rd t461 x46_2)) == t458)=false:=beq_eq_false_iff_ne.mpr c39;have c39b1:((rd x3_2 (rd t461 x46_2)) != t458)=true:=bne_iff_ne.mpr c39;obtain rfl:=Option.some.inj H;have p464:0≤(x46_2:Int):=of_decide_eq_true (by first|(with_reducible assumption)|assumption);have q464:x46_2<(t461.length:Int):=of_decide_eq_true (by first|(with_reducible assumption)|assumption);obtain ⟨ad464,e464,hx464_0⟩:=Kd.Uv (Kd.R_reads' HO_44.out).2.2 x46_2 p464 q464;cases e464
                    replace p464:=eq_true p464;replace q464:=eq_true q464;have p465:0≤((rd t461 x46_2):Int):=of_decide_eq_true (by first|(with_reducible assumption)|assumption);have q465:(rd t461 x46_2)<(x3_2.length:Int):=of_decide_eq_true (by first|(with_reducible assumption)|assumption);obtain ⟨ad465,e465,hx465_0⟩:=Kd.Uv (Kd.R_reads' HO_3.out).2.2 (rd t461 x46_2) p465 q465;obtain rfl:(⟨go4,0,none⟩:Addr)=ad465:=(by injection e465)
                    (first|simp only [add_plain] at hx465_0|simp only [add_at] at hx465_0|simp only [Addr.add,Nat.zero_add] at hx465_0|skip)
                    replace p465:=eq_true p465;replace q465:=eq_true q465;go_wp2
                    go_ret
                    exact ⟨rf_,bl_ HB⟩
                 ·rw [if_neg c32] at H;exact absurd H (by simp)
                ·rw [if_neg c31] at H;exact absurd H (by simp)
               ·rw [if_neg c30] at H;exact absurd H (by simp)
              ·rw [if_neg c29] at H;exact absurd H (by simp)
             ·rw [if_neg c28] at H;have c28b0:decide (x46_2<(t461.length:Int))=false:=decide_eq_false c28;clear c28;have H':=Xa.mk H;clear H;go_wp2
              (try simp only [← hl3_1,← hl3_2])
              go_roundg k2
              case measure=>have:=HK1.out;have:=HK2.out;omega
              case rel=>exact ⟨(x3_2),(x4_2),H',⟨by have:=HK1.out;have:=HK2.out;omega⟩,⟨by (try simp only [hl3_1]);(try simp only [hl3_2]);(with_reducible repeat (first|apply Kd.Ud|apply Kd.Ua|apply Kd.Va));exact Kd.Xn HO_3.out (fun _ hk=>hk.1)⟩,⟨by (try simp only [hl3_1]);(try simp only [hl3_2]);(with_reducible repeat (first|apply Kd.Q_alloc|apply Kd.Q_drewN|apply Kd.Q_drew));exact Kd.Q_mono HO_4.out (fun _ hk=>hk.1)⟩,⟨bl_ HB⟩⟩
          ·replace c20:=Bool.eq_false_iff.mpr c20;subst c20
           have H1:(some false)=some r:=by rw [if_neg (show ¬ (false=true) by decide)] at H;exact H
           clear H;have H:=H1;clear H1;obtain rfl:=Option.some.inj H;obtain ⟨Ao40,co40,eo40,_⟩:=Kd.Q_slice HO_4.out;subst eo40;have p452:0≤(0:Int):=(by omega);have q452:0<(x4_1.length:Int):=of_decide_eq_true (by first|(with_reducible assumption)|assumption);obtain ⟨ad452,e452,hx452_0⟩:=Kd.Uv (Kd.Q_reads' HO_4.out).2.2 0 p452 q452;cases e452
           have qi452:(0<x4_1.length)=True:=eq_true (by omega)
           (try rw [show ((0:Int)).toNat=0 from rfl] at hx452_0)
           (try rw [Addr.add_zero'] at hx452_0)
           replace p452:=eq_true p452;replace q452:=eq_true q452;have q41:(1:Int)≤((x4_1.length:Int):Int):=of_decide_eq_true (by first|(with_reducible assumption)|assumption);obtain ⟨i041,hi041,_,hsz41,_⟩:=info_parts info3;have hcut41:=cut_from (P:=Try.prog) 34 3 .i64 Try.underlying34 hi041 1 hsz41 (some ad452) x4_1.length co40 1 (by omega) q41;have hr41:=Kd.Q_drop (k:=(1:Int).toNat) HO_4.out (by omega);obtain ⟨A41,hA41⟩:∃ A1,A1=(if co40=(1:Int).toNat then (some ad452) else ((some ad452):Option Addr).map (·.add ((1:Int).toNat * 1))):=⟨_,rfl⟩;obtain ⟨c41,hc41⟩:∃ c1,c1=co40 - (1:Int).toNat:=⟨_,rfl⟩;have hy41:y453.length=x4_1.length - (1:Int).toNat:=(by rw [Ny453.out,List.length_drop]);rw [← Ny453.out] at hr41;rw [← hy41,← hA41,← hc41] at hcut41;replace hr41:Kd.Q (Kd.int .i64) 3 wr w.heap.size (fun k_=>some k_≠(.slice (some ⟨go4,0,none⟩) x3_1.length co4:Value).ownBlock) (.slice A41 y453.length c41) y453:=(by rw [hA41,hc41,hy41];exact hr41);have HE41:Xa ((Value.slice A41 y453.length c41).ownBlock=(.slice (some ad452) x4_1.length co40:Value).ownBlock):=⟨by rw [hA41];split <;> (cases ((some ad452):Option Addr) <;> rfl)⟩;clear hy41 hi041 hsz41 HO_4 hA41 hc41;have HO455:=Xa.mk hr41;clear hr41;replace q41:=eq_true q41;have n_:=Xa.mk (Kd.Xn (ok':=fun k_=>some k_≠(.slice A41 y453.length c41:Value).ownBlock) HO_3.out (fun k_ hk=>(by rw [HE41.out];exact hk)));clear HO_3;have HO_3:=n_;clear n_
           try go_wp2
           have n0_:=Xa.mk (Kd.Va HO_3.out);have n1_:=Xa.mk (Kd.Q_drew HO455.out);have n2_:=Xa.mk (below_drew1 HB.out);clear HO_3;clear HO455;clear HB;have HO_3:=n0_;have HO455:=n1_;have HB:=n2_;clear n0_ n1_ n2_;have p456:0≤((rd x4_1 0):Int):=of_decide_eq_true (by first|(with_reducible assumption)|assumption);have q456:(rd x4_1 0)<(l0.length:Int):=of_decide_eq_true (by first|(with_reducible assumption)|assumption);obtain ⟨ad456,e456,hx456_0,hx456_1,hx456_2,hx456_3⟩:=Zt HR0.out (rd x4_1 0) p456 q456;have hw456_3:=hx456_3;have hw456_2:=hx456_2;have hw456_1:=hx456_1;have hw456_0:=hx456_0;cases e456
           replace hx456_0:=(HB.out.cell (World.block_lt_of_cell? w _ hx456_0)).trans hx456_0;replace hx456_1:=(HB.out.cell (World.block_lt_of_cell? w _ hx456_1)).trans hx456_1;replace hx456_2:=(HB.out.cell (World.block_lt_of_cell? w _ hx456_2)).trans hx456_2;replace hx456_3:=(HB.out.cell (World.block_lt_of_cell? w _ hx456_3)).trans hx456_3;replace p456:=eq_true p456;replace q456:=eq_true q456;have p457:0≤((rd x4_1 0):Int):=of_decide_eq_true (by first|(with_reducible assumption)|assumption);have q457:(rd x4_1 0)<(x3_1.length:Int):=of_decide_eq_true (by first|(with_reducible assumption)|assumption);obtain ⟨ad457,e457,hx457_0⟩:=Kd.Uv (Kd.R_reads' HO_3.out).2.2 (rd x4_1 0) p457 q457;obtain rfl:(⟨go4,0,none⟩:Addr)=ad457:=(by injection e457)
           (first|simp only [add_plain] at hx457_0|simp only [add_at] at hx457_0|simp only [Addr.add,Nat.zero_add] at hx457_0|skip)
           replace p457:=eq_true p457;replace q457:=eq_true q457;refine start_ (n:=14) (S:=fun w'=>w'.cell? (ad456.add (((rd x4_1 0)).toNat * 4))=some (.int .i64 ((Xb l0 (rd x4_1 0)).f0))∧w'.cell? ⟨(ad456.add (((rd x4_1 0)).toNat * 4)).block,(ad456.add (((rd x4_1 0)).toNat * 4)).off+1,none⟩=some (.int .i64 ((Xb l0 (rd x4_1 0)).f1))∧w'.cell? ⟨(ad456.add (((rd x4_1 0)).toNat * 4)).block,(ad456.add (((rd x4_1 0)).toNat * 4)).off+2,none⟩=some (.int .i64 ((Xb l0 (rd x4_1 0)).f2))∧w'.cell? ⟨(ad456.add (((rd x4_1 0)).toNat * 4)).block,(ad456.add (((rd x4_1 0)).toNat * 4)).off+3,none⟩=some (.int .i64 ((Xb l0 (rd x4_1 0)).f3))∧w'.cell? ⟨go4,((rd x4_1 0)).toNat,none⟩=some (.int .i64 (rd x3_1 (rd x4_1 0)))) (ds:=[]) #[false,false,false,false,false,false,false,false,false,false,false,false,false,false] (by kernel_rfl) rfl rfl ⟨((HB.out.cell (World.block_lt_of_cell? w _ hw456_0)).trans hw456_0),((HB.out.cell (World.block_lt_of_cell? w _ hw456_1)).trans hw456_1),((HB.out.cell (World.block_lt_of_cell? w _ hw456_2)).trans hw456_2),((HB.out.cell (World.block_lt_of_cell? w _ hw456_3)).trans hw456_3),hx457_0⟩ (fun hHeld=>?_);refine with_tabW Ya.tab7 Ya.bits7 (fun HT_ HW_=>?_)
           generalize wr.drew=w42 at HO_3 HO455 HB hx456_0 hx456_1 hx456_2 hx456_3 hx457_0 hHeld ⊢
           refine Zf (i:=0) (N:=some 26) (v:=?_) (a':=?_) #[true,false,false,false,false,false,false,false,false,false,false,false,false,false] rfl rfl (Za HT_.out (by kernel_rfl)) (fun _ _ _ h=>h) (Or.inl ⟨by rfl,?_⟩) ?_ ?_
           rotate_left
           ·intro w';go_simp
            with_reducible rfl
           rotate_left
           ·simp only [Act.put,List.setIfInBounds_toArray,List.set_cons_zero,List.set_cons_succ,Xy,Xz];rfl
           refine Zf (i:=1) (N:=some 27) (v:=?_) (a':=?_) #[true,true,false,false,false,false,false,false,false,false,false,false,false,false] rfl rfl (Za HT_.out (by kernel_rfl)) (fun _ _ _ h=>h) (Or.inl ⟨by rfl,?_⟩) ?_ ?_
           rotate_left
           ·intro w';go_simp
            with_reducible rfl
           rotate_left
           ·simp only [Act.put,List.setIfInBounds_toArray,List.set_cons_zero,List.set_cons_succ,Xy,Xz];rfl
           refine Zf (i:=2) (N:=some 28) (v:=?_) (a':=?_) #[true,true,true,false,false,false,false,false,false,false,false,false,false,false] rfl rfl (Za HT_.out (by kernel_rfl)) (fun _ _ _ h=>h) (Or.inl ⟨by rfl,?_⟩) ?_ ?_
           rotate_left
           ·intro w';go_simp
            with_reducible rfl
           rotate_left
           ·simp only [Act.put,List.setIfInBounds_toArray,List.set_cons_zero,List.set_cons_succ,Xy,Xz];rfl
           refine Zf (i:=4) (N:=some 30) (v:=?_) (a':=?_) #[true,true,true,false,true,false,false,false,false,false,false,false,false,false] rfl rfl (Za HT_.out (by kernel_rfl)) (fun _ _ _ h=>h) (Or.inl ⟨by rfl,?_⟩) ?_ ?_
           rotate_left
           ·intro w';go_simp
            with_reducible rfl
           rotate_left
           ·simp only [Act.put,List.setIfInBounds_toArray,List.set_cons_zero,List.set_cons_succ,Xy,Xz];rfl
           refine Zf (i:=5) (N:=some 31) (v:=?_) (a':=?_) #[true,true,true,false,true,true,false,false,false,false,false,false,false,false] rfl rfl (Za HT_.out (by kernel_rfl)) (fun _ _ _ h=>h) (Or.inl ⟨by rfl,?_⟩) ?_ ?_
           rotate_left
           ·intro w';go_simp
            with_reducible rfl
           rotate_left
           ·simp only [Act.put,List.setIfInBounds_toArray,List.set_cons_zero,List.set_cons_succ,Xy,Xz];rfl
           refine Zf (i:=6) (N:=some 32) (v:=?_) (a':=?_) #[true,true,true,false,true,true,true,false,false,false,false,false,false,false] rfl rfl (Za HT_.out (by kernel_rfl)) (fun _ _ _ h=>h) (Or.inl ⟨by rfl,?_⟩) ?_ ?_
           rotate_left
           ·intro w';go_simp
            with_reducible rfl
           rotate_left
           ·simp only [Act.put,List.setIfInBounds_toArray,List.set_cons_zero,List.set_cons_succ,Xy,Xz];rfl
           refine take_ (i:=3) (N:=some 29) (v:=?_) (a':=?_) #[true,true,true,true,true,true,true,false,false,false,false,false,false,false] rfl rfl (take_ofW HT_.out HW_.out (by kernel_rfl)) (fun _ _ _ h=>h) (Or.inl ⟨by rfl,?_⟩) hHeld ?_ ?_
           rotate_left
           ·rintro w' ⟨s0,s1,s2,s3,s4⟩
            go_simp
            with_reducible rfl
           rotate_left
           ·simp only [Act.put,List.setIfInBounds_toArray,List.set_cons_zero,List.set_cons_succ,Xy,Xz];rfl
           refine take_ (i:=7) (N:=some 33) (v:=?_) (a':=?_) #[true,true,true,true,true,true,true,true,false,false,false,false,false,false] rfl rfl (take_ofW HT_.out HW_.out (by kernel_rfl)) (fun _ _ _ h=>h) (Or.inl ⟨by rfl,?_⟩) hHeld ?_ ?_
           rotate_left
           ·rintro w' ⟨s0,s1,s2,s3,s4⟩
            go_simp
            with_reducible rfl
           rotate_left
           ·simp only [Act.put,List.setIfInBounds_toArray,List.set_cons_zero,List.set_cons_succ,Xy,Xz];rfl
           refine one_ (i:=8) (N:=some 34) #[true,true,true,true,true,true,true,true,true,false,false,false,false,false] rfl rfl (one_of HT_.out (by kernel_rfl)) (by decide) (fun K hK=>?_)
           refine goes_ Try.func47 (by kernel_rfl) rfl #[.agg #[.int .i64 ((Xb l0 (rd x4_1 0)).f0),.int .i64 ((Xb l0 (rd x4_1 0)).f1),.int .i64 ((Xb l0 (rd x4_1 0)).f2),.int .i64 ((Xb l0 (rd x4_1 0)).f3)],.int .i64 (rd x3_1 (rd x4_1 0))] (by rfl) rfl rfl ga_ ?_
           with_reducible refine (impl_Ins_moves.calls ((Xb l0 (rd x4_1 0)).f0) ((Xb l0 (rd x4_1 0)).f1) ((Xb l0 (rd x4_1 0)).f2) ((Xb l0 (rd x4_1 0)).f3) (rd x3_1 (rd x4_1 0)) t458 false _ A19.out).mono ?_
           rintro e w43 ⟨rfl,hb⟩
           have HS4_:=(hb.cell (World.block_lt_of_cell? _ _ (hHeld.2.2.2.2))).trans (hHeld.2.2.2.2);refine ⟨_,rfl,?_⟩
           have n0_:=Xa.mk (Kd.Zl (Kd.ra_ (HO_3.out)) hb);have n1_:=Xa.mk (Kd.Q_below (Kd.qa_ (HO455.out)) hb);have n2_:=Xa.mk (Xd (bl_ HB) hb);clear HO_3;clear HO455;clear HB;have HO_3:=n0_;have HO455:=n1_;have HB:=n2_;clear n0_ n1_ n2_
           (try clear hb)
           (try clear hb2)
           (try clear hk)
           (try clear hi)
           refine hK.out _ _ ⟨((HB.out.cell (World.block_lt_of_cell? w _ hw456_0)).trans hw456_0),((HB.out.cell (World.block_lt_of_cell? w _ hw456_1)).trans hw456_1),((HB.out.cell (World.block_lt_of_cell? w _ hw456_2)).trans hw456_2),((HB.out.cell (World.block_lt_of_cell? w _ hw456_3)).trans hw456_3),HS4_⟩ (fun hHeld=>?_)
           clear hK K;refine Vr (a':=?_) ?_ ?_
           rotate_left
           ·show Act.put _ (some 34) _=_
            simp only [Act.put,List.setIfInBounds_toArray,List.set_cons_zero,List.set_cons_succ,Xy,Xz];rfl
           refine Zf (i:=9) (N:=some 25) (v:=?_) (a':=?_) #[true,true,true,true,true,true,true,true,true,true,false,false,false,false] rfl rfl (Za HT_.out (by kernel_rfl)) (fun _ _ _ h=>h) (Or.inl ⟨by rfl,?_⟩) ?_ ?_
           rotate_left
           ·intro w';go_simp
            with_reducible rfl
           rotate_left
           ·simp only [Act.put,List.setIfInBounds_toArray,List.set_cons_zero,List.set_cons_succ,Xy,Xz];rfl
           refine Zf (i:=10) (N:=some 35) (v:=?_) (a':=?_) #[true,true,true,true,true,true,true,true,true,true,true,false,false,false] rfl rfl (Za HT_.out (by kernel_rfl)) (fun _ _ _ h=>h) (Or.inl ⟨by rfl,?_⟩) ?_ ?_
           rotate_left
           ·intro w';go_simp
            with_reducible rfl
           rotate_left
           ·simp only [Act.put,List.setIfInBounds_toArray,List.set_cons_zero,List.set_cons_succ,Xy,Xz];rfl
           refine Zf (i:=11) (N:=some 36) (v:=?_) (a':=?_) #[true,true,true,true,true,true,true,true,true,true,true,true,false,false] rfl rfl (Za HT_.out (by kernel_rfl)) (fun _ _ _ h=>h) (Or.inl ⟨by rfl,?_⟩) ?_ ?_
           rotate_left
           ·intro w';go_simp
            with_reducible rfl
           rotate_left
           ·simp only [Act.put,List.setIfInBounds_toArray,List.set_cons_zero,List.set_cons_succ,Xy,Xz];rfl
           refine Zf (i:=12) (N:=some 6) (v:=?_) (a':=?_) #[true,true,true,true,true,true,true,true,true,true,true,true,true,false] rfl rfl (Za HT_.out (by kernel_rfl)) (fun _ _ _ h=>h) (Or.inl ⟨by rfl,?_⟩) ?_ ?_
           rotate_left
           ·intro w';go_simp
            with_reducible rfl
           rotate_left
           ·simp only [Act.put,List.setIfInBounds_toArray,List.set_cons_zero,List.set_cons_succ,Xy,Xz];rfl
           refine Zf (i:=13) (N:=some 7) (v:=?_) (a':=?_) #[true,true,true,true,true,true,true,true,true,true,true,true,true,true] rfl rfl (Za HT_.out (by kernel_rfl)) (fun _ _ _ h=>h) (Or.inl ⟨by rfl,?_⟩) ?_ ?_
           rotate_left
           ·intro w';go_simp
            with_reducible rfl
           rotate_left
           ·simp only [Act.put,List.setIfInBounds_toArray,List.set_cons_zero,List.set_cons_succ,Xy,Xz];rfl
           refine done_ (done_of HT_.out (by kernel_rfl)) ?_
           try go_wp2
           go_ret
           exact ⟨rf_,bl_ HB⟩
         ·rw [if_neg c18] at H;exact absurd H (by simp)
        ·rw [if_neg c17] at H;exact absurd H (by simp)
       ·rw [if_neg c16] at H;exact absurd H (by simp)
      ·rw [if_neg c15] at H;exact absurd H (by simp)
     ·rw [if_neg c14] at H;exact absurd H (by simp)
    ·rw [if_neg c13] at H;have c13b0:decide (0<(x4_1.length:Int))=false:=decide_eq_false c13;have c13b1:decide (0<x4_1.length)=false:=decide_eq_false (by omega);clear c13;obtain rfl:=Option.some.inj H;obtain ⟨Ao44,co44,eo44,_⟩:=Kd.Q_slice HO_4.out;subst eo44;go_wp2
     go_ret
     exact ⟨rf_,bl_ HB⟩
 ·rw [if_neg c3] at H;exact absurd H (by simp)
end Go.Proofs.Ytdkcjecllbdljaa.GSlim
