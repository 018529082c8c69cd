import Derived.Test.YtdkcjecllbdljaaDoorCFnCodeLines22
import Derived.Test.YtdkcjecllbdljaaDoorCFnCodeLines35
import Derived.Test.YtdkcjecllbdljaaDoorCFnCodeLines36
namespace Go.Proofs.YtdkcjecllbdljaaDoor.GCode
open Go.RowKit Go.Proofs.YtdkcjecllbdljaaDoorW.PrintWords Go.Proofs.YtdkcjecllbdljaaDoorW.PrintLast Go.Proofs.YtdkcjecllbdljaaDoorW.PrintMore
attribute [local go_sem] Zy Ua Uo Uq Zp Zq Zz Ub
set_option linter.unusedVariables false
set_option linter.unusedSimpArgs false
mutual
def Xw.l0:Nat→List (S36)→List Int→List Int→Option (Bool)
 |0,_,_,_=>none
 |k+1,x0,x3,x4=>if (x4.length:Int) > 0 then (if 0<(x4.length:Int) then (if 1≤(x4.length:Int) then (if 0≤(rd x4 0) then (if (rd x4 0)<(x0.length:Int) then (if (rd x4 0)<(x3.length:Int) then ((impl_Ins_moves.f ((Xb x0 (rd x4 0)).f0) ((Xb x0 (rd x4 0)).f1) ((Xb x0 (rd x4 0)).f2) ((Xb x0 (rd x4 0)).f3) (rd x3 (rd x4 0))).bind fun bt245=>(if bt245.2=true then ((Zu.f ((Xb x0 (rd x4 0)).f0) ((Xb x0 (rd x4 0)).f1) ((Xb x0 (rd x4 0)).f2) ((Xb x0 (rd x4 0)).f3) (rd x4 0)).bind fun t248=>(Xw.l1 k x0 x3 (x4.drop (1:Int).toNat) bt245.1 t248 (t248.length:Int) 0)) else (some false))) else (none)) else (none)) else (none)) else (none)) else (none)) else (some true)
def Xw.l1:Nat→List (S36)→List Int→List Int→Int→List Int→Int→Int→Option (Bool)
 |0,_,_,_,_,_,_,_=>none
 |k+1,x0,x3,x4,x6,x44,x45,x46=>if x46<x45 then (if 0≤x46 then (if x46<(x44.length:Int) then (if 0≤(rd x44 x46) then (if (rd x44 x46)<(x3.length:Int) then (if (rd x3 (rd x44 x46))=(-2) then (if x4.length<17592186044416 then (Xw.l1 k x0 (x3.set ((rd x44 x46):Int).toNat x6) (x4 ++ [rd x44 x46]) x6 x44 x45 (wrap64 (x46+1))) else (none)) else (if (rd x3 (rd x44 x46))=x6 then (Xw.l1 k x0 x3 x4 x6 x44 x45 (wrap64 (x46+1))) else (some false))) else (none)) else (none)) else (none)) else (none)) else (Xw.l0 k x0 x3 x4)
end
def Xw.f (k:Nat) (l0:List (S36)):Option (Bool):=(Xi.f (([(-2)]:List Int)) (l0.length:Int)).bind fun t232=>(if 0<(t232.length:Int) then (Xw.l0 k l0 (t232.set (0:Int).toNat (-1)) (([0]:List Int))) else (none))
def Xw.T7:Bool × List (List Nat × List Nat):=(true,[([],[]),([],[]),([0,1],[0,1]),([2],[2]),([],[]),([],[]),([4,5],[4,5]),([6],[6]),([3,7],[3,7]),([8],[8]),([9],[9]),([9],[9]),([10,8,0,1,2,3,4,5,6,7,8,9,10],[10]),([11,12,0,1,2,3,4,5,6,7,8,9,10,11,12],[11])])
def Xw.B7:List Nat:=[0,0,3,7,0,0,48,112,255,511,1023,1023,2047,8191]
theorem Xw.tab7:rtab .any (opsOf Tryd.f23 7)=Xw.T7:=by kernel_rfl
theorem Xw.bits7:waitsOk Xw.T7.2 Xw.B7=true:=by kernel_rfl
set_option maxHeartbeats 8000000 in
set_option maxRecDepth 100000 in
theorem Xw.calls (k:Nat) (A0:Option Addr) (c0:Nat) (l0:List (S36)) (r:Bool) (w:World) (hr0:Kd.C k36 w A0 l0.length l0) (hc0:l0.length≤c0) (h:Xw.f k l0=some r) :
  Calls Tryd.prog 23 #[.slice A0 l0.length c0] w fun e w'=>e=.returned (.bool r)∧Below w.heap.size w w':=by
 have hu36:=Tryd.underlying36;have HR0:=Xa.mk hr0;have HC0:=Xa.mk hc0;clear hr0 hc0;have HB:=Xa.mk (Below.refl w.heap.size w);have H:((Xi.f (([(-2)]:List Int)) (l0.length:Int)).bind fun t232=>(if 0<(t232.length:Int) then (Xw.l0 k l0 (t232.set (0:Int).toNat (-1)) (([0]:List Int))) else (none)))=some r:=h;clear h;obtain ⟨y229,hy229⟩:∃ y_:List Int,y_=(([(-2)]:List Int)):=⟨_,rfl⟩
 replace H:((Xi.f y229 (l0.length:Int)).bind fun t232=>(if 0<(t232.length:Int) then (Xw.l0 k l0 (t232.set (0:Int).toNat (-1)) (([0]:List Int))) else (none)))=some r:=by subst hy229;first|with_reducible exact H|(have z:=(Option.bind_some _ _).symm.trans H;with_reducible exact z)|exact H
 have Ny229:=Xa.mk hy229;clear hy229;replace H:=Option.bind_eq_some_iff.mp H;obtain ⟨t232,A20,H⟩:=H;replace H:(if 0<(t232.length:Int) then (Xw.l0 k l0 (t232.set (0:Int).toNat (-1)) (([0]:List Int))) else (none))=some r:=H;have A2:=Xa.mk A20;clear A20;by_cases c3:0<(t232.length:Int)
 ·rw [if_pos c3] at H;have c3b0:decide (0<(t232.length:Int))=true:=decide_eq_true c3;have c3b1:decide (0<t232.length)=true:=decide_eq_true (by omega);clear c3;obtain ⟨y235,hy235⟩:∃ y_:List Int,y_=(t232.set (0:Int).toNat (-1)):=⟨_,rfl⟩
  replace H:(Xw.l0 k l0 y235 (([0]:List Int)))=some r:=by subst hy235;first|with_reducible exact H|(have z:=(Option.bind_some _ _).symm.trans H;with_reducible exact z)|exact H
  have Ny235:=Xa.mk hy235;clear hy235;obtain ⟨y236,hy236⟩:∃ y_:List Int,y_=(([0]:List Int)):=⟨_,rfl⟩
  replace H:(Xw.l0 k l0 y235 y236)=some r:=by subst hy236;first|with_reducible exact H|(have z:=(Option.bind_some _ _).symm.trans H;with_reducible exact z)|exact H
  have Ny236:=Xa.mk hy236;clear hy236;have H':=Xa.mk H;clear H
  go_enter Tryd.func23,Tryd.ntmps23
  go_wp2_with (first|((with_reducible refine Xq (N:=10) rfl ?_);refine Kd.Ug (Kd.int .i64) _ 3 ?hg (N:=10) ?hd (xs:=([(-2)]:List Int)) (inner:=[.int .i64 (-2)]) (ok:=fun _=>True) (okp:=fun _=>True) ?hr ?hp (fun _ hk=>hk) trivial (Below.refl _ _) (Nat.le_refl _) (by simp) ?_;(case hd=>rfl);(case hg=>rfl);(case hr=>first|(go_simp;done)|(go_simp;rfl));(case hp=>exact (Xl.one (show Kd.M (Kd.int .i64) _ _ _ (-2) [.int .i64 (-2)] from rfl) (Xl.none _ _)));intro v230 w5 ho6 hb hg_ hnew_;clear hg_ hnew_;(first|rw [← Ny229.out] at ho6|(simp only [Int.reduceToNat] at ho6;rw [← Ny229.out] at ho6));have n0_:=Xa.mk (Kd.Ye ho6 (Xd (bl_ HB)));have n1_:=Xa.mk (Xc (bl_ HB) hb);clear HB;have HO231:=n0_;have HB:=n1_;clear n0_ n1_;clear hb ho6;obtain ⟨Ao7,co7,eo7⟩:=Kd.Zd HO231.out;subst eo7)|((with_reducible refine Xj (f:=37) rfl ?_);refine Yu (some 13) rfl rfl Tryd.func37 (by kernel_rfl) rfl #[.slice Ao7 y229.length co7,.int .i64 (l0.length:Int)] rfl ga_ ?_;(with_reducible refine (Xi.calls _ _ y229 (l0.length:Int) t232 _ ?side1 ?side2 A2.out).mono ?_);(case side1=>repeat (first|exact (Kd.R_reads' HO231.out).2.2|(with_reducible refine Kd.Yc ?_ _)|(with_reducible refine Kd.Yd ?_ _)|(with_reducible refine Kd.Yo ?_)));(case side2=>exact (Kd.R_reads' HO231.out).2.1);rintro e w8 ⟨v233,rfl,ho0,hb⟩;refine ⟨_,rfl,?_⟩;have n0_:=Xa.mk (Kd.R_elder' (Kd.ra_ (HO231.out)) (Kd.Zh ho0) hb);have n1_:=Xa.mk (Kd.Ye (Kd.R_new' ho0 (Kd.Uh (Kd.ra_ (HO231.out)))) (Xd (bl_ HB)));have n2_:=Xa.mk (Xc (bl_ HB) hb);clear HO231;clear HB;have HO231:=n0_;have HO234:=n1_;have HB:=n2_;clear n0_ n1_ n2_;(try clear hb);(try clear hb2);(try clear hk);(try clear hi);(try clear ho0);have p4:0≤(0:Int):=(by omega);have q4:(0:Int)<((t232.length:Int):Int):=of_decide_eq_true (by first|(with_reducible assumption)|assumption);have qi4:(0<t232.length)=True:=eq_true (by omega);obtain ⟨go4,co4,eo4,gb4,gl4,cl4,HG4⟩:=Kd.R_form HO234.out (by omega);(first|cases eo4|(injection eo4 with ea_ en_ ec_;(first|subst ea_|(injection ea_ with ea_;subst ea_));subst ec_;clear en_));have GB4:=Xa.mk gb4;have GG4:=Xa.mk HG4;clear gb4 gl4 HG4;obtain ⟨hx4_0,hf4_0⟩:=Kd.R_celln 0 HO234.out (0:Int) p4 q4;(try rw [show ((0:Int)).toNat=0 from rfl] at hx4_0);(try simp only [Nat.reduceMul,Nat.zero_mul,Nat.zero_add,Nat.reduceAdd] at hx4_0);(try rw [show ((0:Int)).toNat=0 from rfl] at hf4_0);(try simp only [Nat.reduceMul,Nat.zero_mul,Nat.zero_add,Nat.reduceAdd] at hf4_0);replace p4:=eq_true p4;replace q4:=eq_true q4;have n_:=Xa.mk (Kd.Xv (ok':=(fun k_=>some k_≠(.slice Ao7 y229.length co7:Value).ownBlock)) HO234.out (fun k_ hk=>hk.2));clear HO234;have HO234:=n_;clear n_;obtain ⟨hy9_,hz9_⟩:=Kd.R_celln 0 HO234.out (0:Int) (by omega) (of_decide_eq_true (by first|(with_reducible assumption)|assumption));(try simp only [Int.reduceToNat,Int.toNat_zero,Int.toNat_ofNat,Nat.reduceMul,Nat.zero_mul,Nat.zero_add] at hy9_ hz9_);(try rw [show ((0:Int)).toNat=0 from rfl] at hy9_);(try rw [show ((0:Int)).toNat=0 from rfl] at hz9_);have HP9:=Kd.R_putg HO234.out (0:Int) (-1))|((with_reducible refine gate_store (t:=3) (p:=15) rfl ?_);refine store_event (t:=3) (p:=15) (v:=?vo_w10) (w1:=(w8.setCell ⟨go4,(0:Int).toNat,none⟩ (.int .i64 (-1)))) ?hg ?ho ?hn ?hr ?_;(case ho=>rfl);(case hg=>rfl);(case hn=>rfl);(case hr=>first|(go_simp;done)|(go_simp;rfl));intro w10 hw;have hg:w8.grownBy w10 (some go4):=(by rw [hw];exact HP9.2);have hp_:Kd.R (Kd.int .i64) 3 w10 w.heap.size (fun k_=>some k_≠(.slice Ao7 y229.length co7:Value).ownBlock) (.slice (some ⟨go4,0,none⟩) t232.length co4) y235:=(by rw [hw,Ny235.out];exact HP9.1);clear HP9;have n0_:=Xa.mk (Kd.Yx (v:=(.slice (some ⟨go4,0,none⟩) t232.length co4)) (v1:=(.slice (some ⟨go4,0,none⟩) t232.length co4)) (ok:=(fun _=>True)) (Kd.ra_ (HO231.out)) hg (.inl rfl));have n1_:=Xa.mk (hp_);have n2_:=Xa.mk ((by rw [hw];exact below_set (HB.out) GB4.out:Below w.heap.size w w10));clear HO231;clear HO234;clear HB;have HO231:=n0_;have HO234:=n1_;have HB:=n2_;clear n0_ n1_ n2_;clear hg hw hp_)|((with_reducible refine Xq (N:=16) rfl ?_);refine Kd.Ug (Kd.int .i64) _ 3 ?hg (N:=16) ?hd (xs:=([0]:List Int)) (inner:=[.int .i64 0]) (ok:=fun _=>True) (okp:=fun _=>True) ?hr ?hp (fun _ hk=>hk) trivial (Below.refl _ _) (Nat.le_refl _) (by simp) ?_;(case hd=>rfl);(case hg=>rfl);(case hr=>first|(go_simp;done)|(go_simp;rfl));(case hp=>exact (Xl.one (show Kd.M (Kd.int .i64) _ _ _ 0 [.int .i64 0] from rfl) (Xl.none _ _)));intro v237 w11 ho12 hb hg_ hnew_;clear hg_ hnew_;(first|rw [← Ny236.out] at ho12|(simp only [Int.reduceToNat] at ho12;rw [← Ny236.out] at ho12));have n0_:=Xa.mk (Kd.R_elder' (Kd.ra_ (HO231.out)) (Kd.Zh ho12) hb);have n1_:=Xa.mk (Kd.R_elder' (Kd.ra_ (HO234.out)) (Kd.Zh ho12) hb);have n2_:=Xa.mk (Kd.Ye (Kd.R_new' (Kd.R_new' ho12 (Kd.Uh (Kd.ra_ (HO231.out)))) (Kd.Uh (Kd.ra_ (HO234.out)))) (Xd (bl_ HB)));have n3_:=Xa.mk (Xc (bl_ HB) hb);clear HO231;clear HO234;clear HB;have HO231:=n0_;have HO234:=n1_;have HO238:=n2_;have HB:=n3_;clear n0_ n1_ n2_ n3_;clear hb ho12))
  go_loopg [4] k (fun kq v4 w'=>∃ (x3_1:List Int) (x4_1:List Int),Xa (Xw.l0 kq l0 x3_1 x4_1=some r)∧Xa (kq≤k)∧Xa (Kd.R (Kd.int .i64) 3 w' w.heap.size (fun k_=>some k_≠(v4:Value).ownBlock) (.slice (some ⟨go4,0,none⟩) t232.length co4) x3_1)∧Xa (Kd.Q (Kd.int .i64) 3 w' w.heap.size (fun k_=>some k_≠((.slice (some ⟨go4,0,none⟩) t232.length co4):Value).ownBlock) v4 x4_1)∧Xa (Below w.heap.size w w'))
  case atStart=>exact ⟨(y235),(y236),H',⟨Nat.le_refl _⟩,⟨Kd.ra_ (Kd.Xv HO234.out (fun _ hk=>hk.2))⟩,⟨Kd.Q_of_R (Kd.ra_ (Kd.Xv HO238.out (fun _ hk=>hk.2)))⟩,⟨bl_ HB⟩⟩
  case round=>
   clear H'
   try clear c2
   try clear p2
   try clear c3
   try clear c3b0
   try clear c3b1
   try clear p4
   try clear q4
   try clear hx4
   try clear qi4
   try clear hf4
   try clear hx4_0
   try clear p4
   try clear q4
   obtain ⟨x3_1,x4_1,HA,HK1,HO_3,HO_4,HB⟩:=hrel;have hl3_1:=(Kd.R_reads' HO_3.out).1;rw [hl3_1] at HO_3
   (try simp only [hl3_1])
   (try simp only [hl3_1] at HO_4)
   cases gk with
   |zero=>exact absurd HA.out (by simp [Xw.l0])
   |succ k1=>
    have H:=HA.out;clear HA;simp only [Xw.l0] at H;by_cases c13:(x4_1.length:Int) > 0
    ·rw [if_pos c13] at H;have c13b0:decide (0<(x4_1.length:Int))=true:=decide_eq_true c13;have c13b1:decide (0<x4_1.length)=true:=decide_eq_true (by omega);clear c13;by_cases c14:0<(x4_1.length:Int)
     ·rw [if_pos c14] at H;have c14b0:decide (0<(x4_1.length:Int))=true:=decide_eq_true c14;have c14b1:decide (0<x4_1.length)=true:=decide_eq_true (by omega);clear c14;by_cases c15:1≤(x4_1.length:Int)
      ·rw [if_pos c15] at H;have c15b0:=eq_true c15;have c15b1:decide (1≤(x4_1.length:Int))=true:=decide_eq_true c15;clear c15;obtain ⟨y240,hy240⟩:∃ y_:List Int,y_=(x4_1.drop (1:Int).toNat):=⟨_,rfl⟩
       replace H:(if 0≤(rd x4_1 0) then (if (rd x4_1 0)<(l0.length:Int) then (if (rd x4_1 0)<(x3_1.length:Int) then ((impl_Ins_moves.f ((Xb l0 (rd x4_1 0)).f0) ((Xb l0 (rd x4_1 0)).f1) ((Xb l0 (rd x4_1 0)).f2) ((Xb l0 (rd x4_1 0)).f3) (rd x3_1 (rd x4_1 0))).bind fun bt245=>(if bt245.2=true then ((Zu.f ((Xb l0 (rd x4_1 0)).f0) ((Xb l0 (rd x4_1 0)).f1) ((Xb l0 (rd x4_1 0)).f2) ((Xb l0 (rd x4_1 0)).f3) (rd x4_1 0)).bind fun t248=>(Xw.l1 k1 l0 x3_1 y240 bt245.1 t248 (t248.length:Int) 0)) else (some false))) else (none)) else (none)) else (none))=some r:=by subst hy240;first|with_reducible exact H|(have z:=(Option.bind_some _ _).symm.trans H;with_reducible exact z)|exact H
       have Ny240:=Xa.mk hy240;clear hy240;by_cases c16:0≤(rd x4_1 0)
       ·rw [if_pos c16] at H;have c16b0:decide (0≤(rd x4_1 0))=true:=decide_eq_true c16;clear c16;by_cases c17:(rd x4_1 0)<(l0.length:Int)
        ·rw [if_pos c17] at H;have c17b0:decide ((rd x4_1 0)<(l0.length:Int))=true:=decide_eq_true c17;clear c17;by_cases c18:(rd x4_1 0)<(x3_1.length:Int)
         ·rw [if_pos c18] at H;have c18b0:decide ((rd x4_1 0)<(x3_1.length:Int))=true:=decide_eq_true c18;clear c18;replace H:=Option.bind_eq_some_iff.mp H;obtain ⟨⟨t245,t246⟩,A190,H⟩:=H;replace H:(if t246=true then ((Zu.f ((Xb l0 (rd x4_1 0)).f0) ((Xb l0 (rd x4_1 0)).f1) ((Xb l0 (rd x4_1 0)).f2) ((Xb l0 (rd x4_1 0)).f3) (rd x4_1 0)).bind fun t248=>(Xw.l1 k1 l0 x3_1 y240 t245 t248 (t248.length:Int) 0)) else (some false))=some r:=H;have A19:=Xa.mk A190;clear A190;by_cases c20:t246=true
          ·subst c20
           have H1:((Zu.f ((Xb l0 (rd x4_1 0)).f0) ((Xb l0 (rd x4_1 0)).f1) ((Xb l0 (rd x4_1 0)).f2) ((Xb l0 (rd x4_1 0)).f3) (rd x4_1 0)).bind fun t248=>(Xw.l1 k1 l0 x3_1 y240 t245 t248 (t248.length:Int) 0))=some r:=by rw [if_pos rfl] at H;exact H
           clear H;have H:=H1;clear H1;replace H:=Option.bind_eq_some_iff.mp H;obtain ⟨t248,A210,H⟩:=H;replace H:(Xw.l1 k1 l0 x3_1 y240 t245 t248 (t248.length:Int) 0)=some r:=H;have A21:=Xa.mk A210;clear A210;have H':=Xa.mk H;clear H;obtain ⟨Ao22,co22,eo22,_⟩:=Kd.Q_slice HO_4.out;subst eo22;have p239:0≤(0:Int):=(by omega);have q239:0<(x4_1.length:Int):=of_decide_eq_true (by first|(with_reducible assumption)|assumption);obtain ⟨ad239,e239,hx239_0⟩:=Kd.Zr (Kd.Q_reads' HO_4.out).2.2 0 p239 q239;cases e239
           have qi239:(0<x4_1.length)=True:=eq_true (by omega)
           (try rw [show ((0:Int)).toNat=0 from rfl] at hx239_0)
           (try rw [Addr.add_zero'] at hx239_0)
           replace p239:=eq_true p239;replace q239:=eq_true q239;have q23:(1:Int)≤((x4_1.length:Int):Int):=of_decide_eq_true (by first|(with_reducible assumption)|assumption);obtain ⟨i023,hi023,_,hsz23,_⟩:=info_parts info3;have hcut23:=cut_from (P:=Tryd.prog) 37 3 .i64 Tryd.underlying37 hi023 1 hsz23 (some ad239) x4_1.length co22 1 (by omega) q23;have hr23:=Kd.Q_drop (k:=(1:Int).toNat) HO_4.out (by omega);obtain ⟨A23,hA23⟩:∃ A1,A1=(if co22=(1:Int).toNat then (some ad239) else ((some ad239):Option Addr).map (·.add ((1:Int).toNat * 1))):=⟨_,rfl⟩;obtain ⟨c23,hc23⟩:∃ c1,c1=co22 - (1:Int).toNat:=⟨_,rfl⟩;have hy23:y240.length=x4_1.length - (1:Int).toNat:=(by rw [Ny240.out,List.length_drop]);rw [← Ny240.out] at hr23;rw [← hy23,← hA23,← hc23] at hcut23;replace hr23:Kd.Q (Kd.int .i64) 3 wr w.heap.size (fun k_=>some k_≠(.slice (some ⟨go4,0,none⟩) x3_1.length co4:Value).ownBlock) (.slice A23 y240.length c23) y240:=(by rw [hA23,hc23,hy23];exact hr23);have HE23:Xa ((Value.slice A23 y240.length c23).ownBlock=(.slice (some ad239) x4_1.length co22:Value).ownBlock):=⟨by rw [hA23];split <;> (cases ((some ad239):Option Addr) <;> rfl)⟩;clear hy23 hi023 hsz23 HO_4 hA23 hc23;have HO242:=Xa.mk hr23;clear hr23;replace q23:=eq_true q23;have n_:=Xa.mk (Kd.Xv (ok':=fun k_=>some k_≠(.slice A23 y240.length c23:Value).ownBlock) HO_3.out (fun k_ hk=>(by rw [HE23.out];exact hk)));clear HO_3;have HO_3:=n_;clear n_
           try go_wp2
           have n0_:=Xa.mk (Kd.R_drew HO_3.out);have n1_:=Xa.mk (Kd.Q_drew HO242.out);have n2_:=Xa.mk (below_drew1 HB.out);clear HO_3;clear HO242;clear HB;have HO_3:=n0_;have HO242:=n1_;have HB:=n2_;clear n0_ n1_ n2_;have p243:0≤((rd x4_1 0):Int):=of_decide_eq_true (by first|(with_reducible assumption)|assumption);have q243:(rd x4_1 0)<(l0.length:Int):=of_decide_eq_true (by first|(with_reducible assumption)|assumption);obtain ⟨ad243,e243,hx243_0,hx243_1,hx243_2,hx243_3⟩:=at_T36 HR0.out (rd x4_1 0) p243 q243;have hw243_3:=hx243_3;have hw243_2:=hx243_2;have hw243_1:=hx243_1;have hw243_0:=hx243_0;cases e243
           replace hx243_0:=(HB.out.cell (World.block_lt_of_cell? w _ hx243_0)).trans hx243_0;replace hx243_1:=(HB.out.cell (World.block_lt_of_cell? w _ hx243_1)).trans hx243_1;replace hx243_2:=(HB.out.cell (World.block_lt_of_cell? w _ hx243_2)).trans hx243_2;replace hx243_3:=(HB.out.cell (World.block_lt_of_cell? w _ hx243_3)).trans hx243_3;replace p243:=eq_true p243;replace q243:=eq_true q243;have p244:0≤((rd x4_1 0):Int):=of_decide_eq_true (by first|(with_reducible assumption)|assumption);have q244:(rd x4_1 0)<(x3_1.length:Int):=of_decide_eq_true (by first|(with_reducible assumption)|assumption);obtain ⟨ad244,e244,hx244_0⟩:=Kd.Zr (Kd.R_reads' HO_3.out).2.2 (rd x4_1 0) p244 q244;obtain rfl:(⟨go4,0,none⟩:Addr)=ad244:=(by injection e244)
           (first|simp only [add_plain] at hx244_0|simp only [add_at] at hx244_0|simp only [Addr.add,Nat.zero_add] at hx244_0|skip)
           replace p244:=eq_true p244;replace q244:=eq_true q244;refine start_ (n:=14) (S:=fun w'=>w'.cell? (ad243.add (((rd x4_1 0)).toNat * 4))=some (.int .i64 ((Xb l0 (rd x4_1 0)).f0))∧w'.cell? ⟨(ad243.add (((rd x4_1 0)).toNat * 4)).block,(ad243.add (((rd x4_1 0)).toNat * 4)).off+1,none⟩=some (.int .i64 ((Xb l0 (rd x4_1 0)).f1))∧w'.cell? ⟨(ad243.add (((rd x4_1 0)).toNat * 4)).block,(ad243.add (((rd x4_1 0)).toNat * 4)).off+2,none⟩=some (.int .i64 ((Xb l0 (rd x4_1 0)).f2))∧w'.cell? ⟨(ad243.add (((rd x4_1 0)).toNat * 4)).block,(ad243.add (((rd x4_1 0)).toNat * 4)).off+3,none⟩=some (.int .i64 ((Xb l0 (rd x4_1 0)).f3))∧w'.cell? ⟨go4,((rd x4_1 0)).toNat,none⟩=some (.int .i64 (rd x3_1 (rd x4_1 0)))) (ds:=[]) #[false,false,false,false,false,false,false,false,false,false,false,false,false,false] (by kernel_rfl) rfl rfl ⟨((HB.out.cell (World.block_lt_of_cell? w _ hw243_0)).trans hw243_0),((HB.out.cell (World.block_lt_of_cell? w _ hw243_1)).trans hw243_1),((HB.out.cell (World.block_lt_of_cell? w _ hw243_2)).trans hw243_2),((HB.out.cell (World.block_lt_of_cell? w _ hw243_3)).trans hw243_3),hx244_0⟩ (fun hHeld=>?_);refine with_tabW Xw.tab7 Xw.bits7 (fun HT_ HW_=>?_)
           generalize wr.drew=w24 at HO_3 HO242 HB hx243_0 hx243_1 hx243_2 hx243_3 hx244_0 hHeld ⊢
           refine Zb (i:=0) (N:=some 26) (v:=?_) (a':=?_) #[true,false,false,false,false,false,false,false,false,false,false,false,false,false] rfl rfl (Yr HT_.out (by kernel_rfl)) (fun _ _ _ h=>h) (Or.inl ⟨by rfl,?_⟩) ?_ ?_
           rotate_left
           ·intro w';go_simp
            with_reducible rfl
           rotate_left
           ·simp only [Act.put,List.setIfInBounds_toArray,List.set_cons_zero,List.set_cons_succ,Xt,Xu];rfl
           refine Zb (i:=1) (N:=some 27) (v:=?_) (a':=?_) #[true,true,false,false,false,false,false,false,false,false,false,false,false,false] rfl rfl (Yr HT_.out (by kernel_rfl)) (fun _ _ _ h=>h) (Or.inl ⟨by rfl,?_⟩) ?_ ?_
           rotate_left
           ·intro w';go_simp
            with_reducible rfl
           rotate_left
           ·simp only [Act.put,List.setIfInBounds_toArray,List.set_cons_zero,List.set_cons_succ,Xt,Xu];rfl
           refine Zb (i:=2) (N:=some 28) (v:=?_) (a':=?_) #[true,true,true,false,false,false,false,false,false,false,false,false,false,false] rfl rfl (Yr HT_.out (by kernel_rfl)) (fun _ _ _ h=>h) (Or.inl ⟨by rfl,?_⟩) ?_ ?_
           rotate_left
           ·intro w';go_simp
            with_reducible rfl
           rotate_left
           ·simp only [Act.put,List.setIfInBounds_toArray,List.set_cons_zero,List.set_cons_succ,Xt,Xu];rfl
           refine Zb (i:=4) (N:=some 30) (v:=?_) (a':=?_) #[true,true,true,false,true,false,false,false,false,false,false,false,false,false] rfl rfl (Yr HT_.out (by kernel_rfl)) (fun _ _ _ h=>h) (Or.inl ⟨by rfl,?_⟩) ?_ ?_
           rotate_left
           ·intro w';go_simp
            with_reducible rfl
           rotate_left
           ·simp only [Act.put,List.setIfInBounds_toArray,List.set_cons_zero,List.set_cons_succ,Xt,Xu];rfl
           refine Zb (i:=5) (N:=some 31) (v:=?_) (a':=?_) #[true,true,true,false,true,true,false,false,false,false,false,false,false,false] rfl rfl (Yr HT_.out (by kernel_rfl)) (fun _ _ _ h=>h) (Or.inl ⟨by rfl,?_⟩) ?_ ?_
           rotate_left
           ·intro w';go_simp
            with_reducible rfl
           rotate_left
           ·simp only [Act.put,List.setIfInBounds_toArray,List.set_cons_zero,List.set_cons_succ,Xt,Xu];rfl
           refine Zb (i:=6) (N:=some 32) (v:=?_) (a':=?_) #[true,true,true,false,true,true,true,false,false,false,false,false,false,false] rfl rfl (Yr HT_.out (by kernel_rfl)) (fun _ _ _ h=>h) (Or.inl ⟨by rfl,?_⟩) ?_ ?_
           rotate_left
           ·intro w';go_simp
            with_reducible rfl
           rotate_left
           ·simp only [Act.put,List.setIfInBounds_toArray,List.set_cons_zero,List.set_cons_succ,Xt,Xu];rfl
           refine take_ (i:=3) (N:=some 29) (v:=?_) (a':=?_) #[true,true,true,true,true,true,true,false,false,false,false,false,false,false] rfl rfl (take_ofW HT_.out HW_.out (by kernel_rfl)) (fun _ _ _ h=>h) (Or.inl ⟨by rfl,?_⟩) hHeld ?_ ?_
           rotate_left
           ·rintro w' ⟨s0,s1,s2,s3,s4⟩
            go_simp
            with_reducible rfl
           rotate_left
           ·simp only [Act.put,List.setIfInBounds_toArray,List.set_cons_zero,List.set_cons_succ,Xt,Xu];rfl
           refine take_ (i:=7) (N:=some 33) (v:=?_) (a':=?_) #[true,true,true,true,true,true,true,true,false,false,false,false,false,false] rfl rfl (take_ofW HT_.out HW_.out (by kernel_rfl)) (fun _ _ _ h=>h) (Or.inl ⟨by rfl,?_⟩) hHeld ?_ ?_
           rotate_left
           ·rintro w' ⟨s0,s1,s2,s3,s4⟩
            go_simp
            with_reducible rfl
           rotate_left
           ·simp only [Act.put,List.setIfInBounds_toArray,List.set_cons_zero,List.set_cons_succ,Xt,Xu];rfl
           refine one_ (i:=8) (N:=some 34) #[true,true,true,true,true,true,true,true,true,false,false,false,false,false] rfl rfl (one_of HT_.out (by kernel_rfl)) (by decide) (fun K hK=>?_)
           refine goes_ Tryd.func38 (by kernel_rfl) rfl #[.agg #[.int .i64 ((Xb l0 (rd x4_1 0)).f0),.int .i64 ((Xb l0 (rd x4_1 0)).f1),.int .i64 ((Xb l0 (rd x4_1 0)).f2),.int .i64 ((Xb l0 (rd x4_1 0)).f3)],.int .i64 (rd x3_1 (rd x4_1 0))] (by rfl) rfl rfl ga_ ?_
           with_reducible refine (impl_Ins_moves.calls ((Xb l0 (rd x4_1 0)).f0) ((Xb l0 (rd x4_1 0)).f1) ((Xb l0 (rd x4_1 0)).f2) ((Xb l0 (rd x4_1 0)).f3) (rd x3_1 (rd x4_1 0)) t245 true _ A19.out).mono ?_
           rintro e w25 ⟨rfl,hb⟩
           have HS4_:=(hb.cell (World.block_lt_of_cell? _ _ (hHeld.2.2.2.2))).trans (hHeld.2.2.2.2);refine ⟨_,rfl,?_⟩
           have n0_:=Xa.mk (Kd.Uc (Kd.ra_ (HO_3.out)) hb);have n1_:=Xa.mk (Kd.Q_below (Kd.qa_ (HO242.out)) hb);have n2_:=Xa.mk (Xc (bl_ HB) hb);clear HO_3;clear HO242;clear HB;have HO_3:=n0_;have HO242:=n1_;have HB:=n2_;clear n0_ n1_ n2_
           (try clear hb)
           (try clear hb2)
           (try clear hk)
           (try clear hi)
           refine hK.out _ _ ⟨((HB.out.cell (World.block_lt_of_cell? w _ hw243_0)).trans hw243_0),((HB.out.cell (World.block_lt_of_cell? w _ hw243_1)).trans hw243_1),((HB.out.cell (World.block_lt_of_cell? w _ hw243_2)).trans hw243_2),((HB.out.cell (World.block_lt_of_cell? w _ hw243_3)).trans hw243_3),HS4_⟩ (fun hHeld=>?_)
           clear hK K;refine Uf (a':=?_) ?_ ?_
           rotate_left
           ·show Act.put _ (some 34) _=_
            simp only [Act.put,List.setIfInBounds_toArray,List.set_cons_zero,List.set_cons_succ,Xt,Xu];rfl
           refine Zb (i:=9) (N:=some 25) (v:=?_) (a':=?_) #[true,true,true,true,true,true,true,true,true,true,false,false,false,false] rfl rfl (Yr HT_.out (by kernel_rfl)) (fun _ _ _ h=>h) (Or.inl ⟨by rfl,?_⟩) ?_ ?_
           rotate_left
           ·intro w';go_simp
            with_reducible rfl
           rotate_left
           ·simp only [Act.put,List.setIfInBounds_toArray,List.set_cons_zero,List.set_cons_succ,Xt,Xu];rfl
           refine Zb (i:=10) (N:=some 35) (v:=?_) (a':=?_) #[true,true,true,true,true,true,true,true,true,true,true,false,false,false] rfl rfl (Yr HT_.out (by kernel_rfl)) (fun _ _ _ h=>h) (Or.inl ⟨by rfl,?_⟩) ?_ ?_
           rotate_left
           ·intro w';go_simp
            with_reducible rfl
           rotate_left
           ·simp only [Act.put,List.setIfInBounds_toArray,List.set_cons_zero,List.set_cons_succ,Xt,Xu];rfl
           refine Zb (i:=11) (N:=some 36) (v:=?_) (a':=?_) #[true,true,true,true,true,true,true,true,true,true,true,true,false,false] rfl rfl (Yr HT_.out (by kernel_rfl)) (fun _ _ _ h=>h) (Or.inl ⟨by rfl,?_⟩) ?_ ?_
           rotate_left
           ·intro w';go_simp
            with_reducible rfl
           rotate_left
           ·simp only [Act.put,List.setIfInBounds_toArray,List.set_cons_zero,List.set_cons_succ,Xt,Xu];rfl
           refine Zb (i:=12) (N:=some 6) (v:=?_) (a':=?_) #[true,true,true,true,true,true,true,true,true,true,true,true,true,false] rfl rfl (Yr HT_.out (by kernel_rfl)) (fun _ _ _ h=>h) (Or.inl ⟨by rfl,?_⟩) ?_ ?_
           rotate_left
           ·intro w';go_simp
            with_reducible rfl
           rotate_left
           ·simp only [Act.put,List.setIfInBounds_toArray,List.set_cons_zero,List.set_cons_succ,Xt,Xu];rfl
           refine Zb (i:=13) (N:=some 7) (v:=?_) (a':=?_) #[true,true,true,true,true,true,true,true,true,true,true,true,true,true] rfl rfl (Yr HT_.out (by kernel_rfl)) (fun _ _ _ h=>h) (Or.inl ⟨by rfl,?_⟩) ?_ ?_
           rotate_left
           ·intro w';go_simp
            with_reducible rfl
           rotate_left
           ·simp only [Act.put,List.setIfInBounds_toArray,List.set_cons_zero,List.set_cons_succ,Xt,Xu];rfl
           refine done_ (done_of HT_.out (by kernel_rfl)) ?_
           have p247:0≤((rd x4_1 0):Int):=of_decide_eq_true (by first|(with_reducible assumption)|assumption);have q247:(rd x4_1 0)<(l0.length:Int):=of_decide_eq_true (by first|(with_reducible assumption)|assumption);obtain ⟨ad247,e247,hx247_0,hx247_1,hx247_2,hx247_3⟩:=at_T36 HR0.out (rd x4_1 0) p247 q247;obtain rfl:ad243=ad247:=(by injection e247);replace hx247_0:=(HB.out.cell (World.block_lt_of_cell? w _ hx247_0)).trans hx247_0;replace hx247_1:=(HB.out.cell (World.block_lt_of_cell? w _ hx247_1)).trans hx247_1;replace hx247_2:=(HB.out.cell (World.block_lt_of_cell? w _ hx247_2)).trans hx247_2;replace hx247_3:=(HB.out.cell (World.block_lt_of_cell? w _ hx247_3)).trans hx247_3;replace p247:=eq_true p247;replace q247:=eq_true q247
           try go_wp2_with (first|((with_reducible refine Xj (f:=39) rfl ?_);refine Yu (some 44) rfl rfl Tryd.func39 (by kernel_rfl) rfl #[.agg #[.int .i64 ((Xb l0 (rd x4_1 0)).f0),.int .i64 ((Xb l0 (rd x4_1 0)).f1),.int .i64 ((Xb l0 (rd x4_1 0)).f2),.int .i64 ((Xb l0 (rd x4_1 0)).f3)],.int .i64 (rd x4_1 0)] rfl ga_ ?_;(with_reducible refine (Zu.calls ((Xb l0 (rd x4_1 0)).f0) ((Xb l0 (rd x4_1 0)).f1) ((Xb l0 (rd x4_1 0)).f2) ((Xb l0 (rd x4_1 0)).f3) (rd x4_1 0) t248 _ A21.out).mono ?_);rintro e w26 ⟨v249,rfl,ho0,hb⟩;refine ⟨_,rfl,?_⟩;have n0_:=Xa.mk (Kd.R_elder' (Kd.ra_ (HO_3.out)) (Kd.Zh ho0) hb);have n1_:=Xa.mk (Kd.Q_elder' (Kd.qa_ (HO242.out)) (Kd.Zh ho0) hb);have n2_:=Xa.mk (Kd.Ye (Kd.R_new' (Kd.R_new' ho0 (Kd.Uh (Kd.ra_ (HO_3.out)))) (Kd.Q_lt (Kd.qa_ (HO242.out)))) (Xd (bl_ HB)));have n3_:=Xa.mk (Xc (bl_ HB) hb);clear HO_3;clear HO242;clear HB;have HO_3:=n0_;have HO242:=n1_;have HO250:=n2_;have HB:=n3_;clear n0_ n1_ n2_ n3_;(try clear hb);(try clear hb2);(try clear hk);(try clear hi);(try clear ho0);obtain ⟨Ao27,co27,eo27⟩:=Kd.Zd HO250.out;subst eo27))
           go_loopg [4,46] k1 (fun kq v4 v46 w'=>∃ (x3_2:List Int) (x4_2:List Int) (x46_2:Int),v46=.int .i64 x46_2∧Xa (Xw.l1 kq l0 x3_2 x4_2 t245 t248 (t248.length:Int) x46_2=some r)∧Xa (kq≤k1)∧Xa (Kd.R (Kd.int .i64) 3 w' w.heap.size (fun k_=>some k_≠(v4:Value).ownBlock∧some k_≠((.slice Ao27 t248.length co27):Value).ownBlock) (.slice (some ⟨go4,0,none⟩) x3_1.length co4) x3_2)∧Xa (Kd.Q (Kd.int .i64) 3 w' w.heap.size (fun k_=>some k_≠((.slice (some ⟨go4,0,none⟩) x3_1.length co4):Value).ownBlock∧some k_≠((.slice Ao27 t248.length co27):Value).ownBlock) v4 x4_2)∧Xa (Kd.R (Kd.int .i64) 3 w' w.heap.size (fun k_=>some k_≠((.slice (some ⟨go4,0,none⟩) x3_1.length co4):Value).ownBlock∧some k_≠(v4:Value).ownBlock) (.slice Ao27 t248.length co27) t248)∧Xa (Below w.heap.size w w'))
           case atStart=>exact ⟨(x3_1),(y240),(0),(by first|rfl|(simp;done)|(simp [*];done)),H',⟨Nat.le_refl _⟩,⟨by (try simp only [hl3_1]);(with_reducible repeat (first|apply Kd.R_alloc|apply Kd.R_drewN|apply Kd.R_drew));exact HO_3.out⟩,⟨by (try simp only [hl3_1]);(with_reducible repeat (first|apply Kd.Q_alloc|apply Kd.Q_drewN|apply Kd.Q_drew));exact HO242.out⟩,⟨by (try simp only [hl3_1]);(with_reducible repeat (first|apply Kd.R_alloc|apply Kd.R_drewN|apply Kd.R_drew));exact Kd.Xv HO250.out (fun _ hk=>⟨hk.1.2,hk.2⟩)⟩,⟨bl_ HB⟩⟩
           case round=>
            clear H'
            try clear c1
            try clear c2
            try clear p2
            try clear q2
            try clear hx2
            try clear qi2
            try clear c3
            try clear c3b0
            try clear c3b1
            try clear p4
            try clear q4
            try clear hx4
            try clear qi4
            try clear hf4
            try clear c13
            try clear c13b0
            try clear c13b1
            try clear c14
            try clear c14b0
            try clear c14b1
            try clear c15
            try clear c15b0
            try clear c15b1
            try clear c16
            try clear c16b0
            try clear c17
            try clear c17b0
            try clear c18
            try clear c18b0
            try clear c20
            try clear c23
            try clear p23
            try clear q23
            try clear hx23
            try clear qi23
            try clear p24
            try clear q24
            try clear hx24
            try clear hx239_0
            try clear hx243_0
            try clear hx243_1
            try clear hx243_2
            try clear hx243_3
            try clear hx244_0
            try clear hx247_0
            try clear hx247_1
            try clear hx247_2
            try clear hx247_3
            try clear hx4_0
            try clear p2
            try clear p239
            try clear p243
            try clear p244
            try clear p247
            try clear p4
            try clear q23
            try clear q239
            try clear q243
            try clear q244
            try clear q247
            try clear q4
            obtain ⟨x3_2,x4_2,x46_2,rfl,HA,HK2,HO_3,HO_4,HO_44,HB⟩:=hrel;have hl3_2:=(Kd.R_reads' HO_3.out).1;rw [hl3_2] at HO_3
            (try simp only [hl3_2])
            (try simp only [hl3_2] at HO_4)
            (try simp only [hl3_2] at HO_44)
            cases gk with
            |zero=>exact absurd HA.out (by simp [Xw.l1])
            |succ k2=>
             have H:=HA.out;clear HA;simp only [Xw.l1] at H;by_cases c28:x46_2<(t248.length:Int)
             ·rw [if_pos c28] at H;have c28b0:decide (x46_2<(t248.length:Int))=true:=decide_eq_true c28;clear c28;by_cases c29:0≤x46_2
              ·rw [if_pos c29] at H;have c29b0:decide (0≤x46_2)=true:=decide_eq_true c29;clear c29;by_cases c30:x46_2<(t248.length:Int)
               ·rw [if_pos c30] at H;have c30b0:decide (x46_2<(t248.length:Int))=true:=decide_eq_true c30;clear c30;by_cases c31:0≤(rd t248 x46_2)
                ·rw [if_pos c31] at H;have c31b0:decide (0≤(rd t248 x46_2))=true:=decide_eq_true c31;clear c31;by_cases c32:(rd t248 x46_2)<(x3_2.length:Int)
                 ·rw [if_pos c32] at H;have c32b0:decide ((rd t248 x46_2)<(x3_2.length:Int))=true:=decide_eq_true c32;clear c32;by_cases c33:(rd x3_2 (rd t248 x46_2))=(-2)
                  ·rw [if_pos c33] at H;have c33b0:((rd x3_2 (rd t248 x46_2)) == (-2))=true:=beq_iff_eq.mpr c33;have c33b1:((rd x3_2 (rd t248 x46_2)) != (-2))=false:=bne_eq_false_iff_eq.mpr c33;clear c33;obtain ⟨y253,hy253⟩:∃ y_:List Int,y_=(x3_2.set ((rd t248 x46_2):Int).toNat t245):=⟨_,rfl⟩
                   replace H:(if x4_2.length<17592186044416 then (Xw.l1 k2 l0 y253 (x4_2 ++ [rd t248 x46_2]) t245 t248 (t248.length:Int) (wrap64 (x46_2+1))) else (none))=some r:=by subst hy253;first|with_reducible exact H|(have z:=(Option.bind_some _ _).symm.trans H;with_reducible exact z)|exact H
                   have Ny253:=Xa.mk hy253;clear hy253;by_cases c35:x4_2.length<17592186044416
                   ·rw [if_pos c35] at H;have LMc35:=Xa.mk c35;clear c35;obtain ⟨y254,hy254⟩:∃ y_:List Int,y_=(x4_2 ++ [rd t248 x46_2]):=⟨_,rfl⟩
                    replace H:(Xw.l1 k2 l0 y253 y254 t245 t248 (t248.length:Int) (wrap64 (x46_2+1)))=some r:=by subst hy254;first|with_reducible exact H|(have z:=(Option.bind_some _ _).symm.trans H;with_reducible exact z)|exact H
                    have Ny254:=Xa.mk hy254;clear hy254;have H':=Xa.mk H;clear H;have p251:0≤(x46_2:Int):=of_decide_eq_true (by first|(with_reducible assumption)|assumption);have q251:x46_2<(t248.length:Int):=of_decide_eq_true (by first|(with_reducible assumption)|assumption);obtain ⟨ad251,e251,hx251_0⟩:=Kd.Zr (Kd.R_reads' HO_44.out).2.2 x46_2 p251 q251;cases e251
                    replace p251:=eq_true p251;replace q251:=eq_true q251;have p252:0≤((rd t248 x46_2):Int):=of_decide_eq_true (by first|(with_reducible assumption)|assumption);have q252:(rd t248 x46_2)<(x3_2.length:Int):=of_decide_eq_true (by first|(with_reducible assumption)|assumption);obtain ⟨ad252,e252,hx252_0⟩:=Kd.Zr (Kd.R_reads' HO_3.out).2.2 (rd t248 x46_2) p252 q252;obtain rfl:(⟨go4,0,none⟩:Addr)=ad252:=(by injection e252)
                    (first|simp only [add_plain] at hx252_0|simp only [add_at] at hx252_0|simp only [Addr.add,Nat.zero_add] at hx252_0|skip)
                    replace p252:=eq_true p252;replace q252:=eq_true q252;have p34:0≤((rd t248 x46_2):Int):=of_decide_eq_true (by first|(with_reducible assumption)|assumption);have q34:((rd t248 x46_2):Int)<((x3_2.length:Int):Int):=of_decide_eq_true (by first|(with_reducible assumption)|assumption);obtain ⟨hx34_0,hf34_0⟩:=Kd.R_celln 0 HO_3.out ((rd t248 x46_2):Int) p34 q34;replace p34:=eq_true p34;replace q34:=eq_true q34;have HP36:=Kd.R_putg HO_3.out ((rd t248 x46_2):Int) t245;go_wp2_with (first|((with_reducible refine gate_store (t:=3) (p:=59) rfl ?_);refine store_event (t:=3) (p:=59) (v:=?vo_w37) (w1:=(wr.setCell ⟨go4,((rd t248 x46_2):Int).toNat,none⟩ (.int .i64 t245))) ?hg ?ho ?hn ?hr ?_;(case ho=>rfl);(case hg=>rfl);(case hn=>rfl);(case hr=>first|(go_simp;done)|(go_simp;rfl));intro w37 hw;have hg:wr.grownBy w37 (some go4):=(by rw [hw];exact HP36.2);have hp_:Kd.R (Kd.int .i64) 3 w37 w.heap.size (fun k_=>some k_≠(u4:Value).ownBlock∧some k_≠(.slice (some ad251) t248.length co27:Value).ownBlock) (.slice (some ⟨go4,0,none⟩) x3_2.length co4) y253:=(by rw [hw,Ny253.out];exact HP36.1);clear HP36;have n0_:=Xa.mk (hp_);have n1_:=Xa.mk (Kd.Q_after (v:=(.slice (some ⟨go4,0,none⟩) x3_2.length co4)) (v1:=(.slice (some ⟨go4,0,none⟩) x3_2.length co4)) (ok:=(fun k_=>some k_≠(.slice (some ad251) t248.length co27:Value).ownBlock)) (Kd.qa_ (Kd.Q_mono HO_4.out (fun _ hk=>⟨hk.2,hk.1⟩))) hg (.inl rfl));have n2_:=Xa.mk (Kd.Yx (v:=(.slice (some ⟨go4,0,none⟩) x3_2.length co4)) (v1:=(.slice (some ⟨go4,0,none⟩) x3_2.length co4)) (ok:=(fun k_=>some k_≠(u4:Value).ownBlock)) (Kd.ra_ (Kd.Xv HO_44.out (fun _ hk=>⟨hk.2,hk.1⟩))) hg (.inl rfl));have n3_:=Xa.mk ((by rw [hw];exact below_set (HB.out) GB4.out:Below w.heap.size w w37));clear HO_3;clear HO_4;clear HO_44;clear HB;have HO_3:=n0_;have HO_4:=n1_;have HO_44:=n2_;have HB:=n3_;clear n0_ n1_ n2_ n3_;clear hg hw hp_)|((with_reducible refine Zi (b:=.append) (xs:=#[.tmp 60,.tmp 62]) rfl ?_);at_builtin;refine Kd.Q_append (Kd.int .i64) (w0:=w) w.heap.size rfl (.tmp 60) (.tmp 62) 37 3 (.int .i64 0) 8 rfl Tryd.underlying37 info3 rfl (by decide) (by omega) u4 x4_2 (rd t248 x46_2) [.int .i64 (rd t248 x46_2)] (fun k_=>some k_≠(.slice (some ⟨go4,0,none⟩) x3_2.length co4:Value).ownBlock∧some k_≠(.slice (some ad251) t248.length co27:Value).ownBlock) (fun _=>False) rfl rfl ?aP (fun _ hk=>hk.elim) ?aF ?aO ?aB ?aS ?aL ?_;(case aP=>exact rfl);(case aB=>exact (bl_ HB));(case aF=>exact (fun k_ hk=>⟨Kd.fresh' (Kd.Uh (Kd.ra_ (HO_3.out))) k_ hk,Kd.fresh' (Kd.Uh (Kd.ra_ (HO_44.out))) k_ hk⟩));(case aO=>exact (Kd.qa_ (Kd.Q_mono HO_4.out (fun _ hk=>⟨hk.2,hk.1⟩))));(case aS=>exact (Xd (bl_ HB)));(case aL=>have:=LMc35.out;omega);intro v255 w38 ho hb hg hat;rw [← Ny254.out] at ho;have n0_:=Xa.mk (Kd.Yx (ok:=(fun k_=>some k_≠(.slice (some ad251) t248.length co27:Value).ownBlock)) (Kd.ra_ (Kd.Xv HO_3.out (fun _ hk=>⟨hk.2,hk.1⟩))) hg hat);have n1_:=Xa.mk (Kd.Yx (ok:=(fun k_=>some k_≠(.slice (some ⟨go4,0,none⟩) x3_2.length co4:Value).ownBlock)) (Kd.ra_ (Kd.Xv HO_44.out (fun _ hk=>⟨hk.2,hk.1⟩))) hg hat);have n2_:=Xa.mk (hb);have n3_:=Xa.mk (ho);clear HO_3;clear HO_44;clear HB;clear HO_4;have HO_3:=n0_;have HO_44:=n1_;have HB:=n2_;have HO256:=n3_;clear n0_ n1_ n2_ n3_;clear ho hb hg hat))
                    (try simp only [← hl3_2])
                    go_roundg k2
                    case measure=>have:=HK1.out;have:=HK2.out;omega
                    case rel=>exact ⟨(y253),(y254),(wrap64 (x46_2+1)),(by first|rfl|(simp;done)|(simp [*];done)),H',⟨by have:=HK1.out;have:=HK2.out;omega⟩,⟨by (try simp only [hl3_1]);(try simp only [hl3_2]);(with_reducible repeat (first|apply Kd.R_alloc|apply Kd.R_drewN|apply Kd.R_drew));exact Kd.Xv HO_3.out (fun _ hk=>⟨hk.2,hk.1⟩)⟩,⟨by (try simp only [hl3_1]);(try simp only [hl3_2]);(with_reducible repeat (first|apply Kd.Q_alloc|apply Kd.Q_drewN|apply Kd.Q_drew));exact HO256.out⟩,⟨by (try simp only [hl3_1]);(try simp only [hl3_2]);(with_reducible repeat (first|apply Kd.R_alloc|apply Kd.R_drewN|apply Kd.R_drew));exact HO_44.out⟩,⟨bl_ HB⟩⟩
                   ·rw [if_neg c35] at H;exact absurd H (by simp)
                  ·rw [if_neg c33] at H;have c33b0:((rd x3_2 (rd t248 x46_2)) == (-2))=false:=beq_eq_false_iff_ne.mpr c33;have c33b1:((rd x3_2 (rd t248 x46_2)) != (-2))=true:=bne_iff_ne.mpr c33;by_cases c39:(rd x3_2 (rd t248 x46_2))=t245
                   ·rw [if_pos c39] at H;have c39b0:((rd x3_2 (rd t248 x46_2)) == t245)=true:=beq_iff_eq.mpr c39;have c39b1:((rd x3_2 (rd t248 x46_2)) != t245)=false:=bne_eq_false_iff_eq.mpr c39;clear c39;have H':=Xa.mk H;clear H;have p251:0≤(x46_2:Int):=of_decide_eq_true (by first|(with_reducible assumption)|assumption);have q251:x46_2<(t248.length:Int):=of_decide_eq_true (by first|(with_reducible assumption)|assumption);obtain ⟨ad251,e251,hx251_0⟩:=Kd.Zr (Kd.R_reads' HO_44.out).2.2 x46_2 p251 q251;cases e251
                    replace p251:=eq_true p251;replace q251:=eq_true q251;have p252:0≤((rd t248 x46_2):Int):=of_decide_eq_true (by first|(with_reducible assumption)|assumption);have q252:(rd t248 x46_2)<(x3_2.length:Int):=of_decide_eq_true (by first|(with_reducible assumption)|assumption);obtain ⟨ad252,e252,hx252_0⟩:=Kd.Zr (Kd.R_reads' HO_3.out).2.2 (rd t248 x46_2) p252 q252;obtain rfl:(⟨go4,0,none⟩:Addr)=ad252:=(by injection e252)
                    (first|simp only [add_plain] at hx252_0|simp only [add_at] at hx252_0|simp only [Addr.add,Nat.zero_add] at hx252_0|skip)
                    replace p252:=eq_true p252;replace q252:=eq_true q252;go_wp2
                    (try simp only [← hl3_2])
                    go_roundg k2
                    case measure=>have:=HK1.out;have:=HK2.out;omega
                    case rel=>exact ⟨(x3_2),(x4_2),(wrap64 (x46_2+1)),(by first|rfl|(simp;done)|(simp [*];done)),H',⟨by have:=HK1.out;have:=HK2.out;omega⟩,⟨by (try simp only [hl3_1]);(try simp only [hl3_2]);(with_reducible repeat (first|apply Kd.R_alloc|apply Kd.R_drewN|apply Kd.R_drew));exact HO_3.out⟩,⟨by (try simp only [hl3_1]);(try simp only [hl3_2]);(with_reducible repeat (first|apply Kd.Q_alloc|apply Kd.Q_drewN|apply Kd.Q_drew));exact HO_4.out⟩,⟨by (try simp only [hl3_1]);(try simp only [hl3_2]);(with_reducible repeat (first|apply Kd.R_alloc|apply Kd.R_drewN|apply Kd.R_drew));exact HO_44.out⟩,⟨bl_ HB⟩⟩
                   ·rw [if_neg c39] at H;have c39b0:((rd x3_2 (rd t248 x46_2)) == t245)=false:=beq_eq_false_iff_ne.mpr c39;have c39b1:((rd x3_2 (rd t248 x46_2)) != t245)=true:=bne_iff_ne.mpr c39;obtain rfl:=Option.some.inj H;have p251:0≤(x46_2:Int):=of_decide_eq_true (by first|(with_reducible assumption)|assumption);have q251:x46_2<(t248.length:Int):=of_decide_eq_true (by first|(with_reducible assumption)|assumption);obtain ⟨ad251,e251,hx251_0⟩:=Kd.Zr (Kd.R_reads' HO_44.out).2.2 x46_2 p251 q251;cases e251
                    replace p251:=eq_true p251;replace q251:=eq_true q251;have p252:0≤((rd t248 x46_2):Int):=of_decide_eq_true (by first|(with_reducible assumption)|assumption);have q252:(rd t248 x46_2)<(x3_2.length:Int):=of_decide_eq_true (by first|(with_reducible assumption)|assumption);obtain ⟨ad252,e252,hx252_0⟩:=Kd.Zr (Kd.R_reads' HO_3.out).2.2 (rd t248 x46_2) p252 q252;obtain rfl:(⟨go4,0,none⟩:Addr)=ad252:=(by injection e252)
                    (first|simp only [add_plain] at hx252_0|simp only [add_at] at hx252_0|simp only [Addr.add,Nat.zero_add] at hx252_0|skip)
                    replace p252:=eq_true p252;replace q252:=eq_true q252;go_wp2
                    go_ret
                    exact ⟨rf_,bl_ HB⟩
                 ·rw [if_neg c32] at H;exact absurd H (by simp)
                ·rw [if_neg c31] at H;exact absurd H (by simp)
               ·rw [if_neg c30] at H;exact absurd H (by simp)
              ·rw [if_neg c29] at H;exact absurd H (by simp)
             ·rw [if_neg c28] at H;have c28b0:decide (x46_2<(t248.length:Int))=false:=decide_eq_false c28;clear c28;have H':=Xa.mk H;clear H;go_wp2
              (try simp only [← hl3_1,← hl3_2])
              go_roundg k2
              case measure=>have:=HK1.out;have:=HK2.out;omega
              case rel=>exact ⟨(x3_2),(x4_2),H',⟨by have:=HK1.out;have:=HK2.out;omega⟩,⟨by (try simp only [hl3_1]);(try simp only [hl3_2]);(with_reducible repeat (first|apply Kd.R_alloc|apply Kd.R_drewN|apply Kd.R_drew));exact Kd.Xv HO_3.out (fun _ hk=>hk.1)⟩,⟨by (try simp only [hl3_1]);(try simp only [hl3_2]);(with_reducible repeat (first|apply Kd.Q_alloc|apply Kd.Q_drewN|apply Kd.Q_drew));exact Kd.Q_mono HO_4.out (fun _ hk=>hk.1)⟩,⟨bl_ HB⟩⟩
          ·replace c20:=Bool.eq_false_iff.mpr c20;subst c20
           have H1:(some false)=some r:=by rw [if_neg (show ¬ (false=true) by decide)] at H;exact H
           clear H;have H:=H1;clear H1;obtain rfl:=Option.some.inj H;obtain ⟨Ao40,co40,eo40,_⟩:=Kd.Q_slice HO_4.out;subst eo40;have p239:0≤(0:Int):=(by omega);have q239:0<(x4_1.length:Int):=of_decide_eq_true (by first|(with_reducible assumption)|assumption);obtain ⟨ad239,e239,hx239_0⟩:=Kd.Zr (Kd.Q_reads' HO_4.out).2.2 0 p239 q239;cases e239
           have qi239:(0<x4_1.length)=True:=eq_true (by omega)
           (try rw [show ((0:Int)).toNat=0 from rfl] at hx239_0)
           (try rw [Addr.add_zero'] at hx239_0)
           replace p239:=eq_true p239;replace q239:=eq_true q239;have q41:(1:Int)≤((x4_1.length:Int):Int):=of_decide_eq_true (by first|(with_reducible assumption)|assumption);obtain ⟨i041,hi041,_,hsz41,_⟩:=info_parts info3;have hcut41:=cut_from (P:=Tryd.prog) 37 3 .i64 Tryd.underlying37 hi041 1 hsz41 (some ad239) x4_1.length co40 1 (by omega) q41;have hr41:=Kd.Q_drop (k:=(1:Int).toNat) HO_4.out (by omega);obtain ⟨A41,hA41⟩:∃ A1,A1=(if co40=(1:Int).toNat then (some ad239) else ((some ad239):Option Addr).map (·.add ((1:Int).toNat * 1))):=⟨_,rfl⟩;obtain ⟨c41,hc41⟩:∃ c1,c1=co40 - (1:Int).toNat:=⟨_,rfl⟩;have hy41:y240.length=x4_1.length - (1:Int).toNat:=(by rw [Ny240.out,List.length_drop]);rw [← Ny240.out] at hr41;rw [← hy41,← hA41,← hc41] at hcut41;replace hr41:Kd.Q (Kd.int .i64) 3 wr w.heap.size (fun k_=>some k_≠(.slice (some ⟨go4,0,none⟩) x3_1.length co4:Value).ownBlock) (.slice A41 y240.length c41) y240:=(by rw [hA41,hc41,hy41];exact hr41);have HE41:Xa ((Value.slice A41 y240.length c41).ownBlock=(.slice (some ad239) x4_1.length co40:Value).ownBlock):=⟨by rw [hA41];split <;> (cases ((some ad239):Option Addr) <;> rfl)⟩;clear hy41 hi041 hsz41 HO_4 hA41 hc41;have HO242:=Xa.mk hr41;clear hr41;replace q41:=eq_true q41;have n_:=Xa.mk (Kd.Xv (ok':=fun k_=>some k_≠(.slice A41 y240.length c41:Value).ownBlock) HO_3.out (fun k_ hk=>(by rw [HE41.out];exact hk)));clear HO_3;have HO_3:=n_;clear n_
           try go_wp2
           have n0_:=Xa.mk (Kd.R_drew HO_3.out);have n1_:=Xa.mk (Kd.Q_drew HO242.out);have n2_:=Xa.mk (below_drew1 HB.out);clear HO_3;clear HO242;clear HB;have HO_3:=n0_;have HO242:=n1_;have HB:=n2_;clear n0_ n1_ n2_;have p243:0≤((rd x4_1 0):Int):=of_decide_eq_true (by first|(with_reducible assumption)|assumption);have q243:(rd x4_1 0)<(l0.length:Int):=of_decide_eq_true (by first|(with_reducible assumption)|assumption);obtain ⟨ad243,e243,hx243_0,hx243_1,hx243_2,hx243_3⟩:=at_T36 HR0.out (rd x4_1 0) p243 q243;have hw243_3:=hx243_3;have hw243_2:=hx243_2;have hw243_1:=hx243_1;have hw243_0:=hx243_0;cases e243
           replace hx243_0:=(HB.out.cell (World.block_lt_of_cell? w _ hx243_0)).trans hx243_0;replace hx243_1:=(HB.out.cell (World.block_lt_of_cell? w _ hx243_1)).trans hx243_1;replace hx243_2:=(HB.out.cell (World.block_lt_of_cell? w _ hx243_2)).trans hx243_2;replace hx243_3:=(HB.out.cell (World.block_lt_of_cell? w _ hx243_3)).trans hx243_3;replace p243:=eq_true p243;replace q243:=eq_true q243;have p244:0≤((rd x4_1 0):Int):=of_decide_eq_true (by first|(with_reducible assumption)|assumption);have q244:(rd x4_1 0)<(x3_1.length:Int):=of_decide_eq_true (by first|(with_reducible assumption)|assumption);obtain ⟨ad244,e244,hx244_0⟩:=Kd.Zr (Kd.R_reads' HO_3.out).2.2 (rd x4_1 0) p244 q244;obtain rfl:(⟨go4,0,none⟩:Addr)=ad244:=(by injection e244)
           (first|simp only [add_plain] at hx244_0|simp only [add_at] at hx244_0|simp only [Addr.add,Nat.zero_add] at hx244_0|skip)
           replace p244:=eq_true p244;replace q244:=eq_true q244;refine start_ (n:=14) (S:=fun w'=>w'.cell? (ad243.add (((rd x4_1 0)).toNat * 4))=some (.int .i64 ((Xb l0 (rd x4_1 0)).f0))∧w'.cell? ⟨(ad243.add (((rd x4_1 0)).toNat * 4)).block,(ad243.add (((rd x4_1 0)).toNat * 4)).off+1,none⟩=some (.int .i64 ((Xb l0 (rd x4_1 0)).f1))∧w'.cell? ⟨(ad243.add (((rd x4_1 0)).toNat * 4)).block,(ad243.add (((rd x4_1 0)).toNat * 4)).off+2,none⟩=some (.int .i64 ((Xb l0 (rd x4_1 0)).f2))∧w'.cell? ⟨(ad243.add (((rd x4_1 0)).toNat * 4)).block,(ad243.add (((rd x4_1 0)).toNat * 4)).off+3,none⟩=some (.int .i64 ((Xb l0 (rd x4_1 0)).f3))∧w'.cell? ⟨go4,((rd x4_1 0)).toNat,none⟩=some (.int .i64 (rd x3_1 (rd x4_1 0)))) (ds:=[]) #[false,false,false,false,false,false,false,false,false,false,false,false,false,false] (by kernel_rfl) rfl rfl ⟨((HB.out.cell (World.block_lt_of_cell? w _ hw243_0)).trans hw243_0),((HB.out.cell (World.block_lt_of_cell? w _ hw243_1)).trans hw243_1),((HB.out.cell (World.block_lt_of_cell? w _ hw243_2)).trans hw243_2),((HB.out.cell (World.block_lt_of_cell? w _ hw243_3)).trans hw243_3),hx244_0⟩ (fun hHeld=>?_);refine with_tabW Xw.tab7 Xw.bits7 (fun HT_ HW_=>?_)
           generalize wr.drew=w42 at HO_3 HO242 HB hx243_0 hx243_1 hx243_2 hx243_3 hx244_0 hHeld ⊢
           refine Zb (i:=0) (N:=some 26) (v:=?_) (a':=?_) #[true,false,false,false,false,false,false,false,false,false,false,false,false,false] rfl rfl (Yr HT_.out (by kernel_rfl)) (fun _ _ _ h=>h) (Or.inl ⟨by rfl,?_⟩) ?_ ?_
           rotate_left
           ·intro w';go_simp
            with_reducible rfl
           rotate_left
           ·simp only [Act.put,List.setIfInBounds_toArray,List.set_cons_zero,List.set_cons_succ,Xt,Xu];rfl
           refine Zb (i:=1) (N:=some 27) (v:=?_) (a':=?_) #[true,true,false,false,false,false,false,false,false,false,false,false,false,false] rfl rfl (Yr HT_.out (by kernel_rfl)) (fun _ _ _ h=>h) (Or.inl ⟨by rfl,?_⟩) ?_ ?_
           rotate_left
           ·intro w';go_simp
            with_reducible rfl
           rotate_left
           ·simp only [Act.put,List.setIfInBounds_toArray,List.set_cons_zero,List.set_cons_succ,Xt,Xu];rfl
           refine Zb (i:=2) (N:=some 28) (v:=?_) (a':=?_) #[true,true,true,false,false,false,false,false,false,false,false,false,false,false] rfl rfl (Yr HT_.out (by kernel_rfl)) (fun _ _ _ h=>h) (Or.inl ⟨by rfl,?_⟩) ?_ ?_
           rotate_left
           ·intro w';go_simp
            with_reducible rfl
           rotate_left
           ·simp only [Act.put,List.setIfInBounds_toArray,List.set_cons_zero,List.set_cons_succ,Xt,Xu];rfl
           refine Zb (i:=4) (N:=some 30) (v:=?_) (a':=?_) #[true,true,true,false,true,false,false,false,false,false,false,false,false,false] rfl rfl (Yr HT_.out (by kernel_rfl)) (fun _ _ _ h=>h) (Or.inl ⟨by rfl,?_⟩) ?_ ?_
           rotate_left
           ·intro w';go_simp
            with_reducible rfl
           rotate_left
           ·simp only [Act.put,List.setIfInBounds_toArray,List.set_cons_zero,List.set_cons_succ,Xt,Xu];rfl
           refine Zb (i:=5) (N:=some 31) (v:=?_) (a':=?_) #[true,true,true,false,true,true,false,false,false,false,false,false,false,false] rfl rfl (Yr HT_.out (by kernel_rfl)) (fun _ _ _ h=>h) (Or.inl ⟨by rfl,?_⟩) ?_ ?_
           rotate_left
           ·intro w';go_simp
            with_reducible rfl
           rotate_left
           ·simp only [Act.put,List.setIfInBounds_toArray,List.set_cons_zero,List.set_cons_succ,Xt,Xu];rfl
           refine Zb (i:=6) (N:=some 32) (v:=?_) (a':=?_) #[true,true,true,false,true,true,true,false,false,false,false,false,false,false] rfl rfl (Yr HT_.out (by kernel_rfl)) (fun _ _ _ h=>h) (Or.inl ⟨by rfl,?_⟩) ?_ ?_
           rotate_left
           ·intro w';go_simp
            with_reducible rfl
           rotate_left
           ·simp only [Act.put,List.setIfInBounds_toArray,List.set_cons_zero,List.set_cons_succ,Xt,Xu];rfl
           refine take_ (i:=3) (N:=some 29) (v:=?_) (a':=?_) #[true,true,true,true,true,true,true,false,false,false,false,false,false,false] rfl rfl (take_ofW HT_.out HW_.out (by kernel_rfl)) (fun _ _ _ h=>h) (Or.inl ⟨by rfl,?_⟩) hHeld ?_ ?_
           rotate_left
           ·rintro w' ⟨s0,s1,s2,s3,s4⟩
            go_simp
            with_reducible rfl
           rotate_left
           ·simp only [Act.put,List.setIfInBounds_toArray,List.set_cons_zero,List.set_cons_succ,Xt,Xu];rfl
           refine take_ (i:=7) (N:=some 33) (v:=?_) (a':=?_) #[true,true,true,true,true,true,true,true,false,false,false,false,false,false] rfl rfl (take_ofW HT_.out HW_.out (by kernel_rfl)) (fun _ _ _ h=>h) (Or.inl ⟨by rfl,?_⟩) hHeld ?_ ?_
           rotate_left
           ·rintro w' ⟨s0,s1,s2,s3,s4⟩
            go_simp
            with_reducible rfl
           rotate_left
           ·simp only [Act.put,List.setIfInBounds_toArray,List.set_cons_zero,List.set_cons_succ,Xt,Xu];rfl
           refine one_ (i:=8) (N:=some 34) #[true,true,true,true,true,true,true,true,true,false,false,false,false,false] rfl rfl (one_of HT_.out (by kernel_rfl)) (by decide) (fun K hK=>?_)
           refine goes_ Tryd.func38 (by kernel_rfl) rfl #[.agg #[.int .i64 ((Xb l0 (rd x4_1 0)).f0),.int .i64 ((Xb l0 (rd x4_1 0)).f1),.int .i64 ((Xb l0 (rd x4_1 0)).f2),.int .i64 ((Xb l0 (rd x4_1 0)).f3)],.int .i64 (rd x3_1 (rd x4_1 0))] (by rfl) rfl rfl ga_ ?_
           with_reducible refine (impl_Ins_moves.calls ((Xb l0 (rd x4_1 0)).f0) ((Xb l0 (rd x4_1 0)).f1) ((Xb l0 (rd x4_1 0)).f2) ((Xb l0 (rd x4_1 0)).f3) (rd x3_1 (rd x4_1 0)) t245 false _ A19.out).mono ?_
           rintro e w43 ⟨rfl,hb⟩
           have HS4_:=(hb.cell (World.block_lt_of_cell? _ _ (hHeld.2.2.2.2))).trans (hHeld.2.2.2.2);refine ⟨_,rfl,?_⟩
           have n0_:=Xa.mk (Kd.Uc (Kd.ra_ (HO_3.out)) hb);have n1_:=Xa.mk (Kd.Q_below (Kd.qa_ (HO242.out)) hb);have n2_:=Xa.mk (Xc (bl_ HB) hb);clear HO_3;clear HO242;clear HB;have HO_3:=n0_;have HO242:=n1_;have HB:=n2_;clear n0_ n1_ n2_
           (try clear hb)
           (try clear hb2)
           (try clear hk)
           (try clear hi)
           refine hK.out _ _ ⟨((HB.out.cell (World.block_lt_of_cell? w _ hw243_0)).trans hw243_0),((HB.out.cell (World.block_lt_of_cell? w _ hw243_1)).trans hw243_1),((HB.out.cell (World.block_lt_of_cell? w _ hw243_2)).trans hw243_2),((HB.out.cell (World.block_lt_of_cell? w _ hw243_3)).trans hw243_3),HS4_⟩ (fun hHeld=>?_)
           clear hK K;refine Uf (a':=?_) ?_ ?_
           rotate_left
           ·show Act.put _ (some 34) _=_
            simp only [Act.put,List.setIfInBounds_toArray,List.set_cons_zero,List.set_cons_succ,Xt,Xu];rfl
           refine Zb (i:=9) (N:=some 25) (v:=?_) (a':=?_) #[true,true,true,true,true,true,true,true,true,true,false,false,false,false] rfl rfl (Yr HT_.out (by kernel_rfl)) (fun _ _ _ h=>h) (Or.inl ⟨by rfl,?_⟩) ?_ ?_
           rotate_left
           ·intro w';go_simp
            with_reducible rfl
           rotate_left
           ·simp only [Act.put,List.setIfInBounds_toArray,List.set_cons_zero,List.set_cons_succ,Xt,Xu];rfl
           refine Zb (i:=10) (N:=some 35) (v:=?_) (a':=?_) #[true,true,true,true,true,true,true,true,true,true,true,false,false,false] rfl rfl (Yr HT_.out (by kernel_rfl)) (fun _ _ _ h=>h) (Or.inl ⟨by rfl,?_⟩) ?_ ?_
           rotate_left
           ·intro w';go_simp
            with_reducible rfl
           rotate_left
           ·simp only [Act.put,List.setIfInBounds_toArray,List.set_cons_zero,List.set_cons_succ,Xt,Xu];rfl
           refine Zb (i:=11) (N:=some 36) (v:=?_) (a':=?_) #[true,true,true,true,true,true,true,true,true,true,true,true,false,false] rfl rfl (Yr HT_.out (by kernel_rfl)) (fun _ _ _ h=>h) (Or.inl ⟨by rfl,?_⟩) ?_ ?_
           rotate_left
           ·intro w';go_simp
            with_reducible rfl
           rotate_left
           ·simp only [Act.put,List.setIfInBounds_toArray,List.set_cons_zero,List.set_cons_succ,Xt,Xu];rfl
           refine Zb (i:=12) (N:=some 6) (v:=?_) (a':=?_) #[true,true,true,true,true,true,true,true,true,true,true,true,true,false] rfl rfl (Yr HT_.out (by kernel_rfl)) (fun _ _ _ h=>h) (Or.inl ⟨by rfl,?_⟩) ?_ ?_
           rotate_left
           ·intro w';go_simp
            with_reducible rfl
           rotate_left
           ·simp only [Act.put,List.setIfInBounds_toArray,List.set_cons_zero,List.set_cons_succ,Xt,Xu];rfl
           refine Zb (i:=13) (N:=some 7) (v:=?_) (a':=?_) #[true,true,true,true,true,true,true,true,true,true,true,true,true,true] rfl rfl (Yr HT_.out (by kernel_rfl)) (fun _ _ _ h=>h) (Or.inl ⟨by rfl,?_⟩) ?_ ?_
           rotate_left
           ·intro w';go_simp
            with_reducible rfl
           rotate_left
           ·simp only [Act.put,List.setIfInBounds_toArray,List.set_cons_zero,List.set_cons_succ,Xt,Xu];rfl
           refine done_ (done_of HT_.out (by kernel_rfl)) ?_
           try go_wp2
           go_ret
           exact ⟨rf_,bl_ HB⟩
         ·rw [if_neg c18] at H;exact absurd H (by simp)
        ·rw [if_neg c17] at H;exact absurd H (by simp)
       ·rw [if_neg c16] at H;exact absurd H (by simp)
      ·rw [if_neg c15] at H;exact absurd H (by simp)
     ·rw [if_neg c14] at H;exact absurd H (by simp)
    ·rw [if_neg c13] at H;have c13b0:decide (0<(x4_1.length:Int))=false:=decide_eq_false c13;have c13b1:decide (0<x4_1.length)=false:=decide_eq_false (by omega);clear c13;obtain rfl:=Option.some.inj H;obtain ⟨Ao44,co44,eo44,_⟩:=Kd.Q_slice HO_4.out;subst eo44;go_wp2
     go_ret
     exact ⟨rf_,bl_ HB⟩
 ·rw [if_neg c3] at H;exact absurd H (by simp)
end Go.Proofs.YtdkcjecllbdljaaDoor.GCode
