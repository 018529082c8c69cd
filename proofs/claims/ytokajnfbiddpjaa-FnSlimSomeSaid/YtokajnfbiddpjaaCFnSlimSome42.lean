import Derived.Test.YtokajnfbiddpjaaCFnSlimSome21
import Derived.Test.YtokajnfbiddpjaaCFnSlimSome38
import Derived.Test.YtokajnfbiddpjaaCFnSlimSome41
set_option maxRecDepth 100000
namespace Go.Proofs.Ytokajnfbiddpjaa.GSlim
open Go.RowKit Go.Proofs.YtokajnfbiddpjaaW.PrintWords Go.Proofs.YtokajnfbiddpjaaW.PrintLast Go.Proofs.YtokajnfbiddpjaaW.PrintMore
attribute [local go_sem] Zx Zz Ul Um Zl Zm Zy Ua
set_option linter.unusedVariables false
set_option linter.unusedSimpArgs false
mutual
def Yw.j0:Nat→List (S31)→Bool→Option (Bool)
 |0,_,_=>none
 |k+1,x0,bI=>if bI=true then (some false) else (Yw.l0 k x0 x0 (x0.length:Int) 0)
def Yw.l0:Nat→List (S31)→List (S31)→Int→Int→Option (Bool)
 |0,_,_,_,_=>none
 |k+1,x0,aS,bF,aM=>if aM<bF then (if 0≤aM then (if aM<(aS.length:Int) then ((impl_insOk.f ((Xb aS aM).f0) ((Xb aS aM).f1) ((Xb aS aM).f2) ((Xb aS aM).f3) (x0.length:Int)).bind fun aN=>(if aN=true then (if ((((Xb aS aM).f0) == 13) != (aM == (wrap64 ((x0.length:Int) - 1))))=true then (some false) else (Yw.l0 k x0 aS bF (wrap64 (aM+1)))) else (some false))) else (none)) else (none)) else ((Xx.f k x0).bind fun aO=>(some aO))
end
def Yw.f (k:Nat) (l0:List (S31)):Option (Bool):=if (l0.length:Int)<1 then (Yw.j0 k l0 true) else (Yw.j0 k l0 (decide ((l0.length:Int) > 60)))
set_option maxHeartbeats 8000000 in
theorem Yw.calls (k:Nat) (A0:Option Addr) (c0:Nat) (l0:List (S31)) (r:Bool) (w:World) (hr0:Kd.C k31 w A0 l0.length l0) (hc0:l0.length≤c0) (h:Yw.f k l0=some r) :
  Calls Try.prog 12 #[.slice A0 l0.length c0] w fun e w'=>e=.returned (.bool r)∧Below w.heap.size w w':=by
 have hu31:=Try.underlying31;have aX:=Xa.mk hr0;have bH:=Xa.mk hc0;clear hr0 hc0;have HB:=Xa.mk (Below.refl w.heap.size w);have H:(if (l0.length:Int)<1 then (Yw.j0 k l0 true) else (Yw.j0 k l0 (decide ((l0.length:Int) > 60))))=some r:=h;clear h;have aY:=Xa.mk H;clear H
 go_enter Try.func12,Try.ntmps12
 go_upto_region 1 with (fail)
 go_cut [12] (fun v12 wc=>∃ (kq:Nat) (aK:Bool),v12=.bool aK∧Xa (Yw.j0 kq l0 aK=some r)∧Xa (kq≤k)∧Xa (Below w.heap.size w wc))
 case first=>
  have H:=aY.out;clear aY;by_cases c3:(l0.length:Int)<1
  ·rw [if_pos c3] at H;have aL:=decide_eq_true c3;have aZ:decide (l0.length<1)=true:=decide_eq_true (by omega);clear c3
   (first|rw [aL]|(simp only [Ub,Uf];rw [aL])|skip)
   have H':=Xa.mk H;clear H;go_wp2
   go_meet
   case rel=>exact ⟨_,(true),rg_,H',⟨by first|omega|exact Nat.le_refl _⟩,⟨bl_ HB⟩⟩
  ·rw [if_neg c3] at H;have aL:=decide_eq_false c3;have aZ:decide (l0.length<1)=false:=decide_eq_false (by omega);clear c3
   (first|rw [aL]|(simp only [Ub,Uf];rw [aL])|skip)
   have H':=Xa.mk H;clear H;go_wp2
   go_meet
   case rel=>exact ⟨_,(decide ((l0.length:Int) > 60)),rg_,H',⟨by first|omega|exact Nat.le_refl _⟩,⟨bl_ HB⟩⟩
 case rest=>
  clear aY;obtain ⟨kq,aK,rfl,HA,bD,HB⟩:=hcut
  cases kq with
  |zero=>exact absurd HA.out (by simp [Yw.j0])
  |succ bB=>
   have H:=HA.out;clear HA;simp only [Yw.j0] at H;by_cases c4:aK=true
   ·subst c4
    replace H:(some false)=some r:=(by rw [if_pos rfl] at H;exact H);obtain rfl:=Option.some.inj H;go_wp2
    go_ret
    exact ⟨rf_,bl_ HB⟩
   ·replace c4:=Bool.eq_false_iff.mpr c4;subst c4
    replace H:(Yw.l0 bB l0 l0 (l0.length:Int) 0)=some r:=(by rw [if_neg (show ¬ (false=true) by decide)] at H;exact H);have H':=Xa.mk H;clear H;go_wp2
    go_loopg [15] bB (fun kq v15 w'=>∃ (aA:Int),v15=.int .i64 aA∧Xa (Yw.l0 kq l0 l0 (l0.length:Int) aA=some r)∧Xa (kq≤bB)∧Xa (Below w.heap.size w w'))
    case atStart=>exact ⟨(0),rg_,H',⟨Nat.le_refl _⟩,⟨bl_ HB⟩⟩
    case round=>
     clear H'
     try clear c4
     obtain ⟨aA,rfl,HA,bE,HB⟩:=hrel
     cases gk with
     |zero=>exact absurd HA.out (by simp [Yw.l0])
     |succ k2=>
      have H:=HA.out;clear HA;simp only [Yw.l0] at H;by_cases c5:aA<(l0.length:Int)
      ·rw [if_pos c5] at H;have bA:=decide_eq_true c5;clear c5;by_cases c6:0≤aA
       ·rw [if_pos c6] at H;replace c6:=decide_eq_true c6;by_cases c7:aA<(l0.length:Int)
        ·rw [if_pos c7] at H;replace c7:=decide_eq_true c7;replace H:=Option.bind_eq_some_iff.mp H;obtain ⟨aN,bC,H⟩:=H;replace H:(if aN=true then (if ((((Xb l0 aA).f0) == 13) != (aA == (wrap64 ((l0.length:Int) - 1))))=true then (some false) else (Yw.l0 k2 l0 l0 (l0.length:Int) (wrap64 (aA+1)))) else (some false))=some r:=H;have A8:=Xa.mk bC;clear bC;by_cases c9:aN=true
         ·subst c9
          replace H:(if ((((Xb l0 aA).f0) == 13) != (aA == (wrap64 ((l0.length:Int) - 1))))=true then (some false) else (Yw.l0 k2 l0 l0 (l0.length:Int) (wrap64 (aA+1))))=some r:=(by rw [if_pos rfl] at H;exact H);by_cases c10:((((Xb l0 aA).f0) == 13) != (aA == (wrap64 ((l0.length:Int) - 1))))=true
          ·rw [if_pos c10] at H;have aU:((((Xb l0 aA).f0) == 13) != (aA == (wrap64 ((l0.length:Int) - 1))))=true:=c10
           (try (have aV:decide ((((Xb l0 aA).f0) == 13)=(aA == (wrap64 ((l0.length:Int) - 1))))=false:=by simpa using c10))
           (try (have aW:((((Xb l0 aA).f0) == 13) == (aA == (wrap64 ((l0.length:Int) - 1))))=false:=by simpa using c10))
           (try (have c10b3:¬ ((((Xb l0 aA).f0) == 13)=(aA == (wrap64 ((l0.length:Int) - 1)))):=by simpa using c10))
           clear c10;obtain rfl:=Option.some.inj H;have aI:0≤(aA:Int):=of_decide_eq_true (by assumption);have aJ:aA<(l0.length:Int):=of_decide_eq_true (by assumption);obtain ⟨aR,e335,aC,aD,aF,aG⟩:=Zv aX.out aA aI aJ;cases e335
           replace aC:=bw_ HB aC;replace aD:=bw_ HB aD;replace aF:=bw_ HB aF;replace aG:=bw_ HB aG;replace aI:=eq_true aI;replace aJ:=eq_true aJ;go_wp2_with (first|((with_reducible refine Xt (N:=4) rfl ?_);(try (refine gate_guard (by rfl) ?_;dsimp only));refine Ym ?hg (N:=4) ?hd (cs:=#[.int .i64 0,.int .i64 0,.int .i64 0,.int .i64 0]) (t:=31) ?hr ?_;(case hd|hg=>rfl);(case hr=>exact hr_);intro aH hg w11 hbox hb;have aB:=Xa.mk (hbox);have aQ:=Xa.mk ((ge_ hg (Xd (bl_ HB)):w.heap.size≤aH));have aP:=Xa.mk ((ge_ hg (Xd (bl_ HB)):w.heap.size≤aH));replace HB:=Xa.mk (Xe (bl_ HB) hb);clear hb hbox hg;obtain ⟨hcz12_0,hcz12_1,hcz12_2,hcz12_3⟩:=Uv aB.out;obtain ⟨hfz12_0,hfz12_1,hfz12_2,hfz12_3⟩:=Uy aB.out)|((with_reducible refine Xh (f:=26) rfl ?_);refine Ye (some 23) rfl rfl Try.func26 (by kernel_rfl) rfl #[.agg #[.int .i64 ((Xb l0 aA).f0),.int .i64 ((Xb l0 aA).f1),.int .i64 ((Xb l0 aA).f2),.int .i64 ((Xb l0 aA).f3)],.int .i64 (l0.length:Int)] rfl ga_ ?_;(with_reducible refine (impl_insOk.calls ((Xb l0 aA).f0) ((Xb l0 aA).f1) ((Xb l0 aA).f2) ((Xb l0 aA).f3) (l0.length:Int) true _ A8.out).mono ?_);rintro e w13 ⟨rfl,hb⟩;refine ⟨_,rfl,?_⟩;replace aB:=Xa.mk (Zp (g:=aH) (o:=.cells #[.int .i64 ((Xb l0 aA).f0),.int .i64 ((Xb l0 aA).f1),.int .i64 ((Xb l0 aA).f2),.int .i64 ((Xb l0 aA).f3)] 31 (0,0)) (by refine bb_ (Xv (cs:=#[.int .i64 ((Xb l0 aA).f0),.int .i64 ((Xb l0 aA).f1),.int .i64 ((Xb l0 aA).f2),.int .i64 0]) ?_ 3 _ rfl);refine bb_ (Xv (cs:=#[.int .i64 ((Xb l0 aA).f0),.int .i64 ((Xb l0 aA).f1),.int .i64 0,.int .i64 0]) ?_ 2 _ rfl);refine bb_ (Xv (cs:=#[.int .i64 ((Xb l0 aA).f0),.int .i64 0,.int .i64 0,.int .i64 0]) ?_ 1 _ rfl);refine bb_ (Xv (cs:=#[.int .i64 0,.int .i64 0,.int .i64 0,.int .i64 0]) ?_ 0 _ rfl);(with_reducible repeat (first|refine Uo ?_ _|refine Uw ?_|refine Un ?_ _));exact aB.out) hb);replace HB:=Xa.mk (Xe (bl_ HB) hb);clear hb;obtain ⟨hcz14_0,hcz14_1,hcz14_2,hcz14_3⟩:=Uv aB.out;obtain ⟨hfz14_0,hfz14_1,hfz14_2,hfz14_3⟩:=Uy aB.out))
           go_ret
           exact ⟨rf_,bl_ HB⟩
          ·rw [if_neg c10] at H
           have aU:((((Xb l0 aA).f0) == 13) != (aA == (wrap64 ((l0.length:Int) - 1))))=false:=by simpa using c10
           (try (have aV:decide ((((Xb l0 aA).f0) == 13)=(aA == (wrap64 ((l0.length:Int) - 1))))=true:=by simpa using c10))
           (try (have aW:((((Xb l0 aA).f0) == 13) == (aA == (wrap64 ((l0.length:Int) - 1))))=true:=by simpa using c10))
           clear c10;have H':=Xa.mk H;clear H;have aI:0≤(aA:Int):=of_decide_eq_true (by assumption);have aJ:aA<(l0.length:Int):=of_decide_eq_true (by assumption);obtain ⟨aR,e335,aC,aD,aF,aG⟩:=Zv aX.out aA aI aJ;cases e335
           replace aC:=bw_ HB aC;replace aD:=bw_ HB aD;replace aF:=bw_ HB aF;replace aG:=bw_ HB aG;replace aI:=eq_true aI;replace aJ:=eq_true aJ;go_wp2_with (first|((with_reducible refine Xt (N:=4) rfl ?_);(try (refine gate_guard (by rfl) ?_;dsimp only));refine Ym ?hg (N:=4) ?hd (cs:=#[.int .i64 0,.int .i64 0,.int .i64 0,.int .i64 0]) (t:=31) ?hr ?_;(case hd|hg=>rfl);(case hr=>exact hr_);intro aH hg w15 hbox hb;have aB:=Xa.mk (hbox);have aQ:=Xa.mk ((ge_ hg (Xd (bl_ HB)):w.heap.size≤aH));have aP:=Xa.mk ((ge_ hg (Xd (bl_ HB)):w.heap.size≤aH));replace HB:=Xa.mk (Xe (bl_ HB) hb);clear hb hbox hg;obtain ⟨hcz16_0,hcz16_1,hcz16_2,hcz16_3⟩:=Uv aB.out;obtain ⟨hfz16_0,hfz16_1,hfz16_2,hfz16_3⟩:=Uy aB.out)|((with_reducible refine Xh (f:=26) rfl ?_);refine Ye (some 23) rfl rfl Try.func26 (by kernel_rfl) rfl #[.agg #[.int .i64 ((Xb l0 aA).f0),.int .i64 ((Xb l0 aA).f1),.int .i64 ((Xb l0 aA).f2),.int .i64 ((Xb l0 aA).f3)],.int .i64 (l0.length:Int)] rfl ga_ ?_;(with_reducible refine (impl_insOk.calls ((Xb l0 aA).f0) ((Xb l0 aA).f1) ((Xb l0 aA).f2) ((Xb l0 aA).f3) (l0.length:Int) true _ A8.out).mono ?_);rintro e w17 ⟨rfl,hb⟩;refine ⟨_,rfl,?_⟩;replace aB:=Xa.mk (Zp (g:=aH) (o:=.cells #[.int .i64 ((Xb l0 aA).f0),.int .i64 ((Xb l0 aA).f1),.int .i64 ((Xb l0 aA).f2),.int .i64 ((Xb l0 aA).f3)] 31 (0,0)) (by refine bb_ (Xv (cs:=#[.int .i64 ((Xb l0 aA).f0),.int .i64 ((Xb l0 aA).f1),.int .i64 ((Xb l0 aA).f2),.int .i64 0]) ?_ 3 _ rfl);refine bb_ (Xv (cs:=#[.int .i64 ((Xb l0 aA).f0),.int .i64 ((Xb l0 aA).f1),.int .i64 0,.int .i64 0]) ?_ 2 _ rfl);refine bb_ (Xv (cs:=#[.int .i64 ((Xb l0 aA).f0),.int .i64 0,.int .i64 0,.int .i64 0]) ?_ 1 _ rfl);refine bb_ (Xv (cs:=#[.int .i64 0,.int .i64 0,.int .i64 0,.int .i64 0]) ?_ 0 _ rfl);(with_reducible repeat (first|refine Uo ?_ _|refine Uw ?_|refine Un ?_ _));exact aB.out) hb);replace HB:=Xa.mk (Xe (bl_ HB) hb);clear hb;obtain ⟨hcz18_0,hcz18_1,hcz18_2,hcz18_3⟩:=Uv aB.out;obtain ⟨hfz18_0,hfz18_1,hfz18_2,hfz18_3⟩:=Uy aB.out))
           go_roundg k2
           case measure=>have:=bD.out;have:=bE.out;omega
           case rel=>exact ⟨(wrap64 (aA+1)),rg_,H',⟨by have:=bD.out;have:=bE.out;omega⟩,⟨bl_ HB⟩⟩
         ·replace c9:=Bool.eq_false_iff.mpr c9;subst c9
          replace H:(some false)=some r:=(by rw [if_neg (show ¬ (false=true) by decide)] at H;exact H);obtain rfl:=Option.some.inj H;have aI:0≤(aA:Int):=of_decide_eq_true (by assumption);have aJ:aA<(l0.length:Int):=of_decide_eq_true (by assumption);obtain ⟨aR,e335,aC,aD,aF,aG⟩:=Zv aX.out aA aI aJ;cases e335
          replace aC:=bw_ HB aC;replace aD:=bw_ HB aD;replace aF:=bw_ HB aF;replace aG:=bw_ HB aG;replace aI:=eq_true aI;replace aJ:=eq_true aJ;go_wp2_with (first|((with_reducible refine Xt (N:=4) rfl ?_);(try (refine gate_guard (by rfl) ?_;dsimp only));refine Ym ?hg (N:=4) ?hd (cs:=#[.int .i64 0,.int .i64 0,.int .i64 0,.int .i64 0]) (t:=31) ?hr ?_;(case hd|hg=>rfl);(case hr=>exact hr_);intro aH hg w19 hbox hb;have aB:=Xa.mk (hbox);have aQ:=Xa.mk ((ge_ hg (Xd (bl_ HB)):w.heap.size≤aH));have aP:=Xa.mk ((ge_ hg (Xd (bl_ HB)):w.heap.size≤aH));replace HB:=Xa.mk (Xe (bl_ HB) hb);clear hb hbox hg;obtain ⟨hcz20_0,hcz20_1,hcz20_2,hcz20_3⟩:=Uv aB.out;obtain ⟨hfz20_0,hfz20_1,hfz20_2,hfz20_3⟩:=Uy aB.out)|((with_reducible refine Xh (f:=26) rfl ?_);refine Ye (some 23) rfl rfl Try.func26 (by kernel_rfl) rfl #[.agg #[.int .i64 ((Xb l0 aA).f0),.int .i64 ((Xb l0 aA).f1),.int .i64 ((Xb l0 aA).f2),.int .i64 ((Xb l0 aA).f3)],.int .i64 (l0.length:Int)] rfl ga_ ?_;(with_reducible refine (impl_insOk.calls ((Xb l0 aA).f0) ((Xb l0 aA).f1) ((Xb l0 aA).f2) ((Xb l0 aA).f3) (l0.length:Int) false _ A8.out).mono ?_);rintro e w21 ⟨rfl,hb⟩;refine ⟨_,rfl,?_⟩;replace aB:=Xa.mk (Zp (g:=aH) (o:=.cells #[.int .i64 ((Xb l0 aA).f0),.int .i64 ((Xb l0 aA).f1),.int .i64 ((Xb l0 aA).f2),.int .i64 ((Xb l0 aA).f3)] 31 (0,0)) (by refine bb_ (Xv (cs:=#[.int .i64 ((Xb l0 aA).f0),.int .i64 ((Xb l0 aA).f1),.int .i64 ((Xb l0 aA).f2),.int .i64 0]) ?_ 3 _ rfl);refine bb_ (Xv (cs:=#[.int .i64 ((Xb l0 aA).f0),.int .i64 ((Xb l0 aA).f1),.int .i64 0,.int .i64 0]) ?_ 2 _ rfl);refine bb_ (Xv (cs:=#[.int .i64 ((Xb l0 aA).f0),.int .i64 0,.int .i64 0,.int .i64 0]) ?_ 1 _ rfl);refine bb_ (Xv (cs:=#[.int .i64 0,.int .i64 0,.int .i64 0,.int .i64 0]) ?_ 0 _ rfl);(with_reducible repeat (first|refine Uo ?_ _|refine Uw ?_|refine Un ?_ _));exact aB.out) hb);replace HB:=Xa.mk (Xe (bl_ HB) hb);clear hb))
          go_ret
          exact ⟨rf_,bl_ HB⟩
        ·rw [if_neg c7] at H;exact absurd H (by simp)
       ·rw [if_neg c6] at H;exact absurd H (by simp)
      ·rw [if_neg c5] at H;have bA:=decide_eq_false c5;clear c5;replace H:=Option.bind_eq_some_iff.mp H;obtain ⟨aO,aT,H⟩:=H;replace H:(some aO)=some r:=H;have bG:=Xa.mk aT;clear aT;obtain rfl:=Option.some.inj H;go_wp2_with (first|((with_reducible refine Xh (f:=27) rfl ?_);refine Ye (some 38) rfl rfl Try.func27 (by kernel_rfl) rfl #[.slice A0 l0.length c0] rfl ga_ ?_;(with_reducible refine (Xx.calls k2 _ _ l0 aO _ ?side1 ?side2 bG.out).mono ?_);(case side1=>exact Kd.ca_ (Kd.Ze aX.out HB.out));(case side2=>exact bH.out);rintro e w23 ⟨rfl,hb⟩;refine ⟨_,rfl,?_⟩;replace HB:=Xa.mk (Xe (bl_ HB) hb);clear hb))
       go_ret
       exact ⟨rf_,bl_ HB⟩
end Go.Proofs.Ytokajnfbiddpjaa.GSlim
