import Derived.Test.YtokajnfbiddpjaaCFnSlimSome21
import Derived.Test.YtokajnfbiddpjaaCFnSlimSome26
import Derived.Test.YtokajnfbiddpjaaCFnSlimSome61
set_option maxRecDepth 100000
namespace Go.Proofs.Ytokajnfbiddpjaa.GSlim
open Go.RowKit Go.Proofs.YtokajnfbiddpjaaW.PrintWords Go.Proofs.YtokajnfbiddpjaaW.PrintLast Go.Proofs.YtokajnfbiddpjaaW.PrintMore
attribute [local go_sem] Zx Zz Ul Um Zl Zm Zy Ua
set_option linter.unusedVariables false
set_option linter.unusedSimpArgs false
def Vq.f (k:Nat) (l0:List (S63)):Option ((List (S31))):=(Zg.f k l0).bind fun aC=>(if aC=true then ((Zc.f k l0 0).bind fun aA=>(if aA.length<4398046511104 then (some (aA ++ [(⟨13,0,0,0⟩:S31)])) else (none))) else (some (([]:List (S31)))))
set_option maxHeartbeats 8000000 in
theorem Vq.calls (k:Nat) (A0:Option Addr) (c0:Nat) (l0:List (S63)) (r:List (S31)) (w:World) (hr0:Kd.C k63 w A0 l0.length l0) (hc0:l0.length≤c0) (h:Vq.f k l0=some r) :
  Calls Try.prog 10 #[.slice A0 l0.length c0] w fun e w'=>∃ bA:Value,e=.returned (bA)∧Kd.R k31 31 w' w.heap.size (fun _=>True) bA r∧Below w.heap.size w w':=by
 have hu31:=Try.underlying31;have aT:=Xa.mk hr0;have aR:=Xa.mk hc0;clear hr0 hc0;have HB:=Xa.mk (Below.refl w.heap.size w);have H:((Zg.f k l0).bind fun aC=>(if aC=true then ((Zc.f k l0 0).bind fun aA=>(if aA.length<4398046511104 then (some (aA ++ [(⟨13,0,0,0⟩:S31)])) else (none))) else (some (([]:List (S31))))))=some r:=h;clear h;replace H:=Option.bind_eq_some_iff.mp H;obtain ⟨aC,aY,H⟩:=H;replace H:(if aC=true then ((Zc.f k l0 0).bind fun aA=>(if aA.length<4398046511104 then (some (aA ++ [(⟨13,0,0,0⟩:S31)])) else (none))) else (some (([]:List (S31)))))=some r:=H;have A2:=Xa.mk aY;clear aY;by_cases c3:aC=true
 ·subst c3
  replace H:((Zc.f k l0 0).bind fun aA=>(if aA.length<4398046511104 then (some (aA ++ [(⟨13,0,0,0⟩:S31)])) else (none)))=some r:=(by rw [if_pos rfl] at H;exact H);replace H:=Option.bind_eq_some_iff.mp H;obtain ⟨aA,aZ,H⟩:=H;replace H:(if aA.length<4398046511104 then (some (aA ++ [(⟨13,0,0,0⟩:S31)])) else (none))=some r:=H;have A4:=Xa.mk aZ;clear aZ;by_cases c5:aA.length<4398046511104
  ·rw [if_pos c5] at H;have aU:=Xa.mk c5;clear c5;obtain ⟨aW,aG⟩:∃ y_:List (S31),y_=(aA ++ [(⟨13,0,0,0⟩:S31)]):=⟨_,rfl⟩
   replace H:(some aW)=some r:=by subst aG;first|with_reducible exact H|(have z:=(Option.bind_some _ _).symm.trans H;with_reducible exact z)|exact H
   have aN:=Xa.mk aG;clear aG;obtain rfl:=Option.some.inj H
   go_enter Try.func10,Try.ntmps10
   go_wp2_with (first|((with_reducible refine Xh (f:=11) rfl ?_);refine Ye (some 4) rfl rfl Try.func11 (by kernel_rfl) rfl #[.slice A0 l0.length c0] rfl ga_ ?_;(with_reducible refine (Zg.calls k _ _ l0 true _ ?side1 ?side2 A2.out).mono ?_);(case side1=>exact Kd.ca_ aT.out);(case side2=>exact aR.out);rintro e w6 ⟨rfl,hb⟩;refine ⟨_,rfl,?_⟩;replace HB:=Xa.mk (Xe (bl_ HB) hb);clear hb)|((with_reducible refine Xh (f:=23) rfl ?_);refine Ye (some 8) rfl rfl Try.func23 (by kernel_rfl) rfl #[.slice A0 l0.length c0,.int .i64 0] rfl ga_ ?_;(with_reducible refine (Zc.calls k _ _ l0 0 aA _ ?side1 ?side2 A4.out).mono ?_);(case side1=>exact Kd.ca_ (Kd.Ze aT.out HB.out));(case side2=>exact aR.out);rintro e w7 ⟨aV,rfl,ho0,hb⟩;refine ⟨_,rfl,?_⟩;have aI:=Xa.mk (Kd.Yi ho0 (Xd (bl_ HB)));replace HB:=Xa.mk (Xe (bl_ HB) hb);clear hb ho0)|((with_reducible refine Yp (b:=.append) (xs:=#[.tmp 8,.tmp 10]) rfl ?_);at_builtin;refine Kd.R_append k31 (w0:=w) w.heap.size rfl (.tmp 8) (.tmp 10) 25 31 (.agg #[(.int .i64 0),(.int .i64 0),(.int .i64 0),(.int .i64 0)]) 32 rfl Try.underlying25 info31 rfl (by decide) (by omega) aV aA (⟨13,0,0,0⟩:S31) [.int .i64 13,.int .i64 0,.int .i64 0,.int .i64 0] (fun _=>True) (fun _=>False) rfl rfl ?aP (fun _ hk=>hk.elim) ?aF ?aO ?aB ?aS ?aL ?_;(case aP=>exact Vg _ _ _ (⟨13,0,0,0⟩:S31));(case aB=>exact (bl_ HB));(case aF=>exact (fun _ _=>trivial));(case aO=>exact (Kd.ra_ (aI.out)));(case aS=>exact (Xd (bl_ HB)));(case aL=>have:=aU.out;omega);intro v557 w8 ho hb hg hat;rw [← aN.out] at ho;replace HB:=Xa.mk (hb);have aK:=Xa.mk (ho);clear aI ho hb hg hat))
   go_ret
   exact ⟨_,rf_,Kd.ra_ (aK.out),bl_ HB⟩
  ·rw [if_neg c5] at H;exact absurd H (by simp)
 ·replace c3:=Bool.eq_false_iff.mpr c3;subst c3
  replace H:(some (([]:List (S31))))=some r:=(by rw [if_neg (show ¬ (false=true) by decide)] at H;exact H);obtain ⟨aX,aH⟩:∃ y_:List (S31),y_=(([]:List (S31))):=⟨_,rfl⟩
  replace H:(some aX)=some r:=by subst aH;first|with_reducible exact H|(have z:=(Option.bind_some _ _).symm.trans H;with_reducible exact z)|exact H
  have aJ:=Xa.mk aH;clear aH;obtain rfl:=Option.some.inj H
  go_enter Try.func10,Try.ntmps10
  go_wp2_with (first|((with_reducible refine Xh (f:=11) rfl ?_);refine Ye (some 4) rfl rfl Try.func11 (by kernel_rfl) rfl #[.slice A0 l0.length c0] rfl ga_ ?_;(with_reducible refine (Zg.calls k _ _ l0 false _ ?side1 ?side2 A2.out).mono ?_);(case side1=>exact Kd.ca_ aT.out);(case side2=>exact aR.out);rintro e w9 ⟨rfl,hb⟩;refine ⟨_,rfl,?_⟩;replace HB:=Xa.mk (Xe (bl_ HB) hb);clear hb)|((with_reducible refine Xt (N:=6) rfl ?_);refine Kd.Vo k31 _ 31 ?hg (N:=6) ?hd (xs:=([]:List (S31))) (inner:=[]) (ok:=fun _=>True) (okp:=fun _=>True) ?hr ?hp (fun _ hk=>hk) trivial (Below.refl _ _) (Nat.le_refl _) (by simp) ?_;(case hd|hg=>rfl);(case hr=>exact hr_);(case hp=>exact (Yj.none _ _));intro v560 w10 aD hb bB aQ;clear bB aQ;(first|rw [← aJ.out] at aD|(simp only [Int.reduceToNat] at aD;rw [← aJ.out] at aD));have aM:=Xa.mk (Kd.Yi aD (Xd (bl_ HB)));replace HB:=Xa.mk (Xe (bl_ HB) hb);clear hb aD))
  go_ret
  exact ⟨_,rf_,Kd.ra_ (aM.out),bl_ HB⟩
end Go.Proofs.Ytokajnfbiddpjaa.GSlim
