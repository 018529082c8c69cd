/- The row of the law laws.FnExactMarksOf: it returns true for every input that its statement admits. Conditions: none but the row's own. -/
import Derived.Test.YtlhogkfmdnpmkaaGreatCFnExactMarksOf112
import Derived.Test.YtlhogkfmdnpmkaaGreatCFnExactMarksOf113
import Derived.Test.YtlhogkfmdnpmkaaGreatRows
import Derived.ProofKit
import Derived.OpenShut
import Derived.ShutString
set_option linter.unusedVariables false
set_option linter.unusedSimpArgs false
set_option maxRecDepth 100000
namespace Go.Proofs.YtlhogkfmdnpmkaaGreat.Exact
open RowKit GMarks YtlhogkfmdnpmkaaGreatW.PrintWords YtlhogkfmdnpmkaaGreatW.PrintLast YtlhogkfmdnpmkaaGreatW.PrintMore
def exactF (k:Nat) (l0:List (List (S83))) (l1:List Int):Option Bool:=
 if (l1.length:Int) > 1048576 then some true else (Zg.f k l0 1048576).bind fun t=>if t<0 then some true else
  (Yy.f k l0).bind fun p=>(Zk.f k l1).bind fun q=>(spec_MarksOf.f p q).bind fun m=>(impl_MarksOf.f p q).bind fun g=>
  (Ym.f k p p).bind fun e2=>(Zy.f k q q).bind fun e3=>(laws_markStmtSS.f p 1).bind fun k1=>(Yx.f k q k1).bind fun k2=>(laws_markMarkS.f g 1).bind fun k3=>(Zh.f k k3.2 1).bind fun k4=>
  if e2=true∧e3=true∧0≤k2.1∧k4=k3.1∧0≤k4 then some true else none
theorem S_in {α:Type} {d:Kd α} {e base:Nat} {w:World} {v:Value} {xs:List α} (h:Kd.S d e w base (fun _=>True) v xs):Kd.S d e w base (fun k=>base≤k∧k<w.heap.size) v xs:=Kd.S_mono (Kd.S_bound h) (fun k hk=>⟨hk.2.1,hk.2.2.1⟩)
theorem R_in {α:Type} {d:Kd α} {e base:Nat} {w:World} {v:Value} {xs:List α} (h:d.R e w base (fun _=>True) v xs):d.R e w base (fun k=>base≤k∧k<w.heap.size) v xs:=Kd.Zc (Kd.R_bound h) (fun k hk=>⟨hk.2.1,hk.2.2.1⟩)
set_option maxHeartbeats 16000000 in
theorem exact_do (k:Nat) (A0:Option Addr) (c0:Nat) (l0:List (List (S83))) (A1:Option Addr) (c1:Nat) (l1:List Int) (r:Bool) (w:World) (hr0:Kd.C (Kd.slice 83 k83) w A0 l0.length l0) (hc0:l0.length≤c0) (hr1:Kd.C (Kd.int .i64) w A1 l1.length l1) (hc1:l1.length≤c1) (h:exactF k l0 l1=some r) :
  Calls Tryz.prog 3 #[.slice A0 l0.length c0,.slice A1 l1.length c1] w fun e w'=>e=.returned (.bool r)∧Below w.heap.size w w':=by
 have aV:=Xa.mk hc0;have bF:=Xa.mk hc1;have aW:=Lib.hid (fun (W:World) (hb:Below w.heap.size w W)=>Kd.Xy hr0 hb);have HR1:=Lib.hid (fun (W:World) (hb:Below w.heap.size w W)=>Kd.Xy hr1 hb);clear hr0 hr1 hc0 hc1;unfold exactF at h;by_cases hl:(l1.length:Int) > 1048576
 ·rw [if_pos hl] at h;obtain rfl:=sj_ h;have z1:decide ((l1.length:Int) > 1048576)=true:=dt_ hl;have z2:decide (l1.length > 1048576)=true:=dt_ om_;have z3:decide (1048576<l1.length)=true:=dt_ om_;clear h hl;go_enter Tryz.func3,Tryz.ntmps3;go_wp2;go_ret
  exact ⟨rfl,Below.refl _ _⟩
 ·rw [if_neg hl] at h;have z1:decide ((l1.length:Int) > 1048576)=false:=df_ hl;have z2:decide (l1.length > 1048576)=false:=df_ om_;have z3:decide (1048576<l1.length)=false:=df_ om_;obtain ⟨t,ht,h⟩:=bo_ h;have HT:=Xa.mk ht;clear hl ht;by_cases ht0:t<0
  ·rw [if_pos ht0] at h;obtain rfl:=sj_ h;have z4:decide (t<0)=true:=dt_ ht0;clear h ht0;go_enter Tryz.func3,Tryz.ntmps3;go_wp2_with (first|(go_at_call 8;refine (Zg.calls k A0 c0 l0 1048576 t w (aW.out w (Below.refl _ _)) aV.out HT.out).mono ?_;rintro e w1 ⟨rfl,hb1⟩));go_ret
   exact ⟨rfl,hb1⟩
  ·rw [if_neg ht0] at h;have z4:decide (t<0)=false:=df_ ht0;obtain ⟨p,h1,h⟩:=bo_ h;obtain ⟨q,h2,h⟩:=bo_ h;obtain ⟨m,h3,h⟩:=bo_ h;obtain ⟨g,h4,h⟩:=bo_ h;obtain ⟨rfl,hm2,bZ⟩:=Pure.marks_both h3 h4;obtain ⟨e2,h6,h⟩:=bo_ h;obtain ⟨e3,h7,h⟩:=bo_ h;obtain ⟨k1,h8,h⟩:=bo_ h;obtain ⟨⟨k2,q2⟩,h9,h⟩:=bo_ h;obtain ⟨⟨k3,g3⟩,h10,h⟩:=bo_ h;obtain ⟨k4,h11,h⟩:=bo_ h;by_cases hc:e2=true∧e3=true∧0≤k2∧k4=k3∧0≤k4
   ·rw [if_pos hc] at h;obtain rfl:=sj_ h;obtain ⟨rfl,rfl,hk2,rfl,hk4⟩:=hc;have z5:decide (k2<0)=false:=df_ om_;have z6:decide (k4<0)=false:=df_ om_;simp only [] at h11;have H1:=Xa.mk h1;have H2:=Xa.mk h2;have H3:=Xa.mk h3;have H4:=Xa.mk h4;have H5:=Lib.hid (fun A c A' c' W hA hA'=>eqMarkS_do m A A' c c' W hA hA' hm2 bZ);have H6:=Xa.mk h6;have H7:=Xa.mk h7;have H8:=Xa.mk h8;have H9:=Xa.mk h9;have dA:=Xa.mk h10;have dB:=Xa.mk h11;clear h h1 h2 h3 h4 hm2 bZ h6 h7 h8 h9 h10 h11 hk2 hk4 ht0;go_enter Tryz.func3,Tryz.ntmps3;go_upto_region 7 with (first|(go_at_call 8;refine (Zg.calls k A0 c0 l0 1048576 t w (aW.out w (Below.refl _ _)) aV.out HT.out).mono ?_;rintro e w1 ⟨rfl,hb1⟩))
    go_upto_region 8 with (first
     |(go_at_call 10;refine (Yy.calls k A0 c0 l0 p w1 (aW.out w1 hb1) aV.out H1.out).mono ?_;rintro e wa ⟨va,rfl,hra,hba⟩;obtain ⟨Aa,ca,eva⟩:=Kd.Zq hra;subst eva;have aJ:=hb1.trans (hba.mono hb1.size))
     |(go_at_call 11;refine (Zk.calls k A1 c1 l1 q wa (HR1.out wa aJ) bF.out H2.out).mono ?_;rintro e wb ⟨vb,rfl,hrb,hbb⟩;obtain ⟨Ab,cb,evb⟩:=Kd.Zq hrb;subst evb;have aK:=aJ.trans (hbb.mono aJ.size))
     |(go_at_call 9;refine (spec_MarksOf.calls Aa ca p Ab cb q m wb (Kd.R_reads' (Kd.R_below hra hbb)).2.2 (Kd.R_reads' (Kd.R_below hra hbb)).2.1 (Kd.R_reads' hrb).2.2 (Kd.R_reads' hrb).2.1 H3.out).mono ?_;rintro e w2 ⟨v2,rfl,hs2,hb2⟩;obtain ⟨A2,c2,dC⟩:=Kd.S_slice hs2;subst dC;have bA:=aK.trans (hb2.mono aK.size)))
    have bJ:=Xa.mk (S_in hs2);have HB2:=Xa.mk bA;obtain ⟨n1,hn1⟩:∃ n1,n1=wb.heap.size:=⟨_,rfl⟩;rw [← hn1] at bJ;have bK:Xa (w.heap.size≤n1∧n1≤w2.heap.size):=⟨by rw [hn1];exact ⟨aK.size,hb2.size⟩⟩;clear hra hrb hba hbb aJ aK hs2 hb2 bA hb1 hn1;go_upto_region 9 with (first|(go_at_call 10;refine (Yy.calls k A0 c0 l0 p w2 (aW.out w2 HB2.out) aV.out H1.out).mono ?_;rintro e w3 ⟨v3,rfl,hr3,hb3⟩;obtain ⟨A3,c3,dD⟩:=Kd.Zq hr3;subst dD));go_upto_region 10 with (first|(go_at_call 11;refine (Zk.calls k A1 c1 l1 q w3 (HR1.out w3 (HB2.out.trans (hb3.mono HB2.out.size))) bF.out H2.out).mono ?_;rintro e w4 ⟨v4,rfl,hr4,hb4⟩;obtain ⟨A4,c4,dE⟩:=Kd.Zq hr4;subst dE));go_upto_region 11 with (first|(go_at_call 12;refine (impl_MarksOf.calls A3 c3 p A4 c4 q m w4 (Kd.R_reads' (Kd.R_below hr3 hb4)).2.2 (Kd.R_reads' (Kd.R_below hr3 hb4)).2.1 (Kd.R_reads' hr4).2.2 (Kd.R_reads' hr4).2.1 H4.out).mono ?_;rintro e w5 ⟨v5,rfl,hs5,hb5⟩;obtain ⟨A5,c5,dF⟩:=Kd.S_slice hs5;subst dF));have aR:=hb4.trans (hb5.mono hb4.size);have aQ:=hb3.trans (aR.mono hb3.size);have HM:=Xa.mk (Kd.S_below bJ.out aQ);have HX:=Xa.mk (Kd.R_lower (Kd.R_below (R_in hr3) aR) HB2.out.size);have HI:=Xa.mk (Kd.R_lower (Kd.R_below (R_in hr4) hb5) (nt_ HB2.out.size hb3.size));have HG:=Xa.mk (Kd.S_lower (S_in hs5) (nt_ HB2.out.size (nt_ hb3.size hb4.size)));have bI:=Xa.mk (HB2.out.trans (aQ.mono HB2.out.size));have HS:Xa (w.heap.size≤n1∧n1≤w2.heap.size∧w2.heap.size≤w3.heap.size∧w3.heap.size≤w4.heap.size∧w4.heap.size≤w5.heap.size):=⟨⟨bK.out.1,bK.out.2,hb3.size,hb4.size,hb5.size⟩⟩;clear hr3 hr4 hs5 hb3 hb4 hb5 aR aQ bJ HB2 bK;generalize w2.heap.size=n2 at *;generalize w3.heap.size=n3 at *;generalize w4.heap.size=n4 at *;have rM:=Lib.hid (fun (W:World) (hb:Below w5.heap.size w5 W)=>Kd.S_reads' (Kd.S_below HM.out hb));have rG:=Lib.hid (fun (W:World) (hb:Below w5.heap.size w5 W)=>Kd.S_reads' (Kd.S_below HG.out hb));have rX:=Lib.hid (fun (W:World) (hb:Below w5.heap.size w5 W)=>Kd.R_reads' (Kd.R_below HX.out hb));have rI:=Lib.hid (fun (W:World) (hb:Below w5.heap.size w5 W)=>Kd.R_reads' (Kd.R_below HI.out hb));have rB:=Lib.hid (fun (W:World) (hb:Below w5.heap.size w5 W)=>bI.out.trans (hb.mono bI.out.size));go_upto_region 13 with (first|(go_at_call 13;refine (H5.out A5 c5 A2 c2 w5 (rG.out _ (Below.refl _ _)).2.2 (rM.out _ (Below.refl _ _)).2.2).mono ?_;rintro e w6 ⟨rfl,hb6⟩))
    go_upto_region 15 with (first
     |(go_at_call 10;refine (Yy.calls k A0 c0 l0 p w6 (aW.out w6 (rB.out _ hb6)) aV.out H1.out).mono ?_;rintro e w7 ⟨v7,rfl,bG,bW⟩;obtain ⟨A7,c7,dG⟩:=Kd.Zq bG;subst dG;have aF:=hb6.trans (bW.mono hb6.size))
     |(go_at_call 14;refine (Ym.calls k A3 c3 p A7 c7 p true w7 (rX.out _ aF).2.2 (rX.out _ aF).2.1 (Kd.R_reads' bG).2.2 (Kd.R_reads' bG).2.1 H6.out).mono ?_;rintro e w8 ⟨rfl,bX⟩;have aI:=aF.trans (bX.mono aF.size)))
    go_upto_region 17 with (first
     |(go_at_call 11;refine (Zk.calls k A1 c1 l1 q w8 (HR1.out w8 (rB.out _ aI)) bF.out H2.out).mono ?_;rintro e w9 ⟨v9,rfl,bH,bY⟩;obtain ⟨A9,c9,dH⟩:=Kd.Zq bH;subst dH;have aG:=aI.trans (bY.mono aI.size))
     |(go_at_call 15;refine (Zy.calls k A4 c4 q A9 c9 q true w9 (rI.out _ aG).2.2 (rI.out _ aG).2.1 (Kd.R_reads' bH).2.2 (Kd.R_reads' bH).2.1 H7.out).mono ?_;rintro e dK ⟨rfl,bB⟩;have aA:=aG.trans ((bB.below).mono aG.size)))
    have HM:=Xa.mk (Kd.S_below HM.out aA);have HX:=Xa.mk (Kd.R_below HX.out aA);have HI:=Xa.mk (Kd.R_below HI.out aA);have HG:=Xa.mk (Kd.S_below HG.out aA);have HBt:=Xa.mk (rB.out _ aA);clear hb6 bW aF bX aI bY aG bB aA bG bH rM rG rX rI rB bI;generalize w5.heap.size=n5 at *;go_upto_region 19 with (first|(go_at_call 16;refine (laws_markStmtSS.calls (fun k=>n2≤k∧k<n3) _ p 1 k1 w dK HBt.out HX.out H8.out).mono ?_;rintro e dL ⟨rfl,aX,aL⟩));have HM:=Xa.mk (Kd.S_step HM.out (fun k hk hlt=>aL.2 k hlt (fun x=>by have:=HS.out;omega)));have HI:=Xa.mk (Kd.R_step HI.out (fun k hk hlt=>aL.2 k hlt (fun x=>by have:=HS.out;omega)));have HG:=Xa.mk (Kd.S_step HG.out (fun k hk hlt=>aL.2 k hlt (fun x=>by have:=HS.out;omega)));have HBu:=Xa.mk aX;clear aX aL HX HBt;go_upto_region 20 with (first|(go_at_call 17;refine (Yx.calls k (fun k=>n3≤k∧k<n4) _ q k1 k2 q2 w dL HBu.out HI.out H9.out).mono ?_;rintro e dM ⟨rfl,_,aY,aS⟩));have HM:=Xa.mk (Kd.S_step HM.out (fun k hk hlt=>aS.2 k hlt (fun x=>by have:=HS.out;omega)));have HG:=Xa.mk (Kd.S_step HG.out (fun k hk hlt=>aS.2 k hlt (fun x=>by have:=HS.out;omega)));have HBv:=Xa.mk aY;clear aY aS HI HBu;go_upto_region 23 with (first|(go_at_call 13;refine (H5.out A5 c5 A2 c2 dM (Kd.S_reads' HG.out).2.2 (Kd.S_reads' HM.out).2.2).mono ?_;rintro e dN ⟨rfl,aH⟩));have HM:=Xa.mk (Kd.S_below HM.out aH);have HG:=Xa.mk (Kd.S_below HG.out aH);have HBx:=Xa.mk (HBv.out.trans (aH.mono HBv.out.size));clear aH HBv;go_upto_region 24 with (first|(go_at_call 18;refine (laws_markMarkS.calls (fun k=>n4≤k∧k<n5) _ m 1 k4 g3 w dN HBx.out HG.out dA.out).mono ?_;rintro e aM ⟨rfl,bD,aZ,bC⟩));have HM:=Xa.mk (Kd.S_step HM.out (fun k hk hlt=>bC.2 k hlt (fun x=>by have:=HS.out;omega)));have HG:=Xa.mk bD;have HBy:=Xa.mk aZ;clear bD aZ bC HBx;have rM:=Lib.hid (fun (W:World) (hb:Below aM.heap.size aM W)=>Kd.S_reads' (Kd.S_below HM.out hb));have rG:=Lib.hid (fun (W:World) (hb:Below aM.heap.size aM W)=>Kd.S_reads' (Kd.S_below HG.out hb));have rB:=Lib.hid (fun (W:World) (hb:Below aM.heap.size aM W)=>HBy.out.trans (hb.mono HBy.out.size))
    have HH:Xa (∀ W,Below aM.heap.size aM W→Calls Tryz.prog 19 #[.slice A5 m.length c5,.int .i64 1] W fun e W'=>e=.returned (.int .i64 k4)∧Xz W W'):=⟨fun W hb=>by
     obtain ⟨e,hc,hC⟩:=rG.out W hb;rw [e] at hc ⊢;exact Zh.calls k A5 c5 g3 1 k4 W hC hc dB.out⟩
    clear rG;go_upto_region 26 with (first|(go_at_call 19;refine (HH.out aM (Below.refl _ _)).mono ?_;rintro e cB ⟨rfl,bT⟩;have aO:=bT.below))
    go_upto_region 31 with (first
     |(go_at_call 10;refine (Yy.calls k A0 c0 l0 p cB (aW.out cB (rB.out _ aO)) aV.out H1.out).mono ?_;rintro e w16 ⟨v16,rfl,aT,bP⟩;obtain ⟨cK,c16,bM⟩:=Kd.Zq aT;subst bM;have aB:=aO.trans (bP.mono aO.size))
     |(go_at_call 11;refine (Zk.calls k A1 c1 l1 q w16 (HR1.out w16 (rB.out _ aB)) bF.out H2.out).mono ?_;rintro e dO ⟨v17,rfl,aU,aP⟩;obtain ⟨cO,c17,bN⟩:=Kd.Zq aU;subst bN;have aN:=aB.trans (aP.mono aB.size))
     |(go_at_call 12;refine (impl_MarksOf.calls cK c16 p cO c17 q m dO (Kd.R_reads' (Kd.R_below aT aP)).2.2 (Kd.R_reads' (Kd.R_below aT aP)).2.1 (Kd.R_reads' aU).2.2 (Kd.R_reads' aU).2.1 H4.out).mono ?_;rintro e dP ⟨v18,rfl,bE,bQ⟩;obtain ⟨cZ,c18,bO⟩:=Kd.S_slice bE;subst bO;have aC:=aN.trans (bQ.mono aN.size)))
    go_upto_region 33 with (first|(go_at_call 13;refine (H5.out cZ c18 A2 c2 dP (Kd.S_reads' bE).2.2 (rM.out _ aC).2.2).mono ?_;rintro e dQ ⟨rfl,bR⟩;have aD:=aC.trans (bR.mono aC.size)));go_wp2_with (first|(go_at_call 19;refine (HH.out dQ aD).mono ?_;rintro e w20 ⟨rfl,bU⟩;have bS:=aD.trans ((bU.below).mono aD.size)));go_ret
    exact ⟨rfl,rB.out _ bS⟩
   ·rw [if_neg hc] at h;cases h
end Go.Proofs.YtlhogkfmdnpmkaaGreat.Exact
namespace Go.Proofs.YtlhogkfmdnpmkaaGreat.GMarks
open RowKit YtlhogkfmdnpmkaaGreatW.PrintWords YtlhogkfmdnpmkaaGreatW.PrintLast YtlhogkfmdnpmkaaGreatW.PrintMore
attribute [local go_sem] Ua Ud Uu Ux Zo Zp Ub Ue
def laws_FnExactMarksOf.f (k:Nat) (l0:List (List (S83))) (l1:List Int):Option Bool:=Exact.exactF k l0 l1
theorem laws_FnExactMarksOf.calls (k:Nat) (A0:Option Addr) (c0:Nat) (l0:List (List (S83))) (A1:Option Addr) (c1:Nat) (l1:List Int) (r:Bool) (w:World) (hr0:Kd.C (Kd.slice 83 k83) w A0 l0.length l0) (hc0:l0.length≤c0) (hr1:Kd.C (Kd.int .i64) w A1 l1.length l1) (hc1:l1.length≤c1) (h:laws_FnExactMarksOf.f k l0 l1=some r) :
  Calls Tryz.prog 3 #[.slice A0 l0.length c0,.slice A1 l1.length c1] w fun e w'=>e=.returned (.bool r)∧Below w.heap.size w w':=Exact.exact_do k A0 c0 l0 A1 c1 l1 r w hr0 hc0 hr1 hc1 h
end Go.Proofs.YtlhogkfmdnpmkaaGreat.GMarks
namespace Go.Proofs.YtlhogkfmdnpmkaaGreat.KindsMarks
open RowKit ChangeShapes WideShapes YtlhogkfmdnpmkaaGreatW.PrintWords YtlhogkfmdnpmkaaGreatW.PrintLast YtlhogkfmdnpmkaaGreatW.PrintMore YtlhogkfmdnpmkaaGreat.Open GMarks YtlhogkfmdnpmkaaGreat.Pure
section
variable {H:Type} {enc:TypeId × Value→H} {w:World} {base:Nat} {spare:Nat→Bool} {held:Bool}
theorem opens3:Opens enc Tryz.prog w base spare held (Kd.int .i64) Num 3:=opens_int Tryz.underlying3 kr_
theorem opens51:Opens enc Tryz.prog w base spare held (Kd.slice 83 k83) (fun zs=>zs.length≤9223372036854775807∧∀ z ∈ zs,StmtN z) 51:=opens_slice Tryz.underlying51 kr_ opens_stmt
end
end Go.Proofs.YtlhogkfmdnpmkaaGreat.KindsMarks
namespace Go.Proofs.YtlhogkfmdnpmkaaGreat.Pure
open RowKit GMarks YtlhogkfmdnpmkaaGreatW.PrintWords YtlhogkfmdnpmkaaGreatW.PrintLast YtlhogkfmdnpmkaaGreatW.PrintMore Evt YtlhogkfmdnpmkaaGreat.Open
theorem cntD_cons (e:Nat) (x:Stmt) (r:List Stmt):cntD (e+1) (x :: r)=1+cntD e x.f4+cntD e x.f5+cntD (e+1) r:=by
 simp only [cntD,inner,List.length_cons];omega
theorem cnt_is:∀ (d:Nat) (l:List Stmt),Xo.cnt d l=cntD d l
 |0,l=>rfl
 |d+1,l=>by
  induction l with
  |nil=>rfl
  |cons x r ih=>
   rw [cntD_cons,← ih,← cnt_is d x.f4,← cnt_is d x.f5];simp only [Xo.cnt,List.map_cons,List.sum_cons]
theorem tot_cnt:∀ (n:Nat) (l:List Stmt),SizeOf.sizeOf l≤n→∃ d,∀ e,d≤e→Mark.tot l≤cntD e l
 |0,l,hs=>by cases l <;> simp at hs
 |n+1,[],hs=>⟨0,fun e _=>by simp [Mark.tot]⟩
 |n+1,x :: r,hs=>by
  have hx:SizeOf.sizeOf x.f4<SizeOf.sizeOf x∧SizeOf.sizeOf x.f5<SizeOf.sizeOf x:=by
   cases x
   simp only [S87.mk.sizeOf_spec];omega
  have hc:SizeOf.sizeOf (x :: r)=1+SizeOf.sizeOf x+SizeOf.sizeOf r:=sm_
  obtain ⟨d4,h4⟩:=tot_cnt n x.f4 om_;obtain ⟨d5,h5⟩:=tot_cnt n x.f5 om_;obtain ⟨dr,hr⟩:=tot_cnt n r om_;refine ⟨d4+d5+dr+1,fun e he=>?_⟩;obtain ⟨e',rfl⟩:∃ e',e=e'+1:=⟨e - 1,om_⟩;have a:=h4 e' om_;have b:=h5 e' om_;have c:=hr (e'+1) om_;rw [cntD_cons];have ht:=Mark.totT_is x;simp only [Mark.tot];omega
theorem totS_cnt:∀ (m:List (List Stmt)),∃ d,∀ e,d≤e→Mark.totS m≤cntSS e m
 |[]=>⟨0,fun e _=>by simp [Mark.totS]⟩
 |x :: r=>by
  obtain ⟨d,h⟩:=tot_cnt _ x (nr_ _);obtain ⟨dr,hr⟩:=totS_cnt r;refine ⟨d+dr,fun e he=>?_⟩;have a:=h e om_;have b:=hr e om_
  have e1:Mark.totS (x :: r)=Mark.tot x+Mark.totS r:=by simp [Mark.totS]
  rw [e1];simp only [cntSS];omega
theorem cntSS_mem (d:Nat):∀ (m:List (List Stmt)),∀ x ∈ m,cntD d x≤cntSS d m
 |y :: r,x,h=>by
  simp only [cntSS]
  rcases List.mem_cons.1 h with rfl|h
  ·omega
  ·have:=cntSS_mem d r x h;omega
theorem inner_mem (c:List Stmt→Nat):∀ (l:List Stmt),∀ s ∈ l,c s.f4+c s.f5≤inner c l
 |y :: r,s,h=>by
  simp only [inner]
  rcases List.mem_cons.1 h with rfl|h
  ·omega
  ·have:=inner_mem c r s h;omega
theorem shortB_of:∀ (d:Nat) (l:List Stmt),cntD (d+1) l≤1048576→Mean.shortB d l=true
 |0,l,h=>by
  simp only [cntD] at h;unfold Mean.shortB;exact dt_ om_
 |d+1,l,h=>by
  have h':l.length+inner (cntD (d+1)) l≤1048576:=h;unfold Mean.shortB;rw [Bool.and_eq_true,List.all_eq_true];refine ⟨dt_ om_,fun s hs=>?_⟩
  have:=inner_mem (cntD (d+1)) l s hs
  rw [Bool.and_eq_true];exact ⟨shortB_of d s.f4 om_,shortB_of d s.f5 om_⟩
theorem tame_is {m:List (List Stmt)} (hl:m.length≤1048576) (h:∀ d,cntSS d m≤1048576):Mean.tameB m=true:=by
 unfold Mean.tameB;rw [Bool.and_eq_true,List.all_eq_true];refine ⟨fun x hx=>?_,dt_ hl⟩;rw [Bool.and_eq_true];refine ⟨shortB_of 3 x (nt_ (cntSS_mem 4 m x hx) (h 4)),decide_eq_true ?_⟩;rw [cnt_is]
 have:=cntSS_mem 3 m x hx
 have:=h 3
 omega
def marks (a:Int) (n:Nat):List Int:=(List.range n).map (fun i:Nat=>a+(i:Int))
theorem marks_succ (a:Int) (n:Nat):marks a (n+1)=marks a n ++ [a+(n:Int)]:=by simp [marks,List.range_succ]
theorem marks_len (a:Int) (n:Nat):(marks a n).length=n:=by simp [marks]
theorem markI_loop (a:Int) (ha:0≤a) (ha2:a≤1000000000) (n:Nat) (hn:n≤1048576):∀ (B:List Int) (i:Nat),i+B.length=n→Evt (fun k=>Yx.l0 k (marks a i ++ B) (a+(i:Int)) (i:Int)) (a+(n:Int),marks a n)
 |[],i,h=>by
  refine Evt.step ?_;simp only [Yx.l0]
  have e:i=n:=by simpa using h
  subst e;refine Evt.neg (by simp [marks_len]) ((Evt.pure _).congr (fun _=>?_));rw [List.append_nil]
 |b :: B,i,h=>by
  have h':i+B.length+1=n:=by simp at h;omega
  refine Evt.step ?_;simp only [Yx.l0];refine Evt.pos (by simp [marks_len];omega) (Evt.pos om_ ?_);have ih:=markI_loop a ha ha2 n hn B (i+1) om_
  have e1:wrap64 (a+(i:Int)+1)=a+((i+1:Nat):Int):=by unfold wrap64;omega
  have e2:wrap64 ((i:Int)+1)=((i+1:Nat):Int):=by unfold wrap64;omega
  have e3:(marks a i ++ b :: B).set ((i:Int)).toNat (a+(i:Int))=marks a (i+1) ++ B:=by
   have:=set_app (marks a i) b (a+(i:Int)) B
   rw [marks_len] at this;rw [Int.toNat_natCast,this,marks_succ,List.append_assoc];rfl
  rw [e1,e2,e3];exact ih
theorem markI_ev (l:List Int) (hl:l.length≤1048576) (a:Int) (ha:0≤a) (ha2:a≤1000000000):Evt (fun k=>Yx.f k l a) (a+(l.length:Int),marks a l.length):=by
 have:=markI_loop a ha ha2 l.length hl l 0 om_
 unfold Yx.f;simpa [marks] using this
theorem heldI_loop (a:Int) (ha:0≤a) (ha2:a≤1000000000) (n:Nat) (hn:n≤1048576):∀ (m i:Nat),i+m=n→Evt (fun k=>Zj.l0 k (marks a n) (a+(i:Int)) (i:Int)) (a+(n:Int))
 |0,i,h=>by
  have e:i=n:=om_
  subst e;refine Evt.step ?_;simp only [Zj.l0];exact Evt.neg (by simp [marks_len]) (Evt.pure _)
 |m+1,i,h=>by
  have hi:i<n:=om_
  refine Evt.step ?_;simp only [Zj.l0]
  have er:rd (marks a n) (i:Int)=a+(i:Int):=by unfold rd;simp [marks,List.getD_eq_getElem?_getD,hi]
  have e1:wrap64 (a+(i:Int)+1)=a+((i+1:Nat):Int):=by unfold wrap64;omega
  have e2:wrap64 ((i:Int)+1)=((i+1:Nat):Int):=by unfold wrap64;omega
  refine Evt.pos (by simp [marks_len];omega) (Evt.pos om_ (Evt.pos er ?_));rw [e1,e2];exact heldI_loop a ha ha2 n hn m (i+1) om_
theorem heldI_ev (a:Int) (ha:0≤a) (ha2:a≤1000000000) (n:Nat) (hn:n≤1048576):Evt (fun k=>Zj.f k (marks a n) a) (a+(n:Int)):=by
 have:=heldI_loop a ha ha2 n hn n 0 om_
 unfold Zj.f;simpa using this
local instance:Mean.Prot:=⟨fun _=>none⟩
abbrev Mk:=S45
theorem rdM {l:List Mk} {i:Nat} (h:i<l.length):Zm l (i:Int)=l[i]:=by unfold Zm;simp [List.getD_eq_getElem?_getD,h]
theorem kAt0 (ms:List Mk):Mean.kAt ms 1 0=1:=by simp [Mean.kAt]
theorem markAll_len (ms:List Mk) (a:Int):(Mean.markAll ms a).length=ms.length:=List.length_mapIdx
theorem markAll_at (ms:List Mk) (a:Int) {i:Nat} (hi:i<ms.length) (h:i<(Mean.markAll ms a).length):(Mean.markAll ms a)[i]=Mean.mkd ms[i] (Mean.kAt ms a i):=by simp [Mean.markAll,List.getElem_mapIdx]
attribute [local irreducible] Mean.kAt Mean.markAll
theorem heldM_loop (ms:List Mk) (hl:ms.length≤1000) (hc:∀ x ∈ ms,x.f4.length≤3):∀ n i:Nat,i+n=ms.length→Evt (fun k=>Zh.l0 k (Mean.markAll ms 1) (Mean.kAt ms 1 i) (i:Int)) (Mean.kAt ms 1 ms.length)
 |0,i,h=>by
  obtain rfl:i=ms.length:=om_
  refine Evt.step ?_;simp only [Zh.l0];exact Evt.neg (by rw [markAll_len];omega) (Evt.pure _)
 |n+1,i,h=>by
  refine Evt.step ?_;simp only [Zh.l0];have hml:=markAll_len ms 1
  have hi:i<ms.length:=om_
  have hr:Zm (Mean.markAll ms 1) (i:Int)=Mean.mkd ms[i] (Mean.kAt ms 1 i):=by rw [rdM om_];exact markAll_at ms 1 hi _
  have hb:=Mean.kAt_le 1 hc i om_;have h3:=hc ms[i] (List.getElem_mem _);have hs:=Mean.kAt_succ (a:=1) hi;have ih:=heldM_loop ms hl hc n (i+1) om_;rw [hs] at ih;have hh:=heldI_ev (Mean.kAt ms 1 i+4) om_ om_ ms[i].f4.length om_;generalize Mean.kAt ms 1 i=x at *
  have p1:(i:Int)<((Mean.markAll ms 1).length:Int):=by rw [hml];omega
  have p2:(0:Int)≤(i:Int):=om_
  have p3:¬ (x+4+(ms[i].f4.length:Int)<0):=om_
  have hm:Int.tmod (x+2) 3=(x+2) % 3:=Int.tmod_eq_emod_of_nonneg om_
  have w1:wrap64 (x+1)=x+1:=by unfold wrap64;omega
  have w2:wrap64 (x+1+1)=x+2:=by unfold wrap64;omega
  have w3:wrap64 (x+2+1)=x+3:=by unfold wrap64;omega
  have w4:wrap64 (x+3+1)=x+4:=by unfold wrap64;omega
  have wi:wrap64 ((i:Int)+1)=((i+1:Nat):Int):=by unfold wrap64;omega
  have e2:(decide ((x+2) % 3=0) != ((x+2) % 3 == 0))=false:=by by_cases h:(x+2) % 3=0 <;> simp [h]
  simp only [hr,w1,w2,w3,w4,wi,hm,p1,p2,Mean.mkd,e2,if_true,Bool.false_eq_true,if_false];exact Evt.bind hh (Evt.neg p3 ih)
theorem heldM_ev (ms:List Mk) (hl:ms.length≤1000) (hc:∀ x ∈ ms,x.f4.length≤3):Evt (fun k=>Zh.f k (Mean.markAll ms 1) 1) (Mean.kAt ms 1 ms.length):=by
 have:=heldM_loop ms hl hc ms.length 0 om_
 unfold Zh.f;rw [kAt0] at this;exact this
theorem FnExactMarksOf (l0:List (List LStmt)) (l1:List Int) (each:∀ x ∈ l0,x.length≤9223372036854775807∧∀ z ∈ x,StmtN z) (h0:l0.length≤9223372036854775807) (_:∀ n ∈ l1,Num n) (_:l1.length≤9223372036854775807):∃ k,laws_FnExactMarksOf.f k l0 l1=some true:=by
 suffices h:Evt (fun k=>laws_FnExactMarksOf.f k l0 l1) true from h.get
 unfold laws_FnExactMarksOf.f Exact.exactF;by_cases h1:(l1.length:Int) > 1048576
 ·exact Evt.pos h1 (Evt.pure _)
 refine Evt.neg h1 ?_
 have hl1:l1.length≤1048576:=om_
 obtain ⟨r,hr,ha,hz,hm⟩:=szSS_of l0 h0 (fun x hx=>stmtS_told _ x (nr_ _) (each x hx).2 (each x hx).1) 1048576 om_ om_;refine Evt.bind hr ?_;by_cases hn:r<0
 ·exact Evt.pos hn (Evt.pure _)
 refine Evt.neg hn ?_;obtain ⟨hl,m,h2,hc⟩:=hm om_;have hml:=h2.len;have hto:=toSS_ev l0 hl m h2;have hti:=toIntS_ev l1 hl1;have htm:Mean.tameB m=true:=tame_is om_ (fun d=>by have:=hc d;omega);have hsp:spec_MarksOf.f m l1=some (Mean.marks m l1):=if_pos htm;have him:impl_MarksOf.f m l1=some (Mean.marks m l1):=if_pos (List.all_eq_true.2 (fun x hx=>dt_ ((Mean.tame_of htm).2.2 x hx)));have hwl:=Mean.marks_len m l1;have hc3:=marks_three m l1 htm;have hel:=eqIntS_ev l1 hl1;have hes:=eqSS_ev m om_ (fun x hx=>by obtain ⟨_,_,h⟩:=h2.right x hx;exact h.eq);obtain ⟨d,hd⟩:=totS_cnt m
 have ht:Mark.totS m≤1048576:=by have:=hd d (nr_ _);have:=hc d;omega
 have hmk:laws_markStmtSS.f m 1=some (1+4 * (Mark.totS m:Int)):=if_pos ⟨om_,om_,om_⟩;have hmi:=markI_ev l1 hl1 (1+4 * (Mark.totS m:Int)) om_ om_;have hmm:laws_markMarkS.f (Mean.marks m l1) 1=some (Mean.kAt (Mean.marks m l1) 1 (Mean.marks m l1).length,Mean.markAll (Mean.marks m l1) 1):=if_pos ⟨om_,om_,om_,List.all_eq_true.2 (fun x hx=>dt_ (hc3 x hx))⟩;have hhm:=heldM_ev (Mean.marks m l1) om_ hc3;have hk0:=Mean.kAt_le 1 hc3 (Mean.marks m l1).length (nr_ _);exact Evt.bind hto (Evt.bind hti (Evt.bind (Evt.of_eq (fun _=>hsp)) (Evt.bind (Evt.of_eq (fun _=>him)) (Evt.bind hes (Evt.bind hel (Evt.bind (Evt.of_eq (fun _=>hmk)) (Evt.bind hmi (Evt.bind (Evt.of_eq (fun _=>hmm)) (Evt.bind hhm (Evt.pos ⟨rfl,rfl,by show (0:Int)≤1+_+_;omega,rfl,om_⟩ (Evt.pure _)))))))))))
end Go.Proofs.YtlhogkfmdnpmkaaGreat.Pure
namespace Go.Proofs.YtlhogkfmdnpmkaaGreat.fnExactMarksOf
open ChangeShapes WideShapes ChangeAt RowKit
open YtlhogkfmdnpmkaaGreat.Open KindsMarks YtlhogkfmdnpmkaaGreatW.PrintWords
theorem own:ownKnob Tryz.prog.godebug=none:=kr_
theorem laidOut:laidOutB Tryz.prog=true:=kr_
theorem lifted (os:Os) (started:os.Started) (H:Type) (enc:TypeId × Value→H) :
  ReturnsInHanded {} Tryz.checked os 3 .any (Rows.fnExactMarksOfSpec.pre6 enc Tryz.prog Tryz.f3 Rows.fnExactMarksOfRow.domain false) (Rows.fnExactMarksOfSpec.post enc Tryz.prog Tryz.f3 false true false false):=by
 refine returnsInHanded_of_change_sized (C:=Tryz.checked) own started kr_ Tryz.func3
  (ChangeSpec.witness6 (enc:=enc) (C:=Tryz.checked) false ⟨#[],#[.slice none 0 0,.slice none 0 0],[]⟩ 8 kr_ kr_ kr_ kr_) ?_
 intro W base args ds gs before hval0 hW hcnd hsz0 _;have hval:∀ (j:Nat) t v,Tryz.f3.params[j]?=some t→args[j]?=some v→Value.okWide Tryz.prog W .any base t v:=hval0;have hW':=hW;obtain ⟨p,q,bV,hV,rfl,hfz,hnd⟩:=hW;have hA:DataW.TrodAll enc Tryz.prog W 0 (fun _=>true) true Tryz.f3.params.toList args.toList ds p:=bV;rw [Tryz.params3] at hA hval;obtain ⟨v0,vs0,d0,ds0,p0,q0,hargs,rfl,rfl,h0,r0⟩:=trodAll_cons hA;obtain ⟨v1,vs1,d1,ds1,p1,q1,rfl,rfl,rfl,h1,r1⟩:=trodAll_cons r0;obtain ⟨rfl,rfl,rfl⟩:=trodAll_nil r1
 obtain rfl:args=#[v0,v1]:=by cases args;simp_all
 obtain ⟨rfl,rfl⟩:=trodVars_none hV;obtain ⟨a0,len0,cap0,rfl⟩:=okWide_slice Tryz.underlying22 (hval 0 22 v0 rfl rfl);have k0:=h0
 have dI:∀ x ∈ p0,x.block<W.heap.size:=by obtain ⟨m,hm⟩:=k0;exact DataW.trod_lt m _ _ _ hm
 obtain ⟨z0,rfl,c0,m0,C0,w0⟩:=slice_arg Tryz.underlying22 (opens51 (enc:=enc)) h0;obtain ⟨a1,len1,bL,rfl⟩:=okWide_slice Tryz.underlying23 (hval 1 23 v1 rfl rfl);have k1:=h1
 have dJ:∀ x ∈ p1,x.block<W.heap.size:=by obtain ⟨m,hm⟩:=k1;exact DataW.trod_lt m _ _ _ hm
 obtain ⟨z1,rfl,c1,m1,C1,w1⟩:=slice_arg Tryz.underlying23 (opens3 (enc:=enc)) h1;clear bV hval0 hsz0;obtain ⟨k,hk⟩:=Pure.FnExactMarksOf z0 z1 w0 (by unfold maxLen at m0;omega) w1 (by unfold maxLen at m1;omega);refine (GMarks.laws_FnExactMarksOf.calls k a0 cap0 z0 a1 bL z1 true W C0 c0 C1 c1 hk).mono fun e W' ⟨he,bel⟩=>?_;subst he;exact ⟨_,rfl,_,_,_,[],_,[],hW',trodAll_mk1 (shut_bool Tryz.underlying4 _),(trodAll_cons_mk (Below.trod laidOut kr_ (od_ kr_) k0 bel dI) (trodAll_cons_mk (Below.trod laidOut kr_ (od_ kr_) k1 bel dJ) trodAll_mk0)),rfl,bel.frame _,fun h=>by cases h⟩
theorem over:Rows.fnExactMarksOfRow.holds Tryz.pinned (OpenSpec.ofChange Rows.fnExactMarksOfSpec):=
 OpenClaim.holds_of_wide 3 Tryz.f3 rfl rfl rfl rfl rfl rfl rfl ⟨rfl,rfl,rfl,rfl,rfl⟩ rfl rfl rfl rfl rfl kr_ Tryz.func3 kr_
  (od_ kr_) (by unfold Func.isWrapper;first|(rw [if_pos (by decide +kernel)];kernel_rfl)|(rw [if_neg (by decide +kernel)];exact ⟨rfl,rfl⟩))
  (fun os started H enc _=>lifted os started H enc)
theorem proved:Rows.FnExactMarksOfSaid:=over
end Go.Proofs.YtlhogkfmdnpmkaaGreat.fnExactMarksOf
namespace Go.Proofs.YtlhogkfmdnpmkaaGreat
theorem fnExactMarksOf_holds:Rows.FnExactMarksOfSaid:=fnExactMarksOf.proved
end Go.Proofs.YtlhogkfmdnpmkaaGreat
