import Derived.Test.YtokajnfbiddpjaaCFnSlimSome21
import Derived.Test.YtokajnfbiddpjaaCFnSlimSome42
import Derived.Test.YtokajnfbiddpjaaCFnSlimSome44
import Derived.Test.YtokajnfbiddpjaaCFnSlimSome45
import Derived.Test.YtokajnfbiddpjaaCFnSlimSome50
import Derived.Lib.Hide
import Derived.WalkSpells
import Derived.Deep.DeepMust
set_option maxHeartbeats 8000000
set_option maxRecDepth 100000
namespace Go.Proofs.Ytokajnfbiddpjaa.GSlim
open Go.RowKit Go.Proofs.YtokajnfbiddpjaaW.PrintWords Go.Proofs.YtokajnfbiddpjaaW.PrintLast Go.Proofs.YtokajnfbiddpjaaW.PrintMore
attribute [local go_sem] Zx Zz Ul Um Zl Zm Zy Ua
set_option linter.unusedVariables false
set_option linter.unusedSimpArgs false
theorem impl_passes.made (w:World):Calls Try.prog 17 #[] w fun e w'=>∃ g,e=.returned (.slice (some ⟨g,0,none⟩) 2 2)∧w.heap.size≤g∧w'.heap[g]?=some (.cells #[.func (.func 35) #[] #[],.func (.func 36) #[] #[]] 36 (0,0))∧Below w.heap.size w w':=by
 go_enter Try.func17,Try.ntmps17
 go_wp2
 go_ret
 exact ⟨_,rfl,Nat.le_refl _,heap_alloc_new w _,Vj (Below.refl _ _) _⟩
def slim.step (k:Nat) (now:List (S31)):Option (List (S31)):=(Ya.f k now).bind fun a=>impl_slimDead.f k a
def slim.go (k:Nat):Nat→List (S31)→Option (List (S31))
 |0,now=>some now
 |d+1,now=>(slim.step k now).bind fun next=>(Zw.f k next now).bind fun b=>if b=true then some now else slim.go k d next
def impl_Slim.f (k:Nat) (l0:List (S31)):Option (List (S31)):=(Yw.f k l0).bind fun b=>if b=true then ((impl_Ins_16.f l0).bind fun now=>slim.go k 60 now) else some []
def slim.stage (k:Nat) (now:List (S31)):Nat→List (S31)→Prop
 |0,xs=>xs=now
 |1,xs=>Ya.f k now=some xs
 |_,xs=>slim.step k now=some xs
theorem slim.func_cell {W:World} {g:Nat} (h:W.heap[g]?=some (.cells #[.func (.func 35) #[] #[],.func (.func 36) #[] #[]] 36 (0,0))):W.cell? ⟨g,0,none⟩=some (.func (.func 35) #[] #[])∧W.cell? ⟨g,1,none⟩=some (.func (.func 36) #[] #[]):=⟨(Yc h 0).trans rfl,(Yc h 1).trans rfl⟩
theorem impl_Slim.calls (k:Nat) (A0:Option Addr) (c0:Nat) (l0:List (S31)) (r:List (S31)) (w:World) (hr0:Kd.C k31 w A0 l0.length l0) (hc0:l0.length≤c0) (h:impl_Slim.f k l0=some r) :
  Calls Try.prog 7 #[.slice A0 l0.length c0] w fun e w'=>∃ aI:Value,e=.returned (aI)∧Kd.R k31 31 w' w.heap.size (fun _=>True) aI r∧Below w.heap.size w w':=by
 unfold impl_Slim.f at h
 obtain ⟨ok,hk,h⟩:=Option.bind_eq_some_iff.1 h;have aD:=Xa.mk hr0;have aC:=Xa.mk hc0;have HK:=Xa.mk hk;clear hr0 hc0 hk
 cases ok with
 |false=>
  have hrr:r=[]:=by simpa using h.symm
  subst hrr;clear h
  go_enter Try.func7,Try.ntmps7
  go_wp2_with ((with_reducible refine Xh (f:=12) rfl ?_);refine Ye (some 8) rfl rfl Try.func12 (by kernel_rfl) rfl #[.slice A0 l0.length c0] rfl ga_ ?_;(with_reducible refine (Yw.calls k _ _ l0 false _ aD.out aC.out HK.out).mono ?_);rintro e w1 ⟨rfl,hb⟩;refine ⟨_,rfl,?_⟩;have HB1:=Xa.mk hb;clear hb)
  go_ret
  exact ⟨_,rfl,Kd.R_nil _ _ _ _ _,HB1.out⟩
 |true=>
  rw [if_pos rfl] at h;obtain ⟨l1,hcl,h⟩:=Option.bind_eq_some_iff.1 h;have HCL:=Xa.mk hcl;have HG:=Xa.mk h;clear h hcl
  go_enter Try.func7,Try.ntmps7
  go_upto_block 0 with (first|((with_reducible refine Xh (f:=12) rfl ?_);refine Ye (some 8) rfl rfl Try.func12 (by kernel_rfl) rfl #[.slice A0 l0.length c0] rfl ga_ ?_;(with_reducible refine (Yw.calls k _ _ l0 true _ aD.out aC.out HK.out).mono ?_);rintro e w1 ⟨rfl,hb⟩;refine ⟨_,rfl,?_⟩;have HB1:=Xa.mk hb;clear hb)|((with_reducible refine Xh (f:=16) rfl ?_);refine Ye (some 11) rfl rfl Try.func16 (by kernel_rfl) rfl #[.slice A0 l0.length c0] rfl ga_ ?_;go_must (with_reducible refine (impl_Ins_16.calls _ _ l0 l1 _ (Kd.Ze aD.out HB1.out) aC.out HCL.out).mono ?_);rintro e w2 ⟨v3,rfl,ho0,hb⟩;refine ⟨_,rfl,?_⟩;have HO:=Xa.mk (Kd.Yi ho0 (Xd HB1.out));have HB2:=Xa.mk (Xe HB1.out hb);clear ho0 hb))
  clear aD aC HCL HK HB1;go_wp2
  go_loopw [3,12] (fun v3 v12 W=>∃ (i:Nat) (now:List (S31)),v12=.int .i64 (i:Int)∧Xa (i≤60)∧Xa (slim.go k (60 - i) now=some r)∧Xa (Kd.R k31 31 W w.heap.size (fun _=>True) v3 now)∧Xa (Below w.heap.size w W)) (fun _ v12 _=>60 - (intOf v12).toNat)
  case atStart=>exact ⟨0,l1,rfl,⟨Nat.zero_le _⟩,HG,HO,HB2⟩
  case round=>
   clear HG HO HB2;obtain ⟨i,now,rfl,Hi,HG,HO,HB⟩:=hrel;by_cases hlt:i<60
   ·have hd1:decide ((i:Int)<60)=true:=decide_eq_true (by omega);have hg:=HG.out;rw [show 60 - i=(59 - i)+1 by omega] at hg;obtain ⟨next,hst,hg⟩:=Option.bind_eq_some_iff.1 hg;obtain ⟨b,hb,hg⟩:=Option.bind_eq_some_iff.1 hg;obtain ⟨xa,hxa,hxn⟩:=Option.bind_eq_some_iff.1 hst;have HST:=Xa.mk hst;have HEQ:=Xa.mk hb;have HXA:=Xa.mk hxa;have HXN:=Xa.mk hxn;clear HG;have HG:=Xa.mk hg;have HLT:=Xa.mk hlt;clear hg hst hb hxa hxn hlt;obtain ⟨A3,c3,e3⟩:=Kd.Yo HO.out;subst e3
    go_upto_block 2 with ((with_reducible refine Xh (f:=17) rfl ?_);refine Ye (some 15) rfl rfl Try.func17 (by kernel_rfl) rfl #[] rfl ga_ ?_;(with_reducible refine (impl_passes.made _).mono ?_);rintro e w3 ⟨g,rfl,aK,aH,aA⟩;refine ⟨_,rfl,?_⟩;have aF:=Xa.mk (Kd.Zf HO.out aA);have HB1:=Xa.mk (Xe HB.out aA);have HP:=Xa.mk aH;clear aK aH aA)
    clear HO HB;go_wp2
    go_loopw [4,17] (fun v4 v17 W=>∃ (j:Nat) (xs:List (S31)) (A:Option Addr) (c:Nat),v17=.int .i64 (j:Int)∧v4=.slice A xs.length c∧Xa (j≤2)∧Xa (slim.stage k now j xs)∧Xa (Kd.C k31 W A xs.length xs)∧Xa (xs.length≤c)∧Xa (j=2→Kd.R k31 31 W w.heap.size (fun _=>True) v4 xs)∧Xa (Kd.R k31 31 W w.heap.size (fun _=>True) (.slice A3 now.length c3) now)∧Xa (W.heap[g]?=some (.cells #[.func (.func 35) #[] #[],.func (.func 36) #[] #[]] 36 (0,0)))∧Xa (Below w.heap.size w W)) (fun _ v17 _=>2 - (intOf v17).toNat)
    case atStart=>exact ⟨0,now,A3,c3,rfl,rfl,⟨Nat.zero_le _⟩,⟨rfl⟩,⟨(Kd.R_reads' aF.out).2.2⟩,⟨(Kd.R_reads' aF.out).2.1⟩,⟨fun h=>by omega⟩,aF,HP,HB1⟩
    case round=>
     clear aF HP HB1;obtain ⟨j,xs,A,c,rfl,rfl,Hj,HS,HC,HCC,HR,HO,HP,HB⟩:=hrel;obtain ⟨hx0,hx1⟩:=slim.func_cell HP.out
     rcases j with _|_|j
     ·have HXX:Xa (Ya.f k xs=some xa):=⟨by have e:xs=now:=HS.out;rw [e];exact HXA.out⟩;go_wp2_with (go_at_call 35;go_must (refine (Ya.calls k _ _ xs xa _ HC.out HCC.out HXX.out).mono ?_;rintro e w5 ⟨v23,rfl,ho0,aA⟩;replace HO:=Xa.mk (Kd.Zf HO.out aA);replace HP:=Xa.mk (Zp HP.out aA);have HN:=Xa.mk (Kd.Yi ho0 (Xd HB.out));replace HB:=Xa.mk (Xe HB.out aA);clear HC HCC HR ho0 aA))
      obtain ⟨A4,c4,e4⟩:=Kd.Yo HN.out;subst e4
      go_roundw
      case measure=>simp [intOf]
      case rel=>exact ⟨1,xa,A4,c4,rfl,rfl,⟨by omega⟩,⟨HXA.out⟩,⟨(Kd.R_reads' HN.out).2.2⟩,⟨(Kd.R_reads' HN.out).2.1⟩,⟨fun h=>by omega⟩,HO,HP,HB⟩
     ·have HXX:Xa (impl_slimDead.f k xs=some next):=⟨by have e:Ya.f k now=some xs:=HS.out;rw [HXA.out] at e;obtain rfl:=Option.some.inj e;exact HXN.out⟩;go_wp2_with (go_at_call 36;go_must (refine (impl_slimDead.calls k _ _ xs next _ HC.out HCC.out HXX.out).mono ?_;rintro e w5 ⟨v23,rfl,ho0,aA⟩;replace HO:=Xa.mk (Kd.Zf HO.out aA);replace HP:=Xa.mk (Zp HP.out aA);have HN:=Xa.mk (Kd.Yi ho0 (Xd HB.out));replace HB:=Xa.mk (Xe HB.out aA);clear HC HCC HR ho0 aA))
      obtain ⟨A4,c4,e4⟩:=Kd.Yo HN.out;subst e4
      go_roundw
      case measure=>simp [intOf]
      case rel=>exact ⟨2,next,A4,c4,rfl,rfl,⟨by omega⟩,⟨HST.out⟩,⟨(Kd.R_reads' HN.out).2.2⟩,⟨(Kd.R_reads' HN.out).2.1⟩,⟨fun _=>HN.out⟩,HO,HP,HB⟩
     ·have hj:j=0:=by have:=Hj.out;omega
      subst hj
      have hxs:xs=next:=by have e:slim.step k now=some xs:=HS.out;rw [HST.out] at e;exact (Option.some.inj e).symm
      subst hxs;have HN:=Xa.mk (HR.out rfl)
      cases b with
      |true=>
       have hr:now=r:=Option.some.inj HG.out;subst hr;go_wp2_with ((with_reducible refine Xh (f:=18) rfl ?_);refine Ye (some 27) rfl rfl Try.func18 (by kernel_rfl) rfl #[.slice A xs.length c,.slice A3 now.length c3] rfl ga_ ?_;go_must ((with_reducible refine (Zw.calls k _ _ xs _ _ now true _ HC.out HCC.out (Kd.R_reads' HO.out).2.2 (Kd.R_reads' HO.out).2.1 HEQ.out).mono ?_);rintro e w5 ⟨rfl,⟨nd,rfl⟩⟩;refine ⟨_,rfl,?_⟩;replace HO:=Xa.mk (Kd.Zf HO.out (Xk (Below.refl _ _) nd));replace HB:=Xa.mk (Xe HB.out (Xk (Below.refl _ _) nd));replace HN:=Xa.mk (Kd.Zf HN.out (Xk (Below.refl _ _) nd));clear HP HC HCC HR))
       go_ret
       exact ⟨_,rfl,HO.out,HB.out⟩
      |false=>
       have hgo:slim.go k (59 - i) xs=some r:=HG.out;have HGO:=Xa.mk hgo;clear hgo
       have hiw:IntKind.i64.wrap ((i:Int)+1)=((i+1:Nat):Int):=by have:=Hi.out;rw [IntKind.wrap_i64];omega
       go_wp2_with ((with_reducible refine Xh (f:=18) rfl ?_);refine Ye (some 27) rfl rfl Try.func18 (by kernel_rfl) rfl #[.slice A xs.length c,.slice A3 now.length c3] rfl ga_ ?_;go_must ((with_reducible refine (Zw.calls k _ _ xs _ _ now false _ HC.out HCC.out (Kd.R_reads' HO.out).2.2 (Kd.R_reads' HO.out).2.1 HEQ.out).mono ?_);rintro e w5 ⟨rfl,⟨nd,rfl⟩⟩;refine ⟨_,rfl,?_⟩;replace HO:=Xa.mk (Kd.Zf HO.out (Xk (Below.refl _ _) nd));replace HB:=Xa.mk (Xe HB.out (Xk (Below.refl _ _) nd));replace HN:=Xa.mk (Kd.Zf HN.out (Xk (Below.refl _ _) nd));clear HP HC HCC HR))
       go_roundw
       case measure=>have:=HLT.out;simp [intOf];omega
       case rel=>exact ⟨i+1,xs,by simp,⟨HLT.out⟩,⟨by rw [show 60 - (i+1)=59 - i by omega];exact HGO.out⟩,HN,HB⟩
   ·have hd1:decide ((i:Int)<60)=false:=decide_eq_false (by omega)
    have hi:i=60:=by have:=Hi.out;omega
    subst hi;have hr:now=r:=Option.some.inj HG.out;subst hr;go_wp2
    go_ret
    exact ⟨_,rfl,HO.out,HB.out⟩
end Go.Proofs.Ytokajnfbiddpjaa.GSlim
namespace Go.Proofs.Ytokajnfbiddpjaa.GSlim
open Go.RowKit Go.Proofs.YtokajnfbiddpjaaW.PrintWords Go.Proofs.YtokajnfbiddpjaaW.PrintLast Go.Proofs.YtokajnfbiddpjaaW.PrintMore
attribute [local go_sem] Zx Zz Ul Um Zl Zm Zy Ua
set_option linter.unusedVariables false
set_option linter.unusedSimpArgs false
def Zj.f (k:Nat) (l0:List (S31)) (l1:List (S31)):Option (Bool):=(Zw.f k l0 l1).bind fun aB=>(some aB)
theorem Zj.calls (k:Nat) (A0:Option Addr) (c0:Nat) (l0:List (S31)) (A1:Option Addr) (c1:Nat) (l1:List (S31)) (r:Bool) (w:World) (hr0:Kd.C k31 w A0 l0.length l0) (hc0:l0.length≤c0) (hr1:Kd.C k31 w A1 l1.length l1) (hc1:l1.length≤c1) (h:Zj.f k l0 l1=some r) :
  Calls Try.prog 8 #[.slice A0 l0.length c0,.slice A1 l1.length c1] w fun e w'=>e=.returned (.bool r)∧Yf w w':=by
 have aD:=Xa.mk hr0;have aC:=Xa.mk hc0;clear hr0 hc0;have HR1:=Xa.mk hr1;have aJ:=Xa.mk hc1;clear hr1 hc1;have H:((Zw.f k l0 l1).bind fun aB=>(some aB))=some r:=h;clear h;replace H:=Option.bind_eq_some_iff.mp H;obtain ⟨aB,aG,H⟩:=H;replace H:(some aB)=some r:=H;have A3:=Xa.mk aG;clear aG;obtain rfl:=Option.some.inj H
 go_enter Try.func8,Try.ntmps8
 go_wp2_with (first|((with_reducible refine Xh (f:=18) rfl ?_);refine Ye (some 7) rfl rfl Try.func18 (by kernel_rfl) rfl #[.slice A0 l0.length c0,.slice A1 l1.length c1] rfl ga_ ?_;(with_reducible refine (Zw.calls k _ _ l0 _ _ l1 aB _ ?side1 ?side2 ?side3 ?side4 A3.out).mono ?_);(case side1=>exact Kd.ca_ aD.out);(case side2=>exact aC.out);(case side3=>exact Kd.ca_ HR1.out);(case side4=>exact aJ.out);rintro e w' ⟨rfl,⟨nd,rfl⟩⟩;refine ⟨_,rfl,?_⟩))
 go_ret
 exact ⟨by first|rfl|(simp;done)|(simp [*];done),by repeat (first|exact Yf.refl _|apply Yf.step)⟩
end Go.Proofs.Ytokajnfbiddpjaa.GSlim
