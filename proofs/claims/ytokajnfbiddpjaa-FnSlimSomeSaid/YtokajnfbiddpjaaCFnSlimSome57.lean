import Derived.Test.YtokajnfbiddpjaaCFnSlimSome21
import Derived.Test.YtokajnfbiddpjaaCFnSlimSome56
set_option maxRecDepth 100000
namespace Go.Proofs.Ytokajnfbiddpjaa.GSlim
open Go.RowKit Go.Proofs.YtokajnfbiddpjaaW.PrintWords Go.Proofs.YtokajnfbiddpjaaW.PrintLast Go.Proofs.YtokajnfbiddpjaaW.PrintMore
attribute [local go_sem] Zx Zz Ul Um Zl Zm Zy Ua
set_option linter.unusedVariables false
set_option linter.unusedSimpArgs false
def spec_l9Keeps.f (k:Nat) (l0:List (S31)) (l1:List Bool) (a2:Int):Option (Bool):=if a2=(wrap64 ((l0.length:Int) - 1)) then (some true) else (if 0≤a2 then (if a2<(l1.length:Int) then (if rdOf false l1 a2=true then (if a2<(l0.length:Int) then (if ((Xb l0 a2).f0)=7 then ((Uk.f k l0 l1 a2).bind fun aD=>(some (!aD))) else (some true)) else (none)) else (some false)) else (none)) else (none))
set_option maxHeartbeats 8000000 in
theorem spec_l9Keeps.calls (k:Nat) (A0:Option Addr) (c0:Nat) (l0:List (S31)) (A1:Option Addr) (c1:Nat) (l1:List Bool) (a2:Int) (r:Bool) (w:World) (hr0:Kd.C k31 w A0 l0.length l0) (hc0:l0.length≤c0) (hr1:Kd.C Kd.bool w A1 l1.length l1) (hc1:l1.length≤c1) (h:spec_l9Keeps.f k l0 l1 a2=some r) :
  Calls Try.prog 40 #[.slice A0 l0.length c0,.slice A1 l1.length c1,.int .i64 a2] w fun e w'=>e=.returned (.bool r)∧Yf w w':=by
 have aU:=Xa.mk hr0;have aZ:=Xa.mk hc0;clear hr0 hc0;have HR1:=Xa.mk hr1;have bA:=Xa.mk hc1;clear hr1 hc1;have H:(if a2=(wrap64 ((l0.length:Int) - 1)) then (some true) else (if 0≤a2 then (if a2<(l1.length:Int) then (if rdOf false l1 a2=true then (if a2<(l0.length:Int) then (if ((Xb l0 a2).f0)=7 then ((Uk.f k l0 l1 a2).bind fun aD=>(some (!aD))) else (some true)) else (none)) else (some false)) else (none)) else (none)))=some r:=h;clear h;by_cases c4:a2=(wrap64 ((l0.length:Int) - 1))
 ·rw [if_pos c4] at H;have aV:=beq_iff_eq.mpr c4;have aW:=bne_eq_false_iff_eq.mpr c4;clear c4;obtain rfl:=Option.some.inj H
  go_enter Try.func40,Try.ntmps40
  go_wp2
  go_ret
  exact ⟨by first|rfl|(simp;done)|(simp [*];done),by repeat (first|exact Yf.refl _|apply Yf.step)⟩
 ·rw [if_neg c4] at H;have aV:=beq_eq_false_iff_ne.mpr c4;have aW:=bne_iff_ne.mpr c4;by_cases c5:0≤a2
  ·rw [if_pos c5] at H;replace c5:=decide_eq_true c5;by_cases c6:a2<(l1.length:Int)
   ·rw [if_pos c6] at H;replace c6:=decide_eq_true c6;obtain ⟨aX,aP⟩:∃ b_:Bool,b_=(rdOf false l1 a2):=⟨_,rfl⟩
    replace H:(if aX=true then (if a2<(l0.length:Int) then (if ((Xb l0 a2).f0)=7 then ((Uk.f k l0 l1 a2).bind fun aD=>(some (!aD))) else (some true)) else (none)) else (some false))=some r:=by rw [← aP] at H;exact H
    have aN:=Xa.mk aP;clear aP;by_cases c8:aX=true
    ·subst c8
     replace H:(if a2<(l0.length:Int) then (if ((Xb l0 a2).f0)=7 then ((Uk.f k l0 l1 a2).bind fun aD=>(some (!aD))) else (some true)) else (none))=some r:=(by rw [if_pos rfl] at H;exact H);by_cases c9:a2<(l0.length:Int)
     ·rw [if_pos c9] at H;replace c9:=decide_eq_true c9;by_cases c10:((Xb l0 a2).f0)=7
      ·rw [if_pos c10] at H;have aS:=beq_iff_eq.mpr c10;have aT:=bne_eq_false_iff_eq.mpr c10;clear c10;replace H:=Option.bind_eq_some_iff.mp H;obtain ⟨aD,aQ,H⟩:=H;replace H:(some (!aD))=some r:=H;have aY:=Xa.mk aQ;clear aQ;obtain rfl:=Option.some.inj H;have aB:0≤(a2:Int):=of_decide_eq_true (by assumption);have aC:a2<(l1.length:Int):=of_decide_eq_true (by assumption);obtain ⟨aM,aH,aA⟩:=Kd.at_bool HR1.out a2 aB aC
       (try rw [← aN.out] at aA)
       cases aH
       replace aB:=eq_true aB;replace aC:=eq_true aC;have aF:0≤(a2:Int):=of_decide_eq_true (by assumption);have aG:a2<(l0.length:Int):=of_decide_eq_true (by assumption);obtain ⟨aR,aO,aI,aJ,aK,aL⟩:=Zv aU.out a2 aF aG;cases aO
       replace aF:=eq_true aF;replace aG:=eq_true aG
       go_enter Try.func40,Try.ntmps40
       go_wp2_with (first|(go_at_call 65;(with_reducible refine (Uk.calls k _ _ l0 _ _ l1 a2 aD _ ?side1 ?side2 ?side3 ?side4 aY.out).mono ?_);(case side1=>exact Kd.ca_ aU.out);(case side2=>exact aZ.out);(case side3=>exact Kd.ca_ HR1.out);(case side4=>exact bA.out);rintro e w' ⟨rfl,⟨nd,rfl⟩⟩))
       go_ret
       exact ⟨by first|rfl|(simp;done)|(simp [*];done),by repeat (first|exact Yf.refl _|apply Yf.step)⟩
      ·rw [if_neg c10] at H;have aS:=beq_eq_false_iff_ne.mpr c10;have aT:=bne_iff_ne.mpr c10;obtain rfl:=Option.some.inj H;have aB:0≤(a2:Int):=of_decide_eq_true (by assumption);have aC:a2<(l1.length:Int):=of_decide_eq_true (by assumption);obtain ⟨aM,aH,aA⟩:=Kd.at_bool HR1.out a2 aB aC
       (try rw [← aN.out] at aA)
       cases aH
       replace aB:=eq_true aB;replace aC:=eq_true aC;have aF:0≤(a2:Int):=of_decide_eq_true (by assumption);have aG:a2<(l0.length:Int):=of_decide_eq_true (by assumption);obtain ⟨aR,aO,aI,aJ,aK,aL⟩:=Zv aU.out a2 aF aG;cases aO
       replace aF:=eq_true aF;replace aG:=eq_true aG
       go_enter Try.func40,Try.ntmps40
       go_wp2
       go_ret
       exact ⟨by first|rfl|(simp;done)|(simp [*];done),by repeat (first|exact Yf.refl _|apply Yf.step)⟩
     ·rw [if_neg c9] at H;exact absurd H (by simp)
    ·replace c8:=Bool.eq_false_iff.mpr c8;subst c8
     replace H:(some false)=some r:=(by rw [if_neg (show ¬ (false=true) by decide)] at H;exact H);obtain rfl:=Option.some.inj H;have aB:0≤(a2:Int):=of_decide_eq_true (by assumption);have aC:a2<(l1.length:Int):=of_decide_eq_true (by assumption);obtain ⟨aM,aH,aA⟩:=Kd.at_bool HR1.out a2 aB aC
     (try rw [← aN.out] at aA)
     cases aH
     replace aB:=eq_true aB;replace aC:=eq_true aC
     go_enter Try.func40,Try.ntmps40
     go_wp2
     go_ret
     exact ⟨by first|rfl|(simp;done)|(simp [*];done),by repeat (first|exact Yf.refl _|apply Yf.step)⟩
   ·rw [if_neg c6] at H;exact absurd H (by simp)
  ·rw [if_neg c5] at H;exact absurd H (by simp)
end Go.Proofs.Ytokajnfbiddpjaa.GSlim
