import Derived.Test.YtdkcjecllbdljaaCFnSlim21
import Derived.WalkSpells
namespace Go.Proofs.Ytdkcjecllbdljaa.GSlim
open Go.RowKit Go.Proofs.YtdkcjecllbdljaaW.PrintWords Go.Proofs.YtdkcjecllbdljaaW.PrintLast Go.Proofs.YtdkcjecllbdljaaW.PrintMore
attribute [local go_sem] Zv Zx Un Uo Zm Zn Zw Zy
set_option linter.unusedVariables false
set_option linter.unusedSimpArgs false
def Zz.f (l0:List (Bool)):Option (List (Bool)):=if l0.length<140737488355328 then some l0 else none
set_option maxHeartbeats 8000000 in
set_option maxRecDepth 100000 in
theorem Zz.calls (A0:Option Addr) (c0:Nat) (l0:List (Bool)) (r:List (Bool)) (w:World) (hr0:Kd.C Kd.bool w A0 l0.length l0) (hc0:l0.length≤c0) (h:Zz.f l0=some r) :
  Calls Try.prog 57 #[.slice A0 l0.length c0] w fun e w'=>∃ v0_:Value,e=.returned (v0_)∧Kd.R Kd.bool 4 w' w.heap.size (fun _=>True) v0_ r∧Below w.heap.size w w':=by
 unfold Zz.f at h
 by_cases hl:l0.length<140737488355328
 ·rw [if_pos hl] at h;obtain rfl:=Option.some.inj h;have HL:=Xa.mk hl;clear h hl;have HR0:=Xa.mk hr0;clear hr0;have HB:=Xa.mk (Below.refl w.heap.size w);have qT:∀ (w:World) (a:Option Addr) (n c n' c':Nat),(binOp .eql 28 (.slice a n c) (.slice none n' c')).run Try.prog w=.ok (.bool a.isNone) w:=fun w a n c n' c'=>Lib.run_eql_slice_nil w _ _ a n c n' c' Try.underlying28
  cases A0 with
  |none=>
   have hn:l0=[]:=by
    cases l0 with
    |nil=>rfl
    |cons x xs=>exact absurd (Kd.C_get HR0.out false 0 (by omega) (by simp)) (by rintro ⟨ad,c,e,_⟩;cases e)
   subst hn
   go_enter Try.func57,Try.ntmps57
   go_wp2
   go_ret
   exact ⟨_,rfl,Kd.R_nil _ _ _ _ _,HB.out⟩
  |some ad=>
   go_enter Try.func57,Try.ntmps57
   go_wp2_with (first|((with_reducible refine Xx (N:=5) rfl ?_);refine Kd.Vq Kd.bool _ 4 ?hg (N:=5) ?hd (xs:=([]:List (Bool))) (inner:=[]) (ok:=fun _=>True) (okp:=fun _=>True) ?hr ?hp (fun _ hk=>hk) trivial (Below.refl _ _) (Nat.le_refl _) (by simp) ?_;(case hd=>rfl);(case hg=>rfl);(case hr=>first|(go_simp;done)|(go_simp;rfl));(case hp=>exact (Yl.none _ _));intro v193 w6 ho7 hb hg_ hnew_;clear hg_ hnew_;have n0_:=Xa.mk (Kd.Yg ho7 (Xc (bl_ HB)));have n1_:=Xa.mk (Xd (bl_ HB) hb);clear HB;have HO194:=n0_;have HB:=n1_;clear n0_ n1_;clear hb ho7)|((with_reducible refine Yp (b:=.append) (xs:=#[.tmp 5,.tmp 6]) rfl ?_);at_builtin;refine Kd.Vs Kd.bool (w0:=w) w.heap.size rfl (.tmp 5) (.tmp 6) 28 4 (.bool false) 1 rfl Try.underlying28 info4 rfl (by decide) (by omega) v193 [] l0 _ _ _ (fun _=>True) (fun _=>False) rfl rfl ?aO ?aR (fun _ _ h=>h) (fun _ h=>h.elim) ?aF ?aB ?aS ?aL ?_;(case aR=>repeat (first|exact (Kd.Zi HR0.out HB.out)|(with_reducible refine Kd.Xq ?_ _)|(with_reducible refine Kd.Xr ?_ _)|(with_reducible refine Kd.Yc ?_)));(case aB=>exact (bl_ HB));(case aF=>exact (fun _ _=>trivial));(case aO=>exact (Kd.ra_ (HO194.out)));(case aS=>exact (Xc (bl_ HB)));(case aL=>have:=HL.out;simp;omega);intro v196 w8 ho hb hg hat;have n0_:=Xa.mk (hb);have n1_:=Xa.mk (ho);clear HB;clear HO194;have HB:=n0_;have HO197:=n1_;clear n0_ n1_;clear ho hb hg hat))
   go_ret
   exact ⟨_,rfl,by simpa using HO197.out,HB.out⟩
 ·rw [if_neg hl] at h
  cases h
end Go.Proofs.Ytdkcjecllbdljaa.GSlim
