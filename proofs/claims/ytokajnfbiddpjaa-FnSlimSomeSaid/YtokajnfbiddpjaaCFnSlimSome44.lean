import Derived.Test.YtokajnfbiddpjaaCFnSlimSome21
import Derived.WalkSpells
set_option maxRecDepth 100000
namespace Go.Proofs.Ytokajnfbiddpjaa.GSlim
open Go.RowKit Go.Proofs.YtokajnfbiddpjaaW.PrintWords Go.Proofs.YtokajnfbiddpjaaW.PrintLast Go.Proofs.YtokajnfbiddpjaaW.PrintMore
attribute [local go_sem] Zx Zz Ul Um Zl Zm Zy Ua
set_option linter.unusedVariables false
set_option linter.unusedSimpArgs false
def impl_Ins_16.f (l0:List (S31)):Option (List (S31)):=if l0.length<4398046511104 then some l0 else none
set_option maxHeartbeats 8000000 in
theorem impl_Ins_16.calls (A0:Option Addr) (c0:Nat) (l0:List (S31)) (r:List (S31)) (w:World) (hr0:Kd.C k31 w A0 l0.length l0) (hc0:l0.length≤c0) (h:impl_Ins_16.f l0=some r) :
  Calls Try.prog 16 #[.slice A0 l0.length c0] w fun e w'=>∃ aI:Value,e=.returned (aI)∧Kd.R k31 31 w' w.heap.size (fun _=>True) aI r∧Below w.heap.size w w':=by
 unfold impl_Ins_16.f at h
 by_cases hl:l0.length<4398046511104
 ·rw [if_pos hl] at h;obtain rfl:=Option.some.inj h;have HL:=Xa.mk hl;clear h hl;have aG:=Xa.mk hr0;clear hr0;have HB:=Xa.mk (Below.refl w.heap.size w);have qT:∀ (w:World) (a:Option Addr) (n c n' c':Nat),(binOp .eql 25 (.slice a n c) (.slice none n' c')).run Try.prog w=.ok (.bool a.isNone) w:=fun w a n c n' c'=>Lib.run_eql_slice_nil w _ _ a n c n' c' Try.underlying25
  cases A0 with
  |none=>
   have hn:l0=[]:=by
    cases l0 with
    |nil=>rfl
    |cons x xs=>exact absurd (Kd.C_get aG.out z31 0 (by omega) (by simp)) (by rintro ⟨ad,c,e,_⟩;cases e)
   subst hn
   go_enter Try.func16,Try.ntmps16
   go_wp2
   go_ret
   exact ⟨_,rfl,Kd.R_nil _ _ _ _ _,HB.out⟩
  |some ad=>
   go_enter Try.func16,Try.ntmps16
   go_wp2_with (first|((with_reducible refine Xt (N:=5) rfl ?_);refine Kd.Vo k31 _ 31 ?hg (N:=5) ?hd (xs:=([]:List (S31))) (inner:=[]) (ok:=fun _=>True) (okp:=fun _=>True) ?hr ?hp (fun _ hk=>hk) trivial (Below.refl _ _) (Nat.le_refl _) (by simp) ?_;(case hd|hg=>rfl);(case hr=>exact hr_);(case hp=>exact (Yj.none _ _));intro v193 w6 aH hb aJ aD;clear aJ aD;have aA:=Xa.mk (Kd.Yi aH (Xd (bl_ HB)));replace HB:=Xa.mk (Xe (bl_ HB) hb);clear hb aH)|((with_reducible refine Yp (b:=.append) (xs:=#[.tmp 5,.tmp 6]) rfl ?_);at_builtin;refine Kd.Vx k31 (w0:=w) w.heap.size rfl (.tmp 5) (.tmp 6) 25 31 (.agg #[(.int .i64 0),(.int .i64 0),(.int .i64 0),(.int .i64 0)]) 32 rfl Try.underlying25 info31 rfl (by decide) (by omega) v193 [] l0 _ _ _ (fun _=>True) (fun _=>False) rfl rfl ?aO ?aR (fun _ _ h=>h) (fun _ h=>h.elim) ?aF ?aB ?aS ?aL ?_;(case aR=>exact Kd.ca_ (Kd.Ze aG.out HB.out));(case aB=>exact (bl_ HB));(case aF=>exact (fun _ _=>trivial));(case aO=>exact (Kd.ra_ (aA.out)));(case aS=>exact (Xd (bl_ HB)));(case aL=>have:=HL.out;simp;omega);intro v196 w8 ho hb hg hat;replace HB:=Xa.mk (hb);have aC:=Xa.mk (ho);clear aA ho hb hg hat))
   go_ret
   exact ⟨_,rfl,by simpa using aC.out,HB.out⟩
 ·rw [if_neg hl] at h
  cases h
end Go.Proofs.Ytokajnfbiddpjaa.GSlim
namespace Go.Proofs.Ytokajnfbiddpjaa.GSlim
open Go.RowKit Go.Proofs.YtokajnfbiddpjaaW.PrintWords Go.Proofs.YtokajnfbiddpjaaW.PrintLast Go.Proofs.YtokajnfbiddpjaaW.PrintMore
attribute [local go_sem] Zx Zz Ul Um Zl Zm Zy Ua
set_option linter.unusedVariables false
set_option linter.unusedSimpArgs false
theorem eqA31 (d:Nat) (w:World) (x0 y0:Int) (x1 y1:Int) (x2 y2:Int) (x3 y3:Int) :
  (Op.equalIn (d+2) 31 (.agg #[.int .i64 x0,.int .i64 x1,.int .i64 x2,.int .i64 x3]) (.agg #[.int .i64 y0,.int .i64 y1,.int .i64 y2,.int .i64 y3])).run Try.prog w=.ok (x0 == y0 && (x1 == y1 && (x2 == y2 && (x3 == y3)))) w:=by
 refine eqA_of Try.underlying31 (by kernel_rfl) ?_
 refine eqf_cons (by rfl) (by go_simp;rfl) (by go_simp;rfl) (by go_simp) ?_
 refine eqf_cons (by rfl) (by go_simp;rfl) (by go_simp;rfl) (by go_simp) ?_
 refine eqf_cons (by rfl) (by go_simp;rfl) (by go_simp;rfl) (by go_simp) ?_
 exact eqf_last (by rfl) (by go_simp;rfl) (by go_simp;rfl) (by go_simp)
end Go.Proofs.Ytokajnfbiddpjaa.GSlim
