/- The row of the law laws.FnExactWholeOrder: it returns true for every input that its statement admits. Conditions: none but the row's own. -/
import Derived.Test.YtlhogkfmdnpmkaaCFnExactWholeOrder90
import Derived.Test.YtlhogkfmdnpmkaaCFnExactWholeOrder89
import Derived.Test.YtlhogkfmdnpmkaaRows
import Derived.Test.YtlhogkfmdnpmkaaCFnExactWholeOrder86
import Derived.Test.YtlhogkfmdnpmkaaCFnExactWholeOrder79
import Derived.Test.YtlhogkfmdnpmkaaCFnExactWholeOrder87
import Derived.WalkKit
import Derived.ProofKit
import Derived.OpenShut
import Derived.ShutString
import Derived.ChangeOld
import Derived.Below
import Derived.SizedLaws
set_option maxRecDepth 100000
namespace Go.Proofs.Ytlhogkfmdnpmkaa.KindsWhole
open Go.RowKit Go.ChangeShapes Go.WideShapes Go.Proofs.YtlhogkfmdnpmkaaW.PrintWords Go.Proofs.YtlhogkfmdnpmkaaW.PrintLast Go.Proofs.YtlhogkfmdnpmkaaW.PrintMore Go.Proofs.Ytlhogkfmdnpmkaa.Open Go.Proofs.Ytlhogkfmdnpmkaa.GWhole Go.Proofs.Ytlhogkfmdnpmkaa.Pure
set_option linter.unusedVariables false
section
variable {H:Type} {enc:TypeId × Value→H} {w:World} {base:Nat} {spare:Nat→Bool} {held:Bool}
theorem opens3:Opens enc Try.prog w base spare held (Kd.int .i64) Num 3:=opens_int Try.underlying3 (by kernel_rfl)
theorem opens40:Opens enc Try.prog w base spare held (Kd.slice 65 k65) (fun zs=>zs.length≤9223372036854775807∧∀ z ∈ zs,StmtN z) 40:=opens_slice Try.underlying40 (by kernel_rfl) opens_stmt
end
end Go.Proofs.Ytlhogkfmdnpmkaa.KindsWhole
namespace Go.Proofs.Ytlhogkfmdnpmkaa.Pure
open Go.RowKit Go.Proofs.Ytlhogkfmdnpmkaa.GWhole Go.Proofs.YtlhogkfmdnpmkaaW.PrintWords Go.Proofs.YtlhogkfmdnpmkaaW.PrintLast Go.Proofs.YtlhogkfmdnpmkaaW.PrintMore Go.Proofs.Ytlhogkfmdnpmkaa.Evt Go.Proofs.Ytlhogkfmdnpmkaa.Open
set_option linter.unusedVariables false
set_option linter.unusedSimpArgs false
theorem cntD_cons (e:Nat) (x:Stmt) (r:List Stmt):cntD (e+1) (x :: r)=1+cntD e x.f4+cntD e x.f5+cntD (e+1) r:=by
  simp only [cntD,inner,List.length_cons];omega
theorem cnt_is:∀ (d:Nat) (l:List Stmt),Xu.cnt d l=cntD d l
  |0,l=>rfl
  |d+1,l=>by
    induction l with
    |nil=>rfl
    |cons x r ih=>
      rw [cntD_cons,← ih,← cnt_is d x.f4,← cnt_is d x.f5]
      simp only [Xu.cnt,List.map_cons,List.sum_cons]
theorem tot_cnt:∀ (n:Nat) (l:List Stmt),SizeOf.sizeOf l≤n→∃ d,∀ e,d≤e→Mark.tot l≤cntD e l
  |0,l,hs=>by cases l <;> simp at hs
  |n+1,[],hs=>⟨0,fun e _=>by simp [Mark.tot]⟩
  |n+1,x :: r,hs=>by
    have hx:SizeOf.sizeOf x.f4<SizeOf.sizeOf x∧SizeOf.sizeOf x.f5<SizeOf.sizeOf x:=by
      cases x
      simp only [S69.mk.sizeOf_spec]
      omega
    have hc:SizeOf.sizeOf (x :: r)=1+SizeOf.sizeOf x+SizeOf.sizeOf r:=by simp
    obtain ⟨d4,h4⟩:=tot_cnt n x.f4 (by omega)
    obtain ⟨d5,h5⟩:=tot_cnt n x.f5 (by omega)
    obtain ⟨dr,hr⟩:=tot_cnt n r (by omega)
    refine ⟨d4+d5+dr+1,fun e he=>?_⟩
    obtain ⟨e',rfl⟩:∃ e',e=e'+1:=⟨e - 1,by omega⟩
    have a:=h4 e' (by omega)
    have b:=h5 e' (by omega)
    have c:=hr (e'+1) (by omega)
    rw [cntD_cons]
    have ht:=Mark.totT_is x
    simp only [Mark.tot]
    omega
theorem totS_cnt:∀ (m:List (List Stmt)),∃ d,∀ e,d≤e→Mark.totS m≤cntSS e m
  |[]=>⟨0,fun e _=>by simp [Mark.totS]⟩
  |x :: r=>by
    obtain ⟨d,h⟩:=tot_cnt _ x (Nat.le_refl _)
    obtain ⟨dr,hr⟩:=totS_cnt r
    refine ⟨d+dr,fun e he=>?_⟩
    have a:=h e (by omega)
    have b:=hr e (by omega)
    have e1:Mark.totS (x :: r)=Mark.tot x+Mark.totS r:=by simp [Mark.totS]
    rw [e1]
    simp only [cntSS]
    omega
theorem cntSS_mem (d:Nat):∀ (m:List (List Stmt)),∀ x ∈ m,cntD d x≤cntSS d m
  |y :: r,x,h=>by
    simp only [cntSS]
    rcases List.mem_cons.1 h with rfl|h
    · omega
    · have:=cntSS_mem d r x h;omega
theorem inner_mem (c:List Stmt→Nat):∀ (l:List Stmt),∀ s ∈ l,c s.f4+c s.f5≤inner c l
  |y :: r,s,h=>by
    simp only [inner]
    rcases List.mem_cons.1 h with rfl|h
    · omega
    · have:=inner_mem c r s h;omega
theorem shortB_of:∀ (d:Nat) (l:List Stmt),cntD (d+1) l≤1048576→Mean.shortB d l=true
  |0,l,h=>by
    simp only [cntD] at h
    unfold Mean.shortB
    exact decide_eq_true (by omega)
  |d+1,l,h=>by
    have h':l.length+inner (cntD (d+1)) l≤1048576:=h
    unfold Mean.shortB
    rw [Bool.and_eq_true,List.all_eq_true]
    refine ⟨decide_eq_true (by omega),fun s hs=>?_⟩
    have:=inner_mem (cntD (d+1)) l s hs
    rw [Bool.and_eq_true]
    exact ⟨shortB_of d s.f4 (by omega),shortB_of d s.f5 (by omega)⟩
theorem tame_is {m:List (List Stmt)} (hl:m.length≤1048576) (h:∀ d,cntSS d m≤1048576):Mean.tameB m=true:=by
  unfold Mean.tameB
  rw [Bool.and_eq_true,List.all_eq_true]
  refine ⟨fun x hx=>?_,decide_eq_true hl⟩
  rw [Bool.and_eq_true]
  refine ⟨shortB_of 3 x (Nat.le_trans (cntSS_mem 4 m x hx) (h 4)),decide_eq_true ?_⟩
  rw [cnt_is]
  have:=cntSS_mem 3 m x hx
  have:=h 3
  omega
end Go.Proofs.Ytlhogkfmdnpmkaa.Pure
namespace Go.Proofs.Ytlhogkfmdnpmkaa.Pure
open Go.RowKit Go.Proofs.Ytlhogkfmdnpmkaa.GWhole Go.Proofs.YtlhogkfmdnpmkaaW.PrintWords Go.Proofs.YtlhogkfmdnpmkaaW.PrintLast Go.Proofs.YtlhogkfmdnpmkaaW.PrintMore Go.Proofs.Ytlhogkfmdnpmkaa.Evt Go.Proofs.Ytlhogkfmdnpmkaa.Open
set_option linter.unusedVariables false
set_option linter.unusedSimpArgs false
def marks (a:Int) (n:Nat):List Int:=(List.range n).map (fun i:Nat=>a+(i:Int))
theorem marks_succ (a:Int) (n:Nat):marks a (n+1)=marks a n ++ [a+(n:Int)]:=by simp [marks,List.range_succ]
theorem marks_len (a:Int) (n:Nat):(marks a n).length=n:=by simp [marks]
theorem markI_loop (a:Int) (ha:0≤a) (ha2:a≤1000000000) (n:Nat) (hn:n≤1048576):∀ (B:List Int) (i:Nat),i+B.length=n→Evt (fun k=>Xz.l0 k (marks a i ++ B) (a+(i:Int)) (i:Int)) (a+(n:Int),marks a n)
  |[],i,h=>by
    refine Evt.step ?_
    simp only [Xz.l0]
    have e:i=n:=by simpa using h
    subst e
    refine Evt.neg (by simp [marks_len]) ((Evt.pure _).congr (fun _=>?_))
    rw [List.append_nil]
  |b :: B,i,h=>by
    have h':i+B.length+1=n:=by simp at h;omega
    refine Evt.step ?_
    simp only [Xz.l0]
    refine Evt.pos (by simp [marks_len];omega) (Evt.pos (by omega) ?_)
    have ih:=markI_loop a ha ha2 n hn B (i+1) (by omega)
    have e1:wrap64 (a+(i:Int)+1)=a+((i+1:Nat):Int):=by unfold wrap64;omega
    have e2:wrap64 ((i:Int)+1)=((i+1:Nat):Int):=by unfold wrap64;omega
    have e3:(marks a i ++ b :: B).set ((i:Int)).toNat (a+(i:Int))=marks a (i+1) ++ B:=by
      have:=set_app (marks a i) b (a+(i:Int)) B
      rw [marks_len] at this
      rw [Int.toNat_natCast,this,marks_succ,List.append_assoc];rfl
    rw [e1,e2,e3]
    exact ih
theorem markI_ev (l:List Int) (hl:l.length≤1048576) (a:Int) (ha:0≤a) (ha2:a≤1000000000):Evt (fun k=>Xz.f k l a) (a+(l.length:Int),marks a l.length):=by
  have:=markI_loop a ha ha2 l.length hl l 0 (by omega)
  unfold Xz.f
  simpa [marks] using this
theorem heldI_loop (a:Int) (ha:0≤a) (ha2:a≤1000000000) (n:Nat) (hn:n≤1048576):∀ (m i:Nat),i+m=n→Evt (fun k=>Yd.l0 k (marks a n) (a+(i:Int)) (i:Int)) (a+(n:Int))
  |0,i,h=>by
    have e:i=n:=by omega
    subst e
    refine Evt.step ?_
    simp only [Yd.l0]
    exact Evt.neg (by simp [marks_len]) (Evt.pure _)
  |m+1,i,h=>by
    have hi:i<n:=by omega
    refine Evt.step ?_
    simp only [Yd.l0]
    have er:rd (marks a n) (i:Int)=a+(i:Int):=by unfold rd;simp [marks,List.getD_eq_getElem?_getD,hi]
    have e1:wrap64 (a+(i:Int)+1)=a+((i+1:Nat):Int):=by unfold wrap64;omega
    have e2:wrap64 ((i:Int)+1)=((i+1:Nat):Int):=by unfold wrap64;omega
    refine Evt.pos (by simp [marks_len];omega) (Evt.pos (by omega) (Evt.pos er ?_))
    rw [e1,e2]
    exact heldI_loop a ha ha2 n hn m (i+1) (by omega)
theorem heldI_ev (a:Int) (ha:0≤a) (ha2:a≤1000000000) (n:Nat) (hn:n≤1048576):Evt (fun k=>Yd.f k (marks a n) a) (a+(n:Int)):=by
  have:=heldI_loop a ha ha2 n hn n 0 (by omega)
  unfold Yd.f
  simpa using this
theorem whole_len (m:List (List Stmt)) (l:List Int):(Mean.whole m l).length≤200:=by
  have key:∀ (l:List Int) (p:Mean.WS × List Int),(l.foldl Mean.goS p).2.length≤p.2.length+l.length:=by
    intro l
    induction l with
    |nil=>intro p;simp
    |cons x r ih=>
      intro p
      have a:=ih (Mean.goS p x)
      have b:=@Mean.goS_len ⟨fun _=>none⟩ p x
      simp only [List.foldl_cons,List.length_cons];omega
  unfold Mean.whole
  split
  · rename_i h
    rw [Bool.and_eq_true] at h
    have h2:=of_decide_eq_true h.2
    have:=key l (Mean.Uc m,[])
    simp only [List.length_nil] at this
    omega
  · simp
theorem FnExactWholeOrder (l0:List (List LStmt)) (l1:List Int) (each:∀ x ∈ l0,x.length≤9223372036854775807∧∀ z ∈ x,StmtN z) (h0:l0.length≤9223372036854775807) (_:∀ n ∈ l1,Num n) (_:l1.length≤9223372036854775807):∃ k,Xg.f k l0 l1=some true:=by
  suffices h:Evt (fun k=>Xg.f k l0 l1) true from h.get
  unfold Xg.f
  by_cases h1:(l1.length:Int) > 1048576
  · exact Evt.pos h1 (Evt.pure _)
  refine Evt.neg h1 ?_
  have hl1:l1.length≤1048576:=by omega
  obtain ⟨r,hr,ha,hz,hm⟩:=szSS_of l0 h0 (fun x hx=>stmtS_told _ x (Nat.le_refl _) (each x hx).2 (each x hx).1) 1048576 (by omega) (by omega)
  refine Evt.bind hr ?_
  by_cases hn:r<0
  · exact Evt.pos hn (Evt.pure _)
  refine Evt.neg hn ?_
  obtain ⟨hl,m,h2,hc⟩:=hm (by omega)
  have hml:=h2.len
  have hto:=toSS_ev l0 hl m h2
  have hti:=toIntS_ev l1 hl1
  have htm:Mean.tameB m=true:=tame_is (by omega) (fun d=>by have:=hc d;omega)
  have hsp:Zr.f m l1=some (Mean.whole m l1):=if_pos htm
  have him:Yk.f m l1=some (Mean.whole m l1):=if_pos (List.all_eq_true.2 (fun x hx=>decide_eq_true ((Mean.tame_of htm).2.2 x hx)))
  have hwl:=whole_len m l1
  have hei:=eqIntS_ev (Mean.whole m l1) (by omega)
  have hel:=eqIntS_ev l1 hl1
  have hes:=eqSS_ev m (by omega) (fun x hx=>by obtain ⟨_,_,h⟩:=h2.right x hx;exact h.eq)
  obtain ⟨d,hd⟩:=totS_cnt m
  have ht:Mark.totS m≤1048576:=by have:=hd d (Nat.le_refl _);have:=hc d;omega
  have hmk:Yp.f m 1=some (1+4 * (Mark.totS m:Int)):=if_pos ⟨by omega,by omega,by omega⟩
  have hmi:=markI_ev l1 hl1 (1+4 * (Mark.totS m:Int)) (by omega) (by omega)
  have hmg:=markI_ev (Mean.whole m l1) (by omega) 1 (by omega) (by omega)
  have hhd:=heldI_ev 1 (by omega) (by omega) (Mean.whole m l1).length (by omega)
  refine Evt.bind hto (Evt.bind hti (Evt.bind (Evt.of_eq (fun _=>hsp)) (Evt.bind hto (Evt.bind hti (Evt.bind (Evt.of_eq (fun _=>him)) (Evt.bind hei (Evt.pos rfl (Evt.bind hto (Evt.bind hes (Evt.pos rfl (Evt.bind hti (Evt.bind hel (Evt.pos rfl (Evt.bind (Evt.of_eq (fun _=>hmk)) (Evt.bind hmi (Evt.neg (by show ¬ (_:Int)<0;omega) (Evt.bind hei ?_)))))))))))))))))
  refine Evt.step ?_
  simp only [Xg.j0]
  refine Evt.neg (by simp) (Evt.bind hmg (Evt.bind hhd (Evt.neg (by omega) (Evt.pos rfl (Evt.bind hto (Evt.bind hti (Evt.bind (Evt.of_eq (fun _=>him)) (Evt.bind hei (Evt.pos rfl (Evt.bind hhd (Evt.neg (by omega) (Evt.pos rfl (Evt.pure _)))))))))))))
end Go.Proofs.Ytlhogkfmdnpmkaa.Pure
namespace Go.Proofs.Ytlhogkfmdnpmkaa.fnExactWholeOrder
open Go.ChangeShapes Go.WideShapes Go.ChangeAt Go.RowKit
open Go.Proofs.Ytlhogkfmdnpmkaa.Open Go.Proofs.Ytlhogkfmdnpmkaa.KindsWhole Go.Proofs.YtlhogkfmdnpmkaaW.PrintWords
set_option linter.unusedVariables false
theorem own:ownKnob Try.prog.godebug=none:=by kernel_rfl
theorem laidOut:laidOutB Try.prog=true:=by kernel_rfl
theorem lifted (os:Os) (started:os.Started) (H:Type) (enc:TypeId × Value→H) :
    ReturnsInHanded {} Try.checked os 3 .any (Rows.fnExactWholeOrderSpec.pre6 enc Try.prog Try.f3 Rows.fnExactWholeOrderRow.domain false) (Rows.fnExactWholeOrderSpec.post enc Try.prog Try.f3 false true false false):=by
  refine returnsInHanded_of_change_sized (C:=Try.checked) own started (by kernel_rfl) Try.func3
    (ChangeSpec.witness6 (enc:=enc) (C:=Try.checked) false ⟨#[],#[.slice none 0 0,.slice none 0 0],[]⟩ 8 (by kernel_rfl) (by kernel_rfl) (by kernel_rfl) (by kernel_rfl)) ?_
  intro W base args ds gs before hval0 hW hcnd hsz0 _
  have hval:∀ (j:Nat) t v,Try.f3.params[j]?=some t→args[j]?=some v→Value.okWide Try.prog W .any base t v:=hval0
  have hW':=hW
  obtain ⟨p,q,aB,hV,rfl,hfz,hnd⟩:=hW
  have hA:DataW.TrodAll enc Try.prog W 0 (fun _=>true) true Try.f3.params.toList args.toList ds p:=aB
  rw [Try.params3] at hA hval
  obtain ⟨v0,vs0,d0,ds0,p0,q0,hargs,rfl,rfl,h0,r0⟩:=trodAll_cons hA
  obtain ⟨v1,vs1,d1,ds1,p1,q1,rfl,rfl,rfl,h1,r1⟩:=trodAll_cons r0
  obtain ⟨rfl,rfl,rfl⟩:=trodAll_nil r1
  obtain rfl:args=#[v0,v1]:=by cases args;simp_all
  obtain ⟨rfl,rfl⟩:=trodVars_none hV
  obtain ⟨a0,len0,cap0,rfl⟩:=okWide_slice Try.underlying22 (hval 0 22 v0 rfl rfl)
  have k0:=h0
  have aC:∀ x ∈ p0,x.block<W.heap.size:=by obtain ⟨m,hm⟩:=k0;exact DataW.trod_lt m _ _ _ hm
  obtain ⟨z0,rfl,c0,m0,C0,w0⟩:=slice_arg Try.underlying22 (opens40 (enc:=enc)) h0
  obtain ⟨a1,len1,aA,rfl⟩:=okWide_slice Try.underlying23 (hval 1 23 v1 rfl rfl)
  have k1:=h1
  have aD:∀ x ∈ p1,x.block<W.heap.size:=by obtain ⟨m,hm⟩:=k1;exact DataW.trod_lt m _ _ _ hm
  obtain ⟨z1,rfl,c1,m1,C1,w1⟩:=slice_arg Try.underlying23 (opens3 (enc:=enc)) h1
  clear aB hval0 hsz0
  obtain ⟨k,hk⟩:=Pure.FnExactWholeOrder z0 z1 w0 (by unfold maxLen at m0;omega) w1 (by unfold maxLen at m1;omega)
  refine (GWhole.Xg.calls k a0 cap0 z0 a1 aA z1 true W C0 c0 C1 c1 hk).mono fun e W' ⟨he,bel⟩=>?_
  subst he
  exact ⟨_,rfl,_,_,_,[],_,[],hW',trodAll_mk1 (shut_bool Try.underlying4 _),(trodAll_cons_mk (Below.trod laidOut (by kernel_rfl) (of_decide_eq_true (by kernel_rfl)) k0 bel aC) (trodAll_cons_mk (Below.trod laidOut (by kernel_rfl) (of_decide_eq_true (by kernel_rfl)) k1 bel aD) trodAll_mk0)),rfl,bel.frame _,fun h=>by cases h⟩
theorem over:Rows.fnExactWholeOrderRow.holds Try.pinned (OpenSpec.ofChange Rows.fnExactWholeOrderSpec):=
  OpenClaim.holds_of_wide 3 Try.f3 rfl rfl rfl rfl rfl rfl rfl ⟨rfl,rfl,rfl,rfl,rfl⟩ rfl rfl rfl rfl rfl (by kernel_rfl) Try.func3 (by kernel_rfl)
    (of_decide_eq_true (by kernel_rfl)) (by unfold Func.isWrapper;first|(rw [if_pos (by decide +kernel)];kernel_rfl)|(rw [if_neg (by decide +kernel)];exact ⟨rfl,rfl⟩))
    (fun os started H enc _=>lifted os started H enc)
theorem proved:Rows.FnExactWholeOrderSaid:=over
end Go.Proofs.Ytlhogkfmdnpmkaa.fnExactWholeOrder
namespace Go.Proofs.Ytlhogkfmdnpmkaa
theorem fnExactWholeOrder_holds:Rows.FnExactWholeOrderSaid:=fnExactWholeOrder.proved
end Go.Proofs.Ytlhogkfmdnpmkaa
