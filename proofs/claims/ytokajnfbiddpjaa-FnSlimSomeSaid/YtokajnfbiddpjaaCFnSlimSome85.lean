import Derived.Test.YtokajnfbiddpjaaCFnSlimSome83
import Derived.Test.YtokajnfbiddpjaaCFnSlimSome28
import Derived.Test.YtokajnfbiddpjaaCFnSlimSome62
import Derived.Test.YtokajnfbiddpjaaCFnSlimSome78
import Derived.Test.YtokajnfbiddpjaaCFnSlimSome23
namespace Go.Proofs.Ytokajnfbiddpjaa.Pure
open Go.RowKit Go.Proofs.Ytokajnfbiddpjaa.GSlim Go.Proofs.YtokajnfbiddpjaaW.PrintWords Go.Proofs.YtokajnfbiddpjaaW.PrintLast Go.Proofs.YtokajnfbiddpjaaW.PrintMore Go.Proofs.Ytokajnfbiddpjaa.Evt
set_option linter.unusedVariables false
set_option linter.unusedSimpArgs false
theorem rdS (c:List Stmt) (i:Nat):Xc c (i:Int)=c.getD i z63:=by unfold Xc;simp
def Trues {α:Type}:α→Prop:=fun _=>True
theorem leaf_ok (a b c d:Int) (l m:List Stmt) (room:Int):Gives (fun k=>Xr.f k a b c d l m room) Trues:=by
  have h1:∀ x5 x6:Bool,Gives (fun k=>Xr.j1 k room x5 x6 a b c d l m) Trues:=fun x5 x6=>by
    refine Gives.step ?_
    simp only [Xr.j1]
    repeat' first
      |exact Gives.pure trivial
      |refine Gives.ite (fun _=>?_) (fun _=>?_)
      |refine Gives.bind (P:=Trues) ?_ (fun _ _=>?_)
      |(unfold Uq.f)
  have h0:∀ x5:Bool,Gives (fun k=>Xr.j0 k room x5 a b c d l m) Trues:=fun x5=>by
    refine Gives.step ?_
    simp only [Xr.j0]
    exact Gives.ite (fun _=>h1 _ _) (fun _=>h1 _ _)
  unfold Xr.f
  exact Gives.ite (fun _=>h0 _) (fun _=>h0 _)
theorem list_loop {l:List Stmt} (hl:l.length≤1000000) (deep room:Int) (h:∀ s ∈ l,Gives (fun k=>Yg.f k s.f0 s.f1 s.f2 s.f3 s.f4 s.f5 deep room) Trues):∀ (d j:Nat),j+d=l.length→Gives (fun k=>Yl.l0 k l deep room (j:Int)) Trues
  |0,j,hj=>by
    refine Gives.step ?_
    simp only [Yl.l0]
    exact Gives.neg (by omega) (Gives.pure trivial)
  |d+1,j,hj=>by
    refine Gives.step ?_
    simp only [Yl.l0,rdS]
    refine Gives.pos (by omega) (Gives.pos (by omega) (Gives.bind (h _ (getD_mem _ (by omega))) (fun b _=>Gives.ite (fun _=>?_) (fun _=>Gives.pure trivial))))
    rw [w64n j (by omega)]
    exact list_loop hl deep room h d (j+1) (by omega)
theorem list_of {l:List Stmt} (hl:l.length≤1000000) (deep room:Int) (h:∀ s ∈ l,Gives (fun k=>Yg.f k s.f0 s.f1 s.f2 s.f3 s.f4 s.f5 deep room) Trues):Gives (fun k=>Yl.f k l deep room) Trues:=by
  refine Gives.step ?_
  simp only [Yl.f]
  exact list_loop hl deep room h l.length 0 (by omega)
theorem stmt_ok:∀ (d:Nat) (s:Stmt),okT d s→∀ deep room:Int,Gives (fun k=>Yg.f k s.f0 s.f1 s.f2 s.f3 s.f4 s.f5 deep room) Trues
  |0,s,h,_,_=>h.elim
  |d+1,s,h,deep,room=>by
    obtain ⟨h4,h5,h6,h7⟩:=h
    have l4:∀ D R,Gives (fun k=>Yl.f k s.f4 D R) Trues:=fun D R=>list_of (by omega) D R (fun x hx=>stmt_ok d x (h6 x hx) D R)
    have l5:∀ D R,Gives (fun k=>Yl.f k s.f5 D R) Trues:=fun D R=>list_of (by omega) D R (fun x hx=>stmt_ok d x (h7 x hx) D R)
    have j1:∀ aB (aC:Bool),Gives (fun k=>Yg.j1 k deep room aB aC s.f0 s.f1 s.f2 s.f3 s.f4 s.f5) Trues:=fun aB aC=>by
      refine Gives.step ?_
      simp only [Yg.j1]
      repeat' first
        |exact Gives.pure trivial
        |exact l4 _ _
        |exact l5 _ _
        |exact leaf_ok _ _ _ _ _ _ _
        |refine Gives.ite (fun _=>?_) (fun _=>?_)
        |refine Gives.bind (P:=Trues) ?_ (fun _ _=>?_)
    have j0:∀ x:Bool,Gives (fun k=>Yg.j0 k deep room x s.f0 s.f1 s.f2 s.f3 s.f4 s.f5) Trues:=fun x=>by
      refine Gives.step ?_
      simp only [Yg.j0]
      exact Gives.ite (fun _=>Gives.pure trivial) (fun _=>Gives.ite (fun _=>j1 _ _) (fun _=>j1 _ _))
    refine Gives.step ?_
    simp only [Yg.f]
    exact Gives.ite (fun _=>j0 _) (fun _=>Gives.ite (fun _=>j0 _) (fun _=>j0 _))
theorem many_loop {l:List Stmt} (hl:l.length≤1000000) (deep:Int) (h:∀ s ∈ l,Gives (fun k=>Xw.f k s.f4 (wrap64 (deep - 1))) Trues∧Gives (fun k=>Xw.f k s.f5 (wrap64 (deep - 1))) Trues):∀ (d j:Nat) (acc:Int),j+d=l.length→Gives (fun k=>Xw.l0 k l deep acc (j:Int)) Trues
  |0,j,acc,hj=>by
    refine Gives.step ?_
    simp only [Xw.l0]
    refine Gives.neg (by omega) (Gives.step ?_)
    simp only [Xw.j1]
    exact Gives.neg (by simp) (Gives.pure trivial)
  |d+1,j,acc,hj=>by
    refine Gives.step ?_
    simp only [Xw.l0]
    refine Gives.pos (by omega) (Gives.step ?_)
    simp only [Xw.j1,rdS]
    refine Gives.ite (fun _=>?_) (fun _=>Gives.pure trivial)
    obtain ⟨g4,g5⟩:=h (l.getD j z63) (getD_mem _ (by omega))
    refine Gives.pos (by omega) (Gives.pos (by omega) (Gives.bind g4 (fun u _=>Gives.bind g5 (fun v _=>?_))))
    rw [w64n j (by omega)]
    exact many_loop hl deep h d (j+1) _ (by omega)
theorem many_ok:∀ (d:Nat) (l:List Stmt),l.length≤1000000→(∀ s ∈ l,okT d s)→∀ deep:Int,Gives (fun k=>Xw.f k l deep) Trues
  |0,l,hl,h,deep=>by
    refine Gives.step ?_
    simp only [Xw.f]
    exact many_loop hl deep (fun s hs=>(h s hs).elim) l.length 0 0 (by omega)
  |d+1,l,hl,h,deep=>by
    refine Gives.step ?_
    simp only [Xw.f]
    refine many_loop hl deep (fun s hs=>?_) l.length 0 0 (by omega)
    obtain ⟨h4,h5,h6,h7⟩:=h s hs
    exact ⟨many_ok d s.f4 (by omega) h6 _,many_ok d s.f5 (by omega) h7 _⟩
theorem stmtsOk_ok (l:List Stmt) (hl:l.length≤1000000) (d:Nat) (h:∀ s ∈ l,okT d s):Gives (fun k=>Zg.f k l) Trues:=by
  unfold Zg.f
  exact Gives.bind (list_of hl _ _ (fun s hs=>stmt_ok d s (h s hs) _ _)) (fun b _=>Gives.ite (fun _=>Gives.bind (many_ok d l hl h _) (fun _ _=>Gives.pure trivial)) (fun _=>Gives.pure trivial))
theorem of_loop {l:List Stmt} (hl:l.length≤100) (K:Nat) (hK:K≤10000) (aA:Int) (h:∀ s ∈ l,∀ a:Int,Gives (fun k=>Zd.f k s.f0 s.f1 s.f2 s.f3 s.f4 s.f5 a) (fun r=>r.length≤K)):∀ (d j:Nat) (acc:List (S31)),j+d=l.length→acc.length≤j * K→Gives (fun k=>Zc.l0 k l aA acc (j:Int)) (fun r=>r.length≤l.length * K)
  |0,j,acc,hj,ha=>by
    refine Gives.step ?_
    simp only [Zc.l0]
    obtain rfl:j=l.length:=by omega
    exact Gives.neg (by omega) (Gives.pure ha)
  |d+1,j,acc,hj,ha=>by
    refine Gives.step ?_
    simp only [Zc.l0,rdS]
    refine Gives.pos (by omega) (Gives.pos (by omega) (Gives.bind (h _ (getD_mem _ (by omega)) _) (fun r hr=>?_)))
    have hjk:j * K≤100 * 10000:=Nat.mul_le_mul (by omega) hK
    refine Gives.pos (by omega) ?_
    rw [w64n j (by omega)]
    refine of_loop hl K hK aA h d (j+1) _ (by omega) ?_
    rw [List.length_append,Nat.succ_mul]
    omega
theorem some_loop {b:List Int} (hb:Bytes b):∀ (m:Nat) (acc:List Stmt) (p:Int),acc.length+m≤6→0≤p→p+m * cost 3≤100000→(∀ x ∈ acc,okT 3 x)→
    Gives (fun k=>Zb.l0 k acc (m:Int) b p) (fun r=>r.1.length≤6∧(∀ x ∈ r.1,okT 3 x)∧p≤r.2∧r.2≤p+m * cost 3)
  |0,acc,p,h1,h2,h3,h4=>by
    refine Gives.step ?_
    simp only [Zb.l0]
    exact Gives.neg (by omega) (Gives.pure ⟨by simp only [];omega,h4,by simp only [];omega,by simp only [];omega⟩)
  |m+1,acc,p,h1,h2,h3,h4=>by
    have hc:cost 3=584:=rfl
    rw [hc] at h3
    have e:wrap64 (((m+1:Nat):Int) - 1)=(m:Int):=by rw [w64 (by omega) (by omega)];omega
    refine Gives.step ?_
    simp only [Zb.l0,Option.bind_some,List.nil_append,List.length_nil]
    refine Gives.pos (by omega) (Gives.pos (by omega) (Gives.bind (draw_ok hb 2 (by omega) (-1) p h2 (by rw [hc];omega)) (fun r hr=>?_)))
    obtain ⟨r1,r2,r3⟩:=hr
    rw [hc] at r3
    have hx:∀ x ∈ acc ++ [(⟨r.1,r.2.1,r.2.2.1,r.2.2.2.1,r.2.2.2.2.1,r.2.2.2.2.2.1⟩:Stmt)],okT 3 x:=fun x hx=>by
      rcases List.mem_append.1 hx with hx|hx
      · exact h4 x hx
      · obtain rfl:=List.mem_singleton.1 hx
        exact r1
    refine Gives.pos (by omega) (Gives.bind (stmtsOk_ok _ (by simp;omega) 3 hx) (fun t _=>?_))
    rw [e]
    refine Gives.ite (fun _=>?_) (fun _=>?_)
    · refine (some_loop hb m _ _ (by simp;omega) (by omega) (by rw [hc];omega) hx).mono (fun v hv=>?_)
      obtain ⟨v1,v2,v3,v4⟩:=hv
      rw [hc] at v4 ⊢
      exact ⟨v1,v2,by omega,by omega⟩
    · refine (some_loop hb m _ _ (by omega) (by omega) (by rw [hc];omega) h4).mono (fun v hv=>?_)
      obtain ⟨v1,v2,v3,v4⟩:=hv
      rw [hc] at v4 ⊢
      exact ⟨v1,v2,by omega,by omega⟩
theorem some_ok {b:List Int} (hb:Bytes b) {p:Int} (hp:0≤p) (hp2:p≤50000):Gives (fun k=>Zb.f k b p) (fun r=>r.1.length≤6∧(∀ x ∈ r.1,okT 3 x)∧p≤r.2∧r.2≤p+4000):=by
  have hc:cost 3=584:=rfl
  unfold Zb.f
  refine Gives.bind (Gives.num hb hp (by omega) (by simp) (by simp)) (fun r hr=>?_)
  obtain ⟨r1,r2⟩:=hr
  have hr6:0≤r.1∧r.1≤6:=by simp at r1;omega
  obtain ⟨m,hm⟩:∃ m:Nat,r.1=(m:Int):=⟨r.1.toNat,by omega⟩
  rw [hm,r2]
  refine (some_loop hb m [] (p+1) (by simp;omega) (by omega) (by rw [hc];omega) (by simp)).mono (fun v hv=>?_)
  obtain ⟨v1,v2,v3,v4⟩:=hv
  rw [hc] at v4
  exact ⟨v1,v2,by omega,by omega⟩
end Go.Proofs.Ytokajnfbiddpjaa.Pure
namespace Go.Proofs.Ytokajnfbiddpjaa.Pure
open Go.RowKit Go.Proofs.Ytokajnfbiddpjaa.GSlim Go.Proofs.YtokajnfbiddpjaaW.PrintWords Go.Proofs.YtokajnfbiddpjaaW.PrintLast Go.Proofs.YtokajnfbiddpjaaW.PrintMore Go.Proofs.Ytokajnfbiddpjaa.Evt
set_option linter.unusedVariables false
set_option linter.unusedSimpArgs false
theorem okT_more:∀ (d:Nat) (s:Stmt),okT d s→okT (d+1) s
  |0,s,h=>h.elim
  |d+1,s,h=>⟨h.1,h.2.1,fun x hx=>okT_more d x (h.2.2.1 x hx),fun x hx=>okT_more d x (h.2.2.2 x hx)⟩
theorem eta_stmt (s:Stmt):(⟨s.f0,s.f1,s.f2,s.f3,s.f4,s.f5⟩:Stmt)=s:=by cases s;rfl
theorem set_all {P:Stmt→Prop} {l:List Stmt} (h:∀ x ∈ l,P x) (i:Nat) {y:Stmt} (hy:P y):∀ x ∈ l.set i y,P x:=fun x hx=>by
  rcases List.mem_or_eq_of_mem_set hx with h'|h'
  · exact h x h'
  · rw [h'];exact hy
theorem fill_ok {P:Stmt→Prop} (hP:P ⟨11,0,0,0,[],[]⟩) (b:List Int) (p:Int):∀ (d:Nat) (l:List Stmt),l.length+d=15→(∀ x ∈ l,P x)→Gives (fun k=>Zh.l0 k l b p) (fun r=>r.1.length≤15∧(∀ x ∈ r.1,P x)∧r.2=p)
  |0,l,hl,h=>by
    refine Gives.step ?_
    simp only [Zh.l0]
    exact Gives.neg (by omega) (Gives.pure ⟨by simp only [];omega,h,rfl⟩)
  |d+1,l,hl,h=>by
    refine Gives.step ?_
    simp only [Zh.l0]
    refine Gives.pos (by omega) (Gives.pos (by omega) (fill_ok hP b p d _ (by simp;omega) (fun x hx=>?_)))
    rcases List.mem_append.1 hx with hx|hx
    · exact h x hx
    · rw [List.mem_singleton.1 hx];exact hP
set_option maxHeartbeats 4000000 in
theorem bent2 {b:List Int} (hb:Bytes b) (d:Nat) (hd:1≤d) (c:List Stmt) (hc:c.length≤15) (h:∀ s ∈ c,okT d s) {p:Int} (hp:0≤p) (hp2:p≤90000) :
    Gives (fun k=>Zh.f k b p c) (fun r=>r.1.length≤15∧(∀ s ∈ r.1,okT (d+1) s)∧p≤r.2∧r.2≤p+3):=by
  have hm:∀ s ∈ c,okT (d+1) s:=fun s hs=>okT_more d s (h s hs)
  unfold Zh.f
  simp only [Option.bind_some,List.nil_append,List.length_nil]
  refine Gives.pos (by omega) (Gives.ite (fun _=>Gives.pure ⟨hc,hm,by simp only [];omega,by simp only [];omega⟩) (fun hf=>?_))
  refine Gives.bind (Gives.pick hb (by omega) (by omega) (by omega) (by omega)) (fun r hr=>?_)
  obtain ⟨r0,r1,r2⟩:=hr
  rw [r2]
  refine Gives.bind (Gives.pick hb (by omega) (by omega) (by omega) (by omega)) (fun s hs=>?_)
  obtain ⟨s0,s1,s2⟩:=hs
  rw [s2]
  obtain ⟨m,hmm⟩:∃ m:Nat,r.1=(m:Int):=⟨r.1.toNat,by omega⟩
  rw [hmm]
  have hml:m<c.length:=by omega
  have t1:((m:Int)).toNat=m:=rfl
  simp only [t1,rdS]
  have old:=h (c.getD m z63) (getD_mem _ hml)
  have oldm:=hm (c.getD m z63) (getD_mem _ hml)
  have hd':∃ e,d=e+1:=⟨d - 1,by omega⟩
  have leaf:okT d ⟨11,0,0,0,[],[]⟩:=okT_leaf d hd _ _ _ _
  have done:∀ (y:Stmt) (q:Int),okT (d+1) y→q≤p+3→p≤q→Gives (fun _=>some (c.set m y,q)) (fun r=>r.1.length≤15∧(∀ s ∈ r.1,okT (d+1) s)∧p≤r.2∧r.2≤p+3):=fun y q hy h1 h2=>
    Gives.pure ⟨by simp only [List.length_set];exact hc,set_all hm m hy,h2,h1⟩
  refine Gives.ite (fun _=>?_) (fun _=>Gives.ite (fun _=>?_) (fun _=>Gives.ite (fun _=>?_) (fun _=>Gives.ite (fun _=>?_) (fun _=>Gives.ite (fun _=>?_) (fun _=>Gives.ite (fun _=>?_) (fun _=>Gives.ite (fun _=>?_) (fun _=>?_)))))))
  · refine Gives.bind (Gives.num hb (by omega) (by omega) (by simp) (by simp)) (fun u hu=>?_)
    obtain ⟨_,u2⟩:=hu
    exact Gives.pos (by omega) (Gives.pos (by omega) (done _ _ ⟨oldm.1,oldm.2.1,oldm.2.2.1,oldm.2.2.2⟩ (by omega) (by omega)))
  · refine Gives.bind (Gives.num hb (by omega) (by omega) (by simp) (by simp)) (fun u hu=>?_)
    obtain ⟨_,u2⟩:=hu
    exact Gives.pos (by omega) (Gives.pos (by omega) (done _ _ ⟨oldm.1,oldm.2.1,oldm.2.2.1,oldm.2.2.2⟩ (by omega) (by omega)))
  · refine Gives.bind (Gives.num hb (by omega) (by omega) (by simp) (by simp)) (fun u hu=>?_)
    obtain ⟨_,u2⟩:=hu
    exact Gives.pos (by omega) (Gives.pos (by omega) (done _ _ ⟨oldm.1,oldm.2.1,oldm.2.2.1,oldm.2.2.2⟩ (by omega) (by omega)))
  · refine Gives.bind (Gives.num hb (by omega) (by omega) (by simp) (by simp)) (fun u hu=>?_)
    obtain ⟨_,u2⟩:=hu
    exact Gives.pos (by omega) (Gives.pos (by omega) (done _ _ ⟨oldm.1,oldm.2.1,oldm.2.2.1,oldm.2.2.2⟩ (by omega) (by omega)))
  · exact Gives.pos (by omega) (Gives.pos (by omega) (done _ _ ⟨oldm.1,by simp,oldm.2.2.1,fun x hx=>by rw [List.mem_singleton.1 hx];exact leaf⟩ (by omega) (by omega)))
  · exact Gives.pos (by omega) (Gives.pos (by omega) (done _ _ ⟨by simp,oldm.2.1,fun x hx=>by rw [List.mem_singleton.1 hx,eta_stmt];exact old,oldm.2.2.2⟩ (by omega) (by omega)))
  · refine (fill_ok (P:=okT (d+1)) (okT_more _ _ leaf) b _ (15 - c.length) c (by omega) hm).mono (fun v hv=>⟨hv.1,hv.2.1,?_,?_⟩)
    · rw [hv.2.2];omega
    · rw [hv.2.2];omega
  · exact Gives.pure ⟨hc,hm,by simp only [];omega,by simp only [];omega⟩
theorem short_in:∀ (e d:Nat) (s:Stmt),okT d s→Stmts.Short e s.f4∧Stmts.Short e s.f5
  |_,0,s,h=>h.elim
  |0,d+1,s,h=>⟨by have:=h.1;show s.f4.length≤_;omega,by have:=h.2.1;show s.f5.length≤_;omega⟩
  |e+1,d+1,s,h=>⟨⟨by have:=h.1;omega,fun x hx=>short_in e d x (h.2.2.1 x hx)⟩,⟨by have:=h.2.1;omega,fun x hx=>short_in e d x (h.2.2.2 x hx)⟩⟩
theorem drawList_ok (l:List Int) (h:∀ x ∈ l,(Lit.int .u8 x).wf=true):Gives (fun k=>spec_DrawCodeOf.f k l) (fun c=>Stmts.Short 3 c):=by
  obtain ⟨b,hb1,hb⟩:=open_ok l h
  unfold spec_DrawCodeOf.f spec_DrawStmtsOk.f
  refine Gives.bind (P:=fun c:List Stmt=>Stmts.Short 3 c) ?_ (fun v hv=>Gives.pure hv)
  rw [hb1]
  simp only [Option.bind_some]
  refine Gives.bind (some_ok hb (by omega) (by omega)) (fun r hr=>?_)
  obtain ⟨r1,r2,r3,r4⟩:=hr
  refine Gives.bind (bent2 hb 3 (by omega) r.1 (by omega) r2 (by omega) (by omega)) (fun s hs=>?_)
  obtain ⟨s1,s2,s3,s4⟩:=hs
  refine Gives.bind (bent2 hb 4 (by omega) s.1 (by omega) s2 (by omega) (by omega)) (fun t ht=>?_)
  obtain ⟨t1,t2,_,_⟩:=ht
  exact Gives.pure ⟨by omega,fun x hx=>short_in 2 5 x (t2 x hx)⟩
end Go.Proofs.Ytokajnfbiddpjaa.Pure
