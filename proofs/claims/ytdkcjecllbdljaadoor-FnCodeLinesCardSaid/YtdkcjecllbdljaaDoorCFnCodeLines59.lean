import Derived.Test.YtdkcjecllbdljaaDoorCFnCodeLines58
import Derived.Test.YtdkcjecllbdljaaDoorCFnCodeLines50
import Derived.Test.YtdkcjecllbdljaaDoorCFnCodeLines48
import Derived.Test.YtdkcjecllbdljaaDoorCFnCodeLines44
namespace Go.Proofs.YtdkcjecllbdljaaDoor.Pure
open Go.RowKit Go.Proofs.YtdkcjecllbdljaaDoor.GCode Go.Proofs.YtdkcjecllbdljaaDoorW.PrintWords Go.Proofs.YtdkcjecllbdljaaDoorW.PrintLast Go.Proofs.YtdkcjecllbdljaaDoorW.PrintMore Go.Proofs.YtdkcjecllbdljaaDoor.Evt
set_option linter.unusedVariables false
set_option linter.unusedSimpArgs false
theorem rdS (c:List Stmt) (i:Nat):Yv c (i:Int)=c.getD i z62:=by unfold Yv;simp
def Trues {α:Type}:α→Prop:=fun _=>True
theorem leaf_ok (a b c d:Int) (l m:List Stmt) (room:Int):Gives (fun k=>Xr.f k a b c d l m room) Trues:=by
  have h1:∀ x5 x6:Bool,Gives (fun k=>Xr.j1 k room x5 x6 a b c d l m) Trues:=fun x5 x6=>by
    refine Gives.step ?_
    simp only [Xr.j1]
    repeat' first
      |exact Gives.pure trivial
      |refine Gives.ite (fun _=>?_) (fun _=>?_)
      |refine Gives.bind (P:=Trues) ?_ (fun _ _=>?_)
      |(unfold Ud.f)
  have h0:∀ x5:Bool,Gives (fun k=>Xr.j0 k room x5 a b c d l m) Trues:=fun x5=>by
    refine Gives.step ?_
    simp only [Xr.j0]
    exact Gives.ite (fun _=>h1 _ _) (fun _=>h1 _ _)
  unfold Xr.f
  exact Gives.ite (fun _=>h0 _) (fun _=>h0 _)
theorem list_loop {l:List Stmt} (hl:l.length≤1000000) (deep room:Int) (h:∀ s ∈ l,Gives (fun k=>Yw.f k s.f0 s.f1 s.f2 s.f3 s.f4 s.f5 deep room) Trues):∀ (d j:Nat),j+d=l.length→Gives (fun k=>Yp.l0 k l deep room (j:Int)) Trues
  |0,j,hj=>by
    refine Gives.step ?_
    simp only [Yp.l0]
    exact Gives.neg (by omega) (Gives.pure trivial)
  |d+1,j,hj=>by
    refine Gives.step ?_
    simp only [Yp.l0,rdS]
    refine Gives.pos (by omega) (Gives.pos (by omega) (Gives.bind (h _ (getD_mem _ (by omega))) (fun b _=>Gives.ite (fun _=>?_) (fun _=>Gives.pure trivial))))
    rw [w64n j (by omega)]
    exact list_loop hl deep room h d (j+1) (by omega)
theorem list_of {l:List Stmt} (hl:l.length≤1000000) (deep room:Int) (h:∀ s ∈ l,Gives (fun k=>Yw.f k s.f0 s.f1 s.f2 s.f3 s.f4 s.f5 deep room) Trues):Gives (fun k=>Yp.f k l deep room) Trues:=by
  refine Gives.step ?_
  simp only [Yp.f]
  exact list_loop hl deep room h l.length 0 (by omega)
theorem stmt_ok:∀ (d:Nat) (s:Stmt),okT d s→∀ deep room:Int,Gives (fun k=>Yw.f k s.f0 s.f1 s.f2 s.f3 s.f4 s.f5 deep room) Trues
  |0,s,h,_,_=>h.elim
  |d+1,s,h,deep,room=>by
    obtain ⟨h4,h5,h6,h7⟩:=h
    have l4:∀ D R,Gives (fun k=>Yp.f k s.f4 D R) Trues:=fun D R=>list_of (by omega) D R (fun x hx=>stmt_ok d x (h6 x hx) D R)
    have l5:∀ D R,Gives (fun k=>Yp.f k s.f5 D R) Trues:=fun D R=>list_of (by omega) D R (fun x hx=>stmt_ok d x (h7 x hx) D R)
    have j1:∀ x21 (x22:Bool),Gives (fun k=>Yw.j1 k deep room x21 x22 s.f0 s.f1 s.f2 s.f3 s.f4 s.f5) Trues:=fun x21 x22=>by
      refine Gives.step ?_
      simp only [Yw.j1]
      repeat' first
        |exact Gives.pure trivial
        |exact l4 _ _
        |exact l5 _ _
        |exact leaf_ok _ _ _ _ _ _ _
        |refine Gives.ite (fun _=>?_) (fun _=>?_)
        |refine Gives.bind (P:=Trues) ?_ (fun _ _=>?_)
    have j0:∀ x:Bool,Gives (fun k=>Yw.j0 k deep room x s.f0 s.f1 s.f2 s.f3 s.f4 s.f5) Trues:=fun x=>by
      refine Gives.step ?_
      simp only [Yw.j0]
      exact Gives.ite (fun _=>Gives.pure trivial) (fun _=>Gives.ite (fun _=>j1 _ _) (fun _=>j1 _ _))
    refine Gives.step ?_
    simp only [Yw.f]
    exact Gives.ite (fun _=>j0 _) (fun _=>Gives.ite (fun _=>j0 _) (fun _=>j0 _))
theorem many_loop {l:List Stmt} (hl:l.length≤1000000) (deep:Int) (h:∀ s ∈ l,Gives (fun k=>Yb.f k s.f4 (wrap64 (deep - 1))) Trues∧Gives (fun k=>Yb.f k s.f5 (wrap64 (deep - 1))) Trues):∀ (d j:Nat) (acc:Int),j+d=l.length→Gives (fun k=>Yb.l0 k l deep acc (j:Int)) Trues
  |0,j,acc,hj=>by
    refine Gives.step ?_
    simp only [Yb.l0]
    refine Gives.neg (by omega) (Gives.step ?_)
    simp only [Yb.j1]
    exact Gives.neg (by simp) (Gives.pure trivial)
  |d+1,j,acc,hj=>by
    refine Gives.step ?_
    simp only [Yb.l0]
    refine Gives.pos (by omega) (Gives.step ?_)
    simp only [Yb.j1,rdS]
    refine Gives.ite (fun _=>?_) (fun _=>Gives.pure trivial)
    obtain ⟨g4,g5⟩:=h (l.getD j z62) (getD_mem _ (by omega))
    refine Gives.pos (by omega) (Gives.pos (by omega) (Gives.bind g4 (fun u _=>Gives.bind g5 (fun v _=>?_))))
    rw [w64n j (by omega)]
    exact many_loop hl deep h d (j+1) _ (by omega)
theorem many_ok:∀ (d:Nat) (l:List Stmt),l.length≤1000000→(∀ s ∈ l,okT d s)→∀ deep:Int,Gives (fun k=>Yb.f k l deep) Trues
  |0,l,hl,h,deep=>by
    refine Gives.step ?_
    simp only [Yb.f]
    exact many_loop hl deep (fun s hs=>(h s hs).elim) l.length 0 0 (by omega)
  |d+1,l,hl,h,deep=>by
    refine Gives.step ?_
    simp only [Yb.f]
    refine many_loop hl deep (fun s hs=>?_) l.length 0 0 (by omega)
    obtain ⟨h4,h5,h6,h7⟩:=h s hs
    exact ⟨many_ok d s.f4 (by omega) h6 _,many_ok d s.f5 (by omega) h7 _⟩
theorem stmtsOk_ok (l:List Stmt) (hl:l.length≤1000000) (d:Nat) (h:∀ s ∈ l,okT d s):Gives (fun k=>Ue.f k l) Trues:=by
  unfold Ue.f
  exact Gives.bind (list_of hl _ _ (fun s hs=>stmt_ok d s (h s hs) _ _)) (fun b _=>Gives.ite (fun _=>Gives.bind (many_ok d l hl h _) (fun _ _=>Gives.pure trivial)) (fun _=>Gives.pure trivial))
def long:Nat→Nat
  |0=>0
  |d+1=>2+6 * long d
theorem of_loop {l:List Stmt} (hl:l.length≤100) (K:Nat) (hK:K≤10000) (at0:Int) (h:∀ s ∈ l,∀ a:Int,Gives (fun k=>Yz.f k s.f0 s.f1 s.f2 s.f3 s.f4 s.f5 a) (fun r=>r.length≤K)):∀ (d j:Nat) (acc:List (S36)),j+d=l.length→acc.length≤j * K→Gives (fun k=>Zc.l0 k l at0 acc (j:Int)) (fun r=>r.length≤l.length * K)
  |0,j,acc,hj,ha=>by
    refine Gives.step ?_
    simp only [Zc.l0]
    obtain rfl:j=l.length:=by omega
    exact Gives.neg (by omega) (Gives.pure ha)
  |d+1,j,acc,hj,ha=>by
    refine Gives.step ?_
    simp only [Zc.l0,rdS]
    refine Gives.pos (by omega) (Gives.pos (by omega) (Gives.bind (h _ (getD_mem _ (by omega)) _) (fun r hr=>?_)))
    have hjk:j * K≤100 * 10000:=Nat.mul_le_mul (by omega) hK
    refine Gives.pos (by omega) ?_
    rw [w64n j (by omega)]
    refine of_loop hl K hK at0 h d (j+1) _ (by omega) ?_
    rw [List.length_append,Nat.succ_mul]
    omega
theorem of_list {l:List Stmt} (hl:l.length≤100) (K:Nat) (hK:K≤10000) (h:∀ s ∈ l,∀ a:Int,Gives (fun k=>Yz.f k s.f0 s.f1 s.f2 s.f3 s.f4 s.f5 a) (fun r=>r.length≤K)) (at0:Int):Gives (fun k=>Zc.f k l at0) (fun r=>r.length≤l.length * K):=by
  refine Gives.step ?_
  simp only [Zc.f]
  exact of_loop hl K hK at0 h l.length 0 [] (by omega) (by simp)
theorem one_ok:∀ (d:Nat),long d≤1000→∀ (s:Stmt),okT d s→∀ a:Int,Gives (fun k=>Yz.f k s.f0 s.f1 s.f2 s.f3 s.f4 s.f5 a) (fun r=>r.length≤long d)
  |0,_,s,h,_=>h.elim
  |d+1,hd,s,h,a=>by
    obtain ⟨h4,h5,h6,h7⟩:=h
    have hld:long (d+1)=2+6 * long d:=rfl
    have ih:=one_ok d (by omega)
    have g4:∀ a,Gives (fun k=>Zc.f k s.f4 a) (fun r=>r.length≤3 * long d):=fun a=>(of_list (by omega) (long d) (by omega) (fun x hx=>ih x (h6 x hx)) a).mono (fun r hr=>Nat.le_trans hr (Nat.mul_le_mul_right _ h4))
    have g5:∀ a,Gives (fun k=>Zc.f k s.f5 a) (fun r=>r.length≤3 * long d):=fun a=>(of_list (by omega) (long d) (by omega) (fun x hx=>ih x (h7 x hx)) a).mono (fun r hr=>Nat.le_trans hr (Nat.mul_le_mul_right _ h5))
    have j0:∀ x12 (x94:Bool),Gives (fun k=>Yz.j0 k x12 x94 s.f0 s.f1 s.f2 s.f3 s.f4 s.f5) (fun r=>r.length≤long (d+1)):=fun x12 x94=>by
      refine Gives.step ?_
      simp only [Yz.j0]
      repeat' first
        |exact Gives.pure (by simp;omega)
        |refine Gives.ite (fun _=>?_) (fun _=>?_)
    refine Gives.step ?_
    simp only [Yz.f]
    refine Gives.ite (fun _=>?_) (fun _=>Gives.ite (fun _=>?_) (fun _=>Gives.ite (fun _=>?_) (fun _=>?_)))
    · refine Gives.bind (g4 _) (fun u hu=>Gives.bind (g5 _) (fun v hv=>?_))
      simp only [Option.bind_some]
      refine Gives.pos (by simp;omega) (Gives.pos (by simp;omega) (Gives.pos (by simp;omega) (Gives.pure (by simp;omega))))
    · refine Gives.bind (g4 _) (fun u hu=>?_)
      simp only [Option.bind_some]
      refine Gives.pos (by simp;omega) (Gives.pos (by simp;omega) (Gives.pure (by simp;omega)))
    · refine Gives.bind (g4 _) (fun u hu=>?_)
      simp only [Option.bind_some]
      refine Gives.pos (by simp;omega) (Gives.pos (by simp;omega) (Gives.pure (by simp;omega)))
    · repeat' first
        |exact j0 _ _
        |refine Gives.ite (fun _=>?_) (fun _=>?_)
theorem codeOf_ok (l:List Stmt) (hl:l.length≤6) (h:∀ s ∈ l,okT 3 s):Gives (fun k=>spec_CodeOf.f k l) (fun r=>r.length≤600):=by
  have h3:long 3=86:=rfl
  unfold spec_CodeOf.f
  refine Gives.bind (stmtsOk_ok l (by omega) 3 h) (fun b _=>Gives.ite (fun _=>?_) (fun _=>Gives.pure (by simp)))
  refine Gives.bind (of_list (by omega) (long 3) (by omega) (fun s hs a=>one_ok 3 (by omega) s (h s hs) a) 0) (fun r hr=>?_)
  have:l.length * long 3≤6 * 86:=Nat.mul_le_mul hl (by omega)
  exact Gives.pos (by omega) (Gives.pure (by simp;omega))
theorem some_loop {b:List Int} (hb:Bytes b):∀ (m:Nat) (acc:List Stmt) (p:Int),acc.length+m≤6→0≤p→p+m * cost 3≤100000→(∀ x ∈ acc,okT 3 x)→
    Gives (fun k=>Yy.l0 k acc (m:Int) b p) (fun r=>r.1.length≤6∧(∀ x ∈ r.1,okT 3 x)∧p≤r.2∧r.2≤p+m * cost 3)
  |0,acc,p,h1,h2,h3,h4=>by
    refine Gives.step ?_
    simp only [Yy.l0]
    exact Gives.neg (by omega) (Gives.pure ⟨by simp only [];omega,h4,by simp only [];omega,by simp only [];omega⟩)
  |m+1,acc,p,h1,h2,h3,h4=>by
    have hc:cost 3=584:=rfl
    rw [hc] at h3
    have e:wrap64 (((m+1:Nat):Int) - 1)=(m:Int):=by rw [w64 (by omega) (by omega)];omega
    refine Gives.step ?_
    simp only [Yy.l0,Option.bind_some,List.nil_append,List.length_nil]
    refine Gives.pos (by omega) (Gives.pos (by omega) (Gives.bind (draw_ok hb 2 (by omega) (-1) p h2 (by rw [hc];omega)) (fun r hr=>?_)))
    obtain ⟨r1,r2,r3⟩:=hr
    rw [hc] at r3
    have hx:∀ x ∈ acc ++ [(⟨r.1,r.2.1,r.2.2.1,r.2.2.2.1,r.2.2.2.2.1,r.2.2.2.2.2.1⟩:Stmt)],okT 3 x:=fun x hx=>by
      rcases List.mem_append.1 hx with hx|hx
      · exact h4 x hx
      · obtain rfl:=List.mem_singleton.1 hx
        exact r1
    refine Gives.pos (by omega) (Gives.bind (stmtsOk_ok _ (by simp;omega) 3 hx) (fun t _=>?_))
    rw [e]
    refine Gives.ite (fun _=>?_) (fun _=>?_)
    · refine (some_loop hb m _ _ (by simp;omega) (by omega) (by rw [hc];omega) hx).mono (fun v hv=>?_)
      obtain ⟨v1,v2,v3,v4⟩:=hv
      rw [hc] at v4 ⊢
      exact ⟨v1,v2,by omega,by omega⟩
    · refine (some_loop hb m _ _ (by omega) (by omega) (by rw [hc];omega) h4).mono (fun v hv=>?_)
      obtain ⟨v1,v2,v3,v4⟩:=hv
      rw [hc] at v4 ⊢
      exact ⟨v1,v2,by omega,by omega⟩
theorem some_ok {b:List Int} (hb:Bytes b) {p:Int} (hp:0≤p) (hp2:p≤50000):Gives (fun k=>Yy.f k b p) (fun r=>r.1.length≤6∧(∀ x ∈ r.1,okT 3 x)∧p≤r.2∧r.2≤p+4000):=by
  have hc:cost 3=584:=rfl
  unfold Yy.f
  refine Gives.bind (Gives.num hb hp (by omega) (by simp) (by simp)) (fun r hr=>?_)
  obtain ⟨r1,r2⟩:=hr
  have hr6:0≤r.1∧r.1≤6:=by simp at r1;omega
  obtain ⟨m,hm⟩:∃ m:Nat,r.1=(m:Int):=⟨r.1.toNat,by omega⟩
  rw [hm,r2]
  refine (some_loop hb m [] (p+1) (by simp;omega) (by omega) (by rw [hc];omega) (by simp)).mono (fun v hv=>?_)
  obtain ⟨v1,v2,v3,v4⟩:=hv
  rw [hc] at v4
  exact ⟨v1,v2,by omega,by omega⟩
abbrev Code:=List (S36)
set_option maxHeartbeats 4000000 in
theorem bent4 {b:List Int} (hb:Bytes b) (c:Code) (hc:c.length≤1000) {p:Int} (hp:0≤p) (hp2:p≤90000):Gives (fun k=>Yj.f k b p c) (fun r=>r.1.length≤1001∧p≤r.2∧r.2≤p+4):=by
  have j0:∀ (flag:Bool) (q:Int),p≤q→q≤p+1→(flag=false→1≤c.length)→Gives (fun k=>Yj.j0 k c flag b q) (fun r=>r.1.length≤1001∧p≤r.2∧r.2≤p+4):=fun flag q h1 h2 h3=>by
    refine Gives.step ?_
    simp only [Yj.j0,Option.bind_some,List.nil_append,List.length_nil]
    refine Gives.ite (fun _=>Gives.pure ⟨by simp only [];omega,by simp only [];omega,by simp only [];omega⟩) (fun hf=>?_)
    have hl:=h3 (by simpa using hf)
    refine Gives.bind (Gives.pick hb (by omega) (by omega) (by omega) (by omega)) (fun r hr=>?_)
    obtain ⟨r0,r1,r2⟩:=hr
    rw [r2]
    refine Gives.bind (Gives.pick hb (by omega) (by omega) (by omega) (by omega)) (fun s hs=>?_)
    obtain ⟨s0,s1,s2⟩:=hs
    rw [s2]
    obtain ⟨m,hm⟩:∃ m:Nat,r.1=(m:Int):=⟨r.1.toNat,by omega⟩
    rw [hm]
    have hml:m<c.length:=by omega
    have e:wrap64 ((m:Int)+1)=((m+1:Nat):Int):=w64n m (by omega)
    have t1:((m:Int)).toNat=m:=rfl
    have t2:(((m+1:Nat):Int)).toNat=m+1:=rfl
    rw [e]
    simp only [t1,t2]
    refine Gives.ite (fun _=>?_) (fun _=>Gives.ite (fun _=>?_) (fun _=>Gives.ite (fun _=>?_) (fun _=>Gives.ite (fun _=>?_) (fun _=>Gives.ite (fun _=>?_) (fun _=>?_)))))
    · refine Gives.bind (Gives.num hb (by omega) (by omega) (by simp) (by simp)) (fun u hu=>?_)
      obtain ⟨_,u2⟩:=hu
      exact Gives.pos (by omega) (Gives.pos (by omega) (Gives.pure ⟨by simp;omega,by simp only [];omega,by simp only [];omega⟩))
    · refine Gives.bind (Gives.num hb (by omega) (by omega) (by simp) (by simp)) (fun u hu=>?_)
      obtain ⟨_,u2⟩:=hu
      exact Gives.pos (by omega) (Gives.pos (by omega) (Gives.pure ⟨by simp;omega,by simp only [];omega,by simp only [];omega⟩))
    · refine Gives.bind (Gives.num hb (by omega) (by omega) (by simp) (by simp)) (fun u hu=>?_)
      obtain ⟨_,u2⟩:=hu
      exact Gives.pos (by omega) (Gives.pos (by omega) (Gives.pure ⟨by simp;omega,by simp only [];omega,by simp only [];omega⟩))
    · exact Gives.pos (by omega) (Gives.pos (by omega) (Gives.pure ⟨by simp;omega,by simp only [];omega,by simp only [];omega⟩))
    · refine Gives.pos (by omega) (Gives.pos (by omega) (Gives.pos (by simp;omega) (Gives.pos (by omega) (Gives.pos (by simp;omega) (Gives.pos (by simp;omega) (Gives.pure ⟨by simp;omega,by simp only [];omega,by simp only [];omega⟩))))))
    · refine Gives.pos (by omega) (Gives.pos (by omega) (Gives.pos (by simp;omega) (Gives.pos (by omega) (Gives.pos (by omega) (Gives.pos (by simp;omega) (Gives.pure ⟨by simp;omega,by simp only [];omega,by simp only [];omega⟩))))))
  unfold Yj.f
  simp only [Option.bind_some,List.nil_append,List.length_nil]
  refine Gives.pos (by omega) (Gives.ite (fun _=>j0 _ _ (by omega) (by omega) (fun h=>by cases h)) (fun hn=>?_))
  refine Gives.bind (Gives.pick hb hp (by omega) (by omega) (by omega)) (fun r hr=>?_)
  obtain ⟨r0,r1,r2⟩:=hr
  exact j0 _ _ (by omega) (by omega) (fun _=>by omega)
theorem drawText_ok (l:List Int) (h:∀ x ∈ l,(Lit.int .u8 x).wf=true):Gives (fun k=>Ur.f k l) (fun c=>c.length≤1001):=by
  obtain ⟨b,hb1,hb⟩:=open_ok l h
  unfold Ur.f spec_DrawCodeOk.f
  rw [hb1]
  simp only [Option.bind_some]
  refine Gives.bind (P:=fun c:Code=>c.length≤1001) ?_ (fun v hv=>Gives.pure hv)
  refine Gives.bind (some_ok hb (by omega) (by omega)) (fun r hr=>?_)
  obtain ⟨r1,r2,r3,r4⟩:=hr
  refine Gives.bind (codeOf_ok r.1 r1 r2) (fun c hc=>?_)
  refine Gives.bind (P:=fun r:Code × Int=>r.1.length≤1001) ?_ (fun v hv=>Gives.pure hv)
  exact (bent4 hb c (by omega) (by omega) (by omega)).mono (fun v hv=>hv.1)
end Go.Proofs.YtdkcjecllbdljaaDoor.Pure
