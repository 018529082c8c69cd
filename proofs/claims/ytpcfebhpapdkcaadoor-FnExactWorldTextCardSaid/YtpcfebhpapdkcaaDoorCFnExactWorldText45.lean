import Derived.Test.YtpcfebhpapdkcaaDoorCFnExactWorldText42
import Derived.Test.YtpcfebhpapdkcaaDoorCFnExactWorldText44
import Derived.Test.YtpcfebhpapdkcaaDoorCFnExactWorldText26
import Derived.Test.YtpcfebhpapdkcaaDoorCFnExactWorldText32
import Derived.Test.YtpcfebhpapdkcaaDoorCFnExactWorldText25
import Derived.Test.YtpcfebhpapdkcaaDoorCFnExactWorldText31
namespace Go.Proofs.YtpcfebhpapdkcaaDoor.Pure
open Go.RowKit Go.Proofs.YtpcfebhpapdkcaaDoor.GWorld Go.Proofs.YtpcfebhpapdkcaaDoorW.PrintWords Go.Proofs.YtpcfebhpapdkcaaDoorW.PrintLast Go.Proofs.YtpcfebhpapdkcaaDoorW.PrintMore Go.Proofs.YtpcfebhpapdkcaaDoor.Evt Go.Proofs.YtpcfebhpapdkcaaDoor.Open Go.Proofs.YtpcfebhpapdkcaaDoor.Shelf2
set_option linter.unusedVariables false
set_option linter.unusedSimpArgs false
theorem num_nums {l:List Int} (h:∀ n ∈ l,Num n):Nums l:=fun n hn=>h n hn
def oneB (c:List Stmt→ByteArray) (s:Stmt):ByteArray:=quadB s.f0 s.f1 s.f2 s.f3 ++ c s.f4 ++ c s.f5
def todoB:Nat→List Stmt→ByteArray
  |0,_=>⟨#[40,41]⟩
  |d+1,l=>l.foldl (fun a s=>a ++ oneB (todoB d) s) ⟨#[40]⟩ ++ ⟨#[41]⟩
theorem quad_size {a b c d:Int} (h:Num a∧Num b∧Num c∧Num d):(quadB a b c d).size≤87:=by
  obtain ⟨h0,h1,h2,h3⟩:=h
  have:=Zx a h0.1 h0.2
  have:=Zx b h1.1 h1.2
  have:=Zx c h2.1 h2.2
  have:=Zx d h3.1 h3.2
  have hc:cm.size=1:=rfl
  unfold quadB
  simp only [Yy]
  omega
theorem fold_size (d:Nat) (h:∀ l,NumD d l→(todoB d l).size≤2+91 * cntD d l):∀ (l:List Stmt) (out:ByteArray),NumD (d+1) l→(l.foldl (fun a s=>a ++ oneB (todoB d) s) out).size≤out.size+91 * (l.length+inner (cntD d) l)
  |[],out,_=>by simp [inner]
  |s :: l,out,hn=>by
    have hs:=hn s (List.mem_cons_self)
    have:=fold_size d h l (out ++ oneB (todoB d) s) (fun t ht=>hn t (List.mem_cons_of_mem _ ht))
    have h1:=h s.f4 hs.2.1
    have h2:=h s.f5 hs.2.2
    have h3:=quad_size hs.1
    rw [List.foldl_cons]
    unfold oneB at this ⊢
    simp only [Yy,inner,List.length_cons] at this ⊢
    omega
theorem todo_size:∀ (d:Nat) (l:List Stmt),NumD d l→(todoB d l).size≤2+91 * cntD d l
  |0,l,_=>by
    have:(todoB 0 l).size=2:=rfl
    omega
  |d+1,l,hn=>by
    have:=fold_size d (todo_size d) l ⟨#[40]⟩ hn
    have h1:(⟨#[40]⟩:ByteArray).size=1:=rfl
    have h2:(⟨#[41]⟩:ByteArray).size=1:=rfl
    unfold todoB
    rw [Yy]
    simp only [cntD]
    omega
theorem inner_mem (c:List Stmt→Nat):∀ (l:List Stmt),∀ s ∈ l,c s.f4+c s.f5≤inner c l
  |[],s,h=>by cases h
  |b :: l,s,h=>by
    simp only [inner]
    rcases List.mem_cons.1 h with rfl|h
    · omega
    · have:=inner_mem c l s h;omega
theorem spec_todo_loop (d:Nat) (hd:d≤5) (l:List Stmt) (hl:l.length≤1048576) (hn:NumD (d+1) l) (each:∀ s ∈ l,(Evt (fun k=>Xv.f k s.f4 (d:Int)) (todoB d s.f4)∧(todoB d s.f4).size≤100000000)∧(Evt (fun k=>Xv.f k s.f5 (d:Int)) (todoB d s.f5)∧(todoB d s.f5).size≤100000000)) :
    ∀ (B A:List Stmt) (out:ByteArray),l=A ++ B→out.size≤1+300000000 * A.length→Evt (fun k=>Xv.l0 k l ((d+1:Nat):Int) out (A.length:Int)) (B.foldl (fun a s=>a ++ oneB (todoB d) s) out ++ ⟨#[41]⟩)
  |[],A,out,he,ho=>by
    rw [List.append_nil] at he
    subst he
    refine Evt.step ?_
    simp only [Xv.l0]
    refine Evt.neg (by omega) (Evt.step ?_)
    simp only [Xv.j1]
    exact Evt.neg (by simp) (Evt.pos (by omega) (Evt.pure _))
  |b :: B,A,out,he,ho=>by
    have hlen:l.length=A.length+B.length+1:=by rw [he];simp;omega
    have hb:l.getD A.length z63=b:=by rw [he];exact getD_app A b B _
    have hm:b ∈ l:=by rw [he];simp
    obtain ⟨⟨e4,s4⟩,⟨e5,s5⟩⟩:=each b hm
    obtain ⟨h0,h1,h2,h3⟩:=(hn b hm).1
    have z0:=Zx _ h0.1 h0.2
    have z1:=Zx _ h1.1 h1.2
    have z2:=Zx _ h2.1 h2.2
    have z3:=Zx _ h3.1 h3.2
    have hc:(⟨#[44]⟩:ByteArray).size=1:=rfl
    have hw:wrap64 (((d+1:Nat):Int) - 1)=(d:Int):=by rw [w64 (by omega) (by omega)];omega
    refine Evt.step ?_
    simp only [Xv.l0]
    refine Evt.pos (by omega) (Evt.step ?_)
    simp only [Xv.j1,Xg,Int.toNat_natCast,hb,hw]
    refine Evt.pos (by simp) (Evt.pos (by omega) (Evt.pos (by omega) ?_))
    refine Evt.bind (dec_all _ h0.1 h0.2) (Evt.pos (by omega) (Evt.pos (by simp only [Yy];omega) ?_))
    refine Evt.bind (dec_all _ h1.1 h1.2) (Evt.pos (by simp only [Yy];omega) (Evt.pos (by simp only [Yy];omega) ?_))
    refine Evt.bind (dec_all _ h2.1 h2.2) (Evt.pos (by simp only [Yy];omega) (Evt.pos (by simp only [Yy];omega) ?_))
    refine Evt.bind (dec_all _ h3.1 h3.2) (Evt.pos (by simp only [Yy];omega) ?_)
    refine Evt.bind e4 (Evt.pos (by simp only [Yy];omega) ?_)
    refine Evt.bind e5 (Evt.pos (by simp only [Yy];omega) ?_)
    rw [w64n A.length (by omega)]
    have ih:=spec_todo_loop d hd l hl hn each B (A ++ [b]) (out ++ oneB (todoB d) b) (by rw [he];simp) (by
      unfold oneB quadB
      have hc:cm.size=1:=rfl
      simp only [Yy,List.length_append,List.length_singleton]
      omega)
    rw [List.length_append] at ih
    rw [List.foldl_cons]
    have e:out ++ oneB (todoB d) b=out ++ itoaB b.f0 ++ (⟨#[44]⟩:ByteArray) ++ itoaB b.f1 ++ (⟨#[44]⟩:ByteArray) ++ itoaB b.f2 ++ (⟨#[44]⟩:ByteArray) ++ itoaB b.f3 ++ todoB d b.f4 ++ todoB d b.f5:=by
      unfold oneB quadB cm
      apply ext_toList
      simp only [toList_append,List.append_assoc]
    rw [e] at ih ⊢
    exact ih
theorem spec_todo:∀ (d:Nat),d≤6→∀ (l:List Stmt),(∀ e,cntD e l≤1048576)→(∀ e,NumD e l)→Evt (fun k=>Xv.f k l (d:Int)) (todoB d l)
  |0,_,l,hc,hn=>by
    refine Evt.step ?_
    simp only [Xv.f]
    refine Evt.step ?_
    simp only [Xv.l0]
    by_cases h:(0:Int)<(l.length:Int)
    · refine Evt.pos h (Evt.step ?_)
      simp only [Xv.j1]
      exact Evt.neg (by simp) (Evt.pos (by decide) (Evt.pure _))
    · refine Evt.neg h (Evt.step ?_)
      simp only [Xv.j1]
      exact Evt.neg (by simp) (Evt.pos (by decide) (Evt.pure _))
  |d+1,hd,l,hc,hn=>by
    refine Evt.step ?_
    simp only [Xv.f]
    have hl:=hc 1
    simp only [cntD] at hl
    refine spec_todo_loop d (by omega) l (by omega) (hn (d+1)) (fun s hs=>?_) l [] ⟨#[40]⟩ rfl (by have:(⟨#[40]⟩:ByteArray).size=1:=rfl;simp;omega)
    have h4:∀ e,cntD e s.f4+cntD e s.f5≤1048576:=fun e=>by
      have:=hc (e+1)
      have:=inner_mem (cntD e) l s hs
      simp only [cntD] at *
      omega
    have n4:∀ e,NumD e s.f4∧NumD e s.f5:=fun e=>(hn (e+1) s hs).2
    refine ⟨⟨spec_todo d (by omega) s.f4 (fun e=>by have:=h4 e;omega) (fun e=>(n4 e).1),?_⟩,⟨spec_todo d (by omega) s.f5 (fun e=>by have:=h4 e;omega) (fun e=>(n4 e).2),?_⟩⟩
    · have:=todo_size d s.f4 (n4 d).1
      have:=h4 d
      omega
    · have:=todo_size d s.f5 (n4 d).2
      have:=h4 d
      omega
theorem impl_todo_loop (d:Nat) (nested:Int) (hd:nested=6 - ((d+1:Nat):Int)) (hd6:d≤5) (l:List Stmt) (hl:l.length≤1048576) (hn:NumD (d+1) l) (each:∀ s ∈ l,(Evt (fun k=>Yb.f k s.f4 (6 - (d:Int))) (todoB d s.f4)∧(todoB d s.f4).size≤100000000)∧(Evt (fun k=>Yb.f k s.f5 (6 - (d:Int))) (todoB d s.f5)∧(todoB d s.f5).size≤100000000)) :
    ∀ (B A:List Stmt) (out:ByteArray),l=A ++ B→out.size≤1+300000000 * A.length→Evt (fun k=>Yb.l0 k nested out l (l.length:Int) (A.length:Int)) (B.foldl (fun a s=>a ++ oneB (todoB d) s) out ++ ⟨#[41]⟩)
  |[],A,out,he,ho=>by
    rw [List.append_nil] at he
    subst he
    refine Evt.step ?_
    simp only [Yb.l0]
    exact Evt.neg (by omega) (Evt.pos (by omega) (Evt.pure _))
  |b :: B,A,out,he,ho=>by
    have hlen:l.length=A.length+B.length+1:=by rw [he];simp;omega
    have hb:l.getD A.length z63=b:=by rw [he];exact getD_app A b B _
    have hm:b ∈ l:=by rw [he];simp
    obtain ⟨⟨e4,s4⟩,⟨e5,s5⟩⟩:=each b hm
    have hq:=quad_size (hn b hm).1
    have hw:wrap64 (nested+1)=6 - (d:Int):=by rw [w64 (by omega) (by omega)];omega
    have hnn:Nums [b.f0,b.f1,b.f2,b.f3]:=fun n hx=>by
      obtain ⟨h0,h1,h2,h3⟩:=(hn b hm).1
      simp only [List.mem_cons,List.not_mem_nil,or_false] at hx
      rcases hx with rfl|rfl|rfl|rfl
      · exact h0
      · exact h1
      · exact h2
      · exact h3
    have hj:=numbers_ev cm [b.f0,b.f1,b.f2,b.f3] (by simp) hnn (by decide)
    rw [quad_join] at hj
    refine Evt.step ?_
    simp only [Yb.l0,Xg,Int.toNat_natCast,hb,hw]
    refine Evt.pos (by omega) (Evt.pos (by omega) (Evt.pos (by omega) (Evt.bind hj (Evt.bind e4 (Evt.pos (by omega) (Evt.bind e5 (Evt.pos (by simp only [Yy];omega) (Evt.pos (by simp only [Yy];omega) ?_))))))))
    rw [w64n A.length (by omega)]
    have ih:=impl_todo_loop d nested hd hd6 l hl hn each B (A ++ [b]) (out ++ oneB (todoB d) b) (by rw [he];simp) (by
      unfold oneB
      simp only [Yy,List.length_append,List.length_singleton]
      omega)
    rw [List.length_append] at ih
    rw [List.foldl_cons]
    exact ih
theorem impl_todo:∀ (d:Nat),d≤6→∀ (l:List Stmt),(∀ e,cntD e l≤1048576)→(∀ e,NumD e l)→Evt (fun k=>Yb.f k l (6 - (d:Int))) (todoB d l)
  |0,_,l,hc,hn=>by
    refine Evt.step ?_
    simp only [Yb.f]
    exact Evt.pos (by omega) (Evt.pure _)
  |d+1,hd,l,hc,hn=>by
    refine Evt.step ?_
    simp only [Yb.f]
    have hl:=hc 1
    simp only [cntD] at hl
    refine Evt.neg (by omega) (impl_todo_loop d _ rfl (by omega) l (by omega) (hn (d+1)) (fun s hs=>?_) l [] ⟨#[40]⟩ rfl (by have:(⟨#[40]⟩:ByteArray).size=1:=rfl;simp;omega))
    have h4:∀ e,cntD e s.f4+cntD e s.f5≤1048576:=fun e=>by
      have:=hc (e+1)
      have:=inner_mem (cntD e) l s hs
      simp only [cntD] at *
      omega
    have n4:∀ e,NumD e s.f4∧NumD e s.f5:=fun e=>(hn (e+1) s hs).2
    refine ⟨⟨impl_todo d (by omega) s.f4 (fun e=>by have:=h4 e;omega) (fun e=>(n4 e).1),?_⟩,⟨impl_todo d (by omega) s.f5 (fun e=>by have:=h4 e;omega) (fun e=>(n4 e).2),?_⟩⟩
    · have:=todo_size d s.f4 (n4 d).1
      have:=h4 d
      omega
    · have:=todo_size d s.f5 (n4 d).2
      have:=h4 d
      omega
def wProc:ByteArray:=⟨#[112,114,111,99]⟩
def wRegs:ByteArray:=⟨#[114,101,103,115]⟩
def wCells:ByteArray:=⟨#[99,101,108,108,115]⟩
def wRooms:ByteArray:=⟨#[114,111,111,109,115]⟩
def wSign:ByteArray:=⟨#[115,105,103,110]⟩
def wSaid:ByteArray:=⟨#[115,97,105,100]⟩
def procB (q:Proc):ByteArray:=numsB wProc [q.f2,q.f3,q.f4] ++ numsB wRegs q.f0 ++ todoB 6 q.f1 ++ nl
def procsB (m:List Proc):ByteArray:=m.foldl (fun a q=>a ++ procB q) ⟨#[]⟩
def signsB (S:List (List Int)) (o:ByteArray):ByteArray:=S.foldl (fun a l=>a ++ numsB wSign l) o
def saidB (Q:List Say) (o:ByteArray):ByteArray:=Q.foldl (fun a s=>a ++ numsB wSaid [s.f0,s.f1]) o
def worldB (m:List Proc) (C R:List Int) (S:List (List Int)) (Q:List Say):ByteArray:=saidB Q (signsB S (procsB m ++ (numsB wCells C ++ numsB wRooms R)))
def ProcFit (q:Proc):Prop:=((∀ n ∈ q.f0,Num n)∧(∀ d,NumD d q.f1)∧Num q.f2∧Num q.f3∧Num q.f4)∧q.f0.length≤1048576∧∀ d,cntD d q.f1≤1048576
theorem nums3 {a b c:Int} (h0:Num a) (h1:Num b) (h2:Num c):Nums [a,b,c]:=fun n hx=>by
  simp only [List.mem_cons,List.not_mem_nil,or_false] at hx
  rcases hx with rfl|rfl|rfl
  · exact h0
  · exact h1
  · exact h2
theorem nums2 {a b:Int} (h0:Num a) (h1:Num b):Nums [a,b]:=fun n hx=>by
  simp only [List.mem_cons,List.not_mem_nil,or_false] at hx
  rcases hx with rfl|rfl
  · exact h0
  · exact h1
theorem line_size (w:ByteArray) (hw:w.size≤5) (l:List Int) (hl:l.length≤1048576) (hn:Nums l):(numsB w l).size≤24000000:=by
  have:=numsB_size w l hn
  omega
theorem todo6_size {q:Proc} (h:ProcFit q):(todoB 6 q.f1).size≤100000000:=by
  have:=todo_size 6 q.f1 (h.1.2.1 6)
  have:=h.2.2 6
  omega
theorem proc_size {q:Proc} (h:ProcFit q):(procB q).size≤200000000:=by
  have h1:=line_size wProc (by decide) [q.f2,q.f3,q.f4] (by simp) (nums3 h.1.2.2.1 h.1.2.2.2.1 h.1.2.2.2.2)
  have h2:=line_size wRegs (by decide) q.f0 h.2.1 (num_nums h.1.1)
  have h3:=todo6_size h
  have h4:nl.size=1:=rfl
  unfold procB
  simp only [Yy]
  omega
section
variable (m:List Proc) (C R:List Int) (S:List (List Int)) (Q:List Say)
theorem spec_said_loop (hl:Q.length≤1048576) (hn:∀ s ∈ Q,Num s.f0∧Num s.f1):∀ (B A:List Say) (out:ByteArray),Q=A ++ B→out.size≤1000000000000000+24000000 * A.length→Evt (fun k=>Xp.l2 k out (A.length:Int) m C R S Q) (saidB B out)
  |[],A,out,he,ho=>by
    rw [List.append_nil] at he
    subst he
    refine Evt.step ?_
    simp only [Xp.l2]
    exact Evt.neg (by omega) (Evt.pure _)
  |b :: B,A,out,he,ho=>by
    have hlen:Q.length=A.length+B.length+1:=by rw [he];simp;omega
    have hb:Q.getD A.length z47=b:=by rw [he];exact getD_app A b B _
    have hm:=hn b (by rw [he];simp)
    have h1:=line_size wSaid (by decide) [b.f0,b.f1] (by simp) (nums2 hm.1 hm.2)
    have h2:=l8_ev wSaid (by decide) [b.f0,b.f1] (by simp) (nums2 hm.1 hm.2)
    refine Evt.step ?_
    simp only [Xp.l2,Yx,Int.toNat_natCast,hb]
    refine Evt.pos (by omega) (Evt.pos (by omega) (Evt.bind h2 (Evt.pos (by omega) ?_)))
    rw [w64n A.length (by omega)]
    have ih:=spec_said_loop hl hn B (A ++ [b]) (out ++ numsB wSaid [b.f0,b.f1]) (by rw [he];simp) (by simp only [Yy,List.length_append,List.length_singleton];omega)
    rw [List.length_append] at ih
    exact ih
theorem impl_said_loop (hl:Q.length≤1048576) (hn:∀ s ∈ Q,Num s.f0∧Num s.f1):∀ (B A:List Say) (out:ByteArray),Q=A ++ B→out.size≤1000000000000000+24000000 * A.length→Evt (fun k=>Xq.l2 k out Q (Q.length:Int) (A.length:Int)) (saidB B out)
  |[],A,out,he,ho=>by
    rw [List.append_nil] at he
    subst he
    refine Evt.step ?_
    simp only [Xq.l2]
    exact Evt.neg (by omega) (Evt.pure _)
  |b :: B,A,out,he,ho=>by
    have hlen:Q.length=A.length+B.length+1:=by rw [he];simp;omega
    have hb:Q.getD A.length z47=b:=by rw [he];exact getD_app A b B _
    have hm:=hn b (by rw [he];simp)
    have h1:=line_size wSaid (by decide) [b.f0,b.f1] (by simp) (nums2 hm.1 hm.2)
    have h2:=line_ev wSaid (by decide) [b.f0,b.f1] (by simp) (nums2 hm.1 hm.2)
    refine Evt.step ?_
    simp only [Xq.l2,Yx,Int.toNat_natCast,hb]
    refine Evt.pos (by omega) (Evt.pos (by omega) (Evt.pos (by omega) (Evt.bind h2 (Evt.pos (by omega) ?_))))
    rw [w64n A.length (by omega)]
    have ih:=impl_said_loop hl hn B (A ++ [b]) (out ++ numsB wSaid [b.f0,b.f1]) (by rw [he];simp) (by simp only [Yy,List.length_append,List.length_singleton];omega)
    rw [List.length_append] at ih
    exact ih
theorem spec_sign_loop (r:ByteArray→ByteArray) (hr:∀ o:ByteArray,o.size≤900000000000000→Evt (fun k=>Xp.l2 k o 0 m C R S Q) (r o)) (hl:S.length≤1048576) (hn:∀ a ∈ S,Nums a∧a.length≤1048576):∀ (B A:List (List Int)) (out:ByteArray),S=A ++ B→out.size≤500000000000000+24000000 * A.length→Evt (fun k=>Xp.l1 k out (A.length:Int) m C R S Q) (r (signsB B out))
  |[],A,out,he,ho=>by
    rw [List.append_nil] at he
    subst he
    refine Evt.step ?_
    simp only [Xp.l1]
    exact Evt.neg (by omega) (hr out (by omega))
  |b :: B,A,out,he,ho=>by
    have hlen:S.length=A.length+B.length+1:=by rw [he];simp;omega
    have hb:S.getD A.length []=b:=by rw [he];exact getD_app A b B _
    have hm:=hn b (by rw [he];simp)
    have h1:=line_size wSign (by decide) b hm.2 hm.1
    have h2:=l8_ev wSign (by decide) b hm.2 hm.1
    refine Evt.step ?_
    simp only [Xp.l1,rd_L2,Int.toNat_natCast,hb]
    refine Evt.pos (by omega) (Evt.pos (by omega) (Evt.bind h2 (Evt.pos (by omega) ?_)))
    rw [w64n A.length (by omega)]
    have ih:=spec_sign_loop r hr hl hn B (A ++ [b]) (out ++ numsB wSign b) (by rw [he];simp) (by simp only [Yy,List.length_append,List.length_singleton];omega)
    rw [List.length_append] at ih
    exact ih
theorem impl_sign_loop (r:ByteArray→ByteArray) (hr:∀ o:ByteArray,o.size≤900000000000000→Evt (fun k=>Xq.l2 k o Q (Q.length:Int) 0) (r o)) (hl:S.length≤1048576) (hn:∀ a ∈ S,Nums a∧a.length≤1048576):∀ (B A:List (List Int)) (out:ByteArray),S=A ++ B→out.size≤500000000000000+24000000 * A.length→Evt (fun k=>Xq.l1 k out S (S.length:Int) (A.length:Int) m C R S Q) (r (signsB B out))
  |[],A,out,he,ho=>by
    rw [List.append_nil] at he
    subst he
    refine Evt.step ?_
    simp only [Xq.l1]
    exact Evt.neg (by omega) (hr out (by omega))
  |b :: B,A,out,he,ho=>by
    have hlen:S.length=A.length+B.length+1:=by rw [he];simp;omega
    have hb:S.getD A.length []=b:=by rw [he];exact getD_app A b B _
    have hm:=hn b (by rw [he];simp)
    have h1:=line_size wSign (by decide) b hm.2 hm.1
    have h2:=line_ev wSign (by decide) b hm.2 hm.1
    refine Evt.step ?_
    simp only [Xq.l1,rd_L2,Int.toNat_natCast,hb]
    refine Evt.pos (by omega) (Evt.pos (by omega) (Evt.pos (by omega) (Evt.bind h2 (Evt.pos (by omega) ?_))))
    rw [w64n A.length (by omega)]
    have ih:=impl_sign_loop r hr hl hn B (A ++ [b]) (out ++ numsB wSign b) (by rw [he];simp) (by simp only [Yy,List.length_append,List.length_singleton];omega)
    rw [List.length_append] at ih
    exact ih
theorem spec_proc_loop (r:ByteArray→ByteArray) (hr:∀ o:ByteArray,o.size≤300000000000000→Evt (fun k=>Xp.l1 k o 0 m C R S Q) (r o)) (hC:Nums C∧C.length≤1048576) (hR:Nums R∧R.length≤1048576) (hl:m.length≤1048576) (hn:∀ q ∈ m,ProcFit q):∀ (B A:List Proc) (out:ByteArray),m=A ++ B→out.size≤200000000 * A.length→Evt (fun k=>Xp.l0 k out (A.length:Int) m C R S Q) (r (B.foldl (fun a q=>a ++ procB q) out ++ (numsB wCells C ++ numsB wRooms R)))
  |[],A,out,he,ho=>by
    rw [List.append_nil] at he
    subst he
    have h1:=line_size wCells (by decide) C hC.2 hC.1
    have h2:=line_size wRooms (by decide) R hR.2 hR.1
    refine Evt.step ?_
    simp only [Xp.l0]
    refine Evt.neg (by omega) (Evt.bind (l8_ev wCells (by decide) C hC.2 hC.1) (Evt.pos (by omega) (Evt.bind (l8_ev wRooms (by decide) R hR.2 hR.1) (Evt.pos (by rw [Yy];omega) ?_))))
    have:=hr (out ++ (numsB wCells C ++ numsB wRooms R)) (by rw [Yy,Yy];omega)
    rw [append_assoc3]
    exact this
  |b :: B,A,out,he,ho=>by
    have hlen:m.length=A.length+B.length+1:=by rw [he];simp;omega
    have hb:m.getD A.length z43=b:=by rw [he];exact getD_app A b B _
    have hm:=hn b (by rw [he];simp)
    have z1:=line_size wProc (by decide) [b.f2,b.f3,b.f4] (by simp) (nums3 hm.1.2.2.1 hm.1.2.2.2.1 hm.1.2.2.2.2)
    have z2:=line_size wRegs (by decide) b.f0 hm.2.1 (num_nums hm.1.1)
    have z3:=todo6_size hm
    have z4:nl.size=1:=rfl
    refine Evt.step ?_
    simp only [Xp.l0,Xm,Int.toNat_natCast,hb]
    refine Evt.pos (by omega) (Evt.pos (by omega) (Evt.bind (l8_ev wProc (by decide) [b.f2,b.f3,b.f4] (by simp) (nums3 hm.1.2.2.1 hm.1.2.2.2.1 hm.1.2.2.2.2)) (Evt.pos (by omega) ?_)))
    refine Evt.bind (l8_ev wRegs (by decide) b.f0 hm.2.1 (num_nums hm.1.1)) (Evt.pos (by rw [Yy];omega) (Evt.bind (spec_todo 6 (by omega) b.f1 hm.2.2 hm.1.2.1) (Evt.pos (by simp only [Yy];omega) (Evt.pos (by simp only [Yy];omega) ?_))))
    rw [w64n A.length (by omega)]
    have ih:=spec_proc_loop r hr hC hR hl hn B (A ++ [b]) (out ++ procB b) (by rw [he];simp) (by have:=proc_size hm;simp only [Yy,List.length_append,List.length_singleton];omega)
    rw [List.length_append] at ih
    rw [List.foldl_cons]
    have e:out ++ procB b=out ++ numsB wProc [b.f2,b.f3,b.f4] ++ numsB wRegs b.f0 ++ todoB 6 b.f1 ++ nl:=by
      unfold procB
      apply ext_toList
      simp only [toList_append,List.append_assoc]
    rw [e] at ih ⊢
    exact ih
theorem impl_proc_loop (r:ByteArray→ByteArray) (hr:∀ o:ByteArray,o.size≤300000000000000→Evt (fun k=>Xq.l1 k o S (S.length:Int) 0 m C R S Q) (r o)) (hC:Nums C∧C.length≤1048576) (hR:Nums R∧R.length≤1048576) (hl:m.length≤1048576) (hn:∀ q ∈ m,ProcFit q):∀ (B A:List Proc) (out:ByteArray),m=A ++ B→out.size≤200000000 * A.length→Evt (fun k=>Xq.l0 k out m (m.length:Int) (A.length:Int) m C R S Q) (r (B.foldl (fun a q=>a ++ procB q) out ++ (numsB wCells C ++ numsB wRooms R)))
  |[],A,out,he,ho=>by
    rw [List.append_nil] at he
    subst he
    have h1:=line_size wCells (by decide) C hC.2 hC.1
    have h2:=line_size wRooms (by decide) R hR.2 hR.1
    refine Evt.step ?_
    simp only [Xq.l0]
    refine Evt.neg (by omega) (Evt.bind (line_ev wCells (by decide) C hC.2 hC.1) (Evt.bind (line_ev wRooms (by decide) R hR.2 hR.1) (Evt.pos (by omega) (Evt.pos (by rw [Yy];omega) ?_))))
    exact hr (out ++ (numsB wCells C ++ numsB wRooms R)) (by rw [Yy,Yy];omega)
  |b :: B,A,out,he,ho=>by
    have hlen:m.length=A.length+B.length+1:=by rw [he];simp;omega
    have hb:m.getD A.length z43=b:=by rw [he];exact getD_app A b B _
    have hm:=hn b (by rw [he];simp)
    have z1:=line_size wProc (by decide) [b.f2,b.f3,b.f4] (by simp) (nums3 hm.1.2.2.1 hm.1.2.2.2.1 hm.1.2.2.2.2)
    have z2:=line_size wRegs (by decide) b.f0 hm.2.1 (num_nums hm.1.1)
    have z3:=todo6_size hm
    have z4:nl.size=1:=rfl
    have z4':(⟨#[10]⟩:ByteArray).size=1:=rfl
    refine Evt.step ?_
    simp only [Xq.l0,Xm,Int.toNat_natCast,hb]
    refine Evt.pos (by omega) (Evt.pos (by omega) (Evt.pos (by omega) (Evt.bind (line_ev wProc (by decide) [b.f2,b.f3,b.f4] (by simp) (nums3 hm.1.2.2.1 hm.1.2.2.2.1 hm.1.2.2.2.2)) ?_)))
    refine Evt.bind (line_ev wRegs (by decide) b.f0 hm.2.1 (num_nums hm.1.1)) (Evt.pos (by omega) (Evt.bind (impl_todo 6 (by omega) b.f1 hm.2.2 hm.1.2.1) (Evt.pos (by simp only [Yy];omega) (Evt.pos (by simp only [Yy];omega) (Evt.pos (by simp only [Yy];omega) ?_)))))
    rw [w64n A.length (by omega)]
    have ih:=impl_proc_loop r hr hC hR hl hn B (A ++ [b]) (out ++ procB b) (by rw [he];simp) (by have:=proc_size hm;simp only [Yy,List.length_append,List.length_singleton];omega)
    rw [List.length_append] at ih
    rw [List.foldl_cons]
    exact ih
end
theorem text_both {m:List Proc} {C R:List Int} {S:List (List Int)} {Q:List Say} (h:Fits m C R S Q) :
    Evt (fun k=>Xp.f k m C R S Q) (worldB m C R S Q)∧Evt (fun k=>Xq.f k m C R S Q) (worldB m C R S Q):=by
  have h0:=h.size 0
  have hS:∀ a ∈ S,Nums a∧a.length≤1048576:=fun a ha=>⟨num_nums (h.signs a ha),by have:=lens_mem S a ha;omega⟩
  have hP:∀ q ∈ m,ProcFit q:=fun q hq=>⟨h.procs q hq,by have:=bigs_mem 0 m q hq;unfold big at this;omega,fun d=>by have:=h.size d;have:=bigs_mem d m q hq;unfold big at this;omega⟩
  have hC:Nums C∧C.length≤1048576:=⟨num_nums h.cells,by omega⟩
  have hR:Nums R∧R.length≤1048576:=⟨num_nums h.rooms,by omega⟩
  constructor
  · unfold Xp.f
    exact spec_proc_loop m C R S Q (fun o=>saidB Q (signsB S o)) (fun o ho=>spec_sign_loop m C R S Q (fun o=>saidB Q o) (fun o ho=>spec_said_loop m C R S Q (by omega) h.said Q [] o rfl (by simp;omega)) (by omega) hS S [] o rfl (by simp;omega)) hC hR (by omega) hP m [] ⟨#[]⟩ rfl (by decide)
  · unfold Xq.f
    exact impl_proc_loop m C R S Q (fun o=>saidB Q (signsB S o)) (fun o ho=>impl_sign_loop m C R S Q (fun o=>saidB Q o) (fun o ho=>impl_said_loop Q (by omega) h.said Q [] o rfl (by simp;omega)) (by omega) hS S [] o rfl (by simp;omega)) hC hR (by omega) hP m [] ⟨#[]⟩ rfl (by decide)
end Go.Proofs.YtpcfebhpapdkcaaDoor.Pure
