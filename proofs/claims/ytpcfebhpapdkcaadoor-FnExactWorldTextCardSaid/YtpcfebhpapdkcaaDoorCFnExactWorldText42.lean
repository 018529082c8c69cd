import Derived.Test.YtpcfebhpapdkcaaDoorCFnExactWorldText39
import Derived.Test.YtpcfebhpapdkcaaDoorCFnExactWorldText40
import Derived.Test.YtpcfebhpapdkcaaDoorCFnExactWorldText41
import Derived.Test.YtpcfebhpapdkcaaDoorCFnExactWorldText22
import Derived.Test.YtpcfebhpapdkcaaDoorCFnExactWorldText24
import Derived.Test.YtpcfebhpapdkcaaDoorCFnExactWorldText28
import Derived.Test.YtpcfebhpapdkcaaDoorCFnExactWorldText37
namespace Go.Proofs.YtpcfebhpapdkcaaDoor.Pure
open Go.RowKit Go.Proofs.YtpcfebhpapdkcaaDoor.GWorld Go.Proofs.YtpcfebhpapdkcaaDoorW.PrintWords Go.Proofs.YtpcfebhpapdkcaaDoorW.PrintLast Go.Proofs.YtpcfebhpapdkcaaDoorW.PrintMore Go.Proofs.YtpcfebhpapdkcaaDoor.Evt Go.Proofs.YtpcfebhpapdkcaaDoor.Open
set_option linter.unusedVariables false
set_option linter.unusedSimpArgs false
abbrev LStmt:=S78
abbrev Stmt:=S63
abbrev LProc:=S60
abbrev Proc:=S43
abbrev LSay:=S66
abbrev Say:=S47
theorem getD_app {α:Type} (A:List α) (x:α) (B:List α) (d:α):(A ++ x :: B).getD A.length d=x:=by simp [List.getD_eq_getElem?_getD]
theorem set_app {α:Type} (A:List α) (x v:α) (B:List α):(A ++ x :: B).set A.length v=A ++ v :: B:=by simp
inductive All2 {α β:Type} (R:α→β→Prop):List α→List β→Prop
  |nil:All2 R [] []
  |cons {a:α} {b:β} {l:List α} {m:List β}:R a b→All2 R l m→All2 R (a :: l) (b :: m)
theorem All2.len {α β:Type} {R:α→β→Prop} {l:List α} {m:List β} (h:All2 R l m):l.length=m.length:=by
  induction h with
  |nil=>rfl
  |cons _ _ ih=>simp [ih]
theorem All2.right {α β:Type} {R:α→β→Prop} {l:List α} {m:List β} (h:All2 R l m):∀ b ∈ m,∃ a ∈ l,R a b:=by
  induction h with
  |nil=>intro b hb;cases hb
  |cons h _ ih=>
    intro b hb
    rcases List.mem_cons.1 hb with rfl|hb
    · exact ⟨_,List.mem_cons_self,h⟩
    · obtain ⟨a,ha,hr⟩:=ih b hb
      exact ⟨a,List.mem_cons_of_mem _ ha,hr⟩
def NumD:Nat→List Stmt→Prop
  |0,_=>True
  |d+1,l=>∀ s ∈ l,(Num s.f0∧Num s.f1∧Num s.f2∧Num s.f3)∧NumD d s.f4∧NumD d s.f5
def inner (c:List Stmt→Nat):List Stmt→Nat
  |[]=>0
  |s :: r=>c s.f4+c s.f5+inner c r
def cntD:Nat→List Stmt→Nat
  |0,_=>0
  |d+1,l=>l.length+inner (cntD d) l
structure OkS (s:LStmt) (t:Stmt):Prop where
  cpy:Evt (fun k=>laws_toStmt.f k s.f0 s.f1 s.f2 s.f3 s.f4 s.f5) (t.f0,t.f1,t.f2,t.f3,t.f4,t.f5)
  eq:Evt (fun k=>Ub.f k t.f0 t.f1 t.f2 t.f3 t.f4 t.f5 t.f0 t.f1 t.f2 t.f3 t.f4 t.f5) true
  num:∀ d,(Num t.f0∧Num t.f1∧Num t.f2∧Num t.f3)∧NumD d t.f4∧NumD d t.f5
structure OkL (l:List LStmt) (m:List Stmt):Prop where
  cpy:Evt (fun k=>Yl.f k l) m
  eq:Evt (fun k=>Xz.f k m m) true
  num:∀ d,NumD d m
theorem szStmtS_loop (l:List LStmt) (hl:l.length≤1048576) (each:∀ s ∈ l,∀ left:Int,0≤left→left≤1048576→∃ r:Int,Evt (fun k=>Zy.f k s.f0 s.f1 s.f2 s.f3 s.f4 s.f5 left) r∧-1≤r∧r≤left∧(0≤r→∃ t,OkS s t∧∀ d,((cntD d t.f4+cntD d t.f5:Nat):Int)+r≤left)) :
    ∀ (B A:List LStmt),l=A ++ B→∀ left:Int,0≤left→left≤1048576→∃ r:Int,Evt (fun k=>Yk.l0 k l left (A.length:Int)) r∧-1≤r∧r≤left∧(0≤r→∃ m,All2 OkS B m∧∀ d,((inner (cntD d) m:Nat):Int)+r≤left)
  |[],A,he,left,h0,h1=>by
    refine ⟨left,?_,by omega,by omega,fun _=>⟨[],All2.nil,fun d=>by simp [inner]⟩⟩
    rw [List.append_nil] at he
    subst he
    refine Evt.step ?_
    simp only [Yk.l0]
    exact Evt.neg (by omega) (Evt.pure _)
  |b :: B,A,he,left,h0,h1=>by
    have hlen:l.length=A.length+B.length+1:=by rw [he];simp;omega
    have hb:l.getD A.length z78=b:=by rw [he];exact getD_app A b B _
    obtain ⟨r,e,ha,hz,hr⟩:=each b (by rw [he];simp) left h0 h1
    by_cases hn:r<0
    · refine ⟨-1,?_,by omega,by omega,fun h=>absurd h (by omega)⟩
      refine Evt.step ?_
      simp only [Yk.l0,Zc,Int.toNat_natCast,hb]
      exact Evt.pos (by omega) (Evt.pos (by omega) (Evt.bind e (Evt.pos hn (Evt.pure _))))
    · obtain ⟨t,ht,hc⟩:=hr (by omega)
      obtain ⟨r2,e2,ha2,hz2,hr2⟩:=szStmtS_loop l hl each B (A ++ [b]) (by rw [he];simp) r (by omega) (by omega)
      refine ⟨r2,?_,by omega,by omega,fun h=>?_⟩
      · refine Evt.step ?_
        simp only [Yk.l0,Zc,Int.toNat_natCast,hb]
        refine Evt.pos (by omega) (Evt.pos (by omega) (Evt.bind e (Evt.neg hn ?_)))
        rw [w64n A.length (by omega)]
        rw [List.length_append] at e2
        exact e2
      · obtain ⟨m,hm,hc2⟩:=hr2 h
        refine ⟨t :: m,All2.cons ht hm,fun d=>?_⟩
        have:=hc d
        have:=hc2 d
        simp only [inner]
        omega
theorem toStmtS_loop (l:List LStmt) (hl:l.length≤1048576):∀ (B A:List LStmt) (m:List Stmt) (M R:List Stmt),All2 OkS B m→l=A ++ B→M.length=A.length→R.length=B.length→Evt (fun k=>Yl.l0 k l (M ++ R) (A.length:Int)) (M ++ m)
  |[],A,m,M,R,h2,he,hm,hr=>by
    cases h2
    obtain rfl:R=[]:=List.eq_nil_of_length_eq_zero (by simpa using hr)
    rw [List.append_nil] at he
    subst he
    refine Evt.step ?_
    simp only [Yl.l0]
    exact Evt.neg (by omega) (Evt.pure _)
  |b :: B,A,_,M,R,.cons (b:=t) (m:=m) ht h2,he,hm,hr=>by
    have hlen:l.length=A.length+B.length+1:=by rw [he];simp;omega
    have hb:l.getD A.length z78=b:=by rw [he];exact getD_app A b B _
    match R,hr with
    |x :: R,hr=>
      have hr':R.length=B.length:=by simpa using hr
      refine Evt.step ?_
      simp only [Yl.l0,Zc,Int.toNat_natCast,hb]
      refine Evt.pos (by omega) (Evt.pos (by omega) (Evt.bind ht.cpy (Evt.pos (by simp;omega) ?_)))
      rw [w64n A.length (by omega),← hm,set_app,hm]
      have ih:=toStmtS_loop l hl B (A ++ [b]) m (M ++ [t]) R h2 (by rw [he];simp) (by simp [hm]) hr'
      simp only [List.append_assoc,List.singleton_append,List.length_append,List.length_singleton] at ih
      cases t
      exact ih
theorem toStmtS_ev (l:List LStmt) (hl:l.length≤1048576) (m:List Stmt) (h2:All2 OkS l m):Evt (fun k=>Yl.f k l) m:=by
  refine Evt.step ?_
  simp only [Yl.f]
  refine Evt.pos (by omega) (Evt.pos (by omega) ?_)
  have:=toStmtS_loop l hl l [] m [] (List.replicate l.length z63) h2 rfl rfl (by simp)
  simpa using this
theorem eqStmtS_loop (m:List Stmt) (hl:m.length≤1048576) (each:∀ t ∈ m,Evt (fun k=>Ub.f k t.f0 t.f1 t.f2 t.f3 t.f4 t.f5 t.f0 t.f1 t.f2 t.f3 t.f4 t.f5) true):∀ (n i:Nat),i+n=m.length→Evt (fun k=>Xz.l0 k m m (i:Int)) true
  |0,i,h=>by
    refine Evt.step ?_
    simp only [Xz.l0]
    exact Evt.neg (by omega) (Evt.pure _)
  |n+1,i,h=>by
    refine Evt.step ?_
    simp only [Xz.l0,Xg,Int.toNat_natCast]
    refine Evt.pos (by omega) (Evt.pos (by omega) (Evt.pos (by omega) (Evt.bind (each _ (getD_mem _ (by omega))) (Evt.pos (by simp) ?_))))
    rw [w64n i (by omega)]
    exact eqStmtS_loop m hl each n (i+1) (by omega)
theorem eqStmtS_ev (m:List Stmt) (hl:m.length≤1048576) (each:∀ t ∈ m,Evt (fun k=>Ub.f k t.f0 t.f1 t.f2 t.f3 t.f4 t.f5 t.f0 t.f1 t.f2 t.f3 t.f4 t.f5) true):Evt (fun k=>Xz.f k m m) true:=by
  refine Evt.step ?_
  simp only [Xz.f]
  exact Evt.pos (by simp) (eqStmtS_loop m hl each m.length 0 (by omega))
def ToldL (l:List LStmt):Prop:=∀ left:Int,0≤left→left≤1048576→∃ r:Int,Evt (fun k=>Yk.f k l left) r∧-1≤r∧r≤left∧(0≤r→∃ m,OkL l m∧∀ d,((cntD d m:Nat):Int)+r≤left)
theorem stmt_told (s:LStmt) (hN:Num s.f0∧Num s.f1∧Num s.f2∧Num s.f3) (h4:ToldL s.f4) (h5:ToldL s.f5) (left:Int) (h0:0≤left) (h1:left≤1048576) :
    ∃ r:Int,Evt (fun k=>Zy.f k s.f0 s.f1 s.f2 s.f3 s.f4 s.f5 left) r∧-1≤r∧r≤left∧(0≤r→∃ t,OkS s t∧∀ d,((cntD d t.f4+cntD d t.f5:Nat):Int)+r≤left):=by
  obtain ⟨r4,e4,a4,z4,c4⟩:=h4 left h0 h1
  by_cases n4:r4<0
  · refine ⟨-1,Evt.step ?_,by omega,by omega,fun h=>absurd h (by omega)⟩
    simp only [Zy.f]
    exact Evt.bind e4 (Evt.pos n4 (Evt.pure _))
  obtain ⟨r5,e5,a5,z5,c5⟩:=h5 r4 (by omega) (by omega)
  by_cases n5:r5<0
  · refine ⟨-1,Evt.step ?_,by omega,by omega,fun h=>absurd h (by omega)⟩
    simp only [Zy.f]
    exact Evt.bind e4 (Evt.neg n4 (Evt.bind e5 (Evt.pos n5 (Evt.pure _))))
  obtain ⟨m4,o4,b4⟩:=c4 (by omega)
  obtain ⟨m5,o5,b5⟩:=c5 (by omega)
  refine ⟨r5,Evt.step ?_,by omega,by omega,fun _=>⟨⟨s.f0,s.f1,s.f2,s.f3,m4,m5⟩,⟨Evt.step ?_,Evt.step ?_,fun d=>⟨hN,o4.num d,o5.num d⟩⟩,fun d=>?_⟩⟩
  · simp only [Zy.f]
    exact Evt.bind e4 (Evt.neg n4 (Evt.bind e5 (Evt.neg n5 (Evt.pure _))))
  · simp only [laws_toStmt.f]
    exact Evt.bind o4.cpy (Evt.bind o5.cpy (Evt.pure _))
  · simp only [Ub.f]
    exact Evt.pos trivial (Evt.pos trivial (Evt.pos trivial (Evt.pos trivial (Evt.bind o4.eq (Evt.pos rfl (Evt.bind o5.eq (Evt.pos rfl (Evt.pure _))))))))
  · have:=b4 d
    have:=b5 d
    show ((cntD d m4+cntD d m5:Nat):Int)+r5≤left
    omega
theorem stmtS_told:∀ (n:Nat) (l:List LStmt),SizeOf.sizeOf l≤n→(∀ z ∈ l,StmtN z)→l.length≤9223372036854775807→ToldL l
  |0,l,hs,_,_=>by cases l <;> simp at hs
  |n+1,l,hs,hN,hl=>by
    intro left h0 h1
    by_cases hbig:left - (l.length:Int)<0
    · refine ⟨-1,Evt.step ?_,by omega,by omega,fun h=>absurd h (by omega)⟩
      simp only [Yk.f]
      rw [w64 (by omega) (by omega)]
      exact Evt.pos hbig (Evt.pure _)
    have each:∀ s ∈ l,∀ left:Int,0≤left→left≤1048576→∃ r:Int,Evt (fun k=>Zy.f k s.f0 s.f1 s.f2 s.f3 s.f4 s.f5 left) r∧-1≤r∧r≤left∧(0≤r→∃ t,OkS s t∧∀ d,((cntD d t.f4+cntD d t.f5:Nat):Int)+r≤left):=fun s hm=>by
      have hsz:=List.sizeOf_lt_of_mem hm
      obtain ⟨_,i0,i1,i2,i3,l4,a4,l5,a5⟩:=hN s hm
      have hs':SizeOf.sizeOf s.f4<SizeOf.sizeOf s∧SizeOf.sizeOf s.f5<SizeOf.sizeOf s:=by
        cases s
        simp only [S78.mk.sizeOf_spec]
        omega
      exact stmt_told s ⟨i0,i1,i2,i3⟩ (stmtS_told n s.f4 (by omega) a4 l4) (stmtS_told n s.f5 (by omega) a5 l5)
    obtain ⟨r,e,ha,hz,hr⟩:=szStmtS_loop l (by omega) each l [] rfl (left - (l.length:Int)) (by omega) (by omega)
    refine ⟨r,Evt.step ?_,by omega,by omega,fun h=>?_⟩
    · simp only [Yk.f]
      rw [w64 (by omega) (by omega)]
      exact Evt.neg hbig e
    · obtain ⟨m,h2,hc⟩:=hr h
      have hml:=h2.len
      refine ⟨m,⟨toStmtS_ev l (by omega) m h2,eqStmtS_ev m (by omega) (fun t ht=>?_),fun d=>?_⟩,fun d=>?_⟩
      · obtain ⟨_,_,h⟩:=h2.right t ht
        exact h.eq
      · cases d with
        |zero=>trivial
        |succ d=>exact fun t ht=>by obtain ⟨_,_,h⟩:=h2.right t ht;exact h.num d
      · cases d with
        |zero=>simp only [cntD];omega
        |succ d=>have:=hc d;simp only [cntD];omega
theorem toIntS_loop (l:List Int) (hl:l.length≤1048576):∀ (B A R:List Int),l=A ++ B→R.length=B.length→Evt (fun k=>Yw.l0 k l (A ++ R) (A.length:Int)) (A ++ B)
  |[],A,R,he,hr=>by
    obtain rfl:R=[]:=List.eq_nil_of_length_eq_zero (by simpa using hr)
    rw [List.append_nil] at he
    subst he
    refine Evt.step ?_
    simp only [Yw.l0]
    exact Evt.neg (by omega) (Evt.pure _)
  |b :: B,A,R,he,hr=>by
    have hlen:l.length=A.length+B.length+1:=by rw [he];simp;omega
    have hb:l.getD A.length 0=b:=by rw [he];exact getD_app A b B _
    match R,hr with
    |x :: R,hr=>
      have hr':R.length=B.length:=by simpa using hr
      refine Evt.step ?_
      simp only [Yw.l0,rd_nat,Int.toNat_natCast,hb]
      refine Evt.pos (by omega) (Evt.pos (by omega) (Evt.pos (by simp;omega) ?_))
      rw [w64n A.length (by omega),set_app]
      have ih:=toIntS_loop l hl B (A ++ [b]) R (by rw [he];simp) hr'
      simp only [List.append_assoc,List.singleton_append,List.length_append,List.length_singleton] at ih
      exact ih
theorem toIntS_ev (l:List Int) (hl:l.length≤1048576):Evt (fun k=>Yw.f k l) l:=by
  unfold Yw.f
  refine Evt.pos (by omega) (Evt.pos (by omega) ?_)
  have:=toIntS_loop l hl l [] (List.replicate l.length 0) rfl (by simp)
  simpa using this
theorem eqIntS_loop (m:List Int) (hl:m.length≤1048576):∀ (n i:Nat),i+n=m.length→Evt (fun k=>Yd.l0 k m m (i:Int)) true
  |0,i,h=>by
    refine Evt.step ?_
    simp only [Yd.l0]
    exact Evt.neg (by omega) (Evt.pure _)
  |n+1,i,h=>by
    refine Evt.step ?_
    simp only [Yd.l0]
    refine Evt.pos (by omega) (Evt.pos (by omega) (Evt.pos (by omega) (Evt.pos trivial ?_)))
    rw [w64n i (by omega)]
    exact eqIntS_loop m hl n (i+1) (by omega)
theorem eqIntS_ev (m:List Int) (hl:m.length≤1048576):Evt (fun k=>Yd.f k m m) true:=by
  unfold Yd.f
  exact Evt.pos rfl (eqIntS_loop m hl m.length 0 (by omega))
theorem szIntS_of (l:List Int) (hl:l.length≤9223372036854775807) (left:Int) (h0:0≤left) (h1:left≤1048576):∃ r:Int,Za.f l left=some r∧-1≤r∧r≤left∧(0≤r→(l.length:Int)+r≤left):=by
  unfold Za.f
  rw [w64 (by omega) (by omega)]
  split
  · exact ⟨-1,rfl,by omega,by omega,fun h=>absurd h (by omega)⟩
  · exact ⟨_,rfl,by omega,by omega,fun _=>by omega⟩
theorem szSayS_of (l:List LSay) (hl:l.length≤9223372036854775807) (left:Int) (h0:0≤left) (h1:left≤1048576):∃ r:Int,laws_szSayS.f l left=some r∧-1≤r∧r≤left∧(0≤r→(l.length:Int)+r≤left):=by
  unfold laws_szSayS.f
  rw [w64 (by omega) (by omega)]
  split
  · exact ⟨-1,rfl,by omega,by omega,fun h=>absurd h (by omega)⟩
  · exact ⟨_,rfl,by omega,by omega,fun _=>by omega⟩
def lens (l:List (List Int)):Nat:=(l.map List.length).sum
theorem lens_cons (a:List Int) (l:List (List Int)):lens (a :: l)=a.length+lens l:=by simp [lens]
theorem lens_mem:∀ (l:List (List Int)),∀ a ∈ l,a.length≤lens l
  |[],a,h=>by cases h
  |b :: l,a,h=>by
    rw [lens_cons]
    rcases List.mem_cons.1 h with rfl|h
    · omega
    · have:=lens_mem l a h;omega
theorem szIntSS_loop (l:List (List Int)) (hl:l.length≤1048576) (each:∀ a ∈ l,a.length≤9223372036854775807):∀ (B A:List (List Int)),l=A ++ B→∀ left:Int,0≤left→left≤1048576→∃ r:Int,Evt (fun k=>Zd.l0 k l left (A.length:Int)) r∧-1≤r∧r≤left∧(0≤r→((lens B:Nat):Int)+r≤left)
  |[],A,he,left,h0,h1=>by
    refine ⟨left,?_,by omega,by omega,fun _=>by simp [lens]⟩
    rw [List.append_nil] at he
    subst he
    refine Evt.step ?_
    simp only [Zd.l0]
    exact Evt.neg (by omega) (Evt.pure _)
  |b :: B,A,he,left,h0,h1=>by
    have hlen:l.length=A.length+B.length+1:=by rw [he];simp;omega
    have hb:l.getD A.length []=b:=by rw [he];exact getD_app A b B _
    obtain ⟨r,e,ha,hz,hr⟩:=szIntS_of b (each b (by rw [he];simp)) left h0 h1
    by_cases hn:r<0
    · refine ⟨-1,?_,by omega,by omega,fun h=>absurd h (by omega)⟩
      refine Evt.step ?_
      simp only [Zd.l0,rd_L2,Int.toNat_natCast,hb,e,Option.bind_some]
      exact Evt.pos (by omega) (Evt.pos (by omega) (Evt.pos hn (Evt.pure _)))
    · have hc:=hr (by omega)
      obtain ⟨r2,e2,ha2,hz2,hr2⟩:=szIntSS_loop l hl each B (A ++ [b]) (by rw [he];simp) r (by omega) (by omega)
      refine ⟨r2,?_,by omega,by omega,fun h=>?_⟩
      · refine Evt.step ?_
        simp only [Zd.l0,rd_L2,Int.toNat_natCast,hb,e,Option.bind_some]
        refine Evt.pos (by omega) (Evt.pos (by omega) (Evt.neg hn ?_))
        rw [w64n A.length (by omega)]
        rw [List.length_append] at e2
        exact e2
      · have:=hr2 h
        rw [lens_cons]
        omega
theorem szIntSS_of (l:List (List Int)) (hl:l.length≤9223372036854775807) (each:∀ a ∈ l,a.length≤9223372036854775807) (left:Int) (h0:0≤left) (h1:left≤1048576):∃ r:Int,Evt (fun k=>Zd.f k l left) r∧-1≤r∧r≤left∧(0≤r→((l.length+lens l:Nat):Int)+r≤left):=by
  unfold Zd.f
  rw [w64 (by omega) (by omega)]
  by_cases hbig:left - (l.length:Int)<0
  · exact ⟨-1,Evt.pos hbig (Evt.pure _),by omega,by omega,fun h=>absurd h (by omega)⟩
  obtain ⟨r,e,ha,hz,hr⟩:=szIntSS_loop l (by omega) each l [] rfl (left - (l.length:Int)) (by omega) (by omega)
  exact ⟨r,Evt.neg hbig e,by omega,by omega,fun h=>by have:=hr h;omega⟩
theorem toIntSS_loop (l:List (List Int)) (hl:l.length≤1048576) (each:∀ a ∈ l,a.length≤1048576):∀ (B A R:List (List Int)),l=A ++ B→R.length=B.length→Evt (fun k=>Zf.l0 k l (A ++ R) (A.length:Int)) (A ++ B)
  |[],A,R,he,hr=>by
    obtain rfl:R=[]:=List.eq_nil_of_length_eq_zero (by simpa using hr)
    rw [List.append_nil] at he
    subst he
    refine Evt.step ?_
    simp only [Zf.l0]
    exact Evt.neg (by omega) (Evt.pure _)
  |b :: B,A,R,he,hr=>by
    have hlen:l.length=A.length+B.length+1:=by rw [he];simp;omega
    have hb:l.getD A.length []=b:=by rw [he];exact getD_app A b B _
    match R,hr with
    |x :: R,hr=>
      have hr':R.length=B.length:=by simpa using hr
      refine Evt.step ?_
      simp only [Zf.l0,rd_L2,Int.toNat_natCast,hb]
      refine Evt.pos (by omega) (Evt.pos (by omega) (Evt.bind (toIntS_ev b (each b (by rw [he];simp))) (Evt.pos (by simp;omega) ?_)))
      rw [w64n A.length (by omega),set_app]
      have ih:=toIntSS_loop l hl each B (A ++ [b]) R (by rw [he];simp) hr'
      simp only [List.append_assoc,List.singleton_append,List.length_append,List.length_singleton] at ih
      exact ih
theorem toIntSS_ev (l:List (List Int)) (hl:l.length≤1048576) (each:∀ a ∈ l,a.length≤1048576):Evt (fun k=>Zf.f k l) l:=by
  unfold Zf.f
  refine Evt.pos (by omega) (Evt.pos (by omega) ?_)
  have:=toIntSS_loop l hl each l [] (List.replicate l.length []) rfl (by simp)
  simpa using this
theorem eqIntSS_loop (m:List (List Int)) (hl:m.length≤1048576) (each:∀ a ∈ m,a.length≤1048576):∀ (n i:Nat),i+n=m.length→Evt (fun k=>Yu.l0 k m m (i:Int)) true
  |0,i,h=>by
    refine Evt.step ?_
    simp only [Yu.l0]
    exact Evt.neg (by omega) (Evt.pure _)
  |n+1,i,h=>by
    refine Evt.step ?_
    simp only [Yu.l0,rd_L2,Int.toNat_natCast]
    refine Evt.pos (by omega) (Evt.pos (by omega) (Evt.pos (by omega) (Evt.bind (eqIntS_ev _ (each _ (getD_mem _ (by omega)))) (Evt.pos (by simp) ?_))))
    rw [w64n i (by omega)]
    exact eqIntSS_loop m hl each n (i+1) (by omega)
theorem eqIntSS_ev (m:List (List Int)) (hl:m.length≤1048576) (each:∀ a ∈ m,a.length≤1048576):Evt (fun k=>Yu.f k m m) true:=by
  unfold Yu.f
  exact Evt.pos rfl (eqIntSS_loop m hl each m.length 0 (by omega))
def say (s:LSay):Say:=⟨s.f0,s.f1⟩
theorem toSayS_loop (l:List LSay) (hl:l.length≤1048576):∀ (B A:List LSay) (R:List Say),l=A ++ B→R.length=B.length→Evt (fun k=>Zg.l0 k l (A.map say ++ R) (A.length:Int)) (l.map say)
  |[],A,R,he,hr=>by
    obtain rfl:R=[]:=List.eq_nil_of_length_eq_zero (by simpa using hr)
    rw [List.append_nil] at he
    subst he
    refine Evt.step ?_
    simp only [Zg.l0,List.append_nil]
    exact Evt.neg (by omega) (Evt.pure _)
  |b :: B,A,R,he,hr=>by
    have hlen:l.length=A.length+B.length+1:=by rw [he];simp;omega
    have hb:l.getD A.length z66=b:=by rw [he];exact getD_app A b B _
    match R,hr with
    |x :: R,hr=>
      have hr':R.length=B.length:=by simpa using hr
      refine Evt.step ?_
      simp only [Zg.l0,laws_toSay.f,Option.bind_some,rd_T66,Int.toNat_natCast,hb]
      refine Evt.pos (by omega) (Evt.pos (by omega) (Evt.pos (by simp;omega) ?_))
      have hm:(A.map say ++ x :: R).set A.length (⟨b.f0,b.f1⟩:Say)=(A ++ [b]).map say ++ R:=by
        have:=set_app (A.map say) x (say b) R
        rw [List.length_map] at this
        simp only [List.map_append,List.map_cons,List.map_nil,List.append_assoc,List.singleton_append]
        exact this
      have ih:=toSayS_loop l hl B (A ++ [b]) R (by rw [he];simp) hr'
      rw [w64n A.length (by omega)]
      rw [List.length_append] at ih
      rw [hm]
      exact ih
theorem toSayS_ev (l:List LSay) (hl:l.length≤1048576):Evt (fun k=>Zg.f k l) (l.map say):=by
  unfold Zg.f
  refine Evt.pos (by omega) (Evt.pos (by omega) ?_)
  have:=toSayS_loop l hl l [] (List.replicate l.length z47) rfl (by simp)
  simpa using this
theorem eqSayS_loop (m:List Say) (hl:m.length≤1048576):∀ (n i:Nat),i+n=m.length→Evt (fun k=>Yj.l0 k m m (i:Int)) true
  |0,i,h=>by
    refine Evt.step ?_
    simp only [Yj.l0]
    exact Evt.neg (by omega) (Evt.pure _)
  |n+1,i,h=>by
    refine Evt.step ?_
    simp only [Yj.l0,laws_eqSay.f,if_true,Option.bind_some]
    refine Evt.pos (by omega) (Evt.pos (by omega) (Evt.pos (by omega) ?_))
    rw [w64n i (by omega)]
    exact eqSayS_loop m hl n (i+1) (by omega)
theorem eqSayS_ev (m:List Say) (hl:m.length≤1048576):Evt (fun k=>Yj.f k m m) true:=by
  unfold Yj.f
  exact Evt.pos rfl (eqSayS_loop m hl m.length 0 (by omega))
structure OkP (p:LProc) (q:Proc):Prop where
  cpy:Evt (fun k=>laws_toProc.f k p.f0 p.f1 p.f2 p.f3 p.f4) (q.f0,q.f1,q.f2,q.f3,q.f4)
  eq:Evt (fun k=>laws_eqProc.f k q.f0 q.f1 q.f2 q.f3 q.f4 q.f0 q.f1 q.f2 q.f3 q.f4) true
  num:(∀ n ∈ q.f0,Num n)∧(∀ d,NumD d q.f1)∧Num q.f2∧Num q.f3∧Num q.f4
def ProcN (p:LProc):Prop:=(p.f0.length≤9223372036854775807∧∀ n ∈ p.f0,Num n)∧(p.f1.length≤9223372036854775807∧∀ z ∈ p.f1,StmtN z)∧Num p.f2∧Num p.f3∧Num p.f4
def big (d:Nat) (q:Proc):Nat:=q.f0.length+cntD d q.f1
def bigs (d:Nat):List Proc→Nat
  |[]=>0
  |q :: r=>big d q+bigs d r
theorem bigs_mem (d:Nat):∀ (l:List Proc),∀ q ∈ l,big d q≤bigs d l
  |[],q,h=>by cases h
  |b :: l,q,h=>by
    simp only [bigs]
    rcases List.mem_cons.1 h with rfl|h
    · omega
    · have:=bigs_mem d l q h;omega
theorem proc_told (p:LProc) (hN:ProcN p) (left:Int) (h0:0≤left) (h1:left≤1048576) :
    ∃ r:Int,Evt (fun k=>laws_szProc.f k p.f0 p.f1 p.f2 p.f3 p.f4 left) r∧-1≤r∧r≤left∧(0≤r→∃ q,OkP p q∧∀ d,((big d q:Nat):Int)+r≤left):=by
  obtain ⟨⟨l0,n0⟩,⟨l1,n1⟩,n2,n3,n4⟩:=hN
  unfold laws_szProc.f
  obtain ⟨r4,e4,a4,z4,c4⟩:=szIntS_of p.f0 l0 left h0 h1
  simp only [e4,Option.bind_some]
  by_cases m4:r4<0
  · exact ⟨-1,Evt.pos m4 (Evt.pure _),by omega,by omega,fun h=>absurd h (by omega)⟩
  obtain ⟨r5,e5,a5,z5,c5⟩:=stmtS_told _ p.f1 (Nat.le_refl _) n1 l1 r4 (by omega) (by omega)
  by_cases m5:r5<0
  · exact ⟨-1,Evt.neg m4 (Evt.bind e5 (Evt.pos m5 (Evt.pure _))),by omega,by omega,fun h=>absurd h (by omega)⟩
  have b4:=c4 (by omega)
  obtain ⟨t,o5,b5⟩:=c5 (by omega)
  refine ⟨r5,Evt.neg m4 (Evt.bind e5 (Evt.neg m5 (Evt.pure _))),by omega,by omega,fun _=>⟨⟨p.f0,t,p.f2,p.f3,p.f4⟩,⟨?_,?_,⟨n0,o5.num,n2,n3,n4⟩⟩,fun d=>?_⟩⟩
  · unfold laws_toProc.f
    exact Evt.bind (toIntS_ev _ (by omega)) (Evt.bind o5.cpy (Evt.pure _))
  · unfold laws_eqProc.f
    exact Evt.bind (eqIntS_ev _ (by show p.f0.length≤_;omega)) (Evt.pos rfl (Evt.bind o5.eq (Evt.pos rfl (Evt.pos rfl (Evt.pos rfl (Evt.pos rfl (Evt.pure _)))))))
  · have:=b5 d
    show ((p.f0.length+cntD d t:Nat):Int)+r5≤left
    omega
theorem szProcS_loop (l:List LProc) (hl:l.length≤1048576) (each:∀ p ∈ l,ProcN p):∀ (B A:List LProc),l=A ++ B→∀ left:Int,0≤left→left≤1048576→∃ r:Int,Evt (fun k=>Ze.l0 k l left (A.length:Int)) r∧-1≤r∧r≤left∧(0≤r→∃ m,All2 OkP B m∧∀ d,((bigs d m:Nat):Int)+r≤left)
  |[],A,he,left,h0,h1=>by
    refine ⟨left,?_,by omega,by omega,fun _=>⟨[],All2.nil,fun d=>by simp [bigs]⟩⟩
    rw [List.append_nil] at he
    subst he
    refine Evt.step ?_
    simp only [Ze.l0]
    exact Evt.neg (by omega) (Evt.pure _)
  |b :: B,A,he,left,h0,h1=>by
    have hlen:l.length=A.length+B.length+1:=by rw [he];simp;omega
    have hb:l.getD A.length z60=b:=by rw [he];exact getD_app A b B _
    obtain ⟨r,e,ha,hz,hr⟩:=proc_told b (each b (by rw [he];simp)) left h0 h1
    by_cases hn:r<0
    · refine ⟨-1,?_,by omega,by omega,fun h=>absurd h (by omega)⟩
      refine Evt.step ?_
      simp only [Ze.l0,Zi,Int.toNat_natCast,hb]
      exact Evt.pos (by omega) (Evt.pos (by omega) (Evt.bind e (Evt.pos hn (Evt.pure _))))
    · obtain ⟨t,ht,hc⟩:=hr (by omega)
      obtain ⟨r2,e2,ha2,hz2,hr2⟩:=szProcS_loop l hl each B (A ++ [b]) (by rw [he];simp) r (by omega) (by omega)
      refine ⟨r2,?_,by omega,by omega,fun h=>?_⟩
      · refine Evt.step ?_
        simp only [Ze.l0,Zi,Int.toNat_natCast,hb]
        refine Evt.pos (by omega) (Evt.pos (by omega) (Evt.bind e (Evt.neg hn ?_)))
        rw [w64n A.length (by omega)]
        rw [List.length_append] at e2
        exact e2
      · obtain ⟨m,hm,hc2⟩:=hr2 h
        refine ⟨t :: m,All2.cons ht hm,fun d=>?_⟩
        have:=hc d
        have:=hc2 d
        simp only [bigs]
        omega
theorem toProcS_loop (l:List LProc) (hl:l.length≤1048576):∀ (B A:List LProc) (m:List Proc) (M R:List Proc),All2 OkP B m→l=A ++ B→M.length=A.length→R.length=B.length→Evt (fun k=>Zk.l0 k l (M ++ R) (A.length:Int)) (M ++ m)
  |[],A,m,M,R,h2,he,hm,hr=>by
    cases h2
    obtain rfl:R=[]:=List.eq_nil_of_length_eq_zero (by simpa using hr)
    rw [List.append_nil] at he
    subst he
    refine Evt.step ?_
    simp only [Zk.l0]
    exact Evt.neg (by omega) (Evt.pure _)
  |b :: B,A,_,M,R,.cons (b:=t) (m:=m) ht h2,he,hm,hr=>by
    have hlen:l.length=A.length+B.length+1:=by rw [he];simp;omega
    have hb:l.getD A.length z60=b:=by rw [he];exact getD_app A b B _
    match R,hr with
    |x :: R,hr=>
      have hr':R.length=B.length:=by simpa using hr
      refine Evt.step ?_
      simp only [Zk.l0,Zi,Int.toNat_natCast,hb]
      refine Evt.pos (by omega) (Evt.pos (by omega) (Evt.bind ht.cpy (Evt.pos (by simp;omega) ?_)))
      rw [w64n A.length (by omega),← hm,set_app,hm]
      have ih:=toProcS_loop l hl B (A ++ [b]) m (M ++ [t]) R h2 (by rw [he];simp) (by simp [hm]) hr'
      simp only [List.append_assoc,List.singleton_append,List.length_append,List.length_singleton] at ih
      cases t
      exact ih
theorem toProcS_ev (l:List LProc) (hl:l.length≤1048576) (m:List Proc) (h2:All2 OkP l m):Evt (fun k=>Zk.f k l) m:=by
  unfold Zk.f
  refine Evt.pos (by omega) (Evt.pos (by omega) ?_)
  have:=toProcS_loop l hl l [] m [] (List.replicate l.length z43) h2 rfl rfl (by simp)
  simpa using this
theorem eqProcS_loop (m:List Proc) (hl:m.length≤1048576) (each:∀ q ∈ m,Evt (fun k=>laws_eqProc.f k q.f0 q.f1 q.f2 q.f3 q.f4 q.f0 q.f1 q.f2 q.f3 q.f4) true):∀ (n i:Nat),i+n=m.length→Evt (fun k=>Yi.l0 k m m (i:Int)) true
  |0,i,h=>by
    refine Evt.step ?_
    simp only [Yi.l0]
    exact Evt.neg (by omega) (Evt.pure _)
  |n+1,i,h=>by
    refine Evt.step ?_
    simp only [Yi.l0,Xm,Int.toNat_natCast]
    refine Evt.pos (by omega) (Evt.pos (by omega) (Evt.pos (by omega) (Evt.bind (each _ (getD_mem _ (by omega))) (Evt.pos (by simp) ?_))))
    rw [w64n i (by omega)]
    exact eqProcS_loop m hl each n (i+1) (by omega)
theorem eqProcS_ev (m:List Proc) (hl:m.length≤1048576) (each:∀ q ∈ m,Evt (fun k=>laws_eqProc.f k q.f0 q.f1 q.f2 q.f3 q.f4 q.f0 q.f1 q.f2 q.f3 q.f4) true):Evt (fun k=>Yi.f k m m) true:=by
  unfold Yi.f
  exact Evt.pos rfl (eqProcS_loop m hl each m.length 0 (by omega))
theorem procS_told (l:List LProc) (hl:l.length≤9223372036854775807) (each:∀ p ∈ l,ProcN p) (left:Int) (h0:0≤left) (h1:left≤1048576) :
    ∃ r:Int,Evt (fun k=>Ze.f k l left) r∧-1≤r∧r≤left∧(0≤r→∃ m,All2 OkP l m∧∀ d,((m.length+bigs d m:Nat):Int)+r≤left):=by
  unfold Ze.f
  rw [w64 (by omega) (by omega)]
  by_cases hbig:left - (l.length:Int)<0
  · exact ⟨-1,Evt.pos hbig (Evt.pure _),by omega,by omega,fun h=>absurd h (by omega)⟩
  obtain ⟨r,e,ha,hz,hr⟩:=szProcS_loop l (by omega) each l [] rfl (left - (l.length:Int)) (by omega) (by omega)
  refine ⟨r,Evt.neg hbig e,by omega,by omega,fun h=>?_⟩
  obtain ⟨m,h2,hc⟩:=hr h
  have:=h2.len
  exact ⟨m,h2,fun d=>by have:=hc d;omega⟩
structure Fits (m:List Proc) (C R:List Int) (S:List (List Int)) (Q:List Say):Prop where
  size:∀ d,m.length+bigs d m+C.length+R.length+(S.length+lens S)+Q.length≤1048576
  procs:∀ q ∈ m,(∀ n ∈ q.f0,Num n)∧(∀ d,NumD d q.f1)∧Num q.f2∧Num q.f3∧Num q.f4
  cells:∀ n ∈ C,Num n
  rooms:∀ n ∈ R,Num n
  signs:∀ a ∈ S,∀ n ∈ a,Num n
  said:∀ s ∈ Q,Num s.f0∧Num s.f1
structure LFits (P:List LProc) (C R:List Int) (S:List (List Int)) (Q:List LSay):Prop where
  procs:P.length≤9223372036854775807∧∀ p ∈ P,ProcN p
  cells:C.length≤9223372036854775807∧∀ n ∈ C,Num n
  rooms:R.length≤9223372036854775807∧∀ n ∈ R,Num n
  signs:S.length≤9223372036854775807∧∀ a ∈ S,a.length≤9223372036854775807∧∀ n ∈ a,Num n
  said:Q.length≤9223372036854775807∧∀ s ∈ Q,Num s.f0∧Num s.f1
theorem world_told (P:List LProc) (C R:List Int) (S:List (List Int)) (Q:List LSay) (h:LFits P C R S Q):∃ r:Int,Evt (fun k=>laws_szWorld.f k P C R S Q 1048576) r∧(0≤r→∃ m,Fits m C R S (Q.map say)∧
    Evt (fun k=>Yv.f k P C R S Q) (m,C,R,S,Q.map say)∧Evt (fun k=>Zu.f k m C R S (Q.map say) m C R S (Q.map say)) true):=by
  unfold laws_szWorld.f
  obtain ⟨r0,e0,a0,z0,c0⟩:=procS_told P h.procs.1 h.procs.2 1048576 (by omega) (by omega)
  by_cases n0:r0<0
  · exact ⟨-1,Evt.bind e0 (Evt.pos n0 (Evt.pure _)),fun h=>absurd h (by omega)⟩
  obtain ⟨r1,e1,a1,z1,c1⟩:=szIntS_of C h.cells.1 r0 (by omega) (by omega)
  by_cases n1:r1<0
  · exact ⟨-1,Evt.bind e0 (Evt.neg n0 (Evt.bind (Evt.of_eq fun _=>e1) (Evt.pos n1 (Evt.pure _)))),fun h=>absurd h (by omega)⟩
  obtain ⟨r2,e2,a2,z2,c2⟩:=szIntS_of R h.rooms.1 r1 (by omega) (by omega)
  by_cases n2:r2<0
  · exact ⟨-1,Evt.bind e0 (Evt.neg n0 (Evt.bind (Evt.of_eq fun _=>e1) (Evt.neg n1 (Evt.bind (Evt.of_eq fun _=>e2) (Evt.pos n2 (Evt.pure _)))))),fun h=>absurd h (by omega)⟩
  obtain ⟨r3,e3,a3,z3,c3⟩:=szIntSS_of S h.signs.1 (fun a ha=>(h.signs.2 a ha).1) r2 (by omega) (by omega)
  by_cases n3:r3<0
  · exact ⟨-1,Evt.bind e0 (Evt.neg n0 (Evt.bind (Evt.of_eq fun _=>e1) (Evt.neg n1 (Evt.bind (Evt.of_eq fun _=>e2) (Evt.neg n2 (Evt.bind e3 (Evt.pos n3 (Evt.pure _)))))))),fun h=>absurd h (by omega)⟩
  obtain ⟨r4,e4,a4,z4,c4⟩:=szSayS_of Q h.said.1 r3 (by omega) (by omega)
  by_cases n4:r4<0
  · exact ⟨-1,Evt.bind e0 (Evt.neg n0 (Evt.bind (Evt.of_eq fun _=>e1) (Evt.neg n1 (Evt.bind (Evt.of_eq fun _=>e2) (Evt.neg n2 (Evt.bind e3 (Evt.neg n3 (Evt.bind (Evt.of_eq fun _=>e4) (Evt.pos n4 (Evt.pure _)))))))))),fun h=>absurd h (by omega)⟩
  refine ⟨r4,Evt.bind e0 (Evt.neg n0 (Evt.bind (Evt.of_eq fun _=>e1) (Evt.neg n1 (Evt.bind (Evt.of_eq fun _=>e2) (Evt.neg n2 (Evt.bind e3 (Evt.neg n3 (Evt.bind (Evt.of_eq fun _=>e4) (Evt.neg n4 (Evt.pure _)))))))))),fun _=>?_⟩
  obtain ⟨m,h2,b0⟩:=c0 (by omega)
  have b1:=c1 (by omega)
  have b2:=c2 (by omega)
  have b3:=c3 (by omega)
  have b4:=c4 (by omega)
  have hlen:=h2.len
  have hb:=b0 0
  have hS:∀ a ∈ S,a.length≤1048576:=fun a ha=>by have:=lens_mem S a ha;omega
  refine ⟨m,⟨fun d=>by have:=b0 d;rw [List.length_map];omega,fun q hq=>?_,h.cells.2,h.rooms.2,fun a ha=>(h.signs.2 a ha).2,fun s hs=>?_⟩,?_,?_⟩
  · obtain ⟨_,_,h⟩:=h2.right q hq
    exact h.num
  · obtain ⟨t,ht,rfl⟩:=List.mem_map.1 hs
    exact h.said.2 t ht
  · unfold Yv.f
    exact Evt.bind (toProcS_ev P (by omega) m h2) (Evt.bind (toIntS_ev C (by omega)) (Evt.bind (toIntS_ev R (by omega)) (Evt.bind (toIntSS_ev S (by omega) hS) (Evt.bind (toSayS_ev Q (by omega)) (Evt.pure _)))))
  · unfold Zu.f
    exact Evt.bind (eqProcS_ev m (by omega) (fun q hq=>by obtain ⟨_,_,h⟩:=h2.right q hq;exact h.eq)) (Evt.pos rfl (Evt.bind (eqIntS_ev C (by omega)) (Evt.pos rfl (Evt.bind (eqIntS_ev R (by omega)) (Evt.pos rfl (Evt.bind (eqIntSS_ev S (by omega) hS) (Evt.pos rfl (Evt.bind (eqSayS_ev (Q.map say) (by rw [List.length_map];omega)) (Evt.pos rfl (Evt.pure _))))))))))
end Go.Proofs.YtpcfebhpapdkcaaDoor.Pure
