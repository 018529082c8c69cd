import Derived.Test.YtlhogkfmdnpmkaaCFnExactWholeOrder38
import Derived.Test.YtlhogkfmdnpmkaaCFnExactWholeOrder89
import Derived.Test.YtlhogkfmdnpmkaaCFnExactWholeOrder21
import Derived.Test.YtlhogkfmdnpmkaaCFnExactWholeOrder22
import Derived.Test.YtlhogkfmdnpmkaaCFnExactWholeOrder82
import Derived.Test.YtlhogkfmdnpmkaaCFnExactWholeOrder84
namespace Go.Proofs.Ytlhogkfmdnpmkaa.Pure
open Go.RowKit Go.Proofs.Ytlhogkfmdnpmkaa.GWhole Go.Proofs.YtlhogkfmdnpmkaaW.PrintWords Go.Proofs.YtlhogkfmdnpmkaaW.PrintLast Go.Proofs.YtlhogkfmdnpmkaaW.PrintMore Go.Proofs.Ytlhogkfmdnpmkaa.Evt Go.Proofs.Ytlhogkfmdnpmkaa.Open
set_option linter.unusedVariables false
set_option linter.unusedSimpArgs false
abbrev LStmt:=S65
abbrev Stmt:=S69
theorem getD_app {α:Type} (A:List α) (x:α) (B:List α) (d:α):(A ++ x :: B).getD A.length d=x:=by simp [List.getD_eq_getElem?_getD]
theorem set_app {α:Type} (A:List α) (x v:α) (B:List α):(A ++ x :: B).set A.length v=A ++ v :: B:=by simp
inductive All2 {α β:Type} (R:α→β→Prop):List α→List β→Prop
  |nil:All2 R [] []
  |cons {a:α} {b:β} {l:List α} {m:List β}:R a b→All2 R l m→All2 R (a :: l) (b :: m)
theorem All2.len {α β:Type} {R:α→β→Prop} {l:List α} {m:List β} (h:All2 R l m):l.length=m.length:=by
  induction h with
  |nil=>rfl
  |cons _ _ ih=>simp [ih]
theorem All2.right {α β:Type} {R:α→β→Prop} {l:List α} {m:List β} (h:All2 R l m):∀ b ∈ m,∃ a ∈ l,R a b:=by
  induction h with
  |nil=>intro b hb;cases hb
  |cons h _ ih=>
    intro b hb
    rcases List.mem_cons.1 hb with rfl|hb
    · exact ⟨_,List.mem_cons_self,h⟩
    · obtain ⟨a,ha,hr⟩:=ih b hb
      exact ⟨a,List.mem_cons_of_mem _ ha,hr⟩
def NumD:Nat→List Stmt→Prop
  |0,_=>True
  |d+1,l=>∀ s ∈ l,(Num s.f0∧Num s.f1∧Num s.f2∧Num s.f3)∧NumD d s.f4∧NumD d s.f5
def inner (c:List Stmt→Nat):List Stmt→Nat
  |[]=>0
  |s :: r=>c s.f4+c s.f5+inner c r
def cntD:Nat→List Stmt→Nat
  |0,_=>0
  |d+1,l=>l.length+inner (cntD d) l
structure OkS (s:LStmt) (t:Stmt):Prop where
  cpy:Evt (fun k=>laws_toStmt.f k s.f0 s.f1 s.f2 s.f3 s.f4 s.f5) (t.f0,t.f1,t.f2,t.f3,t.f4,t.f5)
  eq:Evt (fun k=>Us.f k t.f0 t.f1 t.f2 t.f3 t.f4 t.f5 t.f0 t.f1 t.f2 t.f3 t.f4 t.f5) true
  num:∀ d,(Num t.f0∧Num t.f1∧Num t.f2∧Num t.f3)∧NumD d t.f4∧NumD d t.f5
structure OkL (l:List LStmt) (m:List Stmt):Prop where
  cpy:Evt (fun k=>Yo.f k l) m
  eq:Evt (fun k=>Xv.f k m m) true
  num:∀ d,NumD d m
theorem szStmtS_loop (l:List LStmt) (hl:l.length≤1048576) (each:∀ s ∈ l,∀ left:Int,0≤left→left≤1048576→∃ r:Int,Evt (fun k=>Ue.f k s.f0 s.f1 s.f2 s.f3 s.f4 s.f5 left) r∧-1≤r∧r≤left∧(0≤r→∃ t,OkS s t∧∀ d,((cntD d t.f4+cntD d t.f5:Nat):Int)+r≤left)) :
    ∀ (B A:List LStmt),l=A ++ B→∀ left:Int,0≤left→left≤1048576→∃ r:Int,Evt (fun k=>Yn.l0 k l left (A.length:Int)) r∧-1≤r∧r≤left∧(0≤r→∃ m,All2 OkS B m∧∀ d,((inner (cntD d) m:Nat):Int)+r≤left)
  |[],A,he,left,h0,h1=>by
    refine ⟨left,?_,by omega,by omega,fun _=>⟨[],All2.nil,fun d=>by simp [inner]⟩⟩
    rw [List.append_nil] at he
    subst he
    refine Evt.step ?_
    simp only [Yn.l0]
    exact Evt.neg (by omega) (Evt.pure _)
  |b :: B,A,he,left,h0,h1=>by
    have hlen:l.length=A.length+B.length+1:=by rw [he];simp;omega
    have hb:l.getD A.length z65=b:=by rw [he];exact getD_app A b B _
    obtain ⟨r,e,ha,hz,hr⟩:=each b (by rw [he];simp) left h0 h1
    by_cases hn:r<0
    · refine ⟨-1,?_,by omega,by omega,fun h=>absurd h (by omega)⟩
      refine Evt.step ?_
      simp only [Yn.l0,Zi,Int.toNat_natCast,hb]
      exact Evt.pos (by omega) (Evt.pos (by omega) (Evt.bind e (Evt.pos hn (Evt.pure _))))
    · obtain ⟨t,ht,hc⟩:=hr (by omega)
      obtain ⟨r2,e2,ha2,hz2,hr2⟩:=szStmtS_loop l hl each B (A ++ [b]) (by rw [he];simp) r (by omega) (by omega)
      refine ⟨r2,?_,by omega,by omega,fun h=>?_⟩
      · refine Evt.step ?_
        simp only [Yn.l0,Zi,Int.toNat_natCast,hb]
        refine Evt.pos (by omega) (Evt.pos (by omega) (Evt.bind e (Evt.neg hn ?_)))
        rw [w64n A.length (by omega)]
        rw [List.length_append] at e2
        exact e2
      · obtain ⟨m,hm,hc2⟩:=hr2 h
        refine ⟨t :: m,All2.cons ht hm,fun d=>?_⟩
        have:=hc d
        have:=hc2 d
        simp only [inner]
        omega
theorem toStmtS_loop (l:List LStmt) (hl:l.length≤1048576):∀ (B A:List LStmt) (m:List Stmt) (M R:List Stmt),All2 OkS B m→l=A ++ B→M.length=A.length→R.length=B.length→Evt (fun k=>Yo.l0 k l (M ++ R) (A.length:Int)) (M ++ m)
  |[],A,m,M,R,h2,he,hm,hr=>by
    cases h2
    obtain rfl:R=[]:=List.eq_nil_of_length_eq_zero (by simpa using hr)
    rw [List.append_nil] at he
    subst he
    refine Evt.step ?_
    simp only [Yo.l0]
    exact Evt.neg (by omega) (Evt.pure _)
  |b :: B,A,_,M,R,.cons (b:=t) (m:=m) ht h2,he,hm,hr=>by
    have hlen:l.length=A.length+B.length+1:=by rw [he];simp;omega
    have hb:l.getD A.length z65=b:=by rw [he];exact getD_app A b B _
    match R,hr with
    |x :: R,hr=>
      have hr':R.length=B.length:=by simpa using hr
      refine Evt.step ?_
      simp only [Yo.l0,Zi,Int.toNat_natCast,hb]
      refine Evt.pos (by omega) (Evt.pos (by omega) (Evt.bind ht.cpy (Evt.pos (by simp;omega) ?_)))
      rw [w64n A.length (by omega),← hm,set_app,hm]
      have ih:=toStmtS_loop l hl B (A ++ [b]) m (M ++ [t]) R h2 (by rw [he];simp) (by simp [hm]) hr'
      simp only [List.append_assoc,List.singleton_append,List.length_append,List.length_singleton] at ih
      cases t
      exact ih
theorem toStmtS_ev (l:List LStmt) (hl:l.length≤1048576) (m:List Stmt) (h2:All2 OkS l m):Evt (fun k=>Yo.f k l) m:=by
  refine Evt.step ?_
  simp only [Yo.f]
  refine Evt.pos (by omega) (Evt.pos (by omega) ?_)
  have:=toStmtS_loop l hl l [] m [] (List.replicate l.length z69) h2 rfl rfl (by simp)
  simpa using this
theorem eqStmtS_loop (m:List Stmt) (hl:m.length≤1048576) (each:∀ t ∈ m,Evt (fun k=>Us.f k t.f0 t.f1 t.f2 t.f3 t.f4 t.f5 t.f0 t.f1 t.f2 t.f3 t.f4 t.f5) true):∀ (n i:Nat),i+n=m.length→Evt (fun k=>Xv.l0 k m m (i:Int)) true
  |0,i,h=>by
    refine Evt.step ?_
    simp only [Xv.l0]
    exact Evt.neg (by omega) (Evt.pure _)
  |n+1,i,h=>by
    refine Evt.step ?_
    simp only [Xv.l0,Xd,Int.toNat_natCast]
    refine Evt.pos (by omega) (Evt.pos (by omega) (Evt.pos (by omega) (Evt.bind (each _ (getD_mem _ (by omega))) (Evt.pos (by simp) ?_))))
    rw [w64n i (by omega)]
    exact eqStmtS_loop m hl each n (i+1) (by omega)
theorem eqStmtS_ev (m:List Stmt) (hl:m.length≤1048576) (each:∀ t ∈ m,Evt (fun k=>Us.f k t.f0 t.f1 t.f2 t.f3 t.f4 t.f5 t.f0 t.f1 t.f2 t.f3 t.f4 t.f5) true):Evt (fun k=>Xv.f k m m) true:=by
  refine Evt.step ?_
  simp only [Xv.f]
  exact Evt.pos (by simp) (eqStmtS_loop m hl each m.length 0 (by omega))
def ToldL (l:List LStmt):Prop:=∀ left:Int,0≤left→left≤1048576→∃ r:Int,Evt (fun k=>Yn.f k l left) r∧-1≤r∧r≤left∧(0≤r→∃ m,OkL l m∧∀ d,((cntD d m:Nat):Int)+r≤left)
theorem stmt_told (s:LStmt) (hN:Num s.f0∧Num s.f1∧Num s.f2∧Num s.f3) (h4:ToldL s.f4) (h5:ToldL s.f5) (left:Int) (h0:0≤left) (h1:left≤1048576) :
    ∃ r:Int,Evt (fun k=>Ue.f k s.f0 s.f1 s.f2 s.f3 s.f4 s.f5 left) r∧-1≤r∧r≤left∧(0≤r→∃ t,OkS s t∧∀ d,((cntD d t.f4+cntD d t.f5:Nat):Int)+r≤left):=by
  obtain ⟨r4,e4,a4,z4,c4⟩:=h4 left h0 h1
  by_cases n4:r4<0
  · refine ⟨-1,Evt.step ?_,by omega,by omega,fun h=>absurd h (by omega)⟩
    simp only [Ue.f]
    exact Evt.bind e4 (Evt.pos n4 (Evt.pure _))
  obtain ⟨r5,e5,a5,z5,c5⟩:=h5 r4 (by omega) (by omega)
  by_cases n5:r5<0
  · refine ⟨-1,Evt.step ?_,by omega,by omega,fun h=>absurd h (by omega)⟩
    simp only [Ue.f]
    exact Evt.bind e4 (Evt.neg n4 (Evt.bind e5 (Evt.pos n5 (Evt.pure _))))
  obtain ⟨m4,o4,b4⟩:=c4 (by omega)
  obtain ⟨m5,o5,b5⟩:=c5 (by omega)
  refine ⟨r5,Evt.step ?_,by omega,by omega,fun _=>⟨⟨s.f0,s.f1,s.f2,s.f3,m4,m5⟩,⟨Evt.step ?_,Evt.step ?_,fun d=>⟨hN,o4.num d,o5.num d⟩⟩,fun d=>?_⟩⟩
  · simp only [Ue.f]
    exact Evt.bind e4 (Evt.neg n4 (Evt.bind e5 (Evt.neg n5 (Evt.pure _))))
  · simp only [laws_toStmt.f]
    exact Evt.bind o4.cpy (Evt.bind o5.cpy (Evt.pure _))
  · simp only [Us.f]
    exact Evt.pos trivial (Evt.pos trivial (Evt.pos trivial (Evt.pos trivial (Evt.bind o4.eq (Evt.pos rfl (Evt.bind o5.eq (Evt.pos rfl (Evt.pure _))))))))
  · have:=b4 d
    have:=b5 d
    show ((cntD d m4+cntD d m5:Nat):Int)+r5≤left
    omega
theorem stmtS_told:∀ (n:Nat) (l:List LStmt),SizeOf.sizeOf l≤n→(∀ z ∈ l,StmtN z)→l.length≤9223372036854775807→ToldL l
  |0,l,hs,_,_=>by cases l <;> simp at hs
  |n+1,l,hs,hN,hl=>by
    intro left h0 h1
    by_cases hbig:left - (l.length:Int)<0
    · refine ⟨-1,Evt.step ?_,by omega,by omega,fun h=>absurd h (by omega)⟩
      simp only [Yn.f]
      rw [w64 (by omega) (by omega)]
      exact Evt.pos hbig (Evt.pure _)
    have each:∀ s ∈ l,∀ left:Int,0≤left→left≤1048576→∃ r:Int,Evt (fun k=>Ue.f k s.f0 s.f1 s.f2 s.f3 s.f4 s.f5 left) r∧-1≤r∧r≤left∧(0≤r→∃ t,OkS s t∧∀ d,((cntD d t.f4+cntD d t.f5:Nat):Int)+r≤left):=fun s hm=>by
      have hsz:=List.sizeOf_lt_of_mem hm
      obtain ⟨_,i0,i1,i2,i3,l4,a4,l5,a5⟩:=hN s hm
      have hs':SizeOf.sizeOf s.f4<SizeOf.sizeOf s∧SizeOf.sizeOf s.f5<SizeOf.sizeOf s:=by
        cases s
        simp only [S65.mk.sizeOf_spec]
        omega
      exact stmt_told s ⟨i0,i1,i2,i3⟩ (stmtS_told n s.f4 (by omega) a4 l4) (stmtS_told n s.f5 (by omega) a5 l5)
    obtain ⟨r,e,ha,hz,hr⟩:=szStmtS_loop l (by omega) each l [] rfl (left - (l.length:Int)) (by omega) (by omega)
    refine ⟨r,Evt.step ?_,by omega,by omega,fun h=>?_⟩
    · simp only [Yn.f]
      rw [w64 (by omega) (by omega)]
      exact Evt.neg hbig e
    · obtain ⟨m,h2,hc⟩:=hr h
      have hml:=h2.len
      refine ⟨m,⟨toStmtS_ev l (by omega) m h2,eqStmtS_ev m (by omega) (fun t ht=>?_),fun d=>?_⟩,fun d=>?_⟩
      · obtain ⟨_,_,h⟩:=h2.right t ht
        exact h.eq
      · cases d with
        |zero=>trivial
        |succ d=>exact fun t ht=>by obtain ⟨_,_,h⟩:=h2.right t ht;exact h.num d
      · cases d with
        |zero=>simp only [cntD];omega
        |succ d=>have:=hc d;simp only [cntD];omega
theorem toIntS_loop (l:List Int) (hl:l.length≤1048576):∀ (B A R:List Int),l=A ++ B→R.length=B.length→Evt (fun k=>Xq.l0 k l (A ++ R) (A.length:Int)) (A ++ B)
  |[],A,R,he,hr=>by
    obtain rfl:R=[]:=List.eq_nil_of_length_eq_zero (by simpa using hr)
    rw [List.append_nil] at he
    subst he
    refine Evt.step ?_
    simp only [Xq.l0]
    exact Evt.neg (by omega) (Evt.pure _)
  |b :: B,A,R,he,hr=>by
    have hlen:l.length=A.length+B.length+1:=by rw [he];simp;omega
    have hb:l.getD A.length 0=b:=by rw [he];exact getD_app A b B _
    match R,hr with
    |x :: R,hr=>
      have hr':R.length=B.length:=by simpa using hr
      refine Evt.step ?_
      simp only [Xq.l0,rd_nat,Int.toNat_natCast,hb]
      refine Evt.pos (by omega) (Evt.pos (by omega) (Evt.pos (by simp;omega) ?_))
      rw [w64n A.length (by omega),set_app]
      have ih:=toIntS_loop l hl B (A ++ [b]) R (by rw [he];simp) hr'
      simp only [List.append_assoc,List.singleton_append,List.length_append,List.length_singleton] at ih
      exact ih
theorem toIntS_ev (l:List Int) (hl:l.length≤1048576):Evt (fun k=>Xq.f k l) l:=by
  unfold Xq.f
  refine Evt.pos (by omega) (Evt.pos (by omega) ?_)
  have:=toIntS_loop l hl l [] (List.replicate l.length 0) rfl (by simp)
  simpa using this
theorem eqIntS_loop (m:List Int) (hl:m.length≤1048576):∀ (n i:Nat),i+n=m.length→Evt (fun k=>Xn.l0 k m m (i:Int)) true
  |0,i,h=>by
    refine Evt.step ?_
    simp only [Xn.l0]
    exact Evt.neg (by omega) (Evt.pure _)
  |n+1,i,h=>by
    refine Evt.step ?_
    simp only [Xn.l0]
    refine Evt.pos (by omega) (Evt.pos (by omega) (Evt.pos (by omega) (Evt.pos trivial ?_)))
    rw [w64n i (by omega)]
    exact eqIntS_loop m hl n (i+1) (by omega)
theorem eqIntS_ev (m:List Int) (hl:m.length≤1048576):Evt (fun k=>Xn.f k m m) true:=by
  unfold Xn.f
  exact Evt.pos rfl (eqIntS_loop m hl m.length 0 (by omega))
def cntSS (d:Nat):List (List Stmt)→Nat
  |[]=>0
  |x :: r=>cntD d x+cntSS d r
theorem szSS_loop (l:List (List LStmt)) (hl:l.length≤1048576) (each:∀ x ∈ l,ToldL x):∀ (B A:List (List LStmt)),l=A ++ B→∀ left:Int,0≤left→left≤1048576→∃ r:Int,Evt (fun k=>Zd.l0 k l left (A.length:Int)) r∧-1≤r∧r≤left∧(0≤r→∃ m,All2 OkL B m∧∀ d,((cntSS d m:Nat):Int)+r≤left)
  |[],A,he,left,h0,h1=>by
    refine ⟨left,?_,by omega,by omega,fun _=>⟨[],All2.nil,fun d=>by simp [cntSS]⟩⟩
    rw [List.append_nil] at he
    subst he
    refine Evt.step ?_
    simp only [Zd.l0]
    exact Evt.neg (by omega) (Evt.pure _)
  |b :: B,A,he,left,h0,h1=>by
    have hlen:l.length=A.length+B.length+1:=by rw [he];simp;omega
    have hb:l.getD A.length []=b:=by rw [he];exact getD_app A b B _
    obtain ⟨r,e,ha,hz,hr⟩:=each b (by rw [he];simp) left h0 h1
    by_cases hn:r<0
    · refine ⟨-1,?_,by omega,by omega,fun h=>absurd h (by omega)⟩
      refine Evt.step ?_
      simp only [Zd.l0,rd_L2,Int.toNat_natCast,hb]
      exact Evt.pos (by omega) (Evt.pos (by omega) (Evt.bind e (Evt.pos hn (Evt.pure _))))
    · obtain ⟨m,om,hm⟩:=hr (by omega)
      obtain ⟨r2,e2,ha2,hz2,hr2⟩:=szSS_loop l hl each B (A ++ [b]) (by rw [he];simp) r (by omega) (by omega)
      refine ⟨r2,?_,by omega,by omega,fun h=>?_⟩
      · refine Evt.step ?_
        simp only [Zd.l0,rd_L2,Int.toNat_natCast,hb]
        refine Evt.pos (by omega) (Evt.pos (by omega) (Evt.bind e (Evt.neg hn ?_)))
        rw [w64n A.length (by omega)]
        rw [List.length_append] at e2
        exact e2
      · obtain ⟨ms,h2,hc⟩:=hr2 h
        refine ⟨m :: ms,All2.cons om h2,fun d=>?_⟩
        have:=hm d
        have:=hc d
        simp only [cntSS]
        omega
theorem szSS_of (l:List (List LStmt)) (hl:l.length≤9223372036854775807) (each:∀ x ∈ l,ToldL x) (left:Int) (h0:0≤left) (h1:left≤1048576):∃ r:Int,Evt (fun k=>Zd.f k l left) r∧-1≤r∧r≤left∧(0≤r→l.length≤1048576∧∃ m,All2 OkL l m∧∀ d,((l.length+cntSS d m:Nat):Int)+r≤left):=by
  unfold Zd.f
  rw [w64 (by omega) (by omega)]
  by_cases hbig:left - (l.length:Int)<0
  · exact ⟨-1,Evt.pos hbig (Evt.pure _),by omega,by omega,fun h=>absurd h (by omega)⟩
  obtain ⟨r,e,ha,hz,hr⟩:=szSS_loop l (by omega) each l [] rfl (left - (l.length:Int)) (by omega) (by omega)
  exact ⟨r,Evt.neg hbig e,by omega,by omega,fun h=>⟨by omega,by obtain ⟨m,h2,hc⟩:=hr h;exact ⟨m,h2,fun d=>by have:=hc d;omega⟩⟩⟩
theorem toSS_loop (l:List (List LStmt)) (hl:l.length≤1048576):∀ (B A:List (List LStmt)) (m M R:List (List Stmt)),All2 OkL B m→l=A ++ B→M.length=A.length→R.length=B.length→Evt (fun k=>Xo.l0 k l (M ++ R) (A.length:Int)) (M ++ m)
  |[],A,m,M,R,h2,he,hM,hr=>by
    obtain rfl:R=[]:=List.eq_nil_of_length_eq_zero (by simpa using hr)
    cases h2
    rw [List.append_nil] at he
    subst he
    refine Evt.step ?_
    simp only [Xo.l0]
    exact Evt.neg (by omega) (Evt.pure _)
  |b :: B,A,m,M,R,h2,he,hM,hr=>by
    have hlen:l.length=A.length+B.length+1:=by rw [he];simp;omega
    have hb:l.getD A.length []=b:=by rw [he];exact getD_app A b B _
    cases h2 with
    |cons ob h2=>
    rename_i y ms
    match R,hr with
    |x :: R,hr=>
      have hr':R.length=B.length:=by simpa using hr
      refine Evt.step ?_
      simp only [Xo.l0,rd_L2,Int.toNat_natCast,hb]
      refine Evt.pos (by omega) (Evt.pos (by omega) (Evt.bind ob.cpy (Evt.pos (by simp;omega) ?_)))
      rw [w64n A.length (by omega),← hM,set_app,hM]
      have ih:=toSS_loop l hl B (A ++ [b]) ms (M ++ [y]) R h2 (by rw [he];simp) (by simp [hM]) hr'
      simp only [List.append_assoc,List.singleton_append,List.length_append,List.length_singleton] at ih
      exact ih
theorem toSS_ev (l:List (List LStmt)) (hl:l.length≤1048576) (m:List (List Stmt)) (h2:All2 OkL l m):Evt (fun k=>Xo.f k l) m:=by
  unfold Xo.f
  refine Evt.pos (by omega) (Evt.pos (by omega) ?_)
  have:=toSS_loop l hl l [] m [] (List.replicate l.length []) h2 rfl rfl (by simp)
  simpa using this
theorem eqSS_loop (m:List (List Stmt)) (hl:m.length≤1048576) (each:∀ x ∈ m,Evt (fun k=>Xv.f k x x) true):∀ (n i:Nat),i+n=m.length→Evt (fun k=>Xy.l0 k m m (i:Int)) true
  |0,i,h=>by
    refine Evt.step ?_
    simp only [Xy.l0]
    exact Evt.neg (by omega) (Evt.pure _)
  |n+1,i,h=>by
    refine Evt.step ?_
    simp only [Xy.l0,rd_L4,Int.toNat_natCast]
    refine Evt.pos (by omega) (Evt.pos (by omega) (Evt.pos (by omega) (Evt.bind (each _ (getD_mem _ (by omega))) (Evt.pos (by simp) ?_))))
    rw [w64n i (by omega)]
    exact eqSS_loop m hl each n (i+1) (by omega)
theorem eqSS_ev (m:List (List Stmt)) (hl:m.length≤1048576) (each:∀ x ∈ m,Evt (fun k=>Xv.f k x x) true):Evt (fun k=>Xy.f k m m) true:=by
  unfold Xy.f
  exact Evt.pos rfl (eqSS_loop m hl each m.length 0 (by omega))
end Go.Proofs.Ytlhogkfmdnpmkaa.Pure
