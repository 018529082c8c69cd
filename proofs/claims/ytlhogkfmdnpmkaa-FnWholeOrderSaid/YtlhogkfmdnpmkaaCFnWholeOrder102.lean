/- The row of the law laws.FnWholeOrder: it returns true for every input that its statement admits. Conditions: none but the row's own. -/
import Derived.Test.YtlhogkfmdnpmkaaCFnWholeOrder98
import Derived.Test.YtlhogkfmdnpmkaaCFnWholeOrder95
import Derived.Test.YtlhogkfmdnpmkaaRows
import Derived.ProofKit
import Derived.OpenShut
import Derived.ShutString
set_option linter.unusedVariables false
set_option linter.unusedSimpArgs false
set_option maxRecDepth 100000
namespace Go.Proofs.Ytlhogkfmdnpmkaa.Pure
open RowKit GWhole YtlhogkfmdnpmkaaW.PrintWords YtlhogkfmdnpmkaaW.PrintLast YtlhogkfmdnpmkaaW.PrintMore Evt Draws Tame StmtOk SForms
theorem dpRd (c:List Stmt) (i:Nat):Xb c (i:Int)=c.getD i z69:=by unfold Xb;simp
def Wee (s:Stmt):Prop:=∃ d,okT d s
theorem okT_more:∀ (d:Nat) (s:Stmt),okT d s→okT (d+1) s
 |0,s,h=>h.elim
 |d+1,s,h=>⟨h.1,h.2.1,fun x hx=>okT_more d x (h.2.2.1 x hx),fun x hx=>okT_more d x (h.2.2.2 x hx)⟩
theorem Wee.inn {s:Stmt} (h:Wee s):s.f4.length≤3∧s.f5.length≤3∧(∀ x ∈ s.f4,Wee x)∧(∀ x ∈ s.f5,Wee x):=by
 obtain ⟨d,h⟩:=h
 cases d with
 |zero=>exact h.elim
 |succ d=>exact ⟨h.1,h.2.1,fun x hx=>⟨d,h.2.2.1 x hx⟩,fun x hx=>⟨d,h.2.2.2 x hx⟩⟩
def WeeL (m:Nat) (l:List Stmt):Prop:=l.length≤m∧∀ x ∈ l,Wee x
theorem okT_up:∀ (n d:Nat) (s:Stmt),okT d s→okT (d+n) s
 |0,d,s,h=>h
 |n+1,d,s,h=>okT_more _ s (okT_up n d s h)
theorem okT_all (l:List Stmt) (h:∀ x ∈ l,Wee x):∃ d,∀ x ∈ l,okT d x:=by
 induction l with
 |nil=>exact ⟨0,fun x hx=>by cases hx⟩
 |cons a r ih=>
  obtain ⟨d,hd⟩:=ih (fun x hx=>h x (List.mem_cons_of_mem _ hx));obtain ⟨e,he⟩:=h a (List.mem_cons_self ..);refine ⟨d+e,fun x hx=>?_⟩
  rcases List.mem_cons.1 hx with rfl|hx
  ·rw [Nat.add_comm];exact okT_up _ _ _ he
  ·exact okT_up _ _ _ (hd x hx)
theorem Wee.mk {a b c d:Int} {l m:List Stmt} (h1:l.length≤3) (h2:m.length≤3) (h3:∀ x ∈ l,Wee x) (h4:∀ x ∈ m,Wee x):Wee ⟨a,b,c,d,l,m⟩:=by
 obtain ⟨p,hp⟩:=okT_all l h3;obtain ⟨q,hq⟩:=okT_all m h4;exact ⟨p+q+1,h1,h2,fun x hx=>okT_up _ _ _ (hp x hx),fun x hx=>(by rw [Nat.add_comm];exact okT_up _ _ _ (hq x hx))⟩
theorem wee_short:∀ (d:Nat) {l:List Stmt},WeeL 1000 l→Mean.shortB d l=true
 |0,l,h=>by have:=h.1;unfold Mean.shortB;exact dt_ om_
 |d+1,l,h=>by
  have:=h.1
  unfold Mean.shortB;rw [Bool.and_eq_true,List.all_eq_true];refine ⟨dt_ om_,fun s hs=>?_⟩;obtain ⟨h4,h5,h6,h7⟩:=(h.2 s hs).inn;rw [Bool.and_eq_true];exact ⟨wee_short d ⟨om_,h6⟩,wee_short d ⟨om_,h7⟩⟩
def many:Nat→Nat
 |0=>0
 |d+1=>1+6 * many d
theorem wee_cnt:∀ (d m:Nat) (l:List Stmt),WeeL m l→Xt.cnt d l≤m * many d
 |0,m,l,h=>by show 0≤_;omega
 |d+1,m,l,h=>by
  have each:∀ s ∈ l,1+Xt.cnt d s.f4+Xt.cnt d s.f5≤many (d+1):=fun s hs=>by
   obtain ⟨h4,h5,h6,h7⟩:=(h.2 s hs).inn;have a:=wee_cnt d 3 s.f4 ⟨h4,h6⟩;have b:=wee_cnt d 3 s.f5 ⟨h5,h7⟩;unfold many;omega
  have sum:∀ r:List Stmt,(∀ s ∈ r,s ∈ l)→(r.map (fun s=>1+Xt.cnt d s.f4+Xt.cnt d s.f5)).sum≤r.length * many (d+1):=by
   intro r
   induction r with
   |nil=>intro _;simp
   |cons a r ih=>
    intro hr;have h1:=ih (fun s hs=>hr s (List.mem_cons_of_mem _ hs));have h2:=each a (hr a (List.mem_cons_self ..));rw [List.map_cons,List.sum_cons,List.length_cons,Nat.succ_mul];omega
  exact nt_ (sum l (fun s hs=>hs)) (Nat.mul_le_mul_right _ h.1)
def WeeP (P:List (List Stmt)):Prop:=P.length≤1000∧∀ l ∈ P,WeeL 15 l
theorem wee_tame {P:List (List Stmt)} (h:WeeP P):Mean.tameB P=true:=by
 unfold Mean.tameB
 have:=h.1
 rw [Bool.and_eq_true,List.all_eq_true];refine ⟨fun x hx=>?_,dt_ om_⟩;have hl:=h.2 x hx;have h1:=hl.1;have hc:=wee_cnt 3 15 x hl;rw [show many 3=43 from rfl] at hc;rw [Bool.and_eq_true];exact ⟨wee_short 3 ⟨om_,hl.2⟩,dt_ om_⟩
def GoodL (l:List Stmt):Prop:=WeeL 6 l∧∀ x ∈ l,Yg.st 3 x (-1)=true
theorem psome_loop {b:List Int} (hb:Bytes b):∀ (m:Nat) (acc:List Stmt) (p:Int),acc.length+m≤6→0≤p→p+m * cost 3≤100000→GoodL acc→
  Gives (fun k=>Yv.l0 k acc (m:Int) b p) (fun r=>GoodL r.1∧p≤r.2∧r.2≤p+m * cost 3)
 |0,acc,p,h1,h2,h3,h4=>by
  refine Gives.step ?_;simp only [Yv.l0];exact Gives.neg om_ (Gives.pure ⟨h4,by simp only [];omega,by simp only [];omega⟩)
 |m+1,acc,p,h1,h2,h3,h4=>by
  have hc:cost 3=584:=rfl;rw [hc] at h3
  have e:wrap64 (((m+1:Nat):Int) - 1)=(m:Int):=by rw [w64 om_ om_];omega
  refine Gives.step ?_;simp only [Yv.l0,Option.bind_some,List.nil_append,List.length_nil];refine Gives.pos om_ (Gives.pos om_ (Gives.bind (draw_ok hb 2 om_ (-1) p h2 (by rw [hc];omega)) (fun r hr=>?_)));obtain ⟨r1,r2,r3⟩:=hr;rw [hc] at r3;obtain ⟨t,ht⟩:∃ t:Stmt,t=⟨r.1,r.2.1,r.2.2.1,r.2.2.2.1,r.2.2.2.2.1,r.2.2.2.2.2.1⟩:=⟨_,rfl⟩;rw [← ht] at r1 ⊢
  have hx:WeeL 6 (acc ++ [t]):=⟨by simp;omega,fun x hx=>by
   rcases List.mem_append.1 hx with hx|hx
   ·exact h4.1.2 x hx
   ·obtain rfl:=List.mem_singleton.1 hx;exact ⟨3,r1⟩⟩
  have hsh:Stmts.Short 3 (acc ++ [t]):=Mean.short_of (wee_short 3 ⟨by have:=hx.1;omega,hx.2⟩);obtain ⟨es,_⟩:=Stmts.stmtsOk_both _ hsh;refine Gives.pos om_ ?_;refine Gives.bind (P:=fun u=>u=Stmts.okB (acc ++ [t])) ⟨_,es,rfl⟩ (fun u hu=>?_);rw [e];refine Gives.ite (fun hu1=>?_) (fun _=>?_)
  ·have hk:=hu.symm.trans hu1;unfold Stmts.okB at hk;rw [Bool.and_eq_true,List.all_eq_true] at hk;refine (psome_loop hb m _ _ (by simp;omega) om_ (by rw [hc];omega) ⟨hx,hk.1⟩).mono (fun v hv=>?_);obtain ⟨v1,v3,v4⟩:=hv;rw [hc] at v4 ⊢;exact ⟨v1,om_,om_⟩
  ·refine (psome_loop hb m _ _ om_ om_ (by rw [hc];omega) h4).mono (fun v hv=>?_);obtain ⟨v1,v3,v4⟩:=hv;rw [hc] at v4 ⊢;exact ⟨v1,om_,om_⟩
theorem psome_ok {b:List Int} (hb:Bytes b) {p:Int} (hp:0≤p) (hp2:p≤50000):Gives (fun k=>Yv.f k b p) (fun r=>GoodL r.1∧p≤r.2∧r.2≤p+4000):=by
 have hc:cost 3=584:=rfl;unfold Yv.f;refine Gives.bind (Gives.num hb hp om_ sm_ sm_) (fun r hr=>?_);obtain ⟨r1,r2⟩:=hr
 have hr6:0≤r.1∧r.1≤6:=by simp at r1;omega
 obtain ⟨m,hm⟩:∃ m:Nat,r.1=(m:Int):=⟨r.1.toNat,om_⟩;rw [hm,r2];refine (psome_loop hb m [] (p+1) (by simp;omega) om_ (by rw [hc];omega) ⟨⟨sm_,fun x hx=>by cases hx⟩,fun x hx=>by cases hx⟩).mono (fun v hv=>?_);obtain ⟨v1,v3,v4⟩:=hv;rw [hc] at v4;exact ⟨v1,om_,om_⟩
theorem prog_loop {b:List Int} (hb:Bytes b):∀ (m:Nat) (acc:List (List Stmt)) (p:Int),acc.length+m≤3→0≤p→p+m * 4000≤20000→(∀ l ∈ acc,GoodL l)→
  Gives (fun k=>Zu.l0 k acc (m:Int) b p) (fun r=>r.1.length=acc.length+m∧(∀ l ∈ r.1,GoodL l)∧p≤r.2∧r.2≤p+m * 4000)
 |0,acc,p,h1,h2,h3,h4=>by
  refine Gives.step ?_;simp only [Zu.l0];exact Gives.neg om_ (Gives.pure ⟨rfl,h4,by simp only [];omega,by simp only [];omega⟩)
 |m+1,acc,p,h1,h2,h3,h4=>by
  have e:wrap64 (((m+1:Nat):Int) - 1)=(m:Int):=by rw [w64 om_ om_];omega
  refine Gives.step ?_;simp only [Zu.l0];refine Gives.pos om_ (Gives.bind (psome_ok hb h2 om_) (fun r hr=>?_));obtain ⟨r1,r2,r3⟩:=hr;rw [e];refine Gives.pos om_ ((prog_loop hb m _ _ (by simp;omega) om_ om_ (fun l hl=>?_)).mono (fun v hv=>?_))
  ·rcases List.mem_append.1 hl with hl|hl
   ·exact h4 l hl
   ·obtain rfl:=List.mem_singleton.1 hl;exact r1
  ·obtain ⟨v1,v2,v3,v4⟩:=hv;exact ⟨by rw [v1];simp;omega,v2,om_,om_⟩
theorem prog_ok {b:List Int} (hb:Bytes b) {p:Int} (hp:0≤p) (hp2:p≤1000):Gives (fun k=>Zu.f k b p) (fun r=>1≤r.1.length∧r.1.length≤3∧(∀ l ∈ r.1,GoodL l)∧p≤r.2∧r.2≤p+12001):=by
 unfold Zu.f;refine Gives.bind (Gives.pick hb hp om_ om_ om_) (fun r hr=>?_);obtain ⟨r0,r1,r2⟩:=hr;obtain ⟨m,hm⟩:∃ m:Nat,r.1=(m:Int):=⟨r.1.toNat,om_⟩
 have e:wrap64 (1+(m:Int))=((m+1:Nat):Int):=by rw [w64 om_ om_];omega
 rw [hm,r2,e];refine (prog_loop hb (m+1) [] (p+1) (by simp;omega) om_ om_ (fun l hl=>by cases hl)).mono (fun v hv=>?_);obtain ⟨v1,v2,v3,v4⟩:=hv;simp only [List.length_nil] at v1;exact ⟨om_,om_,v2,om_,om_⟩
theorem good_fit:∀ (d:Nat) (l:List Stmt),l.length≤1000→(∀ x ∈ l,Wee x∧∃ room,Yg.st d x room=true)→fitT 5 d l=true
 |0,l,_,_=>rfl
 |d+1,l,h0,h=>by
  unfold fitT;rw [Bool.and_eq_true,List.all_eq_true];refine ⟨dt_ om_,fun s hs=>?_⟩;obtain ⟨hw,room,hst⟩:=h s hs;obtain ⟨h4,h5,h6,h7⟩:=hw.inn;obtain ⟨hh,a4,a5⟩:=Mean.st_open hst;rw [Bool.and_eq_true,Bool.and_eq_true];refine ⟨?_,good_fit d s.f4 om_ (fun x hx=>⟨h6 x hx,_,a4 x hx⟩),good_fit d s.f5 om_ (fun x hx=>⟨h7 x hx,_,a5 x hx⟩)⟩;unfold Mean.Head at hh;unfold hFit;simp only [Bool.and_eq_true,Bool.or_eq_true,bne_iff_ne,decide_eq_true_eq,ne_eq];omega
theorem tame_wee (ow:List Int):∀ (d m:Nat) (l:List Stmt) (room:Int),WeeL m l→WeeL m (tame ow d l room)
 |0,m,l,room,h=>by unfold tame;exact ⟨sm_,fun x hx=>by cases hx⟩
 |d+1,m,l,room,h=>by
  unfold tame;refine ⟨by rw [List.length_map];exact h.1,fun x hx=>?_⟩;obtain ⟨s,hs,rfl⟩:=List.mem_map.1 hx
  have hd:WeeL 3 (tHead ow room s).f4∧WeeL 3 (tHead ow room s).f5:=by
   obtain ⟨h4,h5,h6,h7⟩:=(h.2 s hs).inn;have hn:WeeL 3 []:=⟨sm_,fun x hx=>by cases hx⟩;unfold tHead tH3 tH2 tH1
   repeat' split
   all_goals first|exact ⟨⟨h4,h6⟩,⟨h5,h7⟩⟩|exact ⟨hn,hn⟩
  have a:=tame_wee ow d 3 _ (tAt room s) hd.1;have b:=tame_wee ow d 3 _ (tAt room s) hd.2;exact Wee.mk a.1 b.1 a.2 b.2
theorem pfill {b:List Int} (p:Int):∀ (d:Nat) (l:List Stmt),l.length+d=15→(∀ x ∈ l,Wee x)→Gives (fun k=>Zi.l0 k l b p) (fun r=>WeeL 15 r.1∧r.2=p)
 |0,l,hl,h=>by
  refine Gives.step ?_;simp only [Zi.l0];exact Gives.neg om_ (Gives.pure ⟨⟨by simp only [];omega,h⟩,rfl⟩)
 |d+1,l,hl,h=>by
  refine Gives.step ?_;simp only [Zi.l0];refine Gives.pos om_ (Gives.pos om_ (pfill p d _ (by simp;omega) (fun x hx=>?_)))
  rcases List.mem_append.1 hx with hx|hx
  ·exact h x hx
  ·rw [List.mem_singleton.1 hx];exact ⟨1,okT_leaf 1 om_ _ _ _ _⟩
set_option maxHeartbeats 4000000 in
theorem pbent {b:List Int} (hb:Bytes b) (c:List Stmt) (hc:WeeL 15 c) {p:Int} (hp:0≤p) (hp2:p≤90000) :
  Gives (fun k=>Zi.f k b p c) (fun r=>WeeL 15 r.1∧p≤r.2∧r.2≤p+3):=by
 have hl:=hc.1;unfold Zi.f;simp only [Option.bind_some,List.nil_append,List.length_nil];refine Gives.pos om_ (Gives.ite (fun _=>Gives.pure ⟨hc,by simp only [];omega,by simp only [];omega⟩) (fun hf=>?_));refine Gives.bind (Gives.pick hb om_ om_ om_ om_) (fun r hr=>?_);obtain ⟨r0,r1,r2⟩:=hr;rw [r2];refine Gives.bind (Gives.pick hb om_ om_ om_ om_) (fun s hs=>?_);obtain ⟨s0,s1,s2⟩:=hs;rw [s2];obtain ⟨m,hmm⟩:∃ m:Nat,r.1=(m:Int):=⟨r.1.toNat,om_⟩;rw [hmm]
 have hml:m<c.length:=om_
 simp only [show ((m:Int)).toNat=m from rfl,dpRd];have old:=hc.2 (c.getD m z69) (getD_mem _ hml);generalize c.getD m z69=o at *;obtain ⟨o4,o5,o6,o7⟩:=old.inn;have leaf:Wee ⟨11,0,0,0,[],[]⟩:=⟨1,okT_leaf 1 om_ _ _ _ _⟩
 have done:∀ (y:Stmt) (q:Int),Wee y→q≤p+3→p≤q→Gives (fun _=>some (c.set m y,q)) (fun r=>WeeL 15 r.1∧p≤r.2∧r.2≤p+3):=fun y q hy h1 h2=>
  Gives.pure ⟨⟨by simp only [List.length_set];exact hl,fun x hx=>by
   rcases List.mem_or_eq_of_mem_set hx with h'|h'
   ·exact hc.2 x h'
   ·rw [h'];exact hy⟩,h2,h1⟩
 have num:∀ (vs:List Int) (f:Int→Stmt),1≤vs.length→vs.length≤1000→(∀ u,Wee (f u))→Gives (fun k=>(Xk.f k b (p+1+1) vs).bind fun u=>if (0:Int)≤m then (if (m:Int)<c.length then some (c.set m (f u.1),u.2) else none) else none) (fun r=>WeeL 15 r.1∧p≤r.2∧r.2≤p+3):=fun vs f hv hv2 hf=>by
  refine Gives.bind (Gives.num hb om_ om_ hv om_) (fun u hu=>?_);obtain ⟨_,u2⟩:=hu;exact Gives.pos om_ (Gives.pos om_ (done _ _ (hf _) om_ om_))
 refine Gives.ite (fun _=>?_) (fun _=>Gives.ite (fun _=>?_) (fun _=>Gives.ite (fun _=>?_) (fun _=>Gives.ite (fun _=>?_) (fun _=>Gives.ite (fun _=>?_) (fun _=>Gives.ite (fun _=>?_) (fun _=>Gives.ite (fun _=>?_) (fun _=>?_)))))))
 ·exact num _ (fun u=>⟨u,_,_,_,_,_⟩) sm_ sm_ (fun u=>Wee.mk o4 o5 o6 o7)
 ·exact num _ (fun u=>⟨_,u,_,_,_,_⟩) sm_ sm_ (fun u=>Wee.mk o4 o5 o6 o7)
 ·exact num _ (fun u=>⟨_,_,u,_,_,_⟩) sm_ sm_ (fun u=>Wee.mk o4 o5 o6 o7)
 ·exact num _ (fun u=>⟨_,_,_,u,_,_⟩) sm_ sm_ (fun u=>Wee.mk o4 o5 o6 o7)
 ·exact Gives.pos om_ (Gives.pos om_ (done _ _ (Wee.mk o4 sm_ o6 (fun x hx=>by rw [List.mem_singleton.1 hx];exact leaf)) om_ om_))
 ·exact Gives.pos om_ (Gives.pos om_ (done _ _ (Wee.mk sm_ o5 (fun x hx=>by rw [List.mem_singleton.1 hx];cases o;exact old) o7) om_ om_))
 ·refine (pfill _ (15 - c.length) c om_ hc.2).mono (fun v hv=>⟨hv.1,?_,?_⟩)
  ·rw [hv.2];omega
  ·rw [hv.2];omega
 ·exact Gives.pure ⟨hc,by simp only [];omega,by simp only [];omega⟩
theorem own_ok {b:List Int} (hb:Bytes b):∀ (n:Nat) (acc:List Int) (p:Int),0≤p→p+n≤1000→Gives (fun k=>ownF k b n acc p) (fun r=>r.2=p+n)
 |0,acc,p,_,_=>by simp only [ownF];exact Gives.pure sm_
 |n+1,acc,p,h,h1=>by
  simp only [ownF];refine Gives.bind (Gives.pick hb h om_ om_ om_) (fun r hr=>?_);rw [hr.2.2];refine (own_ok hb n _ _ om_ om_).mono (fun v hv=>by rw [hv];omega)
theorem some2_ok {b:List Int} (hb:Bytes b) {P:List (List Stmt)} (h:WeeP P) (h1:1≤P.length) (u:Int) {p:Int} (hp:0≤p) (hp2:p≤50000):Gives (fun k=>some2 k b P u p) (fun r=>WeeP r.1∧0≤r.2∧r.2≤60000):=by
 unfold some2;refine Gives.ite (fun _=>Gives.bind (Gives.num hb hp om_ sm_ sm_) (fun v hv=>Gives.pure ⟨h,by have:=hv.2;simp only [];omega,by have:=hv.2;simp only [];omega⟩)) (fun _=>Gives.ite (fun _=>Gives.pos om_ ?_) (fun _=>Gives.pure ⟨h,by simp only [];omega,by simp only [];omega⟩));refine Gives.bind (pbent hb _ (h.2 _ (getD_mem _ om_)) hp om_) (fun x hx=>?_);obtain ⟨x1,x2,x3⟩:=hx;refine Gives.bind (pbent hb _ x1 om_ om_) (fun y hy=>?_);obtain ⟨y1,y2,y3⟩:=hy;refine Gives.bind (pbent hb _ y1 om_ om_) (fun z hz=>?_);obtain ⟨z1,z2,z3⟩:=hz;refine Gives.pure ⟨⟨by simp only [List.length_set];exact h.1,fun l hl=>?_⟩,by simp only [];omega,by simp only [];omega⟩
 rcases List.mem_or_eq_of_mem_set hl with h'|h'
 ·exact h.2 l h'
 ·rw [h'];exact z1
theorem someF_ok {b:List Int} (hb:Bytes b):Gives (fun k=>someF k b 0) (fun r=>WeeP r.1∧0≤r.2∧r.2≤60000):=by
 unfold someF;refine Gives.bind (own_ok hb 5 [] 0 om_ om_) (fun o ho=>?_);rw [ho];refine Gives.bind (prog_ok hb om_ om_) (fun P hP=>?_);obtain ⟨p1,p2,p3,p4,p5⟩:=hP;refine Gives.bind (Gives.pick hb om_ om_ om_ om_) (fun t ht=>?_);obtain ⟨_,_,t2⟩:=ht;rw [t2]
 have hfit:(P.1.all (fun l=>fitT 5 3 l) && decide (P.1.length≤1000))=true:=by
  rw [Bool.and_eq_true,List.all_eq_true];exact ⟨fun l hl=>by obtain ⟨g1,g2⟩:=p3 l hl;exact good_fit 3 l (by have:=g1.1;omega) (fun x hx=>⟨g1.2 x hx,_,g2 x hx⟩),dt_ om_⟩
 refine Gives.pos hfit (Gives.bind (Gives.pick hb om_ om_ om_ om_) (fun u hu=>?_));obtain ⟨_,_,u2⟩:=hu;have hw:∀ l ∈ P.1,WeeL 15 l:=fun l hl=>⟨by have:=(p3 l hl).1.1;omega,(p3 l hl).1.2⟩
 have hall:WeeP (tameAll o.1 t.1 P.1)∧1≤(tameAll o.1 t.1 P.1).length:=by
  unfold tameAll;split
  ·refine ⟨⟨by rw [List.length_map];omega,fun l hl=>?_⟩,by rw [List.length_map];omega⟩;obtain ⟨x,hx,rfl⟩:=List.mem_map.1 hl;exact tame_wee _ 3 15 x _ (hw x hx)
  ·exact ⟨⟨om_,hw⟩,p1⟩
 exact some2_ok hb hall.1 hall.2 _ om_ om_
local instance:Mean.Prot:=⟨fun _=>none⟩
theorem goS1_n (s:Mean.WS) (who:Int):(Mean.goS1 s who).n=s.n:=by
 have h2:∀ i,(Mean.step s i).n=s.n:=fun i=>by
  unfold Mean.step;split
  ·rfl
  ·split
   ·rfl
   ·rw [Mean.doIt_n];rfl
 unfold Mean.goS1;split
 ·exact h2 _
 ·rfl
theorem canL_len (s:Mean.WS) (n:Nat):(Mean.canL s n).length≤n:=by
 unfold Mean.canL;rw [List.length_map];exact nt_ (List.length_filter_le _ _) sm_
theorem picksL_ok {b:List Int} (hb:Bytes b):∀ (n:Nat) (s:Mean.WS) (out:List Int) (p:Int),s.n≤1000→0≤p→p+n * 5≤90000→Gives (fun k=>Mean.picksL k b n s out p) (fun r=>r.1.length=out.length+n)
 |0,s,out,p,_,_,_=>by simp only [Mean.picksL];exact Gives.pure rfl
 |n+1,s,out,p,hs,hp,hp2=>by
  simp only [Mean.picksL]
  have hn:1≤(if 1 > (s.n:Int) then 1 else (s.n:Int))∧(if 1 > (s.n:Int) then 1 else (s.n:Int))≤1000:=by split <;> omega
  refine Gives.bind (Gives.pick hb hp om_ hn.1 om_) (fun t ht=>?_);obtain ⟨_,_,t2⟩:=ht;rw [t2];have hc:=canL_len s s.n
  have h1:Gives (fun k=>Mean.pick1 k b (Mean.canL s s.n) t.1 (p+1)) (fun r=>p+1≤r.2∧r.2≤p+3):=by
   unfold Mean.pick1;refine Gives.ite (fun h0=>?_) (fun _=>Gives.pure ⟨by simp only [];omega,by simp only [];omega⟩);refine Gives.bind (Gives.pick hb om_ om_ om_ om_) (fun a ha=>?_);obtain ⟨_,_,a2⟩:=ha;refine Gives.ite (fun _=>?_) (fun _=>Gives.pure ⟨by simp only [];omega,by simp only [];omega⟩);refine Gives.bind (Gives.pick hb om_ om_ om_ om_) (fun c hc=>?_);obtain ⟨c0,c1,c2⟩:=hc;exact Gives.pos ⟨c0,om_⟩ (Gives.pure ⟨by simp only [];omega,by simp only [];omega⟩)
  refine Gives.bind h1 (fun u hu=>?_);refine Gives.bind (Gives.pick hb om_ om_ om_ om_) (fun y hy=>?_);obtain ⟨_,_,y2⟩:=hy
  have h3:Gives (fun k=>Mean.pick2 k b y.1 u.1 y.2) (fun r=>p+1≤r.2∧r.2≤p+5):=by
   unfold Mean.pick2;refine Gives.ite (fun _=>(Gives.num hb om_ om_ sm_ sm_).mono (fun v hv=>by have:=hv.2;omega)) (fun _=>Gives.pure ⟨by simp only [];omega,by simp only [];omega⟩)
  refine Gives.bind h3 (fun z hz=>?_);refine (picksL_ok hb n _ _ _ (by rw [goS1_n];exact hs) om_ om_).mono (fun v hv=>?_);rw [hv,List.length_append,List.length_singleton];omega
theorem picksF_ok {b:List Int} (hb:Bytes b) (P:List (List Stmt)) (hP:P.length≤1000) {p:Int} (hp:0≤p) (hp2:p≤60000):Gives (fun k=>Mean.picksF k b P p) (fun r=>r.1.length≤1000):=by
 unfold Mean.picksF;refine Gives.bind (Gives.pick hb hp om_ om_ om_) (fun a ha=>?_);obtain ⟨a0,a1,a2⟩:=ha;have e:wrap64 (200+a.1)=200+a.1:=w64 om_ om_;rw [e];refine Gives.bind (Gives.num hb om_ om_ sm_ sm_) (fun c hc=>?_);obtain ⟨c1,c2⟩:=hc
 have hc2:0≤c.1∧c.1≤1000:=by simp at c1;omega
 have hn:(if Mean.Uk P=true then Mean.Ya P else Mean.sE).n≤1000:=by
  split
  ·rw [Mean.openS_n];exact hP
  ·exact Nat.zero_le _
 exact Gives.pos hc2 ((picksL_ok hb _ _ _ _ hn om_ om_).mono (fun v hv=>by rw [hv];simp;omega))
theorem drawWhole_ok (l:List Int) (h:∀ x ∈ l,(Lit.int .u8 x).wf=true):Gives (fun k=>spec_DrawWholeOrder.f k l) (fun r=>Mean.tameB r.1=true∧r.2.length≤1000):=by
 obtain ⟨b,hb1,hb⟩:=open_ok l h;show Gives (fun k=>Mean.drawF k l) _
 unfold Mean.drawF;rw [hb1];simp only [Option.bind_some];refine Gives.bind (someF_ok hb) (fun P hP=>?_);obtain ⟨p1,p2,p3⟩:=hP;have ht:=wee_tame p1;exact Gives.pos ht (Gives.bind (picksF_ok hb P.1 p1.1 p2 p3) (fun r hr=>Gives.pure ⟨ht,hr⟩))
end Go.Proofs.Ytlhogkfmdnpmkaa.Pure
namespace Go.Proofs.Ytlhogkfmdnpmkaa.Pure
open RowKit GWhole YtlhogkfmdnpmkaaW.PrintWords YtlhogkfmdnpmkaaW.PrintLast YtlhogkfmdnpmkaaW.PrintMore Evt
local instance:Mean.Prot:=⟨fun _=>none⟩
theorem wpInts_loop (l:List Int) (hl:l.length≤1048576):∀ (n i:Nat),i+n=l.length→Evt (fun k=>Yu.l0 k l l (i:Int)) true
 |0,i,h=>by
  refine Evt.step ?_;simp only [Yu.l0];exact Evt.neg om_ (Evt.pure _)
 |n+1,i,h=>by
  refine Evt.step ?_;simp only [Yu.l0];refine Evt.pos om_ (Evt.pos om_ (Evt.pos om_ (Evt.pos trivial ?_)));rw [w64n i om_];exact wpInts_loop l hl n (i+1) om_
theorem wpInts_ev (l:List Int) (hl:l.length≤1048576):Evt (fun k=>Yu.f k l l) true:=by
 unfold Yu.f;exact Evt.pos rfl (wpInts_loop l hl l.length 0 om_)
theorem goS_fold (l:List Int):∀ p:Mean.WS × List Int,∃ x,(l.foldl Mean.goS p).2=p.2 ++ x∧x.length≤l.length:=by
 induction l with
 |nil=>exact fun p=>⟨[],sm_,sm_⟩
 |cons a r ih=>
  intro p;obtain ⟨x,hx,hl⟩:=ih (Mean.goS p a)
  have h1:∃ y,(Mean.goS p a).2=p.2 ++ y∧y.length≤1:=by
   unfold Mean.goS;split
   ·simp only [];split
    ·exact ⟨[a],rfl,sm_⟩
    ·exact ⟨[],sm_,sm_⟩
   ·exact ⟨[],sm_,sm_⟩
  obtain ⟨y,hy,hl2⟩:=h1;exact ⟨y ++ x,by rw [List.foldl_cons,hx,hy,List.append_assoc],by simp;omega⟩
theorem whole_len200 (P:List (List Stmt)) (l:List Int):(Mean.whole P l).length≤200:=by
 unfold Mean.whole;split
 ·rename_i h
  rw [Bool.and_eq_true] at h;have h2:=od_ h.2;obtain ⟨x,hx,hl⟩:=goS_fold l (Mean.Ya P,[]);rw [hx];simp;omega
 ·simp
theorem whole_take (P:List (List Stmt)) (l:List Int) (hok:Mean.Uk P=true) (hl:l.length≤200) (m:Nat):∃ x,Mean.whole P l=Mean.whole P (l.take m) ++ x:=by
 unfold Mean.whole;rw [if_pos (by rw [hok];exact dt_ hl),if_pos (by rw [hok];exact dt_ (by rw [List.length_take];omega))];obtain ⟨x,hx,_⟩:=goS_fold (l.drop m) ((l.take m).foldl Mean.goS (Mean.Ya P,[]));rw [← List.foldl_append,List.take_append_drop] at hx;exact ⟨x,hx⟩
theorem whole_end (l1:List Int) (P:List (List Stmt)) (q:List Int) (hc:∀ d,Zn.f P d=some (Mean.whole P d)) (hs:Zo.f P q=some (Mean.whole P q)) (hq:q.length≤1000) (b:Bool) (hb:b=false→Mean.Uk P=true∧q.length≤200) :
  Evt (fun k=>Xn.j1 k l1 P q (Mean.whole P q) b) true:=by
 have hwl:=whole_len200 P q;refine Evt.step ?_;simp only [Xn.j1]
 cases b with
 |true=>exact Evt.pos rfl (Evt.bind (Evt.of_eq (fun _=>hs)) (Evt.bind (wpInts_ev _ om_) (Evt.pure _)))
 |false=>
  obtain ⟨hok,h2⟩:=hb rfl;have e:wrap64 ((q.length:Int)+1)=(q.length:Int)+1:=w64 om_ om_;have h0:0≤(l1.length:Int) % ((q.length:Int)+1):=Int.emod_nonneg _ om_;have h3:(l1.length:Int) % ((q.length:Int)+1)<(q.length:Int)+1:=Int.emod_lt_of_pos _ om_;rw [e];obtain ⟨x,hx⟩:=whole_take P q hok h2 ((l1.length:Int) % ((q.length:Int)+1)).toNat
  have hlen:(Mean.whole P q).length=(Mean.whole P (q.take ((l1.length:Int) % ((q.length:Int)+1)).toNat)).length+x.length:=by rw [hx,List.length_append]
  refine Evt.neg sm_ (Evt.neg om_ (Evt.pos h0 (Evt.pos om_ (Evt.bind (Evt.of_eq (fun _=>hc _)) (Evt.pos om_ (Evt.pos om_ (Evt.bind (v:=true) ?_ (Evt.pure _))))))));rw [Int.toNat_natCast,hx,List.take_left];exact wpInts_ev _ om_
theorem FnWholeOrder:Xn.Pure:=by
 intro l0 l1 _ _ hw _ _ _
 suffices h:Evt (fun k=>Xn.f k l0 l1) true from h.get
 have aF:Evt (fun k=>Xn.j0 k l0 l1 true) true:=by
  refine Evt.step ?_;simp only [Xn.j0];exact Evt.pos trivial (Evt.pure _)
 unfold Xn.f;refine if h1:(l0.length:Int) > 1048576 then Evt.pos h1 aF else Evt.neg h1 ?_
 cases decide ((l1.length:Int) > 1048576) with
 |true=>exact aF
 |false=>
  obtain ⟨⟨P,q⟩,hd,ht,hq⟩:=drawWhole_ok l0 hw;simp only [] at ht hq;have him:∀ d,Zn.f P d=some (Mean.whole P d):=fun d=>if_pos (List.all_eq_true.2 (fun x hx=>dt_ ((Mean.tame_of ht).2.2 x hx)));have hsp:Zo.f P q=some (Mean.whole P q):=if_pos ht;have hpo:=Mean.rprog_ev (Mean.tame_of ht).1 (Mean.tame_of ht).2.1;have hwl:=whole_len200 P q;refine Evt.step ?_;simp only [Xn.j0];refine Evt.neg sm_ (Evt.bind hd (Evt.bind (Evt.of_eq (fun _=>him q)) (Evt.bind (Evt.of_eq (fun _=>hsp)) (Evt.bind (wpInts_ev _ om_) (Evt.pos rfl (Evt.bind hpo ?_))))))
  cases hk:Mean.Uk P with
  |true=>exact Evt.pos rfl (whole_end l1 P q him hsp hq _ (fun h=>⟨hk,by have h4:¬ ((q.length:Int) > 200):=of_decide_eq_false h;omega⟩))
  |false=>exact Evt.neg sm_ (whole_end l1 P q him hsp hq true (fun h=>by cases h))
end Go.Proofs.Ytlhogkfmdnpmkaa.Pure
namespace Go.Proofs.YtlhogkfmdnpmkaaW.PrintWords
open ChangeShapes WideShapes
theorem sized_ints {H:Type} {enc:TypeId × Value→H} {P:Program} {W:World} {base:Nat} {spare:Nat→Bool} {held:Bool} {t e:TypeId} {k:IntKind} {a:Option Addr} {len cap:Nat} {d:DataW H} {ps:List MemPlace} {ts:List TypeId} {ds:List (DataW H)} {j:Nat}
  (hsz:(DataW.weightsEach P ts ds).all (·≤reachBytes)=true) (ht:ts[j]?=some t) (hd:ds[j]?=some d) (hu:P.underlying t=some (.slice e)) (he:P.underlying e=some (.int k)) (hc:P.cellsOf e=1) {B:Nat} (hB:P.bytesOf e=B)
  (h:DataW.Trod enc P W base spare held t (.slice a len cap) d ps):len * B≤140737488351232:=by
 obtain ⟨fuel,hf⟩:=h
 rcases open_ints hu he hc hf with ⟨hcs,_⟩|⟨x,l,c,zs,hcs,_,hl,_,hz,hx,_,_⟩
 ·simp [Value.cells] at hcs;obtain ⟨rfl,rfl,rfl⟩:=hcs;simp
 ·simp [Value.cells] at hcs;obtain ⟨rfl,rfl,rfl⟩:=hcs;obtain ⟨hx,_⟩:=Prod.mk.inj hx;subst hx;have z:=sized_slice hsz ht hd hu;rw [hB] at z
  have hl2:len≤zs.length:=by
   rw [hz];split
   ·exact hl
   ·exact nr_ _
  have h1:(lits (H:=H) k (zs.take len)).length+(lits (H:=H) k (zs.drop len)).length=zs.length:=by
   simp [lits];omega
  rw [h1] at z;exact nt_ (Nat.mul_le_mul_right _ hl2) z
end Go.Proofs.YtlhogkfmdnpmkaaW.PrintWords
namespace Go.Proofs.Ytlhogkfmdnpmkaa.fnWholeOrder
open ChangeShapes WideShapes ChangeAt RowKit
open Go.ChangeMaps (open_string shut_string)
theorem own:ownKnob Try.prog.godebug=none:=kr_
theorem laidOut:laidOutB Try.prog=true:=kr_
def IsRow (k:IntKind) (w:World) (a:Option Addr) (len cap:Nat) (zs:List Int):Prop:=
 (a=none∧len=0∧cap=0∧zs=[])∨
 ∃ x,a=some x∧len≤cap∧cap≤maxLen∧zs.length=cap∧(∀ i,i<zs.length→w.cell? (x.add i)=some (.int k (zs.getD i 0)))∧∀ n ∈ zs,(Lit.int k n).wf=true
theorem lifted (os:Os) (started:os.Started) (H:Type) (enc:TypeId × Value→H) :
  ReturnsInHanded {} Try.checked os 4 .any (Rows.fnWholeOrderSpec.pre6 enc Try.prog Try.f4 Rows.fnWholeOrderRow.domain false) (Rows.fnWholeOrderSpec.post enc Try.prog Try.f4 false true false false):=by
 refine returnsInHanded_of_change_sized (C:=Try.checked) own started kr_ Try.func4
  (ChangeSpec.witness6 (enc:=enc) (C:=Try.checked) false ⟨#[],#[.slice none 0 0,.slice none 0 0],[]⟩ 8 kr_ kr_ kr_ kr_) ?_
 intro W base args ds gs before hval0 hW hcnd hsz0 _;have hsz:(DataW.weightsEach Try.prog (Try.f4.params.toList ++ Rows.fnWholeOrderSpec.plain.varTypes Try.prog) (ds ++ gs)).all (·≤reachBytes)=true:=hsz0;have hval:∀ (j:Nat) t v,Try.f4.params[j]?=some t→args[j]?=some v→Value.okWide Try.prog W .any base t v:=hval0;have hW':=hW;obtain ⟨p,q,aD,hV,rfl,hfz,hnd⟩:=hW;have hA:DataW.TrodAll enc Try.prog W 0 (fun _=>true) true Try.f4.params.toList args.toList ds p:=aD;rw [Try.params4] at hA hval hsz;obtain ⟨v0,vs0,d0,ds0,p0,q0,hargs,rfl,rfl,h0,r0⟩:=trodAll_cons hA;obtain ⟨v1,vs1,d1,ds1,p1,q1,rfl,rfl,rfl,h1,r1⟩:=trodAll_cons r0;obtain ⟨rfl,rfl,rfl⟩:=trodAll_nil r1
 obtain rfl:args=#[v0,v1]:=by cases args;simp_all
 obtain ⟨rfl,rfl⟩:=trodVars_none hV;obtain ⟨a0,aA,cap0,rfl⟩:=okWide_slice Try.underlying34 (hval 0 34 v0 rfl rfl);have k0:=h0
 have aG:∀ x ∈ p0,x.block<W.heap.size:=by obtain ⟨m,hm⟩:=k0;exact DataW.trod_lt m _ _ _ hm
 obtain ⟨z0,w0⟩:∃ zs,IsRow .u8 W a0 aA cap0 zs:=by
  obtain ⟨fuel,hf⟩:=h0
  rcases open_ints Try.underlying34 Try.underlying5 kr_ hf with ⟨hcs,_⟩|⟨x,l,c,zs,hcs,_,hl,hm,hz,_,hcell,hwz⟩
  ·simp [Value.cells] at hcs;obtain ⟨rfl,rfl,rfl⟩:=hcs;exact ⟨[],.inl ⟨rfl,rfl,rfl,rfl⟩⟩
  ·simp [Value.cells] at hcs;obtain ⟨rfl,rfl,rfl⟩:=hcs;exact ⟨zs,.inr ⟨_,rfl,hl,hm,by simpa using hz,hcell,hwz⟩⟩
 have y0:aA * 1≤140737488351232:=Go.Proofs.YtlhogkfmdnpmkaaW.PrintWords.sized_ints hsz (j:=0) (t:=34) rfl rfl Try.underlying34 Try.underlying5 kr_ kr_ h0;obtain ⟨a1,aB,aC,rfl⟩:=okWide_slice Try.underlying34 (hval 1 34 v1 rfl rfl);have k1:=h1
 have aH:∀ x ∈ p1,x.block<W.heap.size:=by obtain ⟨m,hm⟩:=k1;exact DataW.trod_lt m _ _ _ hm
 obtain ⟨z1,w1⟩:∃ zs,IsRow .u8 W a1 aB aC zs:=by
  obtain ⟨fuel,hf⟩:=h1
  rcases open_ints Try.underlying34 Try.underlying5 kr_ hf with ⟨hcs,_⟩|⟨x,l,c,zs,hcs,_,hl,hm,hz,_,hcell,hwz⟩
  ·simp [Value.cells] at hcs;obtain ⟨rfl,rfl,rfl⟩:=hcs;exact ⟨[],.inl ⟨rfl,rfl,rfl,rfl⟩⟩
  ·simp [Value.cells] at hcs;obtain ⟨rfl,rfl,rfl⟩:=hcs;exact ⟨zs,.inr ⟨_,rfl,hl,hm,by simpa using hz,hcell,hwz⟩⟩
 have y1:aB * 1≤140737488351232:=Go.Proofs.YtlhogkfmdnpmkaaW.PrintWords.sized_ints hsz (j:=1) (t:=34) rfl rfl Try.underlying34 Try.underlying5 kr_ kr_ h1;clear aD hval0 hsz0 hsz;refine (GWhole.Xn.walk Pure.FnWholeOrder a0 aA cap0 z0 a1 aB aC z1 W w0 y0 w1 y1).mono fun e W' ⟨he,bel⟩=>?_;subst he;exact ⟨_,rfl,_,_,_,[],_,[],hW',trodAll_mk1 (shut_bool Try.underlying4 _),(trodAll_cons_mk (Below.trod laidOut kr_ (of_decide_eq_true kr_) k0 bel aG) (trodAll_cons_mk (Below.trod laidOut kr_ (of_decide_eq_true kr_) k1 bel aH) trodAll_mk0)),rfl,bel.frame _,fun h=>by cases h⟩
theorem over:Rows.fnWholeOrderRow.holds Try.pinned (OpenSpec.ofChange Rows.fnWholeOrderSpec):=
 OpenClaim.holds_of_wide 4 Try.f4 rfl rfl rfl rfl rfl rfl rfl ⟨rfl,rfl,rfl,rfl,rfl⟩ rfl rfl rfl rfl rfl kr_ Try.func4 kr_
  (of_decide_eq_true kr_) (by unfold Func.isWrapper;first|(rw [if_pos (by decide +kernel)];kernel_rfl)|(rw [if_neg (by decide +kernel)];exact ⟨rfl,rfl⟩))
  (fun os started H enc _=>lifted os started H enc)
theorem proved:Rows.FnWholeOrderSaid:=over
end Go.Proofs.Ytlhogkfmdnpmkaa.fnWholeOrder
namespace Go.Proofs.Ytlhogkfmdnpmkaa
theorem fnWholeOrder_holds:Rows.FnWholeOrderSaid:=fnWholeOrder.proved
end Go.Proofs.Ytlhogkfmdnpmkaa
