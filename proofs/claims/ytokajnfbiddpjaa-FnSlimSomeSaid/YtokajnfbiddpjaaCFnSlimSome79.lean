import Derived.Test.YtokajnfbiddpjaaCFnSlimSome78
import Derived.Test.YtokajnfbiddpjaaCFnSlimSome66
import Derived.Test.YtokajnfbiddpjaaCFnSlimSome35
import Derived.Test.YtokajnfbiddpjaaCFnSlimSome62
import Derived.Test.YtokajnfbiddpjaaCFnSlimSome37
namespace Go.Proofs.Ytokajnfbiddpjaa.Pure
open Go.RowKit Go.Proofs.Ytokajnfbiddpjaa.GSlim Go.Proofs.YtokajnfbiddpjaaW.PrintWords Go.Proofs.YtokajnfbiddpjaaW.PrintLast Go.Proofs.YtokajnfbiddpjaaW.PrintMore Go.Proofs.Ytokajnfbiddpjaa.Evt Go.Proofs.Ytokajnfbiddpjaa.StmtOk Go.Proofs.Ytokajnfbiddpjaa.SForms
set_option linter.unusedVariables false
set_option linter.unusedSimpArgs false
namespace Stmts
def leafI (s:T):Ins:=if 1≤s.f0∧s.f0≤5 then ⟨s.f0,s.f1,s.f2,s.f3⟩ else if s.f0=9 then ⟨10,s.f1,0,0⟩ else if s.f0=10 then ⟨11,s.f1,0,0⟩ else ⟨12,0,0,0⟩
def gS (g:List T→Nat→List Ins) (s:T) (at_:Nat):List Ins:=
  if s.f0=6 then (⟨6,s.f1,0,((at_+2+(g s.f4 (at_+1)).length:Nat):Int)⟩ :: g s.f4 (at_+1)) ++ (⟨7,0,0,((at_+2+(g s.f4 (at_+1)).length+(g s.f5 (at_+2+(g s.f4 (at_+1)).length)).length:Nat):Int)⟩ :: g s.f5 (at_+2+(g s.f4 (at_+1)).length))
  else if s.f0=7 then (⟨6,s.f1,0,((at_+2+(g s.f4 (at_+1)).length:Nat):Int)⟩ :: g s.f4 (at_+1)) ++ [⟨7,0,0,(at_:Int)⟩]
  else if s.f0=8 then (⟨8,s.f1,0,0⟩ :: g s.f4 (at_+1)) ++ [⟨9,s.f1,0,0⟩]
  else [leafI s]
def gLs (f:T→Nat→List Ins):List T→Nat→List Ins
  |[],_=>[]
  |s :: r,a=>f s a ++ gLs f r (a+(f s a).length)
def gL:Nat→List T→Nat→List Ins
  |0,_,_=>[]
  |d+1,l,a=>gLs (gS (gL d)) l a
theorem setN_at (A:List Ins) (x:Ins) (B:List Ins) (n t:Nat) (h:n=A.length):Xf.setN (A ++ x :: B) (n,t)=A ++ (⟨x.f0,x.f1,x.f2,(t:Int)⟩:Ins) :: B:=by
  subst h
  have hg:(A ++ x :: B).getD A.length z31=x:=getD_app A x B _
  unfold Xf.setN Xb
  simp only [Int.toNat_natCast]
  rw [hg,set_app]
theorem fin_app (c:List Ins) (p q:List (Nat × Nat)):Xf.fin c (p ++ q)=Xf.fin (Xf.fin c p) q:=by unfold Xf.fin;rw [List.foldl_append]
def Does (f:Xf.St→Xf.St) (g:Nat→List Ins):Prop:=∀ st:Xf.St,∃ raw ps,f st=(st.1 ++ raw,st.2 ++ ps)∧raw.length=(g st.1.length).length∧∀ pre post:List Ins,pre.length=st.1.length→Xf.fin (pre ++ raw ++ post) ps=pre ++ g st.1.length ++ post
theorem does_put (i:Ins):Does (fun st=>Xf.put st i) (fun _=>[i]):=fun st=>⟨[i],[],by simp [Xf.put],rfl,fun pre post _=>rfl⟩
def LeafOk (s:T):Prop:=¬ (s.f0=6∨s.f0=7∨s.f0=8)→(⟨Xf.simple s.f0,s.f1,s.f2,s.f3⟩:Ins)=leafI s
theorem does_stmt {cl:List T→Xf.St→Xf.St} {g:List T→Nat→List Ins} (s:T) (hs:LeafOk s) (h4:Does (cl s.f4) (g s.f4)) (h5:Does (cl s.f5) (g s.f5)):Does (Xf.cS cl s) (gS g s):=by
  intro st
  unfold Xf.cS gS
  by_cases k6:s.f0=6
  · rw [if_pos k6,if_pos k6]
    obtain ⟨r4,p4,e4,l4,f4⟩:=h4 (Xf.put st ⟨6,s.f1,0,0⟩)
    have q1:(Xf.put st ⟨6,s.f1,0,0⟩).1.length=st.1.length+1:=by simp [Xf.put]
    rw [q1] at l4 f4
    rw [e4]
    obtain ⟨r5,p5,e5,l5,f5⟩:=h5 (Xf.tells (Xf.put ((Xf.put st ⟨6,s.f1,0,0⟩).1 ++ r4,(Xf.put st ⟨6,s.f1,0,0⟩).2 ++ p4) ⟨7,0,0,0⟩) st.1.length)
    have q2:(Xf.tells (Xf.put ((Xf.put st ⟨6,s.f1,0,0⟩).1 ++ r4,(Xf.put st ⟨6,s.f1,0,0⟩).2 ++ p4) ⟨7,0,0,0⟩) st.1.length).1.length=st.1.length+2+r4.length:=by simp [Xf.put,Xf.tells];omega
    rw [q2] at l5 f5
    rw [e5]
    refine ⟨(⟨6,s.f1,0,0⟩ :: r4) ++ (⟨7,0,0,0⟩ :: r5),p4 ++ [(st.1.length,st.1.length+2+r4.length)] ++ p5 ++ [(st.1.length+1+r4.length,st.1.length+2+r4.length+r5.length)],?_,?_,fun pre post hp=>?_⟩
    · refine Prod.ext ?_ ?_
      · simp [Xf.put,Xf.tells]
      · simp [Xf.put,Xf.tells] <;> omega
    · simp only [List.length_append,List.length_cons]
      rw [← l4,← l5]
    · rw [fin_app,fin_app,fin_app]
      have a1:=f4 (pre ++ [⟨6,s.f1,0,0⟩]) ((⟨7,0,0,0⟩ :: r5) ++ post) (by simp [hp])
      simp only [List.append_assoc,List.cons_append,List.nil_append] at a1 ⊢
      rw [a1]
      show Xf.fin (Xf.fin (Xf.setN _ (st.1.length,st.1.length+2+r4.length)) p5) [_]=_
      rw [setN_at pre _ _ _ _ hp.symm]
      have a2:=f5 (pre ++ (⟨6,s.f1,0,((st.1.length+2+r4.length:Nat):Int)⟩ :: (g s.f4 (st.1.length+1))) ++ [⟨7,0,0,0⟩]) post (by simp [hp,← l4];omega)
      simp only [List.append_assoc,List.cons_append,List.nil_append] at a2
      rw [a2]
      show Xf.setN _ (st.1.length+1+r4.length,st.1.length+2+r4.length+r5.length)=_
      have a3:=setN_at (pre ++ (⟨6,s.f1,0,((st.1.length+2+r4.length:Nat):Int)⟩ :: (g s.f4 (st.1.length+1)))) ⟨7,0,0,0⟩ (g s.f5 (st.1.length+2+r4.length) ++ post) (st.1.length+1+r4.length) (st.1.length+2+r4.length+r5.length) (by simp [hp,← l4];omega)
      simp only [List.append_assoc,List.cons_append] at a3
      rw [a3,← l4,← l5]
  rw [if_neg k6,if_neg k6]
  by_cases k7:s.f0=7
  · rw [if_pos k7,if_pos k7]
    obtain ⟨r4,p4,e4,l4,f4⟩:=h4 (Xf.put st ⟨6,s.f1,0,0⟩)
    have q1:(Xf.put st ⟨6,s.f1,0,0⟩).1.length=st.1.length+1:=by simp [Xf.put]
    rw [q1] at l4 f4
    rw [e4]
    refine ⟨(⟨6,s.f1,0,0⟩ :: r4) ++ [⟨7,0,0,(st.1.length:Int)⟩],p4 ++ [(st.1.length,st.1.length+2+r4.length)],?_,?_,fun pre post hp=>?_⟩
    · refine Prod.ext ?_ ?_
      · simp [Xf.put,Xf.tells]
      · simp [Xf.put,Xf.tells] <;> omega
    · simp only [List.length_append,List.length_cons,List.length_nil]
      rw [← l4]
    · rw [fin_app]
      have a1:=f4 (pre ++ [⟨6,s.f1,0,0⟩]) ([⟨7,0,0,(st.1.length:Int)⟩] ++ post) (by simp [hp])
      simp only [List.append_assoc,List.cons_append,List.nil_append] at a1 ⊢
      rw [a1]
      show Xf.setN _ (st.1.length,st.1.length+2+r4.length)=_
      rw [setN_at pre _ _ _ _ hp.symm,← l4]
  rw [if_neg k7,if_neg k7]
  by_cases k8:s.f0=8
  · rw [if_pos k8,if_pos k8]
    obtain ⟨r4,p4,e4,l4,f4⟩:=h4 (Xf.put st ⟨8,s.f1,0,0⟩)
    have q1:(Xf.put st ⟨8,s.f1,0,0⟩).1.length=st.1.length+1:=by simp [Xf.put]
    rw [q1] at l4 f4
    rw [e4]
    refine ⟨(⟨8,s.f1,0,0⟩ :: r4) ++ [⟨9,s.f1,0,0⟩],p4,?_,?_,fun pre post hp=>?_⟩
    · simp [Xf.put]
    · simp only [List.length_append,List.length_cons,List.length_nil]
      rw [← l4]
    · have a1:=f4 (pre ++ [⟨8,s.f1,0,0⟩]) ([⟨9,s.f1,0,0⟩] ++ post) (by simp [hp])
      simp only [List.append_assoc,List.cons_append,List.nil_append] at a1 ⊢
      rw [a1]
  rw [if_neg k8,if_neg k8]
  rw [hs (by omega)]
  exact does_put (leafI s) st
theorem does_seq {f f':Xf.St→Xf.St} {g g':Nat→List Ins} (h:Does f g) (h':Does f' g'):Does (fun st=>f' (f st)) (fun a=>g a ++ g' (a+(g a).length)):=by
  intro st
  obtain ⟨r,p,e,l,fn⟩:=h st
  obtain ⟨r',p',e',l',fn'⟩:=h' (st.1 ++ r,st.2 ++ p)
  have q:(st.1 ++ r,st.2 ++ p).1.length=st.1.length+(g st.1.length).length:=by simp [l]
  rw [q] at l' fn'
  refine ⟨r ++ r',p ++ p',?_,?_,fun pre post hp=>?_⟩
  · show f' (f st)=_
    rw [e,e'];simp only [List.append_assoc]
  · simp only [List.length_append,l,l']
  · rw [fin_app]
    have a1:=fn pre (r' ++ post) hp
    have a2:=fn' (pre ++ g st.1.length) post (by simp [hp])
    simp only [List.append_assoc] at a1 a2 ⊢
    rw [a1,a2]
theorem does_id:Does (fun st=>st) (fun _=>[]):=fun st=>⟨[],[],by simp,rfl,fun pre post _=>rfl⟩
theorem does_list (d:Nat):∀ (l:List T),(∀ s ∈ l,Does (Xf.cS (Xf.cL d) s) (gS (gL d) s))→Does (Xf.cL (d+1) l) (gL (d+1) l)
  |[],_=>does_id
  |s :: l,h=>does_seq (f:=Xf.cS (Xf.cL d) s) (f':=Xf.cL (d+1) l) (g:=gS (gL d) s) (g':=gL (d+1) l) (h s (List.mem_cons_self)) (does_list d l (fun t ht=>h t (List.mem_cons_of_mem _ ht)))
def Leaves:Nat→List T→Prop
  |0,_=>True
  |d+1,l=>∀ s ∈ l,LeafOk s∧Leaves d s.f4∧Leaves d s.f5
theorem does_all:∀ (d:Nat) (l:List T),Leaves d l→Does (Xf.cL d l) (gL d l)
  |0,l,_=>does_id
  |d+1,l,h=>does_list d l (fun s hs=>does_stmt s (h s hs).1 (does_all d _ (h s hs).2.1) (does_all d _ (h s hs).2.2))
theorem codeOf_is (l:List T) (h:Leaves 3 l) (hd:Xf.deepB 3 l=true) (hc:Xf.cnt 3 l≤1000):impl_codeOf.f l=some (gL 3 l 0 ++ [⟨13,0,0,0⟩]):=by
  unfold impl_codeOf.f
  rw [if_pos ⟨hd,hc⟩]
  obtain ⟨r,p,e,_,fn⟩:=does_all 3 l h ([],[])
  rw [e]
  have:=fn [] [⟨13,0,0,0⟩] rfl
  simp only [List.nil_append,List.length_nil] at this ⊢
  rw [this]
theorem cnt_eq:∀ (d:Nat) (l:List T),Yk.cnt d l=Xf.cnt d l
  |0,l=>rfl
  |d+1,l=>by
    simp only [Yk.cnt,Xf.cnt]
    congr 1
    exact List.map_congr_left (fun s _=>by rw [cnt_eq d,cnt_eq d])
theorem sum_le (f:T→Nat) (B:Nat):∀ (l:List T),(∀ s ∈ l,f s≤B)→(l.map f).sum≤l.length * B
  |[],_=>by simp
  |s :: l,h=>by
    have h1:=h s (List.mem_cons_self)
    have h2:=sum_le f B l (fun t ht=>h t (List.mem_cons_of_mem _ ht))
    rw [List.map_cons,List.sum_cons,List.length_cons,Nat.succ_mul]
    omega
theorem cnt_le {d B:Nat} {l:List T} (h:∀ s ∈ l,1+Xf.cnt d s.f4+Xf.cnt d s.f5≤B):Xf.cnt (d+1) l≤l.length * B:=by
  have:=sum_le (fun s=>1+Xf.cnt d s.f4+Xf.cnt d s.f5) B l h
  simpa only [Xf.cnt] using this
theorem cnt_short:∀ {l:List T},Short 3 l→Xf.cnt 3 l≤4611688217451692032:=by
  have h1:∀ l,Short 1 l→Xf.cnt 1 l≤1048576:=fun l h=>by
    have h2:=h.len
    have:Xf.cnt 1 l≤l.length * 1:=cnt_le (d:=0) (B:=1) (l:=l) (fun s _=>by simp [Xf.cnt])
    omega
  have h2:∀ l,Short 2 l→Xf.cnt 2 l≤2199024304128:=fun l h=>by
    have h2:=h.len
    have:Xf.cnt 2 l≤l.length * 2097153:=cnt_le (d:=1) (B:=2097153) (l:=l) (fun s hs=>by have a:=h1 _ (h.2 s hs).1;have b:=h1 _ (h.2 s hs).2;omega)
    omega
  intro l h
  have h3:=h.len
  have:Xf.cnt 3 l≤l.length * 4398048608257:=cnt_le (d:=2) (B:=4398048608257) (l:=l) (fun s hs=>by have a:=h2 _ (h.2 s hs).1;have b:=h2 _ (h.2 s hs).2;omega)
  omega
theorem deep_of:∀ (d:Nat) (l:List T) (room:Int),l.all (fun t=>Yy.st d t room)=true→Xf.deepB d l=true
  |0,l,room,h=>by
    cases l with
    |nil=>rfl
    |cons x r=>simp [Yy.st] at h
  |d+1,l,room,h=>List.all_eq_true.2 (fun s hs=>by
      have:=(st_iff d s room).1 (List.all_eq_true.1 h s hs)
      rw [Bool.and_eq_true]
      exact ⟨deep_of d _ _ this.2.1,deep_of d _ _ this.2.2⟩)
theorem leafOk_of {s:T} {room:Int} {n4 n5:Nat} (h:headP s.f0 s.f1 s.f2 s.f3 room n4 n5):LeafOk s:=by
  intro hk
  unfold leafI Xf.simple
  rcases h with h|h|h|h|h|h|h|h|h|h
  · rw [if_pos h.1,if_pos (by omega),h.1]
  · rw [if_neg (by omega),if_pos h.1,if_pos (by omega),h.1]
  · rcases h.1 with e|e
    · rw [if_neg (by omega),if_neg (by omega),if_pos e,if_pos (by omega),e]
    · rw [if_neg (by omega),if_neg (by omega),if_neg (by omega),if_pos e,if_pos (by omega),e]
  · rw [if_neg (by omega),if_neg (by omega),if_neg (by omega),if_neg (by omega),if_pos h.1,if_pos (by omega),h.1]
  · exact absurd (Or.inl h.1) hk
  · exact absurd (Or.inr (Or.inl h.1)) hk
  · exact absurd (Or.inr (Or.inr h.1)) hk
  · rw [if_neg (by omega),if_neg (by omega),if_neg (by omega),if_neg (by omega),if_neg (by omega),if_pos h.1,if_neg (by omega),if_pos h.1,h.2.2.2.1,h.2.2.2.2.1]
  · rw [if_neg (by omega),if_neg (by omega),if_neg (by omega),if_neg (by omega),if_neg (by omega),if_neg (by omega),if_pos h.1,if_neg (by omega),if_neg (by omega),if_pos h.1,h.2.2.2.1,h.2.2.2.2.1]
  · rw [if_neg (by omega),if_neg (by omega),if_neg (by omega),if_neg (by omega),if_neg (by omega),if_neg (by omega),if_neg (by omega),if_pos h.1,if_neg (by omega),if_neg (by omega),if_neg (by omega),h.2.1,h.2.2.1,h.2.2.2.1]
theorem leaves_of:∀ (d:Nat) (l:List T) (room:Int),l.all (fun t=>Yy.st d t room)=true→Leaves d l
  |0,_,_,_=>trivial
  |d+1,l,room,h=>fun s hs=>by
    have:=(st_iff d s room).1 (List.all_eq_true.1 h s hs)
    exact ⟨leafOk_of this.1,leaves_of d _ _ this.2.1,leaves_of d _ _ this.2.2⟩
theorem len_gS {g:List T→Nat→List Ins} {c:List T→Nat} (h:∀ l a,(g l a).length≤3 * c l) (s:T) (a:Nat):(gS g s a).length≤3 * (1+c s.f4+c s.f5):=by
  have h4:=h s.f4 (a+1)
  have h5:=h s.f5 (a+2+(g s.f4 (a+1)).length)
  unfold gS
  split
  · simp only [List.length_append,List.length_cons];omega
  · split
    · simp only [List.length_append,List.length_cons,List.length_nil];omega
    · split
      · simp only [List.length_append,List.length_cons,List.length_nil];omega
      · simp only [List.length_cons,List.length_nil];omega
theorem len_gL:∀ (d:Nat) (l:List T) (a:Nat),(gL d l a).length≤3 * Xf.cnt d l
  |0,l,a=>by simp [gL]
  |d+1,l,a=>by
    show (gLs (gS (gL d)) l a).length≤_
    induction l generalizing a with
    |nil=>simp [gLs]
    |cons s l ih=>
      have h1:=len_gS (len_gL d) s a
      have h2:=ih (a+(gS (gL d) s a).length)
      simp only [gLs,List.length_append,Xf.cnt,List.map_cons,List.sum_cons] at h2 ⊢
      omega
def LG (d:Nat) (l:List T):Prop:=∀ a:Nat,a+3 * Xf.cnt d l≤100000→Evt (fun q=>Zc.f q l (a:Int)) (gL d l a)
theorem leafI_1 {s:T} (h:1≤s.f0∧s.f0≤5):leafI s=⟨s.f0,s.f1,s.f2,s.f3⟩:=by unfold leafI;rw [if_pos h]
theorem leafI_9 {s:T} (h:s.f0=9):leafI s=⟨10,s.f1,0,0⟩:=by unfold leafI;rw [if_neg (by omega),if_pos h]
theorem leafI_10 {s:T} (h:s.f0=10):leafI s=⟨11,s.f1,0,0⟩:=by unfold leafI;rw [if_neg (by omega),if_neg (by omega),if_pos h]
theorem leafI_0 {s:T} (h:¬ (1≤s.f0∧s.f0≤5)) (h9:¬ s.f0=9) (h10:¬ s.f0=10):leafI s=⟨12,0,0,0⟩:=by unfold leafI;rw [if_neg h,if_neg h9,if_neg h10]
theorem one_ev (d:Nat) (s:T) (h4:LG d s.f4) (h5:LG d s.f5) (a:Nat) (ha:a+3 * (1+Xf.cnt d s.f4+Xf.cnt d s.f5)≤100000):Evt (fun q=>Zd.f q s.f0 s.f1 s.f2 s.f3 s.f4 s.f5 (a:Int)) (gS (gL d) s a):=by
  have w1:wrap64 ((a:Int)+1)=((a+1:Nat):Int):=by rw [w64 (by omega) (by omega)];omega
  have w2:wrap64 ((a:Int)+2)=((a+2:Nat):Int):=by rw [w64 (by omega) (by omega)];omega
  have L4:=len_gL d s.f4 (a+1)
  have e4:=h4 (a+1) (by omega)
  have w3:wrap64 (((a+2:Nat):Int)+((gL d s.f4 (a+1)).length:Int))=((a+2+(gL d s.f4 (a+1)).length:Nat):Int):=by rw [w64 (by omega) (by omega)];omega
  have e5:=h5 (a+2+(gL d s.f4 (a+1)).length) (by omega)
  have L5:=len_gL d s.f5 (a+2+(gL d s.f4 (a+1)).length)
  have w4:wrap64 (((a+2+(gL d s.f4 (a+1)).length:Nat):Int)+((gL d s.f5 (a+2+(gL d s.f4 (a+1)).length)).length:Int))=((a+2+(gL d s.f4 (a+1)).length+(gL d s.f5 (a+2+(gL d s.f4 (a+1)).length)).length:Nat):Int):=by rw [w64 (by omega) (by omega)];omega
  refine Evt.step ?_
  simp only [Zd.f,w1,w2,Option.bind_some]
  unfold gS
  by_cases k6:s.f0=6
  · rw [if_pos k6]
    refine Evt.pos k6 (Evt.bind e4 ?_)
    simp only [w3]
    refine Evt.bind e5 ?_
    simp only [w4,List.length_append,List.length_cons,List.length_nil]
    refine Evt.pos (by omega) (Evt.pos (by omega) (Evt.pos (by omega) ?_))
    have hp:=Evt.pure (([(⟨6,s.f1,0,((a+2+(gL d s.f4 (a+1)).length:Nat):Int)⟩:Ins)] ++ gL d s.f4 (a+1)) ++ [(⟨7,0,0,((a+2+(gL d s.f4 (a+1)).length+(gL d s.f5 (a+2+(gL d s.f4 (a+1)).length)).length:Nat):Int)⟩:Ins)] ++ gL d s.f5 (a+2+(gL d s.f4 (a+1)).length))
    simpa using hp
  rw [if_neg k6]
  refine Evt.neg k6 ?_
  by_cases k7:s.f0=7
  · rw [if_pos k7]
    refine Evt.pos k7 (Evt.bind e4 ?_)
    simp only [w3,List.length_append,List.length_cons,List.length_nil]
    refine Evt.pos (by omega) (Evt.pos (by omega) ?_)
    have hp:=Evt.pure (([(⟨6,s.f1,0,((a+2+(gL d s.f4 (a+1)).length:Nat):Int)⟩:Ins)] ++ gL d s.f4 (a+1)) ++ [(⟨7,0,0,(a:Int)⟩:Ins)])
    simpa using hp
  rw [if_neg k7]
  refine Evt.neg k7 ?_
  by_cases k8:s.f0=8
  · rw [if_pos k8]
    refine Evt.pos k8 (Evt.bind e4 ?_)
    simp only [List.length_append,List.length_cons,List.length_nil]
    refine Evt.pos (by omega) (Evt.pos (by omega) ?_)
    have hp:=Evt.pure (([(⟨8,s.f1,0,0⟩:Ins)] ++ gL d s.f4 (a+1)) ++ [(⟨9,s.f1,0,0⟩:Ins)])
    simpa using hp
  rw [if_neg k8]
  refine Evt.neg k8 ?_
  have leaf:∀ (x:Bool),(x=true↔1≤s.f0∧s.f0≤5)→Evt (fun q=>Zd.j0 q s.f0 x s.f0 s.f1 s.f2 s.f3 s.f4 s.f5) [leafI s]:=fun x hx=>by
    refine Evt.step ?_
    simp only [Zd.j0]
    by_cases hb:x=true
    · rw [leafI_1 (hx.1 hb)];exact Evt.pos hb (Evt.pure _)
    · have hn:=fun h=>hb (hx.2 h)
      refine Evt.neg hb ?_
      by_cases k9:s.f0=9
      · rw [leafI_9 k9];exact Evt.pos k9 (Evt.pure _)
      · refine Evt.neg k9 ?_
        by_cases k10:s.f0=10
        · rw [leafI_10 k10];exact Evt.pos k10 (Evt.pure _)
        · rw [leafI_0 hn k9 k10];exact Evt.neg k10 (Evt.pure _)
  by_cases k1:s.f0=1
  · exact Evt.pos k1 (leaf _ (by rw [beq_iff_eq];omega))
  refine Evt.neg k1 ?_
  by_cases k2:s.f0=2
  · exact Evt.pos k2 (leaf _ (by rw [beq_iff_eq];omega))
  refine Evt.neg k2 ?_
  by_cases k3:s.f0=3
  · exact Evt.pos k3 (leaf _ (by rw [beq_iff_eq];omega))
  refine Evt.neg k3 ?_
  by_cases k4:s.f0=4
  · exact Evt.pos k4 (leaf _ (by rw [beq_iff_eq];omega))
  exact Evt.neg k4 (leaf _ (by rw [beq_iff_eq];omega))
theorem of_loop (d:Nat) {l:List T} (hl:l.length≤1048576) (a:Nat) (each:∀ s ∈ l,∀ a:Nat,a+3 * (1+Xf.cnt d s.f4+Xf.cnt d s.f5)≤100000→Evt (fun q=>Zd.f q s.f0 s.f1 s.f2 s.f3 s.f4 s.f5 (a:Int)) (gS (gL d) s a)) :
    ∀ (B A:List T) (acc:List Ins),l=A ++ B→a+acc.length+3 * Xf.cnt (d+1) B≤100000→Evt (fun q=>Zc.l0 q l (a:Int) acc (A.length:Int)) (acc ++ gL (d+1) B (a+acc.length))
  |[],A,acc,he,hk=>by
    rw [List.append_nil] at he
    subst he
    refine Evt.step ?_
    simp only [Zc.l0]
    refine Evt.neg (by omega) ?_
    have:gL (d+1) ([]:List T) (a+acc.length)=[]:=rfl
    rw [this,List.append_nil]
    exact Evt.pure _
  |b :: B,A,acc,he,hk=>by
    have hlen:l.length=A.length+B.length+1:=by rw [he];simp;omega
    have hb:l.getD A.length z63=b:=by rw [he];simp [List.getD_eq_getElem?_getD]
    have hw:wrap64 ((a:Int)+(acc.length:Int))=((a+acc.length:Nat):Int):=by rw [w64 (by omega) (by omega)];omega
    have hcb:Xf.cnt (d+1) (b :: B)=(1+Xf.cnt d b.f4+Xf.cnt d b.f5)+Xf.cnt (d+1) B:=by simp only [Xf.cnt,List.map_cons,List.sum_cons]
    have e1:=each b (by rw [he];simp) (a+acc.length) (by omega)
    have hs:=len_gS (len_gL d) b (a+acc.length)
    refine Evt.step ?_
    simp only [Zc.l0,Xc,Int.toNat_natCast,hb,hw]
    refine Evt.pos (by omega) (Evt.pos (by omega) (Evt.bind e1 (Evt.pos (by omega) ?_)))
    rw [w64n A.length (by omega)]
    have ih:=of_loop d hl a each B (A ++ [b]) (acc ++ gS (gL d) b (a+acc.length)) (by rw [he];simp) (by rw [List.length_append];omega)
    rw [List.length_append,List.length_append,← Nat.add_assoc,List.append_assoc] at ih
    exact ih
theorem of_ev:∀ (d:Nat) (l:List T),Xf.deepB d l=true→Short d l→LG d l
  |0,l,hd,hs=>fun a ha=>by
    have hl:l=[]:=Xf.deepB_is 0 l hd
    subst hl
    refine Evt.step ?_
    simp only [Zc.f]
    refine Evt.step ?_
    simp only [Zc.l0]
    exact Evt.neg (by simp) (Evt.pure _)
  |d+1,l,hd,hs=>fun a ha=>by
    refine Evt.step ?_
    simp only [Zc.f]
    have hdd:=List.all_eq_true.1 hd
    have:=of_loop d hs.len a (fun s hm b hb=>one_ev d s
      (of_ev d s.f4 (Bool.and_eq_true_iff.1 (hdd s hm)).1 (hs.2 s hm).1)
      (of_ev d s.f5 (Bool.and_eq_true_iff.1 (hdd s hm)).2 (hs.2 s hm).2) b hb) l [] [] rfl (by simpa using ha)
    simpa using this
theorem ok_cnt {l:List T} (h:Short 3 l) (hk:okB l=true):Xf.cnt 3 l≤14:=by
  unfold okB at hk
  have h1:=of_decide_eq_true (Bool.and_eq_true_iff.1 hk).2
  have h2:=cnt_short h
  rw [cnt_eq] at h1
  unfold wrap64 at h1
  omega
def codeOf (l:List T):List Ins:=if okB l=true then gL 3 l 0 ++ [⟨13,0,0,0⟩] else []
theorem codeOf_both (l:List T) (h:Short 3 l):Evt (fun q=>Vq.f q l) (codeOf l)∧impl_CodeOf.f l=some (codeOf l):=by
  unfold Vq.f impl_CodeOf.f codeOf
  obtain ⟨e,i⟩:=stmtsOk_both l h
  rw [i]
  cases hk:okB l
  · rw [hk] at e
    refine ⟨Evt.bind e (Evt.neg (by simp) ?_),?_⟩
    · rw [if_neg (by simp)];exact Evt.pure _
    · simp
  · rw [hk] at e
    have hall:l.all (fun t=>Yy.st 3 t (-1))=true:=(Bool.and_eq_true_iff.1 (by unfold okB at hk;exact hk)).1
    have hc:=ok_cnt h hk
    have hd:=deep_of 3 l (-1) hall
    have hL:=len_gL 3 l 0
    refine ⟨Evt.bind e (Evt.pos rfl (Evt.bind (of_ev 3 l hd h 0 (by omega)) (Evt.pos (by omega) ?_))),?_⟩
    · rw [if_pos rfl];exact Evt.pure _
    · rw [codeOf_is l (leaves_of 3 l _ hall) hd (by omega)]
      rfl
end Stmts
end Go.Proofs.Ytokajnfbiddpjaa.Pure
