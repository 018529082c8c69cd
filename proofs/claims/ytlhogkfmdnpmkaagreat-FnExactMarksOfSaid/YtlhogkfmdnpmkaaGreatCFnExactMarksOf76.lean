import Derived.Test.YtlhogkfmdnpmkaaGreatCFnExactMarksOf37
import Derived.RangeFuncFrom
import Derived.Shelf.Abstract
set_option linter.unusedSectionVars false
set_option linter.unusedVariables false
namespace Go.Proofs.YtlhogkfmdnpmkaaGreat.Mean
open RowKit GMarks YtlhogkfmdnpmkaaGreatW.PrintWords YtlhogkfmdnpmkaaGreatW.PrintMore
variable [Prot]
def Yo (n:Nat) (f:Nat→Int):List Int:=(List.range n).map f
def asP (p:PS):S85:=⟨Yo 3 p.regs,p.todo,p.mode,p.on,p.room⟩
def procsL (s:WS):List S85:=(List.range s.n).map fun i=>asP (s.proc i)
theorem ints_C {W:World} {base n:Nat} {v:Value} {f:Nat→Int} (h:W.ownsRow base 3 1 v n (ints n f)):∃ A c,v=.slice A (Yo n f).length c∧(Yo n f).length≤c∧(Kd.int .i64).C W A (Yo n f).length (Yo n f):=by
 have hl:(Yo n f).length=n:=by simp [Yo]
 have hR:(Kd.int .i64).R 3 W base (fun _=>True) v (Yo n f):=Kd.R_of_own (by rw [hl];exact h) (fun _ _=>trivial);obtain ⟨A,c,e⟩:=Kd.Zq hR;rw [e] at hR;obtain ⟨_,h2,h3⟩:=Kd.V_reads' (Kd.R_V (base':=base) hR);exact ⟨A,c,e,h2,h3⟩
theorem At.procs_C {W:World} {base:Nat} {ok:Nat→Prop} {b:BK} {s:WS} (h:At W base ok b s) (hn:0<s.n) (hn2:s.n≤1000):∃ A c,b.p=.slice A (procsL s).length c∧(procsL s).length≤c∧k85.C W A (procsL s).length (procsL s):=by
 have hl:(procsL s).length=s.n:=by simp [procsL]
 obtain ⟨g,cap,e,_,_,_,_,hcap⟩:=row_form (h.rows.at_ 0 _ rfl) hn;have HP:=h.Yf hn e;refine ⟨some ⟨g,0,none⟩,cap,by rw [hl];exact e,by rw [hl];exact hcap,rfl,by rw [hl];omega,fun _=>⟨_,rfl,fun j p hj=>?_⟩⟩
 have hjn:j<s.n:=by
  have:=(List.getElem?_eq_some_iff.1 hj).1
  rw [hl] at this;exact this
 have ep:p=asP (s.proc j):=by
  unfold procsL at hj;rw [List.getElem?_map,List.getElem?_range hjn] at hj;injection hj with hj;exact hj.symm
 subst ep;obtain ⟨A0,c0,e0,l0,g0⟩:∃ A c,b.r j=.slice A (Yo 3 (s.proc j).regs).length c∧(Yo 3 (s.proc j).regs).length≤c∧(Kd.int .i64).C W A (Yo 3 (s.proc j).regs).length (Yo 3 (s.proc j).regs):=ints_C (h.rows.at_ (j+7) _ (lay_reg b s hjn));obtain ⟨A1,c1,e1⟩:=Kd.V_slice (h.tree j hjn);have ht:=h.tree j hjn;rw [e1] at ht;obtain ⟨_,l1,g1⟩:=Kd.V_reads' ht;refine ⟨_,?_,k85_mk W (asP (s.proc j)) l0 g0 l1 g1,fun i u hu=>?_⟩
 ·rfl
 ·have hi:i<5:=by
   have:=(List.getElem?_eq_some_iff.1 hu).1
   simpa using this
  rw [add_plain];show W.cell? ⟨g,j * 5+i,none⟩=some u
  refine (HP.cell j i hjn hi).trans ?_;unfold Yn
  rcases (show i=0∨i=1∨i=2∨i=3∨i=4 by omega) with rfl|rfl|rfl|rfl|rfl
  ·simp only [if_true];rw [e0];exact hu
  ·rw [if_neg de_,if_pos rfl,e1];exact hu
  all_goals exact hu
end Go.Proofs.YtlhogkfmdnpmkaaGreat.Mean
namespace Go.Proofs.YtlhogkfmdnpmkaaGreat.Mean
open Go Go.RowKit Go.Proofs.YtlhogkfmdnpmkaaGreatW.PrintWords
def Grew (U U':Nat→Prop) (W W':World):Prop:=∀ k,U' k→U k∨(W.heap.size≤k∧k<W'.heap.size)
def RoundM {α:Type} (J:(Nat→Prop)→List α→World→Prop) (U:Nat→Prop) (xs:List α) (W W':World):Prop:=∃ U',J U' xs W'∧Only W W' U∧Grew U U' W W'
def SeqM {α:Type} (P:Program) (g:Nat) (lb:Array Value) (encs:α→Array Value) (X:Nat→Prop) (S:(Nat→Prop)→List α→World→Prop) (Ok:List α→α→Prop) (w:World):Prop:=
 ∀ (l:Nat) (J:(Nat→Prop)→List α→World→Prop) (U:Nat→Prop) (W:World),Below w.heap.size w W→
  (∀ U xs A B,J U xs A→Only A B (fun k=>¬ U k)→J U xs B)→
  (∀ U pre x W1,J U pre W1→Ok pre x→YieldAt Fence.wide 0 P l (encs x) W1 fun e W'=>e=.returned (.bool true)∧RoundM J U (pre ++ [x]) W1 W')→
  (∀ k,U k→k<W.heap.size∧¬ X k)→J U [] W→
  Calls P g (#[.func (.yield l) #[] #[]] ++ lb) W fun e W'=>(∃ v,e=.returned v)∧∃ U' xs,J U' xs W'∧S U' xs W'∧Only W W' U
theorem only_putObj {W:World} {l:Nat} {o':Obj} {ok:Nat→Prop} (h:ok l):Only W (W.putObj l o') ok:=
 ⟨rfl,rfl,rfl,by simp [World.putObj],fun k _ hn=>World.putObj_heap_other (fun e=>hn (e ▸ h))⟩
def bodyM {α:Type} (I:(Nat→Prop)→List α→World→Prop) (U:Nat→Prop) (xs:List α) (W:World):Exit→Act→World→Prop
 |.normal,_,W'=>RoundM I U xs W W'
 |_,_,_=>False
theorem rangeM_of {P:Program} {α:Type} {g:Operand} {ps:Array Tmp} {assign body:Code} {Q:Exit→Act→World→Prop} {a:Act} {w:World}
  {gf:Nat} {lb:Array Value} (hg:a.eval g=.func (.func gf) #[] lb) (eg:∀ args w,(callFunc gf args).run P w=.ok (.enter gf args) w)
  {encs:α→Array Value} {X:Nat→Prop} {S:(Nat→Prop)→List α→World→Prop} {Ok:List α→α→Prop} (hseq:SeqM P gf lb encs X S Ok w) (hX:∀ k,X k→k<w.heap.size) (hps:∀ x,(encs x).size=ps.size)
  (hS:∀ U xs A B,S U xs A→Only A B U→S U xs B)
  (I:(Nat→Prop)→List α→World→Prop) (hI:∀ U xs A B,I U xs A→Only A B (fun k=>¬ U k)→I U xs B) (U0:Nat→Prop) (aB:∀ k,U0 k→k<w.heap.size∧¬ X k) (h0:I U0 [] w) (A:α→World→World→Act→Prop)
  (hassign:∀ (l:Nat) (x:α) (W:World) (K:Act→World→Prop),(∀ a1 W1,Below W.heap.size W W1→A x W W1 a1→K a1 W1)→
   assign.wpIn (Fence.wide.inRound l) 0 P (Exit.then K (fun _ _ _=>False)) { tmps:=(ps.zip (encs x)).foldl (fun t (p,v)=>t.setIfInBounds p v) a.tmps,defers:=[] } W)
  (hbody:∀ (l:Nat) (U:Nat→Prop) (pre:List α) (x:α) (W W1 W2:World) (a1:Act),w.heap.size≤W.heap.size→l<W.heap.size→A x W W1 a1→Only W1 W2 (fun k=>k=l)→W.heap.size≤W1.heap.size→I U pre W2→Ok pre x→body.wpIn (Fence.wide.inRound l) 0 P (bodyM I U (pre ++ [x]) W2) a1 W2)
  (hdone:∀ (D:Nat) (U V:Nat→Prop) (xs:List α) (W:World),w.heap.size≤D→(∀ k,U k→V k)→V D→¬ U D→S V xs W→I U xs W→Only w W U0→W.heap[D]?=some (.deferred (some []))→Q .normal { a with defers:={ target:=.collected D,args:=#[] } :: a.defers } W) :
  (Code.rangeFunc g ps assign body).wp P Q a w:=by
 refine (wpIn_wide (n:=1)).1 (wpIn_rangeFunc fun fn hfn=>?_);obtain ⟨rec,hrec⟩:∃ rec:LoopState→Option Code→Loop,rec=fun st pe=>{ state:=st,pending:=pe,fn,tmps:=a.tmps,params:=ps,assign,body,defers:=w.heap.size }:=⟨_,rfl⟩;obtain ⟨W1,hW1⟩:∃ W1,(w.alloc (.deferred (some []))).alloc (.loop (rec .ready none))=W1:=⟨_,rfl⟩
 have hs1:W1.heap.size=w.heap.size+2:=by rw [← hW1];simp
 have hL1:W1.heap[w.heap.size+1]?=some (.loop (rec .ready none)):=by
  rw [← hW1]
  have:=World.alloc_heap_new (w.alloc (.deferred (some []))) (.loop (rec .ready none))
  rwa [World.size_alloc] at this
 have hD1:W1.heap[w.heap.size]?=some (.deferred (some [])):=by
  rw [← hW1];exact (Below.heap_alloc _ _ _ sm_).trans (World.alloc_heap_new w _)
 have hb1:Below w.heap.size w W1:=by rw [← hW1];exact ((Below.refl _ w).alloc (nr_ _) _).alloc sm_ _
 refine ⟨w.heap.size+1,[{ target:=.collected w.heap.size,args:=#[] }],W1,{ target:=.fn (.func gf) lb,args:=#[.func (.yield (w.heap.size+1)) #[] #[]] },W1,gf,
  #[.func (.yield (w.heap.size+1)) #[] #[]] ++ lb,W1,?_,?_,fun _ _=>trivial,?_,fun h=>by simp [Fence.wide] at h,?_⟩
 ·rw [← hW1,hrec];exact run_enterLoop_outer _ _ _ _ _
 ·simp only [resolve,hg];simp [go_sem]
 ·simp [invoke,go_sem,eg]
 refine callsIn_wide.2 (Calls.mono (hseq (w.heap.size+1)
   (fun U pre W=>∃ Uc,(∀ k,U k↔Uc k∨k=w.heap.size+1∨k=w.heap.size)∧¬ Uc (w.heap.size+1)∧¬ Uc w.heap.size∧w.heap.size≤W.heap.size∧I Uc pre W∧W.heap[w.heap.size+1]?=some (.loop (rec .ready none))∧W.heap[w.heap.size]?=some (.deferred (some [])))
   (fun k=>U0 k∨k=w.heap.size+1∨k=w.heap.size)
   W1 hb1
   (fun U xs A C hs ho=>by
    obtain ⟨Uc,e,n1,n2,hle,hi,hl,hd⟩:=hs;exact ⟨Uc,e,n1,n2,nt_ hle ho.size,hI _ _ _ _ hi (ho.mono (fun k hk hu=>hk ((e k).2 (.inl hu)))),(ho.block _ (Array.getElem?_eq_some_iff.1 hl).1 (fun h=>h ((e _).2 (.inr (.inl rfl))))).trans hl,(ho.block _ (Array.getElem?_eq_some_iff.1 hd).1 (fun h=>h ((e _).2 (.inr (.inr rfl))))).trans hd⟩)
   ?_ (fun k hk=>?_) ⟨U0,fun k=>Iff.rfl,fun h=>by have:=(aB _ h).1;omega,fun h=>by have:=(aB _ h).1;omega,hb1.size,hI _ _ _ _ h0 (Only.of_below hb1 _),hL1,hD1⟩) ?_)
 ·
  rintro U pre x W ⟨Uc,eU,n1,n2,hle,hi,hl,hd⟩ hok;have hlt:w.heap.size+1<W.heap.size:=(Array.getElem?_eq_some_iff.1 hl).1;have hy:=run_yield (P:=P) (args:=encs x) hl (by rw [hrec];exact hps x);rw [hrec] at hy;refine ⟨fn,_,assign,body,hy,roundIn_of_wpIn trivial (hassign _ x W _ (fun a1 Wa hba hA=>?_))⟩;have hla:=(hba.block _ hlt).trans hl;refine ⟨_,run_beginRound hla (by rw [hrec]),?_⟩;obtain ⟨W2,hW2⟩:∃ W2,Wa.putObj (w.heap.size+1) (.loop { rec .ready none with state:=.busy })=W2:=⟨_,rfl⟩;have hlta:=(Array.getElem?_eq_some_iff.1 hla).1
  have hl2:W2.heap[w.heap.size+1]?=some (.loop { rec .ready none with state:=.busy }):=by rw [← hW2];exact World.putObj_heap_same hlta
  have hd2:W2.heap[w.heap.size]?=some (.deferred (some [])):=by rw [← hW2];exact (World.putObj_heap_other om_).trans ((hba.block _ om_).trans hd)
  have hoa:Only Wa W2 (fun k=>k=w.heap.size+1):=by rw [← hW2];exact only_putObj rfl
  have ho2:Only W W2 (fun k=>k=w.heap.size+1):=(Only.of_below hba _).trans (hoa.mono (fun k hk=>.inl hk));have hi2:I Uc pre W2:=hI _ _ _ _ hi (ho2.mono (fun k hk hu=>n1 (hk ▸ hu)));rw [hW2];have hlt2:w.heap.size+1<W2.heap.size:=(Array.getElem?_eq_some_iff.1 hl2).1;refine wpIn_mono (hbody _ Uc pre x W Wa W2 a1 hle hlt hA hoa hba.size hi2 hok) ?_;rintro e a3 W3 hp;cases e with
  |normal=>
   obtain ⟨U',hi3,ho3,hg3⟩:=hp;have hl3:=(ho3.block (w.heap.size+1) hlt2 n1).trans hl2;have hd3:=(ho3.block w.heap.size om_ n2).trans hd2
   have hr:(Instr.endRound (w.heap.size+1) none).run P W3=.ok (.bool true) (W3.putObj (w.heap.size+1) (.loop (rec .ready none))):=by
    have:=run_endRound (P:=P) none hl3
    rw [hrec] at this ⊢;exact this
   have n1':¬ U' (w.heap.size+1):=fun h=>(hg3 _ h).elim n1 (fun h=>om_);have aC:¬ U' w.heap.size:=fun h=>(hg3 _ h).elim n2 (fun h=>om_);have aA:Only W3 (W3.putObj (w.heap.size+1) (.loop (rec .ready none))) (fun k=>k=w.heap.size+1):=only_putObj rfl;refine ⟨_,_,hr,rfl,(fun k=>U' k∨k=w.heap.size+1∨k=w.heap.size),⟨U',fun k=>Iff.rfl,n1',aC,nt_ (nt_ hle ho2.size) (nt_ ho3.size aA.size),hI _ _ _ _ hi3 (aA.mono (fun k hk hu=>n1' (hk ▸ hu))),?_,?_⟩,?_,fun k hk=>?_⟩
   ·exact World.putObj_heap_same (Array.getElem?_eq_some_iff.1 hl3).1
   ·exact (World.putObj_heap_other om_).trans hd3
   ·have t1:Only W W3 U:=(ho2.mono (fun k hk=>(eU k).2 (.inr (.inl hk)))).trans (ho3.mono (fun k hk=>.inl ((eU k).2 (.inl hk))));exact t1.trans (aA.mono (fun k hk=>.inl ((eU k).2 (.inr (.inl hk)))))
   ·rcases hk with hk|hk
    ·rcases hg3 k hk with h|⟨h1,h2⟩
     ·exact .inl ((eU k).2 (.inl h))
     ·exact .inr ⟨nt_ ho2.size h1,nl_ h2 aA.size⟩
    ·exact .inl ((eU k).2 (.inr hk))
  |ret=>exact hp.elim
  |exit id=>exact hp.elim
  |goto t=>exact hp.elim
  |panic ch=>exact hp.elim
  |outgrown=>exact hp.elim
 ·rcases hk with hk|rfl|rfl
  ·exact ⟨by have:=(aB k hk).1;omega,(aB k hk).2⟩
  ·exact ⟨om_,fun h=>by have:=hX _ h;omega⟩
  ·exact ⟨om_,fun h=>by have:=hX _ h;omega⟩
 ·
  rintro e W2 ⟨⟨v,rfl⟩,U',xs,⟨Uc,eU,n1,n2,hle,hi,hl,hd⟩,hs,hon⟩;have aA:∀ o',Only W2 (W2.putObj (w.heap.size+1) o') (fun k=>k=w.heap.size+1):=fun o'=>only_putObj rfl;refine ⟨none,_,by have:=run_endLoop (P:=P) hl (by rw [hrec];simp);rw [hrec] at this;exact this,hdone _ Uc U' xs _ (nr_ _) (fun k hk=>(eU k).2 (.inl hk)) ((eU _).2 (.inr (.inr rfl))) n2 (hS _ _ _ _ hs ((aA _).mono (fun k hk=>(eU k).2 (.inr (.inl hk))))) (hI _ _ _ _ hi ((aA _).mono (fun k hk hu=>n1 (hk ▸ hu)))) ?_ ((World.putObj_heap_other om_).trans hd)⟩;refine ((Only.of_below hb1 U0).trans (hon.mono (fun k hk=>?_))).trans ((aA _).mono (fun k hk=>.inr om_))
  rcases hk with h|h|h
  ·exact .inl h
  ·exact .inr om_
  ·exact .inr om_
end Go.Proofs.YtlhogkfmdnpmkaaGreat.Mean
