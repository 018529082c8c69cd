import Derived.Test.YtlhogkfmdnpmkaaGreatCFnExactMarksOf0
import Derived.RangeFuncFrom
import Derived.Shelf.Abstract
set_option linter.unusedVariables false
namespace Go.Proofs.YtlhogkfmdnpmkaaGreat.Range
open Go Go.RowKit Go.Proofs.YtlhogkfmdnpmkaaGreatW.PrintWords
def Ab {β:Type} (B:Nat) (J:β→World→Prop):Prop:=∀ s W W',J s W→Below B W W'→J s W'
structure Keeps (B:Nat) (X:Nat→Prop) (W W':World):Prop where
 size:W.heap.size≤W'.heap.size
 high:∀ k,B≤k→k<W.heap.size→W'.heap[k]?=W.heap[k]?
 seen:∀ k,X k→W'.heap[k]?=W.heap[k]?
 os:W'.os=W.os
 tape:W'.tape=W.tape
 output:W'.output=W.output
theorem Keeps.refl (B:Nat) (X:Nat→Prop) (W:World):Keeps B X W W:=⟨nr_ _,fun _ _ _=>rfl,fun _ _=>rfl,rfl,rfl,rfl⟩
theorem Keeps.trans {B:Nat} {X:Nat→Prop} {A C D:World} (h:Keeps B X A C) (h':Keeps B X C D):Keeps B X A D:=
 ⟨nt_ h.size h'.size,fun k hk hlt=>(h'.high k hk (nl_ hlt h.size)).trans (h.high k hk hlt),fun k hk=>(h'.seen k hk).trans (h.seen k hk),h'.os.trans h.os,h'.tape.trans h.tape,h'.output.trans h.output⟩
theorem Keeps.mono {B B':Nat} {X X':Nat→Prop} {W W':World} (h:Keeps B X W W') (hB:B≤B') (hX:∀ k,X' k→X k):Keeps B' X' W W':=⟨h.size,fun k hk hlt=>h.high k om_ hlt,fun k hk=>h.seen k (hX k hk),h.os,h.tape,h.output⟩
theorem putObj_below {B l:Nat} {W:World} {o':Obj} (hl:B≤l):Below B W (W.putObj l o'):=by
 refine ⟨rfl,rfl,rfl,by simp [World.putObj],fun k hk=>World.putObj_heap_other om_⟩
theorem putObj_keeps {B l:Nat} {X:Nat→Prop} {W:World} {o':Obj} (hl:l<B) (hx:¬ X l):Keeps B X W (W.putObj l o'):=
 ⟨by simp [World.putObj],fun k hk _=>World.putObj_heap_other om_,fun k hk=>World.putObj_heap_other (fun e=>hx (e ▸ hk)),rfl,rfl,rfl⟩
def Seq {α:Type} (P:Program) (g:Nat) (lb:Array Value) (encs:α→Array Value) (X:Nat→Prop) (S Sp:List α→Prop) (Ok:List α→α→Prop) (w:World):Prop:=
 ∀ (l:Nat) (J Jx:List α→World→Prop) (W:World),Below w.heap.size w W→Ab W.heap.size J→Ab W.heap.size Jx→
  (∀ pre x W1,J pre W1→Ok pre x→YieldAt Fence.wide 0 P l (encs x) W1 fun e W'=>
   (e=.returned (.bool true)∧J (pre ++ [x]) W'∧Keeps W.heap.size X W1 W')∨(e=.returned (.bool false)∧Jx (pre ++ [x]) W'∧Keeps W.heap.size X W1 W'))→
  J [] W→
  Calls P g (#[.func (.yield l) #[] #[]] ++ lb) W fun e W'=>(∃ v,e=.returned v)∧((∃ xs,S xs∧J xs W')∨(∃ pre,Sp pre∧Jx pre W'))
def bodyP {α:Type} (B:Nat) (X:Nat→Prop) (I:List α→World→Prop) (Ix:Code→List α→World→Prop) (xs:List α) (W:World):Exit→Act→World→Prop
 |.normal,_,W'=>Keeps B X W W'∧I xs W'
 |.ret,_,W'=>Keeps B X W W'∧Ix .ret xs W'
 |.exit id,_,W'=>Keeps B X W W'∧Ix (.exit id) xs W'
 |.goto t,_,W'=>Keeps B X W W'∧Ix (.goto t) xs W'
 |.panic _,_,_=>False
 |.outgrown,_,_=>False
theorem range_of {P:Program} {α:Type} {g:Operand} {ps:Array Tmp} {assign body:Code} {Q:Exit→Act→World→Prop} {a:Act} {w:World}
  {gf:Nat} {lb:Array Value} (hg:a.eval g=.func (.func gf) #[] lb) (eg:∀ args w,(callFunc gf args).run P w=.ok (.enter gf args) w)
  {encs:α→Array Value} {X:Nat→Prop} {S Sp:List α→Prop} {Ok:List α→α→Prop} (hseq:Seq P gf lb encs X S Sp Ok w) (hX:∀ k,X k→k<w.heap.size) (hps:∀ x,(encs x).size=ps.size)
  (I:List α→World→Prop) (Ix:Code→List α→World→Prop) (hI:Ab w.heap.size I) (hIx:∀ c,Ab w.heap.size (Ix c)) (h0:I [] w) (a₁:α→Act)
  (hassign:∀ (l:Nat) (x:α) (W:World) (K:Act→World→Prop),K (a₁ x) W→
   assign.wpIn (Fence.wide.inRound l) 0 P (Exit.then K (fun _ _ _=>False)) { tmps:=(ps.zip (encs x)).foldl (fun t (p,v)=>t.setIfInBounds p v) a.tmps,defers:=[] } W)
  (hbody:∀ (l:Nat) (pre:List α) (x:α) (W:World),w.heap.size≤l→(∃ r,W.heap[l]?=some (.loop r))→w.heap.size≤W.heap.size→I pre W→Ok pre x→body.wpIn (Fence.wide.inRound l) 0 P (bodyP w.heap.size X I Ix (pre ++ [x]) W) (a₁ x) W)
  (hdone:∀ (D:Nat) (xs:List α) (W:World),w.heap.size≤D→S xs→I xs W→W.heap[D]?=some (.deferred (some []))→Q .normal { a with defers:={ target:=.collected D,args:=#[] } :: a.defers } W)
  (hstop:∀ (D:Nat) (c:Code) (pre:List α) (W:World),w.heap.size≤D→Sp pre→Ix c pre W→W.heap[D]?=some (.deferred (some []))→c.wpIn Fence.wide 1 P Q { a with defers:={ target:=.collected D,args:=#[] } :: a.defers } W) :
  (Code.rangeFunc g ps assign body).wp P Q a w:=by
 refine (wpIn_wide (n:=1)).1 (wpIn_rangeFunc fun fn hfn=>?_);obtain ⟨rec,hrec⟩:∃ rec:LoopState→Option Code→Loop,rec=fun st pe=>{ state:=st,pending:=pe,fn,tmps:=a.tmps,params:=ps,assign,body,defers:=w.heap.size }:=⟨_,rfl⟩;obtain ⟨W1,hW1⟩:∃ W1,(w.alloc (.deferred (some []))).alloc (.loop (rec .ready none))=W1:=⟨_,rfl⟩
 have hs1:W1.heap.size=w.heap.size+2:=by rw [← hW1];simp
 have hL1:W1.heap[w.heap.size+1]?=some (.loop (rec .ready none)):=by
  rw [← hW1]
  have:=World.alloc_heap_new (w.alloc (.deferred (some []))) (.loop (rec .ready none))
  rwa [World.size_alloc] at this
 have hD1:W1.heap[w.heap.size]?=some (.deferred (some [])):=by
  rw [← hW1];exact (Below.heap_alloc _ _ _ sm_).trans (World.alloc_heap_new w _)
 have hb1:Below w.heap.size w W1:=by rw [← hW1];exact ((Below.refl _ w).alloc (nr_ _) _).alloc sm_ _
 have hnx:∀ k,w.heap.size≤k→¬ X k:=fun k hk h=>by have:=hX k h;omega
 refine ⟨w.heap.size+1,[{ target:=.collected w.heap.size,args:=#[] }],W1,{ target:=.fn (.func gf) lb,args:=#[.func (.yield (w.heap.size+1)) #[] #[]] },W1,gf,
  #[.func (.yield (w.heap.size+1)) #[] #[]] ++ lb,W1,?_,?_,fun _ _=>trivial,?_,fun h=>by simp [Fence.wide] at h,?_⟩
 ·rw [← hW1,hrec];exact run_enterLoop_outer _ _ _ _ _
 ·simp only [resolve,hg];simp [go_sem]
 ·simp [invoke,go_sem,eg]
 refine callsIn_wide.2 (Calls.mono (hseq (w.heap.size+1)
   (fun pre W=>I pre W∧W.heap[w.heap.size+1]?=some (.loop (rec .ready none))∧W.heap[w.heap.size]?=some (.deferred (some [])))
   (fun pre W=>∃ c,Ix c pre W∧W.heap[w.heap.size+1]?=some (.loop (rec .done (some c)))∧W.heap[w.heap.size]?=some (.deferred (some [])))
   W1 hb1
   (fun s A C hs hb=>⟨hI s A C hs.1 (hb.mono om_),(hb.block _ om_).trans hs.2.1,(hb.block _ om_).trans hs.2.2⟩)
   (fun s A C hs hb=>by
    obtain ⟨c,hc,hl,hd⟩:=hs;exact ⟨c,hIx c s A C hc (hb.mono om_),(hb.block _ om_).trans hl,(hb.block _ om_).trans hd⟩)
   ?_ ⟨hI _ _ _ h0 hb1,hL1,hD1⟩) ?_)
 ·
  rintro pre x W ⟨hi,hl,hd⟩ hok;have hlt:w.heap.size+1<W.heap.size:=(Array.getElem?_eq_some_iff.1 hl).1;have hy:=run_yield (P:=P) (args:=encs x) hl (by rw [hrec];exact hps x);rw [hrec] at hy;refine ⟨fn,_,assign,body,hy,roundIn_of_wpIn trivial (hassign _ x W _ ⟨_,run_beginRound hl (by rw [hrec]),?_⟩)⟩;obtain ⟨W2,hW2⟩:∃ W2,W.putObj (w.heap.size+1) (.loop { rec .ready none with state:=.busy })=W2:=⟨_,rfl⟩
  have hl2:W2.heap[w.heap.size+1]?=some (.loop { rec .ready none with state:=.busy }):=by rw [← hW2];exact World.putObj_heap_same hlt
  have hd2:W2.heap[w.heap.size]?=some (.deferred (some [])):=by rw [← hW2];exact (World.putObj_heap_other om_).trans hd
  have hk2:Keeps W1.heap.size X W W2:=by rw [← hW2];exact putObj_keeps om_ (hnx _ om_)
  have hi2:I pre W2:=by rw [← hW2];exact hI _ _ _ hi (putObj_below om_)
  rw [hW2];have hlt2:w.heap.size+1<W2.heap.size:=(Array.getElem?_eq_some_iff.1 hl2).1;refine wpIn_mono (hbody _ pre x W2 om_ ⟨_,hl2⟩ om_ hi2 hok) ?_
  have fin:∀ (jump:Option Code) (W3:World),Keeps w.heap.size X W2 W3→
    (Instr.endRound (w.heap.size+1) jump).run P W3=.ok (.bool jump.isNone) (W3.putObj (w.heap.size+1) (.loop (rec (if jump.isNone then .ready else .done) jump)))∧
    (W3.putObj (w.heap.size+1) (.loop (rec (if jump.isNone then .ready else .done) jump))).heap[w.heap.size+1]?=some (.loop (rec (if jump.isNone then .ready else .done) jump))∧
    (W3.putObj (w.heap.size+1) (.loop (rec (if jump.isNone then .ready else .done) jump))).heap[w.heap.size]?=some (.deferred (some []))∧
    Keeps W1.heap.size X W (W3.putObj (w.heap.size+1) (.loop (rec (if jump.isNone then .ready else .done) jump))):=fun jump W3 hk3=>by
   have hl3:=(hk3.high (w.heap.size+1) om_ hlt2).trans hl2;have hd3:=(hk3.high w.heap.size (nr_ _) om_).trans hd2
   have:=run_endRound (P:=P) jump hl3
   rw [hrec] at this ⊢
   exact ⟨this,World.putObj_heap_same (Array.getElem?_eq_some_iff.1 hl3).1,(World.putObj_heap_other om_).trans hd3,
    (hk2.trans (hk3.mono om_ (fun _ h=>h))).trans (putObj_keeps om_ (hnx _ om_))⟩
  rintro e a3 W3 hp;cases e with
  |normal=>
   obtain ⟨hk3,hi3⟩:=hp;obtain ⟨hr,hl4,hd4,hk4⟩:=fin none W3 hk3;exact ⟨_,_,hr,.inl ⟨rfl,⟨hI _ _ _ hi3 (putObj_below om_),hl4,hd4⟩,hk4⟩⟩
  |ret=>
   obtain ⟨hk3,hi3⟩:=hp;obtain ⟨hr,hl4,hd4,hk4⟩:=fin (some .ret) W3 hk3;exact ⟨_,_,hr,.inr ⟨rfl,⟨.ret,hIx _ _ _ _ hi3 (putObj_below om_),hl4,hd4⟩,hk4⟩⟩
  |exit id=>
   obtain ⟨hk3,hi3⟩:=hp;obtain ⟨hr,hl4,hd4,hk4⟩:=fin (some (.exit id)) W3 hk3;exact ⟨_,_,hr,.inr ⟨rfl,⟨.exit id,hIx _ _ _ _ hi3 (putObj_below om_),hl4,hd4⟩,hk4⟩⟩
  |goto t=>
   obtain ⟨hk3,hi3⟩:=hp;obtain ⟨hr,hl4,hd4,hk4⟩:=fin (some (.goto t)) W3 hk3;exact ⟨_,_,hr,.inr ⟨rfl,⟨.goto t,hIx _ _ _ _ hi3 (putObj_below om_),hl4,hd4⟩,hk4⟩⟩
  |panic ch=>exact hp.elim
  |outgrown=>exact hp.elim
 ·
  rintro e W2 ⟨⟨v,rfl⟩,(⟨xs,hS,hi,hl,hd⟩|⟨pre,hSp,c,hi,hl,hd⟩)⟩
  ·exact ⟨none,_,by have:=run_endLoop (P:=P) hl (by rw [hrec];simp);rw [hrec] at this;exact this,hdone _ xs _ (nr_ _) hS (hI _ _ _ hi (putObj_below om_)) ((World.putObj_heap_other om_).trans hd)⟩
  ·exact ⟨some c,_,by have:=run_endLoop (P:=P) hl (by rw [hrec];simp);rw [hrec] at this;exact this,hstop _ c pre _ (nr_ _) hSp (hIx c _ _ _ hi (putObj_below om_)) ((World.putObj_heap_other om_).trans hd)⟩
end Go.Proofs.YtlhogkfmdnpmkaaGreat.Range
