import Derived.Test.YtlhogkfmdnpmkaaCFnWholeOrder73
set_option linter.unusedSectionVars false
set_option linter.unusedVariables false
set_option linter.unusedSimpArgs false
set_option maxRecDepth 100000
namespace Go.Proofs.Ytlhogkfmdnpmkaa.Mean
open RowKit GWhole YtlhogkfmdnpmkaaW.PrintWords YtlhogkfmdnpmkaaW.PrintLast YtlhogkfmdnpmkaaW.PrintMore Pack
variable [Prot]
theorem dep_listed {md:Region.Mode} {o:Oper} {l:Array Bool} (h:∀ e ∈ o.after,Region.binds md e=true→l.getD e.on false=true) {n:Nat} (hn:o.after.toList.any (fun e=>e.on == n && Region.binds md e)=true):l.getD n false=true:=by
 obtain ⟨e,he,h2⟩:=List.any_eq_true.1 hn;rw [Bool.and_eq_true,beq_iff_eq] at h2;exact h2.1 ▸ h e (by simpa using he) h2.2
theorem all_listed {md:Region.Mode} {ops:Array Oper} {l:Array Bool} (hd:(List.range ops.size).all (fun i=>(ops[i]?.map (fun o=>o.after.toList.all (fun e=>decide (e.on<i)))).getD true)=true) (hr:Region.ready md ops l=[]):∀ i,i<ops.size→l.getD i true=true:=by
 intro i
 induction i using Nat.strongRecOn with
 |_ i ih=>
  intro hi
  cases hl:l.getD i true with
  |true=>rfl
  |false=>
   have hm:i ∈ Region.ready md ops l:=mem_ready.2 ⟨hl,ops[i],Array.getElem?_eq_getElem hi,fun e he hb=>by
    have h1:=List.all_eq_true.1 hd i (List.mem_range.2 hi);rw [Array.getElem?_eq_getElem hi] at h1;have h2:=od_ (List.all_eq_true.1 h1 e (by simpa using he));have h3:=ih e.on h2 om_
    have hs:e.on<l.size:=by
     rcases Nat.lt_or_ge e.on l.size with h'|h'
     ·exact h'
     ·exfalso
      have h4:l.getD i true=true:=by simp [Array.getD_eq_getD_getElem?,Array.getElem?_eq_none (show l.size≤i by omega)]
      rw [hl] at h4;cases h4
    simp only [Array.getD_eq_getD_getElem?,Array.getElem?_eq_getElem hs,Option.getD_some] at h3 ⊢;exact h3⟩
   rw [hr] at hm;cases hm
theorem size15 {l:Array Bool} (h:l.size=15):∃ b0 b1 b2 b3 b4 b5 b6 b7 b8 b9 b10 b11 b12 b13 b14,l=#[b0,b1,b2,b3,b4,b5,b6,b7,b8,b9,b10,b11,b12,b13,b14]:=by
 obtain ⟨l⟩:=l
 match l,h with
 |[b0,b1,b2,b3,b4,b5,b6,b7,b8,b9,b10,b11,b12,b13,b14],_=>exact ⟨b0,b1,b2,b3,b4,b5,b6,b7,b8,b9,b10,b11,b12,b13,b14,rfl⟩
def cpF (l:Array Bool) (val:Nat→Value):Nat→Option Row
 |0=>some ⟨.slice none 0 0,67,5,0,[]⟩
 |1=>some ⟨val 1,3,1,if l.getD 3 false=true then 3 else 0,if l.getD 3 false=true then ints 3 (fun _=>0) else []⟩
 |2=>some ⟨val 2,3,1,if l.getD 7 false=true then 2 else 0,if l.getD 7 false=true then ints 2 (fun _=>0) else []⟩
 |3=>some ⟨.slice none 0 0,23,1,0,[]⟩
 |4=>some ⟨val 4,95,2,0,[]⟩
 |5=>some ⟨.slice none 0 0,3,0,0,[]⟩
 |6=>some ⟨.slice none 0 0,3,0,0,[]⟩
 |7=>some ⟨val 7,45,1,if l.getD 13 false=true then 5 else 0,if l.getD 13 false=true then [.slice none 0 0,.slice none 0 0,.slice none 0 0,.slice none 0 0,.slice none 0 0] else []⟩
 |_=>none
structure CP (W0 w:World) (l:Array Bool) (val lit:Nat→Value) (x:Nat):Prop where
 rows:Rows w W0.heap.size (fun k=>W0.heap.size≤k) (cpF l val)
 below:Below W0.heap.size W0 w
 box:l.getD 13 false=true→w.heap[x]?=some ZB∧val 7=.slice (some ⟨x,0,none⟩) 5 5
 nobox:l.getD 13 false=false→val 7=.slice none 0 0
 lit1:l.getD 0 false=true→∃ e,lit 1=.slice (some ⟨e,0,none⟩) 0 0
 lit2:l.getD 4 false=true→∃ e,lit 2=.slice (some ⟨e,0,none⟩) 0 0
 is1:l.getD 3 false=false→val 1=if l.getD 0 false=true then lit 1 else .slice none 0 0
 is2:l.getD 7 false=false→val 2=if l.getD 4 false=true then lit 2 else .slice none 0 0
 is4:if l.getD 8 false=true then ∃ e,val 4=.slice (some ⟨e,0,none⟩) 0 0 else val 4=.slice none 0 0
def cpPut (val:Nat→Value) (x:Nat) (w:World):World:=((((w.setCell ⟨x,0,none⟩ (.slice none 0 0)).setCell ⟨x,1,none⟩ (val 1)).setCell ⟨x,2,none⟩ (val 2)).setCell ⟨x,3,none⟩ (.slice none 0 0)).setCell ⟨x,4,none⟩ (val 4)
def cpT (X:Value) (g z:Nat) (c1 c2 c4:Value) (l:Array Bool) (val lit:Nat→Value) (x:Nat):Array Value:=
 #[X,.pointer (some ⟨g,0,none⟩),.pointer (some ⟨z,0,none⟩),if l.getD 13 false=true then .pointer (some ⟨x,0,none⟩) else undef,undef,undef,undef,if l.getD 0 false=true then lit 1 else undef,if l.getD 1 false=true then .pointer (some ⟨g,1,none⟩) else undef,if l.getD 2 false=true then c1 else undef,if l.getD 3 false=true then val 1 else undef,
  if l.getD 4 false=true then lit 2 else undef,if l.getD 5 false=true then .pointer (some ⟨g,2,none⟩) else undef,if l.getD 6 false=true then c2 else undef,if l.getD 7 false=true then val 2 else undef,if l.getD 8 false=true then val 4 else undef,if l.getD 9 false=true then .pointer (some ⟨g,4,none⟩) else undef,if l.getD 10 false=true then c4 else undef,if l.getD 11 false=true then val 4 else undef,
  if l.getD 12 false=true then .agg #[.slice none 0 0,val 1,val 2,.slice none 0 0,val 4] else undef,undef,undef,undef,undef,undef,undef,undef,undef,undef,undef,undef,undef,undef,undef,undef,undef,undef,undef,undef,undef,undef,undef,undef,undef,undef,undef,undef,undef,undef,undef,undef,undef,undef,undef,undef,undef,undef,undef,undef,undef,undef,undef,undef,undef,undef,undef,undef,undef]
def cpJ (ops:Array Oper) (X:Value) (g z:Nat) (c1 c2 c4:Value) (W0:World) (l:Array Bool) (a:Act) (w:World):Prop:=
 l.size=15∧ListedClosed .any ops l∧∃ val lit x,a=⟨cpT X g z c1 c2 c4 l val lit x,[]⟩∧(l.getD 14 false=false→CP W0 w l val lit x)∧(l.getD 14 false=true→∃ w',CP W0 w' l val lit x∧w=cpPut val x w')
theorem CP.start (W0:World):CP W0 W0 #[false,false,false,false,false,false,false,false,false,false,false,false,false,false,false] (fun _=>.slice none 0 0) (fun _=>.slice none 0 0) 0:=by
 refine ⟨⟨fun k r hr=>?_,fun k r hr g hg=>?_,fun k k' r r' _ hr hr' g hg hg'=>?_⟩,Below.refl _ _,(fun h=>by cases h),(fun _=>rfl),(fun h=>by cases h),(fun h=>by cases h),(fun _=>rfl),(fun _=>rfl),rfl⟩
 ·match k with
  |0|1|2|3|4|7=>injection hr with hr;subst hr;exact own_nil _ _ _ _
  |5|6=>injection hr with hr;subst hr;exact q_of_own (own_nil _ _ _ _)
  |k+8=>cases hr
 ·match k with
  |0|1|2|3|4|5|6|7=>injection hr with hr;subst hr;cases hg
  |k+8=>cases hr
 ·match k with
  |0|1|2|3|4|5|6|7=>injection hr with hr;subst hr;cases hg
  |k+8=>cases hr
theorem own_lit (w:World) (base:Nat) (e:TypeId) (size:Nat) (hb:base≤w.heap.size):(w.alloc (.cells #[] e)).ownsRow base e size (.slice (some ⟨w.heap.size,0,none⟩) 0 0) 0 []:=
 ⟨sm_,.inr ⟨w.heap.size,0,#[],rfl,hb,heap_alloc_new w _,nr_ _,de_,sm_,sm_⟩⟩
theorem CP.lit0 {W0 w:World} {b1 b2 b4 b5 b6 b7 b8 b9 b10 b11 b12 b13 b14:Bool} {val lit:Nat→Value} {x:Nat} (h:CP W0 w #[false,b1,b2,false,b4,b5,b6,b7,b8,b9,b10,b11,b12,b13,b14] val lit x):CP W0 (w.alloc (.cells #[] 3)) #[true,b1,b2,false,b4,b5,b6,b7,b8,b9,b10,b11,b12,b13,b14] (upd val 1 (.slice (some ⟨w.heap.size,0,none⟩) 0 0)) (upd lit 1 (.slice (some ⟨w.heap.size,0,none⟩) 0 0)) x:=by
 have hv:val 1=.slice none 0 0:=h.is1 rfl;have hr:=h.rows.set 1 (f':=cpF #[true,b1,b2,false,b4,b5,b6,b7,b8,b9,b10,b11,b12,b13,b14] (upd val 1 (.slice (some ⟨w.heap.size,0,none⟩) 0 0))) (r:=⟨val 1,3,1,0,[]⟩) (r':=⟨.slice (some ⟨w.heap.size,0,none⟩) 0 0,3,1,0,[]⟩) rfl (by rw [hv];exact World.grownBy_alloc w _ none) (own_lit w _ _ _ h.below.size) (.inr (.inr ⟨_,rfl,nr_ _⟩)) (fun k=>by match k with|0|1|2|3|4|5|6|7=>rfl|k+8=>rfl);exact ⟨hr.mono (fun k hk=>hk.elim id (fun hk=>nt_ h.below.size hk)),Xf h.below _,(fun hb=>⟨Zb (h.box hb).1 _,(h.box hb).2⟩),(fun hb=>h.nobox hb),(fun _=>⟨_,rfl⟩),(fun hb=>h.lit2 hb),(fun _=>rfl),(fun hb=>h.is2 hb),h.is4⟩
theorem CP.lit4 {W0 w:World} {b0 b1 b2 b3 b5 b6 b8 b9 b10 b11 b12 b13 b14:Bool} {val lit:Nat→Value} {x:Nat} (h:CP W0 w #[b0,b1,b2,b3,false,b5,b6,false,b8,b9,b10,b11,b12,b13,b14] val lit x):CP W0 (w.alloc (.cells #[] 3)) #[b0,b1,b2,b3,true,b5,b6,false,b8,b9,b10,b11,b12,b13,b14] (upd val 2 (.slice (some ⟨w.heap.size,0,none⟩) 0 0)) (upd lit 2 (.slice (some ⟨w.heap.size,0,none⟩) 0 0)) x:=by
 have hv:val 2=.slice none 0 0:=h.is2 rfl;have hr:=h.rows.set 2 (f':=cpF #[b0,b1,b2,b3,true,b5,b6,false,b8,b9,b10,b11,b12,b13,b14] (upd val 2 (.slice (some ⟨w.heap.size,0,none⟩) 0 0))) (r:=⟨val 2,3,1,0,[]⟩) (r':=⟨.slice (some ⟨w.heap.size,0,none⟩) 0 0,3,1,0,[]⟩) rfl (by rw [hv];exact World.grownBy_alloc w _ none) (own_lit w _ _ _ h.below.size) (.inr (.inr ⟨_,rfl,nr_ _⟩)) (fun k=>by match k with|0|1|2|3|4|5|6|7=>rfl|k+8=>rfl);exact ⟨hr.mono (fun k hk=>hk.elim id (fun hk=>nt_ h.below.size hk)),Xf h.below _,(fun hb=>⟨Zb (h.box hb).1 _,(h.box hb).2⟩),(fun hb=>h.nobox hb),(fun hb=>h.lit1 hb),(fun _=>⟨_,rfl⟩),(fun hb=>h.is1 hb),(fun _=>rfl),h.is4⟩
theorem CP.lit8 {W0 w:World} {b0 b1 b2 b3 b4 b5 b6 b7 b9 b10 b11 b12 b13 b14:Bool} {val lit:Nat→Value} {x:Nat} (h:CP W0 w #[b0,b1,b2,b3,b4,b5,b6,b7,false,b9,b10,b11,b12,b13,b14] val lit x):CP W0 (w.alloc (.cells #[] 95)) #[b0,b1,b2,b3,b4,b5,b6,b7,true,b9,b10,b11,b12,b13,b14] (upd val 4 (.slice (some ⟨w.heap.size,0,none⟩) 0 0)) lit x:=by
 have hv:val 4=.slice none 0 0:=h.is4;have hr:=h.rows.set 4 (f':=cpF #[b0,b1,b2,b3,b4,b5,b6,b7,true,b9,b10,b11,b12,b13,b14] (upd val 4 (.slice (some ⟨w.heap.size,0,none⟩) 0 0))) (r:=⟨val 4,95,2,0,[]⟩) (r':=⟨.slice (some ⟨w.heap.size,0,none⟩) 0 0,95,2,0,[]⟩) rfl (by rw [hv];exact World.grownBy_alloc w _ none) (own_lit w _ _ _ h.below.size) (.inr (.inr ⟨_,rfl,nr_ _⟩)) (fun k=>by match k with|0|1|2|3|4|5|6|7=>rfl|k+8=>rfl);exact ⟨hr.mono (fun k hk=>hk.elim id (fun hk=>nt_ h.below.size hk)),Xf h.below _,(fun hb=>⟨Zb (h.box hb).1 _,(h.box hb).2⟩),(fun hb=>h.nobox hb),(fun hb=>h.lit1 hb),(fun hb=>h.lit2 hb),(fun hb=>h.is1 hb),(fun hb=>h.is2 hb),⟨_,rfl⟩⟩
theorem CP.app3 {W0 w:World} {b1 b2 b4 b5 b6 b7 b8 b9 b10 b11 b12 b13 b14:Bool} {val lit:Nat→Value} {x:Nat} {w1:World} {v:Value} (h:CP W0 w #[true,b1,b2,false,b4,b5,b6,b7,b8,b9,b10,b11,b12,b13,b14] val lit x) (ho:w1.ownsRow W0.heap.size 3 1 v 3 (ints 3 (fun _=>0))) (hb:Below W0.heap.size W0 w1) (hg:w.grownBy w1 (val 1).ownBlock) (hat:v.ownBlock=(val 1).ownBlock∨∃ b,v.ownBlock=some b∧w.heap.size≤b):CP W0 w1 #[true,b1,b2,true,b4,b5,b6,b7,b8,b9,b10,b11,b12,b13,b14] (upd val 1 v) lit x:=by
 have hr:=h.rows.set 1 (f':=cpF #[true,b1,b2,true,b4,b5,b6,b7,b8,b9,b10,b11,b12,b13,b14] (upd val 1 v)) (r:=⟨val 1,3,1,0,[]⟩) (r':=⟨v,3,1,3,ints 3 (fun _=>0)⟩) rfl hg ho (hat.imp id (fun e=>.inr e)) (fun k=>by match k with|0|1|2|3|4|5|6|7=>rfl|k+8=>rfl);refine ⟨hr.mono (fun k hk=>hk.elim id (fun hk=>nt_ h.below.size hk)),hb,(fun hx=>⟨?_,(h.box hx).2⟩),(fun hx=>h.nobox hx),(fun hx=>h.lit1 hx),(fun hx=>h.lit2 hx),(fun hx=>by cases hx),(fun hx=>h.is2 hx),h.is4⟩;have hx1:=h.box hx;refine (hg.block x (Yt hx1.1) (fun e=>?_)).trans hx1.1;exact h.rows.apart 7 1 _ _ de_ rfl rfl x (by show (val 7).ownBlock=_;rw [hx1.2];rfl) e.symm
theorem CP.app7 {W0 w:World} {b0 b1 b2 b3 b5 b6 b8 b9 b10 b11 b12 b13 b14:Bool} {val lit:Nat→Value} {x:Nat} {w1:World} {v:Value} (h:CP W0 w #[b0,b1,b2,b3,true,b5,b6,false,b8,b9,b10,b11,b12,b13,b14] val lit x) (ho:w1.ownsRow W0.heap.size 3 1 v 2 (ints 2 (fun _=>0))) (hb:Below W0.heap.size W0 w1) (hg:w.grownBy w1 (val 2).ownBlock) (hat:v.ownBlock=(val 2).ownBlock∨∃ b,v.ownBlock=some b∧w.heap.size≤b):CP W0 w1 #[b0,b1,b2,b3,true,b5,b6,true,b8,b9,b10,b11,b12,b13,b14] (upd val 2 v) lit x:=by
 have hr:=h.rows.set 2 (f':=cpF #[b0,b1,b2,b3,true,b5,b6,true,b8,b9,b10,b11,b12,b13,b14] (upd val 2 v)) (r:=⟨val 2,3,1,0,[]⟩) (r':=⟨v,3,1,2,ints 2 (fun _=>0)⟩) rfl hg ho (hat.imp id (fun e=>.inr e)) (fun k=>by match k with|0|1|2|3|4|5|6|7=>rfl|k+8=>rfl);refine ⟨hr.mono (fun k hk=>hk.elim id (fun hk=>nt_ h.below.size hk)),hb,(fun hx=>⟨?_,(h.box hx).2⟩),(fun hx=>h.nobox hx),(fun hx=>h.lit1 hx),(fun hx=>h.lit2 hx),(fun hx=>h.is1 hx),(fun hx=>by cases hx),h.is4⟩;have hx1:=h.box hx;refine (hg.block x (Yt hx1.1) (fun e=>?_)).trans hx1.1;exact h.rows.apart 7 2 _ _ de_ rfl rfl x (by show (val 7).ownBlock=_;rw [hx1.2];rfl) e.symm
theorem CP.box13 {W0 w:World} {b0 b1 b2 b3 b4 b5 b6 b7 b8 b9 b10 b11 b12 b14:Bool} {val lit:Nat→Value} {x:Nat} (h:CP W0 w #[b0,b1,b2,b3,b4,b5,b6,b7,b8,b9,b10,b11,b12,false,b14] val lit x):CP W0 (w.alloc ZB) #[b0,b1,b2,b3,b4,b5,b6,b7,b8,b9,b10,b11,b12,true,b14] (upd val 7 (.slice (some ⟨w.heap.size,0,none⟩) 5 5)) lit w.heap.size:=by
 have hv:=h.nobox rfl;have hr:=h.rows.set 7 (f':=cpF #[b0,b1,b2,b3,b4,b5,b6,b7,b8,b9,b10,b11,b12,true,b14] (upd val 7 (.slice (some ⟨w.heap.size,0,none⟩) 5 5))) (r:=⟨val 7,45,1,0,[]⟩) (r':=⟨.slice (some ⟨w.heap.size,0,none⟩) 5 5,45,1,5,[.slice none 0 0,.slice none 0 0,.slice none 0 0,.slice none 0 0,.slice none 0 0]⟩) rfl (by rw [hv];exact World.grownBy_alloc w _ none) (own_blk (Ym w ZB) h.below.size de_ rfl rfl rfl) (.inr (.inr ⟨_,rfl,nr_ _⟩)) (fun k=>by match k with|0|1|2|3|4|5|6|7=>rfl|k+8=>rfl);exact ⟨hr.mono (fun k hk=>hk.elim id (fun hk=>nt_ h.below.size hk)),Xf h.below _,(fun _=>⟨Ym w ZB,rfl⟩),(fun hx=>by cases hx),(fun hx=>h.lit1 hx),(fun hx=>h.lit2 hx),(fun hx=>h.is1 hx),(fun hx=>h.is2 hx),h.is4⟩
def sgF (val:Nat→Value) (j:Nat) (vs:Value) (q:Nat→Value):Nat→Option Row
 |0=>some ⟨.slice none 0 0,67,5,0,[]⟩
 |1=>some ⟨val 1,3,1,3,ints 3 (fun _=>0)⟩
 |2=>some ⟨val 2,3,1,2,ints 2 (fun _=>0)⟩
 |3=>some ⟨vs,23,1,j,(List.range j).map q⟩
 |4=>some ⟨val 4,95,2,0,[]⟩
 |5=>some ⟨q 0,3,0,0,[]⟩
 |6=>some ⟨q 1,3,0,0,[]⟩
 |_=>none
structure SG (W0 w:World) (x:Nat) (val:Nat→Value) (j:Nat) (vs:Value) (q:Nat→Value):Prop where
 rows:Rows w W0.heap.size (fun k=>W0.heap.size≤k∧k≠x) (sgF val j vs q)
 box:w.heap[x]?=some (.cells #[.slice none 0 0,val 1,val 2,vs,val 4] 45 (0,0))
 bx:W0.heap.size≤x
 below:Below W0.heap.size W0 w
 none_:∀ i,j≤i→q i=.slice none 0 0
theorem cpPut_far {val:Nat→Value} {x:Nat} {w:World} {k:Nat} (hk:k≠x):(cpPut val x w).heap[k]?=w.heap[k]?:=by
 unfold cpPut;rw [Below.heap_setCell _ _ _ k hk,Below.heap_setCell _ _ _ k hk,Below.heap_setCell _ _ _ k hk,Below.heap_setCell _ _ _ k hk,Below.heap_setCell _ _ _ k hk]
theorem CP.signs {W0 w:World} {val lit:Nat→Value} {x:Nat} (h:CP W0 w #[true,true,true,true,true,true,true,true,true,true,true,true,true,true,true] val lit x):SG W0 (cpPut val x w) x val 0 (.slice none 0 0) (fun _=>.slice none 0 0):=by
 obtain ⟨hx,hv⟩:=h.box rfl;have hbx:W0.heap.size≤x:=h.rows.ok_ 7 _ rfl x (by show (val 7).ownBlock=_;rw [hv];rfl)
 have key:∀ k r,sgF val 0 (.slice none 0 0) (fun _=>.slice none 0 0) k=some r→k≠7∧cpF #[true,true,true,true,true,true,true,true,true,true,true,true,true,true,true] val k=some r:=fun k r hr=>by
  match k with
  |0|1|2|3|4|5|6=>exact ⟨de_,hr⟩
  |k+7=>cases hr
 have hne:∀ k r,sgF val 0 (.slice none 0 0) (fun _=>.slice none 0 0) k=some r→∀ g,r.v.ownBlock=some g→g≠x:=fun k r hr g hg e=>by
  obtain ⟨h1,h2⟩:=key k r hr;exact h.rows.apart k 7 r _ h1 h2 rfl g hg (by show (val 7).ownBlock=_;rw [hv,e];rfl)
 have hr0:Rows w W0.heap.size (fun k=>W0.heap.size≤k∧k≠x) (sgF val 0 (.slice none 0 0) (fun _=>.slice none 0 0)):=
  ⟨fun k r hr=>h.rows.at_ k r (key k r hr).2,fun k r hr g hg=>⟨h.rows.ok_ k r (key k r hr).2 g hg,hne k r hr g hg⟩,fun k k' r r' hkk hr hr'=>h.rows.apart k k' r r' hkk (key k r hr).2 (key k' r' hr').2⟩
 refine ⟨hr0.step (fun k hk _=>cpPut_far hk.2),?_,hbx,?_,fun _ _=>rfl⟩
 ·exact Yb (Yb (Yb (Yb (Yb hx 0 _) 1 _) 2 _) 3 _) 4 _
 ·exact Below.setCell (p:=⟨x,4,none⟩) (Below.setCell (p:=⟨x,3,none⟩) (Below.setCell (p:=⟨x,2,none⟩) (Below.setCell (p:=⟨x,1,none⟩) (Below.setCell (p:=⟨x,0,none⟩) h.below hbx _) hbx _) hbx _) hbx _) hbx _
theorem SG.next {W0 w w':World} {x:Nat} {val:Nat→Value} {j:Nat} {vs:Value} {q:Nat→Value} (h:SG W0 w x val j vs q) (hb:Below w.heap.size w w'):SG W0 w' x val j vs q:=
 ⟨h.rows.below hb,Xu h.box hb,h.bx,h.below.trans (hb.mono h.below.size),h.none_⟩
def sgQ (q:Nat→Value) (j e:Nat):Nat→Value:=fun i=>if i=j then .slice (some ⟨e,0,none⟩) 0 0 else q i
theorem SG.step {W0 w w1:World} {x:Nat} {val:Nat→Value} {j:Nat} {vs v1:Value} {q:Nat→Value} (h:SG W0 w x val j vs q) (hj:j<2) (ho:w1.ownsRow W0.heap.size 23 1 v1 (j+1) ((List.range j).map q ++ [.slice (some ⟨w.heap.size,0,none⟩) 0 0])) (hb:Below W0.heap.size (w.alloc (.cells #[] 3)) w1) (hg:(w.alloc (.cells #[] 3)).grownBy w1 vs.ownBlock)
  (hat:v1.ownBlock=vs.ownBlock∨∃ b,v1.ownBlock=some b∧(w.alloc (.cells #[] 3)).heap.size≤b):SG W0 (w1.setCell ⟨x,3,none⟩ v1) x val (j+1) v1 (sgQ q j w.heap.size):=by
 have hlx:=Yt h.box;have hs:=h.below.size
 have e1:sgF val j vs q (5+j)=some ⟨q j,3,0,0,[]⟩:=by
  match j,hj with
  |0,_=>rfl
  |1,_=>rfl
 have hq:q j=.slice none 0 0:=h.none_ j (nr_ _);have hsz:(w.alloc (.cells #[] 3)).heap.size=w.heap.size+1:=World.size_alloc _ _;have r1:=h.rows.set (5+j) (f':=fun k=>if k=5+j then some ⟨.slice (some ⟨w.heap.size,0,none⟩) 0 0,3,0,0,[]⟩ else sgF val j vs q k) e1 (by show w.grownBy _ (q j).ownBlock;rw [hq];exact World.grownBy_alloc w _ none) (show Row.At ⟨_,_,0,_,_⟩ _ _ from q_of_own (own_lit w _ _ 1 hs)) (.inr (.inr ⟨_,rfl,nr_ _⟩)) (fun k=>rfl);have r2:=r1.set 3 (r:=⟨vs,23,1,j,(List.range j).map q⟩) (r':=⟨v1,23,1,j+1,(List.range j).map q ++ [.slice (some ⟨w.heap.size,0,none⟩) 0 0]⟩) (f':=sgF val (j+1) v1 (sgQ q j w.heap.size)) (by rw [if_neg om_];rfl) hg ho (hat.imp id (fun e=>.inr e)) (fun k=>?_)
 ·have hne:∀ k,(((W0.heap.size≤k∧k≠x)∨w.heap.size≤k)∨(w.alloc (.cells #[] 3)).heap.size≤k)→W0.heap.size≤k∧k≠x:=fun k hk=>by
   rw [hsz] at hk
   rcases hk with (hk|hk)|hk
   ·exact hk
   ·exact ⟨om_,om_⟩
   ·exact ⟨om_,om_⟩
  have hvx:some x≠vs.ownBlock:=fun e=>(h.rows.ok_ 3 _ rfl x e.symm).2 rfl;have hbx:=(hg.block x (by rw [hsz];omega) hvx).trans (Zb h.box (.cells #[] 3));refine ⟨(r2.mono hne).step (fun k hk _=>Below.heap_setCell _ _ _ k hk.2),Yb hbx 3 v1,h.bx,Below.setCell ((Xf h.below _).trans hb) h.bx _,fun i hi=>?_⟩;unfold sgQ;rw [if_neg om_];exact h.none_ i om_
 ·have hr:(List.range (j+1)).map (sgQ q j w.heap.size)=(List.range j).map q ++ [.slice (some ⟨w.heap.size,0,none⟩) 0 0]:=by
   rw [List.range_succ,List.map_append];congr 1
   ·refine List.map_congr_left (fun i hi=>?_)
    have:=List.mem_range.1 hi
    unfold sgQ;rw [if_neg om_]
   ·simp [sgQ]
  match j,hj with
  |0,_=>
   match k with
   |0|1|2|4|5|6=>rfl
   |3=>show some (Row.mk v1 _ 1 _ ((List.range (0+1)).map (sgQ q 0 w.heap.size)))=_;rw [hr];rfl
   |k+7=>rfl
  |1,_=>
   match k with
   |0|1|2|4|5|6=>rfl
   |3=>show some (Row.mk v1 _ 1 _ ((List.range (1+1)).map (sgQ q 1 w.heap.size)))=_;rw [hr];rfl
   |k+7=>rfl
theorem SG.at_ {W0 w:World} {x:Nat} {val:Nat→Value} {vs:Value} {q:Nat→Value} {O:Nat→Prop} (h:SG W0 w x val 2 vs q) (hO:∀ k,W0.heap.size≤k→O k) (hlow:∀ k o,Prot.low k=some o→(O k∧k≠x)∧k<W0.heap.size∧w.heap[k]?=some o) :
  At w W0.heap.size (fun k=>O k∧k≠x) ⟨.slice none 0 0,val 1,val 2,vs,val 4,fun _=>.slice none 0 0,fun _=>.slice none 0 0,q⟩ s0:=by
 have key:∀ k r,lay ⟨.slice none 0 0,val 1,val 2,vs,val 4,fun _=>.slice none 0 0,fun _=>.slice none 0 0,q⟩ s0 k=some r→sgF val 2 vs q k=some r:=fun k r hr=>by
  match k with
  |0|1|2|3|4|5|6=>exact hr
  |k+7=>cases hr
 have hr:Rows w W0.heap.size (fun k=>O k∧k≠x) (lay ⟨.slice none 0 0,val 1,val 2,vs,val 4,fun _=>.slice none 0 0,fun _=>.slice none 0 0,q⟩ s0):=
  ⟨fun k r hr=>h.rows.at_ k r (key k r hr),fun k r hr g hg=>(fun hk=>⟨hO g hk.1,hk.2⟩) (h.rows.ok_ k r (key k r hr) g hg),fun k k' r r' hkk hr hr'=>h.rows.apart k k' r r' hkk (key k r hr) (key k' r' hr')⟩
 exact ⟨hr,fun i hi=>absurd hi (Nat.not_lt_zero _),hlow⟩
def SH (g x gS j cS:Nat) (v1 v2 vs v4:Value) (Aq:Option Addr) (cq:Nat) (w':World):Prop:=w'.heap[x]?=some (.cells #[.slice none 0 0,v1,v2,vs,v4] 45 (0,0))∧w'.cell? ⟨g,3,none⟩=some (.slice (some ⟨gS,0,none⟩) 2 cS)∧w'.cell? ⟨gS,j,none⟩=some (.slice Aq 0 cq)
theorem openS_rest:∀ (l:List (List T)),(Ya l).cell=(fun _=>0)∧(Ya l).room=(fun _=>0)∧(Ya l).said=[]∧(Ya l).sign=(fun _=>[]):=by
 intro l;unfold Ya
 have:∀ (l:List (List T)) (s:WS),(l.foldl more s).cell=s.cell∧(l.foldl more s).room=s.room∧(l.foldl more s).said=s.said∧(l.foldl more s).sign=s.sign:=by
  intro l
  induction l with
  |nil=>intro s;exact ⟨rfl,rfl,rfl,rfl⟩
  |cons a r ih=>intro s;exact ih (more s a)
 exact this l s0
theorem openS_cell (l:List (List T)):(Ya l).cell=fun _=>0:=(openS_rest l).1
theorem openS_room (l:List (List T)):(Ya l).room=fun _=>0:=(openS_rest l).2.1
theorem openS_said (l:List (List T)):(Ya l).said=[]:=(openS_rest l).2.2.1
theorem ints_src {W:World} {base n:Nat} {v:Value} {m:Nat} (h:W.ownsRow base 3 1 v n (ints n (fun _=>0))):∃ A c,v=.slice A n c∧n≤c∧∀ w,Below W.heap.size W w→Um ((Kd.int .i64).K w) 1 w A n (List.replicate n 0):=by
 obtain ⟨A,c,e,hc,hC⟩:=ints_C h
 have el:Uy n (fun _=>0)=List.replicate n 0:=by unfold Uy;apply List.ext_getElem <;> simp
 rw [el,List.length_replicate] at e hc hC;exact ⟨A,c,e,hc,fun w hb=>Kd.Yr hC hb⟩
theorem own_ints0 {W:World} {base n:Nat} {ok:Nat→Prop} {v:Value} (h:(Kd.int .i64).R 3 W base ok v ([] ++ List.replicate n 0)):W.ownsRow base 3 1 v n (ints n (fun _=>0)):=by
 have:=Kd.own_of_R h
 rw [List.nil_append,List.length_replicate] at this
 have el:(List.range n).map (fun _=>(0:Int))=List.replicate n 0:=by apply List.ext_getElem <;> simp
 unfold ints;rw [el];exact this
structure SP (W:World) (ok:Nat→Prop) (P j:Nat) (l:List T) (Ar:Option Addr) (cr:Nat) (At:Option Addr) (ct:Nat):Prop where
 c0:W.cell? ⟨P,j * 5,none⟩=some (.slice Ar 3 cr)
 c1:W.cell? ⟨P,j * 5+1,none⟩=some (.slice At l.length ct)
 c2:W.cell? ⟨P,j * 5+2,none⟩=some (.int .i64 0)
 c3:W.cell? ⟨P,j * 5+3,none⟩=some (.int .i64 0)
 c4:W.cell? ⟨P,j * 5+4,none⟩=some (.int .i64 (-1))
 lt:P<W.heap.size
 regs:∀ w,Below W.heap.size W w→Um ((Kd.int .i64).K w) 1 w Ar 3 (List.replicate 3 0)
 todo:Kd.F KT W (fun k=>ok k∧k<W.heap.size) At l.length l
theorem SP.get {W:World} {base:Nat} {ok:Nat→Prop} {b:BK} {l0:List (List T)} (h:At W base ok b (Ya l0)) {P cp:Nat} (hv:b.p=.slice (some ⟨P,0,none⟩) (Ya l0).n cp) {j:Nat} (hj:j<l0.length):∃ Ar cr At ct,SP W ok P j l0[j] Ar cr At ct:=by
 have hjn:j<(Ya l0).n:=by rw [openS_n];exact hj
 have HP:=h.Ye om_ hv;have hp:=openS_proc l0 hj;have hr:=h.rows.at_ (j+7) ⟨b.r j,3,1,3,ints 3 ((Ya l0).proc j).regs⟩ (if_pos hjn);rw [hp] at hr;obtain ⟨Ar,cr,er,hc,hs⟩:=ints_src (m:=0) (show W.ownsRow base 3 1 (b.r j) 3 (ints 3 (fun _=>0)) from hr);have ht:=h.tree j hjn;rw [hp] at ht;obtain ⟨At,ct,et⟩:=Kd.V_slice ht;have e0:=HP.cell j 0 hjn om_;have e1:=HP.cell j 1 hjn om_;have e2:=HP.cell j 2 hjn om_;have e3:=HP.cell j 3 hjn om_;have e4:=HP.cell j 4 hjn om_;simp only [Yp,hp,er,et] at e0 e1 e2 e3 e4;rw [et] at ht;exact ⟨Ar,cr,At,ct,e0,e1,e2,e3,e4,HP.lt,hs,Kd.F_mono (Kd.F_bound (Kd.V_F ht)) (fun k hk=>⟨hk.1.1,hk.2⟩)⟩
set_option maxHeartbeats 8000000 in
theorem rcopy_do (W:World) (base:Nat) (ok:Nat→Prop) (b:BK) (l0:List (List T)) (h:At W base ok b (Ya l0)) (hup:∀ k,W.heap.size≤k→ok k) (hn:0<l0.length) (hn2:l0.length≤1000) (hlen:∀ l ∈ l0,l.length≤1000000) :
  Calls Try.prog 71 #[RV b] W fun e w'=>∃ b',e=.returned (RV b')∧At w' W.heap.size ok b' (Ya l0)∧Below W.heap.size W w':=by
 obtain ⟨Ac,cc,ec,hcc,hsc⟩:=ints_src (m:=0) (show W.ownsRow base 3 1 b.c 3 (ints 3 (fun _=>0)) from by have:=h.rows.at_ 1 _ rfl;rw [openS_cell] at this;exact this);obtain ⟨Am,cm,em,hcm,hsm⟩:=ints_src (m:=0) (show W.ownsRow base 3 1 b.m 2 (ints 2 (fun _=>0)) from by have:=h.rows.at_ 2 _ rfl;rw [openS_room] at this;exact this)
 obtain ⟨Ad,cd,ed⟩:∃ A c,b.d=.slice A 0 c:=by
  have:=h.rows.at_ 4 _ rfl
  rw [openS_said] at this;exact Yn this
 have HA:=Xa.mk h;have HUP:=Xa.mk hup;have HN:=Xa.mk hn;have aN:=Xa.mk hn2;have HLEN:=Xa.mk hlen;have HSC:=Xa.mk hsc;have HSM:=Xa.mk hsm;obtain ⟨bp,bc,bm,bg,bd,br,bt,bq⟩:=b;obtain rfl:bc=.slice Ac 3 cc:=ec;obtain rfl:bm=.slice Am 2 cm:=em;obtain rfl:bd=.slice Ad 0 cd:=ed;have hb1:=Xf (Below.refl W.heap.size W) (.cells #[bp,.slice Ac 3 cc,.slice Am 2 cm,bg,.slice Ad 0 cd] 45);have hg1:=Ym W (.cells #[bp,.slice Ac 3 cc,.slice Am 2 cm,bg,.slice Ad 0 cd] 45);obtain ⟨WB,hWB⟩:∃ WB,WB=W.alloc (.cells #[bp,.slice Ac 3 cc,.slice Am 2 cm,bg,.slice Ad 0 cd] 45):=⟨_,rfl⟩
 have hsz:WB.heap.size=W.heap.size+1:=by rw [hWB];exact World.size_alloc _ _
 rw [← hWB] at hb1 hg1;have hb2:=Xf (Below.refl WB.heap.size WB) ZB;have hz1:=Ym WB ZB;clear h hup hn hn2 hlen hsc hsm;go_enter Try.func71,Try.ntmps71;go_upto_region 1 with (fail);rw [← hWB];have hB0:Below W.heap.size W (WB.alloc ZB):=hb1.trans (hb2.mono hb1.size);have hG0:=Xu hg1 hb2
 have hs0:(WB.alloc ZB).heap.size=W.heap.size+2:=by rw [World.size_alloc,hsz]
 rw [hsz] at hz1;clear hb1 hb2 hg1 hsz hWB;generalize WB.alloc ZB=W0 at *;clear WB;have HB0:=Xa.mk (hB0.trans ((Xm (Below.refl W0.heap.size W0)).mono hB0.size));have aA:=Xa.mk (Yy hG0);have HZ0:=Xa.mk (Yy hz1);have aC:Xa (W0.drew.heap.size=W.heap.size+2):=⟨hs0⟩;refine start_inv2 (J:=fun ops=>cpJ ops (.agg #[bp,.slice Ac 3 cc,.slice Am 2 cm,bg,.slice Ad 0 cd]) W.heap.size (W.heap.size+1) (.slice Ac 3 cc) (.slice Am 2 cm) (.slice Ad 0 cd) W0.drew) #[false,false,false,false,false,false,false,false,false,false,false,false,false,false,false] kr_ rl1_ rl1_ ?_ ?_ ?_
 ·exact ⟨rfl,Region.closedB_spec kr_,fun _=>.slice none 0 0,fun _=>.slice none 0 0,0,rfl,(fun _=>CP.start _),(fun h=>by cases h)⟩
 ·intro l a w' hJ hr;obtain ⟨aG,hcl,val,lit,x,rfl,h6,h6'⟩:=hJ;obtain ⟨b0,b1,b2,b3,b4,b5,b6,b7,b8,b9,b10,b11,b12,b13,b14,rfl⟩:=size15 aG;have hall:=all_listed kr_ hr;clear hr hcl;obtain rfl:b0=true:=hall 0 de_;obtain rfl:b1=true:=hall 1 de_;obtain rfl:b2=true:=hall 2 de_;obtain rfl:b3=true:=hall 3 de_;obtain rfl:b4=true:=hall 4 de_;obtain rfl:b5=true:=hall 5 de_;obtain rfl:b6=true:=hall 6 de_;obtain rfl:b7=true:=hall 7 de_;obtain rfl:b8=true:=hall 8 de_;obtain rfl:b9=true:=hall 9 de_;obtain rfl:b10=true:=hall 10 de_;obtain rfl:b11=true:=hall 11 de_;obtain rfl:b12=true:=hall 12 de_;obtain rfl:b13=true:=hall 13 de_;obtain rfl:b14=true:=hall 14 de_;clear hall h6;obtain ⟨w1,hC,rfl⟩:=h6' rfl;clear h6';have HSG:=Xa.mk hC.signs;clear hC aG;simp only [cpT];generalize cpPut val x w1=w3 at *;change Exit.then _ _ _ ⟨#[.agg #[bp,.slice Ac 3 cc,.slice Am 2 cm,bg,.slice Ad 0 cd],.pointer (some ⟨W.heap.size,0,none⟩),.pointer (some ⟨W.heap.size+1,0,none⟩),.pointer (some ⟨x,0,none⟩),undef,undef,undef,lit 1,.pointer (some ⟨W.heap.size,1,none⟩),.slice Ac 3 cc,val 1,lit 2,.pointer (some ⟨W.heap.size,2,none⟩),.slice Am 2 cm,val 2,val 4,.pointer (some ⟨W.heap.size,4,none⟩),.slice Ad 0 cd,val 4,.agg #[.slice none 0 0,val 1,val 2,.slice none 0 0,val 4],undef,undef,undef,undef,undef,undef,undef,undef,undef,undef,undef,undef,undef,undef,undef,undef,undef,undef,undef,undef,undef,undef,undef,undef,undef,undef,undef,undef,undef,undef,undef,undef,undef,undef,undef,undef,undef,undef,undef,undef,undef,undef,undef,undef,undef,undef,undef,undef],[]⟩ w3;generalize lit 1=lv1;generalize lit 2=lv2;clear lit w1;obtain ⟨gS,cS,eS,hgS,hcS,_⟩:=HA.out.signs;obtain rfl:bg=.slice (some ⟨gS,0,none⟩) 2 cS:=eS;have HGS:=Xa.mk hgS;have HCS:=Xa.mk hcS;clear hgS hcS hz1 hB0 hG0 hs0;generalize W0.drew=aB at *;go_wp2
  go_loopg [4] 2 (fun kq v4 w'=>∃ (j:Nat) (vs:Value) (q:Nat→Value),v4=.int .i64 (j:Int)∧Xa (kq+j=2)∧Xa (SG aB w' x val j vs q))
  case atStart=>exact ⟨0,_,_,rfl,⟨rfl⟩,HSG⟩
  case round=>
   clear HSG;obtain ⟨j,vs,q,rfl,HK,HSG⟩:=hrel
   cases gk with
   |succ k1=>
    have hj:j<2:=by have:=HK.out;omega
    have HJ:=Xa.mk hj;have t1:decide ((j:Int)<2)=true:=dt_ om_;have t2:decide (j<2)=true:=dt_ hj;have p0:=eq_true (show 0≤(j:Int) by omega);have q0:=eq_true (show (j:Int)<2 by omega)
    have hw2:wrap64 ((j:Int)+1)=(j:Int)+1:=by unfold wrap64;omega
    obtain ⟨Aq,cq,eq,_⟩:=q_slice (HA.out.queue hj);have HBX:=Xa.mk (HB0.out.trans (HSG.out.below.mono HB0.out.size));have hgb:=(HSG.out.below.block W.heap.size (Yt aA.out)).trans aA.out;have hg3:wr.cell? ⟨W.heap.size,3,none⟩=some (.slice (some ⟨gS,0,none⟩) 2 cS):=(Xh hgb 3).trans rfl
    have hq3:wr.cell? ⟨gS,j,none⟩=some (.slice Aq 0 cq):=by
     have eq':bq j=.slice Aq ((Ya l0).sign j).length cq:=eq;rw [HBX.out.cell (show gS<_ from HGS.out),HCS.out j hj,eq',show ((Ya l0).sign j).length=0 from by rw [(openS_rest l0).2.2.2];rfl]
    have HSH:Xa (SH W.heap.size x gS j cS (val 1) (val 2) vs (val 4) Aq cq wr.drew):=⟨⟨Yy HSG.out.box,hg3,hq3⟩⟩;replace HSG:=Xa.mk (HSG.out.next (Xm (Below.refl _ _)));clear hgb hq3 hj eq HBX;go_upto_region 5 with (fail);clear hg3;refine start_ (n:=13) (S:=SH W.heap.size x gS j cS (val 1) (val 2) vs (val 4) Aq cq) (ds:=[12]) #[false,false,false,false,false,false,false,false,false,false,false,false,false] kr_ rfl rl1_ HSH.out (fun hHeld=>?_);generalize wr.drew=aH at *;have HSB:Xa (∀ W2,Below aH.heap.size aH W2→SH W.heap.size x gS j cS (val 1) (val 2) vs (val 4) Aq cq W2):=⟨fun W2 hb=>⟨Xu HSH.out.1 hb,Xd hb HSH.out.2.1,Xd hb HSH.out.2.2⟩⟩;refine pu_' 0 (some 27) ?_;refine pu_' 3 (some 30) ?_;refine pu_' 5 (some 32) ?_;refine tk_' 1 (some 28) rfl hHeld (by rintro w' s0;have c0:=(Xh s0.1 3).trans rfl;have c1:=s0.2.1;have c2:=s0.2.2;clear s0;go_simp;with_reducible rfl) ?_;refine tk_' 4 (some 31) rfl hHeld (by rintro w' s0;have c0:=(Xh s0.1 3).trans rfl;have c1:=s0.2.1;have c2:=s0.2.2;clear s0;go_simp;with_reducible rfl) ?_;refine pu_' 6 (some 33) ?_;refine tk_' 7 (some 34) rfl hHeld (by rintro w' s0;have c0:=(Xh s0.1 3).trans rfl;have c1:=s0.2.1;have c2:=s0.2.2;clear s0;go_simp;with_reducible rfl) ?_;refine re_' 2 (some 29) fun K hK=>?_;obtain ⟨e0,he0⟩:∃ e0,e0=aH.heap.size:=⟨_,rfl⟩;obtain ⟨wE,hwE⟩:∃ wE,wE=aH.alloc (.cells #[] 3):=⟨_,rfl⟩;refine Zm (v:=.slice (some ⟨e0,0,none⟩) 0 0) (w1:=wE) rfl (by rw [he0,hwE];first|(go_simp;done)|(go_simp;exact ⟨rfl,rfl⟩)|(go_simp;rfl)) ?_;have HEE:=Xa.mk he0;have HWE:=Xa.mk hwE;have HBE:Xa (Below aH.heap.size aH wE):=⟨by rw [hwE];exact Xf (Below.refl _ _) _⟩;clear he0 hwE;refine hK.out _ _ (HSB.out _ HBE.out) (fun hHeld=>?_);clear hK K;refine no_ ?_;refine re_' 8 (some 35) fun K hK=>?_;refine Zm (v:=.slice (some ⟨e0,0,none⟩) 0 0) (w1:=wE) rfl (by cases Aq <;> first|(go_simp;done)|(go_simp;exact ⟨rfl,rfl⟩)|(go_simp;rfl)) ?_;refine hK.out _ _ (HSB.out _ HBE.out) (fun hHeld=>?_);clear hK K;refine no_ ?_;refine re_' 9 (some 36) fun K hK=>?_;have HBP:Xa (Below aH.heap.size aH (wE.alloc (.cells #[.slice (some ⟨e0,0,none⟩) 0 0] 23))):=⟨HBE.out.trans ((Xf (Below.refl wE.heap.size wE) _).mono HBE.out.size)⟩;refine Zm (v:=.slice (some ⟨wE.heap.size,0,none⟩) 1 1) (w1:=wE.alloc (.cells #[.slice (some ⟨e0,0,none⟩) 0 0] 23)) rfl (by first|(go_simp;done)|(go_simp;exact ⟨rfl,rfl⟩)|(go_simp;rfl)) ?_;refine hK.out _ _ (HSB.out _ HBP.out) (fun hHeld=>?_);clear hK K;refine no_ ?_;refine re_' 10 (some 37) fun K hK=>?_;have HQ:=Xa.mk (show wE.ownsRow aB.heap.size 23 1 vs j ((List.range j).map q) from own_move (HSG.out.rows.at_ 3 _ rfl) (fun k hk=>HBE.out.block k (own_lt (HSG.out.rows.at_ 3 _ rfl) k hk)));have HWS:Xa (aB.heap.size≤wE.heap.size):=⟨nt_ HSG.out.below.size HBE.out.size⟩;refine step_append_cells (w0:=wE) aB.heap.size rfl (.tmp 28) (.tmp 36) 42 23 (.slice none 0 0) 1 24 rfl Try.underlying42 inInts rfl de_ de_ vs j ((List.range j).map q) [.slice (some ⟨e0,0,none⟩) 0 0] rfl rl1_ rfl (by simp [Value.oneCell']) HQ.out (Below.refl _ _) HWS.out (by have:=HJ.out;omega) ?_;intro v1 w1 hq1 hb1 hg1 aD;obtain ⟨A1,c1,aU⟩:=Yn hq1;subst aU;have aO:=Xa.mk hq1;have HB1:=Xa.mk hb1;have aL:=Xa.mk hg1;have HAT:=Xa.mk aD;clear hq1 hb1 hg1 aD;have HVX:Xa (some x≠vs.ownBlock):=⟨fun e=>(HSG.out.rows.ok_ 3 _ rfl x e.symm).2 rfl⟩;have HSE:=HSB.out _ HBE.out;have aJ:SH W.heap.size x gS j cS (val 1) (val 2) vs (val 4) Aq cq w1:=⟨(aL.out.block x (Yt HSE.1) HVX.out).trans HSE.1,(HB1.out.cell (by have:=aC.out;show W.heap.size<_;omega)).trans HSE.2.1,(HB1.out.cell (by have:=aC.out;have:=HGS.out;show gS<_;omega)).trans HSE.2.2⟩;have hx1:w1.cell? ⟨x,3,none⟩=some vs:=(Xh aJ.1 3).trans rfl;have hf1:=Xc aJ.1 3;refine hK.out _ _ aJ (fun hHeld=>?_);clear hK K;refine no_ ?_;refine pu_' 11 (some 38) ?_;refine rl_' 12 none fun K hK=>?_;refine skip_ (w1:=w1.setCell ⟨x,3,none⟩ (.slice A1 (j+1) c1)) rfl rfl ?_ ?_
    ·first|(go_simp;done)|(go_simp;rfl)
    refine hK.out _ _ ?_;clear hK K;refine done_ kr_ ?_;have FIN:=Xa.mk ((by have e:=HEE.out;subst e;have e:=HWE.out;subst e;exact HSG.out.step HJ.out aO.out HB1.out aL.out HAT.out:SG aB (w1.setCell ⟨x,3,none⟩ (.slice A1 (j+1) c1)) x val (j+1) (.slice A1 (j+1) c1) (sgQ q j e0)));clear HEE HWE HBE HBP HQ HWS aO HB1 aL HAT HVX HSE aJ hx1 hf1 HSB HSG HSH;generalize w1.setCell ⟨x,3,none⟩ (.slice A1 (j+1) c1)=w4 at *;go_wp2;go_roundg k1
    case measure=>omega
    case rel=>exact ⟨j+1,.slice A1 (j+1) c1,sgQ q j e0,(by first|rfl|(simp;exact hw2)),⟨by have:=HK.out;omega⟩,FIN⟩
   |zero=>
    have hj:j=2:=by have:=HK.out;omega
    subst hj;clear HK
    obtain ⟨P,cp,HPv⟩:∃ P cp,bp=.slice (some ⟨P,0,none⟩) (Ya l0).n cp:=by
     obtain ⟨P,cp,H⟩:=HA.out.procs (by rw [openS_n];exact HN.out);exact ⟨P,cp,H.v_⟩
    subst HPv;have hsrc:=fun (j:Nat) (hj:j<l0.length)=>SP.get HA.out rfl hj;have hz3:=(HSG.out.below.block (W.heap.size+1) (Yt HZ0.out)).trans HZ0.out
    have hat:=HSG.out.at_ (O:=fun k=>ok k∧k≠W.heap.size+1) (fun k hk=>⟨HUP.out k (by have:=aC.out;omega),by have:=aC.out;omega⟩) (fun k o ho=>by
     obtain ⟨h1,h2,h3⟩:=HA.out.low k o ho;have hk:=(Array.getElem?_eq_some_iff.1 h3).1;have h4:=aC.out;have h5:=HSG.out.bx;exact ⟨⟨⟨h1,om_⟩,om_⟩,om_,(HSG.out.below.block k om_).trans ((HB0.out.block k hk).trans h3)⟩)
    have HAT:Xa (At wr aB.heap.size (fun k=>ok k∧k≠W.heap.size+1∧k≠x) ⟨.slice none 0 0,val 1,val 2,vs,val 4,fun _=>.slice none 0 0,fun _=>.slice none 0 0,q⟩ s0):=⟨hat.mono (fun k hk=>⟨hk.1.1,hk.1.2,hk.2⟩)⟩;have HWX:Xa (Wb wr x ⟨.slice none 0 0,val 1,val 2,vs,val 4,fun _=>.slice none 0 0,fun _=>.slice none 0 0,q⟩):=⟨HSG.out.box⟩;have HZX:=Xa.mk hz3;have HBX:=Xa.mk HSG.out.below;have HXX:=Xa.mk HSG.out.bx;have HSRC:=Lib.hid hsrc;have hng:=(HSG.out.below.block W.heap.size (Yt aA.out)).trans aA.out;clear hat hz3 HSG hsrc hng;generalize (⟨.slice none 0 0,val 1,val 2,vs,val 4,fun _=>.slice none 0 0,fun _=>.slice none 0 0,q⟩:BK)=b0 at *;have gg:wr.cell? ⟨W.heap.size,3,none⟩=some (.slice (some ⟨gS,0,none⟩) 2 cS):=(Xh ((HBX.out.block W.heap.size (Yt aA.out)).trans aA.out) 3).trans rfl;go_wp2;clear gg
    go_loopg [5] l0.length (fun kq v5 w'=>∃ (j:Nat) (b:BK) (s:WS),v5=.int .i64 (j:Int)∧Xa (kq+j=l0.length)∧Xa (s=Ya (l0.take j))∧Xa (At w' aB.heap.size (fun k=>ok k∧k≠W.heap.size+1∧k≠x) b s)∧Xa (Wb w' x b)∧Xa (w'.heap[W.heap.size+1]?=some ZB)∧Xa (Below aB.heap.size aB w'))
    case atStart=>exact ⟨0,b0,s0,rfl,⟨sm_⟩,⟨rfl⟩,HAT,HWX,HZX,HBX⟩
    case round=>
     clear HAT HWX HZX HBX;obtain ⟨j,b,s,rfl,HK,HST,HAT,HWX,HZX,HBX⟩:=hrel;have hgb:=(HBX.out.block W.heap.size (Yt aA.out)).trans aA.out;have g0:wr.cell? ⟨W.heap.size,0,none⟩=some (.slice (some ⟨P,0,none⟩) l0.length cp):=(Xh hgb 0).trans (by rw [openS_n];rfl);clear hgb
     cases gk with
     |succ k1=>
      have hj:j<l0.length:=by have:=HK.out;omega
      have HJ:=Xa.mk hj;have hl2:=aN.out;have t1:decide ((j:Int)<(l0.length:Int))=true:=dt_ om_;have t2:decide (j<l0.length)=true:=dt_ hj;have p0:=eq_true (show 0≤(j:Int) by omega);have q0:=eq_true (show (j:Int)<(l0.length:Int) by omega)
      have hw2:wrap64 ((j:Int)+1)=(j:Int)+1:=by unfold wrap64;omega
      obtain ⟨Ar,cr,At,ct,hsp⟩:=HSRC.out j hj;obtain ⟨l,hl⟩:∃ l,l=l0[j]:=⟨_,rfl⟩;rw [← hl] at hsp;have HLL:Xa (l.length≤1000000):=⟨by rw [hl];exact HLEN.out _ (List.getElem_mem hj)⟩;have HSN:Xa (more s l=Ya (l0.take (j+1))):=⟨by rw [HST.out,List.take_succ_eq_append_getElem hj,openS_snoc,hl]⟩;have HSP:=Xa.mk hsp;have HBW:Xa (Below W.heap.size W wr):=⟨HB0.out.trans (HBX.out.mono HB0.out.size)⟩;have x0:=(HBW.out.cell (show P<_ from hsp.lt)).trans hsp.c0;have x1:=(HBW.out.cell (show P<_ from hsp.lt)).trans hsp.c1;have x2:=(HBW.out.cell (show P<_ from hsp.lt)).trans hsp.c2;have x3:=(HBW.out.cell (show P<_ from hsp.lt)).trans hsp.c3;have x4:=(HBW.out.cell (show P<_ from hsp.lt)).trans hsp.c4;clear hsp hl hj hl2;go_upto_region 10 with (fail);have HXB:Xa ((wr.alloc (.cells #[.slice Ar 3 cr,.slice At l.length ct,.int .i64 0,.int .i64 0,.int .i64 (-1)] 67)).heap[wr.heap.size]?=some (.cells #[.slice Ar 3 cr,.slice At l.length ct,.int .i64 0,.int .i64 0,.int .i64 (-1)] 67)):=⟨Ym wr _⟩;have HWB:=Xa.mk (Xf (Below.refl wr.heap.size wr) (.cells #[.slice Ar 3 cr,.slice At l.length ct,.int .i64 0,.int .i64 0,.int .i64 (-1)] 67));have HSB:Xa ((wr.alloc (.cells #[.slice Ar 3 cr,.slice At l.length ct,.int .i64 0,.int .i64 0,.int .i64 (-1)] 67)).heap.size=wr.heap.size+1):=⟨World.size_alloc _ _⟩;clear x0 x1 x2 x3 x4 g0;generalize wr.alloc (.cells #[.slice Ar 3 cr,.slice At l.length ct,.int .i64 0,.int .i64 0,.int .i64 (-1)] 67)=wB at *;have b0:∀ o,(wB.alloc o).cell? ⟨wr.heap.size,0,none⟩=some (.slice Ar 3 cr):=fun o=>(Xh (Zb HXB.out o) 0).trans rfl;go_upto_region 11 with (first|((with_reducible refine Zl (b:=.append) (xs:=#[.tmp 51,.tmp 53]) rfl ?_);at_builtin;go_must (refine Kd.R_append_rows (Kd.int .i64) (w0:=wB.alloc (.cells #[] 3)) wB.heap.size rfl (.tmp 51) (.tmp 53) 23 3 (.int .i64 0) 8 rfl Try.underlying23 info3 rfl de_ de_ (.slice (some ⟨wB.heap.size,0,none⟩) 0 0) [] (List.replicate 3 0) Ar 3 cr (fun _=>True) (fun _=>False) rl1_ rl1_ (Kd.R_of_own (own_lit wB wB.heap.size 3 1 (nr_ _)) (fun _ _=>trivial)) (HSP.out.regs _ (HBW.out.trans ((Xf HWB.out _).mono HBW.out.size))) (fun _ _ h=>h) (fun _ hk=>hk.elim) (fun _ _=>trivial) (Below.refl _ _) (Xf (Below.refl _ _) _).size sm_ ?_;intro v1 w1 hr hb hg hat;have hown:=own_ints0 hr;obtain ⟨Ax,cx,ex⟩:=Yn hown;subst ex;have HR1:=Xa.mk hown;have HW1:Xa (Below wB.heap.size wB w1):=⟨(Xf (Below.refl wB.heap.size wB) (.cells #[] 3)).trans hb⟩;have bk:=(HW1.out.block wr.heap.size (Yt HXB.out)).trans HXB.out;have y0:=(Xh bk 0).trans rfl;have z0:=Xc bk 0;clear hr hb hg hat hown bk b0)));have HXC:Xa ((w1.setCell ⟨wr.heap.size,0,none⟩ (.slice Ax 3 cx)).heap[wr.heap.size]?=some (.cells #[.slice Ax 3 cx,.slice At l.length ct,.int .i64 0,.int .i64 0,.int .i64 (-1)] 67 (0,0))):=⟨Yb ((HW1.out.block wr.heap.size (Yt HXB.out)).trans HXB.out) 0 _⟩;have HRC:Xa ((w1.setCell ⟨wr.heap.size,0,none⟩ (.slice Ax 3 cx)).ownsRow wB.heap.size 3 1 (.slice Ax 3 cx) 3 (ints 3 (fun _=>0))):=⟨own_move HR1.out (fun k hk=>Below.heap_setCell _ _ _ k (fun e=>by have h1:=Uj HR1.out k hk;have h2:=HSB.out;have e':k=wr.heap.size:=e;omega))⟩;have HWC:Xa (Below wr.heap.size wr (w1.setCell ⟨wr.heap.size,0,none⟩ (.slice Ax 3 cx))):=⟨Below.setCell (HWB.out.trans (HW1.out.mono HWB.out.size)) (nr_ _) _⟩;have aF:Xa (wr.heap.size<(w1.setCell ⟨wr.heap.size,0,none⟩ (.slice Ax 3 cx)).heap.size):=⟨Yt HXC.out⟩;clear y0 z0 HXB HWB HR1 HW1;generalize w1.setCell ⟨wr.heap.size,0,none⟩ (.slice Ax 3 cx)=wC at *;have b1:∀ o,(wC.alloc o).cell? ⟨wr.heap.size,1,none⟩=some (.slice At l.length ct):=fun o=>(Xh (Zb HXC.out o) 1).trans rfl;go_upto_region 12 with (first|((with_reducible refine Zl (b:=.append) (xs:=#[.tmp 56,.tmp 58]) rfl ?_);at_builtin;go_must (refine Kd.Un KT (w0:=wC.alloc (.cells #[] 69)) wC.heap.size rfl (.tmp 56) (.tmp 58) 50 69 ZT 80 rfl Try.underlying50 info69 rfl de_ de_ (.slice (some ⟨wC.heap.size,0,none⟩) 0 0) [] l At l.length ct (fun k=>(ok k∧k<W.heap.size)∨wC.heap.size≤k) (fun k=>ok k∧k<W.heap.size) rl1_ rl1_ (N_empty2 (Ym wC _) (nr_ _) (.inr (nr_ _))) (Kd.F_below HSP.out.todo (HBW.out.trans ((Xf HWC.out _).mono HBW.out.size))) (fun k hk=>⟨.inl hk,fun e=>by injection e with e;have e1:k=wC.heap.size:=e;have h1:=HWC.out.size;have h2:=HBW.out.size;have h3:=hk.2;omega⟩) (fun k hk=>.inr (nt_ (Xf (Below.refl _ _) _).size hk)) (Below.refl _ _) (Xf (Below.refl _ _) _).size (by have:=HLL.out;simp only [List.length_nil];omega) ?_;intro v1 w1 hna hb hg hat;rw [List.nil_append] at hna;obtain ⟨Ay,cy,ey⟩:=Kd.Zk hna;subst ey;have aM:=Xa.mk hna;have HW1:Xa (Below wC.heap.size wC w1):=⟨(Xf (Below.refl wC.heap.size wC) (.cells #[] 69)).trans hb⟩;have bk:=(HW1.out.block wr.heap.size aF.out).trans HXC.out;have y1:=(Xh bk 1).trans rfl;have z1:=Xc bk 1;clear hna hb hg hat bk b1)));have HXD:Xa ((w1.setCell ⟨wr.heap.size,1,none⟩ (.slice Ay l.length cy)).heap[wr.heap.size]?=some (.cells #[.slice Ax 3 cx,.slice Ay l.length cy,.int .i64 0,.int .i64 0,.int .i64 (-1)] 67 (0,0))):=⟨Yb ((HW1.out.block wr.heap.size aF.out).trans HXC.out) 1 _⟩;have HRD:Xa ((w1.setCell ⟨wr.heap.size,1,none⟩ (.slice Ay l.length cy)).ownsRow wB.heap.size 3 1 (.slice Ax 3 cx) 3 (ints 3 (fun _=>0))):=⟨own_move HRC.out (fun k hk=>(Below.heap_setCell _ _ _ k (fun e=>by have h1:=Uj HRC.out k hk;have h2:=HSB.out;have e':k=wr.heap.size:=e;omega)).trans (HW1.out.block k (own_lt HRC.out k hk)))⟩;have HWD:Xa (Below wr.heap.size wr (w1.setCell ⟨wr.heap.size,1,none⟩ (.slice Ay l.length cy))):=⟨Below.setCell (HWC.out.trans (HW1.out.mono HWC.out.size)) (nr_ _) _⟩
      have HTD:Xa (Kd.V KT 69 (w1.setCell ⟨wr.heap.size,1,none⟩ (.slice Ay l.length cy)) aB.heap.size (fun k=>(wr.heap.size≤k∧k<(w1.setCell ⟨wr.heap.size,1,none⟩ (.slice Ay l.length cy)).heap.size∧some k≠(Value.slice Ax 3 cx).ownBlock)∨((ok k∧k≠W.heap.size+1∧k≠x)∧k<aB.heap.size)) (.slice Ay l.length cy) l):=⟨by
       have h1:=HWC.out.size;have h2:=HBW.out.size;have h3:=aF.out;have h4:=aC.out;have h5:=HXX.out;refine Kd.Yx (Kd.V_bound (Kd.V_far (p:=⟨wr.heap.size,1,none⟩) (Kd.N_V (base':=aB.heap.size) aM.out) (fun k hk=>by show k≠wr.heap.size;rcases hk with hk|hk <;> omega) _)) (fun k hk=>?_);rcases hk with ⟨hk|hk,hlt⟩
       ·exact .inr ⟨⟨hk.1,om_,om_⟩,om_⟩
       ·exact .inl ⟨om_,hlt,fun e=>by have:=own_lt HRC.out k e.symm;omega⟩⟩
      clear y1 z1 HXC HRC HWC aM HW1 aF;generalize w1.setCell ⟨wr.heap.size,1,none⟩ (.slice Ay l.length cy)=wD at *;have HWXD:=Xa.mk (Xu HWX.out HWD.out);have HPX:Xa (some x≠b.p.ownBlock):=⟨fun e=>(HAT.out.rows.ok_ 0 _ rfl x e.symm).2.2 rfl⟩;have HNJ:Xa (s.n=j):=⟨by rw [HST.out,openS_n,List.length_take];have:=HJ.out;omega⟩;have HQ:=Xa.mk ((HAT.out.below HWD.out).rows.at_ 0 _ rfl);have HZD:Xa (aB.heap.size≤wD.heap.size):=⟨nt_ HBX.out.size HWD.out.size⟩;have c0:wD.cell? ⟨x,0,none⟩=some b.p:=(Xh HWXD.out 0).trans rfl;have d0:=(Xh HXD.out 0).trans rfl;have d1:=(Xh HXD.out 1).trans rfl;have d2:=(Xh HXD.out 2).trans rfl;have d3:=(Xh HXD.out 3).trans rfl;have d4:=(Xh HXD.out 4).trans rfl;go_upto_region 8 with (first|((with_reducible refine Zl (b:=.append) (xs:=#[.tmp 62,.tmp 64]) rfl ?_);at_builtin;go_must (refine print_append_cells (w0:=wD) aB.heap.size rfl (.tmp 62) (.tmp 64) 41 67 (.agg #[(.slice none 0 0),(.slice none 0 0),(.int .i64 0),(.int .i64 0),(.int .i64 0)]) 5 72 rfl Try.underlying41 inProc rfl de_ de_ b.p s.n (cellsOf 5 s.n (Yp b s)) [.slice Ax 3 cx,.slice Ay l.length cy,.int .i64 0,.int .i64 0,.int .i64 (-1)] rfl rl1_ rfl (by simp [Value.oneCell']) HQ.out (Below.refl _ _) HZD.out (by have:=HNJ.out;have:=HJ.out;have:=aN.out;omega) ?_;intro v9 w9 hq hb hg hat;obtain ⟨A9,c9,e9⟩:=Yn hq;subst e9;have aQ:=Xa.mk hq;have aP:=Xa.mk hg;have aK:=Xa.mk hat;have bk:=blk_grown HWXD.out hg HPX.out;have y0:=(Xh bk 0).trans rfl;have z0:=Xc bk 0;clear hq hb hg hat bk c0 d0 d1 d2 d3 d4)));have FIN:=grow_round2 (O:=ok) (fun k hk=>HUP.out k (by have:=aC.out;omega)) HAT.out HWX.out HZX.out (by have:=HXX.out;have:=aC.out;omega) HXX.out HBX.out.size HWD.out (own_weaken HRD.out (by have:=HSB.out;omega)) HTD.out aP.out aQ.out aK.out;clear y0 z0;go_wp2;go_roundg k1
      case measure=>omega
      case rel=>exact ⟨j+1,moreB b s.n (.slice A9 (s.n+1) c9) (.slice Ax 3 cx) (.slice Ay l.length cy),more s l,(by first|rfl|(simp;exact hw2)),⟨by have:=HK.out;omega⟩,⟨HSN.out⟩,⟨FIN.1⟩,⟨FIN.2.1⟩,⟨FIN.2.2.1⟩,⟨HBX.out.trans FIN.2.2.2⟩⟩
     |zero=>
      have hj:j=l0.length:=by have:=HK.out;omega
      subst hj;clear HK;have t1:decide ((l0.length:Int)<(l0.length:Int))=false:=df_ (Int.lt_irrefl _);have t2:decide (l0.length<l0.length)=false:=df_ (Nat.lt_irrefl _);rw [List.take_length] at HST;have hst:=HST.out;subst hst;obtain ⟨bp,bc,bm,bs,bd,aS,aT,aR⟩:=b;obtain ⟨P0,q0,e0⟩:∃ A c,bp=.slice A (Ya l0).n c:=Yn (HAT.out.rows.at_ 0 _ rfl);obtain ⟨P1,q1,e1⟩:∃ A c,bc=.slice A 3 c:=Yn (HAT.out.rows.at_ 1 _ rfl);obtain ⟨P2,q2,e2⟩:∃ A c,bm=.slice A 2 c:=Yn (HAT.out.rows.at_ 2 _ rfl);obtain ⟨P3,q3,e3⟩:∃ A c,bs=.slice A 2 c:=Yn (HAT.out.rows.at_ 3 _ rfl);obtain ⟨P4,q4,e4⟩:∃ A c,bd=.slice A (Ya l0).said.length c:=Yn (HAT.out.rows.at_ 4 _ rfl);subst e0 e1 e2 e3 e4;obtain ⟨w0,w1,w2,w3,w4⟩:=HWX.out.cells;obtain ⟨z0,z1,z2,z3,z4⟩:=ZB.cells HZX.out;have f0:=Xc HZX.out 0;have f1:=Xc HZX.out 1;have f2:=Xc HZX.out 2;have f3:=Xc HZX.out 3;have f4:=Xc HZX.out 4;have NB:W.heap.size+1≠x:=(by have:=HXX.out;have:=aC.out;omega);have NB2:x≠W.heap.size+1:=fun e=>NB e.symm;go_wp2
      (try simp only [Exit.inBlock,Exit.then])
      have hfin:=Yb (Yb (Yb (Yb (Yb HZX.out 0 (.slice P0 (Ya l0).n q0)) 1 (.slice P1 3 q1)) 2 (.slice P2 2 q2)) 3 (.slice P3 2 q3)) 4 (.slice P4 (Ya l0).said.length q4);refine bodyPost_ret (results_cell_row rfl _ _ (W.heap.size+1) 45 #[.slice P0 (Ya l0).n q0,.slice P1 3 q1,.slice P2 2 q2,.slice P3 2 q3,.slice P4 (Ya l0).said.length q4] (0,0) _ rfl hfin Try.underlying45 rfl kr_) rfl ?_
      have hfar:∀ k,k≠W.heap.size+1→(((((wr.setCell ⟨W.heap.size+1,0,none⟩ (.slice P0 (Ya l0).n q0)).setCell ⟨W.heap.size+1,1,none⟩ (.slice P1 3 q1)).setCell ⟨W.heap.size+1,2,none⟩ (.slice P2 2 q2)).setCell ⟨W.heap.size+1,3,none⟩ (.slice P3 2 q3)).setCell ⟨W.heap.size+1,4,none⟩ (.slice P4 (Ya l0).said.length q4)).heap[k]?=wr.heap[k]?:=fun k hk=>by
       rw [Below.heap_setCell _ _ _ k hk,Below.heap_setCell _ _ _ k hk,Below.heap_setCell _ _ _ k hk,Below.heap_setCell _ _ _ k hk,Below.heap_setCell _ _ _ k hk]
      have hZL:W.heap.size≤W.heap.size+1:=Nat.le_succ _;have aI:=HAT.out.step (fun k hk _=>hfar k hk.2.1);refine ⟨⟨.slice P0 (Ya l0).n q0,.slice P1 3 q1,.slice P2 2 q2,.slice P3 2 q3,.slice P4 (Ya l0).said.length q4,aS,aT,aR⟩,rfl,⟨(aI.rows.lower (by have:=aC.out;omega)).mono (fun k hk=>hk.1),fun i hi=>Kd.Yx (Kd.V_lower (aI.tree i hi) (by have:=aC.out;omega)) (fun k hk=>⟨hk.1.1,hk.2⟩),fun k o ho=>⟨(HA.out.low k o ho).1,(Array.getElem?_eq_some_iff.1 (HA.out.low k o ho).2.2).1,(aI.low k o ho).2.2⟩⟩,?_⟩;exact Below.setCell (p:=⟨W.heap.size+1,4,none⟩) (Below.setCell (p:=⟨W.heap.size+1,3,none⟩) (Below.setCell (p:=⟨W.heap.size+1,2,none⟩) (Below.setCell (p:=⟨W.heap.size+1,1,none⟩) (Below.setCell (p:=⟨W.heap.size+1,0,none⟩) (HB0.out.trans (HBX.out.mono HB0.out.size)) hZL _) hZL _) hZL _) hZL _) hZL _
 ·intro l a w i hJ hi;have hJ0:=hJ;obtain ⟨aG,hcl,val,lit,x,rfl,h6,h6'⟩:=hJ;obtain ⟨b0,b1,b2,b3,b4,b5,b6,b7,b8,b9,b10,b11,b12,b13,b14,rfl⟩:=size15 aG;obtain ⟨hun,o,ho,hdep⟩:=mem_ready.1 hi;have hcl':=hcl.set hi;have hi15:i<15:=(Array.getElem?_eq_some_iff.1 ho).1
  rcases (show i=0∨i=1∨i=2∨i=3∨i=4∨i=5∨i=6∨i=7∨i=8∨i=9∨i=10∨i=11∨i=12∨i=13∨i=14 by omega) with rfl|rfl|rfl|rfl|rfl|rfl|rfl|rfl|rfl|rfl|rfl|rfl|rfl|rfl|rfl
  ·obtain rfl:b0=false:=hun;injection ho with ho;subst ho
   obtain rfl:b14=false:=by
    cases b14 with
    |false=>rfl
    |true=>
     exfalso
     have hx:=Region.Zf (i:=0) hcl 15 14 kr_ rfl
     cases hx
   obtain rfl:b3=false:=by
    cases b3 with
    |false=>rfl
    |true=>
     exfalso
     have hx:=Region.Zf (i:=0) hcl 15 3 kr_ rfl
     cases hx
   obtain rfl:b12=false:=by
    cases b12 with
    |false=>rfl
    |true=>
     exfalso
     have hx:=Region.Zf (i:=0) hcl 15 12 kr_ rfl
     cases hx
   exact ⟨_,rfl,fun K' hK=>Zm (v:=.slice (some ⟨w.heap.size,0,none⟩) 0 0) (w1:=w.alloc (.cells #[] 3)) rfl (by first|(go_simp;done)|(go_simp;exact ⟨rfl,rfl⟩)) (hK.out _ _ ⟨rfl,hcl',upd val 1 (.slice (some ⟨w.heap.size,0,none⟩) 0 0),(upd lit 1 (.slice (some ⟨w.heap.size,0,none⟩) 0 0)),x,rl1_,(fun _=>(h6 rfl).lit0),(fun e=>by cases e)⟩)⟩
  ·obtain rfl:b1=false:=hun;injection ho with ho;subst ho
   obtain rfl:b14=false:=by
    cases b14 with
    |false=>rfl
    |true=>
     exfalso
     have hx:=Region.Zf (i:=1) hcl 15 14 kr_ rfl
     cases hx
   exact ⟨_,rfl,fun K' hK=>Zm (v:=.pointer (some ⟨W.heap.size,1,none⟩)) (w1:=w) rfl (by simp only [cpT];first|(go_simp;done)|(go_simp;rfl)) (hK.out _ _ ⟨rfl,hcl',val,lit,x,rl1_,(fun _=>(let c:=h6 rfl;⟨c.rows,c.below,c.box,c.nobox,c.lit1,c.lit2,c.is1,c.is2,c.is4⟩)),(fun e=>by cases e)⟩)⟩
  ·obtain rfl:b2=false:=hun;injection ho with ho;subst ho;obtain rfl:b1=true:=dep_listed (n:=1) hdep kr_
   obtain rfl:b14=false:=by
    cases b14 with
    |false=>rfl
    |true=>
     exfalso
     have hx:=Region.Zf (i:=2) hcl 15 14 kr_ rfl
     cases hx
   have hx:w.cell? ⟨W.heap.size,1,none⟩=some (.slice Ac 3 cc):=(Xh (((h6 rfl).below.block W.heap.size (Yt aA.out)).trans aA.out) 1).trans rfl;exact ⟨_,rfl,fun K' hK=>Zm (v:=(.slice Ac 3 cc)) (w1:=w) rfl (by simp only [cpT];first|(go_simp;done)|(go_simp;rfl)) (hK.out _ _ ⟨rfl,hcl',val,lit,x,rl1_,(fun _=>(let c:=h6 rfl;⟨c.rows,c.below,c.box,c.nobox,c.lit1,c.lit2,c.is1,c.is2,c.is4⟩)),(fun e=>by cases e)⟩)⟩
  ·obtain rfl:b3=false:=hun;injection ho with ho;subst ho;obtain rfl:b0=true:=dep_listed (n:=0) hdep kr_;obtain rfl:b2=true:=dep_listed (n:=2) hdep kr_
   obtain rfl:b14=false:=by
    cases b14 with
    |false=>rfl
    |true=>
     exfalso
     have hx:=Region.Zf (i:=3) hcl 15 14 kr_ rfl
     cases hx
   obtain rfl:b12=false:=by
    cases b12 with
    |false=>rfl
    |true=>
     exfalso
     have hx:=Region.Zf (i:=3) hcl 15 12 kr_ rfl
     cases hx
   have c:=h6 rfl;obtain ⟨e,he⟩:=c.lit1 rfl;have hv:val 1=.slice (some ⟨e,0,none⟩) 0 0:=(c.is1 rfl).trans he;have hrow:=c.rows.at_ 1 _ rfl;have hsz:=c.below.size;have hs2:=aC.out;refine ⟨_,rfl,fun K' hK=>Kd.R_append_rows_step (Kd.int .i64) (w0:=w) W0.drew.heap.size rfl (.tmp 7) (.tmp 9) 23 3 (.int .i64 0) 8 rfl Try.underlying23 info3 rfl de_ de_ (val 1) [] (List.replicate 3 0) Ac 3 cc (fun _=>True) (fun _=>False) ((show _=lit 1 from rfl).trans (he.trans hv.symm)) rl1_ (Kd.R_of_own hrow (fun _ _=>trivial)) (HSC.out w (HB0.out.trans (c.below.mono HB0.out.size))) (fun x cs h=>h) (fun _ hk=>hk.elim) (fun _ _=>trivial) (Below.refl _ _) hsz sm_ ?_⟩;intro v1 w1 hr1 hb1 hg1 aD;have hown:=own_ints0 hr1;exact hK.out _ _ ⟨rfl,hcl',upd val 1 v1,lit,x,rl1_,(fun _=>c.app3 hown (c.below.trans hb1) hg1 aD),(fun e=>by cases e)⟩
  ·obtain rfl:b4=false:=hun;injection ho with ho;subst ho
   obtain rfl:b14=false:=by
    cases b14 with
    |false=>rfl
    |true=>
     exfalso
     have hx:=Region.Zf (i:=4) hcl 15 14 kr_ rfl
     cases hx
   obtain rfl:b7=false:=by
    cases b7 with
    |false=>rfl
    |true=>
     exfalso
     have hx:=Region.Zf (i:=4) hcl 15 7 kr_ rfl
     cases hx
   obtain rfl:b12=false:=by
    cases b12 with
    |false=>rfl
    |true=>
     exfalso
     have hx:=Region.Zf (i:=4) hcl 15 12 kr_ rfl
     cases hx
   exact ⟨_,rfl,fun K' hK=>Zm (v:=.slice (some ⟨w.heap.size,0,none⟩) 0 0) (w1:=w.alloc (.cells #[] 3)) rfl (by first|(go_simp;done)|(go_simp;exact ⟨rfl,rfl⟩)) (hK.out _ _ ⟨rfl,hcl',upd val 2 (.slice (some ⟨w.heap.size,0,none⟩) 0 0),(upd lit 2 (.slice (some ⟨w.heap.size,0,none⟩) 0 0)),x,rl1_,(fun _=>(h6 rfl).lit4),(fun e=>by cases e)⟩)⟩
  ·obtain rfl:b5=false:=hun;injection ho with ho;subst ho
   obtain rfl:b14=false:=by
    cases b14 with
    |false=>rfl
    |true=>
     exfalso
     have hx:=Region.Zf (i:=5) hcl 15 14 kr_ rfl
     cases hx
   exact ⟨_,rfl,fun K' hK=>Zm (v:=.pointer (some ⟨W.heap.size,2,none⟩)) (w1:=w) rfl (by simp only [cpT];first|(go_simp;done)|(go_simp;rfl)) (hK.out _ _ ⟨rfl,hcl',val,lit,x,rl1_,(fun _=>(let c:=h6 rfl;⟨c.rows,c.below,c.box,c.nobox,c.lit1,c.lit2,c.is1,c.is2,c.is4⟩)),(fun e=>by cases e)⟩)⟩
  ·obtain rfl:b6=false:=hun;injection ho with ho;subst ho;obtain rfl:b5=true:=dep_listed (n:=5) hdep kr_
   obtain rfl:b14=false:=by
    cases b14 with
    |false=>rfl
    |true=>
     exfalso
     have hx:=Region.Zf (i:=6) hcl 15 14 kr_ rfl
     cases hx
   have hx:w.cell? ⟨W.heap.size,2,none⟩=some (.slice Am 2 cm):=(Xh (((h6 rfl).below.block W.heap.size (Yt aA.out)).trans aA.out) 2).trans rfl;exact ⟨_,rfl,fun K' hK=>Zm (v:=(.slice Am 2 cm)) (w1:=w) rfl (by simp only [cpT];first|(go_simp;done)|(go_simp;rfl)) (hK.out _ _ ⟨rfl,hcl',val,lit,x,rl1_,(fun _=>(let c:=h6 rfl;⟨c.rows,c.below,c.box,c.nobox,c.lit1,c.lit2,c.is1,c.is2,c.is4⟩)),(fun e=>by cases e)⟩)⟩
  ·obtain rfl:b7=false:=hun;injection ho with ho;subst ho;obtain rfl:b4=true:=dep_listed (n:=4) hdep kr_;obtain rfl:b6=true:=dep_listed (n:=6) hdep kr_
   obtain rfl:b14=false:=by
    cases b14 with
    |false=>rfl
    |true=>
     exfalso
     have hx:=Region.Zf (i:=7) hcl 15 14 kr_ rfl
     cases hx
   obtain rfl:b12=false:=by
    cases b12 with
    |false=>rfl
    |true=>
     exfalso
     have hx:=Region.Zf (i:=7) hcl 15 12 kr_ rfl
     cases hx
   have c:=h6 rfl;obtain ⟨e,he⟩:=c.lit2 rfl;have hv:val 2=.slice (some ⟨e,0,none⟩) 0 0:=(c.is2 rfl).trans he;have hrow:=c.rows.at_ 2 _ rfl;have hsz:=c.below.size;have hs2:=aC.out;refine ⟨_,rfl,fun K' hK=>Kd.R_append_rows_step (Kd.int .i64) (w0:=w) W0.drew.heap.size rfl (.tmp 11) (.tmp 13) 23 3 (.int .i64 0) 8 rfl Try.underlying23 info3 rfl de_ de_ (val 2) [] (List.replicate 2 0) Am 2 cm (fun _=>True) (fun _=>False) ((show _=lit 2 from rfl).trans (he.trans hv.symm)) rl1_ (Kd.R_of_own hrow (fun _ _=>trivial)) (HSM.out w (HB0.out.trans (c.below.mono HB0.out.size))) (fun x cs h=>h) (fun _ hk=>hk.elim) (fun _ _=>trivial) (Below.refl _ _) hsz sm_ ?_⟩;intro v1 w1 hr1 hb1 hg1 aD;have hown:=own_ints0 hr1;exact hK.out _ _ ⟨rfl,hcl',upd val 2 v1,lit,x,rl1_,(fun _=>c.app7 hown (c.below.trans hb1) hg1 aD),(fun e=>by cases e)⟩
  ·obtain rfl:b8=false:=hun;injection ho with ho;subst ho
   obtain rfl:b14=false:=by
    cases b14 with
    |false=>rfl
    |true=>
     exfalso
     have hx:=Region.Zf (i:=8) hcl 15 14 kr_ rfl
     cases hx
   obtain rfl:b11=false:=by
    cases b11 with
    |false=>rfl
    |true=>
     exfalso
     have hx:=Region.Zf (i:=8) hcl 15 11 kr_ rfl
     cases hx
   obtain rfl:b12=false:=by
    cases b12 with
    |false=>rfl
    |true=>
     exfalso
     have hx:=Region.Zf (i:=8) hcl 15 12 kr_ rfl
     cases hx
   exact ⟨_,rfl,fun K' hK=>Zm (v:=.slice (some ⟨w.heap.size,0,none⟩) 0 0) (w1:=w.alloc (.cells #[] 95)) rfl (by first|(go_simp;done)|(go_simp;exact ⟨rfl,rfl⟩)) (hK.out _ _ ⟨rfl,hcl',upd val 4 (.slice (some ⟨w.heap.size,0,none⟩) 0 0),lit,x,rl1_,(fun _=>(h6 rfl).lit8),(fun e=>by cases e)⟩)⟩
  ·obtain rfl:b9=false:=hun;injection ho with ho;subst ho
   obtain rfl:b14=false:=by
    cases b14 with
    |false=>rfl
    |true=>
     exfalso
     have hx:=Region.Zf (i:=9) hcl 15 14 kr_ rfl
     cases hx
   exact ⟨_,rfl,fun K' hK=>Zm (v:=.pointer (some ⟨W.heap.size,4,none⟩)) (w1:=w) rfl (by simp only [cpT];first|(go_simp;done)|(go_simp;rfl)) (hK.out _ _ ⟨rfl,hcl',val,lit,x,rl1_,(fun _=>(let c:=h6 rfl;⟨c.rows,c.below,c.box,c.nobox,c.lit1,c.lit2,c.is1,c.is2,c.is4⟩)),(fun e=>by cases e)⟩)⟩
  ·obtain rfl:b10=false:=hun;injection ho with ho;subst ho;obtain rfl:b9=true:=dep_listed (n:=9) hdep kr_
   obtain rfl:b14=false:=by
    cases b14 with
    |false=>rfl
    |true=>
     exfalso
     have hx:=Region.Zf (i:=10) hcl 15 14 kr_ rfl
     cases hx
   have hx:w.cell? ⟨W.heap.size,4,none⟩=some (.slice Ad 0 cd):=(Xh (((h6 rfl).below.block W.heap.size (Yt aA.out)).trans aA.out) 4).trans rfl;exact ⟨_,rfl,fun K' hK=>Zm (v:=(.slice Ad 0 cd)) (w1:=w) rfl (by simp only [cpT];first|(go_simp;done)|(go_simp;rfl)) (hK.out _ _ ⟨rfl,hcl',val,lit,x,rl1_,(fun _=>(let c:=h6 rfl;⟨c.rows,c.below,c.box,c.nobox,c.lit1,c.lit2,c.is1,c.is2,c.is4⟩)),(fun e=>by cases e)⟩)⟩
  ·obtain rfl:b11=false:=hun;injection ho with ho;subst ho;obtain rfl:b8=true:=dep_listed (n:=8) hdep kr_;obtain rfl:b10=true:=dep_listed (n:=10) hdep kr_
   obtain rfl:b14=false:=by
    cases b14 with
    |false=>rfl
    |true=>
     exfalso
     have hx:=Region.Zf (i:=11) hcl 15 14 kr_ rfl
     cases hx
   have c:=h6 rfl;obtain ⟨e,he⟩:∃ e,val 4=.slice (some ⟨e,0,none⟩) 0 0:=c.is4;exact ⟨_,rfl,fun K' hK=>Zm (v:=val 4) (w1:=w) rfl (by simp only [cpT,he];cases Ad <;> first|(go_simp;done)|(go_simp;rfl)) (hK.out _ _ ⟨rfl,hcl',val,lit,x,rl1_,(fun _=>⟨c.rows,c.below,c.box,c.nobox,c.lit1,c.lit2,c.is1,c.is2,c.is4⟩),(fun e=>by cases e)⟩)⟩
  ·obtain rfl:b12=false:=hun;injection ho with ho;subst ho;obtain rfl:b3=true:=dep_listed (n:=3) hdep kr_;obtain rfl:b7=true:=dep_listed (n:=7) hdep kr_;obtain rfl:b11=true:=dep_listed (n:=11) hdep kr_
   obtain rfl:b14=false:=by
    cases b14 with
    |false=>rfl
    |true=>
     exfalso
     have hx:=Region.Zf (i:=12) hcl 15 14 kr_ rfl
     cases hx
   have c:=h6 rfl;obtain ⟨A1,k1,e1⟩:=Yn (c.rows.at_ 1 _ rfl);obtain ⟨A2,k2,e2⟩:=Yn (c.rows.at_ 2 _ rfl);obtain ⟨A4,k4,e4⟩:=Yn (c.rows.at_ 4 _ rfl);exact ⟨_,rfl,fun K' hK=>Zm (v:=.agg #[.slice none 0 0,val 1,val 2,.slice none 0 0,val 4]) (w1:=w) rfl (by simp only [cpT,e1,e2,e4];first|(go_simp;done)|(go_simp;rfl)) (hK.out _ _ ⟨rfl,hcl',val,lit,x,rl1_,(fun _=>⟨c.rows,c.below,c.box,c.nobox,c.lit1,c.lit2,c.is1,c.is2,c.is4⟩),(fun e=>by cases e)⟩)⟩
  ·obtain rfl:b13=false:=hun;injection ho with ho;subst ho
   obtain rfl:b14=false:=by
    cases b14 with
    |false=>rfl
    |true=>
     exfalso
     have hx:=Region.Zf (i:=13) hcl 15 14 kr_ rfl
     cases hx
   exact ⟨_,rfl,fun K' hK=>Zm (v:=.pointer (some ⟨w.heap.size,0,none⟩)) (w1:=w.alloc ZB) rfl (by first|(go_simp;done)|(go_simp;exact ⟨rfl,rfl⟩)) (hK.out _ _ ⟨rfl,hcl',upd val 7 (.slice (some ⟨w.heap.size,0,none⟩) 5 5),lit,w.heap.size,rl1_,(fun _=>(h6 rfl).box13),(fun e=>by cases e)⟩)⟩
  ·obtain rfl:b14=false:=hun;injection ho with ho;subst ho;obtain rfl:b12=true:=dep_listed (n:=12) hdep kr_;obtain rfl:b13=true:=dep_listed (n:=13) hdep kr_;have c:=h6 rfl;obtain ⟨A1,k1,e1⟩:=Yn (c.rows.at_ 1 _ rfl);obtain ⟨A2,k2,e2⟩:=Yn (c.rows.at_ 2 _ rfl);obtain ⟨A4,k4,e4⟩:=Yn (c.rows.at_ 4 _ rfl);have hx:=(c.box rfl).1;obtain ⟨z0,z1,z2,z3,z4⟩:=ZB.cells hx;have f0:=Xc hx 0;have f1:=Xc hx 1;have f2:=Xc hx 2;have f3:=Xc hx 3;have f4:=Xc hx 4;refine ⟨_,rfl,fun K' hK=>skip_ (w1:=cpPut val x w) rfl rfl ?_ (hK.out _ _ ⟨rfl,hcl',val,lit,x,rl1_,(fun e=>by cases e),(fun _=>⟨w,⟨c.rows,c.below,c.box,c.nobox,c.lit1,c.lit2,c.is1,c.is2,c.is4⟩,rfl⟩)⟩)⟩;simp only [cpT,cpPut,e1,e2,e4]
   first|(go_simp;done)|(go_simp;rfl)
end Go.Proofs.Ytlhogkfmdnpmkaa.Mean
