import Derived.Deep.Slices
import Derived.Test.YtlhogkfmdnpmkaaGreatCFnExactMarksOf23
import Derived.Test.YtlhogkfmdnpmkaaGreatCFnExactMarksOf25
set_option linter.unusedVariables false
set_option linter.unusedSimpArgs false
namespace Go.Proofs.YtlhogkfmdnpmkaaGreat.Evt
open RowKit YtlhogkfmdnpmkaaGreatW.PrintWords YtlhogkfmdnpmkaaGreatW.PrintMore
def Evt {α:Type} (g:Nat→Option α) (v:α):Prop:=∃ k0,∀ k,k0≤k→g k=some v
variable {α β:Type}
theorem Evt.pure (v:α):Evt (fun _=>some v) v:=⟨0,fun _ _=>rfl⟩
theorem Evt.of_eq {g:Nat→Option α} {v:α} (h:∀ k,g k=some v):Evt g v:=⟨0,fun k _=>h k⟩
theorem Evt.bind {g:Nat→Option α} {h:Nat→α→Option β} {v:α} {u:β} (hg:Evt g v) (hh:Evt (fun k=>h k v) u):Evt (fun k=>(g k).bind (h k)) u:=by
 obtain ⟨k0,h0⟩:=hg;obtain ⟨k1,h1⟩:=hh;refine ⟨max k0 k1,fun k hk=>?_⟩;show (g k).bind (h k)=some u
 rw [h0 k om_];exact h1 k om_
theorem Evt.step {g:Nat→Option α} {v:α} (h:Evt (fun k=>g (k+1)) v):Evt g v:=by
 obtain ⟨k0,h0⟩:=h;refine ⟨k0+1,fun k hk=>?_⟩;obtain ⟨k',rfl⟩:∃ k',k=k'+1:=⟨k - 1,om_⟩;exact h0 k' om_
theorem Evt.congr {g g':Nat→Option α} {v:α} (h:Evt g v) (e:∀ k,g' k=g k):Evt g' v:=by
 obtain ⟨k0,h0⟩:=h;exact ⟨k0,fun k hk=>(e k).trans (h0 k hk)⟩
theorem Evt.get {g:Nat→Option α} {v:α} (h:Evt g v):∃ k,g k=some v:=by
 obtain ⟨k0,h0⟩:=h;exact ⟨k0,h0 k0 (nr_ _)⟩
theorem Evt.pos {c:Prop} [Decidable c] {g h:Nat→Option α} {v:α} (hc:c) (hg:Evt g v):Evt (fun k=>if c then g k else h k) v:=hg.congr (fun _=>if_pos hc)
theorem Evt.neg {c:Prop} [Decidable c] {g h:Nat→Option α} {v:α} (hc:¬c) (hh:Evt h v):Evt (fun k=>if c then g k else h k) v:=hh.congr (fun _=>if_neg hc)
theorem w64 {n:Int} (h1:-9223372036854775808≤n) (h2:n≤9223372036854775807):wrap64 n=n:=by unfold wrap64;omega
theorem w64s {n:Int} (h1:0≤n) (h2:n≤4611686018427387904):wrap64 (n+1)=n+1:=w64 om_ om_
theorem w64n (j:Nat) (h:j≤4611686018427387903):wrap64 ((j:Int)+1)=((j+1:Nat):Int):=by rw [w64s om_ om_];omega
theorem getD_mem {l:List α} {i:Nat} (d:α) (h:i<l.length):l.getD i d ∈ l:=by
 rw [List.getD_eq_getElem?_getD,List.getElem?_eq_getElem h];exact List.getElem_mem h
theorem rd_nat (l:List Int) (i:Nat):rd l (i:Int)=l.getD i 0:=by unfold rd;simp
end Go.Proofs.YtlhogkfmdnpmkaaGreat.Evt
namespace Go.Proofs.YtlhogkfmdnpmkaaGreat.Open
open RowKit ChangeShapes WideShapes YtlhogkfmdnpmkaaGreatW.PrintWords YtlhogkfmdnpmkaaGreatW.PrintLast YtlhogkfmdnpmkaaGreatW.PrintMore
section
variable {H:Type} (enc:TypeId × Value→H) (P:Program) (w:World) (base:Nat) (spare:Nat→Bool) (held:Bool)
def Opens {α:Type} (d:Kd α) (wf:α→Prop) (t:TypeId):Prop:=
 d.sz=P.cellsOf t∧∀ fuel cs x,DataW.trod enc P w base spare held fuel t cs=some x→∃ z,d.K w z cs∧wf z
def Fields (n:Nat):List TypeId→List Value→Prop
 |[],cs=>cs=[]
 |t :: r,cs=>∃ c0 c1 x,cs=c0 ++ c1∧DataW.trod enc P w base spare held n t c0=some x∧Fields n r c1
end
section
variable {H:Type} {enc:TypeId × Value→H} {P:Program} {w:World} {base:Nat} {spare:Nat→Bool} {held:Bool}
theorem i64_bounds {n:Int} (h:(Lit.int .i64 n).wf=true):-9223372036854775808≤n∧n≤9223372036854775807:=by
 simp [Lit.wf] at h;exact h
def Num (n:Int):Prop:=-9223372036854775808≤n∧n≤9223372036854775807
theorem opens_int {t:TypeId} (ht:P.underlying t=some (.int .i64)) (hc:P.cellsOf t=1):Opens enc P w base spare held (Kd.int .i64) Num t:=by
 refine ⟨hc.symm,fun fuel cs x h=>?_⟩;obtain ⟨n,rfl,_,hw⟩:=DataW.trod_int ht h;exact ⟨n,rfl,i64_bounds hw⟩
def laidFrom (P:Program):Nat→List Field→Bool
 |_,[]=>true
 |o,f :: r=>f.offset == o && laidFrom P (o+P.cellsOf f.type) r
def sizes (P:Program):List Field→Nat
 |[]=>0
 |f :: r=>P.cellsOf f.type+sizes P r
theorem fields_of {n:Nat}:∀ (fs:List Field) (o:Nat) (cs:List Value),laidFrom P o fs=true→cs.length=o+sizes P fs→
  (∀ f ∈ fs,∃ x,DataW.trod enc P w base spare held n f.type ((cs.drop f.offset).take (P.cellsOf f.type))=some x)→
  Fields enc P w base spare held n (fs.map (·.type)) (cs.drop o)
 |[],o,cs,_,hl,_=>by
  simp [sizes] at hl;show cs.drop o=[]
  exact List.drop_of_length_le om_
 |f :: r,o,cs,hlaid,hl,h=>by
  simp only [laidFrom,Bool.and_eq_true,beq_iff_eq] at hlaid;simp only [sizes] at hl;obtain ⟨x,hx⟩:=h f (List.mem_cons_self);rw [hlaid.1] at hx;refine ⟨_,_,x,(List.take_append_drop (P.cellsOf f.type) (cs.drop o)).symm,hx,?_⟩;rw [List.drop_drop];exact fields_of r _ cs hlaid.2 om_ (fun g hg=>h g (List.mem_cons_of_mem _ hg))
theorem slice_elems {α:Type} {d:Kd α} {wf:α→Prop} {t e:TypeId} (ht:P.underlying t=some (.slice e)) (h:Opens enc P w base spare held d wf e) {fuel:Nat} {cs:List Value} {x:DataW H × List MemPlace}
  (hx:DataW.trod enc P w base spare held fuel t cs=some x):∃ (A:Option Addr) (c:Nat) (zs:List α),cs=[.slice A zs.length c]∧zs.length≤c∧c≤maxLen∧Kd.C d w A zs.length zs∧∀ z ∈ zs,wf z:=by
 rcases Deep.open_slice ht hx with ⟨rfl,rfl⟩|⟨a,len,cap,m,n,D,Pl,rfl,hb,hl,hm,hmm,rfl,hel⟩
 ·exact ⟨none,0,[],rfl,nr_ _,by unfold maxLen;omega,⟨rfl,sm_,fun h=>absurd h sm_⟩,sm_⟩
 ·have hlm:len≤m:=by rw [hmm];split <;> omega
  have each:∀ i,i<len→∃ q:α × List Value,w.cells? base (a.add (i * P.cellsOf e)) (P.cellsOf e)=some q.2∧d.K w q.1 q.2∧wf q.1:=fun i hi=>by
   obtain ⟨cs',h1,h2⟩:=hel i om_;obtain ⟨z,hk,hz⟩:=h.2 _ _ _ h2;exact ⟨(z,cs'),h1,hk,hz⟩
  have:∃ zs:List α,zs.length=len∧(∀ i z,zs[i]?=some z→∃ cs',w.cells? base (a.add (i * P.cellsOf e)) (P.cellsOf e)=some cs'∧d.K w z cs'∧wf z):=by
   clear hmm hlm hel hl hm hx
   induction len with
   |zero=>exact ⟨[],rfl,sm_⟩
   |succ k ih=>
    obtain ⟨zs,hzl,hz⟩:=ih (fun i hi=>each i om_);obtain ⟨q,hq⟩:=each k om_;refine ⟨zs ++ [q.1],by simp [hzl],fun i z hi=>?_⟩
    rcases Nat.lt_or_ge i zs.length with h1|h1
    ·rw [List.getElem?_append_left h1] at hi;exact hz i z hi
    ·rw [List.getElem?_append_right h1] at hi
     have h2:i - zs.length=0:=by
      rcases Nat.eq_zero_or_pos (i - zs.length) with h2|h2
      ·exact h2
      ·rw [List.getElem?_eq_none (by simp;omega)] at hi;cases hi
     rw [h2] at hi
     obtain rfl:q.1=z:=by simpa using hi
     obtain rfl:i=k:=om_
     exact ⟨q.2,hq⟩
  obtain ⟨zs,hzl,hz⟩:=this;subst hzl;refine ⟨some a,cap,zs,rfl,hl,hm,⟨rfl,by unfold maxLen at hm;omega,fun _=>⟨a,rfl,fun j p hj=>?_⟩⟩,fun z hmem=>?_⟩
  ·obtain ⟨cs',h1,hk,_⟩:=hz j p hj;obtain ⟨_,hlen,hcell⟩:=World.cells?_some h1;refine ⟨cs',by rw [hlen];exact h.1.symm,hk,fun i u hi=>?_⟩;have hi':i<cs'.length:=(List.getElem?_eq_some_iff.1 hi).1
   have:=hcell i om_
   rw [h.1,← add_add];rw [this,hi]
  ·obtain ⟨i,hi,rfl⟩:=List.getElem_of_mem hmem;obtain ⟨_,_,_,h3⟩:=hz i _ (List.getElem?_eq_getElem hi);exact h3
theorem opens_slice {α:Type} {d:Kd α} {wf:α→Prop} {t e:TypeId} (ht:P.underlying t=some (.slice e)) (hc:P.cellsOf t=1) (h:Opens enc P w base spare held d wf e) :
  Opens enc P w base spare held (Kd.slice e d) (fun zs=>zs.length≤9223372036854775807∧∀ z ∈ zs,wf z) t:=
 ⟨hc.symm,fun fuel cs x hx=>by
  obtain ⟨A,c,zs,rfl,hl,hm,hC,hw⟩:=slice_elems ht h hx;exact ⟨zs,⟨A,c,rfl,hl,hC⟩,by unfold maxLen at hm;omega,hw⟩⟩
theorem slice_arg {α:Type} {d:Kd α} {wf:α→Prop} {t e:TypeId} (ht:P.underlying t=some (.slice e)) (h:Opens enc P w base spare held d wf e) {A:Option Addr} {len cap:Nat} {x:DataW H} {p:List MemPlace}
  (hx:DataW.Trod enc P w base spare held t (.slice A len cap) x p):∃ zs:List α,zs.length=len∧len≤cap∧cap≤maxLen∧Kd.C d w A zs.length zs∧∀ z ∈ zs,wf z:=by
 obtain ⟨fuel,hf⟩:=hx;obtain ⟨A',c',zs,he,hl,hm,hC,hw⟩:=slice_elems ht h hf;simp [Value.cells] at he;obtain ⟨rfl,rfl,rfl⟩:=he;exact ⟨zs,rfl,hl,hm,hC,hw⟩
end
end Go.Proofs.YtlhogkfmdnpmkaaGreat.Open
namespace Go.Proofs.YtlhogkfmdnpmkaaGreat.Open
open RowKit ChangeShapes WideShapes YtlhogkfmdnpmkaaGreatW.PrintWords YtlhogkfmdnpmkaaGreatW.PrintLast YtlhogkfmdnpmkaaGreatW.PrintMore GMarks
section
variable {H:Type} (enc:TypeId × Value→H) (P:Program) (w:World) (base:Nat) (spare:Nat→Bool) (held:Bool)
def OpensB (N:Nat) {α:Type} (d:Kd α) (wf:α→Prop) (t:TypeId):Prop:=
 d.sz=P.cellsOf t∧∀ fuel cs x,fuel≤N→DataW.trod enc P w base spare held fuel t cs=some x→∃ z,d.K w z cs∧wf z
def OpensBF (N:Nat) {α:Type} (d:Kd α) (wf:α→Prop) (ts:List TypeId):Prop:=
 ∀ n cs,n≤N→Fields enc P w base spare held n ts cs→∃ z,d.K w z cs∧wf z
end
section
variable {H:Type} {enc:TypeId × Value→H} {P:Program} {w:World} {base:Nat} {spare:Nat→Bool} {held:Bool}
theorem Opens.b {α:Type} {d:Kd α} {wf:α→Prop} {t:TypeId} (h:Opens enc P w base spare held d wf t) (N:Nat):OpensB enc P w base spare held N d wf t:=⟨h.1,fun fuel cs x _ hx=>h.2 fuel cs x hx⟩
theorem opens_of_b {α:Type} {d:Kd α} {wf:α→Prop} {t:TypeId} (h:∀ N,OpensB enc P w base spare held N d wf t):Opens enc P w base spare held d wf t:=⟨(h 0).1,fun fuel cs x hx=>(h fuel).2 fuel cs x (nr_ _) hx⟩
theorem opensBF_one {N:Nat} {α:Type} {d:Kd α} {wf:α→Prop} {t:TypeId} (h:OpensB enc P w base spare held N d wf t):OpensBF enc P w base spare held N d wf [t]:=by
 rintro n cs hn ⟨c0,c1,x,rfl,h0,rfl⟩;rw [List.append_nil];exact h.2 _ _ _ hn h0
theorem opensBF_cons {N:Nat} {α β:Type} {a:Kd α} {b:Kd β} {wa:α→Prop} {wb:β→Prop} {t:TypeId} {r:List TypeId} (ha:OpensB enc P w base spare held N a wa t) (hb:OpensBF enc P w base spare held N b wb r) :
  OpensBF enc P w base spare held N (Kd.pair a b) (fun z=>wa z.1∧wb z.2) (t :: r):=by
 rintro n cs hn ⟨c0,c1,x,rfl,h0,h1⟩;obtain ⟨za,ka,fa⟩:=ha.2 _ _ _ hn h0;obtain ⟨zb,kb,fb⟩:=hb _ _ hn h1;exact ⟨(za,zb),⟨c0,c1,rfl,ka,kb⟩,fa,fb⟩
theorem opensB_struct {N:Nat} {α β:Type} {d:Kd α} {d':Kd β} {wf:α→Prop} {wf':β→Prop} {t:TypeId} {fs:Array Field} (ht:P.underlying t=some (.struct fs)) (hsz:d'.sz=P.cellsOf t) (hlaid:(laidFrom P 0 fs.toList && sizes P fs.toList == P.cellsOf t)=true)
  (hmk:∀ z cs,d.K w z cs→wf z→∃ z',d'.K w z' cs∧wf' z') (h:OpensBF enc P w base spare held N d wf (fs.toList.map (·.type))):OpensB enc P w base spare held (N+1) d' wf' t:=by
 refine ⟨hsz,fun fuel cs x hN hx=>?_⟩;simp only [Bool.and_eq_true,beq_iff_eq] at hlaid;obtain ⟨xs,n,rfl,_,hcl,hxl,hf⟩:=DataW.trod_struct ht hx
 have:=fields_of (enc:=enc) (w:=w) (base:=base) (spare:=spare) (held:=held) (n:=n) fs.toList 0 cs hlaid.1 om_ (fun f hmem=>by
  obtain ⟨i,hi,rfl⟩:=List.getElem_of_mem hmem;have h1:=hf i fs.toList[i] (by simp at hi ⊢);refine ⟨_,h1.trans (List.getElem?_eq_getElem (by rw [hxl];simpa using hi))⟩)
 obtain ⟨z,hk,hw⟩:=h n cs om_ (by simpa using this);exact hmk z cs hk hw
theorem opensB_slice {N:Nat} {α:Type} {d:Kd α} {wf:α→Prop} {t e:TypeId} (ht:P.underlying t=some (.slice e)) (hc:P.cellsOf t=1) (h:OpensB enc P w base spare held N d wf e) :
  OpensB enc P w base spare held N (Kd.slice e d) (fun zs=>zs.length≤9223372036854775807∧∀ z ∈ zs,wf z) t:=
 ⟨hc.symm,fun fuel cs x hN hx=>by
  rcases DataW.trod_slice ht hx with ⟨rfl,rfl⟩|⟨a,len,cap,elems,rest,n,rfl,rfl,rfl,hb,hl,hm,hlen,hel,hr1,hr2⟩
  ·exact ⟨[],⟨none,0,rfl,nr_ _,⟨rfl,sm_,fun h=>absurd h sm_⟩⟩,sm_,sm_⟩
  ·have each:∀ i,i<len→∃ q:α × List Value,w.cells? base (a.add (i * P.cellsOf e)) (P.cellsOf e)=some q.2∧d.K w q.1 q.2∧wf q.1:=fun i hi=>by
    have h1:=hel i hi;rw [List.getElem?_eq_getElem om_] at h1;obtain ⟨cs',h2,h3⟩:=bo_ h1;obtain ⟨z,hk,hz⟩:=h.2 _ _ _ om_ h3;exact ⟨(z,cs'),h2,hk,hz⟩
   have:∃ zs:List α,zs.length=len∧(∀ i z,zs[i]?=some z→∃ cs',w.cells? base (a.add (i * P.cellsOf e)) (P.cellsOf e)=some cs'∧d.K w z cs'∧wf z):=by
    clear hel hl hm hx hlen hr1 hr2
    induction len with
    |zero=>exact ⟨[],rfl,sm_⟩
    |succ k ih=>
     obtain ⟨zs,hzl,hz⟩:=ih (fun i hi=>each i om_);obtain ⟨q,hq⟩:=each k om_;refine ⟨zs ++ [q.1],by simp [hzl],fun i z hi=>?_⟩
     rcases Nat.lt_or_ge i zs.length with h1|h1
     ·rw [List.getElem?_append_left h1] at hi;exact hz i z hi
     ·rw [List.getElem?_append_right h1] at hi
      have h2:i - zs.length=0:=by
       rcases Nat.eq_zero_or_pos (i - zs.length) with h2|h2
       ·exact h2
       ·rw [List.getElem?_eq_none (by simp;omega)] at hi;cases hi
      rw [h2] at hi
      obtain rfl:q.1=z:=by simpa using hi
      obtain rfl:i=k:=om_
      exact ⟨q.2,hq⟩
   obtain ⟨zs,hzl,hz⟩:=this;subst hzl;refine ⟨zs,⟨some a,cap,rfl,hl,⟨rfl,by unfold maxLen at hm;omega,fun _=>⟨a,rfl,fun j p hj=>?_⟩⟩⟩,by unfold maxLen at hm;omega,fun z hmem=>?_⟩
   ·obtain ⟨cs',h1,hk,_⟩:=hz j p hj;obtain ⟨_,hlen',hcell⟩:=World.cells?_some h1;refine ⟨cs',by rw [hlen'];exact h.1.symm,hk,fun i u hi=>?_⟩;have hi':i<cs'.length:=(List.getElem?_eq_some_iff.1 hi).1
    have:=hcell i om_
    rw [h.1,← add_add];rw [this,hi]
   ·obtain ⟨i,hi,rfl⟩:=List.getElem_of_mem hmem;obtain ⟨_,_,_,h3⟩:=hz i _ (List.getElem?_eq_getElem hi);exact h3⟩
inductive StmtN:S83→Prop
 |mk (s:S83):Num s.f0→Num s.f1→Num s.f2→Num s.f3→s.f4.length≤9223372036854775807→(∀ z ∈ s.f4,StmtN z)→s.f5.length≤9223372036854775807→(∀ z ∈ s.f5,StmtN z)→StmtN s
theorem opensB_stmt {H:Type} {enc:TypeId × Value→H} {w:World} {base:Nat} {spare:Nat→Bool} {held:Bool}:∀ N,OpensB enc Tryz.prog w base spare held N k83 StmtN 83
 |0=>⟨kr_,fun fuel cs x hN hx=>by
   obtain ⟨_,n,h,_⟩:=DataW.trod_struct Tryz.underlying83 hx
   omega⟩
 |N+1=>by
  have I:∀ {t:TypeId},t=3→OpensB enc Tryz.prog w base spare held N (Kd.int .i64) Num t:=fun h=>by subst h;exact (opens_int Tryz.underlying3 kr_).b N
  have L:=opensB_slice (enc:=enc) (w:=w) (base:=base) (spare:=spare) (held:=held) Tryz.underlying51 kr_ (opensB_stmt N);refine opensB_struct Tryz.underlying83 kr_ kr_ ?_ (opensBF_cons (I rfl) (opensBF_cons (I rfl) (opensBF_cons (I rfl) (opensBF_cons (I rfl) (opensBF_cons L (opensBF_one L))))));rintro ⟨f0,f1,f2,f3,f4,f5⟩ cs ⟨_,_,rfl,rfl,⟨_,_,rfl,rfl,⟨_,_,rfl,rfl,⟨_,_,rfl,rfl,⟨_,_,rfl,⟨A4,c4,rfl,l4,g4⟩,⟨A5,c5,rfl,l5,g5⟩⟩⟩⟩⟩⟩ ⟨w0,w1,w2,w3,⟨w4,w5⟩,⟨w6,w7⟩⟩;exact ⟨⟨f0,f1,f2,f3,f4,f5⟩,k83_mk w ⟨f0,f1,f2,f3,f4,f5⟩ l4 g4 l5 g5,StmtN.mk _ w0 w1 w2 w3 w4 w5 w6 w7⟩
theorem opens_stmt {H:Type} {enc:TypeId × Value→H} {w:World} {base:Nat} {spare:Nat→Bool} {held:Bool}:Opens enc Tryz.prog w base spare held k83 StmtN 83:=opens_of_b opensB_stmt
end
end Go.Proofs.YtlhogkfmdnpmkaaGreat.Open
namespace Go.Proofs.YtlhogkfmdnpmkaaGreat.Pure
open RowKit GMarks YtlhogkfmdnpmkaaGreatW.PrintWords YtlhogkfmdnpmkaaGreatW.PrintLast YtlhogkfmdnpmkaaGreatW.PrintMore Evt YtlhogkfmdnpmkaaGreat.Open
abbrev LStmt:=S83
abbrev Stmt:=S87
theorem getD_app {α:Type} (A:List α) (x:α) (B:List α) (d:α):(A ++ x :: B).getD A.length d=x:=by simp [List.getD_eq_getElem?_getD]
theorem set_app {α:Type} (A:List α) (x v:α) (B:List α):(A ++ x :: B).set A.length v=A ++ v :: B:=sm_
inductive All2 {α β:Type} (R:α→β→Prop):List α→List β→Prop
 |nil:All2 R [] []
 |cons {a:α} {b:β} {l:List α} {m:List β}:R a b→All2 R l m→All2 R (a :: l) (b :: m)
theorem All2.len {α β:Type} {R:α→β→Prop} {l:List α} {m:List β} (h:All2 R l m):l.length=m.length:=by
 induction h with
 |nil=>rfl
 |cons _ _ ih=>simp [ih]
theorem All2.right {α β:Type} {R:α→β→Prop} {l:List α} {m:List β} (h:All2 R l m):∀ b ∈ m,∃ a ∈ l,R a b:=by
 induction h with
 |nil=>intro b hb;cases hb
 |cons h _ ih=>
  intro b hb
  rcases List.mem_cons.1 hb with rfl|hb
  ·exact ⟨_,List.mem_cons_self,h⟩
  ·obtain ⟨a,ha,hr⟩:=ih b hb;exact ⟨a,List.mem_cons_of_mem _ ha,hr⟩
def NumD:Nat→List Stmt→Prop
 |0,_=>True
 |d+1,l=>∀ s ∈ l,(Num s.f0∧Num s.f1∧Num s.f2∧Num s.f3)∧NumD d s.f4∧NumD d s.f5
def inner (c:List Stmt→Nat):List Stmt→Nat
 |[]=>0
 |s :: r=>c s.f4+c s.f5+inner c r
def cntD:Nat→List Stmt→Nat
 |0,_=>0
 |d+1,l=>l.length+inner (cntD d) l
structure OkS (s:LStmt) (t:Stmt):Prop where
 cpy:Evt (fun k=>laws_toStmt.f k s.f0 s.f1 s.f2 s.f3 s.f4 s.f5) (t.f0,t.f1,t.f2,t.f3,t.f4,t.f5)
 eq:Evt (fun k=>Ve.f k t.f0 t.f1 t.f2 t.f3 t.f4 t.f5 t.f0 t.f1 t.f2 t.f3 t.f4 t.f5) true
 num:∀ d,(Num t.f0∧Num t.f1∧Num t.f2∧Num t.f3)∧NumD d t.f4∧NumD d t.f5
structure OkL (l:List LStmt) (m:List Stmt):Prop where
 cpy:Evt (fun k=>Yk.f k l) m
 eq:Evt (fun k=>Xt.f k m m) true
 num:∀ d,NumD d m
theorem szStmtS_loop (l:List LStmt) (hl:l.length≤1048576) (each:∀ s ∈ l,∀ left:Int,0≤left→left≤1048576→∃ r:Int,Evt (fun k=>Uo.f k s.f0 s.f1 s.f2 s.f3 s.f4 s.f5 left) r∧-1≤r∧r≤left∧(0≤r→∃ t,OkS s t∧∀ d,((cntD d t.f4+cntD d t.f5:Nat):Int)+r≤left)) :
  ∀ (B A:List LStmt),l=A ++ B→∀ left:Int,0≤left→left≤1048576→∃ r:Int,Evt (fun k=>Yj.l0 k l left (A.length:Int)) r∧-1≤r∧r≤left∧(0≤r→∃ m,All2 OkS B m∧∀ d,((inner (cntD d) m:Nat):Int)+r≤left)
 |[],A,he,left,h0,h1=>by
  refine ⟨left,?_,om_,om_,fun _=>⟨[],All2.nil,fun d=>by simp [inner]⟩⟩;rw [List.append_nil] at he;subst he;refine Evt.step ?_;simp only [Yj.l0];exact Evt.neg om_ (Evt.pure _)
 |b :: B,A,he,left,h0,h1=>by
  have hlen:l.length=A.length+B.length+1:=by rw [he];simp;omega
  have hb:l.getD A.length z83=b:=by rw [he];exact getD_app A b B _
  obtain ⟨r,e,ha,hz,hr⟩:=each b (by rw [he];simp) left h0 h1;by_cases hn:r<0
  ·refine ⟨-1,?_,om_,om_,fun h=>absurd h om_⟩;refine Evt.step ?_;simp only [Yj.l0,Yw,Int.toNat_natCast,hb];exact Evt.pos om_ (Evt.pos om_ (Evt.bind e (Evt.pos hn (Evt.pure _))))
  ·obtain ⟨t,ht,hc⟩:=hr om_;obtain ⟨r2,e2,ha2,hz2,hr2⟩:=szStmtS_loop l hl each B (A ++ [b]) (by rw [he];simp) r om_ om_;refine ⟨r2,?_,om_,om_,fun h=>?_⟩
   ·refine Evt.step ?_;simp only [Yj.l0,Yw,Int.toNat_natCast,hb];refine Evt.pos om_ (Evt.pos om_ (Evt.bind e (Evt.neg hn ?_)));rw [w64n A.length om_];rw [List.length_append] at e2;exact e2
   ·obtain ⟨m,hm,hc2⟩:=hr2 h;refine ⟨t :: m,All2.cons ht hm,fun d=>?_⟩
    have:=hc d
    have:=hc2 d
    simp only [inner];omega
theorem toStmtS_loop (l:List LStmt) (hl:l.length≤1048576):∀ (B A:List LStmt) (m:List Stmt) (M R:List Stmt),All2 OkS B m→l=A ++ B→M.length=A.length→R.length=B.length→Evt (fun k=>Yk.l0 k l (M ++ R) (A.length:Int)) (M ++ m)
 |[],A,m,M,R,h2,he,hm,hr=>by
  cases h2
  obtain rfl:R=[]:=List.eq_nil_of_length_eq_zero (by simpa using hr);rw [List.append_nil] at he;subst he;refine Evt.step ?_;simp only [Yk.l0];exact Evt.neg om_ (Evt.pure _)
 |b :: B,A,_,M,R,.cons (b:=t) (m:=m) ht h2,he,hm,hr=>by
  have hlen:l.length=A.length+B.length+1:=by rw [he];simp;omega
  have hb:l.getD A.length z83=b:=by rw [he];exact getD_app A b B _
  match R,hr with
  |x :: R,hr=>
   have hr':R.length=B.length:=by simpa using hr
   refine Evt.step ?_;simp only [Yk.l0,Yw,Int.toNat_natCast,hb];refine Evt.pos om_ (Evt.pos om_ (Evt.bind ht.cpy (Evt.pos (by simp;omega) ?_)));rw [w64n A.length om_,← hm,set_app,hm];have ih:=toStmtS_loop l hl B (A ++ [b]) m (M ++ [t]) R h2 (by rw [he];simp) (by simp [hm]) hr';simp only [List.append_assoc,List.singleton_append,List.length_append,List.length_singleton] at ih
   cases t
   exact ih
theorem toStmtS_ev (l:List LStmt) (hl:l.length≤1048576) (m:List Stmt) (h2:All2 OkS l m):Evt (fun k=>Yk.f k l) m:=by
 refine Evt.step ?_;simp only [Yk.f];refine Evt.pos om_ (Evt.pos om_ ?_)
 have:=toStmtS_loop l hl l [] m [] (List.replicate l.length z87) h2 rfl rfl sm_
 simpa using this
theorem eqStmtS_loop (m:List Stmt) (hl:m.length≤1048576) (each:∀ t ∈ m,Evt (fun k=>Ve.f k t.f0 t.f1 t.f2 t.f3 t.f4 t.f5 t.f0 t.f1 t.f2 t.f3 t.f4 t.f5) true):∀ (n i:Nat),i+n=m.length→Evt (fun k=>Xt.l0 k m m (i:Int)) true
 |0,i,h=>by
  refine Evt.step ?_;simp only [Xt.l0];exact Evt.neg om_ (Evt.pure _)
 |n+1,i,h=>by
  refine Evt.step ?_;simp only [Xt.l0,Xe,Int.toNat_natCast];refine Evt.pos om_ (Evt.pos om_ (Evt.pos om_ (Evt.bind (each _ (getD_mem _ om_)) (Evt.pos sm_ ?_))));rw [w64n i om_];exact eqStmtS_loop m hl each n (i+1) om_
theorem eqStmtS_ev (m:List Stmt) (hl:m.length≤1048576) (each:∀ t ∈ m,Evt (fun k=>Ve.f k t.f0 t.f1 t.f2 t.f3 t.f4 t.f5 t.f0 t.f1 t.f2 t.f3 t.f4 t.f5) true):Evt (fun k=>Xt.f k m m) true:=by
 refine Evt.step ?_;simp only [Xt.f];exact Evt.pos sm_ (eqStmtS_loop m hl each m.length 0 om_)
def ToldL (l:List LStmt):Prop:=∀ left:Int,0≤left→left≤1048576→∃ r:Int,Evt (fun k=>Yj.f k l left) r∧-1≤r∧r≤left∧(0≤r→∃ m,OkL l m∧∀ d,((cntD d m:Nat):Int)+r≤left)
theorem stmt_told (s:LStmt) (hN:Num s.f0∧Num s.f1∧Num s.f2∧Num s.f3) (h4:ToldL s.f4) (h5:ToldL s.f5) (left:Int) (h0:0≤left) (h1:left≤1048576) :
  ∃ r:Int,Evt (fun k=>Uo.f k s.f0 s.f1 s.f2 s.f3 s.f4 s.f5 left) r∧-1≤r∧r≤left∧(0≤r→∃ t,OkS s t∧∀ d,((cntD d t.f4+cntD d t.f5:Nat):Int)+r≤left):=by
 obtain ⟨r4,e4,a4,z4,c4⟩:=h4 left h0 h1;by_cases n4:r4<0
 ·refine ⟨-1,Evt.step ?_,om_,om_,fun h=>absurd h om_⟩;simp only [Uo.f];exact Evt.bind e4 (Evt.pos n4 (Evt.pure _))
 obtain ⟨r5,e5,a5,z5,c5⟩:=h5 r4 om_ om_;by_cases n5:r5<0
 ·refine ⟨-1,Evt.step ?_,om_,om_,fun h=>absurd h om_⟩;simp only [Uo.f];exact Evt.bind e4 (Evt.neg n4 (Evt.bind e5 (Evt.pos n5 (Evt.pure _))))
 obtain ⟨m4,o4,b4⟩:=c4 om_;obtain ⟨m5,o5,b5⟩:=c5 om_;refine ⟨r5,Evt.step ?_,om_,om_,fun _=>⟨⟨s.f0,s.f1,s.f2,s.f3,m4,m5⟩,⟨Evt.step ?_,Evt.step ?_,fun d=>⟨hN,o4.num d,o5.num d⟩⟩,fun d=>?_⟩⟩
 ·simp only [Uo.f];exact Evt.bind e4 (Evt.neg n4 (Evt.bind e5 (Evt.neg n5 (Evt.pure _))))
 ·simp only [laws_toStmt.f];exact Evt.bind o4.cpy (Evt.bind o5.cpy (Evt.pure _))
 ·simp only [Ve.f];exact Evt.pos trivial (Evt.pos trivial (Evt.pos trivial (Evt.pos trivial (Evt.bind o4.eq (Evt.pos rfl (Evt.bind o5.eq (Evt.pos rfl (Evt.pure _))))))))
 ·have:=b4 d
  have:=b5 d
  show ((cntD d m4+cntD d m5:Nat):Int)+r5≤left
  omega
theorem stmtS_told:∀ (n:Nat) (l:List LStmt),SizeOf.sizeOf l≤n→(∀ z ∈ l,StmtN z)→l.length≤9223372036854775807→ToldL l
 |0,l,hs,_,_=>by cases l <;> simp at hs
 |n+1,l,hs,hN,hl=>by
  intro left h0 h1;by_cases hbig:left - (l.length:Int)<0
  ·refine ⟨-1,Evt.step ?_,om_,om_,fun h=>absurd h om_⟩;simp only [Yj.f];rw [w64 om_ om_];exact Evt.pos hbig (Evt.pure _)
  have each:∀ s ∈ l,∀ left:Int,0≤left→left≤1048576→∃ r:Int,Evt (fun k=>Uo.f k s.f0 s.f1 s.f2 s.f3 s.f4 s.f5 left) r∧-1≤r∧r≤left∧(0≤r→∃ t,OkS s t∧∀ d,((cntD d t.f4+cntD d t.f5:Nat):Int)+r≤left):=fun s hm=>by
   have hsz:=List.sizeOf_lt_of_mem hm;obtain ⟨_,i0,i1,i2,i3,l4,a4,l5,a5⟩:=hN s hm
   have hs':SizeOf.sizeOf s.f4<SizeOf.sizeOf s∧SizeOf.sizeOf s.f5<SizeOf.sizeOf s:=by
    cases s
    simp only [S83.mk.sizeOf_spec];omega
   exact stmt_told s ⟨i0,i1,i2,i3⟩ (stmtS_told n s.f4 om_ a4 l4) (stmtS_told n s.f5 om_ a5 l5)
  obtain ⟨r,e,ha,hz,hr⟩:=szStmtS_loop l om_ each l [] rfl (left - (l.length:Int)) om_ om_;refine ⟨r,Evt.step ?_,om_,om_,fun h=>?_⟩
  ·simp only [Yj.f];rw [w64 om_ om_];exact Evt.neg hbig e
  ·obtain ⟨m,h2,hc⟩:=hr h;have hml:=h2.len;refine ⟨m,⟨toStmtS_ev l om_ m h2,eqStmtS_ev m om_ (fun t ht=>?_),fun d=>?_⟩,fun d=>?_⟩
   ·obtain ⟨_,_,h⟩:=h2.right t ht;exact h.eq
   ·cases d with
    |zero=>trivial
    |succ d=>exact fun t ht=>by obtain ⟨_,_,h⟩:=h2.right t ht;exact h.num d
   ·cases d with
    |zero=>simp only [cntD];omega
    |succ d=>have:=hc d;simp only [cntD];omega
theorem toIntS_loop (l:List Int) (hl:l.length≤1048576):∀ (B A R:List Int),l=A ++ B→R.length=B.length→Evt (fun k=>Zk.l0 k l (A ++ R) (A.length:Int)) (A ++ B)
 |[],A,R,he,hr=>by
  obtain rfl:R=[]:=List.eq_nil_of_length_eq_zero (by simpa using hr);rw [List.append_nil] at he;subst he;refine Evt.step ?_;simp only [Zk.l0];exact Evt.neg om_ (Evt.pure _)
 |b :: B,A,R,he,hr=>by
  have hlen:l.length=A.length+B.length+1:=by rw [he];simp;omega
  have hb:l.getD A.length 0=b:=by rw [he];exact getD_app A b B _
  match R,hr with
  |x :: R,hr=>
   have hr':R.length=B.length:=by simpa using hr
   refine Evt.step ?_;simp only [Zk.l0,rd_nat,Int.toNat_natCast,hb];refine Evt.pos om_ (Evt.pos om_ (Evt.pos (by simp;omega) ?_));rw [w64n A.length om_,set_app];have ih:=toIntS_loop l hl B (A ++ [b]) R (by rw [he];simp) hr';simp only [List.append_assoc,List.singleton_append,List.length_append,List.length_singleton] at ih;exact ih
theorem toIntS_ev (l:List Int) (hl:l.length≤1048576):Evt (fun k=>Zk.f k l) l:=by
 unfold Zk.f;refine Evt.pos om_ (Evt.pos om_ ?_)
 have:=toIntS_loop l hl l [] (List.replicate l.length 0) rfl sm_
 simpa using this
theorem eqIntS_loop (m:List Int) (hl:m.length≤1048576):∀ (n i:Nat),i+n=m.length→Evt (fun k=>Zy.l0 k m m (i:Int)) true
 |0,i,h=>by
  refine Evt.step ?_;simp only [Zy.l0];exact Evt.neg om_ (Evt.pure _)
 |n+1,i,h=>by
  refine Evt.step ?_;simp only [Zy.l0];refine Evt.pos om_ (Evt.pos om_ (Evt.pos om_ (Evt.pos trivial ?_)));rw [w64n i om_];exact eqIntS_loop m hl n (i+1) om_
theorem eqIntS_ev (m:List Int) (hl:m.length≤1048576):Evt (fun k=>Zy.f k m m) true:=by
 unfold Zy.f;exact Evt.pos rfl (eqIntS_loop m hl m.length 0 om_)
def cntSS (d:Nat):List (List Stmt)→Nat
 |[]=>0
 |x :: r=>cntD d x+cntSS d r
theorem szSS_loop (l:List (List LStmt)) (hl:l.length≤1048576) (each:∀ x ∈ l,ToldL x):∀ (B A:List (List LStmt)),l=A ++ B→∀ left:Int,0≤left→left≤1048576→∃ r:Int,Evt (fun k=>Zg.l0 k l left (A.length:Int)) r∧-1≤r∧r≤left∧(0≤r→∃ m,All2 OkL B m∧∀ d,((cntSS d m:Nat):Int)+r≤left)
 |[],A,he,left,h0,h1=>by
  refine ⟨left,?_,om_,om_,fun _=>⟨[],All2.nil,fun d=>by simp [cntSS]⟩⟩;rw [List.append_nil] at he;subst he;refine Evt.step ?_;simp only [Zg.l0];exact Evt.neg om_ (Evt.pure _)
 |b :: B,A,he,left,h0,h1=>by
  have hlen:l.length=A.length+B.length+1:=by rw [he];simp;omega
  have hb:l.getD A.length []=b:=by rw [he];exact getD_app A b B _
  obtain ⟨r,e,ha,hz,hr⟩:=each b (by rw [he];simp) left h0 h1;by_cases hn:r<0
  ·refine ⟨-1,?_,om_,om_,fun h=>absurd h om_⟩;refine Evt.step ?_;simp only [Zg.l0,rd_L2,Int.toNat_natCast,hb];exact Evt.pos om_ (Evt.pos om_ (Evt.bind e (Evt.pos hn (Evt.pure _))))
  ·obtain ⟨m,om,hm⟩:=hr om_;obtain ⟨r2,e2,ha2,hz2,hr2⟩:=szSS_loop l hl each B (A ++ [b]) (by rw [he];simp) r om_ om_;refine ⟨r2,?_,om_,om_,fun h=>?_⟩
   ·refine Evt.step ?_;simp only [Zg.l0,rd_L2,Int.toNat_natCast,hb];refine Evt.pos om_ (Evt.pos om_ (Evt.bind e (Evt.neg hn ?_)));rw [w64n A.length om_];rw [List.length_append] at e2;exact e2
   ·obtain ⟨ms,h2,hc⟩:=hr2 h;refine ⟨m :: ms,All2.cons om h2,fun d=>?_⟩
    have:=hm d
    have:=hc d
    simp only [cntSS];omega
theorem szSS_of (l:List (List LStmt)) (hl:l.length≤9223372036854775807) (each:∀ x ∈ l,ToldL x) (left:Int) (h0:0≤left) (h1:left≤1048576):∃ r:Int,Evt (fun k=>Zg.f k l left) r∧-1≤r∧r≤left∧(0≤r→l.length≤1048576∧∃ m,All2 OkL l m∧∀ d,((l.length+cntSS d m:Nat):Int)+r≤left):=by
 unfold Zg.f;rw [w64 om_ om_];by_cases hbig:left - (l.length:Int)<0
 ·exact ⟨-1,Evt.pos hbig (Evt.pure _),om_,om_,fun h=>absurd h om_⟩
 obtain ⟨r,e,ha,hz,hr⟩:=szSS_loop l om_ each l [] rfl (left - (l.length:Int)) om_ om_;exact ⟨r,Evt.neg hbig e,om_,om_,fun h=>⟨om_,by obtain ⟨m,h2,hc⟩:=hr h;exact ⟨m,h2,fun d=>by have:=hc d;omega⟩⟩⟩
theorem toSS_loop (l:List (List LStmt)) (hl:l.length≤1048576):∀ (B A:List (List LStmt)) (m M R:List (List Stmt)),All2 OkL B m→l=A ++ B→M.length=A.length→R.length=B.length→Evt (fun k=>Yy.l0 k l (M ++ R) (A.length:Int)) (M ++ m)
 |[],A,m,M,R,h2,he,hM,hr=>by
  obtain rfl:R=[]:=List.eq_nil_of_length_eq_zero (by simpa using hr)
  cases h2
  rw [List.append_nil] at he;subst he;refine Evt.step ?_;simp only [Yy.l0];exact Evt.neg om_ (Evt.pure _)
 |b :: B,A,m,M,R,h2,he,hM,hr=>by
  have hlen:l.length=A.length+B.length+1:=by rw [he];simp;omega
  have hb:l.getD A.length []=b:=by rw [he];exact getD_app A b B _
  cases h2 with
  |cons ob h2=>
  rename_i y ms
  match R,hr with
  |x :: R,hr=>
   have hr':R.length=B.length:=by simpa using hr
   refine Evt.step ?_;simp only [Yy.l0,rd_L2,Int.toNat_natCast,hb];refine Evt.pos om_ (Evt.pos om_ (Evt.bind ob.cpy (Evt.pos (by simp;omega) ?_)));rw [w64n A.length om_,← hM,set_app,hM];have ih:=toSS_loop l hl B (A ++ [b]) ms (M ++ [y]) R h2 (by rw [he];simp) (by simp [hM]) hr';simp only [List.append_assoc,List.singleton_append,List.length_append,List.length_singleton] at ih;exact ih
theorem toSS_ev (l:List (List LStmt)) (hl:l.length≤1048576) (m:List (List Stmt)) (h2:All2 OkL l m):Evt (fun k=>Yy.f k l) m:=by
 unfold Yy.f;refine Evt.pos om_ (Evt.pos om_ ?_)
 have:=toSS_loop l hl l [] m [] (List.replicate l.length []) h2 rfl rfl sm_
 simpa using this
theorem eqSS_loop (m:List (List Stmt)) (hl:m.length≤1048576) (each:∀ x ∈ m,Evt (fun k=>Xt.f k x x) true):∀ (n i:Nat),i+n=m.length→Evt (fun k=>Ym.l0 k m m (i:Int)) true
 |0,i,h=>by
  refine Evt.step ?_;simp only [Ym.l0];exact Evt.neg om_ (Evt.pure _)
 |n+1,i,h=>by
  refine Evt.step ?_;simp only [Ym.l0,rd_L4,Int.toNat_natCast];refine Evt.pos om_ (Evt.pos om_ (Evt.pos om_ (Evt.bind (each _ (getD_mem _ om_)) (Evt.pos sm_ ?_))));rw [w64n i om_];exact eqSS_loop m hl each n (i+1) om_
theorem eqSS_ev (m:List (List Stmt)) (hl:m.length≤1048576) (each:∀ x ∈ m,Evt (fun k=>Xt.f k x x) true):Evt (fun k=>Ym.f k m m) true:=by
 unfold Ym.f;exact Evt.pos rfl (eqSS_loop m hl each m.length 0 om_)
end Go.Proofs.YtlhogkfmdnpmkaaGreat.Pure
