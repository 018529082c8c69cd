import Derived.Test.YtlhogkfmdnpmkaaGreatCFnExactMarksOf74
import Derived.Test.YtlhogkfmdnpmkaaGreatCFnExactMarksOf76
set_option linter.unusedSectionVars false
set_option linter.unusedVariables false
set_option linter.unusedSimpArgs false
set_option maxRecDepth 100000
namespace Go.Proofs.YtlhogkfmdnpmkaaGreat.Mean
open RowKit GMarks YtlhogkfmdnpmkaaGreatW.PrintWords YtlhogkfmdnpmkaaGreatW.PrintLast YtlhogkfmdnpmkaaGreatW.PrintMore
abbrev El:=Mk × (Option Addr × Nat × Nat)
def El.v (x:El):Value:=.slice x.2.1 x.2.2.1 x.2.2.2
def encM (x:El):Array Value:=#[.agg #[.int .i64 x.1.f0,.int .i64 x.1.f1,.bool x.1.f2,.int .i64 x.1.f3,El.v x]]
def Uk (x:El):List Value:=[.int .i64 x.1.f0,.int .i64 x.1.f1,.bool x.1.f2,.int .i64 x.1.f3,El.v x]
theorem inMark:(Tryz.prog.info? 45).map (fun i=>(i.zero,i.size,i.bytes))=some (some (.agg #[(.int .i64 0),(.int .i64 0),(.bool false),(.int .i64 0),(.slice none 0 0)]),5,56):=kr_
structure Cl (B:Nat) (U:Nat→Prop) (xs:List El) (W:World):Prop where
 row:∀ x ∈ xs,W.ownsRow B 3 1 (El.v x) x.1.f4.length (nums .i64 x.1.f4)
 out:∀ x ∈ xs,∀ k,(El.v x).ownBlock=some k→¬ U k
 apart:xs.Pairwise (fun x y=>∀ k,(El.v x).ownBlock=some k→(El.v y).ownBlock≠some k)
theorem Cl.step {B:Nat} {U:Nat→Prop} {xs:List El} {W W':World} (h:Cl B U xs W) (hm:∀ k,(∃ x ∈ xs,(El.v x).ownBlock=some k)→W'.heap[k]?=W.heap[k]?):Cl B U xs W':=
 ⟨fun x hx=>Zd (h.row x hx) (fun k hk=>hm k ⟨x,hx,hk⟩),h.out,h.apart⟩
theorem Cl.lt {B:Nat} {U:Nat→Prop} {xs:List El} {W:World} (h:Cl B U xs W) {x:El} (hx:x ∈ xs) {k:Nat} (hk:(El.v x).ownBlock=some k):B≤k∧k<W.heap.size:=⟨Zl (h.row x hx) k hk,Za (h.row x hx) k hk⟩
theorem Cl.only {B:Nat} {U:Nat→Prop} {xs:List El} {W W':World} (h:Cl B U xs W) (ho:Only W W' U):Cl B U xs W':=
 h.step (fun k hk=>by obtain ⟨x,hx,e⟩:=hk;exact ho.block k (h.lt hx e).2 (h.out x hx k e))
theorem Cl.grew {B:Nat} {U U':Nat→Prop} {xs:List El} {W W':World} (h:Cl B U xs W) (ho:Only W W' U) (hg:Grew U U' W W'):Cl B U' xs W':=
 ⟨(h.only ho).row,fun x hx k e hu=>(hg k hu).elim (h.out x hx k e) (fun h1=>by have:=(h.lt hx e).2;omega),h.apart⟩
theorem Cl.snoc {B:Nat} {U:Nat→Prop} {xs:List El} {W W':World} {x:El} (h:Cl B U xs W) (hm:∀ k,(∃ x ∈ xs,(El.v x).ownBlock=some k)→W'.heap[k]?=W.heap[k]?) (hr:W'.ownsRow B 3 1 (El.v x) x.1.f4.length (nums .i64 x.1.f4)) (hk:∀ k,(El.v x).ownBlock=some k→W.heap.size≤k∧¬ U k):Cl B U (xs ++ [x]) W':=by
 have h':=h.step hm;refine ⟨fun y hy=>?_,fun y hy k e=>?_,?_⟩
 ·rcases List.mem_append.1 hy with hy|hy
  ·exact h'.row y hy
  ·rw [List.mem_singleton] at hy;exact hy ▸ hr
 ·rcases List.mem_append.1 hy with hy|hy
  ·exact h.out y hy k e
  ·rw [List.mem_singleton] at hy;subst hy;exact (hk k e).2
 ·rw [List.pairwise_append];refine ⟨h.apart,List.pairwise_singleton _ _,fun y hy z hz k e e'=>?_⟩;rw [List.mem_singleton] at hz;subst hz
  have:=(h.lt hy e).2
  have:=(hk k e').1
  omega
variable [Prot]
theorem Ck.C {W:World} {gc:Nat} {c:CK} (h:Ck W gc c) {i n:Nat} (hi:i<3) (hn:n≤3):(Kd.int .i64).C W (some ⟨gc,i * 3,none⟩) (Yo n (c i)).length (Yo n (c i)):=by
 have hl:(Yo n (c i)).length=n:=by simp [Yo]
 refine ⟨rfl,om_,fun _=>⟨_,rfl,fun j p hj=>⟨[.int .i64 p],rfl,rfl,fun k u hu=>?_⟩⟩⟩
 have bS:j<n:=by have:=(List.getElem?_eq_some_iff.1 hj).1;omega
 have hp:p=c i j:=by
  unfold Yo at hj;rw [List.getElem?_map,List.getElem?_range bS] at hj;injection hj with hj;exact hj.symm
 cases k with
 |succ k=>simp at hu
 |zero=>
  simp at hu;subst hu hp
  have e:(⟨gc,i * 3,none⟩:Addr).add (j * 1+0)=⟨gc,i * 3+j,none⟩:=by
   unfold Addr.add;by_cases h0:j=0
   ·subst h0;rfl
   ·rw [if_neg om_];simp
  show W.cell? ((⟨gc,i * 3,none⟩:Addr).add (j * 1+0))=_
  rw [e];exact h.get rfl om_ om_
theorem St.re {W W':World} {base:Nat} {ok ok':Nat→Prop} {b:BK} {s:WS} {g:Nat} (h:St W base ok b s g) (hm:∀ k,ok k→k<W.heap.size→W'.heap[k]?=W.heap[k]?) (hg:W'.heap[g]?=W.heap[g]?) (hk:∀ k,ok k→k<W.heap.size→ok' k) (hup:∀ k,W'.heap.size≤k→ok' k) (hn:¬ ok' g):St W' base ok' b s g:=
 ⟨((h.at_.lt).step (fun k hk' hlt=>hm k hk'.1 hlt)).mono (fun k hk'=>hk k hk'.1 hk'.2),hg.trans h.wb,hup,hn⟩
def okM (B g gc:Nat) (U:Nat→Prop) (xs:List El) (k:Nat):Prop:=B≤k∧k≠g∧k≠gc∧¬ U k∧∀ x ∈ xs,(El.v x).ownBlock≠some k
structure Lp (W:World) (B g gc:Nat) (U:Nat→Prop) (X:Nat→Prop) (W0:World) (b:BK) (m:MS) (xs:List El):Prop where
 st:St W B (okM B g gc U xs) b m.s g
 ck:Ck W gc m.c
 cl:Cl B U xs W
 ne:gc≠g
 ug:¬ U g∧¬ U gc∧B≤g∧B≤gc
 xg:∀ x ∈ xs,(El.v x).ownBlock≠some g∧(El.v x).ownBlock≠some gc
 ul:∀ k,U k→k<W.heap.size∧¬ X k
 keep:Only W0 W (fun k=>¬ X k)
theorem Lp.below {W W' W0:World} {B g gc:Nat} {U X:Nat→Prop} {b:BK} {m m':MS} {xs:List El} (h:Lp W B g gc U X W0 b m xs) (hb:Below W.heap.size W W') (hs:m'.s=m.s) (hc:m'.c=m.c):Lp W' B g gc U X W0 b m' xs:=
 ⟨hs ▸ h.st.below hb,hc ▸ h.ck.below hb,h.cl.step (fun k hk=>by obtain ⟨x,hx,e⟩:=hk;exact hb.block k (h.cl.lt hx e).2),h.ne,h.ug,h.xg,fun k hk=>⟨nl_ (h.ul k hk).1 hb.size,(h.ul k hk).2⟩,h.keep.trans (Only.of_below hb _)⟩
theorem Lp.less {W W0:World} {B g gc:Nat} {U V X:Nat→Prop} {b:BK} {m:MS} {xs:List El} (h:Lp W B g gc U X W0 b m xs) (hv:∀ k,V k→U k):Lp W B g gc V X W0 b m xs:=
 have mo:∀ k,okM B g gc U xs k→okM B g gc V xs k:=fun k hk=>⟨hk.1,hk.2.1,hk.2.2.1,fun e=>hk.2.2.2.1 (hv k e),hk.2.2.2.2⟩
 ⟨⟨h.st.at_.mono mo,h.st.wb,fun k hk=>mo k (h.st.up k hk),fun e=>e.2.1 rfl⟩,h.ck,⟨h.cl.row,fun x hx k e hu=>h.cl.out x hx k e (hv k hu),h.cl.apart⟩,h.ne,⟨fun e=>h.ug.1 (hv _ e),fun e=>h.ug.2.1 (hv _ e),h.ug.2.2⟩,h.xg,fun k hk=>h.ul k (hv k hk),h.keep⟩
theorem Lp.box {W W1 W0:World} {B g gc q:Nat} {U X:Nat→Prop} {b:BK} {m:MS} {xs:List El} (h:Lp W B g gc U X W0 b m xs) (hX:∀ k,X k→k<B) (hb:Below W.heap.size W W1) (hq:W.heap.size≤q) (hq1:q<W1.heap.size):Lp W1 B g gc (fun k=>U k∨k=q) X W0 b m xs:=by
 have h1:=h.below (m':=m) hb rfl rfl;have hgW:=Xq h.st.wb;have hcW:=Xq h.ck;refine ⟨h.st.re (fun k _ hlt=>hb.block k hlt) (hb.block g hgW) (fun k hk hlt=>⟨hk.1,hk.2.1,hk.2.2.1,fun e=>e.elim hk.2.2.2.1 (fun e=>om_),hk.2.2.2.2⟩) (fun k hle=>⟨(h1.st.up k hle).1,(h1.st.up k hle).2.1,(h1.st.up k hle).2.2.1,fun e=>e.elim (h1.st.up k hle).2.2.2.1 (fun e=>om_),(h1.st.up k hle).2.2.2.2⟩) (fun e=>e.2.1 rfl),h1.ck,⟨h1.cl.row,fun x hx k e hu=>hu.elim (h1.cl.out x hx k e) (fun e'=>by have:=(h.cl.lt hx e).2;omega),h1.cl.apart⟩,h.ne,⟨fun e=>e.elim h.ug.1 (fun e=>om_),fun e=>e.elim h.ug.2.1 (fun e=>om_),h.ug.2.2⟩,h.xg,fun k hk=>hk.elim (h1.ul k) (fun e=>⟨om_,fun hx=>by have:=hX k hx;have:=h.ug.2.2.1;omega⟩),h1.keep⟩
theorem Lp.step {W W1 W' W0:World} {B g gc:Nat} {U X:Nat→Prop} {b:BK} {m m':MS} {xs:List El} (h:Lp W B g gc U X W0 b m xs) (hX:∀ k,X k→k<B) (ho:Only W W1 (fun k=>k=gc)) (hck:Ck W1 gc m'.c) (hl:Left W1 B (okM B g gc U xs) m'.s g W'):∃ b',Lp W' B g gc U X W0 b' m' xs:=by
 obtain ⟨b',hs,ho2⟩:=hl;have hgc:¬ (okM B g gc U xs gc∨gc=g):=fun e=>e.elim (fun e=>e.2.2.1 rfl) h.ne;refine ⟨b',hs,(ho2.block gc (Xq hck) hgc).trans hck,h.cl.step (fun k hk=>?_),h.ne,h.ug,h.xg,fun k hk=>⟨nl_ (h.ul k hk).1 (nt_ ho.size ho2.size),(h.ul k hk).2⟩,(h.keep.trans (ho.mono (fun k hk=>.inl (fun hx=>by have:=hX k hx;have:=h.ug.2.2.2;omega)))).trans (ho2.mono (fun k hk=>.inl (fun hx=>?_)))⟩
 ·obtain ⟨x,hx,e⟩:=hk;have h1:=h.cl.lt hx e;have h2:=h.xg x hx;have n1:k≠gc:=fun e'=>h2.2 (e' ▸ e);exact (ho2.block k (nl_ h1.2 ho.size) (fun o=>o.elim (fun o=>o.2.2.2.2 x hx e) (fun o=>h2.1 (o ▸ e)))).trans (ho.block k h1.2 n1)
 ·have:=hX k hx
  rcases hk with hk|hk
  ·have:=hk.1;omega
  ·have:=h.ug.2.2.1;omega
theorem Lp.mark {W W1 W' W0:World} {B g gc:Nat} {U U' X:Nat→Prop} {b:BK} {m m':MS} {xs:List El} {x:El} (h:Lp W B g gc U X W0 b m xs) (hX:∀ k,X k→k<B) (hb:Below W.heap.size W W1) (hr:W1.ownsRow B 3 1 (El.v x) x.1.f4.length (nums .i64 x.1.f4)) (hk:∀ k,(El.v x).ownBlock=some k→W.heap.size≤k)
  (ho:Only W1 W' U) (hg:Grew U U' W1 W') (hs:m'.s=m.s) (hc:m'.c=m.c):Lp W' B g gc U' X W0 b m' (xs ++ [x]):=by
 have hU:∀ k,U k→k<W.heap.size:=fun k hu=>(h.ul k hu).1;have hgW:=Xq h.st.wb;have hcW:=Xq h.ck;have stay:∀ k,k<W.heap.size→¬ U k→W'.heap[k]?=W.heap[k]?:=fun k hk hu=>(ho.block k (nl_ hk hb.size) hu).trans (hb.block k hk);have bI:∀ k,k<W.heap.size→¬ U k→¬ U' k:=fun k hk hu hu'=>(hg k hu').elim hu (fun h1=>by have:=hb.size;omega);have hsz:=nt_ hb.size ho.size;have hc1:Cl B U (xs ++ [x]) W1:=h.cl.snoc (fun k hk=>by obtain ⟨y,hy,e⟩:=hk;exact hb.block k (h.cl.lt hy e).2) hr (fun k e=>⟨hk k e,fun hu=>by have:=hU k hu;have:=hk k e;omega⟩);refine ⟨?_,?_,hc1.grew ho hg,h.ne,⟨bI g hgW h.ug.1,bI gc hcW h.ug.2.1,h.ug.2.2⟩,fun y hy=>?_,fun k hu=>?_,?_⟩
 ·rw [hs];refine h.st.re (fun k hk' hlt=>stay k hlt hk'.2.2.2.1) (stay g hgW h.ug.1) (fun k hk' hlt=>⟨hk'.1,hk'.2.1,hk'.2.2.1,bI k hlt hk'.2.2.2.1,fun y hy e=>?_⟩) (fun k hle=>⟨by have:=h.ug.2.2.1;omega,om_,om_,fun hu=>?_,fun y hy e=>?_⟩) (fun e=>e.2.1 rfl)
  ·rcases List.mem_append.1 hy with hy|hy
   ·exact hk'.2.2.2.2 y hy e
   ·rw [List.mem_singleton] at hy;subst hy;have:=hk k e;omega
  ·rcases hg k hu with h1|h1
   ·have:=hU k h1;omega
   ·omega
  ·have:=(hc1.lt hy e).2
   have:=ho.size
   omega
 ·rw [hc];exact (stay gc hcW h.ug.2.1).trans h.ck
 ·rcases List.mem_append.1 hy with hy|hy
  ·exact h.xg y hy
  ·rw [List.mem_singleton] at hy;subst hy;exact ⟨fun e=>by have:=hk _ e;omega,fun e=>by have:=hk _ e;omega⟩
 ·rcases hg k hu with h1|h1
  ·exact ⟨by have:=hU k h1;omega,(h.ul k h1).2⟩
  ·exact ⟨h1.2,fun hx=>by have:=hX k hx;have:=h.ug.2.2.1;have:=hb.size;omega⟩
 ·exact (h.keep.trans (Only.of_below hb _)).trans (ho.mono (fun k hu=>.inl (h.ul k hu).2))
theorem goM_off {n:Nat} {m:MS} {who:Int} (h:code m.s who≠0):goM n m who=⟨m.s,m.c,m.at_+1,m.out⟩:=if_neg h
theorem goM_on {n:Nat} {m:MS} {i:Nat} (h:code m.s (i:Int)=0):goM n m (i:Int)=⟨step m.s i,ahead m.s m.c i,m.at_+1,m.out ++ marked n m.s (ahead m.s m.c i) i m.at_⟩:=if_pos h
theorem clone_do (W:World) (gc:Nat) (c:CK) (i n:Nat) (h:Ck W gc c) (hi:i<3) (hn:n≤3) :
  Calls Tryz.prog 67 #[.slice (some ⟨gc,i * 3,none⟩) n 3] W fun e W'=>∃ A c',e=.returned (.slice A n c')∧W'.ownsRow W.heap.size 3 1 (.slice A n c') n (nums .i64 (Yo n (c i)))∧Below W.heap.size W W':=by
 have hl:(Yo n (c i)).length=n:=by simp [Yo]
 have h1:=Uq.calls (some ⟨gc,i * 3,none⟩) 3 (Yo n (c i)) (Yo n (c i)) W (h.C hi hn) om_ (if_pos om_);rw [hl] at h1;refine h1.mono (fun e W' hx=>?_);obtain ⟨v,rfl,hr,hb⟩:=hx;obtain ⟨A,c',e⟩:=Kd.Zq hr;have ho:=Kd.own_of_R hr;rw [e,hl] at ho;exact ⟨A,c',by rw [e,hl],ho,hb⟩
theorem only5 (W:World) (z:Nat) (a b c d e:Value):Only W (((((W.setCell ⟨z,0,none⟩ a).setCell ⟨z,1,none⟩ b).setCell ⟨z,2,none⟩ c).setCell ⟨z,3,none⟩ d).setCell ⟨z,4,none⟩ e) (fun k=>k=z):=
 ((Us W z 0 1 2 a b c).trans ((Uf _ z 3 d).mono (fun k h=>.inl h))).trans ((Uf _ z 4 e).mono (fun k h=>.inl h))
set_option maxHeartbeats 16000000 in
theorem marks_seq (A0:Option Addr) (c0:Nat) (l0:List (List T)) (A1:Option Addr) (c1:Nat) (l1:List Int) (w0 wS:World) (hr0:Kd.C (Kd.slice 87 k87) w0 A0 l0.length l0) (hc0:l0.length≤c0) (hr1:Kd.C (Kd.int .i64) w0 A1 l1.length l1) (hc1:l1.length≤c1)
  (B1 B2:Nat) (hB:Below w0.heap.size w0 wS) (hb1:wS.heap[B1]?=some (.cells #[.slice A0 l0.length c0] 27 (0,0))) (hb2:wS.heap[B2]?=some (.cells #[.slice A1 l1.length c1] 23 (0,0)))
  (hl:l1.length≤200) (hI:Inv (Zx l0) 0) (hS:∀ l ∈ l0,Small 4 l) (hno:∀ k,Prot.low k=none) (X:Nat→Prop) (hX:∀ k,k<w0.heap.size∨k=B1∨k=B2→X k) (hXl:∀ k,X k→k<wS.heap.size) :
  SeqM Tryz.prog 61 #[.pointer (some ⟨B1,0,none⟩),.pointer (some ⟨B2,0,none⟩)] encM X (fun U xs W=>xs.map Prod.fst=(l1.foldl (goM l0.length) ⟨Zx l0,fun _ _=>0,0,[]⟩).out∧Cl wS.heap.size U xs W) (fun pre _=>pre.length<200) wS:=by
 intro l J U W hW hJ hround hU hj0
 have bJ:l0.length≤3:=by have:=hI.n.2;rw [openS_n] at this;exact this
 have hB1:=(hW.block B1 (Xq hb1)).trans hb1;have hB2:=(hW.block B2 (Xq hb2)).trans hb2;have d1:=(Xd hB1 0).trans rfl;have d2:=(Xd hB2 0).trans rfl;have hR0:Kd.C (Kd.slice 87 k87) W A0 l0.length l0:=Kd.Xy (Kd.Xy hr0 hB) hW;have OP:=Lib.hid (opened_do A0 c0 l0 W hR0 hc0 om_ hS hno);go_enter Tryz.func61,Tryz.ntmps61;go_upto_region 1 with (go_at_call 62;refine (OP.out).mono ?_;rintro e w2 ⟨b,rfl,hA,hb2⟩;obtain ⟨bp,bc,bm,bs,bd,br,bt,bq⟩:=b;obtain ⟨P0,q0,e0⟩:∃ A c,bp=.slice A (Zx l0).n c:=Yl (hA.rows.at_ 0 _ rfl);obtain ⟨P1,q1,e1⟩:∃ A c,bc=.slice A 3 c:=Yl (hA.rows.at_ 1 _ rfl);obtain ⟨P2,q2,e2⟩:∃ A c,bm=.slice A 2 c:=Yl (hA.rows.at_ 2 _ rfl);obtain ⟨P3,q3,e3⟩:∃ A c,bs=.slice A 2 c:=Yl (hA.rows.at_ 3 _ rfl);obtain ⟨P4,q4,e4⟩:∃ A c,bd=.slice A (Zx l0).said.length c:=Yl (hA.rows.at_ 4 _ rfl);subst e0 e1 e2 e3 e4);have hg1:=Yc w2 (.cells #[.slice P0 (Zx l0).n q0,.slice P1 3 q1,.slice P2 2 q2,.slice P3 2 q3,.slice P4 (Zx l0).said.length q4] 56);have hbA:=Xf (Below.refl w2.heap.size w2) (.cells #[.slice P0 (Zx l0).n q0,.slice P1 3 q1,.slice P2 2 q2,.slice P3 2 q3,.slice P4 (Zx l0).said.length q4] 56);have hgc:=Yc (w2.alloc (.cells #[.slice P0 (Zx l0).n q0,.slice P1 3 q1,.slice P2 2 q2,.slice P3 2 q3,.slice P4 (Zx l0).said.length q4] 56)) (.cells (c15 (fun _ _=>0)) 99);have hbB:=Xf hbA (.cells (c15 (fun _ _=>0)) 99);have hg1:=Xl hg1 (.cells (c15 (fun _ _=>0)) 99);rw [World.size_alloc] at hgc;have hsz:=Xq hgc;have hWL:=hb2.trans (hbB.mono hb2.size);have hWs:=hb2.size
 have hLP:Lp ((w2.alloc (.cells #[.slice P0 (Zx l0).n q0,.slice P1 3 q1,.slice P2 2 q2,.slice P3 2 q3,.slice P4 (Zx l0).said.length q4] 56)).alloc (.cells (c15 (fun _ _=>0)) 99)) W.heap.size w2.heap.size (w2.heap.size+1) U X W ⟨.slice P0 (Zx l0).n q0,.slice P1 3 q1,.slice P2 2 q2,.slice P3 2 q3,.slice P4 (Zx l0).said.length q4,br,bt,bq⟩ ⟨Zx l0,fun _ _=>0,0,[]⟩ []:=by
  have hle:=hW.size;refine ⟨⟨(hA.below hbB).mono (fun k hk=>⟨om_,om_,om_,fun hu=>by have:=(hU k hu).1;omega,fun x hx=>(by cases hx)⟩),hg1,fun k hk=>⟨om_,om_,om_,fun hu=>by have:=(hU k hu).1;omega,fun x hx=>(by cases hx)⟩,fun hk=>hk.2.1 rfl⟩,hgc,⟨fun x hx=>(by cases hx),fun x hx=>(by cases hx),List.Pairwise.nil⟩,om_,⟨fun hu=>by have:=(hU _ hu).1;omega,fun hu=>by have:=(hU _ hu).1;omega,om_,om_⟩,fun x hx=>(by cases hx),fun k hu=>⟨by have:=(hU k hu).1;omega,(hU k hu).2⟩,Only.of_below hWL _⟩
 have HLP:=Xa.mk hLP;have bL:=Xa.mk (hJ U [] _ _ hj0 (Only.of_below hWL _));have HON:Xa (Only W ((w2.alloc (.cells #[.slice P0 (Zx l0).n q0,.slice P1 3 q1,.slice P2 2 q2,.slice P3 2 q3,.slice P4 (Zx l0).said.length q4] 56)).alloc (.cells (c15 (fun _ _=>0)) 99)) U):=⟨Only.of_below hWL U⟩;have HB1:=Xa.mk hB1;have HB2:=Xa.mk hB2;have HI:=Xa.mk hI;have HJS:=Xa.mk hJ;have HRN:=Xa.mk hround;have HUU:=Xa.mk hU;have HXX:=Xa.mk hX;have HWW:=Xa.mk hW;have HXL:=Xa.mk hXl;have HBB:=Xa.mk hB;have HR1:=Xa.mk hr1;have e2:W.cell? ⟨B2,0,none⟩=some (.slice A1 l1.length c1):=d2;have e2:=Xb hWL e2;clear d1 d2 hg1 hbA hgc hbB hsz hWL hWs hLP hj0 hB1 hB2 hI hJ hround hU hX hW hXl hB hb1 hb2 hR0 OP hA hr1 hr0 hS;generalize bR:w2.heap.size=g at *;clear bR;obtain ⟨gc,hgc⟩:∃ gc,gc=g+1:=⟨_,rfl⟩;rw [← hgc] at HLP ⊢;clear hgc;generalize (w2.alloc (.cells #[.slice P0 (Zx l0).n q0,.slice P1 3 q1,.slice P2 2 q2,.slice P3 2 q3,.slice P4 (Zx l0).said.length q4] 56)).alloc (.cells (c15 (fun _ _=>0)) 99)=wL at *;go_wp2
 go_loopg [15] l1.length (fun kq v15 w'=>∃ (j:Nat) (b:BK) (m:MS) (xs:List El) (U':Nat→Prop),v15=.int .i64 (j:Int)∧Xa (kq+j=l1.length)∧Xa (m=(l1.take j).foldl (goM l0.length) ⟨Zx l0,fun _ _=>0,0,[]⟩)∧Xa (xs.map Prod.fst=m.out)∧Xa (Inv m.s j)∧Xa (CB m.c j)∧Xa (m.at_=j)∧Xa (m.s.n=l0.length)∧Xa (xs.length≤j)∧Xa (Lp w' W.heap.size g gc U' X W b m xs)∧Xa (J U' xs w')∧Xa (Only W w' U)∧Xa (∀ k,U' k→U k∨W.heap.size≤k))
 case atStart=>exact ⟨0,_,_,_,_,rfl,⟨sm_⟩,⟨rfl⟩,⟨rfl⟩,HI,⟨fun _ _=>⟨Int.le_refl _,Int.le_refl _⟩⟩,⟨rfl⟩,⟨openS_n l0⟩,⟨nr_ _⟩,HLP,bL,HON,⟨fun k hk=>.inl hk⟩⟩
 case round=>
  clear HLP bL HON HI;obtain ⟨j,b,m,xs,U',rfl,HK,HM,HXS,HI,HCB,HAT,HN,HLE,HLP,HJ,HON,HUG⟩:=hrel;by_cases hj:j<l1.length
  ·cases gk with
   |zero=>exact absurd HK.out om_
   |succ k1=>
    have z1:decide ((j:Int)<(l1.length:Int))=true:=dt_ om_
    have p0:0≤(j:Int):=om_
    have q0:(j:Int)<(l1.length:Int):=om_
    obtain ⟨ad,eA,hx⟩:=Kd.at_int HR1.out (j:Int) p0 q0;cases eA
    have hxb:=World.block_lt_of_cell? w0 _ hx;have hx1:=((HBB.out.trans (HWW.out.mono HBB.out.size)).cell hxb).trans hx;replace hx:=(World.cell?_of_block (w:=W) (w':=wr) (HLP.out.keep.block _ (nl_ (nl_ hxb HBB.out.size) HWW.out.size) (fun hn=>hn (HXX.out _ (.inl hxb))))).trans hx1;clear hx1 hxb
    have hrd:rd l1 (j:Int)=l1[j]:=by unfold rd;simp [List.getD_eq_getElem?_getD,hj]
    have ej:((j:Int)).toNat=j:=rfl;rw [hrd,ej] at hx
    have hwj:IntKind.i64.wrap ((j:Int)+1)=(j:Int)+1:=by rw [IntKind.wrap_i64];omega
    have HNX:Xa (goM l0.length m l1[j]=(l1.take (j+1)).foldl (goM l0.length) ⟨Zx l0,fun _ _=>0,0,[]⟩):=⟨by rw [List.take_succ_eq_append_getElem hj,List.foldl_append,← HM.out];rfl⟩;have HJL:=Xa.mk hj;generalize l1[j]=who at *;have HCD:=Lib.hid (code_do wr W.heap.size _ b m.s g j HLP.out.st HI.out who);clear hrd ej HM hj;by_cases hcode:code m.s who=0
    ·obtain ⟨i,rfl,hi,hcn⟩:=code_zero hcode;rw [hcode] at HCD;rw [goM_on hcode] at HNX;clear hcode;have hXB:∀ k,X k→k<W.heap.size:=fun k hk=>nl_ (HXL.out k hk) HWW.out.size;have HXB:=Xa.mk hXB;clear hXB;have HFI:=Lib.hid (fun (w3:World) (hb:Below wr.heap.size wr w3)=>first_of w3 W.heap.size _ b m.s g (HLP.out.st.below hb) i hi hcn);go_upto_region 6 with (first|(go_at_call 63;refine (HCD.out).mono ?_;rintro e w3 ⟨rfl,hb3⟩)|(go_at_call 64;refine (HFI.out w3 hb3).mono ?_;rintro e w4 ⟨⟨A4,n4,bC,A5,n5,bD,rfl⟩,hb4⟩));have hb5:=(hb3.trans (hb4.mono hb3.size)).trans ((Xf (Below.refl w4.heap.size w4) (.cells #[.int .i64 (Xp m.s i).f0,.int .i64 (Xp m.s i).f1,.int .i64 (Xp m.s i).f2,.int .i64 (Xp m.s i).f3,.slice A4 n4 bC,.slice A5 n5 bD] 87)).mono (nt_ hb3.size hb4.size));have hq:=Yc w4 (.cells #[.int .i64 (Xp m.s i).f0,.int .i64 (Xp m.s i).f1,.int .i64 (Xp m.s i).f2,.int .i64 (Xp m.s i).f3,.slice A4 n4 bC,.slice A5 n5 bD] 87);have hqle:wr.heap.size≤w4.heap.size:=nt_ hb3.size hb4.size;generalize w4.heap.size=q at *;generalize w4.alloc (.cells #[.int .i64 (Xp m.s i).f0,.int .i64 (Xp m.s i).f1,.int .i64 (Xp m.s i).f2,.int .i64 (Xp m.s i).f3,.slice A4 n4 bC,.slice A5 n5 bD] 87)=w5 at *;have aA:=Xa.mk (HLP.out.box HXB.out hb5 hqle (Xq hq));have bM:=Xa.mk (HJS.out _ _ _ _ HJ.out (Only.of_below hb5 _));have aS:=Xa.mk (HON.out.trans (Only.of_below hb5 _));have bB:=Xa.mk hq;have HQLE:=Xa.mk hqle;have HWR:=Xa.mk (HON.out.size);clear hb3 hb4 hb5 hq hqle HCD HFI HLP HJ HON hx;have HAH:=Lib.hid (ahead_do w5 W.heap.size _ b m.s g j aA.out.st HI.out i hi hcn gc m.c aA.out.ck (fun e=>e.2.2.1 rfl) aA.out.ne HCB.out (by have:=HJL.out;omega));have HST:=Lib.hid (fun (w6:World) (ho:Only w5 w6 (fun k=>k=gc))=>step_do w6 W.heap.size _ b m.s g i j (aA.out.st.other ho (fun e=>e.2.2.1 rfl) aA.out.ne) hi HI.out (by have:=HJL.out;omega) hcn);go_upto_region 8 with (first|(go_at_call 65;refine (HAH.out).mono ?_;rintro e w6 ⟨rfl,aV,aN⟩)|(go_at_call 66;refine (HST.out w6 aN).mono ?_;rintro e w7 ⟨rfl,hL⟩));obtain ⟨b',aU⟩:=aA.out.step (m':=⟨step m.s i,ahead m.s m.c i,m.at_+1,m.out⟩) HXB.out aN aV hL;have nU:∀ k,k=gc→¬ U' k:=fun k e hu=>aA.out.ug.2.1 (.inl (e ▸ hu));obtain ⟨b9,bQ,bE⟩:=hL;have n7:∀ k,(okM W.heap.size g gc (fun k=>U' k∨k=q) xs k∨k=g)→¬ U' k∧W.heap.size≤k:=fun k e=>e.elim (fun e=>⟨fun hu=>e.2.2.2.1 (.inl hu),e.1⟩) (fun e=>⟨fun hu=>aA.out.ug.1 (.inl (e ▸ hu)),e ▸ aA.out.ug.2.2.1⟩);have bG:=Xa.mk (HJS.out _ _ _ _ (HJS.out _ _ _ _ bM.out (aN.mono (fun k e=>nU k e))) (bE.mono (fun k e=>(n7 k e).1)));have aJ:=Xa.mk ((aS.out.trans (aN.mono (fun k e=>.inr (e ▸ aA.out.ug.2.2.2)))).trans (bE.mono (fun k e=>.inr (n7 k e).2)));have bP:w7.heap[q]?=some (.cells #[.int .i64 (Xp m.s i).f0,.int .i64 (Xp m.s i).f1,.int .i64 (Xp m.s i).f2,.int .i64 (Xp m.s i).f3,.slice A4 n4 bC,.slice A5 n5 bD] 87):=(bE.block q (nl_ (Xq bB.out) aN.size) (fun e=>e.elim (fun e=>e.2.2.2.1 (.inr rfl)) (fun e=>aA.out.ug.1 (.inr e.symm)))).trans ((aN.block q (Xq bB.out) (fun e=>aA.out.ug.2.1 (.inr e.symm))).trans bB.out);have aD:=Xa.mk aU;have bO:=Xa.mk bP;have aK:Xa (W.heap.size≤w7.heap.size):=⟨aJ.out.size⟩;clear aU bP nU n7 bQ bE aN aV aA bM aS bB HAH HST;have hbd:=Xh (Below.refl w7.heap.size w7);have HCK:=Xa.mk (aD.out.ck.below hbd);have HI3:Xa (i<3):=⟨by have:=HN.out;omega⟩;have bN:Xa (l0.length≤3):=⟨bJ⟩;have aT:=(aD.out.keep.block B1 (nl_ (HXL.out B1 (HXX.out B1 (.inr (.inl rfl)))) HWW.out.size) (fun hn=>hn (HXX.out B1 (.inr (.inl rfl))))).trans HB1.out;have E0:=Xa.mk (Xb hbd (show w7.cell? ⟨B1,0,none⟩=some (.slice A0 l0.length c0) from (Xd aT 0).trans rfl))
     have i0:(0:Int)≤(i:Int):=om_
     have i1:(i:Int)<3:=by have:=HI3.out;omega
     have i2:decide (i<3)=true:=dt_ HI3.out
     have m0:(0:Int)≤(l0.length:Int):=om_
     have m1:(l0.length:Int)≤3:=om_
     have m2:decide (l0.length≤3)=true:=dt_ bJ
     have m3:¬ (3:Int)<(l0.length:Int):=om_
     have m4:¬ (l0.length:Int)<0:=om_
     clear hbd aT bJ;refine Ul (n:=12) (S:=fun w'=>Below w7.drew.heap.size w7.drew w') (ds:=[11]) #[false,false,false,false,false,false,false,false,false,false,false,false] kr_ rfl rl1_ (Below.refl _ _) (fun hHeld=>?_);refine pu_' 0 (some 29) ?_;refine pu_' 1 (some 30) ?_;refine pu_' 2 (some 31) ?_;refine pu_' 3 (some 32) ?_;refine pu_' 4 (some 33) ?_;refine tk_' 5 (some 34) rfl hHeld (by rintro w' s0;have c0:=Xb s0 E0.out;clear s0;go_simp;with_reducible rfl) ?_;refine tk_' 6 (some 35) rfl hHeld (by rintro w' s0;have c0:=Xb s0 E0.out;clear s0;go_simp;with_reducible rfl) ?_;refine tk_' 7 (some 36) rfl hHeld (by rintro w' s0;have c0:=Xb s0 E0.out;clear s0;go_simp;with_reducible rfl) ?_;refine two_ (i:=8) (j:=10) (Ni:=some 37) (Nj:=some 9) #[true,true,true,true,true,true,true,true,true,false,false,false] #[true,true,true,true,true,true,true,true,false,false,true,false] rfl rfl rfl rfl kr_ de_ de_ (fun K hK=>?_) (fun K hK=>?_)
     focus
      refine Vd Tryz.func67 kr_ rfl #[.slice (some ⟨gc,i * 3,none⟩) l0.length 3] rl1_ rfl rfl ga_ ?_;refine (clone_do w7.drew gc _ i l0.length (HCK.out.below hHeld) HI3.out bN.out).mono ?_;rintro e wc ⟨A9,c9,rfl,aZ,aM⟩;refine ⟨_,rfl,?_⟩;have HBC:=Xa.mk (Below.trans hHeld (aM.mono (Below.size hHeld)));have aI:=Xa.mk aZ;have aC:=Xa.mk aM;clear aZ aM;refine hK.out _ _ HBC.out (fun hHeld=>?_);clear hK K;refine no_ ?_;refine pu_' 9 (some 38) ?_;refine re_' 10 (some 9) fun K hK=>?_;refine value_ (v:=.pointer (some ⟨wc.heap.size,0,none⟩)) (w1:=wc.alloc (.cells #[.int .i64 0,.int .i64 0,.bool false,.int .i64 0,.slice none 0 0] 45)) rfl rfl kr_ ?_;refine hK.out _ _ (Below.trans HBC.out ((Xf (Below.refl _ _) (.cells #[.int .i64 0,.int .i64 0,.bool false,.int .i64 0,.slice none 0 0] 45)).mono HBC.out.size)) (fun hHeld=>?_);clear hK K;refine no_ ?_;have hz:=Yc wc (.cells #[.int .i64 0,.int .i64 0,.bool false,.int .i64 0,.slice none 0 0] 45);have HBE:=Xa.mk (Below.trans HBC.out ((Xf (Below.refl wc.heap.size wc) (.cells #[.int .i64 0,.int .i64 0,.bool false,.int .i64 0,.slice none 0 0] 45)).mono HBC.out.size));have HRE:=Xa.mk (Zd aI.out (fun k hk=>(Xf (Below.refl wc.heap.size wc) (.cells #[.int .i64 0,.int .i64 0,.bool false,.int .i64 0,.slice none 0 0] 45)).block k (Za aI.out k hk)));have HGA:Xa (∀ k,(Value.slice A9 l0.length c9).ownBlock=some k→w7.heap.size≤k):=⟨fun k hk=>Zl aI.out k hk⟩;have HGB:Xa (∀ k,(Value.slice A9 l0.length c9).ownBlock=some k→k≠wc.heap.size):=⟨fun k hk=>by have:=Za aI.out k hk;omega⟩;have HZL:Xa (w7.heap.size≤wc.heap.size):=⟨HBC.out.size⟩;have HDL:Xa (w7.heap.size≤w7.drew.heap.size):=⟨nr_ _⟩;have hz0:=(Xd hz 0).trans rfl;have hz1:=(Xd hz 1).trans rfl;have hz2:=(Xd hz 2).trans rfl;have hz3:=(Xd hz 3).trans rfl;have bK:=(Xd hz 4).trans rfl;have hzf:=Xc hz;have aO:=hzf 0;have aP:=hzf 1;have aF:=hzf 2;have aG:=hzf 3;have aQ:=hzf 4;have HZ:=Xa.mk hz;clear hz hzf aI aC HBC;generalize wc.heap.size=z at *;generalize wc.alloc (.cells #[.int .i64 0,.int .i64 0,.bool false,.int .i64 0,.slice none 0 0] 45)=wE at *;refine rl_' 11 none fun K hK=>?_;refine skip_ (w1:=(((((wE.setCell ⟨z,0,none⟩ (.int .i64 (i:Int))).setCell ⟨z,1,none⟩ (.int .i64 (j:Int))).setCell ⟨z,2,none⟩ (.bool false)).setCell ⟨z,3,none⟩ (.int .i64 0)).setCell ⟨z,4,none⟩ (.slice A9 l0.length c9))) rfl rfl ?_ ?_
      ·first|(go_simp;done)|(go_simp;rfl)
      refine hK.out _ _ ?_;clear hK K;refine Uz kr_ ?_;have aH:=Xa.mk (Xn (cs':=_) (Xn (cs':=_) (Xn (cs':=_) (Xn (cs':=_) (Xn (cs':=_) HZ.out 0 (.int .i64 (i:Int)) rfl) 1 (.int .i64 (j:Int)) rfl) 2 (.bool false) rfl) 3 (.int .i64 0) rfl) 4 (.slice A9 l0.length c9) rfl);have aB:=Xa.mk ((Only.of_below HBE.out (fun k=>k=z)).trans ((only5 wE z (.int .i64 (i:Int)) (.int .i64 (j:Int)) (.bool false) (.int .i64 0) (.slice A9 l0.length c9)).mono (fun k hk=>.inl hk)));have HRW:=Xa.mk (Zi (Zd (w1:=(((((wE.setCell ⟨z,0,none⟩ (.int .i64 (i:Int))).setCell ⟨z,1,none⟩ (.int .i64 (j:Int))).setCell ⟨z,2,none⟩ (.bool false)).setCell ⟨z,3,none⟩ (.int .i64 0)).setCell ⟨z,4,none⟩ (.slice A9 l0.length c9))) HRE.out (fun k hk=>(only5 wE z (.int .i64 (i:Int)) (.int .i64 (j:Int)) (.bool false) (.int .i64 0) (.slice A9 l0.length c9)).block k (Za HRE.out k hk) (HGB.out k hk))) HDL.out);skip;clear HBE HRE HDL hz0 hz1 hz2 hz3 bK aO aP aF aG aQ;generalize (((((wE.setCell ⟨z,0,none⟩ (.int .i64 (i:Int))).setCell ⟨z,1,none⟩ (.int .i64 (j:Int))).setCell ⟨z,2,none⟩ (.bool false)).setCell ⟨z,3,none⟩ (.int .i64 0)).setCell ⟨z,4,none⟩ (.slice A9 l0.length c9))=w9 at *
     rotate_left
     focus
      refine value_ (v:=.pointer (some ⟨w7.heap.size,0,none⟩)) (w1:=w7.drew.alloc (.cells #[.int .i64 0,.int .i64 0,.bool false,.int .i64 0,.slice none 0 0] 45)) rfl rfl kr_ ?_;have hHeld:=Xf (Below.refl w7.drew.heap.size w7.drew) (.cells #[.int .i64 0,.int .i64 0,.bool false,.int .i64 0,.slice none 0 0] 45);have hz:(w7.drew.alloc (.cells #[.int .i64 0,.int .i64 0,.bool false,.int .i64 0,.slice none 0 0] 45)).heap[w7.heap.size]?=some (.cells #[.int .i64 0,.int .i64 0,.bool false,.int .i64 0,.slice none 0 0] 45):=Yc w7.drew (.cells #[.int .i64 0,.int .i64 0,.bool false,.int .i64 0,.slice none 0 0] 45);refine hK.out _ _ hHeld (fun aL=>?_);clear hK K aL;refine no_ ?_;generalize w7.drew.alloc (.cells #[.int .i64 0,.int .i64 0,.bool false,.int .i64 0,.slice none 0 0] 45)=wD at *;refine re_' 8 (some 37) fun K hK=>?_;refine Vd Tryz.func67 kr_ rfl #[.slice (some ⟨gc,i * 3,none⟩) l0.length 3] rl1_ rfl rfl ga_ ?_;refine (clone_do wD gc _ i l0.length (HCK.out.below hHeld) HI3.out bN.out).mono ?_;rintro e wc ⟨A9,c9,rfl,aZ,aM⟩;refine ⟨_,rfl,?_⟩;have HBC:=Xa.mk (Below.trans hHeld (aM.mono (Below.size hHeld)));have aI:=Xa.mk aZ;have aC:=Xa.mk aM;clear aZ aM;refine hK.out _ _ HBC.out (fun hHeld=>?_);clear hK K;refine no_ ?_;refine pu_' 9 (some 38) ?_;have HBE:=HBC;have HRE:=aI;have HDL:Xa (w7.heap.size≤wD.heap.size):=⟨Nat.le_of_lt (Xq hz)⟩;have HGA:Xa (∀ k,(Value.slice A9 l0.length c9).ownBlock=some k→w7.heap.size≤k):=⟨fun k hk=>nt_ (Nat.le_of_lt (Xq hz)) (Zl aI.out k hk)⟩;have HGB:Xa (∀ k,(Value.slice A9 l0.length c9).ownBlock=some k→k≠w7.heap.size):=⟨fun k hk=>by have h1:=Zl aI.out k hk;have h2:=Xq hz;omega⟩;have hz:=(aC.out.block w7.heap.size (Xq hz)).trans hz;have hz0:=(Xd hz 0).trans rfl;have hz1:=(Xd hz 1).trans rfl;have hz2:=(Xd hz 2).trans rfl;have hz3:=(Xd hz 3).trans rfl;have bK:=(Xd hz 4).trans rfl;have hzf:=Xc hz;have aO:=hzf 0;have aP:=hzf 1;have aF:=hzf 2;have aG:=hzf 3;have aQ:=hzf 4;have HZ:=Xa.mk hz;clear hz hzf aI aC HBC;generalize wc=wE at *;refine rl_' 11 none fun K hK=>?_;refine skip_ (w1:=(((((wE.setCell ⟨w7.heap.size,0,none⟩ (.int .i64 (i:Int))).setCell ⟨w7.heap.size,1,none⟩ (.int .i64 (j:Int))).setCell ⟨w7.heap.size,2,none⟩ (.bool false)).setCell ⟨w7.heap.size,3,none⟩ (.int .i64 0)).setCell ⟨w7.heap.size,4,none⟩ (.slice A9 l0.length c9))) rfl rfl ?_ ?_
      ·first|(go_simp;done)|(go_simp;rfl)
      refine hK.out _ _ ?_;clear hK K;refine Uz kr_ ?_;have aH:=Xa.mk (Xn (cs':=_) (Xn (cs':=_) (Xn (cs':=_) (Xn (cs':=_) (Xn (cs':=_) HZ.out 0 (.int .i64 (i:Int)) rfl) 1 (.int .i64 (j:Int)) rfl) 2 (.bool false) rfl) 3 (.int .i64 0) rfl) 4 (.slice A9 l0.length c9) rfl);have aB:=Xa.mk ((Only.of_below HBE.out (fun k=>k=w7.heap.size)).trans ((only5 wE w7.heap.size (.int .i64 (i:Int)) (.int .i64 (j:Int)) (.bool false) (.int .i64 0) (.slice A9 l0.length c9)).mono (fun k hk=>.inl hk)));have HRW:=Xa.mk (Zi (Zd (w1:=(((((wE.setCell ⟨w7.heap.size,0,none⟩ (.int .i64 (i:Int))).setCell ⟨w7.heap.size,1,none⟩ (.int .i64 (j:Int))).setCell ⟨w7.heap.size,2,none⟩ (.bool false)).setCell ⟨w7.heap.size,3,none⟩ (.int .i64 0)).setCell ⟨w7.heap.size,4,none⟩ (.slice A9 l0.length c9))) HRE.out (fun k hk=>(only5 wE w7.heap.size (.int .i64 (i:Int)) (.int .i64 (j:Int)) (.bool false) (.int .i64 0) (.slice A9 l0.length c9)).block k (Za HRE.out k hk) (HGB.out k hk))) HDL.out);skip;clear HBE HRE HDL hz0 hz1 hz2 hz3 bK aO aP aF aG aQ;generalize (((((wE.setCell ⟨w7.heap.size,0,none⟩ (.int .i64 (i:Int))).setCell ⟨w7.heap.size,1,none⟩ (.int .i64 (j:Int))).setCell ⟨w7.heap.size,2,none⟩ (.bool false)).setCell ⟨w7.heap.size,3,none⟩ (.int .i64 0)).setCell ⟨w7.heap.size,4,none⟩ (.slice A9 l0.length c9))=w9 at *;generalize hzz:w7.heap.size=z at aH aB HGB HZ ⊢;have HZL:Xa (w7.heap.size≤z):=⟨Nat.le_of_eq hzz⟩;clear hzz
     all_goals
      have aC:Xa (Below w7.heap.size w7 w9):=⟨aB.out.os,aB.out.tape,aB.out.output,aB.out.size,fun k hk=>aB.out.block k hk (fun e=>by have:=HZL.out;omega)⟩;have bF:=(aC.out.block q (Xq bO.out)).trans bO.out;have q0:w9.cell? ⟨q,0,none⟩=some (.int .i64 (Xp m.s i).f0):=(Xd bF 0).trans rfl;have q1:w9.cell? ⟨q,1,none⟩=some (.int .i64 (Xp m.s i).f1):=(Xd bF 1).trans rfl;have q2:w9.cell? ⟨q,2,none⟩=some (.int .i64 (Xp m.s i).f2):=(Xd bF 2).trans rfl
      have hl3:(Yo l0.length (ahead m.s m.c i i)).length=l0.length:=by simp [Yo]
      have bA:=Xa.mk hl3;clear bF aB hl3;by_cases k3:(Xp m.s i).f0=3
      ·rw [k3] at q0;have HMK:Xa (marked l0.length m.s (ahead m.s m.c i) i m.at_=[⟨(i:Int),(m.at_:Int),false,(Xp m.s i).f2,Yo l0.length (ahead m.s m.c i i)⟩]):=⟨if_pos k3⟩;clear k3 q1;have hz3:w9.cell? ⟨z,3,none⟩=some (.int .i64 0):=(Xd aH.out 3).trans rfl;have hzf:=Xc aH.out 3;have HPA:=Xa.mk (Xn (cs':=#[.int .i64 (i:Int),.int .i64 (j:Int),.bool false,.int .i64 (Xp m.s i).f2,.slice A9 l0.length c9]) aH.out 3 (.int .i64 (Xp m.s i).f2) rfl);have HOA:=Xa.mk (Uf w9 z 3 (.int .i64 (Xp m.s i).f2));go_upto_region 14 with (fail);clear q0 q2 hz3 hzf;generalize w9.setCell ⟨z,3,none⟩ (.int .i64 (Xp m.s i).f2)=wA at *;have a0:=(Xd HPA.out 0).trans rfl;have a1:=(Xd HPA.out 1).trans rfl;have a2:=(Xd HPA.out 2).trans rfl;have a3:=(Xd HPA.out 3).trans rfl;have a4:=(Xd HPA.out 4).trans rfl;have HBT:Xa (Below w7.heap.size w7 wA):=⟨aC.out.trans ⟨HOA.out.os,HOA.out.tape,HOA.out.output,HOA.out.size,fun k hk=>HOA.out.block k (nl_ hk aC.out.size) (fun e=>by have:=HZL.out;omega)⟩⟩;have HRT:=Xa.mk (Zd (w1:=wA) HRW.out (fun k hk=>HOA.out.block k (Za HRW.out k hk) (HGB.out k hk)));have HJT:=Xa.mk (HJS.out _ _ _ _ bG.out (Only.of_below HBT.out _));have HYX:=HRN.out U' xs (⟨(i:Int),(j:Int),false,(Xp m.s i).f2,Yo l0.length (ahead m.s m.c i i)⟩,(A9,l0.length,c9)) wA HJT.out (by have:=HLE.out;have:=HJL.out;omega);simp only [encM,El.v] at HYX;obtain ⟨yf,yt,ya,yb,hy,hR⟩:=HYX;refine (wpIn_wide (n:=0)).1 ?_
       gi_wp2
       refine ⟨rfl,hR.mono ?_⟩;rintro e wB ⟨rfl,U9,aX,aY,aW⟩;clear hR hy a0 a1 a2 a3 a4;have bH:=Xa.mk aX;have aB:=Xa.mk aY;have aR:=Xa.mk aW;clear aX aY aW
       gi_wp2
       go_wp2;go_roundg k1
       case measure=>omega
       case rel=>
        refine ⟨j+1,b',⟨step m.s i,ahead m.s m.c i,m.at_+1,m.out ++ marked l0.length m.s (ahead m.s m.c i) i m.at_⟩,xs ++ [(⟨(i:Int),(j:Int),false,(Xp m.s i).f2,Yo l0.length (ahead m.s m.c i i)⟩,(A9,l0.length,c9))],U9,rfl,⟨by have:=HK.out;omega⟩,HNX,⟨?_⟩,⟨HI.out.step hi hcn⟩,⟨HCB.out.ahead _ _⟩,⟨by rw [HAT.out]⟩,⟨(step_n _ _).trans HN.out⟩,⟨by have:=HLE.out;rw [List.length_append,List.length_singleton];omega⟩,⟨aD.out.mark (W1:=wA) HXB.out HBT.out ?_ HGA.out (aB.out.mono (fun k hk=>.inl hk)) (fun k hk=>(aR.out k hk).elim (fun h=>.inl (.inl h)) .inr) rfl rfl⟩,bH,⟨(aJ.out.trans (Only.of_below HBT.out _)).trans (aB.out.mono (fun k hk=>HUG.out k hk))⟩,⟨fun k hk=>(aR.out k hk).elim (fun h=>HUG.out k h) (fun h=>.inr (by have:=aK.out;have:=HBT.out.size;omega))⟩⟩
        ·rw [List.map_append,HXS.out,HMK.out,HAT.out];rfl
        ·have:=HRT.out
         rw [← bA.out] at this;exact Zi (by rw [bA.out] at this ⊢;exact this) (aK.out)
      ·by_cases k4:(Xp m.s i).f0=4
       ·rw [k4] at q0;have HMK:Xa (marked l0.length m.s (ahead m.s m.c i) i m.at_=[⟨(i:Int),(m.at_:Int),true,(Xp m.s i).f1,Yo l0.length (ahead m.s m.c i i)⟩]):=⟨(if_neg k3).trans (if_pos k4)⟩;clear k3 k4 q2;have hz2:w9.cell? ⟨z,2,none⟩=some (.bool false):=(Xd aH.out 2).trans rfl;have hz3:w9.cell? ⟨z,3,none⟩=some (.int .i64 0):=(Xd aH.out 3).trans rfl;have aF:=Xc aH.out 2;have aG:=Xc aH.out 3;go_upto_region 13 with (fail)
        go_region
        all_goals skip
        have HPA:Xa (((w9.setCell ⟨z,2,none⟩ (.bool true)).setCell ⟨z,3,none⟩ (.int .i64 (Xp m.s i).f1)).drew.heap[z]?=some (.cells #[.int .i64 (i:Int),.int .i64 (j:Int),.bool true,.int .i64 (Xp m.s i).f1,.slice A9 l0.length c9] 45 (0,0))):=⟨Xn (Xn aH.out 2 (.bool true) rfl) 3 (.int .i64 (Xp m.s i).f1) rfl⟩;have HOA:=Xa.mk (((Uf w9 z 2 (.bool true)).trans ((Uf _ z 3 (.int .i64 (Xp m.s i).f1)).mono (fun k h=>.inl h))).trans (Only.of_below (Xh (Below.refl _ _)) _));clear q0 q1 hz2 hz3 aF aG;generalize ((w9.setCell ⟨z,2,none⟩ (.bool true)).setCell ⟨z,3,none⟩ (.int .i64 (Xp m.s i).f1)).drew=wA at *;go_upto_region 14 with (fail);have a0:=(Xd HPA.out 0).trans rfl;have a1:=(Xd HPA.out 1).trans rfl;have a2:=(Xd HPA.out 2).trans rfl;have a3:=(Xd HPA.out 3).trans rfl;have a4:=(Xd HPA.out 4).trans rfl;have HBT:Xa (Below w7.heap.size w7 wA):=⟨aC.out.trans ⟨HOA.out.os,HOA.out.tape,HOA.out.output,HOA.out.size,fun k hk=>HOA.out.block k (nl_ hk aC.out.size) (fun e=>by have:=HZL.out;omega)⟩⟩;have HRT:=Xa.mk (Zd (w1:=wA) HRW.out (fun k hk=>HOA.out.block k (Za HRW.out k hk) (HGB.out k hk)));have HJT:=Xa.mk (HJS.out _ _ _ _ bG.out (Only.of_below HBT.out _));have HYX:=HRN.out U' xs (⟨(i:Int),(j:Int),true,(Xp m.s i).f1,Yo l0.length (ahead m.s m.c i i)⟩,(A9,l0.length,c9)) wA HJT.out (by have:=HLE.out;have:=HJL.out;omega);simp only [encM,El.v] at HYX;obtain ⟨yf,yt,ya,yb,hy,hR⟩:=HYX;refine (wpIn_wide (n:=0)).1 ?_
        gi_wp2
        refine ⟨rfl,hR.mono ?_⟩;rintro e wB ⟨rfl,U9,aX,aY,aW⟩;clear hR hy a0 a1 a2 a3 a4;have bH:=Xa.mk aX;have aB:=Xa.mk aY;have aR:=Xa.mk aW;clear aX aY aW
        gi_wp2
        go_wp2;go_roundg k1
        case measure=>omega
        case rel=>
         refine ⟨j+1,b',⟨step m.s i,ahead m.s m.c i,m.at_+1,m.out ++ marked l0.length m.s (ahead m.s m.c i) i m.at_⟩,xs ++ [(⟨(i:Int),(j:Int),true,(Xp m.s i).f1,Yo l0.length (ahead m.s m.c i i)⟩,(A9,l0.length,c9))],U9,rfl,⟨by have:=HK.out;omega⟩,HNX,⟨?_⟩,⟨HI.out.step hi hcn⟩,⟨HCB.out.ahead _ _⟩,⟨by rw [HAT.out]⟩,⟨(step_n _ _).trans HN.out⟩,⟨by have:=HLE.out;rw [List.length_append,List.length_singleton];omega⟩,⟨aD.out.mark (W1:=wA) HXB.out HBT.out ?_ HGA.out (aB.out.mono (fun k hk=>.inl hk)) (fun k hk=>(aR.out k hk).elim (fun h=>.inl (.inl h)) .inr) rfl rfl⟩,bH,⟨(aJ.out.trans (Only.of_below HBT.out _)).trans (aB.out.mono (fun k hk=>HUG.out k hk))⟩,⟨fun k hk=>(aR.out k hk).elim (fun h=>HUG.out k h) (fun h=>.inr (by have:=aK.out;have:=HBT.out.size;omega))⟩⟩
         ·rw [List.map_append,HXS.out,HMK.out,HAT.out];rfl
         ·have:=HRT.out
          rw [← bA.out] at this;exact Zi (by rw [bA.out] at this ⊢;exact this) (aK.out)
       ·have HMK:Xa (marked l0.length m.s (ahead m.s m.c i) i m.at_=[]):=⟨(if_neg k3).trans (if_neg k4)⟩
        have y3:((Xp m.s i).f0 == 3)=false:=by simpa using k3
        have y3':decide ((Xp m.s i).f0=3)=false:=df_ k3
        have y4:((Xp m.s i).f0 == 4)=false:=by simpa using k4
        have y4':decide ((Xp m.s i).f0=4)=false:=df_ k4;clear k3 k4;go_wp2;go_roundg k1
        case measure=>omega
        case rel=>exact ⟨j+1,b',⟨step m.s i,ahead m.s m.c i,m.at_+1,m.out⟩,xs,U',rfl,⟨by have:=HK.out;omega⟩,⟨by rw [← HNX.out,HMK.out,List.append_nil]⟩,HXS,⟨HI.out.step hi hcn⟩,⟨HCB.out.ahead _ _⟩,⟨by rw [HAT.out]⟩,⟨(step_n _ _).trans HN.out⟩,⟨by have:=HLE.out;omega⟩,⟨(aD.out.below aC.out rfl rfl).less (fun k hk=>.inl hk)⟩,⟨HJS.out _ _ _ _ bG.out (Only.of_below aC.out _)⟩,⟨aJ.out.trans (Only.of_below aC.out _)⟩,HUG⟩
    ·rw [goM_off hcode] at HNX
     have y1:(code m.s who != 0)=true:=by simpa using hcode
     have y2:(code m.s who == 0)=false:=by simpa using hcode
     clear hcode;generalize code m.s who=cd at *;go_wp2_with (first|(go_at_call 63;refine (HCD.out).mono ?_;rintro e w3 ⟨rfl,hb3⟩));go_roundg k1
     case measure=>omega
     case rel=>exact ⟨j+1,b,⟨m.s,m.c,m.at_+1,m.out⟩,xs,U',rfl,⟨by have:=HK.out;omega⟩,HNX,HXS,⟨HI.out.more (Nat.le_succ j)⟩,⟨HCB.out.more (Nat.le_succ j)⟩,⟨by rw [HAT.out]⟩,HN,⟨by have:=HLE.out;omega⟩,⟨HLP.out.below hb3 rfl rfl⟩,⟨HJS.out _ _ _ _ HJ.out (Only.of_below hb3 _)⟩,⟨HON.out.trans (Only.of_below hb3 _)⟩,HUG⟩
  ·have hjl:j=l1.length:=by have:=HK.out;omega
   have z1:decide ((j:Int)<(l1.length:Int))=false:=df_ om_;have z2:decide (j<l1.length)=false:=df_ om_;have HJL:=Xa.mk hjl;clear hj hjl;go_wp2;go_end0;refine ⟨⟨_,rfl⟩,U',xs,HJ.out,⟨?_,⟨fun x hx=>Zi (HLP.out.cl.row x hx) HWW.out.size,HLP.out.cl.out,HLP.out.cl.apart⟩⟩,HON.out⟩;rw [HXS.out,HM.out,HJL.out,List.take_length]
end Go.Proofs.YtlhogkfmdnpmkaaGreat.Mean
