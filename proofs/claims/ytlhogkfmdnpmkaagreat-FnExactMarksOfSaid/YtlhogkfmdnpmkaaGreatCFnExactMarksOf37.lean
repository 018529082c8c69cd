import Derived.Test.YtlhogkfmdnpmkaaGreatCFnExactMarksOf35
set_option linter.unusedSectionVars false
set_option linter.unusedVariables false
namespace Go.Proofs.YtlhogkfmdnpmkaaGreat.Mean
open RowKit GMarks YtlhogkfmdnpmkaaGreatW.PrintWords YtlhogkfmdnpmkaaGreatW.PrintMore
variable [Prot]
theorem inSay:(Tryz.prog.info? 118).map (fun i=>(i.zero,i.size,i.bytes))=some (some (.agg #[(.int .i64 0),(.int .i64 0)]),2,16):=kr_
theorem inProc:(Tryz.prog.info? 85).map (fun i=>(i.zero,i.size,i.bytes))=some (some (.agg #[(.slice none 0 0),(.slice none 0 0),(.int .i64 0),(.int .i64 0),(.int .i64 0)]),5,72):=kr_
theorem inInts:(Tryz.prog.info? 23).map (fun i=>(i.zero,i.size,i.bytes))=some (some (.slice none 0 0),1,24):=kr_
structure BK where
 p:Value
 c:Value
 m:Value
 s:Value
 d:Value
 r:Nat→Value
 t:Nat→Value
 q:Nat→Value
def Yn (b:BK) (s:WS) (i j:Nat):Value:=
 if j=0 then b.r i else if j=1 then b.t i else if j=2 then .int .i64 (s.proc i).mode else if j=3 then .int .i64 (s.proc i).on else .int .i64 (s.proc i).room
def saidC (l:List (Int × Int)):List Value:=l.flatMap fun x=>[.int .i64 x.1,.int .i64 x.2]
def lay (b:BK) (s:WS):Nat→Option Row
 |0=>some ⟨b.p,85,5,s.n,cellsOf 5 s.n (Yn b s)⟩
 |1=>some ⟨b.c,3,1,3,ints 3 s.cell⟩
 |2=>some ⟨b.m,3,1,2,ints 2 s.room⟩
 |3=>some ⟨b.s,23,1,2,(List.range 2).map b.q⟩
 |4=>some ⟨b.d,118,2,s.said.length,saidC s.said⟩
 |5=>some ⟨b.q 0,3,0,(s.sign 0).length,nums .i64 (s.sign 0)⟩
 |6=>some ⟨b.q 1,3,0,(s.sign 1).length,nums .i64 (s.sign 1)⟩
 |k+7=>if k<s.n then some ⟨b.r k,3,1,3,ints 3 (s.proc k).regs⟩ else none
structure At (W:World) (base:Nat) (ok:Nat→Prop) (b:BK) (s:WS):Prop where
 rows:Rows W base ok (lay b s)
 tree:∀ i,i<s.n→Kd.V k87 87 W base (fun k=>ok k∧free (lay b s) k) (b.t i) (s.proc i).todo
 low:∀ k o,Prot.low k=some o→ok k∧k<base∧W.heap[k]?=some o
theorem At.step {W W':World} {base:Nat} {ok:Nat→Prop} {b:BK} {s:WS} (h:At W base ok b s) (hm:∀ k,ok k→k<W.heap.size→W'.heap[k]?=W.heap[k]?):At W' base ok b s:=
 ⟨h.rows.step hm,fun i hi=>Kd.V_step (h.tree i hi) (fun k hk=>hm k hk.1),fun k o ho=>⟨(h.low k o ho).1,(h.low k o ho).2.1,(hm k (h.low k o ho).1 (Array.getElem?_eq_some_iff.1 (h.low k o ho).2.2).1).trans (h.low k o ho).2.2⟩⟩
theorem At.below {W W':World} {base:Nat} {ok:Nat→Prop} {b:BK} {s:WS} (h:At W base ok b s) (hb:Below W.heap.size W W'):At W' base ok b s:=h.step (fun k _ hlt=>hb.block k hlt)
theorem At.mono {W:World} {base:Nat} {ok ok':Nat→Prop} {b:BK} {s:WS} (h:At W base ok b s) (hk:∀ k,ok k→ok' k):At W base ok' b s:=
 ⟨h.rows.mono hk,fun i hi=>Kd.Ut (h.tree i hi) (fun k hk'=>⟨hk k hk'.1,hk'.2⟩),fun k o ho=>⟨hk k (h.low k o ho).1,(h.low k o ho).2⟩⟩
theorem At.lt {W:World} {base:Nat} {ok:Nat→Prop} {b:BK} {s:WS} (h:At W base ok b s):At W base (fun k=>ok k∧k<W.heap.size) b s:=
 ⟨h.rows.ge.mono (fun k hk=>⟨hk.1,hk.2.2⟩),fun i hi=>Kd.Ut (Kd.V_bound (h.tree i hi)) (fun k hk=>⟨⟨hk.1.1,hk.2⟩,hk.1.2⟩),fun k o ho=>⟨⟨(h.low k o ho).1,(Array.getElem?_eq_some_iff.1 (h.low k o ho).2.2).1⟩,(h.low k o ho).2⟩⟩
theorem At.set {W W':World} {base:Nat} {ok:Nat→Prop} {b b':BK} {s s':WS} (h:At W base ok b s) (hup:∀ k,W.heap.size≤k→ok k) (i:Nat) {r r':Row} (hi:lay b s i=some r) (hg:W.grownBy W' r.v.ownBlock) (h':r'.At W' base)
  (hat:r'.v.ownBlock=r.v.ownBlock∨r'.v.ownBlock=none∨∃ g,r'.v.ownBlock=some g∧W.heap.size≤g) (hf:∀ k,lay b' s' k=if k=i then some r' else lay b s k) (hn:s'.n=s.n)
  (ht:∀ j,j<s.n→Kd.V k87 87 W base (fun k=>ok k∧free (lay b s) k) (b'.t j) (s'.proc j).todo):At W' base ok b' s'∧Only W W' ok:=by
 refine ⟨⟨(h.rows.set i hi hg h' hat hf).mono (fun k hk=>hk.elim id (hup k)),fun j hj=>?_,fun k o ho=>⟨(h.low k o ho).1,(h.low k o ho).2.1,(hg.block k (Array.getElem?_eq_some_iff.1 (h.low k o ho).2.2).1 (fun e=>by have:=(h.rows.at_ i r hi).ge k e.symm;have:=(h.low k o ho).2.1;omega)).trans (h.low k o ho).2.2⟩⟩,Only.of_grown hg (fun k hk=>h.rows.ok_ i r hi k hk)⟩;refine Kd.Ut (Kd.V_step (Kd.V_bound (ht j (hn ▸ hj))) (fun k hk hlt=>hg.block k hlt (fun e=>hk.1.2 i r hi e.symm))) (fun k hk=>⟨hk.1.1,fun a x hx hxk=>?_⟩);rw [hf] at hx;by_cases ha:a=i
 ·rw [if_pos ha] at hx;injection hx with hx;subst hx
  rcases hat with e|e|⟨g,e,hle⟩
  ·exact hk.1.2 i r hi (e ▸ hxk)
  ·rw [e] at hxk;cases hxk
  ·rw [e] at hxk;injection hxk with hxk;have:=hk.2;omega
 ·rw [if_neg ha] at hx;exact hk.1.2 a x hx hxk
structure Blk5 (W:World) (v:Value) (n m:Nat) (f:Nat→Nat→Value) (g cap:Nat):Prop where
 v_:v=.slice (some ⟨g,0,none⟩) n cap
 lt:g<W.heap.size
 cell:∀ i j,i<n→j<m→W.cell? ⟨g,i * m+j,none⟩=some (f i j)
 free_:∀ k,W.frozen? ⟨g,k,none⟩=false
theorem row_form {W:World} {base:Nat} {e:TypeId} {size n:Nat} {v:Value} {xs:List Value} (h:W.ownsRow base e size v n xs) (hn:0<n) :
  ∃ g cap,v=.slice (some ⟨g,0,none⟩) n cap∧base≤g∧g<W.heap.size∧(∀ k u,xs[k]?=some u→W.cell? ⟨g,k,none⟩=some u)∧(∀ k,W.frozen? ⟨g,k,none⟩=false)∧n≤cap:=by
 have hc:∀ g,v.ownBlock=some g→∀ j u,xs[j]?=some u→W.cell? ((⟨g,0,none⟩:Addr).add j)=some u:=fun g hg=>h.cells hg
 rcases h.2 with ⟨rfl,h0⟩|⟨g,cap,cur,rfl,hb,hh,hle,_⟩
 ·omega
 ·refine ⟨g,cap,rfl,hb,(Array.getElem?_eq_some_iff.1 hh).1,fun k u hk=>?_,fun k=>by simp [World.frozen?,hh],hle⟩
  have:=hc g rfl k u hk
  rwa [add_plain] at this
theorem At.procs {W:World} {base:Nat} {ok:Nat→Prop} {b:BK} {s:WS} (h:At W base ok b s) (hn:0<s.n):∃ g cap,Blk5 W b.p s.n 5 (Yn b s) g cap:=by
 obtain ⟨g,cap,e,_,hlt,hc,hf,_⟩:=row_form (h.rows.at_ 0 _ rfl) hn;exact ⟨g,cap,e,hlt,fun i j hi hj=>hc _ _ (cellsOf_get _ hi hj),hf⟩
structure BlkI (W:World) (v:Value) (n:Nat) (f:Nat→Int) (g cap:Nat):Prop where
 v_:v=.slice (some ⟨g,0,none⟩) n cap
 lt:g<W.heap.size
 cell:∀ i,i<n→W.cell? ⟨g,i,none⟩=some (.int .i64 (f i))
 free_:∀ k,W.frozen? ⟨g,k,none⟩=false
theorem ints_form {W:World} {base n:Nat} {e:TypeId} {v:Value} {f:Nat→Int} (h:W.ownsRow base e 1 v n (ints n f)) (hn:0<n):∃ g cap,BlkI W v n f g cap:=by
 obtain ⟨g,cap,e,_,hlt,hc,hf,_⟩:=row_form h hn;exact ⟨g,cap,e,hlt,fun i hi=>hc _ _ (ints_get f hi),hf⟩
theorem At.cells {W:World} {base:Nat} {ok:Nat→Prop} {b:BK} {s:WS} (h:At W base ok b s):∃ g cap,BlkI W b.c 3 s.cell g cap:=ints_form (h.rows.at_ 1 _ rfl) om_
theorem At.rooms {W:World} {base:Nat} {ok:Nat→Prop} {b:BK} {s:WS} (h:At W base ok b s):∃ g cap,BlkI W b.m 2 s.room g cap:=ints_form (h.rows.at_ 2 _ rfl) om_
theorem lay_reg (b:BK) (s:WS) {i:Nat} (hi:i<s.n):lay b s (i+7)=some ⟨b.r i,3,1,3,ints 3 (s.proc i).regs⟩:=if_pos hi
theorem At.regs {W:World} {base:Nat} {ok:Nat→Prop} {b:BK} {s:WS} (h:At W base ok b s) {i:Nat} (hi:i<s.n):∃ g cap,BlkI W (b.r i) 3 (s.proc i).regs g cap:=ints_form (h.rows.at_ (i+7) _ (lay_reg b s hi)) om_
theorem At.signs {W:World} {base:Nat} {ok:Nat→Prop} {b:BK} {s:WS} (h:At W base ok b s):∃ g cap,b.s=.slice (some ⟨g,0,none⟩) 2 cap∧g<W.heap.size∧(∀ j,j<2→W.cell? ⟨g,j,none⟩=some (b.q j))∧(∀ k,W.frozen? ⟨g,k,none⟩=false):=by
 obtain ⟨g,cap,e,_,hlt,hc,hf,_⟩:=row_form (h.rows.at_ 3 _ rfl) (show 0<2 by omega);exact ⟨g,cap,e,hlt,fun j hj=>hc j _ (by simp [List.getElem?_map,List.getElem?_range hj]),hf⟩
theorem At.queue {W:World} {base:Nat} {ok:Nat→Prop} {b:BK} {s:WS} (h:At W base ok b s) {j:Nat} (hj:j<2):QRow W base 3 1 (b.q j) (s.sign j).length (nums .i64 (s.sign j)):=by
 rcases (show j=0∨j=1 by omega) with rfl|rfl
 ·exact h.rows.at_ 5 _ rfl
 ·exact h.rows.at_ 6 _ rfl
theorem At.Yf {W:World} {base:Nat} {ok:Nat→Prop} {b:BK} {s:WS} {P cp:Nat} (h:At W base ok b s) (hn:0<s.n) (hv:b.p=.slice (some ⟨P,0,none⟩) s.n cp):Blk5 W b.p s.n 5 (Yn b s) P cp:=by
 obtain ⟨g,cap,H⟩:=h.procs hn;have e:=H.v_.symm.trans hv;injection e with e1 e2 e3;injection e1 with e1;injection e1 with e1;subst e1;subst e3;exact H
theorem ints_at {W:World} {n:Nat} {v:Value} {f:Nat→Int} {P cp:Nat} (h:∃ g cap,BlkI W v n f g cap) (hv:v=.slice (some ⟨P,0,none⟩) n cp):BlkI W v n f P cp:=by
 obtain ⟨g,cap,H⟩:=h;have e:=H.v_.symm.trans hv;injection e with e1 e2 e3;injection e1 with e1;injection e1 with e1;subst e1;subst e3;exact H
theorem stored {W:World} {base:Nat} {e:TypeId} {size n cap g:Nat} {v:Value} {xs:List Value} (h:W.ownsRow base e size v n xs) (hv:v=.slice (some ⟨g,0,none⟩) n cap) (j:Nat) (u:Value) :
  (W.setCell ⟨g,j,none⟩ u).ownsRow base e size v n (xs.set j u)∧W.grownBy (W.setCell ⟨g,j,none⟩ u) v.ownBlock:=by
 subst hv;exact h.stored j u
theorem procF_congr (b:BK) {s s':WS} (h:∀ k,(s'.proc k).mode=(s.proc k).mode∧(s'.proc k).on=(s.proc k).on∧(s'.proc k).room=(s.proc k).room):Yn b s'=Yn b s:=by
 funext i j
 obtain ⟨h1,h2,h3⟩:=h i;unfold Yn;rw [h1,h2,h3]
theorem At.reg {W:World} {base:Nat} {ok:Nat→Prop} {b:BK} {s:WS} (h:At W base ok b s) (hup:∀ k,W.heap.size≤k→ok k) {i R cr:Nat} (hi:i<s.n) (a:Nat) (x:Int) (HR:BlkI W (b.r i) 3 (s.proc i).regs R cr) :
  At (W.setCell ⟨R,a,none⟩ (.int .i64 x)) base ok b (doReg s i (a:Int) x)∧Only W (W.setCell ⟨R,a,none⟩ (.int .i64 x)) ok:=by
 have hs:=stored (h.rows.at_ (i+7) _ (lay_reg b s hi)) HR.v_ a (.int .i64 x);have hp:∀ k,(doReg s i (a:Int) x).proc k=if k=i then { s.proc i with regs:=up (s.proc i).regs a x } else s.proc k:=fun k=>rfl;refine At.set h hup (i+7) (lay_reg b s hi) hs.2 (r':=⟨b.r i,3,1,3,ints 3 (up (s.proc i).regs a x)⟩) (by rw [ints_set] at hs;exact hs.1) (.inl rfl) (fun k=>?_) rfl (fun j hj=>?_)
 ·have e0:Yn b (doReg s i (a:Int) x)=Yn b s:=procF_congr b (fun k=>by rw [hp];split <;> rename_i e <;> (try subst e) <;> exact ⟨rfl,rfl,rfl⟩)
  match k with
  |0=>show some (Row.mk b.p _ 5 s.n (cellsOf 5 s.n (Yn b (doReg s i (a:Int) x))))=_;rw [e0,if_neg om_];rfl
  |1|2|3|4|5|6=>rw [if_neg om_];rfl
  |k+7=>
   by_cases e:k=i
   ·subst e;rw [if_pos rfl,lay_reg b (doReg s k (a:Int) x) (show k<s.n from hi),hp,if_pos rfl]
   ·rw [if_neg om_];show (if k<s.n then some (Row.mk (b.r k) _ 1 3 (ints 3 ((doReg s i (a:Int) x).proc k).regs)) else none)=_
    rw [hp,if_neg e];rfl
 ·have ht:((doReg s i (a:Int) x).proc j).todo=(s.proc j).todo:=by rw [hp];split <;> rename_i e <;> (try subst e) <;> rfl
  rw [ht];exact h.tree j hj
theorem At.cellSet {W:World} {base:Nat} {ok:Nat→Prop} {b:BK} {s:WS} (h:At W base ok b s) (hup:∀ k,W.heap.size≤k→ok k) {C cc:Nat} (a:Nat) (x:Int) (HC:BlkI W b.c 3 s.cell C cc) :
  At (W.setCell ⟨C,a,none⟩ (.int .i64 x)) base ok b { s with cell:=up s.cell a x }∧Only W (W.setCell ⟨C,a,none⟩ (.int .i64 x)) ok:=by
 have hs:=stored (h.rows.at_ 1 _ rfl) HC.v_ a (.int .i64 x);refine At.set h hup 1 rfl hs.2 (r':=⟨b.c,3,1,3,ints 3 (up s.cell a x)⟩) (by rw [ints_set] at hs;exact hs.1) (.inl rfl) (fun k=>?_) rfl (fun j hj=>h.tree j hj)
 match k with
 |0|1|2|3|4|5|6|k+7=>rfl
theorem At.roomSet {W:World} {base:Nat} {ok:Nat→Prop} {b:BK} {s:WS} (h:At W base ok b s) (hup:∀ k,W.heap.size≤k→ok k) {C cc:Nat} (a:Nat) (x:Int) (HC:BlkI W b.m 2 s.room C cc) :
  At (W.setCell ⟨C,a,none⟩ (.int .i64 x)) base ok b { s with room:=up s.room a x }∧Only W (W.setCell ⟨C,a,none⟩ (.int .i64 x)) ok:=by
 have hs:=stored (h.rows.at_ 2 _ rfl) HC.v_ a (.int .i64 x);refine At.set h hup 2 rfl hs.2 (r':=⟨b.m,3,1,2,ints 2 (up s.room a x)⟩) (by rw [ints_set] at hs;exact hs.1) (.inl rfl) (fun k=>?_) rfl (fun j hj=>h.tree j hj)
 match k with
 |0|1|2|3|4|5|6|k+7=>rfl
theorem At.fld {W:World} {base:Nat} {ok:Nat→Prop} {b b':BK} {s:WS} (h:At W base ok b s) (hup:∀ k,W.heap.size≤k→ok k) {i j P cp:Nat} (hi:i<s.n) (hj:j<5) (u:Value) (p:PS) (HP:Blk5 W b.p s.n 5 (Yn b s) P cp)
  (hb:b' = { b with t:=b'.t }) (hr:p.regs=(s.proc i).regs) (hF:∀ a c,c<5→Yn b' (s.Yq i p) a c=if a=i∧c=j then u else Yn b s a c)
  (ht:∀ k,k<s.n→Kd.V k87 87 W base (fun k=>ok k∧free (lay b s) k) (b'.t k) ((s.Yq i p).proc k).todo) :
  At (W.setCell ⟨P,i * 5+j,none⟩ u) base ok b' (s.Yq i p)∧Only W (W.setCell ⟨P,i * 5+j,none⟩ u) ok:=by
 have hs:=stored (h.rows.at_ 0 _ rfl) HP.v_ (i * 5+j) u;refine At.set h hup 0 rfl hs.2 (r':=⟨b.p,85,5,s.n,cellsOf 5 s.n (Yn b' (s.Yq i p))⟩) ?_ (.inl rfl) (fun k=>?_) rfl ht
 ·have e:cellsOf 5 s.n (Yn b' (s.Yq i p))=(cellsOf 5 s.n (Yn b s)).set (i * 5+j) u:=by
   rw [cellsOf_set _ hi hj];exact cellsOf_congr (fun a c _ hc=>hF a c hc)
  show World.ownsRow _ base _ 5 b.p s.n _
  rw [e];exact hs.1
 ·match k with
  |0=>rw [hb];rfl
  |1|2|3|4|5|6=>rw [hb];rfl
  |k+7=>
   show (if k<s.n then some (Row.mk (b'.r k) _ 1 3 (ints 3 ((s.Yq i p).proc k).regs)) else none)=_
   rw [hb];by_cases e:k=i
   ·subst e;rw [Yp,hr];rfl
   ·rw [Uy s e];rfl
theorem At.mode {W:World} {base:Nat} {ok:Nat→Prop} {b:BK} {s:WS} (h:At W base ok b s) (hup:∀ k,W.heap.size≤k→ok k) {i P cp:Nat} (hi:i<s.n) (x:Int) (HP:Blk5 W b.p s.n 5 (Yn b s) P cp) :
  At (W.setCell ⟨P,i * 5+2,none⟩ (.int .i64 x)) base ok b (s.Yq i { s.proc i with mode:=x })∧Only W (W.setCell ⟨P,i * 5+2,none⟩ (.int .i64 x)) ok:=by
 refine At.fld h hup hi om_ _ _ HP rfl rfl (fun a c hc=>?_) (fun k hk=>?_)
 ·unfold Yn;by_cases e:a=i
  ·subst e;rw [Yp]
   rcases (show c=0∨c=1∨c=2∨c=3∨c=4 by omega) with rfl|rfl|rfl|rfl|rfl <;> simp
  ·rw [Uy s e];simp [e]
 ·by_cases e:k=i
  ·subst e;rw [Yp];exact h.tree k hk
  ·rw [Uy s e];exact h.tree k hk
theorem At.on {W:World} {base:Nat} {ok:Nat→Prop} {b:BK} {s:WS} (h:At W base ok b s) (hup:∀ k,W.heap.size≤k→ok k) {i P cp:Nat} (hi:i<s.n) (x:Int) (HP:Blk5 W b.p s.n 5 (Yn b s) P cp) :
  At (W.setCell ⟨P,i * 5+3,none⟩ (.int .i64 x)) base ok b (s.Yq i { s.proc i with on:=x })∧Only W (W.setCell ⟨P,i * 5+3,none⟩ (.int .i64 x)) ok:=by
 refine At.fld h hup hi om_ _ _ HP rfl rfl (fun a c hc=>?_) (fun k hk=>?_)
 ·unfold Yn;by_cases e:a=i
  ·subst e;rw [Yp]
   rcases (show c=0∨c=1∨c=2∨c=3∨c=4 by omega) with rfl|rfl|rfl|rfl|rfl <;> simp
  ·rw [Uy s e];simp [e]
 ·by_cases e:k=i
  ·subst e;rw [Yp];exact h.tree k hk
  ·rw [Uy s e];exact h.tree k hk
theorem At.roomOf {W:World} {base:Nat} {ok:Nat→Prop} {b:BK} {s:WS} (h:At W base ok b s) (hup:∀ k,W.heap.size≤k→ok k) {i P cp:Nat} (hi:i<s.n) (x:Int) (HP:Blk5 W b.p s.n 5 (Yn b s) P cp) :
  At (W.setCell ⟨P,i * 5+4,none⟩ (.int .i64 x)) base ok b (s.Yq i { s.proc i with room:=x })∧Only W (W.setCell ⟨P,i * 5+4,none⟩ (.int .i64 x)) ok:=by
 refine At.fld h hup hi om_ _ _ HP rfl rfl (fun a c hc=>?_) (fun k hk=>?_)
 ·unfold Yn;by_cases e:a=i
  ·subst e;rw [Yp]
   rcases (show c=0∨c=1∨c=2∨c=3∨c=4 by omega) with rfl|rfl|rfl|rfl|rfl <;> simp
  ·rw [Uy s e];simp [e]
 ·by_cases e:k=i
  ·subst e;rw [Yp];exact h.tree k hk
  ·rw [Uy s e];exact h.tree k hk
theorem At.todo {W:World} {base:Nat} {ok:Nat→Prop} {b:BK} {s:WS} (h:At W base ok b s) (hup:∀ k,W.heap.size≤k→ok k) {i P cp:Nat} (hi:i<s.n) (v:Value) (l:List T) (HP:Blk5 W b.p s.n 5 (Yn b s) P cp)
  (hv:Kd.V k87 87 W base (fun k=>ok k∧free (lay b s) k) v l) :
  At (W.setCell ⟨P,i * 5+1,none⟩ v) base ok { b with t:=up b.t i v } (s.Yq i { s.proc i with todo:=l })∧Only W (W.setCell ⟨P,i * 5+1,none⟩ v) ok:=by
 refine At.fld h hup hi om_ _ _ HP rfl rfl (fun a c hc=>?_) (fun k hk=>?_)
 ·unfold Yn;by_cases e:a=i
  ·subst e;rw [Yp]
   rcases (show c=0∨c=1∨c=2∨c=3∨c=4 by omega) with rfl|rfl|rfl|rfl|rfl <;> simp [up]
  ·rw [Uy s e];simp [e,up]
 ·show Kd.V _ _ W base _ (up b.t i v k) _
  by_cases e:k=i
  ·subst e;rw [Yp,Un];exact hv
  ·rw [Uy s e,up_ne _ e];exact h.tree k hk
theorem At.say {W W1:World} {base:Nat} {ok:Nat→Prop} {b:BK} {s:WS} (h:At W base ok b s) (hup:∀ k,W.heap.size≤k→ok k) (v:Value) (x:Int × Int) (hg:W.grownBy W1 b.d.ownBlock) (h':W1.ownsRow base 118 2 v (s.said.length+1) (saidC s.said ++ [.int .i64 x.1,.int .i64 x.2]))
  (hat:v.ownBlock=b.d.ownBlock∨v.ownBlock=none∨∃ g,v.ownBlock=some g∧W.heap.size≤g):At W1 base ok { b with d:=v } { s with said:=s.said ++ [x] }∧Only W W1 ok:=by
 refine At.set h hup 4 (r:=⟨b.d,118,2,s.said.length,saidC s.said⟩) (r':=⟨v,118,2,s.said.length+1,saidC s.said ++ [.int .i64 x.1,.int .i64 x.2]⟩) rfl hg h' hat (fun k=>?_) rfl (fun j hj=>h.tree j hj)
 match k with
 |4=>
  show some (Row.mk v _ 2 (s.said ++ [x]).length (saidC (s.said ++ [x])))=_
  rw [if_pos rfl,List.length_append,List.length_singleton];congr 2
  simp [saidC]
 |0|1|2|3|5|6|k+7=>rfl
theorem lay_queue (b:BK) (s:WS) {j:Nat} (hj:j<2):lay b s (5+j)=some ⟨b.q j,3,0,(s.sign j).length,nums .i64 (s.sign j)⟩:=by
 rcases (show j=0∨j=1 by omega) with rfl|rfl <;> rfl
theorem At.queue2 {W W1:World} {base:Nat} {ok:Nat→Prop} {b:BK} {s:WS} (h:At W base ok b s) (hup:∀ k,W.heap.size≤k→ok k) {j:Nat} (hj:j<2) (v:Value) (q:List Int) (hg:W.grownBy W1 (b.q j).ownBlock) (h':QRow W1 base 3 1 v q.length (nums .i64 q))
  (hat:v.ownBlock=(b.q j).ownBlock∨v.ownBlock=none∨∃ g,v.ownBlock=some g∧W.heap.size≤g) {S cs:Nat} (hS:b.s=.slice (some ⟨S,0,none⟩) 2 cs) :
  At (W1.setCell ⟨S,j,none⟩ v) base ok { b with q:=up b.q j v } { s with sign:=up s.sign j q }∧Only W (W1.setCell ⟨S,j,none⟩ v) ok:=by
 have r1:=h.rows.set (5+j) (lay_queue b s hj) hg (r':=⟨v,3,0,q.length,nums .i64 q⟩) h' hat (f':=fun k=>if k=5+j then some ⟨v,3,0,q.length,nums .i64 q⟩ else lay b s k) (fun k=>rfl)
 have e3:(fun k=>if k=5+j then some (Row.mk v 3 0 q.length (nums .i64 q)) else lay b s k) 3=some ⟨b.s,23,1,2,(List.range 2).map b.q⟩:=by
  show (if 3=5+j then _ else _)=_
  rw [if_neg om_];rfl
 have hs:=stored (r1.at_ 3 _ e3) hS j v
 have em:((List.range 2).map b.q).set j v=(List.range 2).map (up b.q j v):=by
  rcases (show j=0∨j=1 by omega) with rfl|rfl <;> rfl
 rw [em] at hs
 have r2:=r1.set 3 e3 hs.2 (r':=⟨b.s,23,1,2,(List.range 2).map (up b.q j v)⟩) hs.1 (.inl rfl) (f':=lay { b with q:=up b.q j v } { s with sign:=up s.sign j q }) (fun k=>by
  match k with
  |0|1|2|4=>show _=if _=_ then _ else if _=_ then _ else _;rw [if_neg om_,if_neg om_];rfl
  |3=>rfl
  |5=>
   rw [if_neg om_];show some (Row.mk (up b.q j v 0) _ 0 (up s.sign j q 0).length (nums .i64 (up s.sign j q 0)))=if 5=5+j then _ else _
   rcases (show j=0∨j=1 by omega) with rfl|rfl <;> rfl
  |6=>
   rw [if_neg om_];show some (Row.mk (up b.q j v 1) _ 0 (up s.sign j q 1).length (nums .i64 (up s.sign j q 1)))=if 6=5+j then _ else _
   rcases (show j=0∨j=1 by omega) with rfl|rfl <;> rfl
  |k+7=>show _=if _=_ then _ else if _=_ then _ else _;rw [if_neg om_,if_neg om_];rfl)
 have hsz:W.heap.size≤W1.heap.size:=hg.size;have hupS:∀ k,(ok k∨W.heap.size≤k)→ok k:=fun k hk=>hk.elim id (hup k);have okq:∀ k,(b.q j).ownBlock=some k→ok k:=fun k hk=>h.rows.ok_ (5+j) _ (lay_queue b s hj) k hk;have okS:ok S:=h.rows.ok_ 3 _ rfl S (by rw [show (Row.mk b.s 23 1 2 ((List.range 2).map b.q)).v=b.s from rfl,hS];rfl)
 have hS2:W1.grownBy (W1.setCell ⟨S,j,none⟩ v) (some S):=by have:=hs.2;rw [hS] at this;exact this
 refine ⟨⟨r2.mono (fun k hk=>hk.elim (hupS k) (fun hk=>hup k (nt_ hsz hk))),fun i hi=>?_,fun k o ho=>?_⟩,(Only.of_grown hg okq).trans ((Only.of_grown hS2 (fun k hk=>by injection hk with hk;exact hk ▸ okS)).mono (fun k hk=>.inl hk))⟩;rotate_left
 ·have hl:=h.low k o ho;have h1:=(hg.block k (Array.getElem?_eq_some_iff.1 hl.2.2).1 (fun e=>by have:=(h.rows.at_ (5+j) _ (lay_queue b s hj)).ge k e.symm;have:=hl.2.1;omega)).trans hl.2.2;exact ⟨hl.1,hl.2.1,(hS2.block k (Array.getElem?_eq_some_iff.1 h1).1 (fun e=>by have:=(h.rows.at_ 3 _ rfl).ge k (by show b.s.ownBlock=some k;injection e with e;rw [hS,e];rfl);have:=hl.2.1;omega)).trans h1⟩
 have hv:=Kd.V_bound (h.tree i hi);have hv1:=Kd.V_step hv (fun k hk hlt=>hg.block k hlt (fun e=>hk.1.2 (5+j) _ (lay_queue b s hj) e.symm))
 have hv2:=Kd.V_step hv1 (fun k hk hlt=>hS2.block k hlt (fun e=>hk.1.2 3 _ rfl (by
  show b.s.ownBlock=some k
  injection e with e;rw [hS,e];rfl)))
 refine Kd.Ut hv2 (fun k hk=>⟨hk.1.1,fun a x hx hxk=>?_⟩)
 match a with
 |0=>exact hk.1.2 0 x hx hxk
 |1=>exact hk.1.2 1 x hx hxk
 |2=>exact hk.1.2 2 x hx hxk
 |3=>
  injection hx with hx;subst hx;exact hk.1.2 3 _ rfl hxk
 |4=>exact hk.1.2 4 x hx hxk
 |5=>
  injection hx with hx;subst hx;by_cases e:j=0
  ·subst e;have aA:v.ownBlock=some k:=hxk
   rcases hat with ha|ha|⟨g,ha,hle⟩
   ·exact hk.1.2 5 _ rfl (ha ▸ aA)
   ·rw [ha] at aA;cases aA
   ·rw [ha] at aA;injection aA with aA;have:=hk.2;omega
  ·exact hk.1.2 5 _ rfl (by have:up b.q j v 0=b.q 0:=up_ne _ (fun e'=>e e'.symm) _;exact this ▸ hxk)
 |6=>
  injection hx with hx;subst hx;by_cases e:j=1
  ·subst e;have aA:v.ownBlock=some k:=hxk
   rcases hat with ha|ha|⟨g,ha,hle⟩
   ·exact hk.1.2 6 _ rfl (ha ▸ aA)
   ·rw [ha] at aA;cases aA
   ·rw [ha] at aA;injection aA with aA;have:=hk.2;omega
  ·exact hk.1.2 6 _ rfl (by have:up b.q j v 1=b.q 1:=up_ne _ (fun e'=>e e'.symm) _;exact this ▸ hxk)
 |a+7=>exact hk.1.2 (a+7) x hx hxk
end Go.Proofs.YtlhogkfmdnpmkaaGreat.Mean
namespace Go.Proofs.YtlhogkfmdnpmkaaGreat.Mean
open RowKit GMarks YtlhogkfmdnpmkaaGreatW.PrintWords
theorem codeN_fine {s:WS} {i:Nat} (h:codeN s i=0):((s.proc i).mode=2∧s.room (s.proc i).room.toNat=0)∨((s.proc i).mode≠2∧(s.proc i).mode≠1∧∃ t r,(s.proc i).todo=t :: r∧(t.f0=8→s.room t.f1.toNat=0)):=by
 unfold codeN at h;by_cases h1:(s.proc i).mode=1
 ·rw [if_pos h1] at h;cases h
 ·rw [if_neg h1] at h;by_cases h2:(s.proc i).mode=2
  ·rw [if_pos h2] at h;by_cases h3:s.room (s.proc i).room.toNat=0
   ·exact .inl ⟨h2,h3⟩
   ·rw [if_neg h3] at h;cases h
  ·rw [if_neg h2] at h;refine .inr ⟨h2,h1,?_⟩
   cases ht:(s.proc i).todo with
   |nil=>rw [ht] at h;cases h
   |cons t r=>
    rw [ht] at h;refine ⟨t,r,rfl,fun h8=>?_⟩;by_cases h4:s.room t.f1.toNat=0
    ·exact h4
    ·simp only [] at h;rw [if_pos ⟨h8,h4⟩] at h;cases h
theorem step_back {s:WS} {i:Nat} (h:(s.proc i).mode=2):step s i = { (s.Yq i { s.proc i with mode:=0 }) with room:=up s.room (s.proc i).room.toNat ((i:Int)+1) }:=if_pos h
theorem step_on {s:WS} {i:Nat} (h:(s.proc i).mode≠2) {t:T} {r:List T} (ht:(s.proc i).todo=t :: r):step s i=Ur (s.Yq i { s.proc i with todo:=r }) i t:=by
 unfold step;rw [if_neg h,ht]
theorem Inv.step {s:WS} {K:Nat} (h:Inv s K) {i:Nat} (hi:i<s.n) (hc:codeN s i=0):Inv (step s i) (K+1):=by
 rcases codeN_fine hc with ⟨h2,h3⟩|⟨h2,h1,t,r,ht,h8⟩
 ·rw [step_back h2];exact ((h.back hi h2).roomSet _ (.inr ⟨i,hi,rfl⟩)).more om_
 ·have hm0:(s.proc i).mode=0:=(h.mode i hi).elim id (fun x=>(x.1.elim h1 h2).elim);rw [step_on h2 ht];have hok:=h.todo i hi;rw [ht] at hok;have hlen:=h.len i hi;rw [ht,List.length_cons] at hlen;have e1:(s.Yq i { s.proc i with todo:=r }).proc i = { s.proc i with todo:=r }:=Yp _ _ _
  have ee:∀ p:PS,(s.Yq i { s.proc i with todo:=r }).Yq i p=s.Yq i p:=by
   intro p;unfold WS.Yq;congr 1;funext k;unfold up;simp only [];split <;> rfl
  rcases hok.first with ⟨hf,hr⟩|⟨h0,hl2,rfl,hr⟩
  ·have hs:Inv (s.Yq i { s.proc i with todo:=r }) K:=h.Yq (nr_ _) hi hr (by show r.length≤_;omega) rfl rfl (fun hx=>(hx hm0).elim);have hi':i<(s.Yq i { s.proc i with todo:=r }).n:=hi;have hh:=hf.head;unfold Ur;simp only [e1];by_cases k1:t.f0=1
   ·rw [if_pos k1];exact (hs.Yq (K':=K+1) om_ hi' (by rw [e1];exact hr) (by rw [e1];show r.length≤_;omega) rfl rfl (fun hx=>by rw [e1] at hx;exact (hx hm0).elim))
   rw [if_neg k1];by_cases k2:t.f0=2
   ·rw [if_pos k2];exact (hs.Yq (K':=K+1) om_ hi' (by rw [e1];exact hr) (by rw [e1];show r.length≤_;omega) rfl rfl (fun hx=>by rw [e1] at hx;exact (hx hm0).elim))
   rw [if_neg k2];by_cases k3:t.f0=3
   ·rw [if_pos k3];exact (hs.Yq (K':=K+1) om_ hi' (by rw [e1];exact hr) (by rw [e1];show r.length≤_;omega) rfl rfl (fun hx=>by rw [e1] at hx;exact (hx hm0).elim))
   rw [if_neg k3];by_cases k4:t.f0=4
   ·rw [if_pos k4];exact (hs.cell _).more om_
   rw [if_neg k4];by_cases k5:t.f0=5
   ·rw [if_pos k5];exact hs.say _
   rw [if_neg k5]
   have body:∀ l:List T,(∀ x ∈ l,Fit 3 (s.proc i).room x)→l.length≤15→Inv (doTodo (s.Yq i { s.proc i with todo:=r }) i l) (K+1):=by
    intro l hl hll;refine hs.Yq (K':=K+1) om_ hi' ?_ ?_ rfl rfl (fun hx=>by rw [e1] at hx;exact (hx hm0).elim)
    ·rw [e1];exact hr.app hl
    ·rw [e1];show (l ++ r).length≤_;rw [List.length_append];omega
   have aB:t.f0≠8→∀ x ∈ t.f4,Fit 3 (s.proc i).room x:=fun k8 x hx=>by have:=hf.2.2.2.1 x hx;rw [if_neg k8] at this;exact this.more
   have aC:t.f0≠8→∀ x ∈ t.f5,Fit 3 (s.proc i).room x:=fun k8 x hx=>by have:=hf.2.2.2.2 x hx;rw [if_neg k8] at this;exact this.more
   have hl:=hf.len;by_cases k6:t.f0=6
   ·rw [if_pos k6];refine body _ ?_ ?_
    ·split
     ·exact aB om_
     ·exact aC om_
    ·split <;> omega
   rw [if_neg k6];by_cases k7:t.f0=7
   ·rw [if_pos k7];split
    ·refine body _ (fun x hx=>?_) (by rw [List.length_append,List.length_singleton];omega)
     rcases List.mem_append.1 hx with hx|hx
     ·exact aB om_ x hx
     ·rw [List.mem_singleton] at hx;exact hx ▸ hf
    ·exact hs.more om_
   rw [if_neg k7];by_cases k8:t.f0=8
   ·rw [if_pos k8]
    have h8':0≤t.f1∧t.f1<2∧(s.proc i).room = -1:=by unfold Head at hh;omega
    have hr':Fits (-1) r:=by
     rcases hr with hr|hr
     ·exact hr.2
     ·have:=hr.1;omega
    have hb:Fits t.f1 t.f4:=fun x hx=>by have:=hf.2.2.2.1 x hx;rw [if_pos k8] at this;exact this.more
    refine (hs.Yq (K':=K+1) om_ hi' (TodoOk.post h8'.1 h8'.2.1 hr' hb) ?_ (by rw [e1]) (by rw [e1]) (fun _=>h8'.1)).roomSet _ (.inr ⟨i,hi,rfl⟩);show (t.f4 ++ [leave t.f1] ++ r).length≤_
    rw [List.length_append,List.length_append,List.length_singleton];omega
   rw [if_neg k8];by_cases k9:t.f0=9
   ·rw [if_pos k9]
    have h9:0≤t.f1∧t.f1<2∧(s.proc i).room≠-1:=by unfold Head at hh;omega
    have hroom:0≤(s.proc i).room:=by rcases h.room hi with x|x;exact (h9.2.2 x).elim;exact x.1
    have ha:t.f1.toNat<2:=om_
    have hw:=hs.wait hi' ha (by rw [e1];exact hm0) (by rw [e1];exact hroom);have ec:((t.f1.toNat:Nat):Int)=t.f1:=Int.toNat_of_nonneg h9.1;rw [e1,ec] at hw;exact (hw.roomSet (s.proc i).room.toNat (.inl rfl)).more om_
   rw [if_neg k9];by_cases k10:t.f0=10
   ·rw [if_pos k10]
    have ha:t.f1.toNat<2:=by unfold Head at hh;omega
    split
    ·exact hs.more om_
    ·rename_i q rs hq
     exact (hs.signal ha hq).more om_
   rw [if_neg k10]
   have k12:t.f0≠12:=by unfold Head at hh;omega
   rw [if_neg k12];exact hs.more om_
  ·unfold Ur;simp only [e1];have nk:∀ j:Int,j≠12→¬ (leave (s.proc i).room).f0=j:=fun j hj e=>hj e.symm;rw [if_neg (nk 1 de_),if_neg (nk 2 de_),if_neg (nk 3 de_),if_neg (nk 4 de_),if_neg (nk 5 de_),if_neg (nk 6 de_),if_neg (nk 7 de_),if_neg (nk 8 de_),if_neg (nk 9 de_),if_neg (nk 10 de_),if_pos (show (leave (s.proc i).room).f0=12 from rfl)];rw [ee];exact (h.Yq (p:={ s.proc i with todo:=r,room:=-1 }) (K':=K+1) om_ hi (.inl ⟨rfl,hr⟩) (by show r.length≤_;omega) rfl rfl (fun hx=>(hx hm0).elim)).roomSet _ (.inl rfl)
end Go.Proofs.YtlhogkfmdnpmkaaGreat.Mean
