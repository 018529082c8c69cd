import Derived.Test.YtlhogkfmdnpmkaaCFnWholeOrder83
import Derived.Test.YtlhogkfmdnpmkaaCFnWholeOrder90
import Derived.Test.YtlhogkfmdnpmkaaCFnWholeOrder77
set_option linter.unusedSectionVars false
set_option linter.unusedVariables false
set_option linter.unusedSimpArgs false
set_option maxHeartbeats 8000000
set_option maxRecDepth 100000
namespace Go.Proofs.Ytlhogkfmdnpmkaa.Mean
open RowKit GWhole YtlhogkfmdnpmkaaW.PrintWords YtlhogkfmdnpmkaaW.PrintLast YtlhogkfmdnpmkaaW.PrintMore Evt Draws
def canL (s:WS) (n:Nat):List Int:=((List.range n).filter (fun (i:Nat)=>decide (code s (i:Int)=0))).map (fun (i:Nat)=>(i:Int))
def goS1 (s:WS) (who:Int):WS:=if code s who=0 then step s who.toNat else s
def pick1 (k:Nat) (bb:List Int) (can:List Int) (who p:Int):Option (Int × Int):=
 if 0<can.length then (Xg.f k bb p 6).bind fun a=>if a.1 > 0 then (Xg.f k bb a.2 (can.length:Int)).bind fun c=>if 0≤c.1∧c.1<can.length then some (rd can c.1,c.2) else none else some (who,a.2) else some (who,p)
def pick2 (k:Nat) (bb:List Int) (y who p:Int):Option (Int × Int):=if y=0 then Xk.f k bb p [-1,3,9] else some (who,p)
def picksL (k:Nat) (bb:List Int):Nat→WS→List Int→Int→Option (List Int × Int)
 |0,_,out,p=>some (out,p)
 |i+1,s,out,p=>(Xg.f k bb p (if 1 > (s.n:Int) then 1 else (s.n:Int))).bind fun t=>(pick1 k bb (canL s s.n) t.1 t.2).bind fun u=>(Xg.f k bb u.2 40).bind fun y=>(pick2 k bb y.1 u.1 y.2).bind fun z=>picksL k bb i (goS1 s z.1) (out ++ [z.1]) z.2
def picksF (k:Nat) (bb:List Int) (l0:List (List T)) (p:Int):Option (List Int × Int):=
 (Xg.f k bb p 2).bind fun a=>(Xk.f k bb a.2 [10,20,35,60,5,0,wrap64 (200+a.1)]).bind fun c=>if 0≤c.1∧c.1≤1000 then picksL k bb c.1.toNat (if Uk l0=true then Ya l0 else sE) [] c.2 else none
variable [Prot]
theorem can_loop {s:WS} (C:Nat→Int→Option Int) (hC:∀ who,Evt (fun k=>C k who) (code s who)) (L:Nat→List Int→Int→Option (List Int)) (hL:∀ k acc i,L (k+1) acc i=if i<(s.n:Int) then (C k i).bind fun t=>(if t=0 then (if acc.length<17592186044416 then L k (acc ++ [i]) (wrap64 (i+1)) else none) else L k acc (wrap64 (i+1))) else some acc) (hn:s.n≤1000) :
  ∀ (n i:Nat),i+n=s.n→Evt (fun k=>L k (canL s i) (i:Int)) (canL s s.n)
 |0,i,h=>by
  refine Evt.step ?_;simp only [hL];refine Evt.neg om_ ?_;rw [show i=s.n by omega];exact Evt.pure _
 |n+1,i,h=>by
  refine Evt.step ?_;simp only [hL];refine Evt.pos om_ (Evt.bind (hC _) ?_)
  have ew:wrap64 ((i:Int)+1)=((i+1:Nat):Int):=by unfold wrap64;omega
  have ih:=can_loop C hC L hL hn n (i+1) om_
  have hs:canL s (i+1)=if code s (i:Int)=0 then canL s i ++ [(i:Int)] else canL s i:=by
   unfold canL;rw [List.range_succ,List.filter_append,List.map_append];by_cases h0:code s (i:Int)=0
   ·simp [h0]
   ·simp [h0]
  by_cases h0:code s (i:Int)=0
  ·refine Evt.pos h0 (Evt.pos ?_ ?_)
   ·have:(canL s i).length≤i:=by unfold canL;rw [List.length_map];exact nt_ (List.length_filter_le _ _) sm_
    omega
   ·rw [ew];rw [hs,if_pos h0] at ih;exact ih
  ·refine Evt.neg h0 ?_;rw [ew];rw [hs,if_neg h0] at ih;exact ih
theorem canL_nil {s:WS} (h:s.n=0):canL s s.n=[]:=by rw [h];rfl
theorem code_none {s:WS} (h:s.n=0) (who:Int):code s who=3:=by unfold code;rw [if_pos om_]
theorem code3_nil (who:Int):Xv.f 2 [] [] [] [] [] who=some 3:=by
 unfold Xv.f;by_cases h0:who<0
 ·rw [if_pos h0];rfl
 ·rw [if_neg h0];have e:decide (who ≥ (([]:List S67).length:Int))=true:=dt_ (by simp;omega);rw [e];rfl
theorem code_evt {s:WS} {K:Nat} (inv:Inv s K) (who:Int):Evt (fun k=>Xv.f k (procsL s) (Uy 3 s.cell) (Uy 2 s.room) (signsL s) (saidL s) who) (code s who):=
 ⟨2,fun k hk=>at_rounds (g:=fun k=>Xv.f k (procsL s) (Uy 3 s.cell) (Uy 2 s.room) (signsL s) (saidL s) who) (fun k=>Xv.mono _ _ _ _ _ _ k) hk (code_ref inv who)⟩
theorem WV.code {W:World} {base:Nat} {ok:Nat→Prop} {b:BK} {s:WS} {K:Nat} (h:WV W base ok b s K) (who:Int):Calls Try.prog 20 #[RV b,.int .i64 who] W fun e w'=>e=.returned (.int .i64 (Mean.code s who))∧Below W.heap.size W w':=by
 rcases h with ⟨h,inv⟩|⟨rfl,hn⟩
 ·obtain ⟨A0,A1,A2,A3,A4,c0,c1,c2,c3,c4,R⟩:=h.reads (by have:=inv.n.1;omega) (by have:=inv.n.2;omega);rw [R.v];exact Xv.calls 2 _ _ _ _ _ _ _ _ _ _ _ _ _ _ _ who _ W R.p R.pl R.c R.cl R.m R.ml R.g R.gl R.d R.dl (code_ref inv who)
 ·rw [code_none hn];exact Xv.calls 2 none 0 [] none 0 [] none 0 [] none 0 [] none 0 [] who 3 W (Kd.C_nil _ _) (nr_ _) (Kd.C_nil _ _) (nr_ _) (Kd.C_nil _ _) (nr_ _) (Kd.C_nil _ _) (nr_ _) (Kd.C_nil _ _) (nr_ _) (code3_nil who)
theorem WV.can {W:World} {base:Nat} {ok:Nat→Prop} {b:BK} {s:WS} {K:Nat} (h:WV W base ok b s K):Calls Try.prog 52 #[RV b] W fun e w'=>∃ v:Value,e=.returned v∧(Kd.int .i64).R 3 w' W.heap.size (fun _=>True) v (canL s s.n)∧Below W.heap.size W w':=by
 rcases h with ⟨h,inv⟩|⟨rfl,hn⟩
 ·obtain ⟨A0,A1,A2,A3,A4,c0,c1,c2,c3,c4,R⟩:=h.reads (by have:=inv.n.1;omega) (by have:=inv.n.2;omega);have hE:=can_loop (s:=s) (fun k who=>Xv.f k (procsL s) (Uy 3 s.cell) (Uy 2 s.room) (signsL s) (saidL s) who) (fun who=>code_evt inv who) (fun k acc i=>Uc.l0 k acc i (procsL s) (Uy 3 s.cell) (Uy 2 s.room) (signsL s) (saidL s)) (fun k acc i=>by simp only [Uc.l0,procsL_len]) (by have:=inv.n.2;omega) s.n 0 om_;obtain ⟨k,hk⟩:=hE.get;rw [R.v];exact Uc.calls k _ _ _ _ _ _ _ _ _ _ _ _ _ _ _ _ W R.p R.pl R.c R.cl R.m R.ml R.g R.gl R.d R.dl hk
 ·rw [canL_nil hn];exact Uc.calls 1 none 0 [] none 0 [] none 0 [] none 0 [] none 0 [] [] W (Kd.C_nil _ _) (nr_ _) (Kd.C_nil _ _) (nr_ _) (Kd.C_nil _ _) (nr_ _) (Kd.C_nil _ _) (nr_ _) (Kd.C_nil _ _) (nr_ _) rfl
theorem code_fine {s:WS} {who:Int} (h:Mean.code s who=0):∃ i:Nat,who=(i:Int)∧i<s.n∧codeN s i=0:=by
 unfold Mean.code at h;by_cases h0:who<0∨(s.n:Int)≤who
 ·rw [if_pos h0] at h;omega
 ·rw [if_neg h0] at h;exact ⟨who.toNat,om_,om_,h⟩
theorem WV.step {W:World} {base:Nat} {ok:Nat→Prop} {b:BK} {s:WS} {K:Nat} (h:WV W base ok b s K) (hK:K≤20000) (hup:∀ k,W.heap.size≤k→ok k) {who:Int} (hc:Mean.code s who=0) :
  Calls Try.prog 22 #[RV b,.int .i64 who] W fun e w'=>∃ b',e=.returned (RV b')∧WV w' base ok b' (step s who.toNat) (K+1)∧Only W w' ok:=by
 obtain ⟨i,rfl,hi,hcn⟩:=code_fine hc
 rcases h with ⟨h,inv⟩|⟨rfl,hn⟩
 ·refine (rstep_do W base ok b s i K h hup hi inv hK hcn).mono ?_;rintro e w' ⟨b',rfl,hA,hO⟩;exact ⟨b',rfl,.inl ⟨hA,inv.step hi hcn⟩,hO⟩
 ·omega
open Ytlhogkfmdnpmkaa.Pure
structure PK (w0 w W:World) (g x:Nat) (bb:List Int) (p:Int) (b:BK) (s:WS) (K:Nat) (v:Value) (out:List Int):Prop where
 dr:DR w0 w W g bb p
 wv:WV W w.heap.size (fun k=>w.heap.size≤k∧k≠x∧some k≠v.ownBlock) b s K
 box:Wb W x b
 row:(Kd.int .i64).R 3 W w.heap.size (fun _=>True) v out
 xv:some x≠v.ownBlock
 xl:w.heap.size≤x
section
variable {w0 w W W1:World} {g x:Nat} {bb:List Int} {p q:Int} {b b':BK} {s s':WS} {K K':Nat} {v v1:Value} {out out':List Int}
theorem PK.next (h:PK w0 w W g x bb p b s K v out) (hb:Below W.heap.size W W1):PK w0 w W1 g x bb p b s K v out:=
 ⟨h.dr.next hb,h.wv.next (fun k _ hlt=>hb.block k hlt),Xu h.box hb,Kd.R_below h.row hb,h.xv,h.xl⟩
theorem PK.draw (h:PK w0 w W g x bb p b s K v out) (hI:IsR w0 W1 g bb q) (hB:Below w0.heap.size w0 W1) (hK:Xj W W1 g none):PK w0 w W1 g x bb q b s K v out:=
 ⟨h.dr.call hI hB hK,h.wv.next (fun k hk hlt=>hK.2 k hlt (h.dr.far k hk.1) sm_),(hK.2 x (Yt h.box) (h.dr.far x h.xl) sm_).trans h.box,h.dr.ints h.row hK,h.xv,h.xl⟩
theorem DR.only {ok:Nat→Prop} (h:DR w0 w W g bb p) (hO:Only W W1 ok) (hk:∀ k,ok k→w.heap.size≤k):DR w0 w W1 g bb p:=by
 have hl:=h.lt;have hgb:W1.heap[g]?=W.heap[g]?:=hO.block g (by have:=h.is.lt;exact this) (fun x=>by have:=hk g x;omega);obtain ⟨A0,c0,e,h1,h2⟩:=h.is;refine ⟨⟨A0,c0,hgb.trans e,h1,h2⟩,h.below.trans (hO.below h.below.size (fun k x=>nt_ h.base (hk k x))),⟨nt_ h.keep.1 hO.size,fun i hi hne hr=>?_⟩,h.lt,h.base⟩;exact (hO.block i (nl_ hi h.keep.1) (fun x=>by have:=hk i x;omega)).trans (h.keep.2 i hi hne hr)
theorem PK.step (h:PK w0 w W g x bb p b s K v out) (hw:WV W1 w.heap.size (fun k=>w.heap.size≤k∧k≠x∧some k≠v.ownBlock) b' s' K') (hO:Only W W1 (fun k=>w.heap.size≤k∧k≠x∧some k≠v.ownBlock)):Wb W1 x b∧PK w0 w (put5 W1 x b') g x bb p b' s' K' v out:=by
 have hb:Wb W1 x b:=(hO.block x (Yt h.box) (fun hk=>hk.2.1 rfl)).trans h.box;have hd:=DR.only h.dr hO (fun k hk=>hk.1);have hrow:(Kd.int .i64).R 3 W1 w.heap.size (fun k=>some k=v.ownBlock) v out:=Kd.R_step (Kd.R_tight rfl h.row) (fun k hk hlt=>hO.block k hlt (fun x=>x.2.2 hk));refine ⟨hb,?_,hw.next (fun k hk _=>put5_far hk.2.1),put5_blk b' hb,Kd.Yj (Kd.R_step hrow (fun k hk _=>put5_far (fun e=>h.xv (e ▸ hk)))) (fun _ _=>trivial),h.xv,h.xl⟩;exact (((((hd.set h.xl 0 _).set h.xl 1 _).set h.xl 2 _).set h.xl 3 _).set h.xl 4 _)
theorem PK.start {w2:World} {sI:WS} {A1 A2 A3 A4 A5:Option Addr} {n1 n2 n3 n4 d0 d1 d2 d3 d4:Nat} {br bt bq:Nat→Value} (hno:∀ k,Prot.low k=none) (hs:w.heap.size<W.heap.size) (hd:DR w0 w W g bb p) (hb:Below W.heap.size W w2) (hl:(Kd.int .i64).R 3 W w.heap.size (fun _=>True) (.slice (some ⟨w.heap.size,0,none⟩) 0 0) []) (hw:WV w2 W.heap.size (fun k=>W.heap.size≤k) ⟨.slice A1 sI.n d0,.slice A2 n1 d1,.slice A3 n2 d2,.slice A4 n3 d3,.slice A5 n4 d4,br,bt,bq⟩ sI 0) :
  PK w0 w (w2.alloc (.cells #[.slice A1 sI.n d0,.slice A2 n1 d1,.slice A3 n2 d2,.slice A4 n3 d3,.slice A5 n4 d4] 45)) g w2.heap.size bb p ⟨.slice A1 sI.n d0,.slice A2 n1 d1,.slice A3 n2 d2,.slice A4 n3 d3,.slice A5 n4 d4,br,bt,bq⟩ sI 0 (.slice (some ⟨w.heap.size,0,none⟩) 0 0) []:=by
 have hba:=Xf (Below.refl w2.heap.size w2) (.cells #[.slice A1 sI.n d0,.slice A2 n1 d1,.slice A3 n2 d2,.slice A4 n3 d3,.slice A5 n4 d4] 45);have h2:=hb.size;refine ⟨(hd.next hb).next hba,?_,Ym w2 _,Kd.R_below (Kd.R_below hl hb) hba,fun e=>?_,om_⟩
 ·have h1:WV w2 w.heap.size (fun k=>w.heap.size≤k∧k≠w2.heap.size∧some k≠(Value.slice (some ⟨w.heap.size,0,none⟩) 0 0).ownBlock) ⟨.slice A1 sI.n d0,.slice A2 n1 d1,.slice A3 n2 d2,.slice A4 n3 d3,.slice A5 n4 d4,br,bt,bq⟩ sI 0:=by
   rcases hw with ⟨hA,hI⟩|hn
   ·refine .inl ⟨⟨(hA.lt.rows.lower (Nat.le_of_lt hs)).mono (fun k hk=>⟨om_,om_,fun e=>?_⟩),fun i hi=>Kd.Yx (Kd.V_lower (hA.lt.tree i hi) (Nat.le_of_lt hs)) (fun k hk=>⟨⟨om_,om_,fun e=>?_⟩,hk.2⟩),fun k o ho=>by rw [hno] at ho;cases ho⟩,hI⟩
    ·injection e with e;have e':k=w.heap.size:=e;omega
    ·injection e with e;have e':k=w.heap.size:=e;have:=hk.1;omega
   ·exact .inr hn
  exact h1.next (fun k _ hlt=>hba.block k hlt)
 ·injection e with e;have e':w2.heap.size=w.heap.size:=e;omega
theorem PK.outs (h:PK w0 w W g x bb p b s K v out) (hg:W.grownBy W1 v.ownBlock) (hat:v1.ownBlock=v.ownBlock∨∃ k,v1.ownBlock=some k∧W.heap.size≤k) (hr:(Kd.int .i64).R 3 W1 w.heap.size (fun _=>True) v1 out'):PK w0 w W1 g x bb p b s K v1 out':=by
 have hx:=Yt h.box;refine ⟨h.dr.grown hg (h.dr.row h.row),?_,(hg.block x hx h.xv).trans h.box,hr,?_,h.xl⟩
 ·have h1:WV W w.heap.size (fun k=>(w.heap.size≤k∧k≠x∧some k≠v.ownBlock)∧k<W.heap.size) b s K:=h.wv.mono (fun k hk hlt=>⟨hk,hlt⟩);refine (h1.next (fun k hk hlt=>hg.block k hlt hk.1.2.2)).mono (fun k hk _=>⟨hk.1.1,hk.1.2.1,fun e=>?_⟩)
  rcases hat with e1|⟨y,e1,hle⟩
  ·exact hk.1.2.2 (e1 ▸ e)
  ·rw [e1] at e;injection e with e;have:=hk.2;omega
 ·intro e
  rcases hat with e1|⟨y,e1,hle⟩
  ·exact h.xv (e1 ▸ e)
  ·rw [e1] at e;injection e with e;omega
theorem PK.more (h:PK w0 w W g x bb p b s K v out):PK w0 w W g x bb p b s (K+1) v out:=by
 refine ⟨h.dr,?_,h.box,h.row,h.xv,h.xl⟩
 rcases h.wv with ⟨hA,hI⟩|hn
 ·exact .inl ⟨hA,hI.more om_⟩
 ·exact .inr hn
end
theorem picks_do (k g:Nat) (bb:List Int) (p:Int) (A0:Option Addr) (c0:Nat) (l0:List (List T)) (r1:List Int) (r2:Int) (w0 w:World) (hI:IsR w0 w g bb p) (hB:Below w0.heap.size w0 w) (hr0:Kd.C (Kd.slice 69 k69) w A0 l0.length l0) (hc0:l0.length≤c0) (hsh:∀ x ∈ l0,Stmts.Short 3 x) (hln:l0.length≤1048576) (hinv:Uk l0=true→Inv (Ya l0) 0∧(∀ l ∈ l0,Small 4 l)) (hno:∀ k,Prot.low k=none) (h:picksF k bb l0 p=some (r1,r2)) :
  Calls Try.prog 33 #[.pointer (some ⟨g,0,none⟩),.slice A0 l0.length c0] w fun e w'=>∃ v:Value,e=.returned v∧(Kd.int .i64).R 3 w' w.heap.size (fun _=>True) v r1∧DR w0 w w' g bb r2:=by
 unfold picksF at h;obtain ⟨⟨a,p1⟩,h1,h⟩:=bo_ h;obtain ⟨⟨c,p2⟩,h2,h⟩:=bo_ h;simp only [] at h1 h2 h;by_cases hcb:0≤c∧c≤1000
 ·rw [if_pos hcb] at h;obtain ⟨n,rfl⟩:=Int.eq_ofNat_of_zero_le hcb.1;rw [show ((n:Int)).toNat=n from rfl] at h
  have hn:n≤1000:=om_
  have D0:=DR.start hI hB;have hb1:=Xf (Below.refl w.heap.size w) (.cells #[] 3);have HL:=ints_lit w;have D1:=D0.next hb1;have H1:=Xa.mk h1;have H2:=Xa.mk h2;have H3:=Xa.mk h;have HN:=Xa.mk hn;have MO:=Lib.hid (fun (w1:World) (hb:Below w.heap.size w w1)=>mopen_do A0 c0 l0 w1 (Kd.Yr hr0 hb) hc0 hsh hln hinv hno);have HNO:=Xa.mk hno;clear h1 h2 h hn hcb hI hB D0 hr0 hc0 hsh hln hinv hno;generalize hsI:(if Uk l0=true then Ya l0 else sE)=sI at *;clear hsI;have aD:Xa (w.heap.size<(w.alloc (.cells #[] 3)).heap.size):=⟨by rw [World.size_alloc];omega⟩;have HB1:=Xa.mk hb1;have HLA:=Xa.mk HL;have HD1:=Xa.mk D1;clear hb1 HL D1;go_enter Try.func33,Try.ntmps33;go_upto_region 2 with (fail);generalize w.alloc (.cells #[] 3)=w1 at *;go_upto_region 3 with (first|(go_at_call 50;go_must (refine (MO.out w1 HB1.out).mono ?_;rintro e w2 ⟨b,he,hW,hb⟩;obtain ⟨A1,A2,A3,A4,A5,n1,n2,n3,n4,d0,d1,d2,d3,d4,e0,e1,e2,e3,e4⟩:=hW.forms;obtain ⟨bp,bc,bm,bs,bd,br,bt,bq⟩:=b;obtain rfl:bp=_:=e0;obtain rfl:bc=_:=e1;obtain rfl:bm=_:=e2;obtain rfl:bs=_:=e3;obtain rfl:bd=_:=e4;subst he;have HW:=Xa.mk hW;have HB2:=Xa.mk hb;clear hW hb)));have HPK:Xa (PK w0 w (w2.alloc (.cells #[.slice A1 sI.n d0,.slice A2 n1 d1,.slice A3 n2 d2,.slice A4 n3 d3,.slice A5 n4 d4] 45)) g w2.heap.size bb p ⟨.slice A1 sI.n d0,.slice A2 n1 d1,.slice A3 n2 d2,.slice A4 n3 d3,.slice A5 n4 d4,br,bt,bq⟩ sI 0 (.slice (some ⟨w.heap.size,0,none⟩) 0 0) []):=⟨PK.start HNO.out aD.out HD1.out HB2.out HLA.out HW.out⟩;have HXL:Xa (w.heap.size≤w2.heap.size):=⟨nt_ HB1.out.size HB2.out.size⟩;clear HW HB2 HD1 HLA MO HB1;generalize w2.alloc (.cells #[.slice A1 sI.n d0,.slice A2 n1 d1,.slice A3 n2 d2,.slice A4 n3 d3,.slice A5 n4 d4] 45)=w3 at *;generalize w2.heap.size=x at *;generalize (⟨.slice A1 sI.n d0,.slice A2 n1 d1,.slice A3 n2 d2,.slice A4 n3 d3,.slice A5 n4 d4,br,bt,bq⟩:BK)=b0 at *;go_wp2_with (first|(go_at_call 45;go_must (refine (Xg.calls k g bb _ 2 a p1 w0 _ HPK.out.dr.is HPK.out.dr.below H1.out).mono ?_;rintro e w5 ⟨rfl,hI,hB,hK⟩;replace HPK:=Xa.mk (HPK.out.draw hI hB hK);clear hI hB hK))|(go_at_call 48;go_must (have hnx:=HPK.out.next (Xf (Below.refl _ _) (.cells (([10,20,35,60,5,0,wrap64 (200+a)]:List Int).map (fun n=>Value.int .i64 n)).toArray 3));refine (Xk.calls k g bb _ _ _ [10,20,35,60,5,0,wrap64 (200+a)] (n:Int) p2 w0 _ hnx.dr.is hnx.dr.below (ints_new _ [10,20,35,60,5,0,wrap64 (200+a)] sm_) sm_ (fun ad e _=>by have hl:=HPK.out.dr.is.lt;injection e with e;subst e;exact Nat.ne_of_gt hl) H2.out).mono ?_;rintro e w6 ⟨rfl,hI,hB,hK⟩;replace HPK:=Xa.mk (hnx.draw hI hB hK);clear hnx hI hB hK)))
  go_loopg [5,7] n (fun kq v5 v7 w'=>∃ (b:BK) (s:WS) (K:Nat) (out:List Int) (q:Int),v7=.int .i64 (kq:Int)∧Xa (picksL k bb kq s out q=some (r1,r2))∧Xa (K+kq≤1000)∧Xa (out.length+kq≤1000)∧Xa (PK w0 w w' g x bb q b s K v5 out))
  case atStart=>exact ⟨b0,sI,0,[],p2,rfl,H3,⟨by have:=HN.out;omega⟩,⟨by have:=HN.out;simpa using this⟩,HPK⟩
  case round=>
   clear HPK H1 H2 H3;obtain ⟨b,s,K,out,q,rfl,HP,HK,HOL,HPK⟩:=hrel
   cases gk with
   |zero=>
    have hp:=HP.out;unfold picksL at hp;obtain ⟨rfl,rfl⟩:out=r1∧q=r2:=Prod.mk.inj (sj_ hp);clear hp HP;go_wp2;go_ret
    exact ⟨_,rfl,HPK.out.row,HPK.out.dr⟩
   |succ k1=>
    have hp:=HP.out;unfold picksL at hp;obtain ⟨⟨t,q1⟩,ht,hp⟩:=bo_ hp;obtain ⟨⟨u,q2⟩,hu,hp⟩:=bo_ hp;obtain ⟨⟨y,q3⟩,hy,hp⟩:=bo_ hp;obtain ⟨⟨z,q4⟩,hz,hp⟩:=bo_ hp;simp only [] at ht hu hy hz hp;have HT:=Xa.mk ht;have HU:=Xa.mk hu;have HY:=Xa.mk hy;have HZ:=Xa.mk hz;have HNX:=Xa.mk hp;clear ht hu hy hz hp HP;have t1:decide (((k1+1:Nat):Int) > 0)=true:=dt_ om_;have t2:decide (0<((k1+1:Nat):Int))=true:=dt_ om_;obtain ⟨A1,A2,A3,A4,A5,n1,n2,n3,n4,d0,d1,d2,d3,d4,e0,e1,e2,e3,e4⟩:=HPK.out.wv.forms;obtain ⟨bp,bc,bm,bs,bd,br,bt,bq⟩:=b;obtain rfl:bp=_:=e0;obtain rfl:bc=_:=e1;obtain rfl:bm=_:=e2;obtain rfl:bs=_:=e3;obtain rfl:bd=_:=e4;have c0:=HPK.out.box.cells.1;obtain ⟨mx,hmx⟩:∃ mx,mx=(if 1 > (s.n:Int) then 1 else (s.n:Int)):=⟨_,rfl⟩;rw [← hmx] at HT;have HMX:Xa (spec_l1Max.f 1 (s.n:Int)=some mx):=⟨by rw [hmx];unfold spec_l1Max.f;split <;> rfl⟩;clear hmx;go_upto_region 7 with (first|(go_at_call 51;go_must (refine (spec_l1Max.calls 1 (s.n:Int) mx _ HMX.out).mono ?_;rintro e w4 ⟨rfl,hd⟩;replace HPK:=Xa.mk (HPK.out.next hd.below);clear hd c0))|(go_at_call 45;go_must (refine (Xg.calls k g bb _ mx t q1 w0 _ HPK.out.dr.is HPK.out.dr.below HT.out).mono ?_;rintro e w5 ⟨rfl,hI,hB,hK⟩;replace HPK:=Xa.mk (HPK.out.draw hI hB hK);clear hI hB hK)));obtain ⟨c0,c1,c2,c3,c4⟩:=HPK.out.box.cells;go_upto_region 8 with (first|(go_at_call 52;go_must (refine HPK.out.wv.can.mono ?_;rintro e w6 ⟨vc,rfl,hR,hb⟩;obtain ⟨Ac,cc,ec⟩:=Kd.Zd hR;subst ec;have HCR:=Xa.mk (Kd.Zr hR HPK.out.dr.size);replace HPK:=Xa.mk (HPK.out.next hb);clear hR hb c0 c1 c2 c3 c4)));generalize canL s s.n=cn at *;generalize hb0:(⟨.slice A1 s.n d0,.slice A2 n1 d1,.slice A3 n2 d2,.slice A4 n3 d3,.slice A5 n4 d4,br,bt,bq⟩:BK)=b at *;have HBE:=Xa.mk hb0;clear hb0
    go_cut [38] (fun v38 wc=>∃ (fl:Bool) (qa:Int),v38=.bool fl∧Xa (PK w0 w wc g x bb qa b s K u5 out)∧Xa ((Kd.int .i64).R 3 wc w.heap.size (fun _=>True) (.slice Ac cn.length cc) cn)∧Xa (if fl=true then ((Xg.f k bb qa (cn.length:Int)).bind fun c=>if 0≤c.1∧c.1<cn.length then some (rd cn c.1,c.2) else none)=some (u,q2) else t=u∧qa=q2))
    case first=>
     have hu:=HU.out;unfold pick1 at hu;by_cases hc:0<cn.length
     ·rw [if_pos hc] at hu;obtain ⟨⟨a6,qa⟩,h6,hu⟩:=bo_ hu;simp only [] at h6 hu;have H6:=Xa.mk h6;have aF:=Xa.mk hu;have t3:decide ((cn.length:Int) > 0)=true:=dt_ om_;have t4:decide (0<cn.length)=true:=dt_ hc;clear hu h6 hc;go_wp2_with (first|(go_at_call 45;go_must (refine (Xg.calls k g bb _ 6 a6 qa w0 _ HPK.out.dr.is HPK.out.dr.below H6.out).mono ?_;rintro e w5 ⟨rfl,hI,hB,hK⟩;replace HCR:=Xa.mk (HPK.out.dr.ints HCR.out hK);replace HPK:=Xa.mk (HPK.out.draw hI hB hK);clear hI hB hK)));go_meet
      case rel=>
       refine ⟨decide (a6 > 0),qa,(by first|rfl|(simp;done)),HPK,HCR,⟨?_⟩⟩;by_cases ha:a6 > 0
       ·rw [if_pos (dt_ ha)]
        have:=aF.out
        rw [if_pos ha] at this;exact this
       ·rw [if_neg (by rw [df_ ha];decide)]
        have:=aF.out
        rw [if_neg ha] at this;exact Prod.mk.inj (sj_ this)
     ·rw [if_neg hc] at hu;obtain ⟨e1,e2⟩:t=u∧q1=q2:=Prod.mk.inj (sj_ hu);have t3:decide ((cn.length:Int) > 0)=false:=df_ om_;have t4:decide (0<cn.length)=false:=df_ hc;clear hu hc;have aH:=Xa.mk e1;have HE2:=Xa.mk e2;clear e1 e2;go_wp2;go_meet
      case rel=>exact ⟨false,q1,(by first|rfl|(simp;done)),HPK,HCR,⟨by rw [if_neg de_];exact ⟨aH.out,HE2.out⟩⟩⟩
    case rest=>
    clear HPK HCR HU;obtain ⟨fl,qa,rfl,HPK,HCR,HFL⟩:=hcut;go_upto_if 38 with (fail)
    go_cut [8] (fun v8 wc=>v8=.int .i64 u∧Xa (PK w0 w wc g x bb q2 b s K u5 out))
    case first=>
     cases fl with
     |true=>
      have hf:=HFL.out;rw [if_pos rfl] at hf;obtain ⟨⟨c7,q7⟩,h7,hf⟩:=bo_ hf;simp only [] at h7 hf;by_cases hb:0≤c7∧c7<cn.length
      ·rw [if_pos hb] at hf;obtain ⟨rfl,rfl⟩:rd cn c7=u∧q7=q2:=Prod.mk.inj (sj_ hf);have H7:=Xa.mk h7;have HBB:=Xa.mk hb;have p8:=eq_true hb.1;have q8:=eq_true hb.2;clear hf h7 hb HFL;go_wp2_with (first|(go_at_call 45;go_must (refine (Xg.calls k g bb _ (cn.length:Int) c7 q7 w0 _ HPK.out.dr.is HPK.out.dr.below H7.out).mono ?_;rintro e w5 ⟨rfl,hI,hB,hK⟩;replace HCR:=Xa.mk (HPK.out.dr.ints HCR.out hK);replace HPK:=Xa.mk (HPK.out.draw hI hB hK);clear hI hB hK;obtain ⟨ad,ead,hx⟩:=Kd.at_int (Kd.R_reads' HCR.out).2.2 c7 HBB.out.1 (by have:=HBB.out.2;exact_mod_cast this);cases ead)));go_meet
       case rel=>exact ⟨rfl,HPK⟩
      ·rw [if_neg hb] at hf;cases hf
     |false=>
      have hf:=HFL.out;rw [if_neg de_] at hf;obtain ⟨rfl,rfl⟩:=hf;clear HFL;go_wp2;go_meet
      case rel=>exact ⟨rfl,HPK⟩
    case rest=>
    clear HPK HCR HFL;obtain ⟨rfl,HPK⟩:=hcut;go_upto_if 48 with (first|(go_at_call 45;go_must (refine (Xg.calls k g bb _ 40 y q3 w0 _ HPK.out.dr.is HPK.out.dr.below HY.out).mono ?_;rintro e w5 ⟨rfl,hI,hB,hK⟩;replace HPK:=Xa.mk (HPK.out.draw hI hB hK);clear hI hB hK)))
    go_cut [8] (fun v8 wc=>v8=.int .i64 z∧Xa (PK w0 w wc g x bb q4 b s K u5 out))
    case first=>
     have hz:=HZ.out;unfold pick2 at hz;by_cases h0:y=0
     ·rw [if_pos h0] at hz;have H9:=Xa.mk hz;have e0:(y == 0)=true:=eb_ h0;rw [e0];clear hz h0 e0;go_wp2_with (first|(go_at_call 48;go_must (have hnx:=HPK.out.next (Xf (Below.refl _ _) (.cells (([-1,3,9]:List Int).map (fun n=>Value.int .i64 n)).toArray 3));refine (Xk.calls k g bb _ _ _ [-1,3,9] z q4 w0 _ hnx.dr.is hnx.dr.below (ints_new _ [-1,3,9] sm_) sm_ (fun ad e _=>by have hl:=HPK.out.dr.is.lt;injection e with e;subst e;exact Nat.ne_of_gt hl) H9.out).mono ?_;rintro e w6 ⟨rfl,hI,hB,hK⟩;replace HPK:=Xa.mk (hnx.draw hI hB hK);clear hnx hI hB hK)));go_meet
      case rel=>exact ⟨rfl,HPK⟩
     ·rw [if_neg h0] at hz;obtain ⟨rfl,rfl⟩:u=z∧q3=q4:=Prod.mk.inj (sj_ hz);have e0:(y == 0)=false:=nb_ h0;rw [e0];clear hz h0 e0;go_wp2;go_meet
      case rel=>exact ⟨rfl,HPK⟩
    case rest=>
    clear HPK;obtain ⟨rfl,HPK⟩:=hcut;have hbe:=HBE.out;subst hbe;obtain ⟨c0,c1,c2,c3,c4⟩:=HPK.out.box.cells;go_upto_if 55 with (first|(go_at_call 20;go_must (refine (HPK.out.wv.code z).mono ?_;rintro e w7 ⟨rfl,hb⟩;replace HPK:=Xa.mk (HPK.out.next hb);clear hb c0 c1 c2 c3 c4)))
    go_cut [] (fun wc=>∃ b',Xa (PK w0 w wc g x bb q4 b' (goS1 s z) (K+1) u5 out))
    case first=>
     by_cases hc:code s z=0
     ·have e0:(code s z == 0)=true:=eb_ hc;rw [e0];have aC:Xa (goS1 s z=step s z.toNat):=⟨if_pos hc⟩;have HCZ:=Xa.mk hc;obtain ⟨c0,c1,c2,c3,c4⟩:=HPK.out.box.cells;clear e0 hc;go_wp2_with (first|(go_at_call 22;go_must (refine (HPK.out.wv.step (by have:=HK.out;omega) (fun k hk=>⟨nt_ HPK.out.dr.size hk,by have:=Yt HPK.out.box;omega,fun e=>by have:=Kd.R_lt HPK.out.row k e.symm;omega⟩) HCZ.out).mono ?_;rintro e w8 ⟨b',he,hW,hO⟩;obtain ⟨B1,B2,B3,B4,B5,m1,m2,m3,m4,f0,f1,f2,f3,f4,e0,e1,e2,e3,e4⟩:=hW.forms;obtain ⟨bp',bc',aL,bs',aK,br',bt',bq'⟩:=b';obtain rfl:bp'=_:=e0;obtain rfl:bc'=_:=e1;obtain rfl:aL=_:=e2;obtain rfl:bs'=_:=e3;obtain rfl:aK=_:=e4;subst he;obtain ⟨hwb,hpk⟩:=HPK.out.step hW hO;obtain ⟨y0,y1,y2,y3,y4⟩:=Wb.cells hwb;have g0:=Xc hwb 0;have g1:=Xc hwb 1;have g2:=Xc hwb 2;have g3:=Xc hwb 3;have g4:=Xc hwb 4;have aI:=Xa.mk hpk;clear hpk hwb hW hO c0 c1 c2 c3 c4)));go_meet
      case rel=>exact ⟨_,⟨by rw [aC.out];exact aI.out⟩⟩
     ·have e0:(code s z == 0)=false:=nb_ hc;rw [e0];have aC:Xa (goS1 s z=s):=⟨if_neg hc⟩;clear e0 hc;go_wp2;go_meet
      case rel=>exact ⟨_,⟨by rw [aC.out];exact HPK.out.more⟩⟩
    case rest=>
    clear HPK;obtain ⟨b',HPK⟩:=hcut
    have hw2:wrap64 ((k1:Int))=(k1:Int):=by have:=HK.out;unfold wrap64;omega
    go_wp2_with (first|((with_reducible refine Zl (b:=.append) (xs:=#[.tmp 59,.tmp 61]) rfl ?_);at_builtin;go_must (refine Kd.R_append (Kd.int .i64) (w0:=wc) w.heap.size rfl (.tmp 59) (.tmp 61) 23 3 (.int .i64 0) 8 rfl Try.underlying23 info3 rfl de_ om_ u5 out z [.int .i64 z] (fun _=>True) (fun _=>False) rfl rfl rfl (fun _ hk=>hk.elim) (fun _ _=>trivial) HPK.out.row (Below.refl _ _) HPK.out.dr.size (by have:=HOL.out;omega) ?_;intro v9 w9 ho hb hg hat;replace HPK:=Xa.mk (HPK.out.outs hg hat ho);clear ho hb hg hat)));go_roundg k1
    case measure=>omega
    case rel=>exact ⟨b',goS1 s z,K+1,out ++ [z],q4,(by first|rfl|(simp;exact hw2)),HNX,⟨by have:=HK.out;omega⟩,⟨by have:=HOL.out;rw [List.length_append];simp;omega⟩,HPK⟩
 ·rw [if_neg hcb] at h;cases h
end Go.Proofs.Ytlhogkfmdnpmkaa.Mean
namespace Go.Proofs.Ytlhogkfmdnpmkaa.Mean
open RowKit GWhole YtlhogkfmdnpmkaaW.PrintWords YtlhogkfmdnpmkaaW.PrintLast YtlhogkfmdnpmkaaW.PrintMore Draws
def drawF (k:Nat) (l0:List Int):Option (List (List T) × List Int):=
 (spec_l11Open.f l0).bind fun o=>(someF k o.1 o.2).bind fun P=>if tameB P.1=true then (picksF k o.1 P.1 P.2).bind fun r=>some (P.1,r.1) else none
theorem draw_do (k:Nat) (A0:Option Addr) (c0:Nat) (l0:List Int) (r1:List (List T)) (r2:List Int) (w:World) (hr0:Kd.C (Kd.int .u8) w A0 l0.length l0) (hc0:l0.length≤c0) (h:drawF k l0=some (r1,r2)) :
  Calls Try.prog 15 #[.slice A0 l0.length c0] w fun e w'=>∃ aB aA:Value,e=.returned (.tuple #[aB,aA])∧Kd.N (Kd.slice 69 k69) 50 w' w.heap.size (fun k_=>w.heap.size≤k_∧some k_≠(aA:Value).ownBlock) aB r1∧Kd.R (Kd.int .i64) 3 w' w.heap.size (fun _=>True) aA r2∧Below w.heap.size w w':=by
 unfold drawF at h;obtain ⟨⟨b,p⟩,ho,h⟩:=bo_ h;obtain ⟨⟨P,q⟩,hs,h⟩:=bo_ h;simp only [] at ho hs h;by_cases ht:tameB P=true
 ·rw [if_pos ht] at h;obtain ⟨⟨out,q2⟩,hp,h⟩:=bo_ h;obtain ⟨rfl,rfl⟩:P=r1∧out=r2:=Prod.mk.inj (sj_ h);have hp:picksF k b P q=some (out,q2):=hp;obtain ⟨hsh,hln,hcn⟩:=tame_of ht;have HO:=Xa.mk ho;have HS:=Xa.mk hs;have HP:=Xa.mk hp;have HSH:=Lib.hid hsh;have HLN:=Xa.mk hln;have HIV:=Lib.hid (fun hq=>openS_inv (l:=P) hq hcn);have aJ:=Xa.mk hr0;have aG:=Xa.mk hc0;clear ho hs hp h hsh hln hcn ht hr0 hc0;go_enter Try.func15,Try.ntmps15;go_upto_region 2 with (first|(go_at_call 31;go_must (refine (spec_l11Open.calls A0 c0 l0 b p w w (Below.refl _ _) aJ.out aG.out HO.out).mono ?_;rintro e w1 ⟨g,rfl,hI,hB,hB2⟩;have HI1:=Xa.mk hI;have HB1:=Xa.mk hB;clear hI hB hB2)));go_upto_region 3 with (first|(go_at_call 32;go_must (refine (some_do k g b p P q w w1 HI1.out HB1.out HS.out).mono ?_;rintro e w2 ⟨v0,v1,rfl,hN,hD⟩;have HN:=Xa.mk hN;have HD:=Xa.mk hD;clear hN hD)));obtain ⟨Ap,cp,ep⟩:=Kd.Zk HN.out;subst ep;have hrd:=Kd.N_reads' HN.out;have HCL:=Xa.mk hrd.2.1;have HCC:=Xa.mk hrd.2.2;clear hrd;go_wp2_with (first|(go_at_call 33;go_must (refine (@picks_do ⟨fun _=>none⟩ k g b q Ap cp P out q2 w w2 HD.out.is HD.out.below HCC.out HCL.out HSH.out HLN.out HIV.out (fun _=>rfl) HP.out).mono ?_;rintro e w3 ⟨v3,rfl,hR,hD3⟩;have HR3:=Xa.mk hR;have HD3:=Xa.mk hD3;clear hR hD3)));refine bodyPost_ret (results_tmp2 rfl _ _ _) rfl ?_;have hs1:=HB1.out.size;have hs2:=HD.out.size;refine ⟨_,v3,rfl,Kd.N_lower (Kd.Yh (Kd.N_keep (Kd.N_bound HN.out) HD3.out.keep (fun k hk=>HD.out.far k hk.1)) (fun k hk=>⟨nt_ hs1 hk.1,fun e=>?_⟩)) hs1,Kd.Zr HR3.out (nt_ hs1 hs2),HD3.out.below⟩
  have:=Kd.Za HR3.out k e.symm
  have:=hk.2
  omega
 ·rw [if_neg ht] at h;cases h
end Go.Proofs.Ytlhogkfmdnpmkaa.Mean
namespace Go.Proofs.Ytlhogkfmdnpmkaa.GWhole
open RowKit YtlhogkfmdnpmkaaW.PrintWords YtlhogkfmdnpmkaaW.PrintLast YtlhogkfmdnpmkaaW.PrintMore
attribute [local go_sem] Uq Us max_two min_two Zz Ua Ur Ut
def spec_DrawWholeOrder.f (k:Nat) (l0:List Int):Option (List (List (S69)) × List Int):=Mean.drawF k l0
theorem spec_DrawWholeOrder.calls (k:Nat) (A0:Option Addr) (c0:Nat) (l0:List Int) (r1:List (List (S69))) (r2:List Int) (w:World) (hr0:Kd.C (Kd.int .u8) w A0 l0.length l0) (hc0:l0.length≤c0) (h:spec_DrawWholeOrder.f k l0=some (r1,r2)) :
  Calls Try.prog 15 #[.slice A0 l0.length c0] w fun e w'=>∃ aB aA:Value,e=.returned (.tuple #[aB,aA])∧Kd.N (Kd.slice 69 k69) 50 w' w.heap.size (fun k_=>w.heap.size≤k_∧some k_≠(aA:Value).ownBlock) aB r1∧Kd.R (Kd.int .i64) 3 w' w.heap.size (fun _=>True) aA r2∧Below w.heap.size w w':=Mean.draw_do k A0 c0 l0 r1 r2 w hr0 hc0 h
end Go.Proofs.Ytlhogkfmdnpmkaa.GWhole
