import Derived.Test.YtlhogkfmdnpmkaaCFnWholeOrder73
import Derived.Test.YtlhogkfmdnpmkaaCFnWholeOrder74
import Derived.Test.YtlhogkfmdnpmkaaCFnWholeOrder76
set_option linter.unusedSectionVars false
set_option linter.unusedVariables false
set_option linter.unusedSimpArgs false
set_option maxRecDepth 100000
namespace Go.Proofs.Ytlhogkfmdnpmkaa.Mean
open RowKit GWhole YtlhogkfmdnpmkaaW.PrintWords YtlhogkfmdnpmkaaW.PrintLast YtlhogkfmdnpmkaaW.PrintMore Ytlhogkfmdnpmkaa.Pure
variable [Prot]
theorem cells5 {W:World} {g:Nat} {a b c d e:Value} {t:TypeId} (h:W.heap[g]?=some (.cells #[a,b,c,d,e] t (0,0))):W.cell? ⟨g,0,none⟩=some a∧W.cell? ⟨g,1,none⟩=some b∧W.cell? ⟨g,2,none⟩=some c∧W.cell? ⟨g,3,none⟩=some d∧W.cell? ⟨g,4,none⟩=some e:=
 ⟨(Xh h 0).trans rfl,(Xh h 1).trans rfl,(Xh h 2).trans rfl,(Xh h 3).trans rfl,(Xh h 4).trans rfl⟩
theorem frozen5 {W:World} {g:Nat} {cs:Array Value} {t:TypeId} (h:W.heap[g]?=some (.cells cs t (0,0))):W.frozen? ⟨g,0,none⟩=false∧W.frozen? ⟨g,1,none⟩=false∧W.frozen? ⟨g,2,none⟩=false∧W.frozen? ⟨g,3,none⟩=false∧W.frozen? ⟨g,4,none⟩=false:=
 ⟨Xc h 0,Xc h 1,Xc h 2,Xc h 3,Xc h 4⟩
theorem At.low_below {w W W':World} {ok:Nat→Prop} {b:BK} {s:WS} (hp:∀ k o,w.heap[k]?=some o→Prot.low k=some o) (hA:At W' w.heap.size ok b s) (hB:Below w.heap.size w W) (hO:Only W W' ok):Below w.heap.size w W':=
 ⟨hO.os.trans hB.os,hO.tape.trans hB.tape,hO.output.trans hB.output,nt_ hB.size hO.size,fun k hk=>by
  have e:w.heap[k]?=some w.heap[k]:=Array.getElem?_eq_getElem hk
  rw [e];exact (hA.low k _ (hp k _ e)).2.2⟩
def put5 (W:World) (g:Nat) (b:BK):World:=((((W.setCell ⟨g,0,none⟩ b.p).setCell ⟨g,1,none⟩ b.c).setCell ⟨g,2,none⟩ b.m).setCell ⟨g,3,none⟩ b.s).setCell ⟨g,4,none⟩ b.d
theorem put5_far {W:World} {g:Nat} {b:BK} {k:Nat} (hk:k≠g):(put5 W g b).heap[k]?=W.heap[k]?:=by
 unfold put5;rw [Below.heap_setCell _ _ _ k hk,Below.heap_setCell _ _ _ k hk,Below.heap_setCell _ _ _ k hk,Below.heap_setCell _ _ _ k hk,Below.heap_setCell _ _ _ k hk]
theorem put5_below {w W:World} {N g:Nat} (b:BK) (h:Below N w W) (hg:N≤g):Below N w (put5 W g b):=
 Below.setCell (p:=⟨g,4,none⟩) (Below.setCell (p:=⟨g,3,none⟩) (Below.setCell (p:=⟨g,2,none⟩) (Below.setCell (p:=⟨g,1,none⟩) (Below.setCell (p:=⟨g,0,none⟩) h hg _) hg _) hg _) hg _) hg _
theorem put5_blk {W:World} {g:Nat} (b:BK) {a0 a1 a2 a3 a4:Value} (h:W.heap[g]?=some (.cells #[a0,a1,a2,a3,a4] 45 (0,0))):Wb (put5 W g b) g b:=Yb (Yb (Yb (Yb (Yb h 0 b.p) 1 b.c) 2 b.m) 3 b.s) 4 b.d
theorem At.put5 {W:World} {base g:Nat} {ok:Nat→Prop} {b b':BK} {s:WS} (h:At W base ok b s) (hok:∀ k,ok k→k≠g):At (put5 W g b') base ok b s:=h.step (fun k hk _=>put5_far (hok k hk))
theorem At.outs {W W9:World} {base g:Nat} {b:BK} {s:WS} {v v9:Value} (h:At W base (fun k=>k≠g∧some k≠v.ownBlock) b s) (hg:W.grownBy W9 v.ownBlock) (hat:v9.ownBlock=v.ownBlock∨∃ x,v9.ownBlock=some x∧W.heap.size≤x) :
  At W9 base (fun k=>k≠g∧some k≠v9.ownBlock) b s:=by
 refine (h.lt.step (fun k hk hlt=>hg.block k hlt hk.1.2)).mono (fun k hk=>⟨hk.1.1,fun e=>?_⟩)
 rcases hat with e1|⟨x,e1,hle⟩
 ·exact hk.1.2 (e1 ▸ e)
 ·rw [e1] at e;injection e with e;have:=hk.2;omega
structure RW (e0 g:Nat) (w W:World) (b:BK) (s:WS) (v:Value) (xs:List Int):Prop where
 at_:At W e0 (fun k=>k≠g∧some k≠v.ownBlock) b s
 wb:Wb W g b
 row:W.ownsRow e0 3 1 v xs.length (nums .i64 xs)
 gv:some g≠v.ownBlock
 below:Below e0 w W
 gl:e0≤g
theorem RW.size {e0 g:Nat} {w W:World} {b:BK} {s:WS} {v:Value} {xs:List Int} (h:RW e0 g w W b s v xs):e0≤W.heap.size:=nt_ h.gl (Nat.le_of_lt (Yt h.wb))
theorem RW.next {e0 g:Nat} {w W W':World} {b:BK} {s:WS} {v:Value} {xs:List Int} (h:RW e0 g w W b s v xs) (hb:Below W.heap.size W W'):RW e0 g w W' b s v xs:=
 ⟨h.at_.below hb,Xu h.wb hb,own_move h.row (fun k hk=>hb.block k (own_lt h.row k hk)),h.gv,h.below.trans (hb.mono h.size),h.gl⟩
theorem RW.drew {e0 g:Nat} {w W:World} {b:BK} {s:WS} {v:Value} {xs:List Int} (h:RW e0 g w W b s v xs):RW e0 g w W.drew b s v xs:=h.next (Xm (Below.refl _ _))
theorem RW.up {e0 g:Nat} {w W:World} {b:BK} {s:WS} {v:Value} {xs:List Int} (h:RW e0 g w W b s v xs):∀ k,W.heap.size≤k→k≠g∧some k≠v.ownBlock:=fun k hk=>⟨by have:=Yt h.wb;omega,fun e=>by have:=own_lt h.row k e.symm;omega⟩
theorem RW.outs {e0 g:Nat} {w W W9:World} {b:BK} {s:WS} {v v9:Value} {xs ys:List Int} (h:RW e0 g w W b s v xs) (hg:W.grownBy W9 v.ownBlock) (hat:v9.ownBlock=v.ownBlock∨∃ x,v9.ownBlock=some x∧W.heap.size≤x) (ho:W9.ownsRow e0 3 1 v9 ys.length (nums .i64 ys)):RW e0 g w W9 b s v9 ys:=
 ⟨h.at_.outs hg hat,(hg.block g (Yt h.wb) h.gv).trans h.wb,ho,fun e=>by
  rcases hat with e1|⟨x,e1,hle⟩
  ·exact h.gv (e1 ▸ e)
  ·rw [e1] at e;injection e with e;have:=Yt h.wb;omega,Below.grown h.below hg h.size (fun k hk=>Uj h.row k hk),h.gl⟩
theorem RW.step {e0 g:Nat} {w W W':World} {b b':BK} {s s':WS} {v:Value} {xs:List Int} (hw:w.heap.size=e0) (hp:∀ k o,w.heap[k]?=some o→Prot.low k=some o) (h:RW e0 g w W b s v xs) (hA:At W' e0 (fun k=>k≠g∧some k≠v.ownBlock) b' s') (hO:Only W W' (fun k=>k≠g∧some k≠v.ownBlock)) :
  Wb W' g b∧Below e0 w W'∧RW e0 g w (put5 W' g b') b' s' v xs:=by
 subst hw;have hb:=At.low_below hp hA h.below hO;have hwb:Wb W' g b:=(hO.block g (Yt h.wb) (fun x=>x.1 rfl)).trans h.wb;have hrow:W'.ownsRow w.heap.size 3 1 v xs.length (nums .i64 xs):=own_move h.row (fun k hk=>hO.block k (own_lt h.row k hk) (fun x=>x.2 hk.symm));exact ⟨hwb,hb,hA.put5 (fun k hk=>hk.1),put5_blk b' hwb,own_move hrow (fun k hk=>put5_far (fun e=>h.gv (e ▸ hk.symm))),h.gv,put5_below b' hb h.gl,h.gl⟩
set_option maxHeartbeats 16000000 in
theorem rwhole_do (A0:Option Addr) (c0:Nat) (l0:List (List T)) (A1:Option Addr) (c1:Nat) (l1:List Int) (w:World) (hr0:Kd.C (Kd.slice 69 k69) w A0 l0.length l0) (hc0:l0.length≤c0) (hr1:Kd.C (Kd.int .i64) w A1 l1.length l1) (hc1:l1.length≤c1)
  (hsh:∀ x ∈ l0,Stmts.Short 3 x) (hln:l0.length≤1048576) (hinv:Uk l0=true→Inv (Ya l0) 0∧(∀ l ∈ l0,Small 4 l)) (hp:∀ k o,w.heap[k]?=some o→Prot.low k=some o) (hlow:∀ k o,Prot.low k=some o→w.heap[k]?=some o) :
  Calls Try.prog 6 #[.slice A0 l0.length c0,.slice A1 l1.length c1] w fun e w'=>∃ v:Value,e=.returned v∧Kd.R (Kd.int .i64) 3 w' w.heap.size (fun _=>True) v (whole l0 l1)∧Below w.heap.size w w':=by
 have PL:=Lib.hid (fun (w1:World) (hb:Below w.heap.size w w1)=>rprog_do hsh hln A0 c0 w1 (Kd.Yr hr0 hb) hc0);have hbe:=Xf (Below.refl w.heap.size w) (.cells #[] 3);have hne:=Ym w (.cells #[] 3);by_cases hq:(Uk l0 && decide (l1.length≤200))=true
 ·rw [Bool.and_eq_true] at hq;obtain ⟨hI,hS⟩:=hinv hq.1;have hl200:l1.length≤200:=od_ hq.2
  have hl3:l0.length≤1000:=by
   have h3:=hI.n.2;rw [openS_n] at h3;omega
  have eW:whole l0 l1=(l1.foldl goS (Ya l0,[])).2:=if_pos (by rw [hq.1,hq.2];rfl);rw [eW];rw [hq.1] at PL;have OP:=Lib.hid (fun (w1:World) (hb:Below w.heap.size w w1)=>ropen_do A0 c0 l0 w w1 hb hr0 hc0 hl3 (fun l hl=>(hS l hl).1) (fun w' hb'=>PL.out w' (hb.trans (hb'.mono hb.size))) (fun k o ho=>⟨(Array.getElem?_eq_some_iff.1 (hlow k o ho)).1,hlow k o ho⟩));have aY:Xa (0<(Ya l0).n):=⟨hI.n.1⟩;have HR1:=Xa.mk hr1;have HI:=Xa.mk hI;have aW:decide ((l1.length:Int) > 200)=false:=df_ om_;clear hinv hr0 hr1 hI hS eW hq hsh;go_enter Try.func6,Try.ntmps6;go_upto_region 2 with (fail);have HBE:=Xa.mk hbe;have HNE:=Xa.mk hne;clear hbe hne;generalize w.alloc (.cells #[] 3)=w0 at *;generalize he:w.heap.size=e0 at *;go_upto_region 5 with (first|(go_at_call 17;refine (PL.out w0 HBE.out).mono ?_;rintro e w1 ⟨rfl,hb1⟩;have aH:=HBE.out.trans (hb1.mono (he ▸ HBE.out.size)))|(go_at_call 19;refine (OP.out w1 aH).mono ?_;rintro e w2 ⟨b,rfl,hA,hb2⟩;obtain ⟨P,C,M,S,Ad,q0,q1,q2,q3,q4,HF⟩:=hA.forms aY.out;rw [HF.rv]));have hle:e0≤w1.heap.size:=he ▸ aH.size;have aN:e0<w1.heap.size:=nl_ (Yt HNE.out) hb1.size;have hA':At w2 e0 (fun k=>k<e0∨w1.heap.size≤k) b (Ya l0):=⟨hA.rows.lower hle,fun i hi=>hA.tree i hi,fun k o ho=>⟨(hA.low k o ho).1,he ▸ (Array.getElem?_eq_some_iff.1 (hlow k o ho)).1,(hA.low k o ho).2.2⟩⟩;have hbA:=Xf (Below.refl w2.heap.size w2) (RB b);have hs2:e0≤w2.heap.size:=nt_ hle hb2.size;have aV:=hb2.size;have hne2:(w2.alloc (RB b)).heap[e0]?=some (.cells #[] 3 (0,0)):=(hbA.block e0 om_).trans ((hb2.block e0 aN).trans ((hb1.block e0 (Yt HNE.out)).trans HNE.out))
  have hRW:RW e0 w2.heap.size w (w2.alloc (RB b)) b (Ya l0) (.slice (some ⟨e0,0,none⟩) 0 0) []:=
   ⟨(hA'.lt.below hbA).mono (fun k hk=>⟨by have:=hk.2;omega,fun e=>by injection e with e;have e1:k=e0:=e;have:=hk.1;omega⟩),Ym w2 (RB b),own_blk hne2 (nr_ _) de_ rfl rfl rfl,fun e=>by injection e with e;have e1:w2.heap.size=e0:=e;omega,(aH.trans (hb2.mono hle)).trans (hbA.mono hs2),hs2⟩
  rw [← HF.rb];have HRW:=Xa.mk hRW;clear hRW hne2 hA' hA hle aN hbA hs2 aV hb2 aH hb1 PL OP HBE HNE HF;generalize hg2:w2.alloc (RB b)=wL at *;generalize w2.heap.size=g at *;go_wp2
  go_loopg [5,7] l1.length (fun kq v5 v7 w'=>∃ (j:Nat) (A:Option Addr) (cA:Nat) (b:BK) (p:WS × List Int),v5=.slice A p.2.length cA∧v7=.int .i64 (j:Int)∧Xa (kq+j=l1.length)∧Xa (p=(l1.take j).foldl goS (Ya l0,[]))∧Xa (Inv p.1 j)∧Xa (p.2.length≤j)∧Xa (RW e0 g w w' b p.1 (.slice A p.2.length cA) p.2))
  case atStart=>exact ⟨0,some ⟨e0,0,none⟩,0,b,(Ya l0,[]),rfl,rfl,⟨sm_⟩,⟨rfl⟩,HI,⟨nr_ _⟩,HRW⟩
  case round=>
   clear HRW HI hg2;obtain ⟨j,A,cA,b,p,rfl,rfl,HK,HP,HI,HLE,HRW⟩:=hrel;by_cases hj:j<l1.length
   ·cases gk with
    |zero=>exact absurd HK.out om_
    |succ k1=>
     have aZ:decide ((j:Int)<(l1.length:Int))=true:=dt_ om_
     have p0:0≤(j:Int):=om_
     have bA:(j:Int)<(l1.length:Int):=om_
     obtain ⟨ad,eA,hx⟩:=Kd.at_int HR1.out (j:Int) p0 bA;cases eA
     have hrd:rd l1 (j:Int)=l1[j]:=by unfold rd;simp [List.getD_eq_getElem?_getD,hj]
     have ej:((j:Int)).toNat=j:=rfl;rw [hrd,ej] at hx
     have hwj:IntKind.i64.wrap ((j:Int)+1)=(j:Int)+1:=by rw [IntKind.wrap_i64];omega
     have HN:Xa (goS p l1[j]=(l1.take (j+1)).foldl goS (Ya l0,[])):=⟨by rw [List.take_succ_eq_append_getElem hj,List.foldl_append,← HP.out];rfl⟩;have HI2:=Xa.mk (goS_inv HI.out l1[j]);have HL2:Xa ((goS p l1[j]).2.length≤j+1):=⟨by have:=goS_len p l1[j];have:=HLE.out;omega⟩;generalize l1[j]=who at *;have HPK:Xa (∀ W,Below e0 w W→W.cell? (ad.add j)=some (.int .i64 who)):=⟨fun W hb=>(hb.cell (he ▸ World.block_lt_of_cell? w _ hx)).trans hx⟩;obtain ⟨P,C,M,S,Ad,q0,q1,q2,q3,q4,HF⟩:=HRW.out.at_.forms HI.out.n.1;have HWB:Xa (∀ (v:Value) (xs:List Int) (W:World),RW e0 g w W b p.1 v xs→W.heap[g]?=some (.cells #[.slice (some ⟨P,0,none⟩) p.1.n q0,.slice (some ⟨C,0,none⟩) 3 q1,.slice (some ⟨M,0,none⟩) 2 q2,.slice (some ⟨S,0,none⟩) 2 q3,.slice Ad p.1.said.length q4] 45 (0,0))∧W.cell? (ad.add j)=some (.int .i64 who)):=⟨fun v xs W h=>⟨by have h1:=h.wb;unfold Wb at h1;rw [HF.p,HF.c,HF.m,HF.g,HF.d] at h1;exact h1,HPK.out W h.below⟩⟩;have HCD:=Lib.hid (fun (W:World) (h:RW e0 g w W b p.1 (.slice A p.2.length cA) p.2)=>HF.rv ▸ rcode_do W e0 _ b p.1 j h.at_ HI.out who);clear hrd ej HP hx
     try go_wp2
     have aC:=Xa.mk HRW.out.drew;have HSW:=Xa.mk (HWB.out _ _ _ aC.out);refine start_ (n:=7) (S:=fun w'=>w'.heap[g]?=some (.cells #[.slice (some ⟨P,0,none⟩) p.1.n q0,.slice (some ⟨C,0,none⟩) 3 q1,.slice (some ⟨M,0,none⟩) 2 q2,.slice (some ⟨S,0,none⟩) 2 q3,.slice Ad p.1.said.length q4] 45 (0,0))∧w'.cell? (ad.add j)=some (.int .i64 who)) (ds:=[]) #[false,false,false,false,false,false,false] kr_ rfl rl1_ HSW.out (fun hHeld=>?_);generalize wr.drew=w3 at aC HSW hHeld ⊢;refine pu_' 1 (some 27) ?_;refine pu_' 2 (some 28) ?_;refine pu_' 3 (some 29) ?_;refine tk_' 0 (some 26) rfl hHeld (by rintro w' s0;obtain ⟨c0,c1,c2,c3,c4⟩:=cells5 s0.1;clear s0;go_simp;with_reducible rfl) ?_;refine tk_' 4 (some 30) rfl hHeld (by rintro w' s0;have c0:=s0.2;clear s0;go_simp;with_reducible rfl) ?_;refine re_' 5 (some 31) fun K hK=>?_;refine goes_ Try.func20 kr_ rfl #[.agg #[.slice (some ⟨P,0,none⟩) p.1.n q0,.slice (some ⟨C,0,none⟩) 3 q1,.slice (some ⟨M,0,none⟩) 2 q2,.slice (some ⟨S,0,none⟩) 2 q3,.slice Ad p.1.said.length q4],.int .i64 who] rl1_ rfl rfl ga_ ?_;refine (HCD.out w3 aC.out).mono ?_;rintro e w4 ⟨rfl,hb4⟩;refine ⟨_,rfl,?_⟩;have aG:=Xa.mk (aC.out.next hb4);clear hb4;refine hK.out _ _ (HWB.out _ _ _ aG.out) (fun hHeld=>?_);clear hK K;refine no_ ?_;refine pu_' 6 (some 32) ?_;refine done_ kr_ ?_;by_cases hcode:code p.1 who=0
     ·obtain ⟨i,rfl,hi,hcn⟩:=code_zero hcode
      have z1:(code p.1 (i:Int) == 0)=true:=by rw [hcode];rfl
      have HCM:=Lib.hid (fun (W:World) (h:RW e0 g w W b p.1 (.slice A p.2.length cA) p.2)=>HF.rv ▸ rcomes_do W e0 _ b p.1 j h.at_ HI.out i hi hcn)
      have aK:j≤20000:=om_
      go_wp2;have aD:=Xa.mk aG.out.drew;have HSW:=Xa.mk (HWB.out _ _ _ aD.out);refine start_ (n:=6) (S:=fun w'=>w'.heap[g]?=some (.cells #[.slice (some ⟨P,0,none⟩) p.1.n q0,.slice (some ⟨C,0,none⟩) 3 q1,.slice (some ⟨M,0,none⟩) 2 q2,.slice (some ⟨S,0,none⟩) 2 q3,.slice Ad p.1.said.length q4] 45 (0,0))∧w'.cell? (ad.add j)=some (.int .i64 (i:Int))) (ds:=[]) #[false,false,false,false,false,false] kr_ rfl rl1_ HSW.out (fun hHeld=>?_);generalize w4.drew=w5 at aD HSW hHeld ⊢;refine pu_' 1 (some 34) ?_;refine pu_' 2 (some 35) ?_;refine pu_' 3 (some 36) ?_;refine tk_' 0 (some 33) rfl hHeld (by rintro w' s0;obtain ⟨c0,c1,c2,c3,c4⟩:=cells5 s0.1;clear s0;go_simp;with_reducible rfl) ?_;refine tk_' 4 (some 37) rfl hHeld (by rintro w' s0;have c0:=s0.2;clear s0;go_simp;with_reducible rfl) ?_;refine re_' 5 (some 38) fun K hK=>?_;refine goes_ Try.func21 kr_ rfl #[.agg #[.slice (some ⟨P,0,none⟩) p.1.n q0,.slice (some ⟨C,0,none⟩) 3 q1,.slice (some ⟨M,0,none⟩) 2 q2,.slice (some ⟨S,0,none⟩) 2 q3,.slice Ad p.1.said.length q4],.int .i64 (i:Int)] rl1_ rfl rfl ga_ ?_;refine (HCM.out w5 aD.out).mono ?_;rintro e w6 ⟨rfl,hb6⟩;refine ⟨_,rfl,?_⟩;have aF:=Xa.mk (aD.out.next hb6);clear hb6;refine hK.out _ _ (HWB.out _ _ _ aF.out) (fun hHeld=>?_);clear hK K;refine no_ ?_;refine done_ kr_ ?_;by_cases hcm:comes p.1 i=true
      ·have eG:goS p (i:Int)=(step p.1 i,p.2 ++ [(i:Int)]):=by
        unfold goS;rw [if_pos hcode];show (step p.1 i,if comes p.1 i=true then _ else _)=_
        rw [if_pos hcm]
       rw [eG] at HN HI2 HL2;rw [hcm];clear hcm eG hcode z1;have HSP:=Lib.hid (fun (v:Value) (xs:List Int) (W:World) (h:RW e0 g w W b p.1 v xs)=>HF.rv ▸ rstep_do W e0 _ b p.1 i j h.at_ h.up hi HI.out aK hcn);go_upto_region 11 with (first|(at_builtin;refine print_append_num (w0:=w6) e0 rfl (.tmp 39) (.tmp 44) 23 3 .i64 8 rfl Try.underlying23 info3 de_ (.slice A p.2.length cA) p.2 (i:Int) rfl rfl aF.out.row (Below.refl _ _) aF.out.size (by have:=HLE.out;omega) ?_;intro v9 w9 aU hbz aX aM;clear hbz;obtain ⟨A9,c9,e9⟩:=Yn aU;subst e9));have aP:=Xa.mk (aF.out.outs aX aM aU);clear aX aM aU aF aD aG aC HRW HCD HCM HLE hcn hi;have aA:=Xa.mk aP.out.drew;have HSW:=Xa.mk (HWB.out _ _ _ aA.out);refine start_ (n:=7) (S:=fun w'=>w'.heap[g]?=some (.cells #[.slice (some ⟨P,0,none⟩) p.1.n q0,.slice (some ⟨C,0,none⟩) 3 q1,.slice (some ⟨M,0,none⟩) 2 q2,.slice (some ⟨S,0,none⟩) 2 q3,.slice Ad p.1.said.length q4] 45 (0,0))∧w'.cell? (ad.add j)=some (.int .i64 (i:Int))) (ds:=[6]) #[false,false,false,false,false,false,false] kr_ rfl rl1_ HSW.out (fun hHeld=>?_);generalize w9.drew=w7 at aA HSW hHeld ⊢;refine pu_' 1 (some 47) ?_;refine pu_' 2 (some 48) ?_;refine pu_' 3 (some 49) ?_;refine tk_' 0 (some 46) rfl hHeld (by rintro w' s0;obtain ⟨c0,c1,c2,c3,c4⟩:=cells5 s0.1;clear s0;go_simp;with_reducible rfl) ?_;refine tk_' 4 (some 50) rfl hHeld (by rintro w' s0;have c0:=s0.2;clear s0;go_simp;with_reducible rfl) ?_;refine re_' 5 (some 51) fun K hK=>?_;refine goes_ Try.func22 kr_ rfl #[.agg #[.slice (some ⟨P,0,none⟩) p.1.n q0,.slice (some ⟨C,0,none⟩) 3 q1,.slice (some ⟨M,0,none⟩) 2 q2,.slice (some ⟨S,0,none⟩) 2 q3,.slice Ad p.1.said.length q4],.int .i64 (i:Int)] rl1_ rfl rfl ga_ ?_;refine (HSP.out _ _ w7 aA.out).mono ?_;rintro e w8 ⟨b',rfl,aI,aL⟩;refine ⟨_,rfl,?_⟩;obtain ⟨P',C',M',S',aO,r0,r1,r2,r3,r4,aB⟩:=aI.forms HI2.out.n.1;have hst:=aA.out.step he hp aI aL
       have eput:put5 w8 g b'=((((w8.setCell ⟨g,0,none⟩ (.slice (some ⟨P',0,none⟩) (step p.1 i).n r0)).setCell ⟨g,1,none⟩ (.slice (some ⟨C',0,none⟩) 3 r1)).setCell ⟨g,2,none⟩ (.slice (some ⟨M',0,none⟩) 2 r2)).setCell ⟨g,3,none⟩ (.slice (some ⟨S',0,none⟩) 2 r3)).setCell ⟨g,4,none⟩ (.slice aO (step p.1 i).said.length r4):=by unfold put5;rw [aB.p,aB.c,aB.m,aB.g,aB.d]
       have hcell:w8.heap[g]?=some (.cells #[.slice (some ⟨P,0,none⟩) p.1.n q0,.slice (some ⟨C,0,none⟩) 3 q1,.slice (some ⟨M,0,none⟩) 2 q2,.slice (some ⟨S,0,none⟩) 2 q3,.slice Ad p.1.said.length q4] 45 (0,0)):=by have h1:=hst.1;unfold Wb at h1;rw [HF.p,HF.c,HF.m,HF.g,HF.d] at h1;exact h1
       rw [aB.rv];have HEP:=Xa.mk eput;have HCE:=Xa.mk hcell;have HRN:=Xa.mk hst.2.2;have aJ:=Xa.mk hst.2.1;clear eput hst aI aL aB hcell;refine hK.out _ _ ⟨HCE.out,HPK.out _ aJ.out⟩ (fun hHeld=>?_);clear hK K hHeld;refine no_ ?_;refine rl_' 6 none fun K hK=>?_;obtain ⟨c0',c1',c2',c3',aQ⟩:=cells5 HCE.out;obtain ⟨aR,aS,f2',f3',aT⟩:=frozen5 HCE.out;refine skip_ (w1:=put5 w8 g b') rfl rfl ?_ ?_
       ·rw [HEP.out];go_simp
       refine hK.out _ _ ?_;clear hK K c0' c1' c2' c3' aQ aR aS f2' f3' aT;refine done_ kr_ ?_;generalize put5 w8 g b'=w9 at HRN ⊢;clear HEP HCE aJ;go_wp2;go_roundg k1
       case measure=>omega
       case rel=>exact ⟨j+1,A9,c9,b',(step p.1 i,p.2 ++ [(i:Int)]),(by show Value.slice A9 (p.2.length+1) c9=Value.slice A9 (p.2 ++ [(i:Int)]).length c9;rw [List.length_append,List.length_singleton]),rfl,⟨by have:=HK.out;omega⟩,HN,HI2,HL2,HRN⟩
      ·have hcm':comes p.1 i=false:=by simpa using hcm
       have eG:goS p (i:Int)=(step p.1 i,p.2):=by
        unfold goS;rw [if_pos hcode];show (step p.1 i,if comes p.1 i=true then _ else _)=_
        rw [if_neg hcm]
       rw [eG] at HN HI2 HL2;rw [hcm'];clear hcm hcm' eG hcode z1;have HSP:=Lib.hid (fun (v:Value) (xs:List Int) (W:World) (h:RW e0 g w W b p.1 v xs)=>HF.rv ▸ rstep_do W e0 _ b p.1 i j h.at_ h.up hi HI.out aK hcn);go_upto_region 11 with (fail);clear aD aG aC HRW HCD HCM HLE hcn hi;have aA:=Xa.mk aF.out.drew;have HSW:=Xa.mk (HWB.out _ _ _ aA.out);refine start_ (n:=7) (S:=fun w'=>w'.heap[g]?=some (.cells #[.slice (some ⟨P,0,none⟩) p.1.n q0,.slice (some ⟨C,0,none⟩) 3 q1,.slice (some ⟨M,0,none⟩) 2 q2,.slice (some ⟨S,0,none⟩) 2 q3,.slice Ad p.1.said.length q4] 45 (0,0))∧w'.cell? (ad.add j)=some (.int .i64 (i:Int))) (ds:=[6]) #[false,false,false,false,false,false,false] kr_ rfl rl1_ HSW.out (fun hHeld=>?_);generalize w6.drew=w7 at aA HSW hHeld ⊢;refine pu_' 1 (some 47) ?_;refine pu_' 2 (some 48) ?_;refine pu_' 3 (some 49) ?_;refine tk_' 0 (some 46) rfl hHeld (by rintro w' s0;obtain ⟨c0,c1,c2,c3,c4⟩:=cells5 s0.1;clear s0;go_simp;with_reducible rfl) ?_;refine tk_' 4 (some 50) rfl hHeld (by rintro w' s0;have c0:=s0.2;clear s0;go_simp;with_reducible rfl) ?_;refine re_' 5 (some 51) fun K hK=>?_;refine goes_ Try.func22 kr_ rfl #[.agg #[.slice (some ⟨P,0,none⟩) p.1.n q0,.slice (some ⟨C,0,none⟩) 3 q1,.slice (some ⟨M,0,none⟩) 2 q2,.slice (some ⟨S,0,none⟩) 2 q3,.slice Ad p.1.said.length q4],.int .i64 (i:Int)] rl1_ rfl rfl ga_ ?_;refine (HSP.out _ _ w7 aA.out).mono ?_;rintro e w8 ⟨b',rfl,aI,aL⟩;refine ⟨_,rfl,?_⟩;obtain ⟨P',C',M',S',aO,r0,r1,r2,r3,r4,aB⟩:=aI.forms HI2.out.n.1;have hst:=aA.out.step he hp aI aL
       have eput:put5 w8 g b'=((((w8.setCell ⟨g,0,none⟩ (.slice (some ⟨P',0,none⟩) (step p.1 i).n r0)).setCell ⟨g,1,none⟩ (.slice (some ⟨C',0,none⟩) 3 r1)).setCell ⟨g,2,none⟩ (.slice (some ⟨M',0,none⟩) 2 r2)).setCell ⟨g,3,none⟩ (.slice (some ⟨S',0,none⟩) 2 r3)).setCell ⟨g,4,none⟩ (.slice aO (step p.1 i).said.length r4):=by unfold put5;rw [aB.p,aB.c,aB.m,aB.g,aB.d]
       have hcell:w8.heap[g]?=some (.cells #[.slice (some ⟨P,0,none⟩) p.1.n q0,.slice (some ⟨C,0,none⟩) 3 q1,.slice (some ⟨M,0,none⟩) 2 q2,.slice (some ⟨S,0,none⟩) 2 q3,.slice Ad p.1.said.length q4] 45 (0,0)):=by have h1:=hst.1;unfold Wb at h1;rw [HF.p,HF.c,HF.m,HF.g,HF.d] at h1;exact h1
       rw [aB.rv];have HEP:=Xa.mk eput;have HCE:=Xa.mk hcell;have HRN:=Xa.mk hst.2.2;have aJ:=Xa.mk hst.2.1;clear eput hst aI aL aB hcell;refine hK.out _ _ ⟨HCE.out,HPK.out _ aJ.out⟩ (fun hHeld=>?_);clear hK K hHeld;refine no_ ?_;refine rl_' 6 none fun K hK=>?_;obtain ⟨c0',c1',c2',c3',aQ⟩:=cells5 HCE.out;obtain ⟨aR,aS,f2',f3',aT⟩:=frozen5 HCE.out;refine skip_ (w1:=put5 w8 g b') rfl rfl ?_ ?_
       ·rw [HEP.out];go_simp
       refine hK.out _ _ ?_;clear hK K c0' c1' c2' c3' aQ aR aS f2' f3' aT;refine done_ kr_ ?_;generalize put5 w8 g b'=w9 at HRN ⊢;clear HEP HCE aJ;go_wp2;go_roundg k1
       case measure=>omega
       case rel=>exact ⟨j+1,A,cA,b',(step p.1 i,p.2),rfl,rfl,⟨by have:=HK.out;omega⟩,HN,HI2,HL2,HRN⟩
     ·have eG:goS p who=p:=if_neg hcode;rw [eG] at HN HI2 HL2
      have z2:(code p.1 who == 0)=false:=by simpa using hcode
      clear hcode eG;go_wp2;go_roundg k1
      case measure=>omega
      case rel=>exact ⟨j+1,A,cA,b,p,rfl,rfl,⟨by have:=HK.out;omega⟩,HN,HI2,HL2,aG⟩
   ·have hjl:j=l1.length:=by have:=HK.out;omega
    have aZ:decide ((j:Int)<(l1.length:Int))=false:=df_ om_
    have eP:(l1.foldl goS (Ya l0,[])).2=p.2:=by rw [HP.out,hjl,List.take_length]
    have EP:=Xa.mk eP;have c2b:decide (j<l1.length)=false:=df_ om_;clear eP hjl HI HP;go_wp2;go_ret
    subst he;refine ⟨_,rfl,?_,HRW.out.below⟩;rw [EP.out];exact Kd.R_of_own HRW.out.row (fun _ _=>trivial)
 ·have eW:whole l0 l1=[]:=if_neg hq;rw [eW];by_cases hpk:Uk l0=true
  ·rw [hpk] at PL;have h200:¬ l1.length≤200:=fun h=>hq (by rw [hpk,dt_ h];rfl);have aW:decide ((l1.length:Int) > 200)=true:=dt_ om_;have z201:decide (l1.length > 200)=true:=dt_ om_;clear hinv hr0 hr1 hq eW hsh hpk;go_enter Try.func6,Try.ntmps6;go_upto_region 2 with (fail);have HBE:=Xa.mk hbe;have HNE:=Xa.mk hne;clear hbe hne;generalize w.alloc (.cells #[] 3)=w0 at *;generalize he:w.heap.size=e0 at *;go_wp2_with (first|(go_at_call 17;refine (PL.out w0 HBE.out).mono ?_;rintro e w1 ⟨rfl,hb1⟩));go_ret
   subst he;refine ⟨_,rfl,?_,HBE.out.trans (hb1.mono HBE.out.size)⟩;exact Kd.R_of_own (xs:=[]) (own_blk ((hb1.block _ (Yt HNE.out)).trans HNE.out) (nr_ _) de_ rfl rfl rfl) (fun _ _=>trivial)
  ·have hpk':Uk l0=false:=by simpa using hpk
   rw [hpk'] at PL;clear hinv hr0 hr1 hq eW hsh hpk hpk';go_enter Try.func6,Try.ntmps6;go_upto_region 2 with (fail);have HBE:=Xa.mk hbe;have HNE:=Xa.mk hne;clear hbe hne;generalize w.alloc (.cells #[] 3)=w0 at *;generalize he:w.heap.size=e0 at *;go_wp2_with (first|(go_at_call 17;refine (PL.out w0 HBE.out).mono ?_;rintro e w1 ⟨rfl,hb1⟩));go_ret
   subst he;refine ⟨_,rfl,?_,HBE.out.trans (hb1.mono HBE.out.size)⟩;exact Kd.R_of_own (xs:=[]) (own_blk ((hb1.block _ (Yt HNE.out)).trans HNE.out) (nr_ _) de_ rfl rfl rfl) (fun _ _=>trivial)
end Go.Proofs.Ytlhogkfmdnpmkaa.Mean
