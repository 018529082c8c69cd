import Derived.Test.YtlhogkfmdnpmkaaGreatCFnExactMarksOf53
set_option linter.unusedSectionVars false
set_option linter.unusedVariables false
set_option linter.unusedSimpArgs false
set_option maxRecDepth 100000
namespace Go.Proofs.YtlhogkfmdnpmkaaGreat.Mean
open RowKit GMarks YtlhogkfmdnpmkaaGreatW.PrintWords YtlhogkfmdnpmkaaGreatW.PrintLast YtlhogkfmdnpmkaaGreatW.PrintMore
variable [Prot]
set_option maxHeartbeats 4000000 in
theorem first_do (W:World) (base:Nat) (ok:Nat→Prop) (b:BK) (s:WS) (g:Nat) (h:St W base ok b s g) (i:Nat) (hi:i<s.n) (hm:(s.proc i).mode≠2) (t:T) (l:List T) (ht:(s.proc i).todo=t :: l) :
  Calls Tryz.prog 64 #[.pointer (some ⟨g,0,none⟩),.int .i64 (i:Int)] W fun e W'=>(∃ A4 c4 A5 c5,e=.returned (.agg #[.int .i64 t.f0,.int .i64 t.f1,.int .i64 t.f2,.int .i64 t.f3,.slice A4 t.f4.length c4,.slice A5 t.f5.length c5]))∧Below W.heap.size W W':=by
 obtain ⟨c0,c1,c2,c3,c4⟩:=h.wb.cells;obtain ⟨P,cp,HP⟩:=h.at_.procs om_;rw [HP.v_] at c0;obtain ⟨M,cm,HM⟩:=h.at_.rooms;rw [HM.v_] at c2;obtain ⟨R,cr,HR⟩:=h.at_.regs hi;have hV:=h.at_.tree i hi;have HT:=Xa.mk ht;clear ht;obtain ⟨A,ct,eT⟩:=Kd.V_slice hV;have hV':=hV;rw [HT.out,eT,HT.out,List.length_cons] at hV';obtain ⟨ad,A4,aC,A5,aD,eA,a0,a1,a2,a3,a4,a5,_,_⟩:=V_first hV'
 have ad0:ad.add 0=ad:=by simp [Addr.add]
 rw [ad0] at a0 a1 a2 a3 a4 a5;subst eA;have p0:=HP.cell i 0 hi om_;have p1:=HP.cell i 1 hi om_;have p2:=HP.cell i 2 hi om_;have p3:=HP.cell i 3 hi om_;have p4:=HP.cell i 4 hi om_;simp only [Yn,if_true,Nat.add_zero,HR.v_,eT,HT.out,List.length_cons] at p0 p1;simp only [Yn] at p2 p3 p4;simp at p1 p2 p3 p4
 have i0:(0:Int)≤(i:Int):=om_
 have i1:(i:Int)<(s.n:Int):=om_
 have i2:decide (i<s.n)=true:=dt_ hi;have i3:decide ((i:Int)<0)=false:=df_ om_;have i4:decide ((i:Int) ≥ (s.n:Int))=false:=df_ om_;have i5:decide ((s.n:Int)≤(i:Int))=false:=df_ om_
 have i6:¬ (i:Int)<0:=om_
 have i7:decide (s.n≤i)=false:=df_ om_
 have q2:((s.proc i).mode == 2)=false:=by simpa using hm
 have q3:decide ((s.proc i).mode=2)=false:=df_ hm
 have n1:(0:Int)<((l.length+1:Nat):Int):=om_
 have n2:(0:Int)<((l.length:Int)+1):=om_
 have n3:(((l.length:Int)+1) == 0)=false:=by simp;omega
 have n4:decide (((l.length:Int)+1)=0)=false:=df_ om_;go_enter Tryz.func64,Tryz.ntmps64;go_upto_region 1 with (fail);have HB0:=Xf (Below.refl W.heap.size W) (.cells #[.int .i64 0,.int .i64 0,.int .i64 0,.int .i64 0,.slice none 0 0,.slice none 0 0] 87);have hz:=Yc W (.cells #[.int .i64 0,.int .i64 0,.int .i64 0,.int .i64 0,.slice none 0 0,.slice none 0 0] 87);generalize W.alloc (.cells #[.int .i64 0,.int .i64 0,.int .i64 0,.int .i64 0,.slice none 0 0,.slice none 0 0] 87)=W0 at *;have c0:=Xb HB0 c0;have p0:=Xb HB0 p0;have p1:=Xb HB0 p1;have p2:=Xb HB0 p2;have p3:=Xb HB0 p3;have p4:=Xb HB0 p4;have a0:=Xb HB0 a0;have a1:=Xb HB0 a1;have a2:=Xb HB0 a2;have a3:=Xb HB0 a3;have a4:=Xb HB0 a4;have a5:=Xb HB0 a5;go_upto_region 2 with (fail);have HB1:=Xf (Below.refl W0.heap.size W0) (.cells #[.slice (some ⟨R,0,none⟩) 3 cr,.slice (some ad) (l.length+1) ct,.int .i64 (s.proc i).mode,.int .i64 (s.proc i).on,.int .i64 (s.proc i).room] 85);have hbx:=Yc W0 (.cells #[.slice (some ⟨R,0,none⟩) 3 cr,.slice (some ad) (l.length+1) ct,.int .i64 (s.proc i).mode,.int .i64 (s.proc i).on,.int .i64 (s.proc i).room] 85);have hz1:=Xm hz HB1;have hne:W.heap.size<W0.heap.size:=Xq hz;generalize W0.alloc (.cells #[.slice (some ⟨R,0,none⟩) 3 cr,.slice (some ad) (l.length+1) ct,.int .i64 (s.proc i).mode,.int .i64 (s.proc i).on,.int .i64 (s.proc i).room] 85)=W1 at *;have c0:=Xb HB1 c0;have p0:=Xb HB1 p0;have p1:=Xb HB1 p1;have p2:=Xb HB1 p2;have p3:=Xb HB1 p3;have p4:=Xb HB1 p4;have a0:=Xb HB1 a0;have a1:=Xb HB1 a1;have a2:=Xb HB1 a2;have a3:=Xb HB1 a3;have a4:=Xb HB1 a4;have a5:=Xb HB1 a5;have b1:W1.cell? ⟨W0.heap.size,1,none⟩=some (.slice (some ad) (l.length+1) ct):=(Xd hbx 1).trans rfl;have b2:W1.cell? ⟨W0.heap.size,2,none⟩=some (.int .i64 (s.proc i).mode):=(Xd hbx 2).trans rfl;obtain ⟨z0,z1,z2,z3,z4,z5⟩:=box6 hz1
 have zf:∀ k,W1.frozen? ⟨W.heap.size,k,none⟩=false:=fun k=>by simp [World.frozen?,hz1]
 have zf0:=zf 0;have HBA:Xa (Below W.heap.size W W1):=⟨HB0.trans (HB1.mono HB0.size)⟩;have HZ:=Xa.mk hz1;clear hz hz1 hbx HB0 HB1 c0 p0 p1 p2 p3 p4 hV' hV HP HR HM;go_wp2
 (try simp only [Exit.inBlock,Exit.then])
 have hfin:=Yt (Yt (Yt (Yt (Yt (Yt HZ.out 0 (.int .i64 t.f0)) 1 (.int .i64 t.f1)) 2 (.int .i64 t.f2)) 3 (.int .i64 t.f3)) 4 (.slice A4 t.f4.length aC)) 5 (.slice A5 t.f5.length aD);refine bodyPost_ret (results_cell_row rfl _ _ W.heap.size 87 (CSV t A4 aC A5 aD) (0,0) _ rfl hfin Tryz.underlying87 rfl kr_) rfl ?_;exact ⟨⟨_,_,_,_,rfl⟩,(Below.setCell (Below.setCell (Below.setCell (Below.setCell (Below.setCell (Below.setCell HBA.out (p:=⟨W.heap.size,0,none⟩) (nr_ _) (.int .i64 t.f0)) (p:=⟨W.heap.size,1,none⟩) (nr_ _) (.int .i64 t.f1)) (p:=⟨W.heap.size,2,none⟩) (nr_ _) (.int .i64 t.f2)) (p:=⟨W.heap.size,3,none⟩) (nr_ _) (.int .i64 t.f3)) (p:=⟨W.heap.size,4,none⟩) (nr_ _) (.slice A4 t.f4.length aC)) (p:=⟨W.heap.size,5,none⟩) (nr_ _) (.slice A5 t.f5.length aD))⟩
theorem Rows.add {W:World} {base:Nat} {ok:Nat→Prop} {f f':Nat→Option Row} (h:Rows W base ok f) (i:Nat) {r':Row} (h':r'.At W base) (hok:∀ g,r'.v.ownBlock=some g→ok g)
  (hap:∀ j x,j≠i→f j=some x→Apart2 x r') (hf:∀ k,f' k=if k=i then some r' else f k):Rows W base ok f':=by
 refine ⟨fun k x hx=>?_,fun k x hx g hgk=>?_,fun k k' x x' hne hx hx'=>?_⟩
 ·rw [hf] at hx;by_cases hk:k=i
  ·rw [if_pos hk] at hx;injection hx with hx;exact hx ▸ h'
  ·rw [if_neg hk] at hx;exact h.at_ k x hx
 ·rw [hf] at hx;by_cases hk:k=i
  ·rw [if_pos hk] at hx;injection hx with hx;subst hx;exact hok g hgk
  ·rw [if_neg hk] at hx;exact h.ok_ k x hx g hgk
 ·rw [hf] at hx hx';by_cases hk:k=i
  ·rw [if_pos hk] at hx;injection hx with hx;subst hx;rw [if_neg (fun e=>hne (hk.trans e.symm))] at hx';exact (hap k' x' (fun e=>hne (hk.trans e.symm)) hx').symm
  ·rw [if_neg hk] at hx;by_cases hk':k'=i
   ·rw [if_pos hk'] at hx';injection hx' with hx';subst hx';exact hap k x hk hx
   ·rw [if_neg hk'] at hx';exact h.apart k k' x x' hne hx hx'
def newP (l:List T):PS:=⟨fun _=>0,l,0,0,-1⟩
def more (s:WS) (l:List T):WS:={ s with n:=s.n+1,proc:=up s.proc s.n (newP l) }
def moreB (b:BK) (n:Nat) (v rv tv:Value):BK:={ b with p:=v,r:=up b.r n rv,t:=up b.t n tv }
theorem At.grow {W W2 W3:World} {base:Nat} {ok:Nat→Prop} {b:BK} {s:WS} (h:At W base ok b s) (hup:∀ k,W.heap.size≤k→ok k) (hb:Below W.heap.size W W2) (v rv tv:Value) (l:List T)
  (hrv:W2.ownsRow base 3 1 rv 3 (ints 3 (fun _=>0))) (hrb:∀ k,rv.ownBlock=some k→W.heap.size≤k)
  (htv:Kd.V k87 87 W2 base (fun k=>(W.heap.size≤k∧k<W2.heap.size∧some k≠rv.ownBlock)∨(ok k∧k<base)) tv l)
  (hg:W2.grownBy W3 b.p.ownBlock) (h':W3.ownsRow base 85 5 v (s.n+1) (cellsOf 5 s.n (Yn b s) ++ [rv,tv,.int .i64 0,.int .i64 0,.int .i64 (-1)]))
  (hat:v.ownBlock=b.p.ownBlock∨∃ g,v.ownBlock=some g∧W2.heap.size≤g):At W3 base ok (moreB b s.n v rv tv) (more s l)∧Only W W3 ok:=by
 have hold:∀ j x,lay b s j=some x→∀ k,x.v.ownBlock=some k→k<W.heap.size:=fun j x hx k hk=>(h.rows.at_ j x hx).lt k hk;have hlt2:∀ k,b.p.ownBlock=some k→k<W.heap.size:=hold 0 _ rfl;have hrl:∀ k,rv.ownBlock=some k→k<W2.heap.size:=fun k hk=>Za hrv k hk
 have r1:Rows W2 base ok (fun k=>if k=s.n+7 then some ⟨rv,3,1,3,ints 3 (fun _=>0)⟩ else lay b s k):=
  (h.rows.below hb).add (s.n+7) (r':=⟨rv,3,1,3,ints 3 (fun _=>0)⟩) hrv (fun g hgk=>hup g (hrb g hgk)) (fun j x hj hx k hk hk'=>by have:=hold j x hx k hk;have:=hrb k hk';omega) (fun k=>rfl)
 have ecell:cellsOf 5 s.n (Yn b s) ++ [rv,tv,.int .i64 0,.int .i64 0,.int .i64 (-1)]=cellsOf 5 (s.n+1) (Yn (moreB b s.n v rv tv) (more s l)):=by
  rw [cellsOf_succ];congr 1
  ·refine cellsOf_congr (fun a c ha hc=>?_)
   have hne:a≠s.n:=om_
   show Yn b s a c=Yn (moreB b s.n v rv tv) (more s l) a c
   unfold Yn moreB more;simp only [up_ne _ hne]
  ·show _=[Yn (moreB b s.n v rv tv) (more s l) s.n 0,Yn (moreB b s.n v rv tv) (more s l) s.n 1,Yn (moreB b s.n v rv tv) (more s l) s.n 2,Yn (moreB b s.n v rv tv) (more s l) s.n 3,Yn (moreB b s.n v rv tv) (more s l) s.n 4]
   unfold Yn moreB more;simp [Un,newP]
 rw [ecell] at h'
 have r2:=r1.set 0 (r:=⟨b.p,85,5,s.n,cellsOf 5 s.n (Yn b s)⟩) (by rw [if_neg om_];rfl) hg (r':=⟨v,85,5,s.n+1,cellsOf 5 (s.n+1) (Yn (moreB b s.n v rv tv) (more s l))⟩) h' (hat.elim .inl (fun x=>.inr (.inr x))) (f':=lay (moreB b s.n v rv tv) (more s l)) (fun k=>by
  match k with
  |0=>rfl
  |1|2|3|4|5|6=>rw [if_neg om_,if_neg om_];rfl
  |j+7=>
   rw [if_neg om_];show (if j<s.n+1 then some (Row.mk (up b.r s.n rv j) 3 1 3 (ints 3 ((more s l).proc j).regs)) else none)=_
   by_cases hj:j=s.n
   ·subst hj;rw [if_pos (show s.n<s.n+1 by omega),if_pos rfl,Un];show some (Row.mk rv _ 1 3 (ints 3 (up s.proc s.n (newP l) s.n).regs))=_
    rw [Un];rfl
   ·rw [if_neg (show ¬ j+7=s.n+7 by omega),up_ne _ hj];show (if j<s.n+1 then some (Row.mk (b.r j) 3 1 3 (ints 3 (up s.proc s.n (newP l) j).regs)) else none)=lay b s (j+7)
    rw [up_ne _ hj];show _=(if j<s.n then some (Row.mk (b.r j) 3 1 3 (ints 3 (s.proc j).regs)) else none)
    by_cases hj':j<s.n
    ·rw [if_pos hj',if_pos om_]
    ·rw [if_neg hj',if_neg om_])
 have hvb:∀ k,v.ownBlock=some k→(b.p.ownBlock=some k∧k<W.heap.size)∨W2.heap.size≤k:=fun k hk=>by
  rcases hat with e|⟨g,e,hle⟩
  ·exact .inl ⟨e ▸ hk,hlt2 k (e ▸ hk)⟩
  ·rw [e] at hk;injection hk with hk;exact .inr (hk ▸ hle)
 have hfree:∀ k,k<W2.heap.size→(b.p.ownBlock≠some k)→some k≠rv.ownBlock→(W.heap.size≤k∨free (lay b s) k)→free (lay (moreB b s.n v rv tv) (more s l)) k:=fun k hk hp hr hor a x hx hxk=>by
  have com:∀ a,lay b s a=some x→False:=fun a hx'=>by
   rcases hor with h1|h1
   ·have:=hold a x hx' k hxk;omega
   ·exact h1 a x hx' hxk
  match a with
  |0=>
   injection hx with hx;subst hx
   rcases hvb k hxk with e|e
   ·exact hp e.1
   ·omega
  |1=>exact com 1 hx
  |2=>exact com 2 hx
  |3=>exact com 3 hx
  |4=>exact com 4 hx
  |5=>exact com 5 hx
  |6=>exact com 6 hx
  |j+7=>
   have hx':(if j<s.n+1 then some (Row.mk (up b.r s.n rv j) 3 1 3 (ints 3 ((more s l).proc j).regs)) else none)=some x:=hx;by_cases hj:j<s.n+1
   ·rw [if_pos hj] at hx';injection hx' with hx';subst hx';have aA:(up b.r s.n rv j).ownBlock=some k:=hxk;by_cases e:j=s.n
    ·subst e;rw [Un] at aA;exact hr aA.symm
    ·rw [up_ne _ e] at aA
     rcases hor with h1|h1
     ·have:=hold (j+7) _ (lay_reg b s (show j<s.n by omega)) k aA;omega
     ·exact h1 (j+7) _ (lay_reg b s (show j<s.n by omega)) aA
   ·rw [if_neg hj] at hx';cases hx'
 refine ⟨⟨r2.mono (fun k hk=>hk.elim id (fun hle=>hup k (nt_ hb.size hle))),fun i hi=>?_,fun k o ho=>?_⟩,(Only.of_below hb ok).trans ((Only.of_grown hg (fun k hk=>.inl (h.rows.ok_ 0 _ rfl k hk))))⟩;rotate_left
 ·have hl:=h.low k o ho;have h1:=(hb.block k (Array.getElem?_eq_some_iff.1 hl.2.2).1).trans hl.2.2;exact ⟨hl.1,hl.2.1,(hg.block k (Array.getElem?_eq_some_iff.1 h1).1 (fun e=>by have:=(h.rows.at_ 0 _ rfl).ge k e.symm;have:=hl.2.1;omega)).trans h1⟩
 by_cases e:i=s.n
 ·subst e;show Kd.V _ _ W3 base _ (up b.t s.n tv s.n) (up s.proc s.n (newP l) s.n).todo
  rw [Un,Un];refine Kd.Ut (Kd.V_step htv (fun k hk hlt=>hg.block k hlt (fun e=>hk.elim (fun hk=>by have:=hlt2 k e.symm;omega) (fun hk=>by have:=(h.rows.at_ 0 _ rfl).ge k e.symm;omega)))) (fun k hk=>hk.elim (fun hk=>⟨hup k hk.1,hfree k hk.2.1 (fun e=>by have:=hlt2 k e;omega) hk.2.2 (.inl hk.1)⟩) (fun hk=>⟨hk.1,fun a x hx hxk=>by have:=(r2.at_ a x hx).ge k hxk;omega⟩))
 ·have hi':i<s.n:=by have:i<s.n+1:=hi;omega
  show Kd.V _ _ W3 base _ (up b.t s.n tv i) (up s.proc s.n (newP l) i).todo
  rw [up_ne _ e,up_ne _ e];have h1:=Kd.V_bound (h.tree i hi');refine Kd.Ut (Kd.V_step (Kd.V_below h1 hb) (fun k hk hlt=>hg.block k hlt (fun e=>hk.1.2 0 _ rfl e.symm))) (fun k hk=>⟨hk.1.1,hfree k (nl_ hk.2 hb.size) (fun e=>hk.1.2 0 _ rfl e) (fun e=>by have:=hrb k e.symm;have:=hk.2;omega) (.inr hk.1.2)⟩)
def s0:WS:=⟨0,fun _=>newP [],fun _=>0,fun _=>0,fun _=>[],[]⟩
def Zx (l:List (List T)):WS:=l.foldl more s0
theorem openS_snoc (l:List (List T)) (x:List T):Zx (l ++ [x])=more (Zx l) x:=by unfold Zx;rw [List.foldl_append];rfl
theorem openS_n (l:List (List T)):(Zx l).n=l.length:=by
 have:∀ (l:List (List T)) (s:WS),(l.foldl more s).n=s.n+l.length:=by
  intro l
  induction l with
  |nil=>intro s;rfl
  |cons a r ih=>intro s;rw [List.foldl_cons,ih];show s.n+1+r.length=s.n+(r.length+1);omega
 have:=this l s0
 show (l.foldl more s0).n=_
 rw [this];show 0+l.length=_;omega
open Pack
theorem heapT:Kd.Heap k87:=Kd.heap_fix (fun d hd=>Kd.heap_iso _ (Kd.heap_pair (Kd.heap_int _) (Kd.heap_pair (Kd.heap_int _) (Kd.heap_pair (Kd.heap_int _) (Kd.heap_pair (Kd.heap_int _) (Kd.heap_pair (Kd.heap_slice _ hd) (Kd.heap_slice _ hd)))))))
theorem N_empty2 {W:World} {n base:Nat} {ok:Nat→Prop} (h:W.heap[n]?=some (.cells #[] 87 (0,0))) (hb:base≤n) (hok:ok n):Kd.N KT 87 W base ok (.slice (some ⟨n,0,none⟩) 0 0) ([]:List T):=
 Kd.R_N ⟨fun k hk=>by injection hk with hk;exact hk ▸ hok,[],⟨rfl,.inr ⟨n,0,#[],rfl,hb,h,nr_ _,de_,rfl,rfl⟩⟩,Reps.none _ _⟩
def openO:Nat→Obj
 |0=>.cells #[.int .i64 0,.int .i64 0,.int .i64 0] 3
 |1=>.cells #[.int .i64 0,.int .i64 0] 3
 |2=>.cells #[.slice none 0 0,.slice none 0 0] 23
 |3=>.cells #[] 118
 |_=>ZB
def openC:Nat→Array Value
 |0=>#[.int .i64 0,.int .i64 0,.int .i64 0]
 |1=>#[.int .i64 0,.int .i64 0]
 |_=>#[.slice none 0 0,.slice none 0 0]
def Um:Nat→Nat→Value
 |0,g=>.slice (some ⟨g,0,none⟩) 3 3
 |1,g=>.slice (some ⟨g,0,none⟩) 2 2
 |2,g=>.slice (some ⟨g,0,none⟩) 2 2
 |3,g=>.slice (some ⟨g,0,none⟩) 0 0
 |_,g=>.pointer (some ⟨g,0,none⟩)
def openF (i:Nat) (v:Value) (w:World) (lo hi:Nat):Prop:=w.heap[lo]?=some (openO i)∧v=Um i lo∧lo<hi
theorem openF_mono:∀ i v lo hi (w w':World),openF i v w lo hi→hi≤w.heap.size→Below w.heap.size w w'→openF i v w' lo hi:=fun i v lo hi w w' h hl hb=>⟨(hb.block lo (by have:=h.2.2;omega)).trans h.1,h.2.1,h.2.2⟩
def openPut (lo:Nat→Nat) (w:World):World:=((((w.setCell ⟨lo 5,0,none⟩ (.slice none 0 0)).setCell ⟨lo 5,1,none⟩ (Um 0 (lo 0))).setCell ⟨lo 5,2,none⟩ (Um 1 (lo 1))).setCell ⟨lo 5,3,none⟩ (Um 2 (lo 2))).setCell ⟨lo 5,4,none⟩ (Um 3 (lo 3))
def openB (l:Array Bool) (i:Nat):Bool:=(i != 4 && decide (i<6)) && l.getD i false
def openBK (lo:Nat→Nat):BK:=⟨.slice none 0 0,Um 0 (lo 0),Um 1 (lo 1),Um 2 (lo 2),Um 3 (lo 3),fun _=>.slice none 0 0,fun _=>.slice none 0 0,fun _=>.slice none 0 0⟩
theorem own_blk {W:World} {base g n size:Nat} {e:TypeId} {cs:Array Value} {xs:List Value} (h:W.heap[g]?=some (.cells cs e (0,0))) (hb:base≤g) (hn:n≤maxLen) (hs:cs.size=n * size) (hx:cs.toList.take (n * size)=xs) (hl:xs.length=n * size):W.ownsRow base e size (.slice (some ⟨g,0,none⟩) n n) n xs:=
 ⟨hl,.inr ⟨g,n,cs,rfl,hb,h,nr_ _,hn,hs,hx⟩⟩
theorem At.start2 {W:World} {base c m q:Nat} {vd:Value} {ok:Nat→Prop} (hc:W.heap[c]?=some (openO 0)) (hm:W.heap[m]?=some (openO 1)) (hq:W.heap[q]?=some (openO 2)) (hd:W.ownsRow base 118 2 vd 0 []) (bc:base≤c) (bm:base≤m) (bq:base≤q) (hcm:c≠m) (hcq:c≠q) (hmq:m≠q) (oc:ok c) (om:ok m) (oq:ok q) (od:∀ k,vd.ownBlock=some k→ok k∧k≠c∧k≠m∧k≠q)
  (hlow:∀ k o,Prot.low k=some o→ok k∧k<base∧W.heap[k]?=some o) :
  At W base ok ⟨.slice none 0 0,Um 0 c,Um 1 m,Um 2 q,vd,fun _=>.slice none 0 0,fun _=>.slice none 0 0,fun _=>.slice none 0 0⟩ s0:=by
 have key:∀ k r,lay ⟨.slice none 0 0,Um 0 c,Um 1 m,Um 2 q,vd,fun _=>.slice none 0 0,fun _=>.slice none 0 0,fun _=>.slice none 0 0⟩ s0 k=some r→
   (k=0∧r=⟨.slice none 0 0,85,5,0,[]⟩)∨(k=1∧r=⟨Um 0 c,3,1,3,ints 3 (fun _=>0)⟩)∨(k=2∧r=⟨Um 1 m,3,1,2,ints 2 (fun _=>0)⟩)∨(k=3∧r=⟨Um 2 q,23,1,2,[.slice none 0 0,.slice none 0 0]⟩)∨(k=4∧r=⟨vd,118,2,0,[]⟩)∨((k=5∨k=6)∧r=⟨.slice none 0 0,3,0,0,[]⟩):=fun k r hr=>by
  match k with
  |0=>injection hr with hr;exact .inl ⟨rfl,hr.symm⟩
  |1=>injection hr with hr;exact .inr (.inl ⟨rfl,hr.symm⟩)
  |2=>injection hr with hr;exact .inr (.inr (.inl ⟨rfl,hr.symm⟩))
  |3=>injection hr with hr;exact .inr (.inr (.inr (.inl ⟨rfl,hr.symm⟩)))
  |4=>injection hr with hr;exact .inr (.inr (.inr (.inr (.inl ⟨rfl,hr.symm⟩))))
  |5=>injection hr with hr;exact .inr (.inr (.inr (.inr (.inr ⟨.inl rfl,hr.symm⟩))))
  |6=>injection hr with hr;exact .inr (.inr (.inr (.inr (.inr ⟨.inr rfl,hr.symm⟩))))
  |j+7=>cases hr
 refine ⟨⟨fun k r hr=>?_,fun k r hr g hg=>?_,fun k k' r r' hne hr hr' g hg hg'=>?_⟩,fun i hi=>absurd hi (Nat.not_lt_zero _),hlow⟩
 ·rcases key k r hr with ⟨_,rfl⟩|⟨_,rfl⟩|⟨_,rfl⟩|⟨_,rfl⟩|⟨_,rfl⟩|⟨_,rfl⟩
  ·exact own_nil _ _ _ _
  ·exact own_blk hc bc de_ rfl rfl rfl
  ·exact own_blk hm bm de_ rfl rfl rfl
  ·exact own_blk hq bq de_ rfl rfl rfl
  ·exact hd
  ·exact q_of_own (own_nil _ _ _ _)
 ·rcases key k r hr with ⟨_,rfl⟩|⟨_,rfl⟩|⟨_,rfl⟩|⟨_,rfl⟩|⟨_,rfl⟩|⟨_,rfl⟩
  ·cases hg
  ·injection hg with hg;exact hg ▸ oc
  ·injection hg with hg;exact hg ▸ om
  ·injection hg with hg;exact hg ▸ oq
  ·exact (od g hg).1
  ·cases hg
 ·have e0:(Um 0 c).ownBlock=some c:=rfl;have e1:(Um 1 m).ownBlock=some m:=rfl;have e2:(Um 2 q).ownBlock=some q:=rfl;have e4:(Value.slice none 0 0).ownBlock=none:=rfl
  rcases key k r hr with ⟨hk,rfl⟩|⟨hk,rfl⟩|⟨hk,rfl⟩|⟨hk,rfl⟩|⟨hk,rfl⟩|⟨hk,rfl⟩ <;> rcases key k' r' hr' with ⟨hk',rfl⟩|⟨hk',rfl⟩|⟨hk',rfl⟩|⟨hk',rfl⟩|⟨hk',rfl⟩|⟨hk',rfl⟩ <;>
   (first|exact absurd (hk.trans hk'.symm) hne|(simp only [e0,e1,e2,e4,Option.some.injEq,reduceCtorEq] at hg hg';done)|(simp only [e0,e1,e2,e4,Option.some.injEq] at hg hg';omega)|(simp only [e0,e1,e2,e4,Option.some.injEq] at hg hg';have:=od g hg;omega)|(simp only [e0,e1,e2,e4,Option.some.injEq] at hg hg';have:=od g hg';omega))
theorem open_at {W0 w':World} {val:Nat→Value} {lo hi:Nat→Nat} {base z:Nat} {l:Array Bool} (hl:∀ k,k<6→k≠4→openB l k=true) (hM:Made openF (openB l) val lo hi W0 w') (hb:base≤W0.heap.size) (hz:z<W0.heap.size) (hbz:base≤z) {O:Nat→Prop} (hO:∀ k,base≤k→O k) (hlow:∀ k o,Prot.low k=some o→O k∧k<base∧W0.heap[k]?=some o) :
  At (openPut lo w') base (fun k=>O k∧k≠z∧k≠lo 5) (openBK lo) s0∧Wb (openPut lo w') (lo 5) (openBK lo)∧Below W0.heap.size W0 (openPut lo w')∧z≠lo 5∧W0.heap.size≤lo 5:=by
 obtain ⟨⟨k0,v0,l0⟩,g0,_,s0'⟩:=hM.each 0 (hl 0 om_ om_);obtain ⟨⟨k1,v1,l1⟩,g1,_,s1⟩:=hM.each 1 (hl 1 om_ om_);obtain ⟨⟨k2,v2,l2⟩,g2,_,s2⟩:=hM.each 2 (hl 2 om_ om_);obtain ⟨⟨k3,v3,l3⟩,g3,_,s3⟩:=hM.each 3 (hl 3 om_ om_);obtain ⟨⟨k5,v5,l5⟩,g5,_,s5⟩:=hM.each 5 (hl 5 om_ om_);have a01:=hM.apart 0 1 om_ (hl 0 om_ om_) (hl 1 om_ om_);have a02:=hM.apart 0 2 om_ (hl 0 om_ om_) (hl 2 om_ om_);have a03:=hM.apart 0 3 om_ (hl 0 om_ om_) (hl 3 om_ om_);have a05:=hM.apart 0 5 om_ (hl 0 om_ om_) (hl 5 om_ om_);have a12:=hM.apart 1 2 om_ (hl 1 om_ om_) (hl 2 om_ om_);have a13:=hM.apart 1 3 om_ (hl 1 om_ om_) (hl 3 om_ om_);have a15:=hM.apart 1 5 om_ (hl 1 om_ om_) (hl 5 om_ om_);have a23:=hM.apart 2 3 om_ (hl 2 om_ om_) (hl 3 om_ om_);have a25:=hM.apart 2 5 om_ (hl 2 om_ om_) (hl 5 om_ om_);have a35:=hM.apart 3 5 om_ (hl 3 om_ om_) (hl 5 om_ om_)
 have far:∀ k,k≠lo 5→(openPut lo w').heap[k]?=w'.heap[k]?:=fun k hk=>by
  unfold openPut;rw [Below.heap_setCell _ _ _ k hk,Below.heap_setCell _ _ _ k hk,Below.heap_setCell _ _ _ k hk,Below.heap_setCell _ _ _ k hk,Below.heap_setCell _ _ _ k hk]
 have hput:Below W0.heap.size W0 (openPut lo w'):=by
  unfold openPut;exact Below.setCell (p:=⟨lo 5,4,none⟩) (Below.setCell (p:=⟨lo 5,3,none⟩) (Below.setCell (p:=⟨lo 5,2,none⟩) (Below.setCell (p:=⟨lo 5,1,none⟩) (Below.setCell (p:=⟨lo 5,0,none⟩) hM.below g5 _) g5 _) g5 _) g5 _) g5 _
 refine ⟨At.start2 ((far _ om_).trans k0) ((far _ om_).trans k1) ((far _ om_).trans k2) (own_blk ((far _ om_).trans k3) om_ de_ rfl rfl rfl) om_ om_ om_ om_ om_ om_ ⟨hO _ om_,om_,om_⟩ ⟨hO _ om_,om_,om_⟩ ⟨hO _ om_,om_,om_⟩ (fun k (hk:some (lo 3)=some k)=>by cases hk;exact ⟨⟨hO _ om_,om_,om_⟩,om_,om_,om_⟩) (fun k o ho=>?_),?_,hput,om_,g5⟩
 ·obtain ⟨h0,h1,h2⟩:=hlow k o ho;exact ⟨⟨h0,om_,om_⟩,h1,(hput.block k om_).trans h2⟩
 ·have aF:w'.heap[lo 5]?=some ZB:=k5;exact Yt (Yt (Yt (Yt (Yt aF 0 _) 1 _) 2 _) 3 _) 4 _
theorem grow_round2 {aB w2 w1:World} {g2 g3 base:Nat} {b:BK} {s:WS} {v1 rv tv:Value} {l:List T} {O:Nat→Prop} (hO:∀ k,base≤k→O k) (HA:At aB base (fun k=>O k∧k≠g2∧k≠g3) b s) (HW:Wb aB g3 b) (H2:aB.heap[g2]?=some ZB) (hne:g2≠g3)
  (h3:base≤g3) (hs:base≤aB.heap.size) (hb:Below aB.heap.size aB w2) (hrv:w2.ownsRow aB.heap.size 3 1 rv 3 (ints 3 (fun _=>0)))
  (htv:Kd.V k87 87 w2 base (fun k=>(aB.heap.size≤k∧k<w2.heap.size∧some k≠rv.ownBlock)∨((O k∧k≠g2∧k≠g3)∧k<base)) tv l) (hg:w2.grownBy w1 b.p.ownBlock)
  (h':w1.ownsRow base 85 5 v1 (s.n+1) (cellsOf 5 s.n (Yn b s) ++ [rv,tv,.int .i64 0,.int .i64 0,.int .i64 (-1)])) (hat:v1.ownBlock=b.p.ownBlock∨∃ g,v1.ownBlock=some g∧w2.heap.size≤g) :
  At (w1.setCell ⟨g3,0,none⟩ v1) base (fun k=>O k∧k≠g2∧k≠g3) (moreB b s.n v1 rv tv) (more s l)∧Wb (w1.setCell ⟨g3,0,none⟩ v1) g3 (moreB b s.n v1 rv tv)∧(w1.setCell ⟨g3,0,none⟩ v1).heap[g2]?=some ZB∧Below base aB (w1.setCell ⟨g3,0,none⟩ v1):=by
 have l2:=Xq H2;have l3:=Xq HW;have hpo:∀ k,b.p.ownBlock=some k→k≠g2∧k≠g3:=fun k hk=>(HA.rows.ok_ 0 _ rfl k hk).2;have hpb:∀ k,b.p.ownBlock=some k→base≤k:=fun k hk=>(HA.rows.at_ 0 _ rfl).ge k hk;have hgr:=HA.grow (fun k hk=>⟨hO k om_,om_,om_⟩) hb v1 rv tv l (Zi hrv hs) (fun k hk=>Zl hrv k hk) htv hg h' hat;have b2:=blk_grown (Xm H2 hb) hg (fun e=>(hpo g2 e.symm).1 rfl);have b3:=blk_grown (Xm HW hb) hg (fun e=>(hpo g3 e.symm).2 rfl);refine ⟨hgr.1.step (fun k hk _=>Below.heap_setCell _ _ _ k hk.2.2),?_,Yr b2 hne _,?_⟩
 ·exact Yt b3 0 v1
 ·exact Below.setCell (Below.grown (hb.mono hs) hg (nt_ hs hb.size) (fun k hk=>hpb k hk)) h3 _
end Go.Proofs.YtlhogkfmdnpmkaaGreat.Mean
