import Derived.Test.YtlhogkfmdnpmkaaGreatCFnExactMarksOf81
set_option linter.unusedSectionVars false
set_option linter.unusedVariables false
set_option linter.unusedSimpArgs false
namespace Go.Proofs.YtlhogkfmdnpmkaaGreat.Mean
open RowKit GMarks YtlhogkfmdnpmkaaGreatW.PrintWords YtlhogkfmdnpmkaaGreatW.PrintLast YtlhogkfmdnpmkaaGreatW.PrintMore
theorem l1Max_eq (a b:Int):spec_l1Max.f a b=some (mx a b):=by
 unfold spec_l1Max.f mx;split
 ·rw [if_neg om_]
 ·split
  ·rfl
  ·congr 1;omega
theorem mx_zero {a:Int} (h:0≤a):mx a 0=a:=by
 unfold mx;split <;> omega
theorem w64s {i:Int} (h0:0≤i) (h1:i≤1000):wrap64 i=i:=by unfold wrap64;omega
theorem rd_nat (l:List Int) (i:Nat) (h:i<l.length):rd l (i:Int)=l[i]:=by unfold rd;simp [List.getD_eq_getElem?_getD,h]
theorem join_loop (a b:Nat→Int) (n:Nat) (hn:n≤3) (ha:∀ k,0≤a k) (hb:∀ k,0≤b k) (la lb:List Int) (hla:la=(List.range n).map a) (hlb:lb=(List.range n).map b)  (d:Nat):∀ (i k:Nat),i+d=n→3 * d+3≤k→Xu.l0 k la lb ((List.range i).map (join a b)) (i:Int)=some ((List.range n).map (join a b)):=by
 induction d with
 |zero=>
  intro i k0 h hk;obtain ⟨k,rfl⟩:∃ k,k0=k+1+1:=⟨k0 - 2,om_⟩
  have e1:la.length=n:=by rw [hla];simp
  have e2:lb.length=n:=by rw [hlb];simp
  obtain rfl:i=n:=om_
  have d1:decide ((i:Int)<(lb.length:Int))=false:=df_ om_
  have d2:¬ (i:Int)<(la.length:Int):=om_
  simp only [Xu.l0,Xu.j1,d1,if_neg d2];rfl
 |succ d ih=>
  intro i k0 h hk;obtain ⟨k,rfl⟩:∃ k,k0=k+1+1+1:=⟨k0 - 3,om_⟩
  have e1:la.length=n:=by rw [hla];simp
  have e2:lb.length=n:=by rw [hlb];simp
  have hx:rd la (i:Int)=a i:=by rw [rd_nat _ _ om_];simp [hla]
  have hy:rd lb (i:Int)=b i:=by rw [rd_nat _ _ om_];simp [hlb]
  have h0:0≤mx (a i) (b i):=by have:=ha i;have:=hb i;unfold mx;split <;> omega
  have p1:(i:Int)<(la.length:Int):=om_
  have p2:0≤(i:Int):=om_
  have p3:(i:Int)<(lb.length:Int):=om_
  have p4:((List.range i).map (join a b)).length<17592186044416:=by rw [List.length_map,List.length_range];omega
  rw [Xu.l0,if_pos p1,Xu.j1,if_pos (rfl:true=true),if_pos p1,if_pos p2,Xu.j2,if_pos p3,if_pos p2,hx,hy,l1Max_eq,Option.bind_some,l1Max_eq,Option.bind_some,mx_zero h0,if_pos p4]
  have e3:wrap64 ((i:Int)+1)=((i+1:Nat):Int):=by rw [w64s om_ om_];rfl
  rw [e3]
  have e4:(List.range i).map (join a b) ++ [mx (a i) (b i)]=(List.range (i+1)).map (join a b):=by rw [List.range_succ,List.map_append];rfl
  rw [e4];clear e3 e4 p4 h0 hx hy;exact ih (i+1) k om_ om_
variable [Prot]
theorem nums_C {W:World} {base n:Nat} {v:Value} {f:Nat→Int} (h:W.ownsRow base 3 1 v n (nums .i64 (Yo n f))):∃ A c,v=.slice A n c∧n≤c∧(Kd.int .i64).C W A n (Yo n f):=by
 have hl:(Yo n f).length=n:=by simp [Yo]
 obtain ⟨A,c,e,hc,hC⟩:=ints_C h;rw [hl] at e hc hC;exact ⟨A,c,e,hc,hC⟩
theorem rjoin_do (W:World) (base n:Nat) (hn:n≤3) (A0 A1:Option Addr) (c0 c1:Nat) (a b:Nat→Int) (ha:∀ k,0≤a k) (hb:∀ k,0≤b k) (h0:W.ownsRow base 3 1 (.slice A0 n c0) n (nums .i64 (Yo n a))) (h1:W.ownsRow base 3 1 (.slice A1 n c1) n (nums .i64 (Yo n b))) :
  Calls Tryz.prog 54 #[.slice A0 n c0,.slice A1 n c1] W fun e W'=>∃ A c,e=.returned (.slice A n c)∧W'.ownsRow W.heap.size 3 1 (.slice A n c) n (nums .i64 (Yo n (join a b)))∧Below W.heap.size W W':=by
 have hl:∀ f,(Yo n f).length=n:=fun f=>by simp [Yo]
 obtain ⟨A,c,e,hc,hC⟩:=nums_C h0;obtain ⟨A',c',e',hc',hC'⟩:=nums_C h1;injection e with e1 _ e2;injection e' with aA _ e2';subst e1 e2 aA e2';obtain ⟨q,hq⟩:∃ q,q=12:=⟨_,rfl⟩
 have hf:Xu.f q (Yo n a) (Yo n b)=some (Yo n (join a b)):=by
  have h:=join_loop a b n hn ha hb _ _ rfl rfl n 0 q om_ om_;unfold Xu.f;exact h
 clear hq;have h2:=Xu.calls q A0 c0 (Yo n a) A1 c1 (Yo n b) (Yo n (join a b)) W (by rw [hl];exact hC) (by rw [hl];exact hc) (by rw [hl];exact hC') (by rw [hl];exact hc') hf;rw [hl,hl] at h2;refine h2.mono (fun e W' hx=>?_);obtain ⟨v,rfl,hr,hbl⟩:=hx;obtain ⟨A2,c2,e2⟩:=Kd.Zq hr;have ho:=Kd.own_of_R hr;rw [e2,hl] at ho;exact ⟨A2,c2,by rw [e2,hl],ho,hbl⟩
structure SC (W:World) (e0 n:Nat) (pv rv mv:Value) (pc rc:Nat→Value) (c:CK) (xs:List El) (V:Nat→Prop):Prop where
 p:W.ownsRow e0 23 1 pv n ((List.range n).map pc)
 r:W.ownsRow e0 23 1 rv 2 ((List.range 2).map rc)
 m:W.ownsRow e0 45 5 mv xs.length (xs.flatMap Uk)
 pr:∀ i,i<n→W.ownsRow e0 3 1 (pc i) n (nums .i64 (Yo n (c i)))
 rr:∀ i,i<2→W.ownsRow e0 3 1 (rc i) n (nums .i64 (Yo n (c (3+i))))
 cl:Cl e0 (fun k=>pv.ownBlock=some k∨rv.ownBlock=some k∨mv.ownBlock=some k) xs W
 pk:∀ i,i<n→∀ k,(pc i).ownBlock=some k→¬ (pv.ownBlock=some k∨rv.ownBlock=some k∨mv.ownBlock=some k)
 rk:∀ i,i<2→∀ k,(rc i).ownBlock=some k→¬ (pv.ownBlock=some k∨rv.ownBlock=some k∨mv.ownBlock=some k)
 ab:∀ k,(pv.ownBlock=some k→rv.ownBlock≠some k∧mv.ownBlock≠some k)∧(rv.ownBlock=some k→mv.ownBlock≠some k)
 in_:∀ k,(pv.ownBlock=some k∨rv.ownBlock=some k∨mv.ownBlock=some k∨(∃ i,i<n∧(pc i).ownBlock=some k)∨(∃ i,i<2∧(rc i).ownBlock=some k)∨(∃ x ∈ xs,(El.v x).ownBlock=some k))→V k
theorem up_swap {α:Type} (f:Nat→α) {a b:Nat} (h:a≠b) (x y:α):up (up f a x) b y=up (up f b y) a x:=by
 funext k
 unfold up;by_cases h1:k=a
 ·subst h1;simp [h]
 ·by_cases h2:k=b
  ·subst h2;simp [h1]
  ·simp [h1,h2]
theorem map_set_up (n i:Nat) (f:Nat→Value) (v:Value):((List.range n).map f).set i v=(List.range n).map (up f i v):=by
 apply List.ext_getElem
 ·simp
 ·intro k h1 h2;rw [List.getElem_set];simp only [List.getElem_map,List.getElem_range];unfold up;by_cases h:i=k
  ·rw [if_pos h,if_pos h.symm]
  ·rw [if_neg h,if_neg (fun e=>h e.symm)]
section
variable {W W':World} {e0 n:Nat} {pv rv mv:Value} {pc rc:Nat→Value} {c:CK} {xs:List El} {V V':Nat→Prop}
theorem SC.more (h:SC W e0 n pv rv mv pc rc c xs V) (hV:∀ k,V k→V' k):SC W e0 n pv rv mv pc rc c xs V':=⟨h.p,h.r,h.m,h.pr,h.rr,h.cl,h.pk,h.rk,h.ab,fun k hk=>hV k (h.in_ k hk)⟩
theorem SC.step (h:SC W e0 n pv rv mv pc rc c xs V) (hm:∀ k,V k→k<W.heap.size→W'.heap[k]?=W.heap[k]?):SC W' e0 n pv rv mv pc rc c xs V:=
 ⟨Zd h.p (fun k hk=>hm k (h.in_ k (.inl hk)) (Za h.p k hk)),Zd h.r (fun k hk=>hm k (h.in_ k (.inr (.inl hk))) (Za h.r k hk)),Zd h.m (fun k hk=>hm k (h.in_ k (.inr (.inr (.inl hk)))) (Za h.m k hk)),
  fun i hi=>Zd (h.pr i hi) (fun k hk=>hm k (h.in_ k (.inr (.inr (.inr (.inl ⟨i,hi,hk⟩))))) (Za (h.pr i hi) k hk)),fun i hi=>Zd (h.rr i hi) (fun k hk=>hm k (h.in_ k (.inr (.inr (.inr (.inr (.inl ⟨i,hi,hk⟩)))))) (Za (h.rr i hi) k hk)),
  h.cl.step (fun k hk=>by obtain ⟨x,hx,e⟩:=hk;exact hm k (h.in_ k (.inr (.inr (.inr (.inr (.inr ⟨x,hx,e⟩)))))) (h.cl.lt hx e).2),h.pk,h.rk,h.ab,h.in_⟩
theorem SC.below (h:SC W e0 n pv rv mv pc rc c xs V) (hb:Below W.heap.size W W'):SC W' e0 n pv rv mv pc rc c xs V:=h.step (fun k _ hlt=>hb.block k hlt)
theorem SC.putP {G cp:Nat} (h:SC W e0 n (.slice (some ⟨G,0,none⟩) n cp) rv mv pc rc c xs V) (hn:n≤3) {i:Nat} (hi:i<n) (v:Value) (f:Nat→Int) (hv:W.ownsRow e0 3 1 v n (nums .i64 (Yo n f))) (hk:∀ k,v.ownBlock=some k→k≠G∧rv.ownBlock≠some k∧mv.ownBlock≠some k∧V k) :
  SC (W.setCell ⟨G,i,none⟩ v) e0 n (.slice (some ⟨G,0,none⟩) n cp) rv mv (up pc i v) rc (up c i f) xs V:=by
 have hG:(Value.slice (some ⟨G,0,none⟩) n cp).ownBlock=some G:=rfl;have nr:some G≠rv.ownBlock:=fun e=>((h.ab G).1 rfl).1 e.symm;have nm:some G≠mv.ownBlock:=fun e=>((h.ab G).1 rfl).2 e.symm;have no:∀ {k},¬ ((Value.slice (some ⟨G,0,none⟩) n cp).ownBlock=some k∨rv.ownBlock=some k∨mv.ownBlock=some k)→k≠G:=fun hk e=>hk (.inl (e ▸ rfl));have hst:=(stored h.p rfl i v).1;rw [map_set_up] at hst;refine ⟨hst,Ug h.r nr v,Ug h.m nm v,fun k hk'=>?_,fun k hk'=>?_,h.cl.step (fun k hx=>?_),fun k hk' q hq=>?_,fun k hk' q hq=>h.rk k hk' q hq,h.ab,fun k hx=>?_⟩
 ·by_cases e:k=i
  ·subst e;rw [Un,Un];exact Ug hv (fun e=>(hk G e.symm).1 rfl) v
  ·rw [up_ne _ e,up_ne _ e];exact Ug (h.pr k hk') (fun e=>no (h.pk k hk' G e.symm) rfl) v
 ·rw [up_ne _ om_];exact Ug (h.rr k hk') (fun e=>no (h.rk k hk' G e.symm) rfl) v
 ·obtain ⟨x,hx,e⟩:=hx;exact Below.heap_setCell W ⟨G,i,none⟩ v k (no (h.cl.out x hx k e))
 ·by_cases e:k=i
  ·subst e;rw [Un] at hq;have h1:=hk q hq;exact fun e=>e.elim (fun e=>by injection e with e;exact h1.1 e.symm) (fun e=>e.elim h1.2.1 h1.2.2.1)
  ·rw [up_ne _ e] at hq;exact h.pk k hk' q hq
 ·rcases hx with hx|hx|hx|⟨j,hj,hx⟩|hx
  ·exact h.in_ k (.inl hx)
  ·exact h.in_ k (.inr (.inl hx))
  ·exact h.in_ k (.inr (.inr (.inl hx)))
  ·by_cases e:j=i
   ·subst e;rw [Un] at hx;exact (hk k hx).2.2.2
   ·rw [up_ne _ e] at hx;exact h.in_ k (.inr (.inr (.inr (.inl ⟨j,hj,hx⟩))))
  ·exact h.in_ k (.inr (.inr (.inr (.inr hx))))
theorem SC.putR {G cr:Nat} (h:SC W e0 n pv (.slice (some ⟨G,0,none⟩) 2 cr) mv pc rc c xs V) (hn:n≤3) {i:Nat} (hi:i<2) (v:Value) (f:Nat→Int) (hv:W.ownsRow e0 3 1 v n (nums .i64 (Yo n f))) (hk:∀ k,v.ownBlock=some k→k≠G∧pv.ownBlock≠some k∧mv.ownBlock≠some k∧V k) :
  SC (W.setCell ⟨G,i,none⟩ v) e0 n pv (.slice (some ⟨G,0,none⟩) 2 cr) mv pc (up rc i v) (up c (3+i) f) xs V:=by
 have np:some G≠pv.ownBlock:=fun e=>((h.ab G).1 e.symm).1 rfl;have nm:some G≠mv.ownBlock:=fun e=>((h.ab G).2 rfl) e.symm;have no:∀ {k},¬ (pv.ownBlock=some k∨(Value.slice (some ⟨G,0,none⟩) 2 cr).ownBlock=some k∨mv.ownBlock=some k)→k≠G:=fun hk e=>hk (.inr (.inl (e ▸ rfl)));have hst:=(stored h.r rfl i v).1;rw [map_set_up] at hst;refine ⟨Ug h.p np v,hst,Ug h.m nm v,fun k hk'=>?_,fun k hk'=>?_,h.cl.step (fun k hx=>?_),fun k hk' q hq=>h.pk k hk' q hq,fun k hk' q hq=>?_,h.ab,fun k hx=>?_⟩
 ·rw [up_ne _ om_];exact Ug (h.pr k hk') (fun e=>no (h.pk k hk' G e.symm) rfl) v
 ·by_cases e:k=i
  ·subst e;rw [Un,Un];exact Ug hv (fun e=>(hk G e.symm).1 rfl) v
  ·rw [up_ne _ e,up_ne _ om_];exact Ug (h.rr k hk') (fun e=>no (h.rk k hk' G e.symm) rfl) v
 ·obtain ⟨x,hx,e⟩:=hx;exact Below.heap_setCell W ⟨G,i,none⟩ v k (no (h.cl.out x hx k e))
 ·by_cases e:k=i
  ·subst e;rw [Un] at hq;have h1:=hk q hq;exact fun e=>e.elim h1.2.1 (fun e=>e.elim (fun e=>by injection e with e;exact h1.1 e.symm) h1.2.2.1)
  ·rw [up_ne _ e] at hq;exact h.rk k hk' q hq
 ·rcases hx with hx|hx|hx|hx|⟨j,hj,hx⟩|hx
  ·exact h.in_ k (.inl hx)
  ·exact h.in_ k (.inr (.inl hx))
  ·exact h.in_ k (.inr (.inr (.inl hx)))
  ·exact h.in_ k (.inr (.inr (.inr (.inl hx))))
  ·by_cases e:j=i
   ·subst e;rw [Un] at hx;exact (hk k hx).2.2.2
   ·rw [up_ne _ e] at hx;exact h.in_ k (.inr (.inr (.inr (.inr (.inl ⟨j,hj,hx⟩)))))
  ·exact h.in_ k (.inr (.inr (.inr (.inr (.inr hx)))))
theorem SC.putM {mv':Value} (h:SC W e0 n pv rv mv pc rc c xs V) (hg:W.grownBy W' mv.ownBlock) (x:El) (ho:W'.ownsRow e0 45 5 mv' (xs.length+1) (xs.flatMap Uk ++ Uk x)) (hat:mv'.ownBlock=mv.ownBlock∨∃ q,mv'.ownBlock=some q∧W.heap.size≤q)
  (hx:W.ownsRow e0 3 1 (El.v x) x.1.f4.length (nums .i64 x.1.f4)) (hk:∀ k,(El.v x).ownBlock=some k→¬ (pv.ownBlock=some k∨rv.ownBlock=some k∨mv.ownBlock=some k)∧(∀ y ∈ xs,(El.v y).ownBlock≠some k)∧V k) (hV:∀ k,V k→k<W.heap.size) :
  SC W' e0 n pv rv mv' pc rc c (xs ++ [x]) (fun k=>V k∨W.heap.size≤k):=by
 have far:∀ k,k<W.heap.size→¬ mv.ownBlock=some k→W'.heap[k]?=W.heap[k]?:=fun k hlt hn=>hg.block k hlt (fun e=>hn e.symm)
 have new:∀ k,k<W.heap.size→mv'.ownBlock=some k→mv.ownBlock=some k:=fun k hlt e=>by
  rcases hat with e1|⟨q,e1,hle⟩
  ·exact e1 ▸ e
  ·rw [e1] at e;injection e with e;omega
 have hcl:∀ y ∈ xs,∀ k,(El.v y).ownBlock=some k→W'.heap[k]?=W.heap[k]?:=fun y hy k e=>far k (h.cl.lt hy e).2 (fun e'=>h.cl.out y hy k e (.inr (.inr e')));refine ⟨Zd h.p (fun k hk'=>far k (Za h.p k hk') (fun e=>((h.ab k).1 hk').2 e)),Zd h.r (fun k hk'=>far k (Za h.r k hk') (fun e=>(h.ab k).2 hk' e)),?_,fun i hi=>Zd (h.pr i hi) (fun k hk'=>far k (Za (h.pr i hi) k hk') (fun e=>h.pk i hi k hk' (.inr (.inr e)))),fun i hi=>Zd (h.rr i hi) (fun k hk'=>far k (Za (h.rr i hi) k hk') (fun e=>h.rk i hi k hk' (.inr (.inr e)))),⟨fun y hy=>?_,fun y hy k e=>?_,?_⟩,fun i hi k e=>?_,fun i hi k e=>?_,fun k=>?_,fun k hx'=>?_⟩
 ·rw [List.length_append,List.length_singleton,List.flatMap_append];exact ho
 ·rcases List.mem_append.1 hy with hy|hy
  ·exact Zd (h.cl.row y hy) (fun k e=>hcl y hy k e)
  ·rw [List.mem_singleton] at hy;subst hy;exact Zd hx (fun k e=>far k (Za hx k e) (fun e'=>(hk k e).1 (.inr (.inr e'))))
 ·have hlt:k<W.heap.size:=by
   rcases List.mem_append.1 hy with hy|hy
   ·exact (h.cl.lt hy e).2
   ·rw [List.mem_singleton] at hy;subst hy;exact Za hx k e
  have hno:¬ (pv.ownBlock=some k∨rv.ownBlock=some k∨mv.ownBlock=some k):=by
   rcases List.mem_append.1 hy with hy|hy
   ·exact h.cl.out y hy k e
   ·rw [List.mem_singleton] at hy;subst hy;exact (hk k e).1
  exact fun e'=>hno (e'.elim .inl (fun e'=>e'.elim (fun e'=>.inr (.inl e')) (fun e'=>.inr (.inr (new k hlt e')))))
 ·rw [List.pairwise_append];refine ⟨h.cl.apart,List.pairwise_singleton _ _,fun y hy z hz k e e'=>?_⟩;rw [List.mem_singleton] at hz;subst hz;exact (hk k e').2.1 y hy e
 ·exact fun e'=>h.pk i hi k e (e'.elim .inl (fun e'=>e'.elim (fun e'=>.inr (.inl e')) (fun e'=>.inr (.inr (new k (Za (h.pr i hi) k e) e')))))
 ·exact fun e'=>h.rk i hi k e (e'.elim .inl (fun e'=>e'.elim (fun e'=>.inr (.inl e')) (fun e'=>.inr (.inr (new k (Za (h.rr i hi) k e) e')))))
 ·exact ⟨fun e=>⟨((h.ab k).1 e).1,fun e'=>((h.ab k).1 e).2 (new k (Za h.p k e) e')⟩,fun e e'=>(h.ab k).2 e (new k (Za h.r k e) e')⟩
 ·rcases hx' with e|e|e|e|e|⟨y,hy,e⟩
  ·exact .inl (h.in_ k (.inl e))
  ·exact .inl (h.in_ k (.inr (.inl e)))
  ·rcases hat with e1|⟨q,e1,hle⟩
   ·exact .inl (h.in_ k (.inr (.inr (.inl (e1 ▸ e)))))
   ·rw [e1] at e;injection e with e;exact .inr (e ▸ hle)
  ·exact .inl (h.in_ k (.inr (.inr (.inr (.inl e)))))
  ·exact .inl (h.in_ k (.inr (.inr (.inr (.inr (.inl e))))))
  ·rcases List.mem_append.1 hy with hy|hy
   ·exact .inl (h.in_ k (.inr (.inr (.inr (.inr (.inr ⟨y,hy,e⟩))))))
   ·rw [List.mem_singleton] at hy;subst hy;exact .inl (hk k e).2.2
end
end Go.Proofs.YtlhogkfmdnpmkaaGreat.Mean
