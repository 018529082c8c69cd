import Derived.Test.YtlhogkfmdnpmkaaGreatCFnExactMarksOf110
set_option linter.unusedVariables false
set_option linter.unusedSimpArgs false
set_option maxRecDepth 100000
namespace Go.Proofs.YtlhogkfmdnpmkaaGreat.Mean
open RowKit GMarks YtlhogkfmdnpmkaaGreatW.PrintWords YtlhogkfmdnpmkaaGreatW.PrintLast YtlhogkfmdnpmkaaGreatW.PrintMore
local instance protM:Prot:=⟨fun _=>none⟩
def V3 (q:Option Addr × Nat × Nat):Value:=.slice q.1 q.2.1 q.2.2
structure ML (W:World) (base:Nat) (P:Nat→Prop) (v:Value) (ys:List El):Prop where
 row:W.ownsRow base 45 5 v ys.length (ys.flatMap Uk)
 cl:∀ (i:Nat) (y:El),ys[i]?=some y→W.ownsRow base 3 1 (El.v y) y.1.f4.length (nums .i64 y.1.f4)
 apart:(ys.map Prod.snd).Pairwise (fun p q=>∀ k,(V3 p).ownBlock=some k→(V3 q).ownBlock≠some k)
 out:∀ p ∈ ys.map Prod.snd,∀ k,(V3 p).ownBlock=some k→v.ownBlock≠some k∧P k
 vp:∀ k,v.ownBlock=some k→P k
theorem flat_set:∀ (ys:List El) (j f:Nat) (x' x:El) (u:Value),ys[j]?=some x→f<5→Uk x'=(Uk x).set f u→(ys.flatMap Uk).set (j * 5+f) u=(ys.set j x').flatMap Uk
 |[],j,f,x',x,u,h,_,_=>by simp at h
 |a :: r,0,f,x',x,u,h,hf,e=>by
  obtain rfl:a=x:=by simpa using h
  rw [List.flatMap_cons,List.set_cons_zero,List.flatMap_cons,Nat.zero_mul,Nat.zero_add,e];exact List.set_append_left f u (by show f<5;exact hf)
 |a :: r,j+1,f,x',x,u,h,hf,e=>by
  have ih:=flat_set r j f x' x u (by simpa using h) hf e;rw [List.flatMap_cons,List.set_cons_succ,List.flatMap_cons,← ih,List.set_append_right ((j+1) * 5+f) u (by show 5≤_;omega)];congr 2
  show (j+1) * 5+f - 5=_
  omega
theorem flat_same:∀ (ys:List El) (j:Nat) (x' x:El),ys[j]?=some x→Uk x'=Uk x→(ys.set j x').flatMap Uk=ys.flatMap Uk
 |[],j,x',x,h,_=>by simp at h
 |a :: r,0,x',x,h,e=>by
  obtain rfl:a=x:=by simpa using h
  rw [List.set_cons_zero,List.flatMap_cons,List.flatMap_cons,e]
 |a :: r,j+1,x',x,h,e=>by
  rw [List.set_cons_succ,List.flatMap_cons,List.flatMap_cons,flat_same r j x' x (by simpa using h) e]
theorem flat_get:∀ (ys:List El) (j f:Nat) (x:El),ys[j]?=some x→f<5→(ys.flatMap Uk)[j * 5+f]?=(Uk x)[f]?
 |[],j,f,x,h,_=>by simp at h
 |a :: r,0,f,x,h,hf=>by
  obtain rfl:a=x:=by simpa using h
  rw [List.flatMap_cons,Nat.zero_mul,Nat.zero_add];exact List.getElem?_append_left (by show f<5;exact hf)
 |a :: r,j+1,f,x,h,hf=>by
  rw [List.flatMap_cons,List.getElem?_append_right (by show 5≤_;omega),← flat_get r j f x (by simpa using h) hf];congr 1
  show (j+1) * 5+f - 5=_
  omega
theorem snd_set (ys:List El) (j:Nat) (x' x:El) (h:ys[j]?=some x) (e:x'.2=x.2):(ys.set j x').map Prod.snd=ys.map Prod.snd:=by
 apply List.ext_getElem?
 intro i;rw [List.getElem?_map,List.getElem?_map,List.getElem?_set];split
 ·rename_i hij
  subst hij;have hj:=(List.getElem?_eq_some_iff.1 h).1;rw [if_pos hj,h];simp [e]
 ·rfl
section
variable {W W':World} {base:Nat} {P:Nat→Prop} {v:Value} {ys:List El}
theorem ML.get (h:ML W base P v ys) {j:Nat} {y:El} (hy:ys[j]?=some y):y.2 ∈ ys.map Prod.snd:=List.mem_map.2 ⟨y,List.mem_of_getElem? hy,rfl⟩
theorem ML.put (h:ML W base P v ys) {g n c:Nat} (hv:v=.slice (some ⟨g,0,none⟩) n c) {j f:Nat} {y x':El} {u:Value} (hy:ys[j]?=some y) (hf:f<5) (hx:Uk x'=(Uk y).set f u) (he:x'.2=y.2) (h4:x'.1.f4=y.1.f4):ML (W.setCell ⟨g,j * 5+f,none⟩ u) base P v (ys.set j x'):=by
 have hs:=snd_set ys j x' y hy he
 have hg:v.ownBlock=some g:=by rw [hv];rfl
 have ne:∀ {i:Nat} {y:El},ys[i]?=some y→some g≠(El.v y).ownBlock:=fun hi e=>(h.out _ (h.get hi) g e.symm).1 hg;refine ⟨?_,fun i z hz=>?_,by rw [hs];exact h.apart,by rw [hs];exact h.out,h.vp⟩
 ·have h1:ys.length=n:=by
   obtain ⟨_,_,e⟩:=Yl h.row;rw [hv] at e;injection e with _ e _;exact e.symm
  have h2:=(stored h.row (n:=ys.length) (by rw [hv,h1]) (j * 5+f) u).1;rw [flat_set ys j f x' y u hy hf hx] at h2;rw [List.length_set];exact h2
 ·rw [List.getElem?_set] at hz;split at hz
  ·rename_i hij
   rw [if_pos (List.getElem?_eq_some_iff.1 hy).1] at hz;obtain rfl:=sj_ hz;have h1:=Ug (h.cl j y hy) (p:=⟨g,j * 5+f,none⟩) (ne hy) u;rw [h4];unfold El.v at h1 ⊢;rw [he];exact h1
  ·exact Ug (h.cl i z hz) (p:=⟨g,j * 5+f,none⟩) (ne hz) u
theorem ML.clock (h:ML W base P v ys) {j:Nat} {y:El} {r:List Int} (hy:ys[j]?=some y) (hr:W'.ownsRow base 3 1 (El.v y) r.length (nums .i64 r)) (hk:∀ k,k<W.heap.size→¬ (El.v y).ownBlock=some k→W'.heap[k]?=W.heap[k]?):ML W' base P v (ys.set j (⟨y.1.f0,y.1.f1,y.1.f2,y.1.f3,r⟩,y.2)):=by
 have hs:=snd_set ys j (⟨y.1.f0,y.1.f1,y.1.f2,y.1.f3,r⟩,y.2) y hy rfl;refine ⟨?_,fun i z hz=>?_,by rw [hs];exact h.apart,by rw [hs];exact h.out,h.vp⟩
 ·rw [List.length_set,flat_same ys j (⟨y.1.f0,y.1.f1,y.1.f2,y.1.f3,r⟩,y.2) y hy rfl];exact Zd h.row (fun k hk'=>hk k (Za h.row k hk') (fun e=>(h.out _ (h.get hy) k e).1 hk'))
 ·rw [List.getElem?_set] at hz;split at hz
  ·rename_i hij
   rw [if_pos (List.getElem?_eq_some_iff.1 hy).1] at hz;obtain rfl:=sj_ hz;exact hr
  ·rename_i hij
   refine Zd (h.cl i z hz) (fun k hk'=>hk k (Za (h.cl i z hz) k hk') (fun e=>?_));have hp:=List.pairwise_iff_getElem.1 h.apart;obtain ⟨hj,ej⟩:=List.getElem?_eq_some_iff.1 hy;obtain ⟨hi,ei⟩:=List.getElem?_eq_some_iff.1 hz
   rcases Nat.lt_or_gt_of_ne hij with hlt|hlt
   ·exact hp j i (by simpa using hj) (by simpa using hi) hlt k (by simp [ej];exact e) (by simp [ei];exact hk')
   ·exact hp i j (by simpa using hi) (by simpa using hj) hlt k (by simp [ei];exact hk') (by simp [ej];exact e)
end
theorem ML.at_ {W:World} {base g n c:Nat} {P:Nat→Prop} {ys:List El} (h:ML W base P (.slice (some ⟨g,0,none⟩) n c) ys) {j:Nat} {y:El} (hy:ys[j]?=some y) :
  W.cell? ⟨g,j * 5,none⟩=some (.int .i64 y.1.f0)∧W.cell? ⟨g,j * 5+1,none⟩=some (.int .i64 y.1.f1)∧W.cell? ⟨g,j * 5+2,none⟩=some (.bool y.1.f2)∧W.cell? ⟨g,j * 5+3,none⟩=some (.int .i64 y.1.f3)∧W.cell? ⟨g,j * 5+4,none⟩=some (.slice y.2.1 y.2.2.1 y.2.2.2)∧∀ k,W.frozen? ⟨g,k,none⟩=false:=by
 obtain ⟨g',_,ev,_,_,hc,hf,_⟩:=row_form h.row (by have:=(List.getElem?_eq_some_iff.1 hy).1;omega);injection ev with ev _ _;injection ev with ev;injection ev with ev _ _;subst ev
 have hg:∀ f,f<5→W.cell? ⟨g,j * 5+f,none⟩=(Uk y)[f]?:=fun f hf'=>by
  have h1:=flat_get ys j f y hy hf';have h2:(Uk y)[f]?=some ((Uk y)[f]'hf'):=List.getElem?_eq_getElem hf';rw [h2] at h1 ⊢;exact hc _ _ h1
 exact ⟨(hg 0 de_).trans rfl,(hg 1 de_).trans rfl,(hg 2 de_).trans rfl,(hg 3 de_).trans rfl,(hg 4 de_).trans rfl,hf⟩
theorem set_at {ys:List El} {j:Nat} {y:El} (hy:ys[j]?=some y) (x:El):(ys.set j x)[j]?=some x:=by
 rw [List.getElem?_set_self (List.getElem?_eq_some_iff.1 hy).1]
theorem kept_set {w W:World} {S:Nat→Prop} (h:Kept w W S) {g:Nat} (hg:S g) (i:Nat) (u:Value):Kept w (W.setCell ⟨g,i,none⟩ u) S:=
 ⟨by rw [show (W.setCell ⟨g,i,none⟩ u).heap.size=W.heap.size by simp];exact h.1,fun k hk hn=>(Below.heap_setCell W ⟨g,i,none⟩ u k (fun e=>hn ((show k=g from e) ▸ hg))).trans (h.2 k hk hn)⟩
theorem chunks_flat:∀ (xs:List El) (inner:List Value),inner.length=xs.length * 5→(∀ (j:Nat) (x:El),xs[j]?=some x→(inner.drop (j * 5)).take 5=Uk x)→inner=xs.flatMap Uk
 |[],inner,h,_=>List.eq_nil_of_length_eq_zero (by simpa using h)
 |a :: r,inner,h,hc=>by
  have h0:=hc 0 a rfl
  have h1:=chunks_flat r (inner.drop 5) (by rw [List.length_drop,h,List.length_cons];omega) (fun j x hj=>by
   rw [List.drop_drop]
   have:=hc (j+1) x (by simpa using hj)
   rw [Nat.succ_mul] at this
   rw [Nat.add_comm];exact this)
  rw [List.flatMap_cons,← h1,← h0];exact (List.take_append_drop 5 inner).symm
theorem ML.of_S {W:World} {base:Nat} {ok:Nat→Prop} {v:Value} {l:List Mk} (h:Kd.S k45 45 W base ok v l):∃ ys:List El,ys.map Prod.fst=l∧ML W base ok v ys:=by
 obtain ⟨f,h0,inner,ho,hr⟩:=h;rw [List.length_zipIdx] at ho
 have hx:∀ j:Nat,∃ q:Option Addr × Nat × Nat,∀ x,l[j]?=some x→(inner.drop (j * 5)).take 5=Uk (x,q)∧W.ownsRow base 3 1 (V3 q) x.f4.length (nums .i64 x.f4)∧∀ k,(V3 q).ownBlock=some k→(ok k∧some k≠v.ownBlock)∧f k=j:=by
  intro j
  cases hj:l[j]? with
  |none=>exact ⟨(none,0,0),fun x hx=>by cases hx⟩
  |some x=>
   obtain ⟨v4,e,hR⟩:=k45_openM (hr.2 j (x,j) (Kd.zip_at hj));have aS:=Kd.own_of_R hR;obtain ⟨A,c,ev⟩:=Yl aS;subst ev;refine ⟨(A,x.f4.length,c),fun y hy=>?_⟩;obtain rfl:=sj_ hy;exact ⟨e,aS,fun k hk=>hR.1 k hk⟩
 obtain ⟨q,hq⟩:=Classical.axiomOfChoice hx;refine ⟨l.mapIdx (fun j x=>(x,q j)),?_,?_⟩
 ·apply List.ext_getElem?
  intro i;rw [List.getElem?_map,List.getElem?_mapIdx]
  cases l[i]? <;> rfl
 ·have hget:∀ (j:Nat) (y:El),(l.mapIdx (fun j x=>(x,q j)))[j]?=some y→∃ x,l[j]?=some x∧y=(x,q j):=fun j y hy=>by
   rw [List.getElem?_mapIdx] at hy;obtain ⟨x,hx,rfl⟩:=Option.map_eq_some_iff.1 hy;exact ⟨x,hx,rfl⟩
  have hlen:(l.mapIdx (fun j x=>(x,q j))).length=l.length:=List.length_mapIdx
  have hfl:inner=(l.mapIdx (fun j x=>(x,q j))).flatMap Uk:=chunks_flat _ _ (by rw [hlen];exact ho.1) (fun j y hy=>by
   obtain ⟨x,hx,rfl⟩:=hget j y hy;exact (hq j x hx).1)
  refine ⟨by rw [hlen,← hfl];exact ho,fun j y hy=>?_,?_,fun p hp k hk=>?_,h0⟩
  ·obtain ⟨x,hx,rfl⟩:=hget j y hy;exact (hq j x hx).2.1
  ·rw [List.pairwise_iff_getElem];intro i j hi hj hlt k h1 h2;rw [List.length_map,hlen] at hi hj;simp only [List.getElem_map,List.getElem_mapIdx] at h1 h2;have e1:=((hq i l[i] (List.getElem?_eq_getElem hi)).2.2 k h1).2;have e2:=((hq j l[j] (List.getElem?_eq_getElem hj)).2.2 k h2).2;omega
  ·obtain ⟨y,hy,rfl⟩:=List.mem_map.1 hp;obtain ⟨j,hj,rfl⟩:=List.mem_iff_getElem.1 hy;obtain ⟨x,hx,e⟩:=hget j _ (List.getElem?_eq_getElem hj);rw [e] at hk
   have:=((hq j x hx).2.2 k hk).1
   exact ⟨fun e=>this.2 e.symm,this.1⟩
theorem ML.S {W:World} {base:Nat} {ok:Nat→Prop} {v:Value} {ys:List El} (h:ML W base ok v ys):Kd.S k45 45 W base ok v (ys.map Prod.fst):=by
 have hap:ys.Pairwise (fun x y=>∀ k,(El.v x).ownBlock=some k→(El.v y).ownBlock≠some k):=(List.pairwise_map.1 h.apart).imp (fun hxy k e=>hxy k e);refine ⟨whose ys,h.vp,ys.flatMap Uk,by rw [List.length_zipIdx,List.length_map];exact h.row,?_,fun j p hj=>?_⟩
 ·rw [flat_len,List.length_zipIdx,List.length_map];rfl
 ·rw [List.getElem?_zipIdx,Nat.zero_add,List.getElem?_map] at hj;obtain ⟨y,hy,rfl⟩:=Option.map_eq_some_iff.1 hj;obtain ⟨x,hx,rfl⟩:=Option.map_eq_some_iff.1 hy;show (k45).M _ _ _ x.1 ((List.drop (j * 5) _).take 5)
  rw [flat_cut ys j x hx];exact k45_mkM _ _ _ _ (Kd.R_of_own (h.cl j x hx) (fun k hk=>⟨⟨(h.out _ (h.get hx) k hk).2,fun e=>(h.out _ (h.get hx) k hk).1 e.symm⟩,whose_is hap hx hk⟩))
def kAt (l:List Mk) (a:Int) (j:Nat):Int:=a+((((l.take j).map (fun x=>4+x.f4.length)).sum:Nat):Int)
def mkd (x:Mk) (k:Int):Mk:=⟨k,k+1,decide ((k+2) % 3=0),k+3,(List.range x.f4.length).map (fun i=>k+4+((i:Nat):Int))⟩
def markAll (l:List Mk) (a:Int):List Mk:=l.mapIdx (fun i x=>mkd x (kAt l a i))
theorem kAt_succ {l:List Mk} {a:Int} {j:Nat} (h:j<l.length):kAt l a (j+1)=kAt l a j+4+(l[j].f4.length:Int):=by
 unfold kAt;rw [List.take_succ_eq_append_getElem h,List.map_append,List.sum_append];simp only [List.map_cons,List.map_nil,List.sum_cons,List.sum_nil];omega
theorem kAt_le {l:List Mk} (a:Int) (h:∀ x ∈ l,x.f4.length≤3) (j:Nat) (hj:j≤l.length):a≤kAt l a j∧kAt l a j≤a+7 * (j:Int):=by
 induction j with
 |zero=>simp [kAt]
 |succ j ih=>
  have h1:=ih om_;rw [kAt_succ om_];have h2:=h l[j] (List.getElem_mem _);omega
theorem swap_set {M l:List Mk} (hl:M.length=l.length) {j:Nat} (hj:j<l.length):(M.take j ++ l.drop j).set j (M[j]'(by omega))=M.take (j+1) ++ l.drop (j+1):=by
 have e:(M.take j).length=j:=by rw [List.length_take];omega
 rw [List.set_append_right _ _ om_,e,Nat.sub_self,List.drop_eq_getElem_cons hj,List.set_cons_zero,List.take_succ_eq_append_getElem om_,List.append_assoc];rfl
theorem mark_loop:∀ (d i:Nat) (x:Int) (l:List Int) (q:Nat),i+d=l.length→l.length≤1000→0≤x→x≤2000000→d+1≤q→Yx.l0 q l (x+(i:Int)) (i:Int)=some (x+(l.length:Int),l.take i ++ (List.range d).map (fun z=>x+((i+z:Nat):Int)))
 |d,i,x,l,0,_,_,_,_,hq=>om_
 |0,i,x,l,q+1,h,_,_,_,_=>by
  rw [Yx.l0,if_neg om_];rw [show i=l.length by omega,List.take_length];simp
 |d+1,i,x,l,q+1,h,hl,h0,h1,hq=>by
  have w1:wrap64 (x+(i:Int)+1)=x+((i+1:Nat):Int):=by unfold wrap64;omega
  have w2:wrap64 ((i:Int)+1)=((i+1:Nat):Int):=by unfold wrap64;omega
  rw [Yx.l0,if_pos om_,if_pos om_,w1,w2,show ((i:Int)).toNat=i from rfl];have hs:(l.set i (x+(i:Int))).length=l.length:=List.length_set;rw [mark_loop d (i+1) x (l.set i (x+(i:Int))) q (by rw [hs];omega) (by rw [hs];exact hl) h0 h1 om_,hs];congr 2
  rw [List.take_succ_eq_append_getElem (by rw [hs];omega),List.take_set_of_le (nr_ _),List.getElem_set_self,List.append_assoc,List.range_succ_eq_map,List.map_cons,List.map_map];congr 1
  rw [List.singleton_append];congr 1
  apply List.map_congr_left
  intro z _;show x+_=x+_
  congr 1
  omega
set_option maxHeartbeats 8000000 in
theorem markM_do (l:List Mk) (a:Int) (ha:0≤a) (ha2:a≤1000000) (hl:l.length≤1000) (hc:∀ x ∈ l,x.f4.length≤3) (w0 w:World) (P:Nat→Prop) (v:Value) (hB:Below w0.heap.size w0 w) (ys0:List El) (hf0:ys0.map Prod.fst=l) (h:ML w w0.heap.size P v ys0) :
  Calls Tryz.prog 18 #[v,.int .i64 a] w fun e w'=>e=.returned (.int .i64 (kAt l a l.length))∧(∃ ys,ys.map Prod.fst=markAll l a∧ML w' w0.heap.size P v ys)∧Below w0.heap.size w0 w'∧Kept w w' (fun k=>P k):=by
 have hn:ys0.length=l.length:=by rw [← hf0,List.length_map]
 obtain ⟨A,c,ev⟩:=Yl h.row;subst ev;rw [hn];have HL:=Xa.mk h;have HB:=Xa.mk hB;have aL:=Xa.mk hf0;have hml:(markAll l a).length=l.length:=List.length_mapIdx;clear h hB hf0;go_enter Tryz.func18,Tryz.ntmps18;go_wp2
 go_loopg [1,5] l.length (fun kq v1 v5 w'=>∃ (j:Nat) (ys:List El),v1=.int .i64 (kAt l a j)∧v5=.int .i64 (j:Int)∧Xa (kq+j=l.length)∧Xa (ys.map Prod.fst=(markAll l a).take j ++ l.drop j)∧Xa (ML w' w0.heap.size P (.slice A l.length c) ys)∧Xa (Below w0.heap.size w0 w')∧Xa (Kept w w' (fun k=>P k)))
 case atStart=>exact ⟨0,ys0,by simp [kAt],rfl,⟨sm_⟩,⟨by simpa using aL.out⟩,⟨by have:=HL.out;rw [hn] at this;exact this⟩,HB,⟨Kept.refl _ _⟩⟩
 case round=>
  clear HL HB aL;obtain ⟨j,ys,rfl,rfl,HK,HY,HL,HB,HKP⟩:=hrel;by_cases hj:j<l.length
  ·cases gk with
   |zero=>exact absurd HK.out om_
   |succ k1=>
    have aV:decide ((j:Int)<(l.length:Int))=true:=dt_ om_
    have p0:0≤(j:Int):=om_
    have q0:(j:Int)<(l.length:Int):=om_
    have hwj:IntKind.i64.wrap ((j:Int)+1)=(j:Int)+1:=by rw [IntKind.wrap_i64];omega
    have hyl:ys.length=l.length:=by
     have:=congrArg List.length HY.out
     rw [List.length_map,List.length_append,List.length_take,List.length_drop,hml] at this;omega
    have hyj:j<ys.length:=om_
    obtain ⟨y,hy⟩:∃ y,ys[j]?=some y:=⟨_,List.getElem?_eq_getElem hyj⟩
    have hy1:y.1=l[j]:=by
     have h1:=congrArg (fun z=>z[j]?) HY.out;simp only [List.getElem?_map,hy] at h1;rw [List.getElem?_append_right (by rw [List.length_take];omega),List.length_take,show j - min j (markAll l a).length=0 by omega,List.getElem?_drop,Nat.add_zero,List.getElem?_eq_getElem hj] at h1;exact sj_ h1
    have hlr:=HL.out.row;rw [hyl] at hlr;obtain ⟨g,cap,ev,hbg,hgl,_,_,_⟩:=row_form hlr om_;injection ev with eA _ ec;subst eA;subst ec;have hPg:P g:=HL.out.vp g rfl;have hka:=kAt_le a hc j om_;have hkn:=kAt_succ (a:=a) hj;have h3:l[j].f4.length≤3:=hc _ (List.getElem_mem hj)
    have hM:(markAll l a)[j]'(by omega)=mkd l[j] (kAt l a j):=by unfold markAll;rw [List.getElem_mapIdx]
    have HN:Xa (((markAll l a).take j ++ l.drop j).set j (mkd l[j] (kAt l a j))=(markAll l a).take (j+1) ++ l.drop (j+1)):=⟨by rw [← hM];exact swap_set hml hj⟩;generalize hx:kAt l a j=x at *
    have hw1:IntKind.i64.wrap (x+1)=x+1:=by rw [IntKind.wrap_i64];omega
    have hw2:IntKind.i64.wrap (x+1+1)=x+1+1:=by rw [IntKind.wrap_i64];omega
    have hw3:IntKind.i64.wrap (x+1+1+1)=x+1+1+1:=by rw [IntKind.wrap_i64];omega
    have hw4:IntKind.i64.wrap (x+1+1+1+1)=x+1+1+1+1:=by rw [IntKind.wrap_i64];omega
    have HKN:=Xa.mk hkn;have HX:=Xa.mk hka;have aG:=Xa.mk h3;rw [← hy1] at aG HKN;have HPG:=Xa.mk hPg;have HBG:=Xa.mk hbg;have HYL:=Xa.mk hyl;have HLA:Xa (a≤1000000∧0≤a∧l.length≤1000):=⟨⟨ha2,ha,hl⟩⟩;rw [← hy1] at HN;have HJJ:=Xa.mk hj;clear hyl hyj hy1 hlr hbg hgl hPg hka hkn h3 hM hx ha ha2 hl hc hj hml;obtain ⟨s0,s1,s2,s3,s4,hf⟩:=HL.out.at_ hy;have f0:=hf (j * 5);go_upto_region 5 with (fail);have H1:Xa (ML (wr.setCell ⟨g,j * 5,none⟩ (.int .i64 (x))) w0.heap.size P (.slice (some ⟨g,0,none⟩) l.length c) (ys.set j (⟨x,y.1.f1,y.1.f2,y.1.f3,y.1.f4⟩,y.2))):=⟨by have h_:=HL.out.put rfl (f:=0) (x':=((⟨x,y.1.f1,y.1.f2,y.1.f3,y.1.f4⟩,y.2):El)) (u:=.int .i64 (x)) hy de_ rfl rfl rfl;exact h_⟩;have aM:=Xa.mk (kept_set HKP.out HPG.out (j * 5+0) (.int .i64 (x)));have aH:=Xa.mk (Below.setCell (p:=⟨g,j * 5+0,none⟩) HB.out HBG.out (.int .i64 (x)));have hy1:=set_at hy ((⟨x,y.1.f1,y.1.f2,y.1.f3,y.1.f4⟩,y.2):El);clear s0 s1 s2 s3 s4 hf f0;generalize wr.setCell ⟨g,j * 5,none⟩ (.int .i64 (x))=w1 at H1 aM aH ⊢;obtain ⟨s0,s1,s2,s3,s4,hf⟩:=H1.out.at_ hy1;have f0:=hf (j * 5+1);go_upto_region 7 with (fail);have H2:Xa (ML (w1.setCell ⟨g,j * 5+1,none⟩ (.int .i64 (x+1))) w0.heap.size P (.slice (some ⟨g,0,none⟩) l.length c) (ys.set j (⟨x,x+1,y.1.f2,y.1.f3,y.1.f4⟩,y.2))):=⟨by have h_:=H1.out.put rfl (f:=1) (x':=((⟨x,x+1,y.1.f2,y.1.f3,y.1.f4⟩,y.2):El)) (u:=.int .i64 (x+1)) hy1 de_ rfl rfl rfl;rw [List.set_set] at h_;exact h_⟩;have aN:=Xa.mk (kept_set aM.out HPG.out (j * 5+1) (.int .i64 (x+1)));have aI:=Xa.mk (Below.setCell (p:=⟨g,j * 5+1,none⟩) aH.out HBG.out (.int .i64 (x+1)));have hy2:=set_at hy ((⟨x,x+1,y.1.f2,y.1.f3,y.1.f4⟩,y.2):El);clear s0 s1 s2 s3 s4 hf f0;generalize w1.setCell ⟨g,j * 5+1,none⟩ (.int .i64 (x+1))=w2 at H2 aN aI ⊢;obtain ⟨s0,s1,s2,s3,s4,hf⟩:=H2.out.at_ hy2;have f0:=hf (j * 5+2);have hr3:(x+1+1).tmod 3=(x+1+1) % 3:=Int.tmod_eq_emod_of_nonneg (by have:=HX.out;have:=HLA.out;omega);go_upto_region 9 with (fail)
    have hb:((x+1+1) % 3 == 0)=decide ((x+2) % 3=0):=by rw [show x+1+1=x+2 by omega];rfl
    try rw [hb]
    have H3:Xa (ML (w2.setCell ⟨g,j * 5+2,none⟩ (.bool (decide ((x+2) % 3=0)))) w0.heap.size P (.slice (some ⟨g,0,none⟩) l.length c) (ys.set j (⟨x,x+1,decide ((x+2) % 3=0),y.1.f3,y.1.f4⟩,y.2))):=⟨by have h_:=H2.out.put rfl (f:=2) (x':=((⟨x,x+1,decide ((x+2) % 3=0),y.1.f3,y.1.f4⟩,y.2):El)) (u:=.bool (decide ((x+2) % 3=0))) hy2 de_ rfl rfl rfl;rw [List.set_set] at h_;exact h_⟩;have aO:=Xa.mk (kept_set aN.out HPG.out (j * 5+2) (.bool (decide ((x+2) % 3=0))));have aJ:=Xa.mk (Below.setCell (p:=⟨g,j * 5+2,none⟩) aI.out HBG.out (.bool (decide ((x+2) % 3=0))));have hy3:=set_at hy ((⟨x,x+1,decide ((x+2) % 3=0),y.1.f3,y.1.f4⟩,y.2):El);clear s0 s1 s2 s3 s4 hf f0 hr3 hb;generalize w2.setCell ⟨g,j * 5+2,none⟩ (.bool (decide ((x+2) % 3=0)))=w3 at H3 aO aJ ⊢;obtain ⟨s0,s1,s2,s3,s4,hf⟩:=H3.out.at_ hy3;have f0:=hf (j * 5+3);go_upto_region 11 with (fail);have H4:Xa (ML (w3.setCell ⟨g,j * 5+3,none⟩ (.int .i64 (x+1+1+1))) w0.heap.size P (.slice (some ⟨g,0,none⟩) l.length c) (ys.set j (⟨x,x+1,decide ((x+2) % 3=0),x+1+1+1,y.1.f4⟩,y.2))):=⟨by have h_:=H3.out.put rfl (f:=3) (x':=((⟨x,x+1,decide ((x+2) % 3=0),x+1+1+1,y.1.f4⟩,y.2):El)) (u:=.int .i64 (x+1+1+1)) hy3 de_ rfl rfl rfl;rw [List.set_set] at h_;exact h_⟩;have aC:=Xa.mk (kept_set aO.out HPG.out (j * 5+3) (.int .i64 (x+1+1+1)));have aK:=Xa.mk (Below.setCell (p:=⟨g,j * 5+3,none⟩) aJ.out HBG.out (.int .i64 (x+1+1+1)));have hy4:=set_at hy ((⟨x,x+1,decide ((x+2) % 3=0),x+1+1+1,y.1.f4⟩,y.2):El);clear s0 s1 s2 s3 s4 hf f0;generalize w3.setCell ⟨g,j * 5+3,none⟩ (.int .i64 (x+1+1+1))=w4 at H4 aC aK ⊢;obtain ⟨s0,s1,s2,s3,s4,hf⟩:=H4.out.at_ hy4;have aB:=H4.out.cl j _ hy4;have HC:=Lib.hid (Yx.calls 1001 (fun k=>(El.v y).ownBlock=some k) (El.v y) y.1.f4 (x+1+1+1+1) (x+1+1+1+1+(y.1.f4.length:Int)) ((List.range y.1.f4.length).map (fun z=>x+1+1+1+1+((0+z:Nat):Int))) w0 w4 aK.out (Kd.R_of_own (show w4.ownsRow w0.heap.size 3 1 (El.v y) y.1.f4.length (nums .i64 y.1.f4) from aB) (fun k hk=>hk)) (by have h_:=mark_loop y.1.f4.length 0 (x+1+1+1+1) y.1.f4 1001 om_ (by have:=aG.out;omega) (by have:=HX.out;have:=HLA.out;omega) (by have:=HX.out;have:=HLA.out;omega) (by have:=aG.out;omega);unfold Yx.f;simpa using h_));clear aB;unfold El.v at HC;go_upto_region 3 with (first|(go_at_call 17;refine (HC.out).mono ?_;rintro e w5 ⟨rfl,aR,aP,aF⟩));have aQ:=Kd.own_of_R aR;have H5:=Xa.mk (H4.out.clock hy4 aQ (fun k hk hn=>aF.2 k hk hn));have aU:Xa (Kept w w5 (fun k=>P k)):=⟨⟨nt_ aC.out.1 aF.1,fun k hk hn=>(aF.2 k (nl_ hk aC.out.1) (fun e=>hn (H4.out.out _ (H4.out.get hy4) k e).2)).trans (aC.out.2 k hk hn)⟩⟩;have aT:=Xa.mk aP;clear aR aP aF aQ HC s0 s1 s2 s3 s4 hf;go_wp2;go_roundg k1
    case measure=>omega
    case rel=>
     refine ⟨j+1,_,?_,rfl,⟨by have:=HK.out;omega⟩,⟨?_⟩,H5,aT,aU⟩
     ·rw [HKN.out];congr 1;omega
     ·rw [← HN.out,← HY.out]
      apply List.ext_getElem?
      intro i;rw [List.getElem?_map,List.set_set,List.getElem?_set,List.getElem?_set,List.getElem?_map];by_cases e:j=i
      ·subst e;have hj':=(List.getElem?_eq_some_iff.1 hy).1;rw [if_pos rfl,if_pos rfl,if_pos hj',if_pos (by rw [List.length_map];exact hj')];simp only [Option.map_some,mkd,Option.some.injEq];refine S45.mk.injEq ..|>.mpr ⟨rfl,om_,rfl,om_,?_⟩
       apply List.map_congr_left
       intro z _;omega
      ·rw [if_neg e,if_neg e]
  ·have hjl:j=l.length:=by have:=HK.out;omega
   have aV:decide ((j:Int)<(l.length:Int))=false:=df_ om_
   have hfin:ys.map Prod.fst=markAll l a:=by rw [HY.out,hjl,← hml,List.take_length,hml,List.drop_length,List.append_nil]
   subst hjl;have HFN:=Xa.mk hfin;clear hfin hml;go_wp2;go_ret
   exact ⟨rfl,⟨ys,HFN.out,HL.out⟩,HB.out,HKP.out⟩
end Go.Proofs.YtlhogkfmdnpmkaaGreat.Mean
namespace Go.Proofs.YtlhogkfmdnpmkaaGreat.GMarks
open RowKit YtlhogkfmdnpmkaaGreatW.PrintWords YtlhogkfmdnpmkaaGreatW.PrintLast YtlhogkfmdnpmkaaGreatW.PrintMore
attribute [local go_sem] Ua Ud Uu Ux Zo Zp Ub Ue
def laws_markMarkS.f (l0:List (S45)) (a1:Int):Option (Int × List (S45)):=if 0≤a1∧a1≤1000000∧l0.length≤1000∧l0.all (fun x=>decide (x.f4.length≤3))=true then some (Mean.kAt l0 a1 l0.length,Mean.markAll l0 a1) else none
theorem laws_markMarkS.calls (aD:Nat→Prop) (aA:Value) (l0:List (S45)) (a1:Int) (r1:Int) (r2:List (S45)) (w0 w:World) (hB:Below w0.heap.size w0 w) (ho0:Kd.S k45 45 w w0.heap.size aD aA l0) (h:laws_markMarkS.f l0 a1=some (r1,r2)) :
  Calls Tryz.prog 18 #[aA,.int .i64 a1] w fun e w'=>e=.returned (.int .i64 r1)∧Kd.S k45 45 w' w0.heap.size (fun k_=>(aD k_∨w.heap.size≤k_)) aA r2∧Below w0.heap.size w0 w'∧Kept w w' (fun k_=>aD k_):=by
 unfold laws_markMarkS.f at h;by_cases hc:0≤a1∧a1≤1000000∧l0.length≤1000∧l0.all (fun x=>decide (x.f4.length≤3))=true
 ·rw [if_pos hc] at h;obtain ⟨rfl,rfl⟩:=Prod.mk.inj (sj_ h);obtain ⟨ys,hy,hM⟩:=Mean.ML.of_S ho0;refine (Mean.markM_do l0 a1 hc.1 hc.2.1 hc.2.2.1 (fun x hx=>od_ (List.all_eq_true.1 hc.2.2.2 x hx)) w0 w aD aA hB ys hy hM).mono (fun e w' hx=>?_);obtain ⟨he,⟨zs,hz,hZ⟩,hb,hk⟩:=hx;exact ⟨he,hz ▸ Kd.S_mono hZ.S (fun k hk=>.inl hk),hb,hk⟩
 ·rw [if_neg hc] at h;cases h
end Go.Proofs.YtlhogkfmdnpmkaaGreat.GMarks
