import Derived.Test.YtlhogkfmdnpmkaaGreatCFnExactMarksOf77
import Derived.OwnWalkIn
set_option linter.unusedSectionVars false
set_option linter.unusedVariables false
set_option linter.unusedSimpArgs false
set_option maxHeartbeats 16000000
set_option maxRecDepth 100000
namespace Go.Proofs.YtlhogkfmdnpmkaaGreat.Mean
open RowKit GMarks YtlhogkfmdnpmkaaGreatW.PrintWords YtlhogkfmdnpmkaaGreatW.PrintLast YtlhogkfmdnpmkaaGreatW.PrintMore
attribute [local go_sem] Oper.semAt_some
structure Co (bs base:Nat) (U:Nat→Prop) (xs:List El) (W:World):Prop where
 row:∃ A c,W.heap[bs]?=some (.cells #[.slice A xs.length c] 25 (0,0))∧W.ownsRow base 45 5 (.slice A xs.length c) xs.length (xs.flatMap Uk)∧(∀ k,(Value.slice A xs.length c).ownBlock=some k→U k∧k≠bs)
 var:U bs
theorem Co.only {bs base:Nat} {U:Nat→Prop} {xs:List El} {W W':World} (h:Co bs base U xs W) (ho:Only W W' (fun k=>¬ U k)):Co bs base U xs W':=by
 obtain ⟨⟨A,c,h1,h2,h3⟩,h4⟩:=h;exact ⟨⟨A,c,(ho.block bs (Xq h1) (fun e=>e h4)).trans h1,Zd h2 (fun k hk=>ho.block k (Za h2 k hk) (fun e=>e (h3 k hk).1)),h3⟩,h4⟩
theorem appendIn {F:Fence} {n:Nat} {P:Program} {W:World} {ops:Array Oper} {rest:List Oper} {o:Oper} {a:Act} {Q:Exit→Act→World→Prop} (hg:o.guard=none) (s x:Operand) (t e:TypeId) (hop:o.op=Op.call { callee:=Callee.builtin Builtin.append,args:=#[s,x],argTypes:=#[t,t] })
  (base:Nat) (z:Value) (size bytes:Nat) (ht:P.underlying t=some (.slice e)) (hinfo:(P.info? e).map (fun i=>(i.zero,i.size,i.bytes))=some (some z,size,bytes)) (hz:z.cells.size=size) (hs0:0<size) (hb0:0<bytes)
  (v:Value) (k:Nat) (xs ys:List Value) (hs:a.eval s=v) (hx:a.eval x=.slice (some ⟨W.heap.size,0,none⟩) 1 1) (hys:ys.length=size) (h1:∀ u ∈ ys,u.oneCell'=true) (HO:W.ownsRow base e size v k xs) (hbase:base≤W.heap.size) (hl:(k+1) * bytes≤140737488355328)
  (hK:∀ v1 w1,w1.ownsRow base e size v1 (k+1) (xs ++ ys)→(W.alloc (.cells ys.toArray e)).grownBy w1 v.ownBlock→(v1.ownBlock=v.ownBlock∨∃ b,v1.ownBlock=some b∧W.heap.size≤b)→wpListIn F n P ops Q rest (a.put o.dst v1) w1) :
  wpListIn F n P ops Q (o :: rest) a (W.alloc (.cells ys.toArray e)):=by
 obtain ⟨i0,hi,hzz⟩:=Option.map_eq_some_iff.1 hinfo;simp only [Prod.mk.injEq] at hzz;obtain ⟨hz0,hz1,hz2⟩:=hzz;have hlen:k+1≤140737488355328:=nt_ (Nat.le_mul_of_pos_right _ hb0) hl;refine wpListIn_plain hg fun K hK'=>?_
 obtain ⟨v1,w1,hr,hown,hgr,_,hat⟩:=run_append_own_at (P:=P) (W.alloc (.cells ys.toArray e)) base t o.type e i0 z size bytes ht hi hz0 hz1 hz2 hz hs0 v k xs (HO.alloc _) ⟨W.heap.size,0,none⟩ 1 1 ys (by rw [hys];simp)
  (by simpa using World.news_of_block (cs:=ys.toArray) (t:=e) (fr:=(0,0)) (heap_alloc_new W (.cells ys.toArray e))) h1 (by simp only [maxLen];omega) hl (by simp;omega)
 unfold Oper.wpIn;refine ⟨?_,?_⟩
 ·simp [Oper.about,hop,resolve,Target.leads,Sem.run_pure]
 ·rw [Oper.semAt_plain F _ _ (by rw [hop];intro c hc';cases hc')];simp [execOp,hop,resolve,invoke,builtin,hs,hx,hr,Result.andThen];refine hK' _ _ (hK v1 w1 hown hgr ?_)
  rcases hat with h|h
  ·exact .inl h
  ·exact .inr ⟨_,h,sm_⟩
variable [Prot]
theorem append_do (w:World) (gf:Nat) (lb:Array Value) (S:(Nat→Prop)→List El→World→Prop) (hseq:∀ wS,Below w.heap.size w wS→SeqM Tryz.prog gf lb encM (fun k=>k<w.heap.size) S (fun pre _=>pre.length<200) wS)
  (hS:∀ U xs A B,S U xs A→Only A B U→S U xs B) (eg:∀ args w,(callFunc gf args).run Tryz.prog w=.ok (.enter gf args) w) :
  Calls Tryz.prog 60 #[.slice none 0 0,.func (.func gf) #[] lb] w fun e w'=>∃ A c xs V,e=.returned (.slice A xs.length c)∧w'.ownsRow w.heap.size 45 5 (.slice A xs.length c) xs.length (xs.flatMap Uk)∧S V xs w'∧(∀ k,(Value.slice A xs.length c).ownBlock=some k→V k)∧Below w.heap.size w w':=by
 refine (callsIn_wide (n:=1)).1 (callsIn_of_wp_marks (F:=Fence.wide) Tryz.func60 rfl trivial ?_);simp only [Tryz.ntmps60,List.size_toArray,List.length_cons,List.length_nil,Nat.reduceAdd,Nat.reduceSub,Array.replicate_succ,Array.replicate_zero,List.push_toArray,List.append_toArray,List.nil_append,List.cons_append];refine wpIn_wide.2 ?_;go_upto_region 1 with (fail);have hb:=Yc w (.cells #[.slice none 0 0] 25);have hB:=Xf (Below.refl w.heap.size w) (.cells #[.slice none 0 0] 25);have HSQ:=Lib.hid (hseq _ hB)
 have hsz:(w.alloc (.cells #[.slice none 0 0] 25)).heap.size=w.heap.size+1:=sm_
 have h0:Co w.heap.size w.heap.size (fun k=>k=w.heap.size) [] (w.alloc (.cells #[.slice none 0 0] 25)):=⟨⟨none,0,hb,own_nil _ _ _ _,fun k hk=>by cases hk⟩,rfl⟩;have HSZ:=Xa.mk hsz;have HB:=Xa.mk hB;have H0:=Xa.mk h0;clear hb hB hsz h0;generalize w.alloc (.cells #[.slice none 0 0] 25)=wS at *;generalize hgs:w.heap.size=bs at *;have HGS:=Xa.mk hgs;clear hgs;go_wp2
 refine rangeM_of (gf:=gf) (lb:=lb) rfl eg (HSQ.out) (fun k hk=>by have:=HSZ.out;omega) (fun _=>rfl) hS (Co bs bs) (fun U xs A B h ho=>h.only ho) (fun k=>k=bs) (fun k hk=>by have:=HSZ.out;have h1:k=bs:=hk;exact ⟨om_,om_⟩) H0.out
  (fun x W W1 a1=>a1 = { tmps:=#[.slice none 0 0,.func (.func gf) #[] lb,.pointer (some ⟨bs,0,none⟩),undef,.slice none 0 0,.pointer (some ⟨W.heap.size,0,none⟩),.func (.func gf) #[] lb,.agg #[.int .i64 x.1.f0,.int .i64 x.1.f1,.bool x.1.f2,.int .i64 x.1.f3,El.v x],undef,undef,undef,undef,undef],defers:=[] }∧W1.heap[W.heap.size]?=some (.cells #[.int .i64 x.1.f0,.int .i64 x.1.f1,.bool x.1.f2,.int .i64 x.1.f3,El.v x] 45 (0,0))) ?assign ?body ?done
 case assign=>
  intro l x W K hK;unfold encM El.v
  gi_wp2
  exact hK _ _ (Xf (Below.refl _ _) _) ⟨rfl,Yc W _⟩
 case body=>
  rintro l U pre x W W1 W2 a1 hw hl ⟨rfl,hx⟩ ho hle hI hok;obtain ⟨⟨A,c,h1,h2,h3⟩,hU⟩:=hI;have hx2:=(ho.block W.heap.size (Xq hx) om_).trans hx;have s0:W2.cell? ⟨bs,0,none⟩=some (.slice A pre.length c):=(Xd h1 0).trans rfl;have sf:=Xc h1 0;have x0:W2.cell? ⟨W.heap.size,0,none⟩=some (.int .i64 x.1.f0):=(Xd hx2 0).trans rfl;have x1:W2.cell? ⟨W.heap.size,1,none⟩=some (.int .i64 x.1.f1):=(Xd hx2 1).trans rfl;have x2:W2.cell? ⟨W.heap.size,2,none⟩=some (.bool x.1.f2):=(Xd hx2 2).trans rfl;have x3:W2.cell? ⟨W.heap.size,3,none⟩=some (.int .i64 x.1.f3):=(Xd hx2 3).trans rfl;have x4:W2.cell? ⟨W.heap.size,4,none⟩=some (El.v x):=(Xd hx2 4).trans rfl;have H1:=Xa.mk h1;have H2:=Xa.mk h2;have H3:=Xa.mk h3;have HU:=Xa.mk hU;have HOK:Xa (pre.length<200):=⟨hok⟩;have HWS:Xa (bs<W2.heap.size):=⟨Xq h1⟩;have HMA:Xa (W.heap.size<W2.heap.size):=⟨Xq hx2⟩;clear h1 h2 h3 hU hx hx2 ho hok hw hl hle HSQ H0;unfold El.v at *
  gi_wp2_with (first|(gi_at_builtin;refine appendIn rfl (.tmp 8) (.tmp 10) 25 45 rfl bs (.agg #[(.int .i64 0),(.int .i64 0),(.bool false),(.int .i64 0),(.slice none 0 0)]) 5 56 Tryz.underlying25 inMark rfl de_ de_ (.slice A pre.length c) pre.length (pre.flatMap Uk) [.int .i64 x.1.f0,.int .i64 x.1.f1,.bool x.1.f2,.int .i64 x.1.f3,.slice x.2.1 x.2.2.1 x.2.2.2] rfl rfl rfl (by simp [Value.oneCell']) H2.out (Nat.le_of_lt HWS.out) (by have:=HOK.out;omega) ?_;intro v1 w1 ho1 hg1 aB;obtain ⟨A9,c9,e9⟩:=Yl ho1;subst e9;have aC:=Xa.mk ((hg1.block bs (nl_ HWS.out sm_) (fun e=>(H3.out bs e.symm).2 rfl)).trans (Xl H1.out _));have s1:=(Xd aC.out 0).trans rfl;have sf1:=Xc aC.out 0;have aG:=Xa.mk ho1;have aF:=Xa.mk hg1;have HAT:=Xa.mk aB;clear ho1 hg1 aB))
  have HP:=Xa.mk (Xn (cs':=#[.slice A9 (pre.length+1) c9]) aC.out 0 (.slice A9 (pre.length+1) c9) rfl);have hsa:W2.heap.size≤w1.heap.size:=nt_ sm_ aF.out.size
  have hne:∀ k,(Value.slice A9 (pre.length+1) c9).ownBlock=some k→(U k∨W2.heap.size≤k)∧k≠bs:=by
   intro k hk
   rcases HAT.out with e|⟨b,e,hle⟩
   ·rw [e] at hk;exact ⟨.inl (H3.out k hk).1,(H3.out k hk).2⟩
   ·rw [e] at hk;injection hk with hk;have:=HWS.out;exact ⟨.inr om_,om_⟩
  have hlt:∀ k,(Value.slice A9 (pre.length+1) c9).ownBlock=some k→k<w1.heap.size:=fun k hk=>Za aG.out k hk
  have ho:Only W2 w1 U:=by
   refine (Only.of_below (Xf (Below.refl _ _) _) U).trans (Only.of_grown aF.out (fun k hk=>.inl (H3.out k hk).1))
  refine ⟨fun k=>U k∨(W2.heap.size≤k∧k<w1.heap.size),⟨⟨A9,c9,by rw [List.length_append,List.length_singleton];exact HP.out,?_,fun k hk=>?_⟩,.inl HU.out⟩,ho.trans ((Uf w1 bs 0 _).mono (fun k hk=>.inl (hk ▸ HU.out))),fun k hk=>hk.elim .inl (fun h=>.inr ⟨h.1,nl_ h.2 (Uf w1 bs 0 _).size⟩)⟩
  ·rw [List.length_append,List.length_singleton,List.flatMap_append]
   have:=Ug aG.out (p:=⟨bs,0,none⟩) (fun e=>(hne bs e.symm).2 rfl) (.slice A9 (pre.length+1) c9)
   exact this
  ·rw [List.length_append,List.length_singleton] at hk;exact ⟨(hne k hk).1.elim .inl (fun h=>.inr ⟨h,hlt k hk⟩),(hne k hk).2⟩
 case done=>
  intro D U V xs W hD hUV hVD hnd hs hI hon hK;obtain ⟨⟨A,c,h1,h2,h3⟩,hU⟩:=hI;have s0:W.cell? ⟨bs,0,none⟩=some (.slice A xs.length c):=(Xd h1 0).trans rfl;have H2:=Xa.mk h2;have H3:=Xa.mk h3;have HS:=Xa.mk hs;have HON:=Xa.mk hon;have HUV:=Xa.mk hUV;have HVD:=Xa.mk hVD;have HND:=Xa.mk hnd;have HK:=Xa.mk hK;have HD:=Xa.mk hD;clear h1 h2 h3 hs hon hUV hU hK hD hVD hnd HSQ H0;go_wp2;have hd:=HD.out;refine ⟨sm_,.inl ⟨_,_,rfl,run_takeDeferred HK.out,?_⟩⟩;rw [HGS.out];have hp:∀ o',Only W (W.putObj D o') (fun k=>k=D):=fun o'=>only_putObj rfl;have hw:=HSZ.out;have hAV:∀ k,(Value.slice A xs.length c).ownBlock=some k→V k:=fun k hk=>HUV.out k (H3.out k hk).1;have hnd:¬ U D:=fun e=>HND.out e;refine ⟨_,results_tmp rfl _ _ _,A,c,xs,V,rfl,Zd H2.out (fun k hk=>World.putObj_heap_other (fun e=>hnd (e ▸ (H3.out k hk).1))),hS _ _ _ _ HS.out ((hp _).mono (fun k hk=>?_)),hAV,?_⟩
  ·have h1:k=D:=hk;exact h1 ▸ HVD.out
  ·exact (HB.out.trans (HON.out.below om_ (fun k hk=>Nat.le_of_eq (Eq.symm hk)))).trans ((hp _).below (by have:=HON.out.size;omega) (fun k hk=>by have h1:k=D:=hk;omega))
theorem SeqM.mono {α:Type} {P:Program} {g:Nat} {lb:Array Value} {encs:α→Array Value} {X:Nat→Prop} {S S':(Nat→Prop)→List α→World→Prop} {Ok:List α→α→Prop} {w:World} (h:SeqM P g lb encs X S Ok w) (hs:∀ U xs W,S U xs W→S' U xs W):SeqM P g lb encs X S' Ok w:=by
 intro l J U W hW h1 h2 h3 h4;refine (h l J U W hW h1 h2 h3 h4).mono (fun e W' hx=>?_);obtain ⟨hv,U',xs,hj,hS,ho⟩:=hx;exact ⟨hv,U',xs,hj,hs _ _ _ hS,ho⟩
def MarksAt (base:Nat) (w:World) (ms:List Mk) (v:Value) (w':World):Prop:=∃ A c xs V,v=.slice A xs.length c∧xs.map Prod.fst=ms∧w'.ownsRow base 45 5 (.slice A xs.length c) xs.length (xs.flatMap Uk)∧Cl base V xs w'∧(∀ k,(Value.slice A xs.length c).ownBlock=some k→V k)∧Below base w w'
theorem collect_do (w:World) (gf:Nat) (lb:Array Value) (ms:List Mk) (hseq:∀ wS,Below w.heap.size w wS→SeqM Tryz.prog gf lb encM (fun k=>k<w.heap.size) (fun U xs W=>xs.map Prod.fst=ms∧Cl wS.heap.size U xs W) (fun pre _=>pre.length<200) wS) (eg:∀ args w,(callFunc gf args).run Tryz.prog w=.ok (.enter gf args) w) :
  Calls Tryz.prog 38 #[.func (.func gf) #[] lb] w fun e w'=>∃ v,e=.returned v∧MarksAt w.heap.size w ms v w':=by
 have AP:=Lib.hid (append_do w gf lb (fun U xs W=>xs.map Prod.fst=ms∧Cl w.heap.size U xs W) (fun wS hb=>(hseq wS hb).mono (fun U xs W h=>⟨h.1,⟨fun x hx=>Zi (h.2.row x hx) hb.size,h.2.out,h.2.apart⟩⟩)) (fun U xs A B h ho=>⟨h.1,h.2.only ho⟩) eg);clear hseq;go_enter Tryz.func38,Tryz.ntmps38;go_wp2_with (first|(go_at_call 60;refine (AP.out).mono ?_;rintro e w1 ⟨A,c,xs,V,rfl,h1,h2,h3,h4⟩));go_ret
 exact ⟨_,rfl,A,c,xs,V,rfl,h2.1,h1,h2.2,h3,h4⟩
theorem marksFn_do (w:World) (A0 A1:Option Addr) (n0 n1 c0 c1:Nat) :
  Calls Tryz.prog 39 #[.slice A0 n0 c0,.slice A1 n1 c1] w fun e w'=>e=.returned (.func (.func 61) #[] #[.pointer (some ⟨w.heap.size,0,none⟩),.pointer (some ⟨w.heap.size+1,0,none⟩)])∧w'.heap[w.heap.size]?=some (.cells #[.slice A0 n0 c0] 27 (0,0))∧w'.heap[w.heap.size+1]?=some (.cells #[.slice A1 n1 c1] 23 (0,0))∧Below w.heap.size w w':=by
 go_enter Tryz.func39,Tryz.ntmps39;go_wp2;go_ret
 have h:=Yc (w.alloc (.cells #[.slice A0 n0 c0] 27)) (.cells #[.slice A1 n1 c1] 23);rw [World.size_alloc] at h;exact ⟨rfl,Xl (Yc w _) _,h,Xf (Xf (Below.refl _ _) _) _⟩
theorem marksOf_do (A0:Option Addr) (c0:Nat) (l0:List (List T)) (A1:Option Addr) (c1:Nat) (l1:List Int) (w:World) (hr0:Kd.C (Kd.slice 87 k87) w A0 l0.length l0) (hc0:l0.length≤c0) (hr1:Kd.C (Kd.int .i64) w A1 l1.length l1) (hc1:l1.length≤c1)
  (hinv:progOk l0=true→Inv (Zx l0) 0∧(∀ l ∈ l0,Small 4 l)) (hno:∀ k,Prot.low k=none) :
  Calls Tryz.prog 12 #[.slice A0 l0.length c0,.slice A1 l1.length c1] w fun e w'=>∃ v,e=.returned v∧MarksAt w.heap.size w (marks l0 l1) v w':=by
 have PL:=Lib.hid (playable_do l0 A0 c0 l1.length c1 A1 w hr0 hc0);by_cases hq:(progOk l0 && decide (l1.length≤200))=true
 ·have eW:marks l0 l1=(l1.foldl (goM l0.length) ⟨Zx l0,fun _ _=>0,0,[]⟩).out:=if_pos hq;rw [eW];rw [hq] at PL;rw [Bool.and_eq_true] at hq;obtain ⟨hI,hS⟩:=hinv hq.1;have aA:l1.length≤200:=od_ hq.2;have MF:=Lib.hid (fun (w1:World)=>marksFn_do w1 A0 A1 l0.length l1.length c0 c1)
  have CO:=Lib.hid (fun (w1 w2:World) (hb1:Below w.heap.size w w1) (hb2:Below w1.heap.size w1 w2) (h1:w2.heap[w1.heap.size]?=some (.cells #[.slice A0 l0.length c0] 27 (0,0))) (h2:w2.heap[w1.heap.size+1]?=some (.cells #[.slice A1 l1.length c1] 23 (0,0)))=>
   collect_do w2 61 #[.pointer (some ⟨w1.heap.size,0,none⟩),.pointer (some ⟨w1.heap.size+1,0,none⟩)] (l1.foldl (goM l0.length) ⟨Zx l0,fun _ _=>0,0,[]⟩).out
    (fun wS hb=>marks_seq A0 c0 l0 A1 c1 l1 w wS hr0 hc0 hr1 hc1 w1.heap.size (w1.heap.size+1) (hb1.trans ((hb2.mono hb1.size).trans (hb.mono (nt_ hb1.size hb2.size)))) ((hb.block _ (Xq h1)).trans h1) ((hb.block _ (Xq h2)).trans h2) aA hI hS hno (fun k=>k<w2.heap.size)
     (fun k hk=>by
      have e1:=Xq h1;have e2:=Xq h2;have e3:=nt_ hb1.size hb2.size
      rcases hk with h|rfl|rfl
      ·exact nl_ h e3
      ·exact e1
      ·exact e2) (fun k hk=>nl_ hk hb.size)) (Go.Proofs.enters_of Tryz.func61 kr_ rfl))
  generalize (l1.foldl (goM l0.length) ⟨Zx l0,fun _ _=>0,0,[]⟩).out=ms at *;clear hinv hr0 hr1 hI hS eW hq aA;go_enter Tryz.func12,Tryz.ntmps12;go_wp2_with (first|(go_at_call 37;refine (PL.out).mono ?_;rintro e w1 ⟨rfl,hb1⟩)|(go_at_call 39;refine (MF.out w1).mono ?_;rintro e w2 ⟨rfl,h1,h2,hb2⟩)|(go_at_call 38;refine (CO.out w1 w2 hb1 hb2 h1 h2).mono ?_;rintro e w3 ⟨v,rfl,hM⟩));go_ret
  obtain ⟨A,c,xs,V,e,h3,h4,h5,h6,h7⟩:=hM;have hle:=nt_ hb1.size hb2.size;exact ⟨_,rfl,A,c,xs,V,e,h3,Zi h4 hle,⟨fun x hx=>Zi (h5.row x hx) hle,h5.out,h5.apart⟩,h6,(hb1.trans (hb2.mono hb1.size)).trans (h7.mono hle)⟩
 ·have eW:marks l0 l1=[]:=if_neg hq;rw [eW]
  have hq':(progOk l0 && decide (l1.length≤200))=false:=by simpa using hq
  rw [hq'] at PL;clear hinv hr0 hr1 hq hq' eW;go_enter Tryz.func12,Tryz.ntmps12;go_wp2_with (first|(go_at_call 37;refine (PL.out).mono ?_;rintro e w1 ⟨rfl,hb1⟩));go_ret
  exact ⟨_,rfl,none,0,[],fun _=>True,rfl,rfl,own_nil _ _ _ _,⟨fun x hx=>(by cases hx),fun x hx=>(by cases hx),List.Pairwise.nil⟩,fun k hk=>trivial,hb1⟩
theorem flat_cut:∀ (xs:List El) (j:Nat) (x:El),xs[j]?=some x→((xs.flatMap Uk).drop (j * 5)).take 5=Uk x
 |[],j,x,h=>by simp at h
 |a :: r,0,x,h=>by
  obtain rfl:a=x:=by simpa using h
  rfl
 |a :: r,j+1,x,h=>by
  have h1:=flat_cut r j x (by simpa using h);rw [List.flatMap_cons,Nat.succ_mul,Nat.add_comm,← List.drop_drop];exact h1
theorem flat_len:∀ xs:List El,(xs.flatMap Uk).length=xs.length * 5
 |[]=>rfl
 |a :: r=>by
  rw [List.flatMap_cons,List.length_append,flat_len r,List.length_cons,Nat.succ_mul,Nat.add_comm];rfl
def whose (xs:List El) (k:Nat):Nat:=xs.findIdx (fun x=>decide ((El.v x).ownBlock=some k))
theorem whose_is {xs:List El} (h:xs.Pairwise (fun x y=>∀ k,(El.v x).ownBlock=some k→(El.v y).ownBlock≠some k)) {j:Nat} {x:El} (hx:xs[j]?=some x) {k:Nat} (hk:(El.v x).ownBlock=some k):whose xs k=j:=by
 obtain ⟨hj,rfl⟩:=List.getElem?_eq_some_iff.1 hx;unfold whose;rw [List.findIdx_eq hj];refine ⟨dt_ hk,fun i hi=>df_ (fun e=>?_)⟩;exact List.pairwise_iff_getElem.1 h i j om_ hj hi k e hk
theorem MarksAt.S {base:Nat} {w w':World} {ms:List Mk} {v:Value} (h:MarksAt base w ms v w'):Kd.S k45 45 w' base (fun _=>True) v ms:=by
 obtain ⟨A,c,xs,V,rfl,rfl,h2,h3,h4,_⟩:=h;refine ⟨whose xs,fun _ _=>trivial,xs.flatMap Uk,by rw [List.length_zipIdx,List.length_map];exact h2,?_,fun j p hj=>?_⟩
 ·rw [flat_len,List.length_zipIdx,List.length_map];rfl
 ·rw [List.getElem?_zipIdx,Nat.zero_add,List.getElem?_map] at hj;obtain ⟨y,hy,rfl⟩:=Option.map_eq_some_iff.1 hj;obtain ⟨x,hx,rfl⟩:=Option.map_eq_some_iff.1 hy;have hm:=List.mem_of_getElem? hx;show (k45).M _ _ _ x.1 ((List.drop (j * 5) _).take 5)
  rw [flat_cut xs j x hx];exact k45_mkM _ _ _ _ (Kd.R_of_own (h3.row x hm) (fun k hk=>⟨⟨trivial,fun e=>h3.out x hm k hk (h4 k e.symm)⟩,whose_is h3.apart hx hk⟩))
end Go.Proofs.YtlhogkfmdnpmkaaGreat.Mean
namespace Go.Proofs.YtlhogkfmdnpmkaaGreat.GMarks
open RowKit YtlhogkfmdnpmkaaGreatW.PrintWords YtlhogkfmdnpmkaaGreatW.PrintLast YtlhogkfmdnpmkaaGreatW.PrintMore
attribute [local go_sem] Ua Ud Uu Ux Zo Zp Ub Ue
def impl_MarksOf.f (l0:List (List (S87))) (l1:List Int):Option (List (S45)):=if l0.all (fun x=>decide (Xo.cnt 3 x<9223372036854775808))=true then some (Mean.marks l0 l1) else none
theorem impl_MarksOf.calls (A0:Option Addr) (c0:Nat) (l0:List (List (S87))) (A1:Option Addr) (c1:Nat) (l1:List Int) (r:List (S45)) (w:World) (hr0:Kd.C (Kd.slice 87 k87) w A0 l0.length l0) (hc0:l0.length≤c0) (hr1:Kd.C (Kd.int .i64) w A1 l1.length l1) (hc1:l1.length≤c1) (h:impl_MarksOf.f l0 l1=some r) :
  Calls Tryz.prog 12 #[.slice A0 l0.length c0,.slice A1 l1.length c1] w fun e w'=>∃ aH:Value,e=.returned (aH)∧Kd.S k45 45 w' w.heap.size (fun _=>True) aH r∧Below w.heap.size w w':=by
 unfold impl_MarksOf.f at h;by_cases hc:l0.all (fun x=>decide (Xo.cnt 3 x<9223372036854775808))=true
 ·rw [if_pos hc] at h;obtain rfl:=sj_ h;refine (@Mean.marksOf_do ⟨fun _=>none⟩ A0 c0 l0 A1 c1 l1 w hr0 hc0 hr1 hc1 (fun hq=>Mean.openS_inv hq (fun x hx=>od_ (List.all_eq_true.1 hc x hx))) (fun _=>rfl)).mono (fun e w' hx=>?_);obtain ⟨v,he,hM⟩:=hx;refine ⟨v,he,@Mean.MarksAt.S ⟨fun _=>none⟩ _ _ _ _ _ hM,?_⟩;obtain ⟨_,_,_,_,_,_,_,_,_,hb⟩:=hM;exact hb
 ·rw [if_neg hc] at h;cases h
end Go.Proofs.YtlhogkfmdnpmkaaGreat.GMarks
namespace Go.Proofs.YtlhogkfmdnpmkaaGreat.GMarks
open RowKit YtlhogkfmdnpmkaaGreatW.PrintWords YtlhogkfmdnpmkaaGreatW.PrintLast YtlhogkfmdnpmkaaGreatW.PrintMore
attribute [local go_sem] Ua Ud Uu Ux Zo Zp Ub Ue
def Ui.f (a0:Int):Option (Bool):=if a0 ≥ (-999) then (some (decide (a0≤999))) else (some false)
theorem Ui.calls (a0:Int) (r:Bool) (w:World) (h:Ui.f a0=some r) :
  Calls Tryz.prog 92 #[.int .i64 a0] w fun e w'=>e=.returned (.bool r)∧Xz w w':=by
 have H:(if a0 ≥ (-999) then (some (decide (a0≤999))) else (some false))=some r:=h;clear h;by_cases c2:a0 ≥ (-999)
 ·rw [if_pos c2] at H;have aD:decide ((-999)≤a0)=true:=dt_ c2;clear c2;obtain rfl:=sj_ H;go_enter Tryz.func92,Tryz.ntmps92;go_wp2;go_ret
  exact ⟨by first|rfl|(simp;done)|(simp [*];done),by repeat (first|exact Xz.refl _|apply Xz.step)⟩
 ·rw [if_neg c2] at H;have aD:decide ((-999)≤a0)=false:=df_ c2;clear c2;obtain rfl:=sj_ H;go_enter Tryz.func92,Tryz.ntmps92;go_wp2;go_ret
  exact ⟨by first|rfl|(simp;done)|(simp [*];done),by repeat (first|exact Xz.refl _|apply Xz.step)⟩
end Go.Proofs.YtlhogkfmdnpmkaaGreat.GMarks
