import Derived.Test.YtlhogkfmdnpmkaaCFnWholeOrder84
import Derived.Test.YtlhogkfmdnpmkaaCFnWholeOrder87
import Derived.Test.YtlhogkfmdnpmkaaCFnWholeOrder88
set_option linter.unusedVariables false
set_option linter.unusedSimpArgs false
set_option maxRecDepth 100000
namespace Go.Proofs.Ytlhogkfmdnpmkaa.Draws
open RowKit GWhole YtlhogkfmdnpmkaaW.PrintWords YtlhogkfmdnpmkaaW.PrintLast YtlhogkfmdnpmkaaW.PrintMore Tame
abbrev IsR:=Xp
structure DR (w0 w W:World) (g:Nat) (b:List Int) (p:Int):Prop where
 is:IsR w0 W g b p
 below:Below w0.heap.size w0 W
 keep:Xj w W g none
 lt:g<w.heap.size
 base:w0.heap.size≤w.heap.size
section
variable {w0 w W W1:World} {g:Nat} {b:List Int} {p q:Int}
theorem DR.start (hI:IsR w0 w g b p) (hB:Below w0.heap.size w0 w):DR w0 w w g b p:=⟨hI,hB,Xj.refl _ _ _,hI.lt,hB.size⟩
theorem DR.size (h:DR w0 w W g b p):w.heap.size≤W.heap.size:=h.keep.1
theorem DR.call (h:DR w0 w W g b p) (hI:IsR w0 W1 g b q) (hB:Below w0.heap.size w0 W1) (hK:Xj W W1 g none):DR w0 w W1 g b q:=⟨hI,hB,h.keep.trans hK (.inl rfl),h.lt,h.base⟩
theorem DR.grown (h:DR w0 w W g b p) {row:Option Nat} (hg:W.grownBy W1 row) (hr:row=none∨∃ k,row=some k∧w.heap.size≤k):DR w0 w W1 g b p:=by
 have hs:=h.size;have hl:=h.lt;have hb:=h.base;refine ⟨h.is.grown hg ?_,Below.grown h.below hg (nt_ h.base h.size) (fun k hk=>?_),h.keep.trans (Xj.Ui hg g) ?_,h.lt,h.base⟩
 ·rcases hr with rfl|⟨k,rfl,hk⟩
  ·simp
  ·intro e;injection e with e;omega
 ·rcases hr with rfl|⟨k',rfl,hk'⟩
  ·cases hk
  ·injection hk with hk;omega
 ·rcases hr with rfl|⟨k,rfl,hk⟩
  ·exact .inl rfl
  ·exact .inr ⟨k,rfl,hk⟩
theorem DR.next (h:DR w0 w W g b p) (hb:Below W.heap.size W W1):DR w0 w W1 g b p:=h.grown (grown_of_below hb none) (.inl rfl)
theorem DR.set (h:DR w0 w W g b p) {k:Nat} (hk:w.heap.size≤k) (i:Nat) (v:Value):DR w0 w (W.setCell ⟨k,i,none⟩ v) g b p:=by
 have:=h.lt
 exact ⟨h.is.far (by show g≠k;omega) v,Below.setCell h.below (nt_ h.base hk) v,keep_far h.keep hk v,h.lt,h.base⟩
theorem DR.row {α:Type} {d:Kd α} {e:Nat} {v:Value} {xs:List α} (h:DR w0 w W g b p) (hr:d.R e W w.heap.size (fun _=>True) v xs):v.ownBlock=none∨∃ k,v.ownBlock=some k∧w.heap.size≤k:=Kd.R_base2 hr
theorem DR.far (h:DR w0 w W g b p):∀ k,w.heap.size≤k→k≠g:=fun k hk=>by have:=h.lt;omega
theorem DR.ints (h:DR w0 w W g b p) {v:Value} {xs:List Int} (hr:(Kd.int .i64).R 3 W w.heap.size (fun _=>True) v xs) (hK:Xj W W1 g none):(Kd.int .i64).R 3 W1 w.heap.size (fun _=>True) v xs:=
 Kd.Yj (Kd.R_step (Kd.Yj (Kd.R_bound hr) (fun k hk=>(show w.heap.size≤k from hk.2.1))) (fun k hk hlt=>hK.2 k hlt (h.far k hk) sm_)) (fun _ _=>trivial)
end
theorem ints_lit (W:World):(Kd.int .i64).R 3 (W.alloc (.cells #[] 3)) W.heap.size (fun _=>True) (.slice (some ⟨W.heap.size,0,none⟩) 0 0) []:=
 ⟨fun _ _=>trivial,[],⟨rfl,.inr ⟨W.heap.size,0,#[],rfl,nr_ _,heap_alloc_new W _,nr_ _,de_,rfl,rfl⟩⟩,Ze.none _ _⟩
def ownF (k:Nat) (b:List Int):Nat→List Int→Int→Option (List Int × Int)
 |0,acc,p=>some (acc,p)
 |n+1,acc,p=>(Xg.f k b p 2).bind fun t=>ownF k b n (acc ++ [t.1]) t.2
def tameAll (ow:List Int) (v:Int) (P:List (List T)):List (List T):=if v > 0 then P.map (fun l=>tame ow 3 l (-1)) else P
def some2 (k:Nat) (b:List Int) (ps:List (List T)) (u p:Int):Option (List (List T) × Int):=
 if u=0 then (Xk.f k b p [-1,2]).bind fun v=>some (ps,v.2)
 else if u=2 then (if 0<ps.length then (Zi.f k b p (ps.getD 0 [])).bind fun x=>(Zi.f k b x.2 x.1).bind fun y=>(Zi.f k b y.2 y.1).bind fun z=>some (ps.set 0 z.1,z.2) else none)
 else some (ps,p)
def someF (k:Nat) (b:List Int) (p:Int):Option (List (List T) × Int):=
 (ownF k b 5 [] p).bind fun o=>(Zu.f k b o.2).bind fun P=>(Xg.f k b P.2 8).bind fun t=>
  if (P.1.all (fun l=>fitT 5 3 l) && decide (P.1.length≤1000))=true then (Xg.f k b t.2 40).bind fun u=>some2 k b (tameAll o.1 t.1 P.1) u.1 u.2 else none
theorem ownF_len {k:Nat} {b:List Int}:∀ (n:Nat) (acc:List Int) (p:Int) (r:List Int × Int),ownF k b n acc p=some r→r.1.length=acc.length+n
 |0,acc,p,r,h=>by
  unfold ownF at h;obtain rfl:=sj_ h;rfl
 |n+1,acc,p,r,h=>by
  unfold ownF at h;obtain ⟨t,_,h2⟩:=bo_ h
  have:=ownF_len n _ _ _ h2
  simp at this;omega
end Go.Proofs.Ytlhogkfmdnpmkaa.Draws
namespace Go.Proofs.Ytlhogkfmdnpmkaa.Draws
open RowKit GWhole YtlhogkfmdnpmkaaW.PrintWords YtlhogkfmdnpmkaaW.PrintLast YtlhogkfmdnpmkaaW.PrintMore Tame
abbrev KP:=Kd.slice 69 k69
structure SO (w0 w W:World) (g:Nat) (b:List Int) (p:Int) (vo vp:Value) (ow:List Int) (ps:List (List T)):Prop where
 dr:DR w0 w W g b p
 ow:(Kd.int .i64).R 3 W w.heap.size (fun _=>True) vo ow
 ps:Kd.N KP 50 W w.heap.size (fun k=>w.heap.size≤k∧some k≠vo.ownBlock) vp ps
section
variable {w0 w W W1:World} {g:Nat} {b:List Int} {p q:Int} {vo vp:Value} {ow:List Int} {ps:List (List T)}
theorem SO.call (h:SO w0 w W g b p vo vp ow ps) (hI:IsR w0 W1 g b q) (hB:Below w0.heap.size w0 W1) (hK:Xj W W1 g none):SO w0 w W1 g b q vo vp ow ps:=
 ⟨h.dr.call hI hB hK,h.dr.ints h.ow hK,Kd.N_keep h.ps hK (fun k hk=>h.dr.far k hk.1)⟩
theorem SO.next (h:SO w0 w W g b p vo vp ow ps) (hb:Below W.heap.size W W1):SO w0 w W1 g b p vo vp ow ps:=⟨h.dr.next hb,Kd.R_below h.ow hb,Kd.N_below h.ps hb⟩
theorem SO.blk (h:SO w0 w W g b p vo vp ow ps) (hp:0<ps.length):∃ pb c,vp=.slice (some ⟨pb,0,none⟩) ps.length c∧w.heap.size≤pb∧pb<W.heap.size∧some pb≠vo.ownBlock:=by
 obtain ⟨pb,c,e,h1,h2,_⟩:=Kd.N_form h.ps hp;exact ⟨pb,c,e,h1,h2,(h.ps.1 pb (by rw [e];rfl)).2⟩
theorem SO.elem {pb c:Nat} (h:SO w0 w W g b p vo (.slice (some ⟨pb,0,none⟩) ps.length c) ow ps) (i:Nat) (hi:i<ps.length):∃ A k,(W.cell? ⟨pb,i,none⟩=some (.slice A (ps[i]).length k)∧W.frozen? ⟨pb,i,none⟩=false)∧(ps[i]).length≤k∧Kd.F KT W (fun k=>(w.heap.size≤k∧some k≠vo.ownBlock)∧k≠pb) A (ps[i]).length (ps[i]):=by
 obtain ⟨cs,hl,hF,hc,hf⟩:=Kd.N_elem h.ps [] (i:Int) om_ om_
 have e:ps.getD ((i:Int)).toNat []=ps[i]:=by simp [List.getD_eq_getElem?_getD,hi]
 rw [e] at hF;obtain ⟨A,k,rfl,hk,hF⟩:=Kd.FK_slice_open hF;have h0:=hc 0 _ rfl;have f0:=hf 0;simp only [Kd.slice,Nat.mul_one,Nat.add_zero,Int.toNat_natCast] at h0 f0;exact ⟨A,k,⟨h0,f0⟩,hk,hF⟩
theorem SO.put {pb c:Nat} (h:SO w0 w W g b p vo (.slice (some ⟨pb,0,none⟩) ps.length c) ow ps) (i:Nat) (hi:i<ps.length) {A:Option Addr} {k:Nat} {l:List T} {okp:Nat→Prop} (hk:l.length≤k) (hF:Kd.F KT W okp A l.length l) (hok:∀ j,okp j→(w.heap.size≤j∧some j≠vo.ownBlock)∧j≠pb) :
  SO w0 w (W.setCell ⟨pb,i,none⟩ (.slice A l.length k)) g b p vo (.slice (some ⟨pb,0,none⟩) ps.length c) ow (ps.set i l):=by
 obtain ⟨cs,hl,hFK,hc,hf⟩:=Kd.N_elem h.ps [] (i:Int) om_ om_;have hpb:=h.ps.1 pb rfl;obtain ⟨_,_,hcs,_,_⟩:=Kd.FK_slice_open hFK;subst hcs
 have:=(Kd.N_seg h.ps (i:Int) om_ om_ (seg:=[.slice A l.length k]) (j:=0) rfl hc (nr_ _) (x':=l) (Kd.FK_slice_mk hk hF) hok).1
 simp only [Kd.slice,Nat.mul_one,Nat.add_zero,Int.toNat_natCast] at this;exact ⟨h.dr.set hpb.1 _ _,Kd.Yj (Kd.Zp (p:=⟨pb,i,none⟩) (Kd.Yj (Kd.R_tight rfl h.ow) (fun k hk=>(show k≠pb from fun e=>hpb.2 (e ▸ hk)))) (fun k hk=>hk) _) (fun _ _=>trivial),this⟩
theorem SO.owner (h:SO w0 w W g b p vo vp ow ps):∃ A c,vo=.slice A ow.length c∧ow.length≤c∧Kd.C (Kd.int .i64) W A ow.length ow:=by
 obtain ⟨A,c,rfl⟩:=Kd.Zd h.ow;exact ⟨A,c,rfl,(Kd.R_reads' h.ow).2⟩
end
theorem ints_new (W:World) (xs:List Int) (h:xs.length≤1000):Kd.C (Kd.int .i64) (W.alloc (.cells (xs.map (fun n=>Value.int .i64 n)).toArray 3)) (some ⟨W.heap.size,0,none⟩) xs.length xs:=
 ⟨rfl,om_,fun hp=>⟨_,rfl,fun j p hj=>⟨[.int .i64 p],rfl,rfl,fun i u hu=>by
  cases i with
  |zero=>
   injection hu with hu;subst hu;have hg:=heap_alloc_new W (.cells (xs.map (fun n=>Value.int .i64 n)).toArray 3)
   have:=Xh hg j
   simp only [Kd.int,Nat.mul_one,Nat.add_zero] at this ⊢
   have e:(⟨W.heap.size,0,none⟩:Addr).add (j * 1)=⟨W.heap.size,j,none⟩:=by rw [Nat.mul_one,add_at,Nat.zero_add]
   show World.cell? _ (Addr.add _ (j * 1))=_
   rw [e,this];simp [hj]
  |succ i=>cases hu⟩⟩⟩
theorem SO.own0 {w0 w W:World} {g:Nat} {b:List Int} {p:Int} {A:Option Addr} {n c:Nat} {vp:Value} {ow:List Int} {ps:List (List T)} (h:SO w0 w W g b p (.slice A n c) vp ow ps) (hl:ow.length=5):∃ ob,A=some ⟨ob,0,none⟩∧W.cell? ⟨ob,0,none⟩=some (.int .i64 (rd ow 0))∧W.frozen? ⟨ob,0,none⟩=false:=by
 obtain ⟨gq,cap,e,h1,h2,cs,h3⟩:=Kd.R_form h.ow om_;injection e with e1 e2 e3;subst e1;obtain ⟨ad,e,hx⟩:=Kd.at_int (Kd.R_reads' h.ow).2.2 0 om_ om_;injection e with e;subst e;exact ⟨gq,rfl,hx,Xc h3 0⟩
theorem SO.setO {w0 w W:World} {g:Nat} {b:List Int} {p:Int} {ob n c:Nat} {vp:Value} {ow:List Int} {ps:List (List T)} (h:SO w0 w W g b p (.slice (some ⟨ob,0,none⟩) n c) vp ow ps) (v:Int) :
  Kd.N KP 50 (W.setCell ⟨ob,0,none⟩ (.int .i64 v)) w.heap.size (fun k=>w.heap.size≤k∧some k≠(Value.slice (some ⟨ob,0,none⟩) n c).ownBlock) vp ps∧DR w0 w (W.setCell ⟨ob,0,none⟩ (.int .i64 v)) g b p:=
 ⟨Kd.N_far h.ps (fun k hk e=>hk.2 (by rw [e];rfl)) _,h.dr.set (Kd.Za h.ow ob rfl) _ _⟩
theorem SO.bent {w0 w W W1:World} {g pb:Nat} {b:List Int} {p:Int} {vo vp v:Value} {ow:List Int} {ps:List (List T)} {l:List T} {PX:Nat→Prop} (h:SO w0 w W g b p vo vp ow ps) (hpb:pb<W.heap.size) {hPX':PX=fun i=>(w.heap.size≤i∧some i≠vo.ownBlock)∧i≠pb} (hN:Kd.N KT 69 W1 W.heap.size (fun i=>PX i∨W.heap.size≤i) v l) :
  Kd.V KT 69 W1 0 PX v l:=by
 subst hPX';refine Kd.Yx (Kd.N_V hN) (fun i hi=>hi.elim id (fun hi=>⟨⟨nt_ h.dr.size hi,fun e=>?_⟩,om_⟩))
 have:=Kd.R_lt h.ow i e.symm;omega
theorem fit_get {P:List (List T)} (h:(P.all (fun l=>fitT 5 3 l) && decide (P.length≤1000))=true):(∀ l ∈ P,fitT 5 3 l=true)∧P.length≤1000:=by
 rw [Bool.and_eq_true,List.all_eq_true,decide_eq_true_eq] at h;exact h
def tameTo (ow:List Int) (P:List (List T)) (j:Nat):List (List T):=(P.take j).map (fun l=>tame ow 3 l (-1)) ++ P.drop j
theorem tameTo_len (ow:List Int) (P:List (List T)) (j:Nat) (h:j≤P.length):(tameTo ow P j).length=P.length:=by unfold tameTo;simp;omega
theorem tameTo_get (ow:List Int) (P:List (List T)) (j:Nat) (h:j<P.length) (h':j<(tameTo ow P j).length):(tameTo ow P j)[j]=P[j]:=by
 have e:(tameTo ow P j)[j]?=some P[j]:=by
  unfold tameTo;rw [List.getElem?_append_right (by simp;omega)];simp [Nat.min_eq_left (Nat.le_of_lt h),h]
 exact sj_ ((List.getElem?_eq_getElem h').symm.trans e)
theorem tameTo_set (ow:List Int) (P:List (List T)) (j:Nat) (h:j<P.length):(tameTo ow P j).set j (tame ow 3 P[j] (-1))=tameTo ow P (j+1):=by
 unfold tameTo
 have hl:((P.take j).map (fun l=>tame ow 3 l (-1))).length=j:=by simp;omega
 rw [List.set_append_right _ _ om_,hl,Nat.sub_self,List.take_succ_eq_append_getElem h,List.map_append,List.drop_eq_getElem_cons h,List.append_assoc];rfl
theorem tameTo_end (ow:List Int) (P:List (List T)) (v:Int) (h:v > 0):tameTo ow P P.length=tameAll ow v P:=by
 unfold tameTo tameAll;rw [if_pos h];simp
def SomeR (w0 w:World) (g:Nat) (b:List Int) (ps:List (List T)) (q:Int):Ending→World→Prop:=fun e w'=>∃ v0 v1:Value,e=.returned (.tuple #[v0,v1])∧Kd.N KP 50 w' w.heap.size (fun k=>w.heap.size≤k) v0 ps∧DR w0 w w' g b q
set_option maxHeartbeats 8000000 in
theorem some_do (k g:Nat) (b:List Int) (p:Int) (ps:List (List T)) (q:Int) (w0 w:World) (hI:IsR w0 w g b p) (hB:Below w0.heap.size w0 w) (h:someF k b p=some (ps,q)) :
  Calls Try.prog 32 #[.pointer (some ⟨g,0,none⟩)] w (SomeR w0 w g b ps q):=by
 unfold someF at h;obtain ⟨⟨ow,p1⟩,h1,h⟩:=bo_ h;obtain ⟨⟨P,p2⟩,h2,h⟩:=bo_ h;obtain ⟨⟨t,p3⟩,h3,h⟩:=bo_ h;simp only [] at h;by_cases hfit:(P.all (fun l=>fitT 5 3 l) && decide (P.length≤1000))=true
 ·rw [if_pos hfit] at h;obtain ⟨⟨u,p4⟩,h4,h⟩:=bo_ h;simp only [] at h1 h2 h3 h4 h
  have hol:ow.length=5:=by have:=ownF_len _ _ _ _ h1;simpa using this
  obtain ⟨hf1,hf2⟩:=fit_get hfit;have H1:=Xa.mk h1;have H2:=Xa.mk h2;have H3:=Xa.mk h3;have H4:=Xa.mk h4;have H5:=Xa.mk h;have HOL:=Xa.mk hol;have aK:=Xa.mk hf1;have aL:=Xa.mk hf2;have D0:=DR.start hI hB;have HL:=ints_lit w;have D1:=Xa.mk (D0.next (Xf (Below.refl _ _) (.cells #[] 3)));have HLA:=Xa.mk HL;clear h1 h2 h3 h4 h hol hf1 hf2 hI hB hfit D0 HL;go_enter Try.func32,Try.ntmps32;go_upto_region 2 with (fail);generalize w.alloc (.cells #[] 3)=w1 at *;go_wp2
  go_loopg [4,5] 5 (fun kq v4 v5 w'=>∃ (j:Nat) (acc:List Int) (q1:Int),v5=.int .i64 (j:Int)∧Xa (kq+j=5)∧Xa (acc.length=j)∧Xa (ownF k b kq acc q1=some (ow,p1))∧Xa ((Kd.int .i64).R 3 w' w.heap.size (fun _=>True) v4 acc)∧Xa (DR w0 w w' g b q1))
  case atStart=>exact ⟨0,[],p,rfl,⟨rfl⟩,⟨rfl⟩,H1,HLA,D1⟩
  case round=>
   clear HLA D1 H1;obtain ⟨j,acc,q1,rfl,HK,HAL,HOW,HO,HD⟩:=hrel
   cases gk with
   |succ k1=>
    have hj:j<5:=by have:=HK.out;omega
    have t1:decide ((j:Int)<5)=true:=dt_ om_;have t2:decide (j<5)=true:=dt_ hj
    have hwj:IntKind.i64.wrap ((j:Int)+1)=(j:Int)+1:=by rw [IntKind.wrap_i64];omega
    have hw2:wrap64 ((j:Int)+1)=(j:Int)+1:=by unfold wrap64;omega
    have ho:=HOW.out;unfold ownF at ho;obtain ⟨⟨v,q2⟩,ha,hr⟩:=bo_ ho;have HA:=Xa.mk ha;have HR:=Xa.mk hr;clear ho ha hr hj HOW
    go_wp2_with (first
     |(go_at_call 45;go_must (refine (Xg.calls k g b q1 2 v q2 w0 _ HD.out.is HD.out.below HA.out).mono ?_;rintro e w3 ⟨rfl,hI,hB,hK⟩;replace HO:=Xa.mk (HD.out.ints HO.out hK);replace HD:=Xa.mk (HD.out.call hI hB hK);clear hI hB hK))
     |((with_reducible refine Zl (b:=.append) (xs:=#[.tmp 13,.tmp 16]) rfl ?_);at_builtin;go_must (refine Kd.R_append (Kd.int .i64) (w0:=w3) w.heap.size rfl (.tmp 13) (.tmp 16) 23 3 (.int .i64 0) 8 rfl Try.underlying23 info3 rfl de_ om_ u4 acc v [.int .i64 v] (fun _=>True) (fun _=>False) rfl rfl rfl (fun _ hk=>hk.elim) (fun _ _=>trivial) HO.out (Below.refl _ _) HD.out.size (by have:=HAL.out;have:=HK.out;omega) ?_;intro v9 w9 ho hb hg hat;have n0:=Xa.mk (HD.out.grown hg (HD.out.row HO.out));have n1:=Xa.mk ho;clear HD HO ho hb hg hat;have HD:=n0;have HO:=n1;clear n0 n1)))
    go_roundg k1
    case measure=>omega
    case rel=>exact ⟨j+1,acc ++ [v],q2,(by first|rfl|(simp;done)),⟨by have:=HK.out;omega⟩,⟨by rw [List.length_append,HAL.out];rfl⟩,HR,HO,HD⟩
   |zero=>
    have hj:j=5:=by have:=HK.out;omega
    have ho:=HOW.out;unfold ownF at ho;have ho:=sj_ ho;obtain ⟨rfl,rfl⟩:acc=ow∧q1=p1:=Prod.mk.inj ho;subst hj
    have t1:decide ((5:Int)<5)=false:=de_
    clear ho HK HAL HOW;go_upto_region 7 with (first|(go_at_call 46;go_must (refine (Zu.calls k g b q1 P p2 w0 _ HD.out.is HD.out.below H2.out).mono ?_;rintro e w3 ⟨vp,rfl,hN,hI,hB,hK⟩;have n0:Xa (SO w0 w w3 g b p2 u4 vp acc P):=⟨⟨HD.out.call hI hB hK,HD.out.ints HO.out hK,Kd.Yh (Kd.N_lower hN HD.out.size) (fun k hk=>⟨nt_ HD.out.size hk,fun e=>by have:=Kd.R_lt HO.out k e.symm;omega⟩)⟩⟩;clear HD HO hN hI hB hK;have HS:=n0;clear n0)));obtain ⟨Ap,cp,ep⟩:=Kd.Zk HS.out.ps;subst ep;obtain ⟨Ao,co,eo,hoc,_⟩:=HS.out.owner;subst eo;clear hoc;go_upto_if 22 with (first|(go_at_call 45;go_must (refine (Xg.calls k g b _ 8 t p3 w0 _ HS.out.dr.is HS.out.dr.below H3.out).mono ?_;rintro e w5 ⟨rfl,hI,hB,hK⟩;replace HS:=Xa.mk (HS.out.call hI hB hK);clear hI hB hK)))
    go_cut [] (fun wc=>Xa (SO w0 w wc g b p3 (.slice Ao acc.length co) (.slice Ap P.length cp) acc (tameAll acc t P)))
    case first=>
     by_cases ht:t > 0
     ·have t1:decide (t > 0)=true:=dt_ ht;have t2:decide (0<t)=true:=dt_ ht;have HT:=Xa.mk ht;clear ht;rw [t2];go_wp2
      go_loopg [7] P.length (fun kq v7 w'=>∃ (j:Nat),v7=.int .i64 (j:Int)∧Xa (kq+j=P.length)∧Xa (SO w0 w w' g b p3 (.slice Ao acc.length co) (.slice Ap P.length cp) acc (tameTo acc P j)))
      case atStart=>exact ⟨0,rfl,⟨rfl⟩,⟨by have:=HS.out;unfold tameTo;simpa using this⟩⟩
      case round=>
       clear HS;obtain ⟨j,rfl,HK,HS⟩:=hrel
       cases gk with
       |zero=>
        have hj:j=P.length:=by have:=HK.out;omega
        subst hj;have HE:Xa (SO w0 w wr g b p3 (.slice Ao acc.length co) (.slice Ap P.length cp) acc (tameAll acc t P)):=⟨by rw [← tameTo_end acc P t HT.out];exact HS.out⟩;have t1:decide ((P.length:Int)<(P.length:Int))=false:=df_ (Int.lt_irrefl _);clear HS HK;go_wp2;go_meet
        case rel=>exact HE
       |succ k1=>
        have hj:j<P.length:=by have:=HK.out;omega
        have hj':j<(tameTo acc P j).length:=by rw [tameTo_len acc P j om_];exact hj
        have hpl:=aL.out;obtain ⟨pb,c',ev,h1,h2,h3⟩:=HS.out.blk om_;rw [tameTo_len acc P j om_] at ev;injection ev with aH aO aI;subst aH;obtain ⟨A,kc,⟨hx,hfz⟩,hk,hF⟩:=(show SO w0 w wr g b p3 (.slice Ao acc.length co) (.slice (some ⟨pb,0,none⟩) (tameTo acc P j).length cp) acc (tameTo acc P j) from by rw [tameTo_len acc P j om_];exact HS.out).elem j hj';rw [tameTo_get acc P j hj hj'] at hx hk hF;obtain ⟨l,hl⟩:∃ l,l=P[j]:=⟨_,rfl⟩;rw [← hl] at hx hk hF;obtain ⟨_,_,eo,hoc,hoC⟩:=HS.out.owner;injection eo with aR aS aT;subst aR aT;have HOC:=Xa.mk hoC;have HCC:=Xa.mk hoc;have HKK:=Xa.mk hk;have HFF:=Xa.mk hF;have HFIT:Xa (fitT acc.length 3 l=true):=⟨by rw [HOL.out,hl];exact aK.out _ (List.getElem_mem hj)⟩;have HNX:Xa ((tameTo acc P j).set j (tame acc 3 l (-1))=tameTo acc P (j+1)):=⟨by rw [hl];exact tameTo_set acc P j hj⟩;have HTL:Xa ((tameTo acc P j).length=P.length):=⟨tameTo_len acc P j om_⟩;obtain ⟨aC,aB⟩:∃ aC,aC=tameTo acc P j:=⟨_,rfl⟩;rw [← aB] at HNX HTL HS;have HLT:=Xa.mk h2;have HJ:=Xa.mk hj;have t1:decide ((j:Int)<(P.length:Int))=true:=dt_ om_;have t3:decide (j<P.length)=true:=dt_ hj;have p0:=eq_true (show 0≤(j:Int) by omega);have q0:=eq_true (show (j:Int)<(P.length:Int) by omega)
        have hw2:wrap64 ((j:Int)+1)=(j:Int)+1:=by unfold wrap64;omega
        clear hl aB hj' hk hF hoc hoC h1 h2 h3 aS aO aI hpl hj;go_upto_region 10 with (first|(go_at_call 47;go_must (refine (tame_do 3 A kc l Ao co acc (-1) wr (Kd.F_now HFF.out) HKK.out HOC.out HCC.out (by have:=HOL.out;omega) HFIT.out om_).mono ?_;rintro e w6 ⟨v6,rfl,ho,hb⟩;obtain ⟨B6,k6,aU⟩:=Kd.Zd ho;subst aU;have aD:=Xa.mk ho;have aP:=Xa.mk hb;have aF:Xa (SO w0 w w6 g b p3 (.slice Ao acc.length co) (.slice (some ⟨pb,0,none⟩) aC.length cp) acc aC):=⟨by rw [HTL.out];exact HS.out.next hb⟩;obtain ⟨A6',k6',⟨hx6,aJ⟩,_,_⟩:=aF.out.elem j (by rw [HTL.out];exact HJ.out);clear ho hb hx hfz)))
        have aQ:Xa (SO w0 w (w6.setCell ⟨pb,j,none⟩ (.slice B6 (tame acc 3 l (-1)).length k6)) g b p3 (.slice Ao acc.length co) (.slice (some ⟨pb,0,none⟩) P.length cp) acc (tameTo acc P (j+1))):=⟨by
         have aV:=(Kd.R_reads' aD.out).2.1
         have:=aF.out.put j (by rw [HTL.out];exact HJ.out) aV (Kd.N_F (Kd.R_N (Kd.Yj (Kd.R_bound aD.out) (fun k hk=>(show wr.heap.size≤k from hk.2.1))))) (fun i hi=>⟨⟨nt_ HS.out.dr.size hi,fun e=>by have:=Kd.R_lt HS.out.ow i e.symm;omega⟩,by have:=HLT.out;omega⟩)
         rw [HTL.out,HNX.out] at this;exact this⟩
        clear HS aF aD aP hx6 aJ HFF;generalize w6.setCell ⟨pb,j,none⟩ (.slice B6 (tame acc 3 l (-1)).length k6)=w7 at *;go_wp2;go_roundg k1
        case measure=>omega
        case rel=>exact ⟨j+1,(by first|rfl|(simp;exact hw2)),⟨by have:=HK.out;omega⟩,aQ⟩
     ·have t1:decide (t > 0)=false:=df_ ht;have t2:decide (0<t)=false:=df_ ht;have ha:tameAll acc t P=P:=if_neg ht;clear ht;rw [t2];go_wp2;go_meet
      case rel=>rw [ha];exact HS
    case rest=>
     obtain ⟨Q,hQ⟩:∃ Q,Q=tameAll acc t P:=⟨_,rfl⟩
     have hql:P.length=Q.length:=by rw [hQ];unfold tameAll;split <;> simp
     rw [← hQ] at hcut H5;rw [hql] at hcut ⊢;have HS:=hcut;clear hcut hQ hql H2 H3 aK aL;go_upto_region 13 with (first|(go_at_call 45;go_must (refine (Xg.calls k g b _ 40 u p4 w0 _ HS.out.dr.is HS.out.dr.below H4.out).mono ?_;rintro e w5 ⟨rfl,hI,hB,hK⟩;replace HS:=Xa.mk (HS.out.call hI hB hK);clear hI hB hK)));have h5:=H5.out;unfold some2 at h5;by_cases u0:u=0
     ·rw [if_pos u0] at h5;obtain ⟨⟨v,q'⟩,hn,he⟩:=bo_ h5;obtain ⟨rfl,rfl⟩:Q=ps∧q'=q:=Prod.mk.inj (sj_ he);have HN:=Xa.mk hn;have e0:(u == 0)=true:=eb_ u0;subst u0;clear h5 hn he H5 H4;have b1:=eq_true (show (0:Int)<(acc.length:Int) by have:=HOL.out;omega);have b2:=eq_true (show 0<acc.length by have:=HOL.out;omega);go_upto_region 19 with (first|(go_at_call 48;go_must (refine (Xk.calls k g b p4 _ _ [-1,2] v q' w0 _ (HS.out.next (Xf (Below.refl _ _) _)).dr.is (HS.out.next (Xf (Below.refl _ _) _)).dr.below (ints_new _ [-1,2] de_) de_ (fun ad e _=>by have:=HS.out.dr.is.lt;injection e with e;subst e;have h2:w5.heap.size≠g:=om_;exact h2) HN.out).mono ?_;rintro e w6 ⟨rfl,hI,hB,hK⟩;replace HS:=Xa.mk ((HS.out.next (Xf (Below.refl _ _) _)).call hI hB hK);clear hI hB hK;obtain ⟨ob,hob,hx,hfz⟩:=HS.out.own0 HOL.out;cases hob)));have HS2:=Xa.mk (HS.out.setO v);clear HS hx hfz;go_wp2;refine bodyPost_ret (results_tmp2 rfl _ _ _) rfl ?_;exact ⟨_,_,rfl,Kd.Yh HS2.out.1 (fun k hk=>hk.1),HS2.out.2⟩
     ·rw [if_neg u0] at h5;have e0:(u == 0)=false:=nb_ u0;by_cases u2:u=2
      ·rw [if_pos u2] at h5;have e1:(u == 1)=false:=nb_ om_;have e2:(u == 2)=true:=eb_ u2;by_cases hp:0<Q.length
       ·rw [if_pos hp] at h5;obtain ⟨⟨l1,q1'⟩,hb1,h5⟩:=bo_ h5;obtain ⟨⟨l2,q2'⟩,hb2,h5⟩:=bo_ h5;obtain ⟨⟨l3,q3'⟩,hb3,he⟩:=bo_ h5;obtain ⟨rfl,rfl⟩:Q.set 0 l3=ps∧q3'=q:=Prod.mk.inj (sj_ he);have HB1:=Xa.mk hb1;have HB2:=Xa.mk hb2;have HB3:=Xa.mk hb3;have HP:=Xa.mk hp;clear h5 hb1 hb2 hb3 he u0 u2 H5 H4;obtain ⟨pb,c',ev,hp1,hp2,hp3⟩:=HS.out.blk HP.out;injection ev with aH aO aI;subst aH aI;obtain ⟨A,kc,⟨hx,hfz⟩,hk,hF⟩:=HS.out.elem 0 HP.out;obtain ⟨l,hl⟩:∃ l,l=Q[0]'HP.out:=⟨_,rfl⟩
        have hgd:Q.getD 0 []=l:=by rw [hl];simp [List.getD_eq_getElem?_getD,HP.out]
        rw [← hl] at hx hk hF;rw [hgd] at HB1;obtain ⟨PX,hPX⟩:∃ PX:Nat→Prop,PX=fun i=>(w.heap.size≤i∧some i≠(Value.slice Ao acc.length co).ownBlock)∧i≠pb:=⟨_,rfl⟩;have HV:Xa (Kd.V KT 69 w5 0 PX (.slice A l.length kc) l):=⟨hPX ▸ Kd.V_mk hk hF⟩;have HPE:=Xa.mk hPX;have HPX:Xa (∀ i,PX i→i≠g):=⟨fun i hi=>by rw [hPX] at hi;exact HS.out.dr.far i hi.1.1⟩;have HPL:=Xa.mk hp2;have p1:=eq_true HP.out;have p2':=eq_true (show (0:Int)<(Q.length:Int) by have:=HP.out;omega);clear hPX hk hF hl hgd hp1 hp2 hp3;go_upto_region 19 with (first|(go_at_call 49;refine (Zi.calls k g b _ PX _ _ l l1 _ w0 _ HS.out.dr.is HS.out.dr.below (Kd.Yx HV.out (fun i hi=>⟨hi,HPX.out i hi⟩)) HB1.out).mono ?_;rintro e w6 ⟨yw6,rfl,hN,hI,hB,hK⟩;obtain ⟨Aw6,cw6,ey⟩:=Kd.Zk hN;subst ey;have n0:=Xa.mk (HS.out.call hI hB hK);have n1:=Xa.mk (HS.out.bent HPL.out (hPX':=HPE.out) hN);have n2:Xa (pb<w6.heap.size):=⟨nl_ HPL.out hK.1⟩;clear HS HV HPL hN hI hB hK;have HS:=n0;have aM:=n1;have HPL:=n2;clear n0 n1 n2)|(go_at_call 49;refine (Zi.calls k g b _ PX _ _ l1 l2 _ w0 _ HS.out.dr.is HS.out.dr.below (Kd.Yx aM.out (fun i hi=>⟨hi,HPX.out i hi⟩)) HB2.out).mono ?_;rintro e w7 ⟨yw7,rfl,hN,hI,hB,hK⟩;obtain ⟨Aw7,cw7,ey⟩:=Kd.Zk hN;subst ey;have n0:=Xa.mk (HS.out.call hI hB hK);have n1:=Xa.mk (HS.out.bent HPL.out (hPX':=HPE.out) hN);have n2:Xa (pb<w7.heap.size):=⟨nl_ HPL.out hK.1⟩;clear HS aM HPL hN hI hB hK;have HS:=n0;have aN:=n1;have HPL:=n2;clear n0 n1 n2)|(go_at_call 49;refine (Zi.calls k g b _ PX _ _ l2 l3 _ w0 _ HS.out.dr.is HS.out.dr.below (Kd.Yx aN.out (fun i hi=>⟨hi,HPX.out i hi⟩)) HB3.out).mono ?_;rintro e w8 ⟨yw8,rfl,hN,hI,hB,hK⟩;obtain ⟨Aw8,cw8,ey⟩:=Kd.Zk hN;subst ey;have n0:=Xa.mk (HS.out.call hI hB hK);have n1:=Xa.mk (HS.out.bent HPL.out (hPX':=HPE.out) hN);have n2:Xa (pb<w8.heap.size):=⟨nl_ HPL.out hK.1⟩;clear HS aN HPL hN hI hB hK;have HS:=n0;have aG:=n1;have HPL:=n2;obtain ⟨A',k',⟨hx',hfz'⟩,_,_⟩:=HS.out.elem 0 HP.out;clear n0 n1 n2));have hk3:=(Kd.V_at aG.out).2.1;have aA:=Xa.mk (HS.out.put 0 HP.out hk3 (Kd.V_F aG.out) (fun i hi=>by rw [HPE.out] at hi;exact hi));clear hx HS aG hx' hfz';go_wp2;refine bodyPost_ret (results_tmp2 rfl _ _ _) rfl ?_;exact ⟨_,_,rfl,Kd.Yh aA.out.ps (fun k hk=>hk.1),aA.out.dr⟩
       ·rw [if_neg hp] at h5;cases h5
      ·rw [if_neg u2] at h5;have e2:(u == 2)=false:=nb_ u2;obtain ⟨rfl,rfl⟩:Q=ps∧p4=q:=Prod.mk.inj (sj_ h5);by_cases u1:u=1
       ·have e1:(u == 1)=true:=eb_ u1;clear h5 u0 u2 u1 H5 H4;rw [HOL.out] at HS ⊢
        have hco:5≤co:=by
         obtain ⟨_,_,e,h,_⟩:=HS.out.owner;injection e with _ _ e;rw [HOL.out] at h;omega
        go_wp2
        repeat (go_quiet (fail);try go_wp2)
        refine bodyPost_ret (results_tmp2 rfl _ _ _) rfl ?_;have aA:=HS.out.next (Xi (Below.refl _ _) nq);exact ⟨_,_,rfl,Kd.Yh aA.ps (fun k hk=>hk.1),aA.dr⟩
       ·have e1:(u == 1)=false:=nb_ u1;clear h5 u0 u2 u1 H5 H4;go_wp2;refine bodyPost_ret (results_tmp2 rfl _ _ _) rfl ?_;exact ⟨_,_,rfl,Kd.Yh HS.out.ps (fun k hk=>hk.1),HS.out.dr⟩
 ·rw [if_neg hfit] at h;cases h
end Go.Proofs.Ytlhogkfmdnpmkaa.Draws
