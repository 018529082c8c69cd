import Derived.Test.YtlhogkfmdnpmkaaGreatCFnExactMarksOf105
set_option linter.unusedVariables false
set_option linter.unusedSimpArgs false
set_option maxHeartbeats 8000000
set_option maxRecDepth 100000
namespace Go.Proofs.YtlhogkfmdnpmkaaGreat.GMarks
open RowKit YtlhogkfmdnpmkaaGreatW.PrintWords YtlhogkfmdnpmkaaGreatW.PrintLast YtlhogkfmdnpmkaaGreatW.PrintMore
attribute [local go_sem] Ua Ud Uu Ux Zo Zp Ub Ue
def spec_MarksOf.f (l0:List (List (S87))) (l1:List Int):Option (List (S45)):=if Mean.tameB l0=true then some (Mean.marks l0 l1) else none
theorem spec_MarksOf.calls (A0:Option Addr) (c0:Nat) (l0:List (List (S87))) (A1:Option Addr) (c1:Nat) (l1:List Int) (r:List (S45)) (w:World) (hr0:Kd.C (Kd.slice 87 k87) w A0 l0.length l0) (hc0:l0.length≤c0) (hr1:Kd.C (Kd.int .i64) w A1 l1.length l1) (hc1:l1.length≤c1) (h:spec_MarksOf.f l0 l1=some r) :
  Calls Tryz.prog 9 #[.slice A0 l0.length c0,.slice A1 l1.length c1] w fun e w'=>∃ aS:Value,e=.returned (aS)∧Kd.S k45 45 w' w.heap.size (fun _=>True) aS r∧Below w.heap.size w w':=by
 unfold spec_MarksOf.f at h;by_cases hc:Mean.tameB l0=true
 ·rw [if_pos hc] at h;obtain rfl:=sj_ h;obtain ⟨h1,h2,h3⟩:=Mean.tame_of hc;refine (@Mean.rmarks_do ⟨fun k=>w.heap[k]?⟩ A0 c0 l0 A1 c1 l1 w hr0 hc0 hr1 hc1 h1 h2 (fun hq=>Mean.openS_inv hq h3) (fun _ _ h=>h) (fun _ _ h=>h)).mono (fun e w' hx=>?_);obtain ⟨v,he,hM⟩:=hx;refine ⟨v,he,@Mean.MarksAt.S ⟨fun _=>none⟩ _ _ _ _ _ hM,?_⟩;obtain ⟨_,_,_,_,_,_,_,_,_,hb⟩:=hM;exact hb
 ·rw [if_neg hc] at h;cases h
end Go.Proofs.YtlhogkfmdnpmkaaGreat.GMarks
namespace Go.Proofs.YtlhogkfmdnpmkaaGreat.Pure
open RowKit GMarks YtlhogkfmdnpmkaaGreatW.PrintWords YtlhogkfmdnpmkaaGreatW.PrintLast YtlhogkfmdnpmkaaGreatW.PrintMore
local instance prot3:Mean.Prot:=⟨fun _=>none⟩
theorem marks_three (m:List (List (S87))) (l:List Int) (ht:Mean.tameB m=true):∀ x ∈ Mean.marks m l,x.f4.length≤3:=by
 have h3:Mean.progOk m=true→m.length≤3:=fun hq=>by
  have h:=(Mean.openS_inv hq (Mean.tame_of ht).2.2).1.n;rw [Mean.openS_n] at h;exact h.2
 obtain ⟨c,a,s,hM,_⟩:=Mean.marks_mi (picks:=l) h3;intro x hx;have h1:=(hM.one x hx).len;by_cases hq:Mean.progOk m=true
 ·have:=h3 hq;omega
 ·have:Mean.marks m l=[]:=if_neg (fun h=>hq ((Bool.and_eq_true _ _ ▸ h).1))
  have hx':x ∈ Mean.marks m l:=hx;rw [this] at hx';cases hx'
theorem marks_both {p:List (List (S87))} {q:List Int} {m g:List (S45)} (h1:spec_MarksOf.f p q=some m) (h2:impl_MarksOf.f p q=some g):m=g∧m.length≤1000∧∀ x ∈ m,x.f4.length≤3:=by
 unfold spec_MarksOf.f at h1;unfold impl_MarksOf.f at h2;by_cases ht:Mean.tameB p=true
 ·rw [if_pos ht] at h1;have hi:=List.all_eq_true.2 (fun x hx=>dt_ ((Mean.tame_of ht).2.2 x hx));rw [if_pos hi] at h2;obtain rfl:=sj_ h1;obtain rfl:=sj_ h2;exact ⟨rfl,by have:=Mean.marks_len p q;omega,marks_three p q ht⟩
 ·rw [if_neg ht] at h1;cases h1
end Go.Proofs.YtlhogkfmdnpmkaaGreat.Pure
namespace Go.Proofs.YtlhogkfmdnpmkaaGreat.Mark
open RowKit GMarks YtlhogkfmdnpmkaaGreatW.PrintWords YtlhogkfmdnpmkaaGreatW.PrintLast YtlhogkfmdnpmkaaGreatW.PrintMore
abbrev T:=S87
abbrev KT:=k87
mutual
def totT:T→Nat
 |⟨_,_,_,_,a,b⟩=>1+tot a+tot b
def tot:List T→Nat
 |[]=>0
 |x :: r=>totT x+tot r
end
theorem totT_is (x:T):totT x=1+tot x.f4+tot x.f5:=by obtain ⟨a,b,c,d,e,f⟩:=x;simp only [totT]
theorem tot_append (a b:List T):tot (a ++ b)=tot a+tot b:=by
 induction a with
 |nil=>simp [tot]
 |cons x r ih=>simp only [List.cons_append,tot,ih];omega
theorem tot_take {l:List T} {i:Nat} (h:i<l.length):tot (l.take (i+1))=tot (l.take i)+totT l[i]:=by
 rw [List.take_succ_eq_append_getElem h,tot_append];simp [tot]
theorem tot_le (l:List T) (i:Nat):tot (l.take i)≤tot l:=by
 have:=tot_append (l.take i) (l.drop i)
 rw [List.take_append_drop] at this;omega
theorem tot_len (l:List T):l.length≤tot l:=by
 induction l with
 |nil=>simp
 |cons x r ih=>simp only [List.length_cons,tot];have:=totT_is x;omega
structure IC (P:Nat→Prop) (w W:World):Prop where
 os:W.os=w.os
 tape:W.tape=w.tape
 output:W.output=w.output
 size:W.heap.size=w.heap.size
 far:∀ k,¬ P k→W.heap[k]?=w.heap[k]?
 cell:∀ (k:Nat) (cs:Array Value),w.heap[k]?=some (.cells cs 87 (0,0))→∃ cs',W.heap[k]?=some (.cells cs' 87 (0,0))∧cs'.size=cs.size∧∀ j,4≤j % 6→cs'[j]?=cs[j]?
 other:∀ (k:Nat) (cs:Array Value) (t:TypeId) (fr:Nat × Nat),t≠87→w.heap[k]?=some (.cells cs t fr)→W.heap[k]?=w.heap[k]?
theorem IC.refl (P:Nat→Prop) (w:World):IC P w w:=⟨rfl,rfl,rfl,rfl,fun _ _=>rfl,fun _ cs h=>⟨cs,h,rfl,fun _ _=>rfl⟩,fun _ _ _ _ _ _=>rfl⟩
theorem IC.store {P:Nat→Prop} {w W:World} (h:IC P w W) {g:Nat} {cs:Array Value} (hg:w.heap[g]?=some (.cells cs 87 (0,0))) (hP:P g) (j:Nat) (hj:j % 6<4) (v:Value):IC P w (W.setCell ⟨g,j,none⟩ v):=by
 refine ⟨h.os,h.tape,h.output,by rw [show (W.setCell ⟨g,j,none⟩ v).heap.size=W.heap.size by simp];exact h.size,fun k hk=>?_,fun k cs' hk=>?_,fun k cs' t fr hne hk=>?_⟩
 ·exact (Below.heap_setCell W ⟨g,j,none⟩ v k (fun e=>hk ((show k=g from e) ▸ hP))).trans (h.far k hk)
 ·obtain ⟨c1,e1,e2,e3⟩:=h.cell k cs' hk;by_cases e:k=g
  ·subst e;refine ⟨_,Yt e1 j v,by simp [e2],fun i hi=>?_⟩;rw [← e3 i hi];exact Array.getElem?_setIfInBounds_ne (by intro e;subst e;omega)
  ·exact ⟨c1,(Below.heap_setCell W ⟨g,j,none⟩ v k e).trans e1,e2,e3⟩
 ·exact (Below.heap_setCell W ⟨g,j,none⟩ v k (fun e=>by have e:k=g:=e;subst e;rw [hg] at hk;injection hk with hk;injection hk with _ hk;exact hne hk.symm)).trans (h.other k cs' t fr hne hk)
theorem tree {w:World} {base:Nat} {P:Nat→Prop} {v:Value} {l:List T} (h:KT.R 87 w base P v l):(∃ A c,v=.slice A l.length c)∧∀ i (hi:i<l.length),∃ g cs c v4 v5,v=.slice (some ⟨g,0,none⟩) l.length c∧w.heap[g]?=some (.cells cs 87 (0,0))∧P g∧
  (i * 6+5<cs.size)∧cs[i * 6+4]?=some v4∧cs[i * 6+5]?=some v5∧KT.R 87 w base P v4 l[i].f4∧KT.R 87 w base P v5 l[i].f5:=by
 obtain ⟨h0,inner,ho,hr⟩:=h;refine ⟨Yl ho,fun i hi=>?_⟩;obtain ⟨v4,v5,e,r4,r5⟩:=k87_openM (hr.2 i l[i] (List.getElem?_eq_getElem hi))
 rcases ho.2 with ⟨rfl,hz⟩|⟨g,cap,cur,rfl,hb,hh,hle,_,hsz,htk⟩
 ·omega
 ·have e':(inner.drop (i * 6)).take 6=_:=e
  have hl:∀ j,j<6→cur[i * 6+j]?=inner[i * 6+j]?:=fun j hj=>by
   rw [← htk,List.getElem?_take_of_lt (by show i * 6+j<l.length * 6;omega)];simp
  have hin:∀ j,j<6→inner[i * 6+j]?=([.int .i64 l[i].f0,.int .i64 l[i].f1,.int .i64 l[i].f2,.int .i64 l[i].f3,v4,v5]:List Value)[j]?:=fun j hj=>by
   rw [← e',List.getElem?_take_of_lt hj,List.getElem?_drop]
  have h5:cur[i * 6+5]?=some v5:=(hl 5 om_).trans ((hin 5 om_).trans rfl);have h4:cur[i * 6+4]?=some v4:=(hl 4 om_).trans ((hin 4 om_).trans rfl);exact ⟨g,cur,cap,v4,v5,rfl,hh,h0 g rfl,(Array.getElem?_eq_some_iff.1 h5).1,h4,h5,KT.Zc r4 (fun k hk=>hk.1),KT.Zc r5 (fun k hk=>hk.1)⟩
theorem IC.slots {P:Nat→Prop} {w W:World} (h:IC P w W) {g i:Nat} {cs:Array Value} (hg:w.heap[g]?=some (.cells cs 87 (0,0))) (hsz:i * 6+5<cs.size) {v4 v5:Value} (h4:cs[i * 6+4]?=some v4) (h5:cs[i * 6+5]?=some v5) :
  (∃ u,W.cell? ⟨g,i * 6,none⟩=some u)∧(∃ u,W.cell? ⟨g,i * 6+1,none⟩=some u)∧(∃ u,W.cell? ⟨g,i * 6+2,none⟩=some u)∧(∃ u,W.cell? ⟨g,i * 6+3,none⟩=some u)∧W.cell? ⟨g,i * 6+4,none⟩=some v4∧W.cell? ⟨g,i * 6+5,none⟩=some v5∧∀ k,W.frozen? ⟨g,k,none⟩=false:=by
 obtain ⟨c1,e1,e2,e3⟩:=h.cell g cs hg;have ex:∀ k,k<c1.size→∃ u,W.cell? ⟨g,k,none⟩=some u:=fun k hk=>⟨c1[k],(Xd e1 k).trans (Array.getElem?_eq_getElem hk)⟩;exact ⟨ex _ om_,ex _ om_,ex _ om_,ex _ om_,(Xd e1 _).trans ((e3 _ om_).trans h4),(Xd e1 _).trans ((e3 _ om_).trans h5),fun k=>Xc e1 k⟩
theorem markS_do:∀ (n:Nat) (l:List T),tot l≤n→∀ (w:World) (base:Nat) (P:Nat→Prop) (v:Value) (a:Int),KT.R 87 w base P v l→0≤a→a+4 * (tot l:Int)<4611686018427387904→∀ W,IC P w W→
  Calls Tryz.prog 42 #[v,.int .i64 a] W fun e W'=>e=.returned (.int .i64 (a+4 * (tot l:Int)))∧IC P w W':=by
 intro n
 induction n using Nat.strongRecOn with
 |_ n ih=>
  intro l hn w base P v a hR ha hb W hW;obtain ⟨⟨A,c,ev⟩,htr⟩:=tree hR;subst ev;have HW:=Xa.mk hW;have HL:=tot_len l;clear hR hW;go_enter Tryz.func42,Tryz.ntmps42;go_wp2
  go_loopg [1,5] l.length (fun kq v1 v5 w'=>∃ (j:Nat),v1=.int .i64 (a+4 * (tot (l.take j):Int))∧v5=.int .i64 (j:Int)∧Xa (kq+j=l.length)∧Xa (IC P w w'))
  case atStart=>exact ⟨0,by simp [tot],rfl,⟨sm_⟩,HW⟩
  case round=>
   clear HW;obtain ⟨j,rfl,rfl,HK,HW⟩:=hrel;by_cases hj:j<l.length
   ·cases gk with
    |zero=>exact absurd HK.out om_
    |succ k1=>
     have aL:decide ((j:Int)<(l.length:Int))=true:=dt_ om_
     have p0:0≤(j:Int):=om_
     have q0:(j:Int)<(l.length:Int):=om_
     have hwj:IntKind.i64.wrap ((j:Int)+1)=(j:Int)+1:=by rw [IntKind.wrap_i64];omega
     obtain ⟨g,cs,c',v4,v5,ev,hg,hP,hsz,h4,h5,r4,r5⟩:=htr j hj;injection ev with eA en ec;subst eA;subst ec;obtain ⟨⟨A4,c4,e4⟩,_⟩:=tree r4;obtain ⟨⟨A5,c5,e5⟩,_⟩:=tree r5;subst e4 e5;have ht:=tot_take hj;have hT:=totT_is l[j];have hle:=tot_le l (j+1);generalize hx:a+4 * (tot (l.take j):Int)=x
     have hw1:IntKind.i64.wrap (x+1)=x+1:=by rw [IntKind.wrap_i64];omega
     have hw2:IntKind.i64.wrap (x+1+1)=x+1+1:=by rw [IntKind.wrap_i64];omega
     have hw3:IntKind.i64.wrap (x+1+1+1)=x+1+1+1:=by rw [IntKind.wrap_i64];omega
     have hw4:IntKind.i64.wrap (x+1+1+1+1)=x+1+1+1+1:=by rw [IntKind.wrap_i64];omega
     obtain ⟨⟨u0,s0⟩,⟨u1,s1⟩,⟨u2,s2⟩,⟨u3,s3⟩,s4,s5,hf⟩:=HW.out.slots hg hsz h4 h5;have f0:=hf (j * 6);go_upto_region 5 with (fail);have H1:=Xa.mk (HW.out.store hg hP (j * 6) om_ (.int .i64 (x)));generalize wr.setCell ⟨g,j * 6,none⟩ (.int .i64 (x))=w1 at H1 ⊢;clear s0 s1 s2 s3 s4 s5 hf f0;obtain ⟨⟨u0,s0⟩,⟨u1,s1⟩,⟨u2,s2⟩,⟨u3,s3⟩,s4,s5,hf⟩:=H1.out.slots hg hsz h4 h5;have f0:=hf (j * 6+1);go_upto_region 7 with (fail);have H2:=Xa.mk (H1.out.store hg hP (j * 6+1) om_ (.int .i64 (x+1)));generalize w1.setCell ⟨g,j * 6+1,none⟩ (.int .i64 (x+1))=w2 at H2 ⊢;clear s0 s1 s2 s3 s4 s5 hf f0;obtain ⟨⟨u0,s0⟩,⟨u1,s1⟩,⟨u2,s2⟩,⟨u3,s3⟩,s4,s5,hf⟩:=H2.out.slots hg hsz h4 h5;have f0:=hf (j * 6+2);go_upto_region 9 with (fail);have H3:=Xa.mk (H2.out.store hg hP (j * 6+2) om_ (.int .i64 (x+1+1)));generalize w2.setCell ⟨g,j * 6+2,none⟩ (.int .i64 (x+1+1))=w3 at H3 ⊢;clear s0 s1 s2 s3 s4 s5 hf f0;obtain ⟨⟨u0,s0⟩,⟨u1,s1⟩,⟨u2,s2⟩,⟨u3,s3⟩,s4,s5,hf⟩:=H3.out.slots hg hsz h4 h5;have f0:=hf (j * 6+3);go_upto_region 11 with (fail);have H4:=Xa.mk (H3.out.store hg hP (j * 6+3) om_ (.int .i64 (x+1+1+1)));generalize w3.setCell ⟨g,j * 6+3,none⟩ (.int .i64 (x+1+1+1))=w4 at H4 ⊢;clear s0 s1 s2 s3 s4 s5 hf f0;obtain ⟨⟨u0,s0⟩,⟨u1,s1⟩,⟨u2,s2⟩,⟨u3,s3⟩,s4,s5,hf⟩:=H4.out.slots hg hsz h4 h5;have f0:=hf (j * 6)
     have l4:tot l[j].f4<n:=om_
     have l5:tot l[j].f5<n:=om_
     have HI4:=Lib.hid (fun W hW=>ih (tot l[j].f4) l4 l[j].f4 (nr_ _) w base P _ (x+1+1+1+1) r4 om_ om_ W hW);have aU:=Lib.hid (fun W hW=>ih (tot l[j].f5) l5 l[j].f5 (nr_ _) w base P _ (x+1+1+1+1+4 * (tot l[j].f4:Int)) r5 om_ om_ W hW);have HE:Xa (x+1+1+1+1+4 * (tot l[j].f4:Int)+4 * (tot l[j].f5:Int)=a+4 * (tot (l.take (j+1)):Int)):=⟨om_⟩;clear l4 l5 ih htr r4 r5 hT ht hle hx ha hb HL hn;go_upto_region 12 with (fail);generalize x+1+1+1+1=y at *;clear hw1 hw2 hw3 hw4;generalize (tot l[j].f4:Int)=t4 at *;generalize (tot l[j].f5:Int)=t5 at *;go_upto_region 13 with (first|(go_at_call 42;refine (HI4.out w4 H4.out).mono ?_;rintro e w5 ⟨rfl,h5'⟩));have H5:=Xa.mk h5';clear h5' s0 s1 s2 s3 s4 s5 hf f0;obtain ⟨⟨u0,s0⟩,⟨u1,s1⟩,⟨u2,s2⟩,⟨u3,s3⟩,s4,s5,hf⟩:=H5.out.slots hg hsz h4 h5;go_wp2_with (first|(go_at_call 42;refine (aU.out w5 H5.out).mono ?_;rintro e w6 ⟨rfl,h6'⟩));go_roundg k1
     case measure=>omega
     case rel=>exact ⟨j+1,by rw [HE.out],rfl,⟨by have:=HK.out;omega⟩,⟨h6'⟩⟩
   ·have hjl:j=l.length:=by have:=HK.out;omega
    have aL:decide ((j:Int)<(l.length:Int))=false:=df_ om_;have aW:decide (j<l.length)=false:=df_ om_
    have e1:a+4 * (tot (l.take j):Int)=a+4 * (tot l:Int):=by rw [hjl,List.take_length]
    rw [e1];generalize hz:a+4 * (tot l:Int)=z at *;have HZ:=Xa.mk hz;clear hjl ih htr e1 hb hz;go_wp2;go_ret
    exact ⟨by rw [HZ.out];rfl,HW.out⟩
def totS (l:List (List T)):Nat:=(l.map tot).sum
theorem totS_take {l:List (List T)} {i:Nat} (h:i<l.length):totS (l.take (i+1))=totS (l.take i)+tot l[i]:=by
 unfold totS;rw [List.take_succ_eq_append_getElem h,List.map_append,List.sum_append];simp
theorem totS_le (l:List (List T)) (i:Nat):totS (l.take i)≤totS l:=by
 have:totS l=totS (l.take i)+totS (l.drop i):=by unfold totS;rw [← List.sum_append,← List.map_append,List.take_append_drop]
 omega
theorem trees {w:World} {base:Nat} {P:Nat→Prop} {v:Value} {l:List (List T)} (h:(Kd.slice 87 KT).R 64 w base P v l):(∃ A c,v=.slice A l.length c)∧∀ i (hi:i<l.length),∃ g cs c u,v=.slice (some ⟨g,0,none⟩) l.length c∧w.heap[g]?=some (.cells cs 64 (0,0))∧
  cs[i]?=some u∧KT.R 87 w base P u l[i]:=by
 obtain ⟨h0,inner,ho,hr⟩:=h;refine ⟨Yl ho,fun i hi=>?_⟩;obtain ⟨u,e,r⟩:=hr.2 i l[i] (List.getElem?_eq_getElem hi)
 rcases ho.2 with ⟨rfl,hz⟩|⟨g,cap,cur,rfl,hb,hh,hle,_,hsz,htk⟩
 ·omega
 ·have e':(inner.drop (i * 1)).take 1=[u]:=e
  have h1:cur[i]?=inner[i]?:=by
   have:(cur.toList.take (l.length * 1))[i]?=cur.toList[i]?:=List.getElem?_take_of_lt om_
   rw [← htk];exact (Array.getElem?_toList ..).symm.trans this.symm
  have h2:inner[i]?=some u:=by
   have h3:((inner.drop (i * 1)).take 1)[0]?=some u:=by rw [e'];rfl
   rw [List.getElem?_take_of_lt om_,List.getElem?_drop] at h3;simpa using h3
  exact ⟨g,cur,cap,u,rfl,hh,h1.trans h2,KT.Zc r (fun k hk=>hk.1)⟩
theorem markSS_do (l:List (List T)) (w:World) (base:Nat) (P:Nat→Prop) (v:Value) (a:Int) (hR:(Kd.slice 87 KT).R 64 w base P v l) (ha:0≤a) (hb:a+4 * (totS l:Int)<4611686018427387904) (hl:l.length≤1048576) :
  Calls Tryz.prog 16 #[v,.int .i64 a] w fun e W'=>e=.returned (.int .i64 (a+4 * (totS l:Int)))∧IC P w W':=by
 obtain ⟨⟨A,c,ev⟩,htr⟩:=trees hR;subst ev;clear hR;go_enter Tryz.func16,Tryz.ntmps16;go_wp2
 go_loopg [1,5] l.length (fun kq v1 v5 w'=>∃ (j:Nat),v1=.int .i64 (a+4 * (totS (l.take j):Int))∧v5=.int .i64 (j:Int)∧Xa (kq+j=l.length)∧Xa (IC P w w'))
 case atStart=>exact ⟨0,by simp [totS],rfl,⟨sm_⟩,⟨IC.refl P w⟩⟩
 case round=>
  obtain ⟨j,rfl,rfl,HK,HW⟩:=hrel;by_cases hj:j<l.length
  ·cases gk with
   |zero=>exact absurd HK.out om_
   |succ k1=>
    have aL:decide ((j:Int)<(l.length:Int))=true:=dt_ om_
    have p0:0≤(j:Int):=om_
    have q0:(j:Int)<(l.length:Int):=om_
    have hwj:IntKind.i64.wrap ((j:Int)+1)=(j:Int)+1:=by rw [IntKind.wrap_i64];omega
    obtain ⟨g,cs,c',u,ev,hg,hu,r⟩:=htr j hj;injection ev with eA en ec;subst eA;subst ec;obtain ⟨⟨A4,c4,e4⟩,_⟩:=tree r;subst e4;have ht:=totS_take hj;have hle:=totS_le l (j+1);have hcell:wr.cell? ⟨g,j,none⟩=some (.slice A4 l[j].length c4):=(Xd ((HW.out.other g cs _ _ de_ hg).trans hg) j).trans hu;have HM:=Lib.hid (fun W hW=>markS_do (tot l[j]) l[j] (nr_ _) w base P _ (a+4 * (totS (l.take j):Int)) r om_ om_ W hW);have HE:Xa (a+4 * (totS (l.take j):Int)+4 * (tot l[j]:Int)=a+4 * (totS (l.take (j+1)):Int)):=⟨om_⟩;clear r ht hle htr hu hg hb ha hl;generalize a+4 * (totS (l.take j):Int)=x at *;generalize (tot l[j]:Int)=t4 at *;go_wp2_with (first|(go_at_call 42;refine (HM.out wr HW.out).mono ?_;rintro e w6 ⟨rfl,h6'⟩));go_roundg k1
    case measure=>omega
    case rel=>exact ⟨j+1,by rw [HE.out],rfl,⟨by have:=HK.out;omega⟩,⟨h6'⟩⟩
  ·have hjl:j=l.length:=by have:=HK.out;omega
   have aL:decide ((j:Int)<(l.length:Int))=false:=df_ om_;have aW:decide (j<l.length)=false:=df_ om_
   have e1:a+4 * (totS (l.take j):Int)=a+4 * (totS l:Int):=by rw [hjl,List.take_length]
   rw [e1];generalize hz:a+4 * (totS l:Int)=z at *;have HZ:=Xa.mk hz;clear hjl htr e1 hb hz;go_wp2;go_ret
   exact ⟨by rw [HZ.out];rfl,HW.out⟩
end Go.Proofs.YtlhogkfmdnpmkaaGreat.Mark
namespace Go.Proofs.YtlhogkfmdnpmkaaGreat.GMarks
open RowKit YtlhogkfmdnpmkaaGreatW.PrintWords YtlhogkfmdnpmkaaGreatW.PrintLast YtlhogkfmdnpmkaaGreatW.PrintMore
attribute [local go_sem] Ua Ud Uu Ux Zo Zp Ub Ue
def laws_markStmtSS.f (l0:List (List (S87))) (a1:Int):Option Int:=if 0≤a1∧a1+4 * (Mark.totS l0:Int)<4611686018427387904∧l0.length≤1048576 then some (a1+4 * (Mark.totS l0:Int)) else none
theorem laws_markStmtSS.calls (aG:Nat→Prop) (aA:Value) (l0:List (List (S87))) (a1:Int) (r:Int) (w0 w:World) (hB:Below w0.heap.size w0 w) (ho0:Kd.R (Kd.slice 87 k87) 64 w w0.heap.size aG aA l0) (h:laws_markStmtSS.f l0 a1=some r) :
  Calls Tryz.prog 16 #[aA,.int .i64 a1] w fun e w'=>e=.returned (.int .i64 r)∧Below w0.heap.size w0 w'∧Kept w w' (fun k_=>aG k_):=by
 unfold laws_markStmtSS.f at h;by_cases hc:0≤a1∧a1+4 * (Mark.totS l0:Int)<4611686018427387904∧l0.length≤1048576
 ·rw [if_pos hc] at h;obtain rfl:=sj_ h;refine (Mark.markSS_do l0 w w0.heap.size (fun k=>aG k∧w0.heap.size≤k) aA a1 (Kd.Zc (Kd.R_bound ho0) (fun k hk=>⟨hk.1,hk.2.1⟩)) hc.1 hc.2.1 hc.2.2).mono ?_;rintro e w' ⟨rfl,hI⟩;exact ⟨rfl,hB.trans ⟨hI.os,hI.tape,hI.output,Nat.le_of_eq hI.size.symm,fun k hk=>hI.far k (fun x=>om_)⟩,Nat.le_of_eq hI.size.symm,fun k hk hn=>hI.far k (fun x=>hn x.1)⟩
 ·rw [if_neg hc] at h;cases h
end Go.Proofs.YtlhogkfmdnpmkaaGreat.GMarks
namespace Go.Proofs.YtlhogkfmdnpmkaaGreat.GMarks
open RowKit YtlhogkfmdnpmkaaGreatW.PrintWords YtlhogkfmdnpmkaaGreatW.PrintLast YtlhogkfmdnpmkaaGreatW.PrintMore
attribute [local go_sem] Ua Ud Uu Ux Zo Zp Ub Ue
def Yx.l0:Nat→List Int→Int→Int→Option (Int × List Int)
 |0,_,_,_=>none
 |k+1,x0,x1,x5=>if x5<(x0.length:Int) then (if 0≤x5 then (Yx.l0 k (x0.set (x5:Int).toNat x1) (wrap64 (x1+1)) (wrap64 (x5+1))) else (none)) else (some (x1,x0))
def Yx.f (k:Nat) (l0:List Int) (a1:Int):Option (Int × List Int):=Yx.l0 k l0 a1 0
theorem Yx.calls (k:Nat) (aG:Nat→Prop) (aA:Value) (l0:List Int) (a1:Int) (r1:Int) (r2:List Int) (w0 w:World) (hB:Below w0.heap.size w0 w) (ho0:Kd.R (Kd.int .i64) 3 w w0.heap.size aG aA l0) (h:Yx.f k l0 a1=some (r1,r2)) :
  Calls Tryz.prog 17 #[aA,.int .i64 a1] w fun e w'=>e=.returned (.int .i64 r1)∧Kd.R (Kd.int .i64) 3 w' w0.heap.size (fun k_=>(aG k_∨w.heap.size≤k_)) aA r2∧Below w0.heap.size w0 w'∧Kept w w' (fun k_=>aG k_):=by
 have aV:=Xa.mk (show Kd.R (Kd.int .i64) 3 w w0.heap.size (fun k_=>(aG k_∨w.heap.size≤k_)) aA l0 from Kd.Zc ho0 (fun k_ hk=>(.inl hk)));have HK:=Xa.mk (Kept.refl w (fun k_=>aG k_));have HW0:=Xa.mk hB.size;have HB:=Xa.mk hB;clear hB;have H:(Yx.l0 k l0 a1 0)=some (r1,r2):=h;clear h;have H':=Xa.mk H;clear H;go_enter Tryz.func17,Tryz.ntmps17;go_wp2
 go_loopg [1,5] k (fun kq v1 v5 w'=>∃ (aD:List Int) (aF:Int) (aB:Int),v1=.int .i64 aF∧v5=.int .i64 aB∧Xa (Yx.l0 kq aD aF aB=some (r1,r2))∧Xa (kq≤k)∧Xa (Kd.R (Kd.int .i64) 3 w' w0.heap.size (fun k_=>(aG k_∨w.heap.size≤k_)) aA aD)∧Xa (Kept w w' (fun k_=>aG k_))∧Xa (Below w0.heap.size w0 w'))
 case atStart=>exact ⟨(l0),(a1),(0),rg_,rg_,H',⟨nr_ _⟩,⟨Kd.ra_ (aV.out)⟩,⟨by repeat (first|(with_reducible first|exact HK.out|apply Kept.alloc|apply Kept.drewN|apply Kept.drew)|exact HK.out)⟩,⟨bl_ HB⟩⟩
 case round=>
  clear H';obtain ⟨aD,aF,aB,rfl,rfl,HA,aO,aC,HK,HB⟩:=hrel
  cases gk with
  |zero=>exact absurd HA.out (by simp [Yx.l0])
  |succ k1=>
   have H:=HA.out;clear HA;simp only [Yx.l0] at H;by_cases c3:aB<(aD.length:Int)
   ·rw [if_pos c3] at H;have aM:decide (aB<(aD.length:Int))=true:=dt_ c3;clear c3;by_cases c4:0≤aB
    ·rw [if_pos c4] at H;have c4b0:decide (0≤aB)=true:=dt_ c4;clear c4;obtain ⟨y157,hy157⟩:∃ y_:List Int,y_=(aD.set (aB:Int).toNat aF):=⟨_,rfl⟩
     replace H:(Yx.l0 k1 y157 (wrap64 (aF+1)) (wrap64 (aB+1)))=some (r1,r2):=by subst hy157;exact hh_ H
     have aH:=Xa.mk hy157;clear hy157;have H':=Xa.mk H;clear H;obtain ⟨Ao6,aX,bA⟩:=Kd.Zq aC.out;subst bA;have p5:0≤(aB:Int):=od_ as_;have q5:(aB:Int)<((aD.length:Int):Int):=od_ as_;obtain ⟨aI,co5,aP,aQ,bC,cl5,aN⟩:=Kd.R_form aC.out om_
     (first|cases aP|(injection aP with aJ aZ aY;(first|subst aJ|(injection aJ with aJ;subst aJ));subst aY;clear aZ))
     have aT:=Xa.mk aQ;have GG5:=Xa.mk aN;clear aQ bC aN;have HMgo5:=Xa.mk (show (aG aI∨w.heap.size≤aI) from (aC.out.1 _ rfl));obtain ⟨hx5_0,hf5_0⟩:=Kd.R_celln 0 aC.out (aB:Int) p5 q5;replace p5:=eq_true p5;replace q5:=eq_true q5;have aK:=Kd.R_putg aC.out (aB:Int) aF;go_wp2_with (first|((with_reducible refine gate_store (t:=3) (p:=15) rfl ?_);refine store_event (t:=3) (p:=15) (v:=?vo_w8) (w1:=(wr.setCell ⟨aI,(aB:Int).toNat,none⟩ (.int .i64 aF))) ?hg ?ho ?hn ?hr ?_;(case ho=>rfl);(case hg=>rfl);(case hn=>rfl);(case hr=>exact hr_);intro w8 hw;have hg:wr.grownBy w8 (some aI):=(by rw [hw];exact aK.2);have aR:Kd.R (Kd.int .i64) 3 w8 w0.heap.size (fun k_=>(aG k_∨w.heap.size≤k_)) (.slice (some ⟨aI,0,none⟩) aD.length aX) y157:=(by rw [hw,aH.out];exact aK.1);clear aK;replace HB:=Xa.mk ((by rw [hw];exact below_set (HB.out) aT.out:Below w0.heap.size w0 w8));replace HK:=Xa.mk (Kept.of_grown (S:=(fun k_=>aG k_)) hg (by repeat (first|(with_reducible first|exact HK.out|apply Kept.alloc|apply Kept.drewN|apply Kept.drew)|exact HK.out)) (fun k_ e_=>(aC.out.1 k_ e_)));replace aC:=Xa.mk (aR);clear hg hw aR));go_roundg k1
     case measure=>have:=aO.out;omega
     case rel=>exact ⟨(y157),(wrap64 (aF+1)),(wrap64 (aB+1)),rg_,rg_,H',⟨by have:=aO.out;omega⟩,⟨Kd.ra_ (aC.out)⟩,⟨by repeat (first|(with_reducible first|exact HK.out|apply Kept.alloc|apply Kept.drewN|apply Kept.drew)|exact HK.out)⟩,⟨bl_ HB⟩⟩
    ·rw [if_neg c4] at H;exact absurd H sm_
   ·rw [if_neg c3] at H;have aM:decide (aB<(aD.length:Int))=false:=df_ c3;clear c3;simp only [Option.some.injEq,Prod.mk.injEq] at H;obtain ⟨rfl,rfl⟩:=H;obtain ⟨Ao9,co9,bB⟩:=Kd.Zq aC.out;subst bB;go_wp2;go_ret
    exact ⟨rf_,Kd.ra_ (aC.out),bl_ HB,by repeat (first|(with_reducible first|exact HK.out|apply Kept.alloc|apply Kept.drewN|apply Kept.drew)|exact HK.out)⟩
end Go.Proofs.YtlhogkfmdnpmkaaGreat.GMarks
