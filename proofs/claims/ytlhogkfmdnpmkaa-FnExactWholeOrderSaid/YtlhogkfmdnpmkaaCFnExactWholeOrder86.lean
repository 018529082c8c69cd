import Derived.Test.YtlhogkfmdnpmkaaCFnExactWholeOrder38
import Derived.Test.YtlhogkfmdnpmkaaCFnExactWholeOrder21
import Derived.Lib.Hide
set_option maxHeartbeats 8000000
set_option maxRecDepth 100000
set_option linter.unusedVariables false
set_option linter.unusedSimpArgs false
namespace Go.Proofs.Ytlhogkfmdnpmkaa.Mark
open Go.RowKit Go.Proofs.Ytlhogkfmdnpmkaa.GWhole Go.Proofs.YtlhogkfmdnpmkaaW.PrintWords Go.Proofs.YtlhogkfmdnpmkaaW.PrintLast Go.Proofs.YtlhogkfmdnpmkaaW.PrintMore
abbrev T:=S69
abbrev KT:=k69
mutual
def totT:T→Nat
  |⟨_,_,_,_,a,b⟩=>1+tot a+tot b
def tot:List T→Nat
  |[]=>0
  |x :: r=>totT x+tot r
end
theorem totT_is (x:T):totT x=1+tot x.f4+tot x.f5:=by obtain ⟨a,b,c,d,e,f⟩:=x;simp only [totT]
theorem tot_append (a b:List T):tot (a ++ b)=tot a+tot b:=by
  induction a with
  |nil=>simp [tot]
  |cons x r ih=>simp only [List.cons_append,tot,ih];omega
theorem tot_take {l:List T} {i:Nat} (h:i<l.length):tot (l.take (i+1))=tot (l.take i)+totT l[i]:=by
  rw [List.take_succ_eq_append_getElem h,tot_append];simp [tot]
theorem tot_le (l:List T) (i:Nat):tot (l.take i)≤tot l:=by
  have:=tot_append (l.take i) (l.drop i)
  rw [List.take_append_drop] at this;omega
theorem tot_len (l:List T):l.length≤tot l:=by
  induction l with
  |nil=>simp
  |cons x r ih=>simp only [List.length_cons,tot];have:=totT_is x;omega
structure IC (P:Nat→Prop) (w W:World):Prop where
  os:W.os=w.os
  tape:W.tape=w.tape
  output:W.output=w.output
  size:W.heap.size=w.heap.size
  far:∀ k,¬ P k→W.heap[k]?=w.heap[k]?
  cell:∀ (k:Nat) (cs:Array Value),w.heap[k]?=some (.cells cs 69 (0,0))→∃ cs',W.heap[k]?=some (.cells cs' 69 (0,0))∧cs'.size=cs.size∧∀ j,4≤j % 6→cs'[j]?=cs[j]?
  other:∀ (k:Nat) (cs:Array Value) (t:TypeId) (fr:Nat × Nat),t≠69→w.heap[k]?=some (.cells cs t fr)→W.heap[k]?=w.heap[k]?
theorem IC.refl (P:Nat→Prop) (w:World):IC P w w:=⟨rfl,rfl,rfl,rfl,fun _ _=>rfl,fun _ cs h=>⟨cs,h,rfl,fun _ _=>rfl⟩,fun _ _ _ _ _ _=>rfl⟩
theorem IC.drew {P:Nat→Prop} {w W:World} (h:IC P w W):IC P w W.drew:=⟨h.os,h.tape,h.output,h.size,h.far,h.cell,h.other⟩
theorem IC.store {P:Nat→Prop} {w W:World} (h:IC P w W) {g:Nat} {cs:Array Value} (hg:w.heap[g]?=some (.cells cs 69 (0,0))) (hP:P g) (j:Nat) (hj:j % 6<4) (v:Value):IC P w (W.setCell ⟨g,j,none⟩ v):=by
  refine ⟨h.os,h.tape,h.output,by rw [show (W.setCell ⟨g,j,none⟩ v).heap.size=W.heap.size by simp];exact h.size,fun k hk=>?_,fun k cs' hk=>?_,fun k cs' t fr hne hk=>?_⟩
  · exact (Below.heap_setCell W ⟨g,j,none⟩ v k (fun e=>hk ((show k=g from e) ▸ hP))).trans (h.far k hk)
  · obtain ⟨c1,e1,e2,e3⟩:=h.cell k cs' hk
    by_cases e:k=g
    · subst e
      refine ⟨_,Zl e1 j v,by simp [e2],fun i hi=>?_⟩
      rw [← e3 i hi];exact Array.getElem?_setIfInBounds_ne (by intro e;subst e;omega)
    · exact ⟨c1,(Below.heap_setCell W ⟨g,j,none⟩ v k e).trans e1,e2,e3⟩
  · exact (Below.heap_setCell W ⟨g,j,none⟩ v k (fun e=>by have e:k=g:=e;subst e;rw [hg] at hk;injection hk with hk;injection hk with _ hk;exact hne hk.symm)).trans (h.other k cs' t fr hne hk)
theorem tree {w:World} {base:Nat} {P:Nat→Prop} {v:Value} {l:List T} (h:KT.R 69 w base P v l):(∃ A c,v=.slice A l.length c)∧∀ i (hi:i<l.length),∃ g cs c v4 v5,v=.slice (some ⟨g,0,none⟩) l.length c∧w.heap[g]?=some (.cells cs 69 (0,0))∧P g∧
    (i * 6+5<cs.size)∧cs[i * 6+4]?=some v4∧cs[i * 6+5]?=some v5∧KT.R 69 w base P v4 l[i].f4∧KT.R 69 w base P v5 l[i].f5:=by
  obtain ⟨h0,inner,ho,hr⟩:=h;refine ⟨Zo ho,fun i hi=>?_⟩
  obtain ⟨v4,v5,e,r4,r5⟩:=k69_openM (hr.2 i l[i] (List.getElem?_eq_getElem hi))
  rcases ho.2 with ⟨rfl,hz⟩|⟨g,cap,cur,rfl,hb,hh,hle,_,hsz,htk⟩
  · omega
  · have e':(inner.drop (i * 6)).take 6=_:=e
    have hl:∀ j,j<6→cur[i * 6+j]?=inner[i * 6+j]?:=fun j hj=>by
      rw [← htk,List.getElem?_take_of_lt (by show i * 6+j<l.length * 6;omega)];simp
    have hin:∀ j,j<6→inner[i * 6+j]?=([.int .i64 l[i].f0,.int .i64 l[i].f1,.int .i64 l[i].f2,.int .i64 l[i].f3,v4,v5]:List Value)[j]?:=fun j hj=>by
      rw [← e',List.getElem?_take_of_lt hj,List.getElem?_drop]
    have h5:cur[i * 6+5]?=some v5:=(hl 5 (by omega)).trans ((hin 5 (by omega)).trans rfl);have h4:cur[i * 6+4]?=some v4:=(hl 4 (by omega)).trans ((hin 4 (by omega)).trans rfl);exact ⟨g,cur,cap,v4,v5,rfl,hh,h0 g rfl,(Array.getElem?_eq_some_iff.1 h5).1,h4,h5,KT.Yw r4 (fun k hk=>hk.1),KT.Yw r5 (fun k hk=>hk.1)⟩
theorem IC.slots {P:Nat→Prop} {w W:World} (h:IC P w W) {g i:Nat} {cs:Array Value} (hg:w.heap[g]?=some (.cells cs 69 (0,0))) (hsz:i * 6+5<cs.size) {v4 v5:Value} (h4:cs[i * 6+4]?=some v4) (h5:cs[i * 6+5]?=some v5) :
    (∃ u,W.cell? ⟨g,i * 6,none⟩=some u)∧(∃ u,W.cell? ⟨g,i * 6+1,none⟩=some u)∧(∃ u,W.cell? ⟨g,i * 6+2,none⟩=some u)∧(∃ u,W.cell? ⟨g,i * 6+3,none⟩=some u)∧W.cell? ⟨g,i * 6+4,none⟩=some v4∧W.cell? ⟨g,i * 6+5,none⟩=some v5∧∀ k,W.frozen? ⟨g,k,none⟩=false:=by
  obtain ⟨c1,e1,e2,e3⟩:=h.cell g cs hg;have ex:∀ k,k<c1.size→∃ u,W.cell? ⟨g,k,none⟩=some u:=fun k hk=>⟨c1[k],(Xm e1 k).trans (Array.getElem?_eq_getElem hk)⟩;exact ⟨ex _ (by omega),ex _ (by omega),ex _ (by omega),ex _ (by omega),(Xm e1 _).trans ((e3 _ (by omega)).trans h4),(Xm e1 _).trans ((e3 _ (by omega)).trans h5),fun k=>Xb e1 k⟩
theorem markS_do:∀ (n:Nat) (l:List T),tot l≤n→∀ (w:World) (base:Nat) (P:Nat→Prop) (v:Value) (a:Int),KT.R 69 w base P v l→0≤a→a+4 * (tot l:Int)<4611686018427387904→∀ W,IC P w W→
    Calls Try.prog 30 #[v,.int .i64 a] W fun e W'=>e=.returned (.int .i64 (a+4 * (tot l:Int)))∧IC P w W':=by
  intro n
  induction n using Nat.strongRecOn with
  |_ n ih=>
    intro l hn w base P v a hR ha hb W hW;obtain ⟨⟨A,c,ev⟩,htr⟩:=tree hR;subst ev;have HW:=Xa.mk hW;have HL:=tot_len l;clear hR hW
    go_enter Try.func30,Try.ntmps30
    go_wp2
    go_loopg [1,5] l.length (fun kq v1 v5 w'=>∃ (j:Nat),v1=.int .i64 (a+4 * (tot (l.take j):Int))∧v5=.int .i64 (j:Int)∧Xa (kq+j=l.length)∧Xa (IC P w w'))
    case atStart=>exact ⟨0,by simp [tot],rfl,⟨by simp⟩,HW⟩
    case round=>
      clear HW;obtain ⟨j,rfl,rfl,HK,HW⟩:=hrel;by_cases hj:j<l.length
      · cases gk with
        |zero=>exact absurd HK.out (by omega)
        |succ k1=>
          have aC:decide ((j:Int)<(l.length:Int))=true:=decide_eq_true (by omega)
          have p0:0≤(j:Int):=by omega
          have q0:(j:Int)<(l.length:Int):=by omega
          have hwj:IntKind.i64.wrap ((j:Int)+1)=(j:Int)+1:=by rw [IntKind.wrap_i64];omega
          obtain ⟨g,cs,c',v4,v5,ev,hg,hP,hsz,h4,h5,r4,r5⟩:=htr j hj
          injection ev with eA en ec
          subst eA;subst ec;obtain ⟨⟨A4,c4,e4⟩,_⟩:=tree r4;obtain ⟨⟨A5,c5,e5⟩,_⟩:=tree r5;subst e4 e5;have ht:=tot_take hj;have hT:=totT_is l[j];have hle:=tot_le l (j+1)
          generalize hx:a+4 * (tot (l.take j):Int)=x
          have hw1:IntKind.i64.wrap (x+1)=x+1:=by rw [IntKind.wrap_i64];omega
          have hw2:IntKind.i64.wrap (x+1+1)=x+1+1:=by rw [IntKind.wrap_i64];omega
          have hw3:IntKind.i64.wrap (x+1+1+1)=x+1+1+1:=by rw [IntKind.wrap_i64];omega
          have hw4:IntKind.i64.wrap (x+1+1+1+1)=x+1+1+1+1:=by rw [IntKind.wrap_i64];omega
          obtain ⟨⟨u0,s0⟩,⟨u1,s1⟩,⟨u2,s2⟩,⟨u3,s3⟩,s4,s5,hf⟩:=HW.out.slots hg hsz h4 h5;have f0:=hf (j * 6)
          go_upto_region 5 with (fail)
          have H1:=Xa.mk (HW.out.store hg hP (j * 6) (by omega) (.int .i64 (x)))
          generalize wr.setCell ⟨g,j * 6,none⟩ (.int .i64 (x))=w1 at H1 ⊢
          clear s0 s1 s2 s3 s4 s5 hf f0;obtain ⟨⟨u0,s0⟩,⟨u1,s1⟩,⟨u2,s2⟩,⟨u3,s3⟩,s4,s5,hf⟩:=H1.out.slots hg hsz h4 h5;have f0:=hf (j * 6+1)
          go_upto_region 7 with (fail)
          have H2:=Xa.mk (H1.out.store hg hP (j * 6+1) (by omega) (.int .i64 (x+1)))
          generalize w1.setCell ⟨g,j * 6+1,none⟩ (.int .i64 (x+1))=w2 at H2 ⊢
          clear s0 s1 s2 s3 s4 s5 hf f0;obtain ⟨⟨u0,s0⟩,⟨u1,s1⟩,⟨u2,s2⟩,⟨u3,s3⟩,s4,s5,hf⟩:=H2.out.slots hg hsz h4 h5;have f0:=hf (j * 6+2)
          go_upto_region 9 with (fail)
          have H3:=Xa.mk (H2.out.store hg hP (j * 6+2) (by omega) (.int .i64 (x+1+1)))
          generalize w2.setCell ⟨g,j * 6+2,none⟩ (.int .i64 (x+1+1))=w3 at H3 ⊢
          clear s0 s1 s2 s3 s4 s5 hf f0;obtain ⟨⟨u0,s0⟩,⟨u1,s1⟩,⟨u2,s2⟩,⟨u3,s3⟩,s4,s5,hf⟩:=H3.out.slots hg hsz h4 h5;have f0:=hf (j * 6+3)
          go_upto_region 11 with (fail)
          have H4:=Xa.mk (H3.out.store hg hP (j * 6+3) (by omega) (.int .i64 (x+1+1+1)))
          generalize w3.setCell ⟨g,j * 6+3,none⟩ (.int .i64 (x+1+1+1))=w4 at H4 ⊢
          clear s0 s1 s2 s3 s4 s5 hf f0;obtain ⟨⟨u0,s0⟩,⟨u1,s1⟩,⟨u2,s2⟩,⟨u3,s3⟩,s4,s5,hf⟩:=H4.out.slots hg hsz h4 h5;have f0:=hf (j * 6)
          have l4:tot l[j].f4<n:=by omega
          have l5:tot l[j].f5<n:=by omega
          have HI4:=Lib.hid (fun W hW=>ih (tot l[j].f4) l4 l[j].f4 (Nat.le_refl _) w base P _ (x+1+1+1+1) r4 (by omega) (by omega) W hW);have aD:=Lib.hid (fun W hW=>ih (tot l[j].f5) l5 l[j].f5 (Nat.le_refl _) w base P _ (x+1+1+1+1+4 * (tot l[j].f4:Int)) r5 (by omega) (by omega) W hW);have HE:Xa (x+1+1+1+1+4 * (tot l[j].f4:Int)+4 * (tot l[j].f5:Int)=a+4 * (tot (l.take (j+1)):Int)):=⟨by omega⟩;clear l4 l5 ih htr r4 r5 hT ht hle hx ha hb HL hn
          go_upto_region 12 with (fail)
          generalize x+1+1+1+1=y at *
          clear hw1 hw2 hw3 hw4
          generalize (tot l[j].f4:Int)=t4 at *
          generalize (tot l[j].f5:Int)=t5 at *
          go_upto_region 13 with (first|(go_at_call 30;refine (HI4.out w4 H4.out).mono ?_;rintro e w5 ⟨rfl,h5'⟩))
          have H5:=Xa.mk h5';clear h5' s0 s1 s2 s3 s4 s5 hf f0;obtain ⟨⟨u0,s0⟩,⟨u1,s1⟩,⟨u2,s2⟩,⟨u3,s3⟩,s4,s5,hf⟩:=H5.out.slots hg hsz h4 h5;go_wp2_with (first|(go_at_call 30;refine (aD.out w5 H5.out).mono ?_;rintro e w6 ⟨rfl,h6'⟩))
          go_roundg k1
          case measure=>omega
          case rel=>exact ⟨j+1,by rw [HE.out],rfl,⟨by have:=HK.out;omega⟩,⟨h6'⟩⟩
      · have hjl:j=l.length:=by have:=HK.out;omega
        have aC:decide ((j:Int)<(l.length:Int))=false:=decide_eq_false (by omega);have aF:decide (j<l.length)=false:=decide_eq_false (by omega)
        have e1:a+4 * (tot (l.take j):Int)=a+4 * (tot l:Int):=by rw [hjl,List.take_length]
        rw [e1]
        generalize hz:a+4 * (tot l:Int)=z at *
        have HZ:=Xa.mk hz;clear hjl ih htr e1 hb hz;go_wp2
        go_ret
        exact ⟨by rw [HZ.out];rfl,HW.out⟩
def totS (l:List (List T)):Nat:=(l.map tot).sum
theorem totS_take {l:List (List T)} {i:Nat} (h:i<l.length):totS (l.take (i+1))=totS (l.take i)+tot l[i]:=by
  unfold totS
  rw [List.take_succ_eq_append_getElem h,List.map_append,List.sum_append];simp
theorem totS_le (l:List (List T)) (i:Nat):totS (l.take i)≤totS l:=by
  have:totS l=totS (l.take i)+totS (l.drop i):=by unfold totS;rw [← List.sum_append,← List.map_append,List.take_append_drop]
  omega
theorem trees {w:World} {base:Nat} {P:Nat→Prop} {v:Value} {l:List (List T)} (h:(Kd.slice 69 KT).R 50 w base P v l):(∃ A c,v=.slice A l.length c)∧∀ i (hi:i<l.length),∃ g cs c u,v=.slice (some ⟨g,0,none⟩) l.length c∧w.heap[g]?=some (.cells cs 50 (0,0))∧
    cs[i]?=some u∧KT.R 69 w base P u l[i]:=by
  obtain ⟨h0,inner,ho,hr⟩:=h;refine ⟨Zo ho,fun i hi=>?_⟩
  obtain ⟨u,e,r⟩:=hr.2 i l[i] (List.getElem?_eq_getElem hi)
  rcases ho.2 with ⟨rfl,hz⟩|⟨g,cap,cur,rfl,hb,hh,hle,_,hsz,htk⟩
  · omega
  · have e':(inner.drop (i * 1)).take 1=[u]:=e
    have h1:cur[i]?=inner[i]?:=by
      have:(cur.toList.take (l.length * 1))[i]?=cur.toList[i]?:=List.getElem?_take_of_lt (by omega)
      rw [← htk];exact (Array.getElem?_toList ..).symm.trans this.symm
    have h2:inner[i]?=some u:=by
      have h3:((inner.drop (i * 1)).take 1)[0]?=some u:=by rw [e'];rfl
      rw [List.getElem?_take_of_lt (by omega),List.getElem?_drop] at h3
      simpa using h3
    exact ⟨g,cur,cap,u,rfl,hh,h1.trans h2,KT.Yw r (fun k hk=>hk.1)⟩
theorem markSS_do (l:List (List T)) (w:World) (base:Nat) (P:Nat→Prop) (v:Value) (a:Int) (hR:(Kd.slice 69 KT).R 50 w base P v l) (ha:0≤a) (hb:a+4 * (totS l:Int)<4611686018427387904) (hl:l.length≤1048576) :
    Calls Try.prog 12 #[v,.int .i64 a] w fun e W'=>e=.returned (.int .i64 (a+4 * (totS l:Int)))∧IC P w W':=by
  obtain ⟨⟨A,c,ev⟩,htr⟩:=trees hR;subst ev;clear hR
  go_enter Try.func12,Try.ntmps12
  go_wp2
  go_loopg [1,5] l.length (fun kq v1 v5 w'=>∃ (j:Nat),v1=.int .i64 (a+4 * (totS (l.take j):Int))∧v5=.int .i64 (j:Int)∧Xa (kq+j=l.length)∧Xa (IC P w w'))
  case atStart=>exact ⟨0,by simp [totS],rfl,⟨by simp⟩,⟨IC.refl P w⟩⟩
  case round=>
    obtain ⟨j,rfl,rfl,HK,HW⟩:=hrel;by_cases hj:j<l.length
    · cases gk with
      |zero=>exact absurd HK.out (by omega)
      |succ k1=>
        have aC:decide ((j:Int)<(l.length:Int))=true:=decide_eq_true (by omega)
        have p0:0≤(j:Int):=by omega
        have q0:(j:Int)<(l.length:Int):=by omega
        have hwj:IntKind.i64.wrap ((j:Int)+1)=(j:Int)+1:=by rw [IntKind.wrap_i64];omega
        obtain ⟨g,cs,c',u,ev,hg,hu,r⟩:=htr j hj
        injection ev with eA en ec
        subst eA;subst ec;obtain ⟨⟨A4,c4,e4⟩,_⟩:=tree r;subst e4;have ht:=totS_take hj;have hle:=totS_le l (j+1);have hcell:wr.cell? ⟨g,j,none⟩=some (.slice A4 l[j].length c4):=(Xm ((HW.out.other g cs _ _ (by decide) hg).trans hg) j).trans hu;have HM:=Lib.hid (fun W hW=>markS_do (tot l[j]) l[j] (Nat.le_refl _) w base P _ (a+4 * (totS (l.take j):Int)) r (by omega) (by omega) W hW);have HE:Xa (a+4 * (totS (l.take j):Int)+4 * (tot l[j]:Int)=a+4 * (totS (l.take (j+1)):Int)):=⟨by omega⟩;clear r ht hle htr hu hg hb ha hl
        generalize a+4 * (totS (l.take j):Int)=x at *
        generalize (tot l[j]:Int)=t4 at *
        go_wp2_with (first|(go_at_call 30;refine (HM.out wr HW.out).mono ?_;rintro e w6 ⟨rfl,h6'⟩))
        go_roundg k1
        case measure=>omega
        case rel=>exact ⟨j+1,by rw [HE.out],rfl,⟨by have:=HK.out;omega⟩,⟨h6'⟩⟩
    · have hjl:j=l.length:=by have:=HK.out;omega
      have aC:decide ((j:Int)<(l.length:Int))=false:=decide_eq_false (by omega);have aF:decide (j<l.length)=false:=decide_eq_false (by omega)
      have e1:a+4 * (totS (l.take j):Int)=a+4 * (totS l:Int):=by rw [hjl,List.take_length]
      rw [e1]
      generalize hz:a+4 * (totS l:Int)=z at *
      have HZ:=Xa.mk hz;clear hjl htr e1 hb hz;go_wp2
      go_ret
      exact ⟨by rw [HZ.out];rfl,HW.out⟩
theorem keptT {w w':World} {base:Nat} {ok:Nat→Prop} {v:Value} {xs:List Int} (h:(Kd.int .i64).R 3 w base ok v xs) (hk:Kept w w' (fun k=>∃ q,(q=50∨q=69)∧∃ cells,w.heap[k]?=some (.cells cells q (0,0)))) :
    (Kd.int .i64).R 3 w' base (fun k=>ok k∧((¬ ∃ q,(q=50∨q=69)∧∃ cells,w.heap[k]?=some (.cells cells q (0,0)))∧k<w.heap.size)) v xs:=by
  have h2:=Kd.R_keptB (Kd.R_bound h) hk (fun k hk'=>by
    obtain ⟨_,_,_,q,hq,cells,hc⟩:=hk'
    rintro ⟨q',hq',cells',hc'⟩
    rw [hc] at hc'
    injection hc' with hc'
    injection hc' with _ hc'
    have e:q=3:=by
      rcases List.mem_cons.1 hq with e|e
      · exact e
      · exact absurd e (by simp [Kd.int,Kd.scalar])
    subst e
    rcases hq' with e|e
    · exact absurd (hc'.trans e) (by decide)
    · exact absurd (hc'.trans e) (by decide))
  exact Kd.Yw h2 (fun k hk'=>⟨hk'.1.1,hk'.2⟩)
end Go.Proofs.Ytlhogkfmdnpmkaa.Mark
namespace Go.Proofs.Ytlhogkfmdnpmkaa.GWhole
open Go.RowKit Go.Proofs.YtlhogkfmdnpmkaaW.PrintWords Go.Proofs.YtlhogkfmdnpmkaaW.PrintLast Go.Proofs.YtlhogkfmdnpmkaaW.PrintMore
attribute [local go_sem] Ui Uk max_two min_two Zx Zy Uj Ul
set_option linter.unusedVariables false
set_option linter.unusedSimpArgs false
def Yp.f (l0:List (List (S69))) (a1:Int):Option Int:=if 0≤a1∧a1+4 * (Mark.totS l0:Int)<4611686018427387904∧l0.length≤1048576 then some (a1+4 * (Mark.totS l0:Int)) else none
theorem Yp.calls (aB:Nat→Prop) (aA:Value) (l0:List (List (S69))) (a1:Int) (r:Int) (w0 w:World) (hB:Below w0.heap.size w0 w) (ho0:Kd.R (Kd.slice 69 k69) 50 w w0.heap.size aB aA l0) (h:Yp.f l0 a1=some r) :
  Calls Try.prog 12 #[aA,.int .i64 a1] w fun e w'=>e=.returned (.int .i64 r)∧Below w0.heap.size w0 w'∧Kept w w' (fun k_=>aB k_):=by
 unfold Yp.f at h
 by_cases hc:0≤a1∧a1+4 * (Mark.totS l0:Int)<4611686018427387904∧l0.length≤1048576
 ·rw [if_pos hc] at h;obtain rfl:=Option.some.inj h;refine (Mark.markSS_do l0 w w0.heap.size (fun k=>aB k∧w0.heap.size≤k) aA a1 (Kd.Yw (Kd.R_bound ho0) (fun k hk=>⟨hk.1,hk.2.1⟩)) hc.1 hc.2.1 hc.2.2).mono ?_
  rintro e w' ⟨rfl,hI⟩
  exact ⟨rfl,hB.trans ⟨hI.os,hI.tape,hI.output,Nat.le_of_eq hI.size.symm,fun k hk=>hI.far k (fun x=>by omega)⟩,Nat.le_of_eq hI.size.symm,fun k hk hn=>hI.far k (fun x=>hn x.1)⟩
 ·rw [if_neg hc] at h;cases h
theorem Yp.callsT {aB:Nat→Prop} (aA:Value) (l0:List (List (S69))) (a1:Int) (r:Int) (w0 w:World) (hB:Below w0.heap.size w0 w) (ho0:Kd.R (Kd.slice 69 k69) 50 w w0.heap.size aB aA l0) (h:Yp.f l0 a1=some r) :
  Calls Try.prog 12 #[aA,.int .i64 a1] w fun e w'=>e=.returned (.int .i64 r)∧Below w0.heap.size w0 w'∧Kept w w' (fun k=>∃ q,(q=50∨q=69)∧∃ cells,w.heap[k]?=some (.cells cells q (0,0))):=by
 refine Yp.calls _ aA l0 a1 r w0 w hB (Kd.Yw (Kd.R_bound ho0) (fun k hk=>?_)) h
 obtain ⟨_,_,_,q,hq,hc⟩:=hk;refine ⟨q,?_,hc⟩
 rcases List.mem_cons.1 hq with e|e
 ·exact .inl e
 ·rcases List.mem_cons.1 e with e|e
  ·exact .inr e
  ·rcases List.mem_cons.1 e with e|e
   ·exact .inr e
   ·cases e
end Go.Proofs.Ytlhogkfmdnpmkaa.GWhole
