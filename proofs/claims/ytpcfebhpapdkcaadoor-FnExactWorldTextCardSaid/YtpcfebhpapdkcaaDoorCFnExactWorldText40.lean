import Derived.Test.YtpcfebhpapdkcaaDoorCFnExactWorldText1
import Derived.Test.YtpcfebhpapdkcaaDoorCFnExactWorldText2
import Derived.Test.YtpcfebhpapdkcaaDoorCFnExactWorldText21
import Derived.ChangeArms
import Derived.Deep.Slices
import Derived.ChangeSlices
namespace Go.Proofs.YtpcfebhpapdkcaaDoor.Open
open Go.RowKit Go.ChangeShapes Go.WideShapes Go.Proofs.YtpcfebhpapdkcaaDoorW.PrintWords Go.Proofs.YtpcfebhpapdkcaaDoorW.PrintLast Go.Proofs.YtpcfebhpapdkcaaDoorW.PrintMore
set_option linter.unusedVariables false
section
variable {H:Type} (enc:TypeId × Value→H) (P:Program) (w:World) (base:Nat) (spare:Nat→Bool) (held:Bool)
def Opens {α:Type} (d:Kd α) (wf:α→Prop) (t:TypeId):Prop:=
  d.sz=P.cellsOf t∧∀ fuel cs x,DataW.trod enc P w base spare held fuel t cs=some x→∃ z,d.K w z cs∧wf z
def Fields (n:Nat):List TypeId→List Value→Prop
  |[],cs=>cs=[]
  |t :: r,cs=>∃ c0 c1 x,cs=c0 ++ c1∧DataW.trod enc P w base spare held n t c0=some x∧Fields n r c1
def OpensF {α:Type} (d:Kd α) (wf:α→Prop) (ts:List TypeId):Prop:=
  ∀ n cs,Fields enc P w base spare held n ts cs→∃ z,d.K w z cs∧wf z
end
section
variable {H:Type} {enc:TypeId × Value→H} {P:Program} {w:World} {base:Nat} {spare:Nat→Bool} {held:Bool}
theorem i64_bounds {n:Int} (h:(Lit.int .i64 n).wf=true):-9223372036854775808≤n∧n≤9223372036854775807:=by
  simp [Lit.wf] at h
  exact h
def Num (n:Int):Prop:=-9223372036854775808≤n∧n≤9223372036854775807
theorem opens_int {t:TypeId} (ht:P.underlying t=some (.int .i64)) (hc:P.cellsOf t=1):Opens enc P w base spare held (Kd.int .i64) Num t:=by
  refine ⟨hc.symm,fun fuel cs x h=>?_⟩
  obtain ⟨n,rfl,_,hw⟩:=DataW.trod_int ht h
  exact ⟨n,rfl,i64_bounds hw⟩
theorem opensF_one {α:Type} {d:Kd α} {wf:α→Prop} {t:TypeId} (h:Opens enc P w base spare held d wf t):OpensF enc P w base spare held d wf [t]:=by
  rintro n cs ⟨c0,c1,x,rfl,h0,rfl⟩
  rw [List.append_nil]
  exact h.2 _ _ _ h0
theorem opensF_cons {α β:Type} {a:Kd α} {b:Kd β} {wa:α→Prop} {wb:β→Prop} {t:TypeId} {r:List TypeId} (ha:Opens enc P w base spare held a wa t) (hb:OpensF enc P w base spare held b wb r) :
    OpensF enc P w base spare held (Kd.pair a b) (fun z=>wa z.1∧wb z.2) (t :: r):=by
  rintro n cs ⟨c0,c1,x,rfl,h0,h1⟩
  obtain ⟨za,ka,fa⟩:=ha.2 _ _ _ h0
  obtain ⟨zb,kb,fb⟩:=hb _ _ h1
  exact ⟨(za,zb),⟨c0,c1,rfl,ka,kb⟩,fa,fb⟩
def laidFrom (P:Program):Nat→List Field→Bool
  |_,[]=>true
  |o,f :: r=>f.offset == o && laidFrom P (o+P.cellsOf f.type) r
def sizes (P:Program):List Field→Nat
  |[]=>0
  |f :: r=>P.cellsOf f.type+sizes P r
theorem fields_of {n:Nat}:∀ (fs:List Field) (o:Nat) (cs:List Value),laidFrom P o fs=true→cs.length=o+sizes P fs→
    (∀ f ∈ fs,∃ x,DataW.trod enc P w base spare held n f.type ((cs.drop f.offset).take (P.cellsOf f.type))=some x)→
    Fields enc P w base spare held n (fs.map (·.type)) (cs.drop o)
  |[],o,cs,_,hl,_=>by
    simp [sizes] at hl
    show cs.drop o=[]
    exact List.drop_of_length_le (by omega)
  |f :: r,o,cs,hlaid,hl,h=>by
    simp only [laidFrom,Bool.and_eq_true,beq_iff_eq] at hlaid
    simp only [sizes] at hl
    obtain ⟨x,hx⟩:=h f (List.mem_cons_self)
    rw [hlaid.1] at hx
    refine ⟨_,_,x,(List.take_append_drop (P.cellsOf f.type) (cs.drop o)).symm,hx,?_⟩
    rw [List.drop_drop]
    exact fields_of r _ cs hlaid.2 (by omega) (fun g hg=>h g (List.mem_cons_of_mem _ hg))
theorem opens_struct {α:Type} {d:Kd α} {wf:α→Prop} {t:TypeId} {fs:Array Field} (ht:P.underlying t=some (.struct fs)) (hsz:d.sz=P.cellsOf t) (hlaid:(laidFrom P 0 fs.toList && sizes P fs.toList == P.cellsOf t)=true)
    (h:OpensF enc P w base spare held d wf (fs.toList.map (·.type))):Opens enc P w base spare held d wf t:=by
  refine ⟨hsz,fun fuel cs x hx=>?_⟩
  simp only [Bool.and_eq_true,beq_iff_eq] at hlaid
  obtain ⟨xs,n,_,_,hcl,hxl,hf⟩:=DataW.trod_struct ht hx
  have:=fields_of (enc:=enc) (w:=w) (base:=base) (spare:=spare) (held:=held) (n:=n) fs.toList 0 cs hlaid.1 (by omega) (fun f hmem=>by
    obtain ⟨i,hi,rfl⟩:=List.getElem_of_mem hmem
    have h1:=hf i fs.toList[i] (by simp at hi ⊢)
    refine ⟨_,h1.trans (List.getElem?_eq_getElem (by rw [hxl];simpa using hi))⟩)
  exact h n cs (by simpa using this)
theorem opens_iso {α β:Type} {d:Kd α} {wf:α→Prop} {t:TypeId} (f:β→α) (g:α→β) (hfg:∀ z,f (g z)=z) (h:Opens enc P w base spare held d wf t):Opens enc P w base spare held (Kd.iso d f) (fun z=>wf (f z)) t:=
  ⟨h.1,fun fuel cs x hx=>by
    obtain ⟨z,hk,hw⟩:=h.2 fuel cs x hx
    exact ⟨g z,by show d.K w (f (g z)) cs;rw [hfg];exact hk,by show wf (f (g z));rw [hfg];exact hw⟩⟩
theorem slice_elems {α:Type} {d:Kd α} {wf:α→Prop} {t e:TypeId} (ht:P.underlying t=some (.slice e)) (h:Opens enc P w base spare held d wf e) {fuel:Nat} {cs:List Value} {x:DataW H × List MemPlace}
    (hx:DataW.trod enc P w base spare held fuel t cs=some x):∃ (A:Option Addr) (c:Nat) (zs:List α),cs=[.slice A zs.length c]∧zs.length≤c∧c≤maxLen∧Kd.C d w A zs.length zs∧∀ z ∈ zs,wf z:=by
  rcases Deep.open_slice ht hx with ⟨rfl,rfl⟩|⟨a,len,cap,m,n,D,Pl,rfl,hb,hl,hm,hmm,rfl,hel⟩
  · exact ⟨none,0,[],rfl,Nat.le_refl _,by unfold maxLen;omega,⟨rfl,by simp,fun h=>absurd h (by simp)⟩,by simp⟩
  · have hlm:len≤m:=by rw [hmm];split <;> omega
    have each:∀ i,i<len→∃ q:α × List Value,w.cells? base (a.add (i * P.cellsOf e)) (P.cellsOf e)=some q.2∧d.K w q.1 q.2∧wf q.1:=fun i hi=>by
      obtain ⟨cs',h1,h2⟩:=hel i (by omega)
      obtain ⟨z,hk,hz⟩:=h.2 _ _ _ h2
      exact ⟨(z,cs'),h1,hk,hz⟩
    have:∃ zs:List α,zs.length=len∧(∀ i z,zs[i]?=some z→∃ cs',w.cells? base (a.add (i * P.cellsOf e)) (P.cellsOf e)=some cs'∧d.K w z cs'∧wf z):=by
      clear hmm hlm hel hl hm hx
      induction len with
      |zero=>exact ⟨[],rfl,by simp⟩
      |succ k ih=>
        obtain ⟨zs,hzl,hz⟩:=ih (fun i hi=>each i (by omega))
        obtain ⟨q,hq⟩:=each k (by omega)
        refine ⟨zs ++ [q.1],by simp [hzl],fun i z hi=>?_⟩
        rcases Nat.lt_or_ge i zs.length with h1|h1
        · rw [List.getElem?_append_left h1] at hi
          exact hz i z hi
        · rw [List.getElem?_append_right h1] at hi
          have h2:i - zs.length=0:=by
            rcases Nat.eq_zero_or_pos (i - zs.length) with h2|h2
            · exact h2
            · rw [List.getElem?_eq_none (by simp;omega)] at hi;cases hi
          rw [h2] at hi
          obtain rfl:q.1=z:=by simpa using hi
          obtain rfl:i=k:=by omega
          exact ⟨q.2,hq⟩
    obtain ⟨zs,hzl,hz⟩:=this
    subst hzl
    refine ⟨some a,cap,zs,rfl,hl,hm,⟨rfl,by unfold maxLen at hm;omega,fun _=>⟨a,rfl,fun j p hj=>?_⟩⟩,fun z hmem=>?_⟩
    · obtain ⟨cs',h1,hk,_⟩:=hz j p hj
      obtain ⟨_,hlen,hcell⟩:=World.cells?_some h1
      refine ⟨cs',by rw [hlen];exact h.1.symm,hk,fun i u hi=>?_⟩
      have hi':i<cs'.length:=(List.getElem?_eq_some_iff.1 hi).1
      have:=hcell i (by omega)
      rw [h.1,← add_add]
      rw [this,hi]
    · obtain ⟨i,hi,rfl⟩:=List.getElem_of_mem hmem
      obtain ⟨_,_,_,h3⟩:=hz i _ (List.getElem?_eq_getElem hi)
      exact h3
theorem opens_slice {α:Type} {d:Kd α} {wf:α→Prop} {t e:TypeId} (ht:P.underlying t=some (.slice e)) (hc:P.cellsOf t=1) (h:Opens enc P w base spare held d wf e) :
    Opens enc P w base spare held (Kd.slice e d) (fun zs=>zs.length≤9223372036854775807∧∀ z ∈ zs,wf z) t:=
  ⟨hc.symm,fun fuel cs x hx=>by
    obtain ⟨A,c,zs,rfl,hl,hm,hC,hw⟩:=slice_elems ht h hx
    exact ⟨zs,⟨A,c,rfl,hl,hC⟩,by unfold maxLen at hm;omega,hw⟩⟩
end
end Go.Proofs.YtpcfebhpapdkcaaDoor.Open
