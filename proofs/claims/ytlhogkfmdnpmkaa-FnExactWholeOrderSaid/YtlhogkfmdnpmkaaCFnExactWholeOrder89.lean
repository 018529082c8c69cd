import Derived.Test.YtlhogkfmdnpmkaaCFnExactWholeOrder0
import Derived.Test.YtlhogkfmdnpmkaaCFnExactWholeOrder1
import Derived.Test.YtlhogkfmdnpmkaaCFnExactWholeOrder20
import Derived.ChangeArms
import Derived.Deep.Slices
import Derived.ChangeSlices
import Derived.Test.YtlhogkfmdnpmkaaCFnExactWholeOrder21
namespace Go.Proofs.Ytlhogkfmdnpmkaa.Open
open Go.RowKit Go.ChangeShapes Go.WideShapes Go.Proofs.YtlhogkfmdnpmkaaW.PrintWords Go.Proofs.YtlhogkfmdnpmkaaW.PrintLast Go.Proofs.YtlhogkfmdnpmkaaW.PrintMore
set_option linter.unusedVariables false
section
variable {H:Type} (enc:TypeId × Value→H) (P:Program) (w:World) (base:Nat) (spare:Nat→Bool) (held:Bool)
def Opens {α:Type} (d:Kd α) (wf:α→Prop) (t:TypeId):Prop:=
  d.sz=P.cellsOf t∧∀ fuel cs x,DataW.trod enc P w base spare held fuel t cs=some x→∃ z,d.K w z cs∧wf z
def Fields (n:Nat):List TypeId→List Value→Prop
  |[],cs=>cs=[]
  |t :: r,cs=>∃ c0 c1 x,cs=c0 ++ c1∧DataW.trod enc P w base spare held n t c0=some x∧Fields n r c1
end
section
variable {H:Type} {enc:TypeId × Value→H} {P:Program} {w:World} {base:Nat} {spare:Nat→Bool} {held:Bool}
theorem i64_bounds {n:Int} (h:(Lit.int .i64 n).wf=true):-9223372036854775808≤n∧n≤9223372036854775807:=by
  simp [Lit.wf] at h
  exact h
def Num (n:Int):Prop:=-9223372036854775808≤n∧n≤9223372036854775807
theorem opens_int {t:TypeId} (ht:P.underlying t=some (.int .i64)) (hc:P.cellsOf t=1):Opens enc P w base spare held (Kd.int .i64) Num t:=by
  refine ⟨hc.symm,fun fuel cs x h=>?_⟩
  obtain ⟨n,rfl,_,hw⟩:=DataW.trod_int ht h
  exact ⟨n,rfl,i64_bounds hw⟩
def laidFrom (P:Program):Nat→List Field→Bool
  |_,[]=>true
  |o,f :: r=>f.offset == o && laidFrom P (o+P.cellsOf f.type) r
def sizes (P:Program):List Field→Nat
  |[]=>0
  |f :: r=>P.cellsOf f.type+sizes P r
theorem fields_of {n:Nat}:∀ (fs:List Field) (o:Nat) (cs:List Value),laidFrom P o fs=true→cs.length=o+sizes P fs→
    (∀ f ∈ fs,∃ x,DataW.trod enc P w base spare held n f.type ((cs.drop f.offset).take (P.cellsOf f.type))=some x)→
    Fields enc P w base spare held n (fs.map (·.type)) (cs.drop o)
  |[],o,cs,_,hl,_=>by
    simp [sizes] at hl
    show cs.drop o=[]
    exact List.drop_of_length_le (by omega)
  |f :: r,o,cs,hlaid,hl,h=>by
    simp only [laidFrom,Bool.and_eq_true,beq_iff_eq] at hlaid
    simp only [sizes] at hl
    obtain ⟨x,hx⟩:=h f (List.mem_cons_self)
    rw [hlaid.1] at hx
    refine ⟨_,_,x,(List.take_append_drop (P.cellsOf f.type) (cs.drop o)).symm,hx,?_⟩
    rw [List.drop_drop]
    exact fields_of r _ cs hlaid.2 (by omega) (fun g hg=>h g (List.mem_cons_of_mem _ hg))
theorem slice_elems {α:Type} {d:Kd α} {wf:α→Prop} {t e:TypeId} (ht:P.underlying t=some (.slice e)) (h:Opens enc P w base spare held d wf e) {fuel:Nat} {cs:List Value} {x:DataW H × List MemPlace}
    (hx:DataW.trod enc P w base spare held fuel t cs=some x):∃ (A:Option Addr) (c:Nat) (zs:List α),cs=[.slice A zs.length c]∧zs.length≤c∧c≤maxLen∧Kd.C d w A zs.length zs∧∀ z ∈ zs,wf z:=by
  rcases Deep.open_slice ht hx with ⟨rfl,rfl⟩|⟨a,len,cap,m,n,D,Pl,rfl,hb,hl,hm,hmm,rfl,hel⟩
  · exact ⟨none,0,[],rfl,Nat.le_refl _,by unfold maxLen;omega,⟨rfl,by simp,fun h=>absurd h (by simp)⟩,by simp⟩
  · have hlm:len≤m:=by rw [hmm];split <;> omega
    have each:∀ i,i<len→∃ q:α × List Value,w.cells? base (a.add (i * P.cellsOf e)) (P.cellsOf e)=some q.2∧d.K w q.1 q.2∧wf q.1:=fun i hi=>by
      obtain ⟨cs',h1,h2⟩:=hel i (by omega)
      obtain ⟨z,hk,hz⟩:=h.2 _ _ _ h2
      exact ⟨(z,cs'),h1,hk,hz⟩
    have:∃ zs:List α,zs.length=len∧(∀ i z,zs[i]?=some z→∃ cs',w.cells? base (a.add (i * P.cellsOf e)) (P.cellsOf e)=some cs'∧d.K w z cs'∧wf z):=by
      clear hmm hlm hel hl hm hx
      induction len with
      |zero=>exact ⟨[],rfl,by simp⟩
      |succ k ih=>
        obtain ⟨zs,hzl,hz⟩:=ih (fun i hi=>each i (by omega))
        obtain ⟨q,hq⟩:=each k (by omega)
        refine ⟨zs ++ [q.1],by simp [hzl],fun i z hi=>?_⟩
        rcases Nat.lt_or_ge i zs.length with h1|h1
        · rw [List.getElem?_append_left h1] at hi
          exact hz i z hi
        · rw [List.getElem?_append_right h1] at hi
          have h2:i - zs.length=0:=by
            rcases Nat.eq_zero_or_pos (i - zs.length) with h2|h2
            · exact h2
            · rw [List.getElem?_eq_none (by simp;omega)] at hi;cases hi
          rw [h2] at hi
          obtain rfl:q.1=z:=by simpa using hi
          obtain rfl:i=k:=by omega
          exact ⟨q.2,hq⟩
    obtain ⟨zs,hzl,hz⟩:=this
    subst hzl
    refine ⟨some a,cap,zs,rfl,hl,hm,⟨rfl,by unfold maxLen at hm;omega,fun _=>⟨a,rfl,fun j p hj=>?_⟩⟩,fun z hmem=>?_⟩
    · obtain ⟨cs',h1,hk,_⟩:=hz j p hj
      obtain ⟨_,hlen,hcell⟩:=World.cells?_some h1
      refine ⟨cs',by rw [hlen];exact h.1.symm,hk,fun i u hi=>?_⟩
      have hi':i<cs'.length:=(List.getElem?_eq_some_iff.1 hi).1
      have:=hcell i (by omega)
      rw [h.1,← add_add]
      rw [this,hi]
    · obtain ⟨i,hi,rfl⟩:=List.getElem_of_mem hmem
      obtain ⟨_,_,_,h3⟩:=hz i _ (List.getElem?_eq_getElem hi)
      exact h3
theorem opens_slice {α:Type} {d:Kd α} {wf:α→Prop} {t e:TypeId} (ht:P.underlying t=some (.slice e)) (hc:P.cellsOf t=1) (h:Opens enc P w base spare held d wf e) :
    Opens enc P w base spare held (Kd.slice e d) (fun zs=>zs.length≤9223372036854775807∧∀ z ∈ zs,wf z) t:=
  ⟨hc.symm,fun fuel cs x hx=>by
    obtain ⟨A,c,zs,rfl,hl,hm,hC,hw⟩:=slice_elems ht h hx
    exact ⟨zs,⟨A,c,rfl,hl,hC⟩,by unfold maxLen at hm;omega,hw⟩⟩
theorem slice_arg {α:Type} {d:Kd α} {wf:α→Prop} {t e:TypeId} (ht:P.underlying t=some (.slice e)) (h:Opens enc P w base spare held d wf e) {A:Option Addr} {len cap:Nat} {x:DataW H} {p:List MemPlace}
    (hx:DataW.Trod enc P w base spare held t (.slice A len cap) x p):∃ zs:List α,zs.length=len∧len≤cap∧cap≤maxLen∧Kd.C d w A zs.length zs∧∀ z ∈ zs,wf z:=by
  obtain ⟨fuel,hf⟩:=hx
  obtain ⟨A',c',zs,he,hl,hm,hC,hw⟩:=slice_elems ht h hf
  simp [Value.cells] at he
  obtain ⟨rfl,rfl,rfl⟩:=he
  exact ⟨zs,rfl,hl,hm,hC,hw⟩
end
end Go.Proofs.Ytlhogkfmdnpmkaa.Open
namespace Go.Proofs.Ytlhogkfmdnpmkaa.Open
open Go.RowKit Go.ChangeShapes Go.WideShapes Go.Proofs.YtlhogkfmdnpmkaaW.PrintWords Go.Proofs.YtlhogkfmdnpmkaaW.PrintLast Go.Proofs.YtlhogkfmdnpmkaaW.PrintMore Go.Proofs.Ytlhogkfmdnpmkaa.GWhole
set_option linter.unusedVariables false
section
variable {H:Type} (enc:TypeId × Value→H) (P:Program) (w:World) (base:Nat) (spare:Nat→Bool) (held:Bool)
def OpensB (N:Nat) {α:Type} (d:Kd α) (wf:α→Prop) (t:TypeId):Prop:=
  d.sz=P.cellsOf t∧∀ fuel cs x,fuel≤N→DataW.trod enc P w base spare held fuel t cs=some x→∃ z,d.K w z cs∧wf z
def OpensBF (N:Nat) {α:Type} (d:Kd α) (wf:α→Prop) (ts:List TypeId):Prop:=
  ∀ n cs,n≤N→Fields enc P w base spare held n ts cs→∃ z,d.K w z cs∧wf z
end
section
variable {H:Type} {enc:TypeId × Value→H} {P:Program} {w:World} {base:Nat} {spare:Nat→Bool} {held:Bool}
theorem Opens.b {α:Type} {d:Kd α} {wf:α→Prop} {t:TypeId} (h:Opens enc P w base spare held d wf t) (N:Nat):OpensB enc P w base spare held N d wf t:=⟨h.1,fun fuel cs x _ hx=>h.2 fuel cs x hx⟩
theorem opens_of_b {α:Type} {d:Kd α} {wf:α→Prop} {t:TypeId} (h:∀ N,OpensB enc P w base spare held N d wf t):Opens enc P w base spare held d wf t:=⟨(h 0).1,fun fuel cs x hx=>(h fuel).2 fuel cs x (Nat.le_refl _) hx⟩
theorem opensBF_one {N:Nat} {α:Type} {d:Kd α} {wf:α→Prop} {t:TypeId} (h:OpensB enc P w base spare held N d wf t):OpensBF enc P w base spare held N d wf [t]:=by
  rintro n cs hn ⟨c0,c1,x,rfl,h0,rfl⟩
  rw [List.append_nil]
  exact h.2 _ _ _ hn h0
theorem opensBF_cons {N:Nat} {α β:Type} {a:Kd α} {b:Kd β} {wa:α→Prop} {wb:β→Prop} {t:TypeId} {r:List TypeId} (ha:OpensB enc P w base spare held N a wa t) (hb:OpensBF enc P w base spare held N b wb r) :
    OpensBF enc P w base spare held N (Kd.pair a b) (fun z=>wa z.1∧wb z.2) (t :: r):=by
  rintro n cs hn ⟨c0,c1,x,rfl,h0,h1⟩
  obtain ⟨za,ka,fa⟩:=ha.2 _ _ _ hn h0
  obtain ⟨zb,kb,fb⟩:=hb _ _ hn h1
  exact ⟨(za,zb),⟨c0,c1,rfl,ka,kb⟩,fa,fb⟩
theorem opensB_struct {N:Nat} {α β:Type} {d:Kd α} {d':Kd β} {wf:α→Prop} {wf':β→Prop} {t:TypeId} {fs:Array Field} (ht:P.underlying t=some (.struct fs)) (hsz:d'.sz=P.cellsOf t) (hlaid:(laidFrom P 0 fs.toList && sizes P fs.toList == P.cellsOf t)=true)
    (hmk:∀ z cs,d.K w z cs→wf z→∃ z',d'.K w z' cs∧wf' z') (h:OpensBF enc P w base spare held N d wf (fs.toList.map (·.type))):OpensB enc P w base spare held (N+1) d' wf' t:=by
  refine ⟨hsz,fun fuel cs x hN hx=>?_⟩
  simp only [Bool.and_eq_true,beq_iff_eq] at hlaid
  obtain ⟨xs,n,rfl,_,hcl,hxl,hf⟩:=DataW.trod_struct ht hx
  have:=fields_of (enc:=enc) (w:=w) (base:=base) (spare:=spare) (held:=held) (n:=n) fs.toList 0 cs hlaid.1 (by omega) (fun f hmem=>by
    obtain ⟨i,hi,rfl⟩:=List.getElem_of_mem hmem
    have h1:=hf i fs.toList[i] (by simp at hi ⊢)
    refine ⟨_,h1.trans (List.getElem?_eq_getElem (by rw [hxl];simpa using hi))⟩)
  obtain ⟨z,hk,hw⟩:=h n cs (by omega) (by simpa using this)
  exact hmk z cs hk hw
theorem opensB_slice {N:Nat} {α:Type} {d:Kd α} {wf:α→Prop} {t e:TypeId} (ht:P.underlying t=some (.slice e)) (hc:P.cellsOf t=1) (h:OpensB enc P w base spare held N d wf e) :
    OpensB enc P w base spare held N (Kd.slice e d) (fun zs=>zs.length≤9223372036854775807∧∀ z ∈ zs,wf z) t:=
  ⟨hc.symm,fun fuel cs x hN hx=>by
    rcases DataW.trod_slice ht hx with ⟨rfl,rfl⟩|⟨a,len,cap,elems,rest,n,rfl,rfl,rfl,hb,hl,hm,hlen,hel,hr1,hr2⟩
    · exact ⟨[],⟨none,0,rfl,Nat.le_refl _,⟨rfl,by simp,fun h=>absurd h (by simp)⟩⟩,by simp,by simp⟩
    · have each:∀ i,i<len→∃ q:α × List Value,w.cells? base (a.add (i * P.cellsOf e)) (P.cellsOf e)=some q.2∧d.K w q.1 q.2∧wf q.1:=fun i hi=>by
        have h1:=hel i hi
        rw [List.getElem?_eq_getElem (by omega)] at h1
        obtain ⟨cs',h2,h3⟩:=Option.bind_eq_some_iff.1 h1
        obtain ⟨z,hk,hz⟩:=h.2 _ _ _ (by omega) h3
        exact ⟨(z,cs'),h2,hk,hz⟩
      have:∃ zs:List α,zs.length=len∧(∀ i z,zs[i]?=some z→∃ cs',w.cells? base (a.add (i * P.cellsOf e)) (P.cellsOf e)=some cs'∧d.K w z cs'∧wf z):=by
        clear hel hl hm hx hlen hr1 hr2
        induction len with
        |zero=>exact ⟨[],rfl,by simp⟩
        |succ k ih=>
          obtain ⟨zs,hzl,hz⟩:=ih (fun i hi=>each i (by omega))
          obtain ⟨q,hq⟩:=each k (by omega)
          refine ⟨zs ++ [q.1],by simp [hzl],fun i z hi=>?_⟩
          rcases Nat.lt_or_ge i zs.length with h1|h1
          · rw [List.getElem?_append_left h1] at hi
            exact hz i z hi
          · rw [List.getElem?_append_right h1] at hi
            have h2:i - zs.length=0:=by
              rcases Nat.eq_zero_or_pos (i - zs.length) with h2|h2
              · exact h2
              · rw [List.getElem?_eq_none (by simp;omega)] at hi;cases hi
            rw [h2] at hi
            obtain rfl:q.1=z:=by simpa using hi
            obtain rfl:i=k:=by omega
            exact ⟨q.2,hq⟩
      obtain ⟨zs,hzl,hz⟩:=this
      subst hzl
      refine ⟨zs,⟨some a,cap,rfl,hl,⟨rfl,by unfold maxLen at hm;omega,fun _=>⟨a,rfl,fun j p hj=>?_⟩⟩⟩,by unfold maxLen at hm;omega,fun z hmem=>?_⟩
      · obtain ⟨cs',h1,hk,_⟩:=hz j p hj
        obtain ⟨_,hlen',hcell⟩:=World.cells?_some h1
        refine ⟨cs',by rw [hlen'];exact h.1.symm,hk,fun i u hi=>?_⟩
        have hi':i<cs'.length:=(List.getElem?_eq_some_iff.1 hi).1
        have:=hcell i (by omega)
        rw [h.1,← add_add]
        rw [this,hi]
      · obtain ⟨i,hi,rfl⟩:=List.getElem_of_mem hmem
        obtain ⟨_,_,_,h3⟩:=hz i _ (List.getElem?_eq_getElem hi)
        exact h3⟩
inductive StmtN:S65→Prop
  |mk (s:S65):Num s.f0→Num s.f1→Num s.f2→Num s.f3→s.f4.length≤9223372036854775807→(∀ z ∈ s.f4,StmtN z)→s.f5.length≤9223372036854775807→(∀ z ∈ s.f5,StmtN z)→StmtN s
theorem opensB_stmt {H:Type} {enc:TypeId × Value→H} {w:World} {base:Nat} {spare:Nat→Bool} {held:Bool}:∀ N,OpensB enc Try.prog w base spare held N k65 StmtN 65
  |0=>⟨by kernel_rfl,fun fuel cs x hN hx=>by
      obtain ⟨_,n,h,_⟩:=DataW.trod_struct Try.underlying65 hx
      omega⟩
  |N+1=>by
    have I:∀ {t:TypeId},t=3→OpensB enc Try.prog w base spare held N (Kd.int .i64) Num t:=fun h=>by subst h;exact (opens_int Try.underlying3 (by kernel_rfl)).b N
    have L:=opensB_slice (enc:=enc) (w:=w) (base:=base) (spare:=spare) (held:=held) Try.underlying40 (by kernel_rfl) (opensB_stmt N)
    refine opensB_struct Try.underlying65 (by kernel_rfl) (by kernel_rfl) ?_ (opensBF_cons (I rfl) (opensBF_cons (I rfl) (opensBF_cons (I rfl) (opensBF_cons (I rfl) (opensBF_cons L (opensBF_one L))))))
    rintro ⟨f0,f1,f2,f3,f4,f5⟩ cs ⟨_,_,rfl,rfl,⟨_,_,rfl,rfl,⟨_,_,rfl,rfl,⟨_,_,rfl,rfl,⟨_,_,rfl,⟨A4,c4,rfl,l4,g4⟩,⟨A5,c5,rfl,l5,g5⟩⟩⟩⟩⟩⟩ ⟨w0,w1,w2,w3,⟨w4,w5⟩,⟨w6,w7⟩⟩
    exact ⟨⟨f0,f1,f2,f3,f4,f5⟩,k65_mk w ⟨f0,f1,f2,f3,f4,f5⟩ l4 g4 l5 g5,StmtN.mk _ w0 w1 w2 w3 w4 w5 w6 w7⟩
theorem opens_stmt {H:Type} {enc:TypeId × Value→H} {w:World} {base:Nat} {spare:Nat→Bool} {held:Bool}:Opens enc Try.prog w base spare held k65 StmtN 65:=opens_of_b opensB_stmt
end
end Go.Proofs.Ytlhogkfmdnpmkaa.Open
