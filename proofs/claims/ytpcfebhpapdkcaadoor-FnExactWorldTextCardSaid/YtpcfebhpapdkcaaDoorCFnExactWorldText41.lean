import Derived.Test.YtpcfebhpapdkcaaDoorCFnExactWorldText40
import Derived.Test.YtpcfebhpapdkcaaDoorCFnExactWorldText22
namespace Go.Proofs.YtpcfebhpapdkcaaDoor.Open
open Go.RowKit Go.ChangeShapes Go.WideShapes Go.Proofs.YtpcfebhpapdkcaaDoorW.PrintWords Go.Proofs.YtpcfebhpapdkcaaDoorW.PrintLast Go.Proofs.YtpcfebhpapdkcaaDoorW.PrintMore Go.Proofs.YtpcfebhpapdkcaaDoor.GWorld
set_option linter.unusedVariables false
section
variable {H:Type} (enc:TypeId × Value→H) (P:Program) (w:World) (base:Nat) (spare:Nat→Bool) (held:Bool)
def OpensB (N:Nat) {α:Type} (d:Kd α) (wf:α→Prop) (t:TypeId):Prop:=
  d.sz=P.cellsOf t∧∀ fuel cs x,fuel≤N→DataW.trod enc P w base spare held fuel t cs=some x→∃ z,d.K w z cs∧wf z
def OpensBF (N:Nat) {α:Type} (d:Kd α) (wf:α→Prop) (ts:List TypeId):Prop:=
  ∀ n cs,n≤N→Fields enc P w base spare held n ts cs→∃ z,d.K w z cs∧wf z
end
section
variable {H:Type} {enc:TypeId × Value→H} {P:Program} {w:World} {base:Nat} {spare:Nat→Bool} {held:Bool}
theorem Opens.b {α:Type} {d:Kd α} {wf:α→Prop} {t:TypeId} (h:Opens enc P w base spare held d wf t) (N:Nat):OpensB enc P w base spare held N d wf t:=⟨h.1,fun fuel cs x _ hx=>h.2 fuel cs x hx⟩
theorem opens_of_b {α:Type} {d:Kd α} {wf:α→Prop} {t:TypeId} (h:∀ N,OpensB enc P w base spare held N d wf t):Opens enc P w base spare held d wf t:=⟨(h 0).1,fun fuel cs x hx=>(h fuel).2 fuel cs x (Nat.le_refl _) hx⟩
theorem opensBF_one {N:Nat} {α:Type} {d:Kd α} {wf:α→Prop} {t:TypeId} (h:OpensB enc P w base spare held N d wf t):OpensBF enc P w base spare held N d wf [t]:=by
  rintro n cs hn ⟨c0,c1,x,rfl,h0,rfl⟩
  rw [List.append_nil]
  exact h.2 _ _ _ hn h0
theorem opensBF_cons {N:Nat} {α β:Type} {a:Kd α} {b:Kd β} {wa:α→Prop} {wb:β→Prop} {t:TypeId} {r:List TypeId} (ha:OpensB enc P w base spare held N a wa t) (hb:OpensBF enc P w base spare held N b wb r) :
    OpensBF enc P w base spare held N (Kd.pair a b) (fun z=>wa z.1∧wb z.2) (t :: r):=by
  rintro n cs hn ⟨c0,c1,x,rfl,h0,h1⟩
  obtain ⟨za,ka,fa⟩:=ha.2 _ _ _ hn h0
  obtain ⟨zb,kb,fb⟩:=hb _ _ hn h1
  exact ⟨(za,zb),⟨c0,c1,rfl,ka,kb⟩,fa,fb⟩
theorem opensB_struct {N:Nat} {α β:Type} {d:Kd α} {d':Kd β} {wf:α→Prop} {wf':β→Prop} {t:TypeId} {fs:Array Field} (ht:P.underlying t=some (.struct fs)) (hsz:d'.sz=P.cellsOf t) (hlaid:(laidFrom P 0 fs.toList && sizes P fs.toList == P.cellsOf t)=true)
    (hmk:∀ z cs,d.K w z cs→wf z→∃ z',d'.K w z' cs∧wf' z') (h:OpensBF enc P w base spare held N d wf (fs.toList.map (·.type))):OpensB enc P w base spare held (N+1) d' wf' t:=by
  refine ⟨hsz,fun fuel cs x hN hx=>?_⟩
  simp only [Bool.and_eq_true,beq_iff_eq] at hlaid
  obtain ⟨xs,n,rfl,_,hcl,hxl,hf⟩:=DataW.trod_struct ht hx
  have:=fields_of (enc:=enc) (w:=w) (base:=base) (spare:=spare) (held:=held) (n:=n) fs.toList 0 cs hlaid.1 (by omega) (fun f hmem=>by
    obtain ⟨i,hi,rfl⟩:=List.getElem_of_mem hmem
    have h1:=hf i fs.toList[i] (by simp at hi ⊢)
    refine ⟨_,h1.trans (List.getElem?_eq_getElem (by rw [hxl];simpa using hi))⟩)
  obtain ⟨z,hk,hw⟩:=h n cs (by omega) (by simpa using this)
  exact hmk z cs hk hw
theorem opensB_slice {N:Nat} {α:Type} {d:Kd α} {wf:α→Prop} {t e:TypeId} (ht:P.underlying t=some (.slice e)) (hc:P.cellsOf t=1) (h:OpensB enc P w base spare held N d wf e) :
    OpensB enc P w base spare held N (Kd.slice e d) (fun zs=>zs.length≤9223372036854775807∧∀ z ∈ zs,wf z) t:=
  ⟨hc.symm,fun fuel cs x hN hx=>by
    rcases DataW.trod_slice ht hx with ⟨rfl,rfl⟩|⟨a,len,cap,elems,rest,n,rfl,rfl,rfl,hb,hl,hm,hlen,hel,hr1,hr2⟩
    · exact ⟨[],⟨none,0,rfl,Nat.le_refl _,⟨rfl,by simp,fun h=>absurd h (by simp)⟩⟩,by simp,by simp⟩
    · have each:∀ i,i<len→∃ q:α × List Value,w.cells? base (a.add (i * P.cellsOf e)) (P.cellsOf e)=some q.2∧d.K w q.1 q.2∧wf q.1:=fun i hi=>by
        have h1:=hel i hi
        rw [List.getElem?_eq_getElem (by omega)] at h1
        obtain ⟨cs',h2,h3⟩:=Option.bind_eq_some_iff.1 h1
        obtain ⟨z,hk,hz⟩:=h.2 _ _ _ (by omega) h3
        exact ⟨(z,cs'),h2,hk,hz⟩
      have:∃ zs:List α,zs.length=len∧(∀ i z,zs[i]?=some z→∃ cs',w.cells? base (a.add (i * P.cellsOf e)) (P.cellsOf e)=some cs'∧d.K w z cs'∧wf z):=by
        clear hel hl hm hx hlen hr1 hr2
        induction len with
        |zero=>exact ⟨[],rfl,by simp⟩
        |succ k ih=>
          obtain ⟨zs,hzl,hz⟩:=ih (fun i hi=>each i (by omega))
          obtain ⟨q,hq⟩:=each k (by omega)
          refine ⟨zs ++ [q.1],by simp [hzl],fun i z hi=>?_⟩
          rcases Nat.lt_or_ge i zs.length with h1|h1
          · rw [List.getElem?_append_left h1] at hi
            exact hz i z hi
          · rw [List.getElem?_append_right h1] at hi
            have h2:i - zs.length=0:=by
              rcases Nat.eq_zero_or_pos (i - zs.length) with h2|h2
              · exact h2
              · rw [List.getElem?_eq_none (by simp;omega)] at hi;cases hi
            rw [h2] at hi
            obtain rfl:q.1=z:=by simpa using hi
            obtain rfl:i=k:=by omega
            exact ⟨q.2,hq⟩
      obtain ⟨zs,hzl,hz⟩:=this
      subst hzl
      refine ⟨zs,⟨some a,cap,rfl,hl,⟨rfl,by unfold maxLen at hm;omega,fun _=>⟨a,rfl,fun j p hj=>?_⟩⟩⟩,by unfold maxLen at hm;omega,fun z hmem=>?_⟩
      · obtain ⟨cs',h1,hk,_⟩:=hz j p hj
        obtain ⟨_,hlen',hcell⟩:=World.cells?_some h1
        refine ⟨cs',by rw [hlen'];exact h.1.symm,hk,fun i u hi=>?_⟩
        have hi':i<cs'.length:=(List.getElem?_eq_some_iff.1 hi).1
        have:=hcell i (by omega)
        rw [h.1,← add_add]
        rw [this,hi]
      · obtain ⟨i,hi,rfl⟩:=List.getElem_of_mem hmem
        obtain ⟨_,_,_,h3⟩:=hz i _ (List.getElem?_eq_getElem hi)
        exact h3⟩
inductive StmtN:S78→Prop
  |mk (s:S78):Num s.f0→Num s.f1→Num s.f2→Num s.f3→s.f4.length≤9223372036854775807→(∀ z ∈ s.f4,StmtN z)→s.f5.length≤9223372036854775807→(∀ z ∈ s.f5,StmtN z)→StmtN s
theorem opensB_stmt {H:Type} {enc:TypeId × Value→H} {w:World} {base:Nat} {spare:Nat→Bool} {held:Bool}:∀ N,OpensB enc Tryd.prog w base spare held N k78 StmtN 78
  |0=>⟨by kernel_rfl,fun fuel cs x hN hx=>by
      obtain ⟨_,n,h,_⟩:=DataW.trod_struct Tryd.underlying78 hx
      omega⟩
  |N+1=>by
    have I:∀ {t:TypeId},t=3→OpensB enc Tryd.prog w base spare held N (Kd.int .i64) Num t:=fun h=>by subst h;exact (opens_int Tryd.underlying3 (by kernel_rfl)).b N
    have L:=opensB_slice (enc:=enc) (w:=w) (base:=base) (spare:=spare) (held:=held) Tryd.underlying58 (by kernel_rfl) (opensB_stmt N)
    refine opensB_struct Tryd.underlying78 (by kernel_rfl) (by kernel_rfl) ?_ (opensBF_cons (I rfl) (opensBF_cons (I rfl) (opensBF_cons (I rfl) (opensBF_cons (I rfl) (opensBF_cons L (opensBF_one L))))))
    rintro ⟨f0,f1,f2,f3,f4,f5⟩ cs ⟨_,_,rfl,rfl,⟨_,_,rfl,rfl,⟨_,_,rfl,rfl,⟨_,_,rfl,rfl,⟨_,_,rfl,⟨A4,c4,rfl,l4,g4⟩,⟨A5,c5,rfl,l5,g5⟩⟩⟩⟩⟩⟩ ⟨w0,w1,w2,w3,⟨w4,w5⟩,⟨w6,w7⟩⟩
    exact ⟨⟨f0,f1,f2,f3,f4,f5⟩,k78_mk w ⟨f0,f1,f2,f3,f4,f5⟩ l4 g4 l5 g5,StmtN.mk _ w0 w1 w2 w3 w4 w5 w6 w7⟩
theorem opens_stmt {H:Type} {enc:TypeId × Value→H} {w:World} {base:Nat} {spare:Nat→Bool} {held:Bool}:Opens enc Tryd.prog w base spare held k78 StmtN 78:=opens_of_b opensB_stmt
end
end Go.Proofs.YtpcfebhpapdkcaaDoor.Open
