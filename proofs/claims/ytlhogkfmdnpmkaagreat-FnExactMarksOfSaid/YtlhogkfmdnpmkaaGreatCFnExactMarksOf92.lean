import Derived.Test.YtlhogkfmdnpmkaaGreatCFnExactMarksOf90
import Derived.Test.YtlhogkfmdnpmkaaGreatCFnExactMarksOf89
set_option linter.unusedSectionVars false
set_option linter.unusedVariables false
namespace Go.Proofs.YtlhogkfmdnpmkaaGreat.Mean
open RowKit GMarks YtlhogkfmdnpmkaaGreatW.PrintWords YtlhogkfmdnpmkaaGreatW.PrintMore
variable [Prot]
def saidL (s:WS):List S118:=s.said.map fun x=>⟨x.1,x.2⟩
def signsL (s:WS):List (List Int):=[s.sign 0,s.sign 1]
theorem rd_intsL {n i:Nat} (f:Nat→Int) (h:i<n):rd (Yo n f) (i:Int)=f i:=by
 unfold rd Yo;simp [List.getD_eq_getElem?_getD,h]
theorem rd_procsL {s:WS} {i:Nat} (h:i<s.n):Xk (procsL s) (i:Int)=asP (s.proc i):=by
 unfold Xk procsL;simp [List.getD_eq_getElem?_getD,h]
theorem said_C {W:World} {base:Nat} {v:Value} {l:List (Int × Int)} (h:W.ownsRow base 118 2 v l.length (saidC l)):∃ A c,v=.slice A (l.map fun x=>(⟨x.1,x.2⟩:S118)).length c∧(l.map fun x=>(⟨x.1,x.2⟩:S118)).length≤c∧k118.C W A (l.map fun x=>(⟨x.1,x.2⟩:S118)).length (l.map fun x=>(⟨x.1,x.2⟩:S118)):=by
 have hl:(l.map fun x=>(⟨x.1,x.2⟩:S118)).length=l.length:=List.length_map _
 have hR:k118.R 118 W base (fun _=>True) v (l.map fun x=>(⟨x.1,x.2⟩:S118)):=by
  refine ⟨fun _ _=>trivial,saidC l,by rw [hl];exact h,?_⟩;refine ⟨by rw [hl];have:=h.1;rw [this];rfl,fun j p hj=>?_⟩;rw [List.getElem?_map] at hj;obtain ⟨x,hx,rfl⟩:=Option.map_eq_some_iff.1 hj
  have e:((saidC l).drop (j * 2)).take 2=[.int .i64 x.1,.int .i64 x.2]:=by
   clear h hl hj
   induction l generalizing j with
   |nil=>simp at hx
   |cons a r ih=>
    cases j with
    |zero=>simp at hx;subst hx;simp [saidC]
    |succ j=>
     have:=ih j (by simpa using hx)
     rw [show (j+1) * 2=j * 2+2 by omega];show (([Value.int .i64 a.1,.int .i64 a.2] ++ saidC r).drop (j * 2+2)).take 2=_
     rw [Nat.add_comm,← List.drop_drop];exact this
  show k118.M _ _ _ _ (((saidC l).drop (j * 2)).take 2)
  rw [e];exact k118_mkM _ _ _ _
 obtain ⟨A,c,e⟩:=Kd.Zq hR;rw [e] at hR;obtain ⟨_,h2,h3⟩:=Kd.V_reads' (Kd.R_V (base':=base) hR);exact ⟨A,c,e,h2,h3⟩
theorem At.signs_C {W:World} {base:Nat} {ok:Nat→Prop} {b:BK} {s:WS} (h:At W base ok b s):∃ A c,b.s=.slice A (signsL s).length c∧(signsL s).length≤c∧(Kd.slice 3 (Kd.int .i64)).C W A (signsL s).length (signsL s):=by
 obtain ⟨g,cap,e,_,_,_,_,hcap⟩:=row_form (h.rows.at_ 3 _ rfl) (show 0<2 by omega);obtain ⟨_,hc,_⟩:=h.signs_at e;refine ⟨some ⟨g,0,none⟩,cap,e,hcap,rfl,by show 2≤9223372036854775807;decide,fun _=>⟨_,rfl,fun j p hj=>?_⟩⟩;have hj2:j<2:=(List.getElem?_eq_some_iff.1 hj).1
 have ep:p=s.sign j:=by
  rcases (show j=0∨j=1 by omega) with rfl|rfl <;> (injection hj with hj;exact hj.symm)
 subst ep;have hq:(Kd.int .i64).Q 3 W base (fun _=>True) (b.q j) (s.sign j):=Q_of_q (h.queue hj2) (fun _ _=>trivial);obtain ⟨A,c,eq,hl,hC⟩:=Kd.Q_reads hq;refine ⟨[b.q j],rfl,⟨A,c,by rw [eq],hl,hC⟩,fun i u hu=>?_⟩
 cases i with
 |succ i=>simp at hu
 |zero=>
  simp at hu;subst hu;rw [add_plain];show W.cell? ⟨g,j * 1+0,none⟩=_
  rw [Nat.mul_one,Nat.add_zero];exact hc j hj2
structure Reads (W:World) (b:BK) (s:WS) (A0 A1 A2 A3 A4:Option Addr) (c0 c1 c2 c3 c4:Nat):Prop where
 v:RV b=.agg #[.slice A0 (procsL s).length c0,.slice A1 (Yo 3 s.cell).length c1,.slice A2 (Yo 2 s.room).length c2,.slice A3 (signsL s).length c3,.slice A4 (saidL s).length c4]
 p:k85.C W A0 (procsL s).length (procsL s)
 pl:(procsL s).length≤c0
 c:(Kd.int .i64).C W A1 (Yo 3 s.cell).length (Yo 3 s.cell)
 cl:(Yo 3 s.cell).length≤c1
 m:(Kd.int .i64).C W A2 (Yo 2 s.room).length (Yo 2 s.room)
 ml:(Yo 2 s.room).length≤c2
 g:(Kd.slice 3 (Kd.int .i64)).C W A3 (signsL s).length (signsL s)
 gl:(signsL s).length≤c3
 d:k118.C W A4 (saidL s).length (saidL s)
 dl:(saidL s).length≤c4
theorem At.reads {W:World} {base:Nat} {ok:Nat→Prop} {b:BK} {s:WS} (h:At W base ok b s) (hn:0<s.n) (hn2:s.n≤1000):∃ A0 A1 A2 A3 A4 c0 c1 c2 c3 c4,Reads W b s A0 A1 A2 A3 A4 c0 c1 c2 c3 c4:=by
 obtain ⟨A0,c0,e0,l0,h0⟩:=h.procs_C hn hn2;obtain ⟨A1,c1,e1,l1,h1⟩:=ints_C (show W.ownsRow base 3 1 b.c 3 (ints 3 s.cell) from h.rows.at_ 1 _ rfl);obtain ⟨A2,c2,e2,l2,h2⟩:=ints_C (show W.ownsRow base 3 1 b.m 2 (ints 2 s.room) from h.rows.at_ 2 _ rfl);obtain ⟨A3,c3,e3,l3,h3⟩:=h.signs_C;obtain ⟨A4,c4,e4,l4,h4⟩:=said_C (show W.ownsRow base 118 2 b.d s.said.length (saidC s.said) from h.rows.at_ 4 _ rfl);exact ⟨A0,A1,A2,A3,A4,c0,c1,c2,c3,c4,by unfold RV;rw [e0,e1,e2,e3,e4];rfl,h0,l0,h1,l1,h2,l2,h3,l3,h4,l4⟩
theorem procsL_len (s:WS):(procsL s).length=s.n:=by simp [procsL]
theorem code_ref {s:WS} {K:Nat} (inv:Inv s K) (who:Int):Yu.f 2 (procsL s) (Yo 3 s.cell) (Yo 2 s.room) (signsL s) (saidL s) who=some (code s who):=by
 unfold Yu.f code;rw [procsL_len];by_cases h0:who<0
 ·rw [if_pos h0,if_pos (.inl h0)];rfl
 ·rw [if_neg h0];by_cases h1:(s.n:Int)≤who
  ·have e:decide (who ≥ (s.n:Int))=true:=dt_ h1;rw [if_pos (.inr h1),e];rfl
  ·have e:decide (who ≥ (s.n:Int))=false:=df_ om_;rw [if_neg om_,e];obtain ⟨i,rfl⟩:=Int.eq_ofNat_of_zero_le (show 0≤who by omega)
   have hi:i<s.n:=om_
   have hrr:∀ r:Nat,r<2→(s.room r > 0↔s.room r≠0):=fun r hr=>by
    rcases inv.rooms r hr with h|⟨j,_,h⟩ <;> omega
   rw [Yu.j0];show _=some (codeN s i)
   unfold codeN;rw [if_neg de_,if_pos om_,procsL_len,if_pos om_,rd_procsL hi];show (if (s.proc i).mode=1 then _ else _)=_
   by_cases m1:(s.proc i).mode=1
   ·rw [if_pos m1,if_pos m1];rfl
   ·rw [if_neg m1,if_neg m1];show (if (s.proc i).mode=2 then _ else _)=_
    by_cases m2:(s.proc i).mode=2
    ·have hroom:0≤(s.proc i).room∧(s.proc i).room<2:=by
      rcases inv.mode i hi with hm|hm
      ·omega
      ·rcases inv.room hi with hr|hr
       ·omega
       ·exact hr
     obtain ⟨r,hr⟩:=Int.eq_ofNat_of_zero_le hroom.1
     have hr2:r<2:=om_
     rw [if_pos m2,if_pos m2];show (if 0≤(s.proc i).room then (if (s.proc i).room<((Yo 2 s.room).length:Int) then _ else _) else _)=_
     have hl:(Yo 2 s.room).length=2:=rfl;rw [if_pos hroom.1,hl,if_pos (show (s.proc i).room<((2:Nat):Int) from hroom.2)];show Yu.j1 1 (decide (rd (Yo 2 s.room) (s.proc i).room > 0)) _ _ _ _ _ _ (s.proc i).todo (s.proc i).mode _ _=_
     rw [hr,rd_intsL _ hr2];show _=some (if s.room r=0 then 0 else 2)
     rw [Yu.j1];by_cases z:s.room r=0
     ·have e2:decide (s.room r > 0)=false:=df_ om_;rw [e2,if_neg de_,if_pos m2,if_pos z]
     ·have e2:decide (s.room r > 0)=true:=dt_ ((hrr r hr2).2 z);rw [e2,if_pos rfl,if_neg z]
    ·rw [if_neg m2,if_neg m2];show Yu.j1 1 false _ _ _ _ _ _ (s.proc i).todo (s.proc i).mode _ _=_
     rw [Yu.j1];rw [if_neg de_,if_neg m2];have hok:=inv.todo i hi
     cases ht:(s.proc i).todo with
     |nil=>rfl
     |cons t l=>
      rw [ht] at hok
      have n0:((t :: l).length:Int)=(l.length:Int)+1:=by rw [List.length_cons];omega
      rw [if_neg om_,if_pos om_];have er:Xe (t :: l) 0=t:=rfl;rw [er];show _=some (if t.f0=8∧s.room t.f1.toNat≠0 then 2 else 0)
      by_cases h8:t.f0=8
      ·have ha:0≤t.f1∧t.f1<2:=by
        rcases hok.first with ⟨hf,_⟩|⟨_,_,rfl,_⟩
        ·have:=hf.head;unfold Head at this;omega
        ·exact absurd (show (12:Int)=8 from h8) de_
       obtain ⟨a,ea⟩:=Int.eq_ofNat_of_zero_le ha.1
       have ha2:a<2:=om_
       have hl:(Yo 2 s.room).length=2:=rfl;rw [if_pos h8,if_pos ha.1,hl,if_pos (show t.f1<((2:Nat):Int) from ha.2),ea,rd_intsL _ ha2];show _=some (if t.f0=8∧s.room a≠0 then 2 else 0)
       by_cases z:s.room a=0
       ·rw [if_neg om_,if_neg (fun h=>h.2 z)]
       ·rw [if_pos ((hrr a ha2).2 z),if_pos ⟨h8,z⟩]
      ·rw [if_neg h8,if_neg (fun h=>h8 h.1)]
theorem rcode_do (W:World) (base:Nat) (ok:Nat→Prop) (b:BK) (s:WS) (K:Nat) (h:At W base ok b s) (inv:Inv s K) (who:Int) :
  Calls Tryz.prog 33 #[RV b,.int .i64 who] W fun e W'=>e=.returned (.int .i64 (code s who))∧Below W.heap.size W W':=by
 have hn:=inv.n;obtain ⟨A0,A1,A2,A3,A4,c0,c1,c2,c3,c4,R⟩:=h.reads om_ om_;rw [R.v];exact Yu.calls 2 A0 c0 _ A1 c1 _ A2 c2 _ A3 c3 _ A4 c4 _ who _ W R.p R.pl R.c R.cl R.m R.ml R.g R.gl R.d R.dl (code_ref inv who)
theorem rstep_do (W:World) (base:Nat) (ok:Nat→Prop) (b:BK) (s:WS) (i K:Nat) (h:At W base ok b s) (hup:∀ k,W.heap.size≤k→ok k) (hi:i<s.n) (inv:Inv s K) (hK:K≤20000) (hc:codeN s i=0) :
  Calls Tryz.prog 35 #[RV b,.int .i64 (i:Int)] W (RL W base ok (step s i)):=by
 have hn:s.n≤1000:=by have:=inv.n.2;omega
 rcases codeN_fine hc with ⟨h2,h3⟩|⟨h2,h1,t,r,ht,h8⟩
 ·refine rstep_back W base ok b s i h hup hi hn h2 ?_
  rcases inv.mode i hi with hm|hm
  ·omega
  ·rcases inv.room hi with hr|hr
   ·omega
   ·exact hr
 ·have hlen:=inv.len i hi;rw [ht,List.length_cons] at hlen;have hok:=inv.todo i hi;rw [ht] at hok;have e1:(s.Yq i { s.proc i with todo:=r }).proc i = { s.proc i with todo:=r }:=Yp _ _ _
  have hq:∀ j,j<2→(s.sign j).length≤1000∧∀ q ∈ s.sign j,0≤q∧q<(s.n:Int):=fun j hj=>⟨by have:=inv.qlen hj;omega,fun q hq=>by
   obtain ⟨k,hk,e,_,_⟩:=inv.queue j hj q hq
   omega⟩
  have ho:∀ (hh:Head t.f0 t.f1 t.f2 t.f3 (s.proc i).room t.f4.length t.f5.length∨(t.f0=12∧0≤t.f1∧t.f1<2)),DoOk (s.Yq i { s.proc i with todo:=r }) i t:=fun hh=>⟨hn,by rw [e1];exact hh,fun h9=>by
   rw [e1]
   rcases hh with hh|hh
   ·rcases inv.room hi with hr|hr
    ·unfold Head at hh;omega
    ·exact hr
   ·omega,hq,by have:=inv.said;show s.said.length≤_;omega,by rw [e1];show r.length≤_;omega⟩
  rcases hok.first with ⟨hf,hr⟩|⟨h0,hl2,rfl,hr⟩
  ·exact rstep_on W base ok b s i t r h hup hi h2 h1 ht (by have:=hf.len;omega) (by have:=hf.len;omega) om_ (ho (.inl hf.head))
  ·exact rstep_on W base ok b s i _ r h hup hi h2 h1 ht (Nat.zero_le _) (Nat.zero_le _) om_ (ho (.inr ⟨rfl,h0,hl2⟩))
end Go.Proofs.YtlhogkfmdnpmkaaGreat.Mean
