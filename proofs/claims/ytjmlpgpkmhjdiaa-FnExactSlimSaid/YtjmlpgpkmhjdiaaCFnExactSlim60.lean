import Derived.Test.YtjmlpgpkmhjdiaaCFnExactSlim59
import Derived.Test.YtjmlpgpkmhjdiaaCFnExactSlim27
import Derived.Test.YtjmlpgpkmhjdiaaCFnExactSlim22
import Derived.Test.YtjmlpgpkmhjdiaaCFnExactSlim39
import Derived.Test.YtjmlpgpkmhjdiaaCFnExactSlim40
import Derived.Test.YtjmlpgpkmhjdiaaCFnExactSlim44
namespace Go.Proofs.Ytjmlpgpkmhjdiaa.Pure
open Go.RowKit Go.Proofs.Ytjmlpgpkmhjdiaa.GSlim Go.Proofs.YtjmlpgpkmhjdiaaW.PrintWords Go.Proofs.YtjmlpgpkmhjdiaaW.PrintLast Go.Proofs.YtjmlpgpkmhjdiaaW.PrintMore Go.Proofs.Ytjmlpgpkmhjdiaa.Evt Go.Proofs.Ytjmlpgpkmhjdiaa.KindsSlim Go.Proofs.Ytjmlpgpkmhjdiaa.Open
set_option linter.unusedVariables false
abbrev LIns:=S59
def conv (s:LIns):Ins:=⟨s.f0,s.f1,s.f2,s.f3⟩
theorem rdL (c:List LIns) (i:Nat):rd_T59 c (i:Int)=c.getD i z59:=by unfold rd_T59;simp
theorem toInsS_loop (l0:List LIns) (hl:l0.length≤1048576):∀ (B:List LIns) (A:List LIns) (R:List Ins),l0=A ++ B→R.length=B.length→
    Evt (fun k=>Xq.l0 k l0 (A.map conv ++ R) (A.length:Int)) (l0.map conv)
  |[],A,R,he,hr=>by
    refine Evt.step ?_
    simp only [Xq.l0]
    obtain rfl:R=[]:=List.eq_nil_of_length_eq_zero (by simpa using hr)
    rw [List.append_nil] at he
    subst he
    refine Evt.neg (by omega) ?_
    rw [List.append_nil]
    exact Evt.pure _
  |b :: B,A,R,he,hr=>by
    refine Evt.step ?_
    simp only [Xq.l0]
    have hlen:l0.length=A.length+B.length+1:=by rw [he];simp;omega
    refine Evt.pos (by omega) (Evt.pos (by omega) ?_)
    simp only [laws_toIns.f,Option.bind_some,rdL]
    match R,hr with
    |r :: R,hr=>
      have hr':R.length=B.length:=by simpa using hr
      refine Evt.pos (by simp;omega) ?_
      rw [w64s (by omega) (by omega),set_nat]
      have hb:l0.getD A.length z59=b:=by rw [he];exact getD_app A b B _
      rw [hb]
      have hm:(A.map conv ++ r :: R).set A.length (conv b)=(A ++ [b]).map conv ++ R:=by
        have:=set_app (A.map conv) r (conv b) R
        rw [List.length_map] at this
        rw [this];simp
      have ih:=toInsS_loop l0 hl B (A ++ [b]) R (by rw [he];simp) hr'
      rw [show ((A.length:Int)+1)=((A ++ [b]).length:Int) by simp]
      show Evt (fun k=>Xq.l0 k l0 ((A.map conv ++ r :: R).set A.length (conv b)) _) _
      rw [hm]
      exact ih
theorem toInsS_ev (l0:List LIns) (hl:l0.length≤1048576):Evt (fun k=>Xq.f k l0) (l0.map conv):=by
  unfold Xq.f
  refine Evt.pos (by omega) (Evt.pos (by omega) ?_)
  have:=toInsS_loop l0 hl l0 [] (List.replicate l0.length zIns) rfl (by simp)
  simpa using this
theorem eqIns_self (s:Ins):laws_eqIns.f s.f0 s.f1 s.f2 s.f3 s.f0 s.f1 s.f2 s.f3=some true:=by simp [laws_eqIns.f]
theorem eqInsS_loop (l:List Ins) (hl:l.length≤4398046511104):∀ (d i:Nat),i+d=l.length→Evt (fun k=>Xi.l0 k l l (i:Int)) true
  |0,i,h=>by
    refine Evt.step ?_
    simp only [Xi.l0]
    exact Evt.neg (by omega) (Evt.pure _)
  |d+1,i,h=>by
    refine Evt.step ?_
    simp only [Xi.l0]
    refine Evt.pos (by omega) (Evt.pos (by omega) (Evt.pos (by omega) ?_))
    simp only [eqIns_self,Option.bind_some,if_true]
    rw [w64s (by omega) (by omega)]
    exact eqInsS_loop l hl d (i+1) (by omega)
theorem eqInsS_ev (l:List Ins) (hl:l.length≤4398046511104):Evt (fun k=>Xi.f k l l) true:=by
  unfold Xi.f
  exact Evt.pos rfl (eqInsS_loop l hl l.length 0 (by omega))
def markOf (m:Int):Ins:=⟨m,m+1,m+2,m+3⟩
def marksOf:Int→Nat→List Ins
  |_,0=>[]
  |m,n+1=>markOf m :: marksOf (m+4) n
theorem marksOf_snoc:∀ (n:Nat) (m:Int),marksOf m (n+1)=marksOf m n ++ [markOf (m+4 * n)]
  |0,m=>by simp [marksOf]
  |n+1,m=>by
    rw [marksOf,marksOf_snoc n (m+4),marksOf,List.cons_append,show m+4+4 * (n:Int)=m+4 * ((n+1:Nat):Int) by omega]
theorem length_marksOf:∀ (n:Nat) (m:Int),(marksOf m n).length=n
  |0,_=>rfl
  |n+1,m=>by simp [marksOf,length_marksOf n]
theorem markInsS_loop (m:Int) (hm0:0≤m) (hm:m≤1048576):∀ (B:List Ins) (a:Nat),a+B.length≤1048576→
    Evt (fun k=>Xu.l0 k (marksOf m a ++ B) (m+4 * a) (a:Int)) (m+4 * ((a+B.length:Nat):Int),marksOf m (a+B.length))
  |[],a,h=>by
    refine Evt.step ?_
    simp only [Xu.l0]
    refine Evt.neg (by simp [length_marksOf]) ?_
    simp
    exact Evt.pure _
  |b :: B,a,h=>by
    refine Evt.step ?_
    simp only [Xu.l0]
    have h':a+B.length+1≤1048576:=by simpa [Nat.add_assoc] using h
    have e1:wrap64 (m+4 * (a:Int)+1)=m+4 * a+1:=w64 (by omega) (by omega)
    have e2:wrap64 (m+4 * (a:Int)+1+1)=m+4 * a+2:=by rw [w64 (by omega) (by omega)];omega
    have e3:wrap64 (m+4 * (a:Int)+2+1)=m+4 * a+3:=by rw [w64 (by omega) (by omega)];omega
    have e4:wrap64 (m+4 * (a:Int)+3+1)=m+4 * a+4:=by rw [w64 (by omega) (by omega)];omega
    have e5:wrap64 ((a:Int)+1)=((a+1:Nat):Int):=by rw [w64s (by omega) (by omega)];omega
    refine Evt.pos (by simp [length_marksOf];omega) (Evt.pos (by omega) ?_)
    simp only [Option.bind_some,e1,e2,e3,e4,e5,set_nat,rdT,List.set_set]
    have hla:(marksOf m a).length=a:=length_marksOf a m
    have hs:∀ v:Ins,(marksOf m a ++ b :: B).set a v=marksOf m a ++ v :: B:=fun v=>by
      have:=set_app (marksOf m a) b v B
      rwa [hla] at this
    have hg:∀ v:Ins,(marksOf m a ++ v :: B).getD a zIns=v:=fun v=>by
      have:=getD_app (marksOf m a) v B zIns
      rwa [hla] at this
    simp only [hs,hg]
    have ih:=markInsS_loop m hm0 hm B (a+1) (by omega)
    rw [marksOf_snoc,List.append_assoc] at ih
    rw [show m+4 * (a:Int)+4=m+4 * ((a+1:Nat):Int) by omega]
    rw [show a+(b :: B).length=a+1+B.length by simp;omega]
    exact ih
theorem markInsS_ev (l:List Ins) (m:Int) (hm0:0≤m) (hm:m≤1048576) (hl:l.length≤1048576):Evt (fun k=>Xu.f k l m) (m+4 * (l.length:Int),marksOf m l.length):=by
  unfold Xu.f
  have:=markInsS_loop m hm0 hm l 0 (by omega)
  simpa [marksOf] using this
theorem heldInsS_loop (m:Int) (hm0:0≤m) (hm:m≤1048576) (n:Nat) (hn:n≤1048576):∀ (d i:Nat),i+d=n→Evt (fun k=>Xy.l0 k (marksOf m n) (m+4 * i) (i:Int)) (m+4 * (n:Int))
  |0,i,h=>by
    refine Evt.step ?_
    simp only [Xy.l0]
    refine Evt.neg (by rw [length_marksOf];omega) ?_
    obtain rfl:i=n:=by omega
    exact Evt.pure _
  |d+1,i,h=>by
    refine Evt.step ?_
    simp only [Xy.l0]
    have e1:wrap64 (m+4 * (i:Int)+1)=m+4 * i+1:=w64 (by omega) (by omega)
    have e2:wrap64 (m+4 * (i:Int)+1+1)=m+4 * i+2:=by rw [w64 (by omega) (by omega)];omega
    have e3:wrap64 (m+4 * (i:Int)+2+1)=m+4 * i+3:=by rw [w64 (by omega) (by omega)];omega
    have e4:wrap64 (m+4 * (i:Int)+3+1)=m+4 * ((i+1:Nat):Int):=by rw [w64 (by omega) (by omega)];omega
    have e5:wrap64 ((i:Int)+1)=((i+1:Nat):Int):=by rw [w64s (by omega) (by omega)];omega
    have hg:(marksOf m n).getD i zIns=markOf (m+4 * i):=by
      clear e1 e2 e3 e4 e5
      have hi:i<n:=by omega
      clear h hn hm hm0
      induction n generalizing m i with
      |zero=>omega
      |succ n ih=>
        cases i with
        |zero=>simp [marksOf,List.getD]
        |succ i=>
          have:=ih (m+4) i (by omega)
          simp only [marksOf,List.getD_cons_succ]
          rw [this]
          congr 1
          omega
    refine Evt.pos (by rw [length_marksOf];omega) (Evt.pos (by omega) ?_)
    simp only [rdT,hg,markOf,e1,e2,e3,e4,e5,if_true]
    exact heldInsS_loop m hm0 hm n hn d (i+1) (by omega)
theorem heldInsS_ev (m:Int) (hm0:0≤m) (hm:m≤1048576) (n:Nat) (hn:n≤1048576):Evt (fun k=>Xy.f k (marksOf m n) m) (m+4 * (n:Int)):=by
  unfold Xy.f
  have:=heldInsS_loop m hm0 hm n hn n 0 (by omega)
  simpa using this
theorem szInsS_of (l:List LIns) (hl:l.length≤9223372036854775807):laws_szInsS.f l 1048576=some (if 1048576<l.length then -1 else 1048576 - (l.length:Int)):=by
  unfold laws_szInsS.f
  rw [w64 (by omega) (by omega)]
  split
  · rw [if_pos (by omega)]
  · rw [if_neg (by omega)]
end Go.Proofs.Ytjmlpgpkmhjdiaa.Pure
