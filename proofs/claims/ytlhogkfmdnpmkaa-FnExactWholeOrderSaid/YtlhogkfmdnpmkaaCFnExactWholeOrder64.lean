import Derived.Test.YtlhogkfmdnpmkaaCFnExactWholeOrder62
import Derived.Test.YtlhogkfmdnpmkaaCFnExactWholeOrder63
set_option maxHeartbeats 4000000
set_option maxRecDepth 100000
set_option linter.unusedVariables false
set_option linter.unusedSectionVars false
set_option linter.unusedSimpArgs false
namespace Go.Proofs.Ytlhogkfmdnpmkaa.Mean
open Go.RowKit Go.Proofs.Ytlhogkfmdnpmkaa.GWhole Go.Proofs.YtlhogkfmdnpmkaaW.PrintWords Go.Proofs.YtlhogkfmdnpmkaaW.PrintLast Go.Proofs.YtlhogkfmdnpmkaaW.PrintMore
variable [Prot]
theorem room_leave (W:World) (base:Nat) (ok:Nat→Prop) (b:BK) (s:WS) (i:Nat) (ta tb tn:Int) (l4 l5:List T) (A4:Option Addr) (aB:Nat) (A5:Option Addr) (aC:Nat) (P0:Nat→Prop) (Ar:Option Addr) (cR:Nat) (rest:List T) (h:At W base ok b s) (hup:∀ k,W.heap.size≤k→ok k) (hi:i<s.n)
    (hr:Kd.V KT 69 W 0 P0 (.slice Ar rest.length cR) rest) (hp:∀ k,P0 k→ok k∧free (lay b s) k) (ha:0≤ta∧ta<2) (hlr:rest.length≤400000) :
    Calls Try.prog 37 #[RV b,.int .i64 (i:Int),.agg #[.int .i64 12,.int .i64 ta,.int .i64 tb,.int .i64 tn,.slice A4 l4.length aB,.slice A5 l5.length aC],.slice Ar rest.length cR] W (RL W base ok (Uh (s.Yx i { s.proc i with todo:=rest }) i ⟨12,ta,tb,tn,l4,l5⟩)):=by
  obtain ⟨a',rfl⟩:=Int.eq_ofNat_of_zero_le ha.1
  have HRS:=Xa.mk (V_lt (b':=0) hr)
  have HPP:=Xa.mk hp
  have HLR:=Xa.mk hlr
  clear hr hp hlr
  obtain ⟨P,C,M,S,Ad,q0,q1,q2,q3,q4,HF⟩:=h.forms (by omega)
  have R:=RS.start3 h hup (.cells #[.int .i64 12,.int .i64 (a':Int),.int .i64 tb,.int .i64 tn,.slice A4 l4.length aB,.slice A5 l5.length aC] 69)
  rw [HF.rb] at R
  rw [HF.rv]
  have HFA:=Xa.mk HF
  clear h hup HF
  go_enter Try.func37,Try.ntmps37
  go_upto_region 1 with (fail)
  generalize ((W.alloc (.cells #[.slice (some ⟨P,0,none⟩) s.n q0,.slice (some ⟨C,0,none⟩) 3 q1,.slice (some ⟨M,0,none⟩) 2 q2,.slice (some ⟨S,0,none⟩) 2 q3,.slice Ad s.said.length q4] 45)).alloc (.cells #[.int .i64 12,.int .i64 (a':Int),.int .i64 tb,.int .i64 tn,.slice A4 l4.length aB,.slice A5 l5.length aC] 69)).alloc ZB=W1 at *
  obtain ⟨R,hsb,hbW⟩:=R
  generalize hgz:W.heap.size+1+1=z at *
  generalize hgs:W.heap.size+1=sb at *
  generalize hg:W.heap.size=g at *
  obtain ⟨c0,c1,c2,c3,c4⟩:=HFA.out.cells R.st.wb
  have HP:=R.st.at_.Yj (by omega) HFA.out.p
  obtain ⟨b0,b1,b2,b3,b4,b5⟩:=box6 hsb
  have i0:(0:Int)≤(i:Int):=by omega
  have i1:(i:Int)<(s.n:Int):=by omega
  have i2:decide (i<s.n)=true:=decide_eq_true hi
  have a3:(a':Int)<2:=by omega
  have a4:decide (a'<2)=true:=decide_eq_true (by omega)
  have hr1:Kd.V KT 69 W1 base (fun k=>(ok k∧¬ (k=g∨k=sb∨k=z))∧free (lay b s) k) (.slice Ar rest.length cR) rest:=Kd.Um (Ub HRS.out (hg.symm ▸ hbW)) (fun k hk=>⟨⟨(HPP.out k hk.1).1,by have:=hk.2;omega⟩,(HPP.out k hk.1).2⟩)
  have hVT:=R.st.at_.tree i hi
  obtain ⟨AT,cT,eT⟩:=Kd.V_slice hVT
  have p1:=HP.cell i 1 hi (by omega)
  simp only [Yr,eT] at p1
  simp at p1
  have aJ:=HP.free_ (i * 5+1)
  go_upto_region 2 with (fail)
  have hw:=R.st.at_.todo R.st.up hi (.slice Ar rest.length cR) rest HP hr1
  have R2:=R.write (t':=up b.t i (.slice Ar rest.length cR)) (q':=b.q) hw
  have hlt2:P<W1.heap.size:=HP.lt
  have hne:sb≠P:=fun e=>(R.st.at_.rows.ok_ 0 _ rfl P (by show b.p.ownBlock=_;rw [HFA.out.p];rfl)).2 (.inr (.inl e.symm))
  have aA:=Zf (p:=⟨P,i * 5+1,none⟩) hsb hne (.slice Ar rest.length cR)
  have hbo:Only W1 (W1.setCell ⟨P,i * 5+1,none⟩ (.slice Ar rest.length cR)) ok:=hw.2.mono (fun k hk=>hk.1)
  have hf2:∀ k,k≠P→(W1.setCell ⟨P,i * 5+1,none⟩ (.slice Ar rest.length cR)).heap[k]?=W1.heap[k]?:=fun k hk=>Below.heap_setCell _ _ _ k hk
  have HWS:Xa (W1.heap.size≤W1.heap.size):=⟨Nat.le_refl _⟩
  clear c0 c1 c2 c3 c4 HP b0 b1 b2 b3 b4 b5 p1 aJ hsb hw R hVT eT hr1 hlt2 hne hbo
  generalize W1.setCell ⟨P,i * 5+1,none⟩ (.slice Ar rest.length cR)=W2 at *
  have HFB:Forms { b with t:=up b.t i (.slice Ar rest.length cR),q:=b.q } (s.Yx i { s.proc i with todo:=rest }) P C M S Ad q0 q1 q2 q3 q4:=⟨HFA.out.p,HFA.out.c,HFA.out.m,HFA.out.g,HFA.out.d⟩
  have HFBA:=Xa.mk HFB
  have aP:=Xa.mk hf2
  clear hf2
  obtain ⟨c0,c1,c2,c3,c4⟩:=HFB.cells R2.st.wb
  change _=some (Value.slice (some ⟨P,0,none⟩) s.n q0) at c0
  change _=some (Value.slice Ad s.said.length q4) at c4
  have HP:=R2.st.at_.Yj (Nat.lt_of_le_of_lt (Nat.zero_le i) hi) HFB.p
  obtain ⟨b0,b1,b2,b3,b4,b5⟩:=box6 aA
  clear HFB
  have HM:=ints_at R2.st.at_.rooms HFBA.out.m
  have m_a:=HM.cell a' (by omega)
  have m_f:=HM.free_ a'
  have p4:=HP.cell i 4 hi (by omega)
  have aO:=HP.free_ (i * 5+4)
  go_upto_region 9 with (fail)
  have hw:=R2.st.at_.roomSet R2.st.up a' 0 HM
  have R3:=R2.write (t':=up b.t i (.slice Ar rest.length cR)) (q':=b.q) hw
  clear c0 c1 c2 c3 c4 HP b0 b1 b2 b3 b4 b5 aA hw R2 HM m_a m_f p4 aO
  generalize W2.setCell ⟨M,a',none⟩ (.int .i64 0)=W3 at *
  obtain ⟨c0,c1,c2,c3,c4⟩:=HFBA.out.cells R3.st.wb
  change _=some (Value.slice (some ⟨P,0,none⟩) s.n q0) at c0
  change _=some (Value.slice Ad s.said.length q4) at c4
  have HP:=R3.st.at_.Yj (Nat.lt_of_le_of_lt (Nat.zero_le i) hi) HFBA.out.p
  have p4:=HP.cell i 4 hi (by omega)
  have aO:=HP.free_ (i * 5+4)
  go_upto_region 17 with (fail)
  have hw:=R3.st.at_.roomOf R3.st.up (i:=i) hi (-1) HP
  have R4:=R3.write (t':=up b.t i (.slice Ar rest.length cR)) (q':=b.q) hw
  clear c0 c1 c2 c3 c4 HP hw R3 p4 aO
  generalize W3.setCell ⟨P,i * 5+4,none⟩ (.int .i64 (-1))=W4 at *
  obtain ⟨d0,d1,d2,d3,d4⟩:=Forms.cells (Forms.mk HFBA.out.p HFBA.out.c HFBA.out.m HFBA.out.g HFBA.out.d) R4.st.wb
  obtain ⟨z0,z1,z2,z3,z4⟩:=R4.zc
  have f0:=Xb R4.z_ 0
  have f1:=Xb R4.z_ 1
  have f2:=Xb R4.z_ 2
  have f3:=Xb R4.z_ 3
  have f4:=Xb R4.z_ 4
  have HFIN:=Xa.mk (R4.finish (Forms.mk HFBA.out.p HFBA.out.c HFBA.out.m HFBA.out.g HFBA.out.d))
  go_wp2
  (try simp only [Exit.inBlock,Exit.then])
  refine bodyPost_ret (results_cell_row rfl _ _ z 45 #[.slice (some ⟨P,0,none⟩) s.n q0,.slice (some ⟨C,0,none⟩) 3 q1,.slice (some ⟨M,0,none⟩) 2 q2,.slice (some ⟨S,0,none⟩) 2 q3,.slice Ad s.said.length q4] (0,0) _ rfl HFIN.out.1 Try.underlying45 rfl (by kernel_rfl)) rfl ?_
  exact HFIN.out.2
theorem doIt_signal (s:WS) (i:Nat) (a tb tn:Int) (l4 l5:List T):Uh s i ⟨10,a,tb,tn,l4,l5⟩=sigNext s a:=by unfold Uh sigNext;simp;rfl
theorem sigNext_n (s:WS) (a:Int):(sigNext s a).n=s.n:=by unfold sigNext;split <;> rfl
theorem room_signal (W:World) (base:Nat) (ok:Nat→Prop) (b:BK) (s:WS) (i:Nat) (ta tb tn:Int) (l4 l5:List T) (A4:Option Addr) (aB:Nat) (A5:Option Addr) (aC:Nat) (P0:Nat→Prop) (Ar:Option Addr) (cR:Nat) (rest:List T) (h:At W base ok b s) (hup:∀ k,W.heap.size≤k→ok k) (hi:i<s.n)
    (hr:Kd.V KT 69 W 0 P0 (.slice Ar rest.length cR) rest) (hp:∀ k,P0 k→ok k∧free (lay b s) k) (ha:0≤ta∧ta<2) (hlr:rest.length≤400000) (hq:∀ q ∈ s.sign ta.toNat,0≤q∧q<s.n) (hl:(s.sign ta.toNat).length≤1000) :
    Calls Try.prog 37 #[RV b,.int .i64 (i:Int),.agg #[.int .i64 10,.int .i64 ta,.int .i64 tb,.int .i64 tn,.slice A4 l4.length aB,.slice A5 l5.length aC],.slice Ar rest.length cR] W (RL W base ok (Uh (s.Yx i { s.proc i with todo:=rest }) i ⟨10,ta,tb,tn,l4,l5⟩)):=by
  obtain ⟨a',rfl⟩:=Int.eq_ofNat_of_zero_le ha.1
  have HRS:=Xa.mk (V_lt (b':=0) hr)
  have HPP:=Xa.mk hp
  have HLR:=Xa.mk hlr
  clear hr hp hlr
  obtain ⟨P,C,M,S,Ad,q0,q1,q2,q3,q4,HF⟩:=h.forms (by omega)
  have R:=RS.start3 h hup (.cells #[.int .i64 10,.int .i64 (a':Int),.int .i64 tb,.int .i64 tn,.slice A4 l4.length aB,.slice A5 l5.length aC] 69)
  rw [HF.rb] at R
  rw [HF.rv]
  have HFA:=Xa.mk HF
  clear h hup HF
  go_enter Try.func37,Try.ntmps37
  go_upto_region 1 with (fail)
  generalize ((W.alloc (.cells #[.slice (some ⟨P,0,none⟩) s.n q0,.slice (some ⟨C,0,none⟩) 3 q1,.slice (some ⟨M,0,none⟩) 2 q2,.slice (some ⟨S,0,none⟩) 2 q3,.slice Ad s.said.length q4] 45)).alloc (.cells #[.int .i64 10,.int .i64 (a':Int),.int .i64 tb,.int .i64 tn,.slice A4 l4.length aB,.slice A5 l5.length aC] 69)).alloc ZB=W1 at *
  obtain ⟨R,hsb,hbW⟩:=R
  generalize hgz:W.heap.size+1+1=z at *
  generalize hgs:W.heap.size+1=sb at *
  generalize hg:W.heap.size=g at *
  obtain ⟨c0,c1,c2,c3,c4⟩:=HFA.out.cells R.st.wb
  have HP:=R.st.at_.Yj (by omega) HFA.out.p
  obtain ⟨b0,b1,b2,b3,b4,b5⟩:=box6 hsb
  have i0:(0:Int)≤(i:Int):=by omega
  have i1:(i:Int)<(s.n:Int):=by omega
  have i2:decide (i<s.n)=true:=decide_eq_true hi
  have a3:(a':Int)<2:=by omega
  have a4:decide (a'<2)=true:=decide_eq_true (by omega)
  have hr1:Kd.V KT 69 W1 base (fun k=>(ok k∧¬ (k=g∨k=sb∨k=z))∧free (lay b s) k) (.slice Ar rest.length cR) rest:=Kd.Um (Ub HRS.out (hg.symm ▸ hbW)) (fun k hk=>⟨⟨(HPP.out k hk.1).1,by have:=hk.2;omega⟩,(HPP.out k hk.1).2⟩)
  have hVT:=R.st.at_.tree i hi
  obtain ⟨AT,cT,eT⟩:=Kd.V_slice hVT
  have p1:=HP.cell i 1 hi (by omega)
  simp only [Yr,eT] at p1
  simp at p1
  have aJ:=HP.free_ (i * 5+1)
  go_upto_region 2 with (fail)
  have hw:=R.st.at_.todo R.st.up hi (.slice Ar rest.length cR) rest HP hr1
  have R2:=R.write (t':=up b.t i (.slice Ar rest.length cR)) (q':=b.q) hw
  have hlt2:P<W1.heap.size:=HP.lt
  have hne:sb≠P:=fun e=>(R.st.at_.rows.ok_ 0 _ rfl P (by show b.p.ownBlock=_;rw [HFA.out.p];rfl)).2 (.inr (.inl e.symm))
  have aA:=Zf (p:=⟨P,i * 5+1,none⟩) hsb hne (.slice Ar rest.length cR)
  have hbo:Only W1 (W1.setCell ⟨P,i * 5+1,none⟩ (.slice Ar rest.length cR)) ok:=hw.2.mono (fun k hk=>hk.1)
  have hf2:∀ k,k≠P→(W1.setCell ⟨P,i * 5+1,none⟩ (.slice Ar rest.length cR)).heap[k]?=W1.heap[k]?:=fun k hk=>Below.heap_setCell _ _ _ k hk
  have HWS:Xa (W1.heap.size≤W1.heap.size):=⟨Nat.le_refl _⟩
  clear c0 c1 c2 c3 c4 HP b0 b1 b2 b3 b4 b5 p1 aJ hsb hw R hVT eT hr1 hlt2 hne hbo
  generalize W1.setCell ⟨P,i * 5+1,none⟩ (.slice Ar rest.length cR)=W2 at *
  have HFB:Forms { b with t:=up b.t i (.slice Ar rest.length cR),q:=b.q } (s.Yx i { s.proc i with todo:=rest }) P C M S Ad q0 q1 q2 q3 q4:=⟨HFA.out.p,HFA.out.c,HFA.out.m,HFA.out.g,HFA.out.d⟩
  have HFBA:=Xa.mk HFB
  have aP:=Xa.mk hf2
  clear hf2
  obtain ⟨c0,c1,c2,c3,c4⟩:=HFB.cells R2.st.wb
  change _=some (Value.slice (some ⟨P,0,none⟩) s.n q0) at c0
  change _=some (Value.slice Ad s.said.length q4) at c4
  have HP:=R2.st.at_.Yj (Nat.lt_of_le_of_lt (Nat.zero_le i) hi) HFB.p
  obtain ⟨b0,b1,b2,b3,b4,b5⟩:=box6 aA
  clear HFB
  have aI:=Xa.mk R2
  have HQ:=Xa.mk hq
  have HL:=Xa.mk hl
  have HA:=Xa.mk ha
  have HN:Xa (0<(sigNext (s.Yx i { s.proc i with todo:=rest }) (a':Int)).n):=⟨by rw [sigNext_n];show 0<s.n;omega⟩
  have aH:Xa (0<(s.Yx i { s.proc i with todo:=rest }).n):=⟨by show 0<s.n;omega⟩
  have hsg:=signal_do W2 base (fun k=>ok k∧¬ (k=g∨k=sb∨k=z)) { b with t:=up b.t i (.slice Ar rest.length cR),q:=b.q } (s.Yx i { s.proc i with todo:=rest }) (a':Int) aI.out.st.at_ aI.out.st.up aH.out HA.out HQ.out HL.out
  rw [HFBA.out.rv] at hsg
  have HSG:=Lib.hid hsg
  clear R2 hq hl HP aA ha hsg
  go_wp2_with (first|(go_at_call 56;refine (HSG.out).mono ?_;rintro e w3 ⟨b',rfl,hA',aZ⟩;obtain ⟨P',C',M',S',Ad',q0',q1',q2',q3',q4',aT⟩:=hA'.forms HN.out;rw [aT.rv];have HPUT:=Xa.mk (RS.put aI.out hA' aZ aT);have HCA:=Xa.mk HPUT.out.1;clear hA' aZ aT;obtain ⟨z0,z1,z2,z3,z4⟩:=ZB.cells HCA.out;have f0:=Xb HCA.out 0;have f1:=Xb HCA.out 1;have f2:=Xb HCA.out 2;have f3:=Xb HCA.out 3;have f4:=Xb HCA.out 4))
  (try simp only [Exit.inBlock,Exit.then])
  refine bodyPost_ret (results_cell_row rfl _ _ z 45 _ (0,0) _ rfl HPUT.out.2.1 Try.underlying45 rfl (by kernel_rfl)) rfl ?_
  rw [doIt_signal]
  exact HPUT.out.2.2
structure WR4 (g sb S a:Nat) (sv q:Value) (W:World):Prop where
  s:W.cell? ⟨g,3,none⟩=some sv
  b:W.cell? ⟨sb,1,none⟩=some (.int .i64 (a:Int))
  q:W.cell? ⟨S,a,none⟩=some q
theorem WR4.later {g sb S a:Nat} {sv q:Value} {W W1:World} (h:WR4 g sb S a sv q W) (hb:Below W.heap.size W W1):WR4 g sb S a sv q W1:=⟨Xc hb h.s,Xc hb h.b,Xc hb h.q⟩
theorem WR4.grown {g sb S a:Nat} {sv q:Value} {W W1:World} {row:Option Nat} (h:WR4 g sb S a sv q W) (hg:W.grownBy W1 row) (h1:some g≠row) (h2:some sb≠row) (h3:some S≠row):WR4 g sb S a sv q W1:=⟨hg.cell h.s h1,hg.cell h.b h2,hg.cell h.q h3⟩
theorem doIt_wait (s:WS) (i:Nat) (a tb tn:Int) (l4 l5:List T):Uh s i ⟨9,a,tb,tn,l4,l5⟩ = { (s.Yx i { s.proc i with mode:=1,on:=a }) with room:=up s.room (s.proc i).room.toNat 0,sign:=up s.sign a.toNat (s.sign a.toNat ++ [(i:Int)]) }:=by unfold Uh;simp
theorem doIt_in (s:WS) (i:Nat) (a tb tn:Int) (l4 l5:List T):Uh s i ⟨8,a,tb,tn,l4,l5⟩ = { (s.Yx i { s.proc i with todo:=l4 ++ [leave a] ++ (s.proc i).todo,room:=a }) with room:=up s.room a.toNat ((i:Int)+1) }:=by unfold Uh;simp
theorem RS.sblk {W W1 W2:World} {base g z sb:Nat} {ok ex:Nat→Prop} {b:BK} {s:WS} {O:Obj} (h:RS W base ok b s g z ex W1) (hs:W1.heap[sb]?=some O) (he:ex sb) (ho:Only W1 W2 (fun k=>ok k∧¬ ex k)):W2.heap[sb]?=some O:=(ho.block sb (h.gt sb he).2 (fun x=>x.2 he)).trans hs
theorem room_wait (W:World) (base:Nat) (ok:Nat→Prop) (b:BK) (s:WS) (i:Nat) (ta tb tn:Int) (l4 l5:List T) (A4:Option Addr) (aB:Nat) (A5:Option Addr) (aC:Nat) (P0:Nat→Prop) (Ar:Option Addr) (cR:Nat) (rest:List T) (h:At W base ok b s) (hup:∀ k,W.heap.size≤k→ok k) (hi:i<s.n)
    (hr:Kd.V KT 69 W 0 P0 (.slice Ar rest.length cR) rest) (hp:∀ k,P0 k→ok k∧free (lay b s) k) (ha:0≤ta∧ta<2) (hlr:rest.length≤400000) (hm:0≤(s.proc i).room∧(s.proc i).room<2) (hl:(s.sign ta.toNat).length≤1000) :
    Calls Try.prog 37 #[RV b,.int .i64 (i:Int),.agg #[.int .i64 9,.int .i64 ta,.int .i64 tb,.int .i64 tn,.slice A4 l4.length aB,.slice A5 l5.length aC],.slice Ar rest.length cR] W (RL W base ok (Uh (s.Yx i { s.proc i with todo:=rest }) i ⟨9,ta,tb,tn,l4,l5⟩)):=by
  obtain ⟨a',rfl⟩:=Int.eq_ofNat_of_zero_le ha.1
  have HRS:=Xa.mk (V_lt (b':=0) hr)
  have HPP:=Xa.mk hp
  have HLR:=Xa.mk hlr
  clear hr hp hlr
  obtain ⟨P,C,M,S,Ad,q0,q1,q2,q3,q4,HF⟩:=h.forms (by omega)
  have R:=RS.start3 h hup (.cells #[.int .i64 9,.int .i64 (a':Int),.int .i64 tb,.int .i64 tn,.slice A4 l4.length aB,.slice A5 l5.length aC] 69)
  rw [HF.rb] at R
  rw [HF.rv]
  have HFA:=Xa.mk HF
  clear h hup HF
  go_enter Try.func37,Try.ntmps37
  go_upto_region 1 with (fail)
  generalize ((W.alloc (.cells #[.slice (some ⟨P,0,none⟩) s.n q0,.slice (some ⟨C,0,none⟩) 3 q1,.slice (some ⟨M,0,none⟩) 2 q2,.slice (some ⟨S,0,none⟩) 2 q3,.slice Ad s.said.length q4] 45)).alloc (.cells #[.int .i64 9,.int .i64 (a':Int),.int .i64 tb,.int .i64 tn,.slice A4 l4.length aB,.slice A5 l5.length aC] 69)).alloc ZB=W1 at *
  obtain ⟨R,hsb,hbW⟩:=R
  generalize hgz:W.heap.size+1+1=z at *
  generalize hgs:W.heap.size+1=sb at *
  generalize hg:W.heap.size=g at *
  obtain ⟨c0,c1,c2,c3,c4⟩:=HFA.out.cells R.st.wb
  have HP:=R.st.at_.Yj (by omega) HFA.out.p
  obtain ⟨b0,b1,b2,b3,b4,b5⟩:=box6 hsb
  have i0:(0:Int)≤(i:Int):=by omega
  have i1:(i:Int)<(s.n:Int):=by omega
  have i2:decide (i<s.n)=true:=decide_eq_true hi
  have a3:(a':Int)<2:=by omega
  have a4:decide (a'<2)=true:=decide_eq_true (by omega)
  have hr1:Kd.V KT 69 W1 base (fun k=>(ok k∧¬ (k=g∨k=sb∨k=z))∧free (lay b s) k) (.slice Ar rest.length cR) rest:=Kd.Um (Ub HRS.out (hg.symm ▸ hbW)) (fun k hk=>⟨⟨(HPP.out k hk.1).1,by have:=hk.2;omega⟩,(HPP.out k hk.1).2⟩)
  have hVT:=R.st.at_.tree i hi
  obtain ⟨AT,cT,eT⟩:=Kd.V_slice hVT
  have p1:=HP.cell i 1 hi (by omega)
  simp only [Yr,eT] at p1
  simp at p1
  have aJ:=HP.free_ (i * 5+1)
  go_upto_region 2 with (fail)
  have hw:=R.st.at_.todo R.st.up hi (.slice Ar rest.length cR) rest HP hr1
  have R2:=R.write (t':=up b.t i (.slice Ar rest.length cR)) (q':=b.q) hw
  have hlt2:P<W1.heap.size:=HP.lt
  have hne:sb≠P:=fun e=>(R.st.at_.rows.ok_ 0 _ rfl P (by show b.p.ownBlock=_;rw [HFA.out.p];rfl)).2 (.inr (.inl e.symm))
  have aA:=Zf (p:=⟨P,i * 5+1,none⟩) hsb hne (.slice Ar rest.length cR)
  have hbo:Only W1 (W1.setCell ⟨P,i * 5+1,none⟩ (.slice Ar rest.length cR)) ok:=hw.2.mono (fun k hk=>hk.1)
  have hf2:∀ k,k≠P→(W1.setCell ⟨P,i * 5+1,none⟩ (.slice Ar rest.length cR)).heap[k]?=W1.heap[k]?:=fun k hk=>Below.heap_setCell _ _ _ k hk
  have HWS:Xa (W1.heap.size≤W1.heap.size):=⟨Nat.le_refl _⟩
  clear c0 c1 c2 c3 c4 HP b0 b1 b2 b3 b4 b5 p1 aJ hsb hw R hVT eT hr1 hlt2 hne hbo
  generalize W1.setCell ⟨P,i * 5+1,none⟩ (.slice Ar rest.length cR)=W2 at *
  have HFB:Forms { b with t:=up b.t i (.slice Ar rest.length cR),q:=b.q } (s.Yx i { s.proc i with todo:=rest }) P C M S Ad q0 q1 q2 q3 q4:=⟨HFA.out.p,HFA.out.c,HFA.out.m,HFA.out.g,HFA.out.d⟩
  have HFBA:=Xa.mk HFB
  have aP:=Xa.mk hf2
  clear hf2
  obtain ⟨c0,c1,c2,c3,c4⟩:=HFB.cells R2.st.wb
  change _=some (Value.slice (some ⟨P,0,none⟩) s.n q0) at c0
  change _=some (Value.slice Ad s.said.length q4) at c4
  have HP:=R2.st.at_.Yj (Nat.lt_of_le_of_lt (Nat.zero_le i) hi) HFB.p
  obtain ⟨b0,b1,b2,b3,b4,b5⟩:=box6 aA
  clear HFB
  obtain ⟨r,hrr⟩:=Int.eq_ofNat_of_zero_le hm.1
  have HM:=ints_at R2.st.at_.rooms HFBA.out.m
  have p4:=HP.cell i 4 hi (by omega)
  simp only [Yr,Yv,hrr] at p4
  simp at p4
  have m_a:=HM.cell r (by omega)
  have m_f:=HM.free_ r
  have r3:(r:Int)<2:=by omega
  have r4:decide (r<2)=true:=decide_eq_true (by omega)
  have HRR:=Xa.mk hrr
  have HL:=Xa.mk hl
  have HI:=Xa.mk hi
  clear hrr hm hl
  go_upto_region 11 with (fail)
  go_still_tail 9,(by kernel_rfl)
  change wpList _ _ _ _ _ W2.drew
  go_upto_region 12 with (fail)
  have hw:=R2.st.at_.roomSet R2.st.up r 0 HM
  have R3:=(R2.write (t':=up b.t i (.slice Ar rest.length cR)) (q':=b.q) hw).below (Xl (Below.refl _ _))
  have aD:=R2.sblk aA (.inr (.inl rfl)) (hw.2.trans ((Only.of_below (Xl (Below.refl _ _)) _).mono (fun k hk=>.inl hk)))
  clear c0 c1 c2 c3 c4 HP b0 b1 b2 b3 b4 b5 hw R2 HM m_a m_f p4 aA
  generalize (W2.setCell ⟨M,r,none⟩ (.int .i64 0)).drew=W3 at *
  obtain ⟨c0,c1,c2,c3,c4⟩:=Forms.cells (Forms.mk HFBA.out.p HFBA.out.c HFBA.out.m HFBA.out.g HFBA.out.d) R3.st.wb
  change _=some (Value.slice (some ⟨P,0,none⟩) s.n q0) at c0
  change _=some (Value.slice Ad s.said.length q4) at c4
  have HP:=R3.st.at_.Yj (Nat.lt_of_le_of_lt (Nat.zero_le i) hi) HFBA.out.p
  have p2:=HP.cell i 2 hi (by omega)
  have bH:=HP.free_ (i * 5+2)
  go_upto_region 13 with (fail)
  have hw:=R3.st.at_.mode R3.st.up (i:=i) hi 1 HP
  have R4:=R3.write (t':=up b.t i (.slice Ar rest.length cR)) (q':=b.q) hw
  have aF:=R3.sblk aD (.inr (.inl rfl)) hw.2
  clear c0 c1 c2 c3 c4 HP hw R3 p2 bH aD
  generalize W3.setCell ⟨P,i * 5+2,none⟩ (.int .i64 1)=W4 at *
  obtain ⟨c0,c1,c2,c3,c4⟩:=Forms.cells (Forms.mk HFBA.out.p HFBA.out.c HFBA.out.m HFBA.out.g HFBA.out.d) R4.st.wb
  change _=some (Value.slice (some ⟨P,0,none⟩) s.n q0) at c0
  change _=some (Value.slice Ad s.said.length q4) at c4
  have HP:=R4.st.at_.Yj (Nat.lt_of_le_of_lt (Nat.zero_le i) hi) HFBA.out.p
  have p3:=HP.cell i 3 hi (by omega)
  have bI:=HP.free_ (i * 5+3)
  obtain ⟨b0,b1,b2,b3,b4,b5⟩:=box6 aF
  go_upto_region 14 with (fail)
  have hw:=R4.st.at_.on R4.st.up (i:=i) hi (a':Int) HP
  have R5:=R4.write (t':=up b.t i (.slice Ar rest.length cR)) (q':=b.q) hw
  have aN:=R4.sblk aF (.inr (.inl rfl)) hw.2
  clear c0 c1 c2 c3 c4 HP hw R4 p3 bI aF b0 b1 b2 b3 b4 b5
  generalize W4.setCell ⟨P,i * 5+3,none⟩ (.int .i64 (a':Int))=W5 at *
  have RD:=R5.below (Xl (Below.refl _ W5))
  have hsbD:=R5.sblk aN (.inr (.inl rfl)) (Only.of_below (Xl (Below.refl _ W5)) _)
  obtain ⟨hSl,hSc,hSf⟩:=RD.st.at_.signs_at HFBA.out.g
  have aX:=RD.st.at_.queue (j:=a') (by omega)
  obtain ⟨Aq,cq,eQ,_⟩:∃ A c,b.q a'=.slice A (s.sign a').length c∧(s.sign a').length≤c:=q_slice aX
  have hqo:∀ k,(b.q a').ownBlock=some k→ok k∧¬ (k=g∨k=sb∨k=z):=fun k hk=>RD.st.at_.rows.ok_ (5+a') _ (lay_queue _ _ (by omega)) k hk
  have hsc:=hSc a' (by omega)
  have aG:Xa (WR4 g sb S a' (.slice (some ⟨S,0,none⟩) 2 q3) (.slice Aq (s.sign a').length cq) W5.drew):=⟨⟨(Forms.cells (Forms.mk HFBA.out.p HFBA.out.c HFBA.out.m HFBA.out.g HFBA.out.d) RD.st.wb).2.2.2.1,(Xm hsbD 1).trans rfl,hsc.trans (congrArg some eQ)⟩⟩
  have HQ:Xa (QRow W5.drew base 3 1 (.slice Aq (s.sign a').length cq) (s.sign a').length (nums .i64 (s.sign a'))):=⟨eQ ▸ aX⟩
  have HBS:Xa (base≤W5.drew.heap.size):=⟨by
    have:=Ut (RD.st.at_.rows.at_ 3 _ rfl) S (by show b.s.ownBlock=_;rw [HFA.out.g];rfl)
    omega⟩
  have HLEN:Xa (((s.sign a').length+1) * 8≤140737488355328):=⟨by have h1:((a':Int)).toNat=a':=rfl;have:=HL.out;rw [h1] at this;omega⟩
  have aH:Xa (some g≠(Value.slice Aq (s.sign a').length cq).ownBlock):=⟨fun e=>(hqo g (by rw [eQ];exact e.symm)).2 (.inl rfl)⟩
  have aU:Xa (some sb≠(Value.slice Aq (s.sign a').length cq).ownBlock):=⟨fun e=>(hqo sb (by rw [eQ];exact e.symm)).2 (.inr (.inl rfl))⟩
  have aQ:Xa (some S≠(Value.slice Aq (s.sign a').length cq).ownBlock):=⟨fun e=>RD.st.at_.rows.apart 3 (5+a') _ _ (by omega) rfl (lay_queue _ _ (by omega)) S (by show b.s.ownBlock=_;rw [HFA.out.g];rfl) (by show (b.q a').ownBlock=_;rw [eQ];exact e.symm)⟩
  have HSL:=Xa.mk hSl
  have HSF:=Xa.mk hSf
  have H5:=Xa.mk RD
  have EQ:=Xa.mk eQ
  have HA2:Xa (a'<2):=⟨by omega⟩
  clear RD hsbD hSl hSc hSf aX eQ hqo hsc R5 aN
  refine start_ (n:=15) (S:=WR4 g sb S a' (.slice (some ⟨S,0,none⟩) 2 q3) (.slice Aq (s.sign a').length cq)) (ds:=[14]) #[false,false,false,false,false,false,false,false,false,false,false,false,false,false,false] (by kernel_rfl) rfl (by rfl) aG.out (fun hHeld=>?_)
  refine Xp (i:=0) (N:=some 82) (v:=?_) (a':=?_) #[true,false,false,false,false,false,false,false,false,false,false,false,false,false,false] rfl rfl (by kernel_rfl) (fun _ _ _ h=>h) (Or.inl ⟨by rfl,?_⟩) ?_ ?_
  rotate_left
  · exact wr_
  rotate_left
  · exact ap_
  refine Xp (i:=2) (N:=some 84) (v:=?_) (a':=?_) #[true,false,true,false,false,false,false,false,false,false,false,false,false,false,false] rfl rfl (by kernel_rfl) (fun _ _ _ h=>h) (Or.inl ⟨by rfl,?_⟩) ?_ ?_
  rotate_left
  · exact wr_
  rotate_left
  · exact ap_
  refine Xp (i:=4) (N:=some 86) (v:=?_) (a':=?_) #[true,false,true,false,true,false,false,false,false,false,false,false,false,false,false] rfl rfl (by kernel_rfl) (fun _ _ _ h=>h) (Or.inl ⟨by rfl,?_⟩) ?_ ?_
  rotate_left
  · exact wr_
  rotate_left
  · exact ap_
  refine Xp (i:=6) (N:=some 88) (v:=?_) (a':=?_) #[true,false,true,false,true,false,true,false,false,false,false,false,false,false,false] rfl rfl (by kernel_rfl) (fun _ _ _ h=>h) (Or.inl ⟨by rfl,?_⟩) ?_ ?_
  rotate_left
  · exact wr_
  rotate_left
  · exact ap_
  refine Xp (i:=10) (N:=some 92) (v:=?_) (a':=?_) #[true,false,true,false,true,false,true,false,false,false,true,false,false,false,false] rfl rfl (by kernel_rfl) (fun _ _ _ h=>h) (Or.inl ⟨by rfl,?_⟩) ?_ ?_
  rotate_left
  · exact wr_
  rotate_left
  · exact ap_
  refine Zp (i:=1) (N:=some 83) (v:=?_) (a':=?_) #[true,true,true,false,true,false,true,false,false,false,true,false,false,false,false] rfl rfl (by kernel_rfl) (fun _ _ _ h=>h) (Or.inl ⟨by rfl,?_⟩) hHeld ?_ ?_
  rotate_left
  · rintro w' s0;have c0:=s0.s;have c1:=s0.b;have c2:=s0.q;clear s0
    go_simp
    with_reducible rfl
  rotate_left
  · exact ap_
  refine Zp (i:=3) (N:=some 85) (v:=?_) (a':=?_) #[true,true,true,true,true,false,true,false,false,false,true,false,false,false,false] rfl rfl (by kernel_rfl) (fun _ _ _ h=>h) (Or.inl ⟨by rfl,?_⟩) hHeld ?_ ?_
  rotate_left
  · rintro w' s0;have c0:=s0.s;have c1:=s0.b;have c2:=s0.q;clear s0
    go_simp
    with_reducible rfl
  rotate_left
  · exact ap_
  refine Zp (i:=5) (N:=some 87) (v:=?_) (a':=?_) #[true,true,true,true,true,true,true,false,false,false,true,false,false,false,false] rfl rfl (by kernel_rfl) (fun _ _ _ h=>h) (Or.inl ⟨by rfl,?_⟩) hHeld ?_ ?_
  rotate_left
  · rintro w' s0;have c0:=s0.s;have c1:=s0.b;have c2:=s0.q;clear s0
    go_simp
    with_reducible rfl
  rotate_left
  · exact ap_
  refine Zp (i:=7) (N:=some 89) (v:=?_) (a':=?_) #[true,true,true,true,true,true,true,true,false,false,true,false,false,false,false] rfl rfl (by kernel_rfl) (fun _ _ _ h=>h) (Or.inl ⟨by rfl,?_⟩) hHeld ?_ ?_
  rotate_left
  · rintro w' s0;have c0:=s0.s;have c1:=s0.b;have c2:=s0.q;clear s0
    go_simp
    with_reducible rfl
  rotate_left
  · exact ap_
  refine Xp (i:=8) (N:=some 90) (v:=?_) (a':=?_) #[true,true,true,true,true,true,true,true,true,false,true,false,false,false,false] rfl rfl (by kernel_rfl) (fun _ _ _ h=>h) (Or.inl ⟨by rfl,?_⟩) ?_ ?_
  rotate_left
  · exact wr_
  rotate_left
  · exact ap_
  refine Zp (i:=9) (N:=some 91) (v:=?_) (a':=?_) #[true,true,true,true,true,true,true,true,true,true,true,false,false,false,false] rfl rfl (by kernel_rfl) (fun _ _ _ h=>h) (Or.inl ⟨by rfl,?_⟩) hHeld ?_ ?_
  rotate_left
  · rintro w' s0;have c0:=s0.s;have c1:=s0.b;have c2:=s0.q;clear s0
    go_simp
    with_reducible rfl
  rotate_left
  · exact ap_
  refine one_ (i:=11) (N:=some 93) #[true,true,true,true,true,true,true,true,true,true,true,true,false,false,false] rfl rfl (by kernel_rfl) (by decide) (fun K hK=>?_)
  refine value_ (v:=.slice (some ⟨W5.drew.heap.size,0,none⟩) 1 1) (w1:=W5.drew.alloc (.cells #[.int .i64 (i:Int)] 3)) rfl rfl (by kernel_rfl) ?_
  refine hK.out _ _ (aG.out.later ((Below.refl _ _).alloc (Nat.le_refl _) _)) (fun hHeld=>?_)
  clear hK K
  refine Zj (a':=?_) ?_ ?_
  rotate_left
  · show Act.put _ (some 93) _=_
    simp only [Act.put,List.setIfInBounds_toArray,List.set_cons_zero,List.set_cons_succ,Zc,Zb]
    rfl
  refine one_ (i:=12) (N:=some 94) #[true,true,true,true,true,true,true,true,true,true,true,true,true,false,false] rfl rfl (by kernel_rfl) (by decide) (fun K hK=>?_)
  refine step_append_q (w0:=W5.drew) base rfl (.tmp 91) (.tmp 93) 23 3 (.int .i64 0) 1 8 rfl Try.underlying23 info3 rfl (by decide) (by decide) (.slice Aq (s.sign a').length cq) (s.sign a').length (nums .i64 (s.sign a')) [.int .i64 (i:Int)] rfl (by rfl) rfl (by simp [Value.oneCell']) HQ.out (Below.refl _ _) HBS.out HLEN.out ?_
  intro v1 w1 hq1 hb1 hg1 aL
  obtain ⟨A1,c1,aV,_⟩:=q_slice hq1
  subst aV
  have bE:=Xa.mk hq1
  have aY:=Xa.mk hg1
  have HAT:=Xa.mk aL
  have hx1:=(aG.out.grown hg1 aH.out aU.out aQ.out).s
  have hf1:w1.frozen? ⟨S,a',none⟩=false:=by rw [World.frozen?_of_block (hg1.block S HSL.out aQ.out)];exact HSF.out a'
  have hx2:=(aG.out.grown hg1 aH.out aU.out aQ.out).q
  clear hq1 hg1 aL hb1
  refine hK.out _ _ (aG.out.grown aY.out aH.out aU.out aQ.out) (fun hHeld=>?_)
  clear hK K
  refine Zj (a':=?_) ?_ ?_
  rotate_left
  · show Act.put _ (some 94) _=_
    simp only [Act.put,List.setIfInBounds_toArray,List.set_cons_zero,List.set_cons_succ,Zc,Zb]
    rfl
  refine Xp (i:=13) (N:=some 95) (v:=?_) (a':=?_) #[true,true,true,true,true,true,true,true,true,true,true,true,true,true,false] rfl rfl (by kernel_rfl) (fun _ _ _ h=>h) (Or.inl ⟨by rfl,?_⟩) ?_ ?_
  rotate_left
  · exact wr_
  rotate_left
  · exact ap_
  refine last_ (i:=14) (N:=none) #[true,true,true,true,true,true,true,true,true,true,true,true,true,true,true] rfl rfl (by kernel_rfl) (by decide) (fun K hK=>?_)
  refine skip_ (w1:=w1.setCell ⟨S,a',none⟩ (.slice A1 ((s.sign a').length+1) c1)) rfl rfl ?_ ?_
  · first|(go_simp;done)|(go_simp;rfl)
  refine hK.out _ _ ?_
  clear hK K
  refine done_ (by kernel_rfl) ?_
  skip
  go_upto_region 17 with (fail)
  have hqu:=H5.out.st.at_.queue2 H5.out.st.up HA2.out (.slice A1 ((s.sign a').length+1) c1) (s.sign a' ++ [(i:Int)]) (by show World.grownBy _ _ (b.q a').ownBlock;rw [EQ.out];exact aY.out) (by rw [List.length_append,List.length_singleton,nums_append];exact bE.out) (by show _=(b.q a').ownBlock∨_;rw [EQ.out];exact HAT.out.elim .inl (fun x=>.inr (.inr x))) HFA.out.g
  have R6:=H5.out.write (t':=up b.t i (.slice Ar rest.length cR)) (q':=up b.q a' (.slice A1 ((s.sign a').length+1) c1)) hqu
  clear hqu hx1 hf1 hx2
  generalize w1.setCell ⟨S,a',none⟩ (.slice A1 ((s.sign a').length+1) c1)=W7 at *
  have HE:Xa ((s.proc i).room.toNat=r):=⟨by rw [HRR.out];rfl⟩
  simp only [Yv,setP_setP] at R6
  obtain ⟨d0,d1,d2,d3,d4⟩:=Forms.cells (Forms.mk HFBA.out.p HFBA.out.c HFBA.out.m HFBA.out.g HFBA.out.d) R6.st.wb
  obtain ⟨z0,z1,z2,z3,z4⟩:=R6.zc
  have f0:=Xb R6.z_ 0
  have f1:=Xb R6.z_ 1
  have f2:=Xb R6.z_ 2
  have f3:=Xb R6.z_ 3
  have f4:=Xb R6.z_ 4
  have HFIN:=Xa.mk (R6.finish (Forms.mk HFBA.out.p HFBA.out.c HFBA.out.m HFBA.out.g HFBA.out.d))
  go_wp2
  (try simp only [Exit.inBlock,Exit.then])
  refine bodyPost_ret (results_cell_row rfl _ _ z 45 #[.slice (some ⟨P,0,none⟩) s.n q0,.slice (some ⟨C,0,none⟩) 3 q1,.slice (some ⟨M,0,none⟩) 2 q2,.slice (some ⟨S,0,none⟩) 2 q3,.slice Ad s.said.length q4] (0,0) _ rfl HFIN.out.1 Try.underlying45 rfl (by kernel_rfl)) rfl ?_
  rw [doIt_wait]
  simp only [Yv]
  rw [HE.out]
  exact HFIN.out.2
structure WR6 (g sb P a:Nat) (pv lv:Value) (W:World):Prop where
  p:W.cell? ⟨g,0,none⟩=some pv
  b:W.cell? ⟨sb,1,none⟩=some (.int .i64 (a:Int))
  l:W.cell? ⟨sb,4,none⟩=some lv
theorem WR6.later {g sb P a:Nat} {pv lv:Value} {W W1:World} (h:WR6 g sb P a pv lv W) (hb:Below W.heap.size W W1):WR6 g sb P a pv lv W1:=⟨Xc hb h.p,Xc hb h.b,Xc hb h.l⟩
theorem free_same {b b':BK} {s s':WS} {k:Nat} (hp:b'.p=b.p) (hc:b'.c=b.c) (hm:b'.m=b.m) (hs:b'.s=b.s) (hd:b'.d=b.d) (h0:b'.q 0=b.q 0) (h1:b'.q 1=b.q 1) (hr:b'.r=b.r) (hn:s'.n=s.n) (h:free (lay b s) k):free (lay b' s') k:=by
  intro a x hx
  match a with
  |0=>injection hx with hx;subst hx;rw [show (Row.mk b'.p 67 5 s'.n (cellsOf 5 s'.n (Yr b' s'))).v=b.p from hp];exact h 0 _ rfl
  |1=>injection hx with hx;subst hx;rw [show (Row.mk b'.c 3 1 3 (ints 3 s'.cell)).v=b.c from hc];exact h 1 _ rfl
  |2=>injection hx with hx;subst hx;rw [show (Row.mk b'.m 3 1 2 (ints 2 s'.room)).v=b.m from hm];exact h 2 _ rfl
  |3=>injection hx with hx;subst hx;rw [show (Row.mk b'.s 23 1 2 ((List.range 2).map b'.q)).v=b.s from hs];exact h 3 _ rfl
  |4=>injection hx with hx;subst hx;rw [show (Row.mk b'.d 95 2 s'.said.length (saidC s'.said)).v=b.d from hd];exact h 4 _ rfl
  |5=>injection hx with hx;subst hx;rw [show (Row.mk (b'.q 0) 3 0 (s'.sign 0).length (nums .i64 (s'.sign 0))).v=b.q 0 from h0];exact h 5 _ rfl
  |6=>injection hx with hx;subst hx;rw [show (Row.mk (b'.q 1) 3 0 (s'.sign 1).length (nums .i64 (s'.sign 1))).v=b.q 1 from h1];exact h 6 _ rfl
  |j+7=>
    have hx':(if j<s'.n then some (Row.mk (b'.r j) 3 1 3 (ints 3 (s'.proc j).regs)) else none)=some x:=hx
    by_cases hj:j<s'.n
    · rw [if_pos hj] at hx';injection hx' with hx';subst hx'
      rw [show (Row.mk (b'.r j) 3 1 3 (ints 3 (s'.proc j).regs)).v=b.r j from congrFun hr j]
      exact h (j+7) _ (lay_reg b s (hn ▸ hj))
    · rw [if_neg hj] at hx';cases hx'
theorem V_stepTo {W W1:World} {b b':Nat} {P0:Nat→Prop} {v:Value} {l:List T} (h:Kd.V KT 69 W b P0 v l) (hm:∀ k,P0 k→k<W.heap.size→W1.heap[k]?=W.heap[k]?):Kd.V KT 69 W1 b' P0 v l:=Kd.V_step (e:=69) (base:=b') h hm
theorem room_in (W:World) (base:Nat) (ok:Nat→Prop) (b:BK) (s:WS) (i:Nat) (ta tb tn:Int) (l4 l5:List T) (A4:Option Addr) (aB:Nat) (A5:Option Addr) (aC:Nat) (P0:Nat→Prop) (Ar:Option Addr) (cR:Nat) (rest:List T) (h:At W base ok b s) (hup:∀ k,W.heap.size≤k→ok k) (hi:i<s.n)
    (hr:Kd.V KT 69 W 0 P0 (.slice Ar rest.length cR) rest) (hp:∀ k,P0 k→ok k∧free (lay b s) k) (ha:0≤ta∧ta<2) (hlr:rest.length≤400000) (hv4:Kd.V KT 69 W 0 P0 (.slice A4 l4.length aB) l4) (hl4:l4.length≤100)  (hin:i≤1000) :
    Calls Try.prog 37 #[RV b,.int .i64 (i:Int),.agg #[.int .i64 8,.int .i64 ta,.int .i64 tb,.int .i64 tn,.slice A4 l4.length aB,.slice A5 l5.length aC],.slice Ar rest.length cR] W (RL W base ok (Uh (s.Yx i { s.proc i with todo:=rest }) i ⟨8,ta,tb,tn,l4,l5⟩)):=by
  obtain ⟨a',rfl⟩:=Int.eq_ofNat_of_zero_le ha.1
  have HRS:=Xa.mk (V_lt (b':=0) hr)
  have HVS:=Xa.mk (V_lt (b':=0) hv4)
  have bD:=Xa.mk hl4
  have hw1:IntKind.i64.wrap ((i:Int)+1)=(i:Int)+1:=by rw [IntKind.wrap_i64];omega
  clear hv4 hl4
  have HPP:=Xa.mk hp
  have HLR:=Xa.mk hlr
  clear hr hp hlr
  obtain ⟨P,C,M,S,Ad,q0,q1,q2,q3,q4,HF⟩:=h.forms (by omega)
  have R:=RS.start3 h hup (.cells #[.int .i64 8,.int .i64 (a':Int),.int .i64 tb,.int .i64 tn,.slice A4 l4.length aB,.slice A5 l5.length aC] 69)
  rw [HF.rb] at R
  rw [HF.rv]
  have HFA:=Xa.mk HF
  clear h hup HF
  go_enter Try.func37,Try.ntmps37
  go_upto_region 1 with (fail)
  generalize ((W.alloc (.cells #[.slice (some ⟨P,0,none⟩) s.n q0,.slice (some ⟨C,0,none⟩) 3 q1,.slice (some ⟨M,0,none⟩) 2 q2,.slice (some ⟨S,0,none⟩) 2 q3,.slice Ad s.said.length q4] 45)).alloc (.cells #[.int .i64 8,.int .i64 (a':Int),.int .i64 tb,.int .i64 tn,.slice A4 l4.length aB,.slice A5 l5.length aC] 69)).alloc ZB=W1 at *
  obtain ⟨R,hsb,hbW⟩:=R
  generalize hgz:W.heap.size+1+1=z at *
  generalize hgs:W.heap.size+1=sb at *
  generalize hg:W.heap.size=g at *
  obtain ⟨c0,c1,c2,c3,c4⟩:=HFA.out.cells R.st.wb
  have HP:=R.st.at_.Yj (by omega) HFA.out.p
  obtain ⟨b0,b1,b2,b3,b4,b5⟩:=box6 hsb
  have i0:(0:Int)≤(i:Int):=by omega
  have i1:(i:Int)<(s.n:Int):=by omega
  have i2:decide (i<s.n)=true:=decide_eq_true hi
  have a3:(a':Int)<2:=by omega
  have a4:decide (a'<2)=true:=decide_eq_true (by omega)
  have hr1:Kd.V KT 69 W1 base (fun k=>(ok k∧¬ (k=g∨k=sb∨k=z))∧free (lay b s) k) (.slice Ar rest.length cR) rest:=Kd.Um (Ub HRS.out (hg.symm ▸ hbW)) (fun k hk=>⟨⟨(HPP.out k hk.1).1,by have:=hk.2;omega⟩,(HPP.out k hk.1).2⟩)
  have hVT:=R.st.at_.tree i hi
  obtain ⟨AT,cT,eT⟩:=Kd.V_slice hVT
  have p1:=HP.cell i 1 hi (by omega)
  simp only [Yr,eT] at p1
  simp at p1
  have aJ:=HP.free_ (i * 5+1)
  go_upto_region 2 with (fail)
  have hw:=R.st.at_.todo R.st.up hi (.slice Ar rest.length cR) rest HP hr1
  have R2:=R.write (t':=up b.t i (.slice Ar rest.length cR)) (q':=b.q) hw
  have hlt2:P<W1.heap.size:=HP.lt
  have hne:sb≠P:=fun e=>(R.st.at_.rows.ok_ 0 _ rfl P (by show b.p.ownBlock=_;rw [HFA.out.p];rfl)).2 (.inr (.inl e.symm))
  have aA:=Zf (p:=⟨P,i * 5+1,none⟩) hsb hne (.slice Ar rest.length cR)
  have hbo:Only W1 (W1.setCell ⟨P,i * 5+1,none⟩ (.slice Ar rest.length cR)) ok:=hw.2.mono (fun k hk=>hk.1)
  have hf2:∀ k,k≠P→(W1.setCell ⟨P,i * 5+1,none⟩ (.slice Ar rest.length cR)).heap[k]?=W1.heap[k]?:=fun k hk=>Below.heap_setCell _ _ _ k hk
  have HWS:Xa (W1.heap.size≤W1.heap.size):=⟨Nat.le_refl _⟩
  clear c0 c1 c2 c3 c4 HP b0 b1 b2 b3 b4 b5 p1 aJ hsb hw R hVT eT hr1 hlt2 hne hbo
  generalize W1.setCell ⟨P,i * 5+1,none⟩ (.slice Ar rest.length cR)=W2 at *
  have HFB:Forms { b with t:=up b.t i (.slice Ar rest.length cR),q:=b.q } (s.Yx i { s.proc i with todo:=rest }) P C M S Ad q0 q1 q2 q3 q4:=⟨HFA.out.p,HFA.out.c,HFA.out.m,HFA.out.g,HFA.out.d⟩
  have HFBA:=Xa.mk HFB
  have aP:=Xa.mk hf2
  clear hf2
  obtain ⟨c0,c1,c2,c3,c4⟩:=HFB.cells R2.st.wb
  change _=some (Value.slice (some ⟨P,0,none⟩) s.n q0) at c0
  change _=some (Value.slice Ad s.said.length q4) at c4
  have HP:=R2.st.at_.Yj (Nat.lt_of_le_of_lt (Nat.zero_le i) hi) HFB.p
  obtain ⟨b0,b1,b2,b3,b4,b5⟩:=box6 aA
  clear HFB
  have HM:=ints_at R2.st.at_.rooms HFBA.out.m
  have m_a:=HM.cell a' (by omega)
  have m_f:=HM.free_ a'
  have HI:=Xa.mk hi
  go_upto_region 5 with (fail)
  have hw:=R2.st.at_.roomSet R2.st.up a' ((i:Int)+1) HM
  have R3:=R2.write (t':=up b.t i (.slice Ar rest.length cR)) (q':=b.q) hw
  have aD:=R2.sblk aA (.inr (.inl rfl)) hw.2
  have aW:Only W2 (W2.setCell ⟨M,a',none⟩ (.int .i64 ((i:Int)+1))) (fun k=>ok k∧¬ (k=g∨k=sb∨k=z)):=hw.2
  have aK:∀ k,k≠M→(W2.setCell ⟨M,a',none⟩ (.int .i64 ((i:Int)+1))).heap[k]?=W2.heap[k]?:=fun k hk=>Below.heap_setCell _ _ _ k hk
  clear c0 c1 c2 c3 c4 HP b0 b1 b2 b3 b4 b5 hw R2 HM m_a m_f aA aW
  generalize W2.setCell ⟨M,a',none⟩ (.int .i64 ((i:Int)+1))=W3 at *
  have bC:=Xa.mk aK
  clear aK
  obtain ⟨c0,c1,c2,c3,c4⟩:=Forms.cells (Forms.mk HFBA.out.p HFBA.out.c HFBA.out.m HFBA.out.g HFBA.out.d) R3.st.wb
  change _=some (Value.slice (some ⟨P,0,none⟩) s.n q0) at c0
  change _=some (Value.slice Ad s.said.length q4) at c4
  have HP:=R3.st.at_.Yj (Nat.lt_of_le_of_lt (Nat.zero_le i) hi) HFBA.out.p
  have p4:=HP.cell i 4 hi (by omega)
  have aO:=HP.free_ (i * 5+4)
  obtain ⟨b0,b1,b2,b3,b4,b5⟩:=box6 aD
  have hf3:∀ k,k≠M→W3.heap[k]?=W2.heap[k]?:=bC.out
  go_upto_region 6 with (fail)
  have hw:=R3.st.at_.roomOf R3.st.up (i:=i) hi (a':Int) HP
  have R4:=R3.write (t':=up b.t i (.slice Ar rest.length cR)) (q':=b.q) hw
  have aF:=R3.sblk aD (.inr (.inl rfl)) hw.2
  have bA:∀ k,k≠P→(W3.setCell ⟨P,i * 5+4,none⟩ (.int .i64 (a':Int))).heap[k]?=W3.heap[k]?:=fun k hk=>Below.heap_setCell _ _ _ k hk
  clear c0 c1 c2 c3 c4 HP hw R3 p4 aO aD b0 b1 b2 b3 b4 b5
  generalize W3.setCell ⟨P,i * 5+4,none⟩ (.int .i64 (a':Int))=W4 at *
  have hfar:∀ k,P0 k∧k<g→k<W1.heap.size→W4.drew.heap[k]?=W1.heap[k]?:=fun k hk _=>by
    have n0:k≠P:=fun e=>(HPP.out k hk.1).2 0 _ rfl (by show b.p.ownBlock=_;rw [HFA.out.p,e];rfl)
    have n2:k≠M:=fun e=>(HPP.out k hk.1).2 2 _ rfl (by show b.m.ownBlock=_;rw [HFA.out.m,e];rfl)
    exact (bA k n0).trans ((hf3 k n2).trans (aP.out k n0))
  have HVR:Xa (Kd.V KT 69 W4.drew W4.drew.heap.size (fun k=>P0 k∧k<g) (.slice Ar rest.length cR) rest):=⟨V_stepTo (Ub (b':=0) HRS.out (hg.symm ▸ hbW)) hfar⟩
  have bG:Xa (Kd.V KT 69 W4.drew W4.drew.heap.size (fun k=>P0 k∧k<g) (.slice A4 l4.length aB) l4):=⟨V_stepTo (Ub (b':=0) HVS.out (hg.symm ▸ hbW)) hfar⟩
  have RD:=R4.below (Xl (Below.refl _ W4))
  have hsbD:=R4.sblk aF (.inr (.inl rfl)) (Only.of_below (Xl (Below.refl _ W4)) _)
  have hPD:=RD.st.at_.Yj (Nat.lt_of_le_of_lt (Nat.zero_le i) hi) HFBA.out.p
  have p1:=hPD.cell i 1 hi (by omega)
  simp only [Yr,up_same] at p1
  simp at p1
  have bF:Xa (W4.drew.cell? ⟨P,i * 5+1,none⟩=some (.slice Ar rest.length cR)):=⟨p1⟩
  have HPF:Xa (W4.drew.frozen? ⟨P,i * 5+1,none⟩=false):=⟨hPD.free_ _⟩
  have HPL:Xa (P<W4.drew.heap.size):=⟨hPD.lt⟩
  have aG:Xa (WR6 g sb P a' (.slice (some ⟨P,0,none⟩) s.n q0) (.slice A4 l4.length aB) W4.drew):=⟨⟨(Forms.cells (Forms.mk HFBA.out.p HFBA.out.c HFBA.out.m HFBA.out.g HFBA.out.d) RD.st.wb).1,(Xm hsbD 1).trans rfl,(Xm hsbD 4).trans rfl⟩⟩
  have aR:Xa (Zq.f [leave (a':Int)] rest=some ([leave (a':Int)] ++ rest)):=⟨ahead_is _ _ (by simp) (by have:=HLR.out;omega)⟩
  have HRD:=Xa.mk RD
  have HQQ:Xa (∀ k,P0 k∧k<g→(ok k∧¬ (k=g∨k=sb∨k=z))∧free (lay b s) k):=⟨fun k hk=>⟨⟨(HPP.out k hk.1).1,by have:=hk.2;omega⟩,(HPP.out k hk.1).2⟩⟩
  clear RD hsbD hPD p1 hf3 bA hfar R4 aF
  refine start_ (n:=15) (S:=WR6 g sb P a' (.slice (some ⟨P,0,none⟩) s.n q0) (.slice A4 l4.length aB)) (ds:=[14]) #[false,false,false,false,false,false,false,false,false,false,false,false,false,false,false] (by kernel_rfl) rfl (by rfl) aG.out (fun hHeld=>?_)
  refine Xp (i:=0) (N:=some 33) (v:=?_) (a':=?_) #[true,false,false,false,false,false,false,false,false,false,false,false,false,false,false] rfl rfl (by kernel_rfl) (fun _ _ _ h=>h) (Or.inl ⟨by rfl,?_⟩) ?_ ?_
  rotate_left
  · exact wr_
  rotate_left
  · exact ap_
  refine Xp (i:=2) (N:=some 35) (v:=?_) (a':=?_) #[true,false,true,false,false,false,false,false,false,false,false,false,false,false,false] rfl rfl (by kernel_rfl) (fun _ _ _ h=>h) (Or.inl ⟨by rfl,?_⟩) ?_ ?_
  rotate_left
  · exact wr_
  rotate_left
  · exact ap_
  refine Xp (i:=3) (N:=some 36) (v:=?_) (a':=?_) #[true,false,true,true,false,false,false,false,false,false,false,false,false,false,false] rfl rfl (by kernel_rfl) (fun _ _ _ h=>h) (Or.inl ⟨by rfl,?_⟩) ?_ ?_
  rotate_left
  · exact wr_
  rotate_left
  · exact ap_
  refine Xp (i:=5) (N:=some 38) (v:=?_) (a':=?_) #[true,false,true,true,false,true,false,false,false,false,false,false,false,false,false] rfl rfl (by kernel_rfl) (fun _ _ _ h=>h) (Or.inl ⟨by rfl,?_⟩) ?_ ?_
  rotate_left
  · exact wr_
  rotate_left
  · exact ap_
  refine Xp (i:=9) (N:=some 42) (v:=?_) (a':=?_) #[true,false,true,true,false,true,false,false,false,true,false,false,false,false,false] rfl rfl (by kernel_rfl) (fun _ _ _ h=>h) (Or.inl ⟨by rfl,?_⟩) ?_ ?_
  rotate_left
  · exact wr_
  rotate_left
  · exact ap_
  refine Zp (i:=1) (N:=some 34) (v:=?_) (a':=?_) #[true,true,true,true,false,true,false,false,false,true,false,false,false,false,false] rfl rfl (by kernel_rfl) (fun _ _ _ h=>h) (Or.inl ⟨by rfl,?_⟩) hHeld ?_ ?_
  rotate_left
  · rintro w' s0;have c0:=s0.p;have c1:=s0.b;have c2:=s0.l;clear s0
    go_simp
    with_reducible rfl
  rotate_left
  · exact ap_
  refine Zp (i:=4) (N:=some 37) (v:=?_) (a':=?_) #[true,true,true,true,true,true,false,false,false,true,false,false,false,false,false] rfl rfl (by kernel_rfl) (fun _ _ _ h=>h) (Or.inl ⟨by rfl,?_⟩) hHeld ?_ ?_
  rotate_left
  · rintro w' s0;have c0:=s0.p;have c1:=s0.b;have c2:=s0.l;clear s0
    go_simp
    with_reducible rfl
  rotate_left
  · exact ap_
  refine Zp (i:=6) (N:=some 39) (v:=?_) (a':=?_) #[true,true,true,true,true,true,true,false,false,true,false,false,false,false,false] rfl rfl (by kernel_rfl) (fun _ _ _ h=>h) (Or.inl ⟨by rfl,?_⟩) hHeld ?_ ?_
  rotate_left
  · rintro w' s0;have c0:=s0.p;have c1:=s0.b;have c2:=s0.l;clear s0
    go_simp
    with_reducible rfl
  rotate_left
  · exact ap_
  refine Xp (i:=7) (N:=some 40) (v:=?_) (a':=?_) #[true,true,true,true,true,true,true,true,false,true,false,false,false,false,false] rfl rfl (by kernel_rfl) (fun _ _ _ h=>h) (Or.inl ⟨by rfl,?_⟩) ?_ ?_
  rotate_left
  · exact wr_
  rotate_left
  · exact ap_
  refine one_ (i:=8) (N:=some 41) #[true,true,true,true,true,true,true,true,true,true,false,false,false,false,false] rfl rfl (by kernel_rfl) (by decide) (fun K hK=>?_)
  refine value_ (v:=.slice (some ⟨W4.drew.heap.size,0,none⟩) 1 1) (w1:=W4.drew.alloc (.cells #[.int .i64 12,.int .i64 (a':Int),.int .i64 0,.int .i64 0,.slice none 0 0,.slice none 0 0] 69)) rfl rfl (by kernel_rfl) ?_
  have hba:=Xj (Below.refl W4.drew.heap.size W4.drew) (.cells #[.int .i64 12,.int .i64 (a':Int),.int .i64 0,.int .i64 0,.slice none 0 0,.slice none 0 0] 69)
  have hbx:=Yz W4.drew (.cells #[.int .i64 12,.int .i64 (a':Int),.int .i64 0,.int .i64 0,.slice none 0 0,.slice none 0 0] 69)
  obtain ⟨wA,hwA⟩:∃ wA,W4.drew.alloc (.cells #[.int .i64 12,.int .i64 (a':Int),.int .i64 0,.int .i64 0,.slice none 0 0,.slice none 0 0] 69)=wA:=⟨_,rfl⟩
  rw [hwA] at hba hbx ⊢
  clear hwA
  have HBA:=Xa.mk hba
  have bB:Xa (Kd.V KT 69 wA wA.heap.size (fun k=>False∨k=W4.drew.heap.size) (.slice (some ⟨W4.drew.heap.size,0,none⟩) [leave (a':Int)].length 1) [leave (a':Int)]):=⟨Kd.V_mk (Nat.le_refl _) (F_one (P1:=fun _=>False) (t:=leave (a':Int)) (A4:=none) (c4:=0) (A5:=none) (c5:=0) hbx (Kd.F_nil _ _ _) (Kd.F_nil _ _ _) (Nat.le_refl _) (Nat.le_refl _))⟩
  clear hba hbx
  refine hK.out _ _ (aG.out.later HBA.out) (fun hHeld=>?_)
  clear hK K
  refine Zj (a':=?_) ?_ ?_
  rotate_left
  · show Act.put _ (some 41) _=_
    simp only [Act.put,List.setIfInBounds_toArray,List.set_cons_zero,List.set_cons_succ,Zc,Zb]
    rfl
  refine one_ (i:=10) (N:=some 43) #[true,true,true,true,true,true,true,true,true,true,true,false,false,false,false] rfl rfl (by kernel_rfl) (by decide) (fun K hK=>?_)
  refine goes_ Try.func55 (by kernel_rfl) rfl #[.slice (some ⟨W4.drew.heap.size,0,none⟩) 1 1,.slice Ar rest.length cR] (by rfl) rfl rfl ga_ ?_
  refine (Zq.calls (fun k=>False∨k=W4.drew.heap.size) (some ⟨W4.drew.heap.size,0,none⟩) 1 [leave (a':Int)] (fun k=>P0 k∧k<g) Ar cR rest ([leave (a':Int)] ++ rest) wA bB.out (Ub HVR.out HBA.out) aR.out).mono ?_
  rintro e wB ⟨vB,rfl,hnB,hbB⟩
  refine ⟨_,rfl,?_⟩
  have aM:([leave (a':Int)] ++ rest).length=rest.length+1:=by simp
  obtain ⟨lB,hlB⟩:∃ lB:List T,lB=[leave (a':Int)] ++ rest:=⟨_,rfl⟩
  rw [← hlB] at hnB aM
  have HLB:=Xa.mk hlB
  obtain ⟨AB,cB,evB⟩:=Kd.N_slice hnB
  subst evB
  have HBB:Xa (Below W4.drew.heap.size W4.drew wB):=⟨HBA.out.trans (hbB.mono HBA.out.size)⟩
  have HVB:Xa (Kd.V KT 69 wB wB.heap.size (fun k=>(P0 k∧k<g)∨W4.drew.heap.size≤k) (.slice AB lB.length cB) lB):=⟨Kd.Um (Kd.N_V (base':=wB.heap.size) hnB) (fun k hk=>by rcases hk with ((hk|hk)|hk)|hk;exact hk.elim;exact .inr (Nat.le_of_eq hk.symm);exact .inl hk;exact .inr (Nat.le_trans HBA.out.size hk))⟩
  have aS:Xa (Zq.f l4 lB=some (l4 ++ lB)):=⟨ahead_is _ _ (by have:=bD.out;omega) (by have:=HLR.out;omega)⟩
  clear hlB hnB hbB aM
  refine hK.out _ _ (aG.out.later HBB.out) (fun hHeld=>?_)
  clear hK K
  refine Zj (a':=?_) ?_ ?_
  rotate_left
  · show Act.put _ (some 43) _=_
    simp only [Act.put,List.setIfInBounds_toArray,List.set_cons_zero,List.set_cons_succ,Zc,Zb]
    rfl
  refine one_ (i:=11) (N:=some 44) #[true,true,true,true,true,true,true,true,true,true,true,true,false,false,false] rfl rfl (by kernel_rfl) (by decide) (fun K hK=>?_)
  refine goes_ Try.func55 (by kernel_rfl) rfl #[.slice A4 l4.length aB,.slice AB lB.length cB] (by rfl) rfl rfl ga_ ?_
  refine (Zq.calls (fun k=>P0 k∧k<g) A4 aB l4 (fun k=>(P0 k∧k<g)∨W4.drew.heap.size≤k) AB cB lB (l4 ++ lB) wB (Ub bG.out HBB.out) HVB.out aS.out).mono ?_
  rintro e w1 ⟨v1,rfl,hn1,hb1⟩
  refine ⟨_,rfl,?_⟩
  obtain ⟨A3,c3,aV⟩:=Kd.N_slice hn1
  subst aV
  have aH:=Xa.mk hn1
  have HB1:Xa (Below W4.drew.heap.size W4.drew w1):=⟨HBB.out.trans (hb1.mono HBB.out.size)⟩
  have HB1':=Xa.mk hb1.size
  clear hn1 hb1
  have hx1:=Xc HB1.out bF.out
  have hf1:w1.frozen? ⟨P,i * 5+1,none⟩=false:=by rw [World.frozen?_of_block (HB1.out.block P HPL.out)];exact HPF.out
  refine hK.out _ _ (aG.out.later HB1.out) (fun hHeld=>?_)
  clear hK K
  refine Zj (a':=?_) ?_ ?_
  rotate_left
  · show Act.put _ (some 44) _=_
    simp only [Act.put,List.setIfInBounds_toArray,List.set_cons_zero,List.set_cons_succ,Zc,Zb]
    rfl
  refine Xp (i:=12) (N:=some 45) (v:=?_) (a':=?_) #[true,true,true,true,true,true,true,true,true,true,true,true,true,false,false] rfl rfl (by kernel_rfl) (fun _ _ _ h=>h) (Or.inl ⟨by rfl,?_⟩) ?_ ?_
  rotate_left
  · exact wr_
  rotate_left
  · exact ap_
  refine Xp (i:=13) (N:=some 46) (v:=?_) (a':=?_) #[true,true,true,true,true,true,true,true,true,true,true,true,true,true,false] rfl rfl (by kernel_rfl) (fun _ _ _ h=>h) (Or.inl ⟨by rfl,?_⟩) ?_ ?_
  rotate_left
  · exact wr_
  rotate_left
  · exact ap_
  refine last_ (i:=14) (N:=none) #[true,true,true,true,true,true,true,true,true,true,true,true,true,true,true] rfl rfl (by kernel_rfl) (by decide) (fun K hK=>?_)
  refine skip_ (w1:=w1.setCell ⟨P,i * 5+1,none⟩ (.slice A3 (l4 ++ lB).length c3)) rfl rfl ?_ ?_
  · first|(go_simp;done)|(go_simp;rfl)
  refine hK.out _ _ ?_
  clear hK K
  refine done_ (by kernel_rfl) ?_
  skip
  go_upto_region 17 with (fail)
  have RE:=HRD.out.below HB1.out
  have hv:Kd.V KT 69 w1 base (fun k=>(ok k∧¬ (k=g∨k=sb∨k=z))∧free (lay b s) k) (.slice A3 (l4 ++ lB).length c3) (l4 ++ lB):=Kd.Um (Kd.N_V (base':=base) aH.out) (fun k hk=>by
    have new:W4.drew.heap.size≤k→(ok k∧¬ (k=g∨k=sb∨k=z))∧free (lay b s) k:=fun hk=>⟨(HRD.out.new hk).1,free_same (by rfl) (by rfl) (by rfl) (by rfl) (by rfl) (by rfl) (by rfl) (by rfl) (by rfl) (HRD.out.new hk).2⟩
    rcases hk with (hk|hk|hk)|hk
    · exact HQQ.out k hk
    · exact HQQ.out k hk
    · exact new hk
    · exact new (Nat.le_trans HBB.out.size hk))
  have hw:=RE.st.at_.todo RE.st.up (i:=i) HI.out _ (l4 ++ lB) (RE.st.at_.Yj (Nat.lt_of_le_of_lt (Nat.zero_le i) HI.out) HFA.out.p) (Kd.Um hv (fun k hk=>⟨hk.1,free_same (by rfl) (by rfl) (by rfl) (by rfl) (by rfl) (by rfl) (by rfl) (by rfl) (by rfl) hk.2⟩))
  have R9:=RE.write (q':=b.q) hw
  clear RE hw hv hx1 hf1
  generalize w1.setCell ⟨P,i * 5+1,none⟩ (.slice A3 (l4 ++ lB).length c3)=W9 at *
  simp only [Yv,setP_setP] at R9
  have HEL:Xa (l4 ++ [leave (a':Int)] ++ rest=l4 ++ lB):=⟨by rw [HLB.out,List.append_assoc]⟩
  obtain ⟨d0,d1,d2,d3,d4⟩:=Forms.cells (Forms.mk HFBA.out.p HFBA.out.c HFBA.out.m HFBA.out.g HFBA.out.d) R9.st.wb
  obtain ⟨z0,z1,z2,z3,z4⟩:=R9.zc
  have f0:=Xb R9.z_ 0
  have f1:=Xb R9.z_ 1
  have f2:=Xb R9.z_ 2
  have f3:=Xb R9.z_ 3
  have f4:=Xb R9.z_ 4
  have HFIN:=Xa.mk (R9.finish (Forms.mk HFBA.out.p HFBA.out.c HFBA.out.m HFBA.out.g HFBA.out.d))
  go_wp2
  (try simp only [Exit.inBlock,Exit.then])
  refine bodyPost_ret (results_cell_row rfl _ _ z 45 #[.slice (some ⟨P,0,none⟩) s.n q0,.slice (some ⟨C,0,none⟩) 3 q1,.slice (some ⟨M,0,none⟩) 2 q2,.slice (some ⟨S,0,none⟩) 2 q3,.slice Ad s.said.length q4] (0,0) _ rfl HFIN.out.1 Try.underlying45 rfl (by kernel_rfl)) rfl ?_
  rw [doIt_in]
  simp only [Yv]
  rw [HEL.out]
  exact HFIN.out.2
end Go.Proofs.Ytlhogkfmdnpmkaa.Mean
