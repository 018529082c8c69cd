import Derived.Test.YtokajnfbiddpjaaCFnSlimSome21
import Derived.Test.YtokajnfbiddpjaaCFnSlimSome40
import Derived.Test.YtokajnfbiddpjaaCFnSlimSome33
import Derived.Test.YtokajnfbiddpjaaCFnSlimSome31
import Derived.Lib.Hide
import Derived.WalkSpells
import Derived.Deep.DeepMust
set_option maxHeartbeats 8000000
set_option maxRecDepth 100000
namespace Go.Proofs.Ytokajnfbiddpjaa.GSlim
open Go.RowKit Go.Proofs.YtokajnfbiddpjaaW.PrintWords Go.Proofs.YtokajnfbiddpjaaW.PrintLast Go.Proofs.YtokajnfbiddpjaaW.PrintMore
attribute [local go_sem] Zx Zz Ul Um Zl Zm Zy Ua
set_option linter.unusedVariables false
set_option linter.unusedSimpArgs false
section
open Go.Proofs.Ytokajnfbiddpjaa.HMap Go.Proofs.Ytokajnfbiddpjaa.Range
abbrev reach.I:=S31
def reach.Vu:List Int→List Int→List Int→List Int × List Int
 |seen,pend,[]=>(seen,pend)
 |seen,pend,t :: r=>if t ∈ seen then reach.Vu seen pend r else reach.Vu (seen ++ [t]) (pend ++ [t]) r
def reach.trav:Nat→List reach.I→List Int→List Int→List Int→Option (List Int)
 |0,_,_,_,_=>none
 |_+1,_,_,[],acc=>some acc
 |k+1,c,seen,at_ :: rest,acc=>if 0≤at_∧at_<(c.length:Int)∧rest.length<1000000 then
   (Ui.f (Xb c at_).f0 (Xb c at_).f1 (Xb c at_).f2 (Xb c at_).f3 at_).bind fun nx=>
    if nx.length<1000 then reach.trav k c (reach.Vu seen rest nx).1 (reach.Vu seen rest nx).2 (acc ++ [at_]) else none
  else none
def reach.marked (n:Nat) (xs:List Int):List Bool:=xs.foldl (fun out x=>out.set x.toNat true) (List.replicate n false)
def impl_reach.f (k:Nat) (l0:List reach.I):Option (List Bool):=if l0.length<1000000 then (reach.trav k l0 [0] [0] []).map (reach.marked l0.length) else none
def reach.sm (seen:List Int):List (Int × Value):=seen.map (fun n=>(n,Value.bool true))
theorem reach.at_sm (seen:List Int) (n:Int):(at_ (reach.sm seen) n).getD (.bool false)=.bool (decide (n ∈ seen)):=by
 unfold reach.sm at_
 induction seen with
 |nil=>rfl
 |cons x s ih=>
  simp only [List.map_cons,List.find?_cons];by_cases h:x=n
  ·subst h;simp
  ·have h1:(x == n)=false:=by simpa using h
   have h2:decide (n ∈ x :: s)=decide (n ∈ s):=by simp [Ne.symm h]
   rw [h1,h2];exact ih
theorem reach.put_sm:∀ (seen:List Int) (n:Int),n ∉ seen→put_ (reach.sm seen) n (.bool true)=reach.sm (seen ++ [n])
 |[],n,_=>rfl
 |x :: s,n,h=>by
  simp only [List.mem_cons,not_or] at h
  have h1:(x == n)=false:=by simpa using Ne.symm h.1
  show (if x == n then _ else _)=_
  rw [h1]
  show (x,Value.bool true) :: put_ (reach.sm s) n (.bool true)=_
  rw [reach.put_sm s n h.2];rfl
theorem reach.addAll_len:∀ (r seen pend:List Int),(reach.Vu seen pend r).2.length≤pend.length+r.length
 |[],_,_=>Nat.le_refl _
 |t :: r,seen,pend=>by
  rw [reach.Vu]
  split
  ·have:=reach.addAll_len r seen pend;simp;omega
  ·have:=reach.addAll_len r (seen ++ [t]) (pend ++ [t]);simp at this ⊢;omega
theorem reach.addAll_app:∀ (a b seen pend:List Int),reach.Vu seen pend (a ++ b)=reach.Vu (reach.Vu seen pend a).1 (reach.Vu seen pend a).2 b
 |[],_,_,_=>rfl
 |t :: a,b,seen,pend=>by
  simp only [List.cons_append,reach.Vu]
  split
  ·exact reach.addAll_app a b _ _
  ·exact reach.addAll_app a b _ _
theorem reach.addAll_pre:∀ (r seen a pend:List Int),reach.Vu seen (a ++ pend) r=((reach.Vu seen pend r).1,a ++ (reach.Vu seen pend r).2)
 |[],_,_,_=>rfl
 |t :: r,seen,a,pend=>by
  simp only [reach.Vu]
  split
  ·exact reach.addAll_pre r _ _ _
  ·rw [List.append_assoc];exact reach.addAll_pre r _ _ _
theorem reach.addAll_take (nx seen pend:List Int) (j:Nat) (hj:j<nx.length) :
  reach.Vu seen pend (nx.take (j+1))=if nx[j] ∈ (reach.Vu seen pend (nx.take j)).1 then reach.Vu seen pend (nx.take j) else ((reach.Vu seen pend (nx.take j)).1 ++ [nx[j]],(reach.Vu seen pend (nx.take j)).2 ++ [nx[j]]):=by
 rw [List.take_succ_eq_append_getElem hj,reach.addAll_app];simp only [reach.Vu]
def reach.Box (W:World) (B:Nat) (A:Option Addr) (n c:Nat):Prop:=W.heap[B]?=some (.cells #[.slice A n c] 25 (0,0))
theorem reach.map_ne {W:World} {b k q:Nat} {m:List (Int × Value)} {cells:Array Value} (h:Uc W b m) (hc:W.heap[k]?=some (.cells cells q (0,0))):some k≠some b:=by
 obtain ⟨es,cl,h1,_⟩:=h;intro e
 injection e with e
 subst e;rw [h1] at hc
 cases hc
theorem reach.Q_map {α:Type} {d:Kd α} {e:Nat} {W W':World} {base:Nat} {ok:Nat→Prop} {v:Value} {xs:List α} {b:Nat} {m:List (Int × Value)} (h:Kd.Q d e W base ok v xs) (hm:Uc W b m) (hg:W.grownBy W' (some b)):Kd.Q d e W' base ok v xs:=
 Kd.Q_mono (Kd.Q_move (Kd.Q_bound h) (fun k hk=>by
  obtain ⟨q,_,cells,hc⟩:=hk.2.2.2;exact hg.block k hk.2.2.1 (reach.map_ne hm hc))) (fun _ hk=>hk.1)
theorem reach.R_map {α:Type} {d:Kd α} {e:Nat} {W W':World} {base:Nat} {ok:Nat→Prop} {v:Value} {xs:List α} {b:Nat} {m:List (Int × Value)} (h:Kd.R d e W base ok v xs) (hm:Uc W b m) (hg:W.grownBy W' (some b)):Kd.R d e W' base ok v xs:=
 Kd.Xo (Kd.R_move (Kd.Vf h) (fun k hk=>by
  obtain ⟨q,_,cells,hc⟩:=hk.2.2.2;exact hg.block k hk.2.2.1 (reach.map_ne hm hc))) (fun _ hk=>hk.1)
theorem reach.Ue {α:Type} {d:Kd α} {e:Nat} {W W':World} {base:Nat} {v u u':Value} {xs:List α} (h:Kd.R d e W base (fun k=>some k≠u.ownBlock) v xs) (hg:W.grownBy W' u.ownBlock)
  (hat:u'.ownBlock=u.ownBlock∨∃ b,u'.ownBlock=some b∧W.heap.size≤b):Kd.R d e W' base (fun k=>some k≠u'.ownBlock) v xs:=
 Kd.Xo (Kd.R_move (Kd.Vf h) (fun k hk=>hg.block k hk.2.2.1 hk.1)) (fun k hk=>by
  rcases hat with h|⟨b,h,hb⟩
  ·rw [h];exact hk.1
  ·rw [h];intro e';injection e' with e';have:=hk.2.2.1;omega)
theorem reach.map_after {α:Type} {d:Kd α} {e:Nat} {W W':World} {base:Nat} {ok:Nat→Prop} {u:Value} {xs:List α} {b:Nat} {m:List (Int × Value)} (hm:Uc W b m) (hq:Kd.Q d e W base ok u xs) (hg:W.grownBy W' u.ownBlock):Uc W' b m:=
 hm.grown hg (fun e'=>by
  obtain ⟨cells,hc⟩:=Kd.Q_typed hq b e'.symm;exact reach.map_ne hm hc rfl)
theorem reach.wp_seen {P:Program} {w:World} {T K E:TypeId} {b:Nat} {seen:List Int} {ops:Array Oper} {rest:List Oper} {o:Oper} {a:Act} {Q:Exit→Act→World→Prop}
  (hg:o.guard=none) (mo x:Operand) (hop:o.op=Op.lookup T mo x false) (hT:P.underlying T=some (.map K E)) (hK:P.underlying K=some (.int .i64)) (n:Int)
  (hmo:a.eval mo=.map (some b)) (hx:a.eval x=.int .i64 n) (hm:Uc w b (reach.sm seen)) (hz:(zeroValue E).run P w=.ok (.bool false) w)
  (hK':wpList P ops Q rest (a.put o.dst (.bool (decide (n ∈ seen)))) w):wpList P ops Q (o :: rest) a w:=by
 refine wpList_lookup_im hg mo x false hop hT hK n (.bool false) hmo hx hm hz ?_
 rw [if_neg (by simp),reach.at_sm];exact hK'
theorem reach.Box.cell {W:World} {B:Nat} {A:Option Addr} {n c:Nat} (h:reach.Box W B A n c):W.cell? ⟨B,0,none⟩=some (.slice A n c):=by
 unfold reach.Box at h
 simp [World.cell?,h]
theorem reach.seq (c:List reach.I) (k0:Nat) (xs:List Int) (h:reach.trav k0 c [0] [0] []=some xs) (w0 wS:World) (A0:Option Addr) (c0:Nat) (hr0:Kd.C k31 w0 A0 c.length c) (hc0:c.length≤c0) (Bx:Nat)
  (hbx:reach.Box wS Bx A0 c.length c0) (hB:Below w0.heap.size w0 wS) (X:Nat→Prop) (hX0:∀ k,k<w0.heap.size→X k) (hXB:X Bx) :
  Seq Try.prog 82 #[.pointer (some ⟨Bx,0,none⟩)] (fun x:Int=>#[.int .i64 x]) X (fun ys=>ys=xs) (fun _=>True) (fun _ x=>0≤x∧x<(c.length:Int)) wS:=by
 intro l J Jx W hW hJ hJx hY h0;have HX0:=Xa.mk hX0;have HXB:=Xa.mk hXB;have bD:=Xa.mk hr0;have bG:=Xa.mk hc0;have HBW:=Xa.mk (hB.trans (hW.mono hB.size));have hlt:Bx<wS.heap.size:=(Array.getElem?_eq_some_iff.1 hbx).1;have HBX:=Xa.mk (show reach.Box W Bx A0 c.length c0 from (hW.block Bx hlt).trans hbx);have HBl:=Xa.mk (show Bx<W.heap.size from Nat.lt_of_lt_of_le hlt hW.size);have HJ:=Xa.mk hJ;have HJx:=Xa.mk hJx;have HY:=Xa.mk hY;have bI:=Xa.mk h0;have H:=Xa.mk h;have HW0:=Xa.mk (show w0.heap.size≤W.heap.size from Nat.le_trans hB.size hW.size);clear hX0 hXB hr0 hc0 hbx hB hW hlt hJ hJx hY h0 h;have HB:=Xa.mk (Below.refl W.heap.size W);have hmm:=@run_makeMap Try.prog
 go_enter Try.func82,Try.ntmps82
 have HM:=Xa.mk (Uc.made W);have HB1:=Xa.mk ((Below.refl W.heap.size W).alloc (Nat.le_refl _) (.map #[] 0))
 go_upto_block 0 with (first|(refine Vd rfl _ _ _ (.inr rfl) Try.underlying117 Try.underlying3 _ rfl rfl HM.out ?_;intro w1 hm1 hg1 hs1;have aH:Xa (Uc w1 W.heap.size (reach.sm [0])):=⟨hm1⟩;have aI:=Xa.mk (Below.grown HB1.out hg1 (Below.size HB1.out) (fun k e=>by cases e;exact Nat.le_refl _));clear hg1 hs1 hm1 HM HB1;have HM:=aH;have HB1:=aI;clear aH aI)|((with_reducible refine Xt (N:=10) rfl ?_);refine Kd.Vo (Kd.int .i64) _ 3 ?hg (N:=10) ?hd (xs:=([0]:List Int)) (inner:=[.int .i64 0]) (ok:=fun _=>True) (okp:=fun _=>True) ?hr ?hp (fun _ hk=>hk) trivial (Below.refl _ _) (Nat.le_refl _) (by simp) ?_;(case hd|hg=>rfl);(case hr=>exact hr_);(case hp=>exact (Yj.one (show Kd.M (Kd.int .i64) _ _ _ 0 [.int .i64 0] from rfl) (Yj.none _ _)));intro v1 w5 bN hb dB aX;clear dB aX;have HQ:=Xa.mk (Kd.Q_of_R (Kd.Yi bN (Xd HB1.out)));replace HM:=Xa.mk (HM.out.below hb);replace HB1:=Xa.mk (Xe HB1.out hb);clear bN hb))
 have aU:=Xa.mk (HJ.out _ _ _ bI.out HB1.out);have aA:=Xa.mk (HBW.out.trans (HB1.out.mono HW0.out));have aD:=Xa.mk (show reach.Box _ Bx A0 c.length c0 from (HB1.out.block Bx HBl.out).trans HBX.out);clear bI HB1 HB;go_wp2
 go_loopg [4] k0 (fun kq v4 w'=>∃ (seen pend acc:List Int),Xa (reach.trav kq c seen pend acc=some xs)∧Xa (kq≤k0)∧Xa (J acc w')∧Xa (Uc w' W.heap.size (reach.sm seen))∧Xa (Kd.Q (Kd.int .i64) 3 w' W.heap.size (fun _=>True) v4 pend)∧Xa (Below w0.heap.size w0 w')∧Xa (reach.Box w' Bx A0 c.length c0))
 case atStart=>exact ⟨[0],[0],[],H,⟨Nat.le_refl _⟩,aU,HM,HQ,aA,aD⟩
 case round=>
  clear H aU HM HQ aA aD;obtain ⟨seen,pend,acc,HA,bJ,aU,HM,HQ,aA,aD⟩:=hrel
  cases gk with
  |zero=>exact absurd HA.out (by simp [reach.trav])
  |succ k1=>
   obtain ⟨Aq,cq,bZ,hqc⟩:=Kd.Q_slice HQ.out;subst bZ
   cases pend with
   |nil=>
    have hx:acc=xs:=by have:=HA.out;simpa [reach.trav] using this
    have HX:=Xa.mk hx;clear HA hx hqc;go_wp2
    go_end0
    exact ⟨⟨_,rfl⟩,.inl ⟨_,rfl,by have h2:=aU.out;rw [HX.out] at h2;exact h2⟩⟩
   |cons x rest=>
    have H:=HA.out;rw [reach.trav] at H;clear HA hqc;by_cases hx:0≤x∧x<(c.length:Int)∧rest.length<1000000
    ·rw [if_pos hx] at H;obtain ⟨nx,hnx,H1⟩:=Option.bind_eq_some_iff.1 H;clear H;by_cases hnl:nx.length<1000
     ·rw [if_pos hnl] at H1;have HX:=Xa.mk hx;have HNX:=Xa.mk hnx;have HNL:=Xa.mk hnl;have HA:=Xa.mk H1;clear hx hnx hnl H1;obtain ⟨ad,ea,hc0⟩:=Kd.Ur (Kd.Q_reads' HQ.out).2.2 0 (by omega) (by simp);subst ea;rw [show ((0:Int)).toNat=0 from rfl,Addr.add_zero'] at hc0;have hcx:wr.cell? ad=some (.int .i64 x):=hc0;clear hc0
      have hl1:decide ((0:Int)<((x :: rest).length:Int))=true:=by simp
      go_upto_region 5 with (fail)
      clear hcx hl1;obtain ⟨yf,yt,ya,yb,hy,hR⟩:=HY.out acc x wr aU.out ⟨HX.out.1,HX.out.2.1⟩;refine (wpIn_wide (n:=0)).1 ?_
      gi_wp2
      refine ⟨rfl,hR.mono ?_⟩
      rintro e W3 (⟨rfl,aY,hk3⟩|⟨rfl,aY,hk3⟩)
      ·clear hR hy;have bU:=Xa.mk aY;have aJ:=Xa.mk hk3;clear aY hk3
       gi_wp2
       have bC:=Xa.mk (show Kd.Q (Kd.int .i64) 3 W3 W.heap.size (fun _=>True) (.slice (some ad) (x :: rest).length cq) (x :: rest) from Kd.Q_mono (Kd.Q_move (Kd.Q_bound HQ.out) (fun k hk=>aJ.out.high k hk.2.1 hk.2.2.1)) (fun _ _=>trivial))
       have bK:=Xa.mk (show Uc W3 W.heap.size (reach.sm seen) from by
        obtain ⟨es,cl,h1,h2⟩:=HM.out;exact ⟨es,cl,(aJ.out.high _ (Nat.le_refl _) (Array.getElem?_eq_some_iff.1 h1).1).trans h1,h2⟩)
       have aC:=Xa.mk (show Below w0.heap.size w0 W3 from aA.out.trans ⟨aJ.out.os,aJ.out.tape,aJ.out.output,aJ.out.size,fun k hk=>aJ.out.seen k (HX0.out k hk)⟩);have aG:=Xa.mk (show reach.Box W3 Bx A0 c.length c0 from (aJ.out.seen Bx HXB.out).trans aD.out);have HW3:=Xa.mk (show W.heap.size≤W3.heap.size from Nat.le_trans (Nat.le_of_lt HM.out.lt) aJ.out.size);clear HQ HM aA aD aU aJ;obtain ⟨bE,e2,cK,cO,cZ,dA⟩:=Zv (Kd.Ze bD.out aC.out) x HX.out.1 HX.out.2.1;subst e2;have hbx:W3.cell? ⟨Bx,0,none⟩=some (.slice (some bE) c.length c0):=aG.out.cell;have p0:=eq_true HX.out.1;have q0:=eq_true HX.out.2.1
       go_upto_block 2 with ((with_reducible refine Xh (f:=50) rfl ?_);refine Ye (some 28) rfl rfl Try.func50 (by kernel_rfl) rfl #[.agg #[.int .i64 ((Xb c x).f0),.int .i64 ((Xb c x).f1),.int .i64 ((Xb c x).f2),.int .i64 ((Xb c x).f3)],.int .i64 x] rfl ga_ ?_;(with_reducible refine (Ui.calls _ _ _ _ x nx _ HNX.out).mono ?_);rintro e dC ⟨vn,rfl,ho0,hb⟩;refine ⟨_,rfl,?_⟩;have aH:=Xa.mk (Kd.Q_mono (Kd.Q_elder' bC.out (Kd.Yv ho0) hb) (fun _ hk=>hk.2));have aI:=Xa.mk (Kd.Xo (Kd.R_new' ho0 (Kd.Q_lt bC.out)) (fun _ hk=>hk.2));have aN:=Xa.mk (bK.out.below hb);have aQ:=Xa.mk (aC.out.trans (hb.mono aC.out.size));have bP:=Xa.mk (show reach.Box dC Bx (some bE) c.length c0 from (hb.block Bx (Nat.lt_of_lt_of_le HBl.out HW3.out)).trans aG.out);have bQ:=Xa.mk (hb.mono HW3.out);have aK:=aC;have aM:=aG;clear bC bK aC aG hb ho0;have aC:=aK;have aG:=aM;clear aK aM;have HQ:=aH;have HN:=aI;have HM:=aN;have aA:=aQ;have aD:=bP;have HB:=bQ;clear aH aI aN aQ bP bQ;obtain ⟨An,cn,en⟩:=Kd.Yo HN.out;subst en)
       clear cK cO cZ dA hbx p0 q0;have HNB:=Xa.mk (Kd.R_base2 HN.out);go_wp2
       go_loopw [4,30] (fun v4 v30 w'=>∃ (j:Nat),v30=.int .i64 (j:Int)∧Xa (j≤nx.length)∧Xa (Uc w' W.heap.size (reach.sm (reach.Vu seen (x :: rest) (nx.take j)).1))∧Xa (Kd.Q (Kd.int .i64) 3 w' W.heap.size (fun k=>some k≠(Value.slice An nx.length cn).ownBlock) v4 (reach.Vu seen (x :: rest) (nx.take j)).2)∧Xa (Kd.R (Kd.int .i64) 3 w' W3.heap.size (fun k=>some k≠v4.ownBlock) (.slice An nx.length cn) nx)∧Xa (Below W.heap.size W3 w')) (fun _ v30 _=>nx.length - (intOf v30).toNat)
       case atStart=>exact ⟨0,rfl,⟨Nat.zero_le _⟩,HM,HQ,HN,HB⟩
       case round=>
        clear HM HQ HN HB aA aD;obtain ⟨j,rfl,Hj,HM,HQ,HN,HB⟩:=hrel;by_cases hlt:j<nx.length
        ·obtain ⟨bX,e3,hn0⟩:=Kd.Ur (Kd.R_reads' HN.out).2.2 (j:Int) (by omega) (by omega);subst e3;have Hlt:=Xa.mk hlt;have hd1:decide ((j:Int)<(nx.length:Int))=true:=decide_eq_true (by omega);have hj0:((0:Int)≤(j:Int))=True:=eq_true (by omega);have hj1:((j:Int)<(nx.length:Int))=True:=eq_true (by omega);obtain ⟨t,ht⟩:∃ t,nx[j]=t:=⟨_,rfl⟩
         have hrd:rd nx (j:Int)=t:=by rw [← ht];unfold rd;simp [List.getD_eq_getElem?_getD,hlt]
         rw [hrd] at hn0;simp only [Int.toNat_natCast] at hn0;have hstep:=reach.addAll_take nx seen (x :: rest) j hlt;rw [ht] at hstep
         have hjw:IntKind.i64.wrap ((j:Int)+1)=((j+1:Nat):Int):=by have:=HNL.out;rw [IntKind.wrap_i64];omega
         have hpl:=reach.addAll_len (nx.take j) seen (x :: rest);obtain ⟨S,hS⟩:∃ S,(reach.Vu seen (x :: rest) (nx.take j)).1=S:=⟨_,rfl⟩;obtain ⟨pd,hpd⟩:∃ pd,(reach.Vu seen (x :: rest) (nx.take j)).2=pd:=⟨_,rfl⟩;have Hpair:Xa (reach.Vu seen (x :: rest) (nx.take j)=(S,pd)):=⟨by rw [← hS,← hpd]⟩;rw [hS] at HM hstep;rw [hpd] at HQ hstep hpl;have Hpl:Xa (pd.length≤1001000):=⟨by have:=HX.out.2.2;have:=HNL.out;simp at hpl;omega⟩;have Hlt:=Xa.mk hlt;clear hlt hrd ht hS hpd hpl;by_cases hs:t ∈ S
         ·rw [if_pos hs] at hstep;have Hstep:=Xa.mk hstep;have ds:decide (t ∈ S)=true:=decide_eq_true hs;clear hs hstep;go_wp2_with (refine reach.wp_seen rfl _ _ rfl Try.underlying117 Try.underlying3 _ rfl rfl HM.out (by kernel_rfl) ?_)
          go_roundw
          case measure=>have:=Hlt.out;simp [intOf];omega
          case rel=>exact ⟨j+1,by simp,⟨Hlt.out⟩,⟨by rw [Hstep.out,Hpair.out];exact HM.out⟩,⟨by rw [Hstep.out,Hpair.out];exact HQ.out⟩,HN,HB⟩
         ·rw [if_neg hs] at hstep;have Hstep:=Xa.mk hstep;have Hs:=Xa.mk hs;have ds:decide (t ∈ S)=false:=decide_eq_false hs;clear hs hstep;go_wp2_with (first|(refine reach.wp_seen rfl _ _ rfl Try.underlying117 Try.underlying3 _ rfl rfl HM.out (by kernel_rfl) ?_)|(refine Vd rfl _ _ _ (.inl rfl) Try.underlying117 Try.underlying3 _ rfl rfl HM.out ?_;intro w1 hm1 hg1 hs1;have aH:Xa (Uc w1 W.heap.size (reach.sm (S ++ [t]))):=⟨by rw [← reach.put_sm _ _ Hs.out];exact hm1⟩;have aI:=Xa.mk (reach.Q_map HQ.out HM.out hg1);have aN:=Xa.mk (reach.R_map HN.out HM.out hg1);have aQ:=Xa.mk (Below.grown HB.out hg1 (Nat.le_trans HW3.out (Below.size HB.out)) (fun k e=>by cases e;exact Nat.le_refl _));clear hg1 hs1 hm1 HM HQ HN HB;have HM:=aH;have HQ:=aI;have HN:=aN;have HB:=aQ;clear aH aI aN aQ)|((with_reducible refine Yp (b:=.append) (xs:=#[.tmp 40,.tmp 42]) rfl ?_);at_builtin;refine Kd.Q_append (Kd.int .i64) (w0:=W3) W.heap.size rfl (.tmp 40) (.tmp 42) 54 3 (.int .i64 0) 8 rfl Try.underlying54 info3 rfl (by decide) (by omega) u4 pd t [.int .i64 t] (fun k=>some k≠(Value.slice (some bX) nx.length cn).ownBlock) (fun _=>False) rfl rfl ?aP (fun _ hk=>hk.elim) ?aF ?aO ?aB ?aS ?aL ?_;(case aP=>exact rfl);(case aB=>exact HB.out);(case aF=>exact Kd.fresh' (Kd.Uu HN.out));(case aO=>exact HQ.out);(case aS=>exact Nat.le_trans HW3.out (Below.size HB.out));(case aL=>have:=Hpl.out;omega);intro v4n w9 bO bM bF aW;have aH:=Xa.mk (reach.map_after HM.out HQ.out bF);have aI:=Xa.mk bO;have aN:=Xa.mk (reach.Ue HN.out bF aW);have aQ:=Xa.mk bM;clear bO bM bF aW HM HQ HN HB;have HM:=aH;have HQ:=aI;have HN:=aN;have HB:=aQ;clear aH aI aN aQ))
          go_roundw
          case measure=>have:=Hlt.out;simp [intOf];omega
          case rel=>exact ⟨j+1,by simp,⟨Hlt.out⟩,⟨by rw [Hstep.out];exact HM.out⟩,⟨by rw [Hstep.out];exact HQ.out⟩,HN,HB⟩
        ·have hd1:decide ((j:Int)<(nx.length:Int))=false:=decide_eq_false (by omega)
         have hj:j=nx.length:=by have:=Hj.out;omega
         subst hj;rw [List.take_length] at HM HQ;have hpre:=reach.addAll_pre nx seen [x] rest;rw [show ([x] ++ rest:List Int)=x :: rest from rfl] at hpre;rw [hpre] at HM HQ;have bB:=Xa.mk (Kd.Q_mono (ok':=fun _=>True) HQ.out (fun _ _=>trivial));have bV:=Xa.mk (HJ.out _ _ _ bU.out HB.out);have aZ:=Xa.mk (show Below w0.heap.size w0 wr from aC.out.trans (HB.out.mono HW0.out));have bA:=Xa.mk (show reach.Box wr Bx (some bE) c.length c0 from (HB.out.block Bx HBl.out).trans aG.out);clear HQ HN HB hpre;obtain ⟨Y,hY⟩:∃ Y,(reach.Vu seen rest nx).2=Y:=⟨_,rfl⟩;obtain ⟨S,hS⟩:∃ S,(reach.Vu seen rest nx).1=S:=⟨_,rfl⟩;have bT:Xa (reach.trav k1 c S Y (acc ++ [x])=some xs):=⟨by rw [← hY,← hS];exact HA.out⟩;simp only [hY,hS] at HM bB;clear HA hY hS;obtain ⟨L,hL⟩:∃ L,L=x :: Y:=⟨_,rfl⟩;have HQL:=Xa.mk (show Kd.Q (Kd.int .i64) 3 wr W.heap.size (fun _=>True) u4 L from by rw [hL];exact bB.out);obtain ⟨A4,c4,e4,hc4⟩:=Kd.Q_slice HQL.out;subst e4;obtain ⟨i0,hi0,_,hsz,_⟩:=info_parts info3;have hcut:=cut_from (P:=Try.prog) 54 3 .i64 Try.underlying54 hi0 1 hsz A4 L.length c4 1 (by omega) (by rw [hL];simp;omega);have hr:=Kd.Q_drop (k:=(1:Int).toNat) HQL.out (by rw [hL];simp);obtain ⟨bS,aR⟩:∃ A1,A1=(if c4=(1:Int).toNat then A4 else A4.map (·.add ((1:Int).toNat * 1))):=⟨_,rfl⟩;obtain ⟨c23,aT⟩:∃ c1,c1=c4 - (1:Int).toNat:=⟨_,rfl⟩
         have hlY:L.length - (1:Int).toNat=Y.length:=by rw [hL];rfl
         have hdY:L.drop (1:Int).toNat=Y:=by rw [hL];rfl
         rw [hdY] at hr;rw [hlY,← aR,← aT] at hcut;have bW:=Xa.mk (show Kd.Q (Kd.int .i64) 3 wr W.heap.size (fun _=>True) (.slice bS Y.length c23) Y from by rw [aR,aT,← hlY];exact hr);clear hi0 hsz hr bB HQL aR aT hlY hdY hL hc4;go_wp2
         go_roundg k1
         case measure=>have:=bJ.out;omega
         case rel=>exact ⟨S,Y,acc ++ [x],bT,⟨by have:=bJ.out;omega⟩,bV,HM,bW,aZ,bA⟩
      ·gi_wp2
       go_wp2
       refine bodyPost_ret (results_none rfl _ _ _) rfl ?_
       exact ⟨⟨_,rfl⟩,.inr ⟨_,trivial,aY⟩⟩
     ·rw [if_neg hnl] at H1
      cases H1
    ·rw [if_neg hx] at H
     cases H
theorem reach.traverse (a:Option Addr) (len cap:Nat) (w:World):Calls Try.prog 80 #[.slice a len cap] w fun e w'=>e=.returned (.func (.func 82) #[] #[.pointer (some ⟨w.heap.size,0,none⟩)])∧w'=w.alloc (.cells #[.slice a len cap] 25):=by
 go_enter Try.func80,Try.ntmps80
 go_wp2
 go_ret
 exact ⟨rfl,rfl⟩
theorem reach.marked_snoc (n:Nat) (pre:List Int) (x:Int):reach.marked n (pre ++ [x])=(reach.marked n pre).set x.toNat true:=by simp [reach.marked]
theorem reach.length_marked (n:Nat) (xs:List Int):(reach.marked n xs).length=n:=by
 unfold reach.marked
 have:∀ (xs:List Int) (l:List Bool),(xs.foldl (fun out x=>out.set x.toNat true) l).length=l.length:=by
  intro xs
  induction xs with
  |nil=>intro l;rfl
  |cons x xs ih=>intro l;rw [List.foldl_cons,ih];simp
 rw [this];simp
structure reach.I_ (w wS:World) (B n:Nat) (v:Value) (pre:List Int) (W:World):Prop where
 bel:Below w.heap.size w W
 box:W.heap[B]?=some (.cells #[v] 57 (0,0))
 row:Kd.R Kd.bool 4 W w.heap.size (fun k=>k<B) v (reach.marked n pre)
theorem reach.I_.ab {w wS:World} {B n:Nat} {v:Value} (hB:B<wS.heap.size) (hw:w.heap.size≤wS.heap.size):Ab wS.heap.size (reach.I_ w wS B n v):=fun s W W' h hb=>
 ⟨h.bel.trans (hb.mono hw),(hb.block B hB).trans h.box,Kd.R_move h.row (fun k hk=>hb.block k (Nat.lt_trans hk hB))⟩
attribute [local go_sem] Oper.semAt_some
theorem impl_reach.calls (k:Nat) (A0:Option Addr) (c0:Nat) (l0:List (S31)) (r:List Bool) (w:World) (hr0:Kd.C k31 w A0 l0.length l0) (hc0:l0.length≤c0) (h:impl_reach.f k l0=some r) :
  Calls Try.prog 72 #[.slice A0 l0.length c0] w fun e w'=>∃ bR:Value,e=.returned (bR)∧Kd.R Kd.bool 4 w' w.heap.size (fun _=>True) bR r∧Below w.heap.size w w':=by
 unfold impl_reach.f at h
 by_cases hl:l0.length<1000000
 ·rw [if_pos hl] at h;obtain ⟨xs,hxs,rfl⟩:=Option.map_eq_some_iff.1 h;have bD:=Xa.mk hr0;have bG:=Xa.mk hc0;have HL:=Xa.mk hl;have HXS:=Xa.mk hxs;clear h hr0 hc0 hl hxs
  have b1:(0:Int)≤(l0.length:Int):=by omega
  refine (callsIn_wide (n:=1)).1 (callsIn_of_wp_marks (F:=Fence.wide) Try.func72 rfl trivial ?_)
  simp only [Try.ntmps72,List.size_toArray,List.length_cons,List.length_nil,Nat.reduceAdd,Nat.reduceSub,Array.replicate_succ,Array.replicate_zero,List.push_toArray,List.append_toArray,List.nil_append,List.cons_append];refine wpIn_wide.2 ?_
  have HB:=Xa.mk (Below.refl w.heap.size w)
  go_upto_block 0 with (first|((with_reducible refine Xt (N:=7) rfl ?_);refine Kd.R_make Kd.bool w.heap.size 4 rfl (N:=7) rfl 57 _ _ rfl (l0.length:Int) rfl rfl Try.underlying57 (.bool false) 1 info4 rfl (by decide) (by omega) false (ok:=fun _=>True) (okp:=fun _=>True) rfl (fun _ hk=>hk) trivial b1 (by have:=HL.out;omega) (Below.refl _ _) (Nat.le_refl _) ?_;intro v1 w1 hR hB1 hg1 hb1;have hO:Kd.R Kd.bool 4 w1 w.heap.size (fun _=>True) v1 (reach.marked l0.length []):=(by simpa [reach.marked] using hR);obtain ⟨Ao,co,eo⟩:=Kd.Yo hO;rw [reach.length_marked] at eo;subst eo;have HO:=Xa.mk hO;have HB1:=Xa.mk hB1;clear hR hO hB1 hg1 hb1)|(go_at_call 80;refine (reach.traverse _ _ _ _).mono ?_;rintro e w' ⟨rfl,rfl⟩))
  have hn0:1≤k:=by
   cases k with
   |zero=>have:=HXS.out;simp [reach.trav] at this
   |succ k=>omega
  have hs1:w.heap.size≤w1.heap.size:=HB1.out.size;obtain ⟨wS,hwS⟩:∃ wS,((w1.alloc (Obj.cells #[Value.slice Ao l0.length co] 57)).alloc (Obj.cells #[Value.slice A0 l0.length c0] 25))=wS:=⟨_,rfl⟩
  have hsS:wS.heap.size=w1.heap.size+2:=by rw [← hwS];simp
  have hbS:Below w1.heap.size w1 wS:=by rw [← hwS];exact ((Below.refl _ w1).alloc (Nat.le_refl _) _).alloc (by simp) _
  have hBo:wS.heap[w1.heap.size]?=some (.cells #[Value.slice Ao l0.length co] 57 (0,0)):=by
   rw [← hwS];exact (Below.heap_alloc _ _ _ (by simp)).trans (World.alloc_heap_new w1 _)
  have hBx:reach.Box wS (w1.heap.size+1) A0 l0.length c0:=by
   have:=World.alloc_heap_new (w1.alloc (Obj.cells #[Value.slice Ao l0.length co] 57)) (Obj.cells #[Value.slice A0 l0.length c0] 25)
   rw [World.size_alloc] at this
   unfold reach.Box
   rw [← hwS];exact this
  have hI0:reach.I_ w wS w1.heap.size l0.length (.slice Ao l0.length co) [] wS:=
   ⟨HB1.out.trans (hbS.mono hs1),hBo,Kd.Xo (Kd.Zf (Kd.Vf HO.out) hbS) (fun k hk=>hk.2.2.1)⟩
  rw [hwS];clear hwS hBo HB HO;refine wp_block ?_
  refine range_of (gf:=82) (lb:=#[.pointer (some ⟨w1.heap.size+1,0,none⟩)]) rfl (Go.Proofs.enters_of Try.func82 (by kernel_rfl) rfl)
   (reach.seq l0 k xs HXS.out w wS A0 c0 bD.out bG.out (w1.heap.size+1) hBx (HB1.out.trans (hbS.mono hs1)) (fun q=>q<w.heap.size∨q=w1.heap.size+1) (fun q hq=>.inl hq) (.inr rfl))
   (fun q hq=>by omega) (fun _=>rfl) (reach.I_ w wS w1.heap.size l0.length (.slice Ao l0.length co)) (fun _ _ _=>False) (reach.I_.ab (by omega) (by omega)) (fun _ _ _ _ h _=>h) hI0
   (fun x=>{ tmps:=#[.slice A0 l0.length c0,undef,.slice none 0 0,.pointer (some ⟨w1.heap.size,0,none⟩),.int .i64 x,.slice A0 l0.length c0,.int .i64 l0.length,.slice Ao l0.length co,.slice A0 l0.length c0,.func (.func 82) #[] #[.pointer (some ⟨w1.heap.size+1,0,none⟩)],.int .i64 x,undef,undef,undef,undef],defers:=[] }) ?assign ?body ?done ?stop
  case assign=>
   intro l x W K hK
   gi_wp2
   exact hK
  case body=>
   intro l pre x W hl hrec hsz hI hok;have hlen:=reach.length_marked l0.length pre;have HIr:=Xa.mk hI;have HK:=Xa.mk hok;have HSZ:=Xa.mk hsz;obtain ⟨aV,co8,bY,bL,cB,cl8,bH⟩:=Kd.R_form hI.row (by rw [hlen];omega)
   injection bY with ea en ec
   subst ea;subst ec;obtain ⟨hx0,hf0⟩:=Kd.R_celln false hI.row x hok.1 (by omega)
   have hbo:W.cell? ⟨w1.heap.size,0,none⟩=some (.slice (some ⟨aV,0,none⟩) l0.length co):=by simp [World.cell?,hI.box]
   have HG:=Xa.mk bH;have HGB:=Xa.mk bL;have HP:=Xa.mk (Kd.R_putg hI.row x true);have p0:=eq_true hok.1;have q0:=eq_true hok.2;have HGL:=Xa.mk (show aV<w1.heap.size from hI.row.1 aV rfl);clear hI hok hsz hl hrec hlen en bL cB bH
   gi_wp2
   have hgl:=HGL.out;have hgb:=HGB.out;have hst:∀ q,q≠aV→(W.setCell ⟨aV,x.toNat,none⟩ (Value.bool true)).heap[q]?=W.heap[q]?:=fun q hq=>Below.heap_setCell W ⟨aV,x.toNat,none⟩ (Value.bool true) q hq;refine ⟨⟨HP.out.2.size,fun q hq _=>hst q (by omega),fun q hq=>hst q (by omega),rfl,rfl,rfl⟩,HIr.out.bel.trans ((Below.refl _ W).grown HP.out.2 (Nat.le_trans (by omega) HSZ.out) (fun k e=>by cases e;exact hgb)),(hst _ (by omega)).trans HIr.out.box,?_⟩
   rw [reach.marked_snoc];exact HP.out.1
  case done=>
   intro D ys W hD hys hI hK
   have hbo:W.cell? ⟨w1.heap.size,0,none⟩=some (.slice Ao l0.length co):=by simp [World.cell?,hI.box]
   have HI:=Xa.mk hI;have HK:=Xa.mk hK;have HD:=Xa.mk hD;clear hI hK hD;go_wp2
   subst hys;have hd:=HD.out;refine ⟨by simp,.inl ⟨_,_,rfl,run_takeDeferred HK.out,?_⟩⟩
   refine ⟨_,results_tmp rfl _ _ _,_,rfl,?_,HI.out.bel.trans (putObj_below (by omega))⟩
   exact Kd.Xo (Kd.R_move HI.out.row (fun q hq=>World.putObj_heap_other (by omega))) (fun _ _=>trivial)
  case stop=>
   intro D c pre W _ _ h _;exact h.elim
 ·rw [if_neg hl] at h
  cases h
end
end Go.Proofs.Ytokajnfbiddpjaa.GSlim
