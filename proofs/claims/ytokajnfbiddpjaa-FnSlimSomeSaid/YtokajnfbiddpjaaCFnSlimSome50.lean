import Derived.Test.YtokajnfbiddpjaaCFnSlimSome21
import Derived.Test.YtokajnfbiddpjaaCFnSlimSome31
import Derived.Test.YtokajnfbiddpjaaCFnSlimSome48
import Derived.Lib.Hide
import Derived.WalkSpells
import Derived.Deep.DeepMust
set_option maxRecDepth 100000
namespace Go.Proofs.Ytokajnfbiddpjaa.GSlim
open Go.RowKit Go.Proofs.YtokajnfbiddpjaaW.PrintWords Go.Proofs.YtokajnfbiddpjaaW.PrintLast Go.Proofs.YtokajnfbiddpjaaW.PrintMore Go.Proofs.Ytokajnfbiddpjaa.HMap
set_option linter.unusedVariables false
set_option linter.unusedSimpArgs false
abbrev dead.I:=S31
def dead.cnt (kept:List Bool) (i:Nat):Nat:=(kept.take i).countP id
def dead.look (kept:List Bool) (n:Int):Int:=if 0≤n∧n<(kept.length:Int) then (dead.cnt kept n.toNat:Int) else 0
def dead.fix (kept:List Bool) (s:dead.I):dead.I:=if s.f0=7∨s.f0=6 then ⟨s.f0,s.f1,s.f2,dead.look kept s.f3⟩ else s
def dead.out (kept:List Bool):List dead.I→List Bool→List dead.I
  |s :: c,b :: k=>if b then dead.fix kept s :: dead.out kept c k else dead.out kept c k
  |_,_=>[]
theorem dead.cnt_succ (kept:List Bool) (i:Nat) (h:i<kept.length):dead.cnt kept (i+1)=dead.cnt kept i+(if kept[i] then 1 else 0):=by
  unfold dead.cnt
  rw [List.take_succ_eq_append_getElem h,List.countP_append]
  cases kept[i] <;> simp
theorem dead.cnt_le (kept:List Bool) (i:Nat):dead.cnt kept i≤i:=by
  unfold dead.cnt
  exact Nat.le_trans List.countP_le_length (by rw [List.length_take];exact Nat.min_le_left _ _)
theorem dead.out_snoc:∀ (kept c:List dead.I) (ks ls:List Bool) (K:List Bool) (s:dead.I) (b:Bool),kept.length=ks.length→dead.out K (kept ++ [s]) (ks ++ [b])=dead.out K kept ks ++ (if b then [dead.fix K s] else [])
  |[],_,[],_,K,s,b,_=>by cases b <;> rfl
  |[],_,_ :: _,_,_,_,_,h=>by simp at h
  |_ :: _,_,[],_,_,_,_,h=>by simp at h
  |x :: kept,c,y :: ks,ls,K,s,b,h=>by
    have ih:=dead.out_snoc kept c ks ls K s b (by simpa using h);simp only [List.cons_append,dead.out];rw [ih]
    cases y <;> simp
def dead.upto (kept:List Bool) (c:List dead.I) (j:Nat):List dead.I:=dead.out kept (c.take j) (kept.take j)
theorem dead.upto_succ (kept:List Bool) (c:List dead.I) (j:Nat) (hk:j<kept.length) (hc:j<c.length):dead.upto kept c (j+1)=dead.upto kept c j ++ (if kept[j] then [dead.fix kept c[j]] else []):=by
  unfold dead.upto
  rw [List.take_succ_eq_append_getElem hk,List.take_succ_eq_append_getElem hc];exact dead.out_snoc _ [] _ [] kept _ _ (by rw [List.length_take,List.length_take,Nat.min_eq_left (by omega),Nat.min_eq_left (by omega)])
theorem dead.out_len:∀ (K:List Bool) (c:List dead.I) (ks:List Bool),(dead.out K c ks).length≤c.length
  |_,[],_=>by simp [dead.out]
  |_,_ :: _,[]=>by simp [dead.out]
  |K,s :: c,b :: ks=>by
    have:=dead.out_len K c ks
    rw [dead.out]
    split <;> simp <;> omega
theorem dead.upto_len (kept:List Bool) (c:List dead.I) (j:Nat):(dead.upto kept c j).length≤c.length:=Nat.le_trans (dead.out_len _ _ _) (by rw [List.length_take];exact Nat.min_le_right _ _)
theorem dead.upto_all (kept:List Bool) (c:List dead.I) (h:kept.length=c.length):dead.upto kept c c.length=dead.out kept c kept:=by
  unfold dead.upto
  rw [List.take_length,List.take_of_length_le (by omega)]
def dead.mp (kept:List Bool) (j:Nat):List (Int × Value):=(List.range j).map (fun (i:Nat)=>((i:Int),Value.int .i64 (dead.cnt kept i)))
theorem dead.find_mp (kept:List Bool) (n:Int):∀ j,(dead.mp kept j).find? (fun p=>p.1 == n)=if 0≤n∧n<(j:Int) then some (n,Value.int .i64 (dead.cnt kept n.toNat)) else none
  |0=>by
    rw [if_neg (by omega)];rfl
  |j+1=>by
    have ih:=dead.find_mp kept n j
    unfold dead.mp at ih ⊢
    rw [List.range_succ,List.map_append,List.find?_append,ih];by_cases h:0≤n∧n<(j:Int)
    · rw [if_pos h,if_pos (by omega)];rfl
    · rw [if_neg h]
      by_cases h2:n=(j:Int)
      · subst h2
        rw [if_pos (by omega)]
        simp
      · rw [if_neg (by omega)]
        have:((j:Int) == n)=false:=by simp;exact fun e=>h2 e.symm
        simp [this]
theorem dead.at_mp (kept:List Bool) (n:Int):(at_ (dead.mp kept kept.length) n).getD (.int .i64 0)=.int .i64 (dead.look kept n):=by
  unfold at_ dead.look
  rw [dead.find_mp]
  split <;> rfl
theorem dead.put_new:∀ (m:List (Int × Value)) (n:Int) (v:Value),m.find? (fun p=>p.1 == n)=none→put_ m n v=m ++ [(n,v)]
  |[],_,_,_=>rfl
  |(k,u) :: m,n,v,h=>by
    rw [List.find?_cons] at h
    show (if k == n then _ else _)=_
    cases hk:(k == n) with
    |true=>rw [hk] at h;simp at h
    |false=>
      rw [hk] at h
      show (k,u) :: put_ m n v=_
      rw [dead.put_new m n v h];rfl
theorem dead.put_mp (kept:List Bool) (j:Nat):put_ (dead.mp kept j) (j:Int) (.int .i64 (dead.cnt kept j))=dead.mp kept (j+1):=by
  rw [dead.put_new _ _ _ (by rw [dead.find_mp,if_neg (by omega)])]
  unfold dead.mp
  rw [List.range_succ,List.map_append];rfl
theorem dead.map_ne {W:World} {b k q:Nat} {m:List (Int × Value)} {cells:Array Value} (h:Uc W b m) (hc:W.heap[k]?=some (.cells cells q (0,0))):some k≠some b:=by
  obtain ⟨es,cl,h1,_⟩:=h;intro e
  injection e with e
  subst e;rw [h1] at hc
  cases hc
theorem dead.R_map {α:Type} {d:Kd α} {e:Nat} {W W':World} {base:Nat} {ok:Nat→Prop} {v:Value} {xs:List α} {b:Nat} {m:List (Int × Value)} (h:Kd.R d e W base ok v xs) (hm:Uc W b m) (hg:W.grownBy W' (some b)):Kd.R d e W' base ok v xs:=
  Kd.Xo (Kd.R_move (Kd.Vf h) (fun k hk=>by
    obtain ⟨q,_,cells,hc⟩:=hk.2.2.2;exact hg.block k hk.2.2.1 (dead.map_ne hm hc))) (fun _ hk=>hk.1)
theorem dead.map_behind {α:Type} {d:Kd α} {e:Nat} {W W0 W':World} {base:Nat} {ok:Nat→Prop} {u:Value} {xs:List α} {b:Nat} {m:List (Int × Value)} {o:Obj} {v:Value} (hm:Uc W b m) (hq:Kd.R d e W base ok u xs)
    (h0:W0=W.alloc o∨W0=(W.alloc o).setCell ⟨W.heap.size,3,none⟩ v) (hg:W0.grownBy W' u.ownBlock):Uc W' b m:=by
  have hlt:=hm.lt;obtain ⟨es,cl,h1,h2⟩:=hm
  have hw0:W0.heap[b]?=some (.map es cl):=by
    rcases h0 with rfl|rfl
    · rw [Below.heap_alloc _ _ _ hlt];exact h1
    · rw [Below.heap_setCell _ _ _ _ (by show b≠W.heap.size;omega),Below.heap_alloc _ _ _ hlt];exact h1
  refine ⟨es,cl,(hg.block b (Array.getElem?_eq_some_iff.1 hw0).1 (fun e'=>?_)).trans hw0,h2⟩
  obtain ⟨inner,ho⟩:=Kd.R_own hq;obtain ⟨cells,hc⟩:=own_typed ho b e'.symm;rw [h1] at hc
  cases hc
theorem dead.row_behind {α β:Type} {d:Kd α} {d':Kd β} {e e':Nat} {W W0 W':World} {base base':Nat} {ok ok':Nat→Prop} {u v:Value} {xs:List α} {ys:List β} {o:Obj} {x:Value} (hr:Kd.R d' e' W base' ok' v ys) (hq:Kd.R d e W base ok u xs)
    (he:∀ q,q ∈ e' :: d'.E→q≠e) (h0:W0=W.alloc o∨W0=(W.alloc o).setCell ⟨W.heap.size,3,none⟩ x) (hg:W0.grownBy W' u.ownBlock):Kd.R d' e' W' base' ok' v ys:=by
  refine Kd.Xo (Kd.R_move (Kd.Vf hr) (fun k hk=>?_)) (fun _ hk=>hk.1)
  obtain ⟨_,_,hlt,q,hq',cells,hc⟩:=hk
  have hw0:W0.heap[k]?=W.heap[k]?:=by
    rcases h0 with rfl|rfl
    · exact Below.heap_alloc _ _ _ hlt
    · rw [Below.heap_setCell _ _ _ _ (by show k≠W.heap.size;omega),Below.heap_alloc _ _ _ hlt]
  refine (hg.block k ?_ (fun e2=>?_)).trans hw0
  · rw [hc] at hw0
    exact (Array.getElem?_eq_some_iff.1 hw0).1
  · obtain ⟨inner,ho⟩:=Kd.R_own hq
    obtain ⟨cells',hc'⟩:=own_typed ho k e2.symm;rw [hc] at hc'
    injection hc' with hc'
    injection hc' with _ hc'
    exact he q hq' hc'
theorem dead.wp_index {P:Program} {w:World} {T K E:TypeId} {b:Nat} {kept:List Bool} {ops:Array Oper} {rest:List Oper} {o:Oper} {a:Act} {Q:Exit→Act→World→Prop}
    (hg:o.guard=none) (mo x:Operand) (hop:o.op=Op.lookup T mo x false) (hT:P.underlying T=some (.map K E)) (hK:P.underlying K=some (.int .i64)) (n:Int)
    (hmo:a.eval mo=.map (some b)) (hx:a.eval x=.int .i64 n) (hm:Uc w b (dead.mp kept kept.length)) (hz:(zeroValue E).run P w=.ok (.int .i64 0) w)
    (hK':wpList P ops Q rest (a.put o.dst (.int .i64 (dead.look kept n))) w):wpList P ops Q (o :: rest) a w:=by
  refine wpList_lookup_im hg mo x false hop hT hK n (.int .i64 0) hmo hx hm hz ?_
  rw [if_neg (by simp),dead.at_mp];exact hK'
end Go.Proofs.Ytokajnfbiddpjaa.GSlim
namespace Go.Proofs.Ytokajnfbiddpjaa.GSlim
open Go.RowKit Go.Proofs.YtokajnfbiddpjaaW.PrintWords Go.Proofs.YtokajnfbiddpjaaW.PrintLast Go.Proofs.YtokajnfbiddpjaaW.PrintMore
attribute [local go_sem] Zx Zz Ul Um Zl Zm Zy Ua
set_option linter.unusedVariables false
set_option linter.unusedSimpArgs false
section
open Go.Proofs.Ytokajnfbiddpjaa.HMap
def impl_slimDead.f (k:Nat) (l0:List dead.I):Option (List dead.I):=(Yq.f k l0).bind fun kept=>if kept.length=l0.length∧l0.length<1000000 then some (dead.out kept l0 kept) else none
set_option maxHeartbeats 8000000 in
theorem impl_slimDead.calls (k:Nat) (A0:Option Addr) (c0:Nat) (l0:List (S31)) (r:List (S31)) (w:World) (hr0:Kd.C k31 w A0 l0.length l0) (hc0:l0.length≤c0) (h:impl_slimDead.f k l0=some r) :
  Calls Try.prog 36 #[.slice A0 l0.length c0] w fun e w'=>∃ aW:Value,e=.returned (aW)∧Kd.R k31 31 w' w.heap.size (fun _=>True) aW r∧Below w.heap.size w w':=by
 unfold impl_slimDead.f at h
 obtain ⟨kept,hk,h⟩:=Option.bind_eq_some_iff.1 h;by_cases hl:kept.length=l0.length∧l0.length<1000000
 ·rw [if_pos hl] at h;obtain rfl:=Option.some.inj h;have aV:=Xa.mk hr0;have aY:=Xa.mk hc0;have HL:=Xa.mk hl;have HK:=Xa.mk hk;clear h hr0 hc0 hl hk;have HB:=Xa.mk (Below.refl w.heap.size w);have hmm:=@run_makeMap Try.prog
  go_enter Try.func36,Try.ntmps36
  go_upto_block 0 with ((with_reducible refine Xh (f:=61) rfl ?_);refine Ye (some 12) rfl rfl Try.func61 (by kernel_rfl) rfl #[.slice A0 l0.length c0] rfl ga_ ?_;(with_reducible refine (Yq.calls k _ _ l0 kept _ aV.out aY.out HK.out).mono ?_);rintro e w1 ⟨vk,rfl,ho0,hb⟩;refine ⟨_,rfl,?_⟩;obtain ⟨Ak,ck,ek⟩:=Kd.Yo ho0;subst ek;have HKR:=Xa.mk ho0;have HB1:=Xa.mk hb;clear ho0 hb)
  have HM:=Xa.mk (Uc.made w1);have aM:=Xa.mk (Kd.Uh HKR.out (.map #[] 0));have HB2:=Xa.mk (HB1.out.alloc HB1.out.size (.map #[] 0));clear HKR HB
  have hkl:kept.length≤1000000:=by have:=HL.out;omega
  have HKL:=Xa.mk hkl;clear hkl;go_wp2
  go_loopw [5,16] (fun v5 v16 W=>∃ (j:Nat),v5=.int .i64 (dead.cnt kept j:Int)∧v16=.int .i64 (j:Int)∧Xa (j≤kept.length)∧Xa (Uc W w1.heap.size (dead.mp kept j))∧Xa (Kd.R Kd.bool 4 W w.heap.size (fun _=>True) (.slice Ak kept.length ck) kept)∧Xa (Below w.heap.size w W)) (fun _ v16 _=>kept.length - (intOf v16).toNat)
  case atStart=>exact ⟨0,rfl,rfl,⟨Nat.zero_le _⟩,HM,aM,HB2⟩
  case round=>
   clear HM aM HB2;obtain ⟨j,rfl,rfl,Hj,HM,HKR,HB⟩:=hrel;by_cases hlt:j<kept.length
   ·obtain ⟨gk,ck',ek,gb,gl,cl,HG⟩:=Kd.R_form HKR.out (by omega)
    injection ek with ea en ec
    subst ea;subst ec;obtain ⟨hx0,hf0⟩:=Kd.R_celln false HKR.out (j:Int) (by omega) (by omega)
    have hrd:rdOf false kept (j:Int)=kept[j]:=by unfold rdOf;simp [List.getD_eq_getElem?_getD,hlt]
    rw [hrd] at hx0;simp only [Int.toNat_natCast] at hx0;have hd1:decide ((j:Int)<(kept.length:Int))=true:=decide_eq_true (by omega);have hj0:((0:Int)≤(j:Int))=True:=eq_true (by omega);have hj1:((j:Int)<(kept.length:Int))=True:=eq_true (by omega);have hcs:=dead.cnt_succ kept j hlt;have hcl:=dead.cnt_le kept j
    have hjw:IntKind.i64.wrap ((j:Int)+1)=((j+1:Nat):Int):=by have:=HKL.out;rw [IntKind.wrap_i64];omega
    have hcw:IntKind.i64.wrap ((dead.cnt kept j:Int)+1)=((dead.cnt kept j+1:Nat):Int):=by have:=HKL.out;rw [IntKind.wrap_i64];omega
    have Hlt:=Xa.mk hlt;obtain ⟨b,hb⟩:∃ b,kept[j]=b:=⟨_,rfl⟩;rw [hb] at hx0 hcs;have HCS:=Xa.mk hcs;clear hrd en gb gl HG hf0 hcs hcl hb hlt;have hup:∀ (W:World),True:=fun _=>trivial;clear hup
    cases b with
    |true=>
     go_wp2_with (refine Vd rfl _ _ _ (.inl rfl) Try.underlying89 Try.underlying3 _ rfl rfl HM.out ?_;intro w2 hm1 hg1 hs1;have aA:Xa (Uc w2 w1.heap.size (dead.mp kept (j+1))):=⟨by rw [← dead.put_mp];exact hm1⟩;have aC:=Xa.mk (dead.R_map HKR.out HM.out hg1);have aD:=Xa.mk (Below.grown HB.out hg1 (Below.size HB.out) (fun k e=>by cases e;exact HB1.out.size));clear hm1 hg1 hs1 HM HKR HB;have HM:=aA;have HKR:=aC;have HB:=aD;clear aA aC aD)
     go_roundw
     case measure=>have:=Hlt.out;simp [intOf];omega
     case rel=>exact ⟨j+1,by rw [HCS.out];simp,by simp,⟨Hlt.out⟩,HM,HKR,HB⟩
    |false=>
     go_wp2_with (refine Vd rfl _ _ _ (.inl rfl) Try.underlying89 Try.underlying3 _ rfl rfl HM.out ?_;intro w2 hm1 hg1 hs1;have aA:Xa (Uc w2 w1.heap.size (dead.mp kept (j+1))):=⟨by rw [← dead.put_mp];exact hm1⟩;have aC:=Xa.mk (dead.R_map HKR.out HM.out hg1);have aD:=Xa.mk (Below.grown HB.out hg1 (Below.size HB.out) (fun k e=>by cases e;exact HB1.out.size));clear hm1 hg1 hs1 HM HKR HB;have HM:=aA;have HKR:=aC;have HB:=aD;clear aA aC aD)
     go_roundw
     case measure=>have:=Hlt.out;simp [intOf];omega
     case rel=>exact ⟨j+1,by rw [HCS.out];simp,by simp,⟨Hlt.out⟩,HM,HKR,HB⟩
   ·have hd1:decide ((j:Int)<(kept.length:Int))=false:=decide_eq_false (by omega)
    have hj:j=kept.length:=by have:=Hj.out;omega
    subst hj
    go_upto_block 2 with (fail)
    clear Hj hlt hd1 HKL;go_wp2
    go_loopw [8,30] (fun v8 v30 W=>∃ (j:Nat),v30=.int .i64 (j:Int)∧Xa (j≤l0.length)∧Xa (Uc W w1.heap.size (dead.mp kept kept.length))∧Xa (Kd.R k31 31 W w.heap.size (fun _=>True) v8 (dead.upto kept l0 j))∧Xa (Kd.R Kd.bool 4 W w.heap.size (fun _=>True) (.slice Ak kept.length ck) kept)∧Xa (Below w.heap.size w W)) (fun _ v30 _=>l0.length - (intOf v30).toNat)
    case atStart=>exact ⟨0,rfl,⟨Nat.zero_le _⟩,HM,⟨Kd.R_nil _ _ _ _ _⟩,HKR,HB⟩
    case round=>
     clear HM HKR HB;obtain ⟨j,rfl,Hj,HM,HO,HKR,HB⟩:=hrel;by_cases hlt:j<l0.length
     ·have hlk:j<kept.length:=by have:=HL.out.1;omega
      obtain ⟨adk,ek,hx0⟩:=Kd.at_bool (Kd.R_reads' HKR.out).2.2 (j:Int) (by omega) (by omega);subst ek
      have hrd:rdOf false kept (j:Int)=kept[j]:=by unfold rdOf;simp [List.getD_eq_getElem?_getD,hlk]
      rw [hrd] at hx0;simp only [Int.toNat_natCast] at hx0;obtain ⟨ad2,e2,aQ,aR,aT,aU⟩:=Zv (Kd.Ze aV.out HB.out) (j:Int) (by omega) (by omega);subst e2
      have hrs:Xb l0 (j:Int)=l0[j]:=by unfold Xb;simp [List.getD_eq_getElem?_getD,hlt]
      rw [hrs] at aQ aR aT aU;simp only [Int.toNat_natCast] at aQ aR aT aU;have hup:=dead.upto_succ kept l0 j hlk hlt;have hd1:decide ((j:Int)<(l0.length:Int))=true:=decide_eq_true (by omega);have hj0:((0:Int)≤(j:Int))=True:=eq_true (by omega);have hj1:((j:Int)<(kept.length:Int))=True:=eq_true (by omega);have hj2:((j:Int)<(l0.length:Int))=True:=eq_true (by omega)
      have hjw:IntKind.i64.wrap ((j:Int)+1)=((j+1:Nat):Int):=by have:=HL.out;rw [IntKind.wrap_i64];omega
      have Hlt:=Xa.mk hlt;obtain ⟨b,hb⟩:∃ b,kept[j]=b:=⟨_,rfl⟩;obtain ⟨s,hs⟩:∃ s,l0[j]=s:=⟨_,rfl⟩;rw [hb] at hx0 hup;rw [hs] at aQ aR aT aU hup;have hx1:∀ o:Obj,(wr.alloc o).cell? (adk.add j)=some (.bool b):=fun o=>Go.cell_later ((Below.refl _ _).alloc (Nat.le_refl _) o) hx0;clear hrd hrs hb hs hlt hlk hx0
      cases b with
      |false=>
       have Hup:Xa (dead.upto kept l0 (j+1)=dead.upto kept l0 j):=⟨by rw [hup];simp⟩;clear hup;go_wp2
       go_roundw
       case measure=>have:=Hlt.out;simp [intOf];omega
       case rel=>exact ⟨j+1,by simp,⟨Hlt.out⟩,⟨HM.out.alloc _⟩,⟨by rw [Hup.out];exact Kd.Uh HO.out _⟩,⟨Kd.Uh HKR.out _⟩,⟨HB.out.alloc HB.out.size _⟩⟩
      |true=>
       by_cases aN:s.f0=7∨s.f0=6
       ·have Hup:Xa (dead.upto kept l0 (j+1)=dead.upto kept l0 j ++ [⟨s.f0,s.f1,s.f2,dead.look kept s.f3⟩]):=⟨by rw [hup,if_pos rfl,dead.fix,if_pos aN]⟩;clear hup;by_cases h7:s.f0=7
        ·have e7:(s.f0 == 7)=true:=by simp [h7]
         clear h7 aN;go_wp2_with (first|(refine dead.wp_index rfl _ _ rfl Try.underlying89 Try.underlying3 _ rfl rfl (HM.out.alloc _) (by kernel_rfl) ?_)|((with_reducible refine Yp (b:=.append) (xs:=#[.tmp 53,.tmp 55]) rfl ?_);at_builtin;refine Kd.R_append k31 (w0:=w) w.heap.size rfl (.tmp 53) (.tmp 55) 25 31 (.agg #[(.int .i64 0),(.int .i64 0),(.int .i64 0),(.int .i64 0)]) 32 rfl Try.underlying25 info31 rfl (by decide) (by omega) u8 (dead.upto kept l0 j) (⟨s.f0,s.f1,s.f2,dead.look kept s.f3⟩) [.int .i64 s.f0,.int .i64 s.f1,.int .i64 s.f2,.int .i64 (dead.look kept s.f3)] (fun k=>k≠wr.heap.size) (fun _=>False) rfl (by first|rfl|(simp [Act.eval];done)) ?aP (fun _ hk=>hk.elim) ?aF ?aO ?aB ?aS ?aL ?_;(case aP=>exact Vg _ _ _ (⟨s.f0,s.f1,s.f2,dead.look kept s.f3⟩));(case aB=>exact HB.out.alloc HB.out.size _);(case aF=>intro k hk;simp at hk;omega);(case aO=>exact Kd.Xo (Kd.Uh (Kd.Vf HO.out) _) (fun k hk=>by have:=hk.2.2.1;omega));(case aS=>have:=HB.out.size;simp;omega);(case aL=>have:=dead.upto_len kept l0 j;have:=HL.out;omega);intro aX w9 aJ aI aH aG;have aA:=Xa.mk (dead.map_behind (v:=.bool true) HM.out HO.out (.inl rfl) aH);have aC:=Xa.mk (Kd.Xo (ok':=fun _=>True) aJ (fun _ _=>trivial));have aD:=Xa.mk (dead.row_behind (x:=.bool true) HKR.out HO.out (fun q hq=>by simp [Kd.bool,Kd.scalar] at hq;omega) (.inl rfl) aH);have aK:=Xa.mk aI;clear aJ aI aH aG HM HO HKR HB;have HM:=aA;have HO:=aC;have HKR:=aD;have HB:=aK;clear aA aC aD aK))
         go_roundw
         case measure=>have:=Hlt.out;simp [intOf];omega
         case rel=>exact ⟨j+1,by simp,⟨Hlt.out⟩,HM,⟨by rw [Hup.out];exact HO.out⟩,HKR,HB⟩
        ·have e7:(s.f0 == 7)=false:=by simp [h7]
         have e6:(s.f0 == 6)=true:=by simp;omega
         clear h7 aN;go_wp2_with (first|(refine dead.wp_index rfl _ _ rfl Try.underlying89 Try.underlying3 _ rfl rfl (HM.out.alloc _) (by kernel_rfl) ?_)|((with_reducible refine Yp (b:=.append) (xs:=#[.tmp 53,.tmp 55]) rfl ?_);at_builtin;refine Kd.R_append k31 (w0:=w) w.heap.size rfl (.tmp 53) (.tmp 55) 25 31 (.agg #[(.int .i64 0),(.int .i64 0),(.int .i64 0),(.int .i64 0)]) 32 rfl Try.underlying25 info31 rfl (by decide) (by omega) u8 (dead.upto kept l0 j) (⟨s.f0,s.f1,s.f2,dead.look kept s.f3⟩) [.int .i64 s.f0,.int .i64 s.f1,.int .i64 s.f2,.int .i64 (dead.look kept s.f3)] (fun k=>k≠wr.heap.size) (fun _=>False) rfl (by first|rfl|(simp [Act.eval];done)) ?aP (fun _ hk=>hk.elim) ?aF ?aO ?aB ?aS ?aL ?_;(case aP=>exact Vg _ _ _ (⟨s.f0,s.f1,s.f2,dead.look kept s.f3⟩));(case aB=>exact HB.out.alloc HB.out.size _);(case aF=>intro k hk;simp at hk;omega);(case aO=>exact Kd.Xo (Kd.Uh (Kd.Vf HO.out) _) (fun k hk=>by have:=hk.2.2.1;omega));(case aS=>have:=HB.out.size;simp;omega);(case aL=>have:=dead.upto_len kept l0 j;have:=HL.out;omega);intro aX w9 aJ aI aH aG;have aA:=Xa.mk (dead.map_behind (v:=.bool true) HM.out HO.out (.inl rfl) aH);have aC:=Xa.mk (Kd.Xo (ok':=fun _=>True) aJ (fun _ _=>trivial));have aD:=Xa.mk (dead.row_behind (x:=.bool true) HKR.out HO.out (fun q hq=>by simp [Kd.bool,Kd.scalar] at hq;omega) (.inl rfl) aH);have aK:=Xa.mk aI;clear aJ aI aH aG HM HO HKR HB;have HM:=aA;have HO:=aC;have HKR:=aD;have HB:=aK;clear aA aC aD aK))
         go_roundw
         case measure=>have:=Hlt.out;simp [intOf];omega
         case rel=>exact ⟨j+1,by simp,⟨Hlt.out⟩,HM,⟨by rw [Hup.out];exact HO.out⟩,HKR,HB⟩
       ·have Hup:Xa (dead.upto kept l0 (j+1)=dead.upto kept l0 j ++ [⟨s.f0,s.f1,s.f2,s.f3⟩]):=⟨by rw [hup,if_pos rfl,dead.fix,if_neg aN]⟩
        have e7:(s.f0 == 7)=false:=by simp;omega
        have e6:(s.f0 == 6)=false:=by simp;omega
        clear hup aN;go_wp2_with ((with_reducible refine Yp (b:=.append) (xs:=#[.tmp 53,.tmp 55]) rfl ?_);at_builtin;refine Kd.R_append k31 (w0:=w) w.heap.size rfl (.tmp 53) (.tmp 55) 25 31 (.agg #[(.int .i64 0),(.int .i64 0),(.int .i64 0),(.int .i64 0)]) 32 rfl Try.underlying25 info31 rfl (by decide) (by omega) u8 (dead.upto kept l0 j) (⟨s.f0,s.f1,s.f2,s.f3⟩) [.int .i64 s.f0,.int .i64 s.f1,.int .i64 s.f2,.int .i64 s.f3] (fun k=>k≠wr.heap.size) (fun _=>False) rfl (by first|rfl|(simp [Act.eval];done)) ?aP (fun _ hk=>hk.elim) ?aF ?aO ?aB ?aS ?aL ?_;(case aP=>exact Vg _ _ _ (⟨s.f0,s.f1,s.f2,s.f3⟩));(case aB=>exact HB.out.alloc HB.out.size _);(case aF=>intro k hk;simp at hk;omega);(case aO=>exact Kd.Xo (Kd.Uh (Kd.Vf HO.out) _) (fun k hk=>by have:=hk.2.2.1;omega));(case aS=>have:=HB.out.size;simp;omega);(case aL=>have:=dead.upto_len kept l0 j;have:=HL.out;omega);intro aX w9 aJ aI aH aG;have aA:=Xa.mk (dead.map_behind (v:=.bool true) HM.out HO.out (.inl rfl) aH);have aC:=Xa.mk (Kd.Xo (ok':=fun _=>True) aJ (fun _ _=>trivial));have aD:=Xa.mk (dead.row_behind (x:=.bool true) HKR.out HO.out (fun q hq=>by simp [Kd.bool,Kd.scalar] at hq;omega) (.inl rfl) aH);have aK:=Xa.mk aI;clear aJ aI aH aG HM HO HKR HB;have HM:=aA;have HO:=aC;have HKR:=aD;have HB:=aK;clear aA aC aD aK)
        go_roundw
        case measure=>have:=Hlt.out;simp [intOf];omega
        case rel=>exact ⟨j+1,by simp,⟨Hlt.out⟩,HM,⟨by rw [Hup.out];exact HO.out⟩,HKR,HB⟩
     ·have hd1:decide ((j:Int)<(l0.length:Int))=false:=decide_eq_false (by omega)
      have hj:j=l0.length:=by have:=Hj.out;omega
      subst hj;go_wp2
      go_ret
      exact ⟨_,rfl,by rw [← dead.upto_all kept l0 HL.out.1];exact HO.out,HB.out⟩
 ·rw [if_neg hl] at h
  cases h
end
end Go.Proofs.Ytokajnfbiddpjaa.GSlim
