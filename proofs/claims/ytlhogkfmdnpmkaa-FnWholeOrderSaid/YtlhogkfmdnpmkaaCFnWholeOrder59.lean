import Derived.Test.YtlhogkfmdnpmkaaCFnWholeOrder54
import Derived.Test.YtlhogkfmdnpmkaaCFnWholeOrder28
set_option linter.unusedSectionVars false
set_option linter.unusedVariables false
set_option linter.unusedSimpArgs false
set_option maxHeartbeats 16000000
set_option maxRecDepth 100000
namespace Go.Proofs.Ytlhogkfmdnpmkaa.Mean
open RowKit GWhole YtlhogkfmdnpmkaaW.PrintWords YtlhogkfmdnpmkaaW.PrintLast YtlhogkfmdnpmkaaW.PrintMore
open StmtOk
def okList (l:List T):Bool:=l.all (fun t=>Yg.st 3 t (-1)) && decide (wrap64 (Xt.cnt 3 l:Int)≤14)
def Uk (l:List (List T)):Bool:=decide (1≤l.length) && decide (l.length≤3) && l.all okList
theorem prog_pred (l:List T) (A:Option Addr) (c:Nat) (W:World) (hC:Kd.C k69 W A l.length l) (hl:l.length≤c) :
  Calls Try.prog 59 #[.slice A l.length c] W fun x W'=>x=.returned (.bool (!okList l))∧Below W.heap.size W W':=by
 have X:=Lib.hid (impl_StmtsOk.calls A c l (okList l) W hC hl rfl);clear hC hl;generalize okList l=q at *;go_enter Try.func59,Try.ntmps59;go_wp2_with (first|(go_at_call 60;refine (X.out).mono ?_;rintro e w1 ⟨rfl,aB⟩));go_ret
 exact ⟨rfl,aB⟩
theorem idx_take2 (p:List T→Bool) (l:List (List T)) (i:Nat) (h:i<l.length):(l.take (i+1)).any p=((l.take i).any p||p l[i]):=by
 rw [List.take_succ_eq_append_getElem h,List.any_append];simp
theorem prog_index (l:List (List T)) (A:Option Addr) (c:Nat) (w:World) (hC:Kd.C (Kd.slice 69 k69) w A l.length l) (hlc:l.length≤c) (hlen:l.length≤1000) :
  Calls Try.prog 67 #[.slice A l.length c,.func (.func 59) #[] #[]] w fun x w'=>∃ m:Int,x=.returned (.int .i64 m)∧decide (m ≥ 0)=l.any (fun x=>!okList x)∧Below w.heap.size w w':=by
 have HC:=Xa.mk hC;have HL:=Xa.mk hlen;clear hC hlen;have HB:=Xa.mk (Below.refl w.heap.size w);go_enter Try.func67,Try.ntmps67;go_wp2
 go_loopw [8] (fun v8 w'=>∃ (i:Nat),v8=.int .i64 (i:Int)∧Xa (i≤l.length)∧Xa ((l.take i).any (fun x=>!okList x)=false)∧Xa (Below w.heap.size w w')) (fun v8 _=>l.length - (intOf v8).toNat)
 case atStart=>exact ⟨0,rfl,⟨Nat.zero_le _⟩,⟨sm_⟩,HB⟩
 case round=>
  clear HB;obtain ⟨i,rfl,Hi,HN,HB⟩:=hrel;by_cases hlt:i<l.length
  ·have Hlt:=Xa.mk hlt;have hd1:decide ((i:Int)<(l.length:Int))=true:=dt_ om_
   have p0:0≤(i:Int):=om_
   have q0:(i:Int)<(l.length:Int):=om_
   obtain ⟨ad,A4,c4,e,hx0,hl4,hi4⟩:=at_L4 (Kd.Yr HC.out HB.out) (i:Int) p0 q0;subst e
   have hrd:rd_L4 l (i:Int)=l[i]:=by unfold rd_L4;simp [List.getD_eq_getElem?_getD,hlt]
   rw [hrd] at hx0 hl4 hi4;have hstep:=idx_take2 (fun x=>!okList x) l i hlt;rw [HN.out,Bool.false_or] at hstep;clear HN;have X:=Lib.hid (prog_pred l[i] A4 c4 _ hi4 hl4)
   try simp only [] at hstep
   generalize (!okList l[i])=q at *;generalize l[i]=s at *;have Hstep:=Xa.mk hstep;simp only [Int.toNat_natCast] at hx0;replace p0:=eq_true p0;replace q0:=eq_true q0
   have hjw:IntKind.i64.wrap ((i:Int)+1)=((i+1:Nat):Int):=by have:=HL.out;have:=Hlt.out;rw [IntKind.wrap_i64];omega
   clear hstep hlt hrd hl4 hi4;go_wp2_with (fail);refine (X.out).mono ?_;rintro e w1 ⟨rfl,aB⟩;replace HB:=Xa.mk (Xo HB.out aB);clear aB hx0 X
   cases q
   ·go_wp2
    go_roundw
    case measure=>have:=Hlt.out;simp [intOf];omega
    case rel=>exact ⟨i+1,sm_,⟨Hlt.out⟩,⟨Hstep.out⟩,HB⟩
   ·go_wp2;go_ret
    refine ⟨_,rfl,?_,HB.out⟩;rw [show l.any (fun x=>!okList x)=true from by have:=Hstep.out;rw [List.any_eq_true] at this ⊢;obtain ⟨x,hx,hq⟩:=this;exact ⟨x,List.mem_of_mem_take hx,hq⟩];exact dt_ om_
  ·have hi:i=l.length:=by have:=Hi.out;omega
   subst hi
   have hn:l.any (fun x=>!okList x)=false:=by have:=HN.out;rwa [List.take_of_length_le (nr_ _)] at this
   have Hn:=Xa.mk hn;clear hlt hn HN Hi;go_wp2;go_ret
   exact ⟨_,rfl,Hn.out.symm ▸ rfl,HB.out⟩
theorem prog_contains (l:List (List T)) (A:Option Addr) (c:Nat) (w:World) (hC:Kd.C (Kd.slice 69 k69) w A l.length l) (hlc:l.length≤c) (hlen:l.length≤1000) :
  Calls Try.prog 58 #[.slice A l.length c,.func (.func 59) #[] #[]] w fun x w'=>x=.returned (.bool (l.any (fun x=>!okList x)))∧Below w.heap.size w w':=by
 have X:=Lib.hid (prog_index l A c w hC hlc hlen);clear hC;generalize (l.any (fun x=>!okList x))=q at *;go_enter Try.func58,Try.ntmps58;go_wp2_with (fail);refine (X.out).mono ?_;rintro e w1 ⟨m,rfl,hm,hb⟩;have HB:=Xa.mk hb;clear hb;go_wp2;go_ret
 exact ⟨rfl,HB.out⟩
theorem any_all2:∀ (l:List (List T)),(!(l.any (fun t=>!okList t)))=l.all okList
 |[]=>rfl
 |x :: r=>by rw [List.any_cons,List.all_cons,← any_all2 r];cases okList x <;> simp
theorem progOk_do (l:List (List T)) (A:Option Addr) (c:Nat) (w:World) (hC:Kd.C (Kd.slice 69 k69) w A l.length l) (hlc:l.length≤c) :
  Calls Try.prog 40 #[.slice A l.length c] w fun x w'=>x=.returned (.bool (Uk l))∧Below w.heap.size w w':=by
 have h63:=hC.2.1;by_cases h1:1≤l.length
 ·by_cases h3:l.length≤3
  ·have X:=Lib.hid (prog_contains l A c w hC hlc om_)
   have e:Uk l = !(l.any (fun t=>!okList t)):=by unfold Uk;rw [dt_ h1,dt_ h3,any_all2];rfl
   rw [e];have d1:decide ((l.length:Int) ≥ 1)=true:=dt_ om_;have d2:decide ((1:Int)≤(l.length:Int))=true:=dt_ om_;have d3:decide ((l.length:Int)≤3)=true:=dt_ om_
   have i1:(1:Int)≤(l.length:Int):=om_
   have i3:(l.length:Int)≤3:=om_
   clear hC e;generalize (l.any (fun x=>!okList x))=q at *;go_enter Try.func40,Try.ntmps40;go_wp2_with (first|(go_at_call 58;refine (X.out).mono ?_;rintro e w1 ⟨rfl,aB⟩));go_ret
   exact ⟨rfl,aB⟩
  ·have e:Uk l=false:=by unfold Uk;rw [df_ h3];simp
   rw [e];have d1:decide ((l.length:Int) ≥ 1)=true:=dt_ om_;have d2:decide ((1:Int)≤(l.length:Int))=true:=dt_ om_;have d3:decide ((l.length:Int)≤3)=false:=df_ om_
   have i1:(1:Int)≤(l.length:Int):=om_
   have i3:¬ (l.length:Int)≤3:=om_
   clear hC e;go_enter Try.func40,Try.ntmps40;go_wp2;go_ret
   exact ⟨rfl,Below.refl _ _⟩
 ·have e:Uk l=false:=by unfold Uk;rw [df_ h1];simp
  rw [e];have d1:decide ((l.length:Int) ≥ 1)=false:=df_ om_;have d2:decide ((1:Int)≤(l.length:Int))=false:=df_ om_
  have i1:¬ (1:Int)≤(l.length:Int):=om_
  clear hC e;go_enter Try.func40,Try.ntmps40;go_wp2;go_ret
  exact ⟨rfl,Below.refl _ _⟩
theorem playable_do (l:List (List T)) (A:Option Addr) (c:Nat) (n c1:Nat) (A1:Option Addr) (w:World) (hC:Kd.C (Kd.slice 69 k69) w A l.length l) (hlc:l.length≤c) :
  Calls Try.prog 24 #[.slice A l.length c,.slice A1 n c1] w fun x w'=>x=.returned (.bool (Uk l && decide (n≤200)))∧Below w.heap.size w w':=by
 have X:=Lib.hid (progOk_do l A c w hC hlc);clear hC
 have d3:decide ((n:Int)≤200)=decide (n≤200):=by
  by_cases h:n≤200
  ·rw [dt_ h,dt_ om_]
  ·rw [df_ h,df_ om_]
 cases hq:Uk l
 ·rw [hq] at X;go_enter Try.func24,Try.ntmps24;go_wp2_with (first|(go_at_call 40;refine (X.out).mono ?_;rintro e w1 ⟨rfl,aB⟩));go_ret
  exact ⟨rfl,aB⟩
 ·rw [hq] at X;go_enter Try.func24,Try.ntmps24;go_wp2_with (first|(go_at_call 40;refine (X.out).mono ?_;rintro e w1 ⟨rfl,aB⟩));go_ret
  exact ⟨by first|rfl|simp,aB⟩
variable [Prot]
def goS (p:WS × List Int) (who:Int):WS × List Int:=if code p.1 who=0 then (step p.1 who.toNat,if comes p.1 who.toNat=true then p.2 ++ [who] else p.2) else p
def whole (l:List (List T)) (picks:List Int):List Int:=if (Uk l && decide (picks.length≤200))=true then (picks.foldl goS (Ya l,[])).2 else []
theorem code_zero {s:WS} {who:Int} (h:code s who=0):∃ i:Nat,who=(i:Int)∧i<s.n∧codeN s i=0:=by
 by_cases h0:who<0∨(s.n:Int)≤who
 ·have e:code s who=3:=if_pos h0;rw [e] at h;cases h
 ·obtain ⟨i,rfl⟩:=Int.eq_ofNat_of_zero_le (show 0≤who by omega);have e:code s (i:Int)=codeN s i:=if_neg h0;exact ⟨i,rfl,om_,e ▸ h⟩
theorem goS_inv {p:WS × List Int} {K:Nat} (h:Inv p.1 K) (who:Int):Inv (goS p who).1 (K+1):=by
 unfold goS;by_cases hc:code p.1 who=0
 ·rw [if_pos hc];obtain ⟨i,rfl,hi,hn⟩:=code_zero hc;exact h.step hi hn
 ·rw [if_neg hc];exact h.more om_
theorem goS_len (p:WS × List Int) (who:Int):(goS p who).2.length≤p.2.length+1:=by
 unfold goS;split
 ·show (if _ then _ else _:List Int).length≤_
  split
  ·rw [List.length_append,List.length_singleton];exact nr_ _
  ·exact Nat.le_succ _
 ·exact Nat.le_succ _
theorem St.out {W W9:World} {base g:Nat} {b:BK} {s:WS} {v v9:Value} (h:St W base (fun k=>base≤k∧k≠g∧some k≠v.ownBlock) b s g) (hg:W.grownBy W9 v.ownBlock) (hat:v9.ownBlock=v.ownBlock∨∃ x,v9.ownBlock=some x∧W.heap.size≤x) (hlt:∀ k,v9.ownBlock=some k→k<W9.heap.size) (hgv:some g≠v.ownBlock) :
  St W9 base (fun k=>base≤k∧k≠g∧some k≠v9.ownBlock) b s g:=by
 refine ⟨((h.at_.lt).step (fun k hk hlt=>hg.block k hlt hk.1.2.2)).mono (fun k hk=>⟨hk.1.1,hk.1.2.1,fun e=>?_⟩),(hg.block g (Yt h.wb) hgv).trans h.wb,fun k hk=>?_,fun hk=>hk.2.1 rfl⟩
 ·rcases hat with e1|⟨x,e1,hle⟩
  ·exact hk.1.2.2 (e1 ▸ e)
  ·rw [e1] at e;injection e with e;have:=hk.2;omega
 ·have h1:=h.up k (nt_ hg.size hk);exact ⟨h1.1,h1.2.1,fun e=>by have:=hlt k e.symm;omega⟩
theorem Left.row {W W':World} {base g:Nat} {s:WS} {v:Value} {e:TypeId} {n:Nat} {xs:List Value} (h:Left W base (fun k=>base≤k∧k≠g∧some k≠v.ownBlock) s g W') (hgv:some g≠v.ownBlock) (ho:W.ownsRow base e 1 v n xs):W'.ownsRow base e 1 v n xs:=by
 obtain ⟨b',_,o⟩:=h;exact own_move ho (fun k hk=>o.block k (own_lt ho k hk) (fun x=>x.elim (fun y=>y.2.2 hk.symm) (fun y=>hgv (y ▸ hk.symm))))
theorem At.lower_ {W:World} {base base':Nat} {ok:Nat→Prop} {b:BK} {s:WS} (h:At W base ok b s) (hb:base'≤base) (hno:∀ k,Prot.low k=none):At W base' ok b s:=⟨h.rows.lower hb,fun i hi=>h.tree i hi,fun k o ho=>by rw [hno] at ho;cases ho⟩
theorem own_blw {W W':World} {base:Nat} {v:Value} {e:TypeId} {n:Nat} {xs:List Value} (ho:W.ownsRow base e 1 v n xs) (hb:Below W.heap.size W W'):W'.ownsRow base e 1 v n xs:=own_move ho (fun k hk=>hb.block k (own_lt ho k hk))
theorem Left.below {W W' w:World} {g:Nat} {ok:Nat→Prop} {s:WS} (h:Left W w.heap.size ok s g W') (hb:Below w.heap.size w W) (hok:∀ k,ok k→w.heap.size≤k) (hg:w.heap.size≤g):Below w.heap.size w W':=by
 obtain ⟨b',_,o⟩:=h;exact hb.trans (o.below hb.size (fun k hk=>hk.elim (hok k) (fun e=>e ▸ hg)))
theorem whole_do (A0:Option Addr) (c0:Nat) (l0:List (List T)) (A1:Option Addr) (c1:Nat) (l1:List Int) (w:World) (hr0:Kd.C (Kd.slice 69 k69) w A0 l0.length l0) (hc0:l0.length≤c0) (hr1:Kd.C (Kd.int .i64) w A1 l1.length l1) (hc1:l1.length≤c1)
  (hinv:Uk l0=true→Inv (Ya l0) 0∧(∀ l ∈ l0,Small 4 l)) (hno:∀ k,Prot.low k=none) :
  Calls Try.prog 9 #[.slice A0 l0.length c0,.slice A1 l1.length c1] w fun e w'=>∃ v:Value,e=.returned v∧Kd.R (Kd.int .i64) 3 w' w.heap.size (fun _=>True) v (whole l0 l1)∧Below w.heap.size w w':=by
 have PL:=Lib.hid (playable_do l0 A0 c0 l1.length c1 A1 w hr0 hc0);by_cases hq:(Uk l0 && decide (l1.length≤200))=true
 ·rw [hq] at PL;rw [Bool.and_eq_true] at hq;obtain ⟨hI,hS⟩:=hinv hq.1;have hl200:l1.length≤200:=od_ hq.2
  have hl3:l0.length≤1000:=by
   have h3:=hI.n.2;rw [openS_n] at h3;omega
  have eW:whole l0 l1=(l1.foldl goS (Ya l0,[])).2:=if_pos (by rw [hq.1,hq.2];rfl);rw [eW];have OP:=Lib.hid (fun (w1:World) (hb:Below w.heap.size w w1)=>opened_do A0 c0 l0 w1 (Kd.Yr hr0 hb) hc0 hl3 hS hno);have HR1:=Xa.mk hr1;have HI:=Xa.mk hI;clear hinv hr0 hr1 hI hS eW hq;go_enter Try.func9,Try.ntmps9;go_wp2_with (first|(go_at_call 24;refine (PL.out).mono ?_;rintro e w1 ⟨rfl,hb1⟩)|(go_at_call 25;refine (OP.out w1 hb1).mono ?_;rintro e w2 ⟨b,rfl,hA,hb2⟩;obtain ⟨bp,bc,bm,bs,bd,br,bt,bq⟩:=b;obtain ⟨P0,q0,e0⟩:∃ A c,bp=.slice A (Ya l0).n c:=Yn (hA.rows.at_ 0 _ rfl);obtain ⟨P1,q1,e1⟩:∃ A c,bc=.slice A 3 c:=Yn (hA.rows.at_ 1 _ rfl);obtain ⟨P2,q2,e2⟩:∃ A c,bm=.slice A 2 c:=Yn (hA.rows.at_ 2 _ rfl);obtain ⟨P3,q3,e3⟩:∃ A c,bs=.slice A 2 c:=Yn (hA.rows.at_ 3 _ rfl);obtain ⟨P4,q4,e4⟩:∃ A c,bd=.slice A (Ya l0).said.length c:=Yn (hA.rows.at_ 4 _ rfl);subst e0 e1 e2 e3 e4));have HB0:=Xa.mk (hb1.trans (hb2.mono hb1.size));have hA':=hA.lower_ (hb1.size) hno;clear hA;have hbx:=Ym w2 (.cells #[.slice P0 (Ya l0).n q0,.slice P1 3 q1,.slice P2 2 q2,.slice P3 2 q3,.slice P4 (Ya l0).said.length q4] 45);have hbA:=Xf (Below.refl w2.heap.size w2) (.cells #[.slice P0 (Ya l0).n q0,.slice P1 3 q1,.slice P2 2 q2,.slice P3 2 q3,.slice P4 (Ya l0).said.length q4] 45);have hszA:w2.heap.size<(w2.alloc (.cells #[.slice P0 (Ya l0).n q0,.slice P1 3 q1,.slice P2 2 q2,.slice P3 2 q3,.slice P4 (Ya l0).said.length q4] 45)).heap.size:=Yt hbx
  have hSt:St (w2.alloc (.cells #[.slice P0 (Ya l0).n q0,.slice P1 3 q1,.slice P2 2 q2,.slice P3 2 q3,.slice P4 (Ya l0).said.length q4] 45)) w.heap.size (fun k=>w.heap.size≤k∧k≠w2.heap.size∧some k≠(Value.slice none 0 0).ownBlock) ⟨.slice P0 (Ya l0).n q0,.slice P1 3 q1,.slice P2 2 q2,.slice P3 2 q3,.slice P4 (Ya l0).said.length q4,br,bt,bq⟩ (Ya l0) w2.heap.size:=
   ⟨(hA'.below hbA).mono (fun k hk=>⟨nt_ hb1.size hk.1,by have:=hk.2;omega,fun e=>by cases e⟩),hbx,fun k hk=>⟨by have:=HB0.out.size;omega,om_,fun e=>by cases e⟩,fun hk=>hk.2.1 rfl⟩
  have aD:=Xa.mk hSt;have HBG:Xa (w.heap.size≤w2.heap.size):=⟨HB0.out.size⟩;have HBL:=Xa.mk (HB0.out.trans (hbA.mono HB0.out.size));clear hSt hA' hbx hbA hszA hb1 hb2 HB0 PL OP;generalize w2.heap.size=g at *;generalize w2.alloc (.cells #[.slice P0 (Ya l0).n q0,.slice P1 3 q1,.slice P2 2 q2,.slice P3 2 q3,.slice P4 (Ya l0).said.length q4] 45)=wL at *
  go_loopg [6,17] l1.length (fun kq v6 v17 w'=>∃ (j:Nat) (A:Option Addr) (cA:Nat) (b:BK) (p:WS × List Int),v6=.slice A p.2.length cA∧v17=.int .i64 (j:Int)∧Xa (kq+j=l1.length)∧Xa (p=(l1.take j).foldl goS (Ya l0,[]))∧Xa (Inv p.1 j)∧Xa (p.2.length≤j)∧Xa (St w' w.heap.size (fun k=>w.heap.size≤k∧k≠g∧some k≠(Value.slice A p.2.length cA).ownBlock) b p.1 g)∧Xa (w'.ownsRow w.heap.size 3 1 (.slice A p.2.length cA) p.2.length (nums .i64 p.2))∧Xa (some g≠(Value.slice A p.2.length cA).ownBlock)∧Xa (Below w.heap.size w w'))
  case atStart=>exact ⟨0,none,0,_,(Ya l0,[]),rfl,rfl,⟨sm_⟩,⟨rfl⟩,HI,⟨nr_ _⟩,aD,⟨own_nil _ _ _ _⟩,⟨fun e=>by cases e⟩,HBL⟩
  case round=>
   clear aD HBL HI;obtain ⟨j,A,cA,b,p,rfl,rfl,HK,HP,HI,HLE,HST,HO,HGV,HB⟩:=hrel;by_cases hj:j<l1.length
   ·cases gk with
    |zero=>exact absurd HK.out om_
    |succ k1=>
     have aL:decide ((j:Int)<(l1.length:Int))=true:=dt_ om_
     have p0:0≤(j:Int):=om_
     have q0:(j:Int)<(l1.length:Int):=om_
     obtain ⟨ad,eA,hx⟩:=Kd.at_int HR1.out (j:Int) p0 q0;cases eA
     replace hx:=bw_ HB hx
     have hrd:rd l1 (j:Int)=l1[j]:=by unfold rd;simp [List.getD_eq_getElem?_getD,hj]
     have ej:((j:Int)).toNat=j:=rfl;rw [hrd,ej] at hx
     have hwj:IntKind.i64.wrap ((j:Int)+1)=(j:Int)+1:=by rw [IntKind.wrap_i64];omega
     have HN:Xa (goS p l1[j]=(l1.take (j+1)).foldl goS (Ya l0,[])):=⟨by rw [List.take_succ_eq_append_getElem hj,List.foldl_append,← HP.out];rfl⟩;have HI2:=Xa.mk (goS_inv HI.out l1[j]);have HL2:Xa ((goS p l1[j]).2.length≤j+1):=⟨by have:=goS_len p l1[j];have:=HLE.out;omega⟩;generalize l1[j]=who at *;have HCD:=Lib.hid (code_do wr w.heap.size _ b p.1 g j HST.out HI.out who);clear hrd ej HP;by_cases hcode:code p.1 who=0
     ·obtain ⟨i,rfl,hi,hcn⟩:=code_zero hcode;rw [hcode] at HCD;have HEN:=Lib.hid (fun (w3:World) (hb:Below wr.heap.size wr w3)=>entry_do w3 w.heap.size _ b p.1 g j (HST.out.below hb) HI.out i hi hcn);have hgw:g<wr.heap.size:=Yt HST.out.wb;by_cases hcm:comes p.1 i=true
      ·rw [hcm] at HEN
       have eG:goS p (i:Int)=(step p.1 i,p.2 ++ [(i:Int)]):=by
        unfold goS;rw [if_pos hcode];show (step p.1 i,if comes p.1 i=true then _ else _)=_
        rw [if_pos hcm]
       rw [eG] at HN HI2 HL2;clear hcode hcm eG;go_wp2_with (first|(go_at_call 26;refine (HCD.out).mono ?_;rintro e w3 ⟨rfl,hb3⟩)|(go_at_call 27;refine (HEN.out w3 hb3).mono ?_;rintro e w4 ⟨rfl,hb4⟩;have aA:=hb3.trans (hb4.mono hb3.size))|(at_builtin;refine print_append_num (w0:=w4) w.heap.size rfl (.tmp 26) (.tmp 28) 23 3 .i64 8 rfl Try.underlying23 info3 de_ (.slice A p.2.length cA) p.2 (i:Int) rfl rfl (own_blw HO.out aA) (Below.refl _ _) (nt_ HB.out.size aA.size) (by have:=HLE.out;omega) ?_;intro v9 w9 aI hbz aJ aF;clear hbz;obtain ⟨A9,c9,e9⟩:=Yn aI;subst e9)|(go_at_call 28;refine (step_do w9 w.heap.size _ b p.1 g i j (St.out (HST.out.below aA) aJ aF (fun k hk=>own_lt aI k hk) HGV.out) hi HI.out om_ hcn).mono ?_;rintro e aO ⟨rfl,hL⟩))
       have aG:some g≠(Value.slice A9 (p.2 ++ [(i:Int)]).length c9).ownBlock:=fun e=>by
        rcases aF with e1|⟨x,e1,hle⟩
        ·exact HGV.out (e1 ▸ e)
        ·rw [e1] at e;injection e with e;have:=aA.size;omega
       have hrow:=Left.row hL aG aI;have aN:Below w.heap.size w w9:=Below.grown (HB.out.trans (aA.mono HB.out.size)) aJ (nt_ HB.out.size aA.size) (fun k hk=>Uj HO.out k hk);have hbl:=Left.below hL aN (fun k hk=>hk.1) HBG.out;obtain ⟨b',hS',aM⟩:=hL;go_roundg k1
       case measure=>omega
       case rel=>exact ⟨j+1,A9,c9,b',(step p.1 i,p.2 ++ [(i:Int)]),(by show Value.slice A9 (p.2.length+1) c9=Value.slice A9 (p.2 ++ [(i:Int)]).length c9;rw [List.length_append,List.length_singleton]),rfl,⟨by have:=HK.out;omega⟩,HN,HI2,HL2,⟨hS'⟩,⟨hrow⟩,⟨aG⟩,⟨hbl⟩⟩
      ·have hcm':comes p.1 i=false:=by simpa using hcm
       rw [hcm'] at HEN
       have eG:goS p (i:Int)=(step p.1 i,p.2):=by
        unfold goS;rw [if_pos hcode];show (step p.1 i,if comes p.1 i=true then _ else _)=_
        rw [if_neg hcm]
       rw [eG] at HN HI2 HL2;clear hcode hcm hcm' eG;go_wp2_with (first|(go_at_call 26;refine (HCD.out).mono ?_;rintro e w3 ⟨rfl,hb3⟩)|(go_at_call 27;refine (HEN.out w3 hb3).mono ?_;rintro e w4 ⟨rfl,hb4⟩;have aA:=hb3.trans (hb4.mono hb3.size))|(go_at_call 28;refine (step_do w4 w.heap.size _ b p.1 g i j (HST.out.below aA) hi HI.out om_ hcn).mono ?_;rintro e aO ⟨rfl,hL⟩));have hrow:=Left.row hL HGV.out (own_blw HO.out aA);have hbl:=Left.below hL (HB.out.trans (aA.mono HB.out.size)) (fun k hk=>hk.1) HBG.out;obtain ⟨b',hS',aM⟩:=hL;go_roundg k1
       case measure=>omega
       case rel=>exact ⟨j+1,A,cA,b',(step p.1 i,p.2),rfl,rfl,⟨by have:=HK.out;omega⟩,HN,HI2,HL2,⟨hS'⟩,⟨hrow⟩,HGV,⟨hbl⟩⟩
     ·have eG:goS p who=p:=if_neg hcode;rw [eG] at HN HI2 HL2
      have z1:(code p.1 who != 0)=true:=by simpa using hcode
      have z2:(code p.1 who == 0)=false:=by simpa using hcode
      clear hcode eG;generalize code p.1 who=cd at *;go_wp2_with (first|(go_at_call 26;refine (HCD.out).mono ?_;rintro e w3 ⟨rfl,hb3⟩));go_roundg k1
      case measure=>omega
      case rel=>exact ⟨j+1,A,cA,b,p,rfl,rfl,⟨by have:=HK.out;omega⟩,HN,HI2,HL2,⟨HST.out.below hb3⟩,⟨own_blw HO.out hb3⟩,HGV,⟨HB.out.trans (hb3.mono HB.out.size)⟩⟩
   ·have hjl:j=l1.length:=by have:=HK.out;omega
    have aL:decide ((j:Int)<(l1.length:Int))=false:=df_ om_
    have eP:(l1.foldl goS (Ya l0,[])).2=p.2:=by rw [HP.out,hjl,List.take_length]
    have EP:=Xa.mk eP;have c2b:decide (j<l1.length)=false:=df_ om_;clear eP hjl HI HP;go_wp2;go_ret
    refine ⟨_,rfl,?_,HB.out⟩;rw [EP.out];exact Kd.R_of_own HO.out (fun _ _=>trivial)
 ·have eW:whole l0 l1=[]:=if_neg hq;rw [eW]
  have hq':(Uk l0 && decide (l1.length≤200))=false:=by simpa using hq
  rw [hq'] at PL;clear hinv hr0 hr1 hq hq' eW;go_enter Try.func9,Try.ntmps9;go_wp2_with (first|(go_at_call 24;refine (PL.out).mono ?_;rintro e w1 ⟨rfl,hb1⟩));go_ret
  exact ⟨_,rfl,Kd.R_nil _ _ _ _ _,hb1⟩
end Go.Proofs.Ytlhogkfmdnpmkaa.Mean
namespace Go.Proofs.Ytlhogkfmdnpmkaa.Mean
open RowKit GWhole YtlhogkfmdnpmkaaW.PrintWords YtlhogkfmdnpmkaaW.PrintLast YtlhogkfmdnpmkaaW.PrintMore
open StmtOk SForms
local instance:Prot:=⟨fun _=>none⟩
theorem look_none {k:Int} (h:¬ (1≤k∧k≤11)):Yk k=(false,noForm):=by
 unfold Yk forms;have e:∀ j:Int,1≤j∧j≤11→(j == k)=false:=fun j hj=>nb_ om_;simp [List.find?_cons,e 1 om_,e 2 om_,e 3 om_,e 4 om_,e 5 om_,e 6 om_,e 7 om_,e 8 om_,e 9 om_,e 10 om_,e 11 om_]
theorem tail_iff (k a b n D room:Int) (n4 n5:Nat) (p4 p5:Bool) :
  Yg.tail (Yk k).1 (Yk k).2.a (Yk k).2.b (Yk k).2.body (Yk k).2.orElse D (fitsF a (Yk k).2.a) (fitsF b (Yk k).2.b) (Yg.num k n) k n4 n5 room p4 p5=true↔1≤D∧Head k a b n room n4 n5∧p4=true∧p5=true:=by
 by_cases h:1≤k∧k≤11
 ·have hk:k=1∨k=2∨k=3∨k=4∨k=5∨k=6∨k=7∨k=8∨k=9∨k=10∨k=11:=om_
  rcases hk with rfl|rfl|rfl|rfl|rfl|rfl|rfl|rfl|rfl|rfl|rfl
  ·rw [show Yk 1=(true,⟨sNum,3,0,false,false⟩) from rfl]
   cases p4 <;> cases p5 <;> simp [Yg.tail,Yg.num,fitsF,Head] <;> omega
  ·rw [show Yk 2=(true,⟨sNo,3,3,false,false⟩) from rfl]
   cases p4 <;> cases p5 <;> simp [Yg.tail,Yg.num,fitsF,Head] <;> omega
  ·rw [show Yk 3=(true,⟨sLoad,3,3,false,false⟩) from rfl]
   cases p4 <;> cases p5 <;> simp [Yg.tail,Yg.num,fitsF,Head] <;> omega
  ·rw [show Yk 4=(true,⟨sStore,3,3,false,false⟩) from rfl]
   cases p4 <;> cases p5 <;> simp [Yg.tail,Yg.num,fitsF,Head] <;> omega
  ·rw [show Yk 5=(true,⟨sSay,3,0,false,false⟩) from rfl]
   cases p4 <;> cases p5 <;> simp [Yg.tail,Yg.num,fitsF,Head] <;> omega
  ·rw [show Yk 6=(true,⟨sIf,3,0,true,true⟩) from rfl]
   cases p4 <;> cases p5 <;> simp [Yg.tail,Yg.num,fitsF,Head] <;> omega
  ·rw [show Yk 7=(true,⟨sWhile,3,0,true,false⟩) from rfl]
   cases p4 <;> cases p5 <;> simp [Yg.tail,Yg.num,fitsF,Head] <;> omega
  ·rw [show Yk 8=(true,⟨sIn,2,0,true,false⟩) from rfl]
   cases p4 <;> cases p5 <;> simp [Yg.tail,Yg.num,fitsF,Head] <;> omega
  ·rw [show Yk 9=(true,⟨sWait,2,0,false,false⟩) from rfl]
   cases p4 <;> cases p5 <;> simp [Yg.tail,Yg.num,fitsF,Head] <;> omega
  ·rw [show Yk 10=(true,⟨sSignal,2,0,false,false⟩) from rfl]
   cases p4 <;> cases p5 <;> simp [Yg.tail,Yg.num,fitsF,Head] <;> omega
  ·rw [show Yk 11=(true,⟨sYield,0,0,false,false⟩) from rfl]
   cases p4 <;> cases p5 <;> simp [Yg.tail,Yg.num,fitsF,Head] <;> omega
 ·rw [look_none h];simp only [Yg.tail,Bool.false_and];refine ⟨fun h=>(by cases h),fun ⟨_,hh,_⟩=>?_⟩;unfold Head at hh;omega
theorem st_open {d:Nat} {room:Int} {t:T} (h:Yg.st (d+1) t room=true) :
  Head t.f0 t.f1 t.f2 t.f3 room t.f4.length t.f5.length∧(∀ x ∈ t.f4,Yg.st d x (if t.f0=8 then t.f1 else room)=true)∧(∀ x ∈ t.f5,Yg.st d x (if t.f0=8 then t.f1 else room)=true):=by
 unfold Yg.st at h;obtain ⟨_,hh,h4,h5⟩:=(tail_iff _ _ _ _ _ _ _ _ _ _).1 h;exact ⟨hh,fun x hx=>List.all_eq_true.1 h4 x hx,fun x hx=>List.all_eq_true.1 h5 x hx⟩
theorem cnt_mem {d:Nat} {l:List T} {t:T} (h:t ∈ l):1+Xt.cnt d t.f4+Xt.cnt d t.f5≤Xt.cnt (d+1) l:=by
 show _≤(l.map (fun s=>1+Xt.cnt d s.f4+Xt.cnt d s.f5)).sum
 induction l with
 |nil=>cases h
 |cons a r ih=>
  rw [List.map_cons,List.sum_cons]
  rcases List.mem_cons.1 h with rfl|h
  ·exact Nat.le_add_right _ _
  ·exact nt_ (ih h) (Nat.le_add_left _ _)
theorem cnt_len {d:Nat} (l:List T):l.length≤Xt.cnt (d+1) l:=by
 show _≤(l.map (fun s=>1+Xt.cnt d s.f4+Xt.cnt d s.f5)).sum
 induction l with
 |nil=>exact nr_ _
 |cons a r ih=>rw [List.map_cons,List.sum_cons,List.length_cons];omega
theorem st_fit3 {room:Int} {t:T} (h:Yg.st 3 t room=true) (hc:Xt.cnt 2 t.f4+Xt.cnt 2 t.f5≤14):Fit 3 room t:=by
 have m4:t.f4.length≤Xt.cnt 2 t.f4:=cnt_len _;have m5:t.f5.length≤Xt.cnt 2 t.f5:=cnt_len _;obtain ⟨hh,a4,a5⟩:=st_open h
 have deep:∀ (l:List T),Xt.cnt 2 l≤14→∀ x ∈ l,∀ rm,Yg.st 2 x rm=true→Fit 2 rm x:=fun l hl x hx rm hs=>by
  have m:1+Xt.cnt 1 x.f4+Xt.cnt 1 x.f5≤Xt.cnt 2 l:=cnt_mem hx;obtain ⟨hx1,b4,b5⟩:=st_open hs;have n4:x.f4.length≤Xt.cnt 1 x.f4:=cnt_len _;have n5:x.f5.length≤Xt.cnt 1 x.f5:=cnt_len _
  have aC:∀ (l:List T),Xt.cnt 1 l≤14→∀ y ∈ l,∀ rm,Yg.st 1 y rm=true→Fit 1 rm y:=fun l hl y hy rm hs=>by
   obtain ⟨hy1,c4,c5⟩:=st_open hs;have e4:y.f4=[]:=List.eq_nil_iff_forall_not_mem.2 (fun z hz=>by have:=c4 z hz;cases this);have e5:y.f5=[]:=List.eq_nil_iff_forall_not_mem.2 (fun z hz=>by have:=c5 z hz;cases this);exact ⟨hy1,by rw [e4];decide,by rw [e5];decide,fun z hz=>(by rw [e4] at hz;cases hz),fun z hz=>(by rw [e5] at hz;cases hz)⟩
  exact ⟨hx1,om_,om_,fun y hy=>aC x.f4 om_ y hy _ (b4 y hy),fun y hy=>aC x.f5 om_ y hy _ (b5 y hy)⟩
 exact ⟨hh,om_,om_,fun x hx=>deep t.f4 om_ x hx _ (a4 x hx),fun x hx=>deep t.f5 om_ x hx _ (a5 x hx)⟩
theorem okList_fits {l:List T} (h:okList l=true) (hc:Xt.cnt 3 l<9223372036854775808):Fits (-1) l∧l.length≤14∧Small 4 l:=by
 unfold okList at h;rw [Bool.and_eq_true,List.all_eq_true] at h;have hw:=od_ h.2
 have hcnt:Xt.cnt 3 l≤14:=by unfold wrap64 at hw;omega
 have hlen:l.length≤Xt.cnt 3 l:=cnt_len _
 have hf:Fits (-1) l:=fun t ht=>by
  have m:1+Xt.cnt 2 t.f4+Xt.cnt 2 t.f5≤Xt.cnt 3 l:=cnt_mem ht;refine st_fit3 (h.1 t ht) om_
 exact ⟨hf,om_,⟨om_,fun t ht=>Fit.small 3 (hf t ht)⟩⟩
theorem openS_parts:∀ (l:List (List T)) (s:WS),(l.foldl more s).cell=s.cell∧(l.foldl more s).room=s.room∧(l.foldl more s).sign=s.sign∧(l.foldl more s).said=s.said
 |[],s=>⟨rfl,rfl,rfl,rfl⟩
 |a :: r,s=>openS_parts r (more s a)
theorem openS_procs:∀ (l:List (List T)) (s:WS) (k:Nat),(k<s.n→(l.foldl more s).proc k=s.proc k)∧(∀ (h:k<l.length),(l.foldl more s).proc (s.n+k)=newP l[k])
 |[],s,k=>⟨fun _=>rfl,fun h=>absurd h (Nat.not_lt_zero _)⟩
 |a :: r,s,k=>by
  refine ⟨fun h=>?_,fun h=>?_⟩
  ·rw [List.foldl_cons,(openS_procs r (more s a) k).1 (by show k<s.n+1;omega)];exact up_ne _ om_ _
  ·cases k with
   |zero=>
    rw [List.foldl_cons,Nat.add_zero,(openS_procs r (more s a) s.n).1 (by show s.n<s.n+1;omega)];exact up_same _ _ _
   |succ k=>
    have e:s.n+(k+1)=(more s a).n+k:=by show _=s.n+1+k;omega
    rw [List.foldl_cons,e,(openS_procs r (more s a) k).2 (by simpa using h)];rfl
theorem openS_proc (l:List (List T)) {k:Nat} (h:k<l.length):(Ya l).proc k=newP l[k]:=by
 have:=(openS_procs l s0 k).2 h
 have e:s0.n+k=k:=Nat.zero_add k;rw [e] at this;exact this
theorem openS_inv {l:List (List T)} (h:Uk l=true) (hc:∀ x ∈ l,Xt.cnt 3 x<9223372036854775808):Inv (Ya l) 0∧(∀ x ∈ l,Small 4 x):=by
 unfold Uk at h;rw [Bool.and_eq_true,Bool.and_eq_true,List.all_eq_true] at h;have h1:=od_ h.1.1;have h3:=od_ h.1.2;have all:=fun x hx=>okList_fits (h.2 x hx) (hc x hx);obtain ⟨p1,p2,p3,p4⟩:=openS_parts l s0;have hn:=openS_n l;refine ⟨⟨by rw [hn];exact ⟨h1,h3⟩,fun i hi=>?_,fun i hi=>?_,fun i hi=>?_,fun j hj q hq=>?_,fun j hj=>?_,fun r hr=>?_,?_⟩,fun x hx=>(all x hx).2.2⟩
 ·have hi':i<l.length:=hn ▸ hi;rw [openS_proc l hi'];exact .inl ⟨rfl,(all _ (List.getElem_mem hi')).1⟩
 ·have hi':i<l.length:=hn ▸ hi;rw [openS_proc l hi'];exact (all _ (List.getElem_mem hi')).2.1
 ·have hi':i<l.length:=hn ▸ hi;rw [openS_proc l hi'];exact .inl rfl
 ·have e:(Ya l).sign j=[]:=congrFun p3 j;rw [e] at hq;cases hq
 ·have e:(Ya l).sign j=[]:=congrFun p3 j;rw [e];exact List.nodup_nil
 ·exact .inl (congrFun p2 r)
 ·have e:(Ya l).said=[]:=p4;rw [e];exact nr_ _
end Go.Proofs.Ytlhogkfmdnpmkaa.Mean
namespace Go.Proofs.Ytlhogkfmdnpmkaa.GWhole
open RowKit YtlhogkfmdnpmkaaW.PrintWords YtlhogkfmdnpmkaaW.PrintLast YtlhogkfmdnpmkaaW.PrintMore
attribute [local go_sem] Uq Us max_two min_two Zz Ua Ur Ut
def Zn.f (l0:List (List (S69))) (l1:List Int):Option (List Int):=if l0.all (fun x=>decide (Xt.cnt 3 x<9223372036854775808))=true then some (Mean.whole l0 l1) else none
theorem Zn.calls (A0:Option Addr) (c0:Nat) (l0:List (List (S69))) (A1:Option Addr) (c1:Nat) (l1:List Int) (r:List Int) (w:World) (hr0:Kd.C (Kd.slice 69 k69) w A0 l0.length l0) (hc0:l0.length≤c0) (hr1:Kd.C (Kd.int .i64) w A1 l1.length l1) (hc1:l1.length≤c1) (h:Zn.f l0 l1=some r) :
  Calls Try.prog 9 #[.slice A0 l0.length c0,.slice A1 l1.length c1] w fun e w'=>∃ aK:Value,e=.returned (aK)∧Kd.R (Kd.int .i64) 3 w' w.heap.size (fun _=>True) aK r∧Below w.heap.size w w':=by
 unfold Zn.f at h;by_cases hc:l0.all (fun x=>decide (Xt.cnt 3 x<9223372036854775808))=true
 ·rw [if_pos hc] at h;obtain rfl:=sj_ h;exact @Mean.whole_do ⟨fun _=>none⟩ A0 c0 l0 A1 c1 l1 w hr0 hc0 hr1 hc1 (fun hq=>Mean.openS_inv hq (fun x hx=>od_ (List.all_eq_true.1 hc x hx))) (fun _=>rfl)
 ·rw [if_neg hc] at h;cases h
end Go.Proofs.Ytlhogkfmdnpmkaa.GWhole
namespace Go.Proofs.Ytlhogkfmdnpmkaa.GWhole
open RowKit YtlhogkfmdnpmkaaW.PrintWords YtlhogkfmdnpmkaaW.PrintLast YtlhogkfmdnpmkaaW.PrintMore
attribute [local go_sem] Uq Us max_two min_two Zz Ua Ur Ut
def Ub.f (a0:Int):Option (Bool):=if a0 ≥ (-999) then (some (decide (a0≤999))) else (some false)
theorem Ub.calls (a0:Int) (r:Bool) (w:World) (h:Ub.f a0=some r) :
  Calls Try.prog 64 #[.int .i64 a0] w fun e w'=>e=.returned (.bool r)∧Yq w w':=by
 have H:(if a0 ≥ (-999) then (some (decide (a0≤999))) else (some false))=some r:=h;clear h;by_cases c2:a0 ≥ (-999)
 ·rw [if_pos c2] at H;have aH:decide ((-999)≤a0)=true:=dt_ c2;clear c2;obtain rfl:=sj_ H;go_enter Try.func64,Try.ntmps64;go_wp2;go_ret
  exact ⟨by first|rfl|(simp;done)|(simp [*];done),by repeat (first|exact Yq.refl _|apply Yq.step)⟩
 ·rw [if_neg c2] at H;have aH:decide ((-999)≤a0)=false:=df_ c2;clear c2;obtain rfl:=sj_ H;go_enter Try.func64,Try.ntmps64;go_wp2;go_ret
  exact ⟨by first|rfl|(simp;done)|(simp [*];done),by repeat (first|exact Yq.refl _|apply Yq.step)⟩
end Go.Proofs.Ytlhogkfmdnpmkaa.GWhole
