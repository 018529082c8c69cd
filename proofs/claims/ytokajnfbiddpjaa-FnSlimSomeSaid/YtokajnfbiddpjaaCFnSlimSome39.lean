import Derived.Test.YtokajnfbiddpjaaCFnSlimSome21
import Derived.Shelf.Bits.Mul64
import Derived.Laws.CopyOwn
import Derived.Deep.RegionLaw
import Derived.Lib.Hide
import Derived.WalkSpells
import Derived.Deep.DeepMust
set_option maxRecDepth 100000
namespace Go.Proofs.Ytokajnfbiddpjaa.GSlim
open Go.RowKit Go.Proofs.YtokajnfbiddpjaaW.PrintWords Go.Proofs.YtokajnfbiddpjaaW.PrintLast Go.Proofs.YtokajnfbiddpjaaW.PrintMore
attribute [local go_sem] Zx Zz Ul Um Zl Zm Zy Ua
set_option linter.unusedVariables false
set_option linter.unusedSimpArgs false
section
open Go.Shelf
def Xm.ren:Go.Shelf.Ren:=⟨fun|212=>66|263=>76|264=>77|n=>n,fun|46=>93|51=>107|53=>110|146=>108|148=>111|n=>n,fun n=>n⟩
theorem Xm.lays:Lays.n212 Try.prog Xm.ren where
 mixed:=by kernel_rfl
 f212:=Try.func66.trans (congrArg some (by kernel_rfl))
 f263:=Try.func76.trans (congrArg some (by kernel_rfl))
 f264:=Try.func77.trans (congrArg some (by kernel_rfl))
 t46:=Try.underlying93
 a46:=Try.isAgg93
 z46:=Try.sizeOf93
 v46:=Try.zeroValue93
 t51:=Try.underlying107
 a51:=Try.isAgg107
 z51:=Try.sizeOf107
 v51:=Try.zeroValue107
 t53:=Try.underlying110
 a53:=Try.isAgg110
 z53:=Try.sizeOf110
 v53:=Try.zeroValue110
 t146:=Try.underlying108
 a146:=Try.isAgg108
 z146:=Try.sizeOf108
 v146:=Try.zeroValue108
 t148:=Try.underlying111
 a148:=Try.isAgg111
 z148:=Try.sizeOf111
 v148:=Try.zeroValue111
def Xm.f (l0:List Int) (n:Int):Option (List Int):=if l0.length=1∧0≤n∧n≤1048576 then some (List.replicate n.toNat (l0.getD 0 0)) else none
theorem Xm.mul (n:Nat) (hn:n≤1048576) (w:World):Calls Try.prog 66 #[.int .u64 1,.int .u64 n] w fun e w'=>e=.returned (.tuple #[.int .u64 0,.int .u64 n])∧w'=w:=by
 have h:=Any.bits_Mul Xm.lays 1 n (by decide) (by omega) w;refine h.mono ?_
 rintro e w' ⟨rfl,rfl⟩
 refine ⟨?_,rfl⟩
 rw [Nat.one_mul,Nat.div_eq_of_lt (by omega),Nat.mod_eq_of_lt (by omega)];rfl
structure Xm.S (w:World) (g n m cap:Nat) (x:Int) (cur:List Value) (W:World):Prop where
 blk:W.heap[g]?=some (.cells cur.toArray 3 (0,0))
 len:cur.length=cap
 told:cur.take m=List.replicate m (.int .i64 x)
 bel:Below w.heap.size w W
theorem Xm.splice_told {cur:List Value} {m k:Nat} {v:Value} (h:cur.take m=List.replicate m v) (hf:m+k≤cur.length):(splice cur m (List.replicate k v)).take (m+k)=List.replicate (m+k) v:=by
 have hl:(cur.take m).length=m:=by simp;omega
 unfold splice
 rw [← List.append_assoc,h,List.replicate_append_replicate,List.take_append_of_le_length (by simp),List.take_of_length_le (by simp)]
theorem Xm.rd1 {ad:Addr} {x:Int} {w W:World} {n:Nat} (hx:w.cell? ad=some (.int .i64 x)) (hb:Below w.heap.size w W) (j:Nat) (v:Value) (hj:(List.replicate (Nat.min 1 n) (Value.int .i64 x))[j]?=some v):W.cell? (ad.add j)=some v:=by
 obtain ⟨hl,hv⟩:=List.getElem?_eq_some_iff.1 hj;have hm1:Nat.min 1 n≤1:=Nat.min_le_left 1 n
 have:j=0:=by rw [List.length_replicate] at hl;omega
 subst this
 have hv':Value.int .i64 x=v:=by simpa using hv
 subst hv';exact cell_later hb hx
theorem Xm.start {n cap g:Nat} {x:Int} {cur:Array Value} {w W:World} (hc:cur.size=cap) (hn:n≤cap) (h:Hid (W.heap[g]?=some (.cells (splice cur.toList 0 (List.replicate (Nat.min 1 n) (.int .i64 x))).toArray 3 (0,0)))) (hb:Below w.heap.size w W) :
  ∃ c,Xm.S w g n (Nat.min 1 n) cap x c W:=by
 have hm1:Nat.min 1 n≤n:=Nat.min_le_right 1 n
 have hf:0+Nat.min 1 n≤cur.toList.length:=by rw [Array.length_toList];omega
 refine ⟨_,h,?_,?_,hb⟩
 ·rw [length_splice _ _ _ (by simpa using hf)];simpa using hc
 ·have:=Xm.splice_told (v:=Value.int .i64 x) (cur:=cur.toList) (m:=0) (k:=Nat.min 1 n) (by simp) hf
  simpa using this
theorem Xm.S.drew {w W:World} {g n m cap:Nat} {x:Int} {cur:List Value} (h:Xm.S w g n m cap x cur W):Xm.S w g n m cap x cur W.drew:=⟨h.blk,h.len,h.told,Xy h.bel⟩
theorem Xm.fit {w W:World} {g n m cap:Nat} {x:Int} {cur:List Value} (h:Xm.S w g n m cap x cur W) (hn:n≤cap) (hm:m≤n):m+(List.replicate (Nat.min m (n - m)) (Value.int .i64 x)).length≤cur.length:=by
 have h1:Nat.min m (n - m)≤n - m:=Nat.min_le_right m (n - m);rw [List.length_replicate,h.len]
 omega
theorem Xm.rd2 {w W:World} {g n m cap:Nat} {x:Int} {cur:List Value} (h:Xm.S w g n m cap x cur W) (j:Nat) (v:Value) (hj:(List.replicate (Nat.min m (n - m)) (Value.int .i64 x))[j]?=some v):W.cell? ((⟨g,0,none⟩:Addr).add j)=some v:=by
 obtain ⟨hl,hv⟩:=List.getElem?_eq_some_iff.1 hj;rw [List.length_replicate] at hl;have h1:Nat.min m (n - m)≤m:=Nat.min_le_left m (n - m)
 have hv':Value.int .i64 x=v:=by simpa using hv
 subst hv'
 have h2:cur[j]?=some (Value.int .i64 x):=by
  have h3:(cur.take m)[j]?=some (Value.int .i64 x):=by
   rw [h.told,List.getElem?_replicate];rw [if_pos (by omega)]
  rw [List.getElem?_take] at h3
  split at h3
  ·exact h3
  ·cases h3
 rw [Addr.add_lit]
 simp [World.cell?,h.blk,h2]
theorem Xm.next {w W W':World} {g n m cap:Nat} {x:Int} {cur:List Value} (h:Xm.S w g n m cap x cur W) (hn:n≤cap) (hm:m≤n)
  (hg:Hid (W'.heap[g]?=some (.cells (splice cur m (List.replicate (Nat.min m (n - m)) (.int .i64 x))).toArray 3 (0,0)))) (hb:Below w.heap.size w W'):∃ c,Xm.S w g n (m+Nat.min m (n - m)) cap x c W':=by
 have hf:=Xm.fit h hn hm;refine ⟨_,hg,?_,?_,hb⟩
 ·rw [length_splice _ _ _ hf];exact h.len
 ·exact Xm.splice_told h.told (by rw [List.length_replicate] at hf;exact hf)
theorem Xm.last {w W:World} {g n cap:Nat} {x:Int} {cur:List Value} (h:Xm.S w g n n cap x cur W) (hn:n≤cap) (hg:w.heap.size≤g) (hc:cap≤maxLen) :
  Kd.R (Kd.int .i64) 3 W w.heap.size (fun _=>True) (.slice (some ⟨g,0,none⟩) n cap) (List.replicate n x):=by
 refine Kd.R_of_own (h1:=fun _=>rfl) ⟨?_,.inr ⟨g,cap,cur.toArray,by simp,hg,h.blk,by simpa using hn,hc,by simpa using h.len,?_⟩⟩ (fun _ _=>trivial)
 ·simp [encs]
 ·have:=h.told
  simpa [encs] using this
set_option maxHeartbeats 8000000 in
theorem Xm.walk (ad:Addr) (c0:Nat) (x:Int) (n:Nat) (w:World) (hx:w.cell? ad=some (.int .i64 x)) (hn:n≤1048576) (hc0:1≤c0) :
  Calls Try.prog 48 #[.slice (some ad) 1 c0,.int .i64 n] w fun e w'=>∃ aA:Value,e=.returned aA∧Kd.R (Kd.int .i64) 3 w' w.heap.size (fun _=>True) aA (List.replicate n x)∧Below w.heap.size w w':=by
 have HX:=Xa.mk hx;have HN:=Xa.mk hn;clear hx hn
 have b1:(0:Int)≤(n:Int):=by omega
 have b2:¬ ((n:Int)<0):=by omega
 have wi:IntKind.i64.wrap (n:Int)=n:=by have:=HN.out;rw [IntKind.wrap_i64];omega
 have n9:¬ (9223372036854775807<(n:Int)):=by have:=HN.out;omega
 go_enter Try.func48,Try.ntmps48
 have HB:=Xa.mk (Below.refl w.heap.size w)
 go_upto_region 7 with (first|(go_at_call 66;refine (Xm.mul n HN.out _).mono ?_;rintro e w' ⟨rfl,rfl⟩)|((with_reducible refine Xt (N:=30) rfl ?_);refine Kd.R_make (Kd.int .i64) w'.heap.size 3 rfl (N:=30) rfl 54 _ _ rfl (n:Int) rfl rfl Try.underlying54 (.int .i64 0) 8 info3 rfl (by decide) (by omega) 0 (ok:=fun _=>True) (okp:=fun _=>True) rfl (fun _ hk=>hk) trivial b1 (by have:=HN.out;omega) (Below.refl _ _) (Nat.le_refl _) ?_;intro v1 w1 hR hB1 hg1 hb1;have HMk:=Xa.mk (And.intro hR (And.intro hB1 hb1));clear hR hB1 hg1 hb1))
 obtain ⟨hR,hB1,b,hb,hbge⟩:=HMk.out;obtain ⟨hlen,hcase⟩:=Kd.own_of_R hR
 rcases hcase with ⟨rfl,_⟩|⟨g,cap,cur,rfl,hg,hblk,hnc,hcm,hcs,htk⟩
 ·simp [Value.ownBlock] at hb
 have hgb:g=b:=by simpa [Value.ownBlock] using hb
 simp only [Int.toNat_natCast,List.length_replicate] at hnc htk hcs ⊢;have HB1:=Xa.mk hB1;have Hblk:=Xa.mk hblk;have Hnc:=Xa.mk hnc;have Hge:=Xa.mk hg;have Hcm:=Xa.mk hcm;have Hcs:Xa (cur.size=cap):=⟨by simpa using hcs⟩;clear hR hB1 hb hbge hlen hblk hcs htk hgb hnc hcm hg HMk
 go_upto_block 0 with (((with_reducible refine Yp (b:=.copy) (xs:=#[.tmp 31,.tmp 32]) rfl ?_);go_must (refine wpList_copy_splice rfl (.tmp 31) (.tmp 32) 54 54 rfl 3 Try.underlying54 (by kernel_rfl) _ _ _ _ _ _ rfl rfl g 0 cur.toList 3 (by simpa using Hblk.out) (List.replicate (Nat.min 1 n) (.int .i64 x)) List.length_replicate (fun _=>⟨rfl,_,rfl,Xm.rd1 HX.out HB1.out⟩) (by have:=Hcs.out;have:=Hnc.out;have hm1:Nat.min 1 n≤n:=Nat.min_le_right 1 n;rw [List.length_replicate,Array.length_toList];omega) (by intro v hv;rw [List.eq_of_mem_replicate hv];rfl) w'.heap.size w' HB1.out Hge.out ?_);intro w4 hg4 hb4;have HS:=Xa.mk (Xm.start (n:=n) (x:=x) Hcs.out Hnc.out hg4 hb4);clear hg4 hb4))
 go_wp2
 go_loopw [8] (fun v8 W=>∃ (m:Nat) (c:List Value),v8=.int .i64 (m:Int)∧Xa (m≤n∧(0<n→0<m))∧Xa (Xm.S w' g n m cap x c W)) (fun v8 _=>n - (intOf v8).toNat)
 case atStart=>
  obtain ⟨c,hS⟩:=HS.out;exact ⟨Nat.min 1 n,c,rfl,⟨Nat.min_le_right 1 n,fun h=>by show 0<min 1 n;omega⟩,⟨hS⟩⟩
 case round=>
  clear HS;obtain ⟨m,cc,rfl,hm,HS⟩:=hrel;go_wp2
  ·rename_i hlt
   have HMN:=Xa.mk hlt;have ncp:=Hnc.out
   have m0:(0:Int)≤(m:Int):=by omega
   have mn:(m:Int)≤(n:Int):=by omega
   have mcap:m≤cap:=by omega
   have hcap:¬ (cap=m):=by omega
   clear hlt;have HD:=Xa.mk (Xm.S.drew HS.out);clear HS
   go_region_law ((refine step_copy_splice rfl (.tmp 41) (.tmp 44) 54 54 rfl 3 Try.underlying54 (by kernel_rfl) (some ⟨g,m,none⟩) (some ⟨g,0,none⟩) (n - m) (cap - m) m cap (by simp [Act.eval,Act.put]) (by simp [Act.eval,Act.put]) g m cc 3 HD.out.blk (List.replicate (Nat.min m (n - m)) (.int .i64 x)) List.length_replicate (fun _=>⟨rfl,_,rfl,Xm.rd2 HD.out⟩) (Xm.fit HD.out Hnc.out hm.out.1) (by intro v hv;rw [List.eq_of_mem_replicate hv];rfl) w'.heap.size w' HD.out.bel Hge.out ?_);intro w4 hg4 hb4)
   have aB:=Xa.mk (Xm.next HD.out Hnc.out hm.out.1 hg4 hb4)
   have hwr:IntKind.i64.wrap ((m:Int)+((Nat.min m (n - m):Nat):Int))=((m+Nat.min m (n - m):Nat):Int):=by
    have h1:Nat.min m (n - m)≤m:=Nat.min_le_left m (n - m)
    have:=HN.out
    have:=hm.out.1
    rw [IntKind.wrap_i64];omega
   clear hg4 hb4;simp only [List.getElem_toArray,List.getElem_cons_succ,List.getElem_cons_zero,Act.put,List.setIfInBounds_toArray,List.set_cons_zero,List.set_cons_succ,hwr];go_wp2
   go_roundw
   case measure=>
    have hlt:=HMN.out;have h0:=hm.out.2;have h1:Nat.min m (n - m)=min m (n - m):=rfl
    simp [intOf]
    omega
   case rel=>
    obtain ⟨c,hc⟩:=aB.out;refine ⟨m+Nat.min m (n - m),c,by first|rfl|(rw [hwr])|simp [hwr],⟨?_,?_⟩,⟨hc⟩⟩
    ·have h1:Nat.min m (n - m)≤n - m:=Nat.min_le_right m (n - m)
     have:=hm.out.1
     omega
    ·intro h
     have:=hm.out.2 h
     omega
  ·rename_i hlt
   have hmn:m=n:=by have:=hm.out.1;omega
   subst hmn;go_ret
   exact ⟨_,rfl,Xm.last HS.out Hnc.out Hge.out Hcm.out,HS.out.bel⟩
theorem Xm.calls (A0:Option Addr) (c0:Nat) (l0:List Int) (a1:Int) (r:List Int) (w:World) (hr0:Kd.C (Kd.int .i64) w A0 l0.length l0) (hc0:l0.length≤c0) (h:Xm.f l0 a1=some r) :
  Calls Try.prog 48 #[.slice A0 l0.length c0,.int .i64 a1] w fun e w'=>∃ aA:Value,e=.returned (aA)∧Kd.R (Kd.int .i64) 3 w' w.heap.size (fun _=>True) aA r∧Below w.heap.size w w':=by
 unfold Xm.f at h
 split at h
 ·rename_i hh
  obtain ⟨h1,h2,h3⟩:=hh;obtain rfl:=Option.some.inj h;obtain ⟨n,rfl⟩:=Int.eq_ofNat_of_zero_le h2;obtain ⟨ad,c,rfl,hcl,hk,hcell⟩:=Kd.C_get hr0 0 0 (by omega) (by omega);have hk':c=[.int .i64 (l0.getD 0 0)]:=hk;subst hk';have hc:=hcell 0 _ rfl
  have hc':w.cell? ad=some (.int .i64 (l0.getD 0 0)):=by simpa [Addr.add] using hc
  rw [h1] at hc0 ⊢;exact Xm.walk ad c0 (l0.getD 0 0) n w hc' (by omega) hc0
 ·cases h
end
end Go.Proofs.Ytokajnfbiddpjaa.GSlim
