import Derived.Test.YtdkcjecllbdljaaCFnSlim21
import Derived.Test.YtdkcjecllbdljaaCFnSlim44
import Derived.Test.YtdkcjecllbdljaaCFnSlim45
import Derived.Test.YtdkcjecllbdljaaCFnSlim34
import Derived.Lib.Hide
import Derived.WalkSpells
import Derived.Deep.DeepMust
namespace Go.Proofs.Ytdkcjecllbdljaa.GSlim
open Go.RowKit Go.Proofs.YtdkcjecllbdljaaW.PrintWords Go.Proofs.YtdkcjecllbdljaaW.PrintLast Go.Proofs.YtdkcjecllbdljaaW.PrintMore
attribute [local go_sem] Zv Zx Un Uo Zm Zn Zw Zy
set_option linter.unusedVariables false
set_option linter.unusedSimpArgs false
section
open Go.Proofs.Ytdkcjecllbdljaa.HMap
def impl_slimDead.f (k:Nat) (l0:List dead.I):Option (List dead.I):=(Yt.f k l0).bind fun kept=>if kept.length=l0.length∧l0.length<1000000 then some (dead.out kept l0 kept) else none
set_option maxHeartbeats 8000000 in
set_option maxRecDepth 100000 in
theorem impl_slimDead.calls (k:Nat) (A0:Option Addr) (c0:Nat) (l0:List (S31)) (r:List (S31)) (w:World) (hr0:Kd.C k31 w A0 l0.length l0) (hc0:l0.length≤c0) (h:impl_slimDead.f k l0=some r) :
  Calls Try.prog 19 #[.slice A0 l0.length c0] w fun e w'=>∃ v0_:Value,e=.returned (v0_)∧Kd.R k31 31 w' w.heap.size (fun _=>True) v0_ r∧Below w.heap.size w w':=by
 unfold impl_slimDead.f at h
 obtain ⟨kept,hk,h⟩:=Option.bind_eq_some_iff.1 h;by_cases hl:kept.length=l0.length∧l0.length<1000000
 ·rw [if_pos hl] at h;obtain rfl:=Option.some.inj h;have HR0:=Xa.mk hr0;have HC0:=Xa.mk hc0;have HL:=Xa.mk hl;have HK:=Xa.mk hk;clear h hr0 hc0 hl hk;have HB:=Xa.mk (Below.refl w.heap.size w);have hmm:=@run_makeMap Try.prog
  go_enter Try.func19,Try.ntmps19
  go_upto_block 0 with ((with_reducible refine Xf (f:=36) rfl ?_);refine Yf (some 12) rfl rfl Try.func36 (by kernel_rfl) rfl #[.slice A0 l0.length c0] rfl ga_ ?_;(with_reducible refine (Yt.calls k _ _ l0 kept _ HR0.out HC0.out HK.out).mono ?_);rintro e w1 ⟨vk,rfl,ho0,hb⟩;refine ⟨_,rfl,?_⟩;obtain ⟨Ak,ck,ek⟩:=Kd.Yr ho0;subst ek;have HKR:=Xa.mk ho0;have HB1:=Xa.mk hb;clear ho0 hb)
  have HM:=Xa.mk (Uj.made w1);have HKR1:=Xa.mk (Kd.Ud HKR.out (.map #[] 0));have HB2:=Xa.mk (HB1.out.alloc HB1.out.size (.map #[] 0));clear HKR HB
  have hkl:kept.length≤1000000:=by have:=HL.out;omega
  have HKL:=Xa.mk hkl;clear hkl;go_wp2
  go_loopw [5,16] (fun v5 v16 W=>∃ (j:Nat),v5=.int .i64 (dead.cnt kept j:Int)∧v16=.int .i64 (j:Int)∧Xa (j≤kept.length)∧Xa (Uj W w1.heap.size (dead.mp kept j))∧Xa (Kd.R Kd.bool 4 W w.heap.size (fun _=>True) (.slice Ak kept.length ck) kept)∧Xa (Below w.heap.size w W)) (fun _ v16 _=>kept.length - (intOf v16).toNat)
  case atStart=>exact ⟨0,rfl,rfl,⟨Nat.zero_le _⟩,HM,HKR1,HB2⟩
  case round=>
   clear HM HKR1 HB2;obtain ⟨j,rfl,rfl,Hj,HM,HKR,HB⟩:=hrel;by_cases hlt:j<kept.length
   ·obtain ⟨gk,ck',ek,gb,gl,cl,HG⟩:=Kd.R_form HKR.out (by omega)
    injection ek with ea en ec
    subst ea;subst ec;obtain ⟨hx0,hf0⟩:=Kd.R_celln false HKR.out (j:Int) (by omega) (by omega)
    have hrd:rdOf false kept (j:Int)=kept[j]:=by unfold rdOf;simp [List.getD_eq_getElem?_getD,hlt]
    rw [hrd] at hx0;simp only [Int.toNat_natCast] at hx0;have hd1:decide ((j:Int)<(kept.length:Int))=true:=decide_eq_true (by omega);have hj0:((0:Int)≤(j:Int))=True:=eq_true (by omega);have hj1:((j:Int)<(kept.length:Int))=True:=eq_true (by omega);have hcs:=dead.cnt_succ kept j hlt;have hcl:=dead.cnt_le kept j
    have hjw:IntKind.i64.wrap ((j:Int)+1)=((j+1:Nat):Int):=by have:=HKL.out;rw [IntKind.wrap_i64];omega
    have hcw:IntKind.i64.wrap ((dead.cnt kept j:Int)+1)=((dead.cnt kept j+1:Nat):Int):=by have:=HKL.out;rw [IntKind.wrap_i64];omega
    have Hlt:=Xa.mk hlt;obtain ⟨b,hb⟩:∃ b,kept[j]=b:=⟨_,rfl⟩;rw [hb] at hx0 hcs;have HCS:=Xa.mk hcs;clear hrd en gb gl HG hf0 hcs hcl hb hlt;have hup:∀ (W:World),True:=fun _=>trivial;clear hup
    cases b with
    |true=>
     go_wp2_with (refine wpList_update_im rfl _ _ _ (.inl rfl) Try.underlying48 Try.underlying3 _ rfl rfl HM.out ?_;intro w2 hm1 hg1 hs1;have n0_:Xa (Uj w2 w1.heap.size (dead.mp kept (j+1))):=⟨by rw [← dead.put_mp];exact hm1⟩;have n1_:=Xa.mk (dead.R_map HKR.out HM.out hg1);have n2_:=Xa.mk (Below.grown HB.out hg1 (Below.size HB.out) (fun k e=>by cases e;exact HB1.out.size));clear hm1 hg1 hs1;clear HM HKR HB;have HM:=n0_;have HKR:=n1_;have HB:=n2_;clear n0_ n1_ n2_)
     go_roundw
     case measure=>have:=Hlt.out;simp [intOf];omega
     case rel=>exact ⟨j+1,by rw [HCS.out];simp,by simp,⟨Hlt.out⟩,HM,HKR,HB⟩
    |false=>
     go_wp2_with (refine wpList_update_im rfl _ _ _ (.inl rfl) Try.underlying48 Try.underlying3 _ rfl rfl HM.out ?_;intro w2 hm1 hg1 hs1;have n0_:Xa (Uj w2 w1.heap.size (dead.mp kept (j+1))):=⟨by rw [← dead.put_mp];exact hm1⟩;have n1_:=Xa.mk (dead.R_map HKR.out HM.out hg1);have n2_:=Xa.mk (Below.grown HB.out hg1 (Below.size HB.out) (fun k e=>by cases e;exact HB1.out.size));clear hm1 hg1 hs1;clear HM HKR HB;have HM:=n0_;have HKR:=n1_;have HB:=n2_;clear n0_ n1_ n2_)
     go_roundw
     case measure=>have:=Hlt.out;simp [intOf];omega
     case rel=>exact ⟨j+1,by rw [HCS.out];simp,by simp,⟨Hlt.out⟩,HM,HKR,HB⟩
   ·have hd1:decide ((j:Int)<(kept.length:Int))=false:=decide_eq_false (by omega)
    have hj:j=kept.length:=by have:=Hj.out;omega
    subst hj
    go_upto_block 2 with (fail)
    clear Hj hlt hd1 HKL;go_wp2
    go_loopw [8,30] (fun v8 v30 W=>∃ (j:Nat),v30=.int .i64 (j:Int)∧Xa (j≤l0.length)∧Xa (Uj W w1.heap.size (dead.mp kept kept.length))∧Xa (Kd.R k31 31 W w.heap.size (fun _=>True) v8 (dead.upto kept l0 j))∧Xa (Kd.R Kd.bool 4 W w.heap.size (fun _=>True) (.slice Ak kept.length ck) kept)∧Xa (Below w.heap.size w W)) (fun _ v30 _=>l0.length - (intOf v30).toNat)
    case atStart=>exact ⟨0,rfl,⟨Nat.zero_le _⟩,HM,⟨Kd.R_nil _ _ _ _ _⟩,HKR,HB⟩
    case round=>
     clear HM HKR HB;obtain ⟨j,rfl,Hj,HM,HO,HKR,HB⟩:=hrel;by_cases hlt:j<l0.length
     ·have hlk:j<kept.length:=by have:=HL.out.1;omega
      obtain ⟨adk,ek,hx0⟩:=Kd.at_bool (Kd.R_reads' HKR.out).2.2 (j:Int) (by omega) (by omega);subst ek
      have hrd:rdOf false kept (j:Int)=kept[j]:=by unfold rdOf;simp [List.getD_eq_getElem?_getD,hlk]
      rw [hrd] at hx0;simp only [Int.toNat_natCast] at hx0;obtain ⟨ad2,e2,h0_,h1_,h2_,h3_⟩:=Zt (Kd.Zi HR0.out HB.out) (j:Int) (by omega) (by omega);subst e2
      have hrs:Xb l0 (j:Int)=l0[j]:=by unfold Xb;simp [List.getD_eq_getElem?_getD,hlt]
      rw [hrs] at h0_ h1_ h2_ h3_;simp only [Int.toNat_natCast] at h0_ h1_ h2_ h3_;have hup:=dead.upto_succ kept l0 j hlk hlt;have hd1:decide ((j:Int)<(l0.length:Int))=true:=decide_eq_true (by omega);have hj0:((0:Int)≤(j:Int))=True:=eq_true (by omega);have hj1:((j:Int)<(kept.length:Int))=True:=eq_true (by omega);have hj2:((j:Int)<(l0.length:Int))=True:=eq_true (by omega)
      have hjw:IntKind.i64.wrap ((j:Int)+1)=((j+1:Nat):Int):=by have:=HL.out;rw [IntKind.wrap_i64];omega
      have Hlt:=Xa.mk hlt;obtain ⟨b,hb⟩:∃ b,kept[j]=b:=⟨_,rfl⟩;obtain ⟨s,hs⟩:∃ s,l0[j]=s:=⟨_,rfl⟩;rw [hb] at hx0 hup;rw [hs] at h0_ h1_ h2_ h3_ hup;have hx1:∀ o:Obj,(wr.alloc o).cell? (adk.add j)=some (.bool b):=fun o=>Go.cell_later ((Below.refl _ _).alloc (Nat.le_refl _) o) hx0;clear hrd hrs hb hs hlt hlk hx0
      cases b with
      |false=>
       have Hup:Xa (dead.upto kept l0 (j+1)=dead.upto kept l0 j):=⟨by rw [hup];simp⟩;clear hup;go_wp2
       go_roundw
       case measure=>have:=Hlt.out;simp [intOf];omega
       case rel=>exact ⟨j+1,by simp,⟨Hlt.out⟩,⟨HM.out.alloc _⟩,⟨by rw [Hup.out];exact Kd.Ud HO.out _⟩,⟨Kd.Ud HKR.out _⟩,⟨HB.out.alloc HB.out.size _⟩⟩
      |true=>
       by_cases h76:s.f0=7∨s.f0=6
       ·have Hup:Xa (dead.upto kept l0 (j+1)=dead.upto kept l0 j ++ [⟨s.f0,s.f1,s.f2,dead.look kept s.f3⟩]):=⟨by rw [hup,if_pos rfl,dead.fix,if_pos h76]⟩;clear hup;by_cases h7:s.f0=7
        ·have e7:(s.f0 == 7)=true:=by simp [h7]
         clear h7 h76;go_wp2_with (first|(refine dead.wp_index rfl _ _ rfl Try.underlying48 Try.underlying3 _ rfl rfl (HM.out.alloc _) (by kernel_rfl) ?_)|((with_reducible refine Yp (b:=.append) (xs:=#[.tmp 53,.tmp 55]) rfl ?_);at_builtin;refine Kd.Vo k31 (w0:=w) w.heap.size rfl (.tmp 53) (.tmp 55) 23 31 (.agg #[(.int .i64 0),(.int .i64 0),(.int .i64 0),(.int .i64 0)]) 32 rfl Try.underlying23 Vf rfl (by decide) (by omega) u8 (dead.upto kept l0 j) (⟨s.f0,s.f1,s.f2,dead.look kept s.f3⟩) [.int .i64 s.f0,.int .i64 s.f1,.int .i64 s.f2,.int .i64 (dead.look kept s.f3)] (fun k=>k≠wr.heap.size) (fun _=>False) rfl (by first|rfl|(simp [Act.eval];done)) ?aP (fun _ hk=>hk.elim) ?aF ?aO ?aB ?aS ?aL ?_;(case aP=>exact Us _ _ _ (⟨s.f0,s.f1,s.f2,dead.look kept s.f3⟩));(case aB=>exact HB.out.alloc HB.out.size _);(case aF=>intro k hk;simp at hk;omega);(case aO=>exact Kd.Xn (Kd.Ud (Kd.Vk HO.out) _) (fun k hk=>by have:=hk.2.2.1;omega));(case aS=>have:=HB.out.size;simp;omega);(case aL=>have:=dead.upto_len kept l0 j;have:=HL.out;omega);intro v4n w9 hq9 hb9 hg9 hat9;have n0_:=Xa.mk (dead.map_behind (v:=.bool true) HM.out HO.out (.inl rfl) hg9);have n1_:=Xa.mk (Kd.Xn (ok':=fun _=>True) hq9 (fun _ _=>trivial));have n2_:=Xa.mk (dead.row_behind (x:=.bool true) HKR.out HO.out (fun q hq=>by simp [Kd.bool,Kd.scalar] at hq;omega) (.inl rfl) hg9);have n3_:=Xa.mk hb9;clear hq9 hb9 hg9 hat9;clear HM HO HKR HB;have HM:=n0_;have HO:=n1_;have HKR:=n2_;have HB:=n3_;clear n0_ n1_ n2_ n3_))
         go_roundw
         case measure=>have:=Hlt.out;simp [intOf];omega
         case rel=>exact ⟨j+1,by simp,⟨Hlt.out⟩,HM,⟨by rw [Hup.out];exact HO.out⟩,HKR,HB⟩
        ·have e7:(s.f0 == 7)=false:=by simp [h7]
         have e6:(s.f0 == 6)=true:=by simp;omega
         clear h7 h76;go_wp2_with (first|(refine dead.wp_index rfl _ _ rfl Try.underlying48 Try.underlying3 _ rfl rfl (HM.out.alloc _) (by kernel_rfl) ?_)|((with_reducible refine Yp (b:=.append) (xs:=#[.tmp 53,.tmp 55]) rfl ?_);at_builtin;refine Kd.Vo k31 (w0:=w) w.heap.size rfl (.tmp 53) (.tmp 55) 23 31 (.agg #[(.int .i64 0),(.int .i64 0),(.int .i64 0),(.int .i64 0)]) 32 rfl Try.underlying23 Vf rfl (by decide) (by omega) u8 (dead.upto kept l0 j) (⟨s.f0,s.f1,s.f2,dead.look kept s.f3⟩) [.int .i64 s.f0,.int .i64 s.f1,.int .i64 s.f2,.int .i64 (dead.look kept s.f3)] (fun k=>k≠wr.heap.size) (fun _=>False) rfl (by first|rfl|(simp [Act.eval];done)) ?aP (fun _ hk=>hk.elim) ?aF ?aO ?aB ?aS ?aL ?_;(case aP=>exact Us _ _ _ (⟨s.f0,s.f1,s.f2,dead.look kept s.f3⟩));(case aB=>exact HB.out.alloc HB.out.size _);(case aF=>intro k hk;simp at hk;omega);(case aO=>exact Kd.Xn (Kd.Ud (Kd.Vk HO.out) _) (fun k hk=>by have:=hk.2.2.1;omega));(case aS=>have:=HB.out.size;simp;omega);(case aL=>have:=dead.upto_len kept l0 j;have:=HL.out;omega);intro v4n w9 hq9 hb9 hg9 hat9;have n0_:=Xa.mk (dead.map_behind (v:=.bool true) HM.out HO.out (.inl rfl) hg9);have n1_:=Xa.mk (Kd.Xn (ok':=fun _=>True) hq9 (fun _ _=>trivial));have n2_:=Xa.mk (dead.row_behind (x:=.bool true) HKR.out HO.out (fun q hq=>by simp [Kd.bool,Kd.scalar] at hq;omega) (.inl rfl) hg9);have n3_:=Xa.mk hb9;clear hq9 hb9 hg9 hat9;clear HM HO HKR HB;have HM:=n0_;have HO:=n1_;have HKR:=n2_;have HB:=n3_;clear n0_ n1_ n2_ n3_))
         go_roundw
         case measure=>have:=Hlt.out;simp [intOf];omega
         case rel=>exact ⟨j+1,by simp,⟨Hlt.out⟩,HM,⟨by rw [Hup.out];exact HO.out⟩,HKR,HB⟩
       ·have Hup:Xa (dead.upto kept l0 (j+1)=dead.upto kept l0 j ++ [⟨s.f0,s.f1,s.f2,s.f3⟩]):=⟨by rw [hup,if_pos rfl,dead.fix,if_neg h76]⟩
        have e7:(s.f0 == 7)=false:=by simp;omega
        have e6:(s.f0 == 6)=false:=by simp;omega
        clear hup h76;go_wp2_with ((with_reducible refine Yp (b:=.append) (xs:=#[.tmp 53,.tmp 55]) rfl ?_);at_builtin;refine Kd.Vo k31 (w0:=w) w.heap.size rfl (.tmp 53) (.tmp 55) 23 31 (.agg #[(.int .i64 0),(.int .i64 0),(.int .i64 0),(.int .i64 0)]) 32 rfl Try.underlying23 Vf rfl (by decide) (by omega) u8 (dead.upto kept l0 j) (⟨s.f0,s.f1,s.f2,s.f3⟩) [.int .i64 s.f0,.int .i64 s.f1,.int .i64 s.f2,.int .i64 s.f3] (fun k=>k≠wr.heap.size) (fun _=>False) rfl (by first|rfl|(simp [Act.eval];done)) ?aP (fun _ hk=>hk.elim) ?aF ?aO ?aB ?aS ?aL ?_;(case aP=>exact Us _ _ _ (⟨s.f0,s.f1,s.f2,s.f3⟩));(case aB=>exact HB.out.alloc HB.out.size _);(case aF=>intro k hk;simp at hk;omega);(case aO=>exact Kd.Xn (Kd.Ud (Kd.Vk HO.out) _) (fun k hk=>by have:=hk.2.2.1;omega));(case aS=>have:=HB.out.size;simp;omega);(case aL=>have:=dead.upto_len kept l0 j;have:=HL.out;omega);intro v4n w9 hq9 hb9 hg9 hat9;have n0_:=Xa.mk (dead.map_behind (v:=.bool true) HM.out HO.out (.inl rfl) hg9);have n1_:=Xa.mk (Kd.Xn (ok':=fun _=>True) hq9 (fun _ _=>trivial));have n2_:=Xa.mk (dead.row_behind (x:=.bool true) HKR.out HO.out (fun q hq=>by simp [Kd.bool,Kd.scalar] at hq;omega) (.inl rfl) hg9);have n3_:=Xa.mk hb9;clear hq9 hb9 hg9 hat9;clear HM HO HKR HB;have HM:=n0_;have HO:=n1_;have HKR:=n2_;have HB:=n3_;clear n0_ n1_ n2_ n3_)
        go_roundw
        case measure=>have:=Hlt.out;simp [intOf];omega
        case rel=>exact ⟨j+1,by simp,⟨Hlt.out⟩,HM,⟨by rw [Hup.out];exact HO.out⟩,HKR,HB⟩
     ·have hd1:decide ((j:Int)<(l0.length:Int))=false:=decide_eq_false (by omega)
      have hj:j=l0.length:=by have:=Hj.out;omega
      subst hj;go_wp2
      go_ret
      exact ⟨_,rfl,by rw [← dead.upto_all kept l0 HL.out.1];exact HO.out,HB.out⟩
 ·rw [if_neg hl] at h
  cases h
end
end Go.Proofs.Ytdkcjecllbdljaa.GSlim
