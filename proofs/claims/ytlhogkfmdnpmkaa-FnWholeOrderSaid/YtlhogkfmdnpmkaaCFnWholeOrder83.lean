import Derived.Test.YtlhogkfmdnpmkaaCFnWholeOrder82
import Derived.Test.YtlhogkfmdnpmkaaCFnWholeOrder74
import Derived.Test.YtlhogkfmdnpmkaaCFnWholeOrder76
set_option linter.unusedSectionVars false
set_option linter.unusedVariables false
set_option linter.unusedSimpArgs false
set_option maxHeartbeats 4000000
set_option maxRecDepth 100000
namespace Go.Proofs.Ytlhogkfmdnpmkaa.Mean
open RowKit GWhole YtlhogkfmdnpmkaaW.PrintWords YtlhogkfmdnpmkaaW.PrintLast YtlhogkfmdnpmkaaW.PrintMore Ytlhogkfmdnpmkaa.Pure
variable [Prot]
def nilB:BK:=⟨.slice none 0 0,.slice none 0 0,.slice none 0 0,.slice none 0 0,.slice none 0 0,fun _=>.slice none 0 0,fun _=>.slice none 0 0,fun _=>.slice none 0 0⟩
def sE:WS:=⟨0,fun _=>newP [],fun _=>0,fun _=>0,fun _=>[],[]⟩
def WV (W:World) (base:Nat) (ok:Nat→Prop) (b:BK) (s:WS) (K:Nat):Prop:=(At W base ok b s∧Inv s K)∨(b=nilB∧s.n=0)
theorem At.down {W:World} {base base':Nat} {b:BK} {s:WS} (hno:∀ k,Prot.low k=none) (h:At W base (fun k=>base≤k) b s) (hb:base'≤base):At W base' (fun k=>base'≤k) b s:=
 ⟨(h.rows.lower hb).mono (fun k hk=>nt_ hb hk),fun i hi=>Kd.Yx (Kd.V_lower (h.tree i hi) hb) (fun k hk=>⟨nt_ hb hk.1,hk.2⟩),fun k o ho=>by rw [hno] at ho;cases ho⟩
theorem ropen_bad (A0:Option Addr) (c0:Nat) (l0:List (List T)) (w:World) (hpo:∀ w',Below w.heap.size w w'→Calls Try.prog 17 #[.slice A0 l0.length c0] w' fun e w2=>e=.returned (.bool false)∧Below w'.heap.size w' w2) :
  Calls Try.prog 19 #[.slice A0 l0.length c0] w fun e w'=>e=.returned (RV nilB)∧Below w.heap.size w w':=by
 have HPO:=Xa.mk hpo;clear hpo;go_enter Try.func19,Try.ntmps19;go_upto_region 1 with (fail);have hba:=Xf (Below.refl w.heap.size w) ZB;have hbx:=Ym w ZB;generalize w.alloc ZB=w1 at *;go_upto_if 7 with (first|(go_at_call 17;refine (HPO.out w1 hba).mono ?_;rintro e w2 ⟨rfl,hb2⟩));have hz:=Xu hbx hb2;obtain ⟨z0,z1,z2,z3,z4⟩:=ZB.cells hz;have f0:=Xc hz 0;have f1:=Xc hz 1;have f2:=Xc hz 2;have f3:=Xc hz 3;have f4:=Xc hz 4;have HB:=Xa.mk (hba.trans (hb2.mono hba.size));clear hba hb2;go_wp2
 (try simp only [Exit.inBlock,Exit.then])
 have hfin:=Yb (Yb (Yb (Yb (Yb hz 0 (.slice none 0 0)) 1 (.slice none 0 0)) 2 (.slice none 0 0)) 3 (.slice none 0 0)) 4 (.slice none 0 0);refine bodyPost_ret (results_cell_row rfl _ _ w.heap.size 45 #[.slice none 0 0,.slice none 0 0,.slice none 0 0,.slice none 0 0,.slice none 0 0] (0,0) _ rfl hfin Try.underlying45 rfl kr_) rfl ?_;have hZL:w.heap.size≤w.heap.size:=nr_ _;exact ⟨rfl,Below.setCell (p:=⟨w.heap.size,4,none⟩) (Below.setCell (p:=⟨w.heap.size,3,none⟩) (Below.setCell (p:=⟨w.heap.size,2,none⟩) (Below.setCell (p:=⟨w.heap.size,1,none⟩) (Below.setCell (p:=⟨w.heap.size,0,none⟩) HB.out hZL _) hZL _) hZL _) hZL _) hZL _⟩
theorem rout_bad (w:World):Calls Try.prog 62 #[RV nilB] w fun e w'=>e=.returned (RV nilB)∧Below w.heap.size w w':=by
 have hb1:=Xf (Below.refl w.heap.size w) ZB;have hg1:=Ym w ZB;obtain ⟨WB,hWB⟩:∃ WB,WB=w.alloc ZB:=⟨_,rfl⟩
 have hsz:WB.heap.size=w.heap.size+1:=by rw [hWB];exact World.size_alloc _ _
 rw [← hWB] at hb1 hg1;have hb2:=Xf (Below.refl WB.heap.size WB) ZB;have hz:=Ym WB ZB;rw [hsz] at hz;have HB:=Xa.mk (hb1.trans (hb2.mono hb1.size));have hG:=Xu hg1 hb2;clear hb1 hb2 hg1 hsz;unfold RV nilB;simp only [];go_enter Try.func62,Try.ntmps62;go_upto_region 1 with (fail);rw [← hWB];clear hWB;generalize WB.alloc ZB=W0 at *;obtain ⟨c0,c1,c2,c3,c4⟩:=ZB.cells hG;obtain ⟨z0,z1,z2,z3,z4⟩:=ZB.cells hz;have f0:=Xc hz 0;have f1:=Xc hz 1;have f2:=Xc hz 2;have f3:=Xc hz 3;have f4:=Xc hz 4;go_wp2
 (try simp only [Exit.inBlock,Exit.then])
 have hfin:=Yb (Yb (Yb (Yb (Yb hz 0 (.slice none 0 0)) 1 (.slice none 0 0)) 2 (.slice none 0 0)) 3 (.slice none 0 0)) 4 (.slice none 0 0);refine bodyPost_ret (results_cell_row rfl _ _ (w.heap.size+1) 45 #[.slice none 0 0,.slice none 0 0,.slice none 0 0,.slice none 0 0,.slice none 0 0] (0,0) _ rfl hfin Try.underlying45 rfl kr_) rfl ?_;have hZL:w.heap.size≤w.heap.size+1:=Nat.le_succ _;exact ⟨rfl,Below.setCell (p:=⟨w.heap.size+1,4,none⟩) (Below.setCell (p:=⟨w.heap.size+1,3,none⟩) (Below.setCell (p:=⟨w.heap.size+1,2,none⟩) (Below.setCell (p:=⟨w.heap.size+1,1,none⟩) (Below.setCell (p:=⟨w.heap.size+1,0,none⟩) HB.out hZL _) hZL _) hZL _) hZL _) hZL _⟩
theorem WV.forms {W:World} {base:Nat} {ok:Nat→Prop} {b:BK} {s:WS} {K:Nat} (h:WV W base ok b s K):∃ A0 A1 A2 A3 A4 n1 n2 n3 n4 c0 c1 c2 c3 c4,b.p=.slice A0 s.n c0∧b.c=.slice A1 n1 c1∧b.m=.slice A2 n2 c2∧b.s=.slice A3 n3 c3∧b.d=.slice A4 n4 c4:=by
 rcases h with ⟨h,_⟩|⟨rfl,hn⟩
 ·obtain ⟨A0,c0,e0⟩:=Yn (h.rows.at_ 0 _ rfl);obtain ⟨A1,c1,e1⟩:=Yn (h.rows.at_ 1 _ rfl);obtain ⟨A2,c2,e2⟩:=Yn (h.rows.at_ 2 _ rfl);obtain ⟨A3,c3,e3⟩:=Yn (h.rows.at_ 3 _ rfl);obtain ⟨A4,c4,e4⟩:=Yn (h.rows.at_ 4 _ rfl);exact ⟨_,_,_,_,_,_,_,_,_,_,_,_,_,_,e0,e1,e2,e3,e4⟩
 ·exact ⟨none,none,none,none,none,0,0,0,0,0,0,0,0,0,by rw [hn];rfl,rfl,rfl,rfl,rfl⟩
theorem WV.down {W:World} {base base':Nat} {b:BK} {s:WS} {K:Nat} (hno:∀ k,Prot.low k=none) (h:WV W base (fun k=>base≤k) b s K) (hb:base'≤base):WV W base' (fun k=>base'≤k) b s K:=by
 rcases h with ⟨h,hi⟩|h
 ·exact .inl ⟨h.down hno hb,hi⟩
 ·exact .inr h
theorem WV.next {W W':World} {base:Nat} {ok:Nat→Prop} {b:BK} {s:WS} {K:Nat} (h:WV W base ok b s K) (hm:∀ k,ok k→k<W.heap.size→W'.heap[k]?=W.heap[k]?):WV W' base ok b s K:=by
 rcases h with ⟨h,hi⟩|h
 ·exact .inl ⟨h.step hm,hi⟩
 ·exact .inr h
theorem WV.mono {W:World} {base:Nat} {ok ok':Nat→Prop} {b:BK} {s:WS} {K:Nat} (h:WV W base ok b s K) (hk:∀ k,ok k→k<W.heap.size→ok' k):WV W base ok' b s K:=by
 rcases h with ⟨h,hi⟩|h
 ·exact .inl ⟨h.lt.mono (fun k hk'=>hk k hk'.1 hk'.2),hi⟩
 ·exact .inr h
theorem mopen_do (A0:Option Addr) (c0:Nat) (l0:List (List T)) (w:World) (hr0:Kd.C (Kd.slice 69 k69) w A0 l0.length l0) (hc0:l0.length≤c0) (hsh:∀ x ∈ l0,Stmts.Short 3 x) (hln:l0.length≤1048576) (hinv:Uk l0=true→Inv (Ya l0) 0∧(∀ l ∈ l0,Small 4 l)) (hno:∀ k,Prot.low k=none) :
  Calls Try.prog 50 #[.slice A0 l0.length c0] w fun e w'=>∃ b,e=.returned (RV b)∧WV w' w.heap.size (fun k=>w.heap.size≤k) b (if Uk l0=true then Ya l0 else sE) 0∧Below w.heap.size w w':=by
 have PL:=Lib.hid (fun (w1:World) (hb:Below w.heap.size w w1)=>rprog_do hsh hln A0 c0 w1 (Kd.Yr hr0 hb) hc0);have hba:=Xf (Below.refl w.heap.size w) ZB;have hbx:=Ym w ZB
 have OP:Hid (∀ w1,Below w.heap.size w w1→Calls Try.prog 19 #[.slice A0 l0.length c0] w1 fun e w'=>∃ b,e=.returned (RV b)∧Below w1.heap.size w1 w'∧Calls Try.prog 62 #[RV b] w' fun e w2=>∃ b',e=.returned (RV b')∧WV w2 w1.heap.size (fun k=>w1.heap.size≤k) b' (if Uk l0=true then Ya l0 else sE) 0∧Below w'.heap.size w' w2):=Lib.hid (fun w1 hb=>by
  by_cases hq:Uk l0=true
  ·obtain ⟨hI,hS⟩:=hinv hq
   have hl3:l0.length≤1000:=by
    have h3:=hI.n.2;rw [openS_n] at h3;omega
   have hl0:0<l0.length:=by
    have h3:=hI.n.1;rw [openS_n] at h3;exact h3
   refine (ropen_do A0 c0 l0 w w1 hb hr0 hc0 hl3 (fun l hl=>(hS l hl).1) (fun w' hb'=>by have:=PL.out w' (hb.trans (hb'.mono hb.size));rw [hq] at this;exact this) (fun k o ho=>by rw [hno] at ho;cases ho)).mono ?_;rintro e w' ⟨b,rfl,hA,hB⟩;refine ⟨b,rfl,hB,(rout_do w' _ (fun k=>k<w.heap.size∨w1.heap.size≤k) b l0 hA (fun k hk=>.inr (nt_ hB.size hk)) hl0 hl3 hS hno).mono ?_⟩;rintro e w2 ⟨b',rfl,hA2,hB2⟩;refine ⟨b',rfl,?_,hB2⟩;rw [if_pos hq];exact .inl ⟨hA2.down hno hB.size,hI⟩
  ·have hq':Uk l0=false:=by simpa using hq
   refine (ropen_bad A0 c0 l0 w1 (fun w' hb'=>by have:=PL.out w' (hb.trans (hb'.mono hb.size));rw [hq'] at this;exact this)).mono ?_;rintro e w' ⟨rfl,hB⟩;refine ⟨nilB,rfl,hB,(rout_bad w').mono ?_⟩;rintro e w2 ⟨rfl,hB2⟩;refine ⟨nilB,rfl,?_,hB2⟩;rw [if_neg hq];exact .inr ⟨rfl,rfl⟩)
 have HNO:=Xa.mk hno;have hsz:(w.alloc ZB).heap.size=w.heap.size+1:=World.size_alloc _ _;clear PL hr0 hc0 hsh hln hinv hno;generalize (if Uk l0=true then Ya l0 else sE)=sI at *;go_enter Try.func50,Try.ntmps50;go_upto_region 1 with (fail);generalize w.alloc ZB=w1 at *;have HSZ:=Xa.mk hsz;clear hsz;go_wp2_with (first|(go_at_call 19;go_must (refine (OP.out w1 hba).mono ?_;rintro e w2 ⟨b2,rfl,hb2,hOut⟩;have HO:=Xa.mk hOut;have HB2:=Xa.mk hb2;clear hOut hb2))|(go_at_call 62;go_must (refine HO.out.mono ?_;rintro e w3 ⟨b3,he,hW,hb3⟩;obtain ⟨A0,A1,A2,A3,A4,n1,n2,n3,n4,k0,k1,k2,k3,k4,e0,e1,e2,e3,e4⟩:=hW.forms;have he':RV b3=.agg #[.slice A0 sI.n k0,.slice A1 n1 k1,.slice A2 n2 k2,.slice A3 n3 k3,.slice A4 n4 k4]:=(by unfold RV;rw [e0,e1,e2,e3,e4]);rw [he'] at he;subst he;have HE:=Xa.mk he';have HW:=Xa.mk hW;have HB3:=Xa.mk hb3;have hz:=Xu (Xu hbx HB2.out) hb3;obtain ⟨z0,z1,z2,z3,z4⟩:=ZB.cells hz;have f0:=Xc hz 0;have f1:=Xc hz 1;have f2:=Xc hz 2;have f3:=Xc hz 3;have f4:=Xc hz 4;have HZ:=Xa.mk hz;clear hz hW hb3 e0 e1 e2 e3 e4 he')))
 (try simp only [Exit.inBlock,Exit.then])
 have hfin:=Yb (Yb (Yb (Yb (Yb HZ.out 0 (.slice A0 sI.n k0)) 1 (.slice A1 n1 k1)) 2 (.slice A2 n2 k2)) 3 (.slice A3 n3 k3)) 4 (.slice A4 n4 k4);refine bodyPost_ret (results_cell_row rfl _ _ w.heap.size 45 #[.slice A0 sI.n k0,.slice A1 n1 k1,.slice A2 n2 k2,.slice A3 n3 k3,.slice A4 n4 k4] (0,0) _ rfl hfin Try.underlying45 rfl kr_) rfl ?_;have hZL:w.heap.size≤w.heap.size:=nr_ _;have hs:=HSZ.out;refine ⟨b3,by rw [HE.out],WV.down HNO.out (HW.out.next (fun k hk _=>?_)) om_,?_⟩
 ·have hk':k≠w.heap.size:=om_
  rw [Below.heap_setCell _ _ _ k hk',Below.heap_setCell _ _ _ k hk',Below.heap_setCell _ _ _ k hk',Below.heap_setCell _ _ _ k hk',Below.heap_setCell _ _ _ k hk']
 ·exact Below.setCell (p:=⟨w.heap.size,4,none⟩) (Below.setCell (p:=⟨w.heap.size,3,none⟩) (Below.setCell (p:=⟨w.heap.size,2,none⟩) (Below.setCell (p:=⟨w.heap.size,1,none⟩) (Below.setCell (p:=⟨w.heap.size,0,none⟩) (hba.trans ((HB2.out.trans (HB3.out.mono HB2.out.size)).mono hba.size)) hZL _) hZL _) hZL _) hZL _) hZL _
end Go.Proofs.Ytlhogkfmdnpmkaa.Mean
