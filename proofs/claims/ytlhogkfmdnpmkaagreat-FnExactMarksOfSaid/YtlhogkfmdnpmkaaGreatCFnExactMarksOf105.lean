import Derived.Test.YtlhogkfmdnpmkaaGreatCFnExactMarksOf102
import Derived.Test.YtlhogkfmdnpmkaaGreatCFnExactMarksOf95
import Derived.Test.YtlhogkfmdnpmkaaGreatCFnExactMarksOf99
import Derived.Test.YtlhogkfmdnpmkaaGreatCFnExactMarksOf101
set_option linter.unusedSectionVars false
set_option linter.unusedVariables false
set_option linter.unusedSimpArgs false
set_option maxRecDepth 100000
namespace Go.Proofs.YtlhogkfmdnpmkaaGreat.Mean
open RowKit GMarks YtlhogkfmdnpmkaaGreatW.PrintWords
theorem open7_is (n:Nat) (h0:1≤n) (h3:n≤3):Ya.f 12 (n:Int)=some (List.replicate n (List.replicate n 0),List.replicate 2 (List.replicate n 0),[]):=by
 rcases (show n=1∨n=2∨n=3 by omega) with rfl|rfl|rfl <;> first|kernel_rfl|(simp [Ya.f,Ya.l0,Ya.l1,wrap64];done)|(simp [Ya.f,Ya.l0,Ya.l1,wrap64];rfl)
open YtlhogkfmdnpmkaaGreatW.PrintLast YtlhogkfmdnpmkaaGreatW.PrintMore
theorem rows0 {W:World} {base n m:Nat} {ok:Nat→Prop} {v:Value} (h:(Kd.slice 3 (Kd.int .i64)).R 23 W base ok v (List.replicate n (List.replicate m 0))) :
  ∃ pc:Nat→Value,W.ownsRow base 23 1 v n ((List.range n).map pc)∧∀ i,i<n→W.ownsRow base 3 1 (pc i) m (nums .i64 (Yo m (fun _=>0))):=by
 obtain ⟨_,inner,ho,hr⟩:=h;rw [List.length_replicate] at ho
 have hl:inner.length=n:=by have h1:inner.length=n * 1:=ho.1;omega
 have hin:inner=(List.range n).map (fun i=>inner.getD i undef):=by
  apply List.ext_getElem
  ·simp [hl]
  ·intro k h1 h2;simp [List.getD_eq_getElem?_getD,h1]
 refine ⟨fun i=>inner.getD i undef,hin ▸ ho,fun i hi=>?_⟩;obtain ⟨u,hu,hR⟩:=hr.2 i (List.replicate m 0) (by rw [List.getElem?_replicate,if_pos hi]);have hu':(inner.drop (i * 1)).take 1=[u]:=hu
 have hg:inner.getD i undef=u:=by
  have h1:=congrArg (fun l=>l[0]?) hu';simp only [List.getElem?_take,List.getElem?_drop] at h1;rw [List.getD_eq_getElem?_getD];simp at h1;rw [h1];rfl
 show W.ownsRow base 3 1 (inner.getD i undef) m _
 rw [hg]
 have:=Kd.own_of_R hR
 rw [List.length_replicate] at this
 have e:Yo m (fun _=>0)=List.replicate m 0:=by
  apply List.ext_getElem
  ·simp [Yo]
  ·intro k h1 h2;simp [Yo]
 rw [e];exact this
variable [Prot]
theorem SC.lower {W:World} {e0 e1 n:Nat} {pv rv mv:Value} {pc rc:Nat→Value} {c:CK} {xs:List El} {V:Nat→Prop} (h:SC W e1 n pv rv mv pc rc c xs V) (hb:e0≤e1):SC W e0 n pv rv mv pc rc c xs V:=
 ⟨Zi h.p hb,Zi h.r hb,Zi h.m hb,fun i hi=>Zi (h.pr i hi) hb,fun i hi=>Zi (h.rr i hi) hb,⟨fun x hx=>Zi (h.cl.row x hx) hb,h.cl.out,h.cl.apart⟩,h.pk,h.rk,h.ab,h.in_⟩
theorem ne_own {u v:Value} (h:u.ownBlock=none∨u.ownBlock≠v.ownBlock) {k:Nat} (hk:u.ownBlock=some k):v.ownBlock≠some k:=fun e=>by
 rcases h with h|h
 ·rw [h] at hk;cases hk
 ·exact h (hk.trans e.symm)
theorem open7_do (w:World) (n:Nat) (h0:1≤n) (h3:n≤3) :
  Calls Tryz.prog 32 #[.int .i64 (n:Int)] w fun e w'=>∃ (pv rv mv:Value) (pc rc:Nat→Value),e=.returned (.agg #[pv,rv,mv])∧SC w' w.heap.size n pv rv mv pc rc (fun _ _=>0) [] (fun _=>True)∧Below w.heap.size w w':=by
 refine (Ya.calls 12 (n:Int) _ _ _ w (open7_is n h0 h3)).mono ?_;rintro e w' ⟨pv,rv,mv,rfl,hp,hr,hm,hb⟩;obtain ⟨pc,hpo,hpi⟩:=rows0 (Kd.S_R hp);obtain ⟨rc,hro,hri⟩:=rows0 (Kd.S_R hr);have hpr:=(Kd.S_R hp).1;obtain ⟨_,inner,hmo,_⟩:=Kd.S_R hm;have hi0:inner=[]:=List.eq_nil_of_length_eq_zero (by have:=hmo.1;simpa using this);subst hi0;have hmo:w'.ownsRow w.heap.size 45 5 mv 0 []:=hmo
 have no:∀ (v:Value) (m:Nat) (xs:List Value),w'.ownsRow w.heap.size 3 1 v m xs→∀ k,v.ownBlock=some k→¬ (pv.ownBlock=some k∨rv.ownBlock=some k∨mv.ownBlock=some k):=fun v m xs hv k hk e=>by
  rcases e with e|e|e
  ·exact ne_own (own_type_ne hv hpo de_) hk e
  ·exact ne_own (own_type_ne hv hro de_) hk e
  ·exact ne_own (own_type_ne hv hmo de_) hk e
 exact ⟨pv,rv,mv,pc,rc,rfl,⟨hpo,hro,hmo,hpi,hri,⟨fun x hx=>(by cases hx),fun x hx=>(by cases hx),List.Pairwise.nil⟩,fun i hi=>no _ _ _ (hpi i hi),fun i hi=>no _ _ _ (hri i hi),fun k=>⟨fun e=>⟨fun e'=>hpr k e e'.symm,ne_own (own_type_ne hpo hmo de_) e⟩,fun e=>ne_own (own_type_ne hro hmo de_) e⟩,fun _ _=>trivial⟩,hb⟩
open YtlhogkfmdnpmkaaGreat.Pure
theorem goM_inv {n:Nat} {m:MS} {j:Nat} (h:Inv m.s j) (who:Int):Inv (goM n m who).s (j+1):=by
 unfold goM;by_cases hc:code m.s who=0
 ·obtain ⟨i,rfl,hi,hcn⟩:=code_zero hc;rw [if_pos hc];exact h.step hi hcn
 ·rw [if_neg hc];exact h.more (Nat.le_succ j)
set_option maxHeartbeats 16000000 in
theorem rmarks_do (A0:Option Addr) (c0:Nat) (l0:List (List T)) (A1:Option Addr) (c1:Nat) (l1:List Int) (w:World) (hr0:Kd.C (Kd.slice 87 k87) w A0 l0.length l0) (hc0:l0.length≤c0) (hr1:Kd.C (Kd.int .i64) w A1 l1.length l1) (hc1:l1.length≤c1)
  (hsh:∀ x ∈ l0,Stmts.Short 3 x) (hln:l0.length≤1048576) (hinv:progOk l0=true→Inv (Zx l0) 0∧(∀ l ∈ l0,Small 4 l)) (hp:∀ k o,w.heap[k]?=some o→Prot.low k=some o) (hlow:∀ k o,Prot.low k=some o→w.heap[k]?=some o) :
  Calls Tryz.prog 9 #[.slice A0 l0.length c0,.slice A1 l1.length c1] w fun e w'=>∃ v:Value,e=.returned v∧MarksAt w.heap.size w (marks l0 l1) v w':=by
 have PL:=Lib.hid (fun (w1:World) (hb:Below w.heap.size w w1)=>rprog_do hsh hln A0 c0 w1 (Kd.Xy hr0 hb) hc0);by_cases hq:(progOk l0 && decide (l1.length≤200))=true
 ·have eW:marks l0 l1=(l1.foldl (goM l0.length) ⟨Zx l0,fun _ _=>0,0,[]⟩).out:=if_pos hq;rw [eW];rw [Bool.and_eq_true] at hq;obtain ⟨hI,hS⟩:=hinv hq.1;have aD:l1.length≤200:=od_ hq.2
  have hl3:1≤l0.length∧l0.length≤3:=by
   have h3:=hI.n;rw [openS_n] at h3;omega
  rw [hq.1] at PL;have OP:=Lib.hid (fun (w1:World) (hb:Below w.heap.size w w1)=>ropen_do A0 c0 l0 w w1 hb hr0 hc0 om_ (fun l hl=>(hS l hl).1) (fun w' hb'=>PL.out w' (hb.trans (hb'.mono hb.size))) (fun k o ho=>⟨(Array.getElem?_eq_some_iff.1 (hlow k o ho)).1,hlow k o ho⟩));have OC:=Lib.hid (fun (w1:World)=>open7_do w1 l0.length hl3.1 hl3.2);have bA:Xa (0<(Zx l0).n):=⟨hI.n.1⟩;have HR1:=Xa.mk hr1;have HI:=Xa.mk hI;have HL2:=Xa.mk aD;have aX:decide ((l1.length:Int) > 200)=false:=df_ om_;have z3:=Xa.mk hl3;clear hinv hr0 hr1 hI hS eW hq hsh aD hl3;go_enter Tryz.func9,Tryz.ntmps9;generalize he:w.heap.size=e0 at *;go_upto_region 4 with (first|(go_at_call 29;refine (PL.out w (he ▸ Below.refl _ _)).mono ?_;rintro e w1 ⟨rfl,hb1⟩;have aB:=he ▸ hb1)|(go_at_call 31;refine (OP.out w1 aB).mono ?_;rintro e w2 ⟨b,rfl,hA,hb2⟩;obtain ⟨P,C,M,S,Ad,q0,q1,q2,q3,q4,HF⟩:=hA.forms bA.out;rw [HF.rv]));have hle:e0≤w1.heap.size:=he ▸ aB.size;have hA':At w2 e0 (fun k=>k<e0∨w1.heap.size≤k) b (Zx l0):=⟨hA.rows.lower hle,fun i hi=>hA.tree i hi,fun k o ho=>⟨(hA.low k o ho).1,he ▸ (Array.getElem?_eq_some_iff.1 (hlow k o ho)).1,(hA.low k o ho).2.2⟩⟩;have hbA:=Xf (Below.refl w2.heap.size w2) (RB b);have hs2:e0≤w2.heap.size:=nt_ hle hb2.size;have hA2:=hA'.lt.below hbA;have hwb:Wb (w2.alloc (RB b)) w2.heap.size b:=Yc w2 (RB b);have aQ:=(aB.trans (hb2.mono hle)).trans (hbA.mono hs2);have HA2:=Xa.mk hA2;have aG:=Xa.mk hwb;have HB2:=Xa.mk aQ;have HS2:=Xa.mk hs2;rw [← HF.rb];clear hA2 hwb aQ hA' hA hle hbA hb2 aB hb1 PL OP HF hs2;generalize hg2:w2.alloc (RB b)=wL at *;generalize w2.heap.size=gw at *;go_upto_region 5 with (first|(go_at_call 32;refine (OC.out wL).mono ?_;rintro e w3 ⟨pv,rv,mv,pc,rc,rfl,hSC,hb3⟩;obtain ⟨Ap,cp,ep⟩:=Yl hSC.p;obtain ⟨Ar,cr,er⟩:=Yl hSC.r;obtain ⟨Am,cm,em⟩:=Yl hSC.m;subst ep er em));have hgl:=Xq aG.out;have hle3:=hb3.size;have hbC:=Xf (Below.refl w3.heap.size w3) (.cells #[.slice Ap l0.length cp,.slice Ar 2 cr,.slice Am 0 cm] 59);have aC:=hb3.trans (hbC.mono hb3.size);have aP:=(hSC.bound.below hbC).lower (e0:=e0) (nt_ HS2.out (Nat.le_of_lt hgl))
  have hRM:RM e0 gw w3.heap.size l0.length w (w3.alloc (.cells #[.slice Ap l0.length cp,.slice Ar 2 cr,.slice Am 0 cm] 59)) b (Zx l0) (.slice Ap l0.length cp) (.slice Ar 2 cr) (.slice Am 0 cm) pc rc (fun _ _=>0) [] (fun k=>wL.heap.size≤k∧k<w3.heap.size):=
   ⟨(HA2.out.below aC).mono (fun k hk=>⟨by have:=hk.2;omega,by have:=hk.2;omega,fun x=>by have:=hk.2;have:=x.1;omega⟩),Xm aG.out aC,Yc w3 _,aP.more (fun k hk=>hk.2),fun k hk=>⟨nt_ HS2.out (by have:=hk.1;omega),by rw [World.size_alloc];have:=hk.2;omega,by have:=hk.1;omega,by have:=hk.2;omega⟩,om_,HB2.out.trans (aC.mono (nt_ HS2.out (Nat.le_of_lt hgl))),⟨HS2.out,by have:=HS2.out;omega⟩⟩
  have HRM:=Xa.mk hRM;clear hRM aP aC hbC hle3 hgl hSC hb3 HA2 aG HB2 HS2 OC hg2;generalize w3.alloc (.cells #[.slice Ap l0.length cp,.slice Ar 2 cr,.slice Am 0 cm] 59)=wM at *;generalize w3.heap.size=gc at *;obtain ⟨V0,bC⟩:∃ V0:Nat→Prop,V0=fun k=>wL.heap.size≤k∧k<gc:=⟨_,rfl⟩;rw [← bC] at HRM;clear bC;go_wp2
  go_loopg [7] l1.length (fun kq v7 w'=>∃ (j:Nat) (b:BK) (m:MS) (pv rv mv:Value) (pc rc:Nat→Value) (xs:List El) (V:Nat→Prop),v7=.int .i64 (j:Int)∧Xa (kq+j=l1.length)∧Xa (m=(l1.take j).foldl (goM l0.length) ⟨Zx l0,fun _ _=>0,0,[]⟩)∧Xa (xs.map Prod.fst=m.out)∧Xa (Inv m.s j)∧Xa (CB m.c j)∧Xa (m.at_=j)∧Xa (m.s.n=l0.length)∧Xa (xs.length≤j)∧Xa (RM e0 gw gc l0.length w w' b m.s pv rv mv pc rc m.c xs V))
  case atStart=>exact ⟨0,b,⟨Zx l0,fun _ _=>0,0,[]⟩,_,_,_,pc,rc,[],V0,rfl,⟨sm_⟩,⟨rfl⟩,⟨rfl⟩,HI,⟨fun _ _=>⟨Int.le_refl _,Int.le_refl _⟩⟩,⟨rfl⟩,⟨openS_n l0⟩,⟨nr_ _⟩,HRM⟩
  case round=>
   clear HRM HI bA;obtain ⟨j,b,m,pv,rv,mv,pc,rc,xs,V,rfl,HK,HM,HXS,HI,HCB,HAT,HN,HLE,HRM⟩:=hrel;obtain ⟨Ap,cp,ep⟩:=Yl HRM.out.sc.p;obtain ⟨Ar,cr,er⟩:=Yl HRM.out.sc.r;obtain ⟨Am,cm,em⟩:=Yl HRM.out.sc.m;subst ep er em;by_cases hj:j<l1.length
   ·cases gk with
    |zero=>exact absurd HK.out om_
    |succ k1=>
     have bF:decide ((j:Int)<(l1.length:Int))=true:=dt_ om_
     have p0:0≤(j:Int):=om_
     have bL:(j:Int)<(l1.length:Int):=om_
     obtain ⟨ad,eA,hx⟩:=Kd.at_int HR1.out (j:Int) p0 bL;cases eA
     have hrd:rd l1 (j:Int)=l1[j]:=by unfold rd;simp [List.getD_eq_getElem?_getD,hj]
     have ej:((j:Int)).toNat=j:=rfl;rw [hrd,ej] at hx
     have hwj:IntKind.i64.wrap ((j:Int)+1)=(j:Int)+1:=by rw [IntKind.wrap_i64];have:=HL2.out;omega
     have HJL:Xa (j<200):=⟨by have:=HL2.out;omega⟩;have HNX:Xa (goM l0.length m l1[j]=(l1.take (j+1)).foldl (goM l0.length) ⟨Zx l0,fun _ _=>0,0,[]⟩):=⟨by rw [List.take_succ_eq_append_getElem hj,List.foldl_append,← HM.out];rfl⟩;have HI2:=Xa.mk (goM_inv (n:=l0.length) HI.out l1[j]);generalize l1[j]=who at *;have HPK:Xa (∀ W,Below e0 w W→W.cell? (ad.add j)=some (.int .i64 who)):=⟨fun W hb=>(hb.cell (he ▸ World.block_lt_of_cell? w _ hx)).trans hx⟩;obtain ⟨P,C,M,S,Ad,q0,q1,q2,q3,q4,HF⟩:=HRM.out.at_.forms HI.out.n.1;have HWB:Xa (∀ W,RM e0 gw gc l0.length w W b m.s (.slice Ap l0.length cp) (.slice Ar 2 cr) (.slice Am xs.length cm) pc rc m.c xs V→W.heap[gw]?=some (.cells #[.slice (some ⟨P,0,none⟩) m.s.n q0,.slice (some ⟨C,0,none⟩) 3 q1,.slice (some ⟨M,0,none⟩) 2 q2,.slice (some ⟨S,0,none⟩) 2 q3,.slice Ad m.s.said.length q4] 56 (0,0))∧W.heap[gc]?=some (.cells #[.slice Ap l0.length cp,.slice Ar 2 cr,.slice Am xs.length cm] 59 (0,0))∧W.cell? (ad.add j)=some (.int .i64 who)):=⟨fun W h=>⟨by have h1:=h.wb;unfold Wb at h1;rw [HF.p,HF.c,HF.m,HF.g,HF.d] at h1;exact h1,h.cb,HPK.out W h.below⟩⟩;have HCD:=Lib.hid (fun (W:World) (h:RM e0 gw gc l0.length w W b m.s (.slice Ap l0.length cp) (.slice Ar 2 cr) (.slice Am xs.length cm) pc rc m.c xs V)=>HF.rv ▸ rcode_do W e0 _ b m.s j h.at_ HI.out who);clear hrd ej HM hx
     try go_wp2
     have aM:=Xa.mk HRM.out.drew;have HSW:=Xa.mk (HWB.out _ aM.out);refine Ul (n:=7) (S:=fun w'=>w'.heap[gw]?=some (.cells #[.slice (some ⟨P,0,none⟩) m.s.n q0,.slice (some ⟨C,0,none⟩) 3 q1,.slice (some ⟨M,0,none⟩) 2 q2,.slice (some ⟨S,0,none⟩) 2 q3,.slice Ad m.s.said.length q4] 56 (0,0))∧w'.heap[gc]?=some (.cells #[.slice Ap l0.length cp,.slice Ar 2 cr,.slice Am xs.length cm] 59 (0,0))∧w'.cell? (ad.add j)=some (.int .i64 who)) (ds:=[]) #[false,false,false,false,false,false,false] kr_ rfl rl1_ HSW.out (fun hHeld=>?_);generalize wr.drew=w3 at aM HSW hHeld ⊢;refine pu_' 1 (some 29) ?_;refine pu_' 2 (some 30) ?_;refine pu_' 3 (some 31) ?_;refine tk_' 0 (some 28) rfl hHeld (by rintro w' s0;obtain ⟨c0,c1,c2,c3,c4⟩:=cells5 s0.1;clear s0;go_simp;with_reducible rfl) ?_;refine tk_' 4 (some 32) rfl hHeld (by rintro w' s0;have c0:=s0.2.2;clear s0;go_simp;with_reducible rfl) ?_;refine re_' 5 (some 33) fun K hK=>?_;refine Vd Tryz.func33 kr_ rfl #[.agg #[.slice (some ⟨P,0,none⟩) m.s.n q0,.slice (some ⟨C,0,none⟩) 3 q1,.slice (some ⟨M,0,none⟩) 2 q2,.slice (some ⟨S,0,none⟩) 2 q3,.slice Ad m.s.said.length q4],.int .i64 who] rl1_ rfl rfl ga_ ?_;refine (HCD.out w3 aM.out).mono ?_;rintro e w4 ⟨rfl,hb4⟩;refine ⟨_,rfl,?_⟩;have HR4:=Xa.mk (aM.out.next hb4);clear hb4;refine hK.out _ _ (HWB.out _ HR4.out) (fun hHeld=>?_);clear hK K hHeld;refine no_ ?_;refine pu_' 6 (some 34) ?_;refine Uz kr_ ?_;by_cases hcode:code m.s who=0
     ·obtain ⟨i,rfl,hi,hcn⟩:=code_zero hcode
      have z1:(code m.s (i:Int) == 0)=true:=by rw [hcode];rfl
      rw [goM_on hcode] at HNX HI2
      have aS:j≤20000:=by have:=HJL.out;omega
      have HXL:xs.length≤1000:=by have:=HLE.out;have:=HJL.out;omega
      have aZ:j≤1000:=by have:=HJL.out;omega
      have HMK:=Lib.hid (fun (W:World) (h:RM e0 gw gc l0.length w W b m.s (.slice Ap l0.length cp) (.slice Ar 2 cr) (.slice Am xs.length cm) pc rc m.c xs V)=>HF.rv ▸ rmark_do W e0 _ b m.s j l0.length h.at_ HI.out HN.out i hi hcn _ _ _ pc rc m.c xs V h.sc (fun k hk=>hk.2.2) (fun k hk=>(h.vl k hk).2.1) HCB.out aZ j HXL h.size);have HIN:=Xa.mk hi;have HCN:=Xa.mk hcn;clear hi hcn HXL aZ hcode;go_upto_region 9 with (fail);have aN:=Xa.mk HR4.out.drew;have HSW:=Xa.mk (HWB.out _ aN.out);refine Ul (n:=9) (S:=fun w'=>w'.heap[gw]?=some (.cells #[.slice (some ⟨P,0,none⟩) m.s.n q0,.slice (some ⟨C,0,none⟩) 3 q1,.slice (some ⟨M,0,none⟩) 2 q2,.slice (some ⟨S,0,none⟩) 2 q3,.slice Ad m.s.said.length q4] 56 (0,0))∧w'.heap[gc]?=some (.cells #[.slice Ap l0.length cp,.slice Ar 2 cr,.slice Am xs.length cm] 59 (0,0))∧w'.cell? (ad.add j)=some (.int .i64 (i:Int))) (ds:=[8]) #[false,false,false,false,false,false,false,false,false] kr_ rfl rl1_ HSW.out (fun hHeld=>?_);generalize w4.drew=w5 at aN HSW hHeld ⊢;refine pu_' 2 (some 37) ?_;refine pu_' 3 (some 38) ?_;refine pu_' 4 (some 39) ?_;refine pu_' 6 (some 41) ?_;refine tk_' 0 (some 35) rfl hHeld (by rintro w' s0;obtain ⟨c0,c1,c2⟩:=cells3 s0.2.1;clear s0;go_simp;with_reducible rfl) ?_;refine tk_' 1 (some 36) rfl hHeld (by rintro w' s0;obtain ⟨c0,c1,c2,c3,c4⟩:=cells5 s0.1;clear s0;go_simp;with_reducible rfl) ?_;refine tk_' 5 (some 40) rfl hHeld (by rintro w' s0;have c0:=s0.2.2;clear s0;go_simp;with_reducible rfl) ?_;refine re_' 7 (some 42) fun K hK=>?_;refine Vd Tryz.func34 kr_ rfl #[.agg #[.slice Ap l0.length cp,.slice Ar 2 cr,.slice Am xs.length cm],.agg #[.slice (some ⟨P,0,none⟩) m.s.n q0,.slice (some ⟨C,0,none⟩) 3 q1,.slice (some ⟨M,0,none⟩) 2 q2,.slice (some ⟨S,0,none⟩) 2 q3,.slice Ad m.s.said.length q4],.int .i64 (i:Int),.int .i64 (j:Int)] rl1_ rfl rfl ga_ ?_;refine (HMK.out w5 aN.out).mono ?_;rintro e w6 ⟨pv',rv',mv',pc',rc',xs',rfl,aO,hx6,bB⟩;refine ⟨_,rfl,?_⟩;have hmk:=aN.out.mark aO bB;obtain ⟨aI,cp',bI⟩:=Yl aO.p;obtain ⟨aJ,aL,bJ⟩:=Yl aO.r;obtain ⟨aH,aK,bH⟩:=Yl aO.m;subst bI bJ bH;have HEP:Xa (put3 w6 gc (.slice aI l0.length cp') (.slice aJ 2 aL) (.slice aH xs'.length aK)=((w6.setCell ⟨gc,0,none⟩ (.slice aI l0.length cp')).setCell ⟨gc,1,none⟩ (.slice aJ 2 aL)).setCell ⟨gc,2,none⟩ (.slice aH xs'.length aK)):=⟨rfl⟩;have HCE:=Xa.mk hmk.1;have HSN:Xa (_∧_∧_):=⟨by have h1:=hmk.2.1;unfold Wb at h1;rw [HF.p,HF.c,HF.m,HF.g,HF.d] at h1;exact h1,hmk.1,HPK.out _ hmk.2.2.1⟩;have HRN:=Xa.mk hmk.2.2.2;have HXN:=Xa.mk hx6;clear hmk aO hx6 bB;refine hK.out _ _ HSN.out (fun hHeld=>?_);clear hK K hHeld;refine no_ ?_;refine rl_' 8 none fun K hK=>?_;obtain ⟨c0',c1',c2'⟩:=cells3 HCE.out;have aT:=Xc HCE.out 0;have aU:=Xc HCE.out 1;have f2':=Xc HCE.out 2;refine skip_ (w1:=put3 w6 gc (.slice aI l0.length cp') (.slice aJ 2 aL) (.slice aH xs'.length aK)) rfl rfl ?_ ?_
      ·rw [HEP.out];go_simp
      refine hK.out _ _ ?_;clear hK K c0' c1' c2' aT aU f2';refine Uz kr_ ?_;generalize put3 w6 gc (.slice aI l0.length cp') (.slice aJ 2 aL) (.slice aH xs'.length aK)=w7 at HRN ⊢;obtain ⟨V',hV'⟩:∃ V':Nat→Prop,V'=fun k=>V k∨w5.heap.size≤k∧k<w6.heap.size:=⟨_,rfl⟩;rw [← hV'] at HRN;clear hV' HEP HCE HSN aN HR4 aM HRM HSW HWB HCD HMK;have bE:Xa (xs'.map Prod.fst=m.out ++ marked l0.length m.s (ahead m.s m.c i) i m.at_):=⟨by rw [HXN.out,HXS.out,HAT.out]⟩;have HL2:Xa (xs'.length≤j+1):=⟨by have h1:=congrArg List.length HXN.out;have h2:=marked_len l0.length m.s (ahead m.s m.c i) i j;have h3:=HLE.out;rw [List.length_append,List.length_map,List.length_map] at h1;omega⟩;have aR:=Xa.mk (HCB.out.ahead m.s i);clear HXN HXS HLE HCB;go_upto_region 10 with (fail);have aA:=Xa.mk HRN.out.drew;have HSW:Xa (_∧_∧_):=⟨by have h1:=aA.out.wb;unfold Wb at h1;rw [HF.p,HF.c,HF.m,HF.g,HF.d] at h1;exact h1,aA.out.cb,HPK.out _ aA.out.below⟩;refine Ul (n:=7) (S:=fun w'=>w'.heap[gw]?=some (.cells #[.slice (some ⟨P,0,none⟩) m.s.n q0,.slice (some ⟨C,0,none⟩) 3 q1,.slice (some ⟨M,0,none⟩) 2 q2,.slice (some ⟨S,0,none⟩) 2 q3,.slice Ad m.s.said.length q4] 56 (0,0))∧w'.heap[gc]?=some (.cells #[.slice aI l0.length cp',.slice aJ 2 aL,.slice aH xs'.length aK] 59 (0,0))∧w'.cell? (ad.add j)=some (.int .i64 (i:Int))) (ds:=[6]) #[false,false,false,false,false,false,false] kr_ rfl rl1_ HSW.out (fun hHeld=>?_);generalize w7.drew=w8 at aA HSW hHeld ⊢;refine pu_' 1 (some 44) ?_;refine pu_' 2 (some 45) ?_;refine pu_' 3 (some 46) ?_;refine tk_' 0 (some 43) rfl hHeld (by rintro w' s0;obtain ⟨c0,c1,c2,c3,c4⟩:=cells5 s0.1;clear s0;go_simp;with_reducible rfl) ?_;refine tk_' 4 (some 47) rfl hHeld (by rintro w' s0;have c0:=s0.2.2;clear s0;go_simp;with_reducible rfl) ?_;refine re_' 5 (some 48) fun K hK=>?_;refine Vd Tryz.func35 kr_ rfl #[.agg #[.slice (some ⟨P,0,none⟩) m.s.n q0,.slice (some ⟨C,0,none⟩) 3 q1,.slice (some ⟨M,0,none⟩) 2 q2,.slice (some ⟨S,0,none⟩) 2 q3,.slice Ad m.s.said.length q4],.int .i64 (i:Int)] rl1_ rfl rfl ga_ ?_;refine (HF.rv ▸ rstep_do w8 e0 _ b m.s i j aA.out.at_ aA.out.up HIN.out HI.out aS HCN.out).mono ?_;rintro e w9 ⟨b',rfl,aV,aW⟩;refine ⟨_,rfl,?_⟩;obtain ⟨P',C',M',S',bD,r0,r1,r2,r3,r4,aF⟩:=aV.forms HI2.out.n.1;have hst:=aA.out.step he hp aV aW
      have eput:put5 w9 gw b'=((((w9.setCell ⟨gw,0,none⟩ (.slice (some ⟨P',0,none⟩) (step m.s i).n r0)).setCell ⟨gw,1,none⟩ (.slice (some ⟨C',0,none⟩) 3 r1)).setCell ⟨gw,2,none⟩ (.slice (some ⟨M',0,none⟩) 2 r2)).setCell ⟨gw,3,none⟩ (.slice (some ⟨S',0,none⟩) 2 r3)).setCell ⟨gw,4,none⟩ (.slice bD (step m.s i).said.length r4):=by unfold put5;rw [aF.p,aF.c,aF.m,aF.g,aF.d]
      have hcell:w9.heap[gw]?=some (.cells #[.slice (some ⟨P,0,none⟩) m.s.n q0,.slice (some ⟨C,0,none⟩) 3 q1,.slice (some ⟨M,0,none⟩) 2 q2,.slice (some ⟨S,0,none⟩) 2 q3,.slice Ad m.s.said.length q4] 56 (0,0)):=by have h1:=hst.1;unfold Wb at h1;rw [HF.p,HF.c,HF.m,HF.g,HF.d] at h1;exact h1
      have hccel:w9.heap[gc]?=some (.cells #[.slice aI l0.length cp',.slice aJ 2 aL,.slice aH xs'.length aK] 59 (0,0)):=(aW.block gc (Xq aA.out.cb) (fun x=>x.2.1 rfl)).trans aA.out.cb;rw [aF.rv];have HEP:=Xa.mk eput;have HCE:=Xa.mk hcell;have HCC:=Xa.mk hccel;have HRZ:=Xa.mk hst.2.2;have aY:=Xa.mk hst.2.1;clear eput hst aV aW aF hcell hccel;refine hK.out _ _ ⟨HCE.out,HCC.out,HPK.out _ aY.out⟩ (fun hHeld=>?_);clear hK K hHeld;refine no_ ?_;refine rl_' 6 none fun K hK=>?_;obtain ⟨c0',c1',c2',c3',bG⟩:=cells5 HCE.out;obtain ⟨aT,aU,f2',f3',bK⟩:=frozen5 HCE.out;refine skip_ (w1:=put5 w9 gw b') rfl rfl ?_ ?_
      ·rw [HEP.out];go_simp
      refine hK.out _ _ ?_;clear hK K c0' c1' c2' c3' bG aT aU f2' f3' bK;refine Uz kr_ ?_;generalize put5 w9 gw b'=w10 at HRZ ⊢;clear HEP HCE HCC aY;go_wp2;go_roundg k1
      case measure=>omega
      case rel=>exact ⟨j+1,b',⟨step m.s i,ahead m.s m.c i,m.at_+1,m.out ++ marked l0.length m.s (ahead m.s m.c i) i m.at_⟩,_,_,_,pc',rc',xs',V',rfl,⟨by have:=HK.out;omega⟩,HNX,bE,HI2,aR,⟨by show m.at_+1=j+1;rw [HAT.out]⟩,⟨(step_n _ _).trans HN.out⟩,HL2,HRZ⟩
     ·rw [goM_off hcode] at HNX HI2
      have z2:(code m.s who == 0)=false:=by simpa using hcode
      clear hcode;go_wp2;go_roundg k1
      case measure=>omega
      case rel=>exact ⟨j+1,b,⟨m.s,m.c,m.at_+1,m.out⟩,_,_,_,pc,rc,xs,V,rfl,⟨by have:=HK.out;omega⟩,HNX,HXS,HI2,⟨HCB.out.more (Nat.le_succ j)⟩,⟨by show m.at_+1=j+1;rw [HAT.out]⟩,HN,⟨by have:=HLE.out;omega⟩,HR4⟩
   ·have hjl:j=l1.length:=by have:=HK.out;omega
    have bF:decide ((j:Int)<(l1.length:Int))=false:=df_ om_;have EP:Xa ((l1.foldl (goM l0.length) ⟨Zx l0,fun _ _=>0,0,[]⟩).out=m.out):=⟨by rw [HM.out,hjl,List.take_length]⟩;obtain ⟨d0,d1,d2⟩:=cells3 HRM.out.cb;clear hjl HI HM;go_wp2;go_ret
    subst he;refine ⟨_,rfl,?_⟩;rw [EP.out];exact ⟨Am,cm,xs,_,rfl,HXS.out,HRM.out.sc.m,HRM.out.sc.cl,fun k hk=>.inr (.inr hk),HRM.out.below⟩
 ·have eW:marks l0 l1=[]:=if_neg hq;rw [eW];by_cases hpk:progOk l0=true
  ·rw [hpk] at PL;have h200:¬ l1.length≤200:=fun h=>hq (by rw [hpk,dt_ h];rfl);have aX:decide ((l1.length:Int) > 200)=true:=dt_ om_;have z201:decide (l1.length > 200)=true:=dt_ om_;clear hinv hr0 hr1 hq eW hsh hpk;go_enter Tryz.func9,Tryz.ntmps9;go_wp2_with (first|(go_at_call 29;refine (PL.out w (Below.refl _ _)).mono ?_;rintro e w1 ⟨rfl,hb1⟩));go_ret
   exact ⟨_,rfl,some ⟨w1.heap.size,0,none⟩,0,[],fun _=>True,rfl,rfl,own_blk (Yc w1 _) hb1.size de_ rfl rfl rfl,⟨fun x hx=>(by cases hx),fun x hx=>(by cases hx),List.Pairwise.nil⟩,fun k hk=>trivial,hb1.trans ((Xf (Below.refl _ _) _).mono hb1.size)⟩
  ·have hpk':progOk l0=false:=by simpa using hpk
   rw [hpk'] at PL;clear hinv hr0 hr1 hq eW hsh hpk hpk';go_enter Tryz.func9,Tryz.ntmps9;go_wp2_with (first|(go_at_call 29;refine (PL.out w (Below.refl _ _)).mono ?_;rintro e w1 ⟨rfl,hb1⟩));go_ret
   exact ⟨_,rfl,some ⟨w1.heap.size,0,none⟩,0,[],fun _=>True,rfl,rfl,own_blk (Yc w1 _) hb1.size de_ rfl rfl rfl,⟨fun x hx=>(by cases hx),fun x hx=>(by cases hx),List.Pairwise.nil⟩,fun k hk=>trivial,hb1.trans ((Xf (Below.refl _ _) _).mono hb1.size)⟩
end Go.Proofs.YtlhogkfmdnpmkaaGreat.Mean
