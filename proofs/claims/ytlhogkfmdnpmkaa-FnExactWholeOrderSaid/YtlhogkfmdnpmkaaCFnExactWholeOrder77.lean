import Derived.Test.YtlhogkfmdnpmkaaCFnExactWholeOrder47
import Derived.Test.YtlhogkfmdnpmkaaCFnExactWholeOrder54
import Derived.Laws.MakeOwn
import Derived.Test.YtlhogkfmdnpmkaaCFnExactWholeOrder76
set_option maxRecDepth 100000
set_option linter.unusedVariables false
set_option linter.unusedSectionVars false
set_option linter.unusedSimpArgs false
namespace Go.Proofs.Ytlhogkfmdnpmkaa.Mean
open Go.RowKit Go.Proofs.Ytlhogkfmdnpmkaa.GWhole Go.Proofs.YtlhogkfmdnpmkaaW.PrintWords Go.Proofs.YtlhogkfmdnpmkaaW.PrintLast Go.Proofs.YtlhogkfmdnpmkaaW.PrintMore Go.Proofs.Ytlhogkfmdnpmkaa.Pack
variable [Prot]
def openT (X Z:Value) (l:Array Bool) (val:Nat→Value):Array Value:=
  #[X,undef,Z,if l.getD 5 false=true then val 5 else undef,undef,X,.bool true,.bool false,undef,if l.getD 0 false=true then val 0 else undef,if l.getD 1 false=true then val 1 else undef,if l.getD 2 false=true then val 2 else undef,if l.getD 3 false=true then val 3 else undef,
    if l.getD 4 false=true then .agg #[.slice none 0 0,val 0,val 1,val 2,val 3] else undef,undef,undef,undef,undef,undef,undef,undef,undef,undef,undef,undef,undef,undef,undef,undef,undef,undef,undef,undef,undef]
theorem openB_none (i:Nat):openB #[false,false,false,false,false,false,false] i=false:=by
  unfold openB
  match i with
  |0|1|2|3|4|5=>rfl
  |i+6=>simp;omega
def openJ (X Z:Value) (W0:World) (l:Array Bool) (a:Act) (w:World):Prop:=
  l.size=7∧∃ val lo hi,a=⟨openT X Z l val,[]⟩∧(l.getD 4 false=true→l.getD 0 false=true∧l.getD 1 false=true∧l.getD 2 false=true∧l.getD 3 false=true)∧
    (l.getD 6 false=false→Made openF (openB l) val lo hi W0 w)∧(l.getD 6 false=true→(l.getD 4 false=true∧l.getD 5 false=true)∧∃ w',Made openF (openB l) val lo hi W0 w'∧w=openPut lo w')
theorem openJ_off {X Z:Value} {W0:World} {b0 b1 b2 b3 b4 b5 b6:Bool} {a:Act} {w:World} (h:openJ X Z W0 #[b0,b1,b2,b3,b4,b5,b6] a w) (hf:b0=false∨b1=false∨b2=false∨b3=false∨b4=false∨b5=false):b6=false∧((b0=false∨b1=false∨b2=false∨b3=false)→b4=false):=by
  obtain ⟨_,val,lo,hi,_,h4,_,h6⟩:=h
  have h4':b4=true→b0=true∧b1=true∧b2=true∧b3=true:=h4
  have h6':b6=true→b4=true∧b5=true:=fun e=>(h6 e).1
  cases b0 <;> cases b1 <;> cases b2 <;> cases b3 <;> cases b4 <;> cases b5 <;> cases b6 <;> simp_all
theorem openJ_add {X Z:Value} {W0:World} {l l':Array Bool} {val:Nat→Value} {lo hi:Nat→Nat} {w:World} (hM:Made openF (openB l) val lo hi W0 w) (i:Nat) (h6:l'.getD 6 false=false) (hsz:l'.size=7) (hB:∀ k,openB l' k=upd (openB l) i true k) (h4:l'.getD 4 false=true→l'.getD 0 false=true∧l'.getD 1 false=true∧l'.getD 2 false=true∧l'.getD 3 false=true)
    {a':Act} (ha:a'=⟨openT X Z l' (upd val i (Ud i w.heap.size)),[]⟩):openJ X Z W0 l' a' (w.alloc (openO i)):=by
  have hb:=Xj (Below.refl w.heap.size w) (openO i)
  have hM':=(hM.add openF_mono i (Ud i w.heap.size) hb ⟨heap_alloc_new w _,rfl,by rw [World.size_alloc];omega⟩).congr hB
  exact ⟨hsz,_,_,_,ha,h4,fun _=>hM',(fun e=>by rw [h6] at e;cases e)⟩
set_option maxHeartbeats 4000000 in
theorem ropen_do (A0:Option Addr) (c0:Nat) (l0:List (List T)) (we w:World) (hwe:Below we.heap.size we w) (hr0:Kd.C (Kd.slice 69 k69) we A0 l0.length l0) (hc0:l0.length≤c0) (hlen:l0.length≤1000) (hsz:∀ l ∈ l0,l.length≤1000000) (hpo:∀ w',Below w.heap.size w w'→Calls Try.prog 17 #[.slice A0 l0.length c0] w' fun e w2=>e=.returned (.bool true)∧Below w'.heap.size w' w2) (hlow:∀ k o,Prot.low k=some o→k<we.heap.size∧we.heap[k]?=some o) :
    Calls Try.prog 19 #[.slice A0 l0.length c0] w fun e w'=>∃ b,e=.returned (RV b)∧At w' w.heap.size (fun k=>k<we.heap.size∨w.heap.size≤k) b (Uc l0)∧Below w.heap.size w w':=by
  have HPO:=Xa.mk hpo
  have aQ:=Xa.mk hr0
  have HWE:=Xa.mk hwe
  have hwz:=hwe.size
  clear hwe
  clear hpo hr0
  go_enter Try.func19,Try.ntmps19
  go_upto_region 1 with (fail)
  have hba:=Xj (Below.refl w.heap.size w) ZB
  have hbx:=Yz w ZB
  generalize w.alloc ZB=w1 at *
  generalize hz:w.heap.size=z at *
  go_upto_region 3 with (first|(go_at_call 17;refine (HPO.out w1 (hz ▸ hba)).mono ?_;rintro e w2 ⟨rfl,hb2⟩))
  refine start_inv (J:=openJ (.slice A0 l0.length c0) (.pointer (some ⟨z,0,none⟩)) w2.drew) #[false,false,false,false,false,false,false] (by kernel_rfl) (by rfl) (by rfl) ?_ ?_ ?_
  · exact ⟨rfl,fun _=>undef,fun _=>0,fun _=>0,rfl,(fun h=>by cases h),(fun _=>(Made.none _).congr (fun i=>openB_none i)),(fun h=>by cases h)⟩
  · intro l a w hJ hr
    obtain ⟨hs7,val,lo,hi,rfl,h4,h6,h6'⟩:=hJ
    obtain ⟨b0,b1,b2,b3,b4,b5,b6,rfl⟩:=size7 hs7
    cases b6 with
    |false=>
      exfalso
      revert hr
      revert h4
      clear h6 h6'
      cases b0 <;> cases b1 <;> cases b2 <;> cases b3 <;> cases b4 <;> cases b5 <;> (intro h4 hr;first|(have:=h4 rfl;simp at this;done)|exact ready_ne (by kernel_rfl) hr)
    |true=>
      obtain ⟨⟨e4,e5⟩,w',hM,rfl⟩:=h6' rfl
      obtain rfl:b4=true:=e4
      obtain rfl:b5=true:=e5
      obtain ⟨e0,e1,e2,e3⟩:=h4 rfl
      obtain rfl:b0=true:=e0
      obtain rfl:b1=true:=e1
      obtain rfl:b2=true:=e2
      obtain rfl:b3=true:=e3
      have hs1:z≤w1.heap.size:=hz ▸ hba.size
      have hs2:z≤w2.drew.heap.size:=Nat.le_trans hs1 hb2.size
      have hB2:Below z w w2.drew:=(hba.trans (hb2.mono hs1)).trans ((Xl (Below.refl w2.heap.size w2)).mono hs2)
      have hZ2:w2.drew.heap[z]?=some ZB:=Yc ((hb2.block z (Yu hbx)).trans hbx)
      obtain ⟨aM,HW0,HBP,HNE,aO⟩:=open_at (base:=z) (z:=z) (fun k hk hk4=>by match k with|0|1|2|3|5=>rfl|4=>omega|k+6=>omega) hM hs2 (Yu hZ2) (Nat.le_refl _) (O:=fun k=>k<we.heap.size∨z≤k) (fun k hk=>.inr hk) (fun k o ho=>⟨.inl (hlow k o ho).1,Nat.lt_of_lt_of_le (hlow k o ho).1 hwz,(hB2.block k (Nat.lt_of_lt_of_le (hlow k o ho).1 hwz)).trans ((HWE.out.block k (hlow k o ho).1).trans (hlow k o ho).2)⟩)
      have hZ3:=(HBP.block z (Yu hZ2)).trans hZ2
      have HB3:=Xa.mk (hB2.trans (HBP.mono hs2))
      have HA:=Xa.mk aM
      have HW:=Xa.mk HW0
      have HZ:=Xa.mk hZ3
      have NB:=HNE
      have G5:z≤lo 5:=Nat.le_trans hs2 aO
      have v5:=((hM.each 5 rfl).1).2.1
      clear aM HW0 HBP aO hZ3 hZ2 hB2 h4 h6 h6' hr hs7
      simp only [openT,v5]
      generalize openPut lo w'=w3 at *
      simp only [Ud]
      generalize lo 5=g3 at *
      change Exit.then _ _ _ ⟨#[.slice A0 l0.length c0,undef,.pointer (some ⟨z,0,none⟩),.pointer (some ⟨g3,0,none⟩),undef,.slice A0 l0.length c0,.bool true,.bool false,undef,val 0,val 1,val 2,val 3,.agg #[.slice none 0 0,val 0,val 1,val 2,val 3],undef,undef,undef,undef,undef,undef,undef,undef,undef,undef,undef,undef,undef,undef,undef,undef,undef,undef,undef,undef],[]⟩ w3
      clear hM v5 hbx hba hb2
      generalize val 0=u0
      generalize val 1=u1
      generalize val 2=u2
      generalize val 3=u3
      clear val hi
      generalize openBK lo=b0 at *
      clear lo
      go_wp2
      go_loopg [4] l0.length (fun kq v4 w'=>∃ (j:Nat) (b:BK) (s:WS),v4=.int .i64 (j:Int)∧Xa (kq+j=l0.length)∧Xa (s=Uc (l0.take j))∧Xa (At w' z (fun k=>(k<we.heap.size∨z≤k)∧k≠z∧k≠g3) b s)∧Xa (Wb w' g3 b)∧Xa (w'.heap[z]?=some ZB)∧Xa (Below z w w'))
      case atStart=>exact ⟨0,b0,s0,rfl,⟨by simp⟩,⟨rfl⟩,HA,HW,HZ,HB3⟩
      case round=>
        clear HA HW HZ HB3
        obtain ⟨j,b,s,rfl,HK,HST,HA,HW1,HZ,HB⟩:=hrel
        by_cases hj:j<l0.length
        · cases gk with
          |zero=>exact absurd HK.out (by omega)
          |succ k1=>
            have aF:decide ((j:Int)<(l0.length:Int))=true:=decide_eq_true (by omega)
            have aI:0≤(j:Int):=by omega
            have aL:(j:Int)<(l0.length:Int):=by omega
            obtain ⟨ad,Al,cl,eA,hxw,hl,hC⟩:=at_L4 aQ.out (j:Int) aI aL
            cases eA
            have ej:((j:Int)).toNat=j:=rfl
            have eL:rd_L4 l0 (j:Int)=l0[j]:=by unfold rd_L4;simp [List.getD_eq_getElem?_getD,hj]
            obtain ⟨ll,hll⟩:∃ ll,ll=rd_L4 l0 (j:Int):=⟨_,rfl⟩
            rw [← hll] at hxw hl hC
            rw [ej] at hxw
            have HADZ:Xa ((ad.add j).block<z):=⟨Nat.lt_of_lt_of_le (World.block_lt_of_cell? we _ hxw) hwz⟩
            have hx:=(HB.out.cell HADZ.out).trans ((HWE.out.cell (World.block_lt_of_cell? we _ hxw)).trans hxw)
            have HFW:Xa (∀ W2,Below z w W2→Kd.F KT W2 (fun k=>k<we.heap.size) Al ll.length ll):=⟨fun W2 hb=>Kd.F_below (Kd.C_F heapT hC) (HWE.out.trans (hb.mono hwz))⟩
            have HWZ:Xa (we.heap.size≤z):=⟨hwz⟩
            have HCL:=Xa.mk hl
            have HLL:Xa (ll.length * 80≤140737488355328):=⟨by have:=hsz ll (by rw [hll,eL];exact List.getElem_mem hj);omega⟩
            have HSN:Xa (more s ll=Uc (l0.take (j+1))):=⟨by rw [HST.out,List.take_succ_eq_append_getElem hj,openS_snoc,hll,eL]⟩
            have hsn:s.n=j:=by rw [HST.out,openS_n,List.length_take];omega
            have HLEN:Xa ((s.n+1) * 72≤140737488355328):=⟨by rw [hsn];omega⟩
            have HPN:Xa (some g3≠b.p.ownBlock):=⟨fun e=>(HA.out.rows.ok_ 0 _ rfl _ e.symm).2.2 rfl⟩
            have hwj:IntKind.i64.wrap ((j:Int)+1)=(j:Int)+1:=by rw [IntKind.wrap_i64];omega
            have pn:(0:Int)≤(j:Int):=aI
            clear ej eL hll hsz hl hsn hC hxw hlow HPO hs1 hs2 HNE hz hwz
            try go_wp2
            have hbd:=Xl (Below.refl wr.heap.size wr)
            have hzr:z≤wr.heap.size:=Nat.le_of_lt (Yu HZ.out)
            have n0:=Xa.mk (HA.out.below hbd)
            have n1:Xa (wr.drew.heap[g3]?=some (.cells #[b.p,b.c,b.m,b.s,b.d] 45 (0,0))∧wr.drew.cell? (ad.add j)=some (.slice Al ll.length cl)):=⟨Yc HW1.out,hx⟩
            have n2:=Xa.mk (Yc HZ.out)
            have n3:=Xa.mk (HB.out.trans (hbd.mono hzr))
            have HZR:Xa (z≤wr.drew.heap.size):=⟨hzr⟩
            clear HA HW1 HZ HB hbd hzr hx
            have HA:=n0
            have aC:=n1
            have HZ:=n2
            have HB:=n3
            clear n0 n1 n2 n3
            refine start_ (n:=14) (S:=fun w'=>w'.heap[g3]?=some (.cells #[b.p,b.c,b.m,b.s,b.d] 45 (0,0))∧w'.cell? (ad.add j)=some (.slice Al ll.length cl)) (ds:=[13]) #[false,false,false,false,false,false,false,false,false,false,false,false,false,false] (by kernel_rfl) rfl (by rfl) aC.out (fun hHeld=>?_)
            generalize wr.drew=aA at HA aC HZ HB HZR hHeld ⊢
            have HSB:Xa (∀ W2,Below aA.heap.size aA W2→W2.heap[g3]?=some (.cells #[b.p,b.c,b.m,b.s,b.d] 45 (0,0))∧W2.cell? (ad.add j)=some (.slice Al ll.length cl)):=⟨fun W2 hb=>⟨Xt aC.out.1 hb,Xc hb aC.out.2⟩⟩
            have HFZ:Xa (∀ W2,Below aA.heap.size aA W2→Kd.F KT W2 (fun k=>k<we.heap.size) Al ll.length ll):=⟨fun W2 hb=>HFW.out W2 (HB.out.trans (hb.mono HZR.out))⟩
            refine Xp (i:=0) (N:=some 20) (v:=?_) (a':=?_) #[true,false,false,false,false,false,false,false,false,false,false,false,false,false] rfl rfl (by kernel_rfl) (fun _ _ _ h=>h) (Or.inl ⟨by rfl,?_⟩) ?_ ?_
            rotate_left
            · exact wr_
            rotate_left
            · exact ap_
            refine Xp (i:=4) (N:=some 24) (v:=?_) (a':=?_) #[true,false,false,false,true,false,false,false,false,false,false,false,false,false] rfl rfl (by kernel_rfl) (fun _ _ _ h=>h) (Or.inl ⟨by rfl,?_⟩) ?_ ?_
            rotate_left
            · exact wr_
            rotate_left
            · exact ap_
            refine Xp (i:=5) (N:=some 25) (v:=?_) (a':=?_) #[true,false,false,false,true,true,false,false,false,false,false,false,false,false] rfl rfl (by kernel_rfl) (fun _ _ _ h=>h) (Or.inl ⟨by rfl,?_⟩) ?_ ?_
            rotate_left
            · exact wr_
            rotate_left
            · exact ap_
            refine Xp (i:=6) (N:=some 26) (v:=?_) (a':=?_) #[true,false,false,false,true,true,true,false,false,false,false,false,false,false] rfl rfl (by kernel_rfl) (fun _ _ _ h=>h) (Or.inl ⟨by rfl,?_⟩) ?_ ?_
            rotate_left
            · exact wr_
            rotate_left
            · exact ap_
            refine Zp (i:=1) (N:=some 21) (v:=?_) (a':=?_) #[true,true,false,false,true,true,true,false,false,false,false,false,false,false] rfl rfl (by kernel_rfl) (fun _ _ _ h=>h) (Or.inl ⟨by rfl,?_⟩) hHeld ?_ ?_
            rotate_left
            · rintro w' s0;have c0:w'.cell? ⟨g3,0,none⟩=some b.p:=(Xm s0.1 0).trans rfl;clear s0
              go_simp
              with_reducible rfl
            rotate_left
            · exact ap_
            refine Zp (i:=7) (N:=some 27) (v:=?_) (a':=?_) #[true,true,false,false,true,true,true,true,false,false,false,false,false,false] rfl rfl (by kernel_rfl) (fun _ _ _ h=>h) (Or.inl ⟨by rfl,?_⟩) hHeld ?_ ?_
            rotate_left
            · rintro w' s0;have c0:=s0.2;clear s0
              go_simp
              with_reducible rfl
            rotate_left
            · exact ap_
            refine join_ (σ:=Value × Nat × Value) 5 #[true,true,true,true,true,true,true,true,true,false,false,false,false,false] (fun s_=>[(22,s_.1),(23,.slice (some ⟨s_.2.1,0,none⟩) 0 0),(28,s_.2.2)]) (fun s_ w'=>(∃ A c,s_.1=.slice A 3 c)∧(∃ A c,s_.2.2=.slice A ll.length c)∧w'.ownsRow aA.heap.size 3 1 s_.1 3 (ints 3 (fun _=>0))∧Kd.V KT 69 w' z (fun k=>(aA.heap.size≤k∧k<w'.heap.size∧some k≠s_.1.ownBlock)∨k<we.heap.size) s_.2.2 ll∧Below aA.heap.size aA w') ?_ ?_
            rotate_left
            · intro hJ
              have HJ:=Lib.hid hJ
              clear hJ
              refine two_ (i:=2) (j:=3) (Ni:=some 22) (Nj:=some 23) #[true,true,true,false,true,true,true,true,false,false,false,false,false,false] #[true,true,false,true,true,true,true,true,false,false,false,false,false,false] rfl rfl rfl rfl (by kernel_rfl) (by decide) (by decide) (fun K hK=>?_) (fun K hK=>?_)
              · skip
                refine Kd.R_make_step (Kd.int .i64) aA.heap.size 3 (by rfl) (N:=22) rfl 23 _ _ rfl 3 rfl rfl Try.underlying23 (.int .i64 0) 8 info3 rfl (by decide) (by omega) 0 (ok:=fun _=>True) (okp:=fun _=>True) rfl (fun _ hk=>hk) trivial (by omega) (by omega) (Below.refl _ _) (Nat.le_refl _) ?_
                intro vr wm hr hb aH aB
                clear aH aB
                obtain ⟨Ar,cr,er⟩:=Kd.Yq hr
                simp only [List.length_replicate,Int.reduceToNat] at er hr
                subst er
                have HRm:=Xa.mk (Kd.own_of_R hr)
                have HBm:=Xa.mk hb
                have HBM:Xa (Below aA.heap.size aA wm):=⟨(Below.refl aA.heap.size aA).trans (hb.mono (Below.refl aA.heap.size aA).size)⟩
                clear hr hb
                refine hK.out _ _ (HSB.out _ HBM.out) (fun hHeld=>?_)
                clear hK K
                refine Zj (a':=?_) ?_ ?_
                rotate_left
                · show Act.put _ (some 22) _=_
                  simp only [Act.put,List.setIfInBounds_toArray,List.set_cons_zero,List.set_cons_succ,Zc,Zb]
                  rfl
                refine one_ (i:=3) (N:=some 23) #[true,true,true,true,true,true,true,true,false,false,false,false,false,false] rfl rfl (by kernel_rfl) (by decide) (fun K hK=>?_)
                have HEE:=Xa.mk (Yz wm (.cells #[] 69))
                have HBe:=Xa.mk (Xj (Below.refl wm.heap.size wm) (.cells #[] 69))
                have HBE:Xa (Below aA.heap.size aA (wm.alloc (.cells #[] 69))):=⟨HBM.out.trans (HBe.out.mono HBM.out.size)⟩
                obtain ⟨eb,heb⟩:∃ eb,eb=wm.heap.size:=⟨_,rfl⟩
                have HEB:=Xa.mk heb
                clear heb
                refine value_ (v:=.slice (some ⟨wm.heap.size,0,none⟩) 0 0) (w1:=wm.alloc (.cells #[] 69)) rfl rfl (by kernel_rfl) ?_
                rw [← HEB.out] at HEE ⊢
                generalize wm.alloc (.cells #[] 69)=wE at HEE HBe HBE ⊢
                refine hK.out _ _ (HSB.out _ HBE.out) (fun hHeld=>?_)
                clear hK K
                refine Zj (a':=?_) ?_ ?_
                rotate_left
                · show Act.put _ (some 23) _=_
                  simp only [Act.put,List.setIfInBounds_toArray,List.set_cons_zero,List.set_cons_succ,Zc,Zb]
                  rfl
                refine one_ (i:=8) (N:=some 28) #[true,true,true,true,true,true,true,true,true,false,false,false,false,false] rfl rfl (by kernel_rfl) (by decide) (fun K hK=>?_)
                have HAP:Xa (aA.heap.size≤wE.heap.size):=⟨HBE.out.size⟩
                refine Kd.Uq KT (w0:=wE) aA.heap.size rfl (.tmp 23) (.tmp 27) 50 69 ZT 80 rfl Try.underlying50 info69 rfl (by decide) (by decide) (.slice (some ⟨eb,0,none⟩) 0 0) [] ll Al ll.length cl (fun k=>k<we.heap.size∨k=eb∨wE.heap.size≤k) (fun k=>k<we.heap.size) (by rfl) (by rfl) (N_empty2 HEE.out (HEB.out ▸ HBM.out.size:aA.heap.size≤eb) (.inr (.inl rfl))) (HFZ.out _ HBE.out) (fun k hk=>⟨.inl hk,fun e=>by injection e with e;have e1:k=eb:=e;have:=(HEB.out ▸ HBM.out.size:aA.heap.size≤eb);have:=HZR.out;have:=HWZ.out;omega⟩) (fun k hk=>.inr (.inr hk)) (Below.refl _ _) HAP.out (by have:=HLL.out;simp only [List.length_nil];omega) ?_
                intro va wA hna hba hga hata
                rw [List.nil_append] at hna
                obtain ⟨Aa,ca,eva⟩:=Kd.N_slice hna
                subst eva
                have HNA:=Xa.mk hna
                have HGA:=Xa.mk hga
                have HBA:Xa (Below aA.heap.size aA wA):=⟨HBE.out.trans hba⟩
                clear hna hba hga hata
                refine hK.out _ _ (HSB.out _ HBA.out) (fun hHeld=>?_)
                clear hK K
                refine Zj (a':=?_) ?_ ?_
                rotate_left
                · show Act.put _ (some 28) _=_
                  simp only [Act.put,List.setIfInBounds_toArray,List.set_cons_zero,List.set_cons_succ,Zc,Zb]
                  rfl
                have HRE:=Xa.mk (own_move HRm.out (fun k hk=>HBe.out.block k (own_lt HRm.out k hk)))
                have HRA:Xa (wA.ownsRow aA.heap.size 3 1 (.slice Ar 3 cr) 3 (ints 3 (fun _=>0))):=⟨own_move HRE.out (fun k hk=>HGA.out.block k (own_lt HRE.out k hk) (fun e=>by have e1:k=eb:=(by injection e);have:=own_lt HRm.out k hk;have:=HEB.out;omega))⟩
                have HVA:Xa (Kd.V KT 69 wA z (fun k=>(aA.heap.size≤k∧k<wA.heap.size∧some k≠(Value.slice Ar 3 cr).ownBlock)∨k<we.heap.size) (.slice Aa ll.length ca) ll):=⟨Kd.Um (Kd.V_bound (Kd.N_V HNA.out)) (fun k hk=>hk.1.elim .inr (fun h=>.inl ⟨by have:=HEB.out;have:=HBM.out.size;have:=HBE.out.size;omega,hk.2,fun e=>by have:=own_lt HRm.out k e.symm;have:=HEB.out;have:=HBe.out.size;omega⟩))⟩
                exact Zj (by first|(simp only [putAll,Act.put,List.setIfInBounds_toArray,List.set_cons_zero,List.set_cons_succ];done)|(simp only [putAll,Act.put,List.setIfInBounds_toArray,List.set_cons_zero,List.set_cons_succ];rfl)) (HJ (.slice Ar 3 cr,eb,.slice Aa ll.length ca) wA ⟨⟨Ar,cr,rfl⟩,⟨Aa,ca,rfl⟩,HRA.out,HVA.out,HBA.out⟩)
              · skip
                have HEE:=Xa.mk (Yz aA (.cells #[] 69))
                have HBe:=Xa.mk (Xj (Below.refl aA.heap.size aA) (.cells #[] 69))
                have HBE:Xa (Below aA.heap.size aA (aA.alloc (.cells #[] 69))):=⟨(Below.refl aA.heap.size aA).trans (HBe.out.mono (Below.refl aA.heap.size aA).size)⟩
                obtain ⟨eb,heb⟩:∃ eb,eb=aA.heap.size:=⟨_,rfl⟩
                have HEB:=Xa.mk heb
                clear heb
                refine value_ (v:=.slice (some ⟨aA.heap.size,0,none⟩) 0 0) (w1:=aA.alloc (.cells #[] 69)) rfl rfl (by kernel_rfl) ?_
                rw [← HEB.out] at HEE ⊢
                generalize aA.alloc (.cells #[] 69)=wE at HEE HBe HBE ⊢
                refine hK.out _ _ (HSB.out _ HBE.out) (fun hHeld=>?_)
                clear hK K
                refine Zj (a':=?_) ?_ ?_
                rotate_left
                · show Act.put _ (some 23) _=_
                  simp only [Act.put,List.setIfInBounds_toArray,List.set_cons_zero,List.set_cons_succ,Zc,Zb]
                  rfl
                refine two_ (i:=2) (j:=8) (Ni:=some 22) (Nj:=some 28) #[true,true,true,true,true,true,true,true,false,false,false,false,false,false] #[true,true,false,true,true,true,true,true,true,false,false,false,false,false] rfl rfl rfl rfl (by kernel_rfl) (by decide) (by decide) (fun K hK=>?_) (fun K hK=>?_)
                · skip
                  refine Kd.R_make_step (Kd.int .i64) wE.heap.size 3 (by rfl) (N:=22) rfl 23 _ _ rfl 3 rfl rfl Try.underlying23 (.int .i64 0) 8 info3 rfl (by decide) (by omega) 0 (ok:=fun _=>True) (okp:=fun _=>True) rfl (fun _ hk=>hk) trivial (by omega) (by omega) (Below.refl _ _) (Nat.le_refl _) ?_
                  intro vr wm hr hb aH aB
                  clear aH aB
                  obtain ⟨Ar,cr,er⟩:=Kd.Yq hr
                  simp only [List.length_replicate,Int.reduceToNat] at er hr
                  subst er
                  have HRm:=Xa.mk (Kd.own_of_R hr)
                  have HBm:=Xa.mk hb
                  have HBM:Xa (Below aA.heap.size aA wm):=⟨HBE.out.trans (hb.mono HBE.out.size)⟩
                  clear hr hb
                  refine hK.out _ _ (HSB.out _ HBM.out) (fun hHeld=>?_)
                  clear hK K
                  refine Zj (a':=?_) ?_ ?_
                  rotate_left
                  · show Act.put _ (some 22) _=_
                    simp only [Act.put,List.setIfInBounds_toArray,List.set_cons_zero,List.set_cons_succ,Zc,Zb]
                    rfl
                  have HEM:=Xa.mk (Xt HEE.out HBm.out)
                  refine one_ (i:=8) (N:=some 28) #[true,true,true,true,true,true,true,true,true,false,false,false,false,false] rfl rfl (by kernel_rfl) (by decide) (fun K hK=>?_)
                  have HAP:Xa (aA.heap.size≤wm.heap.size):=⟨HBM.out.size⟩
                  refine Kd.Uq KT (w0:=wm) aA.heap.size rfl (.tmp 23) (.tmp 27) 50 69 ZT 80 rfl Try.underlying50 info69 rfl (by decide) (by decide) (.slice (some ⟨eb,0,none⟩) 0 0) [] ll Al ll.length cl (fun k=>k<we.heap.size∨k=eb∨wm.heap.size≤k) (fun k=>k<we.heap.size) (by rfl) (by rfl) (N_empty2 HEM.out (Nat.le_of_eq HEB.out.symm:aA.heap.size≤eb) (.inr (.inl rfl))) (HFZ.out _ HBM.out) (fun k hk=>⟨.inl hk,fun e=>by injection e with e;have e1:k=eb:=e;have:=(Nat.le_of_eq HEB.out.symm:aA.heap.size≤eb);have:=HZR.out;have:=HWZ.out;omega⟩) (fun k hk=>.inr (.inr hk)) (Below.refl _ _) HAP.out (by have:=HLL.out;simp only [List.length_nil];omega) ?_
                  intro va wA hna hba hga hata
                  rw [List.nil_append] at hna
                  obtain ⟨Aa,ca,eva⟩:=Kd.N_slice hna
                  subst eva
                  have HNA:=Xa.mk hna
                  have HGA:=Xa.mk hga
                  have HBA:Xa (Below aA.heap.size aA wA):=⟨HBM.out.trans hba⟩
                  clear hna hba hga hata
                  refine hK.out _ _ (HSB.out _ HBA.out) (fun hHeld=>?_)
                  clear hK K
                  refine Zj (a':=?_) ?_ ?_
                  rotate_left
                  · show Act.put _ (some 28) _=_
                    simp only [Act.put,List.setIfInBounds_toArray,List.set_cons_zero,List.set_cons_succ,Zc,Zb]
                    rfl
                  have HRA:Xa (wA.ownsRow aA.heap.size 3 1 (.slice Ar 3 cr) 3 (ints 3 (fun _=>0))):=⟨own_weaken (own_move HRm.out (fun k hk=>HGA.out.block k (own_lt HRm.out k hk) (fun e=>by have e1:k=eb:=(by injection e);have:=Ut HRm.out k hk;have:=Yu HEE.out;omega))) HBE.out.size⟩
                  have HVA:Xa (Kd.V KT 69 wA z (fun k=>(aA.heap.size≤k∧k<wA.heap.size∧some k≠(Value.slice Ar 3 cr).ownBlock)∨k<we.heap.size) (.slice Aa ll.length ca) ll):=⟨Kd.Um (Kd.V_bound (Kd.N_V HNA.out)) (fun k hk=>hk.1.elim .inr (fun h=>.inl ⟨by have:=HEB.out;have:=HBM.out.size;omega,hk.2,fun e=>by have:=own_lt HRm.out k e.symm;have:=Ut HRm.out k e.symm;have:=Yu HEE.out;omega⟩))⟩
                  exact Zj (by first|(simp only [putAll,Act.put,List.setIfInBounds_toArray,List.set_cons_zero,List.set_cons_succ];done)|(simp only [putAll,Act.put,List.setIfInBounds_toArray,List.set_cons_zero,List.set_cons_succ];rfl)) (HJ (.slice Ar 3 cr,eb,.slice Aa ll.length ca) wA ⟨⟨Ar,cr,rfl⟩,⟨Aa,ca,rfl⟩,HRA.out,HVA.out,HBA.out⟩)
                · skip
                  have HAP:Xa (aA.heap.size≤wE.heap.size):=⟨HBE.out.size⟩
                  refine Kd.Uq KT (w0:=wE) aA.heap.size rfl (.tmp 23) (.tmp 27) 50 69 ZT 80 rfl Try.underlying50 info69 rfl (by decide) (by decide) (.slice (some ⟨eb,0,none⟩) 0 0) [] ll Al ll.length cl (fun k=>k<we.heap.size∨k=eb∨wE.heap.size≤k) (fun k=>k<we.heap.size) (by rfl) (by rfl) (N_empty2 HEE.out (Nat.le_of_eq HEB.out.symm:aA.heap.size≤eb) (.inr (.inl rfl))) (HFZ.out _ HBE.out) (fun k hk=>⟨.inl hk,fun e=>by injection e with e;have e1:k=eb:=e;have:=(Nat.le_of_eq HEB.out.symm:aA.heap.size≤eb);have:=HZR.out;have:=HWZ.out;omega⟩) (fun k hk=>.inr (.inr hk)) (Below.refl _ _) HAP.out (by have:=HLL.out;simp only [List.length_nil];omega) ?_
                  intro va wA hna hba hga hata
                  rw [List.nil_append] at hna
                  obtain ⟨Aa,ca,eva⟩:=Kd.N_slice hna
                  subst eva
                  have HNA:=Xa.mk hna
                  have HGA:=Xa.mk hga
                  have HBA:Xa (Below aA.heap.size aA wA):=⟨HBE.out.trans hba⟩
                  clear hna hba hga hata
                  refine hK.out _ _ (HSB.out _ HBA.out) (fun hHeld=>?_)
                  clear hK K
                  refine Zj (a':=?_) ?_ ?_
                  rotate_left
                  · show Act.put _ (some 28) _=_
                    simp only [Act.put,List.setIfInBounds_toArray,List.set_cons_zero,List.set_cons_succ,Zc,Zb]
                    rfl
                  refine one_ (i:=2) (N:=some 22) #[true,true,true,true,true,true,true,true,true,false,false,false,false,false] rfl rfl (by kernel_rfl) (by decide) (fun K hK=>?_)
                  refine Kd.R_make_step (Kd.int .i64) wA.heap.size 3 (by rfl) (N:=22) rfl 23 _ _ rfl 3 rfl rfl Try.underlying23 (.int .i64 0) 8 info3 rfl (by decide) (by omega) 0 (ok:=fun _=>True) (okp:=fun _=>True) rfl (fun _ hk=>hk) trivial (by omega) (by omega) (Below.refl _ _) (Nat.le_refl _) ?_
                  intro vr wm hr hb aH aB
                  clear aH aB
                  obtain ⟨Ar,cr,er⟩:=Kd.Yq hr
                  simp only [List.length_replicate,Int.reduceToNat] at er hr
                  subst er
                  have HRm:=Xa.mk (Kd.own_of_R hr)
                  have HBm:=Xa.mk hb
                  have HBM:Xa (Below aA.heap.size aA wm):=⟨HBA.out.trans (hb.mono HBA.out.size)⟩
                  clear hr hb
                  refine hK.out _ _ (HSB.out _ HBM.out) (fun hHeld=>?_)
                  clear hK K
                  refine Zj (a':=?_) ?_ ?_
                  rotate_left
                  · show Act.put _ (some 22) _=_
                    simp only [Act.put,List.setIfInBounds_toArray,List.set_cons_zero,List.set_cons_succ,Zc,Zb]
                    rfl
                  have HVA:Xa (Kd.V KT 69 wm z (fun k=>(aA.heap.size≤k∧k<wm.heap.size∧some k≠(Value.slice Ar 3 cr).ownBlock)∨k<we.heap.size) (.slice Aa ll.length ca) ll):=⟨Kd.Um (Kd.V_below (Kd.V_bound (Kd.N_V HNA.out)) HBm.out) (fun k hk=>hk.1.elim .inr (fun h=>.inl ⟨by have:=HEB.out;have:=HBE.out.size;omega,Nat.lt_of_lt_of_le hk.2 HBm.out.size,fun e=>by have:=Ut HRm.out k e.symm;omega⟩))⟩
                  exact Zj (by first|(simp only [putAll,Act.put,List.setIfInBounds_toArray,List.set_cons_zero,List.set_cons_succ];done)|(simp only [putAll,Act.put,List.setIfInBounds_toArray,List.set_cons_zero,List.set_cons_succ];rfl)) (HJ (.slice Ar 3 cr,eb,.slice Aa ll.length ca) wm ⟨⟨Ar,cr,rfl⟩,⟨Aa,ca,rfl⟩,(own_weaken HRm.out HBA.out.size),HVA.out,HBM.out⟩)
            · rintro ⟨vM,eb,vA⟩ w2 ⟨⟨Ar,cr,eM⟩,⟨Aa,ca,eA⟩,hown,hV,hb2⟩
              dsimp only at eM eA hown hV
              subst eM
              subst eA
              have HRV:=Xa.mk hown
              have HTV:=Xa.mk hV
              have HB2:=Xa.mk hb2
              clear hown hV hb2
              refine Zj (a':=?_) ?_ ?_
              rotate_left
              · simp only [putAll]
                simp only [Act.put,List.setIfInBounds_toArray,List.set_cons_zero,List.set_cons_succ,Zc,Zb]
                rfl
              refine Xp (i:=9) (N:=some 29) (v:=?_) (a':=?_) #[true,true,true,true,true,true,true,true,true,true,false,false,false,false] rfl rfl (by kernel_rfl) (fun _ _ _ h=>h) (Or.inl ⟨by rfl,?_⟩) ?_ ?_
              rotate_left
              · exact wr_
              rotate_left
              · exact ap_
              refine one_ (i:=10) (N:=some 30) #[true,true,true,true,true,true,true,true,true,true,true,false,false,false] rfl rfl (by kernel_rfl) (by decide) (fun K hK=>?_)
              refine value_ (v:=.slice (some ⟨w2.heap.size,0,none⟩) 1 1) (w1:=w2.alloc (.cells #[.slice Ar 3 cr,.slice Aa ll.length ca,.int .i64 0,.int .i64 0,.int .i64 (-1)] 67)) rfl rfl (by kernel_rfl) ?_
              have HBP:Xa (Below aA.heap.size aA (w2.alloc (.cells #[.slice Ar 3 cr,.slice Aa ll.length ca,.int .i64 0,.int .i64 0,.int .i64 (-1)] 67))):=⟨HB2.out.trans ((Xj (Below.refl _ _) _).mono HB2.out.size)⟩
              refine hK.out _ _ (HSB.out _ HBP.out) (fun hHeld=>?_)
              clear hK K
              refine Zj (a':=?_) ?_ ?_
              rotate_left
              · show Act.put _ (some 30) _=_
                simp only [Act.put,List.setIfInBounds_toArray,List.set_cons_zero,List.set_cons_succ,Zc,Zb]
                rfl
              refine one_ (i:=11) (N:=some 31) #[true,true,true,true,true,true,true,true,true,true,true,true,false,false] rfl rfl (by kernel_rfl) (by decide) (fun K hK=>?_)
              have HQ:=Xa.mk ((HA.out.below HB2.out).rows.at_ 0 _ rfl)
              refine step_append_cells (w0:=w2) z rfl (.tmp 21) (.tmp 30) 41 67 (.agg #[(.slice none 0 0),(.slice none 0 0),(.int .i64 0),(.int .i64 0),(.int .i64 0)]) 5 72 rfl Try.underlying41 info67 rfl (by decide) (by decide) b.p s.n (cellsOf 5 s.n (Yr b s)) [.slice Ar 3 cr,.slice Aa ll.length ca,.int .i64 0,.int .i64 0,.int .i64 (-1)] rfl (by rfl) rfl (by simp [Value.oneCell']) HQ.out (Below.refl _ _) (Nat.le_trans HZR.out HB2.out.size) HLEN.out ?_
              intro v1 w1 hq1 hb1 hg1 aG
              obtain ⟨A1,c1,aR⟩:=Zo hq1
              subst aR
              have aP:=Xa.mk hq1
              have aN:=Xa.mk hg1
              have HAT:=Xa.mk aG
              have aJ:Xa (Below z aA w1):=⟨(HB2.out.mono HZR.out).trans (hb1)⟩
              clear hq1 hb1 hg1 aG
              have hbk:=blk_grown (Xt aC.out.1 HB2.out) aN.out HPN.out
              have hx1:w1.cell? ⟨g3,0,none⟩=some b.p:=(Xm hbk 0).trans rfl
              have hf1:=Xb hbk 0
              refine hK.out _ _ ⟨hbk,(aJ.out.cell HADZ.out).trans aC.out.2⟩ (fun hHeld=>?_)
              clear hK K hbk
              refine Zj (a':=?_) ?_ ?_
              rotate_left
              · show Act.put _ (some 31) _=_
                simp only [Act.put,List.setIfInBounds_toArray,List.set_cons_zero,List.set_cons_succ,Zc,Zb]
                rfl
              refine Xp (i:=12) (N:=some 32) (v:=?_) (a':=?_) #[true,true,true,true,true,true,true,true,true,true,true,true,true,false] rfl rfl (by kernel_rfl) (fun _ _ _ h=>h) (Or.inl ⟨by rfl,?_⟩) ?_ ?_
              rotate_left
              · exact wr_
              rotate_left
              · exact ap_
              refine last_ (i:=13) (N:=none) #[true,true,true,true,true,true,true,true,true,true,true,true,true,true] rfl rfl (by kernel_rfl) (by decide) (fun K hK=>?_)
              refine skip_ (w1:=w1.setCell ⟨g3,0,none⟩ (.slice A1 (s.n+1) c1)) rfl rfl ?_ ?_
              · first|(go_simp;done)|(go_simp;rfl)
              refine hK.out _ _ ?_
              clear hK K
              refine done_ (by kernel_rfl) ?_
              go_wp2
              have FIN:=grow_round2 (O:=fun k=>k<we.heap.size∨z≤k) (fun k hk=>.inr hk) HA.out aC.out.1 HZ.out NB G5 HZR.out HB2.out HRV.out (Kd.Um HTV.out (fun k hk=>hk.imp id (fun h=>by have:=HWZ.out;exact ⟨⟨.inl h,by omega,by omega⟩,by omega⟩))) aN.out aP.out HAT.out
              go_roundg k1
              case measure=>omega
              case rel=>exact ⟨j+1,moreB b s.n (.slice A1 (s.n+1) c1) (.slice Ar 3 cr) (.slice Aa ll.length ca),more s ll,(by first|rfl|simp),⟨by have:=HK.out;omega⟩,⟨HSN.out⟩,⟨FIN.1⟩,⟨FIN.2.1⟩,⟨FIN.2.2.1⟩,⟨HB.out.trans FIN.2.2.2⟩⟩
        · have hjl:j=l0.length:=by have:=HK.out;omega
          have aF:decide ((j:Int)<(l0.length:Int))=false:=decide_eq_false (by omega)
          have hnb:=NB
          have hnc:g3≠z:=fun e=>NB e.symm
          obtain ⟨bp,bc,bm,bs,bd,br,bt,bq⟩:=b
          obtain ⟨P0,q0,e0⟩:∃ A c,bp=.slice A s.n c:=Zo (HA.out.rows.at_ 0 _ rfl)
          obtain ⟨P1,q1,e1⟩:∃ A c,bc=.slice A 3 c:=Zo (HA.out.rows.at_ 1 _ rfl)
          obtain ⟨P2,q2,e2⟩:∃ A c,bm=.slice A 2 c:=Zo (HA.out.rows.at_ 2 _ rfl)
          obtain ⟨P3,q3,e3⟩:∃ A c,bs=.slice A 2 c:=Zo (HA.out.rows.at_ 3 _ rfl)
          obtain ⟨P4,q4,e4⟩:∃ A c,bd=.slice A s.said.length c:=Zo (HA.out.rows.at_ 4 _ rfl)
          subst e0 e1 e2 e3 e4
          have w0:wr.cell? ⟨g3,0,none⟩=some (.slice P0 s.n q0):=(Xm HW1.out 0).trans rfl
          have w1:wr.cell? ⟨g3,1,none⟩=some (.slice P1 3 q1):=(Xm HW1.out 1).trans rfl
          have w2:wr.cell? ⟨g3,2,none⟩=some (.slice P2 2 q2):=(Xm HW1.out 2).trans rfl
          have w3:wr.cell? ⟨g3,3,none⟩=some (.slice P3 2 q3):=(Xm HW1.out 3).trans rfl
          have w4:wr.cell? ⟨g3,4,none⟩=some (.slice P4 s.said.length q4):=(Xm HW1.out 4).trans rfl
          have z0:wr.cell? ⟨z,0,none⟩=some (.slice none 0 0):=(Xm HZ.out 0).trans rfl
          have z1:wr.cell? ⟨z,1,none⟩=some (.slice none 0 0):=(Xm HZ.out 1).trans rfl
          have z2:wr.cell? ⟨z,2,none⟩=some (.slice none 0 0):=(Xm HZ.out 2).trans rfl
          have z3:wr.cell? ⟨z,3,none⟩=some (.slice none 0 0):=(Xm HZ.out 3).trans rfl
          have z4:wr.cell? ⟨z,4,none⟩=some (.slice none 0 0):=(Xm HZ.out 4).trans rfl
          have f0:=Xb HZ.out 0
          have f1:=Xb HZ.out 1
          have f2:=Xb HZ.out 2
          have f3:=Xb HZ.out 3
          have f4:=Xb HZ.out 4
          have HZL:=Xa.mk (show z≤z from Nat.le_refl _)
          have HZE:=Xa.mk hz
          clear hlow HPO hs1 hs2 NB HNE hz
          go_wp2
          (try simp only [Exit.inBlock,Exit.then])
          have hfin:=Zl (Zl (Zl (Zl (Zl HZ.out 0 (.slice P0 s.n q0)) 1 (.slice P1 3 q1)) 2 (.slice P2 2 q2)) 3 (.slice P3 2 q3)) 4 (.slice P4 s.said.length q4)
          refine bodyPost_ret (results_cell_row rfl _ _ z 45 #[.slice P0 s.n q0,.slice P1 3 q1,.slice P2 2 q2,.slice P3 2 q3,.slice P4 s.said.length q4] (0,0) _ rfl hfin Try.underlying45 rfl (by kernel_rfl)) rfl ?_
          have hst:s=Uc l0:=by rw [HST.out,hjl,List.take_length]
          rw [← hst,HZE.out]
          refine ⟨⟨.slice P0 s.n q0,.slice P1 3 q1,.slice P2 2 q2,.slice P3 2 q3,.slice P4 s.said.length q4,br,bt,bq⟩,rfl,(HA.out.step (W':=((((wr.setCell ⟨z,0,none⟩ (.slice P0 s.n q0)).setCell ⟨z,1,none⟩ (.slice P1 3 q1)).setCell ⟨z,2,none⟩ (.slice P2 2 q2)).setCell ⟨z,3,none⟩ (.slice P3 2 q3)).setCell ⟨z,4,none⟩ (.slice P4 s.said.length q4)) (fun k hk _=>?_)).mono (fun k hk=>hk.1),?_⟩
          · rw [Below.heap_setCell _ _ _ k hk.2.1,Below.heap_setCell _ _ _ k hk.2.1,Below.heap_setCell _ _ _ k hk.2.1,Below.heap_setCell _ _ _ k hk.2.1,Below.heap_setCell _ _ _ k hk.2.1]
          · exact Below.setCell (p:=⟨z,4,none⟩) (Below.setCell (p:=⟨z,3,none⟩) (Below.setCell (p:=⟨z,2,none⟩) (Below.setCell (p:=⟨z,1,none⟩) (Below.setCell (p:=⟨z,0,none⟩) HB.out HZL.out _) HZL.out _) HZL.out _) HZL.out _) HZL.out _
  · intro l a w i hJ hi
    have hJ0:=hJ
    obtain ⟨hsz,val,lo,hi',rfl,h4,h6,h6'⟩:=hJ
    obtain ⟨b0,b1,b2,b3,b4,b5,b6,rfl⟩:=size7 hsz
    obtain ⟨hun,o,ho,hall⟩:=mem_ready.1 hi
    have aK:i<7:=(Array.getElem?_eq_some_iff.1 ho).1
    rcases (show i=0∨i=1∨i=2∨i=3∨i=4∨i=5∨i=6 by omega) with rfl|rfl|rfl|rfl|rfl|rfl|rfl
    · obtain rfl:b0=false:=hun
      obtain ⟨rfl,e4⟩:=openJ_off hJ0 (.inl rfl)
      obtain rfl:=e4 (.inl rfl)
      exact ⟨_,rfl,fun K' hK=>event_step (v:=Ud 0 w.heap.size) (w1:=w.alloc (openO 0)) rfl (by have hm:=make_run (P:=Try.prog) (cs:=openC 0) Try.underlying23 info3 3 (by decide) (by decide) (by decide) (by kernel_rfl) w;go_simp;exact ⟨rfl,rfl⟩) (hK.out _ _ (openJ_add (h6 rfl) 0 rfl rfl (fun k=>by unfold openB upd;match k with|0|1|2|3|4|5|6=>rfl|k+7=>simp) (fun e=>by cases e) (by rfl)))⟩
    · obtain rfl:b1=false:=hun
      obtain ⟨rfl,e4⟩:=openJ_off hJ0 (.inr (.inl rfl))
      obtain rfl:=e4 (.inr (.inl rfl))
      exact ⟨_,rfl,fun K' hK=>event_step (v:=Ud 1 w.heap.size) (w1:=w.alloc (openO 1)) rfl (by have hm:=make_run (P:=Try.prog) (cs:=openC 1) Try.underlying23 info3 2 (by decide) (by decide) (by decide) (by kernel_rfl) w;go_simp;exact ⟨rfl,rfl⟩) (hK.out _ _ (openJ_add (h6 rfl) 1 rfl rfl (fun k=>by unfold openB upd;match k with|0|1|2|3|4|5|6=>rfl|k+7=>simp) (fun e=>by cases e) (by rfl)))⟩
    · obtain rfl:b2=false:=hun
      obtain ⟨rfl,e4⟩:=openJ_off hJ0 (.inr (.inr (.inl rfl)))
      obtain rfl:=e4 (.inr (.inr (.inl rfl)))
      exact ⟨_,rfl,fun K' hK=>event_step (v:=Ud 2 w.heap.size) (w1:=w.alloc (openO 2)) rfl (by have hm:=make_run (P:=Try.prog) (cs:=openC 2) Try.underlying42 info23 2 (by decide) (by decide) (by decide) (by kernel_rfl) w;go_simp;exact ⟨rfl,rfl⟩) (hK.out _ _ (openJ_add (h6 rfl) 2 rfl rfl (fun k=>by unfold openB upd;match k with|0|1|2|3|4|5|6=>rfl|k+7=>simp) (fun e=>by cases e) (by rfl)))⟩
    · obtain rfl:b3=false:=hun
      obtain ⟨rfl,e4⟩:=openJ_off hJ0 (.inr (.inr (.inr (.inl rfl))))
      obtain rfl:=e4 (.inr (.inr (.inr (rfl))))
      exact ⟨_,rfl,fun K' hK=>event_step (v:=Ud 3 w.heap.size) (w1:=w.alloc (openO 3)) rfl (by go_simp;exact ⟨rfl,rfl⟩) (hK.out _ _ (openJ_add (h6 rfl) 3 rfl rfl (fun k=>by unfold openB upd;match k with|0|1|2|3|4|5|6=>rfl|k+7=>simp) (fun e=>by cases e) (by rfl)))⟩
    · obtain rfl:b4=false:=hun
      obtain ⟨rfl,_⟩:=openJ_off hJ0 (.inr (.inr (.inr (.inr (.inl rfl)))))
      have hh:b0=true∧b1=true∧b2=true∧b3=true:=by
        revert hi
        clear hall h4 h6 h6' hJ0 ho aK
        cases b0 <;> cases b1 <;> cases b2 <;> cases b3 <;> cases b5 <;> (intro hi;first|exact ⟨rfl,rfl,rfl,rfl⟩|exact absurd hi (ready_not (by kernel_rfl)))
      obtain ⟨rfl,rfl,rfl,rfl⟩:=hh
      refine ⟨_,rfl,fun K' hK=>event_step (v:=.agg #[.slice none 0 0,val 0,val 1,val 2,val 3]) (w1:=w) rfl ?_ (hK.out _ _ ⟨rfl,val,lo,hi',(by rfl),(fun _=>⟨rfl,rfl,rfl,rfl⟩),(fun _=>(h6 rfl).congr (fun k=>by unfold openB;match k with|0|1|2|3|4|5|6=>rfl|k+7=>simp)),(fun e=>by cases e)⟩)⟩
      have v0:=((h6 rfl).each 0 rfl).1.2.1
      have v1:=((h6 rfl).each 1 rfl).1.2.1
      have v2:=((h6 rfl).each 2 rfl).1.2.1
      have v3:=((h6 rfl).each 3 rfl).1.2.1
      simp only [Ud] at v0 v1 v2 v3
      simp only [openT,v0,v1,v2,v3]
      go_simp
    · obtain rfl:b5=false:=hun
      obtain ⟨rfl,_⟩:=openJ_off hJ0 (.inr (.inr (.inr (.inr (.inr rfl)))))
      have h4':b4=true→b0=true∧b1=true∧b2=true∧b3=true:=h4
      exact ⟨_,rfl,fun K' hK=>event_step (v:=Ud 5 w.heap.size) (w1:=w.alloc (openO 5)) rfl (by go_simp;exact ⟨rfl,rfl⟩) (hK.out _ _ (openJ_add (l':=#[b0,b1,b2,b3,b4,true,false]) (h6 rfl) 5 rfl rfl (fun k=>by unfold openB upd;match k with|0|1|2|3|4|5|6=>rfl|k+7=>simp) h4' (by rfl)))⟩
    · obtain rfl:b6=false:=hun
      have hh:b0=true∧b1=true∧b2=true∧b3=true∧b4=true∧b5=true:=by
        have h4':b4=true→b0=true∧b1=true∧b2=true∧b3=true:=h4
        have e4:b4=true:=by
          cases b4 with
          |true=>rfl
          |false=>
            revert hi
            clear hall h4 h6 h6' hJ0 ho aK h4'
            cases b0 <;> cases b1 <;> cases b2 <;> cases b3 <;> cases b5 <;> (intro hi;exact absurd hi (ready_not (by kernel_rfl)))
        have e5:b5=true:=by
          cases b5 with
          |true=>rfl
          |false=>
            revert hi
            clear hall h4 h6 h6' hJ0 ho aK h4'
            subst e4
            cases b0 <;> cases b1 <;> cases b2 <;> cases b3 <;> (intro hi;exact absurd hi (ready_not (by kernel_rfl)))
        obtain ⟨a,b,c,d⟩:=h4' e4
        exact ⟨a,b,c,d,e4,e5⟩
      obtain ⟨rfl,rfl,rfl,rfl,rfl,rfl⟩:=hh
      have hM:=h6 rfl
      obtain ⟨k0,v0,l0'⟩:=(hM.each 0 rfl).1
      obtain ⟨k1,v1,l1'⟩:=(hM.each 1 rfl).1
      obtain ⟨k2,v2,l2'⟩:=(hM.each 2 rfl).1
      obtain ⟨k3,v3,l3'⟩:=(hM.each 3 rfl).1
      obtain ⟨k5,v5,l5'⟩:=(hM.each 5 rfl).1
      have aD:w.heap[lo 5]?=some ZB:=k5
      obtain ⟨z0,z1,z2,z3,z4⟩:=ZB.cells aD
      have f0:=Xb aD 0
      have f1:=Xb aD 1
      have f2:=Xb aD 2
      have f3:=Xb aD 3
      have f4:=Xb aD 4
      refine ⟨_,rfl,fun K' hK=>skip_ (w1:=openPut lo w) rfl rfl ?_ (hK.out _ _ ⟨rfl,val,lo,hi',(by rfl),(fun _=>⟨rfl,rfl,rfl,rfl⟩),(fun e=>by cases e),(fun _=>⟨⟨rfl,rfl⟩,w,hM.congr (fun k=>by unfold openB;match k with|0|1|2|3|4|5|6=>rfl|k+7=>simp),rfl⟩)⟩)⟩
      simp only [Ud] at v0 v1 v2 v3 v5
      simp only [openT,openPut,Ud,v0,v1,v2,v3,v5]
      go_simp
end Go.Proofs.Ytlhogkfmdnpmkaa.Mean
