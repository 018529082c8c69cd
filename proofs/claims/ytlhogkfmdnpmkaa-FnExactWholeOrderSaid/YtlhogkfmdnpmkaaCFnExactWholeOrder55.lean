import Derived.Test.YtlhogkfmdnpmkaaCFnExactWholeOrder54
import Derived.Test.YtlhogkfmdnpmkaaCFnExactWholeOrder23
set_option maxRecDepth 100000
set_option linter.unusedVariables false
set_option linter.unusedSectionVars false
set_option linter.unusedSimpArgs false
namespace Go.Proofs.Ytlhogkfmdnpmkaa.Mean
open Go.RowKit Go.Proofs.Ytlhogkfmdnpmkaa.GWhole Go.Proofs.YtlhogkfmdnpmkaaW.PrintWords Go.Proofs.YtlhogkfmdnpmkaaW.PrintLast Go.Proofs.YtlhogkfmdnpmkaaW.PrintMore Go.Proofs.Ytlhogkfmdnpmkaa.Pack
variable [Prot]
theorem size6 {l:Array Bool} (h:l.size=6):∃ b0 b1 b2 b3 b4 b5,l=#[b0,b1,b2,b3,b4,b5]:=by
  obtain ⟨l⟩:=l
  match l,h with
  |[b0,b1,b2,b3,b4,b5],_=>exact ⟨b0,b1,b2,b3,b4,b5,rfl⟩
def iopB (l:Array Bool) (i:Nat):Bool:=(i != 3 && decide (i<5)) && l.getD i false
def iopPut (lo:Nat→Nat) (w:World):World:=((((w.setCell ⟨lo 4,0,none⟩ (.slice none 0 0)).setCell ⟨lo 4,1,none⟩ (Ud 0 (lo 0))).setCell ⟨lo 4,2,none⟩ (Ud 1 (lo 1))).setCell ⟨lo 4,3,none⟩ (Ud 2 (lo 2))).setCell ⟨lo 4,4,none⟩ (.slice none 0 0)
def iopBK (lo:Nat→Nat):BK:=⟨.slice none 0 0,Ud 0 (lo 0),Ud 1 (lo 1),Ud 2 (lo 2),.slice none 0 0,fun _=>.slice none 0 0,fun _=>.slice none 0 0,fun _=>.slice none 0 0⟩
theorem iop_at {W0 w':World} {val:Nat→Value} {lo hi:Nat→Nat} {z:Nat} {l:Array Bool} (hl:∀ k,k<5→k≠3→iopB l k=true) (hM:Made openF (iopB l) val lo hi W0 w') (hb:z≤W0.heap.size) (hz:z<W0.heap.size) (hno:∀ k,Prot.low k=none) :
    At (iopPut lo w') z (fun k=>z≤k∧k≠z∧k≠lo 4) (iopBK lo) s0∧Wb (iopPut lo w') (lo 4) (iopBK lo)∧Below W0.heap.size W0 (iopPut lo w')∧z≠lo 4∧W0.heap.size≤lo 4:=by
  obtain ⟨⟨k0,v0,l0⟩,g0,_,s0'⟩:=hM.each 0 (hl 0 (by omega) (by omega))
  obtain ⟨⟨k1,v1,l1⟩,g1,_,s1⟩:=hM.each 1 (hl 1 (by omega) (by omega))
  obtain ⟨⟨k2,v2,l2⟩,g2,_,s2⟩:=hM.each 2 (hl 2 (by omega) (by omega))
  obtain ⟨⟨k5,v5,l5⟩,g5,_,s5⟩:=hM.each 4 (hl 4 (by omega) (by omega))
  have a01:=hM.apart 0 1 (by omega) (hl 0 (by omega) (by omega)) (hl 1 (by omega) (by omega))
  have a02:=hM.apart 0 2 (by omega) (hl 0 (by omega) (by omega)) (hl 2 (by omega) (by omega))
  have a05:=hM.apart 0 4 (by omega) (hl 0 (by omega) (by omega)) (hl 4 (by omega) (by omega))
  have a12:=hM.apart 1 2 (by omega) (hl 1 (by omega) (by omega)) (hl 2 (by omega) (by omega))
  have a15:=hM.apart 1 4 (by omega) (hl 1 (by omega) (by omega)) (hl 4 (by omega) (by omega))
  have a25:=hM.apart 2 4 (by omega) (hl 2 (by omega) (by omega)) (hl 4 (by omega) (by omega))
  have far:∀ k,k≠lo 4→(iopPut lo w').heap[k]?=w'.heap[k]?:=fun k hk=>by
    unfold iopPut
    rw [Below.heap_setCell _ _ _ k hk,Below.heap_setCell _ _ _ k hk,Below.heap_setCell _ _ _ k hk,Below.heap_setCell _ _ _ k hk,Below.heap_setCell _ _ _ k hk]
  have hput:Below W0.heap.size W0 (iopPut lo w'):=by
    unfold iopPut
    exact Below.setCell (p:=⟨lo 4,4,none⟩) (Below.setCell (p:=⟨lo 4,3,none⟩) (Below.setCell (p:=⟨lo 4,2,none⟩) (Below.setCell (p:=⟨lo 4,1,none⟩) (Below.setCell (p:=⟨lo 4,0,none⟩) hM.below g5 _) g5 _) g5 _) g5 _) g5 _
  refine ⟨At.start2 ((far _ (by omega)).trans k0) ((far _ (by omega)).trans k1) ((far _ (by omega)).trans k2) (own_nil _ _ _ _) (by omega) (by omega) (by omega) (by omega) (by omega) (by omega) ⟨by omega,by omega,by omega⟩ ⟨by omega,by omega,by omega⟩ ⟨by omega,by omega,by omega⟩ (fun k hk=>by cases hk) (fun k o ho=>by rw [hno] at ho;cases ho),?_,hput,by omega,g5⟩
  have aG:w'.heap[lo 4]?=some ZB:=k5
  exact Zl (Zl (Zl (Zl (Zl aG 0 _) 1 _) 2 _) 3 _) 4 _
def iopT (X Z:Value) (l:Array Bool) (val:Nat→Value):Array Value:=
  #[X,undef,Z,if l.getD 4 false=true then val 4 else undef,undef,undef,if l.getD 0 false=true then val 0 else undef,if l.getD 1 false=true then val 1 else undef,if l.getD 2 false=true then val 2 else undef,
    if l.getD 3 false=true then .agg #[.slice none 0 0,val 0,val 1,val 2,.slice none 0 0] else undef,undef,undef,undef,undef,undef,undef,undef,undef,undef,undef,undef,undef,undef,undef,undef,undef,undef]
theorem iopB_none (i:Nat):iopB #[false,false,false,false,false,false] i=false:=by
  unfold iopB
  match i with
  |0|1|2|3|4=>rfl
  |i+5=>simp;omega
def iopJ (X Z:Value) (W0:World) (l:Array Bool) (a:Act) (w:World):Prop:=
  l.size=6∧∃ val lo hi,a=⟨iopT X Z l val,[]⟩∧(l.getD 3 false=true→l.getD 0 false=true∧l.getD 1 false=true∧l.getD 2 false=true)∧
    (l.getD 5 false=false→Made openF (iopB l) val lo hi W0 w)∧(l.getD 5 false=true→(l.getD 3 false=true∧l.getD 4 false=true)∧∃ w',Made openF (iopB l) val lo hi W0 w'∧w=iopPut lo w')
theorem iopJ_off {X Z:Value} {W0:World} {b0 b1 b2 b3 b4 b5:Bool} {a:Act} {w:World} (h:iopJ X Z W0 #[b0,b1,b2,b3,b4,b5] a w) (hf:b0=false∨b1=false∨b2=false∨b3=false∨b4=false):b5=false∧((b0=false∨b1=false∨b2=false)→b3=false):=by
  obtain ⟨_,val,lo,hi,_,h4,_,h6⟩:=h
  have h4':b3=true→b0=true∧b1=true∧b2=true:=h4
  have h6':b5=true→b3=true∧b4=true:=fun e=>(h6 e).1
  cases b0 <;> cases b1 <;> cases b2 <;> cases b3 <;> cases b4 <;> cases b5 <;> simp_all
theorem iopJ_add {X Z:Value} {W0:World} {l l':Array Bool} {val:Nat→Value} {lo hi:Nat→Nat} {w:World} (hM:Made openF (iopB l) val lo hi W0 w) (i:Nat) (h6:l'.getD 5 false=false) (hsz:l'.size=6) (hB:∀ k,iopB l' k=upd (iopB l) i true k) (h4:l'.getD 3 false=true→l'.getD 0 false=true∧l'.getD 1 false=true∧l'.getD 2 false=true)
    {a':Act} (ha:a'=⟨iopT X Z l' (upd val i (Ud i w.heap.size)),[]⟩):iopJ X Z W0 l' a' (w.alloc (openO i)):=by
  have hb:=Xj (Below.refl w.heap.size w) (openO i)
  have hM':=(hM.add openF_mono i (Ud i w.heap.size) hb ⟨heap_alloc_new w _,rfl,by rw [World.size_alloc];omega⟩).congr hB
  exact ⟨hsz,_,_,_,ha,h4,fun _=>hM',(fun e=>by rw [h6] at e;cases e)⟩
set_option maxHeartbeats 4000000 in
theorem opened_do (A0:Option Addr) (c0:Nat) (l0:List (List T)) (w:World) (hr0:Kd.C (Kd.slice 69 k69) w A0 l0.length l0) (hc0:l0.length≤c0) (hlen:l0.length≤1000) (hsm:∀ l ∈ l0,Small 4 l) (hno:∀ k,Prot.low k=none) :
    Calls Try.prog 25 #[.slice A0 l0.length c0] w fun e w'=>∃ b,e=.returned (.agg #[b.p,b.c,b.m,b.s,b.d])∧At w' w.heap.size (fun k=>w.heap.size≤k∧k<w'.heap.size) b (Uc l0)∧Below w.heap.size w w':=by
  have aU:=Xa.mk hr0
  clear hr0
  go_enter Try.func25,Try.ntmps25
  go_upto_region 1 with (fail)
  have hba:=Xj (Below.refl w.heap.size w) ZB
  have hbx:=Yz w ZB
  generalize w.alloc ZB=w1 at *
  generalize hz:w.heap.size=z at *
  refine start_inv (J:=iopJ (.slice A0 l0.length c0) (.pointer (some ⟨z,0,none⟩)) w1.drew) #[false,false,false,false,false,false] (by kernel_rfl) (by rfl) (by rfl) ?_ ?_ ?_
  · exact ⟨rfl,fun _=>undef,fun _=>0,fun _=>0,rfl,(fun h=>by cases h),(fun _=>(Made.none _).congr (fun i=>iopB_none i)),(fun h=>by cases h)⟩
  · intro l a w' hJ hr
    obtain ⟨hs7,val,lo,hi,rfl,h4,h6,h6'⟩:=hJ
    obtain ⟨b0,b1,b2,b3,b4,b5,rfl⟩:=size6 hs7
    cases b5 with
    |false=>
      exfalso
      revert hr
      revert h4
      clear h6 h6'
      cases b0 <;> cases b1 <;> cases b2 <;> cases b3 <;> cases b4 <;> (intro h4 hr;first|(have:=h4 rfl;simp at this;done)|exact ready_ne (by kernel_rfl) hr)
    |true=>
      obtain ⟨⟨e4,e5⟩,w',hM,rfl⟩:=h6' rfl
      obtain rfl:b3=true:=e4
      obtain rfl:b4=true:=e5
      obtain ⟨e0,e1,e2⟩:=h4 rfl
      obtain rfl:b0=true:=e0
      obtain rfl:b1=true:=e1
      obtain rfl:b2=true:=e2
      have hs2:z≤w1.drew.heap.size:=hz ▸ hba.size
      have hB2:Below z w w1.drew:=hba.trans ((Xl (Below.refl w1.heap.size w1)).mono hs2)
      have hZ2:w1.drew.heap[z]?=some ZB:=Yc hbx
      obtain ⟨aQ,HW0,HBP,aS,aR⟩:=iop_at (z:=z) (fun k hk hk4=>by match k with|0|1|2|4=>rfl|3=>omega|k+5=>omega) hM hs2 (Yu hZ2) hno
      have hZ3:=(HBP.block z (Yu hZ2)).trans hZ2
      have HB3:=Xa.mk (hB2.trans (HBP.mono hs2))
      have HA:=Xa.mk aQ
      have HW:=Xa.mk HW0
      have HZ:=Xa.mk hZ3
      have NB:=Xa.mk aS
      have aI:Xa (z≤lo 4):=⟨Nat.le_trans hs2 aR⟩
      have aA:Xa (z≤z):=⟨Nat.le_refl z⟩
      have HZE:=Xa.mk hz
      have v5:=((hM.each 4 rfl).1).2.1
      clear aQ HW0 HBP aR hZ3 hZ2 hB2 h4 h6 h6' hr hs7 hs2 aS
      simp only [iopT,v5]
      generalize iopPut lo w'=w3 at *
      simp only [Ud]
      generalize lo 4=g3 at *
      change Exit.then _ _ _ ⟨#[.slice A0 l0.length c0,undef,.pointer (some ⟨z,0,none⟩),.pointer (some ⟨g3,0,none⟩),undef,undef,val 0,val 1,val 2,.agg #[.slice none 0 0,val 0,val 1,val 2,.slice none 0 0],undef,undef,undef,undef,undef,undef,undef,undef,undef,undef,undef,undef,undef,undef,undef,undef,undef],[]⟩ w3
      clear hM v5 hbx hba hz
      generalize val 0=u0
      generalize val 1=u1
      generalize val 2=u2
      clear val hi
      generalize iopBK lo=b0 at *
      clear lo
      go_wp2
      go_loopg [12] l0.length (fun kq v12 w'=>∃ (j:Nat) (b:BK) (s:WS),v12=.int .i64 (j:Int)∧Xa (kq+j=l0.length)∧Xa (s=Uc (l0.take j))∧Xa (At w' z (fun k=>z≤k∧k≠z∧k≠g3) b s)∧Xa (Wb w' g3 b)∧Xa (w'.heap[z]?=some ZB)∧Xa (Below z w w'))
      case atStart=>exact ⟨0,b0,s0,rfl,⟨by simp⟩,⟨rfl⟩,HA,HW,HZ,HB3⟩
      case round=>
        clear HA HW HZ HB3
        obtain ⟨j,b,s,rfl,HK,HST,HA,HW1,HZ,HB⟩:=hrel
        by_cases hj:j<l0.length
        · cases gk with
          |zero=>exact absurd HK.out (by omega)
          |succ k1=>
            have aJ:decide ((j:Int)<(l0.length:Int))=true:=decide_eq_true (by omega)
            have aN:0≤(j:Int):=by omega
            have aO:(j:Int)<(l0.length:Int):=by omega
            obtain ⟨ad,Al,cl,eA,hx,hl,hC⟩:=at_L4 aU.out (j:Int) aN aO
            cases eA
            replace hx:=(HB.out.cell (HZE.out ▸ World.block_lt_of_cell? w _ hx)).trans hx
            have ej:((j:Int)).toNat=j:=rfl
            have eL:rd_L4 l0 (j:Int)=l0[j]:=by unfold rd_L4;simp [List.getD_eq_getElem?_getD,hj]
            obtain ⟨ll,hll⟩:∃ ll,ll=rd_L4 l0 (j:Int):=⟨_,rfl⟩
            rw [← hll] at hx hl hC
            rw [ej] at hx
            have hsl:Small 4 ll:=hsm ll (by rw [hll,eL];exact List.getElem_mem hj)
            obtain ⟨kc,hkc⟩:=(copy_is 4 ll hsl).get
            have HKC:=Xa.mk hkc
            have HCL:=Xa.mk hl
            have HSN:Xa (more s ll=Uc (l0.take (j+1))):=⟨by rw [HST.out,List.take_succ_eq_append_getElem hj,openS_snoc,hll,eL]⟩
            have hsn:s.n=j:=by rw [HST.out,openS_n,List.length_take];omega
            have HLEN:Xa ((s.n+1) * 72≤140737488355328):=⟨by rw [hsn];omega⟩
            have HPN:Xa (some g3≠b.p.ownBlock):=⟨fun e=>(HA.out.rows.ok_ 0 _ rfl _ e.symm).2.2 rfl⟩
            have hwj:IntKind.i64.wrap ((j:Int)+1)=(j:Int)+1:=by rw [IntKind.wrap_i64];omega
            have aP:=aI
            clear ej eL hll hsl hkc hl hsn
            try go_wp2
            have hbd:=Xl (Below.refl wr.heap.size wr)
            have n0:=Xa.mk (HA.out.below hbd)
            have n1:Xa (wr.drew.heap[g3]?=some (.cells #[b.p,b.c,b.m,b.s,b.d] 45 (0,0))):=⟨Yc HW1.out⟩
            have n2:=Xa.mk (Yc HZ.out)
            have n3:=Xa.mk (HB.out.trans (hbd.mono (HZE.out ▸ HB.out.size)))
            have HCC:=Xa.mk (Kd.Xr hC (HZE.out.symm ▸ n3.out))
            clear HA HW1 HZ HB hC hbd
            have HA:=n0
            have aB:=n1
            have HZ:=n2
            have HB:=n3
            clear n0 n1 n2 n3
            refine start_ (n:=10) (S:=fun w'=>w'.heap[g3]?=some (.cells #[b.p,b.c,b.m,b.s,b.d] 45 (0,0))) (ds:=[9]) #[false,false,false,false,false,false,false,false,false,false] (by kernel_rfl) rfl (by rfl) aB.out (fun hHeld=>?_)
            generalize wr.drew=aF at HA aB HZ HB HCC hHeld ⊢
            refine Xp (i:=0) (N:=some 16) (v:=?_) (a':=?_) #[true,false,false,false,false,false,false,false,false,false] rfl rfl (by kernel_rfl) (fun _ _ _ h=>h) (Or.inl ⟨by rfl,?_⟩) ?_ ?_
            rotate_left
            · exact wr_
            rotate_left
            · exact ap_
            refine Xp (i:=3) (N:=some 19) (v:=?_) (a':=?_) #[true,false,false,true,false,false,false,false,false,false] rfl rfl (by kernel_rfl) (fun _ _ _ h=>h) (Or.inl ⟨by rfl,?_⟩) ?_ ?_
            rotate_left
            · exact wr_
            rotate_left
            · exact ap_
            refine Zp (i:=1) (N:=some 17) (v:=?_) (a':=?_) #[true,true,false,true,false,false,false,false,false,false] rfl rfl (by kernel_rfl) (fun _ _ _ h=>h) (Or.inl ⟨by rfl,?_⟩) hHeld ?_ ?_
            rotate_left
            · rintro w' s0;have c0:w'.cell? ⟨g3,0,none⟩=some b.p:=(Xm s0 0).trans rfl;clear s0
              go_simp
              with_reducible rfl
            rotate_left
            · exact ap_
            refine two_ (i:=2) (j:=4) (Ni:=some 18) (Nj:=some 20) #[true,true,true,true,false,false,false,false,false,false] #[true,true,false,true,true,false,false,false,false,false] rfl rfl rfl rfl (by kernel_rfl) (by decide) (by decide) (fun K hK=>?_) (fun K hK=>?_)
            · skip
              refine Kd.R_make_step (Kd.int .i64) aF.heap.size 3 (by rfl) (N:=18) rfl 23 _ _ rfl 3 rfl rfl Try.underlying23 (.int .i64 0) 8 info3 rfl (by decide) (by omega) 0 (ok:=fun _=>True) (okp:=fun _=>True) rfl (fun _ hk=>hk) trivial (by omega) (by omega) (Below.refl _ _) (Nat.le_refl _) ?_
              intro vr wm hr hb aM aD
              clear aM aD
              obtain ⟨Ar,cr,er⟩:=Kd.Yq hr
              simp only [List.length_replicate,Int.reduceToNat] at er hr
              subst er
              have HRm:=Xa.mk hr
              have HBm:=Xa.mk hb
              clear hr hb
              refine hK.out _ _ (Xt aB.out HBm.out) (fun hHeld=>?_)
              clear hK K
              refine Zj (a':=?_) ?_ ?_
              rotate_left
              · show Act.put _ (some 18) _=_
                simp only [Act.put,List.setIfInBounds_toArray,List.set_cons_zero,List.set_cons_succ,Zc,Zb]
                rfl
              refine one_ (i:=4) (N:=some 20) #[true,true,true,true,true,false,false,false,false,false] rfl rfl (by kernel_rfl) (by decide) (fun K hK=>?_)
              refine goes_ Try.func41 (by kernel_rfl) rfl #[.slice Al ll.length cl] (by rfl) rfl rfl ga_ ?_
              refine (Ya.calls kc Al cl ll ll wm (Kd.Xr HCC.out HBm.out) HCL.out HKC.out).mono ?_
              rintro e wc ⟨vt,rfl,htt,hb⟩
              refine ⟨_,rfl,?_⟩
              obtain ⟨At,ct,et⟩:=Kd.Yq htt
              subst et
              have HTc:=Xa.mk htt
              have HBc:=Xa.mk hb
              clear htt hb
              have HB2:Xa (Below aF.heap.size aF wc):=⟨HBm.out.trans (HBc.out.mono HBm.out.size)⟩
              have HRV:Xa (wc.ownsRow aF.heap.size 3 1 (.slice Ar 3 cr) 3 (ints 3 (fun _=>0))):=⟨Kd.own_of_R (Kd.Xx HRm.out HBc.out)⟩
              have HTV:Xa (Kd.V k69 69 wc z (fun k=>aF.heap.size≤k∧k<wc.heap.size∧some k≠(Value.slice Ar 3 cr).ownBlock) (.slice At ll.length ct) ll):=⟨Kd.Um (Kd.R_V (Kd.R_bound HTc.out)) (fun k hk=>⟨Nat.le_trans HBm.out.size hk.2.1,hk.2.2.1,fun e=>by have:=own_lt (Kd.own_of_R HRm.out) k e.symm;have:=hk.2.1;omega⟩)⟩
              refine hK.out _ _ (Xt aB.out HB2.out) (fun hHeld=>?_)
              clear hK K
              refine Zj (a':=?_) ?_ ?_
              rotate_left
              · show Act.put _ (some 20) _=_
                simp only [Act.put,List.setIfInBounds_toArray,List.set_cons_zero,List.set_cons_succ,Zc,Zb]
                rfl
              refine Xp (i:=5) (N:=some 21) (v:=?_) (a':=?_) #[true,true,true,true,true,true,false,false,false,false] rfl rfl (by kernel_rfl) (fun _ _ _ h=>h) (Or.inl ⟨by rfl,?_⟩) ?_ ?_
              rotate_left
              · exact wr_
              rotate_left
              · exact ap_
              refine one_ (i:=6) (N:=some 22) #[true,true,true,true,true,true,true,false,false,false] rfl rfl (by kernel_rfl) (by decide) (fun K hK=>?_)
              obtain ⟨w2,hw2⟩:∃ w2,w2=wc:=⟨_,rfl⟩
              rw [← hw2] at HB2 HRV HTV ⊢
              clear hw2
              refine value_ (v:=.slice (some ⟨w2.heap.size,0,none⟩) 1 1) (w1:=w2.alloc (.cells #[.slice Ar 3 cr,.slice At ll.length ct,.int .i64 0,.int .i64 0,.int .i64 (-1)] 67)) rfl rfl (by kernel_rfl) ?_
              refine hK.out _ _ (Ye (Xt aB.out HB2.out) _) (fun hHeld=>?_)
              clear hK K
              refine Zj (a':=?_) ?_ ?_
              rotate_left
              · show Act.put _ (some 22) _=_
                simp only [Act.put,List.setIfInBounds_toArray,List.set_cons_zero,List.set_cons_succ,Zc,Zb]
                rfl
              refine one_ (i:=7) (N:=some 23) #[true,true,true,true,true,true,true,true,false,false] rfl rfl (by kernel_rfl) (by decide) (fun K hK=>?_)
              have HQ:=Xa.mk ((HA.out.below HB2.out).rows.at_ 0 _ rfl)
              refine step_append_cells (w0:=w2) z rfl (.tmp 17) (.tmp 22) 41 67 (.agg #[(.slice none 0 0),(.slice none 0 0),(.int .i64 0),(.int .i64 0),(.int .i64 0)]) 5 72 rfl Try.underlying41 info67 rfl (by decide) (by decide) b.p s.n (cellsOf 5 s.n (Yr b s)) [.slice Ar 3 cr,.slice At ll.length ct,.int .i64 0,.int .i64 0,.int .i64 (-1)] rfl (by rfl) rfl (by simp [Value.oneCell']) HQ.out (Below.refl _ _) (Nat.le_trans (HZE.out ▸ HB.out.size) HB2.out.size) HLEN.out ?_
              intro v1 w1 hq1 hb1 hg1 aC
              obtain ⟨A1,c1,aL⟩:=Zo hq1
              subst aL
              have aK:=Xa.mk hq1
              have aH:=Xa.mk hg1
              have HAT:=Xa.mk aC
              clear hq1 hb1 hg1 aC
              have hbk:=blk_grown (Xt aB.out HB2.out) aH.out HPN.out
              have hx1:w1.cell? ⟨g3,0,none⟩=some b.p:=(Xm hbk 0).trans rfl
              have hf1:=Xb hbk 0
              clear hbk
              refine hK.out _ _ (blk_grown (Xt aB.out HB2.out) aH.out HPN.out) (fun hHeld=>?_)
              clear hK K
              refine Zj (a':=?_) ?_ ?_
              rotate_left
              · show Act.put _ (some 23) _=_
                simp only [Act.put,List.setIfInBounds_toArray,List.set_cons_zero,List.set_cons_succ,Zc,Zb]
                rfl
              refine Xp (i:=8) (N:=some 24) (v:=?_) (a':=?_) #[true,true,true,true,true,true,true,true,true,false] rfl rfl (by kernel_rfl) (fun _ _ _ h=>h) (Or.inl ⟨by rfl,?_⟩) ?_ ?_
              rotate_left
              · exact wr_
              rotate_left
              · exact ap_
              refine last_ (i:=9) (N:=none) #[true,true,true,true,true,true,true,true,true,true] rfl rfl (by kernel_rfl) (by decide) (fun K hK=>?_)
              refine skip_ (w1:=w1.setCell ⟨g3,0,none⟩ (.slice A1 (s.n+1) c1)) rfl rfl ?_ ?_
              · first|(go_simp;done)|(go_simp;rfl)
              refine hK.out _ _ ?_
              clear hK K
              refine done_ (by kernel_rfl) ?_
              go_wp2
              have FIN:=grow_round2 (O:=fun k=>z≤k) (fun k hk=>hk) HA.out aB.out HZ.out NB.out aP.out (HZE.out ▸ HB.out.size) HB2.out HRV.out (Kd.Um HTV.out (fun k hk=>.inl hk)) aH.out aK.out HAT.out
              go_roundg k1
              case measure=>omega
              case rel=>exact ⟨j+1,moreB b s.n (.slice A1 (s.n+1) c1) (.slice Ar 3 cr) (.slice At ll.length ct),more s ll,(by first|rfl|simp),⟨by have:=HK.out;omega⟩,⟨HSN.out⟩,⟨FIN.1⟩,⟨FIN.2.1⟩,⟨FIN.2.2.1⟩,⟨HB.out.trans FIN.2.2.2⟩⟩
            · skip
              refine goes_ Try.func41 (by kernel_rfl) rfl #[.slice Al ll.length cl] (by rfl) rfl rfl ga_ ?_
              refine (Ya.calls kc Al cl ll ll aF HCC.out HCL.out HKC.out).mono ?_
              rintro e wc ⟨vt,rfl,htt,hb⟩
              refine ⟨_,rfl,?_⟩
              obtain ⟨At,ct,et⟩:=Kd.Yq htt
              subst et
              have HTc:=Xa.mk htt
              have HBc:=Xa.mk hb
              clear htt hb
              refine hK.out _ _ (Xt aB.out HBc.out) (fun hHeld=>?_)
              clear hK K
              refine Zj (a':=?_) ?_ ?_
              rotate_left
              · show Act.put _ (some 20) _=_
                simp only [Act.put,List.setIfInBounds_toArray,List.set_cons_zero,List.set_cons_succ,Zc,Zb]
                rfl
              refine one_ (i:=2) (N:=some 18) #[true,true,true,true,true,false,false,false,false,false] rfl rfl (by kernel_rfl) (by decide) (fun K hK=>?_)
              refine Kd.R_make_step (Kd.int .i64) wc.heap.size 3 (by rfl) (N:=18) rfl 23 _ _ rfl 3 rfl rfl Try.underlying23 (.int .i64 0) 8 info3 rfl (by decide) (by omega) 0 (ok:=fun _=>True) (okp:=fun _=>True) rfl (fun _ hk=>hk) trivial (by omega) (by omega) (Below.refl _ _) (Nat.le_refl _) ?_
              intro vr wm hr hb aM aD
              clear aM aD
              obtain ⟨Ar,cr,er⟩:=Kd.Yq hr
              simp only [List.length_replicate,Int.reduceToNat] at er hr
              subst er
              have HRm:=Xa.mk hr
              have HBm:=Xa.mk hb
              clear hr hb
              have HB2:Xa (Below aF.heap.size aF wm):=⟨HBc.out.trans (HBm.out.mono HBc.out.size)⟩
              have HRV:Xa (wm.ownsRow aF.heap.size 3 1 (.slice Ar 3 cr) 3 (ints 3 (fun _=>0))):=⟨own_weaken (Kd.own_of_R HRm.out) HBc.out.size⟩
              have HTV:Xa (Kd.V k69 69 wm z (fun k=>aF.heap.size≤k∧k<wm.heap.size∧some k≠(Value.slice Ar 3 cr).ownBlock) (.slice At ll.length ct) ll):=⟨Kd.Um (Kd.R_V (Kd.Xx (Kd.R_bound HTc.out) HBm.out)) (fun k hk=>⟨hk.2.1,Nat.lt_of_lt_of_le hk.2.2.1 HBm.out.size,fun e=>by have:=Kd.Yt HRm.out k e.symm;have:=hk.2.2.1;omega⟩)⟩
              refine hK.out _ _ (Xt aB.out HB2.out) (fun hHeld=>?_)
              clear hK K
              refine Zj (a':=?_) ?_ ?_
              rotate_left
              · show Act.put _ (some 18) _=_
                simp only [Act.put,List.setIfInBounds_toArray,List.set_cons_zero,List.set_cons_succ,Zc,Zb]
                rfl
              refine Xp (i:=5) (N:=some 21) (v:=?_) (a':=?_) #[true,true,true,true,true,true,false,false,false,false] rfl rfl (by kernel_rfl) (fun _ _ _ h=>h) (Or.inl ⟨by rfl,?_⟩) ?_ ?_
              rotate_left
              · exact wr_
              rotate_left
              · exact ap_
              refine one_ (i:=6) (N:=some 22) #[true,true,true,true,true,true,true,false,false,false] rfl rfl (by kernel_rfl) (by decide) (fun K hK=>?_)
              obtain ⟨w2,hw2⟩:∃ w2,w2=wm:=⟨_,rfl⟩
              rw [← hw2] at HB2 HRV HTV ⊢
              clear hw2
              refine value_ (v:=.slice (some ⟨w2.heap.size,0,none⟩) 1 1) (w1:=w2.alloc (.cells #[.slice Ar 3 cr,.slice At ll.length ct,.int .i64 0,.int .i64 0,.int .i64 (-1)] 67)) rfl rfl (by kernel_rfl) ?_
              refine hK.out _ _ (Ye (Xt aB.out HB2.out) _) (fun hHeld=>?_)
              clear hK K
              refine Zj (a':=?_) ?_ ?_
              rotate_left
              · show Act.put _ (some 22) _=_
                simp only [Act.put,List.setIfInBounds_toArray,List.set_cons_zero,List.set_cons_succ,Zc,Zb]
                rfl
              refine one_ (i:=7) (N:=some 23) #[true,true,true,true,true,true,true,true,false,false] rfl rfl (by kernel_rfl) (by decide) (fun K hK=>?_)
              have HQ:=Xa.mk ((HA.out.below HB2.out).rows.at_ 0 _ rfl)
              refine step_append_cells (w0:=w2) z rfl (.tmp 17) (.tmp 22) 41 67 (.agg #[(.slice none 0 0),(.slice none 0 0),(.int .i64 0),(.int .i64 0),(.int .i64 0)]) 5 72 rfl Try.underlying41 info67 rfl (by decide) (by decide) b.p s.n (cellsOf 5 s.n (Yr b s)) [.slice Ar 3 cr,.slice At ll.length ct,.int .i64 0,.int .i64 0,.int .i64 (-1)] rfl (by rfl) rfl (by simp [Value.oneCell']) HQ.out (Below.refl _ _) (Nat.le_trans (HZE.out ▸ HB.out.size) HB2.out.size) HLEN.out ?_
              intro v1 w1 hq1 hb1 hg1 aC
              obtain ⟨A1,c1,aL⟩:=Zo hq1
              subst aL
              have aK:=Xa.mk hq1
              have aH:=Xa.mk hg1
              have HAT:=Xa.mk aC
              clear hq1 hb1 hg1 aC
              have hbk:=blk_grown (Xt aB.out HB2.out) aH.out HPN.out
              have hx1:w1.cell? ⟨g3,0,none⟩=some b.p:=(Xm hbk 0).trans rfl
              have hf1:=Xb hbk 0
              clear hbk
              refine hK.out _ _ (blk_grown (Xt aB.out HB2.out) aH.out HPN.out) (fun hHeld=>?_)
              clear hK K
              refine Zj (a':=?_) ?_ ?_
              rotate_left
              · show Act.put _ (some 23) _=_
                simp only [Act.put,List.setIfInBounds_toArray,List.set_cons_zero,List.set_cons_succ,Zc,Zb]
                rfl
              refine Xp (i:=8) (N:=some 24) (v:=?_) (a':=?_) #[true,true,true,true,true,true,true,true,true,false] rfl rfl (by kernel_rfl) (fun _ _ _ h=>h) (Or.inl ⟨by rfl,?_⟩) ?_ ?_
              rotate_left
              · exact wr_
              rotate_left
              · exact ap_
              refine last_ (i:=9) (N:=none) #[true,true,true,true,true,true,true,true,true,true] rfl rfl (by kernel_rfl) (by decide) (fun K hK=>?_)
              refine skip_ (w1:=w1.setCell ⟨g3,0,none⟩ (.slice A1 (s.n+1) c1)) rfl rfl ?_ ?_
              · first|(go_simp;done)|(go_simp;rfl)
              refine hK.out _ _ ?_
              clear hK K
              refine done_ (by kernel_rfl) ?_
              go_wp2
              have FIN:=grow_round2 (O:=fun k=>z≤k) (fun k hk=>hk) HA.out aB.out HZ.out NB.out aP.out (HZE.out ▸ HB.out.size) HB2.out HRV.out (Kd.Um HTV.out (fun k hk=>.inl hk)) aH.out aK.out HAT.out
              go_roundg k1
              case measure=>omega
              case rel=>exact ⟨j+1,moreB b s.n (.slice A1 (s.n+1) c1) (.slice Ar 3 cr) (.slice At ll.length ct),more s ll,(by first|rfl|simp),⟨by have:=HK.out;omega⟩,⟨HSN.out⟩,⟨FIN.1⟩,⟨FIN.2.1⟩,⟨FIN.2.2.1⟩,⟨HB.out.trans FIN.2.2.2⟩⟩
        · have hjl:j=l0.length:=by have:=HK.out;omega
          have aJ:decide ((j:Int)<(l0.length:Int))=false:=decide_eq_false (by omega)
          have hnb:=NB.out
          have hnc:g3≠z:=fun e=>NB.out e.symm
          obtain ⟨bp,bc,bm,bs,bd,br,bt,bq⟩:=b
          obtain ⟨P0,q0,e0⟩:∃ A c,bp=.slice A s.n c:=Zo (HA.out.rows.at_ 0 _ rfl)
          obtain ⟨P1,q1,e1⟩:∃ A c,bc=.slice A 3 c:=Zo (HA.out.rows.at_ 1 _ rfl)
          obtain ⟨P2,q2,e2⟩:∃ A c,bm=.slice A 2 c:=Zo (HA.out.rows.at_ 2 _ rfl)
          obtain ⟨P3,q3,e3⟩:∃ A c,bs=.slice A 2 c:=Zo (HA.out.rows.at_ 3 _ rfl)
          obtain ⟨P4,q4,e4⟩:∃ A c,bd=.slice A s.said.length c:=Zo (HA.out.rows.at_ 4 _ rfl)
          subst e0 e1 e2 e3 e4
          have w0:wr.cell? ⟨g3,0,none⟩=some (.slice P0 s.n q0):=(Xm HW1.out 0).trans rfl
          have w1:wr.cell? ⟨g3,1,none⟩=some (.slice P1 3 q1):=(Xm HW1.out 1).trans rfl
          have w2:wr.cell? ⟨g3,2,none⟩=some (.slice P2 2 q2):=(Xm HW1.out 2).trans rfl
          have w3:wr.cell? ⟨g3,3,none⟩=some (.slice P3 2 q3):=(Xm HW1.out 3).trans rfl
          have w4:wr.cell? ⟨g3,4,none⟩=some (.slice P4 s.said.length q4):=(Xm HW1.out 4).trans rfl
          have z0:wr.cell? ⟨z,0,none⟩=some (.slice none 0 0):=(Xm HZ.out 0).trans rfl
          have z1:wr.cell? ⟨z,1,none⟩=some (.slice none 0 0):=(Xm HZ.out 1).trans rfl
          have z2:wr.cell? ⟨z,2,none⟩=some (.slice none 0 0):=(Xm HZ.out 2).trans rfl
          have z3:wr.cell? ⟨z,3,none⟩=some (.slice none 0 0):=(Xm HZ.out 3).trans rfl
          have z4:wr.cell? ⟨z,4,none⟩=some (.slice none 0 0):=(Xm HZ.out 4).trans rfl
          have f0:=Xb HZ.out 0
          have f1:=Xb HZ.out 1
          have f2:=Xb HZ.out 2
          have f3:=Xb HZ.out 3
          have f4:=Xb HZ.out 4
          go_wp2
          (try simp only [Exit.inBlock,Exit.then])
          have hfin:=Zl (Zl (Zl (Zl (Zl HZ.out 0 (.slice P0 s.n q0)) 1 (.slice P1 3 q1)) 2 (.slice P2 2 q2)) 3 (.slice P3 2 q3)) 4 (.slice P4 s.said.length q4)
          refine bodyPost_ret (results_cell_row rfl _ _ z 45 #[.slice P0 s.n q0,.slice P1 3 q1,.slice P2 2 q2,.slice P3 2 q3,.slice P4 s.said.length q4] (0,0) _ rfl hfin Try.underlying45 rfl (by kernel_rfl)) rfl ?_
          have hst:s=Uc l0:=by rw [HST.out,hjl,List.take_length]
          rw [← hst,HZE.out]
          refine ⟨_,rfl,((HA.out.step (W':=((((wr.setCell ⟨z,0,none⟩ (.slice P0 s.n q0)).setCell ⟨z,1,none⟩ (.slice P1 3 q1)).setCell ⟨z,2,none⟩ (.slice P2 2 q2)).setCell ⟨z,3,none⟩ (.slice P3 2 q3)).setCell ⟨z,4,none⟩ (.slice P4 s.said.length q4)) (fun k hk _=>?_)).lt).mono (fun k hk=>⟨hk.1.1,hk.2⟩),?_⟩
          · rw [Below.heap_setCell _ _ _ k hk.2.1,Below.heap_setCell _ _ _ k hk.2.1,Below.heap_setCell _ _ _ k hk.2.1,Below.heap_setCell _ _ _ k hk.2.1,Below.heap_setCell _ _ _ k hk.2.1]
          · exact Below.setCell (p:=⟨z,4,none⟩) (Below.setCell (p:=⟨z,3,none⟩) (Below.setCell (p:=⟨z,2,none⟩) (Below.setCell (p:=⟨z,1,none⟩) (Below.setCell (p:=⟨z,0,none⟩) HB.out aA.out _) aA.out _) aA.out _) aA.out _) aA.out _
  · intro l a w i hJ hi
    have hJ0:=hJ
    obtain ⟨hsz,val,lo,hi',rfl,h4,h6,h6'⟩:=hJ
    obtain ⟨b0,b1,b2,b3,b4,b5,rfl⟩:=size6 hsz
    obtain ⟨hun,o,ho,hall⟩:=mem_ready.1 hi
    have aT:i<6:=(Array.getElem?_eq_some_iff.1 ho).1
    rcases (show i=0∨i=1∨i=2∨i=3∨i=4∨i=5 by omega) with rfl|rfl|rfl|rfl|rfl|rfl
    · obtain rfl:b0=false:=hun
      obtain ⟨rfl,e4⟩:=iopJ_off hJ0 (.inl rfl)
      obtain rfl:=e4 (.inl rfl)
      exact ⟨_,rfl,fun K' hK=>event_step (v:=Ud 0 w.heap.size) (w1:=w.alloc (openO 0)) rfl (by have hm:=make_run (P:=Try.prog) (cs:=openC 0) Try.underlying23 info3 3 (by decide) (by decide) (by decide) (by kernel_rfl) w;go_simp;exact ⟨rfl,rfl⟩) (hK.out _ _ (iopJ_add (h6 rfl) 0 rfl rfl (fun k=>by unfold iopB upd;match k with|0|1|2|3|4|5=>rfl|k+6=>simp) (fun e=>by cases e) (by rfl)))⟩
    · obtain rfl:b1=false:=hun
      obtain ⟨rfl,e4⟩:=iopJ_off hJ0 (.inr (.inl rfl))
      obtain rfl:=e4 (.inr (.inl rfl))
      exact ⟨_,rfl,fun K' hK=>event_step (v:=Ud 1 w.heap.size) (w1:=w.alloc (openO 1)) rfl (by have hm:=make_run (P:=Try.prog) (cs:=openC 1) Try.underlying23 info3 2 (by decide) (by decide) (by decide) (by kernel_rfl) w;go_simp;exact ⟨rfl,rfl⟩) (hK.out _ _ (iopJ_add (h6 rfl) 1 rfl rfl (fun k=>by unfold iopB upd;match k with|0|1|2|3|4|5=>rfl|k+6=>simp) (fun e=>by cases e) (by rfl)))⟩
    · obtain rfl:b2=false:=hun
      obtain ⟨rfl,e4⟩:=iopJ_off hJ0 (.inr (.inr (.inl rfl)))
      obtain rfl:=e4 (.inr (.inr rfl))
      exact ⟨_,rfl,fun K' hK=>event_step (v:=Ud 2 w.heap.size) (w1:=w.alloc (openO 2)) rfl (by have hm:=make_run (P:=Try.prog) (cs:=openC 2) Try.underlying42 info23 2 (by decide) (by decide) (by decide) (by kernel_rfl) w;go_simp;exact ⟨rfl,rfl⟩) (hK.out _ _ (iopJ_add (h6 rfl) 2 rfl rfl (fun k=>by unfold iopB upd;match k with|0|1|2|3|4|5=>rfl|k+6=>simp) (fun e=>by cases e) (by rfl)))⟩
    · obtain rfl:b3=false:=hun
      obtain ⟨rfl,_⟩:=iopJ_off hJ0 (.inr (.inr (.inr (.inl rfl))))
      have hh:b0=true∧b1=true∧b2=true:=by
        revert hi
        clear hall h4 h6 h6' hJ0 ho aT
        cases b0 <;> cases b1 <;> cases b2 <;> cases b4 <;> (intro hi;first|exact ⟨rfl,rfl,rfl⟩|exact absurd hi (ready_not (by kernel_rfl)))
      obtain ⟨rfl,rfl,rfl⟩:=hh
      refine ⟨_,rfl,fun K' hK=>event_step (v:=.agg #[.slice none 0 0,val 0,val 1,val 2,.slice none 0 0]) (w1:=w) rfl ?_ (hK.out _ _ ⟨rfl,val,lo,hi',(by rfl),(fun _=>⟨rfl,rfl,rfl⟩),(fun _=>(h6 rfl).congr (fun k=>by unfold iopB;match k with|0|1|2|3|4|5=>rfl|k+6=>simp)),(fun e=>by cases e)⟩)⟩
      have v0:=((h6 rfl).each 0 rfl).1.2.1
      have v1:=((h6 rfl).each 1 rfl).1.2.1
      have v2:=((h6 rfl).each 2 rfl).1.2.1
      simp only [Ud] at v0 v1 v2
      simp only [iopT,v0,v1,v2]
      go_simp
    · obtain rfl:b4=false:=hun
      obtain ⟨rfl,_⟩:=iopJ_off hJ0 (.inr (.inr (.inr (.inr rfl))))
      have h4':b3=true→b0=true∧b1=true∧b2=true:=h4
      exact ⟨_,rfl,fun K' hK=>event_step (v:=Ud 4 w.heap.size) (w1:=w.alloc (openO 4)) rfl (by go_simp;exact ⟨rfl,rfl⟩) (hK.out _ _ (iopJ_add (l':=#[b0,b1,b2,b3,true,false]) (h6 rfl) 4 rfl rfl (fun k=>by unfold iopB upd;match k with|0|1|2|3|4|5=>rfl|k+6=>simp) h4' (by rfl)))⟩
    · obtain rfl:b5=false:=hun
      have hh:b0=true∧b1=true∧b2=true∧b3=true∧b4=true:=by
        have h4':b3=true→b0=true∧b1=true∧b2=true:=h4
        have e45:b3=true∧b4=true:=by
          revert hi
          clear hall h4 h6 h6' hJ0 ho aT h4'
          cases b0 <;> cases b1 <;> cases b2 <;> cases b3 <;> cases b4 <;> (intro hi;first|exact ⟨rfl,rfl⟩|exact absurd hi (ready_not (by kernel_rfl)))
        obtain ⟨a,b,c⟩:=h4' e45.1
        exact ⟨a,b,c,e45⟩
      obtain ⟨rfl,rfl,rfl,rfl,rfl⟩:=hh
      have hM:=h6 rfl
      obtain ⟨k0,v0,l0'⟩:=(hM.each 0 rfl).1
      obtain ⟨k1,v1,l1'⟩:=(hM.each 1 rfl).1
      obtain ⟨k2,v2,l2'⟩:=(hM.each 2 rfl).1
      obtain ⟨k5,v5,l5'⟩:=(hM.each 4 rfl).1
      have aG:w.heap[lo 4]?=some ZB:=k5
      obtain ⟨z0,z1,z2,z3,z4⟩:=ZB.cells aG
      have f0:=Xb aG 0
      have f1:=Xb aG 1
      have f2:=Xb aG 2
      have f3:=Xb aG 3
      have f4:=Xb aG 4
      refine ⟨_,rfl,fun K' hK=>skip_ (w1:=iopPut lo w) rfl rfl ?_ (hK.out _ _ ⟨rfl,val,lo,hi',(by rfl),(fun _=>⟨rfl,rfl,rfl⟩),(fun e=>by cases e),(fun _=>⟨⟨rfl,rfl⟩,w,hM.congr (fun k=>by unfold iopB;match k with|0|1|2|3|4|5=>rfl|k+6=>simp),rfl⟩)⟩)⟩
      simp only [Ud] at v0 v1 v2 v5
      simp only [iopT,iopPut,Ud,v0,v1,v2,v5]
      go_simp
end Go.Proofs.Ytlhogkfmdnpmkaa.Mean
