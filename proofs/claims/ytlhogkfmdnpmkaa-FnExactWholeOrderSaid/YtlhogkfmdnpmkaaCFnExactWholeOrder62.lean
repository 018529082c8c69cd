import Derived.Test.YtlhogkfmdnpmkaaCFnExactWholeOrder47
import Derived.Test.YtlhogkfmdnpmkaaCFnExactWholeOrder61
set_option maxRecDepth 100000
set_option linter.unusedVariables false
set_option linter.unusedSectionVars false
set_option linter.unusedSimpArgs false
namespace Go.Proofs.Ytlhogkfmdnpmkaa.Mean
open Go.RowKit Go.Proofs.Ytlhogkfmdnpmkaa.GWhole Go.Proofs.YtlhogkfmdnpmkaaW.PrintWords Go.Proofs.YtlhogkfmdnpmkaaW.PrintLast Go.Proofs.YtlhogkfmdnpmkaaW.PrintMore
variable [Prot]
def goesL (s:WS) (i:Nat) (t:T):List T:=if (s.proc i).regs t.f1.toNat≠0 then (if t.f0=7 then t.f4 ++ [t] else t.f4) else if t.f0=6 then t.f5 else []
structure TIn (W:World) (t:T) (A4:Option Addr) (c4:Nat) (A5:Option Addr) (c5:Nat) (P0:Nat→Prop):Prop where
  v4:Kd.V KT 69 W 0 P0 (.slice A4 t.f4.length c4) t.f4
  v5:Kd.V KT 69 W 0 P0 (.slice A5 t.f5.length c5) t.f5
  l4:t.f4.length≤100
  l5:t.f5.length≤100
theorem ahead_is (l m:List T) (h:l.length≤1000000) (h':m.length≤1000000):Zq.f l m=some (l ++ m):=by
  unfold Zq.f
  simp only [Option.bind_some,List.nil_append,List.length_nil]
  rw [if_pos (by omega),if_pos (by omega)]
theorem TIn.below {W W1:World} {t:T} {A4:Option Addr} {c4:Nat} {A5:Option Addr} {c5:Nat} {P0:Nat→Prop} {n:Nat} (h:TIn W t A4 c4 A5 c5 P0) (hn:W.heap.size=n) (hb:Below n W W1):TIn W1 t A4 c4 A5 c5 P0:=by
  subst hn;exact ⟨Kd.V_below h.v4 hb,Kd.V_below h.v5 hb,h.l4,h.l5⟩
theorem RS.new {W W1:World} {base g z:Nat} {ok ex:Nat→Prop} {b:BK} {s:WS} (h:RS W base ok b s g z ex W1) {k:Nat} (hk:W1.heap.size≤k):(ok k∧¬ ex k)∧free (lay b s) k:=
  ⟨h.st.up k hk,fun a x hx hxk=>by have:=(h.st.at_.rows.at_ a x hx).lt k hxk;omega⟩
theorem V_lt {W:World} {b b':Nat} {P0:Nat→Prop} {v:Value} {l:List T} (h:Kd.V KT 69 W b P0 v l):Kd.V KT 69 W b' (fun k=>P0 k∧k<W.heap.size) v l:=Kd.V_bound (e:=69) (base:=b') h
theorem TIn.lt {W:World} {t:T} {A4:Option Addr} {c4:Nat} {A5:Option Addr} {c5:Nat} {P0:Nat→Prop} (h:TIn W t A4 c4 A5 c5 P0):TIn W t A4 c4 A5 c5 (fun k=>P0 k∧k<W.heap.size):=⟨V_lt h.v4,V_lt h.v5,h.l4,h.l5⟩
theorem V_empty (W:World) (b:Nat) (P0:Nat→Prop) (A:Option Addr):Kd.V KT 69 W b P0 (.slice A ([]:List T).length 0) ([]:List T):=
  Kd.V_mk (Nat.le_refl _) (fun W' _=>⟨rfl,by simp,fun h=>by simp at h⟩)
theorem Ub {W W1:World} {b b':Nat} {P0:Nat→Prop} {v:Value} {l:List T} (h:Kd.V KT 69 W b P0 v l) (hb:Below W.heap.size W W1):Kd.V KT 69 W1 b' P0 v l:=Kd.V_below (e:=69) (base:=b') h hb
set_option maxHeartbeats 4000000 in
theorem goes_do (W:World) (base:Nat) (ok:Nat→Prop) (b:BK) (s:WS) (i:Nat) (t:T) (A4:Option Addr) (aC:Nat) (A5:Option Addr) (aF:Nat) (P0:Nat→Prop) (Ar:Option Addr) (cR:Nat) (rest:List T) (h:At W base ok b s) (hup:∀ k,W.heap.size≤k→ok k) (hi:i<s.n) (ht:TIn W t A4 aC A5 aF P0)
    (hr:Kd.V KT 69 W 0 P0 (.slice Ar rest.length cR) rest) (hp:∀ k,P0 k→ok k∧free (lay b s) k) (hk:t.f0=6∨t.f0=7) (ha:0≤t.f1∧t.f1<3) (hlr:rest.length≤400000) :
    Calls Try.prog 36 #[RV b,.int .i64 (i:Int),.agg #[.int .i64 t.f0,.int .i64 t.f1,.int .i64 t.f2,.int .i64 t.f3,.slice A4 t.f4.length aC,.slice A5 t.f5.length aF],.slice Ar rest.length cR] W (RL W base ok (s.Yx i { s.proc i with todo:=goesL s i t ++ rest })):=by
  obtain ⟨k,ta,tb,tn,l4,l5⟩:=t
  dsimp only at ha hk
  obtain ⟨a',rfl⟩:=Int.eq_ofNat_of_zero_le ha.1
  have HT:=Xa.mk (TIn.lt ht)
  have HRS:=Xa.mk (V_lt (b':=0) hr)
  have HPP:=Xa.mk hp
  have HLR:=Xa.mk hlr
  have hsz0:W.heap.size≤W.heap.size:=Nat.le_refl _
  clear ht hr hp hlr
  obtain ⟨P,C,M,S,Ad,q0,q1,q2,q3,q4,HF⟩:=h.forms (by omega)
  have R:=RS.start3 h hup (.cells #[.int .i64 k,.int .i64 (a':Int),.int .i64 tb,.int .i64 tn,.slice A4 l4.length aC,.slice A5 l5.length aF] 69)
  rw [HF.rb] at R
  rw [HF.rv]
  have HFA:=Xa.mk HF
  clear h hup HF
  go_enter Try.func36,Try.ntmps36
  go_upto_region 1 with (fail)
  generalize ((W.alloc (.cells #[.slice (some ⟨P,0,none⟩) s.n q0,.slice (some ⟨C,0,none⟩) 3 q1,.slice (some ⟨M,0,none⟩) 2 q2,.slice (some ⟨S,0,none⟩) 2 q3,.slice Ad s.said.length q4] 45)).alloc (.cells #[.int .i64 k,.int .i64 (a':Int),.int .i64 tb,.int .i64 tn,.slice A4 l4.length aC,.slice A5 l5.length aF] 69)).alloc ZB=W1 at *
  obtain ⟨R,hsb,hbW⟩:=R
  generalize hgz:W.heap.size+1+1=z at *
  generalize hgs:W.heap.size+1=sb at *
  generalize hg:W.heap.size=g at *
  obtain ⟨c0,c1,c2,c3,c4⟩:=HFA.out.cells R.st.wb
  have HP:=R.st.at_.Yj (by omega) HFA.out.p
  obtain ⟨b0,b1,b2,b3,b4,b5⟩:=box6 hsb
  have i0:(0:Int)≤(i:Int):=by omega
  have i1:(i:Int)<(s.n:Int):=by omega
  have i2:decide (i<s.n)=true:=decide_eq_true hi
  obtain ⟨Rg,cr,HR⟩:=R.st.at_.regs hi
  have p0:=HP.cell i 0 hi (by omega)
  simp only [Yr,if_true,Nat.add_zero] at p0
  rw [HR.v_] at p0
  have r_a:=HR.cell a' (by omega)
  have f_a:=HR.free_ a'
  have a3:(a':Int)<3:=by omega
  have a4:decide (a'<3)=true:=decide_eq_true (by omega)
  have ht1:=TIn.below HT.out hg hbW
  have hr1:Kd.V KT 69 W1 0 (fun k=>P0 k∧k<g) (.slice Ar rest.length cR) rest:=Ub HRS.out (hg.symm ▸ hbW)
  have hli:=(show Addr from ⟨0,0,none⟩)
  clear hli HT HRS
  have k6:k=6∨k=7:=hk
  clear hk
  by_cases hx:(s.proc i).regs a'=0
  · have hx1:((s.proc i).regs a' != 0)=false:=by simp [hx]
    have HX:=Xa.mk hx
    clear hx
    go_quiet (fail)
    go_upto_region 2 with (fail)
    generalize hW2:W1.drewN _=W2
    have hb2:Below W1.heap.size W1 W2:=hW2 ▸ Xh (Below.refl _ _) _
    have R2:=R.below hb2
    have aD:=(hb2.block sb (Yu hsb)).trans hsb
    have ht2:=TIn.below ht1 rfl hb2
    have hr2:Kd.V KT 69 W2 0 (fun k=>P0 k∧k<g) (.slice Ar rest.length cR) rest:=Ub hr1 hb2
    have hbW2:Below g W W2:=hbW.trans (hb2.mono (hg ▸ hbW.size))
    clear hW2 c0 c1 c2 c3 c4 HP b0 b1 b2 b3 b4 b5 p0 r_a f_a hsb R HR ht1 hr1 hb2 hbW
    go_upto_region 3 with (fail)
    have hb3:Below W2.heap.size W2 (W2.alloc (.cells #[] 69)):=Xj (Below.refl _ _) _
    generalize (W2.alloc (.cells #[] 69))=W3 at *
    obtain ⟨n2,hn2⟩:∃ n2,W2.heap.size=n2:=⟨_,rfl⟩
    rw [hn2] at hb3 ⊢
    have R3:=R2.below (hn2 ▸ hb3)
    have aB:=(hb3.block sb (hn2 ▸ Yu aD)).trans aD
    have ht3:=TIn.below ht2 hn2 hb3
    have hr3:Kd.V KT 69 W3 0 (fun k=>P0 k∧k<g) (.slice Ar rest.length cR) rest:=Ub hr2 (hn2 ▸ hb3)
    have aA:Below g W W3:=hbW2.trans (hb3.mono (hn2 ▸ hg ▸ hbW2.size))
    clear R2 aD ht2 hr2 hbW2 hb3 hn2
    obtain ⟨b0,b1,b2,b3,b4,b5⟩:=box6 aB
    rcases k6 with rfl|rfl
    · go_upto_region 9 with (fail)
      have HVL:Xa (Kd.V KT 69 W3.drew W3.drew.heap.size (fun k=>P0 k∧k<g) (.slice A5 l5.length aF) l5):=⟨Ub ht3.v5 (Xl (Below.refl _ _))⟩
      have HAH:Xa (Zq.f l5 rest=some (l5 ++ rest)):=⟨ahead_is _ _ (by have:=ht3.l5;dsimp only at this;omega) (by have:=HLR.out;omega)⟩
      have hbd:Below W3.heap.size W3 W3.drew:=Xl (Below.refl _ _)
      have RD:=R3.below hbd
      have hPD:=RD.st.at_.Yj (by omega) HFA.out.p
      have hVT:=RD.st.at_.tree i hi
      obtain ⟨AT,cT,eT⟩:=Kd.V_slice hVT
      have p1:=hPD.cell i 1 hi (by omega)
      simp only [Yr,eT] at p1
      simp at p1
      have aG:Xa (W3.drew.cell? ⟨g,0,none⟩=some (.slice (some ⟨P,0,none⟩) s.n q0)):=⟨(HFA.out.cells RD.st.wb).1⟩
      have aI:Xa (W3.drew.cell? ⟨P,i * 5+1,none⟩=some (.slice AT (s.proc i).todo.length cT)):=⟨p1⟩
      have HPF:Xa (W3.drew.frozen? ⟨P,i * 5+1,none⟩=false):=⟨hPD.free_ _⟩
      have HPL:Xa (P<W3.drew.heap.size):=⟨hPD.lt⟩
      have HVR:Xa (Kd.V KT 69 W3.drew W3.drew.heap.size (fun k=>P0 k∧k<g) (.slice Ar rest.length cR) rest):=⟨Ub hr3 hbd⟩
      have HRD:=Xa.mk RD
      have HI:=Xa.mk hi
      have HBW:=Xa.mk (aA)
      have HQQ:Xa (∀ k,P0 k∧k<g→(ok k∧¬ (k=g∨k=sb∨k=z))∧free (lay b s) k):=⟨fun k hk=>⟨⟨(HPP.out k hk.1).1,by have:=hk.2;omega⟩,(HPP.out k hk.1).2⟩⟩
      have HEQ:Xa (goesL s i (⟨6,(a':Int),tb,tn,l4,l5⟩:T)=l5):=⟨by unfold goesL;have:=HX.out;simp [this]⟩
      clear hbd RD hPD hVT p1 hr3 R3 ht3 aB b0 b1 b2 b3 b4 b5 aA eT
      refine start_ (n:=9) (S:=fun w'=>w'.cell? ⟨g,0,none⟩=some (.slice (some ⟨P,0,none⟩) s.n q0)) (ds:=[8]) #[false,false,false,false,false,false,false,false,false] (by kernel_rfl) rfl (by rfl) aG.out (fun hHeld=>?_)
      refine Xp (i:=0) (N:=some 45) (v:=?_) (a':=?_) #[true,false,false,false,false,false,false,false,false] rfl rfl (by kernel_rfl) (fun _ _ _ h=>h) (Or.inl ⟨by rfl,?_⟩) ?_ ?_
      rotate_left
      · exact wr_
      rotate_left
      · exact ap_
      refine Xp (i:=2) (N:=some 47) (v:=?_) (a':=?_) #[true,false,true,false,false,false,false,false,false] rfl rfl (by kernel_rfl) (fun _ _ _ h=>h) (Or.inl ⟨by rfl,?_⟩) ?_ ?_
      rotate_left
      · exact wr_
      rotate_left
      · exact ap_
      refine Xp (i:=3) (N:=some 48) (v:=?_) (a':=?_) #[true,false,true,true,false,false,false,false,false] rfl rfl (by kernel_rfl) (fun _ _ _ h=>h) (Or.inl ⟨by rfl,?_⟩) ?_ ?_
      rotate_left
      · exact wr_
      rotate_left
      · exact ap_
      refine Xp (i:=4) (N:=some 49) (v:=?_) (a':=?_) #[true,false,true,true,true,false,false,false,false] rfl rfl (by kernel_rfl) (fun _ _ _ h=>h) (Or.inl ⟨by rfl,?_⟩) ?_ ?_
      rotate_left
      · exact wr_
      rotate_left
      · exact ap_
      refine Zp (i:=1) (N:=some 46) (v:=?_) (a':=?_) #[true,true,true,true,true,false,false,false,false] rfl rfl (by kernel_rfl) (fun _ _ _ h=>h) (Or.inl ⟨by rfl,?_⟩) hHeld ?_ ?_
      rotate_left
      · rintro w' s0
        go_simp
        with_reducible rfl
      rotate_left
      · exact ap_
      refine one_ (i:=5) (N:=some 50) #[true,true,true,true,true,true,false,false,false] rfl rfl (by kernel_rfl) (by decide) (fun K hK=>?_)
      refine goes_ Try.func55 (by kernel_rfl) rfl #[.slice A5 l5.length aF,.slice Ar rest.length cR] (by rfl) rfl rfl ga_ ?_
      refine (Zq.calls (fun k=>P0 k∧k<g) A5 aF l5 (fun k=>P0 k∧k<g) Ar cR rest (l5 ++ rest) W3.drew HVL.out HVR.out HAH.out).mono ?_
      rintro e w1 ⟨v1,rfl,hn1,hb1⟩
      refine ⟨_,rfl,?_⟩
      obtain ⟨A3,c3,aJ⟩:=Kd.N_slice hn1
      subst aJ
      have aH:=Xa.mk hn1
      have HB1:=Xa.mk hb1
      clear hn1 hb1
      have hx1:=Xc HB1.out aI.out
      have hf1:w1.frozen? ⟨P,i * 5+1,none⟩=false:=by rw [World.frozen?_of_block (HB1.out.block P HPL.out)];exact HPF.out
      refine hK.out _ _ (Xc HB1.out aG.out) (fun hHeld=>?_)
      clear hK K
      refine Zj (a':=?_) ?_ ?_
      rotate_left
      · show Act.put _ (some 50) _=_
        simp only [Act.put,List.setIfInBounds_toArray,List.set_cons_zero,List.set_cons_succ,Zc,Zb]
        rfl
      refine Xp (i:=6) (N:=some 51) (v:=?_) (a':=?_) #[true,true,true,true,true,true,true,false,false] rfl rfl (by kernel_rfl) (fun _ _ _ h=>h) (Or.inl ⟨by rfl,?_⟩) ?_ ?_
      rotate_left
      · exact wr_
      rotate_left
      · exact ap_
      refine Xp (i:=7) (N:=some 52) (v:=?_) (a':=?_) #[true,true,true,true,true,true,true,true,false] rfl rfl (by kernel_rfl) (fun _ _ _ h=>h) (Or.inl ⟨by rfl,?_⟩) ?_ ?_
      rotate_left
      · exact wr_
      rotate_left
      · exact ap_
      refine last_ (i:=8) (N:=none) #[true,true,true,true,true,true,true,true,true] rfl rfl (by kernel_rfl) (by decide) (fun K hK=>?_)
      refine skip_ (w1:=w1.setCell ⟨P,i * 5+1,none⟩ (.slice A3 (l5 ++ rest).length c3)) rfl rfl ?_ ?_
      · first|(go_simp;done)|(go_simp;rfl)
      refine hK.out _ _ ?_
      clear hK K
      refine done_ (by kernel_rfl) ?_
      skip
      go_upto_region 10 with (fail)
      have RE:=HRD.out.below HB1.out
      have hv:Kd.V KT 69 w1 base (fun k=>(ok k∧¬ (k=g∨k=sb∨k=z))∧free (lay b s) k) (.slice A3 (l5 ++ rest).length c3) (l5 ++ rest):=Kd.Um (Kd.N_V (base':=base) aH.out) (fun k hk=>by
        rcases hk with (hk|hk)|hk
        · first|exact HQQ.out k hk|exact hk.elim (HQQ.out k) (HNEW.out k)
        · exact HQQ.out k hk
        · exact HRD.out.new hk)
      have hw:=RE.st.at_.todo RE.st.up (i:=i) HI.out _ (l5 ++ rest) (RE.st.at_.Yj (Nat.lt_of_le_of_lt (Nat.zero_le i) HI.out) HFA.out.p) hv
      have RF:=RE.write (t':=up b.t i (.slice A3 (l5 ++ rest).length c3)) (q':=b.q) hw
      clear RE hw hv hx1 hf1
      generalize w1.setCell ⟨P,i * 5+1,none⟩ (.slice A3 (l5 ++ rest).length c3)=W9 at *
      have HFB:Forms { b with t:=up b.t i (.slice A3 (l5 ++ rest).length c3),q:=b.q } (s.Yx i { s.proc i with todo:=l5 ++ rest }) P C M S Ad q0 q1 q2 q3 q4:=⟨HFA.out.p,HFA.out.c,HFA.out.m,HFA.out.g,HFA.out.d⟩
      obtain ⟨d0,d1,d2,d3,d4⟩:=Forms.cells HFB RF.st.wb
      obtain ⟨z0,z1,z2,z3,z4⟩:=RF.zc
      have f0:=Xb RF.z_ 0
      have f1:=Xb RF.z_ 1
      have f2:=Xb RF.z_ 2
      have f3:=Xb RF.z_ 3
      have f4:=Xb RF.z_ 4
      have HFIN:=Xa.mk (RF.finish HFB)
      go_wp2
      (try simp only [Exit.inBlock,Exit.then])
      refine bodyPost_ret (results_cell_row rfl _ _ z 45 #[.slice (some ⟨P,0,none⟩) s.n q0,.slice (some ⟨C,0,none⟩) 3 q1,.slice (some ⟨M,0,none⟩) 2 q2,.slice (some ⟨S,0,none⟩) 2 q3,.slice Ad s.said.length q4] (0,0) _ rfl HFIN.out.1 Try.underlying45 rfl (by kernel_rfl)) rfl ?_
      rw [HEQ.out]
      exact HFIN.out.2
    · go_upto_region 9 with (fail)
      have HVL:Xa (Kd.V KT 69 W3.drew W3.drew.heap.size (fun k=>P0 k∧k<g) (.slice (some ⟨n2,0,none⟩) ([]:List T).length 0) ([]:List T)):=⟨V_empty _ _ _ _⟩
      have HAH:Xa (Zq.f ([]:List T) rest=some (([]:List T) ++ rest)):=⟨ahead_is _ _ (by simp) (by have:=HLR.out;omega)⟩
      have hbd:Below W3.heap.size W3 W3.drew:=Xl (Below.refl _ _)
      have RD:=R3.below hbd
      have hPD:=RD.st.at_.Yj (by omega) HFA.out.p
      have hVT:=RD.st.at_.tree i hi
      obtain ⟨AT,cT,eT⟩:=Kd.V_slice hVT
      have p1:=hPD.cell i 1 hi (by omega)
      simp only [Yr,eT] at p1
      simp at p1
      have aG:Xa (W3.drew.cell? ⟨g,0,none⟩=some (.slice (some ⟨P,0,none⟩) s.n q0)):=⟨(HFA.out.cells RD.st.wb).1⟩
      have aI:Xa (W3.drew.cell? ⟨P,i * 5+1,none⟩=some (.slice AT (s.proc i).todo.length cT)):=⟨p1⟩
      have HPF:Xa (W3.drew.frozen? ⟨P,i * 5+1,none⟩=false):=⟨hPD.free_ _⟩
      have HPL:Xa (P<W3.drew.heap.size):=⟨hPD.lt⟩
      have HVR:Xa (Kd.V KT 69 W3.drew W3.drew.heap.size (fun k=>P0 k∧k<g) (.slice Ar rest.length cR) rest):=⟨Ub hr3 hbd⟩
      have HRD:=Xa.mk RD
      have HI:=Xa.mk hi
      have HBW:=Xa.mk (aA)
      have HQQ:Xa (∀ k,P0 k∧k<g→(ok k∧¬ (k=g∨k=sb∨k=z))∧free (lay b s) k):=⟨fun k hk=>⟨⟨(HPP.out k hk.1).1,by have:=hk.2;omega⟩,(HPP.out k hk.1).2⟩⟩
      have HEQ:Xa (goesL s i (⟨7,(a':Int),tb,tn,l4,l5⟩:T)=([]:List T)):=⟨by unfold goesL;have:=HX.out;simp [this]⟩
      clear hbd RD hPD hVT p1 hr3 R3 ht3 aB b0 b1 b2 b3 b4 b5 aA eT
      refine start_ (n:=9) (S:=fun w'=>w'.cell? ⟨g,0,none⟩=some (.slice (some ⟨P,0,none⟩) s.n q0)) (ds:=[8]) #[false,false,false,false,false,false,false,false,false] (by kernel_rfl) rfl (by rfl) aG.out (fun hHeld=>?_)
      refine Xp (i:=0) (N:=some 45) (v:=?_) (a':=?_) #[true,false,false,false,false,false,false,false,false] rfl rfl (by kernel_rfl) (fun _ _ _ h=>h) (Or.inl ⟨by rfl,?_⟩) ?_ ?_
      rotate_left
      · exact wr_
      rotate_left
      · exact ap_
      refine Xp (i:=2) (N:=some 47) (v:=?_) (a':=?_) #[true,false,true,false,false,false,false,false,false] rfl rfl (by kernel_rfl) (fun _ _ _ h=>h) (Or.inl ⟨by rfl,?_⟩) ?_ ?_
      rotate_left
      · exact wr_
      rotate_left
      · exact ap_
      refine Xp (i:=3) (N:=some 48) (v:=?_) (a':=?_) #[true,false,true,true,false,false,false,false,false] rfl rfl (by kernel_rfl) (fun _ _ _ h=>h) (Or.inl ⟨by rfl,?_⟩) ?_ ?_
      rotate_left
      · exact wr_
      rotate_left
      · exact ap_
      refine Xp (i:=4) (N:=some 49) (v:=?_) (a':=?_) #[true,false,true,true,true,false,false,false,false] rfl rfl (by kernel_rfl) (fun _ _ _ h=>h) (Or.inl ⟨by rfl,?_⟩) ?_ ?_
      rotate_left
      · exact wr_
      rotate_left
      · exact ap_
      refine Zp (i:=1) (N:=some 46) (v:=?_) (a':=?_) #[true,true,true,true,true,false,false,false,false] rfl rfl (by kernel_rfl) (fun _ _ _ h=>h) (Or.inl ⟨by rfl,?_⟩) hHeld ?_ ?_
      rotate_left
      · rintro w' s0
        go_simp
        with_reducible rfl
      rotate_left
      · exact ap_
      refine one_ (i:=5) (N:=some 50) #[true,true,true,true,true,true,false,false,false] rfl rfl (by kernel_rfl) (by decide) (fun K hK=>?_)
      refine goes_ Try.func55 (by kernel_rfl) rfl #[.slice (some ⟨n2,0,none⟩) ([]:List T).length 0,.slice Ar rest.length cR] (by rfl) rfl rfl ga_ ?_
      refine (Zq.calls (fun k=>P0 k∧k<g) (some ⟨n2,0,none⟩) 0 ([]:List T) (fun k=>P0 k∧k<g) Ar cR rest (([]:List T) ++ rest) W3.drew HVL.out HVR.out HAH.out).mono ?_
      rintro e w1 ⟨v1,rfl,hn1,hb1⟩
      refine ⟨_,rfl,?_⟩
      obtain ⟨A3,c3,aJ⟩:=Kd.N_slice hn1
      subst aJ
      have aH:=Xa.mk hn1
      have HB1:=Xa.mk hb1
      clear hn1 hb1
      have hx1:=Xc HB1.out aI.out
      have hf1:w1.frozen? ⟨P,i * 5+1,none⟩=false:=by rw [World.frozen?_of_block (HB1.out.block P HPL.out)];exact HPF.out
      refine hK.out _ _ (Xc HB1.out aG.out) (fun hHeld=>?_)
      clear hK K
      refine Zj (a':=?_) ?_ ?_
      rotate_left
      · show Act.put _ (some 50) _=_
        simp only [Act.put,List.setIfInBounds_toArray,List.set_cons_zero,List.set_cons_succ,Zc,Zb]
        rfl
      refine Xp (i:=6) (N:=some 51) (v:=?_) (a':=?_) #[true,true,true,true,true,true,true,false,false] rfl rfl (by kernel_rfl) (fun _ _ _ h=>h) (Or.inl ⟨by rfl,?_⟩) ?_ ?_
      rotate_left
      · exact wr_
      rotate_left
      · exact ap_
      refine Xp (i:=7) (N:=some 52) (v:=?_) (a':=?_) #[true,true,true,true,true,true,true,true,false] rfl rfl (by kernel_rfl) (fun _ _ _ h=>h) (Or.inl ⟨by rfl,?_⟩) ?_ ?_
      rotate_left
      · exact wr_
      rotate_left
      · exact ap_
      refine last_ (i:=8) (N:=none) #[true,true,true,true,true,true,true,true,true] rfl rfl (by kernel_rfl) (by decide) (fun K hK=>?_)
      refine skip_ (w1:=w1.setCell ⟨P,i * 5+1,none⟩ (.slice A3 (([]:List T) ++ rest).length c3)) rfl rfl ?_ ?_
      · first|(go_simp;done)|(go_simp;rfl)
      refine hK.out _ _ ?_
      clear hK K
      refine done_ (by kernel_rfl) ?_
      skip
      go_upto_region 10 with (fail)
      have RE:=HRD.out.below HB1.out
      have hv:Kd.V KT 69 w1 base (fun k=>(ok k∧¬ (k=g∨k=sb∨k=z))∧free (lay b s) k) (.slice A3 (([]:List T) ++ rest).length c3) (([]:List T) ++ rest):=Kd.Um (Kd.N_V (base':=base) aH.out) (fun k hk=>by
        rcases hk with (hk|hk)|hk
        · first|exact HQQ.out k hk|exact hk.elim (HQQ.out k) (HNEW.out k)
        · exact HQQ.out k hk
        · exact HRD.out.new hk)
      have hw:=RE.st.at_.todo RE.st.up (i:=i) HI.out _ (([]:List T) ++ rest) (RE.st.at_.Yj (Nat.lt_of_le_of_lt (Nat.zero_le i) HI.out) HFA.out.p) hv
      have RF:=RE.write (t':=up b.t i (.slice A3 (([]:List T) ++ rest).length c3)) (q':=b.q) hw
      clear RE hw hv hx1 hf1
      generalize w1.setCell ⟨P,i * 5+1,none⟩ (.slice A3 (([]:List T) ++ rest).length c3)=W9 at *
      have HFB:Forms { b with t:=up b.t i (.slice A3 (([]:List T) ++ rest).length c3),q:=b.q } (s.Yx i { s.proc i with todo:=([]:List T) ++ rest }) P C M S Ad q0 q1 q2 q3 q4:=⟨HFA.out.p,HFA.out.c,HFA.out.m,HFA.out.g,HFA.out.d⟩
      obtain ⟨d0,d1,d2,d3,d4⟩:=Forms.cells HFB RF.st.wb
      obtain ⟨z0,z1,z2,z3,z4⟩:=RF.zc
      have f0:=Xb RF.z_ 0
      have f1:=Xb RF.z_ 1
      have f2:=Xb RF.z_ 2
      have f3:=Xb RF.z_ 3
      have f4:=Xb RF.z_ 4
      have HFIN:=Xa.mk (RF.finish HFB)
      go_wp2
      (try simp only [Exit.inBlock,Exit.then])
      refine bodyPost_ret (results_cell_row rfl _ _ z 45 #[.slice (some ⟨P,0,none⟩) s.n q0,.slice (some ⟨C,0,none⟩) 3 q1,.slice (some ⟨M,0,none⟩) 2 q2,.slice (some ⟨S,0,none⟩) 2 q3,.slice Ad s.said.length q4] (0,0) _ rfl HFIN.out.1 Try.underlying45 rfl (by kernel_rfl)) rfl ?_
      rw [HEQ.out]
      exact HFIN.out.2
  · have hx1:((s.proc i).regs a' != 0)=true:=by simp [hx]
    have HX:=Xa.mk hx
    clear hx
    go_quiet (fail)
    go_upto_region 2 with (fail)
    generalize hW2:W1.drewN _=W2
    have hb2:Below W1.heap.size W1 W2:=hW2 ▸ Xh (Below.refl _ _) _
    have R2:=R.below hb2
    have aD:=(hb2.block sb (Yu hsb)).trans hsb
    have ht2:=TIn.below ht1 rfl hb2
    have hr2:Kd.V KT 69 W2 0 (fun k=>P0 k∧k<g) (.slice Ar rest.length cR) rest:=Ub hr1 hb2
    have hbW2:Below g W W2:=hbW.trans (hb2.mono (hg ▸ hbW.size))
    clear hW2 c0 c1 c2 c3 c4 HP b0 b1 b2 b3 b4 b5 p0 r_a f_a hsb R HR ht1 hr1 hb2 hbW
    go_upto_region 3 with (fail)
    have hb3:Below W2.heap.size W2 (W2.alloc (.cells #[] 69)):=Xj (Below.refl _ _) _
    generalize (W2.alloc (.cells #[] 69))=W3 at *
    obtain ⟨n2,hn2⟩:∃ n2,W2.heap.size=n2:=⟨_,rfl⟩
    rw [hn2] at hb3 ⊢
    have R3:=R2.below (hn2 ▸ hb3)
    have aB:=(hb3.block sb (hn2 ▸ Yu aD)).trans aD
    have ht3:=TIn.below ht2 hn2 hb3
    have hr3:Kd.V KT 69 W3 0 (fun k=>P0 k∧k<g) (.slice Ar rest.length cR) rest:=Ub hr2 (hn2 ▸ hb3)
    have aA:Below g W W3:=hbW2.trans (hb3.mono (hn2 ▸ hg ▸ hbW2.size))
    clear R2 aD ht2 hr2 hbW2 hb3 hn2
    obtain ⟨b0,b1,b2,b3,b4,b5⟩:=box6 aB
    rcases k6 with rfl|rfl
    · go_upto_region 9 with (fail)
      have HVL:Xa (Kd.V KT 69 W3.drew W3.drew.heap.size (fun k=>P0 k∧k<g) (.slice A4 l4.length aC) l4):=⟨Ub ht3.v4 (Xl (Below.refl _ _))⟩
      have HAH:Xa (Zq.f l4 rest=some (l4 ++ rest)):=⟨ahead_is _ _ (by have:=ht3.l4;dsimp only at this;omega) (by have:=HLR.out;omega)⟩
      have hbd:Below W3.heap.size W3 W3.drew:=Xl (Below.refl _ _)
      have RD:=R3.below hbd
      have hPD:=RD.st.at_.Yj (by omega) HFA.out.p
      have hVT:=RD.st.at_.tree i hi
      obtain ⟨AT,cT,eT⟩:=Kd.V_slice hVT
      have p1:=hPD.cell i 1 hi (by omega)
      simp only [Yr,eT] at p1
      simp at p1
      have aG:Xa (W3.drew.cell? ⟨g,0,none⟩=some (.slice (some ⟨P,0,none⟩) s.n q0)):=⟨(HFA.out.cells RD.st.wb).1⟩
      have aI:Xa (W3.drew.cell? ⟨P,i * 5+1,none⟩=some (.slice AT (s.proc i).todo.length cT)):=⟨p1⟩
      have HPF:Xa (W3.drew.frozen? ⟨P,i * 5+1,none⟩=false):=⟨hPD.free_ _⟩
      have HPL:Xa (P<W3.drew.heap.size):=⟨hPD.lt⟩
      have HVR:Xa (Kd.V KT 69 W3.drew W3.drew.heap.size (fun k=>P0 k∧k<g) (.slice Ar rest.length cR) rest):=⟨Ub hr3 hbd⟩
      have HRD:=Xa.mk RD
      have HI:=Xa.mk hi
      have HBW:=Xa.mk (aA)
      have HQQ:Xa (∀ k,P0 k∧k<g→(ok k∧¬ (k=g∨k=sb∨k=z))∧free (lay b s) k):=⟨fun k hk=>⟨⟨(HPP.out k hk.1).1,by have:=hk.2;omega⟩,(HPP.out k hk.1).2⟩⟩
      have HEQ:Xa (goesL s i (⟨6,(a':Int),tb,tn,l4,l5⟩:T)=l4):=⟨by unfold goesL;have:=HX.out;simp [this]⟩
      clear hbd RD hPD hVT p1 hr3 R3 ht3 aB b0 b1 b2 b3 b4 b5 aA eT
      refine start_ (n:=9) (S:=fun w'=>w'.cell? ⟨g,0,none⟩=some (.slice (some ⟨P,0,none⟩) s.n q0)) (ds:=[8]) #[false,false,false,false,false,false,false,false,false] (by kernel_rfl) rfl (by rfl) aG.out (fun hHeld=>?_)
      refine Xp (i:=0) (N:=some 45) (v:=?_) (a':=?_) #[true,false,false,false,false,false,false,false,false] rfl rfl (by kernel_rfl) (fun _ _ _ h=>h) (Or.inl ⟨by rfl,?_⟩) ?_ ?_
      rotate_left
      · exact wr_
      rotate_left
      · exact ap_
      refine Xp (i:=2) (N:=some 47) (v:=?_) (a':=?_) #[true,false,true,false,false,false,false,false,false] rfl rfl (by kernel_rfl) (fun _ _ _ h=>h) (Or.inl ⟨by rfl,?_⟩) ?_ ?_
      rotate_left
      · exact wr_
      rotate_left
      · exact ap_
      refine Xp (i:=3) (N:=some 48) (v:=?_) (a':=?_) #[true,false,true,true,false,false,false,false,false] rfl rfl (by kernel_rfl) (fun _ _ _ h=>h) (Or.inl ⟨by rfl,?_⟩) ?_ ?_
      rotate_left
      · exact wr_
      rotate_left
      · exact ap_
      refine Xp (i:=4) (N:=some 49) (v:=?_) (a':=?_) #[true,false,true,true,true,false,false,false,false] rfl rfl (by kernel_rfl) (fun _ _ _ h=>h) (Or.inl ⟨by rfl,?_⟩) ?_ ?_
      rotate_left
      · exact wr_
      rotate_left
      · exact ap_
      refine Zp (i:=1) (N:=some 46) (v:=?_) (a':=?_) #[true,true,true,true,true,false,false,false,false] rfl rfl (by kernel_rfl) (fun _ _ _ h=>h) (Or.inl ⟨by rfl,?_⟩) hHeld ?_ ?_
      rotate_left
      · rintro w' s0
        go_simp
        with_reducible rfl
      rotate_left
      · exact ap_
      refine one_ (i:=5) (N:=some 50) #[true,true,true,true,true,true,false,false,false] rfl rfl (by kernel_rfl) (by decide) (fun K hK=>?_)
      refine goes_ Try.func55 (by kernel_rfl) rfl #[.slice A4 l4.length aC,.slice Ar rest.length cR] (by rfl) rfl rfl ga_ ?_
      refine (Zq.calls (fun k=>P0 k∧k<g) A4 aC l4 (fun k=>P0 k∧k<g) Ar cR rest (l4 ++ rest) W3.drew HVL.out HVR.out HAH.out).mono ?_
      rintro e w1 ⟨v1,rfl,hn1,hb1⟩
      refine ⟨_,rfl,?_⟩
      obtain ⟨A3,c3,aJ⟩:=Kd.N_slice hn1
      subst aJ
      have aH:=Xa.mk hn1
      have HB1:=Xa.mk hb1
      clear hn1 hb1
      have hx1:=Xc HB1.out aI.out
      have hf1:w1.frozen? ⟨P,i * 5+1,none⟩=false:=by rw [World.frozen?_of_block (HB1.out.block P HPL.out)];exact HPF.out
      refine hK.out _ _ (Xc HB1.out aG.out) (fun hHeld=>?_)
      clear hK K
      refine Zj (a':=?_) ?_ ?_
      rotate_left
      · show Act.put _ (some 50) _=_
        simp only [Act.put,List.setIfInBounds_toArray,List.set_cons_zero,List.set_cons_succ,Zc,Zb]
        rfl
      refine Xp (i:=6) (N:=some 51) (v:=?_) (a':=?_) #[true,true,true,true,true,true,true,false,false] rfl rfl (by kernel_rfl) (fun _ _ _ h=>h) (Or.inl ⟨by rfl,?_⟩) ?_ ?_
      rotate_left
      · exact wr_
      rotate_left
      · exact ap_
      refine Xp (i:=7) (N:=some 52) (v:=?_) (a':=?_) #[true,true,true,true,true,true,true,true,false] rfl rfl (by kernel_rfl) (fun _ _ _ h=>h) (Or.inl ⟨by rfl,?_⟩) ?_ ?_
      rotate_left
      · exact wr_
      rotate_left
      · exact ap_
      refine last_ (i:=8) (N:=none) #[true,true,true,true,true,true,true,true,true] rfl rfl (by kernel_rfl) (by decide) (fun K hK=>?_)
      refine skip_ (w1:=w1.setCell ⟨P,i * 5+1,none⟩ (.slice A3 (l4 ++ rest).length c3)) rfl rfl ?_ ?_
      · first|(go_simp;done)|(go_simp;rfl)
      refine hK.out _ _ ?_
      clear hK K
      refine done_ (by kernel_rfl) ?_
      skip
      go_upto_region 10 with (fail)
      have RE:=HRD.out.below HB1.out
      have hv:Kd.V KT 69 w1 base (fun k=>(ok k∧¬ (k=g∨k=sb∨k=z))∧free (lay b s) k) (.slice A3 (l4 ++ rest).length c3) (l4 ++ rest):=Kd.Um (Kd.N_V (base':=base) aH.out) (fun k hk=>by
        rcases hk with (hk|hk)|hk
        · first|exact HQQ.out k hk|exact hk.elim (HQQ.out k) (HNEW.out k)
        · exact HQQ.out k hk
        · exact HRD.out.new hk)
      have hw:=RE.st.at_.todo RE.st.up (i:=i) HI.out _ (l4 ++ rest) (RE.st.at_.Yj (Nat.lt_of_le_of_lt (Nat.zero_le i) HI.out) HFA.out.p) hv
      have RF:=RE.write (t':=up b.t i (.slice A3 (l4 ++ rest).length c3)) (q':=b.q) hw
      clear RE hw hv hx1 hf1
      generalize w1.setCell ⟨P,i * 5+1,none⟩ (.slice A3 (l4 ++ rest).length c3)=W9 at *
      have HFB:Forms { b with t:=up b.t i (.slice A3 (l4 ++ rest).length c3),q:=b.q } (s.Yx i { s.proc i with todo:=l4 ++ rest }) P C M S Ad q0 q1 q2 q3 q4:=⟨HFA.out.p,HFA.out.c,HFA.out.m,HFA.out.g,HFA.out.d⟩
      obtain ⟨d0,d1,d2,d3,d4⟩:=Forms.cells HFB RF.st.wb
      obtain ⟨z0,z1,z2,z3,z4⟩:=RF.zc
      have f0:=Xb RF.z_ 0
      have f1:=Xb RF.z_ 1
      have f2:=Xb RF.z_ 2
      have f3:=Xb RF.z_ 3
      have f4:=Xb RF.z_ 4
      have HFIN:=Xa.mk (RF.finish HFB)
      go_wp2
      (try simp only [Exit.inBlock,Exit.then])
      refine bodyPost_ret (results_cell_row rfl _ _ z 45 #[.slice (some ⟨P,0,none⟩) s.n q0,.slice (some ⟨C,0,none⟩) 3 q1,.slice (some ⟨M,0,none⟩) 2 q2,.slice (some ⟨S,0,none⟩) 2 q3,.slice Ad s.said.length q4] (0,0) _ rfl HFIN.out.1 Try.underlying45 rfl (by kernel_rfl)) rfl ?_
      rw [HEQ.out]
      exact HFIN.out.2
    · have hba:Below W3.heap.size W3 (W3.alloc (.cells #[.int .i64 7,.int .i64 (a':Int),.int .i64 tb,.int .i64 tn,.slice A4 l4.length aC,.slice A5 l5.length aF] 69)):=Xj (Below.refl _ _) _
      have hbx:=Yz W3 (.cells #[.int .i64 7,.int .i64 (a':Int),.int .i64 tb,.int .i64 tn,.slice A4 l4.length aC,.slice A5 l5.length aF] 69)
      have F4:=(Kd.V_at (Kd.V_below ht3.v4 hba)).2.2
      have F5:=(Kd.V_at (Kd.V_below ht3.v5 hba)).2.2
      have aS:Xa (Kd.V KT 69 (W3.alloc (.cells #[.int .i64 7,.int .i64 (a':Int),.int .i64 tb,.int .i64 tn,.slice A4 l4.length aC,.slice A5 l5.length aF] 69)) (W3.alloc (.cells #[.int .i64 7,.int .i64 (a':Int),.int .i64 tb,.int .i64 tn,.slice A4 l4.length aC,.slice A5 l5.length aF] 69)).heap.size (fun k=>(P0 k∧k<g)∨k=W3.heap.size) (.slice (some ⟨W3.heap.size,0,none⟩) [(⟨7,(a':Int),tb,tn,l4,l5⟩:T)].length 1) [(⟨7,(a':Int),tb,tn,l4,l5⟩:T)]):=
        ⟨Kd.V_mk (Nat.le_refl _) (F_one (t:=(⟨7,(a':Int),tb,tn,l4,l5⟩:T)) hbx F4 F5 (Kd.V_at ht3.v4).2.1 (Kd.V_at ht3.v5).2.1)⟩
      have aT:Xa (Kd.V KT 69 (W3.alloc (.cells #[.int .i64 7,.int .i64 (a':Int),.int .i64 tb,.int .i64 tn,.slice A4 l4.length aC,.slice A5 l5.length aF] 69)) (W3.alloc (.cells #[.int .i64 7,.int .i64 (a':Int),.int .i64 tb,.int .i64 tn,.slice A4 l4.length aC,.slice A5 l5.length aF] 69)).heap.size (fun k=>P0 k∧k<g) (.slice A4 l4.length aC) l4):=⟨Ub ht3.v4 hba⟩
      have aU:Xa (Zq.f l4 [(⟨7,(a':Int),tb,tn,l4,l5⟩:T)]=some (l4 ++ [(⟨7,(a':Int),tb,tn,l4,l5⟩:T)])):=⟨ahead_is _ _ (by have:=ht3.l4;dsimp only at this;omega) (by simp)⟩
      have HNEW:Xa (∀ k,W3.heap.size≤k→(ok k∧¬ (k=g∨k=sb∨k=z))∧free (lay b s) k):=⟨fun k hk=>R3.new hk⟩
      have HBA:=Xa.mk hba
      have aV:Xa (l4.length≤100):=⟨ht3.l4⟩
      have HR3:=Xa.mk R3
      have HT3:=Xa.mk ht3
      have HSB:=Xa.mk aB
      have aP:=Xa.mk hr3
      have aO:=Xa.mk aA
      clear hba hbx F4 F5 R3 ht3 aB hr3 aA
      go_upto_region 9 with (first|(go_at_call 55;refine (Zq.calls (fun k=>P0 k∧k<g) A4 aC l4 (fun k=>(P0 k∧k<g)∨k=W3.heap.size) (some ⟨W3.heap.size,0,none⟩) 1 [(⟨7,(a':Int),tb,tn,l4,l5⟩:T)] _ _ aT.out aS.out aU.out).mono ?_;rintro e w5 ⟨v5,rfl,aN,hb5⟩;obtain ⟨l8,aQ⟩:∃ l8:List T,l8=l4 ++ [(⟨7,(a':Int),tb,tn,l4,l5⟩:T)]:=⟨_,rfl⟩;rw [← aQ] at aN;obtain ⟨A8,c8,aW⟩:=Kd.N_slice aN;subst aW;have aR:=Xa.mk aQ;clear aQ))
      have aK:Below W3.heap.size W3 w5:=HBA.out.trans (hb5.mono HBA.out.size)
      have aM:=Kd.N_V (base':=0) aN
      have aL:Kd.V KT 69 w5 0 (fun k=>(P0 k∧k<g)∨W3.heap.size≤k) (.slice A8 l8.length c8) l8:=Kd.Um aM (fun k hk=>by
        rcases hk with (hk|hk|hk)|hk
        · exact .inl hk
        · exact .inl hk
        · exact .inr (Nat.le_of_eq hk.symm)
        · exact .inr (Nat.le_trans HBA.out.size hk))
      have HVL:Xa (Kd.V KT 69 w5.drew w5.drew.heap.size (fun k=>(P0 k∧k<g)∨W3.heap.size≤k) (.slice A8 l8.length c8) l8):=⟨Ub aL (Xl (Below.refl _ _))⟩
      have HAH:Xa (Zq.f l8 rest=some (l8 ++ rest)):=⟨ahead_is _ _ (by have:=aV.out;rw [aR.out,List.length_append,List.length_singleton];omega) (by have:=HLR.out;omega)⟩
      have R5:=HR3.out.below aK
      have aB:=HSB.out
      have ht3:=HT3.out
      have hr3:Kd.V KT 69 w5 0 (fun k=>P0 k∧k<g) (.slice Ar rest.length cR) rest:=Ub aP.out aK
      have aA:=aO.out
      clear aK aM aL aN hb5
      have hbd:Below w5.heap.size w5 w5.drew:=Xl (Below.refl _ _)
      have RD:=R5.below hbd
      have hPD:=RD.st.at_.Yj (by omega) HFA.out.p
      have hVT:=RD.st.at_.tree i hi
      obtain ⟨AT,cT,eT⟩:=Kd.V_slice hVT
      have p1:=hPD.cell i 1 hi (by omega)
      simp only [Yr,eT] at p1
      simp at p1
      have aG:Xa (w5.drew.cell? ⟨g,0,none⟩=some (.slice (some ⟨P,0,none⟩) s.n q0)):=⟨(HFA.out.cells RD.st.wb).1⟩
      have aI:Xa (w5.drew.cell? ⟨P,i * 5+1,none⟩=some (.slice AT (s.proc i).todo.length cT)):=⟨p1⟩
      have HPF:Xa (w5.drew.frozen? ⟨P,i * 5+1,none⟩=false):=⟨hPD.free_ _⟩
      have HPL:Xa (P<w5.drew.heap.size):=⟨hPD.lt⟩
      have HVR:Xa (Kd.V KT 69 w5.drew w5.drew.heap.size (fun k=>P0 k∧k<g) (.slice Ar rest.length cR) rest):=⟨Ub hr3 hbd⟩
      have HRD:=Xa.mk RD
      have HI:=Xa.mk hi
      have HBW:=Xa.mk (aA)
      have HQQ:Xa (∀ k,P0 k∧k<g→(ok k∧¬ (k=g∨k=sb∨k=z))∧free (lay b s) k):=⟨fun k hk=>⟨⟨(HPP.out k hk.1).1,by have:=hk.2;omega⟩,(HPP.out k hk.1).2⟩⟩
      have HEQ:Xa (goesL s i (⟨7,(a':Int),tb,tn,l4,l5⟩:T)=l8):=⟨by rw [aR.out];unfold goesL;have:=HX.out;simp [this]⟩
      clear hbd RD hPD hVT p1 hr3 R5 ht3 aB b0 b1 b2 b3 b4 b5 aA eT
      refine start_ (n:=9) (S:=fun w'=>w'.cell? ⟨g,0,none⟩=some (.slice (some ⟨P,0,none⟩) s.n q0)) (ds:=[8]) #[false,false,false,false,false,false,false,false,false] (by kernel_rfl) rfl (by rfl) aG.out (fun hHeld=>?_)
      refine Xp (i:=0) (N:=some 45) (v:=?_) (a':=?_) #[true,false,false,false,false,false,false,false,false] rfl rfl (by kernel_rfl) (fun _ _ _ h=>h) (Or.inl ⟨by rfl,?_⟩) ?_ ?_
      rotate_left
      · exact wr_
      rotate_left
      · exact ap_
      refine Xp (i:=2) (N:=some 47) (v:=?_) (a':=?_) #[true,false,true,false,false,false,false,false,false] rfl rfl (by kernel_rfl) (fun _ _ _ h=>h) (Or.inl ⟨by rfl,?_⟩) ?_ ?_
      rotate_left
      · exact wr_
      rotate_left
      · exact ap_
      refine Xp (i:=3) (N:=some 48) (v:=?_) (a':=?_) #[true,false,true,true,false,false,false,false,false] rfl rfl (by kernel_rfl) (fun _ _ _ h=>h) (Or.inl ⟨by rfl,?_⟩) ?_ ?_
      rotate_left
      · exact wr_
      rotate_left
      · exact ap_
      refine Xp (i:=4) (N:=some 49) (v:=?_) (a':=?_) #[true,false,true,true,true,false,false,false,false] rfl rfl (by kernel_rfl) (fun _ _ _ h=>h) (Or.inl ⟨by rfl,?_⟩) ?_ ?_
      rotate_left
      · exact wr_
      rotate_left
      · exact ap_
      refine Zp (i:=1) (N:=some 46) (v:=?_) (a':=?_) #[true,true,true,true,true,false,false,false,false] rfl rfl (by kernel_rfl) (fun _ _ _ h=>h) (Or.inl ⟨by rfl,?_⟩) hHeld ?_ ?_
      rotate_left
      · rintro w' s0
        go_simp
        with_reducible rfl
      rotate_left
      · exact ap_
      refine one_ (i:=5) (N:=some 50) #[true,true,true,true,true,true,false,false,false] rfl rfl (by kernel_rfl) (by decide) (fun K hK=>?_)
      refine goes_ Try.func55 (by kernel_rfl) rfl #[.slice A8 l8.length c8,.slice Ar rest.length cR] (by rfl) rfl rfl ga_ ?_
      refine (Zq.calls (fun k=>(P0 k∧k<g)∨W3.heap.size≤k) A8 c8 l8 (fun k=>P0 k∧k<g) Ar cR rest (l8 ++ rest) w5.drew HVL.out HVR.out HAH.out).mono ?_
      rintro e w1 ⟨v1,rfl,hn1,hb1⟩
      refine ⟨_,rfl,?_⟩
      obtain ⟨A3,c3,aJ⟩:=Kd.N_slice hn1
      subst aJ
      have aH:=Xa.mk hn1
      have HB1:=Xa.mk hb1
      clear hn1 hb1
      have hx1:=Xc HB1.out aI.out
      have hf1:w1.frozen? ⟨P,i * 5+1,none⟩=false:=by rw [World.frozen?_of_block (HB1.out.block P HPL.out)];exact HPF.out
      refine hK.out _ _ (Xc HB1.out aG.out) (fun hHeld=>?_)
      clear hK K
      refine Zj (a':=?_) ?_ ?_
      rotate_left
      · show Act.put _ (some 50) _=_
        simp only [Act.put,List.setIfInBounds_toArray,List.set_cons_zero,List.set_cons_succ,Zc,Zb]
        rfl
      refine Xp (i:=6) (N:=some 51) (v:=?_) (a':=?_) #[true,true,true,true,true,true,true,false,false] rfl rfl (by kernel_rfl) (fun _ _ _ h=>h) (Or.inl ⟨by rfl,?_⟩) ?_ ?_
      rotate_left
      · exact wr_
      rotate_left
      · exact ap_
      refine Xp (i:=7) (N:=some 52) (v:=?_) (a':=?_) #[true,true,true,true,true,true,true,true,false] rfl rfl (by kernel_rfl) (fun _ _ _ h=>h) (Or.inl ⟨by rfl,?_⟩) ?_ ?_
      rotate_left
      · exact wr_
      rotate_left
      · exact ap_
      refine last_ (i:=8) (N:=none) #[true,true,true,true,true,true,true,true,true] rfl rfl (by kernel_rfl) (by decide) (fun K hK=>?_)
      refine skip_ (w1:=w1.setCell ⟨P,i * 5+1,none⟩ (.slice A3 (l8 ++ rest).length c3)) rfl rfl ?_ ?_
      · first|(go_simp;done)|(go_simp;rfl)
      refine hK.out _ _ ?_
      clear hK K
      refine done_ (by kernel_rfl) ?_
      skip
      go_upto_region 10 with (fail)
      have RE:=HRD.out.below HB1.out
      have hv:Kd.V KT 69 w1 base (fun k=>(ok k∧¬ (k=g∨k=sb∨k=z))∧free (lay b s) k) (.slice A3 (l8 ++ rest).length c3) (l8 ++ rest):=Kd.Um (Kd.N_V (base':=base) aH.out) (fun k hk=>by
        rcases hk with (hk|hk)|hk
        · first|exact HQQ.out k hk|exact hk.elim (HQQ.out k) (HNEW.out k)
        · exact HQQ.out k hk
        · exact HRD.out.new hk)
      have hw:=RE.st.at_.todo RE.st.up (i:=i) HI.out _ (l8 ++ rest) (RE.st.at_.Yj (Nat.lt_of_le_of_lt (Nat.zero_le i) HI.out) HFA.out.p) hv
      have RF:=RE.write (t':=up b.t i (.slice A3 (l8 ++ rest).length c3)) (q':=b.q) hw
      clear RE hw hv hx1 hf1
      generalize w1.setCell ⟨P,i * 5+1,none⟩ (.slice A3 (l8 ++ rest).length c3)=W9 at *
      have HFB:Forms { b with t:=up b.t i (.slice A3 (l8 ++ rest).length c3),q:=b.q } (s.Yx i { s.proc i with todo:=l8 ++ rest }) P C M S Ad q0 q1 q2 q3 q4:=⟨HFA.out.p,HFA.out.c,HFA.out.m,HFA.out.g,HFA.out.d⟩
      obtain ⟨d0,d1,d2,d3,d4⟩:=Forms.cells HFB RF.st.wb
      obtain ⟨z0,z1,z2,z3,z4⟩:=RF.zc
      have f0:=Xb RF.z_ 0
      have f1:=Xb RF.z_ 1
      have f2:=Xb RF.z_ 2
      have f3:=Xb RF.z_ 3
      have f4:=Xb RF.z_ 4
      have HFIN:=Xa.mk (RF.finish HFB)
      go_wp2
      (try simp only [Exit.inBlock,Exit.then])
      refine bodyPost_ret (results_cell_row rfl _ _ z 45 #[.slice (some ⟨P,0,none⟩) s.n q0,.slice (some ⟨C,0,none⟩) 3 q1,.slice (some ⟨M,0,none⟩) 2 q2,.slice (some ⟨S,0,none⟩) 2 q3,.slice Ad s.said.length q4] (0,0) _ rfl HFIN.out.1 Try.underlying45 rfl (by kernel_rfl)) rfl ?_
      rw [HEQ.out]
      exact HFIN.out.2
end Go.Proofs.Ytlhogkfmdnpmkaa.Mean
