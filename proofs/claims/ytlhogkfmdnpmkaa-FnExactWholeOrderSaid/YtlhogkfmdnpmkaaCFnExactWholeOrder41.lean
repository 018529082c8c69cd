import Derived.Test.YtlhogkfmdnpmkaaCFnExactWholeOrder40
import Derived.Deep.QuietTactic
import Derived.BigQuiet
set_option maxHeartbeats 4000000
set_option maxRecDepth 100000
set_option linter.unusedVariables false
set_option linter.unusedSectionVars false
set_option linter.unusedSimpArgs false
namespace Go.Proofs.Ytlhogkfmdnpmkaa.Mean
open Go.RowKit Go.Proofs.Ytlhogkfmdnpmkaa.GWhole Go.Proofs.YtlhogkfmdnpmkaaW.PrintWords Go.Proofs.YtlhogkfmdnpmkaaW.PrintLast Go.Proofs.YtlhogkfmdnpmkaaW.PrintMore
variable [Prot]
theorem Left.after {W W2 W':World} {base:Nat} {ok:Nat→Prop} {s':WS} {g:Nat} (hb:Below W.heap.size W W2) (h:Left W2 base ok s' g W'):Left W base ok s' g W':=by
  obtain ⟨b',h1,h2⟩:=h
  exact ⟨b',h1,(Only.of_below hb _).trans (h2.mono (fun k hk=>.inl hk))⟩
theorem box6 {w:World} {g:Nat} {t:TypeId} {v0 v1 v2 v3 v4 v5:Value} (h:w.heap[g]?=some (.cells #[v0,v1,v2,v3,v4,v5] t (0,0))) :
    w.cell? ⟨g,0,none⟩=some v0∧w.cell? ⟨g,1,none⟩=some v1∧w.cell? ⟨g,2,none⟩=some v2∧w.cell? ⟨g,3,none⟩=some v3∧w.cell? ⟨g,4,none⟩=some v4∧w.cell? ⟨g,5,none⟩=some v5:=
  ⟨(Xm h 0).trans rfl,(Xm h 1).trans rfl,(Xm h 2).trans rfl,(Xm h 3).trans rfl,(Xm h 4).trans rfl,(Xm h 5).trans rfl⟩
structure StmtIn (W:World) (d:Nat) (t:T) (A4:Option Addr) (c4:Nat) (A5:Option Addr) (c5:Nat) (P0:Nat→Prop):Prop where
  b4:Kd.V KT 69 W W.heap.size P0 (.slice A4 t.f4.length c4) t.f4
  b5:Kd.V KT 69 W W.heap.size P0 (.slice A5 t.f5.length c5) t.f5
  s4:Small d t.f4
  s5:Small d t.f5
  l4:t.f4.length≤100
  l5:t.f5.length≤100
theorem StmtIn.below {W W':World} {d:Nat} {t:T} {A4:Option Addr} {c4:Nat} {A5:Option Addr} {c5:Nat} {P0:Nat→Prop} (h:StmtIn W d t A4 c4 A5 c5 P0) (hb:Below W.heap.size W W'):StmtIn W' d t A4 c4 A5 c5 P0:=
  ⟨show Kd.V KT 69 W' W.heap.size P0 _ _ from Kd.V_below h.b4 hb,show Kd.V KT 69 W' W.heap.size P0 _ _ from Kd.V_below h.b5 hb,h.s4,h.s5,h.l4,h.l5⟩
def ifNext (s:WS) (i:Nat) (t:T):WS:=doTodo s i (if (s.proc i).regs t.f1.toNat≠0 then t.f4 else t.f5)
def whileNext (s:WS) (i:Nat) (t:T):WS:=if (s.proc i).regs t.f1.toNat≠0 then doTodo s i (t.f4 ++ [t]) else s
theorem Small.more:∀ (d:Nat) {l:List T},Small d l→Small (d+1) l
  |0,l,h=>by have h':l=[]:=h;subst h';exact ⟨by simp,fun t ht=>by simp at ht⟩
  |d+1,l,h=>⟨h.1,fun t ht=>⟨Small.more d (h.2 t ht).1,Small.more d (h.2 t ht).2⟩⟩
theorem ifDeed_do (W:World) (base:Nat) (ok:Nat→Prop) (b:BK) (s:WS) (g i:Nat) (t:T) (A4:Option Addr) (c4:Nat) (A5:Option Addr) (c5:Nat) (d:Nat) (P0:Nat→Prop) (h:St W base ok b s g) (hi:i<s.n) (ht:StmtIn W d t A4 c4 A5 c5 P0) (hl:(s.proc i).todo.length≤400000) (ha:0≤t.f1∧t.f1<3) :
    Calls Try.prog 119 #[.agg #[.int .i64 t.f0,.int .i64 t.f1,.int .i64 t.f2,.int .i64 t.f3,.slice A4 t.f4.length c4,.slice A5 t.f5.length c5],.pointer (some ⟨g,0,none⟩),.int .i64 (i:Int)] W fun e W'=>e=.returned (.tuple #[])∧Left W base ok (ifNext s i t) g W':=by
  obtain ⟨tk,ta,tb,tn,l4,l5⟩:=t
  obtain ⟨a',rfl⟩:∃ a':Nat,ta=(a':Int):=Int.eq_ofNat_of_zero_le ha.1
  dsimp only at *
  go_enter Try.func119,Try.ntmps119
  go_upto_region 1 with (fail)
  have HB:=Xj (Below.refl W.heap.size W) (.cells #[.int .i64 tk,.int .i64 (a':Int),.int .i64 tb,.int .i64 tn,.slice A4 l4.length c4,.slice A5 l5.length c5] 108)
  have hbx:=Yz W (.cells #[.int .i64 tk,.int .i64 (a':Int),.int .i64 tb,.int .i64 tn,.slice A4 l4.length c4,.slice A5 l5.length c5] 108)
  generalize W.alloc (.cells #[.int .i64 tk,.int .i64 (a':Int),.int .i64 tb,.int .i64 tn,.slice A4 l4.length c4,.slice A5 l5.length c5] 108)=W1 at *
  have h1:=h.below HB
  have ht1:=ht.below HB
  obtain ⟨P,cp,aJ⟩:=h.at_.procs (by omega)
  have HP:=h1.at_.Yj (by omega) aJ.v_
  obtain ⟨c0,c1,c2,c3,aK⟩:=h1.wb.cells
  rw [HP.v_] at c0
  obtain ⟨b0,b1,b2,b3,b4,b5⟩:=box6 hbx
  have i0:(0:Int)≤(i:Int):=by omega
  have i1:(i:Int)<(s.n:Int):=by omega
  have i2:decide (i<s.n)=true:=decide_eq_true hi
  obtain ⟨R,cr,HR⟩:=h1.at_.regs hi
  have p0:=HP.cell i 0 hi (by omega)
  simp only [Yr,if_true,Nat.add_zero] at p0
  rw [HR.v_] at p0
  have r_a:=HR.cell a' (by omega)
  have a3:(a':Int)<3:=by omega
  have a4:decide (a'<3)=true:=decide_eq_true (by omega)
  have X4:=Lib.hid (fun (W2:World) (hb:Below W1.heap.size W1 W2)=>insert_do W2 base ok b s g i P cp l4 A4 c4 d (h1.below hb) hi HP.v_ (Kd.V_reads' (ht1.below hb).b4).2.2 (Kd.V_reads' (ht1.below hb).b4).2.1 ht1.s4 (by have:=ht1.l4;dsimp only at this;omega) hl)
  have X5:=Lib.hid (fun (W2:World) (hb:Below W1.heap.size W1 W2)=>insert_do W2 base ok b s g i P cp l5 A5 c5 d (h1.below hb) hi HP.v_ (Kd.V_reads' (ht1.below hb).b5).2.2 (Kd.V_reads' (ht1.below hb).b5).2.1 ht1.s5 (by have:=ht1.l5;dsimp only at this;omega) hl)
  have HBB:=Xa.mk HB
  by_cases hx:(s.proc i).regs a'=0
  · have hx1:((s.proc i).regs a' != 0)=false:=by simp [hx]
    have hx2:((s.proc i).regs a' == 0)=true:=by simp [hx]
    have HX:=Xa.mk hx
    clear hx ht ht1 h1 h HB
    go_upto_region 2 with (fail)
    go_quiet (fail)
    go_wp2_with (first|(go_at_call 105;refine (X5.out _ (Xh (Below.refl _ _) _)).mono ?_;rintro e w3 ⟨rfl,hL⟩;have HL:=Xa.mk (Left.after (Xh (Below.refl _ W1) _) hL);clear hL))
    go_end0
    refine ⟨rfl,?_⟩
    have e:ifNext s i (⟨tk,(a':Int),tb,tn,l4,l5⟩:T)=doTodo s i l5:=congrArg _ (if_neg (not_not_intro HX.out))
    rw [e]
    exact Left.after HBB.out HL.out
  · have hx1:((s.proc i).regs a' != 0)=true:=by simp [hx]
    have hx2:((s.proc i).regs a' == 0)=false:=by simp [hx]
    have HX:=Xa.mk hx
    clear hx ht ht1 h1 h HB
    go_upto_region 2 with (fail)
    go_quiet (fail)
    go_wp2_with (first|(go_at_call 105;refine (X4.out _ (Xh (Below.refl _ _) _)).mono ?_;rintro e w3 ⟨rfl,hL⟩;have HL:=Xa.mk (Left.after (Xh (Below.refl _ W1) _) hL);clear hL))
    go_end0
    refine ⟨rfl,?_⟩
    have e:ifNext s i (⟨tk,(a':Int),tb,tn,l4,l5⟩:T)=doTodo s i l4:=congrArg _ (if_pos HX.out)
    rw [e]
    exact Left.after HBB.out HL.out
theorem F_one {W:World} {bx:Nat} {t:T} {ty:TypeId} {A4:Option Addr} {c4:Nat} {A5:Option Addr} {c5:Nat} {P1:Nat→Prop}
    (hb:W.heap[bx]?=some (.cells #[.int .i64 t.f0,.int .i64 t.f1,.int .i64 t.f2,.int .i64 t.f3,.slice A4 t.f4.length c4,.slice A5 t.f5.length c5] ty (0,0)))
    (h4:Kd.F KT W P1 A4 t.f4.length t.f4) (h5:Kd.F KT W P1 A5 t.f5.length t.f5) (l4:t.f4.length≤c4) (l5:t.f5.length≤c5):Kd.F KT W (fun k=>P1 k∨k=bx) (some ⟨bx,0,none⟩) 1 [t]:=by
  intro W' hW
  have hb':W'.heap[bx]?=_:=(hW bx (.inr rfl) (Yu hb)).trans hb
  refine ⟨rfl,by decide,fun _=>⟨_,rfl,fun j p hj=>?_⟩⟩
  cases j with
  |succ j=>simp at hj
  |zero=>
    simp at hj
    subst hj
    refine ⟨[.int .i64 t.f0,.int .i64 t.f1,.int .i64 t.f2,.int .i64 t.f3,.slice A4 t.f4.length c4,.slice A5 t.f5.length c5],rfl,k69_mk W' t l4 (h4 W' (fun k hk=>hW k (.inl hk))) l5 (h5 W' (fun k hk=>hW k (.inl hk))),fun q u hq=>?_⟩
    rw [Nat.zero_mul,Nat.zero_add,add_plain]
    refine (Xm hb' q).trans ?_
    simpa using hq
theorem whileDeed_do (W:World) (base:Nat) (ok:Nat→Prop) (b:BK) (s:WS) (g i:Nat) (t:T) (A4:Option Addr) (c4:Nat) (A5:Option Addr) (c5:Nat) (d:Nat) (P0:Nat→Prop) (h:St W base ok b s g) (hi:i<s.n) (ht:StmtIn W d t A4 c4 A5 c5 P0) (hl:(s.proc i).todo.length≤400000) (ha:0≤t.f1∧t.f1<3) :
    Calls Try.prog 122 #[.agg #[.int .i64 t.f0,.int .i64 t.f1,.int .i64 t.f2,.int .i64 t.f3,.slice A4 t.f4.length c4,.slice A5 t.f5.length c5],.pointer (some ⟨g,0,none⟩),.int .i64 (i:Int)] W fun e W'=>e=.returned (.tuple #[])∧Left W base ok (whileNext s i t) g W':=by
  obtain ⟨tk,ta,tb,tn,l4,l5⟩:=t
  obtain ⟨a',rfl⟩:∃ a':Nat,ta=(a':Int):=Int.eq_ofNat_of_zero_le ha.1
  dsimp only at *
  go_enter Try.func122,Try.ntmps122
  go_upto_region 1 with (fail)
  have HB:=Xj (Below.refl W.heap.size W) (.cells #[.int .i64 tk,.int .i64 (a':Int),.int .i64 tb,.int .i64 tn,.slice A4 l4.length c4,.slice A5 l5.length c5] 109)
  have hbx:=Yz W (.cells #[.int .i64 tk,.int .i64 (a':Int),.int .i64 tb,.int .i64 tn,.slice A4 l4.length c4,.slice A5 l5.length c5] 109)
  generalize W.alloc (.cells #[.int .i64 tk,.int .i64 (a':Int),.int .i64 tb,.int .i64 tn,.slice A4 l4.length c4,.slice A5 l5.length c5] 109)=W1 at *
  have h1:=h.below HB
  have ht1:=ht.below HB
  obtain ⟨P,cp,aJ⟩:=h.at_.procs (by omega)
  have HP:=h1.at_.Yj (by omega) aJ.v_
  obtain ⟨c0,c1,c2,c3,aK⟩:=h1.wb.cells
  rw [HP.v_] at c0
  obtain ⟨b0,b1,b2,b3,b4,b5⟩:=box6 hbx
  have i0:(0:Int)≤(i:Int):=by omega
  have i1:(i:Int)<(s.n:Int):=by omega
  have i2:decide (i<s.n)=true:=decide_eq_true hi
  obtain ⟨R,cr,HR⟩:=h1.at_.regs hi
  have p0:=HP.cell i 0 hi (by omega)
  simp only [Yr,if_true,Nat.add_zero] at p0
  rw [HR.v_] at p0
  have r_a:=HR.cell a' (by omega)
  have a3:(a':Int)<3:=by omega
  have a4:decide (a'<3)=true:=decide_eq_true (by omega)
  have hsm:Small (d+1) (l4 ++ [(⟨tk,(a':Int),tb,tn,l4,l5⟩:T)]):=⟨by have:=ht.l4;dsimp only at this;rw [List.length_append,List.length_singleton];omega,fun x hx=>by
    rcases List.mem_append.1 hx with hx|hx
    · cases d with
      |zero=>have:l4=[]:=ht.s4;rw [this] at hx;simp at hx
      |succ d=>exact ⟨Small.more d (ht.s4.2 x hx).1,Small.more d (ht.s4.2 x hx).2⟩
    · rw [List.mem_singleton] at hx;subst hx;exact ⟨ht.s4,ht.s5⟩⟩
  have HBB:=Xa.mk HB
  by_cases hx:(s.proc i).regs a'=0
  · have hx1:((s.proc i).regs a' != 0)=false:=by simp [hx]
    have hx2:((s.proc i).regs a' == 0)=true:=by simp [hx]
    have HX:=Xa.mk hx
    have H1:=Xa.mk h1
    have HUP:=Xa.mk h.up
    clear hx ht ht1 h1 h HB
    go_upto_region 2 with (fail)
    go_quiet (fail)
    go_wp2
    go_end0
    refine ⟨rfl,?_⟩
    have e:whileNext s i (⟨tk,(a':Int),tb,tn,l4,l5⟩:T)=s:=if_neg (not_not_intro HX.out)
    rw [e]
    exact Left.after HBB.out ⟨b,H1.out.below (Xh (Below.refl _ _) _),Only.of_below (Xh (Below.refl _ _) _) _⟩
  · have hx1:((s.proc i).regs a' != 0)=true:=by simp [hx]
    have hx2:((s.proc i).regs a' == 0)=false:=by simp [hx]
    have HX:=Xa.mk hx
    clear hx
    go_upto_region 2 with (fail)
    go_quiet (fail)
    go_upto_region 3 with (fail)
    generalize hW3:W1.drewN _=W3
    have hb3:Below W1.heap.size W1 W3:=hW3 ▸ Xh (Below.refl _ _) _
    have hbd:Below W1.heap.size W1 W3.drew:=hb3.trans (Xl (Below.refl _ _))
    have h3:=h1.below hbd
    have ht3:=ht1.below hbd
    have aB:Xa (W3.drew.heap[W.heap.size]?=some (.cells #[.int .i64 tk,.int .i64 (a':Int),.int .i64 tb,.int .i64 tn,.slice A4 l4.length c4,.slice A5 l5.length c5] 109 (0,0))):=⟨Xt hbx hbd⟩
    have HT:=Xa.mk ht3
    have aI:Xa (l4.length≤1000000):=⟨by have:=ht.l4;dsimp only at this;omega⟩
    have HLN:Xa ((l4.length+1) * 80≤140737488355328):=⟨by have:=aI.out;omega⟩
    obtain ⟨P1,hP1⟩:∃ P1:Nat→Prop,P1=P0:=⟨_,rfl⟩
    have HEL:Xa (∀ (wx:World) (bx:Nat),Below W3.drew.heap.size W3.drew wx→wx.heap[bx]?=some (.cells #[.int .i64 tk,.int .i64 (a':Int),.int .i64 tb,.int .i64 tn,.slice A4 l4.length c4,.slice A5 l5.length c5] 69 (0,0))→Kd.F KT wx (fun k=>(P1 k∧k<W3.drew.heap.size)∨k=bx) (some ⟨bx,0,none⟩) 1 [(⟨tk,(a':Int),tb,tn,l4,l5⟩:T)]):=⟨fun wx bx hbw aO=>by
      subst hP1
      exact F_one (t:=(⟨tk,(a':Int),tb,tn,l4,l5⟩:T)) aO (Kd.F_old (Kd.V_F ht3.b4) hbw) (Kd.F_old (Kd.V_F ht3.b5) hbw) (Kd.V_reads' ht3.b4).2.1 (Kd.V_reads' ht3.b5).2.1⟩
    have X4:=Lib.hid (fun (W2:World) (A:Option Addr) (c:Nat) (hb:Below W3.drew.heap.size W3.drew W2) (hC:Kd.C KT W2 A (l4 ++ [(⟨tk,(a':Int),tb,tn,l4,l5⟩:T)]).length (l4 ++ [(⟨tk,(a':Int),tb,tn,l4,l5⟩:T)])) (hc:(l4 ++ [(⟨tk,(a':Int),tb,tn,l4,l5⟩:T)]).length≤c)=>
      (insert_do W2 base ok b s g i P cp _ A c (d+1) (h3.below hb) hi HP.v_ hC hc hsm (by have:=aI.out;have:=ht.l4;dsimp only at this;rw [List.length_append,List.length_singleton];omega) hl).mono (fun e w' ⟨he,hL⟩=>(⟨he,Left.after hb hL⟩:e=Ending.returned (.tuple #[])∧Left W3.drew base ok (doTodo s i (l4 ++ [(⟨tk,(a':Int),tb,tn,l4,l5⟩:T)])) g w')))
    have FIN:=Lib.hid (fun (w':World) (hL:Left W3.drew base ok (doTodo s i (l4 ++ [(⟨tk,(a':Int),tb,tn,l4,l5⟩:T)])) g w')=>(show Left W base ok (whileNext s i (⟨tk,(a':Int),tb,tn,l4,l5⟩:T)) g w' from by rw [show whileNext s i (⟨tk,(a':Int),tb,tn,l4,l5⟩:T)=doTodo s i (l4 ++ [(⟨tk,(a':Int),tb,tn,l4,l5⟩:T)]) from if_pos HX.out];exact Left.after HBB.out (Left.after hbd hL)))
    clear ht3 h3 hbd hb3 hW3 hP1 ht1 ht h1 h HB hbx b0 b1 b2 b3 b4 b5 c0 c1 c2 c3 aK p0 r_a hsm HP aJ HR hx1 hx2
    refine start_ (n:=10) (S:=fun w'=>w'.heap[W.heap.size]?=some (.cells #[.int .i64 tk,.int .i64 (a':Int),.int .i64 tb,.int .i64 tn,.slice A4 l4.length c4,.slice A5 l5.length c5] 109)) (ds:=[9]) #[false,false,false,false,false,false,false,false,false,false] (by kernel_rfl) rfl (by rfl) aB.out (fun hHeld=>?_)
    refine Xp (i:=0) (N:=some 23) (v:=?_) (a':=?_) #[true,false,false,false,false,false,false,false,false,false] rfl rfl (by kernel_rfl) (fun _ _ _ h=>h) (Or.inl ⟨by rfl,?_⟩) ?_ ?_
    rotate_left
    · exact wr_
    rotate_left
    · exact ap_
    refine Xp (i:=1) (N:=some 24) (v:=?_) (a':=?_) #[true,true,false,false,false,false,false,false,false,false] rfl rfl (by kernel_rfl) (fun _ _ _ h=>h) (Or.inl ⟨by rfl,?_⟩) ?_ ?_
    rotate_left
    · exact wr_
    rotate_left
    · exact ap_
    refine Xp (i:=2) (N:=some 25) (v:=?_) (a':=?_) #[true,true,true,false,false,false,false,false,false,false] rfl rfl (by kernel_rfl) (fun _ _ _ h=>h) (Or.inl ⟨by rfl,?_⟩) ?_ ?_
    rotate_left
    · exact wr_
    rotate_left
    · exact ap_
    refine Xp (i:=5) (N:=some 28) (v:=?_) (a':=?_) #[true,true,true,false,false,true,false,false,false,false] rfl rfl (by kernel_rfl) (fun _ _ _ h=>h) (Or.inl ⟨by rfl,?_⟩) ?_ ?_
    rotate_left
    · exact wr_
    rotate_left
    · exact ap_
    refine Zp (i:=3) (N:=some 26) (v:=?_) (a':=?_) #[true,true,true,true,false,true,false,false,false,false] rfl rfl (by kernel_rfl) (fun _ _ _ h=>h) (Or.inl ⟨by rfl,?_⟩) hHeld ?_ ?_
    rotate_left
    · rintro w' s0;obtain ⟨c0,c1,c2,c3,aK,aR⟩:=box6 s0;clear s0
      go_simp
      with_reducible rfl
    rotate_left
    · exact ap_
    refine Zp (i:=6) (N:=some 29) (v:=?_) (a':=?_) #[true,true,true,true,false,true,true,false,false,false] rfl rfl (by kernel_rfl) (fun _ _ _ h=>h) (Or.inl ⟨by rfl,?_⟩) hHeld ?_ ?_
    rotate_left
    · rintro w' s0;obtain ⟨c0,c1,c2,c3,aK,aR⟩:=box6 s0;clear s0
      go_simp
      with_reducible rfl
    rotate_left
    · exact ap_
    refine two_ (i:=4) (j:=7) (Ni:=some 27) (Nj:=some 30) #[true,true,true,true,true,true,true,false,false,false] #[true,true,true,true,false,true,true,true,false,false] rfl rfl rfl rfl (by kernel_rfl) (by decide) (by decide) (fun K hK=>?_) (fun K hK=>?_)
    · skip
      refine goes_ Try.func123 (by kernel_rfl) rfl #[.slice A4 l4.length c4] (by rfl) rfl rfl ga_ ?_
      refine (cloneStmt P0 A4 c4 l4 W3.drew HT.out.b4 aI.out).mono ?_
      rintro e wA ⟨v1,rfl,hn1,hb1⟩
      refine ⟨_,rfl,?_⟩
      obtain ⟨A1,c1,aM⟩:=Kd.N_slice hn1
      subst aM
      have aL:=Xa.mk hn1
      have HB1:=Xa.mk hb1
      clear hn1 hb1
      refine hK.out _ _ (Xt aB.out HB1.out) (fun hHeld=>?_)
      clear hK K
      refine Zj (a':=?_) ?_ ?_
      rotate_left
      · show Act.put _ (some 27) _=_
        simp only [Act.put,List.setIfInBounds_toArray,List.set_cons_zero,List.set_cons_succ,Zc,Zb]
        rfl
      refine one_ (i:=7) (N:=some 30) #[true,true,true,true,true,true,true,true,false,false] rfl rfl (by kernel_rfl) (by decide) (fun K hK=>?_)
      refine value_ (v:=.slice (some ⟨wA.heap.size,0,none⟩) 1 1) (w1:=wA.alloc (.cells #[.int .i64 tk,.int .i64 (a':Int),.int .i64 tb,.int .i64 tn,.slice A4 l4.length c4,.slice A5 l5.length c5] 69)) rfl rfl (by kernel_rfl) ?_
      have hba:=Xj (Below.refl wA.heap.size wA) (.cells #[.int .i64 tk,.int .i64 (a':Int),.int .i64 tb,.int .i64 tn,.slice A4 l4.length c4,.slice A5 l5.length c5] 69)
      have hxa:=Yz wA (.cells #[.int .i64 tk,.int .i64 (a':Int),.int .i64 tb,.int .i64 tn,.slice A4 l4.length c4,.slice A5 l5.length c5] 69)
      obtain ⟨wx,hw2⟩:∃ w2,wA.alloc (.cells #[.int .i64 tk,.int .i64 (a':Int),.int .i64 tb,.int .i64 tn,.slice A4 l4.length c4,.slice A5 l5.length c5] 69)=w2:=⟨_,rfl⟩
      rw [hw2] at hba hxa ⊢
      have hsz:wA.heap.size<wx.heap.size:=by rw [← hw2];simp
      clear hw2
      obtain ⟨bx,hbx⟩:∃ bx,wA.heap.size=bx:=⟨_,rfl⟩
      rw [hbx] at hxa hsz ⊢
      have HBX:Xa (Below W3.drew.heap.size W3.drew wx):=⟨HB1.out.trans ⟨hba.os,hba.tape,hba.output,hba.size,fun j hj=>hba.block j (Nat.lt_of_lt_of_le hj HB1.out.size)⟩⟩
      have HN:Xa (Kd.N KT 69 wx W3.drew.heap.size (fun k=>(P0 k∨P1 k)∨W3.drew.heap.size≤k) (.slice A1 l4.length c1) l4):=⟨Kd.N_mono (Kd.N_below aL.out hba) (fun k hk=>hk.elim (fun h=>.inl (.inl h)) .inr)⟩
      have HF:Xa (Kd.F KT wx (fun k=>(P1 k∧k<W3.drew.heap.size)∨k=bx) (some ⟨bx,0,none⟩) 1 [(⟨tk,(a':Int),tb,tn,l4,l5⟩:T)]):=⟨HEL.out wx bx HBX.out hxa⟩
      have HNE:Xa (∀ k,((P1 k∧k<W3.drew.heap.size)∨k=bx)→((P0 k∨P1 k)∨W3.drew.heap.size≤k)∧some k≠(Value.slice A1 l4.length c1).ownBlock):=⟨fun k hk=>⟨hk.elim (fun h=>.inl (.inr h.1)) (fun h=>.inr (by have:=HB1.out.size;omega)),fun e=>by have h1:=Kd.N_base aL.out k e.symm;have h2:=Kd.N_lt aL.out k e.symm;rcases hk with hk|hk <;> omega⟩⟩
      clear hba hxa hsz hbx
      refine hK.out _ _ (Xt aB.out HBX.out) (fun hHeld=>?_)
      clear hK K
      refine Zj (a':=?_) ?_ ?_
      rotate_left
      · show Act.put _ (some 30) _=_
        simp only [Act.put,List.setIfInBounds_toArray,List.set_cons_zero,List.set_cons_succ,Zc,Zb]
        rfl
      refine one_ (i:=8) (N:=some 31) #[true,true,true,true,true,true,true,true,true,false] rfl rfl (by kernel_rfl) (by decide) (fun K hK=>?_)
      refine Kd.Uq KT (w0:=W3.drew) W3.drew.heap.size rfl (.tmp 27) (.tmp 30) 50 69 ZT 80 rfl Try.underlying50 info69 rfl (by decide) (by omega) (.slice A1 l4.length c1) l4 [(⟨tk,(a':Int),tb,tn,l4,l5⟩:T)] _ _ _ (fun k=>(P0 k∨P1 k)∨W3.drew.heap.size≤k) (fun k=>(P1 k∧k<W3.drew.heap.size)∨k=bx) rfl rfl HN.out HF.out HNE.out (fun k hk=>.inr (Nat.le_trans HBX.out.size hk)) HBX.out HBX.out.size HLN.out ?_
      intro v8 w8 aD aH aP aC
      obtain ⟨A8,c8,aN⟩:=Kd.N_slice aD
      subst aN
      have aG:=Xa.mk aD
      have aF:=Xa.mk aH
      clear aD aH aP aC
      refine hK.out _ _ (Xt aB.out aF.out) (fun hHeld=>?_)
      clear hK K
      refine Zj (a':=?_) ?_ ?_
      rotate_left
      · show Act.put _ (some 31) _=_
        simp only [Act.put,List.setIfInBounds_toArray,List.set_cons_zero,List.set_cons_succ,Zc,Zb]
        rfl
      refine last_ (i:=9) (N:=some 32) #[true,true,true,true,true,true,true,true,true,true] rfl rfl (by kernel_rfl) (by decide) (fun K hK=>?_)
      refine goes_ Try.func105 (by kernel_rfl) rfl #[.pointer (some ⟨P,i * 5,none⟩),.slice A8 (l4 ++ [(⟨tk,(a':Int),tb,tn,l4,l5⟩:T)]).length c8] (by rfl) rfl rfl ga_ ?_
      refine (X4.out w8 A8 c8 aF.out (Kd.N_reads' aG.out).2.2 (Kd.N_reads' aG.out).2.1).mono ?_
      rintro e w9 ⟨rfl,hL⟩
      refine ⟨_,rfl,?_⟩
      have HL:=Xa.mk hL
      clear hL
      refine hK.out _ _ ?_
      clear hK K
      refine Zj (a':=?_) ?_ ?_
      rotate_left
      · show Act.put _ (some 32) _=_
        simp only [Act.put,List.setIfInBounds_toArray,List.set_cons_zero,List.set_cons_succ,Zc,Zb]
        rfl
      refine done_ (by kernel_rfl) ?_
      go_wp2
      go_end0
      refine ⟨rfl,?_⟩
      exact FIN.out _ HL.out
    · skip
      refine value_ (v:=.slice (some ⟨W3.drew.heap.size,0,none⟩) 1 1) (w1:=W3.drew.alloc (.cells #[.int .i64 tk,.int .i64 (a':Int),.int .i64 tb,.int .i64 tn,.slice A4 l4.length c4,.slice A5 l5.length c5] 69)) rfl rfl (by kernel_rfl) ?_
      have hba:=Xj (Below.refl W3.drew.heap.size W3.drew) (.cells #[.int .i64 tk,.int .i64 (a':Int),.int .i64 tb,.int .i64 tn,.slice A4 l4.length c4,.slice A5 l5.length c5] 69)
      have hxa:=Yz W3.drew (.cells #[.int .i64 tk,.int .i64 (a':Int),.int .i64 tb,.int .i64 tn,.slice A4 l4.length c4,.slice A5 l5.length c5] 69)
      obtain ⟨wB,hw2⟩:∃ w2,W3.drew.alloc (.cells #[.int .i64 tk,.int .i64 (a':Int),.int .i64 tb,.int .i64 tn,.slice A4 l4.length c4,.slice A5 l5.length c5] 69)=w2:=⟨_,rfl⟩
      rw [hw2] at hba hxa ⊢
      have hsz:W3.drew.heap.size<wB.heap.size:=by rw [← hw2];simp
      clear hw2
      obtain ⟨bx,hbx⟩:∃ bx,W3.drew.heap.size=bx:=⟨_,rfl⟩
      rw [hbx] at hxa hsz ⊢
      have aA:=Xa.mk hba
      have aQ:Xa (Kd.F KT wB (fun k=>(P1 k∧k<W3.drew.heap.size)∨k=bx) (some ⟨bx,0,none⟩) 1 [(⟨tk,(a':Int),tb,tn,l4,l5⟩:T)]):=⟨HEL.out wB bx hba hxa⟩
      have HBXE:Xa (bx=W3.drew.heap.size):=⟨hbx.symm⟩
      have HBXL:=Xa.mk hsz
      clear hba hxa hsz hbx
      refine hK.out _ _ (Xt aB.out aA.out) (fun hHeld=>?_)
      clear hK K
      refine Zj (a':=?_) ?_ ?_
      rotate_left
      · show Act.put _ (some 30) _=_
        simp only [Act.put,List.setIfInBounds_toArray,List.set_cons_zero,List.set_cons_succ,Zc,Zb]
        rfl
      refine one_ (i:=4) (N:=some 27) #[true,true,true,true,true,true,true,true,false,false] rfl rfl (by kernel_rfl) (by decide) (fun K hK=>?_)
      refine goes_ Try.func123 (by kernel_rfl) rfl #[.slice A4 l4.length c4] (by rfl) rfl rfl ga_ ?_
      refine (cloneStmt P0 A4 c4 l4 wB (show Kd.V KT 69 wB _ P0 _ _ from Kd.V_below HT.out.b4 aA.out) aI.out).mono ?_
      rintro e wA ⟨v1,rfl,hn1,hb1⟩
      refine ⟨_,rfl,?_⟩
      obtain ⟨A1,c1,aM⟩:=Kd.N_slice hn1
      subst aM
      have HBX:Xa (Below W3.drew.heap.size W3.drew wA):=⟨aA.out.trans ⟨hb1.os,hb1.tape,hb1.output,hb1.size,fun j hj=>hb1.block j (Nat.lt_of_lt_of_le hj aA.out.size)⟩⟩
      have HN:Xa (Kd.N KT 69 wA W3.drew.heap.size (fun k=>(P0 k∨P1 k)∨W3.drew.heap.size≤k) (.slice A1 l4.length c1) l4):=⟨Kd.N_mono (Kd.N_lower hn1 aA.out.size) (fun k hk=>hk.elim (fun h=>.inl (.inl h)) (fun h=>.inr (Nat.le_trans aA.out.size h)))⟩
      have HF:Xa (Kd.F KT wA (fun k=>(P1 k∧k<W3.drew.heap.size)∨k=bx) (some ⟨bx,0,none⟩) 1 [(⟨tk,(a':Int),tb,tn,l4,l5⟩:T)]):=⟨Kd.F_below aQ.out hb1⟩
      have HNE:Xa (∀ k,((P1 k∧k<W3.drew.heap.size)∨k=bx)→((P0 k∨P1 k)∨W3.drew.heap.size≤k)∧some k≠(Value.slice A1 l4.length c1).ownBlock):=⟨fun k hk=>⟨hk.elim (fun h=>.inl (.inr h.1)) (fun h=>.inr (by have:=HBXE.out;omega)),fun e=>by have h1:=Kd.N_base hn1 k e.symm;have:=aA.out.size;have:=HBXE.out;have:=HBXL.out;rcases hk with hk|hk <;> omega⟩⟩
      clear hn1 hb1
      refine hK.out _ _ (Xt aB.out HBX.out) (fun hHeld=>?_)
      clear hK K
      refine Zj (a':=?_) ?_ ?_
      rotate_left
      · show Act.put _ (some 27) _=_
        simp only [Act.put,List.setIfInBounds_toArray,List.set_cons_zero,List.set_cons_succ,Zc,Zb]
        rfl
      refine one_ (i:=8) (N:=some 31) #[true,true,true,true,true,true,true,true,true,false] rfl rfl (by kernel_rfl) (by decide) (fun K hK=>?_)
      refine Kd.Uq KT (w0:=W3.drew) W3.drew.heap.size rfl (.tmp 27) (.tmp 30) 50 69 ZT 80 rfl Try.underlying50 info69 rfl (by decide) (by omega) (.slice A1 l4.length c1) l4 [(⟨tk,(a':Int),tb,tn,l4,l5⟩:T)] _ _ _ (fun k=>(P0 k∨P1 k)∨W3.drew.heap.size≤k) (fun k=>(P1 k∧k<W3.drew.heap.size)∨k=bx) rfl rfl HN.out HF.out HNE.out (fun k hk=>.inr (Nat.le_trans HBX.out.size hk)) HBX.out HBX.out.size HLN.out ?_
      intro v8 w8 aD aH aP aC
      obtain ⟨A8,c8,aN⟩:=Kd.N_slice aD
      subst aN
      have aG:=Xa.mk aD
      have aF:=Xa.mk aH
      clear aD aH aP aC
      refine hK.out _ _ (Xt aB.out aF.out) (fun hHeld=>?_)
      clear hK K
      refine Zj (a':=?_) ?_ ?_
      rotate_left
      · show Act.put _ (some 31) _=_
        simp only [Act.put,List.setIfInBounds_toArray,List.set_cons_zero,List.set_cons_succ,Zc,Zb]
        rfl
      refine last_ (i:=9) (N:=some 32) #[true,true,true,true,true,true,true,true,true,true] rfl rfl (by kernel_rfl) (by decide) (fun K hK=>?_)
      refine goes_ Try.func105 (by kernel_rfl) rfl #[.pointer (some ⟨P,i * 5,none⟩),.slice A8 (l4 ++ [(⟨tk,(a':Int),tb,tn,l4,l5⟩:T)]).length c8] (by rfl) rfl rfl ga_ ?_
      refine (X4.out w8 A8 c8 aF.out (Kd.N_reads' aG.out).2.2 (Kd.N_reads' aG.out).2.1).mono ?_
      rintro e w9 ⟨rfl,hL⟩
      refine ⟨_,rfl,?_⟩
      have HL:=Xa.mk hL
      clear hL
      refine hK.out _ _ ?_
      clear hK K
      refine Zj (a':=?_) ?_ ?_
      rotate_left
      · show Act.put _ (some 32) _=_
        simp only [Act.put,List.setIfInBounds_toArray,List.set_cons_zero,List.set_cons_succ,Zc,Zb]
        rfl
      refine done_ (by kernel_rfl) ?_
      go_wp2
      go_end0
      refine ⟨rfl,?_⟩
      exact FIN.out _ HL.out
end Go.Proofs.Ytlhogkfmdnpmkaa.Mean
