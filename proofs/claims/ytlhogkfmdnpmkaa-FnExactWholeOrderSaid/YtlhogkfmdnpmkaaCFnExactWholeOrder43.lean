import Derived.Test.YtlhogkfmdnpmkaaCFnExactWholeOrder41
import Derived.Test.YtlhogkfmdnpmkaaCFnExactWholeOrder21
import Derived.WalkSpells
set_option maxHeartbeats 8000000
set_option maxRecDepth 100000
set_option linter.unusedVariables false
set_option linter.unusedSectionVars false
set_option linter.unusedSimpArgs false
namespace Go.Proofs.Ytlhogkfmdnpmkaa.Mean
open Go.RowKit Go.Proofs.Ytlhogkfmdnpmkaa.GWhole Go.Proofs.YtlhogkfmdnpmkaaW.PrintWords Go.Proofs.YtlhogkfmdnpmkaaW.PrintLast Go.Proofs.YtlhogkfmdnpmkaaW.PrintMore
variable [Prot]
theorem Small.nil:∀ (d:Nat),Small d []
  |0=>rfl
  |d+1=>⟨by simp,fun t ht=>by simp at ht⟩
theorem Left.only {W W2 W':World} {base:Nat} {ok:Nat→Prop} {s':WS} {g:Nat} (ho:Only W W2 ok) (h:Left W2 base ok s' g W'):Left W base ok s' g W':=by
  obtain ⟨b',h1,h2⟩:=h;exact ⟨b',h1,(ho.mono (fun k hk=>.inl hk)).trans (h2.mono (fun k hk=>.inl hk))⟩
theorem StmtIn.grown {W W':World} {d:Nat} {t:T} {A4:Option Addr} {c4:Nat} {A5:Option Addr} {c5:Nat} {P0:Nat→Prop} {row:Option Nat} (h:StmtIn W d t A4 c4 A5 c5 P0) (hg:W.grownBy W' row) (hn:∀ k,P0 k→some k≠row):StmtIn W' d t A4 c4 A5 c5 P0:=
  ⟨show Kd.V KT 69 W' W.heap.size P0 _ _ from Kd.V_step h.b4 (fun k hk hlt=>hg.block k hlt (hn k hk)),show Kd.V KT 69 W' W.heap.size P0 _ _ from Kd.V_step h.b5 (fun k hk hlt=>hg.block k hlt (hn k hk)),h.s4,h.s5,h.l4,h.l5⟩
def inRoom (s:WS) (i:Nat) (t:T):WS:={ (s.Yx i { s.proc i with room:=t.f1 }) with room:=up s.room t.f1.toNat ((i:Int)+1) }
def inNext (s:WS) (i:Nat) (t:T):WS:=doTodo (inRoom s i t) i (t.f4 ++ [leave t.f1])
theorem inRoom_todo (s:WS) (i:Nat) (t:T):((inRoom s i t).proc i).todo=(s.proc i).todo:=by
  show (up s.proc i _ i).todo=_
  rw [up_same]
theorem inDeed_do (W:World) (base:Nat) (ok:Nat→Prop) (b:BK) (s:WS) (g i:Nat) (t:T) (A4:Option Addr) (c4:Nat) (A5:Option Addr) (c5:Nat) (d:Nat) (P0:Nat→Prop) (h:St W base ok b s g) (hi:i<s.n) (ht:StmtIn W d t A4 c4 A5 c5 P0) (hl:(s.proc i).todo.length≤400000) (ha:0≤t.f1∧t.f1<2) (hn:s.n≤1000) (hp:∀ k,P0 k→free (lay b s) k) :
    Calls Try.prog 124 #[.agg #[.int .i64 t.f0,.int .i64 t.f1,.int .i64 t.f2,.int .i64 t.f3,.slice A4 t.f4.length c4,.slice A5 t.f5.length c5],.pointer (some ⟨g,0,none⟩),.int .i64 (i:Int)] W fun e W'=>e=.returned (.tuple #[])∧Left W base ok (inNext s i t) g W':=by
  obtain ⟨tk,ta,tb,tn,l4,l5⟩:=t;obtain ⟨a',rfl⟩:∃ a':Nat,ta=(a':Int):=Int.eq_ofNat_of_zero_le ha.1;dsimp only at *
  go_enter Try.func124,Try.ntmps124
  go_upto_region 1 with (fail)
  have HB:=Xj (Below.refl W.heap.size W) (.cells #[.int .i64 tk,.int .i64 (a':Int),.int .i64 tb,.int .i64 tn,.slice A4 l4.length c4,.slice A5 l5.length c5] 110);have hbx:=Yz W (.cells #[.int .i64 tk,.int .i64 (a':Int),.int .i64 tb,.int .i64 tn,.slice A4 l4.length c4,.slice A5 l5.length c5] 110)
  generalize W.alloc (.cells #[.int .i64 tk,.int .i64 (a':Int),.int .i64 tb,.int .i64 tn,.slice A4 l4.length c4,.slice A5 l5.length c5] 110)=W1 at *
  have h1:=h.below HB;have ht1:=ht.below HB;obtain ⟨P,cp,aU⟩:=h.at_.procs (by omega);have HP:=h1.at_.Yj (by omega) aU.v_;obtain ⟨c0,c1,c2,c3,aW⟩:=h1.wb.cells;rw [HP.v_] at c0;obtain ⟨b0,b1,b2,b3,b4,b5⟩:=box6 hbx
  have i0:(0:Int)≤(i:Int):=by omega
  have i1:(i:Int)<(s.n:Int):=by omega
  have i2:decide (i<s.n)=true:=decide_eq_true hi;obtain ⟨M,cm,aQ⟩:=h.at_.rooms;have HM:=ints_at h1.at_.rooms aQ.v_;rw [HM.v_] at c2;have p4:=HP.cell i 4 hi (by omega);have bJ:=HP.free_ (i * 5+4);have m_a:=HM.cell a' (by omega);have m_f:=HM.free_ a'
  have a3:(a':Int)<2:=by omega
  have a4:decide (a'<2)=true:=decide_eq_true (by omega);have hPlt:P<W.heap.size:=aU.lt;have hMlt:M<W.heap.size:=aQ.lt
  have hw1:IntKind.i64.wrap ((i:Int)+1)=(i:Int)+1:=by rw [IntKind.wrap_i64];omega
  have hsm:Small (d+1) (l4 ++ [leave (a':Int)]):=⟨by have:=ht.l4;dsimp only at this;rw [List.length_append,List.length_singleton];omega,fun x hx=>by
    rcases List.mem_append.1 hx with hx|hx
    · cases d with
      |zero=>have:l4=[]:=ht.s4;rw [this] at hx;simp at hx
      |succ d=>exact ⟨Small.more d (ht.s4.2 x hx).1,Small.more d (ht.s4.2 x hx).2⟩
    · rw [List.mem_singleton] at hx;subst hx;exact ⟨Small.nil _,Small.nil _⟩⟩
  have HBB:=Xa.mk HB;have HUP:=h.up
  go_upto_region 2 with (fail)
  go_region
  go_upto_region 3 with (fail)
  have hr1:=h1.at_.roomSet h1.up a' ((i:Int)+1) HM;have h2:=h1.write (t':=b.t) (q':=b.q) hr1;have hg1:=(stored (h1.at_.rows.at_ 2 _ rfl) HM.v_ a' (.int .i64 ((i:Int)+1))).2;have ht2:=ht1.grown hg1 (fun k hk e=>hp k hk 2 _ rfl e.symm);have aV:=h2.at_.Yj (show 0<s.n by omega) HP.v_;have hw2:=h2.at_.roomOf h2.up (i:=i) hi (a':Int) aV;have hg2:=(stored (h2.at_.rows.at_ 0 _ rfl) aV.v_ (i * 5+4) (.int .i64 (a':Int))).2;have ht3:=ht2.grown hg2 (fun k hk e=>hp k hk 0 _ rfl e.symm);have h3:=(h2.write (t':=b.t) (q':=b.q) hw2).below (Xh (Below.refl _ _) 1);have bB:=ht3.below (Xh (Below.refl _ _) 1);have o3:=(hr1.2.trans (hw2.2.mono (fun k hk=>.inl hk))).trans (Only.of_below (Xh (Below.refl _ ((W1.setCell ⟨M,a',none⟩ (.int .i64 ((i:Int)+1))).setCell ⟨P,i * 5+4,none⟩ (.int .i64 (a':Int)))) 1) _);have hb3:((W1.setCell ⟨M,a',none⟩ (.int .i64 ((i:Int)+1))).setCell ⟨P,i * 5+4,none⟩ (.int .i64 (a':Int))).drew.heap[W.heap.size]?=some (.cells #[.int .i64 tk,.int .i64 (a':Int),.int .i64 tb,.int .i64 tn,.slice A4 l4.length c4,.slice A5 l5.length c5] 110 (0,0)):=Yc (Zf (Zf hbx (fun e=>by have:W.heap.size=M:=e;omega) _) (fun e=>by have:W.heap.size=P:=e;omega) _);clear hg1 hg2 ht2 ht3 aV hw2 hr1 h2 c0 c1 c2 c3 aW b0 b1 b2 b3 b4 b5 p4 bJ m_a m_f hw1 HM aQ hbx h1 ht1 hPlt hMlt
  change St ((W1.setCell ⟨M,a',none⟩ (.int .i64 ((i:Int)+1))).setCell ⟨P,i * 5+4,none⟩ (.int .i64 (a':Int))).drew _ _ _ (inRoom s i (⟨tk,(a':Int),tb,tn,l4,l5⟩:T)) _ at h3
  change StmtIn ((W1.setCell ⟨M,a',none⟩ (.int .i64 ((i:Int)+1))).setCell ⟨P,i * 5+4,none⟩ (.int .i64 (a':Int))).drew _ _ _ _ _ _ _ at bB
  change Only W1 ((W1.setCell ⟨M,a',none⟩ (.int .i64 ((i:Int)+1))).setCell ⟨P,i * 5+4,none⟩ (.int .i64 (a':Int))).drew _ at o3
  generalize ((W1.setCell ⟨M,a',none⟩ (.int .i64 ((i:Int)+1))).setCell ⟨P,i * 5+4,none⟩ (.int .i64 (a':Int))).drew=W3 at *
  have hbd:Below W3.heap.size W3 W3.drew:=Xl (Below.refl _ _);have h5:=h3.below hbd;have bE:=bB.below hbd;have aD:Xa (W3.drew.heap[W.heap.size]?=some (.cells #[.int .i64 tk,.int .i64 (a':Int),.int .i64 tb,.int .i64 tn,.slice A4 l4.length c4,.slice A5 l5.length c5] 110 (0,0))):=⟨Yc hb3⟩;have HT:=Xa.mk bE;have aP:Xa (l4.length≤1000000):=⟨by have:=ht.l4;dsimp only at this;omega⟩;have HLN:Xa ((l4.length+1) * 80≤140737488355328):=⟨by have:=aP.out;omega⟩;obtain ⟨P1,hP1⟩:∃ P1:Nat→Prop,P1=P0:=⟨_,rfl⟩
  have HEL:Xa (∀ (wx:World) (bx:Nat),Below W3.drew.heap.size W3.drew wx→wx.heap[bx]?=some (.cells #[.int .i64 12,.int .i64 (a':Int),.int .i64 0,.int .i64 0,.slice none 0 0,.slice none 0 0] 69 (0,0))→Kd.F KT wx (fun k=>(P1 k∧k<W3.drew.heap.size)∨k=bx) (some ⟨bx,0,none⟩) 1 [leave (a':Int)]):=⟨fun wx bx hbw aZ=>
    F_one (t:=leave (a':Int)) aZ (Kd.F_nil _ _ _) (Kd.F_nil _ _ _) (Nat.le_refl 0) (Nat.le_refl 0)⟩
  have X4:=Lib.hid (fun (W2:World) (A:Option Addr) (c:Nat) (hb:Below W3.drew.heap.size W3.drew W2) (hC:Kd.C KT W2 A (l4 ++ [leave (a':Int)]).length (l4 ++ [leave (a':Int)])) (hc:(l4 ++ [leave (a':Int)]).length≤c)=>
    (insert_do W2 base ok b (inRoom s i (⟨tk,(a':Int),tb,tn,l4,l5⟩:T)) g i P cp _ A c (d+1) (h5.below hb) hi HP.v_ hC hc hsm (by have:=aP.out;have:=ht.l4;dsimp only at this;rw [List.length_append,List.length_singleton];omega) (by rw [inRoom_todo];exact hl)).mono (fun e w' ⟨he,hL⟩=>(⟨he,Left.after hb hL⟩:e=Ending.returned (.tuple #[])∧Left W3.drew base ok (inNext s i (⟨tk,(a':Int),tb,tn,l4,l5⟩:T)) g w')))
  have FIN:=Lib.hid (fun (w':World) (hL:Left W3.drew base ok (inNext s i (⟨tk,(a':Int),tb,tn,l4,l5⟩:T)) g w')=>(Left.after HBB.out (Left.only o3 (Left.after hbd hL)):Left W base ok (inNext s i (⟨tk,(a':Int),tb,tn,l4,l5⟩:T)) g w'));clear bE h5 hbd h3 bB o3 hb3 hP1 ht h HB hsm HP aU hp;refine start_ (n:=12) (S:=fun w'=>w'.heap[W.heap.size]?=some (.cells #[.int .i64 tk,.int .i64 (a':Int),.int .i64 tb,.int .i64 tn,.slice A4 l4.length c4,.slice A5 l5.length c5] 110)) (ds:=[11]) #[false,false,false,false,false,false,false,false,false,false,false,false] (by kernel_rfl) rfl (by rfl) aD.out (fun hHeld=>?_)
  refine Xp (i:=0) (N:=some 29) (v:=?_) (a':=?_) #[true,false,false,false,false,false,false,false,false,false,false,false] rfl rfl (by kernel_rfl) (fun _ _ _ h=>h) (Or.inl ⟨by rfl,?_⟩) ?_ ?_
  rotate_left
  · exact wr_
  rotate_left
  · exact ap_
  refine Xp (i:=1) (N:=some 30) (v:=?_) (a':=?_) #[true,true,false,false,false,false,false,false,false,false,false,false] rfl rfl (by kernel_rfl) (fun _ _ _ h=>h) (Or.inl ⟨by rfl,?_⟩) ?_ ?_
  rotate_left
  · exact wr_
  rotate_left
  · exact ap_
  refine Xp (i:=2) (N:=some 31) (v:=?_) (a':=?_) #[true,true,true,false,false,false,false,false,false,false,false,false] rfl rfl (by kernel_rfl) (fun _ _ _ h=>h) (Or.inl ⟨by rfl,?_⟩) ?_ ?_
  rotate_left
  · exact wr_
  rotate_left
  · exact ap_
  refine Xp (i:=5) (N:=some 34) (v:=?_) (a':=?_) #[true,true,true,false,false,true,false,false,false,false,false,false] rfl rfl (by kernel_rfl) (fun _ _ _ h=>h) (Or.inl ⟨by rfl,?_⟩) ?_ ?_
  rotate_left
  · exact wr_
  rotate_left
  · exact ap_
  refine Xp (i:=6) (N:=some 35) (v:=?_) (a':=?_) #[true,true,true,false,false,true,true,false,false,false,false,false] rfl rfl (by kernel_rfl) (fun _ _ _ h=>h) (Or.inl ⟨by rfl,?_⟩) ?_ ?_
  rotate_left
  · exact wr_
  rotate_left
  · exact ap_
  refine Zp (i:=3) (N:=some 32) (v:=?_) (a':=?_) #[true,true,true,true,false,true,true,false,false,false,false,false] rfl rfl (by kernel_rfl) (fun _ _ _ h=>h) (Or.inl ⟨by rfl,?_⟩) hHeld ?_ ?_
  rotate_left
  · rintro w' s0;obtain ⟨c0,c1,c2,c3,aW,bH⟩:=box6 s0;clear s0
    go_simp
    with_reducible rfl
  rotate_left
  · exact ap_
  refine Zp (i:=7) (N:=some 36) (v:=?_) (a':=?_) #[true,true,true,true,false,true,true,true,false,false,false,false] rfl rfl (by kernel_rfl) (fun _ _ _ h=>h) (Or.inl ⟨by rfl,?_⟩) hHeld ?_ ?_
  rotate_left
  · rintro w' s0;obtain ⟨c0,c1,c2,c3,aW,bH⟩:=box6 s0;clear s0
    go_simp
    with_reducible rfl
  rotate_left
  · exact ap_
  refine Xp (i:=8) (N:=some 37) (v:=?_) (a':=?_) #[true,true,true,true,false,true,true,true,true,false,false,false] rfl rfl (by kernel_rfl) (fun _ _ _ h=>h) (Or.inl ⟨by rfl,?_⟩) ?_ ?_
  rotate_left
  · exact wr_
  rotate_left
  · exact ap_
  refine two_ (i:=4) (j:=9) (Ni:=some 33) (Nj:=some 38) #[true,true,true,true,true,true,true,true,true,false,false,false] #[true,true,true,true,false,true,true,true,true,true,false,false] rfl rfl rfl rfl (by kernel_rfl) (by decide) (by decide) (fun K hK=>?_) (fun K hK=>?_)
  · skip
    refine goes_ Try.func123 (by kernel_rfl) rfl #[.slice A4 l4.length c4] (by rfl) rfl rfl ga_ ?_
    refine (cloneStmt P0 A4 c4 l4 W3.drew HT.out.b4 aP.out).mono ?_
    rintro e wA ⟨v1,rfl,hn1,hb1⟩
    refine ⟨_,rfl,?_⟩
    obtain ⟨A1,c1,aX⟩:=Kd.N_slice hn1;subst aX;have aT:=Xa.mk hn1;have HB1:=Xa.mk hb1;clear hn1 hb1;refine hK.out _ _ (Xt aD.out HB1.out) (fun hHeld=>?_)
    clear hK K;refine Zj (a':=?_) ?_ ?_
    rotate_left
    · show Act.put _ (some 33) _=_
      simp only [Act.put,List.setIfInBounds_toArray,List.set_cons_zero,List.set_cons_succ,Zc,Zb];rfl
    refine one_ (i:=9) (N:=some 38) #[true,true,true,true,true,true,true,true,true,true,false,false] rfl rfl (by kernel_rfl) (by decide) (fun K hK=>?_)
    refine value_ (v:=.slice (some ⟨wA.heap.size,0,none⟩) 1 1) (w1:=wA.alloc (.cells #[.int .i64 12,.int .i64 (a':Int),.int .i64 0,.int .i64 0,.slice none 0 0,.slice none 0 0] 69)) rfl rfl (by kernel_rfl) ?_
    have hba:=Xj (Below.refl wA.heap.size wA) (.cells #[.int .i64 12,.int .i64 (a':Int),.int .i64 0,.int .i64 0,.slice none 0 0,.slice none 0 0] 69);have hxa:=Yz wA (.cells #[.int .i64 12,.int .i64 (a':Int),.int .i64 0,.int .i64 0,.slice none 0 0,.slice none 0 0] 69);obtain ⟨wx,hw2⟩:∃ w2,wA.alloc (.cells #[.int .i64 12,.int .i64 (a':Int),.int .i64 0,.int .i64 0,.slice none 0 0,.slice none 0 0] 69)=w2:=⟨_,rfl⟩;rw [hw2] at hba hxa ⊢
    have hsz:wA.heap.size<wx.heap.size:=by rw [← hw2];simp
    clear hw2;obtain ⟨bx,hbx⟩:∃ bx,wA.heap.size=bx:=⟨_,rfl⟩;rw [hbx] at hxa hsz ⊢;have HBX:Xa (Below W3.drew.heap.size W3.drew wx):=⟨HB1.out.trans ⟨hba.os,hba.tape,hba.output,hba.size,fun j hj=>hba.block j (Nat.lt_of_lt_of_le hj HB1.out.size)⟩⟩;have HN:Xa (Kd.N KT 69 wx W3.drew.heap.size (fun k=>(P0 k∨P1 k)∨W3.drew.heap.size≤k) (.slice A1 l4.length c1) l4):=⟨Kd.N_mono (Kd.N_below aT.out hba) (fun k hk=>hk.elim (fun h=>.inl (.inl h)) .inr)⟩;have HF:Xa (Kd.F KT wx (fun k=>(P1 k∧k<W3.drew.heap.size)∨k=bx) (some ⟨bx,0,none⟩) 1 [leave (a':Int)]):=⟨HEL.out wx bx HBX.out hxa⟩;have HNE:Xa (∀ k,((P1 k∧k<W3.drew.heap.size)∨k=bx)→((P0 k∨P1 k)∨W3.drew.heap.size≤k)∧some k≠(Value.slice A1 l4.length c1).ownBlock):=⟨fun k hk=>⟨hk.elim (fun h=>.inl (.inr h.1)) (fun h=>.inr (by have:=HB1.out.size;omega)),fun e=>by have h1:=Kd.N_base aT.out k e.symm;have h2:=Kd.N_lt aT.out k e.symm;rcases hk with hk|hk <;> omega⟩⟩;clear hba hxa hsz hbx;refine hK.out _ _ (Xt aD.out HBX.out) (fun hHeld=>?_)
    clear hK K;refine Zj (a':=?_) ?_ ?_
    rotate_left
    · show Act.put _ (some 38) _=_
      simp only [Act.put,List.setIfInBounds_toArray,List.set_cons_zero,List.set_cons_succ,Zc,Zb];rfl
    refine one_ (i:=10) (N:=some 39) #[true,true,true,true,true,true,true,true,true,true,true,false] rfl rfl (by kernel_rfl) (by decide) (fun K hK=>?_)
    refine Kd.Uq KT (w0:=W3.drew) W3.drew.heap.size rfl (.tmp 33) (.tmp 38) 50 69 ZT 80 rfl Try.underlying50 info69 rfl (by decide) (by omega) (.slice A1 l4.length c1) l4 [leave (a':Int)] _ _ _ (fun k=>(P0 k∨P1 k)∨W3.drew.heap.size≤k) (fun k=>(P1 k∧k<W3.drew.heap.size)∨k=bx) rfl rfl HN.out HF.out HNE.out (fun k hk=>.inr (Nat.le_trans HBX.out.size hk)) HBX.out HBX.out.size HLN.out ?_
    intro v8 w8 aH aM bA aG;obtain ⟨A8,c8,aY⟩:=Kd.N_slice aH;subst aY;have aJ:=Xa.mk aH;have aI:=Xa.mk aM;clear aH aM bA aG;refine hK.out _ _ (Xt aD.out aI.out) (fun hHeld=>?_)
    clear hK K;refine Zj (a':=?_) ?_ ?_
    rotate_left
    · show Act.put _ (some 39) _=_
      simp only [Act.put,List.setIfInBounds_toArray,List.set_cons_zero,List.set_cons_succ,Zc,Zb];rfl
    refine last_ (i:=11) (N:=some 40) #[true,true,true,true,true,true,true,true,true,true,true,true] rfl rfl (by kernel_rfl) (by decide) (fun K hK=>?_)
    refine goes_ Try.func105 (by kernel_rfl) rfl #[.pointer (some ⟨P,i * 5,none⟩),.slice A8 (l4 ++ [leave (a':Int)]).length c8] (by rfl) rfl rfl ga_ ?_
    refine (X4.out w8 A8 c8 aI.out (Kd.N_reads' aJ.out).2.2 (Kd.N_reads' aJ.out).2.1).mono ?_
    rintro e w9 ⟨rfl,hL⟩
    refine ⟨_,rfl,?_⟩
    have HL:=Xa.mk hL;clear hL;refine hK.out _ _ ?_
    clear hK K;refine Zj (a':=?_) ?_ ?_
    rotate_left
    · show Act.put _ (some 40) _=_
      simp only [Act.put,List.setIfInBounds_toArray,List.set_cons_zero,List.set_cons_succ,Zc,Zb];rfl
    refine done_ (by kernel_rfl) ?_
    go_wp2
    go_end0
    refine ⟨rfl,?_⟩
    exact FIN.out _ HL.out
  · skip
    refine value_ (v:=.slice (some ⟨W3.drew.heap.size,0,none⟩) 1 1) (w1:=W3.drew.alloc (.cells #[.int .i64 12,.int .i64 (a':Int),.int .i64 0,.int .i64 0,.slice none 0 0,.slice none 0 0] 69)) rfl rfl (by kernel_rfl) ?_
    have hba:=Xj (Below.refl W3.drew.heap.size W3.drew) (.cells #[.int .i64 12,.int .i64 (a':Int),.int .i64 0,.int .i64 0,.slice none 0 0,.slice none 0 0] 69);have hxa:=Yz W3.drew (.cells #[.int .i64 12,.int .i64 (a':Int),.int .i64 0,.int .i64 0,.slice none 0 0,.slice none 0 0] 69);obtain ⟨wB,hw2⟩:∃ w2,W3.drew.alloc (.cells #[.int .i64 12,.int .i64 (a':Int),.int .i64 0,.int .i64 0,.slice none 0 0,.slice none 0 0] 69)=w2:=⟨_,rfl⟩;rw [hw2] at hba hxa ⊢
    have hsz:W3.drew.heap.size<wB.heap.size:=by rw [← hw2];simp
    clear hw2;obtain ⟨bx,hbx⟩:∃ bx,W3.drew.heap.size=bx:=⟨_,rfl⟩;rw [hbx] at hxa hsz ⊢;have aA:=Xa.mk hba;have bG:Xa (Kd.F KT wB (fun k=>(P1 k∧k<W3.drew.heap.size)∨k=bx) (some ⟨bx,0,none⟩) 1 [leave (a':Int)]):=⟨HEL.out wB bx hba hxa⟩;have HBXE:Xa (bx=W3.drew.heap.size):=⟨hbx.symm⟩;have HBXL:=Xa.mk hsz;clear hba hxa hsz hbx;refine hK.out _ _ (Xt aD.out aA.out) (fun hHeld=>?_)
    clear hK K;refine Zj (a':=?_) ?_ ?_
    rotate_left
    · show Act.put _ (some 38) _=_
      simp only [Act.put,List.setIfInBounds_toArray,List.set_cons_zero,List.set_cons_succ,Zc,Zb];rfl
    refine one_ (i:=4) (N:=some 33) #[true,true,true,true,true,true,true,true,true,true,false,false] rfl rfl (by kernel_rfl) (by decide) (fun K hK=>?_)
    refine goes_ Try.func123 (by kernel_rfl) rfl #[.slice A4 l4.length c4] (by rfl) rfl rfl ga_ ?_
    refine (cloneStmt P0 A4 c4 l4 wB (show Kd.V KT 69 wB _ P0 _ _ from Kd.V_below HT.out.b4 aA.out) aP.out).mono ?_
    rintro e wA ⟨v1,rfl,hn1,hb1⟩
    refine ⟨_,rfl,?_⟩
    obtain ⟨A1,c1,aX⟩:=Kd.N_slice hn1;subst aX;have HBX:Xa (Below W3.drew.heap.size W3.drew wA):=⟨aA.out.trans ⟨hb1.os,hb1.tape,hb1.output,hb1.size,fun j hj=>hb1.block j (Nat.lt_of_lt_of_le hj aA.out.size)⟩⟩;have HN:Xa (Kd.N KT 69 wA W3.drew.heap.size (fun k=>(P0 k∨P1 k)∨W3.drew.heap.size≤k) (.slice A1 l4.length c1) l4):=⟨Kd.N_mono (Kd.N_lower hn1 aA.out.size) (fun k hk=>hk.elim (fun h=>.inl (.inl h)) (fun h=>.inr (Nat.le_trans aA.out.size h)))⟩;have HF:Xa (Kd.F KT wA (fun k=>(P1 k∧k<W3.drew.heap.size)∨k=bx) (some ⟨bx,0,none⟩) 1 [leave (a':Int)]):=⟨Kd.F_below bG.out hb1⟩;have HNE:Xa (∀ k,((P1 k∧k<W3.drew.heap.size)∨k=bx)→((P0 k∨P1 k)∨W3.drew.heap.size≤k)∧some k≠(Value.slice A1 l4.length c1).ownBlock):=⟨fun k hk=>⟨hk.elim (fun h=>.inl (.inr h.1)) (fun h=>.inr (by have:=HBXE.out;omega)),fun e=>by have h1:=Kd.N_base hn1 k e.symm;have:=aA.out.size;have:=HBXE.out;have:=HBXL.out;rcases hk with hk|hk <;> omega⟩⟩;clear hn1 hb1;refine hK.out _ _ (Xt aD.out HBX.out) (fun hHeld=>?_)
    clear hK K;refine Zj (a':=?_) ?_ ?_
    rotate_left
    · show Act.put _ (some 33) _=_
      simp only [Act.put,List.setIfInBounds_toArray,List.set_cons_zero,List.set_cons_succ,Zc,Zb];rfl
    refine one_ (i:=10) (N:=some 39) #[true,true,true,true,true,true,true,true,true,true,true,false] rfl rfl (by kernel_rfl) (by decide) (fun K hK=>?_)
    refine Kd.Uq KT (w0:=W3.drew) W3.drew.heap.size rfl (.tmp 33) (.tmp 38) 50 69 ZT 80 rfl Try.underlying50 info69 rfl (by decide) (by omega) (.slice A1 l4.length c1) l4 [leave (a':Int)] _ _ _ (fun k=>(P0 k∨P1 k)∨W3.drew.heap.size≤k) (fun k=>(P1 k∧k<W3.drew.heap.size)∨k=bx) rfl rfl HN.out HF.out HNE.out (fun k hk=>.inr (Nat.le_trans HBX.out.size hk)) HBX.out HBX.out.size HLN.out ?_
    intro v8 w8 aH aM bA aG;obtain ⟨A8,c8,aY⟩:=Kd.N_slice aH;subst aY;have aJ:=Xa.mk aH;have aI:=Xa.mk aM;clear aH aM bA aG;refine hK.out _ _ (Xt aD.out aI.out) (fun hHeld=>?_)
    clear hK K;refine Zj (a':=?_) ?_ ?_
    rotate_left
    · show Act.put _ (some 39) _=_
      simp only [Act.put,List.setIfInBounds_toArray,List.set_cons_zero,List.set_cons_succ,Zc,Zb];rfl
    refine last_ (i:=11) (N:=some 40) #[true,true,true,true,true,true,true,true,true,true,true,true] rfl rfl (by kernel_rfl) (by decide) (fun K hK=>?_)
    refine goes_ Try.func105 (by kernel_rfl) rfl #[.pointer (some ⟨P,i * 5,none⟩),.slice A8 (l4 ++ [leave (a':Int)]).length c8] (by rfl) rfl rfl ga_ ?_
    refine (X4.out w8 A8 c8 aI.out (Kd.N_reads' aJ.out).2.2 (Kd.N_reads' aJ.out).2.1).mono ?_
    rintro e w9 ⟨rfl,hL⟩
    refine ⟨_,rfl,?_⟩
    have HL:=Xa.mk hL;clear hL;refine hK.out _ _ ?_
    clear hK K;refine Zj (a':=?_) ?_ ?_
    rotate_left
    · show Act.put _ (some 40) _=_
      simp only [Act.put,List.setIfInBounds_toArray,List.set_cons_zero,List.set_cons_succ,Zc,Zb];rfl
    refine done_ (by kernel_rfl) ?_
    go_wp2
    go_end0
    refine ⟨rfl,?_⟩
    exact FIN.out _ HL.out
end Go.Proofs.Ytlhogkfmdnpmkaa.Mean
namespace Go.Proofs.Ytlhogkfmdnpmkaa.GWhole
open Go.RowKit Go.Proofs.YtlhogkfmdnpmkaaW.PrintWords Go.Proofs.YtlhogkfmdnpmkaaW.PrintLast Go.Proofs.YtlhogkfmdnpmkaaW.PrintMore
attribute [local go_sem] Ui Uk max_two min_two Zx Zy Uj Ul
set_option linter.unusedVariables false
set_option linter.unusedSimpArgs false
def Uu.f (l0:List (Int)):Option (List (Int)):=if l0.length<17592186044416 then some l0 else none
theorem Uu.calls (A0:Option Addr) (c0:Nat) (l0:List (Int)) (r:List (Int)) (w:World) (hr0:Kd.C (Kd.int .i64) w A0 l0.length l0) (hc0:l0.length≤c0) (h:Uu.f l0=some r) :
  Calls Try.prog 127 #[.slice A0 l0.length c0] w fun e w'=>∃ bF:Value,e=.returned (bF)∧Kd.R (Kd.int .i64) 3 w' w.heap.size (fun _=>True) bF r∧Below w.heap.size w w':=by
 unfold Uu.f at h
 by_cases hl:l0.length<17592186044416
 ·rw [if_pos hl] at h;obtain rfl:=Option.some.inj h;have HL:=Xa.mk hl;clear h hl;have bC:=Xa.mk hr0;clear hr0;have HB:=Xa.mk (Below.refl w.heap.size w);have qT:∀ (w:World) (a:Option Addr) (n c n' c':Nat),(binOp .eql 23 (.slice a n c) (.slice none n' c')).run Try.prog w=.ok (.bool a.isNone) w:=fun w a n c n' c'=>Lib.run_eql_slice_nil w _ _ a n c n' c' Try.underlying23
  cases A0 with
  |none=>
   have hn:l0=[]:=by
    cases l0 with
    |nil=>rfl
    |cons x xs=>exact absurd (Kd.C_get bC.out 0 0 (by omega) (by simp)) (by rintro ⟨ad,c,e,_⟩;cases e)
   subst hn
   go_enter Try.func127,Try.ntmps127
   go_wp2
   go_ret
   exact ⟨_,rfl,Kd.R_nil _ _ _ _ _,HB.out⟩
  |some ad=>
   go_enter Try.func127,Try.ntmps127
   go_wp2_with (first|((with_reducible refine Zh (N:=5) rfl ?_);refine Kd.R_lit (Kd.int .i64) _ 3 ?hg (N:=5) ?hd (xs:=([]:List (Int))) (inner:=[]) (ok:=fun _=>True) (okp:=fun _=>True) ?hr ?hp (fun _ hk=>hk) trivial (Below.refl _ _) (Nat.le_refl _) (by simp) ?_;(case hd|hg=>rfl);(case hr=>exact hr_);(case hp=>exact (Zw.none _ _));intro v193 w6 bD hb bI aN;clear bI aN;have aC:=Xa.mk (Kd.Yy bD (Xf (bl_ HB)));replace HB:=Xa.mk (Xe (bl_ HB) hb);clear hb bD)|((with_reducible refine gate_builtin (b:=.append) (xs:=#[.tmp 5,.tmp 6]) rfl ?_);at_builtin;refine Kd.R_append_rows (Kd.int .i64) (w0:=w) w.heap.size rfl (.tmp 5) (.tmp 6) 23 3 (.int .i64 0) 8 rfl Try.underlying23 info3 rfl (by decide) (by omega) v193 [] l0 _ _ _ (fun _=>True) (fun _=>False) rfl rfl ?aO ?aR (fun _ _ h=>h) (fun _ h=>h.elim) ?aF ?aB ?aS ?aL ?_;(case aR=>exact Kd.ca_ (Kd.Xr bC.out HB.out));(case aB=>exact (bl_ HB));(case aF=>exact (fun _ _=>trivial));(case aO=>exact (Kd.ra_ (aC.out)));(case aS=>exact (Xf (bl_ HB)));(case aL=>have:=HL.out;simp;omega);intro v196 w8 ho hb hg hat;replace HB:=Xa.mk (hb);have aK:=Xa.mk (ho);clear aC ho hb hg hat))
   go_ret
   exact ⟨_,rfl,by simpa using aK.out,HB.out⟩
 ·rw [if_neg hl] at h
  cases h
end Go.Proofs.Ytlhogkfmdnpmkaa.GWhole
