import Derived.Test.YtlhogkfmdnpmkaaGreatCFnExactMarksOf37
import Derived.WalkSpells
set_option linter.unusedSectionVars false
set_option linter.unusedVariables false
set_option linter.unusedSimpArgs false
set_option maxHeartbeats 4000000
set_option maxRecDepth 100000
namespace Go.Proofs.YtlhogkfmdnpmkaaGreat.Mean
open RowKit GMarks YtlhogkfmdnpmkaaGreatW.PrintWords YtlhogkfmdnpmkaaGreatW.PrintLast YtlhogkfmdnpmkaaGreatW.PrintMore
variable [Prot]
def Wb (W:World) (g:Nat) (b:BK):Prop:=W.heap[g]?=some (.cells #[b.p,b.c,b.m,b.s,b.d] 56 (0,0))
theorem Wb.cells {W:World} {g:Nat} {b:BK} (h:Wb W g b):W.cell? ⟨g,0,none⟩=some b.p∧W.cell? ⟨g,1,none⟩=some b.c∧W.cell? ⟨g,2,none⟩=some b.m∧W.cell? ⟨g,3,none⟩=some b.s∧W.cell? ⟨g,4,none⟩=some b.d:=by
 unfold Wb at h;exact ⟨(Xd h 0).trans rfl,(Xd h 1).trans rfl,(Xd h 2).trans rfl,(Xd h 3).trans rfl,(Xd h 4).trans rfl⟩
structure St (W:World) (base:Nat) (ok:Nat→Prop) (b:BK) (s:WS) (g:Nat):Prop where
 at_:At W base ok b s
 wb:Wb W g b
 up:∀ k,W.heap.size≤k→ok k
 g_:¬ ok g
def Left (W:World) (base:Nat) (ok:Nat→Prop) (s':WS) (g:Nat) (W':World):Prop:=∃ b',St W' base ok b' s' g∧Only W W' (fun k=>ok k∨k=g)
theorem St.below {W W':World} {base:Nat} {ok:Nat→Prop} {b:BK} {s:WS} {g:Nat} (h:St W base ok b s g) (hb:Below W.heap.size W W'):St W' base ok b s g:=
 ⟨h.at_.below hb,Xm h.wb hb,fun k hk=>h.up k (nt_ hb.size hk),h.g_⟩
theorem St.write {W W':World} {base:Nat} {ok:Nat→Prop} {b:BK} {s s':WS} {g:Nat} (h:St W base ok b s g) {t':Nat→Value} {q':Nat→Value} (hw:At W' base ok { b with t:=t',q:=q' } s'∧Only W W' ok):St W' base ok { b with t:=t',q:=q' } s' g:=
 ⟨hw.1,(hw.2.block g (Xq h.wb) h.g_).trans h.wb,fun k hk=>h.up k (nt_ hw.2.size hk),h.g_⟩
theorem Left.of {W W1 W':World} {base:Nat} {ok:Nat→Prop} {b:BK} {s':WS} {g:Nat} (h:St W' base ok b s' g) (h1:Below W.heap.size W W1) (h2:Only W1 W' (fun k=>ok k∨k=g)) (hup:∀ k,W.heap.size≤k→ok k):Left W base ok s' g W':=
 ⟨b,h,(Only.of_below h1 _).trans (h2.mono (fun k hk=>.inl hk))⟩
theorem numDeed_do (W:World) (base:Nat) (ok:Nat→Prop) (b:BK) (s:WS) (g i:Nat) (a:Int) (n:Int) (h:St W base ok b s g) (hi:i<s.n) (ha:0≤a∧a<3) :
  Calls Tryz.prog 134 #[.agg #[.int .i64 a,.int .i64 n],.pointer (some ⟨g,0,none⟩),.int .i64 (i:Int)] W fun e W'=>e=.returned (.tuple #[])∧Left W base ok (doReg s i a n) g W':=by
 obtain ⟨a',rfl⟩:=Int.eq_ofNat_of_zero_le ha.1;go_enter Tryz.func134,Tryz.ntmps134;go_upto_region 1 with (fail);have HB:=Xf (Below.refl W.heap.size W) (.cells #[.int .i64 (a':Int),.int .i64 n] 139);have hbx:=Yc W (.cells #[.int .i64 (a':Int),.int .i64 n] 139);generalize W.alloc (.cells #[.int .i64 (a':Int),.int .i64 n] 139)=W1 at *;have h1:=h.below HB;obtain ⟨P,cp,HP⟩:=h1.at_.procs om_;obtain ⟨R,cr,HR⟩:=h1.at_.regs hi;obtain ⟨c0,c1,c2,c3,c4⟩:=h1.wb.cells;rw [HP.v_] at c0;have p0:=HP.cell i 0 hi om_;simp only [Yn,if_true,Nat.add_zero] at p0;rw [HR.v_] at p0;have r_a:=HR.cell a' om_;have f_a:=HR.free_ a'
 have i0:(0:Int)≤(i:Int):=om_
 have i1:(i:Int)<(s.n:Int):=om_
 have i2:decide (i<s.n)=true:=dt_ hi
 have a3:(a':Int)<3:=om_
 have a4:decide (a'<3)=true:=dt_ om_;have b0:W1.cell? ⟨W.heap.size,0,none⟩=some (.int .i64 (a':Int)):=(Xd hbx 0).trans rfl;have b1:W1.cell? ⟨W.heap.size,1,none⟩=some (.int .i64 n):=(Xd hbx 1).trans rfl
 go_still_tail 13,kr_
 change wpList _ _ _ _ _ W1.drew;go_wp2;go_end0;have hw:=h1.at_.reg h1.up hi a' n HR;have h2:=h1.write (t':=b.t) (q':=b.q) hw;exact ⟨rfl,Left.of (h2.below (Xg (Below.refl _ _) 1)) HB ((hw.2.mono (fun k hk=>.inl hk)).trans (Only.of_below (Xg (Below.refl _ _) 1) _)) h.up⟩
theorem loadDeed_do (W:World) (base:Nat) (ok:Nat→Prop) (b:BK) (s:WS) (g i:Nat) (a:Int) (c:Int) (h:St W base ok b s g) (hi:i<s.n) (ha:0≤a∧a<3) (hc:0≤c∧c<3) :
  Calls Tryz.prog 144 #[.agg #[.int .i64 a,.int .i64 c],.pointer (some ⟨g,0,none⟩),.int .i64 (i:Int)] W fun e W'=>e=.returned (.tuple #[])∧Left W base ok (doReg s i a (s.cell c.toNat)) g W':=by
 obtain ⟨a',rfl⟩:=Int.eq_ofNat_of_zero_le ha.1;obtain ⟨c',rfl⟩:=Int.eq_ofNat_of_zero_le hc.1;go_enter Tryz.func144,Tryz.ntmps144;go_upto_region 1 with (fail);have HB:=Xf (Below.refl W.heap.size W) (.cells #[.int .i64 (a':Int),.int .i64 (c':Int)] 143);have hbx:=Yc W (.cells #[.int .i64 (a':Int),.int .i64 (c':Int)] 143);generalize W.alloc (.cells #[.int .i64 (a':Int),.int .i64 (c':Int)] 143)=W1 at *;have h1:=h.below HB;obtain ⟨P,cp,HP⟩:=h1.at_.procs om_;obtain ⟨R,cr,HR⟩:=h1.at_.regs hi;obtain ⟨c0,c1,c2,c3,c4⟩:=h1.wb.cells;rw [HP.v_] at c0;have p0:=HP.cell i 0 hi om_;simp only [Yn,if_true,Nat.add_zero] at p0;rw [HR.v_] at p0;obtain ⟨C,cc,HC⟩:=h1.at_.cells;rw [HC.v_] at c1;have r_a:=HR.cell a' om_;have f_a:=HR.free_ a';have k_c:=HC.cell c' om_
 have i0:(0:Int)≤(i:Int):=om_
 have i1:(i:Int)<(s.n:Int):=om_
 have i2:decide (i<s.n)=true:=dt_ hi
 have a3:(a':Int)<3:=om_
 have a4:decide (a'<3)=true:=dt_ om_
 have c3:(c':Int)<3:=om_
 have c4:decide (c'<3)=true:=dt_ om_;have b0:W1.cell? ⟨W.heap.size,0,none⟩=some (.int .i64 (a':Int)):=(Xd hbx 0).trans rfl;have b1:W1.cell? ⟨W.heap.size,1,none⟩=some (.int .i64 (c':Int)):=(Xd hbx 1).trans rfl
 go_still_tail 19,kr_
 change wpList _ _ _ _ _ W1.drew;go_wp2;go_end0;have hw:=h1.at_.reg h1.up hi a' (s.cell c') HR;have h2:=h1.write (t':=b.t) (q':=b.q) hw;exact ⟨rfl,Left.of (h2.below (Xg (Below.refl _ _) 1)) HB ((hw.2.mono (fun k hk=>.inl hk)).trans (Only.of_below (Xg (Below.refl _ _) 1) _)) h.up⟩
theorem storeDeed_do (W:World) (base:Nat) (ok:Nat→Prop) (b:BK) (s:WS) (g i:Nat) (c:Int) (a:Int) (h:St W base ok b s g) (hi:i<s.n) (hc:0≤c∧c<3) (ha:0≤a∧a<3) :
  Calls Tryz.prog 145 #[.agg #[.int .i64 c,.int .i64 a],.pointer (some ⟨g,0,none⟩),.int .i64 (i:Int)] W fun e W'=>e=.returned (.tuple #[])∧Left W base ok ({ s with cell:=up s.cell c.toNat ((s.proc i).regs a.toNat) }) g W':=by
 obtain ⟨c',rfl⟩:=Int.eq_ofNat_of_zero_le hc.1;obtain ⟨a',rfl⟩:=Int.eq_ofNat_of_zero_le ha.1;go_enter Tryz.func145,Tryz.ntmps145;go_upto_region 1 with (fail);have HB:=Xf (Below.refl W.heap.size W) (.cells #[.int .i64 (c':Int),.int .i64 (a':Int)] 145);have hbx:=Yc W (.cells #[.int .i64 (c':Int),.int .i64 (a':Int)] 145);generalize W.alloc (.cells #[.int .i64 (c':Int),.int .i64 (a':Int)] 145)=W1 at *;have h1:=h.below HB;obtain ⟨P,cp,HP⟩:=h1.at_.procs om_;obtain ⟨R,cr,HR⟩:=h1.at_.regs hi;obtain ⟨c0,c1,c2,c3,c4⟩:=h1.wb.cells;rw [HP.v_] at c0;have p0:=HP.cell i 0 hi om_;simp only [Yn,if_true,Nat.add_zero] at p0;rw [HR.v_] at p0;obtain ⟨C,cc,HC⟩:=h1.at_.cells;rw [HC.v_] at c1;have r_a:=HR.cell a' om_;have k_c:=HC.cell c' om_;have k_f:=HC.free_ c'
 have i0:(0:Int)≤(i:Int):=om_
 have i1:(i:Int)<(s.n:Int):=om_
 have i2:decide (i<s.n)=true:=dt_ hi
 have a3:(a':Int)<3:=om_
 have a4:decide (a'<3)=true:=dt_ om_
 have c3:(c':Int)<3:=om_
 have c4:decide (c'<3)=true:=dt_ om_;have b0:W1.cell? ⟨W.heap.size,0,none⟩=some (.int .i64 (c':Int)):=(Xd hbx 0).trans rfl;have b1:W1.cell? ⟨W.heap.size,1,none⟩=some (.int .i64 (a':Int)):=(Xd hbx 1).trans rfl
 go_still_tail 19,kr_
 change wpList _ _ _ _ _ W1.drew;go_wp2;go_end0;have hw:=h1.at_.cellSet h1.up c' ((s.proc i).regs a') HC;have h2:=h1.write (t':=b.t) (q':=b.q) hw;exact ⟨rfl,Left.of (h2.below (Xg (Below.refl _ _) 1)) HB ((hw.2.mono (fun k hk=>.inl hk)).trans (Only.of_below (Xg (Below.refl _ _) 1) _)) h.up⟩
theorem leaveDeed_do (W:World) (base:Nat) (ok:Nat→Prop) (b:BK) (s:WS) (g i:Nat) (a:Int) (h:St W base ok b s g) (hi:i<s.n) (ha:0≤a∧a<2) :
  Calls Tryz.prog 155 #[.agg #[.int .i64 a],.pointer (some ⟨g,0,none⟩),.int .i64 (i:Int)] W fun e W'=>e=.returned (.tuple #[])∧Left W base ok ({ (s.Yq i { s.proc i with room:=-1 }) with room:=up s.room a.toNat 0 }) g W':=by
 obtain ⟨a',rfl⟩:=Int.eq_ofNat_of_zero_le ha.1;go_enter Tryz.func155,Tryz.ntmps155;go_upto_region 1 with (fail);have HB:=Xf (Below.refl W.heap.size W) (.cells #[.int .i64 (a':Int)] 156);have hbx:=Yc W (.cells #[.int .i64 (a':Int)] 156);generalize W.alloc (.cells #[.int .i64 (a':Int)] 156)=W1 at *;have h1:=h.below HB;obtain ⟨P,cp,aB⟩:=h.at_.procs om_;have HP:=h1.at_.Yf om_ aB.v_;obtain ⟨c0,c1,c2,c3,c4⟩:=h1.wb.cells;rw [HP.v_] at c0;obtain ⟨M,cm,aJ⟩:=h.at_.rooms;have HM:=ints_at h1.at_.rooms aJ.v_;rw [HM.v_] at c2;have p4:=HP.cell i 4 hi om_;have aR:=HP.free_ (i * 5+4);have m_a:=HM.cell a' om_;have m_f:=HM.free_ a'
 have i0:(0:Int)≤(i:Int):=om_
 have i1:(i:Int)<(s.n:Int):=om_
 have i2:decide (i<s.n)=true:=dt_ hi
 have a3:(a':Int)<2:=om_
 have a4:decide (a'<2)=true:=dt_ om_;have b0:W1.cell? ⟨W.heap.size,0,none⟩=some (.int .i64 (a':Int)):=(Xd hbx 0).trans rfl
 go_region
 all_goals skip
 go_end0;have hw:=h1.at_.roomSet h1.up a' 0 HM;have h2:=h1.write (t':=b.t) (q':=b.q) hw;have hw2:=h2.at_.roomOf h2.up (i:=i) hi (-1) (h2.at_.Yf (show 0<s.n by omega) HP.v_);have h3:=h2.write (t':=b.t) (q':=b.q) hw2;exact ⟨rfl,Left.of (h3.below (Xg (Below.refl _ _) 1)) HB (((hw.2.mono (fun k hk=>.inl hk)).trans (hw2.2.mono (fun k hk=>.inl (.inl hk)))).trans (Only.of_below (Xg (Below.refl _ _) 1) _)) h.up⟩
structure WS4 (g bx S a:Nat) (sv q:Value) (W:World):Prop where
 s:W.cell? ⟨g,3,none⟩=some sv
 b:W.cell? ⟨bx,0,none⟩=some (.int .i64 (a:Int))
 q:W.cell? ⟨S,a,none⟩=some q
theorem WS4.later {g bx S a:Nat} {sv q:Value} {W W1:World} (h:WS4 g bx S a sv q W) (hb:Below W.heap.size W W1):WS4 g bx S a sv q W1:=⟨Xb hb h.s,Xb hb h.b,Xb hb h.q⟩
theorem WS4.grown {g bx S a:Nat} {sv q:Value} {W W1:World} {row:Option Nat} (h:WS4 g bx S a sv q W) (hg:W.grownBy W1 row) (h1:some g≠row) (h2:some bx≠row) (h3:some S≠row):WS4 g bx S a sv q W1:=⟨hg.cell h.s h1,hg.cell h.b h2,hg.cell h.q h3⟩
theorem waitDeed_do (W:World) (base:Nat) (ok:Nat→Prop) (b:BK) (s:WS) (g i:Nat) (a:Int) (h:St W base ok b s g) (hi:i<s.n) (ha:0≤a∧a<2) (hr:0≤(s.proc i).room∧(s.proc i).room<2) (hq:(s.sign a.toNat).length≤1000) :
  Calls Tryz.prog 153 #[.agg #[.int .i64 a],.pointer (some ⟨g,0,none⟩),.int .i64 (i:Int)] W fun e W'=>e=.returned (.tuple #[])∧Left W base ok ({ (s.Yq i { s.proc i with mode:=1,on:=a }) with room:=up s.room (s.proc i).room.toNat 0,sign:=up s.sign a.toNat (s.sign a.toNat ++ [(i:Int)]) }) g W':=by
 obtain ⟨a',rfl⟩:=Int.eq_ofNat_of_zero_le ha.1;go_enter Tryz.func153,Tryz.ntmps153;go_upto_region 1 with (fail);have HB:=Xf (Below.refl W.heap.size W) (.cells #[.int .i64 (a':Int)] 153);have hbx:=Yc W (.cells #[.int .i64 (a':Int)] 153);generalize W.alloc (.cells #[.int .i64 (a':Int)] 153)=W1 at *;have h1:=h.below HB;obtain ⟨P,cp,aB⟩:=h.at_.procs om_;have HP:=h1.at_.Yf om_ aB.v_;obtain ⟨c0,c1,c2,c3,c4⟩:=h1.wb.cells;rw [HP.v_] at c0;obtain ⟨M,cm,aJ⟩:=h.at_.rooms;have HM:=ints_at h1.at_.rooms aJ.v_;rw [HM.v_] at c2;have p4:=HP.cell i 4 hi om_;have aR:=HP.free_ (i * 5+4);obtain ⟨r,hrr⟩:=Int.eq_ofNat_of_zero_le hr.1;simp only [Yn,hrr] at p4;have m_a:=HM.cell r om_;have m_f:=HM.free_ r
 have r3:(r:Int)<2:=om_
 have r4:decide (r<2)=true:=dt_ om_;simp at p4;have HRR:=Xa.mk hrr;clear hrr
 have i0:(0:Int)≤(i:Int):=om_
 have i1:(i:Int)<(s.n:Int):=om_
 have i2:decide (i<s.n)=true:=dt_ hi
 have a3:(a':Int)<2:=om_
 have a4:decide (a'<2)=true:=dt_ om_;have b0:W1.cell? ⟨W.heap.size,0,none⟩=some (.int .i64 (a':Int)):=(Xd hbx 0).trans rfl;have hPlt:P<W.heap.size:=aB.lt;have hMlt:M<W.heap.size:=aJ.lt;go_upto_region 2 with (fail)
 go_still_tail 9,kr_
 change wpList _ _ _ _ _ W1.drew;go_upto_region 3 with (fail);have hr1:=h1.at_.roomSet h1.up r 0 HM;have h2:=(h1.write (t':=b.t) (q':=b.q) hr1).below (Xg (Below.refl _ _) 1);have o2:=(hr1.2).trans ((Only.of_below (Xg (Below.refl _ (W1.setCell ⟨M,r,none⟩ (.int .i64 0))) 1) _));have hb2:(W1.setCell ⟨M,r,none⟩ (.int .i64 0)).drew.heap[W.heap.size]?=some (.cells #[.int .i64 (a':Int)] 153 (0,0)):=Xr (Yr hbx (fun e=>by have:W.heap.size=M:=e;omega) _);clear hr1 c0 c1 c2 c3 c4 p4 aR m_a m_f b0 hbx;change St (W1.setCell ⟨M,r,none⟩ (.int .i64 0)).drew _ _ _ _ _ at h2;change Only W1 (W1.setCell ⟨M,r,none⟩ (.int .i64 0)).drew _ at o2;generalize (W1.setCell ⟨M,r,none⟩ (.int .i64 0)).drew=W2 at *;have aI:=h2.at_.Yf (show 0<s.n by omega) HP.v_;have b0:W2.cell? ⟨W.heap.size,0,none⟩=some (.int .i64 (a':Int)):=(Xd hb2 0).trans rfl;have p2:=aI.cell i 2 hi om_;have p3:=aI.cell i 3 hi om_;have aS:=aI.free_ (i * 5+2);have aT:=aI.free_ (i * 5+3)
 go_region
 go_upto_region 4 with (fail);have hm1:=h2.at_.mode h2.up (i:=i) hi 1 aI;have h3:=h2.write (t':=b.t) (q':=b.q) hm1;have aQ:=h3.at_.Yf (show 0<s.n by omega) HP.v_;have hm2:=h3.at_.on h3.up (i:=i) hi (a':Int) aQ;have h4:=(h3.write (t':=b.t) (q':=b.q) hm2).below (Xg (Below.refl _ _) 1);have o4:=(hm1.2.trans (hm2.2.mono (fun k hk=>.inl hk))).trans (Only.of_below (Xg (Below.refl _ ((W2.setCell ⟨P,i * 5+2,none⟩ (.int .i64 1)).setCell ⟨P,i * 5+3,none⟩ (.int .i64 (a':Int)))) 1) _);have hb4:((W2.setCell ⟨P,i * 5+2,none⟩ (.int .i64 1)).setCell ⟨P,i * 5+3,none⟩ (.int .i64 (a':Int))).drew.heap[W.heap.size]?=some (.cells #[.int .i64 (a':Int)] 153 (0,0)):=Xr (Yr (Yr hb2 (fun e=>by have:W.heap.size=P:=e;omega) _) (fun e=>by have:W.heap.size=P:=e;omega) _);clear hm1 h3 aQ hm2 hb2 p2 p3 aS aT b0 aI;change St ((W2.setCell ⟨P,i * 5+2,none⟩ (.int .i64 1)).setCell ⟨P,i * 5+3,none⟩ (.int .i64 (a':Int))).drew _ _ _ _ _ at h4;change Only W2 ((W2.setCell ⟨P,i * 5+2,none⟩ (.int .i64 1)).setCell ⟨P,i * 5+3,none⟩ (.int .i64 (a':Int))).drew _ at o4;generalize ((W2.setCell ⟨P,i * 5+2,none⟩ (.int .i64 1)).setCell ⟨P,i * 5+3,none⟩ (.int .i64 (a':Int))).drew=W3 at *;have h5:=h4.below (Xh (Below.refl _ W3));have hb5:W3.drew.heap[W.heap.size]?=some (.cells #[.int .i64 (a':Int)] 153 (0,0)):=Xr hb4;obtain ⟨S,cs,hSv,hSl,hSc,hSf⟩:=h5.at_.signs;have hq0:=h.at_.queue (j:=a') om_;have hqo:∀ k,(b.q a').ownBlock=some k→ok k:=fun k hk=>h.at_.rows.ok_ (5+a') _ (lay_queue b s om_) k hk;have aC:Xa (WS4 g W.heap.size S a' (.slice (some ⟨S,0,none⟩) 2 cs) (b.q a') W3.drew):=⟨⟨by rw [← hSv];exact h5.wb.cells.2.2.2.1,(Xd hb5 0).trans rfl,hSc a' om_⟩⟩;have HQ:Xa (QRow W3.drew base 3 1 (b.q a') (s.sign a').length (nums .i64 (s.sign a'))):=⟨h5.at_.queue (j:=a') om_⟩
 have HBS:Xa (base≤W3.drew.heap.size):=⟨by
  have:=Zl (h5.at_.rows.at_ 3 _ rfl) S (by show b.s.ownBlock=_;rw [hSv];rfl)
  omega⟩
 have HLEN:Xa (((s.sign a').length+1) * 8≤140737488355328):=⟨by have:((a':Int)).toNat=a':=rfl;rw [this] at hq;omega⟩;have aD:Xa (some g≠(b.q a').ownBlock):=⟨fun e=>h.g_ (hqo g e.symm)⟩;have aH:Xa (some W.heap.size≠(b.q a').ownBlock):=⟨fun e=>by have:=q_lt hq0 _ e.symm;omega⟩;have aF:Xa (some S≠(b.q a').ownBlock):=⟨fun e=>h5.at_.rows.apart 3 (5+a') _ _ om_ rfl (lay_queue b _ om_) S (by show b.s.ownBlock=_;rw [hSv];rfl) e.symm⟩;have HSL:=Xa.mk hSl;have HSF:=Xa.mk hSf;have H5:=Xa.mk h5;have O4:=Xa.mk o4;have O2:=Xa.mk o2;have HSV:=Xa.mk hSv;have HBB:=Xa.mk HB;have HUP:=Xa.mk h.up;have HA2:Xa (a'<2):=⟨om_⟩;clear h5 hb5 hSv hSl hSc hSf hq0 hqo o4 o2 hb4 h4 h1 h2 HM HP aB aJ HB h hPlt hMlt;refine Ul (n:=19) (S:=WS4 g W.heap.size S a' (.slice (some ⟨S,0,none⟩) 2 cs) (b.q a')) (ds:=[18]) #[false,false,false,false,false,false,false,false,false,false,false,false,false,false,false,false,false,false,false] kr_ rfl rl1_ aC.out (fun hHeld=>?_);refine pu_' 0 (some 30) ?_;refine pu_' 1 (some 31) ?_;refine pu_' 2 (some 32) ?_;refine pu_' 4 (some 34) ?_;refine pu_' 6 (some 36) ?_;refine pu_' 7 (some 37) ?_;refine pu_' 8 (some 38) ?_;refine pu_' 10 (some 40) ?_;refine pu_' 14 (some 44) ?_;refine tk_' 3 (some 33) rfl hHeld (by rintro w' s0;have c0:=s0.s;have c1:=s0.b;have c2:=s0.q;clear s0;go_simp;with_reducible rfl) ?_;refine tk_' 5 (some 35) rfl hHeld (by rintro w' s0;have c0:=s0.s;have c1:=s0.b;have c2:=s0.q;clear s0;go_simp;with_reducible rfl) ?_;refine tk_' 9 (some 39) rfl hHeld (by rintro w' s0;have c0:=s0.s;have c1:=s0.b;have c2:=s0.q;clear s0;go_simp;with_reducible rfl) ?_;refine tk_' 11 (some 41) rfl hHeld (by rintro w' s0;have c0:=s0.s;have c1:=s0.b;have c2:=s0.q;clear s0;go_simp;with_reducible rfl) ?_;refine pu_' 12 (some 42) ?_;refine tk_' 13 (some 43) rfl hHeld (by rintro w' s0;have c0:=s0.s;have c1:=s0.b;have c2:=s0.q;clear s0;go_simp;with_reducible rfl) ?_;refine re_' 15 (some 45) fun K hK=>?_;refine value_ (v:=.slice (some ⟨W3.drew.heap.size,0,none⟩) 1 1) (w1:=W3.drew.alloc (.cells #[.int .i64 (i:Int)] 3)) rfl rfl kr_ ?_;refine hK.out _ _ (aC.out.later ((Below.refl _ _).alloc (nr_ _) _)) (fun hHeld=>?_);clear hK K;refine no_ ?_;refine re_' 16 (some 46) fun K hK=>?_;refine step_append_q (w0:=W3.drew) base rfl (.tmp 43) (.tmp 45) 23 3 (.int .i64 0) 1 8 rfl Tryz.underlying23 info3 rfl de_ de_ (b.q a') (s.sign a').length (nums .i64 (s.sign a')) [.int .i64 (i:Int)] rfl rl1_ rfl (by simp [Value.oneCell']) HQ.out (Below.refl _ _) HBS.out HLEN.out ?_;intro v1 w1 hq1 hb1 hg1 aA;obtain ⟨A1,c1,aM,_⟩:=q_slice hq1;subst aM;have aK:=Xa.mk hq1;have aG:=Xa.mk hg1;have HAT:=Xa.mk aA;have hx1:=(aC.out.grown hg1 aD.out aH.out aF.out).s
 have hf1:w1.frozen? ⟨S,a',none⟩=false:=by rw [World.frozen?_of_block (hg1.block S HSL.out aF.out)];exact HSF.out a'
 have hx2:=(aC.out.grown hg1 aD.out aH.out aF.out).q;clear hq1 hg1 aA hb1;refine hK.out _ _ (aC.out.grown aG.out aD.out aH.out aF.out) (fun hHeld=>?_);clear hK K;refine no_ ?_;refine pu_' 17 (some 47) ?_;refine rl_' 18 none fun K hK=>?_;refine skip_ (w1:=w1.setCell ⟨S,a',none⟩ (.slice A1 ((s.sign a').length+1) c1)) rfl rfl ?_ ?_
 ·first|(go_simp;done)|(go_simp;rfl)
 refine hK.out _ _ ?_;clear hK K;refine Uz kr_ ?_;skip;go_wp2;go_end0;refine ⟨rfl,?_⟩;have hq2:=H5.out.at_.queue2 H5.out.up HA2.out (.slice A1 ((s.sign a').length+1) c1) (s.sign a' ++ [(i:Int)]) aG.out (by rw [List.length_append,List.length_singleton,nums_append];exact aK.out) (HAT.out.elim .inl (fun x=>.inr (.inr x))) HSV.out;have h6:=H5.out.write (t':=b.t) (q':=up b.q a' (.slice A1 ((s.sign a').length+1) c1)) hq2;have hfin:=Left.of h6 HBB.out (((O2.out.trans ((O4.out.trans ((Only.of_below (Xh (Below.refl _ W3)) _))).mono (fun k hk=>.inl hk))).trans (hq2.2.mono (fun k hk=>.inl hk))).mono (fun k hk=>.inl hk)) HUP.out
 have e1:(s.proc i).room.toNat=r:=by rw [HRR.out];rfl
 rw [e1];simp only [Yp,setP_setP] at hfin;exact hfin
structure YS (g bx P R i a:Nat) (dv pv rv:Value) (x:Int) (W:World):Prop where
 d:W.cell? ⟨g,4,none⟩=some dv
 p:W.cell? ⟨g,0,none⟩=some pv
 r:W.cell? ⟨P,i * 5,none⟩=some rv
 b:W.cell? ⟨bx,0,none⟩=some (.int .i64 (a:Int))
 x:W.cell? ⟨R,a,none⟩=some (.int .i64 x)
theorem YS.later {g bx P R i a:Nat} {dv pv rv:Value} {x:Int} {W W1:World} (h:YS g bx P R i a dv pv rv x W) (hb:Below W.heap.size W W1):YS g bx P R i a dv pv rv x W1:=⟨Xb hb h.d,Xb hb h.p,Xb hb h.r,Xb hb h.b,Xb hb h.x⟩
theorem YS.grown {g bx P R i a:Nat} {dv pv rv:Value} {x:Int} {W W1:World} {row:Option Nat} (h:YS g bx P R i a dv pv rv x W) (hg:W.grownBy W1 row) (h1:some g≠row) (h2:some bx≠row) (h3:some P≠row) (h4:some R≠row) (h5:True):YS g bx P R i a dv pv rv x W1:=⟨hg.cell h.d h1,hg.cell h.p h1,hg.cell h.r h3,hg.cell h.b h2,hg.cell h.x h4⟩
theorem sayDeed_do (W:World) (base:Nat) (ok:Nat→Prop) (b:BK) (s:WS) (g i:Nat) (a:Int) (h:St W base ok b s g) (hi:i<s.n) (ha:0≤a∧a<3) (hq:s.said.length≤1000000) :
  Calls Tryz.prog 146 #[.agg #[.int .i64 a],.pointer (some ⟨g,0,none⟩),.int .i64 (i:Int)] W fun e W'=>e=.returned (.tuple #[])∧Left W base ok ({ s with said:=s.said ++ [((i:Int),(s.proc i).regs a.toNat)] }) g W':=by
 obtain ⟨a',rfl⟩:=Int.eq_ofNat_of_zero_le ha.1;go_enter Tryz.func146,Tryz.ntmps146;go_upto_region 1 with (fail);have HB:=Xf (Below.refl W.heap.size W) (.cells #[.int .i64 (a':Int)] 147);have hbx:=Yc W (.cells #[.int .i64 (a':Int)] 147);generalize W.alloc (.cells #[.int .i64 (a':Int)] 147)=W1 at *;have h1:=h.below HB;obtain ⟨P,cp,aB⟩:=h.at_.procs om_;obtain ⟨R,cr,aL⟩:=h.at_.regs hi;have h5:=h1.below (Xh (Below.refl _ W1));have hb5:W1.drew.heap[W.heap.size]?=some (.cells #[.int .i64 (a':Int)] 147 (0,0)):=Xr hbx;have HP:=h5.at_.Yf om_ aB.v_;have HR:=ints_at (h5.at_.regs hi) aL.v_;have hd0:W.ownsRow base 118 2 b.d s.said.length (saidC s.said):=h.at_.rows.at_ 4 _ rfl;have hd5:W1.drew.ownsRow base 118 2 b.d s.said.length (saidC s.said):=h5.at_.rows.at_ 4 _ rfl;obtain ⟨Ad,cd,hdv⟩:=Yl hd0;have hdo:∀ k,b.d.ownBlock=some k→ok k:=fun k hk=>h.at_.rows.ok_ 4 _ rfl k hk;have p0:=HP.cell i 0 hi om_;simp only [Yn,if_true,Nat.add_zero] at p0;rw [HR.v_] at p0;have aD:Xa (some g≠(Value.slice Ad s.said.length cd).ownBlock):=⟨fun e=>h.g_ (hdo g (by rw [hdv];exact e.symm))⟩;have aH:Xa (some W.heap.size≠(Value.slice Ad s.said.length cd).ownBlock):=⟨fun e=>by have:=Za hd0 _ (by rw [hdv];exact e.symm);omega⟩;have aF:Xa (some P≠(Value.slice Ad s.said.length cd).ownBlock):=⟨fun e=>h.at_.rows.apart 0 4 _ _ om_ rfl rfl P (by show b.p.ownBlock=_;rw [aB.v_];rfl) (by show b.d.ownBlock=_;rw [hdv];exact e.symm)⟩;have aO:Xa (some R≠(Value.slice Ad s.said.length cd).ownBlock):=⟨fun e=>h.at_.rows.apart (i+7) 4 _ _ om_ (lay_reg b s hi) rfl R (by show (b.r i).ownBlock=_;rw [aL.v_];rfl) (by show b.d.ownBlock=_;rw [hdv];exact e.symm)⟩;have aP:=Xa.mk True.intro;have c4:=h5.wb.cells.2.2.2.2;have c0:=h5.wb.cells.1;rw [hdv] at c4;rw [HP.v_] at c0;have aC:Xa (YS g W.heap.size P R i a' (.slice Ad s.said.length cd) (.slice (some ⟨P,0,none⟩) s.n cp) (.slice (some ⟨R,0,none⟩) 3 cr) ((s.proc i).regs a') W1.drew):=⟨⟨c4,c0,p0,(Xd hb5 0).trans rfl,HR.cell a' om_⟩⟩;have HQ:Xa (W1.drew.ownsRow base 118 2 (.slice Ad s.said.length cd) s.said.length (saidC s.said)):=⟨hdv ▸ hd5⟩
 have HBS:Xa (base≤W1.drew.heap.size):=⟨by
  have:=Zl (h5.at_.rows.at_ 0 _ rfl) P (by show b.p.ownBlock=_;rw [aB.v_];rfl)
  have:=HP.lt
  omega⟩
 have HLEN:Xa ((s.said.length+1) * 16≤140737488355328):=⟨om_⟩;have HGL:Xa (g<W1.drew.heap.size):=⟨Xq h5.wb⟩;have HGF:Xa (∀ k,W1.drew.frozen? ⟨g,k,none⟩=false):=⟨fun k=>Xc h5.wb k⟩;have H5:=Xa.mk h5;have HBB:=Xa.mk HB;have HUP:=Xa.mk h.up;have aN:=Xa.mk h.g_;have HDV:=Xa.mk hdv
 have i0:(0:Int)≤(i:Int):=om_
 have i1:(i:Int)<(s.n:Int):=om_
 have i2:decide (i<s.n)=true:=dt_ hi
 have a3:(a':Int)<3:=om_
 have a4:decide (a'<3)=true:=dt_ om_;clear h5 hb5 hbx h1 aB aL HP HR hd0 hd5 hdv hdo p0 c4 c0 HB h;refine Ul (n:=24) (S:=YS g W.heap.size P R i a' (.slice Ad s.said.length cd) (.slice (some ⟨P,0,none⟩) s.n cp) (.slice (some ⟨R,0,none⟩) 3 cr) ((s.proc i).regs a')) (ds:=[23]) #[false,false,false,false,false,false,false,false,false,false,false,false,false,false,false,false,false,false,false,false,false,false,false,false] kr_ rfl rl1_ aC.out (fun hHeld=>?_);refine pu_' 0 (some 6) ?_;refine pu_' 1 (some 7) ?_;refine pu_' 2 (some 8) ?_;refine pu_' 3 (some 9) ?_;refine pu_' 5 (some 11) ?_;refine pu_' 6 (some 12) ?_;refine pu_' 7 (some 13) ?_;refine pu_' 8 (some 14) ?_;refine pu_' 10 (some 16) ?_;refine pu_' 14 (some 20) ?_;refine tk_' 4 (some 10) rfl hHeld (by rintro w' s0;have c0:=s0.d;have c1:=s0.p;have c2:=s0.r;have c3:=s0.b;have c4:=s0.x;clear s0;go_simp;with_reducible rfl) ?_;refine tk_' 9 (some 15) rfl hHeld (by rintro w' s0;have c0:=s0.d;have c1:=s0.p;have c2:=s0.r;have c3:=s0.b;have c4:=s0.x;clear s0;go_simp;with_reducible rfl) ?_;refine pu_' 11 (some 17) ?_;refine pu_' 12 (some 18) ?_;refine tk_' 13 (some 19) rfl hHeld (by rintro w' s0;have c0:=s0.d;have c1:=s0.p;have c2:=s0.r;have c3:=s0.b;have c4:=s0.x;clear s0;go_simp;with_reducible rfl) ?_;refine tk_' 15 (some 21) rfl hHeld (by rintro w' s0;have c0:=s0.d;have c1:=s0.p;have c2:=s0.r;have c3:=s0.b;have c4:=s0.x;clear s0;go_simp;with_reducible rfl) ?_;refine pu_' 16 (some 22) ?_;refine tk_' 17 (some 23) rfl hHeld (by rintro w' s0;have c0:=s0.d;have c1:=s0.p;have c2:=s0.r;have c3:=s0.b;have c4:=s0.x;clear s0;go_simp;with_reducible rfl) ?_;refine pu_' 18 (some 24) ?_;refine re_' 19 (some 25) fun K hK=>?_;refine value_ (v:=.slice (some ⟨W1.drew.heap.size,0,none⟩) 1 1) (w1:=W1.drew.alloc (.cells #[.int .i64 (i:Int),.int .i64 ((s.proc i).regs a')] 118)) rfl rfl kr_ ?_;refine hK.out _ _ (aC.out.later ((Below.refl _ _).alloc (nr_ _) _)) (fun hHeld=>?_);clear hK K;refine no_ ?_;refine re_' 20 (some 26) fun K hK=>?_;refine Uv (w0:=W1.drew) base rfl (.tmp 10) (.tmp 25) 54 118 (.agg #[(.int .i64 0),(.int .i64 0)]) 2 16 rfl Tryz.underlying54 inSay rfl de_ de_ (.slice Ad s.said.length cd) s.said.length (saidC s.said) [.int .i64 (i:Int),.int .i64 ((s.proc i).regs a')] rfl rl1_ rfl (by simp [Value.oneCell']) HQ.out (Below.refl _ _) HBS.out HLEN.out ?_;intro v1 w1 hq1 hb1 hg1 aA;obtain ⟨A1,c1,aM⟩:=Yl hq1;subst aM;have aK:=Xa.mk hq1;have aG:=Xa.mk hg1;have HAT:=Xa.mk aA;have hx1:=(aC.out.grown hg1 aD.out aH.out aF.out aO.out aP.out).d
 have hf1:w1.frozen? ⟨g,4,none⟩=false:=by rw [World.frozen?_of_block (hg1.block g HGL.out aD.out)];exact HGF.out 4
 clear hq1 hg1 aA hb1;refine hK.out _ _ (aC.out.grown aG.out aD.out aH.out aF.out aO.out aP.out) (fun hHeld=>?_);clear hK K;refine no_ ?_;refine pu_' 21 (some 27) ?_;refine pu_' 22 (some 28) ?_;refine rl_' 23 none fun K hK=>?_;refine skip_ (w1:=w1.setCell ⟨g,4,none⟩ (.slice A1 (s.said.length+1) c1)) rfl rfl ?_ ?_
 ·first|(go_simp;done)|(go_simp;rfl)
 refine hK.out _ _ ?_;clear hK K;refine Uz kr_ ?_;skip;go_wp2;go_end0;refine ⟨rfl,?_⟩;have hs:=H5.out.at_.say H5.out.up (.slice A1 (s.said.length+1) c1) ((i:Int),(s.proc i).regs a') (by rw [HDV.out];exact aG.out) aK.out (by rw [HDV.out];exact HAT.out.elim .inl (fun x=>.inr (.inr x)));have hw2:w1.heap[g]?=some (.cells #[b.p,b.c,b.m,b.s,b.d] 56 (0,0)):=(aG.out.block g HGL.out aD.out).trans H5.out.wb;have o2:Only w1 (w1.setCell ⟨g,4,none⟩ (.slice A1 (s.said.length+1) c1)) (fun k=>k=g):=⟨rfl,rfl,rfl,sm_,fun k _ hk=>Below.heap_setCell w1 ⟨g,4,none⟩ _ k hk⟩
 have h6:St (w1.setCell ⟨g,4,none⟩ (.slice A1 (s.said.length+1) c1)) base ok { b with d:=.slice A1 (s.said.length+1) c1 } { s with said:=s.said ++ [((i:Int),(s.proc i).regs a')] } g:=
  ⟨hs.1.step (fun k hk _=>Below.heap_setCell w1 ⟨g,4,none⟩ _ k (fun e=>aN.out ((show k=g from e) ▸ hk))),Xn hw2 4 _ rfl,fun k hk=>HUP.out k (nt_ HBB.out.size (nt_ (nt_ hs.2.size o2.size) hk)),aN.out⟩
 exact Left.of h6 HBB.out (((Only.of_below (Xh (Below.refl _ W1)) _).trans (hs.2.mono (fun k hk=>.inl (.inl hk)))).trans (o2.mono (fun k hk=>.inl (.inr hk)))) HUP.out
end Go.Proofs.YtlhogkfmdnpmkaaGreat.Mean
