import Derived.Test.YtlhogkfmdnpmkaaCFnWholeOrder80
import Derived.Lib.Hide
import Derived.Deep.DeepMust
set_option linter.unusedVariables false
set_option linter.unusedSimpArgs false
set_option maxRecDepth 100000
namespace Go.Proofs.Ytlhogkfmdnpmkaa.Tame
open RowKit GWhole YtlhogkfmdnpmkaaW.PrintWords YtlhogkfmdnpmkaaW.PrintLast YtlhogkfmdnpmkaaW.PrintMore
abbrev T:=S69
abbrev KT:=k69
def tB1 (ow:List Int) (room:Int) (s:T):Bool:=decide (s.f0=3∧rd ow s.f2≠room)
def tB2 (ow:List Int) (room:Int) (s:T):Bool:=decide (s.f0=4∧rd ow s.f1≠room)
def tB3 (ow:List Int) (room:Int) (s:T):Bool:=decide ((s.f0=9∨s.f0=10)∧rd ow (3+s.f1)≠room)
def tH1 (ow:List Int) (room:Int) (s:T):T:=if tB1 ow room s=true then ⟨1,s.f1,0,s.f2,[],[]⟩ else s
def tH2 (ow:List Int) (room:Int) (s:T):T:=if tB2 ow room s=true then ⟨5,s.f2,0,0,[],[]⟩ else s
def tH3 (ow:List Int) (room:Int) (s:T):T:=if tB3 ow room s=true then ⟨11,0,0,0,[],[]⟩ else s
def tHead (ow:List Int) (room:Int) (s:T):T:=tH3 ow room (tH2 ow room (tH1 ow room s))
def tAt (room:Int) (s:T):Int:=if s.f0=8 then s.f1 else room
def tame (ow:List Int):Nat→List T→Int→List T
 |0,_,_=>[]
 |d+1,l,room=>l.map (fun s=>⟨(tHead ow room s).f0,(tHead ow room s).f1,(tHead ow room s).f2,(tHead ow room s).f3,tame ow d (tHead ow room s).f4 (tAt room s),tame ow d (tHead ow room s).f5 (tAt room s)⟩)
def hFit (n:Int) (s:T):Bool:=(s.f0 != 3||(decide (0≤s.f2) && decide (s.f2<n))) && ((s.f0 != 4||(decide (0≤s.f1) && decide (s.f1<n))) && ((s.f0 != 9 && s.f0 != 10)||(decide (0≤s.f1) && decide (3+s.f1<n))))
def fitT (n:Int):Nat→List T→Bool
 |0,_=>true
 |d+1,l=>decide (l.length≤1000000) && l.all (fun s=>hFit n s && (fitT n d s.f4 && fitT n d s.f5))
theorem hFit_is {n:Int} {s:T} (h:hFit n s=true):(s.f0=3→0≤s.f2∧s.f2<n)∧(s.f0=4→0≤s.f1∧s.f1<n)∧(s.f0=9∨s.f0=10→0≤s.f1∧3+s.f1<n):=by
 unfold hFit at h;simp only [Bool.and_eq_true,Bool.or_eq_true,bne_iff_ne,decide_eq_true_eq,ne_eq] at h;omega
theorem fitT_nil (n:Int):∀ d,fitT n d []=true
 |0=>rfl
 |d+1=>rfl
theorem tH1_fit {n:Int} {ow:List Int} {room:Int} {s:T} (h:hFit n s=true):hFit n (tH1 ow room s)=true:=by unfold tH1;split <;> first|rfl|exact h
theorem tH2_fit {n:Int} {ow:List Int} {room:Int} {s:T} (h:hFit n s=true):hFit n (tH2 ow room s)=true:=by unfold tH2;split <;> first|rfl|exact h
theorem tHead_fit {n:Int} {ow:List Int} {room:Int} {s:T} {d:Nat} (h4:fitT n d s.f4=true) (h5:fitT n d s.f5=true):fitT n d (tHead ow room s).f4=true∧fitT n d (tHead ow room s).f5=true:=by
 unfold tHead tH3 tH2 tH1
 repeat' split
 all_goals first|exact ⟨h4,h5⟩|exact ⟨fitT_nil n d,fitT_nil n d⟩
theorem decide_and_true_l {p q:Prop} [Decidable p] [Decidable q] (h:p):decide (p∧q)=decide q:=decide_eq_decide.2 ⟨fun x=>x.2,fun x=>⟨h,x⟩⟩
def put6 (W:World) (g:Nat) (a b c d:Int) (x y:Value):World:=(((((W.setCell ⟨g,0,none⟩ (.int .i64 a)).setCell ⟨g,1,none⟩ (.int .i64 b)).setCell ⟨g,2,none⟩ (.int .i64 c)).setCell ⟨g,3,none⟩ (.int .i64 d)).setCell ⟨g,4,none⟩ x).setCell ⟨g,5,none⟩ y
structure TB (w W:World) (g:Nat) (u:Value) (xs:List T) (s:T) (A4:Option Addr) (c4:Nat) (A5:Option Addr) (c5:Nat):Prop where
 row:Kd.R KT 69 W w.heap.size (fun k=>True∧k≠g) u xs
 blk:W.heap[g]?=some (.cells #[.int .i64 s.f0,.int .i64 s.f1,.int .i64 s.f2,.int .i64 s.f3,.slice A4 s.f4.length c4,.slice A5 s.f5.length c5] 69 (0,0))
 below:Below w.heap.size w W
 ge:w.heap.size≤g
 l4:s.f4.length≤c4
 r4:Kd.C KT w A4 s.f4.length s.f4
 l5:s.f5.length≤c5
 r5:Kd.C KT w A5 s.f5.length s.f5
theorem put6_blk {W:World} {g:Nat} {o0 o1 o2 o3 o4 o5:Value} {t:TypeId} (h:W.heap[g]?=some (.cells #[o0,o1,o2,o3,o4,o5] t (0,0))) (a b c d:Int) (x y:Value):(put6 W g a b c d x y).heap[g]?=some (.cells #[.int .i64 a,.int .i64 b,.int .i64 c,.int .i64 d,x,y] t (0,0)):=
 Yb (Yb (Yb (Yb (Yb (Yb h 0 _) 1 _) 2 _) 3 _) 4 _) 5 _
theorem put6_row {W:World} {g base:Nat} {u:Value} {xs:List T} (h:Kd.R KT 69 W base (fun k=>True∧k≠g) u xs) (a b c d:Int) (x y:Value):Kd.R KT 69 (put6 W g a b c d x y) base (fun k=>True∧k≠g) u xs:=
 Kd.Zp (p:=⟨g,5,none⟩) (Kd.Zp (p:=⟨g,4,none⟩) (Kd.Zp (p:=⟨g,3,none⟩) (Kd.Zp (p:=⟨g,2,none⟩) (Kd.Zp (p:=⟨g,1,none⟩) (Kd.Zp (p:=⟨g,0,none⟩) h (fun _ hk=>hk.2) _) (fun _ hk=>hk.2) _) (fun _ hk=>hk.2) _) (fun _ hk=>hk.2) _) (fun _ hk=>hk.2) _) (fun _ hk=>hk.2) _
theorem put6_below {w W:World} {N g:Nat} (h:Below N w W) (hg:N≤g) (a b c d:Int) (x y:Value):Below N w (put6 W g a b c d x y):=
 Below.setCell (p:=⟨g,5,none⟩) (Below.setCell (p:=⟨g,4,none⟩) (Below.setCell (p:=⟨g,3,none⟩) (Below.setCell (p:=⟨g,2,none⟩) (Below.setCell (p:=⟨g,1,none⟩) (Below.setCell (p:=⟨g,0,none⟩) h hg _) hg _) hg _) hg _) hg _) hg _
theorem TB.put {w W:World} {g:Nat} {u:Value} {xs:List T} {s:T} {A4:Option Addr} {c4:Nat} {A5:Option Addr} {c5:Nat} (h:TB w W g u xs s A4 c4 A5 c5) (a b c d:Int):TB w (put6 W g a b c d (.slice none 0 0) (.slice none 0 0)) g u xs ⟨a,b,c,d,[],[]⟩ none 0 none 0:=
 ⟨put6_row h.row _ _ _ _ _ _,put6_blk h.blk _ _ _ _ _ _,put6_below h.below h.ge _ _ _ _ _ _,h.ge,nr_ _,Kd.C_nil _ _,nr_ _,Kd.C_nil _ _⟩
theorem TB.cells {w W:World} {g:Nat} {u:Value} {xs:List T} {s:T} {A4:Option Addr} {c4:Nat} {A5:Option Addr} {c5:Nat} (h:TB w W g u xs s A4 c4 A5 c5):W.cell? ⟨g,0,none⟩=some (.int .i64 s.f0)∧W.cell? ⟨g,1,none⟩=some (.int .i64 s.f1)∧W.cell? ⟨g,2,none⟩=some (.int .i64 s.f2)∧W.cell? ⟨g,3,none⟩=some (.int .i64 s.f3)∧W.cell? ⟨g,4,none⟩=some (.slice A4 s.f4.length c4)∧W.cell? ⟨g,5,none⟩=some (.slice A5 s.f5.length c5):=
 ⟨(Xh h.blk 0).trans rfl,(Xh h.blk 1).trans rfl,(Xh h.blk 2).trans rfl,(Xh h.blk 3).trans rfl,(Xh h.blk 4).trans rfl,(Xh h.blk 5).trans rfl⟩
theorem TB.frozen {w W:World} {g:Nat} {u:Value} {xs:List T} {s:T} {A4:Option Addr} {c4:Nat} {A5:Option Addr} {c5:Nat} (h:TB w W g u xs s A4 c4 A5 c5):W.frozen? ⟨g,0,none⟩=false∧W.frozen? ⟨g,1,none⟩=false∧W.frozen? ⟨g,2,none⟩=false∧W.frozen? ⟨g,3,none⟩=false∧W.frozen? ⟨g,4,none⟩=false∧W.frozen? ⟨g,5,none⟩=false:=
 ⟨Xc h.blk 0,Xc h.blk 1,Xc h.blk 2,Xc h.blk 3,Xc h.blk 4,Xc h.blk 5⟩
theorem TB.int {w W:World} {g:Nat} {u:Value} {xs:List T} {s:T} {A4:Option Addr} {c4:Nat} {A5:Option Addr} {c5:Nat} (h:TB w W g u xs s A4 c4 A5 c5) {A1:Option Addr} {l1:List Int} (h1:Kd.C (Kd.int .i64) w A1 l1.length l1) (i:Int) (h0:0≤i) (hi:i<l1.length):∃ ad,A1=some ad∧W.cell? (ad.add i.toNat)=some (.int .i64 (rd l1 i)):=by
 obtain ⟨ad,e,hx⟩:=Kd.at_int h1 i h0 hi;exact ⟨ad,e,(h.below.cell (World.block_lt_of_cell? w _ hx)).trans hx⟩
structure T1 (w W:World) (g:Nat) (u v:Value) (xs r:List T) (s:T) (A5:Option Addr) (c5:Nat):Prop where
 row:Kd.R KT 69 W w.heap.size (fun k=>(True∧k≠g)∧some k≠v.ownBlock) u xs
 r4:Kd.R KT 69 W w.heap.size (fun k=>(True∧some k≠u.ownBlock)∧k≠g) v r
 blk:W.heap[g]?=some (.cells #[.int .i64 s.f0,.int .i64 s.f1,.int .i64 s.f2,.int .i64 s.f3,v,.slice A5 s.f5.length c5] 69 (0,0))
 below:Below w.heap.size w W
 ge:w.heap.size≤g
 l5:s.f5.length≤c5
 r5:Kd.C KT w A5 s.f5.length s.f5
theorem TB.one {w W W1:World} {g:Nat} {u v:Value} {xs r:List T} {s:T} {A4:Option Addr} {c4:Nat} {A5:Option Addr} {c5:Nat} (h:TB w W g u xs s A4 c4 A5 c5) (ho:Kd.R KT 69 W1 W.heap.size (fun _=>True) v r) (hb:Below W.heap.size W W1) :
  T1 w (W1.setCell ⟨g,4,none⟩ v) g u v xs r s A5 c5:=by
 have a:=Kd.R_elder' h.row (Kd.Za ho) hb;have b:=Kd.Zr (Kd.R_newB (Kd.R_new' ho (Kd.R_lt h.row)) h.blk) h.below.size;exact ⟨Kd.Zp (p:=⟨g,4,none⟩) a (fun k hk=>hk.1.2) v,Kd.Zp (p:=⟨g,4,none⟩) b (fun k hk=>hk.2) v,Yb (Xu h.blk hb) 4 _,Below.setCell (p:=⟨g,4,none⟩) (h.below.trans (hb.mono h.below.size)) h.ge _,h.ge,h.l5,h.r5⟩
structure T2 (w W:World) (g:Nat) (u v x:Value) (xs r q:List T) (s:T):Prop where
 row:Kd.R KT 69 W w.heap.size (fun k=>k≠g) u xs
 r4:Kd.R KT 69 W w.heap.size (fun k=>k≠g∧some k≠u.ownBlock) v r
 r5:Kd.R KT 69 W w.heap.size (fun k=>k≠g∧some k≠u.ownBlock) x q
 blk:W.heap[g]?=some (.cells #[.int .i64 s.f0,.int .i64 s.f1,.int .i64 s.f2,.int .i64 s.f3,v,x] 69 (0,0))
 below:Below w.heap.size w W
theorem T1.two {w W W1:World} {g:Nat} {u v x:Value} {xs r q:List T} {s:T} {A5:Option Addr} {c5:Nat} (h:T1 w W g u v xs r s A5 c5) (ho:Kd.R KT 69 W1 W.heap.size (fun _=>True) x q) (hb:Below W.heap.size W W1) :
  T2 w (W1.setCell ⟨g,5,none⟩ x) g u v x xs r q s:=by
 have a:=Kd.R_elder' h.row (Kd.Za ho) hb;have b:=Kd.R_elder' h.r4 (Kd.Za ho) hb;have c:=Kd.Zr (Kd.R_newB (Kd.R_new' (Kd.R_new' ho (Kd.R_lt h.row)) (Kd.R_lt h.r4)) h.blk) h.below.size;exact ⟨Kd.Zp (p:=⟨g,5,none⟩) (Kd.Yj a (fun k hk=>hk.1.1.2)) (fun k hk=>hk) x,Kd.Zp (p:=⟨g,5,none⟩) (Kd.Yj b (fun k hk=>⟨hk.1.2,hk.1.1.2⟩)) (fun k hk=>hk.1) x,Kd.Zp (p:=⟨g,5,none⟩) (Kd.Yj c (fun k hk=>⟨hk.2,hk.1.1.2⟩)) (fun k hk=>hk.1) x,Yb (Xu h.blk hb) 5 _,Below.setCell (p:=⟨g,5,none⟩) (h.below.trans (hb.mono h.below.size)) h.ge _⟩
def ST (n:Nat):Prop:=∀ (A0:Option Addr) (c0:Nat) (l0:List T) (A1:Option Addr) (c1:Nat) (l1:List Int) (room:Int) (w:World) (hr0:Kd.C KT w A0 l0.length l0) (hc0:l0.length≤c0) (hr1:Kd.C (Kd.int .i64) w A1 l1.length l1) (hc1:l1.length≤c1) (h1:l1.length≤1000) (hf:fitT l1.length n l0=true) (hn:n≤1000),
  Calls Try.prog 47 #[.slice A0 l0.length c0,.slice A1 l1.length c1,.int .i64 room,.int .i64 (n:Int)] w fun e w'=>∃ aN:Value,e=.returned (aN)∧Kd.R KT 69 w' w.heap.size (fun _=>True) aN (tame l1 n l0 room)∧Below w.heap.size w w'
theorem R_lit0 (W:World):Kd.R KT 69 (W.alloc (.cells #[] 69)) W.heap.size (fun _=>True) (.slice (some ⟨W.heap.size,0,none⟩) 0 0) []:=
 ⟨fun _ _=>trivial,[],⟨rfl,.inr ⟨W.heap.size,0,#[],rfl,nr_ _,heap_alloc_new W _,nr_ _,de_,rfl,rfl⟩⟩,Ze.none _ _⟩
set_option maxHeartbeats 8000000 in
theorem tame_go (n:Nat) (ih:∀ m,n=m+1→ST m):ST n:=by
 intro A0 c0 l0 A1 c1 l1 room w hr0 hc0 hr1 hc1 h1 hf hn;have HB0:=Xf (Below.refl w.heap.size w) (.cells #[] 69);have HL:=R_lit0 w;have aT:=Xa.mk hr0;have HR1:=Xa.mk hr1;have HF:=Xa.mk hf;have HC0:=Xa.mk hc0;have aH:=Xa.mk hc1;have H1:=Xa.mk h1;have HN:=Xa.mk hn;have IH:=Lib.hid ih;clear hr0 hr1 hf hc0 hc1 h1 hn ih;go_enter Try.func47,Try.ntmps47;go_upto_region 2 with (fail);have HBA:=Xa.mk HB0;have HLA:=Xa.mk HL;clear HB0 HL;generalize w.alloc (.cells #[] 69)=w1 at *;go_wp2
 go_loopg [9,10] l0.length (fun kq v9 v10 w'=>∃ (j:Nat),v10=.int .i64 (j:Int)∧Xa (kq+j=l0.length)∧Xa (Kd.R KT 69 w' w.heap.size (fun _=>True) v9 ((tame l1 n l0 room).take j))∧Xa (Below w.heap.size w w'))
 case atStart=>exact ⟨0,rl1_,⟨sm_⟩,⟨by rw [List.take_zero];exact HLA.out⟩,HBA⟩
 case round=>
  clear HLA HBA;obtain ⟨j,rfl,HK,HO,HB⟩:=hrel;obtain ⟨xs,hxs⟩:∃ xs,xs=(tame l1 n l0 room).take j:=⟨_,rfl⟩;rw [← hxs] at HO;have HX:=Xa.mk hxs;clear hxs;by_cases hj:j<l0.length∧0<n
  ·obtain ⟨m,rfl⟩:∃ m,n=m+1:=⟨n - 1,om_⟩
   cases gk with
   |zero=>exact absurd HK.out om_
   |succ k1=>
    have t1:decide ((j:Int)<(l0.length:Int))=true:=dt_ om_;have t2:decide (((m+1:Nat):Int) > 0)=true:=dt_ om_;have t3:decide (0<((m+1:Nat):Int))=true:=dt_ om_
    have p0:0≤(j:Int):=om_
    have q0:(j:Int)<(l0.length:Int):=om_
    obtain ⟨ad,A4,c4,A5,c5,e0,hx0,hx1,hx2,hx3,hx4,hx5,hl4,hi4,hl5,hi5⟩:=at_T69 aT.out (j:Int) p0 q0;cases e0
    have eL:Xb l0 (j:Int)=l0[j]'hj.1:=by unfold Xb;simp [List.getD_eq_getElem?_getD,hj.1]
    obtain ⟨s,hs⟩:∃ s,s=Xb l0 (j:Int):=⟨_,rfl⟩;rw [← hs] at hx0 hx1 hx2 hx3 hx4 hx5 hl4 hi4 hl5 hi5;have ej:((j:Int)).toNat=j:=rfl;rw [ej] at hx0 hx1 hx2 hx3 hx4 hx5;replace hx0:=bw_ HB hx0;replace hx1:=bw_ HB hx1;replace hx2:=bw_ HB hx2;replace hx3:=bw_ HB hx3;replace hx4:=bw_ HB hx4;replace hx5:=bw_ HB hx5;have HS:=Xa.mk hs;have hfa:=HF.out;unfold fitT at hfa;rw [Bool.and_eq_true,decide_eq_true_eq,List.all_eq_true] at hfa;have hfs:=hfa.2 s (by rw [HS.out,eL];exact List.getElem_mem hj.1);rw [Bool.and_eq_true,Bool.and_eq_true] at hfs;have HFS:=Xa.mk hfs;have HLL:=Xa.mk hfa.1;have HJ:=Xa.mk hj;have R4:Xa (s.f4.length≤c4∧Kd.C KT w A4 s.f4.length s.f4):=⟨hl4,hi4⟩;have R5:Xa (s.f5.length≤c5∧Kd.C KT w A5 s.f5.length s.f5):=⟨hl5,hi5⟩
    have hwj:IntKind.i64.wrap ((j:Int)+1)=(j:Int)+1:=by have:=HLL.out;rw [IntKind.wrap_i64];omega
    clear hfa hfs eL hs hl4 hi4 hl5 hi5 hj;replace p0:=eq_true p0;replace q0:=eq_true q0;go_upto_region 6 with (fail)
    have HTB:Xa (TB w (wr.alloc (.cells #[.int .i64 s.f0,.int .i64 s.f1,.int .i64 s.f2,.int .i64 s.f3,.slice A4 s.f4.length c4,.slice A5 s.f5.length c5] 69)) wr.heap.size u9 xs s A4 c4 A5 c5):=
     ⟨Kd.R_below (Kd.R_elderB HO.out wr.heap.size (nr_ _)) (Xf (Below.refl _ _) _),Ym wr _,Xf HB.out _,HB.out.size,R4.out.1,R4.out.2,R5.out.1,R5.out.2⟩
    clear hx0 hx1 hx2 hx3 hx4 hx5 HO HB R4 R5;generalize wr.alloc (.cells #[.int .i64 s.f0,.int .i64 s.f1,.int .i64 s.f2,.int .i64 s.f3,.slice A4 s.f4.length c4,.slice A5 s.f5.length c5] 69)=w2 at *;generalize wr.heap.size=g0 at *;obtain ⟨b0,b1,b2,b3,b4,b5⟩:=HTB.out.cells;go_upto_if 31 with (fail);clear b0 b1 b2 b3 b4 b5
    go_cut [12] (fun v12 wc=>v12=.int .i64 (tAt room s)∧Xa (TB w wc g0 u9 xs s A4 c4 A5 c5))
    case first=>
     obtain ⟨b0,b1,b2,b3,b4,b5⟩:=HTB.out.cells;by_cases h8:s.f0=8
     ·have e8:(s.f0 == 8)=true:=eb_ h8;have ha:tAt room s=s.f1:=if_pos h8;clear h8;go_wp2;go_meet
      case rel=>exact ⟨by rw [ha],HTB⟩
     ·have e8:(s.f0 == 8)=false:=nb_ h8;have ha:tAt room s=room:=if_neg h8;clear h8;go_wp2;go_meet
      case rel=>exact ⟨by rw [ha],HTB⟩
    case rest=>
    clear HTB;obtain ⟨rfl,HTB⟩:=hcut;have aA:=Xa.mk HFS.out.1;obtain ⟨b0,b1,b2,b3,b4,b5⟩:=HTB.out.cells;go_upto_region 9 with (fail)
    go_cut [45] (fun v45 wc=>v45=.bool (tB1 l1 room s)∧Xa (TB w wc g0 u9 xs s A4 c4 A5 c5))
    case first=>
     have h:=HTB.out;by_cases h3:s.f0=3
     ·have e3:(s.f0 == 3)=true:=eb_ h3;have hin:=(hFit_is aA.out).1 h3;obtain ⟨ad,e,hx⟩:=h.int HR1.out s.f2 hin.1 hin.2;cases e
      have p1:=eq_true hin.1;have p2:=eq_true hin.2;by_cases hr:rd l1 s.f2=room
      ·have e4:(rd l1 s.f2 != room)=false:=nq_ hr;have ht:tB1 l1 room s=false:=df_ (fun x=>x.2 hr);clear hr h3 hin h;go_wp2;go_meet
       case rel=>exact ⟨by rw [ht],HTB⟩
      ·have e4:(rd l1 s.f2 != room)=true:=nn_ hr;have ht:tB1 l1 room s=true:=dt_ ⟨h3,hr⟩;clear hr h3 hin h;go_wp2;go_meet
       case rel=>exact ⟨by rw [ht],HTB⟩
     ·have e3:(s.f0 == 3)=false:=nb_ h3;have ht:tB1 l1 room s=false:=df_ (fun x=>h3 x.1);clear h3 h;go_wp2;go_meet
      case rel=>exact ⟨by rw [ht],HTB⟩
    case rest=>
    clear HTB b0 b1 b2 b3 b4 b5;obtain ⟨rfl,HTB⟩:=hcut;go_upto_if 45 with (fail)
    go_cut [] (fun wc=>∃ A4 c4 A5 c5,Xa (TB w wc g0 u9 xs (tH1 l1 room s) A4 c4 A5 c5))
    case first=>
     have h:=HTB.out;obtain ⟨b0,b1,b2,b3,b4,b5⟩:=h.cells;obtain ⟨f0,f1,f2,f3,f4,f5⟩:=h.frozen;clear HTB
     cases hb:tB1 l1 room s with
     |true=>
      have ht:tH1 l1 room s=⟨1,s.f1,0,s.f2,[],[]⟩:=if_pos hb;clear hb;go_wp2;go_meet
      case rel=>exact ⟨_,_,_,_,⟨by rw [ht];exact h.put _ _ _ _⟩⟩
     |false=>
      have ht:tH1 l1 room s=s:=if_neg (by rw [hb];decide);clear hb;go_wp2;go_meet
      case rel=>exact ⟨_,_,_,_,⟨by rw [ht];exact h⟩⟩
    case rest=>
    clear HTB;obtain ⟨A4,c4,A5,c5,HTB⟩:=hcut;have aC:=Xa.mk (tH1_fit (ow:=l1) (room:=room) aA.out);have aI:=Xa.mk (show tHead l1 room s=tH3 l1 room (tH2 l1 room (tH1 l1 room s)) from rfl);generalize tH1 l1 room s=s1 at *;obtain ⟨b0,b1,b2,b3,b4,b5⟩:=HTB.out.cells;go_upto_region 11 with (fail)
    go_cut [62] (fun v62 wc=>v62=.bool (tB2 l1 room s1)∧Xa (TB w wc g0 u9 xs s1 A4 c4 A5 c5))
    case first=>
     have h:=HTB.out;by_cases h3:s1.f0=4
     ·have e3:(s1.f0 == 4)=true:=eb_ h3;have hin:=(hFit_is aC.out).2.1 h3;obtain ⟨ad,e,hx⟩:=h.int HR1.out s1.f1 hin.1 hin.2;cases e
      have p1:=eq_true hin.1;have p2:=eq_true hin.2;by_cases hr:rd l1 s1.f1=room
      ·have e4:(rd l1 s1.f1 != room)=false:=nq_ hr;have ht:tB2 l1 room s1=false:=df_ (fun x=>x.2 hr);clear hr h3 hin h;go_wp2;go_meet
       case rel=>exact ⟨by rw [ht],HTB⟩
      ·have e4:(rd l1 s1.f1 != room)=true:=nn_ hr;have ht:tB2 l1 room s1=true:=dt_ ⟨h3,hr⟩;clear hr h3 hin h;go_wp2;go_meet
       case rel=>exact ⟨by rw [ht],HTB⟩
     ·have e3:(s1.f0 == 4)=false:=nb_ h3;have ht:tB2 l1 room s1=false:=df_ (fun x=>h3 x.1);clear h3 h;go_wp2;go_meet
      case rel=>exact ⟨by rw [ht],HTB⟩
    case rest=>
    clear HTB b0 b1 b2 b3 b4 b5;obtain ⟨rfl,HTB⟩:=hcut;go_upto_if 62 with (fail)
    go_cut [] (fun wc=>∃ A4 c4 A5 c5,Xa (TB w wc g0 u9 xs (tH2 l1 room s1) A4 c4 A5 c5))
    case first=>
     have h:=HTB.out;obtain ⟨b0,b1,b2,b3,b4,b5⟩:=h.cells;obtain ⟨f0,f1,f2,f3,f4,f5⟩:=h.frozen;clear HTB
     cases hb:tB2 l1 room s1 with
     |true=>
      have ht:tH2 l1 room s1=⟨5,s1.f2,0,0,[],[]⟩:=if_pos hb;clear hb;go_wp2;go_meet
      case rel=>exact ⟨_,_,_,_,⟨by rw [ht];exact h.put _ _ _ _⟩⟩
     |false=>
      have ht:tH2 l1 room s1=s1:=if_neg (by rw [hb];decide);clear hb;go_wp2;go_meet
      case rel=>exact ⟨_,_,_,_,⟨by rw [ht];exact h⟩⟩
    case rest=>
    clear HTB;obtain ⟨A4,c4,A5,c5,HTB⟩:=hcut;have aJ:=Xa.mk (tH2_fit (ow:=l1) (room:=room) aC.out);generalize tH2 l1 room s1=s2 at *;obtain ⟨b0,b1,b2,b3,b4,b5⟩:=HTB.out.cells;go_upto_region 13 with (fail)
    go_cut [83] (fun v83 wc=>v83=.bool (tB3 l1 room s2)∧Xa (TB w wc g0 u9 xs s2 A4 c4 A5 c5))
    case first=>
     have h:=HTB.out;by_cases h3:s2.f0=9∨s2.f0=10
     ·have hin:=(hFit_is aJ.out).2.2 h3
      have ew:IntKind.i64.wrap (3+s2.f1)=3+s2.f1:=by have:=H1.out;rw [IntKind.wrap_i64];omega
      obtain ⟨ad,e,hx⟩:=h.int HR1.out (3+s2.f1) om_ hin.2;cases e
      have p1:=eq_true (show 0≤3+s2.f1 by omega);have p2:=eq_true hin.2
      have ht:tB3 l1 room s2=(rd l1 (3+s2.f1) != room):=by
       unfold tB3;rw [decide_and_true_l h3];by_cases hr:rd l1 (3+s2.f1)=room
       ·rw [nq_ hr];exact df_ (fun x=>x hr)
       ·rw [nn_ hr];exact dt_ hr
      clear hin h
      rcases h3 with h3|h3
      ·have e3:(s2.f0 == 9)=true:=eb_ h3;clear h3;go_wp2;go_meet
       case rel=>exact ⟨by rw [ht],HTB⟩
      ·have e3:(s2.f0 == 9)=false:=nb_ om_;have e5:(s2.f0 == 10)=true:=eb_ h3;clear h3;go_wp2;go_meet
       case rel=>exact ⟨by rw [ht],HTB⟩
     ·have e3:(s2.f0 == 9)=false:=nb_ om_;have e5:(s2.f0 == 10)=false:=nb_ om_;have ht:tB3 l1 room s2=false:=df_ (fun x=>h3 x.1);clear h3 h;go_wp2;go_meet
      case rel=>exact ⟨by rw [ht],HTB⟩
    case rest=>
    clear HTB b0 b1 b2 b3 b4 b5;obtain ⟨rfl,HTB⟩:=hcut;go_upto_if 83 with (fail)
    go_cut [] (fun wc=>∃ A4 c4 A5 c5,Xa (TB w wc g0 u9 xs (tH3 l1 room s2) A4 c4 A5 c5))
    case first=>
     have h:=HTB.out;obtain ⟨b0,b1,b2,b3,b4,b5⟩:=h.cells;obtain ⟨f0,f1,f2,f3,f4,f5⟩:=h.frozen;clear HTB
     cases hb:tB3 l1 room s2 with
     |true=>
      have ht:tH3 l1 room s2=⟨11,0,0,0,[],[]⟩:=if_pos hb;clear hb;go_wp2;go_meet
      case rel=>exact ⟨_,_,_,_,⟨by rw [ht];exact h.put _ _ _ _⟩⟩
     |false=>
      have ht:tH3 l1 room s2=s2:=if_neg (by rw [hb];decide);clear hb;go_wp2;go_meet
      case rel=>exact ⟨_,_,_,_,⟨by rw [ht];exact h⟩⟩
    case rest=>
    clear HTB;obtain ⟨A4,c4,A5,c5,HTB⟩:=hcut;have HE:Xa (tHead l1 room s=tH3 l1 room s2):=aI;generalize tH3 l1 room s2=s3 at *;clear aI aJ aC aA;have hft:=tHead_fit (ow:=l1) (room:=room) HFS.out.2.1 HFS.out.2.2;rw [HE.out] at hft;have HFT:=Xa.mk hft;clear hft HFS
    have ewm:wrap64 (m:Int)=(m:Int):=by have:=HN.out;unfold wrap64;omega
    obtain ⟨r4,h4⟩:∃ r4,r4=tame l1 m s3.f4 (tAt room s):=⟨_,rfl⟩;obtain ⟨r5,h5⟩:∃ r5,r5=tame l1 m s3.f5 (tAt room s):=⟨_,rfl⟩
    have HY:Xa (xs ++ [(⟨s3.f0,s3.f1,s3.f2,s3.f3,r4,r5⟩:T)]=(tame l1 (m+1) l0 room).take (j+1)):=⟨by
     have hj:=HJ.out.1
     have eL:Xb l0 (j:Int)=l0[j]'hj:=by unfold Xb;simp [List.getD_eq_getElem?_getD,hj]
     have hlen:j<(tame l1 (m+1) l0 room).length:=by unfold tame;rw [List.length_map];exact hj
     rw [List.take_succ_eq_append_getElem hlen,← HX.out];congr 1
     simp only [tame,List.getElem_map]
     rw [← eL,← HS.out,HE.out,← h4,← h5]⟩
    have H4:=Xa.mk h4;have H5:=Xa.mk h5;have HXL:Xa (xs.length≤1000000):=⟨by rw [HX.out,List.length_take];have:=HLL.out;have:=HJ.out.1;omega⟩;clear h4 h5 HX HE HS ej;obtain ⟨b0,b1,b2,b3,b4,b5⟩:=HTB.out.cells;go_upto_region 16 with (first|(go_at_call 47;go_must (refine (IH.out m rfl A4 c4 s3.f4 A1 c1 l1 (tAt room s) wc (Kd.Yr HTB.out.r4 HTB.out.below) HTB.out.l4 (Kd.Yr HR1.out HTB.out.below) aH.out H1.out HFT.out.1 (by have:=HN.out;omega)).mono ?_;rintro e w5 ⟨v4,rfl,ho,hb⟩;rw [← H4.out] at ho;obtain ⟨B4,k4,aU⟩:=Kd.Zd ho;subst aU;have aK:=Xa.mk ho;have aD:=Xa.mk hb;have bk:=Xu HTB.out.blk hb;have z4:=(Xh bk 4).trans rfl;have y4:=Xc bk 4;clear ho hb bk b0 b1 b2 b3 b4 b5)));have K1:=Xa.mk (HTB.out.one aK.out aD.out);clear z4 y4 HTB aK aD;generalize w5.setCell ⟨g0,4,none⟩ (.slice B4 r4.length k4)=w6 at *;have b5:=(Xh K1.out.blk 5).trans rfl;go_upto_region 17 with (first|(go_at_call 47;go_must (refine (IH.out m rfl A5 c5 s3.f5 A1 c1 l1 (tAt room s) w6 (Kd.Yr K1.out.r5 K1.out.below) K1.out.l5 (Kd.Yr HR1.out K1.out.below) aH.out H1.out HFT.out.2 (by have:=HN.out;omega)).mono ?_;rintro e w7 ⟨v5,rfl,ho,hb⟩;rw [← H5.out] at ho;obtain ⟨B5,k5,aV⟩:=Kd.Zd ho;subst aV;have aM:=Xa.mk ho;have aG:=Xa.mk hb;have bk:=Xu K1.out.blk hb;have z5:=(Xh bk 5).trans rfl;have y5:=Xc bk 5;clear ho hb bk b5)));have K2:=Xa.mk (K1.out.two aM.out aG.out);clear z5 y5 K1 aM aG;generalize w7.setCell ⟨g0,5,none⟩ (.slice B5 r5.length k5)=w8 at *;have b0:=(Xh K2.out.blk 0).trans rfl;have b1:=(Xh K2.out.blk 1).trans rfl;have b2:=(Xh K2.out.blk 2).trans rfl;have b3:=(Xh K2.out.blk 3).trans rfl;have b4:=(Xh K2.out.blk 4).trans rfl;have b5:=(Xh K2.out.blk 5).trans rfl;go_wp2_with (first|((with_reducible refine Zl (b:=.append) (xs:=#[.tmp 101,.tmp 103]) rfl ?_);at_builtin;go_must (refine Kd.R_append KT (w0:=w) w.heap.size rfl (.tmp 101) (.tmp 103) 50 69 (.agg #[(.int .i64 0),(.int .i64 0),(.int .i64 0),(.int .i64 0),(.slice none 0 0),(.slice none 0 0)]) 80 rfl Try.underlying50 info69 rfl de_ om_ u9 xs (⟨s3.f0,s3.f1,s3.f2,s3.f3,r4,r5⟩:T) [.int .i64 s3.f0,.int .i64 s3.f1,.int .i64 s3.f2,.int .i64 s3.f3,.slice B4 r4.length k4,.slice B5 r5.length k5] (fun k_=>k_≠g0) (fun k_=>((fun k_=>k_≠g0)) k_∧some k_≠(u9:Value).ownBlock) rfl rfl ?aP (fun _ hk=>hk) ?aF ?aO ?aB ?aS ?aL ?_;(case aP=>exact k69_mkM _ _ _ (⟨s3.f0,s3.f1,s3.f2,s3.f3,r4,r5⟩:T) K2.out.r4 K2.out.r5);(case aB=>first|exact K2.out.below|exact Xf K2.out.below _);(case aF=>first|exact (fun k_ hk=>Kd.freshB K2.out.blk k_ hk)|exact (fun k_ hk=>Kd.freshB (Zb K2.out.blk _) k_ hk));(case aO=>first|exact K2.out.row|exact Kd.R_alloc K2.out.row _);(case aS=>first|exact K2.out.below.size|exact (Xf K2.out.below _).size);(case aL=>have:=HXL.out;omega);intro v9 w9 ho hb hg hat;rw [HY.out] at ho;have aR:=Xa.mk ho;have aQ:=Xa.mk hb;clear ho hb hg hat b0 b1 b2 b3 b4 b5)));go_roundg k1
    case measure=>omega
    case rel=>exact ⟨j+1,(by first|rfl|(simp;done)),⟨by have:=HK.out;omega⟩,⟨Kd.Yj aR.out (fun _ hk=>trivial)⟩,aQ⟩
  ·have e:xs=tame l1 n l0 room:=by
    rw [HX.out];refine List.take_of_length_le ?_
    cases n with
    |zero=>simp [tame]
    |succ n=>unfold tame;rw [List.length_map];have:=HK.out;omega
   rw [e] at HO;clear HX e;by_cases hl:j<l0.length
   ·have t1:decide ((j:Int)<(l0.length:Int))=true:=dt_ om_;have t2:decide ((n:Int) > 0)=false:=df_ om_;have t3:decide (0<n)=false:=df_ om_;have t4:decide (j<l0.length)=true:=dt_ om_;clear hj hl;go_wp2;go_ret
    exact ⟨_,rfl,HO.out,HB.out⟩
   ·have t1:decide ((j:Int)<(l0.length:Int))=false:=df_ om_;have t4:decide (j<l0.length)=false:=df_ om_;clear hj hl;go_wp2;go_ret
    exact ⟨_,rfl,HO.out,HB.out⟩
theorem tame_do:∀ n,ST n
 |0=>tame_go 0 (fun m h=>om_)
 |n+1=>tame_go (n+1) (fun m h=>(show n=m by omega) ▸ tame_do n)
end Go.Proofs.Ytlhogkfmdnpmkaa.Tame
