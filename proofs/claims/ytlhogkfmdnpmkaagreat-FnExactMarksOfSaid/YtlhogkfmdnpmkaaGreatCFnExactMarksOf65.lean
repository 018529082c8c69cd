import Derived.Test.YtlhogkfmdnpmkaaGreatCFnExactMarksOf63
import Derived.Test.YtlhogkfmdnpmkaaGreatCFnExactMarksOf64
set_option linter.unusedVariables false
set_option linter.unusedSimpArgs false
set_option maxHeartbeats 8000000
set_option maxRecDepth 100000
namespace Go.Proofs.YtlhogkfmdnpmkaaGreat.GMarks
open RowKit YtlhogkfmdnpmkaaGreatW.PrintWords YtlhogkfmdnpmkaaGreatW.PrintLast YtlhogkfmdnpmkaaGreatW.PrintMore
attribute [local go_sem] Ua Ud Uu Ux Zo Zp Ub Ue
section
open StmtOk Range
abbrev Xo.T:=S87
def Xo.LOK (e:Nat):Prop:=∀ (l:List Xo.T) (A:Option Addr) (c:Nat) (room:Int) (W:World),Kd.C k87 W A l.length l→l.length≤c→
 Calls Tryz.prog 96 #[.slice A l.length c,.int .i64 (e:Int),.int .i64 room] W fun x W'=>x=.returned (.bool (l.all (fun t=>Yd.st e t room)))∧Below W.heap.size W W'
def Xo.Box (b:Nat) (n:Int) (W:World):Prop:=W.heap[b]?=some (.cells #[.int .i64 n] 3 (0,0))
theorem Xo.Box.below {b:Nat} {n:Int} {W W':World} (h:Xo.Box b n W) (hb:Below W.heap.size W W'):Xo.Box b n W':=(hb.block _ (Array.getElem?_eq_some_iff.1 h).1).trans h
theorem Xo.Box.cell {b:Nat} {n:Int} {W:World} (h:Xo.Box b n W):W.cell? ⟨b,0,none⟩=some (.int .i64 n):=by
 unfold Xo.Box at h;simp [World.cell?,h]
theorem Xo.stmt (d:Nat) (hd:d≤3) (lists:∀ e,d=e+1→Xo.LOK e) (s:Xo.T) (A4:Option Addr) (c4:Nat) (A5:Option Addr) (c5:Nat) (room:Int) (W:World)
  (aS:Kd.C k87 W A4 s.f4.length s.f4) (hl4:s.f4.length≤c4) (aT:Kd.C k87 W A5 s.f5.length s.f5) (hl5:s.f5.length≤c5) :
  Calls Tryz.prog 103 #[.agg #[.int .i64 s.f0,.int .i64 s.f1,.int .i64 s.f2,.int .i64 s.f3,.slice A4 s.f4.length c4,.slice A5 s.f5.length c5],.int .i64 (d:Int),.int .i64 room] W fun x W'=>x=.returned (.bool (Yd.st d s room))∧Below W.heap.size W W':=by
 cases d with
 |zero=>
  exact Yd.walk s.f0 s.f1 s.f2 s.f3 A4 _ c4 A5 _ c5 s.f4 s.f5 rfl rfl 0 room false false _ W (by simp [Yd.tail,Yd.st]) aS aT hl4 hl5 (fun h=>absurd h om_) (fun h=>absurd h om_)
 |succ e=>
  have hw:wrap64 (((e+1:Nat):Int) - 1)=(e:Int):=by unfold wrap64;omega
  refine Yd.walk s.f0 s.f1 s.f2 s.f3 A4 _ c4 A5 _ c5 s.f4 s.f5 rfl rfl ((e+1:Nat):Int) room _ _ _ W rfl aS aT hl4 hl5 (fun _ W1 h1=>?_) (fun _ W1 h1=>?_)
  ·rw [hw];exact lists e rfl _ _ _ _ _ h1 hl4
  ·rw [hw];exact lists e rfl _ _ _ _ _ h1 hl5
theorem Xo.pred (d:Nat) (hd:d≤3) (lists:∀ e,d=e+1→Xo.LOK e) (b1 b2:Nat) (s:Xo.T) (A4:Option Addr) (c4:Nat) (A5:Option Addr) (c5:Nat) (room:Int) (W:World)
  (h1:Xo.Box b1 (d:Int) W) (h2:Xo.Box b2 room W)
  (aS:Kd.C k87 W A4 s.f4.length s.f4) (hl4:s.f4.length≤c4) (aT:Kd.C k87 W A5 s.f5.length s.f5) (hl5:s.f5.length≤c5) :
  Calls Tryz.prog 102 #[.agg #[.int .i64 s.f0,.int .i64 s.f1,.int .i64 s.f2,.int .i64 s.f3,.slice A4 s.f4.length c4,.slice A5 s.f5.length c5],.pointer (some ⟨b1,0,none⟩),.pointer (some ⟨b2,0,none⟩)] W fun x W'=>x=.returned (.bool (!Yd.st d s room))∧Below W.heap.size W W':=by
 have X:=Lib.hid (fun W1 (hb:Below W.heap.size W W1)=>Xo.stmt d hd lists s A4 c4 A5 c5 room W1 (Kd.Xy aS hb) hl4 (Kd.Xy aT hb) hl5);have x1:=h1.cell;have x2:=h2.cell;have y1:∀ o,(W.alloc o).cell? ⟨b1,0,none⟩=some (.int .i64 (d:Int)):=fun o=>cell_later ((Below.refl _ _).alloc (nr_ _) o) x1;have y2:∀ o,(W.alloc o).cell? ⟨b2,0,none⟩=some (.int .i64 room):=fun o=>cell_later ((Below.refl _ _).alloc (nr_ _) o) x2;clear h1 h2 aS aT hl4 hl5 lists;generalize Yd.st d s room=q at *;generalize (d:Int)=D at *;go_enter Tryz.func102,Tryz.ntmps102;go_wp2_with (fail);refine (X.out _ ((Below.refl _ _).alloc (nr_ _) _)).mono ?_;rintro e w1 ⟨rfl,aJ⟩;have HB:=Xa.mk (Xi ((Below.refl W.heap.size W).alloc (nr_ _) _) aJ);clear aJ x1 x2 y1 y2;go_wp2;go_ret
 exact ⟨rfl,HB.out⟩
theorem Xo.idx_take (p:Xo.T→Bool) (l:List Xo.T) (i:Nat) (h:i<l.length):(l.take (i+1)).any p=((l.take i).any p||p l[i]):=by
 rw [List.take_succ_eq_append_getElem h,List.any_append];simp
theorem Xo.index (l:List Xo.T) (A:Option Addr) (c:Nat) (b1 b2:Nat) (n room:Int) (p:Xo.T→Bool) (w:World) (hC:Kd.C k87 w A l.length l) (hlc:l.length≤c) (hlen:l.length≤9223372036854775807) (h1:Xo.Box b1 n w) (h2:Xo.Box b2 room w)
  (hp:∀ (s:Xo.T) (A4:Option Addr) (c4:Nat) (A5:Option Addr) (c5:Nat) (W:World),Xo.Box b1 n W→Xo.Box b2 room W→Kd.C k87 W A4 s.f4.length s.f4→s.f4.length≤c4→Kd.C k87 W A5 s.f5.length s.f5→s.f5.length≤c5→
   Calls Tryz.prog 102 #[.agg #[.int .i64 s.f0,.int .i64 s.f1,.int .i64 s.f2,.int .i64 s.f3,.slice A4 s.f4.length c4,.slice A5 s.f5.length c5],.pointer (some ⟨b1,0,none⟩),.pointer (some ⟨b2,0,none⟩)] W fun x W'=>x=.returned (.bool (p s))∧Below W.heap.size W W') :
  Calls Tryz.prog 108 #[.slice A l.length c,.func (.func 102) #[] #[.pointer (some ⟨b1,0,none⟩),.pointer (some ⟨b2,0,none⟩)]] w fun x w'=>∃ m:Int,x=.returned (.int .i64 m)∧decide (m ≥ 0)=l.any p∧Below w.heap.size w w':=by
 have HC:=Xa.mk hC;have HP:=Lib.hid hp;have H1:=Xa.mk h1;have H2:=Xa.mk h2;have HL:=Xa.mk hlen;clear hC hp h1 h2 hlen;have HB:=Xa.mk (Below.refl w.heap.size w);go_enter Tryz.func108,Tryz.ntmps108;go_wp2
 go_loopw [8] (fun v8 w'=>∃ (i:Nat),v8=.int .i64 (i:Int)∧Xa (i≤l.length)∧Xa ((l.take i).any p=false)∧Xa (Below w.heap.size w w')) (fun v8 _=>l.length - (intOf v8).toNat)
 case atStart=>exact ⟨0,rfl,⟨Nat.zero_le _⟩,⟨sm_⟩,HB⟩
 case round=>
  clear HB;obtain ⟨i,rfl,Hi,HN,HB⟩:=hrel;by_cases hlt:i<l.length
  ·have Hlt:=Xa.mk hlt;have hd1:decide ((i:Int)<(l.length:Int))=true:=dt_ om_
   have p0:0≤(i:Int):=om_
   have q0:(i:Int)<(l.length:Int):=om_
   obtain ⟨ad,A4,c4,A5,c5,e,hx0,hx1,hx2,hx3,hx4,hx5,hl4,hi4,hl5,hi5⟩:=at_T87 (Kd.Xy HC.out HB.out) (i:Int) p0 q0;subst e
   have hrd:Xe l (i:Int)=l[i]:=by unfold Xe;simp [List.getD_eq_getElem?_getD,hlt]
   rw [hrd] at hx0 hx1 hx2 hx3 hx4 hx5 hl4 hi4 hl5 hi5;have hstep:=Xo.idx_take p l i hlt;rw [HN.out,Bool.false_or] at hstep;clear HN;have X:=Lib.hid (HP.out l[i] A4 c4 A5 c5 _ (H1.out.below HB.out) (H2.out.below HB.out) hi4 hl4 hi5 hl5);generalize p l[i]=q at *;generalize l[i]=s at *;have Hstep:=Xa.mk hstep;simp only [Int.toNat_natCast] at hx0 hx1 hx2 hx3 hx4 hx5;replace p0:=eq_true p0;replace q0:=eq_true q0
   have hjw:IntKind.i64.wrap ((i:Int)+1)=((i+1:Nat):Int):=by have:=HL.out;have:=Hlt.out;rw [IntKind.wrap_i64];omega
   have hjw2:wrap64 ((i:Int)+1)=((i+1:Nat):Int):=by have:=HL.out;have:=Hlt.out;unfold wrap64;omega
   clear hstep hlt hrd hl4 hi4 hl5 hi5;go_wp2_with (fail);refine (X.out).mono ?_;rintro e w1 ⟨rfl,aJ⟩;replace HB:=Xa.mk (Xi HB.out aJ);clear aJ hx0 hx1 hx2 hx3 hx4 hx5 X
   cases q
   ·go_wp2
    go_roundw
    case measure=>have:=Hlt.out;simp [intOf];omega
    case rel=>exact ⟨i+1,sm_,⟨Hlt.out⟩,⟨Hstep.out⟩,HB⟩
   ·go_wp2;go_ret
    refine ⟨_,rfl,?_,HB.out⟩;rw [show l.any p=true from by have:=Hstep.out;rw [List.any_eq_true] at this ⊢;obtain ⟨x,hx,hq⟩:=this;exact ⟨x,List.mem_of_mem_take hx,hq⟩];exact dt_ om_
  ·have hi:i=l.length:=by have:=Hi.out;omega
   subst hi
   have hn:l.any p=false:=by have:=HN.out;rwa [List.take_of_length_le (nr_ _)] at this
   have Hn:=Xa.mk hn;clear hlt hn HN Hi;go_wp2;go_ret
   exact ⟨_,rfl,Hn.out.symm ▸ rfl,HB.out⟩
theorem Xo.contains (l:List Xo.T) (A:Option Addr) (c:Nat) (v:Value) (q:Bool) (w:World)
  (hX:Calls Tryz.prog 108 #[.slice A l.length c,v] w fun x w'=>∃ m:Int,x=.returned (.int .i64 m)∧decide (m ≥ 0)=q∧Below w.heap.size w w') :
  Calls Tryz.prog 101 #[.slice A l.length c,v] w fun x w'=>x=.returned (.bool q)∧Below w.heap.size w w':=by
 have X:=Lib.hid hX;clear hX;go_enter Tryz.func101,Tryz.ntmps101;go_wp2_with (fail);refine (X.out).mono ?_;rintro e w1 ⟨m,rfl,hm,hb⟩;have HB:=Xa.mk hb;clear hb;go_wp2;go_ret
 exact ⟨rfl,HB.out⟩
theorem Xo.any_all:∀ (l:List Xo.T) (p:Xo.T→Bool),(!(l.any (fun t=>!p t)))=l.all p
 |[],p=>rfl
 |x :: r,p=>by rw [List.any_cons,List.all_cons,← Xo.any_all r p];cases p x <;> simp
theorem Xo.list (d:Nat) (hd:d≤3) (lists:∀ e,d=e+1→Xo.LOK e):Xo.LOK d:=by
 intro l A c room w hC hlc;have hlen:l.length≤9223372036854775807:=hC.2.1;have hall:∀ (p:Xo.T→Bool),(!(l.any (fun t=>!p t)))=l.all p:=Xo.any_all l
 have X:=Lib.hid (fun (w1:World) (hb:Below w.heap.size w w1) (b1 b2:Nat) (h1:Xo.Box b1 (d:Int) w1) (h2:Xo.Box b2 room w1)=>
  Xo.contains l A c _ _ w1 (Xo.index l A c b1 b2 (d:Int) room (fun t=>!Yd.st d t room) w1 (Kd.Xy hC hb) hlc hlen h1 h2
   (fun s A4 c4 A5 c5 W g1 g2 i4 j4 i5 j5=>Xo.pred d hd lists b1 b2 s A4 c4 A5 c5 room W g1 g2 i4 j4 i5 j5)))
 have hr:=hall (fun t=>Yd.st d t room);generalize (l.any (fun t=>!Yd.st d t room))=q at *;generalize (l.all (fun t=>Yd.st d t room))=r at *;have HRE:=Xa.mk hr;have hb2:Xo.Box w.heap.size (d:Int) ((w.alloc (.cells #[.int .i64 (d:Int)] 3)).alloc (.cells #[.int .i64 room] 3)):=(Below.heap_alloc _ _ _ sm_).trans (World.alloc_heap_new w _)
 have hb3:Xo.Box (w.heap.size+1) room ((w.alloc (.cells #[.int .i64 (d:Int)] 3)).alloc (.cells #[.int .i64 room] 3)):=by
  have:=World.alloc_heap_new (w.alloc (.cells #[.int .i64 (d:Int)] 3)) (.cells #[.int .i64 room] 3)
  rw [World.size_alloc] at this;exact this
 have hbl:Below w.heap.size w ((w.alloc (.cells #[.int .i64 (d:Int)] 3)).alloc (.cells #[.int .i64 room] 3)):=((Below.refl _ w).alloc (nr_ _) _).alloc sm_ _;have Y:=Lib.hid (X.out _ hbl _ _ hb2 hb3);have HBL:=Xa.mk hbl;clear X hb2 hb3 hbl hr hall hC hlc hlen lists;generalize (d:Int)=D at *;go_enter Tryz.func96,Tryz.ntmps96;go_wp2_with (fail);refine (Y.out).mono ?_;rintro e w1 ⟨rfl,aJ⟩;have HB:=Xa.mk (Xi HBL.out aJ);clear aJ Y HBL;go_wp2;go_ret
 exact ⟨congrArg (fun b=>Ending.returned (Value.bool b)) HRE.out,HB.out⟩
theorem Xo.lists:∀ d,d≤3→Xo.LOK d
 |0,h=>Xo.list 0 h (fun e he=>om_)
 |d+1,h=>Xo.list (d+1) h (fun e he=>(Nat.succ.inj he) ▸ Xo.lists d om_)
def Xo.cnt:Nat→List Xo.T→Nat
 |0,_=>0
 |d+1,l=>(l.map (fun s=>1+Xo.cnt d s.f4+Xo.cnt d s.f5)).sum
def Xo.Valid (d:Nat) (l:List Xo.T):Prop:=∃ room,l.all (fun t=>Yd.st d t room)=true
theorem Xo.Valid.zero {l:List Xo.T} (h:Xo.Valid 0 l):l=[]:=by
 obtain ⟨room,h⟩:=h
 cases l with
 |nil=>rfl
 |cons x r=>simp [Yd.st] at h
theorem Xo.Valid.inner {d:Nat} {l:List Xo.T} (h:Xo.Valid (d+1) l) (s:Xo.T) (hs:s ∈ l):Xo.Valid d s.f4∧Xo.Valid d s.f5:=by
 obtain ⟨room,h⟩:=h
 have:=List.all_eq_true.1 h s hs
 simp only [Yd.st,Yd.tail,Bool.and_eq_true] at this;exact ⟨⟨_,this.2.2.2.2.2.2.2.2.1⟩,⟨_,this.2.2.2.2.2.2.2.2.2⟩⟩
theorem Xo.cnt_take (d:Nat) (l:List Xo.T) (i:Nat) (h:i<l.length):Xo.cnt (d+1) (l.take (i+1))=Xo.cnt (d+1) (l.take i)+(1+Xo.cnt d l[i].f4+Xo.cnt d l[i].f5):=by
 rw [List.take_succ_eq_append_getElem h];simp only [Xo.cnt,List.map_append,List.map_cons,List.map_nil,List.sum_append,List.sum_cons,List.sum_nil,Nat.add_zero]
def Xo.FBox (b:Nat) (v:Value) (t:TypeId) (W:World):Prop:=W.heap[b]?=some (.cells #[v] t (0,0))
theorem Xo.FBox.cell {b:Nat} {v:Value} {t:TypeId} {W:World} (h:Xo.FBox b v t W):W.cell? ⟨b,0,none⟩=some v:=by
 unfold Xo.FBox at h;simp [World.cell?,h]
theorem Xo.FBox.keep {b:Nat} {v:Value} {t:TypeId} {W W':World} {B:Nat} {X:Nat→Prop} (h:Xo.FBox b v t W) (hb:B≤b) (hk:Keeps B X W W'):Xo.FBox b v t W':=(hk.high b hb (Array.getElem?_eq_some_iff.1 h).1).trans h
structure Xo.At (w:World) (By Bw l0:Nat) (W:World):Prop where
 y:Xo.FBox By (.func (.yield l0) #[] #[]) 164 W
 k:Xo.FBox Bw (.func (.func 105) #[] #[.pointer (some ⟨By,0,none⟩),.pointer (some ⟨Bw,0,none⟩)]) 165 W
 bel:Below w.heap.size w W
theorem Xo.At.keep {w:World} {By Bw l0 B:Nat} {X:Nat→Prop} {W W':World} (h:Xo.At w By Bw l0 W) (hy:B≤By) (hw:B≤Bw) (hX:∀ k,k<w.heap.size→X k) (hk:Keeps B X W W'):Xo.At w By Bw l0 W':=
 ⟨h.y.keep hy hk,h.k.keep hw hk,h.bel.trans ⟨hk.os,hk.tape,hk.output,hk.size,fun k hlt=>hk.seen k (hX k hlt)⟩⟩
theorem Xo.keeps_alloc (B:Nat) (X:Nat→Prop) (W:World) (o:Obj) (hX:∀ k,X k→k<W.heap.size):Keeps B X W (W.alloc o):=
 ⟨sm_,fun k _ hk=>Below.heap_alloc _ _ _ hk,fun k hk=>Below.heap_alloc _ _ _ (hX k hk),rfl,rfl,rfl⟩
theorem Xo.walk (w W0:World) (l0 By Bw:Nat) (J Jx:List Value→World→Prop) (X:Nat→Prop) (hX0:∀ k,k<w.heap.size→X k) (hXl:∀ k,X k→k<W0.heap.size) (hBy:W0.heap.size≤By) (hBw:W0.heap.size≤Bw)
  (hJ:Ab W0.heap.size J) (hJx:Ab W0.heap.size Jx)
  (hY:∀ pre x W1,J pre W1→YieldAt Fence.wide 0 Tryz.prog l0 #[x] W1 fun e W'=>(e=.returned (.bool true)∧J (pre ++ [x]) W'∧Keeps W0.heap.size X W1 W')∨(e=.returned (.bool false)∧Jx (pre ++ [x]) W'∧Keeps W0.heap.size X W1 W')) :
  ∀ (d:Nat) (l:List Xo.T) (A:Option Addr) (c:Nat) (room:Int) (pre:List Value) (W:World),Xo.Valid d l→Kd.C k87 w A l.length l→l.length≤c→Xo.At w By Bw l0 W→W0.heap.size≤W.heap.size→J pre W→
  Calls Tryz.prog 105 #[.slice A l.length c,.int .i64 room,.pointer (some ⟨By,0,none⟩),.pointer (some ⟨Bw,0,none⟩)] W fun e W'=>
   (e=.returned (.bool true)∧(∃ q:List Value,q.length=Xo.cnt d l∧J (pre ++ q) W')∧Keeps W0.heap.size X W W')∨(e=.returned (.bool false)∧(∃ q,Jx q W')∧Keeps W0.heap.size X W W'):=by
 intro d
 induction d with
 |zero=>
  intro l A c room pre W hv hC hlc hat hsz hj;obtain rfl:=hv.zero;have aW:=Xa.mk hj;clear hv hC hlc hat hsz hj hY hJ hJx hX0 hXl hBy hBw;go_enter Tryz.func105,Tryz.ntmps105;go_wp2
  go_loopw [12] (fun v12 w'=>v12=.int .i64 0∧Xa (w'=W)) (fun _ _=>0)
  case atStart=>exact ⟨rfl,⟨rfl⟩⟩
  case round=>
   obtain ⟨rfl,hw⟩:=hrel;go_wp2;go_ret
   exact .inl ⟨rfl,⟨[],rfl,by rw [hw.out,List.append_nil];exact aW.out⟩,by rw [hw.out];exact Keeps.refl _ _ _⟩
 |succ d ih=>
  intro l A c room pre W hv hC hlc hat hsz hj;have aW:=Xa.mk hj;have HV:=Xa.mk hv;have HC:=Xa.mk hC;have HAT:=Xa.mk hat;have HSZ:=Xa.mk hsz;have HY:=Xa.mk hY;have HJ:=Xa.mk hJ;have HX0:=Xa.mk hX0;have HXL:=Xa.mk hXl;have HBY:=Xa.mk hBy;have HBW:=Xa.mk hBw;have HIH:=Lib.hid ih;have HLEN:=Xa.mk (show l.length≤9223372036854775807 from hC.2.1);have bA:=Xa.mk (Keeps.refl W0.heap.size X W);clear hv hC hat hsz hj hY hJ hJx hX0 hXl hBy hBw ih;go_enter Tryz.func105,Tryz.ntmps105;go_wp2
  go_loopw [12] (fun v12 w'=>∃ (i:Nat),v12=.int .i64 (i:Int)∧Xa (i≤l.length)∧Xa (∃ q:List Value,q.length=Xo.cnt (d+1) (l.take i)∧J (pre ++ q) w')∧Xa (Keeps W0.heap.size X W w')) (fun v12 _=>l.length - (intOf v12).toNat)
  case atStart=>exact ⟨0,rfl,⟨Nat.zero_le _⟩,⟨[],by simp [Xo.cnt],by rw [List.append_nil];exact aW.out⟩,bA⟩
  case round=>
   clear bA aW;obtain ⟨i,rfl,Hi,HQ,HK⟩:=hrel;by_cases hlt:i<l.length
   ·have Hlt:=Xa.mk hlt;have HA1:=Xa.mk (HAT.out.keep HBY.out HBW.out HX0.out HK.out);have hd1:decide ((i:Int)<(l.length:Int))=true:=dt_ om_
    have p0:0≤(i:Int):=om_
    have q0:(i:Int)<(l.length:Int):=om_
    obtain ⟨ad,A4,c4,A5,c5,e,hx0,hx1,hx2,hx3,hx4,hx5,hl4,hi4,hl5,hi5⟩:=at_T87 HC.out (i:Int) p0 q0;subst e
    have hrd:Xe l (i:Int)=l[i]:=by unfold Xe;simp [List.getD_eq_getElem?_getD,hlt]
    rw [hrd] at hx0 hx1 hx2 hx3 hx4 hx5 hl4 hi4 hl5 hi5;have hin:=HV.out.inner l[i] (List.getElem_mem hlt);have hstep:=Xo.cnt_take d l i hlt;obtain ⟨s,hs⟩:∃ s,l[i]=s:=⟨_,rfl⟩;rw [hs] at hx0 hx1 hx2 hx3 hx4 hx5 hl4 hi4 hl5 hi5 hin hstep;have Hstep:=Xa.mk hstep;have HIN:=Xa.mk hin;have C4:=Xa.mk hi4;have C5:=Xa.mk hi5;have L4:=Xa.mk hl4;have L5:=Xa.mk hl5;replace hx0:=cell_later HA1.out.bel hx0;replace hx1:=cell_later HA1.out.bel hx1;replace hx2:=cell_later HA1.out.bel hx2;replace hx3:=cell_later HA1.out.bel hx3;replace hx4:=cell_later HA1.out.bel hx4;replace hx5:=cell_later HA1.out.bel hx5;simp only [Int.toNat_natCast] at hx0 hx1 hx2 hx3 hx4 hx5
    have hjw0:IntKind.i64.wrap ((i:Int)+1)=((i+1:Nat):Int):=by have:=HLEN.out;rw [IntKind.wrap_i64];omega
    have hjw:wrap64 ((i:Int)+1)=((i+1:Nat):Int):=by have:=HLEN.out;unfold wrap64;omega
    replace p0:=eq_true p0;replace q0:=eq_true q0;clear hstep hlt hrd hl4 hi4 hl5 hi5 hs hin;go_upto_region 4 with (fail);obtain ⟨w1,hw1⟩:∃ w1,wr.alloc (Obj.cells #[Value.int IntKind.i64 s.f0,Value.int IntKind.i64 s.f1,Value.int IntKind.i64 s.f2,Value.int IntKind.i64 s.f3,Value.slice A4 s.f4.length c4,Value.slice A5 s.f5.length c5] 87)=w1:=⟨_,rfl⟩;rw [hw1];have hsr:W0.heap.size≤wr.heap.size:=nt_ HSZ.out HK.out.size
    have hk1:Keeps W0.heap.size X wr w1:=by rw [← hw1];exact Xo.keeps_alloc _ _ _ _ (fun k hk=>nl_ (HXL.out k hk) hsr)
    have aG:Xa (w1.heap[wr.heap.size]?=some (Obj.cells #[Value.int IntKind.i64 s.f0,Value.int IntKind.i64 s.f1,Value.int IntKind.i64 s.f2,Value.int IntKind.i64 s.f3,Value.slice A4 s.f4.length c4,Value.slice A5 s.f5.length c5] 87 (0,0))):=⟨by rw [← hw1];exact World.alloc_heap_new wr _⟩;obtain ⟨q,hq,hjq⟩:=HQ.out;have aN:Xa (J (pre ++ q) w1):=⟨HJ.out _ _ _ hjq (by rw [← hw1];exact (Below.refl _ _).alloc hsr _)⟩;have bB:=Xa.mk hq;have HA2:=Xa.mk (HA1.out.keep HBY.out HBW.out HX0.out hk1);have aX:=Xa.mk (HK.out.trans hk1);have HSr:=Xa.mk hsr;clear hq hjq HQ HK HA1 hk1 hsr hw1 hx0 hx1 hx2 hx3 hx4 hx5;obtain ⟨x,hx⟩:∃ x,x=Value.agg #[.int .i64 s.f0,.int .i64 s.f1,.int .i64 s.f2,.int .i64 s.f3,.slice A4 s.f4.length c4,.slice A5 s.f5.length c5,.int .i64 room]:=⟨_,rfl⟩;obtain ⟨yf,yt,ya,yb,hy,hR⟩:=HY.out (pre ++ q) x w1 aN.out;have y1:=HA2.out.y.cell
    have g0:w1.cell? ⟨wr.heap.size,0,none⟩=some (.int .i64 s.f0):=by simp [World.cell?,aG.out]
    have g1:w1.cell? ⟨wr.heap.size,1,none⟩=some (.int .i64 s.f1):=by simp [World.cell?,aG.out]
    have g2:w1.cell? ⟨wr.heap.size,2,none⟩=some (.int .i64 s.f2):=by simp [World.cell?,aG.out]
    have g3:w1.cell? ⟨wr.heap.size,3,none⟩=some (.int .i64 s.f3):=by simp [World.cell?,aG.out]
    have g4:w1.cell? ⟨wr.heap.size,4,none⟩=some (.slice A4 s.f4.length c4):=by simp [World.cell?,aG.out]
    have g5:w1.cell? ⟨wr.heap.size,5,none⟩=some (.slice A5 s.f5.length c5):=by simp [World.cell?,aG.out]
    rw [hx] at hy;refine (wpIn_wide (n:=0)).1 ?_
    gi_wp2
    refine ⟨rfl,hR.mono ?_⟩;clear hR hy;rintro e W3 (⟨rfl,aU,hk3⟩|⟨rfl,aU,hk3⟩)
    ·have aH:=Xa.mk (HA2.out.keep HBY.out HBW.out HX0.out hk3);have aP:=Xa.mk (show W0.heap.size≤W3.heap.size from nt_ (nt_ HSZ.out aX.out.size) hk3.size);have aD:=Xa.mk ((hk3.high wr.heap.size HSr.out (Array.getElem?_eq_some_iff.1 aG.out).1).trans aG.out);have aI:=Xa.mk (aX.out.trans hk3);have aO:=Xa.mk aU;clear aU hk3 y1 g0 g1 g2 g3 g4 g5 aG HA2 aN aX
     gi_wp2
     have k3:=aH.out.k.cell;have y3:=aH.out.y.cell
     have g0:W3.cell? ⟨wr.heap.size,0,none⟩=some (.int .i64 s.f0):=by simp [World.cell?,aD.out]
     have g1:W3.cell? ⟨wr.heap.size,1,none⟩=some (.int .i64 s.f1):=by simp [World.cell?,aD.out]
     have g4:W3.cell? ⟨wr.heap.size,4,none⟩=some (.slice A4 s.f4.length c4):=by simp [World.cell?,aD.out]
     have g5:W3.cell? ⟨wr.heap.size,5,none⟩=some (.slice A5 s.f5.length c5):=by simp [World.cell?,aD.out]
     by_cases k8:s.f0=8
     ·have bF:(s.f0 == 8)=true:=eb_ k8;clear k8;go_wp2_with (fail);refine (HIH.out s.f4 A4 c4 s.f1 _ W3 HIN.out.1 C4.out L4.out aH.out aP.out aO.out).mono ?_;rintro e W4 (⟨rfl,⟨q4,hq4,aB⟩,hk4⟩|⟨rfl,⟨q4,aB⟩,hk4⟩)
      ·have aR:=Xa.mk (nt_ aP.out hk4.size);have aK:=Xa.mk (aH.out.keep HBY.out HBW.out HX0.out hk4);have aQ:=Xa.mk ((hk4.high wr.heap.size HSr.out (Array.getElem?_eq_some_iff.1 aD.out).1).trans aD.out);have aA:=Xa.mk (aI.out.trans hk4);have aF:=Xa.mk aB;have aY:=Xa.mk hq4;clear aB hq4 hk4 aH aP aD aO aI y3 k3 g0 g1 g4 g5;have k4:=aK.out.k.cell
       have g5:W4.cell? ⟨wr.heap.size,5,none⟩=some (.slice A5 s.f5.length c5):=by simp [World.cell?,aQ.out]
       go_wp2_with (fail);refine (HIH.out s.f5 A5 c5 s.f1 _ W4 HIN.out.2 C5.out L5.out aK.out aR.out aF.out).mono ?_;rintro e W5 (⟨rfl,⟨q5,aV,aC⟩,hk5⟩|⟨rfl,⟨q5,aC⟩,hk5⟩)
       ·have aM:=Xa.mk (aA.out.trans hk5);have aL:=Xa.mk aC;have aZ:=Xa.mk aV;clear aC aV hk5 k4 g5 aK aR aQ aF aA;go_wp2
        go_roundw
        case measure=>have:=Hlt.out;simp [intOf];omega
        case rel=>exact ⟨i+1,sm_,⟨Hlt.out⟩,⟨q ++ [x] ++ q4 ++ q5,by rw [Hstep.out];simp [bB.out,aY.out,aZ.out];omega,by have:=aL.out;simpa using this⟩,aM⟩
       ·have aM:=Xa.mk (aA.out.trans hk5);have aL:=Xa.mk aC;clear aC hk5 k4 g5;go_wp2;go_ret
        exact .inr ⟨rfl,⟨_,aL.out⟩,aM.out⟩
      ·have aA:=Xa.mk (aI.out.trans hk4);have aF:=Xa.mk aB;clear aB hk4 y3 k3 g0 g1 g4 g5;go_wp2;go_ret
       exact .inr ⟨rfl,⟨_,aF.out⟩,aA.out⟩
     ·have bF:(s.f0 == 8)=false:=nb_ k8;clear k8;go_wp2_with (fail);refine (HIH.out s.f4 A4 c4 room _ W3 HIN.out.1 C4.out L4.out aH.out aP.out aO.out).mono ?_;rintro e W4 (⟨rfl,⟨q4,hq4,aB⟩,hk4⟩|⟨rfl,⟨q4,aB⟩,hk4⟩)
      ·have aR:=Xa.mk (nt_ aP.out hk4.size);have aK:=Xa.mk (aH.out.keep HBY.out HBW.out HX0.out hk4);have aQ:=Xa.mk ((hk4.high wr.heap.size HSr.out (Array.getElem?_eq_some_iff.1 aD.out).1).trans aD.out);have aA:=Xa.mk (aI.out.trans hk4);have aF:=Xa.mk aB;have aY:=Xa.mk hq4;clear aB hq4 hk4 aH aP aD aO aI y3 k3 g0 g1 g4 g5;have k4:=aK.out.k.cell
       have g5:W4.cell? ⟨wr.heap.size,5,none⟩=some (.slice A5 s.f5.length c5):=by simp [World.cell?,aQ.out]
       go_wp2_with (fail);refine (HIH.out s.f5 A5 c5 room _ W4 HIN.out.2 C5.out L5.out aK.out aR.out aF.out).mono ?_;rintro e W5 (⟨rfl,⟨q5,aV,aC⟩,hk5⟩|⟨rfl,⟨q5,aC⟩,hk5⟩)
       ·have aM:=Xa.mk (aA.out.trans hk5);have aL:=Xa.mk aC;have aZ:=Xa.mk aV;clear aC aV hk5 k4 g5 aK aR aQ aF aA;go_wp2
        go_roundw
        case measure=>have:=Hlt.out;simp [intOf];omega
        case rel=>exact ⟨i+1,sm_,⟨Hlt.out⟩,⟨q ++ [x] ++ q4 ++ q5,by rw [Hstep.out];simp [bB.out,aY.out,aZ.out];omega,by have:=aL.out;simpa using this⟩,aM⟩
       ·have aM:=Xa.mk (aA.out.trans hk5);have aL:=Xa.mk aC;clear aC hk5 k4 g5;go_wp2;go_ret
        exact .inr ⟨rfl,⟨_,aL.out⟩,aM.out⟩
      ·have aA:=Xa.mk (aI.out.trans hk4);have aF:=Xa.mk aB;clear aB hk4 y3 k3 g0 g1 g4 g5;go_wp2;go_ret
       exact .inr ⟨rfl,⟨_,aF.out⟩,aA.out⟩
    ·have aI:=Xa.mk (aX.out.trans hk3);have aO:=Xa.mk aU;clear aU hk3 y1 g0 g1 g2 g3 g4 g5
     gi_wp2
     go_wp2;go_ret
     exact .inr ⟨rfl,⟨_,aO.out⟩,aI.out⟩
   ·have hi:i=l.length:=by have:=Hi.out;omega
    subst hi;have bD:Xa (∃ q:List Value,q.length=Xo.cnt (d+1) l∧J (pre ++ q) wr):=⟨by have:=HQ.out;rwa [List.take_of_length_le (nr_ _)] at this⟩;clear hlt HQ Hi;go_wp2;go_ret
    exact .inl ⟨rfl,bD.out,HK.out⟩
theorem Xo.seq (d:Nat) (l:List Xo.T) (A:Option Addr) (c:Nat) (room:Int) (w wS:World) (hv:Xo.Valid d l) (hC:Kd.C k87 w A l.length l) (hlc:l.length≤c) (bl br:Nat) (hbl:wS.heap[bl]?=some (.cells #[.slice A l.length c] 64 (0,0))) (hbr:Xo.Box br room wS) (hB:Below w.heap.size w wS)
  (X:Nat→Prop) (hX0:∀ k,k<w.heap.size→X k) (hXl:∀ k,X k→k<wS.heap.size) :
  Seq Tryz.prog 104 #[.pointer (some ⟨bl,0,none⟩),.pointer (some ⟨br,0,none⟩)] (fun v:Value=>#[v]) X (fun ys=>ys.length=Xo.cnt d l) (fun _=>True) (fun _ _=>True) wS:=by
 intro lv J Jx W hW hJ hJx hY h0;obtain ⟨W2,hW2⟩:∃ W2,(W.alloc (.cells #[.func (.yield lv) #[] #[]] 164)).alloc (.cells #[.func (.func 105) #[] #[.pointer (some ⟨W.heap.size,0,none⟩),.pointer (some ⟨W.heap.size+1,0,none⟩)]] 165)=W2:=⟨_,rfl⟩
 have hb2:Below W.heap.size W W2:=by rw [← hW2];exact ((Below.refl _ W).alloc (nr_ _) _).alloc sm_ _
 have hs2:W2.heap.size=W.heap.size+2:=by rw [← hW2];simp
 have f1:Xo.FBox W.heap.size (.func (.yield lv) #[] #[]) 164 W2:=by
  unfold Xo.FBox;rw [← hW2];exact (Below.heap_alloc _ _ _ sm_).trans (World.alloc_heap_new W _)
 have f2:Xo.FBox (W.heap.size+1) (.func (.func 105) #[] #[.pointer (some ⟨W.heap.size,0,none⟩),.pointer (some ⟨W.heap.size+1,0,none⟩)]) 165 W2:=by
  unfold Xo.FBox
  have:=World.alloc_heap_new (W.alloc (.cells #[.func (.yield lv) #[] #[]] 164)) (.cells #[.func (.func 105) #[] #[.pointer (some ⟨W.heap.size,0,none⟩),.pointer (some ⟨W.heap.size+1,0,none⟩)]] 165)
  rw [World.size_alloc] at this;rw [← hW2];exact this
 have hat:Xo.At w W.heap.size (W.heap.size+1) lv W2:=⟨f1,f2,(hB.trans (hW.mono hB.size)).trans (hb2.mono (nt_ hB.size hW.size))⟩;have XW:=Lib.hid (Xo.walk w W lv W.heap.size (W.heap.size+1) J Jx X hX0 (fun k hk=>nl_ (hXl k hk) hW.size) (nr_ _) om_ hJ hJx (fun pre x W1 h=>hY pre x W1 h trivial) d l A c room [] W2 hv hC hlc hat om_ (hJ _ _ _ h0 hb2))
 have z1:W.cell? ⟨bl,0,none⟩=some (.slice A l.length c):=by
  have:W.heap[bl]?=some (.cells #[.slice A l.length c] 64 (0,0)):=(hW.block bl (Array.getElem?_eq_some_iff.1 hbl).1).trans hbl
  simp [World.cell?,this]
 have z2:W.cell? ⟨br,0,none⟩=some (.int .i64 room):=(hbr.below hW).cell;have x1:∀ o,(W.alloc o).cell? ⟨bl,0,none⟩=some (.slice A l.length c):=fun o=>cell_later ((Below.refl _ _).alloc (nr_ _) o) z1;have x2:∀ o,(W.alloc o).cell? ⟨br,0,none⟩=some (.int .i64 room):=fun o=>cell_later ((Below.refl _ _).alloc (nr_ _) o) z2;have y1:∀ o o',((W.alloc o).alloc o').cell? ⟨bl,0,none⟩=some (.slice A l.length c):=fun o o'=>cell_later (((Below.refl _ _).alloc (nr_ _) o).alloc sm_ o') z1;have y2:∀ o o',((W.alloc o).alloc o').cell? ⟨br,0,none⟩=some (.int .i64 room):=fun o o'=>cell_later (((Below.refl _ _).alloc (nr_ _) o).alloc sm_ o') z2;rw [← hW2] at XW;clear hv hC hlc hbl hbr hB hX0 hXl hW hJ hJx hY h0 hb2 hs2 f1 f2 hat hW2;go_enter Tryz.func104,Tryz.ntmps104;go_wp2_with (fail);refine (XW.out).mono ?_;clear XW x1 x2 y1 y2 z1 z2;rintro e w1 (⟨rfl,⟨q,hq,hj⟩,hk⟩|⟨rfl,⟨q,hj⟩,hk⟩)
 ·have aN:=Xa.mk hj;have HQ:=Xa.mk hq;clear hj hq hk;go_wp2;go_end0;exact ⟨⟨_,rfl⟩,.inl ⟨_,HQ.out,by have:=aN.out;simpa using this⟩⟩
 ·have aN:=Xa.mk hj;clear hj hk;go_wp2;go_end0;exact ⟨⟨_,rfl⟩,.inr ⟨_,trivial,aN.out⟩⟩
theorem Xo.all (a:Option Addr) (len cap:Nat) (room:Int) (w:World):Calls Tryz.prog 97 #[.slice a len cap,.int .i64 room] w fun e w'=>e=.returned (.func (.func 104) #[] #[.pointer (some ⟨w.heap.size,0,none⟩),.pointer (some ⟨w.heap.size+1,0,none⟩)])∧w'=(w.alloc (.cells #[.slice a len cap] 64)).alloc (.cells #[.int .i64 room] 3):=by
 go_enter Tryz.func97,Tryz.ntmps97;go_wp2;go_ret
 exact ⟨rfl,rfl⟩
structure Xo.I_ (w:World) (B:Nat) (pre:List Value) (W:World):Prop where
 bel:Below w.heap.size w W
 box:W.heap[B]?=some (.cells #[.int .i64 (wrap64 (pre.length:Int))] 3 (0,0))
theorem Xo.I_.ab {w wS:World} {B:Nat} (hB:B<wS.heap.size) (hw:w.heap.size≤wS.heap.size):Ab wS.heap.size (Xo.I_ w B):=fun s W W' h hb=>⟨h.bel.trans (hb.mono hw),(hb.block B hB).trans h.box⟩
def impl_StmtsOk.f (l0:List (S87)):Option Bool:=some (l0.all (fun t=>Yd.st 3 t (-1)) && decide (wrap64 (Xo.cnt 3 l0:Int)≤14))
attribute [local go_sem] Oper.semAt_some
theorem impl_StmtsOk.calls (A0:Option Addr) (c0:Nat) (l0:List (S87)) (r:Bool) (w:World) (hr0:Kd.C k87 w A0 l0.length l0) (hc0:l0.length≤c0) (h:impl_StmtsOk.f l0=some r) :
  Calls Tryz.prog 82 #[.slice A0 l0.length c0] w fun e w'=>e=.returned (.bool r)∧Below w.heap.size w w':=by
 have hr:(l0.all (fun t=>Yd.st 3 t (-1)) && decide (wrap64 (Xo.cnt 3 l0:Int)≤14))=r:=sj_ h;have bE:=Xa.mk hr0;have bC:=Xa.mk hc0;have HR:=Xa.mk hr;have XL:=Lib.hid (show Calls Tryz.prog 96 #[.slice A0 l0.length c0,.int .i64 3,.int .i64 (-1)] w fun x W'=>x=.returned (.bool (l0.all (fun t=>Yd.st 3 t (-1))))∧Below w.heap.size w W' from Xo.lists 3 (nr_ _) l0 A0 c0 (-1) w hr0 hc0);have HV:Xa (l0.all (fun t=>Yd.st 3 t (-1))=true→Xo.Valid 3 l0):=⟨fun h=>⟨_,h⟩⟩;clear h hr0 hc0 hr;generalize l0.all (fun t=>Yd.st 3 t (-1))=ok at *;refine (callsIn_wide (n:=1)).1 (callsIn_of_wp_marks (F:=Fence.wide) Tryz.func82 rfl trivial ?_);simp only [Tryz.ntmps82,List.size_toArray,List.length_cons,List.length_nil,Nat.reduceAdd,Nat.reduceSub,Array.replicate_succ,Array.replicate_zero,List.push_toArray,List.append_toArray,List.nil_append,List.cons_append];refine wpIn_wide.2 ?_;go_wp2_with (fail);refine XL.out.mono ?_;rintro e w1 ⟨rfl,hb1⟩;have HB1:=Xa.mk hb1;clear XL hb1
 cases ok
 ·obtain rfl:false=r:=HR.out;go_wp2;exact ⟨_,results_tmp rfl _ _ _,rfl,HB1.out⟩
 have hv:=HV.out rfl;have HR2:Xa (decide (wrap64 (Xo.cnt 3 l0:Int)≤14)=r):=⟨by simpa using HR.out⟩;clear HV HR;go_wp2_with (go_at_call 97;refine (Xo.all _ _ _ _ _).mono ?_;rintro e w' ⟨rfl,rfl⟩);obtain ⟨wS,hwS⟩:∃ wS,(((w1.alloc (.cells #[.int .i64 0] 3)).alloc (.cells #[.slice A0 l0.length c0] 64)).alloc (.cells #[.int .i64 (-1)] 3))=wS:=⟨_,rfl⟩;have hs1:w.heap.size≤w1.heap.size:=HB1.out.size
 have hsS:wS.heap.size=w1.heap.size+3:=by rw [← hwS];simp
 have hbS:Below w1.heap.size w1 wS:=by rw [← hwS];exact (((Below.refl _ w1).alloc (nr_ _) _).alloc sm_ _).alloc (by simp <;> omega) _
 have hBm:wS.heap[w1.heap.size]?=some (.cells #[.int .i64 (wrap64 ((([]:List Value).length:Nat):Int))] 3 (0,0)):=by
  rw [show wrap64 ((([]:List Value).length:Nat):Int)=0 from by unfold wrap64;simp,← hwS];exact (Below.heap_alloc _ _ _ (by simp <;> omega)).trans ((Below.heap_alloc _ _ _ sm_).trans (World.alloc_heap_new w1 _))
 have hBl:wS.heap[w1.heap.size+1]?=some (.cells #[.slice A0 l0.length c0] 64 (0,0)):=by
  have:=World.alloc_heap_new (w1.alloc (.cells #[.int .i64 0] 3)) (.cells #[.slice A0 l0.length c0] 64)
  rw [World.size_alloc] at this;rw [← hwS];exact (Below.heap_alloc _ _ _ sm_).trans this
 have hBr:Xo.Box (w1.heap.size+2) (-1) wS:=by
  have:=World.alloc_heap_new ((w1.alloc (.cells #[.int .i64 0] 3)).alloc (.cells #[.slice A0 l0.length c0] 64)) (.cells #[.int .i64 (-1)] 3)
  rw [World.size_alloc,World.size_alloc] at this;unfold Xo.Box;rw [← hwS];exact this
 have hI0:Xo.I_ w w1.heap.size [] wS:=⟨HB1.out.trans (hbS.mono hs1),hBm⟩;rw [hwS];clear hwS
 refine range_of (gf:=104) (lb:=#[.pointer (some ⟨w1.heap.size+1,0,none⟩),.pointer (some ⟨w1.heap.size+2,0,none⟩)]) rfl (Go.Proofs.enters_of Tryz.func104 kr_ rfl)
  (Xo.seq 3 l0 A0 c0 (-1) w wS hv bE.out bC.out (w1.heap.size+1) (w1.heap.size+2) hBl hBr (HB1.out.trans (hbS.mono hs1)) (fun q=>q<w.heap.size) (fun q hq=>hq) (fun q hq=>om_))
  (fun q hq=>om_) (fun _=>rfl) (Xo.I_ w w1.heap.size) (fun _ _ _=>False) (Xo.I_.ab om_ om_) (fun _ _ _ _ h _=>h) hI0
  (fun x=>{ tmps:=#[.slice A0 l0.length c0,undef,.bool false,.pointer (some ⟨w1.heap.size,0,none⟩),.slice A0 l0.length c0,.bool true,.bool false,.slice A0 l0.length c0,.func (.func 104) #[] #[.pointer (some ⟨w1.heap.size+1,0,none⟩),.pointer (some ⟨w1.heap.size+2,0,none⟩)],x,undef,undef,undef,undef],defers:=[] }) ?assign ?body ?done ?stop
 case assign=>
  intro l x W K hK
  gi_wp2
  simpa using hK
 case body=>
  intro l pre x W hl hrec hsz hI hok;have HIr:=Xa.mk hI;have HSZ:=Xa.mk hsz
  have hbo:W.cell? ⟨w1.heap.size,0,none⟩=some (.int .i64 (wrap64 (pre.length:Int))):=by simp [World.cell?,hI.box]
  have hfo:W.frozen? ⟨w1.heap.size,0,none⟩=false:=by simp [World.frozen?,hI.box]
  have HBX:=Xa.mk hI.box;clear hI hok hsz hl hrec
  gi_wp2
  have hw2:wrap64 (wrap64 (pre.length:Int)+1)=wrap64 ((pre ++ [x]).length:Int):=by rw [List.length_append];simp only [List.length_singleton];unfold wrap64;omega
  rw [hw2];have hst:∀ q,q≠w1.heap.size→(W.setCell ⟨w1.heap.size,0,none⟩ (.int .i64 (wrap64 ((pre ++ [x]).length:Int)))).heap[q]?=W.heap[q]?:=fun q hq=>Below.heap_setCell W _ _ q hq;have hsz:=HSZ.out;refine ⟨⟨sm_,fun q hq _=>hst q om_,fun q hq=>hst q om_,rfl,rfl,rfl⟩,?_,?_⟩
  ·exact HIr.out.bel.trans ⟨rfl,rfl,rfl,sm_,fun k hk=>hst k om_⟩
  ·simp [World.setCell,Array.getElem?_modify,HBX.out]
 case done=>
  intro D ys W hD hys hI hK
  have hbo:W.cell? ⟨w1.heap.size,0,none⟩=some (.int .i64 (wrap64 (ys.length:Int))):=by simp [World.cell?,hI.box]
  rw [hys] at hbo;have HI:=Xa.mk hI;have HK:=Xa.mk hK;have HD:=Xa.mk hD;clear hI hK hD;go_wp2;have hd:=HD.out;refine ⟨sm_,.inl ⟨_,_,rfl,run_takeDeferred HK.out,?_⟩⟩;exact ⟨_,results_tmp (t:=2) rfl _ _ _,congrArg (fun b=>Ending.returned (Value.bool b)) HR2.out,HI.out.bel.trans (putObj_below om_)⟩
 case stop=>
  intro D c pre W _ _ h _;exact h.elim
end
end Go.Proofs.YtlhogkfmdnpmkaaGreat.GMarks
