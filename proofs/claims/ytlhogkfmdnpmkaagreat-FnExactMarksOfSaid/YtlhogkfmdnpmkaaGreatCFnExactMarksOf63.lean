import Derived.Test.YtlhogkfmdnpmkaaGreatCFnExactMarksOf62
import Derived.Laws.CopyOwn
import Derived.Lib.Hide
set_option linter.unusedVariables false
set_option linter.unusedSimpArgs false
set_option maxRecDepth 100000
namespace Go.Proofs.YtlhogkfmdnpmkaaGreat.StmtOk
open RowKit GMarks YtlhogkfmdnpmkaaGreatW.PrintWords YtlhogkfmdnpmkaaGreatW.PrintLast YtlhogkfmdnpmkaaGreatW.PrintMore
attribute [local go_sem] Ua Ud Uu Ux Zo Zp Ub Ue
section
open HMap SForms HStep
abbrev Yd.T:=S87
def Yd.num (k n:Int):Bool:=if k=1 then decide (-999≤n) && decide (n≤999) else if k=2 then decide (1≤n) && decide (n≤5) else decide (n=0)
def Yd.inr (k a room:Int):Int:=if k=8 then a else room
def Yd.tail (ok:Bool) (la lb:Int) (hasB hasE:Bool) (D:Int) (ra rb rn:Bool) (k:Int) (n4 n5:Nat) (room:Int) (p4 p5:Bool):Bool:=
 ok && (!decide (D<1) && (ra && (rb && (rn && (!(!hasB && decide (0<n4)) && (!(!hasE && decide (0<n5)) && ((if k=8 then decide (room = -1) else if k=9 then !decide (room = -1) else true) && (p4 && p5))))))))
def Yd.st:Nat→Yd.T→Int→Bool
 |0,_,_=>false
 |d+1,s,room=>Yd.tail (Yg s.f0).1 (Yg s.f0).2.a (Yg s.f0).2.b (Yg s.f0).2.body (Yg s.f0).2.orElse ((d+1:Nat):Int) (fitsF s.f1 (Yg s.f0).2.a) (fitsF s.f2 (Yg s.f0).2.b) (Yd.num s.f0 s.f3) s.f0 s.f4.length s.f5.length room
   (s.f4.all (fun t=>Yd.st d t (Yd.inr s.f0 s.f1 room))) (s.f5.all (fun t=>Yd.st d t (Yd.inr s.f0 s.f1 room)))
theorem Yd.fits_any (a l:Int) (w:World):Calls Tryz.prog 110 #[.int .i64 a,.int .i64 l] w fun e w'=>e=.returned (.bool (fitsF a l))∧Below w.heap.size w w':=
 (impl_fits.calls a l (fitsF a l) w (by
  unfold impl_fits.f fitsF
  repeat' split
  all_goals first|(simp_all;done)|(simp_all;omega))).mono (fun e w' h=>⟨h.1,by obtain ⟨n,rfl⟩:=h.2;exact Xg (Below.refl _ _) _⟩)
theorem Yd.num_is (k a b n:Int) (l4 l5:List Yd.T):impl_Stmt_numberOk.f k a b n l4 l5=some (Yd.num k n):=by
 unfold impl_Stmt_numberOk.f Yd.num;split
 ·rename_i h
  simp only [impl_NumOk.f]
  repeat' split
  all_goals first|(simp_all;done)|(simp_all;omega)
 ·split
  ·simp only [impl_isOp.f]
   repeat' split
   all_goals first|(simp_all;done)|(simp_all;omega)
  ·congr 1
structure Yd.S (w:World) (k a b n:Int) (A4:Option Addr) (n4 c4:Nat) (A5:Option Addr) (n5 c5:Nat) (W:World):Prop where
 box:W.heap[w.heap.size]?=some (.cells #[.int .i64 k,.int .i64 a,.int .i64 b,.int .i64 n,.slice A4 n4 c4,.slice A5 n5 c5] 87 (0,0))
 bel:Below w.heap.size w W
 size:w.heap.size<W.heap.size
section
variable {w W W1:World} {k a b n:Int} {A4:Option Addr} {n4 c4:Nat} {A5:Option Addr} {n5 c5:Nat}
theorem Yd.S.below (h:Yd.S w k a b n A4 n4 c4 A5 n5 c5 W) (hb:Below W.heap.size W W1):Yd.S w k a b n A4 n4 c4 A5 n5 c5 W1:=⟨(hb.block _ h.size).trans h.box,Xi h.bel hb,nl_ h.size hb.size⟩
theorem Yd.S.alloc (h:Yd.S w k a b n A4 n4 c4 A5 n5 c5 W) (o:Obj):Yd.S w k a b n A4 n4 c4 A5 n5 c5 (W.alloc o):=h.below ((Below.refl _ _).alloc (nr_ _) o)
theorem Yd.S.cell0 (h:Yd.S w k a b n A4 n4 c4 A5 n5 c5 W):W.cell? ⟨w.heap.size,0,none⟩=some (.int .i64 k):=by simp [World.cell?,h.box]
end
theorem Yd.S.start (w:World) (k a b n:Int) (A4:Option Addr) (n4 c4:Nat) (A5:Option Addr) (n5 c5:Nat):Yd.S w k a b n A4 n4 c4 A5 n5 c5 (w.alloc (.cells #[.int .i64 k,.int .i64 a,.int .i64 b,.int .i64 n,.slice A4 n4 c4,.slice A5 n5 c5] 87)).drew:=
 ⟨World.alloc_heap_new w _,Xh ((Below.refl _ _).alloc (nr_ _) _),sm_⟩
structure Yd.Blk (w W:World) (g:Nat) (cs:Array Value):Prop where
 blk:W.heap[g]?=some (.cells cs 170 (0,0))
 ge:w.heap.size≤g
theorem Yd.Blk.new (w W:World) (cs:Array Value) (h:w.heap.size≤W.heap.size):Yd.Blk w (W.alloc (.cells cs 170)) W.heap.size cs:=⟨World.alloc_heap_new W _,h⟩
theorem Yd.Blk.below {w W W1:World} {g:Nat} {cs:Array Value} (h:Yd.Blk w W g cs) (hb:Below W.heap.size W W1):Yd.Blk w W1 g cs:=⟨(hb.block _ (Array.getElem?_eq_some_iff.1 h.blk).1).trans h.blk,h.ge⟩
theorem Yd.Blk.set {w W:World} {g:Nat} {cs:Array Value} (h:Yd.Blk w W g cs) (cs':Array Value):Yd.Blk w (W.setRow g cs') g cs':=⟨heap_setRow h.blk,h.ge⟩
theorem Yd.S.setRow {w W:World} {k a b n:Int} {A4:Option Addr} {n4 c4:Nat} {A5:Option Addr} {n5 c5:Nat} {g:Nat} {cs cs0:Array Value} (h:Yd.S w k a b n A4 n4 c4 A5 n5 c5 W) (hg:Yd.Blk w W g cs0):Yd.S w k a b n A4 n4 c4 A5 n5 c5 (W.setRow g cs):=by
 have hne:w.heap.size≠g:=by
  rintro rfl
  have:=h.box.symm.trans hg.blk
  injection this with this;injection this with _ this;exact absurd this de_
 exact ⟨(setRow_other _ _ _ _ hne).trans h.box,below_setRow h.bel hg.ge cs,by simp [World.setRow,h.size]⟩
structure Yd.M (w:World) (g:Nat) (word:ByteArray) (la lb:Int) (hasB hasE:Bool) (k a b n:Int) (A4:Option Addr) (n4 c4:Nat) (A5:Option Addr) (n5 c5:Nat) (W:World):Prop where
 blk:W.heap[g]?=some (.cells #[.string word,.int .i64 la,.int .i64 lb,.bool hasB,.bool hasE] 170 (0,0))
 box:W.heap[w.heap.size]?=some (.cells #[.int .i64 k,.int .i64 a,.int .i64 b,.int .i64 n,.slice A4 n4 c4,.slice A5 n5 c5] 87 (0,0))
 bel:Below w.heap.size w W
section
variable {w W W1:World} {g:Nat} {word:ByteArray} {la lb:Int} {hasB hasE:Bool} {k a b n:Int} {A4:Option Addr} {n4 c4:Nat} {A5:Option Addr} {n5 c5:Nat}
theorem Yd.M.below (h:Yd.M w g word la lb hasB hasE k a b n A4 n4 c4 A5 n5 c5 W) (hb:Below W.heap.size W W1):Yd.M w g word la lb hasB hasE k a b n A4 n4 c4 A5 n5 c5 W1:=
 ⟨(hb.block _ (Array.getElem?_eq_some_iff.1 h.blk).1).trans h.blk,(hb.block _ (Array.getElem?_eq_some_iff.1 h.box).1).trans h.box,Xi h.bel hb⟩
theorem Yd.M.cells (h:Yd.M w g word la lb hasB hasE k a b n A4 n4 c4 A5 n5 c5 W):W.cell? ⟨g,1,none⟩=some (.int .i64 la)∧W.cell? ⟨g,2,none⟩=some (.int .i64 lb)∧W.cell? ⟨g,3,none⟩=some (.bool hasB)∧W.cell? ⟨g,4,none⟩=some (.bool hasE)∧
  W.cell? ⟨w.heap.size,0,none⟩=some (.int .i64 k)∧W.cell? ⟨w.heap.size,1,none⟩=some (.int .i64 a)∧W.cell? ⟨w.heap.size,2,none⟩=some (.int .i64 b)∧W.cell? ⟨w.heap.size,3,none⟩=some (.int .i64 n)∧
  W.cell? ⟨w.heap.size,4,none⟩=some (.slice A4 n4 c4)∧W.cell? ⟨w.heap.size,5,none⟩=some (.slice A5 n5 c5):=by
 simp [World.cell?,h.blk,h.box]
end
def Yd.Mid (w:World) (k a b n:Int) (A4:Option Addr) (n4 c4:Nat) (A5:Option Addr) (n5 c5:Nat) (v7 v8:Value) (wc:World):Prop:=
 ∃ g,v7=.pointer (some ⟨g,0,none⟩)∧v8=.bool (Yg k).1∧Yd.M w g (Yg k).2.word (Yg k).2.a (Yg k).2.b (Yg k).2.body (Yg k).2.orElse k a b n A4 n4 c4 A5 n5 c5 wc
set_option maxHeartbeats 16000000 in
theorem Yd.walk (k a b n:Int) (A4:Option Addr) (n4 c4:Nat) (A5:Option Addr) (n5 c5:Nat) (l4 l5:List Yd.T) (aJ:l4.length=n4) (aK:l5.length=n5) (D room:Int) (p4 p5 r:Bool) (w:World)
  (hr:Yd.tail (Yg k).1 (Yg k).2.a (Yg k).2.b (Yg k).2.body (Yg k).2.orElse D (fitsF a (Yg k).2.a) (fitsF b (Yg k).2.b) (Yd.num k n) k n4 n5 room p4 p5=r)
  (aH:Kd.C k87 w A4 n4 l4) (aI:Kd.C k87 w A5 n5 l5) (hl4:n4≤c4) (hl5:n5≤c5)
  (hL4:¬ D<1→∀ W,Kd.C k87 W A4 n4 l4→Calls Tryz.prog 96 #[.slice A4 n4 c4,.int .i64 (wrap64 (D - 1)),.int .i64 (Yd.inr k a room)] W fun e w'=>e=.returned (.bool p4)∧Below W.heap.size W w')
  (hL5:¬ D<1→∀ W,Kd.C k87 W A5 n5 l5→Calls Tryz.prog 96 #[.slice A5 n5 c5,.int .i64 (wrap64 (D - 1)),.int .i64 (Yd.inr k a room)] W fun e w'=>e=.returned (.bool p5)∧Below W.heap.size W w') :
  Calls Tryz.prog 103 #[.agg #[.int .i64 k,.int .i64 a,.int .i64 b,.int .i64 n,.slice A4 n4 c4,.slice A5 n5 c5],.int .i64 D,.int .i64 room] w fun e w'=>e=.returned (.bool r)∧Below w.heap.size w w':=by
 have HR:=Xa.mk hr;have aD:=Xa.mk aH;have aF:=Xa.mk aI;have aB:=Lib.hid hL4;have aC:=Lib.hid hL5
 have HN:Xa (∀ W,Kd.C k87 W A4 n4 l4→Kd.C k87 W A5 n5 l5→Calls Tryz.prog 111 #[.agg #[.int .i64 k,.int .i64 a,.int .i64 b,.int .i64 n,.slice A4 n4 c4,.slice A5 n5 c5]] W fun e w'=>e=.returned (.bool (Yd.num k n))∧Below W.heap.size W w'):=⟨fun W h4 h5=>by
  subst aJ aK;exact impl_Stmt_numberOk.calls k a b n A4 c4 l4 A5 c5 l5 _ W h4 hl4 h5 hl5 (Yd.num_is ..)⟩
 clear hr aH aI hL4 hL5 aJ aK hl4 hl5;go_enter Tryz.func103,Tryz.ntmps103;go_upto_region 1 with (fail)
 go_cut [7,8] (fun v7 v8 wc=>Yd.Mid w k a b n A4 n4 c4 A5 n5 c5 v7 v8 wc)
 case first=>
  refine Ul (n:=10) (S:=Yd.S w k a b n A4 n4 c4 A5 n5 c5) (ds:=[]) #[false,false,false,false,false,false,false,false,false,false] kr_ rfl rl1_ (Yd.S.start w k a b n A4 n4 c4 A5 n5 c5) (fun hHeld=>?_);refine pu_' 1 (some 11) ?_;refine tk_' 2 (some 12) rfl hHeld (by rintro w' s0;have c0:=s0.cell0;clear s0;go_simp;with_reducible rfl) ?_;refine two_ (i:=0) (j:=7) (Ni:=some 10) (Nj:=some 7) #[true,true,true,false,false,false,false,false,false,false] #[false,true,true,false,false,false,false,true,false,false] rfl rfl rfl rfl kr_ de_ de_ (fun K hK=>?_) (fun K hK=>?_)
  ·skip;refine Vd Tryz.func109 kr_ rfl #[] rl1_ rfl rfl (by first|done|rfl|simp) ?_;refine (forms_calls _).mono ?_;rintro e w1 ⟨b_,rfl,hm,hb,hB1⟩;refine ⟨_,rfl,?_⟩;refine hK.out _ _ (hHeld.below hB1) (fun hHeld=>?_);clear hK K;refine no_ ?_;refine two_ (i:=3) (j:=7) (Ni:=some 13) (Nj:=some 7) #[true,true,true,true,false,false,false,false,false,false] #[true,true,true,false,false,false,false,true,false,false] rfl rfl rfl rfl kr_ de_ de_ (fun K hK=>?_) (fun K hK=>?_)
   ·skip;refine lookup_ rfl rfl _ _ _ _ rfl _ _ _ rfl rfl (look_run hm k) ?_;refine hK.out _ _ hHeld (fun hHeld=>?_);clear hK K;refine no_ ?_;refine pu_' 4 (some 9) ?_;refine pu_' 5 (some 14) ?_;refine pu_' 6 (some 15) ?_;refine re_' 7 (some 7) fun K hK=>?_;refine alloc_ 170 #[.string ⟨#[]⟩,.int .i64 0,.int .i64 0,.bool false,.bool false] rfl rfl rfl (fun W=>kr_) ?_;have hg:=Yd.Blk.new _ _ #[.string ⟨#[]⟩,.int .i64 0,.int .i64 0,.bool false,.bool false] hHeld.bel.size;have hm:=hm.alloc (.cells #[.string ⟨#[]⟩,.int .i64 0,.int .i64 0,.bool false,.bool false] 170);refine hK.out _ _ (hHeld.alloc _) (fun hHeld=>?_);clear hK K;refine no_ ?_;refine re_' 8 none fun K hK=>?_;refine store_row_ rfl rfl 170 _ _ rfl _ #[.string (Yg k).2.word,.int .i64 (Yg k).2.a,.int .i64 (Yg k).2.b,.bool (Yg k).2.body,.bool (Yg k).2.orElse] rfl rfl 170 _ hg.blk kr_ rfl (by simp [Value.oneCell']) ?_;have hS:=hHeld.setRow hg (cs:=#[.string (Yg k).2.word,.int .i64 (Yg k).2.a,.int .i64 (Yg k).2.b,.bool (Yg k).2.body,.bool (Yg k).2.orElse]);have hg:=hg.set #[.string (Yg k).2.word,.int .i64 (Yg k).2.a,.int .i64 (Yg k).2.b,.bool (Yg k).2.body,.bool (Yg k).2.orElse];refine hK.out _ _ hS (fun hHeld=>?_);clear hK K;refine pu_' 9 (some 8) ?_;refine Uz kr_ ?_
    try go_wp2
    go_meet
    case rel=>exact ⟨_,rfl,rfl,by first|exact ⟨hg.blk,hHeld.box,hHeld.bel⟩|(have h_:=Yd.M.mk hg.blk hHeld.box hHeld.bel;simpa using h_)⟩
   ·skip;refine alloc_ 170 #[.string ⟨#[]⟩,.int .i64 0,.int .i64 0,.bool false,.bool false] rfl rfl rfl (fun W=>kr_) ?_;have hg:=Yd.Blk.new _ _ #[.string ⟨#[]⟩,.int .i64 0,.int .i64 0,.bool false,.bool false] hHeld.bel.size;have hm:=hm.alloc (.cells #[.string ⟨#[]⟩,.int .i64 0,.int .i64 0,.bool false,.bool false] 170);refine hK.out _ _ (hHeld.alloc _) (fun hHeld=>?_);clear hK K;refine no_ ?_;refine re_' 3 (some 13) fun K hK=>?_;refine lookup_ rfl rfl _ _ _ _ rfl _ _ _ rfl rfl (look_run hm k) ?_;refine hK.out _ _ hHeld (fun hHeld=>?_);clear hK K;refine no_ ?_;refine pu_' 4 (some 9) ?_;refine pu_' 5 (some 14) ?_;refine pu_' 6 (some 15) ?_;refine re_' 8 none fun K hK=>?_;refine store_row_ rfl rfl 170 _ _ rfl _ #[.string (Yg k).2.word,.int .i64 (Yg k).2.a,.int .i64 (Yg k).2.b,.bool (Yg k).2.body,.bool (Yg k).2.orElse] rfl rfl 170 _ hg.blk kr_ rfl (by simp [Value.oneCell']) ?_;have hS:=hHeld.setRow hg (cs:=#[.string (Yg k).2.word,.int .i64 (Yg k).2.a,.int .i64 (Yg k).2.b,.bool (Yg k).2.body,.bool (Yg k).2.orElse]);have hg:=hg.set #[.string (Yg k).2.word,.int .i64 (Yg k).2.a,.int .i64 (Yg k).2.b,.bool (Yg k).2.body,.bool (Yg k).2.orElse];refine hK.out _ _ hS (fun hHeld=>?_);clear hK K;refine pu_' 9 (some 8) ?_;refine Uz kr_ ?_
    try go_wp2
    go_meet
    case rel=>exact ⟨_,rfl,rfl,by first|exact ⟨hg.blk,hHeld.box,hHeld.bel⟩|(have h_:=Yd.M.mk hg.blk hHeld.box hHeld.bel;simpa using h_)⟩
  ·skip;refine alloc_ 170 #[.string ⟨#[]⟩,.int .i64 0,.int .i64 0,.bool false,.bool false] rfl rfl rfl (fun W=>kr_) ?_;have hg:=Yd.Blk.new _ _ #[.string ⟨#[]⟩,.int .i64 0,.int .i64 0,.bool false,.bool false] hHeld.bel.size;refine hK.out _ _ (hHeld.alloc _) (fun hHeld=>?_);clear hK K;refine no_ ?_;refine re_' 0 (some 10) fun K hK=>?_;refine Vd Tryz.func109 kr_ rfl #[] rl1_ rfl rfl (by first|done|rfl|simp) ?_;refine (forms_calls _).mono ?_;rintro e w1 ⟨b_,rfl,hm,hb,hB1⟩;refine ⟨_,rfl,?_⟩;have hg:=hg.below hB1;refine hK.out _ _ (hHeld.below hB1) (fun hHeld=>?_);clear hK K;refine no_ ?_;refine re_' 3 (some 13) fun K hK=>?_;refine lookup_ rfl rfl _ _ _ _ rfl _ _ _ rfl rfl (look_run hm k) ?_;refine hK.out _ _ hHeld (fun hHeld=>?_);clear hK K;refine no_ ?_;refine pu_' 4 (some 9) ?_;refine pu_' 5 (some 14) ?_;refine pu_' 6 (some 15) ?_;refine re_' 8 none fun K hK=>?_;refine store_row_ rfl rfl 170 _ _ rfl _ #[.string (Yg k).2.word,.int .i64 (Yg k).2.a,.int .i64 (Yg k).2.b,.bool (Yg k).2.body,.bool (Yg k).2.orElse] rfl rfl 170 _ hg.blk kr_ rfl (by simp [Value.oneCell']) ?_;have hS:=hHeld.setRow hg (cs:=#[.string (Yg k).2.word,.int .i64 (Yg k).2.a,.int .i64 (Yg k).2.b,.bool (Yg k).2.body,.bool (Yg k).2.orElse]);have hg:=hg.set #[.string (Yg k).2.word,.int .i64 (Yg k).2.a,.int .i64 (Yg k).2.b,.bool (Yg k).2.body,.bool (Yg k).2.orElse];refine hK.out _ _ hS (fun hHeld=>?_);clear hK K;refine pu_' 9 (some 8) ?_;refine Uz kr_ ?_
   try go_wp2
   go_meet
   case rel=>exact ⟨_,rfl,rfl,by first|exact ⟨hg.blk,hHeld.box,hHeld.bel⟩|(have h_:=Yd.M.mk hg.blk hHeld.box hHeld.bel;simpa using h_)⟩
 case rest=>
  obtain ⟨g,rfl,rfl,hM⟩:=hcut;have HM:=Xa.mk hM;clear hM;obtain ⟨g1,g2,g3,g4,b0,b1,b2,b3,b4,b5⟩:=HM.out.cells;generalize (Yg k).2.word=word at *;generalize (Yg k).1=ok at *;generalize (Yg k).2.a=la at *;generalize (Yg k).2.b=lb at *;generalize (Yg k).2.body=hasB at *;generalize (Yg k).2.orElse=hasE at *;have fa:=Yd.fits_any a la;have fb:=Yd.fits_any b lb;generalize fitsF a la=ra at *;generalize fitsF b lb=rb at *;generalize Yd.num k n=rn at *;have Fa:=Lib.hid fa;have Fb:=Lib.hid fb;clear fa fb
  cases ok
  ·obtain rfl:r=false:=by rw [← HR.out];simp [Yd.tail, *]
   go_wp2;go_ret
   exact ⟨rfl,by repeat (first|exact HM.out.bel|apply Xh|apply Xg)⟩
  by_cases dl:D<1
  ·have dlb:decide (D<1)=true:=dt_ dl
   obtain rfl:r=false:=by rw [← HR.out];simp [Yd.tail, *]
   go_wp2;go_ret
   exact ⟨rfl,by repeat (first|exact HM.out.bel|apply Xh|apply Xg)⟩
  replace aB:=Lib.hid (aB.out dl);replace aC:=Lib.hid (aC.out dl);have dlb:decide (D<1)=false:=df_ dl;go_wp2_with (fail);refine (Fa.out _).mono ?_;rintro e w1 ⟨rfl,aA⟩;replace HM:=Xa.mk (HM.out.below (Xi (by repeat (first|exact Below.refl _ _|apply Xh|apply Xg)) aA));clear g1 g2 g3 g4 b0 b1 b2 b3 b4 b5 aA;obtain ⟨g1,g2,g3,g4,b0,b1,b2,b3,b4,b5⟩:=HM.out.cells
  cases ra
  ·obtain rfl:r=false:=by rw [← HR.out];simp [Yd.tail, *]
   go_wp2;go_ret
   exact ⟨rfl,by repeat (first|exact HM.out.bel|apply Xh|apply Xg)⟩
  go_wp2_with (fail);refine (Fb.out _).mono ?_;rintro e w2 ⟨rfl,aA⟩;replace HM:=Xa.mk (HM.out.below (Xi (by repeat (first|exact Below.refl _ _|apply Xh|apply Xg)) aA));clear g1 g2 g3 g4 b0 b1 b2 b3 b4 b5 aA;obtain ⟨g1,g2,g3,g4,b0,b1,b2,b3,b4,b5⟩:=HM.out.cells
  cases rb
  ·obtain rfl:r=false:=by rw [← HR.out];simp [Yd.tail, *]
   go_wp2;go_ret
   exact ⟨rfl,by repeat (first|exact HM.out.bel|apply Xh|apply Xg)⟩
  go_wp2_with (fail);refine (HN.out _ (Kd.Xy aD.out (by repeat (first|exact HM.out.bel|apply Xh|apply Xg))) (Kd.Xy aF.out (by repeat (first|exact HM.out.bel|apply Xh|apply Xg)))).mono ?_;rintro e w3 ⟨rfl,aA⟩;replace HM:=Xa.mk (HM.out.below (Xi (by repeat (first|exact Below.refl _ _|apply Xh|apply Xg)) aA));clear g1 g2 g3 g4 b0 b1 b2 b3 b4 b5 aA;obtain ⟨g1,g2,g3,g4,b0,b1,b2,b3,b4,b5⟩:=HM.out.cells
  cases rn
  ·obtain rfl:r=false:=by rw [← HR.out];simp [Yd.tail, *]
   go_wp2;go_ret
   exact ⟨rfl,by repeat (first|exact HM.out.bel|apply Xh|apply Xg)⟩
  have HR2:Xa (Yd.tail true la lb hasB hasE 1 true true true k n4 n5 room p4 p5=r):=⟨by rw [← HR.out];simp [Yd.tail, *]⟩;clear HR;have HR:=HR2;clear HR2 dlb dl;go_upto_region 4 with (fail)
  go_cut [62] (fun v62 wd=>v62=.bool ((!hasB && decide (0<n4))||(!hasE && decide (0<n5)))∧Xa (Yd.M w g word la lb hasB hasE k a b n A4 n4 c4 A5 n5 c5 wd))
  case first=>
   cases hasB
   ·rcases Nat.eq_zero_or_pos n4 with m4|m4
    ·subst m4
     cases hasE
     ·rcases Nat.eq_zero_or_pos n5 with m5|m5
      ·subst m5;go_wp2;go_meet
       case rel=>exact ⟨by first|rfl|simp [*],⟨HM.out.below (by repeat (first|exact Below.refl _ _|apply Xh|apply Xg))⟩⟩
      ·have aG:(n5:Int) > 0:=om_
       have aO:decide ((n5:Int) > 0)=true:=dt_ aG;go_wp2;go_meet
       case rel=>exact ⟨by first|rfl|simp [*],⟨HM.out.below (by repeat (first|exact Below.refl _ _|apply Xh|apply Xg))⟩⟩
     ·skip;go_wp2;go_meet
      case rel=>exact ⟨by first|rfl|simp [*],⟨HM.out.below (by repeat (first|exact Below.refl _ _|apply Xh|apply Xg))⟩⟩
    ·have aN:(n4:Int) > 0:=om_
     have m4b:decide ((n4:Int) > 0)=true:=dt_ aN;go_wp2;go_meet
     case rel=>exact ⟨by first|rfl|simp [*],⟨HM.out.below (by repeat (first|exact Below.refl _ _|apply Xh|apply Xg))⟩⟩
   ·skip
    cases hasE
    ·rcases Nat.eq_zero_or_pos n5 with m5|m5
     ·subst m5;go_wp2;go_meet
      case rel=>exact ⟨by first|rfl|simp [*],⟨HM.out.below (by repeat (first|exact Below.refl _ _|apply Xh|apply Xg))⟩⟩
     ·have aG:(n5:Int) > 0:=om_
      have aO:decide ((n5:Int) > 0)=true:=dt_ aG;go_wp2;go_meet
      case rel=>exact ⟨by first|rfl|simp [*],⟨HM.out.below (by repeat (first|exact Below.refl _ _|apply Xh|apply Xg))⟩⟩
    ·skip;go_wp2;go_meet
     case rel=>exact ⟨by first|rfl|simp [*],⟨HM.out.below (by repeat (first|exact Below.refl _ _|apply Xh|apply Xg))⟩⟩
  case rest=>
   obtain ⟨rfl,HM⟩:=hcut;clear g1 g2 g3 g4 b0 b1 b2 b3 b4 b5;obtain ⟨g1,g2,g3,g4,b0,b1,b2,b3,b4,b5⟩:=HM.out.cells;have HR2:Xa ((!((!hasB && decide (0<n4))||(!hasE && decide (0<n5))) && ((if k=8 then decide (room = -1) else if k=9 then !decide (room = -1) else true) && (p4 && p5)))=r):=⟨by rw [← HR.out];simp [Yd.tail,Bool.and_assoc]⟩;clear HR;have HR:=HR2;clear HR2;generalize ((!hasB && decide (0<n4))||(!hasE && decide (0<n5)))=bad at *
   cases bad
   rotate_left
   ·obtain rfl:r=false:=by rw [← HR.out];simp
    go_wp2;go_ret
    exact ⟨rfl,by repeat (first|exact HM.out.bel|apply Xh|apply Xg)⟩
   have HR2:Xa (((if k=8 then decide (room = -1) else if k=9 then !decide (room = -1) else true) && (p4 && p5))=r):=⟨by rw [← HR.out];simp⟩;clear HR;have HR:=HR2;clear HR2;by_cases k8:k=8
   ·have aL:(k == 8)=true:=eb_ k8
    have hin:Yd.inr k a room=a:=by simp [Yd.inr,k8]
    by_cases ro:room = -1
    ·have rob:(room != -1)=false:=nq_ ro;have HF:Xa ((p4 && p5)=r):=⟨by rw [← HR.out];simp [k8,ro]⟩;rw [hin] at aB aC;clear hin HR;go_wp2_with (fail);refine (aB.out _ (Kd.Xy aD.out (by repeat (first|exact HM.out.bel|apply Xh|apply Xg)))).mono ?_;rintro e w5 ⟨rfl,aA⟩;replace HM:=Xa.mk (HM.out.below (Xi (by repeat (first|exact Below.refl _ _|apply Xh|apply Xg)) aA));clear g1 g2 g3 g4 b0 b1 b2 b3 b4 b5 aA;obtain ⟨g1,g2,g3,g4,b0,b1,b2,b3,b4,b5⟩:=HM.out.cells
     cases p4
     ·obtain rfl:false=r:=HF.out;go_wp2;go_ret
      exact ⟨rfl,by repeat (first|exact HM.out.bel|apply Xh|apply Xg)⟩
     go_wp2_with (fail);refine (aC.out _ (Kd.Xy aF.out (by repeat (first|exact HM.out.bel|apply Xh|apply Xg)))).mono ?_;rintro e w6 ⟨rfl,aA⟩;replace HM:=Xa.mk (HM.out.below (Xi (by repeat (first|exact Below.refl _ _|apply Xh|apply Xg)) aA));clear g1 g2 g3 g4 b0 b1 b2 b3 b4 b5 aA;obtain ⟨g1,g2,g3,g4,b0,b1,b2,b3,b4,b5⟩:=HM.out.cells;obtain rfl:p5=r:=HF.out;go_wp2;go_ret
     exact ⟨rfl,by repeat (first|exact HM.out.bel|apply Xh|apply Xg)⟩
    ·have rob:(room != -1)=true:=nn_ ro
     obtain rfl:r=false:=by rw [← HR.out];simp [k8,ro]
     go_wp2;go_ret
     exact ⟨rfl,by repeat (first|exact HM.out.bel|apply Xh|apply Xg)⟩
   have aL:(k == 8)=false:=nb_ k8
   have hin:Yd.inr k a room=room:=by simp [Yd.inr,k8]
   by_cases k9:k=9
   ·have aM:(k == 9)=true:=eb_ k9;by_cases ro:room = -1
    ·have rob:(room == -1)=true:=eb_ ro
     obtain rfl:r=false:=by rw [← HR.out];simp [k9,ro]
     go_wp2;go_ret
     exact ⟨rfl,by repeat (first|exact HM.out.bel|apply Xh|apply Xg)⟩
    have rob:(room == -1)=false:=nb_ ro;have HF:Xa ((p4 && p5)=r):=⟨by rw [← HR.out];simp [k9,ro]⟩;rw [hin] at aB aC;clear hin HR;go_wp2_with (fail);refine (aB.out _ (Kd.Xy aD.out (by repeat (first|exact HM.out.bel|apply Xh|apply Xg)))).mono ?_;rintro e w5 ⟨rfl,aA⟩;replace HM:=Xa.mk (HM.out.below (Xi (by repeat (first|exact Below.refl _ _|apply Xh|apply Xg)) aA));clear g1 g2 g3 g4 b0 b1 b2 b3 b4 b5 aA;obtain ⟨g1,g2,g3,g4,b0,b1,b2,b3,b4,b5⟩:=HM.out.cells
    cases p4
    ·obtain rfl:false=r:=HF.out;go_wp2;go_ret
     exact ⟨rfl,by repeat (first|exact HM.out.bel|apply Xh|apply Xg)⟩
    go_wp2_with (fail);refine (aC.out _ (Kd.Xy aF.out (by repeat (first|exact HM.out.bel|apply Xh|apply Xg)))).mono ?_;rintro e w6 ⟨rfl,aA⟩;replace HM:=Xa.mk (HM.out.below (Xi (by repeat (first|exact Below.refl _ _|apply Xh|apply Xg)) aA));clear g1 g2 g3 g4 b0 b1 b2 b3 b4 b5 aA;obtain ⟨g1,g2,g3,g4,b0,b1,b2,b3,b4,b5⟩:=HM.out.cells;obtain rfl:p5=r:=HF.out;go_wp2;go_ret
    exact ⟨rfl,by repeat (first|exact HM.out.bel|apply Xh|apply Xg)⟩
   have aM:(k == 9)=false:=nb_ k9;have HF:Xa ((p4 && p5)=r):=⟨by rw [← HR.out];simp [k8,k9]⟩;rw [hin] at aB aC;clear hin HR;go_wp2_with (fail);refine (aB.out _ (Kd.Xy aD.out (by repeat (first|exact HM.out.bel|apply Xh|apply Xg)))).mono ?_;rintro e w5 ⟨rfl,aA⟩;replace HM:=Xa.mk (HM.out.below (Xi (by repeat (first|exact Below.refl _ _|apply Xh|apply Xg)) aA));clear g1 g2 g3 g4 b0 b1 b2 b3 b4 b5 aA;obtain ⟨g1,g2,g3,g4,b0,b1,b2,b3,b4,b5⟩:=HM.out.cells
   cases p4
   ·obtain rfl:false=r:=HF.out;go_wp2;go_ret
    exact ⟨rfl,by repeat (first|exact HM.out.bel|apply Xh|apply Xg)⟩
   go_wp2_with (fail);refine (aC.out _ (Kd.Xy aF.out (by repeat (first|exact HM.out.bel|apply Xh|apply Xg)))).mono ?_;rintro e w6 ⟨rfl,aA⟩;replace HM:=Xa.mk (HM.out.below (Xi (by repeat (first|exact Below.refl _ _|apply Xh|apply Xg)) aA));clear g1 g2 g3 g4 b0 b1 b2 b3 b4 b5 aA;obtain ⟨g1,g2,g3,g4,b0,b1,b2,b3,b4,b5⟩:=HM.out.cells;obtain rfl:p5=r:=HF.out;go_wp2;go_ret
   exact ⟨rfl,by repeat (first|exact HM.out.bel|apply Xh|apply Xg)⟩
end
end Go.Proofs.YtlhogkfmdnpmkaaGreat.StmtOk
