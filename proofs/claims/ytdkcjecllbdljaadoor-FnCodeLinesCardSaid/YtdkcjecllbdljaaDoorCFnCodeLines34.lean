import Derived.Test.YtdkcjecllbdljaaDoorCFnCodeLines22
import Derived.Test.YtdkcjecllbdljaaDoorCFnCodeLines30
import Derived.Test.YtdkcjecllbdljaaDoorCFnCodeLines32
import Derived.Test.YtdkcjecllbdljaaDoorCFnCodeLines33
import Derived.Laws.EntriesVeiled
import Derived.Laws.CopyOwn
import Derived.Lib.Hide
namespace Go.Proofs.YtdkcjecllbdljaaDoor.GCode
open Go.RowKit Go.Proofs.YtdkcjecllbdljaaDoorW.PrintWords Go.Proofs.YtdkcjecllbdljaaDoorW.PrintLast Go.Proofs.YtdkcjecllbdljaaDoorW.PrintMore
attribute [local go_sem] Zy Ua Uo Uq Zp Zq Zz Ub
set_option linter.unusedVariables false
set_option linter.unusedSimpArgs false
section
open Go.Proofs.YtdkcjecllbdljaaDoor.HMap Go.Proofs.YtdkcjecllbdljaaDoor.HForms Go.Proofs.YtdkcjecllbdljaaDoor.HStep
def impl_insOk.f (a0_0 a0_1 a0_2 a0_3 a1:Int):Option Bool:=some (insOkF a0_0 a0_1 a0_2 a0_3 a1)
theorem Uj.fits_any (a l:Int) (w:World):Calls Tryd.prog 34 #[.int .i64 a,.int .i64 l] w fun e w'=>e=.returned (.bool (Zv a l))∧Drawn0 w w':=
 impl_fits.calls a l (Zv a l) w (by
  unfold impl_fits.f Zv
  repeat' split
  all_goals first|(simp_all;done)|(simp_all;omega))
structure Uj.S (w:World) (op a b n:Int) (W:World):Prop where
 box:W.heap[w.heap.size]?=some (.cells #[.int .i64 op,.int .i64 a,.int .i64 b,.int .i64 n] 36 (0,0))
 bel:Below w.heap.size w W
 size:w.heap.size<W.heap.size
theorem Uj.S.below {w W W1:World} {op a b n:Int} (h:Uj.S w op a b n W) (hb:Below W.heap.size W W1):Uj.S w op a b n W1:=
 ⟨(hb.block _ h.size).trans h.box,Xc h.bel hb,Nat.lt_of_lt_of_le h.size hb.size⟩
theorem Uj.S.alloc {w W:World} {op a b n:Int} (h:Uj.S w op a b n W) (o:Obj):Uj.S w op a b n (W.alloc o):=h.below ((Below.refl _ _).alloc (Nat.le_refl _) o)
theorem Uj.S.cell0 {w W:World} {op a b n:Int} (h:Uj.S w op a b n W):W.cell? ⟨w.heap.size,0,none⟩=some (.int .i64 op):=by simp [World.cell?,h.box]
theorem Uj.S.start (w:World) (op a b n:Int):Uj.S w op a b n (w.alloc (.cells #[.int .i64 op,.int .i64 a,.int .i64 b,.int .i64 n] 36)).drew:=
 ⟨World.alloc_heap_new w _,Zo ((Below.refl _ _).alloc (Nat.le_refl _) _),by simp⟩
structure Uj.Blk (w W:World) (g:Nat) (cs:Array Value):Prop where
 blk:W.heap[g]?=some (.cells cs 49 (0,0))
 ge:w.heap.size≤g
theorem Uj.Blk.new (w W:World) (cs:Array Value) (h:w.heap.size≤W.heap.size):Uj.Blk w (W.alloc (.cells cs 49)) W.heap.size cs:=⟨World.alloc_heap_new W _,h⟩
theorem Uj.Blk.below {w W W1:World} {g:Nat} {cs:Array Value} (h:Uj.Blk w W g cs) (hb:Below W.heap.size W W1):Uj.Blk w W1 g cs:=⟨(hb.block _ (Array.getElem?_eq_some_iff.1 h.blk).1).trans h.blk,h.ge⟩
theorem Uj.Blk.set {w W:World} {g:Nat} {cs:Array Value} (h:Uj.Blk w W g cs) (cs':Array Value):Uj.Blk w (W.setRow g cs') g cs':=⟨heap_setRow h.blk,h.ge⟩
theorem Uj.S.setRow {w W:World} {op a b n:Int} {g:Nat} {cs cs0:Array Value} (h:Uj.S w op a b n W) (hg:Uj.Blk w W g cs0):Uj.S w op a b n (W.setRow g cs):=by
 have hne:w.heap.size≠g:=by
  rintro rfl
  have:=h.box.symm.trans hg.blk
  injection this with this
  injection this with _ this
  exact absurd this (by decide)
 exact ⟨(setRow_other _ _ _ _ hne).trans h.box,below_setRow h.bel hg.ge cs,by simp [World.setRow,h.size]⟩
def Uj.Mid (w:World) (op a b n:Int) (v5 v6:Value) (wc:World):Prop:=
 ∃ g,v5=.pointer (some ⟨g,0,none⟩)∧v6=.bool (Xz op).1∧
  wc.heap[g]?=some (.cells #[.string (Xz op).2.word,.int .i64 (Xz op).2.a,.int .i64 (Xz op).2.b,.bool (Xz op).2.n,.bool (Xz op).2.index] 49 (0,0))∧
  wc.heap[w.heap.size]?=some (.cells #[.int .i64 op,.int .i64 a,.int .i64 b,.int .i64 n] 36 (0,0))∧Below w.heap.size w wc
def Uj.tail (ok:Bool) (la lb:Int) (idx:Bool) (op a b n many:Int):Bool:=ok && (Zv a la && (Zv b lb && Zm op n many idx))
set_option maxHeartbeats 8000000 in
set_option maxRecDepth 100000 in
theorem Uj.walk (a0_0 a0_1 a0_2 a0_3 a1:Int) (r:Bool) (w:World) (HR:Xa (Uj.tail (Xz a0_0).1 (Xz a0_0).2.a (Xz a0_0).2.b (Xz a0_0).2.index a0_0 a0_1 a0_2 a0_3 a1=r)) :
  Calls Tryd.prog 22 #[.agg #[.int .i64 a0_0,.int .i64 a0_1,.int .i64 a0_2,.int .i64 a0_3],.int .i64 a1] w fun e w'=>e=.returned (.bool r)∧Below w.heap.size w w':=by
 go_enter Tryd.func22,Tryd.ntmps22
 go_upto_region 2 with (fail)
 go_cut [5,6] (fun v5 v6 wc=>Uj.Mid w a0_0 a0_1 a0_2 a0_3 v5 v6 wc)
 case first=>
  refine start_ (n:=10) (S:=Uj.S w a0_0 a0_1 a0_2 a0_3) (ds:=[]) #[false,false,false,false,false,false,false,false,false,false] (by kernel_rfl) rfl (by rfl) (Uj.S.start w a0_0 a0_1 a0_2 a0_3) (fun hHeld=>?_)
  refine Zb (i:=1) (N:=some 9) (v:=?_) (a':=?_) #[false,true,false,false,false,false,false,false,false,false] rfl rfl (by kernel_rfl) (fun _ _ _ h=>h) (Or.inl ⟨by rfl,?_⟩) ?_ ?_
  rotate_left
  ·intro w';go_simp
   with_reducible rfl
  rotate_left
  ·simp only [Act.put,List.setIfInBounds_toArray,List.set_cons_zero,List.set_cons_succ,Xt,Xu];rfl
  refine take_ (i:=2) (N:=some 10) (v:=?_) (a':=?_) #[false,true,true,false,false,false,false,false,false,false] rfl rfl (by kernel_rfl) (fun _ _ _ h=>h) (Or.inl ⟨by rfl,?_⟩) hHeld ?_ ?_
  rotate_left
  ·rintro w' s0;have c0:=s0.cell0;clear s0
   go_simp
   with_reducible rfl
  rotate_left
  ·simp only [Act.put,List.setIfInBounds_toArray,List.set_cons_zero,List.set_cons_succ,Xt,Xu];rfl
  refine two_ (i:=0) (j:=7) (Ni:=some 8) (Nj:=some 5) #[true,true,true,false,false,false,false,false,false,false] #[false,true,true,false,false,false,false,true,false,false] rfl rfl rfl rfl (by kernel_rfl) (by decide) (by decide) (fun K hK=>?_) (fun K hK=>?_)
  ·skip
   refine goes_ Tryd.func24 (by kernel_rfl) rfl #[] (by rfl) rfl rfl (by first|done|rfl|simp) ?_
   refine (insForms_calls _).mono ?_
   rintro e w1 ⟨b,rfl,hm,hb,hB1⟩
   refine ⟨_,rfl,?_⟩
   refine hK.out _ _ (hHeld.below hB1) (fun hHeld=>?_)
   clear hK K;refine Uf (a':=?_) ?_ ?_
   rotate_left
   ·show Act.put _ (some 8) _=_
    simp only [Act.put,List.setIfInBounds_toArray,List.set_cons_zero,List.set_cons_succ,Xt,Xu];rfl
   refine two_ (i:=3) (j:=7) (Ni:=some 11) (Nj:=some 5) #[true,true,true,true,false,false,false,false,false,false] #[true,true,true,false,false,false,false,true,false,false] rfl rfl rfl rfl (by kernel_rfl) (by decide) (by decide) (fun K hK=>?_) (fun K hK=>?_)
   ·skip
    refine lookup_ rfl rfl _ _ _ _ rfl _ _ _ rfl rfl (look_run hm a0_0) ?_
    refine hK.out _ _ hHeld (fun hHeld=>?_)
    clear hK K;refine Uf (a':=?_) ?_ ?_
    rotate_left
    ·show Act.put _ (some 11) _=_
     simp only [Act.put,List.setIfInBounds_toArray,List.set_cons_zero,List.set_cons_succ,Xt,Xu];rfl
    refine Zb (i:=4) (N:=some 7) (v:=?_) (a':=?_) #[true,true,true,true,true,false,false,false,false,false] rfl rfl (by kernel_rfl) (fun _ _ _ h=>h) (Or.inl ⟨by rfl,?_⟩) ?_ ?_
    rotate_left
    ·intro w';go_simp
     with_reducible rfl
    rotate_left
    ·simp only [Act.put,List.setIfInBounds_toArray,List.set_cons_zero,List.set_cons_succ,Xt,Xu];rfl
    refine Zb (i:=5) (N:=some 12) (v:=?_) (a':=?_) #[true,true,true,true,true,true,false,false,false,false] rfl rfl (by kernel_rfl) (fun _ _ _ h=>h) (Or.inl ⟨by rfl,?_⟩) ?_ ?_
    rotate_left
    ·intro w';go_simp
     with_reducible rfl
    rotate_left
    ·simp only [Act.put,List.setIfInBounds_toArray,List.set_cons_zero,List.set_cons_succ,Xt,Xu];rfl
    refine Zb (i:=6) (N:=some 13) (v:=?_) (a':=?_) #[true,true,true,true,true,true,true,false,false,false] rfl rfl (by kernel_rfl) (fun _ _ _ h=>h) (Or.inl ⟨by rfl,?_⟩) ?_ ?_
    rotate_left
    ·intro w';go_simp
     with_reducible rfl
    rotate_left
    ·simp only [Act.put,List.setIfInBounds_toArray,List.set_cons_zero,List.set_cons_succ,Xt,Xu];rfl
    refine one_ (i:=7) (N:=some 5) #[true,true,true,true,true,true,true,true,false,false] rfl rfl (by kernel_rfl) (by decide) (fun K hK=>?_)
    refine alloc_ 49 #[.string ⟨#[]⟩,.int .i64 0,.int .i64 0,.bool false,.bool false] rfl rfl rfl (fun W=>by kernel_rfl) ?_
    have hg:=Uj.Blk.new _ _ #[.string ⟨#[]⟩,.int .i64 0,.int .i64 0,.bool false,.bool false] hHeld.bel.size;have hm:=hm.alloc (.cells #[.string ⟨#[]⟩,.int .i64 0,.int .i64 0,.bool false,.bool false] 49);refine hK.out _ _ (hHeld.alloc _) (fun hHeld=>?_)
    clear hK K;refine Uf (a':=?_) ?_ ?_
    rotate_left
    ·show Act.put _ (some 5) _=_
     simp only [Act.put,List.setIfInBounds_toArray,List.set_cons_zero,List.set_cons_succ,Xt,Xu];rfl
    refine one_ (i:=8) (N:=none) #[true,true,true,true,true,true,true,true,true,false] rfl rfl (by kernel_rfl) (by decide) (fun K hK=>?_)
    refine store_row_ rfl rfl 49 _ _ rfl _ #[.string (Xz a0_0).2.word,.int .i64 (Xz a0_0).2.a,.int .i64 (Xz a0_0).2.b,.bool (Xz a0_0).2.n,.bool (Xz a0_0).2.index] rfl rfl 49 _ hg.blk (by kernel_rfl) rfl (by simp [Value.oneCell']) ?_
    have hS:=hHeld.setRow hg (cs:=#[.string (Xz a0_0).2.word,.int .i64 (Xz a0_0).2.a,.int .i64 (Xz a0_0).2.b,.bool (Xz a0_0).2.n,.bool (Xz a0_0).2.index]);have hg:=hg.set #[.string (Xz a0_0).2.word,.int .i64 (Xz a0_0).2.a,.int .i64 (Xz a0_0).2.b,.bool (Xz a0_0).2.n,.bool (Xz a0_0).2.index];refine hK.out _ _ hS (fun hHeld=>?_)
    clear hK K;refine Zb (i:=9) (N:=some 6) (v:=?_) (a':=?_) #[true,true,true,true,true,true,true,true,true,true] rfl rfl (by kernel_rfl) (fun _ _ _ h=>h) (Or.inl ⟨by rfl,?_⟩) ?_ ?_
    rotate_left
    ·intro w';go_simp
     with_reducible rfl
    rotate_left
    ·simp only [Act.put,List.setIfInBounds_toArray,List.set_cons_zero,List.set_cons_succ,Xt,Xu];rfl
    refine done_ (by kernel_rfl) ?_
    try go_wp2
    go_meet
    case rel=>exact ⟨_,rfl,rfl,hg.blk,hHeld.box,hHeld.bel⟩
   ·skip
    refine alloc_ 49 #[.string ⟨#[]⟩,.int .i64 0,.int .i64 0,.bool false,.bool false] rfl rfl rfl (fun W=>by kernel_rfl) ?_
    have hg:=Uj.Blk.new _ _ #[.string ⟨#[]⟩,.int .i64 0,.int .i64 0,.bool false,.bool false] hHeld.bel.size;have hm:=hm.alloc (.cells #[.string ⟨#[]⟩,.int .i64 0,.int .i64 0,.bool false,.bool false] 49);refine hK.out _ _ (hHeld.alloc _) (fun hHeld=>?_)
    clear hK K;refine Uf (a':=?_) ?_ ?_
    rotate_left
    ·show Act.put _ (some 5) _=_
     simp only [Act.put,List.setIfInBounds_toArray,List.set_cons_zero,List.set_cons_succ,Xt,Xu];rfl
    refine one_ (i:=3) (N:=some 11) #[true,true,true,true,false,false,false,true,false,false] rfl rfl (by kernel_rfl) (by decide) (fun K hK=>?_)
    refine lookup_ rfl rfl _ _ _ _ rfl _ _ _ rfl rfl (look_run hm a0_0) ?_
    refine hK.out _ _ hHeld (fun hHeld=>?_)
    clear hK K;refine Uf (a':=?_) ?_ ?_
    rotate_left
    ·show Act.put _ (some 11) _=_
     simp only [Act.put,List.setIfInBounds_toArray,List.set_cons_zero,List.set_cons_succ,Xt,Xu];rfl
    refine Zb (i:=4) (N:=some 7) (v:=?_) (a':=?_) #[true,true,true,true,true,false,false,true,false,false] rfl rfl (by kernel_rfl) (fun _ _ _ h=>h) (Or.inl ⟨by rfl,?_⟩) ?_ ?_
    rotate_left
    ·intro w';go_simp
     with_reducible rfl
    rotate_left
    ·simp only [Act.put,List.setIfInBounds_toArray,List.set_cons_zero,List.set_cons_succ,Xt,Xu];rfl
    refine Zb (i:=5) (N:=some 12) (v:=?_) (a':=?_) #[true,true,true,true,true,true,false,true,false,false] rfl rfl (by kernel_rfl) (fun _ _ _ h=>h) (Or.inl ⟨by rfl,?_⟩) ?_ ?_
    rotate_left
    ·intro w';go_simp
     with_reducible rfl
    rotate_left
    ·simp only [Act.put,List.setIfInBounds_toArray,List.set_cons_zero,List.set_cons_succ,Xt,Xu];rfl
    refine Zb (i:=6) (N:=some 13) (v:=?_) (a':=?_) #[true,true,true,true,true,true,true,true,false,false] rfl rfl (by kernel_rfl) (fun _ _ _ h=>h) (Or.inl ⟨by rfl,?_⟩) ?_ ?_
    rotate_left
    ·intro w';go_simp
     with_reducible rfl
    rotate_left
    ·simp only [Act.put,List.setIfInBounds_toArray,List.set_cons_zero,List.set_cons_succ,Xt,Xu];rfl
    refine one_ (i:=8) (N:=none) #[true,true,true,true,true,true,true,true,true,false] rfl rfl (by kernel_rfl) (by decide) (fun K hK=>?_)
    refine store_row_ rfl rfl 49 _ _ rfl _ #[.string (Xz a0_0).2.word,.int .i64 (Xz a0_0).2.a,.int .i64 (Xz a0_0).2.b,.bool (Xz a0_0).2.n,.bool (Xz a0_0).2.index] rfl rfl 49 _ hg.blk (by kernel_rfl) rfl (by simp [Value.oneCell']) ?_
    have hS:=hHeld.setRow hg (cs:=#[.string (Xz a0_0).2.word,.int .i64 (Xz a0_0).2.a,.int .i64 (Xz a0_0).2.b,.bool (Xz a0_0).2.n,.bool (Xz a0_0).2.index]);have hg:=hg.set #[.string (Xz a0_0).2.word,.int .i64 (Xz a0_0).2.a,.int .i64 (Xz a0_0).2.b,.bool (Xz a0_0).2.n,.bool (Xz a0_0).2.index];refine hK.out _ _ hS (fun hHeld=>?_)
    clear hK K;refine Zb (i:=9) (N:=some 6) (v:=?_) (a':=?_) #[true,true,true,true,true,true,true,true,true,true] rfl rfl (by kernel_rfl) (fun _ _ _ h=>h) (Or.inl ⟨by rfl,?_⟩) ?_ ?_
    rotate_left
    ·intro w';go_simp
     with_reducible rfl
    rotate_left
    ·simp only [Act.put,List.setIfInBounds_toArray,List.set_cons_zero,List.set_cons_succ,Xt,Xu];rfl
    refine done_ (by kernel_rfl) ?_
    try go_wp2
    go_meet
    case rel=>exact ⟨_,rfl,rfl,hg.blk,hHeld.box,hHeld.bel⟩
  ·skip
   refine alloc_ 49 #[.string ⟨#[]⟩,.int .i64 0,.int .i64 0,.bool false,.bool false] rfl rfl rfl (fun W=>by kernel_rfl) ?_
   have hg:=Uj.Blk.new _ _ #[.string ⟨#[]⟩,.int .i64 0,.int .i64 0,.bool false,.bool false] hHeld.bel.size;refine hK.out _ _ (hHeld.alloc _) (fun hHeld=>?_)
   clear hK K;refine Uf (a':=?_) ?_ ?_
   rotate_left
   ·show Act.put _ (some 5) _=_
    simp only [Act.put,List.setIfInBounds_toArray,List.set_cons_zero,List.set_cons_succ,Xt,Xu];rfl
   refine one_ (i:=0) (N:=some 8) #[true,true,true,false,false,false,false,true,false,false] rfl rfl (by kernel_rfl) (by decide) (fun K hK=>?_)
   refine goes_ Tryd.func24 (by kernel_rfl) rfl #[] (by rfl) rfl rfl (by first|done|rfl|simp) ?_
   refine (insForms_calls _).mono ?_
   rintro e w1 ⟨b,rfl,hm,hb,hB1⟩
   refine ⟨_,rfl,?_⟩
   have hg:=hg.below hB1;refine hK.out _ _ (hHeld.below hB1) (fun hHeld=>?_)
   clear hK K;refine Uf (a':=?_) ?_ ?_
   rotate_left
   ·show Act.put _ (some 8) _=_
    simp only [Act.put,List.setIfInBounds_toArray,List.set_cons_zero,List.set_cons_succ,Xt,Xu];rfl
   refine one_ (i:=3) (N:=some 11) #[true,true,true,true,false,false,false,true,false,false] rfl rfl (by kernel_rfl) (by decide) (fun K hK=>?_)
   refine lookup_ rfl rfl _ _ _ _ rfl _ _ _ rfl rfl (look_run hm a0_0) ?_
   refine hK.out _ _ hHeld (fun hHeld=>?_)
   clear hK K;refine Uf (a':=?_) ?_ ?_
   rotate_left
   ·show Act.put _ (some 11) _=_
    simp only [Act.put,List.setIfInBounds_toArray,List.set_cons_zero,List.set_cons_succ,Xt,Xu];rfl
   refine Zb (i:=4) (N:=some 7) (v:=?_) (a':=?_) #[true,true,true,true,true,false,false,true,false,false] rfl rfl (by kernel_rfl) (fun _ _ _ h=>h) (Or.inl ⟨by rfl,?_⟩) ?_ ?_
   rotate_left
   ·intro w';go_simp
    with_reducible rfl
   rotate_left
   ·simp only [Act.put,List.setIfInBounds_toArray,List.set_cons_zero,List.set_cons_succ,Xt,Xu];rfl
   refine Zb (i:=5) (N:=some 12) (v:=?_) (a':=?_) #[true,true,true,true,true,true,false,true,false,false] rfl rfl (by kernel_rfl) (fun _ _ _ h=>h) (Or.inl ⟨by rfl,?_⟩) ?_ ?_
   rotate_left
   ·intro w';go_simp
    with_reducible rfl
   rotate_left
   ·simp only [Act.put,List.setIfInBounds_toArray,List.set_cons_zero,List.set_cons_succ,Xt,Xu];rfl
   refine Zb (i:=6) (N:=some 13) (v:=?_) (a':=?_) #[true,true,true,true,true,true,true,true,false,false] rfl rfl (by kernel_rfl) (fun _ _ _ h=>h) (Or.inl ⟨by rfl,?_⟩) ?_ ?_
   rotate_left
   ·intro w';go_simp
    with_reducible rfl
   rotate_left
   ·simp only [Act.put,List.setIfInBounds_toArray,List.set_cons_zero,List.set_cons_succ,Xt,Xu];rfl
   refine one_ (i:=8) (N:=none) #[true,true,true,true,true,true,true,true,true,false] rfl rfl (by kernel_rfl) (by decide) (fun K hK=>?_)
   refine store_row_ rfl rfl 49 _ _ rfl _ #[.string (Xz a0_0).2.word,.int .i64 (Xz a0_0).2.a,.int .i64 (Xz a0_0).2.b,.bool (Xz a0_0).2.n,.bool (Xz a0_0).2.index] rfl rfl 49 _ hg.blk (by kernel_rfl) rfl (by simp [Value.oneCell']) ?_
   have hS:=hHeld.setRow hg (cs:=#[.string (Xz a0_0).2.word,.int .i64 (Xz a0_0).2.a,.int .i64 (Xz a0_0).2.b,.bool (Xz a0_0).2.n,.bool (Xz a0_0).2.index]);have hg:=hg.set #[.string (Xz a0_0).2.word,.int .i64 (Xz a0_0).2.a,.int .i64 (Xz a0_0).2.b,.bool (Xz a0_0).2.n,.bool (Xz a0_0).2.index];refine hK.out _ _ hS (fun hHeld=>?_)
   clear hK K;refine Zb (i:=9) (N:=some 6) (v:=?_) (a':=?_) #[true,true,true,true,true,true,true,true,true,true] rfl rfl (by kernel_rfl) (fun _ _ _ h=>h) (Or.inl ⟨by rfl,?_⟩) ?_ ?_
   rotate_left
   ·intro w';go_simp
    with_reducible rfl
   rotate_left
   ·simp only [Act.put,List.setIfInBounds_toArray,List.set_cons_zero,List.set_cons_succ,Xt,Xu];rfl
   refine done_ (by kernel_rfl) ?_
   try go_wp2
   go_meet
   case rel=>exact ⟨_,rfl,rfl,hg.blk,hHeld.box,hHeld.bel⟩
 case rest=>
  obtain ⟨g,rfl,rfl,hg,hb,hB⟩:=hcut
  have g1:wc.cell? ⟨g,1,none⟩=some (.int .i64 (Xz a0_0).2.a):=by simp [World.cell?,hg]
  have g2:wc.cell? ⟨g,2,none⟩=some (.int .i64 (Xz a0_0).2.b):=by simp [World.cell?,hg]
  have g4:wc.cell? ⟨g,4,none⟩=some (.bool (Xz a0_0).2.index):=by simp [World.cell?,hg]
  have b0:wc.cell? ⟨w.heap.size,0,none⟩=some (.int .i64 a0_0):=by simp [World.cell?,hb]
  have b1:wc.cell? ⟨w.heap.size,1,none⟩=some (.int .i64 a0_1):=by simp [World.cell?,hb]
  have b2:wc.cell? ⟨w.heap.size,2,none⟩=some (.int .i64 a0_2):=by simp [World.cell?,hb]
  have b3:wc.cell? ⟨w.heap.size,3,none⟩=some (.int .i64 a0_3):=by simp [World.cell?,hb]
  clear hg hb
  generalize (Xz a0_0).1=ok at *
  generalize (Xz a0_0).2.a=la at *
  generalize (Xz a0_0).2.b=lb at *
  generalize (Xz a0_0).2.index=idx at *
  have HB:=Xa.mk hB;clear hB;have fa:=Uj.fits_any a0_1 la;have fb:=Uj.fits_any a0_2 lb;have hr:=HR.out;clear HR
  unfold Uj.tail at hr
  generalize Zv a0_1 la=ra at *
  generalize Zv a0_2 lb=rb at *
  have Fa:=Lib.hid fa;have Fb:=Lib.hid fb;clear fa fb;have HR:=Xa.mk hr;clear hr
  cases ok
  ·obtain rfl:=HR.out;go_wp2
   go_ret
   exact ⟨rfl,by repeat (first|exact HB.out|apply Zo|apply Ze)⟩
  cases ra
  ·obtain rfl:=HR.out;go_wp2_with (go_at_call 34;refine (Fa.out _).mono ?_;rintro e w' ⟨rfl,⟨nd,rfl⟩⟩)
   go_ret
   exact ⟨rfl,by repeat (first|exact HB.out|apply Zo|apply Ze)⟩
  cases rb
  ·obtain rfl:=HR.out;go_wp2_with (fail)
   refine (Fa.out _).mono ?_
   rintro e w' ⟨rfl,⟨nd,rfl⟩⟩
   go_wp2_with (fail)
   refine (Fb.out _).mono ?_
   rintro e w' ⟨rfl,⟨nd2,rfl⟩⟩
   go_wp2_with (fail)
   go_ret
   exact ⟨rfl,by repeat (first|exact HB.out|apply Zo|apply Ze)⟩
  have HR2:Xa (Zm a0_0 a0_3 a1 idx=r):=⟨by simpa using HR.out⟩;clear HR;go_wp2_with (fail)
  refine (Fa.out _).mono ?_
  rintro e w' ⟨rfl,⟨nd,rfl⟩⟩
  go_wp2_with (fail)
  refine (Fb.out _).mono ?_
  rintro e w' ⟨rfl,⟨nd2,rfl⟩⟩
  cases idx
  ·by_cases h1:a0_0=1
   ·have c1:(a0_0 == 1)=true:=by simpa using h1
    have hr:=HR2.out;simp only [Zm,h1,if_true,Bool.false_eq_true,if_false] at hr;clear h1 HR2;by_cases h2:-999≤a0_3
    ·have d2:decide (-999≤a0_3)=true:=decide_eq_true h2;by_cases h3:a0_3≤999
     ·have d3:decide (a0_3≤999)=true:=decide_eq_true h3
      simp [h2,h3] at hr
      clear h2 h3;subst hr;go_wp2
      go_ret
      exact ⟨rfl,by repeat (first|exact HB.out|apply Zo|apply Ze)⟩
     ·have d3:decide (a0_3≤999)=false:=decide_eq_false h3
      simp [h2,h3] at hr
      clear h2 h3;subst hr;go_wp2
      go_ret
      exact ⟨rfl,by repeat (first|exact HB.out|apply Zo|apply Ze)⟩
    ·have d2:decide (-999≤a0_3)=false:=decide_eq_false h2;by_cases h3:a0_3≤999
     ·have d3:decide (a0_3≤999)=true:=decide_eq_true h3
      simp [h2,h3] at hr
      clear h2 h3;subst hr;go_wp2
      go_ret
      exact ⟨rfl,by repeat (first|exact HB.out|apply Zo|apply Ze)⟩
     ·have d3:decide (a0_3≤999)=false:=decide_eq_false h3
      simp [h2,h3] at hr
      clear h2 h3;subst hr;go_wp2
      go_ret
      exact ⟨rfl,by repeat (first|exact HB.out|apply Zo|apply Ze)⟩
   ·have c1:(a0_0 == 1)=false:=by simpa using h1
    by_cases h4:a0_0=2
    ·have c4:(a0_0 == 2)=true:=by simpa using h4
     have hr:=HR2.out;simp only [Zm,h1,h4,if_true,Bool.false_eq_true,if_false] at hr;clear h1 h4 HR2;by_cases h2:1≤a0_3
     ·have d2:decide (1≤a0_3)=true:=decide_eq_true h2;by_cases h3:a0_3≤5
      ·have d3:decide (a0_3≤5)=true:=decide_eq_true h3
       simp [h2,h3] at hr
       clear h2 h3;subst hr;go_wp2
       go_ret
       exact ⟨rfl,by repeat (first|exact HB.out|apply Zo|apply Ze)⟩
      ·have d3:decide (a0_3≤5)=false:=decide_eq_false h3
       simp [h2,h3] at hr
       clear h2 h3;subst hr;go_wp2
       go_ret
       exact ⟨rfl,by repeat (first|exact HB.out|apply Zo|apply Ze)⟩
     ·have d2:decide (1≤a0_3)=false:=decide_eq_false h2;by_cases h3:a0_3≤5
      ·have d3:decide (a0_3≤5)=true:=decide_eq_true h3
       simp [h2,h3] at hr
       clear h2 h3;subst hr;go_wp2
       go_ret
       exact ⟨rfl,by repeat (first|exact HB.out|apply Zo|apply Ze)⟩
      ·have d3:decide (a0_3≤5)=false:=decide_eq_false h3
       simp [h2,h3] at hr
       clear h2 h3;subst hr;go_wp2
       go_ret
       exact ⟨rfl,by repeat (first|exact HB.out|apply Zo|apply Ze)⟩
    ·have c4:(a0_0 == 2)=false:=by simpa using h4
     have hr:=HR2.out;simp only [Zm,h1,h4,if_true,Bool.false_eq_true,if_false] at hr;clear h1 h4 HR2;by_cases h2:a0_3=0
     ·have c2:(a0_3 == 0)=true:=by simpa using h2
      simp [h2] at hr
      clear h2;subst hr;go_wp2
      go_ret
      exact ⟨rfl,by repeat (first|exact HB.out|apply Zo|apply Ze)⟩
     ·have c2:(a0_3 == 0)=false:=by simpa using h2
      simp [h2] at hr
      clear h2;subst hr;go_wp2
      go_ret
      exact ⟨rfl,by repeat (first|exact HB.out|apply Zo|apply Ze)⟩
  ·have hr:=HR2.out;simp only [Zm,if_true] at hr;clear HR2;by_cases h2:0≤a0_3
   ·have d2:decide (0≤a0_3)=true:=decide_eq_true h2;by_cases h3:a0_3<a1
    ·have d3:decide (a0_3<a1)=true:=decide_eq_true h3
     simp [h2,h3] at hr
     clear h2 h3;subst hr;go_wp2
     go_ret
     exact ⟨rfl,by repeat (first|exact HB.out|apply Zo|apply Ze)⟩
    ·have d3:decide (a0_3<a1)=false:=decide_eq_false h3
     simp [h2,h3] at hr
     clear h2 h3;subst hr;go_wp2
     go_ret
     exact ⟨rfl,by repeat (first|exact HB.out|apply Zo|apply Ze)⟩
   ·have d2:decide (0≤a0_3)=false:=decide_eq_false h2;by_cases h3:a0_3<a1
    ·have d3:decide (a0_3<a1)=true:=decide_eq_true h3
     simp [h2,h3] at hr
     clear h2 h3;subst hr;go_wp2
     go_ret
     exact ⟨rfl,by repeat (first|exact HB.out|apply Zo|apply Ze)⟩
    ·have d3:decide (a0_3<a1)=false:=decide_eq_false h3
     simp [h2,h3] at hr
     clear h2 h3;subst hr;go_wp2
     go_ret
     exact ⟨rfl,by repeat (first|exact HB.out|apply Zo|apply Ze)⟩
theorem Uj.tail_eq (op a b n many:Int):Uj.tail (Xz op).1 (Xz op).2.a (Xz op).2.b (Xz op).2.index op a b n many=insOkF op a b n many:=by
 unfold Uj.tail insOkF Xz
 cases (insForms.find? (fun p=>p.1 == op)).map (·.2) <;> rfl
theorem impl_insOk.calls (a0_0:Int) (a0_1:Int) (a0_2:Int) (a0_3:Int) (a1:Int) (r:Bool) (w:World) (h:impl_insOk.f a0_0 a0_1 a0_2 a0_3 a1=some r) :
  Calls Tryd.prog 22 #[.agg #[.int .i64 a0_0,.int .i64 a0_1,.int .i64 a0_2,.int .i64 a0_3],.int .i64 a1] w fun e w'=>e=.returned (.bool r)∧Below w.heap.size w w':=
 Uj.walk a0_0 a0_1 a0_2 a0_3 a1 r w ⟨(Uj.tail_eq ..).trans (Option.some.inj h)⟩
end
end Go.Proofs.YtdkcjecllbdljaaDoor.GCode
