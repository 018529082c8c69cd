import Derived.Test.YtokajnfbiddpjaaCFnSlimSome21
import Derived.Test.YtokajnfbiddpjaaCFnSlimSome28
import Derived.Test.YtokajnfbiddpjaaCFnSlimSome37
import Derived.Test.YtokajnfbiddpjaaCFnSlimSome31
import Derived.Laws.EntriesVeiled
import Derived.Laws.CopyOwn
import Derived.Lib.Hide
set_option maxRecDepth 100000
namespace Go.Proofs.Ytokajnfbiddpjaa.GSlim
open Go.RowKit Go.Proofs.YtokajnfbiddpjaaW.PrintWords Go.Proofs.YtokajnfbiddpjaaW.PrintLast Go.Proofs.YtokajnfbiddpjaaW.PrintMore
attribute [local go_sem] Zx Zz Ul Um Zl Zm Zy Ua
set_option linter.unusedVariables false
set_option linter.unusedSimpArgs false
section
open Go.Proofs.Ytokajnfbiddpjaa.HMap Go.Proofs.Ytokajnfbiddpjaa.HForms Go.Proofs.Ytokajnfbiddpjaa.HStep
def impl_insOk.f (aA aC aD aB a1:Int):Option Bool:=some (Vv aA aC aD aB a1)
theorem Vt.fits_any (a l:Int) (w:World):Calls Try.prog 45 #[.int .i64 a,.int .i64 l] w fun e w'=>e=.returned (.bool (Zq a l))∧Yf w w':=
 impl_fits.calls a l (Zq a l) w (by
  unfold impl_fits.f Zq
  repeat' split
  all_goals first|(simp_all;done)|(simp_all;omega))
structure Vt.S (w:World) (op a b n:Int) (W:World):Prop where
 box:W.heap[w.heap.size]?=some (.cells #[.int .i64 op,.int .i64 a,.int .i64 b,.int .i64 n] 31 (0,0))
 bel:Below w.heap.size w W
 size:w.heap.size<W.heap.size
theorem Vt.S.below {w W W1:World} {op a b n:Int} (h:Vt.S w op a b n W) (hb:Below W.heap.size W W1):Vt.S w op a b n W1:=
 ⟨(hb.block _ h.size).trans h.box,Xe h.bel hb,Nat.lt_of_lt_of_le h.size hb.size⟩
theorem Vt.S.alloc {w W:World} {op a b n:Int} (h:Vt.S w op a b n W) (o:Obj):Vt.S w op a b n (W.alloc o):=h.below ((Below.refl _ _).alloc (Nat.le_refl _) o)
theorem Vt.S.cell0 {w W:World} {op a b n:Int} (h:Vt.S w op a b n W):W.cell? ⟨w.heap.size,0,none⟩=some (.int .i64 op):=by simp [World.cell?,h.box]
theorem Vt.S.start (w:World) (op a b n:Int):Vt.S w op a b n (w.alloc (.cells #[.int .i64 op,.int .i64 a,.int .i64 b,.int .i64 n] 31)).drew:=
 ⟨World.alloc_heap_new w _,Xy ((Below.refl _ _).alloc (Nat.le_refl _) _),by simp⟩
structure Vt.Blk (w W:World) (g:Nat) (cs:Array Value):Prop where
 blk:W.heap[g]?=some (.cells cs 66 (0,0))
 ge:w.heap.size≤g
theorem Vt.Blk.new (w W:World) (cs:Array Value) (h:w.heap.size≤W.heap.size):Vt.Blk w (W.alloc (.cells cs 66)) W.heap.size cs:=⟨World.alloc_heap_new W _,h⟩
theorem Vt.Blk.below {w W W1:World} {g:Nat} {cs:Array Value} (h:Vt.Blk w W g cs) (hb:Below W.heap.size W W1):Vt.Blk w W1 g cs:=⟨(hb.block _ (Array.getElem?_eq_some_iff.1 h.blk).1).trans h.blk,h.ge⟩
theorem Vt.Blk.set {w W:World} {g:Nat} {cs:Array Value} (h:Vt.Blk w W g cs) (cs':Array Value):Vt.Blk w (W.setRow g cs') g cs':=⟨heap_setRow h.blk,h.ge⟩
theorem Vt.S.setRow {w W:World} {op a b n:Int} {g:Nat} {cs cs0:Array Value} (h:Vt.S w op a b n W) (hg:Vt.Blk w W g cs0):Vt.S w op a b n (W.setRow g cs):=by
 have hne:w.heap.size≠g:=by
  rintro rfl
  have:=h.box.symm.trans hg.blk
  injection this with this
  injection this with _ this
  exact absurd this (by decide)
 exact ⟨(setRow_other _ _ _ _ hne).trans h.box,below_setRow h.bel hg.ge cs,by simp [World.setRow,h.size]⟩
def Vt.Mid (w:World) (op a b n:Int) (v5 v6:Value) (wc:World):Prop:=
 ∃ g,v5=.pointer (some ⟨g,0,none⟩)∧v6=.bool (Xz op).1∧
  wc.heap[g]?=some (.cells #[.string (Xz op).2.word,.int .i64 (Xz op).2.a,.int .i64 (Xz op).2.b,.bool (Xz op).2.n,.bool (Xz op).2.index] 66 (0,0))∧
  wc.heap[w.heap.size]?=some (.cells #[.int .i64 op,.int .i64 a,.int .i64 b,.int .i64 n] 31 (0,0))∧Below w.heap.size w wc
def Vt.tail (ok:Bool) (la lb:Int) (idx:Bool) (op a b n many:Int):Bool:=ok && (Zq a la && (Zq b lb && Zr op n many idx))
set_option maxHeartbeats 8000000 in
theorem Vt.walk (aA aC aD aB a1:Int) (r:Bool) (w:World) (HR:Xa (Vt.tail (Xz aA).1 (Xz aA).2.a (Xz aA).2.b (Xz aA).2.index aA aC aD aB a1=r)) :
  Calls Try.prog 26 #[.agg #[.int .i64 aA,.int .i64 aC,.int .i64 aD,.int .i64 aB],.int .i64 a1] w fun e w'=>e=.returned (.bool r)∧Below w.heap.size w w':=by
 go_enter Try.func26,Try.ntmps26
 go_upto_region 2 with (fail)
 go_cut [5,6] (fun v5 v6 wc=>Vt.Mid w aA aC aD aB v5 v6 wc)
 case first=>
  refine start_ (n:=10) (S:=Vt.S w aA aC aD aB) (ds:=[]) #[false,false,false,false,false,false,false,false,false,false] (by kernel_rfl) rfl (by rfl) (Vt.S.start w aA aC aD aB) (fun hHeld=>?_)
  refine Za (i:=1) (N:=some 9) (v:=?_) (a':=?_) #[false,true,false,false,false,false,false,false,false,false] rfl rfl (by kernel_rfl) (fun _ _ _ h=>h) (Or.inl ⟨by rfl,?_⟩) ?_ ?_
  rotate_left
  · exact wr_
  rotate_left
  · exact ap_
  refine take_ (i:=2) (N:=some 10) (v:=?_) (a':=?_) #[false,true,true,false,false,false,false,false,false,false] rfl rfl (by kernel_rfl) (fun _ _ _ h=>h) (Or.inl ⟨by rfl,?_⟩) hHeld ?_ ?_
  rotate_left
  ·rintro w' s0;have c0:=s0.cell0;clear s0
   go_simp
   with_reducible rfl
  rotate_left
  · exact ap_
  refine two_ (i:=0) (j:=7) (Ni:=some 8) (Nj:=some 5) #[true,true,true,false,false,false,false,false,false,false] #[false,true,true,false,false,false,false,true,false,false] rfl rfl rfl rfl (by kernel_rfl) (by decide) (by decide) (fun K hK=>?_) (fun K hK=>?_)
  ·skip
   refine goes_ Try.func44 (by kernel_rfl) rfl #[] (by rfl) rfl rfl (by first|done|rfl|simp) ?_
   refine (insForms_calls _).mono ?_
   rintro e w1 ⟨b,rfl,hm,hb,hB1⟩
   refine ⟨_,rfl,?_⟩
   refine hK.out _ _ (hHeld.below hB1) (fun hHeld=>?_)
   clear hK K;refine norm_ (a':=?_) ?_ ?_
   rotate_left
   ·show Act.put _ (some 8) _=_
    simp only [Act.put,List.setIfInBounds_toArray,List.set_cons_zero,List.set_cons_succ,Ub,Uf];rfl
   refine two_ (i:=3) (j:=7) (Ni:=some 11) (Nj:=some 5) #[true,true,true,true,false,false,false,false,false,false] #[true,true,true,false,false,false,false,true,false,false] rfl rfl rfl rfl (by kernel_rfl) (by decide) (by decide) (fun K hK=>?_) (fun K hK=>?_)
   ·skip
    refine lookup_ rfl rfl _ _ _ _ rfl _ _ _ rfl rfl (look_run hm aA) ?_
    refine hK.out _ _ hHeld (fun hHeld=>?_)
    clear hK K;refine norm_ (a':=?_) ?_ ?_
    rotate_left
    ·show Act.put _ (some 11) _=_
     simp only [Act.put,List.setIfInBounds_toArray,List.set_cons_zero,List.set_cons_succ,Ub,Uf];rfl
    refine Za (i:=4) (N:=some 7) (v:=?_) (a':=?_) #[true,true,true,true,true,false,false,false,false,false] rfl rfl (by kernel_rfl) (fun _ _ _ h=>h) (Or.inl ⟨by rfl,?_⟩) ?_ ?_
    rotate_left
    · exact wr_
    rotate_left
    · exact ap_
    refine Za (i:=5) (N:=some 12) (v:=?_) (a':=?_) #[true,true,true,true,true,true,false,false,false,false] rfl rfl (by kernel_rfl) (fun _ _ _ h=>h) (Or.inl ⟨by rfl,?_⟩) ?_ ?_
    rotate_left
    · exact wr_
    rotate_left
    · exact ap_
    refine Za (i:=6) (N:=some 13) (v:=?_) (a':=?_) #[true,true,true,true,true,true,true,false,false,false] rfl rfl (by kernel_rfl) (fun _ _ _ h=>h) (Or.inl ⟨by rfl,?_⟩) ?_ ?_
    rotate_left
    · exact wr_
    rotate_left
    · exact ap_
    refine one_ (i:=7) (N:=some 5) #[true,true,true,true,true,true,true,true,false,false] rfl rfl (by kernel_rfl) (by decide) (fun K hK=>?_)
    refine alloc_ 66 #[.string ⟨#[]⟩,.int .i64 0,.int .i64 0,.bool false,.bool false] rfl rfl rfl (fun W=>by kernel_rfl) ?_
    have hg:=Vt.Blk.new _ _ #[.string ⟨#[]⟩,.int .i64 0,.int .i64 0,.bool false,.bool false] hHeld.bel.size;have hm:=hm.alloc (.cells #[.string ⟨#[]⟩,.int .i64 0,.int .i64 0,.bool false,.bool false] 66);refine hK.out _ _ (hHeld.alloc _) (fun hHeld=>?_)
    clear hK K;refine norm_ (a':=?_) ?_ ?_
    rotate_left
    ·show Act.put _ (some 5) _=_
     simp only [Act.put,List.setIfInBounds_toArray,List.set_cons_zero,List.set_cons_succ,Ub,Uf];rfl
    refine one_ (i:=8) (N:=none) #[true,true,true,true,true,true,true,true,true,false] rfl rfl (by kernel_rfl) (by decide) (fun K hK=>?_)
    refine store_row_ rfl rfl 66 _ _ rfl _ #[.string (Xz aA).2.word,.int .i64 (Xz aA).2.a,.int .i64 (Xz aA).2.b,.bool (Xz aA).2.n,.bool (Xz aA).2.index] rfl rfl 66 _ hg.blk (by kernel_rfl) rfl (by simp [Value.oneCell']) ?_
    have hS:=hHeld.setRow hg (cs:=#[.string (Xz aA).2.word,.int .i64 (Xz aA).2.a,.int .i64 (Xz aA).2.b,.bool (Xz aA).2.n,.bool (Xz aA).2.index]);have hg:=hg.set #[.string (Xz aA).2.word,.int .i64 (Xz aA).2.a,.int .i64 (Xz aA).2.b,.bool (Xz aA).2.n,.bool (Xz aA).2.index];refine hK.out _ _ hS (fun hHeld=>?_)
    clear hK K;refine Za (i:=9) (N:=some 6) (v:=?_) (a':=?_) #[true,true,true,true,true,true,true,true,true,true] rfl rfl (by kernel_rfl) (fun _ _ _ h=>h) (Or.inl ⟨by rfl,?_⟩) ?_ ?_
    rotate_left
    · exact wr_
    rotate_left
    · exact ap_
    refine done_ (by kernel_rfl) ?_
    try go_wp2
    go_meet
    case rel=>exact ⟨_,rfl,rfl,hg.blk,hHeld.box,hHeld.bel⟩
   ·skip
    refine alloc_ 66 #[.string ⟨#[]⟩,.int .i64 0,.int .i64 0,.bool false,.bool false] rfl rfl rfl (fun W=>by kernel_rfl) ?_
    have hg:=Vt.Blk.new _ _ #[.string ⟨#[]⟩,.int .i64 0,.int .i64 0,.bool false,.bool false] hHeld.bel.size;have hm:=hm.alloc (.cells #[.string ⟨#[]⟩,.int .i64 0,.int .i64 0,.bool false,.bool false] 66);refine hK.out _ _ (hHeld.alloc _) (fun hHeld=>?_)
    clear hK K;refine norm_ (a':=?_) ?_ ?_
    rotate_left
    ·show Act.put _ (some 5) _=_
     simp only [Act.put,List.setIfInBounds_toArray,List.set_cons_zero,List.set_cons_succ,Ub,Uf];rfl
    refine one_ (i:=3) (N:=some 11) #[true,true,true,true,false,false,false,true,false,false] rfl rfl (by kernel_rfl) (by decide) (fun K hK=>?_)
    refine lookup_ rfl rfl _ _ _ _ rfl _ _ _ rfl rfl (look_run hm aA) ?_
    refine hK.out _ _ hHeld (fun hHeld=>?_)
    clear hK K;refine norm_ (a':=?_) ?_ ?_
    rotate_left
    ·show Act.put _ (some 11) _=_
     simp only [Act.put,List.setIfInBounds_toArray,List.set_cons_zero,List.set_cons_succ,Ub,Uf];rfl
    refine Za (i:=4) (N:=some 7) (v:=?_) (a':=?_) #[true,true,true,true,true,false,false,true,false,false] rfl rfl (by kernel_rfl) (fun _ _ _ h=>h) (Or.inl ⟨by rfl,?_⟩) ?_ ?_
    rotate_left
    · exact wr_
    rotate_left
    · exact ap_
    refine Za (i:=5) (N:=some 12) (v:=?_) (a':=?_) #[true,true,true,true,true,true,false,true,false,false] rfl rfl (by kernel_rfl) (fun _ _ _ h=>h) (Or.inl ⟨by rfl,?_⟩) ?_ ?_
    rotate_left
    · exact wr_
    rotate_left
    · exact ap_
    refine Za (i:=6) (N:=some 13) (v:=?_) (a':=?_) #[true,true,true,true,true,true,true,true,false,false] rfl rfl (by kernel_rfl) (fun _ _ _ h=>h) (Or.inl ⟨by rfl,?_⟩) ?_ ?_
    rotate_left
    · exact wr_
    rotate_left
    · exact ap_
    refine one_ (i:=8) (N:=none) #[true,true,true,true,true,true,true,true,true,false] rfl rfl (by kernel_rfl) (by decide) (fun K hK=>?_)
    refine store_row_ rfl rfl 66 _ _ rfl _ #[.string (Xz aA).2.word,.int .i64 (Xz aA).2.a,.int .i64 (Xz aA).2.b,.bool (Xz aA).2.n,.bool (Xz aA).2.index] rfl rfl 66 _ hg.blk (by kernel_rfl) rfl (by simp [Value.oneCell']) ?_
    have hS:=hHeld.setRow hg (cs:=#[.string (Xz aA).2.word,.int .i64 (Xz aA).2.a,.int .i64 (Xz aA).2.b,.bool (Xz aA).2.n,.bool (Xz aA).2.index]);have hg:=hg.set #[.string (Xz aA).2.word,.int .i64 (Xz aA).2.a,.int .i64 (Xz aA).2.b,.bool (Xz aA).2.n,.bool (Xz aA).2.index];refine hK.out _ _ hS (fun hHeld=>?_)
    clear hK K;refine Za (i:=9) (N:=some 6) (v:=?_) (a':=?_) #[true,true,true,true,true,true,true,true,true,true] rfl rfl (by kernel_rfl) (fun _ _ _ h=>h) (Or.inl ⟨by rfl,?_⟩) ?_ ?_
    rotate_left
    · exact wr_
    rotate_left
    · exact ap_
    refine done_ (by kernel_rfl) ?_
    try go_wp2
    go_meet
    case rel=>exact ⟨_,rfl,rfl,hg.blk,hHeld.box,hHeld.bel⟩
  ·skip
   refine alloc_ 66 #[.string ⟨#[]⟩,.int .i64 0,.int .i64 0,.bool false,.bool false] rfl rfl rfl (fun W=>by kernel_rfl) ?_
   have hg:=Vt.Blk.new _ _ #[.string ⟨#[]⟩,.int .i64 0,.int .i64 0,.bool false,.bool false] hHeld.bel.size;refine hK.out _ _ (hHeld.alloc _) (fun hHeld=>?_)
   clear hK K;refine norm_ (a':=?_) ?_ ?_
   rotate_left
   ·show Act.put _ (some 5) _=_
    simp only [Act.put,List.setIfInBounds_toArray,List.set_cons_zero,List.set_cons_succ,Ub,Uf];rfl
   refine one_ (i:=0) (N:=some 8) #[true,true,true,false,false,false,false,true,false,false] rfl rfl (by kernel_rfl) (by decide) (fun K hK=>?_)
   refine goes_ Try.func44 (by kernel_rfl) rfl #[] (by rfl) rfl rfl (by first|done|rfl|simp) ?_
   refine (insForms_calls _).mono ?_
   rintro e w1 ⟨b,rfl,hm,hb,hB1⟩
   refine ⟨_,rfl,?_⟩
   have hg:=hg.below hB1;refine hK.out _ _ (hHeld.below hB1) (fun hHeld=>?_)
   clear hK K;refine norm_ (a':=?_) ?_ ?_
   rotate_left
   ·show Act.put _ (some 8) _=_
    simp only [Act.put,List.setIfInBounds_toArray,List.set_cons_zero,List.set_cons_succ,Ub,Uf];rfl
   refine one_ (i:=3) (N:=some 11) #[true,true,true,true,false,false,false,true,false,false] rfl rfl (by kernel_rfl) (by decide) (fun K hK=>?_)
   refine lookup_ rfl rfl _ _ _ _ rfl _ _ _ rfl rfl (look_run hm aA) ?_
   refine hK.out _ _ hHeld (fun hHeld=>?_)
   clear hK K;refine norm_ (a':=?_) ?_ ?_
   rotate_left
   ·show Act.put _ (some 11) _=_
    simp only [Act.put,List.setIfInBounds_toArray,List.set_cons_zero,List.set_cons_succ,Ub,Uf];rfl
   refine Za (i:=4) (N:=some 7) (v:=?_) (a':=?_) #[true,true,true,true,true,false,false,true,false,false] rfl rfl (by kernel_rfl) (fun _ _ _ h=>h) (Or.inl ⟨by rfl,?_⟩) ?_ ?_
   rotate_left
   · exact wr_
   rotate_left
   · exact ap_
   refine Za (i:=5) (N:=some 12) (v:=?_) (a':=?_) #[true,true,true,true,true,true,false,true,false,false] rfl rfl (by kernel_rfl) (fun _ _ _ h=>h) (Or.inl ⟨by rfl,?_⟩) ?_ ?_
   rotate_left
   · exact wr_
   rotate_left
   · exact ap_
   refine Za (i:=6) (N:=some 13) (v:=?_) (a':=?_) #[true,true,true,true,true,true,true,true,false,false] rfl rfl (by kernel_rfl) (fun _ _ _ h=>h) (Or.inl ⟨by rfl,?_⟩) ?_ ?_
   rotate_left
   · exact wr_
   rotate_left
   · exact ap_
   refine one_ (i:=8) (N:=none) #[true,true,true,true,true,true,true,true,true,false] rfl rfl (by kernel_rfl) (by decide) (fun K hK=>?_)
   refine store_row_ rfl rfl 66 _ _ rfl _ #[.string (Xz aA).2.word,.int .i64 (Xz aA).2.a,.int .i64 (Xz aA).2.b,.bool (Xz aA).2.n,.bool (Xz aA).2.index] rfl rfl 66 _ hg.blk (by kernel_rfl) rfl (by simp [Value.oneCell']) ?_
   have hS:=hHeld.setRow hg (cs:=#[.string (Xz aA).2.word,.int .i64 (Xz aA).2.a,.int .i64 (Xz aA).2.b,.bool (Xz aA).2.n,.bool (Xz aA).2.index]);have hg:=hg.set #[.string (Xz aA).2.word,.int .i64 (Xz aA).2.a,.int .i64 (Xz aA).2.b,.bool (Xz aA).2.n,.bool (Xz aA).2.index];refine hK.out _ _ hS (fun hHeld=>?_)
   clear hK K;refine Za (i:=9) (N:=some 6) (v:=?_) (a':=?_) #[true,true,true,true,true,true,true,true,true,true] rfl rfl (by kernel_rfl) (fun _ _ _ h=>h) (Or.inl ⟨by rfl,?_⟩) ?_ ?_
   rotate_left
   · exact wr_
   rotate_left
   · exact ap_
   refine done_ (by kernel_rfl) ?_
   try go_wp2
   go_meet
   case rel=>exact ⟨_,rfl,rfl,hg.blk,hHeld.box,hHeld.bel⟩
 case rest=>
  obtain ⟨g,rfl,rfl,hg,hb,hB⟩:=hcut
  have g1:wc.cell? ⟨g,1,none⟩=some (.int .i64 (Xz aA).2.a):=by simp [World.cell?,hg]
  have g2:wc.cell? ⟨g,2,none⟩=some (.int .i64 (Xz aA).2.b):=by simp [World.cell?,hg]
  have g4:wc.cell? ⟨g,4,none⟩=some (.bool (Xz aA).2.index):=by simp [World.cell?,hg]
  have b0:wc.cell? ⟨w.heap.size,0,none⟩=some (.int .i64 aA):=by simp [World.cell?,hb]
  have b1:wc.cell? ⟨w.heap.size,1,none⟩=some (.int .i64 aC):=by simp [World.cell?,hb]
  have b2:wc.cell? ⟨w.heap.size,2,none⟩=some (.int .i64 aD):=by simp [World.cell?,hb]
  have b3:wc.cell? ⟨w.heap.size,3,none⟩=some (.int .i64 aB):=by simp [World.cell?,hb]
  clear hg hb
  generalize (Xz aA).1=ok at *
  generalize (Xz aA).2.a=la at *
  generalize (Xz aA).2.b=lb at *
  generalize (Xz aA).2.index=idx at *
  have HB:=Xa.mk hB;clear hB;have fa:=Vt.fits_any aC la;have fb:=Vt.fits_any aD lb;have hr:=HR.out;clear HR
  unfold Vt.tail at hr
  generalize Zq aC la=ra at *
  generalize Zq aD lb=rb at *
  have Fa:=Lib.hid fa;have Fb:=Lib.hid fb;clear fa fb;have HR:=Xa.mk hr;clear hr
  cases ok
  ·obtain rfl:=HR.out;go_wp2
   go_ret
   exact ⟨rfl,by repeat (first|exact HB.out|apply Xy|apply Xk)⟩
  cases ra
  ·obtain rfl:=HR.out;go_wp2_with (go_at_call 45;refine (Fa.out _).mono ?_;rintro e w' ⟨rfl,⟨nd,rfl⟩⟩)
   go_ret
   exact ⟨rfl,by repeat (first|exact HB.out|apply Xy|apply Xk)⟩
  cases rb
  ·obtain rfl:=HR.out;go_wp2_with (fail)
   refine (Fa.out _).mono ?_
   rintro e w' ⟨rfl,⟨nd,rfl⟩⟩
   go_wp2_with (fail)
   refine (Fb.out _).mono ?_
   rintro e w' ⟨rfl,⟨aF,rfl⟩⟩
   go_wp2_with (fail)
   go_ret
   exact ⟨rfl,by repeat (first|exact HB.out|apply Xy|apply Xk)⟩
  have HR2:Xa (Zr aA aB a1 idx=r):=⟨by simpa using HR.out⟩;clear HR;go_wp2_with (fail)
  refine (Fa.out _).mono ?_
  rintro e w' ⟨rfl,⟨nd,rfl⟩⟩
  go_wp2_with (fail)
  refine (Fb.out _).mono ?_
  rintro e w' ⟨rfl,⟨aF,rfl⟩⟩
  cases idx
  ·by_cases h1:aA=1
   ·have c1:(aA == 1)=true:=by simpa using h1
    have hr:=HR2.out;simp only [Zr,h1,if_true,Bool.false_eq_true,if_false] at hr;clear h1 HR2;by_cases h2:-999≤aB
    ·have d2:decide (-999≤aB)=true:=decide_eq_true h2;by_cases h3:aB≤999
     ·have d3:decide (aB≤999)=true:=decide_eq_true h3
      simp [h2,h3] at hr
      clear h2 h3;subst hr;go_wp2
      go_ret
      exact ⟨rfl,by repeat (first|exact HB.out|apply Xy|apply Xk)⟩
     ·have d3:decide (aB≤999)=false:=decide_eq_false h3
      simp [h2,h3] at hr
      clear h2 h3;subst hr;go_wp2
      go_ret
      exact ⟨rfl,by repeat (first|exact HB.out|apply Xy|apply Xk)⟩
    ·have d2:decide (-999≤aB)=false:=decide_eq_false h2;by_cases h3:aB≤999
     ·have d3:decide (aB≤999)=true:=decide_eq_true h3
      simp [h2,h3] at hr
      clear h2 h3;subst hr;go_wp2
      go_ret
      exact ⟨rfl,by repeat (first|exact HB.out|apply Xy|apply Xk)⟩
     ·have d3:decide (aB≤999)=false:=decide_eq_false h3
      simp [h2,h3] at hr
      clear h2 h3;subst hr;go_wp2
      go_ret
      exact ⟨rfl,by repeat (first|exact HB.out|apply Xy|apply Xk)⟩
   ·have c1:(aA == 1)=false:=by simpa using h1
    by_cases h4:aA=2
    ·have c4:(aA == 2)=true:=by simpa using h4
     have hr:=HR2.out;simp only [Zr,h1,h4,if_true,Bool.false_eq_true,if_false] at hr;clear h1 h4 HR2;by_cases h2:1≤aB
     ·have d2:decide (1≤aB)=true:=decide_eq_true h2;by_cases h3:aB≤5
      ·have d3:decide (aB≤5)=true:=decide_eq_true h3
       simp [h2,h3] at hr
       clear h2 h3;subst hr;go_wp2
       go_ret
       exact ⟨rfl,by repeat (first|exact HB.out|apply Xy|apply Xk)⟩
      ·have d3:decide (aB≤5)=false:=decide_eq_false h3
       simp [h2,h3] at hr
       clear h2 h3;subst hr;go_wp2
       go_ret
       exact ⟨rfl,by repeat (first|exact HB.out|apply Xy|apply Xk)⟩
     ·have d2:decide (1≤aB)=false:=decide_eq_false h2;by_cases h3:aB≤5
      ·have d3:decide (aB≤5)=true:=decide_eq_true h3
       simp [h2,h3] at hr
       clear h2 h3;subst hr;go_wp2
       go_ret
       exact ⟨rfl,by repeat (first|exact HB.out|apply Xy|apply Xk)⟩
      ·have d3:decide (aB≤5)=false:=decide_eq_false h3
       simp [h2,h3] at hr
       clear h2 h3;subst hr;go_wp2
       go_ret
       exact ⟨rfl,by repeat (first|exact HB.out|apply Xy|apply Xk)⟩
    ·have c4:(aA == 2)=false:=by simpa using h4
     have hr:=HR2.out;simp only [Zr,h1,h4,if_true,Bool.false_eq_true,if_false] at hr;clear h1 h4 HR2;by_cases h2:aB=0
     ·have c2:(aB == 0)=true:=by simpa using h2
      simp [h2] at hr
      clear h2;subst hr;go_wp2
      go_ret
      exact ⟨rfl,by repeat (first|exact HB.out|apply Xy|apply Xk)⟩
     ·have c2:(aB == 0)=false:=by simpa using h2
      simp [h2] at hr
      clear h2;subst hr;go_wp2
      go_ret
      exact ⟨rfl,by repeat (first|exact HB.out|apply Xy|apply Xk)⟩
  ·have hr:=HR2.out;simp only [Zr,if_true] at hr;clear HR2;by_cases h2:0≤aB
   ·have d2:decide (0≤aB)=true:=decide_eq_true h2;by_cases h3:aB<a1
    ·have d3:decide (aB<a1)=true:=decide_eq_true h3
     simp [h2,h3] at hr
     clear h2 h3;subst hr;go_wp2
     go_ret
     exact ⟨rfl,by repeat (first|exact HB.out|apply Xy|apply Xk)⟩
    ·have d3:decide (aB<a1)=false:=decide_eq_false h3
     simp [h2,h3] at hr
     clear h2 h3;subst hr;go_wp2
     go_ret
     exact ⟨rfl,by repeat (first|exact HB.out|apply Xy|apply Xk)⟩
   ·have d2:decide (0≤aB)=false:=decide_eq_false h2;by_cases h3:aB<a1
    ·have d3:decide (aB<a1)=true:=decide_eq_true h3
     simp [h2,h3] at hr
     clear h2 h3;subst hr;go_wp2
     go_ret
     exact ⟨rfl,by repeat (first|exact HB.out|apply Xy|apply Xk)⟩
    ·have d3:decide (aB<a1)=false:=decide_eq_false h3
     simp [h2,h3] at hr
     clear h2 h3;subst hr;go_wp2
     go_ret
     exact ⟨rfl,by repeat (first|exact HB.out|apply Xy|apply Xk)⟩
theorem Vt.tail_eq (op a b n many:Int):Vt.tail (Xz op).1 (Xz op).2.a (Xz op).2.b (Xz op).2.index op a b n many=Vv op a b n many:=by
 unfold Vt.tail Vv Xz
 cases (insForms.find? (fun p=>p.1 == op)).map (·.2) <;> rfl
theorem impl_insOk.calls (aA:Int) (aC:Int) (aD:Int) (aB:Int) (a1:Int) (r:Bool) (w:World) (h:impl_insOk.f aA aC aD aB a1=some r) :
  Calls Try.prog 26 #[.agg #[.int .i64 aA,.int .i64 aC,.int .i64 aD,.int .i64 aB],.int .i64 a1] w fun e w'=>e=.returned (.bool r)∧Below w.heap.size w w':=
 Vt.walk aA aC aD aB a1 r w ⟨(Vt.tail_eq ..).trans (Option.some.inj h)⟩
end
end Go.Proofs.Ytokajnfbiddpjaa.GSlim
