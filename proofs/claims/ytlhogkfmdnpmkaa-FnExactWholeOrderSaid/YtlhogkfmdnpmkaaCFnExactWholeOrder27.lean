import Derived.Test.YtlhogkfmdnpmkaaCFnExactWholeOrder23
import Derived.Test.YtlhogkfmdnpmkaaCFnExactWholeOrder21
import Derived.Test.YtlhogkfmdnpmkaaCFnExactWholeOrder26
import Derived.Laws.EntriesVeiled
import Derived.Laws.CopyOwn
import Derived.Lib.Hide
import Derived.WalkSpells
set_option maxRecDepth 100000
namespace Go.Proofs.Ytlhogkfmdnpmkaa.StmtOk
open Go.RowKit Go.Proofs.Ytlhogkfmdnpmkaa.GWhole Go.Proofs.YtlhogkfmdnpmkaaW.PrintWords Go.Proofs.YtlhogkfmdnpmkaaW.PrintLast Go.Proofs.YtlhogkfmdnpmkaaW.PrintMore
attribute [local go_sem] Ui Uk max_two min_two Zx Zy Uj Ul
set_option linter.unusedVariables false
set_option linter.unusedSimpArgs false
section
open Go.Proofs.Ytlhogkfmdnpmkaa.HMap Go.Proofs.Ytlhogkfmdnpmkaa.SForms Go.Proofs.Ytlhogkfmdnpmkaa.HStep
abbrev Yf.T:=S69
def Yf.num (k n:Int):Bool:=if k=1 then decide (-999≤n) && decide (n≤999) else if k=2 then decide (1≤n) && decide (n≤5) else decide (n=0)
def Yf.inr (k a room:Int):Int:=if k=8 then a else room
def Yf.tail (ok:Bool) (la lb:Int) (hasB hasE:Bool) (D:Int) (ra rb rn:Bool) (k:Int) (n4 n5:Nat) (room:Int) (p4 p5:Bool):Bool:=
  ok && (!decide (D<1) && (ra && (rb && (rn && (!(!hasB && decide (0<n4)) && (!(!hasE && decide (0<n5)) && ((if k=8 then decide (room = -1) else if k=9 then !decide (room = -1) else true) && (p4 && p5))))))))
def Yf.st:Nat→Yf.T→Int→Bool
  |0,_,_=>false
  |d+1,s,room=>Yf.tail (Yi s.f0).1 (Yi s.f0).2.a (Yi s.f0).2.b (Yi s.f0).2.body (Yi s.f0).2.orElse ((d+1:Nat):Int) (fitsF s.f1 (Yi s.f0).2.a) (fitsF s.f2 (Yi s.f0).2.b) (Yf.num s.f0 s.f3) s.f0 s.f4.length s.f5.length room
      (s.f4.all (fun t=>Yf.st d t (Yf.inr s.f0 s.f1 room))) (s.f5.all (fun t=>Yf.st d t (Yf.inr s.f0 s.f1 room)))
theorem Yf.fits_any (a l:Int) (w:World):Calls Try.prog 82 #[.int .i64 a,.int .i64 l] w fun e w'=>e=.returned (.bool (fitsF a l))∧Below w.heap.size w w':=
  (impl_fits.calls a l (fitsF a l) w (by
    unfold impl_fits.f fitsF
    repeat' split
    all_goals first|(simp_all;done)|(simp_all;omega))).mono (fun e w' h=>⟨h.1,by obtain ⟨n,rfl⟩:=h.2;exact Xh (Below.refl _ _) _⟩)
theorem Yf.num_is (k a b n:Int) (l4 l5:List Yf.T):impl_Stmt_numberOk.f k a b n l4 l5=some (Yf.num k n):=by
  unfold impl_Stmt_numberOk.f Yf.num
  split
  · rename_i h
    simp only [impl_NumOk.f]
    repeat' split
    all_goals first|(simp_all;done)|(simp_all;omega)
  · split
    · simp only [impl_isOp.f]
      repeat' split
      all_goals first|(simp_all;done)|(simp_all;omega)
    · congr 1
structure Yf.S (w:World) (k a b n:Int) (A4:Option Addr) (n4 c4:Nat) (A5:Option Addr) (n5 c5:Nat) (W:World):Prop where
  box:W.heap[w.heap.size]?=some (.cells #[.int .i64 k,.int .i64 a,.int .i64 b,.int .i64 n,.slice A4 n4 c4,.slice A5 n5 c5] 69 (0,0))
  bel:Below w.heap.size w W
  size:w.heap.size<W.heap.size
section
variable {w W W1:World} {k a b n:Int} {A4:Option Addr} {n4 c4:Nat} {A5:Option Addr} {n5 c5:Nat}
theorem Yf.S.below (h:Yf.S w k a b n A4 n4 c4 A5 n5 c5 W) (hb:Below W.heap.size W W1):Yf.S w k a b n A4 n4 c4 A5 n5 c5 W1:=⟨(hb.block _ h.size).trans h.box,Xe h.bel hb,Nat.lt_of_lt_of_le h.size hb.size⟩
theorem Yf.S.alloc (h:Yf.S w k a b n A4 n4 c4 A5 n5 c5 W) (o:Obj):Yf.S w k a b n A4 n4 c4 A5 n5 c5 (W.alloc o):=h.below ((Below.refl _ _).alloc (Nat.le_refl _) o)
theorem Yf.S.cell0 (h:Yf.S w k a b n A4 n4 c4 A5 n5 c5 W):W.cell? ⟨w.heap.size,0,none⟩=some (.int .i64 k):=by simp [World.cell?,h.box]
end
theorem Yf.S.start (w:World) (k a b n:Int) (A4:Option Addr) (n4 c4:Nat) (A5:Option Addr) (n5 c5:Nat):Yf.S w k a b n A4 n4 c4 A5 n5 c5 (w.alloc (.cells #[.int .i64 k,.int .i64 a,.int .i64 b,.int .i64 n,.slice A4 n4 c4,.slice A5 n5 c5] 69)).drew:=
  ⟨World.alloc_heap_new w _,Xl ((Below.refl _ _).alloc (Nat.le_refl _) _),by simp⟩
structure Yf.Blk (w W:World) (g:Nat) (cs:Array Value):Prop where
  blk:W.heap[g]?=some (.cells cs 138 (0,0))
  ge:w.heap.size≤g
theorem Yf.Blk.new (w W:World) (cs:Array Value) (h:w.heap.size≤W.heap.size):Yf.Blk w (W.alloc (.cells cs 138)) W.heap.size cs:=⟨World.alloc_heap_new W _,h⟩
theorem Yf.Blk.below {w W W1:World} {g:Nat} {cs:Array Value} (h:Yf.Blk w W g cs) (hb:Below W.heap.size W W1):Yf.Blk w W1 g cs:=⟨(hb.block _ (Array.getElem?_eq_some_iff.1 h.blk).1).trans h.blk,h.ge⟩
theorem Yf.Blk.set {w W:World} {g:Nat} {cs:Array Value} (h:Yf.Blk w W g cs) (cs':Array Value):Yf.Blk w (W.setRow g cs') g cs':=⟨heap_setRow h.blk,h.ge⟩
theorem Yf.S.setRow {w W:World} {k a b n:Int} {A4:Option Addr} {n4 c4:Nat} {A5:Option Addr} {n5 c5:Nat} {g:Nat} {cs cs0:Array Value} (h:Yf.S w k a b n A4 n4 c4 A5 n5 c5 W) (hg:Yf.Blk w W g cs0):Yf.S w k a b n A4 n4 c4 A5 n5 c5 (W.setRow g cs):=by
  have hne:w.heap.size≠g:=by
    rintro rfl
    have:=h.box.symm.trans hg.blk
    injection this with this
    injection this with _ this
    exact absurd this (by decide)
  exact ⟨(setRow_other _ _ _ _ hne).trans h.box,below_setRow h.bel hg.ge cs,by simp [World.setRow,h.size]⟩
structure Yf.M (w:World) (g:Nat) (word:ByteArray) (la lb:Int) (hasB hasE:Bool) (k a b n:Int) (A4:Option Addr) (n4 c4:Nat) (A5:Option Addr) (n5 c5:Nat) (W:World):Prop where
  blk:W.heap[g]?=some (.cells #[.string word,.int .i64 la,.int .i64 lb,.bool hasB,.bool hasE] 138 (0,0))
  box:W.heap[w.heap.size]?=some (.cells #[.int .i64 k,.int .i64 a,.int .i64 b,.int .i64 n,.slice A4 n4 c4,.slice A5 n5 c5] 69 (0,0))
  bel:Below w.heap.size w W
section
variable {w W W1:World} {g:Nat} {word:ByteArray} {la lb:Int} {hasB hasE:Bool} {k a b n:Int} {A4:Option Addr} {n4 c4:Nat} {A5:Option Addr} {n5 c5:Nat}
theorem Yf.M.below (h:Yf.M w g word la lb hasB hasE k a b n A4 n4 c4 A5 n5 c5 W) (hb:Below W.heap.size W W1):Yf.M w g word la lb hasB hasE k a b n A4 n4 c4 A5 n5 c5 W1:=
  ⟨(hb.block _ (Array.getElem?_eq_some_iff.1 h.blk).1).trans h.blk,(hb.block _ (Array.getElem?_eq_some_iff.1 h.box).1).trans h.box,Xe h.bel hb⟩
theorem Yf.M.cells (h:Yf.M w g word la lb hasB hasE k a b n A4 n4 c4 A5 n5 c5 W):W.cell? ⟨g,1,none⟩=some (.int .i64 la)∧W.cell? ⟨g,2,none⟩=some (.int .i64 lb)∧W.cell? ⟨g,3,none⟩=some (.bool hasB)∧W.cell? ⟨g,4,none⟩=some (.bool hasE)∧
    W.cell? ⟨w.heap.size,0,none⟩=some (.int .i64 k)∧W.cell? ⟨w.heap.size,1,none⟩=some (.int .i64 a)∧W.cell? ⟨w.heap.size,2,none⟩=some (.int .i64 b)∧W.cell? ⟨w.heap.size,3,none⟩=some (.int .i64 n)∧
    W.cell? ⟨w.heap.size,4,none⟩=some (.slice A4 n4 c4)∧W.cell? ⟨w.heap.size,5,none⟩=some (.slice A5 n5 c5):=by
  simp [World.cell?,h.blk,h.box]
end
def Yf.Mid (w:World) (k a b n:Int) (A4:Option Addr) (n4 c4:Nat) (A5:Option Addr) (n5 c5:Nat) (v7 v8:Value) (wc:World):Prop:=
  ∃ g,v7=.pointer (some ⟨g,0,none⟩)∧v8=.bool (Yi k).1∧Yf.M w g (Yi k).2.word (Yi k).2.a (Yi k).2.b (Yi k).2.body (Yi k).2.orElse k a b n A4 n4 c4 A5 n5 c5 wc
set_option maxHeartbeats 16000000 in
theorem Yf.walk (k a b n:Int) (A4:Option Addr) (n4 c4:Nat) (A5:Option Addr) (n5 c5:Nat) (l4 l5:List Yf.T) (aJ:l4.length=n4) (aK:l5.length=n5) (D room:Int) (p4 p5 r:Bool) (w:World)
    (hr:Yf.tail (Yi k).1 (Yi k).2.a (Yi k).2.b (Yi k).2.body (Yi k).2.orElse D (fitsF a (Yi k).2.a) (fitsF b (Yi k).2.b) (Yf.num k n) k n4 n5 room p4 p5=r)
    (aH:Kd.C k69 w A4 n4 l4) (aI:Kd.C k69 w A5 n5 l5) (hl4:n4≤c4) (hl5:n5≤c5)
    (hL4:¬ D<1→∀ W,Kd.C k69 W A4 n4 l4→Calls Try.prog 68 #[.slice A4 n4 c4,.int .i64 (wrap64 (D - 1)),.int .i64 (Yf.inr k a room)] W fun e w'=>e=.returned (.bool p4)∧Below W.heap.size W w')
    (hL5:¬ D<1→∀ W,Kd.C k69 W A5 n5 l5→Calls Try.prog 68 #[.slice A5 n5 c5,.int .i64 (wrap64 (D - 1)),.int .i64 (Yf.inr k a room)] W fun e w'=>e=.returned (.bool p5)∧Below W.heap.size W w') :
    Calls Try.prog 76 #[.agg #[.int .i64 k,.int .i64 a,.int .i64 b,.int .i64 n,.slice A4 n4 c4,.slice A5 n5 c5],.int .i64 D,.int .i64 room] w fun e w'=>e=.returned (.bool r)∧Below w.heap.size w w':=by
  have HR:=Xa.mk hr;have aD:=Xa.mk aH;have aF:=Xa.mk aI;have aB:=Lib.hid hL4;have aC:=Lib.hid hL5
  have HN:Xa (∀ W,Kd.C k69 W A4 n4 l4→Kd.C k69 W A5 n5 l5→Calls Try.prog 83 #[.agg #[.int .i64 k,.int .i64 a,.int .i64 b,.int .i64 n,.slice A4 n4 c4,.slice A5 n5 c5]] W fun e w'=>e=.returned (.bool (Yf.num k n))∧Below W.heap.size W w'):=⟨fun W h4 h5=>by
    subst aJ aK;exact impl_Stmt_numberOk.calls k a b n A4 c4 l4 A5 c5 l5 _ W h4 hl4 h5 hl5 (Yf.num_is ..)⟩
  clear hr aH aI hL4 hL5 aJ aK hl4 hl5
  go_enter Try.func76,Try.ntmps76
  go_upto_region 1 with (fail)
  go_cut [7,8] (fun v7 v8 wc=>Yf.Mid w k a b n A4 n4 c4 A5 n5 c5 v7 v8 wc)
  case first=>
    refine start_ (n:=10) (S:=Yf.S w k a b n A4 n4 c4 A5 n5 c5) (ds:=[]) #[false,false,false,false,false,false,false,false,false,false] (by kernel_rfl) rfl (by rfl) (Yf.S.start w k a b n A4 n4 c4 A5 n5 c5) (fun hHeld=>?_)
    refine Xp (i:=1) (N:=some 11) (v:=?_) (a':=?_) #[false,true,false,false,false,false,false,false,false,false] rfl rfl (by kernel_rfl) (fun _ _ _ h=>h) (Or.inl ⟨by rfl,?_⟩) ?_ ?_
    rotate_left
    · exact wr_
    rotate_left
    · exact ap_
    refine Zp (i:=2) (N:=some 12) (v:=?_) (a':=?_) #[false,true,true,false,false,false,false,false,false,false] rfl rfl (by kernel_rfl) (fun _ _ _ h=>h) (Or.inl ⟨by rfl,?_⟩) hHeld ?_ ?_
    rotate_left
    · rintro w' s0;have c0:=s0.cell0;clear s0
      go_simp
      with_reducible rfl
    rotate_left
    · exact ap_
    refine two_ (i:=0) (j:=7) (Ni:=some 10) (Nj:=some 7) #[true,true,true,false,false,false,false,false,false,false] #[false,true,true,false,false,false,false,true,false,false] rfl rfl rfl rfl (by kernel_rfl) (by decide) (by decide) (fun K hK=>?_) (fun K hK=>?_)
    · skip
      refine goes_ Try.func81 (by kernel_rfl) rfl #[] (by rfl) rfl rfl (by first|done|rfl|simp) ?_
      refine (forms_calls _).mono ?_
      rintro e w1 ⟨b_,rfl,hm,hb,hB1⟩
      refine ⟨_,rfl,?_⟩
      refine hK.out _ _ (hHeld.below hB1) (fun hHeld=>?_)
      clear hK K;refine Zj (a':=?_) ?_ ?_
      rotate_left
      · show Act.put _ (some 10) _=_
        simp only [Act.put,List.setIfInBounds_toArray,List.set_cons_zero,List.set_cons_succ,Zc,Zb];rfl
      refine two_ (i:=3) (j:=7) (Ni:=some 13) (Nj:=some 7) #[true,true,true,true,false,false,false,false,false,false] #[true,true,true,false,false,false,false,true,false,false] rfl rfl rfl rfl (by kernel_rfl) (by decide) (by decide) (fun K hK=>?_) (fun K hK=>?_)
      · skip
        refine lookup_ rfl rfl _ _ _ _ rfl _ _ _ rfl rfl (look_run hm k) ?_
        refine hK.out _ _ hHeld (fun hHeld=>?_)
        clear hK K;refine Zj (a':=?_) ?_ ?_
        rotate_left
        · show Act.put _ (some 13) _=_
          simp only [Act.put,List.setIfInBounds_toArray,List.set_cons_zero,List.set_cons_succ,Zc,Zb];rfl
        refine Xp (i:=4) (N:=some 9) (v:=?_) (a':=?_) #[true,true,true,true,true,false,false,false,false,false] rfl rfl (by kernel_rfl) (fun _ _ _ h=>h) (Or.inl ⟨by rfl,?_⟩) ?_ ?_
        rotate_left
        · exact wr_
        rotate_left
        · exact ap_
        refine Xp (i:=5) (N:=some 14) (v:=?_) (a':=?_) #[true,true,true,true,true,true,false,false,false,false] rfl rfl (by kernel_rfl) (fun _ _ _ h=>h) (Or.inl ⟨by rfl,?_⟩) ?_ ?_
        rotate_left
        · exact wr_
        rotate_left
        · exact ap_
        refine Xp (i:=6) (N:=some 15) (v:=?_) (a':=?_) #[true,true,true,true,true,true,true,false,false,false] rfl rfl (by kernel_rfl) (fun _ _ _ h=>h) (Or.inl ⟨by rfl,?_⟩) ?_ ?_
        rotate_left
        · exact wr_
        rotate_left
        · exact ap_
        refine one_ (i:=7) (N:=some 7) #[true,true,true,true,true,true,true,true,false,false] rfl rfl (by kernel_rfl) (by decide) (fun K hK=>?_)
        refine alloc_ 138 #[.string ⟨#[]⟩,.int .i64 0,.int .i64 0,.bool false,.bool false] rfl rfl rfl (fun W=>by kernel_rfl) ?_
        have hg:=Yf.Blk.new _ _ #[.string ⟨#[]⟩,.int .i64 0,.int .i64 0,.bool false,.bool false] hHeld.bel.size;have hm:=hm.alloc (.cells #[.string ⟨#[]⟩,.int .i64 0,.int .i64 0,.bool false,.bool false] 138);refine hK.out _ _ (hHeld.alloc _) (fun hHeld=>?_)
        clear hK K;refine Zj (a':=?_) ?_ ?_
        rotate_left
        · show Act.put _ (some 7) _=_
          simp only [Act.put,List.setIfInBounds_toArray,List.set_cons_zero,List.set_cons_succ,Zc,Zb];rfl
        refine one_ (i:=8) (N:=none) #[true,true,true,true,true,true,true,true,true,false] rfl rfl (by kernel_rfl) (by decide) (fun K hK=>?_)
        refine store_row_ rfl rfl 138 _ _ rfl _ #[.string (Yi k).2.word,.int .i64 (Yi k).2.a,.int .i64 (Yi k).2.b,.bool (Yi k).2.body,.bool (Yi k).2.orElse] rfl rfl 138 _ hg.blk (by kernel_rfl) rfl (by simp [Value.oneCell']) ?_
        have hS:=hHeld.setRow hg (cs:=#[.string (Yi k).2.word,.int .i64 (Yi k).2.a,.int .i64 (Yi k).2.b,.bool (Yi k).2.body,.bool (Yi k).2.orElse]);have hg:=hg.set #[.string (Yi k).2.word,.int .i64 (Yi k).2.a,.int .i64 (Yi k).2.b,.bool (Yi k).2.body,.bool (Yi k).2.orElse];refine hK.out _ _ hS (fun hHeld=>?_)
        clear hK K;refine Xp (i:=9) (N:=some 8) (v:=?_) (a':=?_) #[true,true,true,true,true,true,true,true,true,true] rfl rfl (by kernel_rfl) (fun _ _ _ h=>h) (Or.inl ⟨by rfl,?_⟩) ?_ ?_
        rotate_left
        · exact wr_
        rotate_left
        · exact ap_
        refine done_ (by kernel_rfl) ?_
        try go_wp2
        go_meet
        case rel=>exact ⟨_,rfl,rfl,by first|exact ⟨hg.blk,hHeld.box,hHeld.bel⟩|(have h_:=Yf.M.mk hg.blk hHeld.box hHeld.bel;simpa using h_)⟩
      · skip
        refine alloc_ 138 #[.string ⟨#[]⟩,.int .i64 0,.int .i64 0,.bool false,.bool false] rfl rfl rfl (fun W=>by kernel_rfl) ?_
        have hg:=Yf.Blk.new _ _ #[.string ⟨#[]⟩,.int .i64 0,.int .i64 0,.bool false,.bool false] hHeld.bel.size;have hm:=hm.alloc (.cells #[.string ⟨#[]⟩,.int .i64 0,.int .i64 0,.bool false,.bool false] 138);refine hK.out _ _ (hHeld.alloc _) (fun hHeld=>?_)
        clear hK K;refine Zj (a':=?_) ?_ ?_
        rotate_left
        · show Act.put _ (some 7) _=_
          simp only [Act.put,List.setIfInBounds_toArray,List.set_cons_zero,List.set_cons_succ,Zc,Zb];rfl
        refine one_ (i:=3) (N:=some 13) #[true,true,true,true,false,false,false,true,false,false] rfl rfl (by kernel_rfl) (by decide) (fun K hK=>?_)
        refine lookup_ rfl rfl _ _ _ _ rfl _ _ _ rfl rfl (look_run hm k) ?_
        refine hK.out _ _ hHeld (fun hHeld=>?_)
        clear hK K;refine Zj (a':=?_) ?_ ?_
        rotate_left
        · show Act.put _ (some 13) _=_
          simp only [Act.put,List.setIfInBounds_toArray,List.set_cons_zero,List.set_cons_succ,Zc,Zb];rfl
        refine Xp (i:=4) (N:=some 9) (v:=?_) (a':=?_) #[true,true,true,true,true,false,false,true,false,false] rfl rfl (by kernel_rfl) (fun _ _ _ h=>h) (Or.inl ⟨by rfl,?_⟩) ?_ ?_
        rotate_left
        · exact wr_
        rotate_left
        · exact ap_
        refine Xp (i:=5) (N:=some 14) (v:=?_) (a':=?_) #[true,true,true,true,true,true,false,true,false,false] rfl rfl (by kernel_rfl) (fun _ _ _ h=>h) (Or.inl ⟨by rfl,?_⟩) ?_ ?_
        rotate_left
        · exact wr_
        rotate_left
        · exact ap_
        refine Xp (i:=6) (N:=some 15) (v:=?_) (a':=?_) #[true,true,true,true,true,true,true,true,false,false] rfl rfl (by kernel_rfl) (fun _ _ _ h=>h) (Or.inl ⟨by rfl,?_⟩) ?_ ?_
        rotate_left
        · exact wr_
        rotate_left
        · exact ap_
        refine one_ (i:=8) (N:=none) #[true,true,true,true,true,true,true,true,true,false] rfl rfl (by kernel_rfl) (by decide) (fun K hK=>?_)
        refine store_row_ rfl rfl 138 _ _ rfl _ #[.string (Yi k).2.word,.int .i64 (Yi k).2.a,.int .i64 (Yi k).2.b,.bool (Yi k).2.body,.bool (Yi k).2.orElse] rfl rfl 138 _ hg.blk (by kernel_rfl) rfl (by simp [Value.oneCell']) ?_
        have hS:=hHeld.setRow hg (cs:=#[.string (Yi k).2.word,.int .i64 (Yi k).2.a,.int .i64 (Yi k).2.b,.bool (Yi k).2.body,.bool (Yi k).2.orElse]);have hg:=hg.set #[.string (Yi k).2.word,.int .i64 (Yi k).2.a,.int .i64 (Yi k).2.b,.bool (Yi k).2.body,.bool (Yi k).2.orElse];refine hK.out _ _ hS (fun hHeld=>?_)
        clear hK K;refine Xp (i:=9) (N:=some 8) (v:=?_) (a':=?_) #[true,true,true,true,true,true,true,true,true,true] rfl rfl (by kernel_rfl) (fun _ _ _ h=>h) (Or.inl ⟨by rfl,?_⟩) ?_ ?_
        rotate_left
        · exact wr_
        rotate_left
        · exact ap_
        refine done_ (by kernel_rfl) ?_
        try go_wp2
        go_meet
        case rel=>exact ⟨_,rfl,rfl,by first|exact ⟨hg.blk,hHeld.box,hHeld.bel⟩|(have h_:=Yf.M.mk hg.blk hHeld.box hHeld.bel;simpa using h_)⟩
    · skip
      refine alloc_ 138 #[.string ⟨#[]⟩,.int .i64 0,.int .i64 0,.bool false,.bool false] rfl rfl rfl (fun W=>by kernel_rfl) ?_
      have hg:=Yf.Blk.new _ _ #[.string ⟨#[]⟩,.int .i64 0,.int .i64 0,.bool false,.bool false] hHeld.bel.size;refine hK.out _ _ (hHeld.alloc _) (fun hHeld=>?_)
      clear hK K;refine Zj (a':=?_) ?_ ?_
      rotate_left
      · show Act.put _ (some 7) _=_
        simp only [Act.put,List.setIfInBounds_toArray,List.set_cons_zero,List.set_cons_succ,Zc,Zb];rfl
      refine one_ (i:=0) (N:=some 10) #[true,true,true,false,false,false,false,true,false,false] rfl rfl (by kernel_rfl) (by decide) (fun K hK=>?_)
      refine goes_ Try.func81 (by kernel_rfl) rfl #[] (by rfl) rfl rfl (by first|done|rfl|simp) ?_
      refine (forms_calls _).mono ?_
      rintro e w1 ⟨b_,rfl,hm,hb,hB1⟩
      refine ⟨_,rfl,?_⟩
      have hg:=hg.below hB1;refine hK.out _ _ (hHeld.below hB1) (fun hHeld=>?_)
      clear hK K;refine Zj (a':=?_) ?_ ?_
      rotate_left
      · show Act.put _ (some 10) _=_
        simp only [Act.put,List.setIfInBounds_toArray,List.set_cons_zero,List.set_cons_succ,Zc,Zb];rfl
      refine one_ (i:=3) (N:=some 13) #[true,true,true,true,false,false,false,true,false,false] rfl rfl (by kernel_rfl) (by decide) (fun K hK=>?_)
      refine lookup_ rfl rfl _ _ _ _ rfl _ _ _ rfl rfl (look_run hm k) ?_
      refine hK.out _ _ hHeld (fun hHeld=>?_)
      clear hK K;refine Zj (a':=?_) ?_ ?_
      rotate_left
      · show Act.put _ (some 13) _=_
        simp only [Act.put,List.setIfInBounds_toArray,List.set_cons_zero,List.set_cons_succ,Zc,Zb];rfl
      refine Xp (i:=4) (N:=some 9) (v:=?_) (a':=?_) #[true,true,true,true,true,false,false,true,false,false] rfl rfl (by kernel_rfl) (fun _ _ _ h=>h) (Or.inl ⟨by rfl,?_⟩) ?_ ?_
      rotate_left
      · exact wr_
      rotate_left
      · exact ap_
      refine Xp (i:=5) (N:=some 14) (v:=?_) (a':=?_) #[true,true,true,true,true,true,false,true,false,false] rfl rfl (by kernel_rfl) (fun _ _ _ h=>h) (Or.inl ⟨by rfl,?_⟩) ?_ ?_
      rotate_left
      · exact wr_
      rotate_left
      · exact ap_
      refine Xp (i:=6) (N:=some 15) (v:=?_) (a':=?_) #[true,true,true,true,true,true,true,true,false,false] rfl rfl (by kernel_rfl) (fun _ _ _ h=>h) (Or.inl ⟨by rfl,?_⟩) ?_ ?_
      rotate_left
      · exact wr_
      rotate_left
      · exact ap_
      refine one_ (i:=8) (N:=none) #[true,true,true,true,true,true,true,true,true,false] rfl rfl (by kernel_rfl) (by decide) (fun K hK=>?_)
      refine store_row_ rfl rfl 138 _ _ rfl _ #[.string (Yi k).2.word,.int .i64 (Yi k).2.a,.int .i64 (Yi k).2.b,.bool (Yi k).2.body,.bool (Yi k).2.orElse] rfl rfl 138 _ hg.blk (by kernel_rfl) rfl (by simp [Value.oneCell']) ?_
      have hS:=hHeld.setRow hg (cs:=#[.string (Yi k).2.word,.int .i64 (Yi k).2.a,.int .i64 (Yi k).2.b,.bool (Yi k).2.body,.bool (Yi k).2.orElse]);have hg:=hg.set #[.string (Yi k).2.word,.int .i64 (Yi k).2.a,.int .i64 (Yi k).2.b,.bool (Yi k).2.body,.bool (Yi k).2.orElse];refine hK.out _ _ hS (fun hHeld=>?_)
      clear hK K;refine Xp (i:=9) (N:=some 8) (v:=?_) (a':=?_) #[true,true,true,true,true,true,true,true,true,true] rfl rfl (by kernel_rfl) (fun _ _ _ h=>h) (Or.inl ⟨by rfl,?_⟩) ?_ ?_
      rotate_left
      · exact wr_
      rotate_left
      · exact ap_
      refine done_ (by kernel_rfl) ?_
      try go_wp2
      go_meet
      case rel=>exact ⟨_,rfl,rfl,by first|exact ⟨hg.blk,hHeld.box,hHeld.bel⟩|(have h_:=Yf.M.mk hg.blk hHeld.box hHeld.bel;simpa using h_)⟩
  case rest=>
    obtain ⟨g,rfl,rfl,hM⟩:=hcut;have HM:=Xa.mk hM;clear hM;obtain ⟨g1,g2,g3,g4,b0,b1,b2,b3,b4,b5⟩:=HM.out.cells
    generalize (Yi k).2.word=word at *
    generalize (Yi k).1=ok at *
    generalize (Yi k).2.a=la at *
    generalize (Yi k).2.b=lb at *
    generalize (Yi k).2.body=hasB at *
    generalize (Yi k).2.orElse=hasE at *
    have fa:=Yf.fits_any a la;have fb:=Yf.fits_any b lb
    generalize fitsF a la=ra at *
    generalize fitsF b lb=rb at *
    generalize Yf.num k n=rn at *
    have Fa:=Lib.hid fa;have Fb:=Lib.hid fb;clear fa fb
    cases ok
    · obtain rfl:r=false:=by rw [← HR.out];simp [Yf.tail, *]
      go_wp2
      go_ret
      exact ⟨rfl,by repeat (first|exact HM.out.bel|apply Xl|apply Xh)⟩
    by_cases dl:D<1
    · have dlb:decide (D<1)=true:=decide_eq_true dl
      obtain rfl:r=false:=by rw [← HR.out];simp [Yf.tail, *]
      go_wp2
      go_ret
      exact ⟨rfl,by repeat (first|exact HM.out.bel|apply Xl|apply Xh)⟩
    replace aB:=Lib.hid (aB.out dl);replace aC:=Lib.hid (aC.out dl);have dlb:decide (D<1)=false:=decide_eq_false dl;go_wp2_with (fail)
    refine (Fa.out _).mono ?_
    rintro e w1 ⟨rfl,aA⟩
    replace HM:=Xa.mk (HM.out.below (Xe (by repeat (first|exact Below.refl _ _|apply Xl|apply Xh)) aA));clear g1 g2 g3 g4 b0 b1 b2 b3 b4 b5 aA;obtain ⟨g1,g2,g3,g4,b0,b1,b2,b3,b4,b5⟩:=HM.out.cells
    cases ra
    · obtain rfl:r=false:=by rw [← HR.out];simp [Yf.tail, *]
      go_wp2
      go_ret
      exact ⟨rfl,by repeat (first|exact HM.out.bel|apply Xl|apply Xh)⟩
    go_wp2_with (fail)
    refine (Fb.out _).mono ?_
    rintro e w2 ⟨rfl,aA⟩
    replace HM:=Xa.mk (HM.out.below (Xe (by repeat (first|exact Below.refl _ _|apply Xl|apply Xh)) aA));clear g1 g2 g3 g4 b0 b1 b2 b3 b4 b5 aA;obtain ⟨g1,g2,g3,g4,b0,b1,b2,b3,b4,b5⟩:=HM.out.cells
    cases rb
    · obtain rfl:r=false:=by rw [← HR.out];simp [Yf.tail, *]
      go_wp2
      go_ret
      exact ⟨rfl,by repeat (first|exact HM.out.bel|apply Xl|apply Xh)⟩
    go_wp2_with (fail)
    refine (HN.out _ (Kd.Xr aD.out (by repeat (first|exact HM.out.bel|apply Xl|apply Xh))) (Kd.Xr aF.out (by repeat (first|exact HM.out.bel|apply Xl|apply Xh)))).mono ?_
    rintro e w3 ⟨rfl,aA⟩
    replace HM:=Xa.mk (HM.out.below (Xe (by repeat (first|exact Below.refl _ _|apply Xl|apply Xh)) aA));clear g1 g2 g3 g4 b0 b1 b2 b3 b4 b5 aA;obtain ⟨g1,g2,g3,g4,b0,b1,b2,b3,b4,b5⟩:=HM.out.cells
    cases rn
    · obtain rfl:r=false:=by rw [← HR.out];simp [Yf.tail, *]
      go_wp2
      go_ret
      exact ⟨rfl,by repeat (first|exact HM.out.bel|apply Xl|apply Xh)⟩
    have HR2:Xa (Yf.tail true la lb hasB hasE 1 true true true k n4 n5 room p4 p5=r):=⟨by rw [← HR.out];simp [Yf.tail, *]⟩;clear HR;have HR:=HR2;clear HR2 dlb dl
    go_upto_region 4 with (fail)
    go_cut [62] (fun v62 wd=>v62=.bool ((!hasB && decide (0<n4))||(!hasE && decide (0<n5)))∧Xa (Yf.M w g word la lb hasB hasE k a b n A4 n4 c4 A5 n5 c5 wd))
    case first=>
      cases hasB
      · rcases Nat.eq_zero_or_pos n4 with m4|m4
        · subst m4
          cases hasE
          · rcases Nat.eq_zero_or_pos n5 with m5|m5
            · subst m5
              go_wp2
              go_meet
              case rel=>exact ⟨by first|rfl|simp [*],⟨HM.out.below (by repeat (first|exact Below.refl _ _|apply Xl|apply Xh))⟩⟩
            · have aG:(n5:Int) > 0:=by omega
              have aO:decide ((n5:Int) > 0)=true:=decide_eq_true aG;go_wp2
              go_meet
              case rel=>exact ⟨by first|rfl|simp [*],⟨HM.out.below (by repeat (first|exact Below.refl _ _|apply Xl|apply Xh))⟩⟩
          · skip
            go_wp2
            go_meet
            case rel=>exact ⟨by first|rfl|simp [*],⟨HM.out.below (by repeat (first|exact Below.refl _ _|apply Xl|apply Xh))⟩⟩
        · have aN:(n4:Int) > 0:=by omega
          have m4b:decide ((n4:Int) > 0)=true:=decide_eq_true aN;go_wp2
          go_meet
          case rel=>exact ⟨by first|rfl|simp [*],⟨HM.out.below (by repeat (first|exact Below.refl _ _|apply Xl|apply Xh))⟩⟩
      · skip
        cases hasE
        · rcases Nat.eq_zero_or_pos n5 with m5|m5
          · subst m5
            go_wp2
            go_meet
            case rel=>exact ⟨by first|rfl|simp [*],⟨HM.out.below (by repeat (first|exact Below.refl _ _|apply Xl|apply Xh))⟩⟩
          · have aG:(n5:Int) > 0:=by omega
            have aO:decide ((n5:Int) > 0)=true:=decide_eq_true aG;go_wp2
            go_meet
            case rel=>exact ⟨by first|rfl|simp [*],⟨HM.out.below (by repeat (first|exact Below.refl _ _|apply Xl|apply Xh))⟩⟩
        · skip
          go_wp2
          go_meet
          case rel=>exact ⟨by first|rfl|simp [*],⟨HM.out.below (by repeat (first|exact Below.refl _ _|apply Xl|apply Xh))⟩⟩
    case rest=>
      obtain ⟨rfl,HM⟩:=hcut;clear g1 g2 g3 g4 b0 b1 b2 b3 b4 b5;obtain ⟨g1,g2,g3,g4,b0,b1,b2,b3,b4,b5⟩:=HM.out.cells;have HR2:Xa ((!((!hasB && decide (0<n4))||(!hasE && decide (0<n5))) && ((if k=8 then decide (room = -1) else if k=9 then !decide (room = -1) else true) && (p4 && p5)))=r):=⟨by rw [← HR.out];simp [Yf.tail,Bool.and_assoc]⟩;clear HR;have HR:=HR2;clear HR2
      generalize ((!hasB && decide (0<n4))||(!hasE && decide (0<n5)))=bad at *
      cases bad
      rotate_left
      · obtain rfl:r=false:=by rw [← HR.out];simp
        go_wp2
        go_ret
        exact ⟨rfl,by repeat (first|exact HM.out.bel|apply Xl|apply Xh)⟩
      have HR2:Xa (((if k=8 then decide (room = -1) else if k=9 then !decide (room = -1) else true) && (p4 && p5))=r):=⟨by rw [← HR.out];simp⟩;clear HR;have HR:=HR2;clear HR2;by_cases k8:k=8
      · have aL:(k == 8)=true:=beq_iff_eq.mpr k8
        have hin:Yf.inr k a room=a:=by simp [Yf.inr,k8]
        by_cases ro:room = -1
        · have rob:(room != -1)=false:=bne_eq_false_iff_eq.mpr ro
          have HF:Xa ((p4 && p5)=r):=⟨by rw [← HR.out];simp [k8,ro]⟩;rw [hin] at aB aC;clear hin HR;go_wp2_with (fail)
          refine (aB.out _ (Kd.Xr aD.out (by repeat (first|exact HM.out.bel|apply Xl|apply Xh)))).mono ?_
          rintro e w5 ⟨rfl,aA⟩
          replace HM:=Xa.mk (HM.out.below (Xe (by repeat (first|exact Below.refl _ _|apply Xl|apply Xh)) aA));clear g1 g2 g3 g4 b0 b1 b2 b3 b4 b5 aA;obtain ⟨g1,g2,g3,g4,b0,b1,b2,b3,b4,b5⟩:=HM.out.cells
          cases p4
          · obtain rfl:false=r:=HF.out
            go_wp2
            go_ret
            exact ⟨rfl,by repeat (first|exact HM.out.bel|apply Xl|apply Xh)⟩
          go_wp2_with (fail)
          refine (aC.out _ (Kd.Xr aF.out (by repeat (first|exact HM.out.bel|apply Xl|apply Xh)))).mono ?_
          rintro e w6 ⟨rfl,aA⟩
          replace HM:=Xa.mk (HM.out.below (Xe (by repeat (first|exact Below.refl _ _|apply Xl|apply Xh)) aA));clear g1 g2 g3 g4 b0 b1 b2 b3 b4 b5 aA;obtain ⟨g1,g2,g3,g4,b0,b1,b2,b3,b4,b5⟩:=HM.out.cells;obtain rfl:p5=r:=HF.out;go_wp2
          go_ret
          exact ⟨rfl,by repeat (first|exact HM.out.bel|apply Xl|apply Xh)⟩
        · have rob:(room != -1)=true:=bne_iff_ne.mpr ro
          obtain rfl:r=false:=by rw [← HR.out];simp [k8,ro]
          go_wp2
          go_ret
          exact ⟨rfl,by repeat (first|exact HM.out.bel|apply Xl|apply Xh)⟩
      have aL:(k == 8)=false:=beq_eq_false_iff_ne.mpr k8
      have hin:Yf.inr k a room=room:=by simp [Yf.inr,k8]
      by_cases k9:k=9
      · have aM:(k == 9)=true:=beq_iff_eq.mpr k9
        by_cases ro:room = -1
        · have rob:(room == -1)=true:=beq_iff_eq.mpr ro
          obtain rfl:r=false:=by rw [← HR.out];simp [k9,ro]
          go_wp2
          go_ret
          exact ⟨rfl,by repeat (first|exact HM.out.bel|apply Xl|apply Xh)⟩
        have rob:(room == -1)=false:=beq_eq_false_iff_ne.mpr ro;have HF:Xa ((p4 && p5)=r):=⟨by rw [← HR.out];simp [k9,ro]⟩;rw [hin] at aB aC;clear hin HR;go_wp2_with (fail)
        refine (aB.out _ (Kd.Xr aD.out (by repeat (first|exact HM.out.bel|apply Xl|apply Xh)))).mono ?_
        rintro e w5 ⟨rfl,aA⟩
        replace HM:=Xa.mk (HM.out.below (Xe (by repeat (first|exact Below.refl _ _|apply Xl|apply Xh)) aA));clear g1 g2 g3 g4 b0 b1 b2 b3 b4 b5 aA;obtain ⟨g1,g2,g3,g4,b0,b1,b2,b3,b4,b5⟩:=HM.out.cells
        cases p4
        · obtain rfl:false=r:=HF.out
          go_wp2
          go_ret
          exact ⟨rfl,by repeat (first|exact HM.out.bel|apply Xl|apply Xh)⟩
        go_wp2_with (fail)
        refine (aC.out _ (Kd.Xr aF.out (by repeat (first|exact HM.out.bel|apply Xl|apply Xh)))).mono ?_
        rintro e w6 ⟨rfl,aA⟩
        replace HM:=Xa.mk (HM.out.below (Xe (by repeat (first|exact Below.refl _ _|apply Xl|apply Xh)) aA));clear g1 g2 g3 g4 b0 b1 b2 b3 b4 b5 aA;obtain ⟨g1,g2,g3,g4,b0,b1,b2,b3,b4,b5⟩:=HM.out.cells;obtain rfl:p5=r:=HF.out;go_wp2
        go_ret
        exact ⟨rfl,by repeat (first|exact HM.out.bel|apply Xl|apply Xh)⟩
      have aM:(k == 9)=false:=beq_eq_false_iff_ne.mpr k9;have HF:Xa ((p4 && p5)=r):=⟨by rw [← HR.out];simp [k8,k9]⟩;rw [hin] at aB aC;clear hin HR;go_wp2_with (fail)
      refine (aB.out _ (Kd.Xr aD.out (by repeat (first|exact HM.out.bel|apply Xl|apply Xh)))).mono ?_
      rintro e w5 ⟨rfl,aA⟩
      replace HM:=Xa.mk (HM.out.below (Xe (by repeat (first|exact Below.refl _ _|apply Xl|apply Xh)) aA));clear g1 g2 g3 g4 b0 b1 b2 b3 b4 b5 aA;obtain ⟨g1,g2,g3,g4,b0,b1,b2,b3,b4,b5⟩:=HM.out.cells
      cases p4
      · obtain rfl:false=r:=HF.out
        go_wp2
        go_ret
        exact ⟨rfl,by repeat (first|exact HM.out.bel|apply Xl|apply Xh)⟩
      go_wp2_with (fail)
      refine (aC.out _ (Kd.Xr aF.out (by repeat (first|exact HM.out.bel|apply Xl|apply Xh)))).mono ?_
      rintro e w6 ⟨rfl,aA⟩
      replace HM:=Xa.mk (HM.out.below (Xe (by repeat (first|exact Below.refl _ _|apply Xl|apply Xh)) aA));clear g1 g2 g3 g4 b0 b1 b2 b3 b4 b5 aA;obtain ⟨g1,g2,g3,g4,b0,b1,b2,b3,b4,b5⟩:=HM.out.cells;obtain rfl:p5=r:=HF.out;go_wp2
      go_ret
      exact ⟨rfl,by repeat (first|exact HM.out.bel|apply Xl|apply Xh)⟩
end
end Go.Proofs.Ytlhogkfmdnpmkaa.StmtOk
