import Derived.Test.YtdkcjecllbdljaaDoorCFnCodeLines22
import Derived.Test.YtdkcjecllbdljaaDoorCFnCodeLines34
import Derived.Test.YtdkcjecllbdljaaDoorCFnCodeLines40
import Derived.Test.YtdkcjecllbdljaaDoorCFnCodeLines32
import Derived.Test.YtdkcjecllbdljaaDoorCFnCodeLines33
import Derived.Test.YtdkcjecllbdljaaDoorCFnCodeLines0
import Derived.Laws.EntriesVeiled
import Derived.Laws.CopyOwn
import Derived.Lib.Hide
namespace Go.Proofs.YtdkcjecllbdljaaDoor.GCode
open Go.RowKit Go.Proofs.YtdkcjecllbdljaaDoorW.PrintWords Go.Proofs.YtdkcjecllbdljaaDoorW.PrintLast Go.Proofs.YtdkcjecllbdljaaDoorW.PrintMore
attribute [local go_sem] Zy Ua Uo Uq Zp Zq Zz Ub
set_option linter.unusedVariables false
set_option linter.unusedSimpArgs false
section
open Go.Proofs.YtdkcjecllbdljaaDoor.HMap Go.Proofs.YtdkcjecllbdljaaDoor.HForms Go.Proofs.YtdkcjecllbdljaaDoor.HStep
def Yt.l0:Nat→List ByteArray→List Bool→Int→Int→Int→Int→Int→Int→Option (ByteArray)
 |0,_,_,_,_,_,_,_,_=>none
 |k+1,x4,x22,x23,x24,x262000,x262001,x262002,x262003=>if x24<x23 then (if 0≤x24 then (if x24<(x22.length:Int) then (if rdOf false x22 x24=true then ((some (([x262001,x262002,x262003]:List Int):List Int)).bind fun y270=>(if x24<(y270.length:Int) then ((strconv_Itoa.f (rd y270 x24)).bind fun t274=>(if x4.length<8796093022208 then (Yt.l0 k (x4 ++ [t274]) x22 x23 (wrap64 (x24+1)) x262000 x262001 x262002 x262003) else (none))) else (none))) else (Yt.l0 k x4 x22 x23 (wrap64 (x24+1)) x262000 x262001 x262002 x262003)) else (none)) else (none)) else ((strings_Join.f x4 (⟨#[32]⟩:ByteArray)).bind fun t278=>(some t278))
def Yt.fF (k:Nat) (a0_0:Int) (a0_1:Int) (a0_2:Int) (a0_3:Int) (a1_0:ByteArray) (a1_1:Int) (a1_2:Int) (a1_3:Bool) (a1_4:Bool):Option (ByteArray):=(some (([decide (a1_1 > 0),decide (a1_2 > 0),a1_3]:List Bool):List Bool)).bind fun y266=>(Yt.l0 k (([a1_0]:List ByteArray)) y266 (y266.length:Int) 0 a0_0 a0_1 a0_2 a0_3)
def Yt.f (k:Nat) (a0_0:Int) (a0_1:Int) (a0_2:Int) (a0_3:Int):Option (ByteArray):=Yt.fF k a0_0 a0_1 a0_2 a0_3 (Xz a0_0).2.word (Xz a0_0).2.a (Xz a0_0).2.b (Xz a0_0).2.n (Xz a0_0).2.index
theorem line.look_run1 {W:World} {b:Nat} (h:IntMap W b insMap) (op:Int) :
  (Instr.lookup 50 (.map (some b)) (.int .i64 op) false).run Tryd.prog W =
   .ok (.agg #[.string (Xz op).2.word,.int .i64 (Xz op).2.a,.int .i64 (Xz op).2.b,.bool (Xz op).2.n,.bool (Xz op).2.index]) W:=by
 have hz:(zeroValue 49).run Tryd.prog W=.ok noForm.val W:=by kernel_rfl
 rw [run_lookup_im Tryd.underlying50 Tryd.underlying3 h op false _ hz,(look_is op).2];rfl
theorem line.ne {w W:World} {op a b n:Int} {g:Nat} {cs0:Array Value} (h:Uj.S w op a b n W) (hg:Uj.Blk w W g cs0):w.heap.size≠g:=by
 rintro rfl
 have:=h.box.symm.trans hg.blk
 injection this with this
 injection this with _ this
 exact absurd this (by decide)
def line.Mid (w:World) (op a b n:Int) (v1 v3:Value) (wc:World):Prop:=
 ∃ g1 g,v1=.pointer (some ⟨g1,0,none⟩)∧v3=.pointer (some ⟨g,0,none⟩)∧
  wc.heap[g1]?=some (.cells #[.int .i64 op,.int .i64 a,.int .i64 b,.int .i64 n] 36 (0,0))∧
  wc.heap[g]?=some (.cells #[.string (Xz op).2.word,.int .i64 (Xz op).2.a,.int .i64 (Xz op).2.b,.bool (Xz op).2.n,.bool (Xz op).2.index] 49 (0,0))∧
  w.heap.size≤g1∧w.heap.size≤g∧g1≠g∧Below w.heap.size w wc
set_option maxHeartbeats 8000000 in
set_option maxRecDepth 100000 in
theorem Yt.calls (k:Nat) (a0_0:Int) (a0_1:Int) (a0_2:Int) (a0_3:Int) (r:ByteArray) (w:World) (h:Yt.f k a0_0 a0_1 a0_2 a0_3=some r) (ht:Go.Proofs.YtdkcjecllbdljaaDoor.Shelf2.Tab w) :
  Calls Tryd.prog 17 #[.agg #[.int .i64 a0_0,.int .i64 a0_1,.int .i64 a0_2,.int .i64 a0_3]] w fun e w'=>e=.returned (.string r)∧Below w.heap.size w w':=by
 have HT:=Xa.mk ht;clear ht;have HC0:=Xa.mk h;clear h
 go_enter Tryd.func17,Tryd.ntmps17
 go_upto_region 2 with (fail)
 go_cut [1,3] (fun v1 v3 wc=>line.Mid w a0_0 a0_1 a0_2 a0_3 v1 v3 wc)
 case first=>
  refine start_ (n:=6) (S:=Uj.S w a0_0 a0_1 a0_2 a0_3) (ds:=[]) #[false,false,false,false,false,false] (by kernel_rfl) rfl (by rfl) (Uj.S.start w a0_0 a0_1 a0_2 a0_3) (fun hHeld=>?_)
  refine Zb (i:=1) (N:=some 8) (v:=?_) (a':=?_) #[false,true,false,false,false,false] rfl rfl (by kernel_rfl) (fun _ _ _ h=>h) (Or.inl ⟨by rfl,?_⟩) ?_ ?_
  rotate_left
  ·intro w';go_simp
   with_reducible rfl
  rotate_left
  ·simp only [Act.put,List.setIfInBounds_toArray,List.set_cons_zero,List.set_cons_succ,Xt,Xu];rfl
  refine take_ (i:=2) (N:=some 9) (v:=?_) (a':=?_) #[false,true,true,false,false,false] rfl rfl (by kernel_rfl) (fun _ _ _ h=>h) (Or.inl ⟨by rfl,?_⟩) hHeld ?_ ?_
  rotate_left
  ·rintro w' s0;have c0:=s0.cell0;clear s0
   go_simp
   with_reducible rfl
  rotate_left
  ·simp only [Act.put,List.setIfInBounds_toArray,List.set_cons_zero,List.set_cons_succ,Xt,Xu];rfl
  refine two_ (i:=0) (j:=4) (Ni:=some 7) (Nj:=some 3) #[true,true,true,false,false,false] #[false,true,true,false,true,false] rfl rfl rfl rfl (by kernel_rfl) (by decide) (by decide) (fun K hK=>?_) (fun K hK=>?_)
  ·skip
   refine goes_ Tryd.func24 (by kernel_rfl) rfl #[] (by rfl) rfl rfl (by first|done|rfl|simp) ?_
   refine (insForms_calls _).mono ?_
   rintro e w1 ⟨b,rfl,hm,hb,hB1⟩
   refine ⟨_,rfl,?_⟩
   refine hK.out _ _ (hHeld.below hB1) (fun hHeld=>?_)
   clear hK K;refine Uf (a':=?_) ?_ ?_
   rotate_left
   ·show Act.put _ (some 7) _=_
    simp only [Act.put,List.setIfInBounds_toArray,List.set_cons_zero,List.set_cons_succ,Xt,Xu];rfl
   refine two_ (i:=3) (j:=4) (Ni:=some 10) (Nj:=some 3) #[true,true,true,true,false,false] #[true,true,true,false,true,false] rfl rfl rfl rfl (by kernel_rfl) (by decide) (by decide) (fun K hK=>?_) (fun K hK=>?_)
   ·skip
    refine lookup_ rfl rfl _ _ _ _ rfl _ _ _ rfl rfl (line.look_run1 hm a0_0) ?_
    refine hK.out _ _ hHeld (fun hHeld=>?_)
    clear hK K;refine Uf (a':=?_) ?_ ?_
    rotate_left
    ·show Act.put _ (some 10) _=_
     simp only [Act.put,List.setIfInBounds_toArray,List.set_cons_zero,List.set_cons_succ,Xt,Xu];rfl
    refine one_ (i:=4) (N:=some 3) #[true,true,true,true,true,false] rfl rfl (by kernel_rfl) (by decide) (fun K hK=>?_)
    refine alloc_ 49 #[.string ⟨#[]⟩,.int .i64 0,.int .i64 0,.bool false,.bool false] rfl rfl rfl (fun W=>by kernel_rfl) ?_
    have hg:=Uj.Blk.new _ _ #[.string ⟨#[]⟩,.int .i64 0,.int .i64 0,.bool false,.bool false] hHeld.bel.size;have hm:=hm.alloc (.cells #[.string ⟨#[]⟩,.int .i64 0,.int .i64 0,.bool false,.bool false] 49);refine hK.out _ _ (hHeld.alloc _) (fun hHeld=>?_)
    clear hK K;refine Uf (a':=?_) ?_ ?_
    rotate_left
    ·show Act.put _ (some 3) _=_
     simp only [Act.put,List.setIfInBounds_toArray,List.set_cons_zero,List.set_cons_succ,Xt,Xu];rfl
    refine one_ (i:=5) (N:=none) #[true,true,true,true,true,true] rfl rfl (by kernel_rfl) (by decide) (fun K hK=>?_)
    refine store_row_ rfl rfl 49 _ _ rfl _ #[.string (Xz a0_0).2.word,.int .i64 (Xz a0_0).2.a,.int .i64 (Xz a0_0).2.b,.bool (Xz a0_0).2.n,.bool (Xz a0_0).2.index] rfl rfl 49 _ hg.blk (by kernel_rfl) rfl (by simp [Value.oneCell']) ?_
    have hS:=hHeld.setRow hg (cs:=#[.string (Xz a0_0).2.word,.int .i64 (Xz a0_0).2.a,.int .i64 (Xz a0_0).2.b,.bool (Xz a0_0).2.n,.bool (Xz a0_0).2.index]);have hg:=hg.set #[.string (Xz a0_0).2.word,.int .i64 (Xz a0_0).2.a,.int .i64 (Xz a0_0).2.b,.bool (Xz a0_0).2.n,.bool (Xz a0_0).2.index];refine hK.out _ _ hS (fun hHeld=>?_)
    clear hK K;refine done_ (by kernel_rfl) ?_
    try go_wp2
    go_meet
    case rel=>exact ⟨_,_,rfl,rfl,hHeld.box,hg.blk,Nat.le_refl _,hg.ge,line.ne hHeld hg,hHeld.bel⟩
   ·skip
    refine alloc_ 49 #[.string ⟨#[]⟩,.int .i64 0,.int .i64 0,.bool false,.bool false] rfl rfl rfl (fun W=>by kernel_rfl) ?_
    have hg:=Uj.Blk.new _ _ #[.string ⟨#[]⟩,.int .i64 0,.int .i64 0,.bool false,.bool false] hHeld.bel.size;have hm:=hm.alloc (.cells #[.string ⟨#[]⟩,.int .i64 0,.int .i64 0,.bool false,.bool false] 49);refine hK.out _ _ (hHeld.alloc _) (fun hHeld=>?_)
    clear hK K;refine Uf (a':=?_) ?_ ?_
    rotate_left
    ·show Act.put _ (some 3) _=_
     simp only [Act.put,List.setIfInBounds_toArray,List.set_cons_zero,List.set_cons_succ,Xt,Xu];rfl
    refine one_ (i:=3) (N:=some 10) #[true,true,true,true,true,false] rfl rfl (by kernel_rfl) (by decide) (fun K hK=>?_)
    refine lookup_ rfl rfl _ _ _ _ rfl _ _ _ rfl rfl (line.look_run1 hm a0_0) ?_
    refine hK.out _ _ hHeld (fun hHeld=>?_)
    clear hK K;refine Uf (a':=?_) ?_ ?_
    rotate_left
    ·show Act.put _ (some 10) _=_
     simp only [Act.put,List.setIfInBounds_toArray,List.set_cons_zero,List.set_cons_succ,Xt,Xu];rfl
    refine one_ (i:=5) (N:=none) #[true,true,true,true,true,true] rfl rfl (by kernel_rfl) (by decide) (fun K hK=>?_)
    refine store_row_ rfl rfl 49 _ _ rfl _ #[.string (Xz a0_0).2.word,.int .i64 (Xz a0_0).2.a,.int .i64 (Xz a0_0).2.b,.bool (Xz a0_0).2.n,.bool (Xz a0_0).2.index] rfl rfl 49 _ hg.blk (by kernel_rfl) rfl (by simp [Value.oneCell']) ?_
    have hS:=hHeld.setRow hg (cs:=#[.string (Xz a0_0).2.word,.int .i64 (Xz a0_0).2.a,.int .i64 (Xz a0_0).2.b,.bool (Xz a0_0).2.n,.bool (Xz a0_0).2.index]);have hg:=hg.set #[.string (Xz a0_0).2.word,.int .i64 (Xz a0_0).2.a,.int .i64 (Xz a0_0).2.b,.bool (Xz a0_0).2.n,.bool (Xz a0_0).2.index];refine hK.out _ _ hS (fun hHeld=>?_)
    clear hK K;refine done_ (by kernel_rfl) ?_
    try go_wp2
    go_meet
    case rel=>exact ⟨_,_,rfl,rfl,hHeld.box,hg.blk,Nat.le_refl _,hg.ge,line.ne hHeld hg,hHeld.bel⟩
  ·skip
   refine alloc_ 49 #[.string ⟨#[]⟩,.int .i64 0,.int .i64 0,.bool false,.bool false] rfl rfl rfl (fun W=>by kernel_rfl) ?_
   have hg:=Uj.Blk.new _ _ #[.string ⟨#[]⟩,.int .i64 0,.int .i64 0,.bool false,.bool false] hHeld.bel.size;refine hK.out _ _ (hHeld.alloc _) (fun hHeld=>?_)
   clear hK K;refine Uf (a':=?_) ?_ ?_
   rotate_left
   ·show Act.put _ (some 3) _=_
    simp only [Act.put,List.setIfInBounds_toArray,List.set_cons_zero,List.set_cons_succ,Xt,Xu];rfl
   refine one_ (i:=0) (N:=some 7) #[true,true,true,false,true,false] rfl rfl (by kernel_rfl) (by decide) (fun K hK=>?_)
   refine goes_ Tryd.func24 (by kernel_rfl) rfl #[] (by rfl) rfl rfl (by first|done|rfl|simp) ?_
   refine (insForms_calls _).mono ?_
   rintro e w1 ⟨b,rfl,hm,hb,hB1⟩
   refine ⟨_,rfl,?_⟩
   have hg:=hg.below hB1;refine hK.out _ _ (hHeld.below hB1) (fun hHeld=>?_)
   clear hK K;refine Uf (a':=?_) ?_ ?_
   rotate_left
   ·show Act.put _ (some 7) _=_
    simp only [Act.put,List.setIfInBounds_toArray,List.set_cons_zero,List.set_cons_succ,Xt,Xu];rfl
   refine one_ (i:=3) (N:=some 10) #[true,true,true,true,true,false] rfl rfl (by kernel_rfl) (by decide) (fun K hK=>?_)
   refine lookup_ rfl rfl _ _ _ _ rfl _ _ _ rfl rfl (line.look_run1 hm a0_0) ?_
   refine hK.out _ _ hHeld (fun hHeld=>?_)
   clear hK K;refine Uf (a':=?_) ?_ ?_
   rotate_left
   ·show Act.put _ (some 10) _=_
    simp only [Act.put,List.setIfInBounds_toArray,List.set_cons_zero,List.set_cons_succ,Xt,Xu];rfl
   refine one_ (i:=5) (N:=none) #[true,true,true,true,true,true] rfl rfl (by kernel_rfl) (by decide) (fun K hK=>?_)
   refine store_row_ rfl rfl 49 _ _ rfl _ #[.string (Xz a0_0).2.word,.int .i64 (Xz a0_0).2.a,.int .i64 (Xz a0_0).2.b,.bool (Xz a0_0).2.n,.bool (Xz a0_0).2.index] rfl rfl 49 _ hg.blk (by kernel_rfl) rfl (by simp [Value.oneCell']) ?_
   have hS:=hHeld.setRow hg (cs:=#[.string (Xz a0_0).2.word,.int .i64 (Xz a0_0).2.a,.int .i64 (Xz a0_0).2.b,.bool (Xz a0_0).2.n,.bool (Xz a0_0).2.index]);have hg:=hg.set #[.string (Xz a0_0).2.word,.int .i64 (Xz a0_0).2.a,.int .i64 (Xz a0_0).2.b,.bool (Xz a0_0).2.n,.bool (Xz a0_0).2.index];refine hK.out _ _ hS (fun hHeld=>?_)
   clear hK K;refine done_ (by kernel_rfl) ?_
   try go_wp2
   go_meet
   case rel=>exact ⟨_,_,rfl,rfl,hHeld.box,hg.blk,Nat.le_refl _,hg.ge,line.ne hHeld hg,hHeld.bel⟩
 case rest=>
  have hu36:=Tryd.underlying36;have hu49:=Tryd.underlying49;have h:=HC0.out;clear HC0
  unfold Yt.f at h
  obtain ⟨gb261,gb262,rfl,rfl,b1,b2,b3,b4,b5,b6⟩:=hcut
  generalize (Xz a0_0).2.word=a1_0 at *
  generalize (Xz a0_0).2.a=a1_1 at *
  generalize (Xz a0_0).2.b=a1_2 at *
  generalize (Xz a0_0).2.n=a1_3 at *
  generalize (Xz a0_0).2.index=a1_4 at *
  have BK261:=Xa.mk b1;have BK262:=Xa.mk b2;have GE261:=Xa.mk b3;have GW261:=Xa.mk b3;have GE262:=Xa.mk b4;have GW262:=Xa.mk b4;have NB261_262:=Xa.mk b5;have NB262_261:=Xa.mk b5.symm;have HB:=Xa.mk b6;clear b1 b2 b3 b4 b5 b6;have hnb5:=NB262_261.out;have hnc5:=NB261_262.out;obtain ⟨hcz6_0,hcz6_1,hcz6_2,hcz6_3,hcz6_4⟩:=bc5_ BK262.out;obtain ⟨hfz6_0,hfz6_1,hfz6_2,hfz6_3,hfz6_4⟩:=bf5_ BK262.out;have H:((some (([decide (a1_1 > 0),decide (a1_2 > 0),a1_3]:List Bool):List Bool)).bind fun y266=>(Yt.l0 k (([a1_0]:List ByteArray)) y266 (y266.length:Int) 0 a0_0 a0_1 a0_2 a0_3))=some r:=h;clear h;obtain ⟨y263,hy263⟩:∃ y_:List ByteArray,y_=(([a1_0]:List ByteArray)):=⟨_,rfl⟩
  replace H:((some (([decide (a1_1 > 0),decide (a1_2 > 0),a1_3]:List Bool):List Bool)).bind fun y266=>(Yt.l0 k y263 y266 (y266.length:Int) 0 a0_0 a0_1 a0_2 a0_3))=some r:=by subst hy263;first|with_reducible exact H|(have z:=(Option.bind_some _ _).symm.trans H;with_reducible exact z)|exact H
  have Ny263:=Xa.mk hy263;clear hy263;obtain ⟨y266,hy266⟩:∃ y_:List Bool,y_=(([decide (a1_1 > 0),decide (a1_2 > 0),a1_3]:List Bool)):=⟨_,rfl⟩
  replace H:(Yt.l0 k y263 y266 (y266.length:Int) 0 a0_0 a0_1 a0_2 a0_3)=some r:=by subst hy266;first|with_reducible exact H|(have z:=(Option.bind_some _ _).symm.trans H;with_reducible exact z)|exact H
  have Ny266:=Xa.mk hy266;clear hy266;have H':=Xa.mk H;clear H;go_wp2_with (first|((with_reducible refine Xq (N:=13) rfl ?_);refine Kd.Ug Kd.string _ 9 ?hg (N:=13) ?hd (xs:=([a1_0]:List ByteArray)) (inner:=[.string a1_0]) (ok:=fun _=>True) (okp:=fun _=>True) ?hr ?hp (fun _ hk=>hk) trivial (Below.refl _ _) (Nat.le_refl _) (by simp) ?_;(case hd=>rfl);(case hg=>rfl);(case hr=>first|(go_simp;done)|(go_simp;rfl));(case hp=>exact (Xl.one (show Kd.M Kd.string _ _ _ a1_0 [.string a1_0] from rfl) (Xl.none _ _)));intro v264 w7 ho8 hb hg_ hnew_;clear hg_ hnew_;(first|rw [← Ny263.out] at ho8|(simp only [Int.reduceToNat] at ho8;rw [← Ny263.out] at ho8));have n0_:=Xa.mk (Kd.Ye ho8 (Xd (bl_ HB)));have n1_:=Xa.mk (Ym (g:=gb261) (o:=.cells #[.int .i64 a0_0,.int .i64 a0_1,.int .i64 a0_2,.int .i64 a0_3] 36 (0,0)) (ba_ BK261) hb);have n2_:=Xa.mk (Ym (g:=gb262) (o:=.cells #[.string a1_0,.int .i64 a1_1,.int .i64 a1_2,.bool a1_3,.bool a1_4] 49 (0,0)) (ba_ BK262) hb);have n3_:=Xa.mk (Xc (bl_ HB) hb);clear BK261;clear BK262;clear HB;have HO265:=n0_;have BK261:=n1_;have BK262:=n2_;have HB:=n3_;clear n0_ n1_ n2_ n3_;clear hb ho8;obtain ⟨hcz9_0,hcz9_1,hcz9_2,hcz9_3,hcz9_4⟩:=bc5_ BK262.out;obtain ⟨hfz9_0,hfz9_1,hfz9_2,hfz9_3,hfz9_4⟩:=bf5_ BK262.out)|((with_reducible refine Xq (N:=22) rfl ?_);refine Kd.Ug Kd.bool _ 4 ?hg (N:=22) ?hd (xs:=([decide (a1_1 > 0),decide (a1_2 > 0),a1_3]:List Bool)) (inner:=[.bool (decide (a1_1 > 0)),.bool (decide (a1_2 > 0)),.bool a1_3]) (ok:=fun _=>True) (okp:=fun _=>True) ?hr ?hp (fun _ hk=>hk) trivial (Below.refl _ _) (Nat.le_refl _) (by simp) ?_;(case hd=>rfl);(case hg=>rfl);(case hr=>first|(go_simp;done)|(go_simp;rfl));(case hp=>exact (Xl.one (show Kd.M Kd.bool _ _ _ (decide (a1_1 > 0)) [.bool (decide (a1_1 > 0))] from rfl) (Xl.one (show Kd.M Kd.bool _ _ _ (decide (a1_2 > 0)) [.bool (decide (a1_2 > 0))] from rfl) (Xl.one (show Kd.M Kd.bool _ _ _ a1_3 [.bool a1_3] from rfl) (Xl.none _ _)))));intro v267 w10 ho11 hb hg_ hnew_;clear hg_ hnew_;(first|rw [← Ny266.out] at ho11|(simp only [Int.reduceToNat] at ho11;rw [← Ny266.out] at ho11));have n0_:=Xa.mk (Kd.Uc (Kd.ra_ (HO265.out)) hb);have n1_:=Xa.mk (Kd.Ye ho11 (Xd (bl_ HB)));have n2_:=Xa.mk (Ym (g:=gb261) (o:=.cells #[.int .i64 a0_0,.int .i64 a0_1,.int .i64 a0_2,.int .i64 a0_3] 36 (0,0)) (ba_ BK261) hb);have n3_:=Xa.mk (Ym (g:=gb262) (o:=.cells #[.string a1_0,.int .i64 a1_1,.int .i64 a1_2,.bool a1_3,.bool a1_4] 49 (0,0)) (ba_ BK262) hb);have n4_:=Xa.mk (Xc (bl_ HB) hb);clear HO265;clear BK261;clear BK262;clear HB;have HO265:=n0_;have HO268:=n1_;have BK261:=n2_;have BK262:=n3_;have HB:=n4_;clear n0_ n1_ n2_ n3_ n4_;clear hb ho11;obtain ⟨Ao12,co12,eo12⟩:=Kd.Zd HO268.out;subst eo12))
  go_loopg [4,24] k (fun kq v4 v24 w'=>∃ (x4_1:List ByteArray) (x24_1:Int),v24=.int .i64 x24_1∧Xa (Yt.l0 kq x4_1 y266 (y266.length:Int) x24_1 a0_0 a0_1 a0_2 a0_3=some r)∧Xa (kq≤k)∧Xa (Kd.R Kd.string 9 w' w.heap.size (fun _=>True) v4 x4_1)∧Xa (Kd.R Kd.bool 4 w' w.heap.size (fun _=>True) (.slice Ao12 y266.length co12) y266)∧Xa (w'.heap[gb261]?=some (.cells #[.int .i64 a0_0,.int .i64 a0_1,.int .i64 a0_2,.int .i64 a0_3] 36 (0,0)))∧Xa (w'.heap[gb262]?=some (.cells #[.string a1_0,.int .i64 a1_1,.int .i64 a1_2,.bool a1_3,.bool a1_4] 49 (0,0)))∧Xa (Below w.heap.size w w'))
  case atStart=>exact ⟨(y263),(0),(by first|rfl|(simp;done)|(simp [*];done)),H',⟨Nat.le_refl _⟩,⟨Kd.ra_ (HO265.out)⟩,⟨Kd.ra_ (HO268.out)⟩,⟨ba_ BK261⟩,⟨ba_ BK262⟩,⟨bl_ HB⟩⟩
  case round=>
   clear H'
   try clear c1
   try clear p2
   try clear c5
   try clear hcz6_0
   try clear hcz6_1
   try clear hcz6_2
   try clear hcz6_3
   try clear hcz6_4
   try clear hcz9_0
   try clear hcz9_1
   try clear hcz9_2
   try clear hcz9_3
   try clear hcz9_4
   try clear hfz6_0
   try clear hfz6_1
   try clear hfz6_2
   try clear hfz6_3
   try clear hfz6_4
   try clear hfz9_0
   try clear hfz9_1
   try clear hfz9_2
   try clear hfz9_3
   try clear hfz9_4
   obtain ⟨x4_1,x24_1,rfl,HA,HK1,HO_4,HO_22,BK261,BK262,HB⟩:=hrel
   cases gk with
   |zero=>exact absurd HA.out (by simp [Yt.l0])
   |succ k1=>
    have H:=HA.out;clear HA;simp only [Yt.l0] at H;by_cases c13:x24_1<(y266.length:Int)
    ·rw [if_pos c13] at H;have c13b0:decide (x24_1<(y266.length:Int))=true:=decide_eq_true c13;clear c13;by_cases c14:0≤x24_1
     ·rw [if_pos c14] at H;have c14b0:decide (0≤x24_1)=true:=decide_eq_true c14;clear c14;by_cases c15:x24_1<(y266.length:Int)
      ·rw [if_pos c15] at H;have c15b0:decide (x24_1<(y266.length:Int))=true:=decide_eq_true c15;clear c15;obtain ⟨bq16,hbq16⟩:∃ b_:Bool,b_=(rdOf false y266 x24_1):=⟨_,rfl⟩
       replace H:(if bq16=true then ((some (([a0_1,a0_2,a0_3]:List Int):List Int)).bind fun y270=>(if x24_1<(y270.length:Int) then ((strconv_Itoa.f (rd y270 x24_1)).bind fun t274=>(if x4_1.length<8796093022208 then (Yt.l0 k1 (x4_1 ++ [t274]) y266 (y266.length:Int) (wrap64 (x24_1+1)) a0_0 a0_1 a0_2 a0_3) else (none))) else (none))) else (Yt.l0 k1 x4_1 y266 (y266.length:Int) (wrap64 (x24_1+1)) a0_0 a0_1 a0_2 a0_3))=some r:=by rw [← hbq16] at H;exact H
       have Nbq16:=Xa.mk hbq16;clear hbq16;by_cases c17:bq16=true
       ·subst c17
        have H1:((some (([a0_1,a0_2,a0_3]:List Int):List Int)).bind fun y270=>(if x24_1<(y270.length:Int) then ((strconv_Itoa.f (rd y270 x24_1)).bind fun t274=>(if x4_1.length<8796093022208 then (Yt.l0 k1 (x4_1 ++ [t274]) y266 (y266.length:Int) (wrap64 (x24_1+1)) a0_0 a0_1 a0_2 a0_3) else (none))) else (none)))=some r:=by rw [if_pos rfl] at H;exact H
        clear H;have H:=H1;clear H1;obtain ⟨y270,hy270⟩:∃ y_:List Int,y_=(([a0_1,a0_2,a0_3]:List Int)):=⟨_,rfl⟩
        replace H:(if x24_1<(y270.length:Int) then ((strconv_Itoa.f (rd y270 x24_1)).bind fun t274=>(if x4_1.length<8796093022208 then (Yt.l0 k1 (x4_1 ++ [t274]) y266 (y266.length:Int) (wrap64 (x24_1+1)) a0_0 a0_1 a0_2 a0_3) else (none))) else (none))=some r:=by subst hy270;first|with_reducible exact H|(have z:=(Option.bind_some _ _).symm.trans H;with_reducible exact z)|exact H
        have Ny270:=Xa.mk hy270;clear hy270;by_cases c18:x24_1<(y270.length:Int)
        ·rw [if_pos c18] at H;have c18b0:decide (x24_1<(y270.length:Int))=true:=decide_eq_true c18;clear c18;replace H:=Option.bind_eq_some_iff.mp H;obtain ⟨t274,A190,H⟩:=H;replace H:(if x4_1.length<8796093022208 then (Yt.l0 k1 (x4_1 ++ [t274]) y266 (y266.length:Int) (wrap64 (x24_1+1)) a0_0 a0_1 a0_2 a0_3) else (none))=some r:=H;have A19:=Xa.mk A190;clear A190;by_cases c20:x4_1.length<8796093022208
         ·rw [if_pos c20] at H;have LMc20:=Xa.mk c20;clear c20;obtain ⟨y275,hy275⟩:∃ y_:List ByteArray,y_=(x4_1 ++ [t274]):=⟨_,rfl⟩
          replace H:(Yt.l0 k1 y275 y266 (y266.length:Int) (wrap64 (x24_1+1)) a0_0 a0_1 a0_2 a0_3)=some r:=by subst hy275;first|with_reducible exact H|(have z:=(Option.bind_some _ _).symm.trans H;with_reducible exact z)|exact H
          have Ny275:=Xa.mk hy275;clear hy275;have H':=Xa.mk H;clear H;have p269:0≤(x24_1:Int):=of_decide_eq_true (by first|(with_reducible assumption)|assumption);have q269:x24_1<(y266.length:Int):=of_decide_eq_true (by first|(with_reducible assumption)|assumption);obtain ⟨ad269,e269,hx269_0⟩:=Kd.at_bool (Kd.R_reads' HO_22.out).2.2 x24_1 p269 q269
          (try rw [← Nbq16.out] at hx269_0)
          cases e269
          replace p269:=eq_true p269;replace q269:=eq_true q269;have hnb21:=NB261_262.out;have hnc21:=NB262_261.out;obtain ⟨hcz22_0,hcz22_1,hcz22_2,hcz22_3⟩:=Um BK261.out;obtain ⟨hfz22_0,hfz22_1,hfz22_2,hfz22_3⟩:=Un BK261.out;go_wp2_with (first|((with_reducible refine Xq (N:=37) rfl ?_);refine Kd.Ug (Kd.int .i64) _ 3 ?hg (N:=37) ?hd (xs:=([a0_1,a0_2,a0_3]:List Int)) (inner:=[.int .i64 a0_1,.int .i64 a0_2,.int .i64 a0_3]) (ok:=fun _=>True) (okp:=fun _=>True) ?hr ?hp (fun _ hk=>hk) trivial (Below.refl _ _) (Nat.le_refl _) (by simp) ?_;(case hd=>rfl);(case hg=>rfl);(case hr=>first|(go_simp;done)|(go_simp;rfl));(case hp=>exact (Xl.one (show Kd.M (Kd.int .i64) _ _ _ a0_1 [.int .i64 a0_1] from rfl) (Xl.one (show Kd.M (Kd.int .i64) _ _ _ a0_2 [.int .i64 a0_2] from rfl) (Xl.one (show Kd.M (Kd.int .i64) _ _ _ a0_3 [.int .i64 a0_3] from rfl) (Xl.none _ _)))));intro v271 w23 ho24 hb hg_ hnew_;clear hg_ hnew_;(first|rw [← Ny270.out] at ho24|(simp only [Int.reduceToNat] at ho24;rw [← Ny270.out] at ho24));have n0_:=Xa.mk (Kd.Uc (Kd.ra_ (HO_4.out)) hb);have n1_:=Xa.mk (Kd.Uc (Kd.ra_ (HO_22.out)) hb);have n2_:=Xa.mk (Kd.Ye ho24 (Xd (bl_ HB)));have n3_:=Xa.mk (Ym (g:=gb261) (o:=.cells #[.int .i64 a0_0,.int .i64 a0_1,.int .i64 a0_2,.int .i64 a0_3] 36 (0,0)) (ba_ BK261) hb);have n4_:=Xa.mk (Ym (g:=gb262) (o:=.cells #[.string a1_0,.int .i64 a1_1,.int .i64 a1_2,.bool a1_3,.bool a1_4] 49 (0,0)) (ba_ BK262) hb);have n5_:=Xa.mk (Xc (bl_ HB) hb);clear HO_4;clear HO_22;clear BK261;clear BK262;clear HB;have HO_4:=n0_;have HO_22:=n1_;have HO272:=n2_;have BK261:=n3_;have BK262:=n4_;have HB:=n5_;clear n0_ n1_ n2_ n3_ n4_ n5_;clear hb ho24;obtain ⟨Ao25,co25,eo25⟩:=Kd.Zd HO272.out;subst eo25;have p273:0≤(x24_1:Int):=of_decide_eq_true (by first|(with_reducible assumption)|assumption);have q273:x24_1<(y270.length:Int):=of_decide_eq_true (by first|(with_reducible assumption)|assumption);obtain ⟨ad273,e273,hx273_0⟩:=Kd.Zr (Kd.R_reads' HO272.out).2.2 x24_1 p273 q273;cases e273;replace p273:=eq_true p273;replace q273:=eq_true q273)|((with_reducible refine Xj (f:=25) rfl ?_);refine Yu (some 41) rfl rfl Tryd.func25 (by kernel_rfl) rfl #[.int .i64 (rd y270 x24_1)] rfl ga_ ?_;(with_reducible refine (strconv_Itoa.calls (rd y270 x24_1) t274 _ A19.out (Go.Proofs.YtdkcjecllbdljaaDoor.Shelf2.Tab.below HT.out (bl_ HB))).mono ?_);rintro e w26 ⟨rfl,hb⟩;refine ⟨_,rfl,?_⟩;have n0_:=Xa.mk (Kd.Uc (Kd.ra_ (HO_4.out)) hb);have n1_:=Xa.mk (Kd.Uc (Kd.ra_ (HO_22.out)) hb);have n2_:=Xa.mk (Kd.Uc (Kd.ra_ (HO272.out)) hb);have n3_:=Xa.mk (Ym (g:=gb261) (o:=.cells #[.int .i64 a0_0,.int .i64 a0_1,.int .i64 a0_2,.int .i64 a0_3] 36 (0,0)) (ba_ BK261) hb);have n4_:=Xa.mk (Ym (g:=gb262) (o:=.cells #[.string a1_0,.int .i64 a1_1,.int .i64 a1_2,.bool a1_3,.bool a1_4] 49 (0,0)) (ba_ BK262) hb);have n5_:=Xa.mk (Xc (bl_ HB) hb);clear HO_4;clear HO_22;clear HO272;clear BK261;clear BK262;clear HB;have HO_4:=n0_;have HO_22:=n1_;have HO272:=n2_;have BK261:=n3_;have BK262:=n4_;have HB:=n5_;clear n0_ n1_ n2_ n3_ n4_ n5_;(try clear hb);(try clear hb2);(try clear hk);(try clear hi))|((with_reducible refine Zi (b:=.append) (xs:=#[.tmp 30,.tmp 42]) rfl ?_);at_builtin;refine Kd.R_append Kd.string (w0:=w) w.heap.size rfl (.tmp 30) (.tmp 42) 47 9 (.string ⟨#[]⟩) 16 rfl Tryd.underlying47 info9 rfl (by decide) (by omega) u4 x4_1 t274 [.string t274] (fun _=>True) (fun _=>False) rfl rfl ?aP (fun _ hk=>hk.elim) ?aF ?aO ?aB ?aS ?aL ?_;(case aP=>exact rfl);(case aB=>exact (bl_ HB));(case aF=>exact (fun _ _=>trivial));(case aO=>exact (Kd.ra_ (HO_4.out)));(case aS=>exact (Xd (bl_ HB)));(case aL=>have:=LMc20.out;omega);intro v276 w27 ho hb hg hat;rw [← Ny275.out] at ho;have n0_:=Xa.mk (Kd.R_over' (Kd.ra_ (HO_22.out)) (Kd.R_typed (Kd.ra_ (HO_4.out))) (by decide) hg);have n1_:=Xa.mk (blk_grown (g:=gb261) (o:=.cells #[.int .i64 a0_0,.int .i64 a0_1,.int .i64 a0_2,.int .i64 a0_3] 36 (0,0)) (ba_ BK261) hg (Kd.R_ne HO_4.out BK261.out (by decide)));have n2_:=Xa.mk (blk_grown (g:=gb262) (o:=.cells #[.string a1_0,.int .i64 a1_1,.int .i64 a1_2,.bool a1_3,.bool a1_4] 49 (0,0)) (ba_ BK262) hg (Kd.R_ne HO_4.out BK262.out (by decide)));have n3_:=Xa.mk (Kd.R_over' (Kd.ra_ (HO272.out)) (Kd.R_typed (Kd.ra_ (HO_4.out))) (by decide) hg);have n4_:=Xa.mk (hb);have n5_:=Xa.mk (ho);clear HO_22;clear BK261;clear BK262;clear HO272;clear HB;clear HO_4;have HO_22:=n0_;have BK261:=n1_;have BK262:=n2_;have HO272:=n3_;have HB:=n4_;have HO277:=n5_;clear n0_ n1_ n2_ n3_ n4_ n5_;clear ho hb hg hat))
          go_roundg k1
          case measure=>have:=HK1.out;omega
          case rel=>exact ⟨(y275),(wrap64 (x24_1+1)),(by first|rfl|(simp;done)|(simp [*];done)),H',⟨by have:=HK1.out;omega⟩,⟨Kd.ra_ (HO277.out)⟩,⟨Kd.ra_ (HO_22.out)⟩,⟨ba_ BK261⟩,⟨ba_ BK262⟩,⟨bl_ HB⟩⟩
         ·rw [if_neg c20] at H;exact absurd H (by simp)
        ·rw [if_neg c18] at H;exact absurd H (by simp)
       ·replace c17:=Bool.eq_false_iff.mpr c17;subst c17
        have H1:(Yt.l0 k1 x4_1 y266 (y266.length:Int) (wrap64 (x24_1+1)) a0_0 a0_1 a0_2 a0_3)=some r:=by rw [if_neg (show ¬ (false=true) by decide)] at H;exact H
        clear H;have H:=H1;clear H1;have H':=Xa.mk H;clear H;have p269:0≤(x24_1:Int):=of_decide_eq_true (by first|(with_reducible assumption)|assumption);have q269:x24_1<(y266.length:Int):=of_decide_eq_true (by first|(with_reducible assumption)|assumption);obtain ⟨ad269,e269,hx269_0⟩:=Kd.at_bool (Kd.R_reads' HO_22.out).2.2 x24_1 p269 q269
        (try rw [← Nbq16.out] at hx269_0)
        cases e269
        replace p269:=eq_true p269;replace q269:=eq_true q269;go_wp2
        go_roundg k1
        case measure=>have:=HK1.out;omega
        case rel=>exact ⟨(x4_1),(wrap64 (x24_1+1)),(by first|rfl|(simp;done)|(simp [*];done)),H',⟨by have:=HK1.out;omega⟩,⟨Kd.ra_ (HO_4.out)⟩,⟨Kd.ra_ (HO_22.out)⟩,⟨ba_ BK261⟩,⟨ba_ BK262⟩,⟨bl_ HB⟩⟩
      ·rw [if_neg c15] at H;exact absurd H (by simp)
     ·rw [if_neg c14] at H;exact absurd H (by simp)
    ·rw [if_neg c13] at H;have c13b0:decide (x24_1<(y266.length:Int))=false:=decide_eq_false c13;clear c13;replace H:=Option.bind_eq_some_iff.mp H;obtain ⟨t278,A280,H⟩:=H;replace H:(some t278)=some r:=H;have A28:=Xa.mk A280;clear A280;obtain rfl:=Option.some.inj H;obtain ⟨Ao29,co29,eo29⟩:=Kd.Zd HO_4.out;subst eo29;go_wp2_with (first|((with_reducible refine Xj (f:=26) rfl ?_);refine Yu (some 46) rfl rfl Tryd.func26 (by kernel_rfl) rfl #[.slice Ao29 x4_1.length co29,.string (⟨#[32]⟩:ByteArray)] rfl ga_ ?_;(with_reducible refine (strings_Join.calls _ _ x4_1 (⟨#[32]⟩:ByteArray) t278 _ ?side1 ?side2 A28.out).mono ?_);(case side1=>repeat (first|exact (Kd.R_reads' HO_4.out).2.2|(with_reducible refine Kd.Yc ?_ _)|(with_reducible refine Kd.Yd ?_ _)|(with_reducible refine Kd.Yo ?_)));(case side2=>exact (Kd.R_reads' HO_4.out).2.1);rintro e w30 ⟨rfl,hb⟩;refine ⟨_,rfl,?_⟩;have n0_:=Xa.mk (Kd.Uc (Kd.ra_ (HO_4.out)) hb);have n1_:=Xa.mk (Kd.Uc (Kd.ra_ (HO_22.out)) hb);have n2_:=Xa.mk (Ym (g:=gb261) (o:=.cells #[.int .i64 a0_0,.int .i64 a0_1,.int .i64 a0_2,.int .i64 a0_3] 36 (0,0)) (ba_ BK261) hb);have n3_:=Xa.mk (Ym (g:=gb262) (o:=.cells #[.string a1_0,.int .i64 a1_1,.int .i64 a1_2,.bool a1_3,.bool a1_4] 49 (0,0)) (ba_ BK262) hb);have n4_:=Xa.mk (Xc (bl_ HB) hb);clear HO_4;clear HO_22;clear BK261;clear BK262;clear HB;have HO_4:=n0_;have HO_22:=n1_;have BK261:=n2_;have BK262:=n3_;have HB:=n4_;clear n0_ n1_ n2_ n3_ n4_;(try clear hb);(try clear hb2);(try clear hk);(try clear hi)))
     go_ret
     exact ⟨rf_,bl_ HB⟩
end
end Go.Proofs.YtdkcjecllbdljaaDoor.GCode
