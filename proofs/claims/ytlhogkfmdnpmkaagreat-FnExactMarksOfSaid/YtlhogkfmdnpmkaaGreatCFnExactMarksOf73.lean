import Derived.Test.YtlhogkfmdnpmkaaGreatCFnExactMarksOf69
set_option linter.unusedSectionVars false
set_option linter.unusedVariables false
set_option linter.unusedSimpArgs false
set_option maxHeartbeats 4000000
set_option maxRecDepth 100000
namespace Go.Proofs.YtlhogkfmdnpmkaaGreat.Mean
open RowKit GMarks YtlhogkfmdnpmkaaGreatW.PrintWords YtlhogkfmdnpmkaaGreatW.PrintLast YtlhogkfmdnpmkaaGreatW.PrintMore
variable [Prot]
theorem code_zero {s:WS} {who:Int} (h:code s who=0):∃ i:Nat,who=(i:Int)∧i<s.n∧codeN s i=0:=by
 by_cases h0:who<0∨(s.n:Int)≤who
 ·have e:code s who=3:=if_pos h0;rw [e] at h;cases h
 ·obtain ⟨i,rfl⟩:=Int.eq_ofNat_of_zero_le (show 0≤who by omega);have e:code s (i:Int)=codeN s i:=if_neg h0;exact ⟨i,rfl,om_,e ▸ h⟩
end Go.Proofs.YtlhogkfmdnpmkaaGreat.Mean
namespace Go.Proofs.YtlhogkfmdnpmkaaGreat.Mean
open RowKit GMarks YtlhogkfmdnpmkaaGreatW.PrintWords YtlhogkfmdnpmkaaGreatW.PrintLast YtlhogkfmdnpmkaaGreatW.PrintMore
open StmtOk SForms
local instance:Prot:=⟨fun _=>none⟩
theorem look_none {k:Int} (h:¬ (1≤k∧k≤11)):Yg k=(false,noForm):=by
 unfold Yg forms;have e:∀ j:Int,1≤j∧j≤11→(j == k)=false:=fun j hj=>nb_ om_;simp [List.find?_cons,e 1 om_,e 2 om_,e 3 om_,e 4 om_,e 5 om_,e 6 om_,e 7 om_,e 8 om_,e 9 om_,e 10 om_,e 11 om_]
theorem tail_iff (k a b n D room:Int) (n4 n5:Nat) (p4 p5:Bool) :
  Yd.tail (Yg k).1 (Yg k).2.a (Yg k).2.b (Yg k).2.body (Yg k).2.orElse D (fitsF a (Yg k).2.a) (fitsF b (Yg k).2.b) (Yd.num k n) k n4 n5 room p4 p5=true↔1≤D∧Head k a b n room n4 n5∧p4=true∧p5=true:=by
 by_cases h:1≤k∧k≤11
 ·have hk:k=1∨k=2∨k=3∨k=4∨k=5∨k=6∨k=7∨k=8∨k=9∨k=10∨k=11:=om_
  rcases hk with rfl|rfl|rfl|rfl|rfl|rfl|rfl|rfl|rfl|rfl|rfl
  ·rw [show Yg 1=(true,⟨sNum,3,0,false,false⟩) from rfl]
   cases p4 <;> cases p5 <;> simp [Yd.tail,Yd.num,fitsF,Head] <;> omega
  ·rw [show Yg 2=(true,⟨sNo,3,3,false,false⟩) from rfl]
   cases p4 <;> cases p5 <;> simp [Yd.tail,Yd.num,fitsF,Head] <;> omega
  ·rw [show Yg 3=(true,⟨sLoad,3,3,false,false⟩) from rfl]
   cases p4 <;> cases p5 <;> simp [Yd.tail,Yd.num,fitsF,Head] <;> omega
  ·rw [show Yg 4=(true,⟨sStore,3,3,false,false⟩) from rfl]
   cases p4 <;> cases p5 <;> simp [Yd.tail,Yd.num,fitsF,Head] <;> omega
  ·rw [show Yg 5=(true,⟨sSay,3,0,false,false⟩) from rfl]
   cases p4 <;> cases p5 <;> simp [Yd.tail,Yd.num,fitsF,Head] <;> omega
  ·rw [show Yg 6=(true,⟨sIf,3,0,true,true⟩) from rfl]
   cases p4 <;> cases p5 <;> simp [Yd.tail,Yd.num,fitsF,Head] <;> omega
  ·rw [show Yg 7=(true,⟨sWhile,3,0,true,false⟩) from rfl]
   cases p4 <;> cases p5 <;> simp [Yd.tail,Yd.num,fitsF,Head] <;> omega
  ·rw [show Yg 8=(true,⟨sIn,2,0,true,false⟩) from rfl]
   cases p4 <;> cases p5 <;> simp [Yd.tail,Yd.num,fitsF,Head] <;> omega
  ·rw [show Yg 9=(true,⟨sWait,2,0,false,false⟩) from rfl]
   cases p4 <;> cases p5 <;> simp [Yd.tail,Yd.num,fitsF,Head] <;> omega
  ·rw [show Yg 10=(true,⟨sSignal,2,0,false,false⟩) from rfl]
   cases p4 <;> cases p5 <;> simp [Yd.tail,Yd.num,fitsF,Head] <;> omega
  ·rw [show Yg 11=(true,⟨sYield,0,0,false,false⟩) from rfl]
   cases p4 <;> cases p5 <;> simp [Yd.tail,Yd.num,fitsF,Head] <;> omega
 ·rw [look_none h];simp only [Yd.tail,Bool.false_and];refine ⟨fun h=>(by cases h),fun ⟨_,hh,_⟩=>?_⟩;unfold Head at hh;omega
theorem st_open {d:Nat} {room:Int} {t:T} (h:Yd.st (d+1) t room=true) :
  Head t.f0 t.f1 t.f2 t.f3 room t.f4.length t.f5.length∧(∀ x ∈ t.f4,Yd.st d x (if t.f0=8 then t.f1 else room)=true)∧(∀ x ∈ t.f5,Yd.st d x (if t.f0=8 then t.f1 else room)=true):=by
 unfold Yd.st at h;obtain ⟨_,hh,h4,h5⟩:=(tail_iff _ _ _ _ _ _ _ _ _ _).1 h;exact ⟨hh,fun x hx=>List.all_eq_true.1 h4 x hx,fun x hx=>List.all_eq_true.1 h5 x hx⟩
theorem cnt_mem {d:Nat} {l:List T} {t:T} (h:t ∈ l):1+Xo.cnt d t.f4+Xo.cnt d t.f5≤Xo.cnt (d+1) l:=by
 show _≤(l.map (fun s=>1+Xo.cnt d s.f4+Xo.cnt d s.f5)).sum
 induction l with
 |nil=>cases h
 |cons a r ih=>
  rw [List.map_cons,List.sum_cons]
  rcases List.mem_cons.1 h with rfl|h
  ·exact Nat.le_add_right _ _
  ·exact nt_ (ih h) (Nat.le_add_left _ _)
theorem cnt_len {d:Nat} (l:List T):l.length≤Xo.cnt (d+1) l:=by
 show _≤(l.map (fun s=>1+Xo.cnt d s.f4+Xo.cnt d s.f5)).sum
 induction l with
 |nil=>exact nr_ _
 |cons a r ih=>rw [List.map_cons,List.sum_cons,List.length_cons];omega
theorem st_fit3 {room:Int} {t:T} (h:Yd.st 3 t room=true) (hc:Xo.cnt 2 t.f4+Xo.cnt 2 t.f5≤14):Fit 3 room t:=by
 have m4:t.f4.length≤Xo.cnt 2 t.f4:=cnt_len _;have m5:t.f5.length≤Xo.cnt 2 t.f5:=cnt_len _;obtain ⟨hh,a4,a5⟩:=st_open h
 have deep:∀ (l:List T),Xo.cnt 2 l≤14→∀ x ∈ l,∀ rm,Yd.st 2 x rm=true→Fit 2 rm x:=fun l hl x hx rm hs=>by
  have m:1+Xo.cnt 1 x.f4+Xo.cnt 1 x.f5≤Xo.cnt 2 l:=cnt_mem hx;obtain ⟨hx1,b4,b5⟩:=st_open hs;have n4:x.f4.length≤Xo.cnt 1 x.f4:=cnt_len _;have n5:x.f5.length≤Xo.cnt 1 x.f5:=cnt_len _
  have aA:∀ (l:List T),Xo.cnt 1 l≤14→∀ y ∈ l,∀ rm,Yd.st 1 y rm=true→Fit 1 rm y:=fun l hl y hy rm hs=>by
   obtain ⟨hy1,c4,c5⟩:=st_open hs;have e4:y.f4=[]:=List.eq_nil_iff_forall_not_mem.2 (fun z hz=>by have:=c4 z hz;cases this);have e5:y.f5=[]:=List.eq_nil_iff_forall_not_mem.2 (fun z hz=>by have:=c5 z hz;cases this);exact ⟨hy1,by rw [e4];decide,by rw [e5];decide,fun z hz=>(by rw [e4] at hz;cases hz),fun z hz=>(by rw [e5] at hz;cases hz)⟩
  exact ⟨hx1,om_,om_,fun y hy=>aA x.f4 om_ y hy _ (b4 y hy),fun y hy=>aA x.f5 om_ y hy _ (b5 y hy)⟩
 exact ⟨hh,om_,om_,fun x hx=>deep t.f4 om_ x hx _ (a4 x hx),fun x hx=>deep t.f5 om_ x hx _ (a5 x hx)⟩
theorem okList_fits {l:List T} (h:okList l=true) (hc:Xo.cnt 3 l<9223372036854775808):Fits (-1) l∧l.length≤14∧Small 4 l:=by
 unfold okList at h;rw [Bool.and_eq_true,List.all_eq_true] at h;have hw:=od_ h.2
 have hcnt:Xo.cnt 3 l≤14:=by unfold wrap64 at hw;omega
 have hlen:l.length≤Xo.cnt 3 l:=cnt_len _
 have hf:Fits (-1) l:=fun t ht=>by
  have m:1+Xo.cnt 2 t.f4+Xo.cnt 2 t.f5≤Xo.cnt 3 l:=cnt_mem ht;refine st_fit3 (h.1 t ht) om_
 exact ⟨hf,om_,⟨om_,fun t ht=>Fit.small 3 (hf t ht)⟩⟩
theorem openS_parts:∀ (l:List (List T)) (s:WS),(l.foldl more s).cell=s.cell∧(l.foldl more s).room=s.room∧(l.foldl more s).sign=s.sign∧(l.foldl more s).said=s.said
 |[],s=>⟨rfl,rfl,rfl,rfl⟩
 |a :: r,s=>openS_parts r (more s a)
theorem openS_procs:∀ (l:List (List T)) (s:WS) (k:Nat),(k<s.n→(l.foldl more s).proc k=s.proc k)∧(∀ (h:k<l.length),(l.foldl more s).proc (s.n+k)=newP l[k])
 |[],s,k=>⟨fun _=>rfl,fun h=>absurd h (Nat.not_lt_zero _)⟩
 |a :: r,s,k=>by
  refine ⟨fun h=>?_,fun h=>?_⟩
  ·rw [List.foldl_cons,(openS_procs r (more s a) k).1 (by show k<s.n+1;omega)];exact up_ne _ om_ _
  ·cases k with
   |zero=>
    rw [List.foldl_cons,Nat.add_zero,(openS_procs r (more s a) s.n).1 (by show s.n<s.n+1;omega)];exact Un _ _ _
   |succ k=>
    have e:s.n+(k+1)=(more s a).n+k:=by show _=s.n+1+k;omega
    rw [List.foldl_cons,e,(openS_procs r (more s a) k).2 (by simpa using h)];rfl
theorem openS_proc (l:List (List T)) {k:Nat} (h:k<l.length):(Zx l).proc k=newP l[k]:=by
 have:=(openS_procs l s0 k).2 h
 have e:s0.n+k=k:=Nat.zero_add k;rw [e] at this;exact this
theorem openS_inv {l:List (List T)} (h:progOk l=true) (hc:∀ x ∈ l,Xo.cnt 3 x<9223372036854775808):Inv (Zx l) 0∧(∀ x ∈ l,Small 4 x):=by
 unfold progOk at h;rw [Bool.and_eq_true,Bool.and_eq_true,List.all_eq_true] at h;have h1:=od_ h.1.1;have h3:=od_ h.1.2;have all:=fun x hx=>okList_fits (h.2 x hx) (hc x hx);obtain ⟨p1,p2,p3,p4⟩:=openS_parts l s0;have hn:=openS_n l;refine ⟨⟨by rw [hn];exact ⟨h1,h3⟩,fun i hi=>?_,fun i hi=>?_,fun i hi=>?_,fun j hj q hq=>?_,fun j hj=>?_,fun r hr=>?_,?_⟩,fun x hx=>(all x hx).2.2⟩
 ·have hi':i<l.length:=hn ▸ hi;rw [openS_proc l hi'];exact .inl ⟨rfl,(all _ (List.getElem_mem hi')).1⟩
 ·have hi':i<l.length:=hn ▸ hi;rw [openS_proc l hi'];exact (all _ (List.getElem_mem hi')).2.1
 ·have hi':i<l.length:=hn ▸ hi;rw [openS_proc l hi'];exact .inl rfl
 ·have e:(Zx l).sign j=[]:=congrFun p3 j;rw [e] at hq;cases hq
 ·have e:(Zx l).sign j=[]:=congrFun p3 j;rw [e];exact List.nodup_nil
 ·exact .inl (congrFun p2 r)
 ·have e:(Zx l).said=[]:=p4;rw [e];exact nr_ _
end Go.Proofs.YtlhogkfmdnpmkaaGreat.Mean
namespace Go.Proofs.YtlhogkfmdnpmkaaGreat.Mean
open RowKit GMarks YtlhogkfmdnpmkaaGreatW.PrintWords YtlhogkfmdnpmkaaGreatW.PrintLast YtlhogkfmdnpmkaaGreatW.PrintMore
theorem max2_mx (a b:Int):Builtin.max2 (.int .i64 a) (.int .i64 b)=pure (.int .i64 (mx a b)):=rfl
attribute [local go_sem] max2_mx Uu
abbrev arr3 (a:Nat→Int):Array Value:=#[.int .i64 (a 0),.int .i64 (a 1),.int .i64 (a 2)]
theorem arr3_cells {W:World} {g:Nat} {a:Nat→Int} {t:TypeId} (h:W.heap[g]?=some (.cells (arr3 a) t (0,0))):W.cell? ⟨g,0,none⟩=some (.int .i64 (a 0))∧W.cell? ⟨g,1,none⟩=some (.int .i64 (a 1))∧W.cell? ⟨g,2,none⟩=some (.int .i64 (a 2)):=
 ⟨(Xd h 0).trans rfl,(Xd h 1).trans rfl,(Xd h 2).trans rfl⟩
def upto (a b:Nat→Int) (j:Nat):Nat→Int:=fun k=>if k<j then join a b k else a k
theorem join_do (W:World) (a b:Nat→Int) :
  Calls Tryz.prog 84 #[.agg (arr3 a),.agg (arr3 b)] W fun e W'=>e=.returned (.agg (arr3 (join a b)))∧Below W.heap.size W W':=by
 go_enter Tryz.func84,Tryz.ntmps84;go_upto_region 1 with (fail);have h0:=Yc W (.cells (arr3 a) 95);have HB0:=Xf (Below.refl W.heap.size W) (.cells (arr3 a) 95)
 have s0:(W.alloc (.cells (arr3 a) 95)).heap.size=W.heap.size+1:=sm_
 have h1:=Yc (W.alloc (.cells (arr3 a) 95)) (.cells (arr3 b) 95);have h0:=Xl h0 (.cells (arr3 b) 95);have HB1:=Xf HB0 (.cells (arr3 b) 95)
 have s1:((W.alloc (.cells (arr3 a) 95)).alloc (.cells (arr3 b) 95)).heap.size=W.heap.size+2:=sm_
 have h2:=Yc ((W.alloc (.cells (arr3 a) 95)).alloc (.cells (arr3 b) 95)) (.cells #[.int .i64 0,.int .i64 0,.int .i64 0] 95);have h0:=Xl h0 (.cells #[.int .i64 0,.int .i64 0,.int .i64 0] 95);have h1:=Xl h1 (.cells #[.int .i64 0,.int .i64 0,.int .i64 0] 95);have HB2:=Xf HB1 (.cells #[.int .i64 0,.int .i64 0,.int .i64 0] 95);rw [s0] at h1;rw [s1] at h2;have H0:=Xa.mk h0;have H1:=Xa.mk h1;have H2:=Xa.mk h2;have HB:=Xa.mk HB2;clear h0 h1 h2 HB0 HB1 HB2 s0 s1;generalize (((W.alloc (.cells (arr3 a) 95)).alloc (.cells (arr3 b) 95)).alloc (.cells #[.int .i64 0,.int .i64 0,.int .i64 0] 95))=W3 at *;generalize hg:W.heap.size=g at *;have HG:=Xa.mk hg;clear hg;go_wp2
 go_loopg [6] 3 (fun kq v6 w'=>∃ j:Nat,v6=.int .i64 (j:Int)∧Xa (kq+j=3)∧Xa (w'.heap[g]?=some (.cells (arr3 (upto a b j)) 95 (0,0)))∧Xa (w'.heap[g+1]?=some (.cells (arr3 b) 95 (0,0)))∧Xa (w'.heap[g+1+1]?=some (.cells #[.int .i64 0,.int .i64 0,.int .i64 0] 95 (0,0)))∧Xa (Below g W w'))
 case atStart=>exact ⟨0,rfl,⟨rfl⟩,H0,H1,H2,HB⟩
 case round=>
  clear H0 H1 H2 HB;obtain ⟨j,rfl,HK,H0,H1,H2,HB⟩:=hrel;by_cases hj:j=3
  ·subst hj
   cases gk with
   |succ k1=>exact absurd HK.out om_
   |zero=>
    obtain ⟨x0,x1,x2⟩:=arr3_cells H0.out;have f0:=Xc H2.out 0;have f1:=Xc H2.out 1;have f2:=Xc H2.out 2;have hp:=Xn (cs':=arr3 (join a b)) (Xn (cs':=_) (Xn (cs':=_) H2.out 0 (.int .i64 (upto a b 3 0)) rfl) 1 (.int .i64 (upto a b 3 1)) rfl) 2 (.int .i64 (upto a b 3 2)) rfl;have HP:=Xa.mk hp;clear hp;have z0:wr.cell? ⟨g+1+1,0,none⟩=some (.int .i64 0):=(Xd H2.out 0).trans rfl;have z1:wr.cell? ⟨g+1+1,1,none⟩=some (.int .i64 0):=(Xd H2.out 1).trans rfl;have z2:wr.cell? ⟨g+1+1,2,none⟩=some (.int .i64 0):=(Xd H2.out 2).trans rfl;go_wp2
    (try simp only [Exit.inBlock,Exit.then])
    refine bodyPost_ret (results_cell_row rfl _ _ (g+1+1) 95 (arr3 (join a b)) (0,0) _ rfl HP.out Tryz.underlying95 rfl kr_) rfl ?_;rw [HG.out];exact ⟨rfl,Below.setCell (Below.setCell (Below.setCell HB.out (p:=⟨g+1+1,0,none⟩) (by show g≤g+1+1;omega) _) (p:=⟨g+1+1,1,none⟩) (by show g≤g+1+1;omega) _) (p:=⟨g+1+1,2,none⟩) (by show g≤g+1+1;omega) _⟩
  ·cases gk with
   |zero=>exact absurd HK.out om_
   |succ k1=>
    have HJ:Xa (j=0∨j=1∨j=2):=⟨by have:=HK.out;omega⟩
    have x0:wr.cell? ⟨g,j,none⟩=some (.int .i64 (a j)):=by
     rcases HJ.out with e|e|e <;> subst e
     ·exact (Xd H0.out 0).trans rfl
     ·exact (Xd H0.out 1).trans rfl
     ·exact (Xd H0.out 2).trans rfl
    have y0:wr.cell? ⟨g+1,j,none⟩=some (.int .i64 (b j)):=by
     rcases HJ.out with e|e|e <;> subst e
     ·exact (Xd H1.out 0).trans rfl
     ·exact (Xd H1.out 1).trans rfl
     ·exact (Xd H1.out 2).trans rfl
    have f0:=Xc H0.out j
    have i0:(0:Int)≤(j:Int):=om_
    have i1:(j:Int)<3:=by have:=HJ.out;omega
    have i2:decide (j<3)=true:=dt_ (by have:=HJ.out;omega)
    have hw1:IntKind.i64.wrap ((j:Int)+1)=((j+1:Nat):Int):=by rw [IntKind.wrap_i64];have:=HJ.out;omega
    clear hj;go_upto_region 4 with (fail)
    go_still_tail 9,kr_
    change wpList _ _ _ _ _ wr.drew;go_wp2;go_roundg k1
    case measure=>omega
    case rel=>
     refine ⟨j+1,rfl,⟨by have:=HK.out;omega⟩,⟨?_⟩,⟨(Below.heap_setCell wr ⟨g,j,none⟩ _ (g+1) sm_).trans H1.out⟩,⟨(Below.heap_setCell wr ⟨g,j,none⟩ _ (g+1+1) (by simp;omega)).trans H2.out⟩,⟨?_⟩⟩
     ·rcases HJ.out with e|e|e <;> subst e
      ·exact Xn H0.out 0 _ rfl
      ·exact Xn H0.out 1 _ rfl
      ·exact Xn H0.out 2 _ rfl
     ·exact Xh (Below.setCell HB.out (p:=⟨g,j,none⟩) (nr_ _) _)
end Go.Proofs.YtlhogkfmdnpmkaaGreat.Mean
namespace Go.Proofs.YtlhogkfmdnpmkaaGreat.Mean
open RowKit GMarks YtlhogkfmdnpmkaaGreatW.PrintWords YtlhogkfmdnpmkaaGreatW.PrintLast YtlhogkfmdnpmkaaGreatW.PrintMore
variable [Prot]
theorem first_back (W:World) (base:Nat) (ok:Nat→Prop) (b:BK) (s:WS) (g:Nat) (h:St W base ok b s g) (i:Nat) (hi:i<s.n) (hm:(s.proc i).mode=2) :
  Calls Tryz.prog 64 #[.pointer (some ⟨g,0,none⟩),.int .i64 (i:Int)] W fun e W'=>e=.returned (.agg #[.int .i64 0,.int .i64 0,.int .i64 0,.int .i64 0,.slice none 0 0,.slice none 0 0])∧Below W.heap.size W W':=by
 obtain ⟨c0,c1,c2,c3,c4⟩:=h.wb.cells;obtain ⟨P,cp,HP⟩:=h.at_.procs om_;rw [HP.v_] at c0;obtain ⟨R,cr,HR⟩:=h.at_.regs hi;obtain ⟨A,ct,eT⟩:=Kd.V_slice (h.at_.tree i hi);have p0:=HP.cell i 0 hi om_;have p1:=HP.cell i 1 hi om_;have p2:=HP.cell i 2 hi om_;have p3:=HP.cell i 3 hi om_;have p4:=HP.cell i 4 hi om_;simp only [Yn,if_true,Nat.add_zero,HR.v_,eT] at p0 p1;simp only [Yn,hm] at p2 p3 p4;simp at p1 p2 p3 p4
 have i0:(0:Int)≤(i:Int):=om_
 have i1:(i:Int)<(s.n:Int):=om_
 have i2:decide (i<s.n)=true:=dt_ hi;clear hm eT;generalize (s.proc i).todo.length=tl at *;go_enter Tryz.func64,Tryz.ntmps64;go_upto_region 1 with (fail);have HB0:=Xf (Below.refl W.heap.size W) (.cells #[.int .i64 0,.int .i64 0,.int .i64 0,.int .i64 0,.slice none 0 0,.slice none 0 0] 87);have hz:=Yc W (.cells #[.int .i64 0,.int .i64 0,.int .i64 0,.int .i64 0,.slice none 0 0,.slice none 0 0] 87);generalize W.alloc (.cells #[.int .i64 0,.int .i64 0,.int .i64 0,.int .i64 0,.slice none 0 0,.slice none 0 0] 87)=W0 at *;have c0:=Xb HB0 c0;have p0:=Xb HB0 p0;have p1:=Xb HB0 p1;have p2:=Xb HB0 p2;have p3:=Xb HB0 p3;have p4:=Xb HB0 p4;go_upto_region 2 with (fail);have HB1:=Xf (Below.refl W0.heap.size W0) (.cells #[.slice (some ⟨R,0,none⟩) 3 cr,.slice A tl ct,.int .i64 2,.int .i64 (s.proc i).on,.int .i64 (s.proc i).room] 85);have hbx:=Yc W0 (.cells #[.slice (some ⟨R,0,none⟩) 3 cr,.slice A tl ct,.int .i64 2,.int .i64 (s.proc i).on,.int .i64 (s.proc i).room] 85);have hz1:=Xm hz HB1;have hne:W.heap.size<W0.heap.size:=Xq hz;generalize W0.alloc (.cells #[.slice (some ⟨R,0,none⟩) 3 cr,.slice A tl ct,.int .i64 2,.int .i64 (s.proc i).on,.int .i64 (s.proc i).room] 85)=W1 at *;have b1:W1.cell? ⟨W0.heap.size,1,none⟩=some (.slice A tl ct):=(Xd hbx 1).trans rfl;have b2:W1.cell? ⟨W0.heap.size,2,none⟩=some (.int .i64 2):=(Xd hbx 2).trans rfl;obtain ⟨z0,z1,z2,z3,z4,z5⟩:=box6 hz1
 have zf:∀ k,W1.frozen? ⟨W.heap.size,k,none⟩=false:=fun k=>by simp [World.frozen?,hz1]
 have zf0:=zf 0;have HBA:Xa (Below W.heap.size W W1):=⟨HB0.trans (HB1.mono HB0.size)⟩;have HZ:=Xa.mk hz1;clear hz hz1 hbx HB0 HB1 c0 p0 p1 p2 p3 p4 HP HR;go_wp2
 (try simp only [Exit.inBlock,Exit.then])
 have hfin:=Yt (Yt (Yt (Yt (Yt (Yt HZ.out 0 (.int .i64 0)) 1 (.int .i64 0)) 2 (.int .i64 0)) 3 (.int .i64 0)) 4 (.slice none 0 0)) 5 (.slice none 0 0);refine bodyPost_ret (results_cell_row rfl _ _ W.heap.size 87 #[.int .i64 0,.int .i64 0,.int .i64 0,.int .i64 0,.slice none 0 0,.slice none 0 0] (0,0) _ rfl hfin Tryz.underlying87 rfl kr_) rfl ?_;exact ⟨rfl,(Below.setCell (Below.setCell (Below.setCell (Below.setCell (Below.setCell (Below.setCell HBA.out (p:=⟨W.heap.size,0,none⟩) (nr_ _) _) (p:=⟨W.heap.size,1,none⟩) (nr_ _) _) (p:=⟨W.heap.size,2,none⟩) (nr_ _) _) (p:=⟨W.heap.size,3,none⟩) (nr_ _) _) (p:=⟨W.heap.size,4,none⟩) (nr_ _) _) (p:=⟨W.heap.size,5,none⟩) (nr_ _) _)⟩
theorem code_fine {s:WS} {i:Nat} (h:codeN s i=0):(s.proc i).mode=2∨((s.proc i).mode≠2∧∃ t l,(s.proc i).todo=t :: l):=by
 by_cases hm:(s.proc i).mode=2
 ·exact .inl hm
 ·refine .inr ⟨hm,?_⟩;unfold codeN at h;by_cases h1:(s.proc i).mode=1
  ·rw [if_pos h1] at h;cases h
  ·rw [if_neg h1,if_neg hm] at h;cases e:(s.proc i).todo with
   |nil=>rw [e] at h;cases h
   |cons t l=>exact ⟨t,l,rfl⟩
theorem first_of (W:World) (base:Nat) (ok:Nat→Prop) (b:BK) (s:WS) (g:Nat) (h:St W base ok b s g) (i:Nat) (hi:i<s.n) (hc:codeN s i=0) :
  Calls Tryz.prog 64 #[.pointer (some ⟨g,0,none⟩),.int .i64 (i:Int)] W fun e W'=>(∃ A4 n4 c4 A5 n5 c5,e=.returned (.agg #[.int .i64 (Xp s i).f0,.int .i64 (Xp s i).f1,.int .i64 (Xp s i).f2,.int .i64 (Xp s i).f3,.slice A4 n4 c4,.slice A5 n5 c5]))∧Below W.heap.size W W':=by
 rcases code_fine hc with hm|⟨hm,t,l,ht⟩
 ·have e:Xp s i=⟨0,0,0,0,[],[]⟩:=if_pos hm;rw [e];exact (first_back W base ok b s g h i hi hm).mono (fun e W' hx=>⟨⟨_,_,_,_,_,_,hx.1⟩,hx.2⟩)
 ·have e:Xp s i=t:=(if_neg hm).trans (by rw [ht];rfl);rw [e]
  exact (first_do W base ok b s g h i hi hm t l ht).mono (fun e W' hx=>by
   obtain ⟨⟨A4,c4,A5,c5,rfl⟩,hb⟩:=hx;exact ⟨⟨_,_,_,_,_,_,rfl⟩,hb⟩)
end Go.Proofs.YtlhogkfmdnpmkaaGreat.Mean
