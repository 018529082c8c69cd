import Derived.Test.YtlhogkfmdnpmkaaCFnExactWholeOrder57
import Derived.Test.YtlhogkfmdnpmkaaCFnExactWholeOrder21
import Derived.Test.YtlhogkfmdnpmkaaCFnExactWholeOrder29
set_option maxRecDepth 100000
set_option linter.unusedVariables false
set_option linter.unusedSimpArgs false
namespace Go.Proofs.Ytlhogkfmdnpmkaa.Mean
open Go.RowKit Go.Proofs.Ytlhogkfmdnpmkaa.GWhole Go.Proofs.YtlhogkfmdnpmkaaW.PrintWords Go.Proofs.YtlhogkfmdnpmkaaW.PrintLast Go.Proofs.YtlhogkfmdnpmkaaW.PrintMore
open Go.Proofs.Ytlhogkfmdnpmkaa.StmtOk Go.Proofs.Ytlhogkfmdnpmkaa.SForms
local instance:Prot:=⟨fun _=>none⟩
theorem look_none {k:Int} (h:¬ (1≤k∧k≤11)):Yi k=(false,noForm):=by
  unfold Yi forms
  have e:∀ j:Int,1≤j∧j≤11→(j == k)=false:=fun j hj=>beq_eq_false_iff_ne.mpr (by omega)
  simp [List.find?_cons,e 1 (by omega),e 2 (by omega),e 3 (by omega),e 4 (by omega),e 5 (by omega),e 6 (by omega),e 7 (by omega),e 8 (by omega),e 9 (by omega),e 10 (by omega),e 11 (by omega)]
theorem tail_iff (k a b n D room:Int) (n4 n5:Nat) (p4 p5:Bool) :
    Yf.tail (Yi k).1 (Yi k).2.a (Yi k).2.b (Yi k).2.body (Yi k).2.orElse D (fitsF a (Yi k).2.a) (fitsF b (Yi k).2.b) (Yf.num k n) k n4 n5 room p4 p5=true↔1≤D∧Head k a b n room n4 n5∧p4=true∧p5=true:=by
  by_cases h:1≤k∧k≤11
  · have hk:k=1∨k=2∨k=3∨k=4∨k=5∨k=6∨k=7∨k=8∨k=9∨k=10∨k=11:=by omega
    rcases hk with rfl|rfl|rfl|rfl|rfl|rfl|rfl|rfl|rfl|rfl|rfl
    · rw [show Yi 1=(true,⟨sNum,3,0,false,false⟩) from rfl]
      cases p4 <;> cases p5 <;> simp [Yf.tail,Yf.num,fitsF,Head] <;> omega
    · rw [show Yi 2=(true,⟨sNo,3,3,false,false⟩) from rfl]
      cases p4 <;> cases p5 <;> simp [Yf.tail,Yf.num,fitsF,Head] <;> omega
    · rw [show Yi 3=(true,⟨sLoad,3,3,false,false⟩) from rfl]
      cases p4 <;> cases p5 <;> simp [Yf.tail,Yf.num,fitsF,Head] <;> omega
    · rw [show Yi 4=(true,⟨sStore,3,3,false,false⟩) from rfl]
      cases p4 <;> cases p5 <;> simp [Yf.tail,Yf.num,fitsF,Head] <;> omega
    · rw [show Yi 5=(true,⟨sSay,3,0,false,false⟩) from rfl]
      cases p4 <;> cases p5 <;> simp [Yf.tail,Yf.num,fitsF,Head] <;> omega
    · rw [show Yi 6=(true,⟨sIf,3,0,true,true⟩) from rfl]
      cases p4 <;> cases p5 <;> simp [Yf.tail,Yf.num,fitsF,Head] <;> omega
    · rw [show Yi 7=(true,⟨sWhile,3,0,true,false⟩) from rfl]
      cases p4 <;> cases p5 <;> simp [Yf.tail,Yf.num,fitsF,Head] <;> omega
    · rw [show Yi 8=(true,⟨sIn,2,0,true,false⟩) from rfl]
      cases p4 <;> cases p5 <;> simp [Yf.tail,Yf.num,fitsF,Head] <;> omega
    · rw [show Yi 9=(true,⟨sWait,2,0,false,false⟩) from rfl]
      cases p4 <;> cases p5 <;> simp [Yf.tail,Yf.num,fitsF,Head] <;> omega
    · rw [show Yi 10=(true,⟨sSignal,2,0,false,false⟩) from rfl]
      cases p4 <;> cases p5 <;> simp [Yf.tail,Yf.num,fitsF,Head] <;> omega
    · rw [show Yi 11=(true,⟨sYield,0,0,false,false⟩) from rfl]
      cases p4 <;> cases p5 <;> simp [Yf.tail,Yf.num,fitsF,Head] <;> omega
  · rw [look_none h]
    simp only [Yf.tail,Bool.false_and];refine ⟨fun h=>(by cases h),fun ⟨_,hh,_⟩=>?_⟩
    unfold Head at hh
    omega
theorem st_open {d:Nat} {room:Int} {t:T} (h:Yf.st (d+1) t room=true) :
    Head t.f0 t.f1 t.f2 t.f3 room t.f4.length t.f5.length∧(∀ x ∈ t.f4,Yf.st d x (if t.f0=8 then t.f1 else room)=true)∧(∀ x ∈ t.f5,Yf.st d x (if t.f0=8 then t.f1 else room)=true):=by
  unfold Yf.st at h
  obtain ⟨_,hh,h4,h5⟩:=(tail_iff _ _ _ _ _ _ _ _ _ _).1 h;exact ⟨hh,fun x hx=>List.all_eq_true.1 h4 x hx,fun x hx=>List.all_eq_true.1 h5 x hx⟩
theorem cnt_mem {d:Nat} {l:List T} {t:T} (h:t ∈ l):1+Xu.cnt d t.f4+Xu.cnt d t.f5≤Xu.cnt (d+1) l:=by
  show _≤(l.map (fun s=>1+Xu.cnt d s.f4+Xu.cnt d s.f5)).sum
  induction l with
  |nil=>cases h
  |cons a r ih=>
    rw [List.map_cons,List.sum_cons]
    rcases List.mem_cons.1 h with rfl|h
    · exact Nat.le_add_right _ _
    · exact Nat.le_trans (ih h) (Nat.le_add_left _ _)
theorem cnt_len {d:Nat} (l:List T):l.length≤Xu.cnt (d+1) l:=by
  show _≤(l.map (fun s=>1+Xu.cnt d s.f4+Xu.cnt d s.f5)).sum
  induction l with
  |nil=>exact Nat.le_refl _
  |cons a r ih=>rw [List.map_cons,List.sum_cons,List.length_cons];omega
theorem st_fit3 {room:Int} {t:T} (h:Yf.st 3 t room=true) (hc:Xu.cnt 2 t.f4+Xu.cnt 2 t.f5≤14):Fit 3 room t:=by
  have m4:t.f4.length≤Xu.cnt 2 t.f4:=cnt_len _;have m5:t.f5.length≤Xu.cnt 2 t.f5:=cnt_len _;obtain ⟨hh,a4,a5⟩:=st_open h
  have deep:∀ (l:List T),Xu.cnt 2 l≤14→∀ x ∈ l,∀ rm,Yf.st 2 x rm=true→Fit 2 rm x:=fun l hl x hx rm hs=>by
    have m:1+Xu.cnt 1 x.f4+Xu.cnt 1 x.f5≤Xu.cnt 2 l:=cnt_mem hx;obtain ⟨hx1,b4,b5⟩:=st_open hs;have n4:x.f4.length≤Xu.cnt 1 x.f4:=cnt_len _;have n5:x.f5.length≤Xu.cnt 1 x.f5:=cnt_len _
    have aQ:∀ (l:List T),Xu.cnt 1 l≤14→∀ y ∈ l,∀ rm,Yf.st 1 y rm=true→Fit 1 rm y:=fun l hl y hy rm hs=>by
      obtain ⟨hy1,c4,c5⟩:=st_open hs;have e4:y.f4=[]:=List.eq_nil_iff_forall_not_mem.2 (fun z hz=>by have:=c4 z hz;cases this);have e5:y.f5=[]:=List.eq_nil_iff_forall_not_mem.2 (fun z hz=>by have:=c5 z hz;cases this);exact ⟨hy1,by rw [e4];decide,by rw [e5];decide,fun z hz=>(by rw [e4] at hz;cases hz),fun z hz=>(by rw [e5] at hz;cases hz)⟩
    exact ⟨hx1,by omega,by omega,fun y hy=>aQ x.f4 (by omega) y hy _ (b4 y hy),fun y hy=>aQ x.f5 (by omega) y hy _ (b5 y hy)⟩
  exact ⟨hh,by omega,by omega,fun x hx=>deep t.f4 (by omega) x hx _ (a4 x hx),fun x hx=>deep t.f5 (by omega) x hx _ (a5 x hx)⟩
theorem okList_fits {l:List T} (h:okList l=true) (hc:Xu.cnt 3 l<9223372036854775808):Fits (-1) l∧l.length≤14∧Small 4 l:=by
  unfold okList at h
  rw [Bool.and_eq_true,List.all_eq_true] at h;have hw:=of_decide_eq_true h.2
  have hcnt:Xu.cnt 3 l≤14:=by unfold wrap64 at hw;omega
  have hlen:l.length≤Xu.cnt 3 l:=cnt_len _
  have hf:Fits (-1) l:=fun t ht=>by
    have m:1+Xu.cnt 2 t.f4+Xu.cnt 2 t.f5≤Xu.cnt 3 l:=cnt_mem ht;refine st_fit3 (h.1 t ht) (by omega)
  exact ⟨hf,by omega,⟨by omega,fun t ht=>Fit.small 3 (hf t ht)⟩⟩
theorem openS_parts:∀ (l:List (List T)) (s:WS),(l.foldl more s).cell=s.cell∧(l.foldl more s).room=s.room∧(l.foldl more s).sign=s.sign∧(l.foldl more s).said=s.said
  |[],s=>⟨rfl,rfl,rfl,rfl⟩
  |a :: r,s=>openS_parts r (more s a)
theorem openS_procs:∀ (l:List (List T)) (s:WS) (k:Nat),(k<s.n→(l.foldl more s).proc k=s.proc k)∧(∀ (h:k<l.length),(l.foldl more s).proc (s.n+k)=newP l[k])
  |[],s,k=>⟨fun _=>rfl,fun h=>absurd h (Nat.not_lt_zero _)⟩
  |a :: r,s,k=>by
    refine ⟨fun h=>?_,fun h=>?_⟩
    · rw [List.foldl_cons,(openS_procs r (more s a) k).1 (by show k<s.n+1;omega)]
      exact up_ne _ (by omega) _
    · cases k with
      |zero=>
        rw [List.foldl_cons,Nat.add_zero,(openS_procs r (more s a) s.n).1 (by show s.n<s.n+1;omega)];exact up_same _ _ _
      |succ k=>
        have e:s.n+(k+1)=(more s a).n+k:=by show _=s.n+1+k;omega
        rw [List.foldl_cons,e,(openS_procs r (more s a) k).2 (by simpa using h)];rfl
theorem openS_proc (l:List (List T)) {k:Nat} (h:k<l.length):(Uc l).proc k=newP l[k]:=by
  have:=(openS_procs l s0 k).2 h
  have e:s0.n+k=k:=Nat.zero_add k;rw [e] at this;exact this
theorem openS_inv {l:List (List T)} (h:progOk l=true) (hc:∀ x ∈ l,Xu.cnt 3 x<9223372036854775808):Inv (Uc l) 0∧(∀ x ∈ l,Small 4 x):=by
  unfold progOk at h
  rw [Bool.and_eq_true,Bool.and_eq_true,List.all_eq_true] at h;have h1:=of_decide_eq_true h.1.1;have h3:=of_decide_eq_true h.1.2;have all:=fun x hx=>okList_fits (h.2 x hx) (hc x hx);obtain ⟨p1,p2,p3,p4⟩:=openS_parts l s0;have hn:=openS_n l;refine ⟨⟨by rw [hn];exact ⟨h1,h3⟩,fun i hi=>?_,fun i hi=>?_,fun i hi=>?_,fun j hj q hq=>?_,fun j hj=>?_,fun r hr=>?_,?_⟩,fun x hx=>(all x hx).2.2⟩
  · have hi':i<l.length:=hn ▸ hi
    rw [openS_proc l hi'];exact .inl ⟨rfl,(all _ (List.getElem_mem hi')).1⟩
  · have hi':i<l.length:=hn ▸ hi
    rw [openS_proc l hi'];exact (all _ (List.getElem_mem hi')).2.1
  · have hi':i<l.length:=hn ▸ hi
    rw [openS_proc l hi'];exact .inl rfl
  · have e:(Uc l).sign j=[]:=congrFun p3 j
    rw [e] at hq;cases hq
  · have e:(Uc l).sign j=[]:=congrFun p3 j
    rw [e];exact List.nodup_nil
  · exact .inl (congrFun p2 r)
  · have e:(Uc l).said=[]:=p4
    rw [e];exact Nat.le_refl _
end Go.Proofs.Ytlhogkfmdnpmkaa.Mean
namespace Go.Proofs.Ytlhogkfmdnpmkaa.GWhole
open Go.RowKit Go.Proofs.YtlhogkfmdnpmkaaW.PrintWords Go.Proofs.YtlhogkfmdnpmkaaW.PrintLast Go.Proofs.YtlhogkfmdnpmkaaW.PrintMore
attribute [local go_sem] Ui Uk max_two min_two Zx Zy Uj Ul
set_option linter.unusedVariables false
set_option linter.unusedSimpArgs false
def Yk.f (l0:List (List (S69))) (l1:List Int):Option (List Int):=if l0.all (fun x=>decide (Xu.cnt 3 x<9223372036854775808))=true then some (Mean.whole l0 l1) else none
theorem Yk.calls (A0:Option Addr) (c0:Nat) (l0:List (List (S69))) (A1:Option Addr) (c1:Nat) (l1:List Int) (r:List Int) (w:World) (hr0:Kd.C (Kd.slice 69 k69) w A0 l0.length l0) (hc0:l0.length≤c0) (hr1:Kd.C (Kd.int .i64) w A1 l1.length l1) (hc1:l1.length≤c1) (h:Yk.f l0 l1=some r) :
  Calls Try.prog 9 #[.slice A0 l0.length c0,.slice A1 l1.length c1] w fun e w'=>∃ bB:Value,e=.returned (bB)∧Kd.R (Kd.int .i64) 3 w' w.heap.size (fun _=>True) bB r∧Below w.heap.size w w':=by
 unfold Yk.f at h
 by_cases hc:l0.all (fun x=>decide (Xu.cnt 3 x<9223372036854775808))=true
 ·rw [if_pos hc] at h;obtain rfl:=Option.some.inj h;exact @Mean.whole_do ⟨fun _=>none⟩ A0 c0 l0 A1 c1 l1 w hr0 hc0 hr1 hc1 (fun hq=>Mean.openS_inv hq (fun x hx=>of_decide_eq_true (List.all_eq_true.1 hc x hx))) (fun _=>rfl)
 ·rw [if_neg hc] at h;cases h
end Go.Proofs.Ytlhogkfmdnpmkaa.GWhole
namespace Go.Proofs.Ytlhogkfmdnpmkaa.GWhole
open Go.RowKit Go.Proofs.YtlhogkfmdnpmkaaW.PrintWords Go.Proofs.YtlhogkfmdnpmkaaW.PrintLast Go.Proofs.YtlhogkfmdnpmkaaW.PrintMore
attribute [local go_sem] Ui Uk max_two min_two Zx Zy Uj Ul
set_option linter.unusedVariables false
set_option linter.unusedSimpArgs false
def IsS83 (w0 W:World) (g:Nat) (f0:List Int) (f1:Int):Prop:=∃ A0 c0,W.heap[g]?=some (.cells #[.slice A0 f0.length c0,.int .i64 f1] 83 (0,0))∧w0.heap.size≤g∧Kd.C (Kd.int .u8) w0 A0 f0.length f0
theorem IsS83.grown {w0 W:World} {g:Nat} {f0:List Int} {f1:Int} {W1:World} {row:Option Nat} (h:IsS83 w0 W g f0 f1) (hw:W.grownBy W1 row) (hne:some g≠row):IsS83 w0 W1 g f0 f1:=by
 obtain ⟨A0,c0,hb,hg,hr0⟩:=h;exact ⟨A0,c0,blk_grown hb hw hne,hg,hr0⟩
theorem IsS83.kept {w0 W:World} {g:Nat} {f0:List Int} {f1:Int} {W1:World} {S:Nat→Prop} (h:IsS83 w0 W g f0 f1) (hk:Kept W W1 S) (hne:¬ S g):IsS83 w0 W1 g f0 f1:=by
 obtain ⟨A0,c0,hb,hg,hr0⟩:=h;exact ⟨A0,c0,blk_kept hb hk hne,hg,hr0⟩
theorem IsS83.below {w0 W:World} {g:Nat} {f0:List Int} {f1:Int} {W1:World} (h:IsS83 w0 W g f0 f1) (hw:Below W.heap.size W W1):IsS83 w0 W1 g f0 f1:=h.grown (grown_of_below hw none) (by simp)
theorem IsS83.alloc {w0 W:World} {g:Nat} {f0:List Int} {f1:Int} (h:IsS83 w0 W g f0 f1) (o:Obj):IsS83 w0 (W.alloc o) g f0 f1:=h.below (Xj (Below.refl _ _) o)
theorem IsS83.drewN {w0 W:World} {g:Nat} {f0:List Int} {f1:Int} (h:IsS83 w0 W g f0 f1) (m:Nat):IsS83 w0 (W.drewN m) g f0 f1:=h
theorem IsS83.drew {w0 W:World} {g:Nat} {f0:List Int} {f1:Int} (h:IsS83 w0 W g f0 f1):IsS83 w0 W.drew g f0 f1:=h
theorem IsS83.at_ {w0 W:World} {g:Nat} {f0:List Int} {f1:Int} {w':World} {m:Nat} (hq:W.drewN m=w') (h:IsS83 w0 W g f0 f1):IsS83 w0 w' g f0 f1:=by subst hq;exact IsS83.drewN h m
theorem IsS83.apart {w0 W:World} {g:Nat} {f0:List Int} {f1:Int} {α:Type} {d:Kd α} {e:Nat} {base:Nat} {ok:Nat→Prop} {v:Value} {xs:List α} (h:IsS83 w0 W g f0 f1) (ho:d.R e W base ok v xs) (ht:∀ q,q ∈ e :: d.E→q≠83):d.R e W base (fun k=>ok k∧k≠g) v xs:=by
 obtain ⟨A0,c0,hb,hg,hr0⟩:=h;exact Kd.R_types ho hb ht
theorem IsS83.own_ne {w0 W:World} {g:Nat} {f0:List Int} {f1:Int} {α:Type} {d:Kd α} {e:Nat} {base:Nat} {ok:Nat→Prop} {v:Value} {xs:List α} (h:IsS83 w0 W g f0 f1) (ho:d.R e W base ok v xs) (ht:e≠83):some g≠v.ownBlock:=by
 obtain ⟨A0,c0,hb,hg,hr0⟩:=h;exact Kd.R_ne ho hb ht
theorem IsS83.lt {w0 W:World} {g:Nat} {f0:List Int} {f1:Int} (h:IsS83 w0 W g f0 f1):g<W.heap.size:=by
 obtain ⟨A0,c0,hb,hg,hr0⟩:=h;exact Yu hb
theorem IsS83.ge {w0 W:World} {g:Nat} {f0:List Int} {f1:Int} (h:IsS83 w0 W g f0 f1):w0.heap.size≤g:=by
 obtain ⟨A0,c0,hb,hg,hr0⟩:=h;exact hg
theorem IsS83.far {w0 W:World} {g:Nat} {f0:List Int} {f1:Int} {p:Addr} (h:IsS83 w0 W g f0 f1) (hne:g≠p.block) (u:Value):IsS83 w0 (W.setCell p u) g f0 f1:=by
 obtain ⟨A0,c0,hb,hg,hr0⟩:=h;exact ⟨A0,c0,Zf hb hne u,hg,hr0⟩
theorem IsS83.new (w0 W:World) (A0:Option Addr) (c0:Nat) (f0:List Int) (f1:Int) (hB:Below w0.heap.size w0 W) (hr0:Kd.C (Kd.int .u8) w0 A0 f0.length f0):IsS83 w0 (W.alloc (.cells #[.slice A0 f0.length c0,.int .i64 f1] 83)) W.heap.size f0 f1:=⟨A0,c0,by simpa using heap_alloc_new W _,hB.size,hr0⟩
end Go.Proofs.Ytlhogkfmdnpmkaa.GWhole
namespace Go.Proofs.Ytlhogkfmdnpmkaa.GWhole
open Go.RowKit Go.Proofs.YtlhogkfmdnpmkaaW.PrintWords Go.Proofs.YtlhogkfmdnpmkaaW.PrintLast Go.Proofs.YtlhogkfmdnpmkaaW.PrintMore
attribute [local go_sem] Ui Uk max_two min_two Zx Zy Uj Ul
set_option linter.unusedVariables false
set_option linter.unusedSimpArgs false
def Zq.f (l0:List (S69)) (l1:List (S69)):Option ((List (S69))):=(some (([]:List (S69)):List (S69))).bind fun aC=>(if aC.length+l0.length<1759218604441 then ((some (aC ++ l0:List (S69))).bind fun aA=>(if aA.length+l1.length<1759218604441 then (some (aA ++ l1)) else (none))) else (none))
set_option maxHeartbeats 8000000 in
theorem Zq.calls (aD:Nat→Prop) (A0:Option Addr) (c0:Nat) (l0:List (S69)) (aG:Nat→Prop) (A1:Option Addr) (c1:Nat) (l1:List (S69)) (r:List (S69)) (w:World) (hs0:Kd.V k69 69 w w.heap.size (fun k_=>aD k_) (.slice A0 l0.length c0) l0) (hs1:Kd.V k69 69 w w.heap.size (fun k_=>aG k_) (.slice A1 l1.length c1) l1) (h:Zq.f l0 l1=some r) :
  Calls Try.prog 55 #[.slice A0 l0.length c0,.slice A1 l1.length c1] w fun e w'=>∃ bB:Value,e=.returned (bB)∧Kd.N k69 69 w' w.heap.size (fun k_=>((aD k_∨aG k_)∨w.heap.size≤k_)) bB r∧Below w.heap.size w w':=by
 have aT:=Xa.mk (show Kd.V k69 69 w w.heap.size (fun k_=>((aD k_∨aG k_)∨w.heap.size≤k_)) (.slice A0 l0.length c0) l0 from Kd.Um hs0 (fun k_ hk=>.inl (.inl hk)));have aU:=Xa.mk (show Kd.V k69 69 w w.heap.size (fun k_=>((aD k_∨aG k_)∨w.heap.size≤k_)) (.slice A1 l1.length c1) l1 from Kd.Um hs1 (fun k_ hk=>.inl (.inr hk)));have HB:=Xa.mk (Below.refl w.heap.size w);have H:((some (([]:List (S69)):List (S69))).bind fun aC=>(if aC.length+l0.length<1759218604441 then ((some (aC ++ l0:List (S69))).bind fun aA=>(if aA.length+l1.length<1759218604441 then (some (aA ++ l1)) else (none))) else (none)))=some r:=h;clear h;obtain ⟨aC,aH⟩:∃ y_:List (S69),y_=(([]:List (S69))):=⟨_,rfl⟩
 replace H:(if aC.length+l0.length<1759218604441 then ((some (aC ++ l0:List (S69))).bind fun aA=>(if aA.length+l1.length<1759218604441 then (some (aA ++ l1)) else (none))) else (none))=some r:=by subst aH;first|with_reducible exact H|(have z:=(Option.bind_some _ _).symm.trans H;with_reducible exact z)|exact H
 have aP:=Xa.mk aH;clear aH;by_cases c3:aC.length+l0.length<1759218604441
 ·rw [if_pos c3] at H;have bC:=Xa.mk c3;clear c3;obtain ⟨aA,aI⟩:∃ y_:List (S69),y_=(aC ++ l0):=⟨_,rfl⟩
  replace H:(if aA.length+l1.length<1759218604441 then (some (aA ++ l1)) else (none))=some r:=by subst aI;first|with_reducible exact H|(have z:=(Option.bind_some _ _).symm.trans H;with_reducible exact z)|exact H
  have aY:=Xa.mk aI;clear aI;by_cases c4:aA.length+l1.length<1759218604441
  ·rw [if_pos c4] at H;have bD:=Xa.mk c4;clear c4;obtain ⟨bE,aJ⟩:∃ y_:List (S69),y_=(aA ++ l1):=⟨_,rfl⟩
   replace H:(some bE)=some r:=by subst aJ;first|with_reducible exact H|(have z:=(Option.bind_some _ _).symm.trans H;with_reducible exact z)|exact H
   have aZ:=Xa.mk aJ;clear aJ;obtain rfl:=Option.some.inj H
   go_enter Try.func55,Try.ntmps55
   go_wp2_with (first|((with_reducible refine Zh (N:=5) rfl ?_);refine Kd.N_lit k69 _ 69 ?hg (N':=5) ?hd (xs:=([]:List (S69))) (inner:=[]) (ok:=(fun k_=>((aD k_∨aG k_)∨w.heap.size≤k_))) (okp:=(fun k_=>((aD k_∨aG k_)∨w.heap.size≤k_))) ?hr ?hp (fun _ hk=>hk) ((show ∀ k_,w.heap.size≤k_→(fun k_=>((aD k_∨aG k_)∨w.heap.size≤k_)) k_ from fun k_ hk=>(.inr (Nat.le_trans (Xf (bl_ HB)) hk))) _ (Nat.le_refl _)) (Below.refl _ _) (Nat.le_refl _) (by simp) ?_;(case hd|hg=>rfl);(case hr=>exact hr_);(case hp=>exact (Zw.none _ _));intro aV w5 aK hb bF bA;clear bF bA;(first|rw [← aP.out] at aK|(simp only [Int.reduceToNat] at aK;rw [← aP.out] at aK));replace aT:=Xa.mk (Kd.V_elder' (Kd.va_ (aT.out)) (by first|exact Kd.N_base aK|exact Kd.Yt aK) hb);replace aU:=Xa.mk (Kd.V_elder' (Kd.va_ (aU.out)) (by first|exact Kd.N_base aK|exact Kd.Yt aK) hb);have aM:=Xa.mk (Kd.N_lower aK (Xf (bl_ HB)));replace HB:=Xa.mk (Xe (bl_ HB) hb);clear hb aK)|((with_reducible refine gate_builtin (b:=.append) (xs:=#[.tmp 5,.tmp 6]) rfl ?_);at_builtin;refine Kd.N_append_rows k69 (w0:=w) w.heap.size rfl (.tmp 5) (.tmp 6) 50 69 (.agg #[(.int .i64 0),(.int .i64 0),(.int .i64 0),(.int .i64 0),(.slice none 0 0),(.slice none 0 0)]) 80 rfl Try.underlying50 info69 rfl (by decide) (by omega) aV aC l0 _ _ _ (fun k_=>((aD k_∨aG k_)∨w.heap.size≤k_)) (fun k_=>((fun k_=>((aD k_∨aG k_)∨w.heap.size≤k_))) k_∧some k_≠(aV:Value).ownBlock) rfl rfl ?aO ?aR (fun _ hk=>hk) ?aF ?aB ?aS ?aL ?_;(case aR=>exact (by skip;exact Kd.V_F (Kd.Um (ok':=(fun k_=>((fun k_=>((aD k_∨aG k_)∨w.heap.size≤k_))) k_∧some k_≠(aV:Value).ownBlock)) (aT.out) (fun k_ hk=>⟨hk.1,hk.2⟩))));(case aB=>exact (bl_ HB));(case aF=>exact (fun k_ hk=>(.inr (Nat.le_trans (Xf (bl_ HB)) hk))));(case aO=>exact (Kd.na_ (aM.out)));(case aS=>exact (Xf (bl_ HB)));(case aL=>have:=bC.out;omega);intro aW w7 ho hb hg hat;rw [← aY.out] at ho;replace aT:=Xa.mk (Kd.V_afterv (ok:=(fun k_=>((aD k_∨aG k_)∨w.heap.size≤k_))) (Kd.va_ (aT.out)) hg hat);replace aU:=Xa.mk (Kd.V_afterv (ok:=(fun k_=>((aD k_∨aG k_)∨w.heap.size≤k_))) (Kd.va_ (aU.out)) hg hat);replace HB:=Xa.mk (hb);have aN:=Xa.mk (ho);clear aM ho hb hg hat)|((with_reducible refine gate_builtin (b:=.append) (xs:=#[.tmp 7,.tmp 8]) rfl ?_);at_builtin;refine Kd.N_append_rows k69 (w0:=w) w.heap.size rfl (.tmp 7) (.tmp 8) 50 69 (.agg #[(.int .i64 0),(.int .i64 0),(.int .i64 0),(.int .i64 0),(.slice none 0 0),(.slice none 0 0)]) 80 rfl Try.underlying50 info69 rfl (by decide) (by omega) aW aA l1 _ _ _ (fun k_=>((aD k_∨aG k_)∨w.heap.size≤k_)) (fun k_=>((fun k_=>((aD k_∨aG k_)∨w.heap.size≤k_))) k_∧some k_≠(aW:Value).ownBlock) rfl rfl ?aO ?aR (fun _ hk=>hk) ?aF ?aB ?aS ?aL ?_;(case aR=>exact (by skip;exact Kd.V_F (Kd.Um (ok':=(fun k_=>((fun k_=>((aD k_∨aG k_)∨w.heap.size≤k_))) k_∧some k_≠(aW:Value).ownBlock)) (aU.out) (fun k_ hk=>⟨hk.1,hk.2⟩))));(case aB=>exact (bl_ HB));(case aF=>exact (fun k_ hk=>(.inr (Nat.le_trans (Xf (bl_ HB)) hk))));(case aO=>exact (Kd.na_ (aN.out)));(case aS=>exact (Xf (bl_ HB)));(case aL=>have:=bD.out;omega);intro v451 w8 ho hb hg hat;rw [← aZ.out] at ho;replace aT:=Xa.mk (Kd.V_afterv (ok:=(fun k_=>((aD k_∨aG k_)∨w.heap.size≤k_))) (Kd.va_ (aT.out)) hg hat);replace aU:=Xa.mk (Kd.V_afterv (ok:=(fun k_=>((aD k_∨aG k_)∨w.heap.size≤k_))) (Kd.va_ (aU.out)) hg hat);replace HB:=Xa.mk (hb);have aX:=Xa.mk (ho);clear aN ho hb hg hat))
   go_ret
   exact ⟨_,rf_,Kd.na_ (aX.out),bl_ HB⟩
  ·rw [if_neg c4] at H;exact absurd H (by simp)
 ·rw [if_neg c3] at H;exact absurd H (by simp)
end Go.Proofs.Ytlhogkfmdnpmkaa.GWhole
