import Derived.Test.YtlhogkfmdnpmkaaGreatCFnExactMarksOf21
import Derived.RangeFuncRecord
import Derived.WalkSpells
import Derived.Laws.EntriesVeiled
set_option linter.unusedVariables false
set_option linter.unusedSimpArgs false
set_option maxHeartbeats 8000000
set_option maxRecDepth 100000
namespace Go.Proofs.YtlhogkfmdnpmkaaGreat.GMarks
open RowKit YtlhogkfmdnpmkaaGreatW.PrintWords YtlhogkfmdnpmkaaGreatW.PrintLast YtlhogkfmdnpmkaaGreatW.PrintMore
attribute [local go_sem] Ua Ud Uu Ux Zo Zp Ub Ue
def impl_fits.f (a0:Int) (a1:Int):Option (Bool):=if a0=0 then (some true) else (if a0 > 0 then (some (decide (a0<a1))) else (some false))
theorem impl_fits.calls (a0:Int) (a1:Int) (r:Bool) (w:World) (h:impl_fits.f a0 a1=some r) :
  Calls Tryz.prog 110 #[.int .i64 a0,.int .i64 a1] w fun e w'=>e=.returned (.bool r)∧Xz w w':=by
 have H:(if a0=0 then (some true) else (if a0 > 0 then (some (decide (a0<a1))) else (some false)))=some r:=h;clear h;by_cases c3:a0=0
 ·rw [if_pos c3] at H;have aV:(a0 == 0)=true:=eb_ c3;have aW:(a0 != 0)=false:=nq_ c3;clear c3;obtain rfl:=sj_ H;go_enter Tryz.func110,Tryz.ntmps110;go_wp2;go_ret
  exact ⟨by first|rfl|(simp;done)|(simp [*];done),by repeat (first|exact Xz.refl _|apply Xz.step)⟩
 ·rw [if_neg c3] at H;have aV:(a0 == 0)=false:=nb_ c3;have aW:(a0 != 0)=true:=nn_ c3;by_cases c4:a0 > 0
  ·rw [if_pos c4] at H;have aX:decide (0<a0)=true:=dt_ c4;clear c4;obtain rfl:=sj_ H;go_enter Tryz.func110,Tryz.ntmps110;go_wp2;go_ret
   exact ⟨by first|rfl|(simp;done)|(simp [*];done),by repeat (first|exact Xz.refl _|apply Xz.step)⟩
  ·rw [if_neg c4] at H;have aX:decide (0<a0)=false:=df_ c4;clear c4;obtain rfl:=sj_ H;go_enter Tryz.func110,Tryz.ntmps110;go_wp2;go_ret
   exact ⟨by first|rfl|(simp;done)|(simp [*];done),by repeat (first|exact Xz.refl _|apply Xz.step)⟩
def impl_NumOk.f (a0:Int):Option (Bool):=if a0 ≥ (-999) then (some (decide (a0≤999))) else (some false)
theorem impl_NumOk.calls (a0:Int) (r:Bool) (w:World) (h:impl_NumOk.f a0=some r) :
  Calls Tryz.prog 112 #[.int .i64 a0] w fun e w'=>e=.returned (.bool r)∧Xz w w':=by
 have H:(if a0 ≥ (-999) then (some (decide (a0≤999))) else (some false))=some r:=h;clear h;by_cases c2:a0 ≥ (-999)
 ·rw [if_pos c2] at H;have aN:decide ((-999)≤a0)=true:=dt_ c2;clear c2;obtain rfl:=sj_ H;go_enter Tryz.func112,Tryz.ntmps112;go_wp2;go_ret
  exact ⟨by first|rfl|(simp;done)|(simp [*];done),by repeat (first|exact Xz.refl _|apply Xz.step)⟩
 ·rw [if_neg c2] at H;have aN:decide ((-999)≤a0)=false:=df_ c2;clear c2;obtain rfl:=sj_ H;go_enter Tryz.func112,Tryz.ntmps112;go_wp2;go_ret
  exact ⟨by first|rfl|(simp;done)|(simp [*];done),by repeat (first|exact Xz.refl _|apply Xz.step)⟩
def impl_isOp.f (a0:Int):Option (Bool):=if a0 ≥ 1 then (some (decide (a0≤5))) else (some false)
theorem impl_isOp.calls (a0:Int) (r:Bool) (w:World) (h:impl_isOp.f a0=some r) :
  Calls Tryz.prog 113 #[.int .i64 a0] w fun e w'=>e=.returned (.bool r)∧Xz w w':=by
 have H:(if a0 ≥ 1 then (some (decide (a0≤5))) else (some false))=some r:=h;clear h;by_cases c2:a0 ≥ 1
 ·rw [if_pos c2] at H;have aN:decide (1≤a0)=true:=dt_ c2;clear c2;obtain rfl:=sj_ H;go_enter Tryz.func113,Tryz.ntmps113;go_wp2;go_ret
  exact ⟨by first|rfl|(simp;done)|(simp [*];done),by repeat (first|exact Xz.refl _|apply Xz.step)⟩
 ·rw [if_neg c2] at H;have aN:decide (1≤a0)=false:=df_ c2;clear c2;obtain rfl:=sj_ H;go_enter Tryz.func113,Tryz.ntmps113;go_wp2;go_ret
  exact ⟨by first|rfl|(simp;done)|(simp [*];done),by repeat (first|exact Xz.refl _|apply Xz.step)⟩
def impl_Stmt_numberOk.f (aA:Int) (aH:Int) (aI:Int) (aB:Int) (aF:List (S87)) (aG:List (S87)):Option (Bool):=if aA=1 then ((impl_NumOk.f aB).bind fun t159=>(some t159)) else (if aA=2 then ((impl_isOp.f aB).bind fun t160=>(some t160)) else (some (aB == 0)))
theorem impl_Stmt_numberOk.calls (aA:Int) (aH:Int) (aI:Int) (aB:Int) (aJ:Option Addr) (aL:Nat) (aF:List (S87)) (aK:Option Addr) (aM:Nat) (aG:List (S87)) (r:Bool) (w:World) (aS:Kd.C k87 w aJ aF.length aF) (aQ:aF.length≤aL) (aT:Kd.C k87 w aK aG.length aG) (aR:aG.length≤aM) (h:impl_Stmt_numberOk.f aA aH aI aB aF aG=some r) :
  Calls Tryz.prog 111 #[.agg #[.int .i64 aA,.int .i64 aH,.int .i64 aI,.int .i64 aB,.slice aJ aF.length aL,.slice aK aG.length aM]] w fun e w'=>e=.returned (.bool r)∧Below w.heap.size w w':=by
 have hu87:=Tryz.underlying87;have HR0_4:=Xa.mk aS;have HC0_4:=Xa.mk aQ;clear aS aQ;have HR0_5:=Xa.mk aT;have HC0_5:=Xa.mk aR;clear aT aR;have HB:=Xa.mk (Below.refl w.heap.size w);have H:(if aA=1 then ((impl_NumOk.f aB).bind fun t159=>(some t159)) else (if aA=2 then ((impl_isOp.f aB).bind fun t160=>(some t160)) else (some (aB == 0))))=some r:=h;clear h;by_cases c2:aA=1
 ·rw [if_pos c2] at H;have aN:(aA == 1)=true:=eb_ c2;have aU:(aA != 1)=false:=nq_ c2;clear c2;replace H:=bo_ H;obtain ⟨t159,bA,H⟩:=H;replace H:(some t159)=some r:=H;have A3:=Xa.mk bA;clear bA;obtain rfl:=sj_ H;go_enter Tryz.func111,Tryz.ntmps111;go_wp2_with (first|((with_reducible refine Yv (N:=1) rfl ?_);refine Zb ?hg (N:=1) ?hd (cs:=#[.int .i64 aA,.int .i64 aH,.int .i64 aI,.int .i64 aB,.slice aJ aF.length aL,.slice aK aG.length aM]) (t:=87) ?hr ?_;(case hd|hg=>rfl);(case hr=>exact hr_);intro aD hg w4 hbox hb;have aC:=Xa.mk (hbox);have aP:=Xa.mk ((ge_ hg (Xj (bl_ HB)):w.heap.size≤aD));have aO:=Xa.mk ((ge_ hg (Xj (bl_ HB)):w.heap.size≤aD));replace HB:=Xa.mk (Xi (bl_ HB) hb);clear hb hbox hg;obtain ⟨_,_,_,_,_,_⟩:=Zr aC.out;obtain ⟨_,_,_,_,_,_⟩:=Zt aC.out)|((with_reducible refine Yh (f:=112) rfl ?_);refine Zz (some 9) rfl rfl Tryz.func112 kr_ rfl #[.int .i64 aB] rfl ga_ ?_;(with_reducible refine (impl_NumOk.calls aB t159 _ A3.out).mono ?_);rintro e w' ⟨rfl,⟨nd,rfl⟩⟩;refine ⟨_,rfl,?_⟩));go_ret
  exact ⟨rf_,bl_ HB⟩
 ·rw [if_neg c2] at H;have aN:(aA == 1)=false:=nb_ c2;have aU:(aA != 1)=true:=nn_ c2;by_cases c6:aA=2
  ·rw [if_pos c6] at H;have aY:(aA == 2)=true:=eb_ c6;have aZ:(aA != 2)=false:=nq_ c6;clear c6;replace H:=bo_ H;obtain ⟨t160,bB,H⟩:=H;replace H:(some t160)=some r:=H;have A7:=Xa.mk bB;clear bB;obtain rfl:=sj_ H;go_enter Tryz.func111,Tryz.ntmps111;go_wp2_with (first|((with_reducible refine Yv (N:=1) rfl ?_);refine Zb ?hg (N:=1) ?hd (cs:=#[.int .i64 aA,.int .i64 aH,.int .i64 aI,.int .i64 aB,.slice aJ aF.length aL,.slice aK aG.length aM]) (t:=87) ?hr ?_;(case hd|hg=>rfl);(case hr=>exact hr_);intro aD hg w8 hbox hb;have aC:=Xa.mk (hbox);have aP:=Xa.mk ((ge_ hg (Xj (bl_ HB)):w.heap.size≤aD));have aO:=Xa.mk ((ge_ hg (Xj (bl_ HB)):w.heap.size≤aD));replace HB:=Xa.mk (Xi (bl_ HB) hb);clear hb hbox hg;obtain ⟨_,_,_,_,_,_⟩:=Zr aC.out;obtain ⟨_,_,_,_,_,_⟩:=Zt aC.out)|((with_reducible refine Yh (f:=113) rfl ?_);refine Zz (some 14) rfl rfl Tryz.func113 kr_ rfl #[.int .i64 aB] rfl ga_ ?_;(with_reducible refine (impl_isOp.calls aB t160 _ A7.out).mono ?_);rintro e w' ⟨rfl,⟨nd,rfl⟩⟩;refine ⟨_,rfl,?_⟩));go_ret
   exact ⟨rf_,bl_ HB⟩
  ·rw [if_neg c6] at H;have aY:(aA == 2)=false:=nb_ c6;have aZ:(aA != 2)=true:=nn_ c6;obtain rfl:=sj_ H;go_enter Tryz.func111,Tryz.ntmps111;go_wp2_with (first|((with_reducible refine Yv (N:=1) rfl ?_);refine Zb ?hg (N:=1) ?hd (cs:=#[.int .i64 aA,.int .i64 aH,.int .i64 aI,.int .i64 aB,.slice aJ aF.length aL,.slice aK aG.length aM]) (t:=87) ?hr ?_;(case hd|hg=>rfl);(case hr=>exact hr_);intro aD hg w10 hbox hb;have aC:=Xa.mk (hbox);have aP:=Xa.mk ((ge_ hg (Xj (bl_ HB)):w.heap.size≤aD));have aO:=Xa.mk ((ge_ hg (Xj (bl_ HB)):w.heap.size≤aD));replace HB:=Xa.mk (Xi (bl_ HB) hb);clear hb hbox hg;obtain ⟨_,_,_,_,_,_⟩:=Zr aC.out;obtain ⟨_,_,_,_,_,_⟩:=Zt aC.out));go_ret
   exact ⟨rf_,bl_ HB⟩
end Go.Proofs.YtlhogkfmdnpmkaaGreat.GMarks
namespace Go.Proofs.YtlhogkfmdnpmkaaGreat.HMap
open RowKit MapKept
def IntMap (w:World) (b:Nat) (m:List (Int × Value)):Prop:=
 ∃ es clock,w.heap[b]?=some (.map es clock)∧es.toList.map (fun e=>(e.key,e.val))=m.map (fun p=>(Value.int .i64 p.1,p.2))
def at_ (m:List (Int × Value)) (n:Int):Option Value:=(m.find? (fun p=>p.1 == n)).map (·.2)
def put_:List (Int × Value)→Int→Value→List (Int × Value)
 |[],n,v=>[(n,v)]
 |(k,u) :: m,n,v=>if k == n then (k,v) :: m else (k,u) :: put_ m n v
theorem find_none (n:Int):∀ (l:List MapEntry) (m:List (Int × Value)) (i:Nat),l.map (fun e=>(e.key,e.val))=m.map (fun p=>(Value.int .i64 p.1,p.2))→
  m.find? (fun p=>p.1 == n)=none→Instr.findNow (.int .i64) (.int .i64 n) l i=some none
 |[],_,_,_,_=>rfl
 |e :: l,[],_,h,_=>by simp at h
 |e :: l,(k,u) :: m,i,h,hf=>by
  simp only [List.map_cons,List.cons.injEq,Prod.mk.injEq] at h;obtain ⟨⟨h1,h2⟩,h3⟩:=h;by_cases c:k=n
  ·simp [c] at hf
  ·have c':(k == n)=false:=by simpa using c
   rw [List.find?_cons,c'] at hf
   have d:(n == k)=false:=by simp;exact fun x=>c x.symm
   simp only [Instr.findNow,h1,Instr.sameNow,if_true,d];exact find_none n l m (i+1) h3 hf
theorem find_some (n:Int) (q:Int × Value):∀ (l:List MapEntry) (m:List (Int × Value)) (i:Nat),l.map (fun e=>(e.key,e.val))=m.map (fun p=>(Value.int .i64 p.1,p.2))→
  m.find? (fun p=>p.1 == n)=some q→∃ j e,Instr.findNow (.int .i64) (.int .i64 n) l i=some (some (i+j,q.2))∧l[j]?=some e∧e.key=.int .i64 n∧
   (l.modify j (fun e=>{ e with val:=e.val })).length=l.length∧∀ v k,(l.modify j (fun e=>{ e with key:=k,val:=v })).map (fun e=>(e.key,e.val))=(l.modify j (fun e=>{ e with key:=k,val:=v })).map (fun e=>(e.key,e.val))∧
    (k=.int .i64 n→(l.modify j (fun e=>{ e with key:=k,val:=v })).map (fun e=>(e.key,e.val))=(put_ m n v).map (fun p=>(Value.int .i64 p.1,p.2)))
 |[],m,_,h,hf=>by
  cases m with
  |nil=>simp at hf
  |cons _ _=>simp at h
 |e :: l,[],_,h,_=>by simp at h
 |e :: l,(k,u) :: m,i,h,hf=>by
  simp only [List.map_cons,List.cons.injEq,Prod.mk.injEq] at h;obtain ⟨⟨h1,h2⟩,h3⟩:=h;by_cases c:k=n
  ·subst c;simp at hf;refine ⟨0,e,?_,rfl,h1,sm_,fun v k'=>⟨rfl,?_⟩⟩
   ·simp [Instr.findNow,h1,Instr.sameNow,← hf,h2]
   ·rintro rfl;simp [put_,h3]
  ·have c':(k == n)=false:=by simpa using c
   rw [List.find?_cons,c'] at hf
   have d:(n == k)=false:=by simp;exact fun x=>c x.symm
   obtain ⟨j,e',g1,g2,g3,g4,g5⟩:=find_some n q l m (i+1) h3 hf;refine ⟨j+1,e',?_,by simpa using g2,g3,sm_,fun v k'=>⟨rfl,fun hk=>?_⟩⟩
   ·simp only [Instr.findNow,h1,Instr.sameNow,if_true,d,g1];simp;omega
   ·have:=(g5 v k').2 hk
    simp [put_,c,this,h1,h2]
section
variable {P:Program} {w:World} {T K E:TypeId} {b:Nat} {m:List (Int × Value)}
theorem isKey (n:Int):IsKey (.int .i64) (.int .i64 n):=by simp [IsKey]
theorem run_lookup_im (hT:P.underlying T=some (.map K E)) (hK:P.underlying K=some (.int .i64)) (hm:IntMap w b m) (n:Int) (ok:Bool) (z:Value) (hz:(zeroValue E).run P w=.ok z w) :
  (Instr.lookup T (.map (some b)) (.int .i64 n) ok).run P w=.ok (if ok then .tuple #[(at_ m n).getD z,.bool (at_ m n).isSome] else (at_ m n).getD z) w:=by
 obtain ⟨es,clock,hb,he⟩:=hm
 cases hf:m.find? (fun p=>p.1 == n) with
 |none=>
  have h1:=find_none n es.toList m 0 he hf
  have e:at_ m n=none:=by simp [at_,hf]
  rw [e]
  cases ok <;> simp [Instr.lookup,run_underlying hT,MapKept.run_getObj_map hb,run_checkKey hK (isKey n),run_findKey hK h1,hz,Result.andThen]
 |some q=>
  obtain ⟨j,e',h1,_⟩:=find_some n q es.toList m 0 he hf
  have e:at_ m n=some q.2:=by simp [at_,hf]
  rw [e]
  cases ok <;> simp [Instr.lookup,run_underlying hT,MapKept.run_getObj_map hb,run_checkKey hK (isKey n),run_findKey hK h1,Result.andThen]
theorem run_update_im (hT:P.underlying T=some (.map K E)) (hK:P.underlying K=some (.int .i64)) (hm:IntMap w b m) (n:Int) (v:Value) :
  ∃ w',(Instr.mapUpdate T (.map (some b)) (.int .i64 n) v).run P w=.ok () w'∧IntMap w' b (put_ m n v)∧w.grownBy w' (some b)∧w'.heap.size=w.heap.size:=by
 obtain ⟨es,clock,hb,he⟩:=hm;have hlt:b<w.heap.size:=(Array.getElem?_eq_some_iff.1 hb).1
 have hg:∀ o:Obj,w.grownBy { w with heap:=w.heap.setIfInBounds b o } (some b):=fun o=>⟨rfl,rfl,rfl,sm_,fun k _ hne=>by
  have:b≠k:=fun h=>hne (by rw [h])
  simp [Array.getElem?_setIfInBounds_ne this]⟩
 cases hf:m.find? (fun p=>p.1 == n) with
 |none=>
  have h1:=find_none n es.toList m 0 he hf;refine ⟨{ w with heap:=w.heap.setIfInBounds b (.map (es.push { key:=.int .i64 n,val:=v,born:=clock }) (clock+1)) },?_,⟨_,_,(heap_set hb).1,?_⟩,hg _,sm_⟩
  ·simp [Instr.mapUpdate,run_underlying hT,MapKept.run_getObj_map hb,run_checkKey hK (isKey n),run_findKey hK h1,run_setObj_map _ hb,Result.andThen]
  ·have:put_ m n v=m ++ [(n,v)]:=by
    clear he h1 hg hlt hb
    induction m with
    |nil=>rfl
    |cons p m ih=>
     obtain ⟨k,u⟩:=p;by_cases c:k=n
     ·simp [c] at hf
     ·have c':(k == n)=false:=by simpa using c
      rw [List.find?_cons,c'] at hf;simp [put_,c,ih hf]
   rw [this];simp [he]
 |some q=>
  obtain ⟨j,e',h1,h2,h3,h4,h5⟩:=find_some n q es.toList m 0 he hf;rw [Nat.zero_add] at h1
  have hj:es[j]?=some e':=by simpa using h2
  refine ⟨{ w with heap:=w.heap.setIfInBounds b (.map (es.modify j fun e=>{ e with key:=.int .i64 n,val:=v }) clock) },?_,⟨_,_,(heap_set hb).1,?_⟩,hg _,sm_⟩
  ·simp [Instr.mapUpdate,run_underlying hT,MapKept.run_getObj_map hb,run_checkKey hK (isKey n),run_findKey hK h1,hj,h3,run_keyThatStays (isKey n),run_setObj_map _ hb,Result.andThen]
  ·have:=(h5 v (.int .i64 n)).2 rfl
   rw [← this];simp [Array.toList_modify]
theorem wpList_update_im {ops:Array Oper} {rest:List Oper} {o:Oper} {a:Act} {Q:Exit→Act→World→Prop}
  (hg:o.guard=none) (mo x v:Operand) (hop:o.op=Op.mapUpdate T mo x v∨o.op=Op.insert T mo x v) (hT:P.underlying T=some (.map K E)) (hK:P.underlying K=some (.int .i64)) (n:Int)
  (hmo:a.eval mo=.map (some b)) (hx:a.eval x=.int .i64 n) (hm:IntMap w b m)
  (hK':∀ w',IntMap w' b (put_ m n (a.eval v))→w.grownBy w' (some b)→w'.heap.size=w.heap.size→wpList P ops Q rest (a.put o.dst undef) w') :
  wpList P ops Q (o :: rest) a w:=by
 refine wpList_plain hg fun K2 hK2=>?_;obtain ⟨w',hrun,r1,r2,r3⟩:=run_update_im hT hK hm n (a.eval v);unfold Oper.wp
 rcases hop with hop|hop <;> simp only [execOp,hop,hmo,hx,Sem.run_bind,hrun,Result.andThen] <;> exact hK2 _ _ (hK' w' r1 r2 r3)
end
theorem IntMap.made (w:World):IntMap (w.alloc (.map #[] 0)) w.heap.size []:=⟨#[],0,World.alloc_heap_new w _,rfl⟩
theorem IntMap.below {w w':World} {b:Nat} {m:List (Int × Value)} (h:IntMap w b m) (hb:Below w.heap.size w w'):IntMap w' b m:=by
 obtain ⟨es,c,h1,h2⟩:=h;exact ⟨es,c,(hb.block b (Array.getElem?_eq_some_iff.1 h1).1).trans h1,h2⟩
theorem IntMap.alloc {w:World} {b:Nat} {m:List (Int × Value)} (h:IntMap w b m) (o:Obj):IntMap (w.alloc o) b m:=h.below ((Below.refl _ _).alloc (Nat.le_refl _) o)
end Go.Proofs.YtlhogkfmdnpmkaaGreat.HMap
namespace Go.Proofs.YtlhogkfmdnpmkaaGreat.SForms
open RowKit HMap
def sNum:ByteArray:=⟨#[110,117,109]⟩
def sNo:ByteArray:=⟨#[]⟩
def sLoad:ByteArray:=⟨#[108,111,97,100]⟩
def sStore:ByteArray:=⟨#[115,116,111,114,101]⟩
def sSay:ByteArray:=⟨#[115,97,121]⟩
def sIf:ByteArray:=⟨#[105,102]⟩
def sWhile:ByteArray:=⟨#[119,104,105,108,101]⟩
def sIn:ByteArray:=⟨#[105,110]⟩
def sWait:ByteArray:=⟨#[119,97,105,116]⟩
def sSignal:ByteArray:=⟨#[115,105,103,110,97,108]⟩
def sYield:ByteArray:=⟨#[121,105,101,108,100]⟩
structure Form where
 word:ByteArray
 a:Int
 b:Int
 body:Bool
 orElse:Bool
def Form.val (f:Form):Value:=.agg #[.string f.word,.int .i64 f.a,.int .i64 f.b,.bool f.body,.bool f.orElse]
def forms:List (Int × Form):=
 [(1,⟨sNum,3,0,false,false⟩),(2,⟨sNo,3,3,false,false⟩),(3,⟨sLoad,3,3,false,false⟩),(4,⟨sStore,3,3,false,false⟩),(5,⟨sSay,3,0,false,false⟩),(6,⟨sIf,3,0,true,true⟩),(7,⟨sWhile,3,0,true,false⟩),(8,⟨sIn,2,0,true,false⟩),(9,⟨sWait,2,0,false,false⟩),(10,⟨sSignal,2,0,false,false⟩),(11,⟨sYield,0,0,false,false⟩)]
def stMap:List (Int × Value):=forms.map (fun p=>(p.1,p.2.val))
def fitsF (n limit:Int):Bool:=decide (n=0)||(decide (n > 0) && decide (n<limit))
def noForm:Form:=⟨⟨#[]⟩,0,0,false,false⟩
def Yg (op:Int):Bool × Form:=match (forms.find? (fun p=>p.1 == op)).map (·.2) with
 |some f=>(true,f)
 |none=>(false,noForm)
theorem at_stMap (op:Int):at_ stMap op=((forms.find? (fun p=>p.1 == op)).map (·.2)).map Form.val:=by
 unfold at_ stMap;generalize forms=l
 induction l with
 |nil=>rfl
 |cons p l ih=>
  simp only [List.map_cons,List.find?_cons]
  cases p.1 == op with
  |true=>rfl
  |false=>exact ih
theorem look_is (op:Int):(at_ stMap op).isSome=(Yg op).1∧(at_ stMap op).getD noForm.val=(Yg op).2.val:=by
 rw [at_stMap];unfold Yg
 cases (forms.find? (fun p=>p.1 == op)).map (·.2) <;> exact ⟨rfl,rfl⟩
theorem look_run {W:World} {b:Nat} (h:IntMap W b stMap) (op:Int) :
  (Instr.lookup 172 (.map (some b)) (.int .i64 op) true).run Tryz.prog W =
   .ok (.tuple #[.agg #[.string (Yg op).2.word,.int .i64 (Yg op).2.a,.int .i64 (Yg op).2.b,.bool (Yg op).2.body,.bool (Yg op).2.orElse],.bool (Yg op).1]) W:=by
 have hz:(zeroValue 170).run Tryz.prog W=.ok noForm.val W:=kr_
 rw [run_lookup_im Tryz.underlying172 Tryz.underlying3 h op true _ hz,(look_is op).1,(look_is op).2];rfl
theorem forms_calls (w:World) :
  Calls Tryz.prog 109 #[] w fun e w'=>∃ b,e=.returned (.map (some b))∧IntMap w' b stMap∧w.heap.size≤b∧Below w.heap.size w w':=by
 have hmm:=@run_makeMap Tryz.prog;go_enter Tryz.func109,Tryz.ntmps109;have hm0:=IntMap.made w;have hB0:=(Below.refl w.heap.size w).alloc (Nat.le_refl _) (.map #[] 0);go_wp2_with (refine wpList_update_im rfl _ _ _ (.inr rfl) Tryz.underlying172 Tryz.underlying3 _ rfl rfl as_ ?_;intro w1 hm1 hg1 hs1;clear hs1;have hB1:=Below.grown as_ hg1 (Below.size as_) (fun k e=>by cases e;exact Nat.le_refl _);clear hg1 hm0 hB0;have hm0:=hm1;have hB0:=hB1;clear hm1 hB1);go_ret
 exact ⟨_,rfl,hm0,Nat.le_refl _,hB0⟩
end Go.Proofs.YtlhogkfmdnpmkaaGreat.SForms
namespace Go.Proofs.YtlhogkfmdnpmkaaGreat.HStep
open RowKit HMap YtlhogkfmdnpmkaaGreatW.PrintLast
section
variable {P:Program} {ops:Array Oper} {Q:Exit→Act→World→Prop} {oi:Oper} {N:Option Tmp} {a:Act} {w:World} {K:Act→World→Prop}
theorem alloc_ (t:TypeId) (cs:Array Value) (hw:Region.wanted oi (yielded ops a.tmps)=true) (hN:oi.dst=N) (hop:oi.op=.alloc t)
  (hrun:∀ W:World,(Instr.alloc t true (.tuple #[])).run P W=.ok (.pointer (some ⟨W.heap.size,0,none⟩)) (W.alloc (.cells cs t)))
  (h:K (a.put N (.pointer (some ⟨w.heap.size,0,none⟩))) (w.alloc (.cells cs t))):if Region.wanted oi (yielded ops a.tmps)=true then Oper.wp P oi a w K Q else K (a.put N undef) w:=by
 refine value_ hw hN ?_ h;unfold execOp;simp only [hop,Sem.run_bind,hrun,Result.andThen];rfl
theorem store_row_ (hw:Region.wanted oi (yielded ops a.tmps)=true) (hN:oi.dst=none) (ty:TypeId) (x y:Operand) (ho:oi.op=.store ty x y)
  (g:Nat) (cells:Array Value) (hx:a.eval x=.pointer (some ⟨g,0,none⟩)) (hy:a.eval y=.agg cells)
  (t:TypeId) (old:Array Value) (hg:w.heap[g]?=some (.cells old t (0,0))) (hi:(P.info? ty).map (·.size)=some cells.size)
  (hold:old.size=cells.size) (h1:cells.all (·.oneCell')=true)
  (h:K a (w.setRow g cells)):if Region.wanted oi (yielded ops a.tmps)=true then Oper.wp P oi a w K Q else K (a.put none undef) w:=by
 rw [if_pos hw];refine wp_store_row ty x y ho g cells hx hy t old hg hi hold h1 ?_;rw [hN];exact h
theorem lookup_ (hw:Region.wanted oi (yielded ops a.tmps)=true) (hN:oi.dst=N) (T:TypeId) (mo x:Operand) (ok:Bool) (hop:oi.op=Op.lookup T mo x ok) (M X v:Value) (hmo:a.eval mo=M) (hx:a.eval x=X)
  (hrun:(Instr.lookup T M X ok).run P w=.ok v w)
  (h:K (a.put N v) w):if Region.wanted oi (yielded ops a.tmps)=true then Oper.wp P oi a w K Q else K (a.put N undef) w:=by
 refine value_ hw hN ?_ h;unfold execOp;simp only [hop,hmo,hx,Sem.run_bind,hrun,Result.andThen];rfl
end
theorem heap_setRow {w:World} {g:Nat} {cs old:Array Value} {t:TypeId} (hg:w.heap[g]?=some (.cells old t (0,0))):(w.setRow g cs).heap[g]?=some (.cells cs t (0,0)):=setRow_heap w g old cs t _ hg
end Go.Proofs.YtlhogkfmdnpmkaaGreat.HStep
