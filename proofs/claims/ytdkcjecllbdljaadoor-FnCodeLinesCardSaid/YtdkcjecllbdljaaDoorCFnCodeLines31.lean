import Derived.Maps.OwnOps
import Derived.WalkKit
import Derived.RangeFuncRecord
import Derived.Deep.Draws
namespace Go.Proofs.YtdkcjecllbdljaaDoor.HMap
open Go.RowKit Go.MapKept
def IntMap (w:World) (b:Nat) (m:List (Int × Value)):Prop:=
  ∃ es clock,w.heap[b]?=some (.map es clock)∧es.toList.map (fun e=>(e.key,e.val))=m.map (fun p=>(Value.int .i64 p.1,p.2))
def at_ (m:List (Int × Value)) (n:Int):Option Value:=(m.find? (fun p=>p.1 == n)).map (·.2)
def put_:List (Int × Value)→Int→Value→List (Int × Value)
  |[],n,v=>[(n,v)]
  |(k,u) :: m,n,v=>if k == n then (k,v) :: m else (k,u) :: put_ m n v
theorem find_none (n:Int):∀ (l:List MapEntry) (m:List (Int × Value)) (i:Nat),l.map (fun e=>(e.key,e.val))=m.map (fun p=>(Value.int .i64 p.1,p.2))→
    m.find? (fun p=>p.1 == n)=none→Instr.findNow (.int .i64) (.int .i64 n) l i=some none
  |[],_,_,_,_=>rfl
  |e :: l,[],_,h,_=>by simp at h
  |e :: l,(k,u) :: m,i,h,hf=>by
    simp only [List.map_cons,List.cons.injEq,Prod.mk.injEq] at h
    obtain ⟨⟨h1,h2⟩,h3⟩:=h
    by_cases c:k=n
    · simp [c] at hf
    · have c':(k == n)=false:=by simpa using c
      rw [List.find?_cons,c'] at hf
      have d:(n == k)=false:=by simp;exact fun x=>c x.symm
      simp only [Instr.findNow,h1,Instr.sameNow,if_true,d]
      exact find_none n l m (i+1) h3 hf
theorem find_some (n:Int) (q:Int × Value):∀ (l:List MapEntry) (m:List (Int × Value)) (i:Nat),l.map (fun e=>(e.key,e.val))=m.map (fun p=>(Value.int .i64 p.1,p.2))→
    m.find? (fun p=>p.1 == n)=some q→∃ j e,Instr.findNow (.int .i64) (.int .i64 n) l i=some (some (i+j,q.2))∧l[j]?=some e∧e.key=.int .i64 n∧
      (l.modify j (fun e=>{ e with val:=e.val })).length=l.length∧∀ v k,(l.modify j (fun e=>{ e with key:=k,val:=v })).map (fun e=>(e.key,e.val))=(l.modify j (fun e=>{ e with key:=k,val:=v })).map (fun e=>(e.key,e.val))∧
        (k=.int .i64 n→(l.modify j (fun e=>{ e with key:=k,val:=v })).map (fun e=>(e.key,e.val))=(put_ m n v).map (fun p=>(Value.int .i64 p.1,p.2)))
  |[],m,_,h,hf=>by
    cases m with
    |nil=>simp at hf
    |cons _ _=>simp at h
  |e :: l,[],_,h,_=>by simp at h
  |e :: l,(k,u) :: m,i,h,hf=>by
    simp only [List.map_cons,List.cons.injEq,Prod.mk.injEq] at h
    obtain ⟨⟨h1,h2⟩,h3⟩:=h
    by_cases c:k=n
    · subst c
      simp at hf
      refine ⟨0,e,?_,rfl,h1,by simp,fun v k'=>⟨rfl,?_⟩⟩
      · simp [Instr.findNow,h1,Instr.sameNow,← hf,h2]
      · rintro rfl
        simp [put_,h3]
    · have c':(k == n)=false:=by simpa using c
      rw [List.find?_cons,c'] at hf
      have d:(n == k)=false:=by simp;exact fun x=>c x.symm
      obtain ⟨j,e',g1,g2,g3,g4,g5⟩:=find_some n q l m (i+1) h3 hf
      refine ⟨j+1,e',?_,by simpa using g2,g3,by simp,fun v k'=>⟨rfl,fun hk=>?_⟩⟩
      · simp only [Instr.findNow,h1,Instr.sameNow,if_true,d,g1]
        simp;omega
      · have:=(g5 v k').2 hk
        simp [put_,c,this,h1,h2]
section
variable {P:Program} {w:World} {T K E:TypeId} {b:Nat} {m:List (Int × Value)}
theorem isKey (n:Int):IsKey (.int .i64) (.int .i64 n):=by simp [IsKey]
theorem run_lookup_im (hT:P.underlying T=some (.map K E)) (hK:P.underlying K=some (.int .i64)) (hm:IntMap w b m) (n:Int) (ok:Bool) (z:Value) (hz:(zeroValue E).run P w=.ok z w) :
    (Instr.lookup T (.map (some b)) (.int .i64 n) ok).run P w=.ok (if ok then .tuple #[(at_ m n).getD z,.bool (at_ m n).isSome] else (at_ m n).getD z) w:=by
  obtain ⟨es,clock,hb,he⟩:=hm
  cases hf:m.find? (fun p=>p.1 == n) with
  |none=>
    have h1:=find_none n es.toList m 0 he hf
    have e:at_ m n=none:=by simp [at_,hf]
    rw [e]
    cases ok <;> simp [Instr.lookup,run_underlying hT,MapKept.run_getObj_map hb,run_checkKey hK (isKey n),run_findKey hK h1,hz,Result.andThen]
  |some q=>
    obtain ⟨j,e',h1,_⟩:=find_some n q es.toList m 0 he hf
    have e:at_ m n=some q.2:=by simp [at_,hf]
    rw [e]
    cases ok <;> simp [Instr.lookup,run_underlying hT,MapKept.run_getObj_map hb,run_checkKey hK (isKey n),run_findKey hK h1,Result.andThen]
theorem run_update_im (hT:P.underlying T=some (.map K E)) (hK:P.underlying K=some (.int .i64)) (hm:IntMap w b m) (n:Int) (v:Value) :
    ∃ w',(Instr.mapUpdate T (.map (some b)) (.int .i64 n) v).run P w=.ok () w'∧IntMap w' b (put_ m n v)∧w.grownBy w' (some b)∧w'.heap.size=w.heap.size:=by
  obtain ⟨es,clock,hb,he⟩:=hm
  have hlt:b<w.heap.size:=(Array.getElem?_eq_some_iff.1 hb).1
  have hg:∀ o:Obj,w.grownBy { w with heap:=w.heap.setIfInBounds b o } (some b):=fun o=>⟨rfl,rfl,rfl,by simp,fun k _ hne=>by
    have:b≠k:=fun h=>hne (by rw [h])
    simp [Array.getElem?_setIfInBounds_ne this]⟩
  cases hf:m.find? (fun p=>p.1 == n) with
  |none=>
    have h1:=find_none n es.toList m 0 he hf
    refine ⟨{ w with heap:=w.heap.setIfInBounds b (.map (es.push { key:=.int .i64 n,val:=v,born:=clock }) (clock+1)) },?_,⟨_,_,(heap_set hb).1,?_⟩,hg _,by simp⟩
    · simp [Instr.mapUpdate,run_underlying hT,MapKept.run_getObj_map hb,run_checkKey hK (isKey n),run_findKey hK h1,run_setObj_map _ hb,Result.andThen]
    · have:put_ m n v=m ++ [(n,v)]:=by
        clear he h1 hg hlt hb
        induction m with
        |nil=>rfl
        |cons p m ih=>
          obtain ⟨k,u⟩:=p
          by_cases c:k=n
          · simp [c] at hf
          · have c':(k == n)=false:=by simpa using c
            rw [List.find?_cons,c'] at hf
            simp [put_,c,ih hf]
      rw [this]
      simp [he]
  |some q=>
    obtain ⟨j,e',h1,h2,h3,h4,h5⟩:=find_some n q es.toList m 0 he hf
    rw [Nat.zero_add] at h1
    have hj:es[j]?=some e':=by simpa using h2
    refine ⟨{ w with heap:=w.heap.setIfInBounds b (.map (es.modify j fun e=>{ e with key:=.int .i64 n,val:=v }) clock) },?_,⟨_,_,(heap_set hb).1,?_⟩,hg _,by simp⟩
    · simp [Instr.mapUpdate,run_underlying hT,MapKept.run_getObj_map hb,run_checkKey hK (isKey n),run_findKey hK h1,hj,h3,run_keyThatStays (isKey n),run_setObj_map _ hb,Result.andThen]
    · have:=(h5 v (.int .i64 n)).2 rfl
      rw [← this]
      simp [Array.toList_modify]
theorem wpList_update_im {ops:Array Oper} {rest:List Oper} {o:Oper} {a:Act} {Q:Exit→Act→World→Prop}
    (hg:o.guard=none) (mo x v:Operand) (hop:o.op=Op.mapUpdate T mo x v∨o.op=Op.insert T mo x v) (hT:P.underlying T=some (.map K E)) (hK:P.underlying K=some (.int .i64)) (n:Int)
    (hmo:a.eval mo=.map (some b)) (hx:a.eval x=.int .i64 n) (hm:IntMap w b m)
    (hK':∀ w',IntMap w' b (put_ m n (a.eval v))→w.grownBy w' (some b)→w'.heap.size=w.heap.size→wpList P ops Q rest (a.put o.dst undef) w') :
    wpList P ops Q (o :: rest) a w:=by
  refine wpList_plain hg fun K2 hK2=>?_
  obtain ⟨w',hrun,r1,r2,r3⟩:=run_update_im hT hK hm n (a.eval v)
  unfold Oper.wp
  rcases hop with hop|hop <;> simp only [execOp,hop,hmo,hx,Sem.run_bind,hrun,Result.andThen] <;> exact hK2 _ _ (hK' w' r1 r2 r3)
end
theorem IntMap.made (w:World):IntMap (w.alloc (.map #[] 0)) w.heap.size []:=⟨#[],0,World.alloc_heap_new w _,rfl⟩
theorem IntMap.below {w w':World} {b:Nat} {m:List (Int × Value)} (h:IntMap w b m) (hb:Below w.heap.size w w'):IntMap w' b m:=by
  obtain ⟨es,c,h1,h2⟩:=h
  exact ⟨es,c,(hb.block b (Array.getElem?_eq_some_iff.1 h1).1).trans h1,h2⟩
theorem IntMap.alloc {w:World} {b:Nat} {m:List (Int × Value)} (h:IntMap w b m) (o:Obj):IntMap (w.alloc o) b m:=h.below ((Below.refl _ _).alloc (Nat.le_refl _) o)
theorem IntMap.drewN {w:World} {b:Nat} {m:List (Int × Value)} (h:IntMap w b m) (n:Nat):IntMap (w.drewN n) b m:=h
theorem IntMap.grown {w w':World} {b:Nat} {m:List (Int × Value)} (h:IntMap w b m) {row:Option Nat} (hg:w.grownBy w' row) (hne:some b≠row):IntMap w' b m:=by
  obtain ⟨es,c,h1,h2⟩:=h
  exact ⟨es,c,(hg.block b (Array.getElem?_eq_some_iff.1 h1).1 hne).trans h1,h2⟩
theorem IntMap.lt {w:World} {b:Nat} {m:List (Int × Value)} (h:IntMap w b m):b<w.heap.size:=by
  obtain ⟨es,c,h1,h2⟩:=h
  exact (Array.getElem?_eq_some_iff.1 h1).1
end Go.Proofs.YtdkcjecllbdljaaDoor.HMap
