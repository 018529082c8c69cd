import Derived.StillTailTactics
import Derived.Test.YtlhogkfmdnpmkaaGreatCFnExactMarksOf29
import Derived.Lib.Hide
import Derived.Deep.DeepMust
set_option linter.unusedVariables false
set_option linter.unusedSimpArgs false
set_option maxHeartbeats 8000000
set_option maxRecDepth 100000
namespace Go.Proofs.YtlhogkfmdnpmkaaGreat.Mean
variable {P:Program} {ops:Array Oper} {w:World}
theorem wpStill_mono_ {Q Q':Act→Prop} (hq:∀ a,Q a→Q' a):∀ (l:List Oper) (a:Act),wpStill P ops w Q l a→wpStill P ops w Q' l a
 |[],a,h=>hq a h
 |o :: rest,a,h=>by
  unfold wpStill at h ⊢;split at h
  ·rename_i hw
   rw [if_pos hw];exact Oper.still_mono (fun a=>wpStill_mono_ hq rest a) h
  ·rename_i hw
   rw [if_neg hw];exact wpStill_mono_ hq rest _ h
structure Still1 (P:Program) (ops:Array Oper) (w:World) (Q:Act→Prop) (l:List Oper) (a:Act):Prop where
 out:wpStill P ops w Q l a
theorem still_nil {Q:Act→Prop} {a:Act} (h:Q a):Still1 P ops w Q [] a:=⟨h⟩
theorem still_go {Q:Act→Prop} {a a':Act} {o:Oper} {rest:List Oper} (hw:Region.wanted o (yielded ops a.tmps)=true)
  (h:∀ K:Act→Prop,K a'→o.still P a w K) (hk:Still1 P ops w Q rest a'):Still1 P ops w Q (o :: rest) a:=⟨by
 unfold wpStill;rw [if_pos hw];exact h _ hk.out⟩
structure List1 (P:Program) (ops:Array Oper) (Q:Exit→Act→World→Prop) (l:List Oper) (a:Act) (w:World):Prop where
 out:wpList P ops Q l a w
theorem list_nil {Q:Exit→Act→World→Prop} {a:Act} (h:Q .normal a w):List1 P ops Q [] a w:=⟨h⟩
theorem list_norm {Q:Exit→Act→World→Prop} {l:List Oper} {a a':Act} (ha:a=a') (h:List1 P ops Q l a' w):List1 P ops Q l a w:=ha ▸ h
theorem list_go {Q:Exit→Act→World→Prop} {a a':Act} {w':World} {o:Oper} {rest:List Oper} (hw:Region.wanted o (yielded ops a.tmps)=true)
  (h:∀ K:Act→World→Prop,K a' w'→Oper.wp P o a w K Q) (hk:List1 P ops Q rest a' w'):List1 P ops Q (o :: rest) a w:=⟨by
 unfold wpList;rw [if_pos hw];exact .inl (h _ hk.out)⟩
theorem list_call {Q:Exit→Act→World→Prop} {a:Act} {o:Oper} {rest:List Oper} (hw:Region.wanted o (yielded ops a.tmps)=true)
  (h:∀ K:Act→World→Prop,(∀ a' w',List1 P ops Q rest a' w'→K a' w')→if Region.wanted o (yielded ops a.tmps)=true then Oper.wp P o a w K Q else K (a.put o.dst undef) w):List1 P ops Q (o :: rest) a w:=⟨by
 unfold wpList;rw [if_pos hw]
 have:=h _ (fun a' w' hl=>hl.out)
 rw [if_pos hw] at this;exact .inl this⟩
theorem region_still {id:Nat} {Q:Exit→Act→World→Prop} {a:Act} {l:List Oper} (n:Nat) (hm:P.follows .mixedOrders=true) (hB:Region.lexTailB .any l.toArray n=true)
  (h:Still1 P l.toArray w.drew (fun a'=>List1 P l.toArray Q (l.drop n) a' w.drew) (l.take n) a):(Code.region id l.toArray true).wp P Q a w:=wp_region_still_tail n hm hB (wpStill_mono_ (fun a h=>h.out) _ _ h.out)
end Go.Proofs.YtlhogkfmdnpmkaaGreat.Mean
namespace Go.Proofs.YtlhogkfmdnpmkaaGreat.Exact
open RowKit GMarks YtlhogkfmdnpmkaaGreatW.PrintWords YtlhogkfmdnpmkaaGreatW.PrintLast YtlhogkfmdnpmkaaGreatW.PrintMore Mean
abbrev KM:=k45
abbrev M1:=S45
theorem eqMark_do (x:M1) (A A':Option Addr) (c c':Nat) (W:World) (hA:Kd.C (Kd.int .i64) W A x.f4.length x.f4) (hc:x.f4.length≤c) (hA':Kd.C (Kd.int .i64) W A' x.f4.length x.f4) (hc':x.f4.length≤c') (hl:x.f4.length≤1048576) :
  Calls Tryz.prog 40 #[.agg #[.int .i64 x.f0,.int .i64 x.f1,.bool x.f2,.int .i64 x.f3,.slice A x.f4.length c],.agg #[.int .i64 x.f0,.int .i64 x.f1,.bool x.f2,.int .i64 x.f3,.slice A' x.f4.length c']] W fun e W'=>e=.returned (.bool true)∧Below W.heap.size W W':=by
 obtain ⟨q,hq⟩:=(Pure.eqIntS_ev x.f4 hl).get;have hb1:=Xf (Below.refl W.heap.size W) (.cells #[.int .i64 x.f0,.int .i64 x.f1,.bool x.f2,.int .i64 x.f3,.slice A x.f4.length c] 45);have hb2:=Xf hb1 (.cells #[.int .i64 x.f0,.int .i64 x.f1,.bool x.f2,.int .i64 x.f3,.slice A' x.f4.length c'] 45);have HE:=Lib.hid (Zy.calls q A c x.f4 A' c' x.f4 true _ (Kd.Xy hA hb2) hc (Kd.Xy hA' hb2) hc' hq);have HB:=Xa.mk hb2;have k0:=Xl (Yc W (.cells #[.int .i64 x.f0,.int .i64 x.f1,.bool x.f2,.int .i64 x.f3,.slice A x.f4.length c] 45)) (.cells #[.int .i64 x.f0,.int .i64 x.f1,.bool x.f2,.int .i64 x.f3,.slice A' x.f4.length c'] 45);have k1:=Yc (W.alloc (.cells #[.int .i64 x.f0,.int .i64 x.f1,.bool x.f2,.int .i64 x.f3,.slice A x.f4.length c] 45)) (.cells #[.int .i64 x.f0,.int .i64 x.f1,.bool x.f2,.int .i64 x.f3,.slice A' x.f4.length c'] 45);rw [World.size_alloc] at k1;clear hA hA' hc hc' hq hb1 hb2;go_enter Tryz.func40,Tryz.ntmps40;go_upto_region 1 with (fail);generalize (W.alloc (.cells #[.int .i64 x.f0,.int .i64 x.f1,.bool x.f2,.int .i64 x.f3,.slice A x.f4.length c] 45)).alloc (.cells #[.int .i64 x.f0,.int .i64 x.f1,.bool x.f2,.int .i64 x.f3,.slice A' x.f4.length c'] 45)=W2 at *;have a0:=(Xd k0 0).trans rfl;have a1:=(Xd k0 1).trans rfl;have a2:=(Xd k0 2).trans rfl;have a3:=(Xd k0 3).trans rfl;have a4:=(Xd k0 4).trans rfl;have b0:=(Xd k1 0).trans rfl;have b1:=(Xd k1 1).trans rfl;have b2:=(Xd k1 2).trans rfl;have b3:=(Xd k1 3).trans rfl;have b4:=(Xd k1 4).trans rfl;clear k0 k1;go_wp2_with (first|(go_at_call 15;refine (HE.out).mono ?_;rintro e W3 ⟨rfl,hd⟩));go_ret
 exact ⟨rfl,HB.out.trans (hd.below.mono HB.out.size)⟩
theorem eqMarkS_do (ms:List M1) (A A':Option Addr) (c c':Nat) (W:World) (hA:Kd.C KM W A ms.length ms) (hA':Kd.C KM W A' ms.length ms) (hl:ms.length≤1000) (h3:∀ x ∈ ms,x.f4.length≤3) :
  Calls Tryz.prog 13 #[.slice A ms.length c,.slice A' ms.length c'] W fun e W'=>e=.returned (.bool true)∧Below W.heap.size W W':=by
 have HA:=Lib.hid (fun (w:World) (hb:Below W.heap.size W w)=>Kd.Xy hA hb);have aA:=Lib.hid (fun (w:World) (hb:Below W.heap.size W w)=>Kd.Xy hA' hb);have HL:=Xa.mk hl;have H3:=Lib.hid h3;clear hA hA' hl h3;go_enter Tryz.func13,Tryz.ntmps13;go_wp2
 go_loopg [5] ms.length (fun kq v5 w'=>∃ (i:Nat),v5=.int .i64 (i:Int)∧Xa (kq+i=ms.length)∧Xa (Below W.heap.size W w'))
 case atStart=>exact ⟨0,rfl,⟨sm_⟩,⟨Below.refl _ _⟩⟩
 case round=>
  obtain ⟨i,rfl,HK,HB⟩:=hrel;by_cases hi:i<ms.length
  ·cases gk with
   |zero=>exact absurd HK.out om_
   |succ k1=>
    have z1:decide ((i:Int)<(ms.length:Int))=true:=dt_ om_;have z2:decide (i<ms.length)=true:=dt_ hi
    have hw:IntKind.i64.wrap ((i:Int)+1)=((i+1:Nat):Int):=by rw [IntKind.wrap_i64];have:=HL.out;omega
    have p0:(0:Int)≤(i:Int):=om_
    have p1:(i:Int)<(ms.length:Int):=om_
    have hb:=Xh HB.out;obtain ⟨ad,Ax,cx,e,s0,s1,s2,s3,s4,hcx,hCx⟩:=at_T45 (HA.out _ hb) (i:Int) p0 p1;cases e
    obtain ⟨ad',Ay,cy,e,t0,t1,t2,t3,t4,hcy,hCy⟩:=at_T45 (aA.out _ hb) (i:Int) p0 p1;cases e
    simp only [Int.toNat_natCast] at s0 s1 s2 s3 s4 t0 t1 t2 t3 t4
    have hx3:(Zm ms (i:Int)).f4.length≤3:=by
     have e:Zm ms (i:Int)=ms[i]:=by unfold Zm;simp [List.getD_eq_getElem?_getD,hi]
     rw [e];exact H3.out _ (List.getElem_mem hi)
    generalize Zm ms (i:Int)=x at *;have HE:=Lib.hid (eqMark_do x Ax Ay cx cy wr.drew hCx hcx hCy hcy om_);have HBD:=Xa.mk hb;clear hb hcx hCx hcy hCy hx3 hi;go_upto_region 6 with (fail);refine region_still 8 kr_ kr_ ?_;simp only [List.take_succ_cons,List.take_zero,List.drop_succ_cons,List.drop_zero]
    repeat (refine still_go (a':=?_) rl1_ (fun K hK=>?_) ?_;rotate_left;(go_simp;exact hK))
    refine still_nil ?_;refine list_call rl1_ (fun K hK=>?_);refine Vd Tryz.func40 kr_ rfl #[.agg #[.int .i64 x.f0,.int .i64 x.f1,.bool x.f2,.int .i64 x.f3,.slice Ax x.f4.length cx],.agg #[.int .i64 x.f0,.int .i64 x.f1,.bool x.f2,.int .i64 x.f3,.slice Ay x.f4.length cy]] rl1_ rfl rfl ga_ ?_;refine (HE.out).mono ?_;rintro e w3 ⟨rfl,hb3⟩;refine ⟨_,rfl,?_⟩;refine hK _ _ ?_;clear hK K;have HB3:=Xa.mk (HBD.out.trans (hb3.mono HBD.out.size));clear hb3 s0 s1 s2 s3 s4 t0 t1 t2 t3 t4;refine list_norm (a':=?_) ?_ ?_;rotate_left
    ·show Act.put _ (some 25) _=_
     simp only [Act.put,List.setIfInBounds_toArray,List.set_cons_zero,List.set_cons_succ];rfl
    refine list_go (a':=?_) (w':=w3) rl1_ (fun K hK=>?_) ?_;rotate_left;(go_simp;exact hK);refine list_nil ?_;go_wp2;go_roundg k1
    case measure=>omega
    case rel=>exact ⟨i+1,congrArg (Value.int .i64) om_,⟨by have:=HK.out;omega⟩,HB3⟩
  ·have z1:decide ((i:Int)<(ms.length:Int))=false:=df_ om_;have z2:decide (i<ms.length)=false:=df_ hi;clear hi;go_wp2;go_ret
   exact ⟨rfl,HB.out⟩
end Go.Proofs.YtlhogkfmdnpmkaaGreat.Exact
namespace Go.Proofs.YtlhogkfmdnpmkaaGreat.Mean
open RowKit GMarks YtlhogkfmdnpmkaaGreatW.PrintWords
abbrev T:=S87
structure PS where
 regs:Nat→Int
 todo:List T
 mode:Int
 on:Int
 room:Int
structure WS where
 n:Nat
 proc:Nat→PS
 cell:Nat→Int
 room:Nat→Int
 sign:Nat→List Int
 said:List (Int × Int)
def up {α:Type} (f:Nat→α) (i:Nat) (x:α):Nat→α:=fun k=>if k=i then x else f k
theorem Un {α:Type} (f:Nat→α) (i:Nat) (x:α):up f i x i=x:=if_pos rfl
theorem up_ne {α:Type} (f:Nat→α) {i k:Nat} (h:k≠i) (x:α):up f i x k=f k:=if_neg h
def WS.Yq (s:WS) (i:Nat) (p:PS):WS:={ s with proc:=up s.proc i p }
def codeN (s:WS) (i:Nat):Int:=
 if (s.proc i).mode=1 then 2 else if (s.proc i).mode=2 then (if s.room (s.proc i).room.toNat=0 then 0 else 2) else
 match (s.proc i).todo with
 |[]=>1
 |t :: _=>if t.f0=8∧s.room t.f1.toNat≠0 then 2 else 0
def code (s:WS) (who:Int):Int:=if who<0∨(s.n:Int)≤who then 3 else codeN s who.toNat
def leave (room:Int):T:=⟨12,room,0,0,[],[]⟩
def nOk (n:Int):Bool:=decide (-999≤n) && decide (n≤999)
def nCut (n:Int):Int:=if n > 999 then 999 else if n < -999 then -999 else n
def num (op a b:Int):Int:=
 if decide (1≤op) && decide (op≤5) && nOk a && nOk b then
  nCut (if op=1 then a+b else if op=2 then a - b else if op=3 then a * b else if op=4 then (if a<b then 1 else 0) else if a=b then 1 else 0)
 else 0
def doReg (s:WS) (i:Nat) (a x:Int):WS:=s.Yq i { s.proc i with regs:=up (s.proc i).regs a.toNat x }
def doTodo (s:WS) (i:Nat) (l:List T):WS:=s.Yq i { s.proc i with todo:=l ++ (s.proc i).todo }
def Ur (s:WS) (i:Nat) (t:T):WS:=
 let p:=s.proc i
 if t.f0=1 then doReg s i t.f1 t.f3
 else if t.f0=2 then doReg s i t.f1 (num t.f3 (p.regs t.f1.toNat) (p.regs t.f2.toNat))
 else if t.f0=3 then doReg s i t.f1 (s.cell t.f2.toNat)
 else if t.f0=4 then { s with cell:=up s.cell t.f1.toNat (p.regs t.f2.toNat) }
 else if t.f0=5 then { s with said:=s.said ++ [((i:Int),p.regs t.f1.toNat)] }
 else if t.f0=6 then doTodo s i (if p.regs t.f1.toNat≠0 then t.f4 else t.f5)
 else if t.f0=7 then (if p.regs t.f1.toNat≠0 then doTodo s i (t.f4 ++ [t]) else s)
 else if t.f0=8 then { (s.Yq i { p with todo:=t.f4 ++ [leave t.f1] ++ p.todo,room:=t.f1 }) with room:=up s.room t.f1.toNat ((i:Int)+1) }
 else if t.f0=9 then { (s.Yq i { p with mode:=1,on:=t.f1 }) with room:=up s.room p.room.toNat 0,sign:=up s.sign t.f1.toNat (s.sign t.f1.toNat ++ [(i:Int)]) }
 else if t.f0=10 then (match s.sign t.f1.toNat with
  |[]=>s
  |q :: r=>{ (s.Yq q.toNat { s.proc q.toNat with mode:=2,on:=0 }) with sign:=up s.sign t.f1.toNat r })
 else if t.f0=12 then { (s.Yq i { p with room:=-1 }) with room:=up s.room t.f1.toNat 0 }
 else s
def step (s:WS) (i:Nat):WS:=
 if (s.proc i).mode=2 then { (s.Yq i { s.proc i with mode:=0 }) with room:=up s.room (s.proc i).room.toNat ((i:Int)+1) }
 else match (s.proc i).todo with
  |[]=>s
  |t :: r=>Ur (s.Yq i { s.proc i with todo:=r }) i t
def Head (k a b n room:Int) (n4 n5:Nat):Prop:=
 (k=1∧0≤a∧a<3∧b=0∧-999≤n∧n≤999∧n4=0∧n5=0)∨(k=2∧0≤a∧a<3∧0≤b∧b<3∧1≤n∧n≤5∧n4=0∧n5=0)∨
 ((k=3∨k=4)∧0≤a∧a<3∧0≤b∧b<3∧n=0∧n4=0∧n5=0)∨(k=5∧0≤a∧a<3∧b=0∧n=0∧n4=0∧n5=0)∨
 (k=6∧0≤a∧a<3∧b=0∧n=0)∨(k=7∧0≤a∧a<3∧b=0∧n=0∧n5=0)∨(k=8∧0≤a∧a<2∧b=0∧n=0∧n5=0∧room = -1)∨
 (k=9∧0≤a∧a<2∧b=0∧n=0∧n4=0∧n5=0∧room≠-1)∨(k=10∧0≤a∧a<2∧b=0∧n=0∧n4=0∧n5=0)∨(k=11∧a=0∧b=0∧n=0∧n4=0∧n5=0)
def Fit:Nat→Int→T→Prop
 |0,_,_=>False
 |d+1,room,t=>Head t.f0 t.f1 t.f2 t.f3 room t.f4.length t.f5.length∧t.f4.length≤14∧t.f5.length≤14∧
   (∀ x ∈ t.f4,Fit d (if t.f0=8 then t.f1 else room) x)∧(∀ x ∈ t.f5,Fit d (if t.f0=8 then t.f1 else room) x)
theorem Fit.more:∀ (d:Nat) {room:Int} {t:T},Fit d room t→Fit (d+1) room t
 |0,_,_,h=>h.elim
 |d+1,room,t,h=>⟨h.1,h.2.1,h.2.2.1,fun x hx=>Fit.more d (h.2.2.2.1 x hx),fun x hx=>Fit.more d (h.2.2.2.2 x hx)⟩
theorem Fit.head {d:Nat} {room:Int} {t:T} (h:Fit d room t):Head t.f0 t.f1 t.f2 t.f3 room t.f4.length t.f5.length:=by
 cases d with
 |zero=>exact h.elim
 |succ d=>exact h.1
theorem Fit.len {d:Nat} {room:Int} {t:T} (h:Fit d room t):t.f4.length≤14∧t.f5.length≤14:=by
 cases d with
 |zero=>exact h.elim
 |succ d=>exact ⟨h.2.1,h.2.2.1⟩
abbrev Fits (room:Int) (l:List T):Prop:=∀ t ∈ l,Fit 3 room t
def TodoOk (room:Int) (l:List T):Prop:=(room = -1∧Fits (-1) l)∨(0≤room∧room<2∧∃ pre post,l=pre ++ leave room :: post∧Fits room pre∧Fits (-1) post)
structure Inv (s:WS) (K:Nat):Prop where
 n:1≤s.n∧s.n≤3
 todo:∀ i,i<s.n→TodoOk (s.proc i).room (s.proc i).todo
 len:∀ i,i<s.n→(s.proc i).todo.length≤14+15 * K
 mode:∀ i,i<s.n→(s.proc i).mode=0∨(((s.proc i).mode=1∨(s.proc i).mode=2)∧0≤(s.proc i).room)
 queue:∀ j,j<2→∀ q ∈ s.sign j,∃ i,i<s.n∧q=(i:Int)∧(s.proc i).mode=1∧(s.proc i).on=(j:Int)
 nodup:∀ j,j<2→(s.sign j).Nodup
 rooms:∀ r,r<2→s.room r=0∨∃ i,i<s.n∧s.room r=(i:Int)+1
 said:s.said.length≤K
theorem Inv.room {s:WS} {K:Nat} (h:Inv s K) {i:Nat} (hi:i<s.n):(s.proc i).room = -1∨(0≤(s.proc i).room∧(s.proc i).room<2):=by
 rcases h.todo i hi with h1|h1
 ·exact .inl h1.1
 ·exact .inr ⟨h1.1,h1.2.1⟩
theorem TodoOk.first {room:Int} {t:T} {l:List T} (h:TodoOk room (t :: l)):(Fit 3 room t∧TodoOk room l)∨(0≤room∧room<2∧t=leave room∧Fits (-1) l):=by
 rcases h with ⟨rfl,h⟩|⟨h0,h1,pre,post,e,hp,hq⟩
 ·exact .inl ⟨h t List.mem_cons_self,.inl ⟨rfl,fun x hx=>h x (List.mem_cons_of_mem _ hx)⟩⟩
 ·cases pre with
  |nil=>simp only [List.nil_append,List.cons.injEq] at e;exact .inr ⟨h0,h1,e.1,e.2 ▸ hq⟩
  |cons a r=>
   simp only [List.cons_append,List.cons.injEq] at e;obtain ⟨rfl,rfl⟩:=e;exact .inl ⟨hp t List.mem_cons_self,.inr ⟨h0,h1,r,post,rfl,fun x hx=>hp x (List.mem_cons_of_mem _ hx),hq⟩⟩
theorem TodoOk.app {room:Int} {l m:List T} (h:TodoOk room l) (hm:Fits room m):TodoOk room (m ++ l):=by
 rcases h with ⟨rfl,h⟩|⟨h0,h1,pre,post,rfl,hp,hq⟩
 ·exact .inl ⟨rfl,fun x hx=>(List.mem_append.1 hx).elim (hm x) (h x)⟩
 ·exact .inr ⟨h0,h1,m ++ pre,post,sm_,fun x hx=>(List.mem_append.1 hx).elim (hm x) (hp x),hq⟩
theorem TodoOk.post {room:Int} {l:List T} (h0:0≤room) (h1:room<2) (h:Fits (-1) l) {m:List T} (hm:Fits room m):TodoOk room (m ++ [leave room] ++ l):=
 .inr ⟨h0,h1,m,l,sm_,hm,h⟩
theorem Inv.more {s:WS} {K K':Nat} (h:Inv s K) (hK:K≤K'):Inv s K':=⟨h.n,h.todo,fun i hi=>by have:=h.len i hi;omega,h.mode,h.queue,h.nodup,h.rooms,by have:=h.said;omega⟩
theorem Yp (s:WS) (i:Nat) (p:PS):(s.Yq i p).proc i=p:=Un _ _ _
theorem Uy (s:WS) {i k:Nat} (h:k≠i) (p:PS):(s.Yq i p).proc k=s.proc k:=up_ne _ h _
theorem setP_setP (s:WS) (i:Nat) (p q:PS):(s.Yq i p).Yq i q=s.Yq i q:=by
 unfold WS.Yq;congr 1;funext k;unfold up;simp only [];split <;> rfl
theorem Inv.Yq {s:WS} {K K':Nat} (h:Inv s K) (hK:K≤K') {i:Nat} (hi:i<s.n) {p:PS} (hp:TodoOk p.room p.todo) (hl:p.todo.length≤14+15 * K') (hm:p.mode=(s.proc i).mode) (ho:p.on=(s.proc i).on) (hr:p.mode≠0→0≤p.room):Inv (s.Yq i p) K':=by
 refine ⟨h.n,fun k hk=>?_,fun k hk=>?_,fun k hk=>?_,fun j hj q hq=>?_,h.nodup,h.rooms,by have:=h.said;show s.said.length≤K';omega⟩
 ·by_cases e:k=i
  ·subst e;rw [Yp];exact hp
  ·rw [Uy s e];exact h.todo k hk
 ·by_cases e:k=i
  ·subst e;rw [Yp];exact hl
  ·rw [Uy s e];have:=h.len k hk;omega
 ·by_cases e:k=i
  ·subst e;rw [Yp]
   rcases h.mode k hk with h0|h0
   ·exact .inl (hm.trans h0)
   ·refine .inr ⟨by rw [hm];exact h0.1,hr (by rw [hm];rcases h0.1 with e|e <;> rw [e] <;> decide)⟩
  ·rw [Uy s e];exact h.mode k hk
 ·obtain ⟨k,hk,e1,e2,e3⟩:=h.queue j hj q hq;refine ⟨k,hk,e1,?_⟩;by_cases e:k=i
  ·subst e;rw [Yp];exact ⟨hm.trans e2,ho.trans e3⟩
  ·rw [Uy s e];exact ⟨e2,e3⟩
theorem Inv.cell {s:WS} {K:Nat} (h:Inv s K) (c:Nat→Int):Inv { s with cell:=c } K:=⟨h.n,h.todo,h.len,h.mode,h.queue,h.nodup,h.rooms,h.said⟩
theorem Inv.roomSet {s:WS} {K:Nat} (h:Inv s K) (r:Nat) {v:Int} (hv:v=0∨∃ i,i<s.n∧v=(i:Int)+1):Inv { s with room:=up s.room r v } K:=
 ⟨h.n,h.todo,h.len,h.mode,h.queue,h.nodup,fun k hk=>by
  by_cases e:k=r
  ·subst e;show up s.room k v k=0∨∃ i,i<s.n∧up s.room k v k=(i:Int)+1;rw [Un];exact hv
  ·show up s.room r v k=0∨∃ i,i<s.n∧up s.room r v k=(i:Int)+1;rw [up_ne _ e];exact h.rooms k hk,h.said⟩
theorem Inv.say {s:WS} {K:Nat} (h:Inv s K) (x:Int × Int):Inv { s with said:=s.said ++ [x] } (K+1):=
 ⟨h.n,h.todo,fun i hi=>by have:=h.len i hi;show (s.proc i).todo.length≤14+15 * (K+1);omega,h.mode,h.queue,h.nodup,h.rooms,by have:=h.said;show (s.said ++ [x]).length≤K+1;rw [List.length_append,List.length_singleton];omega⟩
theorem Inv.back {s:WS} {K:Nat} (h:Inv s K) {i:Nat} (hi:i<s.n) (hm:(s.proc i).mode=2):Inv (s.Yq i { s.proc i with mode:=0 }) K:=by
 refine ⟨h.n,fun k hk=>?_,fun k hk=>?_,fun k hk=>?_,fun j hj q hq=>?_,h.nodup,h.rooms,h.said⟩
 ·by_cases e:k=i
  ·subst e;rw [Yp];exact h.todo k hk
  ·rw [Uy s e];exact h.todo k hk
 ·by_cases e:k=i
  ·subst e;rw [Yp];exact h.len k hk
  ·rw [Uy s e];exact h.len k hk
 ·by_cases e:k=i
  ·subst e;rw [Yp];exact .inl rfl
  ·rw [Uy s e];exact h.mode k hk
 ·obtain ⟨k,hk,e1,e2,e3⟩:=h.queue j hj q hq;by_cases e:k=i
  ·subst e;rw [hm] at e2;cases e2
  ·exact ⟨k,hk,e1,by rw [Uy s e];exact ⟨e2,e3⟩⟩
theorem Inv.wait {s:WS} {K:Nat} (h:Inv s K) {i a:Nat} (hi:i<s.n) (ha:a<2) (hm:(s.proc i).mode=0) (hr:0≤(s.proc i).room) :
  Inv { (s.Yq i { s.proc i with mode:=1,on:=(a:Int) }) with sign:=up s.sign a (s.sign a ++ [(i:Int)]) } K:=by
 have nin:∀ j,j<2→∀ q ∈ s.sign j,q≠(i:Int):=by
  intro j hj q hq e;obtain ⟨k,hk,e1,e2,_⟩:=h.queue j hj q hq
  have:k=i:=om_
  subst this;rw [hm] at e2;cases e2
 refine ⟨h.n,fun k hk=>?_,fun k hk=>?_,fun k hk=>?_,fun j hj q hq=>?_,fun j hj=>?_,h.rooms,h.said⟩
 ·show TodoOk ((s.Yq i _).proc k).room ((s.Yq i _).proc k).todo
  by_cases e:k=i
  ·subst e;rw [Yp];exact h.todo k hk
  ·rw [Uy s e];exact h.todo k hk
 ·show ((s.Yq i _).proc k).todo.length≤_
  by_cases e:k=i
  ·subst e;rw [Yp];exact h.len k hk
  ·rw [Uy s e];exact h.len k hk
 ·show ((s.Yq i _).proc k).mode=0∨(((s.Yq i _).proc k).mode=1∨((s.Yq i _).proc k).mode=2)∧0≤((s.Yq i _).proc k).room
  by_cases e:k=i
  ·subst e;rw [Yp];exact .inr ⟨.inl rfl,hr⟩
  ·rw [Uy s e];exact h.mode k hk
 ·have hq':q ∈ up s.sign a (s.sign a ++ [(i:Int)]) j:=hq;show ∃ k,k<s.n∧q=(k:Int)∧((s.Yq i _).proc k).mode=1∧((s.Yq i _).proc k).on=(j:Int)
  have old:q ∈ s.sign j→∃ k,k<s.n∧q=(k:Int)∧((s.Yq i { s.proc i with mode:=1,on:=(a:Int) }).proc k).mode=1∧((s.Yq i { s.proc i with mode:=1,on:=(a:Int) }).proc k).on=(j:Int):=by
   intro hq;obtain ⟨k,hk,e1,e2,e3⟩:=h.queue j hj q hq;have e:k≠i:=fun e=>nin j hj q hq (by rw [e1,e]);exact ⟨k,hk,e1,by rw [Uy s e];exact ⟨e2,e3⟩⟩
  by_cases e:j=a
  ·subst e;rw [Un] at hq'
   rcases List.mem_append.1 hq' with hq|hq
   ·exact old hq
   ·rw [List.mem_singleton] at hq;exact ⟨i,hi,hq,by rw [Yp];exact ⟨rfl,rfl⟩⟩
  ·rw [up_ne _ e] at hq';exact old hq'
 ·show (up s.sign a (s.sign a ++ [(i:Int)]) j).Nodup
  by_cases e:j=a
  ·subst e;rw [Un,List.nodup_append];exact ⟨h.nodup j hj,sm_,fun x hx y hy=>by rw [List.mem_singleton] at hy;rw [hy];exact nin j hj x hx⟩
  ·rw [up_ne _ e];exact h.nodup j hj
theorem Inv.signal {s:WS} {K:Nat} (h:Inv s K) {a:Nat} (ha:a<2) {q:Int} {r:List Int} (hq:s.sign a=q :: r) :
  Inv { (s.Yq q.toNat { s.proc q.toNat with mode:=2,on:=0 }) with sign:=up s.sign a r } K:=by
 obtain ⟨i,hi,e1,e2,e3⟩:=h.queue a ha q (by rw [hq];exact List.mem_cons_self)
 have ei:q.toNat=i:=om_
 rw [ei];have hnd:=h.nodup a ha;rw [hq,List.nodup_cons] at hnd
 have hr:0≤(s.proc i).room:=by
  rcases h.mode i hi with h0|h0
  ·rw [h0] at e2;cases e2
  ·exact h0.2
 refine ⟨h.n,fun k hk=>?_,fun k hk=>?_,fun k hk=>?_,fun j hj x hx=>?_,fun j hj=>?_,h.rooms,h.said⟩
 ·show TodoOk ((s.Yq i _).proc k).room ((s.Yq i _).proc k).todo
  by_cases e:k=i
  ·subst e;rw [Yp];exact h.todo k hk
  ·rw [Uy s e];exact h.todo k hk
 ·show ((s.Yq i _).proc k).todo.length≤_
  by_cases e:k=i
  ·subst e;rw [Yp];exact h.len k hk
  ·rw [Uy s e];exact h.len k hk
 ·show ((s.Yq i _).proc k).mode=0∨(((s.Yq i _).proc k).mode=1∨((s.Yq i _).proc k).mode=2)∧0≤((s.Yq i _).proc k).room
  by_cases e:k=i
  ·subst e;rw [Yp];exact .inr ⟨.inr rfl,hr⟩
  ·rw [Uy s e];exact h.mode k hk
 ·have hx':x ∈ up s.sign a r j:=hx;show ∃ k,k<s.n∧x=(k:Int)∧((s.Yq i _).proc k).mode=1∧((s.Yq i _).proc k).on=(j:Int)
  have hin:x ∈ s.sign j∧x≠q:=by
   by_cases e:j=a
   ·subst e;rw [Un] at hx';exact ⟨by rw [hq];exact List.mem_cons_of_mem _ hx',fun ex=>hnd.1 (ex ▸ hx')⟩
   ·rw [up_ne _ e] at hx';refine ⟨hx',fun ex=>?_⟩;obtain ⟨k,hk,f1,f2,f3⟩:=h.queue j hj x hx'
    have:k=i:=om_
    subst this;rw [e3] at f3;omega
  obtain ⟨k,hk,f1,f2,f3⟩:=h.queue j hj x hin.1;have e:k≠i:=fun e=>hin.2 (by rw [f1,e1,e]);exact ⟨k,hk,f1,by rw [Uy s e];exact ⟨f2,f3⟩⟩
 ·show (up s.sign a r j).Nodup
  by_cases e:j=a
  ·subst e;rw [Un];exact hnd.2
  ·rw [up_ne _ e];exact h.nodup j hj
theorem nd_le:∀ (n:Nat) (l:List Int),l.Nodup→(∀ q ∈ l,0≤q∧q<(n:Int))→l.length≤n
 |0,l,_,h=>by
  cases l with
  |nil=>simp
  |cons a r=>have:=h a List.mem_cons_self;omega
 |n+1,l,hd,h=>by
  by_cases hm:(n:Int) ∈ l
  ·have:=nd_le n (l.erase (n:Int)) (hd.erase _) (fun q hq=>by
    have h1:=(List.Nodup.mem_erase_iff hd).1 hq
    have:=h q h1.2
    have:=h1.1
    omega)
   rw [List.length_erase_of_mem hm] at this;omega
  ·have:=nd_le n l hd (fun q hq=>by
    have h1:=h q hq
    have:q≠(n:Int):=fun e=>hm (e ▸ hq)
    omega)
   omega
theorem Inv.qlen {s:WS} {K:Nat} (h:Inv s K) {j:Nat} (hj:j<2):(s.sign j).length≤3:=by
 have:=nd_le s.n (s.sign j) (h.nodup j hj) (fun q hq=>by
  obtain ⟨k,hk,e,_⟩:=h.queue j hj q hq
  omega)
 have:=h.n.2
 omega
abbrev Mk:=S45
abbrev CK:=Nat→Nat→Int
def mx (a b:Int):Int:=if a<b then b else a
def join (a b:Nat→Int):Nat→Int:=fun k=>mx (a k) (b k)
def Yz (c:CK) (i:Nat):Nat→Int:=up (c i) i (c i i+1)
def Xp (s:WS) (i:Nat):T:=if (s.proc i).mode=2 then ⟨0,0,0,0,[],[]⟩ else (s.proc i).todo.headD ⟨0,0,0,0,[],[]⟩
def ahead (s:WS) (c:CK) (i:Nat):CK:=
 if (s.proc i).mode=2 then up c i (join (Yz c i) (c (3+(s.proc i).room.toNat)))
 else if (Xp s i).f0=8 then up c i (join (Yz c i) (c (3+(Xp s i).f1.toNat)))
 else if (Xp s i).f0=12 then up (up c i (Yz c i)) (3+(Xp s i).f1.toNat) (Yz c i)
 else if (Xp s i).f0=9 then up (up c i (Yz c i)) (3+(s.proc i).room.toNat) (Yz c i)
 else if (Xp s i).f0=10 then (match s.sign (Xp s i).f1.toNat with
  |[]=>up c i (Yz c i)
  |q :: _=>up (up c i (Yz c i)) q.toNat (join (c q.toNat) (Yz c i)))
 else up c i (Yz c i)
def marked (n:Nat) (s:WS) (c:CK) (i a:Nat):List Mk:=
 if (Xp s i).f0=3 then [⟨(i:Int),(a:Int),false,(Xp s i).f2,(List.range n).map (c i)⟩]
 else if (Xp s i).f0=4 then [⟨(i:Int),(a:Int),true,(Xp s i).f1,(List.range n).map (c i)⟩] else []
structure MS where
 s:WS
 c:CK
 at_:Nat
 out:List Mk
def goM (n:Nat) (m:MS) (who:Int):MS:=
 if code m.s who=0 then ⟨step m.s who.toNat,ahead m.s m.c who.toNat,m.at_+1,m.out ++ marked n m.s (ahead m.s m.c who.toNat) who.toNat m.at_⟩
 else ⟨m.s,m.c,m.at_+1,m.out⟩
def CB (c:CK) (K:Nat):Prop:=∀ i k,0≤c i k∧c i k≤(K:Int)
theorem CB.more {c:CK} {K K':Nat} (h:CB c K) (hK:K≤K'):CB c K':=fun i k=>⟨(h i k).1,by have:=(h i k).2;omega⟩
theorem CB.own {c:CK} {K:Nat} (h:CB c K) (i k:Nat):0≤Yz c i k∧Yz c i k≤((K+1:Nat):Int):=by
 have h1:=h i k;have h2:=h i i;unfold Yz up;split <;> constructor <;> omega
theorem join_bd {a b:Nat→Int} {K:Int} (ha:∀ k,0≤a k∧a k≤K) (hb:∀ k,0≤b k∧b k≤K) (k:Nat):0≤join a b k∧join a b k≤K:=by
 have:=ha k;have:=hb k
 unfold join mx;split <;> omega
theorem CB.up {c:CK} {K:Nat} (h:CB c K) (i:Nat) {f:Nat→Int} (hf:∀ k,0≤f k∧f k≤(K:Int)):CB (up c i f) K:=by
 intro j k;unfold Mean.up;split
 ·exact hf k
 ·exact h j k
theorem CB.ahead {c:CK} {K:Nat} (h:CB c K) (s:WS) (i:Nat):CB (ahead s c i) (K+1):=by
 have h':=h.more (Nat.le_succ K);have ho:=h.own i;have h1:=h'.up i ho;unfold Mean.ahead;split
 ·exact h'.up i (join_bd ho (h' _))
 ·split
  ·exact h'.up i (join_bd ho (h' _))
  ·split
   ·exact h1.up _ ho
   ·split
    ·exact h1.up _ ho
    ·split
     ·split
      ·exact h1
      ·exact h1.up _ (join_bd (h' _) ho)
     ·exact h1
theorem marked_len (n:Nat) (s:WS) (c:CK) (i a:Nat):(marked n s c i a).length≤1:=by
 unfold marked;split
 ·simp
 ·split <;> simp
class Prot where
 low:Nat→Option Obj
structure Only (w w':World) (ok:Nat→Prop):Prop where
 os:w'.os=w.os
 tape:w'.tape=w.tape
 output:w'.output=w.output
 size:w.heap.size≤w'.heap.size
 block:∀ k,k<w.heap.size→¬ ok k→w'.heap[k]?=w.heap[k]?
theorem Only.of_below {w w':World} (h:Below w.heap.size w w') (ok:Nat→Prop):Only w w' ok:=⟨h.os,h.tape,h.output,h.size,fun k hk _=>h.block k hk⟩
theorem Only.of_grown {w w':World} {row:Option Nat} {ok:Nat→Prop} (h:w.grownBy w' row) (hr:∀ k,row=some k→ok k):Only w w' ok:=⟨h.os,h.tape,h.output,h.size,fun k hk hn=>h.block k hk (fun e=>hn (hr k e.symm))⟩
theorem Only.mono {w w':World} {ok ok':Nat→Prop} (h:Only w w' ok) (hk:∀ k,ok k→ok' k):Only w w' ok':=⟨h.os,h.tape,h.output,h.size,fun k hlt hn=>h.block k hlt (fun a=>hn (hk k a))⟩
theorem Only.trans {a b c:World} {ok:Nat→Prop} (h:Only a b ok) (h':Only b c (fun k=>ok k∨a.heap.size≤k)):Only a c ok:=
 ⟨h'.os.trans h.os,h'.tape.trans h.tape,h'.output.trans h.output,nt_ h.size h'.size,fun k hk hn=>(h'.block k (nl_ hk h.size) (fun o=>o.elim hn (fun h=>om_))).trans (h.block k hk hn)⟩
theorem Only.below {B:Nat} {w w':World} {ok:Nat→Prop} (h:Only w w' ok) (hB:B≤w.heap.size) (hk:∀ k,ok k→B≤k):Below B w w':=⟨h.os,h.tape,h.output,h.size,fun k hlt=>h.block k (nl_ hlt hB) (fun o=>by have:=hk k o;omega)⟩
structure Row where
 v:Value
 e:TypeId
 size:Nat
 n:Nat
 cells:List Value
@[reducible] def Row.At (r : Row) (W : World) (base : Nat) : Prop := match r with
 |⟨v,e,0,n,xs⟩=>QRow W base e 1 v n xs
 |⟨v,e,k+1,n,xs⟩=>W.ownsRow base e (k+1) v n xs
theorem Row.At.move {r:Row} {W W':World} {base:Nat} (h:r.At W base) (hm:∀ k,r.v.ownBlock=some k→W'.heap[k]?=W.heap[k]?):r.At W' base:=by
 obtain ⟨v,e,size,n,xs⟩:=r
 cases size with
 |zero=>exact q_move h hm
 |succ k=>exact Zd h hm
theorem Row.At.lt {r:Row} {W:World} {base:Nat} (h:r.At W base) (k:Nat) (hk:r.v.ownBlock=some k):k<W.heap.size:=by
 obtain ⟨v,e,size,n,xs⟩:=r
 cases size with
 |zero=>exact q_lt h k hk
 |succ j=>exact Za h k hk
theorem Row.At.ge {r:Row} {W:World} {base:Nat} (h:r.At W base) (k:Nat) (hk:r.v.ownBlock=some k):base≤k:=by
 obtain ⟨v,e,size,n,xs⟩:=r
 cases size with
 |zero=>exact (q_typed h k hk).1
 |succ j=>exact Zl h k hk
theorem Row.At.weaken {r:Row} {W:World} {base base':Nat} (h:r.At W base) (hb:base'≤base):r.At W base':=by
 obtain ⟨v,e,size,n,xs⟩:=r
 cases size with
 |zero=>exact q_lower h hb
 |succ j=>exact Zi h hb
def Apart2 (r r':Row):Prop:=∀ k,r.v.ownBlock=some k→r'.v.ownBlock≠some k
theorem Apart2.symm {r r':Row} (h:Apart2 r r'):Apart2 r' r:=fun k hk hk'=>h k hk' hk
structure Rows (W:World) (base:Nat) (ok:Nat→Prop) (f:Nat→Option Row):Prop where
 at_:∀ k r,f k=some r→r.At W base
 ok_:∀ k r,f k=some r→∀ g,r.v.ownBlock=some g→ok g
 apart:∀ k k' r r',k≠k'→f k=some r→f k'=some r'→Apart2 r r'
theorem Rows.mono {W:World} {base:Nat} {ok ok':Nat→Prop} {f:Nat→Option Row} (h:Rows W base ok f) (hk:∀ k,ok k→ok' k):Rows W base ok' f:=⟨h.at_,fun k r hr g e=>hk g (h.ok_ k r hr g e),h.apart⟩
theorem Rows.step {W W':World} {base:Nat} {ok:Nat→Prop} {f:Nat→Option Row} (h:Rows W base ok f) (hm:∀ k,ok k→k<W.heap.size→W'.heap[k]?=W.heap[k]?):Rows W' base ok f:=
 ⟨fun k r hr=>(h.at_ k r hr).move (fun g hg=>hm g (h.ok_ k r hr g hg) ((h.at_ k r hr).lt g hg)),h.ok_,h.apart⟩
theorem Rows.below {W W':World} {base:Nat} {ok:Nat→Prop} {f:Nat→Option Row} (h:Rows W base ok f) (hb:Below W.heap.size W W'):Rows W' base ok f:=h.step (fun k _ hlt=>hb.block k hlt)
theorem Rows.lower {W:World} {base base':Nat} {ok:Nat→Prop} {f:Nat→Option Row} (h:Rows W base ok f) (hb:base'≤base):Rows W base' ok f:=⟨fun k r hr=>(h.at_ k r hr).weaken hb,h.ok_,h.apart⟩
theorem Rows.ge {W:World} {base:Nat} {ok:Nat→Prop} {f:Nat→Option Row} (h:Rows W base ok f):Rows W base (fun k=>ok k∧base≤k∧k<W.heap.size) f:=⟨h.at_,fun k r hr g e=>⟨h.ok_ k r hr g e,(h.at_ k r hr).ge g e,(h.at_ k r hr).lt g e⟩,h.apart⟩
theorem Rows.set {W W':World} {base:Nat} {ok:Nat→Prop} {f f':Nat→Option Row} (h:Rows W base ok f) (i:Nat) {r r':Row} (hi:f i=some r) (hg:W.grownBy W' r.v.ownBlock) (h':r'.At W' base)
  (hat:r'.v.ownBlock=r.v.ownBlock∨r'.v.ownBlock=none∨∃ b,r'.v.ownBlock=some b∧W.heap.size≤b) (hf:∀ k,f' k=if k=i then some r' else f k):Rows W' base (fun k=>ok k∨W.heap.size≤k) f':=by
 have new:∀ j x,f j=some x→j≠i→Apart2 x r':=by
  intro j x hx hne k hk hk'
  rcases hat with ha|ha|⟨b,hb,hle⟩
  ·exact h.apart j i x r hne hx hi k hk (ha ▸ hk')
  ·rw [ha] at hk';cases hk'
  ·rw [hb] at hk';injection hk' with hk';subst hk'
   have:=(h.at_ j x hx).lt _ hk;omega
 refine ⟨fun k x hx=>?_,fun k x hx g hgk=>?_,fun k k' x x' hne hx hx'=>?_⟩
 ·rw [hf] at hx;by_cases hk:k=i
  ·rw [if_pos hk] at hx;injection hx with hx;exact hx ▸ h'
  ·rw [if_neg hk] at hx;exact (h.at_ k x hx).move (fun g hb=>hg.block g ((h.at_ k x hx).lt g hb) (fun e'=>h.apart k i x r hk hx hi g hb e'.symm))
 ·rw [hf] at hx;by_cases hk:k=i
  ·rw [if_pos hk] at hx;injection hx with hx;subst hx
   rcases hat with ha|ha|⟨b,hb,hle⟩
   ·exact .inl (h.ok_ i r hi g (ha ▸ hgk))
   ·rw [ha] at hgk;cases hgk
   ·rw [hb] at hgk;injection hgk with hgk;exact .inr (hgk ▸ hle)
  ·rw [if_neg hk] at hx;exact .inl (h.ok_ k x hx g hgk)
 ·rw [hf] at hx hx';by_cases hk:k=i
  ·rw [if_pos hk] at hx;injection hx with hx;subst hx;rw [if_neg (fun e=>hne (hk.trans e.symm))] at hx';exact (new k' x' hx' (fun e=>hne (hk.trans e.symm))).symm
  ·rw [if_neg hk] at hx;by_cases hk':k'=i
   ·rw [if_pos hk'] at hx';injection hx' with hx';subst hx';exact new k x hx hk
   ·rw [if_neg hk'] at hx';exact h.apart k k' x x' hne hx hx'
theorem q_form {W:World} {base:Nat} {e:TypeId} {n:Nat} {v:Value} {xs:List Value} (h:QRow W base e 1 v n xs) (hn:0<n):∃ Q cap,v=.slice (some Q) n cap∧(∀ u,xs[0]?=some u→W.cell? Q=some u)∧n≤cap:=by
 obtain ⟨A,c,rfl,hl⟩:=q_slice h;obtain ⟨ad,rfl,hc⟩:=q_cells h hn;refine ⟨ad,c,rfl,fun u hu=>?_,hl⟩
 have:=hc 0 u hu
 have e:ad.add 0=ad:=by simp [Addr.add]
 rwa [e] at this
theorem Q_of_q {W:World} {base:Nat} {e:TypeId} {ok:Nat→Prop} {v:Value} {xs:List Int} (h:QRow W base e 1 v xs.length (nums .i64 xs)) (hok:∀ k,v.ownBlock=some k→ok k):Kd.Q (Kd.int .i64) e W base ok v xs:=⟨hok,nums .i64 xs,h,Kd.reps_scalar xs⟩
section
variable {P:Program} {o:Oper} {ops:Array Oper} {a:Act} {K:Act→World→Prop} {Q:Exit→Act→World→Prop}
theorem step_append_q {w0 W:World} (base:Nat) (hw:Region.wanted o (yielded ops a.tmps)=true) (s x:Operand) (t e:TypeId) (z:Value) (size bytes:Nat)
  (ho:o.op=.call { callee:=.builtin .append,args:=#[s,x],argTypes:=#[t,t] })
  (ht:P.underlying t=some (.slice e)) (hinfo:(P.info? e).map (fun i=>(i.zero,i.size,i.bytes))=some (some z,size,bytes)) (hz:z.cells.size=size) (hs0:0<size) (hb0:0<bytes)
  (v:Value) (n:Nat) (xs ys:List Value) (hs:a.eval s=v) (hx:a.eval x=.slice (some ⟨W.heap.size,0,none⟩) 1 1) (hys:ys.length=size) (h1:∀ u ∈ ys,u.oneCell'=true)
  (HO:QRow W base e size v n xs) (HB:Below base w0 W) (hbase:base≤W.heap.size) (hl:(n+1) * bytes≤140737488355328)
  (h:∀ v1 w1,QRow w1 base e size v1 (n+1) (xs ++ ys)→Below base w0 w1→W.grownBy w1 v.ownBlock→(v1.ownBlock=v.ownBlock∨∃ b,v1.ownBlock=some b∧W.heap.size≤b)→K (a.put o.dst v1) w1) :
  if Region.wanted o (yielded ops a.tmps)=true then Oper.wp P o a (W.alloc (.cells ys.toArray e)) K Q else K (a.put o.dst undef) (W.alloc (.cells ys.toArray e)):=by
 obtain ⟨i0,hi,hzz⟩:=Option.map_eq_some_iff.1 hinfo;simp only [Prod.mk.injEq] at hzz;obtain ⟨hz0,hz1,hz2⟩:=hzz;have hlen:n+1≤140737488355328:=nt_ (Nat.le_mul_of_pos_right _ hb0) hl;rw [if_pos hw];have hq:QRow (W.alloc (.cells ys.toArray e)) base e size v n xs:=q_move HO (fun k hk=>Below.heap_alloc W _ k (q_lt HO k hk))
 obtain ⟨v1,w1,hr,hown,hg,hat⟩:=q_append (P:=P) (W.alloc (.cells ys.toArray e)) base t o.type e i0 z size bytes ht hi hz0 hz1 hz2 hz hs0 v n xs hq ⟨W.heap.size,0,none⟩ 1 1 ys (by rw [hys,Nat.one_mul])
  (by simpa using World.news_of_block (cs:=ys.toArray) (t:=e) (fr:=(0,0)) (heap_alloc_new W (.cells ys.toArray e))) h1 om_ (by simp only [maxLen];omega) hl (by simp;omega)
 unfold Oper.wp execOp;simp only [ho,resolve,invoke,builtin,Sem.run_bind,Sem.run_pure,Result.andThen_ok,List.map_toArray,List.map_cons,List.map_nil,hs,hx,hr];refine h v1 w1 hown ((HB.alloc hbase _).grown hg (by simp;omega) (fun k hk=>(q_typed HO k hk).1)) (World.grownBy.trans (World.grownBy_alloc W _ _) hg) ?_
 rcases hat with hat|⟨b,hb,hle⟩
 ·exact .inl hat
 ·exact .inr ⟨b,hb,by rw [World.size_alloc] at hle;omega⟩
end
def free (f:Nat→Option Row) (k:Nat):Prop:=∀ i r,f i=some r→r.v.ownBlock≠some k
def cellsOf (m n:Nat) (f:Nat→Nat→Value):List Value:=(List.range (n * m)).map fun k=>f (k / m) (k % m)
theorem at_div {m i j:Nat} (hj:j<m):(i * m+j) / m=i∧(i * m+j) % m=j:=by
 have hm:0<m:=om_
 constructor
 ·rw [Nat.mul_comm,Nat.mul_add_div hm,Nat.div_eq_of_lt hj,Nat.add_zero]
 ·rw [Nat.mul_comm,Nat.mul_add_mod,Nat.mod_eq_of_lt hj]
theorem at_lt {m n i j:Nat} (hi:i<n) (hj:j<m):i * m+j<n * m:=by
 have:(i+1) * m≤n * m:=Nat.mul_le_mul_right _ hi
 rw [Nat.add_mul] at this;omega
theorem cellsOf_get {m n:Nat} (f:Nat→Nat→Value) {i j:Nat} (hi:i<n) (hj:j<m):(cellsOf m n f)[i * m+j]?=some (f i j):=by
 unfold cellsOf;rw [List.getElem?_map,List.getElem?_range (at_lt hi hj)];simp only [Option.map_some,(at_div hj).1,(at_div hj).2]
theorem cellsOf_congr {m n:Nat} {f g:Nat→Nat→Value} (h:∀ i j,i<n→j<m→f i j=g i j):cellsOf m n f=cellsOf m n g:=by
 unfold cellsOf;refine List.map_congr_left (fun k hk=>?_);rw [List.mem_range] at hk;have hm:0<m:=Nat.pos_of_ne_zero (fun h0=>by subst h0;simp at hk);exact h _ _ ((Nat.div_lt_iff_lt_mul hm).2 hk) (Nat.mod_lt _ hm)
theorem cellsOf_set {m n:Nat} (f:Nat→Nat→Value) {i j:Nat} (hi:i<n) (hj:j<m) (u:Value):(cellsOf m n f).set (i * m+j) u=cellsOf m n (fun a b=>if a=i∧b=j then u else f a b):=by
 have hm:0<m:=om_
 apply List.ext_getElem
 ·simp [cellsOf]
 ·intro k h1 h2;rw [List.getElem_set];simp only [cellsOf,List.getElem_map,List.getElem_range];by_cases h:i * m+j=k
  ·subst h;rw [if_pos rfl,(at_div hj).1,(at_div hj).2,if_pos ⟨rfl,rfl⟩]
  ·rw [if_neg h,if_neg];rintro ⟨rfl,rfl⟩;exact h (by rw [Nat.mul_comm];exact Nat.div_add_mod k m)
theorem cellsOf_succ (m n:Nat) (f:Nat→Nat→Value):cellsOf m (n+1) f=cellsOf m n f ++ (List.range m).map (f n):=by
 unfold cellsOf;rw [Nat.succ_mul,List.range_add,List.map_append,List.map_map];refine congrArg _ (List.map_congr_left (fun k hk=>?_));rw [List.mem_range] at hk;simp only [Function.comp,(at_div hk).1,(at_div hk).2]
def ints (n:Nat) (f:Nat→Int):List Value:=nums .i64 ((List.range n).map f)
theorem ints_set (n:Nat) (f:Nat→Int) (i:Nat) (x:Int):(ints n f).set i (.int .i64 x)=ints n (fun k=>if k=i then x else f k):=by
 unfold ints nums
 apply List.ext_getElem
 ·simp
 ·intro k h1 h2;rw [List.getElem_set];simp only [List.getElem_map,List.getElem_range];by_cases h:i=k
  ·rw [if_pos h,if_pos h.symm]
  ·rw [if_neg h,if_neg (fun e=>h e.symm)]
theorem ints_get {n:Nat} (f:Nat→Int) {i:Nat} (h:i<n):(ints n f)[i]?=some (.int .i64 (f i)):=by
 unfold ints nums;rw [List.getElem?_map,List.getElem?_map,List.getElem?_range h];rfl
end Go.Proofs.YtlhogkfmdnpmkaaGreat.Mean
