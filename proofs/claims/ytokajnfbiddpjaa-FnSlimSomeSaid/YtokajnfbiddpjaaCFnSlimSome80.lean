import Derived.Test.YtokajnfbiddpjaaCFnSlimSome79
import Derived.Test.YtokajnfbiddpjaaCFnSlimSome71
namespace Go.Proofs.Ytokajnfbiddpjaa.Pure
open Go.RowKit Go.Proofs.Ytokajnfbiddpjaa.GSlim Go.Proofs.YtokajnfbiddpjaaW.PrintWords Go.Proofs.YtokajnfbiddpjaaW.PrintLast Go.Proofs.YtokajnfbiddpjaaW.PrintMore Go.Proofs.Ytokajnfbiddpjaa.Evt Go.Proofs.Ytokajnfbiddpjaa.HForms Go.Proofs.Ytokajnfbiddpjaa.StmtOk
set_option linter.unusedVariables false
set_option linter.unusedSimpArgs false
namespace Stmts
def Sl {α:Type} (f:Nat→α) (a:Nat) (l:List α):Prop:=∀ i (h:i<l.length),f (a+i)=l[i]
theorem sl_cons {α:Type} {f:Nat→α} {a:Nat} {x:α} {l:List α} (h:Sl f a (x :: l)):f a=x∧Sl f (a+1) l:=
  ⟨h 0 (by simp),fun i hi=>by have:=h (i+1) (by simpa using hi);rw [show a+(i+1)=a+1+i by omega] at this;simpa using this⟩
theorem sl_app {α:Type} {f:Nat→α} {a:Nat} {l m:List α} (h:Sl f a (l ++ m)):Sl f a l∧Sl f (a+l.length) m:=
  ⟨fun i hi=>by have:=h i (by rw [List.length_append];omega);rw [List.getElem_append_left hi] at this;exact this,
   fun i hi=>by
    have:=h (l.length+i) (by rw [List.length_append];omega)
    rw [List.getElem_append_right (by omega)] at this
    rw [show a+(l.length+i)=a+l.length+i by omega] at this
    simpa using this⟩
structure At (c:List Ins) (R:Nat→Int) (p:Nat):Prop where
  ins:Vv (at_ c p).f0 (at_ c p).f1 (at_ c p).f2 (at_ c p).f3 c.length=true
  noEnd:(at_ c p).f0≠13
  held:(held (at_ c p) (R p)).2=true
  go:∀ t ∈ succs c p,R t=(Pure.held (at_ c p) (R p)).1
  ahead:(at_ c p).f0=7→(p:Int)<(at_ c p).f3∨(at_ c (at_ c p).f3.toNat).f0≠7
structure In (c:List Ins) (R:Nat→Int) (room:Int) (a b:Nat):Prop where
  each:∀ p,a≤p→p<b→At c R p
  all:Reach c a→∀ p,a≤p→p≤b→Reach c p
  start:R a=room
  head:a<b→(at_ c a).f0≠7
def Fit (a:Nat) (g:List Ins) (room:Int):Prop:=∃ rs:List Int,rs.length=g.length∧∀ (c:List Ins) (R:Nat→Int),a+g.length<c.length→Sl (at_ c) a g→Sl R a rs→R (a+g.length)=room→In c R room a (a+g.length)
theorem In.cat {c:List Ins} {R:Nat→Int} {room:Int} {a m b:Nat} (h:In c R room a m) (h':In c R room m b) (ha:a<m) (hm:m≤b):In c R room a b where
  each p h1 h2:=by
    by_cases k:p<m
    · exact h.each p h1 k
    · exact h'.each p (by omega) h2
  all hr p h1 h2:=by
    by_cases k:p≤m
    · exact h.all hr p h1 k
    · exact h'.all (h.all hr m (by omega) (by omega)) p (by omega) h2
  start:=h.start
  head _:=h.head ha
theorem fit_nil (a:Nat) (room:Int):Fit a [] room:=⟨[],rfl,fun c R hl _ _ hR=>⟨fun p h1 h2=>absurd h2 (by simp;omega),fun hr p h1 h2=>by simp at h2;rw [show p=a by omega];exact hr,by simpa using hR,fun h=>absurd h (by simp)⟩⟩
theorem fit_app {a:Nat} {g h:List Ins} {room:Int} (f1:Fit a g room) (f2:Fit (a+g.length) h room) (hg:0<g.length):Fit a (g ++ h) room:=by
  obtain ⟨r1,e1,H1⟩:=f1
  obtain ⟨r2,e2,H2⟩:=f2
  refine ⟨r1 ++ r2,by simp [e1,e2],fun c R hl hc hR hr=>?_⟩
  rw [List.length_append] at hl hr ⊢
  obtain ⟨c1,c2⟩:=sl_app hc
  obtain ⟨q1,q2⟩:=sl_app hR
  rw [e1] at q2
  rw [← Nat.add_assoc] at hr hl ⊢
  have i2:=H2 c R hl c2 q2 hr
  have i1:=H1 c R (by omega) c1 q1 i2.start
  exact i1.cat i2 (by omega) (by omega)
theorem reach_next {c:List Ins} {i:Nat} (hr:Reach c i) (hi:i<c.length) (aA:(at_ c i).f0≠13) (h7:(at_ c i).f0≠7):Reach c (i+1):=by
  refine Reach.go hr hi ?_
  unfold succs
  rw [if_neg aA,if_neg h7]
  split <;> simp
theorem reach_to {c:List Ins} {i t:Nat} (hr:Reach c i) (hi:i<c.length) (h:(at_ c i).f0=7∨(at_ c i).f0=6) (ht:(at_ c i).f3=(t:Int)):Reach c t:=by
  refine Reach.go hr hi ?_
  unfold succs
  rcases h with h|h
  · rw [if_neg (by omega),if_pos h,ht];simp
  · rw [if_neg (by omega),if_neg (by omega),if_pos h,ht];simp
theorem at_plain {c:List Ins} {R:Nat→Int} {p:Nat} (hi:Vv (at_ c p).f0 (at_ c p).f1 (at_ c p).f2 (at_ c p).f3 c.length=true) (aA:(at_ c p).f0≠13) (h7:(at_ c p).f0≠7) (h6:(at_ c p).f0≠6)
    (hh:(held (at_ c p) (R p)).2=true) (hg:R (p+1)=(held (at_ c p) (R p)).1):At c R p:=
  ⟨hi,aA,hh,fun t ht=>by rw [succ_plain aA h7 h6] at ht;simp at ht;rw [ht];exact hg,fun h=>absurd h h7⟩
theorem in_one {c:List Ins} {R:Nat→Int} {room:Int} {a:Nat} (h:At c R a) (h7:(at_ c a).f0≠7) (hl:a+1<c.length) (hR:R a=room):In c R room a (a+1):=
  ⟨fun p h1 h2=>by rw [show p=a by omega];exact h,fun hr p h1 h2=>by
    rcases Nat.lt_or_ge a p with k|k
    · rw [show p=a+1 by omega];exact reach_next hr (by omega) h.noEnd h7
    · rw [show p=a by omega];exact hr,hR,fun _=>h7⟩
theorem fit_leaf (a:Nat) (i:Ins) (room:Int) (hi:∀ n:Nat,Vv i.f0 i.f1 i.f2 i.f3 n=true) (h7:i.f0≠7) (h6:i.f0≠6) (aA:i.f0≠13) (hh:held i room=(room,true)):Fit a [i] room:=
  ⟨[room],rfl,fun c R hl hc hR hr=>by
    have e:=(sl_cons hc).1
    have er:=(sl_cons hR).1
    have:=in_one (c:=c) (R:=R) (room:=room) (a:=a) (at_plain (by rw [e];exact hi _) (by rw [e];exact aA) (by rw [e];exact h7) (by rw [e];exact h6) (by rw [e,er,hh]) (by rw [e,er,hh];simpa using hr)) (by rw [e];exact h7) (by simpa using hl) er
    simpa using this⟩
theorem fits_of {a:Int} {m:Int} (h0:0≤a) (h1:a<m):Zq a m=true:=by
  unfold Zq
  by_cases k:a=0
  · simp [k]
  · simp [k];omega
theorem ok_skip {a n:Int} {m:Nat} (h0:0≤a) (h1:a<3) (hn:0≤n) (hm:n<m):Vv 6 a 0 n m=true:=by
  rw [insF_cases]
  have:=fits_of h0 h1
  simp [this,Zr,fits_of,Zq]
  simp [Zq] at this
  omega
theorem ok_jump {n:Int} {m:Nat} (hn:0≤n) (hm:n<m):Vv 7 0 0 n m=true:=by
  rw [insF_cases]
  simp [Zr,Zq]
  omega
theorem ok_skipN {a:Int} {n m:Nat} (h0:0≤a) (h1:a<3) (hm:n<m):Vv 6 a 0 (n:Int) m=true:=ok_skip h0 h1 (by omega) (by omega)
theorem ok_jumpN {n m:Nat} (hm:n<m):Vv 7 0 0 (n:Int) m=true:=ok_jump (by omega) (by omega)
theorem ok_room {op a:Int} {m:Nat} (ho:op=8∨op=9∨op=10∨op=11) (h0:0≤a) (h1:a<2):Vv op a 0 0 m=true:=by
  rw [insF_cases]
  have:=fits_of h0 h1
  rcases ho with rfl|rfl|rfl|rfl <;> simp [this,Zr,show Zq 0 0=true from rfl]
theorem ok_stop {m:Nat}:Vv 12 0 0 0 m=true:=by
  rw [insF_cases];simp [Zr,show Zq 0 0=true from rfl]
theorem ok_end {m:Nat}:Vv 13 0 0 0 m=true:=by
  rw [insF_cases];simp [Zr,show Zq 0 0=true from rfl]
theorem ok_plain {op a b n:Int} {m:Nat} (h:(op=1∧0≤a∧a<3∧b=0∧-999≤n∧n≤999)∨(op=2∧0≤a∧a<3∧0≤b∧b<3∧1≤n∧n≤5)∨((op=3∨op=4)∧0≤a∧a<3∧0≤b∧b<3∧n=0)∨(op=5∧0≤a∧a<3∧b=0∧n=0)):Vv op a b n m=true:=by
  rw [insF_cases]
  have z:Zq 0 0=true:=rfl
  rcases h with ⟨rfl,h0,h1,rfl,h2,h3⟩|⟨rfl,h0,h1,h2,h3,h4,h5⟩|⟨rfl|rfl,h0,h1,h2,h3,rfl⟩|⟨rfl,h0,h1,rfl,rfl⟩
  · have:=fits_of h0 h1;simp [this,Zr,z];omega
  · have:=fits_of h0 h1;have q:=fits_of h2 h3;simp [this,q,Zr,z];omega
  · have:=fits_of h0 h1;have q:=fits_of h2 h3;simp [this,q,Zr,z]
  · have:=fits_of h0 h1;have q:=fits_of h2 h3;simp [this,q,Zr,z]
  · have:=fits_of h0 h1;simp [this,Zr,z]
theorem held_other {i:Ins} {room:Int} (h8:i.f0≠8) (h9:i.f0≠9) (h10:i.f0≠10) (aA:i.f0≠13):held i room=(room,true):=by
  unfold held;rw [if_neg h8,if_neg h9,if_neg h10,if_neg aA]
theorem fit_leafI {s:T} {room:Int} {n4 n5:Nat} (a:Nat) (hr:-1≤room) (h:headP s.f0 s.f1 s.f2 s.f3 room n4 n5) (hk:¬ (s.f0=6∨s.f0=7∨s.f0=8)):Fit a [leafI s] (room+1):=by
  rcases h with h|h|h|h|h|h|h|h|h|h
  · rw [leafI_1 (by omega)]
    exact fit_leaf _ _ _ (fun n=>ok_plain (Or.inl ⟨h.1,h.2.1,h.2.2.1,h.2.2.2.1,h.2.2.2.2.1,h.2.2.2.2.2.1⟩)) (by show s.f0≠7;omega) (by show s.f0≠6;omega) (by show s.f0≠13;omega) (held_other (by show s.f0≠8;omega) (by show s.f0≠9;omega) (by show s.f0≠10;omega) (by show s.f0≠13;omega))
  · rw [leafI_1 (by omega)]
    exact fit_leaf _ _ _ (fun n=>ok_plain (Or.inr (Or.inl ⟨h.1,h.2.1,h.2.2.1,h.2.2.2.1,h.2.2.2.2.1,h.2.2.2.2.2.1,h.2.2.2.2.2.2.1⟩))) (by show s.f0≠7;omega) (by show s.f0≠6;omega) (by show s.f0≠13;omega) (held_other (by show s.f0≠8;omega) (by show s.f0≠9;omega) (by show s.f0≠10;omega) (by show s.f0≠13;omega))
  · rw [leafI_1 (by omega)]
    exact fit_leaf _ _ _ (fun n=>ok_plain (Or.inr (Or.inr (Or.inl ⟨h.1,h.2.1,h.2.2.1,h.2.2.2.1,h.2.2.2.2.1,h.2.2.2.2.2.1⟩)))) (by show s.f0≠7;omega) (by show s.f0≠6;omega) (by show s.f0≠13;omega) (held_other (by show s.f0≠8;omega) (by show s.f0≠9;omega) (by show s.f0≠10;omega) (by show s.f0≠13;omega))
  · rw [leafI_1 (by omega)]
    exact fit_leaf _ _ _ (fun n=>ok_plain (Or.inr (Or.inr (Or.inr ⟨h.1,h.2.1,h.2.2.1,h.2.2.2.1,h.2.2.2.2.1⟩)))) (by show s.f0≠7;omega) (by show s.f0≠6;omega) (by show s.f0≠13;omega) (held_other (by show s.f0≠8;omega) (by show s.f0≠9;omega) (by show s.f0≠10;omega) (by show s.f0≠13;omega))
  · exact absurd (Or.inl h.1) hk
  · exact absurd (Or.inr (Or.inl h.1)) hk
  · exact absurd (Or.inr (Or.inr h.1)) hk
  · rw [leafI_9 h.1]
    refine fit_leaf _ _ _ (fun n=>ok_room (Or.inr (Or.inr (Or.inl rfl))) h.2.1 h.2.2.1) (by simp) (by simp) (by simp) ?_
    unfold held
    rw [if_neg (by simp),if_neg (by simp),if_pos rfl,decide_eq_true (by omega)]
  · rw [leafI_10 h.1]
    exact fit_leaf _ _ _ (fun n=>ok_room (Or.inr (Or.inr (Or.inr rfl))) h.2.1 h.2.2.1) (by simp) (by simp) (by simp) (held_other (by simp) (by simp) (by simp) (by simp))
  · rw [leafI_0 (by omega) (by omega) (by omega)]
    exact fit_leaf _ _ _ (fun n=>ok_stop) (by simp) (by simp) (by simp) (held_other (by simp) (by simp) (by simp) (by simp))
theorem fit_if {a:Nat} {x:Int} {g4 g5:List Ins} {r:Int} (h0:0≤x) (h1:x<3) (f4:Fit (a+1) g4 r) (f5:Fit (a+2+g4.length) g5 r) :
    Fit a ((⟨6,x,0,((a+2+g4.length:Nat):Int)⟩ :: g4) ++ (⟨7,0,0,((a+2+g4.length+g5.length:Nat):Int)⟩ :: g5)) r:=by
  obtain ⟨r4,l4,F4⟩:=f4
  obtain ⟨r5,l5,F5⟩:=f5
  refine ⟨(r :: r4) ++ (r :: r5),by simp [l4,l5],fun c R hl hc hR hr=>?_⟩
  have eb:a+((⟨6,x,0,((a+2+g4.length:Nat):Int)⟩ :: g4) ++ ((⟨7,0,0,((a+2+g4.length+g5.length:Nat):Int)⟩:Ins) :: g5)).length=a+2+g4.length+g5.length:=by simp;omega
  rw [eb] at hl hr ⊢
  obtain ⟨ca,cb⟩:=sl_app hc
  obtain ⟨e1,c4⟩:=sl_cons ca
  obtain ⟨e2,c5⟩:=sl_cons cb
  obtain ⟨qa,qb⟩:=sl_app hR
  obtain ⟨u1,q4⟩:=sl_cons qa
  obtain ⟨u2,q5⟩:=sl_cons qb
  rw [List.length_cons] at e2 c5 u2 q5
  rw [l4] at u2 q5
  rw [show a+(g4.length+1)=a+1+g4.length by omega] at e2 c5 u2 q5
  rw [show a+1+g4.length+1=a+2+g4.length by omega] at c5 q5
  have i4:=F4 c R (by omega) c4 q4 u2
  have i5:=F5 c R hl c5 q5 hr
  have A1:At c R a:=by
    refine ⟨by rw [e1];exact ok_skipN h0 h1 (by omega),by rw [e1];simp,by rw [e1,held_other (by simp) (by simp) (by simp) (by simp)],fun t ht=>?_,fun h=>by rw [e1] at h;simp at h⟩
    rw [succ_skip (by rw [e1]),e1] at ht
    rw [e1,held_other (by simp) (by simp) (by simp) (by simp),u1]
    simp only [List.mem_cons,List.mem_singleton,Int.toNat_natCast,List.not_mem_nil,or_false] at ht
    rcases ht with rfl|rfl
    · exact i4.start
    · exact i5.start
  have A2:At c R (a+1+g4.length):=by
    refine ⟨by rw [e2];exact ok_jumpN (by omega),by rw [e2];simp,by rw [e2,held_other (by simp) (by simp) (by simp) (by simp)],fun t ht=>?_,fun _=>Or.inl (by rw [e2];show ((a+1+g4.length:Nat):Int)<((a+2+g4.length+g5.length:Nat):Int);omega)⟩
    rw [succ_jump (by rw [e2]),e2] at ht
    rw [e2,held_other (by simp) (by simp) (by simp) (by simp),u2]
    simp only [List.mem_cons,List.mem_singleton,Int.toNat_natCast,List.not_mem_nil,or_false] at ht
    rw [ht];exact hr
  refine ⟨fun p h1 h2=>?_,fun hre p h1 h2=>?_,u1,fun _=>by rw [e1];simp⟩
  · by_cases k1:p=a
    · rw [k1];exact A1
    by_cases k2:p<a+1+g4.length
    · exact i4.each p (by omega) k2
    by_cases k3:p=a+1+g4.length
    · rw [k3];exact A2
    · exact i5.each p (by omega) h2
  · by_cases k1:p=a
    · rw [k1];exact hre
    by_cases k2:p≤a+1+g4.length
    · exact i4.all (reach_next hre (by omega) (by rw [e1];simp) (by rw [e1];simp)) p (by omega) k2
    · exact i5.all (reach_to hre (by omega) (by rw [e1];simp) (by rw [e1])) p (by omega) h2
theorem fit_while {a:Nat} {x:Int} {g4:List Ins} {r:Int} (h0:0≤x) (h1:x<3) (f4:Fit (a+1) g4 r) :
    Fit a ((⟨6,x,0,((a+2+g4.length:Nat):Int)⟩ :: g4) ++ [⟨7,0,0,(a:Int)⟩]) r:=by
  obtain ⟨r4,l4,F4⟩:=f4
  refine ⟨(r :: r4) ++ [r],by simp [l4],fun c R hl hc hR hr=>?_⟩
  have eb:a+((⟨6,x,0,((a+2+g4.length:Nat):Int)⟩ :: g4) ++ [(⟨7,0,0,(a:Int)⟩:Ins)]).length=a+2+g4.length:=by simp;omega
  rw [eb] at hl hr ⊢
  obtain ⟨ca,cb⟩:=sl_app hc
  obtain ⟨e1,c4⟩:=sl_cons ca
  obtain ⟨e2,c5⟩:=sl_cons cb
  obtain ⟨qa,qb⟩:=sl_app hR
  obtain ⟨u1,q4⟩:=sl_cons qa
  obtain ⟨u2,q5⟩:=sl_cons qb
  rw [List.length_cons] at e2 c5 u2 q5
  rw [l4] at u2 q5
  rw [show a+(g4.length+1)=a+1+g4.length by omega] at e2 c5 u2 q5
  have i4:=F4 c R (by omega) c4 q4 u2
  have A1:At c R a:=by
    refine ⟨by rw [e1];exact ok_skipN h0 h1 (by omega),by rw [e1];simp,by rw [e1,held_other (by simp) (by simp) (by simp) (by simp)],fun t ht=>?_,fun h=>by rw [e1] at h;simp at h⟩
    rw [succ_skip (by rw [e1]),e1] at ht
    rw [e1,held_other (by simp) (by simp) (by simp) (by simp),u1]
    simp only [List.mem_cons,List.mem_singleton,Int.toNat_natCast,List.not_mem_nil,or_false] at ht
    rcases ht with rfl|rfl
    · exact i4.start
    · exact hr
  have A2:At c R (a+1+g4.length):=by
    refine ⟨by rw [e2];exact ok_jumpN (by omega),by rw [e2];simp,by rw [e2,held_other (by simp) (by simp) (by simp) (by simp)],fun t ht=>?_,fun _=>Or.inr (by rw [e2];simp only [Int.toNat_natCast];rw [e1];simp)⟩
    rw [succ_jump (by rw [e2]),e2] at ht
    rw [e2,held_other (by simp) (by simp) (by simp) (by simp),u2]
    simp only [List.mem_cons,List.mem_singleton,Int.toNat_natCast,List.not_mem_nil,or_false] at ht
    rw [ht];exact u1
  refine ⟨fun p h1 h2=>?_,fun hre p h1 h2=>?_,u1,fun _=>by rw [e1];simp⟩
  · by_cases k1:p=a
    · rw [k1];exact A1
    by_cases k2:p<a+1+g4.length
    · exact i4.each p (by omega) k2
    rw [show p=a+1+g4.length by omega];exact A2
  · by_cases k1:p=a
    · rw [k1];exact hre
    by_cases k2:p≤a+1+g4.length
    · exact i4.all (reach_next hre (by omega) (by rw [e1];simp) (by rw [e1];simp)) p (by omega) k2
    · rw [show p=a+2+g4.length by omega];exact reach_to hre (by omega) (by rw [e1];simp) (by rw [e1])
theorem fit_hold {a:Nat} {x:Int} {g4:List Ins} (h0:0≤x) (h1:x<2) (f4:Fit (a+1) g4 (x+1)) :
    Fit a ((⟨8,x,0,0⟩ :: g4) ++ [⟨9,x,0,0⟩]) 0:=by
  obtain ⟨r4,l4,F4⟩:=f4
  refine ⟨(0 :: r4) ++ [x+1],by simp [l4],fun c R hl hc hR hr=>?_⟩
  have eb:a+((⟨8,x,0,0⟩ :: g4) ++ [(⟨9,x,0,0⟩:Ins)]).length=a+2+g4.length:=by simp;omega
  rw [eb] at hl hr ⊢
  obtain ⟨ca,cb⟩:=sl_app hc
  obtain ⟨e1,c4⟩:=sl_cons ca
  obtain ⟨e2,c5⟩:=sl_cons cb
  obtain ⟨qa,qb⟩:=sl_app hR
  obtain ⟨u1,q4⟩:=sl_cons qa
  obtain ⟨u2,q5⟩:=sl_cons qb
  rw [List.length_cons] at e2 c5 u2 q5
  rw [l4] at u2 q5
  rw [show a+(g4.length+1)=a+1+g4.length by omega] at e2 c5 u2 q5
  have i4:=F4 c R (by omega) c4 q4 u2
  have A1:At c R a:=at_plain (by rw [e1];exact ok_room (Or.inl rfl) h0 h1) (by rw [e1];simp) (by rw [e1];simp) (by rw [e1];simp) (by rw [e1,u1];simp [held]) (by rw [e1,u1,i4.start];simp [held])
  have A2:At c R (a+1+g4.length):=at_plain (by rw [e2];exact ok_room (Or.inr (Or.inl rfl)) h0 h1) (by rw [e2];simp) (by rw [e2];simp) (by rw [e2];simp) (by rw [e2,u2];simp [held]) (by rw [show a+1+g4.length+1=a+2+g4.length by omega,hr,e2,u2];simp [held])
  refine ⟨fun p h1 h2=>?_,fun hre p h1 h2=>?_,u1,fun _=>by rw [e1];simp⟩
  · by_cases k1:p=a
    · rw [k1];exact A1
    by_cases k2:p<a+1+g4.length
    · exact i4.each p (by omega) k2
    rw [show p=a+1+g4.length by omega];exact A2
  · by_cases k1:p=a
    · rw [k1];exact hre
    have r1:=i4.all (reach_next hre (by omega) (by rw [e1];simp) (by rw [e1];simp))
    by_cases k2:p≤a+1+g4.length
    · exact r1 p (by omega) k2
    · rw [show p=a+1+g4.length+1 by omega]
      exact reach_next (r1 _ (by omega) (Nat.le_refl _)) (by omega) (by rw [e2];simp) (by rw [e2];simp)
theorem headI {k a b n room:Int} {n4 n5:Nat} (h:headP k a b n room n4 n5) (hk:k=6∨k=7):0≤a∧a<3:=by
  rcases h with h|h|h|h|h|h|h|h|h|h <;> omega
theorem headH {k a b n room:Int} {n4 n5:Nat} (h:headP k a b n room n4 n5) (hk:k=8):0≤a∧a<2∧room = -1:=by
  rcases h with h|h|h|h|h|h|h|h|h|h <;> omega
def FL (d:Nat):Prop:=∀ (l:List T) (room:Int) (a:Nat),-1≤room→l.all (fun t=>Yy.st d t room)=true→Fit a (gL d l a) (room+1)
theorem fit_gS {d:Nat} (H:FL d) (s:T) (room:Int) (a:Nat) (hr:-1≤room) (h:Yy.st (d+1) s room=true):Fit a (gS (gL d) s a) (room+1):=by
  obtain ⟨hh,h4,h5⟩:=(st_iff d s room).1 h
  unfold gS
  by_cases k6:s.f0=6
  · rw [if_pos k6]
    have e:Yy.inr s.f0 s.f1 room=room:=by unfold Yy.inr;rw [if_neg (by omega)]
    rw [e] at h4 h5
    have:=headI hh (Or.inl k6)
    exact fit_if this.1 this.2 (H _ _ _ hr h4) (H _ _ _ hr h5)
  rw [if_neg k6]
  by_cases k7:s.f0=7
  · rw [if_pos k7]
    have e:Yy.inr s.f0 s.f1 room=room:=by unfold Yy.inr;rw [if_neg (by omega)]
    rw [e] at h4
    have:=headI hh (Or.inr k7)
    exact fit_while this.1 this.2 (H _ _ _ hr h4)
  rw [if_neg k7]
  by_cases k8:s.f0=8
  · rw [if_pos k8]
    have e:Yy.inr s.f0 s.f1 room=s.f1:=by unfold Yy.inr;rw [if_pos k8]
    rw [e] at h4
    obtain ⟨a0,a1,a2⟩:=headH hh k8
    have:=fit_hold a0 a1 (H _ _ (a+1) (by omega) h4)
    rw [a2]
    exact this
  rw [if_neg k8]
  exact fit_leafI a hr hh (by omega)
theorem pos_gS (g:List T→Nat→List Ins) (s:T) (a:Nat):0<(gS g s a).length:=by
  unfold gS
  split
  · simp
  · split
    · simp
    · split <;> simp
theorem fit_gLs {d:Nat} (H:FL d):∀ (l:List T) (room:Int) (a:Nat),-1≤room→l.all (fun t=>Yy.st (d+1) t room)=true→Fit a (gLs (gS (gL d)) l a) (room+1)
  |[],room,a,_,_=>fit_nil a _
  |s :: l,room,a,hr,h=>by
    rw [List.all_cons,Bool.and_eq_true] at h
    exact fit_app (fit_gS H s room a hr h.1) (fit_gLs H l room _ hr h.2) (pos_gS _ _ _)
theorem fit_gL:∀ d,FL d
  |0=>fun l room a _ _=>fit_nil a _
  |d+1=>fun l room a hr h=>fit_gLs (fit_gL d) l room a hr h
structure Fine (c:List Ins):Prop where
  ok:Ok c
  all:∀ i,i<c.length→Reach c i
  ahead:∀ i,i<c.length→(at_ c i).f0=7→(i:Int)<(at_ c i).f3∨(at_ c (at_ c i).f3.toNat).f0≠7
  first:(at_ c 0).f0≠7
  most:c.length≤43
theorem codeOf_fine (l:List T) (h:Short 3 l) (hk:okB l=true):Fine (codeOf l):=by
  have hall:l.all (fun t=>Yy.st 3 t (-1))=true:=(Bool.and_eq_true_iff.1 (by unfold okB at hk;exact hk)).1
  have hc:=ok_cnt h hk
  have hL:=len_gL 3 l 0
  unfold codeOf
  rw [if_pos hk]
  generalize hg:gL 3 l 0=g at hL
  obtain ⟨rs,hl,F⟩:Fit 0 g 0:=by rw [← hg];exact fit_gL 3 l (-1) 0 (by omega) hall
  generalize hcc:g ++ [(⟨13,0,0,0⟩:Ins)]=c
  have hlen:c.length=g.length+1:=by rw [← hcc];simp
  have hR:∀ p,(rs ++ [0]).getD p 0=(rs ++ [0]).getD p 0:=fun _=>rfl
  have I:=F c (fun p=>(rs ++ [0]).getD p 0) (by omega)
    (fun i hi=>by rw [Nat.zero_add,at_lt (by omega)];simp only [← hcc];exact List.getElem_append_left hi)
    (fun i hi=>by rw [Nat.zero_add];simp only [List.getD_eq_getElem?_getD];rw [List.getElem?_append_left hi];simp [hi])
    (by rw [Nat.zero_add,← hl];simp [List.getD_eq_getElem?_getD])
  rw [Nat.zero_add] at I
  have hend:at_ c g.length=⟨13,0,0,0⟩:=by rw [at_lt (by omega)];simp only [← hcc];simp
  have hRe:(rs ++ [(0:Int)]).getD g.length 0=0:=by rw [← hl];simp [List.getD_eq_getElem?_getD]
  have hv:Zo c:=⟨by omega,by omega,fun i hi=>by
    by_cases k:i<g.length
    · exact (I.each i (by omega) k).ins
    · rw [show i=g.length by omega,hend];exact ok_end,fun i hi=>by
    by_cases k:i<g.length
    · exact ⟨fun h=>absurd h (I.each i (by omega) k).noEnd,fun h=>by omega⟩
    · rw [show i=g.length by omega,hend];exact ⟨fun _=>by omega,fun _=>rfl⟩⟩
  refine ⟨⟨hv,fun p=>(rs ++ [0]).getD p 0,I.start,fun i hr=>?_,fun i t hr ht=>?_⟩,fun i hi=>I.all Reach.first i (by omega) (by omega),fun i hi h7=>?_,?_,by omega⟩
  · have hi:=hv.reach_lt hr
    by_cases k:i<g.length
    · exact (I.each i (by omega) k).held
    · rw [show i=g.length by omega,hend,hRe];rfl
  · have hi:=hv.reach_lt hr
    by_cases k:i<g.length
    · exact (I.each i (by omega) k).go t ht
    · rw [show i=g.length by omega] at ht
      rw [succ_end (by rw [hend])] at ht
      cases ht
  · by_cases k:i<g.length
    · exact (I.each i (by omega) k).ahead h7
    · rw [show i=g.length by omega,hend] at h7;simp at h7
  · by_cases k:0<g.length
    · exact I.head k
    · rw [show 0=g.length by omega,hend];simp
end Stmts
end Go.Proofs.Ytokajnfbiddpjaa.Pure
