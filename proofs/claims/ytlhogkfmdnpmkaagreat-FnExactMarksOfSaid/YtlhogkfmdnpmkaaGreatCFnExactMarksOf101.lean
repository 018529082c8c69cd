import Derived.Test.YtlhogkfmdnpmkaaGreatCFnExactMarksOf98
set_option linter.unusedVariables false
set_option linter.unusedSimpArgs false
namespace Go.Proofs.YtlhogkfmdnpmkaaGreat.Pure
open RowKit GMarks YtlhogkfmdnpmkaaGreatW.PrintWords YtlhogkfmdnpmkaaGreatW.PrintLast YtlhogkfmdnpmkaaGreatW.PrintMore Evt StmtOk SForms
namespace Stmts
abbrev T:=S87
def headP (k a b n room:Int) (n4 n5:Nat):Prop:=
 (k=1∧0≤a∧a<3∧b=0∧-999≤n∧n≤999∧n4=0∧n5=0)∨(k=2∧0≤a∧a<3∧0≤b∧b<3∧1≤n∧n≤5∧n4=0∧n5=0)∨
 ((k=3∨k=4)∧0≤a∧a<3∧0≤b∧b<3∧n=0∧n4=0∧n5=0)∨(k=5∧0≤a∧a<3∧b=0∧n=0∧n4=0∧n5=0)∨
 (k=6∧0≤a∧a<3∧b=0∧n=0)∨(k=7∧0≤a∧a<3∧b=0∧n=0∧n5=0)∨(k=8∧0≤a∧a<2∧b=0∧n=0∧n5=0∧room = -1)∨
 (k=9∧0≤a∧a<2∧b=0∧n=0∧n4=0∧n5=0∧room≠-1)∨(k=10∧0≤a∧a<2∧b=0∧n=0∧n4=0∧n5=0)∨(k=11∧a=0∧b=0∧n=0∧n4=0∧n5=0)
theorem look_none {k:Int} (h:¬ (1≤k∧k≤11)):Yg k=(false,noForm):=by
 unfold Yg forms;have e:∀ j:Int,1≤j∧j≤11→(j == k)=false:=fun j hj=>nb_ om_;simp [List.find?_cons,e 1 om_,e 2 om_,e 3 om_,e 4 om_,e 5 om_,e 6 om_,e 7 om_,e 8 om_,e 9 om_,e 10 om_,e 11 om_]
theorem tail_iff (k a b n D room:Int) (n4 n5:Nat) (p4 p5:Bool) :
  Yd.tail (Yg k).1 (Yg k).2.a (Yg k).2.b (Yg k).2.body (Yg k).2.orElse D (fitsF a (Yg k).2.a) (fitsF b (Yg k).2.b) (Yd.num k n) k n4 n5 room p4 p5=true↔1≤D∧headP k a b n room n4 n5∧p4=true∧p5=true:=by
 by_cases h:1≤k∧k≤11
 ·have hk:k=1∨k=2∨k=3∨k=4∨k=5∨k=6∨k=7∨k=8∨k=9∨k=10∨k=11:=om_
  rcases hk with rfl|rfl|rfl|rfl|rfl|rfl|rfl|rfl|rfl|rfl|rfl
  ·rw [show Yg 1=(true,⟨sNum,3,0,false,false⟩) from rfl]
   cases p4 <;> cases p5 <;> simp [Yd.tail,Yd.num,fitsF,headP] <;> omega
  ·rw [show Yg 2=(true,⟨sNo,3,3,false,false⟩) from rfl]
   cases p4 <;> cases p5 <;> simp [Yd.tail,Yd.num,fitsF,headP] <;> omega
  ·rw [show Yg 3=(true,⟨sLoad,3,3,false,false⟩) from rfl]
   cases p4 <;> cases p5 <;> simp [Yd.tail,Yd.num,fitsF,headP] <;> omega
  ·rw [show Yg 4=(true,⟨sStore,3,3,false,false⟩) from rfl]
   cases p4 <;> cases p5 <;> simp [Yd.tail,Yd.num,fitsF,headP] <;> omega
  ·rw [show Yg 5=(true,⟨sSay,3,0,false,false⟩) from rfl]
   cases p4 <;> cases p5 <;> simp [Yd.tail,Yd.num,fitsF,headP] <;> omega
  ·rw [show Yg 6=(true,⟨sIf,3,0,true,true⟩) from rfl]
   cases p4 <;> cases p5 <;> simp [Yd.tail,Yd.num,fitsF,headP] <;> omega
  ·rw [show Yg 7=(true,⟨sWhile,3,0,true,false⟩) from rfl]
   cases p4 <;> cases p5 <;> simp [Yd.tail,Yd.num,fitsF,headP] <;> omega
  ·rw [show Yg 8=(true,⟨sIn,2,0,true,false⟩) from rfl]
   cases p4 <;> cases p5 <;> simp [Yd.tail,Yd.num,fitsF,headP] <;> omega
  ·rw [show Yg 9=(true,⟨sWait,2,0,false,false⟩) from rfl]
   cases p4 <;> cases p5 <;> simp [Yd.tail,Yd.num,fitsF,headP] <;> omega
  ·rw [show Yg 10=(true,⟨sSignal,2,0,false,false⟩) from rfl]
   cases p4 <;> cases p5 <;> simp [Yd.tail,Yd.num,fitsF,headP] <;> omega
  ·rw [show Yg 11=(true,⟨sYield,0,0,false,false⟩) from rfl]
   cases p4 <;> cases p5 <;> simp [Yd.tail,Yd.num,fitsF,headP] <;> omega
 ·rw [look_none h];simp only [Yd.tail,Bool.false_and];refine ⟨fun h=>(by cases h),fun ⟨_,hh,_⟩=>?_⟩;unfold headP at hh;omega
theorem st_iff (e:Nat) (s:T) (room:Int):Yd.st (e+1) s room=true↔headP s.f0 s.f1 s.f2 s.f3 room s.f4.length s.f5.length∧s.f4.all (fun t=>Yd.st e t (Yd.inr s.f0 s.f1 room))=true∧s.f5.all (fun t=>Yd.st e t (Yd.inr s.f0 s.f1 room))=true:=by
 simp only [Yd.st];rw [tail_iff]
 constructor
 ·rintro ⟨_,h⟩;exact h
 ·intro h;exact ⟨om_,h⟩
theorem st_no {e:Nat} {s:T} {room:Int} (h:¬ headP s.f0 s.f1 s.f2 s.f3 room s.f4.length s.f5.length):Yd.st (e+1) s room=false:=Bool.eq_false_iff.2 (fun h'=>h ((st_iff e s room).1 h').1)
theorem st_yes {e:Nat} {s:T} {room:Int} (h:headP s.f0 s.f1 s.f2 s.f3 room s.f4.length s.f5.length):Yd.st (e+1) s room=(s.f4.all (fun t=>Yd.st e t (Yd.inr s.f0 s.f1 room)) && s.f5.all (fun t=>Yd.st e t (Yd.inr s.f0 s.f1 room))):=by
 rw [Bool.eq_iff_iff,st_iff,Bool.and_eq_true];exact ⟨fun h'=>h'.2,fun h'=>⟨h,h'⟩⟩
theorem all_nil {p:T→Bool} {l:List T} (h:l.length=0):l.all p=true:=by
 cases l with
 |nil=>rfl
 |cons=>simp at h
theorem numOk_is (m:Int):Ui.f m=some (decide (-999≤m) && decide (m≤999)):=by
 simp only [Ui.f]
 repeat' split
 all_goals first|(simp_all;done)|(simp_all;omega)
def leafB (k a b n room:Int):Bool:=
 if k=1 then decide (0≤a∧a<3∧b=0∧-999≤n∧n≤999) else if k=2 then decide (0≤a∧a<3∧0≤b∧b<3∧1≤n∧n≤5) else if k=3 then decide (0≤a∧a<3∧0≤b∧b<3∧n=0) else
 if k=4 then decide (0≤a∧a<3∧0≤b∧b<3∧n=0) else if k=5 then decide (0≤a∧a<3∧b=0∧n=0) else if k=9 then decide (0≤room∧0≤a∧a<2∧b=0∧n=0) else
 if k=10 then decide (0≤a∧a<2∧b=0∧n=0) else if k=11 then decide (a=0∧b=0∧n=0) else false
theorem leafB_iff {k a b n room:Int} (hr:-1≤room) (h6:k≠6) (h7:k≠7) (h8:k≠8):leafB k a b n room=true↔headP k a b n room 0 0:=by
 by_cases h:1≤k∧k≤11
 ·have hk:k=1∨k=2∨k=3∨k=4∨k=5∨k=9∨k=10∨k=11:=om_
  clear h h6 h7 h8
  rcases hk with rfl|rfl|rfl|rfl|rfl|rfl|rfl|rfl <;> first|(simp [leafB,headP];done)|(simp [leafB,headP];omega)
 ·unfold leafB;rw [if_neg om_,if_neg om_,if_neg om_,if_neg om_,if_neg om_,if_neg om_,if_neg om_,if_neg om_];refine ⟨fun h=>(by cases h),fun h'=>?_⟩
  rcases h' with h'|h'|h'|h'|h'|h'|h'|h'|h'|h' <;> omega
theorem leaf_ev (k a b n:Int) (l4 l5:List T) (room:Int):Evt (fun q=>Ze.f q k a b n l4 l5 room) (leafB k a b n room):=by
 have key:∀ (x5 x6:Bool),(x5=true↔0≤a∧a<3)→(x6=true↔0≤b∧b<3)→Evt (fun q=>Ze.j1 q room x5 x6 k a b n l4 l5) (leafB k a b n room):=fun x5 x6 e5 e6=>by
  refine Evt.step ?_;simp only [Ze.j1];by_cases k1:k=1
  ·have hL:leafB k a b n room=decide (0≤a∧a<3∧b=0∧-999≤n∧n≤999):=by unfold leafB;rw [if_pos k1]
   refine Evt.pos k1 ?_;by_cases c0:x5=true
   case neg=>rw [hL,df_ (show ¬ (0≤a∧a<3∧b=0∧-999≤n∧n≤999) from fun h=>c0 (e5.2 ⟨om_,om_⟩))];exact Evt.neg c0 (Evt.pure _)
   refine Evt.pos c0 ?_;by_cases c1:b=0
   case neg=>rw [hL,df_ (show ¬ (0≤a∧a<3∧b=0∧-999≤n∧n≤999) from by omega)];exact Evt.neg c1 (Evt.pure _)
   refine Evt.pos c1 ?_;have d0:=e5.1 c0;rw [numOk_is,hL,show decide (0≤a∧a<3∧b=0∧-999≤n∧n≤999)=(decide (-999≤n) && decide (n≤999)) from by rw [Bool.eq_iff_iff];simp only [Bool.and_eq_true,decide_eq_true_eq];omega];exact Evt.bind (Evt.pure _) (Evt.pure _)
  refine Evt.neg k1 ?_;by_cases k2:k=2
  ·have hL:leafB k a b n room=decide (0≤a∧a<3∧0≤b∧b<3∧1≤n∧n≤5):=by unfold leafB;rw [if_neg k1,if_pos k2]
   refine Evt.pos k2 ?_;by_cases c0:x5=true
   case neg=>rw [hL,df_ (show ¬ (0≤a∧a<3∧0≤b∧b<3∧1≤n∧n≤5) from fun h=>c0 (e5.2 ⟨om_,om_⟩))];exact Evt.neg c0 (Evt.pure _)
   refine Evt.pos c0 ?_;by_cases c1:x6=true
   case neg=>rw [hL,df_ (show ¬ (0≤a∧a<3∧0≤b∧b<3∧1≤n∧n≤5) from fun h=>c1 (e6.2 ⟨om_,om_⟩))];exact Evt.neg c1 (Evt.pure _)
   refine Evt.pos c1 ?_;by_cases c2:n ≥ 1
   case neg=>rw [hL,df_ (show ¬ (0≤a∧a<3∧0≤b∧b<3∧1≤n∧n≤5) from by omega)];exact Evt.neg c2 (Evt.pure _)
   refine Evt.pos c2 ?_;have d0:=e5.1 c0;have d1:=e6.1 c1;rw [hL,show decide (0≤a∧a<3∧0≤b∧b<3∧1≤n∧n≤5)=decide (n≤5) from by rw [Bool.eq_iff_iff];simp only [decide_eq_true_eq];omega];exact Evt.pure _
  refine Evt.neg k2 ?_;by_cases k3:k=3
  ·have hL:leafB k a b n room=decide (0≤a∧a<3∧0≤b∧b<3∧n=0):=by unfold leafB;rw [if_neg k1,if_neg k2,if_pos k3]
   refine Evt.pos k3 ?_;by_cases c0:x5=true
   case neg=>rw [hL,df_ (show ¬ (0≤a∧a<3∧0≤b∧b<3∧n=0) from fun h=>c0 (e5.2 ⟨om_,om_⟩))];exact Evt.neg c0 (Evt.pure _)
   refine Evt.pos c0 ?_;by_cases c1:b ≥ 0
   case neg=>rw [hL,df_ (show ¬ (0≤a∧a<3∧0≤b∧b<3∧n=0) from by omega)];exact Evt.neg c1 (Evt.pure _)
   refine Evt.pos c1 ?_;by_cases c2:b<3
   case neg=>rw [hL,df_ (show ¬ (0≤a∧a<3∧0≤b∧b<3∧n=0) from by omega)];exact Evt.neg c2 (Evt.pure _)
   refine Evt.pos c2 ?_;have d0:=e5.1 c0;rw [hL,show decide (0≤a∧a<3∧0≤b∧b<3∧n=0)=(n == 0) from by rw [Bool.eq_iff_iff];simp only [decide_eq_true_eq,beq_iff_eq];omega];exact Evt.pure _
  refine Evt.neg k3 ?_;by_cases k4:k=4
  ·have hL:leafB k a b n room=decide (0≤a∧a<3∧0≤b∧b<3∧n=0):=by unfold leafB;rw [if_neg k1,if_neg k2,if_neg k3,if_pos k4]
   refine Evt.pos k4 ?_;by_cases c0:a ≥ 0
   case neg=>rw [hL,df_ (show ¬ (0≤a∧a<3∧0≤b∧b<3∧n=0) from by omega)];exact Evt.neg c0 (Evt.pure _)
   refine Evt.pos c0 ?_;by_cases c1:a<3
   case neg=>rw [hL,df_ (show ¬ (0≤a∧a<3∧0≤b∧b<3∧n=0) from by omega)];exact Evt.neg c1 (Evt.pure _)
   refine Evt.pos c1 ?_;by_cases c2:x6=true
   case neg=>rw [hL,df_ (show ¬ (0≤a∧a<3∧0≤b∧b<3∧n=0) from fun h=>c2 (e6.2 ⟨om_,om_⟩))];exact Evt.neg c2 (Evt.pure _)
   refine Evt.pos c2 ?_;have d2:=e6.1 c2;rw [hL,show decide (0≤a∧a<3∧0≤b∧b<3∧n=0)=(n == 0) from by rw [Bool.eq_iff_iff];simp only [decide_eq_true_eq,beq_iff_eq];omega];exact Evt.pure _
  refine Evt.neg k4 ?_;by_cases k5:k=5
  ·have hL:leafB k a b n room=decide (0≤a∧a<3∧b=0∧n=0):=by unfold leafB;rw [if_neg k1,if_neg k2,if_neg k3,if_neg k4,if_pos k5]
   refine Evt.pos k5 ?_;by_cases c0:x5=true
   case neg=>rw [hL,df_ (show ¬ (0≤a∧a<3∧b=0∧n=0) from fun h=>c0 (e5.2 ⟨om_,om_⟩))];exact Evt.neg c0 (Evt.pure _)
   refine Evt.pos c0 ?_;by_cases c1:b=0
   case neg=>rw [hL,df_ (show ¬ (0≤a∧a<3∧b=0∧n=0) from by omega)];exact Evt.neg c1 (Evt.pure _)
   refine Evt.pos c1 ?_;have d0:=e5.1 c0;rw [hL,show decide (0≤a∧a<3∧b=0∧n=0)=(n == 0) from by rw [Bool.eq_iff_iff];simp only [decide_eq_true_eq,beq_iff_eq];omega];exact Evt.pure _
  refine Evt.neg k5 ?_;by_cases k9:k=9
  ·have hL:leafB k a b n room=decide (0≤room∧0≤a∧a<2∧b=0∧n=0):=by unfold leafB;rw [if_neg k1,if_neg k2,if_neg k3,if_neg k4,if_neg k5,if_pos k9]
   refine Evt.pos k9 ?_;by_cases c0:room ≥ 0
   case neg=>rw [hL,df_ (show ¬ (0≤room∧0≤a∧a<2∧b=0∧n=0) from by omega)];exact Evt.neg c0 (Evt.pure _)
   refine Evt.pos c0 ?_;by_cases c1:a ≥ 0
   case neg=>rw [hL,df_ (show ¬ (0≤room∧0≤a∧a<2∧b=0∧n=0) from by omega)];exact Evt.neg c1 (Evt.pure _)
   refine Evt.pos c1 ?_;by_cases c2:a<2
   case neg=>rw [hL,df_ (show ¬ (0≤room∧0≤a∧a<2∧b=0∧n=0) from by omega)];exact Evt.neg c2 (Evt.pure _)
   refine Evt.pos c2 ?_;by_cases c3:b=0
   case neg=>rw [hL,df_ (show ¬ (0≤room∧0≤a∧a<2∧b=0∧n=0) from by omega)];exact Evt.neg c3 (Evt.pure _)
   refine Evt.pos c3 ?_;rw [hL,show decide (0≤room∧0≤a∧a<2∧b=0∧n=0)=(n == 0) from by rw [Bool.eq_iff_iff];simp only [decide_eq_true_eq,beq_iff_eq];omega];exact Evt.pure _
  refine Evt.neg k9 ?_;by_cases k10:k=10
  ·have hL:leafB k a b n room=decide (0≤a∧a<2∧b=0∧n=0):=by unfold leafB;rw [if_neg k1,if_neg k2,if_neg k3,if_neg k4,if_neg k5,if_neg k9,if_pos k10]
   refine Evt.pos k10 ?_;by_cases c0:a ≥ 0
   case neg=>rw [hL,df_ (show ¬ (0≤a∧a<2∧b=0∧n=0) from by omega)];exact Evt.neg c0 (Evt.pure _)
   refine Evt.pos c0 ?_;by_cases c1:a<2
   case neg=>rw [hL,df_ (show ¬ (0≤a∧a<2∧b=0∧n=0) from by omega)];exact Evt.neg c1 (Evt.pure _)
   refine Evt.pos c1 ?_;by_cases c2:b=0
   case neg=>rw [hL,df_ (show ¬ (0≤a∧a<2∧b=0∧n=0) from by omega)];exact Evt.neg c2 (Evt.pure _)
   refine Evt.pos c2 ?_;rw [hL,show decide (0≤a∧a<2∧b=0∧n=0)=(n == 0) from by rw [Bool.eq_iff_iff];simp only [decide_eq_true_eq,beq_iff_eq];omega];exact Evt.pure _
  refine Evt.neg k10 ?_;by_cases k11:k=11
  ·have hL:leafB k a b n room=decide (a=0∧b=0∧n=0):=by unfold leafB;rw [if_neg k1,if_neg k2,if_neg k3,if_neg k4,if_neg k5,if_neg k9,if_neg k10,if_pos k11]
   refine Evt.pos k11 ?_;by_cases c0:a=0
   case neg=>rw [hL,df_ (show ¬ (a=0∧b=0∧n=0) from by omega)];exact Evt.neg c0 (Evt.pure _)
   refine Evt.pos c0 ?_;by_cases c1:b=0
   case neg=>rw [hL,df_ (show ¬ (a=0∧b=0∧n=0) from by omega)];exact Evt.neg c1 (Evt.pure _)
   refine Evt.pos c1 ?_;rw [hL,show decide (a=0∧b=0∧n=0)=(n == 0) from by rw [Bool.eq_iff_iff];simp only [decide_eq_true_eq,beq_iff_eq];omega];exact Evt.pure _
  refine Evt.neg k11 ?_
  have hL:leafB k a b n room=false:=by unfold leafB;rw [if_neg k1,if_neg k2,if_neg k3,if_neg k4,if_neg k5,if_neg k9,if_neg k10,if_neg k11]
  rw [hL];exact Evt.pure _
 have aA:∀ (x5:Bool),(x5=true↔0≤a∧a<3)→Evt (fun q=>Ze.j0 q room x5 k a b n l4 l5) (leafB k a b n room):=fun x5 e5=>by
  refine Evt.step ?_;simp only [Ze.j0];by_cases hb:b ≥ 0
  ·exact Evt.pos hb (key _ _ e5 (by rw [decide_eq_true_eq];omega))
  ·exact Evt.neg hb (key _ _ e5 ⟨fun h=>(by cases h),fun h=>absurd h.1 hb⟩)
 unfold Ze.f;by_cases ha:a ≥ 0
 ·exact Evt.pos ha (aA _ (by rw [decide_eq_true_eq];omega))
 ·exact Evt.neg ha (aA _ ⟨fun h=>(by cases h),fun h=>absurd h.1 ha⟩)
theorem head67 {k a b n room:Int} {n4 n5:Nat} (h:k=6∨k=7):headP k a b n room n4 n5↔0≤a∧a<3∧b=0∧n=0∧(k=7→n5=0):=by
 rcases h with rfl|rfl <;> simp [headP]
theorem head8 {k a b n room:Int} {n4 n5:Nat} (h:k=8):headP k a b n room n4 n5↔0≤a∧a<2∧b=0∧n=0∧n5=0∧room = -1:=by
 subst h;simp [headP]
theorem head_else {k a b n room:Int} {n4 n5:Nat} (h:headP k a b n room n4 n5):k=6∨n5=0:=by
 rcases h with h|h|h|h|h|h|h|h|h|h <;> omega
theorem head_body {k a b n room:Int} {n4 n5:Nat} (h:headP k a b n room n4 n5):k=6∨k=7∨k=8∨n4=0:=by
 rcases h with h|h|h|h|h|h|h|h|h|h <;> omega
def LE (e:Nat) (l:List T):Prop:=∀ room:Int,-1≤room→Evt (fun q=>Yi.f q l (e:Int) room) (l.all (fun t=>Yd.st e t room))
theorem stmt0_ev (s:T) (room:Int):Evt (fun q=>Ye.f q s.f0 s.f1 s.f2 s.f3 s.f4 s.f5 0 room) false:=by
 refine Evt.step ?_;simp only [Ye.f];by_cases h6:s.f0=6
 ·refine Evt.pos h6 (Evt.step ?_);simp only [Ye.j0];exact Evt.pos de_ (Evt.pure _)
 ·refine Evt.neg h6 ?_;by_cases h5:(s.f5.length:Int) > 0
  ·refine Evt.pos h5 (Evt.step ?_);simp only [Ye.j0];exact Evt.pos sm_ (Evt.pure _)
  ·refine Evt.neg h5 (Evt.step ?_);simp only [Ye.j0];exact Evt.pos de_ (Evt.pure _)
set_option maxHeartbeats 2000000 in
theorem stmt_ev (e:Nat) (he:e≤3) (s:T) (room:Int) (hr:-1≤room) (H4:LE e s.f4) (H5:LE e s.f5):Evt (fun q=>Ye.f q s.f0 s.f1 s.f2 s.f3 s.f4 s.f5 ((e+1:Nat):Int) room) (Yd.st (e+1) s room):=by
 have hw:wrap64 (((e+1:Nat):Int) - 1)=(e:Int):=by rw [w64 om_ om_];omega
 have hd:decide (((e+1:Nat):Int)<1)=false:=df_ om_
 have inner:∀ (aB:Bool),(aB=true↔(s.f0=6∨s.f0=7))→(s.f0≠6→s.f5.length=0)→Evt (fun q=>Ye.j1 q ((e+1:Nat):Int) room s.f0 aB s.f0 s.f1 s.f2 s.f3 s.f4 s.f5) (Yd.st (e+1) s room):=fun aB hx h50=>by
  refine Evt.step ?_;simp only [Ye.j1,hw];by_cases hx2:aB=true
  ·have hk:=hx.1 hx2;refine Evt.pos hx2 ?_
   have hin:Yd.inr s.f0 s.f1 room=room:=by unfold Yd.inr;rw [if_neg om_]
   by_cases c1:s.f1 ≥ 0
   case neg=>rw [st_no (fun h=>c1 ((head67 hk).1 h).1)];exact Evt.neg c1 (Evt.pure _)
   refine Evt.pos c1 ?_;by_cases c2:s.f1<3
   case neg=>rw [st_no (fun h=>c2 ((head67 hk).1 h).2.1)];exact Evt.neg c2 (Evt.pure _)
   refine Evt.pos c2 ?_;by_cases c3:s.f2=0
   case neg=>rw [st_no (fun h=>c3 ((head67 hk).1 h).2.2.1)];exact Evt.neg c3 (Evt.pure _)
   refine Evt.pos c3 ?_;by_cases c4:s.f3=0
   case neg=>rw [st_no (fun h=>c4 ((head67 hk).1 h).2.2.2.1)];exact Evt.neg c4 (Evt.pure _)
   refine Evt.pos c4 ?_;rw [st_yes ((head67 hk).2 ⟨c1,c2,c3,c4,fun h7=>h50 om_⟩),hin];refine Evt.bind (H4 room hr) ?_
   cases s.f4.all (fun t=>Yd.st e t room)
   ·exact Evt.neg sm_ (Evt.pure _)
   ·exact Evt.pos rfl (Evt.bind (H5 room hr) (Evt.pure _))
  ·have hk:¬ (s.f0=6∨s.f0=7):=fun h=>hx2 (hx.2 h);have h5:s.f5.length=0:=h50 om_;refine Evt.neg hx2 ?_;by_cases c8:s.f0=8
   ·refine Evt.pos c8 ?_;by_cases c0:room<0
    case neg=>rw [st_no (fun h=>c0 (by have:=((head8 c8).1 h).2.2.2.2.2;omega))];exact Evt.neg c0 (Evt.pure _)
    refine Evt.pos c0 ?_;by_cases c1:s.f1 ≥ 0
    case neg=>rw [st_no (fun h=>c1 ((head8 c8).1 h).1)];exact Evt.neg c1 (Evt.pure _)
    refine Evt.pos c1 ?_;by_cases c2:s.f1<2
    case neg=>rw [st_no (fun h=>c2 ((head8 c8).1 h).2.1)];exact Evt.neg c2 (Evt.pure _)
    refine Evt.pos c2 ?_;by_cases c3:s.f2=0
    case neg=>rw [st_no (fun h=>c3 ((head8 c8).1 h).2.2.1)];exact Evt.neg c3 (Evt.pure _)
    refine Evt.pos c3 ?_;by_cases c4:s.f3=0
    case neg=>rw [st_no (fun h=>c4 ((head8 c8).1 h).2.2.2.1)];exact Evt.neg c4 (Evt.pure _)
    refine Evt.pos c4 ?_
    have hin:Yd.inr s.f0 s.f1 room=s.f1:=by unfold Yd.inr;rw [if_pos c8]
    rw [st_yes ((head8 c8).2 ⟨c1,c2,c3,c4,h5,om_⟩),hin,all_nil h5,Bool.and_true];exact Evt.bind (H4 s.f1 om_) (Evt.pure _)
   ·refine Evt.neg c8 ?_;by_cases c4:(s.f4.length:Int)=0
    case neg=>rw [st_no (fun h=>by have:=head_body h;omega)];exact Evt.neg c4 (Evt.pure _)
    refine Evt.pos c4 ?_
    have h4:s.f4.length=0:=om_
    have hst:Yd.st (e+1) s room=leafB s.f0 s.f1 s.f2 s.f3 room:=by
     rw [Bool.eq_iff_iff,st_iff,h4,h5,all_nil h4,all_nil h5,leafB_iff hr om_ om_ c8];simp
    rw [hst];exact Evt.bind (leaf_ev s.f0 s.f1 s.f2 s.f3 s.f4 s.f5 room) (Evt.pure _)
 refine Evt.step ?_;simp only [Ye.f,hd];by_cases h6:s.f0=6
 ·refine Evt.pos h6 (Evt.step ?_);simp only [Ye.j0];exact Evt.neg sm_ (Evt.pos h6 (inner _ (by simp [h6]) (fun h=>absurd h6 h)))
 ·refine Evt.neg h6 ?_;by_cases h5:(s.f5.length:Int) > 0
  ·refine Evt.pos h5 (Evt.step ?_);simp only [Ye.j0];rw [st_no (fun h=>by have:=head_else h;omega)];exact Evt.pos sm_ (Evt.pure _)
  ·refine Evt.neg h5 (Evt.step ?_);simp only [Ye.j0];exact Evt.neg sm_ (Evt.neg h6 (inner _ (by simp [h6]) (fun _=>om_)))
theorem list_ev {l:List T} (hl:l.length≤1048576) (D room:Int) (p:T→Bool) (each:∀ s ∈ l,Evt (fun q=>Ye.f q s.f0 s.f1 s.f2 s.f3 s.f4 s.f5 D room) (p s)):∀ (B A:List T),l=A ++ B→Evt (fun q=>Yi.l0 q l D room (A.length:Int)) (B.all p)
 |[],A,he=>by
  rw [List.append_nil] at he;subst he;refine Evt.step ?_;simp only [Yi.l0];exact Evt.neg om_ (Evt.pure _)
 |b :: B,A,he=>by
  have hlen:l.length=A.length+B.length+1:=by rw [he];simp;omega
  have hb:l.getD A.length z87=b:=by rw [he];simp [List.getD_eq_getElem?_getD]
  have hm:=each b (by rw [he];simp);refine Evt.step ?_;simp only [Yi.l0,Xe,Int.toNat_natCast,hb];refine Evt.pos om_ (Evt.pos om_ (Evt.bind hm ?_));rw [List.all_cons]
  cases p b
  ·exact Evt.neg sm_ (Evt.pure _)
  ·refine Evt.pos rfl ?_;rw [w64n A.length om_];have ih:=list_ev hl D room p each B (A ++ [b]) (by rw [he];simp);rw [List.length_append] at ih;exact ih
def Short:Nat→List T→Prop
 |0,l=>l.length≤1048576
 |d+1,l=>l.length≤1048576∧∀ s ∈ l,Short d s.f4∧Short d s.f5
theorem lists_ev:∀ (e:Nat),e≤3→∀ l,Short e l→LE e l
 |0,_,l,h=>fun room hr=>by
  refine Evt.step ?_;simp only [Yi.f];exact list_ev h 0 room (fun t=>Yd.st 0 t room) (fun s hs=>stmt0_ev s room) l [] rfl
 |e+1,he,l,h=>fun room hr=>by
  refine Evt.step ?_;simp only [Yi.f];exact list_ev h.1 _ room (fun t=>Yd.st (e+1) t room) (fun s hs=>stmt_ev e om_ s room hr (lists_ev e om_ _ (h.2 s hs).1) (lists_ev e om_ _ (h.2 s hs).2)) l [] rfl
theorem wr4 (a c d:Int):wrap64 (wrap64 (wrap64 (wrap64 a+1)+wrap64 c)+wrap64 d)=wrap64 (a+(1+c+d)):=by unfold wrap64;omega
def one (d:Nat) (s:T):Nat:=1+Xo.cnt d s.f4+Xo.cnt d s.f5
theorem many_loop (d:Nat) (hd:d≤3) {l:List T} (hl:l.length≤1048576) (each:∀ s ∈ l,Evt (fun q=>Xv.f q s.f4 (d:Int)) (wrap64 (Xo.cnt d s.f4:Int))∧Evt (fun q=>Xv.f q s.f5 (d:Int)) (wrap64 (Xo.cnt d s.f5:Int))) :
  ∀ (B A:List T) (acc:Nat),l=A ++ B→Evt (fun q=>Xv.l0 q l ((d+1:Nat):Int) (wrap64 (acc:Int)) (A.length:Int)) (wrap64 ((acc+(B.map (one d)).sum:Nat):Int))
 |[],A,acc,he=>by
  rw [List.append_nil] at he;subst he;refine Evt.step ?_;simp only [Xv.l0];refine Evt.neg om_ (Evt.step ?_);simp only [Xv.j1];exact Evt.neg sm_ (Evt.pure _)
 |b :: B,A,acc,he=>by
  have hlen:l.length=A.length+B.length+1:=by rw [he];simp;omega
  have hb:l.getD A.length z87=b:=by rw [he];simp [List.getD_eq_getElem?_getD]
  obtain ⟨e4,e5⟩:=each b (by rw [he];simp)
  have hw:wrap64 (((d+1:Nat):Int) - 1)=(d:Int):=by rw [w64 om_ om_];omega
  refine Evt.step ?_;simp only [Xv.l0];refine Evt.pos om_ (Evt.step ?_);simp only [Xv.j1,Xe,Int.toNat_natCast,hb,hw];refine Evt.pos sm_ (Evt.pos om_ (Evt.pos om_ (Evt.bind e4 (Evt.bind e5 ?_))));rw [w64n A.length om_,wr4];have ih:=many_loop d hd hl each B (A ++ [b]) (acc+one d b) (by rw [he];simp);rw [List.length_append] at ih;rw [List.map_cons,List.sum_cons,← Nat.add_assoc]
  have e:((acc:Int)+(1+(Xo.cnt d b.f4:Int)+(Xo.cnt d b.f5:Int)))=((acc+one d b:Nat):Int):=by unfold one;omega
  rw [e];exact ih
theorem many_ev:∀ (d:Nat),d≤3→∀ l,Short d l→Evt (fun q=>Xv.f q l (d:Int)) (wrap64 (Xo.cnt d l:Int))
 |0,_,l,h=>by
  have h0:wrap64 ((Xo.cnt 0 l:Nat):Int)=0:=by simp only [Xo.cnt];unfold wrap64;omega
  rw [h0];refine Evt.step ?_;simp only [Xv.f];refine Evt.step ?_;simp only [Xv.l0];by_cases hl:(0:Int)<(l.length:Int)
  ·refine Evt.pos hl (Evt.step ?_);simp only [Xv.j1];exact Evt.neg sm_ (Evt.pure _)
  ·refine Evt.neg hl (Evt.step ?_);simp only [Xv.j1];exact Evt.neg sm_ (Evt.pure _)
 |d+1,hd,l,h=>by
  refine Evt.step ?_;simp only [Xv.f]
  have:=many_loop d om_ h.1 (fun s hs=>⟨many_ev d om_ _ (h.2 s hs).1,many_ev d om_ _ (h.2 s hs).2⟩) l [] 0 rfl
  have h0:wrap64 ((0:Nat):Int)=0:=by unfold wrap64;omega
  rw [h0,Nat.zero_add] at this;exact this
def okB (l:List T):Bool:=l.all (fun t=>Yd.st 3 t (-1)) && decide (wrap64 (Xo.cnt 3 l:Int)≤14)
theorem stmtsOk_both (l:List T) (h:Short 3 l):Evt (fun q=>spec_StmtsOk.f q l) (okB l)∧impl_StmtsOk.f l=some (okB l):=by
 refine ⟨?_,rfl⟩;unfold spec_StmtsOk.f okB;refine Evt.bind (lists_ev 3 om_ l h (-1) om_) ?_
 cases l.all (fun t=>Yd.st 3 t (-1))
 ·exact Evt.neg sm_ (Evt.pure _)
 ·refine Evt.pos rfl (Evt.bind (many_ev 3 om_ l h) ?_);rw [Bool.true_and];exact Evt.pure _
end Stmts
end Go.Proofs.YtlhogkfmdnpmkaaGreat.Pure
namespace Go.Proofs.YtlhogkfmdnpmkaaGreat.Mean
open RowKit GMarks YtlhogkfmdnpmkaaGreatW.PrintWords YtlhogkfmdnpmkaaGreatW.PrintLast YtlhogkfmdnpmkaaGreatW.PrintMore Evt YtlhogkfmdnpmkaaGreat.Pure
def shortB:Nat→List T→Bool
 |0,l=>decide (l.length≤1048576)
 |d+1,l=>decide (l.length≤1048576) && l.all (fun s=>shortB d s.f4 && shortB d s.f5)
theorem short_of:∀ {d:Nat} {l:List T},shortB d l=true→Stmts.Short d l
 |0,l,h=>by
  unfold shortB at h;show l.length≤1048576
  exact od_ h
 |d+1,l,h=>by
  unfold shortB at h;rw [Bool.and_eq_true,List.all_eq_true] at h;refine ⟨od_ h.1,fun s hs=>?_⟩;have h2:=h.2 s hs;rw [Bool.and_eq_true] at h2;exact ⟨short_of h2.1,short_of h2.2⟩
def tameB (l0:List (List T)):Bool:=l0.all (fun x=>shortB 3 x && decide (Xo.cnt 3 x<9223372036854775808)) && decide (l0.length≤1048576)
theorem tame_of {l0:List (List T)} (h:tameB l0=true):(∀ x ∈ l0,Stmts.Short 3 x)∧l0.length≤1048576∧∀ x ∈ l0,Xo.cnt 3 x<9223372036854775808:=by
 unfold tameB at h;rw [Bool.and_eq_true,List.all_eq_true] at h;refine ⟨fun x hx=>?_,od_ h.2,fun x hx=>?_⟩
 ·have h1:=h.1 x hx;rw [Bool.and_eq_true] at h1;exact short_of h1.1
 ·have h1:=h.1 x hx;rw [Bool.and_eq_true] at h1;exact od_ h1.2
theorem rprog_loop {l0:List (List T)} (h:∀ x ∈ l0,Stmts.Short 3 x) (hl:l0.length≤1048576):∀ (n i:Nat),i+n=l0.length→Evt (fun q=>Uh.l0 q l0 (i:Int)) (decide (1≤l0.length) && decide (l0.length≤3) && (l0.drop i).all okList)
 |0,i,e=>by
  refine Evt.step ?_;simp only [Uh.l0];refine Evt.neg om_ ?_;rw [List.drop_eq_nil_of_le om_,List.all_nil,Bool.and_true];by_cases h1:(l0.length:Int) ≥ 1
  ·refine Evt.pos h1 ((Evt.pure _).congr (fun _=>?_));have e1:decide (1≤l0.length)=true:=dt_ om_;rw [e1,Bool.true_and];congr 1
   exact decide_eq_decide.2 om_
  ·refine Evt.neg h1 ((Evt.pure _).congr (fun _=>?_));have e1:decide (1≤l0.length)=false:=df_ om_;rw [e1];rfl
 |n+1,i,e=>by
  have hi:i<l0.length:=om_
  refine Evt.step ?_;simp only [Uh.l0];refine Evt.pos om_ (Evt.pos om_ ?_)
  have er:rd_L4 l0 (i:Int)=l0[i]:=by unfold rd_L4;simp [List.getD_eq_getElem?_getD,hi]
  have ih:=rprog_loop h hl n (i+1) om_
  have ew:wrap64 ((i:Int)+1)=((i+1:Nat):Int):=by unfold wrap64;omega
  rw [List.drop_eq_getElem_cons hi,List.all_cons,ew];refine Evt.bind (v:=okList l0[i]) ?_ ?_
  ·rw [er];exact (Stmts.stmtsOk_both l0[i] (h _ (List.getElem_mem hi))).1
  ·cases hk:okList l0[i] with
   |true=>refine Evt.pos rfl ?_;rw [Bool.true_and];exact ih
   |false=>refine Evt.neg sm_ ((Evt.pure _).congr (fun _=>?_));simp
theorem rprog_ev {l0:List (List T)} (h:∀ x ∈ l0,Stmts.Short 3 x) (hl:l0.length≤1048576):Evt (fun q=>Uh.f q l0) (progOk l0):=by
 have:=rprog_loop h hl l0.length 0 om_
 rw [List.drop_zero] at this;exact this
theorem rprog_do {l0:List (List T)} (h:∀ x ∈ l0,Stmts.Short 3 x) (hl:l0.length≤1048576) (A0:Option Addr) (c0:Nat) (w:World) (hr0:Kd.C (Kd.slice 87 k87) w A0 l0.length l0) (hc0:l0.length≤c0) :
  Calls Tryz.prog 29 #[.slice A0 l0.length c0] w fun e w'=>e=.returned (.bool (progOk l0))∧Below w.heap.size w w':=by
 obtain ⟨k,hk⟩:=(rprog_ev h hl).get;exact Uh.calls k A0 c0 l0 (progOk l0) w hr0 hc0 hk
end Go.Proofs.YtlhogkfmdnpmkaaGreat.Mean
