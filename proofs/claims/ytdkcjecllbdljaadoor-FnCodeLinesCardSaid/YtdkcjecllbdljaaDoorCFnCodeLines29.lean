import Derived.Test.YtdkcjecllbdljaaDoorCFnCodeLines22
namespace Go.Proofs.YtdkcjecllbdljaaDoor.GCode
open Go.RowKit Go.Proofs.YtdkcjecllbdljaaDoorW.PrintWords Go.Proofs.YtdkcjecllbdljaaDoorW.PrintLast Go.Proofs.YtdkcjecllbdljaaDoorW.PrintMore
attribute [local go_sem] Zy Ua Uo Uq Zp Zq Zz Ub
set_option linter.unusedVariables false
set_option linter.unusedSimpArgs false
mutual
def Zk.j0:Nat→Int→Bool→Int→Int→Int→Int→Option (List Int)
 |0,_,_,_,_,_,_=>none
 |k+1,x4,x5,x168000,x168001,x168002,x168003=>if x5=true then (some (([x168001,x168003]:List Int))) else (if x4=2 then (some (([x168001,x168002,x168003]:List Int))) else (if x4=3 then (Zk.j1 k x4 (x4 == 3) x168000 x168001 x168002 x168003) else (Zk.j1 k x4 (x4 == 4) x168000 x168001 x168002 x168003)))
def Zk.j1:Nat→Int→Bool→Int→Int→Int→Int→Option (List Int)
 |0,_,_,_,_,_,_=>none
 |k+1,x4,x22,x168000,x168001,x168002,x168003=>if x22=true then (some (([x168001,x168002]:List Int))) else (if x4=7 then (some (([x168003]:List Int))) else (if x4=12 then (some (([]:List Int))) else (if x4=13 then (some (([]:List Int))) else (some (([x168001]:List Int))))))
end
def Zk.f (k:Nat) (a0_0:Int) (a0_1:Int) (a0_2:Int) (a0_3:Int):Option (List Int):=if a0_0=1 then (Zk.j0 k a0_0 (a0_0 == 1) a0_0 a0_1 a0_2 a0_3) else (Zk.j0 k a0_0 (a0_0 == 6) a0_0 a0_1 a0_2 a0_3)
set_option maxHeartbeats 8000000 in
set_option maxRecDepth 100000 in
theorem Zk.calls (k:Nat) (a0_0:Int) (a0_1:Int) (a0_2:Int) (a0_3:Int) (r:List Int) (w:World) (h:Zk.f k a0_0 a0_1 a0_2 a0_3=some r) :
  Calls Tryd.prog 13 #[.agg #[.int .i64 a0_0,.int .i64 a0_1,.int .i64 a0_2,.int .i64 a0_3]] w fun e w'=>∃ v0_:Value,e=.returned (v0_)∧Kd.R (Kd.int .i64) 3 w' w.heap.size (fun _=>True) v0_ r∧Below w.heap.size w w':=by
 have hu36:=Tryd.underlying36;have HB:=Xa.mk (Below.refl w.heap.size w);have H:(if a0_0=1 then (Zk.j0 k a0_0 (a0_0 == 1) a0_0 a0_1 a0_2 a0_3) else (Zk.j0 k a0_0 (a0_0 == 6) a0_0 a0_1 a0_2 a0_3))=some r:=h;clear h;have HC2:=Xa.mk H;clear H
 go_enter Tryd.func13,Tryd.ntmps13
 go_upto_if 5 with (first|((with_reducible refine Xq (N:=1) rfl ?_);refine Yq ?hg (N:=1) ?hd (cs:=#[.int .i64 a0_0,.int .i64 a0_1,.int .i64 a0_2,.int .i64 a0_3]) (t:=36) ?hr ?_;(case hd=>rfl);(case hg=>rfl);(case hr=>first|(go_simp;done)|(go_simp;rfl));intro gb167 hg w3 hbox hb;have n0_:=Xa.mk (Xc (bl_ HB) hb);have n1_:=Xa.mk (hbox);have n2_:=Xa.mk ((by rw [hg];exact (Xd (bl_ HB)):w.heap.size≤gb167));have n3_:=Xa.mk ((by rw [hg];exact (Xd (bl_ HB)):w.heap.size≤gb167));clear HB;have HB:=n0_;have BK167:=n1_;have GW167:=n2_;have GE167:=n3_;clear n0_ n1_ n2_ n3_;clear hb hbox hg;obtain ⟨hcz4_0,hcz4_1,hcz4_2,hcz4_3⟩:=Um BK167.out;obtain ⟨hfz4_0,hfz4_1,hfz4_2,hfz4_3⟩:=Un BK167.out))
 (try simp only [Act.put,List.setIfInBounds_toArray,List.set_cons_zero,List.set_cons_succ])
 go_cut [5] (fun v5 wc=>∃ (kq:Nat) (x5_1:Bool),v5=.bool x5_1∧Xa (Zk.j0 kq a0_0 x5_1 a0_0 a0_1 a0_2 a0_3=some r)∧Xa (kq≤k)∧Xa (wc.heap[gb167]?=some (.cells #[.int .i64 a0_0,.int .i64 a0_1,.int .i64 a0_2,.int .i64 a0_3] 36 (0,0)))∧Xa (Below w.heap.size w wc))
 case first=>
  have H:=HC2.out;clear HC2;by_cases c5:a0_0=1
  ·rw [if_pos c5] at H;have c5b0:(a0_0 == 1)=true:=beq_iff_eq.mpr c5;have c5b1:(a0_0 != 1)=false:=bne_eq_false_iff_eq.mpr c5;clear c5
   (first|rw [c5b0]|(simp only [Xt,Xu];rw [c5b0])|skip)
   have H':=Xa.mk H;clear H;go_wp2
   go_meet
   case rel=>exact ⟨_,((a0_0 == 1)),(by first|rfl|(simp;done)|(simp [*];done)),H',⟨by first|omega|exact Nat.le_refl _⟩,⟨ba_ BK167⟩,⟨bl_ HB⟩⟩
  ·rw [if_neg c5] at H;have c5b0:(a0_0 == 1)=false:=beq_eq_false_iff_ne.mpr c5;have c5b1:(a0_0 != 1)=true:=bne_iff_ne.mpr c5
   (first|rw [c5b0]|(simp only [Xt,Xu];rw [c5b0])|skip)
   have H':=Xa.mk H;clear H;go_wp2
   go_meet
   case rel=>exact ⟨_,((a0_0 == 6)),(by first|rfl|(simp;done)|(simp [*];done)),H',⟨by first|omega|exact Nat.le_refl _⟩,⟨ba_ BK167⟩,⟨bl_ HB⟩⟩
 case rest=>
  clear HC2
  try clear c1
  try clear p2
  try clear c5
  try clear c5b0
  try clear c5b1
  try clear hcz4_0
  try clear hcz4_1
  try clear hcz4_2
  try clear hcz4_3
  try clear hfz4_0
  try clear hfz4_1
  try clear hfz4_2
  try clear hfz4_3
  obtain ⟨kq,x5_1,rfl,HA,HJ1,BK167,HB⟩:=hcut
  cases kq with
  |zero=>exact absurd HA.out (by simp [Zk.j0])
  |succ kj1=>
   have H:=HA.out;clear HA;simp only [Zk.j0] at H;by_cases c6:x5_1=true
   ·subst c6
    have H1:(some (([a0_1,a0_3]:List Int)))=some r:=by rw [if_pos rfl] at H;exact H
    clear H;have H:=H1;clear H1;obtain ⟨y168,hy168⟩:∃ y_:List Int,y_=(([a0_1,a0_3]:List Int)):=⟨_,rfl⟩
    replace H:(some y168)=some r:=by subst hy168;first|with_reducible exact H|(have z:=(Option.bind_some _ _).symm.trans H;with_reducible exact z)|exact H
    have Ny168:=Xa.mk hy168;clear hy168;obtain rfl:=Option.some.inj H;obtain ⟨hcz7_0,hcz7_1,hcz7_2,hcz7_3⟩:=Um BK167.out;obtain ⟨hfz7_0,hfz7_1,hfz7_2,hfz7_3⟩:=Un BK167.out;go_wp2_with (first|((with_reducible refine Xq (N:=12) rfl ?_);refine Kd.Ug (Kd.int .i64) _ 3 ?hg (N:=12) ?hd (xs:=([a0_1,a0_3]:List Int)) (inner:=[.int .i64 a0_1,.int .i64 a0_3]) (ok:=fun _=>True) (okp:=fun _=>True) ?hr ?hp (fun _ hk=>hk) trivial (Below.refl _ _) (Nat.le_refl _) (by simp) ?_;(case hd=>rfl);(case hg=>rfl);(case hr=>first|(go_simp;done)|(go_simp;rfl));(case hp=>exact (Xl.one (show Kd.M (Kd.int .i64) _ _ _ a0_1 [.int .i64 a0_1] from rfl) (Xl.one (show Kd.M (Kd.int .i64) _ _ _ a0_3 [.int .i64 a0_3] from rfl) (Xl.none _ _))));intro v169 w8 ho9 hb hg_ hnew_;clear hg_ hnew_;(first|rw [← Ny168.out] at ho9|(simp only [Int.reduceToNat] at ho9;rw [← Ny168.out] at ho9));have n0_:=Xa.mk (Kd.Ye ho9 (Xd (bl_ HB)));have n1_:=Xa.mk (Ym (g:=gb167) (o:=.cells #[.int .i64 a0_0,.int .i64 a0_1,.int .i64 a0_2,.int .i64 a0_3] 36 (0,0)) (ba_ BK167) hb);have n2_:=Xa.mk (Xc (bl_ HB) hb);clear BK167;clear HB;have HO170:=n0_;have BK167:=n1_;have HB:=n2_;clear n0_ n1_ n2_;clear hb ho9))
    go_ret
    exact ⟨_,rf_,Kd.ra_ (HO170.out),bl_ HB⟩
   ·replace c6:=Bool.eq_false_iff.mpr c6;subst c6
    have H1:(if a0_0=2 then (some (([a0_1,a0_2,a0_3]:List Int))) else (if a0_0=3 then (Zk.j1 kj1 a0_0 (a0_0 == 3) a0_0 a0_1 a0_2 a0_3) else (Zk.j1 kj1 a0_0 (a0_0 == 4) a0_0 a0_1 a0_2 a0_3)))=some r:=by rw [if_neg (show ¬ (false=true) by decide)] at H;exact H
    clear H;have H:=H1;clear H1;by_cases c10:a0_0=2
    ·rw [if_pos c10] at H;have c10b0:(a0_0 == 2)=true:=beq_iff_eq.mpr c10;have c10b1:(a0_0 != 2)=false:=bne_eq_false_iff_eq.mpr c10;clear c10;obtain ⟨y171,hy171⟩:∃ y_:List Int,y_=(([a0_1,a0_2,a0_3]:List Int)):=⟨_,rfl⟩
     replace H:(some y171)=some r:=by subst hy171;first|with_reducible exact H|(have z:=(Option.bind_some _ _).symm.trans H;with_reducible exact z)|exact H
     have Ny171:=Xa.mk hy171;clear hy171;obtain rfl:=Option.some.inj H;obtain ⟨hcz11_0,hcz11_1,hcz11_2,hcz11_3⟩:=Um BK167.out;obtain ⟨hfz11_0,hfz11_1,hfz11_2,hfz11_3⟩:=Un BK167.out;go_wp2_with (first|((with_reducible refine Xq (N:=21) rfl ?_);refine Kd.Ug (Kd.int .i64) _ 3 ?hg (N:=21) ?hd (xs:=([a0_1,a0_2,a0_3]:List Int)) (inner:=[.int .i64 a0_1,.int .i64 a0_2,.int .i64 a0_3]) (ok:=fun _=>True) (okp:=fun _=>True) ?hr ?hp (fun _ hk=>hk) trivial (Below.refl _ _) (Nat.le_refl _) (by simp) ?_;(case hd=>rfl);(case hg=>rfl);(case hr=>first|(go_simp;done)|(go_simp;rfl));(case hp=>exact (Xl.one (show Kd.M (Kd.int .i64) _ _ _ a0_1 [.int .i64 a0_1] from rfl) (Xl.one (show Kd.M (Kd.int .i64) _ _ _ a0_2 [.int .i64 a0_2] from rfl) (Xl.one (show Kd.M (Kd.int .i64) _ _ _ a0_3 [.int .i64 a0_3] from rfl) (Xl.none _ _)))));intro v172 w12 ho13 hb hg_ hnew_;clear hg_ hnew_;(first|rw [← Ny171.out] at ho13|(simp only [Int.reduceToNat] at ho13;rw [← Ny171.out] at ho13));have n0_:=Xa.mk (Kd.Ye ho13 (Xd (bl_ HB)));have n1_:=Xa.mk (Ym (g:=gb167) (o:=.cells #[.int .i64 a0_0,.int .i64 a0_1,.int .i64 a0_2,.int .i64 a0_3] 36 (0,0)) (ba_ BK167) hb);have n2_:=Xa.mk (Xc (bl_ HB) hb);clear BK167;clear HB;have HO173:=n0_;have BK167:=n1_;have HB:=n2_;clear n0_ n1_ n2_;clear hb ho13))
     go_ret
     exact ⟨_,rf_,Kd.ra_ (HO173.out),bl_ HB⟩
    ·rw [if_neg c10] at H;have c10b0:(a0_0 == 2)=false:=beq_eq_false_iff_ne.mpr c10;have c10b1:(a0_0 != 2)=true:=bne_iff_ne.mpr c10;have HC14:=Xa.mk H;clear H
     go_upto_if 22 with (fail)
     go_cut [22] (fun v22 wc=>∃ (kq:Nat) (x22_13:Bool),v22=.bool x22_13∧Xa (Zk.j1 kq a0_0 x22_13 a0_0 a0_1 a0_2 a0_3=some r)∧Xa (kq≤kj1)∧Xa (wc.heap[gb167]?=some (.cells #[.int .i64 a0_0,.int .i64 a0_1,.int .i64 a0_2,.int .i64 a0_3] 36 (0,0)))∧Xa (Below w.heap.size w wc))
     case first=>
      have H:=HC14.out;clear HC14;by_cases c15:a0_0=3
      ·rw [if_pos c15] at H;have c15b0:(a0_0 == 3)=true:=beq_iff_eq.mpr c15;have c15b1:(a0_0 != 3)=false:=bne_eq_false_iff_eq.mpr c15;clear c15
       (first|rw [c15b0]|(simp only [Xt,Xu];rw [c15b0])|skip)
       have H':=Xa.mk H;clear H;go_wp2
       go_meet
       case rel=>exact ⟨_,((a0_0 == 3)),(by first|rfl|(simp;done)|(simp [*];done)),H',⟨by have:=HJ1.out;first|omega|exact Nat.le_refl _⟩,⟨ba_ BK167⟩,⟨bl_ HB⟩⟩
      ·rw [if_neg c15] at H;have c15b0:(a0_0 == 3)=false:=beq_eq_false_iff_ne.mpr c15;have c15b1:(a0_0 != 3)=true:=bne_iff_ne.mpr c15
       (first|rw [c15b0]|(simp only [Xt,Xu];rw [c15b0])|skip)
       have H':=Xa.mk H;clear H;go_wp2
       go_meet
       case rel=>exact ⟨_,((a0_0 == 4)),(by first|rfl|(simp;done)|(simp [*];done)),H',⟨by have:=HJ1.out;first|omega|exact Nat.le_refl _⟩,⟨ba_ BK167⟩,⟨bl_ HB⟩⟩
     case rest=>
      clear HC14
      try clear c1
      try clear p2
      try clear c5
      try clear c5b0
      try clear c5b1
      try clear c6
      try clear c10
      try clear c10b0
      try clear c10b1
      try clear c13
      try clear c15
      try clear c15b0
      try clear c15b1
      try clear hcz11_0
      try clear hcz11_1
      try clear hcz11_2
      try clear hcz11_3
      try clear hcz4_0
      try clear hcz4_1
      try clear hcz4_2
      try clear hcz4_3
      try clear hcz7_0
      try clear hcz7_1
      try clear hcz7_2
      try clear hcz7_3
      try clear hfz11_0
      try clear hfz11_1
      try clear hfz11_2
      try clear hfz11_3
      try clear hfz4_0
      try clear hfz4_1
      try clear hfz4_2
      try clear hfz4_3
      try clear hfz7_0
      try clear hfz7_1
      try clear hfz7_2
      try clear hfz7_3
      try clear p2
      obtain ⟨kq,x22_13,rfl,HA,HJ13,BK167,HB⟩:=hcut
      cases kq with
      |zero=>exact absurd HA.out (by simp [Zk.j1])
      |succ kj13=>
       have H:=HA.out;clear HA;simp only [Zk.j1] at H;by_cases c16:x22_13=true
       ·subst c16
        have H1:(some (([a0_1,a0_2]:List Int)))=some r:=by rw [if_pos rfl] at H;exact H
        clear H;have H:=H1;clear H1;obtain ⟨y174,hy174⟩:∃ y_:List Int,y_=(([a0_1,a0_2]:List Int)):=⟨_,rfl⟩
        replace H:(some y174)=some r:=by subst hy174;first|with_reducible exact H|(have z:=(Option.bind_some _ _).symm.trans H;with_reducible exact z)|exact H
        have Ny174:=Xa.mk hy174;clear hy174;obtain rfl:=Option.some.inj H;obtain ⟨hcz17_0,hcz17_1,hcz17_2,hcz17_3⟩:=Um BK167.out;obtain ⟨hfz17_0,hfz17_1,hfz17_2,hfz17_3⟩:=Un BK167.out;go_wp2_with (first|((with_reducible refine Xq (N:=29) rfl ?_);refine Kd.Ug (Kd.int .i64) _ 3 ?hg (N:=29) ?hd (xs:=([a0_1,a0_2]:List Int)) (inner:=[.int .i64 a0_1,.int .i64 a0_2]) (ok:=fun _=>True) (okp:=fun _=>True) ?hr ?hp (fun _ hk=>hk) trivial (Below.refl _ _) (Nat.le_refl _) (by simp) ?_;(case hd=>rfl);(case hg=>rfl);(case hr=>first|(go_simp;done)|(go_simp;rfl));(case hp=>exact (Xl.one (show Kd.M (Kd.int .i64) _ _ _ a0_1 [.int .i64 a0_1] from rfl) (Xl.one (show Kd.M (Kd.int .i64) _ _ _ a0_2 [.int .i64 a0_2] from rfl) (Xl.none _ _))));intro v175 w18 ho19 hb hg_ hnew_;clear hg_ hnew_;(first|rw [← Ny174.out] at ho19|(simp only [Int.reduceToNat] at ho19;rw [← Ny174.out] at ho19));have n0_:=Xa.mk (Kd.Ye ho19 (Xd (bl_ HB)));have n1_:=Xa.mk (Ym (g:=gb167) (o:=.cells #[.int .i64 a0_0,.int .i64 a0_1,.int .i64 a0_2,.int .i64 a0_3] 36 (0,0)) (ba_ BK167) hb);have n2_:=Xa.mk (Xc (bl_ HB) hb);clear BK167;clear HB;have HO176:=n0_;have BK167:=n1_;have HB:=n2_;clear n0_ n1_ n2_;clear hb ho19))
        go_ret
        exact ⟨_,rf_,Kd.ra_ (HO176.out),bl_ HB⟩
       ·replace c16:=Bool.eq_false_iff.mpr c16;subst c16
        have H1:(if a0_0=7 then (some (([a0_3]:List Int))) else (if a0_0=12 then (some (([]:List Int))) else (if a0_0=13 then (some (([]:List Int))) else (some (([a0_1]:List Int))))))=some r:=by rw [if_neg (show ¬ (false=true) by decide)] at H;exact H
        clear H;have H:=H1;clear H1;by_cases c20:a0_0=7
        ·rw [if_pos c20] at H;have c20b0:(a0_0 == 7)=true:=beq_iff_eq.mpr c20;have c20b1:(a0_0 != 7)=false:=bne_eq_false_iff_eq.mpr c20;clear c20;obtain ⟨y177,hy177⟩:∃ y_:List Int,y_=(([a0_3]:List Int)):=⟨_,rfl⟩
         replace H:(some y177)=some r:=by subst hy177;first|with_reducible exact H|(have z:=(Option.bind_some _ _).symm.trans H;with_reducible exact z)|exact H
         have Ny177:=Xa.mk hy177;clear hy177;obtain rfl:=Option.some.inj H;obtain ⟨hcz21_0,hcz21_1,hcz21_2,hcz21_3⟩:=Um BK167.out;obtain ⟨hfz21_0,hfz21_1,hfz21_2,hfz21_3⟩:=Un BK167.out;go_wp2_with (first|((with_reducible refine Xq (N:=34) rfl ?_);refine Kd.Ug (Kd.int .i64) _ 3 ?hg (N:=34) ?hd (xs:=([a0_3]:List Int)) (inner:=[.int .i64 a0_3]) (ok:=fun _=>True) (okp:=fun _=>True) ?hr ?hp (fun _ hk=>hk) trivial (Below.refl _ _) (Nat.le_refl _) (by simp) ?_;(case hd=>rfl);(case hg=>rfl);(case hr=>first|(go_simp;done)|(go_simp;rfl));(case hp=>exact (Xl.one (show Kd.M (Kd.int .i64) _ _ _ a0_3 [.int .i64 a0_3] from rfl) (Xl.none _ _)));intro v178 w22 ho23 hb hg_ hnew_;clear hg_ hnew_;(first|rw [← Ny177.out] at ho23|(simp only [Int.reduceToNat] at ho23;rw [← Ny177.out] at ho23));have n0_:=Xa.mk (Kd.Ye ho23 (Xd (bl_ HB)));have n1_:=Xa.mk (Ym (g:=gb167) (o:=.cells #[.int .i64 a0_0,.int .i64 a0_1,.int .i64 a0_2,.int .i64 a0_3] 36 (0,0)) (ba_ BK167) hb);have n2_:=Xa.mk (Xc (bl_ HB) hb);clear BK167;clear HB;have HO179:=n0_;have BK167:=n1_;have HB:=n2_;clear n0_ n1_ n2_;clear hb ho23))
         go_ret
         exact ⟨_,rf_,Kd.ra_ (HO179.out),bl_ HB⟩
        ·rw [if_neg c20] at H;have c20b0:(a0_0 == 7)=false:=beq_eq_false_iff_ne.mpr c20;have c20b1:(a0_0 != 7)=true:=bne_iff_ne.mpr c20;by_cases c24:a0_0=12
         ·rw [if_pos c24] at H;have c24b0:(a0_0 == 12)=true:=beq_iff_eq.mpr c24;have c24b1:(a0_0 != 12)=false:=bne_eq_false_iff_eq.mpr c24;clear c24;obtain ⟨y180,hy180⟩:∃ y_:List Int,y_=(([]:List Int)):=⟨_,rfl⟩
          replace H:(some y180)=some r:=by subst hy180;first|with_reducible exact H|(have z:=(Option.bind_some _ _).symm.trans H;with_reducible exact z)|exact H
          have Ny180:=Xa.mk hy180;clear hy180;obtain rfl:=Option.some.inj H;go_wp2_with (first|((with_reducible refine Xq (N:=38) rfl ?_);refine Kd.Ug (Kd.int .i64) _ 3 ?hg (N:=38) ?hd (xs:=([]:List Int)) (inner:=[]) (ok:=fun _=>True) (okp:=fun _=>True) ?hr ?hp (fun _ hk=>hk) trivial (Below.refl _ _) (Nat.le_refl _) (by simp) ?_;(case hd=>rfl);(case hg=>rfl);(case hr=>first|(go_simp;done)|(go_simp;rfl));(case hp=>exact (Xl.none _ _));intro v181 w25 ho26 hb hg_ hnew_;clear hg_ hnew_;(first|rw [← Ny180.out] at ho26|(simp only [Int.reduceToNat] at ho26;rw [← Ny180.out] at ho26));have n0_:=Xa.mk (Kd.Ye ho26 (Xd (bl_ HB)));have n1_:=Xa.mk (Ym (g:=gb167) (o:=.cells #[.int .i64 a0_0,.int .i64 a0_1,.int .i64 a0_2,.int .i64 a0_3] 36 (0,0)) (ba_ BK167) hb);have n2_:=Xa.mk (Xc (bl_ HB) hb);clear BK167;clear HB;have HO182:=n0_;have BK167:=n1_;have HB:=n2_;clear n0_ n1_ n2_;clear hb ho26))
          go_ret
          exact ⟨_,rf_,Kd.ra_ (HO182.out),bl_ HB⟩
         ·rw [if_neg c24] at H;have c24b0:(a0_0 == 12)=false:=beq_eq_false_iff_ne.mpr c24;have c24b1:(a0_0 != 12)=true:=bne_iff_ne.mpr c24;by_cases c27:a0_0=13
          ·rw [if_pos c27] at H;have c27b0:(a0_0 == 13)=true:=beq_iff_eq.mpr c27;have c27b1:(a0_0 != 13)=false:=bne_eq_false_iff_eq.mpr c27;clear c27;obtain ⟨y183,hy183⟩:∃ y_:List Int,y_=(([]:List Int)):=⟨_,rfl⟩
           replace H:(some y183)=some r:=by subst hy183;first|with_reducible exact H|(have z:=(Option.bind_some _ _).symm.trans H;with_reducible exact z)|exact H
           have Ny183:=Xa.mk hy183;clear hy183;obtain rfl:=Option.some.inj H;go_wp2_with (first|((with_reducible refine Xq (N:=38) rfl ?_);refine Kd.Ug (Kd.int .i64) _ 3 ?hg (N:=38) ?hd (xs:=([]:List Int)) (inner:=[]) (ok:=fun _=>True) (okp:=fun _=>True) ?hr ?hp (fun _ hk=>hk) trivial (Below.refl _ _) (Nat.le_refl _) (by simp) ?_;(case hd=>rfl);(case hg=>rfl);(case hr=>first|(go_simp;done)|(go_simp;rfl));(case hp=>exact (Xl.none _ _));intro v184 w28 ho29 hb hg_ hnew_;clear hg_ hnew_;(first|rw [← Ny183.out] at ho29|(simp only [Int.reduceToNat] at ho29;rw [← Ny183.out] at ho29));have n0_:=Xa.mk (Kd.Ye ho29 (Xd (bl_ HB)));have n1_:=Xa.mk (Ym (g:=gb167) (o:=.cells #[.int .i64 a0_0,.int .i64 a0_1,.int .i64 a0_2,.int .i64 a0_3] 36 (0,0)) (ba_ BK167) hb);have n2_:=Xa.mk (Xc (bl_ HB) hb);clear BK167;clear HB;have HO185:=n0_;have BK167:=n1_;have HB:=n2_;clear n0_ n1_ n2_;clear hb ho29))
           go_ret
           exact ⟨_,rf_,Kd.ra_ (HO185.out),bl_ HB⟩
          ·rw [if_neg c27] at H;have c27b0:(a0_0 == 13)=false:=beq_eq_false_iff_ne.mpr c27;have c27b1:(a0_0 != 13)=true:=bne_iff_ne.mpr c27;obtain ⟨y186,hy186⟩:∃ y_:List Int,y_=(([a0_1]:List Int)):=⟨_,rfl⟩
           replace H:(some y186)=some r:=by subst hy186;first|with_reducible exact H|(have z:=(Option.bind_some _ _).symm.trans H;with_reducible exact z)|exact H
           have Ny186:=Xa.mk hy186;clear hy186;obtain rfl:=Option.some.inj H;obtain ⟨hcz30_0,hcz30_1,hcz30_2,hcz30_3⟩:=Um BK167.out;obtain ⟨hfz30_0,hfz30_1,hfz30_2,hfz30_3⟩:=Un BK167.out;go_wp2_with (first|((with_reducible refine Xq (N:=41) rfl ?_);refine Kd.Ug (Kd.int .i64) _ 3 ?hg (N:=41) ?hd (xs:=([a0_1]:List Int)) (inner:=[.int .i64 a0_1]) (ok:=fun _=>True) (okp:=fun _=>True) ?hr ?hp (fun _ hk=>hk) trivial (Below.refl _ _) (Nat.le_refl _) (by simp) ?_;(case hd=>rfl);(case hg=>rfl);(case hr=>first|(go_simp;done)|(go_simp;rfl));(case hp=>exact (Xl.one (show Kd.M (Kd.int .i64) _ _ _ a0_1 [.int .i64 a0_1] from rfl) (Xl.none _ _)));intro v187 w31 ho32 hb hg_ hnew_;clear hg_ hnew_;(first|rw [← Ny186.out] at ho32|(simp only [Int.reduceToNat] at ho32;rw [← Ny186.out] at ho32));have n0_:=Xa.mk (Kd.Ye ho32 (Xd (bl_ HB)));have n1_:=Xa.mk (Ym (g:=gb167) (o:=.cells #[.int .i64 a0_0,.int .i64 a0_1,.int .i64 a0_2,.int .i64 a0_3] 36 (0,0)) (ba_ BK167) hb);have n2_:=Xa.mk (Xc (bl_ HB) hb);clear BK167;clear HB;have HO188:=n0_;have BK167:=n1_;have HB:=n2_;clear n0_ n1_ n2_;clear hb ho32))
           go_ret
           exact ⟨_,rf_,Kd.ra_ (HO188.out),bl_ HB⟩
mutual
def Zj.l0:Nat→Int→ByteArray→Option (ByteArray)
 |0,_,_=>none
 |k+1,x0,x3=>if x0 > 9 then ((some (([(wrap64 (48+(Int.tmod x0 10))) % 256]:List Int):List Int)).bind fun y190=>(if (strOfNums y190).size+x3.size≤9223372036854775807 then (Zj.l0 k (wrap64 (Int.tdiv x0 10)) ((strOfNums y190) ++ x3)) else (none))) else ((some (([(wrap64 (48+x0)) % 256]:List Int):List Int)).bind fun y193=>(if (strOfNums y193).size+x3.size≤9223372036854775807 then (some ((strOfNums y193) ++ x3)) else (none)))
def Zj.f:Nat→Int→Option (ByteArray)
 |0,_=>none
 |k+1,a0=>if a0<(-9223372036854775807) then (some (⟨#[45,57,50,50,51,51,55,50,48,51,54,56,53,52,55,55,53,56,48,56]⟩:ByteArray)) else (if a0<0 then ((Zj.f k (wrap64 (-a0))).bind fun t189=>(if 1+t189.size≤9223372036854775807 then (some ((⟨#[45]⟩:ByteArray) ++ t189)) else (none))) else (Zj.l0 k a0 (⟨#[]⟩:ByteArray)))
end
set_option maxHeartbeats 8000000 in
set_option maxRecDepth 100000 in
theorem Zj.calls (k:Nat):∀ (a0:Int) (r:ByteArray) (w:World) (h:Zj.f k a0=some r),
  Calls Tryd.prog 14 #[.int .i64 a0] w fun e w'=>e=.returned (.string r)∧Below w.heap.size w w':=by
 induction k using Nat.strongRecOn with
 |_ k ih=>
 intro a0 r w h
 cases k with
 |zero=>exact absurd h (by simp [Zj.f])
 |succ k=>
 simp only [Zj.f] at h;have HB:=Xa.mk (Below.refl w.heap.size w);have H:(if a0<(-9223372036854775807) then (some (⟨#[45,57,50,50,51,51,55,50,48,51,54,56,53,52,55,55,53,56,48,56]⟩:ByteArray)) else (if a0<0 then ((Zj.f k (wrap64 (-a0))).bind fun t189=>(if 1+t189.size≤9223372036854775807 then (some ((⟨#[45]⟩:ByteArray) ++ t189)) else (none))) else (Zj.l0 k a0 (⟨#[]⟩:ByteArray))))=some r:=h;clear h;by_cases c2:a0<(-9223372036854775807)
 ·rw [if_pos c2] at H;have c2b0:decide (a0<(-9223372036854775807))=true:=decide_eq_true c2;clear c2;obtain rfl:=Option.some.inj H
  go_enter Tryd.func14,Tryd.ntmps14
  go_wp2
  go_ret
  exact ⟨rf_,bl_ HB⟩
 ·rw [if_neg c2] at H;have c2b0:decide (a0<(-9223372036854775807))=false:=decide_eq_false c2;clear c2;by_cases c3:a0<0
  ·rw [if_pos c3] at H;have c3b0:decide (a0<0)=true:=decide_eq_true c3;clear c3;replace H:=Option.bind_eq_some_iff.mp H;obtain ⟨t189,A40,H⟩:=H;replace H:(if 1+t189.size≤9223372036854775807 then (some ((⟨#[45]⟩:ByteArray) ++ t189)) else (none))=some r:=H;have A4:=Xa.mk A40;clear A40;by_cases c5:1+t189.size≤9223372036854775807
   ·rw [if_pos c5] at H;have c5b0:=eq_true c5;have c5b1:decide (1+t189.size≤9223372036854775807)=true:=decide_eq_true c5
    try have c5b2:(9223372036854775807<1+t189.size)=False:=eq_false (Nat.not_lt.2 c5)
    obtain rfl:=Option.some.inj H
    go_enter Tryd.func14,Tryd.ntmps14
    go_wp2_with (first|((with_reducible refine Xj (f:=14) rfl ?_);refine Yu (some 10) rfl rfl Tryd.func14 (by kernel_rfl) rfl #[.int .i64 (wrap64 (-a0))] rfl ga_ ?_;(with_reducible refine (ih k (by omega) (wrap64 (-a0)) t189 _ A4.out).mono ?_);rintro e w6 ⟨rfl,hb⟩;refine ⟨_,rfl,?_⟩;have n0_:=Xa.mk (Xc (bl_ HB) hb);clear HB;have HB:=n0_;clear n0_;(try clear hb);(try clear hb2);(try clear hk);(try clear hi)))
    go_ret
    exact ⟨rf_,bl_ HB⟩
   ·rw [if_neg c5] at H;exact absurd H (by simp)
  ·rw [if_neg c3] at H;have c3b0:decide (a0<0)=false:=decide_eq_false c3;clear c3;have H':=Xa.mk H;clear H
   go_enter Tryd.func14,Tryd.ntmps14
   go_wp2
   go_loopg [0,3] k (fun kq v0 v3 w'=>∃ (x0_1:Int) (x3_1:ByteArray),v0=.int .i64 x0_1∧v3=.string x3_1∧Xa (Zj.l0 kq x0_1 x3_1=some r)∧Xa (kq≤k)∧Xa (Below w.heap.size w w'))
   case atStart=>exact ⟨(a0),((⟨#[]⟩:ByteArray)),(by first|rfl|(simp;done)|(simp [*];done)),(by first|rfl|(simp;done)|(simp [*];done)),H',⟨Nat.le_refl _⟩,⟨bl_ HB⟩⟩
   case round=>
    clear H'
    try clear c1
    try clear c2
    try clear c2b0
    try clear p2
    try clear c3
    try clear c3b0
    try clear c5
    try clear c5b0
    try clear c5b1
    try clear c5b2
    try clear p6
    obtain ⟨x0_1,x3_1,rfl,rfl,HA,HK1,HB⟩:=hrel
    cases gk with
    |zero=>exact absurd HA.out (by simp [Zj.l0])
    |succ k1=>
     have H:=HA.out;clear HA;simp only [Zj.l0] at H;by_cases c7:x0_1 > 9
     ·rw [if_pos c7] at H;have c7b0:decide (9<x0_1)=true:=decide_eq_true c7;clear c7;obtain ⟨y190,hy190⟩:∃ y_:List Int,y_=(([(wrap64 (48+(Int.tmod x0_1 10))) % 256]:List Int)):=⟨_,rfl⟩
      replace H:(if (strOfNums y190).size+x3_1.size≤9223372036854775807 then (Zj.l0 k1 (wrap64 (Int.tdiv x0_1 10)) ((strOfNums y190) ++ x3_1)) else (none))=some r:=by subst hy190;first|with_reducible exact H|(have z:=(Option.bind_some _ _).symm.trans H;with_reducible exact z)|exact H
      have Ny190:=Xa.mk hy190;clear hy190;by_cases c8:(strOfNums y190).size+x3_1.size≤9223372036854775807
      ·rw [if_pos c8] at H;have c8b0:=eq_true c8;have c8b1:decide ((strOfNums y190).size+x3_1.size≤9223372036854775807)=true:=decide_eq_true c8
       try have c8b2:(9223372036854775807<(strOfNums y190).size+x3_1.size)=False:=eq_false (Nat.not_lt.2 c8)
       have H':=Xa.mk H;clear H;go_wp2_with (first|((with_reducible refine Xq (N:=18) rfl ?_);refine Kd.Ug (Kd.int .u8) _ 5 ?hg (N:=18) ?hd (xs:=([(wrap64 (48+(Int.tmod x0_1 10))) % 256]:List Int)) (inner:=[.int .u8 ((wrap64 (48+(Int.tmod x0_1 10))) % 256)]) (ok:=fun _=>True) (okp:=fun _=>True) ?hr ?hp (fun _ hk=>hk) trivial (Below.refl _ _) (Nat.le_refl _) (by simp) ?_;(case hd=>rfl);(case hg=>rfl);(case hr=>first|(go_simp;done)|(go_simp;rfl));(case hp=>exact (Xl.one (show Kd.M (Kd.int .u8) _ _ _ ((wrap64 (48+(Int.tmod x0_1 10))) % 256) [.int .u8 ((wrap64 (48+(Int.tmod x0_1 10))) % 256)] from rfl) (Xl.none _ _)));intro v191 w9 ho10 hb hg_ hnew_;clear hg_ hnew_;(first|rw [← Ny190.out] at ho10|(simp only [Int.reduceToNat] at ho10;rw [← Ny190.out] at ho10));have n0_:=Xa.mk (Kd.Ye ho10 (Xd (bl_ HB)));have n1_:=Xa.mk (Xc (bl_ HB) hb);clear HB;have HO192:=n0_;have HB:=n1_;clear n0_ n1_;clear hb ho10;have hcv11:=own_string (P:=Tryd.prog) Tryd.underlying29 Tryd.underlying5 Tryd.underlying9 (Kd.own_of_R HO192.out)))
       go_roundg k1
       case measure=>have:=HK1.out;omega
       case rel=>exact ⟨(wrap64 (Int.tdiv x0_1 10)),((strOfNums y190) ++ x3_1),(by first|rfl|(simp;done)|(simp [*];done)),(by first|rfl|(simp;done)|(simp [*];done)),H',⟨by have:=HK1.out;omega⟩,⟨bl_ HB⟩⟩
      ·rw [if_neg c8] at H;exact absurd H (by simp)
     ·rw [if_neg c7] at H;have c7b0:decide (9<x0_1)=false:=decide_eq_false c7;clear c7;obtain ⟨y193,hy193⟩:∃ y_:List Int,y_=(([(wrap64 (48+x0_1)) % 256]:List Int)):=⟨_,rfl⟩
      replace H:(if (strOfNums y193).size+x3_1.size≤9223372036854775807 then (some ((strOfNums y193) ++ x3_1)) else (none))=some r:=by subst hy193;first|with_reducible exact H|(have z:=(Option.bind_some _ _).symm.trans H;with_reducible exact z)|exact H
      have Ny193:=Xa.mk hy193;clear hy193;by_cases c12:(strOfNums y193).size+x3_1.size≤9223372036854775807
      ·rw [if_pos c12] at H;have c12b0:=eq_true c12;have c12b1:decide ((strOfNums y193).size+x3_1.size≤9223372036854775807)=true:=decide_eq_true c12
       try have c12b2:(9223372036854775807<(strOfNums y193).size+x3_1.size)=False:=eq_false (Nat.not_lt.2 c12)
       obtain rfl:=Option.some.inj H;go_wp2_with (first|((with_reducible refine Xq (N:=27) rfl ?_);refine Kd.Ug (Kd.int .u8) _ 5 ?hg (N:=27) ?hd (xs:=([(wrap64 (48+x0_1)) % 256]:List Int)) (inner:=[.int .u8 ((wrap64 (48+x0_1)) % 256)]) (ok:=fun _=>True) (okp:=fun _=>True) ?hr ?hp (fun _ hk=>hk) trivial (Below.refl _ _) (Nat.le_refl _) (by simp) ?_;(case hd=>rfl);(case hg=>rfl);(case hr=>first|(go_simp;done)|(go_simp;rfl));(case hp=>exact (Xl.one (show Kd.M (Kd.int .u8) _ _ _ ((wrap64 (48+x0_1)) % 256) [.int .u8 ((wrap64 (48+x0_1)) % 256)] from rfl) (Xl.none _ _)));intro v194 w13 ho14 hb hg_ hnew_;clear hg_ hnew_;(first|rw [← Ny193.out] at ho14|(simp only [Int.reduceToNat] at ho14;rw [← Ny193.out] at ho14));have n0_:=Xa.mk (Kd.Ye ho14 (Xd (bl_ HB)));have n1_:=Xa.mk (Xc (bl_ HB) hb);clear HB;have HO195:=n0_;have HB:=n1_;clear n0_ n1_;clear hb ho14;have hcv15:=own_string (P:=Tryd.prog) Tryd.underlying29 Tryd.underlying5 Tryd.underlying9 (Kd.own_of_R HO195.out)))
       go_ret
       exact ⟨rf_,bl_ HB⟩
      ·rw [if_neg c12] at H;exact absurd H (by simp)
end Go.Proofs.YtdkcjecllbdljaaDoor.GCode
