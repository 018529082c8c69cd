import Derived.Test.YtdkcjecllbdljaaDoorCFnCodeLines22
import Derived.Test.YtdkcjecllbdljaaDoorCFnCodeLines45
namespace Go.Proofs.YtdkcjecllbdljaaDoor.GCode
open Go.RowKit Go.Proofs.YtdkcjecllbdljaaDoorW.PrintWords Go.Proofs.YtdkcjecllbdljaaDoorW.PrintLast Go.Proofs.YtdkcjecllbdljaaDoorW.PrintMore
attribute [local go_sem] Zy Ua Uo Uq Zp Zq Zz Ub
set_option linter.unusedVariables false
set_option linter.unusedSimpArgs false
mutual
def Yb.l0:Nat→List (S62)→Int→Int→Int→Option (Int)
 |0,_,_,_,_=>none
 |k+1,x0,x1,x5,x6=>if x6<(x0.length:Int) then (Yb.j1 k x0 x1 x5 x6 (decide (x1 > 0))) else (Yb.j1 k x0 x1 x5 x6 false)
def Yb.j1:Nat→List (S62)→Int→Int→Int→Bool→Option (Int)
 |0,_,_,_,_,_=>none
 |k+1,x0,x1,x5,x6,x14=>if x14=true then (if 0≤x6 then (if x6<(x0.length:Int) then ((Yb.f k ((Yv x0 x6).f4) (wrap64 (x1 - 1))).bind fun t374=>((Yb.f k ((Yv x0 x6).f5) (wrap64 (x1 - 1))).bind fun t376=>(Yb.l0 k x0 x1 (wrap64 ((wrap64 ((wrap64 (x5+1))+t374))+t376)) (wrap64 (x6+1))))) else (none)) else (none)) else (some x5)
def Yb.f:Nat→List (S62)→Int→Option (Int)
 |0,_,_=>none
 |k+1,l0,a1=>Yb.l0 k l0 a1 0 0
end
def Yb.T5:Bool × List (List Nat × List Nat):=(true,[([],[]),([0],[0]),([],[]),([],[]),([2,3],[2,3]),([4],[4]),([5],[5]),([],[]),([7],[7]),([6,8],[6,8]),([1,9],[1,9]),([],[]),([],[]),([11,12],[11,12]),([13],[13]),([14],[14]),([],[]),([16],[16]),([15,17,9],[15,17]),([10,18],[10,18]),([19,18,0,1,2,3,4,5,6,7,8,9,10,11,12,13,14,15,16,17,18,19],[0,19])])
def Yb.B5:List Nat:=[0,1,0,0,12,28,60,0,128,508,1023,0,0,6144,14336,30720,0,65536,261116,524287,1048575]
theorem Yb.tab5:rtab .any (opsOf Tryd.f55 5)=Yb.T5:=by kernel_rfl
theorem Yb.bits5:waitsOk Yb.T5.2 Yb.B5=true:=by kernel_rfl
set_option maxHeartbeats 8000000 in
set_option maxRecDepth 100000 in
theorem Yb.calls (k:Nat):∀ (A0:Option Addr) (c0:Nat) (l0:List (S62)) (a1:Int) (r:Int) (w:World) (hr0:Kd.C k62 w A0 l0.length l0) (hc0:l0.length≤c0) (h:Yb.f k l0 a1=some r),
  Calls Tryd.prog 55 #[.slice A0 l0.length c0,.int .i64 a1] w fun e w'=>e=.returned (.int .i64 r)∧Below w.heap.size w w':=by
 induction k using Nat.strongRecOn with
 |_ k ih=>
 intro A0 c0 l0 a1 r w hr0 hc0 h
 cases k with
 |zero=>exact absurd h (by simp [Yb.f])
 |succ k=>
 simp only [Yb.f] at h;have HR0:=Xa.mk hr0;have HC0:=Xa.mk hc0;clear hr0 hc0;have HB:=Xa.mk (Below.refl w.heap.size w);have H:(Yb.l0 k l0 a1 0 0)=some r:=h;clear h;have H':=Xa.mk H;clear H
 go_enter Tryd.func55,Tryd.ntmps55
 go_wp2
 go_loopg [5,6] k (fun kq v5 v6 w'=>∃ (x5_1:Int) (x6_1:Int),v5=.int .i64 x5_1∧v6=.int .i64 x6_1∧Xa (Yb.l0 kq l0 a1 x5_1 x6_1=some r)∧Xa (kq≤k)∧Xa (Below w.heap.size w w'))
 case atStart=>exact ⟨(0),(0),(by first|rfl|(simp;done)|(simp [*];done)),(by first|rfl|(simp;done)|(simp [*];done)),H',⟨Nat.le_refl _⟩,⟨bl_ HB⟩⟩
 case round=>
  clear H'
  try clear p2
  obtain ⟨x5_1,x6_1,rfl,rfl,HA,HK1,HB⟩:=hrel
  cases gk with
  |zero=>exact absurd HA.out (by simp [Yb.l0])
  |succ k1=>
   have H:=HA.out;clear HA;simp only [Yb.l0] at H;have HC3:=Xa.mk H;clear H
   go_upto_region 3 with (fail)
   go_cut [14] (fun v14 wc=>∃ (kq:Nat) (x14_2:Bool),v14=.bool x14_2∧Xa (Yb.j1 kq l0 a1 x5_1 x6_1 x14_2=some r)∧Xa (kq≤k1)∧Xa (Below w.heap.size w wc))
   case first=>
    have H:=HC3.out;clear HC3;by_cases c4:x6_1<(l0.length:Int)
    ·rw [if_pos c4] at H;have c4b0:decide (x6_1<(l0.length:Int))=true:=decide_eq_true c4;clear c4
     (first|rw [c4b0]|(simp only [Xt,Xu];rw [c4b0])|skip)
     have H':=Xa.mk H;clear H;go_wp2
     go_meet
     case rel=>exact ⟨_,(decide (a1 > 0)),(by first|rfl|(simp;done)|(simp [*];done)),H',⟨by have:=HK1.out;first|omega|exact Nat.le_refl _⟩,⟨bl_ HB⟩⟩
    ·rw [if_neg c4] at H;have c4b0:decide (x6_1<(l0.length:Int))=false:=decide_eq_false c4;clear c4
     (first|rw [c4b0]|(simp only [Xt,Xu];rw [c4b0])|skip)
     have H':=Xa.mk H;clear H;go_wp2
     go_meet
     case rel=>exact ⟨_,(false),(by first|rfl|(simp;done)|(simp [*];done)),H',⟨by have:=HK1.out;first|omega|exact Nat.le_refl _⟩,⟨bl_ HB⟩⟩
   case rest=>
    clear HC3
    try clear p2
    try clear c4
    try clear c4b0
    try clear p2
    obtain ⟨kq,x14_2,rfl,HA,HJ2,HB⟩:=hcut
    cases kq with
    |zero=>exact absurd HA.out (by simp [Yb.j1])
    |succ kj2=>
     have H:=HA.out;clear HA;simp only [Yb.j1] at H;by_cases c5:x14_2=true
     ·subst c5
      have H1:(if 0≤x6_1 then (if x6_1<(l0.length:Int) then ((Yb.f kj2 ((Yv l0 x6_1).f4) (wrap64 (a1 - 1))).bind fun t374=>((Yb.f kj2 ((Yv l0 x6_1).f5) (wrap64 (a1 - 1))).bind fun t376=>(Yb.l0 kj2 l0 a1 (wrap64 ((wrap64 ((wrap64 (x5_1+1))+t374))+t376)) (wrap64 (x6_1+1))))) else (none)) else (none))=some r:=by rw [if_pos rfl] at H;exact H
      clear H;have H:=H1;clear H1;by_cases c6:0≤x6_1
      ·rw [if_pos c6] at H;have c6b0:decide (0≤x6_1)=true:=decide_eq_true c6;clear c6;by_cases c7:x6_1<(l0.length:Int)
       ·rw [if_pos c7] at H;have c7b0:decide (x6_1<(l0.length:Int))=true:=decide_eq_true c7;clear c7;replace H:=Option.bind_eq_some_iff.mp H;obtain ⟨t374,A80,H⟩:=H;replace H:((Yb.f kj2 ((Yv l0 x6_1).f5) (wrap64 (a1 - 1))).bind fun t376=>(Yb.l0 kj2 l0 a1 (wrap64 ((wrap64 ((wrap64 (x5_1+1))+t374))+t376)) (wrap64 (x6_1+1))))=some r:=H;have A8:=Xa.mk A80;clear A80;replace H:=Option.bind_eq_some_iff.mp H;obtain ⟨t376,A90,H⟩:=H;replace H:(Yb.l0 kj2 l0 a1 (wrap64 ((wrap64 ((wrap64 (x5_1+1))+t374))+t376)) (wrap64 (x6_1+1)))=some r:=H;have A9:=Xa.mk A90;clear A90;have H':=Xa.mk H;clear H
        try go_wp2
        have n0_:=Xa.mk (below_drew1 HB.out);clear HB;have HB:=n0_;clear n0_;have p373:0≤(x6_1:Int):=of_decide_eq_true (by first|(with_reducible assumption)|assumption);have q373:x6_1<(l0.length:Int):=of_decide_eq_true (by first|(with_reducible assumption)|assumption);obtain ⟨ad373,A373_4,c373_4,A373_5,c373_5,e373,hx373_0,hx373_1,hx373_2,hx373_3,hx373_4,hx373_5,hl373_4,hi373_4,hl373_5,hi373_5⟩:=at_T62 HR0.out x6_1 p373 q373;have hw373_5:=hx373_5;have hw373_4:=hx373_4;have hw373_3:=hx373_3;have hw373_2:=hx373_2;have hw373_1:=hx373_1;have hw373_0:=hx373_0;cases e373
        replace hx373_0:=(HB.out.cell (World.block_lt_of_cell? w _ hx373_0)).trans hx373_0;replace hx373_1:=(HB.out.cell (World.block_lt_of_cell? w _ hx373_1)).trans hx373_1;replace hx373_2:=(HB.out.cell (World.block_lt_of_cell? w _ hx373_2)).trans hx373_2;replace hx373_3:=(HB.out.cell (World.block_lt_of_cell? w _ hx373_3)).trans hx373_3;replace hx373_4:=(HB.out.cell (World.block_lt_of_cell? w _ hx373_4)).trans hx373_4;replace hx373_5:=(HB.out.cell (World.block_lt_of_cell? w _ hx373_5)).trans hx373_5;have HR373_4:=Xa.mk hi373_4;have HC373_4:=Xa.mk hl373_4;clear hi373_4 hl373_4;have HR373_5:=Xa.mk hi373_5;have HC373_5:=Xa.mk hl373_5;clear hi373_5 hl373_5;replace p373:=eq_true p373;replace q373:=eq_true q373;have p375:0≤(x6_1:Int):=of_decide_eq_true (by first|(with_reducible assumption)|assumption);have q375:x6_1<(l0.length:Int):=of_decide_eq_true (by first|(with_reducible assumption)|assumption);obtain ⟨ad375,A375_4,c375_4,A375_5,c375_5,e375,hx375_0,hx375_1,hx375_2,hx375_3,hx375_4,hx375_5,hl375_4,hi375_4,hl375_5,hi375_5⟩:=at_T62 HR0.out x6_1 p375 q375;have hw375_5:=hx375_5;have hw375_4:=hx375_4;have hw375_3:=hx375_3;have hw375_2:=hx375_2;have hw375_1:=hx375_1;have hw375_0:=hx375_0;obtain rfl:ad373=ad375:=(by injection e375);replace hx375_0:=(HB.out.cell (World.block_lt_of_cell? w _ hx375_0)).trans hx375_0;replace hx375_1:=(HB.out.cell (World.block_lt_of_cell? w _ hx375_1)).trans hx375_1;replace hx375_2:=(HB.out.cell (World.block_lt_of_cell? w _ hx375_2)).trans hx375_2;replace hx375_3:=(HB.out.cell (World.block_lt_of_cell? w _ hx375_3)).trans hx375_3;replace hx375_4:=(HB.out.cell (World.block_lt_of_cell? w _ hx375_4)).trans hx375_4;replace hx375_5:=(HB.out.cell (World.block_lt_of_cell? w _ hx375_5)).trans hx375_5;have HR375_4:=Xa.mk hi375_4;have HC375_4:=Xa.mk hl375_4;clear hi375_4 hl375_4;have HR375_5:=Xa.mk hi375_5;have HC375_5:=Xa.mk hl375_5;clear hi375_5 hl375_5;replace p375:=eq_true p375;replace q375:=eq_true q375;have ea_:=Option.some.inj (hx373_4.symm.trans hx375_4)
        injection ea_ with ea_ en_ ec_
        subst ea_;subst ec_;clear en_;have ea_:=Option.some.inj (hx373_5.symm.trans hx375_5)
        injection ea_ with ea_ en_ ec_
        subst ea_;subst ec_;clear en_;refine start_ (n:=21) (S:=fun w'=>w'.cell? (ad373.add ((x6_1).toNat * 6))=some (.int .i64 ((Yv l0 x6_1).f0))∧w'.cell? ⟨(ad373.add ((x6_1).toNat * 6)).block,(ad373.add ((x6_1).toNat * 6)).off+1,none⟩=some (.int .i64 ((Yv l0 x6_1).f1))∧w'.cell? ⟨(ad373.add ((x6_1).toNat * 6)).block,(ad373.add ((x6_1).toNat * 6)).off+2,none⟩=some (.int .i64 ((Yv l0 x6_1).f2))∧w'.cell? ⟨(ad373.add ((x6_1).toNat * 6)).block,(ad373.add ((x6_1).toNat * 6)).off+3,none⟩=some (.int .i64 ((Yv l0 x6_1).f3))∧w'.cell? ⟨(ad373.add ((x6_1).toNat * 6)).block,(ad373.add ((x6_1).toNat * 6)).off+4,none⟩=some (.slice A373_4 ((Yv l0 x6_1).f4).length c373_4)∧w'.cell? ⟨(ad373.add ((x6_1).toNat * 6)).block,(ad373.add ((x6_1).toNat * 6)).off+5,none⟩=some (.slice A373_5 ((Yv l0 x6_1).f5).length c373_5)∧w'.cell? (ad373.add ((x6_1).toNat * 6))=some (.int .i64 ((Yv l0 x6_1).f0))∧w'.cell? ⟨(ad373.add ((x6_1).toNat * 6)).block,(ad373.add ((x6_1).toNat * 6)).off+1,none⟩=some (.int .i64 ((Yv l0 x6_1).f1))∧w'.cell? ⟨(ad373.add ((x6_1).toNat * 6)).block,(ad373.add ((x6_1).toNat * 6)).off+2,none⟩=some (.int .i64 ((Yv l0 x6_1).f2))∧w'.cell? ⟨(ad373.add ((x6_1).toNat * 6)).block,(ad373.add ((x6_1).toNat * 6)).off+3,none⟩=some (.int .i64 ((Yv l0 x6_1).f3))∧w'.cell? ⟨(ad373.add ((x6_1).toNat * 6)).block,(ad373.add ((x6_1).toNat * 6)).off+4,none⟩=some (.slice A373_4 ((Yv l0 x6_1).f4).length c373_4)∧w'.cell? ⟨(ad373.add ((x6_1).toNat * 6)).block,(ad373.add ((x6_1).toNat * 6)).off+5,none⟩=some (.slice A373_5 ((Yv l0 x6_1).f5).length c373_5)) (ds:=[]) #[false,false,false,false,false,false,false,false,false,false,false,false,false,false,false,false,false,false,false,false,false] (by kernel_rfl) rfl rfl ⟨((HB.out.cell (World.block_lt_of_cell? w _ hw373_0)).trans hw373_0),((HB.out.cell (World.block_lt_of_cell? w _ hw373_1)).trans hw373_1),((HB.out.cell (World.block_lt_of_cell? w _ hw373_2)).trans hw373_2),((HB.out.cell (World.block_lt_of_cell? w _ hw373_3)).trans hw373_3),((HB.out.cell (World.block_lt_of_cell? w _ hw373_4)).trans hw373_4),((HB.out.cell (World.block_lt_of_cell? w _ hw373_5)).trans hw373_5),((HB.out.cell (World.block_lt_of_cell? w _ hw375_0)).trans hw375_0),((HB.out.cell (World.block_lt_of_cell? w _ hw375_1)).trans hw375_1),((HB.out.cell (World.block_lt_of_cell? w _ hw375_2)).trans hw375_2),((HB.out.cell (World.block_lt_of_cell? w _ hw375_3)).trans hw375_3),((HB.out.cell (World.block_lt_of_cell? w _ hw375_4)).trans hw375_4),((HB.out.cell (World.block_lt_of_cell? w _ hw375_5)).trans hw375_5)⟩ (fun hHeld=>?_);refine with_tabW Yb.tab5 Yb.bits5 (fun HT_ HW_=>?_)
        generalize wc.drew=w10 at HB HR373_4 HR373_5 HR375_4 HR375_5 hx373_0 hx373_1 hx373_2 hx373_3 hx373_4 hx373_5 hx375_0 hx375_1 hx375_2 hx375_3 hx375_4 hx375_5 hHeld ⊢
        refine Zb (i:=0) (N:=some 17) (v:=?_) (a':=?_) #[true,false,false,false,false,false,false,false,false,false,false,false,false,false,false,false,false,false,false,false,false] rfl rfl (Yr HT_.out (by kernel_rfl)) (fun _ _ _ h=>h) (Or.inl ⟨by rfl,?_⟩) ?_ ?_
        rotate_left
        ·intro w';go_simp
         with_reducible rfl
        rotate_left
        ·simp only [Act.put,List.setIfInBounds_toArray,List.set_cons_zero,List.set_cons_succ,Xt,Xu];rfl
        refine Zb (i:=1) (N:=some 18) (v:=?_) (a':=?_) #[true,true,false,false,false,false,false,false,false,false,false,false,false,false,false,false,false,false,false,false,false] rfl rfl (Yr HT_.out (by kernel_rfl)) (fun _ _ _ h=>h) (Or.inl ⟨by rfl,?_⟩) ?_ ?_
        rotate_left
        ·intro w';go_simp
         with_reducible rfl
        rotate_left
        ·simp only [Act.put,List.setIfInBounds_toArray,List.set_cons_zero,List.set_cons_succ,Xt,Xu];rfl
        refine Zb (i:=2) (N:=some 19) (v:=?_) (a':=?_) #[true,true,true,false,false,false,false,false,false,false,false,false,false,false,false,false,false,false,false,false,false] rfl rfl (Yr HT_.out (by kernel_rfl)) (fun _ _ _ h=>h) (Or.inl ⟨by rfl,?_⟩) ?_ ?_
        rotate_left
        ·intro w';go_simp
         with_reducible rfl
        rotate_left
        ·simp only [Act.put,List.setIfInBounds_toArray,List.set_cons_zero,List.set_cons_succ,Xt,Xu];rfl
        refine Zb (i:=3) (N:=some 20) (v:=?_) (a':=?_) #[true,true,true,true,false,false,false,false,false,false,false,false,false,false,false,false,false,false,false,false,false] rfl rfl (Yr HT_.out (by kernel_rfl)) (fun _ _ _ h=>h) (Or.inl ⟨by rfl,?_⟩) ?_ ?_
        rotate_left
        ·intro w';go_simp
         with_reducible rfl
        rotate_left
        ·simp only [Act.put,List.setIfInBounds_toArray,List.set_cons_zero,List.set_cons_succ,Xt,Xu];rfl
        refine Zb (i:=4) (N:=some 21) (v:=?_) (a':=?_) #[true,true,true,true,true,false,false,false,false,false,false,false,false,false,false,false,false,false,false,false,false] rfl rfl (Yr HT_.out (by kernel_rfl)) (fun _ _ _ h=>h) (Or.inl ⟨by rfl,?_⟩) ?_ ?_
        rotate_left
        ·intro w';go_simp
         with_reducible rfl
        rotate_left
        ·simp only [Act.put,List.setIfInBounds_toArray,List.set_cons_zero,List.set_cons_succ,Xt,Xu];rfl
        refine Zb (i:=5) (N:=some 22) (v:=?_) (a':=?_) #[true,true,true,true,true,true,false,false,false,false,false,false,false,false,false,false,false,false,false,false,false] rfl rfl (Yr HT_.out (by kernel_rfl)) (fun _ _ _ h=>h) (Or.inl ⟨by rfl,?_⟩) ?_ ?_
        rotate_left
        ·intro w';go_simp
         with_reducible rfl
        rotate_left
        ·simp only [Act.put,List.setIfInBounds_toArray,List.set_cons_zero,List.set_cons_succ,Xt,Xu];rfl
        refine Zb (i:=7) (N:=some 24) (v:=?_) (a':=?_) #[true,true,true,true,true,true,false,true,false,false,false,false,false,false,false,false,false,false,false,false,false] rfl rfl (Yr HT_.out (by kernel_rfl)) (fun _ _ _ h=>h) (Or.inl ⟨by rfl,?_⟩) ?_ ?_
        rotate_left
        ·intro w';go_simp
         with_reducible rfl
        rotate_left
        ·simp only [Act.put,List.setIfInBounds_toArray,List.set_cons_zero,List.set_cons_succ,Xt,Xu];rfl
        refine Zb (i:=8) (N:=some 25) (v:=?_) (a':=?_) #[true,true,true,true,true,true,false,true,true,false,false,false,false,false,false,false,false,false,false,false,false] rfl rfl (Yr HT_.out (by kernel_rfl)) (fun _ _ _ h=>h) (Or.inl ⟨by rfl,?_⟩) ?_ ?_
        rotate_left
        ·intro w';go_simp
         with_reducible rfl
        rotate_left
        ·simp only [Act.put,List.setIfInBounds_toArray,List.set_cons_zero,List.set_cons_succ,Xt,Xu];rfl
        refine Zb (i:=11) (N:=some 28) (v:=?_) (a':=?_) #[true,true,true,true,true,true,false,true,true,false,false,true,false,false,false,false,false,false,false,false,false] rfl rfl (Yr HT_.out (by kernel_rfl)) (fun _ _ _ h=>h) (Or.inl ⟨by rfl,?_⟩) ?_ ?_
        rotate_left
        ·intro w';go_simp
         with_reducible rfl
        rotate_left
        ·simp only [Act.put,List.setIfInBounds_toArray,List.set_cons_zero,List.set_cons_succ,Xt,Xu];rfl
        refine Zb (i:=12) (N:=some 29) (v:=?_) (a':=?_) #[true,true,true,true,true,true,false,true,true,false,false,true,true,false,false,false,false,false,false,false,false] rfl rfl (Yr HT_.out (by kernel_rfl)) (fun _ _ _ h=>h) (Or.inl ⟨by rfl,?_⟩) ?_ ?_
        rotate_left
        ·intro w';go_simp
         with_reducible rfl
        rotate_left
        ·simp only [Act.put,List.setIfInBounds_toArray,List.set_cons_zero,List.set_cons_succ,Xt,Xu];rfl
        refine Zb (i:=13) (N:=some 30) (v:=?_) (a':=?_) #[true,true,true,true,true,true,false,true,true,false,false,true,true,true,false,false,false,false,false,false,false] rfl rfl (Yr HT_.out (by kernel_rfl)) (fun _ _ _ h=>h) (Or.inl ⟨by rfl,?_⟩) ?_ ?_
        rotate_left
        ·intro w';go_simp
         with_reducible rfl
        rotate_left
        ·simp only [Act.put,List.setIfInBounds_toArray,List.set_cons_zero,List.set_cons_succ,Xt,Xu];rfl
        refine Zb (i:=14) (N:=some 31) (v:=?_) (a':=?_) #[true,true,true,true,true,true,false,true,true,false,false,true,true,true,true,false,false,false,false,false,false] rfl rfl (Yr HT_.out (by kernel_rfl)) (fun _ _ _ h=>h) (Or.inl ⟨by rfl,?_⟩) ?_ ?_
        rotate_left
        ·intro w';go_simp
         with_reducible rfl
        rotate_left
        ·simp only [Act.put,List.setIfInBounds_toArray,List.set_cons_zero,List.set_cons_succ,Xt,Xu];rfl
        refine Zb (i:=16) (N:=some 33) (v:=?_) (a':=?_) #[true,true,true,true,true,true,false,true,true,false,false,true,true,true,true,false,true,false,false,false,false] rfl rfl (Yr HT_.out (by kernel_rfl)) (fun _ _ _ h=>h) (Or.inl ⟨by rfl,?_⟩) ?_ ?_
        rotate_left
        ·intro w';go_simp
         with_reducible rfl
        rotate_left
        ·simp only [Act.put,List.setIfInBounds_toArray,List.set_cons_zero,List.set_cons_succ,Xt,Xu];rfl
        refine Zb (i:=17) (N:=some 34) (v:=?_) (a':=?_) #[true,true,true,true,true,true,false,true,true,false,false,true,true,true,true,false,true,true,false,false,false] rfl rfl (Yr HT_.out (by kernel_rfl)) (fun _ _ _ h=>h) (Or.inl ⟨by rfl,?_⟩) ?_ ?_
        rotate_left
        ·intro w';go_simp
         with_reducible rfl
        rotate_left
        ·simp only [Act.put,List.setIfInBounds_toArray,List.set_cons_zero,List.set_cons_succ,Xt,Xu];rfl
        refine take_ (i:=6) (N:=some 23) (v:=?_) (a':=?_) #[true,true,true,true,true,true,true,true,true,false,false,true,true,true,true,false,true,true,false,false,false] rfl rfl (take_ofW HT_.out HW_.out (by kernel_rfl)) (fun _ _ _ h=>h) (Or.inl ⟨by rfl,?_⟩) hHeld ?_ ?_
        rotate_left
        ·rintro w' ⟨s0,s1,s2,s3,s4,s5,s6,s7,s8,s9,s10,s11⟩
         go_simp
         with_reducible rfl
        rotate_left
        ·simp only [Act.put,List.setIfInBounds_toArray,List.set_cons_zero,List.set_cons_succ,Xt,Xu];rfl
        refine take_ (i:=15) (N:=some 32) (v:=?_) (a':=?_) #[true,true,true,true,true,true,true,true,true,false,false,true,true,true,true,true,true,true,false,false,false] rfl rfl (take_ofW HT_.out HW_.out (by kernel_rfl)) (fun _ _ _ h=>h) (Or.inl ⟨by rfl,?_⟩) hHeld ?_ ?_
        rotate_left
        ·rintro w' ⟨s0,s1,s2,s3,s4,s5,s6,s7,s8,s9,s10,s11⟩
         go_simp
         with_reducible rfl
        rotate_left
        ·simp only [Act.put,List.setIfInBounds_toArray,List.set_cons_zero,List.set_cons_succ,Xt,Xu];rfl
        refine one_ (i:=9) (N:=some 26) #[true,true,true,true,true,true,true,true,true,true,false,true,true,true,true,true,true,true,false,false,false] rfl rfl (one_of HT_.out (by kernel_rfl)) (by decide) (fun K hK=>?_)
        refine goes_ Tryd.func55 (by kernel_rfl) rfl #[.slice A373_4 ((Yv l0 x6_1).f4).length c373_4,.int .i64 (wrap64 (a1 - 1))] (by rfl) rfl rfl ga_ ?_
        with_reducible refine (ih kj2 (by have:=HK1.out;have:=HJ2.out;omega) _ _ ((Yv l0 x6_1).f4) (wrap64 (a1 - 1)) t374 _ ?side1 ?side2 A8.out).mono ?_
        (case side1=>repeat (first|exact (Kd.Zl HR373_4.out HB.out)|(with_reducible refine Kd.Yc ?_ _)|(with_reducible refine Kd.Yd ?_ _)|(with_reducible refine Kd.Yo ?_)))
        (case side2=>exact HC373_4.out)
        rintro e w11 ⟨rfl,hb⟩
        refine ⟨_,rfl,?_⟩
        have n0_:=Xa.mk (Xc (bl_ HB) hb);clear HB;have HB:=n0_;clear n0_
        (try clear hb)
        (try clear hb2)
        (try clear hk)
        (try clear hi)
        refine hK.out _ _ ⟨((HB.out.cell (World.block_lt_of_cell? w _ hw373_0)).trans hw373_0),((HB.out.cell (World.block_lt_of_cell? w _ hw373_1)).trans hw373_1),((HB.out.cell (World.block_lt_of_cell? w _ hw373_2)).trans hw373_2),((HB.out.cell (World.block_lt_of_cell? w _ hw373_3)).trans hw373_3),((HB.out.cell (World.block_lt_of_cell? w _ hw373_4)).trans hw373_4),((HB.out.cell (World.block_lt_of_cell? w _ hw373_5)).trans hw373_5),((HB.out.cell (World.block_lt_of_cell? w _ hw375_0)).trans hw375_0),((HB.out.cell (World.block_lt_of_cell? w _ hw375_1)).trans hw375_1),((HB.out.cell (World.block_lt_of_cell? w _ hw375_2)).trans hw375_2),((HB.out.cell (World.block_lt_of_cell? w _ hw375_3)).trans hw375_3),((HB.out.cell (World.block_lt_of_cell? w _ hw375_4)).trans hw375_4),((HB.out.cell (World.block_lt_of_cell? w _ hw375_5)).trans hw375_5)⟩ (fun hHeld=>?_)
        clear hK K;refine Uf (a':=?_) ?_ ?_
        rotate_left
        ·show Act.put _ (some 26) _=_
         simp only [Act.put,List.setIfInBounds_toArray,List.set_cons_zero,List.set_cons_succ,Xt,Xu];rfl
        refine Zb (i:=10) (N:=some 27) (v:=?_) (a':=?_) #[true,true,true,true,true,true,true,true,true,true,true,true,true,true,true,true,true,true,false,false,false] rfl rfl (Yr HT_.out (by kernel_rfl)) (fun _ _ _ h=>h) (Or.inl ⟨by rfl,?_⟩) ?_ ?_
        rotate_left
        ·intro w';go_simp
         with_reducible rfl
        rotate_left
        ·simp only [Act.put,List.setIfInBounds_toArray,List.set_cons_zero,List.set_cons_succ,Xt,Xu];rfl
        refine one_ (i:=18) (N:=some 35) #[true,true,true,true,true,true,true,true,true,true,true,true,true,true,true,true,true,true,true,false,false] rfl rfl (one_of HT_.out (by kernel_rfl)) (by decide) (fun K hK=>?_)
        refine goes_ Tryd.func55 (by kernel_rfl) rfl #[.slice A373_5 ((Yv l0 x6_1).f5).length c373_5,.int .i64 (wrap64 (a1 - 1))] (by rfl) rfl rfl ga_ ?_
        with_reducible refine (ih kj2 (by have:=HK1.out;have:=HJ2.out;omega) _ _ ((Yv l0 x6_1).f5) (wrap64 (a1 - 1)) t376 _ ?side1 ?side2 A9.out).mono ?_
        (case side1=>repeat (first|exact (Kd.Zl HR375_5.out HB.out)|(with_reducible refine Kd.Yc ?_ _)|(with_reducible refine Kd.Yd ?_ _)|(with_reducible refine Kd.Yo ?_)))
        (case side2=>exact HC375_5.out)
        rintro e w12 ⟨rfl,hb⟩
        refine ⟨_,rfl,?_⟩
        have n0_:=Xa.mk (Xc (bl_ HB) hb);clear HB;have HB:=n0_;clear n0_
        (try clear hb)
        (try clear hb2)
        (try clear hk)
        (try clear hi)
        refine hK.out _ _ ⟨((HB.out.cell (World.block_lt_of_cell? w _ hw373_0)).trans hw373_0),((HB.out.cell (World.block_lt_of_cell? w _ hw373_1)).trans hw373_1),((HB.out.cell (World.block_lt_of_cell? w _ hw373_2)).trans hw373_2),((HB.out.cell (World.block_lt_of_cell? w _ hw373_3)).trans hw373_3),((HB.out.cell (World.block_lt_of_cell? w _ hw373_4)).trans hw373_4),((HB.out.cell (World.block_lt_of_cell? w _ hw373_5)).trans hw373_5),((HB.out.cell (World.block_lt_of_cell? w _ hw375_0)).trans hw375_0),((HB.out.cell (World.block_lt_of_cell? w _ hw375_1)).trans hw375_1),((HB.out.cell (World.block_lt_of_cell? w _ hw375_2)).trans hw375_2),((HB.out.cell (World.block_lt_of_cell? w _ hw375_3)).trans hw375_3),((HB.out.cell (World.block_lt_of_cell? w _ hw375_4)).trans hw375_4),((HB.out.cell (World.block_lt_of_cell? w _ hw375_5)).trans hw375_5)⟩ (fun hHeld=>?_)
        clear hK K;refine Uf (a':=?_) ?_ ?_
        rotate_left
        ·show Act.put _ (some 35) _=_
         simp only [Act.put,List.setIfInBounds_toArray,List.set_cons_zero,List.set_cons_succ,Xt,Xu];rfl
        refine Zb (i:=19) (N:=some 36) (v:=?_) (a':=?_) #[true,true,true,true,true,true,true,true,true,true,true,true,true,true,true,true,true,true,true,true,false] rfl rfl (Yr HT_.out (by kernel_rfl)) (fun _ _ _ h=>h) (Or.inl ⟨by rfl,?_⟩) ?_ ?_
        rotate_left
        ·intro w';go_simp
         with_reducible rfl
        rotate_left
        ·simp only [Act.put,List.setIfInBounds_toArray,List.set_cons_zero,List.set_cons_succ,Xt,Xu];rfl
        refine Zb (i:=20) (N:=some 5) (v:=?_) (a':=?_) #[true,true,true,true,true,true,true,true,true,true,true,true,true,true,true,true,true,true,true,true,true] rfl rfl (Yr HT_.out (by kernel_rfl)) (fun _ _ _ h=>h) (Or.inl ⟨by rfl,?_⟩) ?_ ?_
        rotate_left
        ·intro w';go_simp
         with_reducible rfl
        rotate_left
        ·simp only [Act.put,List.setIfInBounds_toArray,List.set_cons_zero,List.set_cons_succ,Xt,Xu];rfl
        refine done_ (done_of HT_.out (by kernel_rfl)) ?_
        try go_wp2
        go_roundg kj2
        case measure=>have:=HK1.out;have:=HJ2.out;omega
        case rel=>exact ⟨(wrap64 ((wrap64 ((wrap64 (x5_1+1))+t374))+t376)),(wrap64 (x6_1+1)),(by first|rfl|(simp;done)|(simp [*];done)),(by first|rfl|(simp;done)|(simp [*];done)),H',⟨by have:=HK1.out;have:=HJ2.out;omega⟩,⟨bl_ HB⟩⟩
       ·rw [if_neg c7] at H;exact absurd H (by simp)
      ·rw [if_neg c6] at H;exact absurd H (by simp)
     ·replace c5:=Bool.eq_false_iff.mpr c5;subst c5
      have H1:(some x5_1)=some r:=by rw [if_neg (show ¬ (false=true) by decide)] at H;exact H
      clear H;have H:=H1;clear H1;obtain rfl:=Option.some.inj H;go_wp2
      go_ret
      exact ⟨rf_,bl_ HB⟩
def Ue.f (k:Nat) (l0:List (S62)):Option (Bool):=(Yp.f k l0 3 (-1)).bind fun t377=>(if t377=true then ((Yb.f k l0 3).bind fun t378=>(some (decide (t378≤14)))) else (some false))
set_option maxHeartbeats 8000000 in
set_option maxRecDepth 100000 in
theorem Ue.calls (k:Nat) (A0:Option Addr) (c0:Nat) (l0:List (S62)) (r:Bool) (w:World) (hr0:Kd.C k62 w A0 l0.length l0) (hc0:l0.length≤c0) (h:Ue.f k l0=some r) :
  Calls Tryd.prog 46 #[.slice A0 l0.length c0] w fun e w'=>e=.returned (.bool r)∧Below w.heap.size w w':=by
 have HR0:=Xa.mk hr0;have HC0:=Xa.mk hc0;clear hr0 hc0;have HB:=Xa.mk (Below.refl w.heap.size w);have H:((Yp.f k l0 3 (-1)).bind fun t377=>(if t377=true then ((Yb.f k l0 3).bind fun t378=>(some (decide (t378≤14)))) else (some false)))=some r:=h;clear h;replace H:=Option.bind_eq_some_iff.mp H;obtain ⟨t377,A20,H⟩:=H;replace H:(if t377=true then ((Yb.f k l0 3).bind fun t378=>(some (decide (t378≤14)))) else (some false))=some r:=H;have A2:=Xa.mk A20;clear A20;by_cases c3:t377=true
 ·subst c3
  have H1:((Yb.f k l0 3).bind fun t378=>(some (decide (t378≤14))))=some r:=by rw [if_pos rfl] at H;exact H
  clear H;have H:=H1;clear H1;replace H:=Option.bind_eq_some_iff.mp H;obtain ⟨t378,A40,H⟩:=H;replace H:(some (decide (t378≤14)))=some r:=H;have A4:=Xa.mk A40;clear A40;obtain rfl:=Option.some.inj H
  go_enter Tryd.func46,Tryd.ntmps46
  go_wp2_with (first|((with_reducible refine Xj (f:=54) rfl ?_);refine Yu (some 4) rfl rfl Tryd.func54 (by kernel_rfl) rfl #[.slice A0 l0.length c0,.int .i64 3,.int .i64 (-1)] rfl ga_ ?_;(with_reducible refine (Yp.calls k _ _ l0 3 (-1) true _ ?side1 ?side2 A2.out).mono ?_);(case side1=>repeat (first|exact HR0.out|(with_reducible refine Kd.Yc ?_ _)|(with_reducible refine Kd.Yd ?_ _)|(with_reducible refine Kd.Yo ?_)));(case side2=>exact HC0.out);rintro e w5 ⟨rfl,hb⟩;refine ⟨_,rfl,?_⟩;have n0_:=Xa.mk (Xc (bl_ HB) hb);clear HB;have HB:=n0_;clear n0_;(try clear hb);(try clear hb2);(try clear hk);(try clear hi))|(go_at_call 55;(with_reducible refine (Yb.calls k _ _ l0 3 t378 _ ?side1 ?side2 A4.out).mono ?_);(case side1=>repeat (first|exact (Kd.Zl HR0.out HB.out)|(with_reducible refine Kd.Yc ?_ _)|(with_reducible refine Kd.Yd ?_ _)|(with_reducible refine Kd.Yo ?_)));(case side2=>exact HC0.out);rintro e w6 ⟨rfl,hb⟩;have n0_:=Xa.mk (Xc (bl_ HB) hb);clear HB;have HB:=n0_;clear n0_;(try clear hb);(try clear hb2);(try clear hk);(try clear hi)))
  go_ret
  exact ⟨rf_,bl_ HB⟩
 ·replace c3:=Bool.eq_false_iff.mpr c3;subst c3
  have H1:(some false)=some r:=by rw [if_neg (show ¬ (false=true) by decide)] at H;exact H
  clear H;have H:=H1;clear H1;obtain rfl:=Option.some.inj H
  go_enter Tryd.func46,Tryd.ntmps46
  go_wp2_with (first|((with_reducible refine Xj (f:=54) rfl ?_);refine Yu (some 4) rfl rfl Tryd.func54 (by kernel_rfl) rfl #[.slice A0 l0.length c0,.int .i64 3,.int .i64 (-1)] rfl ga_ ?_;(with_reducible refine (Yp.calls k _ _ l0 3 (-1) false _ ?side1 ?side2 A2.out).mono ?_);(case side1=>repeat (first|exact HR0.out|(with_reducible refine Kd.Yc ?_ _)|(with_reducible refine Kd.Yd ?_ _)|(with_reducible refine Kd.Yo ?_)));(case side2=>exact HC0.out);rintro e w7 ⟨rfl,hb⟩;refine ⟨_,rfl,?_⟩;have n0_:=Xa.mk (Xc (bl_ HB) hb);clear HB;have HB:=n0_;clear n0_;(try clear hb);(try clear hb2);(try clear hk);(try clear hi)))
  go_ret
  exact ⟨rf_,bl_ HB⟩
end Go.Proofs.YtdkcjecllbdljaaDoor.GCode
