import Derived.Test.YtdkcjecllbdljaaCFnSlim21
import Derived.Test.YtdkcjecllbdljaaCFnSlim26
namespace Go.Proofs.Ytdkcjecllbdljaa.GSlim
open Go.RowKit Go.Proofs.YtdkcjecllbdljaaW.PrintWords Go.Proofs.YtdkcjecllbdljaaW.PrintLast Go.Proofs.YtdkcjecllbdljaaW.PrintMore
attribute [local go_sem] Zv Zx Un Uo Zm Zn Zw Zy
set_option linter.unusedVariables false
set_option linter.unusedSimpArgs false
mutual
def Yk.l0:Nat→List (S51)→Int→Int→Int→Option (Int)
 |0,_,_,_,_=>none
 |k+1,x0,x1,x5,x6=>if x6<(x0.length:Int) then (Yk.j1 k x0 x1 x5 x6 (decide (x1 > 0))) else (Yk.j1 k x0 x1 x5 x6 false)
def Yk.j1:Nat→List (S51)→Int→Int→Int→Bool→Option (Int)
 |0,_,_,_,_,_=>none
 |k+1,x0,x1,x5,x6,x14=>if x14=true then (if 0≤x6 then (if x6<(x0.length:Int) then ((Yk.f k ((Zb x0 x6).f4) (wrap64 (x1 - 1))).bind fun t225=>((Yk.f k ((Zb x0 x6).f5) (wrap64 (x1 - 1))).bind fun t227=>(Yk.l0 k x0 x1 (wrap64 ((wrap64 ((wrap64 (x5+1))+t225))+t227)) (wrap64 (x6+1))))) else (none)) else (none)) else (some x5)
def Yk.f:Nat→List (S51)→Int→Option (Int)
 |0,_,_=>none
 |k+1,l0,a1=>Yk.l0 k l0 a1 0 0
end
def Yk.T5:Bool × List (List Nat × List Nat):=(true,[([],[]),([0],[0]),([],[]),([],[]),([2,3],[2,3]),([4],[4]),([5],[5]),([],[]),([7],[7]),([6,8],[6,8]),([1,9],[1,9]),([],[]),([],[]),([11,12],[11,12]),([13],[13]),([14],[14]),([],[]),([16],[16]),([15,17,9],[15,17]),([10,18],[10,18]),([19,18,0,1,2,3,4,5,6,7,8,9,10,11,12,13,14,15,16,17,18,19],[0,19])])
def Yk.B5:List Nat:=[0,1,0,0,12,28,60,0,128,508,1023,0,0,6144,14336,30720,0,65536,261116,524287,1048575]
theorem Yk.tab5:rtab .any (opsOf Try.f64 5)=Yk.T5:=by kernel_rfl
theorem Yk.bits5:waitsOk Yk.T5.2 Yk.B5=true:=by kernel_rfl
set_option maxHeartbeats 8000000 in
set_option maxRecDepth 100000 in
theorem Yk.calls (k:Nat):∀ (A0:Option Addr) (c0:Nat) (l0:List (S51)) (a1:Int) (r:Int) (w:World) (hr0:Kd.C k51 w A0 l0.length l0) (hc0:l0.length≤c0) (h:Yk.f k l0 a1=some r),
  Calls Try.prog 64 #[.slice A0 l0.length c0,.int .i64 a1] w fun e w'=>e=.returned (.int .i64 r)∧Below w.heap.size w w':=by
 induction k using Nat.strongRecOn with
 |_ k ih=>
 intro A0 c0 l0 a1 r w hr0 hc0 h
 cases k with
 |zero=>exact absurd h (by simp [Yk.f])
 |succ k=>
 simp only [Yk.f] at h;have HR0:=Xa.mk hr0;have HC0:=Xa.mk hc0;clear hr0 hc0;have HB:=Xa.mk (Below.refl w.heap.size w);have H:(Yk.l0 k l0 a1 0 0)=some r:=h;clear h;have H':=Xa.mk H;clear H
 go_enter Try.func64,Try.ntmps64
 go_wp2
 go_loopg [5,6] k (fun kq v5 v6 w'=>∃ (x5_1:Int) (x6_1:Int),v5=.int .i64 x5_1∧v6=.int .i64 x6_1∧Xa (Yk.l0 kq l0 a1 x5_1 x6_1=some r)∧Xa (kq≤k)∧Xa (Below w.heap.size w w'))
 case atStart=>exact ⟨(0),(0),(by first|rfl|(simp;done)|(simp [*];done)),(by first|rfl|(simp;done)|(simp [*];done)),H',⟨Nat.le_refl _⟩,⟨bl_ HB⟩⟩
 case round=>
  clear H'
  try clear p2
  obtain ⟨x5_1,x6_1,rfl,rfl,HA,HK1,HB⟩:=hrel
  cases gk with
  |zero=>exact absurd HA.out (by simp [Yk.l0])
  |succ k1=>
   have H:=HA.out;clear HA;simp only [Yk.l0] at H;have HC3:=Xa.mk H;clear H
   go_upto_region 3 with (fail)
   go_cut [14] (fun v14 wc=>∃ (kq:Nat) (x14_2:Bool),v14=.bool x14_2∧Xa (Yk.j1 kq l0 a1 x5_1 x6_1 x14_2=some r)∧Xa (kq≤k1)∧Xa (Below w.heap.size w wc))
   case first=>
    have H:=HC3.out;clear HC3;by_cases c4:x6_1<(l0.length:Int)
    ·rw [if_pos c4] at H;have c4b0:decide (x6_1<(l0.length:Int))=true:=decide_eq_true c4;clear c4
     (first|rw [c4b0]|(simp only [Xy,Xz];rw [c4b0])|skip)
     have H':=Xa.mk H;clear H;go_wp2
     go_meet
     case rel=>exact ⟨_,(decide (a1 > 0)),(by first|rfl|(simp;done)|(simp [*];done)),H',⟨by have:=HK1.out;first|omega|exact Nat.le_refl _⟩,⟨bl_ HB⟩⟩
    ·rw [if_neg c4] at H;have c4b0:decide (x6_1<(l0.length:Int))=false:=decide_eq_false c4;clear c4
     (first|rw [c4b0]|(simp only [Xy,Xz];rw [c4b0])|skip)
     have H':=Xa.mk H;clear H;go_wp2
     go_meet
     case rel=>exact ⟨_,(false),(by first|rfl|(simp;done)|(simp [*];done)),H',⟨by have:=HK1.out;first|omega|exact Nat.le_refl _⟩,⟨bl_ HB⟩⟩
   case rest=>
    clear HC3
    try clear p2
    try clear c4
    try clear c4b0
    try clear p2
    obtain ⟨kq,x14_2,rfl,HA,HJ2,HB⟩:=hcut
    cases kq with
    |zero=>exact absurd HA.out (by simp [Yk.j1])
    |succ kj2=>
     have H:=HA.out;clear HA;simp only [Yk.j1] at H;by_cases c5:x14_2=true
     ·subst c5
      have H1:(if 0≤x6_1 then (if x6_1<(l0.length:Int) then ((Yk.f kj2 ((Zb l0 x6_1).f4) (wrap64 (a1 - 1))).bind fun t225=>((Yk.f kj2 ((Zb l0 x6_1).f5) (wrap64 (a1 - 1))).bind fun t227=>(Yk.l0 kj2 l0 a1 (wrap64 ((wrap64 ((wrap64 (x5_1+1))+t225))+t227)) (wrap64 (x6_1+1))))) else (none)) else (none))=some r:=by rw [if_pos rfl] at H;exact H
      clear H;have H:=H1;clear H1;by_cases c6:0≤x6_1
      ·rw [if_pos c6] at H;have c6b0:decide (0≤x6_1)=true:=decide_eq_true c6;clear c6;by_cases c7:x6_1<(l0.length:Int)
       ·rw [if_pos c7] at H;have c7b0:decide (x6_1<(l0.length:Int))=true:=decide_eq_true c7;clear c7;replace H:=Option.bind_eq_some_iff.mp H;obtain ⟨t225,A80,H⟩:=H;replace H:((Yk.f kj2 ((Zb l0 x6_1).f5) (wrap64 (a1 - 1))).bind fun t227=>(Yk.l0 kj2 l0 a1 (wrap64 ((wrap64 ((wrap64 (x5_1+1))+t225))+t227)) (wrap64 (x6_1+1))))=some r:=H;have A8:=Xa.mk A80;clear A80;replace H:=Option.bind_eq_some_iff.mp H;obtain ⟨t227,A90,H⟩:=H;replace H:(Yk.l0 kj2 l0 a1 (wrap64 ((wrap64 ((wrap64 (x5_1+1))+t225))+t227)) (wrap64 (x6_1+1)))=some r:=H;have A9:=Xa.mk A90;clear A90;have H':=Xa.mk H;clear H
        try go_wp2
        have n0_:=Xa.mk (below_drew1 HB.out);clear HB;have HB:=n0_;clear n0_;have p224:0≤(x6_1:Int):=of_decide_eq_true (by first|(with_reducible assumption)|assumption);have q224:x6_1<(l0.length:Int):=of_decide_eq_true (by first|(with_reducible assumption)|assumption);obtain ⟨ad224,A224_4,c224_4,A224_5,c224_5,e224,hx224_0,hx224_1,hx224_2,hx224_3,hx224_4,hx224_5,hl224_4,hi224_4,hl224_5,hi224_5⟩:=at_T51 HR0.out x6_1 p224 q224;have hw224_5:=hx224_5;have hw224_4:=hx224_4;have hw224_3:=hx224_3;have hw224_2:=hx224_2;have hw224_1:=hx224_1;have hw224_0:=hx224_0;cases e224
        replace hx224_0:=(HB.out.cell (World.block_lt_of_cell? w _ hx224_0)).trans hx224_0;replace hx224_1:=(HB.out.cell (World.block_lt_of_cell? w _ hx224_1)).trans hx224_1;replace hx224_2:=(HB.out.cell (World.block_lt_of_cell? w _ hx224_2)).trans hx224_2;replace hx224_3:=(HB.out.cell (World.block_lt_of_cell? w _ hx224_3)).trans hx224_3;replace hx224_4:=(HB.out.cell (World.block_lt_of_cell? w _ hx224_4)).trans hx224_4;replace hx224_5:=(HB.out.cell (World.block_lt_of_cell? w _ hx224_5)).trans hx224_5;have HR224_4:=Xa.mk hi224_4;have HC224_4:=Xa.mk hl224_4;clear hi224_4 hl224_4;have HR224_5:=Xa.mk hi224_5;have HC224_5:=Xa.mk hl224_5;clear hi224_5 hl224_5;replace p224:=eq_true p224;replace q224:=eq_true q224;have p226:0≤(x6_1:Int):=of_decide_eq_true (by first|(with_reducible assumption)|assumption);have q226:x6_1<(l0.length:Int):=of_decide_eq_true (by first|(with_reducible assumption)|assumption);obtain ⟨ad226,A226_4,c226_4,A226_5,c226_5,e226,hx226_0,hx226_1,hx226_2,hx226_3,hx226_4,hx226_5,hl226_4,hi226_4,hl226_5,hi226_5⟩:=at_T51 HR0.out x6_1 p226 q226;have hw226_5:=hx226_5;have hw226_4:=hx226_4;have hw226_3:=hx226_3;have hw226_2:=hx226_2;have hw226_1:=hx226_1;have hw226_0:=hx226_0;obtain rfl:ad224=ad226:=(by injection e226);replace hx226_0:=(HB.out.cell (World.block_lt_of_cell? w _ hx226_0)).trans hx226_0;replace hx226_1:=(HB.out.cell (World.block_lt_of_cell? w _ hx226_1)).trans hx226_1;replace hx226_2:=(HB.out.cell (World.block_lt_of_cell? w _ hx226_2)).trans hx226_2;replace hx226_3:=(HB.out.cell (World.block_lt_of_cell? w _ hx226_3)).trans hx226_3;replace hx226_4:=(HB.out.cell (World.block_lt_of_cell? w _ hx226_4)).trans hx226_4;replace hx226_5:=(HB.out.cell (World.block_lt_of_cell? w _ hx226_5)).trans hx226_5;have HR226_4:=Xa.mk hi226_4;have HC226_4:=Xa.mk hl226_4;clear hi226_4 hl226_4;have HR226_5:=Xa.mk hi226_5;have HC226_5:=Xa.mk hl226_5;clear hi226_5 hl226_5;replace p226:=eq_true p226;replace q226:=eq_true q226;have ea_:=Option.some.inj (hx224_4.symm.trans hx226_4)
        injection ea_ with ea_ en_ ec_
        subst ea_;subst ec_;clear en_;have ea_:=Option.some.inj (hx224_5.symm.trans hx226_5)
        injection ea_ with ea_ en_ ec_
        subst ea_;subst ec_;clear en_;refine start_ (n:=21) (S:=fun w'=>w'.cell? (ad224.add ((x6_1).toNat * 6))=some (.int .i64 ((Zb l0 x6_1).f0))∧w'.cell? ⟨(ad224.add ((x6_1).toNat * 6)).block,(ad224.add ((x6_1).toNat * 6)).off+1,none⟩=some (.int .i64 ((Zb l0 x6_1).f1))∧w'.cell? ⟨(ad224.add ((x6_1).toNat * 6)).block,(ad224.add ((x6_1).toNat * 6)).off+2,none⟩=some (.int .i64 ((Zb l0 x6_1).f2))∧w'.cell? ⟨(ad224.add ((x6_1).toNat * 6)).block,(ad224.add ((x6_1).toNat * 6)).off+3,none⟩=some (.int .i64 ((Zb l0 x6_1).f3))∧w'.cell? ⟨(ad224.add ((x6_1).toNat * 6)).block,(ad224.add ((x6_1).toNat * 6)).off+4,none⟩=some (.slice A224_4 ((Zb l0 x6_1).f4).length c224_4)∧w'.cell? ⟨(ad224.add ((x6_1).toNat * 6)).block,(ad224.add ((x6_1).toNat * 6)).off+5,none⟩=some (.slice A224_5 ((Zb l0 x6_1).f5).length c224_5)∧w'.cell? (ad224.add ((x6_1).toNat * 6))=some (.int .i64 ((Zb l0 x6_1).f0))∧w'.cell? ⟨(ad224.add ((x6_1).toNat * 6)).block,(ad224.add ((x6_1).toNat * 6)).off+1,none⟩=some (.int .i64 ((Zb l0 x6_1).f1))∧w'.cell? ⟨(ad224.add ((x6_1).toNat * 6)).block,(ad224.add ((x6_1).toNat * 6)).off+2,none⟩=some (.int .i64 ((Zb l0 x6_1).f2))∧w'.cell? ⟨(ad224.add ((x6_1).toNat * 6)).block,(ad224.add ((x6_1).toNat * 6)).off+3,none⟩=some (.int .i64 ((Zb l0 x6_1).f3))∧w'.cell? ⟨(ad224.add ((x6_1).toNat * 6)).block,(ad224.add ((x6_1).toNat * 6)).off+4,none⟩=some (.slice A224_4 ((Zb l0 x6_1).f4).length c224_4)∧w'.cell? ⟨(ad224.add ((x6_1).toNat * 6)).block,(ad224.add ((x6_1).toNat * 6)).off+5,none⟩=some (.slice A224_5 ((Zb l0 x6_1).f5).length c224_5)) (ds:=[]) #[false,false,false,false,false,false,false,false,false,false,false,false,false,false,false,false,false,false,false,false,false] (by kernel_rfl) rfl rfl ⟨((HB.out.cell (World.block_lt_of_cell? w _ hw224_0)).trans hw224_0),((HB.out.cell (World.block_lt_of_cell? w _ hw224_1)).trans hw224_1),((HB.out.cell (World.block_lt_of_cell? w _ hw224_2)).trans hw224_2),((HB.out.cell (World.block_lt_of_cell? w _ hw224_3)).trans hw224_3),((HB.out.cell (World.block_lt_of_cell? w _ hw224_4)).trans hw224_4),((HB.out.cell (World.block_lt_of_cell? w _ hw224_5)).trans hw224_5),((HB.out.cell (World.block_lt_of_cell? w _ hw226_0)).trans hw226_0),((HB.out.cell (World.block_lt_of_cell? w _ hw226_1)).trans hw226_1),((HB.out.cell (World.block_lt_of_cell? w _ hw226_2)).trans hw226_2),((HB.out.cell (World.block_lt_of_cell? w _ hw226_3)).trans hw226_3),((HB.out.cell (World.block_lt_of_cell? w _ hw226_4)).trans hw226_4),((HB.out.cell (World.block_lt_of_cell? w _ hw226_5)).trans hw226_5)⟩ (fun hHeld=>?_);refine with_tabW Yk.tab5 Yk.bits5 (fun HT_ HW_=>?_)
        generalize wc.drew=w10 at HB HR224_4 HR224_5 HR226_4 HR226_5 hx224_0 hx224_1 hx224_2 hx224_3 hx224_4 hx224_5 hx226_0 hx226_1 hx226_2 hx226_3 hx226_4 hx226_5 hHeld ⊢
        refine Zf (i:=0) (N:=some 17) (v:=?_) (a':=?_) #[true,false,false,false,false,false,false,false,false,false,false,false,false,false,false,false,false,false,false,false,false] rfl rfl (Za HT_.out (by kernel_rfl)) (fun _ _ _ h=>h) (Or.inl ⟨by rfl,?_⟩) ?_ ?_
        rotate_left
        ·intro w';go_simp
         with_reducible rfl
        rotate_left
        ·simp only [Act.put,List.setIfInBounds_toArray,List.set_cons_zero,List.set_cons_succ,Xy,Xz];rfl
        refine Zf (i:=1) (N:=some 18) (v:=?_) (a':=?_) #[true,true,false,false,false,false,false,false,false,false,false,false,false,false,false,false,false,false,false,false,false] rfl rfl (Za HT_.out (by kernel_rfl)) (fun _ _ _ h=>h) (Or.inl ⟨by rfl,?_⟩) ?_ ?_
        rotate_left
        ·intro w';go_simp
         with_reducible rfl
        rotate_left
        ·simp only [Act.put,List.setIfInBounds_toArray,List.set_cons_zero,List.set_cons_succ,Xy,Xz];rfl
        refine Zf (i:=2) (N:=some 19) (v:=?_) (a':=?_) #[true,true,true,false,false,false,false,false,false,false,false,false,false,false,false,false,false,false,false,false,false] rfl rfl (Za HT_.out (by kernel_rfl)) (fun _ _ _ h=>h) (Or.inl ⟨by rfl,?_⟩) ?_ ?_
        rotate_left
        ·intro w';go_simp
         with_reducible rfl
        rotate_left
        ·simp only [Act.put,List.setIfInBounds_toArray,List.set_cons_zero,List.set_cons_succ,Xy,Xz];rfl
        refine Zf (i:=3) (N:=some 20) (v:=?_) (a':=?_) #[true,true,true,true,false,false,false,false,false,false,false,false,false,false,false,false,false,false,false,false,false] rfl rfl (Za HT_.out (by kernel_rfl)) (fun _ _ _ h=>h) (Or.inl ⟨by rfl,?_⟩) ?_ ?_
        rotate_left
        ·intro w';go_simp
         with_reducible rfl
        rotate_left
        ·simp only [Act.put,List.setIfInBounds_toArray,List.set_cons_zero,List.set_cons_succ,Xy,Xz];rfl
        refine Zf (i:=4) (N:=some 21) (v:=?_) (a':=?_) #[true,true,true,true,true,false,false,false,false,false,false,false,false,false,false,false,false,false,false,false,false] rfl rfl (Za HT_.out (by kernel_rfl)) (fun _ _ _ h=>h) (Or.inl ⟨by rfl,?_⟩) ?_ ?_
        rotate_left
        ·intro w';go_simp
         with_reducible rfl
        rotate_left
        ·simp only [Act.put,List.setIfInBounds_toArray,List.set_cons_zero,List.set_cons_succ,Xy,Xz];rfl
        refine Zf (i:=5) (N:=some 22) (v:=?_) (a':=?_) #[true,true,true,true,true,true,false,false,false,false,false,false,false,false,false,false,false,false,false,false,false] rfl rfl (Za HT_.out (by kernel_rfl)) (fun _ _ _ h=>h) (Or.inl ⟨by rfl,?_⟩) ?_ ?_
        rotate_left
        ·intro w';go_simp
         with_reducible rfl
        rotate_left
        ·simp only [Act.put,List.setIfInBounds_toArray,List.set_cons_zero,List.set_cons_succ,Xy,Xz];rfl
        refine Zf (i:=7) (N:=some 24) (v:=?_) (a':=?_) #[true,true,true,true,true,true,false,true,false,false,false,false,false,false,false,false,false,false,false,false,false] rfl rfl (Za HT_.out (by kernel_rfl)) (fun _ _ _ h=>h) (Or.inl ⟨by rfl,?_⟩) ?_ ?_
        rotate_left
        ·intro w';go_simp
         with_reducible rfl
        rotate_left
        ·simp only [Act.put,List.setIfInBounds_toArray,List.set_cons_zero,List.set_cons_succ,Xy,Xz];rfl
        refine Zf (i:=8) (N:=some 25) (v:=?_) (a':=?_) #[true,true,true,true,true,true,false,true,true,false,false,false,false,false,false,false,false,false,false,false,false] rfl rfl (Za HT_.out (by kernel_rfl)) (fun _ _ _ h=>h) (Or.inl ⟨by rfl,?_⟩) ?_ ?_
        rotate_left
        ·intro w';go_simp
         with_reducible rfl
        rotate_left
        ·simp only [Act.put,List.setIfInBounds_toArray,List.set_cons_zero,List.set_cons_succ,Xy,Xz];rfl
        refine Zf (i:=11) (N:=some 28) (v:=?_) (a':=?_) #[true,true,true,true,true,true,false,true,true,false,false,true,false,false,false,false,false,false,false,false,false] rfl rfl (Za HT_.out (by kernel_rfl)) (fun _ _ _ h=>h) (Or.inl ⟨by rfl,?_⟩) ?_ ?_
        rotate_left
        ·intro w';go_simp
         with_reducible rfl
        rotate_left
        ·simp only [Act.put,List.setIfInBounds_toArray,List.set_cons_zero,List.set_cons_succ,Xy,Xz];rfl
        refine Zf (i:=12) (N:=some 29) (v:=?_) (a':=?_) #[true,true,true,true,true,true,false,true,true,false,false,true,true,false,false,false,false,false,false,false,false] rfl rfl (Za HT_.out (by kernel_rfl)) (fun _ _ _ h=>h) (Or.inl ⟨by rfl,?_⟩) ?_ ?_
        rotate_left
        ·intro w';go_simp
         with_reducible rfl
        rotate_left
        ·simp only [Act.put,List.setIfInBounds_toArray,List.set_cons_zero,List.set_cons_succ,Xy,Xz];rfl
        refine Zf (i:=13) (N:=some 30) (v:=?_) (a':=?_) #[true,true,true,true,true,true,false,true,true,false,false,true,true,true,false,false,false,false,false,false,false] rfl rfl (Za HT_.out (by kernel_rfl)) (fun _ _ _ h=>h) (Or.inl ⟨by rfl,?_⟩) ?_ ?_
        rotate_left
        ·intro w';go_simp
         with_reducible rfl
        rotate_left
        ·simp only [Act.put,List.setIfInBounds_toArray,List.set_cons_zero,List.set_cons_succ,Xy,Xz];rfl
        refine Zf (i:=14) (N:=some 31) (v:=?_) (a':=?_) #[true,true,true,true,true,true,false,true,true,false,false,true,true,true,true,false,false,false,false,false,false] rfl rfl (Za HT_.out (by kernel_rfl)) (fun _ _ _ h=>h) (Or.inl ⟨by rfl,?_⟩) ?_ ?_
        rotate_left
        ·intro w';go_simp
         with_reducible rfl
        rotate_left
        ·simp only [Act.put,List.setIfInBounds_toArray,List.set_cons_zero,List.set_cons_succ,Xy,Xz];rfl
        refine Zf (i:=16) (N:=some 33) (v:=?_) (a':=?_) #[true,true,true,true,true,true,false,true,true,false,false,true,true,true,true,false,true,false,false,false,false] rfl rfl (Za HT_.out (by kernel_rfl)) (fun _ _ _ h=>h) (Or.inl ⟨by rfl,?_⟩) ?_ ?_
        rotate_left
        ·intro w';go_simp
         with_reducible rfl
        rotate_left
        ·simp only [Act.put,List.setIfInBounds_toArray,List.set_cons_zero,List.set_cons_succ,Xy,Xz];rfl
        refine Zf (i:=17) (N:=some 34) (v:=?_) (a':=?_) #[true,true,true,true,true,true,false,true,true,false,false,true,true,true,true,false,true,true,false,false,false] rfl rfl (Za HT_.out (by kernel_rfl)) (fun _ _ _ h=>h) (Or.inl ⟨by rfl,?_⟩) ?_ ?_
        rotate_left
        ·intro w';go_simp
         with_reducible rfl
        rotate_left
        ·simp only [Act.put,List.setIfInBounds_toArray,List.set_cons_zero,List.set_cons_succ,Xy,Xz];rfl
        refine take_ (i:=6) (N:=some 23) (v:=?_) (a':=?_) #[true,true,true,true,true,true,true,true,true,false,false,true,true,true,true,false,true,true,false,false,false] rfl rfl (take_ofW HT_.out HW_.out (by kernel_rfl)) (fun _ _ _ h=>h) (Or.inl ⟨by rfl,?_⟩) hHeld ?_ ?_
        rotate_left
        ·rintro w' ⟨s0,s1,s2,s3,s4,s5,s6,s7,s8,s9,s10,s11⟩
         go_simp
         with_reducible rfl
        rotate_left
        ·simp only [Act.put,List.setIfInBounds_toArray,List.set_cons_zero,List.set_cons_succ,Xy,Xz];rfl
        refine take_ (i:=15) (N:=some 32) (v:=?_) (a':=?_) #[true,true,true,true,true,true,true,true,true,false,false,true,true,true,true,true,true,true,false,false,false] rfl rfl (take_ofW HT_.out HW_.out (by kernel_rfl)) (fun _ _ _ h=>h) (Or.inl ⟨by rfl,?_⟩) hHeld ?_ ?_
        rotate_left
        ·rintro w' ⟨s0,s1,s2,s3,s4,s5,s6,s7,s8,s9,s10,s11⟩
         go_simp
         with_reducible rfl
        rotate_left
        ·simp only [Act.put,List.setIfInBounds_toArray,List.set_cons_zero,List.set_cons_succ,Xy,Xz];rfl
        refine one_ (i:=9) (N:=some 26) #[true,true,true,true,true,true,true,true,true,true,false,true,true,true,true,true,true,true,false,false,false] rfl rfl (one_of HT_.out (by kernel_rfl)) (by decide) (fun K hK=>?_)
        refine goes_ Try.func64 (by kernel_rfl) rfl #[.slice A224_4 ((Zb l0 x6_1).f4).length c224_4,.int .i64 (wrap64 (a1 - 1))] (by rfl) rfl rfl ga_ ?_
        with_reducible refine (ih kj2 (by have:=HK1.out;have:=HJ2.out;omega) _ _ ((Zb l0 x6_1).f4) (wrap64 (a1 - 1)) t225 _ ?side1 ?side2 A8.out).mono ?_
        (case side1=>repeat (first|exact (Kd.Zi HR224_4.out HB.out)|(with_reducible refine Kd.Xq ?_ _)|(with_reducible refine Kd.Xr ?_ _)|(with_reducible refine Kd.Yc ?_)))
        (case side2=>exact HC224_4.out)
        rintro e w11 ⟨rfl,hb⟩
        refine ⟨_,rfl,?_⟩
        have n0_:=Xa.mk (Xd (bl_ HB) hb);clear HB;have HB:=n0_;clear n0_
        (try clear hb)
        (try clear hb2)
        (try clear hk)
        (try clear hi)
        refine hK.out _ _ ⟨((HB.out.cell (World.block_lt_of_cell? w _ hw224_0)).trans hw224_0),((HB.out.cell (World.block_lt_of_cell? w _ hw224_1)).trans hw224_1),((HB.out.cell (World.block_lt_of_cell? w _ hw224_2)).trans hw224_2),((HB.out.cell (World.block_lt_of_cell? w _ hw224_3)).trans hw224_3),((HB.out.cell (World.block_lt_of_cell? w _ hw224_4)).trans hw224_4),((HB.out.cell (World.block_lt_of_cell? w _ hw224_5)).trans hw224_5),((HB.out.cell (World.block_lt_of_cell? w _ hw226_0)).trans hw226_0),((HB.out.cell (World.block_lt_of_cell? w _ hw226_1)).trans hw226_1),((HB.out.cell (World.block_lt_of_cell? w _ hw226_2)).trans hw226_2),((HB.out.cell (World.block_lt_of_cell? w _ hw226_3)).trans hw226_3),((HB.out.cell (World.block_lt_of_cell? w _ hw226_4)).trans hw226_4),((HB.out.cell (World.block_lt_of_cell? w _ hw226_5)).trans hw226_5)⟩ (fun hHeld=>?_)
        clear hK K;refine Vr (a':=?_) ?_ ?_
        rotate_left
        ·show Act.put _ (some 26) _=_
         simp only [Act.put,List.setIfInBounds_toArray,List.set_cons_zero,List.set_cons_succ,Xy,Xz];rfl
        refine Zf (i:=10) (N:=some 27) (v:=?_) (a':=?_) #[true,true,true,true,true,true,true,true,true,true,true,true,true,true,true,true,true,true,false,false,false] rfl rfl (Za HT_.out (by kernel_rfl)) (fun _ _ _ h=>h) (Or.inl ⟨by rfl,?_⟩) ?_ ?_
        rotate_left
        ·intro w';go_simp
         with_reducible rfl
        rotate_left
        ·simp only [Act.put,List.setIfInBounds_toArray,List.set_cons_zero,List.set_cons_succ,Xy,Xz];rfl
        refine one_ (i:=18) (N:=some 35) #[true,true,true,true,true,true,true,true,true,true,true,true,true,true,true,true,true,true,true,false,false] rfl rfl (one_of HT_.out (by kernel_rfl)) (by decide) (fun K hK=>?_)
        refine goes_ Try.func64 (by kernel_rfl) rfl #[.slice A224_5 ((Zb l0 x6_1).f5).length c224_5,.int .i64 (wrap64 (a1 - 1))] (by rfl) rfl rfl ga_ ?_
        with_reducible refine (ih kj2 (by have:=HK1.out;have:=HJ2.out;omega) _ _ ((Zb l0 x6_1).f5) (wrap64 (a1 - 1)) t227 _ ?side1 ?side2 A9.out).mono ?_
        (case side1=>repeat (first|exact (Kd.Zi HR226_5.out HB.out)|(with_reducible refine Kd.Xq ?_ _)|(with_reducible refine Kd.Xr ?_ _)|(with_reducible refine Kd.Yc ?_)))
        (case side2=>exact HC226_5.out)
        rintro e w12 ⟨rfl,hb⟩
        refine ⟨_,rfl,?_⟩
        have n0_:=Xa.mk (Xd (bl_ HB) hb);clear HB;have HB:=n0_;clear n0_
        (try clear hb)
        (try clear hb2)
        (try clear hk)
        (try clear hi)
        refine hK.out _ _ ⟨((HB.out.cell (World.block_lt_of_cell? w _ hw224_0)).trans hw224_0),((HB.out.cell (World.block_lt_of_cell? w _ hw224_1)).trans hw224_1),((HB.out.cell (World.block_lt_of_cell? w _ hw224_2)).trans hw224_2),((HB.out.cell (World.block_lt_of_cell? w _ hw224_3)).trans hw224_3),((HB.out.cell (World.block_lt_of_cell? w _ hw224_4)).trans hw224_4),((HB.out.cell (World.block_lt_of_cell? w _ hw224_5)).trans hw224_5),((HB.out.cell (World.block_lt_of_cell? w _ hw226_0)).trans hw226_0),((HB.out.cell (World.block_lt_of_cell? w _ hw226_1)).trans hw226_1),((HB.out.cell (World.block_lt_of_cell? w _ hw226_2)).trans hw226_2),((HB.out.cell (World.block_lt_of_cell? w _ hw226_3)).trans hw226_3),((HB.out.cell (World.block_lt_of_cell? w _ hw226_4)).trans hw226_4),((HB.out.cell (World.block_lt_of_cell? w _ hw226_5)).trans hw226_5)⟩ (fun hHeld=>?_)
        clear hK K;refine Vr (a':=?_) ?_ ?_
        rotate_left
        ·show Act.put _ (some 35) _=_
         simp only [Act.put,List.setIfInBounds_toArray,List.set_cons_zero,List.set_cons_succ,Xy,Xz];rfl
        refine Zf (i:=19) (N:=some 36) (v:=?_) (a':=?_) #[true,true,true,true,true,true,true,true,true,true,true,true,true,true,true,true,true,true,true,true,false] rfl rfl (Za HT_.out (by kernel_rfl)) (fun _ _ _ h=>h) (Or.inl ⟨by rfl,?_⟩) ?_ ?_
        rotate_left
        ·intro w';go_simp
         with_reducible rfl
        rotate_left
        ·simp only [Act.put,List.setIfInBounds_toArray,List.set_cons_zero,List.set_cons_succ,Xy,Xz];rfl
        refine Zf (i:=20) (N:=some 5) (v:=?_) (a':=?_) #[true,true,true,true,true,true,true,true,true,true,true,true,true,true,true,true,true,true,true,true,true] rfl rfl (Za HT_.out (by kernel_rfl)) (fun _ _ _ h=>h) (Or.inl ⟨by rfl,?_⟩) ?_ ?_
        rotate_left
        ·intro w';go_simp
         with_reducible rfl
        rotate_left
        ·simp only [Act.put,List.setIfInBounds_toArray,List.set_cons_zero,List.set_cons_succ,Xy,Xz];rfl
        refine done_ (done_of HT_.out (by kernel_rfl)) ?_
        try go_wp2
        go_roundg kj2
        case measure=>have:=HK1.out;have:=HJ2.out;omega
        case rel=>exact ⟨(wrap64 ((wrap64 ((wrap64 (x5_1+1))+t225))+t227)),(wrap64 (x6_1+1)),(by first|rfl|(simp;done)|(simp [*];done)),(by first|rfl|(simp;done)|(simp [*];done)),H',⟨by have:=HK1.out;have:=HJ2.out;omega⟩,⟨bl_ HB⟩⟩
       ·rw [if_neg c7] at H;exact absurd H (by simp)
      ·rw [if_neg c6] at H;exact absurd H (by simp)
     ·replace c5:=Bool.eq_false_iff.mpr c5;subst c5
      have H1:(some x5_1)=some r:=by rw [if_neg (show ¬ (false=true) by decide)] at H;exact H
      clear H;have H:=H1;clear H1;obtain rfl:=Option.some.inj H;go_wp2
      go_ret
      exact ⟨rf_,bl_ HB⟩
def Vd.f (k:Nat) (l0:List (S51)):Option (Bool):=(Yx.f k l0 3 (-1)).bind fun t228=>(if t228=true then ((Yk.f k l0 3).bind fun t229=>(some (decide (t229≤14)))) else (some false))
set_option maxHeartbeats 8000000 in
set_option maxRecDepth 100000 in
theorem Vd.calls (k:Nat) (A0:Option Addr) (c0:Nat) (l0:List (S51)) (r:Bool) (w:World) (hr0:Kd.C k51 w A0 l0.length l0) (hc0:l0.length≤c0) (h:Vd.f k l0=some r) :
  Calls Try.prog 53 #[.slice A0 l0.length c0] w fun e w'=>e=.returned (.bool r)∧Below w.heap.size w w':=by
 have HR0:=Xa.mk hr0;have HC0:=Xa.mk hc0;clear hr0 hc0;have HB:=Xa.mk (Below.refl w.heap.size w);have H:((Yx.f k l0 3 (-1)).bind fun t228=>(if t228=true then ((Yk.f k l0 3).bind fun t229=>(some (decide (t229≤14)))) else (some false)))=some r:=h;clear h;replace H:=Option.bind_eq_some_iff.mp H;obtain ⟨t228,A20,H⟩:=H;replace H:(if t228=true then ((Yk.f k l0 3).bind fun t229=>(some (decide (t229≤14)))) else (some false))=some r:=H;have A2:=Xa.mk A20;clear A20;by_cases c3:t228=true
 ·subst c3
  have H1:((Yk.f k l0 3).bind fun t229=>(some (decide (t229≤14))))=some r:=by rw [if_pos rfl] at H;exact H
  clear H;have H:=H1;clear H1;replace H:=Option.bind_eq_some_iff.mp H;obtain ⟨t229,A40,H⟩:=H;replace H:(some (decide (t229≤14)))=some r:=H;have A4:=Xa.mk A40;clear A40;obtain rfl:=Option.some.inj H
  go_enter Try.func53,Try.ntmps53
  go_wp2_with (first|((with_reducible refine Xf (f:=63) rfl ?_);refine Yf (some 4) rfl rfl Try.func63 (by kernel_rfl) rfl #[.slice A0 l0.length c0,.int .i64 3,.int .i64 (-1)] rfl ga_ ?_;(with_reducible refine (Yx.calls k _ _ l0 3 (-1) true _ ?side1 ?side2 A2.out).mono ?_);(case side1=>repeat (first|exact HR0.out|(with_reducible refine Kd.Xq ?_ _)|(with_reducible refine Kd.Xr ?_ _)|(with_reducible refine Kd.Yc ?_)));(case side2=>exact HC0.out);rintro e w5 ⟨rfl,hb⟩;refine ⟨_,rfl,?_⟩;have n0_:=Xa.mk (Xd (bl_ HB) hb);clear HB;have HB:=n0_;clear n0_;(try clear hb);(try clear hb2);(try clear hk);(try clear hi))|(go_at_call 64;(with_reducible refine (Yk.calls k _ _ l0 3 t229 _ ?side1 ?side2 A4.out).mono ?_);(case side1=>repeat (first|exact (Kd.Zi HR0.out HB.out)|(with_reducible refine Kd.Xq ?_ _)|(with_reducible refine Kd.Xr ?_ _)|(with_reducible refine Kd.Yc ?_)));(case side2=>exact HC0.out);rintro e w6 ⟨rfl,hb⟩;have n0_:=Xa.mk (Xd (bl_ HB) hb);clear HB;have HB:=n0_;clear n0_;(try clear hb);(try clear hb2);(try clear hk);(try clear hi)))
  go_ret
  exact ⟨rf_,bl_ HB⟩
 ·replace c3:=Bool.eq_false_iff.mpr c3;subst c3
  have H1:(some false)=some r:=by rw [if_neg (show ¬ (false=true) by decide)] at H;exact H
  clear H;have H:=H1;clear H1;obtain rfl:=Option.some.inj H
  go_enter Try.func53,Try.ntmps53
  go_wp2_with (first|((with_reducible refine Xf (f:=63) rfl ?_);refine Yf (some 4) rfl rfl Try.func63 (by kernel_rfl) rfl #[.slice A0 l0.length c0,.int .i64 3,.int .i64 (-1)] rfl ga_ ?_;(with_reducible refine (Yx.calls k _ _ l0 3 (-1) false _ ?side1 ?side2 A2.out).mono ?_);(case side1=>repeat (first|exact HR0.out|(with_reducible refine Kd.Xq ?_ _)|(with_reducible refine Kd.Xr ?_ _)|(with_reducible refine Kd.Yc ?_)));(case side2=>exact HC0.out);rintro e w7 ⟨rfl,hb⟩;refine ⟨_,rfl,?_⟩;have n0_:=Xa.mk (Xd (bl_ HB) hb);clear HB;have HB:=n0_;clear n0_;(try clear hb);(try clear hb2);(try clear hk);(try clear hi)))
  go_ret
  exact ⟨rf_,bl_ HB⟩
end Go.Proofs.Ytdkcjecllbdljaa.GSlim
