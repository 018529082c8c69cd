import Derived.Test.YtdkcjecllbdljaaCFnSlim21
import Derived.Test.YtdkcjecllbdljaaCFnSlim22
import Derived.Test.YtdkcjecllbdljaaCFnSlim23
namespace Go.Proofs.Ytdkcjecllbdljaa.GSlim
open Go.RowKit Go.Proofs.YtdkcjecllbdljaaW.PrintWords Go.Proofs.YtdkcjecllbdljaaW.PrintLast Go.Proofs.YtdkcjecllbdljaaW.PrintMore
attribute [local go_sem] Zv Zx Un Uo Zm Zn Zw Zy
set_option linter.unusedVariables false
set_option linter.unusedSimpArgs false
mutual
def Xw.l0:Nat→List (S31)→Int→List Int→Int→Option ((List (S31)) × Int)
 |0,_,_,_,_=>none
 |k+1,x1,x5,x1000,x1001=>if x5 > 0 then (if (x1.length:Int) > 0 then (Xw.j1 k x1 x5 (decide ((x1.length:Int)<58)) x1000 x1001) else (Xw.j1 k x1 x5 false x1000 x1001)) else (Xw.j1 k x1 x5 false x1000 x1001)
def Xw.j1:Nat→List (S31)→Int→Bool→List Int→Int→Option ((List (S31)) × Int)
 |0,_,_,_,_,_=>none
 |k+1,x1,x5,x23,x1000,x1001=>if x23=true then ((Xh.f k x1000 x1001 (x1.length:Int)).bind fun bt190=>(Xw.l1 k x1 x5 bt190.1 (([]:List (S31))) 0 x1000 bt190.2)) else ((Yu.f k x1000 x1001 x1).bind fun bt186=>(some (bt186.1,bt186.2)))
def Xw.l1:Nat→List (S31)→Int→Int→List (S31)→Int→List Int→Int→Option ((List (S31)) × Int)
 |0,_,_,_,_,_,_,_=>none
 |k+1,x1,x5,x6,x7,x8,x1000,x1001=>if x8<(x1.length:Int) then (if 0≤x8 then (if ((Xb x1 x8).f0)=7 then (Xw.j3 k x1 x5 x6 x7 x8 (decide (((Xb x1 x8).f3) > x6)) x1000 x1001 ((Xb x1 x8).f0) ((Xb x1 x8).f1) ((Xb x1 x8).f2) ((Xb x1 x8).f3)) else (if ((Xb x1 x8).f0)=6 then (Xw.j3 k x1 x5 x6 x7 x8 (decide (((Xb x1 x8).f3) > x6)) x1000 x1001 ((Xb x1 x8).f0) ((Xb x1 x8).f1) ((Xb x1 x8).f2) ((Xb x1 x8).f3)) else (Xw.j3 k x1 x5 x6 x7 x8 false x1000 x1001 ((Xb x1 x8).f0) ((Xb x1 x8).f1) ((Xb x1 x8).f2) ((Xb x1 x8).f3)))) else (none)) else (Xw.l0 k x7 (wrap64 (x5 - 1)) x1000 x1001)
def Xw.j3:Nat→List (S31)→Int→Int→List (S31)→Int→Bool→List Int→Int→Int→Int→Int→Int→Option ((List (S31)) × Int)
 |0,_,_,_,_,_,_,_,_,_,_,_,_=>none
 |k+1,x1,x5,x6,x7,x8,x54,x1000,x1001,x197000,x197001,x197002,x197003=>if x54=true then (if x8=x6 then (if x7.length<4398046511104 then ((some (x7 ++ [(⟨7,0,0,wrap64 (x6+1)⟩:S31)]:List (S31))).bind fun y197=>(if y197.length<4398046511104 then (Xw.l1 k x1 x5 x6 (y197 ++ [(⟨x197000,x197001,x197002,wrap64 (x197003+1)⟩:S31)]) (wrap64 (x8+1)) x1000 x1001) else (none))) else (none)) else (if x7.length<4398046511104 then (Xw.l1 k x1 x5 x6 (x7 ++ [(⟨x197000,x197001,x197002,wrap64 (x197003+1)⟩:S31)]) (wrap64 (x8+1)) x1000 x1001) else (none))) else (if x8=x6 then (if x7.length<4398046511104 then ((some (x7 ++ [(⟨7,0,0,wrap64 (x6+1)⟩:S31)]:List (S31))).bind fun y206=>(if y206.length<4398046511104 then (Xw.l1 k x1 x5 x6 (y206 ++ [(⟨x197000,x197001,x197002,x197003⟩:S31)]) (wrap64 (x8+1)) x1000 x1001) else (none))) else (none)) else (if x7.length<4398046511104 then (Xw.l1 k x1 x5 x6 (x7 ++ [(⟨x197000,x197001,x197002,x197003⟩:S31)]) (wrap64 (x8+1)) x1000 x1001) else (none)))
end
def Xw.f (k:Nat) (s0_0:List Int) (s0_1:Int) (l1:List (S31)):Option ((List (S31)) × Int):=(Xh.f k s0_0 s0_1 4).bind fun bt184=>(Xw.l0 k l1 bt184.1 s0_0 bt184.2)
set_option maxHeartbeats 8000000 in
set_option maxRecDepth 100000 in
theorem Xw.calls (k:Nat) (g:Nat) (s0_0:List Int) (s0_1:Int) (P1_:Nat→Prop) (A1:Option Addr) (c1:Nat) (l1:List (S31)) (r1:List (S31)) (r2:Int) (w0 w:World) (hI:Xm w0 w g s0_0 s0_1) (hB:Below w0.heap.size w0 w) (hs1:Kd.V k31 31 w w.heap.size (fun k_=>P1_ k_∧k_≠g) (.slice A1 l1.length c1) l1) (h:Xw.f k s0_0 s0_1 l1=some (r1,r2)) :
  Calls Try.prog 33 #[.pointer (some ⟨g,0,none⟩),.slice A1 l1.length c1] w fun e w'=>∃ v0_:Value,e=.returned (v0_)∧Kd.R k31 31 w' w.heap.size (fun k_=>(w.heap.size≤k_)) v0_ r1∧Xm w0 w' g s0_0 r2∧Below w0.heap.size w0 w'∧Xg w w' g none:=by
 have hu31:=Try.underlying31;have HO1:=Xa.mk (show Kd.V k31 31 w w.heap.size (fun k_=>(P1_ k_∨w.heap.size≤k_)∧k_≠g) (.slice A1 l1.length c1) l1 from Kd.Vl hs1 (fun k_ hk=>⟨.inl hk.1,hk.2⟩));have HI0:=Xa.mk hI;have HK:=Xa.mk (Xg.refl w g none);have HL:=Xa.mk hB.size;clear hI;have HW0:=Xa.mk hB.size;have HB:=Xa.mk hB;clear hB;have H:((Xh.f k s0_0 s0_1 4).bind fun bt184=>(Xw.l0 k l1 bt184.1 s0_0 bt184.2))=some (r1,r2):=h;clear h;replace H:=Option.bind_eq_some_iff.mp H;obtain ⟨⟨t184,t185⟩,A30,H⟩:=H;replace H:(Xw.l0 k l1 t184 s0_0 t185)=some (r1,r2):=H;have A3:=Xa.mk A30;clear A30;have H':=Xa.mk H;clear H
 go_enter Try.func33,Try.ntmps33
 go_wp2_with (first|((with_reducible refine Xf (f:=51) rfl ?_);refine Yf (some 11) rfl rfl Try.func51 (by kernel_rfl) rfl #[.pointer (some ⟨g,0,none⟩),.int .i64 4] rfl ga_ ?_;(with_reducible refine (Xh.calls k g s0_0 s0_1 4 t184 t185 w0 _ ?side1 ?side2 A3.out).mono ?_);(case side1=>exact Xu HI0);(case side2=>exact Yh HB);rintro e w4 ⟨rfl,hi,hb,hk⟩;refine ⟨_,rfl,?_⟩;have n0_:=Xa.mk (Kd.Vl (Kd.V_keep (Kd.Vl (ok:=fun k_=>(((P1_ k_∨w.heap.size≤k_))∧k_≠g)) (Kd.va_ (HO1.out)) (fun k_ hk_=>(⟨hk_,hk_.2⟩:_∧k_≠g))) hk (fun _ h=>h.2)) (fun _ h=>h.1));have n1_:=Xa.mk (Xg.trans (kp_ HK) hk (.inl rfl));have n2_:=Xa.mk (hb);have n3_:=Xa.mk (hi);clear HO1;clear HK;clear HB;clear HI0;have HO1:=n0_;have HK:=n1_;have HB:=n2_;have HI0:=n3_;clear n0_ n1_ n2_ n3_;(try clear hb);(try clear hb2);(try clear hk);(try clear hi)))
 go_loopg [1,5] k (fun kq v1 v5 w'=>∃ (x1_1:List (S31)) (x5_1:Int) (x1001_1:Int),v5=.int .i64 x5_1∧Xa (Xw.l0 kq x1_1 x5_1 s0_0 x1001_1=some (r1,r2))∧Xa (kq≤k)∧Xa (Kd.V k31 31 w' w.heap.size (fun k_=>(P1_ k_∨w.heap.size≤k_)∧k_≠g) v1 x1_1)∧Xa (Xm w0 w' g s0_0 x1001_1)∧Xa (Xg w w' g none)∧Xa (Below w0.heap.size w0 w'))
 case atStart=>exact ⟨(l1),(t184),(t185),(by first|rfl|(simp;done)|(simp [*];done)),H',⟨Nat.le_refl _⟩,⟨Kd.va_ (HO1.out)⟩,⟨Xu HI0⟩,⟨kp_ HK⟩,⟨Yh HB⟩⟩
 case round=>
  clear H'
  try clear c1
  try clear p2
  try clear c3
  obtain ⟨x1_1,x5_1,x1001_1,rfl,HA,HK1,HO_1,HI0,HK,HB⟩:=hrel
  cases gk with
  |zero=>exact absurd HA.out (by simp [Xw.l0])
  |succ k1=>
   have H:=HA.out;clear HA;simp only [Xw.l0] at H;have HC5:=Xa.mk H;clear H
   go_upto_region 2 with (fail)
   go_cut [23] (fun v23 wc=>∃ (kq:Nat) (x23_4:Bool),v23=.bool x23_4∧Xa (Xw.j1 kq x1_1 x5_1 x23_4 s0_0 x1001_1=some (r1,r2))∧Xa (kq≤k1)∧Xa (Kd.V k31 31 wc w.heap.size (fun k_=>(P1_ k_∨w.heap.size≤k_)∧k_≠g) u1 x1_1)∧Xa (Xm w0 wc g s0_0 x1001_1)∧Xa (Xg w wc g none)∧Xa (Below w0.heap.size w0 wc))
   case first=>
    have H:=HC5.out;clear HC5;by_cases c6:x5_1 > 0
    ·rw [if_pos c6] at H;have c6b0:decide (0<x5_1)=true:=decide_eq_true c6;clear c6
     (first|rw [c6b0]|(simp only [Xy,Xz];rw [c6b0])|skip)
     by_cases c7:(x1_1.length:Int) > 0
     ·rw [if_pos c7] at H;have c7b0:decide (0<(x1_1.length:Int))=true:=decide_eq_true c7;have c7b1:decide (0<x1_1.length)=true:=decide_eq_true (by omega);clear c7;have H':=Xa.mk H;clear H;obtain ⟨Ao8,co8,eo8⟩:=Kd.V_slice HO_1.out;subst eo8;go_wp2
      go_meet
      case rel=>exact ⟨_,(decide ((x1_1.length:Int)<58)),(by first|rfl|(simp;done)|(simp [*];done)),H',⟨by have:=HK1.out;first|omega|exact Nat.le_refl _⟩,⟨Kd.va_ (HO_1.out)⟩,⟨Xu HI0⟩,⟨kp_ HK⟩,⟨Yh HB⟩⟩
     ·rw [if_neg c7] at H;have c7b0:decide (0<(x1_1.length:Int))=false:=decide_eq_false c7;have c7b1:decide (0<x1_1.length)=false:=decide_eq_false (by omega);clear c7;have H':=Xa.mk H;clear H;obtain ⟨Ao9,co9,eo9⟩:=Kd.V_slice HO_1.out;subst eo9;go_wp2
      go_meet
      case rel=>exact ⟨_,(false),(by first|rfl|(simp;done)|(simp [*];done)),H',⟨by have:=HK1.out;first|omega|exact Nat.le_refl _⟩,⟨Kd.va_ (HO_1.out)⟩,⟨Xu HI0⟩,⟨kp_ HK⟩,⟨Yh HB⟩⟩
    ·rw [if_neg c6] at H;have c6b0:decide (0<x5_1)=false:=decide_eq_false c6;clear c6
     (first|rw [c6b0]|(simp only [Xy,Xz];rw [c6b0])|skip)
     have H':=Xa.mk H;clear H;go_wp2
     go_meet
     case rel=>exact ⟨_,(false),(by first|rfl|(simp;done)|(simp [*];done)),H',⟨by have:=HK1.out;first|omega|exact Nat.le_refl _⟩,⟨Kd.va_ (HO_1.out)⟩,⟨Xu HI0⟩,⟨kp_ HK⟩,⟨Yh HB⟩⟩
   case rest=>
    clear HC5
    try clear c1
    try clear p2
    try clear c3
    try clear c5
    try clear c6
    try clear c6b0
    try clear c7
    try clear c7b0
    try clear c7b1
    try clear p2
    obtain ⟨kq,x23_4,rfl,HA,HJ4,HO_1,HI0,HK,HB⟩:=hcut
    cases kq with
    |zero=>exact absurd HA.out (by simp [Xw.j1])
    |succ kj4=>
     have H:=HA.out;clear HA;simp only [Xw.j1] at H;by_cases c10:x23_4=true
     ·subst c10
      have H1:((Xh.f kj4 s0_0 x1001_1 (x1_1.length:Int)).bind fun bt190=>(Xw.l1 kj4 x1_1 x5_1 bt190.1 (([]:List (S31))) 0 s0_0 bt190.2))=some (r1,r2):=by rw [if_pos rfl] at H;exact H
      clear H;have H:=H1;clear H1;replace H:=Option.bind_eq_some_iff.mp H;obtain ⟨⟨t190,t191⟩,A110,H⟩:=H;replace H:(Xw.l1 kj4 x1_1 x5_1 t190 (([]:List (S31))) 0 s0_0 t191)=some (r1,r2):=H;have A11:=Xa.mk A110;clear A110;obtain ⟨y192,hy192⟩:∃ y_:List (S31),y_=(([]:List (S31))):=⟨_,rfl⟩
      replace H:(Xw.l1 kj4 x1_1 x5_1 t190 y192 0 s0_0 t191)=some (r1,r2):=by subst hy192;first|with_reducible exact H|(have z:=(Option.bind_some _ _).symm.trans H;with_reducible exact z)|exact H
      have Ny192:=Xa.mk hy192;clear hy192;have H':=Xa.mk H;clear H;obtain ⟨Ao12,co12,eo12⟩:=Kd.V_slice HO_1.out;subst eo12;go_wp2_with (first|((with_reducible refine Xf (f:=51) rfl ?_);refine Yf (some 29) rfl rfl Try.func51 (by kernel_rfl) rfl #[.pointer (some ⟨g,0,none⟩),.int .i64 (x1_1.length:Int)] rfl ga_ ?_;(with_reducible refine (Xh.calls kj4 g s0_0 x1001_1 (x1_1.length:Int) t190 t191 w0 _ ?side1 ?side2 A11.out).mono ?_);(case side1=>exact Xu HI0);(case side2=>exact Yh HB);rintro e w13 ⟨rfl,hi,hb,hk⟩;refine ⟨_,rfl,?_⟩;have n0_:=Xa.mk (Kd.Vl (Kd.V_keep (Kd.Vl (ok:=fun k_=>(((P1_ k_∨w.heap.size≤k_))∧k_≠g)) (Kd.va_ (HO_1.out)) (fun k_ hk_=>(⟨hk_,hk_.2⟩:_∧k_≠g))) hk (fun _ h=>h.2)) (fun _ h=>h.1));have n1_:=Xa.mk (Xg.trans (kp_ HK) hk (.inl rfl));have n2_:=Xa.mk (hb);have n3_:=Xa.mk (hi);clear HO_1;clear HK;clear HB;clear HI0;have HO_1:=n0_;have HK:=n1_;have HB:=n2_;have HI0:=n3_;clear n0_ n1_ n2_ n3_;(try clear hb);(try clear hb2);(try clear hk);(try clear hi))|((with_reducible refine Xx (N:=30) rfl ?_);(try (refine gate_guard (by rfl) ?_;dsimp only));refine Kd.Vq k31 _ 31 ?hg (N:=30) ?hd (xs:=([]:List (S31))) (inner:=[]) (ok:=fun _=>True) (okp:=fun _=>True) ?hr ?hp (fun _ hk=>hk) trivial (Below.refl _ _) (Nat.le_refl _) (by simp) ?_;(case hd=>rfl);(case hg=>rfl);(case hr=>first|(go_simp;done)|(go_simp;rfl));(case hp=>exact (Yl.none _ _));intro v193 w14 ho15 hb hg_ hnew_;clear hg_ hnew_;(first|rw [← Ny192.out] at ho15|(simp only [Int.reduceToNat] at ho15;rw [← Ny192.out] at ho15));have n0_:=Xa.mk (Kd.V_elder' (Kd.va_ (HO_1.out)) (Kd.Zj ho15) hb);have n1_:=Xa.mk (Kd.Yg (Kd.R_newM (M:=fun k_=>(w.heap.size≤k_)) ho15 (Yd (w:=w) (g:=g) (row:=none) (kp_ HK)) (fun k_ h_=>h_)) (Yd (w:=w) (g:=g) (row:=none) (kp_ HK)));have n2_:=Xa.mk (Xm.below (Xu HI0) hb);have n3_:=Xa.mk (Xg.trans (kp_ HK) (Xg.of_below hb g none) (.inl rfl));have n4_:=Xa.mk (Xd (Yh HB) hb);clear HO_1;clear HI0;clear HK;clear HB;have HO_1:=n0_;have HO194:=n1_;have HI0:=n2_;have HK:=n3_;have HB:=n4_;clear n0_ n1_ n2_ n3_ n4_;clear hb ho15))
      go_loopg [7,8] kj4 (fun kq v7 v8 w'=>∃ (x7_3:List (S31)) (x8_3:Int),v8=.int .i64 x8_3∧Xa (Xw.l1 kq x1_1 x5_1 t190 x7_3 x8_3 s0_0 t191=some (r1,r2))∧Xa (kq≤kj4)∧Xa (Kd.V k31 31 w' w.heap.size (fun k_=>(P1_ k_∨w.heap.size≤k_)∧some k_≠(v7:Value).ownBlock∧k_≠g) (.slice Ao12 x1_1.length co12) x1_1)∧Xa (Kd.R k31 31 w' w.heap.size (fun k_=>(w.heap.size≤k_)) v7 x7_3)∧Xa (Xm w0 w' g s0_0 t191)∧Xa (Xg w w' g none)∧Xa (Below w0.heap.size w0 w'))
      case atStart=>exact ⟨(y192),(0),(by first|rfl|(simp;done)|(simp [*];done)),H',⟨Nat.le_refl _⟩,⟨Kd.va_ (Kd.Vl HO_1.out (fun _ hk=>⟨hk.1.1,⟨hk.2,hk.1.2⟩⟩))⟩,⟨Kd.ra_ (Kd.Xn HO194.out (fun _ hk=>hk.1))⟩,⟨Xu HI0⟩,⟨kp_ HK⟩,⟨Yh HB⟩⟩
      case round=>
       clear H'
       try clear c1
       try clear p2
       try clear c3
       try clear c5
       try clear c6
       try clear c6b0
       try clear c7
       try clear c7b0
       try clear c7b1
       try clear c10
       try clear p2
       obtain ⟨x7_3,x8_3,rfl,HA,HK3,HO_1,HO_7,HI0,HK,HB⟩:=hrel
       cases gk with
       |zero=>exact absurd HA.out (by simp [Xw.l1])
       |succ k3=>
        have H:=HA.out;clear HA;simp only [Xw.l1] at H;by_cases c16:x8_3<(x1_1.length:Int)
        ·rw [if_pos c16] at H;have c16b0:decide (x8_3<(x1_1.length:Int))=true:=decide_eq_true c16;clear c16;by_cases c17:0≤x8_3
         ·rw [if_pos c17] at H;have c17b0:decide (0≤x8_3)=true:=decide_eq_true c17;clear c17;have HC18:=Xa.mk H;clear H;have p195:0≤(x8_3:Int):=of_decide_eq_true (by first|(with_reducible assumption)|assumption);have q195:x8_3<(x1_1.length:Int):=of_decide_eq_true (by first|(with_reducible assumption)|assumption);obtain ⟨ad195,e195,hx195_0,hx195_1,hx195_2,hx195_3⟩:=Zt (Kd.V_reads' HO_1.out).2.2 x8_3 p195 q195;cases e195
          replace p195:=eq_true p195;replace q195:=eq_true q195
          go_upto_region 10 with (first|((with_reducible refine Xx (N:=9) rfl ?_);(try (refine gate_guard (by rfl) ?_;dsimp only));refine Yw ?hg (N:=9) ?hd (cs:=#[.int .i64 0,.int .i64 0,.int .i64 0,.int .i64 0]) (t:=31) ?hr ?_;(case hd=>rfl);(case hg=>rfl);(case hr=>first|(go_simp;done)|(go_simp;rfl));intro gb196 hg w19 hbox hb;have n0_:=Xa.mk (Kd.V_below (Kd.V_elderB (Kd.va_ (HO_1.out)) gb196 (Nat.le_of_eq hg.symm)) hb);have n1_:=Xa.mk (Kd.Zl (Kd.R_elderB (Kd.ra_ (HO_7.out)) gb196 (Nat.le_of_eq hg.symm)) hb);have n2_:=Xa.mk (Xm.below (Xu HI0) hb);have n3_:=Xa.mk (Xg.trans (kp_ HK) (Xg.of_below hb g none) (.inl rfl));have n4_:=Xa.mk (Xd (Yh HB) hb);have n5_:=Xa.mk (hbox);have n6_:=Xa.mk ((by rw [hg];exact (Yd (w:=w) (g:=g) (row:=none) (kp_ HK)):w.heap.size≤gb196));have n7_:=Xa.mk ((Nat.le_trans HW0.out (by rw [hg];exact (Yd (w:=w) (g:=g) (row:=none) (kp_ HK)):w.heap.size≤gb196):w0.heap.size≤gb196));have n8_:=Xa.mk ((by rw [hg];exact Nat.ne_of_lt (Xm.lt (show Xm w0 _ g s0_0 t191 from Xu HI0)):g≠gb196));have n9_:=Xa.mk ((by rw [hg];exact Nat.ne_of_gt (Xm.lt (show Xm w0 _ g s0_0 t191 from Xu HI0)):gb196≠g));clear HO_1;clear HO_7;clear HI0;clear HK;clear HB;have HO_1:=n0_;have HO_7:=n1_;have HI0:=n2_;have HK:=n3_;have HB:=n4_;have BK196:=n5_;have GW196:=n6_;have GE196:=n7_;have NB0_196:=n8_;have NB196_0:=n9_;clear n0_ n1_ n2_ n3_ n4_ n5_ n6_ n7_ n8_ n9_;clear hb hbox hg;have hnb20:=NB196_0.out;have hnc20:=NB0_196.out;obtain ⟨hcz21_0,hcz21_1,hcz21_2,hcz21_3⟩:=Uu BK196.out;obtain ⟨hfz21_0,hfz21_1,hfz21_2,hfz21_3⟩:=Uy BK196.out))
          (try simp only [Act.put,List.setIfInBounds_toArray,List.set_cons_zero,List.set_cons_succ])
          go_cut [54] (fun v54 wc=>∃ (kq:Nat) (x54_17:Bool),v54=.bool x54_17∧Xa (Xw.j3 kq x1_1 x5_1 t190 x7_3 x8_3 x54_17 s0_0 t191 ((Xb x1_1 x8_3).f0) ((Xb x1_1 x8_3).f1) ((Xb x1_1 x8_3).f2) ((Xb x1_1 x8_3).f3)=some (r1,r2))∧Xa (kq≤k3)∧Xa (Kd.V k31 31 wc w.heap.size (fun k_=>(P1_ k_∨w.heap.size≤k_)∧some k_≠(u7:Value).ownBlock∧k_≠gb196∧k_≠g) (.slice (some ad195) x1_1.length co12) x1_1)∧Xa (Kd.R k31 31 wc w.heap.size (fun k_=>(w.heap.size≤k_)∧k_≠gb196) u7 x7_3)∧Xa (wc.heap[gb196]?=some (.cells #[.int .i64 ((Xb x1_1 x8_3).f0),.int .i64 ((Xb x1_1 x8_3).f1),.int .i64 ((Xb x1_1 x8_3).f2),.int .i64 ((Xb x1_1 x8_3).f3)] 31 (0,0)))∧Xa (Xm w0 wc g s0_0 t191)∧Xa (Xg w wc g none)∧Xa (Below w0.heap.size w0 wc))
          case first=>
           have H:=HC18.out;clear HC18;by_cases c22:((Xb x1_1 x8_3).f0)=7
           ·rw [if_pos c22] at H;have c22b0:(((Xb x1_1 x8_3).f0) == 7)=true:=beq_iff_eq.mpr c22;have c22b1:(((Xb x1_1 x8_3).f0) != 7)=false:=bne_eq_false_iff_eq.mpr c22;clear c22
            (first|rw [c22b0]|(simp only [Xy,Xz];rw [c22b0])|skip)
            have H':=Xa.mk H;clear H;have hnb23:=NB196_0.out;have hnc23:=NB0_196.out;obtain ⟨hcz24_0,hcz24_1,hcz24_2,hcz24_3⟩:=Uu BK196.out;obtain ⟨hfz24_0,hfz24_1,hfz24_2,hfz24_3⟩:=Uy BK196.out;go_wp2
            go_meet
            case rel=>exact ⟨_,(decide (((Xb x1_1 x8_3).f3) > t190)),(by first|rfl|(simp;done)|(simp [*];done)),H',⟨by have:=HK1.out;have:=HJ4.out;have:=HK3.out;first|omega|exact Nat.le_refl _⟩,⟨Kd.va_ (Kd.Vl (Kd.V_far (p:=⟨gb196,3,none⟩) (Kd.V_far (p:=⟨gb196,2,none⟩) (Kd.V_far (p:=⟨gb196,1,none⟩) (Kd.V_far (p:=⟨gb196,0,none⟩) (Kd.Vl HO_1.out (fun k_ hk=>(⟨hk,hk.2⟩:_∧k_≠gb196))) (fun _ hk=>hk.2) (.int .i64 ((Xb x1_1 x8_3).f0))) (fun _ hk=>hk.2) (.int .i64 ((Xb x1_1 x8_3).f1))) (fun _ hk=>hk.2) (.int .i64 ((Xb x1_1 x8_3).f2))) (fun _ hk=>hk.2) (.int .i64 ((Xb x1_1 x8_3).f3))) (fun _ hk=>⟨hk.1.1.1,⟨hk.1.1.2.1,⟨hk.1.2,hk.1.1.2.2⟩⟩⟩))⟩,⟨Kd.ra_ (Kd.Xn (Kd.Um (p:=⟨gb196,3,none⟩) (Kd.Um (p:=⟨gb196,2,none⟩) (Kd.Um (p:=⟨gb196,1,none⟩) (Kd.Um (p:=⟨gb196,0,none⟩) (Kd.Xn HO_7.out (fun k_ hk=>(⟨hk,hk.2⟩:_∧k_≠gb196))) (fun _ hk=>hk.2) (.int .i64 ((Xb x1_1 x8_3).f0))) (fun _ hk=>hk.2) (.int .i64 ((Xb x1_1 x8_3).f1))) (fun _ hk=>hk.2) (.int .i64 ((Xb x1_1 x8_3).f2))) (fun _ hk=>hk.2) (.int .i64 ((Xb x1_1 x8_3).f3))) (fun _ hk=>⟨hk.1.1,hk.1.2⟩))⟩,⟨by (with_reducible repeat (first|refine Xj ?_ _|refine Xo ?_|refine Xi ?_ _));refine Ye (cs:=#[.int .i64 ((Xb x1_1 x8_3).f0),.int .i64 ((Xb x1_1 x8_3).f1),.int .i64 ((Xb x1_1 x8_3).f2),.int .i64 0]) ?_ 3 _ rfl;(with_reducible repeat (first|refine Xj ?_ _|refine Xo ?_|refine Xi ?_ _));refine Ye (cs:=#[.int .i64 ((Xb x1_1 x8_3).f0),.int .i64 ((Xb x1_1 x8_3).f1),.int .i64 0,.int .i64 0]) ?_ 2 _ rfl;(with_reducible repeat (first|refine Xj ?_ _|refine Xo ?_|refine Xi ?_ _));refine Ye (cs:=#[.int .i64 ((Xb x1_1 x8_3).f0),.int .i64 0,.int .i64 0,.int .i64 0]) ?_ 1 _ rfl;(with_reducible repeat (first|refine Xj ?_ _|refine Xo ?_|refine Xi ?_ _));refine Ye (cs:=#[.int .i64 0,.int .i64 0,.int .i64 0,.int .i64 0]) ?_ 0 _ rfl;(with_reducible repeat (first|refine Xj ?_ _|refine Xo ?_|refine Xi ?_ _));exact BK196.out⟩,⟨Xu HI0⟩,⟨kp_ HK⟩,⟨Yh HB⟩⟩
           ·rw [if_neg c22] at H;have c22b0:(((Xb x1_1 x8_3).f0) == 7)=false:=beq_eq_false_iff_ne.mpr c22;have c22b1:(((Xb x1_1 x8_3).f0) != 7)=true:=bne_iff_ne.mpr c22
            (first|rw [c22b0]|(simp only [Xy,Xz];rw [c22b0])|skip)
            by_cases c25:((Xb x1_1 x8_3).f0)=6
            ·rw [if_pos c25] at H;have c25b0:(((Xb x1_1 x8_3).f0) == 6)=true:=beq_iff_eq.mpr c25;have c25b1:(((Xb x1_1 x8_3).f0) != 6)=false:=bne_eq_false_iff_eq.mpr c25;clear c25;have H':=Xa.mk H;clear H;have hnb26:=NB196_0.out;have hnc26:=NB0_196.out;obtain ⟨hcz27_0,hcz27_1,hcz27_2,hcz27_3⟩:=Uu BK196.out;obtain ⟨hfz27_0,hfz27_1,hfz27_2,hfz27_3⟩:=Uy BK196.out;go_wp2
             go_meet
             case rel=>exact ⟨_,(decide (((Xb x1_1 x8_3).f3) > t190)),(by first|rfl|(simp;done)|(simp [*];done)),H',⟨by have:=HK1.out;have:=HJ4.out;have:=HK3.out;first|omega|exact Nat.le_refl _⟩,⟨Kd.va_ (Kd.Vl (Kd.V_far (p:=⟨gb196,3,none⟩) (Kd.V_far (p:=⟨gb196,2,none⟩) (Kd.V_far (p:=⟨gb196,1,none⟩) (Kd.V_far (p:=⟨gb196,0,none⟩) (Kd.Vl HO_1.out (fun k_ hk=>(⟨hk,hk.2⟩:_∧k_≠gb196))) (fun _ hk=>hk.2) (.int .i64 ((Xb x1_1 x8_3).f0))) (fun _ hk=>hk.2) (.int .i64 ((Xb x1_1 x8_3).f1))) (fun _ hk=>hk.2) (.int .i64 ((Xb x1_1 x8_3).f2))) (fun _ hk=>hk.2) (.int .i64 ((Xb x1_1 x8_3).f3))) (fun _ hk=>⟨hk.1.1.1,⟨hk.1.1.2.1,⟨hk.1.2,hk.1.1.2.2⟩⟩⟩))⟩,⟨Kd.ra_ (Kd.Xn (Kd.Um (p:=⟨gb196,3,none⟩) (Kd.Um (p:=⟨gb196,2,none⟩) (Kd.Um (p:=⟨gb196,1,none⟩) (Kd.Um (p:=⟨gb196,0,none⟩) (Kd.Xn HO_7.out (fun k_ hk=>(⟨hk,hk.2⟩:_∧k_≠gb196))) (fun _ hk=>hk.2) (.int .i64 ((Xb x1_1 x8_3).f0))) (fun _ hk=>hk.2) (.int .i64 ((Xb x1_1 x8_3).f1))) (fun _ hk=>hk.2) (.int .i64 ((Xb x1_1 x8_3).f2))) (fun _ hk=>hk.2) (.int .i64 ((Xb x1_1 x8_3).f3))) (fun _ hk=>⟨hk.1.1,hk.1.2⟩))⟩,⟨by (with_reducible repeat (first|refine Xj ?_ _|refine Xo ?_|refine Xi ?_ _));refine Ye (cs:=#[.int .i64 ((Xb x1_1 x8_3).f0),.int .i64 ((Xb x1_1 x8_3).f1),.int .i64 ((Xb x1_1 x8_3).f2),.int .i64 0]) ?_ 3 _ rfl;(with_reducible repeat (first|refine Xj ?_ _|refine Xo ?_|refine Xi ?_ _));refine Ye (cs:=#[.int .i64 ((Xb x1_1 x8_3).f0),.int .i64 ((Xb x1_1 x8_3).f1),.int .i64 0,.int .i64 0]) ?_ 2 _ rfl;(with_reducible repeat (first|refine Xj ?_ _|refine Xo ?_|refine Xi ?_ _));refine Ye (cs:=#[.int .i64 ((Xb x1_1 x8_3).f0),.int .i64 0,.int .i64 0,.int .i64 0]) ?_ 1 _ rfl;(with_reducible repeat (first|refine Xj ?_ _|refine Xo ?_|refine Xi ?_ _));refine Ye (cs:=#[.int .i64 0,.int .i64 0,.int .i64 0,.int .i64 0]) ?_ 0 _ rfl;(with_reducible repeat (first|refine Xj ?_ _|refine Xo ?_|refine Xi ?_ _));exact BK196.out⟩,⟨Xu HI0⟩,⟨kp_ HK⟩,⟨Yh HB⟩⟩
            ·rw [if_neg c25] at H;have c25b0:(((Xb x1_1 x8_3).f0) == 6)=false:=beq_eq_false_iff_ne.mpr c25;have c25b1:(((Xb x1_1 x8_3).f0) != 6)=true:=bne_iff_ne.mpr c25;have H':=Xa.mk H;clear H;have hnb28:=NB196_0.out;have hnc28:=NB0_196.out;obtain ⟨hcz29_0,hcz29_1,hcz29_2,hcz29_3⟩:=Uu BK196.out;obtain ⟨hfz29_0,hfz29_1,hfz29_2,hfz29_3⟩:=Uy BK196.out;go_wp2
             go_meet
             case rel=>exact ⟨_,(false),(by first|rfl|(simp;done)|(simp [*];done)),H',⟨by have:=HK1.out;have:=HJ4.out;have:=HK3.out;first|omega|exact Nat.le_refl _⟩,⟨Kd.va_ (Kd.Vl (Kd.V_far (p:=⟨gb196,3,none⟩) (Kd.V_far (p:=⟨gb196,2,none⟩) (Kd.V_far (p:=⟨gb196,1,none⟩) (Kd.V_far (p:=⟨gb196,0,none⟩) (Kd.Vl HO_1.out (fun k_ hk=>(⟨hk,hk.2⟩:_∧k_≠gb196))) (fun _ hk=>hk.2) (.int .i64 ((Xb x1_1 x8_3).f0))) (fun _ hk=>hk.2) (.int .i64 ((Xb x1_1 x8_3).f1))) (fun _ hk=>hk.2) (.int .i64 ((Xb x1_1 x8_3).f2))) (fun _ hk=>hk.2) (.int .i64 ((Xb x1_1 x8_3).f3))) (fun _ hk=>⟨hk.1.1.1,⟨hk.1.1.2.1,⟨hk.1.2,hk.1.1.2.2⟩⟩⟩))⟩,⟨Kd.ra_ (Kd.Xn (Kd.Um (p:=⟨gb196,3,none⟩) (Kd.Um (p:=⟨gb196,2,none⟩) (Kd.Um (p:=⟨gb196,1,none⟩) (Kd.Um (p:=⟨gb196,0,none⟩) (Kd.Xn HO_7.out (fun k_ hk=>(⟨hk,hk.2⟩:_∧k_≠gb196))) (fun _ hk=>hk.2) (.int .i64 ((Xb x1_1 x8_3).f0))) (fun _ hk=>hk.2) (.int .i64 ((Xb x1_1 x8_3).f1))) (fun _ hk=>hk.2) (.int .i64 ((Xb x1_1 x8_3).f2))) (fun _ hk=>hk.2) (.int .i64 ((Xb x1_1 x8_3).f3))) (fun _ hk=>⟨hk.1.1,hk.1.2⟩))⟩,⟨by (with_reducible repeat (first|refine Xj ?_ _|refine Xo ?_|refine Xi ?_ _));refine Ye (cs:=#[.int .i64 ((Xb x1_1 x8_3).f0),.int .i64 ((Xb x1_1 x8_3).f1),.int .i64 ((Xb x1_1 x8_3).f2),.int .i64 0]) ?_ 3 _ rfl;(with_reducible repeat (first|refine Xj ?_ _|refine Xo ?_|refine Xi ?_ _));refine Ye (cs:=#[.int .i64 ((Xb x1_1 x8_3).f0),.int .i64 ((Xb x1_1 x8_3).f1),.int .i64 0,.int .i64 0]) ?_ 2 _ rfl;(with_reducible repeat (first|refine Xj ?_ _|refine Xo ?_|refine Xi ?_ _));refine Ye (cs:=#[.int .i64 ((Xb x1_1 x8_3).f0),.int .i64 0,.int .i64 0,.int .i64 0]) ?_ 1 _ rfl;(with_reducible repeat (first|refine Xj ?_ _|refine Xo ?_|refine Xi ?_ _));refine Ye (cs:=#[.int .i64 0,.int .i64 0,.int .i64 0,.int .i64 0]) ?_ 0 _ rfl;(with_reducible repeat (first|refine Xj ?_ _|refine Xo ?_|refine Xi ?_ _));exact BK196.out⟩,⟨Xu HI0⟩,⟨kp_ HK⟩,⟨Yh HB⟩⟩
          case rest=>
           clear HC18
           try clear c1
           try clear p1
           try clear q1
           try clear hx1
           try clear c2
           try clear p2
           try clear c3
           try clear c5
           try clear c6
           try clear c6b0
           try clear c7
           try clear c7b0
           try clear c7b1
           try clear c10
           try clear c16
           try clear c16b0
           try clear c17
           try clear c17b0
           try clear p19
           try clear q19
           try clear hx19
           try clear c20
           try clear c22
           try clear c22b0
           try clear c22b1
           try clear c23
           try clear c25
           try clear c25b0
           try clear c25b1
           try clear c26
           try clear c28
           try clear hcz21_0
           try clear hcz21_1
           try clear hcz21_2
           try clear hcz21_3
           try clear hcz24_0
           try clear hcz24_1
           try clear hcz24_2
           try clear hcz24_3
           try clear hcz27_0
           try clear hcz27_1
           try clear hcz27_2
           try clear hcz27_3
           try clear hcz29_0
           try clear hcz29_1
           try clear hcz29_2
           try clear hcz29_3
           try clear hfz21_0
           try clear hfz21_1
           try clear hfz21_2
           try clear hfz21_3
           try clear hfz24_0
           try clear hfz24_1
           try clear hfz24_2
           try clear hfz24_3
           try clear hfz27_0
           try clear hfz27_1
           try clear hfz27_2
           try clear hfz27_3
           try clear hfz29_0
           try clear hfz29_1
           try clear hfz29_2
           try clear hfz29_3
           try clear hx195_0
           try clear hx195_1
           try clear hx195_2
           try clear hx195_3
           try clear p195
           try clear p2
           try clear q195
           obtain ⟨kq,x54_17,rfl,HA,HJ17,HO_1,HO_7,BK196,HI0,HK,HB⟩:=hcut
           cases kq with
           |zero=>exact absurd HA.out (by simp [Xw.j3])
           |succ kj17=>
            have H:=HA.out;clear HA;simp only [Xw.j3] at H;by_cases c30:x54_17=true
            ·subst c30
             have H1:(if x8_3=t190 then (if x7_3.length<4398046511104 then ((some (x7_3 ++ [(⟨7,0,0,wrap64 (t190+1)⟩:S31)]:List (S31))).bind fun y197=>(if y197.length<4398046511104 then (Xw.l1 kj17 x1_1 x5_1 t190 (y197 ++ [(⟨((Xb x1_1 x8_3).f0),((Xb x1_1 x8_3).f1),((Xb x1_1 x8_3).f2),wrap64 (((Xb x1_1 x8_3).f3)+1)⟩:S31)]) (wrap64 (x8_3+1)) s0_0 t191) else (none))) else (none)) else (if x7_3.length<4398046511104 then (Xw.l1 kj17 x1_1 x5_1 t190 (x7_3 ++ [(⟨((Xb x1_1 x8_3).f0),((Xb x1_1 x8_3).f1),((Xb x1_1 x8_3).f2),wrap64 (((Xb x1_1 x8_3).f3)+1)⟩:S31)]) (wrap64 (x8_3+1)) s0_0 t191) else (none)))=some (r1,r2):=by rw [if_pos rfl] at H;exact H
             clear H;have H:=H1;clear H1;by_cases c31:x8_3=t190
             ·rw [if_pos c31] at H;have c31b0:(x8_3 == t190)=true:=beq_iff_eq.mpr c31;have c31b1:(x8_3 != t190)=false:=bne_eq_false_iff_eq.mpr c31;clear c31;by_cases c32:x7_3.length<4398046511104
              ·rw [if_pos c32] at H;have LMc32:=Xa.mk c32;clear c32;obtain ⟨y197,hy197⟩:∃ y_:List (S31),y_=(x7_3 ++ [(⟨7,0,0,wrap64 (t190+1)⟩:S31)]):=⟨_,rfl⟩
               replace H:(if y197.length<4398046511104 then (Xw.l1 kj17 x1_1 x5_1 t190 (y197 ++ [(⟨((Xb x1_1 x8_3).f0),((Xb x1_1 x8_3).f1),((Xb x1_1 x8_3).f2),wrap64 (((Xb x1_1 x8_3).f3)+1)⟩:S31)]) (wrap64 (x8_3+1)) s0_0 t191) else (none))=some (r1,r2):=by subst hy197;first|with_reducible exact H|(have z:=(Option.bind_some _ _).symm.trans H;with_reducible exact z)|exact H
               have Ny197:=Xa.mk hy197;clear hy197;by_cases c33:y197.length<4398046511104
               ·rw [if_pos c33] at H;have LMc33:=Xa.mk c33;clear c33;obtain ⟨y200,hy200⟩:∃ y_:List (S31),y_=(y197 ++ [(⟨((Xb x1_1 x8_3).f0),((Xb x1_1 x8_3).f1),((Xb x1_1 x8_3).f2),wrap64 (((Xb x1_1 x8_3).f3)+1)⟩:S31)]):=⟨_,rfl⟩
                replace H:(Xw.l1 kj17 x1_1 x5_1 t190 y200 (wrap64 (x8_3+1)) s0_0 t191)=some (r1,r2):=by subst hy200;first|with_reducible exact H|(have z:=(Option.bind_some _ _).symm.trans H;with_reducible exact z)|exact H
                have Ny200:=Xa.mk hy200;clear hy200;have H':=Xa.mk H;clear H;have hnb34:=NB196_0.out;have hnc34:=NB0_196.out;obtain ⟨hcz35_0,hcz35_1,hcz35_2,hcz35_3⟩:=Uu BK196.out;obtain ⟨hfz35_0,hfz35_1,hfz35_2,hfz35_3⟩:=Uy BK196.out;go_wp2_with (first|((with_reducible refine Yp (b:=.append) (xs:=#[.tmp 62,.tmp 66]) rfl ?_);(try (refine gate_guard (by rfl) ?_;dsimp only));at_builtin;refine Kd.Vo k31 w.heap.size rfl (.tmp 62) (.tmp 66) 23 31 (.agg #[(.int .i64 0),(.int .i64 0),(.int .i64 0),(.int .i64 0)]) 32 rfl Try.underlying23 Vf rfl (by decide) (by omega) u7 x7_3 (⟨7,0,0,wrap64 (t190+1)⟩:S31) [.int .i64 7,.int .i64 0,.int .i64 0,.int .i64 (wrap64 (t190+1))] (fun k_=>(w.heap.size≤k_)∧k_≠gb196) (fun _=>False) rfl (by first|(simp only [World.size_setCell];rfl)|(go_simp;done)|(go_simp;rfl)) ?aP (fun _ hk=>hk.elim) ?aF ?aO (Below.refl _ _) ?aS ?aL ?_;(case aP=>exact Us _ _ _ (⟨7,0,0,wrap64 (t190+1)⟩:S31));(case aF=>exact (fun k_ hk=>⟨(Nat.le_trans (Yd (w:=w) (g:=g) (row:=none) (kp_ HK)) hk),Kd.freshB (g:=gb196) (o:=.cells #[.int .i64 ((Xb x1_1 x8_3).f0),.int .i64 ((Xb x1_1 x8_3).f1),.int .i64 ((Xb x1_1 x8_3).f2),.int .i64 (wrap64 (((Xb x1_1 x8_3).f3)+1))] 31 (0,0)) (by (with_reducible repeat (first|refine Xj ?_ _|refine Xo ?_|refine Xi ?_ _));refine Ye (cs:=#[.int .i64 ((Xb x1_1 x8_3).f0),.int .i64 ((Xb x1_1 x8_3).f1),.int .i64 ((Xb x1_1 x8_3).f2),.int .i64 ((Xb x1_1 x8_3).f3)]) ?_ 3 _ rfl;(with_reducible repeat (first|refine Xj ?_ _|refine Xo ?_|refine Xi ?_ _));exact BK196.out) k_ hk⟩));(case aO=>exact (Kd.ra_ (Kd.Xn (Kd.Um (p:=⟨gb196,3,none⟩) (Kd.Xn HO_7.out (fun k_ hk=>(⟨hk,hk.2⟩:_∧k_≠gb196))) (fun _ hk=>hk.2) (.int .i64 (wrap64 (((Xb x1_1 x8_3).f3)+1)))) (fun _ hk=>⟨hk.1.1,hk.1.2⟩))));(case aS=>exact (Yd (w:=w) (g:=g) (row:=none) (kp_ HK)));(case aL=>have:=LMc32.out;omega);intro v198 w36 ho hb hg hat;rw [← Ny197.out] at ho;have n0_:=Xa.mk (Kd.V_afterv (ok:=(fun k_=>(P1_ k_∨w.heap.size≤k_)∧k_≠gb196∧k_≠g)) (Kd.va_ (Kd.Vl (Kd.V_far (p:=⟨gb196,3,none⟩) (Kd.Vl HO_1.out (fun k_ hk=>(⟨hk,hk.2.2.1⟩:_∧k_≠gb196))) (fun _ hk=>hk.2) (.int .i64 (wrap64 (((Xb x1_1 x8_3).f3)+1)))) (fun _ hk=>⟨⟨hk.1.1,⟨hk.1.2.2.1,hk.1.2.2.2⟩⟩,hk.1.2.1⟩))) hg hat);have n1_:=Xa.mk (Vm (g:=gb196) (o:=.cells #[.int .i64 ((Xb x1_1 x8_3).f0),.int .i64 ((Xb x1_1 x8_3).f1),.int .i64 ((Xb x1_1 x8_3).f2),.int .i64 (wrap64 (((Xb x1_1 x8_3).f3)+1))] 31 (0,0)) (by (with_reducible repeat (first|refine Xj ?_ _|refine Xo ?_|refine Xi ?_ _));refine Ye (cs:=#[.int .i64 ((Xb x1_1 x8_3).f0),.int .i64 ((Xb x1_1 x8_3).f1),.int .i64 ((Xb x1_1 x8_3).f2),.int .i64 ((Xb x1_1 x8_3).f3)]) ?_ 3 _ rfl;(with_reducible repeat (first|refine Xj ?_ _|refine Xo ?_|refine Xi ?_ _));exact BK196.out) hg (Kd.R_away HO_7.out (fun _ hk=>hk.2)));have n2_:=Xa.mk (Xm.grown (show Xm w0 _ g s0_0 t191 from Xu HI0) hg (Xm.own_ne HI0.out HO_7.out (by decide)));have n3_:=Xa.mk (Ub (Yh HB) HL.out hb);have n4_:=Xa.mk (Xg.trans (kp_ HK) (Xg.Vg hg g) (Kd.R_base2 HO_7.out));have n5_:=Xa.mk (ho);clear HO_1;clear BK196;clear HI0;clear HB;clear HK;clear HO_7;have HO_1:=n0_;have BK196:=n1_;have HI0:=n2_;have HB:=n3_;have HK:=n4_;have HO199:=n5_;clear n0_ n1_ n2_ n3_ n4_ n5_;clear ho hb hg hat;obtain ⟨hcz37_0,hcz37_1,hcz37_2,hcz37_3⟩:=Uu BK196.out;obtain ⟨hfz37_0,hfz37_1,hfz37_2,hfz37_3⟩:=Uy BK196.out)|((with_reducible refine Yp (b:=.append) (xs:=#[.tmp 68,.tmp 70]) rfl ?_);(try (refine gate_guard (by rfl) ?_;dsimp only));at_builtin;refine Kd.Vo k31 w.heap.size rfl (.tmp 68) (.tmp 70) 23 31 (.agg #[(.int .i64 0),(.int .i64 0),(.int .i64 0),(.int .i64 0)]) 32 rfl Try.underlying23 Vf rfl (by decide) (by omega) v198 y197 (⟨((Xb x1_1 x8_3).f0),((Xb x1_1 x8_3).f1),((Xb x1_1 x8_3).f2),wrap64 (((Xb x1_1 x8_3).f3)+1)⟩:S31) [.int .i64 ((Xb x1_1 x8_3).f0),.int .i64 ((Xb x1_1 x8_3).f1),.int .i64 ((Xb x1_1 x8_3).f2),.int .i64 (wrap64 (((Xb x1_1 x8_3).f3)+1))] (fun k_=>(w.heap.size≤k_)∧k_≠gb196) (fun _=>False) rfl rfl ?aP (fun _ hk=>hk.elim) ?aF ?aO (Below.refl _ _) ?aS ?aL ?_;(case aP=>exact Us _ _ _ (⟨((Xb x1_1 x8_3).f0),((Xb x1_1 x8_3).f1),((Xb x1_1 x8_3).f2),wrap64 (((Xb x1_1 x8_3).f3)+1)⟩:S31));(case aF=>exact (fun k_ hk=>⟨(Nat.le_trans (Yd (w:=w) (g:=g) (row:=none) (kp_ HK)) hk),Kd.freshB (g:=gb196) (o:=.cells #[.int .i64 ((Xb x1_1 x8_3).f0),.int .i64 ((Xb x1_1 x8_3).f1),.int .i64 ((Xb x1_1 x8_3).f2),.int .i64 (wrap64 (((Xb x1_1 x8_3).f3)+1))] 31 (0,0)) (ba_ BK196) k_ hk⟩));(case aO=>exact (Kd.ra_ (HO199.out)));(case aS=>exact (Yd (w:=w) (g:=g) (row:=none) (kp_ HK)));(case aL=>have:=LMc33.out;omega);intro v201 w38 ho hb hg hat;rw [← Ny200.out] at ho;have n0_:=Xa.mk (Kd.V_afterv (ok:=(fun k_=>(P1_ k_∨w.heap.size≤k_)∧k_≠gb196∧k_≠g)) (Kd.va_ (HO_1.out)) hg hat);have n1_:=Xa.mk (Vm (g:=gb196) (o:=.cells #[.int .i64 ((Xb x1_1 x8_3).f0),.int .i64 ((Xb x1_1 x8_3).f1),.int .i64 ((Xb x1_1 x8_3).f2),.int .i64 (wrap64 (((Xb x1_1 x8_3).f3)+1))] 31 (0,0)) (ba_ BK196) hg (Kd.R_away HO199.out (fun _ hk=>hk.2)));have n2_:=Xa.mk (Xm.grown (show Xm w0 _ g s0_0 t191 from Xu HI0) hg (Xm.own_ne HI0.out HO199.out (by decide)));have n3_:=Xa.mk (Ub (Yh HB) HL.out hb);have n4_:=Xa.mk (Xg.trans (kp_ HK) (Xg.Vg hg g) (Kd.R_base2 HO199.out));have n5_:=Xa.mk (ho);clear HO_1;clear BK196;clear HI0;clear HB;clear HK;clear HO199;have HO_1:=n0_;have BK196:=n1_;have HI0:=n2_;have HB:=n3_;have HK:=n4_;have HO202:=n5_;clear n0_ n1_ n2_ n3_ n4_ n5_;clear ho hb hg hat))
                go_roundg kj17
                case measure=>have:=HK1.out;have:=HJ4.out;have:=HK3.out;have:=HJ17.out;omega
                case rel=>exact ⟨(y200),(wrap64 (x8_3+1)),(by first|rfl|(simp;done)|(simp [*];done)),H',⟨by have:=HK1.out;have:=HJ4.out;have:=HK3.out;have:=HJ17.out;omega⟩,⟨Kd.va_ (Kd.Vl HO_1.out (fun _ hk=>⟨hk.1.1,⟨hk.2,hk.1.2.2⟩⟩))⟩,⟨Kd.ra_ (Kd.Xn HO202.out (fun _ hk=>hk.1))⟩,⟨Xu HI0⟩,⟨kp_ HK⟩,⟨Yh HB⟩⟩
               ·rw [if_neg c33] at H;exact absurd H (by simp)
              ·rw [if_neg c32] at H;exact absurd H (by simp)
             ·rw [if_neg c31] at H;have c31b0:(x8_3 == t190)=false:=beq_eq_false_iff_ne.mpr c31;have c31b1:(x8_3 != t190)=true:=bne_iff_ne.mpr c31;by_cases c39:x7_3.length<4398046511104
              ·rw [if_pos c39] at H;have LMc39:=Xa.mk c39;clear c39;obtain ⟨y203,hy203⟩:∃ y_:List (S31),y_=(x7_3 ++ [(⟨((Xb x1_1 x8_3).f0),((Xb x1_1 x8_3).f1),((Xb x1_1 x8_3).f2),wrap64 (((Xb x1_1 x8_3).f3)+1)⟩:S31)]):=⟨_,rfl⟩
               replace H:(Xw.l1 kj17 x1_1 x5_1 t190 y203 (wrap64 (x8_3+1)) s0_0 t191)=some (r1,r2):=by subst hy203;first|with_reducible exact H|(have z:=(Option.bind_some _ _).symm.trans H;with_reducible exact z)|exact H
               have Ny203:=Xa.mk hy203;clear hy203;have H':=Xa.mk H;clear H;have hnb40:=NB196_0.out;have hnc40:=NB0_196.out;obtain ⟨hcz41_0,hcz41_1,hcz41_2,hcz41_3⟩:=Uu BK196.out;obtain ⟨hfz41_0,hfz41_1,hfz41_2,hfz41_3⟩:=Uy BK196.out;go_wp2_with (first|((with_reducible refine Yp (b:=.append) (xs:=#[.tmp 68,.tmp 70]) rfl ?_);(try (refine gate_guard (by rfl) ?_;dsimp only));at_builtin;refine Kd.Vo k31 w.heap.size rfl (.tmp 68) (.tmp 70) 23 31 (.agg #[(.int .i64 0),(.int .i64 0),(.int .i64 0),(.int .i64 0)]) 32 rfl Try.underlying23 Vf rfl (by decide) (by omega) u7 x7_3 (⟨((Xb x1_1 x8_3).f0),((Xb x1_1 x8_3).f1),((Xb x1_1 x8_3).f2),wrap64 (((Xb x1_1 x8_3).f3)+1)⟩:S31) [.int .i64 ((Xb x1_1 x8_3).f0),.int .i64 ((Xb x1_1 x8_3).f1),.int .i64 ((Xb x1_1 x8_3).f2),.int .i64 (wrap64 (((Xb x1_1 x8_3).f3)+1))] (fun k_=>(w.heap.size≤k_)∧k_≠gb196) (fun _=>False) rfl (by first|(simp only [World.size_setCell];rfl)|(go_simp;done)|(go_simp;rfl)) ?aP (fun _ hk=>hk.elim) ?aF ?aO (Below.refl _ _) ?aS ?aL ?_;(case aP=>exact Us _ _ _ (⟨((Xb x1_1 x8_3).f0),((Xb x1_1 x8_3).f1),((Xb x1_1 x8_3).f2),wrap64 (((Xb x1_1 x8_3).f3)+1)⟩:S31));(case aF=>exact (fun k_ hk=>⟨(Nat.le_trans (Yd (w:=w) (g:=g) (row:=none) (kp_ HK)) hk),Kd.freshB (g:=gb196) (o:=.cells #[.int .i64 ((Xb x1_1 x8_3).f0),.int .i64 ((Xb x1_1 x8_3).f1),.int .i64 ((Xb x1_1 x8_3).f2),.int .i64 (wrap64 (((Xb x1_1 x8_3).f3)+1))] 31 (0,0)) (by (with_reducible repeat (first|refine Xj ?_ _|refine Xo ?_|refine Xi ?_ _));refine Ye (cs:=#[.int .i64 ((Xb x1_1 x8_3).f0),.int .i64 ((Xb x1_1 x8_3).f1),.int .i64 ((Xb x1_1 x8_3).f2),.int .i64 ((Xb x1_1 x8_3).f3)]) ?_ 3 _ rfl;(with_reducible repeat (first|refine Xj ?_ _|refine Xo ?_|refine Xi ?_ _));exact BK196.out) k_ hk⟩));(case aO=>exact (Kd.ra_ (Kd.Xn (Kd.Um (p:=⟨gb196,3,none⟩) (Kd.Xn HO_7.out (fun k_ hk=>(⟨hk,hk.2⟩:_∧k_≠gb196))) (fun _ hk=>hk.2) (.int .i64 (wrap64 (((Xb x1_1 x8_3).f3)+1)))) (fun _ hk=>⟨hk.1.1,hk.1.2⟩))));(case aS=>exact (Yd (w:=w) (g:=g) (row:=none) (kp_ HK)));(case aL=>have:=LMc39.out;omega);intro v204 w42 ho hb hg hat;rw [← Ny203.out] at ho;have n0_:=Xa.mk (Kd.V_afterv (ok:=(fun k_=>(P1_ k_∨w.heap.size≤k_)∧k_≠gb196∧k_≠g)) (Kd.va_ (Kd.Vl (Kd.V_far (p:=⟨gb196,3,none⟩) (Kd.Vl HO_1.out (fun k_ hk=>(⟨hk,hk.2.2.1⟩:_∧k_≠gb196))) (fun _ hk=>hk.2) (.int .i64 (wrap64 (((Xb x1_1 x8_3).f3)+1)))) (fun _ hk=>⟨⟨hk.1.1,⟨hk.1.2.2.1,hk.1.2.2.2⟩⟩,hk.1.2.1⟩))) hg hat);have n1_:=Xa.mk (Vm (g:=gb196) (o:=.cells #[.int .i64 ((Xb x1_1 x8_3).f0),.int .i64 ((Xb x1_1 x8_3).f1),.int .i64 ((Xb x1_1 x8_3).f2),.int .i64 (wrap64 (((Xb x1_1 x8_3).f3)+1))] 31 (0,0)) (by (with_reducible repeat (first|refine Xj ?_ _|refine Xo ?_|refine Xi ?_ _));refine Ye (cs:=#[.int .i64 ((Xb x1_1 x8_3).f0),.int .i64 ((Xb x1_1 x8_3).f1),.int .i64 ((Xb x1_1 x8_3).f2),.int .i64 ((Xb x1_1 x8_3).f3)]) ?_ 3 _ rfl;(with_reducible repeat (first|refine Xj ?_ _|refine Xo ?_|refine Xi ?_ _));exact BK196.out) hg (Kd.R_away HO_7.out (fun _ hk=>hk.2)));have n2_:=Xa.mk (Xm.grown (show Xm w0 _ g s0_0 t191 from Xu HI0) hg (Xm.own_ne HI0.out HO_7.out (by decide)));have n3_:=Xa.mk (Ub (Yh HB) HL.out hb);have n4_:=Xa.mk (Xg.trans (kp_ HK) (Xg.Vg hg g) (Kd.R_base2 HO_7.out));have n5_:=Xa.mk (ho);clear HO_1;clear BK196;clear HI0;clear HB;clear HK;clear HO_7;have HO_1:=n0_;have BK196:=n1_;have HI0:=n2_;have HB:=n3_;have HK:=n4_;have HO205:=n5_;clear n0_ n1_ n2_ n3_ n4_ n5_;clear ho hb hg hat))
               go_roundg kj17
               case measure=>have:=HK1.out;have:=HJ4.out;have:=HK3.out;have:=HJ17.out;omega
               case rel=>exact ⟨(y203),(wrap64 (x8_3+1)),(by first|rfl|(simp;done)|(simp [*];done)),H',⟨by have:=HK1.out;have:=HJ4.out;have:=HK3.out;have:=HJ17.out;omega⟩,⟨Kd.va_ (Kd.Vl HO_1.out (fun _ hk=>⟨hk.1.1,⟨hk.2,hk.1.2.2⟩⟩))⟩,⟨Kd.ra_ (Kd.Xn HO205.out (fun _ hk=>hk.1))⟩,⟨Xu HI0⟩,⟨kp_ HK⟩,⟨Yh HB⟩⟩
              ·rw [if_neg c39] at H;exact absurd H (by simp)
            ·replace c30:=Bool.eq_false_iff.mpr c30;subst c30
             have H1:(if x8_3=t190 then (if x7_3.length<4398046511104 then ((some (x7_3 ++ [(⟨7,0,0,wrap64 (t190+1)⟩:S31)]:List (S31))).bind fun y206=>(if y206.length<4398046511104 then (Xw.l1 kj17 x1_1 x5_1 t190 (y206 ++ [(⟨((Xb x1_1 x8_3).f0),((Xb x1_1 x8_3).f1),((Xb x1_1 x8_3).f2),((Xb x1_1 x8_3).f3)⟩:S31)]) (wrap64 (x8_3+1)) s0_0 t191) else (none))) else (none)) else (if x7_3.length<4398046511104 then (Xw.l1 kj17 x1_1 x5_1 t190 (x7_3 ++ [(⟨((Xb x1_1 x8_3).f0),((Xb x1_1 x8_3).f1),((Xb x1_1 x8_3).f2),((Xb x1_1 x8_3).f3)⟩:S31)]) (wrap64 (x8_3+1)) s0_0 t191) else (none)))=some (r1,r2):=by rw [if_neg (show ¬ (false=true) by decide)] at H;exact H
             clear H;have H:=H1;clear H1;by_cases c43:x8_3=t190
             ·rw [if_pos c43] at H;have c43b0:(x8_3 == t190)=true:=beq_iff_eq.mpr c43;have c43b1:(x8_3 != t190)=false:=bne_eq_false_iff_eq.mpr c43;clear c43;by_cases c44:x7_3.length<4398046511104
              ·rw [if_pos c44] at H;have LMc44:=Xa.mk c44;clear c44;obtain ⟨y206,hy206⟩:∃ y_:List (S31),y_=(x7_3 ++ [(⟨7,0,0,wrap64 (t190+1)⟩:S31)]):=⟨_,rfl⟩
               replace H:(if y206.length<4398046511104 then (Xw.l1 kj17 x1_1 x5_1 t190 (y206 ++ [(⟨((Xb x1_1 x8_3).f0),((Xb x1_1 x8_3).f1),((Xb x1_1 x8_3).f2),((Xb x1_1 x8_3).f3)⟩:S31)]) (wrap64 (x8_3+1)) s0_0 t191) else (none))=some (r1,r2):=by subst hy206;first|with_reducible exact H|(have z:=(Option.bind_some _ _).symm.trans H;with_reducible exact z)|exact H
               have Ny206:=Xa.mk hy206;clear hy206;by_cases c45:y206.length<4398046511104
               ·rw [if_pos c45] at H;have LMc45:=Xa.mk c45;clear c45;obtain ⟨y209,hy209⟩:∃ y_:List (S31),y_=(y206 ++ [(⟨((Xb x1_1 x8_3).f0),((Xb x1_1 x8_3).f1),((Xb x1_1 x8_3).f2),((Xb x1_1 x8_3).f3)⟩:S31)]):=⟨_,rfl⟩
                replace H:(Xw.l1 kj17 x1_1 x5_1 t190 y209 (wrap64 (x8_3+1)) s0_0 t191)=some (r1,r2):=by subst hy209;first|with_reducible exact H|(have z:=(Option.bind_some _ _).symm.trans H;with_reducible exact z)|exact H
                have Ny209:=Xa.mk hy209;clear hy209;have H':=Xa.mk H;clear H;go_wp2_with (first|((with_reducible refine Yp (b:=.append) (xs:=#[.tmp 62,.tmp 66]) rfl ?_);(try (refine gate_guard (by rfl) ?_;dsimp only));at_builtin;refine Kd.Vo k31 w.heap.size rfl (.tmp 62) (.tmp 66) 23 31 (.agg #[(.int .i64 0),(.int .i64 0),(.int .i64 0),(.int .i64 0)]) 32 rfl Try.underlying23 Vf rfl (by decide) (by omega) u7 x7_3 (⟨7,0,0,wrap64 (t190+1)⟩:S31) [.int .i64 7,.int .i64 0,.int .i64 0,.int .i64 (wrap64 (t190+1))] (fun k_=>(w.heap.size≤k_)∧k_≠gb196) (fun _=>False) rfl rfl ?aP (fun _ hk=>hk.elim) ?aF ?aO (Below.refl _ _) ?aS ?aL ?_;(case aP=>exact Us _ _ _ (⟨7,0,0,wrap64 (t190+1)⟩:S31));(case aF=>exact (fun k_ hk=>⟨(Nat.le_trans (Yd (w:=w) (g:=g) (row:=none) (kp_ HK)) hk),Kd.freshB (g:=gb196) (o:=.cells #[.int .i64 ((Xb x1_1 x8_3).f0),.int .i64 ((Xb x1_1 x8_3).f1),.int .i64 ((Xb x1_1 x8_3).f2),.int .i64 ((Xb x1_1 x8_3).f3)] 31 (0,0)) (ba_ BK196) k_ hk⟩));(case aO=>exact (Kd.ra_ (HO_7.out)));(case aS=>exact (Yd (w:=w) (g:=g) (row:=none) (kp_ HK)));(case aL=>have:=LMc44.out;omega);intro v207 w46 ho hb hg hat;rw [← Ny206.out] at ho;have n0_:=Xa.mk (Kd.V_afterv (ok:=(fun k_=>(P1_ k_∨w.heap.size≤k_)∧k_≠gb196∧k_≠g)) (Kd.va_ (Kd.Vl HO_1.out (fun _ hk=>⟨⟨hk.1,⟨hk.2.2.1,hk.2.2.2⟩⟩,hk.2.1⟩))) hg hat);have n1_:=Xa.mk (Vm (g:=gb196) (o:=.cells #[.int .i64 ((Xb x1_1 x8_3).f0),.int .i64 ((Xb x1_1 x8_3).f1),.int .i64 ((Xb x1_1 x8_3).f2),.int .i64 ((Xb x1_1 x8_3).f3)] 31 (0,0)) (ba_ BK196) hg (Kd.R_away HO_7.out (fun _ hk=>hk.2)));have n2_:=Xa.mk (Xm.grown (show Xm w0 _ g s0_0 t191 from Xu HI0) hg (Xm.own_ne HI0.out HO_7.out (by decide)));have n3_:=Xa.mk (Ub (Yh HB) HL.out hb);have n4_:=Xa.mk (Xg.trans (kp_ HK) (Xg.Vg hg g) (Kd.R_base2 HO_7.out));have n5_:=Xa.mk (ho);clear HO_1;clear BK196;clear HI0;clear HB;clear HK;clear HO_7;have HO_1:=n0_;have BK196:=n1_;have HI0:=n2_;have HB:=n3_;have HK:=n4_;have HO208:=n5_;clear n0_ n1_ n2_ n3_ n4_ n5_;clear ho hb hg hat;have hnb47:=NB196_0.out;have hnc47:=NB0_196.out;obtain ⟨hcz48_0,hcz48_1,hcz48_2,hcz48_3⟩:=Uu BK196.out;obtain ⟨hfz48_0,hfz48_1,hfz48_2,hfz48_3⟩:=Uy BK196.out)|((with_reducible refine Yp (b:=.append) (xs:=#[.tmp 68,.tmp 70]) rfl ?_);(try (refine gate_guard (by rfl) ?_;dsimp only));at_builtin;refine Kd.Vo k31 w.heap.size rfl (.tmp 68) (.tmp 70) 23 31 (.agg #[(.int .i64 0),(.int .i64 0),(.int .i64 0),(.int .i64 0)]) 32 rfl Try.underlying23 Vf rfl (by decide) (by omega) v207 y206 (⟨((Xb x1_1 x8_3).f0),((Xb x1_1 x8_3).f1),((Xb x1_1 x8_3).f2),((Xb x1_1 x8_3).f3)⟩:S31) [.int .i64 ((Xb x1_1 x8_3).f0),.int .i64 ((Xb x1_1 x8_3).f1),.int .i64 ((Xb x1_1 x8_3).f2),.int .i64 ((Xb x1_1 x8_3).f3)] (fun k_=>(w.heap.size≤k_)∧k_≠gb196) (fun _=>False) rfl rfl ?aP (fun _ hk=>hk.elim) ?aF ?aO (Below.refl _ _) ?aS ?aL ?_;(case aP=>exact Us _ _ _ (⟨((Xb x1_1 x8_3).f0),((Xb x1_1 x8_3).f1),((Xb x1_1 x8_3).f2),((Xb x1_1 x8_3).f3)⟩:S31));(case aF=>exact (fun k_ hk=>⟨(Nat.le_trans (Yd (w:=w) (g:=g) (row:=none) (kp_ HK)) hk),Kd.freshB (g:=gb196) (o:=.cells #[.int .i64 ((Xb x1_1 x8_3).f0),.int .i64 ((Xb x1_1 x8_3).f1),.int .i64 ((Xb x1_1 x8_3).f2),.int .i64 ((Xb x1_1 x8_3).f3)] 31 (0,0)) (ba_ BK196) k_ hk⟩));(case aO=>exact (Kd.ra_ (HO208.out)));(case aS=>exact (Yd (w:=w) (g:=g) (row:=none) (kp_ HK)));(case aL=>have:=LMc45.out;omega);intro v210 w49 ho hb hg hat;rw [← Ny209.out] at ho;have n0_:=Xa.mk (Kd.V_afterv (ok:=(fun k_=>(P1_ k_∨w.heap.size≤k_)∧k_≠gb196∧k_≠g)) (Kd.va_ (HO_1.out)) hg hat);have n1_:=Xa.mk (Vm (g:=gb196) (o:=.cells #[.int .i64 ((Xb x1_1 x8_3).f0),.int .i64 ((Xb x1_1 x8_3).f1),.int .i64 ((Xb x1_1 x8_3).f2),.int .i64 ((Xb x1_1 x8_3).f3)] 31 (0,0)) (ba_ BK196) hg (Kd.R_away HO208.out (fun _ hk=>hk.2)));have n2_:=Xa.mk (Xm.grown (show Xm w0 _ g s0_0 t191 from Xu HI0) hg (Xm.own_ne HI0.out HO208.out (by decide)));have n3_:=Xa.mk (Ub (Yh HB) HL.out hb);have n4_:=Xa.mk (Xg.trans (kp_ HK) (Xg.Vg hg g) (Kd.R_base2 HO208.out));have n5_:=Xa.mk (ho);clear HO_1;clear BK196;clear HI0;clear HB;clear HK;clear HO208;have HO_1:=n0_;have BK196:=n1_;have HI0:=n2_;have HB:=n3_;have HK:=n4_;have HO211:=n5_;clear n0_ n1_ n2_ n3_ n4_ n5_;clear ho hb hg hat))
                go_roundg kj17
                case measure=>have:=HK1.out;have:=HJ4.out;have:=HK3.out;have:=HJ17.out;omega
                case rel=>exact ⟨(y209),(wrap64 (x8_3+1)),(by first|rfl|(simp;done)|(simp [*];done)),H',⟨by have:=HK1.out;have:=HJ4.out;have:=HK3.out;have:=HJ17.out;omega⟩,⟨Kd.va_ (Kd.Vl HO_1.out (fun _ hk=>⟨hk.1.1,⟨hk.2,hk.1.2.2⟩⟩))⟩,⟨Kd.ra_ (Kd.Xn HO211.out (fun _ hk=>hk.1))⟩,⟨Xu HI0⟩,⟨kp_ HK⟩,⟨Yh HB⟩⟩
               ·rw [if_neg c45] at H;exact absurd H (by simp)
              ·rw [if_neg c44] at H;exact absurd H (by simp)
             ·rw [if_neg c43] at H;have c43b0:(x8_3 == t190)=false:=beq_eq_false_iff_ne.mpr c43;have c43b1:(x8_3 != t190)=true:=bne_iff_ne.mpr c43;by_cases c50:x7_3.length<4398046511104
              ·rw [if_pos c50] at H;have LMc50:=Xa.mk c50;clear c50;obtain ⟨y212,hy212⟩:∃ y_:List (S31),y_=(x7_3 ++ [(⟨((Xb x1_1 x8_3).f0),((Xb x1_1 x8_3).f1),((Xb x1_1 x8_3).f2),((Xb x1_1 x8_3).f3)⟩:S31)]):=⟨_,rfl⟩
               replace H:(Xw.l1 kj17 x1_1 x5_1 t190 y212 (wrap64 (x8_3+1)) s0_0 t191)=some (r1,r2):=by subst hy212;first|with_reducible exact H|(have z:=(Option.bind_some _ _).symm.trans H;with_reducible exact z)|exact H
               have Ny212:=Xa.mk hy212;clear hy212;have H':=Xa.mk H;clear H;have hnb51:=NB196_0.out;have hnc51:=NB0_196.out;obtain ⟨hcz52_0,hcz52_1,hcz52_2,hcz52_3⟩:=Uu BK196.out;obtain ⟨hfz52_0,hfz52_1,hfz52_2,hfz52_3⟩:=Uy BK196.out;go_wp2_with (first|((with_reducible refine Yp (b:=.append) (xs:=#[.tmp 68,.tmp 70]) rfl ?_);(try (refine gate_guard (by rfl) ?_;dsimp only));at_builtin;refine Kd.Vo k31 w.heap.size rfl (.tmp 68) (.tmp 70) 23 31 (.agg #[(.int .i64 0),(.int .i64 0),(.int .i64 0),(.int .i64 0)]) 32 rfl Try.underlying23 Vf rfl (by decide) (by omega) u7 x7_3 (⟨((Xb x1_1 x8_3).f0),((Xb x1_1 x8_3).f1),((Xb x1_1 x8_3).f2),((Xb x1_1 x8_3).f3)⟩:S31) [.int .i64 ((Xb x1_1 x8_3).f0),.int .i64 ((Xb x1_1 x8_3).f1),.int .i64 ((Xb x1_1 x8_3).f2),.int .i64 ((Xb x1_1 x8_3).f3)] (fun k_=>(w.heap.size≤k_)∧k_≠gb196) (fun _=>False) rfl rfl ?aP (fun _ hk=>hk.elim) ?aF ?aO (Below.refl _ _) ?aS ?aL ?_;(case aP=>exact Us _ _ _ (⟨((Xb x1_1 x8_3).f0),((Xb x1_1 x8_3).f1),((Xb x1_1 x8_3).f2),((Xb x1_1 x8_3).f3)⟩:S31));(case aF=>exact (fun k_ hk=>⟨(Nat.le_trans (Yd (w:=w) (g:=g) (row:=none) (kp_ HK)) hk),Kd.freshB (g:=gb196) (o:=.cells #[.int .i64 ((Xb x1_1 x8_3).f0),.int .i64 ((Xb x1_1 x8_3).f1),.int .i64 ((Xb x1_1 x8_3).f2),.int .i64 ((Xb x1_1 x8_3).f3)] 31 (0,0)) (ba_ BK196) k_ hk⟩));(case aO=>exact (Kd.ra_ (HO_7.out)));(case aS=>exact (Yd (w:=w) (g:=g) (row:=none) (kp_ HK)));(case aL=>have:=LMc50.out;omega);intro v213 w53 ho hb hg hat;rw [← Ny212.out] at ho;have n0_:=Xa.mk (Kd.V_afterv (ok:=(fun k_=>(P1_ k_∨w.heap.size≤k_)∧k_≠gb196∧k_≠g)) (Kd.va_ (Kd.Vl HO_1.out (fun _ hk=>⟨⟨hk.1,⟨hk.2.2.1,hk.2.2.2⟩⟩,hk.2.1⟩))) hg hat);have n1_:=Xa.mk (Vm (g:=gb196) (o:=.cells #[.int .i64 ((Xb x1_1 x8_3).f0),.int .i64 ((Xb x1_1 x8_3).f1),.int .i64 ((Xb x1_1 x8_3).f2),.int .i64 ((Xb x1_1 x8_3).f3)] 31 (0,0)) (ba_ BK196) hg (Kd.R_away HO_7.out (fun _ hk=>hk.2)));have n2_:=Xa.mk (Xm.grown (show Xm w0 _ g s0_0 t191 from Xu HI0) hg (Xm.own_ne HI0.out HO_7.out (by decide)));have n3_:=Xa.mk (Ub (Yh HB) HL.out hb);have n4_:=Xa.mk (Xg.trans (kp_ HK) (Xg.Vg hg g) (Kd.R_base2 HO_7.out));have n5_:=Xa.mk (ho);clear HO_1;clear BK196;clear HI0;clear HB;clear HK;clear HO_7;have HO_1:=n0_;have BK196:=n1_;have HI0:=n2_;have HB:=n3_;have HK:=n4_;have HO214:=n5_;clear n0_ n1_ n2_ n3_ n4_ n5_;clear ho hb hg hat))
               go_roundg kj17
               case measure=>have:=HK1.out;have:=HJ4.out;have:=HK3.out;have:=HJ17.out;omega
               case rel=>exact ⟨(y212),(wrap64 (x8_3+1)),(by first|rfl|(simp;done)|(simp [*];done)),H',⟨by have:=HK1.out;have:=HJ4.out;have:=HK3.out;have:=HJ17.out;omega⟩,⟨Kd.va_ (Kd.Vl HO_1.out (fun _ hk=>⟨hk.1.1,⟨hk.2,hk.1.2.2⟩⟩))⟩,⟨Kd.ra_ (Kd.Xn HO214.out (fun _ hk=>hk.1))⟩,⟨Xu HI0⟩,⟨kp_ HK⟩,⟨Yh HB⟩⟩
              ·rw [if_neg c50] at H;exact absurd H (by simp)
         ·rw [if_neg c17] at H;exact absurd H (by simp)
        ·rw [if_neg c16] at H;have c16b0:decide (x8_3<(x1_1.length:Int))=false:=decide_eq_false c16;clear c16;have H':=Xa.mk H;clear H;go_wp2
         go_roundg k3
         case measure=>have:=HK1.out;have:=HJ4.out;have:=HK3.out;omega
         case rel=>exact ⟨(x7_3),(wrap64 (x5_1 - 1)),(t191),(by first|rfl|(simp;done)|(simp [*];done)),H',⟨by have:=HK1.out;have:=HJ4.out;have:=HK3.out;omega⟩,⟨Kd.Vl (Kd.R_V (Kd.ra_ ((Xm.apart HI0.out HO_7.out (by decide))))) (fun k_ hk=>by first|exact ⟨(.inr (hk.1)),hk.2⟩|exact (.inr (hk)))⟩,⟨Xu HI0⟩,⟨kp_ HK⟩,⟨Yh HB⟩⟩
     ·replace c10:=Bool.eq_false_iff.mpr c10;subst c10
      have H1:((Yu.f kj4 s0_0 x1001_1 x1_1).bind fun bt186=>(some (bt186.1,bt186.2)))=some (r1,r2):=by rw [if_neg (show ¬ (false=true) by decide)] at H;exact H
      clear H;have H:=H1;clear H1;replace H:=Option.bind_eq_some_iff.mp H;obtain ⟨⟨t186,t189⟩,A540,H⟩:=H;replace H:(some (t186,t189))=some (r1,r2):=H;have A54:=Xa.mk A540;clear A540;simp only [Option.some.injEq,Prod.mk.injEq] at H;obtain ⟨rfl,rfl⟩:=H;obtain ⟨Ao55,co55,eo55⟩:=Kd.V_slice HO_1.out;subst eo55;go_wp2_with (first|((with_reducible refine Xf (f:=52) rfl ?_);refine Yf (some 75) rfl rfl Try.func52 (by kernel_rfl) rfl #[.pointer (some ⟨g,0,none⟩),.slice Ao55 x1_1.length co55] rfl ga_ ?_;(with_reducible refine (Yu.calls kj4 g s0_0 x1001_1 _ _ x1_1 t186 t189 w0 _ ?side1 ?side2 ?side3 ?side4 A54.out).mono ?_);(case side1=>exact Xu HI0);(case side2=>exact Yh HB);(case side3=>exact Kd.C_foot_ownV (Kd.Vl (ok:=fun k_=>(((P1_ k_∨w.heap.size≤k_))∧k_≠g)) (Kd.va_ (HO_1.out)) (fun k_ hk_=>(⟨hk_,hk_.2⟩:_∧k_≠g))) (fun _ h_=>h_.2));(case side4=>exact (Kd.V_reads' HO_1.out).2.1);rintro e w56 ⟨v187,rfl,ho0,hi,hb,hk⟩;refine ⟨_,rfl,?_⟩;have n0_:=Xa.mk (Kd.Vl (Kd.V_told (Kd.V_oldK (Kd.Vl (ok:=fun k_=>(((P1_ k_∨w.heap.size≤k_))∧k_≠g)) (Kd.va_ (HO_1.out)) (fun k_ hk_=>(⟨hk_,hk_.2⟩:_∧k_≠g))) hk) (Kd.Zj ho0)) (fun _ h_=>h_.1));have n1_:=Xa.mk (Kd.Yg (Kd.R_newM (M:=fun k_=>(w.heap.size≤k_)) ho0 (Yd (w:=w) (g:=g) (row:=none) (kp_ HK)) (fun k_ h_=>h_)) (Yd (w:=w) (g:=g) (row:=none) (kp_ HK)));have n2_:=Xa.mk (Xg.trans (kp_ HK) hk (.inl rfl));have n3_:=Xa.mk (hb);have n4_:=Xa.mk (hi);clear HO_1;clear HK;clear HB;clear HI0;have HO_1:=n0_;have HO188:=n1_;have HK:=n2_;have HB:=n3_;have HI0:=n4_;clear n0_ n1_ n2_ n3_ n4_;(try clear hb);(try clear hb2);(try clear hk);(try clear hi);(try clear ho0)))
      go_ret
      exact ⟨_,rf_,Kd.ra_ (Kd.Xn HO188.out (fun _ hk=>hk.1)),Xu HI0,Yh HB,kp_ HK⟩
def Vb.f (a0:Int):Option (Bool):=if a0 ≥ (-999) then (some (decide (a0≤999))) else (some false)
set_option maxHeartbeats 8000000 in
set_option maxRecDepth 100000 in
theorem Vb.calls (a0:Int) (r:Bool) (w:World) (h:Vb.f a0=some r) :
  Calls Try.prog 59 #[.int .i64 a0] w fun e w'=>e=.returned (.bool r)∧Yn w w':=by
 have H:(if a0 ≥ (-999) then (some (decide (a0≤999))) else (some false))=some r:=h;clear h;by_cases c2:a0 ≥ (-999)
 ·rw [if_pos c2] at H;have c2b0:decide ((-999)≤a0)=true:=decide_eq_true c2;clear c2;obtain rfl:=Option.some.inj H
  go_enter Try.func59,Try.ntmps59
  go_wp2
  go_ret
  exact ⟨by first|rfl|(simp;done)|(simp [*];done),by repeat (first|exact Yn.refl _|apply Yn.step)⟩
 ·rw [if_neg c2] at H;have c2b0:decide ((-999)≤a0)=false:=decide_eq_false c2;clear c2;obtain rfl:=Option.some.inj H
  go_enter Try.func59,Try.ntmps59
  go_wp2
  go_ret
  exact ⟨by first|rfl|(simp;done)|(simp [*];done),by repeat (first|exact Yn.refl _|apply Yn.step)⟩
end Go.Proofs.Ytdkcjecllbdljaa.GSlim
