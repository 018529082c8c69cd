import Derived.Test.YtdkcjecllbdljaaCFnSlim21
namespace Go.Proofs.Ytdkcjecllbdljaa.GSlim
open Go.RowKit Go.Proofs.YtdkcjecllbdljaaW.PrintWords Go.Proofs.YtdkcjecllbdljaaW.PrintLast Go.Proofs.YtdkcjecllbdljaaW.PrintMore
attribute [local go_sem] Zv Zx Un Uo Zm Zn Zw Zy
set_option linter.unusedVariables false
set_option linter.unusedSimpArgs false
mutual
def Ze.j0:Nat→Int→Bool→Int→Int→Int→Int→List (S51)→List (S51)→Option ((List (S31)))
 |0,_,_,_,_,_,_,_,_=>none
 |k+1,x12,x94,x231000,x231001,x231002,x231003,x231004,x231005=>if x94=true then (some (([(⟨x231000,x231001,x231002,x231003⟩:S31)]:List (S31)))) else (if x12=9 then (some (([(⟨10,x231001,0,0⟩:S31)]:List (S31)))) else (if x12=10 then (some (([(⟨11,x231001,0,0⟩:S31)]:List (S31)))) else (some (([(⟨12,0,0,0⟩:S31)]:List (S31))))))
def Ze.f:Nat→Int→Int→Int→Int→List (S51)→List (S51)→Int→Option ((List (S31)))
 |0,_,_,_,_,_,_,_=>none
 |k+1,a0_0,a0_1,a0_2,a0_3,l0_4,l0_5,a1=>if a0_0=6 then ((Zg.f k l0_4 (wrap64 (a1+1))).bind fun t231=>((Zg.f k l0_5 (wrap64 ((wrap64 (a1+2))+(t231.length:Int)))).bind fun t234=>((some (([(⟨6,a0_1,0,wrap64 ((wrap64 (a1+2))+(t231.length:Int))⟩:S31)]:List (S31)):List (S31))).bind fun y237=>(if y237.length+t231.length<4398046511104 then ((some (y237 ++ t231:List (S31))).bind fun y240=>((some (([(⟨7,0,0,wrap64 ((wrap64 ((wrap64 (a1+2))+(t231.length:Int)))+(t234.length:Int))⟩:S31)]:List (S31)):List (S31))).bind fun y243=>(if y240.length+y243.length<4398046511104 then ((some (y240 ++ y243:List (S31))).bind fun y246=>(if y246.length+t234.length<4398046511104 then (some (y246 ++ t234)) else (none))) else (none)))) else (none))))) else (if a0_0=7 then ((Zg.f k l0_4 (wrap64 (a1+1))).bind fun t252=>((some (([(⟨6,a0_1,0,wrap64 ((wrap64 (a1+2))+(t252.length:Int))⟩:S31)]:List (S31)):List (S31))).bind fun y255=>(if y255.length+t252.length<4398046511104 then ((some (y255 ++ t252:List (S31))).bind fun y258=>((some (([(⟨7,0,0,a1⟩:S31)]:List (S31)):List (S31))).bind fun y261=>(if y258.length+y261.length<4398046511104 then (some (y258 ++ y261)) else (none)))) else (none)))) else (if a0_0=8 then ((Zg.f k l0_4 (wrap64 (a1+1))).bind fun t267=>((some (([(⟨8,a0_1,0,0⟩:S31)]:List (S31)):List (S31))).bind fun y270=>(if y270.length+t267.length<4398046511104 then ((some (y270 ++ t267:List (S31))).bind fun y273=>((some (([(⟨9,a0_1,0,0⟩:S31)]:List (S31)):List (S31))).bind fun y276=>(if y273.length+y276.length<4398046511104 then (some (y273 ++ y276)) else (none)))) else (none)))) else (if a0_0=1 then (Ze.j0 k a0_0 (a0_0 == 1) a0_0 a0_1 a0_2 a0_3 l0_4 l0_5) else (if a0_0=2 then (Ze.j0 k a0_0 (a0_0 == 2) a0_0 a0_1 a0_2 a0_3 l0_4 l0_5) else (if a0_0=3 then (Ze.j0 k a0_0 (a0_0 == 3) a0_0 a0_1 a0_2 a0_3 l0_4 l0_5) else (if a0_0=4 then (Ze.j0 k a0_0 (a0_0 == 4) a0_0 a0_1 a0_2 a0_3 l0_4 l0_5) else (Ze.j0 k a0_0 (a0_0 == 5) a0_0 a0_1 a0_2 a0_3 l0_4 l0_5)))))))
def Zg.l0:Nat→List (S51)→Int→List (S31)→Int→Option ((List (S31)))
 |0,_,_,_,_=>none
 |k+1,x0,x1,x5,x6=>if x6<(x0.length:Int) then (if 0≤x6 then ((Ze.f k ((Zb x0 x6).f0) ((Zb x0 x6).f1) ((Zb x0 x6).f2) ((Zb x0 x6).f3) ((Zb x0 x6).f4) ((Zb x0 x6).f5) (wrap64 (x1+(x5.length:Int)))).bind fun t298=>(if x5.length+t298.length<4398046511104 then (Zg.l0 k x0 x1 (x5 ++ t298) (wrap64 (x6+1))) else (none))) else (none)) else (some x5)
def Zg.f:Nat→List (S51)→Int→Option ((List (S31)))
 |0,_,_=>none
 |k+1,l0,a1=>Zg.l0 k l0 a1 (([]:List (S31))) 0
end
def Ze.T13:Bool × List (List Nat × List Nat):=(true,[([],[]),([0],[0]),([1],[1]),([2],[2]),([],[]),([3,4],[3,4]),([],[]),([6],[6]),([7],[7]),([8],[8]),([5,9,5],[5,9]),([10,10,0,1,2,3,4,5,6,7,8,9,10],[10])])
def Ze.B13:List Nat:=[0,1,3,7,0,31,0,64,192,448,1023,2047]
theorem Ze.tab13:rtab .any (opsOf Try.f65 13)=Ze.T13:=by kernel_rfl
theorem Ze.bits13:waitsOk Ze.T13.2 Ze.B13=true:=by kernel_rfl
set_option maxHeartbeats 8000000 in
set_option maxRecDepth 100000 in
theorem Ze.step (k:Nat) (ih:∀ m_,m_<k→∀ (a0_0:Int) (a0_1:Int) (a0_2:Int) (a0_3:Int) (A0_4:Option Addr) (c0_4:Nat) (l0_4:List (S51)) (A0_5:Option Addr) (c0_5:Nat) (l0_5:List (S51)) (a1:Int) (r:List (S31)) (w:World) (hr0_4:Kd.C k51 w A0_4 l0_4.length l0_4) (hc0_4:l0_4.length≤c0_4) (hr0_5:Kd.C k51 w A0_5 l0_5.length l0_5) (hc0_5:l0_5.length≤c0_5) (h:Ze.f m_ a0_0 a0_1 a0_2 a0_3 l0_4 l0_5 a1=some r),
  Calls Try.prog 65 #[.agg #[.int .i64 a0_0,.int .i64 a0_1,.int .i64 a0_2,.int .i64 a0_3,.slice A0_4 l0_4.length c0_4,.slice A0_5 l0_5.length c0_5],.int .i64 a1] w fun e w'=>∃ v0_:Value,e=.returned (v0_)∧Kd.R k31 31 w' w.heap.size (fun _=>True) v0_ r∧Below w.heap.size w w') (ih_spec_l4Of:∀ m_,m_<k→∀ (A0:Option Addr) (c0:Nat) (l0:List (S51)) (a1:Int) (r:List (S31)) (w:World) (hr0:Kd.C k51 w A0 l0.length l0) (hc0:l0.length≤c0) (h:Zg.f m_ l0 a1=some r),
  Calls Try.prog 54 #[.slice A0 l0.length c0,.int .i64 a1] w fun e w'=>∃ v0_:Value,e=.returned (v0_)∧Kd.R k31 31 w' w.heap.size (fun _=>True) v0_ r∧Below w.heap.size w w'):∀ (a0_0:Int) (a0_1:Int) (a0_2:Int) (a0_3:Int) (A0_4:Option Addr) (c0_4:Nat) (l0_4:List (S51)) (A0_5:Option Addr) (c0_5:Nat) (l0_5:List (S51)) (a1:Int) (r:List (S31)) (w:World) (hr0_4:Kd.C k51 w A0_4 l0_4.length l0_4) (hc0_4:l0_4.length≤c0_4) (hr0_5:Kd.C k51 w A0_5 l0_5.length l0_5) (hc0_5:l0_5.length≤c0_5) (h:Ze.f k a0_0 a0_1 a0_2 a0_3 l0_4 l0_5 a1=some r),
  Calls Try.prog 65 #[.agg #[.int .i64 a0_0,.int .i64 a0_1,.int .i64 a0_2,.int .i64 a0_3,.slice A0_4 l0_4.length c0_4,.slice A0_5 l0_5.length c0_5],.int .i64 a1] w fun e w'=>∃ v0_:Value,e=.returned (v0_)∧Kd.R k31 31 w' w.heap.size (fun _=>True) v0_ r∧Below w.heap.size w w':=by
 intro a0_0 a0_1 a0_2 a0_3 A0_4 c0_4 l0_4 A0_5 c0_5 l0_5 a1 r w hr0_4 hc0_4 hr0_5 hc0_5 h
 cases k with
 |zero=>exact absurd h (by simp [Ze.f])
 |succ k=>
 simp only [Ze.f] at h;have hu51:=Try.underlying51;have hu31:=Try.underlying31;have HR0_4:=Xa.mk hr0_4;have HC0_4:=Xa.mk hc0_4;clear hr0_4 hc0_4;have HR0_5:=Xa.mk hr0_5;have HC0_5:=Xa.mk hc0_5;clear hr0_5 hc0_5;have HB:=Xa.mk (Below.refl w.heap.size w);have H:(if a0_0=6 then ((Zg.f k l0_4 (wrap64 (a1+1))).bind fun t231=>((Zg.f k l0_5 (wrap64 ((wrap64 (a1+2))+(t231.length:Int)))).bind fun t234=>((some (([(⟨6,a0_1,0,wrap64 ((wrap64 (a1+2))+(t231.length:Int))⟩:S31)]:List (S31)):List (S31))).bind fun y237=>(if y237.length+t231.length<4398046511104 then ((some (y237 ++ t231:List (S31))).bind fun y240=>((some (([(⟨7,0,0,wrap64 ((wrap64 ((wrap64 (a1+2))+(t231.length:Int)))+(t234.length:Int))⟩:S31)]:List (S31)):List (S31))).bind fun y243=>(if y240.length+y243.length<4398046511104 then ((some (y240 ++ y243:List (S31))).bind fun y246=>(if y246.length+t234.length<4398046511104 then (some (y246 ++ t234)) else (none))) else (none)))) else (none))))) else (if a0_0=7 then ((Zg.f k l0_4 (wrap64 (a1+1))).bind fun t252=>((some (([(⟨6,a0_1,0,wrap64 ((wrap64 (a1+2))+(t252.length:Int))⟩:S31)]:List (S31)):List (S31))).bind fun y255=>(if y255.length+t252.length<4398046511104 then ((some (y255 ++ t252:List (S31))).bind fun y258=>((some (([(⟨7,0,0,a1⟩:S31)]:List (S31)):List (S31))).bind fun y261=>(if y258.length+y261.length<4398046511104 then (some (y258 ++ y261)) else (none)))) else (none)))) else (if a0_0=8 then ((Zg.f k l0_4 (wrap64 (a1+1))).bind fun t267=>((some (([(⟨8,a0_1,0,0⟩:S31)]:List (S31)):List (S31))).bind fun y270=>(if y270.length+t267.length<4398046511104 then ((some (y270 ++ t267:List (S31))).bind fun y273=>((some (([(⟨9,a0_1,0,0⟩:S31)]:List (S31)):List (S31))).bind fun y276=>(if y273.length+y276.length<4398046511104 then (some (y273 ++ y276)) else (none)))) else (none)))) else (if a0_0=1 then (Ze.j0 k a0_0 (a0_0 == 1) a0_0 a0_1 a0_2 a0_3 l0_4 l0_5) else (if a0_0=2 then (Ze.j0 k a0_0 (a0_0 == 2) a0_0 a0_1 a0_2 a0_3 l0_4 l0_5) else (if a0_0=3 then (Ze.j0 k a0_0 (a0_0 == 3) a0_0 a0_1 a0_2 a0_3 l0_4 l0_5) else (if a0_0=4 then (Ze.j0 k a0_0 (a0_0 == 4) a0_0 a0_1 a0_2 a0_3 l0_4 l0_5) else (Ze.j0 k a0_0 (a0_0 == 5) a0_0 a0_1 a0_2 a0_3 l0_4 l0_5))))))))=some r:=h;clear h;by_cases c3:a0_0=6
 ·rw [if_pos c3] at H;have c3b0:(a0_0 == 6)=true:=beq_iff_eq.mpr c3;have c3b1:(a0_0 != 6)=false:=bne_eq_false_iff_eq.mpr c3;clear c3;replace H:=Option.bind_eq_some_iff.mp H;obtain ⟨t231,A40,H⟩:=H;replace H:((Zg.f k l0_5 (wrap64 ((wrap64 (a1+2))+(t231.length:Int)))).bind fun t234=>((some (([(⟨6,a0_1,0,wrap64 ((wrap64 (a1+2))+(t231.length:Int))⟩:S31)]:List (S31)):List (S31))).bind fun y237=>(if y237.length+t231.length<4398046511104 then ((some (y237 ++ t231:List (S31))).bind fun y240=>((some (([(⟨7,0,0,wrap64 ((wrap64 ((wrap64 (a1+2))+(t231.length:Int)))+(t234.length:Int))⟩:S31)]:List (S31)):List (S31))).bind fun y243=>(if y240.length+y243.length<4398046511104 then ((some (y240 ++ y243:List (S31))).bind fun y246=>(if y246.length+t234.length<4398046511104 then (some (y246 ++ t234)) else (none))) else (none)))) else (none))))=some r:=H;have A4:=Xa.mk A40;clear A40;replace H:=Option.bind_eq_some_iff.mp H;obtain ⟨t234,A50,H⟩:=H;replace H:((some (([(⟨6,a0_1,0,wrap64 ((wrap64 (a1+2))+(t231.length:Int))⟩:S31)]:List (S31)):List (S31))).bind fun y237=>(if y237.length+t231.length<4398046511104 then ((some (y237 ++ t231:List (S31))).bind fun y240=>((some (([(⟨7,0,0,wrap64 ((wrap64 ((wrap64 (a1+2))+(t231.length:Int)))+(t234.length:Int))⟩:S31)]:List (S31)):List (S31))).bind fun y243=>(if y240.length+y243.length<4398046511104 then ((some (y240 ++ y243:List (S31))).bind fun y246=>(if y246.length+t234.length<4398046511104 then (some (y246 ++ t234)) else (none))) else (none)))) else (none)))=some r:=H;have A5:=Xa.mk A50;clear A50;obtain ⟨y237,hy237⟩:∃ y_:List (S31),y_=(([(⟨6,a0_1,0,wrap64 ((wrap64 (a1+2))+(t231.length:Int))⟩:S31)]:List (S31))):=⟨_,rfl⟩
  replace H:(if y237.length+t231.length<4398046511104 then ((some (y237 ++ t231:List (S31))).bind fun y240=>((some (([(⟨7,0,0,wrap64 ((wrap64 ((wrap64 (a1+2))+(t231.length:Int)))+(t234.length:Int))⟩:S31)]:List (S31)):List (S31))).bind fun y243=>(if y240.length+y243.length<4398046511104 then ((some (y240 ++ y243:List (S31))).bind fun y246=>(if y246.length+t234.length<4398046511104 then (some (y246 ++ t234)) else (none))) else (none)))) else (none))=some r:=by subst hy237;first|with_reducible exact H|(have z:=(Option.bind_some _ _).symm.trans H;with_reducible exact z)|exact H
  have Ny237:=Xa.mk hy237;clear hy237;by_cases c6:y237.length+t231.length<4398046511104
  ·rw [if_pos c6] at H;have LMc6:=Xa.mk c6;clear c6;obtain ⟨y240,hy240⟩:∃ y_:List (S31),y_=(y237 ++ t231):=⟨_,rfl⟩
   replace H:((some (([(⟨7,0,0,wrap64 ((wrap64 ((wrap64 (a1+2))+(t231.length:Int)))+(t234.length:Int))⟩:S31)]:List (S31)):List (S31))).bind fun y243=>(if y240.length+y243.length<4398046511104 then ((some (y240 ++ y243:List (S31))).bind fun y246=>(if y246.length+t234.length<4398046511104 then (some (y246 ++ t234)) else (none))) else (none)))=some r:=by subst hy240;first|with_reducible exact H|(have z:=(Option.bind_some _ _).symm.trans H;with_reducible exact z)|exact H
   have Ny240:=Xa.mk hy240;clear hy240;obtain ⟨y243,hy243⟩:∃ y_:List (S31),y_=(([(⟨7,0,0,wrap64 ((wrap64 ((wrap64 (a1+2))+(t231.length:Int)))+(t234.length:Int))⟩:S31)]:List (S31))):=⟨_,rfl⟩
   replace H:(if y240.length+y243.length<4398046511104 then ((some (y240 ++ y243:List (S31))).bind fun y246=>(if y246.length+t234.length<4398046511104 then (some (y246 ++ t234)) else (none))) else (none))=some r:=by subst hy243;first|with_reducible exact H|(have z:=(Option.bind_some _ _).symm.trans H;with_reducible exact z)|exact H
   have Ny243:=Xa.mk hy243;clear hy243;by_cases c7:y240.length+y243.length<4398046511104
   ·rw [if_pos c7] at H;have LMc7:=Xa.mk c7;clear c7;obtain ⟨y246,hy246⟩:∃ y_:List (S31),y_=(y240 ++ y243):=⟨_,rfl⟩
    replace H:(if y246.length+t234.length<4398046511104 then (some (y246 ++ t234)) else (none))=some r:=by subst hy246;first|with_reducible exact H|(have z:=(Option.bind_some _ _).symm.trans H;with_reducible exact z)|exact H
    have Ny246:=Xa.mk hy246;clear hy246;by_cases c8:y246.length+t234.length<4398046511104
    ·rw [if_pos c8] at H;have LMc8:=Xa.mk c8;clear c8;obtain ⟨y249,hy249⟩:∃ y_:List (S31),y_=(y246 ++ t234):=⟨_,rfl⟩
     replace H:(some y249)=some r:=by subst hy249;first|with_reducible exact H|(have z:=(Option.bind_some _ _).symm.trans H;with_reducible exact z)|exact H
     have Ny249:=Xa.mk hy249;clear hy249;obtain rfl:=Option.some.inj H
     go_enter Try.func65,Try.ntmps65
     go_wp2_with (first|((with_reducible refine Xx (N:=2) rfl ?_);refine Yw ?hg (N:=2) ?hd (cs:=#[.int .i64 a0_0,.int .i64 a0_1,.int .i64 a0_2,.int .i64 a0_3,.slice A0_4 l0_4.length c0_4,.slice A0_5 l0_5.length c0_5]) (t:=51) ?hr ?_;(case hd=>rfl);(case hg=>rfl);(case hr=>first|(go_simp;done)|(go_simp;rfl));intro gb230 hg w9 hbox hb;have n0_:=Xa.mk (Xd (bl_ HB) hb);have n1_:=Xa.mk (hbox);have n2_:=Xa.mk ((by rw [hg];exact (Xc (bl_ HB)):w.heap.size≤gb230));have n3_:=Xa.mk ((by rw [hg];exact (Xc (bl_ HB)):w.heap.size≤gb230));clear HB;have HB:=n0_;have BK230:=n1_;have GW230:=n2_;have GE230:=n3_;clear n0_ n1_ n2_ n3_;clear hb hbox hg;obtain ⟨hcz10_0,hcz10_1,hcz10_2,hcz10_3,hcz10_4,hcz10_5⟩:=Vi BK230.out;obtain ⟨hfz10_0,hfz10_1,hfz10_2,hfz10_3,hfz10_4,hfz10_5⟩:=Vj BK230.out)|((with_reducible refine Xf (f:=54) rfl ?_);refine Yf (some 19) rfl rfl Try.func54 (by kernel_rfl) rfl #[.slice A0_4 l0_4.length c0_4,.int .i64 (wrap64 (a1+1))] rfl ga_ ?_;(with_reducible refine (ih_spec_l4Of k (by omega) _ _ l0_4 (wrap64 (a1+1)) t231 _ ?side1 ?side2 A4.out).mono ?_);(case side1=>repeat (first|exact (Kd.Zi HR0_4.out HB.out)|(with_reducible refine Kd.Xq ?_ _)|(with_reducible refine Kd.Xr ?_ _)|(with_reducible refine Kd.Yc ?_)));(case side2=>exact HC0_4.out);rintro e w11 ⟨v232,rfl,ho0,hb⟩;refine ⟨_,rfl,?_⟩;have n0_:=Xa.mk (Kd.Yg ho0 (Xc (bl_ HB)));have n1_:=Xa.mk (Zo (g:=gb230) (o:=.cells #[.int .i64 a0_0,.int .i64 a0_1,.int .i64 a0_2,.int .i64 a0_3,.slice A0_4 l0_4.length c0_4,.slice A0_5 l0_5.length c0_5] 51 (0,0)) (ba_ BK230) hb);have n2_:=Xa.mk (Xd (bl_ HB) hb);clear BK230;clear HB;have HO233:=n0_;have BK230:=n1_;have HB:=n2_;clear n0_ n1_ n2_;(try clear hb);(try clear hb2);(try clear hk);(try clear hi);(try clear ho0);obtain ⟨hcz12_0,hcz12_1,hcz12_2,hcz12_3,hcz12_4,hcz12_5⟩:=Vi BK230.out;obtain ⟨hfz12_0,hfz12_1,hfz12_2,hfz12_3,hfz12_4,hfz12_5⟩:=Vj BK230.out;obtain ⟨Ao13,co13,eo13⟩:=Kd.Yr HO233.out;subst eo13)|((with_reducible refine Xf (f:=54) rfl ?_);refine Yf (some 27) rfl rfl Try.func54 (by kernel_rfl) rfl #[.slice A0_5 l0_5.length c0_5,.int .i64 (wrap64 ((wrap64 (a1+2))+(t231.length:Int)))] rfl ga_ ?_;(with_reducible refine (ih_spec_l4Of k (by omega) _ _ l0_5 (wrap64 ((wrap64 (a1+2))+(t231.length:Int))) t234 _ ?side1 ?side2 A5.out).mono ?_);(case side1=>repeat (first|exact (Kd.Zi HR0_5.out HB.out)|(with_reducible refine Kd.Xq ?_ _)|(with_reducible refine Kd.Xr ?_ _)|(with_reducible refine Kd.Yc ?_)));(case side2=>exact HC0_5.out);rintro e w14 ⟨v235,rfl,ho0,hb⟩;refine ⟨_,rfl,?_⟩;have n0_:=Xa.mk (Kd.R_elder' (Kd.ra_ (HO233.out)) (Kd.Zj ho0) hb);have n1_:=Xa.mk (Kd.Yg (Kd.R_new' ho0 (Kd.Ut (Kd.ra_ (HO233.out)))) (Xc (bl_ HB)));have n2_:=Xa.mk (Zo (g:=gb230) (o:=.cells #[.int .i64 a0_0,.int .i64 a0_1,.int .i64 a0_2,.int .i64 a0_3,.slice A0_4 l0_4.length c0_4,.slice A0_5 l0_5.length c0_5] 51 (0,0)) (ba_ BK230) hb);have n3_:=Xa.mk (Xd (bl_ HB) hb);clear HO233;clear BK230;clear HB;have HO233:=n0_;have HO236:=n1_;have BK230:=n2_;have HB:=n3_;clear n0_ n1_ n2_ n3_;(try clear hb);(try clear hb2);(try clear hk);(try clear hi);(try clear ho0);obtain ⟨hcz15_0,hcz15_1,hcz15_2,hcz15_3,hcz15_4,hcz15_5⟩:=Vi BK230.out;obtain ⟨hfz15_0,hfz15_1,hfz15_2,hfz15_3,hfz15_4,hfz15_5⟩:=Vj BK230.out)|((with_reducible refine Xx (N:=36) rfl ?_);refine Kd.Vq k31 _ 31 ?hg (N:=36) ?hd (xs:=([(⟨6,a0_1,0,wrap64 ((wrap64 (a1+2))+(t231.length:Int))⟩:S31)]:List (S31))) (inner:=[.int .i64 6,.int .i64 a0_1,.int .i64 0,.int .i64 (wrap64 ((wrap64 (a1+2))+(t231.length:Int)))]) (ok:=fun _=>True) (okp:=fun _=>True) ?hr ?hp (fun _ hk=>hk) trivial (Below.refl _ _) (Nat.le_refl _) (by simp) ?_;(case hd=>rfl);(case hg=>rfl);(case hr=>first|(go_simp;done)|(go_simp;rfl));(case hp=>exact (Yl.c4 (show Kd.M k31 _ _ _ (⟨6,a0_1,0,wrap64 ((wrap64 (a1+2))+(t231.length:Int))⟩:S31) [.int .i64 6,.int .i64 a0_1,.int .i64 0,.int .i64 (wrap64 ((wrap64 (a1+2))+(t231.length:Int)))] from (Us _ _ _ (⟨6,a0_1,0,wrap64 ((wrap64 (a1+2))+(t231.length:Int))⟩:S31) )) (Yl.none _ _)));intro v238 w16 ho17 hb hg_ hnew_;clear hg_ hnew_;(first|rw [← Ny237.out] at ho17|(simp only [Int.reduceToNat] at ho17;rw [← Ny237.out] at ho17));have n0_:=Xa.mk (Kd.R_elder' (Kd.ra_ (HO233.out)) (Kd.Zj ho17) hb);have n1_:=Xa.mk (Kd.R_elder' (Kd.ra_ (HO236.out)) (Kd.Zj ho17) hb);have n2_:=Xa.mk (Kd.Yg (Kd.R_new' (Kd.R_new' ho17 (Kd.Ut (Kd.ra_ (HO233.out)))) (Kd.Ut (Kd.ra_ (HO236.out)))) (Xc (bl_ HB)));have n3_:=Xa.mk (Zo (g:=gb230) (o:=.cells #[.int .i64 a0_0,.int .i64 a0_1,.int .i64 a0_2,.int .i64 a0_3,.slice A0_4 l0_4.length c0_4,.slice A0_5 l0_5.length c0_5] 51 (0,0)) (ba_ BK230) hb);have n4_:=Xa.mk (Xd (bl_ HB) hb);clear HO233;clear HO236;clear BK230;clear HB;have HO233:=n0_;have HO236:=n1_;have HO239:=n2_;have BK230:=n3_;have HB:=n4_;clear n0_ n1_ n2_ n3_ n4_;clear hb ho17)|((with_reducible refine Yp (b:=.append) (xs:=#[.tmp 36,.tmp 37]) rfl ?_);at_builtin;refine Kd.Vs k31 (w0:=w) w.heap.size rfl (.tmp 36) (.tmp 37) 23 31 (.agg #[(.int .i64 0),(.int .i64 0),(.int .i64 0),(.int .i64 0)]) 32 rfl Try.underlying23 Vf rfl (by decide) (by omega) v238 y237 t231 _ _ _ (fun k_=>some k_≠(.slice Ao13 t231.length co13:Value).ownBlock∧some k_≠(v235:Value).ownBlock) (fun _=>False) rfl rfl ?aO ?aR (fun _ _ h=>h) (fun _ h=>h.elim) ?aF ?aB ?aS ?aL ?_;(case aR=>repeat (first|exact (Kd.R_reads' HO233.out).2.2|(with_reducible refine Kd.Xq ?_ _)|(with_reducible refine Kd.Xr ?_ _)|(with_reducible refine Kd.Yc ?_)));(case aB=>exact (bl_ HB));(case aF=>exact (fun k_ hk=>⟨Kd.fresh' (Kd.Ut (Kd.ra_ (HO233.out))) k_ hk,Kd.fresh' (Kd.Ut (Kd.ra_ (HO236.out))) k_ hk⟩));(case aO=>exact (Kd.ra_ (Kd.Xn HO239.out (fun _ hk=>⟨hk.1.2,hk.2⟩))));(case aS=>exact (Xc (bl_ HB)));(case aL=>have:=LMc6.out;omega);intro v241 w18 ho hb hg hat;rw [← Ny240.out] at ho;have n0_:=Xa.mk (Vm (g:=gb230) (o:=.cells #[.int .i64 a0_0,.int .i64 a0_1,.int .i64 a0_2,.int .i64 a0_3,.slice A0_4 l0_4.length c0_4,.slice A0_5 l0_5.length c0_5] 51 (0,0)) (ba_ BK230) hg (Kd.R_ne HO239.out BK230.out (by decide)));have n1_:=Xa.mk (Kd.Yz (ok:=(fun k_=>some k_≠(v235:Value).ownBlock)) (Kd.ra_ (Kd.Xn HO233.out (fun _ hk=>⟨hk.1.2,hk.2⟩))) hg hat);have n2_:=Xa.mk (Kd.Yz (ok:=(fun k_=>some k_≠(.slice Ao13 t231.length co13:Value).ownBlock)) (Kd.ra_ (Kd.Xn HO236.out (fun _ hk=>⟨hk.1.2,hk.2⟩))) hg hat);have n3_:=Xa.mk (hb);have n4_:=Xa.mk (ho);clear BK230;clear HO233;clear HO236;clear HB;clear HO239;have BK230:=n0_;have HO233:=n1_;have HO236:=n2_;have HB:=n3_;have HO242:=n4_;clear n0_ n1_ n2_ n3_ n4_;clear ho hb hg hat;obtain ⟨Ao19,co19,eo19⟩:=Kd.Yr HO236.out;subst eo19)|((with_reducible refine Xx (N:=49) rfl ?_);refine Kd.Vq k31 _ 31 ?hg (N:=49) ?hd (xs:=([(⟨7,0,0,wrap64 ((wrap64 ((wrap64 (a1+2))+(t231.length:Int)))+(t234.length:Int))⟩:S31)]:List (S31))) (inner:=[.int .i64 7,.int .i64 0,.int .i64 0,.int .i64 (wrap64 ((wrap64 ((wrap64 (a1+2))+(t231.length:Int)))+(t234.length:Int)))]) (ok:=fun _=>True) (okp:=fun _=>True) ?hr ?hp (fun _ hk=>hk) trivial (Below.refl _ _) (Nat.le_refl _) (by simp) ?_;(case hd=>rfl);(case hg=>rfl);(case hr=>first|(go_simp;done)|(go_simp;rfl));(case hp=>exact (Yl.c4 (show Kd.M k31 _ _ _ (⟨7,0,0,wrap64 ((wrap64 ((wrap64 (a1+2))+(t231.length:Int)))+(t234.length:Int))⟩:S31) [.int .i64 7,.int .i64 0,.int .i64 0,.int .i64 (wrap64 ((wrap64 ((wrap64 (a1+2))+(t231.length:Int)))+(t234.length:Int)))] from (Us _ _ _ (⟨7,0,0,wrap64 ((wrap64 ((wrap64 (a1+2))+(t231.length:Int)))+(t234.length:Int))⟩:S31) )) (Yl.none _ _)));intro v244 w20 ho21 hb hg_ hnew_;clear hg_ hnew_;(first|rw [← Ny243.out] at ho21|(simp only [Int.reduceToNat] at ho21;rw [← Ny243.out] at ho21));have n0_:=Xa.mk (Kd.R_elder' (Kd.ra_ (HO233.out)) (Kd.Zj ho21) hb);have n1_:=Xa.mk (Kd.R_elder' (Kd.ra_ (HO236.out)) (Kd.Zj ho21) hb);have n2_:=Xa.mk (Kd.R_elder' (Kd.ra_ (HO242.out)) (Kd.Zj ho21) hb);have n3_:=Xa.mk (Kd.Yg (Kd.R_new' (Kd.R_new' (Kd.R_new' ho21 (Kd.Ut (Kd.ra_ (HO233.out)))) (Kd.Ut (Kd.ra_ (HO236.out)))) (Kd.Ut (Kd.ra_ (HO242.out)))) (Xc (bl_ HB)));have n4_:=Xa.mk (Zo (g:=gb230) (o:=.cells #[.int .i64 a0_0,.int .i64 a0_1,.int .i64 a0_2,.int .i64 a0_3,.slice A0_4 l0_4.length c0_4,.slice A0_5 l0_5.length c0_5] 51 (0,0)) (ba_ BK230) hb);have n5_:=Xa.mk (Xd (bl_ HB) hb);clear HO233;clear HO236;clear HO242;clear BK230;clear HB;have HO233:=n0_;have HO236:=n1_;have HO242:=n2_;have HO245:=n3_;have BK230:=n4_;have HB:=n5_;clear n0_ n1_ n2_ n3_ n4_ n5_;clear hb ho21;obtain ⟨Ao23,co23,eo23⟩:=Kd.Yr HO245.out;subst eo23)|((with_reducible refine Yp (b:=.append) (xs:=#[.tmp 39,.tmp 49]) rfl ?_);at_builtin;refine Kd.Vs k31 (w0:=w) w.heap.size rfl (.tmp 39) (.tmp 49) 23 31 (.agg #[(.int .i64 0),(.int .i64 0),(.int .i64 0),(.int .i64 0)]) 32 rfl Try.underlying23 Vf rfl (by decide) (by omega) v241 y240 y243 _ _ _ (fun k_=>some k_≠(.slice Ao13 t231.length co13:Value).ownBlock∧some k_≠(.slice Ao19 t234.length co19:Value).ownBlock∧some k_≠(.slice Ao23 y243.length co23:Value).ownBlock) (fun _=>False) rfl rfl ?aO ?aR (fun _ _ h=>h) (fun _ h=>h.elim) ?aF ?aB ?aS ?aL ?_;(case aR=>repeat (first|exact (Kd.R_reads' HO245.out).2.2|(with_reducible refine Kd.Xq ?_ _)|(with_reducible refine Kd.Xr ?_ _)|(with_reducible refine Kd.Yc ?_)));(case aB=>exact (bl_ HB));(case aF=>exact (fun k_ hk=>⟨Kd.fresh' (Kd.Ut (Kd.ra_ (HO233.out))) k_ hk,Kd.fresh' (Kd.Ut (Kd.ra_ (HO236.out))) k_ hk,Kd.fresh' (Kd.Ut (Kd.ra_ (HO245.out))) k_ hk⟩));(case aO=>exact (Kd.ra_ (Kd.Xn HO242.out (fun _ hk=>⟨hk.1.1,⟨hk.1.2,hk.2⟩⟩))));(case aS=>exact (Xc (bl_ HB)));(case aL=>have:=LMc7.out;omega);intro v247 w22 ho hb hg hat;rw [← Ny246.out] at ho;have n0_:=Xa.mk (Vm (g:=gb230) (o:=.cells #[.int .i64 a0_0,.int .i64 a0_1,.int .i64 a0_2,.int .i64 a0_3,.slice A0_4 l0_4.length c0_4,.slice A0_5 l0_5.length c0_5] 51 (0,0)) (ba_ BK230) hg (Kd.R_ne HO242.out BK230.out (by decide)));have n1_:=Xa.mk (Kd.Yz (ok:=(fun k_=>some k_≠(.slice Ao19 t234.length co19:Value).ownBlock∧some k_≠(.slice Ao23 y243.length co23:Value).ownBlock)) (Kd.ra_ (Kd.Xn HO233.out (fun _ hk=>⟨⟨hk.1.1,hk.2⟩,hk.1.2⟩))) hg hat);have n2_:=Xa.mk (Kd.Yz (ok:=(fun k_=>some k_≠(.slice Ao13 t231.length co13:Value).ownBlock∧some k_≠(.slice Ao23 y243.length co23:Value).ownBlock)) (Kd.ra_ (Kd.Xn HO236.out (fun _ hk=>⟨⟨hk.1.1,hk.2⟩,hk.1.2⟩))) hg hat);have n3_:=Xa.mk (Kd.Yz (ok:=(fun k_=>some k_≠(.slice Ao13 t231.length co13:Value).ownBlock∧some k_≠(.slice Ao19 t234.length co19:Value).ownBlock)) (Kd.ra_ (Kd.Xn HO245.out (fun _ hk=>⟨⟨hk.1.1.2,hk.1.2⟩,hk.2⟩))) hg hat);have n4_:=Xa.mk (hb);have n5_:=Xa.mk (ho);clear BK230;clear HO233;clear HO236;clear HO245;clear HB;clear HO242;have BK230:=n0_;have HO233:=n1_;have HO236:=n2_;have HO245:=n3_;have HB:=n4_;have HO248:=n5_;clear n0_ n1_ n2_ n3_ n4_ n5_;clear ho hb hg hat)|((with_reducible refine Yp (b:=.append) (xs:=#[.tmp 50,.tmp 51]) rfl ?_);at_builtin;refine Kd.Vs k31 (w0:=w) w.heap.size rfl (.tmp 50) (.tmp 51) 23 31 (.agg #[(.int .i64 0),(.int .i64 0),(.int .i64 0),(.int .i64 0)]) 32 rfl Try.underlying23 Vf rfl (by decide) (by omega) v247 y246 t234 _ _ _ (fun k_=>some k_≠(.slice Ao13 t231.length co13:Value).ownBlock∧some k_≠(.slice Ao19 t234.length co19:Value).ownBlock∧some k_≠(.slice Ao23 y243.length co23:Value).ownBlock) (fun _=>False) rfl rfl ?aO ?aR (fun _ _ h=>h) (fun _ h=>h.elim) ?aF ?aB ?aS ?aL ?_;(case aR=>repeat (first|exact (Kd.R_reads' HO236.out).2.2|(with_reducible refine Kd.Xq ?_ _)|(with_reducible refine Kd.Xr ?_ _)|(with_reducible refine Kd.Yc ?_)));(case aB=>exact (bl_ HB));(case aF=>exact (fun k_ hk=>⟨Kd.fresh' (Kd.Ut (Kd.ra_ (HO233.out))) k_ hk,Kd.fresh' (Kd.Ut (Kd.ra_ (HO236.out))) k_ hk,Kd.fresh' (Kd.Ut (Kd.ra_ (HO245.out))) k_ hk⟩));(case aO=>exact (Kd.ra_ (HO248.out)));(case aS=>exact (Xc (bl_ HB)));(case aL=>have:=LMc8.out;omega);intro v250 w24 ho hb hg hat;rw [← Ny249.out] at ho;have n0_:=Xa.mk (Vm (g:=gb230) (o:=.cells #[.int .i64 a0_0,.int .i64 a0_1,.int .i64 a0_2,.int .i64 a0_3,.slice A0_4 l0_4.length c0_4,.slice A0_5 l0_5.length c0_5] 51 (0,0)) (ba_ BK230) hg (Kd.R_ne HO248.out BK230.out (by decide)));have n1_:=Xa.mk (Kd.Yz (ok:=(fun k_=>some k_≠(.slice Ao19 t234.length co19:Value).ownBlock∧some k_≠(.slice Ao23 y243.length co23:Value).ownBlock)) (Kd.ra_ (HO233.out)) hg hat);have n2_:=Xa.mk (Kd.Yz (ok:=(fun k_=>some k_≠(.slice Ao13 t231.length co13:Value).ownBlock∧some k_≠(.slice Ao23 y243.length co23:Value).ownBlock)) (Kd.ra_ (HO236.out)) hg hat);have n3_:=Xa.mk (Kd.Yz (ok:=(fun k_=>some k_≠(.slice Ao13 t231.length co13:Value).ownBlock∧some k_≠(.slice Ao19 t234.length co19:Value).ownBlock)) (Kd.ra_ (HO245.out)) hg hat);have n4_:=Xa.mk (hb);have n5_:=Xa.mk (ho);clear BK230;clear HO233;clear HO236;clear HO245;clear HB;clear HO248;have BK230:=n0_;have HO233:=n1_;have HO236:=n2_;have HO245:=n3_;have HB:=n4_;have HO251:=n5_;clear n0_ n1_ n2_ n3_ n4_ n5_;clear ho hb hg hat))
     go_ret
     exact ⟨_,rf_,Kd.ra_ (Kd.Xn HO251.out (fun _ hk=>trivial)),bl_ HB⟩
    ·rw [if_neg c8] at H;exact absurd H (by simp)
   ·rw [if_neg c7] at H;exact absurd H (by simp)
  ·rw [if_neg c6] at H;exact absurd H (by simp)
 ·rw [if_neg c3] at H;have c3b0:(a0_0 == 6)=false:=beq_eq_false_iff_ne.mpr c3;have c3b1:(a0_0 != 6)=true:=bne_iff_ne.mpr c3;by_cases c25:a0_0=7
  ·rw [if_pos c25] at H;have c25b0:(a0_0 == 7)=true:=beq_iff_eq.mpr c25;have c25b1:(a0_0 != 7)=false:=bne_eq_false_iff_eq.mpr c25;clear c25;replace H:=Option.bind_eq_some_iff.mp H;obtain ⟨t252,A260,H⟩:=H;replace H:((some (([(⟨6,a0_1,0,wrap64 ((wrap64 (a1+2))+(t252.length:Int))⟩:S31)]:List (S31)):List (S31))).bind fun y255=>(if y255.length+t252.length<4398046511104 then ((some (y255 ++ t252:List (S31))).bind fun y258=>((some (([(⟨7,0,0,a1⟩:S31)]:List (S31)):List (S31))).bind fun y261=>(if y258.length+y261.length<4398046511104 then (some (y258 ++ y261)) else (none)))) else (none)))=some r:=H;have A26:=Xa.mk A260;clear A260;obtain ⟨y255,hy255⟩:∃ y_:List (S31),y_=(([(⟨6,a0_1,0,wrap64 ((wrap64 (a1+2))+(t252.length:Int))⟩:S31)]:List (S31))):=⟨_,rfl⟩
   replace H:(if y255.length+t252.length<4398046511104 then ((some (y255 ++ t252:List (S31))).bind fun y258=>((some (([(⟨7,0,0,a1⟩:S31)]:List (S31)):List (S31))).bind fun y261=>(if y258.length+y261.length<4398046511104 then (some (y258 ++ y261)) else (none)))) else (none))=some r:=by subst hy255;first|with_reducible exact H|(have z:=(Option.bind_some _ _).symm.trans H;with_reducible exact z)|exact H
   have Ny255:=Xa.mk hy255;clear hy255;by_cases c27:y255.length+t252.length<4398046511104
   ·rw [if_pos c27] at H;have LMc27:=Xa.mk c27;clear c27;obtain ⟨y258,hy258⟩:∃ y_:List (S31),y_=(y255 ++ t252):=⟨_,rfl⟩
    replace H:((some (([(⟨7,0,0,a1⟩:S31)]:List (S31)):List (S31))).bind fun y261=>(if y258.length+y261.length<4398046511104 then (some (y258 ++ y261)) else (none)))=some r:=by subst hy258;first|with_reducible exact H|(have z:=(Option.bind_some _ _).symm.trans H;with_reducible exact z)|exact H
    have Ny258:=Xa.mk hy258;clear hy258;obtain ⟨y261,hy261⟩:∃ y_:List (S31),y_=(([(⟨7,0,0,a1⟩:S31)]:List (S31))):=⟨_,rfl⟩
    replace H:(if y258.length+y261.length<4398046511104 then (some (y258 ++ y261)) else (none))=some r:=by subst hy261;first|with_reducible exact H|(have z:=(Option.bind_some _ _).symm.trans H;with_reducible exact z)|exact H
    have Ny261:=Xa.mk hy261;clear hy261;by_cases c28:y258.length+y261.length<4398046511104
    ·rw [if_pos c28] at H;have LMc28:=Xa.mk c28;clear c28;obtain ⟨y264,hy264⟩:∃ y_:List (S31),y_=(y258 ++ y261):=⟨_,rfl⟩
     replace H:(some y264)=some r:=by subst hy264;first|with_reducible exact H|(have z:=(Option.bind_some _ _).symm.trans H;with_reducible exact z)|exact H
     have Ny264:=Xa.mk hy264;clear hy264;obtain rfl:=Option.some.inj H
     go_enter Try.func65,Try.ntmps65
     go_wp2_with (first|((with_reducible refine Xx (N:=2) rfl ?_);refine Yw ?hg (N:=2) ?hd (cs:=#[.int .i64 a0_0,.int .i64 a0_1,.int .i64 a0_2,.int .i64 a0_3,.slice A0_4 l0_4.length c0_4,.slice A0_5 l0_5.length c0_5]) (t:=51) ?hr ?_;(case hd=>rfl);(case hg=>rfl);(case hr=>first|(go_simp;done)|(go_simp;rfl));intro gb230 hg w29 hbox hb;have n0_:=Xa.mk (Xd (bl_ HB) hb);have n1_:=Xa.mk (hbox);have n2_:=Xa.mk ((by rw [hg];exact (Xc (bl_ HB)):w.heap.size≤gb230));have n3_:=Xa.mk ((by rw [hg];exact (Xc (bl_ HB)):w.heap.size≤gb230));clear HB;have HB:=n0_;have BK230:=n1_;have GW230:=n2_;have GE230:=n3_;clear n0_ n1_ n2_ n3_;clear hb hbox hg;obtain ⟨hcz30_0,hcz30_1,hcz30_2,hcz30_3,hcz30_4,hcz30_5⟩:=Vi BK230.out;obtain ⟨hfz30_0,hfz30_1,hfz30_2,hfz30_3,hfz30_4,hfz30_5⟩:=Vj BK230.out)|((with_reducible refine Xf (f:=54) rfl ?_);refine Yf (some 59) rfl rfl Try.func54 (by kernel_rfl) rfl #[.slice A0_4 l0_4.length c0_4,.int .i64 (wrap64 (a1+1))] rfl ga_ ?_;(with_reducible refine (ih_spec_l4Of k (by omega) _ _ l0_4 (wrap64 (a1+1)) t252 _ ?side1 ?side2 A26.out).mono ?_);(case side1=>repeat (first|exact (Kd.Zi HR0_4.out HB.out)|(with_reducible refine Kd.Xq ?_ _)|(with_reducible refine Kd.Xr ?_ _)|(with_reducible refine Kd.Yc ?_)));(case side2=>exact HC0_4.out);rintro e w31 ⟨v253,rfl,ho0,hb⟩;refine ⟨_,rfl,?_⟩;have n0_:=Xa.mk (Kd.Yg ho0 (Xc (bl_ HB)));have n1_:=Xa.mk (Zo (g:=gb230) (o:=.cells #[.int .i64 a0_0,.int .i64 a0_1,.int .i64 a0_2,.int .i64 a0_3,.slice A0_4 l0_4.length c0_4,.slice A0_5 l0_5.length c0_5] 51 (0,0)) (ba_ BK230) hb);have n2_:=Xa.mk (Xd (bl_ HB) hb);clear BK230;clear HB;have HO254:=n0_;have BK230:=n1_;have HB:=n2_;clear n0_ n1_ n2_;(try clear hb);(try clear hb2);(try clear hk);(try clear hi);(try clear ho0);obtain ⟨hcz32_0,hcz32_1,hcz32_2,hcz32_3,hcz32_4,hcz32_5⟩:=Vi BK230.out;obtain ⟨hfz32_0,hfz32_1,hfz32_2,hfz32_3,hfz32_4,hfz32_5⟩:=Vj BK230.out;obtain ⟨Ao33,co33,eo33⟩:=Kd.Yr HO254.out;subst eo33)|((with_reducible refine Xx (N:=68) rfl ?_);refine Kd.Vq k31 _ 31 ?hg (N:=68) ?hd (xs:=([(⟨6,a0_1,0,wrap64 ((wrap64 (a1+2))+(t252.length:Int))⟩:S31)]:List (S31))) (inner:=[.int .i64 6,.int .i64 a0_1,.int .i64 0,.int .i64 (wrap64 ((wrap64 (a1+2))+(t252.length:Int)))]) (ok:=fun _=>True) (okp:=fun _=>True) ?hr ?hp (fun _ hk=>hk) trivial (Below.refl _ _) (Nat.le_refl _) (by simp) ?_;(case hd=>rfl);(case hg=>rfl);(case hr=>first|(go_simp;done)|(go_simp;rfl));(case hp=>exact (Yl.c4 (show Kd.M k31 _ _ _ (⟨6,a0_1,0,wrap64 ((wrap64 (a1+2))+(t252.length:Int))⟩:S31) [.int .i64 6,.int .i64 a0_1,.int .i64 0,.int .i64 (wrap64 ((wrap64 (a1+2))+(t252.length:Int)))] from (Us _ _ _ (⟨6,a0_1,0,wrap64 ((wrap64 (a1+2))+(t252.length:Int))⟩:S31) )) (Yl.none _ _)));intro v256 w34 ho35 hb hg_ hnew_;clear hg_ hnew_;(first|rw [← Ny255.out] at ho35|(simp only [Int.reduceToNat] at ho35;rw [← Ny255.out] at ho35));have n0_:=Xa.mk (Kd.R_elder' (Kd.ra_ (HO254.out)) (Kd.Zj ho35) hb);have n1_:=Xa.mk (Kd.Yg (Kd.R_new' ho35 (Kd.Ut (Kd.ra_ (HO254.out)))) (Xc (bl_ HB)));have n2_:=Xa.mk (Zo (g:=gb230) (o:=.cells #[.int .i64 a0_0,.int .i64 a0_1,.int .i64 a0_2,.int .i64 a0_3,.slice A0_4 l0_4.length c0_4,.slice A0_5 l0_5.length c0_5] 51 (0,0)) (ba_ BK230) hb);have n3_:=Xa.mk (Xd (bl_ HB) hb);clear HO254;clear BK230;clear HB;have HO254:=n0_;have HO257:=n1_;have BK230:=n2_;have HB:=n3_;clear n0_ n1_ n2_ n3_;clear hb ho35)|((with_reducible refine Yp (b:=.append) (xs:=#[.tmp 68,.tmp 69]) rfl ?_);at_builtin;refine Kd.Vs k31 (w0:=w) w.heap.size rfl (.tmp 68) (.tmp 69) 23 31 (.agg #[(.int .i64 0),(.int .i64 0),(.int .i64 0),(.int .i64 0)]) 32 rfl Try.underlying23 Vf rfl (by decide) (by omega) v256 y255 t252 _ _ _ (fun k_=>some k_≠(.slice Ao33 t252.length co33:Value).ownBlock) (fun _=>False) rfl rfl ?aO ?aR (fun _ _ h=>h) (fun _ h=>h.elim) ?aF ?aB ?aS ?aL ?_;(case aR=>repeat (first|exact (Kd.R_reads' HO254.out).2.2|(with_reducible refine Kd.Xq ?_ _)|(with_reducible refine Kd.Xr ?_ _)|(with_reducible refine Kd.Yc ?_)));(case aB=>exact (bl_ HB));(case aF=>exact (fun k_ hk=>Kd.fresh' (Kd.Ut (Kd.ra_ (HO254.out))) k_ hk));(case aO=>exact (Kd.ra_ (Kd.Xn HO257.out (fun _ hk=>hk.2))));(case aS=>exact (Xc (bl_ HB)));(case aL=>have:=LMc27.out;omega);intro v259 w36 ho hb hg hat;rw [← Ny258.out] at ho;have n0_:=Xa.mk (Vm (g:=gb230) (o:=.cells #[.int .i64 a0_0,.int .i64 a0_1,.int .i64 a0_2,.int .i64 a0_3,.slice A0_4 l0_4.length c0_4,.slice A0_5 l0_5.length c0_5] 51 (0,0)) (ba_ BK230) hg (Kd.R_ne HO257.out BK230.out (by decide)));have n1_:=Xa.mk (Kd.Yz (ok:=(fun _=>True)) (Kd.ra_ (HO254.out)) hg hat);have n2_:=Xa.mk (hb);have n3_:=Xa.mk (ho);clear BK230;clear HO254;clear HB;clear HO257;have BK230:=n0_;have HO254:=n1_;have HB:=n2_;have HO260:=n3_;clear n0_ n1_ n2_ n3_;clear ho hb hg hat)|((with_reducible refine Xx (N:=74) rfl ?_);refine Kd.Vq k31 _ 31 ?hg (N:=74) ?hd (xs:=([(⟨7,0,0,a1⟩:S31)]:List (S31))) (inner:=[.int .i64 7,.int .i64 0,.int .i64 0,.int .i64 a1]) (ok:=fun _=>True) (okp:=fun _=>True) ?hr ?hp (fun _ hk=>hk) trivial (Below.refl _ _) (Nat.le_refl _) (by simp) ?_;(case hd=>rfl);(case hg=>rfl);(case hr=>first|(go_simp;done)|(go_simp;rfl));(case hp=>exact (Yl.c4 (show Kd.M k31 _ _ _ (⟨7,0,0,a1⟩:S31) [.int .i64 7,.int .i64 0,.int .i64 0,.int .i64 a1] from (Us _ _ _ (⟨7,0,0,a1⟩:S31) )) (Yl.none _ _)));intro v262 w37 ho38 hb hg_ hnew_;clear hg_ hnew_;(first|rw [← Ny261.out] at ho38|(simp only [Int.reduceToNat] at ho38;rw [← Ny261.out] at ho38));have n0_:=Xa.mk (Kd.R_elder' (Kd.ra_ (HO254.out)) (Kd.Zj ho38) hb);have n1_:=Xa.mk (Kd.R_elder' (Kd.ra_ (HO260.out)) (Kd.Zj ho38) hb);have n2_:=Xa.mk (Kd.Yg (Kd.R_new' (Kd.R_new' ho38 (Kd.Ut (Kd.ra_ (HO254.out)))) (Kd.Ut (Kd.ra_ (HO260.out)))) (Xc (bl_ HB)));have n3_:=Xa.mk (Zo (g:=gb230) (o:=.cells #[.int .i64 a0_0,.int .i64 a0_1,.int .i64 a0_2,.int .i64 a0_3,.slice A0_4 l0_4.length c0_4,.slice A0_5 l0_5.length c0_5] 51 (0,0)) (ba_ BK230) hb);have n4_:=Xa.mk (Xd (bl_ HB) hb);clear HO254;clear HO260;clear BK230;clear HB;have HO254:=n0_;have HO260:=n1_;have HO263:=n2_;have BK230:=n3_;have HB:=n4_;clear n0_ n1_ n2_ n3_ n4_;clear hb ho38;obtain ⟨Ao40,co40,eo40⟩:=Kd.Yr HO263.out;subst eo40)|((with_reducible refine Yp (b:=.append) (xs:=#[.tmp 71,.tmp 74]) rfl ?_);at_builtin;refine Kd.Vs k31 (w0:=w) w.heap.size rfl (.tmp 71) (.tmp 74) 23 31 (.agg #[(.int .i64 0),(.int .i64 0),(.int .i64 0),(.int .i64 0)]) 32 rfl Try.underlying23 Vf rfl (by decide) (by omega) v259 y258 y261 _ _ _ (fun k_=>some k_≠(.slice Ao33 t252.length co33:Value).ownBlock∧some k_≠(.slice Ao40 y261.length co40:Value).ownBlock) (fun _=>False) rfl rfl ?aO ?aR (fun _ _ h=>h) (fun _ h=>h.elim) ?aF ?aB ?aS ?aL ?_;(case aR=>repeat (first|exact (Kd.R_reads' HO263.out).2.2|(with_reducible refine Kd.Xq ?_ _)|(with_reducible refine Kd.Xr ?_ _)|(with_reducible refine Kd.Yc ?_)));(case aB=>exact (bl_ HB));(case aF=>exact (fun k_ hk=>⟨Kd.fresh' (Kd.Ut (Kd.ra_ (HO254.out))) k_ hk,Kd.fresh' (Kd.Ut (Kd.ra_ (HO263.out))) k_ hk⟩));(case aO=>exact (Kd.ra_ (HO260.out)));(case aS=>exact (Xc (bl_ HB)));(case aL=>have:=LMc28.out;omega);intro v265 w39 ho hb hg hat;rw [← Ny264.out] at ho;have n0_:=Xa.mk (Vm (g:=gb230) (o:=.cells #[.int .i64 a0_0,.int .i64 a0_1,.int .i64 a0_2,.int .i64 a0_3,.slice A0_4 l0_4.length c0_4,.slice A0_5 l0_5.length c0_5] 51 (0,0)) (ba_ BK230) hg (Kd.R_ne HO260.out BK230.out (by decide)));have n1_:=Xa.mk (Kd.Yz (ok:=(fun k_=>some k_≠(.slice Ao40 y261.length co40:Value).ownBlock)) (Kd.ra_ (Kd.Xn HO254.out (fun _ hk=>⟨hk.2,hk.1.2⟩))) hg hat);have n2_:=Xa.mk (Kd.Yz (ok:=(fun k_=>some k_≠(.slice Ao33 t252.length co33:Value).ownBlock)) (Kd.ra_ (Kd.Xn HO263.out (fun _ hk=>⟨hk.1.2,hk.2⟩))) hg hat);have n3_:=Xa.mk (hb);have n4_:=Xa.mk (ho);clear BK230;clear HO254;clear HO263;clear HB;clear HO260;have BK230:=n0_;have HO254:=n1_;have HO263:=n2_;have HB:=n3_;have HO266:=n4_;clear n0_ n1_ n2_ n3_ n4_;clear ho hb hg hat))
     go_ret
     exact ⟨_,rf_,Kd.ra_ (Kd.Xn HO266.out (fun _ hk=>trivial)),bl_ HB⟩
    ·rw [if_neg c28] at H;exact absurd H (by simp)
   ·rw [if_neg c27] at H;exact absurd H (by simp)
  ·rw [if_neg c25] at H;have c25b0:(a0_0 == 7)=false:=beq_eq_false_iff_ne.mpr c25;have c25b1:(a0_0 != 7)=true:=bne_iff_ne.mpr c25;by_cases c41:a0_0=8
   ·rw [if_pos c41] at H;have c41b0:(a0_0 == 8)=true:=beq_iff_eq.mpr c41;have c41b1:(a0_0 != 8)=false:=bne_eq_false_iff_eq.mpr c41;clear c41;replace H:=Option.bind_eq_some_iff.mp H;obtain ⟨t267,A420,H⟩:=H;replace H:((some (([(⟨8,a0_1,0,0⟩:S31)]:List (S31)):List (S31))).bind fun y270=>(if y270.length+t267.length<4398046511104 then ((some (y270 ++ t267:List (S31))).bind fun y273=>((some (([(⟨9,a0_1,0,0⟩:S31)]:List (S31)):List (S31))).bind fun y276=>(if y273.length+y276.length<4398046511104 then (some (y273 ++ y276)) else (none)))) else (none)))=some r:=H;have A42:=Xa.mk A420;clear A420;obtain ⟨y270,hy270⟩:∃ y_:List (S31),y_=(([(⟨8,a0_1,0,0⟩:S31)]:List (S31))):=⟨_,rfl⟩
    replace H:(if y270.length+t267.length<4398046511104 then ((some (y270 ++ t267:List (S31))).bind fun y273=>((some (([(⟨9,a0_1,0,0⟩:S31)]:List (S31)):List (S31))).bind fun y276=>(if y273.length+y276.length<4398046511104 then (some (y273 ++ y276)) else (none)))) else (none))=some r:=by subst hy270;first|with_reducible exact H|(have z:=(Option.bind_some _ _).symm.trans H;with_reducible exact z)|exact H
    have Ny270:=Xa.mk hy270;clear hy270;by_cases c43:y270.length+t267.length<4398046511104
    ·rw [if_pos c43] at H;have LMc43:=Xa.mk c43;clear c43;obtain ⟨y273,hy273⟩:∃ y_:List (S31),y_=(y270 ++ t267):=⟨_,rfl⟩
     replace H:((some (([(⟨9,a0_1,0,0⟩:S31)]:List (S31)):List (S31))).bind fun y276=>(if y273.length+y276.length<4398046511104 then (some (y273 ++ y276)) else (none)))=some r:=by subst hy273;first|with_reducible exact H|(have z:=(Option.bind_some _ _).symm.trans H;with_reducible exact z)|exact H
     have Ny273:=Xa.mk hy273;clear hy273;obtain ⟨y276,hy276⟩:∃ y_:List (S31),y_=(([(⟨9,a0_1,0,0⟩:S31)]:List (S31))):=⟨_,rfl⟩
     replace H:(if y273.length+y276.length<4398046511104 then (some (y273 ++ y276)) else (none))=some r:=by subst hy276;first|with_reducible exact H|(have z:=(Option.bind_some _ _).symm.trans H;with_reducible exact z)|exact H
     have Ny276:=Xa.mk hy276;clear hy276;by_cases c44:y273.length+y276.length<4398046511104
     ·rw [if_pos c44] at H;have LMc44:=Xa.mk c44;clear c44;obtain ⟨y279,hy279⟩:∃ y_:List (S31),y_=(y273 ++ y276):=⟨_,rfl⟩
      replace H:(some y279)=some r:=by subst hy279;first|with_reducible exact H|(have z:=(Option.bind_some _ _).symm.trans H;with_reducible exact z)|exact H
      have Ny279:=Xa.mk hy279;clear hy279;obtain rfl:=Option.some.inj H
      go_enter Try.func65,Try.ntmps65
      try go_wp2_with (first|((with_reducible refine Xx (N:=2) rfl ?_);refine Yw ?hg (N:=2) ?hd (cs:=#[.int .i64 a0_0,.int .i64 a0_1,.int .i64 a0_2,.int .i64 a0_3,.slice A0_4 l0_4.length c0_4,.slice A0_5 l0_5.length c0_5]) (t:=51) ?hr ?_;(case hd=>rfl);(case hg=>rfl);(case hr=>first|(go_simp;done)|(go_simp;rfl));intro gb230 hg w45 hbox hb;have n0_:=Xa.mk (Xd (bl_ HB) hb);have n1_:=Xa.mk (hbox);have n2_:=Xa.mk ((by rw [hg];exact (Xc (bl_ HB)):w.heap.size≤gb230));have n3_:=Xa.mk ((by rw [hg];exact (Xc (bl_ HB)):w.heap.size≤gb230));clear HB;have HB:=n0_;have BK230:=n1_;have GW230:=n2_;have GE230:=n3_;clear n0_ n1_ n2_ n3_;clear hb hbox hg;obtain ⟨hcz46_0,hcz46_1,hcz46_2,hcz46_3,hcz46_4,hcz46_5⟩:=Vi BK230.out;obtain ⟨hfz46_0,hfz46_1,hfz46_2,hfz46_3,hfz46_4,hfz46_5⟩:=Vj BK230.out)|((with_reducible refine Xf (f:=54) rfl ?_);refine Yf (some 82) rfl rfl Try.func54 (by kernel_rfl) rfl #[.slice A0_4 l0_4.length c0_4,.int .i64 (wrap64 (a1+1))] rfl ga_ ?_;(with_reducible refine (ih_spec_l4Of k (by omega) _ _ l0_4 (wrap64 (a1+1)) t267 _ ?side1 ?side2 A42.out).mono ?_);(case side1=>repeat (first|exact (Kd.Zi HR0_4.out HB.out)|(with_reducible refine Kd.Xq ?_ _)|(with_reducible refine Kd.Xr ?_ _)|(with_reducible refine Kd.Yc ?_)));(case side2=>exact HC0_4.out);rintro e w47 ⟨v268,rfl,ho0,hb⟩;refine ⟨_,rfl,?_⟩;have n0_:=Xa.mk (Kd.Yg ho0 (Xc (bl_ HB)));have n1_:=Xa.mk (Zo (g:=gb230) (o:=.cells #[.int .i64 a0_0,.int .i64 a0_1,.int .i64 a0_2,.int .i64 a0_3,.slice A0_4 l0_4.length c0_4,.slice A0_5 l0_5.length c0_5] 51 (0,0)) (ba_ BK230) hb);have n2_:=Xa.mk (Xd (bl_ HB) hb);clear BK230;clear HB;have HO269:=n0_;have BK230:=n1_;have HB:=n2_;clear n0_ n1_ n2_;(try clear hb);(try clear hb2);(try clear hk);(try clear hi);(try clear ho0);obtain ⟨Ao48,co48,eo48⟩:=Kd.Yr HO269.out;subst eo48))
      have n0_:=Xa.mk (Kd.Va HO269.out);have n1_:=Xa.mk (Xo BK230.out);have n2_:=Xa.mk (below_drew1 HB.out);clear HO269;clear BK230;clear HB;have HO269:=n0_;have BK230:=n1_;have HB:=n2_;clear n0_ n1_ n2_;refine start_ (n:=12) (S:=fun w'=>w'.cell? ⟨gb230,0,none⟩=some (.int .i64 a0_0)∧w'.cell? ⟨gb230,1,none⟩=some (.int .i64 a0_1)∧w'.cell? ⟨gb230,2,none⟩=some (.int .i64 a0_2)∧w'.cell? ⟨gb230,3,none⟩=some (.int .i64 a0_3)∧w'.cell? ⟨gb230,4,none⟩=some (.slice A0_4 l0_4.length c0_4)∧w'.cell? ⟨gb230,5,none⟩=some (.slice A0_5 l0_5.length c0_5)) (ds:=[]) #[false,false,false,false,false,false,false,false,false,false,false,false] (by kernel_rfl) rfl rfl ⟨(Yj BK230.out 0).trans rfl,(Yj BK230.out 1).trans rfl,(Yj BK230.out 2).trans rfl,(Yj BK230.out 3).trans rfl,(Yj BK230.out 4).trans rfl,(Yj BK230.out 5).trans rfl⟩ (fun hHeld=>?_);refine with_tabW Ze.tab13 Ze.bits13 (fun HT_ HW_=>?_)
      generalize w47.drew=w49 at HO269 BK230 HB hHeld ⊢
      refine Zf (i:=0) (N:=some 83) (v:=?_) (a':=?_) #[true,false,false,false,false,false,false,false,false,false,false,false] rfl rfl (Za HT_.out (by kernel_rfl)) (fun _ _ _ h=>h) (Or.inl ⟨by rfl,?_⟩) ?_ ?_
      rotate_left
      ·intro w';go_simp
       with_reducible rfl
      rotate_left
      ·simp only [Act.put,List.setIfInBounds_toArray,List.set_cons_zero,List.set_cons_succ,Xy,Xz];rfl
      refine Zf (i:=4) (N:=some 87) (v:=?_) (a':=?_) #[true,false,false,false,true,false,false,false,false,false,false,false] rfl rfl (Za HT_.out (by kernel_rfl)) (fun _ _ _ h=>h) (Or.inl ⟨by rfl,?_⟩) ?_ ?_
      rotate_left
      ·intro w';go_simp
       with_reducible rfl
      rotate_left
      ·simp only [Act.put,List.setIfInBounds_toArray,List.set_cons_zero,List.set_cons_succ,Xy,Xz];rfl
      refine Zf (i:=6) (N:=some 89) (v:=?_) (a':=?_) #[true,false,false,false,true,false,true,false,false,false,false,false] rfl rfl (Za HT_.out (by kernel_rfl)) (fun _ _ _ h=>h) (Or.inl ⟨by rfl,?_⟩) ?_ ?_
      rotate_left
      ·intro w';go_simp
       with_reducible rfl
      rotate_left
      ·simp only [Act.put,List.setIfInBounds_toArray,List.set_cons_zero,List.set_cons_succ,Xy,Xz];rfl
      refine take_ (i:=1) (N:=some 84) (v:=?_) (a':=?_) #[true,true,false,false,true,false,true,false,false,false,false,false] rfl rfl (take_ofW HT_.out HW_.out (by kernel_rfl)) (fun _ _ _ h=>h) (Or.inl ⟨by rfl,?_⟩) hHeld ?_ ?_
      rotate_left
      ·rintro w' ⟨s0,s1,s2,s3,s4,s5⟩
       go_simp
       with_reducible rfl
      rotate_left
      ·simp only [Act.put,List.setIfInBounds_toArray,List.set_cons_zero,List.set_cons_succ,Xy,Xz];rfl
      refine Zf (i:=2) (N:=some 85) (v:=?_) (a':=?_) #[true,true,true,false,true,false,true,false,false,false,false,false] rfl rfl (Za HT_.out (by kernel_rfl)) (fun _ _ _ h=>h) (Or.inl ⟨by rfl,?_⟩) ?_ ?_
      rotate_left
      ·intro w';go_simp
       with_reducible rfl
      rotate_left
      ·simp only [Act.put,List.setIfInBounds_toArray,List.set_cons_zero,List.set_cons_succ,Xy,Xz];rfl
      refine take_ (i:=7) (N:=some 90) (v:=?_) (a':=?_) #[true,true,true,false,true,false,true,true,false,false,false,false] rfl rfl (take_ofW HT_.out HW_.out (by kernel_rfl)) (fun _ _ _ h=>h) (Or.inl ⟨by rfl,?_⟩) hHeld ?_ ?_
      rotate_left
      ·rintro w' ⟨s0,s1,s2,s3,s4,s5⟩
       go_simp
       with_reducible rfl
      rotate_left
      ·simp only [Act.put,List.setIfInBounds_toArray,List.set_cons_zero,List.set_cons_succ,Xy,Xz];rfl
      refine Zf (i:=8) (N:=some 91) (v:=?_) (a':=?_) #[true,true,true,false,true,false,true,true,true,false,false,false] rfl rfl (Za HT_.out (by kernel_rfl)) (fun _ _ _ h=>h) (Or.inl ⟨by rfl,?_⟩) ?_ ?_
      rotate_left
      ·intro w';go_simp
       with_reducible rfl
      rotate_left
      ·simp only [Act.put,List.setIfInBounds_toArray,List.set_cons_zero,List.set_cons_succ,Xy,Xz];rfl
      refine join_ (σ:=Value × Value × Value) 2 #[true,true,true,true,true,true,true,true,true,true,false,false] (fun s_=>[(86,s_.1),(88,s_.2.1),(92,s_.2.2)]) (fun s_ w'=>(w'.cell? ⟨gb230,0,none⟩=some (.int .i64 a0_0)∧w'.cell? ⟨gb230,1,none⟩=some (.int .i64 a0_1)∧w'.cell? ⟨gb230,2,none⟩=some (.int .i64 a0_2)∧w'.cell? ⟨gb230,3,none⟩=some (.int .i64 a0_3)∧w'.cell? ⟨gb230,4,none⟩=some (.slice A0_4 l0_4.length c0_4)∧w'.cell? ⟨gb230,5,none⟩=some (.slice A0_5 l0_5.length c0_5))∧(Kd.R k31 31 w' w.heap.size (fun k_=>some k_≠(s_.2.1:Value).ownBlock∧some k_≠(s_.2.2:Value).ownBlock) (.slice Ao48 t267.length co48) t267)∧(Kd.R k31 31 w' w.heap.size (fun k_=>some k_≠(.slice Ao48 t267.length co48:Value).ownBlock∧some k_≠(s_.2.2:Value).ownBlock) s_.2.1 y273)∧(Kd.R k31 31 w' w.heap.size (fun k_=>some k_≠(.slice Ao48 t267.length co48:Value).ownBlock∧some k_≠(s_.2.1:Value).ownBlock) s_.2.2 y276)∧(w'.heap[gb230]?=some (.cells #[.int .i64 a0_0,.int .i64 a0_1,.int .i64 a0_2,.int .i64 a0_3,.slice A0_4 l0_4.length c0_4,.slice A0_5 l0_5.length c0_5] 51 (0,0)))∧(Below w.heap.size w w')) ?_ ?_
      rotate_left
      ·intro hCont;refine two_ (i:=3) (j:=9) (Ni:=some 86) (Nj:=some 92) #[true,true,true,true,true,false,true,true,true,false,false,false] #[true,true,true,false,true,false,true,true,true,true,false,false] rfl rfl rfl rfl (two_of HT_.out (by kernel_rfl)) (by decide) (by decide) (fun K hK=>?_) (fun K hK=>?_)
       ·skip
        refine Kd.R_lit_step k31 _ 31 ?hg (N:=86) ?hd (xs:=([(⟨8,a0_1,0,0⟩:S31)]:List (S31))) (inner:=[.int .i64 8,.int .i64 a0_1,.int .i64 0,.int .i64 0]) (ok:=fun _=>True) (okp:=fun _=>True) ?hr ?hp (fun _ hk=>hk) trivial (Below.refl _ _) (Nat.le_refl _) (by simp) ?_;(case hd=>rfl);(case hg=>rfl);(case hr=>first|(go_simp;done)|(go_simp;rfl));(case hp=>exact (Yl.c4 (show Kd.M k31 _ _ _ (⟨8,a0_1,0,0⟩:S31) [.int .i64 8,.int .i64 a0_1,.int .i64 0,.int .i64 0] from (Us _ _ _ (⟨8,a0_1,0,0⟩:S31) )) (Yl.none _ _)))
        intro v271 w50 ho51 hb hg_ hnew_;clear hg_ hnew_
        (first|rw [← Ny270.out] at ho51|(simp only [Int.reduceToNat] at ho51;rw [← Ny270.out] at ho51))
        have n0_:=Xa.mk (Kd.R_elder' (Kd.ra_ (HO269.out)) (Kd.Zj ho51) hb);have n1_:=Xa.mk (Kd.Yg (Kd.R_new' ho51 (Kd.Ut (Kd.ra_ (HO269.out)))) (Xc (bl_ HB)));have n2_:=Xa.mk (Zo (g:=gb230) (o:=.cells #[.int .i64 a0_0,.int .i64 a0_1,.int .i64 a0_2,.int .i64 a0_3,.slice A0_4 l0_4.length c0_4,.slice A0_5 l0_5.length c0_5] 51 (0,0)) (ba_ BK230) hb);have n3_:=Xa.mk (Xd (bl_ HB) hb);clear HO269;clear BK230;clear HB;have HO269:=n0_;have HO272:=n1_;have BK230:=n2_;have HB:=n3_;clear n0_ n1_ n2_ n3_;clear hb ho51;refine hK.out _ _ ⟨(Yj BK230.out 0).trans rfl,(Yj BK230.out 1).trans rfl,(Yj BK230.out 2).trans rfl,(Yj BK230.out 3).trans rfl,(Yj BK230.out 4).trans rfl,(Yj BK230.out 5).trans rfl⟩ (fun hHeld=>?_)
        clear hK K;refine Vr (a':=?_) ?_ ?_
        rotate_left
        ·show Act.put _ (some 86) _=_
         simp only [Act.put,List.setIfInBounds_toArray,List.set_cons_zero,List.set_cons_succ,Xy,Xz];rfl
        refine two_ (i:=5) (j:=9) (Ni:=some 88) (Nj:=some 92) #[true,true,true,true,true,true,true,true,true,false,false,false] #[true,true,true,true,true,false,true,true,true,true,false,false] rfl rfl rfl rfl (two_of HT_.out (by kernel_rfl)) (by decide) (by decide) (fun K hK=>?_) (fun K hK=>?_)
        ·skip
         refine Kd.Uk k31 (w0:=w) w.heap.size (by rfl) (.tmp 86) (.tmp 87) 23 31 (.agg #[(.int .i64 0),(.int .i64 0),(.int .i64 0),(.int .i64 0)]) 32 rfl Try.underlying23 Vf rfl (by decide) (by omega) v271 y270 t267 _ _ _ (fun k_=>some k_≠(.slice Ao48 t267.length co48:Value).ownBlock) (fun _=>False) rfl rfl ?aO ?aR (fun _ _ h=>h) (fun _ h=>h.elim) ?aF ?aB ?aS ?aL ?_
         (case aR=>repeat (first|exact (Kd.R_reads' HO269.out).2.2|(with_reducible refine Kd.Xq ?_ _)|(with_reducible refine Kd.Xr ?_ _)|(with_reducible refine Kd.Yc ?_)))
         (case aB=>exact (bl_ HB))
         (case aF=>exact (fun k_ hk=>Kd.fresh' (Kd.Ut (Kd.ra_ (HO269.out))) k_ hk))
         (case aO=>exact (Kd.ra_ (Kd.Xn HO272.out (fun _ hk=>hk.2))))
         (case aS=>exact (Xc (bl_ HB)))
         (case aL=>have:=LMc43.out;omega)
         intro v274 w52 ho hb hg hat;rw [← Ny273.out] at ho;have n0_:=Xa.mk (Vm (g:=gb230) (o:=.cells #[.int .i64 a0_0,.int .i64 a0_1,.int .i64 a0_2,.int .i64 a0_3,.slice A0_4 l0_4.length c0_4,.slice A0_5 l0_5.length c0_5] 51 (0,0)) (ba_ BK230) hg (Kd.R_ne HO272.out BK230.out (by decide)));have n1_:=Xa.mk (Kd.Yz (ok:=(fun _=>True)) (Kd.ra_ (HO269.out)) hg hat);have n2_:=Xa.mk (hb);have n3_:=Xa.mk (ho);clear BK230;clear HO269;clear HB;clear HO272;have BK230:=n0_;have HO269:=n1_;have HB:=n2_;have HO275:=n3_;clear n0_ n1_ n2_ n3_;clear ho hb hg hat;refine hK.out _ _ ⟨(Yj BK230.out 0).trans rfl,(Yj BK230.out 1).trans rfl,(Yj BK230.out 2).trans rfl,(Yj BK230.out 3).trans rfl,(Yj BK230.out 4).trans rfl,(Yj BK230.out 5).trans rfl⟩ (fun hHeld=>?_)
         clear hK K;refine Vr (a':=?_) ?_ ?_
         rotate_left
         ·show Act.put _ (some 88) _=_
          simp only [Act.put,List.setIfInBounds_toArray,List.set_cons_zero,List.set_cons_succ,Xy,Xz];rfl
         refine one_ (i:=9) (N:=some 92) #[true,true,true,true,true,true,true,true,true,true,false,false] rfl rfl (one_of HT_.out (by kernel_rfl)) (by decide) (fun K hK=>?_)
         refine Kd.R_lit_step k31 _ 31 ?hg (N:=92) ?hd (xs:=([(⟨9,a0_1,0,0⟩:S31)]:List (S31))) (inner:=[.int .i64 9,.int .i64 a0_1,.int .i64 0,.int .i64 0]) (ok:=fun _=>True) (okp:=fun _=>True) ?hr ?hp (fun _ hk=>hk) trivial (Below.refl _ _) (Nat.le_refl _) (by simp) ?_;(case hd=>rfl);(case hg=>rfl);(case hr=>first|(go_simp;done)|(go_simp;rfl));(case hp=>exact (Yl.c4 (show Kd.M k31 _ _ _ (⟨9,a0_1,0,0⟩:S31) [.int .i64 9,.int .i64 a0_1,.int .i64 0,.int .i64 0] from (Us _ _ _ (⟨9,a0_1,0,0⟩:S31) )) (Yl.none _ _)))
         intro v277 w53 ho54 hb hg_ hnew_;clear hg_ hnew_
         (first|rw [← Ny276.out] at ho54|(simp only [Int.reduceToNat] at ho54;rw [← Ny276.out] at ho54))
         have n0_:=Xa.mk (Kd.R_elder' (Kd.ra_ (HO269.out)) (Kd.Zj ho54) hb);have n1_:=Xa.mk (Kd.R_elder' (Kd.ra_ (HO275.out)) (Kd.Zj ho54) hb);have n2_:=Xa.mk (Kd.Yg (Kd.R_new' (Kd.R_new' ho54 (Kd.Ut (Kd.ra_ (HO269.out)))) (Kd.Ut (Kd.ra_ (HO275.out)))) (Xc (bl_ HB)));have n3_:=Xa.mk (Zo (g:=gb230) (o:=.cells #[.int .i64 a0_0,.int .i64 a0_1,.int .i64 a0_2,.int .i64 a0_3,.slice A0_4 l0_4.length c0_4,.slice A0_5 l0_5.length c0_5] 51 (0,0)) (ba_ BK230) hb);have n4_:=Xa.mk (Xd (bl_ HB) hb);clear HO269;clear HO275;clear BK230;clear HB;have HO269:=n0_;have HO275:=n1_;have HO278:=n2_;have BK230:=n3_;have HB:=n4_;clear n0_ n1_ n2_ n3_ n4_;clear hb ho54;refine hK.out _ _ ⟨(Yj BK230.out 0).trans rfl,(Yj BK230.out 1).trans rfl,(Yj BK230.out 2).trans rfl,(Yj BK230.out 3).trans rfl,(Yj BK230.out 4).trans rfl,(Yj BK230.out 5).trans rfl⟩ (fun hHeld=>?_)
         clear hK K;refine Vr (a':=?_) ?_ ?_
         rotate_left
         ·show Act.put _ (some 92) _=_
          simp only [Act.put,List.setIfInBounds_toArray,List.set_cons_zero,List.set_cons_succ,Xy,Xz];rfl
         exact Vr (by simp only [putAll,Act.put,List.setIfInBounds_toArray,List.set_cons_zero,List.set_cons_succ]) (hCont (v271,v274,v277) _ ⟨hHeld,(Kd.ra_ (Kd.Xn HO269.out (fun _ hk=>⟨hk.1.2,hk.2⟩))),(Kd.ra_ (HO275.out)),(Kd.ra_ (Kd.Xn HO278.out (fun _ hk=>⟨hk.1.2,hk.2⟩))),(ba_ BK230),(bl_ HB)⟩)
        ·skip
         refine Kd.R_lit_step k31 _ 31 ?hg (N:=92) ?hd (xs:=([(⟨9,a0_1,0,0⟩:S31)]:List (S31))) (inner:=[.int .i64 9,.int .i64 a0_1,.int .i64 0,.int .i64 0]) (ok:=fun _=>True) (okp:=fun _=>True) ?hr ?hp (fun _ hk=>hk) trivial (Below.refl _ _) (Nat.le_refl _) (by simp) ?_;(case hd=>rfl);(case hg=>rfl);(case hr=>first|(go_simp;done)|(go_simp;rfl));(case hp=>exact (Yl.c4 (show Kd.M k31 _ _ _ (⟨9,a0_1,0,0⟩:S31) [.int .i64 9,.int .i64 a0_1,.int .i64 0,.int .i64 0] from (Us _ _ _ (⟨9,a0_1,0,0⟩:S31) )) (Yl.none _ _)))
         intro v277 w52 ho53 hb hg_ hnew_;clear hg_ hnew_
         (first|rw [← Ny276.out] at ho53|(simp only [Int.reduceToNat] at ho53;rw [← Ny276.out] at ho53))
         have n0_:=Xa.mk (Kd.R_elder' (Kd.ra_ (HO269.out)) (Kd.Zj ho53) hb);have n1_:=Xa.mk (Kd.R_elder' (Kd.ra_ (HO272.out)) (Kd.Zj ho53) hb);have n2_:=Xa.mk (Kd.Yg (Kd.R_new' (Kd.R_new' ho53 (Kd.Ut (Kd.ra_ (HO269.out)))) (Kd.Ut (Kd.ra_ (HO272.out)))) (Xc (bl_ HB)));have n3_:=Xa.mk (Zo (g:=gb230) (o:=.cells #[.int .i64 a0_0,.int .i64 a0_1,.int .i64 a0_2,.int .i64 a0_3,.slice A0_4 l0_4.length c0_4,.slice A0_5 l0_5.length c0_5] 51 (0,0)) (ba_ BK230) hb);have n4_:=Xa.mk (Xd (bl_ HB) hb);clear HO269;clear HO272;clear BK230;clear HB;have HO269:=n0_;have HO272:=n1_;have HO278:=n2_;have BK230:=n3_;have HB:=n4_;clear n0_ n1_ n2_ n3_ n4_;clear hb ho53;refine hK.out _ _ ⟨(Yj BK230.out 0).trans rfl,(Yj BK230.out 1).trans rfl,(Yj BK230.out 2).trans rfl,(Yj BK230.out 3).trans rfl,(Yj BK230.out 4).trans rfl,(Yj BK230.out 5).trans rfl⟩ (fun hHeld=>?_)
         clear hK K;refine Vr (a':=?_) ?_ ?_
         rotate_left
         ·show Act.put _ (some 92) _=_
          simp only [Act.put,List.setIfInBounds_toArray,List.set_cons_zero,List.set_cons_succ,Xy,Xz];rfl
         refine one_ (i:=5) (N:=some 88) #[true,true,true,true,true,true,true,true,true,true,false,false] rfl rfl (one_of HT_.out (by kernel_rfl)) (by decide) (fun K hK=>?_)
         refine Kd.Uk k31 (w0:=w) w.heap.size (by rfl) (.tmp 86) (.tmp 87) 23 31 (.agg #[(.int .i64 0),(.int .i64 0),(.int .i64 0),(.int .i64 0)]) 32 rfl Try.underlying23 Vf rfl (by decide) (by omega) v271 y270 t267 _ _ _ (fun k_=>some k_≠(.slice Ao48 t267.length co48:Value).ownBlock∧some k_≠(v277:Value).ownBlock) (fun _=>False) rfl rfl ?aO ?aR (fun _ _ h=>h) (fun _ h=>h.elim) ?aF ?aB ?aS ?aL ?_
         (case aR=>repeat (first|exact (Kd.R_reads' HO269.out).2.2|(with_reducible refine Kd.Xq ?_ _)|(with_reducible refine Kd.Xr ?_ _)|(with_reducible refine Kd.Yc ?_)))
         (case aB=>exact (bl_ HB))
         (case aF=>exact (fun k_ hk=>⟨Kd.fresh' (Kd.Ut (Kd.ra_ (HO269.out))) k_ hk,Kd.fresh' (Kd.Ut (Kd.ra_ (HO278.out))) k_ hk⟩))
         (case aO=>exact (Kd.ra_ (Kd.Xn HO272.out (fun _ hk=>⟨hk.1.2,hk.2⟩))))
         (case aS=>exact (Xc (bl_ HB)))
         (case aL=>have:=LMc43.out;omega)
         intro v274 w54 ho hb hg hat;rw [← Ny273.out] at ho;have n0_:=Xa.mk (Vm (g:=gb230) (o:=.cells #[.int .i64 a0_0,.int .i64 a0_1,.int .i64 a0_2,.int .i64 a0_3,.slice A0_4 l0_4.length c0_4,.slice A0_5 l0_5.length c0_5] 51 (0,0)) (ba_ BK230) hg (Kd.R_ne HO272.out BK230.out (by decide)));have n1_:=Xa.mk (Kd.Yz (ok:=(fun k_=>some k_≠(v277:Value).ownBlock)) (Kd.ra_ (Kd.Xn HO269.out (fun _ hk=>⟨hk.2,hk.1.2⟩))) hg hat);have n2_:=Xa.mk (Kd.Yz (ok:=(fun k_=>some k_≠(.slice Ao48 t267.length co48:Value).ownBlock)) (Kd.ra_ (Kd.Xn HO278.out (fun _ hk=>⟨hk.1.2,hk.2⟩))) hg hat);have n3_:=Xa.mk (hb);have n4_:=Xa.mk (ho);clear BK230;clear HO269;clear HO278;clear HB;clear HO272;have BK230:=n0_;have HO269:=n1_;have HO278:=n2_;have HB:=n3_;have HO275:=n4_;clear n0_ n1_ n2_ n3_ n4_;clear ho hb hg hat;refine hK.out _ _ ⟨(Yj BK230.out 0).trans rfl,(Yj BK230.out 1).trans rfl,(Yj BK230.out 2).trans rfl,(Yj BK230.out 3).trans rfl,(Yj BK230.out 4).trans rfl,(Yj BK230.out 5).trans rfl⟩ (fun hHeld=>?_)
         clear hK K;refine Vr (a':=?_) ?_ ?_
         rotate_left
         ·show Act.put _ (some 88) _=_
          simp only [Act.put,List.setIfInBounds_toArray,List.set_cons_zero,List.set_cons_succ,Xy,Xz];rfl
         exact Vr (by simp only [putAll,Act.put,List.setIfInBounds_toArray,List.set_cons_zero,List.set_cons_succ]) (hCont (v271,v274,v277) _ ⟨hHeld,(Kd.ra_ (Kd.Xn HO269.out (fun _ hk=>⟨hk.2,hk.1⟩))),(Kd.ra_ (HO275.out)),(Kd.ra_ (HO278.out)),(ba_ BK230),(bl_ HB)⟩)
       ·skip
        refine Kd.R_lit_step k31 _ 31 ?hg (N:=92) ?hd (xs:=([(⟨9,a0_1,0,0⟩:S31)]:List (S31))) (inner:=[.int .i64 9,.int .i64 a0_1,.int .i64 0,.int .i64 0]) (ok:=fun _=>True) (okp:=fun _=>True) ?hr ?hp (fun _ hk=>hk) trivial (Below.refl _ _) (Nat.le_refl _) (by simp) ?_;(case hd=>rfl);(case hg=>rfl);(case hr=>first|(go_simp;done)|(go_simp;rfl));(case hp=>exact (Yl.c4 (show Kd.M k31 _ _ _ (⟨9,a0_1,0,0⟩:S31) [.int .i64 9,.int .i64 a0_1,.int .i64 0,.int .i64 0] from (Us _ _ _ (⟨9,a0_1,0,0⟩:S31) )) (Yl.none _ _)))
        intro v277 w50 ho51 hb hg_ hnew_;clear hg_ hnew_
        (first|rw [← Ny276.out] at ho51|(simp only [Int.reduceToNat] at ho51;rw [← Ny276.out] at ho51))
        have n0_:=Xa.mk (Kd.R_elder' (Kd.ra_ (HO269.out)) (Kd.Zj ho51) hb);have n1_:=Xa.mk (Kd.Yg (Kd.R_new' ho51 (Kd.Ut (Kd.ra_ (HO269.out)))) (Xc (bl_ HB)));have n2_:=Xa.mk (Zo (g:=gb230) (o:=.cells #[.int .i64 a0_0,.int .i64 a0_1,.int .i64 a0_2,.int .i64 a0_3,.slice A0_4 l0_4.length c0_4,.slice A0_5 l0_5.length c0_5] 51 (0,0)) (ba_ BK230) hb);have n3_:=Xa.mk (Xd (bl_ HB) hb);clear HO269;clear BK230;clear HB;have HO269:=n0_;have HO278:=n1_;have BK230:=n2_;have HB:=n3_;clear n0_ n1_ n2_ n3_;clear hb ho51;refine hK.out _ _ ⟨(Yj BK230.out 0).trans rfl,(Yj BK230.out 1).trans rfl,(Yj BK230.out 2).trans rfl,(Yj BK230.out 3).trans rfl,(Yj BK230.out 4).trans rfl,(Yj BK230.out 5).trans rfl⟩ (fun hHeld=>?_)
        clear hK K;refine Vr (a':=?_) ?_ ?_
        rotate_left
        ·show Act.put _ (some 92) _=_
         simp only [Act.put,List.setIfInBounds_toArray,List.set_cons_zero,List.set_cons_succ,Xy,Xz];rfl
        refine one_ (i:=3) (N:=some 86) #[true,true,true,true,true,false,true,true,true,true,false,false] rfl rfl (one_of HT_.out (by kernel_rfl)) (by decide) (fun K hK=>?_)
        refine Kd.R_lit_step k31 _ 31 ?hg (N:=86) ?hd (xs:=([(⟨8,a0_1,0,0⟩:S31)]:List (S31))) (inner:=[.int .i64 8,.int .i64 a0_1,.int .i64 0,.int .i64 0]) (ok:=fun _=>True) (okp:=fun _=>True) ?hr ?hp (fun _ hk=>hk) trivial (Below.refl _ _) (Nat.le_refl _) (by simp) ?_;(case hd=>rfl);(case hg=>rfl);(case hr=>first|(go_simp;done)|(go_simp;rfl));(case hp=>exact (Yl.c4 (show Kd.M k31 _ _ _ (⟨8,a0_1,0,0⟩:S31) [.int .i64 8,.int .i64 a0_1,.int .i64 0,.int .i64 0] from (Us _ _ _ (⟨8,a0_1,0,0⟩:S31) )) (Yl.none _ _)))
        intro v271 w52 ho53 hb hg_ hnew_;clear hg_ hnew_
        (first|rw [← Ny270.out] at ho53|(simp only [Int.reduceToNat] at ho53;rw [← Ny270.out] at ho53))
        have n0_:=Xa.mk (Kd.R_elder' (Kd.ra_ (HO269.out)) (Kd.Zj ho53) hb);have n1_:=Xa.mk (Kd.R_elder' (Kd.ra_ (HO278.out)) (Kd.Zj ho53) hb);have n2_:=Xa.mk (Kd.Yg (Kd.R_new' (Kd.R_new' ho53 (Kd.Ut (Kd.ra_ (HO269.out)))) (Kd.Ut (Kd.ra_ (HO278.out)))) (Xc (bl_ HB)));have n3_:=Xa.mk (Zo (g:=gb230) (o:=.cells #[.int .i64 a0_0,.int .i64 a0_1,.int .i64 a0_2,.int .i64 a0_3,.slice A0_4 l0_4.length c0_4,.slice A0_5 l0_5.length c0_5] 51 (0,0)) (ba_ BK230) hb);have n4_:=Xa.mk (Xd (bl_ HB) hb);clear HO269;clear HO278;clear BK230;clear HB;have HO269:=n0_;have HO278:=n1_;have HO272:=n2_;have BK230:=n3_;have HB:=n4_;clear n0_ n1_ n2_ n3_ n4_;clear hb ho53;refine hK.out _ _ ⟨(Yj BK230.out 0).trans rfl,(Yj BK230.out 1).trans rfl,(Yj BK230.out 2).trans rfl,(Yj BK230.out 3).trans rfl,(Yj BK230.out 4).trans rfl,(Yj BK230.out 5).trans rfl⟩ (fun hHeld=>?_)
        clear hK K;refine Vr (a':=?_) ?_ ?_
        rotate_left
        ·show Act.put _ (some 86) _=_
         simp only [Act.put,List.setIfInBounds_toArray,List.set_cons_zero,List.set_cons_succ,Xy,Xz];rfl
        refine one_ (i:=5) (N:=some 88) #[true,true,true,true,true,true,true,true,true,true,false,false] rfl rfl (one_of HT_.out (by kernel_rfl)) (by decide) (fun K hK=>?_)
        refine Kd.Uk k31 (w0:=w) w.heap.size (by rfl) (.tmp 86) (.tmp 87) 23 31 (.agg #[(.int .i64 0),(.int .i64 0),(.int .i64 0),(.int .i64 0)]) 32 rfl Try.underlying23 Vf rfl (by decide) (by omega) v271 y270 t267 _ _ _ (fun k_=>some k_≠(.slice Ao48 t267.length co48:Value).ownBlock∧some k_≠(v277:Value).ownBlock) (fun _=>False) rfl rfl ?aO ?aR (fun _ _ h=>h) (fun _ h=>h.elim) ?aF ?aB ?aS ?aL ?_
        (case aR=>repeat (first|exact (Kd.R_reads' HO269.out).2.2|(with_reducible refine Kd.Xq ?_ _)|(with_reducible refine Kd.Xr ?_ _)|(with_reducible refine Kd.Yc ?_)))
        (case aB=>exact (bl_ HB))
        (case aF=>exact (fun k_ hk=>⟨Kd.fresh' (Kd.Ut (Kd.ra_ (HO269.out))) k_ hk,Kd.fresh' (Kd.Ut (Kd.ra_ (HO278.out))) k_ hk⟩))
        (case aO=>exact (Kd.ra_ (Kd.Xn HO272.out (fun _ hk=>⟨hk.1.2,hk.2⟩))))
        (case aS=>exact (Xc (bl_ HB)))
        (case aL=>have:=LMc43.out;omega)
        intro v274 w54 ho hb hg hat;rw [← Ny273.out] at ho;have n0_:=Xa.mk (Vm (g:=gb230) (o:=.cells #[.int .i64 a0_0,.int .i64 a0_1,.int .i64 a0_2,.int .i64 a0_3,.slice A0_4 l0_4.length c0_4,.slice A0_5 l0_5.length c0_5] 51 (0,0)) (ba_ BK230) hg (Kd.R_ne HO272.out BK230.out (by decide)));have n1_:=Xa.mk (Kd.Yz (ok:=(fun k_=>some k_≠(v277:Value).ownBlock)) (Kd.ra_ (Kd.Xn HO269.out (fun _ hk=>⟨hk.1.2,hk.2⟩))) hg hat);have n2_:=Xa.mk (Kd.Yz (ok:=(fun k_=>some k_≠(.slice Ao48 t267.length co48:Value).ownBlock)) (Kd.ra_ (Kd.Xn HO278.out (fun _ hk=>⟨hk.1.2,hk.2⟩))) hg hat);have n3_:=Xa.mk (hb);have n4_:=Xa.mk (ho);clear BK230;clear HO269;clear HO278;clear HB;clear HO272;have BK230:=n0_;have HO269:=n1_;have HO278:=n2_;have HB:=n3_;have HO275:=n4_;clear n0_ n1_ n2_ n3_ n4_;clear ho hb hg hat;refine hK.out _ _ ⟨(Yj BK230.out 0).trans rfl,(Yj BK230.out 1).trans rfl,(Yj BK230.out 2).trans rfl,(Yj BK230.out 3).trans rfl,(Yj BK230.out 4).trans rfl,(Yj BK230.out 5).trans rfl⟩ (fun hHeld=>?_)
        clear hK K;refine Vr (a':=?_) ?_ ?_
        rotate_left
        ·show Act.put _ (some 88) _=_
         simp only [Act.put,List.setIfInBounds_toArray,List.set_cons_zero,List.set_cons_succ,Xy,Xz];rfl
        exact Vr (by simp only [putAll,Act.put,List.setIfInBounds_toArray,List.set_cons_zero,List.set_cons_succ]) (hCont (v271,v274,v277) _ ⟨hHeld,(Kd.ra_ (Kd.Xn HO269.out (fun _ hk=>⟨hk.2,hk.1⟩))),(Kd.ra_ (HO275.out)),(Kd.ra_ (HO278.out)),(ba_ BK230),(bl_ HB)⟩)
      rintro ⟨v271,v274,v277⟩ w55 ⟨hS_,h0_,h1_,h2_,h3_,h4_⟩
      have n0_:Xa (Kd.R k31 31 w55 w.heap.size (fun k_=>some k_≠(v274:Value).ownBlock∧some k_≠(v277:Value).ownBlock) (.slice Ao48 t267.length co48) t267):=⟨h0_⟩;have n1_:Xa (Kd.R k31 31 w55 w.heap.size (fun k_=>some k_≠(.slice Ao48 t267.length co48:Value).ownBlock∧some k_≠(v277:Value).ownBlock) v274 y273):=⟨h1_⟩;have n2_:Xa (Kd.R k31 31 w55 w.heap.size (fun k_=>some k_≠(.slice Ao48 t267.length co48:Value).ownBlock∧some k_≠(v274:Value).ownBlock) v277 y276):=⟨h2_⟩;have n3_:Xa (w55.heap[gb230]?=some (.cells #[.int .i64 a0_0,.int .i64 a0_1,.int .i64 a0_2,.int .i64 a0_3,.slice A0_4 l0_4.length c0_4,.slice A0_5 l0_5.length c0_5] 51 (0,0))):=⟨h3_⟩;have n4_:Xa (Below w.heap.size w w55):=⟨h4_⟩;clear HO269;clear BK230;clear HB;clear h0_ h1_ h2_ h3_ h4_;have HO269:=n0_;have HO275:=n1_;have HO278:=n2_;have BK230:=n3_;have HB:=n4_;clear n0_ n1_ n2_ n3_ n4_;have hHeld:w55.cell? ⟨gb230,0,none⟩=some (.int .i64 a0_0)∧w55.cell? ⟨gb230,1,none⟩=some (.int .i64 a0_1)∧w55.cell? ⟨gb230,2,none⟩=some (.int .i64 a0_2)∧w55.cell? ⟨gb230,3,none⟩=some (.int .i64 a0_3)∧w55.cell? ⟨gb230,4,none⟩=some (.slice A0_4 l0_4.length c0_4)∧w55.cell? ⟨gb230,5,none⟩=some (.slice A0_5 l0_5.length c0_5):=hS_;obtain ⟨Ao57,co57,eo57⟩:=Kd.Yr HO278.out
      (first|subst eo57|(injection eo57 with f1_ f2_ f3_;have f4_:=f1_.symm;have f5_:=f3_.symm;clear f1_ f2_ f3_;subst f4_;subst f5_))
      refine Vr (a':=?_) ?_ ?_
      rotate_left
      ·simp only [putAll,Act.put,List.setIfInBounds_toArray,List.set_cons_zero,List.set_cons_succ];rfl
      refine one_ (i:=10) (N:=some 93) #[true,true,true,true,true,true,true,true,true,true,true,false] rfl rfl (one_of HT_.out (by kernel_rfl)) (by decide) (fun K hK=>?_)
      refine Kd.Uk k31 (w0:=w) w.heap.size (by rfl) (.tmp 88) (.tmp 92) 23 31 (.agg #[(.int .i64 0),(.int .i64 0),(.int .i64 0),(.int .i64 0)]) 32 rfl Try.underlying23 Vf rfl (by decide) (by omega) v274 y273 y276 _ _ _ (fun k_=>some k_≠(.slice Ao48 t267.length co48:Value).ownBlock∧some k_≠(.slice Ao57 y276.length co57:Value).ownBlock) (fun _=>False) rfl rfl ?aO ?aR (fun _ _ h=>h) (fun _ h=>h.elim) ?aF ?aB ?aS ?aL ?_
      (case aR=>repeat (first|exact (Kd.R_reads' HO278.out).2.2|(with_reducible refine Kd.Xq ?_ _)|(with_reducible refine Kd.Xr ?_ _)|(with_reducible refine Kd.Yc ?_)))
      (case aB=>exact (bl_ HB))
      (case aF=>exact (fun k_ hk=>⟨Kd.fresh' (Kd.Ut (Kd.ra_ (HO269.out))) k_ hk,Kd.fresh' (Kd.Ut (Kd.ra_ (HO278.out))) k_ hk⟩))
      (case aO=>exact (Kd.ra_ (HO275.out)))
      (case aS=>exact (Xc (bl_ HB)))
      (case aL=>have:=LMc44.out;omega)
      intro v280 w56 ho hb hg hat;rw [← Ny279.out] at ho;have n0_:=Xa.mk (Vm (g:=gb230) (o:=.cells #[.int .i64 a0_0,.int .i64 a0_1,.int .i64 a0_2,.int .i64 a0_3,.slice A0_4 l0_4.length c0_4,.slice A0_5 l0_5.length c0_5] 51 (0,0)) (ba_ BK230) hg (Kd.R_ne HO275.out BK230.out (by decide)));have n1_:=Xa.mk (Kd.Yz (ok:=(fun k_=>some k_≠(.slice Ao57 y276.length co57:Value).ownBlock)) (Kd.ra_ (Kd.Xn HO269.out (fun _ hk=>⟨hk.2,hk.1⟩))) hg hat);have n2_:=Xa.mk (Kd.Yz (ok:=(fun k_=>some k_≠(.slice Ao48 t267.length co48:Value).ownBlock)) (Kd.ra_ (HO278.out)) hg hat);have n3_:=Xa.mk (hb);have n4_:=Xa.mk (ho);clear BK230;clear HO269;clear HO278;clear HB;clear HO275;have BK230:=n0_;have HO269:=n1_;have HO278:=n2_;have HB:=n3_;have HO281:=n4_;clear n0_ n1_ n2_ n3_ n4_;clear ho hb hg hat;refine hK.out _ _ ⟨(Yj BK230.out 0).trans rfl,(Yj BK230.out 1).trans rfl,(Yj BK230.out 2).trans rfl,(Yj BK230.out 3).trans rfl,(Yj BK230.out 4).trans rfl,(Yj BK230.out 5).trans rfl⟩ (fun hHeld=>?_)
      clear hK K;refine Vr (a':=?_) ?_ ?_
      rotate_left
      ·show Act.put _ (some 93) _=_
       simp only [Act.put,List.setIfInBounds_toArray,List.set_cons_zero,List.set_cons_succ,Xy,Xz];rfl
      refine Zf (i:=11) (N:=some 4) (v:=?_) (a':=?_) #[true,true,true,true,true,true,true,true,true,true,true,true] rfl rfl (Za HT_.out (by kernel_rfl)) (fun _ _ _ h=>h) (Or.inl ⟨by rfl,?_⟩) ?_ ?_
      rotate_left
      ·intro w';go_simp
       with_reducible rfl
      rotate_left
      ·simp only [Act.put,List.setIfInBounds_toArray,List.set_cons_zero,List.set_cons_succ,Xy,Xz];rfl
      refine done_ (done_of HT_.out (by kernel_rfl)) ?_
      try go_wp2
      go_ret
      exact ⟨_,rf_,Kd.ra_ (Kd.Xn HO281.out (fun _ hk=>trivial)),bl_ HB⟩
     ·rw [if_neg c44] at H;exact absurd H (by simp)
    ·rw [if_neg c43] at H;exact absurd H (by simp)
   ·rw [if_neg c41] at H;have c41b0:(a0_0 == 8)=false:=beq_eq_false_iff_ne.mpr c41;have c41b1:(a0_0 != 8)=true:=bne_iff_ne.mpr c41;have HC58:=Xa.mk H;clear H
    go_enter Try.func65,Try.ntmps65
    go_upto_if 94 with (first|((with_reducible refine Xx (N:=2) rfl ?_);refine Yw ?hg (N:=2) ?hd (cs:=#[.int .i64 a0_0,.int .i64 a0_1,.int .i64 a0_2,.int .i64 a0_3,.slice A0_4 l0_4.length c0_4,.slice A0_5 l0_5.length c0_5]) (t:=51) ?hr ?_;(case hd=>rfl);(case hg=>rfl);(case hr=>first|(go_simp;done)|(go_simp;rfl));intro gb230 hg w59 hbox hb;have n0_:=Xa.mk (Xd (bl_ HB) hb);have n1_:=Xa.mk (hbox);have n2_:=Xa.mk ((by rw [hg];exact (Xc (bl_ HB)):w.heap.size≤gb230));have n3_:=Xa.mk ((by rw [hg];exact (Xc (bl_ HB)):w.heap.size≤gb230));clear HB;have HB:=n0_;have BK230:=n1_;have GW230:=n2_;have GE230:=n3_;clear n0_ n1_ n2_ n3_;clear hb hbox hg;obtain ⟨hcz60_0,hcz60_1,hcz60_2,hcz60_3,hcz60_4,hcz60_5⟩:=Vi BK230.out;obtain ⟨hfz60_0,hfz60_1,hfz60_2,hfz60_3,hfz60_4,hfz60_5⟩:=Vj BK230.out))
    (try simp only [Act.put,List.setIfInBounds_toArray,List.set_cons_zero,List.set_cons_succ])
    go_cut [94] (fun v94 wc=>∃ (kq:Nat) (x94_57:Bool),v94=.bool x94_57∧Xa (Ze.j0 kq a0_0 x94_57 a0_0 a0_1 a0_2 a0_3 l0_4 l0_5=some r)∧Xa (kq≤k)∧Xa (wc.heap[gb230]?=some (.cells #[.int .i64 a0_0,.int .i64 a0_1,.int .i64 a0_2,.int .i64 a0_3,(.slice A0_4 l0_4.length c0_4),(.slice A0_5 l0_5.length c0_5)] 51 (0,0)))∧Xa (Below w.heap.size w wc))
    case first=>
     have H:=HC58.out;clear HC58;by_cases c61:a0_0=1
     ·rw [if_pos c61] at H;have c61b0:(a0_0 == 1)=true:=beq_iff_eq.mpr c61;have c61b1:(a0_0 != 1)=false:=bne_eq_false_iff_eq.mpr c61;clear c61
      (first|rw [c61b0]|(simp only [Xy,Xz];rw [c61b0])|skip)
      have H':=Xa.mk H;clear H;go_wp2
      go_meet
      case rel=>exact ⟨_,((a0_0 == 1)),(by first|rfl|(simp;done)|(simp [*];done)),H',⟨by first|omega|exact Nat.le_refl _⟩,⟨ba_ BK230⟩,⟨bl_ HB⟩⟩
     ·rw [if_neg c61] at H;have c61b0:(a0_0 == 1)=false:=beq_eq_false_iff_ne.mpr c61;have c61b1:(a0_0 != 1)=true:=bne_iff_ne.mpr c61
      (first|rw [c61b0]|(simp only [Xy,Xz];rw [c61b0])|skip)
      by_cases c62:a0_0=2
      ·rw [if_pos c62] at H;have c62b0:(a0_0 == 2)=true:=beq_iff_eq.mpr c62;have c62b1:(a0_0 != 2)=false:=bne_eq_false_iff_eq.mpr c62;clear c62;have H':=Xa.mk H;clear H;go_wp2
       go_meet
       case rel=>exact ⟨_,((a0_0 == 2)),(by first|rfl|(simp;done)|(simp [*];done)),H',⟨by first|omega|exact Nat.le_refl _⟩,⟨ba_ BK230⟩,⟨bl_ HB⟩⟩
      ·rw [if_neg c62] at H;have c62b0:(a0_0 == 2)=false:=beq_eq_false_iff_ne.mpr c62;have c62b1:(a0_0 != 2)=true:=bne_iff_ne.mpr c62;by_cases c63:a0_0=3
       ·rw [if_pos c63] at H;have c63b0:(a0_0 == 3)=true:=beq_iff_eq.mpr c63;have c63b1:(a0_0 != 3)=false:=bne_eq_false_iff_eq.mpr c63;clear c63;have H':=Xa.mk H;clear H;go_wp2
        go_meet
        case rel=>exact ⟨_,((a0_0 == 3)),(by first|rfl|(simp;done)|(simp [*];done)),H',⟨by first|omega|exact Nat.le_refl _⟩,⟨ba_ BK230⟩,⟨bl_ HB⟩⟩
       ·rw [if_neg c63] at H;have c63b0:(a0_0 == 3)=false:=beq_eq_false_iff_ne.mpr c63;have c63b1:(a0_0 != 3)=true:=bne_iff_ne.mpr c63;by_cases c64:a0_0=4
        ·rw [if_pos c64] at H;have c64b0:(a0_0 == 4)=true:=beq_iff_eq.mpr c64;have c64b1:(a0_0 != 4)=false:=bne_eq_false_iff_eq.mpr c64;clear c64;have H':=Xa.mk H;clear H;go_wp2
         go_meet
         case rel=>exact ⟨_,((a0_0 == 4)),(by first|rfl|(simp;done)|(simp [*];done)),H',⟨by first|omega|exact Nat.le_refl _⟩,⟨ba_ BK230⟩,⟨bl_ HB⟩⟩
        ·rw [if_neg c64] at H;have c64b0:(a0_0 == 4)=false:=beq_eq_false_iff_ne.mpr c64;have c64b1:(a0_0 != 4)=true:=bne_iff_ne.mpr c64;have H':=Xa.mk H;clear H;go_wp2
         go_meet
         case rel=>exact ⟨_,((a0_0 == 5)),(by first|rfl|(simp;done)|(simp [*];done)),H',⟨by first|omega|exact Nat.le_refl _⟩,⟨ba_ BK230⟩,⟨bl_ HB⟩⟩
    case rest=>
     clear HC58
     try clear c2
     try clear p2
     try clear c3
     try clear c3b0
     try clear c3b1
     try clear c4
     try clear c5
     try clear c6
     try clear p6
     try clear c7
     try clear c8
     try clear c25
     try clear c25b0
     try clear c25b1
     try clear c27
     try clear c28
     try clear c41
     try clear c41b0
     try clear c41b1
     try clear c43
     try clear c44
     try clear c54
     try clear c61
     try clear c61b0
     try clear c61b1
     try clear c62
     try clear c62b0
     try clear c62b1
     try clear c63
     try clear c63b0
     try clear c63b1
     try clear c64
     try clear c64b0
     try clear c64b1
     try clear p64
     try clear hcz10_0
     try clear hcz10_1
     try clear hcz10_2
     try clear hcz10_3
     try clear hcz10_4
     try clear hcz10_5
     try clear hcz12_0
     try clear hcz12_1
     try clear hcz12_2
     try clear hcz12_3
     try clear hcz12_4
     try clear hcz12_5
     try clear hcz15_0
     try clear hcz15_1
     try clear hcz15_2
     try clear hcz15_3
     try clear hcz15_4
     try clear hcz15_5
     try clear hcz30_0
     try clear hcz30_1
     try clear hcz30_2
     try clear hcz30_3
     try clear hcz30_4
     try clear hcz30_5
     try clear hcz32_0
     try clear hcz32_1
     try clear hcz32_2
     try clear hcz32_3
     try clear hcz32_4
     try clear hcz32_5
     try clear hcz46_0
     try clear hcz46_1
     try clear hcz46_2
     try clear hcz46_3
     try clear hcz46_4
     try clear hcz46_5
     try clear hcz60_0
     try clear hcz60_1
     try clear hcz60_2
     try clear hcz60_3
     try clear hcz60_4
     try clear hcz60_5
     try clear hfz10_0
     try clear hfz10_1
     try clear hfz10_2
     try clear hfz10_3
     try clear hfz10_4
     try clear hfz10_5
     try clear hfz12_0
     try clear hfz12_1
     try clear hfz12_2
     try clear hfz12_3
     try clear hfz12_4
     try clear hfz12_5
     try clear hfz15_0
     try clear hfz15_1
     try clear hfz15_2
     try clear hfz15_3
     try clear hfz15_4
     try clear hfz15_5
     try clear hfz30_0
     try clear hfz30_1
     try clear hfz30_2
     try clear hfz30_3
     try clear hfz30_4
     try clear hfz30_5
     try clear hfz32_0
     try clear hfz32_1
     try clear hfz32_2
     try clear hfz32_3
     try clear hfz32_4
     try clear hfz32_5
     try clear hfz46_0
     try clear hfz46_1
     try clear hfz46_2
     try clear hfz46_3
     try clear hfz46_4
     try clear hfz46_5
     try clear hfz60_0
     try clear hfz60_1
     try clear hfz60_2
     try clear hfz60_3
     try clear hfz60_4
     try clear hfz60_5
     obtain ⟨kq,x94_57,rfl,HA,HJ57,BK230,HB⟩:=hcut
     cases kq with
     |zero=>exact absurd HA.out (by simp [Ze.j0])
     |succ kj57=>
      have H:=HA.out;clear HA;simp only [Ze.j0] at H;by_cases c65:x94_57=true
      ·subst c65
       have H1:(some (([(⟨a0_0,a0_1,a0_2,a0_3⟩:S31)]:List (S31))))=some r:=by rw [if_pos rfl] at H;exact H
       clear H;have H:=H1;clear H1;obtain ⟨y282,hy282⟩:∃ y_:List (S31),y_=(([(⟨a0_0,a0_1,a0_2,a0_3⟩:S31)]:List (S31))):=⟨_,rfl⟩
       replace H:(some y282)=some r:=by subst hy282;first|with_reducible exact H|(have z:=(Option.bind_some _ _).symm.trans H;with_reducible exact z)|exact H
       have Ny282:=Xa.mk hy282;clear hy282;obtain rfl:=Option.some.inj H;obtain ⟨hcz66_0,hcz66_1,hcz66_2,hcz66_3,hcz66_4,hcz66_5⟩:=Vi BK230.out;obtain ⟨hfz66_0,hfz66_1,hfz66_2,hfz66_3,hfz66_4,hfz66_5⟩:=Vj BK230.out;go_wp2_with (first|((with_reducible refine Xx (N:=109) rfl ?_);refine Kd.Vq k31 _ 31 ?hg (N:=109) ?hd (xs:=([(⟨a0_0,a0_1,a0_2,a0_3⟩:S31)]:List (S31))) (inner:=[.int .i64 a0_0,.int .i64 a0_1,.int .i64 a0_2,.int .i64 a0_3]) (ok:=fun _=>True) (okp:=fun _=>True) ?hr ?hp (fun _ hk=>hk) trivial (Below.refl _ _) (Nat.le_refl _) (by simp) ?_;(case hd=>rfl);(case hg=>rfl);(case hr=>first|(go_simp;done)|(go_simp;rfl));(case hp=>exact (Yl.c4 (show Kd.M k31 _ _ _ (⟨a0_0,a0_1,a0_2,a0_3⟩:S31) [.int .i64 a0_0,.int .i64 a0_1,.int .i64 a0_2,.int .i64 a0_3] from (Us _ _ _ (⟨a0_0,a0_1,a0_2,a0_3⟩:S31) )) (Yl.none _ _)));intro v283 w67 ho68 hb hg_ hnew_;clear hg_ hnew_;(first|rw [← Ny282.out] at ho68|(simp only [Int.reduceToNat] at ho68;rw [← Ny282.out] at ho68));have n0_:=Xa.mk (Kd.Yg ho68 (Xc (bl_ HB)));have n1_:=Xa.mk (Zo (g:=gb230) (o:=.cells #[.int .i64 a0_0,.int .i64 a0_1,.int .i64 a0_2,.int .i64 a0_3,.slice A0_4 l0_4.length c0_4,.slice A0_5 l0_5.length c0_5] 51 (0,0)) (ba_ BK230) hb);have n2_:=Xa.mk (Xd (bl_ HB) hb);clear BK230;clear HB;have HO284:=n0_;have BK230:=n1_;have HB:=n2_;clear n0_ n1_ n2_;clear hb ho68))
       go_ret
       exact ⟨_,rf_,Kd.ra_ (HO284.out),bl_ HB⟩
      ·replace c65:=Bool.eq_false_iff.mpr c65;subst c65
       have H1:(if a0_0=9 then (some (([(⟨10,a0_1,0,0⟩:S31)]:List (S31)))) else (if a0_0=10 then (some (([(⟨11,a0_1,0,0⟩:S31)]:List (S31)))) else (some (([(⟨12,0,0,0⟩:S31)]:List (S31))))))=some r:=by rw [if_neg (show ¬ (false=true) by decide)] at H;exact H
       clear H;have H:=H1;clear H1;by_cases c69:a0_0=9
       ·rw [if_pos c69] at H;have c69b0:(a0_0 == 9)=true:=beq_iff_eq.mpr c69;have c69b1:(a0_0 != 9)=false:=bne_eq_false_iff_eq.mpr c69;clear c69;obtain ⟨y285,hy285⟩:∃ y_:List (S31),y_=(([(⟨10,a0_1,0,0⟩:S31)]:List (S31))):=⟨_,rfl⟩
        replace H:(some y285)=some r:=by subst hy285;first|with_reducible exact H|(have z:=(Option.bind_some _ _).symm.trans H;with_reducible exact z)|exact H
        have Ny285:=Xa.mk hy285;clear hy285;obtain rfl:=Option.some.inj H;obtain ⟨hcz70_0,hcz70_1,hcz70_2,hcz70_3,hcz70_4,hcz70_5⟩:=Vi BK230.out;obtain ⟨hfz70_0,hfz70_1,hfz70_2,hfz70_3,hfz70_4,hfz70_5⟩:=Vj BK230.out;go_wp2_with (first|((with_reducible refine Xx (N:=115) rfl ?_);refine Kd.Vq k31 _ 31 ?hg (N:=115) ?hd (xs:=([(⟨10,a0_1,0,0⟩:S31)]:List (S31))) (inner:=[.int .i64 10,.int .i64 a0_1,.int .i64 0,.int .i64 0]) (ok:=fun _=>True) (okp:=fun _=>True) ?hr ?hp (fun _ hk=>hk) trivial (Below.refl _ _) (Nat.le_refl _) (by simp) ?_;(case hd=>rfl);(case hg=>rfl);(case hr=>first|(go_simp;done)|(go_simp;rfl));(case hp=>exact (Yl.c4 (show Kd.M k31 _ _ _ (⟨10,a0_1,0,0⟩:S31) [.int .i64 10,.int .i64 a0_1,.int .i64 0,.int .i64 0] from (Us _ _ _ (⟨10,a0_1,0,0⟩:S31) )) (Yl.none _ _)));intro v286 w71 ho72 hb hg_ hnew_;clear hg_ hnew_;(first|rw [← Ny285.out] at ho72|(simp only [Int.reduceToNat] at ho72;rw [← Ny285.out] at ho72));have n0_:=Xa.mk (Kd.Yg ho72 (Xc (bl_ HB)));have n1_:=Xa.mk (Zo (g:=gb230) (o:=.cells #[.int .i64 a0_0,.int .i64 a0_1,.int .i64 a0_2,.int .i64 a0_3,.slice A0_4 l0_4.length c0_4,.slice A0_5 l0_5.length c0_5] 51 (0,0)) (ba_ BK230) hb);have n2_:=Xa.mk (Xd (bl_ HB) hb);clear BK230;clear HB;have HO287:=n0_;have BK230:=n1_;have HB:=n2_;clear n0_ n1_ n2_;clear hb ho72))
        go_ret
        exact ⟨_,rf_,Kd.ra_ (HO287.out),bl_ HB⟩
       ·rw [if_neg c69] at H;have c69b0:(a0_0 == 9)=false:=beq_eq_false_iff_ne.mpr c69;have c69b1:(a0_0 != 9)=true:=bne_iff_ne.mpr c69;by_cases c73:a0_0=10
        ·rw [if_pos c73] at H;have c73b0:(a0_0 == 10)=true:=beq_iff_eq.mpr c73;have c73b1:(a0_0 != 10)=false:=bne_eq_false_iff_eq.mpr c73;clear c73;obtain ⟨y288,hy288⟩:∃ y_:List (S31),y_=(([(⟨11,a0_1,0,0⟩:S31)]:List (S31))):=⟨_,rfl⟩
         replace H:(some y288)=some r:=by subst hy288;first|with_reducible exact H|(have z:=(Option.bind_some _ _).symm.trans H;with_reducible exact z)|exact H
         have Ny288:=Xa.mk hy288;clear hy288;obtain rfl:=Option.some.inj H;obtain ⟨hcz74_0,hcz74_1,hcz74_2,hcz74_3,hcz74_4,hcz74_5⟩:=Vi BK230.out;obtain ⟨hfz74_0,hfz74_1,hfz74_2,hfz74_3,hfz74_4,hfz74_5⟩:=Vj BK230.out;go_wp2_with (first|((with_reducible refine Xx (N:=121) rfl ?_);refine Kd.Vq k31 _ 31 ?hg (N:=121) ?hd (xs:=([(⟨11,a0_1,0,0⟩:S31)]:List (S31))) (inner:=[.int .i64 11,.int .i64 a0_1,.int .i64 0,.int .i64 0]) (ok:=fun _=>True) (okp:=fun _=>True) ?hr ?hp (fun _ hk=>hk) trivial (Below.refl _ _) (Nat.le_refl _) (by simp) ?_;(case hd=>rfl);(case hg=>rfl);(case hr=>first|(go_simp;done)|(go_simp;rfl));(case hp=>exact (Yl.c4 (show Kd.M k31 _ _ _ (⟨11,a0_1,0,0⟩:S31) [.int .i64 11,.int .i64 a0_1,.int .i64 0,.int .i64 0] from (Us _ _ _ (⟨11,a0_1,0,0⟩:S31) )) (Yl.none _ _)));intro v289 w75 ho76 hb hg_ hnew_;clear hg_ hnew_;(first|rw [← Ny288.out] at ho76|(simp only [Int.reduceToNat] at ho76;rw [← Ny288.out] at ho76));have n0_:=Xa.mk (Kd.Yg ho76 (Xc (bl_ HB)));have n1_:=Xa.mk (Zo (g:=gb230) (o:=.cells #[.int .i64 a0_0,.int .i64 a0_1,.int .i64 a0_2,.int .i64 a0_3,.slice A0_4 l0_4.length c0_4,.slice A0_5 l0_5.length c0_5] 51 (0,0)) (ba_ BK230) hb);have n2_:=Xa.mk (Xd (bl_ HB) hb);clear BK230;clear HB;have HO290:=n0_;have BK230:=n1_;have HB:=n2_;clear n0_ n1_ n2_;clear hb ho76))
         go_ret
         exact ⟨_,rf_,Kd.ra_ (HO290.out),bl_ HB⟩
        ·rw [if_neg c73] at H;have c73b0:(a0_0 == 10)=false:=beq_eq_false_iff_ne.mpr c73;have c73b1:(a0_0 != 10)=true:=bne_iff_ne.mpr c73;obtain ⟨y291,hy291⟩:∃ y_:List (S31),y_=(([(⟨12,0,0,0⟩:S31)]:List (S31))):=⟨_,rfl⟩
         replace H:(some y291)=some r:=by subst hy291;first|with_reducible exact H|(have z:=(Option.bind_some _ _).symm.trans H;with_reducible exact z)|exact H
         have Ny291:=Xa.mk hy291;clear hy291;obtain rfl:=Option.some.inj H;go_wp2_with (first|((with_reducible refine Xx (N:=123) rfl ?_);refine Kd.Vq k31 _ 31 ?hg (N:=123) ?hd (xs:=([(⟨12,0,0,0⟩:S31)]:List (S31))) (inner:=[.int .i64 12,.int .i64 0,.int .i64 0,.int .i64 0]) (ok:=fun _=>True) (okp:=fun _=>True) ?hr ?hp (fun _ hk=>hk) trivial (Below.refl _ _) (Nat.le_refl _) (by simp) ?_;(case hd=>rfl);(case hg=>rfl);(case hr=>first|(go_simp;done)|(go_simp;rfl));(case hp=>exact (Yl.c4 (show Kd.M k31 _ _ _ (⟨12,0,0,0⟩:S31) [.int .i64 12,.int .i64 0,.int .i64 0,.int .i64 0] from (Us _ _ _ (⟨12,0,0,0⟩:S31) )) (Yl.none _ _)));intro v292 w77 ho78 hb hg_ hnew_;clear hg_ hnew_;(first|rw [← Ny291.out] at ho78|(simp only [Int.reduceToNat] at ho78;rw [← Ny291.out] at ho78));have n0_:=Xa.mk (Kd.Yg ho78 (Xc (bl_ HB)));have n1_:=Xa.mk (Zo (g:=gb230) (o:=.cells #[.int .i64 a0_0,.int .i64 a0_1,.int .i64 a0_2,.int .i64 a0_3,.slice A0_4 l0_4.length c0_4,.slice A0_5 l0_5.length c0_5] 51 (0,0)) (ba_ BK230) hb);have n2_:=Xa.mk (Xd (bl_ HB) hb);clear BK230;clear HB;have HO293:=n0_;have BK230:=n1_;have HB:=n2_;clear n0_ n1_ n2_;clear hb ho78))
         go_ret
         exact ⟨_,rf_,Kd.ra_ (HO293.out),bl_ HB⟩
set_option maxHeartbeats 8000000 in
set_option maxRecDepth 100000 in
theorem Zg.step (k:Nat) (ih_spec_l4One:∀ m_,m_<k→∀ (a0_0:Int) (a0_1:Int) (a0_2:Int) (a0_3:Int) (A0_4:Option Addr) (c0_4:Nat) (l0_4:List (S51)) (A0_5:Option Addr) (c0_5:Nat) (l0_5:List (S51)) (a1:Int) (r:List (S31)) (w:World) (hr0_4:Kd.C k51 w A0_4 l0_4.length l0_4) (hc0_4:l0_4.length≤c0_4) (hr0_5:Kd.C k51 w A0_5 l0_5.length l0_5) (hc0_5:l0_5.length≤c0_5) (h:Ze.f m_ a0_0 a0_1 a0_2 a0_3 l0_4 l0_5 a1=some r),
  Calls Try.prog 65 #[.agg #[.int .i64 a0_0,.int .i64 a0_1,.int .i64 a0_2,.int .i64 a0_3,.slice A0_4 l0_4.length c0_4,.slice A0_5 l0_5.length c0_5],.int .i64 a1] w fun e w'=>∃ v0_:Value,e=.returned (v0_)∧Kd.R k31 31 w' w.heap.size (fun _=>True) v0_ r∧Below w.heap.size w w') (ih:∀ m_,m_<k→∀ (A0:Option Addr) (c0:Nat) (l0:List (S51)) (a1:Int) (r:List (S31)) (w:World) (hr0:Kd.C k51 w A0 l0.length l0) (hc0:l0.length≤c0) (h:Zg.f m_ l0 a1=some r),
  Calls Try.prog 54 #[.slice A0 l0.length c0,.int .i64 a1] w fun e w'=>∃ v0_:Value,e=.returned (v0_)∧Kd.R k31 31 w' w.heap.size (fun _=>True) v0_ r∧Below w.heap.size w w'):∀ (A0:Option Addr) (c0:Nat) (l0:List (S51)) (a1:Int) (r:List (S31)) (w:World) (hr0:Kd.C k51 w A0 l0.length l0) (hc0:l0.length≤c0) (h:Zg.f k l0 a1=some r),
  Calls Try.prog 54 #[.slice A0 l0.length c0,.int .i64 a1] w fun e w'=>∃ v0_:Value,e=.returned (v0_)∧Kd.R k31 31 w' w.heap.size (fun _=>True) v0_ r∧Below w.heap.size w w':=by
 intro A0 c0 l0 a1 r w hr0 hc0 h
 cases k with
 |zero=>exact absurd h (by simp [Zg.f])
 |succ k=>
 simp only [Zg.f] at h;have hu51:=Try.underlying51;have HR0:=Xa.mk hr0;have HC0:=Xa.mk hc0;clear hr0 hc0;have HB:=Xa.mk (Below.refl w.heap.size w);have H:(Zg.l0 k l0 a1 (([]:List (S31))) 0)=some r:=h;clear h;obtain ⟨y294,hy294⟩:∃ y_:List (S31),y_=(([]:List (S31))):=⟨_,rfl⟩
 replace H:(Zg.l0 k l0 a1 y294 0)=some r:=by subst hy294;first|with_reducible exact H|(have z:=(Option.bind_some _ _).symm.trans H;with_reducible exact z)|exact H
 have Ny294:=Xa.mk hy294;clear hy294;have H':=Xa.mk H;clear H
 go_enter Try.func54,Try.ntmps54
 go_wp2_with (first|((with_reducible refine Xx (N:=7) rfl ?_);refine Kd.Vq k31 _ 31 ?hg (N:=7) ?hd (xs:=([]:List (S31))) (inner:=[]) (ok:=fun _=>True) (okp:=fun _=>True) ?hr ?hp (fun _ hk=>hk) trivial (Below.refl _ _) (Nat.le_refl _) (by simp) ?_;(case hd=>rfl);(case hg=>rfl);(case hr=>first|(go_simp;done)|(go_simp;rfl));(case hp=>exact (Yl.none _ _));intro v295 w3 ho4 hb hg_ hnew_;clear hg_ hnew_;(first|rw [← Ny294.out] at ho4|(simp only [Int.reduceToNat] at ho4;rw [← Ny294.out] at ho4));have n0_:=Xa.mk (Kd.Yg ho4 (Xc (bl_ HB)));have n1_:=Xa.mk (Xd (bl_ HB) hb);clear HB;have HO296:=n0_;have HB:=n1_;clear n0_ n1_;clear hb ho4))
 go_loopg [5,6] k (fun kq v5 v6 w'=>∃ (x5_1:List (S31)) (x6_1:Int),v6=.int .i64 x6_1∧Xa (Zg.l0 kq l0 a1 x5_1 x6_1=some r)∧Xa (kq≤k)∧Xa (Kd.R k31 31 w' w.heap.size (fun _=>True) v5 x5_1)∧Xa (Below w.heap.size w w'))
 case atStart=>exact ⟨(y294),(0),(by first|rfl|(simp;done)|(simp [*];done)),H',⟨Nat.le_refl _⟩,⟨Kd.ra_ (HO296.out)⟩,⟨bl_ HB⟩⟩
 case round=>
  clear H'
  try clear p2
  obtain ⟨x5_1,x6_1,rfl,HA,HK1,HO_5,HB⟩:=hrel
  cases gk with
  |zero=>exact absurd HA.out (by simp [Zg.l0])
  |succ k1=>
   have H:=HA.out;clear HA;simp only [Zg.l0] at H;by_cases c5:x6_1<(l0.length:Int)
   ·rw [if_pos c5] at H;have c5b0:decide (x6_1<(l0.length:Int))=true:=decide_eq_true c5;clear c5;by_cases c6:0≤x6_1
    ·rw [if_pos c6] at H;have c6b0:decide (0≤x6_1)=true:=decide_eq_true c6;clear c6;replace H:=Option.bind_eq_some_iff.mp H;obtain ⟨t298,A70,H⟩:=H;replace H:(if x5_1.length+t298.length<4398046511104 then (Zg.l0 k1 l0 a1 (x5_1 ++ t298) (wrap64 (x6_1+1))) else (none))=some r:=H;have A7:=Xa.mk A70;clear A70;by_cases c8:x5_1.length+t298.length<4398046511104
     ·rw [if_pos c8] at H;have LMc8:=Xa.mk c8;clear c8;obtain ⟨y301,hy301⟩:∃ y_:List (S31),y_=(x5_1 ++ t298):=⟨_,rfl⟩
      replace H:(Zg.l0 k1 l0 a1 y301 (wrap64 (x6_1+1)))=some r:=by subst hy301;first|with_reducible exact H|(have z:=(Option.bind_some _ _).symm.trans H;with_reducible exact z)|exact H
      have Ny301:=Xa.mk hy301;clear hy301;have H':=Xa.mk H;clear H;have p297:0≤(x6_1:Int):=of_decide_eq_true (by first|(with_reducible assumption)|assumption);have q297:x6_1<(l0.length:Int):=of_decide_eq_true (by first|(with_reducible assumption)|assumption);obtain ⟨ad297,A297_4,c297_4,A297_5,c297_5,e297,hx297_0,hx297_1,hx297_2,hx297_3,hx297_4,hx297_5,hl297_4,hi297_4,hl297_5,hi297_5⟩:=at_T51 HR0.out x6_1 p297 q297;cases e297
      replace hx297_0:=(HB.out.cell (World.block_lt_of_cell? w _ hx297_0)).trans hx297_0;replace hx297_1:=(HB.out.cell (World.block_lt_of_cell? w _ hx297_1)).trans hx297_1;replace hx297_2:=(HB.out.cell (World.block_lt_of_cell? w _ hx297_2)).trans hx297_2;replace hx297_3:=(HB.out.cell (World.block_lt_of_cell? w _ hx297_3)).trans hx297_3;replace hx297_4:=(HB.out.cell (World.block_lt_of_cell? w _ hx297_4)).trans hx297_4;replace hx297_5:=(HB.out.cell (World.block_lt_of_cell? w _ hx297_5)).trans hx297_5;have HR297_4:=Xa.mk hi297_4;have HC297_4:=Xa.mk hl297_4;clear hi297_4 hl297_4;have HR297_5:=Xa.mk hi297_5;have HC297_5:=Xa.mk hl297_5;clear hi297_5 hl297_5;replace p297:=eq_true p297;replace q297:=eq_true q297;obtain ⟨Ao9,co9,eo9⟩:=Kd.Yr HO_5.out;subst eo9;go_wp2_with (first|((with_reducible refine Xf (f:=65) rfl ?_);refine Yf (some 23) rfl rfl Try.func65 (by kernel_rfl) rfl #[.agg #[.int .i64 ((Zb l0 x6_1).f0),.int .i64 ((Zb l0 x6_1).f1),.int .i64 ((Zb l0 x6_1).f2),.int .i64 ((Zb l0 x6_1).f3),.slice A297_4 ((Zb l0 x6_1).f4).length c297_4,.slice A297_5 ((Zb l0 x6_1).f5).length c297_5],.int .i64 (wrap64 (a1+(x5_1.length:Int)))] rfl ga_ ?_;(with_reducible refine (ih_spec_l4One k1 (by have:=HK1.out;omega) ((Zb l0 x6_1).f0) ((Zb l0 x6_1).f1) ((Zb l0 x6_1).f2) ((Zb l0 x6_1).f3) _ _ ((Zb l0 x6_1).f4) _ _ ((Zb l0 x6_1).f5) (wrap64 (a1+(x5_1.length:Int))) t298 _ ?side1 ?side2 ?side3 ?side4 A7.out).mono ?_);(case side1=>repeat (first|exact (Kd.Zi HR297_4.out HB.out)|(with_reducible refine Kd.Xq ?_ _)|(with_reducible refine Kd.Xr ?_ _)|(with_reducible refine Kd.Yc ?_)));(case side2=>exact HC297_4.out);(case side3=>repeat (first|exact (Kd.Zi HR297_5.out HB.out)|(with_reducible refine Kd.Xq ?_ _)|(with_reducible refine Kd.Xr ?_ _)|(with_reducible refine Kd.Yc ?_)));(case side4=>exact HC297_5.out);rintro e w10 ⟨v299,rfl,ho0,hb⟩;refine ⟨_,rfl,?_⟩;have n0_:=Xa.mk (Kd.R_elder' (Kd.ra_ (HO_5.out)) (Kd.Zj ho0) hb);have n1_:=Xa.mk (Kd.Yg (Kd.R_new' ho0 (Kd.Ut (Kd.ra_ (HO_5.out)))) (Xc (bl_ HB)));have n2_:=Xa.mk (Xd (bl_ HB) hb);clear HO_5;clear HB;have HO_5:=n0_;have HO300:=n1_;have HB:=n2_;clear n0_ n1_ n2_;(try clear hb);(try clear hb2);(try clear hk);(try clear hi);(try clear ho0);obtain ⟨Ao12,co12,eo12⟩:=Kd.Yr HO300.out;subst eo12)|((with_reducible refine Yp (b:=.append) (xs:=#[.tmp 14,.tmp 23]) rfl ?_);at_builtin;refine Kd.Vs k31 (w0:=w) w.heap.size rfl (.tmp 14) (.tmp 23) 23 31 (.agg #[(.int .i64 0),(.int .i64 0),(.int .i64 0),(.int .i64 0)]) 32 rfl Try.underlying23 Vf rfl (by decide) (by omega) (.slice Ao9 x5_1.length co9) x5_1 t298 _ _ _ (fun k_=>some k_≠(.slice Ao12 t298.length co12:Value).ownBlock) (fun _=>False) rfl rfl ?aO ?aR (fun _ _ h=>h) (fun _ h=>h.elim) ?aF ?aB ?aS ?aL ?_;(case aR=>repeat (first|exact (Kd.R_reads' HO300.out).2.2|(with_reducible refine Kd.Xq ?_ _)|(with_reducible refine Kd.Xr ?_ _)|(with_reducible refine Kd.Yc ?_)));(case aB=>exact (bl_ HB));(case aF=>exact (fun k_ hk=>Kd.fresh' (Kd.Ut (Kd.ra_ (HO300.out))) k_ hk));(case aO=>exact (Kd.ra_ (Kd.Xn HO_5.out (fun _ hk=>hk.2))));(case aS=>exact (Xc (bl_ HB)));(case aL=>have:=LMc8.out;omega);intro v302 w11 ho hb hg hat;rw [← Ny301.out] at ho;have n0_:=Xa.mk (Kd.Yz (ok:=(fun _=>True)) (Kd.ra_ (HO300.out)) hg hat);have n1_:=Xa.mk (hb);have n2_:=Xa.mk (ho);clear HO300;clear HB;clear HO_5;have HO300:=n0_;have HB:=n1_;have HO303:=n2_;clear n0_ n1_ n2_;clear ho hb hg hat))
      go_roundg k1
      case measure=>have:=HK1.out;omega
      case rel=>exact ⟨(y301),(wrap64 (x6_1+1)),(by first|rfl|(simp;done)|(simp [*];done)),H',⟨by have:=HK1.out;omega⟩,⟨Kd.ra_ (Kd.Xn HO303.out (fun _ hk=>trivial))⟩,⟨bl_ HB⟩⟩
     ·rw [if_neg c8] at H;exact absurd H (by simp)
    ·rw [if_neg c6] at H;exact absurd H (by simp)
   ·rw [if_neg c5] at H;have c5b0:decide (x6_1<(l0.length:Int))=false:=decide_eq_false c5;clear c5;obtain rfl:=Option.some.inj H;go_wp2
    go_ret
    exact ⟨_,rf_,Kd.ra_ (HO_5.out),bl_ HB⟩
theorem spec_l4One_spec_l4Of.all (k:Nat):(∀ (a0_0:Int) (a0_1:Int) (a0_2:Int) (a0_3:Int) (A0_4:Option Addr) (c0_4:Nat) (l0_4:List (S51)) (A0_5:Option Addr) (c0_5:Nat) (l0_5:List (S51)) (a1:Int) (r:List (S31)) (w:World) (hr0_4:Kd.C k51 w A0_4 l0_4.length l0_4) (hc0_4:l0_4.length≤c0_4) (hr0_5:Kd.C k51 w A0_5 l0_5.length l0_5) (hc0_5:l0_5.length≤c0_5) (h:Ze.f k a0_0 a0_1 a0_2 a0_3 l0_4 l0_5 a1=some r),
  Calls Try.prog 65 #[.agg #[.int .i64 a0_0,.int .i64 a0_1,.int .i64 a0_2,.int .i64 a0_3,.slice A0_4 l0_4.length c0_4,.slice A0_5 l0_5.length c0_5],.int .i64 a1] w fun e w'=>∃ v0_:Value,e=.returned (v0_)∧Kd.R k31 31 w' w.heap.size (fun _=>True) v0_ r∧Below w.heap.size w w')∧(∀ (A0:Option Addr) (c0:Nat) (l0:List (S51)) (a1:Int) (r:List (S31)) (w:World) (hr0:Kd.C k51 w A0 l0.length l0) (hc0:l0.length≤c0) (h:Zg.f k l0 a1=some r),
  Calls Try.prog 54 #[.slice A0 l0.length c0,.int .i64 a1] w fun e w'=>∃ v0_:Value,e=.returned (v0_)∧Kd.R k31 31 w' w.heap.size (fun _=>True) v0_ r∧Below w.heap.size w w'):=by
 induction k using Nat.strongRecOn with
 |_ k ih=>exact ⟨Ze.step k (fun m hm=>(ih m hm).1) (fun m hm=>(ih m hm).2),Zg.step k (fun m hm=>(ih m hm).1) (fun m hm=>(ih m hm).2)⟩
theorem Zg.calls (k:Nat):∀ (A0:Option Addr) (c0:Nat) (l0:List (S51)) (a1:Int) (r:List (S31)) (w:World) (hr0:Kd.C k51 w A0 l0.length l0) (hc0:l0.length≤c0) (h:Zg.f k l0 a1=some r),
  Calls Try.prog 54 #[.slice A0 l0.length c0,.int .i64 a1] w fun e w'=>∃ v0_:Value,e=.returned (v0_)∧Kd.R k31 31 w' w.heap.size (fun _=>True) v0_ r∧Below w.heap.size w w':=(spec_l4One_spec_l4Of.all k).2
end Go.Proofs.Ytdkcjecllbdljaa.GSlim
