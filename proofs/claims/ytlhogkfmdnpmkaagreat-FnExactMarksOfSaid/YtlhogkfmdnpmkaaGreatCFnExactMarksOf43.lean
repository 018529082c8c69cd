import Derived.Test.YtlhogkfmdnpmkaaGreatCFnExactMarksOf38
import Derived.Test.YtlhogkfmdnpmkaaGreatCFnExactMarksOf39
import Derived.Laws.EntriesVeiled
set_option linter.unusedSectionVars false
set_option linter.unusedVariables false
set_option linter.unusedSimpArgs false
set_option maxHeartbeats 8000000
set_option maxRecDepth 100000
namespace Go.Proofs.YtlhogkfmdnpmkaaGreat.Mean
open RowKit GMarks YtlhogkfmdnpmkaaGreatW.PrintWords YtlhogkfmdnpmkaaGreatW.PrintLast YtlhogkfmdnpmkaaGreatW.PrintMore
abbrev KT:=k87
abbrev ZT:Value:=.agg #[(.int .i64 0),(.int .i64 0),(.int .i64 0),(.int .i64 0),(.slice none 0 0),(.slice none 0 0)]
theorem V_none {W:World} {base n c:Nat} {ok:Nat→Prop} {l:List T} (h:Kd.V KT 87 W base ok (.slice none n c) l):l=[]:=by
 obtain ⟨h1,_,h3⟩:=Kd.V_reads' h
 cases l with
 |nil=>rfl
 |cons a r=>
  obtain ⟨ad,e,_⟩:=h3.2.2 sm_;cases e
theorem cloneStmt (P0:Nat→Prop) (A0:Option Addr) (c0:Nat) (l0:List T) (w:World) (hs0:Kd.V KT 87 w w.heap.size P0 (.slice A0 l0.length c0) l0) (hl:l0.length≤1000000) :
  Calls Tryz.prog 151 #[.slice A0 l0.length c0] w fun e w'=>∃ v0:Value,e=.returned v0∧Kd.N KT 87 w' w.heap.size (fun k=>P0 k∨w.heap.size≤k) v0 l0∧Below w.heap.size w w':=by
 have qT:∀ (w:World) (a:Option Addr) (n c n' c':Nat),(binOp .eql 64 (.slice a n c) (.slice none n' c')).run Tryz.prog w=.ok (.bool a.isNone) w:=fun w a n c n' c'=>Lib.run_eql_slice_nil w _ _ a n c n' c' Tryz.underlying64;have HL:=Xa.mk hl;have HS:=Xa.mk hs0;clear hl hs0
 cases A0 with
 |none=>
  have hn:=V_none HS.out;subst hn;go_enter Tryz.func151,Tryz.ntmps151;go_wp2;go_ret
  exact ⟨_,rfl,Kd.N_nil _ _ _ _ _,Below.refl _ _⟩
 |some ad=>
  go_enter Tryz.func151,Tryz.ntmps151
  go_wp2_with (first
   |((with_reducible refine Yv (N:=5) rfl ?_);refine Kd.N_lit KT _ 87 ?hg (N':=5) ?hd (xs:=([]:List T)) (inner:=[]) (ok:=(fun k=>P0 k∨w.heap.size≤k)) (okp:=(fun k=>P0 k∨w.heap.size≤k)) ?hr ?hp (fun _ hk=>hk) (.inr (nr_ _)) (Below.refl _ _) (nr_ _) sm_ ?_;(case hd|hg=>rfl);(case hr=>exact hr_);(case hp=>exact (Reps.none _ _));intro v5 w5 ho hb hg hn;have HO:=Xa.mk ho;have HB:=Xa.mk hb;have HN:=Xa.mk hn;clear ho hb hg hn)
   |(at_builtin;refine Kd.N_append_rows KT (w0:=w) w.heap.size rfl (.tmp 5) (.tmp 6) 64 87 ZT 80 rfl Tryz.underlying64 info87 rfl de_ om_ v5 [] l0 (some ad) l0.length c0 (fun k=>P0 k∨w.heap.size≤k) (fun k=>(P0 k∨w.heap.size≤k)∧some k≠v5.ownBlock) rfl rfl HO.out ?c1 (fun _ hk=>hk) ?c2 HB.out HB.out.size ?c3 ?_;(case c1=>exact Kd.F_mono (Kd.F_elder' (Kd.V_F HS.out) (fun k hk=>by obtain ⟨b,e,hle⟩:=HN.out;rw [e] at hk;injection hk with hk;omega) HB.out) (fun k hk=>⟨.inl hk.1,hk.2⟩));(case c2=>exact fun k hk=>.inr (nt_ HB.out.size hk));(case c3=>have:=HL.out;simp;omega);intro v7 w7 ho hb hg hat;have aC:=Xa.mk ho;have aB:=Xa.mk hb;clear ho hb hg hat))
  go_ret
  exact ⟨_,rfl,by simpa using aC.out,aB.out⟩
theorem FK_zero (W:World):Kd.FK KT W (fun _=>False) (z87:T) (ZT).cells.toList:=fun W' _=>by
 first|exact k87_zero W'|(exact (k87_mkF W' (fun _=>True) z87 de_ (Kd.F_nil _ _ _) de_ (Kd.F_nil _ _ _)) W' (fun _ _ _=>rfl))
theorem growStmt (m:Nat) (hm:m≤1000000) (w:World) :
  Calls Tryz.prog 149 #[.slice none 0 0,.int .i64 (m:Int)] w fun e w'=>∃ (A:Option Addr) (c:Nat),e=.returned (.slice A 0 c)∧Kd.N KT 87 w' w.heap.size (fun k=>w.heap.size≤k) (.slice A 0 c) ([]:List T)∧Below w.heap.size w w':=by
 have HM:=Xa.mk hm
 have i0:¬ (m:Int)<0:=om_
 have i1:decide ((m:Int)<0)=false:=df_ om_;by_cases h0:m=0
 ·subst h0;go_enter Tryz.func149,Tryz.ntmps149;go_wp2;go_ret
  exact ⟨_,_,rfl,Kd.N_nil _ _ _ _ _,Below.refl _ _⟩
 ·have i2:decide ((m:Int) > 0)=true:=dt_ om_;have i3:decide ((0:Int)<(m:Int))=true:=dt_ om_
  have i4:(0:Int)<(m:Int):=om_
  have i5:(m:Int)≤1000000:=om_
  clear h0 hm;go_enter Tryz.func149,Tryz.ntmps149
  go_wp2_with (first
   |(at_builtin;refine Kd.N_append_zeros KT (w0:=w) w.heap.size rfl (.tmp 20) (.tmp 21) 64 3 87 ZT 80 rfl Tryz.underlying64 Tryz.underlying3 info87 rfl de_ om_ (.slice none 0 0) ([]:List T) z87 (m:Int) (fun k=>w.heap.size≤k) rfl rfl (FK_zero _) (fun _ hk=>hk) (Kd.N_nil _ _ _ _ _) om_ (Below.refl _ _) (nr_ _) ?c3 ?_;(case c3=>have:=HM.out;simp;omega);intro v7 w7 ho hb hg hat;obtain ⟨A7,c7,aG⟩:=Kd.N_slice ho;subst aG;have aC:=Xa.mk ho;have aB:=Xa.mk hb;clear ho hb hg hat))
  go_ret
  exact ⟨_,_,rfl,by simpa using Kd.N_take (m:=0) aC.out (Nat.zero_le _),aB.out⟩
def Cnt (n0 n1:Nat) (v3 v11:Value):Prop:=(v3=.int .i64 0∧v11=.int .i64 0)∨(v3=.int .i64 (n0:Int)∧v11=.int .i64 1)∨(v3=.int .i64 ((n0+n1:Nat):Int)∧v11=.int .i64 2)
def Row3 (w:World) (P0 P1:Nat→Prop) (l:List T) (v6:Value) (wr:World):Prop:=∃ (A:Option Addr) (c:Nat),v6=.slice A l.length c∧Kd.N KT 87 wr w.heap.size (fun k=>(P0 k∨P1 k)∨w.heap.size≤k) (.slice A l.length c) l∧Below w.heap.size w wr
def App (w:World) (P0 P1:Nat→Prop) (l0 l1:List T) (v6 v27:Value) (wr:World):Prop:=
 (Row3 w P0 P1 [] v6 wr∧v27=.int .i64 0)∨(Row3 w P0 P1 l0 v6 wr∧v27=.int .i64 1)∨(Row3 w P0 P1 (l0 ++ l1) v6 wr∧v27=.int .i64 2)
theorem concatStmt (P0 P1:Nat→Prop) (A0:Option Addr) (c0:Nat) (l0:List T) (A1:Option Addr) (c1:Nat) (l1:List T) (q cq:Nat) (w:World)
  (hs0:Kd.V KT 87 w w.heap.size P0 (.slice A0 l0.length c0) l0) (hs1:Kd.V KT 87 w w.heap.size P1 (.slice A1 l1.length c1) l1) (hq0:w.cell? ⟨q,0,none⟩=some (.slice A0 l0.length c0)) (hq1:w.cell? ⟨q,1,none⟩=some (.slice A1 l1.length c1)) (hl0:l0.length≤400000) (hl1:l1.length≤400000) :
  Calls Tryz.prog 148 #[.slice (some ⟨q,0,none⟩) 2 cq] w fun e w'=>∃ (A:Option Addr) (c:Nat),e=.returned (.slice A (l0 ++ l1).length c)∧Kd.N KT 87 w' w.heap.size (fun k=>(P0 k∨P1 k)∨w.heap.size≤k) (.slice A (l0 ++ l1).length c) (l0 ++ l1)∧Below w.heap.size w w':=by
 have aI:=Xa.mk hl0;have aF:=Xa.mk hl1;have aD:=Xa.mk hs0;have aM:=Xa.mk hs1
 have i0:(l0.length:Int)≤400000:=om_
 have i1:(l1.length:Int)≤400000:=om_
 have i2:(0:Int)≤(l0.length:Int):=om_
 have i3:(0:Int)≤(l1.length:Int):=om_
 clear hl0 hl1 hs0 hs1;go_enter Tryz.func148,Tryz.ntmps148;go_wp2
 go_loop [3,11] (fun v3 v11=>Cnt l0.length l1.length v3 v11) (fun _ v11=>2 - (intOf v11).toNat)
 case atStart=>exact .inl ⟨rfl,rfl⟩
 case round=>
  rcases hrel with ⟨rfl,rfl⟩|⟨rfl,rfl⟩|⟨rfl,rfl⟩
  ·go_wp2
   go_round
   case rel=>exact .inr (.inl ⟨by go_num,rfl⟩)
   case measure=>simp [intOf]
  ·have e:((l0.length+l1.length:Nat):Int)=(l0.length:Int)+(l1.length:Int):=om_
   have E:=Lib.hid e;clear e;go_wp2
   go_round
   case rel=>exact .inr (.inr ⟨by rw [E.out],rfl⟩)
   case measure=>simp [intOf]
  ·have e:((l0.length+l1.length:Nat):Int)≤800000:=om_
   have e2:(0:Int)≤((l0.length+l1.length:Nat):Int):=om_
   go_wp2_with (first|(go_at_call 149;refine (growStmt _ (by have:=aI.out;have:=aF.out;omega) _).mono ?_;rintro e_ w1 ⟨A,c,rfl,hn,hb⟩;have HN:=Xa.mk hn;have HB1:=Xa.mk hb;clear hn hb));clear e e2
   go_loopw [6,27] (fun v6 v27 wr=>App w P0 P1 l0 l1 v6 v27 wr) (fun _ v27 _=>2 - (intOf v27).toNat)
   case atStart=>exact .inl ⟨⟨A,c,rfl,Kd.N_mono HN.out (fun k hk=>.inr hk),HB1.out⟩,rfl⟩
   case round=>
    rcases hrel with ⟨⟨A2,c2,rfl,hn,hb⟩,rfl⟩|⟨⟨A2,c2,rfl,hn,hb⟩,rfl⟩|⟨⟨A2,c2,rfl,hn,hb⟩,rfl⟩
    all_goals (have q0:=Xb hb hq0;have q1:=Xb hb hq1;have HO:=Xa.mk hn;have HB:=Xa.mk hb;clear hn hb)
    ·go_wp2_with (first
    |(at_builtin;refine Kd.N_append_rows KT (w0:=w) w.heap.size rfl (.tmp 31) (.tmp 32) 64 87 ZT 80 rfl Tryz.underlying64 info87 rfl de_ om_ (.slice A2 ([]:List T).length c2) [] l0 _ _ _ (fun k=>(P0 k∨P1 k)∨w.heap.size≤k) (fun k=>((P0 k∨P1 k)∨w.heap.size≤k)∧some k≠(.slice A2 ([]:List T).length c2:Value).ownBlock) rfl rfl HO.out ?c1 (fun _ hk=>hk) ?c2 HB.out HB.out.size ?c3 ?_;(case c1=>exact Kd.F_mono (Kd.F_old (Kd.V_F aD.out) HB.out) (fun k hk=>⟨.inl (.inl hk.1),fun e=>by have:=Kd.N_base HO.out k e.symm;have:=hk.2;omega⟩));(case c2=>exact fun k hk=>.inr (nt_ HB.out.size hk));(case c3=>have:=aI.out;have:=aF.out;simp;omega);intro v7 w7 ho hb hg hat;obtain ⟨A7,c7,aG⟩:=Kd.N_slice ho;subst aG;have aC:=Xa.mk ho;have aB:=Xa.mk hb;clear ho hb hg hat))
     go_roundw
     case rel=>exact .inr (.inl ⟨⟨A7,c7,rfl,by simpa using aC.out,aB.out⟩,rfl⟩)
     case measure=>simp [intOf]
    ·go_wp2_with (first
    |(at_builtin;refine Kd.N_append_rows KT (w0:=w) w.heap.size rfl (.tmp 31) (.tmp 32) 64 87 ZT 80 rfl Tryz.underlying64 info87 rfl de_ om_ (.slice A2 l0.length c2) l0 l1 _ _ _ (fun k=>(P0 k∨P1 k)∨w.heap.size≤k) (fun k=>((P0 k∨P1 k)∨w.heap.size≤k)∧some k≠(.slice A2 l0.length c2:Value).ownBlock) rfl rfl HO.out ?c1 (fun _ hk=>hk) ?c2 HB.out HB.out.size ?c3 ?_;(case c1=>exact Kd.F_mono (Kd.F_old (Kd.V_F aM.out) HB.out) (fun k hk=>⟨.inl (.inr hk.1),fun e=>by have:=Kd.N_base HO.out k e.symm;have:=hk.2;omega⟩));(case c2=>exact fun k hk=>.inr (nt_ HB.out.size hk));(case c3=>have:=aI.out;have:=aF.out;simp;omega);intro v7 w7 ho hb hg hat;obtain ⟨A7,c7,aG⟩:=Kd.N_slice ho;subst aG;have aC:=Xa.mk ho;have aB:=Xa.mk hb;clear ho hb hg hat))
     go_roundw
     case rel=>exact .inr (.inr ⟨⟨A7,c7,by rw [List.length_append],aC.out,aB.out⟩,rfl⟩)
     case measure=>simp [intOf]
    ·go_wp2;go_ret
     exact ⟨_,_,rfl,HO.out,HB.out⟩
open Evt
def Small:Nat→List S87→Prop
 |0,l=>l=[]
 |d+1,l=>l.length≤1000000∧∀ t ∈ l,Small d t.f4∧Small d t.f5
theorem copy_loop (d:Nat) {l:List S87} (hl:l.length≤1000000) (each:∀ t ∈ l,Evt (fun k=>Xw.f k t.f4) t.f4∧Evt (fun k=>Xw.f k t.f5) t.f5) :
  ∀ (n i:Nat),i+n=l.length→Evt (fun k=>Xw.l0 k (l.take i) l (l.length:Int) (i:Int)) l
 |0,i,h=>by
  refine Evt.step ?_;simp only [Xw.l0];refine Evt.neg om_ ?_;rw [List.take_of_length_le om_];exact Evt.pure _
 |n+1,i,h=>by
  have hi:i<l.length:=om_
  refine Evt.step ?_;simp only [Xw.l0];refine Evt.pos om_ (Evt.pos om_ (Evt.pos om_ ?_))
  have hr:Xe l (i:Int)=l[i]:=by unfold Xe;simp [List.getD_eq_getElem?_getD,hi]
  have he:=each l[i] (List.getElem_mem hi);rw [hr];refine Evt.bind he.1 (Evt.bind he.2 (Evt.pos (by rw [List.length_take];omega) ?_))
  have ht:l.take i ++ [(⟨l[i].f0,l[i].f1,l[i].f2,l[i].f3,l[i].f4,l[i].f5⟩:S87)]=l.take (i+1):=by
   rw [List.take_succ_eq_append_getElem hi]
   cases l[i];rfl
  rw [ht,w64n i om_];exact copy_loop d hl each n (i+1) om_
theorem copy_is:∀ (d:Nat) (l:List S87),Small d l→Evt (fun k=>Xw.f k l) l
 |0,l,h=>by
  have h':l=[]:=h;subst h';refine Evt.step ?_;simp only [Xw.f];exact copy_loop 0 sm_ (fun t ht=>by simp at ht) 0 0 rfl
 |d+1,l,h=>by
  refine Evt.step ?_;simp only [Xw.f];exact copy_loop d h.1 (fun t ht=>⟨copy_is d _ (h.2 t ht).1,copy_is d _ (h.2 t ht).2⟩) l.length 0 om_
variable [Prot]
theorem INS1 {W w1 w2:World} {ok:Nat→Prop} {v:Value} {l:List T} (h:Kd.R KT 87 w1 W.heap.size ok v l) (hb:Below w1.heap.size w1 w2):Kd.V KT 87 w2 w2.heap.size (fun k=>W.heap.size≤k) v l:=
 Kd.V_below (Kd.R_V (Kd.Zc (Kd.R_bound h) (fun k hk=>hk.2.1))) hb
theorem INS2 {W w1 w2:World} {base:Nat} {ok:Nat→Prop} {v:Value} {l:List T} (h:Kd.V KT 87 W base ok v l) (hb:Below W.heap.size W w1) (hb2:Below w1.heap.size w1 w2):Kd.V KT 87 w2 w2.heap.size ok v l:=
 show Kd.V KT 87 w2 base ok v l from Kd.V_below (Kd.V_below h hb) hb2
theorem INS3 {W w1 w2 w3:World} {P:Nat} (h1:Below W.heap.size W w1) (h2:Below w1.heap.size w1 w2) (h3:Below w2.heap.size w2 w3) (hP:P<W.heap.size):w3.heap[P]?=W.heap[P]?:=
 ((h3.block P (by have:=h1.size;have:=h2.size;omega)).trans (h2.block P (by have:=h1.size;omega))).trans (h1.block P hP)
theorem insert_do (W0:World) (base:Nat) (ok:Nat→Prop) (b:BK) (s:WS) (g i P cp:Nat) (l:List T) (A:Option Addr) (c d:Nat) (h:St W0 base ok b s g) (hi:i<s.n) (hP:b.p=.slice (some ⟨P,0,none⟩) s.n cp)
  (hC:Kd.C KT W0 A l.length l) (hlc:l.length≤c) (hsm:Small d l) (hl1:l.length≤400000) (hl2:(s.proc i).todo.length≤400000) :
  Calls Tryz.prog 133 #[.pointer (some ⟨P,i * 5,none⟩),.slice A l.length c] W0 fun e W'=>e=.returned (.tuple #[])∧Left W0 base ok (doTodo s i l) g W':=by
 obtain ⟨k,hk⟩:=(copy_is d l hsm).get;go_enter Tryz.func133,Tryz.ntmps133;have hWW:Below W0.heap.size W0 W0.drew:=Xh (Below.refl _ _);have h5:=h.below hWW;have HP:=h5.at_.Yf om_ hP;obtain ⟨A2,c2,ht2,aH,hF2⟩:=h5.at_.tree i hi;have p1:=HP.cell i 1 hi om_;simp [Yn] at p1;rw [ht2] at p1;have aD:Xa (W0.drew.cell? ⟨P,i * 5+1,none⟩=some (.slice A2 (s.proc i).todo.length c2)):=⟨p1⟩;have HC:Xa (Kd.C KT W0.drew A l.length l):=⟨Kd.Xy hC hWW⟩;have HLC:=Xa.mk hlc;have HK:=Xa.mk hk;have aF:=Xa.mk hl1;have HL2:=Xa.mk hl2;have HT:Xa (Kd.V KT 87 W0.drew base (fun k=>ok k∧free (lay b s) k) (.slice A2 (s.proc i).todo.length c2) (s.proc i).todo):=⟨⟨A2,c2,rfl,aH,hF2⟩⟩;have HPF:Xa (W0.drew.frozen? ⟨P,i * 5+1,none⟩=false):=⟨HP.free_ _⟩;have HPL:Xa (P<W0.drew.heap.size):=⟨HP.lt⟩;have H5:=Xa.mk h5;have HPV:=Xa.mk hP;have HWW:=Xa.mk hWW;have HUP:=Xa.mk h.up;have HI:=Xa.mk hi;clear h5 HP ht2 aH hF2 p1 hC hlc hk hl1 hl2 hP hWW h hsm hi;refine Ul (n:=12) (S:=fun w'=>w'.cell? ⟨P,i * 5+1,none⟩=some (.slice A2 (s.proc i).todo.length c2)) (ds:=[11]) #[false,false,false,false,false,false,false,false,false,false,false,false] kr_ rfl rl1_ aD.out (fun hHeld=>?_);refine pu_' 0 (some 4) ?_;refine pu_' 1 (some 5) ?_;refine pu_' 3 (some 7) ?_;refine pu_' 4 (some 8) ?_;refine pu_' 5 (some 9) ?_;refine tk_' 6 (some 10) rfl hHeld (by rintro w' s0;go_simp;with_reducible rfl) ?_;refine re_' 2 (some 6) fun K hK=>?_;refine Vd Tryz.func83 kr_ rfl #[.slice A l.length c] rl1_ rfl rfl ga_ ?_;refine (Xw.calls k A c l l W0.drew HC.out HLC.out HK.out).mono ?_;rintro e w1 ⟨v1,rfl,hr1,hb1⟩;refine ⟨_,rfl,?_⟩;obtain ⟨A1,c1,aN⟩:=Kd.Zq hr1;subst aN;have HR1:=Xa.mk hr1;have HB1:=Xa.mk hb1;clear hr1 hb1;refine hK.out _ _ (Xb HB1.out aD.out) (fun hHeld=>?_);clear hK K;refine no_ ?_;refine re_' 7 (some 11) fun K hK=>?_;refine value_ (v:=.slice (some ⟨w1.heap.size,0,none⟩) 2 2) (w1:=w1.alloc (.cells #[.slice A1 l.length c1,.slice A2 (s.proc i).todo.length c2] 64)) rfl rfl kr_ ?_;have HB2:=Xa.mk (Xf (Below.refl w1.heap.size w1) (.cells #[.slice A1 l.length c1,.slice A2 (s.proc i).todo.length c2] 64));have aJ:=Xa.mk (Yc w1 (.cells #[.slice A1 l.length c1,.slice A2 (s.proc i).todo.length c2] 64));obtain ⟨w2,hw2⟩:∃ w2,w1.alloc (.cells #[.slice A1 l.length c1,.slice A2 (s.proc i).todo.length c2] 64)=w2:=⟨_,rfl⟩;rw [hw2] at HB2 aJ ⊢;clear hw2;refine hK.out _ _ (Xb HB2.out (Xb HB1.out aD.out)) (fun hHeld=>?_);clear hK K;refine no_ ?_;refine re_' 8 (some 12) fun K hK=>?_;refine Vd Tryz.func148 kr_ rfl #[.slice (some ⟨w1.heap.size,0,none⟩) 2 2] rl1_ rfl rfl ga_ ?_;refine (concatStmt (fun k=>W0.drew.heap.size≤k) (fun k=>ok k∧free (lay b s) k) A1 c1 l A2 c2 (s.proc i).todo w1.heap.size 2 w2 (INS1 HR1.out HB2.out) (INS2 HT.out HB1.out HB2.out) ((Xd aJ.out 0).trans rfl) ((Xd aJ.out 1).trans rfl) aF.out HL2.out).mono ?_;rintro e w3 ⟨A3,c3,rfl,aK,hb3⟩;refine ⟨_,rfl,?_⟩;have aL:=Xa.mk aK;have HB3:=Xa.mk hb3;clear aK hb3;have hx3:=Xb HB3.out (Xb HB2.out (Xb HB1.out aD.out))
 have hf3:w3.frozen? ⟨P,i * 5+1,none⟩=false:=by rw [World.frozen?_of_block (INS3 HB1.out HB2.out HB3.out HPL.out)];exact HPF.out
 refine hK.out _ _ (Xb HB3.out (Xb HB2.out (Xb HB1.out aD.out))) (fun hHeld=>?_);clear hK K;refine no_ ?_;refine pu_' 9 (some 13) ?_;refine pu_' 10 (some 14) ?_;refine rl_' 11 none fun K hK=>?_;refine skip_ (w1:=w3.setCell ⟨P,i * 5+1,none⟩ (.slice A3 (l ++ (s.proc i).todo).length c3)) rfl rfl ?_ ?_
 ·first|(go_simp;done)|(go_simp;rfl)
 refine hK.out _ _ ?_;clear hK K;refine Uz kr_ ?_;skip;go_wp2;go_end0;refine ⟨rfl,?_⟩;have aA:Below W0.drew.heap.size W0.drew w3:=(HB1.out.trans ⟨HB2.out.os,HB2.out.tape,HB2.out.output,HB2.out.size,fun j hj=>HB2.out.block j (nl_ hj HB1.out.size)⟩).trans ⟨HB3.out.os,HB3.out.tape,HB3.out.output,HB3.out.size,fun j hj=>HB3.out.block j (nl_ hj (nt_ HB1.out.size HB2.out.size))⟩;have h6:=H5.out.below aA
 have hv:=Kd.Ut (ok':=fun k=>ok k∧free (lay b s) k) (Kd.N_V (base':=base) aL.out) (fun k hk=>by
  have new:W0.drew.heap.size≤k→ok k∧free (lay b s) k:=fun hle=>⟨H5.out.up k hle,fun j r hr e=>by have:=(H5.out.at_.rows.at_ j r hr).lt k e;omega⟩
  rcases hk with (hk|hk)|hk
  ·exact new hk
  ·exact hk
  ·exact new (nt_ (nt_ HB1.out.size HB2.out.size) hk))
 have hw:=h6.at_.todo h6.up (i:=i) HI.out _ (l ++ (s.proc i).todo) (h6.at_.Yf (Nat.lt_of_le_of_lt (Nat.zero_le i) HI.out) HPV.out) hv;have h7:=h6.write (q':=b.q) hw;exact Left.of h7 (HWW.out.trans ⟨aA.os,aA.tape,aA.output,aA.size,fun j hj=>aA.block j (nl_ hj HWW.out.size)⟩) (hw.2.mono (fun k hk=>.inl hk)) HUP.out
end Go.Proofs.YtlhogkfmdnpmkaaGreat.Mean
namespace Go.Proofs.YtlhogkfmdnpmkaaGreat.GMarks
open RowKit YtlhogkfmdnpmkaaGreatW.PrintWords YtlhogkfmdnpmkaaGreatW.PrintLast YtlhogkfmdnpmkaaGreatW.PrintMore
attribute [local go_sem] Ua Ud Uu Ux Zo Zp Ub Ue
def okN (n:Int):Bool:=decide (-999≤n) && decide (n≤999)
def cutN (n:Int):Int:=if n > 999 then 999 else if n < -999 then -999 else n
def numDo (op a b:Int):Int × Bool:=
 if 1≤op∧op≤5∧okN a=true∧okN b=true then
  (if op=1 then cutN (a+b) else if op=2 then cutN (a - b) else if op=3 then cutN (a * b)
   else if op=4 then (if a<b then 1 else 0) else (if a=b then 1 else 0),true)
 else (0,false)
def impl_NumDo.f (a0 a1 a2:Int):Option (Int × Bool):=some (numDo a0 a1 a2)
theorem cutN_mid {n:Int} (h1:-999<n) (h2:n≤999):cutN n=n:=by unfold cutN;split <;> (try split) <;> omega
theorem cutN_hi {n:Int} (h:999<n):cutN n=999:=by unfold cutN;split <;> (try split) <;> omega
theorem cutN_lo {n:Int} (h:n≤-999):cutN n = -999:=by unfold cutN;split <;> (try split) <;> omega
theorem mul_lo {a b:Int} (h1:-999≤a) (h2:a≤999) (h3:-999≤b) (h4:b≤999):-998001≤a * b∧a * b≤998001:=by
 have e1:0≤(999 - a) * (999 - b):=Int.mul_nonneg om_ om_;have e2:0≤(999+a) * (999+b):=Int.mul_nonneg om_ om_;have e3:0≤(999 - a) * (999+b):=Int.mul_nonneg om_ om_;have e4:0≤(999+a) * (999 - b):=Int.mul_nonneg om_ om_;rw [Int.sub_mul,Int.mul_sub,Int.mul_sub] at e1;rw [Int.add_mul,Int.mul_add,Int.mul_add] at e2;rw [Int.sub_mul,Int.mul_add,Int.mul_add] at e3;rw [Int.add_mul,Int.mul_sub,Int.mul_sub] at e4;omega
theorem do_add (a1 a2:Int) (w:World) (h1:-999≤a1) (h2:a1≤999) (h3:-999≤a2) (h4:a2≤999) :
  Calls Tryz.prog 136 #[.int .i64 1,.int .i64 a1,.int .i64 a2] w fun e w'=>e=.returned (.tuple #[.int .i64 (cutN (a1+a2)),.bool true])∧Below w.heap.size w w':=by
 obtain ⟨m1,m2⟩:=mul_lo h1 h2 h3 h4
 have c:999<a1+a2∨a1+a2≤-999∨(-999<a1+a2∧a1+a2≤999):=om_
 rcases c with c|c|⟨c,c'⟩
 ·rw [cutN_hi c];go_enter Tryz.func136,Tryz.ntmps136;go_wp2
  all_goals
   go_ret2
   exact ⟨rfl,by repeat (first|exact Below.refl _ _|apply Xf|apply Xh)⟩
 ·rw [cutN_lo c];go_enter Tryz.func136,Tryz.ntmps136;go_wp2
  all_goals
   go_ret2
   exact ⟨rfl,by repeat (first|exact Below.refl _ _|apply Xf|apply Xh)⟩
 ·rw [cutN_mid c c'];go_enter Tryz.func136,Tryz.ntmps136;go_wp2
  all_goals
   go_ret2
   exact ⟨rfl,by repeat (first|exact Below.refl _ _|apply Xf|apply Xh)⟩
theorem do_sub (a1 a2:Int) (w:World) (h1:-999≤a1) (h2:a1≤999) (h3:-999≤a2) (h4:a2≤999) :
  Calls Tryz.prog 136 #[.int .i64 2,.int .i64 a1,.int .i64 a2] w fun e w'=>e=.returned (.tuple #[.int .i64 (cutN (a1 - a2)),.bool true])∧Below w.heap.size w w':=by
 obtain ⟨m1,m2⟩:=mul_lo h1 h2 h3 h4
 have c:999<a1 - a2∨a1 - a2≤-999∨(-999<a1 - a2∧a1 - a2≤999):=om_
 rcases c with c|c|⟨c,c'⟩
 ·rw [cutN_hi c];go_enter Tryz.func136,Tryz.ntmps136;go_wp2
  all_goals
   go_ret2
   exact ⟨rfl,by repeat (first|exact Below.refl _ _|apply Xf|apply Xh)⟩
 ·rw [cutN_lo c];go_enter Tryz.func136,Tryz.ntmps136;go_wp2
  all_goals
   go_ret2
   exact ⟨rfl,by repeat (first|exact Below.refl _ _|apply Xf|apply Xh)⟩
 ·rw [cutN_mid c c'];go_enter Tryz.func136,Tryz.ntmps136;go_wp2
  all_goals
   go_ret2
   exact ⟨rfl,by repeat (first|exact Below.refl _ _|apply Xf|apply Xh)⟩
theorem do_mul (a1 a2:Int) (w:World) (h1:-999≤a1) (h2:a1≤999) (h3:-999≤a2) (h4:a2≤999) :
  Calls Tryz.prog 136 #[.int .i64 3,.int .i64 a1,.int .i64 a2] w fun e w'=>e=.returned (.tuple #[.int .i64 (cutN (a1 * a2)),.bool true])∧Below w.heap.size w w':=by
 obtain ⟨m1,m2⟩:=mul_lo h1 h2 h3 h4
 have c:999<a1 * a2∨a1 * a2≤-999∨(-999<a1 * a2∧a1 * a2≤999):=om_
 rcases c with c|c|⟨c,c'⟩
 ·rw [cutN_hi c];go_enter Tryz.func136,Tryz.ntmps136;go_wp2
  all_goals
   go_ret2
   exact ⟨rfl,by repeat (first|exact Below.refl _ _|apply Xf|apply Xh)⟩
 ·rw [cutN_lo c];go_enter Tryz.func136,Tryz.ntmps136;go_wp2
  all_goals
   go_ret2
   exact ⟨rfl,by repeat (first|exact Below.refl _ _|apply Xf|apply Xh)⟩
 ·rw [cutN_mid c c'];go_enter Tryz.func136,Tryz.ntmps136;go_wp2
  all_goals
   go_ret2
   exact ⟨rfl,by repeat (first|exact Below.refl _ _|apply Xf|apply Xh)⟩
theorem do_less (a1 a2:Int) (w:World) (h1:-999≤a1) (h2:a1≤999) (h3:-999≤a2) (h4:a2≤999) :
  Calls Tryz.prog 136 #[.int .i64 4,.int .i64 a1,.int .i64 a2] w fun e w'=>e=.returned (.tuple #[.int .i64 (if a1<a2 then 1 else 0),.bool true])∧Below w.heap.size w w':=by
 by_cases c:a1<a2
 ·rw [if_pos c];skip;go_enter Tryz.func136,Tryz.ntmps136;go_wp2
  all_goals
   go_ret2
   exact ⟨rfl,by repeat (first|exact Below.refl _ _|apply Xf|apply Xh)⟩
 ·rw [if_neg c];skip;go_enter Tryz.func136,Tryz.ntmps136;go_wp2
  all_goals
   go_ret2
   exact ⟨rfl,by repeat (first|exact Below.refl _ _|apply Xf|apply Xh)⟩
theorem do_same (a1 a2:Int) (w:World) (h1:-999≤a1) (h2:a1≤999) (h3:-999≤a2) (h4:a2≤999) :
  Calls Tryz.prog 136 #[.int .i64 5,.int .i64 a1,.int .i64 a2] w fun e w'=>e=.returned (.tuple #[.int .i64 (if a1=a2 then 1 else 0),.bool true])∧Below w.heap.size w w':=by
 by_cases c:a1=a2
 ·rw [if_pos c]
  have d:(a1 == a2)=true:=by simpa using c
  go_enter Tryz.func136,Tryz.ntmps136;go_wp2
  all_goals
   go_ret2
   exact ⟨rfl,by repeat (first|exact Below.refl _ _|apply Xf|apply Xh)⟩
 ·rw [if_neg c]
  have d:(a1 == a2)=false:=by simpa using c
  go_enter Tryz.func136,Tryz.ntmps136;go_wp2
  all_goals
   go_ret2
   exact ⟨rfl,by repeat (first|exact Below.refl _ _|apply Xf|apply Xh)⟩
theorem do_bad (a0 a1 a2:Int) (w:World) (h:¬ (1≤a0∧a0≤5∧(-999≤a1∧a1≤999)∧(-999≤a2∧a2≤999))) :
  Calls Tryz.prog 136 #[.int .i64 a0,.int .i64 a1,.int .i64 a2] w fun e w'=>e=.returned (.tuple #[.int .i64 0,.bool false])∧Below w.heap.size w w':=by
 by_cases c0:1≤a0
 case neg=>
  clear h;go_enter Tryz.func136,Tryz.ntmps136;go_wp2
  all_goals
   go_ret2
   exact ⟨rfl,by repeat (first|exact Below.refl _ _|apply Xf|apply Xh)⟩
 by_cases c1:a0≤5
 case neg=>
  clear h;go_enter Tryz.func136,Tryz.ntmps136;go_wp2
  all_goals
   go_ret2
   exact ⟨rfl,by repeat (first|exact Below.refl _ _|apply Xf|apply Xh)⟩
 by_cases c2:-999≤a1
 case neg=>
  clear h;go_enter Tryz.func136,Tryz.ntmps136;go_wp2
  all_goals
   go_ret2
   exact ⟨rfl,by repeat (first|exact Below.refl _ _|apply Xf|apply Xh)⟩
 by_cases c3:a1≤999
 case neg=>
  clear h;go_enter Tryz.func136,Tryz.ntmps136;go_wp2
  all_goals
   go_ret2
   exact ⟨rfl,by repeat (first|exact Below.refl _ _|apply Xf|apply Xh)⟩
 by_cases c4:-999≤a2
 case neg=>
  clear h;go_enter Tryz.func136,Tryz.ntmps136;go_wp2
  all_goals
   go_ret2
   exact ⟨rfl,by repeat (first|exact Below.refl _ _|apply Xf|apply Xh)⟩
 by_cases c5:a2≤999
 case neg=>
  clear h;go_enter Tryz.func136,Tryz.ntmps136;go_wp2
  all_goals
   go_ret2
   exact ⟨rfl,by repeat (first|exact Below.refl _ _|apply Xf|apply Xh)⟩
 exact absurd ⟨c0,c1,⟨c2,c3⟩,⟨c4,c5⟩⟩ h
theorem impl_NumDo.calls (a0 a1 a2:Int) (r1:Int) (r2:Bool) (w:World) (h:impl_NumDo.f a0 a1 a2=some (r1,r2)) :
  Calls Tryz.prog 136 #[.int .i64 a0,.int .i64 a1,.int .i64 a2] w fun e w'=>e=.returned (.tuple #[.int .i64 r1,.bool r2])∧Below w.heap.size w w':=by
 have H:=sj_ h;clear h;by_cases c1:1≤a0∧a0≤5∧okN a1=true∧okN a2=true
 ·unfold numDo at H;rw [if_pos c1] at H;obtain ⟨h1,h2,h3,h4⟩:=c1;simp only [okN,Bool.and_eq_true,decide_eq_true_eq] at h3 h4;simp only [Prod.mk.injEq] at H;obtain ⟨H,rfl⟩:=H
  have c:a0=1∨a0=2∨a0=3∨a0=4∨a0=5:=om_
  rcases c with rfl|rfl|rfl|rfl|rfl
  ·simp at H;rw [← H];exact do_add a1 a2 w h3.1 h3.2 h4.1 h4.2
  ·simp at H;rw [← H];exact do_sub a1 a2 w h3.1 h3.2 h4.1 h4.2
  ·simp at H;rw [← H];exact do_mul a1 a2 w h3.1 h3.2 h4.1 h4.2
  ·simp at H;rw [← H];exact do_less a1 a2 w h3.1 h3.2 h4.1 h4.2
  ·simp at H;rw [← H];exact do_same a1 a2 w h3.1 h3.2 h4.1 h4.2
 ·unfold numDo at H;rw [if_neg c1] at H;simp only [Prod.mk.injEq] at H;obtain ⟨rfl,rfl⟩:=H;refine do_bad a0 a1 a2 w (fun c=>c1 ?_);simpa [okN] using c
end Go.Proofs.YtlhogkfmdnpmkaaGreat.GMarks
