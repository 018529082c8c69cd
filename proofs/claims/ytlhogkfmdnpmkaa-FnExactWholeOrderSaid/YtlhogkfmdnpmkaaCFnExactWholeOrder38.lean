import Derived.Test.YtlhogkfmdnpmkaaCFnExactWholeOrder35
import Derived.Test.YtlhogkfmdnpmkaaCFnExactWholeOrder23
import Derived.Test.YtlhogkfmdnpmkaaCFnExactWholeOrder0
import Derived.Test.YtlhogkfmdnpmkaaCFnExactWholeOrder20
set_option maxHeartbeats 8000000
set_option maxRecDepth 100000
set_option linter.unusedVariables false
set_option linter.unusedSimpArgs false
namespace Go.Proofs.Ytlhogkfmdnpmkaa.Mean
open Go.RowKit Go.Proofs.Ytlhogkfmdnpmkaa.GWhole Go.Proofs.YtlhogkfmdnpmkaaW.PrintWords Go.Proofs.YtlhogkfmdnpmkaaW.PrintLast Go.Proofs.YtlhogkfmdnpmkaaW.PrintMore
abbrev KT:=k69
abbrev ZT:Value:=.agg #[(.int .i64 0),(.int .i64 0),(.int .i64 0),(.int .i64 0),(.slice none 0 0),(.slice none 0 0)]
theorem V_none {W:World} {base n c:Nat} {ok:Nat→Prop} {l:List T} (h:Kd.V KT 69 W base ok (.slice none n c) l):l=[]:=by
  obtain ⟨h1,_,h3⟩:=Kd.V_reads' h
  cases l with
  |nil=>rfl
  |cons a r=>
    obtain ⟨ad,e,_⟩:=h3.2.2 (by simp);cases e
theorem cloneStmt (P0:Nat→Prop) (A0:Option Addr) (c0:Nat) (l0:List T) (w:World) (hs0:Kd.V KT 69 w w.heap.size P0 (.slice A0 l0.length c0) l0) (hl:l0.length≤1000000) :
    Calls Try.prog 123 #[.slice A0 l0.length c0] w fun e w'=>∃ v0:Value,e=.returned v0∧Kd.N KT 69 w' w.heap.size (fun k=>P0 k∨w.heap.size≤k) v0 l0∧Below w.heap.size w w':=by
  have qT:∀ (w:World) (a:Option Addr) (n c n' c':Nat),(binOp .eql 50 (.slice a n c) (.slice none n' c')).run Try.prog w=.ok (.bool a.isNone) w:=fun w a n c n' c'=>Lib.run_eql_slice_nil w _ _ a n c n' c' Try.underlying50;have HL:=Xa.mk hl;have HS:=Xa.mk hs0;clear hl hs0
  cases A0 with
  |none=>
    have hn:=V_none HS.out;subst hn
    go_enter Try.func123,Try.ntmps123
    go_wp2
    go_ret
    exact ⟨_,rfl,Kd.N_nil _ _ _ _ _,Below.refl _ _⟩
  |some ad=>
    go_enter Try.func123,Try.ntmps123
    go_wp2_with (first
      |((with_reducible refine Zh (N:=5) rfl ?_);refine Kd.N_lit KT _ 69 ?hg (N':=5) ?hd (xs:=([]:List T)) (inner:=[]) (ok:=(fun k=>P0 k∨w.heap.size≤k)) (okp:=(fun k=>P0 k∨w.heap.size≤k)) ?hr ?hp (fun _ hk=>hk) (.inr (Nat.le_refl _)) (Below.refl _ _) (Nat.le_refl _) (by simp) ?_;(case hd|hg=>rfl);(case hr=>exact hr_);(case hp=>exact (Zw.none _ _));intro v5 w5 ho hb hg hn;have HO:=Xa.mk ho;have HB:=Xa.mk hb;have HN:=Xa.mk hn;clear ho hb hg hn)
      |(at_builtin;refine Kd.N_append_rows KT (w0:=w) w.heap.size rfl (.tmp 5) (.tmp 6) 50 69 ZT 80 rfl Try.underlying50 info69 rfl (by decide) (by omega) v5 [] l0 (some ad) l0.length c0 (fun k=>P0 k∨w.heap.size≤k) (fun k=>(P0 k∨w.heap.size≤k)∧some k≠v5.ownBlock) rfl rfl HO.out ?c1 (fun _ hk=>hk) ?c2 HB.out HB.out.size ?c3 ?_;(case c1=>exact Kd.F_mono (Kd.F_elder' (Kd.V_F HS.out) (fun k hk=>by obtain ⟨b,e,hle⟩:=HN.out;rw [e] at hk;injection hk with hk;omega) HB.out) (fun k hk=>⟨.inl hk.1,hk.2⟩));(case c2=>exact fun k hk=>.inr (Nat.le_trans HB.out.size hk));(case c3=>have:=HL.out;simp;omega);intro v7 w7 ho hb hg hat;have aB:=Xa.mk ho;have aA:=Xa.mk hb;clear ho hb hg hat))
    go_ret
    exact ⟨_,rfl,by simpa using aB.out,aA.out⟩
theorem FK_zero (W:World):Kd.FK KT W (fun _=>False) (z69:T) (ZT).cells.toList:=fun W' _=>by
  first|exact k69_zero W'|(exact (k69_mkF W' (fun _=>True) z69 (by decide) (Kd.F_nil _ _ _) (by decide) (Kd.F_nil _ _ _)) W' (fun _ _ _=>rfl))
theorem growStmt (m:Nat) (hm:m≤1000000) (w:World) :
    Calls Try.prog 121 #[.slice none 0 0,.int .i64 (m:Int)] w fun e w'=>∃ (A:Option Addr) (c:Nat),e=.returned (.slice A 0 c)∧Kd.N KT 69 w' w.heap.size (fun k=>w.heap.size≤k) (.slice A 0 c) ([]:List T)∧Below w.heap.size w w':=by
  have HM:=Xa.mk hm
  have i0:¬ (m:Int)<0:=by omega
  have i1:decide ((m:Int)<0)=false:=decide_eq_false (by omega);by_cases h0:m=0
  · subst h0
    go_enter Try.func121,Try.ntmps121
    go_wp2
    go_ret
    exact ⟨_,_,rfl,Kd.N_nil _ _ _ _ _,Below.refl _ _⟩
  · have i2:decide ((m:Int) > 0)=true:=decide_eq_true (by omega)
    have i3:decide ((0:Int)<(m:Int))=true:=decide_eq_true (by omega)
    have i4:(0:Int)<(m:Int):=by omega
    have i5:(m:Int)≤1000000:=by omega
    clear h0 hm
    go_enter Try.func121,Try.ntmps121
    go_wp2_with (first
      |(at_builtin;refine Kd.N_append_zeros KT (w0:=w) w.heap.size rfl (.tmp 20) (.tmp 21) 50 3 69 ZT 80 rfl Try.underlying50 Try.underlying3 info69 rfl (by decide) (by omega) (.slice none 0 0) ([]:List T) z69 (m:Int) (fun k=>w.heap.size≤k) rfl rfl (FK_zero _) (fun _ hk=>hk) (Kd.N_nil _ _ _ _ _) (by omega) (Below.refl _ _) (Nat.le_refl _) ?c3 ?_;(case c3=>have:=HM.out;simp;omega);intro v7 w7 ho hb hg hat;obtain ⟨A7,c7,aC⟩:=Kd.N_slice ho;subst aC;have aB:=Xa.mk ho;have aA:=Xa.mk hb;clear ho hb hg hat))
    go_ret
    exact ⟨_,_,rfl,by simpa using Kd.N_take (m:=0) aB.out (Nat.zero_le _),aA.out⟩
def Cnt (n0 n1:Nat) (v3 v11:Value):Prop:=(v3=.int .i64 0∧v11=.int .i64 0)∨(v3=.int .i64 (n0:Int)∧v11=.int .i64 1)∨(v3=.int .i64 ((n0+n1:Nat):Int)∧v11=.int .i64 2)
def Row3 (w:World) (P0 P1:Nat→Prop) (l:List T) (v6:Value) (wr:World):Prop:=∃ (A:Option Addr) (c:Nat),v6=.slice A l.length c∧Kd.N KT 69 wr w.heap.size (fun k=>(P0 k∨P1 k)∨w.heap.size≤k) (.slice A l.length c) l∧Below w.heap.size w wr
def App (w:World) (P0 P1:Nat→Prop) (l0 l1:List T) (v6 v27:Value) (wr:World):Prop:=
  (Row3 w P0 P1 [] v6 wr∧v27=.int .i64 0)∨(Row3 w P0 P1 l0 v6 wr∧v27=.int .i64 1)∨(Row3 w P0 P1 (l0 ++ l1) v6 wr∧v27=.int .i64 2)
theorem concatStmt (P0 P1:Nat→Prop) (A0:Option Addr) (c0:Nat) (l0:List T) (A1:Option Addr) (c1:Nat) (l1:List T) (q cq:Nat) (w:World)
    (hs0:Kd.V KT 69 w w.heap.size P0 (.slice A0 l0.length c0) l0) (hs1:Kd.V KT 69 w w.heap.size P1 (.slice A1 l1.length c1) l1) (hq0:w.cell? ⟨q,0,none⟩=some (.slice A0 l0.length c0)) (hq1:w.cell? ⟨q,1,none⟩=some (.slice A1 l1.length c1)) (hl0:l0.length≤400000) (hl1:l1.length≤400000) :
    Calls Try.prog 120 #[.slice (some ⟨q,0,none⟩) 2 cq] w fun e w'=>∃ (A:Option Addr) (c:Nat),e=.returned (.slice A (l0 ++ l1).length c)∧Kd.N KT 69 w' w.heap.size (fun k=>(P0 k∨P1 k)∨w.heap.size≤k) (.slice A (l0 ++ l1).length c) (l0 ++ l1)∧Below w.heap.size w w':=by
  have aD:=Xa.mk hl0;have aF:=Xa.mk hl1;have aG:=Xa.mk hs0;have aH:=Xa.mk hs1
  have i0:(l0.length:Int)≤400000:=by omega
  have i1:(l1.length:Int)≤400000:=by omega
  have i2:(0:Int)≤(l0.length:Int):=by omega
  have i3:(0:Int)≤(l1.length:Int):=by omega
  clear hl0 hl1 hs0 hs1
  go_enter Try.func120,Try.ntmps120
  go_wp2
  go_loop [3,11] (fun v3 v11=>Cnt l0.length l1.length v3 v11) (fun _ v11=>2 - (intOf v11).toNat)
  case atStart=>exact .inl ⟨rfl,rfl⟩
  case round=>
    rcases hrel with ⟨rfl,rfl⟩|⟨rfl,rfl⟩|⟨rfl,rfl⟩
    · go_wp2
      go_round
      case rel=>exact .inr (.inl ⟨by go_num,rfl⟩)
      case measure=>simp [intOf]
    · have e:((l0.length+l1.length:Nat):Int)=(l0.length:Int)+(l1.length:Int):=by omega
      have E:=Lib.hid e;clear e;go_wp2
      go_round
      case rel=>exact .inr (.inr ⟨by rw [E.out],rfl⟩)
      case measure=>simp [intOf]
    · have e:((l0.length+l1.length:Nat):Int)≤800000:=by omega
      have e2:(0:Int)≤((l0.length+l1.length:Nat):Int):=by omega
      go_wp2_with (first|(go_at_call 121;refine (growStmt _ (by have:=aD.out;have:=aF.out;omega) _).mono ?_;rintro e_ w1 ⟨A,c,rfl,hn,hb⟩;have HN:=Xa.mk hn;have HB1:=Xa.mk hb;clear hn hb))
      clear e e2
      go_loopw [6,27] (fun v6 v27 wr=>App w P0 P1 l0 l1 v6 v27 wr) (fun _ v27 _=>2 - (intOf v27).toNat)
      case atStart=>exact .inl ⟨⟨A,c,rfl,Kd.N_mono HN.out (fun k hk=>.inr hk),HB1.out⟩,rfl⟩
      case round=>
        rcases hrel with ⟨⟨A2,c2,rfl,hn,hb⟩,rfl⟩|⟨⟨A2,c2,rfl,hn,hb⟩,rfl⟩|⟨⟨A2,c2,rfl,hn,hb⟩,rfl⟩
        all_goals (have q0:=Xc hb hq0;have q1:=Xc hb hq1;have HO:=Xa.mk hn;have HB:=Xa.mk hb;clear hn hb)
        · go_wp2_with (first
        |(at_builtin;refine Kd.N_append_rows KT (w0:=w) w.heap.size rfl (.tmp 31) (.tmp 32) 50 69 ZT 80 rfl Try.underlying50 info69 rfl (by decide) (by omega) (.slice A2 ([]:List T).length c2) [] l0 _ _ _ (fun k=>(P0 k∨P1 k)∨w.heap.size≤k) (fun k=>((P0 k∨P1 k)∨w.heap.size≤k)∧some k≠(.slice A2 ([]:List T).length c2:Value).ownBlock) rfl rfl HO.out ?c1 (fun _ hk=>hk) ?c2 HB.out HB.out.size ?c3 ?_;(case c1=>exact Kd.F_mono (Kd.F_old (Kd.V_F aG.out) HB.out) (fun k hk=>⟨.inl (.inl hk.1),fun e=>by have:=Kd.N_base HO.out k e.symm;have:=hk.2;omega⟩));(case c2=>exact fun k hk=>.inr (Nat.le_trans HB.out.size hk));(case c3=>have:=aD.out;have:=aF.out;simp;omega);intro v7 w7 ho hb hg hat;obtain ⟨A7,c7,aC⟩:=Kd.N_slice ho;subst aC;have aB:=Xa.mk ho;have aA:=Xa.mk hb;clear ho hb hg hat))
          go_roundw
          case rel=>exact .inr (.inl ⟨⟨A7,c7,rfl,by simpa using aB.out,aA.out⟩,rfl⟩)
          case measure=>simp [intOf]
        · go_wp2_with (first
        |(at_builtin;refine Kd.N_append_rows KT (w0:=w) w.heap.size rfl (.tmp 31) (.tmp 32) 50 69 ZT 80 rfl Try.underlying50 info69 rfl (by decide) (by omega) (.slice A2 l0.length c2) l0 l1 _ _ _ (fun k=>(P0 k∨P1 k)∨w.heap.size≤k) (fun k=>((P0 k∨P1 k)∨w.heap.size≤k)∧some k≠(.slice A2 l0.length c2:Value).ownBlock) rfl rfl HO.out ?c1 (fun _ hk=>hk) ?c2 HB.out HB.out.size ?c3 ?_;(case c1=>exact Kd.F_mono (Kd.F_old (Kd.V_F aH.out) HB.out) (fun k hk=>⟨.inl (.inr hk.1),fun e=>by have:=Kd.N_base HO.out k e.symm;have:=hk.2;omega⟩));(case c2=>exact fun k hk=>.inr (Nat.le_trans HB.out.size hk));(case c3=>have:=aD.out;have:=aF.out;simp;omega);intro v7 w7 ho hb hg hat;obtain ⟨A7,c7,aC⟩:=Kd.N_slice ho;subst aC;have aB:=Xa.mk ho;have aA:=Xa.mk hb;clear ho hb hg hat))
          go_roundw
          case rel=>exact .inr (.inr ⟨⟨A7,c7,by rw [List.length_append],aB.out,aA.out⟩,rfl⟩)
          case measure=>simp [intOf]
        · go_wp2
          go_ret
          exact ⟨_,_,rfl,HO.out,HB.out⟩
end Go.Proofs.Ytlhogkfmdnpmkaa.Mean
namespace Go.Proofs.Ytlhogkfmdnpmkaa.Evt
open Go.RowKit Go.Proofs.YtlhogkfmdnpmkaaW.PrintWords Go.Proofs.YtlhogkfmdnpmkaaW.PrintMore
def Evt {α:Type} (g:Nat→Option α) (v:α):Prop:=∃ k0,∀ k,k0≤k→g k=some v
variable {α β:Type}
theorem Evt.pure (v:α):Evt (fun _=>some v) v:=⟨0,fun _ _=>rfl⟩
theorem Evt.of_eq {g:Nat→Option α} {v:α} (h:∀ k,g k=some v):Evt g v:=⟨0,fun k _=>h k⟩
theorem Evt.bind {g:Nat→Option α} {h:Nat→α→Option β} {v:α} {u:β} (hg:Evt g v) (hh:Evt (fun k=>h k v) u):Evt (fun k=>(g k).bind (h k)) u:=by
  obtain ⟨k0,h0⟩:=hg;obtain ⟨k1,h1⟩:=hh;refine ⟨max k0 k1,fun k hk=>?_⟩
  show (g k).bind (h k)=some u
  rw [h0 k (by omega)];exact h1 k (by omega)
theorem Evt.step {g:Nat→Option α} {v:α} (h:Evt (fun k=>g (k+1)) v):Evt g v:=by
  obtain ⟨k0,h0⟩:=h;refine ⟨k0+1,fun k hk=>?_⟩
  obtain ⟨k',rfl⟩:∃ k',k=k'+1:=⟨k - 1,by omega⟩;exact h0 k' (by omega)
theorem Evt.congr {g g':Nat→Option α} {v:α} (h:Evt g v) (e:∀ k,g' k=g k):Evt g' v:=by
  obtain ⟨k0,h0⟩:=h;exact ⟨k0,fun k hk=>(e k).trans (h0 k hk)⟩
theorem Evt.get {g:Nat→Option α} {v:α} (h:Evt g v):∃ k,g k=some v:=by
  obtain ⟨k0,h0⟩:=h;exact ⟨k0,h0 k0 (Nat.le_refl _)⟩
theorem Evt.pos {c:Prop} [Decidable c] {g h:Nat→Option α} {v:α} (hc:c) (hg:Evt g v):Evt (fun k=>if c then g k else h k) v:=hg.congr (fun _=>if_pos hc)
theorem Evt.neg {c:Prop} [Decidable c] {g h:Nat→Option α} {v:α} (hc:¬c) (hh:Evt h v):Evt (fun k=>if c then g k else h k) v:=hh.congr (fun _=>if_neg hc)
theorem w64 {n:Int} (h1:-9223372036854775808≤n) (h2:n≤9223372036854775807):wrap64 n=n:=by unfold wrap64;omega
theorem w64s {n:Int} (h1:0≤n) (h2:n≤4611686018427387904):wrap64 (n+1)=n+1:=w64 (by omega) (by omega)
theorem w64n (j:Nat) (h:j≤4611686018427387903):wrap64 ((j:Int)+1)=((j+1:Nat):Int):=by rw [w64s (by omega) (by omega)];omega
theorem getD_mem {l:List α} {i:Nat} (d:α) (h:i<l.length):l.getD i d ∈ l:=by
  rw [List.getD_eq_getElem?_getD,List.getElem?_eq_getElem h];exact List.getElem_mem h
theorem rd_nat (l:List Int) (i:Nat):rd l (i:Int)=l.getD i 0:=by unfold rd;simp
end Go.Proofs.Ytlhogkfmdnpmkaa.Evt
set_option linter.unusedVariables false
namespace Go.Proofs.Ytlhogkfmdnpmkaa.Mean
open Go.RowKit Go.Proofs.Ytlhogkfmdnpmkaa.GWhole Go.Proofs.YtlhogkfmdnpmkaaW.PrintWords Go.Proofs.YtlhogkfmdnpmkaaW.PrintMore Go.Proofs.Ytlhogkfmdnpmkaa.Evt
def Small:Nat→List S69→Prop
  |0,l=>l=[]
  |d+1,l=>l.length≤1000000∧∀ t ∈ l,Small d t.f4∧Small d t.f5
theorem copy_loop (d:Nat) {l:List S69} (hl:l.length≤1000000) (each:∀ t ∈ l,Evt (fun k=>Ya.f k t.f4) t.f4∧Evt (fun k=>Ya.f k t.f5) t.f5) :
    ∀ (n i:Nat),i+n=l.length→Evt (fun k=>Ya.l0 k (l.take i) l (l.length:Int) (i:Int)) l
  |0,i,h=>by
    refine Evt.step ?_
    simp only [Ya.l0];refine Evt.neg (by omega) ?_
    rw [List.take_of_length_le (by omega)];exact Evt.pure _
  |n+1,i,h=>by
    have hi:i<l.length:=by omega
    refine Evt.step ?_
    simp only [Ya.l0];refine Evt.pos (by omega) (Evt.pos (by omega) (Evt.pos (by omega) ?_))
    have hr:Xd l (i:Int)=l[i]:=by unfold Xd;simp [List.getD_eq_getElem?_getD,hi]
    have he:=each l[i] (List.getElem_mem hi);rw [hr];refine Evt.bind he.1 (Evt.bind he.2 (Evt.pos (by rw [List.length_take];omega) ?_))
    have ht:l.take i ++ [(⟨l[i].f0,l[i].f1,l[i].f2,l[i].f3,l[i].f4,l[i].f5⟩:S69)]=l.take (i+1):=by
      rw [List.take_succ_eq_append_getElem hi]
      cases l[i];rfl
    rw [ht,w64n i (by omega)];exact copy_loop d hl each n (i+1) (by omega)
theorem copy_is:∀ (d:Nat) (l:List S69),Small d l→Evt (fun k=>Ya.f k l) l
  |0,l,h=>by
    have h':l=[]:=h;subst h';refine Evt.step ?_
    simp only [Ya.f];exact copy_loop 0 (by simp) (fun t ht=>by simp at ht) 0 0 rfl
  |d+1,l,h=>by
    refine Evt.step ?_
    simp only [Ya.f];exact copy_loop d h.1 (fun t ht=>⟨copy_is d _ (h.2 t ht).1,copy_is d _ (h.2 t ht).2⟩) l.length 0 (by omega)
end Go.Proofs.Ytlhogkfmdnpmkaa.Mean
