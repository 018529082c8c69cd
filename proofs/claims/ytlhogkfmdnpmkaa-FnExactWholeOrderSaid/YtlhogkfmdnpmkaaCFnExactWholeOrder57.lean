import Derived.Test.YtlhogkfmdnpmkaaCFnExactWholeOrder55
import Derived.Test.YtlhogkfmdnpmkaaCFnExactWholeOrder29
set_option maxHeartbeats 16000000
set_option maxRecDepth 100000
set_option linter.unusedVariables false
set_option linter.unusedSimpArgs false
namespace Go.Proofs.Ytlhogkfmdnpmkaa.Mean
open Go.RowKit Go.Proofs.Ytlhogkfmdnpmkaa.GWhole Go.Proofs.YtlhogkfmdnpmkaaW.PrintWords Go.Proofs.YtlhogkfmdnpmkaaW.PrintLast Go.Proofs.YtlhogkfmdnpmkaaW.PrintMore
open Go.Proofs.Ytlhogkfmdnpmkaa.StmtOk
def okList (l:List T):Bool:=l.all (fun t=>Yf.st 3 t (-1)) && decide (wrap64 (Xu.cnt 3 l:Int)≤14)
def progOk (l:List (List T)):Bool:=decide (1≤l.length) && decide (l.length≤3) && l.all okList
theorem prog_pred (l:List T) (A:Option Addr) (c:Nat) (W:World) (hC:Kd.C k69 W A l.length l) (hl:l.length≤c) :
    Calls Try.prog 59 #[.slice A l.length c] W fun x W'=>x=.returned (.bool (!okList l))∧Below W.heap.size W W':=by
  have X:=Lib.hid (impl_StmtsOk.calls A c l (okList l) W hC hl rfl)
  clear hC hl
  generalize okList l=q at *
  go_enter Try.func59,Try.ntmps59
  go_wp2_with (first|(go_at_call 60;refine (X.out).mono ?_;rintro e w1 ⟨rfl,aB⟩))
  go_ret
  exact ⟨rfl,aB⟩
theorem idx_take2 (p:List T→Bool) (l:List (List T)) (i:Nat) (h:i<l.length):(l.take (i+1)).any p=((l.take i).any p||p l[i]):=by
  rw [List.take_succ_eq_append_getElem h,List.any_append]
  simp
theorem prog_index (l:List (List T)) (A:Option Addr) (c:Nat) (w:World) (hC:Kd.C (Kd.slice 69 k69) w A l.length l) (hlc:l.length≤c) (hlen:l.length≤1000) :
    Calls Try.prog 67 #[.slice A l.length c,.func (.func 59) #[] #[]] w fun x w'=>∃ m:Int,x=.returned (.int .i64 m)∧decide (m ≥ 0)=l.any (fun x=>!okList x)∧Below w.heap.size w w':=by
  have HC:=Xa.mk hC
  have HL:=Xa.mk hlen
  clear hC hlen
  have HB:=Xa.mk (Below.refl w.heap.size w)
  go_enter Try.func67,Try.ntmps67
  go_wp2
  go_loopw [8] (fun v8 w'=>∃ (i:Nat),v8=.int .i64 (i:Int)∧Xa (i≤l.length)∧Xa ((l.take i).any (fun x=>!okList x)=false)∧Xa (Below w.heap.size w w')) (fun v8 _=>l.length - (intOf v8).toNat)
  case atStart=>exact ⟨0,rfl,⟨Nat.zero_le _⟩,⟨by simp⟩,HB⟩
  case round=>
    clear HB
    obtain ⟨i,rfl,Hi,HN,HB⟩:=hrel
    by_cases hlt:i<l.length
    · have Hlt:=Xa.mk hlt
      have hd1:decide ((i:Int)<(l.length:Int))=true:=decide_eq_true (by omega)
      have p0:0≤(i:Int):=by omega
      have q0:(i:Int)<(l.length:Int):=by omega
      obtain ⟨ad,A4,c4,e,hx0,hl4,hi4⟩:=at_L4 (Kd.Xr HC.out HB.out) (i:Int) p0 q0
      subst e
      have hrd:rd_L4 l (i:Int)=l[i]:=by unfold rd_L4;simp [List.getD_eq_getElem?_getD,hlt]
      rw [hrd] at hx0 hl4 hi4
      have hstep:=idx_take2 (fun x=>!okList x) l i hlt
      rw [HN.out,Bool.false_or] at hstep
      clear HN
      have X:=Lib.hid (prog_pred l[i] A4 c4 _ hi4 hl4)
      try simp only [] at hstep
      generalize (!okList l[i])=q at *
      generalize l[i]=s at *
      have Hstep:=Xa.mk hstep
      simp only [Int.toNat_natCast] at hx0
      replace p0:=eq_true p0
      replace q0:=eq_true q0
      have hjw:IntKind.i64.wrap ((i:Int)+1)=((i+1:Nat):Int):=by have:=HL.out;have:=Hlt.out;rw [IntKind.wrap_i64];omega
      clear hstep hlt hrd hl4 hi4
      go_wp2_with (fail)
      refine (X.out).mono ?_
      rintro e w1 ⟨rfl,aB⟩
      have HB1:=Xa.mk (Xe HB.out aB)
      clear HB aB hx0 X
      have HB:=HB1
      clear HB1
      cases q
      · go_wp2
        go_roundw
        case measure=>have:=Hlt.out;simp [intOf];omega
        case rel=>exact ⟨i+1,by simp,⟨Hlt.out⟩,⟨Hstep.out⟩,HB⟩
      · go_wp2
        go_ret
        refine ⟨_,rfl,?_,HB.out⟩
        rw [show l.any (fun x=>!okList x)=true from by have:=Hstep.out;rw [List.any_eq_true] at this ⊢;obtain ⟨x,hx,hq⟩:=this;exact ⟨x,List.mem_of_mem_take hx,hq⟩]
        exact decide_eq_true (by omega)
    · have hi:i=l.length:=by have:=Hi.out;omega
      subst hi
      have hn:l.any (fun x=>!okList x)=false:=by have:=HN.out;rwa [List.take_of_length_le (Nat.le_refl _)] at this
      have Hn:=Xa.mk hn
      clear hlt hn HN Hi
      go_wp2
      go_ret
      exact ⟨_,rfl,Hn.out.symm ▸ rfl,HB.out⟩
theorem prog_contains (l:List (List T)) (A:Option Addr) (c:Nat) (w:World) (hC:Kd.C (Kd.slice 69 k69) w A l.length l) (hlc:l.length≤c) (hlen:l.length≤1000) :
    Calls Try.prog 58 #[.slice A l.length c,.func (.func 59) #[] #[]] w fun x w'=>x=.returned (.bool (l.any (fun x=>!okList x)))∧Below w.heap.size w w':=by
  have X:=Lib.hid (prog_index l A c w hC hlc hlen)
  clear hC
  generalize (l.any (fun x=>!okList x))=q at *
  go_enter Try.func58,Try.ntmps58
  go_wp2_with (fail)
  refine (X.out).mono ?_
  rintro e w1 ⟨m,rfl,hm,hb⟩
  have HB:=Xa.mk hb
  clear hb
  go_wp2
  go_ret
  exact ⟨rfl,HB.out⟩
theorem any_all2:∀ (l:List (List T)),(!(l.any (fun t=>!okList t)))=l.all okList
  |[]=>rfl
  |x :: r=>by rw [List.any_cons,List.all_cons,← any_all2 r];cases okList x <;> simp
theorem progOk_do (l:List (List T)) (A:Option Addr) (c:Nat) (w:World) (hC:Kd.C (Kd.slice 69 k69) w A l.length l) (hlc:l.length≤c) :
    Calls Try.prog 40 #[.slice A l.length c] w fun x w'=>x=.returned (.bool (progOk l))∧Below w.heap.size w w':=by
  have h63:=hC.2.1
  by_cases h1:1≤l.length
  · by_cases h3:l.length≤3
    · have X:=Lib.hid (prog_contains l A c w hC hlc (by omega))
      have e:progOk l = !(l.any (fun t=>!okList t)):=by unfold progOk;rw [decide_eq_true h1,decide_eq_true h3,any_all2];rfl
      rw [e]
      have d1:decide ((l.length:Int) ≥ 1)=true:=decide_eq_true (by omega)
      have d2:decide ((1:Int)≤(l.length:Int))=true:=decide_eq_true (by omega)
      have d3:decide ((l.length:Int)≤3)=true:=decide_eq_true (by omega)
      have i1:(1:Int)≤(l.length:Int):=by omega
      have i3:(l.length:Int)≤3:=by omega
      clear hC e
      generalize (l.any (fun x=>!okList x))=q at *
      go_enter Try.func40,Try.ntmps40
      go_wp2_with (first|(go_at_call 58;refine (X.out).mono ?_;rintro e w1 ⟨rfl,aB⟩))
      go_ret
      exact ⟨rfl,aB⟩
    · have e:progOk l=false:=by unfold progOk;rw [decide_eq_false h3];simp
      rw [e]
      have d1:decide ((l.length:Int) ≥ 1)=true:=decide_eq_true (by omega)
      have d2:decide ((1:Int)≤(l.length:Int))=true:=decide_eq_true (by omega)
      have d3:decide ((l.length:Int)≤3)=false:=decide_eq_false (by omega)
      have i1:(1:Int)≤(l.length:Int):=by omega
      have i3:¬ (l.length:Int)≤3:=by omega
      clear hC e
      go_enter Try.func40,Try.ntmps40
      go_wp2
      go_ret
      exact ⟨rfl,Below.refl _ _⟩
  · have e:progOk l=false:=by unfold progOk;rw [decide_eq_false h1];simp
    rw [e]
    have d1:decide ((l.length:Int) ≥ 1)=false:=decide_eq_false (by omega)
    have d2:decide ((1:Int)≤(l.length:Int))=false:=decide_eq_false (by omega)
    have i1:¬ (1:Int)≤(l.length:Int):=by omega
    clear hC e
    go_enter Try.func40,Try.ntmps40
    go_wp2
    go_ret
    exact ⟨rfl,Below.refl _ _⟩
theorem playable_do (l:List (List T)) (A:Option Addr) (c:Nat) (n c1:Nat) (A1:Option Addr) (w:World) (hC:Kd.C (Kd.slice 69 k69) w A l.length l) (hlc:l.length≤c) :
    Calls Try.prog 24 #[.slice A l.length c,.slice A1 n c1] w fun x w'=>x=.returned (.bool (progOk l && decide (n≤200)))∧Below w.heap.size w w':=by
  have X:=Lib.hid (progOk_do l A c w hC hlc)
  clear hC
  have d3:decide ((n:Int)≤200)=decide (n≤200):=by
    by_cases h:n≤200
    · rw [decide_eq_true h,decide_eq_true (by omega)]
    · rw [decide_eq_false h,decide_eq_false (by omega)]
  cases hq:progOk l
  · rw [hq] at X
    go_enter Try.func24,Try.ntmps24
    go_wp2_with (first|(go_at_call 40;refine (X.out).mono ?_;rintro e w1 ⟨rfl,aB⟩))
    go_ret
    exact ⟨rfl,aB⟩
  · rw [hq] at X
    go_enter Try.func24,Try.ntmps24
    go_wp2_with (first|(go_at_call 40;refine (X.out).mono ?_;rintro e w1 ⟨rfl,aB⟩))
    go_ret
    exact ⟨by first|rfl|simp,aB⟩
end Go.Proofs.Ytlhogkfmdnpmkaa.Mean
set_option linter.unusedVariables false
set_option linter.unusedSectionVars false
set_option linter.unusedSimpArgs false
namespace Go.Proofs.Ytlhogkfmdnpmkaa.Mean
open Go.RowKit Go.Proofs.Ytlhogkfmdnpmkaa.GWhole Go.Proofs.YtlhogkfmdnpmkaaW.PrintWords Go.Proofs.YtlhogkfmdnpmkaaW.PrintLast Go.Proofs.YtlhogkfmdnpmkaaW.PrintMore
variable [Prot]
def goS (p:WS × List Int) (who:Int):WS × List Int:=if code p.1 who=0 then (step p.1 who.toNat,if comes p.1 who.toNat=true then p.2 ++ [who] else p.2) else p
def whole (l:List (List T)) (picks:List Int):List Int:=if (progOk l && decide (picks.length≤200))=true then (picks.foldl goS (Uc l,[])).2 else []
theorem code_zero {s:WS} {who:Int} (h:code s who=0):∃ i:Nat,who=(i:Int)∧i<s.n∧codeN s i=0:=by
  by_cases h0:who<0∨(s.n:Int)≤who
  · have e:code s who=3:=if_pos h0
    rw [e] at h;cases h
  · obtain ⟨i,rfl⟩:=Int.eq_ofNat_of_zero_le (show 0≤who by omega)
    have e:code s (i:Int)=codeN s i:=if_neg h0
    exact ⟨i,rfl,by omega,e ▸ h⟩
theorem goS_inv {p:WS × List Int} {K:Nat} (h:Inv p.1 K) (who:Int):Inv (goS p who).1 (K+1):=by
  unfold goS
  by_cases hc:code p.1 who=0
  · rw [if_pos hc]
    obtain ⟨i,rfl,hi,hn⟩:=code_zero hc
    exact h.step hi hn
  · rw [if_neg hc];exact h.more (by omega)
theorem goS_len (p:WS × List Int) (who:Int):(goS p who).2.length≤p.2.length+1:=by
  unfold goS
  split
  · show (if _ then _ else _:List Int).length≤_
    split
    · rw [List.length_append,List.length_singleton];exact Nat.le_refl _
    · exact Nat.le_succ _
  · exact Nat.le_succ _
theorem St.out {W W9:World} {base g:Nat} {b:BK} {s:WS} {v v9:Value} (h:St W base (fun k=>base≤k∧k≠g∧some k≠v.ownBlock) b s g) (hg:W.grownBy W9 v.ownBlock) (hat:v9.ownBlock=v.ownBlock∨∃ x,v9.ownBlock=some x∧W.heap.size≤x) (hlt:∀ k,v9.ownBlock=some k→k<W9.heap.size) (hgv:some g≠v.ownBlock) :
    St W9 base (fun k=>base≤k∧k≠g∧some k≠v9.ownBlock) b s g:=by
  refine ⟨((h.at_.lt).step (fun k hk hlt=>hg.block k hlt hk.1.2.2)).mono (fun k hk=>⟨hk.1.1,hk.1.2.1,fun e=>?_⟩),(hg.block g (Yu h.wb) hgv).trans h.wb,fun k hk=>?_,fun hk=>hk.2.1 rfl⟩
  · rcases hat with e1|⟨x,e1,hle⟩
    · exact hk.1.2.2 (e1 ▸ e)
    · rw [e1] at e;injection e with e;have:=hk.2;omega
  · have h1:=h.up k (Nat.le_trans hg.size hk)
    exact ⟨h1.1,h1.2.1,fun e=>by have:=hlt k e.symm;omega⟩
theorem Left.row {W W':World} {base g:Nat} {s:WS} {v:Value} {e:TypeId} {n:Nat} {xs:List Value} (h:Left W base (fun k=>base≤k∧k≠g∧some k≠v.ownBlock) s g W') (hgv:some g≠v.ownBlock) (ho:W.ownsRow base e 1 v n xs):W'.ownsRow base e 1 v n xs:=by
  obtain ⟨b',_,o⟩:=h
  exact own_move ho (fun k hk=>o.block k (own_lt ho k hk) (fun x=>x.elim (fun y=>y.2.2 hk.symm) (fun y=>hgv (y ▸ hk.symm))))
theorem At.lower_ {W:World} {base base':Nat} {ok:Nat→Prop} {b:BK} {s:WS} (h:At W base ok b s) (hb:base'≤base) (hno:∀ k,Prot.low k=none):At W base' ok b s:=⟨h.rows.lower hb,fun i hi=>h.tree i hi,fun k o ho=>by rw [hno] at ho;cases ho⟩
theorem own_blw {W W':World} {base:Nat} {v:Value} {e:TypeId} {n:Nat} {xs:List Value} (ho:W.ownsRow base e 1 v n xs) (hb:Below W.heap.size W W'):W'.ownsRow base e 1 v n xs:=own_move ho (fun k hk=>hb.block k (own_lt ho k hk))
theorem Left.below {W W' w:World} {g:Nat} {ok:Nat→Prop} {s:WS} (h:Left W w.heap.size ok s g W') (hb:Below w.heap.size w W) (hok:∀ k,ok k→w.heap.size≤k) (hg:w.heap.size≤g):Below w.heap.size w W':=by
  obtain ⟨b',_,o⟩:=h
  exact hb.trans (o.below hb.size (fun k hk=>hk.elim (hok k) (fun e=>e ▸ hg)))
theorem whole_do (A0:Option Addr) (c0:Nat) (l0:List (List T)) (A1:Option Addr) (c1:Nat) (l1:List Int) (w:World) (hr0:Kd.C (Kd.slice 69 k69) w A0 l0.length l0) (hc0:l0.length≤c0) (hr1:Kd.C (Kd.int .i64) w A1 l1.length l1) (hc1:l1.length≤c1)
    (hinv:progOk l0=true→Inv (Uc l0) 0∧(∀ l ∈ l0,Small 4 l)) (hno:∀ k,Prot.low k=none) :
    Calls Try.prog 9 #[.slice A0 l0.length c0,.slice A1 l1.length c1] w fun e w'=>∃ v:Value,e=.returned v∧Kd.R (Kd.int .i64) 3 w' w.heap.size (fun _=>True) v (whole l0 l1)∧Below w.heap.size w w':=by
  have PL:=Lib.hid (playable_do l0 A0 c0 l1.length c1 A1 w hr0 hc0)
  by_cases hq:(progOk l0 && decide (l1.length≤200))=true
  · rw [hq] at PL
    rw [Bool.and_eq_true] at hq
    obtain ⟨hI,hS⟩:=hinv hq.1
    have hl200:l1.length≤200:=of_decide_eq_true hq.2
    have hl3:l0.length≤1000:=by
      have h3:=hI.n.2
      rw [openS_n] at h3;omega
    have eW:whole l0 l1=(l1.foldl goS (Uc l0,[])).2:=if_pos (by rw [hq.1,hq.2];rfl)
    rw [eW]
    have OP:=Lib.hid (fun (w1:World) (hb:Below w.heap.size w w1)=>opened_do A0 c0 l0 w1 (Kd.Xr hr0 hb) hc0 hl3 hS hno)
    have HR1:=Xa.mk hr1
    have HI:=Xa.mk hI
    clear hinv hr0 hr1 hI hS eW hq
    go_enter Try.func9,Try.ntmps9
    go_wp2_with (first|(go_at_call 24;refine (PL.out).mono ?_;rintro e w1 ⟨rfl,hb1⟩)|(go_at_call 25;refine (OP.out w1 hb1).mono ?_;rintro e w2 ⟨b,rfl,hA,hb2⟩;obtain ⟨bp,bc,bm,bs,bd,br,bt,bq⟩:=b;obtain ⟨P0,q0,e0⟩:∃ A c,bp=.slice A (Uc l0).n c:=Zo (hA.rows.at_ 0 _ rfl);obtain ⟨P1,q1,e1⟩:∃ A c,bc=.slice A 3 c:=Zo (hA.rows.at_ 1 _ rfl);obtain ⟨P2,q2,e2⟩:∃ A c,bm=.slice A 2 c:=Zo (hA.rows.at_ 2 _ rfl);obtain ⟨P3,q3,e3⟩:∃ A c,bs=.slice A 2 c:=Zo (hA.rows.at_ 3 _ rfl);obtain ⟨P4,q4,e4⟩:∃ A c,bd=.slice A (Uc l0).said.length c:=Zo (hA.rows.at_ 4 _ rfl);subst e0 e1 e2 e3 e4))
    have HB0:=Xa.mk (hb1.trans (hb2.mono hb1.size))
    have hA':=hA.lower_ (hb1.size) hno
    clear hA
    have hbx:=Yz w2 (.cells #[.slice P0 (Uc l0).n q0,.slice P1 3 q1,.slice P2 2 q2,.slice P3 2 q3,.slice P4 (Uc l0).said.length q4] 45)
    have hbA:=Xj (Below.refl w2.heap.size w2) (.cells #[.slice P0 (Uc l0).n q0,.slice P1 3 q1,.slice P2 2 q2,.slice P3 2 q3,.slice P4 (Uc l0).said.length q4] 45)
    have hszA:w2.heap.size<(w2.alloc (.cells #[.slice P0 (Uc l0).n q0,.slice P1 3 q1,.slice P2 2 q2,.slice P3 2 q3,.slice P4 (Uc l0).said.length q4] 45)).heap.size:=Yu hbx
    have hSt:St (w2.alloc (.cells #[.slice P0 (Uc l0).n q0,.slice P1 3 q1,.slice P2 2 q2,.slice P3 2 q3,.slice P4 (Uc l0).said.length q4] 45)) w.heap.size (fun k=>w.heap.size≤k∧k≠w2.heap.size∧some k≠(Value.slice none 0 0).ownBlock) ⟨.slice P0 (Uc l0).n q0,.slice P1 3 q1,.slice P2 2 q2,.slice P3 2 q3,.slice P4 (Uc l0).said.length q4,br,bt,bq⟩ (Uc l0) w2.heap.size:=
      ⟨(hA'.below hbA).mono (fun k hk=>⟨Nat.le_trans hb1.size hk.1,by have:=hk.2;omega,fun e=>by cases e⟩),hbx,fun k hk=>⟨by have:=HB0.out.size;omega,by omega,fun e=>by cases e⟩,fun hk=>hk.2.1 rfl⟩
    have aC:=Xa.mk hSt
    have HBG:Xa (w.heap.size≤w2.heap.size):=⟨HB0.out.size⟩
    have HBL:=Xa.mk (HB0.out.trans (hbA.mono HB0.out.size))
    clear hSt hA' hbx hbA hszA hb1 hb2 HB0 PL OP
    generalize w2.heap.size=g at *
    generalize w2.alloc (.cells #[.slice P0 (Uc l0).n q0,.slice P1 3 q1,.slice P2 2 q2,.slice P3 2 q3,.slice P4 (Uc l0).said.length q4] 45)=wL at *
    go_loopg [6,17] l1.length (fun kq v6 v17 w'=>∃ (j:Nat) (A:Option Addr) (cA:Nat) (b:BK) (p:WS × List Int),v6=.slice A p.2.length cA∧v17=.int .i64 (j:Int)∧Xa (kq+j=l1.length)∧Xa (p=(l1.take j).foldl goS (Uc l0,[]))∧Xa (Inv p.1 j)∧Xa (p.2.length≤j)∧Xa (St w' w.heap.size (fun k=>w.heap.size≤k∧k≠g∧some k≠(Value.slice A p.2.length cA).ownBlock) b p.1 g)∧Xa (w'.ownsRow w.heap.size 3 1 (.slice A p.2.length cA) p.2.length (nums .i64 p.2))∧Xa (some g≠(Value.slice A p.2.length cA).ownBlock)∧Xa (Below w.heap.size w w'))
    case atStart=>exact ⟨0,none,0,_,(Uc l0,[]),rfl,rfl,⟨by simp⟩,⟨rfl⟩,HI,⟨Nat.le_refl _⟩,aC,⟨own_nil _ _ _ _⟩,⟨fun e=>by cases e⟩,HBL⟩
    case round=>
      clear aC HBL HI
      obtain ⟨j,A,cA,b,p,rfl,rfl,HK,HP,HI,HLE,HST,HO,HGV,HB⟩:=hrel
      by_cases hj:j<l1.length
      · cases gk with
        |zero=>exact absurd HK.out (by omega)
        |succ k1=>
          have aI:decide ((j:Int)<(l1.length:Int))=true:=decide_eq_true (by omega)
          have p0:0≤(j:Int):=by omega
          have q0:(j:Int)<(l1.length:Int):=by omega
          obtain ⟨ad,eA,hx⟩:=Kd.at_int HR1.out (j:Int) p0 q0
          cases eA
          replace hx:=bw_ HB hx
          have hrd:rd l1 (j:Int)=l1[j]:=by unfold rd;simp [List.getD_eq_getElem?_getD,hj]
          have ej:((j:Int)).toNat=j:=rfl
          rw [hrd,ej] at hx
          have hwj:IntKind.i64.wrap ((j:Int)+1)=(j:Int)+1:=by rw [IntKind.wrap_i64];omega
          have HN:Xa (goS p l1[j]=(l1.take (j+1)).foldl goS (Uc l0,[])):=⟨by rw [List.take_succ_eq_append_getElem hj,List.foldl_append,← HP.out];rfl⟩
          have HI2:=Xa.mk (goS_inv HI.out l1[j])
          have HL2:Xa ((goS p l1[j]).2.length≤j+1):=⟨by have:=goS_len p l1[j];have:=HLE.out;omega⟩
          generalize l1[j]=who at *
          have HCD:=Lib.hid (code_do wr w.heap.size _ b p.1 g j HST.out HI.out who)
          clear hrd ej HP
          by_cases hcode:code p.1 who=0
          · obtain ⟨i,rfl,hi,hcn⟩:=code_zero hcode
            rw [hcode] at HCD
            have HEN:=Lib.hid (fun (w3:World) (hb:Below wr.heap.size wr w3)=>entry_do w3 w.heap.size _ b p.1 g j (HST.out.below hb) HI.out i hi hcn)
            have hgw:g<wr.heap.size:=Yu HST.out.wb
            by_cases hcm:comes p.1 i=true
            · rw [hcm] at HEN
              have eG:goS p (i:Int)=(step p.1 i,p.2 ++ [(i:Int)]):=by
                unfold goS
                rw [if_pos hcode]
                show (step p.1 i,if comes p.1 i=true then _ else _)=_
                rw [if_pos hcm]
              rw [eG] at HN HI2 HL2
              clear hcode hcm eG
              go_wp2_with (first|(go_at_call 26;refine (HCD.out).mono ?_;rintro e w3 ⟨rfl,hb3⟩)|(go_at_call 27;refine (HEN.out w3 hb3).mono ?_;rintro e w4 ⟨rfl,hb4⟩;have aA:=hb3.trans (hb4.mono hb3.size))|(at_builtin;refine print_append_num (w0:=w4) w.heap.size rfl (.tmp 26) (.tmp 28) 23 3 .i64 8 rfl Try.underlying23 info3 (by decide) (.slice A p.2.length cA) p.2 (i:Int) rfl rfl (own_blw HO.out aA) (Below.refl _ _) (Nat.le_trans HB.out.size aA.size) (by have:=HLE.out;omega) ?_;intro v9 w9 aG hbz aH aD;clear hbz;obtain ⟨A9,c9,e9⟩:=Zo aG;subst e9)|(go_at_call 28;refine (step_do w9 w.heap.size _ b p.1 g i j (St.out (HST.out.below aA) aH aD (fun k hk=>own_lt aG k hk) HGV.out) hi HI.out (by omega) hcn).mono ?_;rintro e aL ⟨rfl,hL⟩))
              have aF:some g≠(Value.slice A9 (p.2 ++ [(i:Int)]).length c9).ownBlock:=fun e=>by
                rcases aD with e1|⟨x,e1,hle⟩
                · exact HGV.out (e1 ▸ e)
                · rw [e1] at e;injection e with e;have:=aA.size;omega
              have hrow:=Left.row hL aF aG
              have aK:Below w.heap.size w w9:=Below.grown (HB.out.trans (aA.mono HB.out.size)) aH (Nat.le_trans HB.out.size aA.size) (fun k hk=>Ut HO.out k hk)
              have hbl:=Left.below hL aK (fun k hk=>hk.1) HBG.out
              obtain ⟨b',hS',aJ⟩:=hL
              go_roundg k1
              case measure=>omega
              case rel=>exact ⟨j+1,A9,c9,b',(step p.1 i,p.2 ++ [(i:Int)]),(by show Value.slice A9 (p.2.length+1) c9=Value.slice A9 (p.2 ++ [(i:Int)]).length c9;rw [List.length_append,List.length_singleton]),rfl,⟨by have:=HK.out;omega⟩,HN,HI2,HL2,⟨hS'⟩,⟨hrow⟩,⟨aF⟩,⟨hbl⟩⟩
            · have hcm':comes p.1 i=false:=by simpa using hcm
              rw [hcm'] at HEN
              have eG:goS p (i:Int)=(step p.1 i,p.2):=by
                unfold goS
                rw [if_pos hcode]
                show (step p.1 i,if comes p.1 i=true then _ else _)=_
                rw [if_neg hcm]
              rw [eG] at HN HI2 HL2
              clear hcode hcm hcm' eG
              go_wp2_with (first|(go_at_call 26;refine (HCD.out).mono ?_;rintro e w3 ⟨rfl,hb3⟩)|(go_at_call 27;refine (HEN.out w3 hb3).mono ?_;rintro e w4 ⟨rfl,hb4⟩;have aA:=hb3.trans (hb4.mono hb3.size))|(go_at_call 28;refine (step_do w4 w.heap.size _ b p.1 g i j (HST.out.below aA) hi HI.out (by omega) hcn).mono ?_;rintro e aL ⟨rfl,hL⟩))
              have hrow:=Left.row hL HGV.out (own_blw HO.out aA)
              have hbl:=Left.below hL (HB.out.trans (aA.mono HB.out.size)) (fun k hk=>hk.1) HBG.out
              obtain ⟨b',hS',aJ⟩:=hL
              go_roundg k1
              case measure=>omega
              case rel=>exact ⟨j+1,A,cA,b',(step p.1 i,p.2),rfl,rfl,⟨by have:=HK.out;omega⟩,HN,HI2,HL2,⟨hS'⟩,⟨hrow⟩,HGV,⟨hbl⟩⟩
          · have eG:goS p who=p:=if_neg hcode
            rw [eG] at HN HI2 HL2
            have z1:(code p.1 who != 0)=true:=by simpa using hcode
            have z2:(code p.1 who == 0)=false:=by simpa using hcode
            clear hcode eG
            generalize code p.1 who=cd at *
            go_wp2_with (first|(go_at_call 26;refine (HCD.out).mono ?_;rintro e w3 ⟨rfl,hb3⟩))
            go_roundg k1
            case measure=>omega
            case rel=>exact ⟨j+1,A,cA,b,p,rfl,rfl,⟨by have:=HK.out;omega⟩,HN,HI2,HL2,⟨HST.out.below hb3⟩,⟨own_blw HO.out hb3⟩,HGV,⟨HB.out.trans (hb3.mono HB.out.size)⟩⟩
      · have hjl:j=l1.length:=by have:=HK.out;omega
        have aI:decide ((j:Int)<(l1.length:Int))=false:=decide_eq_false (by omega)
        have eP:(l1.foldl goS (Uc l0,[])).2=p.2:=by rw [HP.out,hjl,List.take_length]
        have EP:=Xa.mk eP
        have c2b:decide (j<l1.length)=false:=decide_eq_false (by omega)
        clear eP hjl HI HP
        go_wp2
        go_ret
        refine ⟨_,rfl,?_,HB.out⟩
        rw [EP.out]
        exact Kd.R_of_own HO.out (fun _ _=>trivial)
  · have eW:whole l0 l1=[]:=if_neg hq
    rw [eW]
    have hq':(progOk l0 && decide (l1.length≤200))=false:=by simpa using hq
    rw [hq'] at PL
    clear hinv hr0 hr1 hq hq' eW
    go_enter Try.func9,Try.ntmps9
    go_wp2_with (first|(go_at_call 24;refine (PL.out).mono ?_;rintro e w1 ⟨rfl,hb1⟩))
    go_ret
    exact ⟨_,rfl,Kd.R_nil _ _ _ _ _,hb1⟩
end Go.Proofs.Ytlhogkfmdnpmkaa.Mean
