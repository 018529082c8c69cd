import Derived.Test.YtlhogkfmdnpmkaaCFnExactWholeOrder38
import Derived.Test.YtlhogkfmdnpmkaaCFnExactWholeOrder21
import Derived.Laws.EntriesVeiled
set_option maxHeartbeats 8000000
set_option maxRecDepth 100000
set_option linter.unusedVariables false
set_option linter.unusedSectionVars false
set_option linter.unusedSimpArgs false
namespace Go.Proofs.Ytlhogkfmdnpmkaa.Mean
open Go.RowKit Go.Proofs.Ytlhogkfmdnpmkaa.GWhole Go.Proofs.YtlhogkfmdnpmkaaW.PrintWords Go.Proofs.YtlhogkfmdnpmkaaW.PrintLast Go.Proofs.YtlhogkfmdnpmkaaW.PrintMore
variable [Prot]
theorem INS1 {W w1 w2:World} {ok:Nat→Prop} {v:Value} {l:List T} (h:Kd.R KT 69 w1 W.heap.size ok v l) (hb:Below w1.heap.size w1 w2):Kd.V KT 69 w2 w2.heap.size (fun k=>W.heap.size≤k) v l:=
  Kd.V_below (Kd.R_V (Kd.Yw (Kd.R_bound h) (fun k hk=>hk.2.1))) hb
theorem INS2 {W w1 w2:World} {base:Nat} {ok:Nat→Prop} {v:Value} {l:List T} (h:Kd.V KT 69 W base ok v l) (hb:Below W.heap.size W w1) (hb2:Below w1.heap.size w1 w2):Kd.V KT 69 w2 w2.heap.size ok v l:=
  show Kd.V KT 69 w2 base ok v l from Kd.V_below (Kd.V_below h hb) hb2
theorem INS3 {W w1 w2 w3:World} {P:Nat} (h1:Below W.heap.size W w1) (h2:Below w1.heap.size w1 w2) (h3:Below w2.heap.size w2 w3) (hP:P<W.heap.size):w3.heap[P]?=W.heap[P]?:=
  ((h3.block P (by have:=h1.size;have:=h2.size;omega)).trans (h2.block P (by have:=h1.size;omega))).trans (h1.block P hP)
theorem insert_do (W0:World) (base:Nat) (ok:Nat→Prop) (b:BK) (s:WS) (g i P cp:Nat) (l:List T) (A:Option Addr) (c d:Nat) (h:St W0 base ok b s g) (hi:i<s.n) (hP:b.p=.slice (some ⟨P,0,none⟩) s.n cp)
    (hC:Kd.C KT W0 A l.length l) (hlc:l.length≤c) (hsm:Small d l) (hl1:l.length≤400000) (hl2:(s.proc i).todo.length≤400000) :
    Calls Try.prog 105 #[.pointer (some ⟨P,i * 5,none⟩),.slice A l.length c] W0 fun e W'=>e=.returned (.tuple #[])∧Left W0 base ok (doTodo s i l) g W':=by
  obtain ⟨k,hk⟩:=(copy_is d l hsm).get
  go_enter Try.func105,Try.ntmps105
  have hWW:Below W0.heap.size W0 W0.drew:=Xl (Below.refl _ _);have h5:=h.below hWW;have HP:=h5.at_.Yj (by omega) hP;obtain ⟨A2,c2,ht2,aC,hF2⟩:=h5.at_.tree i hi;have p1:=HP.cell i 1 hi (by omega)
  simp [Yr] at p1
  rw [ht2] at p1;have aB:Xa (W0.drew.cell? ⟨P,i * 5+1,none⟩=some (.slice A2 (s.proc i).todo.length c2)):=⟨p1⟩;have HC:Xa (Kd.C KT W0.drew A l.length l):=⟨Kd.Xr hC hWW⟩;have HLC:=Xa.mk hlc;have HK:=Xa.mk hk;have aG:=Xa.mk hl1;have HL2:=Xa.mk hl2;have HT:Xa (Kd.V KT 69 W0.drew base (fun k=>ok k∧free (lay b s) k) (.slice A2 (s.proc i).todo.length c2) (s.proc i).todo):=⟨⟨A2,c2,rfl,aC,hF2⟩⟩;have HPF:Xa (W0.drew.frozen? ⟨P,i * 5+1,none⟩=false):=⟨HP.free_ _⟩;have HPL:Xa (P<W0.drew.heap.size):=⟨HP.lt⟩;have H5:=Xa.mk h5;have HPV:=Xa.mk hP;have HWW:=Xa.mk hWW;have HUP:=Xa.mk h.up;have HI:=Xa.mk hi;clear h5 HP ht2 aC hF2 p1 hC hlc hk hl1 hl2 hP hWW h hsm hi;refine start_ (n:=12) (S:=fun w'=>w'.cell? ⟨P,i * 5+1,none⟩=some (.slice A2 (s.proc i).todo.length c2)) (ds:=[11]) #[false,false,false,false,false,false,false,false,false,false,false,false] (by kernel_rfl) rfl (by rfl) aB.out (fun hHeld=>?_)
  refine Xp (i:=0) (N:=some 4) (v:=?_) (a':=?_) #[true,false,false,false,false,false,false,false,false,false,false,false] rfl rfl (by kernel_rfl) (fun _ _ _ h=>h) (Or.inl ⟨by rfl,?_⟩) ?_ ?_
  rotate_left
  · exact wr_
  rotate_left
  · exact ap_
  refine Xp (i:=1) (N:=some 5) (v:=?_) (a':=?_) #[true,true,false,false,false,false,false,false,false,false,false,false] rfl rfl (by kernel_rfl) (fun _ _ _ h=>h) (Or.inl ⟨by rfl,?_⟩) ?_ ?_
  rotate_left
  · exact wr_
  rotate_left
  · exact ap_
  refine Xp (i:=3) (N:=some 7) (v:=?_) (a':=?_) #[true,true,false,true,false,false,false,false,false,false,false,false] rfl rfl (by kernel_rfl) (fun _ _ _ h=>h) (Or.inl ⟨by rfl,?_⟩) ?_ ?_
  rotate_left
  · exact wr_
  rotate_left
  · exact ap_
  refine Xp (i:=4) (N:=some 8) (v:=?_) (a':=?_) #[true,true,false,true,true,false,false,false,false,false,false,false] rfl rfl (by kernel_rfl) (fun _ _ _ h=>h) (Or.inl ⟨by rfl,?_⟩) ?_ ?_
  rotate_left
  · exact wr_
  rotate_left
  · exact ap_
  refine Xp (i:=5) (N:=some 9) (v:=?_) (a':=?_) #[true,true,false,true,true,true,false,false,false,false,false,false] rfl rfl (by kernel_rfl) (fun _ _ _ h=>h) (Or.inl ⟨by rfl,?_⟩) ?_ ?_
  rotate_left
  · exact wr_
  rotate_left
  · exact ap_
  refine Zp (i:=6) (N:=some 10) (v:=?_) (a':=?_) #[true,true,false,true,true,true,true,false,false,false,false,false] rfl rfl (by kernel_rfl) (fun _ _ _ h=>h) (Or.inl ⟨by rfl,?_⟩) hHeld ?_ ?_
  rotate_left
  · rintro w' s0
    go_simp
    with_reducible rfl
  rotate_left
  · exact ap_
  refine one_ (i:=2) (N:=some 6) #[true,true,true,true,true,true,true,false,false,false,false,false] rfl rfl (by kernel_rfl) (by decide) (fun K hK=>?_)
  refine goes_ Try.func41 (by kernel_rfl) rfl #[.slice A l.length c] (by rfl) rfl rfl ga_ ?_
  refine (Ya.calls k A c l l W0.drew HC.out HLC.out HK.out).mono ?_
  rintro e w1 ⟨v1,rfl,hr1,hb1⟩
  refine ⟨_,rfl,?_⟩
  obtain ⟨A1,c1,aI⟩:=Kd.Yq hr1;subst aI;have HR1:=Xa.mk hr1;have HB1:=Xa.mk hb1;clear hr1 hb1;refine hK.out _ _ (Xc HB1.out aB.out) (fun hHeld=>?_)
  clear hK K;refine Zj (a':=?_) ?_ ?_
  rotate_left
  · show Act.put _ (some 6) _=_
    simp only [Act.put,List.setIfInBounds_toArray,List.set_cons_zero,List.set_cons_succ,Zc,Zb];rfl
  refine one_ (i:=7) (N:=some 11) #[true,true,true,true,true,true,true,true,false,false,false,false] rfl rfl (by kernel_rfl) (by decide) (fun K hK=>?_)
  refine value_ (v:=.slice (some ⟨w1.heap.size,0,none⟩) 2 2) (w1:=w1.alloc (.cells #[.slice A1 l.length c1,.slice A2 (s.proc i).todo.length c2] 50)) rfl rfl (by kernel_rfl) ?_
  have HB2:=Xa.mk (Xj (Below.refl w1.heap.size w1) (.cells #[.slice A1 l.length c1,.slice A2 (s.proc i).todo.length c2] 50));have aD:=Xa.mk (Yz w1 (.cells #[.slice A1 l.length c1,.slice A2 (s.proc i).todo.length c2] 50));obtain ⟨w2,hw2⟩:∃ w2,w1.alloc (.cells #[.slice A1 l.length c1,.slice A2 (s.proc i).todo.length c2] 50)=w2:=⟨_,rfl⟩;rw [hw2] at HB2 aD ⊢;clear hw2;refine hK.out _ _ (Xc HB2.out (Xc HB1.out aB.out)) (fun hHeld=>?_)
  clear hK K;refine Zj (a':=?_) ?_ ?_
  rotate_left
  · show Act.put _ (some 11) _=_
    simp only [Act.put,List.setIfInBounds_toArray,List.set_cons_zero,List.set_cons_succ,Zc,Zb];rfl
  refine one_ (i:=8) (N:=some 12) #[true,true,true,true,true,true,true,true,true,false,false,false] rfl rfl (by kernel_rfl) (by decide) (fun K hK=>?_)
  refine goes_ Try.func120 (by kernel_rfl) rfl #[.slice (some ⟨w1.heap.size,0,none⟩) 2 2] (by rfl) rfl rfl ga_ ?_
  refine (concatStmt (fun k=>W0.drew.heap.size≤k) (fun k=>ok k∧free (lay b s) k) A1 c1 l A2 c2 (s.proc i).todo w1.heap.size 2 w2 (INS1 HR1.out HB2.out) (INS2 HT.out HB1.out HB2.out) ((Xm aD.out 0).trans rfl) ((Xm aD.out 1).trans rfl) aG.out HL2.out).mono ?_
  rintro e w3 ⟨A3,c3,rfl,aF,hb3⟩
  refine ⟨_,rfl,?_⟩
  have aH:=Xa.mk aF;have HB3:=Xa.mk hb3;clear aF hb3;have hx3:=Xc HB3.out (Xc HB2.out (Xc HB1.out aB.out))
  have hf3:w3.frozen? ⟨P,i * 5+1,none⟩=false:=by rw [World.frozen?_of_block (INS3 HB1.out HB2.out HB3.out HPL.out)];exact HPF.out
  refine hK.out _ _ (Xc HB3.out (Xc HB2.out (Xc HB1.out aB.out))) (fun hHeld=>?_)
  clear hK K;refine Zj (a':=?_) ?_ ?_
  rotate_left
  · show Act.put _ (some 12) _=_
    simp only [Act.put,List.setIfInBounds_toArray,List.set_cons_zero,List.set_cons_succ,Zc,Zb];rfl
  refine Xp (i:=9) (N:=some 13) (v:=?_) (a':=?_) #[true,true,true,true,true,true,true,true,true,true,false,false] rfl rfl (by kernel_rfl) (fun _ _ _ h=>h) (Or.inl ⟨by rfl,?_⟩) ?_ ?_
  rotate_left
  · exact wr_
  rotate_left
  · exact ap_
  refine Xp (i:=10) (N:=some 14) (v:=?_) (a':=?_) #[true,true,true,true,true,true,true,true,true,true,true,false] rfl rfl (by kernel_rfl) (fun _ _ _ h=>h) (Or.inl ⟨by rfl,?_⟩) ?_ ?_
  rotate_left
  · exact wr_
  rotate_left
  · exact ap_
  refine last_ (i:=11) (N:=none) #[true,true,true,true,true,true,true,true,true,true,true,true] rfl rfl (by kernel_rfl) (by decide) (fun K hK=>?_)
  refine skip_ (w1:=w3.setCell ⟨P,i * 5+1,none⟩ (.slice A3 (l ++ (s.proc i).todo).length c3)) rfl rfl ?_ ?_
  · first|(go_simp;done)|(go_simp;rfl)
  refine hK.out _ _ ?_
  clear hK K;refine done_ (by kernel_rfl) ?_
  skip
  go_wp2
  go_end0
  refine ⟨rfl,?_⟩
  have aA:Below W0.drew.heap.size W0.drew w3:=(HB1.out.trans ⟨HB2.out.os,HB2.out.tape,HB2.out.output,HB2.out.size,fun j hj=>HB2.out.block j (Nat.lt_of_lt_of_le hj HB1.out.size)⟩).trans ⟨HB3.out.os,HB3.out.tape,HB3.out.output,HB3.out.size,fun j hj=>HB3.out.block j (Nat.lt_of_lt_of_le hj (Nat.le_trans HB1.out.size HB2.out.size))⟩;have h6:=H5.out.below aA
  have hv:=Kd.Um (ok':=fun k=>ok k∧free (lay b s) k) (Kd.N_V (base':=base) aH.out) (fun k hk=>by
    have new:W0.drew.heap.size≤k→ok k∧free (lay b s) k:=fun hle=>⟨H5.out.up k hle,fun j r hr e=>by have:=(H5.out.at_.rows.at_ j r hr).lt k e;omega⟩
    rcases hk with (hk|hk)|hk
    · exact new hk
    · exact hk
    · exact new (Nat.le_trans (Nat.le_trans HB1.out.size HB2.out.size) hk))
  have hw:=h6.at_.todo h6.up (i:=i) HI.out _ (l ++ (s.proc i).todo) (h6.at_.Yj (Nat.lt_of_le_of_lt (Nat.zero_le i) HI.out) HPV.out) hv;have h7:=h6.write (q':=b.q) hw;exact Left.of h7 (HWW.out.trans ⟨aA.os,aA.tape,aA.output,aA.size,fun j hj=>aA.block j (Nat.lt_of_lt_of_le hj HWW.out.size)⟩) (hw.2.mono (fun k hk=>.inl hk)) HUP.out
end Go.Proofs.Ytlhogkfmdnpmkaa.Mean
namespace Go.Proofs.Ytlhogkfmdnpmkaa.GWhole
open Go.RowKit Go.Proofs.YtlhogkfmdnpmkaaW.PrintWords Go.Proofs.YtlhogkfmdnpmkaaW.PrintLast Go.Proofs.YtlhogkfmdnpmkaaW.PrintMore
attribute [local go_sem] Ui Uk max_two min_two Zx Zy Uj Ul
set_option linter.unusedVariables false
set_option linter.unusedSimpArgs false
def okN (n:Int):Bool:=decide (-999≤n) && decide (n≤999)
def cutN (n:Int):Int:=if n > 999 then 999 else if n < -999 then -999 else n
def numDo (op a b:Int):Int × Bool:=
 if 1≤op∧op≤5∧okN a=true∧okN b=true then
  (if op=1 then cutN (a+b) else if op=2 then cutN (a - b) else if op=3 then cutN (a * b)
   else if op=4 then (if a<b then 1 else 0) else (if a=b then 1 else 0),true)
 else (0,false)
def impl_NumDo.f (a0 a1 a2:Int):Option (Int × Bool):=some (numDo a0 a1 a2)
theorem cutN_mid {n:Int} (h1:-999<n) (h2:n≤999):cutN n=n:=by unfold cutN;split <;> (try split) <;> omega
theorem cutN_hi {n:Int} (h:999<n):cutN n=999:=by unfold cutN;split <;> (try split) <;> omega
theorem cutN_lo {n:Int} (h:n≤-999):cutN n = -999:=by unfold cutN;split <;> (try split) <;> omega
theorem mul_lo {a b:Int} (h1:-999≤a) (h2:a≤999) (h3:-999≤b) (h4:b≤999):-998001≤a * b∧a * b≤998001:=by
 have e1:0≤(999 - a) * (999 - b):=Int.mul_nonneg (by omega) (by omega);have e2:0≤(999+a) * (999+b):=Int.mul_nonneg (by omega) (by omega);have e3:0≤(999 - a) * (999+b):=Int.mul_nonneg (by omega) (by omega);have e4:0≤(999+a) * (999 - b):=Int.mul_nonneg (by omega) (by omega);rw [Int.sub_mul,Int.mul_sub,Int.mul_sub] at e1;rw [Int.add_mul,Int.mul_add,Int.mul_add] at e2;rw [Int.sub_mul,Int.mul_add,Int.mul_add] at e3;rw [Int.add_mul,Int.mul_sub,Int.mul_sub] at e4
 omega
theorem do_add (a1 a2:Int) (w:World) (h1:-999≤a1) (h2:a1≤999) (h3:-999≤a2) (h4:a2≤999) :
  Calls Try.prog 108 #[.int .i64 1,.int .i64 a1,.int .i64 a2] w fun e w'=>e=.returned (.tuple #[.int .i64 (cutN (a1+a2)),.bool true])∧Below w.heap.size w w':=by
 obtain ⟨m1,m2⟩:=mul_lo h1 h2 h3 h4
 have c:999<a1+a2∨a1+a2≤-999∨(-999<a1+a2∧a1+a2≤999):=by omega
 rcases c with c|c|⟨c,c'⟩
 ·rw [cutN_hi c]
  go_enter Try.func108,Try.ntmps108
  go_wp2
  all_goals
   go_ret2
   exact ⟨rfl,by repeat (first|exact Below.refl _ _|apply Xj|apply Xl)⟩
 ·rw [cutN_lo c]
  go_enter Try.func108,Try.ntmps108
  go_wp2
  all_goals
   go_ret2
   exact ⟨rfl,by repeat (first|exact Below.refl _ _|apply Xj|apply Xl)⟩
 ·rw [cutN_mid c c']
  go_enter Try.func108,Try.ntmps108
  go_wp2
  all_goals
   go_ret2
   exact ⟨rfl,by repeat (first|exact Below.refl _ _|apply Xj|apply Xl)⟩
theorem do_sub (a1 a2:Int) (w:World) (h1:-999≤a1) (h2:a1≤999) (h3:-999≤a2) (h4:a2≤999) :
  Calls Try.prog 108 #[.int .i64 2,.int .i64 a1,.int .i64 a2] w fun e w'=>e=.returned (.tuple #[.int .i64 (cutN (a1 - a2)),.bool true])∧Below w.heap.size w w':=by
 obtain ⟨m1,m2⟩:=mul_lo h1 h2 h3 h4
 have c:999<a1 - a2∨a1 - a2≤-999∨(-999<a1 - a2∧a1 - a2≤999):=by omega
 rcases c with c|c|⟨c,c'⟩
 ·rw [cutN_hi c]
  go_enter Try.func108,Try.ntmps108
  go_wp2
  all_goals
   go_ret2
   exact ⟨rfl,by repeat (first|exact Below.refl _ _|apply Xj|apply Xl)⟩
 ·rw [cutN_lo c]
  go_enter Try.func108,Try.ntmps108
  go_wp2
  all_goals
   go_ret2
   exact ⟨rfl,by repeat (first|exact Below.refl _ _|apply Xj|apply Xl)⟩
 ·rw [cutN_mid c c']
  go_enter Try.func108,Try.ntmps108
  go_wp2
  all_goals
   go_ret2
   exact ⟨rfl,by repeat (first|exact Below.refl _ _|apply Xj|apply Xl)⟩
theorem do_mul (a1 a2:Int) (w:World) (h1:-999≤a1) (h2:a1≤999) (h3:-999≤a2) (h4:a2≤999) :
  Calls Try.prog 108 #[.int .i64 3,.int .i64 a1,.int .i64 a2] w fun e w'=>e=.returned (.tuple #[.int .i64 (cutN (a1 * a2)),.bool true])∧Below w.heap.size w w':=by
 obtain ⟨m1,m2⟩:=mul_lo h1 h2 h3 h4
 have c:999<a1 * a2∨a1 * a2≤-999∨(-999<a1 * a2∧a1 * a2≤999):=by omega
 rcases c with c|c|⟨c,c'⟩
 ·rw [cutN_hi c]
  go_enter Try.func108,Try.ntmps108
  go_wp2
  all_goals
   go_ret2
   exact ⟨rfl,by repeat (first|exact Below.refl _ _|apply Xj|apply Xl)⟩
 ·rw [cutN_lo c]
  go_enter Try.func108,Try.ntmps108
  go_wp2
  all_goals
   go_ret2
   exact ⟨rfl,by repeat (first|exact Below.refl _ _|apply Xj|apply Xl)⟩
 ·rw [cutN_mid c c']
  go_enter Try.func108,Try.ntmps108
  go_wp2
  all_goals
   go_ret2
   exact ⟨rfl,by repeat (first|exact Below.refl _ _|apply Xj|apply Xl)⟩
theorem do_less (a1 a2:Int) (w:World) (h1:-999≤a1) (h2:a1≤999) (h3:-999≤a2) (h4:a2≤999) :
  Calls Try.prog 108 #[.int .i64 4,.int .i64 a1,.int .i64 a2] w fun e w'=>e=.returned (.tuple #[.int .i64 (if a1<a2 then 1 else 0),.bool true])∧Below w.heap.size w w':=by
 by_cases c:a1<a2
 ·rw [if_pos c]
  skip
  go_enter Try.func108,Try.ntmps108
  go_wp2
  all_goals
   go_ret2
   exact ⟨rfl,by repeat (first|exact Below.refl _ _|apply Xj|apply Xl)⟩
 ·rw [if_neg c]
  skip
  go_enter Try.func108,Try.ntmps108
  go_wp2
  all_goals
   go_ret2
   exact ⟨rfl,by repeat (first|exact Below.refl _ _|apply Xj|apply Xl)⟩
theorem do_same (a1 a2:Int) (w:World) (h1:-999≤a1) (h2:a1≤999) (h3:-999≤a2) (h4:a2≤999) :
  Calls Try.prog 108 #[.int .i64 5,.int .i64 a1,.int .i64 a2] w fun e w'=>e=.returned (.tuple #[.int .i64 (if a1=a2 then 1 else 0),.bool true])∧Below w.heap.size w w':=by
 by_cases c:a1=a2
 ·rw [if_pos c]
  have d:(a1 == a2)=true:=by simpa using c
  go_enter Try.func108,Try.ntmps108
  go_wp2
  all_goals
   go_ret2
   exact ⟨rfl,by repeat (first|exact Below.refl _ _|apply Xj|apply Xl)⟩
 ·rw [if_neg c]
  have d:(a1 == a2)=false:=by simpa using c
  go_enter Try.func108,Try.ntmps108
  go_wp2
  all_goals
   go_ret2
   exact ⟨rfl,by repeat (first|exact Below.refl _ _|apply Xj|apply Xl)⟩
theorem do_bad (a0 a1 a2:Int) (w:World) (h:¬ (1≤a0∧a0≤5∧(-999≤a1∧a1≤999)∧(-999≤a2∧a2≤999))) :
  Calls Try.prog 108 #[.int .i64 a0,.int .i64 a1,.int .i64 a2] w fun e w'=>e=.returned (.tuple #[.int .i64 0,.bool false])∧Below w.heap.size w w':=by
 by_cases c0:1≤a0
 case neg=>
  clear h
  go_enter Try.func108,Try.ntmps108
  go_wp2
  all_goals
   go_ret2
   exact ⟨rfl,by repeat (first|exact Below.refl _ _|apply Xj|apply Xl)⟩
 by_cases c1:a0≤5
 case neg=>
  clear h
  go_enter Try.func108,Try.ntmps108
  go_wp2
  all_goals
   go_ret2
   exact ⟨rfl,by repeat (first|exact Below.refl _ _|apply Xj|apply Xl)⟩
 by_cases c2:-999≤a1
 case neg=>
  clear h
  go_enter Try.func108,Try.ntmps108
  go_wp2
  all_goals
   go_ret2
   exact ⟨rfl,by repeat (first|exact Below.refl _ _|apply Xj|apply Xl)⟩
 by_cases c3:a1≤999
 case neg=>
  clear h
  go_enter Try.func108,Try.ntmps108
  go_wp2
  all_goals
   go_ret2
   exact ⟨rfl,by repeat (first|exact Below.refl _ _|apply Xj|apply Xl)⟩
 by_cases c4:-999≤a2
 case neg=>
  clear h
  go_enter Try.func108,Try.ntmps108
  go_wp2
  all_goals
   go_ret2
   exact ⟨rfl,by repeat (first|exact Below.refl _ _|apply Xj|apply Xl)⟩
 by_cases c5:a2≤999
 case neg=>
  clear h
  go_enter Try.func108,Try.ntmps108
  go_wp2
  all_goals
   go_ret2
   exact ⟨rfl,by repeat (first|exact Below.refl _ _|apply Xj|apply Xl)⟩
 exact absurd ⟨c0,c1,⟨c2,c3⟩,⟨c4,c5⟩⟩ h
theorem impl_NumDo.calls (a0 a1 a2:Int) (r1:Int) (r2:Bool) (w:World) (h:impl_NumDo.f a0 a1 a2=some (r1,r2)) :
  Calls Try.prog 108 #[.int .i64 a0,.int .i64 a1,.int .i64 a2] w fun e w'=>e=.returned (.tuple #[.int .i64 r1,.bool r2])∧Below w.heap.size w w':=by
 have H:=Option.some.inj h;clear h;by_cases c1:1≤a0∧a0≤5∧okN a1=true∧okN a2=true
 ·unfold numDo at H
  rw [if_pos c1] at H;obtain ⟨h1,h2,h3,h4⟩:=c1;simp only [okN,Bool.and_eq_true,decide_eq_true_eq] at h3 h4;simp only [Prod.mk.injEq] at H;obtain ⟨H,rfl⟩:=H
  have c:a0=1∨a0=2∨a0=3∨a0=4∨a0=5:=by omega
  rcases c with rfl|rfl|rfl|rfl|rfl
  ·simp at H;rw [← H];exact do_add a1 a2 w h3.1 h3.2 h4.1 h4.2
  ·simp at H;rw [← H];exact do_sub a1 a2 w h3.1 h3.2 h4.1 h4.2
  ·simp at H;rw [← H];exact do_mul a1 a2 w h3.1 h3.2 h4.1 h4.2
  ·simp at H;rw [← H];exact do_less a1 a2 w h3.1 h3.2 h4.1 h4.2
  ·simp at H;rw [← H];exact do_same a1 a2 w h3.1 h3.2 h4.1 h4.2
 ·unfold numDo at H
  rw [if_neg c1] at H;simp only [Prod.mk.injEq] at H;obtain ⟨rfl,rfl⟩:=H;refine do_bad a0 a1 a2 w (fun c=>c1 ?_)
  simpa [okN] using c
end Go.Proofs.Ytlhogkfmdnpmkaa.GWhole
