import Derived.Test.YtlhogkfmdnpmkaaGreatCFnExactMarksOf58
import Derived.Test.YtlhogkfmdnpmkaaGreatCFnExactMarksOf65
set_option linter.unusedVariables false
set_option linter.unusedSimpArgs false
set_option maxHeartbeats 8000000
set_option maxRecDepth 100000
namespace Go.Proofs.YtlhogkfmdnpmkaaGreat.Mean
open RowKit GMarks YtlhogkfmdnpmkaaGreatW.PrintWords YtlhogkfmdnpmkaaGreatW.PrintLast YtlhogkfmdnpmkaaGreatW.PrintMore
open StmtOk
def okList (l:List T):Bool:=l.all (fun t=>Yd.st 3 t (-1)) && decide (wrap64 (Xo.cnt 3 l:Int)≤14)
def progOk (l:List (List T)):Bool:=decide (1≤l.length) && decide (l.length≤3) && l.all okList
theorem prog_pred (l:List T) (A:Option Addr) (c:Nat) (W:World) (hC:Kd.C k87 W A l.length l) (hl:l.length≤c) :
  Calls Tryz.prog 81 #[.slice A l.length c] W fun x W'=>x=.returned (.bool (!okList l))∧Below W.heap.size W W':=by
 have X:=Lib.hid (impl_StmtsOk.calls A c l (okList l) W hC hl rfl);clear hC hl;generalize okList l=q at *;go_enter Tryz.func81,Tryz.ntmps81;go_wp2_with (first|(go_at_call 82;refine (X.out).mono ?_;rintro e w1 ⟨rfl,aA⟩));go_ret
 exact ⟨rfl,aA⟩
theorem idx_take2 (p:List T→Bool) (l:List (List T)) (i:Nat) (h:i<l.length):(l.take (i+1)).any p=((l.take i).any p||p l[i]):=by
 rw [List.take_succ_eq_append_getElem h,List.any_append];simp
theorem prog_index (l:List (List T)) (A:Option Addr) (c:Nat) (w:World) (hC:Kd.C (Kd.slice 87 k87) w A l.length l) (hlc:l.length≤c) (hlen:l.length≤1000) :
  Calls Tryz.prog 95 #[.slice A l.length c,.func (.func 81) #[] #[]] w fun x w'=>∃ m:Int,x=.returned (.int .i64 m)∧decide (m ≥ 0)=l.any (fun x=>!okList x)∧Below w.heap.size w w':=by
 have HC:=Xa.mk hC;have HL:=Xa.mk hlen;clear hC hlen;have HB:=Xa.mk (Below.refl w.heap.size w);go_enter Tryz.func95,Tryz.ntmps95;go_wp2
 go_loopw [8] (fun v8 w'=>∃ (i:Nat),v8=.int .i64 (i:Int)∧Xa (i≤l.length)∧Xa ((l.take i).any (fun x=>!okList x)=false)∧Xa (Below w.heap.size w w')) (fun v8 _=>l.length - (intOf v8).toNat)
 case atStart=>exact ⟨0,rfl,⟨Nat.zero_le _⟩,⟨sm_⟩,HB⟩
 case round=>
  clear HB;obtain ⟨i,rfl,Hi,HN,HB⟩:=hrel;by_cases hlt:i<l.length
  ·have Hlt:=Xa.mk hlt;have hd1:decide ((i:Int)<(l.length:Int))=true:=dt_ om_
   have p0:0≤(i:Int):=om_
   have q0:(i:Int)<(l.length:Int):=om_
   obtain ⟨ad,A4,c4,e,hx0,hl4,hi4⟩:=at_L4 (Kd.Xy HC.out HB.out) (i:Int) p0 q0;subst e
   have hrd:rd_L4 l (i:Int)=l[i]:=by unfold rd_L4;simp [List.getD_eq_getElem?_getD,hlt]
   rw [hrd] at hx0 hl4 hi4;have hstep:=idx_take2 (fun x=>!okList x) l i hlt;rw [HN.out,Bool.false_or] at hstep;clear HN;have X:=Lib.hid (prog_pred l[i] A4 c4 _ hi4 hl4)
   try simp only [] at hstep
   generalize (!okList l[i])=q at *;generalize l[i]=s at *;have Hstep:=Xa.mk hstep;simp only [Int.toNat_natCast] at hx0;replace p0:=eq_true p0;replace q0:=eq_true q0
   have hjw:IntKind.i64.wrap ((i:Int)+1)=((i+1:Nat):Int):=by have:=HL.out;have:=Hlt.out;rw [IntKind.wrap_i64];omega
   clear hstep hlt hrd hl4 hi4;go_wp2_with (fail);refine (X.out).mono ?_;rintro e w1 ⟨rfl,aA⟩;replace HB:=Xa.mk (Xi HB.out aA);clear aA hx0 X
   cases q
   ·go_wp2
    go_roundw
    case measure=>have:=Hlt.out;simp [intOf];omega
    case rel=>exact ⟨i+1,sm_,⟨Hlt.out⟩,⟨Hstep.out⟩,HB⟩
   ·go_wp2;go_ret
    refine ⟨_,rfl,?_,HB.out⟩;rw [show l.any (fun x=>!okList x)=true from by have:=Hstep.out;rw [List.any_eq_true] at this ⊢;obtain ⟨x,hx,hq⟩:=this;exact ⟨x,List.mem_of_mem_take hx,hq⟩];exact dt_ om_
  ·have hi:i=l.length:=by have:=Hi.out;omega
   subst hi
   have hn:l.any (fun x=>!okList x)=false:=by have:=HN.out;rwa [List.take_of_length_le (nr_ _)] at this
   have Hn:=Xa.mk hn;clear hlt hn HN Hi;go_wp2;go_ret
   exact ⟨_,rfl,Hn.out.symm ▸ rfl,HB.out⟩
theorem prog_contains (l:List (List T)) (A:Option Addr) (c:Nat) (w:World) (hC:Kd.C (Kd.slice 87 k87) w A l.length l) (hlc:l.length≤c) (hlen:l.length≤1000) :
  Calls Tryz.prog 80 #[.slice A l.length c,.func (.func 81) #[] #[]] w fun x w'=>x=.returned (.bool (l.any (fun x=>!okList x)))∧Below w.heap.size w w':=by
 have X:=Lib.hid (prog_index l A c w hC hlc hlen);clear hC;generalize (l.any (fun x=>!okList x))=q at *;go_enter Tryz.func80,Tryz.ntmps80;go_wp2_with (fail);refine (X.out).mono ?_;rintro e w1 ⟨m,rfl,hm,hb⟩;have HB:=Xa.mk hb;clear hb;go_wp2;go_ret
 exact ⟨rfl,HB.out⟩
theorem any_all2:∀ (l:List (List T)),(!(l.any (fun t=>!okList t)))=l.all okList
 |[]=>rfl
 |x :: r=>by rw [List.any_cons,List.all_cons,← any_all2 r];cases okList x <;> simp
theorem progOk_do (l:List (List T)) (A:Option Addr) (c:Nat) (w:World) (hC:Kd.C (Kd.slice 87 k87) w A l.length l) (hlc:l.length≤c) :
  Calls Tryz.prog 59 #[.slice A l.length c] w fun x w'=>x=.returned (.bool (progOk l))∧Below w.heap.size w w':=by
 have h63:=hC.2.1;by_cases h1:1≤l.length
 ·by_cases h3:l.length≤3
  ·have X:=Lib.hid (prog_contains l A c w hC hlc om_)
   have e:progOk l = !(l.any (fun t=>!okList t)):=by unfold progOk;rw [dt_ h1,dt_ h3,any_all2];rfl
   rw [e];have d1:decide ((l.length:Int) ≥ 1)=true:=dt_ om_;have d2:decide ((1:Int)≤(l.length:Int))=true:=dt_ om_;have d3:decide ((l.length:Int)≤3)=true:=dt_ om_
   have i1:(1:Int)≤(l.length:Int):=om_
   have i3:(l.length:Int)≤3:=om_
   clear hC e;generalize (l.any (fun x=>!okList x))=q at *;go_enter Tryz.func59,Tryz.ntmps59;go_wp2_with (first|(go_at_call 80;refine (X.out).mono ?_;rintro e w1 ⟨rfl,aA⟩));go_ret
   exact ⟨rfl,aA⟩
  ·have e:progOk l=false:=by unfold progOk;rw [df_ h3];simp
   rw [e];have d1:decide ((l.length:Int) ≥ 1)=true:=dt_ om_;have d2:decide ((1:Int)≤(l.length:Int))=true:=dt_ om_;have d3:decide ((l.length:Int)≤3)=false:=df_ om_
   have i1:(1:Int)≤(l.length:Int):=om_
   have i3:¬ (l.length:Int)≤3:=om_
   clear hC e;go_enter Tryz.func59,Tryz.ntmps59;go_wp2;go_ret
   exact ⟨rfl,Below.refl _ _⟩
 ·have e:progOk l=false:=by unfold progOk;rw [df_ h1];simp
  rw [e];have d1:decide ((l.length:Int) ≥ 1)=false:=df_ om_;have d2:decide ((1:Int)≤(l.length:Int))=false:=df_ om_
  have i1:¬ (1:Int)≤(l.length:Int):=om_
  clear hC e;go_enter Tryz.func59,Tryz.ntmps59;go_wp2;go_ret
  exact ⟨rfl,Below.refl _ _⟩
theorem playable_do (l:List (List T)) (A:Option Addr) (c:Nat) (n c1:Nat) (A1:Option Addr) (w:World) (hC:Kd.C (Kd.slice 87 k87) w A l.length l) (hlc:l.length≤c) :
  Calls Tryz.prog 37 #[.slice A l.length c,.slice A1 n c1] w fun x w'=>x=.returned (.bool (progOk l && decide (n≤200)))∧Below w.heap.size w w':=by
 have X:=Lib.hid (progOk_do l A c w hC hlc);clear hC
 have d3:decide ((n:Int)≤200)=decide (n≤200):=by
  by_cases h:n≤200
  ·rw [dt_ h,dt_ om_]
  ·rw [df_ h,df_ om_]
 cases hq:progOk l
 ·rw [hq] at X;go_enter Tryz.func37,Tryz.ntmps37;go_wp2_with (first|(go_at_call 59;refine (X.out).mono ?_;rintro e w1 ⟨rfl,aA⟩));go_ret
  exact ⟨rfl,aA⟩
 ·rw [hq] at X;go_enter Tryz.func37,Tryz.ntmps37;go_wp2_with (first|(go_at_call 59;refine (X.out).mono ?_;rintro e w1 ⟨rfl,aA⟩));go_ret
  exact ⟨by first|rfl|simp,aA⟩
def marks (l:List (List T)) (picks:List Int):List Mk:=if (progOk l && decide (picks.length≤200))=true then (picks.foldl (goM l.length) ⟨Zx l,fun _ _=>0,0,[]⟩).out else []
theorem step_n (s:WS) (i:Nat):(step s i).n=s.n:=by
 have hif:∀ (c:Prop) [Decidable c] (a b:WS),a.n=s.n→b.n=s.n→(if c then a else b).n=s.n:=fun c _ a b ha hb=>by split <;> assumption
 unfold step;refine hif _ _ _ rfl ?_;split
 ·rfl
 ·rename_i t r _
  unfold Ur;refine hif _ _ _ rfl (hif _ _ _ rfl (hif _ _ _ rfl (hif _ _ _ rfl (hif _ _ _ rfl (hif _ _ _ rfl (hif _ _ _ (hif _ _ _ rfl rfl) (hif _ _ _ rfl (hif _ _ _ rfl (hif _ _ _ ?_ (hif _ _ _ rfl rfl))))))))));split <;> rfl
theorem goM_len (n:Nat):∀ (picks:List Int) (m:MS),(picks.foldl (goM n) m).out.length≤m.out.length+picks.length
 |[],m=>nr_ _
 |a :: r,m=>by
  have h:=goM_len n r (goM n m a)
  have h1:(goM n m a).out.length≤m.out.length+1:=by
   unfold goM;split
   ·show (m.out ++ _).length≤_
    rw [List.length_append]
    have:=marked_len n m.s (ahead m.s m.c a.toNat) a.toNat m.at_
    omega
   ·show m.out.length≤_;omega
  rw [List.foldl_cons,List.length_cons];omega
theorem marks_len (l:List (List T)) (picks:List Int):(marks l picks).length≤200:=by
 unfold marks;split
 ·rename_i h
  rw [Bool.and_eq_true] at h;have h2:=od_ h.2
  have:=goM_len l.length picks ⟨Zx l,fun _ _=>0,0,[]⟩
  have e:(⟨Zx l,fun _ _=>0,0,[]⟩:MS).out.length=0:=rfl;omega
 ·simp
theorem up_at {α:Type} (f:Nat→α) (i:Nat) (a:α):up f i a i=a:=if_pos rfl
theorem up_off {α:Type} (f:Nat→α) {i j:Nat} (a:α) (h:j≠i):up f i a j=f j:=if_neg h
inductive Got (c:CK) (i:Nat):(Nat→Int)→Prop where
 |old (a:Nat):Got c i (c a)
 |own:Got c i (Yz c i)
 |join {u v:Nat→Int}:Got c i u→Got c i v→Got c i (Mean.join u v)
theorem Got.up {c:CK} {i:Nat} {f:CK} (h:∀ a,Got c i (f a)) (j:Nat) {u:Nat→Int} (hu:Got c i u):∀ a,Got c i (Mean.up f j u a):=fun a=>by
 by_cases e:a=j
 ·rw [e,up_at];exact hu
 ·rw [up_off _ _ e];exact h a
theorem ahead_got (s:WS) (c:CK) (i:Nat):∀ a,Got c i (ahead s c i a):=by
 have h0:∀ a,Got c i (up c i (Yz c i) a):=Got.up (fun a=>.old a) i .own;unfold ahead;split
 ·exact Got.up (fun a=>.old a) i (.join .own (.old _))
 ·split
  ·exact Got.up (fun a=>.old a) i (.join .own (.old _))
  ·split
   ·exact Got.up h0 _ .own
   ·split
    ·exact Got.up h0 _ .own
    ·split
     ·generalize s.sign (Xp s i).f1.toNat=l
      cases l with
      |nil=>exact h0
      |cons q r=>exact Got.up h0 _ (.join (.old _) .own)
     ·exact h0
theorem mx_l (a b:Int):a≤mx a b:=by unfold mx;split <;> omega
theorem mx_r (a b:Int):b≤mx a b:=by unfold mx;split <;> omega
theorem mx_le {a b k:Int} (ha:a≤k) (hb:b≤k):mx a b≤k:=by unfold mx;split <;> omega
theorem mx_or (a b:Int):mx a b=a∨mx a b=b:=by unfold mx;split <;> simp
theorem ahead_up (s:WS) (c:CK) (i:Nat) {a:Nat} (ha:a<3) (k:Nat):c a k≤ahead s c i a k:=by
 have how:∀ k,c i k≤Yz c i k:=fun k=>by unfold Yz up;split <;> (try subst k) <;> omega
 have h0:c a k≤up c i (Yz c i) a k:=by
  by_cases e:a=i
  ·rw [e,up_at];exact how k
  ·rw [up_off _ _ e];exact Int.le_refl _
 have hj:∀ v,c a k≤up c i (join (Yz c i) v) a k:=fun v=>by
  by_cases e:a=i
  ·rw [e,up_at];exact Int.le_trans (how k) (mx_l _ _)
  ·rw [up_off _ _ e];exact Int.le_refl _
 unfold ahead;split
 ·exact hj _
 ·split
  ·exact hj _
  ·split
   ·rw [up_off _ _ om_];exact h0
   ·split
    ·rw [up_off _ _ om_];exact h0
    ·split
     ·generalize s.sign (Xp s i).f1.toNat=l
      cases l with
      |nil=>exact h0
      |cons q r=>
       show c a k≤up (up c i (Yz c i)) q.toNat (join (c q.toNat) (Yz c i)) a k
       by_cases e:a=q.toNat
       ·rw [e,up_at];exact mx_l _ _
       ·rw [up_off _ _ e];exact h0
     ·exact h0
theorem ahead_own (s:WS) (c:CK) (i:Nat) (hi:i<3):c i i+1≤ahead s c i i i:=by
 have e0:Yz c i i=c i i+1:=if_pos rfl
 have h0:c i i+1≤up c i (Yz c i) i i:=by rw [up_at,e0];exact Int.le_refl _
 have hj:∀ v,c i i+1≤up c i (join (Yz c i) v) i i:=fun v=>by rw [up_at];exact Int.le_trans (by rw [e0];exact Int.le_refl _) (mx_l _ _)
 unfold ahead;split
 ·exact hj _
 ·split
  ·exact hj _
  ·split
   ·rw [up_off _ _ om_];exact h0
   ·split
    ·rw [up_off _ _ om_];exact h0
    ·split
     ·generalize s.sign (Xp s i).f1.toNat=l
      cases l with
      |nil=>exact h0
      |cons q r=>
       show c i i+1≤up (up c i (Yz c i)) q.toNat (join (c q.toNat) (Yz c i)) i i
       by_cases e:i=q.toNat
       ·rw [← e,up_at,← e0];exact mx_r _ _
       ·rw [up_off _ _ e];exact h0
     ·exact h0
theorem marked_ahead {n:Nat} {s:WS} {c:CK} {i a:Nat} {x:Mk} (hx:x ∈ marked n s (ahead s c i) i a):ahead s c i=up c i (Yz c i)∧x.f0=(i:Int)∧x.f1=(a:Int)∧x.f4=(List.range n).map (Yz c i):=by
 have key:∀ k,(k=3∨k=4)→(Xp s i).f0=k→ahead s c i=up c i (Yz c i):=by
  intro k hk h
  have h2:¬ (s.proc i).mode=2:=fun e=>by
   unfold Xp at h;rw [if_pos e] at h
   rcases hk with rfl|rfl <;> exact absurd h de_
  unfold ahead;rw [if_neg h2,if_neg (by rw [h];rcases hk with rfl|rfl <;> decide),if_neg (by rw [h];rcases hk with rfl|rfl <;> decide),if_neg (by rw [h];rcases hk with rfl|rfl <;> decide),if_neg (by rw [h];rcases hk with rfl|rfl <;> decide)]
 unfold marked at hx;split at hx
 ·rename_i h
  have e:=key 3 (.inl rfl) h;rw [List.mem_singleton] at hx;subst hx;exact ⟨e,rfl,rfl,by rw [e,up_at]⟩
 ·split at hx
  ·rename_i h
   have e:=key 4 (.inr rfl) h;rw [List.mem_singleton] at hx;subst hx;exact ⟨e,rfl,rfl,by rw [e,up_at]⟩
  ·cases hx
def ck (x:Mk) (k:Nat):Int:=x.f4.getD k 0
structure MI1 (n:Nat) (c:CK) (x:Mk):Prop where
 who:0≤x.f0∧x.f0.toNat<n
 len:x.f4.length=n
 one:1≤ck x x.f0.toNat
 le:∀ k,k<n→ck x k≤c k k
 know:∀ a,ck x x.f0.toNat≤c a x.f0.toNat→∀ k,k<n→ck x k≤c a k
structure MI2 (n:Nat) (x y:Mk):Prop where
 at_:x.f1<y.f1
 self:ck x y.f0.toNat<ck y y.f0.toNat
 know:ck x x.f0.toNat≤ck y x.f0.toNat→∀ k,k<n→ck x k≤ck y k
structure MI (n:Nat) (picks:List Int) (m:MS):Prop where
 pos:∀ a k,0≤m.c a k
 top:∀ a k,k<n→m.c a k≤m.c k k
 one:∀ x ∈ m.out,MI1 n m.c x
 two:m.out.Pairwise (MI2 n)
 at_:∀ x ∈ m.out,0≤x.f1∧x.f1<(m.at_:Int)∧picks[x.f1.toNat]?=some x.f0
theorem ck_own {n k:Nat} {c:CK} {i:Nat} {x:Mk} (h:x.f4=(List.range n).map (Yz c i)) (hk:k<n):ck x k=Yz c i k:=by
 unfold ck;rw [h,List.getD_eq_getElem?_getD,List.getElem?_map,List.getElem?_range hk];rfl
theorem own_same (c:CK) (i:Nat):Yz c i i=c i i+1:=if_pos rfl
theorem own_other {c:CK} {i k:Nat} (h:k≠i):Yz c i k=c i k:=if_neg h
theorem MI.step {n:Nat} {picks:List Int} {m:MS} (h:MI n picks m) (hn:n≤3) {i:Nat} (hi:i<n) (hp:picks[m.at_]?=some (i:Int)) (s':WS) :
  MI n picks ⟨s',ahead m.s m.c i,m.at_+1,m.out ++ marked n m.s (ahead m.s m.c i) i m.at_⟩:=by
 have hown:m.c i i+1≤ahead m.s m.c i i i:=ahead_own m.s m.c i om_;have hgot:=ahead_got m.s m.c i;have hup:∀ a,a<n→∀ k,m.c a k≤ahead m.s m.c i a k:=fun a ha k=>ahead_up m.s m.c i om_ k
 have hpos:∀ u,Got m.c i u→∀ k,0≤u k:=by
  intro u hu k
  induction hu with
  |old a=>exact h.pos a k
  |own=>have:=h.pos i k;have:=h.pos i i;unfold Yz up;split <;> omega
  |join _ _ h1 _=>exact Int.le_trans h1 (mx_l _ _)
 have htop:∀ u,Got m.c i u→∀ k,k<n→u k≤ahead m.s m.c i k k:=by
  intro u hu k hk
  induction hu with
  |old a=>exact Int.le_trans (h.top a k hk) (hup k hk k)
  |own=>
   by_cases e:k=i
   ·subst e;rw [own_same];exact hown
   ·rw [own_other e];exact Int.le_trans (h.top i k hk) (hup k hk k)
  |join _ _ h1 h2=>exact mx_le h1 h2
 have hknow:∀ x ∈ m.out,∀ u,Got m.c i u→ck x x.f0.toNat≤u x.f0.toNat→∀ k,k<n→ck x k≤u k:=by
  intro x hx u hu;have h1:=h.one x hx
  induction hu with
  |old a=>exact h1.know a
  |own=>
   intro hle k hk
   have hc:ck x x.f0.toNat≤m.c i x.f0.toNat:=by
    by_cases e:x.f0.toNat=i
    ·have:=h1.le _ h1.who.2;rw [e] at this ⊢;exact this
    ·rwa [own_other e] at hle
   have:=h1.know i hc k hk
   have:m.c i k≤Yz m.c i k:=by
    by_cases e:k=i
    ·subst e;rw [own_same];omega
    ·rw [own_other e];exact Int.le_refl _
   omega
  |@join u v _ _ h1 h2=>
   intro hle k hk;have hle:ck x x.f0.toNat≤mx (u x.f0.toNat) (v x.f0.toNat):=hle
   rcases mx_or (u x.f0.toNat) (v x.f0.toNat) with e|e
   ·rw [e] at hle;exact Int.le_trans (h1 hle k hk) (mx_l _ _)
   ·rw [e] at hle;exact Int.le_trans (h2 hle k hk) (mx_r _ _)
 have hold:∀ x ∈ m.out,MI1 n (ahead m.s m.c i) x:=fun x hx=>
  ⟨(h.one x hx).who,(h.one x hx).len,(h.one x hx).one,fun k hk=>Int.le_trans ((h.one x hx).le k hk) (hup k hk k),fun a=>hknow x hx _ (hgot a)⟩
 have hnew:∀ x ∈ marked n m.s (ahead m.s m.c i) i m.at_,MI1 n (ahead m.s m.c i) x:=by
  intro x hx;obtain ⟨e,e0,e1,e4⟩:=marked_ahead hx
  have et:x.f0.toNat=i:=by rw [e0];rfl
  have hc:∀ k,k<n→ck x k=Yz m.c i k:=fun k hk=>ck_own e4 hk;refine ⟨⟨by rw [e0];omega,by rw [et];exact hi⟩,by rw [e4];simp,?_,fun k hk=>?_,fun a ha k hk=>?_⟩
  ·rw [et,hc i hi,own_same];have:=h.pos i i;omega
  ·rw [hc k hk];exact htop _ .own k hk
  ·rw [et,hc i hi,own_same,e] at ha
   have ea:a=i:=by
    by_cases ea:a=i
    ·exact ea
    ·rw [up_off _ _ ea] at ha
     have:=h.top a i hi
     omega
   rw [ea,e,up_at,hc k hk];exact Int.le_refl _
 refine ⟨fun a k=>hpos _ (hgot a) k,fun a k hk=>htop _ (hgot a) k hk,fun x hx=>?_,?_,fun x hx=>?_⟩
 ·rcases List.mem_append.1 hx with hx|hx
  ·exact hold x hx
  ·exact hnew x hx
 ·rw [List.pairwise_append];refine ⟨h.two,?_,fun x hx y hy=>?_⟩
  ·have hl:=marked_len n m.s (ahead m.s m.c i) i m.at_
   match he:marked n m.s (ahead m.s m.c i) i m.at_,hl with
   |[],_=>exact .nil
   |[a],_=>exact List.pairwise_singleton _ _
  ·obtain ⟨e,e0,e1,e4⟩:=marked_ahead hy
   have et:y.f0.toNat=i:=by rw [e0];rfl
   have hc:∀ k,k<n→ck y k=Yz m.c i k:=fun k hk=>ck_own e4 hk;have h1:=h.one x hx;refine ⟨by rw [e1];exact (h.at_ x hx).2.1,?_,fun hle k hk=>?_⟩
   ·rw [et,hc i hi,own_same];have:=h1.le i hi;omega
   ·rw [hc _ h1.who.2] at hle;rw [hc k hk];exact hknow x hx _ .own hle k hk
 ·rcases List.mem_append.1 hx with hx|hx
  ·have:=h.at_ x hx
   exact ⟨this.1,by have:=this.2.1;show x.f1<((m.at_+1:Nat):Int);omega,this.2.2⟩
  ·obtain ⟨_,e0,e1,_⟩:=marked_ahead hx;rw [e1,e0];exact ⟨om_,by show (m.at_:Int)<((m.at_+1:Nat):Int);omega,hp⟩
theorem MI.skip {n:Nat} {picks:List Int} {m:MS} (h:MI n picks m):MI n picks ⟨m.s,m.c,m.at_+1,m.out⟩:=
 ⟨h.pos,h.top,h.one,h.two,fun x hx=>⟨(h.at_ x hx).1,by have:=(h.at_ x hx).2.1;show x.f1<((m.at_+1:Nat):Int);omega,(h.at_ x hx).2.2⟩⟩
theorem MI.start (n:Nat) (picks:List Int) (s:WS):MI n picks ⟨s,fun _ _=>0,0,[]⟩:=
 ⟨fun _ _=>Int.le_refl _,fun _ _ _=>Int.le_refl _,fun x hx=>(by cases hx),.nil,fun x hx=>(by cases hx)⟩
theorem goM_at (n:Nat) (m:MS) (who:Int):(goM n m who).at_=m.at_+1:=by unfold goM;split <;> rfl
theorem MI.go {n:Nat} {picks:List Int} {m:MS} (h:MI n picks m) (hn:n≤3) (hs:m.s.n=n) {who:Int} (hp:picks[m.at_]?=some who):MI n picks (goM n m who)∧(goM n m who).s.n=n:=by
 unfold goM;by_cases hc:code m.s who=0
 ·rw [if_pos hc]
  have hw:∃ i:Nat,who=(i:Int)∧i<m.s.n:=by
   by_cases h0:who<0∨(m.s.n:Int)≤who
   ·have e:code m.s who=3:=if_pos h0;rw [e] at hc;cases hc
   ·obtain ⟨i,rfl⟩:=Int.eq_ofNat_of_zero_le (show 0≤who by omega);exact ⟨i,rfl,om_⟩
  obtain ⟨i,rfl,hi⟩:=hw;exact ⟨h.step hn om_ hp _,(step_n m.s i).trans hs⟩
 ·rw [if_neg hc];exact ⟨h.skip,hs⟩
theorem MI.fold {n:Nat} (picks:List Int) (hn:n≤3) {s:WS} (hs:s.n=n) (j:Nat) (hj:j≤picks.length):MI n picks ((picks.take j).foldl (goM n) ⟨s,fun _ _=>0,0,[]⟩)∧((picks.take j).foldl (goM n) ⟨s,fun _ _=>0,0,[]⟩).at_=j∧((picks.take j).foldl (goM n) ⟨s,fun _ _=>0,0,[]⟩).s.n=n:=by
 induction j with
 |zero=>exact ⟨MI.start n picks s,rfl,hs⟩
 |succ j ih=>
  obtain ⟨h1,h2,h3⟩:=ih om_;rw [List.take_succ_eq_append_getElem (show j<picks.length by omega),List.foldl_append];have h4:=h1.go hn h3 (who:=picks[j]) (by rw [h2];exact List.getElem?_eq_getElem om_);exact ⟨h4.1,(goM_at _ _ _).trans (by rw [h2]),h4.2⟩
theorem marks_mi {l:List (List T)} {picks:List Int} (hn:progOk l=true→l.length≤3):∃ c a s,MI l.length picks ⟨s,c,a,marks l picks⟩∧(marks l picks≠[]→a=picks.length):=by
 unfold marks;by_cases hq:(progOk l && decide (picks.length≤200))=true
 ·rw [if_pos hq];have h:=MI.fold picks (hn (Bool.and_eq_true _ _ ▸ hq).1) (@openS_n ⟨fun _=>none⟩ l) picks.length (nr_ _);rw [List.take_length] at h;exact ⟨_,_,_,h.1,fun _=>h.2.1⟩
 ·rw [if_neg hq];exact ⟨_,_,Zx l,MI.start _ _ _,fun h=>absurd rfl h⟩
end Go.Proofs.YtlhogkfmdnpmkaaGreat.Mean
