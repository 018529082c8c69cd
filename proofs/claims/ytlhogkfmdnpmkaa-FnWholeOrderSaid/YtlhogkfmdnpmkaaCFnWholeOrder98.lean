import Derived.Test.YtlhogkfmdnpmkaaCFnWholeOrder39
import Derived.Test.YtlhogkfmdnpmkaaCFnWholeOrder86
set_option linter.unusedVariables false
set_option linter.unusedSimpArgs false
namespace Go.Proofs.Ytlhogkfmdnpmkaa.Pure
open RowKit GWhole YtlhogkfmdnpmkaaW.PrintWords YtlhogkfmdnpmkaaW.PrintMore
def Bytes (b:List Int):Prop:=b.length≤2000∧∀ x ∈ b,0≤x∧x≤255
theorem wrap64_id {n:Int} (h1:-9223372036854775808≤n) (h2:n≤9223372036854775807):wrap64 n=n:=by
 unfold wrap64;omega
theorem rd_mem {b:List Int} {i:Int} (h0:0≤i) (h1:i<(b.length:Int)):rd b i ∈ b:=by
 unfold rd
 have h:i.toNat<b.length:=om_
 rw [List.getD_eq_getElem?_getD,List.getElem?_eq_getElem h];exact List.getElem_mem h
theorem p62:(2:Nat) ^ 62=4611686018427387904:=de_
theorem bits_xor (a b:Nat) (ha:a<4611686018427387904) (hb:b<4611686018427387904):Go.bits .xor .i64 (a:Int) (b:Int)=((a ^^^ b:Nat):Int):=by
 have h64:(2:Nat) ^ 62≤2 ^ IntKind.i64.bits:=Nat.pow_le_pow_right de_ de_;rw [p62] at h64;have ha':a % 2 ^ IntKind.i64.bits=a:=Nat.mod_eq_of_lt (nl_ ha h64);have hb':b % 2 ^ IntKind.i64.bits=b:=Nat.mod_eq_of_lt (nl_ hb h64)
 have hx:a ^^^ b<4611686018427387904:=by rw [← p62] at ha hb ⊢;exact Nat.xor_lt_two_pow ha hb
 simp only [Go.bits,BitVec.ofInt_natCast,BitVec.toNat_xor,BitVec.toNat_ofNat,ha',hb'];rw [IntKind.wrap_i64];generalize a ^^^ b=c at hx ⊢;omega
theorem xor_nonneg {a b:Int} (h0:0≤a) (h1:a<4611686018427387904) (h2:0≤b) (h3:b<4611686018427387904):0≤Go.bits .xor .i64 a b:=by
 obtain ⟨x,rfl⟩:=Int.eq_ofNat_of_zero_le h0;obtain ⟨y,rfl⟩:=Int.eq_ofNat_of_zero_le h2;rw [bits_xor x y om_ om_];exact Int.natCast_nonneg _
theorem pick_ok {b:List Int} (hb:Bytes b) {p n:Int} (hp:0≤p) (hp2:p<1000000000) (hn:1≤n) (hn2:n≤1000000000) (k:Nat) :
  ∃ v,Xg.f (k+1) b p n=some (v,p+1)∧0≤v∧v<n:=by
 have e1:wrap64 (p+1)=p+1:=wrap64_id om_ om_
 have e2:wrap64 (p+1 - 1)=p:=by rw [wrap64_id om_ om_];omega
 have hn0:¬ n=0:=om_
 unfold Xg.f;rw [if_neg om_,e1];simp only [Xg.j0,e2];by_cases hl:b.length=0
 ·refine ⟨0,?_,om_,om_⟩;rw [if_pos (by simp [hl])]
 ·have hl1:(0:Int)<b.length:=om_
  have hl2:(b.length:Int)≤2000:=by have:=hb.1;omega
  have hlz:¬ (b.length:Int)=0:=om_
  rw [if_neg (by simp [hl])];by_cases c:p<(b.length:Int)
  ·rw [if_pos c,if_pos hp,if_neg hn0];obtain ⟨r0,r1⟩:=hb.2 _ (rd_mem hp c);have ew:wrap64 (rd b p)=rd b p:=wrap64_id om_ om_;rw [ew];refine ⟨_,rfl,Int.tmod_nonneg _ r0,?_⟩;rw [Int.tmod_eq_emod_of_nonneg r0];exact Int.emod_lt_of_pos _ om_
  ·have e3:wrap64 (p * 7)=p * 7:=wrap64_id om_ om_;have e4:wrap64 (p * 7+3)=p * 7+3:=wrap64_id om_ om_;have i0:0≤Int.tmod p b.length:=Int.tmod_nonneg _ hp
   have i1:Int.tmod p b.length<b.length:=by rw [Int.tmod_eq_emod_of_nonneg hp];exact Int.emod_lt_of_pos _ hl1
   have j0:0≤Int.tmod (p * 7+3) b.length:=Int.tmod_nonneg _ om_
   have j1:Int.tmod (p * 7+3) b.length<b.length:=by rw [Int.tmod_eq_emod_of_nonneg om_];exact Int.emod_lt_of_pos _ hl1
   have d0:0≤Int.tdiv p b.length:=Int.tdiv_nonneg hp om_
   have d1:Int.tdiv p b.length≤p:=by
    rw [Int.tdiv_eq_ediv_of_nonneg hp];exact Int.ediv_le_self _ hp
   obtain ⟨x0,x1⟩:=hb.2 _ (rd_mem i0 i1);obtain ⟨y0,y1⟩:=hb.2 _ (rd_mem j0 j1);rw [if_neg c,if_neg hlz,if_pos i0,if_pos i1,e3,e4,if_pos j0,if_pos j1,if_neg hn0];generalize rd b (Int.tmod p b.length)=x at x0 x1 ⊢;generalize rd b (Int.tmod (p * 7+3) b.length)=y at y0 y1 ⊢;generalize Int.tdiv p b.length=d at d0 d1 ⊢
   rw [wrap64_id (n:=x) om_ om_,wrap64_id (n:=y) om_ om_,wrap64_id (n:=d) om_ om_,
    wrap64_id (n:=x * 131) om_ om_,wrap64_id (n:=y * 1117) om_ om_,wrap64_id (n:=x * 131+y * 1117) om_ om_,
    wrap64_id (n:=p * 29) om_ om_,wrap64_id (n:=x * 131+y * 1117+p * 29) om_ om_,wrap64_id (n:=d * 53) om_ om_,
    wrap64_id (n:=x * 131+y * 1117+p * 29+d * 53) om_ om_]
   have z0:0≤x * 131+y * 1117+p * 29+d * 53:=om_
   have z1:x * 131+y * 1117+p * 29+d * 53<4611686018427387904:=om_
   generalize x * 131+y * 1117+p * 29+d * 53=z at z0 z1 ⊢;have q0:0≤Int.tdiv z 64:=Int.tdiv_nonneg z0 om_
   have q1:Int.tdiv z 64≤z:=by rw [Int.tdiv_eq_ediv_of_nonneg z0];exact Int.ediv_le_self _ z0
   rw [wrap64_id (n:=Int.tdiv z 64) om_ om_];have w0:=xor_nonneg z0 z1 q0 om_;refine ⟨_,rfl,Int.tmod_nonneg _ w0,?_⟩;rw [Int.tmod_eq_emod_of_nonneg w0];exact Int.emod_lt_of_pos _ om_
theorem num_ok {b:List Int} (hb:Bytes b) {p:Int} (hp:0≤p) (hp2:p<1000000000) {l:List Int} (hl:1≤l.length) (hl2:l.length≤1000000) (k:Nat) :
  ∃ v,Xk.f (k+1) b p l=some (v,p+1)∧v ∈ l:=by
 obtain ⟨v,h,h0,h1⟩:=pick_ok hb hp hp2 (n:=l.length) om_ om_ k;unfold Xk.f;rw [h];simp only [Option.bind_some];rw [if_pos h0,if_pos h1];exact ⟨_,rfl,rd_mem h0 h1⟩
theorem open_ok (l:List Int) (h:∀ x ∈ l,(Lit.int .u8 x).wf=true):∃ b,spec_l11Open.f l=some (b,0)∧Bytes b:=by
 have hw:∀ x ∈ l,0≤x∧x≤255:=fun x hx=>by
  have:=h x hx
  simp only [Lit.wf,Bool.and_eq_true,decide_eq_true_eq] at this;exact this
 unfold spec_l11Open.f;by_cases c:(l.length:Int) > 2000
 ·rw [if_pos c,if_pos om_];exact ⟨_,rfl,by rw [List.length_take];omega,fun x hx=>hw x (List.mem_of_mem_take hx)⟩
 ·rw [if_neg c];exact ⟨_,rfl,om_,hw⟩
open YtlhogkfmdnpmkaaW.PrintLast Evt
def Gives {α:Type} (g:Nat→Option α) (P:α→Prop):Prop:=∃ v,Evt g v∧P v
theorem Gives.pure {α:Type} {P:α→Prop} {v:α} (h:P v):Gives (fun _=>some v) P:=⟨v,Evt.pure v,h⟩
theorem Gives.bind {α β:Type} {g:Nat→Option α} {h:Nat→α→Option β} {P:α→Prop} {Q:β→Prop} (hg:Gives g P) (hh:∀ v,P v→Gives (fun k=>h k v) Q):Gives (fun k=>(g k).bind (h k)) Q:=by
 obtain ⟨v,h1,h2⟩:=hg;obtain ⟨u,h3,h4⟩:=hh v h2;exact ⟨u,Evt.bind h1 h3,h4⟩
theorem Gives.step {α:Type} {g:Nat→Option α} {P:α→Prop} (h:Gives (fun k=>g (k+1)) P):Gives g P:=by
 obtain ⟨v,h1,h2⟩:=h;exact ⟨v,Evt.step h1,h2⟩
theorem Gives.ite {α:Type} {c:Prop} [Decidable c] {g h:Nat→Option α} {P:α→Prop} (hg:c→Gives g P) (hh:¬ c→Gives h P):Gives (fun k=>if c then g k else h k) P:=by
 by_cases hc:c
 ·obtain ⟨v,h1,h2⟩:=hg hc;exact ⟨v,Evt.pos hc h1,h2⟩
 ·obtain ⟨v,h1,h2⟩:=hh hc;exact ⟨v,Evt.neg hc h1,h2⟩
theorem Gives.pos {α:Type} {c:Prop} [Decidable c] {g h:Nat→Option α} {P:α→Prop} (hc:c) (hg:Gives g P):Gives (fun k=>if c then g k else h k) P:=Gives.ite (fun _=>hg) (fun h=>absurd hc h)
theorem Gives.neg {α:Type} {c:Prop} [Decidable c] {g h:Nat→Option α} {P:α→Prop} (hc:¬ c) (hh:Gives h P):Gives (fun k=>if c then g k else h k) P:=Gives.ite (fun h=>absurd h hc) (fun _=>hh)
theorem Gives.mono {α:Type} {g:Nat→Option α} {P Q:α→Prop} (h:Gives g P) (hq:∀ v,P v→Q v):Gives g Q:=by
 obtain ⟨v,h1,h2⟩:=h;exact ⟨v,h1,hq v h2⟩
theorem Gives.pick {b:List Int} (hb:Bytes b) {p n:Int} (hp:0≤p) (hp2:p<1000000000) (hn:1≤n) (hn2:n≤1000000000):Gives (fun k=>Xg.f k b p n) (fun r=>0≤r.1∧r.1<n∧r.2=p+1):=by
 obtain ⟨v,h,h0,h1⟩:=pick_ok hb hp hp2 hn hn2 0;refine Gives.step ⟨(v,p+1),⟨0,fun k _=>?_⟩,h0,h1,rfl⟩
 have:=at_rounds (g:=fun k=>Xg.f k b p n) (fun k=>Xg.mono b p n k) (k:=0+1) (k':=k+1) om_ h
 exact this
theorem Gives.num {b:List Int} (hb:Bytes b) {p:Int} (hp:0≤p) (hp2:p<1000000000) {l:List Int} (hl:1≤l.length) (hl2:l.length≤1000000):Gives (fun k=>Xk.f k b p l) (fun r=>r.1 ∈ l∧r.2=p+1):=by
 obtain ⟨v,h,h0⟩:=num_ok hb hp hp2 hl hl2 0;refine Gives.step ⟨(v,p+1),⟨0,fun k _=>?_⟩,h0,rfl⟩;exact at_rounds (g:=fun k=>Xk.f k b p l) (fun k=>Xk.mono b p l k) (k:=0+1) (k':=k+1) om_ h
abbrev Stmt:=S69
def okT:Nat→Stmt→Prop
 |0,_=>False
 |d+1,s=>s.f4.length≤3∧s.f5.length≤3∧(∀ x ∈ s.f4,okT d x)∧(∀ x ∈ s.f5,okT d x)
theorem okT_leaf (d:Nat) (hd:1≤d) (a b c e:Int):okT d ⟨a,b,c,e,[],[]⟩:=by
 obtain ⟨d,rfl⟩:∃ m,d=m+1:=⟨d - 1,om_⟩;exact ⟨sm_,sm_,sm_,sm_⟩
def cost:Nat→Int
 |0=>0
 |d+1=>8+8 * cost d
theorem cost_nonneg:∀ d,0≤cost d
 |0=>Int.le_refl 0
 |d+1=>by have:=cost_nonneg d;unfold cost;omega
def Drawn (d:Nat) (p:Int) (r:Int × Int × Int × Int × List Stmt × List Stmt × Int):Prop:=
 okT d ⟨r.1,r.2.1,r.2.2.1,r.2.2.2.1,r.2.2.2.2.1,r.2.2.2.2.2.1⟩∧p≤r.2.2.2.2.2.2∧r.2.2.2.2.2.2≤p+cost d
def DrawnL (d:Nat) (most:Nat) (p:Int) (r:List Stmt × Int):Prop:=r.1.length≤most∧(∀ x ∈ r.1,okT d x)∧p≤r.2∧r.2≤p+1+most * cost d
theorem draws_loop {b:List Int} (hb:Bytes b) (d:Nat) (hd:1≤d) (D room:Int) (hdraw:∀ p,0≤p→p+cost d≤100000→Gives (fun k=>Xe.f k b p D room) (Drawn d p)) :
  ∀ (m:Nat) (acc:List Stmt) (p:Int),acc.length+m≤3→0≤p→p+m * cost d≤100000→(∀ x ∈ acc,okT d x)→
  Gives (fun k=>Yd.l0 k D room acc (m:Int) b p) (fun r=>r.1.length≤acc.length+m∧(∀ x ∈ r.1,okT d x)∧p≤r.2∧r.2≤p+m * cost d)
 |0,acc,p,h1,h2,h3,h4=>by
  refine Gives.step ?_;simp only [Yd.l0];exact Gives.neg om_ (Gives.pure ⟨sm_,h4,by simp only [];omega,by simp only [];omega⟩)
 |m+1,acc,p,h1,h2,h3,h4=>by
  have hc:=cost_nonneg d
  have hmc:((m+1:Nat):Int) * cost d=m * cost d+cost d:=by rw [Int.natCast_succ,Int.add_mul];omega
  rw [hmc] at h3;have hm0:0≤(m:Int) * cost d:=Int.mul_nonneg om_ hc;refine Gives.step ?_;simp only [Yd.l0];refine Gives.pos om_ (Gives.bind (hdraw p h2 om_) (fun r hr=>?_));obtain ⟨r1,r2,r3⟩:=hr;refine Gives.pos om_ ?_
  have e:wrap64 (((m+1:Nat):Int) - 1)=(m:Int):=by rw [w64 om_ om_];omega
  rw [e];refine (draws_loop hb d hd D room hdraw m _ _ (by simp;omega) om_ om_ (fun x hx=>?_)).mono (fun v hv=>?_)
  ·rcases List.mem_append.1 hx with hx|hx
   ·exact h4 x hx
   ·obtain rfl:=List.mem_singleton.1 hx;exact r1
  ·obtain ⟨v1,v2,v3,v4⟩:=hv;simp only [List.length_append,List.length_singleton] at v1;exact ⟨om_,v2,om_,by rw [hmc];omega⟩
theorem draws_ok {b:List Int} (hb:Bytes b) (d:Nat) (hd:1≤d) (D room:Int) (hdraw:∀ p,0≤p→p+cost d≤100000→Gives (fun k=>Xe.f k b p D room) (Drawn d p))
  (most:Nat) (hm:most≤3) (p:Int) (hp:0≤p) (hp2:p+1+3 * cost d≤100000):Gives (fun k=>Yd.f k b p D room (most:Int)) (DrawnL d most p):=by
 have hc:=cost_nonneg d;refine Gives.step ?_;simp only [Yd.f];rw [w64 (n:=(most:Int)+1) om_ om_];refine Gives.bind (Gives.pick hb hp om_ om_ om_) (fun r hr=>?_);obtain ⟨r0,r1,r2⟩:=hr;obtain ⟨m,hmm⟩:∃ m:Nat,r.1=(m:Int):=⟨r.1.toNat,om_⟩;rw [hmm,r2];have hle:(m:Int) * cost d≤most * cost d:=Int.mul_le_mul_of_nonneg_right om_ hc;have hle3:(most:Int) * cost d≤3 * cost d:=Int.mul_le_mul_of_nonneg_right om_ hc;refine (draws_loop hb d hd D room hdraw m [] (p+1) (by simp;omega) om_ om_ sm_).mono (fun v hv=>?_);obtain ⟨v1,v2,v3,v4⟩:=hv;simp only [List.length_nil] at v1;exact ⟨om_,v2,om_,om_⟩
set_option maxHeartbeats 4000000 in
theorem draw_j2 {b:List Int} (hb:Bytes b) (d:Nat) (D room x7 x8 kind:Int) (flag:Bool) (p:Int) (hp:0≤p) (hp2:p+3+8 * cost d≤100000)
  (hin:6≤kind→kind≤8→∀ (R:Int) (most:Nat) (q:Int),most≤3→0≤q→q+1+3 * cost d≤100000→1≤d∧Gives (fun k=>Yd.f k b q (wrap64 (D - 1)) R (most:Int)) (DrawnL d most q)) :
  Gives (fun k=>Xe.j2 k D room x7 x8 kind kind flag b p) (fun r=>okT (d+1) ⟨r.1,r.2.1,r.2.2.1,r.2.2.2.1,r.2.2.2.2.1,r.2.2.2.2.2.1⟩∧p≤r.2.2.2.2.2.2∧r.2.2.2.2.2.2≤p+3+4 * cost d):=by
 have hc:=cost_nonneg d;refine Gives.step ?_;simp only [Xe.j2];refine Gives.ite (fun _=>Gives.pure ⟨okT_leaf _ om_ _ _ _ _,by simp only [];omega,by simp only [];omega⟩) (fun _=>?_);refine Gives.ite (fun _=>Gives.pure ⟨okT_leaf _ om_ _ _ _ _,by simp only [];omega,by simp only [];omega⟩) (fun _=>?_);refine Gives.ite (fun h6=>?_) (fun _=>Gives.ite (fun h7=>?_) (fun _=>Gives.ite (fun h8=>?_) (fun _=>Gives.ite (fun _=>?_) (fun _=>Gives.ite (fun _=>?_) (fun _=>?_)))))
 ·obtain ⟨d1,g1⟩:=hin om_ om_ room 2 p om_ hp om_;refine Gives.bind g1 (fun r hr=>?_);obtain ⟨a1,a2,a3,a4⟩:=hr;obtain ⟨_,g2⟩:=hin om_ om_ room 2 r.2 om_ om_ om_;refine Gives.bind g2 (fun s hs=>Gives.pure ?_);obtain ⟨b1,b2,b3,b4⟩:=hs;exact ⟨⟨by show r.1.length≤3;omega,by show s.1.length≤3;omega,a2,b2⟩,by simp only [];omega,by simp only [];omega⟩
 ·obtain ⟨d1,g1⟩:=hin om_ om_ room 2 p om_ hp om_;refine Gives.bind g1 (fun r hr=>?_);obtain ⟨a1,a2,a3,a4⟩:=hr;refine Gives.bind (Gives.num hb om_ om_ sm_ sm_) (fun s hs=>?_);obtain ⟨_,b2⟩:=hs;refine Gives.pos om_ (Gives.pure ⟨⟨by simp;omega,sm_,fun x hx=>?_,sm_⟩,by simp only [];omega,by simp only [];omega⟩)
  rcases List.mem_append.1 hx with hx|hx
  ·exact a2 x hx
  ·obtain rfl:=List.mem_singleton.1 hx;exact okT_leaf _ d1 _ _ _ _
 ·refine Gives.bind (Gives.pick hb hp om_ om_ om_) (fun s hs=>?_);obtain ⟨s0,s1,s2⟩:=hs;rw [s2];obtain ⟨d1,g1⟩:=hin om_ om_ s.1 3 (p+1) om_ om_ om_;refine Gives.bind g1 (fun r hr=>Gives.pure ?_);obtain ⟨a1,a2,a3,a4⟩:=hr;exact ⟨⟨by show r.1.length≤3;omega,sm_,a2,sm_⟩,by simp only [];omega,by simp only [];omega⟩
 ·refine Gives.bind (Gives.pick hb hp om_ om_ om_) (fun s hs=>Gives.pure ?_);obtain ⟨s0,s1,s2⟩:=hs;exact ⟨okT_leaf _ om_ _ _ _ _,by simp only [];omega,by simp only [];omega⟩
 ·refine Gives.bind (Gives.pick hb hp om_ om_ om_) (fun s hs=>Gives.pure ?_);obtain ⟨s0,s1,s2⟩:=hs;exact ⟨okT_leaf _ om_ _ _ _ _,by simp only [];omega,by simp only [];omega⟩
 ·exact Gives.pure ⟨okT_leaf _ om_ _ _ _ _,by simp only [];omega,by simp only [];omega⟩
theorem draw_j1 {b:List Int} (hb:Bytes b) (d:Nat) (D room x7 x8 kind:Int) (p:Int) (hp:0≤p) (hp2:p+3+8 * cost d≤100000)
  (hin:6≤kind→kind≤8→∀ (R:Int) (most:Nat) (q:Int),most≤3→0≤q→q+1+3 * cost d≤100000→1≤d∧Gives (fun k=>Yd.f k b q (wrap64 (D - 1)) R (most:Int)) (DrawnL d most q)) :
  Gives (fun k=>Xe.j1 k D room x7 x8 kind b p) (fun r=>okT (d+1) ⟨r.1,r.2.1,r.2.2.1,r.2.2.2.1,r.2.2.2.2.1,r.2.2.2.2.2.1⟩∧p≤r.2.2.2.2.2.2∧r.2.2.2.2.2.2≤p+3+4 * cost d):=by
 have hc:=cost_nonneg d;refine Gives.step ?_;simp only [Xe.j1];refine Gives.ite (fun _=>?_) (fun _=>Gives.ite (fun _=>?_) (fun _=>Gives.ite (fun _=>draw_j2 hb d D room x7 x8 kind _ p hp hp2 hin) (fun _=>draw_j2 hb d D room x7 x8 kind _ p hp hp2 hin)))
 ·refine Gives.bind (Gives.num hb hp om_ sm_ sm_) (fun s hs=>Gives.pure ?_);obtain ⟨_,s2⟩:=hs;exact ⟨okT_leaf _ om_ _ _ _ _,by simp only [];omega,by simp only [];omega⟩
 ·refine Gives.bind (Gives.pick hb hp om_ om_ om_) (fun s hs=>Gives.pure ?_);obtain ⟨s0,s1,s2⟩:=hs;exact ⟨okT_leaf _ om_ _ _ _ _,by simp only [];omega,by simp only [];omega⟩
theorem draw_j0 {b:List Int} (hb:Bytes b) (d:Nat) (D room x7 x8 kind:Int) (flag:Bool) (p:Int) (hp:0≤p) (hp2:p+4+8 * cost d≤100000)
  (hin:flag=false→6≤kind→kind≤8→∀ (R:Int) (most:Nat) (q:Int),most≤3→0≤q→q+1+3 * cost d≤100000→1≤d∧Gives (fun k=>Yd.f k b q (wrap64 (D - 1)) R (most:Int)) (DrawnL d most q)) :
  Gives (fun k=>Xe.j0 k D room x7 x8 kind flag b p) (fun r=>okT (d+1) ⟨r.1,r.2.1,r.2.2.1,r.2.2.2.1,r.2.2.2.2.1,r.2.2.2.2.2.1⟩∧p≤r.2.2.2.2.2.2∧r.2.2.2.2.2.2≤p+4+4 * cost d):=by
 have hc:=cost_nonneg d;refine Gives.step ?_;simp only [Xe.j0];refine Gives.ite (fun hf=>?_) (fun hf=>?_)
 ·refine Gives.bind (Gives.num hb hp om_ sm_ sm_) (fun s hs=>?_);obtain ⟨s1,s2⟩:=hs;rw [s2];refine (draw_j1 hb d D room x7 x8 s.1 (p+1) om_ om_ (fun h1 h2=>?_)).mono (fun v hv=>⟨hv.1,om_,om_⟩);simp at s1;omega
 ·exact (draw_j1 hb d D room x7 x8 kind p hp om_ (hin (by simpa using hf))).mono (fun v hv=>⟨hv.1,om_,om_⟩)
theorem draw_ok {b:List Int} (hb:Bytes b):∀ (d:Nat),d<3→∀ (room p:Int),0≤p→p+cost (d+1)≤100000→Gives (fun k=>Xe.f k b p ((d+1:Nat):Int) room) (Drawn (d+1) p):=by
 intro d
 induction d with
 |zero=>
  intro _ room p hp hp2;have hc:cost (0+1)=8:=rfl;refine Gives.step ?_;simp only [Xe.f];refine Gives.bind (Gives.pick hb hp om_ om_ om_) (fun r hr=>?_);obtain ⟨_,_,r2⟩:=hr;rw [r2];refine Gives.bind (Gives.pick hb om_ om_ om_ om_) (fun s hs=>?_);obtain ⟨_,_,s2⟩:=hs;rw [s2];refine Gives.bind (Gives.num hb om_ om_ sm_ sm_) (fun t ht=>?_);obtain ⟨t1,t2⟩:=ht;rw [t2]
  have fin:∀ flag:Bool,(flag=false→¬ (6≤t.1∧t.1≤8))→Gives (fun k=>Xe.j0 k ((0+1:Nat):Int) room r.1 s.1 t.1 flag b (p+1+1+1)) (Drawn (0+1) p):=fun flag hf=>by
   refine (draw_j0 hb 0 _ room r.1 s.1 t.1 flag (p+1+1+1) om_ (by show _+8 * 0≤_;omega) (fun h1 h2 h3=>absurd ⟨h2,h3⟩ (hf h1))).mono (fun v hv=>⟨hv.1,om_,?_⟩)
   have:cost 0=0:=rfl
   omega
  refine Gives.ite (fun _=>?_) (fun h=>absurd (show ((0+1:Nat):Int)<2 by omega) h)
  repeat' first
   |(refine fin _ (fun h=>?_);first|omega|(exact absurd h sm_))
   |refine Gives.ite (fun _=>?_) (fun _=>?_)
 |succ d ih=>
  intro hd room p hp hp2;have hce:cost (d+1+1)=8+8 * cost (d+1):=rfl;have hcn:=cost_nonneg (d+1)
  have hin:∀ (R:Int) (most:Nat) (q:Int),most≤3→0≤q→q+1+3 * cost (d+1)≤100000→1≤d+1∧Gives (fun k=>Yd.f k b q (wrap64 (((d+1+1:Nat):Int) - 1)) R (most:Int)) (DrawnL (d+1) most q):=fun R most q h1 h2 h3=>by
   have e:wrap64 (((d+1+1:Nat):Int) - 1)=((d+1:Nat):Int):=by rw [w64 om_ om_];omega
   rw [e];exact ⟨om_,draws_ok hb (d+1) om_ _ R (fun q' h4 h5=>ih om_ R q' h4 h5) most h1 q h2 h3⟩
  refine Gives.step ?_;simp only [Xe.f];refine Gives.bind (Gives.pick hb hp om_ om_ om_) (fun r hr=>?_);obtain ⟨_,_,r2⟩:=hr;rw [r2];refine Gives.bind (Gives.pick hb om_ om_ om_ om_) (fun s hs=>?_);obtain ⟨_,_,s2⟩:=hs;rw [s2];refine Gives.bind (Gives.num hb om_ om_ sm_ sm_) (fun t ht=>?_);obtain ⟨t1,t2⟩:=ht;rw [t2]
  have fin:∀ flag:Bool,Gives (fun k=>Xe.j0 k ((d+1+1:Nat):Int) room r.1 s.1 t.1 flag b (p+1+1+1)) (Drawn (d+1+1) p):=fun flag=>by
   exact (draw_j0 hb (d+1) _ room r.1 s.1 t.1 flag (p+1+1+1) om_ om_ (fun _ _ _=>hin)).mono (fun v hv=>⟨hv.1,om_,om_⟩)
  repeat' first
   |exact fin _
   |refine Gives.ite (fun _=>?_) (fun _=>?_)
end Go.Proofs.Ytlhogkfmdnpmkaa.Pure
