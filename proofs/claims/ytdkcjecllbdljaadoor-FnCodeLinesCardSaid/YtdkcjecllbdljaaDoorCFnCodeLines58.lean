import Derived.Test.YtdkcjecllbdljaaDoorCFnCodeLines57
import Derived.Test.YtdkcjecllbdljaaDoorCFnCodeLines49
namespace Go.Proofs.YtdkcjecllbdljaaDoor.Pure
open Go.RowKit Go.Proofs.YtdkcjecllbdljaaDoor.GCode Go.Proofs.YtdkcjecllbdljaaDoorW.PrintWords Go.Proofs.YtdkcjecllbdljaaDoorW.PrintLast Go.Proofs.YtdkcjecllbdljaaDoorW.PrintMore Go.Proofs.YtdkcjecllbdljaaDoor.Evt
set_option linter.unusedVariables false
set_option linter.unusedSimpArgs false
abbrev Stmt:=S62
def okT:Nat→Stmt→Prop
  |0,_=>False
  |d+1,s=>s.f4.length≤3∧s.f5.length≤3∧(∀ x ∈ s.f4,okT d x)∧(∀ x ∈ s.f5,okT d x)
theorem okT_leaf (d:Nat) (hd:1≤d) (a b c e:Int):okT d ⟨a,b,c,e,[],[]⟩:=by
  obtain ⟨d,rfl⟩:∃ m,d=m+1:=⟨d - 1,by omega⟩
  exact ⟨by simp,by simp,by simp,by simp⟩
def cost:Nat→Int
  |0=>0
  |d+1=>8+8 * cost d
theorem cost_nonneg:∀ d,0≤cost d
  |0=>Int.le_refl 0
  |d+1=>by have:=cost_nonneg d;unfold cost;omega
def Drawn (d:Nat) (p:Int) (r:Int × Int × Int × Int × List Stmt × List Stmt × Int):Prop:=
  okT d ⟨r.1,r.2.1,r.2.2.1,r.2.2.2.1,r.2.2.2.2.1,r.2.2.2.2.2.1⟩∧p≤r.2.2.2.2.2.2∧r.2.2.2.2.2.2≤p+cost d
def DrawnL (d:Nat) (most:Nat) (p:Int) (r:List Stmt × Int):Prop:=r.1.length≤most∧(∀ x ∈ r.1,okT d x)∧p≤r.2∧r.2≤p+1+most * cost d
theorem draws_loop {b:List Int} (hb:Bytes b) (d:Nat) (hd:1≤d) (D room:Int) (hdraw:∀ p,0≤p→p+cost d≤100000→Gives (fun k=>Xe.f k b p D room) (Drawn d p)) :
    ∀ (m:Nat) (acc:List Stmt) (p:Int),acc.length+m≤3→0≤p→p+m * cost d≤100000→(∀ x ∈ acc,okT d x)→
    Gives (fun k=>Yk.l0 k D room acc (m:Int) b p) (fun r=>r.1.length≤acc.length+m∧(∀ x ∈ r.1,okT d x)∧p≤r.2∧r.2≤p+m * cost d)
  |0,acc,p,h1,h2,h3,h4=>by
    refine Gives.step ?_
    simp only [Yk.l0]
    exact Gives.neg (by omega) (Gives.pure ⟨by simp,h4,by simp only [];omega,by simp only [];omega⟩)
  |m+1,acc,p,h1,h2,h3,h4=>by
    have hc:=cost_nonneg d
    have hmc:((m+1:Nat):Int) * cost d=m * cost d+cost d:=by rw [Int.natCast_succ,Int.add_mul];omega
    rw [hmc] at h3
    have hm0:0≤(m:Int) * cost d:=Int.mul_nonneg (by omega) hc
    refine Gives.step ?_
    simp only [Yk.l0]
    refine Gives.pos (by omega) (Gives.bind (hdraw p h2 (by omega)) (fun r hr=>?_))
    obtain ⟨r1,r2,r3⟩:=hr
    refine Gives.pos (by omega) ?_
    have e:wrap64 (((m+1:Nat):Int) - 1)=(m:Int):=by rw [w64 (by omega) (by omega)];omega
    rw [e]
    refine (draws_loop hb d hd D room hdraw m _ _ (by simp;omega) (by omega) (by omega) (fun x hx=>?_)).mono (fun v hv=>?_)
    · rcases List.mem_append.1 hx with hx|hx
      · exact h4 x hx
      · obtain rfl:=List.mem_singleton.1 hx
        exact r1
    · obtain ⟨v1,v2,v3,v4⟩:=hv
      simp only [List.length_append,List.length_singleton] at v1
      exact ⟨by omega,v2,by omega,by rw [hmc];omega⟩
theorem draws_ok {b:List Int} (hb:Bytes b) (d:Nat) (hd:1≤d) (D room:Int) (hdraw:∀ p,0≤p→p+cost d≤100000→Gives (fun k=>Xe.f k b p D room) (Drawn d p))
    (most:Nat) (hm:most≤3) (p:Int) (hp:0≤p) (hp2:p+1+3 * cost d≤100000):Gives (fun k=>Yk.f k b p D room (most:Int)) (DrawnL d most p):=by
  have hc:=cost_nonneg d
  refine Gives.step ?_
  simp only [Yk.f]
  rw [w64 (n:=(most:Int)+1) (by omega) (by omega)]
  refine Gives.bind (Gives.pick hb hp (by omega) (by omega) (by omega)) (fun r hr=>?_)
  obtain ⟨r0,r1,r2⟩:=hr
  obtain ⟨m,hmm⟩:∃ m:Nat,r.1=(m:Int):=⟨r.1.toNat,by omega⟩
  rw [hmm,r2]
  have hle:(m:Int) * cost d≤most * cost d:=Int.mul_le_mul_of_nonneg_right (by omega) hc
  have hle3:(most:Int) * cost d≤3 * cost d:=Int.mul_le_mul_of_nonneg_right (by omega) hc
  refine (draws_loop hb d hd D room hdraw m [] (p+1) (by simp;omega) (by omega) (by omega) (by simp)).mono (fun v hv=>?_)
  obtain ⟨v1,v2,v3,v4⟩:=hv
  simp only [List.length_nil] at v1
  exact ⟨by omega,v2,by omega,by omega⟩
set_option maxHeartbeats 4000000 in
theorem draw_j2 {b:List Int} (hb:Bytes b) (d:Nat) (D room x7 x8 kind:Int) (flag:Bool) (p:Int) (hp:0≤p) (hp2:p+3+8 * cost d≤100000)
    (hin:6≤kind→kind≤8→∀ (R:Int) (most:Nat) (q:Int),most≤3→0≤q→q+1+3 * cost d≤100000→1≤d∧Gives (fun k=>Yk.f k b q (wrap64 (D - 1)) R (most:Int)) (DrawnL d most q)) :
    Gives (fun k=>Xe.j2 k D room x7 x8 kind kind flag b p) (fun r=>okT (d+1) ⟨r.1,r.2.1,r.2.2.1,r.2.2.2.1,r.2.2.2.2.1,r.2.2.2.2.2.1⟩∧p≤r.2.2.2.2.2.2∧r.2.2.2.2.2.2≤p+3+4 * cost d):=by
  have hc:=cost_nonneg d
  refine Gives.step ?_
  simp only [Xe.j2]
  refine Gives.ite (fun _=>Gives.pure ⟨okT_leaf _ (by omega) _ _ _ _,by simp only [];omega,by simp only [];omega⟩) (fun _=>?_)
  refine Gives.ite (fun _=>Gives.pure ⟨okT_leaf _ (by omega) _ _ _ _,by simp only [];omega,by simp only [];omega⟩) (fun _=>?_)
  refine Gives.ite (fun h6=>?_) (fun _=>Gives.ite (fun h7=>?_) (fun _=>Gives.ite (fun h8=>?_) (fun _=>Gives.ite (fun _=>?_) (fun _=>Gives.ite (fun _=>?_) (fun _=>?_)))))
  · obtain ⟨d1,g1⟩:=hin (by omega) (by omega) room 2 p (by omega) hp (by omega)
    refine Gives.bind g1 (fun r hr=>?_)
    obtain ⟨a1,a2,a3,a4⟩:=hr
    obtain ⟨_,g2⟩:=hin (by omega) (by omega) room 2 r.2 (by omega) (by omega) (by omega)
    refine Gives.bind g2 (fun s hs=>Gives.pure ?_)
    obtain ⟨b1,b2,b3,b4⟩:=hs
    exact ⟨⟨by show r.1.length≤3;omega,by show s.1.length≤3;omega,a2,b2⟩,by simp only [];omega,by simp only [];omega⟩
  · obtain ⟨d1,g1⟩:=hin (by omega) (by omega) room 2 p (by omega) hp (by omega)
    refine Gives.bind g1 (fun r hr=>?_)
    obtain ⟨a1,a2,a3,a4⟩:=hr
    refine Gives.bind (Gives.num hb (by omega) (by omega) (by simp) (by simp)) (fun s hs=>?_)
    obtain ⟨_,b2⟩:=hs
    refine Gives.pos (by omega) (Gives.pure ⟨⟨by simp;omega,by simp,fun x hx=>?_,by simp⟩,by simp only [];omega,by simp only [];omega⟩)
    rcases List.mem_append.1 hx with hx|hx
    · exact a2 x hx
    · obtain rfl:=List.mem_singleton.1 hx
      exact okT_leaf _ d1 _ _ _ _
  · refine Gives.bind (Gives.pick hb hp (by omega) (by omega) (by omega)) (fun s hs=>?_)
    obtain ⟨s0,s1,s2⟩:=hs
    rw [s2]
    obtain ⟨d1,g1⟩:=hin (by omega) (by omega) s.1 3 (p+1) (by omega) (by omega) (by omega)
    refine Gives.bind g1 (fun r hr=>Gives.pure ?_)
    obtain ⟨a1,a2,a3,a4⟩:=hr
    exact ⟨⟨by show r.1.length≤3;omega,by simp,a2,by simp⟩,by simp only [];omega,by simp only [];omega⟩
  · refine Gives.bind (Gives.pick hb hp (by omega) (by omega) (by omega)) (fun s hs=>Gives.pure ?_)
    obtain ⟨s0,s1,s2⟩:=hs
    exact ⟨okT_leaf _ (by omega) _ _ _ _,by simp only [];omega,by simp only [];omega⟩
  · refine Gives.bind (Gives.pick hb hp (by omega) (by omega) (by omega)) (fun s hs=>Gives.pure ?_)
    obtain ⟨s0,s1,s2⟩:=hs
    exact ⟨okT_leaf _ (by omega) _ _ _ _,by simp only [];omega,by simp only [];omega⟩
  · exact Gives.pure ⟨okT_leaf _ (by omega) _ _ _ _,by simp only [];omega,by simp only [];omega⟩
theorem draw_j1 {b:List Int} (hb:Bytes b) (d:Nat) (D room x7 x8 kind:Int) (p:Int) (hp:0≤p) (hp2:p+3+8 * cost d≤100000)
    (hin:6≤kind→kind≤8→∀ (R:Int) (most:Nat) (q:Int),most≤3→0≤q→q+1+3 * cost d≤100000→1≤d∧Gives (fun k=>Yk.f k b q (wrap64 (D - 1)) R (most:Int)) (DrawnL d most q)) :
    Gives (fun k=>Xe.j1 k D room x7 x8 kind b p) (fun r=>okT (d+1) ⟨r.1,r.2.1,r.2.2.1,r.2.2.2.1,r.2.2.2.2.1,r.2.2.2.2.2.1⟩∧p≤r.2.2.2.2.2.2∧r.2.2.2.2.2.2≤p+3+4 * cost d):=by
  have hc:=cost_nonneg d
  refine Gives.step ?_
  simp only [Xe.j1]
  refine Gives.ite (fun _=>?_) (fun _=>Gives.ite (fun _=>?_) (fun _=>Gives.ite (fun _=>draw_j2 hb d D room x7 x8 kind _ p hp hp2 hin) (fun _=>draw_j2 hb d D room x7 x8 kind _ p hp hp2 hin)))
  · refine Gives.bind (Gives.num hb hp (by omega) (by simp) (by simp)) (fun s hs=>Gives.pure ?_)
    obtain ⟨_,s2⟩:=hs
    exact ⟨okT_leaf _ (by omega) _ _ _ _,by simp only [];omega,by simp only [];omega⟩
  · refine Gives.bind (Gives.pick hb hp (by omega) (by omega) (by omega)) (fun s hs=>Gives.pure ?_)
    obtain ⟨s0,s1,s2⟩:=hs
    exact ⟨okT_leaf _ (by omega) _ _ _ _,by simp only [];omega,by simp only [];omega⟩
theorem draw_j0 {b:List Int} (hb:Bytes b) (d:Nat) (D room x7 x8 kind:Int) (flag:Bool) (p:Int) (hp:0≤p) (hp2:p+4+8 * cost d≤100000)
    (hin:flag=false→6≤kind→kind≤8→∀ (R:Int) (most:Nat) (q:Int),most≤3→0≤q→q+1+3 * cost d≤100000→1≤d∧Gives (fun k=>Yk.f k b q (wrap64 (D - 1)) R (most:Int)) (DrawnL d most q)) :
    Gives (fun k=>Xe.j0 k D room x7 x8 kind flag b p) (fun r=>okT (d+1) ⟨r.1,r.2.1,r.2.2.1,r.2.2.2.1,r.2.2.2.2.1,r.2.2.2.2.2.1⟩∧p≤r.2.2.2.2.2.2∧r.2.2.2.2.2.2≤p+4+4 * cost d):=by
  have hc:=cost_nonneg d
  refine Gives.step ?_
  simp only [Xe.j0]
  refine Gives.ite (fun hf=>?_) (fun hf=>?_)
  · refine Gives.bind (Gives.num hb hp (by omega) (by simp) (by simp)) (fun s hs=>?_)
    obtain ⟨s1,s2⟩:=hs
    rw [s2]
    refine (draw_j1 hb d D room x7 x8 s.1 (p+1) (by omega) (by omega) (fun h1 h2=>?_)).mono (fun v hv=>⟨hv.1,by omega,by omega⟩)
    simp at s1
    omega
  · exact (draw_j1 hb d D room x7 x8 kind p hp (by omega) (hin (by simpa using hf))).mono (fun v hv=>⟨hv.1,by omega,by omega⟩)
theorem draw_ok {b:List Int} (hb:Bytes b):∀ (d:Nat),d<3→∀ (room p:Int),0≤p→p+cost (d+1)≤100000→Gives (fun k=>Xe.f k b p ((d+1:Nat):Int) room) (Drawn (d+1) p):=by
  intro d
  induction d with
  |zero=>
    intro _ room p hp hp2
    have hc:cost (0+1)=8:=rfl
    refine Gives.step ?_
    simp only [Xe.f]
    refine Gives.bind (Gives.pick hb hp (by omega) (by omega) (by omega)) (fun r hr=>?_)
    obtain ⟨_,_,r2⟩:=hr
    rw [r2]
    refine Gives.bind (Gives.pick hb (by omega) (by omega) (by omega) (by omega)) (fun s hs=>?_)
    obtain ⟨_,_,s2⟩:=hs
    rw [s2]
    refine Gives.bind (Gives.num hb (by omega) (by omega) (by simp) (by simp)) (fun t ht=>?_)
    obtain ⟨t1,t2⟩:=ht
    rw [t2]
    have fin:∀ flag:Bool,(flag=false→¬ (6≤t.1∧t.1≤8))→Gives (fun k=>Xe.j0 k ((0+1:Nat):Int) room r.1 s.1 t.1 flag b (p+1+1+1)) (Drawn (0+1) p):=fun flag hf=>by
      refine (draw_j0 hb 0 _ room r.1 s.1 t.1 flag (p+1+1+1) (by omega) (by show _+8 * 0≤_;omega) (fun h1 h2 h3=>absurd ⟨h2,h3⟩ (hf h1))).mono (fun v hv=>⟨hv.1,by omega,?_⟩)
      have:cost 0=0:=rfl
      omega
    refine Gives.ite (fun _=>?_) (fun h=>absurd (show ((0+1:Nat):Int)<2 by omega) h)
    repeat' first
      |(refine fin _ (fun h=>?_);first|omega|(exact absurd h (by simp)))
      |refine Gives.ite (fun _=>?_) (fun _=>?_)
  |succ d ih=>
    intro hd room p hp hp2
    have hce:cost (d+1+1)=8+8 * cost (d+1):=rfl
    have hcn:=cost_nonneg (d+1)
    have hin:∀ (R:Int) (most:Nat) (q:Int),most≤3→0≤q→q+1+3 * cost (d+1)≤100000→1≤d+1∧Gives (fun k=>Yk.f k b q (wrap64 (((d+1+1:Nat):Int) - 1)) R (most:Int)) (DrawnL (d+1) most q):=fun R most q h1 h2 h3=>by
      have e:wrap64 (((d+1+1:Nat):Int) - 1)=((d+1:Nat):Int):=by rw [w64 (by omega) (by omega)];omega
      rw [e]
      exact ⟨by omega,draws_ok hb (d+1) (by omega) _ R (fun q' h4 h5=>ih (by omega) R q' h4 h5) most h1 q h2 h3⟩
    refine Gives.step ?_
    simp only [Xe.f]
    refine Gives.bind (Gives.pick hb hp (by omega) (by omega) (by omega)) (fun r hr=>?_)
    obtain ⟨_,_,r2⟩:=hr
    rw [r2]
    refine Gives.bind (Gives.pick hb (by omega) (by omega) (by omega) (by omega)) (fun s hs=>?_)
    obtain ⟨_,_,s2⟩:=hs
    rw [s2]
    refine Gives.bind (Gives.num hb (by omega) (by omega) (by simp) (by simp)) (fun t ht=>?_)
    obtain ⟨t1,t2⟩:=ht
    rw [t2]
    have fin:∀ flag:Bool,Gives (fun k=>Xe.j0 k ((d+1+1:Nat):Int) room r.1 s.1 t.1 flag b (p+1+1+1)) (Drawn (d+1+1) p):=fun flag=>by
      exact (draw_j0 hb (d+1) _ room r.1 s.1 t.1 flag (p+1+1+1) (by omega) (by omega) (fun _ _ _=>hin)).mono (fun v hv=>⟨hv.1,by omega,by omega⟩)
    repeat' first
      |exact fin _
      |refine Gives.ite (fun _=>?_) (fun _=>?_)
end Go.Proofs.YtdkcjecllbdljaaDoor.Pure
