import Derived.Test.YtdkcjecllbdljaaDoorCFnCodeLines52
import Derived.Test.YtdkcjecllbdljaaDoorCFnCodeLines56
namespace Go.Proofs.YtdkcjecllbdljaaDoor.Pure
open Go.RowKit Go.Proofs.YtdkcjecllbdljaaDoor.GCode Go.Proofs.YtdkcjecllbdljaaDoorW.PrintWords Go.Proofs.YtdkcjecllbdljaaDoorW.PrintLast Go.Proofs.YtdkcjecllbdljaaDoorW.PrintMore Go.Proofs.YtdkcjecllbdljaaDoor.Evt
set_option linter.unusedVariables false
set_option linter.unusedSimpArgs false
def Gives {α:Type} (g:Nat→Option α) (P:α→Prop):Prop:=∃ v,Evt g v∧P v
theorem Gives.pure {α:Type} {P:α→Prop} {v:α} (h:P v):Gives (fun _=>some v) P:=⟨v,Evt.pure v,h⟩
theorem Gives.bind {α β:Type} {g:Nat→Option α} {h:Nat→α→Option β} {P:α→Prop} {Q:β→Prop} (hg:Gives g P) (hh:∀ v,P v→Gives (fun k=>h k v) Q):Gives (fun k=>(g k).bind (h k)) Q:=by
  obtain ⟨v,h1,h2⟩:=hg;obtain ⟨u,h3,h4⟩:=hh v h2;exact ⟨u,Evt.bind h1 h3,h4⟩
theorem Gives.step {α:Type} {g:Nat→Option α} {P:α→Prop} (h:Gives (fun k=>g (k+1)) P):Gives g P:=by
  obtain ⟨v,h1,h2⟩:=h;exact ⟨v,Evt.step h1,h2⟩
theorem Gives.ite {α:Type} {c:Prop} [Decidable c] {g h:Nat→Option α} {P:α→Prop} (hg:c→Gives g P) (hh:¬ c→Gives h P):Gives (fun k=>if c then g k else h k) P:=by
  by_cases hc:c
  · obtain ⟨v,h1,h2⟩:=hg hc
    exact ⟨v,Evt.pos hc h1,h2⟩
  · obtain ⟨v,h1,h2⟩:=hh hc
    exact ⟨v,Evt.neg hc h1,h2⟩
theorem Gives.pos {α:Type} {c:Prop} [Decidable c] {g h:Nat→Option α} {P:α→Prop} (hc:c) (hg:Gives g P):Gives (fun k=>if c then g k else h k) P:=Gives.ite (fun _=>hg) (fun h=>absurd hc h)
theorem Gives.neg {α:Type} {c:Prop} [Decidable c] {g h:Nat→Option α} {P:α→Prop} (hc:¬ c) (hh:Gives h P):Gives (fun k=>if c then g k else h k) P:=Gives.ite (fun h=>absurd h hc) (fun _=>hh)
theorem Gives.mono {α:Type} {g:Nat→Option α} {P Q:α→Prop} (h:Gives g P) (hq:∀ v,P v→Q v):Gives g Q:=by
  obtain ⟨v,h1,h2⟩:=h;exact ⟨v,h1,hq v h2⟩
theorem Gives.pick {b:List Int} (hb:Bytes b) {p n:Int} (hp:0≤p) (hp2:p<1000000000) (hn:1≤n) (hn2:n≤1000000000):Gives (fun k=>Xf.f k b p n) (fun r=>0≤r.1∧r.1<n∧r.2=p+1):=by
  obtain ⟨v,h,h0,h1⟩:=pick_ok hb hp hp2 hn hn2 0;refine Gives.step ⟨(v,p+1),⟨0,fun k _=>?_⟩,h0,h1,rfl⟩
  have:=at_rounds (g:=fun k=>Xf.f k b p n) (fun k=>Xf.mono b p n k) (k:=0+1) (k':=k+1) (by omega) h
  exact this
theorem Gives.num {b:List Int} (hb:Bytes b) {p:Int} (hp:0≤p) (hp2:p<1000000000) {l:List Int} (hl:1≤l.length) (hl2:l.length≤1000000):Gives (fun k=>Xp.f k b p l) (fun r=>r.1 ∈ l∧r.2=p+1):=by
  obtain ⟨v,h,h0⟩:=num_ok hb hp hp2 hl hl2 0;refine Gives.step ⟨(v,p+1),⟨0,fun k _=>?_⟩,h0,rfl⟩
  exact at_rounds (g:=fun k=>Xp.f k b p l) (fun k=>Xp.mono b p l k) (k:=0+1) (k':=k+1) (by omega) h
end Go.Proofs.YtdkcjecllbdljaaDoor.Pure
