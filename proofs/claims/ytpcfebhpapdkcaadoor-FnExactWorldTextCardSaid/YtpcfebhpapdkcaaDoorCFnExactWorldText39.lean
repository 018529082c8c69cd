import Derived.Test.YtpcfebhpapdkcaaDoorCFnExactWorldText1
import Derived.Test.YtpcfebhpapdkcaaDoorCFnExactWorldText21
namespace Go.Proofs.YtpcfebhpapdkcaaDoor.Evt
open Go.RowKit Go.Proofs.YtpcfebhpapdkcaaDoorW.PrintWords Go.Proofs.YtpcfebhpapdkcaaDoorW.PrintMore
def Evt {α:Type} (g:Nat→Option α) (v:α):Prop:=∃ k0,∀ k,k0≤k→g k=some v
variable {α β:Type}
theorem Evt.pure (v:α):Evt (fun _=>some v) v:=⟨0,fun _ _=>rfl⟩
theorem Evt.of_eq {g:Nat→Option α} {v:α} (h:∀ k,g k=some v):Evt g v:=⟨0,fun k _=>h k⟩
theorem Evt.bind {g:Nat→Option α} {h:Nat→α→Option β} {v:α} {u:β} (hg:Evt g v) (hh:Evt (fun k=>h k v) u):Evt (fun k=>(g k).bind (h k)) u:=by
  obtain ⟨k0,h0⟩:=hg;obtain ⟨k1,h1⟩:=hh;refine ⟨max k0 k1,fun k hk=>?_⟩
  show (g k).bind (h k)=some u
  rw [h0 k (by omega)];exact h1 k (by omega)
theorem Evt.step {g:Nat→Option α} {v:α} (h:Evt (fun k=>g (k+1)) v):Evt g v:=by
  obtain ⟨k0,h0⟩:=h;refine ⟨k0+1,fun k hk=>?_⟩
  obtain ⟨k',rfl⟩:∃ k',k=k'+1:=⟨k - 1,by omega⟩;exact h0 k' (by omega)
theorem Evt.congr {g g':Nat→Option α} {v:α} (h:Evt g v) (e:∀ k,g' k=g k):Evt g' v:=by
  obtain ⟨k0,h0⟩:=h;exact ⟨k0,fun k hk=>(e k).trans (h0 k hk)⟩
theorem Evt.get {g:Nat→Option α} {v:α} (h:Evt g v):∃ k,g k=some v:=by
  obtain ⟨k0,h0⟩:=h;exact ⟨k0,h0 k0 (Nat.le_refl _)⟩
theorem Evt.pos {c:Prop} [Decidable c] {g h:Nat→Option α} {v:α} (hc:c) (hg:Evt g v):Evt (fun k=>if c then g k else h k) v:=hg.congr (fun _=>if_pos hc)
theorem Evt.neg {c:Prop} [Decidable c] {g h:Nat→Option α} {v:α} (hc:¬c) (hh:Evt h v):Evt (fun k=>if c then g k else h k) v:=hh.congr (fun _=>if_neg hc)
theorem w64 {n:Int} (h1:-9223372036854775808≤n) (h2:n≤9223372036854775807):wrap64 n=n:=by unfold wrap64;omega
theorem w64s {n:Int} (h1:0≤n) (h2:n≤4611686018427387904):wrap64 (n+1)=n+1:=w64 (by omega) (by omega)
theorem w64n (j:Nat) (h:j≤4611686018427387903):wrap64 ((j:Int)+1)=((j+1:Nat):Int):=by rw [w64s (by omega) (by omega)];omega
theorem getD_mem {l:List α} {i:Nat} (d:α) (h:i<l.length):l.getD i d ∈ l:=by
  rw [List.getD_eq_getElem?_getD,List.getElem?_eq_getElem h];exact List.getElem_mem h
theorem getD_at {l:List α} {i:Nat} (d:α) (h:i<l.length):l.getD i d=l[i]:=by
  rw [List.getD_eq_getElem?_getD,List.getElem?_eq_getElem h];rfl
theorem rd_nat (l:List Int) (i:Nat):rd l (i:Int)=l.getD i 0:=by unfold rd;simp
end Go.Proofs.YtpcfebhpapdkcaaDoor.Evt
