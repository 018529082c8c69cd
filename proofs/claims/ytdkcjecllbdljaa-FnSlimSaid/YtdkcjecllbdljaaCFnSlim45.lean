import Derived.Test.YtdkcjecllbdljaaCFnSlim21
import Derived.Test.YtdkcjecllbdljaaCFnSlim34
namespace Go.Proofs.Ytdkcjecllbdljaa.GSlim
open Go.RowKit Go.Proofs.YtdkcjecllbdljaaW.PrintWords Go.Proofs.YtdkcjecllbdljaaW.PrintLast Go.Proofs.YtdkcjecllbdljaaW.PrintMore Go.Proofs.Ytdkcjecllbdljaa.HMap
set_option linter.unusedVariables false
set_option linter.unusedSimpArgs false
abbrev dead.I:=S31
def dead.cnt (kept:List Bool) (i:Nat):Nat:=(kept.take i).countP id
def dead.look (kept:List Bool) (n:Int):Int:=if 0≤n∧n<(kept.length:Int) then (dead.cnt kept n.toNat:Int) else 0
def dead.fix (kept:List Bool) (s:dead.I):dead.I:=if s.f0=7∨s.f0=6 then ⟨s.f0,s.f1,s.f2,dead.look kept s.f3⟩ else s
def dead.out (kept:List Bool):List dead.I→List Bool→List dead.I
  |s :: c,b :: k=>if b then dead.fix kept s :: dead.out kept c k else dead.out kept c k
  |_,_=>[]
theorem dead.cnt_succ (kept:List Bool) (i:Nat) (h:i<kept.length):dead.cnt kept (i+1)=dead.cnt kept i+(if kept[i] then 1 else 0):=by
  unfold dead.cnt
  rw [List.take_succ_eq_append_getElem h,List.countP_append]
  cases kept[i] <;> simp
theorem dead.cnt_le (kept:List Bool) (i:Nat):dead.cnt kept i≤i:=by
  unfold dead.cnt
  exact Nat.le_trans List.countP_le_length (by rw [List.length_take];exact Nat.min_le_left _ _)
theorem dead.out_snoc:∀ (kept c:List dead.I) (ks ls:List Bool) (K:List Bool) (s:dead.I) (b:Bool),kept.length=ks.length→dead.out K (kept ++ [s]) (ks ++ [b])=dead.out K kept ks ++ (if b then [dead.fix K s] else [])
  |[],_,[],_,K,s,b,_=>by cases b <;> rfl
  |[],_,_ :: _,_,_,_,_,h=>by simp at h
  |_ :: _,_,[],_,_,_,_,h=>by simp at h
  |x :: kept,c,y :: ks,ls,K,s,b,h=>by
    have ih:=dead.out_snoc kept c ks ls K s b (by simpa using h)
    simp only [List.cons_append,dead.out]
    rw [ih]
    cases y <;> simp
def dead.upto (kept:List Bool) (c:List dead.I) (j:Nat):List dead.I:=dead.out kept (c.take j) (kept.take j)
theorem dead.upto_succ (kept:List Bool) (c:List dead.I) (j:Nat) (hk:j<kept.length) (hc:j<c.length):dead.upto kept c (j+1)=dead.upto kept c j ++ (if kept[j] then [dead.fix kept c[j]] else []):=by
  unfold dead.upto
  rw [List.take_succ_eq_append_getElem hk,List.take_succ_eq_append_getElem hc]
  exact dead.out_snoc _ [] _ [] kept _ _ (by rw [List.length_take,List.length_take,Nat.min_eq_left (by omega),Nat.min_eq_left (by omega)])
theorem dead.out_len:∀ (K:List Bool) (c:List dead.I) (ks:List Bool),(dead.out K c ks).length≤c.length
  |_,[],_=>by simp [dead.out]
  |_,_ :: _,[]=>by simp [dead.out]
  |K,s :: c,b :: ks=>by
    have:=dead.out_len K c ks
    rw [dead.out]
    split <;> simp <;> omega
theorem dead.upto_len (kept:List Bool) (c:List dead.I) (j:Nat):(dead.upto kept c j).length≤c.length:=Nat.le_trans (dead.out_len _ _ _) (by rw [List.length_take];exact Nat.min_le_right _ _)
theorem dead.upto_all (kept:List Bool) (c:List dead.I) (h:kept.length=c.length):dead.upto kept c c.length=dead.out kept c kept:=by
  unfold dead.upto
  rw [List.take_length,List.take_of_length_le (by omega)]
def dead.mp (kept:List Bool) (j:Nat):List (Int × Value):=(List.range j).map (fun (i:Nat)=>((i:Int),Value.int .i64 (dead.cnt kept i)))
theorem dead.find_mp (kept:List Bool) (n:Int):∀ j,(dead.mp kept j).find? (fun p=>p.1 == n)=if 0≤n∧n<(j:Int) then some (n,Value.int .i64 (dead.cnt kept n.toNat)) else none
  |0=>by
    rw [if_neg (by omega)];rfl
  |j+1=>by
    have ih:=dead.find_mp kept n j
    unfold dead.mp at ih ⊢
    rw [List.range_succ,List.map_append,List.find?_append,ih]
    by_cases h:0≤n∧n<(j:Int)
    · rw [if_pos h,if_pos (by omega)];rfl
    · rw [if_neg h]
      by_cases h2:n=(j:Int)
      · subst h2
        rw [if_pos (by omega)]
        simp
      · rw [if_neg (by omega)]
        have:((j:Int) == n)=false:=by simp;exact fun e=>h2 e.symm
        simp [this]
theorem dead.at_mp (kept:List Bool) (n:Int):(at_ (dead.mp kept kept.length) n).getD (.int .i64 0)=.int .i64 (dead.look kept n):=by
  unfold at_ dead.look
  rw [dead.find_mp]
  split <;> rfl
theorem dead.put_new:∀ (m:List (Int × Value)) (n:Int) (v:Value),m.find? (fun p=>p.1 == n)=none→put_ m n v=m ++ [(n,v)]
  |[],_,_,_=>rfl
  |(k,u) :: m,n,v,h=>by
    rw [List.find?_cons] at h
    show (if k == n then _ else _)=_
    cases hk:(k == n) with
    |true=>rw [hk] at h;simp at h
    |false=>
      rw [hk] at h
      show (k,u) :: put_ m n v=_
      rw [dead.put_new m n v h];rfl
theorem dead.put_mp (kept:List Bool) (j:Nat):put_ (dead.mp kept j) (j:Int) (.int .i64 (dead.cnt kept j))=dead.mp kept (j+1):=by
  rw [dead.put_new _ _ _ (by rw [dead.find_mp,if_neg (by omega)])]
  unfold dead.mp
  rw [List.range_succ,List.map_append]
  rfl
theorem dead.map_ne {W:World} {b k q:Nat} {m:List (Int × Value)} {cells:Array Value} (h:Uj W b m) (hc:W.heap[k]?=some (.cells cells q (0,0))):some k≠some b:=by
  obtain ⟨es,cl,h1,_⟩:=h
  intro e
  injection e with e
  subst e
  rw [h1] at hc
  cases hc
theorem dead.R_map {α:Type} {d:Kd α} {e:Nat} {W W':World} {base:Nat} {ok:Nat→Prop} {v:Value} {xs:List α} {b:Nat} {m:List (Int × Value)} (h:Kd.R d e W base ok v xs) (hm:Uj W b m) (hg:W.grownBy W' (some b)):Kd.R d e W' base ok v xs:=
  Kd.Xn (Kd.R_move (Kd.Vk h) (fun k hk=>by
    obtain ⟨q,_,cells,hc⟩:=hk.2.2.2
    exact hg.block k hk.2.2.1 (dead.map_ne hm hc))) (fun _ hk=>hk.1)
theorem dead.map_behind {α:Type} {d:Kd α} {e:Nat} {W W0 W':World} {base:Nat} {ok:Nat→Prop} {u:Value} {xs:List α} {b:Nat} {m:List (Int × Value)} {o:Obj} {v:Value} (hm:Uj W b m) (hq:Kd.R d e W base ok u xs)
    (h0:W0=W.alloc o∨W0=(W.alloc o).setCell ⟨W.heap.size,3,none⟩ v) (hg:W0.grownBy W' u.ownBlock):Uj W' b m:=by
  have hlt:=hm.lt
  obtain ⟨es,cl,h1,h2⟩:=hm
  have hw0:W0.heap[b]?=some (.map es cl):=by
    rcases h0 with rfl|rfl
    · rw [Below.heap_alloc _ _ _ hlt];exact h1
    · rw [Below.heap_setCell _ _ _ _ (by show b≠W.heap.size;omega),Below.heap_alloc _ _ _ hlt];exact h1
  refine ⟨es,cl,(hg.block b (Array.getElem?_eq_some_iff.1 hw0).1 (fun e'=>?_)).trans hw0,h2⟩
  obtain ⟨inner,ho⟩:=Kd.R_own hq
  obtain ⟨cells,hc⟩:=own_typed ho b e'.symm
  rw [h1] at hc
  cases hc
theorem dead.row_behind {α β:Type} {d:Kd α} {d':Kd β} {e e':Nat} {W W0 W':World} {base base':Nat} {ok ok':Nat→Prop} {u v:Value} {xs:List α} {ys:List β} {o:Obj} {x:Value} (hr:Kd.R d' e' W base' ok' v ys) (hq:Kd.R d e W base ok u xs)
    (he:∀ q,q ∈ e' :: d'.E→q≠e) (h0:W0=W.alloc o∨W0=(W.alloc o).setCell ⟨W.heap.size,3,none⟩ x) (hg:W0.grownBy W' u.ownBlock):Kd.R d' e' W' base' ok' v ys:=by
  refine Kd.Xn (Kd.R_move (Kd.Vk hr) (fun k hk=>?_)) (fun _ hk=>hk.1)
  obtain ⟨_,_,hlt,q,hq',cells,hc⟩:=hk
  have hw0:W0.heap[k]?=W.heap[k]?:=by
    rcases h0 with rfl|rfl
    · exact Below.heap_alloc _ _ _ hlt
    · rw [Below.heap_setCell _ _ _ _ (by show k≠W.heap.size;omega),Below.heap_alloc _ _ _ hlt]
  refine (hg.block k ?_ (fun e2=>?_)).trans hw0
  · rw [hc] at hw0
    exact (Array.getElem?_eq_some_iff.1 hw0).1
  · obtain ⟨inner,ho⟩:=Kd.R_own hq
    obtain ⟨cells',hc'⟩:=own_typed ho k e2.symm
    rw [hc] at hc'
    injection hc' with hc'
    injection hc' with _ hc'
    exact he q hq' hc'
theorem dead.wp_index {P:Program} {w:World} {T K E:TypeId} {b:Nat} {kept:List Bool} {ops:Array Oper} {rest:List Oper} {o:Oper} {a:Act} {Q:Exit→Act→World→Prop}
    (hg:o.guard=none) (mo x:Operand) (hop:o.op=Op.lookup T mo x false) (hT:P.underlying T=some (.map K E)) (hK:P.underlying K=some (.int .i64)) (n:Int)
    (hmo:a.eval mo=.map (some b)) (hx:a.eval x=.int .i64 n) (hm:Uj w b (dead.mp kept kept.length)) (hz:(zeroValue E).run P w=.ok (.int .i64 0) w)
    (hK':wpList P ops Q rest (a.put o.dst (.int .i64 (dead.look kept n))) w):wpList P ops Q (o :: rest) a w:=by
  refine wpList_lookup_im hg mo x false hop hT hK n (.int .i64 0) hmo hx hm hz ?_
  rw [if_neg (by simp),dead.at_mp]
  exact hK'
end Go.Proofs.Ytdkcjecllbdljaa.GSlim
