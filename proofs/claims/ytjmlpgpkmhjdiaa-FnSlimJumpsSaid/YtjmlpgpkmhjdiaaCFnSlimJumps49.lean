import Derived.Test.YtjmlpgpkmhjdiaaCFnSlimJumps21
import Derived.Test.YtjmlpgpkmhjdiaaCFnSlimJumps36
import Derived.Test.YtjmlpgpkmhjdiaaCFnSlimJumps41
import Derived.Test.YtjmlpgpkmhjdiaaCFnSlimJumps22
import Derived.Test.YtjmlpgpkmhjdiaaCFnSlimJumps27
import Derived.Test.YtjmlpgpkmhjdiaaCFnSlimJumps37
import Derived.Test.YtjmlpgpkmhjdiaaCFnSlimJumps39
import Derived.Test.YtjmlpgpkmhjdiaaCFnSlimJumps29
import Derived.Lib.Hide
import Derived.WalkSpells
import Derived.Deep.DeepMust
namespace Go.Proofs.Ytjmlpgpkmhjdiaa.GSlim
open Go.RowKit Go.Proofs.YtjmlpgpkmhjdiaaW.PrintWords Go.Proofs.YtjmlpgpkmhjdiaaW.PrintLast Go.Proofs.YtjmlpgpkmhjdiaaW.PrintMore
attribute [local go_sem] Zn Zp Ua Ub Zh Zi Zo Zq
set_option linter.unusedVariables false
set_option linter.unusedSimpArgs false
end Go.Proofs.Ytjmlpgpkmhjdiaa.GSlim
namespace Go.Proofs.Ytjmlpgpkmhjdiaa.GSlim
open Go.RowKit Go.Proofs.YtjmlpgpkmhjdiaaW.PrintWords Go.Proofs.YtjmlpgpkmhjdiaaW.PrintLast Go.Proofs.YtjmlpgpkmhjdiaaW.PrintMore
attribute [local go_sem] Zn Zp Ua Ub Zh Zi Zo Zq
set_option linter.unusedVariables false
set_option linter.unusedSimpArgs false
end Go.Proofs.Ytjmlpgpkmhjdiaa.GSlim
namespace Go.Proofs.Ytjmlpgpkmhjdiaa.GSlim
open Go.RowKit Go.Proofs.YtjmlpgpkmhjdiaaW.PrintWords Go.Proofs.YtjmlpgpkmhjdiaaW.PrintLast Go.Proofs.YtjmlpgpkmhjdiaaW.PrintMore
attribute [local go_sem] Zn Zp Ua Ub Zh Zi Zo Zq
set_option linter.unusedVariables false
set_option linter.unusedSimpArgs false
end Go.Proofs.Ytjmlpgpkmhjdiaa.GSlim
namespace Go.Proofs.Ytjmlpgpkmhjdiaa.GSlim
open Go.RowKit Go.Proofs.YtjmlpgpkmhjdiaaW.PrintWords Go.Proofs.YtjmlpgpkmhjdiaaW.PrintLast Go.Proofs.YtjmlpgpkmhjdiaaW.PrintMore
attribute [local go_sem] Zn Zp Ua Ub Zh Zi Zo Zq
set_option linter.unusedVariables false
set_option linter.unusedSimpArgs false
theorem eqA47 (d:Nat) (w:World) (x0 y0:Int) (x1 y1:Int) (x2 y2:Int) (x3 y3:Int) :
  (Op.equalIn (d+2) 47 (.agg #[.int .i64 x0,.int .i64 x1,.int .i64 x2,.int .i64 x3]) (.agg #[.int .i64 y0,.int .i64 y1,.int .i64 y2,.int .i64 y3])).run Try.prog w=.ok (x0 == y0 && (x1 == y1 && (x2 == y2 && (x3 == y3)))) w:=by
 refine eqA_of Try.underlying47 (by kernel_rfl) ?_
 refine eqf_cons (by rfl) (by go_simp;rfl) (by go_simp;rfl) (by go_simp) ?_
 refine eqf_cons (by rfl) (by go_simp;rfl) (by go_simp;rfl) (by go_simp) ?_
 refine eqf_cons (by rfl) (by go_simp;rfl) (by go_simp;rfl) (by go_simp) ?_
 exact eqf_last (by rfl) (by go_simp;rfl) (by go_simp;rfl) (by go_simp)
end Go.Proofs.Ytjmlpgpkmhjdiaa.GSlim
namespace Go.Proofs.Ytjmlpgpkmhjdiaa.GSlim
open Go.RowKit Go.Proofs.YtjmlpgpkmhjdiaaW.PrintWords Go.Proofs.YtjmlpgpkmhjdiaaW.PrintLast Go.Proofs.YtjmlpgpkmhjdiaaW.PrintMore
attribute [local go_sem] Zn Zp Ua Ub Zh Zi Zo Zq
set_option linter.unusedVariables false
set_option linter.unusedSimpArgs false
end Go.Proofs.Ytjmlpgpkmhjdiaa.GSlim
namespace Go.Proofs.Ytjmlpgpkmhjdiaa.GSlim
open Go.RowKit Go.Proofs.YtjmlpgpkmhjdiaaW.PrintWords Go.Proofs.YtjmlpgpkmhjdiaaW.PrintLast Go.Proofs.YtjmlpgpkmhjdiaaW.PrintMore Go.Proofs.Ytjmlpgpkmhjdiaa.HMap
set_option linter.unusedVariables false
set_option linter.unusedSimpArgs false
abbrev dead.I:=S47
def dead.cnt (kept:List Bool) (i:Nat):Nat:=(kept.take i).countP id
def dead.look (kept:List Bool) (n:Int):Int:=if 0≤n∧n<(kept.length:Int) then (dead.cnt kept n.toNat:Int) else 0
def dead.fix (kept:List Bool) (s:dead.I):dead.I:=if s.f0=7∨s.f0=6 then ⟨s.f0,s.f1,s.f2,dead.look kept s.f3⟩ else s
def dead.out (kept:List Bool):List dead.I→List Bool→List dead.I
  |s :: c,b :: k=>if b then dead.fix kept s :: dead.out kept c k else dead.out kept c k
  |_,_=>[]
theorem dead.cnt_succ (kept:List Bool) (i:Nat) (h:i<kept.length):dead.cnt kept (i+1)=dead.cnt kept i+(if kept[i] then 1 else 0):=by
  unfold dead.cnt
  rw [List.take_succ_eq_append_getElem h,List.countP_append]
  cases kept[i] <;> simp
def dead.upto (kept:List Bool) (c:List dead.I) (j:Nat):List dead.I:=dead.out kept (c.take j) (kept.take j)
theorem dead.out_len:∀ (K:List Bool) (c:List dead.I) (ks:List Bool),(dead.out K c ks).length≤c.length
  |_,[],_=>by simp [dead.out]
  |_,_ :: _,[]=>by simp [dead.out]
  |K,s :: c,b :: ks=>by
    have:=dead.out_len K c ks
    rw [dead.out]
    split <;> simp <;> omega
def dead.mp (kept:List Bool) (j:Nat):List (Int × Value):=(List.range j).map (fun (i:Nat)=>((i:Int),Value.int .i64 (dead.cnt kept i)))
theorem dead.map_ne {W:World} {b k q:Nat} {m:List (Int × Value)} {cells:Array Value} (h:Uk W b m) (hc:W.heap[k]?=some (.cells cells q (0,0))):some k≠some b:=by
  obtain ⟨es,cl,h1,_⟩:=h
  intro e
  injection e with e
  subst e
  rw [h1] at hc
  cases hc
theorem dead.R_map {α:Type} {d:Kd α} {e:Nat} {W W':World} {base:Nat} {ok:Nat→Prop} {v:Value} {xs:List α} {b:Nat} {m:List (Int × Value)} (h:Kd.R d e W base ok v xs) (hm:Uk W b m) (hg:W.grownBy W' (some b)):Kd.R d e W' base ok v xs:=
  Kd.Xq (Kd.R_move (Kd.R_bound h) (fun k hk=>by
    obtain ⟨q,_,cells,hc⟩:=hk.2.2.2
    exact hg.block k hk.2.2.1 (dead.map_ne hm hc))) (fun _ hk=>hk.1)
end Go.Proofs.Ytjmlpgpkmhjdiaa.GSlim
namespace Go.Proofs.Ytjmlpgpkmhjdiaa.GSlim
open Go.RowKit Go.Proofs.YtjmlpgpkmhjdiaaW.PrintWords Go.Proofs.YtjmlpgpkmhjdiaaW.PrintLast Go.Proofs.YtjmlpgpkmhjdiaaW.PrintMore
attribute [local go_sem] Zn Zp Ua Ub Zh Zi Zo Zq
set_option linter.unusedVariables false
set_option linter.unusedSimpArgs false
section
def sdead.pl (ks:List Bool) (j:Nat):List Int:=(List.range j).map (fun (i:Nat)=>(dead.cnt ks i:Int))
theorem sdead.pl_succ (ks:List Bool) (j:Nat):sdead.pl ks (j+1)=sdead.pl ks j ++ [(dead.cnt ks j:Int)]:=by unfold sdead.pl;rw [List.range_succ,List.map_append];rfl
end
end Go.Proofs.Ytjmlpgpkmhjdiaa.GSlim
namespace Go.Proofs.Ytjmlpgpkmhjdiaa.GSlim
open Go.RowKit Go.Proofs.YtjmlpgpkmhjdiaaW.PrintWords Go.Proofs.YtjmlpgpkmhjdiaaW.PrintLast Go.Proofs.YtjmlpgpkmhjdiaaW.PrintMore
attribute [local go_sem] Zn Zp Ua Ub Zh Zi Zo Zq
set_option linter.unusedVariables false
set_option linter.unusedSimpArgs false
def slices_Clone_bool_bool.f (l0:List (Bool)):Option (List (Bool)):=if l0.length<140737488355328 then some l0 else none
end Go.Proofs.Ytjmlpgpkmhjdiaa.GSlim
