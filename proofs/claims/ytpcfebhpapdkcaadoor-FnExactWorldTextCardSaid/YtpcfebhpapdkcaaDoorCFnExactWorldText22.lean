import Derived.Test.YtpcfebhpapdkcaaDoorProg
import Derived.Below
import Derived.Deep.Draws
import Derived.Deep.AppendLies
import Derived.Maps.AppendAt
import Derived.OwnWalk
import Derived.Laws.BytesArg
import Derived.Laws.MakeOwn
import Derived.Laws.OwnMore
import Derived.Deep.OwnRows
import Derived.Tactics
import Derived.Lib.ConvBytes
import Derived.Laws.Slices
import Derived.WalkKit
import Derived.KernelRfl
import Derived.RowKit3
import Derived.Deep.LoopGhost
import Derived.Deep.QuietTactic
import Derived.BigQuiet
import Derived.WideLaws
import Derived.Deep.DeepCutAuto
import Derived.Deep.CutBlock
import Derived.Deep.RegionHeld3
import Derived.Laws.Rows
import Derived.Lib.AppendStr
import Derived.ArgAppend
import Derived.Laws.IdiomCopy
import Derived.OrdersHeld
import Derived.Laws.BitsLemmas
import Derived.RowKit
import Derived.Test.YtpcfebhpapdkcaaDoorCFnExactWorldText1
import Derived.Test.YtpcfebhpapdkcaaDoorCFnExactWorldText2
import Derived.Test.YtpcfebhpapdkcaaDoorCFnExactWorldText3
import Derived.Test.YtpcfebhpapdkcaaDoorCFnExactWorldText6
import Derived.Test.YtpcfebhpapdkcaaDoorCFnExactWorldText9
import Derived.Test.YtpcfebhpapdkcaaDoorCFnExactWorldText10
import Derived.Test.YtpcfebhpapdkcaaDoorCFnExactWorldText11
import Derived.Test.YtpcfebhpapdkcaaDoorCFnExactWorldText12
import Derived.Laws.StructEq
import Derived.Test.YtpcfebhpapdkcaaDoorCFnExactWorldText16
import Derived.Test.YtpcfebhpapdkcaaDoorCFnExactWorldText21
namespace Go.Proofs.YtpcfebhpapdkcaaDoor.GWorld
open Go.RowKit Go.Proofs.YtpcfebhpapdkcaaDoorW.PrintWords Go.Proofs.YtpcfebhpapdkcaaDoorW.PrintLast Go.Proofs.YtpcfebhpapdkcaaDoorW.PrintMore
attribute [local go_sem] max2_int min2_int max_two min_two Uc Ud max_four min_four
set_option linter.unusedVariables false
set_option linter.unusedSimpArgs false
def errW:Option Int→Value
 |none=>.nilIface
 |some c=>.iface 0 (.int .i64 c)
theorem errW_none:errW none=.nilIface:=rfl
theorem errW_some (c:Int):errW (some c)=.iface 0 (.int .i64 c):=rfl
theorem rf_ {α:Sort _} {a b:α} (h:a=b:=by first|rfl|(simp [errW_none,errW_some] <;> rfl)|(simp [*,errW_none,errW_some] <;> rfl)):a=b:=h
theorem info3:(Tryd.prog.info? 3).map (fun i=>(i.zero,i.size,i.bytes))=some (some (.int .i64 0),1,8):=by kernel_rfl
theorem info9:(Tryd.prog.info? 9).map (fun i=>(i.zero,i.size,i.bytes))=some (some (.string ⟨#[]⟩),1,16):=by kernel_rfl
theorem info23:(Tryd.prog.info? 23).map (fun i=>(i.zero,i.size,i.bytes))=some (some (.slice none 0 0),1,24):=by kernel_rfl
theorem info43:(Tryd.prog.info? 43).map (fun i=>(i.zero,i.size,i.bytes))=some (some (.agg #[(.slice none 0 0),(.slice none 0 0),(.int .i64 0),(.int .i64 0),(.int .i64 0)]),5,72):=by kernel_rfl
theorem info47:(Tryd.prog.info? 47).map (fun i=>(i.zero,i.size,i.bytes))=some (some (.agg #[(.int .i64 0),(.int .i64 0)]),2,16):=by kernel_rfl
theorem info63:(Tryd.prog.info? 63).map (fun i=>(i.zero,i.size,i.bytes))=some (some (.agg #[(.int .i64 0),(.int .i64 0),(.int .i64 0),(.int .i64 0),(.slice none 0 0),(.slice none 0 0)]),6,80):=by kernel_rfl
structure S78 where
 f0:Int
 f1:Int
 f2:Int
 f3:Int
 f4:(List S78)
 f5:(List S78)
def z78:S78:=⟨(0:Int),(0:Int),(0:Int),(0:Int),([]:List S78),([]:List S78)⟩
def F78 (d:Kd S78):Kd S78:=Kd.iso (Kd.pair (Kd.int .i64) (Kd.pair (Kd.int .i64) (Kd.pair (Kd.int .i64) (Kd.pair (Kd.int .i64) (Kd.pair (Kd.slice 78 d) (Kd.slice 78 d)))))) (fun x:S78=>(x.f0,x.f1,x.f2,x.f3,x.f4,x.f5))
theorem mono78:Kd.Mono F78:=Kd.mono_iso _ (Kd.mono_pair (Kd.mono_const _) (Kd.mono_pair (Kd.mono_const _) (Kd.mono_pair (Kd.mono_const _) (Kd.mono_pair (Kd.mono_const _) (Kd.mono_pair (Kd.mono_slice 78 Kd.mono_id) (Kd.mono_slice 78 Kd.mono_id))))))
theorem sub78:Kd.Sub F78 [78]:=Kd.sub_iso _ (Kd.sub_pair (Kd.sub_const _ (by decide)) (Kd.sub_pair (Kd.sub_const _ (by decide)) (Kd.sub_pair (Kd.sub_const _ (by decide)) (Kd.sub_pair (Kd.sub_const _ (by decide)) (Kd.sub_pair (Kd.sub_slice 78 (by decide) Kd.sub_id) (Kd.sub_slice 78 (by decide) Kd.sub_id))))))
theorem sz78:∀ n,(Kd.upto F78 6 [78] n).sz=6:=Kd.upto_sz (fun _=>rfl)
def k78:Kd S78:=Kd.fix F78 6 [78] sz78 (Kd.upto_E sub78)
theorem k78_open {w:World} {x:S78} {cs:List Value} (h:k78.K w x cs):∃ A4 c4 A5 c5,cs=[.int .i64 x.f0,.int .i64 x.f1,.int .i64 x.f2,.int .i64 x.f3,.slice A4 x.f4.length c4,.slice A5 x.f5.length c5]∧x.f4.length≤c4∧k78.C w A4 x.f4.length x.f4∧x.f5.length≤c5∧k78.C w A5 x.f5.length x.f5:=by
 obtain ⟨n,h⟩:=h
 cases n with
 |zero=>exact h.elim
 |succ n=>
  obtain ⟨_,_,rfl,rfl,⟨_,_,rfl,rfl,⟨_,_,rfl,rfl,⟨_,_,rfl,rfl,⟨_,_,rfl,⟨A4,c4,rfl,l4,g4⟩,⟨A5,c5,rfl,l5,g5⟩⟩⟩⟩⟩⟩:=h
  exact ⟨A4,c4,A5,c5,rfl,l4,Kd.fix_C g4,l5,Kd.fix_C g5⟩
theorem k78_mk (w:World) (x:S78) {A4:Option Addr} {c4:Nat} (l4:x.f4.length≤c4) (g4:k78.C w A4 x.f4.length x.f4) {A5:Option Addr} {c5:Nat} (l5:x.f5.length≤c5) (g5:k78.C w A5 x.f5.length x.f5):k78.K w x [.int .i64 x.f0,.int .i64 x.f1,.int .i64 x.f2,.int .i64 x.f3,.slice A4 x.f4.length c4,.slice A5 x.f5.length c5]:=by
 obtain ⟨n4,q4⟩:=Kd.fix_C_back mono78 g4
 obtain ⟨n5,q5⟩:=Kd.fix_C_back mono78 g5
 have r4:=Kd.upto_C_le mono78 sz78 (show n4≤(max n4 n5) by omega) q4
 have r5:=Kd.upto_C_le mono78 sz78 (show n5≤(max n4 n5) by omega) q5
 exact ⟨(max n4 n5)+1,⟨[.int .i64 x.f0],[.int .i64 x.f1,.int .i64 x.f2,.int .i64 x.f3,.slice A4 x.f4.length c4,.slice A5 x.f5.length c5],rfl,rfl,⟨[.int .i64 x.f1],[.int .i64 x.f2,.int .i64 x.f3,.slice A4 x.f4.length c4,.slice A5 x.f5.length c5],rfl,rfl,⟨[.int .i64 x.f2],[.int .i64 x.f3,.slice A4 x.f4.length c4,.slice A5 x.f5.length c5],rfl,rfl,⟨[.int .i64 x.f3],[.slice A4 x.f4.length c4,.slice A5 x.f5.length c5],rfl,rfl,⟨[.slice A4 x.f4.length c4],[.slice A5 x.f5.length c5],rfl,⟨A4,c4,rfl,l4,r4⟩,⟨A5,c5,rfl,l5,r5⟩⟩⟩⟩⟩⟩⟩
def Zc (xs:List S78) (i:Int):S78:=xs.getD i.toNat z78
theorem at_T78 {w:World} {A:Option Addr} {n:Nat} {xs:List S78} (h:Kd.C k78 w A n xs) (i:Int) (h0:0≤i) (h1:i<n):∃ ad A4 c4 A5 c5,A=some ad∧w.cell? (ad.add (i.toNat * 6))=some (.int .i64 (Zc xs i).f0)∧w.cell? ⟨(ad.add (i.toNat * 6)).block,(ad.add (i.toNat * 6)).off+1,none⟩=some (.int .i64 (Zc xs i).f1)∧w.cell? ⟨(ad.add (i.toNat * 6)).block,(ad.add (i.toNat * 6)).off+2,none⟩=some (.int .i64 (Zc xs i).f2)∧w.cell? ⟨(ad.add (i.toNat * 6)).block,(ad.add (i.toNat * 6)).off+3,none⟩=some (.int .i64 (Zc xs i).f3)∧w.cell? ⟨(ad.add (i.toNat * 6)).block,(ad.add (i.toNat * 6)).off+4,none⟩=some (.slice A4 (Zc xs i).f4.length c4)∧w.cell? ⟨(ad.add (i.toNat * 6)).block,(ad.add (i.toNat * 6)).off+5,none⟩=some (.slice A5 (Zc xs i).f5.length c5)∧(Zc xs i).f4.length≤c4∧k78.C w A4 (Zc xs i).f4.length (Zc xs i).f4∧(Zc xs i).f5.length≤c5∧k78.C w A5 (Zc xs i).f5.length (Zc xs i).f5:=by
 obtain ⟨ad,c,e,_,hK,hc0⟩:=Kd.C_get h z78 i h0 h1
 have hc:∀ j u,c[j]?=some u→w.cell? (ad.add (i.toNat * 6+j))=some u:=hc0
 obtain ⟨A4,c4,A5,c5,rfl,l4,g4,l5,g5⟩:=k78_open hK
 exact ⟨ad,A4,c4,A5,c5,e,hc 0 _ rfl,by rw [← Zv _ _ 1 (by omega)];exact hc 1 _ rfl,by rw [← Zv _ _ 2 (by omega)];exact hc 2 _ rfl,by rw [← Zv _ _ 3 (by omega)];exact hc 3 _ rfl,by rw [← Zv _ _ 4 (by omega)];exact hc 4 _ rfl,by rw [← Zv _ _ 5 (by omega)];exact hc 5 _ rfl,l4,g4,l5,g5⟩
def rd_L2 (xs:List (List Int)) (i:Int):(List Int):=xs.getD i.toNat ([]:List Int)
theorem at_L2 {w:World} {A:Option Addr} {n:Nat} {xs:List (List Int)} (h:Kd.C (Kd.slice 3 (Kd.int .i64)) w A n xs) (i:Int) (h0:0≤i) (h1:i<n):∃ ad A0 c0,A=some ad∧w.cell? (ad.add i.toNat)=some (.slice A0 (rd_L2 xs i).length c0)∧(rd_L2 xs i).length≤c0∧(Kd.int .i64).C w A0 (rd_L2 xs i).length (rd_L2 xs i):=by
 obtain ⟨ad,c,e,_,hK,hc0⟩:=Kd.C_get h ([]:List Int) i h0 h1
 have hc:∀ j u,c[j]?=some u→w.cell? (ad.add (i.toNat * 1+j))=some u:=hc0
 obtain ⟨A0,c0,rfl,l0,g0⟩:=hK
 exact ⟨ad,A0,c0,e,by have hq:=hc 0 _ rfl;rwa [Nat.mul_one,Nat.add_zero] at hq,l0,g0⟩
structure S60 where
 f0:(List Int)
 f1:(List S78)
 f2:Int
 f3:Int
 f4:Int
def z60:S60:=⟨([]:List Int),([]:List S78),(0:Int),(0:Int),(0:Int)⟩
def k60:Kd S60:=Kd.iso (Kd.pair (Kd.slice 3 (Kd.int .i64)) (Kd.pair (Kd.slice 78 k78) (Kd.pair (Kd.int .i64) (Kd.pair (Kd.int .i64) (Kd.int .i64))))) (fun x:S60=>(x.f0,x.f1,x.f2,x.f3,x.f4))
theorem k60_open {w:World} {x:S60} {cs:List Value} (h:k60.K w x cs):∃ A0 c0 A1 c1,cs=[.slice A0 x.f0.length c0,.slice A1 x.f1.length c1,.int .i64 x.f2,.int .i64 x.f3,.int .i64 x.f4]∧x.f0.length≤c0∧(Kd.int .i64).C w A0 x.f0.length x.f0∧x.f1.length≤c1∧k78.C w A1 x.f1.length x.f1:=by
 obtain ⟨_,_,rfl,⟨A0,c0,rfl,l0,g0⟩,⟨_,_,rfl,⟨A1,c1,rfl,l1,g1⟩,⟨_,_,rfl,rfl,⟨_,_,rfl,rfl,rfl⟩⟩⟩⟩:=h
 exact ⟨A0,c0,A1,c1,rfl,l0,g0,l1,g1⟩
def Zi (xs:List S60) (i:Int):S60:=xs.getD i.toNat z60
theorem at_T60 {w:World} {A:Option Addr} {n:Nat} {xs:List S60} (h:Kd.C k60 w A n xs) (i:Int) (h0:0≤i) (h1:i<n):∃ ad A0 c0 A1 c1,A=some ad∧w.cell? (ad.add (i.toNat * 5))=some (.slice A0 (Zi xs i).f0.length c0)∧w.cell? ⟨(ad.add (i.toNat * 5)).block,(ad.add (i.toNat * 5)).off+1,none⟩=some (.slice A1 (Zi xs i).f1.length c1)∧w.cell? ⟨(ad.add (i.toNat * 5)).block,(ad.add (i.toNat * 5)).off+2,none⟩=some (.int .i64 (Zi xs i).f2)∧w.cell? ⟨(ad.add (i.toNat * 5)).block,(ad.add (i.toNat * 5)).off+3,none⟩=some (.int .i64 (Zi xs i).f3)∧w.cell? ⟨(ad.add (i.toNat * 5)).block,(ad.add (i.toNat * 5)).off+4,none⟩=some (.int .i64 (Zi xs i).f4)∧(Zi xs i).f0.length≤c0∧(Kd.int .i64).C w A0 (Zi xs i).f0.length (Zi xs i).f0∧(Zi xs i).f1.length≤c1∧k78.C w A1 (Zi xs i).f1.length (Zi xs i).f1:=by
 obtain ⟨ad,c,e,_,hK,hc0⟩:=Kd.C_get h z60 i h0 h1
 have hc:∀ j u,c[j]?=some u→w.cell? (ad.add (i.toNat * 5+j))=some u:=hc0
 obtain ⟨A0,c0,A1,c1,rfl,l0,g0,l1,g1⟩:=k60_open hK
 exact ⟨ad,A0,c0,A1,c1,e,hc 0 _ rfl,by rw [← Zv _ _ 1 (by omega)];exact hc 1 _ rfl,by rw [← Zv _ _ 2 (by omega)];exact hc 2 _ rfl,by rw [← Zv _ _ 3 (by omega)];exact hc 3 _ rfl,by rw [← Zv _ _ 4 (by omega)];exact hc 4 _ rfl,l0,g0,l1,g1⟩
structure S66 where
 f0:Int
 f1:Int
def z66:S66:=⟨(0:Int),(0:Int)⟩
def k66:Kd S66:=Kd.iso (Kd.pair (Kd.int .i64) (Kd.int .i64)) (fun x:S66=>(x.f0,x.f1))
theorem k66_open {w:World} {x:S66} {cs:List Value} (h:k66.K w x cs):cs=[.int .i64 x.f0,.int .i64 x.f1]:=by
 obtain ⟨_,_,rfl,rfl,rfl⟩:=h
 exact rfl
def rd_T66 (xs:List S66) (i:Int):S66:=xs.getD i.toNat z66
theorem at_T66 {w:World} {A:Option Addr} {n:Nat} {xs:List S66} (h:Kd.C k66 w A n xs) (i:Int) (h0:0≤i) (h1:i<n):∃ ad,A=some ad∧w.cell? (ad.add (i.toNat * 2))=some (.int .i64 (rd_T66 xs i).f0)∧w.cell? ⟨(ad.add (i.toNat * 2)).block,(ad.add (i.toNat * 2)).off+1,none⟩=some (.int .i64 (rd_T66 xs i).f1):=by
 obtain ⟨ad,c,e,_,hK,hc0⟩:=Kd.C_get h z66 i h0 h1
 have hc:∀ j u,c[j]?=some u→w.cell? (ad.add (i.toNat * 2+j))=some u:=hc0
 obtain rfl:=k66_open hK
 exact ⟨ad,e,hc 0 _ rfl,by rw [← Zv _ _ 1 (by omega)];exact hc 1 _ rfl⟩
structure S63 where
 f0:Int
 f1:Int
 f2:Int
 f3:Int
 f4:(List S63)
 f5:(List S63)
def z63:S63:=⟨(0:Int),(0:Int),(0:Int),(0:Int),([]:List S63),([]:List S63)⟩
def F63 (d:Kd S63):Kd S63:=Kd.iso (Kd.pair (Kd.int .i64) (Kd.pair (Kd.int .i64) (Kd.pair (Kd.int .i64) (Kd.pair (Kd.int .i64) (Kd.pair (Kd.slice 63 d) (Kd.slice 63 d)))))) (fun x:S63=>(x.f0,x.f1,x.f2,x.f3,x.f4,x.f5))
theorem mono63:Kd.Mono F63:=Kd.mono_iso _ (Kd.mono_pair (Kd.mono_const _) (Kd.mono_pair (Kd.mono_const _) (Kd.mono_pair (Kd.mono_const _) (Kd.mono_pair (Kd.mono_const _) (Kd.mono_pair (Kd.mono_slice 63 Kd.mono_id) (Kd.mono_slice 63 Kd.mono_id))))))
theorem sub63:Kd.Sub F63 [63]:=Kd.sub_iso _ (Kd.sub_pair (Kd.sub_const _ (by decide)) (Kd.sub_pair (Kd.sub_const _ (by decide)) (Kd.sub_pair (Kd.sub_const _ (by decide)) (Kd.sub_pair (Kd.sub_const _ (by decide)) (Kd.sub_pair (Kd.sub_slice 63 (by decide) Kd.sub_id) (Kd.sub_slice 63 (by decide) Kd.sub_id))))))
theorem sz63:∀ n,(Kd.upto F63 6 [63] n).sz=6:=Kd.upto_sz (fun _=>rfl)
def k63:Kd S63:=Kd.fix F63 6 [63] sz63 (Kd.upto_E sub63)
theorem k63_open {w:World} {x:S63} {cs:List Value} (h:k63.K w x cs):∃ A4 c4 A5 c5,cs=[.int .i64 x.f0,.int .i64 x.f1,.int .i64 x.f2,.int .i64 x.f3,.slice A4 x.f4.length c4,.slice A5 x.f5.length c5]∧x.f4.length≤c4∧k63.C w A4 x.f4.length x.f4∧x.f5.length≤c5∧k63.C w A5 x.f5.length x.f5:=by
 obtain ⟨n,h⟩:=h
 cases n with
 |zero=>exact h.elim
 |succ n=>
  obtain ⟨_,_,rfl,rfl,⟨_,_,rfl,rfl,⟨_,_,rfl,rfl,⟨_,_,rfl,rfl,⟨_,_,rfl,⟨A4,c4,rfl,l4,g4⟩,⟨A5,c5,rfl,l5,g5⟩⟩⟩⟩⟩⟩:=h
  exact ⟨A4,c4,A5,c5,rfl,l4,Kd.fix_C g4,l5,Kd.fix_C g5⟩
theorem k63_openM {w:World} {base:Nat} {ok:Nat→Prop} {x:S63} {cs:List Value} (h:k63.M w base ok x cs):∃ v4 v5,cs=[.int .i64 x.f0,.int .i64 x.f1,.int .i64 x.f2,.int .i64 x.f3,v4,v5]∧k63.R 63 w base ok v4 x.f4∧k63.R 63 w base ok v5 x.f5:=by
 obtain ⟨n,h⟩:=h
 cases n with
 |zero=>exact h.elim
 |succ n=>
  obtain ⟨_,_,rfl,rfl,⟨_,_,rfl,rfl,⟨_,_,rfl,rfl,⟨_,_,rfl,rfl,⟨_,_,rfl,⟨v4,rfl,g4⟩,⟨v5,rfl,g5⟩⟩⟩⟩⟩⟩:=h
  exact ⟨v4,v5,rfl,Kd.fix_R g4,Kd.fix_R g5⟩
theorem k63_mkM (w:World) (base:Nat) (ok:Nat→Prop) (x:S63) {v4:Value} (g4:k63.R 63 w base ok v4 x.f4) {v5:Value} (g5:k63.R 63 w base ok v5 x.f5):k63.M w base ok x [.int .i64 x.f0,.int .i64 x.f1,.int .i64 x.f2,.int .i64 x.f3,v4,v5]:=by
 obtain ⟨n4,q4⟩:=Kd.fix_R_back mono63 g4
 obtain ⟨n5,q5⟩:=Kd.fix_R_back mono63 g5
 have r4:=Kd.upto_R_le mono63 sz63 (show n4≤(max n4 n5) by omega) q4
 have r5:=Kd.upto_R_le mono63 sz63 (show n5≤(max n4 n5) by omega) q5
 exact ⟨(max n4 n5)+1,⟨[.int .i64 x.f0],[.int .i64 x.f1,.int .i64 x.f2,.int .i64 x.f3,v4,v5],rfl,rfl,⟨[.int .i64 x.f1],[.int .i64 x.f2,.int .i64 x.f3,v4,v5],rfl,rfl,⟨[.int .i64 x.f2],[.int .i64 x.f3,v4,v5],rfl,rfl,⟨[.int .i64 x.f3],[v4,v5],rfl,rfl,⟨[v4],[v5],rfl,⟨v4,rfl,r4⟩,⟨v5,rfl,r5⟩⟩⟩⟩⟩⟩⟩
def Xg (xs:List S63) (i:Int):S63:=xs.getD i.toNat z63
theorem at_T63 {w:World} {A:Option Addr} {n:Nat} {xs:List S63} (h:Kd.C k63 w A n xs) (i:Int) (h0:0≤i) (h1:i<n):∃ ad A4 c4 A5 c5,A=some ad∧w.cell? (ad.add (i.toNat * 6))=some (.int .i64 (Xg xs i).f0)∧w.cell? ⟨(ad.add (i.toNat * 6)).block,(ad.add (i.toNat * 6)).off+1,none⟩=some (.int .i64 (Xg xs i).f1)∧w.cell? ⟨(ad.add (i.toNat * 6)).block,(ad.add (i.toNat * 6)).off+2,none⟩=some (.int .i64 (Xg xs i).f2)∧w.cell? ⟨(ad.add (i.toNat * 6)).block,(ad.add (i.toNat * 6)).off+3,none⟩=some (.int .i64 (Xg xs i).f3)∧w.cell? ⟨(ad.add (i.toNat * 6)).block,(ad.add (i.toNat * 6)).off+4,none⟩=some (.slice A4 (Xg xs i).f4.length c4)∧w.cell? ⟨(ad.add (i.toNat * 6)).block,(ad.add (i.toNat * 6)).off+5,none⟩=some (.slice A5 (Xg xs i).f5.length c5)∧(Xg xs i).f4.length≤c4∧k63.C w A4 (Xg xs i).f4.length (Xg xs i).f4∧(Xg xs i).f5.length≤c5∧k63.C w A5 (Xg xs i).f5.length (Xg xs i).f5:=by
 obtain ⟨ad,c,e,_,hK,hc0⟩:=Kd.C_get h z63 i h0 h1
 have hc:∀ j u,c[j]?=some u→w.cell? (ad.add (i.toNat * 6+j))=some u:=hc0
 obtain ⟨A4,c4,A5,c5,rfl,l4,g4,l5,g5⟩:=k63_open hK
 exact ⟨ad,A4,c4,A5,c5,e,hc 0 _ rfl,by rw [← Zv _ _ 1 (by omega)];exact hc 1 _ rfl,by rw [← Zv _ _ 2 (by omega)];exact hc 2 _ rfl,by rw [← Zv _ _ 3 (by omega)];exact hc 3 _ rfl,by rw [← Zv _ _ 4 (by omega)];exact hc 4 _ rfl,by rw [← Zv _ _ 5 (by omega)];exact hc 5 _ rfl,l4,g4,l5,g5⟩
structure S43 where
 f0:(List Int)
 f1:(List S63)
 f2:Int
 f3:Int
 f4:Int
def z43:S43:=⟨([]:List Int),([]:List S63),(0:Int),(0:Int),(0:Int)⟩
def k43:Kd S43:=Kd.iso (Kd.pair (Kd.slice 3 (Kd.int .i64)) (Kd.pair (Kd.slice 63 k63) (Kd.pair (Kd.int .i64) (Kd.pair (Kd.int .i64) (Kd.int .i64))))) (fun x:S43=>(x.f0,x.f1,x.f2,x.f3,x.f4))
theorem k43_open {w:World} {x:S43} {cs:List Value} (h:k43.K w x cs):∃ A0 c0 A1 c1,cs=[.slice A0 x.f0.length c0,.slice A1 x.f1.length c1,.int .i64 x.f2,.int .i64 x.f3,.int .i64 x.f4]∧x.f0.length≤c0∧(Kd.int .i64).C w A0 x.f0.length x.f0∧x.f1.length≤c1∧k63.C w A1 x.f1.length x.f1:=by
 obtain ⟨_,_,rfl,⟨A0,c0,rfl,l0,g0⟩,⟨_,_,rfl,⟨A1,c1,rfl,l1,g1⟩,⟨_,_,rfl,rfl,⟨_,_,rfl,rfl,rfl⟩⟩⟩⟩:=h
 exact ⟨A0,c0,A1,c1,rfl,l0,g0,l1,g1⟩
theorem k43_openM {w:World} {base:Nat} {ok:Nat→Prop} {x:S43} {cs:List Value} (h:k43.M w base ok x cs):∃ v0 v1,cs=[v0,v1,.int .i64 x.f2,.int .i64 x.f3,.int .i64 x.f4]∧(Kd.int .i64).R 3 w base ok v0 x.f0∧k63.R 63 w base ok v1 x.f1:=by
 obtain ⟨_,_,rfl,⟨v0,rfl,g0⟩,⟨_,_,rfl,⟨v1,rfl,g1⟩,⟨_,_,rfl,rfl,⟨_,_,rfl,rfl,rfl⟩⟩⟩⟩:=h
 exact ⟨v0,v1,rfl,g0,g1⟩
theorem k43_mkM (w:World) (base:Nat) (ok:Nat→Prop) (x:S43) {v0:Value} (g0:(Kd.int .i64).R 3 w base ok v0 x.f0) {v1:Value} (g1:k63.R 63 w base ok v1 x.f1):k43.M w base ok x [v0,v1,.int .i64 x.f2,.int .i64 x.f3,.int .i64 x.f4]:=⟨[v0],[v1,.int .i64 x.f2,.int .i64 x.f3,.int .i64 x.f4],rfl,⟨v0,rfl,g0⟩,⟨[v1],[.int .i64 x.f2,.int .i64 x.f3,.int .i64 x.f4],rfl,⟨v1,rfl,g1⟩,⟨[.int .i64 x.f2],[.int .i64 x.f3,.int .i64 x.f4],rfl,rfl,⟨[.int .i64 x.f3],[.int .i64 x.f4],rfl,rfl,rfl⟩⟩⟩⟩
def Xm (xs:List S43) (i:Int):S43:=xs.getD i.toNat z43
theorem at_T43 {w:World} {A:Option Addr} {n:Nat} {xs:List S43} (h:Kd.C k43 w A n xs) (i:Int) (h0:0≤i) (h1:i<n):∃ ad A0 c0 A1 c1,A=some ad∧w.cell? (ad.add (i.toNat * 5))=some (.slice A0 (Xm xs i).f0.length c0)∧w.cell? ⟨(ad.add (i.toNat * 5)).block,(ad.add (i.toNat * 5)).off+1,none⟩=some (.slice A1 (Xm xs i).f1.length c1)∧w.cell? ⟨(ad.add (i.toNat * 5)).block,(ad.add (i.toNat * 5)).off+2,none⟩=some (.int .i64 (Xm xs i).f2)∧w.cell? ⟨(ad.add (i.toNat * 5)).block,(ad.add (i.toNat * 5)).off+3,none⟩=some (.int .i64 (Xm xs i).f3)∧w.cell? ⟨(ad.add (i.toNat * 5)).block,(ad.add (i.toNat * 5)).off+4,none⟩=some (.int .i64 (Xm xs i).f4)∧(Xm xs i).f0.length≤c0∧(Kd.int .i64).C w A0 (Xm xs i).f0.length (Xm xs i).f0∧(Xm xs i).f1.length≤c1∧k63.C w A1 (Xm xs i).f1.length (Xm xs i).f1:=by
 obtain ⟨ad,c,e,_,hK,hc0⟩:=Kd.C_get h z43 i h0 h1
 have hc:∀ j u,c[j]?=some u→w.cell? (ad.add (i.toNat * 5+j))=some u:=hc0
 obtain ⟨A0,c0,A1,c1,rfl,l0,g0,l1,g1⟩:=k43_open hK
 exact ⟨ad,A0,c0,A1,c1,e,hc 0 _ rfl,by rw [← Zv _ _ 1 (by omega)];exact hc 1 _ rfl,by rw [← Zv _ _ 2 (by omega)];exact hc 2 _ rfl,by rw [← Zv _ _ 3 (by omega)];exact hc 3 _ rfl,by rw [← Zv _ _ 4 (by omega)];exact hc 4 _ rfl,l0,g0,l1,g1⟩
structure S47 where
 f0:Int
 f1:Int
def z47:S47:=⟨(0:Int),(0:Int)⟩
def k47:Kd S47:=Kd.iso (Kd.pair (Kd.int .i64) (Kd.int .i64)) (fun x:S47=>(x.f0,x.f1))
theorem k47_open {w:World} {x:S47} {cs:List Value} (h:k47.K w x cs):cs=[.int .i64 x.f0,.int .i64 x.f1]:=by
 obtain ⟨_,_,rfl,rfl,rfl⟩:=h
 exact rfl
theorem k47_openM {w:World} {base:Nat} {ok:Nat→Prop} {x:S47} {cs:List Value} (h:k47.M w base ok x cs):cs=[.int .i64 x.f0,.int .i64 x.f1]:=by
 obtain ⟨_,_,rfl,rfl,rfl⟩:=h
 exact rfl
theorem k47_mkM (w:World) (base:Nat) (ok:Nat→Prop) (x:S47) :k47.M w base ok x [.int .i64 x.f0,.int .i64 x.f1]:=⟨[.int .i64 x.f0],[.int .i64 x.f1],rfl,rfl,rfl⟩
def Yx (xs:List S47) (i:Int):S47:=xs.getD i.toNat z47
theorem at_T47 {w:World} {A:Option Addr} {n:Nat} {xs:List S47} (h:Kd.C k47 w A n xs) (i:Int) (h0:0≤i) (h1:i<n):∃ ad,A=some ad∧w.cell? (ad.add (i.toNat * 2))=some (.int .i64 (Yx xs i).f0)∧w.cell? ⟨(ad.add (i.toNat * 2)).block,(ad.add (i.toNat * 2)).off+1,none⟩=some (.int .i64 (Yx xs i).f1):=by
 obtain ⟨ad,c,e,_,hK,hc0⟩:=Kd.C_get h z47 i h0 h1
 have hc:∀ j u,c[j]?=some u→w.cell? (ad.add (i.toNat * 2+j))=some u:=hc0
 obtain rfl:=k47_open hK
 exact ⟨ad,e,hc 0 _ rfl,by rw [← Zv _ _ 1 (by omega)];exact hc 1 _ rfl⟩
end Go.Proofs.YtpcfebhpapdkcaaDoor.GWorld
