import Derived.Test.YtpcfebhpapdkcaaDoorCFnExactWorldText39
import Derived.Test.YtpcfebhpapdkcaaDoorCFnExactWorldText0
import Derived.Lib.Join
import Derived.Lib.ItoaLen
import Derived.Test.YtpcfebhpapdkcaaDoorCFnExactWorldText24
import Derived.Test.YtpcfebhpapdkcaaDoorCFnExactWorldText31
import Derived.Test.YtpcfebhpapdkcaaDoorCFnExactWorldText30
import Derived.Test.YtpcfebhpapdkcaaDoorCFnExactWorldText29
namespace Go.Proofs.YtpcfebhpapdkcaaDoor.Pure
open Go.RowKit Go.Proofs.YtpcfebhpapdkcaaDoor.GWorld Go.Proofs.YtpcfebhpapdkcaaDoorW.PrintWords Go.Proofs.YtpcfebhpapdkcaaDoorW.PrintLast Go.Proofs.YtpcfebhpapdkcaaDoorW.PrintMore Go.Proofs.YtpcfebhpapdkcaaDoor.Evt Go.Proofs.YtpcfebhpapdkcaaDoor.Shelf2
set_option linter.unusedVariables false
set_option linter.unusedSimpArgs false
def decB (n:Nat):ByteArray:=⟨(Lib.decDigits n).toArray⟩
theorem ext_toList {a b:ByteArray} (h:a.data.toList=b.data.toList):a=b:=by
  cases a;cases b
  simp only [ByteArray.mk.injEq]
  exact Array.toList_inj.1 h
theorem toList_append (a b:ByteArray):(a ++ b).data.toList=a.data.toList ++ b.data.toList:=by rw [ByteArray.data_append,Array.toList_append]
theorem size_toList (a:ByteArray):a.size=a.data.toList.length:=rfl
theorem Yy (a b:ByteArray):(a ++ b).size=a.size+b.size:=ByteArray.size_append
theorem digit_byte (d:Nat) (hd:d<10):strOfNums [(wrap64 (48+((d:Nat):Int))) % 256]=⟨#[UInt8.ofNat (48+d)]⟩:=by
  rw [w64 (by omega) (by omega)]
  have:((48+(d:Int)) % 256)=((48+d:Nat):Int):=by omega
  rw [this]
  unfold strOfNums
  rw [List.map_cons,List.map_nil,Int.toNat_natCast]
theorem decB_step (n:Nat) (h:¬ n<10):(decB n).size=(decB (n / 10)).size+1:=by
  rw [size_toList,size_toList]
  unfold decB
  rw [Lib.decDigits,dif_neg h]
  simp
theorem dec_loop_all:∀ (n:Nat) (acc:ByteArray),n≤9223372036854775807→acc.size+(decB n).size≤1000000→Evt (fun k=>Yg.l0 k (n:Int) acc) (decB n ++ acc):=by
  intro n
  induction n using Nat.strongRecOn with
  |_ n ih=>
    intro acc hn hs
    refine Evt.step ?_
    simp only [Yg.l0,Option.bind_some]
    by_cases h:n<10
    · refine Evt.neg (by omega) ?_
      rw [digit_byte n h]
      have e:decB n=⟨#[UInt8.ofNat (48+n)]⟩:=by unfold decB;rw [Lib.decDigits_one h]
      rw [e]
      exact Evt.pos (by have:(⟨#[UInt8.ofNat (48+n)]⟩:ByteArray).size=1:=rfl;omega) (Evt.pure _)
    · refine Evt.pos (by omega) ?_
      have e1:Int.tmod (n:Int) 10=((n % 10:Nat):Int):=by rfl
      have e2:Int.tdiv (n:Int) 10=((n / 10:Nat):Int):=by rfl
      have hd:=decB_step n h
      rw [e1,e2,digit_byte (n % 10) (by omega),w64 (by omega) (by omega)]
      have hz:(⟨#[UInt8.ofNat (48+n % 10)]⟩:ByteArray).size=1:=rfl
      refine Evt.pos (by omega) ?_
      have hh:=ih (n / 10) (by omega) ((⟨#[UInt8.ofNat (48+n % 10)]⟩:ByteArray) ++ acc) (by omega) (by rw [Yy,hz];omega)
      have e:decB n ++ acc=decB (n / 10) ++ ((⟨#[UInt8.ofNat (48+n % 10)]⟩:ByteArray) ++ acc):=by
        apply ext_toList
        rw [toList_append,toList_append,toList_append]
        unfold decB
        rw [Lib.decDigits,dif_neg h]
        simp
      rw [e]
      exact hh
theorem decB_small (n:Nat) (h:n≤9223372036854775807):(decB n).size≤21:=by
  have:=Lib.itoa_length_le (n:Int) (by omega) (by omega)
  unfold Lib.itoa at this
  rw [if_neg (by omega)] at this
  unfold decB
  rw [size_toList]
  simpa using this
theorem Zx (n:Int) (h1:-9223372036854775808≤n) (h2:n≤9223372036854775807):(itoaB n).size≤21:=by
  have:=Lib.itoa_length_le n h1 h2
  unfold itoaB
  rw [size_toList]
  simpa using this
theorem least_text:itoaB (-9223372036854775808)=⟨#[45,57,50,50,51,51,55,50,48,51,54,56,53,52,55,55,53,56,48,56]⟩:=by
  unfold itoaB Lib.itoa
  rw [if_pos (by decide)]
  have:((-9223372036854775808:Int)).natAbs=9223372036854775808:=rfl
  rw [this]
  rw [Lib.decDigits_eq]
  decide +kernel
theorem dec_all (n:Int) (h1:-9223372036854775808≤n) (h2:n≤9223372036854775807):Evt (fun k=>Yg.f k n) (itoaB n):=by
  have hp:∀ m:Nat,m≤9223372036854775807→Evt (fun k=>Yg.f k (m:Int)) (decB m):=fun m hm=>by
    refine Evt.step ?_
    simp only [Yg.f]
    refine Evt.neg (by omega) (Evt.neg (by omega) ?_)
    have:=dec_loop_all m ⟨#[]⟩ hm (by have:(⟨#[]⟩:ByteArray).size=0:=rfl;have:=decB_small m hm;omega)
    have e:decB m ++ ⟨#[]⟩=decB m:=ext_toList (by rw [toList_append];simp)
    rwa [e] at this
  by_cases hl:n < -9223372036854775807
  · obtain rfl:n = -9223372036854775808:=by omega
    refine Evt.step ?_
    simp only [Yg.f]
    rw [least_text]
    exact Evt.pos (by decide) (Evt.pure _)
  by_cases hn:n<0
  · obtain ⟨m,rfl⟩:∃ m:Nat,n = -(m:Int):=⟨n.natAbs,by omega⟩
    refine Evt.step ?_
    simp only [Yg.f]
    refine Evt.neg (by omega) (Evt.pos (by omega) ?_)
    have e0:wrap64 (-(-(m:Int)))=(m:Int):=by rw [w64 (by omega) (by omega)];omega
    rw [e0]
    refine Evt.bind (hp m (by omega)) (Evt.pos (by have:=decB_small m (by omega);omega) ?_)
    have e:(⟨#[45]⟩:ByteArray) ++ decB m=itoaB (-(m:Int)):=by
      apply ext_toList
      rw [toList_append]
      unfold itoaB Lib.itoa decB
      rw [if_pos hn]
      have:(-(m:Int)).natAbs=m:=by omega
      rw [this]
      simp
    rw [e]
    exact Evt.pure _
  · obtain ⟨m,rfl⟩:∃ m:Nat,n=(m:Int):=⟨n.toNat,by omega⟩
    have e:itoaB (m:Int)=decB m:=by
      unfold itoaB Lib.itoa decB
      rw [if_neg hn]
      simp
    rw [e]
    exact hp m (by omega)
def sp:ByteArray:=⟨#[32]⟩
def behind (w:ByteArray) (l:List Int):ByteArray:=l.foldl (fun a n=>a ++ sp ++ itoaB n) w
theorem behind_list (w:ByteArray) (l:List Int):(behind w l).data.toList=w.data.toList ++ Lib.joinTail [32] (l.map (fun n=>(itoaB n).data.toList)):=by
  unfold behind Lib.joinTail
  induction l generalizing w with
  |nil=>simp
  |cons n r ih=>
    rw [List.foldl_cons,ih,toList_append,toList_append]
    simp [sp]
theorem joinB_behind (w:ByteArray) (l:List Int):joinB (w :: l.map itoaB) sp=behind w l:=by
  apply ext_toList
  rw [behind_list]
  unfold joinB
  show (Lib.join _ _)=_
  rw [List.map_cons,Lib.join_cons,List.map_map]
  rfl
theorem append_assoc3 (a b c:ByteArray):a ++ b ++ c=a ++ (b ++ c):=ext_toList (by simp only [toList_append,List.append_assoc])
def Nums (l:List Int):Prop:=∀ n ∈ l,-9223372036854775808≤n∧n≤9223372036854775807
theorem behind_size_all (w:ByteArray) (l:List Int) (h:Nums l):(behind w l).size≤w.size+22 * l.length:=by
  unfold behind
  induction l generalizing w with
  |nil=>simp
  |cons n r ih=>
    rw [List.foldl_cons]
    have:=ih (w ++ sp ++ itoaB n) (fun m hm=>h m (List.mem_cons_of_mem _ hm))
    have h1:=Zx n (h n (List.mem_cons_self ..)).1 (h n (List.mem_cons_self ..)).2
    rw [Yy,Yy] at this
    have h2:sp.size=1:=rfl
    rw [List.length_cons]
    omega
def nl:ByteArray:=⟨#[10]⟩
def numsB (w:ByteArray) (l:List Int):ByteArray:=behind w l ++ nl
theorem numsB_size (w:ByteArray) (l:List Int) (h:Nums l):(numsB w l).size≤w.size+22 * l.length+1:=by
  unfold numsB
  rw [Yy]
  have:=behind_size_all w l h
  have h2:nl.size=1:=rfl
  omega
theorem l8_loop (l:List Int) (hl:l.length≤1048576) (hn:Nums l):∀ (n i:Nat) (out:ByteArray),i+n=l.length→out.size≤1000+22 * i→Evt (fun k=>Yr.l0 k l out (i:Int)) (behind out (l.drop i) ++ nl)
  |0,i,out,hi,ho=>by
    refine Evt.step ?_
    simp only [Yr.l0]
    rw [List.drop_eq_nil_of_le (by omega)]
    exact Evt.neg (by omega) (Evt.pos (by omega) (Evt.pure _))
  |n+1,i,out,hi,ho=>by
    have hm:i<l.length:=by omega
    have hx:=hn _ (getD_mem 0 hm)
    have hz:=Zx _ hx.1 hx.2
    have h1:(⟨#[32]⟩:ByteArray).size=1:=rfl
    refine Evt.step ?_
    simp only [Yr.l0,rd_nat]
    refine Evt.pos (by omega) (Evt.pos (by omega) (Evt.pos (by omega) (Evt.bind (dec_all _ hx.1 hx.2) (Evt.pos (by rw [Yy];omega) ?_))))
    rw [w64n i (by omega)]
    have ih:=l8_loop l hl hn n (i+1) (out ++ (⟨#[32]⟩:ByteArray) ++ itoaB (l.getD i 0)) (by omega) (by rw [Yy,Yy];omega)
    have e:behind out (l.drop i)=behind (out ++ (⟨#[32]⟩:ByteArray) ++ itoaB (l.getD i 0)) (l.drop (i+1)):=by
      rw [List.drop_eq_getElem_cons hm,getD_at 0 hm]
      rfl
    rw [e]
    exact ih
theorem l8_ev (w:ByteArray) (hw:w.size≤1000) (l:List Int) (hl:l.length≤1048576) (hn:Nums l):Evt (fun k=>Yr.f k w l) (numsB w l):=by
  unfold Yr.f
  exact l8_loop l hl hn l.length 0 w (by omega) (by omega)
theorem numbers_loop (s:ByteArray) (l:List Int) (hl:l.length≤1048576) (hn:Nums l) (r:ByteArray) (h:strings_Join.f (l.map itoaB) s=some r):∀ (n i:Nat),i+n=l.length→Evt (fun k=>Yo.l0 k s ((l.take i).map itoaB) l (l.length:Int) (i:Int)) r
  |0,i,hi=>by
    refine Evt.step ?_
    simp only [Yo.l0]
    rw [List.take_of_length_le (by omega)]
    exact Evt.neg (by omega) (Evt.bind (Evt.of_eq fun _=>h) (Evt.pure _))
  |n+1,i,hi=>by
    have hm:i<l.length:=by omega
    have hx:=hn _ (getD_mem 0 hm)
    have hi':strconv_Itoa.f (l.getD i 0)=some (itoaB (l.getD i 0)):=by
      unfold strconv_Itoa.f in64
      rw [if_pos (by simp only [Bool.and_eq_true,decide_eq_true_eq];omega)]
    refine Evt.step ?_
    simp only [Yo.l0,rd_nat,hi',Option.bind_some]
    refine Evt.pos (by omega) (Evt.pos (by omega) (Evt.pos (by omega) (Evt.pos (by simp;omega) ?_)))
    rw [w64n i (by omega)]
    have ih:=numbers_loop s l hl hn r h n (i+1) (by omega)
    have e:(l.take i).map itoaB ++ [itoaB (l.getD i 0)]=(l.take (i+1)).map itoaB:=by
      rw [getD_at 0 hm,List.take_succ_eq_append_getElem hm,List.map_append]
      rfl
    rw [e]
    exact ih
theorem lens_nums:∀ (q:List Int),Nums q→Lib.lens ((q.map itoaB).map (·.data.toList))≤21 * q.length
  |[],_=>by simp [Lib.lens]
  |y :: q,hq=>by
    have h1:=Zx y (hq y (List.mem_cons_self ..)).1 (hq y (List.mem_cons_self ..)).2
    have h2:=lens_nums q (fun m hm=>hq m (List.mem_cons_of_mem _ hm))
    rw [size_toList] at h1
    simp only [Lib.lens,List.map_cons,List.sum_cons,List.length_cons] at h2 ⊢
    omega
theorem join_size (s:ByteArray) (l:List Int) (hl:l.length≤1048576) (hn:Nums l) (hs:s.size≤1):(joinB (l.map itoaB) s).size≤22 * l.length:=by
  unfold joinB
  rw [size_toList]
  show (Lib.join _ _).length≤_
  cases l with
  |nil=>simp [Lib.join_nil]
  |cons x r=>
    have h3:=lens_nums (x :: r) hn
    rw [List.map_cons,List.map_cons] at h3 ⊢
    rw [Lib.join_length]
    have h4:s.data.toList.length≤1:=hs
    simp only [List.length_cons,List.length_map] at h3 ⊢
    have:s.data.toList.length * r.length≤1 * r.length:=Nat.mul_le_mul_right _ h4
    omega
theorem numbers_ev (s:ByteArray) (l:List Int) (hl:l.length≤1048576) (hn:Nums l) (hs:s.size≤1):Evt (fun k=>Yo.f k l s) (joinB (l.map itoaB) s):=by
  have hlen:=join_size s l hl hn hs
  have hj:strings_Join.f (l.map itoaB) s=some (joinB (l.map itoaB) s):=by
    unfold strings_Join.f
    rw [if_pos ⟨by simp;omega,by
      unfold joinB at hlen
      rw [size_toList] at hlen
      refine Nat.le_trans hlen (by omega)⟩]
  unfold Yo.f
  exact numbers_loop s l hl hn _ hj l.length 0 (by omega)
theorem line_ev (w:ByteArray) (hw:w.size≤1000) (l:List Int) (hl:l.length≤1048576) (hn:Nums l):Evt (fun k=>Zl.f k w l) (numsB w l):=by
  have h1:(⟨#[32]⟩:ByteArray).size=1:=rfl
  unfold Zl.f
  cases l with
  |nil=>exact Evt.pos rfl (Evt.pos (by omega) (Evt.pure _))
  |cons x r=>
    have hz:=join_size ⟨#[32]⟩ (x :: r) hl hn (by omega)
    refine Evt.neg (by simp;omega) (Evt.pos (by omega) (Evt.bind (numbers_ev ⟨#[32]⟩ (x :: r) hl hn (by omega)) (Evt.pos (by rw [Yy];omega) (Evt.pos (by rw [Yy,Yy];omega) ?_))))
    have e:w ++ (⟨#[32]⟩:ByteArray) ++ joinB ((x :: r).map itoaB) ⟨#[32]⟩=behind w (x :: r):=by
      rw [← joinB_behind]
      apply ext_toList
      rw [toList_append,toList_append]
      unfold joinB
      simp only [List.map_cons,Lib.join_cons,List.toList_toArray,sp,Lib.joinTail]
      simp
    rw [e]
    exact Evt.pure _
def cm:ByteArray:=⟨#[44]⟩
def quadB (a b c d:Int):ByteArray:=itoaB a ++ cm ++ itoaB b ++ cm ++ itoaB c ++ cm ++ itoaB d
theorem quad_join (a b c d:Int):joinB ([a,b,c,d].map itoaB) cm=quadB a b c d:=by
  apply ext_toList
  unfold quadB joinB
  simp only [toList_append,List.map_cons,List.map_nil,Lib.join_cons,Lib.joinTail,cm]
  simp
end Go.Proofs.YtpcfebhpapdkcaaDoor.Pure
