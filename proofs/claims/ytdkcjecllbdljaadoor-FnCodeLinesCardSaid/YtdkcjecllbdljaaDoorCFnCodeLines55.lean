import Derived.Test.YtdkcjecllbdljaaDoorCFnCodeLines54
import Derived.Test.YtdkcjecllbdljaaDoorCFnCodeLines0
import Derived.Lib.Join
import Derived.Lib.ItoaLen
import Derived.Test.YtdkcjecllbdljaaDoorCFnCodeLines42
import Derived.Test.YtdkcjecllbdljaaDoorCFnCodeLines30
import Derived.Test.YtdkcjecllbdljaaDoorCFnCodeLines29
import Derived.Test.YtdkcjecllbdljaaDoorCFnCodeLines41
import Derived.Test.YtdkcjecllbdljaaDoorCFnCodeLines28
namespace Go.Proofs.YtdkcjecllbdljaaDoor.Pure
open Go.RowKit Go.Proofs.YtdkcjecllbdljaaDoor.GCode Go.Proofs.YtdkcjecllbdljaaDoorW.PrintWords Go.Proofs.YtdkcjecllbdljaaDoorW.PrintLast Go.Proofs.YtdkcjecllbdljaaDoorW.PrintMore Go.Proofs.YtdkcjecllbdljaaDoor.Evt Go.Proofs.YtdkcjecllbdljaaDoor.HForms Go.Proofs.YtdkcjecllbdljaaDoor.Shelf2
set_option linter.unusedVariables false
set_option linter.unusedSimpArgs false
def decB (n:Nat):ByteArray:=⟨(Lib.decDigits n).toArray⟩
theorem ext_toList {a b:ByteArray} (h:a.data.toList=b.data.toList):a=b:=by
  cases a;cases b
  simp only [ByteArray.mk.injEq]
  exact Array.toList_inj.1 h
theorem toList_append (a b:ByteArray):(a ++ b).data.toList=a.data.toList ++ b.data.toList:=by rw [ByteArray.data_append,Array.toList_append]
theorem size_toList (a:ByteArray):a.size=a.data.toList.length:=rfl
theorem size_app (a b:ByteArray):(a ++ b).size=a.size+b.size:=ByteArray.size_append
theorem digit_byte (d:Nat) (hd:d<10):strOfNums [(wrap64 (48+((d:Nat):Int))) % 256]=⟨#[UInt8.ofNat (48+d)]⟩:=by
  rw [w64 (by omega) (by omega)]
  have:((48+(d:Int)) % 256)=((48+d:Nat):Int):=by omega
  rw [this]
  unfold strOfNums
  rw [List.map_cons,List.map_nil,Int.toNat_natCast]
theorem dec_loop:∀ (n:Nat) (acc:ByteArray),n≤1000000→acc.size+n≤2000000→Evt (fun k=>Zj.l0 k (n:Int) acc) (decB n ++ acc):=by
  intro n
  induction n using Nat.strongRecOn with
  |_ n ih=>
    intro acc hn hs
    refine Evt.step ?_
    simp only [Zj.l0,Option.bind_some]
    by_cases h:n<10
    · refine Evt.neg (by omega) ?_
      rw [digit_byte n h]
      have e:decB n=⟨#[UInt8.ofNat (48+n)]⟩:=by unfold decB;rw [Lib.decDigits_one h]
      rw [e]
      exact Evt.pos (by have:(⟨#[UInt8.ofNat (48+n)]⟩:ByteArray).size=1:=rfl;omega) (Evt.pure _)
    · refine Evt.pos (by omega) ?_
      have e1:Int.tmod (n:Int) 10=((n % 10:Nat):Int):=by rfl
      have e2:Int.tdiv (n:Int) 10=((n / 10:Nat):Int):=by rfl
      rw [e1,e2,digit_byte (n % 10) (by omega),w64 (by omega) (by omega)]
      have hz:(⟨#[UInt8.ofNat (48+n % 10)]⟩:ByteArray).size=1:=rfl
      refine Evt.pos (by omega) ?_
      have hh:=ih (n / 10) (by omega) ((⟨#[UInt8.ofNat (48+n % 10)]⟩:ByteArray) ++ acc) (by omega) (by rw [size_app,hz];omega)
      have e:decB n ++ acc=decB (n / 10) ++ ((⟨#[UInt8.ofNat (48+n % 10)]⟩:ByteArray) ++ acc):=by
        apply ext_toList
        rw [toList_append,toList_append,toList_append]
        unfold decB
        rw [Lib.decDigits,dif_neg h]
        simp
      rw [e]
      exact hh
theorem dec_size (n:Nat) (h:n≤1000):(decB n).size≤21:=by
  have:=Lib.itoa_length_le (n:Int) (by omega) (by omega)
  unfold Lib.itoa at this
  rw [if_neg (by omega)] at this
  unfold decB
  rw [size_toList]
  simpa using this
theorem dec_ev (n:Int) (h1:-999≤n) (h2:n≤999):Evt (fun k=>Zj.f k n) (itoaB n):=by
  have hp:∀ m:Nat,m≤999→Evt (fun k=>Zj.f k (m:Int)) (decB m):=fun m hm=>by
    refine Evt.step ?_
    simp only [Zj.f]
    refine Evt.neg (by omega) (Evt.neg (by omega) ?_)
    have:=dec_loop m ⟨#[]⟩ (by omega) (by have:(⟨#[]⟩:ByteArray).size=0:=rfl;omega)
    have e:decB m ++ ⟨#[]⟩=decB m:=ext_toList (by rw [toList_append];simp)
    rwa [e] at this
  by_cases hn:n<0
  · obtain ⟨m,rfl⟩:∃ m:Nat,n = -(m:Int):=⟨n.natAbs,by omega⟩
    refine Evt.step ?_
    simp only [Zj.f]
    refine Evt.neg (by omega) (Evt.pos (by omega) ?_)
    have e0:wrap64 (-(-(m:Int)))=(m:Int):=by rw [w64 (by omega) (by omega)];omega
    rw [e0]
    refine Evt.bind (hp m (by omega)) (Evt.pos (by have:=dec_size m (by omega);omega) ?_)
    have e:(⟨#[45]⟩:ByteArray) ++ decB m=itoaB (-(m:Int)):=by
      apply ext_toList
      rw [toList_append]
      unfold itoaB Lib.itoa decB
      rw [if_pos hn]
      have:(-(m:Int)).natAbs=m:=by omega
      rw [this]
      simp
    rw [e]
    exact Evt.pure _
  · obtain ⟨m,rfl⟩:∃ m:Nat,n=(m:Int):=⟨n.toNat,by omega⟩
    have e:itoaB (m:Int)=decB m:=by
      unfold itoaB Lib.itoa decB
      rw [if_neg hn]
      simp
    rw [e]
    exact hp m (by omega)
theorem itoaB_size (n:Int) (h1:-999≤n) (h2:n≤999):(itoaB n).size≤21:=by
  have:=Lib.itoa_length_le n (by omega) (by omega)
  unfold itoaB
  rw [size_toList]
  simpa using this
def told (s:Ins):List (Bool × Int):=[(decide ((Xz s.f0).2.a > 0),s.f1),(decide ((Xz s.f0).2.b > 0),s.f2),((Xz s.f0).2.n,s.f3)]
def numsOf (s:Ins):List Int:=((told s).filter (·.1)).map (·.2)
def sp:ByteArray:=⟨#[32]⟩
def behind (w:ByteArray) (l:List Int):ByteArray:=l.foldl (fun a n=>a ++ sp ++ itoaB n) w
def lineB (s:Ins):ByteArray:=behind (Xz s.f0).2.word (numsOf s)
theorem behind_list (w:ByteArray) (l:List Int):(behind w l).data.toList=w.data.toList ++ Lib.joinTail [32] (l.map (fun n=>(itoaB n).data.toList)):=by
  unfold behind Lib.joinTail
  induction l generalizing w with
  |nil=>simp
  |cons n r ih=>
    rw [List.foldl_cons,ih,toList_append,toList_append]
    simp [sp]
theorem joinB_behind (w:ByteArray) (l:List Int):joinB (w :: l.map itoaB) sp=behind w l:=by
  apply ext_toList
  rw [behind_list]
  unfold joinB
  show (Lib.join _ _)=_
  rw [List.map_cons,Lib.join_cons,List.map_map]
  rfl
def Small (l:List Int):Prop:=∀ n ∈ l,-999≤n∧n≤999
theorem behind_size (w:ByteArray) (l:List Int) (h:Small l):(behind w l).size≤w.size+22 * l.length:=by
  unfold behind
  induction l generalizing w with
  |nil=>simp
  |cons n r ih=>
    rw [List.foldl_cons]
    have:=ih (w ++ sp ++ itoaB n) (fun m hm=>h m (List.mem_cons_of_mem _ hm))
    have h1:=itoaB_size n (h n (List.mem_cons_self ..)).1 (h n (List.mem_cons_self ..)).2
    rw [size_app,size_app] at this
    have h2:sp.size=1:=rfl
    rw [List.length_cons]
    omega
theorem fits_small {n l:Int} (hl:l≤3) (h:Zv n l=true):-999≤n∧n≤999:=by
  unfold Zv at h
  simp only [Bool.or_eq_true,Bool.and_eq_true,decide_eq_true_eq] at h
  omega
theorem last_small {op n m:Int} {x:Bool} (hm:m≤60) (h:Zm op n m x=true):-999≤n∧n≤999:=by
  unfold Zm at h
  split at h
  · simp only [Bool.and_eq_true,decide_eq_true_eq] at h;omega
  · split at h
    · simp only [Bool.and_eq_true,decide_eq_true_eq] at h;omega
    · split at h
      · simp only [Bool.and_eq_true,decide_eq_true_eq] at h;omega
      · simp only [decide_eq_true_eq] at h;omega
theorem ok_op {op a b n m:Int} (h:insOkF op a b n m=true):1≤op∧op≤13:=by
  by_cases hc:1≤op∧op≤13
  · exact hc
  · rw [insF_cases,if_neg (by omega),if_neg (by omega),if_neg (by omega),if_neg (by omega),if_neg (by omega),if_neg (by omega),if_neg (by omega),if_neg (by omega),if_neg (by omega),if_neg (by omega),if_neg (by omega),if_neg (by omega),if_neg (by omega)] at h
    cases h
theorem ok_small {op a b n m:Int} (hm:m≤60) (h:insOkF op a b n m=true):Small [a,b,n]:=by
  have ho:=ok_op h
  have g:∀ {la lb:Int} {x:Bool},la≤3→lb≤3→(Zv a la && (Zv b lb && Zm op n m x))=true→Small [a,b,n]:=by
    intro la lb x h1 h2 h
    simp only [Bool.and_eq_true] at h
    intro z hz
    simp only [List.mem_cons,List.not_mem_nil,or_false] at hz
    rcases hz with rfl|rfl|rfl
    · exact fits_small h1 h.1
    · exact fits_small h2 h.2.1
    · exact last_small hm h.2.2
  have:op=1∨op=2∨op=3∨op=4∨op=5∨op=6∨op=7∨op=8∨op=9∨op=10∨op=11∨op=12∨op=13:=by omega
  rcases this with rfl|rfl|rfl|rfl|rfl|rfl|rfl|rfl|rfl|rfl|rfl|rfl|rfl
  · exact g (la:=3) (lb:=0) (x:=false) (by omega) (by omega) h
  · exact g (la:=3) (lb:=3) (x:=false) (by omega) (by omega) h
  · exact g (la:=3) (lb:=3) (x:=false) (by omega) (by omega) h
  · exact g (la:=3) (lb:=3) (x:=false) (by omega) (by omega) h
  · exact g (la:=3) (lb:=0) (x:=false) (by omega) (by omega) h
  · exact g (la:=3) (lb:=0) (x:=true) (by omega) (by omega) h
  · exact g (la:=0) (lb:=0) (x:=true) (by omega) (by omega) h
  · exact g (la:=2) (lb:=0) (x:=false) (by omega) (by omega) h
  · exact g (la:=2) (lb:=0) (x:=false) (by omega) (by omega) h
  · exact g (la:=2) (lb:=0) (x:=false) (by omega) (by omega) h
  · exact g (la:=2) (lb:=0) (x:=false) (by omega) (by omega) h
  · exact g (la:=0) (lb:=0) (x:=false) (by omega) (by omega) h
  · exact g (la:=0) (lb:=0) (x:=false) (by omega) (by omega) h
theorem numsOf_small {s:Ins} (h:Small [s.f1,s.f2,s.f3]):Small (numsOf s):=by
  intro n hn
  unfold numsOf told at hn
  obtain ⟨p,hp,rfl⟩:=List.mem_map.1 hn
  have:=(List.mem_filter.1 hp).1
  simp only [List.mem_cons,List.not_mem_nil,or_false] at this
  rcases this with rfl|rfl|rfl
  · exact h _ (by simp)
  · exact h _ (by simp)
  · exact h _ (by simp)
theorem numsOf_len (s:Ins):(numsOf s).length≤3:=by
  unfold numsOf
  rw [List.length_map]
  exact List.length_filter_le _ _
theorem line_loop (s:Ins) (hs:Small [s.f1,s.f2,s.f3]) (bs:List Bool) (hb:bs.length=3):∀ (d j:Nat) (ws:List ByteArray),j+d=3→ws.length≤j+1→∀ r,Evt (fun _=>strings_Join.f (ws ++ ((((bs.zip [s.f1,s.f2,s.f3]).drop j).filter (·.1)).map (fun p=>itoaB p.2))) (⟨#[32]⟩:ByteArray)) r→
    Evt (fun k=>Yt.l0 k ws bs 3 (j:Int) s.f0 s.f1 s.f2 s.f3) r
  |0,j,ws,hj,hw,r,h=>by
    refine Evt.step ?_
    simp only [Yt.l0]
    refine Evt.neg (by omega) ?_
    have:(bs.zip [s.f1,s.f2,s.f3]).drop j=[]:=by apply List.drop_eq_nil_of_le;simp;omega
    rw [this] at h
    simp only [List.filter_nil,List.map_nil,List.append_nil] at h
    exact Evt.bind h (Evt.pure _)
  |d+1,j,ws,hj,hw,r,h=>by
    refine Evt.step ?_
    simp only [Yt.l0]
    refine Evt.pos (by omega) (Evt.pos (by omega) (Evt.pos (by omega) ?_))
    have hz:j<(bs.zip [s.f1,s.f2,s.f3]).length:=by simp [hb];omega
    rw [List.drop_eq_getElem_cons hz] at h
    have e:(bs.zip [s.f1,s.f2,s.f3])[j]=(bs.getD j false,[s.f1,s.f2,s.f3].getD j 0):=by
      rw [List.getElem_zip,getD_at _ (by omega),getD_at _ (by simp;omega)]
    rw [e] at h
    rw [rdOf_nat,w64n j (by omega)]
    by_cases hc:bs.getD j false=true
    · refine Evt.pos hc ?_
      simp only [Option.bind_some]
      refine Evt.pos (by simp;omega) ?_
      rw [rd_nat]
      have hm:=hs ([s.f1,s.f2,s.f3].getD j 0) (getD_mem _ (by simp;omega))
      have hi:strconv_Itoa.f ([s.f1,s.f2,s.f3].getD j 0)=some (itoaB ([s.f1,s.f2,s.f3].getD j 0)):=by
        unfold strconv_Itoa.f in64
        rw [if_pos (by simp only [Bool.and_eq_true,decide_eq_true_eq];omega)]
      rw [hi]
      simp only [Option.bind_some]
      refine Evt.pos (by omega) (line_loop s hs bs hb d (j+1) _ (by omega) (by simp;omega) r ?_)
      rw [List.filter_cons_of_pos (by simpa using hc),List.map_cons] at h
      simpa using h
    · refine Evt.neg hc (line_loop s hs bs hb d (j+1) ws (by omega) (by omega) r ?_)
      rw [List.filter_cons_of_neg (by simpa using hc)] at h
      exact h
theorem word_size (op:Int) (h:1≤op∧op≤13):(Xz op).2.word.size≤6:=by
  have:op=1∨op=2∨op=3∨op=4∨op=5∨op=6∨op=7∨op=8∨op=9∨op=10∨op=11∨op=12∨op=13:=by omega
  rcases this with rfl|rfl|rfl|rfl|rfl|rfl|rfl|rfl|rfl|rfl|rfl|rfl|rfl <;> decide
theorem line_size {s:Ins} (h:1≤s.f0∧s.f0≤13) (hs:Small [s.f1,s.f2,s.f3]):(lineB s).size≤72:=by
  have h1:=behind_size (Xz s.f0).2.word (numsOf s) (numsOf_small hs)
  have h2:=word_size s.f0 h
  have h3:=numsOf_len s
  unfold lineB
  omega
theorem line_ev {s:Ins} (h:1≤s.f0∧s.f0≤13) (hs:Small [s.f1,s.f2,s.f3]):Evt (fun k=>Yt.f k s.f0 s.f1 s.f2 s.f3) (lineB s):=by
  unfold Yt.f Yt.fF
  simp only [Option.bind_some]
  refine line_loop s hs _ rfl 3 0 _ rfl (by simp) _ ?_
  have e:([(Xz s.f0).2.word] ++ (((([decide ((Xz s.f0).2.a > 0),decide ((Xz s.f0).2.b > 0),(Xz s.f0).2.n].zip [s.f1,s.f2,s.f3]).drop 0).filter (·.1)).map (fun p=>itoaB p.2)))=(Xz s.f0).2.word :: (numsOf s).map itoaB:=by
    unfold numsOf told
    rw [List.map_map]
    rfl
  rw [e]
  refine Evt.of_eq (fun _=>?_)
  unfold strings_Join.f
  have hl:(Lib.join (((Xz s.f0).2.word :: (numsOf s).map itoaB).map (·.data.toList)) [32])=(lineB s).data.toList:=by
    have:=congrArg (·.data.toList) (joinB_behind (Xz s.f0).2.word (numsOf s))
    exact this
  have hk:=line_size h hs
  have hn:=numsOf_len s
  rw [if_pos]
  · exact congrArg some (joinB_behind _ _)
  · refine ⟨by simp;omega,?_⟩
    show (Lib.join _ [32]).length≤_
    rw [hl,← size_toList]
    omega
def nl:ByteArray:=⟨#[10]⟩
def textB (c:List Ins):ByteArray:=c.foldl (fun a s=>a ++ lineB s ++ nl) ⟨#[]⟩
def Lines (c:List Ins):Prop:=∀ s ∈ c,(1≤s.f0∧s.f0≤13)∧Small [s.f1,s.f2,s.f3]
theorem at_get {c:List Ins} {i:Nat} (h:i<c.length):at_ c i=c[i]:=by unfold at_;exact getD_at _ h
theorem fold_step (c:List Ins) (i:Nat) (hi:i<c.length) (out:ByteArray):(c.drop i).foldl (fun a s=>a ++ lineB s ++ nl) out=(c.drop (i+1)).foldl (fun a s=>a ++ lineB s ++ nl) (out ++ lineB (at_ c i) ++ nl):=by
  rw [List.drop_eq_getElem_cons hi,List.foldl_cons,at_get hi]
theorem at_mem {c:List Ins} {i:Nat} (hi:i<c.length):at_ c i ∈ c:=by rw [at_get hi];exact List.getElem_mem hi
theorem text_loop (c:List Ins) (hc:Lines c) (hm:c.length≤60):∀ (d i:Nat) (out:ByteArray),i+d=c.length→out.size≤73 * i→Evt (fun k=>Zf.l0 k out c (c.length:Int) (i:Int)) ((c.drop i).foldl (fun a s=>a ++ lineB s ++ nl) out)
  |0,i,out,hi,ho=>by
    refine Evt.step ?_
    simp only [Zf.l0]
    refine Evt.neg (by omega) ?_
    rw [List.drop_eq_nil_of_le (by omega)]
    exact Evt.pure _
  |d+1,i,out,hi,ho=>by
    refine Evt.step ?_
    simp only [Zf.l0,rdA]
    refine Evt.pos (by omega) (Evt.pos (by omega) (Evt.pos (by omega) ?_))
    obtain ⟨h1,h2⟩:=hc _ (at_mem (show i<c.length by omega))
    have hz:=line_size h1 h2
    have hn:(⟨#[10]⟩:ByteArray).size=1:=rfl
    refine Evt.bind (line_ev h1 h2) (Evt.pos (by omega) (Evt.pos (by rw [size_app,hn];omega) ?_))
    rw [w64n i (by omega),fold_step c i (by omega)]
    have e:out ++ (lineB (at_ c i) ++ ⟨#[10]⟩)=out ++ lineB (at_ c i) ++ nl:=ext_toList (by simp [nl])
    rw [e]
    exact text_loop c hc hm d (i+1) _ (by omega) (by rw [size_app,size_app];have:nl.size=1:=rfl;omega)
theorem word_ev (op:Int) (h:1≤op∧op≤13):∃ m,spec_l4Word.f op=some ((Xz op).2.word,m):=by
  have:op=1∨op=2∨op=3∨op=4∨op=5∨op=6∨op=7∨op=8∨op=9∨op=10∨op=11∨op=12∨op=13:=by omega
  rcases this with rfl|rfl|rfl|rfl|rfl|rfl|rfl|rfl|rfl|rfl|rfl|rfl|rfl <;> exact ⟨_,rfl⟩
theorem nums_ev (op a b n:Int) (h:1≤op∧op≤13):Evt (fun k=>Zk.f k op a b n) (numsOf ⟨op,a,b,n⟩):=by
  have:op=1∨op=2∨op=3∨op=4∨op=5∨op=6∨op=7∨op=8∨op=9∨op=10∨op=11∨op=12∨op=13:=by omega
  refine Evt.step (Evt.step ?_)
  rcases this with rfl|rfl|rfl|rfl|rfl|rfl|rfl|rfl|rfl|rfl|rfl|rfl|rfl <;> exact Evt.of_eq (fun k=>rfl)
theorem spec_word_loop (c:List Ins) (out:ByteArray) (i:Nat) (hi:i<c.length) (hi2:c.length≤60) (ho:out.size≤73 * i) (nums:List Int) (hn:Small nums) (hl:nums.length≤3) {r:ByteArray} (w0:ByteArray) (hw0:(behind w0 nums).size≤72)
    (h:Evt (fun k=>Yi.l0 k c (out ++ behind w0 nums ++ nl) ((i+1:Nat):Int)) r):∀ (d j:Nat),j+d=nums.length→Evt (fun k=>Yi.l1 k c out (i:Int) (behind w0 (nums.take j)) nums (j:Int)) r
  |0,j,hj=>by
    refine Evt.step ?_
    simp only [Yi.l1]
    have e:nums.take j=nums:=List.take_of_length_le (by omega)
    rw [e]
    refine Evt.neg (by omega) (Evt.pos (by omega) (Evt.pos (by rw [size_app];omega) ?_))
    rw [w64n i (by omega)]
    exact h
  |d+1,j,hj=>by
    refine Evt.step ?_
    simp only [Yi.l1]
    have hs1:=behind_size w0 (nums.take j) (fun n hx=>hn n (List.mem_of_mem_take hx))
    have hwz:w0.size≤72:=by
      have:(behind w0 nums).size=w0.size+(Lib.joinTail [32] (nums.map (fun n=>(itoaB n).data.toList))).length:=by rw [size_toList,behind_list,List.length_append,← size_toList]
      omega
    have hjl:(nums.take j).length≤3:=by rw [List.length_take];omega
    refine Evt.pos (by omega) (Evt.pos (by omega) (Evt.pos (by omega) ?_))
    rw [rd_nat]
    have hm:=hn (nums.getD j 0) (getD_mem _ (by omega))
    have hsz:=itoaB_size _ hm.1 hm.2
    have h32:(⟨#[32]⟩:ByteArray).size=1:=rfl
    refine Evt.bind (dec_ev _ hm.1 hm.2) (Evt.pos (by rw [size_app,h32];omega) ?_)
    rw [w64n j (by omega)]
    have e:behind w0 (nums.take j) ++ ⟨#[32]⟩ ++ itoaB (nums.getD j 0)=behind w0 (nums.take (j+1)):=by
      have ht:nums.take (j+1)=nums.take j ++ [nums.getD j 0]:=by
        rw [List.take_add_one,List.getElem?_eq_getElem (by omega),getD_at _ (by omega)]
        rfl
      rw [ht]
      unfold behind
      rw [List.foldl_append]
      rfl
    rw [e]
    exact spec_word_loop c out i hi hi2 ho nums hn hl w0 hw0 h d (j+1) (by omega)
theorem spec_text_loop (c:List Ins) (hc:Lines c) (hm:c.length≤60):∀ (d i:Nat) (out:ByteArray),i+d=c.length→out.size≤73 * i→Evt (fun k=>Yi.l0 k c out (i:Int)) ((c.drop i).foldl (fun a s=>a ++ lineB s ++ nl) out)
  |0,i,out,hi,ho=>by
    refine Evt.step ?_
    simp only [Yi.l0]
    refine Evt.neg (by omega) ?_
    rw [List.drop_eq_nil_of_le (by omega)]
    exact Evt.pure _
  |d+1,i,out,hi,ho=>by
    refine Evt.step ?_
    simp only [Yi.l0,rdA]
    refine Evt.pos (by omega) (Evt.pos (by omega) ?_)
    obtain ⟨h1,h2⟩:=hc _ (at_mem (show i<c.length by omega))
    obtain ⟨m,hw⟩:=word_ev _ h1
    rw [hw]
    simp only [Option.bind_some]
    refine Evt.bind (nums_ev _ _ _ _ h1) ?_
    have hz:=line_size h1 h2
    rw [fold_step c i (by omega)]
    have:=spec_text_loop c hc hm d (i+1) (out ++ lineB (at_ c i) ++ nl) (by omega) (by rw [size_app,size_app];have:nl.size=1:=rfl;omega)
    exact spec_word_loop c out i (by omega) hm ho (numsOf (at_ c i)) (numsOf_small h2) (numsOf_len _) _ hz this (numsOf (at_ c i)).length 0 (by omega)
theorem lines_of {c:List Ins} (hv:Valid c):Lines c:=by
  intro s hs
  obtain ⟨i,hi,rfl⟩:=List.mem_iff_getElem.1 hs
  have e:at_ c i=c[i]:=at_get hi
  have h:=hv.ins i hi
  rw [e] at h
  exact ⟨ok_op h,ok_small (by have:=hv.most;omega) h⟩
theorem codeText_both (c:List Ins) (hl:c.length≤1048576):∃ b t,Evt (fun k=>Yh.f k c) b∧Evt (fun k=>Zf.f k c) t∧Evt (fun k=>Yi.f k c) t∧(b=false→t=⟨#[]⟩)∧(b=true→Lines c∧c.length≤60∧1≤c.length∧t=textB c):=by
  obtain ⟨b,h1,h2,hv,_⟩:=codeOk_both c hl
  unfold Zf.f Yi.f
  cases b with
  |false=>exact ⟨false,⟨#[]⟩,h2,Evt.bind h1 (Evt.neg (by simp) (Evt.pure _)),Evt.bind h2 (Evt.neg (by simp) (Evt.pure _)),(fun _=>rfl),(fun h=>by cases h)⟩
  |true=>
    obtain ⟨hv,_⟩:=hv rfl
    have hL:=lines_of hv
    have hm:=hv.most
    exact ⟨true,textB c,h2,Evt.bind h1 (Evt.pos rfl (text_loop c hL hm c.length 0 ⟨#[]⟩ (by omega) (by exact Nat.le_refl 0))),(Evt.bind h2 (Evt.pos rfl (spec_text_loop c hL hm c.length 0 ⟨#[]⟩ (by omega) (by exact Nat.le_refl 0)))),(fun h=>by cases h),fun _=>⟨hL,hm,hv.pos,rfl⟩⟩
end Go.Proofs.YtdkcjecllbdljaaDoor.Pure
