import Derived.Test.YtdkcjecllbdljaaDoorCFnCodeLines55
import Derived.Test.YtdkcjecllbdljaaDoorCFnCodeLines59
import Derived.Test.YtdkcjecllbdljaaDoorCFnCodeLines50
namespace Go.Proofs.YtdkcjecllbdljaaDoor.Pure
open Go.RowKit Go.Proofs.YtdkcjecllbdljaaDoor.GCode Go.Proofs.YtdkcjecllbdljaaDoorW.PrintWords Go.Proofs.YtdkcjecllbdljaaDoorW.PrintLast Go.Proofs.YtdkcjecllbdljaaDoorW.PrintMore Go.Proofs.YtdkcjecllbdljaaDoor.Evt Go.Proofs.YtdkcjecllbdljaaDoor.HForms Go.Proofs.YtdkcjecllbdljaaDoor.Shelf2
set_option linter.unusedVariables false
set_option linter.unusedSimpArgs false
def ends (l:List UInt8):Nat:=l.countP (fun b=>b == 10)
theorem ends_append (a b:List UInt8):ends (a ++ b)=ends a+ends b:=List.countP_append
theorem digit_ends (d:Nat) (h:d<10):ends [UInt8.ofNat (48+d)]=0:=by
  have:∀ d:Fin 10,ends [UInt8.ofNat (48+d.1)]=0:=by decide
  exact this ⟨d,h⟩
theorem dec_ends:∀ n:Nat,ends (Lib.decDigits n)=0:=by
  intro n
  induction n using Nat.strongRecOn with
  |_ n ih=>
    rw [Lib.decDigits]
    split
    · exact digit_ends n (by assumption)
    · rw [ends_append,ih (n / 10) (by omega),digit_ends (n % 10) (by omega)]
theorem itoa_ends (n:Int):ends (itoaB n).data.toList=0:=by
  unfold itoaB Lib.itoa
  split
  · show ends ([45] ++ Lib.decDigits n.natAbs)=0
    rw [ends_append,dec_ends]
    rfl
  · exact dec_ends _
theorem behind_ends (w:ByteArray) (l:List Int):ends (behind w l).data.toList=ends w.data.toList:=by
  unfold behind
  induction l generalizing w with
  |nil=>rfl
  |cons n r ih=>
    rw [List.foldl_cons,ih,toList_append,toList_append,ends_append,ends_append,itoa_ends]
    rfl
theorem word_ends (op:Int) (h:1≤op∧op≤13):ends (Xz op).2.word.data.toList=0:=by
  have:op=1∨op=2∨op=3∨op=4∨op=5∨op=6∨op=7∨op=8∨op=9∨op=10∨op=11∨op=12∨op=13:=by omega
  rcases this with rfl|rfl|rfl|rfl|rfl|rfl|rfl|rfl|rfl|rfl|rfl|rfl|rfl <;> decide
theorem line_ends {s:Ins} (h:1≤s.f0∧s.f0≤13):ends (lineB s).data.toList=0:=by
  unfold lineB
  rw [behind_ends,word_ends _ h]
theorem fold_ends (c:List Ins) (hc:Lines c) (out:ByteArray):ends (c.foldl (fun a s=>a ++ lineB s ++ nl) out).data.toList=ends out.data.toList+c.length:=by
  induction c generalizing out with
  |nil=>rfl
  |cons s r ih=>
    rw [List.foldl_cons,ih (fun x hx=>hc x (List.mem_cons_of_mem _ hx)),toList_append,toList_append,ends_append,ends_append,line_ends (hc s (List.mem_cons_self ..)).1,List.length_cons]
    have:ends nl.data.toList=1:=rfl
    omega
theorem fold_size (c:List Ins) (hc:Lines c) (out:ByteArray):(c.foldl (fun a s=>a ++ lineB s ++ nl) out).size≤out.size+73 * c.length:=by
  induction c generalizing out with
  |nil=>simp
  |cons s r ih=>
    rw [List.foldl_cons]
    have:=ih (fun x hx=>hc x (List.mem_cons_of_mem _ hx)) (out ++ lineB s ++ nl)
    obtain ⟨h1,h2⟩:=hc s (List.mem_cons_self ..)
    have hz:=line_size h1 h2
    have hn:nl.size=1:=rfl
    rw [size_app,size_app] at this
    rw [List.length_cons]
    omega
theorem bt_nat (t:ByteArray) (i:Nat) (h:i<t.data.toList.length):bt t (i:Int)=((t.data.toList[i]).toNat:Int):=by
  unfold bt
  have h':((i:Int)).toNat<t.size:=by rw [size_toList];omega
  rw [dif_pos h']
  rfl
theorem lines_loop (c:List Ins) (t:ByteArray) (ht:t.size≤1000000) {r:Bool} (hr:∀ m:Nat,m=ends t.data.toList→Evt (fun k=>if (m:Int)=(c.length:Int) then some true else (Yh.f k c).bind fun t585=>if t585=true then some false else some ((m:Int) == 0)) r) :
    ∀ (d i n:Nat),i+d=t.size→n+ends (t.data.toList.drop i)=ends t.data.toList→n≤i→Evt (fun k=>Yn.l0 k c t (n:Int) (i:Int)) r
  |0,i,n,hi,hn,hni=>by
    refine Evt.step ?_
    simp only [Yn.l0]
    refine Evt.neg (by omega) ?_
    rw [List.drop_eq_nil_of_le (by rw [← size_toList];omega)] at hn
    exact hr n (by simpa [ends] using hn)
  |d+1,i,n,hi,hn,hni=>by
    refine Evt.step ?_
    simp only [Yn.l0]
    have hl:i<t.data.toList.length:=by rw [← size_toList];omega
    rw [List.drop_eq_getElem_cons hl] at hn
    refine Evt.pos (by omega) (Evt.pos (by omega) ?_)
    rw [bt_nat t i hl,w64n i (by omega),w64n n (by omega)]
    have e:=ends_append [t.data.toList[i]] (t.data.toList.drop (i+1))
    rw [List.singleton_append] at e
    rw [e] at hn
    by_cases h:t.data.toList[i]=10
    · have h1:ends [t.data.toList[i]]=1:=by rw [h];rfl
      refine Evt.pos (by rw [h];rfl) (lines_loop c t ht hr d (i+1) (n+1) (by omega) (by omega) (by omega))
    · have h1:ends [t.data.toList[i]]=0:=by
        unfold ends
        rw [List.countP_singleton,if_neg (by simpa using h)]
      refine Evt.neg ?_ (lines_loop c t ht hr d (i+1) n (by omega) (by omega) (by omega))
      intro hh
      have h2:(t.data.toList[i]).toNat=10:=by omega
      exact h (UInt8.toNat_inj.1 h2)
theorem FnCodeLines:Yn.Pure:=by
  intro l0 _ _ hw
  suffices h:Evt (fun k=>Yn.f k l0) true from h.get
  unfold Yn.f
  by_cases hbig:(l0.length:Int) > 1048576
  · exact Evt.pos hbig (Evt.pure _)
  refine Evt.neg hbig ?_
  obtain ⟨c,hc1,hc⟩:=drawText_ok l0 hw
  obtain ⟨b,t,hb,h1,h2,hf,ht⟩:=codeText_both c (by omega)
  refine Evt.bind hc1 (Evt.bind h1 (Evt.bind h2 (Evt.pos rfl ?_)))
  cases b with
  |false=>
    rw [hf rfl]
    refine lines_loop c ⟨#[]⟩ (by exact Nat.zero_le _) (fun m hm=>?_) 0 0 0 rfl rfl (by omega)
    have hm0:m=0:=hm
    subst hm0
    by_cases h0:((0:Nat):Int)=(c.length:Int)
    · exact Evt.pos h0 (Evt.pure _)
    · exact Evt.neg h0 (Evt.bind hb (Evt.neg (by simp) (Evt.pure _)))
  |true=>
    obtain ⟨hL,hm,hp,rfl⟩:=ht rfl
    have hz:=fold_size c hL ⟨#[]⟩
    have he:=fold_ends c hL ⟨#[]⟩
    have h0:(⟨#[]⟩:ByteArray).size=0:=rfl
    have h00:ends (⟨#[]⟩:ByteArray).data.toList=0:=rfl
    refine lines_loop c (textB c) (by unfold textB;omega) (fun m hm=>?_) (textB c).size 0 0 (by omega) (by simp) (by omega)
    refine Evt.pos ?_ (Evt.pure _)
    rw [hm]
    unfold textB
    omega
end Go.Proofs.YtdkcjecllbdljaaDoor.Pure
