import Derived.Test.YtokajnfbiddpjaaCFnSlimSome66
set_option maxHeartbeats 4000000
namespace Go.Proofs.Ytokajnfbiddpjaa.Pure
open Go.RowKit Go.Proofs.Ytokajnfbiddpjaa.GSlim Go.Proofs.YtokajnfbiddpjaaW.PrintWords Go.Proofs.YtokajnfbiddpjaaW.PrintLast Go.Proofs.YtokajnfbiddpjaaW.PrintMore Go.Proofs.Ytokajnfbiddpjaa.Evt Go.Proofs.Ytokajnfbiddpjaa.HForms
set_option linter.unusedVariables false
set_option linter.unusedSimpArgs false
theorem rd_ints (l:List Nat) (j:Nat):rd (ints l) (j:Int)=((l.getD j 0:Nat):Int):=by rw [rd_nat,ints_getD]
theorem ints_append (l m:List Nat):ints (l ++ m)=ints l ++ ints m:=by simp [ints]
theorem ints_one (t:Nat):ints [t]=[(t:Int)]:=by simp [ints]
theorem inner {c:List Ins} (hv:Zo c) (i:Nat) (hr:Reach c i) (hi:i<c.length) (kk:Nat) (L:List Nat) (room:Int) (h0:0≤room) (h2:room≤2)
    (outer:∀ rooms todo,Inv c rooms todo→kk<todo.length→todo.take (kk+1)=L→Done c rooms (L.take kk)→0≤rooms.getD i 0→held (at_ c i) (rooms.getD i 0)=(room,true)→(∀ t ∈ succs c i,rooms.getD t 0=room)→Both c (fun k=>Xp.l1 k c rooms (ints todo) ((kk+1:Nat):Int)) (fun k=>Xx.l0 k c (less1 rooms) (ints (todo.drop (kk+1))))) :
    ∀ (d j:Nat),j+d=(succs c i).length→∀ rooms todo,Inv c rooms todo→kk<todo.length→todo.take (kk+1)=L→Done c rooms (L.take kk)→0≤rooms.getD i 0→held (at_ c i) (rooms.getD i 0)=(room,true)→(∀ t ∈ (succs c i).take j,rooms.getD t 0=room)→
    Both c (fun k=>Xp.l2 k c rooms (ints todo) (kk:Int) room (ints (succs c i)) (j:Int)) (fun k=>Xx.l1 k c (less1 rooms) (ints (todo.drop (kk+1))) (room - 1) (ints (succs c i)) ((ints (succs c i)).length:Int) (j:Int))
  |0,j,hj,rooms,todo,hI,hk,htk,hdn,hik,hhd,hd=>by
    have hm:=hv.most
    have hle:=hI.le
    obtain ⟨rs,b,h1,h3,h4⟩:=outer rooms todo hI hk htk hdn hik hhd (by rw [List.take_of_length_le (by omega)] at hd;exact hd)
    refine ⟨rs,b,?_,?_,h4⟩
    · refine Evt.step ?_
      simp only [Xp.l2]
      refine Evt.neg (by rw [Ut];omega) ?_
      rw [w64s (by omega) (by omega)]
      exact h1
    · refine Evt.step ?_
      simp only [Xx.l1]
      exact Evt.neg (by rw [Ut];omega) h3
  |d+1,j,hj,rooms,todo,hI,hk,htk,hdn,hik,hhd,hd=>by
    have hm:=hv.most
    have hle:=hI.le
    have hjl:j<(succs c i).length:=by omega
    have htm:(succs c i).getD j 0 ∈ succs c i:=getD_mem 0 hjl
    obtain ⟨t,ht⟩:∃ t,(succs c i).getD j 0=t:=⟨_,rfl⟩
    rw [ht] at htm
    have htl:t<c.length:=hv.succs_lt hi t htm
    have htr:t<rooms.length:=by rw [hI.len];exact htl
    have hsucc:(succs c i).length≤2:=by
      unfold succs;split
      · simp
      · split
        · simp
        · split <;> simp
    have hrt:Reach c t:=Reach.go hr hi htm
    have hlow:=hI.low t htl
    have htake:(succs c i).take (j+1)=(succs c i).take j ++ [t]:=by
      rw [List.take_succ_eq_append_getElem hjl,← getD_at 0 hjl,ht]
    have ih:=inner hv i hr hi kk L room h0 h2 outer d (j+1) (by omega)
    have hρt:∀ ρ,Rooms c ρ→room=ρ t:=fun ρ hρ=>by
      have e:=hρ.go i t hr htm
      rw [← hI.ext ρ hρ i hi hik,hhd] at e
      exact e.symm
    by_cases hun:rooms.getD t 0<0
    ·
      have hI':=hI.push hv hrt htl hun h0 h2 hρt (i:=i)
      obtain ⟨rs,b,h1,h3,h4⟩:=ih (rooms.set t room) (todo ++ [t]) hI' (by simp;omega) (by rw [List.take_append_of_le_length (by omega)];exact htk) (hdn.push hun) (by rw [getD_set_known hun hik];exact hik) (by rw [getD_set_known hun hik];exact hhd) (by
        rw [htake]
        intro u hu
        rw [getD_set];split
        · rfl
        · rcases List.mem_append.1 hu with hu|hu
          · exact hd u hu
          · obtain rfl:u=t:=by simpa using hu
            rename_i hh;exact absurd ⟨rfl,htr⟩ hh)
      refine ⟨rs,b,?_,?_,h4⟩
      · refine Evt.step ?_
        simp only [Xp.l2,rd_ints,ht]
        simp only [rd_nat]
        refine Evt.pos (by rw [Ut];omega) (Evt.pos (by omega) (Evt.pos (by omega) (Evt.pos (by omega) (Evt.pos hun ?_))))
        simp only [Option.bind_some,set_nat]
        refine Evt.pos (by rw [Ut];omega) (Evt.pos ?_ ?_)
        · rw [getD_set,if_pos ⟨rfl,htr⟩]
        · rw [w64n j (by omega)]
          rw [ints_append,ints_one] at h1
          exact h1
      · refine Evt.step ?_
        simp only [Xx.l1,rd_ints,ht]
        simp only [rd_nat]
        refine Evt.pos (by rw [Ut];omega) (Evt.pos (by omega) (Evt.pos (by rw [Ut];omega) (Evt.pos (by omega) (Evt.pos (by rw [length_less1];omega) (Evt.pos ?_ (Evt.pos ?_ ?_))))))
        · rw [less1_getD htr];omega
        · rw [Ut,List.length_drop];omega
        · rw [w64n j (by omega),set_nat,less1_set]
          rw [List.drop_append_of_le_length (by omega),ints_append,ints_one] at h3
          exact h3
    · by_cases heq:rooms.getD t 0=room
      · obtain ⟨rs,b,h1,h3,h4⟩:=ih rooms todo hI hk htk hdn hik hhd (by
          rw [htake]
          intro u hu
          rcases List.mem_append.1 hu with hu|hu
          · exact hd u hu
          · obtain rfl:u=t:=by simpa using hu
            omega)
        refine ⟨rs,b,?_,?_,h4⟩
        · refine Evt.step ?_
          simp only [Xp.l2,rd_ints,ht]
          simp only [rd_nat]
          refine Evt.pos (by rw [Ut];omega) (Evt.pos (by omega) (Evt.pos (by omega) (Evt.pos (by omega) (Evt.neg hun (Evt.pos heq ?_)))))
          rw [w64n j (by omega)]
          exact h1
        · refine Evt.step ?_
          simp only [Xx.l1,rd_ints,ht]
          simp only [rd_nat]
          refine Evt.pos (by rw [Ut];omega) (Evt.pos (by omega) (Evt.pos (by rw [Ut];omega) (Evt.pos (by omega) (Evt.pos (by rw [length_less1];omega) (Evt.neg ?_ (Evt.pos ?_ ?_))))))
          · rw [less1_getD htr];omega
          · rw [less1_getD htr];omega
          · rw [w64n j (by omega)]
            exact h3
      · refine ⟨rooms,false,?_,?_,(fun h=>by cases h),fun ⟨ρ,hρ⟩=>absurd ((hI.ext ρ hρ t htl (by omega)).trans (hρt ρ hρ).symm) heq⟩
        · refine Evt.step ?_
          simp only [Xp.l2,rd_ints,ht]
          simp only [rd_nat]
          exact Evt.pos (by rw [Ut];omega) (Evt.pos (by omega) (Evt.pos (by omega) (Evt.pos (by omega) (Evt.neg hun (Evt.neg heq (Evt.pure _))))))
        · refine Evt.step ?_
          simp only [Xx.l1,rd_ints,ht]
          simp only [rd_nat]
          refine Evt.pos (by rw [Ut];omega) (Evt.pos (by omega) (Evt.pos (by rw [Ut];omega) (Evt.pos (by omega) (Evt.pos (by rw [length_less1];omega) (Evt.neg ?_ (Evt.neg ?_ (Evt.pure _)))))))
          · rw [less1_getD htr];omega
          · rw [less1_getD htr];omega
theorem held_moves {op a b n:Int} {m:Int} (h:Vv op a b n m=true) {room:Int} (h0:0≤room) (h2:room≤2) :
    ∃ ok room' aC,held ⟨op,a,b,n⟩ room=(room',ok)∧spec_l4Held.f op a b n room=some (room',ok)∧impl_Ins_moves.f op a b n (room - 1)=some (aC,ok)∧(ok=true→aC=room' - 1∧0≤room'∧room'≤2):=by
  unfold spec_l4Held.f impl_Ins_moves.f held
  simp only []
  by_cases h8:op=8
  · obtain ⟨a0,a2⟩:=room_ok h (Or.inl h8)
    have e:wrap64 (a+1)=a+1:=w64 (by omega) (by omega)
    rw [if_pos h8,if_pos h8,if_pos h8,e]
    have e2:(room - 1 == (-1:Int))=(room == 0):=by rw [Bool.eq_iff_iff];simp;omega
    rw [e2]
    exact ⟨_,_,_,rfl,rfl,rfl,fun _=>by omega⟩
  rw [if_neg h8,if_neg h8,if_neg h8]
  by_cases h9:op=9
  · obtain ⟨a0,a2⟩:=room_ok h (Or.inr h9)
    have e:wrap64 (a+1)=a+1:=w64 (by omega) (by omega)
    rw [if_pos h9,if_pos h9,if_pos h9,e]
    have e2:(room - 1 == a)=(room == a+1):=by rw [Bool.eq_iff_iff];simp;omega
    rw [e2]
    exact ⟨_,_,_,rfl,rfl,rfl,fun _=>by omega⟩
  rw [if_neg h9,if_neg h9,if_neg h9]
  by_cases h10:op=10
  · rw [if_pos h10,if_pos h10,if_pos h10]
    have e2:(room - 1 != (-1:Int))=decide (room > 0):=by rw [Bool.eq_iff_iff];simp;omega
    rw [e2]
    exact ⟨_,_,_,rfl,rfl,rfl,fun _=>by omega⟩
  rw [if_neg h10,if_neg h10,if_neg h10]
  by_cases aD:op=13
  · rw [if_pos aD,if_pos aD,if_pos aD]
    have e2:(room - 1 == (-1:Int))=(room == 0):=by rw [Bool.eq_iff_iff];simp;omega
    rw [e2]
    refine ⟨_,_,_,rfl,rfl,rfl,fun h=>?_⟩
    have:room=0:=by simpa using h
    omega
  rw [if_neg aD,if_neg aD,if_neg aD]
  exact ⟨_,_,_,rfl,rfl,rfl,fun _=>⟨rfl,h0,h2⟩⟩
theorem outer {c:List Ins} (hv:Zo c):∀ (d kk:Nat) (rooms:List Int) (todo:List Nat),kk+d=c.length+1→Inv c rooms todo→kk≤todo.length→Done c rooms (todo.take kk)→
    Both c (fun k=>Xp.l1 k c rooms (ints todo) (kk:Int)) (fun k=>Xx.l0 k c (less1 rooms) (ints (todo.drop kk)))
  |0,kk,rooms,todo,h,hI,hk,hd=>by have:=hI.le;omega
  |d+1,kk,rooms,todo,h,hI,hk,hd=>by
    have hm:=hv.most
    have hle:=hI.le
    by_cases hlt:kk<todo.length
    · have himem:todo.getD kk 0 ∈ todo:=getD_mem 0 hlt
      obtain ⟨i,hi⟩:∃ i,todo.getD kk 0=i:=⟨_,rfl⟩
      rw [hi] at himem
      obtain ⟨hil,hroom,hreach⟩:=hI.sound i himem
      have hdrop:todo.drop kk=i :: todo.drop (kk+1):=by rw [List.drop_eq_getElem_cons hlt,← getD_at 0 hlt,hi]
      have htake:todo.take (kk+1)=todo.take kk ++ [i]:=by rw [List.take_succ_eq_append_getElem hlt,← getD_at 0 hlt,hi]
      have hlow:=hI.low i hil
      obtain ⟨ok,room',aC,e0,e1,e2,e3⟩:=held_moves (hv.ins i hil) hroom hlow.2
      have hir:i<rooms.length:=by rw [hI.len];exact hil
      have hrd:rd (ints (todo.drop kk)) 0=(i:Int):=by rw [hdrop];unfold ints;rfl
      have hsl:((ints (todo.drop kk)).length:Int)=(todo.length:Int) - kk:=by rw [Ut,List.length_drop];omega
      have aH:rd (less1 rooms) (i:Int)=rooms.getD i 0 - 1:=by rw [rd_nat];exact less1_getD hir
      cases ok with
      |false=>
        refine ⟨rooms,false,?_,?_,(fun h=>by cases h),fun ⟨ρ,hρ⟩=>?_⟩
        rotate_left 2
        · have e:=hρ.ok i hreach
          rw [← hI.ext ρ hρ i hil hroom,show at_ c i=⟨(at_ c i).f0,(at_ c i).f1,(at_ c i).f2,(at_ c i).f3⟩ from rfl,e0] at e
          cases e
        · refine Evt.step ?_
          simp only [Xp.l1,rd_ints,hi]
          simp only [rd_nat,rdA,e1,Option.bind_some]
          exact Evt.pos (by rw [Ut];omega) (Evt.pos (by omega) (Evt.pos (by omega) (Evt.pos (by omega) (Evt.pos (by omega) (Evt.neg (by simp) (Evt.pure _))))))
        · refine Evt.step ?_
          simp only [Xx.l0,hrd,rdA,aH,e2,Option.bind_some]
          exact Evt.pos (by omega) (Evt.pos (by omega) (Evt.pos (by omega) (Evt.pos (by omega) (Evt.pos (by omega) (Evt.pos (by rw [length_less1];omega) (Evt.neg (by simp) (Evt.pure _)))))))
      |true=>
        obtain ⟨rfl,r0,r2⟩:=e3 rfl
        have hout:∀ aA aB,Inv c aA aB→kk<aB.length→aB.take (kk+1)=todo.take (kk+1)→Done c aA ((todo.take (kk+1)).take kk)→0≤aA.getD i 0→held (at_ c i) (aA.getD i 0)=(room',true)→(∀ t ∈ succs c i,aA.getD t 0=room')→Both c (fun k=>Xp.l1 k c aA (ints aB) ((kk+1:Nat):Int)) (fun k=>Xx.l0 k c (less1 aA) (ints (aB.drop (kk+1)))):=by
          intro aA aB hI2 hk2 aJ aF aI aG hs2
          refine outer hv d (kk+1) aA aB (by omega) hI2 (by omega) ?_
          rw [aJ,htake]
          rw [htake] at aF
          intro u hu
          rcases List.mem_append.1 hu with hu|hu
          · refine aF u ?_
            rw [List.take_append_of_le_length (by rw [List.length_take];omega),List.take_take,Nat.min_self]
            exact hu
          · obtain rfl:u=i:=by simpa using hu
            refine ⟨aI,by rw [aG],fun t ht=>?_⟩
            rw [aG]
            have:=hs2 t ht
            exact ⟨by omega,this⟩
        obtain ⟨rs,b,h1,h3,h4⟩:=inner hv i hreach hil kk (todo.take (kk+1)) room' r0 r2 hout (succs c i).length 0 (by omega) rooms todo hI hlt rfl (by rw [List.take_take,Nat.min_eq_left (by omega)];exact hd) hroom e0 (by simp)
        · refine ⟨rs,b,?_,?_,h4⟩
          · refine Evt.step ?_
            simp only [Xp.l1,rd_ints,hi]
            simp only [rd_nat,rdA,e1,Option.bind_some,hv.next hil,if_true]
            exact Evt.pos (by rw [Ut];omega) (Evt.pos (by omega) (Evt.pos (by omega) (Evt.pos (by omega) (Evt.pos (by omega) h1))))
          · refine Evt.step ?_
            simp only [Xx.l0,hrd,rdA,aH,e2,Option.bind_some,hv.successors hil,if_true]
            refine Evt.pos (by omega) (Evt.pos (by omega) (Evt.pos (by omega) (Evt.pos (by omega) (Evt.pos (by omega) (Evt.pos (by rw [length_less1];omega) ?_)))))
            have hd1:(ints (todo.drop kk)).drop (1:Int).toNat=ints (todo.drop (kk+1)):=by rw [hdrop];unfold ints;rfl
            rw [hd1]
            exact h3
    · obtain rfl:kk=todo.length:=by omega
      rw [List.take_length] at hd
      have hkn:∀ i,Reach c i→i<c.length∧0≤rooms.getD i 0:=fun i h=>by
        induction h with
        |first=>exact ⟨hv.pos,by rw [hI.zero];omega⟩
        |go hr hi ht ih=>exact ⟨hv.succs_lt hi _ ht,((hd _ (hI.known _ hi ih.2)).2.2 _ ht).1⟩
      refine ⟨rooms,true,?_,?_,fun _=>⟨hI.len,fun i hi=>⟨fun h=>(hI.sound i (hI.known i hi h)).2.2,fun h=>(hkn i h).2⟩,fun i hi=>(hI.low i hi).2,hI.zero,fun i h=>?_,fun i t h ht=>?_⟩,fun _=>rfl⟩
      · refine Evt.step ?_
        simp only [Xp.l1]
        exact Evt.neg (by rw [Ut];omega) (Evt.pure _)
      · refine Evt.step ?_
        simp only [Xx.l0]
        exact Evt.neg (by simp [ints]) (Evt.pure _)
      · obtain ⟨h1,h2⟩:=hkn i h
        exact (hd _ (hI.known _ h1 h2)).2.1
      · obtain ⟨h1,h2⟩:=hkn i h
        exact ((hd _ (hI.known _ h1 h2)).2.2 t ht).2
theorem rooms_start (c:List Ins) (hm:c.length≤60) {r:List Int × Bool} (h:Evt (fun k=>Xp.l0 k c (List.replicate c.length (-1)) (c.length:Int)) r):∀ (d i:Nat),i+d=c.length→Evt (fun k=>Xp.l0 k c (List.replicate i (-1)) (i:Int)) r
  |0,i,hi=>by
    obtain rfl:i=c.length:=by omega
    exact h
  |d+1,i,hi=>by
    refine Evt.step ?_
    simp only [Xp.l0]
    refine Evt.pos (by omega) (Evt.pos (by rw [List.length_replicate];omega) ?_)
    rw [w64n i (by omega),← List.replicate_succ']
    exact rooms_start c hm h d (i+1) (by omega)
theorem inv_start {c:List Ins} (hv:Zo c):Inv c ((List.replicate c.length (-1)).set 0 0) [0]:=by
  have hp:=hv.pos
  have hg:∀ i,i<c.length→((List.replicate c.length (-1:Int)).set 0 0).getD i 0=if 0=i then 0 else -1:=fun i hi=>by
    rw [getD_set]
    simp only [List.length_replicate]
    by_cases h:0=i
    · rw [if_pos ⟨h,hp⟩,if_pos h]
    · rw [if_neg (fun hh=>h hh.1),if_neg h,List.getD_eq_getElem?_getD,List.getElem?_replicate,if_pos hi];rfl
  refine ⟨by simp,fun i hi=>?_,fun t ht=>?_,fun i hi h=>?_,?_,?_,fun ρ hρ i hi h=>?_⟩
  · rw [hg i hi];split <;> omega
  · obtain rfl:t=0:=by simpa using ht
    refine ⟨hp,?_,Reach.first⟩
    rw [hg 0 hp];simp
  · rw [hg i hi] at h
    split at h
    · rename_i hh;simp [hh]
    · omega
  · have hu:unknown ((List.replicate c.length (-1:Int)).set 0 0)+1=unknown (List.replicate c.length (-1:Int)):=unknown_set (by rw [List.length_replicate];omega) (by rw [List.getD_eq_getElem?_getD,List.getElem?_replicate,if_pos (by omega)];simp) (by omega)
    have h2:unknown (List.replicate c.length (-1:Int))=c.length:=by unfold unknown;rw [List.countP_replicate];simp
    simp;omega
  · rw [hg 0 hp];simp
  · rw [hg i hi] at h ⊢
    split at h
    · rename_i hh
      subst hh
      exact hρ.zero.symm
    · omega
theorem rooms_both {c:List Ins} (hv:Zo c):∃ rs b,Evt (fun k=>Xp.f k c) (rs,b)∧Evt (fun k=>Xx.f k c) b∧((b=true→Good c rs)∧((∃ ρ,Rooms c ρ)→b=true)):=by
  have hp:=hv.pos
  have hm:=hv.most
  obtain ⟨rs,b,h1,h3,h4⟩:=outer hv (c.length+1) 0 _ [0] (by omega) (inv_start hv) (by simp) (fun i hi=>by simp at hi)
  refine ⟨rs,b,?_,?_,h4⟩
  · unfold Xp.f
    have h5:=rooms_start c hm (r:=(rs,b)) ?_ c.length 0 (by omega)
    · exact h5
    · refine Evt.step ?_
      simp only [Xp.l0]
      refine Evt.neg (by omega) (Evt.pos (by rw [List.length_replicate];omega) ?_)
      have e:ints [0]=[0]:=ints_one 0
      rw [e] at h1
      exact h1
  · unfold Xx.f Xm.f
    refine Evt.congr (g:=fun k=>Xx.l0 k c ((List.replicate c.length (-2:Int)).set 0 (-1)) [0]) ?_ (fun k=>?_)
    · have e:ints ([0].drop 0)=[0]:=ints_one 0
      rw [e] at h3
      have e2:less1 ((List.replicate c.length (-1:Int)).set 0 0)=(List.replicate c.length (-2:Int)).set 0 (-1):=by
        rw [← less1_set];unfold less1;simp
      rw [e2] at h3
      exact h3
    · rw [if_pos (show ([-2]:List Int).length=1∧(0:Int)≤(c.length:Int)∧(c.length:Int)≤1048576 from ⟨rfl,by omega,by omega⟩)]
      simp only [Option.bind_some]
      rw [if_pos (by simp;omega)]
      simp
def okFrom (c:List Ins) (i:Nat):Prop:=∀ j,i≤j→j<c.length→Vv (at_ c j).f0 (at_ c j).f1 (at_ c j).f2 (at_ c j).f3 c.length=true∧((at_ c j).f0=13↔j+1=c.length)
theorem okFrom_succ {c:List Ins} {i:Nat} (hi:i<c.length):okFrom c i↔(Vv (at_ c i).f0 (at_ c i).f1 (at_ c i).f2 (at_ c i).f3 c.length=true∧((at_ c i).f0=13↔i+1=c.length))∧okFrom c (i+1):=by
  constructor
  · intro h
    exact ⟨h i (Nat.le_refl _) hi,fun j hj hl=>h j (by omega) hl⟩
  · rintro ⟨h1,h2⟩ j hj hl
    rcases Nat.eq_or_lt_of_le hj with rfl|hlt
    · exact h1
    · exact h2 j hlt hl
open Classical in
theorem impl_ins (c:List Ins) (hm:c.length≤60) (hp:1≤c.length) {b:Bool} (hb:okFrom c 0→Evt (fun k=>Xx.f k c) b):∀ (d i:Nat),i+d=c.length→(∀ j,j<i→Vv (at_ c j).f0 (at_ c j).f1 (at_ c j).f2 (at_ c j).f3 c.length=true∧((at_ c j).f0=13↔j+1=c.length))→
    Evt (fun k=>Yw.l0 k c c (c.length:Int) (i:Int)) (if okFrom c i then b else false)
  |0,i,hi,hj=>by
    refine Evt.step ?_
    simp only [Yw.l0]
    rw [if_pos (show okFrom c i from fun j h1 h2=>by omega)]
    refine Evt.neg (by omega) (Evt.bind (hb (fun j _ hl=>hj j (by omega))) (Evt.pure _))
  |d+1,i,hi,hj=>by
    refine Evt.step ?_
    simp only [Yw.l0,rdA]
    refine Evt.pos (by omega) (Evt.pos (by omega) (Evt.pos (by omega) ?_))
    simp only [impl_insOk.f,Option.bind_some]
    have hil:i<c.length:=by omega
    by_cases h1:Vv (at_ c i).f0 (at_ c i).f1 (at_ c i).f2 (at_ c i).f3 c.length=true
    · refine Evt.pos h1 ?_
      have hw:wrap64 ((c.length:Int) - 1)=(c.length:Int) - 1:=w64 (by omega) (by omega)
      rw [hw,w64n i (by omega)]
      by_cases h2:(at_ c i).f0=13↔i+1=c.length
      · refine Evt.neg ?_ ?_
        · have e:((at_ c i).f0 == 13)=((i:Int) == (c.length:Int) - 1):=by
            rw [Bool.eq_iff_iff];simp only [beq_iff_eq];rw [h2];omega
          rw [e];simp
        · have ih:=impl_ins c hm hp hb d (i+1) (by omega) (fun j hjl=>by
            rcases Nat.lt_or_ge j i with h|h
            · exact hj j h
            · obtain rfl:j=i:=by omega
              exact ⟨h1,h2⟩)
          have:okFrom c i↔okFrom c (i+1):=by rw [okFrom_succ hil];exact ⟨fun h=>h.2,fun h=>⟨⟨h1,h2⟩,h⟩⟩
          simp only [this]
          exact ih
      · rw [if_neg (fun h=>h2 ((okFrom_succ hil).1 h).1.2)]
        refine Evt.pos ?_ (Evt.pure _)
        cases e1:((at_ c i).f0 == 13) <;> cases e2:((i:Int) == (c.length:Int) - 1) <;> simp at e1 e2 ⊢ <;> exact absurd (by constructor <;> intro h <;> omega) h2
    · rw [if_neg (fun h=>h1 ((okFrom_succ hil).1 h).1.1)]
      exact Evt.neg h1 (Evt.pure _)
open Classical in
theorem spec_ins (c:List Ins) (hm:c.length≤60) (hp:1≤c.length) (hlast:(at_ c (c.length - 1)).f0=13) {rs:List Int} {b:Bool} (hb:okFrom c 0→Evt (fun k=>Xp.f k c) (rs,b)):∀ (d i:Nat),i+d=c.length→(∀ j,j<i→Vv (at_ c j).f0 (at_ c j).f1 (at_ c j).f2 (at_ c j).f3 c.length=true∧((at_ c j).f0=13↔j+1=c.length))→
    Evt (fun k=>Yb.l0 k c (c.length:Int) (i:Int)) (if okFrom c i then b else false)
  |0,i,hi,hj=>by
    refine Evt.step ?_
    simp only [Yb.l0]
    rw [if_pos (show okFrom c i from fun j h1 h2=>by omega)]
    refine Evt.neg (by omega) (Evt.bind (hb (fun j _ hl=>hj j (by omega))) (Evt.pure _))
  |d+1,i,hi,hj=>by
    refine Evt.step ?_
    simp only [Yb.l0,rdA]
    refine Evt.pos (by omega) (Evt.pos (by omega) (Evt.pos (by omega) ?_))
    refine Evt.bind (l4Ins_ev _ _ _ _ _) ?_
    have hil:i<c.length:=by omega
    have hl:i+1=c.length→(at_ c i).f0=13:=fun h=>by rw [show i=c.length - 1 by omega];exact hlast
    by_cases h1:Vv (at_ c i).f0 (at_ c i).f1 (at_ c i).f2 (at_ c i).f3 c.length=true
    · refine Evt.pos h1 ?_
      have hw:wrap64 ((c.length:Int) - 1)=(c.length:Int) - 1:=w64 (by omega) (by omega)
      rw [hw,w64n i (by omega)]
      clear hw
      have ih:=fun (h2:(at_ c i).f0=13↔i+1=c.length)=>spec_ins c hm hp hlast hb d (i+1) (by omega) (fun j hjl=>by
            rcases Nat.lt_or_ge j i with h|h
            · exact hj j h
            · obtain rfl:j=i:=by omega
              exact ⟨h1,h2⟩)
      by_cases h2:(at_ c i).f0=13↔i+1=c.length
      · have:okFrom c i↔okFrom c (i+1):=by rw [okFrom_succ hil];exact ⟨fun h=>h.2,fun h=>⟨⟨h1,h2⟩,h⟩⟩
        simp only [this]
        by_cases h3:(at_ c i).f0=13
        · exact Evt.pos h3 (Evt.neg (by have:=h2.1 h3;omega) (ih h2))
        · exact Evt.neg h3 (ih h2)
      · rw [if_neg (fun h=>h2 ((okFrom_succ hil).1 h).1.2)]
        have h3:(at_ c i).f0=13:=Classical.byContradiction fun h3=>h2 ⟨fun h=>absurd h h3,hl⟩
        refine Evt.pos h3 (Evt.pos ?_ (Evt.pure _))
        have:¬ (i+1=c.length):=fun h=>h2 ⟨fun _=>h,fun _=>h3⟩
        omega
    · rw [if_neg (fun h=>h1 ((okFrom_succ hil).1 h).1.1)]
      exact Evt.neg h1 (Evt.pure _)
theorem valid_of {c:List Ins} (hm:c.length≤60) (hp:1≤c.length) (h:okFrom c 0):Zo c:=⟨hp,hm,fun i hi=>(h i (by omega) hi).1,fun i hi=>(h i (by omega) hi).2⟩
open Classical in
theorem codeOk_both (c:List Ins) (hl:c.length≤1048576):∃ b,Evt (fun k=>Yw.f k c) b∧Evt (fun k=>Yb.f k c) b∧(b=true→Zo c∧∃ rs,Evt (fun k=>Xp.f k c) (rs,true)∧Good c rs)∧(∀ ρ,Zo c→Rooms c ρ→b=true):=by
  by_cases h1:c.length<1
  · refine ⟨false,?_,?_,(fun h=>by cases h),fun ρ hv _=>absurd hv.pos (by omega)⟩
    · unfold Yw.f
      refine Evt.pos (by omega) (Evt.step ?_)
      simp only [Yw.j0]
      exact Evt.pos trivial (Evt.pure _)
    · unfold Yb.f
      refine Evt.pos (by omega) (Evt.step ?_)
      simp only [Yb.j0]
      exact Evt.pos trivial (Evt.pure _)
  by_cases h60:60<c.length
  · refine ⟨false,?_,?_,(fun h=>by cases h),fun ρ hv _=>absurd hv.most (by omega)⟩
    · unfold Yw.f
      refine Evt.neg (by omega) (Evt.step ?_)
      simp only [Yw.j0]
      exact Evt.pos (decide_eq_true (by omega)) (Evt.pure _)
    · unfold Yb.f
      refine Evt.neg (by omega) (Evt.pos (by omega) (Evt.step ?_))
      simp only [Yb.j0]
      exact Evt.pos trivial (Evt.pure _)
  have hm:c.length≤60:=by omega
  have hp:1≤c.length:=by omega
  obtain ⟨rs,b,e1,e2,e3⟩:∃ rs b,(okFrom c 0→Evt (fun k=>Xp.f k c) (rs,b))∧(okFrom c 0→Evt (fun k=>Xx.f k c) b)∧(okFrom c 0→((b=true→Good c rs)∧((∃ ρ,Rooms c ρ)→b=true))):=by
    by_cases h:okFrom c 0
    · obtain ⟨rs,b,e1,e2,e3⟩:=rooms_both (valid_of hm hp h)
      exact ⟨rs,b,fun _=>e1,fun _=>e2,fun _=>e3⟩
    · exact ⟨[],false,fun h'=>absurd h' h,fun h'=>absurd h' h,fun h'=>absurd h' h⟩
  refine ⟨if okFrom c 0 then b else false,?_,?_,fun h=>?_,fun ρ hv hρ=>?_⟩
  · unfold Yw.f
    refine Evt.neg (by omega) (Evt.step ?_)
    simp only [Yw.j0]
    refine Evt.neg (by simp;omega) ?_
    have:=impl_ins c hm hp e2 c.length 0 (by omega) (fun j hj=>by omega)
    exact this
  · unfold Yb.f
    have hw:wrap64 ((c.length:Int) - 1)=((c.length - 1:Nat):Int):=by rw [w64 (by omega) (by omega)];omega
    rw [hw,rdA]
    clear hw
    refine Evt.neg (by omega) (Evt.neg (by omega) (Evt.pos (by omega) (Evt.pos (by omega) (Evt.step ?_))))
    simp only [Yb.j0]
    by_cases hlast:(at_ c (c.length - 1)).f0=13
    · refine Evt.neg (by simp [hlast]) ?_
      have:=spec_ins c hm hp hlast e1 c.length 0 (by omega) (fun j hj=>by omega)
      exact this
    · rw [if_neg (fun h=>hlast ((h (c.length - 1) (by omega) (by omega)).2.2 (by omega)))]
      exact Evt.pos (by simp [hlast]) (Evt.pure _)
  · split at h
    · rename_i hok
      subst h
      exact ⟨valid_of hm hp hok,rs,e1 hok,(e3 hok).1 rfl⟩
    · cases h
  · have hok:okFrom c 0:=fun j _ hj=>⟨hv.ins j hj,hv.last j hj⟩
    rw [if_pos hok]
    exact (e3 hok).2 ⟨ρ,hρ⟩
end Go.Proofs.Ytokajnfbiddpjaa.Pure
