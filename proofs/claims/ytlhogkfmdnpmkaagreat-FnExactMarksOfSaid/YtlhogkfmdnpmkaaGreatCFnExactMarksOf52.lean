import Derived.Test.YtlhogkfmdnpmkaaGreatCFnExactMarksOf49
set_option linter.unusedSectionVars false
set_option linter.unusedVariables false
set_option linter.unusedSimpArgs false
set_option maxHeartbeats 4000000
set_option maxRecDepth 100000
namespace Go.Proofs.YtlhogkfmdnpmkaaGreat.Mean
open RowKit GMarks YtlhogkfmdnpmkaaGreatW.PrintWords YtlhogkfmdnpmkaaGreatW.PrintLast YtlhogkfmdnpmkaaGreatW.PrintMore
variable [Prot]
abbrev RV (b:BK):Value:=.agg #[b.p,b.c,b.m,b.s,b.d]
abbrev RB (b:BK):Obj:=.cells #[b.p,b.c,b.m,b.s,b.d] 56
structure Forms (b:BK) (s:WS) (P C M S:Nat) (Ad:Option Addr) (q0 q1 q2 q3 q4:Nat):Prop where
 p:b.p=.slice (some ⟨P,0,none⟩) s.n q0
 c:b.c=.slice (some ⟨C,0,none⟩) 3 q1
 m:b.m=.slice (some ⟨M,0,none⟩) 2 q2
 g:b.s=.slice (some ⟨S,0,none⟩) 2 q3
 d:b.d=.slice Ad s.said.length q4
theorem At.forms {W:World} {base:Nat} {ok:Nat→Prop} {b:BK} {s:WS} (h:At W base ok b s) (hn:0<s.n):∃ P C M S Ad q0 q1 q2 q3 q4,Forms b s P C M S Ad q0 q1 q2 q3 q4:=by
 obtain ⟨P,q0,H0⟩:=h.procs hn;obtain ⟨C,q1,H1⟩:=h.cells;obtain ⟨M,q2,H2⟩:=h.rooms;obtain ⟨S,q3,H3,_⟩:=h.signs;obtain ⟨P4,q4,e4⟩:∃ A c,b.d=.slice A s.said.length c:=Yl (h.rows.at_ 4 _ rfl);exact ⟨P,C,M,S,P4,q0,q1,q2,q3,q4,H0.v_,H1.v_,H2.v_,H3,e4⟩
theorem At.signs_at {W:World} {base:Nat} {ok:Nat→Prop} {b:BK} {s:WS} {S cs:Nat} (h:At W base ok b s) (hv:b.s=.slice (some ⟨S,0,none⟩) 2 cs):S<W.heap.size∧(∀ j,j<2→W.cell? ⟨S,j,none⟩=some (b.q j))∧(∀ k,W.frozen? ⟨S,k,none⟩=false):=by
 obtain ⟨g,cap,e,h1,h2,h3⟩:=h.signs;have e:=e.symm.trans hv;injection e with e1 e2 e3;injection e1 with e1;injection e1 with e1;subst e1;exact ⟨h1,h2,h3⟩
section
variable {b:BK} {s:WS} {P C M S:Nat} {Ad:Option Addr} {q0 q1 q2 q3 q4:Nat}
theorem Forms.rv (h:Forms b s P C M S Ad q0 q1 q2 q3 q4):RV b=.agg #[.slice (some ⟨P,0,none⟩) s.n q0,.slice (some ⟨C,0,none⟩) 3 q1,.slice (some ⟨M,0,none⟩) 2 q2,.slice (some ⟨S,0,none⟩) 2 q3,.slice Ad s.said.length q4]:=by
 unfold RV;rw [h.p,h.c,h.m,h.g,h.d]
theorem Forms.rb (h:Forms b s P C M S Ad q0 q1 q2 q3 q4):RB b=.cells #[.slice (some ⟨P,0,none⟩) s.n q0,.slice (some ⟨C,0,none⟩) 3 q1,.slice (some ⟨M,0,none⟩) 2 q2,.slice (some ⟨S,0,none⟩) 2 q3,.slice Ad s.said.length q4] 56:=by
 unfold RB;rw [h.p,h.c,h.m,h.g,h.d]
theorem Forms.cells {W:World} {g:Nat} (h:Forms b s P C M S Ad q0 q1 q2 q3 q4) (hw:Wb W g b):W.cell? ⟨g,0,none⟩=some (.slice (some ⟨P,0,none⟩) s.n q0)∧W.cell? ⟨g,1,none⟩=some (.slice (some ⟨C,0,none⟩) 3 q1)∧W.cell? ⟨g,2,none⟩=some (.slice (some ⟨M,0,none⟩) 2 q2)∧W.cell? ⟨g,3,none⟩=some (.slice (some ⟨S,0,none⟩) 2 q3)∧W.cell? ⟨g,4,none⟩=some (.slice Ad s.said.length q4):=by
 obtain ⟨c0,c1,c2,c3,c4⟩:=hw.cells;rw [h.p] at c0;rw [h.c] at c1;rw [h.m] at c2;rw [h.g] at c3;rw [h.d] at c4;exact ⟨c0,c1,c2,c3,c4⟩
end
def RL (W:World) (base:Nat) (ok:Nat→Prop) (s':WS) (e:Ending) (W':World):Prop:=∃ b',e=.returned (RV b')∧At W' base ok b' s'∧Only W W' ok
abbrev ZB:Obj:=.cells #[.slice none 0 0,.slice none 0 0,.slice none 0 0,.slice none 0 0,.slice none 0 0] 56
structure RS (W:World) (base:Nat) (ok:Nat→Prop) (b:BK) (s:WS) (g z:Nat) (ex:Nat→Prop) (W1:World):Prop where
 st:St W1 base (fun k=>ok k∧¬ ex k) b s g
 z_:W1.heap[z]?=some ZB
 only:Only W W1 ok
 eg:ex g
 ez:ex z
 ne:g≠z
 gt:∀ k,ex k→W.heap.size≤k∧k<W1.heap.size
 up:∀ k,W.heap.size≤k→ok k
theorem RS.write {W W1 W2:World} {base g z:Nat} {ok ex:Nat→Prop} {b:BK} {s s':WS} (h:RS W base ok b s g z ex W1) {t' q':Nat→Value} (hw:At W2 base (fun k=>ok k∧¬ ex k) { b with t:=t',q:=q' } s'∧Only W1 W2 (fun k=>ok k∧¬ ex k)):RS W base ok { b with t:=t',q:=q' } s' g z ex W2:=
 ⟨h.st.write hw,(hw.2.block z (h.gt z h.ez).2 (fun x=>x.2 h.ez)).trans h.z_,h.only.trans (hw.2.mono (fun k hk=>.inl hk.1)),h.eg,h.ez,h.ne,fun k hk=>⟨(h.gt k hk).1,nl_ (h.gt k hk).2 hw.2.size⟩,h.up⟩
theorem RS.below {W W1 W2:World} {base g z:Nat} {ok ex:Nat→Prop} {b:BK} {s:WS} (h:RS W base ok b s g z ex W1) (hb:Below W1.heap.size W1 W2):RS W base ok b s g z ex W2:=
 ⟨h.st.below hb,(hb.block z (h.gt z h.ez).2).trans h.z_,h.only.trans (Only.of_below hb _),h.eg,h.ez,h.ne,fun k hk=>⟨(h.gt k hk).1,nl_ (h.gt k hk).2 hb.size⟩,h.up⟩
theorem RS.said {W W1 W2:World} {base g z:Nat} {ok ex:Nat→Prop} {b:BK} {s s':WS} {v:Value} (h:RS W base ok b s g z ex W1) (hw:At W2 base (fun k=>ok k∧¬ ex k) { b with d:=v } s'∧Only W1 W2 (fun k=>ok k∧¬ ex k)):RS W base ok { b with d:=v } s' g z ex (W2.setCell ⟨g,4,none⟩ v):=by
 have hg2:W2.heap[g]?=some (.cells #[b.p,b.c,b.m,b.s,b.d] 56 (0,0)):=(hw.2.block g (Xq h.st.wb) h.st.g_).trans h.st.wb;have o2:Only W2 (W2.setCell ⟨g,4,none⟩ v) (fun k=>k=g):=⟨rfl,rfl,rfl,sm_,fun k _ hk=>Below.heap_setCell W2 ⟨g,4,none⟩ _ k hk⟩;have hsz:W1.heap.size≤(W2.setCell ⟨g,4,none⟩ v).heap.size:=nt_ hw.2.size o2.size;refine ⟨⟨hw.1.step (fun k hk _=>Below.heap_setCell W2 ⟨g,4,none⟩ _ k (fun e=>hk.2 ((show k=g from e) ▸ h.eg))),Xn hg2 4 _ rfl,fun k hk=>h.st.up k (nt_ hsz hk),h.st.g_⟩,?_,(h.only.trans (hw.2.mono (fun k hk=>.inl hk.1))).trans (o2.mono (fun k hk=>.inl (h.up k (hk ▸ (h.gt g h.eg).1)))),h.eg,h.ez,h.ne,fun k hk=>⟨(h.gt k hk).1,nl_ (h.gt k hk).2 hsz⟩,h.up⟩;exact (Below.heap_setCell W2 ⟨g,4,none⟩ _ z (fun e=>h.ne e.symm)).trans ((hw.2.block z (h.gt z h.ez).2 (fun x=>x.2 h.ez)).trans h.z_)
theorem RS.start3 {W:World} {base:Nat} {ok:Nat→Prop} {b:BK} {s:WS} (h:At W base ok b s) (hup:∀ k,W.heap.size≤k→ok k) (O:Obj) :
  RS W base ok b s W.heap.size (W.heap.size+1+1) (fun k=>k=W.heap.size∨k=W.heap.size+1∨k=W.heap.size+1+1) (((W.alloc (RB b)).alloc O).alloc ZB)∧(((W.alloc (RB b)).alloc O).alloc ZB).heap[W.heap.size+1]?=some O∧Below W.heap.size W (((W.alloc (RB b)).alloc O).alloc ZB):=by
 have hs1:(W.alloc (RB b)).heap.size=W.heap.size+1:=World.size_alloc _ _
 have hs2:((W.alloc (RB b)).alloc O).heap.size=W.heap.size+1+1:=by rw [World.size_alloc,hs1]
 have hs3:(((W.alloc (RB b)).alloc O).alloc ZB).heap.size=W.heap.size+1+1+1:=by rw [World.size_alloc,hs2]
 have b1:Below (W.alloc (RB b)).heap.size (W.alloc (RB b)) ((W.alloc (RB b)).alloc O):=Xf (Below.refl _ _) _;have b2:Below ((W.alloc (RB b)).alloc O).heap.size ((W.alloc (RB b)).alloc O) (((W.alloc (RB b)).alloc O).alloc ZB):=Xf (Below.refl _ _) _;have b0:Below W.heap.size W (W.alloc (RB b)):=Xf (Below.refl _ _) _;have b12:Below (W.alloc (RB b)).heap.size (W.alloc (RB b)) (((W.alloc (RB b)).alloc O).alloc ZB):=b1.trans (b2.mono om_);have b02:Below W.heap.size W (((W.alloc (RB b)).alloc O).alloc ZB):=b0.trans (b12.mono om_)
 have hO:((W.alloc (RB b)).alloc O).heap[W.heap.size+1]?=some O:=by have:=heap_alloc_new (W.alloc (RB b)) O;rwa [hs1] at this
 have hZ:(((W.alloc (RB b)).alloc O).alloc ZB).heap[W.heap.size+1+1]?=some ZB:=by have:=heap_alloc_new ((W.alloc (RB b)).alloc O) ZB;rwa [hs2] at this
 refine ⟨⟨⟨?_,?_,?_,?_⟩,hZ,Only.of_below b02 _,.inl rfl,.inr (.inr rfl),om_,fun k hk=>om_,hup⟩,?_⟩
 ·exact ((h.lt.below b02).mono (fun k hk=>⟨hk.1,om_⟩))
 ·exact (b12.block W.heap.size om_).trans (Yc W _)
 ·exact fun k hk=>⟨hup k om_,om_⟩
 ·exact fun hk=>hk.2 (.inl rfl)
 ·exact ⟨(b2.block _ om_).trans hO,b02⟩
theorem RS.start2 {W:World} {base:Nat} {ok:Nat→Prop} {b:BK} {s:WS} (h:At W base ok b s) (hup:∀ k,W.heap.size≤k→ok k) :
  RS W base ok b s W.heap.size (W.heap.size+1) (fun k=>k=W.heap.size∨k=W.heap.size+1) ((W.alloc (RB b)).alloc ZB):=by
 have hs1:(W.alloc (RB b)).heap.size=W.heap.size+1:=World.size_alloc _ _
 have hs2:((W.alloc (RB b)).alloc ZB).heap.size=W.heap.size+1+1:=by rw [World.size_alloc,hs1]
 have b1:Below (W.alloc (RB b)).heap.size (W.alloc (RB b)) ((W.alloc (RB b)).alloc ZB):=Xf (Below.refl _ _) _;have b0:Below W.heap.size W (W.alloc (RB b)):=Xf (Below.refl _ _) _;have b02:Below W.heap.size W ((W.alloc (RB b)).alloc ZB):=b0.trans (b1.mono om_)
 have hZ:((W.alloc (RB b)).alloc ZB).heap[W.heap.size+1]?=some ZB:=by have:=heap_alloc_new (W.alloc (RB b)) ZB;rwa [hs1] at this
 refine ⟨⟨(h.lt.below b02).mono (fun k hk=>⟨hk.1,om_⟩),(b1.block W.heap.size om_).trans (Yc W _),fun k hk=>⟨hup k om_,om_⟩,fun hk=>hk.2 (.inl rfl)⟩,hZ,Only.of_below b02 _,.inl rfl,.inr rfl,om_,fun k hk=>om_,hup⟩
theorem cut_block {A:Option Addr} {c k n n' c' m:Nat}:(Value.slice (if c=k then A else A.map (·.add m)) n c').ownBlock=(Value.slice A n' c).ownBlock:=by
 split
 ·cases A <;> rfl
 ·cases A with
  |none=>rfl
  |some a=>simp [Value.ownBlock];unfold Addr.add;split <;> rfl
theorem RS.done {W W1:World} {base g z:Nat} {ok ex:Nat→Prop} {b:BK} {s:WS} (h:RS W base ok b s g z ex W1) :
  ((((((W1.setCell ⟨z,0,none⟩ b.p).setCell ⟨z,1,none⟩ b.c).setCell ⟨z,2,none⟩ b.m).setCell ⟨z,3,none⟩ b.s).setCell ⟨z,4,none⟩ b.d).heap[z]?=some (RB b))∧
  RL W base ok s (.returned (RV b)) (((((W1.setCell ⟨z,0,none⟩ b.p).setCell ⟨z,1,none⟩ b.c).setCell ⟨z,2,none⟩ b.m).setCell ⟨z,3,none⟩ b.s).setCell ⟨z,4,none⟩ b.d):=by
 have hfin:=Yt (Yt (Yt (Yt (Yt h.z_ 0 b.p) 1 b.c) 2 b.m) 3 b.s) 4 b.d
 have far:∀ k,k≠z→(((((W1.setCell ⟨z,0,none⟩ b.p).setCell ⟨z,1,none⟩ b.c).setCell ⟨z,2,none⟩ b.m).setCell ⟨z,3,none⟩ b.s).setCell ⟨z,4,none⟩ b.d).heap[k]?=W1.heap[k]?:=fun k hk=>by
  rw [Below.heap_setCell _ _ _ k hk,Below.heap_setCell _ _ _ k hk,Below.heap_setCell _ _ _ k hk,Below.heap_setCell _ _ _ k hk,Below.heap_setCell _ _ _ k hk]
 have hz:=(h.gt z h.ez).1
 have hbel:Below W.heap.size W1 (((((W1.setCell ⟨z,0,none⟩ b.p).setCell ⟨z,1,none⟩ b.c).setCell ⟨z,2,none⟩ b.m).setCell ⟨z,3,none⟩ b.s).setCell ⟨z,4,none⟩ b.d):=
  Below.setCell (p:=⟨z,4,none⟩) (Below.setCell (p:=⟨z,3,none⟩) (Below.setCell (p:=⟨z,2,none⟩) (Below.setCell (p:=⟨z,1,none⟩) (Below.setCell (p:=⟨z,0,none⟩) (Below.refl _ _) hz _) hz _) hz _) hz _) hz _
 refine ⟨hfin,b,rfl,(h.st.at_.step (fun k hk _=>far k (fun e=>hk.2 (e ▸ h.ez)))).mono (fun k hk=>hk.1),?_⟩;exact ⟨hbel.os.trans h.only.os,hbel.tape.trans h.only.tape,hbel.output.trans h.only.output,nt_ h.only.size hbel.size,fun k hk hn=>(hbel.block k hk).trans (h.only.block k hk hn)⟩
theorem RS.finish {W W1:World} {base g z:Nat} {ok ex:Nat→Prop} {b:BK} {s:WS} (h:RS W base ok b s g z ex W1) {P C M S:Nat} {Ad:Option Addr} {q0 q1 q2 q3 q4:Nat} (hf:Forms b s P C M S Ad q0 q1 q2 q3 q4) :
  ((((((W1.setCell ⟨z,0,none⟩ (.slice (some ⟨P,0,none⟩) s.n q0)).setCell ⟨z,1,none⟩ (.slice (some ⟨C,0,none⟩) 3 q1)).setCell ⟨z,2,none⟩ (.slice (some ⟨M,0,none⟩) 2 q2)).setCell ⟨z,3,none⟩ (.slice (some ⟨S,0,none⟩) 2 q3)).setCell ⟨z,4,none⟩ (.slice Ad s.said.length q4)).heap[z]? =
    some (.cells #[.slice (some ⟨P,0,none⟩) s.n q0,.slice (some ⟨C,0,none⟩) 3 q1,.slice (some ⟨M,0,none⟩) 2 q2,.slice (some ⟨S,0,none⟩) 2 q3,.slice Ad s.said.length q4] 56 (0,0)))∧
  RL W base ok s (.returned (.agg #[.slice (some ⟨P,0,none⟩) s.n q0,.slice (some ⟨C,0,none⟩) 3 q1,.slice (some ⟨M,0,none⟩) 2 q2,.slice (some ⟨S,0,none⟩) 2 q3,.slice Ad s.said.length q4]))
   (((((W1.setCell ⟨z,0,none⟩ (.slice (some ⟨P,0,none⟩) s.n q0)).setCell ⟨z,1,none⟩ (.slice (some ⟨C,0,none⟩) 3 q1)).setCell ⟨z,2,none⟩ (.slice (some ⟨M,0,none⟩) 2 q2)).setCell ⟨z,3,none⟩ (.slice (some ⟨S,0,none⟩) 2 q3)).setCell ⟨z,4,none⟩ (.slice Ad s.said.length q4)):=by
 have H:=h.done;rw [hf.p,hf.c,hf.m,hf.g,hf.d] at H;obtain ⟨h1,b',e,h2,h3⟩:=H;refine ⟨?_,b',e ▸ ?_,h2,h3⟩
 ·exact h1.trans (congrArg some hf.rb)
 ·rw [← hf.rv]
theorem RS.put {W W1 W2:World} {base g z:Nat} {ok ex:Nat→Prop} {b b':BK} {s s':WS} (h:RS W base ok b s g z ex W1) (hA:At W2 base (fun k=>ok k∧¬ ex k) b' s') (hO:Only W1 W2 (fun k=>ok k∧¬ ex k)) {P C M S:Nat} {Ad:Option Addr} {q0 q1 q2 q3 q4:Nat} (hf:Forms b' s' P C M S Ad q0 q1 q2 q3 q4) :
  W2.heap[z]?=some ZB∧((((((W2.setCell ⟨z,0,none⟩ (.slice (some ⟨P,0,none⟩) s'.n q0)).setCell ⟨z,1,none⟩ (.slice (some ⟨C,0,none⟩) 3 q1)).setCell ⟨z,2,none⟩ (.slice (some ⟨M,0,none⟩) 2 q2)).setCell ⟨z,3,none⟩ (.slice (some ⟨S,0,none⟩) 2 q3)).setCell ⟨z,4,none⟩ (.slice Ad s'.said.length q4)).heap[z]? =
    some (.cells #[.slice (some ⟨P,0,none⟩) s'.n q0,.slice (some ⟨C,0,none⟩) 3 q1,.slice (some ⟨M,0,none⟩) 2 q2,.slice (some ⟨S,0,none⟩) 2 q3,.slice Ad s'.said.length q4] 56 (0,0)))∧
  RL W base ok s' (.returned (.agg #[.slice (some ⟨P,0,none⟩) s'.n q0,.slice (some ⟨C,0,none⟩) 3 q1,.slice (some ⟨M,0,none⟩) 2 q2,.slice (some ⟨S,0,none⟩) 2 q3,.slice Ad s'.said.length q4]))
   (((((W2.setCell ⟨z,0,none⟩ (.slice (some ⟨P,0,none⟩) s'.n q0)).setCell ⟨z,1,none⟩ (.slice (some ⟨C,0,none⟩) 3 q1)).setCell ⟨z,2,none⟩ (.slice (some ⟨M,0,none⟩) 2 q2)).setCell ⟨z,3,none⟩ (.slice (some ⟨S,0,none⟩) 2 q3)).setCell ⟨z,4,none⟩ (.slice Ad s'.said.length q4)):=by
 have hz:W2.heap[z]?=some ZB:=(hO.block z (h.gt z h.ez).2 (fun x=>x.2 h.ez)).trans h.z_
 have far:∀ k,k≠z→(((((W2.setCell ⟨z,0,none⟩ b'.p).setCell ⟨z,1,none⟩ b'.c).setCell ⟨z,2,none⟩ b'.m).setCell ⟨z,3,none⟩ b'.s).setCell ⟨z,4,none⟩ b'.d).heap[k]?=W2.heap[k]?:=fun k hk=>by
  rw [Below.heap_setCell _ _ _ k hk,Below.heap_setCell _ _ _ k hk,Below.heap_setCell _ _ _ k hk,Below.heap_setCell _ _ _ k hk,Below.heap_setCell _ _ _ k hk]
 have hzs:=(h.gt z h.ez).1
 have hbel:Below W.heap.size W2 (((((W2.setCell ⟨z,0,none⟩ b'.p).setCell ⟨z,1,none⟩ b'.c).setCell ⟨z,2,none⟩ b'.m).setCell ⟨z,3,none⟩ b'.s).setCell ⟨z,4,none⟩ b'.d):=
  Below.setCell (p:=⟨z,4,none⟩) (Below.setCell (p:=⟨z,3,none⟩) (Below.setCell (p:=⟨z,2,none⟩) (Below.setCell (p:=⟨z,1,none⟩) (Below.setCell (p:=⟨z,0,none⟩) (Below.refl _ _) hzs _) hzs _) hzs _) hzs _) hzs _
 have hfin:=Yt (Yt (Yt (Yt (Yt hz 0 b'.p) 1 b'.c) 2 b'.m) 3 b'.s) 4 b'.d;have hon:Only W W2 ok:=h.only.trans (hO.mono (fun k hk=>.inl hk.1))
 have hRL:RL W base ok s' (.returned (RV b')) (((((W2.setCell ⟨z,0,none⟩ b'.p).setCell ⟨z,1,none⟩ b'.c).setCell ⟨z,2,none⟩ b'.m).setCell ⟨z,3,none⟩ b'.s).setCell ⟨z,4,none⟩ b'.d):=
  ⟨b',rfl,(hA.step (fun k hk _=>far k (fun e=>hk.2 (e ▸ h.ez)))).mono (fun k hk=>hk.1),⟨hbel.os.trans hon.os,hbel.tape.trans hon.tape,hbel.output.trans hon.output,nt_ hon.size hbel.size,fun k hk hn=>(hbel.block k hk).trans (hon.block k hk hn)⟩⟩
 rw [hf.rv,hf.p,hf.c,hf.m,hf.g,hf.d] at hRL;rw [hf.p,hf.c,hf.m,hf.g,hf.d] at hfin;exact ⟨hz,hfin,hRL⟩
theorem ZB.cells {W:World} {z:Nat} (h:W.heap[z]?=some ZB) :
  W.cell? ⟨z,0,none⟩=some (.slice none 0 0)∧W.cell? ⟨z,1,none⟩=some (.slice none 0 0)∧W.cell? ⟨z,2,none⟩=some (.slice none 0 0)∧W.cell? ⟨z,3,none⟩=some (.slice none 0 0)∧W.cell? ⟨z,4,none⟩=some (.slice none 0 0):=
 ⟨(Xd h 0).trans rfl,(Xd h 1).trans rfl,(Xd h 2).trans rfl,(Xd h 3).trans rfl,(Xd h 4).trans rfl⟩
theorem RS.zc {W W1:World} {base g z:Nat} {ok ex:Nat→Prop} {b:BK} {s:WS} (h:RS W base ok b s g z ex W1) :
  W1.cell? ⟨z,0,none⟩=some (.slice none 0 0)∧W1.cell? ⟨z,1,none⟩=some (.slice none 0 0)∧W1.cell? ⟨z,2,none⟩=some (.slice none 0 0)∧W1.cell? ⟨z,3,none⟩=some (.slice none 0 0)∧W1.cell? ⟨z,4,none⟩=some (.slice none 0 0):=
 ⟨(Xd h.z_ 0).trans rfl,(Xd h.z_ 1).trans rfl,(Xd h.z_ 2).trans rfl,(Xd h.z_ 3).trans rfl,(Xd h.z_ 4).trans rfl⟩
end Go.Proofs.YtlhogkfmdnpmkaaGreat.Mean
namespace Go.Proofs.YtlhogkfmdnpmkaaGreat.Pack
open RowKit YtlhogkfmdnpmkaaGreatW.PrintWords YtlhogkfmdnpmkaaGreatW.PrintLast YtlhogkfmdnpmkaaGreatW.PrintMore
section
variable {P:Program} {ops:Array Oper} {Q:Exit→Act→World→Prop}
theorem count_set {l:Array Bool} {i:Nat} (h:l.getD i true=false):(l.setIfInBounds i true).toList.count false+1=l.toList.count false:=by
 have hi:i<l.size:=by
  rcases Nat.lt_or_ge i l.size with h'|h'
  ·exact h'
  ·simp [Array.getD_eq_getD_getElem?,Array.getElem?_eq_none h'] at h
 have hg:l.toList[i]'(by simpa using hi)=false:=by
  simp [Array.getD_eq_getD_getElem?,Array.getElem?_eq_getElem hi] at h;simpa using h
 have hp:0<l.toList.count false:=List.count_pos_iff.2 (hg ▸ List.getElem_mem _);have hc:=List.count_set (a:=true) (b:=false) (l:=l.toList) (i:=i) (by rw [Array.length_toList];exact hi);rw [Array.toList_setIfInBounds,hc,hg];have e1:((false == false)=true):=rfl
 have e2:¬ ((true == false)=true):=de_
 rw [if_pos e1,if_neg e2];omega
theorem any_inv {J:Array Bool→Act→World→Prop} (hdone:∀ l a w,J l a w→Region.ready .any ops l=[]→Q .normal a w)
  (hstep:∀ l a w i,J l a w→i ∈ Region.ready .any ops l→∃ o,ops[i]?=some o∧∀ K':Act→World→Prop,Shut (∀ a' w',J (l.setIfInBounds i true) a' w'→K' a' w')→if Region.wanted o (yielded ops a.tmps)=true then Oper.wp P o a w K' Q else K' (a.put o.dst undef) w) :
  ∀ fuel l a w,l.toList.count false≤fuel→J l a w→Yb P .any ops Q (fun _=>True) [] fuel l a w
 |0,l,a,w,hc,hJ=>by
  have hr:Region.ready .any ops l=[]:=by
   apply List.eq_nil_iff_forall_not_mem.2
   intro i hi
   have:=count_set (mem_ready.1 hi).1
   omega
  exact ⟨hr,hdone l a w hJ hr⟩
 |fuel+1,l,a,w,hc,hJ=>by
  refine ⟨fun hr=>hdone l a w hJ hr,fun i hi=>?_⟩;obtain ⟨o,ho,h⟩:=hstep l a w i hJ hi;have hcnt:=count_set (mem_ready.1 hi).1;exact wpOp_step ho (fun K' hK=>h K' (fun a' w' hJ'=>hK a' w' ⟨fun _ _=>trivial,any_inv hdone hstep fuel _ a' w' om_ hJ'⟩))
theorem start_inv {id n:Nat} {a:Act} {w:World} {J:Array Bool→Act→World→Prop} (l:Array Bool) (hm:P.follows .mixedOrders=true) (hn:ops.size=n) (hl:Array.replicate n false=l) (hJ:J l a w.drew) (hdone:∀ l a w,J l a w→Region.ready .any ops l=[]→Q .normal a w)
  (hstep:∀ l a w i,J l a w→i ∈ Region.ready .any ops l→∃ o,ops[i]?=some o∧∀ K':Act→World→Prop,Shut (∀ a' w',J (l.setIfInBounds i true) a' w'→K' a' w')→if Region.wanted o (yielded ops a.tmps)=true then Oper.wp P o a w K' Q else K' (a.put o.dst undef) w):(Code.region id ops true).wp P Q a w:=by
 refine wp_region_last_drew (S:=fun _=>True) (ds:=[]) hm trivial (fun _=>any_inv hdone hstep _ _ _ _ (nt_ List.count_le_length ?_) (by subst hn;subst hl;exact hJ));simp
end
structure Made (F:Nat→Value→World→Nat→Nat→Prop) (B:Nat→Bool) (val:Nat→Value) (lo hi:Nat→Nat) (W0 w:World):Prop where
 each:∀ i,B i=true→F i (val i) w (lo i) (hi i)∧W0.heap.size≤lo i∧lo i≤hi i∧hi i≤w.heap.size
 apart:∀ i j,i≠j→B i=true→B j=true→hi i≤lo j∨hi j≤lo i
 below:Below W0.heap.size W0 w
def upd {α:Type} (f:Nat→α) (i:Nat) (x:α):Nat→α:=fun k=>if k=i then x else f k
theorem Made.none {F:Nat→Value→World→Nat→Nat→Prop} {val:Nat→Value} {lo hi:Nat→Nat} (w:World):Made F (fun _=>false) val lo hi w w:=
 ⟨(fun i h=>by cases h),(fun i j _ h=>by cases h),Below.refl _ _⟩
theorem Made.add {F:Nat→Value→World→Nat→Nat→Prop} {B:Nat→Bool} {val:Nat→Value} {lo hi:Nat→Nat} {W0 w w':World} (hF:∀ i v lo hi (w w':World),F i v w lo hi→hi≤w.heap.size→Below w.heap.size w w'→F i v w' lo hi)
  (h:Made F B val lo hi W0 w) (i:Nat) (v:Value) (hb:Below w.heap.size w w') (hv:F i v w' w.heap.size w'.heap.size):Made F (upd B i true) (upd val i v) (upd lo i w.heap.size) (upd hi i w'.heap.size) W0 w':=by
 have hs0:=h.below.size;have hs1:=hb.size;refine ⟨fun k hk=>?_,fun j k hjk hj hk=>?_,h.below.trans (hb.mono hs0)⟩
 ·by_cases e:k=i
  ·subst e;simp only [upd,if_true];exact ⟨hv,hs0,hs1,nr_ _⟩
  ·simp only [upd,if_neg e] at hk ⊢;obtain ⟨a,b,c,d⟩:=h.each k hk;exact ⟨hF _ _ _ _ _ _ a d hb,b,c,om_⟩
 ·by_cases e:j=i
  ·by_cases e2:k=i
   ·exact absurd (e.trans e2.symm) hjk
   ·simp only [upd,if_neg e2] at hk
    have:=(h.each k hk).2.2.2
    simp only [upd,if_pos e,if_neg e2];omega
  ·simp only [upd,if_neg e] at hj;by_cases e2:k=i
   ·have:=(h.each j hj).2.2.2
    simp only [upd,if_pos e2,if_neg e];omega
   ·simp only [upd,if_neg e2] at hk;simp only [upd,if_neg e,if_neg e2];exact h.apart j k hjk hj hk
theorem Made.congr {F:Nat→Value→World→Nat→Nat→Prop} {B B':Nat→Bool} {val:Nat→Value} {lo hi:Nat→Nat} {W0 w:World} (h:Made F B val lo hi W0 w) (e:∀ i,B' i=B i):Made F B' val lo hi W0 w:=
 ⟨fun i hi=>h.each i (e i ▸ hi),fun i j hij hi hj=>h.apart i j hij (e i ▸ hi) (e j ▸ hj),h.below⟩
theorem make_run {P:Program} {t e:TypeId} {z:Value} {size bytes:Nat} {cs:Array Value} (ht:P.underlying t=some (.slice e)) (hinfo:(P.info? e).map (fun i=>(i.zero,i.size,i.bytes))=some (some z,size,bytes)) (m:Int) (h0:0≤m) (hl:(bytes:Int) * m≤281474976710656) (h63:m≤9223372036854775807) (hc:madeCells z.cells (m.toNat * size)=cs) (W:World) :
  (Instr.makeSlice t (.int .i64 m) (.int .i64 m)).run P W=.ok (.slice (some ⟨W.heap.size,0,none⟩) m.toNat m.toNat) (W.alloc (.cells cs e)):=by
 obtain ⟨i0,hi,hzz⟩:=Option.map_eq_some_iff.1 hinfo;simp only [Prod.mk.injEq] at hzz;obtain ⟨hz0,hz1,hz2⟩:=hzz
 have:=run_make (P:=P) W t e i0 z ht hi hz0 .i64 .i64 m m h0 (Int.le_refl _) (by rw [hz2];exact hl) h63
 rw [hz1,hc] at this;exact this
theorem ready_ne {md:Region.Mode} {ops:Array Oper} {l:Array Bool} (h:(Region.ready md ops l).isEmpty=false) (e:Region.ready md ops l=[]):False:=by rw [e] at h;cases h
theorem ready_not {md:Region.Mode} {ops:Array Oper} {l:Array Bool} {i:Nat} (h:(Region.ready md ops l).contains i=false):¬ i ∈ Region.ready md ops l:=fun e=>by rw [List.contains_iff_mem.2 e] at h;cases h
theorem size7 {l:Array Bool} (h:l.size=7):∃ b0 b1 b2 b3 b4 b5 b6,l=#[b0,b1,b2,b3,b4,b5,b6]:=by
 obtain ⟨l⟩:=l
 match l,h with
 |[b0,b1,b2,b3,b4,b5,b6],_=>exact ⟨b0,b1,b2,b3,b4,b5,b6,rfl⟩
end Go.Proofs.YtlhogkfmdnpmkaaGreat.Pack
namespace Go.Proofs.YtlhogkfmdnpmkaaGreat.Mean
open RowKit GMarks YtlhogkfmdnpmkaaGreatW.PrintWords YtlhogkfmdnpmkaaGreatW.PrintLast YtlhogkfmdnpmkaaGreatW.PrintMore
variable [Prot]
theorem V_first {W:World} {base n c:Nat} {ok:Nat→Prop} {A:Option Addr} {t:T} {r:List T} (h:Kd.V KT 87 W base ok (.slice A n c) (t :: r)) :
  ∃ ad A4 c4 A5 c5,A=some ad∧W.cell? (ad.add 0)=some (.int .i64 t.f0)∧W.cell? ⟨(ad.add 0).block,(ad.add 0).off+1,none⟩=some (.int .i64 t.f1)∧W.cell? ⟨(ad.add 0).block,(ad.add 0).off+2,none⟩=some (.int .i64 t.f2)∧W.cell? ⟨(ad.add 0).block,(ad.add 0).off+3,none⟩=some (.int .i64 t.f3)∧W.cell? ⟨(ad.add 0).block,(ad.add 0).off+4,none⟩=some (.slice A4 t.f4.length c4)∧W.cell? ⟨(ad.add 0).block,(ad.add 0).off+5,none⟩=some (.slice A5 t.f5.length c5)∧
   Kd.V KT 87 W base ok (.slice A4 t.f4.length c4) t.f4∧Kd.V KT 87 W base ok (.slice A5 t.f5.length c5) t.f5:=by
 obtain ⟨hn,hcn,hf⟩:=Kd.V_at h;obtain ⟨ad,c,e,_,hK,hc0,_⟩:=Kd.F_get hf z87 0 (Int.le_refl _) (by simp only [List.length_cons];omega)
 have hc:∀ j u,c[j]?=some u→W.cell? (ad.add (0+j))=some u:=fun j u hj=>by have:=hc0 j u hj;simpa using this
 have e0:(t :: r).getD (0:Int).toNat z87=t:=rfl;rw [e0] at hK;obtain ⟨A4,c4,A5,c5,rfl,l4,g4,l5,g5⟩:=k87_openF hK;exact ⟨ad,A4,c4,A5,c5,e,hc 0 _ rfl,by rw [← Zw _ _ 1 om_];exact hc 1 _ rfl,by rw [← Zw _ _ 2 om_];exact hc 2 _ rfl,by rw [← Zw _ _ 3 om_];exact hc 3 _ rfl,by rw [← Zw _ _ 4 om_];exact hc 4 _ rfl,by rw [← Zw _ _ 5 om_];exact hc 5 _ rfl,Kd.V_mk l4 g4,Kd.V_mk l5 g5⟩
theorem V_tail {W:World} {base n c:Nat} {ok:Nat→Prop} {A:Option Addr} {t:T} {r:List T} (h:Kd.V KT 87 W base ok (.slice A n c) (t :: r)) :
  Kd.V KT 87 W base ok (.slice (if c=1 then A else A.map (·.add (1 * 6))) r.length (c - 1)) r:=by
 obtain ⟨hn,hcn,hf⟩:=Kd.V_at h;have h1:=Kd.F_cut (m:=1) hf sm_ (hn ▸ hcn);exact Kd.V_mk (by rw [hn,List.length_cons] at hcn;omega) h1
theorem step_back_do (W:World) (base:Nat) (ok:Nat→Prop) (b:BK) (s:WS) (g i:Nat) (h:St W base ok b s g) (hi:i<s.n) (hn:s.n≤1000) (hm:(s.proc i).mode=2) (hr:0≤(s.proc i).room∧(s.proc i).room<2) :
  Calls Tryz.prog 66 #[.pointer (some ⟨g,0,none⟩),.int .i64 (i:Int)] W fun e W'=>e=.returned (.tuple #[])∧Left W base ok (step s i) g W':=by
 obtain ⟨P,cp,HP⟩:=h.at_.procs om_;obtain ⟨c0,c1,c2,c3,c4⟩:=h.wb.cells;rw [HP.v_] at c0;obtain ⟨M,cm,HM⟩:=h.at_.rooms;rw [HM.v_] at c2;obtain ⟨r,hrr⟩:=Int.eq_ofNat_of_zero_le hr.1;have p2:=HP.cell i 2 hi om_;have p4:=HP.cell i 4 hi om_;simp only [Yn,hm,hrr] at p2 p4;simp at p2 p4;have pf2:=HP.free_ (i * 5+2);have m_a:=HM.cell r om_;have m_f:=HM.free_ r
 have r3:(r:Int)<2:=om_
 have r4:decide (r<2)=true:=dt_ om_
 have i0:(0:Int)≤(i:Int):=om_
 have i1:(i:Int)<(s.n:Int):=om_
 have i2:decide (i<s.n)=true:=dt_ hi
 have hw1:IntKind.i64.wrap ((i:Int)+1)=(i:Int)+1:=by rw [IntKind.wrap_i64];omega
 have HRR:=Xa.mk hrr;clear hrr hr;go_enter Tryz.func66,Tryz.ntmps66;go_upto_region 2 with (fail)
 go_region
 all_goals skip
 go_wp2
 (try simp only [Exit.inBlock,Exit.then])
 refine bodyPost_ret (results_none rfl _ _ _) rfl ?_;refine ⟨rfl,?_⟩;have hr1:=h.at_.roomSet h.up r ((i:Int)+1) HM;have h2:=h.write (t':=b.t) (q':=b.q) hr1;have hw2:=h2.at_.mode h2.up (i:=i) hi 0 (h2.at_.Yf (show 0<s.n by omega) HP.v_);have h3:=h2.write (t':=b.t) (q':=b.q) hw2
 have e1:(s.proc i).room.toNat=r:=by rw [HRR.out];rfl
 rw [step_back hm,e1];exact Left.of (h3.below (Xg (Below.refl _ _) 1)) (Below.refl _ _) (((hr1.2.mono (fun k hk=>.inl hk)).trans (hw2.2.mono (fun k hk=>.inl (.inl hk)))).trans (Only.of_below (Xg (Below.refl _ _) 1) _)) h.up
theorem Fit.small:∀ (d:Nat) {room:Int} {t:T},Fit d room t→Small d t.f4∧Small d t.f5
 |0,_,_,h=>h.elim
 |d+1,room,t,h=>⟨⟨by have:=h.2.1;omega,fun x hx=>Fit.small d (h.2.2.2.1 x hx)⟩,⟨by have:=h.2.2.1;omega,fun x hx=>Fit.small d (h.2.2.2.2 x hx)⟩⟩
theorem free_todo {b:BK} {s:WS} {i k:Nat} (v:Value) (l:List T) (h:free (lay b s) k):free (lay { b with t:=up b.t i v } (s.Yq i { s.proc i with todo:=l })) k:=by
 intro a x hx
 match a with
 |0=>exact (by injection hx with hx;subst hx;exact (h 0 ⟨b.p,85,5,s.n,cellsOf 5 s.n (Yn b s)⟩ rfl:b.p.ownBlock≠some k))
 |1=>exact (by injection hx with hx;subst hx;exact h 1 _ rfl)
 |2=>exact (by injection hx with hx;subst hx;exact h 2 _ rfl)
 |3=>exact (by injection hx with hx;subst hx;exact h 3 _ rfl)
 |4=>exact (by injection hx with hx;subst hx;exact h 4 _ rfl)
 |5=>exact (by injection hx with hx;subst hx;exact h 5 _ rfl)
 |6=>exact (by injection hx with hx;subst hx;exact h 6 _ rfl)
 |j+7=>
  have hx':(if j<s.n then some (Row.mk (b.r j) 3 1 3 (ints 3 ((s.Yq i { s.proc i with todo:=l }).proc j).regs)) else none)=some x:=hx;by_cases hj:j<s.n
  ·rw [if_pos hj] at hx';injection hx' with hx';subst hx';exact (h (j+7) ⟨b.r j,3,1,3,ints 3 (s.proc j).regs⟩ (lay_reg b s hj):(b.r j).ownBlock≠some k)
  ·rw [if_neg hj] at hx';cases hx'
theorem step_on_do (W:World) (base:Nat) (ok:Nat→Prop) (b:BK) (s:WS) (g i:Nat) (t:T) (r:List T) (h:St W base ok b s g) (hi:i<s.n) (hm:(s.proc i).mode≠2) (hm1:(s.proc i).mode≠1) (ht:(s.proc i).todo=t :: r) (hs4:Small 3 t.f4) (hs5:Small 3 t.f5) (hl4:t.f4.length≤100) (hl5:t.f5.length≤100) (hok:DoOk (s.Yq i { s.proc i with todo:=r }) i t) :
  Calls Tryz.prog 66 #[.pointer (some ⟨g,0,none⟩),.int .i64 (i:Int)] W fun e W'=>e=.returned (.tuple #[])∧Left W base ok (step s i) g W':=by
 obtain ⟨P,cp,HP⟩:=h.at_.procs om_;obtain ⟨c0,c1,c2,c3,c4⟩:=h.wb.cells;rw [HP.v_] at c0;have hV:=h.at_.tree i hi;rw [ht] at hV;obtain ⟨A,c,eT⟩:=Kd.V_slice hV;rw [eT] at hV;rw [List.length_cons] at eT;obtain ⟨ad,A4,aA,A5,aB,eA,a0,a1,a2,a3,a4,a5,hv4,hv5⟩:=V_first hV;subst eA;have hcap:=(Kd.V_at hV).2.1;rw [List.length_cons] at hcap;have hVt:=V_tail hV;have p1:=HP.cell i 1 hi om_;have p2:=HP.cell i 2 hi om_;simp only [Yn,eT] at p1;simp only [Yn] at p2;simp at p1 p2;have aD:=HP.free_ (i * 5+1)
 have q2:((s.proc i).mode == 2)=false:=by simpa using hm
 have q3:decide ((s.proc i).mode=2)=false:=df_ hm
 have i0:(0:Int)≤(i:Int):=om_
 have i1:(i:Int)<(s.n:Int):=om_
 have i2:decide (i<s.n)=true:=dt_ hi
 have n1:(0:Int)<((r.length+1:Nat):Int):=om_
 have n2:(0:Int)<((r.length:Int)+1):=om_
 have ad0:ad.add 0=ad:=by simp [Addr.add]
 rw [ad0] at a0 a1 a2 a3 a4 a5;go_enter Tryz.func66,Tryz.ntmps66;go_upto_region 3 with (fail);go_upto_region 4 with (fail);have HB:=Xf (Below.refl W.heap.size W) (.cells (CSV t A4 aA A5 aB) 87);have hbx:=Yc W (.cells (CSV t A4 aA A5 aB) 87);generalize W.alloc (.cells (CSV t A4 aA A5 aB) 87)=W1 at *;clear c0 c1 c2 c3 c4 p1 p2 aD a0 a1 a2 a3 a4 a5;have h1:=h.below HB;have aC:=h1.at_.Yf om_ HP.v_;have p1:=aC.cell i 1 hi om_;simp only [Yn,eT] at p1;simp at p1;have aD:=aC.free_ (i * 5+1);obtain ⟨i0,hi0,hx2,hsz,hx3⟩:=info_parts info87;have hcut:=cut_from (P:=Tryz.prog) 64 87 .i64 Tryz.underlying64 hi0 6 hsz (some ad) (r.length+1) c 1 om_ om_;have e1:(1:Int).toNat=1:=rfl;have hl1:r.length+1 - 1=r.length:=rfl;obtain ⟨A1,hA1⟩:∃ A1,A1=(if c=1 then some ad else Option.map (·.add (1 * 6)) (some ad)):=⟨_,rfl⟩;obtain ⟨c1,hc1⟩:∃ c1,c1=c - 1:=⟨_,rfl⟩;rw [e1,hl1,← hA1,← hc1] at hcut;rw [← hA1,← hc1] at hVt;clear e1 hl1 hA1 hc1 hx2 hx3 hsz hi0;go_upto_region 5 with (fail);have hw:=h1.at_.todo h1.up hi (.slice A1 r.length c1) r aC (Kd.V_below hVt HB);have h2:=h1.write (t':=up b.t i (.slice A1 r.length c1)) (q':=b.q) hw;have hg:=(stored (h1.at_.rows.at_ 0 _ rfl) aC.v_ (i * 5+1) (.slice A1 r.length c1)).2;have ht1:StmtIn W 3 t A4 aA A5 aB (fun k=>ok k∧free (lay b s) k):=⟨hv4,hv5,hs4,hs5,hl4,hl5⟩;have ht2:=(ht1.below HB).grown hg (fun k hk e=>hk.2 0 _ rfl e.symm);have hp:∀ k,(ok k∧free (lay b s) k)→free (lay { b with t:=up b.t i (.slice A1 r.length c1) } (s.Yq i { s.proc i with todo:=r })) k:=fun k hk=>free_todo _ _ hk.2;have hPlt:P<W.heap.size:=HP.lt;have hb2:(W1.setCell ⟨P,i * 5+1,none⟩ (.slice A1 r.length c1)).heap[W.heap.size]?=some (.cells (CSV t A4 aA A5 aB) 87 (0,0)):=Yr hbx (fun e=>by have:W.heap.size=P:=e;omega) _;have o2:Only W (W1.setCell ⟨P,i * 5+1,none⟩ (.slice A1 r.length c1)) ok:=(Only.of_below HB ok).trans (hw.2.mono (fun k hk=>.inl hk));clear hw p1 aD hcut h1 aC hbx HB;change St (W1.setCell ⟨P,i * 5+1,none⟩ (.slice A1 r.length c1)) _ _ _ _ _ at h2;change StmtIn (W1.setCell ⟨P,i * 5+1,none⟩ (.slice A1 r.length c1)) _ _ _ _ _ _ _ at ht2;generalize (W1.setCell ⟨P,i * 5+1,none⟩ (.slice A1 r.length c1))=W2 at *;obtain ⟨b0,b1,b2,b3,b4,b5⟩:=box6 hb2;have ho:DoOk (s.Yq i { s.proc i with todo:=r }) i t:=hok;have dsp:=disp W2 base ok _ _ g i t A4 aA A5 aB _ h2 hi ht2 hp ho;clear ho hok ht2 hp ht1;obtain ⟨Ty,v,f,hD,hM,hC,hX⟩:=dsp;go_wp2_with (first|(go_at_call 85;refine hD.mono ?_;rintro e w3 ⟨rfl,hb3⟩)|(refine (hX w3 hb3).mono ?_;rintro e w4 ⟨rfl,hL⟩));go_end0;refine ⟨rfl,?_⟩;rw [step_on hm ht];exact Left.only o2 (Left.after hb3 hL)
theorem step_do (W:World) (base:Nat) (ok:Nat→Prop) (b:BK) (s:WS) (g i K:Nat) (h:St W base ok b s g) (hi:i<s.n) (inv:Inv s K) (hK:K≤20000) (hc:codeN s i=0) :
  Calls Tryz.prog 66 #[.pointer (some ⟨g,0,none⟩),.int .i64 (i:Int)] W fun e W'=>e=.returned (.tuple #[])∧Left W base ok (step s i) g W':=by
 have hn:s.n≤1000:=by have:=inv.n.2;omega
 rcases codeN_fine hc with ⟨h2,h3⟩|⟨h2,h1,t,r,ht,h8⟩
 ·refine step_back_do W base ok b s g i h hi hn h2 ?_
  rcases inv.mode i hi with hm|hm
  ·omega
  ·rcases inv.room hi with hr|hr
   ·omega
   ·exact hr
 ·have hlen:=inv.len i hi;rw [ht,List.length_cons] at hlen;have hok:=inv.todo i hi;rw [ht] at hok;have e1:(s.Yq i { s.proc i with todo:=r }).proc i = { s.proc i with todo:=r }:=Yp _ _ _
  have hq:∀ j,j<2→(s.sign j).length≤1000∧∀ q ∈ s.sign j,0≤q∧q<(s.n:Int):=fun j hj=>⟨by have:=inv.qlen hj;omega,fun q hq=>by
   obtain ⟨k,hk,e,_,_⟩:=inv.queue j hj q hq
   omega⟩
  have ho:∀ (hh:Head t.f0 t.f1 t.f2 t.f3 (s.proc i).room t.f4.length t.f5.length∨(t.f0=12∧0≤t.f1∧t.f1<2)),DoOk (s.Yq i { s.proc i with todo:=r }) i t:=fun hh=>⟨hn,by rw [e1];exact hh,fun h9=>by
   rw [e1]
   rcases hh with hh|hh
   ·rcases inv.room hi with hr|hr
    ·unfold Head at hh;omega
    ·exact hr
   ·omega,hq,by have:=inv.said;show s.said.length≤_;omega,by rw [e1];show r.length≤_;omega⟩
  rcases hok.first with ⟨hf,hr⟩|⟨h0,hl2,rfl,hr⟩
  ·have hs:=Fit.small 3 hf;exact step_on_do W base ok b s g i t r h hi h2 h1 ht hs.1 hs.2 (by have:=hf.len;omega) (by have:=hf.len;omega) (ho (.inl hf.head))
  ·exact step_on_do W base ok b s g i _ r h hi h2 h1 ht (Small.nil _) (Small.nil _) (Nat.zero_le _) (Nat.zero_le _) (ho (.inr ⟨rfl,h0,hl2⟩))
end Go.Proofs.YtlhogkfmdnpmkaaGreat.Mean
