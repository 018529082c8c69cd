import Derived.Test.YtlhogkfmdnpmkaaCFnWholeOrder45
set_option linter.unusedSectionVars false
set_option linter.unusedVariables false
set_option linter.unusedSimpArgs false
namespace Go.Proofs.Ytlhogkfmdnpmkaa.Mean
open RowKit GWhole YtlhogkfmdnpmkaaW.PrintWords YtlhogkfmdnpmkaaW.PrintLast YtlhogkfmdnpmkaaW.PrintMore
variable [Prot]
abbrev RV (b:BK):Value:=.agg #[b.p,b.c,b.m,b.s,b.d]
abbrev RB (b:BK):Obj:=.cells #[b.p,b.c,b.m,b.s,b.d] 45
structure Forms (b:BK) (s:WS) (P C M S:Nat) (Ad:Option Addr) (q0 q1 q2 q3 q4:Nat):Prop where
 p:b.p=.slice (some ⟨P,0,none⟩) s.n q0
 c:b.c=.slice (some ⟨C,0,none⟩) 3 q1
 m:b.m=.slice (some ⟨M,0,none⟩) 2 q2
 g:b.s=.slice (some ⟨S,0,none⟩) 2 q3
 d:b.d=.slice Ad s.said.length q4
theorem At.forms {W:World} {base:Nat} {ok:Nat→Prop} {b:BK} {s:WS} (h:At W base ok b s) (hn:0<s.n):∃ P C M S Ad q0 q1 q2 q3 q4,Forms b s P C M S Ad q0 q1 q2 q3 q4:=by
 obtain ⟨P,q0,H0⟩:=h.procs hn;obtain ⟨C,q1,H1⟩:=h.cells;obtain ⟨M,q2,H2⟩:=h.rooms;obtain ⟨S,q3,H3,_⟩:=h.signs;obtain ⟨P4,q4,e4⟩:∃ A c,b.d=.slice A s.said.length c:=Yn (h.rows.at_ 4 _ rfl);exact ⟨P,C,M,S,P4,q0,q1,q2,q3,q4,H0.v_,H1.v_,H2.v_,H3,e4⟩
theorem At.signs_at {W:World} {base:Nat} {ok:Nat→Prop} {b:BK} {s:WS} {S cs:Nat} (h:At W base ok b s) (hv:b.s=.slice (some ⟨S,0,none⟩) 2 cs):S<W.heap.size∧(∀ j,j<2→W.cell? ⟨S,j,none⟩=some (b.q j))∧(∀ k,W.frozen? ⟨S,k,none⟩=false):=by
 obtain ⟨g,cap,e,h1,h2,h3⟩:=h.signs;have e:=e.symm.trans hv;injection e with e1 e2 e3;injection e1 with e1;injection e1 with e1;subst e1;exact ⟨h1,h2,h3⟩
section
variable {b:BK} {s:WS} {P C M S:Nat} {Ad:Option Addr} {q0 q1 q2 q3 q4:Nat}
theorem Forms.rv (h:Forms b s P C M S Ad q0 q1 q2 q3 q4):RV b=.agg #[.slice (some ⟨P,0,none⟩) s.n q0,.slice (some ⟨C,0,none⟩) 3 q1,.slice (some ⟨M,0,none⟩) 2 q2,.slice (some ⟨S,0,none⟩) 2 q3,.slice Ad s.said.length q4]:=by
 unfold RV;rw [h.p,h.c,h.m,h.g,h.d]
theorem Forms.rb (h:Forms b s P C M S Ad q0 q1 q2 q3 q4):RB b=.cells #[.slice (some ⟨P,0,none⟩) s.n q0,.slice (some ⟨C,0,none⟩) 3 q1,.slice (some ⟨M,0,none⟩) 2 q2,.slice (some ⟨S,0,none⟩) 2 q3,.slice Ad s.said.length q4] 45:=by
 unfold RB;rw [h.p,h.c,h.m,h.g,h.d]
theorem Forms.cells {W:World} {g:Nat} (h:Forms b s P C M S Ad q0 q1 q2 q3 q4) (hw:Wb W g b):W.cell? ⟨g,0,none⟩=some (.slice (some ⟨P,0,none⟩) s.n q0)∧W.cell? ⟨g,1,none⟩=some (.slice (some ⟨C,0,none⟩) 3 q1)∧W.cell? ⟨g,2,none⟩=some (.slice (some ⟨M,0,none⟩) 2 q2)∧W.cell? ⟨g,3,none⟩=some (.slice (some ⟨S,0,none⟩) 2 q3)∧W.cell? ⟨g,4,none⟩=some (.slice Ad s.said.length q4):=by
 obtain ⟨c0,c1,c2,c3,c4⟩:=hw.cells;rw [h.p] at c0;rw [h.c] at c1;rw [h.m] at c2;rw [h.g] at c3;rw [h.d] at c4;exact ⟨c0,c1,c2,c3,c4⟩
end
def RL (W:World) (base:Nat) (ok:Nat→Prop) (s':WS) (e:Ending) (W':World):Prop:=∃ b',e=.returned (RV b')∧At W' base ok b' s'∧Only W W' ok
abbrev ZB:Obj:=.cells #[.slice none 0 0,.slice none 0 0,.slice none 0 0,.slice none 0 0,.slice none 0 0] 45
structure RS (W:World) (base:Nat) (ok:Nat→Prop) (b:BK) (s:WS) (g z:Nat) (ex:Nat→Prop) (W1:World):Prop where
 st:St W1 base (fun k=>ok k∧¬ ex k) b s g
 z_:W1.heap[z]?=some ZB
 only:Only W W1 ok
 eg:ex g
 ez:ex z
 ne:g≠z
 gt:∀ k,ex k→W.heap.size≤k∧k<W1.heap.size
 up:∀ k,W.heap.size≤k→ok k
theorem RS.write {W W1 W2:World} {base g z:Nat} {ok ex:Nat→Prop} {b:BK} {s s':WS} (h:RS W base ok b s g z ex W1) {t' q':Nat→Value} (hw:At W2 base (fun k=>ok k∧¬ ex k) { b with t:=t',q:=q' } s'∧Only W1 W2 (fun k=>ok k∧¬ ex k)):RS W base ok { b with t:=t',q:=q' } s' g z ex W2:=
 ⟨h.st.write hw,(hw.2.block z (h.gt z h.ez).2 (fun x=>x.2 h.ez)).trans h.z_,h.only.trans (hw.2.mono (fun k hk=>.inl hk.1)),h.eg,h.ez,h.ne,fun k hk=>⟨(h.gt k hk).1,nl_ (h.gt k hk).2 hw.2.size⟩,h.up⟩
theorem RS.below {W W1 W2:World} {base g z:Nat} {ok ex:Nat→Prop} {b:BK} {s:WS} (h:RS W base ok b s g z ex W1) (hb:Below W1.heap.size W1 W2):RS W base ok b s g z ex W2:=
 ⟨h.st.below hb,(hb.block z (h.gt z h.ez).2).trans h.z_,h.only.trans (Only.of_below hb _),h.eg,h.ez,h.ne,fun k hk=>⟨(h.gt k hk).1,nl_ (h.gt k hk).2 hb.size⟩,h.up⟩
theorem RS.said {W W1 W2:World} {base g z:Nat} {ok ex:Nat→Prop} {b:BK} {s s':WS} {v:Value} (h:RS W base ok b s g z ex W1) (hw:At W2 base (fun k=>ok k∧¬ ex k) { b with d:=v } s'∧Only W1 W2 (fun k=>ok k∧¬ ex k)):RS W base ok { b with d:=v } s' g z ex (W2.setCell ⟨g,4,none⟩ v):=by
 have hg2:W2.heap[g]?=some (.cells #[b.p,b.c,b.m,b.s,b.d] 45 (0,0)):=(hw.2.block g (Yt h.st.wb) h.st.g_).trans h.st.wb;have o2:Only W2 (W2.setCell ⟨g,4,none⟩ v) (fun k=>k=g):=⟨rfl,rfl,rfl,sm_,fun k _ hk=>Below.heap_setCell W2 ⟨g,4,none⟩ _ k hk⟩;have hsz:W1.heap.size≤(W2.setCell ⟨g,4,none⟩ v).heap.size:=nt_ hw.2.size o2.size;refine ⟨⟨hw.1.step (fun k hk _=>Below.heap_setCell W2 ⟨g,4,none⟩ _ k (fun e=>hk.2 ((show k=g from e) ▸ h.eg))),Zx hg2 4 _ rfl,fun k hk=>h.st.up k (nt_ hsz hk),h.st.g_⟩,?_,(h.only.trans (hw.2.mono (fun k hk=>.inl hk.1))).trans (o2.mono (fun k hk=>.inl (h.up k (hk ▸ (h.gt g h.eg).1)))),h.eg,h.ez,h.ne,fun k hk=>⟨(h.gt k hk).1,nl_ (h.gt k hk).2 hsz⟩,h.up⟩;exact (Below.heap_setCell W2 ⟨g,4,none⟩ _ z (fun e=>h.ne e.symm)).trans ((hw.2.block z (h.gt z h.ez).2 (fun x=>x.2 h.ez)).trans h.z_)
theorem RS.start3 {W:World} {base:Nat} {ok:Nat→Prop} {b:BK} {s:WS} (h:At W base ok b s) (hup:∀ k,W.heap.size≤k→ok k) (O:Obj) :
  RS W base ok b s W.heap.size (W.heap.size+1+1) (fun k=>k=W.heap.size∨k=W.heap.size+1∨k=W.heap.size+1+1) (((W.alloc (RB b)).alloc O).alloc ZB)∧(((W.alloc (RB b)).alloc O).alloc ZB).heap[W.heap.size+1]?=some O∧Below W.heap.size W (((W.alloc (RB b)).alloc O).alloc ZB):=by
 have hs1:(W.alloc (RB b)).heap.size=W.heap.size+1:=World.size_alloc _ _
 have hs2:((W.alloc (RB b)).alloc O).heap.size=W.heap.size+1+1:=by rw [World.size_alloc,hs1]
 have hs3:(((W.alloc (RB b)).alloc O).alloc ZB).heap.size=W.heap.size+1+1+1:=by rw [World.size_alloc,hs2]
 have b1:Below (W.alloc (RB b)).heap.size (W.alloc (RB b)) ((W.alloc (RB b)).alloc O):=Xf (Below.refl _ _) _;have b2:Below ((W.alloc (RB b)).alloc O).heap.size ((W.alloc (RB b)).alloc O) (((W.alloc (RB b)).alloc O).alloc ZB):=Xf (Below.refl _ _) _;have b0:Below W.heap.size W (W.alloc (RB b)):=Xf (Below.refl _ _) _;have b12:Below (W.alloc (RB b)).heap.size (W.alloc (RB b)) (((W.alloc (RB b)).alloc O).alloc ZB):=b1.trans (b2.mono om_);have b02:Below W.heap.size W (((W.alloc (RB b)).alloc O).alloc ZB):=b0.trans (b12.mono om_)
 have hO:((W.alloc (RB b)).alloc O).heap[W.heap.size+1]?=some O:=by have:=heap_alloc_new (W.alloc (RB b)) O;rwa [hs1] at this
 have hZ:(((W.alloc (RB b)).alloc O).alloc ZB).heap[W.heap.size+1+1]?=some ZB:=by have:=heap_alloc_new ((W.alloc (RB b)).alloc O) ZB;rwa [hs2] at this
 refine ⟨⟨⟨?_,?_,?_,?_⟩,hZ,Only.of_below b02 _,.inl rfl,.inr (.inr rfl),om_,fun k hk=>om_,hup⟩,?_⟩
 ·exact ((h.lt.below b02).mono (fun k hk=>⟨hk.1,om_⟩))
 ·exact (b12.block W.heap.size om_).trans (Ym W _)
 ·exact fun k hk=>⟨hup k om_,om_⟩
 ·exact fun hk=>hk.2 (.inl rfl)
 ·exact ⟨(b2.block _ om_).trans hO,b02⟩
theorem RS.start2 {W:World} {base:Nat} {ok:Nat→Prop} {b:BK} {s:WS} (h:At W base ok b s) (hup:∀ k,W.heap.size≤k→ok k) :
  RS W base ok b s W.heap.size (W.heap.size+1) (fun k=>k=W.heap.size∨k=W.heap.size+1) ((W.alloc (RB b)).alloc ZB):=by
 have hs1:(W.alloc (RB b)).heap.size=W.heap.size+1:=World.size_alloc _ _
 have hs2:((W.alloc (RB b)).alloc ZB).heap.size=W.heap.size+1+1:=by rw [World.size_alloc,hs1]
 have b1:Below (W.alloc (RB b)).heap.size (W.alloc (RB b)) ((W.alloc (RB b)).alloc ZB):=Xf (Below.refl _ _) _;have b0:Below W.heap.size W (W.alloc (RB b)):=Xf (Below.refl _ _) _;have b02:Below W.heap.size W ((W.alloc (RB b)).alloc ZB):=b0.trans (b1.mono om_)
 have hZ:((W.alloc (RB b)).alloc ZB).heap[W.heap.size+1]?=some ZB:=by have:=heap_alloc_new (W.alloc (RB b)) ZB;rwa [hs1] at this
 refine ⟨⟨(h.lt.below b02).mono (fun k hk=>⟨hk.1,om_⟩),(b1.block W.heap.size om_).trans (Ym W _),fun k hk=>⟨hup k om_,om_⟩,fun hk=>hk.2 (.inl rfl)⟩,hZ,Only.of_below b02 _,.inl rfl,.inr rfl,om_,fun k hk=>om_,hup⟩
theorem cut_block {A:Option Addr} {c k n n' c' m:Nat}:(Value.slice (if c=k then A else A.map (·.add m)) n c').ownBlock=(Value.slice A n' c).ownBlock:=by
 split
 ·cases A <;> rfl
 ·cases A with
  |none=>rfl
  |some a=>simp [Value.ownBlock];unfold Addr.add;split <;> rfl
theorem RS.done {W W1:World} {base g z:Nat} {ok ex:Nat→Prop} {b:BK} {s:WS} (h:RS W base ok b s g z ex W1) :
  ((((((W1.setCell ⟨z,0,none⟩ b.p).setCell ⟨z,1,none⟩ b.c).setCell ⟨z,2,none⟩ b.m).setCell ⟨z,3,none⟩ b.s).setCell ⟨z,4,none⟩ b.d).heap[z]?=some (RB b))∧
  RL W base ok s (.returned (RV b)) (((((W1.setCell ⟨z,0,none⟩ b.p).setCell ⟨z,1,none⟩ b.c).setCell ⟨z,2,none⟩ b.m).setCell ⟨z,3,none⟩ b.s).setCell ⟨z,4,none⟩ b.d):=by
 have hfin:=Yb (Yb (Yb (Yb (Yb h.z_ 0 b.p) 1 b.c) 2 b.m) 3 b.s) 4 b.d
 have far:∀ k,k≠z→(((((W1.setCell ⟨z,0,none⟩ b.p).setCell ⟨z,1,none⟩ b.c).setCell ⟨z,2,none⟩ b.m).setCell ⟨z,3,none⟩ b.s).setCell ⟨z,4,none⟩ b.d).heap[k]?=W1.heap[k]?:=fun k hk=>by
  rw [Below.heap_setCell _ _ _ k hk,Below.heap_setCell _ _ _ k hk,Below.heap_setCell _ _ _ k hk,Below.heap_setCell _ _ _ k hk,Below.heap_setCell _ _ _ k hk]
 have hz:=(h.gt z h.ez).1
 have hbel:Below W.heap.size W1 (((((W1.setCell ⟨z,0,none⟩ b.p).setCell ⟨z,1,none⟩ b.c).setCell ⟨z,2,none⟩ b.m).setCell ⟨z,3,none⟩ b.s).setCell ⟨z,4,none⟩ b.d):=
  Below.setCell (p:=⟨z,4,none⟩) (Below.setCell (p:=⟨z,3,none⟩) (Below.setCell (p:=⟨z,2,none⟩) (Below.setCell (p:=⟨z,1,none⟩) (Below.setCell (p:=⟨z,0,none⟩) (Below.refl _ _) hz _) hz _) hz _) hz _) hz _
 refine ⟨hfin,b,rfl,(h.st.at_.step (fun k hk _=>far k (fun e=>hk.2 (e ▸ h.ez)))).mono (fun k hk=>hk.1),?_⟩;exact ⟨hbel.os.trans h.only.os,hbel.tape.trans h.only.tape,hbel.output.trans h.only.output,nt_ h.only.size hbel.size,fun k hk hn=>(hbel.block k hk).trans (h.only.block k hk hn)⟩
theorem RS.finish {W W1:World} {base g z:Nat} {ok ex:Nat→Prop} {b:BK} {s:WS} (h:RS W base ok b s g z ex W1) {P C M S:Nat} {Ad:Option Addr} {q0 q1 q2 q3 q4:Nat} (hf:Forms b s P C M S Ad q0 q1 q2 q3 q4) :
  ((((((W1.setCell ⟨z,0,none⟩ (.slice (some ⟨P,0,none⟩) s.n q0)).setCell ⟨z,1,none⟩ (.slice (some ⟨C,0,none⟩) 3 q1)).setCell ⟨z,2,none⟩ (.slice (some ⟨M,0,none⟩) 2 q2)).setCell ⟨z,3,none⟩ (.slice (some ⟨S,0,none⟩) 2 q3)).setCell ⟨z,4,none⟩ (.slice Ad s.said.length q4)).heap[z]? =
    some (.cells #[.slice (some ⟨P,0,none⟩) s.n q0,.slice (some ⟨C,0,none⟩) 3 q1,.slice (some ⟨M,0,none⟩) 2 q2,.slice (some ⟨S,0,none⟩) 2 q3,.slice Ad s.said.length q4] 45 (0,0)))∧
  RL W base ok s (.returned (.agg #[.slice (some ⟨P,0,none⟩) s.n q0,.slice (some ⟨C,0,none⟩) 3 q1,.slice (some ⟨M,0,none⟩) 2 q2,.slice (some ⟨S,0,none⟩) 2 q3,.slice Ad s.said.length q4]))
   (((((W1.setCell ⟨z,0,none⟩ (.slice (some ⟨P,0,none⟩) s.n q0)).setCell ⟨z,1,none⟩ (.slice (some ⟨C,0,none⟩) 3 q1)).setCell ⟨z,2,none⟩ (.slice (some ⟨M,0,none⟩) 2 q2)).setCell ⟨z,3,none⟩ (.slice (some ⟨S,0,none⟩) 2 q3)).setCell ⟨z,4,none⟩ (.slice Ad s.said.length q4)):=by
 have H:=h.done;rw [hf.p,hf.c,hf.m,hf.g,hf.d] at H;obtain ⟨h1,b',e,h2,h3⟩:=H;refine ⟨?_,b',e ▸ ?_,h2,h3⟩
 ·exact h1.trans (congrArg some hf.rb)
 ·rw [← hf.rv]
theorem RS.put {W W1 W2:World} {base g z:Nat} {ok ex:Nat→Prop} {b b':BK} {s s':WS} (h:RS W base ok b s g z ex W1) (hA:At W2 base (fun k=>ok k∧¬ ex k) b' s') (hO:Only W1 W2 (fun k=>ok k∧¬ ex k)) {P C M S:Nat} {Ad:Option Addr} {q0 q1 q2 q3 q4:Nat} (hf:Forms b' s' P C M S Ad q0 q1 q2 q3 q4) :
  W2.heap[z]?=some ZB∧((((((W2.setCell ⟨z,0,none⟩ (.slice (some ⟨P,0,none⟩) s'.n q0)).setCell ⟨z,1,none⟩ (.slice (some ⟨C,0,none⟩) 3 q1)).setCell ⟨z,2,none⟩ (.slice (some ⟨M,0,none⟩) 2 q2)).setCell ⟨z,3,none⟩ (.slice (some ⟨S,0,none⟩) 2 q3)).setCell ⟨z,4,none⟩ (.slice Ad s'.said.length q4)).heap[z]? =
    some (.cells #[.slice (some ⟨P,0,none⟩) s'.n q0,.slice (some ⟨C,0,none⟩) 3 q1,.slice (some ⟨M,0,none⟩) 2 q2,.slice (some ⟨S,0,none⟩) 2 q3,.slice Ad s'.said.length q4] 45 (0,0)))∧
  RL W base ok s' (.returned (.agg #[.slice (some ⟨P,0,none⟩) s'.n q0,.slice (some ⟨C,0,none⟩) 3 q1,.slice (some ⟨M,0,none⟩) 2 q2,.slice (some ⟨S,0,none⟩) 2 q3,.slice Ad s'.said.length q4]))
   (((((W2.setCell ⟨z,0,none⟩ (.slice (some ⟨P,0,none⟩) s'.n q0)).setCell ⟨z,1,none⟩ (.slice (some ⟨C,0,none⟩) 3 q1)).setCell ⟨z,2,none⟩ (.slice (some ⟨M,0,none⟩) 2 q2)).setCell ⟨z,3,none⟩ (.slice (some ⟨S,0,none⟩) 2 q3)).setCell ⟨z,4,none⟩ (.slice Ad s'.said.length q4)):=by
 have hz:W2.heap[z]?=some ZB:=(hO.block z (h.gt z h.ez).2 (fun x=>x.2 h.ez)).trans h.z_
 have far:∀ k,k≠z→(((((W2.setCell ⟨z,0,none⟩ b'.p).setCell ⟨z,1,none⟩ b'.c).setCell ⟨z,2,none⟩ b'.m).setCell ⟨z,3,none⟩ b'.s).setCell ⟨z,4,none⟩ b'.d).heap[k]?=W2.heap[k]?:=fun k hk=>by
  rw [Below.heap_setCell _ _ _ k hk,Below.heap_setCell _ _ _ k hk,Below.heap_setCell _ _ _ k hk,Below.heap_setCell _ _ _ k hk,Below.heap_setCell _ _ _ k hk]
 have hzs:=(h.gt z h.ez).1
 have hbel:Below W.heap.size W2 (((((W2.setCell ⟨z,0,none⟩ b'.p).setCell ⟨z,1,none⟩ b'.c).setCell ⟨z,2,none⟩ b'.m).setCell ⟨z,3,none⟩ b'.s).setCell ⟨z,4,none⟩ b'.d):=
  Below.setCell (p:=⟨z,4,none⟩) (Below.setCell (p:=⟨z,3,none⟩) (Below.setCell (p:=⟨z,2,none⟩) (Below.setCell (p:=⟨z,1,none⟩) (Below.setCell (p:=⟨z,0,none⟩) (Below.refl _ _) hzs _) hzs _) hzs _) hzs _) hzs _
 have hfin:=Yb (Yb (Yb (Yb (Yb hz 0 b'.p) 1 b'.c) 2 b'.m) 3 b'.s) 4 b'.d;have hon:Only W W2 ok:=h.only.trans (hO.mono (fun k hk=>.inl hk.1))
 have hRL:RL W base ok s' (.returned (RV b')) (((((W2.setCell ⟨z,0,none⟩ b'.p).setCell ⟨z,1,none⟩ b'.c).setCell ⟨z,2,none⟩ b'.m).setCell ⟨z,3,none⟩ b'.s).setCell ⟨z,4,none⟩ b'.d):=
  ⟨b',rfl,(hA.step (fun k hk _=>far k (fun e=>hk.2 (e ▸ h.ez)))).mono (fun k hk=>hk.1),⟨hbel.os.trans hon.os,hbel.tape.trans hon.tape,hbel.output.trans hon.output,nt_ hon.size hbel.size,fun k hk hn=>(hbel.block k hk).trans (hon.block k hk hn)⟩⟩
 rw [hf.rv,hf.p,hf.c,hf.m,hf.g,hf.d] at hRL;rw [hf.p,hf.c,hf.m,hf.g,hf.d] at hfin;exact ⟨hz,hfin,hRL⟩
theorem ZB.cells {W:World} {z:Nat} (h:W.heap[z]?=some ZB) :
  W.cell? ⟨z,0,none⟩=some (.slice none 0 0)∧W.cell? ⟨z,1,none⟩=some (.slice none 0 0)∧W.cell? ⟨z,2,none⟩=some (.slice none 0 0)∧W.cell? ⟨z,3,none⟩=some (.slice none 0 0)∧W.cell? ⟨z,4,none⟩=some (.slice none 0 0):=
 ⟨(Xh h 0).trans rfl,(Xh h 1).trans rfl,(Xh h 2).trans rfl,(Xh h 3).trans rfl,(Xh h 4).trans rfl⟩
theorem RS.zc {W W1:World} {base g z:Nat} {ok ex:Nat→Prop} {b:BK} {s:WS} (h:RS W base ok b s g z ex W1) :
  W1.cell? ⟨z,0,none⟩=some (.slice none 0 0)∧W1.cell? ⟨z,1,none⟩=some (.slice none 0 0)∧W1.cell? ⟨z,2,none⟩=some (.slice none 0 0)∧W1.cell? ⟨z,3,none⟩=some (.slice none 0 0)∧W1.cell? ⟨z,4,none⟩=some (.slice none 0 0):=
 ⟨(Xh h.z_ 0).trans rfl,(Xh h.z_ 1).trans rfl,(Xh h.z_ 2).trans rfl,(Xh h.z_ 3).trans rfl,(Xh h.z_ 4).trans rfl⟩
end Go.Proofs.Ytlhogkfmdnpmkaa.Mean
