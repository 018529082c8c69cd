import Derived.Test.YtlhogkfmdnpmkaaCFnWholeOrder80
import Derived.Test.YtlhogkfmdnpmkaaCFnWholeOrder79
set_option linter.unusedSectionVars false
set_option linter.unusedVariables false
set_option linter.unusedSimpArgs false
set_option maxRecDepth 100000
namespace Go.Proofs.Ytlhogkfmdnpmkaa.Mean
open RowKit GWhole YtlhogkfmdnpmkaaW.PrintWords YtlhogkfmdnpmkaaW.PrintMore Evt
theorem lcopy_loop {l:List S69} {D:Int} (hD:0<D) (hl:l.length≤1000000) (each:∀ t ∈ l,Evt (fun k=>Yf.f k t.f4 (wrap64 (D - 1))) t.f4∧Evt (fun k=>Yf.f k t.f5 (wrap64 (D - 1))) t.f5) :
  ∀ (n i:Nat),i+n=l.length→Evt (fun k=>Yf.l0 k l D (l.take i) (i:Int)) l
 |0,i,h=>by
  refine Evt.step ?_;simp only [Yf.l0];refine Evt.neg om_ (Evt.step ?_);simp only [Yf.j1];refine Evt.neg sm_ ?_;rw [List.take_of_length_le om_];exact Evt.pure _
 |n+1,i,h=>by
  have hi:i<l.length:=om_
  refine Evt.step ?_;simp only [Yf.l0];refine Evt.pos om_ (Evt.step ?_);simp only [Yf.j1];refine Evt.pos (dt_ hD) (Evt.pos om_ (Evt.pos om_ ?_))
  have hr:Xb l (i:Int)=l[i]:=by unfold Xb;simp [List.getD_eq_getElem?_getD,hi]
  have he:=each l[i] (List.getElem_mem hi);rw [hr];refine Evt.bind he.1 (Evt.bind he.2 (Evt.pos (by rw [List.length_take];omega) ?_))
  have ht:l.take i ++ [(⟨l[i].f0,l[i].f1,l[i].f2,l[i].f3,l[i].f4,l[i].f5⟩:S69)]=l.take (i+1):=by
   rw [List.take_succ_eq_append_getElem hi]
   cases l[i];rfl
  rw [ht,w64n i om_];exact lcopy_loop hD hl each n (i+1) om_
theorem lcopy_nil (D:Int):Evt (fun k=>Yf.f k ([]:List S69) D) []:=by
 refine Evt.step ?_;simp only [Yf.f];refine Evt.step ?_;simp only [Yf.l0];refine Evt.neg sm_ (Evt.step ?_);simp only [Yf.j1];exact Evt.neg sm_ (Evt.pure _)
theorem lcopy_is:∀ (d:Nat) (l:List S69) (D:Int),Small d l→(d:Int)≤D→D≤1000→Evt (fun k=>Yf.f k l D) l
 |0,l,D,h,_,_=>by
  have h':l=[]:=h;subst h';exact lcopy_nil D
 |d+1,l,D,h,h1,h2=>by
  refine Evt.step ?_;simp only [Yf.f]
  have ew:wrap64 (D - 1)=D - 1:=by unfold wrap64;omega
  refine lcopy_loop om_ h.1 (fun t ht=>?_) l.length 0 om_;rw [ew];exact ⟨lcopy_is d _ _ (h.2 t ht).1 om_ om_,lcopy_is d _ _ (h.2 t ht).2 om_ om_⟩
open YtlhogkfmdnpmkaaW.PrintLast Pack
variable [Prot]
theorem setP_self (s:WS) (i:Nat):s.Yz i { s.proc i with todo:=(s.proc i).todo } = s:=by
 obtain ⟨n,proc,c,r,g,d⟩:=s;show WS.mk n (up proc i _) c r g d=_
 congr 1
 funext k
 unfold up;by_cases e:k=i
 ·subst e;rw [if_pos rfl]
 ·rw [if_neg e]
theorem free_up {b:BK} {s:WS} {j k:Nat} {v:Value} (h:free (lay b s) k):free (lay { b with t:=up b.t j v } s) k:=fun i r hr=>by
 match i with
 |0=>injection hr with hr;subst hr;exact h 0 (Row.mk b.p 67 5 s.n (cellsOf 5 s.n (Yp b s))) rfl
 |1=>exact h 1 r hr
 |2=>exact h 2 r hr
 |3=>exact h 3 r hr
 |4=>exact h 4 r hr
 |5=>exact h 5 r hr
 |6=>exact h 6 r hr
 |i+7=>exact h (i+7) r hr
set_option maxHeartbeats 8000000 in
theorem rout_do (W:World) (base:Nat) (ok:Nat→Prop) (b:BK) (l0:List (List T)) (h:At W base ok b (Ya l0)) (hup:∀ k,W.heap.size≤k→ok k) (hn:0<l0.length) (hn2:l0.length≤1000) (hsm:∀ l ∈ l0,Small 4 l) (hno:∀ k,Prot.low k=none) :
  Calls Try.prog 62 #[RV b] W fun e w'=>∃ b',e=.returned (RV b')∧At w' W.heap.size (fun k=>W.heap.size≤k) b' (Ya l0)∧Below W.heap.size W w':=by
 obtain ⟨P,C,M,S,Ad,q0,q1,q2,q3,q4,HF⟩:=h.forms (by rw [openS_n];exact hn);have HFA:=Xa.mk HF;have HN:=Xa.mk hn;have aO:=Xa.mk hn2;have HSM:=Xa.mk hsm;have HNN:Xa ((Ya l0).n=l0.length):=⟨openS_n l0⟩;have hb1:=Xf (Below.refl W.heap.size W) (RB b);have hg1:=Ym W (RB b);obtain ⟨WB,hWB⟩:∃ WB,WB=W.alloc (RB b):=⟨_,rfl⟩
 have hsz:WB.heap.size=W.heap.size+1:=by rw [hWB];exact World.size_alloc _ _
 rw [← hWB] at hb1 hg1;have hb2:=Xf (Below.refl WB.heap.size WB) ZB;have hz1:=Ym WB ZB;rw [hsz] at hz1;have hB0:Below W.heap.size W (WB.alloc ZB):=hb1.trans (hb2.mono hb1.size);have hG0:Wb (WB.alloc ZB) W.heap.size b:=Xu hg1 hb2
 have hs0:(WB.alloc ZB).heap.size=W.heap.size+2:=by rw [World.size_alloc,hsz]
 have hA2:At (WB.alloc ZB) base (fun k=>ok k∧k≠W.heap.size+1) b (Ya l0):=(h.lt.below hB0).mono (fun k hk=>⟨hk.1,om_⟩);have hrv:=HF.rv;rw [HF.rb] at hWB;have HC:=Lib.hid (fun W2 (hA:At W2 base (fun k=>ok k∧k≠W.heap.size+1) b (Ya l0)) (hW:W.heap.size+2≤W2.heap.size)=>rcopy_do W2 base (fun k=>ok k∧k≠W.heap.size+1) b l0 hA (fun k hk=>⟨hup k om_,om_⟩) hn hn2 (fun l hl=>(hsm l hl).1));have HUP:=Xa.mk hup;have HNO:=Xa.mk hno;clear hno h hup hn hn2 hsm hb1 hg1 hb2;rw [hrv];rw [hrv] at HC;have hne:(((Ya l0).n:Int) == 0)=false:=nb_ (by have:=HN.out;have:=HNN.out;omega);have hne2:((Ya l0).n == 0)=false:=nb_ (by have:=HN.out;have:=HNN.out;omega);clear HF hrv;go_enter Try.func62,Try.ntmps62;go_upto_region 1 with (fail);rw [← hWB];clear hWB;generalize WB.alloc ZB=W0 at *;obtain ⟨c0,c1,c2,c3,c4⟩:=HFA.out.cells hG0;have HA2:=Xa.mk hA2;have HB0:=Xa.mk hB0;have aB:=Xa.mk hs0;have HZ0:=Xa.mk hz1;clear hA2 hB0 hs0 hz1 hG0 hsz;go_upto_region 4 with (first|(go_at_call 71;go_must (refine (HC.out W0 HA2.out (by have:=aB.out;omega)).mono ?_;rintro e w3 ⟨b3,he,hA3,hB3⟩;obtain ⟨P3,C3,M3,S3,aA,p0,p1,p2,p3,p4,aI⟩:=hA3.forms (by rw [openS_n];exact HN.out);rw [aI.rv] at he;subst he;have aD:=Xa.mk aI;have aJ:=Xa.mk hA3;have HB3:=Xa.mk hB3;clear hA3 hB3 aI)));have hx:=Ym w3 (.cells #[.slice (some ⟨P3,0,none⟩) (Ya l0).n p0,.slice (some ⟨C3,0,none⟩) 3 p1,.slice (some ⟨M3,0,none⟩) 2 p2,.slice (some ⟨S3,0,none⟩) 2 p3,.slice aA (Ya l0).said.length p4] 45);have hbx:=Xf (Below.refl w3.heap.size w3) (.cells #[.slice (some ⟨P3,0,none⟩) (Ya l0).n p0,.slice (some ⟨C3,0,none⟩) 3 p1,.slice (some ⟨M3,0,none⟩) 2 p2,.slice (some ⟨S3,0,none⟩) 2 p3,.slice aA (Ya l0).said.length p4] 45);have HAT:Xa (At (w3.alloc (.cells #[.slice (some ⟨P3,0,none⟩) (Ya l0).n p0,.slice (some ⟨C3,0,none⟩) 3 p1,.slice (some ⟨M3,0,none⟩) 2 p2,.slice (some ⟨S3,0,none⟩) 2 p3,.slice aA (Ya l0).said.length p4] 45)) W0.heap.size (fun k=>ok k∧k≠W.heap.size+1∧k≠w3.heap.size) b3 (Ya l0)):=⟨(aJ.out.lt.below hbx).mono (fun k hk=>⟨hk.1.1,hk.1.2,om_⟩)⟩;have HWX:Xa (Wb (w3.alloc (.cells #[.slice (some ⟨P3,0,none⟩) (Ya l0).n p0,.slice (some ⟨C3,0,none⟩) 3 p1,.slice (some ⟨M3,0,none⟩) 2 p2,.slice (some ⟨S3,0,none⟩) 2 p3,.slice aA (Ya l0).said.length p4] 45)) w3.heap.size b3):=⟨by unfold Wb;rw [hx,← aD.out.rb]⟩;have HZX:Xa ((w3.alloc (.cells #[.slice (some ⟨P3,0,none⟩) (Ya l0).n p0,.slice (some ⟨C3,0,none⟩) 3 p1,.slice (some ⟨M3,0,none⟩) 2 p2,.slice (some ⟨S3,0,none⟩) 2 p3,.slice aA (Ya l0).said.length p4] 45)).heap[W.heap.size+1]?=some ZB):=⟨Zb ((HB3.out.block _ (Yt HZ0.out)).trans HZ0.out) _⟩;have HBW:Xa (Below W.heap.size W (w3.alloc (.cells #[.slice (some ⟨P3,0,none⟩) (Ya l0).n p0,.slice (some ⟨C3,0,none⟩) 3 p1,.slice (some ⟨M3,0,none⟩) 2 p2,.slice (some ⟨S3,0,none⟩) 2 p3,.slice aA (Ya l0).said.length p4] 45))):=⟨(HB0.out.trans (HB3.out.mono HB0.out.size)).trans (hbx.mono (nt_ HB0.out.size HB3.out.size))⟩;have HPV:Xa (b3.p=.slice (some ⟨P3,0,none⟩) (Ya l0).n p0):=⟨aD.out.p⟩;have HXZ:Xa (W.heap.size+2≤w3.heap.size):=⟨by have:=HB3.out.size;have:=aB.out;omega⟩;clear hx hbx aJ HB3 aD HA2 c0 c1 c2 c3 c4 HC;generalize w3.alloc (.cells #[.slice (some ⟨P3,0,none⟩) (Ya l0).n p0,.slice (some ⟨C3,0,none⟩) 3 p1,.slice (some ⟨M3,0,none⟩) 2 p2,.slice (some ⟨S3,0,none⟩) 2 p3,.slice aA (Ya l0).said.length p4] 45)=w4 at *;generalize w3.heap.size=x at *;obtain ⟨z,hz⟩:∃ z,z=W.heap.size+1:=⟨_,rfl⟩;have HZE:=Xa.mk hz;rw [← hz] at HAT HZX ⊢;clear hz;obtain ⟨hc0,_,_,_,_⟩:=HWX.out.cells;rw [HPV.out] at hc0;go_wp2;clear hc0;have HPW:Xa (W.heap.size≤P3):=⟨by have h1:=Uj (HAT.out.rows.at_ 0 _ rfl) P3 (by show b3.p.ownBlock=_;rw [HPV.out];rfl);have h2:=aB.out;omega⟩
 go_loopg [4] l0.length (fun kq v4 w'=>∃ (j:Nat) (b:BK),v4=.int .i64 (j:Int)∧Xa (kq+j=l0.length)∧Xa (At w' W0.heap.size (fun k=>ok k∧k≠z∧k≠x) b (Ya l0))∧Xa (b.p=.slice (some ⟨P3,0,none⟩) (Ya l0).n p0)∧Xa (Wb w' x b)∧Xa (w'.heap[z]?=some ZB)∧Xa (Below W.heap.size W w')∧Xa (∀ i,i<j→Kd.V KT 69 w' 0 (fun k=>(W.heap.size≤k∧k≠z)∧free (lay b (Ya l0)) k) (b.t i) ((Ya l0).proc i).todo))
 case atStart=>exact ⟨0,b3,rfl,⟨rfl⟩,HAT,HPV,HWX,HZX,HBW,⟨fun i hi=>absurd hi (Nat.not_lt_zero _)⟩⟩
 case round=>
  clear HAT HPV HWX HZX HBW;obtain ⟨j,b,rfl,HK,HAT,HPV,HWX,HZZ,HBW,HFR⟩:=hrel
  have hc0:wr.cell? ⟨x,0,none⟩=some (.slice (some ⟨P3,0,none⟩) (Ya l0).n p0):=by rw [← HPV.out];exact HWX.out.cells.1
  cases gk with
  |succ k1=>
   have hj:j<l0.length:=by have:=HK.out;omega
   have HJN:Xa (j<(Ya l0).n):=⟨by rw [HNN.out];exact hj⟩;have aG:Xa (0<(Ya l0).n):=⟨by have:=HJN.out;omega⟩;have hl2:=aO.out;have hnn:=HNN.out;have t1:decide ((j:Int)<((Ya l0).n:Int))=true:=dt_ om_;have t2:decide (j<(Ya l0).n)=true:=dt_ om_;have p0':=eq_true (show 0≤(j:Int) by omega);have q0':=eq_true (show (j:Int)<((Ya l0).n:Int) by omega)
   have hw2:wrap64 ((j:Int)+1)=(j:Int)+1:=by unfold wrap64;omega
   obtain ⟨l,hl⟩:∃ l,l=l0[j]:=⟨_,rfl⟩;have hp:=openS_proc l0 hj;rw [← hl] at hp;have HPE:Xa ((Ya l0).Yz j { (Ya l0).proc j with todo:=l } = Ya l0):=⟨by have:=setP_self (Ya l0) j;rw [show ((Ya l0).proc j).todo=l from by rw [hp];rfl] at this;exact this⟩;have ht:=HAT.out.tree j HJN.out;rw [hp] at ht;obtain ⟨Aq,ct,et⟩:=Kd.V_slice ht;rw [et] at ht;obtain ⟨_,hcl,hC⟩:=Kd.V_reads' ht;have hx1:=((HAT.out.Ye aG.out HPV.out).cell j 1 HJN.out om_).trans (show some (Yp b (Ya l0) j 1)=some (.slice Aq l.length ct) from by rw [show Yp b (Ya l0) j 1=b.t j from rfl,et];rfl);have HC:=Xa.mk (Kd.C_drew hC);have HCL:=Xa.mk hcl;obtain ⟨kc,hkc⟩:=(lcopy_is 4 l 4 (HSM.out l (by rw [hl];exact List.getElem_mem hj)) de_ de_).get;have HKC:=Xa.mk hkc;have n0:=Xa.mk (HAT.out.below (Xm (Below.refl _ _)));have n1:=Xa.mk (Yy HZZ.out);have n3:Xa (∀ i,i<j→Kd.V KT 69 wr.drew 0 (fun k=>(W.heap.size≤k∧k≠z)∧free (lay b (Ya l0)) k) (b.t i) ((Ya l0).proc i).todo):=⟨fun i hi=>Kd.V_drew (HFR.out i hi)⟩;have n2:=Xa.mk (HBW.out.trans ((Xm (Below.refl wr.heap.size wr)).mono HBW.out.size));have HZL:Xa (z<wr.drew.heap.size):=⟨Yt HZZ.out⟩;have HXL:Xa (x<wr.drew.heap.size):=⟨Yt HWX.out⟩;have HWL:Xa (W.heap.size≤wr.drew.heap.size):=⟨HBW.out.size⟩;have HSH:Xa (Wb wr.drew x b∧wr.drew.cell? ⟨P3,j * 5+1,none⟩=some (.slice Aq l.length ct)):=⟨⟨Yy HWX.out,hx1⟩⟩;clear HAT HZZ HBW HWX HFR ht et hcl hC hx1 hkc hp hl hj hl2 hnn;have HAT:=n0;have HZZ:=n1;have HBW:=n2;have HFR:=n3;clear n0 n1 n2 n3;go_upto_region 7 with (fail);clear hc0;refine start_ (n:=13) (S:=fun w'=>Wb w' x b∧w'.cell? ⟨P3,j * 5+1,none⟩=some (.slice Aq l.length ct)) (ds:=[12]) #[false,false,false,false,false,false,false,false,false,false,false,false,false] kr_ rfl rl1_ HSH.out (fun hHeld=>?_);generalize wr.drew=aU at *;refine pu_' 0 (some 19) ?_;refine pu_' 2 (some 21) ?_;refine pu_' 3 (some 22) ?_;refine pu_' 5 (some 24) ?_;refine tk_' 1 (some 20) rfl hHeld (by rintro w' s0;have c0:=(Xh s0.1 0).trans rfl;have c1:=s0.2;rw [HPV.out] at c0;clear s0;go_simp;with_reducible rfl) ?_;refine tk_' 4 (some 23) rfl hHeld (by rintro w' s0;have c0:=(Xh s0.1 0).trans rfl;have c1:=s0.2;rw [HPV.out] at c0;clear s0;go_simp;with_reducible rfl) ?_;refine pu_' 6 (some 25) ?_;refine pu_' 7 (some 26) ?_;refine tk_' 8 (some 27) rfl hHeld (by rintro w' s0;have c0:=(Xh s0.1 0).trans rfl;have c1:=s0.2;rw [HPV.out] at c0;clear s0;go_simp;with_reducible rfl) ?_;refine re_' 9 (some 28) fun K hK=>?_;refine goes_ Try.func72 kr_ rfl #[.slice Aq l.length ct,.int .i64 4] rl1_ rfl rfl ga_ ?_;refine (Yf.calls kc Aq ct l 4 l aU HC.out HCL.out HKC.out).mono ?_;rintro e wc ⟨vt,rfl,htt,hb⟩;refine ⟨_,rfl,?_⟩;obtain ⟨Ax,cx,ex⟩:=Kd.Zd htt;subst ex;have HTc:=Xa.mk htt;have HBc:=Xa.mk hb;have hx1:wc.cell? ⟨P3,j * 5+1,none⟩=some (.slice Aq l.length ct):=Xd hb HSH.out.2;have hf1:=((HAT.out.below hb).Ye aG.out HPV.out).free_ (j * 5+1);clear htt hb;refine hK.out _ _ ⟨Xu HSH.out.1 HBc.out,Xd HBc.out HSH.out.2⟩ (fun hHeld=>?_);clear hK K;refine no_ ?_;refine pu_' 10 (some 29) ?_;refine pu_' 11 (some 30) ?_;refine rl_' 12 none fun K hK=>?_;refine skip_ (w1:=wc.setCell ⟨P3,j * 5+1,none⟩ (.slice Ax l.length cx)) rfl rfl ?_ ?_
   ·first|(go_simp;done)|(go_simp;rfl)
   refine hK.out _ _ ?_;clear hK K;refine done_ kr_ ?_;have aK:=(HAT.out.below HBc.out).Ye aG.out HPV.out;have aL:Kd.V KT 69 wc W0.heap.size (fun k=>(ok k∧k≠z∧k≠x)∧free (lay b (Ya l0)) k) (.slice Ax l.length cx) l:=Kd.Yx (Kd.R_V (Kd.R_bound HTc.out)) (fun k hk=>⟨⟨HUP.out k (by have:=hk.2.1;have:=HWL.out;omega),by have:=hk.2.1;have:=HZL.out;omega,by have:=hk.2.1;have:=HXL.out;omega⟩,fun i r hr e=>by have:=(HAT.out.rows.at_ i r hr).lt k e;have:=hk.2.1;omega⟩);have FIN:=At.todo (HAT.out.below HBc.out) (fun k hk=>⟨HUP.out k (by have:=HBc.out.size;have:=HWL.out;omega),by have:=HBc.out.size;have:=HZL.out;omega,by have:=HBc.out.size;have:=HXL.out;omega⟩) HJN.out (.slice Ax l.length cx) l aK aL;have aC:b.p=(.slice (some ⟨P3,0,none⟩) (Ya l0).n p0):=HPV.out;have hpx:P3≠x:=fun e=>(HAT.out.rows.ok_ 0 _ rfl P3 (by show b.p.ownBlock=_;rw [aC];rfl)).2.2 e;have hpz:P3≠z:=fun e=>(HAT.out.rows.ok_ 0 _ rfl P3 (by show b.p.ownBlock=_;rw [aC];rfl)).2.1 e;have aM:Xa (At (wc.setCell ⟨P3,j * 5+1,none⟩ (.slice Ax l.length cx)) W0.heap.size (fun k=>ok k∧k≠z∧k≠x) { b with t:=up b.t j (.slice Ax l.length cx) } (Ya l0)):=⟨by have:=FIN.1;rw [HPE.out] at this;exact this⟩;have aP:Xa (Wb (wc.setCell ⟨P3,j * 5+1,none⟩ (.slice Ax l.length cx)) x { b with t:=up b.t j (.slice Ax l.length cx) }):=⟨(Below.heap_setCell _ _ _ x (fun e=>hpx e.symm)).trans (Xu HSH.out.1 HBc.out)⟩;have aQ:Xa ((wc.setCell ⟨P3,j * 5+1,none⟩ (.slice Ax l.length cx)).heap[z]?=some ZB):=⟨(Below.heap_setCell _ _ _ z (fun e=>hpz e.symm)).trans (Xu HZZ.out HBc.out)⟩;have aN:Xa (Below W.heap.size W (wc.setCell ⟨P3,j * 5+1,none⟩ (.slice Ax l.length cx))):=⟨Below.setCell (HBW.out.trans (HBc.out.mono HBW.out.size)) HPW.out _⟩
   have aF:Xa (∀ i,i<(j+1)→Kd.V KT 69 (wc.setCell ⟨P3,j * 5+1,none⟩ (.slice Ax l.length cx)) 0 (fun k=>(W.heap.size≤k∧k≠z)∧free (lay ({ b with t:=up b.t j (.slice Ax l.length cx) }:BK) (Ya l0)) k) (({ b with t:=up b.t j (.slice Ax l.length cx) }:BK).t i) ((Ya l0).proc i).todo):=⟨fun i hi=>by
     by_cases e:i=j
     ·subst e
      have e1:(Ya l0).proc i = { (Ya l0).proc i with todo:=l }:=by have:=congrArg (fun s=>s.proc i) HPE.out;exact this.symm.trans (Yw _ _ _)
      rw [e1];show Kd.V KT _ _ 0 _ (up b.t i _ i) l
      unfold up;rw [if_pos rfl];exact Kd.V_far (p:=⟨P3,i * 5+1,none⟩) (Kd.Yx (Kd.R_V (Kd.R_bound HTc.out)) (fun k hk=>(⟨⟨by have:=hk.2.1;have:=HWL.out;omega,by have:=hk.2.1;have:=HZL.out;omega⟩,free_up (fun q r hr e=>by have:=(HAT.out.rows.at_ q r hr).lt k e;have:=hk.2.1;omega)⟩:_∧_))) (fun k hk e=>hk.2 0 _ rfl (by show b.p.ownBlock=_;rw [aC,e];rfl)) _
     ·show Kd.V KT _ _ 0 _ (up b.t j _ i) _
      unfold up;rw [if_neg e];exact Kd.Yx (Kd.V_far (p:=⟨P3,j * 5+1,none⟩) (Kd.V_below (HFR.out i om_) HBc.out) (fun k hk e=>hk.2 0 _ rfl (by show b.p.ownBlock=_;rw [aC,e];rfl)) _) (fun k hk=>⟨hk.1,free_up hk.2⟩)⟩
   clear FIN aK aL hpx hpz aC hx1 hf1;generalize wc.setCell ⟨P3,j * 5+1,none⟩ (.slice Ax l.length cx)=w9 at *;go_wp2;go_roundg k1
   case measure=>omega
   case rel=>exact ⟨j+1,{ b with t:=up b.t j (.slice Ax l.length cx) },(by first|rfl|(simp;exact hw2)),⟨by have:=HK.out;omega⟩,aM,⟨HPV.out⟩,aP,aQ,aN,aF⟩
  |zero=>
   have hj:j=l0.length:=by have:=HK.out;omega
   subst hj;clear HK;have hnn:=HNN.out;have t1:decide ((l0.length:Int)<((Ya l0).n:Int))=false:=df_ om_;have t2:decide (l0.length<(Ya l0).n)=false:=df_ om_;obtain ⟨bp,bc,bm,bs,bd,aS,aT,aR⟩:=b;obtain ⟨P1,q1,e1⟩:∃ A c,bc=.slice A 3 c:=Yn (HAT.out.rows.at_ 1 _ rfl);obtain ⟨P2,q2,e2⟩:∃ A c,bm=.slice A 2 c:=Yn (HAT.out.rows.at_ 2 _ rfl);obtain ⟨P4,q3,e3⟩:∃ A c,bs=.slice A 2 c:=Yn (HAT.out.rows.at_ 3 _ rfl);obtain ⟨P5,q4,e4⟩:∃ A c,bd=.slice A (Ya l0).said.length c:=Yn (HAT.out.rows.at_ 4 _ rfl);have e0:bp=.slice (some ⟨P3,0,none⟩) (Ya l0).n p0:=HPV.out;subst e0 e1 e2 e3 e4;obtain ⟨w0,w1,w2,w3',w4'⟩:=HWX.out.cells;obtain ⟨z0,z1,z2,z3,z4⟩:=ZB.cells HZZ.out;have f0:=Xc HZZ.out 0;have f1:=Xc HZZ.out 1;have f2:=Xc HZZ.out 2;have f3:=Xc HZZ.out 3;have f4:=Xc HZZ.out 4;have NB:z≠x:=(by have:=HXZ.out;have:=HZE.out;omega);have NB2:x≠z:=fun e=>NB e.symm;clear hnn;go_wp2
   (try simp only [Exit.inBlock,Exit.then])
   have hfin:=Yb (Yb (Yb (Yb (Yb HZZ.out 0 (.slice (some ⟨P3,0,none⟩) (Ya l0).n p0)) 1 (.slice P1 3 q1)) 2 (.slice P2 2 q2)) 3 (.slice P4 2 q3)) 4 (.slice P5 (Ya l0).said.length q4);refine bodyPost_ret (results_cell_row rfl _ _ z 45 #[.slice (some ⟨P3,0,none⟩) (Ya l0).n p0,.slice P1 3 q1,.slice P2 2 q2,.slice P4 2 q3,.slice P5 (Ya l0).said.length q4] (0,0) _ rfl hfin Try.underlying45 rfl kr_) rfl ?_
   have hfar:∀ k,k≠z→(((((wr.setCell ⟨z,0,none⟩ (.slice (some ⟨P3,0,none⟩) (Ya l0).n p0)).setCell ⟨z,1,none⟩ (.slice P1 3 q1)).setCell ⟨z,2,none⟩ (.slice P2 2 q2)).setCell ⟨z,3,none⟩ (.slice P4 2 q3)).setCell ⟨z,4,none⟩ (.slice P5 (Ya l0).said.length q4)).heap[k]?=wr.heap[k]?:=fun k hk=>by
    rw [Below.heap_setCell _ _ _ k hk,Below.heap_setCell _ _ _ k hk,Below.heap_setCell _ _ _ k hk,Below.heap_setCell _ _ _ k hk,Below.heap_setCell _ _ _ k hk]
   have hZL:W.heap.size≤z:=(by have:=HZE.out;omega);have aH:=HAT.out.step (fun k hk _=>hfar k hk.2.1);refine ⟨⟨.slice (some ⟨P3,0,none⟩) (Ya l0).n p0,.slice P1 3 q1,.slice P2 2 q2,.slice P4 2 q3,.slice P5 (Ya l0).said.length q4,aS,aT,aR⟩,rfl,⟨(aH.rows.ge.lower (by have:=aB.out;omega)).mono (fun k hk=>by have:=aB.out;have:=hk.2.1;omega),fun i hi=>Kd.Yx (Kd.V_step (HFR.out i (by have:=HNN.out;omega)) (fun k hk _=>hfar k hk.1.2)) (fun k hk=>⟨hk.1.1,hk.2⟩),fun k o ho=>by rw [HNO.out] at ho;cases ho⟩,?_⟩;exact Below.setCell (p:=⟨z,4,none⟩) (Below.setCell (p:=⟨z,3,none⟩) (Below.setCell (p:=⟨z,2,none⟩) (Below.setCell (p:=⟨z,1,none⟩) (Below.setCell (p:=⟨z,0,none⟩) HBW.out hZL _) hZL _) hZL _) hZL _) hZL _
end Go.Proofs.Ytlhogkfmdnpmkaa.Mean
