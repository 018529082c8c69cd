import Derived.Test.YtokajnfbiddpjaaCFnSlimSome21
import Derived.Test.YtokajnfbiddpjaaCFnSlimSome34
import Derived.Test.YtokajnfbiddpjaaCFnSlimSome35
import Derived.Test.YtokajnfbiddpjaaCFnSlimSome31
import Derived.Test.YtokajnfbiddpjaaProg
import Derived.WalkSpells
import Derived.Laws.EntriesVeiled
set_option maxHeartbeats 8000000
set_option maxRecDepth 100000
namespace Go.Proofs.Ytokajnfbiddpjaa.GSlim
open Go.RowKit Go.Proofs.YtokajnfbiddpjaaW.PrintWords Go.Proofs.YtokajnfbiddpjaaW.PrintLast Go.Proofs.YtokajnfbiddpjaaW.PrintMore
attribute [local go_sem] Zx Zz Ul Um Zl Zm Zy Ua
set_option linter.unusedVariables false
set_option linter.unusedSimpArgs false
def impl_CodeOf.f (l0:List (S63)):Option ((List (S31))):=(impl_StmtsOk.f l0).bind fun aB=>(if aB=true then ((impl_codeOf.f l0).bind fun aA=>(some aA)) else (some ([]:List (S31))))
theorem impl_CodeOf.calls (A0:Option Addr) (c0:Nat) (l0:List (S63)) (r:List (S31)) (w:World) (hr0:Kd.C k63 w A0 l0.length l0) (hc0:l0.length≤c0) (h:impl_CodeOf.f l0=some r) :
  Calls Try.prog 6 #[.slice A0 l0.length c0] w fun e w'=>∃ aI:Value,e=.returned (aI)∧Kd.R k31 31 w' w.heap.size (fun _=>True) aI r∧Below w.heap.size w w':=by
 have aF:=Xa.mk hr0;have aD:=Xa.mk hc0;clear hr0 hc0;have HB:=Xa.mk (Below.refl w.heap.size w);have H:((impl_StmtsOk.f l0).bind fun aB=>(if aB=true then ((impl_codeOf.f l0).bind fun aA=>(some aA)) else (some ([]:List (S31)))))=some r:=h;clear h;replace H:=Option.bind_eq_some_iff.mp H;obtain ⟨aB,aG,H⟩:=H;replace H:(if aB=true then ((impl_codeOf.f l0).bind fun aA=>(some aA)) else (some ([]:List (S31))))=some r:=H;have A2:=Xa.mk aG;clear aG;by_cases c3:aB=true
 ·subst c3
  replace H:((impl_codeOf.f l0).bind fun aA=>(some aA))=some r:=(by rw [if_pos rfl] at H;exact H);replace H:=Option.bind_eq_some_iff.mp H;obtain ⟨aA,aH,H⟩:=H;replace H:(some aA)=some r:=H;have A4:=Xa.mk aH;clear aH;obtain rfl:=Option.some.inj H
  go_enter Try.func6,Try.ntmps6
  go_wp2_with (first|((with_reducible refine Xh (f:=14) rfl ?_);refine Ye (some 4) rfl rfl Try.func14 (by kernel_rfl) rfl #[.slice A0 l0.length c0] rfl ga_ ?_;(with_reducible refine (impl_StmtsOk.calls _ _ l0 true _ ?side1 ?side2 A2.out).mono ?_);(case side1=>exact Kd.ca_ aF.out);(case side2=>exact aD.out);rintro e w5 ⟨rfl,hb⟩;refine ⟨_,rfl,?_⟩;replace HB:=Xa.mk (Xe (bl_ HB) hb);clear hb)|((with_reducible refine Xh (f:=15) rfl ?_);refine Ye (some 7) rfl rfl Try.func15 (by kernel_rfl) rfl #[.slice A0 l0.length c0] rfl ga_ ?_;(with_reducible refine (impl_codeOf.calls _ _ l0 aA _ ?side1 ?side2 A4.out).mono ?_);(case side1=>exact Kd.ca_ (Kd.Ze aF.out HB.out));(case side2=>exact aD.out);rintro e w6 ⟨v294,rfl,ho0,hb⟩;refine ⟨_,rfl,?_⟩;have aC:=Xa.mk (Kd.Yi ho0 (Xd (bl_ HB)));replace HB:=Xa.mk (Xe (bl_ HB) hb);clear hb ho0))
  go_ret
  exact ⟨_,rf_,Kd.ra_ (aC.out),bl_ HB⟩
 ·replace c3:=Bool.eq_false_iff.mpr c3;subst c3
  replace H:(some ([]:List (S31)))=some r:=(by rw [if_neg (show ¬ (false=true) by decide)] at H;exact H);obtain rfl:=Option.some.inj H
  go_enter Try.func6,Try.ntmps6
  go_wp2_with (first|((with_reducible refine Xh (f:=14) rfl ?_);refine Ye (some 4) rfl rfl Try.func14 (by kernel_rfl) rfl #[.slice A0 l0.length c0] rfl ga_ ?_;(with_reducible refine (impl_StmtsOk.calls _ _ l0 false _ ?side1 ?side2 A2.out).mono ?_);(case side1=>exact Kd.ca_ aF.out);(case side2=>exact aD.out);rintro e w7 ⟨rfl,hb⟩;refine ⟨_,rfl,?_⟩;replace HB:=Xa.mk (Xe (bl_ HB) hb);clear hb))
  go_ret
  exact ⟨_,rf_,by first|exact Kd.R_nil _ _ _ _ _|exact Kd.N_nil _ _ _ _ _|exact Kd.V_nil _ _ _ _ _|exact Kd.Q_nil _ _ _ _ _|exact Kd.S_nil _ _ _ _ _,bl_ HB⟩
end Go.Proofs.Ytokajnfbiddpjaa.GSlim
namespace Go.Proofs.Ytokajnfbiddpjaa.HForms
open Go.RowKit Go.Proofs.Ytokajnfbiddpjaa.HMap
set_option linter.unusedVariables false
set_option linter.unusedSimpArgs false
def sNum:ByteArray:=⟨#[110,117,109]⟩
def sDo:ByteArray:=⟨#[100,111]⟩
def sLoad:ByteArray:=⟨#[108,111,97,100]⟩
def sStore:ByteArray:=⟨#[115,116,111,114,101]⟩
def sSay:ByteArray:=⟨#[115,97,121]⟩
def sSkip:ByteArray:=⟨#[115,107,105,112]⟩
def sJump:ByteArray:=⟨#[106,117,109,112]⟩
def sEnter:ByteArray:=⟨#[101,110,116,101,114]⟩
def sLeave:ByteArray:=⟨#[108,101,97,118,101]⟩
def sWait:ByteArray:=⟨#[119,97,105,116]⟩
def sSignal:ByteArray:=⟨#[115,105,103,110,97,108]⟩
def sYield:ByteArray:=⟨#[121,105,101,108,100]⟩
def sEnd:ByteArray:=⟨#[101,110,100]⟩
structure InsForm where
  word:ByteArray
  a:Int
  b:Int
  n:Bool
  index:Bool
def InsForm.val (f:InsForm):Value:=.agg #[.string f.word,.int .i64 f.a,.int .i64 f.b,.bool f.n,.bool f.index]
def insForms:List (Int × InsForm):=
  [(1,⟨sNum,3,0,true,false⟩),(2,⟨sDo,3,3,true,false⟩),(3,⟨sLoad,3,3,false,false⟩),(4,⟨sStore,3,3,false,false⟩),(5,⟨sSay,3,0,false,false⟩),
   (6,⟨sSkip,3,0,true,true⟩),(7,⟨sJump,0,0,true,true⟩),(8,⟨sEnter,2,0,false,false⟩),(9,⟨sLeave,2,0,false,false⟩),(10,⟨sWait,2,0,false,false⟩),
   (11,⟨sSignal,2,0,false,false⟩),(12,⟨sYield,0,0,false,false⟩),(13,⟨sEnd,0,0,false,false⟩)]
def insMap:List (Int × Value):=insForms.map (fun p=>(p.1,p.2.val))
def Zq (n limit:Int):Bool:=decide (n=0)||(decide (n > 0) && decide (n<limit))
def Zr (op n many:Int) (idx:Bool):Bool:=
  if idx=true then decide (0≤n) && decide (n<many) else if op=1 then decide (-999≤n) && decide (n≤999) else if op=2 then decide (1≤n) && decide (n≤5) else decide (n=0)
def Vv (op a b n many:Int):Bool:=
  match (insForms.find? (fun p=>p.1 == op)).map (·.2) with
  |some f=>Zq a f.a && (Zq b f.b && Zr op n many f.index)
  |none=>false
def noForm:InsForm:=⟨⟨#[]⟩,0,0,false,false⟩
def Xz (op:Int):Bool × InsForm:=match (insForms.find? (fun p=>p.1 == op)).map (·.2) with
  |some f=>(true,f)
  |none=>(false,noForm)
theorem at_insMap (op:Int):at_ insMap op=((insForms.find? (fun p=>p.1 == op)).map (·.2)).map InsForm.val:=by
  unfold at_ insMap
  generalize insForms=l
  induction l with
  |nil=>rfl
  |cons p l ih=>
    simp only [List.map_cons,List.find?_cons]
    cases p.1 == op with
    |true=>rfl
    |false=>exact ih
theorem look_is (op:Int):(at_ insMap op).isSome=(Xz op).1∧(at_ insMap op).getD noForm.val=(Xz op).2.val:=by
  rw [at_insMap]
  unfold Xz
  cases (insForms.find? (fun p=>p.1 == op)).map (·.2) <;> exact ⟨rfl,rfl⟩
theorem look_run {W:World} {b:Nat} (h:Uc W b insMap) (op:Int) :
    (Instr.lookup 68 (.map (some b)) (.int .i64 op) true).run Try.prog W =
      .ok (.tuple #[.agg #[.string (Xz op).2.word,.int .i64 (Xz op).2.a,.int .i64 (Xz op).2.b,.bool (Xz op).2.n,.bool (Xz op).2.index],.bool (Xz op).1]) W:=by
  have hz:(zeroValue 66).run Try.prog W=.ok noForm.val W:=by kernel_rfl
  rw [run_lookup_im Try.underlying68 Try.underlying3 h op true _ hz,(look_is op).1,(look_is op).2];rfl
theorem insForms_calls (w:World) :
    Calls Try.prog 44 #[] w fun e w'=>∃ b,e=.returned (.map (some b))∧Uc w' b insMap∧w.heap.size≤b∧Below w.heap.size w w':=by
  have hmm:=@run_makeMap Try.prog
  go_enter Try.func44,Try.ntmps44
  have hm0:=Uc.made w;have hB0:=(Below.refl w.heap.size w).alloc (Nat.le_refl _) (.map #[] 0);go_wp2_with (refine Vd rfl _ _ _ (.inr rfl) Try.underlying68 Try.underlying3 _ rfl rfl (by assumption) ?_;intro w1 hm1 hg1 hs1;clear hs1;have hB1:=Below.grown (by assumption) hg1 (Below.size (by assumption)) (fun k e=>by cases e;exact Nat.le_refl _);clear hg1 hm0 hB0;have hm0:=hm1;have hB0:=hB1;clear hm1 hB1)
  go_ret
  exact ⟨_,rfl,hm0,Nat.le_refl _,hB0⟩
end Go.Proofs.Ytokajnfbiddpjaa.HForms
