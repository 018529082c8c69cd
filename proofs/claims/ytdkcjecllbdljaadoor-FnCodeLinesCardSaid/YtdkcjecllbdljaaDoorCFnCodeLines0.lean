import Derived.Test.YtdkcjecllbdljaaDoorProg
import Derived.Shelf.Strings.OnBuilder
import Derived.Shelf.Strconv.Itoa3
import Derived.Lib.AppendIntMem
namespace Go.Proofs.YtdkcjecllbdljaaDoor.Shelf2
open Go.RowKit Go.Shelf
set_option linter.unusedVariables false
def joinRen:Go.Shelf.Ren:=⟨fun|156=>26|165=>41|166=>42|169=>43|240=>52|241=>53|276=>64|277=>65|n=>n,fun|31=>47|9=>9|3=>3|4=>4|0=>0|20=>20|72=>74|76=>78|70=>72|37=>29|75=>77|127=>91|164=>107|5=>5|80=>42|n=>n,fun|n=>n⟩
set_option maxRecDepth 100000 in
theorem joinLays:Go.Proofs.Lays.n156 Tryd.prog joinRen where
  mixed:=by kernel_rfl
  f156:=Tryd.func26.trans (congrArg some (by kernel_rfl))
  f165:=Tryd.func41.trans (congrArg some (by kernel_rfl))
  f166:=Tryd.func42.trans (congrArg some (by kernel_rfl))
  f169:=Tryd.func43.trans (congrArg some (by kernel_rfl))
  f240:=Tryd.func52.trans (congrArg some (by kernel_rfl))
  f241:=Tryd.func53.trans (congrArg some (by kernel_rfl))
  f276:=Tryd.func64.trans (congrArg some (by kernel_rfl))
  f277:=Tryd.func65.trans (congrArg some (by kernel_rfl))
  t0:=Tryd.underlying0
  a0:=Tryd.isAgg0
  z0:=Tryd.sizeOf0
  v0:=Tryd.zeroValue0
  t3:=Tryd.underlying3
  a3:=Tryd.isAgg3
  z3:=Tryd.sizeOf3
  v3:=Tryd.zeroValue3
  t4:=Tryd.underlying4
  a4:=Tryd.isAgg4
  z4:=Tryd.sizeOf4
  v4:=Tryd.zeroValue4
  t9:=Tryd.underlying9
  a9:=Tryd.isAgg9
  z9:=Tryd.sizeOf9
  v9:=Tryd.zeroValue9
  t20:=Tryd.underlying20
  a20:=Tryd.isAgg20
  z20:=Tryd.sizeOf20
  v20:=Tryd.zeroValue20
  t31:=Tryd.underlying47
  a31:=Tryd.isAgg47
  z31:=Tryd.sizeOf47
  v31:=Tryd.zeroValue47
  t37:=Tryd.underlying29
  a37:=Tryd.isAgg29
  z37:=Tryd.sizeOf29
  v37:=Tryd.zeroValue29
  t70:=Tryd.underlying72
  a70:=Tryd.isAgg72
  z70:=Tryd.sizeOf72
  v70:=Tryd.zeroValue72
  t72:=Tryd.underlying74
  a72:=Tryd.isAgg74
  z72:=Tryd.sizeOf74
  v72:=Tryd.zeroValue74
  t75:=Tryd.underlying77
  a75:=Tryd.isAgg77
  z75:=Tryd.sizeOf77
  v75:=Tryd.zeroValue77
  t76:=Tryd.underlying78
  a76:=Tryd.isAgg78
  z76:=Tryd.sizeOf78
  v76:=Tryd.zeroValue78
  t127:=Tryd.underlying91
  a127:=Tryd.isAgg91
  z127:=Tryd.sizeOf91
  v127:=Tryd.zeroValue91
  t164:=Tryd.underlying107
  a164:=Tryd.isAgg107
  z164:=Tryd.sizeOf107
  v164:=Tryd.zeroValue107
def itoaRen:Go.Shelf.Ren:=⟨fun|171=>25|243=>40|246=>51|283=>60|284=>61|285=>62|286=>63|129=>68|317=>67|318=>69|319=>70|320=>71|337=>72|338=>73|n=>n,fun|3=>3|9=>9|2=>2|4=>4|171=>102|0=>0|53=>99|37=>29|5=>5|173=>105|212=>112|51=>96|20=>20|213=>113|46=>87|232=>116|233=>117|n=>n,fun|17=>0|18=>2|19=>3|n=>n⟩
set_option maxRecDepth 100000 in
theorem itoaLays:Go.Proofs.LaysM.n171 Tryd.prog itoaRen where
  mixed:=by kernel_rfl
  f129:=Tryd.func68.trans (congrArg some (by kernel_rfl))
  f171:=Tryd.func25.trans (congrArg some (by kernel_rfl))
  f243:=Tryd.func40.trans (congrArg some (by kernel_rfl))
  f246:=Tryd.func51.trans (congrArg some (by kernel_rfl))
  f283:=Tryd.func60.trans (congrArg some (by kernel_rfl))
  f284:=Tryd.func61.trans (congrArg some (by kernel_rfl))
  f285:=Tryd.func62.trans (congrArg some (by kernel_rfl))
  f286:=Tryd.func63.trans (congrArg some (by kernel_rfl))
  f317:=Tryd.func67.trans (congrArg some (by kernel_rfl))
  f318:=Tryd.func69.trans (congrArg some (by kernel_rfl))
  f319:=Tryd.func70.trans (congrArg some (by kernel_rfl))
  f320:=Tryd.func71.trans (congrArg some (by kernel_rfl))
  f337:=Tryd.func72.trans (congrArg some (by kernel_rfl))
  f338:=Tryd.func73.trans (congrArg some (by kernel_rfl))
  t0:=Tryd.underlying0
  a0:=Tryd.isAgg0
  z0:=Tryd.sizeOf0
  v0:=Tryd.zeroValue0
  t2:=Tryd.underlying2
  a2:=Tryd.isAgg2
  z2:=Tryd.sizeOf2
  v2:=Tryd.zeroValue2
  t3:=Tryd.underlying3
  a3:=Tryd.isAgg3
  z3:=Tryd.sizeOf3
  v3:=Tryd.zeroValue3
  t4:=Tryd.underlying4
  a4:=Tryd.isAgg4
  z4:=Tryd.sizeOf4
  v4:=Tryd.zeroValue4
  t5:=Tryd.underlying5
  a5:=Tryd.isAgg5
  z5:=Tryd.sizeOf5
  v5:=Tryd.zeroValue5
  t9:=Tryd.underlying9
  a9:=Tryd.isAgg9
  z9:=Tryd.sizeOf9
  v9:=Tryd.zeroValue9
  t20:=Tryd.underlying20
  a20:=Tryd.isAgg20
  z20:=Tryd.sizeOf20
  v20:=Tryd.zeroValue20
  t37:=Tryd.underlying29
  a37:=Tryd.isAgg29
  z37:=Tryd.sizeOf29
  v37:=Tryd.zeroValue29
  t46:=Tryd.underlying87
  a46:=Tryd.isAgg87
  z46:=Tryd.sizeOf87
  v46:=Tryd.zeroValue87
  t51:=Tryd.underlying96
  a51:=Tryd.isAgg96
  z51:=Tryd.sizeOf96
  v51:=Tryd.zeroValue96
  t53:=Tryd.underlying99
  a53:=Tryd.isAgg99
  z53:=Tryd.sizeOf99
  v53:=Tryd.zeroValue99
  t171:=Tryd.underlying102
  a171:=Tryd.isAgg102
  z171:=Tryd.sizeOf102
  v171:=Tryd.zeroValue102
  t173:=Tryd.underlying105
  a173:=Tryd.isAgg105
  z173:=Tryd.sizeOf105
  v173:=Tryd.zeroValue105
  t212:=Tryd.underlying112
  a212:=Tryd.isAgg112
  z212:=Tryd.sizeOf112
  v212:=Tryd.zeroValue112
  t213:=Tryd.underlying113
  a213:=Tryd.isAgg113
  z213:=Tryd.sizeOf113
  t232:=Tryd.underlying116
  a232:=Tryd.isAgg116
  z232:=Tryd.sizeOf116
  v232:=Tryd.zeroValue116
  t233:=Tryd.underlying117
  a233:=Tryd.isAgg117
  z233:=Tryd.sizeOf117
  v233:=Tryd.zeroValue117
  g17:=by kernel_rfl
  g18:=by kernel_rfl
  g19:=by kernel_rfl
  i0:=by kernel_rfl
  i2:=by kernel_rfl
  i3:=by kernel_rfl
  i4:=by kernel_rfl
  i5:=by kernel_rfl
  i9:=by kernel_rfl
  i20:=by kernel_rfl
  i37:=by kernel_rfl
  i46:=by kernel_rfl
  i51:=by kernel_rfl
  i53:=by kernel_rfl
  i171:=by kernel_rfl
  i173:=by kernel_rfl
  i212:=by kernel_rfl
  i232:=by kernel_rfl
  i233:=by kernel_rfl
  m17:=by kernel_rfl
  m18:=by kernel_rfl
  m19:=by kernel_rfl
theorem joinExtra:Builder.Extra Tryd.prog joinRen where
  sizeBuilder:=by kernel_rfl
  liesBuilder:=by kernel_rfl
  t5:=Tryd.underlying5
  a5:=Tryd.isAgg5
  z5:=Tryd.sizeOf5
  v5:=Tryd.zeroValue5
  infoByte:=by kernel_rfl
  cellsByte:=by kernel_rfl
  sizeByte:=by kernel_rfl
  neB5:=by decide
def Tab (w:World):Prop:=Lib.TabIs Tryd.prog w "internal/strconv.uint64pow10" .u64 Lib.pow10Tab
theorem Tab.below {w W:World} (h:Tab w) (hb:Below w.heap.size w W):Tab W:=by
  unfold Tab Lib.TabIs World.var? at *
  cases hg:Tryd.prog.globalNamed "internal/strconv.uint64pow10" with
  |none=>rw [hg] at h;cases h
  |some g=>
    rw [hg] at h
    simp only [Option.bind_some] at h ⊢
    cases hw:w.heap[g]? with
    |none=>rw [hw] at h;cases h
    |some o=>
      have hl:=(Array.getElem?_eq_some_iff.1 hw).1
      rw [hb.block g hl]
      exact h
def itoaB (n:Int):ByteArray:=⟨(Lib.itoa n).toArray⟩
def in64 (n:Int):Bool:=decide (-9223372036854775808≤n) && decide (n≤9223372036854775807)
theorem in64_is {n:Int} (h:in64 n=true):-9223372036854775808≤n∧n≤9223372036854775807:=by
  unfold in64 at h
  simpa using h
def joinB (l:List ByteArray) (s:ByteArray):ByteArray:=⟨(Lib.join (l.map (·.data.toList)) s.data.toList).toArray⟩
theorem itoa_calls (n:Int) (h:in64 n=true) (w:World) (ht:Tab w):Calls Tryd.prog 25 #[.int .i64 n] w fun e w'=>e=.returned (.string (itoaB n))∧Below w.heap.size w w':=by
  have hn:=in64_is h
  refine (Any.strconv_Itoa itoaLays n hn.1 hn.2 w ht).mono ?_
  rintro e w' ⟨rfl,k,os,rfl⟩
  exact ⟨rfl,Lib.below_grow _ _ (Nat.le_refl _) _ _⟩
theorem join_calls (A0:Option Addr) (c0:Nat) (l0:List ByteArray) (s:ByteArray) (w:World) (hc0:l0.length≤c0) (hl:l0.length≤1000)
    (hcell:0<l0.length→∃ ad,A0=some ad∧∀ (j:Nat) x,l0[j]?=some x→w.cell? (ad.add j)=some (.string x))
    (hlen:(Lib.join (l0.map (·.data.toList)) s.data.toList).length≤140737488355328) :
    Calls Tryd.prog 26 #[.slice A0 l0.length c0,.string s] w fun e w'=>e=.returned (.string (joinB l0 s))∧Below w.heap.size w w':=by
  match l0,hc0,hl,hcell,hlen with
  |[],_,_,_,_=>exact (Any.strings_Join_none joinLays joinExtra A0 c0 s w).mono fun e w' ⟨he,hw⟩=>⟨he,hw ▸ Below.refl _ _⟩
  |x :: r,hc0,hl,hcell,hlen=>
    obtain ⟨⟨b,o,spot⟩,rfl,hk⟩:=hcell (by simp)
    have hx:=hk 0 x rfl
    have hs:spot=none:=by simpa [Addr.add] using World.cell?_spot hx
    subst hs
    have hk':∀ (j:Nat) y,(x :: r)[j]?=some y→w.cell? ⟨b,o+j,none⟩=some (.string y):=fun j y hy=>by rw [← Go.WideShapes.add_plain];exact hk j y hy
    have hb:b<w.heap.size:=by
      have:=hk' 0 x rfl
      unfold World.cell? at this
      cases hh:w.heap[b]? with
      |none=>simp [hh] at this
      |some _=>exact (Array.getElem?_eq_some_iff.1 hh).1
    exact (Any.strings_Join joinLays joinExtra b o c0 (x :: r) s w hk' hb (by omega) hc0 hlen)
end Go.Proofs.YtdkcjecllbdljaaDoor.Shelf2
