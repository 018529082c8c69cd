import Derived.Test.YtpcfebhpapdkcaaDoorProg
import Derived.Shelf.Strings.OnBuilder
import Derived.Shelf.Strconv.Itoa3
import Derived.Lib.AppendIntMem
namespace Go.Proofs.YtpcfebhpapdkcaaDoor.Shelf2
open Go.RowKit Go.Shelf
set_option linter.unusedVariables false
def joinRen:Go.Shelf.Ren:=⟨fun|156=>35|165=>40|166=>41|169=>42|240=>45|241=>46|276=>51|277=>52|n=>n,fun|31=>73|9=>9|3=>3|4=>4|0=>0|20=>20|72=>82|76=>86|70=>80|37=>71|75=>85|127=>91|164=>98|5=>5|80=>88|n=>n,fun|n=>n⟩
set_option maxRecDepth 100000 in
theorem joinLays:Go.Proofs.Lays.n156 Tryd.prog joinRen where
  mixed:=by kernel_rfl
  f156:=Tryd.func35.trans (congrArg some (by kernel_rfl))
  f165:=Tryd.func40.trans (congrArg some (by kernel_rfl))
  f166:=Tryd.func41.trans (congrArg some (by kernel_rfl))
  f169:=Tryd.func42.trans (congrArg some (by kernel_rfl))
  f240:=Tryd.func45.trans (congrArg some (by kernel_rfl))
  f241:=Tryd.func46.trans (congrArg some (by kernel_rfl))
  f276:=Tryd.func51.trans (congrArg some (by kernel_rfl))
  f277:=Tryd.func52.trans (congrArg some (by kernel_rfl))
  t0:=Tryd.underlying0
  a0:=Tryd.isAgg0
  z0:=Tryd.sizeOf0
  v0:=Tryd.zeroValue0
  t3:=Tryd.underlying3
  a3:=Tryd.isAgg3
  z3:=Tryd.sizeOf3
  v3:=Tryd.zeroValue3
  t4:=Tryd.underlying4
  a4:=Tryd.isAgg4
  z4:=Tryd.sizeOf4
  v4:=Tryd.zeroValue4
  t9:=Tryd.underlying9
  a9:=Tryd.isAgg9
  z9:=Tryd.sizeOf9
  v9:=Tryd.zeroValue9
  t20:=Tryd.underlying20
  a20:=Tryd.isAgg20
  z20:=Tryd.sizeOf20
  v20:=Tryd.zeroValue20
  t31:=Tryd.underlying73
  a31:=Tryd.isAgg73
  z31:=Tryd.sizeOf73
  v31:=Tryd.zeroValue73
  t37:=Tryd.underlying71
  a37:=Tryd.isAgg71
  z37:=Tryd.sizeOf71
  v37:=Tryd.zeroValue71
  t70:=Tryd.underlying80
  a70:=Tryd.isAgg80
  z70:=Tryd.sizeOf80
  v70:=Tryd.zeroValue80
  t72:=Tryd.underlying82
  a72:=Tryd.isAgg82
  z72:=Tryd.sizeOf82
  v72:=Tryd.zeroValue82
  t75:=Tryd.underlying85
  a75:=Tryd.isAgg85
  z75:=Tryd.sizeOf85
  v75:=Tryd.zeroValue85
  t76:=Tryd.underlying86
  a76:=Tryd.isAgg86
  z76:=Tryd.sizeOf86
  v76:=Tryd.zeroValue86
  t127:=Tryd.underlying91
  a127:=Tryd.isAgg91
  z127:=Tryd.sizeOf91
  v127:=Tryd.zeroValue91
  t164:=Tryd.underlying98
  a164:=Tryd.isAgg98
  z164:=Tryd.sizeOf98
  v164:=Tryd.zeroValue98
def itoaRen:Go.Shelf.Ren:=⟨fun|171=>34|243=>39|246=>44|283=>47|284=>48|285=>49|286=>50|129=>54|317=>53|318=>55|319=>56|320=>57|337=>58|338=>59|n=>n,fun|3=>3|9=>9|2=>2|4=>4|171=>92|0=>0|53=>93|37=>71|5=>5|173=>96|212=>103|51=>104|20=>20|213=>105|46=>107|232=>110|233=>111|n=>n,fun|17=>0|18=>2|19=>3|n=>n⟩
set_option maxRecDepth 100000 in
theorem itoaLays:Go.Proofs.LaysM.n171 Tryd.prog itoaRen where
  mixed:=by kernel_rfl
  f129:=Tryd.func54.trans (congrArg some (by kernel_rfl))
  f171:=Tryd.func34.trans (congrArg some (by kernel_rfl))
  f243:=Tryd.func39.trans (congrArg some (by kernel_rfl))
  f246:=Tryd.func44.trans (congrArg some (by kernel_rfl))
  f283:=Tryd.func47.trans (congrArg some (by kernel_rfl))
  f284:=Tryd.func48.trans (congrArg some (by kernel_rfl))
  f285:=Tryd.func49.trans (congrArg some (by kernel_rfl))
  f286:=Tryd.func50.trans (congrArg some (by kernel_rfl))
  f317:=Tryd.func53.trans (congrArg some (by kernel_rfl))
  f318:=Tryd.func55.trans (congrArg some (by kernel_rfl))
  f319:=Tryd.func56.trans (congrArg some (by kernel_rfl))
  f320:=Tryd.func57.trans (congrArg some (by kernel_rfl))
  f337:=Tryd.func58.trans (congrArg some (by kernel_rfl))
  f338:=Tryd.func59.trans (congrArg some (by kernel_rfl))
  t0:=Tryd.underlying0
  a0:=Tryd.isAgg0
  z0:=Tryd.sizeOf0
  v0:=Tryd.zeroValue0
  t2:=Tryd.underlying2
  a2:=Tryd.isAgg2
  z2:=Tryd.sizeOf2
  v2:=Tryd.zeroValue2
  t3:=Tryd.underlying3
  a3:=Tryd.isAgg3
  z3:=Tryd.sizeOf3
  v3:=Tryd.zeroValue3
  t4:=Tryd.underlying4
  a4:=Tryd.isAgg4
  z4:=Tryd.sizeOf4
  v4:=Tryd.zeroValue4
  t5:=Tryd.underlying5
  a5:=Tryd.isAgg5
  z5:=Tryd.sizeOf5
  v5:=Tryd.zeroValue5
  t9:=Tryd.underlying9
  a9:=Tryd.isAgg9
  z9:=Tryd.sizeOf9
  v9:=Tryd.zeroValue9
  t20:=Tryd.underlying20
  a20:=Tryd.isAgg20
  z20:=Tryd.sizeOf20
  v20:=Tryd.zeroValue20
  t37:=Tryd.underlying71
  a37:=Tryd.isAgg71
  z37:=Tryd.sizeOf71
  v37:=Tryd.zeroValue71
  t46:=Tryd.underlying107
  a46:=Tryd.isAgg107
  z46:=Tryd.sizeOf107
  v46:=Tryd.zeroValue107
  t51:=Tryd.underlying104
  a51:=Tryd.isAgg104
  z51:=Tryd.sizeOf104
  v51:=Tryd.zeroValue104
  t53:=Tryd.underlying93
  a53:=Tryd.isAgg93
  z53:=Tryd.sizeOf93
  v53:=Tryd.zeroValue93
  t171:=Tryd.underlying92
  a171:=Tryd.isAgg92
  z171:=Tryd.sizeOf92
  v171:=Tryd.zeroValue92
  t173:=Tryd.underlying96
  a173:=Tryd.isAgg96
  z173:=Tryd.sizeOf96
  v173:=Tryd.zeroValue96
  t212:=Tryd.underlying103
  a212:=Tryd.isAgg103
  z212:=Tryd.sizeOf103
  v212:=Tryd.zeroValue103
  t213:=Tryd.underlying105
  a213:=Tryd.isAgg105
  z213:=Tryd.sizeOf105
  t232:=Tryd.underlying110
  a232:=Tryd.isAgg110
  z232:=Tryd.sizeOf110
  v232:=Tryd.zeroValue110
  t233:=Tryd.underlying111
  a233:=Tryd.isAgg111
  z233:=Tryd.sizeOf111
  v233:=Tryd.zeroValue111
  g17:=by kernel_rfl
  g18:=by kernel_rfl
  g19:=by kernel_rfl
  i0:=by kernel_rfl
  i2:=by kernel_rfl
  i3:=by kernel_rfl
  i4:=by kernel_rfl
  i5:=by kernel_rfl
  i9:=by kernel_rfl
  i20:=by kernel_rfl
  i37:=by kernel_rfl
  i46:=by kernel_rfl
  i51:=by kernel_rfl
  i53:=by kernel_rfl
  i171:=by kernel_rfl
  i173:=by kernel_rfl
  i212:=by kernel_rfl
  i232:=by kernel_rfl
  i233:=by kernel_rfl
  m17:=by kernel_rfl
  m18:=by kernel_rfl
  m19:=by kernel_rfl
theorem joinExtra:Builder.Extra Tryd.prog joinRen where
  sizeBuilder:=by kernel_rfl
  liesBuilder:=by kernel_rfl
  t5:=Tryd.underlying5
  a5:=Tryd.isAgg5
  z5:=Tryd.sizeOf5
  v5:=Tryd.zeroValue5
  infoByte:=by kernel_rfl
  cellsByte:=by kernel_rfl
  sizeByte:=by kernel_rfl
  neB5:=by decide
def Tab (w:World):Prop:=Lib.TabIs Tryd.prog w "internal/strconv.uint64pow10" .u64 Lib.pow10Tab
theorem Tab.below {w W:World} (h:Tab w) (hb:Below w.heap.size w W):Tab W:=by
  unfold Tab Lib.TabIs World.var? at *
  cases hg:Tryd.prog.globalNamed "internal/strconv.uint64pow10" with
  |none=>rw [hg] at h;cases h
  |some g=>
    rw [hg] at h
    simp only [Option.bind_some] at h ⊢
    cases hw:w.heap[g]? with
    |none=>rw [hw] at h;cases h
    |some o=>
      have hl:=(Array.getElem?_eq_some_iff.1 hw).1
      rw [hb.block g hl]
      exact h
def itoaB (n:Int):ByteArray:=⟨(Lib.itoa n).toArray⟩
def in64 (n:Int):Bool:=decide (-9223372036854775808≤n) && decide (n≤9223372036854775807)
theorem in64_is {n:Int} (h:in64 n=true):-9223372036854775808≤n∧n≤9223372036854775807:=by
  unfold in64 at h
  simpa using h
def joinB (l:List ByteArray) (s:ByteArray):ByteArray:=⟨(Lib.join (l.map (·.data.toList)) s.data.toList).toArray⟩
theorem itoa_calls (n:Int) (h:in64 n=true) (w:World) (ht:Tab w):Calls Tryd.prog 34 #[.int .i64 n] w fun e w'=>e=.returned (.string (itoaB n))∧Below w.heap.size w w':=by
  have hn:=in64_is h
  refine (Any.strconv_Itoa itoaLays n hn.1 hn.2 w ht).mono ?_
  rintro e w' ⟨rfl,k,os,rfl⟩
  exact ⟨rfl,Lib.below_grow _ _ (Nat.le_refl _) _ _⟩
theorem join_calls (A0:Option Addr) (c0:Nat) (l0:List ByteArray) (s:ByteArray) (w:World) (hc0:l0.length≤c0) (hl:l0.length≤140737488355328)
    (hcell:0<l0.length→∃ ad,A0=some ad∧∀ (j:Nat) x,l0[j]?=some x→w.cell? (ad.add j)=some (.string x))
    (hlen:(Lib.join (l0.map (·.data.toList)) s.data.toList).length≤140737488355328) :
    Calls Tryd.prog 35 #[.slice A0 l0.length c0,.string s] w fun e w'=>e=.returned (.string (joinB l0 s))∧Below w.heap.size w w':=by
  match l0,hc0,hl,hcell,hlen with
  |[],_,_,_,_=>exact (Any.strings_Join_none joinLays joinExtra A0 c0 s w).mono fun e w' ⟨he,hw⟩=>⟨he,hw ▸ Below.refl _ _⟩
  |x :: r,hc0,hl,hcell,hlen=>
    obtain ⟨⟨b,o,spot⟩,rfl,hk⟩:=hcell (by simp)
    have hx:=hk 0 x rfl
    have hs:spot=none:=by simpa [Addr.add] using World.cell?_spot hx
    subst hs
    have hk':∀ (j:Nat) y,(x :: r)[j]?=some y→w.cell? ⟨b,o+j,none⟩=some (.string y):=fun j y hy=>by rw [← Go.WideShapes.add_plain];exact hk j y hy
    have hb:b<w.heap.size:=by
      have:=hk' 0 x rfl
      unfold World.cell? at this
      cases hh:w.heap[b]? with
      |none=>simp [hh] at this
      |some _=>exact (Array.getElem?_eq_some_iff.1 hh).1
    exact (Any.strings_Join joinLays joinExtra b o c0 (x :: r) s w hk' hb (by omega) hc0 hlen)
end Go.Proofs.YtpcfebhpapdkcaaDoor.Shelf2
