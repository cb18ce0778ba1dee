import Derived.Shelf.Strings.OnBuilder
import Derived.Test.YteidofmblfglkaaProg
set_option linter.unusedVariables false
set_option linter.unusedSimpArgs false
namespace Go.Proofs
open Go.Shelf
def Try.lays156_ren:Go.Shelf.Ren:=⟨fun|156=>55|165=>85|166=>86|169=>87|240=>104|241=>105|276=>119|277=>120|n=>n,fun|31=>24|9=>9|3=>3|4=>4|0=>0|20=>20|72=>94|76=>98|70=>92|37=>22|75=>97|127=>113|164=>119|5=>5|80=>100|n=>n,fun|n=>n⟩
theorem Try.lays156:Go.Proofs.Lays.n156 Try.prog Try.lays156_ren:= {
 mixed:=by kernel_rfl
 f156:=Try.func55.trans (congrArg some (by kernel_rfl))
 f165:=Try.func85.trans (congrArg some (by kernel_rfl))
 f166:=Try.func86.trans (congrArg some (by kernel_rfl))
 f169:=Try.func87.trans (congrArg some (by kernel_rfl))
 f240:=Try.func104.trans (congrArg some (by kernel_rfl))
 f241:=Try.func105.trans (congrArg some (by kernel_rfl))
 f276:=Try.func119.trans (congrArg some (by kernel_rfl))
 f277:=Try.func120.trans (congrArg some (by kernel_rfl))
 t0:=Try.underlying0
 a0:=Try.isAgg0
 z0:=Try.sizeOf0
 v0:=Try.zeroValue0
 t3:=Try.underlying3
 a3:=Try.isAgg3
 z3:=Try.sizeOf3
 v3:=Try.zeroValue3
 t4:=Try.underlying4
 a4:=Try.isAgg4
 z4:=Try.sizeOf4
 v4:=Try.zeroValue4
 t9:=Try.underlying9
 a9:=Try.isAgg9
 z9:=Try.sizeOf9
 v9:=Try.zeroValue9
 t20:=Try.underlying20
 a20:=Try.isAgg20
 z20:=Try.sizeOf20
 v20:=Try.zeroValue20
 t31:=Try.underlying24
 a31:=Try.isAgg24
 z31:=Try.sizeOf24
 v31:=Try.zeroValue24
 t37:=Try.underlying22
 a37:=Try.isAgg22
 z37:=Try.sizeOf22
 v37:=Try.zeroValue22
 t70:=Try.underlying92
 a70:=Try.isAgg92
 z70:=Try.sizeOf92
 v70:=Try.zeroValue92
 t72:=Try.underlying94
 a72:=Try.isAgg94
 z72:=Try.sizeOf94
 v72:=Try.zeroValue94
 t75:=Try.underlying97
 a75:=Try.isAgg97
 z75:=Try.sizeOf97
 v75:=Try.zeroValue97
 t76:=Try.underlying98
 a76:=Try.isAgg98
 z76:=Try.sizeOf98
 v76:=Try.zeroValue98
 t127:=Try.underlying113
 a127:=Try.isAgg113
 z127:=Try.sizeOf113
 v127:=Try.zeroValue113
 t164:=Try.underlying119
 a164:=Try.isAgg119
 z164:=Try.sizeOf119
 v164:=Try.zeroValue119}
theorem Try.Builder_Extra_156:Builder.Extra Try.prog Try.lays156_ren:= {
 t5:=Try.underlying5
 a5:=Try.isAgg5
 z5:=Try.sizeOf5
 v5:=Try.zeroValue5
 sizeBuilder:=by kernel_rfl
 liesBuilder:=by kernel_rfl
 infoByte:=by kernel_rfl
 cellsByte:=by kernel_rfl
 sizeByte:=by kernel_rfl
 neB5:=by decide}
open Go.RowKit in
theorem Try.strings_Join_none(a:Option Addr)(c:Nat)(sep:ByteArray)(w:World):
  Calls Try.prog 55 #[.slice a 0 c,.string sep] w fun e w'=>e= .returned (.string ⟨#[]⟩)∧w'=w:=Any.strings_Join_none Try.lays156 Try.Builder_Extra_156 a c sep w
open Go.RowKit in
theorem Try.strings_Join(bk o c:Nat)(xs:List ByteArray)(sep:ByteArray)(w:World)(hcells:∀(j:Nat) x,xs[j]? =some x->w.cell? ⟨bk,o+j,none⟩=some (.string x))(hbk:bk<w.heap.size)(hN:xs.length<=140737488355328)(hcap:xs.length<=c)(hlen:(Lib.join (xs.map (·.data.toList)) sep.data.toList).length<=140737488355328):
  Calls Try.prog 55 #[.slice (some ⟨bk,o,none⟩) xs.length c,.string sep] w fun e w'=>e= .returned (.string ⟨(Lib.join (xs.map (·.data.toList)) sep.data.toList).toArray⟩)∧Below w.heap.size w w':=Any.strings_Join Try.lays156 Try.Builder_Extra_156 bk o c xs sep w hcells hbk hN hcap hlen
end Go.Proofs
