/- Part of a proof. -/
import Derived.Test.YtedcppikakinoaaGreatProg
import Derived.Ground.Names2Prog
import Derived.Shelf.Slices.In.SortNone
import Derived.Shelf.Small.Strs
import Derived.Shelf.Sort.Plain
import Derived.Shelf.Strings.OnBuilder
set_option linter.unusedSimpArgs false
set_option linter.unusedVariables false
set_option maxRecDepth 100000
namespace Go.Proofs
open Go.Shelf
def Tryz.lays156_ren:Go.Shelf.Ren:=⟨fun|156=>320|165=>322|166=>323|169=>324|240=>325|241=>326|276=>327|277=>328|n=>n,fun|31=>82|9=>9|3=>3|4=>4|0=>0|20=>20|72=>371|76=>374|70=>369|37=>27|75=>373|127=>377|164=>378|5=>5|80=>376|n=>n,fun|n=>n⟩
theorem Tryz.lays156:Go.Proofs.Lays.n156 Tryz.prog Tryz.lays156_ren:={
 mixed:=by kernel_rfl
 f156:=Tryz.func320.trans (congrArg some (by kernel_rfl))
 f165:=Tryz.func322.trans (congrArg some (by kernel_rfl))
 f166:=Tryz.func323.trans (congrArg some (by kernel_rfl))
 f169:=Tryz.func324.trans (congrArg some (by kernel_rfl))
 f240:=Tryz.func325.trans (congrArg some (by kernel_rfl))
 f241:=Tryz.func326.trans (congrArg some (by kernel_rfl))
 f276:=Tryz.func327.trans (congrArg some (by kernel_rfl))
 f277:=Tryz.func328.trans (congrArg some (by kernel_rfl))
 t0:=Tryz.underlying0
 a0:=Tryz.isAgg0
 z0:=Tryz.sizeOf0
 v0:=Tryz.zeroValue0
 t3:=Tryz.underlying3
 a3:=Tryz.isAgg3
 z3:=Tryz.sizeOf3
 v3:=Tryz.zeroValue3
 t4:=Tryz.underlying4
 a4:=Tryz.isAgg4
 z4:=Tryz.sizeOf4
 v4:=Tryz.zeroValue4
 t9:=Tryz.underlying9
 a9:=Tryz.isAgg9
 z9:=Tryz.sizeOf9
 v9:=Tryz.zeroValue9
 t20:=Tryz.underlying20
 a20:=Tryz.isAgg20
 z20:=Tryz.sizeOf20
 v20:=Tryz.zeroValue20
 t31:=Tryz.underlying82
 a31:=Tryz.isAgg82
 z31:=Tryz.sizeOf82
 v31:=Tryz.zeroValue82
 t37:=Tryz.underlying27
 a37:=Tryz.isAgg27
 z37:=Tryz.sizeOf27
 v37:=Tryz.zeroValue27
 t70:=Tryz.underlying369
 a70:=Tryz.isAgg369
 z70:=Tryz.sizeOf369
 v70:=Tryz.zeroValue369
 t72:=Tryz.underlying371
 a72:=Tryz.isAgg371
 z72:=Tryz.sizeOf371
 v72:=Tryz.zeroValue371
 t75:=Tryz.underlying373
 a75:=Tryz.isAgg373
 z75:=Tryz.sizeOf373
 v75:=Tryz.zeroValue373
 t76:=Tryz.underlying374
 a76:=Tryz.isAgg374
 z76:=Tryz.sizeOf374
 v76:=Tryz.zeroValue374
 t127:=Tryz.underlying377
 a127:=Tryz.isAgg377
 z127:=Tryz.sizeOf377
 v127:=Tryz.zeroValue377
 t164:=Tryz.underlying378
 a164:=Tryz.isAgg378
 z164:=Tryz.sizeOf378
 v164:=Tryz.zeroValue378}
theorem Tryz.Builder_Extra_156:Builder.Extra Tryz.prog Tryz.lays156_ren:={
 sizeBuilder:=by kernel_rfl
 liesBuilder:=by kernel_rfl
 t5:=Tryz.underlying5
 a5:=Tryz.isAgg5
 z5:=Tryz.sizeOf5
 v5:=Tryz.zeroValue5
 infoByte:=by kernel_rfl
 cellsByte:=by kernel_rfl
 sizeByte:=by kernel_rfl
 neB5:=by decide}
open Go.RowKit in
theorem Tryz.strings_Join_none (a:Option Addr) (c:Nat) (o:ByteArray) (w:World):
  Calls Tryz.prog 320 #[.slice a 0 c,.string o] w λe w'=>e=.returned (.string ⟨#[]⟩)/\w'=w:=Any.strings_Join_none Tryz.lays156 Tryz.Builder_Extra_156 a c o w
open Go.RowKit in
theorem Tryz.strings_Join (o u c:Nat) (xs:List ByteArray) (r:ByteArray) (w:World) (H:∀(j:Nat) x,xs[j]? =some x->w.cell? ⟨o,u+j,none⟩=some (.string x)) (B:o<w.heap.size) (A:xs.length<=140737488355328) (E:xs.length<=c) (J:(Lib.join (xs.map (·.data.toList)) r.data.toList).length<=140737488355328):
  Calls Tryz.prog 320 #[.slice (some ⟨o,u,none⟩) xs.length c,.string r] w λe w'=>e=.returned (.string ⟨(Lib.join (xs.map (·.data.toList)) r.data.toList).toArray⟩)/\Below w.heap.size w w':=Any.strings_Join Tryz.lays156 Tryz.Builder_Extra_156 o u c xs r w H B A E J
def Tryz.aFP:Go.Shelf.Ren:=⟨fun|106=>88|213=>148|265=>218|n=>n,fun|9=>9|3=>3|n=>n,fun|n=>n⟩
theorem Tryz.Z5:Go.Proofs.Lays.n106 Tryz.prog Tryz.aFP:={
 mixed:=by kernel_rfl
 f106:=Tryz.func88.trans (congrArg some (by kernel_rfl))
 f213:=Tryz.func148.trans (congrArg some (by kernel_rfl))
 f265:=Tryz.func218.trans (congrArg some (by kernel_rfl))
 t3:=Tryz.underlying3
 a3:=Tryz.isAgg3
 z3:=Tryz.sizeOf3
 v3:=Tryz.zeroValue3
 t9:=Tryz.underlying9
 a9:=Tryz.isAgg9
 z9:=Tryz.sizeOf9
 v9:=Tryz.zeroValue9}
open Go.RowKit in
theorem Tryz.strings_Compare (a b:ByteArray) (w:World):
  Calls Tryz.prog 88 #[.string a,.string b] w λe w'=>e=.returned (.int .i64 (Lib.compareBytes a.data.toList b.data.toList))/\w'=w:=Any.strings_Compare Tryz.Z5 a b w
def Tryz.aCJ:Go.Shelf.Ren:=⟨fun|189=>82|125=>139|257=>142|128=>197|129=>198|294=>200|295=>201|296=>202|297=>203|298=>204|299=>205|216=>206|300=>207|301=>208|328=>249|329=>245|330=>246|331=>250|332=>251|215=>199|343=>292|n=>n,fun|28=>70|3=>3|46=>215|0=>0|51=>274|53=>116|4=>4|183=>268|182=>267|131=>249|5=>5|9=>9|218=>307|222=>311|228=>348|229=>330|n=>n,fun|n=>n⟩
theorem Tryz.lays189:Go.Proofs.Lays.n189 Tryz.prog Tryz.aCJ:={
 mixed:=by kernel_rfl
 f125:=Tryz.func139.trans (congrArg some (by kernel_rfl))
 f128:=Tryz.func197.trans (congrArg some (by kernel_rfl))
 f129:=Tryz.func198.trans (congrArg some (by kernel_rfl))
 f189:=Tryz.func82.trans (congrArg some (by kernel_rfl))
 f215:=Tryz.func199.trans (congrArg some (by kernel_rfl))
 f216:=Tryz.func206.trans (congrArg some (by kernel_rfl))
 f257:=Tryz.func142.trans (congrArg some (by kernel_rfl))
 f294:=Tryz.func200.trans (congrArg some (by kernel_rfl))
 f295:=Tryz.func201.trans (congrArg some (by kernel_rfl))
 f296:=Tryz.func202.trans (congrArg some (by kernel_rfl))
 f297:=Tryz.func203.trans (congrArg some (by kernel_rfl))
 f298:=Tryz.func204.trans (congrArg some (by kernel_rfl))
 f299:=Tryz.func205.trans (congrArg some (by kernel_rfl))
 f300:=Tryz.func207.trans (congrArg some (by kernel_rfl))
 f301:=Tryz.func208.trans (congrArg some (by kernel_rfl))
 f328:=Tryz.func249.trans (congrArg some (by kernel_rfl))
 f329:=Tryz.func245.trans (congrArg some (by kernel_rfl))
 f330:=Tryz.func246.trans (congrArg some (by kernel_rfl))
 f331:=Tryz.func250.trans (congrArg some (by kernel_rfl))
 f332:=Tryz.func251.trans (congrArg some (by kernel_rfl))
 f343:=Tryz.func292.trans (congrArg some (by kernel_rfl))
 t0:=Tryz.underlying0
 a0:=Tryz.isAgg0
 z0:=Tryz.sizeOf0
 v0:=Tryz.zeroValue0
 t3:=Tryz.underlying3
 a3:=Tryz.isAgg3
 z3:=Tryz.sizeOf3
 v3:=Tryz.zeroValue3
 t4:=Tryz.underlying4
 a4:=Tryz.isAgg4
 z4:=Tryz.sizeOf4
 v4:=Tryz.zeroValue4
 t5:=Tryz.underlying5
 a5:=Tryz.isAgg5
 z5:=Tryz.sizeOf5
 v5:=Tryz.zeroValue5
 t9:=Tryz.underlying9
 a9:=Tryz.isAgg9
 z9:=Tryz.sizeOf9
 v9:=Tryz.zeroValue9
 t28:=Tryz.underlying70
 a28:=Tryz.isAgg70
 z28:=Tryz.sizeOf70
 v28:=Tryz.zeroValue70
 t46:=Tryz.underlying215
 a46:=Tryz.isAgg215
 z46:=Tryz.sizeOf215
 v46:=Tryz.zeroValue215
 t51:=Tryz.underlying274
 a51:=Tryz.isAgg274
 z51:=Tryz.sizeOf274
 v51:=Tryz.zeroValue274
 t53:=Tryz.underlying116
 a53:=Tryz.isAgg116
 z53:=Tryz.sizeOf116
 v53:=Tryz.zeroValue116
 t131:=Tryz.underlying249
 a131:=Tryz.isAgg249
 z131:=Tryz.sizeOf249
 v131:=Tryz.zeroValue249
 t182:=Tryz.underlying267
 a182:=Tryz.isAgg267
 z182:=Tryz.sizeOf267
 v182:=Tryz.zeroValue267
 t183:=Tryz.underlying268
 a183:=Tryz.isAgg268
 z183:=Tryz.sizeOf268
 v183:=Tryz.zeroValue268
 t218:=Tryz.underlying307
 a218:=Tryz.isAgg307
 z218:=Tryz.sizeOf307
 v218:=Tryz.zeroValue307
 t222:=Tryz.underlying311
 a222:=Tryz.isAgg311
 z222:=Tryz.sizeOf311
 v222:=Tryz.zeroValue311
 t228:=Tryz.underlying348
 a228:=Tryz.isAgg348
 z228:=Tryz.sizeOf348
 v228:=Tryz.zeroValue348
 t229:=Tryz.underlying330
 a229:=Tryz.isAgg330
 z229:=Tryz.sizeOf330
 v229:=Tryz.zeroValue330}
open Go.Sort Go.RowKit in
theorem Tryz.slices_Sort_int (o off cap:Nat) (r:List Int) (w:World) (u:Holds (Value.int .i64) w o off r.toArray) (A:o<w.heap.size) (B:r.length<4611686018427387904):
  Calls Tryz.prog 82 #[.slice (some ⟨o,off,none⟩) r.length cap] w λe w'=>
   e=.returned (.tuple #[])/\∃n os,w'=grow (putRow (Value.int .i64) (Sort.ahead w n) o off (r.mergeSort λx y=>decide (x<=y)).toArray) os:=Any.slices_Sort_int Tryz.lays189 o off cap r w u A B
open Go.RowKit Go.Sort in
theorem Tryz.slices_Sort_int_none (p:Option Addr) (cap:Nat) (w:World):
  Calls Tryz.prog 82 #[.slice p 0 cap] w λe w'=>e=.returned (.tuple #[])/\w'=w:=Any.slices_Sort_int_none Tryz.lays189 p cap w
end Go.Proofs
