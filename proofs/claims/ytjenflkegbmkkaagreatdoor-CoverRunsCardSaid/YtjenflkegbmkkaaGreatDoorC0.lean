/- The functions of the program as Lean functions, and that the evaluator says so. -/
import Derived.Shelf.Strings.Builder1
import Derived.Shelf.Small.Bits
import Derived.Shelf.Small.Wraps
import Derived.Shelf.Strconv.Itoa0
import Derived.Shelf.Strconv.Itoa1
import Derived.Shelf.LaysM
import Derived.Shelf.Strconv.Itoa2
import Derived.Shelf.Strconv.Itoa3
import Derived.Shelf.Sort.Plain
import Derived.Ground.Names2Prog
import Derived.Shelf.Slices.SearchI
import Derived.Shelf.Slices.Delete
import Derived.Shelf.Slices.Cells
import Derived.Shelf.Slices.In.SortNone
import Derived.Shelf.Slices.Empties
import Derived.Ground.SlgnProg
import Derived.Shelf.SlicesE.Delete
import Derived.Shelf.SlicesE.Clone
import Derived.Shelf.SlSortCmp.WholeK
import Derived.Shelf.SlicesG.Cmp
import Derived.Ground.SlsfProg
import Derived.Ground.SlgcProg
import Derived.Ground.NamesProg
import Derived.Test.YtjenflkegbmkkaaGreatDoorProg
import Derived.WalkKit
import Derived.Test.YtjenflkegbmkkaaGreatDoorA6
import Derived.Lib.Walk
import Derived.Deep.RegionHeld3
import Derived.Shelf.SlSortCmp.NoneTotal
set_option linter.unusedVariables false
set_option linter.unusedSimpArgs false
set_option linter.unusedSectionVars false
open Bool renaming or_eq_true→Yh,and_eq_true→Va,and_eq_false_iff→Xs
open Go.Shelf renaming Ren→Ku
open List renaming replicate→Ca
open Option renaming map_eq_some_iff→ia
namespace Go.Proofs
open Go.Shelf
def Tryz.qG:Ku:=⟨fun|246=>103|283=>132|284=>133|285=>134|286=>135|129=>114|317=>144|318=>145|319=>146|320=>147|337=>150|338=>151|n=>n,fun|2=>2|3=>3|9=>9|4=>4|171=>170|0=>0|53=>156|37=>72|5=>5|173=>172|212=>184|51=>154|20=>20|213=>185|46=>130|232=>190|233=>191|n=>n,fun|17=>0|18=>1|19=>2|n=>n⟩
theorem Tryz.wV:Go.Proofs.LaysM.n246 Tryz.prog Tryz.qG:={
 mixed:=by kernel_rfl
 f129:=Tryz.func114.trans (congrArg some (by kernel_rfl))
 f246:=Tryz.func103.trans (congrArg some (by kernel_rfl))
 f283:=Tryz.func132.trans (congrArg some (by kernel_rfl))
 f284:=Tryz.func133.trans (congrArg some (by kernel_rfl))
 f285:=Tryz.func134.trans (congrArg some (by kernel_rfl))
 f286:=Tryz.func135.trans (congrArg some (by kernel_rfl))
 f317:=Tryz.func144.trans (congrArg some (by kernel_rfl))
 f318:=Tryz.func145.trans (congrArg some (by kernel_rfl))
 f319:=Tryz.func146.trans (congrArg some (by kernel_rfl))
 f320:=Tryz.func147.trans (congrArg some (by kernel_rfl))
 f337:=Tryz.func150.trans (congrArg some (by kernel_rfl))
 f338:=Tryz.func151.trans (congrArg some (by kernel_rfl))
 t0:=Tryz.underlying0
 a0:=Tryz.isAgg0
 z0:=Tryz.sizeOf0
 v0:=Tryz.zeroValue0
 t2:=Tryz.underlying2
 a2:=Tryz.isAgg2
 z2:=Tryz.sizeOf2
 v2:=Tryz.zeroValue2
 t3:=Tryz.underlying3
 a3:=Tryz.isAgg3
 z3:=Tryz.sizeOf3
 v3:=Tryz.zeroValue3
 t4:=Tryz.underlying4
 a4:=Tryz.isAgg4
 z4:=Tryz.sizeOf4
 v4:=Tryz.zeroValue4
 t5:=Tryz.underlying5
 a5:=Tryz.isAgg5
 z5:=Tryz.sizeOf5
 v5:=Tryz.zeroValue5
 t9:=Tryz.underlying9
 a9:=Tryz.isAgg9
 z9:=Tryz.sizeOf9
 v9:=Tryz.zeroValue9
 t20:=Tryz.underlying20
 a20:=Tryz.isAgg20
 z20:=Tryz.sizeOf20
 v20:=Tryz.zeroValue20
 t37:=Tryz.underlying72
 a37:=Tryz.isAgg72
 z37:=Tryz.sizeOf72
 v37:=Tryz.zeroValue72
 t46:=Tryz.underlying130
 a46:=Tryz.isAgg130
 z46:=Tryz.sizeOf130
 v46:=Tryz.zeroValue130
 t51:=Tryz.underlying154
 a51:=Tryz.isAgg154
 z51:=Tryz.sizeOf154
 v51:=Tryz.zeroValue154
 t53:=Tryz.underlying156
 a53:=Tryz.isAgg156
 z53:=Tryz.sizeOf156
 v53:=Tryz.zeroValue156
 t171:=Tryz.underlying170
 a171:=Tryz.isAgg170
 z171:=Tryz.sizeOf170
 v171:=Tryz.zeroValue170
 t173:=Tryz.underlying172
 a173:=Tryz.isAgg172
 z173:=Tryz.sizeOf172
 v173:=Tryz.zeroValue172
 t212:=Tryz.underlying184
 a212:=Tryz.isAgg184
 z212:=Tryz.sizeOf184
 v212:=Tryz.zeroValue184
 t213:=Tryz.underlying185
 a213:=Tryz.isAgg185
 z213:=Tryz.sizeOf185
 t232:=Tryz.underlying190
 a232:=Tryz.isAgg190
 z232:=Tryz.sizeOf190
 v232:=Tryz.zeroValue190
 t233:=Tryz.underlying191
 a233:=Tryz.isAgg191
 z233:=Tryz.sizeOf191
 v233:=Tryz.zeroValue191
 g17:=by kernel_rfl
 g18:=by kernel_rfl
 g19:=by kernel_rfl
 i0:=by kernel_rfl
 i2:=by kernel_rfl
 i3:=by kernel_rfl
 i4:=by kernel_rfl
 i5:=by kernel_rfl
 i9:=by kernel_rfl
 i20:=by kernel_rfl
 i37:=by kernel_rfl
 i46:=by kernel_rfl
 i51:=by kernel_rfl
 i53:=by kernel_rfl
 i171:=by kernel_rfl
 i173:=by kernel_rfl
 i212:=by kernel_rfl
 i232:=by kernel_rfl
 i233:=by kernel_rfl
 m17:=by kernel_rfl
 m18:=by kernel_rfl
 m19:=by kernel_rfl }
open Go.RowKit Go.Sort Go.Lib in
theorem Tryz.internal_strconv_FormatInt_10(n:Int)(h0: -9223372036854775808<=n)(h1:n<=9223372036854775807)(w:World) (Aaj:Lib.TabIs Tryz.prog w "internal/strconv.uint64pow10" .u64 Lib.pow10Tab):
 Calls Tryz.prog 103 #[.int .i64 n,.int .i64 10] w fun e w'=>e= .returned (.string ⟨(Lib.itoa n).toArray⟩)/\∃k os,w'=grow (w.drewN k) os:=Any.internal_strconv_FormatInt_10 Tryz.wV n h0 h1 w Aaj
def Tryz.ZI:Ku:=⟨fun|189=>46|125=>71|257=>70|128=>113|129=>114|294=>104|295=>105|296=>106|297=>107|298=>108|299=>109|216=>110|300=>111|301=>112|328=>136|329=>137|330=>138|331=>139|332=>140|215=>74|343=>148|n=>n,fun|28=>46|3=>3|46=>130|0=>0|51=>154|53=>156|4=>4|183=>148|182=>147|131=>119|5=>5|9=>9|218=>174|222=>178|228=>186|229=>187|n=>n,fun|n=>n⟩
theorem Tryz.XN:Go.Proofs.Lays.n189 Tryz.prog Tryz.ZI:={
 mixed:=by kernel_rfl
 f125:=Tryz.func71.trans (congrArg some (by kernel_rfl))
 f128:=Tryz.func113.trans (congrArg some (by kernel_rfl))
 f129:=Tryz.func114.trans (congrArg some (by kernel_rfl))
 f189:=Tryz.func46.trans (congrArg some (by kernel_rfl))
 f215:=Tryz.func74.trans (congrArg some (by kernel_rfl))
 f216:=Tryz.func110.trans (congrArg some (by kernel_rfl))
 f257:=Tryz.func70.trans (congrArg some (by kernel_rfl))
 f294:=Tryz.func104.trans (congrArg some (by kernel_rfl))
 f295:=Tryz.func105.trans (congrArg some (by kernel_rfl))
 f296:=Tryz.func106.trans (congrArg some (by kernel_rfl))
 f297:=Tryz.func107.trans (congrArg some (by kernel_rfl))
 f298:=Tryz.func108.trans (congrArg some (by kernel_rfl))
 f299:=Tryz.func109.trans (congrArg some (by kernel_rfl))
 f300:=Tryz.func111.trans (congrArg some (by kernel_rfl))
 f301:=Tryz.func112.trans (congrArg some (by kernel_rfl))
 f328:=Tryz.func136.trans (congrArg some (by kernel_rfl))
 f329:=Tryz.func137.trans (congrArg some (by kernel_rfl))
 f330:=Tryz.func138.trans (congrArg some (by kernel_rfl))
 f331:=Tryz.func139.trans (congrArg some (by kernel_rfl))
 f332:=Tryz.func140.trans (congrArg some (by kernel_rfl))
 f343:=Tryz.func148.trans (congrArg some (by kernel_rfl))
 t0:=Tryz.underlying0
 a0:=Tryz.isAgg0
 z0:=Tryz.sizeOf0
 v0:=Tryz.zeroValue0
 t3:=Tryz.underlying3
 a3:=Tryz.isAgg3
 z3:=Tryz.sizeOf3
 v3:=Tryz.zeroValue3
 t4:=Tryz.underlying4
 a4:=Tryz.isAgg4
 z4:=Tryz.sizeOf4
 v4:=Tryz.zeroValue4
 t5:=Tryz.underlying5
 a5:=Tryz.isAgg5
 z5:=Tryz.sizeOf5
 v5:=Tryz.zeroValue5
 t9:=Tryz.underlying9
 a9:=Tryz.isAgg9
 z9:=Tryz.sizeOf9
 v9:=Tryz.zeroValue9
 t28:=Tryz.underlying46
 a28:=Tryz.isAgg46
 z28:=Tryz.sizeOf46
 v28:=Tryz.zeroValue46
 t46:=Tryz.underlying130
 a46:=Tryz.isAgg130
 z46:=Tryz.sizeOf130
 v46:=Tryz.zeroValue130
 t51:=Tryz.underlying154
 a51:=Tryz.isAgg154
 z51:=Tryz.sizeOf154
 v51:=Tryz.zeroValue154
 t53:=Tryz.underlying156
 a53:=Tryz.isAgg156
 z53:=Tryz.sizeOf156
 v53:=Tryz.zeroValue156
 t131:=Tryz.underlying119
 a131:=Tryz.isAgg119
 z131:=Tryz.sizeOf119
 v131:=Tryz.zeroValue119
 t182:=Tryz.underlying147
 a182:=Tryz.isAgg147
 z182:=Tryz.sizeOf147
 v182:=Tryz.zeroValue147
 t183:=Tryz.underlying148
 a183:=Tryz.isAgg148
 z183:=Tryz.sizeOf148
 v183:=Tryz.zeroValue148
 t218:=Tryz.underlying174
 a218:=Tryz.isAgg174
 z218:=Tryz.sizeOf174
 v218:=Tryz.zeroValue174
 t222:=Tryz.underlying178
 a222:=Tryz.isAgg178
 z222:=Tryz.sizeOf178
 v222:=Tryz.zeroValue178
 t228:=Tryz.underlying186
 a228:=Tryz.isAgg186
 z228:=Tryz.sizeOf186
 v228:=Tryz.zeroValue186
 t229:=Tryz.underlying187
 a229:=Tryz.isAgg187
 z229:=Tryz.sizeOf187
 v229:=Tryz.zeroValue187 }
open Go.Sort Go.RowKit in
theorem Tryz.slices_Sort_int(Vc off cap:Nat)(zs:List Int)(w:World)(hH:Holds (Value.int .i64) w Vc off zs.toArray)(hblk:Vc<w.heap.size)(ue:zs.length<4611686018427387904):
 Calls Tryz.prog 46 #[.slice (some ⟨Vc,off,none⟩) zs.length cap] w fun e w'=>
  e= .returned (.tuple #[])/\∃n os,w'=grow (putRow (Value.int .i64) (Sort.ahead w n) Vc off (zs.mergeSort fun x y=>decide (x<=y)).toArray) os:=Any.slices_Sort_int Tryz.XN Vc off cap zs w hH hblk ue
def Tryz.dD:Ku:=⟨fun|23=>45|n=>n,fun|22=>46|3=>3|4=>4|0=>0|n=>n,fun|n=>n⟩
theorem Tryz.JE:Go.Proofs.Lays2.n23 Tryz.prog Tryz.dD:={
 mixed:=by kernel_rfl
 f23:=Tryz.func45.trans (congrArg some (by kernel_rfl))
 t0:=Tryz.underlying0
 a0:=Tryz.isAgg0
 z0:=Tryz.sizeOf0
 v0:=Tryz.zeroValue0
 t3:=Tryz.underlying3
 a3:=Tryz.isAgg3
 z3:=Tryz.sizeOf3
 v3:=Tryz.zeroValue3
 t4:=Tryz.underlying4
 a4:=Tryz.isAgg4
 z4:=Tryz.sizeOf4
 v4:=Tryz.zeroValue4
 t22:=Tryz.underlying46
 a22:=Tryz.isAgg46
 z22:=Tryz.sizeOf46
 v22:=Tryz.zeroValue46
 i3:=by kernel_rfl }
open Go.RowKit Go.Lib Go.Sort in
open Go.RowKit Go.Lib Go.Sort in
theorem Tryz.slices_Delete_int(Vc off cap i j:Nat)(zs:List Int)(w:World)(hH:Holds (Value.int .i64) w Vc off zs.toArray)(Ml:zs.length<=cap)(hm:cap<=9223372036854775807)(PC:i<=j)(hj:j<=zs.length):
 Calls Tryz.prog 45 #[.slice (some ⟨Vc,off,none⟩) zs.length cap,.int .i64 i,.int .i64 j] w fun e w'=>e= .returned (.slice (some ⟨Vc,off,none⟩) (zs.length-(j-i)) cap)/\∃q,w'=putRow (Value.int .i64) (Sort.ahead w q) Vc off (zs.take i++zs.drop j++Ca (j-i) 0).toArray:=Any.slices_Delete_int Tryz.JE Vc off cap i j zs w hH Ml hm PC hj
open Go.RowKit Go.Lib Go.Sort in
open Go.RowKit Go.Sort in
theorem Tryz.slices_Sort_int_none(p:Option Addr)(cap:Nat)(w:World):
 Calls Tryz.prog 46 #[.slice p 0 cap] w fun e w'=>e= .returned (.tuple #[])/\w'=w:=Any.slices_Sort_int_none Tryz.XN p cap w
open Go.RowKit Go.Lib in
theorem Tryz.slices_Delete_int_empty(a:Option Addr)(c:Nat)(w:World):
 Calls Tryz.prog 45 #[.slice a 0 c,.int .i64 0,.int .i64 0] w fun e w'=>e= .returned (.slice a 0 c)/\w'=w:=Any.slices_Delete_int_empty Tryz.JE a c w
def Tryz.VQ:Ku:=⟨fun|6=>51|15=>71|14=>73|28=>113|29=>114|20=>116|21=>117|22=>118|23=>119|24=>120|25=>121|26=>122|27=>123|46=>141|47=>137|48=>138|49=>142|50=>143|57=>149|n=>n,fun|22=>35|24=>59|25=>99|3=>3|39=>130|0=>0|53=>154|55=>156|4=>4|46=>148|45=>147|50=>119|5=>5|9=>9|66=>174|70=>178|76=>186|77=>187|n=>n,fun|n=>n⟩
theorem Tryz.Mh:Go.Proofs.SlLaysF0.n6 Tryz.prog Tryz.VQ:={
 mixed:=by kernel_rfl
 f6:=⟨Tryz.f51.name,by decide,Tryz.func51.trans (congrArg some (by kernel_rfl))⟩
 f14:=⟨Tryz.f73.name,by decide,Tryz.func73.trans (congrArg some (by kernel_rfl))⟩
 f15:=Tryz.func71.trans (congrArg some (by kernel_rfl))
 f20:=⟨Tryz.f116.name,by decide,Tryz.func116.trans (congrArg some (by kernel_rfl))⟩
 f21:=⟨Tryz.f117.name,by decide,Tryz.func117.trans (congrArg some (by kernel_rfl))⟩
 f22:=⟨Tryz.f118.name,by decide,Tryz.func118.trans (congrArg some (by kernel_rfl))⟩
 f23:=⟨Tryz.f119.name,by decide,Tryz.func119.trans (congrArg some (by kernel_rfl))⟩
 f24:=⟨Tryz.f120.name,by decide,Tryz.func120.trans (congrArg some (by kernel_rfl))⟩
 f25:=⟨Tryz.f121.name,by decide,Tryz.func121.trans (congrArg some (by kernel_rfl))⟩
 f26:=⟨Tryz.f122.name,by decide,Tryz.func122.trans (congrArg some (by kernel_rfl))⟩
 f27:=⟨Tryz.f123.name,by decide,Tryz.func123.trans (congrArg some (by kernel_rfl))⟩
 f28:=Tryz.func113.trans (congrArg some (by kernel_rfl))
 f29:=Tryz.func114.trans (congrArg some (by kernel_rfl))
 f46:=⟨Tryz.f141.name,by decide,Tryz.func141.trans (congrArg some (by kernel_rfl))⟩
 f47:=Tryz.func137.trans (congrArg some (by kernel_rfl))
 f48:=Tryz.func138.trans (congrArg some (by kernel_rfl))
 f49:=⟨Tryz.f142.name,by decide,Tryz.func142.trans (congrArg some (by kernel_rfl))⟩
 f50:=⟨Tryz.f143.name,by decide,Tryz.func143.trans (congrArg some (by kernel_rfl))⟩
 f57:=⟨Tryz.f149.name,by decide,Tryz.func149.trans (congrArg some (by kernel_rfl))⟩
 t0:=Tryz.underlying0
 a0:=Tryz.isAgg0
 z0:=Tryz.sizeOf0
 v0:=Tryz.zeroValue0
 t3:=Tryz.underlying3
 a3:=Tryz.isAgg3
 z3:=Tryz.sizeOf3
 v3:=Tryz.zeroValue3
 t4:=Tryz.underlying4
 a4:=Tryz.isAgg4
 z4:=Tryz.sizeOf4
 v4:=Tryz.zeroValue4
 t5:=Tryz.underlying5
 a5:=Tryz.isAgg5
 z5:=Tryz.sizeOf5
 v5:=Tryz.zeroValue5
 t9:=Tryz.underlying9
 a9:=Tryz.isAgg9
 z9:=Tryz.sizeOf9
 v9:=Tryz.zeroValue9
 t22:=Tryz.underlying35
 a22:=Tryz.isAgg35
 z22:=Tryz.sizeOf35
 v22:=Tryz.zeroValue35
 t25:=Tryz.underlying99
 a25:=Tryz.isAgg99
 z25:=Tryz.sizeOf99
 v25:=Tryz.zeroValue99
 t39:=Tryz.underlying130
 a39:=Tryz.isAgg130
 z39:=Tryz.sizeOf130
 v39:=Tryz.zeroValue130
 t45:=Tryz.underlying147
 a45:=Tryz.isAgg147
 z45:=Tryz.sizeOf147
 v45:=Tryz.zeroValue147
 t46:=Tryz.underlying148
 a46:=Tryz.isAgg148
 z46:=Tryz.sizeOf148
 v46:=Tryz.zeroValue148
 t50:=Tryz.underlying119
 a50:=Tryz.isAgg119
 z50:=Tryz.sizeOf119
 v50:=Tryz.zeroValue119
 t53:=Tryz.underlying154
 a53:=Tryz.isAgg154
 z53:=Tryz.sizeOf154
 v53:=Tryz.zeroValue154
 t55:=Tryz.underlying156
 a55:=Tryz.isAgg156
 z55:=Tryz.sizeOf156
 v55:=Tryz.zeroValue156
 t66:=Tryz.underlying174
 a66:=Tryz.isAgg174
 z66:=Tryz.sizeOf174
 v66:=Tryz.zeroValue174
 t70:=Tryz.underlying178
 a70:=Tryz.isAgg178
 z70:=Tryz.sizeOf178
 v70:=Tryz.zeroValue178
 t76:=Tryz.underlying186
 a76:=Tryz.isAgg186
 z76:=Tryz.sizeOf186
 v76:=Tryz.zeroValue186
 t77:=Tryz.underlying187
 a77:=Tryz.isAgg187
 z77:=Tryz.sizeOf187
 v77:=Tryz.zeroValue187 }
def Tryz.uN:Ku:=⟨fun|5=>54|7=>74|n=>n,fun|22=>3|3=>3|4=>4|n=>n,fun|n=>n⟩
theorem Tryz.Dad:Go.Proofs.SlLaysC2.n5 Tryz.prog Tryz.uN:={
 mixed:=by kernel_rfl
 f5:=⟨Tryz.f54.name,by decide,Tryz.func54.trans (congrArg some (by kernel_rfl))⟩
 f7:=⟨Tryz.f74.name,by decide,Tryz.func74.trans (congrArg some (by kernel_rfl))⟩
 t3:=Tryz.underlying3
 a3:=Tryz.isAgg3
 z3:=Tryz.sizeOf3
 v3:=Tryz.zeroValue3
 t4:=Tryz.underlying4
 a4:=Tryz.isAgg4
 z4:=Tryz.sizeOf4
 v4:=Tryz.zeroValue4
 t22:=Tryz.underlying3
 a22:=Tryz.isAgg3
 z22:=Tryz.sizeOf3
 v22:=Tryz.zeroValue3 }
end Go.Proofs
namespace Go.Proofs
open Go Go.RowKit Go.Shelf Go.Lib Go.Sort
set_option maxHeartbeats 1000000 in
set_option maxRecDepth 100000 in
theorem Tryz.aaj(a b:Int)(ha:(a != 0)=true)(Vc:Nat)(W:World)(h0:W.cell? ⟨Vc,0,none⟩=some (.int .i64 a))(h1:W.cell? ⟨Vc,1,none⟩=some (.int .i64 b)):
  Calls Tryz.prog 53 #[.slice (some ⟨Vc,0,none⟩) 2 2] W fun e w'=>e= .returned (.int .i64 a)/\w'=W:=by
 go_enter Tryz.func53,Tryz.ntmps53
 go_wp2
 refine wp_loop_rounds 1 ?_;rw[rounds_succ]
 go_wp2
 all_goals first|contradiction|(go_ret;exact⟨rfl,rfl⟩)
set_option maxHeartbeats 1000000 in
set_option maxRecDepth 100000 in
theorem Tryz.Yai(Vc:Nat)(W:World)(h0:W.cell? ⟨Vc,0,none⟩=some (.int .i64 0))(h1:W.cell? ⟨Vc,1,none⟩=some (.int .i64 0)):
  Calls Tryz.prog 53 #[.slice (some ⟨Vc,0,none⟩) 2 2] W fun e w'=>e= .returned (.int .i64 0)/\w'=W:=by
 go_enter Tryz.func53,Tryz.ntmps53
 go_wp2
 refine wp_loop_rounds 3 ?_;rw[rounds_succ]
 go_wp2
 rw[rounds_succ]
 go_wp2
 rw[rounds_succ]
 go_wp2
 go_ret
 exact⟨rfl,rfl⟩
set_option maxHeartbeats 1000000 in
set_option maxRecDepth 100000 in
theorem Tryz.Zai(b:Int)(hb:(b != 0)=true)(Vc:Nat)(W:World)(h0:W.cell? ⟨Vc,0,none⟩=some (.int .i64 0))(h1:W.cell? ⟨Vc,1,none⟩=some (.int .i64 b)):
  Calls Tryz.prog 53 #[.slice (some ⟨Vc,0,none⟩) 2 2] W fun e w'=>e= .returned (.int .i64 b)/\w'=W:=by
 go_enter Tryz.func53,Tryz.ntmps53
 go_wp2
 refine wp_loop_rounds 3 ?_;rw[rounds_succ]
 go_wp2
 rw[rounds_succ]
 go_wp2
 all_goals first|contradiction|(go_ret;exact⟨rfl,rfl⟩)
theorem Tryz.or2(a b r:Int)(hr:r=if a=0 then b else a)(Vc:Nat)(W:World)(h0:W.cell? ⟨Vc,0,none⟩=some (.int .i64 a))(h1:W.cell? ⟨Vc,1,none⟩=some (.int .i64 b)):
  Calls Tryz.prog 53 #[.slice (some ⟨Vc,0,none⟩) 2 2] W fun e w'=>e= .returned (.int .i64 r)/\w'=W:=by
 subst hr;by_cases ha:a=0
 ·subst ha;by_cases hb:b=0
  ·subst hb;exact Tryz.Yai Vc W h0 h1
  ·exact Tryz.Zai b (by simpa using hb) Vc W h0 h1
 ·rw[if_neg ha];exact Tryz.aaj a b (by simpa using ha) Vc W h0 h1
theorem Tryz.BE(W:World)(vs:Array Value)(T:TypeId)(k n:Nat)(h:n=W.heap.size):((W.alloc (.cells vs T)).drew).cell? ⟨n,k,none⟩=vs[k]?:=by
 subst h;unfold World.cell?;have e:((W.alloc (.cells vs T)).drew).heap[W.heap.size]?=some (.cells vs T):=by
  show(W.heap.push (.cells vs T))[W.heap.size]?=_;rw[Array.getElem?_push_size]
 simp only[e];rfl
def Tryz.cfA(x y:Int×Int):Int:=if Lib.compareInt x.1 y.1=0 then Lib.compareInt x.2 y.2 else Lib.compareInt x.1 y.1
set_option maxHeartbeats 2000000 in
set_option maxRecDepth 100000 in
theorem Tryz.dU(x y:Int×Int)(W:World):Calls Tryz.prog 52 #[.agg #[.int .i64 x.1,.int .i64 x.2],.agg #[.int .i64 y.1,.int .i64 y.2]] W fun e w'=>e= .returned (.int .i64 (Tryz.cfA x y))/\∃q os',w'=grow (W.drewN q) os':=by
 have EB:=fun(a b:Int)W'=>AnyG.cmp_Compare_int Tryz.Dad a b W'
 change ∀(a b:Int)W',Calls Tryz.prog 54 _ _ _ at EB;have mixed:Tryz.prog.follows .mixedOrders=true:=by kernel_rfl
 unfold Tryz.cfA;generalize Lib.compareInt=cmp at EB ⊢;obtain⟨r,hr⟩:∃r,r=(if cmp x.1 y.1=0 then cmp x.2 y.2 else cmp x.1 y.1):=⟨_,rfl⟩;rw[<- hr];have hor:=fun Vc W h0 h1=>Tryz.or2 (cmp x.1 y.1) (cmp x.2 y.2) r hr Vc W h0 h1
 clear hr
 go_enter Tryz.func52,Tryz.ntmps52
 go_wp2
 go_region_held3 (fun w'=>w'.cell? ⟨W.heap.size,0,none⟩=some (.int .i64 x.1)/\w'.cell? ⟨W.heap.size,1,none⟩=some (.int .i64 x.2)/\w'.cell? ⟨W.heap.size+1,0,none⟩=some (.int .i64 y.1)/\w'.cell? ⟨W.heap.size+1,1,none⟩=some (.int .i64 y.2)) (simp[go_sem,World.cell?_alloc_past])
  (first|(go_at_call 54;refine(EB _ _ _).mono ?_;rintro e w' ⟨rfl,rfl⟩)|(go_at_call 53;refine(hor _ _ ((Tryz.BE _ _ _ 0 _ (by simp)).trans rfl) ((Tryz.BE _ _ _ 1 _ (by simp)).trans rfl)).mono ?_;rintro e w' ⟨rfl,rfl⟩))
 go_wp2
 go_ret
 exact⟨rfl,1,_,by rw[alloc_eq_grow,alloc_eq_grow,alloc_eq_grow,grow_grow,grow_grow];rfl⟩
theorem Tryz.cU(Vc off size:Nat)(w:World):CmpLays Tryz.prog 52 #[] V.pC 2 Tryz.cfA Vc off size w:=
 fun _ _ _ _ x y=>Tryz.dU x y _
theorem Tryz.Dah(a b:Int):Lib.compareInt a b=0↔a=b:=by
 unfold Lib.compareInt
 repeat' split
 all_goals omega
theorem Tryz.Cah(a b:Int):Lib.compareInt a b<0↔a<b:=by
 unfold Lib.compareInt
 repeat' split
 all_goals omega
theorem Tryz.Fad(x y:Int×Int):Tryz.cfA x y<0↔(x.1<y.1\/x.1=y.1/\x.2<y.2):=by
 unfold Tryz.cfA;by_cases h:Lib.compareInt x.1 y.1=0
 ·rw[if_pos h,Tryz.Cah];have:=(Tryz.Dah _ _).1 h;omega
 ·rw[if_neg h,Tryz.Cah];have:=mt (Tryz.Dah _ _).2 h;omega
theorem Tryz.DL:ltOf Tryz.cfA=V.Ft:=by
 funext x y;rw[Bool.eq_iff_iff];simp only[V.Ft,Yh,Va,decide_eq_true_eq];exact decide_eq_true_iff.trans (Tryz.Fad x y)
theorem Tryz.Rai:SWO V.Ft where
 irrefl x:=by
  cases h:V.Ft x x with
  |false=>rfl
  |true=>rw[V.Ix x x h]at h;cases h
 trans x y z h1 h2:=by
  simp only[V.Ft,Yh,Va,decide_eq_true_eq]at *
  omega
 ntrans x y z h1 h2:=by
  simp only[V.Ft,Bool.or_eq_false_iff,Xs,decide_eq_false_iff_not]at *
  omega
theorem Tryz.AI(Vc off cap:Nat)(zs:List (Int×Int))(w:World)(hH:Sort.HoldsK V.pC 2 w Vc off zs.toArray)(hblk:Vc<w.heap.size)(ue:zs.length<4611686018427387904):
  Calls Tryz.prog 51 #[.slice (some ⟨Vc,off,none⟩) zs.length cap,.func (.func 52) #[] #[]] w fun e w'=>e= .returned (.tuple #[])/\∃n os,w'=sortWorldK V.pC 2 w Vc off n (V.Mh zs).toArray os:=by
 have eg:∀args w,(callFunc 52 args).run Tryz.prog w= .ok (.enter 52 args) w:=enters_of Tryz.func52 (by kernel_rfl) rfl;have h:=AnyQ.slices_SortFunc_total Tryz.Mh 2 Tryz.isAgg59 Tryz.sizeOf59 V.pC (fun _=>rfl) (fun x v hv=>by simp[V.pC]at hv;rcases hv with rfl|rfl<;>rfl) Tryz.cfA (by rw[Tryz.DL];exact Tryz.Rai) 52 #[] Vc off cap zs.toArray w eg (Tryz.cU Vc off _ w) hH hblk (by simpa using ue) (by rw[Tryz.DL];exact V.FL);rw[Tryz.DL]at h;simp only[V.TU]at h;exact h
theorem Tryz.nL(p:Option Addr)(cap:Nat)(w:World):
 Calls Tryz.prog 51 #[.slice p 0 cap,.func (.func 52) #[] #[]] w fun e w'=>e= .returned (.tuple #[])/\w'=w:=AnyF.slices_SortFunc_none Tryz.Mh p cap _ w
theorem Tryz.zI(Vc off cap:Nat)(zs:List Int)(w:World)(hH:Sort.Holds (Value.int .i64) w Vc off zs.toArray)(hblk:Vc<w.heap.size)(ue:zs.length<4611686018427387904):
  Calls Tryz.prog 46 #[.slice (some ⟨Vc,off,none⟩) zs.length cap] w fun e w'=>e= .returned (.tuple #[])/\∃n os,w'=Sort.grow (Sort.putRow (Value.int .i64) (Sort.ahead w n) Vc off (V.Vp zs).toArray) os:=by
 have h:=Tryz.slices_Sort_int Vc off cap zs w hH hblk ue;rw[V.SU]at h;exact h
end Go.Proofs
namespace Go.Proofs
open Go Go.RowKit
set_option maxRecDepth 100000 in
theorem Tryz.W0(b:Nat)(w:World)(h0:w.cell? ⟨b,0,none⟩=some (.pointer none))(sU:w.shape? b=some (74,2))(Rl:w.frozen? ⟨b,0,none⟩=false):
  Calls Tryz.prog 67 #[.pointer (some ⟨b,0,none⟩)] w fun e w'=>e= .returned (.tuple #[])/\w'=w.setCell ⟨b,0,none⟩ (.pointer (some ⟨b,0,none⟩)):=by
 obtain⟨j,hj,hjs⟩:=ia.1 (show(Tryz.prog.info? 74).map (·.size)=some 2 by kernel_rfl)
 go_enter Tryz.func67,Tryz.ntmps67
 go_wp2
 rw[Lib.run_to_unsafe w ⟨b,0,none⟩ Tryz.underlying71 Tryz.underlying143 hj (by rw[hjs];decide) sU (Nat.zero_lt_succ 1)];simp only[Result.andThen];rw[Oper.upon_value]
 go_wp2
 rw[run_callFunc_extern Tryz.func102 (by kernel_rfl) (by kernel_rfl) (by kernel_rfl) (e:=Extern.AbiNoEscape.same) (by kernel_rfl)];rw[Lib.run_noEscape];simp only[Result.andThen];rw[Oper.upon_value]
 go_wp2
 rw[Lib.run_from_unsafe w ⟨b,0,none⟩ Tryz.underlying143 Tryz.underlying71 hj sU (by kernel_rfl)];simp only[Result.andThen];rw[Oper.upon_value]
 go_wp2
 go_end0
 exact⟨rfl,rfl⟩
set_option maxRecDepth 100000 in
theorem Tryz.X6(b:Nat)(w:World)(h0:w.cell? ⟨b,0,none⟩=some (.pointer (some ⟨b,0,none⟩))):
  Calls Tryz.prog 67 #[.pointer (some ⟨b,0,none⟩)] w fun e w'=>e= .returned (.tuple #[])/\w'=w:=by
 obtain⟨j,hj,hjs⟩:=ia.1 (show(Tryz.prog.info? 74).map (·.size)=some 2 by kernel_rfl)
 go_enter Tryz.func67,Tryz.ntmps67
 go_wp2
 rw[Lib.run_neq_ptr_same w _ Tryz.underlying71 hj]
 go_wp2
 go_end0
 exact⟨rfl,rfl⟩
set_option maxHeartbeats 1000000 in
set_option maxRecDepth 100000 in
theorem Tryz.Iad(b g cap:Nat)(T:TypeId)(l:List UInt8)(w:World)(h0:l≠[])(x8:w.cell? ⟨b,1,none⟩=some (.slice (some ⟨g,0,none⟩) l.length cap))(Ml:l.length<=cap)(hcm:l.length<=70368744177664)
  {n:Nat} (sU:w.shape? g=some (5,n)) (hn:l.length<=n) (Di:∀j x,l[j]?=some x->w.cell? ⟨g,j,none⟩=some (.int .u8 x.toNat)):
  Calls Tryz.prog 41 #[.pointer (some ⟨b,0,none⟩)] w fun e w'=>e= .returned (.string ⟨l.toArray⟩)/\w'=w.drew.freeze ⟨g,0,none⟩ l.length:=by
 have mJ:l.length≠0:=by simpa using h0
 have c1:w.drew.cell? ⟨b,1,none⟩=some (.slice (some ⟨g,0,none⟩) l.length cap):=x8;have hSD:(Builtin.unsafeSliceData_ #[72] 126 #[.slice (some ⟨g,0,none⟩) l.length cap]).run Tryz.prog w.drew= .ok (.pointer (some ⟨g,0,none⟩)) w.drew:=
  Lib.run_unsafeSliceData_row _ _ _ _ _ _ (by omega)
 have hUS:(Builtin.unsafeString_ #[126,3] 9 #[.pointer (some ⟨g,0,none⟩),.int .i64 l.length]).run Tryz.prog w.drew= .ok (.string ⟨l.toArray⟩) (w.drew.freeze ⟨g,0,none⟩ l.length):=by
  refine Lib.run_unsafeString_row w.drew 126 3 9 5 Tryz.underlying126 (by kernel_rfl) g n sU l h0 (by omega) (by omega) ?_;intro j x hx;have e:(⟨g,0,none⟩:Addr).add j=⟨g,j,none⟩:=by simp only[Addr.add];split<;>simp_all
  rw[e];exact Di j x hx
 have mixed:Tryz.prog.follows .mixedOrders=true:=by kernel_rfl
 have u74:=run_underlying Tryz.underlying74
 go_enter Tryz.func41,Tryz.ntmps41
 go_wp2
 go_region_o
 all_goals (go_wp2;go_ret;exact⟨rfl,rfl⟩)
set_option maxHeartbeats 1000000 in
set_option maxRecDepth 100000 in
theorem Tryz.Jad(b:Nat)(w:World)(x8:w.cell? ⟨b,1,none⟩=some (.slice none 0 0)):
  Calls Tryz.prog 41 #[.pointer (some ⟨b,0,none⟩)] w fun e w'=>e= .returned (.string ⟨#[]⟩)/\w'=w.drew:=by
 have c1:w.drew.cell? ⟨b,1,none⟩=some (.slice none 0 0):=x8;have hSD:(Builtin.unsafeSliceData_ #[72] 126 #[.slice none 0 0]).run Tryz.prog w.drew= .ok (.pointer none) w.drew:=rfl;have hUS:(Builtin.unsafeString_ #[126,3] 9 #[.pointer none,.int .i64 0]).run Tryz.prog w.drew= .ok (.string .empty) w.drew:=Lib.run_unsafeString_none w.drew _ _ _ none;have mixed:Tryz.prog.follows .mixedOrders=true:=by kernel_rfl
 have u74:=run_underlying Tryz.underlying74
 go_enter Tryz.func41,Tryz.ntmps41
 go_wp2
 go_region_o
 all_goals (go_wp2;go_ret;exact⟨rfl,rfl⟩)
end Go.Proofs
