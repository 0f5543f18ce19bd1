/- Parts. -/
import Derived.Shelf.SlIterI.Nil
import Derived.Shelf.SlIter.Nil
import Derived.Shelf.SortM.Plain
import Derived.Shelf.SortM.SortNone
import Derived.Ground.GgzProg
import Derived.Ground.SlgmProg
import Derived.Ground.Names2Prog
import Derived.Shelf.Spec.SlicesInsert
import Derived.Shelf.Spec.SlicesInsertGrow
import Derived.Shelf.Spec.SearchS
import Derived.Test.YtllhfnepgcbjnaaGreatProg
import Derived.Test.YtllhfnepgcbjnaaGreatMnXe
import Derived.Test.YtllhfnepgcbjnaaGreatMnXf
import Derived.Shelf.Strings.Builder1
import Derived.Shelf.Small.Bits
import Derived.Shelf.Small.Wraps
import Derived.Shelf.Strings.BuilderF
import Derived.Shelf.Strings.BuilderK
import Derived.Shelf.Utf8.AppendRunePlain
import Derived.Shelf.Strconv.Itoa0
import Derived.Shelf.Strings.Prefix
import Derived.Shelf.Strings.FieldsFuncAny
import Derived.Shelf.Slices.ReverseS
import Derived.Shelf.Slices.Clone
import Derived.Shelf.Slices.SearchI
import Derived.Shelf.Slices.Delete
import Derived.Shelf.Slices.Cells
import Derived.Shelf.Slices.Empties
import Derived.Ground.SlgnProg
import Derived.Shelf.SlicesE.Clone
import Derived.Test.YtllhfnepgcbjnaaGreatMnDr
import Derived.Lib.Builder
set_option linter.unusedSimpArgs false
set_option linter.unusedVariables false
set_option linter.unusedSectionVars false
set_option linter.unnecessarySimpa false
set_option maxRecDepth 100000
set_option maxHeartbeats 16000000
namespace Go.Proofs
open Go.Shelf
def Tryz.keys79_ren:Go.Shelf.Ren:=⟨fun|7=>79|10=>121|n=>n,fun|23=>87|26=>3|3=>99|28=>143|0=>0|27=>142|33=>133|4=>4|n=>n,fun|n=>n⟩
theorem Tryz.keys79:Go.Proofs.SlLaysZI.n7 Tryz.prog Tryz.keys79_ren:= {
 mixed:=by kernel_rfl
 f7:=⟨Tryz.f79.name,by decide,Tryz.func79.trans (P9 some (by kernel_rfl))⟩
 f10:=⟨Tryz.f121.name,by decide,Tryz.func121.trans (P9 some (by kernel_rfl))⟩
 t0:=Tryz.underlying0
 a0:=Tryz.isAgg0
 z0:=Tryz.sizeOf0
 v0:=Tryz.zeroValue0
 t4:=Tryz.underlying4
 a4:=Tryz.isAgg4
 z4:=Tryz.sizeOf4
 v4:=Tryz.zeroValue4
 t23:=Tryz.underlying87
 a23:=Tryz.isAgg87
 z23:=Tryz.sizeOf87
 v23:=Tryz.zeroValue87
 t26:=Tryz.underlying3
 a26:=Tryz.isAgg3
 z26:=Tryz.sizeOf3
 v26:=Tryz.zeroValue3
 t27:=Tryz.underlying142
 a27:=Tryz.isAgg142
 z27:=Tryz.sizeOf142
 v27:=Tryz.zeroValue142
 t28:=Tryz.underlying143
 a28:=Tryz.isAgg143
 z28:=Tryz.sizeOf143
 v28:=Tryz.zeroValue143
 t33:=Tryz.underlying133
 a33:=Tryz.isAgg133
 z33:=Tryz.sizeOf133
 v33:=Tryz.zeroValue133}
def Tryz.keys80_ren:Go.Shelf.Ren:=⟨fun|7=>80|10=>122|n=>n,fun|23=>88|26=>3|3=>86|28=>143|0=>0|27=>142|33=>133|4=>4|n=>n,fun|n=>n⟩
theorem Tryz.keys80:Go.Proofs.SlLaysZI.n7 Tryz.prog Tryz.keys80_ren:= {
 mixed:=by kernel_rfl
 f7:=⟨Tryz.f80.name,by decide,Tryz.func80.trans (P9 some (by kernel_rfl))⟩
 f10:=⟨Tryz.f122.name,by decide,Tryz.func122.trans (P9 some (by kernel_rfl))⟩
 t0:=Tryz.underlying0
 a0:=Tryz.isAgg0
 z0:=Tryz.sizeOf0
 v0:=Tryz.zeroValue0
 t4:=Tryz.underlying4
 a4:=Tryz.isAgg4
 z4:=Tryz.sizeOf4
 v4:=Tryz.zeroValue4
 t23:=Tryz.underlying88
 a23:=Tryz.isAgg88
 z23:=Tryz.sizeOf88
 v23:=Tryz.zeroValue88
 t26:=Tryz.underlying3
 a26:=Tryz.isAgg3
 z26:=Tryz.sizeOf3
 v26:=Tryz.zeroValue3
 t27:=Tryz.underlying142
 a27:=Tryz.isAgg142
 z27:=Tryz.sizeOf142
 v27:=Tryz.zeroValue142
 t28:=Tryz.underlying143
 a28:=Tryz.isAgg143
 z28:=Tryz.sizeOf143
 v28:=Tryz.zeroValue143
 t33:=Tryz.underlying133
 a33:=Tryz.isAgg133
 z33:=Tryz.sizeOf133
 v33:=Tryz.zeroValue133}
def Tryz.keys81_ren:Go.Shelf.Ren:=⟨fun|7=>81|10=>123|n=>n,fun|23=>89|26=>3|3=>69|28=>143|0=>0|27=>142|33=>133|4=>4|n=>n,fun|n=>n⟩
theorem Tryz.keys81:Go.Proofs.SlLaysZI.n7 Tryz.prog Tryz.keys81_ren:= {
 mixed:=by kernel_rfl
 f7:=⟨Tryz.f81.name,by decide,Tryz.func81.trans (P9 some (by kernel_rfl))⟩
 f10:=⟨Tryz.f123.name,by decide,Tryz.func123.trans (P9 some (by kernel_rfl))⟩
 t0:=Tryz.underlying0
 a0:=Tryz.isAgg0
 z0:=Tryz.sizeOf0
 v0:=Tryz.zeroValue0
 t4:=Tryz.underlying4
 a4:=Tryz.isAgg4
 z4:=Tryz.sizeOf4
 v4:=Tryz.zeroValue4
 t23:=Tryz.underlying89
 a23:=Tryz.isAgg89
 z23:=Tryz.sizeOf89
 v23:=Tryz.zeroValue89
 t26:=Tryz.underlying3
 a26:=Tryz.isAgg3
 z26:=Tryz.sizeOf3
 v26:=Tryz.zeroValue3
 t27:=Tryz.underlying142
 a27:=Tryz.isAgg142
 z27:=Tryz.sizeOf142
 v27:=Tryz.zeroValue142
 t28:=Tryz.underlying143
 a28:=Tryz.isAgg143
 z28:=Tryz.sizeOf143
 v28:=Tryz.zeroValue143
 t33:=Tryz.underlying133
 a33:=Tryz.isAgg133
 z33:=Tryz.sizeOf133
 v33:=Tryz.zeroValue133}
def Tryz.keys82_ren:Go.Shelf.Ren:=⟨fun|7=>82|10=>124|n=>n,fun|23=>90|26=>3|3=>115|28=>143|0=>0|27=>142|33=>133|4=>4|n=>n,fun|n=>n⟩
theorem Tryz.keys82:Go.Proofs.SlLaysZI.n7 Tryz.prog Tryz.keys82_ren:= {
 mixed:=by kernel_rfl
 f7:=⟨Tryz.f82.name,by decide,Tryz.func82.trans (P9 some (by kernel_rfl))⟩
 f10:=⟨Tryz.f124.name,by decide,Tryz.func124.trans (P9 some (by kernel_rfl))⟩
 t0:=Tryz.underlying0
 a0:=Tryz.isAgg0
 z0:=Tryz.sizeOf0
 v0:=Tryz.zeroValue0
 t4:=Tryz.underlying4
 a4:=Tryz.isAgg4
 z4:=Tryz.sizeOf4
 v4:=Tryz.zeroValue4
 t23:=Tryz.underlying90
 a23:=Tryz.isAgg90
 z23:=Tryz.sizeOf90
 v23:=Tryz.zeroValue90
 t26:=Tryz.underlying3
 a26:=Tryz.isAgg3
 z26:=Tryz.sizeOf3
 v26:=Tryz.zeroValue3
 t27:=Tryz.underlying142
 a27:=Tryz.isAgg142
 z27:=Tryz.sizeOf142
 v27:=Tryz.zeroValue142
 t28:=Tryz.underlying143
 a28:=Tryz.isAgg143
 z28:=Tryz.sizeOf143
 v28:=Tryz.zeroValue143
 t33:=Tryz.underlying133
 a33:=Tryz.isAgg133
 z33:=Tryz.sizeOf133
 v33:=Tryz.zeroValue133}
def Tryz.sorted78_ren:Go.Shelf.Ren:=⟨fun|6=>78|8=>119|9=>120|11=>159|13=>161|12=>160|23=>193|24=>194|14=>184|15=>185|16=>186|17=>187|18=>188|19=>189|20=>190|21=>191|22=>192|25=>213|26=>214|27=>215|28=>216|29=>217|30=>218|31=>231|n=>n,fun|26=>3|28=>143|24=>42|0=>0|3=>3|37=>183|48=>212|50=>214|4=>4|40=>205|39=>204|45=>136|5=>5|9=>9|51=>226|55=>230|57=>246|58=>48|33=>133|n=>n,fun|n=>n⟩
theorem Tryz.sorted78:Go.Proofs.SlLaysZI.n6 Tryz.prog Tryz.sorted78_ren:= {
 mixed:=by kernel_rfl
 f6:=⟨Tryz.f78.name,by decide,Tryz.func78.trans (P9 some (by kernel_rfl))⟩
 f8:=⟨Tryz.f119.name,by decide,Tryz.func119.trans (P9 some (by kernel_rfl))⟩
 f11:=⟨Tryz.f159.name,by decide,Tryz.func159.trans (P9 some (by kernel_rfl))⟩
 t0:=Tryz.underlying0
 a0:=Tryz.isAgg0
 z0:=Tryz.sizeOf0
 v0:=Tryz.zeroValue0
 t24:=Tryz.underlying42
 a24:=Tryz.isAgg42
 z24:=Tryz.sizeOf42
 v24:=Tryz.zeroValue42
 t26:=Tryz.underlying3
 a26:=Tryz.isAgg3
 z26:=Tryz.sizeOf3
 v26:=Tryz.zeroValue3
 t28:=Tryz.underlying143
 a28:=Tryz.isAgg143
 z28:=Tryz.sizeOf143
 v28:=Tryz.zeroValue143
 i26:=by kernel_rfl}
def Tryz.sort120_ren:Go.Shelf.Ren:=⟨fun|5=>120|8=>161|7=>160|19=>193|20=>194|10=>184|11=>185|12=>186|13=>187|14=>188|15=>189|16=>190|17=>191|18=>192|30=>213|31=>214|32=>215|33=>216|34=>217|35=>218|40=>231|n=>n,fun|23=>42|25=>3|3=>3|32=>183|22=>42|0=>0|44=>212|46=>214|4=>4|36=>205|35=>204|41=>136|5=>5|9=>9|53=>226|57=>230|63=>246|64=>48|n=>n,fun|n=>n⟩
theorem Tryz.sort120:Go.Proofs.SlLaysM.n5 Tryz.prog Tryz.sort120_ren:= {
 mixed:=by kernel_rfl
 f5:=⟨Tryz.f120.name,by decide,Tryz.func120.trans (P9 some (by kernel_rfl))⟩
 f7:=⟨Tryz.f160.name,by decide,Tryz.func160.trans (P9 some (by kernel_rfl))⟩
 f8:=Tryz.func161.trans (P9 some (by kernel_rfl))
 f10:=⟨Tryz.f184.name,by decide,Tryz.func184.trans (P9 some (by kernel_rfl))⟩
 f11:=⟨Tryz.f185.name,by decide,Tryz.func185.trans (P9 some (by kernel_rfl))⟩
 f12:=⟨Tryz.f186.name,by decide,Tryz.func186.trans (P9 some (by kernel_rfl))⟩
 f13:=⟨Tryz.f187.name,by decide,Tryz.func187.trans (P9 some (by kernel_rfl))⟩
 f14:=⟨Tryz.f188.name,by decide,Tryz.func188.trans (P9 some (by kernel_rfl))⟩
 f15:=⟨Tryz.f189.name,by decide,Tryz.func189.trans (P9 some (by kernel_rfl))⟩
 f16:=⟨Tryz.f190.name,by decide,Tryz.func190.trans (P9 some (by kernel_rfl))⟩
 f17:=⟨Tryz.f191.name,by decide,Tryz.func191.trans (P9 some (by kernel_rfl))⟩
 f18:=⟨Tryz.f192.name,by decide,Tryz.func192.trans (P9 some (by kernel_rfl))⟩
 f19:=Tryz.func193.trans (P9 some (by kernel_rfl))
 f20:=Tryz.func194.trans (P9 some (by kernel_rfl))
 f30:=⟨Tryz.f213.name,by decide,Tryz.func213.trans (P9 some (by kernel_rfl))⟩
 f31:=Tryz.func214.trans (P9 some (by kernel_rfl))
 f32:=Tryz.func215.trans (P9 some (by kernel_rfl))
 f33:=⟨Tryz.f216.name,by decide,Tryz.func216.trans (P9 some (by kernel_rfl))⟩
 f34:=⟨Tryz.f217.name,by decide,Tryz.func217.trans (P9 some (by kernel_rfl))⟩
 f35:=⟨Tryz.f218.name,by decide,Tryz.func218.trans (P9 some (by kernel_rfl))⟩
 f40:=⟨Tryz.f231.name,by decide,Tryz.func231.trans (P9 some (by kernel_rfl))⟩
 t0:=Tryz.underlying0
 a0:=Tryz.isAgg0
 z0:=Tryz.sizeOf0
 v0:=Tryz.zeroValue0
 t3:=Tryz.underlying3
 a3:=Tryz.isAgg3
 z3:=Tryz.sizeOf3
 v3:=Tryz.zeroValue3
 t4:=Tryz.underlying4
 a4:=Tryz.isAgg4
 z4:=Tryz.sizeOf4
 v4:=Tryz.zeroValue4
 t5:=Tryz.underlying5
 a5:=Tryz.isAgg5
 z5:=Tryz.sizeOf5
 v5:=Tryz.zeroValue5
 t9:=Tryz.underlying9
 a9:=Tryz.isAgg9
 z9:=Tryz.sizeOf9
 v9:=Tryz.zeroValue9
 t22:=Tryz.underlying42
 a22:=Tryz.isAgg42
 z22:=Tryz.sizeOf42
 v22:=Tryz.zeroValue42
 t23:=Tryz.underlying42
 a23:=Tryz.isAgg42
 z23:=Tryz.sizeOf42
 v23:=Tryz.zeroValue42
 t25:=Tryz.underlying3
 a25:=Tryz.isAgg3
 z25:=Tryz.sizeOf3
 v25:=Tryz.zeroValue3
 t32:=Tryz.underlying183
 a32:=Tryz.isAgg183
 z32:=Tryz.sizeOf183
 v32:=Tryz.zeroValue183
 t35:=Tryz.underlying204
 a35:=Tryz.isAgg204
 z35:=Tryz.sizeOf204
 v35:=Tryz.zeroValue204
 t36:=Tryz.underlying205
 a36:=Tryz.isAgg205
 z36:=Tryz.sizeOf205
 v36:=Tryz.zeroValue205
 t41:=Tryz.underlying136
 a41:=Tryz.isAgg136
 z41:=Tryz.sizeOf136
 v41:=Tryz.zeroValue136
 t44:=Tryz.underlying212
 a44:=Tryz.isAgg212
 z44:=Tryz.sizeOf212
 v44:=Tryz.zeroValue212
 t46:=Tryz.underlying214
 a46:=Tryz.isAgg214
 z46:=Tryz.sizeOf214
 v46:=Tryz.zeroValue214
 t53:=Tryz.underlying226
 a53:=Tryz.isAgg226
 z53:=Tryz.sizeOf226
 v53:=Tryz.zeroValue226
 t57:=Tryz.underlying230
 a57:=Tryz.isAgg230
 z57:=Tryz.sizeOf230
 v57:=Tryz.zeroValue230
 t63:=Tryz.underlying246
 a63:=Tryz.isAgg246
 z63:=Tryz.sizeOf246
 v63:=Tryz.zeroValue246
 t64:=Tryz.underlying48
 a64:=Tryz.isAgg48
 z64:=Tryz.sizeOf48
 v64:=Tryz.zeroValue48}
open Go.RowKit Go.Maps Go.Sort in
theorem Tryz.sorts78(m:Nat):AnyZI.SortsIn Tryz.prog Tryz.sorted78_ren Fence.wide m:=
 ⟨fun blk off cap ss W hH hblk hsz=>callsIn_wide.2 (AnyM.slices_Sort_int Tryz.sort120 blk off cap ss W hH hblk hsz),
 fun p cap W=>callsIn_wide.2 (AnyM.slices_Sort_int_none Tryz.sort120 p cap W)⟩
open Go.RowKit Go.Maps Go.Sort in
theorem Tryz.sortedKeys79{H:Type}(Bm b nn:Nat)(D0:DataW H)(R:Value→Option (DataW H×List MemPlace))(w:World)(hBm:Bm<w.heap.size)(hm:w.cell? ⟨Bm,0,none⟩=some (.map (some b)))(hown:w.ownsMap Tryz.prog 3 R b nn D0)(hmax:Maps.size D0≤maxLen)(hbytes:Maps.size D0*8≤140737488355328):
  Calls Tryz.prog 78 #[.func (.func 121) #[] #[.pointer (some ⟨Bm,0,none⟩)]] w fun e w'=>∃(v:Value) (ss:List Int),e=.returned v∧ss.Perm (intKeys D0)∧
   w'.ownsRow w.heap.size 3 1 v ss.length ((ss.mergeSort (fun x y=>decide (x≤y))).map encZ)∧(v=.slice none 0 0↔ss=[])∧Below w.heap.size w w':=by
 refine(callsIn_wide (n:=5)).1 ?_;have hseq:SeqGives Fence.wide 2 Tryz.prog 121 #[.pointer (some ⟨Bm,0,none⟩)] encZ (fun ss=>ss.Perm (intKeys D0)) (Maps.size D0) w:=
  AnyZI.keys_gives (ρ:=Tryz.keys79_ren) {Tryz.keys79 with} Fence.wide _ trivial rfl (by omega) Bm b nn D0 w hBm hm hown
 exact AnyZI.sorted_in Tryz.sorted78 Fence.wide 5 trivial trivial trivial trivial rfl (by omega) (Tryz.sorts78 _) (enters_of Tryz.func120 (by kernel_rfl) rfl) 121 #[.pointer (some ⟨Bm,0,none⟩)] trivial (enters_of Tryz.func121 (by kernel_rfl) rfl) _ _ hmax hbytes _ hseq
open Go.RowKit Go.Maps Go.Sort in
theorem Tryz.sortedKeys80{H:Type}(Bm b nn:Nat)(D0:DataW H)(R:Value→Option (DataW H×List MemPlace))(w:World)(hBm:Bm<w.heap.size)(hm:w.cell? ⟨Bm,0,none⟩=some (.map (some b)))(hown:w.ownsMap Tryz.prog 3 R b nn D0)(hmax:Maps.size D0≤maxLen)(hbytes:Maps.size D0*8≤140737488355328):
  Calls Tryz.prog 78 #[.func (.func 122) #[] #[.pointer (some ⟨Bm,0,none⟩)]] w fun e w'=>∃(v:Value) (ss:List Int),e=.returned v∧ss.Perm (intKeys D0)∧
   w'.ownsRow w.heap.size 3 1 v ss.length ((ss.mergeSort (fun x y=>decide (x≤y))).map encZ)∧(v=.slice none 0 0↔ss=[])∧Below w.heap.size w w':=by
 refine(callsIn_wide (n:=5)).1 ?_;have hseq:SeqGives Fence.wide 2 Tryz.prog 122 #[.pointer (some ⟨Bm,0,none⟩)] encZ (fun ss=>ss.Perm (intKeys D0)) (Maps.size D0) w:=
  AnyZI.keys_gives (ρ:=Tryz.keys80_ren) {Tryz.keys80 with} Fence.wide _ trivial rfl (by omega) Bm b nn D0 w hBm hm hown
 exact AnyZI.sorted_in Tryz.sorted78 Fence.wide 5 trivial trivial trivial trivial rfl (by omega) (Tryz.sorts78 _) (enters_of Tryz.func120 (by kernel_rfl) rfl) 122 #[.pointer (some ⟨Bm,0,none⟩)] trivial (enters_of Tryz.func122 (by kernel_rfl) rfl) _ _ hmax hbytes _ hseq
open Go.RowKit Go.Maps Go.Sort in
theorem Tryz.sortedKeys81{H:Type}(Bm b nn:Nat)(D0:DataW H)(R:Value→Option (DataW H×List MemPlace))(w:World)(hBm:Bm<w.heap.size)(hm:w.cell? ⟨Bm,0,none⟩=some (.map (some b)))(hown:w.ownsMap Tryz.prog 3 R b nn D0)(hmax:Maps.size D0≤maxLen)(hbytes:Maps.size D0*8≤140737488355328):
  Calls Tryz.prog 78 #[.func (.func 123) #[] #[.pointer (some ⟨Bm,0,none⟩)]] w fun e w'=>∃(v:Value) (ss:List Int),e=.returned v∧ss.Perm (intKeys D0)∧
   w'.ownsRow w.heap.size 3 1 v ss.length ((ss.mergeSort (fun x y=>decide (x≤y))).map encZ)∧(v=.slice none 0 0↔ss=[])∧Below w.heap.size w w':=by
 refine(callsIn_wide (n:=5)).1 ?_;have hseq:SeqGives Fence.wide 2 Tryz.prog 123 #[.pointer (some ⟨Bm,0,none⟩)] encZ (fun ss=>ss.Perm (intKeys D0)) (Maps.size D0) w:=
  AnyZI.keys_gives (ρ:=Tryz.keys81_ren) {Tryz.keys81 with} Fence.wide _ trivial rfl (by omega) Bm b nn D0 w hBm hm hown
 exact AnyZI.sorted_in Tryz.sorted78 Fence.wide 5 trivial trivial trivial trivial rfl (by omega) (Tryz.sorts78 _) (enters_of Tryz.func120 (by kernel_rfl) rfl) 123 #[.pointer (some ⟨Bm,0,none⟩)] trivial (enters_of Tryz.func123 (by kernel_rfl) rfl) _ _ hmax hbytes _ hseq
open Go.RowKit Go.Maps Go.Sort in
theorem Tryz.sortedKeys82{H:Type}(Bm b nn:Nat)(D0:DataW H)(R:Value→Option (DataW H×List MemPlace))(w:World)(hBm:Bm<w.heap.size)(hm:w.cell? ⟨Bm,0,none⟩=some (.map (some b)))(hown:w.ownsMap Tryz.prog 3 R b nn D0)(hmax:Maps.size D0≤maxLen)(hbytes:Maps.size D0*8≤140737488355328):
  Calls Tryz.prog 78 #[.func (.func 124) #[] #[.pointer (some ⟨Bm,0,none⟩)]] w fun e w'=>∃(v:Value) (ss:List Int),e=.returned v∧ss.Perm (intKeys D0)∧
   w'.ownsRow w.heap.size 3 1 v ss.length ((ss.mergeSort (fun x y=>decide (x≤y))).map encZ)∧(v=.slice none 0 0↔ss=[])∧Below w.heap.size w w':=by
 refine(callsIn_wide (n:=5)).1 ?_;have hseq:SeqGives Fence.wide 2 Tryz.prog 124 #[.pointer (some ⟨Bm,0,none⟩)] encZ (fun ss=>ss.Perm (intKeys D0)) (Maps.size D0) w:=
  AnyZI.keys_gives (ρ:=Tryz.keys82_ren) {Tryz.keys82 with} Fence.wide _ trivial rfl (by omega) Bm b nn D0 w hBm hm hown
 exact AnyZI.sorted_in Tryz.sorted78 Fence.wide 5 trivial trivial trivial trivial rfl (by omega) (Tryz.sorts78 _) (enters_of Tryz.func120 (by kernel_rfl) rfl) 124 #[.pointer (some ⟨Bm,0,none⟩)] trivial (enters_of Tryz.func124 (by kernel_rfl) rfl) _ _ hmax hbytes _ hseq
def Tryz.lays2_22_ren:Go.Shelf.Ren:=⟨fun|22=>75|29=>117|30=>118|36=>158|17=>183|n=>n,fun|24=>67|9=>9|3=>3|4=>4|0=>0|n=>n,fun|n=>n⟩
theorem Tryz.lays2_22:Go.Proofs.Lays2.n22 Tryz.prog Tryz.lays2_22_ren:= {
 mixed:=by kernel_rfl
 f17:=Tryz.func183.trans (P9 some (by kernel_rfl))
 f22:=Tryz.func75.trans (P9 some (by kernel_rfl))
 f29:=Tryz.func117.trans (P9 some (by kernel_rfl))
 f30:=Tryz.func118.trans (P9 some (by kernel_rfl))
 f36:=Tryz.func158.trans (P9 some (by kernel_rfl))
 t0:=Tryz.underlying0
 a0:=Tryz.isAgg0
 z0:=Tryz.sizeOf0
 v0:=Tryz.zeroValue0
 t3:=Tryz.underlying3
 a3:=Tryz.isAgg3
 z3:=Tryz.sizeOf3
 v3:=Tryz.zeroValue3
 t4:=Tryz.underlying4
 a4:=Tryz.isAgg4
 z4:=Tryz.sizeOf4
 v4:=Tryz.zeroValue4
 t9:=Tryz.underlying9
 a9:=Tryz.isAgg9
 z9:=Tryz.sizeOf9
 v9:=Tryz.zeroValue9
 t24:=Tryz.underlying67
 a24:=Tryz.isAgg67
 z24:=Tryz.sizeOf67
 v24:=Tryz.zeroValue67
 i9:=by kernel_rfl}
def Tryz.lays2_26_ren:Go.Shelf.Ren:=⟨fun|26=>116|33=>156|34=>157|38=>182|n=>n,fun|24=>67|9=>9|3=>3|4=>4|40=>183|0=>0|n=>n,fun|n=>n⟩
theorem Tryz.lays2_26:Go.Proofs.Lays2.n26 Tryz.prog Tryz.lays2_26_ren:= {
 mixed:=by kernel_rfl
 f26:=Tryz.func116.trans (P9 some (by kernel_rfl))
 f33:=Tryz.func156.trans (P9 some (by kernel_rfl))
 f34:=Tryz.func157.trans (P9 some (by kernel_rfl))
 f38:=Tryz.func182.trans (P9 some (by kernel_rfl))
 t0:=Tryz.underlying0
 a0:=Tryz.isAgg0
 z0:=Tryz.sizeOf0
 v0:=Tryz.zeroValue0
 t3:=Tryz.underlying3
 a3:=Tryz.isAgg3
 z3:=Tryz.sizeOf3
 v3:=Tryz.zeroValue3
 t4:=Tryz.underlying4
 a4:=Tryz.isAgg4
 z4:=Tryz.sizeOf4
 v4:=Tryz.zeroValue4
 t9:=Tryz.underlying9
 a9:=Tryz.isAgg9
 z9:=Tryz.sizeOf9
 v9:=Tryz.zeroValue9
 t24:=Tryz.underlying67
 a24:=Tryz.isAgg67
 z24:=Tryz.sizeOf67
 v24:=Tryz.zeroValue67
 t40:=Tryz.underlying183
 a40:=Tryz.isAgg183
 z40:=Tryz.sizeOf183
 v40:=Tryz.zeroValue183}
end Go.Proofs
namespace Go.Av
open Go Go.Proofs Go.RowKit
section
variable {C:Ctx} {B:Nat} {S:Addr→Prop} {μ:Map} {h:Heap} {w w':World} {α:Type}
theorem vu{av:α→AVal}{enc:α→Value}(hc:∀a,(av a).cells=[av a])(hs:∀a,(av a).sto=true)(hr:∀(w:World) (S:Addr→Prop) (μ:Map) (a:α),Rep w S μ (av a) (enc a))
  (f:Fits C B S μ h w){e:TypeId}{v:Value}{ls:List α}(ho:w'.ownsRow w.heap.size e 1 v ls.length (ls.map enc))(hb:Below w.heap.size w w'):
  ∃S',Fits C B S' μ h w'∧Step B S μ w S' μ w'∧Rep w' S' μ (.sl 1 (ls.map av)) v:=by
 obtain⟨f',st⟩:=f.grown hb;obtain⟨_,ho⟩:=ho;rcases ho with⟨rfl,h0⟩| ⟨g,cap,cur,rfl,hg,hheap,hn,hm,hsz,htk⟩
 ·have:ls=[]:=U4.1 h0;subst this;exact⟨S,f',st,.sl0 1 none 0⟩
 ·by_cases hl:ls=[]
  ·subst hl;exact⟨S,f',st,.sl0 1 _ cap⟩
  have hgl:g<w'.heap.size:=(O6.1 hheap).1
  let S':Addr→Prop:=fun a=>S a∨a.block=g
  have st2:Step B S μ w' S' μ w':=⟨fun a ha=>.inl ha,fun _ _=>rfl,za5 _ _,MapLe.refl _,fun a ha=>ha.elim .inl fun e=>.inr (by rw[e];exact R1 f.base hg)⟩
  have f2:Fits C B S' μ h w':=⟨fun g' cs hg'=>(f'.glob g' cs hg').mono st2,f'.len,f'.sep,fun p m b h1 e1=>by
    obtain⟨a1,a2,a3⟩:=f'.own p m b h1 e1;have:=(f.own p m b h1 e1).2.1;exact⟨a1,a2,fun a ha=>ha.elim (a3 a) fun e=>by omega⟩,f'.base,fun a ha=>ha.elim (f'.lie a) fun e=>by rw[e];exact hgl,
   fun p m k h1 h2=>(f'.blk p m k h1 h2).mono st2 fun _ _=>rfl⟩
  have hget:∀i,cur[0+(i*1+0)]? =cur[i]? :=fun i=>by congr 1;omega
  refine⟨S',f2,st.trans st2,?_⟩;have hlen:(ls.map av).length=ls.length:=L8 ..;rw[← hlen];refine .sl 1 (ls.map av) g 0 cap (fun i _=>cur[i]?.getD undef) (by simpa using hl) (by omega) hm (fun i x hx=>?_) (fun i x j c hx hj=>?_) (fun i x j c hx hj=>?_)
  ·obtain⟨a,_,rfl⟩:=N0.1 (N4 hx);rw[hc];rfl
  ·obtain⟨a,_,rfl⟩:=N0.1 (N4 hx);rw[hc]at hj
   match j with
   |0=>
    simp at hj;subst hj;have hi:i<ls.length:=(by have:=(f9.1 hx).1;omega);have hi2:i<cur.size:=(by omega);refine⟨.inr rfl,?_,hs a⟩;simp only[World.cell?,hheap];simp[hi2]
   |j+1=>simp at hj
  ·rw[N8]at hx;obtain⟨a,ha,rfl⟩:=N1.1 hx;rw[hc]at hj
   match j with
   |0=>
    simp at hj;subst hj;have hi:i<ls.length:=(f9.1 ha).1;have:cur[i]? =some (enc a):=by
     have h1:(cur.toList.take (ls.length*1))[i]? =some (enc a):=(by rw[htk,N8,ha];rfl);rw[N5 (by omega)]at h1;simpa using h1
    rw[this];exact hr _ _ _ a
   |j+1=>simp at hj
theorem ci{P:Program}{f:FuncId}{fn:Func}(hf:P.funcs[f]? =some fn)(hb:fn.body.isNone=false)(hname:(fn.name== "runtime.NumGoroutine")=false)(us:Array Value)(w:World):(callFunc f us).run P w=.ok (.enter f us) w:=by
 have hne:fn.name≠ "runtime.NumGoroutine" :=by simpa using hname
 obtain⟨c,hbc⟩:∃c,fn.body=some c:=by cases hq:fn.body with|none=>simp[hq]at hb|some c=>exact⟨c,rfl⟩
 simp[callFunc,hf,hne,hbc]
end
def noR:Value→Option (DataW Unit×List MemPlace):=fun _=>some (.nil,[])
def kI(n:Int):Lit:=.int .i64 n
theorem o9(x:Lit×DataW Unit)(l:List (Lit×DataW Unit)):(DataW.insert x l).Perm (x::l):=by
 induction l with
 |nil=>exact List.Perm.refl _
 |cons y r ih=>
  rw[DataW.insert];split
  ·exact List.Perm.refl _
  ·exact(ih.cons y).trans (List.Perm.swap x y r)
theorem jV(l:List (Lit×DataW Unit)):(l.foldr DataW.insert []).Perm l:=by
 induction l with
 |nil=>exact List.Perm.refl _
 |cons x l ih=>exact(o9 x _).trans (ih.cons x)
def datK(ks:List Lit):DataW Unit:=.map ((ks.map fun k=>(k,(DataW.nil:DataW Unit))).foldr DataW.insert [])
theorem sV(ks:List Lit):Maps.size (datK ks)=ks.length:=by
 unfold datK;rw[Maps.size_eq,(jV _).length_eq,L8]
theorem xt{P:Program}{kt:TypeId}{w:World}{b c:Nat}{cur:Array MapEntry}{ks:List Lit}(hheap:w.heap[b]? =some (.map cur c))(hl:ks.length=cur.size)(hm:cur.size≤maxLen)
  (hk:∀(i:Nat) (x:MapEntry),cur[i]? =some x→∃k,ks[i]? =some k∧keyOf P kt x.key=some k)(hb:∀x∈cur.toList,x.born<c)(hn:(cur.toList.map (·.born)).Nodup)(hd:(cur.toList.map (·.key)).Nodup):
  w.ownsMap P kt noR b cur.size (datK ks):=by
 refine⟨cur,c,hheap,⟨hm,⟨hb,hn,hd⟩,fun x hx=>?_⟩,M2 _,?_⟩
 ·obtain⟨i,hi⟩:=Q4 hx;obtain⟨k,_,h2⟩:=hk i x (by simpa using hi);exact⟨(k,.nil),by simp[WideElems.rd,h2,noR]⟩
 ·unfold datK;congr 2
  apply U0
  intro i;rw[N8,N8];by_cases hi:i<cur.size
  ·have hc:cur[i]? =some cur[i]:=O8 hi;obtain⟨k,h1,h2⟩:=hk i _ hc;have h3:cur.toList[i]? =some cur[i]:=(by simp[hi]);rw[h1,h3];simp[WideElems.rg,WideElems.rd,h2,noR]
  ·rw[Q7 (l:=cur.toList) (by simp;omega),Q7 (l:=ks) (by omega)];rfl
variable (G:Nat→Option (List AVal))
theorem dE{α:Type}(ev:α→AVal)(I:FuncId)
  (hI:∀(Bm b nn:Nat) (D0:DataW Unit) (R:Value→Option (DataW Unit×List MemPlace)) (w:World),Bm<w.heap.size→w.cell? ⟨Bm,0,none⟩=some (.map (some b))→w.ownsMap Tryz.prog 3 R b nn D0→Maps.size D0≤maxLen→Maps.size D0*8≤140737488355328→
   Calls Tryz.prog 78 #[.func (.func I) #[] #[.pointer (some ⟨Bm,0,none⟩)]] w fun e w'=>∃(v:Value) (ss:List Int),e=.returned v∧ss.Perm (intKeys D0)∧w'.ownsRow w.heap.size 3 1 v ss.length ((ss.mergeSort (fun x y=>decide (x≤y))).map encZ)∧(v=.slice none 0 0↔ss=[])∧Below w.heap.size w w')
  (l:ML Int α)(c:Nat)(hw:WFM l c)(hb:∀e∈l, -9223372036854775808≤e.1∧e.1≤9223372036854775807)(hl:l.length≤100000){h:Heap}{q p T:Nat}(hq:getRow h q 0=some (T,1,[.hm p]))(hp:mapAt h p=some (encM iA ev l,c)):
  Sat (CT G) 78 [.fn (.func I) [] [.hp q 0 0 0]] h (fun r h'=>r=.sl 1 (((l.map (·.1)).mergeSort (fun x y=>decide (x≤y))).map iA)∧h'=h):=by
 intro B S μ w us fit rl;obtain⟨hul,hur⟩:=rl
 match us,hul,hur with
 | [v0],_,hur=>
  have r0:Rep w S μ (.fn (.func I) [] [.hp q 0 0 0]) v0:=hur 0 _ rfl;obtain⟨cv,rfl,rc⟩:∃cv,v0=.func (.func I) #[] #[cv]∧Rep w S μ (.hp q 0 0 0) cv:=by
   cases r0 with
   |fn _ _ _ xv cv h1 h2 h3 h4=>
    match xv,cv,h1,h2,h4 with
    | [],[cv],_,_,h4=>exact⟨cv,rfl,h4 0 _ rfl⟩
  obtain⟨m,hm,rf⟩:=fit.row hq;obtain⟨b0,hb0,rfl⟩:=rc.hp_now hm rf.hver;have hz:0*m.size+0=0:=by simp
  rw[hz];obtain⟨cur,hheap,hcell⟩:∃cur,w.heap[b0]? =some (.cells cur T (0,0))∧∃x,cur[0]? =some x∧Rep w S μ (.hm p) x:=by
   rcases rf.lies with⟨_,h2⟩| ⟨b,cur,h1,h2,_,_,_,h6⟩
   ·cases h2
   ·rw[hb0]at h1;cases h1;obtain⟨x,hx,rx⟩:=h6 0 (.hm p) 0 (.hm p) rfl rfl;exact⟨cur,h2,x,by simpa using hx,rx⟩
  obtain⟨x,hx0,rx⟩:=hcell;obtain⟨m2,b2,cur2,hm2,hv2,hb2,rfl,hheap2,E⟩:=bu fit rx hp;have hcell0:w.cell? ⟨b0,0,none⟩=some (.map (some b2)):=by simp[World.cell?,hheap,hx0]
  have hlen:cur2.size=l.length:=by have:=E.len;simpa [encM]using this
  have hget:∀(i:Nat) (y:MapEntry),cur2[i]? =some y→∃e,l[i]? =some e∧y.key=encZ e.1∧y.born=e.2.2:=by
   intro i y hy;have hi:i<l.length:=(by have:=(O6.1 hy).1;omega);obtain⟨y',hy',r1,_,r3⟩:=E.get i (iA l[i].1,ev l[i].2.1,l[i].2.2) (by rw[encM,N8,L9 hi];rfl);rw[Array.getElem?_toList,hy]at hy';cases hy';refine⟨l[i],L9 hi,?_,r3⟩;exact r1.int_inv
  have hbk:cur2.toList.map (·.born)=l.map (·.2.2):=by
   apply U0
   intro i;rw[N8,N8,Array.getElem?_toList];cases hy:cur2[i]? with
   |none=>rw[Q7 (l:=l) (by rw[Array.getElem?_eq_none_iff]at hy;omega)];rfl
   |some y=>obtain⟨e,h1,_,h3⟩:=hget i y hy;rw[h1];simp[h3]
  have hkk:cur2.toList.map (·.key)=l.map (fun e=>encZ e.1):=by
   apply U0
   intro i;rw[N8,N8,Array.getElem?_toList];cases hy:cur2[i]? with
   |none=>rw[Q7 (l:=l) (by rw[Array.getElem?_eq_none_iff]at hy;omega)];rfl
   |some y=>obtain⟨e,h1,h2,_⟩:=hget i y hy;rw[h1];simp[h2]
  have hown:w.ownsMap Tryz.prog 3 noR b2 cur2.size (datK (l.map fun e=>kI e.1)):=by
   refine xt hheap2 (by simp[hlen]) (by simp[maxLen];omega) (fun i y hy=>?_) (fun y hy=>?_) (by rw[hbk];exact hw.borns) ?_
   ·obtain⟨e,h1,h2,_⟩:=hget i y hy;refine⟨kI e.1,by rw[N8,h1];rfl,?_⟩;have hu:Tryz.prog.underlying 3=some (.int .i64):=(by kernel_rfl);have:=hb e (N4 h1);have hwf:(Lit.int .i64 e.1).wf=true:=by
     simp only[Lit.wf,L7,M7];exact this
    rw[h2];simp[keyOf,hu,mapKey,encZ,kI,hwf]
   ·obtain⟨i,hi⟩:=Q4 hy;obtain⟨e,h1,_,h3⟩:=hget i y (by simpa using hi);rw[h3];exact hw.lt e (N4 h1)
   ·rw[hkk];have:=hw.keys;rw[show(l.map fun e=>encZ e.1)=(l.map (·.1)).map encZ by simp];exact List.Pairwise.map encZ (fun a b hab he=>hab (by first|exact encZ_inj he| (simpa [encStr]using he))) this
  have hsz:Maps.size (datK (l.map fun e=>kI e.1))=l.length:=by rw[sV];simp
  change OpOk Tryz.prog _ ((callFunc 78 #[Value.func (Fn.func I) #[] #[Value.pointer (some ⟨b0,0,none⟩)]]).run Tryz.prog w)
  rw[ci (f:=78) Tryz.func78 rfl rfl];refine(hI b0 b2 _ _ _ w (O6.1 hheap).1 hcell0 hown (by rw[hsz];simp[maxLen];omega) (by rw[hsz];omega)).mono fun e w' ⟨v,ss,he,hperm,hrow,_,hbel⟩=>?_
  refine⟨v,he,?_⟩;have hk:(intKeys (datK (l.map fun e=>kI e.1))).Perm (l.map (·.1)):=by
   unfold datK;refine((jV _).map _).trans ?_;rw[V0,V0];exact List.Perm.of_eq (V9 fun e _=>rfl)
  have hs:ss.mergeSort (fun x y=>decide (x≤y))=(l.map (·.1)).mergeSort (fun x y=>decide (x≤y)):=mergeSort_of_perm_i (hperm.trans hk);rw[hs]at hrow;have hl2:ss.length=((l.map (·.1)).mergeSort (fun x y=>decide (x≤y))).length:=by
   rw[← hs,(Z3 _ _).length_eq]
  rw[hl2]at hrow;obtain⟨S',f',st',r'⟩:=vu (av:=iA) (enc:=encZ) (fun _=>rfl) (fun _=>rfl) (fun _ _ _ _=>by first|exact .int _ _|exact .str _) fit hrow hbel;exact⟨_,h,S',μ,⟨rfl,rfl⟩,st',f',r'⟩
end Go.Av
namespace Go.Av
open Go Go.Proofs Go.RowKit
attribute [local irreducible] WP WPl WPix Sat
section
variable {C:Ctx} {B:Nat} {S:Addr→Prop} {μ:Map} {h:Heap} {w w':World}
theorem Flat.dropR{rows:List AVal}{cur:List Value}{m:Nat}(fl:Flat w S μ m rows (cur.take (rows.length*m)))(k:Nat)(hk:k≤rows.length):Flat w S μ m (rows.drop k) ((cur.drop (k*m)).take ((rows.length-k)*m)):=by
 have hlm:(rows.length-k)*m+k*m=rows.length*m:=by rw[← T3];congr 1;omega
 have gt:∀{i:Nat} {r:AVal},(rows.drop k)[i]? =some r→rows[k+i]? =some r:=fun hi=>by rwa [P4]at hi
 refine⟨?_,fun i r hi=>fl.lens _ r (gt hi),fun i r j c hi hj=>fl.sto _ r j c (gt hi) hj,fun i r j c hi hj=>?_⟩
 ·have:=fl.len;simp only[N9,P5]at this ⊢;omega
 ·obtain⟨x,hx',hr⟩:=fl.rep _ r j c (gt hi) hj;refine⟨x,?_,hr⟩;have hi':=(f9.1 hi).1;rw[P5]at hi';have hlt:i*m+j<(rows.length-k)*m:=cA hi' (by rw[← fl.lens _ r (gt hi)];exact(f9.1 hj).1);have e:k*m+(i*m+j)=(k+i)*m+j:=by rw[T3];omega
  rw[N5 hlt,P4,e];exact aR hx'
theorem Flat.one{rows:List AVal}{xs:List Value}{m:Nat}(hm:0<m)(fl:Flat w S μ m rows xs):∀v∈xs,v.oneCell'=true:=fun v hv=>by
 obtain⟨t,ht⟩:=Q4 hv;have hlt:=(f9.1 ht).1;rw[fl.len]at hlt;have hr:t/m<rows.length:=Nat.div_lt_of_lt_mul (by rwa [Nat.mul_comm]);have h1:rows[t/m]? =some rows[t/m]:=L9 hr;have hc:t%m<rows[t/m].cells.length:=by rw[fl.lens _ _ h1];exact Nat.mod_lt _ hm
 have h2:rows[t/m].cells[t%m]? =some rows[t/m].cells[t%m]:=L9 hc;obtain⟨x,hx,hrep⟩:=fl.rep _ _ _ _ h1 h2;have e:t/m*m+t%m=t:=Nat.div_add_mod' t m;rw[e,ht]at hx;cases hx;exact hrep.oneCell (fl.sto _ _ _ _ h1 h2)
theorem xu(f:Fits C B S μ h w){p:Nat}{m:MB}(hm:μ[p]? =some m)(o:Only w w' m.blk){e n g cp:Nat}{rows:List AVal}{Z:Array Value}(hg:m.blk=some g∨(w.heap.size≤g∧g<w'.heap.size))
  (hn:0<n)(hh:w'.heap[g]? =some (.cells Z e (0,0)))(hz:Z.size=cp*n)(hl:0<cp∧rows.length≤cp)(hx:cp≤maxLen)(fl:Flat w S μ n rows (Z.toList.take (rows.length*n))):
  ∃μ',Step B S μ w S μ' w'∧Fits C B S μ' (h.set p (.row e n (m.ver+1) rows)) w'∧Rep w' S μ' (.hs p (m.ver+1) 0 rows.length true) (.slice (some ⟨g,0,none⟩) rows.length cp):=by
 have hlt:=(f9.1 hm).1;have st0:=bF f hm o (bw (m':=⟨some g,m.ver+1,n,cp⟩) hm (by simp) (by simp));have hrf:BlkFits w' S (μ.set p ⟨some g,m.ver+1,n,cp⟩) ⟨some g,m.ver+1,n,cp⟩ (.row e n (m.ver+1) rows):=
  cB hn rfl rfl rfl hh hz hl hx (fl.mono st0) rfl
 obtain⟨f',st⟩:=f.update (m':=⟨some g,m.ver+1,n,cp⟩) hm o (by simp) (by simp) (by rcases hg with hg|hg;exact .inl hg.symm;exact .inr ⟨g,rfl,hg.1,hg.2⟩) hrf;refine⟨_,st,f',.hs _ _ _ _ _ ⟨some g,m.ver+1,n,cp⟩ _ (by rw[P6 hlt]) (M2 _) (by simp) rfl fun _=>.inr ⟨g,rfl,by simpa using hl.2,by simp⟩⟩
end
theorem xw(G:Nat→Option (List AVal))(l:List Ky)(k:Ky)(i v p q v2:Nat)(rm:Bool)(hi:i<l.length)(hl:l.length≤100000)(h:Heap)(hp:getRow h p v=some (78,3,l.map Ky.av))(hq:getRow h q v2=some (78,3,[k.av]))(hne:p≠q):
  Sat (CT G) 51 [.hs p v 0 l.length true,.int .i64 i,.hs q v2 0 1 rm] h
   (fun r h'=>r=.hs p (v+1) 0 (l.length+1) true∧h'=h.set p (.row 78 3 (v+1) ((l.take i++k::l.drop i).map Ky.av))):=by
 unfold Sat;intro B S μ w us fit rl;obtain⟨hul,hur⟩:=rl
 match us,hul,hur with
 | [u0,u1,u2],_,hur=>
  have r0:Rep w S μ (.hs p v 0 l.length true) u0:=hur 0 _ rfl;have r1:Rep w S μ (.int .i64 i) u1:=hur 1 _ rfl;have r2:Rep w S μ (.hs q v2 0 1 rm) u2:=hur 2 _ rfl;obtain rfl:=r1.int_inv;obtain⟨m,hm,hf⟩:=fit.row hp;obtain⟨m2,hm2,hf2⟩:=fit.row hq;have hver:=hf.hver;have hver2:=hf2.hver;have hsz3:=hf.hsize;rcases r0.hs_now hm hver with⟨_,_,h1,_⟩| ⟨b,hb,hcap,rfl⟩
  ·omega
  rcases r2.hs_now hm2 hver2 with⟨_,_,h1,_⟩| ⟨b2,hb2,hcap2,rfl⟩
  ·omega
  obtain⟨cur,hheap,hcs,hle,hmax,fl⟩:=hf.flat hb;obtain⟨cur2,hheap2,hcs2,hle2,hmax2,fl2⟩:=hf2.flat hb2;simp only[L8,List.length_singleton,Nat.one_mul]at fl fl2 hle hle2;have hnb:b2≠b:=fun e=>hne (fit.sep p q m m2 b hm hm2 hb (by rw[hb2,e]))
  simp only[if_true,Nat.sub_zero,zc2];have flr:Flat w S μ 3 (l.map Ky.av) (cur.toList.take ((l.map Ky.av).length*3)):=by rw[L8];exact fl
  have fA:=flr.takeR i (by rw[L8];omega);have fD:=flr.dropR i (by rw[L8];omega);rw[L8]at fD;have hnew:(l.take i++k::l.drop i).map Ky.av=((l.map Ky.av).take i++[k.av])++(l.map Ky.av).drop i:=by simp[X3,Z5]
  have fN:=(fA.append fl2).append fD;rw[← hnew]at fN;have hnl:((l.take i++k::l.drop i).map Ky.av).length=l.length+1:=by simp;omega
  have hc3:(l.length:Nat)*3≤cur.size:=by rw[hcs];exact S6 _ hle.2
  have hc23:3≤cur2.size:=by rw[hcs2];omega
  have hcl:cur.toList.length=cur.size:=X6;have hcl2:cur2.toList.length=cur2.size:=X6;have hAl:(cur.toList.take (i*3)).length=i*3:=by rw[N9,hcl];omega
  have hVl:(cur2.toList.take 3).length=3:=by rw[N9,hcl2];omega
  have hDl:((cur.toList.drop (i*3)).take ((l.length-i)*3)).length=(l.length-i)*3:=by rw[N9,P5,hcl];omega
  have h1:=fD.one (by omega);have h1v:=fl2.one (by omega);have fin:∀(w':World) (g cp:Nat) (Z E:List Value),Only w w' (some b)→(g=b∨(w.heap.size≤g∧g<w'.heap.size))→w'.heap[g]? =some (.cells Z.toArray 78 (0,0))→Z.length=cp*3→l.length+1≤cp→cp≤maxLen→
    Z=cur.toList.take (i*3)++cur2.toList.take 3++(cur.toList.drop (i*3)).take ((l.length-i)*3)++E→
    OpPost (CT G) B S μ w (fun r h'=>r=.hs p (v+1) 0 (l.length+1) true∧h'=h.set p (.row 78 3 (v+1) ((l.take i++k::l.drop i).map Ky.av))) (.slice (some ⟨g,0,none⟩) (l.length+1) cp) w':=by
   intro w' g cp Z E ho hg hh hz hcp hcm hZ;have hZl:(l.length+1)*3=(cur.toList.take (i*3)++cur2.toList.take 3++(cur.toList.drop (i*3)).take ((l.length-i)*3)).length:=by
    simp only[M5,hAl,hVl,hDl];omega
   obtain⟨μ',st,f',rp⟩:=xu (rows:=(l.take i++k::l.drop i).map Ky.av) fit hm (by rw[hb];exact ho) (e:=78) (n:=3) (cp:=cp) (Z:=Z.toArray) (g:=g) (by rcases hg with rfl|hg;exact .inl hb;exact .inr hg) (by decide) hh (by simpa using hz) ⟨by omega,by rw[hnl];exact hcp⟩ hcm (by
    rw[hnl];show Flat _ _ _ _ _ (List.take _ Z);rw[hZ,hZl,U3]
    ·exact fN
    ·rfl)
   rw[hnl,hver]at rp;rw[hver]at f';exact⟨_,_,S,μ',⟨rfl,rfl⟩,st,f',rp⟩
  change OpOk Tryz.prog _ ((callFunc 51 #[_,_,_]).run Tryz.prog w)
  rw[ci (f:=51) Tryz.func51 rfl rfl];by_cases hroom:l.length+1≤m.cap
  ·refine(uP b l.length m.cap i b2 _ cur cur2 w hi hroom (by simp only[maxLen]at hmax;omega) hnb hheap hcs hheap2 hc23 h1 h1v _ _ rfl rfl).mono fun e w' ⟨he,hw⟩=>?_
   refine⟨_,he,fin w' b m.cap _ (cur.toList.drop ((i+1)*3+(l.length-i)*3)) (by rw[hw];exact⟨rfl,rfl,rfl,by simp,fun j _ hj=>by rw[setRow_other _ _ _ _ (fun e=>hj (by rw[e])),setRow_other _ _ _ _ (fun e=>hj (by rw[e]))];rfl⟩) (.inl rfl) (by rw[hw];exact setRow_heap _ b _ _ _ _ (setRow_heap w.drew b cur _ _ _ hheap)) ?_ hroom hmax ?_⟩
   ·simp only[M5,N9,P5,X6,List.toList_toArray,hVl];omega
   ·rw[List.toList_toArray];have e1:(cur.toList.take ((i+1)*3)++(cur.toList.drop (i*3)).take ((l.length-i)*3)++cur.toList.drop ((i+1)*3+(l.length-i)*3)).take (i*3)=cur.toList.take (i*3):=by
     rw[P2,Z7 (by rw[N9,hcl];omega),zc7];congr 1;omega
    have e2:(cur.toList.take ((i+1)*3)++(cur.toList.drop (i*3)).take ((l.length-i)*3)++cur.toList.drop ((i+1)*3+(l.length-i)*3)).drop (i*3+3)=(cur.toList.drop (i*3)).take ((l.length-i)*3)++cur.toList.drop ((i+1)*3+(l.length-i)*3):=by
     rw[P2,zb0 (by rw[N9,hcl];omega)]
    rw[e1,e2];simp
  ·have hcm:=grownCap_le_maxLen w (l.length+1) m.cap 78 (by simp only[maxLen];omega);have hcg:=grownCap_ge w (l.length+1) m.cap 78;obtain⟨cp,hcpe⟩:∃cp,cp=grownCap w (l.length+1) m.cap 78:=⟨_,rfl⟩;rw[← hcpe]at hcm hcg;obtain⟨ROW,hROW⟩:∃ROW:Array Value,(cur.toList.take (i*3)).toArray++Builtin.zeroCells (Value.agg #[.int .i64 0,.int .i64 0,.int .i64 0]).cells (l.length+1-i)++Builtin.zeroCells (Value.agg #[.int .i64 0,.int .i64 0,.int .i64 0]).cells (cp-(l.length+1))=ROW:=⟨_,rfl⟩;obtain⟨Y1,hY1⟩:∃Y1:Array Value,(ROW.toList.take (i*3)++cur2.toList.take 3++ROW.toList.drop (i*3+3)).toArray=Y1:=⟨_,rfl⟩;obtain⟨Y2,hY2⟩:∃Y2:Array Value,(Y1.toList.take ((i+1)*3)++(cur.toList.drop (i*3)).take ((l.length-i)*3)++Y1.toList.drop ((i+1)*3+(l.length-i)*3)).toArray=Y2:=⟨_,rfl⟩;refine(uQ b l.length m.cap i b2 _ cur cur2 w hi hle.2 (by omega) (by omega) hheap hcs hheap2 hc23 h1 h1v ROW Y1 Y2 cp hcpe hROW hY1 hY2).mono fun e w' ⟨he,hw⟩=>?_
   have hon:Only w w' (some b):=by
    rw[hw];refine⟨rfl,rfl,rfl,by simp,fun j hj _=>?_⟩;rw[setRow_other _ _ _ _ (by omega)];show(World.setRow _ _ _).heap[j]? =_;rw[setRow_other _ _ _ _ (by omega)];first|exact heap_alloc_old w.drew _ hj|exact heap_alloc_old w.drew _ _ hj
   have hz3:∀j,(Builtin.zeroCells (Value.agg #[.int .i64 0,.int .i64 0,.int .i64 0]).cells j).toList.length=j*3:=fun j=>by
    rw[X6,size_zeroCells];simp[Value.cells]
   have hRl:ROW.toList=cur.toList.take (i*3)++((Builtin.zeroCells (Value.agg #[.int .i64 0,.int .i64 0,.int .i64 0]).cells (l.length+1-i)).toList++(Builtin.zeroCells (Value.agg #[.int .i64 0,.int .i64 0,.int .i64 0]).cells (cp-(l.length+1))).toList):=by
    rw[← hROW];simp
   generalize hZ1:(Builtin.zeroCells (Value.agg #[.int .i64 0,.int .i64 0,.int .i64 0]).cells (l.length+1-i)).toList++(Builtin.zeroCells (Value.agg #[.int .i64 0,.int .i64 0,.int .i64 0]).cells (cp-(l.length+1))).toList=Z1 at hRl;have hZ1l:Z1.length=(l.length+1-i)*3+(cp-(l.length+1))*3:=(by rw[← hZ1,M5,hz3,hz3]);have hY1l:Y1.toList=cur.toList.take (i*3)++cur2.toList.take 3++Z1.drop 3:=by
    rw[← hY1,hRl,U3 hAl];show _++List.drop (i*3+3) _=_;rw[← W3,zb0 hAl]
   have hT:Y1.toList.take ((i+1)*3)=cur.toList.take (i*3)++cur2.toList.take 3:=by
    rw[hY1l,U3 (by rw[M5,hAl,hVl];omega)]
   have hY2l:Y2.toList=cur.toList.take (i*3)++cur2.toList.take 3++(cur.toList.drop (i*3)).take ((l.length-i)*3)++Y1.toList.drop ((i+1)*3+(l.length-i)*3):=by
    rw[← hY2, ← hT]
   refine⟨_,he,fin w' w.heap.size cp Y2.toList _ hon (.inr ⟨M2 _,by rw[hw];simp⟩) ?_ ?_ hcg hcm hY2l⟩
   ·rw[hw,Array.toArray_toList];exact setRow_heap _ _ _ _ _ _ (setRow_heap (w.drew.alloc (.cells ROW _)) _ _ Y1 _ _ (heap_alloc_new w.drew _))
   ·rw[hY2l,M5,M5,M5,hAl,hVl,hDl,P5,hY1l,M5,M5,hAl,hVl,P5,hZ1l];omega
theorem oc{h:Heap}{p v len n m:Nat}{b:Bool}{rows:List AVal}(hg:getRow h p v=some (m,n,rows))(hl:rows.length=len):elemsOf h n (.hs p v 0 len b)=some rows:=by
 simp only[elemsOf,hg,true_and];rw[M1 (by omega),Y3,M4 (by omega)]
variable (G:Nat→Option (List AVal))
theorem xx(l:List Ky)(k:Ky)(v p q v2:Nat)(rm:Bool)(hl:l.length≤100000)(h:Heap)(hp:getRow h p v=some (78,3,l.map Ky.av))(hq:getRow h q v2=some (78,3,[k.av])):
  Sat (CT G) 51 [.hs p v 0 l.length true,.int .i64 l.length,.hs q v2 0 1 rm] h
   (fun r h'=>r=.hs p (v+1) 0 (l.length+1) true∧h'=h.set p (.row 78 3 (v+1) ((l++[k]).map Ky.av))):=by
 have s1:aslice Tryz.prog h 63 (.hs p v 0 l.length true) (some (.int .i64 (l.length:Int))) none none=some (.sl 3 [])∨aslice Tryz.prog h 63 (.hs p v 0 l.length true) (some (.int .i64 (l.length:Int))) none none=some (.hs p v (0+l.length) 0 true):=by
  have e1:elmT Tryz.prog 63=some 78:=by simp only[go_sem]
  have e2:szOf Tryz.prog 78=some 3:=by simp only[go_sem]
  simp only[aslice,e1,e2,hp,optInt,if_true];by_cases h0:l=[]
  ·subst h0;right;simp
  ·left;have:0<l.length:=X5.2 h0;rw[L5 (by omega),M1 (by simp)]
 rw[Ky.av_eq]at hq;rcases s1 with s1|s1;all_goals have hy:=oc (b:=rm) hq (rfl:[AVal.agg [.int .i64 k.d,.int .i64 k.i,.int .i64 k.f]].length=1)
 ·have F:=F4 hp hq s1 (F3 (@S5 Int _ _) (@S5 Bool _ _) (@S5 Bs _ _));refine sb [.tmp 6] Tryz.func51 ?_;intro Q hQ;refine wk F ?_;refine bB (.inl rfl) (by simp(disch:=first|omega| (simp only[go_sem, ↓reduceIte,seval];first|done|omega)|fail) only[go_sem, ↓reduceIte,seval,F];try rfl) (by simp(disch:=first|omega| (simp only[go_sem, ↓reduceIte,seval];first|done|omega)|fail) only[go_sem, ↓reduceIte,seval,F];try rfl) (by simp(disch:=first|omega| (simp only[go_sem, ↓reduceIte,seval];first|done|omega)|fail) only[go_sem, ↓reduceIte,seval,F];try rfl) (by simp(disch:=first|omega| (simp only[go_sem, ↓reduceIte,seval];first|done|omega)|fail) only[go_sem, ↓reduceIte,seval,F];try rfl) (by omega) hy hp (L8 ..).symm ⟨by simp[maxLen];omega,by simp;omega⟩ ?_;try refine sq F ?_
  refine wk F ?_;refine ee hQ F ?_;exact za0 (by simp) (.hs _ _ _ _ _ (by rw[W2];exact aT hp)) ⟨by simp,by simp[Ky.av]⟩
 ·have F:=F4 hp hq s1 (F3 (@S5 Int _ _) (@S5 Bool _ _) (@S5 Bs _ _));refine sb [.tmp 6] Tryz.func51 ?_;intro Q hQ;refine wk F ?_;refine bB (.inl rfl) (by simp(disch:=first|omega| (simp only[go_sem, ↓reduceIte,seval];first|done|omega)|fail) only[go_sem, ↓reduceIte,seval,F];try rfl) (by simp(disch:=first|omega| (simp only[go_sem, ↓reduceIte,seval];first|done|omega)|fail) only[go_sem, ↓reduceIte,seval,F];try rfl) (by simp(disch:=first|omega| (simp only[go_sem, ↓reduceIte,seval];first|done|omega)|fail) only[go_sem, ↓reduceIte,seval,F];try rfl) (by simp(disch:=first|omega| (simp only[go_sem, ↓reduceIte,seval];first|done|omega)|fail) only[go_sem, ↓reduceIte,seval,F];try rfl) (by omega) hy hp (L8 ..).symm ⟨by simp[maxLen];omega,by simp;omega⟩ ?_;try refine sq F ?_
  refine wk F ?_;refine ee hQ F ?_;exact za0 (by simp) (.hs _ _ _ _ _ (by rw[W2];exact aT hp)) ⟨by simp,by simp[Ky.av]⟩
theorem vw{C:Ctx}{ops:Array Oper}{dst:Option Tmp}{ty:TypeId}{pos:String}{aft:Array Edge}{t:Env}{h:Heap}{K:AVal→Heap→Prop}{x:Operand}{T e n:Nat}{v:AVal}(hv:aev C.G t x=v)(he:elmT C.P T=some e)(hn:szOf C.P e=some n)
  (hz:(zroT C.P e).map (fun z=>(z.cells.length,z.cells.all AVal.sto))=some (n,true))(hc:v.cells.length=n)(hl:v.lies=true)(h0:0<n∧n≤16777216)(k:K (.hs h.length 0 0 1 true) (h++[.row e n 0 [v]])):
  wpOperV C ops ⟨dst,.buildSlice T 1 #[(0,x)],ty,pos,aft,none⟩ t h K:=by
 show wpOp C (.buildSlice T 1 #[(0,x)]) t h K;subst hv;simp only[wpOp];rw[he];show need (szOf C.P e) _;rw[hn];unfold need;simp only[];rw[L5 (by decide)];exact⟨rfl,by decide,h0.1,by omega,rfl,hz,fun y hy=>by simp at hy;subst hy;exact⟨hc,hl⟩,.inl k⟩
section
variable {l:List Ky} {H:Heap} {n v:Nat}
theorem BS(hl:l.length≤100000)(k:Ky)(q:Nat)(hn:n+2≤H.length)(hq:n+2≤q)(hr:getRow H q 0=some (78,3,[k.av])):
  Sat (CT G) 51 [.hs (n+1) v 0 l.length true,.int .i64 (pst l k),.hs q 0 0 1 true] (vo H n v l)
   (fun r h'=>r=.hs (n+1) (v+1) 0 (insK l k).length true∧h'=(vo H n v l).set (n+1) (.row 78 3 (v+1) ((insK l k).map Ky.av))):=by
 have hr2:getRow (vo H n v l) q 0=some (78,3,[k.av]):=(eD hn 0 hq).trans hr;rw[jm];rcases Z6 (pst l k) l.length with h|h
 ·exact xw G l k _ v _ q 0 true h hl _ (bX hn) hr2 (by omega)
 ·have e:pst l k=l.length:=Nat.le_antisymm (io l k) h;have e2:insK l k=l++[k]:=by unfold insK;rw[e,W9,List.drop_length]
  rw[e,e2];exact xx G l k v _ q 0 true hl _ (bX hn) hr2
theorem ph(hs:Sk l)(hl:l.length≤100000)(t:It)(hn:n+2≤H.length):Sat (CT G) 25 [.hp n 0 0 0,t.av] (vo H n v l) (fun r h'=>r=.tup []∧h'=vo H n (v+1) (insK l t.ky)):=by
 skip
 refine sb [] Tryz.func25 ?_;intro Q hQ;refine wn trivial ?_;refine aA 11 [9,10] [true,true,true,true,true,true,true,true,true,false,false] (.one 9 [false,false,true,true,true,false,true,true] (.one 10 [] .fin)) (by decide+kernel) (by kernel_rfl) (by decide+kernel) ?_;simp only[aD,aE,aC];try refine sq trivial ?_
 repeat' ((first|refine ae ?_|refine af ?_|refine ah ?_ ?_)<;>try refine sq trivial ?_)
 all_goals try refine wn trivial ?_
 refine au (jo G hs (by omega) t.ky (by simp;omega)) ?_;try refine sq trivial ?_
 refine wn trivial ?_;repeat' ((first|refine ae ?_|refine af ?_|refine ah ?_ ?_)<;>try refine sq trivial ?_)
 all_goals try refine wn trivial ?_
 refine vw (n:=3) (by simp(disch:=first|omega| (simp only[go_sem, ↓reduceIte,seval];first|done|omega)|fail) only[go_sem, ↓reduceIte,seval];rfl) (by simp(disch:=first|omega| (simp only[go_sem, ↓reduceIte,seval];first|done|omega)|fail) only[go_sem, ↓reduceIte,seval];try rfl) (by simp(disch:=first|omega| (simp only[go_sem, ↓reduceIte,seval];first|done|omega)|fail) only[go_sem, ↓reduceIte,seval];try rfl) (by simp(disch:=first|omega| (simp only[go_sem, ↓reduceIte,seval];first|done|omega)|fail) only[go_sem, ↓reduceIte,seval];try rfl) rfl rfl (by decide) ?_;refine⟨?_,?_⟩
 ·try refine sq trivial ?_
  exact au (jo G hs (by omega) t.ky (by simp;omega)) rfl
 repeat' ((first|refine ae ?_|refine af ?_|refine ah ?_ ?_)<;>try refine sq trivial ?_)
 all_goals try refine wn trivial ?_
 have hki:=BS G (H:=H++[.row 69 9 0 [t.av],.row 78 3 0 [t.ky.av],.row 78 3 0 [t.ky.av]]) (n:=n) (v:=v) hl t.ky (H.length+2) (by simp;omega) (by omega) (by rw[aV _ rfl];rfl);refine hki.mono ?_;rintro r h' ⟨rfl,rfl⟩;have F:= @ax;try refine sq F ?_
 repeat' ((first|refine ae ?_|refine af ?_|refine ah ?_ ?_)<;>try refine sq F ?_)
 all_goals try refine wn F ?_
 refine ee hQ F ?_;rw[pg (by simp;omega)];exact bC hn (.tup _ (fun x hx=>by simp at hx)) ⟨rfl,rfl⟩
end
end Go.Av
namespace Go.Av
open Go Go.Proofs Go.RowKit
attribute [local irreducible] WP WPl WPix Sat
variable (G:Nat→Option (List AVal))
def PS.within(s:PS)(id:Int):Bool:=decide (id=0)||(lkM s.fo id).isSome
theorem eT(s:PS)(id:Int){H:Heap}{n:Nat}(hn:n+9≤H.length):Sat (CT G) 71 [.hp (n+8) 0 0 0,.int .i64 id] (so H n s) (fun r h'=>r=.bool (s.within id)∧h'=so H n s):=by
 refine sb [.tmp 4] Tryz.func71 ?_;intro Q hQ;refine wk trivial ?_;(first|refine gq trivial (fun g=>?_) (fun g=>?_)|refine pq trivial (fun g=>?_) (fun g=>?_))<;>(try exact g.elim)<;>(try refine sq trivial ?_)<;>(refine wk trivial ?_)
 ·refine ee hQ trivial ?_;exact az hn (.bool _) ⟨by simp[PS.within,g],rfl⟩
 ·refine ee hQ trivial ?_;exact az hn (.bool _) ⟨by simp[PS.within,g],rfl⟩
def PS.hold(s:PS)(id k:Int):PS:=if id=0 then s else {s with he:=upM s.he s.c8 id ((lkM s.he id).getD 0+k),c8:=ckM s.he s.c8 id}
theorem cD(s:PS)(id k:Int)(hk: -1000000≤(lkM s.he id).getD 0∧(lkM s.he id).getD 0≤1000000)(hk': -1≤k∧k≤1){H:Heap}{n:Nat}(hn:n+9≤H.length):Sat (CT G) 39 [.hp (n+8) 0 0 0,.int .i64 id,.int .i64 k] (so H n s) (fun r h'=>r=.tup []∧h'=so H n (s.hold id k)):=by
 refine sb [] Tryz.func39 ?_;intro Q hQ;refine wk trivial ?_;refine cq trivial (fun c=>?_) (fun c=>?_)<;>(try exact c.elim)<;>(refine wk trivial ?_)
 ·refine ee hQ trivial ?_;exact cQ hn (.tup _ (by simp)) ⟨rfl,by rw[PS.hold,L5 (by omega)]⟩
 ·refine ee hQ trivial ?_;exact cQ hn (.tup _ (by simp)) ⟨rfl,by rw[PS.hold,M1 (by omega)]⟩
def PS.raise(s:PS)(k:Nat)(id:Int):PS:=match k with
 |0=> {s with t1:=if id>s.t1 then id else s.t1}
 |1=> {s with t2:=if id>s.t2 then id else s.t2}
 |2=> {s with t3:=if id>s.t3 then id else s.t3}
 |_=> {s with t4:=if id>s.t4 then id else s.t4}
theorem dF(s:PS)(k:Nat)(id:Int)(hk:k<4){H:Heap}{n:Nat}(hn:n+9≤H.length):Sat (CT G) 77 [.hp (n+8) 0 0 0,.int .i64 (k:Int),.int .i64 id] (so H n s) (fun r h'=>r=.tup []∧h'=so H n (s.raise k id)):=by
 match k,hk with
 |0,_=>
  refine sb [] Tryz.func77 ?_;intro Q hQ;refine wk trivial ?_;refine ee hQ trivial ?_;exact cQ hn (.tup _ (by simp)) ⟨rfl,by simp only[PS.raise,M7]⟩
 |1,_=>
  refine sb [] Tryz.func77 ?_;intro Q hQ;refine wk trivial ?_;refine ee hQ trivial ?_;exact cQ hn (.tup _ (by simp)) ⟨rfl,by simp only[PS.raise,M7]⟩
 |2,_=>
  refine sb [] Tryz.func77 ?_;intro Q hQ;refine wk trivial ?_;refine ee hQ trivial ?_;exact cQ hn (.tup _ (by simp)) ⟨rfl,by simp only[PS.raise,M7]⟩
 |3,_=>
  refine sb [] Tryz.func77 ?_;intro Q hQ;refine wk trivial ?_;refine ee hQ trivial ?_;exact cQ hn (.tup _ (by simp)) ⟨rfl,by simp only[PS.raise,M7]⟩
def deepO(l:ML Int Fo):Nat→Int→Option Nat
 |0,id=>if (lkM l id).isSome then none else some 0
 |k+1,id=>match lkM l id with
  |none=>some 0
  |some f=>(deepO l k f.inn).map (· +1)
theorem qx(s:PS)(id:Int)(k d:Nat)(hd:deepO s.fo k id=some d)(hk:d≤1000){H:Heap}{n:Nat}(hn:n+9≤H.length):Sat (CT G) 72 [.hp (n+8) 0 0 0,.int .i64 id] (so H n s) (fun r h'=>r=.int .i64 d∧h'=so H n s):=by
 have step:∀(k m:Nat) (id:Int),deepO s.fo k id=some (d-m)→m≤d→((lkM s.fo id).isSome=true∧m+1≤d∧∃k,deepO s.fo k ((lkM s.fo id).getD Fo.z).inn=some (d-(m+1)))∨((lkM s.fo id).isSome=false∧m=d):=by
  intro k m id h hm;cases k with
  |zero=>
   rw[deepO]at h;cases hl:lkM s.fo id with
   |none=>rw[hl]at h;simp at h;exact .inr ⟨rfl,by omega⟩
   |some f=>rw[hl]at h;simp at h
  |succ k=>
   rw[deepO]at h;cases hl:lkM s.fo id with
   |none=>rw[hl]at h;simp at h;exact .inr ⟨rfl,by omega⟩
   |some f=>
    rw[hl]at h;simp only[N1]at h;obtain⟨j,hj,hd⟩:=h;exact .inl ⟨rfl,by omega,k,by rw[Q8,hj];congr 1;omega⟩
 refine sb [.tmp 4] Tryz.func72 ?_;intro Q hQ;refine wk trivial ?_;refine lm (fun nL tL hL=>∃(m:Nat) (f:Fo) (b:Bool),d-m=nL∧so (H++[.row 99 3 0 [.agg [.int .i64 f.id,.int .i64 f.inn,.str f.name]]]) n s=hL∧tL 0=.hp (n+8) 0 0 0∧tL 5=.int .i64 m∧tL 6=.hp H.length 0 0 0∧tL 7=.bool b∧((b=true∧m+1≤d∧∃k,deepO s.fo k f.inn=some (d-(m+1)))∨(b=false∧m=d))) ((fun(m:Nat) (f:Fo) (b:Bool)=>(d-m:Nat)) (0) ((lkM s.fo id).getD Fo.z) ((lkM s.fo id).isSome)) ?_ ?_
 ·refine M0 ⟨0,(lkM s.fo id).getD Fo.z,(lkM s.fo id).isSome,rfl,aw,?_,?_,?_,?_,step k 0 id hd (by omega)⟩;all_goals try exact zZz trivial
 rintro _ s2 h' ⟨m,f,b,rfl,rfl,e0,e5,e6,e7,hi⟩ K2 hK2;simp only[ai,ak,Nat.reduceEqDiff, ↓reduceIte]at e0 e5 e6 e7;have F:=F4 e0 e5 e6 e7;refine wk F ?_;refine cq F (fun c=>?_) (fun c=>?_)<;>(try exact c.elim)<;>(refine wk F ?_)
 ·rcases hi with⟨_,h1,k1,h2⟩| ⟨h1,_⟩
  ·refine jh 8 (.two 8 (.two 9 (.one 10 (.one 11 .nil)) 10 (.one 9 (.one 11 .nil))) 9 (.one 8 (.one 10 (.one 11 .nil)))) (by decide+kernel) (by kernel_rfl) (by decide+kernel) ?_;simp only[R2,S9];(try refine sq F ?_);repeat' (first|refine di ?_| (refine dj rfl ?_;refine sq F ?_)| (refine dn rfl rfl ?_ ?_<;>refine sq F ?_))
   all_goals (
    refine hK2 _ _ _ (M0 ⟨m+1,(lkM s.fo f.inn).getD Fo.z,(lkM s.fo f.inn).isSome,rfl,aw,?_,?_,?_,?_,step k1 (m+1) f.inn h2 h1⟩) (by omega);all_goals try exact zZz F)
  ·rw[c]at h1;cases h1
 ·rcases hi with⟨h1,_⟩| ⟨_,h1⟩
  ·rw[c]at h1;cases h1
  ·subst h1;refine ee hQ F ?_;exact az hn (.int _ _) ⟨rfl,rfl⟩
def sortI(l:List Int):List Int:=l.mergeSort (fun x y=>decide (x≤y))
def valsM{α:Type}(z:α)(l:ML Int α):List α:=(sortI (l.map (·.1))).map fun k=>(lkM l k).getD z
theorem cR(l:List Int):(sortI l).length=l.length:=(Z3 _ _).length_eq
theorem Fo.cells_sto(e:Fo):∀c∈e.av.cells,c.sto=true:=by
 intro c hc;simp only[Fo.av,AVal.cells,N2,X0,or_false]at hc;rcases hc with rfl|rfl|rfl<;>rfl
theorem Fe.cells_sto(e:Fe):∀c∈e.av.cells,c.sto=true:=by
 intro c hc;simp only[Fe.av,AVal.cells,N2,X0,or_false]at hc;rcases hc with rfl|rfl|rfl|rfl<;>rfl
theorem Se.cells_sto(e:Se):∀c∈e.av.cells,c.sto=true:=by
 intro c hc;simp only[Se.av,AVal.cells,N2,X0,or_false]at hc;rcases hc with rfl|rfl|rfl<;>rfl
theorem It.cells_sto(e:It):∀c∈e.av.cells,c.sto=true:=by
 intro c hc;simp only[It.av,AVal.cells,N2,X0,or_false]at hc;rcases hc with rfl|rfl|rfl|rfl|rfl|rfl|rfl|rfl|rfl<;>rfl
theorem Fo.clo(N:Nat)(f:Fo):Clo N f.av:=bS fun c hc=>by simp[Fo.av]at hc;rcases hc with rfl|rfl|rfl<;>simp
theorem Fe.clo(N:Nat)(f:Fe):Clo N f.av:=bS fun c hc=>by simp[Fe.av]at hc;rcases hc with rfl|rfl|rfl|rfl<;>simp
theorem Se.clo(N:Nat)(f:Se):Clo N f.av:=bS fun c hc=>by simp[Se.av]at hc;rcases hc with rfl|rfl|rfl<;>simp
theorem qy(p:Nat)(h:Heap):Sat (CT G) 79 [.hm p] h (fun r h'=>r=.fn (.func 121) [] [.hp h.length 0 0 0]∧h'=h++[.row 87 1 0 [.hm p]]):=by
 refine sb [.tmp 2] Tryz.func79 ?_;intro Q hQ;refine wk trivial ?_;refine ee hQ trivial ?_;exact za0 (by simp) (.fn _ _ _ (fun _ h=>by cases h) (fun x hx=>by simp at hx;subst hx;exact .hp _ _ _ _ (by simp))) ⟨rfl,rfl⟩
theorem l7(s:PS)(hw:WFM s.fo s.c1)(hb:∀e∈s.fo, -9223372036854775808≤e.1∧e.1≤9223372036854775807)(hl:s.fo.length≤100000){H:Heap}{n:Nat}(hn:n+9≤H.length):Sat (CT G) 46 [.hm (n)] (so H n s) (fun r h'=>r=.sl 3 ((valsM Fo.z s.fo).map Fo.av)∧h'=so H n s):=by
 have hsl:=cR (s.fo.map (·.1));rw[L8]at hsl;refine sb [.tmp 2] Tryz.func46 ?_;intro Q hQ;refine wk trivial ?_;refine kq trivial (qy G _ _) ?_;refine kq trivial (dE G Fo.av _ Tryz.sortedKeys79 s.fo s.c1 hw hb hl (by rw[bM (by simp;omega) 0 (by omega),aH _ rfl];rfl) (BO (by simp;omega))) ?_;unfold valsM at hQ;have hks:(List.map (fun x=>x.1) s.fo).mergeSort (fun x y=>decide (x≤y))=sortI (s.fo.map (·.1)):=rfl;rw[hks];generalize sortI (s.fo.map (·.1))=ks at*;have hkm:(ks.map iA).length=ks.length:=L8 ..;have F:=hkm;refine lm (fun nL tL hL=>∃(k v:Nat) (acc:List Fo),ks.length-k=nL∧so (H++[.row 87 1 0 [.hm (n)],.row 99 3 v (acc.map Fo.av)]) n s=hL∧tL 0=.hm (n)∧tL 3=.hs (H.length+1) v 0 acc.length true∧tL 8=.sl 1 (ks.map iA)∧tL 9=.int .i64 (ks.length:Int)∧tL 10=.int .i64 k∧k≤ks.length∧acc.length=k∧acc++(ks.drop k).map (fun k=>(lkM s.fo k).getD Fo.z)=ks.map (fun k=>(lkM s.fo k).getD Fo.z)) ((fun(k v:Nat) (acc:List Fo)=>(ks.length-k:Nat)) (0) (0) ([])) ?_ ?_
 ·refine⟨_,_,Z2 3 99 3 (by simp) (by omega) (by exact zq F),⟨0,0,[],rfl,by rw[aQ (by simp;omega)];simp,?_,?_,?_,?_,?_,by omega,rfl,by simp⟩⟩;all_goals try exact zZz F
 rintro _ s2 h' ⟨k,v,acc,rfl,rfl,e0,e3,e8,e9,e10,hk,hac,hp⟩ K2 hK2;simp only[ai,ak,Nat.reduceEqDiff, ↓reduceIte]at e0 e3 e8 e9 e10;have F:=F6 F e0 e3 e8 e9 e10;refine wk F ?_;refine cq F (fun c1=>?_) (fun c1=>?_)<;>(try exact c1.elim)<;>(refine wk F ?_)
 ·have c2:k<ks.length:=by omega
  obtain⟨y,hy,hym⟩:=ac c2;rw[aF hy,N7]at hp;have F:=F3 F hy @ax;try refine sq F ?_
  refine wk F ?_;refine aq F ?_;try refine sq F ?_
  refine wk F ?_;refine hK2 _ _ _ (M0 ⟨k+1,v+1,acc++[(lkM s.fo y).getD Fo.z],rfl,by simp[Fo.av],?_,?_,?_,?_,?_,by omega,by simp;omega,by rw[← hp];simp⟩) (by omega);all_goals try exact zZz F
 ·rw[aG c1,R9,O2]at hp;refine ee hQ F ?_;rw[← hp];have hbl:n+(s.bl n).length≤H.length:=hn;have hg:getRow (so (H++[.row 87 1 0 [.hm (n)],.row 99 3 v (acc.map Fo.av)]) n s) (H.length+1) v=some (99,3,acc.map Fo.av):=by
   rw[bM (by simp;omega) v (by omega),aV _ rfl];simp[getRow]
  exact dq hbl rfl (PS.clo hn s) (za1 (by omega) hg (by simp) (fun r hr=>by obtain⟨a,_,rfl⟩:=N0.1 hr;exact Fo.clo _ a) (fun r hr=>by obtain⟨a,_,rfl⟩:=N0.1 hr;exact a.cells_sto)) ⟨rfl,rfl⟩
theorem qz(p:Nat)(h:Heap):Sat (CT G) 80 [.hm p] h (fun r h'=>r=.fn (.func 122) [] [.hp h.length 0 0 0]∧h'=h++[.row 88 1 0 [.hm p]]):=by
 refine sb [.tmp 2] Tryz.func80 ?_;intro Q hQ;refine wk trivial ?_;refine ee hQ trivial ?_;exact za0 (by simp) (.fn _ _ _ (fun _ h=>by cases h) (fun x hx=>by simp at hx;subst hx;exact .hp _ _ _ _ (by simp))) ⟨rfl,rfl⟩
theorem l8(s:PS)(hw:WFM s.fe s.c2)(hb:∀e∈s.fe, -9223372036854775808≤e.1∧e.1≤9223372036854775807)(hl:s.fe.length≤100000){H:Heap}{n:Nat}(hn:n+9≤H.length):Sat (CT G) 47 [.hm (n+1)] (so H n s) (fun r h'=>r=.sl 4 ((valsM Fe.z s.fe).map Fe.av)∧h'=so H n s):=by
 have hsl:=cR (s.fe.map (·.1));rw[L8]at hsl;refine sb [.tmp 2] Tryz.func47 ?_;intro Q hQ;refine wk trivial ?_;refine kq trivial (qz G _ _) ?_;refine kq trivial (dE G Fe.av _ Tryz.sortedKeys80 s.fe s.c2 hw hb hl (by rw[bM (by simp;omega) 0 (by omega),aH _ rfl];rfl) (BP (by simp;omega))) ?_;unfold valsM at hQ;have hks:(List.map (fun x=>x.1) s.fe).mergeSort (fun x y=>decide (x≤y))=sortI (s.fe.map (·.1)):=rfl;rw[hks];generalize sortI (s.fe.map (·.1))=ks at*;have hkm:(ks.map iA).length=ks.length:=L8 ..;have F:=hkm;refine lm (fun nL tL hL=>∃(k v:Nat) (acc:List Fe),ks.length-k=nL∧so (H++[.row 88 1 0 [.hm (n+1)],.row 86 4 v (acc.map Fe.av)]) n s=hL∧tL 0=.hm (n+1)∧tL 3=.hs (H.length+1) v 0 acc.length true∧tL 8=.sl 1 (ks.map iA)∧tL 9=.int .i64 (ks.length:Int)∧tL 10=.int .i64 k∧k≤ks.length∧acc.length=k∧acc++(ks.drop k).map (fun k=>(lkM s.fe k).getD Fe.z)=ks.map (fun k=>(lkM s.fe k).getD Fe.z)) ((fun(k v:Nat) (acc:List Fe)=>(ks.length-k:Nat)) (0) (0) ([])) ?_ ?_
 ·refine⟨_,_,Z2 3 86 4 (by simp) (by omega) (by exact zq F),⟨0,0,[],rfl,by rw[aQ (by simp;omega)];simp,?_,?_,?_,?_,?_,by omega,rfl,by simp⟩⟩;all_goals try exact zZz F
 rintro _ s2 h' ⟨k,v,acc,rfl,rfl,e0,e3,e8,e9,e10,hk,hac,hp⟩ K2 hK2;simp only[ai,ak,Nat.reduceEqDiff, ↓reduceIte]at e0 e3 e8 e9 e10;have F:=F6 F e0 e3 e8 e9 e10;refine wk F ?_;refine cq F (fun c1=>?_) (fun c1=>?_)<;>(try exact c1.elim)<;>(refine wk F ?_)
 ·have c2:k<ks.length:=by omega
  obtain⟨y,hy,hym⟩:=ac c2;rw[aF hy,N7]at hp;have F:=F3 F hy @ax;try refine sq F ?_
  refine wk F ?_;refine aq F ?_;try refine sq F ?_
  refine wk F ?_;refine hK2 _ _ _ (M0 ⟨k+1,v+1,acc++[(lkM s.fe y).getD Fe.z],rfl,by simp[Fe.av],?_,?_,?_,?_,?_,by omega,by simp;omega,by rw[← hp];simp⟩) (by omega);all_goals try exact zZz F
 ·rw[aG c1,R9,O2]at hp;refine ee hQ F ?_;rw[← hp];have hbl:n+(s.bl n).length≤H.length:=hn;have hg:getRow (so (H++[.row 88 1 0 [.hm (n+1)],.row 86 4 v (acc.map Fe.av)]) n s) (H.length+1) v=some (86,4,acc.map Fe.av):=by
   rw[bM (by simp;omega) v (by omega),aV _ rfl];simp[getRow]
  exact dq hbl rfl (PS.clo hn s) (za1 (by omega) hg (by simp) (fun r hr=>by obtain⟨a,_,rfl⟩:=N0.1 hr;exact Fe.clo _ a) (fun r hr=>by obtain⟨a,_,rfl⟩:=N0.1 hr;exact a.cells_sto)) ⟨rfl,rfl⟩
theorem qB(p:Nat)(h:Heap):Sat (CT G) 81 [.hm p] h (fun r h'=>r=.fn (.func 123) [] [.hp h.length 0 0 0]∧h'=h++[.row 89 1 0 [.hm p]]):=by
 refine sb [.tmp 2] Tryz.func81 ?_;intro Q hQ;refine wk trivial ?_;refine ee hQ trivial ?_;exact za0 (by simp) (.fn _ _ _ (fun _ h=>by cases h) (fun x hx=>by simp at hx;subst hx;exact .hp _ _ _ _ (by simp))) ⟨rfl,rfl⟩
theorem qC(p:Nat)(h:Heap):Sat (CT G) 82 [.hm p] h (fun r h'=>r=.fn (.func 124) [] [.hp h.length 0 0 0]∧h'=h++[.row 90 1 0 [.hm p]]):=by
 refine sb [.tmp 2] Tryz.func82 ?_;intro Q hQ;refine wk trivial ?_;refine ee hQ trivial ?_;exact za0 (by simp) (.fn _ _ _ (fun _ h=>by cases h) (fun x hx=>by simp at hx;subst hx;exact .hp _ _ _ _ (by simp))) ⟨rfl,rfl⟩
theorem l9(s:PS)(hw:WFM s.se s.c4)(hb:∀e∈s.se, -9223372036854775808≤e.1∧e.1≤9223372036854775807)(hl:s.se.length≤100000){H:Heap}{n:Nat}(hn:n+9≤H.length):Sat (CT G) 49 [.hm (n+3)] (so H n s) (fun r h'=>r=.sl 3 ((valsM Se.z s.se).map Se.av)∧h'=so H n s):=by
 have hsl:=cR (s.se.map (·.1));rw[L8]at hsl;refine sb [.tmp 2] Tryz.func49 ?_;intro Q hQ;refine wk trivial ?_;refine kq trivial (qC G _ _) ?_;refine kq trivial (dE G Se.av _ Tryz.sortedKeys82 s.se s.c4 hw hb hl (by rw[bM (by simp;omega) 0 (by omega),aH _ rfl];rfl) (BQ (by simp;omega))) ?_;unfold valsM at hQ;have hks:(List.map (fun x=>x.1) s.se).mergeSort (fun x y=>decide (x≤y))=sortI (s.se.map (·.1)):=rfl;rw[hks];generalize sortI (s.se.map (·.1))=ks at*;have hkm:(ks.map iA).length=ks.length:=L8 ..;have F:=hkm;refine lm (fun nL tL hL=>∃(k v:Nat) (acc:List Se),ks.length-k=nL∧so (H++[.row 90 1 0 [.hm (n+3)],.row 115 3 v (acc.map Se.av)]) n s=hL∧tL 0=.hm (n+3)∧tL 3=.hs (H.length+1) v 0 acc.length true∧tL 8=.sl 1 (ks.map iA)∧tL 9=.int .i64 (ks.length:Int)∧tL 10=.int .i64 k∧k≤ks.length∧acc.length=k∧acc++(ks.drop k).map (fun k=>(lkM s.se k).getD Se.z)=ks.map (fun k=>(lkM s.se k).getD Se.z)) ((fun(k v:Nat) (acc:List Se)=>(ks.length-k:Nat)) (0) (0) ([])) ?_ ?_
 ·refine⟨_,_,Z2 3 115 3 (by simp) (by omega) (by exact zq F),⟨0,0,[],rfl,by rw[aQ (by simp;omega)];simp,?_,?_,?_,?_,?_,by omega,rfl,by simp⟩⟩;all_goals try exact zZz F
 rintro _ s2 h' ⟨k,v,acc,rfl,rfl,e0,e3,e8,e9,e10,hk,hac,hp⟩ K2 hK2;simp only[ai,ak,Nat.reduceEqDiff, ↓reduceIte]at e0 e3 e8 e9 e10;have F:=F6 F e0 e3 e8 e9 e10;refine wk F ?_;refine cq F (fun c1=>?_) (fun c1=>?_)<;>(try exact c1.elim)<;>(refine wk F ?_)
 ·have c2:k<ks.length:=by omega
  obtain⟨y,hy,hym⟩:=ac c2;rw[aF hy,N7]at hp;have F:=F3 F hy @ax;try refine sq F ?_
  refine wk F ?_;refine aq F ?_;try refine sq F ?_
  refine wk F ?_;refine hK2 _ _ _ (M0 ⟨k+1,v+1,acc++[(lkM s.se y).getD Se.z],rfl,by simp[Se.av],?_,?_,?_,?_,?_,by omega,by simp;omega,by rw[← hp];simp⟩) (by omega);all_goals try exact zZz F
 ·rw[aG c1,R9,O2]at hp;refine ee hQ F ?_;rw[← hp];have hbl:n+(s.bl n).length≤H.length:=hn;have hg:getRow (so (H++[.row 90 1 0 [.hm (n+3)],.row 115 3 v (acc.map Se.av)]) n s) (H.length+1) v=some (115,3,acc.map Se.av):=by
   rw[bM (by simp;omega) v (by omega),aV _ rfl];simp[getRow]
  exact dq hbl rfl (PS.clo hn s) (za1 (by omega) hg (by simp) (fun r hr=>by obtain⟨a,_,rfl⟩:=N0.1 hr;exact Se.clo _ a) (fun r hr=>by obtain⟨a,_,rfl⟩:=N0.1 hr;exact a.cells_sto)) ⟨rfl,rfl⟩
theorem jW(s:PS)(hw:WFM s.it s.c3)(hb:∀e∈s.it, -9223372036854775808≤e.1∧e.1≤9223372036854775807)(hl:s.it.length≤100000){H:Heap}{n:Nat}(hn:n+9≤H.length):Sat (CT G) 48 [.hm (n+2)] (so H n s) (fun r h'=>∃v,r=.hs (H.length+1) v 0 (valsM It.z s.it).length true∧h'=so (H++[.row 89 1 0 [.hm (n+2)],.row 69 9 v ((valsM It.z s.it).map It.av)]) n s):=by
 have hsl:=cR (s.it.map (·.1));rw[L8]at hsl;refine sb [.tmp 2] Tryz.func48 ?_;intro Q hQ;refine wk trivial ?_;refine kq trivial (qB G _ _) ?_;refine kq trivial (dE G It.av _ Tryz.sortedKeys81 s.it s.c3 hw hb hl (by rw[bM (by simp;omega) 0 (by omega),aH _ rfl];rfl) (qr (by simp;omega))) ?_;unfold valsM at hQ;have hks:(List.map (fun x=>x.1) s.it).mergeSort (fun x y=>decide (x≤y))=sortI (s.it.map (·.1)):=rfl;rw[hks];generalize sortI (s.it.map (·.1))=ks at*;have hkm:(ks.map iA).length=ks.length:=L8 ..;have F:=hkm;refine lm (fun nL tL hL=>∃(k v:Nat) (acc:List It),ks.length-k=nL∧so (H++[.row 89 1 0 [.hm (n+2)],.row 69 9 v (acc.map It.av)]) n s=hL∧tL 0=.hm (n+2)∧tL 3=.hs (H.length+1) v 0 acc.length true∧tL 8=.sl 1 (ks.map iA)∧tL 9=.int .i64 (ks.length:Int)∧tL 10=.int .i64 k∧k≤ks.length∧acc.length=k∧acc++(ks.drop k).map (fun k=>(lkM s.it k).getD It.z)=ks.map (fun k=>(lkM s.it k).getD It.z)) ((fun(k v:Nat) (acc:List It)=>(ks.length-k:Nat)) (0) (0) ([])) ?_ ?_
 ·refine⟨_,_,Z2 3 69 9 (by simp) (by omega) (by exact zq F),⟨0,0,[],rfl,by rw[aQ (by simp;omega)];simp,?_,?_,?_,?_,?_,by omega,rfl,by simp⟩⟩;all_goals try exact zZz F
 rintro _ s2 h' ⟨k,v,acc,rfl,rfl,e0,e3,e8,e9,e10,hk,hac,hp⟩ K2 hK2;simp only[ai,ak,Nat.reduceEqDiff, ↓reduceIte]at e0 e3 e8 e9 e10;have F:=F6 F e0 e3 e8 e9 e10;refine wk F ?_;refine cq F (fun c1=>?_) (fun c1=>?_)<;>(try exact c1.elim)<;>(refine wk F ?_)
 ·have c2:k<ks.length:=by omega
  obtain⟨y,hy,hym⟩:=ac c2;rw[aF hy,N7]at hp;have F:=F3 F hy @ax;try refine sq F ?_
  refine wk F ?_;refine aq F ?_;try refine sq F ?_
  refine wk F ?_;refine hK2 _ _ _ (M0 ⟨k+1,v+1,acc++[(lkM s.it y).getD It.z],rfl,by simp[It.av],?_,?_,?_,?_,?_,by omega,by simp;omega,by rw[← hp];simp⟩) (by omega);all_goals try exact zZz F
 ·rw[aG c1,R9,O2]at hp;refine ee hQ F ?_;rw[← hp];have hal:acc.length=ks.length:=by omega
  exact za0 (by rw[aM hn,aM (by simp;omega)];simp) (.hs _ _ _ _ _ (by rw[aM (by simp;omega)];simp)) ⟨v,by simp[hal],rfl⟩
theorem jp{h0:Heap}{R:AVal→Heap→Prop}{r0 r:AVal}(hz:Frz h0 h0.length r0 r)(hR:R r h0):Fin h0 h0 R r0:=by
 have:=Fin.frz (h0:=h0) (j:=[]) (R:=R) (r0:=r0) (r:=r) (by rwa [O2]) hR
 rwa [O2]at this
theorem qD(l:List Bs)(hl:l.length≤1048576)(h:Heap):Sat (CT G) 74 [.sl 1 (l.map .str)] h (fun r h'=>r=.sl 1 (l.map .str)∧h'=h):=by
 rcases l with _| ⟨a,l⟩
 ·refine sb [.tmp 2] Tryz.func74 ?_;intro Q hQ;refine wk trivial ?_;refine jJ _ (by exact zq trivial) (.inl rfl) fun b=>?_
  cases b
  ·(try refine sq trivial ?_);refine wk trivial ?_;refine fL (.inl rfl) (by simp(disch:=first|omega| (simp only[go_sem, ↓reduceIte,seval];first|done|omega)|fail) only[go_sem, ↓reduceIte,seval];rfl) (by simp(disch:=first|omega| (simp only[go_sem, ↓reduceIte,seval];first|done|omega)|fail) only[go_sem, ↓reduceIte,seval];rfl) (by simp(disch:=first|omega| (simp only[go_sem, ↓reduceIte,seval];first|done|omega)|fail) only[go_sem, ↓reduceIte,seval];rfl) (by simp(disch:=first|omega| (simp only[go_sem, ↓reduceIte,seval];first|done|omega)|fail) only[go_sem, ↓reduceIte,seval];try rfl) (by omega) (by simp only[elemsOf, ↓reduceIte];try rfl) (by simp) (fun _=>?_) (fun h=>absurd rfl h);(try refine sq trivial ?_);refine wk trivial ?_;refine ee hQ trivial ?_;exact jp (.ezs _) ⟨rfl,rfl⟩
  ·(try refine sq trivial ?_);refine wk trivial ?_;refine ee hQ trivial ?_;exact jp (.nils _) ⟨rfl,rfl⟩
 ·have hr:(List.map AVal.str (a::l))≠ []:=by simp
  refine sb [.tmp 2] Tryz.func74 ?_;intro Q hQ;refine wk trivial ?_;refine fL (.inl rfl) (by simp(disch:=first|omega| (simp only[go_sem, ↓reduceIte,seval];first|done|omega)|fail) only[go_sem, ↓reduceIte,seval];rfl) (by simp(disch:=first|omega| (simp only[go_sem, ↓reduceIte,seval];first|done|omega)|fail) only[go_sem, ↓reduceIte,seval];rfl) (by simp(disch:=first|omega| (simp only[go_sem, ↓reduceIte,seval];first|done|omega)|fail) only[go_sem, ↓reduceIte,seval];rfl) (by simp(disch:=first|omega| (simp only[go_sem, ↓reduceIte,seval];first|done|omega)|fail) only[go_sem, ↓reduceIte,seval];try rfl) (by omega) (by simp only[elemsOf, ↓reduceIte];try rfl) ?_ (fun h=>by simp at h) (fun _=>?_)
  ·simp[maxLen]at hl ⊢;omega
  try refine sq trivial ?_
  refine wk trivial ?_;refine ee hQ trivial ?_;have hg:getRow (h++[.row 9 1 0 ((a::l).map .str)]) h.length 0=some (9,1,(a::l).map .str):=by rw[aH _ rfl];simp[getRow]
  have:=za1 (n:=h.length) (len:=(a::l).length) (room:=true) (M2 _) hg (by simp) (fun r hr=>by obtain⟨a,_,rfl⟩:=N0.1 hr;exact .str _) (fun r hr c hc=>by obtain⟨a,_,rfl⟩:=N0.1 hr;simp[AVal.cells]at hc;subst hc;rfl);simp only[M8,N7]at this;exact Fin.frz (by simpa using this) ⟨rfl,rfl⟩
theorem gA(t:It)(ht:t.tags.length≤1048576)(h:Heap):Sat (CT G) 50 [t.av] h (fun r h'=>r=t.av∧h'=h):=by
 refine sb [.cell 2 69] Tryz.func50 ?_;intro Q hQ;refine wk trivial ?_;refine kq trivial (qD G t.tags ht _) ?_;refine ye hQ trivial ?_;exact L6 (zd2 _ t) ⟨rfl,rfl⟩
theorem jX(s:PS)(id:Int)(ht:((lkM s.it id).getD It.z).tags.length≤1048576){H:Heap}{n:Nat}(hn:n+9≤H.length):Sat (CT G) 43 [.hp (n+8) 0 0 0,.int .i64 id] (so H n s) (fun r h'=>r=.tup [((lkM s.it id).getD It.z).av,.bool (lkM s.it id).isSome]∧h'=so H n s):=by
 refine sb [.cell 4 69,.tmp 5] Tryz.func43 ?_;intro Q hQ;refine wk trivial ?_;refine kq trivial (gA G ((lkM s.it id).getD It.z) ht _) ?_;refine ye hQ trivial ?_;exact az hn (.tup _ (fun x hx=>by simp only[N2,P7,or_false]at hx;rcases hx with rfl|rfl;exact zd2 _ _;exact .bool _)) ⟨rfl,rfl⟩
structure St where
 clock:Int
 fo:List Fo
 fe:List Fe
 it:List It
 se:List Se
 t1:Int
 t2:Int
 t3:Int
 t4:Int
def St.av(x:St):AVal:=.agg [.int .i64 x.clock,.sl 3 (x.fo.map Fo.av),.sl 4 (x.fe.map Fe.av),.sl 9 (x.it.map It.av),.sl 3 (x.se.map Se.av),.int .i64 x.t1,.int .i64 x.t2,.int .i64 x.t3,.int .i64 x.t4]
@[go_sem] theorem St.av_eq(x:St):x.av=.agg [.int .i64 x.clock,.sl 3 (x.fo.map Fo.av),.sl 4 (x.fe.map Fe.av),.sl 9 (x.it.map It.av),.sl 3 (x.se.map Se.av),.int .i64 x.t1,.int .i64 x.t2,.int .i64 x.t3,.int .i64 x.t4]:=(rfl)
def PS.tell(s:PS):St:=⟨s.clock,valsM Fo.z s.fo,valsM Fe.z s.fe,valsM It.z s.it,valsM Se.z s.se,s.t1,s.t2,s.t3,s.t4⟩
def inI(k:Int):Prop:= -9223372036854775808≤k∧k≤9223372036854775807
structure PS.Ok (s:PS):Prop where
 w1:WFM s.fo s.c1
 w2:WFM s.fe s.c2
 w3:WFM s.it s.c3
 w4:WFM s.se s.c4
 b1:∀e∈s.fo,inI e.1
 b2:∀e∈s.fe,inI e.1
 b3:∀e∈s.it,inI e.1
 b4:∀e∈s.se,inI e.1
 l1:s.fo.length≤100000
 l2:s.fe.length≤100000
 l3:s.it.length≤100000
 l4:s.se.length≤100000
 tg:∀t∈valsM It.z s.it,t.tags.length≤1048576
theorem aB{N:Nat}{h:Heap}{α:Type}{av:α→AVal}{m:Nat}(hc:∀a,Clo N (av a))(l:List α):Frz h N (.sl m (l.map av)) (.sl m (l.map av)):=
 .clo _ (Clo.sl _ _ fun x hx=>by obtain⟨a,_,rfl⟩:=N0.1 hx;exact hc a)
theorem vx(s:PS){H j:Heap}{n p v:Nat}(hn:n+9≤H.length)(hg:getRow (H++j) (H.length+p) v=some (69,9,(valsM It.z s.it).map It.av)):
  Fin (so H n s) (so (H++j) n s) (fun r h'=>r=s.tell.av∧h'=so H n s) (.agg [.int .i64 s.clock,.sl 3 ((valsM Fo.z s.fo).map Fo.av),.sl 4 ((valsM Fe.z s.fe).map Fe.av),.hs (H.length+p) v 0 (valsM It.z s.it).length true,.sl 3 ((valsM Se.z s.se).map Se.av),.int .i64 s.t1,.int .i64 s.t2,.int .i64 s.t3,.int .i64 s.t4]):=by
 have hl:H.length+p<(H++j).length:=aT hg;have hg':getRow (so (H++j) n s) (H.length+p) v=some (69,9,(valsM It.z s.it).map It.av):=by rw[bM (by simp;omega) v (by omega)];exact hg
 refine dq hn rfl (PS.clo hn s) (FrzL.agg (.cons (.clo _ (.int _ _)) (.cons (aB (Fo.clo _) _) (.cons (aB (Fe.clo _) _) (.cons (za1 (by omega) hg' (by simp) (fun r hr=>by obtain⟨a,_,rfl⟩:=N0.1 hr;exact zd2 _ a) (fun r hr=>by obtain⟨a,_,rfl⟩:=N0.1 hr;exact a.cells_sto)) (.cons (aB (Se.clo _) _) (.cons (.clo _ (.int _ _)) (.cons (.clo _ (.int _ _)) (.cons (.clo _ (.int _ _)) (.cons (.clo _ (.int _ _)) .nil))))))))) rfl) ⟨rfl,rfl⟩
def PS.tellH(s:PS)(p v:Nat):AVal:=.agg [.int .i64 s.clock,.sl 3 ((valsM Fo.z s.fo).map Fo.av),.sl 4 ((valsM Fe.z s.fe).map Fe.av),.hs p v 0 (valsM It.z s.it).length true,.sl 3 ((valsM Se.z s.se).map Se.av),.int .i64 s.t1,.int .i64 s.t2,.int .i64 s.t3,.int .i64 s.t4]
theorem od(s:PS)(hs:s.Ok){H:Heap}{n:Nat}(hn:n+9≤H.length)(R:AVal→Heap→Prop)
  (hR:∀(j:Heap) (p v:Nat),getRow (H++j) (H.length+p) v=some (69,9,(valsM It.z s.it).map It.av)→Fin (so H n s) (so (H++j) n s) R (s.tellH (H.length+p) v)):Sat (CT G) 24 [.hp (n+8) 0 0 0] (so H n s) R:=by
 have hvl:(valsM It.z s.it).length≤100000:=by unfold valsM;rw[L8,cR,L8];exact hs.l3
 refine sb [.cell 2 40] Tryz.func24 ?_;intro Q hQ;refine wk trivial ?_;refine aA 46 [8,13,18,23,44,45] [true,true,true,true,true,true,true,true,false,true,true,true,true,false,true,true,true,true,false,true,true,true,true,false,true,true,true,true,true,true,true,true,true,true,true,true,true,true,true,true,true,true,true,true,false,false] (.two 8 [false,true,true,true,false,false,false,false,false,false,true,true,true,false,false,true,true,true,false,false,true,true,true,false,false,true,true,true,true,false,true,true,true,true,false,true,true,true,true,false,true,true,true,true] (.two 13 [false,true,true,true,false,false,false,false,false,false,false,false,false,false,false,true,true,true,false,false,true,true,true,false,false,true,true,true,true,false,true,true,true,true,false,true,true,true,true,false,true,true,true,true] (.two 18 [false,true,true,true,false,false,false,false,false,false,false,false,false,false,false,false,false,false,false,false,true,true,true,false,false,true,true,true,true,false,true,true,true,true,false,true,true,true,true,false,true,true,true,true] (.two 23 [false,true,true,true,false,false,false,false,false,false,false,false,false,false,false,false,false,false,false,false,false,false,false,false,false,true,true,true,true,false,true,true,true,true,false,true,true,true,true,false,true,true,true,true] (.two 44 [] (.one 45 [] .fin) 45 [false,true,true,true,false,false,false,false,false,false,false,false,false,false,false,false,false,false,false,false,false,false,false,false,false,true,true,true,true,false,true,true,true,true,false,true,true,true,true,false,true,true,true,true] (.one 44 [] .fin)) 45 [false,true,true,true,false,false,false,false,false,false,false,false,false,false,false,false,false,false,false,false,true,true,true,false,false,true,true,true,true,false,true,true,true,true,false,true,true,true,true,false,true,true,true,true] (.one 23 [false,true,true,true,false,false,false,false,false,false,false,false,false,false,false,false,false,false,false,false,false,false,false,false,false,true,true,true,true,false,true,true,true,true,false,true,true,true,true,false,true,true,true,true] (.one 44 [] .fin))) 45 [false,true,true,true,false,false,false,false,false,false,false,false,false,false,false,true,true,true,false,false,true,true,true,false,false,true,true,true,true,false,true,true,true,true,false,true,true,true,true,false,true,true,true,true] (.one 18 [false,true,true,true,false,false,false,false,false,false,false,false,false,false,false,false,false,false,false,false,true,true,true,false,false,true,true,true,true,false,true,true,true,true,false,true,true,true,true,false,true,true,true,true] (.one 23 [false,true,true,true,false,false,false,false,false,false,false,false,false,false,false,false,false,false,false,false,false,false,false,false,false,true,true,true,true,false,true,true,true,true,false,true,true,true,true,false,true,true,true,true] (.one 44 [] .fin)))) 45 [false,true,true,true,false,false,false,false,false,false,true,true,true,false,false,true,true,true,false,false,true,true,true,false,false,true,true,true,true,false,true,true,true,true,false,true,true,true,true,false,true,true,true,true] (.one 13 [false,true,true,true,false,false,false,false,false,false,false,false,false,false,false,true,true,true,false,false,true,true,true,false,false,true,true,true,true,false,true,true,true,true,false,true,true,true,true,false,true,true,true,true] (.one 18 [false,true,true,true,false,false,false,false,false,false,false,false,false,false,false,false,false,false,false,false,true,true,true,false,false,true,true,true,true,false,true,true,true,true,false,true,true,true,true,false,true,true,true,true] (.one 23 [false,true,true,true,false,false,false,false,false,false,false,false,false,false,false,false,false,false,false,false,false,false,false,false,false,true,true,true,true,false,true,true,true,true,false,true,true,true,true,false,true,true,true,true] (.one 44 [] .fin))))) 45 [false,true,true,true,false,true,true,true,false,false,true,true,true,false,false,true,true,true,false,false,true,true,true,false,false,true,true,true,true,false,true,true,true,true,false,true,true,true,true,false,true,true,true,true] (.one 8 [false,true,true,true,false,false,false,false,false,false,true,true,true,false,false,true,true,true,false,false,true,true,true,false,false,true,true,true,true,false,true,true,true,true,false,true,true,true,true,false,true,true,true,true] (.one 13 [false,true,true,true,false,false,false,false,false,false,false,false,false,false,false,true,true,true,false,false,true,true,true,false,false,true,true,true,true,false,true,true,true,true,false,true,true,true,true,false,true,true,true,true] (.one 18 [false,true,true,true,false,false,false,false,false,false,false,false,false,false,false,false,false,false,false,false,true,true,true,false,false,true,true,true,true,false,true,true,true,true,false,true,true,true,true,false,true,true,true,true] (.one 23 [false,true,true,true,false,false,false,false,false,false,false,false,false,false,false,false,false,false,false,false,false,false,false,false,false,true,true,true,true,false,true,true,true,true,false,true,true,true,true,false,true,true,true,true] (.one 44 [] .fin)))))) (by decide+kernel) (by kernel_rfl) (by decide+kernel) ?_;simp only[aD,aE,aC];try refine sq trivial ?_
 repeat' ((first|refine ae ?_|refine af ?_|refine ah ?_ ?_)<;>try refine sq trivial ?_)
 all_goals try refine wk trivial ?_
 repeat' (first
  | (refine(l7 G s hs.w1 hs.b1 hs.l1 (by first|omega| (simp;omega))).mono ?_;rintro r h' ⟨rfl,rfl⟩;try refine sq trivial ?_)
  | (refine(l8 G s hs.w2 hs.b2 hs.l2 (by first|omega| (simp;omega))).mono ?_;rintro r h' ⟨rfl,rfl⟩;try refine sq trivial ?_)
  | (refine(l9 G s hs.w4 hs.b4 hs.l4 (by first|omega| (simp;omega))).mono ?_;rintro r h' ⟨rfl,rfl⟩;try refine sq trivial ?_)
  | (refine(jW G s hs.w3 hs.b3 hs.l3 (by first|omega| (simp;omega))).mono ?_;rintro r h' ⟨v,rfl,rfl⟩;try refine sq trivial ?_)
  | (refine ae ?_;try refine sq trivial ?_)| (refine af ?_;try refine sq trivial ?_)| (refine ah ?_ ?_<;>try refine sq trivial ?_))
 all_goals try refine wk trivial ?_
 all_goals first
  | (
   refine lm (fun nL tL hL=>∃(k:Nat) (hh:Heap),(valsM It.z s.it).length-k=nL∧so hh n s=hL∧tL 2=.hp H.length 0 0 0∧tL 3=.hp (H.length+3) 0 0 0∧tL 55=.hs (H.length+2) v 0 (valsM It.z s.it).length true∧tL 56=.int .i64 ((valsM It.z s.it).length:Int)∧tL 57=.int .i64 k∧k≤(valsM It.z s.it).length∧(FrN H.length H hh∧H.length+3<hh.length)∧getRow hh H.length 0=some (40,9,[.agg [.int .i64 0,.nil (.slice none 0 0),.nil (.slice none 0 0),.nil (.slice none 0 0),.nil (.slice none 0 0),.int .i64 0,.int .i64 0,.int .i64 0,.int .i64 0]])∧getRow hh (H.length+3) 0=some (40,9,[.agg [.int .i64 s.clock,.sl 3 ((valsM Fo.z s.fo).map Fo.av),.sl 4 ((valsM Fe.z s.fe).map Fe.av),.hs (H.length+2) v 0 (valsM It.z s.it).length true,.sl 3 ((valsM Se.z s.se).map Se.av),.int .i64 s.t1,.int .i64 s.t2,.int .i64 s.t3,.int .i64 s.t4]])∧getRow hh (H.length+2) v=some (69,9,(valsM It.z s.it).map It.av)) ((fun(k:Nat) (hh:Heap)=>((valsM It.z s.it).length-k:Nat)) (0) (H++[.row 40 9 0 [.agg [.int .i64 0,.nil (.slice none 0 0),.nil (.slice none 0 0),.nil (.slice none 0 0),.nil (.slice none 0 0),.int .i64 0,.int .i64 0,.int .i64 0,.int .i64 0]],.row 89 1 0 [.hm (n+2)],.row 69 9 v ((valsM It.z s.it).map It.av),.row 40 9 0 [.agg [.int .i64 s.clock,.sl 3 ((valsM Fo.z s.fo).map Fo.av),.sl 4 ((valsM Fe.z s.fe).map Fe.av),.hs (H.length+2) v 0 (valsM It.z s.it).length true,.sl 3 ((valsM Se.z s.se).map Se.av),.int .i64 s.t1,.int .i64 s.t2,.int .i64 s.t3,.int .i64 s.t4]]])) ?_ ?_
   ·refine M0 ⟨0,H++[.row 40 9 0 [.agg [.int .i64 0,.nil (.slice none 0 0),.nil (.slice none 0 0),.nil (.slice none 0 0),.nil (.slice none 0 0),.int .i64 0,.int .i64 0,.int .i64 0,.int .i64 0]],.row 89 1 0 [.hm (n+2)],.row 69 9 v ((valsM It.z s.it).map It.av),.row 40 9 0 [.agg [.int .i64 s.clock,.sl 3 ((valsM Fo.z s.fo).map Fo.av),.sl 4 ((valsM Fe.z s.fe).map Fe.av),.hs (H.length+2) v 0 (valsM It.z s.it).length true,.sl 3 ((valsM Se.z s.se).map Se.av),.int .i64 s.t1,.int .i64 s.t2,.int .i64 s.t3,.int .i64 s.t4]]],rfl,aw,?_,?_,?_,?_,?_,by omega,⟨Y0 _ (by omega) (X4 _ _),by simp⟩,by rw[aH _ rfl];rfl,by rw[aV _ rfl];rfl,by rw[aV _ rfl];simp[getRow]⟩;all_goals try exact zZz trivial
   rintro _ s2 h' ⟨k,hh,rfl,rfl,e2,e3,e55,e56,e57,hk,hfr,hg2,hgx,hgi⟩ K2 hK2;simp only[ai,ak,Nat.reduceEqDiff, ↓reduceIte]at e2 e3 e55 e56 e57;have F:=F5 e2 e3 e55 e56 e57;refine wk F ?_;obtain⟨hfr,hfl⟩:=hfr;have hn1:n+9≤hh.length:=(by omega);refine cq F (fun c1=>?_) (fun c1=>?_)<;>(try exact c1.elim)<;>(refine wk F ?_)
   ·have c2:k<(valsM It.z s.it).length:=(by omega);obtain⟨y,hy,hym⟩:=ac c2;have hyt:=hs.tg y hym;have hset:((valsM It.z s.it).map It.av).set k (.agg [.int .i64 y.id,.int .i64 y.feed,.int .i64 y.date,.str y.guid,.str y.title,.str y.link,.bool y.read,.bool y.star,.sl 1 (y.tags.map .str)])=(valsM It.z s.it).map It.av:=by
     apply U0
     intro q;rw[za4];split
     ·rename_i hq;subst hq;rw[N8,hy];simp[c2,It.av]
     ·rfl
    have F:=F7 F c2 hy @hset hgi hgx @ax;(try refine sq F ?_);refine wk F ?_;refine au (gA G y hyt _) ?_;(try refine sq F ?_);refine wk F ?_;refine hK2 _ _ _ (M0 ⟨k+1,hh.set (H.length+2) (.row 69 9 v ((valsM It.z s.it).map It.av))++[.row 69 9 0 [y.av]],rfl,aw,?_,?_,?_,?_,?_,by omega,⟨Y0 _ (by simp;omega) (Z0 _ (by omega) hfr),by simp;omega⟩,by rw[aU _ (by simp;omega),bh _ _ (by omega)];exact hg2,by rw[aU _ (by simp;omega),bh _ _ (by omega)];exact hgx,by rw[aU _ (by simp;omega),bQ _ _ _ _ _ (by omega),M1 rfl]⟩) (by omega);all_goals try exact zZz F
   ·have F:=F5 F hg2 hgx hgi @ax;(try refine sq F ?_);refine wk F ?_;refine ye hQ F ?_;obtain⟨j,hj⟩:=hfr.behind (by omega);subst hj;have hgi2:∀b,getRow (H++j.set 0 b) (H.length+2) v=some (69,9,(valsM It.z s.it).map It.av):=fun b=>by rw[← fP b rfl,bh _ _ (by omega)];exact hgi
    rw[fP _ rfl];exact hR _ _ _ (by simpa using hgi2 _))
  | (
   refine lm (fun nL tL hL=>∃(k:Nat) (hh:Heap),(valsM It.z s.it).length-k=nL∧so hh n s=hL∧tL 2=.hp H.length 0 0 0∧tL 3=.hp (H.length+1) 0 0 0∧tL 55=.hs (H.length+3) v 0 (valsM It.z s.it).length true∧tL 56=.int .i64 ((valsM It.z s.it).length:Int)∧tL 57=.int .i64 k∧k≤(valsM It.z s.it).length∧(FrN H.length H hh∧H.length+3<hh.length)∧getRow hh H.length 0=some (40,9,[.agg [.int .i64 0,.nil (.slice none 0 0),.nil (.slice none 0 0),.nil (.slice none 0 0),.nil (.slice none 0 0),.int .i64 0,.int .i64 0,.int .i64 0,.int .i64 0]])∧getRow hh (H.length+1) 0=some (40,9,[.agg [.int .i64 s.clock,.sl 3 ((valsM Fo.z s.fo).map Fo.av),.sl 4 ((valsM Fe.z s.fe).map Fe.av),.hs (H.length+3) v 0 (valsM It.z s.it).length true,.sl 3 ((valsM Se.z s.se).map Se.av),.int .i64 s.t1,.int .i64 s.t2,.int .i64 s.t3,.int .i64 s.t4]])∧getRow hh (H.length+3) v=some (69,9,(valsM It.z s.it).map It.av)) ((fun(k:Nat) (hh:Heap)=>((valsM It.z s.it).length-k:Nat)) (0) (H++[.row 40 9 0 [.agg [.int .i64 0,.nil (.slice none 0 0),.nil (.slice none 0 0),.nil (.slice none 0 0),.nil (.slice none 0 0),.int .i64 0,.int .i64 0,.int .i64 0,.int .i64 0]],.row 40 9 0 [.agg [.int .i64 s.clock,.sl 3 ((valsM Fo.z s.fo).map Fo.av),.sl 4 ((valsM Fe.z s.fe).map Fe.av),.hs (H.length+3) v 0 (valsM It.z s.it).length true,.sl 3 ((valsM Se.z s.se).map Se.av),.int .i64 s.t1,.int .i64 s.t2,.int .i64 s.t3,.int .i64 s.t4]],.row 89 1 0 [.hm (n+2)],.row 69 9 v ((valsM It.z s.it).map It.av)])) ?_ ?_
   ·refine M0 ⟨0,H++[.row 40 9 0 [.agg [.int .i64 0,.nil (.slice none 0 0),.nil (.slice none 0 0),.nil (.slice none 0 0),.nil (.slice none 0 0),.int .i64 0,.int .i64 0,.int .i64 0,.int .i64 0]],.row 40 9 0 [.agg [.int .i64 s.clock,.sl 3 ((valsM Fo.z s.fo).map Fo.av),.sl 4 ((valsM Fe.z s.fe).map Fe.av),.hs (H.length+3) v 0 (valsM It.z s.it).length true,.sl 3 ((valsM Se.z s.se).map Se.av),.int .i64 s.t1,.int .i64 s.t2,.int .i64 s.t3,.int .i64 s.t4]],.row 89 1 0 [.hm (n+2)],.row 69 9 v ((valsM It.z s.it).map It.av)],rfl,aw,?_,?_,?_,?_,?_,by omega,⟨Y0 _ (by omega) (X4 _ _),by simp⟩,by rw[aH _ rfl];rfl,by rw[aV _ rfl];rfl,by rw[aV _ rfl];simp[getRow]⟩;all_goals try exact zZz trivial
   rintro _ s2 h' ⟨k,hh,rfl,rfl,e2,e3,e55,e56,e57,hk,hfr,hg2,hgx,hgi⟩ K2 hK2;simp only[ai,ak,Nat.reduceEqDiff, ↓reduceIte]at e2 e3 e55 e56 e57;have F:=F5 e2 e3 e55 e56 e57;refine wk F ?_;obtain⟨hfr,hfl⟩:=hfr;have hn1:n+9≤hh.length:=(by omega);refine cq F (fun c1=>?_) (fun c1=>?_)<;>(try exact c1.elim)<;>(refine wk F ?_)
   ·have c2:k<(valsM It.z s.it).length:=(by omega);obtain⟨y,hy,hym⟩:=ac c2;have hyt:=hs.tg y hym;have hset:((valsM It.z s.it).map It.av).set k (.agg [.int .i64 y.id,.int .i64 y.feed,.int .i64 y.date,.str y.guid,.str y.title,.str y.link,.bool y.read,.bool y.star,.sl 1 (y.tags.map .str)])=(valsM It.z s.it).map It.av:=by
     apply U0
     intro q;rw[za4];split
     ·rename_i hq;subst hq;rw[N8,hy];simp[c2,It.av]
     ·rfl
    have F:=F7 F c2 hy @hset hgi hgx @ax;(try refine sq F ?_);refine wk F ?_;refine au (gA G y hyt _) ?_;(try refine sq F ?_);refine wk F ?_;refine hK2 _ _ _ (M0 ⟨k+1,hh.set (H.length+3) (.row 69 9 v ((valsM It.z s.it).map It.av))++[.row 69 9 0 [y.av]],rfl,aw,?_,?_,?_,?_,?_,by omega,⟨Y0 _ (by simp;omega) (Z0 _ (by omega) hfr),by simp;omega⟩,by rw[aU _ (by simp;omega),bh _ _ (by omega)];exact hg2,by rw[aU _ (by simp;omega),bh _ _ (by omega)];exact hgx,by rw[aU _ (by simp;omega),bQ _ _ _ _ _ (by omega),M1 rfl]⟩) (by omega);all_goals try exact zZz F
   ·have F:=F5 F hg2 hgx hgi @ax;(try refine sq F ?_);refine wk F ?_;refine ye hQ F ?_;obtain⟨j,hj⟩:=hfr.behind (by omega);subst hj;have hgi2:∀b,getRow (H++j.set 0 b) (H.length+3) v=some (69,9,(valsM It.z s.it).map It.av):=fun b=>by rw[← fP b rfl,bh _ _ (by omega)];exact hgi
    rw[fP _ rfl];exact hR _ _ _ (by simpa using hgi2 _))
theorem jY(s:PS)(hs:s.Ok){H:Heap}{n:Nat}(hn:n+9≤H.length):Sat (CT G) 24 [.hp (n+8) 0 0 0] (so H n s) (fun r h'=>r=s.tell.av∧h'=so H n s):=
 od G s hs hn _ fun _ _ _ hg=>vx s hn hg
theorem fp(l:List Ky)(acc:List Ky):(l.foldl insK acc).length=acc.length+l.length:=by
 induction l generalizing acc with
 |nil=>rfl
 |cons x l ih=>rw[za8,ih,jm];simp;omega
theorem mZ(h:Heap)(v u:Nat)(l l':List Ky):vo (h++vb h.length u l') h.length v l=h++vb h.length v l:=by
 unfold vo ov;have e:(vb h.length u l').length=2:=rfl;have e2:(vb h.length v l).length=2:=rfl;rw[U3 rfl,e2,R3 (by simp[e]),O2]
theorem vy(x:St)(sp:AVal)(h:Heap)(hT:∀j,Sat (CT G) 24 [sp] (h++j) (fun r h'=>r=x.av∧h'=h++j))(hl:x.it.length≤100000)(hd:(x.it.map (·.id)).Nodup):
  Sat (CT G) 8 [sp] h (fun r h'=>r=.hp h.length 0 0 0∧h'=h++vb h.length x.it.length (srtK (x.it.map It.ky))):=by
 have hil:(x.it.map It.av).length=x.it.length:=L8 ..;have hsk:∀k,Sk (((x.it.take k).map It.ky).foldl insK []):=fun k=>jn (by
  rw[V0];exact(List.Sublist.map _ (List.take_sublist k x.it)).nodup hd)
 have hkl:∀k,(((x.it.take k).map It.ky).foldl insK []).length≤100000:=fun k=>by rw[fp];simp;omega
 obtain⟨H0,hH0⟩:∃H0,H0=h++vb h.length 0 []:=⟨_,rfl⟩;have hl0:H0.length=h.length+2:=by rw[hH0];simp[mY]
 have F:=hil;refine sb [.tmp 2] Tryz.func8 ?_;intro Q hQ;refine wk F ?_;refine kq F (hT _) ?_;refine lm (fun nL tL hL=>∃(k:Nat) (j:Heap),x.it.length-k=nL∧vo (H0++j) h.length k (((x.it.take k).map It.ky).foldl insK [])=hL∧tL 12=.int .i64 k∧k≤x.it.length) ((fun(k:Nat) (j:Heap)=>(x.it.length-k:Nat)) (0) ([])) ?_ ?_
 ·refine⟨_,_,Weak.virtCell (p:=h.length) (v:=0) 78 3 (by omega) (by rw[aH _ rfl];rfl) 0 rfl,⟨0,[],rfl,by rw[O2,hH0,mZ];simp[vb],?_,by omega⟩⟩;all_goals try exact zZz F
 rintro _ s2 h' ⟨k,j,rfl,rfl,e12,hk⟩ K2 hK2;simp only[ai,ak,Nat.reduceEqDiff, ↓reduceIte]at e12;have F:=F2 F e12;refine wk F ?_;refine cq F (fun c1=>?_) (fun c1=>?_)<;>(try exact c1.elim)<;>(refine wk F ?_)
 ·have c2:k<x.it.length:=by omega
  obtain⟨y,hy,hym⟩:=ac c2;have F:=F4 F hy c2 @ax;try refine sq F ?_
  refine wk F ?_;refine kq F (ph G (H:=H0++(j++[Blk.row 69 9 0 [y.av]])) (n:=h.length) (v:=k) (hsk k) (hkl k) y (by simp;omega)) ?_;have ht:insK (((x.it.take k).map It.ky).foldl insK []) y.ky=((x.it.take (k+1)).map It.ky).foldl insK []:=by rw[O3,hy];simp
  rw[ht];refine hK2 _ _ _ (M0 ⟨k+1,j++[.row 69 9 0 [y.av]],rfl,by simp[It.av],?_,by omega⟩) (by omega);all_goals try exact zZz F
 ·have e:k=x.it.length:=by omega
  subst e;rw[W9];refine ee hQ F ?_;rw[← fV (by omega),hH0,mZ];exact Fin.upto (by simp) ((KeepC.refl h _).app (ip (by simp[mY]))) (.hp _ _ _ _ (by simp[mY])) ⟨rfl,rfl⟩
section
variable {l:List Ky} {H:Heap} {n v:Nat}
theorem sW(k:Ky)(e:Ev)(q:Nat)(h:Heap)(hq:getRow h q 0=some (56,7,[e.av])):Sat (CT G) 45 [k.av,.hp q 0 0 0] h (fun r h'=>r=.bool (decide (k.f=e.a))∧h'=h):=by
 have h2:getRow (h++[.row 78 3 0 [k.av]]) q 0=some (56,7,[e.av]):=by rw[aU _ (aT hq)];exact hq
 rw[Ky.av_eq,zd0]at h2;have F:=h2;refine sb [.tmp 3] Tryz.func45 ?_;intro Q hQ;refine wk F ?_;refine ee hQ F ?_;exact L6 (.bool _) ⟨by rw[show(k.f==e.a)=decide (k.f=e.a)from by rw[O9];simp],rfl⟩
def VStepF(l:List Ky)(e:Ev)(t:It)(b:Bool):List Ky:=
 if e.kind=7 then(if b then insK l t.ky else l)else if e.kind=4 then l.filter (fun k=> !decide (k.f=e.a))else l
theorem sX(hs:Sk l)(hl:l.length≤100000)(e:Ev)(sp:AVal)(t:It)(b:Bool)(hn:n+2≤H.length)
  (hI:e.kind=7→∀j,Sat (CT G) 43 [sp,.int .i64 e.a] (vo (H++j) n v l) (fun r h'=>r=.tup [t.av,.bool b]∧h'=vo (H++j) n v l)):
  Sat (CT G) 19 [.hp n 0 0 0,sp,e.av] (vo H n v l) (fun r h'=>r=.tup []∧∃u,h'=vo H n u (VStepF l e t b)):=by
 have ct:∀N,Clo N (.tup []):=fun N=>.tup _ (fun x hx=>by simp at hx)
 have hn1:∀j:Heap,n+2≤(H++j).length:=fun j=>by simp;omega
 by_cases k7:e.kind=7
 ·have hP:=ph G (n:=n) (v:=v) (H:=H++[Blk.row 56 7 0 [e.av],Blk.row 69 9 0 [t.av]]) hs hl t (hn1 _);cases b with
  |true=>
   have hI1:=hI k7 [Blk.row 56 7 0 [e.av]];have y7:(e.kind==7)=true:=(by simp[k7]);have F:=y7;refine sb [] Tryz.func19 ?_;intro Q hQ;refine wk F ?_;refine kq F (hI1) ?_;refine kq F (hP) ?_;refine ee hQ F ?_;exact bC hn (ct _) ⟨rfl,v+1,by unfold VStepF;rw[M1 k7];rfl⟩
  |false=>
   have hI1:=hI k7 [Blk.row 56 7 0 [e.av]];have y7:(e.kind==7)=true:=(by simp[k7]);have F:=y7;refine sb [] Tryz.func19 ?_;intro Q hQ;refine wk F ?_;refine kq F (hI1) ?_;refine ee hQ F ?_;exact bC hn (ct _) ⟨rfl,v,by unfold VStepF;rw[M1 k7];rfl⟩
 ·by_cases k4:e.kind=4
  ·have hD:=vt G (l:=l) (v:=v) (n:=n) (H:=H++[Blk.row 56 7 0 [e.av]]) (fun k=>decide (k.f=e.a)) 45 [.hp H.length 0 0 0] (hn1 _) (by omega) (fun a j L=>sW G a e H.length _ (by
    rw[eD (by simp;omega) 0 (by omega),P2,aH _ rfl];rfl))
   have n7:(e.kind==7)=false:=(by simp[k7]);have y4:(e.kind==4)=true:=(by simp[k4]);have F:=F2 n7 y4;refine sb [] Tryz.func19 ?_;intro Q hQ;refine wk F ?_;refine kq F (hD) ?_;have F:=F2 F @ax;(try refine sq F ?_);refine wk F ?_;refine ee hQ F ?_;rw[pg (hn1 _)];exact bC hn (ct _) ⟨rfl,v,by unfold VStepF;rw[L5 k7,M1 k4]⟩
  ·have n7:(e.kind==7)=false:=(by simp[k7]);have n4:(e.kind==4)=false:=(by simp[k4]);have F:=F2 n7 n4;refine sb [] Tryz.func19 ?_;intro Q hQ;refine wk F ?_;refine ee hQ F ?_;exact bC hn (ct _) ⟨rfl,v,by unfold VStepF;rw[L5 k7,L5 k4]⟩
end
end Go.Av
namespace Go.Av
open Go Go.Proofs Go.RowKit
attribute [local irreducible] WP WPl WPix Sat
inductive Qy where
 |mk (op num:Int) (s:Bs) (ks:List Qy)
namespace Qy
mutual
def av:Qy→AVal
 | .mk op num s ks=>.agg [.int .i64 op,.int .i64 num,.str s,.sl 4 (avL ks)]
def avL:List Qy→List AVal
 | []=>[]
 |k::ks=>k.av::avL ks
end
theorem sY:∀ks:List Qy,avL ks=ks.map av
 | []=>by simp[avL]
 |k::ks=>by simp[avL,sY ks]
@[go_sem] theorem av_eq(op num:Int)(s:Bs)(ks:List Qy):(Qy.mk op num s ks).av=.agg [.int .i64 op,.int .i64 num,.str s,.sl 4 (ks.map av)]:=by rw[av,sY]
theorem ind{P:Qy→Prop}(h:∀op num s ks,(∀k∈ks,P k)→P (.mk op num s ks)):∀q,P q:=fun q=>
 Qy.rec (motive_1:=P) (motive_2:=fun ks=>∀k∈ks,P k) (fun op num s ks ih=>h op num s ks ih) (fun k hk=>by simp at hk) (fun k ks ih1 ih2 x hx=>by
  rcases N2.1 hx with rfl|hx
  ·exact ih1
  ·exact ih2 x hx) q
mutual
def sz:Qy→Nat
 | .mk _ _ s ks=>1+s.length+szL ks
def szL:List Qy→Nat
 | []=>0
 |k::ks=>k.sz+szL ks
end
theorem szL_mem:∀{ks:List Qy} {k:Qy},k∈ks→k.sz≤szL ks
 |k'::ks,k,h=>by
  rw[szL];rcases N2.1 h with rfl|h
  ·omega
  ·have:=szL_mem h;omega
theorem szL_len:∀ks:List Qy,ks.length≤szL ks
 | []=>by simp
 | .mk op n s l::ks=>by rw[szL,sz,M8];have:=szL_len ks;omega
mutual
def mx:Qy→Nat
 | .mk _ _ s ks=>max (max s.length ks.length) (mxL ks)
def mxL:List Qy→Nat
 | []=>0
 |k::ks=>max k.mx (mxL ks)
end
theorem pi:∀{ks:List Qy} {k:Qy},k∈ks→k.mx≤mxL ks
 |k'::ks,k,h=>by
  rw[mxL];rcases N2.1 h with rfl|h
  ·omega
  ·have:=pi h;omega
theorem mx_mk{op num:Int}{s:Bs}{ks:List Qy}{B:Nat}(h:(Qy.mk op num s ks).mx≤B):s.length≤B∧ks.length≤B∧∀k∈ks,k.mx≤B:=by
 rw[mx]at h;exact⟨by omega,by omega,fun k hk=>by have:=pi hk;omega⟩
mutual
def left:Qy→Int→Int→Int
 | .mk _ _ s ks,d,n=>leftL ks d (n-1-s.length/20)
def leftL:List Qy→Int→Int→Int
 | [],_,n=>n
 |k::ks,d,n=>if n>0∧d<70 then leftL ks d (k.left (d+1) n)else n
end
mutual
theorem left_le:∀(q:Qy) (d n:Int),q.left d n≤n-1∧n-q.sz≤q.left d n
 | .mk op num s ks,d,n=>by
  rw[left,sz];have:=jq ks d (n-1-s.length/20);omega
theorem jq:∀(ks:List Qy) (d n:Int),leftL ks d n≤n∧n-szL ks≤leftL ks d n
 | [],d,n=>by simp[leftL,szL]
 |k::ks,d,n=>by
  rw[leftL,szL];split
  ·have h1:=left_le k (d+1) n;have h2:=jq ks d (k.left (d+1) n);have h3:1≤k.sz:=(by cases k;rw[sz];omega);omega
  ·omega
end
end Qy
end Go.Av
namespace Go.Av
open Go Go.Proofs Go.RowKit Go.ChangeShapes Go.WideShapes
section
variable {H:Type} {enc:TypeId×Value→H} {W:World}
theorem xy{P:Program}{n:Nat}{t:TypeId}(ht:P.underlying t=some .string):Rd H enc P W n t (fun s: {s:Bs//s.length≤9223372036854775807}=>[.str s.1]) (fun _=>0):=fun cs x h=>by
 obtain⟨s,rfl,rfl,hs⟩:=DataW.trod_string ht h;refine⟨⟨s.data.toList,by simpa [maxLen]using hs⟩,rfl,fun j c hj=>?_,Y4 _⟩
 match j with
 |0=>simp at hj;subst hj;exact⟨rfl,.str _⟩
 |j+1=>simp at hj
theorem zh{ks:List Qy}{B:Nat}(h:∀k∈ks,k.mx≤B):Qy.mxL ks≤B:=by
 induction ks with
 |nil=>exact Y4 _
 |cons k ks ih=>
  rw[Qy.mxL];have h1:=h k (by simp);have h2:=ih fun x hx=>h x (by simp[hx])
  omega
theorem xz{S:Addr→Prop}{μ:Map}{n:Nat}{es:List AVal}{v:Value}(h:Rep W S μ (.sl n es) v):es.length≤9223372036854775807:=by
 cases h with
 |sl _ _ b o cap vs h1 h2 h3=>exact R1 h2 h3
 |sl0=>simp
theorem BT:∀n:Nat,Rd H enc Tryz.prog W n 25 (fun q: {q:Qy//q.mx≤9223372036854775807}=>q.1.av.cells) (fun _=>0):=by
 intro n;induction n using Nat.strongRecOn with
 |ind n ih=>
  intro cs x h;obtain⟨ds,n',rfl,hx,hcl,hdl,hf⟩:=il (fs:=[3,3,9,23]) (by kernel_rfl) h;obtain⟨y0,d0,t0⟩:=hf 0 _ rfl;obtain⟨y1,d1,t1⟩:=hf 1 _ rfl;obtain⟨y2,d2,t2⟩:=hf 2 _ rfl;obtain⟨y3,d3,t3⟩:=hf 3 _ rfl;obtain⟨a0,s0,r0,_⟩:=bq (mk:=fun i: {i:Int//(Lit.int .i64 i).wf=true}=>.int .i64 i.1) (d8 (by kernel_rfl)) t0;obtain⟨a1,s1,r1,_⟩:=bq (mk:=fun i: {i:Int//(Lit.int .i64 i).wf=true}=>.int .i64 i.1) (d8 (by kernel_rfl)) t1;obtain⟨a2,s2,r2,_⟩:=bq (mk:=fun s: {s:Bs//s.length≤9223372036854775807}=>.str s.1) (xy (by kernel_rfl)) t2;obtain⟨a3,s3,r3,_⟩:=bq (mk:=fun l:List {q:Qy//q.mx≤9223372036854775807}=>.sl 4 (l.map fun q=>q.1.av)) (mO (m:=4) (e:=25) (fun q: {q:Qy//q.mx≤9223372036854775807}=>q.1.av) (by kernel_rfl) (by kernel_rfl) (by decide) (fun _=>rfl) (fun⟨⟨o,i,s,l⟩,_⟩=>by rw[Qy.av_eq];rfl) fun k hk=>ih k (by omega)) t3;have hl:=xz r3;rw[L8]at hl;have e3:(a3.map fun q=>q.1.av)=(a3.map (·.1)).map Qy.av:=by rw[V0];rfl
  rw[e3]at r3;have hmx:(Qy.mk a0.1 a1.1 a2.1 (a3.map (·.1))).mx≤9223372036854775807:=by
   rw[Qy.mx,L8];have h1:=a2.2;have h2:=zh (ks:=a3.map (·.1)) (B:=9223372036854775807) fun k hk=>by
    obtain⟨q,_,rfl⟩:=N0.1 hk;exact q.2
   omega
  have hc:(Qy.mk a0.1 a1.1 a2.1 (a3.map (·.1))).av.cells=[.int .i64 a0.1,.int .i64 a1.1,.str a2.1,.sl 4 ((a3.map (·.1)).map Qy.av)]:=by rw[Qy.av_eq];rfl
  refine⟨⟨.mk a0.1 a1.1 a2.1 (a3.map (·.1)),hmx⟩,by show(Qy.mk a0.1 a1.1 a2.1 (a3.map (·.1))).av.cells.length=_;rw[hc,hcl];rfl,fun j c hj=>?_,Y4 _⟩
  change (Qy.mk a0.1 a1.1 a2.1 (a3.map (·.1))).av.cells[j]? =some c at hj
  rw[hc]at hj
  match j with
  |0=>simp at hj;subst hj;exact⟨s0,r0⟩
  |1=>simp at hj;subst hj;exact⟨s1,r1⟩
  |2=>simp at hj;subst hj;exact⟨s2,r2⟩
  |3=>
   simp only[V3,T8,P1]at hj;subst hj;exact⟨s3,r3⟩
  |j+4=>simp at hj
theorem qE{v:Value}{d:DataW H}{ps:List MemPlace}(h:DataW.Trod enc Tryz.prog W 0 (fun _=>true) true 25 v d ps):∃q:Qy,q.mx≤9223372036854775807∧Rep W (lies0 W) [] q.av v:=by
 obtain⟨n,hn⟩:=h;obtain⟨⟨q,hq⟩,h1,h2,_⟩:=BT n _ _ hn
 change q.av.cells.length=_ at h1
 refine⟨q,hq,?_⟩;obtain⟨qo,qn,qs,qk⟩:=q;have hc:(Qy.mk qo qn qs qk).av.cells=[.int .i64 qo,.int .i64 qn,.str qs,.sl 4 (qk.map Qy.av)]:=by rw[Qy.av_eq];rfl
 have hl:v.cells.size=4:=by rw[hc]at h1;simpa using h1.symm
 obtain⟨a,rfl⟩:∃a,v=.agg a:=by
  cases v with
  |agg a=>exact⟨a,rfl⟩
  |_=>simp[Value.cells]at hl
 rw[Qy.av_eq];have:=Rep.agg (w:=W) (S:=lies0 W) (μ:=[]) [.int .i64 qo,.int .i64 qn,.str qs,.sl 4 (qk.map Qy.av)] a.toList (by simpa [Value.cells]using hl) (fun i x hx=>(h2 i x (by show(Qy.mk qo qn qs qk).av.cells[i]? =some x;rw[hc];exact hx)).1)
  (fun i x hx=>by
   have:=(h2 i x (by show(Qy.mk qo qn qs qk).av.cells[i]? =some x;rw[hc];exact hx)).2;simpa [Value.cells]using this)
 simpa using this
theorem j3{v:Value}{d:DataW H}{ps:List MemPlace}{r:Reach}{b0:Nat}(hval:Value.okWide Tryz.prog W r b0 3 v)(h:DataW.Trod enc Tryz.prog W 0 (fun _=>true) true 3 v d ps):∃i:Int,Rep W (lies0 W) [] (.int .i64 i) v:=by
 obtain⟨n,hn⟩:=h;have hcs:v.cells.toList=[v]:=by
  have hu:Tryz.prog.underlying 3=some (.int .i64):=by kernel_rfl
  cases v with
  |agg a=>simp[Value.okWide,hu,Cell.okWide,Cell.ok]at hval
  |_=>rfl
 rw[hcs]at hn;obtain⟨a,_,ra,_⟩:=bq (mk:=fun i: {i:Int//(Lit.int .i64 i).wf=true}=>.int .i64 i.1) (d8 (by kernel_rfl)) hn;exact⟨a.1,ra⟩
end
def none':Nat→Option (List AVal):=fun _=>none
end Go.Av
namespace Go.Av
open Go Go.Proofs Go.RowKit
attribute [local irreducible] WP WPl WPix Sat
section
variable {α:Type}
def ixO(key:α→Int)(id:Int):List α→Option Nat
 | []=>none
 |a::l=>if key a=id then some 0 else(ixO key id l).map (· +1)
def posF(key:α→Int)(l:List α)(id:Int):Int:=match ixO key id l with
 |some k=>(k:Int)
 |none=> -1
def fnd(key:α→Int)(l:List α)(id:Int):Option α:=l.find? fun a=>decide (key a=id)
theorem na{key:α→Int}{id:Int}:∀{l:List α} {k:Nat} {a:α},l[k]? =some a→key a=id→(∀b∈l.take k,key b≠id)→ixO key id l=some k
 | [],k,a,h,_,_=>by simp at h
 |b::l,0,a,h,ha,_=>by simp at h;subst h;rw[ixO,M1 ha]
 |b::l,k+1,a,h,ha,hf=>by
  rw[ixO,L5 (hf b (by simp)),na (by simpa using h) ha (fun c hc=>hf c (by simp[hc]))];rfl
theorem nb{key:α→Int}{id:Int}:∀{l:List α},(∀b∈l,key b≠id)→ixO key id l=none
 | [],_=>rfl
 |b::l,hf=>by rw[ixO,L5 (hf b (by simp)),nb (fun c hc=>hf c (by simp[hc]))];rfl
theorem cS{key:α→Int}{id:Int}{l:List α}{k:Nat}{a:α}(h:l[k]? =some a)(ha:key a=id)(hf:∀b∈l.take k,key b≠id):posF key l id=(k:Int):=by
 unfold posF;rw[na h ha hf]
theorem cj{key:α→Int}{id:Int}{l:List α}(hf:∀b∈l,key b≠id):posF key l id= -1:=by
 unfold posF;rw[nb hf]
theorem bd{key:α→Int}{id:Int}:∀{l:List α} {a:α},fnd key l id=some a→∃k:Nat,l[k]? =some a∧posF key l id=(k:Int)∧key a=id
 | [],a,h=>by simp[fnd]at h
 |b::l,a,h=>by
  unfold fnd at h;rw[za9]at h;by_cases hb:key b=id
  ·rw[O4 hb]at h;simp at h;subst h;exact⟨0,rfl,by unfold posF;rw[ixO,M1 hb],hb⟩
  ·rw[O0 hb]at h;simp at h;obtain⟨k,h1,h2,h3⟩:=bd (key:=key) (l:=l) h;refine⟨k+1,by simpa using h1,?_,h3⟩;unfold posF at h2 ⊢;rw[ixO,L5 hb];cases hx:ixO key id l with
   |none=>rw[hx]at h2;simp at h2
   |some j=>rw[hx]at h2;simp at h2 ⊢;omega
theorem vz{key:α→Int}{id:Int}{l:List α}(h:fnd key l id=none):∀b∈l,key b≠id:=fun b hb=>by
 have:=Y7.1 h b hb;simpa using this
theorem dr{key:α→Int}{id:Int}{l:List α}(h:fnd key l id=none):posF key l id= -1:=cj (vz h)
end
variable (G:Nat→Option (List AVal))
theorem bK(x:St)(id:Int)(hl:x.fo.length≤100000)(h:Heap):Sat (CT G) 87 [x.av,.int .i64 id] h (fun r h'=>r=.int .i64 (posF (·.id) x.fo id)∧h'=h):=by
 have hel:(x.fo.map Fo.av).length=x.fo.length:=L8 ..;have F:=hel;refine sb [.tmp 4] Tryz.func87 ?_;intro Q hQ;refine wk F ?_;refine lm (fun nL tL hL=>∃(k:Nat),x.fo.length-k=nL∧h++[.row 40 9 0 [x.av]]=hL∧tL 1=.int .i64 id∧tL 2=.hp h.length 0 0 0∧tL 5=.int .i64 k∧k≤x.fo.length∧(∀f∈x.fo.take k,f.id≠id)) ((fun(k:Nat)=>(x.fo.length-k:Nat)) (0)) ?_ ?_
 ·refine M0 ⟨0,rfl,aw,?_,?_,?_,by omega,by simp⟩;all_goals try exact zZz F
 rintro _ s2 h' ⟨k,rfl,rfl,e1,e2,e5,hk,hp⟩ K2 hK2;simp only[ai,ak,Nat.reduceEqDiff, ↓reduceIte]at e1 e2 e5;have F:=F4 F e1 e2 e5;refine wk F ?_;refine cq F (fun c1=>?_) (fun c1=>?_)<;>(try exact c1.elim)<;>(refine wk F ?_)
 ·have c2:k<x.fo.length:=by omega
  obtain⟨f,hf,hfm⟩:=ac c2;have F:=F3 F c2 hf;try refine sq F ?_
  refine wk F ?_;refine cq F (fun c3=>?_) (fun c3=>?_)<;>(try exact c3.elim)<;>(refine wk F ?_)
  ·refine ee hQ F ?_;exact L6 (.int _ _) ⟨by rw[cS hf (by first|exact c3|exact c3.symm) hp],rfl⟩
  ·have hp1:∀g∈x.fo.take (k+1),g.id≠id:=by
    rw[O3,hf];intro g hg;simp at hg;rcases hg with hg|rfl
    ·exact hp g hg
    ·exact c3
   refine hK2 _ _ _ (M0 ⟨k+1,rfl,aw,?_,?_,?_,by omega,hp1⟩) (by omega);all_goals try exact zZz F
 ·rw[M4 (by omega)]at hp;refine ee hQ F ?_;exact L6 (.int _ _) ⟨by rw[cj hp],rfl⟩
theorem cT(x:St)(id:Int)(hl:x.fe.length≤100000)(h:Heap):Sat (CT G) 56 [x.av,.int .i64 id] h (fun r h'=>r=.int .i64 (posF (·.id) x.fe id)∧h'=h):=by
 have hel:(x.fe.map Fe.av).length=x.fe.length:=L8 ..;have F:=hel;refine sb [.tmp 4] Tryz.func56 ?_;intro Q hQ;refine wk F ?_;refine lm (fun nL tL hL=>∃(k:Nat),x.fe.length-k=nL∧h++[.row 40 9 0 [x.av]]=hL∧tL 1=.int .i64 id∧tL 2=.hp h.length 0 0 0∧tL 5=.int .i64 k∧k≤x.fe.length∧(∀f∈x.fe.take k,f.id≠id)) ((fun(k:Nat)=>(x.fe.length-k:Nat)) (0)) ?_ ?_
 ·refine M0 ⟨0,rfl,aw,?_,?_,?_,by omega,by simp⟩;all_goals try exact zZz F
 rintro _ s2 h' ⟨k,rfl,rfl,e1,e2,e5,hk,hp⟩ K2 hK2;simp only[ai,ak,Nat.reduceEqDiff, ↓reduceIte]at e1 e2 e5;have F:=F4 F e1 e2 e5;refine wk F ?_;refine cq F (fun c1=>?_) (fun c1=>?_)<;>(try exact c1.elim)<;>(refine wk F ?_)
 ·have c2:k<x.fe.length:=by omega
  obtain⟨f,hf,hfm⟩:=ac c2;have F:=F3 F c2 hf;try refine sq F ?_
  refine wk F ?_;refine cq F (fun c3=>?_) (fun c3=>?_)<;>(try exact c3.elim)<;>(refine wk F ?_)
  ·refine ee hQ F ?_;exact L6 (.int _ _) ⟨by rw[cS hf (by first|exact c3|exact c3.symm) hp],rfl⟩
  ·have hp1:∀g∈x.fe.take (k+1),g.id≠id:=by
    rw[O3,hf];intro g hg;simp at hg;rcases hg with hg|rfl
    ·exact hp g hg
    ·exact c3
   refine hK2 _ _ _ (M0 ⟨k+1,rfl,aw,?_,?_,?_,by omega,hp1⟩) (by omega);all_goals try exact zZz F
 ·rw[M4 (by omega)]at hp;refine ee hQ F ?_;exact L6 (.int _ _) ⟨by rw[cj hp],rfl⟩
theorem cU(x:St)(id:Int)(hl:x.it.length≤100000)(h:Heap):Sat (CT G) 34 [x.av,.int .i64 id] h (fun r h'=>r=.int .i64 (posF (·.id) x.it id)∧h'=h):=by
 have hel:(x.it.map It.av).length=x.it.length:=L8 ..;have F:=hel;refine sb [.tmp 4] Tryz.func34 ?_;intro Q hQ;refine wk F ?_;refine lm (fun nL tL hL=>∃(k:Nat),x.it.length-k=nL∧h++[.row 40 9 0 [x.av]]=hL∧tL 1=.int .i64 id∧tL 2=.hp h.length 0 0 0∧tL 5=.int .i64 k∧k≤x.it.length∧(∀f∈x.it.take k,f.id≠id)) ((fun(k:Nat)=>(x.it.length-k:Nat)) (0)) ?_ ?_
 ·refine M0 ⟨0,rfl,aw,?_,?_,?_,by omega,by simp⟩;all_goals try exact zZz F
 rintro _ s2 h' ⟨k,rfl,rfl,e1,e2,e5,hk,hp⟩ K2 hK2;simp only[ai,ak,Nat.reduceEqDiff, ↓reduceIte]at e1 e2 e5;have F:=F4 F e1 e2 e5;refine wk F ?_;refine cq F (fun c1=>?_) (fun c1=>?_)<;>(try exact c1.elim)<;>(refine wk F ?_)
 ·have c2:k<x.it.length:=by omega
  obtain⟨f,hf,hfm⟩:=ac c2;have F:=F3 F c2 hf;try refine sq F ?_
  refine wk F ?_;refine cq F (fun c3=>?_) (fun c3=>?_)<;>(try exact c3.elim)<;>(refine wk F ?_)
  ·refine ee hQ F ?_;exact L6 (.int _ _) ⟨by rw[cS hf (by first|exact c3|exact c3.symm) hp],rfl⟩
  ·have hp1:∀g∈x.it.take (k+1),g.id≠id:=by
    rw[O3,hf];intro g hg;simp at hg;rcases hg with hg|rfl
    ·exact hp g hg
    ·exact c3
   refine hK2 _ _ _ (M0 ⟨k+1,rfl,aw,?_,?_,?_,by omega,hp1⟩) (by omega);all_goals try exact zZz F
 ·rw[M4 (by omega)]at hp;refine ee hQ F ?_;exact L6 (.int _ _) ⟨by rw[cj hp],rfl⟩
theorem fG(x:St)(id:Int)(hl:x.se.length≤100000)(h:Heap):Sat (CT G) 94 [x.av,.int .i64 id] h (fun r h'=>r=.int .i64 (posF (·.id) x.se id)∧h'=h):=by
 have hel:(x.se.map Se.av).length=x.se.length:=L8 ..;have F:=hel;refine sb [.tmp 4] Tryz.func94 ?_;intro Q hQ;refine wk F ?_;refine lm (fun nL tL hL=>∃(k:Nat),x.se.length-k=nL∧h++[.row 40 9 0 [x.av]]=hL∧tL 1=.int .i64 id∧tL 2=.hp h.length 0 0 0∧tL 5=.int .i64 k∧k≤x.se.length∧(∀f∈x.se.take k,f.id≠id)) ((fun(k:Nat)=>(x.se.length-k:Nat)) (0)) ?_ ?_
 ·refine M0 ⟨0,rfl,aw,?_,?_,?_,by omega,by simp⟩;all_goals try exact zZz F
 rintro _ s2 h' ⟨k,rfl,rfl,e1,e2,e5,hk,hp⟩ K2 hK2;simp only[ai,ak,Nat.reduceEqDiff, ↓reduceIte]at e1 e2 e5;have F:=F4 F e1 e2 e5;refine wk F ?_;refine cq F (fun c1=>?_) (fun c1=>?_)<;>(try exact c1.elim)<;>(refine wk F ?_)
 ·have c2:k<x.se.length:=by omega
  obtain⟨f,hf,hfm⟩:=ac c2;have F:=F3 F c2 hf;try refine sq F ?_
  refine wk F ?_;refine cq F (fun c3=>?_) (fun c3=>?_)<;>(try exact c3.elim)<;>(refine wk F ?_)
  ·refine ee hQ F ?_;exact L6 (.int _ _) ⟨by rw[cS hf (by first|exact c3|exact c3.symm) hp],rfl⟩
  ·have hp1:∀g∈x.se.take (k+1),g.id≠id:=by
    rw[O3,hf];intro g hg;simp at hg;rcases hg with hg|rfl
    ·exact hp g hg
    ·exact c3
   refine hK2 _ _ _ (M0 ⟨k+1,rfl,aw,?_,?_,?_,by omega,hp1⟩) (by omega);all_goals try exact zZz F
 ·rw[M4 (by omega)]at hp;refine ee hQ F ?_;exact L6 (.int _ _) ⟨by rw[cj hp],rfl⟩
end Go.Av
namespace Go.Proofs
open Go.Shelf
def Tryz.lays99_ren:Go.Shelf.Ren:=⟨fun|99=>141|206=>172|n=>n,fun|9=>9|4=>4|3=>3|n=>n,fun|n=>n⟩
theorem Tryz.lays99:Go.Proofs.Lays.n99 Tryz.prog Tryz.lays99_ren:= {
 mixed:=by kernel_rfl
 f99:=Tryz.func141.trans (P9 some (by kernel_rfl))
 f206:=Tryz.func172.trans (P9 some (by kernel_rfl))
 t3:=Tryz.underlying3
 a3:=Tryz.isAgg3
 z3:=Tryz.sizeOf3
 v3:=Tryz.zeroValue3
 t4:=Tryz.underlying4
 a4:=Tryz.isAgg4
 z4:=Tryz.sizeOf4
 v4:=Tryz.zeroValue4
 t9:=Tryz.underlying9
 a9:=Tryz.isAgg9
 z9:=Tryz.sizeOf9
 v9:=Tryz.zeroValue9}
open Go.RowKit Go.Lib in
theorem Tryz.strings_HasPrefix(s p:ByteArray)(w:World):
  Calls Tryz.prog 141 #[.string s,.string p] w fun e w'=>e=.returned (.bool (Lib.hasPrefix s.data.toList p.data.toList))∧w'=w:=Any.strings_HasPrefix Tryz.lays99 s p w
def Tryz.lays229_ren:Go.Shelf.Ren:=⟨fun|229=>199|n=>n,fun|9=>9|40=>198|31=>67|152=>232|3=>3|0=>0|4=>4|21=>21|154=>234|n=>n,fun|n=>n⟩
theorem Tryz.lays229:Go.Proofs.Lays.n229 Tryz.prog Tryz.lays229_ren:= {
 mixed:=by kernel_rfl
 f229:=Tryz.func199.trans (P9 some (by kernel_rfl))
 t0:=Tryz.underlying0
 a0:=Tryz.isAgg0
 z0:=Tryz.sizeOf0
 v0:=Tryz.zeroValue0
 t3:=Tryz.underlying3
 a3:=Tryz.isAgg3
 z3:=Tryz.sizeOf3
 v3:=Tryz.zeroValue3
 t4:=Tryz.underlying4
 a4:=Tryz.isAgg4
 z4:=Tryz.sizeOf4
 v4:=Tryz.zeroValue4
 t9:=Tryz.underlying9
 a9:=Tryz.isAgg9
 z9:=Tryz.sizeOf9
 v9:=Tryz.zeroValue9
 t21:=Tryz.underlying21
 a21:=Tryz.isAgg21
 z21:=Tryz.sizeOf21
 v21:=Tryz.zeroValue21
 t31:=Tryz.underlying67
 a31:=Tryz.isAgg67
 z31:=Tryz.sizeOf67
 v31:=Tryz.zeroValue67
 t40:=Tryz.underlying198
 a40:=Tryz.isAgg198
 z40:=Tryz.sizeOf198
 v40:=Tryz.zeroValue198
 t152:=Tryz.underlying232
 a152:=Tryz.isAgg232
 z152:=Tryz.sizeOf232
 v152:=Tryz.zeroValue232
 t154:=Tryz.underlying234
 a154:=Tryz.isAgg234
 z154:=Tryz.sizeOf234
 v154:=Tryz.zeroValue234}
open Go.RowKit Go.Lib in
theorem Tryz.strings_FieldsFunc(g:Nat)(lb:Array Value)(eg:∀args w,(callFunc g args).run Tryz.prog w=.ok (.enter g args) w)(p:Nat→Bool)(s:ByteArray)(w:World)(hs:s.size≤4294967296)(hp:PredAt Tryz.prog g lb encR p w):
  Calls Tryz.prog 199 #[.string s,.func (.func g) #[] lb] w fun e w'=>∃A,e=.returned (.slice (some ⟨A,0,none⟩) (Lib.goFieldsP p s).length (Lib.goFieldsP p s).length)∧w.heap.size≤A∧
   w'.ownsRow w.heap.size 9 1 (.slice (some ⟨A,0,none⟩) (Lib.goFieldsP p s).length (Lib.goFieldsP p s).length) (Lib.goFieldsP p s).length ((Lib.goFieldsP p s).map Value.string)∧Below w.heap.size w w':=Any.strings_FieldsFunc Tryz.lays229 g lb eg p s w hs hp (by kernel_rfl) (by kernel_rfl)
def Tryz.laysNm224_ren:Go.Shelf.Ren:=⟨fun|24=>76|n=>n,fun|24=>67|9=>9|3=>3|4=>4|0=>0|n=>n,fun|n=>n⟩
theorem Tryz.laysNm224:Go.Proofs.Lays2.n24 Tryz.prog Tryz.laysNm224_ren:= {
 mixed:=by kernel_rfl
 f24:=Tryz.func76.trans (P9 some (by kernel_rfl))
 t0:=Tryz.underlying0
 a0:=Tryz.isAgg0
 z0:=Tryz.sizeOf0
 v0:=Tryz.zeroValue0
 t3:=Tryz.underlying3
 a3:=Tryz.isAgg3
 z3:=Tryz.sizeOf3
 v3:=Tryz.zeroValue3
 t4:=Tryz.underlying4
 a4:=Tryz.isAgg4
 z4:=Tryz.sizeOf4
 v4:=Tryz.zeroValue4
 t9:=Tryz.underlying9
 a9:=Tryz.isAgg9
 z9:=Tryz.sizeOf9
 v9:=Tryz.zeroValue9
 t24:=Tryz.underlying67
 a24:=Tryz.isAgg67
 z24:=Tryz.sizeOf67
 v24:=Tryz.zeroValue67
 i9:=by kernel_rfl}
open Go.RowKit Go.Lib Go.Sort in
theorem Tryz.slices_Delete_string(blk off cap i j:Nat)(zs:List (List UInt8))(w:World)(hH:Holds encStr w blk off zs.toArray)(hcap:zs.length≤cap)(hm:cap≤9223372036854775807)(hij:i≤j)(hj:j≤zs.length):
  Calls Tryz.prog 76 #[.slice (some ⟨blk,off,none⟩) zs.length cap,.int .i64 i,.int .i64 j] w fun e w'=>e=.returned (.slice (some ⟨blk,off,none⟩) (zs.length-(j-i)) cap)∧∃q,w'=putRow encStr (Sort.ahead w q) blk off (zs.take i++zs.drop j++List.replicate (j-i) []).toArray:=Any.slices_Delete_string Tryz.laysNm224 blk off cap i j zs w hH hcap hm hij hj
end Go.Proofs
namespace Go.Av
open Go Go.Proofs Go.RowKit Go.Shelf Go.Lib
def letF(r:Nat):Bool:=
 if r<192 then(decide (97≤r)&&decide (r≤122))||(decide (48≤r)&&decide (r≤57))
 else !(decide (r=215)||decide (r=247)||decide (r=65533))&& !((decide (8192≤r)&&decide (r≤8303))||(decide (12288≤r)&&decide (r≤12351)))
set_option maxHeartbeats 4000000 in
theorem nc(W:World)(r:Nat):Calls Tryz.prog 202 #[encR r] W fun e w'=>e=.returned (.bool (letF r))∧∃q,w'=W.drewN q:=by
 by_cases h0:r<192
 ·by_cases h1:97≤r<;>by_cases h2:r≤122<;>by_cases h3:48≤r<;>by_cases h4:r≤57
  all_goals first| (exfalso;omega)|skip
  all_goals
   have z0:(r:Int)<192↔r<192:=(by omega);have z1:(97:Int)≤(r:Int)↔97≤r:=(by omega);have z2:(r:Int)≤122↔r≤122:=(by omega);have z3:(48:Int)≤(r:Int)↔48≤r:=(by omega);have z4:(r:Int)≤57↔r≤57:=by omega
   go_enter Tryz.func202,Tryz.ntmps202
   go_wp2
   all_goals first| (exfalso;omega)| (go_ret;exact⟨by simp[letF,h0,h1,h2,h3,h4],0,rfl⟩)
 ·by_cases h1:r=215
  ·subst h1
   go_enter Tryz.func202,Tryz.ntmps202
   go_wp2
   all_goals first| (exfalso;omega)| (go_ret;exact⟨by simp[letF],0,rfl⟩)
  by_cases h2:r=247
  ·subst h2
   go_enter Tryz.func202,Tryz.ntmps202
   go_wp2
   all_goals first| (exfalso;omega)| (go_ret;exact⟨by simp[letF],0,rfl⟩)
  by_cases h3:r=65533
  ·subst h3
   go_enter Tryz.func202,Tryz.ntmps202
   go_wp2
   all_goals first| (exfalso;omega)| (go_ret;exact⟨by simp[letF],0,rfl⟩)
  by_cases h4:8192≤r<;>by_cases h5:r≤8303<;>by_cases h6:12288≤r<;>by_cases h7:r≤12351
  all_goals first| (exfalso;omega)|skip
  all_goals
   have z0:(r:Int)<192↔r<192:=(by omega);have z1:(r:Int)=215↔r=215:=(by omega);have z2:(r:Int)=247↔r=247:=(by omega);have z3:(r:Int)=65533↔r=65533:=(by omega);have z4:(8192:Int)≤(r:Int)↔8192≤r:=(by omega);have z5:(r:Int)≤8303↔r≤8303:=(by omega);have z6:(12288:Int)≤(r:Int)↔12288≤r:=(by omega);have z7:(r:Int)≤12351↔r≤12351:=by omega
   go_enter Tryz.func202,Tryz.ntmps202
   go_wp2
   all_goals first| (exfalso;omega)| (exfalso;simp only[beq_iff_eq]at *;omega)| (go_ret;exact⟨by simp[letF,h0,h1,h2,h3,h4,h5,h6,h7],0,rfl⟩)
set_option maxHeartbeats 4000000 in
theorem sZ(w:World):PredAt Tryz.prog 201 #[] encR (fun r=> !letF r) w:=fun W r _=>by
 unfold FnGives;have hL:=nc
 go_enter Tryz.func201,Tryz.ntmps201
 go_wp2_with (go_at_call 202;refine(hL _ _).mono ?_;rintro e w' ⟨rfl,q,rfl⟩)
 go_ret
 exact⟨rfl,_,rfl⟩
end Go.Av
namespace Go.Av
open Go Go.Proofs Go.RowKit
variable (G:Nat→Option (List AVal))
theorem nf(x:AVal)(h:Heap):Sat (CT G) 236 [x] h (fun r h'=>r=x∧h'=h):=by
 refine Sat.of_extern (fn:=Tryz.f236) (ex:=Extern.AbiNoEscape.same) Tryz.func236 (by kernel_rfl) (by kernel_rfl) (by kernel_rfl) (by kernel_rfl) fun B S μ w vs f r=>?_
 obtain⟨hl,hr⟩:=r
 match vs,hl,hr with
 | [v],_,hr=>
  refine⟨v,w,Lib.run_noEscape w v,x,h,S,μ,⟨rfl,rfl⟩,Step.refl _ _ _ _,f,?_⟩;simpa using hr 0 x rfl
theorem qF{w w':World}(e:w'=w):Below w.heap.size w w':=by rw[e];exact za5 _ _
variable {G}
variable (G)
theorem gQ(s p:Bs)(h:Heap):
  Sat (CT G) 141 [.str s,.str p] h (fun r h'=>r=.bool (Lib.hasPrefix s p)∧h'=h):=by
 refine Sat.of_calls (fn:=Tryz.f141) Tryz.func141 (by kernel_rfl) (by kernel_rfl) rfl rfl fun B S μ w f=>?_
 refine(Tryz.strings_HasPrefix ⟨s.toArray⟩ ⟨p.toArray⟩ w).mono fun e w' ⟨h1,h2⟩=>⟨h1,qF h2⟩
end Go.Av
theorem zd3:type_of% @Go.Av.Fo.clo:=@Go.Av.Fo.clo
theorem zd4:type_of% @Go.Av.Se.clo:=@Go.Av.Se.clo
theorem zd5:type_of% @Go.Av.Fe.clo:=@Go.Av.Fe.clo
