/- What is written into a Builder of the call's own. -/
import Derived.Shelf.SlIterI.Nil
import Derived.Shelf.SlIter.Nil
import Derived.Shelf.SortM.Plain
import Derived.Shelf.SortM.SortNone
import Derived.Ground.GgzProg
import Derived.Ground.SlgmProg
import Derived.Ground.Names2Prog
import Derived.Shelf.Spec.SlicesInsert
import Derived.Shelf.Spec.SlicesInsertGrow
import Derived.Shelf.Spec.SearchS
import Derived.Test.YtanjiiailjilbaaGreatProg
import Derived.Test.YtanjiiailjilbaaGreatMeXe
import Derived.Test.YtanjiiailjilbaaGreatMeXf
import Derived.Shelf.Strings.Builder1
import Derived.Shelf.Small.Bits
import Derived.Shelf.Small.Wraps
import Derived.Shelf.Strings.BuilderF
import Derived.Shelf.Strings.BuilderK
import Derived.Shelf.Utf8.AppendRunePlain
import Derived.Shelf.Strconv.Itoa0
import Derived.Shelf.Strings.Prefix
import Derived.Shelf.Strings.FieldsFuncAny
import Derived.Shelf.Slices.Clone
import Derived.Shelf.Slices.SearchI
import Derived.Shelf.Slices.Delete
import Derived.Shelf.Slices.Empties
import Derived.Test.YtanjiiailjilbaaGreatMeDr
import Derived.Lib.Builder
set_option linter.unusedSimpArgs false
set_option linter.unusedVariables false
set_option linter.unusedSectionVars false
set_option linter.unnecessarySimpa false
set_option maxRecDepth 100000
set_option maxHeartbeats 4000000
namespace Go.Proofs
open Go.Shelf
def Tryz.keys100_ren:Go.Shelf.Ren:=⟨fun|7=>100|10=>151|n=>n,fun|23=>110|26=>3|3=>53|28=>157|0=>0|27=>156|33=>168|4=>4|n=>n,fun|n=>n⟩
theorem Tryz.keys100:Go.Proofs.SlLaysZI.n7 Tryz.prog Tryz.keys100_ren:= {
 mixed:=by kernel_rfl
 f7:=⟨Tryz.f100.name,by decide,Tryz.func100.trans (congrArg some (by kernel_rfl))⟩
 f10:=⟨Tryz.f151.name,by decide,Tryz.func151.trans (congrArg some (by kernel_rfl))⟩
 t0:=Tryz.underlying0
 a0:=Tryz.isAgg0
 z0:=Tryz.sizeOf0
 v0:=Tryz.zeroValue0
 t4:=Tryz.underlying4
 a4:=Tryz.isAgg4
 z4:=Tryz.sizeOf4
 v4:=Tryz.zeroValue4
 t23:=Tryz.underlying110
 a23:=Tryz.isAgg110
 z23:=Tryz.sizeOf110
 v23:=Tryz.zeroValue110
 t26:=Tryz.underlying3
 a26:=Tryz.isAgg3
 z26:=Tryz.sizeOf3
 v26:=Tryz.zeroValue3
 t27:=Tryz.underlying156
 a27:=Tryz.isAgg156
 z27:=Tryz.sizeOf156
 v27:=Tryz.zeroValue156
 t28:=Tryz.underlying157
 a28:=Tryz.isAgg157
 z28:=Tryz.sizeOf157
 v28:=Tryz.zeroValue157
 t33:=Tryz.underlying168
 a33:=Tryz.isAgg168
 z33:=Tryz.sizeOf168
 v33:=Tryz.zeroValue168}
def Tryz.keys101_ren:Go.Shelf.Ren:=⟨fun|7=>101|10=>152|n=>n,fun|23=>111|26=>3|3=>51|28=>157|0=>0|27=>156|33=>168|4=>4|n=>n,fun|n=>n⟩
theorem Tryz.keys101:Go.Proofs.SlLaysZI.n7 Tryz.prog Tryz.keys101_ren:= {
 mixed:=by kernel_rfl
 f7:=⟨Tryz.f101.name,by decide,Tryz.func101.trans (congrArg some (by kernel_rfl))⟩
 f10:=⟨Tryz.f152.name,by decide,Tryz.func152.trans (congrArg some (by kernel_rfl))⟩
 t0:=Tryz.underlying0
 a0:=Tryz.isAgg0
 z0:=Tryz.sizeOf0
 v0:=Tryz.zeroValue0
 t4:=Tryz.underlying4
 a4:=Tryz.isAgg4
 z4:=Tryz.sizeOf4
 v4:=Tryz.zeroValue4
 t23:=Tryz.underlying111
 a23:=Tryz.isAgg111
 z23:=Tryz.sizeOf111
 v23:=Tryz.zeroValue111
 t26:=Tryz.underlying3
 a26:=Tryz.isAgg3
 z26:=Tryz.sizeOf3
 v26:=Tryz.zeroValue3
 t27:=Tryz.underlying156
 a27:=Tryz.isAgg156
 z27:=Tryz.sizeOf156
 v27:=Tryz.zeroValue156
 t28:=Tryz.underlying157
 a28:=Tryz.isAgg157
 z28:=Tryz.sizeOf157
 v28:=Tryz.zeroValue157
 t33:=Tryz.underlying168
 a33:=Tryz.isAgg168
 z33:=Tryz.sizeOf168
 v33:=Tryz.zeroValue168}
def Tryz.keys102_ren:Go.Shelf.Ren:=⟨fun|7=>102|10=>153|n=>n,fun|23=>91|26=>3|3=>82|28=>157|0=>0|27=>156|33=>168|4=>4|n=>n,fun|n=>n⟩
theorem Tryz.keys102:Go.Proofs.SlLaysZI.n7 Tryz.prog Tryz.keys102_ren:= {
 mixed:=by kernel_rfl
 f7:=⟨Tryz.f102.name,by decide,Tryz.func102.trans (congrArg some (by kernel_rfl))⟩
 f10:=⟨Tryz.f153.name,by decide,Tryz.func153.trans (congrArg some (by kernel_rfl))⟩
 t0:=Tryz.underlying0
 a0:=Tryz.isAgg0
 z0:=Tryz.sizeOf0
 v0:=Tryz.zeroValue0
 t4:=Tryz.underlying4
 a4:=Tryz.isAgg4
 z4:=Tryz.sizeOf4
 v4:=Tryz.zeroValue4
 t23:=Tryz.underlying91
 a23:=Tryz.isAgg91
 z23:=Tryz.sizeOf91
 v23:=Tryz.zeroValue91
 t26:=Tryz.underlying3
 a26:=Tryz.isAgg3
 z26:=Tryz.sizeOf3
 v26:=Tryz.zeroValue3
 t27:=Tryz.underlying156
 a27:=Tryz.isAgg156
 z27:=Tryz.sizeOf156
 v27:=Tryz.zeroValue156
 t28:=Tryz.underlying157
 a28:=Tryz.isAgg157
 z28:=Tryz.sizeOf157
 v28:=Tryz.zeroValue157
 t33:=Tryz.underlying168
 a33:=Tryz.isAgg168
 z33:=Tryz.sizeOf168
 v33:=Tryz.zeroValue168}
def Tryz.keys103_ren:Go.Shelf.Ren:=⟨fun|7=>103|10=>154|n=>n,fun|23=>112|26=>3|3=>129|28=>157|0=>0|27=>156|33=>168|4=>4|n=>n,fun|n=>n⟩
theorem Tryz.keys103:Go.Proofs.SlLaysZI.n7 Tryz.prog Tryz.keys103_ren:= {
 mixed:=by kernel_rfl
 f7:=⟨Tryz.f103.name,by decide,Tryz.func103.trans (congrArg some (by kernel_rfl))⟩
 f10:=⟨Tryz.f154.name,by decide,Tryz.func154.trans (congrArg some (by kernel_rfl))⟩
 t0:=Tryz.underlying0
 a0:=Tryz.isAgg0
 z0:=Tryz.sizeOf0
 v0:=Tryz.zeroValue0
 t4:=Tryz.underlying4
 a4:=Tryz.isAgg4
 z4:=Tryz.sizeOf4
 v4:=Tryz.zeroValue4
 t23:=Tryz.underlying112
 a23:=Tryz.isAgg112
 z23:=Tryz.sizeOf112
 v23:=Tryz.zeroValue112
 t26:=Tryz.underlying3
 a26:=Tryz.isAgg3
 z26:=Tryz.sizeOf3
 v26:=Tryz.zeroValue3
 t27:=Tryz.underlying156
 a27:=Tryz.isAgg156
 z27:=Tryz.sizeOf156
 v27:=Tryz.zeroValue156
 t28:=Tryz.underlying157
 a28:=Tryz.isAgg157
 z28:=Tryz.sizeOf157
 v28:=Tryz.zeroValue157
 t33:=Tryz.underlying168
 a33:=Tryz.isAgg168
 z33:=Tryz.sizeOf168
 v33:=Tryz.zeroValue168}
def Tryz.sorted84_ren:Go.Shelf.Ren:=⟨fun|6=>84|8=>136|9=>137|11=>179|13=>141|12=>180|23=>190|24=>191|14=>221|15=>222|16=>223|17=>224|18=>225|19=>226|20=>227|21=>228|22=>229|25=>258|26=>231|27=>232|28=>259|29=>260|30=>261|31=>276|n=>n,fun|26=>3|28=>157|24=>59|0=>0|3=>3|37=>205|48=>232|50=>234|4=>4|40=>226|39=>225|45=>171|5=>5|9=>9|51=>252|55=>256|57=>273|58=>40|33=>168|n=>n,fun|n=>n⟩
theorem Tryz.sorted84:Go.Proofs.SlLaysZI.n6 Tryz.prog Tryz.sorted84_ren:= {
 mixed:=by kernel_rfl
 f6:=⟨Tryz.f84.name,by decide,Tryz.func84.trans (congrArg some (by kernel_rfl))⟩
 f8:=⟨Tryz.f136.name,by decide,Tryz.func136.trans (congrArg some (by kernel_rfl))⟩
 f11:=⟨Tryz.f179.name,by decide,Tryz.func179.trans (congrArg some (by kernel_rfl))⟩
 t0:=Tryz.underlying0
 a0:=Tryz.isAgg0
 z0:=Tryz.sizeOf0
 v0:=Tryz.zeroValue0
 t24:=Tryz.underlying59
 a24:=Tryz.isAgg59
 z24:=Tryz.sizeOf59
 v24:=Tryz.zeroValue59
 t26:=Tryz.underlying3
 a26:=Tryz.isAgg3
 z26:=Tryz.sizeOf3
 v26:=Tryz.zeroValue3
 t28:=Tryz.underlying157
 a28:=Tryz.isAgg157
 z28:=Tryz.sizeOf157
 v28:=Tryz.zeroValue157
 i26:=by kernel_rfl}
def Tryz.sort137_ren:Go.Shelf.Ren:=⟨fun|5=>137|8=>141|7=>180|19=>190|20=>191|10=>221|11=>222|12=>223|13=>224|14=>225|15=>226|16=>227|17=>228|18=>229|30=>258|31=>231|32=>232|33=>259|34=>260|35=>261|40=>276|n=>n,fun|23=>59|25=>3|3=>3|32=>205|22=>59|0=>0|44=>232|46=>234|4=>4|36=>226|35=>225|41=>171|5=>5|9=>9|53=>252|57=>256|63=>273|64=>40|n=>n,fun|n=>n⟩
theorem Tryz.sort137:Go.Proofs.SlLaysM.n5 Tryz.prog Tryz.sort137_ren:= {
 mixed:=by kernel_rfl
 f5:=⟨Tryz.f137.name,by decide,Tryz.func137.trans (congrArg some (by kernel_rfl))⟩
 f7:=⟨Tryz.f180.name,by decide,Tryz.func180.trans (congrArg some (by kernel_rfl))⟩
 f8:=Tryz.func141.trans (congrArg some (by kernel_rfl))
 f10:=⟨Tryz.f221.name,by decide,Tryz.func221.trans (congrArg some (by kernel_rfl))⟩
 f11:=⟨Tryz.f222.name,by decide,Tryz.func222.trans (congrArg some (by kernel_rfl))⟩
 f12:=⟨Tryz.f223.name,by decide,Tryz.func223.trans (congrArg some (by kernel_rfl))⟩
 f13:=⟨Tryz.f224.name,by decide,Tryz.func224.trans (congrArg some (by kernel_rfl))⟩
 f14:=⟨Tryz.f225.name,by decide,Tryz.func225.trans (congrArg some (by kernel_rfl))⟩
 f15:=⟨Tryz.f226.name,by decide,Tryz.func226.trans (congrArg some (by kernel_rfl))⟩
 f16:=⟨Tryz.f227.name,by decide,Tryz.func227.trans (congrArg some (by kernel_rfl))⟩
 f17:=⟨Tryz.f228.name,by decide,Tryz.func228.trans (congrArg some (by kernel_rfl))⟩
 f18:=⟨Tryz.f229.name,by decide,Tryz.func229.trans (congrArg some (by kernel_rfl))⟩
 f19:=Tryz.func190.trans (congrArg some (by kernel_rfl))
 f20:=Tryz.func191.trans (congrArg some (by kernel_rfl))
 f30:=⟨Tryz.f258.name,by decide,Tryz.func258.trans (congrArg some (by kernel_rfl))⟩
 f31:=Tryz.func231.trans (congrArg some (by kernel_rfl))
 f32:=Tryz.func232.trans (congrArg some (by kernel_rfl))
 f33:=⟨Tryz.f259.name,by decide,Tryz.func259.trans (congrArg some (by kernel_rfl))⟩
 f34:=⟨Tryz.f260.name,by decide,Tryz.func260.trans (congrArg some (by kernel_rfl))⟩
 f35:=⟨Tryz.f261.name,by decide,Tryz.func261.trans (congrArg some (by kernel_rfl))⟩
 f40:=⟨Tryz.f276.name,by decide,Tryz.func276.trans (congrArg some (by kernel_rfl))⟩
 t0:=Tryz.underlying0
 a0:=Tryz.isAgg0
 z0:=Tryz.sizeOf0
 v0:=Tryz.zeroValue0
 t3:=Tryz.underlying3
 a3:=Tryz.isAgg3
 z3:=Tryz.sizeOf3
 v3:=Tryz.zeroValue3
 t4:=Tryz.underlying4
 a4:=Tryz.isAgg4
 z4:=Tryz.sizeOf4
 v4:=Tryz.zeroValue4
 t5:=Tryz.underlying5
 a5:=Tryz.isAgg5
 z5:=Tryz.sizeOf5
 v5:=Tryz.zeroValue5
 t9:=Tryz.underlying9
 a9:=Tryz.isAgg9
 z9:=Tryz.sizeOf9
 v9:=Tryz.zeroValue9
 t22:=Tryz.underlying59
 a22:=Tryz.isAgg59
 z22:=Tryz.sizeOf59
 v22:=Tryz.zeroValue59
 t23:=Tryz.underlying59
 a23:=Tryz.isAgg59
 z23:=Tryz.sizeOf59
 v23:=Tryz.zeroValue59
 t25:=Tryz.underlying3
 a25:=Tryz.isAgg3
 z25:=Tryz.sizeOf3
 v25:=Tryz.zeroValue3
 t32:=Tryz.underlying205
 a32:=Tryz.isAgg205
 z32:=Tryz.sizeOf205
 v32:=Tryz.zeroValue205
 t35:=Tryz.underlying225
 a35:=Tryz.isAgg225
 z35:=Tryz.sizeOf225
 v35:=Tryz.zeroValue225
 t36:=Tryz.underlying226
 a36:=Tryz.isAgg226
 z36:=Tryz.sizeOf226
 v36:=Tryz.zeroValue226
 t41:=Tryz.underlying171
 a41:=Tryz.isAgg171
 z41:=Tryz.sizeOf171
 v41:=Tryz.zeroValue171
 t44:=Tryz.underlying232
 a44:=Tryz.isAgg232
 z44:=Tryz.sizeOf232
 v44:=Tryz.zeroValue232
 t46:=Tryz.underlying234
 a46:=Tryz.isAgg234
 z46:=Tryz.sizeOf234
 v46:=Tryz.zeroValue234
 t53:=Tryz.underlying252
 a53:=Tryz.isAgg252
 z53:=Tryz.sizeOf252
 v53:=Tryz.zeroValue252
 t57:=Tryz.underlying256
 a57:=Tryz.isAgg256
 z57:=Tryz.sizeOf256
 v57:=Tryz.zeroValue256
 t63:=Tryz.underlying273
 a63:=Tryz.isAgg273
 z63:=Tryz.sizeOf273
 v63:=Tryz.zeroValue273
 t64:=Tryz.underlying40
 a64:=Tryz.isAgg40
 z64:=Tryz.sizeOf40
 v64:=Tryz.zeroValue40}
open Go.RowKit Go.Maps Go.Sort in
theorem Tryz.sorts84(m:Nat):AnyZI.SortsIn Tryz.prog Tryz.sorted84_ren Fence.wide m:=
 ⟨fun blk off cap ss W hH hblk hsz=>callsIn_wide.2 (AnyM.slices_Sort_int Tryz.sort137 blk off cap ss W hH hblk hsz),
 fun p cap W=>callsIn_wide.2 (AnyM.slices_Sort_int_none Tryz.sort137 p cap W)⟩
open Go.RowKit Go.Maps Go.Sort in
theorem Tryz.sortedKeys100{H:Type}(Bm b nn:Nat)(D0:DataW H)(R:Value→Option (DataW H×List MemPlace))(w:World)(hBm:Bm<w.heap.size)(hm:w.cell? ⟨Bm,0,none⟩=some (.map (some b)))(hown:w.ownsMap Tryz.prog 3 R b nn D0)(hmax:Maps.size D0≤maxLen)(hbytes:Maps.size D0*8≤140737488355328):
  Calls Tryz.prog 84 #[.func (.func 151) #[] #[.pointer (some ⟨Bm,0,none⟩)]] w fun e w'=>∃(v:Value) (ss:List Int),e=.returned v∧ss.Perm (intKeys D0)∧
   w'.ownsRow w.heap.size 3 1 v ss.length ((ss.mergeSort (fun x y=>decide (x≤y))).map encZ)∧(v=.slice none 0 0↔ss=[])∧Below w.heap.size w w':=by
 refine(callsIn_wide (n:=5)).1 ?_
 have hseq:SeqGives Fence.wide 2 Tryz.prog 151 #[.pointer (some ⟨Bm,0,none⟩)] encZ (fun ss=>ss.Perm (intKeys D0)) (Maps.size D0) w:=
  AnyZI.keys_gives (ρ:=Tryz.keys100_ren) {Tryz.keys100 with} Fence.wide _ trivial rfl (by omega) Bm b nn D0 w hBm hm hown
 exact AnyZI.sorted_in Tryz.sorted84 Fence.wide 5 trivial trivial trivial trivial rfl (by omega) (Tryz.sorts84 _) (enters_of Tryz.func137 (by kernel_rfl) rfl) 151 #[.pointer (some ⟨Bm,0,none⟩)] trivial (enters_of Tryz.func151 (by kernel_rfl) rfl) _ _ hmax hbytes _ hseq
open Go.RowKit Go.Maps Go.Sort in
theorem Tryz.sortedKeys101{H:Type}(Bm b nn:Nat)(D0:DataW H)(R:Value→Option (DataW H×List MemPlace))(w:World)(hBm:Bm<w.heap.size)(hm:w.cell? ⟨Bm,0,none⟩=some (.map (some b)))(hown:w.ownsMap Tryz.prog 3 R b nn D0)(hmax:Maps.size D0≤maxLen)(hbytes:Maps.size D0*8≤140737488355328):
  Calls Tryz.prog 84 #[.func (.func 152) #[] #[.pointer (some ⟨Bm,0,none⟩)]] w fun e w'=>∃(v:Value) (ss:List Int),e=.returned v∧ss.Perm (intKeys D0)∧
   w'.ownsRow w.heap.size 3 1 v ss.length ((ss.mergeSort (fun x y=>decide (x≤y))).map encZ)∧(v=.slice none 0 0↔ss=[])∧Below w.heap.size w w':=by
 refine(callsIn_wide (n:=5)).1 ?_
 have hseq:SeqGives Fence.wide 2 Tryz.prog 152 #[.pointer (some ⟨Bm,0,none⟩)] encZ (fun ss=>ss.Perm (intKeys D0)) (Maps.size D0) w:=
  AnyZI.keys_gives (ρ:=Tryz.keys101_ren) {Tryz.keys101 with} Fence.wide _ trivial rfl (by omega) Bm b nn D0 w hBm hm hown
 exact AnyZI.sorted_in Tryz.sorted84 Fence.wide 5 trivial trivial trivial trivial rfl (by omega) (Tryz.sorts84 _) (enters_of Tryz.func137 (by kernel_rfl) rfl) 152 #[.pointer (some ⟨Bm,0,none⟩)] trivial (enters_of Tryz.func152 (by kernel_rfl) rfl) _ _ hmax hbytes _ hseq
open Go.RowKit Go.Maps Go.Sort in
theorem Tryz.sortedKeys102{H:Type}(Bm b nn:Nat)(D0:DataW H)(R:Value→Option (DataW H×List MemPlace))(w:World)(hBm:Bm<w.heap.size)(hm:w.cell? ⟨Bm,0,none⟩=some (.map (some b)))(hown:w.ownsMap Tryz.prog 3 R b nn D0)(hmax:Maps.size D0≤maxLen)(hbytes:Maps.size D0*8≤140737488355328):
  Calls Tryz.prog 84 #[.func (.func 153) #[] #[.pointer (some ⟨Bm,0,none⟩)]] w fun e w'=>∃(v:Value) (ss:List Int),e=.returned v∧ss.Perm (intKeys D0)∧
   w'.ownsRow w.heap.size 3 1 v ss.length ((ss.mergeSort (fun x y=>decide (x≤y))).map encZ)∧(v=.slice none 0 0↔ss=[])∧Below w.heap.size w w':=by
 refine(callsIn_wide (n:=5)).1 ?_
 have hseq:SeqGives Fence.wide 2 Tryz.prog 153 #[.pointer (some ⟨Bm,0,none⟩)] encZ (fun ss=>ss.Perm (intKeys D0)) (Maps.size D0) w:=
  AnyZI.keys_gives (ρ:=Tryz.keys102_ren) {Tryz.keys102 with} Fence.wide _ trivial rfl (by omega) Bm b nn D0 w hBm hm hown
 exact AnyZI.sorted_in Tryz.sorted84 Fence.wide 5 trivial trivial trivial trivial rfl (by omega) (Tryz.sorts84 _) (enters_of Tryz.func137 (by kernel_rfl) rfl) 153 #[.pointer (some ⟨Bm,0,none⟩)] trivial (enters_of Tryz.func153 (by kernel_rfl) rfl) _ _ hmax hbytes _ hseq
open Go.RowKit Go.Maps Go.Sort in
theorem Tryz.sortedKeys103{H:Type}(Bm b nn:Nat)(D0:DataW H)(R:Value→Option (DataW H×List MemPlace))(w:World)(hBm:Bm<w.heap.size)(hm:w.cell? ⟨Bm,0,none⟩=some (.map (some b)))(hown:w.ownsMap Tryz.prog 3 R b nn D0)(hmax:Maps.size D0≤maxLen)(hbytes:Maps.size D0*8≤140737488355328):
  Calls Tryz.prog 84 #[.func (.func 154) #[] #[.pointer (some ⟨Bm,0,none⟩)]] w fun e w'=>∃(v:Value) (ss:List Int),e=.returned v∧ss.Perm (intKeys D0)∧
   w'.ownsRow w.heap.size 3 1 v ss.length ((ss.mergeSort (fun x y=>decide (x≤y))).map encZ)∧(v=.slice none 0 0↔ss=[])∧Below w.heap.size w w':=by
 refine(callsIn_wide (n:=5)).1 ?_
 have hseq:SeqGives Fence.wide 2 Tryz.prog 154 #[.pointer (some ⟨Bm,0,none⟩)] encZ (fun ss=>ss.Perm (intKeys D0)) (Maps.size D0) w:=
  AnyZI.keys_gives (ρ:=Tryz.keys103_ren) {Tryz.keys103 with} Fence.wide _ trivial rfl (by omega) Bm b nn D0 w hBm hm hown
 exact AnyZI.sorted_in Tryz.sorted84 Fence.wide 5 trivial trivial trivial trivial rfl (by omega) (Tryz.sorts84 _) (enters_of Tryz.func137 (by kernel_rfl) rfl) 154 #[.pointer (some ⟨Bm,0,none⟩)] trivial (enters_of Tryz.func154 (by kernel_rfl) rfl) _ _ hmax hbytes _ hseq
def Tryz.lays2_22_ren:Go.Shelf.Ren:=⟨fun|22=>97|29=>149|30=>150|36=>201|17=>237|n=>n,fun|24=>80|9=>9|3=>3|4=>4|0=>0|n=>n,fun|n=>n⟩
theorem Tryz.lays2_22:Go.Proofs.Lays2.n22 Tryz.prog Tryz.lays2_22_ren:= {
 mixed:=by kernel_rfl
 f17:=Tryz.func237.trans (congrArg some (by kernel_rfl))
 f22:=Tryz.func97.trans (congrArg some (by kernel_rfl))
 f29:=Tryz.func149.trans (congrArg some (by kernel_rfl))
 f30:=Tryz.func150.trans (congrArg some (by kernel_rfl))
 f36:=Tryz.func201.trans (congrArg some (by kernel_rfl))
 t0:=Tryz.underlying0
 a0:=Tryz.isAgg0
 z0:=Tryz.sizeOf0
 v0:=Tryz.zeroValue0
 t3:=Tryz.underlying3
 a3:=Tryz.isAgg3
 z3:=Tryz.sizeOf3
 v3:=Tryz.zeroValue3
 t4:=Tryz.underlying4
 a4:=Tryz.isAgg4
 z4:=Tryz.sizeOf4
 v4:=Tryz.zeroValue4
 t9:=Tryz.underlying9
 a9:=Tryz.isAgg9
 z9:=Tryz.sizeOf9
 v9:=Tryz.zeroValue9
 t24:=Tryz.underlying80
 a24:=Tryz.isAgg80
 z24:=Tryz.sizeOf80
 v24:=Tryz.zeroValue80
 i9:=by kernel_rfl}
def Tryz.lays2_26_ren:Go.Shelf.Ren:=⟨fun|26=>148|33=>187|34=>200|38=>235|n=>n,fun|24=>80|9=>9|3=>3|4=>4|40=>205|0=>0|n=>n,fun|n=>n⟩
theorem Tryz.lays2_26:Go.Proofs.Lays2.n26 Tryz.prog Tryz.lays2_26_ren:= {
 mixed:=by kernel_rfl
 f26:=Tryz.func148.trans (congrArg some (by kernel_rfl))
 f33:=Tryz.func187.trans (congrArg some (by kernel_rfl))
 f34:=Tryz.func200.trans (congrArg some (by kernel_rfl))
 f38:=Tryz.func235.trans (congrArg some (by kernel_rfl))
 t0:=Tryz.underlying0
 a0:=Tryz.isAgg0
 z0:=Tryz.sizeOf0
 v0:=Tryz.zeroValue0
 t3:=Tryz.underlying3
 a3:=Tryz.isAgg3
 z3:=Tryz.sizeOf3
 v3:=Tryz.zeroValue3
 t4:=Tryz.underlying4
 a4:=Tryz.isAgg4
 z4:=Tryz.sizeOf4
 v4:=Tryz.zeroValue4
 t9:=Tryz.underlying9
 a9:=Tryz.isAgg9
 z9:=Tryz.sizeOf9
 v9:=Tryz.zeroValue9
 t24:=Tryz.underlying80
 a24:=Tryz.isAgg80
 z24:=Tryz.sizeOf80
 v24:=Tryz.zeroValue80
 t40:=Tryz.underlying205
 a40:=Tryz.isAgg205
 z40:=Tryz.sizeOf205
 v40:=Tryz.zeroValue205}
end Go.Proofs
namespace Go.Av
open Go Go.Proofs Go.RowKit
section
variable {C:Ctx} {B:Nat} {S:Addr→Prop} {μ:Map} {h:Heap} {w w':World} {α:Type}
theorem tu{av:α→AVal}{enc:α→Value}(hc:∀a,(av a).cells=[av a])(hs:∀a,(av a).sto=true)(hr:∀(w:World) (S:Addr→Prop) (μ:Map) (a:α),Rep w S μ (av a) (enc a))
  (f:Fits C B S μ h w){e:TypeId}{v:Value}{ls:List α}(ho:w'.ownsRow w.heap.size e 1 v ls.length (ls.map enc))(hb:Below w.heap.size w w'):
  ∃S',Fits C B S' μ h w'∧Step B S μ w S' μ w'∧Rep w' S' μ (.sl 1 (ls.map av)) v:=by
 obtain⟨f',st⟩:=f.grown hb
 obtain⟨_,ho⟩:=ho
 rcases ho with⟨rfl,h0⟩| ⟨g,cap,cur,rfl,hg,hheap,hn,hm,hsz,htk⟩
 ·have:ls=[]:=List.length_eq_zero_iff.1 h0
  subst this
  exact⟨S,f',st,.sl0 1 none 0⟩
 ·by_cases hl:ls=[]
  ·subst hl;exact⟨S,f',st,.sl0 1 _ cap⟩
  have hgl:g<w'.heap.size:=(Array.getElem?_eq_some_iff.1 hheap).1
  let S':Addr→Prop:=fun a=>S a∨a.block=g
  have st2:Step B S μ w' S' μ w':=⟨fun a ha=>.inl ha,fun _ _=>rfl,Below.refl _ _,MapLe.refl _,fun a ha=>ha.elim .inl fun e=>.inr (by rw[e];exact Nat.le_trans f.base hg)⟩
  have f2:Fits C B S' μ h w':=⟨fun g' cs hg'=>(f'.glob g' cs hg').mono st2,f'.len,f'.sep,fun p m b h1 e1=>by
    obtain⟨a1,a2,a3⟩:=f'.own p m b h1 e1
    have:=(f.own p m b h1 e1).2.1
    exact⟨a1,a2,fun a ha=>ha.elim (a3 a) fun e=>by omega⟩,f'.base,fun a ha=>ha.elim (f'.lie a) fun e=>by rw[e];exact hgl,
   fun p m k h1 h2=>(f'.blk p m k h1 h2).mono st2 fun _ _=>rfl⟩
  have hget:∀i,cur[0+(i*1+0)]? =cur[i]? :=fun i=>by congr 1;omega
  refine⟨S',f2,st.trans st2,?_⟩
  have hlen:(ls.map av).length=ls.length:=List.length_map ..
  rw[← hlen]
  refine .sl 1 (ls.map av) g 0 cap (fun i _=>cur[i]?.getD undef) (by simpa using hl) (by omega) hm (fun i x hx=>?_) (fun i x j c hx hj=>?_) (fun i x j c hx hj=>?_)
  ·obtain⟨a,_,rfl⟩:=List.mem_map.1 (List.mem_of_getElem? hx);rw[hc];rfl
  ·obtain⟨a,_,rfl⟩:=List.mem_map.1 (List.mem_of_getElem? hx)
   rw[hc]at hj
   match j with
   |0=>
    simp at hj;subst hj
    have hi:i<ls.length:=by have:=(List.getElem?_eq_some_iff.1 hx).1;omega
    have hi2:i<cur.size:=by omega
    refine⟨.inr rfl,?_,hs a⟩
    simp only[World.cell?,hheap]
    simp[hi2]
   |j+1=>simp at hj
  ·rw[List.getElem?_map]at hx
   obtain⟨a,ha,rfl⟩:=Option.map_eq_some_iff.1 hx
   rw[hc]at hj
   match j with
   |0=>
    simp at hj;subst hj
    have hi:i<ls.length:=(List.getElem?_eq_some_iff.1 ha).1
    have:cur[i]? =some (enc a):=by
     have h1:(cur.toList.take (ls.length*1))[i]? =some (enc a):=by rw[htk,List.getElem?_map,ha];rfl
     rw[List.getElem?_take_of_lt (by omega)]at h1
     simpa using h1
    rw[this]
    exact hr _ _ _ a
   |j+1=>simp at hj
theorem bX{P:Program}{f:FuncId}{fn:Func}(hf:P.funcs[f]? =some fn)(hb:fn.body.isNone=false)(hname:(fn.name== "runtime.NumGoroutine")=false)(us:Array Value)(w:World):(callFunc f us).run P w=.ok (.enter f us) w:=by
 have hne:fn.name≠ "runtime.NumGoroutine" :=by simpa using hname
 obtain⟨c,hbc⟩:∃c,fn.body=some c:=by cases hq:fn.body with|none=>simp[hq]at hb|some c=>exact⟨c,rfl⟩
 simp[callFunc,hf,hne,hbc]
end
def noR:Value→Option (DataW Unit×List MemPlace):=fun _=>some (.nil,[])
def kI(n:Int):Lit:=.int .i64 n
theorem nz(x:Lit×DataW Unit)(l:List (Lit×DataW Unit)):(DataW.insert x l).Perm (x::l):=by
 induction l with
 |nil=>exact List.Perm.refl _
 |cons y r ih=>
  rw[DataW.insert]
  split
  ·exact List.Perm.refl _
  ·exact(ih.cons y).trans (List.Perm.swap x y r)
theorem jp(l:List (Lit×DataW Unit)):(l.foldr DataW.insert []).Perm l:=by
 induction l with
 |nil=>exact List.Perm.refl _
 |cons x l ih=>exact(nz x _).trans (ih.cons x)
def datK(ks:List Lit):DataW Unit:=.map ((ks.map fun k=>(k,(DataW.nil:DataW Unit))).foldr DataW.insert [])
theorem qX(ks:List Lit):Maps.size (datK ks)=ks.length:=by
 unfold datK
 rw[Maps.size_eq,(jp _).length_eq,List.length_map]
theorem vh{P:Program}{kt:TypeId}{w:World}{b c:Nat}{cur:Array MapEntry}{ks:List Lit}(hheap:w.heap[b]? =some (.map cur c))(hl:ks.length=cur.size)(hm:cur.size≤maxLen)
  (hk:∀(i:Nat) (x:MapEntry),cur[i]? =some x→∃k,ks[i]? =some k∧keyOf P kt x.key=some k)(hb:∀x∈cur.toList,x.born<c)(hn:(cur.toList.map (·.born)).Nodup)(hd:(cur.toList.map (·.key)).Nodup):
  w.ownsMap P kt noR b cur.size (datK ks):=by
 refine⟨cur,c,hheap,⟨hm,⟨hb,hn,hd⟩,fun x hx=>?_⟩,Nat.le_refl _,?_⟩
 ·obtain⟨i,hi⟩:=List.getElem?_of_mem hx
  obtain⟨k,_,h2⟩:=hk i x (by simpa using hi)
  exact⟨(k,.nil),by simp[WideElems.rd,h2,noR]⟩
 ·unfold datK
  congr 2
  apply List.ext_getElem?
  intro i
  rw[List.getElem?_map,List.getElem?_map]
  by_cases hi:i<cur.size
  ·have hc:cur[i]? =some cur[i]:=Array.getElem?_eq_getElem hi
   obtain⟨k,h1,h2⟩:=hk i _ hc
   have h3:cur.toList[i]? =some cur[i]:=by simp[hi]
   rw[h1,h3]
   simp[WideElems.rg,WideElems.rd,h2,noR]
  ·rw[List.getElem?_eq_none (l:=cur.toList) (by simp;omega),List.getElem?_eq_none (l:=ks) (by omega)];rfl
variable (G:Nat→Option (List AVal))
theorem dq{α:Type}(ev:α→AVal)(I:FuncId)
  (hI:∀(Bm b nn:Nat) (D0:DataW Unit) (R:Value→Option (DataW Unit×List MemPlace)) (w:World),Bm<w.heap.size→w.cell? ⟨Bm,0,none⟩=some (.map (some b))→w.ownsMap Tryz.prog 3 R b nn D0→Maps.size D0≤maxLen→Maps.size D0*8≤140737488355328→
   Calls Tryz.prog 84 #[.func (.func I) #[] #[.pointer (some ⟨Bm,0,none⟩)]] w fun e w'=>∃(v:Value) (ss:List Int),e=.returned v∧ss.Perm (intKeys D0)∧w'.ownsRow w.heap.size 3 1 v ss.length ((ss.mergeSort (fun x y=>decide (x≤y))).map encZ)∧(v=.slice none 0 0↔ss=[])∧Below w.heap.size w w')
  (l:ML Int α)(c:Nat)(hw:WFM l c)(hb:∀e∈l, -9223372036854775808≤e.1∧e.1≤9223372036854775807)(hl:l.length≤100000){h:Heap}{q p T:Nat}(hq:getRow h q 0=some (T,1,[.hm p]))(hp:mapAt h p=some (encM iA ev l,c)):
  Sat (CT G) 84 [.fn (.func I) [] [.hp q 0 0 0]] h (fun r h'=>r=.sl 1 (((l.map (·.1)).mergeSort (fun x y=>decide (x≤y))).map iA)∧h'=h):=by
 intro B S μ w us fit rl
 obtain⟨hul,hur⟩:=rl
 match us,hul,hur with
 | [v0],_,hur=>
  have r0:Rep w S μ (.fn (.func I) [] [.hp q 0 0 0]) v0:=hur 0 _ rfl
  obtain⟨cv,rfl,rc⟩:∃cv,v0=.func (.func I) #[] #[cv]∧Rep w S μ (.hp q 0 0 0) cv:=by
   cases r0 with
   |fn _ _ _ xv cv h1 h2 h3 h4=>
    match xv,cv,h1,h2,h4 with
    | [],[cv],_,_,h4=>exact⟨cv,rfl,h4 0 _ rfl⟩
  obtain⟨m,hm,rf⟩:=fit.row hq
  obtain⟨b0,hb0,rfl⟩:=rc.hp_now hm rf.hver
  have hz:0*m.size+0=0:=by simp
  rw[hz]
  obtain⟨cur,hheap,hcell⟩:∃cur,w.heap[b0]? =some (.cells cur T (0,0))∧∃x,cur[0]? =some x∧Rep w S μ (.hm p) x:=by
   rcases rf.lies with⟨_,h2⟩| ⟨b,cur,h1,h2,_,_,_,h6⟩
   ·cases h2
   ·rw[hb0]at h1;cases h1
    obtain⟨x,hx,rx⟩:=h6 0 (.hm p) 0 (.hm p) rfl rfl
    exact⟨cur,h2,x,by simpa using hx,rx⟩
  obtain⟨x,hx0,rx⟩:=hcell
  obtain⟨m2,b2,cur2,hm2,hv2,hb2,rfl,hheap2,E⟩:=bk fit rx hp
  have hcell0:w.cell? ⟨b0,0,none⟩=some (.map (some b2)):=by simp[World.cell?,hheap,hx0]
  have hlen:cur2.size=l.length:=by have:=E.len;simpa [encM]using this
  have hget:∀(i:Nat) (y:MapEntry),cur2[i]? =some y→∃e,l[i]? =some e∧y.key=encZ e.1∧y.born=e.2.2:=by
   intro i y hy
   have hi:i<l.length:=by have:=(Array.getElem?_eq_some_iff.1 hy).1;omega
   obtain⟨y',hy',r1,_,r3⟩:=E.get i (iA l[i].1,ev l[i].2.1,l[i].2.2) (by rw[encM,List.getElem?_map,List.getElem?_eq_getElem hi];rfl)
   rw[Array.getElem?_toList,hy]at hy';cases hy'
   refine⟨l[i],List.getElem?_eq_getElem hi,?_,r3⟩
   exact r1.int_inv
  have hbk:cur2.toList.map (·.born)=l.map (·.2.2):=by
   apply List.ext_getElem?
   intro i
   rw[List.getElem?_map,List.getElem?_map,Array.getElem?_toList]
   cases hy:cur2[i]? with
   |none=>rw[List.getElem?_eq_none (l:=l) (by rw[Array.getElem?_eq_none_iff]at hy;omega)];rfl
   |some y=>obtain⟨e,h1,_,h3⟩:=hget i y hy;rw[h1];simp[h3]
  have hkk:cur2.toList.map (·.key)=l.map (fun e=>encZ e.1):=by
   apply List.ext_getElem?
   intro i
   rw[List.getElem?_map,List.getElem?_map,Array.getElem?_toList]
   cases hy:cur2[i]? with
   |none=>rw[List.getElem?_eq_none (l:=l) (by rw[Array.getElem?_eq_none_iff]at hy;omega)];rfl
   |some y=>obtain⟨e,h1,h2,_⟩:=hget i y hy;rw[h1];simp[h2]
  have hown:w.ownsMap Tryz.prog 3 noR b2 cur2.size (datK (l.map fun e=>kI e.1)):=by
   refine vh hheap2 (by simp[hlen]) (by simp[maxLen];omega) (fun i y hy=>?_) (fun y hy=>?_) (by rw[hbk];exact hw.borns) ?_
   ·obtain⟨e,h1,h2,_⟩:=hget i y hy
    refine⟨kI e.1,by rw[List.getElem?_map,h1];rfl,?_⟩
    have hu:Tryz.prog.underlying 3=some (.int .i64):=by kernel_rfl
    have:=hb e (List.mem_of_getElem? h1)
    have hwf:(Lit.int .i64 e.1).wf=true:=by
     simp only[Lit.wf,Bool.and_eq_true,decide_eq_true_eq]
     exact this
    rw[h2]
    simp[keyOf,hu,mapKey,encZ,kI,hwf]
   ·obtain⟨i,hi⟩:=List.getElem?_of_mem hy
    obtain⟨e,h1,_,h3⟩:=hget i y (by simpa using hi)
    rw[h3];exact hw.lt e (List.mem_of_getElem? h1)
   ·rw[hkk]
    have:=hw.keys
    rw[show(l.map fun e=>encZ e.1)=(l.map (·.1)).map encZ by simp]
    exact List.Pairwise.map encZ (fun a b hab he=>hab (by first|exact encZ_inj he| (simpa [encStr]using he))) this
  have hsz:Maps.size (datK (l.map fun e=>kI e.1))=l.length:=by rw[qX];simp
  change OpOk Tryz.prog _ ((callFunc 84 #[Value.func (Fn.func I) #[] #[Value.pointer (some ⟨b0,0,none⟩)]]).run Tryz.prog w)
  rw[bX (f:=84) Tryz.func84 rfl rfl]
  refine(hI b0 b2 _ _ _ w (Array.getElem?_eq_some_iff.1 hheap).1 hcell0 hown (by rw[hsz];simp[maxLen];omega) (by rw[hsz];omega)).mono fun e w' ⟨v,ss,he,hperm,hrow,_,hbel⟩=>?_
  refine⟨v,he,?_⟩
  have hk:(intKeys (datK (l.map fun e=>kI e.1))).Perm (l.map (·.1)):=by
   unfold datK
   refine((jp _).map _).trans ?_
   rw[List.map_map,List.map_map]
   exact List.Perm.of_eq (List.map_congr_left fun e _=>rfl)
  have hs:ss.mergeSort (fun x y=>decide (x≤y))=(l.map (·.1)).mergeSort (fun x y=>decide (x≤y)):=mergeSort_of_perm_i (hperm.trans hk)
  rw[hs]at hrow
  have hl2:ss.length=((l.map (·.1)).mergeSort (fun x y=>decide (x≤y))).length:=by
   rw[← hs,(List.mergeSort_perm _ _).length_eq]
  rw[hl2]at hrow
  obtain⟨S',f',st',r'⟩:=tu (av:=iA) (enc:=encZ) (fun _=>rfl) (fun _=>rfl) (fun _ _ _ _=>by first|exact .int _ _|exact .str _) fit hrow hbel
  exact⟨_,h,S',μ,⟨rfl,rfl⟩,st',f',r'⟩
end Go.Av
namespace Go.Av
open Go Go.Proofs Go.RowKit
attribute [local irreducible] WP WPl WPix Sat
section
variable {C:Ctx} {B:Nat} {S:Addr→Prop} {μ:Map} {h:Heap} {w w':World}
theorem Flat.dropR{rows:List AVal}{cur:List Value}{m:Nat}(fl:Flat w S μ m rows (cur.take (rows.length*m)))(k:Nat)(hk:k≤rows.length):Flat w S μ m (rows.drop k) ((cur.drop (k*m)).take ((rows.length-k)*m)):=by
 have hlm:(rows.length-k)*m+k*m=rows.length*m:=by rw[← Nat.add_mul];congr 1;omega
 have gt:∀{i:Nat} {r:AVal},(rows.drop k)[i]? =some r→rows[k+i]? =some r:=fun hi=>by rwa [List.getElem?_drop]at hi
 refine⟨?_,fun i r hi=>fl.lens _ r (gt hi),fun i r j c hi hj=>fl.sto _ r j c (gt hi) hj,fun i r j c hi hj=>?_⟩
 ·have:=fl.len;simp only[List.length_take,List.length_drop]at this ⊢;omega
 ·obtain⟨x,hx',hr⟩:=fl.rep _ r j c (gt hi) hj
  refine⟨x,?_,hr⟩
  have hi':=(List.getElem?_eq_some_iff.1 hi).1
  rw[List.length_drop]at hi'
  have hlt:i*m+j<(rows.length-k)*m:=cg hi' (by rw[← fl.lens _ r (gt hi)];exact(List.getElem?_eq_some_iff.1 hj).1)
  have e:k*m+(i*m+j)=(k+i)*m+j:=by rw[Nat.add_mul];omega
  rw[List.getElem?_take_of_lt hlt,List.getElem?_drop,e]
  exact aJ hx'
theorem Flat.one{rows:List AVal}{xs:List Value}{m:Nat}(hm:0<m)(fl:Flat w S μ m rows xs):∀v∈xs,v.oneCell'=true:=fun v hv=>by
 obtain⟨t,ht⟩:=List.getElem?_of_mem hv
 have hlt:=(List.getElem?_eq_some_iff.1 ht).1
 rw[fl.len]at hlt
 have hr:t/m<rows.length:=Nat.div_lt_of_lt_mul (by rwa [Nat.mul_comm])
 have h1:rows[t/m]? =some rows[t/m]:=List.getElem?_eq_getElem hr
 have hc:t%m<rows[t/m].cells.length:=by rw[fl.lens _ _ h1];exact Nat.mod_lt _ hm
 have h2:rows[t/m].cells[t%m]? =some rows[t/m].cells[t%m]:=List.getElem?_eq_getElem hc
 obtain⟨x,hx,hrep⟩:=fl.rep _ _ _ _ h1 h2
 have e:t/m*m+t%m=t:=Nat.div_add_mod' t m
 rw[e,ht]at hx
 cases hx
 exact hrep.oneCell (fl.sto _ _ _ _ h1 h2)
theorem vj(f:Fits C B S μ h w){p:Nat}{m:MB}(hm:μ[p]? =some m)(o:Only w w' m.blk){e n g cp:Nat}{rows:List AVal}{Z:Array Value}(hg:m.blk=some g∨(w.heap.size≤g∧g<w'.heap.size))
  (hn:0<n)(hh:w'.heap[g]? =some (.cells Z e (0,0)))(hz:Z.size=cp*n)(hl:0<cp∧rows.length≤cp)(hx:cp≤maxLen)(fl:Flat w S μ n rows (Z.toList.take (rows.length*n))):
  ∃μ',Step B S μ w S μ' w'∧Fits C B S μ' (h.set p (.row e n (m.ver+1) rows)) w'∧Rep w' S μ' (.hs p (m.ver+1) 0 rows.length true) (.slice (some ⟨g,0,none⟩) rows.length cp):=by
 have hlt:=(List.getElem?_eq_some_iff.1 hm).1
 have st0:=bu f hm o (bn (m':=⟨some g,m.ver+1,n,cp⟩) hm (by simp) (by simp))
 have hrf:BlkFits w' S (μ.set p ⟨some g,m.ver+1,n,cp⟩) ⟨some g,m.ver+1,n,cp⟩ (.row e n (m.ver+1) rows):=
  ci hn rfl rfl rfl hh hz hl hx (fl.mono st0) rfl
 obtain⟨f',st⟩:=f.update (m':=⟨some g,m.ver+1,n,cp⟩) hm o (by simp) (by simp) (by rcases hg with hg|hg;exact .inl hg.symm;exact .inr ⟨g,rfl,hg.1,hg.2⟩) hrf
 refine⟨_,st,f',.hs _ _ _ _ _ ⟨some g,m.ver+1,n,cp⟩ _ (by rw[List.getElem?_set_self hlt]) (Nat.le_refl _) (by simp) rfl fun _=>.inr ⟨g,rfl,by simpa using hl.2,by simp⟩⟩
end
theorem vk(G:Nat→Option (List AVal))(l:List Ky)(k:Ky)(i v p q v2:Nat)(rm:Bool)(hi:i<l.length)(hl:l.length≤100000)(h:Heap)(hp:getRow h p v=some (135,3,l.map Ky.av))(hq:getRow h q v2=some (135,3,[k.av]))(hne:p≠q):
  Sat (CT G) 104 [.hs p v 0 l.length true,.int .i64 i,.hs q v2 0 1 rm] h
   (fun r h'=>r=.hs p (v+1) 0 (l.length+1) true∧h'=h.set p (.row 135 3 (v+1) ((l.take i++k::l.drop i).map Ky.av))):=by
 unfold Sat
 intro B S μ w us fit rl
 obtain⟨hul,hur⟩:=rl
 match us,hul,hur with
 | [u0,u1,u2],_,hur=>
  have r0:Rep w S μ (.hs p v 0 l.length true) u0:=hur 0 _ rfl
  have r1:Rep w S μ (.int .i64 i) u1:=hur 1 _ rfl
  have r2:Rep w S μ (.hs q v2 0 1 rm) u2:=hur 2 _ rfl
  obtain rfl:=r1.int_inv
  obtain⟨m,hm,hf⟩:=fit.row hp
  obtain⟨m2,hm2,hf2⟩:=fit.row hq
  have hver:=hf.hver
  have hver2:=hf2.hver
  have hsz3:=hf.hsize
  rcases r0.hs_now hm hver with⟨_,_,h1,_⟩| ⟨b,hb,hcap,rfl⟩
  ·omega
  rcases r2.hs_now hm2 hver2 with⟨_,_,h1,_⟩| ⟨b2,hb2,hcap2,rfl⟩
  ·omega
  obtain⟨cur,hheap,hcs,hle,hmax,fl⟩:=hf.flat hb
  obtain⟨cur2,hheap2,hcs2,hle2,hmax2,fl2⟩:=hf2.flat hb2
  simp only[List.length_map,List.length_singleton,Nat.one_mul]at fl fl2 hle hle2
  have hnb:b2≠b:=fun e=>hne (fit.sep p q m m2 b hm hm2 hb (by rw[hb2,e]))
  simp only[if_true,Nat.sub_zero,Nat.zero_mul]
  have flr:Flat w S μ 3 (l.map Ky.av) (cur.toList.take ((l.map Ky.av).length*3)):=by rw[List.length_map];exact fl
  have fA:=flr.takeR i (by rw[List.length_map];omega)
  have fD:=flr.dropR i (by rw[List.length_map];omega)
  rw[List.length_map]at fD
  have hnew:(l.take i++k::l.drop i).map Ky.av=((l.map Ky.av).take i++[k.av])++(l.map Ky.av).drop i:=by simp[List.map_take,List.map_drop]
  have fN:=(fA.append fl2).append fD
  rw[← hnew]at fN
  have hnl:((l.take i++k::l.drop i).map Ky.av).length=l.length+1:=by simp;omega
  have hc3:(l.length:Nat)*3≤cur.size:=by rw[hcs];exact Nat.mul_le_mul_right _ hle.2
  have hc23:3≤cur2.size:=by rw[hcs2];omega
  have hcl:cur.toList.length=cur.size:=Array.length_toList
  have hcl2:cur2.toList.length=cur2.size:=Array.length_toList
  have hAl:(cur.toList.take (i*3)).length=i*3:=by rw[List.length_take,hcl];omega
  have hVl:(cur2.toList.take 3).length=3:=by rw[List.length_take,hcl2];omega
  have hDl:((cur.toList.drop (i*3)).take ((l.length-i)*3)).length=(l.length-i)*3:=by rw[List.length_take,List.length_drop,hcl];omega
  have h1:=fD.one (by omega)
  have h1v:=fl2.one (by omega)
  have fin:∀(w':World) (g cp:Nat) (Z E:List Value),Only w w' (some b)→(g=b∨(w.heap.size≤g∧g<w'.heap.size))→w'.heap[g]? =some (.cells Z.toArray 135 (0,0))→Z.length=cp*3→l.length+1≤cp→cp≤maxLen→
    Z=cur.toList.take (i*3)++cur2.toList.take 3++(cur.toList.drop (i*3)).take ((l.length-i)*3)++E→
    OpPost (CT G) B S μ w (fun r h'=>r=.hs p (v+1) 0 (l.length+1) true∧h'=h.set p (.row 135 3 (v+1) ((l.take i++k::l.drop i).map Ky.av))) (.slice (some ⟨g,0,none⟩) (l.length+1) cp) w':=by
   intro w' g cp Z E ho hg hh hz hcp hcm hZ
   have hZl:(l.length+1)*3=(cur.toList.take (i*3)++cur2.toList.take 3++(cur.toList.drop (i*3)).take ((l.length-i)*3)).length:=by
    simp only[List.length_append,hAl,hVl,hDl];omega
   obtain⟨μ',st,f',rp⟩:=vj (rows:=(l.take i++k::l.drop i).map Ky.av) fit hm (by rw[hb];exact ho) (e:=135) (n:=3) (cp:=cp) (Z:=Z.toArray) (g:=g) (by rcases hg with rfl|hg;exact .inl hb;exact .inr hg) (by decide) hh (by simpa using hz) ⟨by omega,by rw[hnl];exact hcp⟩ hcm (by
    rw[hnl]
    show Flat _ _ _ _ _ (List.take _ Z)
    rw[hZ,hZl,List.take_left']
    ·exact fN
    ·rfl)
   rw[hnl,hver]at rp
   rw[hver]at f'
   exact⟨_,_,S,μ',⟨rfl,rfl⟩,st,f',rp⟩
  change OpOk Tryz.prog _ ((callFunc 104 #[_,_,_]).run Tryz.prog w)
  rw[bX (f:=104) Tryz.func104 rfl rfl]
  by_cases hroom:l.length+1≤m.cap
  ·refine(sI b l.length m.cap i b2 _ cur cur2 w hi hroom (by simp only[maxLen]at hmax;omega) hnb hheap hcs hheap2 hc23 h1 h1v _ _ rfl rfl).mono fun e w' ⟨he,hw⟩=>?_
   refine⟨_,he,fin w' b m.cap _ (cur.toList.drop ((i+1)*3+(l.length-i)*3)) (by rw[hw];exact⟨rfl,rfl,rfl,by simp,fun j _ hj=>by rw[setRow_other _ _ _ _ (fun e=>hj (by rw[e])),setRow_other _ _ _ _ (fun e=>hj (by rw[e]))];rfl⟩) (.inl rfl) (by rw[hw];exact setRow_heap _ b _ _ _ _ (setRow_heap w.drew b cur _ _ _ hheap)) ?_ hroom hmax ?_⟩
   ·simp only[List.length_append,List.length_take,List.length_drop,Array.length_toList,List.toList_toArray,hVl]
    omega
   ·rw[List.toList_toArray]
    have e1:(cur.toList.take ((i+1)*3)++(cur.toList.drop (i*3)).take ((l.length-i)*3)++cur.toList.drop ((i+1)*3+(l.length-i)*3)).take (i*3)=cur.toList.take (i*3):=by
     rw[List.append_assoc,List.take_append_of_le_length (by rw[List.length_take,hcl];omega),List.take_take];congr 1;omega
    have e2:(cur.toList.take ((i+1)*3)++(cur.toList.drop (i*3)).take ((l.length-i)*3)++cur.toList.drop ((i+1)*3+(l.length-i)*3)).drop (i*3+3)=(cur.toList.drop (i*3)).take ((l.length-i)*3)++cur.toList.drop ((i+1)*3+(l.length-i)*3):=by
     rw[List.append_assoc,List.drop_left' (by rw[List.length_take,hcl];omega)]
    rw[e1,e2];simp
  ·have hcm:=grownCap_le_maxLen w (l.length+1) m.cap 135 (by simp only[maxLen];omega)
   have hcg:=grownCap_ge w (l.length+1) m.cap 135
   obtain⟨cp,hcpe⟩:∃cp,cp=grownCap w (l.length+1) m.cap 135:=⟨_,rfl⟩
   rw[← hcpe]at hcm hcg
   obtain⟨ROW,hROW⟩:∃ROW:Array Value,(cur.toList.take (i*3)).toArray++Builtin.zeroCells (Value.agg #[.int .i64 0,.int .i64 0,.int .i64 0]).cells (l.length+1-i)++Builtin.zeroCells (Value.agg #[.int .i64 0,.int .i64 0,.int .i64 0]).cells (cp-(l.length+1))=ROW:=⟨_,rfl⟩
   obtain⟨Y1,hY1⟩:∃Y1:Array Value,(ROW.toList.take (i*3)++cur2.toList.take 3++ROW.toList.drop (i*3+3)).toArray=Y1:=⟨_,rfl⟩
   obtain⟨Y2,hY2⟩:∃Y2:Array Value,(Y1.toList.take ((i+1)*3)++(cur.toList.drop (i*3)).take ((l.length-i)*3)++Y1.toList.drop ((i+1)*3+(l.length-i)*3)).toArray=Y2:=⟨_,rfl⟩
   refine(sJ b l.length m.cap i b2 _ cur cur2 w hi hle.2 (by omega) (by omega) hheap hcs hheap2 hc23 h1 h1v ROW Y1 Y2 cp hcpe hROW hY1 hY2).mono fun e w' ⟨he,hw⟩=>?_
   have hon:Only w w' (some b):=by
    rw[hw]
    refine⟨rfl,rfl,rfl,by simp,fun j hj _=>?_⟩
    rw[setRow_other _ _ _ _ (by omega)]
    show(World.setRow _ _ _).heap[j]? =_
    rw[setRow_other _ _ _ _ (by omega)]
    first|exact heap_alloc_old w.drew _ hj|exact heap_alloc_old w.drew _ _ hj
   have hz3:∀j,(Builtin.zeroCells (Value.agg #[.int .i64 0,.int .i64 0,.int .i64 0]).cells j).toList.length=j*3:=fun j=>by
    rw[Array.length_toList,size_zeroCells];simp[Value.cells]
   have hRl:ROW.toList=cur.toList.take (i*3)++((Builtin.zeroCells (Value.agg #[.int .i64 0,.int .i64 0,.int .i64 0]).cells (l.length+1-i)).toList++(Builtin.zeroCells (Value.agg #[.int .i64 0,.int .i64 0,.int .i64 0]).cells (cp-(l.length+1))).toList):=by
    rw[← hROW];simp
   generalize hZ1:(Builtin.zeroCells (Value.agg #[.int .i64 0,.int .i64 0,.int .i64 0]).cells (l.length+1-i)).toList++(Builtin.zeroCells (Value.agg #[.int .i64 0,.int .i64 0,.int .i64 0]).cells (cp-(l.length+1))).toList=Z1 at hRl
   have hZ1l:Z1.length=(l.length+1-i)*3+(cp-(l.length+1))*3:=by rw[← hZ1,List.length_append,hz3,hz3]
   have hY1l:Y1.toList=cur.toList.take (i*3)++cur2.toList.take 3++Z1.drop 3:=by
    rw[← hY1,hRl,List.take_left' hAl]
    show _++List.drop (i*3+3) _=_
    rw[← List.drop_drop,List.drop_left' hAl]
   have hT:Y1.toList.take ((i+1)*3)=cur.toList.take (i*3)++cur2.toList.take 3:=by
    rw[hY1l,List.take_left' (by rw[List.length_append,hAl,hVl];omega)]
   have hY2l:Y2.toList=cur.toList.take (i*3)++cur2.toList.take 3++(cur.toList.drop (i*3)).take ((l.length-i)*3)++Y1.toList.drop ((i+1)*3+(l.length-i)*3):=by
    rw[← hY2, ← hT]
   refine⟨_,he,fin w' w.heap.size cp Y2.toList _ hon (.inr ⟨Nat.le_refl _,by rw[hw];simp⟩) ?_ ?_ hcg hcm hY2l⟩
   ·rw[hw,Array.toArray_toList]
    exact setRow_heap _ _ _ _ _ _ (setRow_heap (w.drew.alloc (.cells ROW _)) _ _ Y1 _ _ (heap_alloc_new w.drew _))
   ·rw[hY2l,List.length_append,List.length_append,List.length_append,hAl,hVl,hDl,List.length_drop,hY1l,List.length_append,List.length_append,hAl,hVl,List.length_drop,hZ1l]
    omega
end Go.Av
namespace Go.Av
open Go Go.Proofs Go.RowKit
attribute [local irreducible] WP WPl WPix Sat
theorem nB{h:Heap}{p v len n m:Nat}{b:Bool}{rows:List AVal}(hg:getRow h p v=some (m,n,rows))(hl:rows.length=len):elemsOf h n (.hs p v 0 len b)=some rows:=by
 simp only[elemsOf,hg,true_and]
 rw[if_pos (by omega),List.drop_zero,List.take_of_length_le (by omega)]
variable (G:Nat→Option (List AVal))
theorem vl(l:List Ky)(k:Ky)(v p q v2:Nat)(rm:Bool)(hl:l.length≤100000)(h:Heap)(hp:getRow h p v=some (135,3,l.map Ky.av))(hq:getRow h q v2=some (135,3,[k.av])):
  Sat (CT G) 104 [.hs p v 0 l.length true,.int .i64 l.length,.hs q v2 0 1 rm] h
   (fun r h'=>r=.hs p (v+1) 0 (l.length+1) true∧h'=h.set p (.row 135 3 (v+1) ((l++[k]).map Ky.av))):=by
 have s1:aslice Tryz.prog h 131 (.hs p v 0 l.length true) (some (.int .i64 (l.length:Int))) none none=some (.sl 3 [])∨aslice Tryz.prog h 131 (.hs p v 0 l.length true) (some (.int .i64 (l.length:Int))) none none=some (.hs p v (0+l.length) 0 true):=by
  have e1:elmT Tryz.prog 131=some 135:=by simp only[go_sem]
  have e2:szOf Tryz.prog 135=some 3:=by simp only[go_sem]
  simp only[aslice,e1,e2,hp,optInt,if_true]
  by_cases h0:l=[]
  ·subst h0;right;simp
  ·left
   have:0<l.length:=List.length_pos_iff.2 h0
   rw[if_neg (by omega),if_pos (by simp)]
 rw[Ky.av_eq]at hq
 rcases s1 with s1|s1
 all_goals have hy:=nB (b:=rm) hq (rfl:[AVal.agg [.int .i64 k.d,.int .i64 k.i,.int .i64 k.f]].length=1)
 ·have F:=F4 hp hq s1 (F3 (@beq_self_eq_true Int _ _) (@beq_self_eq_true Bool _ _) (@beq_self_eq_true Bs _ _))
  refine sb [.tmp 6] (fn:=Tryz.f104) Tryz.func104 ?_
  intro Q hQ
  refine wk F ?_
  refine br (.inl rfl) (by simp(disch:=first|omega| (simp only[go_sem, ↓reduceIte,seval];first|done|omega)|fail) only[go_sem, ↓reduceIte,seval,F];try rfl) (by simp(disch:=first|omega| (simp only[go_sem, ↓reduceIte,seval];first|done|omega)|fail) only[go_sem, ↓reduceIte,seval,F];try rfl) (by simp(disch:=first|omega| (simp only[go_sem, ↓reduceIte,seval];first|done|omega)|fail) only[go_sem, ↓reduceIte,seval,F];try rfl) (by simp(disch:=first|omega| (simp only[go_sem, ↓reduceIte,seval];first|done|omega)|fail) only[go_sem, ↓reduceIte,seval,F];try rfl) (by omega) hy hp (List.length_map ..).symm ⟨by simp[maxLen];omega,by simp;omega⟩ ?_
  try refine sq F ?_
  refine wk F ?_
  refine ee hQ F ?_
  exact Fin.whole (by simp) (.hs _ _ _ _ _ (by rw[List.length_set];exact b9 hp)) ⟨by simp,by simp[Ky.av]⟩
 ·have F:=F4 hp hq s1 (F3 (@beq_self_eq_true Int _ _) (@beq_self_eq_true Bool _ _) (@beq_self_eq_true Bs _ _))
  refine sb [.tmp 6] (fn:=Tryz.f104) Tryz.func104 ?_
  intro Q hQ
  refine wk F ?_
  refine br (.inl rfl) (by simp(disch:=first|omega| (simp only[go_sem, ↓reduceIte,seval];first|done|omega)|fail) only[go_sem, ↓reduceIte,seval,F];try rfl) (by simp(disch:=first|omega| (simp only[go_sem, ↓reduceIte,seval];first|done|omega)|fail) only[go_sem, ↓reduceIte,seval,F];try rfl) (by simp(disch:=first|omega| (simp only[go_sem, ↓reduceIte,seval];first|done|omega)|fail) only[go_sem, ↓reduceIte,seval,F];try rfl) (by simp(disch:=first|omega| (simp only[go_sem, ↓reduceIte,seval];first|done|omega)|fail) only[go_sem, ↓reduceIte,seval,F];try rfl) (by omega) hy hp (List.length_map ..).symm ⟨by simp[maxLen];omega,by simp;omega⟩ ?_
  try refine sq F ?_
  refine wk F ?_
  refine ee hQ F ?_
  exact Fin.whole (by simp) (.hs _ _ _ _ _ (by rw[List.length_set];exact b9 hp)) ⟨by simp,by simp[Ky.av]⟩
theorem tv{C:Ctx}{ops:Array Oper}{dst:Option Tmp}{ty:TypeId}{pos:String}{aft:Array Edge}{t:Env}{h:Heap}{K:AVal→Heap→Prop}{x:Operand}{T e n:Nat}{v:AVal}(hv:aev C.G t x=v)(he:elmT C.P T=some e)(hn:szOf C.P e=some n)
  (hz:(zroT C.P e).map (fun z=>(z.cells.length,z.cells.all AVal.sto))=some (n,true))(hc:v.cells.length=n)(hl:v.lies=true)(h0:0<n∧n≤16777216)(k:K (.hs h.length 0 0 1 true) (h++[.row e n 0 [v]])):
  wpOperV C ops ⟨dst,.buildSlice T 1 #[(0,x)],ty,pos,aft,none⟩ t h K:=by
 show wpOp C (.buildSlice T 1 #[(0,x)]) t h K
 subst hv
 simp only[wpOp]
 rw[he]
 show need (szOf C.P e) _
 rw[hn]
 unfold need
 simp only[]
 rw[if_neg (by decide)]
 exact⟨rfl,by decide,h0.1,by omega,rfl,hz,fun y hy=>by simp at hy;subst hy;exact⟨hc,hl⟩,.inl k⟩
section
variable {l:List Ky} {H:Heap} {n v:Nat}
theorem zN(hl:l.length≤100000)(k:Ky)(q:Nat)(hn:n+2≤H.length)(hq:n+2≤q)(hr:getRow H q 0=some (135,3,[k.av])):
  Sat (CT G) 104 [.hs (n+1) v 0 l.length true,.int .i64 (pst l k),.hs q 0 0 1 true] (vo H n v l)
   (fun r h'=>r=.hs (n+1) (v+1) 0 (insK l k).length true∧h'=(vo H n v l).set (n+1) (.row 135 3 (v+1) ((insK l k).map Ky.av))):=by
 have hr2:getRow (vo H n v l) q 0=some (135,3,[k.av]):=(ea hn 0 hq).trans hr
 rw[iQ]
 rcases Nat.lt_or_ge (pst l k) l.length with h|h
 ·exact vk G l k _ v _ q 0 true h hl _ (bQ hn) hr2 (by omega)
 ·have e:pst l k=l.length:=Nat.le_antisymm (gL l k) h
  have e2:insK l k=l++[k]:=by unfold insK;rw[e,List.take_length,List.drop_length]
  rw[e,e2]
  exact vl G l k v _ q 0 true hl _ (bQ hn) hr2
theorem oo(hs:Sk l)(hl:l.length≤100000)(t:It)(hn:n+2≤H.length):Sat (CT G) 61 [.hp n 0 0 0,t.av] (vo H n v l) (fun r h'=>r=.tup []∧h'=vo H n (v+1) (insK l t.ky)):=by
 skip
 refine sb [] (fn:=Tryz.f61) Tryz.func61 ?_
 intro Q hQ
 refine wn trivial ?_
 refine aw 11 [9,10] [true,true,true,true,true,true,true,true,true,false,false] (.one 9 [false,false,true,true,true,false,true,true] (.one 10 [] .fin)) (by decide+kernel) (by kernel_rfl) (by decide+kernel) ?_
 simp only[aB,aC,az]
 try refine sq trivial ?_
 repeat' (first| (refine ah ?_;try refine sq trivial ?_)| (refine ai ?_;try refine sq trivial ?_)| (refine aj ?_ ?_<;>try refine sq trivial ?_))
 all_goals try refine wn trivial ?_
 refine aA (iR G hs (by omega) t.ky (by simp;omega)) ?_
 try refine sq trivial ?_
 refine wn trivial ?_
 repeat' (first| (refine ah ?_;try refine sq trivial ?_)| (refine ai ?_;try refine sq trivial ?_)| (refine aj ?_ ?_<;>try refine sq trivial ?_))
 all_goals try refine wn trivial ?_
 refine tv (n:=3) (by simp(disch:=first|omega| (simp only[go_sem, ↓reduceIte,seval];first|done|omega)|fail) only[go_sem, ↓reduceIte,seval];rfl) (by simp(disch:=first|omega| (simp only[go_sem, ↓reduceIte,seval];first|done|omega)|fail) only[go_sem, ↓reduceIte,seval];try rfl) (by simp(disch:=first|omega| (simp only[go_sem, ↓reduceIte,seval];first|done|omega)|fail) only[go_sem, ↓reduceIte,seval];try rfl) (by simp(disch:=first|omega| (simp only[go_sem, ↓reduceIte,seval];first|done|omega)|fail) only[go_sem, ↓reduceIte,seval];try rfl) rfl rfl (by decide) ?_
 refine⟨?_,?_⟩
 ·try refine sq trivial ?_
  exact aA (iR G hs (by omega) t.ky (by simp;omega)) rfl
 repeat' (first| (refine ah ?_;try refine sq trivial ?_)| (refine ai ?_;try refine sq trivial ?_)| (refine aj ?_ ?_<;>try refine sq trivial ?_))
 all_goals try refine wn trivial ?_
 have hki:=zN G (H:=H++[.row 82 9 0 [t.av],.row 135 3 0 [t.ky.av],.row 135 3 0 [t.ky.av]]) (n:=n) (v:=v) hl t.ky (H.length+2) (by simp;omega) (by omega) (by rw[bD _ rfl];rfl)
 refine hki.mono ?_
 rintro r h' ⟨rfl,rfl⟩
 have F:= @ax
 try refine sq F ?_
 repeat' (first| (refine ah ?_;try refine sq F ?_)| (refine ai ?_;try refine sq F ?_)| (refine aj ?_ ?_<;>try refine sq F ?_))
 all_goals try refine wn F ?_
 refine ee hQ F ?_
 rw[ol (by simp;omega)]
 exact bz hn (.tup _ (fun x hx=>by simp at hx)) ⟨rfl,rfl⟩
end
end Go.Av
namespace Go.Av
open Go Go.Proofs Go.RowKit
attribute [local irreducible] WP WPl WPix Sat
variable (G:Nat→Option (List AVal))
def PS.within(s:PS)(id:Int):Bool:=decide (id=0)||(lkM s.fo id).isSome
theorem eF(s:PS)(id:Int){H:Heap}{n:Nat}(hn:n+9≤H.length):Sat (CT G) 93 [.hp (n+8) 0 0 0,.int .i64 id] (so H n s) (fun r h'=>r=.bool (s.within id)∧h'=so H n s):=by
 refine sb [.tmp 4] (fn:=Tryz.f93) Tryz.func93 ?_
 intro Q hQ
 refine wk trivial ?_
 (first|refine gq trivial (fun g=>?_) (fun g=>?_)|refine pq trivial (fun g=>?_) (fun g=>?_))<;>(try exact g.elim)<;>(try refine sq trivial ?_)<;>(refine wk trivial ?_)
 ·refine ee hQ trivial ?_
  exact au hn (.bool _) ⟨by simp[PS.within,g],rfl⟩
 ·refine ee hQ trivial ?_
  exact au hn (.bool _) ⟨by simp[PS.within,g],rfl⟩
def PS.hold(s:PS)(id k:Int):PS:=if id=0 then s else {s with he:=upM s.he s.c8 id ((lkM s.he id).getD 0+k),c8:=ckM s.he s.c8 id}
theorem cr(s:PS)(id k:Int)(hk: -1000000≤(lkM s.he id).getD 0∧(lkM s.he id).getD 0≤1000000)(hk': -1≤k∧k≤1){H:Heap}{n:Nat}(hn:n+9≤H.length):Sat (CT G) 52 [.hp (n+8) 0 0 0,.int .i64 id,.int .i64 k] (so H n s) (fun r h'=>r=.tup []∧h'=so H n (s.hold id k)):=by
 refine sb [] (fn:=Tryz.f52) Tryz.func52 ?_
 intro Q hQ
 refine wk trivial ?_
 refine cq trivial (fun c=>?_) (fun c=>?_)<;>(try exact c.elim)<;>(refine wk trivial ?_)
 ·refine ee hQ trivial ?_
  exact d8 hn (.tup _ (by simp)) ⟨rfl,by rw[PS.hold,if_neg (by omega)]⟩
 ·refine ee hQ trivial ?_
  exact d8 hn (.tup _ (by simp)) ⟨rfl,by rw[PS.hold,if_pos (by omega)]⟩
def PS.raise(s:PS)(k:Nat)(id:Int):PS:=match k with
 |0=> {s with t1:=if id>s.t1 then id else s.t1}
 |1=> {s with t2:=if id>s.t2 then id else s.t2}
 |2=> {s with t3:=if id>s.t3 then id else s.t3}
 |_=> {s with t4:=if id>s.t4 then id else s.t4}
theorem dr(s:PS)(k:Nat)(id:Int)(hk:k<4){H:Heap}{n:Nat}(hn:n+9≤H.length):Sat (CT G) 99 [.hp (n+8) 0 0 0,.int .i64 (k:Int),.int .i64 id] (so H n s) (fun r h'=>r=.tup []∧h'=so H n (s.raise k id)):=by
 match k,hk with
 |0,_=>
  refine sb [] (fn:=Tryz.f99) Tryz.func99 ?_
  intro Q hQ
  refine wk trivial ?_
  refine ee hQ trivial ?_
  exact d8 hn (.tup _ (by simp)) ⟨rfl,by simp only[PS.raise,decide_eq_true_eq]⟩
 |1,_=>
  refine sb [] (fn:=Tryz.f99) Tryz.func99 ?_
  intro Q hQ
  refine wk trivial ?_
  refine ee hQ trivial ?_
  exact d8 hn (.tup _ (by simp)) ⟨rfl,by simp only[PS.raise,decide_eq_true_eq]⟩
 |2,_=>
  refine sb [] (fn:=Tryz.f99) Tryz.func99 ?_
  intro Q hQ
  refine wk trivial ?_
  refine ee hQ trivial ?_
  exact d8 hn (.tup _ (by simp)) ⟨rfl,by simp only[PS.raise,decide_eq_true_eq]⟩
 |3,_=>
  refine sb [] (fn:=Tryz.f99) Tryz.func99 ?_
  intro Q hQ
  refine wk trivial ?_
  refine ee hQ trivial ?_
  exact d8 hn (.tup _ (by simp)) ⟨rfl,by simp only[PS.raise,decide_eq_true_eq]⟩
def deepO(l:ML Int Fo):Nat→Int→Option Nat
 |0,id=>if (lkM l id).isSome then none else some 0
 |k+1,id=>match lkM l id with
  |none=>some 0
  |some f=>(deepO l k f.inn).map (· +1)
theorem pk(s:PS)(id:Int)(k d:Nat)(hd:deepO s.fo k id=some d)(hk:d≤1000){H:Heap}{n:Nat}(hn:n+9≤H.length):Sat (CT G) 94 [.hp (n+8) 0 0 0,.int .i64 id] (so H n s) (fun r h'=>r=.int .i64 d∧h'=so H n s):=by
 have step:∀(k m:Nat) (id:Int),deepO s.fo k id=some (d-m)→m≤d→((lkM s.fo id).isSome=true∧m+1≤d∧∃k,deepO s.fo k ((lkM s.fo id).getD Fo.z).inn=some (d-(m+1)))∨((lkM s.fo id).isSome=false∧m=d):=by
  intro k m id h hm
  cases k with
  |zero=>
   rw[deepO]at h
   cases hl:lkM s.fo id with
   |none=>rw[hl]at h;simp at h;exact .inr ⟨rfl,by omega⟩
   |some f=>rw[hl]at h;simp at h
  |succ k=>
   rw[deepO]at h
   cases hl:lkM s.fo id with
   |none=>rw[hl]at h;simp at h;exact .inr ⟨rfl,by omega⟩
   |some f=>
    rw[hl]at h
    simp only[Option.map_eq_some_iff]at h
    obtain⟨j,hj,hd⟩:=h
    exact .inl ⟨rfl,by omega,k,by rw[Option.getD_some,hj];congr 1;omega⟩
 refine sb [.tmp 4] (fn:=Tryz.f94) Tryz.func94 ?_
 intro Q hQ
 refine wk trivial ?_
 refine lm (fun nL tL hL=>∃(m:Nat) (f:Fo) (b:Bool),d-m=nL∧so (H++[.row 53 3 0 [.agg [.int .i64 f.id,.int .i64 f.inn,.str f.name]]]) n s=hL∧tL 0=.hp (n+8) 0 0 0∧tL 5=.int .i64 m∧tL 6=.hp H.length 0 0 0∧tL 7=.bool b∧((b=true∧m+1≤d∧∃k,deepO s.fo k f.inn=some (d-(m+1)))∨(b=false∧m=d))) ((fun(m:Nat) (f:Fo) (b:Bool)=>(d-m:Nat)) (0) ((lkM s.fo id).getD Fo.z) ((lkM s.fo id).isSome)) ?_ ?_
 ·refine Wkn.refl ⟨0,(lkM s.fo id).getD Fo.z,(lkM s.fo id).isSome,rfl,ay,?_,?_,?_,?_,step k 0 id hd (by omega)⟩
  all_goals first|exact zq trivial|rfl|omega|trivial|skip
 rintro _ s2 h' ⟨m,f,b,rfl,rfl,e0,e5,e6,e7,hi⟩ K2 hK2
 simp only[ak,ao,Nat.reduceEqDiff, ↓reduceIte]at e0 e5 e6 e7
 have F:=F4 e0 e5 e6 e7
 refine wk F ?_
 refine cq F (fun c=>?_) (fun c=>?_)<;>(try exact c.elim)<;>(refine wk F ?_)
 ·rcases hi with⟨_,h1,k1,h2⟩| ⟨h1,_⟩
  ·refine iM 8 (.two 8 (.two 9 (.one 10 (.one 11 .nil)) 10 (.one 9 (.one 11 .nil))) 9 (.one 8 (.one 10 (.one 11 .nil)))) (by decide+kernel) (by kernel_rfl) (by decide+kernel) ?_
   simp only[List.take_succ_cons,List.take_zero]
   try refine sq F ?_
   repeat' (first|refine cW ?_| (refine cX rfl ?_;refine sq F ?_)| (refine cY rfl rfl ?_ ?_<;>refine sq F ?_))
   all_goals (
    refine hK2 _ _ _ (Wkn.refl ⟨m+1,(lkM s.fo f.inn).getD Fo.z,(lkM s.fo f.inn).isSome,rfl,ay,?_,?_,?_,?_,step k1 (m+1) f.inn h2 h1⟩) (by omega)
    all_goals first|exact zq F|rfl|omega|trivial|skip)
  ·rw[c]at h1;cases h1
 ·rcases hi with⟨h1,_⟩| ⟨_,h1⟩
  ·rw[c]at h1;cases h1
  ·subst h1
   refine ee hQ F ?_
   exact au hn (.int _ _) ⟨rfl,rfl⟩
end Go.Av
namespace Go.Av
open Go Go.Proofs Go.RowKit
attribute [local irreducible] WP WPl WPix Sat
variable (G:Nat→Option (List AVal))
def sortI(l:List Int):List Int:=l.mergeSort (fun x y=>decide (x≤y))
def valsM{α:Type}(z:α)(l:ML Int α):List α:=(sortI (l.map (·.1))).map fun k=>(lkM l k).getD z
theorem cH(l:List Int):(sortI l).length=l.length:=(List.mergeSort_perm _ _).length_eq
theorem Fo.cells_sto(e:Fo):∀c∈e.av.cells,c.sto=true:=by
 intro c hc;simp only[Fo.av,AVal.cells,List.mem_cons,List.mem_nil_iff,or_false]at hc;rcases hc with rfl|rfl|rfl<;>rfl
theorem Fe.cells_sto(e:Fe):∀c∈e.av.cells,c.sto=true:=by
 intro c hc;simp only[Fe.av,AVal.cells,List.mem_cons,List.mem_nil_iff,or_false]at hc;rcases hc with rfl|rfl|rfl|rfl<;>rfl
theorem Se.cells_sto(e:Se):∀c∈e.av.cells,c.sto=true:=by
 intro c hc;simp only[Se.av,AVal.cells,List.mem_cons,List.mem_nil_iff,or_false]at hc;rcases hc with rfl|rfl|rfl<;>rfl
theorem It.cells_sto(e:It):∀c∈e.av.cells,c.sto=true:=by
 intro c hc;simp only[It.av,AVal.cells,List.mem_cons,List.mem_nil_iff,or_false]at hc;rcases hc with rfl|rfl|rfl|rfl|rfl|rfl|rfl|rfl|rfl<;>rfl
theorem Fo.clo(N:Nat)(f:Fo):Clo N f.av:=bK fun c hc=>by simp[Fo.av]at hc;rcases hc with rfl|rfl|rfl<;>simp
theorem Fe.clo(N:Nat)(f:Fe):Clo N f.av:=bK fun c hc=>by simp[Fe.av]at hc;rcases hc with rfl|rfl|rfl|rfl<;>simp
theorem Se.clo(N:Nat)(f:Se):Clo N f.av:=bK fun c hc=>by simp[Se.av]at hc;rcases hc with rfl|rfl|rfl<;>simp
theorem pm(p:Nat)(h:Heap):Sat (CT G) 100 [.hm p] h (fun r h'=>r=.fn (.func 151) [] [.hp h.length 0 0 0]∧h'=h++[.row 110 1 0 [.hm p]]):=by
 refine sb [.tmp 2] (fn:=Tryz.f100) Tryz.func100 ?_
 intro Q hQ
 refine wk trivial ?_
 refine ee hQ trivial ?_
 exact Fin.whole (by simp) (.fn _ _ _ (fun _ h=>by cases h) (fun x hx=>by simp at hx;subst hx;exact .hp _ _ _ _ (by simp))) ⟨rfl,rfl⟩
theorem ke(s:PS)(hw:WFM s.fo s.c1)(hb:∀e∈s.fo, -9223372036854775808≤e.1∧e.1≤9223372036854775807)(hl:s.fo.length≤100000){H:Heap}{n:Nat}(hn:n+9≤H.length):Sat (CT G) 56 [.hm (n)] (so H n s) (fun r h'=>r=.sl 3 ((valsM Fo.z s.fo).map Fo.av)∧h'=so H n s):=by
 have hsl:=cH (s.fo.map (·.1))
 rw[List.length_map]at hsl
 refine sb [.tmp 2] (fn:=Tryz.f56) Tryz.func56 ?_
 intro Q hQ
 refine wk trivial ?_
 refine kq trivial (pm G _ _) ?_
 refine kq trivial (dq G Fo.av _ Tryz.sortedKeys100 s.fo s.c1 hw hb hl (by rw[bP (by simp;omega) 0 (by omega),aE _ rfl];rfl) (zJ (by simp;omega))) ?_
 unfold valsM at hQ
 have hks:(List.map (fun x=>x.1) s.fo).mergeSort (fun x y=>decide (x≤y))=sortI (s.fo.map (·.1)):=rfl
 rw[hks]
 generalize sortI (s.fo.map (·.1))=ks at*
 have hkm:(ks.map iA).length=ks.length:=List.length_map ..
 have F:=hkm
 refine lm (fun nL tL hL=>∃(k v:Nat) (acc:List Fo),ks.length-k=nL∧so (H++[.row 110 1 0 [.hm (n)],.row 53 3 v (acc.map Fo.av)]) n s=hL∧tL 0=.hm (n)∧tL 3=.hs (H.length+1) v 0 acc.length true∧tL 8=.sl 1 (ks.map iA)∧tL 9=.int .i64 (ks.length:Int)∧tL 10=.int .i64 k∧k≤ks.length∧acc.length=k∧acc++(ks.drop k).map (fun k=>(lkM s.fo k).getD Fo.z)=ks.map (fun k=>(lkM s.fo k).getD Fo.z)) ((fun(k v:Nat) (acc:List Fo)=>(ks.length-k:Nat)) (0) (0) ([])) ?_ ?_
 ·refine⟨_,_,Weak.virt 3 53 3 (by simp) (by omega) (by exact zq F),⟨0,0,[],rfl,by rw[bg (by simp;omega)];simp,?_,?_,?_,?_,?_,by omega,rfl,by simp⟩⟩
  all_goals first|exact zq F|rfl|omega|trivial|skip
 rintro _ s2 h' ⟨k,v,acc,rfl,rfl,e0,e3,e8,e9,e10,hk,hac,hp⟩ K2 hK2
 simp only[ak,ao,Nat.reduceEqDiff, ↓reduceIte]at e0 e3 e8 e9 e10
 have F:=F6 F e0 e3 e8 e9 e10
 refine wk F ?_
 refine cq F (fun c1=>?_) (fun c1=>?_)<;>(try exact c1.elim)<;>(refine wk F ?_)
 ·have c2:k<ks.length:=by omega
  obtain⟨y,hy,hym⟩:=ac c2
  rw[aD hy,List.map_cons]at hp
  have F:=F3 F hy @ax
  try refine sq F ?_
  refine wk F ?_
  refine aq F ?_
  try refine sq F ?_
  refine wk F ?_
  refine hK2 _ _ _ (Wkn.refl ⟨k+1,v+1,acc++[(lkM s.fo y).getD Fo.z],rfl,by simp[Fo.av],?_,?_,?_,?_,?_,by omega,by simp;omega,by rw[← hp];simp⟩) (by omega)
  all_goals first|exact zq F|rfl|omega|trivial|skip
 ·rw[aI c1,List.map_nil,List.append_nil]at hp
  refine ee hQ F ?_
  rw[← hp]
  have hbl:n+(s.bl n).length≤H.length:=hn
  have hg:getRow (so (H++[.row 110 1 0 [.hm (n)],.row 53 3 v (acc.map Fo.av)]) n s) (H.length+1) v=some (53,3,acc.map Fo.av):=by
   rw[bP (by simp;omega) v (by omega),bD _ rfl];simp[getRow]
  exact cZ hbl rfl (PS.clo hn s) (Frz.data (by omega) hg (by simp) (fun r hr=>by obtain⟨a,_,rfl⟩:=List.mem_map.1 hr;exact Fo.clo _ a) (fun r hr=>by obtain⟨a,_,rfl⟩:=List.mem_map.1 hr;exact a.cells_sto)) ⟨rfl,rfl⟩
theorem pn(p:Nat)(h:Heap):Sat (CT G) 101 [.hm p] h (fun r h'=>r=.fn (.func 152) [] [.hp h.length 0 0 0]∧h'=h++[.row 111 1 0 [.hm p]]):=by
 refine sb [.tmp 2] (fn:=Tryz.f101) Tryz.func101 ?_
 intro Q hQ
 refine wk trivial ?_
 refine ee hQ trivial ?_
 exact Fin.whole (by simp) (.fn _ _ _ (fun _ h=>by cases h) (fun x hx=>by simp at hx;subst hx;exact .hp _ _ _ _ (by simp))) ⟨rfl,rfl⟩
theorem kg(s:PS)(hw:WFM s.fe s.c2)(hb:∀e∈s.fe, -9223372036854775808≤e.1∧e.1≤9223372036854775807)(hl:s.fe.length≤100000){H:Heap}{n:Nat}(hn:n+9≤H.length):Sat (CT G) 57 [.hm (n+1)] (so H n s) (fun r h'=>r=.sl 4 ((valsM Fe.z s.fe).map Fe.av)∧h'=so H n s):=by
 have hsl:=cH (s.fe.map (·.1))
 rw[List.length_map]at hsl
 refine sb [.tmp 2] (fn:=Tryz.f57) Tryz.func57 ?_
 intro Q hQ
 refine wk trivial ?_
 refine kq trivial (pn G _ _) ?_
 refine kq trivial (dq G Fe.av _ Tryz.sortedKeys101 s.fe s.c2 hw hb hl (by rw[bP (by simp;omega) 0 (by omega),aE _ rfl];rfl) (zK (by simp;omega))) ?_
 unfold valsM at hQ
 have hks:(List.map (fun x=>x.1) s.fe).mergeSort (fun x y=>decide (x≤y))=sortI (s.fe.map (·.1)):=rfl
 rw[hks]
 generalize sortI (s.fe.map (·.1))=ks at*
 have hkm:(ks.map iA).length=ks.length:=List.length_map ..
 have F:=hkm
 refine lm (fun nL tL hL=>∃(k v:Nat) (acc:List Fe),ks.length-k=nL∧so (H++[.row 111 1 0 [.hm (n+1)],.row 51 4 v (acc.map Fe.av)]) n s=hL∧tL 0=.hm (n+1)∧tL 3=.hs (H.length+1) v 0 acc.length true∧tL 8=.sl 1 (ks.map iA)∧tL 9=.int .i64 (ks.length:Int)∧tL 10=.int .i64 k∧k≤ks.length∧acc.length=k∧acc++(ks.drop k).map (fun k=>(lkM s.fe k).getD Fe.z)=ks.map (fun k=>(lkM s.fe k).getD Fe.z)) ((fun(k v:Nat) (acc:List Fe)=>(ks.length-k:Nat)) (0) (0) ([])) ?_ ?_
 ·refine⟨_,_,Weak.virt 3 51 4 (by simp) (by omega) (by exact zq F),⟨0,0,[],rfl,by rw[bg (by simp;omega)];simp,?_,?_,?_,?_,?_,by omega,rfl,by simp⟩⟩
  all_goals first|exact zq F|rfl|omega|trivial|skip
 rintro _ s2 h' ⟨k,v,acc,rfl,rfl,e0,e3,e8,e9,e10,hk,hac,hp⟩ K2 hK2
 simp only[ak,ao,Nat.reduceEqDiff, ↓reduceIte]at e0 e3 e8 e9 e10
 have F:=F6 F e0 e3 e8 e9 e10
 refine wk F ?_
 refine cq F (fun c1=>?_) (fun c1=>?_)<;>(try exact c1.elim)<;>(refine wk F ?_)
 ·have c2:k<ks.length:=by omega
  obtain⟨y,hy,hym⟩:=ac c2
  rw[aD hy,List.map_cons]at hp
  have F:=F3 F hy @ax
  try refine sq F ?_
  refine wk F ?_
  refine aq F ?_
  try refine sq F ?_
  refine wk F ?_
  refine hK2 _ _ _ (Wkn.refl ⟨k+1,v+1,acc++[(lkM s.fe y).getD Fe.z],rfl,by simp[Fe.av],?_,?_,?_,?_,?_,by omega,by simp;omega,by rw[← hp];simp⟩) (by omega)
  all_goals first|exact zq F|rfl|omega|trivial|skip
 ·rw[aI c1,List.map_nil,List.append_nil]at hp
  refine ee hQ F ?_
  rw[← hp]
  have hbl:n+(s.bl n).length≤H.length:=hn
  have hg:getRow (so (H++[.row 111 1 0 [.hm (n+1)],.row 51 4 v (acc.map Fe.av)]) n s) (H.length+1) v=some (51,4,acc.map Fe.av):=by
   rw[bP (by simp;omega) v (by omega),bD _ rfl];simp[getRow]
  exact cZ hbl rfl (PS.clo hn s) (Frz.data (by omega) hg (by simp) (fun r hr=>by obtain⟨a,_,rfl⟩:=List.mem_map.1 hr;exact Fe.clo _ a) (fun r hr=>by obtain⟨a,_,rfl⟩:=List.mem_map.1 hr;exact a.cells_sto)) ⟨rfl,rfl⟩
theorem pr(p:Nat)(h:Heap):Sat (CT G) 102 [.hm p] h (fun r h'=>r=.fn (.func 153) [] [.hp h.length 0 0 0]∧h'=h++[.row 91 1 0 [.hm p]]):=by
 refine sb [.tmp 2] (fn:=Tryz.f102) Tryz.func102 ?_
 intro Q hQ
 refine wk trivial ?_
 refine ee hQ trivial ?_
 exact Fin.whole (by simp) (.fn _ _ _ (fun _ h=>by cases h) (fun x hx=>by simp at hx;subst hx;exact .hp _ _ _ _ (by simp))) ⟨rfl,rfl⟩
theorem pt(p:Nat)(h:Heap):Sat (CT G) 103 [.hm p] h (fun r h'=>r=.fn (.func 154) [] [.hp h.length 0 0 0]∧h'=h++[.row 112 1 0 [.hm p]]):=by
 refine sb [.tmp 2] (fn:=Tryz.f103) Tryz.func103 ?_
 intro Q hQ
 refine wk trivial ?_
 refine ee hQ trivial ?_
 exact Fin.whole (by simp) (.fn _ _ _ (fun _ h=>by cases h) (fun x hx=>by simp at hx;subst hx;exact .hp _ _ _ _ (by simp))) ⟨rfl,rfl⟩
theorem kh(s:PS)(hw:WFM s.se s.c4)(hb:∀e∈s.se, -9223372036854775808≤e.1∧e.1≤9223372036854775807)(hl:s.se.length≤100000){H:Heap}{n:Nat}(hn:n+9≤H.length):Sat (CT G) 59 [.hm (n+3)] (so H n s) (fun r h'=>r=.sl 3 ((valsM Se.z s.se).map Se.av)∧h'=so H n s):=by
 have hsl:=cH (s.se.map (·.1))
 rw[List.length_map]at hsl
 refine sb [.tmp 2] (fn:=Tryz.f59) Tryz.func59 ?_
 intro Q hQ
 refine wk trivial ?_
 refine kq trivial (pt G _ _) ?_
 refine kq trivial (dq G Se.av _ Tryz.sortedKeys103 s.se s.c4 hw hb hl (by rw[bP (by simp;omega) 0 (by omega),aE _ rfl];rfl) (zL (by simp;omega))) ?_
 unfold valsM at hQ
 have hks:(List.map (fun x=>x.1) s.se).mergeSort (fun x y=>decide (x≤y))=sortI (s.se.map (·.1)):=rfl
 rw[hks]
 generalize sortI (s.se.map (·.1))=ks at*
 have hkm:(ks.map iA).length=ks.length:=List.length_map ..
 have F:=hkm
 refine lm (fun nL tL hL=>∃(k v:Nat) (acc:List Se),ks.length-k=nL∧so (H++[.row 112 1 0 [.hm (n+3)],.row 129 3 v (acc.map Se.av)]) n s=hL∧tL 0=.hm (n+3)∧tL 3=.hs (H.length+1) v 0 acc.length true∧tL 8=.sl 1 (ks.map iA)∧tL 9=.int .i64 (ks.length:Int)∧tL 10=.int .i64 k∧k≤ks.length∧acc.length=k∧acc++(ks.drop k).map (fun k=>(lkM s.se k).getD Se.z)=ks.map (fun k=>(lkM s.se k).getD Se.z)) ((fun(k v:Nat) (acc:List Se)=>(ks.length-k:Nat)) (0) (0) ([])) ?_ ?_
 ·refine⟨_,_,Weak.virt 3 129 3 (by simp) (by omega) (by exact zq F),⟨0,0,[],rfl,by rw[bg (by simp;omega)];simp,?_,?_,?_,?_,?_,by omega,rfl,by simp⟩⟩
  all_goals first|exact zq F|rfl|omega|trivial|skip
 rintro _ s2 h' ⟨k,v,acc,rfl,rfl,e0,e3,e8,e9,e10,hk,hac,hp⟩ K2 hK2
 simp only[ak,ao,Nat.reduceEqDiff, ↓reduceIte]at e0 e3 e8 e9 e10
 have F:=F6 F e0 e3 e8 e9 e10
 refine wk F ?_
 refine cq F (fun c1=>?_) (fun c1=>?_)<;>(try exact c1.elim)<;>(refine wk F ?_)
 ·have c2:k<ks.length:=by omega
  obtain⟨y,hy,hym⟩:=ac c2
  rw[aD hy,List.map_cons]at hp
  have F:=F3 F hy @ax
  try refine sq F ?_
  refine wk F ?_
  refine aq F ?_
  try refine sq F ?_
  refine wk F ?_
  refine hK2 _ _ _ (Wkn.refl ⟨k+1,v+1,acc++[(lkM s.se y).getD Se.z],rfl,by simp[Se.av],?_,?_,?_,?_,?_,by omega,by simp;omega,by rw[← hp];simp⟩) (by omega)
  all_goals first|exact zq F|rfl|omega|trivial|skip
 ·rw[aI c1,List.map_nil,List.append_nil]at hp
  refine ee hQ F ?_
  rw[← hp]
  have hbl:n+(s.bl n).length≤H.length:=hn
  have hg:getRow (so (H++[.row 112 1 0 [.hm (n+3)],.row 129 3 v (acc.map Se.av)]) n s) (H.length+1) v=some (129,3,acc.map Se.av):=by
   rw[bP (by simp;omega) v (by omega),bD _ rfl];simp[getRow]
  exact cZ hbl rfl (PS.clo hn s) (Frz.data (by omega) hg (by simp) (fun r hr=>by obtain⟨a,_,rfl⟩:=List.mem_map.1 hr;exact Se.clo _ a) (fun r hr=>by obtain⟨a,_,rfl⟩:=List.mem_map.1 hr;exact a.cells_sto)) ⟨rfl,rfl⟩
theorem jq(s:PS)(hw:WFM s.it s.c3)(hb:∀e∈s.it, -9223372036854775808≤e.1∧e.1≤9223372036854775807)(hl:s.it.length≤100000){H:Heap}{n:Nat}(hn:n+9≤H.length):Sat (CT G) 58 [.hm (n+2)] (so H n s) (fun r h'=>∃v,r=.hs (H.length+1) v 0 (valsM It.z s.it).length true∧h'=so (H++[.row 91 1 0 [.hm (n+2)],.row 82 9 v ((valsM It.z s.it).map It.av)]) n s):=by
 have hsl:=cH (s.it.map (·.1))
 rw[List.length_map]at hsl
 refine sb [.tmp 2] (fn:=Tryz.f58) Tryz.func58 ?_
 intro Q hQ
 refine wk trivial ?_
 refine kq trivial (pr G _ _) ?_
 refine kq trivial (dq G It.av _ Tryz.sortedKeys102 s.it s.c3 hw hb hl (by rw[bP (by simp;omega) 0 (by omega),aE _ rfl];rfl) (pg (by simp;omega))) ?_
 unfold valsM at hQ
 have hks:(List.map (fun x=>x.1) s.it).mergeSort (fun x y=>decide (x≤y))=sortI (s.it.map (·.1)):=rfl
 rw[hks]
 generalize sortI (s.it.map (·.1))=ks at*
 have hkm:(ks.map iA).length=ks.length:=List.length_map ..
 have F:=hkm
 refine lm (fun nL tL hL=>∃(k v:Nat) (acc:List It),ks.length-k=nL∧so (H++[.row 91 1 0 [.hm (n+2)],.row 82 9 v (acc.map It.av)]) n s=hL∧tL 0=.hm (n+2)∧tL 3=.hs (H.length+1) v 0 acc.length true∧tL 8=.sl 1 (ks.map iA)∧tL 9=.int .i64 (ks.length:Int)∧tL 10=.int .i64 k∧k≤ks.length∧acc.length=k∧acc++(ks.drop k).map (fun k=>(lkM s.it k).getD It.z)=ks.map (fun k=>(lkM s.it k).getD It.z)) ((fun(k v:Nat) (acc:List It)=>(ks.length-k:Nat)) (0) (0) ([])) ?_ ?_
 ·refine⟨_,_,Weak.virt 3 82 9 (by simp) (by omega) (by exact zq F),⟨0,0,[],rfl,by rw[bg (by simp;omega)];simp,?_,?_,?_,?_,?_,by omega,rfl,by simp⟩⟩
  all_goals first|exact zq F|rfl|omega|trivial|skip
 rintro _ s2 h' ⟨k,v,acc,rfl,rfl,e0,e3,e8,e9,e10,hk,hac,hp⟩ K2 hK2
 simp only[ak,ao,Nat.reduceEqDiff, ↓reduceIte]at e0 e3 e8 e9 e10
 have F:=F6 F e0 e3 e8 e9 e10
 refine wk F ?_
 refine cq F (fun c1=>?_) (fun c1=>?_)<;>(try exact c1.elim)<;>(refine wk F ?_)
 ·have c2:k<ks.length:=by omega
  obtain⟨y,hy,hym⟩:=ac c2
  rw[aD hy,List.map_cons]at hp
  have F:=F3 F hy @ax
  try refine sq F ?_
  refine wk F ?_
  refine aq F ?_
  try refine sq F ?_
  refine wk F ?_
  refine hK2 _ _ _ (Wkn.refl ⟨k+1,v+1,acc++[(lkM s.it y).getD It.z],rfl,by simp[It.av],?_,?_,?_,?_,?_,by omega,by simp;omega,by rw[← hp];simp⟩) (by omega)
  all_goals first|exact zq F|rfl|omega|trivial|skip
 ·rw[aI c1,List.map_nil,List.append_nil]at hp
  refine ee hQ F ?_
  rw[← hp]
  have hal:acc.length=ks.length:=by omega
  exact Fin.whole (by rw[aW hn,aW (by simp;omega)];simp) (.hs _ _ _ _ _ (by rw[aW (by simp;omega)];simp)) ⟨v,by simp[hal],rfl⟩
end Go.Av
namespace Go.Av
open Go Go.Proofs Go.RowKit
attribute [local irreducible] WP WPl WPix Sat
variable (G:Nat→Option (List AVal))
theorem iS{h0:Heap}{R:AVal→Heap→Prop}{r0 r:AVal}(hz:Frz h0 h0.length r0 r)(hR:R r h0):Fin h0 h0 R r0:=by
 have:=Fin.frz (h0:=h0) (j:=[]) (R:=R) (r0:=r0) (r:=r) (by rwa [List.append_nil]) hR
 rwa [List.append_nil]at this
theorem pu(l:List Bs)(hl:l.length≤1048576)(h:Heap):Sat (CT G) 96 [.sl 1 (l.map .str)] h (fun r h'=>r=.sl 1 (l.map .str)∧h'=h):=by
 rcases l with _| ⟨a,l⟩
 ·refine sb [.tmp 2] (fn:=Tryz.f96) Tryz.func96 ?_
  intro Q hQ
  refine wk trivial ?_
  refine ja _ (by exact zq trivial) (.inl rfl) fun b=>?_
  cases b
  ·try refine sq trivial ?_
   refine wk trivial ?_
   refine fp (.inl rfl) (by simp(disch:=first|omega| (simp only[go_sem, ↓reduceIte,seval];first|done|omega)|fail) only[go_sem, ↓reduceIte,seval];rfl) (by simp(disch:=first|omega| (simp only[go_sem, ↓reduceIte,seval];first|done|omega)|fail) only[go_sem, ↓reduceIte,seval];rfl) (by simp(disch:=first|omega| (simp only[go_sem, ↓reduceIte,seval];first|done|omega)|fail) only[go_sem, ↓reduceIte,seval];rfl) (by simp(disch:=first|omega| (simp only[go_sem, ↓reduceIte,seval];first|done|omega)|fail) only[go_sem, ↓reduceIte,seval];try rfl) (by omega) (by simp only[elemsOf, ↓reduceIte];try rfl) (by simp) (fun _=>?_) (fun h=>absurd rfl h)
   try refine sq trivial ?_
   refine wk trivial ?_
   refine ee hQ trivial ?_
   exact iS (.ezs _) ⟨rfl,rfl⟩
  ·try refine sq trivial ?_
   refine wk trivial ?_
   refine ee hQ trivial ?_
   exact iS (.nils _) ⟨rfl,rfl⟩
 ·have hr:(List.map AVal.str (a::l))≠ []:=by simp
  refine sb [.tmp 2] (fn:=Tryz.f96) Tryz.func96 ?_
  intro Q hQ
  refine wk trivial ?_
  refine fp (.inl rfl) (by simp(disch:=first|omega| (simp only[go_sem, ↓reduceIte,seval];first|done|omega)|fail) only[go_sem, ↓reduceIte,seval];rfl) (by simp(disch:=first|omega| (simp only[go_sem, ↓reduceIte,seval];first|done|omega)|fail) only[go_sem, ↓reduceIte,seval];rfl) (by simp(disch:=first|omega| (simp only[go_sem, ↓reduceIte,seval];first|done|omega)|fail) only[go_sem, ↓reduceIte,seval];rfl) (by simp(disch:=first|omega| (simp only[go_sem, ↓reduceIte,seval];first|done|omega)|fail) only[go_sem, ↓reduceIte,seval];try rfl) (by omega) (by simp only[elemsOf, ↓reduceIte];try rfl) ?_ (fun h=>by simp at h) (fun _=>?_)
  ·simp[maxLen]at hl ⊢;omega
  try refine sq trivial ?_
  refine wk trivial ?_
  refine ee hQ trivial ?_
  have hg:getRow (h++[.row 9 1 0 ((a::l).map .str)]) h.length 0=some (9,1,(a::l).map .str):=by rw[aE _ rfl];simp[getRow]
  have:=Frz.data (n:=h.length) (len:=(a::l).length) (room:=true) (Nat.le_refl _) hg (by simp) (fun r hr=>by obtain⟨a,_,rfl⟩:=List.mem_map.1 hr;exact .str _) (fun r hr c hc=>by obtain⟨a,_,rfl⟩:=List.mem_map.1 hr;simp[AVal.cells]at hc;subst hc;rfl)
  simp only[List.length_cons,List.map_cons]at this
  exact Fin.frz (by simpa using this) ⟨rfl,rfl⟩
theorem fZ(t:It)(ht:t.tags.length≤1048576)(h:Heap):Sat (CT G) 60 [t.av] h (fun r h'=>r=t.av∧h'=h):=by
 refine sb [.cell 2 82] (fn:=Tryz.f60) Tryz.func60 ?_
 intro Q hQ
 refine wk trivial ?_
 refine kq trivial (pu G t.tags ht _) ?_
 refine ye hQ trivial ?_
 exact Fin.plain (It.clo _ t) ⟨rfl,rfl⟩
theorem pv(s:PS)(id:Int)(ht:((lkM s.it id).getD It.z).tags.length≤1048576){H:Heap}{n:Nat}(hn:n+9≤H.length):Sat (CT G) 38 [.hp (n+8) 0 0 0,.int .i64 id] (so H n s) (fun r h'=>r=.tup [((lkM s.it id).getD It.z).av,.bool (lkM s.it id).isSome]∧h'=so H n s):=by
 refine sb [.cell 4 82,.tmp 5] (fn:=Tryz.f38) Tryz.func38 ?_
 intro Q hQ
 refine wk trivial ?_
 refine kq trivial (fZ G ((lkM s.it id).getD It.z) ht _) ?_
 refine ye hQ trivial ?_
 exact au hn (.tup _ (fun x hx=>by simp only[List.mem_cons,List.not_mem_nil,or_false]at hx;rcases hx with rfl|rfl;exact It.clo _ _;exact .bool _)) ⟨rfl,rfl⟩
end Go.Av
namespace Go.Av
open Go Go.Proofs Go.RowKit
attribute [local irreducible] WP WPl WPix Sat
variable (G:Nat→Option (List AVal))
structure St where
 clock:Int
 fo:List Fo
 fe:List Fe
 it:List It
 se:List Se
 t1:Int
 t2:Int
 t3:Int
 t4:Int
def St.av(x:St):AVal:=.agg [.int .i64 x.clock,.sl 3 (x.fo.map Fo.av),.sl 4 (x.fe.map Fe.av),.sl 9 (x.it.map It.av),.sl 3 (x.se.map Se.av),.int .i64 x.t1,.int .i64 x.t2,.int .i64 x.t3,.int .i64 x.t4]
@[go_sem] theorem St.av_eq(x:St):x.av=.agg [.int .i64 x.clock,.sl 3 (x.fo.map Fo.av),.sl 4 (x.fe.map Fe.av),.sl 9 (x.it.map It.av),.sl 3 (x.se.map Se.av),.int .i64 x.t1,.int .i64 x.t2,.int .i64 x.t3,.int .i64 x.t4]:=(rfl)
def PS.tell(s:PS):St:=⟨s.clock,valsM Fo.z s.fo,valsM Fe.z s.fe,valsM It.z s.it,valsM Se.z s.se,s.t1,s.t2,s.t3,s.t4⟩
def inI(k:Int):Prop:= -9223372036854775808≤k∧k≤9223372036854775807
structure PS.Ok (s:PS):Prop where
 w1:WFM s.fo s.c1
 w2:WFM s.fe s.c2
 w3:WFM s.it s.c3
 w4:WFM s.se s.c4
 b1:∀e∈s.fo,inI e.1
 b2:∀e∈s.fe,inI e.1
 b3:∀e∈s.it,inI e.1
 b4:∀e∈s.se,inI e.1
 l1:s.fo.length≤100000
 l2:s.fe.length≤100000
 l3:s.it.length≤100000
 l4:s.se.length≤100000
 tg:∀t∈valsM It.z s.it,t.tags.length≤1048576
theorem ap{N:Nat}{h:Heap}{α:Type}{av:α→AVal}{m:Nat}(hc:∀a,Clo N (av a))(l:List α):Frz h N (.sl m (l.map av)) (.sl m (l.map av)):=
 .clo _ (Clo.sl _ _ fun x hx=>by obtain⟨a,_,rfl⟩:=List.mem_map.1 hx;exact hc a)
theorem mq(s:PS){H j:Heap}{n p v:Nat}(hn:n+9≤H.length)(hg:getRow (H++j) (H.length+p) v=some (82,9,(valsM It.z s.it).map It.av)):
  Fin (so H n s) (so (H++j) n s) (fun r h'=>r=s.tell.av∧h'=so H n s) (.agg [.int .i64 s.clock,.sl 3 ((valsM Fo.z s.fo).map Fo.av),.sl 4 ((valsM Fe.z s.fe).map Fe.av),.hs (H.length+p) v 0 (valsM It.z s.it).length true,.sl 3 ((valsM Se.z s.se).map Se.av),.int .i64 s.t1,.int .i64 s.t2,.int .i64 s.t3,.int .i64 s.t4]):=by
 have hl:H.length+p<(H++j).length:=b9 hg
 have hg':getRow (so (H++j) n s) (H.length+p) v=some (82,9,(valsM It.z s.it).map It.av):=by rw[bP (by simp;omega) v (by omega)];exact hg
 refine cZ hn rfl (PS.clo hn s) (FrzL.agg (.cons (.clo _ (.int _ _)) (.cons (ap (Fo.clo _) _) (.cons (ap (Fe.clo _) _) (.cons (Frz.data (by omega) hg' (by simp) (fun r hr=>by obtain⟨a,_,rfl⟩:=List.mem_map.1 hr;exact It.clo _ a) (fun r hr=>by obtain⟨a,_,rfl⟩:=List.mem_map.1 hr;exact a.cells_sto)) (.cons (ap (Se.clo _) _) (.cons (.clo _ (.int _ _)) (.cons (.clo _ (.int _ _)) (.cons (.clo _ (.int _ _)) (.cons (.clo _ (.int _ _)) .nil))))))))) rfl) ⟨rfl,rfl⟩
theorem pw(s:PS)(hs:s.Ok){H:Heap}{n:Nat}(hn:n+9≤H.length):Sat (CT G) 22 [.hp (n+8) 0 0 0] (so H n s) (fun r h'=>r=s.tell.av∧h'=so H n s):=by
 have hvl:(valsM It.z s.it).length≤100000:=by unfold valsM;rw[List.length_map,cH,List.length_map];exact hs.l3
 refine sb [.cell 2 34] (fn:=Tryz.f22) Tryz.func22 ?_
 intro Q hQ
 refine wk trivial ?_
 refine aw 46 [8,13,18,23,44,45] [true,true,true,true,true,true,true,true,false,true,true,true,true,false,true,true,true,true,false,true,true,true,true,false,true,true,true,true,true,true,true,true,true,true,true,true,true,true,true,true,true,true,true,true,false,false] (.two 8 [false,true,true,true,false,false,false,false,false,false,true,true,true,false,false,true,true,true,false,false,true,true,true,false,false,true,true,true,true,false,true,true,true,true,false,true,true,true,true,false,true,true,true,true] (.two 13 [false,true,true,true,false,false,false,false,false,false,false,false,false,false,false,true,true,true,false,false,true,true,true,false,false,true,true,true,true,false,true,true,true,true,false,true,true,true,true,false,true,true,true,true] (.two 18 [false,true,true,true,false,false,false,false,false,false,false,false,false,false,false,false,false,false,false,false,true,true,true,false,false,true,true,true,true,false,true,true,true,true,false,true,true,true,true,false,true,true,true,true] (.two 23 [false,true,true,true,false,false,false,false,false,false,false,false,false,false,false,false,false,false,false,false,false,false,false,false,false,true,true,true,true,false,true,true,true,true,false,true,true,true,true,false,true,true,true,true] (.two 44 [] (.one 45 [] .fin) 45 [false,true,true,true,false,false,false,false,false,false,false,false,false,false,false,false,false,false,false,false,false,false,false,false,false,true,true,true,true,false,true,true,true,true,false,true,true,true,true,false,true,true,true,true] (.one 44 [] .fin)) 45 [false,true,true,true,false,false,false,false,false,false,false,false,false,false,false,false,false,false,false,false,true,true,true,false,false,true,true,true,true,false,true,true,true,true,false,true,true,true,true,false,true,true,true,true] (.one 23 [false,true,true,true,false,false,false,false,false,false,false,false,false,false,false,false,false,false,false,false,false,false,false,false,false,true,true,true,true,false,true,true,true,true,false,true,true,true,true,false,true,true,true,true] (.one 44 [] .fin))) 45 [false,true,true,true,false,false,false,false,false,false,false,false,false,false,false,true,true,true,false,false,true,true,true,false,false,true,true,true,true,false,true,true,true,true,false,true,true,true,true,false,true,true,true,true] (.one 18 [false,true,true,true,false,false,false,false,false,false,false,false,false,false,false,false,false,false,false,false,true,true,true,false,false,true,true,true,true,false,true,true,true,true,false,true,true,true,true,false,true,true,true,true] (.one 23 [false,true,true,true,false,false,false,false,false,false,false,false,false,false,false,false,false,false,false,false,false,false,false,false,false,true,true,true,true,false,true,true,true,true,false,true,true,true,true,false,true,true,true,true] (.one 44 [] .fin)))) 45 [false,true,true,true,false,false,false,false,false,false,true,true,true,false,false,true,true,true,false,false,true,true,true,false,false,true,true,true,true,false,true,true,true,true,false,true,true,true,true,false,true,true,true,true] (.one 13 [false,true,true,true,false,false,false,false,false,false,false,false,false,false,false,true,true,true,false,false,true,true,true,false,false,true,true,true,true,false,true,true,true,true,false,true,true,true,true,false,true,true,true,true] (.one 18 [false,true,true,true,false,false,false,false,false,false,false,false,false,false,false,false,false,false,false,false,true,true,true,false,false,true,true,true,true,false,true,true,true,true,false,true,true,true,true,false,true,true,true,true] (.one 23 [false,true,true,true,false,false,false,false,false,false,false,false,false,false,false,false,false,false,false,false,false,false,false,false,false,true,true,true,true,false,true,true,true,true,false,true,true,true,true,false,true,true,true,true] (.one 44 [] .fin))))) 45 [false,true,true,true,false,true,true,true,false,false,true,true,true,false,false,true,true,true,false,false,true,true,true,false,false,true,true,true,true,false,true,true,true,true,false,true,true,true,true,false,true,true,true,true] (.one 8 [false,true,true,true,false,false,false,false,false,false,true,true,true,false,false,true,true,true,false,false,true,true,true,false,false,true,true,true,true,false,true,true,true,true,false,true,true,true,true,false,true,true,true,true] (.one 13 [false,true,true,true,false,false,false,false,false,false,false,false,false,false,false,true,true,true,false,false,true,true,true,false,false,true,true,true,true,false,true,true,true,true,false,true,true,true,true,false,true,true,true,true] (.one 18 [false,true,true,true,false,false,false,false,false,false,false,false,false,false,false,false,false,false,false,false,true,true,true,false,false,true,true,true,true,false,true,true,true,true,false,true,true,true,true,false,true,true,true,true] (.one 23 [false,true,true,true,false,false,false,false,false,false,false,false,false,false,false,false,false,false,false,false,false,false,false,false,false,true,true,true,true,false,true,true,true,true,false,true,true,true,true,false,true,true,true,true] (.one 44 [] .fin)))))) (by decide+kernel) (by kernel_rfl) (by decide+kernel) ?_
 simp only[aB,aC,az]
 try refine sq trivial ?_
 repeat' (first| (refine ah ?_;try refine sq trivial ?_)| (refine ai ?_;try refine sq trivial ?_)| (refine aj ?_ ?_<;>try refine sq trivial ?_))
 all_goals try refine wk trivial ?_
 repeat' (first
  | (refine(ke G s hs.w1 hs.b1 hs.l1 (by first|omega| (simp;omega))).mono ?_;rintro r h' ⟨rfl,rfl⟩;try refine sq trivial ?_)
  | (refine(kg G s hs.w2 hs.b2 hs.l2 (by first|omega| (simp;omega))).mono ?_;rintro r h' ⟨rfl,rfl⟩;try refine sq trivial ?_)
  | (refine(kh G s hs.w4 hs.b4 hs.l4 (by first|omega| (simp;omega))).mono ?_;rintro r h' ⟨rfl,rfl⟩;try refine sq trivial ?_)
  | (refine(jq G s hs.w3 hs.b3 hs.l3 (by first|omega| (simp;omega))).mono ?_;rintro r h' ⟨v,rfl,rfl⟩;try refine sq trivial ?_)
  | (refine ah ?_;try refine sq trivial ?_)| (refine ai ?_;try refine sq trivial ?_)| (refine aj ?_ ?_<;>try refine sq trivial ?_))
 all_goals try refine wk trivial ?_
 all_goals first
  | (
   refine lm (fun nL tL hL=>∃(k:Nat) (hh:Heap),(valsM It.z s.it).length-k=nL∧so hh n s=hL∧tL 2=.hp H.length 0 0 0∧tL 3=.hp (H.length+3) 0 0 0∧tL 55=.hs (H.length+2) v 0 (valsM It.z s.it).length true∧tL 56=.int .i64 ((valsM It.z s.it).length:Int)∧tL 57=.int .i64 k∧k≤(valsM It.z s.it).length∧(FrN H.length H hh∧H.length+3<hh.length)∧getRow hh H.length 0=some (34,9,[.agg [.int .i64 0,.nil (.slice none 0 0),.nil (.slice none 0 0),.nil (.slice none 0 0),.nil (.slice none 0 0),.int .i64 0,.int .i64 0,.int .i64 0,.int .i64 0]])∧getRow hh (H.length+3) 0=some (34,9,[.agg [.int .i64 s.clock,.sl 3 ((valsM Fo.z s.fo).map Fo.av),.sl 4 ((valsM Fe.z s.fe).map Fe.av),.hs (H.length+2) v 0 (valsM It.z s.it).length true,.sl 3 ((valsM Se.z s.se).map Se.av),.int .i64 s.t1,.int .i64 s.t2,.int .i64 s.t3,.int .i64 s.t4]])∧getRow hh (H.length+2) v=some (82,9,(valsM It.z s.it).map It.av)) ((fun(k:Nat) (hh:Heap)=>((valsM It.z s.it).length-k:Nat)) (0) (H++[.row 34 9 0 [.agg [.int .i64 0,.nil (.slice none 0 0),.nil (.slice none 0 0),.nil (.slice none 0 0),.nil (.slice none 0 0),.int .i64 0,.int .i64 0,.int .i64 0,.int .i64 0]],.row 91 1 0 [.hm (n+2)],.row 82 9 v ((valsM It.z s.it).map It.av),.row 34 9 0 [.agg [.int .i64 s.clock,.sl 3 ((valsM Fo.z s.fo).map Fo.av),.sl 4 ((valsM Fe.z s.fe).map Fe.av),.hs (H.length+2) v 0 (valsM It.z s.it).length true,.sl 3 ((valsM Se.z s.se).map Se.av),.int .i64 s.t1,.int .i64 s.t2,.int .i64 s.t3,.int .i64 s.t4]]])) ?_ ?_
   ·refine Wkn.refl ⟨0,H++[.row 34 9 0 [.agg [.int .i64 0,.nil (.slice none 0 0),.nil (.slice none 0 0),.nil (.slice none 0 0),.nil (.slice none 0 0),.int .i64 0,.int .i64 0,.int .i64 0,.int .i64 0]],.row 91 1 0 [.hm (n+2)],.row 82 9 v ((valsM It.z s.it).map It.av),.row 34 9 0 [.agg [.int .i64 s.clock,.sl 3 ((valsM Fo.z s.fo).map Fo.av),.sl 4 ((valsM Fe.z s.fe).map Fe.av),.hs (H.length+2) v 0 (valsM It.z s.it).length true,.sl 3 ((valsM Se.z s.se).map Se.av),.int .i64 s.t1,.int .i64 s.t2,.int .i64 s.t3,.int .i64 s.t4]]],rfl,ay,?_,?_,?_,?_,?_,by omega,⟨FrN.app _ (by omega) (FrN.refl _ _),by simp⟩,by rw[aE _ rfl];rfl,by rw[bD _ rfl];rfl,by rw[bD _ rfl];simp[getRow]⟩
    all_goals first|exact zq trivial|rfl|omega|trivial|skip
   rintro _ s2 h' ⟨k,hh,rfl,rfl,e2,e3,e55,e56,e57,hk,hfr,hg2,hgx,hgi⟩ K2 hK2
   simp only[ak,ao,Nat.reduceEqDiff, ↓reduceIte]at e2 e3 e55 e56 e57
   have F:=F5 e2 e3 e55 e56 e57
   refine wk F ?_
   obtain⟨hfr,hfl⟩:=hfr
   have hn1:n+9≤hh.length:=by omega
   refine cq F (fun c1=>?_) (fun c1=>?_)<;>(try exact c1.elim)<;>(refine wk F ?_)
   ·have c2:k<(valsM It.z s.it).length:=by omega
    obtain⟨y,hy,hym⟩:=ac c2
    have hyt:=hs.tg y hym
    have hset:((valsM It.z s.it).map It.av).set k (.agg [.int .i64 y.id,.int .i64 y.feed,.int .i64 y.date,.str y.guid,.str y.title,.str y.link,.bool y.read,.bool y.star,.sl 1 (y.tags.map .str)])=(valsM It.z s.it).map It.av:=by
     apply List.ext_getElem?
     intro q
     rw[List.getElem?_set]
     split
     ·rename_i hq;subst hq;rw[List.getElem?_map,hy];simp[c2,It.av]
     ·rfl
    have F:=F7 F c2 hy @hset hgi hgx @ax
    try refine sq F ?_
    refine wk F ?_
    refine aA (fZ G y hyt _) ?_
    try refine sq F ?_
    refine wk F ?_
    refine hK2 _ _ _ (Wkn.refl ⟨k+1,hh.set (H.length+2) (.row 82 9 v ((valsM It.z s.it).map It.av))++[.row 82 9 0 [y.av]],rfl,ay,?_,?_,?_,?_,?_,by omega,⟨FrN.app _ (by simp;omega) (FrN.set _ (by omega) hfr),by simp;omega⟩,by rw[aN _ (by simp;omega),aZ _ _ (by omega)];exact hg2,by rw[aN _ (by simp;omega),aZ _ _ (by omega)];exact hgx,by rw[aN _ (by simp;omega),bJ _ _ _ _ _ (by omega),if_pos rfl]⟩) (by omega)
    all_goals first|exact zq F|rfl|omega|trivial|skip
   ·have F:=F5 F hg2 hgx hgi @ax
    try refine sq F ?_
    refine wk F ?_
    refine ye hQ F ?_
    obtain⟨j,hj⟩:=hfr.behind (by omega)
    subst hj
    have hgi2:∀b,getRow (H++j.set 0 b) (H.length+2) v=some (82,9,(valsM It.z s.it).map It.av):=fun b=>by rw[← fy b rfl,aZ _ _ (by omega)];exact hgi
    rw[fy _ rfl]
    exact mq s hn (by simpa using hgi2 _))
  | (
   refine lm (fun nL tL hL=>∃(k:Nat) (hh:Heap),(valsM It.z s.it).length-k=nL∧so hh n s=hL∧tL 2=.hp H.length 0 0 0∧tL 3=.hp (H.length+1) 0 0 0∧tL 55=.hs (H.length+3) v 0 (valsM It.z s.it).length true∧tL 56=.int .i64 ((valsM It.z s.it).length:Int)∧tL 57=.int .i64 k∧k≤(valsM It.z s.it).length∧(FrN H.length H hh∧H.length+3<hh.length)∧getRow hh H.length 0=some (34,9,[.agg [.int .i64 0,.nil (.slice none 0 0),.nil (.slice none 0 0),.nil (.slice none 0 0),.nil (.slice none 0 0),.int .i64 0,.int .i64 0,.int .i64 0,.int .i64 0]])∧getRow hh (H.length+1) 0=some (34,9,[.agg [.int .i64 s.clock,.sl 3 ((valsM Fo.z s.fo).map Fo.av),.sl 4 ((valsM Fe.z s.fe).map Fe.av),.hs (H.length+3) v 0 (valsM It.z s.it).length true,.sl 3 ((valsM Se.z s.se).map Se.av),.int .i64 s.t1,.int .i64 s.t2,.int .i64 s.t3,.int .i64 s.t4]])∧getRow hh (H.length+3) v=some (82,9,(valsM It.z s.it).map It.av)) ((fun(k:Nat) (hh:Heap)=>((valsM It.z s.it).length-k:Nat)) (0) (H++[.row 34 9 0 [.agg [.int .i64 0,.nil (.slice none 0 0),.nil (.slice none 0 0),.nil (.slice none 0 0),.nil (.slice none 0 0),.int .i64 0,.int .i64 0,.int .i64 0,.int .i64 0]],.row 34 9 0 [.agg [.int .i64 s.clock,.sl 3 ((valsM Fo.z s.fo).map Fo.av),.sl 4 ((valsM Fe.z s.fe).map Fe.av),.hs (H.length+3) v 0 (valsM It.z s.it).length true,.sl 3 ((valsM Se.z s.se).map Se.av),.int .i64 s.t1,.int .i64 s.t2,.int .i64 s.t3,.int .i64 s.t4]],.row 91 1 0 [.hm (n+2)],.row 82 9 v ((valsM It.z s.it).map It.av)])) ?_ ?_
   ·refine Wkn.refl ⟨0,H++[.row 34 9 0 [.agg [.int .i64 0,.nil (.slice none 0 0),.nil (.slice none 0 0),.nil (.slice none 0 0),.nil (.slice none 0 0),.int .i64 0,.int .i64 0,.int .i64 0,.int .i64 0]],.row 34 9 0 [.agg [.int .i64 s.clock,.sl 3 ((valsM Fo.z s.fo).map Fo.av),.sl 4 ((valsM Fe.z s.fe).map Fe.av),.hs (H.length+3) v 0 (valsM It.z s.it).length true,.sl 3 ((valsM Se.z s.se).map Se.av),.int .i64 s.t1,.int .i64 s.t2,.int .i64 s.t3,.int .i64 s.t4]],.row 91 1 0 [.hm (n+2)],.row 82 9 v ((valsM It.z s.it).map It.av)],rfl,ay,?_,?_,?_,?_,?_,by omega,⟨FrN.app _ (by omega) (FrN.refl _ _),by simp⟩,by rw[aE _ rfl];rfl,by rw[bD _ rfl];rfl,by rw[bD _ rfl];simp[getRow]⟩
    all_goals first|exact zq trivial|rfl|omega|trivial|skip
   rintro _ s2 h' ⟨k,hh,rfl,rfl,e2,e3,e55,e56,e57,hk,hfr,hg2,hgx,hgi⟩ K2 hK2
   simp only[ak,ao,Nat.reduceEqDiff, ↓reduceIte]at e2 e3 e55 e56 e57
   have F:=F5 e2 e3 e55 e56 e57
   refine wk F ?_
   obtain⟨hfr,hfl⟩:=hfr
   have hn1:n+9≤hh.length:=by omega
   refine cq F (fun c1=>?_) (fun c1=>?_)<;>(try exact c1.elim)<;>(refine wk F ?_)
   ·have c2:k<(valsM It.z s.it).length:=by omega
    obtain⟨y,hy,hym⟩:=ac c2
    have hyt:=hs.tg y hym
    have hset:((valsM It.z s.it).map It.av).set k (.agg [.int .i64 y.id,.int .i64 y.feed,.int .i64 y.date,.str y.guid,.str y.title,.str y.link,.bool y.read,.bool y.star,.sl 1 (y.tags.map .str)])=(valsM It.z s.it).map It.av:=by
     apply List.ext_getElem?
     intro q
     rw[List.getElem?_set]
     split
     ·rename_i hq;subst hq;rw[List.getElem?_map,hy];simp[c2,It.av]
     ·rfl
    have F:=F7 F c2 hy @hset hgi hgx @ax
    try refine sq F ?_
    refine wk F ?_
    refine aA (fZ G y hyt _) ?_
    try refine sq F ?_
    refine wk F ?_
    refine hK2 _ _ _ (Wkn.refl ⟨k+1,hh.set (H.length+3) (.row 82 9 v ((valsM It.z s.it).map It.av))++[.row 82 9 0 [y.av]],rfl,ay,?_,?_,?_,?_,?_,by omega,⟨FrN.app _ (by simp;omega) (FrN.set _ (by omega) hfr),by simp;omega⟩,by rw[aN _ (by simp;omega),aZ _ _ (by omega)];exact hg2,by rw[aN _ (by simp;omega),aZ _ _ (by omega)];exact hgx,by rw[aN _ (by simp;omega),bJ _ _ _ _ _ (by omega),if_pos rfl]⟩) (by omega)
    all_goals first|exact zq F|rfl|omega|trivial|skip
   ·have F:=F5 F hg2 hgx hgi @ax
    try refine sq F ?_
    refine wk F ?_
    refine ye hQ F ?_
    obtain⟨j,hj⟩:=hfr.behind (by omega)
    subst hj
    have hgi2:∀b,getRow (H++j.set 0 b) (H.length+3) v=some (82,9,(valsM It.z s.it).map It.av):=fun b=>by rw[← fy b rfl,aZ _ _ (by omega)];exact hgi
    rw[fy _ rfl]
    exact mq s hn (by simpa using hgi2 _))
end Go.Av
namespace Go.Av
open Go Go.Proofs Go.RowKit
attribute [local irreducible] WP WPl WPix Sat
variable (G:Nat→Option (List AVal))
theorem gN(l:List Ky)(acc:List Ky):(l.foldl insK acc).length=acc.length+l.length:=by
 induction l generalizing acc with
 |nil=>rfl
 |cons x l ih=>rw[List.foldl_cons,ih,iQ];simp;omega
theorem gO(h:Heap)(v u:Nat)(l l':List Ky):vo (h++vb h.length u l') h.length v l=h++vb h.length v l:=by
 unfold vo ov
 have e:(vb h.length u l').length=2:=rfl
 have e2:(vb h.length v l).length=2:=rfl
 rw[List.take_left' rfl,e2,List.drop_of_length_le (by simp[e]),List.append_nil]
theorem mr(x:St)(sp:AVal)(h:Heap)(hT:∀j,Sat (CT G) 22 [sp] (h++j) (fun r h'=>r=x.av∧h'=h++j))(hl:x.it.length≤100000)(hd:(x.it.map (·.id)).Nodup):
  Sat (CT G) 24 [sp] h (fun r h'=>r=.hp h.length 0 0 0∧h'=h++vb h.length x.it.length (srtK (x.it.map It.ky))):=by
 have hil:(x.it.map It.av).length=x.it.length:=List.length_map ..
 have hsk:∀k,Sk (((x.it.take k).map It.ky).foldl insK []):=fun k=>ml (by
  rw[List.map_map]
  exact(List.Sublist.map _ (List.take_sublist k x.it)).nodup hd)
 have hkl:∀k,(((x.it.take k).map It.ky).foldl insK []).length≤100000:=fun k=>by rw[gN];simp;omega
 obtain⟨H0,hH0⟩:∃H0,H0=h++vb h.length 0 []:=⟨_,rfl⟩
 have hl0:H0.length=h.length+2:=by rw[hH0];simp[mm]
 have F:=hil
 refine sb [.tmp 2] (fn:=Tryz.f24) Tryz.func24 ?_
 intro Q hQ
 refine wk F ?_
 refine kq F (hT _) ?_
 refine lm (fun nL tL hL=>∃(k:Nat) (j:Heap),x.it.length-k=nL∧vo (H0++j) h.length k (((x.it.take k).map It.ky).foldl insK [])=hL∧tL 12=.int .i64 k∧k≤x.it.length) ((fun(k:Nat) (j:Heap)=>(x.it.length-k:Nat)) (0) ([])) ?_ ?_
 ·refine⟨_,_,Weak.virtCell (p:=h.length) (v:=0) 135 3 (by omega) (by rw[aE _ rfl];rfl) 0 rfl,⟨0,[],rfl,by rw[List.append_nil,hH0,gO];simp[vb],?_,by omega⟩⟩
  all_goals first|exact zq F|rfl|omega|trivial|skip
 rintro _ s2 h' ⟨k,j,rfl,rfl,e12,hk⟩ K2 hK2
 simp only[ak,ao,Nat.reduceEqDiff, ↓reduceIte]at e12
 have F:=F2 F e12
 refine wk F ?_
 refine cq F (fun c1=>?_) (fun c1=>?_)<;>(try exact c1.elim)<;>(refine wk F ?_)
 ·have c2:k<x.it.length:=by omega
  obtain⟨y,hy,hym⟩:=ac c2
  have F:=F4 F hy c2 @ax
  try refine sq F ?_
  refine wk F ?_
  refine kq F (oo G (H:=H0++(j++[Blk.row 82 9 0 [y.av]])) (n:=h.length) (v:=k) (hsk k) (hkl k) y (by simp;omega)) ?_
  have ht:insK (((x.it.take k).map It.ky).foldl insK []) y.ky=((x.it.take (k+1)).map It.ky).foldl insK []:=by rw[List.take_add_one,hy];simp
  rw[ht]
  refine hK2 _ _ _ (Wkn.refl ⟨k+1,j++[.row 82 9 0 [y.av]],rfl,by simp[It.av],?_,by omega⟩) (by omega)
  all_goals first|exact zq F|rfl|omega|trivial|skip
 ·have e:k=x.it.length:=by omega
  subst e
  rw[List.take_length]
  refine ee hQ F ?_
  rw[← dI (by omega),hH0,gO]
  exact Fin.upto (by simp) ((KeepC.refl h _).app (gM (by simp[mm]))) (.hp _ _ _ _ (by simp[mm])) ⟨rfl,rfl⟩
section
variable {l:List Ky} {H:Heap} {n v:Nat}
theorem qY(k:Ky)(e:Ev)(q:Nat)(h:Heap)(hq:getRow h q 0=some (45,7,[e.av])):Sat (CT G) 65 [k.av,.hp q 0 0 0] h (fun r h'=>r=.bool (decide (k.f=e.a))∧h'=h):=by
 have h2:getRow (h++[.row 135 3 0 [k.av]]) q 0=some (45,7,[e.av]):=by rw[aN _ (b9 hq)];exact hq
 rw[Ky.av_eq,Ev.av_eq]at h2
 have F:=h2
 refine sb [.tmp 3] (fn:=Tryz.f65) Tryz.func65 ?_
 intro Q hQ
 refine wk F ?_
 refine ee hQ F ?_
 exact Fin.plain (.bool _) ⟨by rw[show(k.f==e.a)=decide (k.f=e.a)from by rw[Bool.eq_iff_iff];simp],rfl⟩
def VStepF(l:List Ky)(e:Ev)(t:It)(b:Bool):List Ky:=
 if e.kind=7 then(if b then insK l t.ky else l)else if e.kind=4 then l.filter (fun k=> !decide (k.f=e.a))else l
theorem qZ(hs:Sk l)(hl:l.length≤100000)(e:Ev)(sp:AVal)(t:It)(b:Bool)(hn:n+2≤H.length)
  (hI:e.kind=7→∀j,Sat (CT G) 38 [sp,.int .i64 e.a] (vo (H++j) n v l) (fun r h'=>r=.tup [t.av,.bool b]∧h'=vo (H++j) n v l)):
  Sat (CT G) 30 [.hp n 0 0 0,sp,e.av] (vo H n v l) (fun r h'=>r=.tup []∧∃u,h'=vo H n u (VStepF l e t b)):=by
 have ct:∀N,Clo N (.tup []):=fun N=>.tup _ (fun x hx=>by simp at hx)
 have hn1:∀j:Heap,n+2≤(H++j).length:=fun j=>by simp;omega
 by_cases k7:e.kind=7
 ·have hP:=oo G (n:=n) (v:=v) (H:=H++[Blk.row 45 7 0 [e.av],Blk.row 82 9 0 [t.av]]) hs hl t (hn1 _)
  cases b with
  |true=>
   have hI1:=hI k7 [Blk.row 45 7 0 [e.av]]
   have y7:(e.kind==7)=true:=by simp[k7]
   have F:=y7
   refine sb [] (fn:=Tryz.f30) Tryz.func30 ?_
   intro Q hQ
   refine wk F ?_
   refine kq F (hI1) ?_
   refine kq F (hP) ?_
   refine ee hQ F ?_
   exact bz hn (ct _) ⟨rfl,v+1,by unfold VStepF;rw[if_pos k7];rfl⟩
  |false=>
   have hI1:=hI k7 [Blk.row 45 7 0 [e.av]]
   have y7:(e.kind==7)=true:=by simp[k7]
   have F:=y7
   refine sb [] (fn:=Tryz.f30) Tryz.func30 ?_
   intro Q hQ
   refine wk F ?_
   refine kq F (hI1) ?_
   refine ee hQ F ?_
   exact bz hn (ct _) ⟨rfl,v,by unfold VStepF;rw[if_pos k7];rfl⟩
 ·by_cases k4:e.kind=4
  ·have hD:=tt G (l:=l) (v:=v) (n:=n) (H:=H++[Blk.row 45 7 0 [e.av]]) (fun k=>decide (k.f=e.a)) 65 [.hp H.length 0 0 0] (hn1 _) (by omega) (fun a j L=>qY G a e H.length _ (by
    rw[ea (by simp;omega) 0 (by omega),List.append_assoc,aE _ rfl];rfl))
   have n7:(e.kind==7)=false:=by simp[k7]
   have y4:(e.kind==4)=true:=by simp[k4]
   have F:=F2 n7 y4
   refine sb [] (fn:=Tryz.f30) Tryz.func30 ?_
   intro Q hQ
   refine wk F ?_
   refine kq F (hD) ?_
   have F:=F2 F @ax
   try refine sq F ?_
   refine wk F ?_
   refine ee hQ F ?_
   rw[ol (hn1 _)]
   exact bz hn (ct _) ⟨rfl,v,by unfold VStepF;rw[if_neg k7,if_pos k4]⟩
  ·have n7:(e.kind==7)=false:=by simp[k7]
   have n4:(e.kind==4)=false:=by simp[k4]
   have F:=F2 n7 n4
   refine sb [] (fn:=Tryz.f30) Tryz.func30 ?_
   intro Q hQ
   refine wk F ?_
   refine ee hQ F ?_
   exact bz hn (ct _) ⟨rfl,v,by unfold VStepF;rw[if_neg k7,if_neg k4]⟩
end
end Go.Av
namespace Go.Proofs
open Go.Shelf
def Tryz.lays99_ren:Go.Shelf.Ren:=⟨fun|99=>173|206=>219|n=>n,fun|9=>9|4=>4|3=>3|n=>n,fun|n=>n⟩
theorem Tryz.lays99:Go.Proofs.Lays.n99 Tryz.prog Tryz.lays99_ren:= {
 mixed:=by kernel_rfl
 f99:=Tryz.func173.trans (congrArg some (by kernel_rfl))
 f206:=Tryz.func219.trans (congrArg some (by kernel_rfl))
 t3:=Tryz.underlying3
 a3:=Tryz.isAgg3
 z3:=Tryz.sizeOf3
 v3:=Tryz.zeroValue3
 t4:=Tryz.underlying4
 a4:=Tryz.isAgg4
 z4:=Tryz.sizeOf4
 v4:=Tryz.zeroValue4
 t9:=Tryz.underlying9
 a9:=Tryz.isAgg9
 z9:=Tryz.sizeOf9
 v9:=Tryz.zeroValue9}
open Go.RowKit Go.Lib in
theorem Tryz.strings_HasPrefix(s p:ByteArray)(w:World):
  Calls Tryz.prog 173 #[.string s,.string p] w fun e w'=>e=.returned (.bool (Lib.hasPrefix s.data.toList p.data.toList))∧w'=w:=Any.strings_HasPrefix Tryz.lays99 s p w
def Tryz.lays229_ren:Go.Shelf.Ren:=⟨fun|229=>251|n=>n,fun|9=>9|40=>264|31=>80|152=>283|3=>3|0=>0|4=>4|21=>21|154=>285|n=>n,fun|n=>n⟩
theorem Tryz.lays229:Go.Proofs.Lays.n229 Tryz.prog Tryz.lays229_ren:= {
 mixed:=by kernel_rfl
 f229:=Tryz.func251.trans (congrArg some (by kernel_rfl))
 t0:=Tryz.underlying0
 a0:=Tryz.isAgg0
 z0:=Tryz.sizeOf0
 v0:=Tryz.zeroValue0
 t3:=Tryz.underlying3
 a3:=Tryz.isAgg3
 z3:=Tryz.sizeOf3
 v3:=Tryz.zeroValue3
 t4:=Tryz.underlying4
 a4:=Tryz.isAgg4
 z4:=Tryz.sizeOf4
 v4:=Tryz.zeroValue4
 t9:=Tryz.underlying9
 a9:=Tryz.isAgg9
 z9:=Tryz.sizeOf9
 v9:=Tryz.zeroValue9
 t21:=Tryz.underlying21
 a21:=Tryz.isAgg21
 z21:=Tryz.sizeOf21
 v21:=Tryz.zeroValue21
 t31:=Tryz.underlying80
 a31:=Tryz.isAgg80
 z31:=Tryz.sizeOf80
 v31:=Tryz.zeroValue80
 t40:=Tryz.underlying264
 a40:=Tryz.isAgg264
 z40:=Tryz.sizeOf264
 v40:=Tryz.zeroValue264
 t152:=Tryz.underlying283
 a152:=Tryz.isAgg283
 z152:=Tryz.sizeOf283
 v152:=Tryz.zeroValue283
 t154:=Tryz.underlying285
 a154:=Tryz.isAgg285
 z154:=Tryz.sizeOf285
 v154:=Tryz.zeroValue285}
open Go.RowKit Go.Lib in
theorem Tryz.strings_FieldsFunc(g:Nat)(lb:Array Value)(eg:∀args w,(callFunc g args).run Tryz.prog w=.ok (.enter g args) w)(p:Nat→Bool)(s:ByteArray)(w:World)(hs:s.size≤4294967296)(hp:PredAt Tryz.prog g lb encR p w):
  Calls Tryz.prog 251 #[.string s,.func (.func g) #[] lb] w fun e w'=>∃A,e=.returned (.slice (some ⟨A,0,none⟩) (Lib.goFieldsP p s).length (Lib.goFieldsP p s).length)∧w.heap.size≤A∧
   w'.ownsRow w.heap.size 9 1 (.slice (some ⟨A,0,none⟩) (Lib.goFieldsP p s).length (Lib.goFieldsP p s).length) (Lib.goFieldsP p s).length ((Lib.goFieldsP p s).map Value.string)∧Below w.heap.size w w':=Any.strings_FieldsFunc Tryz.lays229 g lb eg p s w hs hp (by kernel_rfl) (by kernel_rfl)
def Tryz.laysNm224_ren:Go.Shelf.Ren:=⟨fun|24=>98|n=>n,fun|24=>80|9=>9|3=>3|4=>4|0=>0|n=>n,fun|n=>n⟩
theorem Tryz.laysNm224:Go.Proofs.Lays2.n24 Tryz.prog Tryz.laysNm224_ren:= {
 mixed:=by kernel_rfl
 f24:=Tryz.func98.trans (congrArg some (by kernel_rfl))
 t0:=Tryz.underlying0
 a0:=Tryz.isAgg0
 z0:=Tryz.sizeOf0
 v0:=Tryz.zeroValue0
 t3:=Tryz.underlying3
 a3:=Tryz.isAgg3
 z3:=Tryz.sizeOf3
 v3:=Tryz.zeroValue3
 t4:=Tryz.underlying4
 a4:=Tryz.isAgg4
 z4:=Tryz.sizeOf4
 v4:=Tryz.zeroValue4
 t9:=Tryz.underlying9
 a9:=Tryz.isAgg9
 z9:=Tryz.sizeOf9
 v9:=Tryz.zeroValue9
 t24:=Tryz.underlying80
 a24:=Tryz.isAgg80
 z24:=Tryz.sizeOf80
 v24:=Tryz.zeroValue80
 i9:=by kernel_rfl}
open Go.RowKit Go.Lib Go.Sort in
theorem Tryz.slices_Delete_string(blk off cap i j:Nat)(zs:List (List UInt8))(w:World)(hH:Holds encStr w blk off zs.toArray)(hcap:zs.length≤cap)(hm:cap≤9223372036854775807)(hij:i≤j)(hj:j≤zs.length):
  Calls Tryz.prog 98 #[.slice (some ⟨blk,off,none⟩) zs.length cap,.int .i64 i,.int .i64 j] w fun e w'=>e=.returned (.slice (some ⟨blk,off,none⟩) (zs.length-(j-i)) cap)∧∃q,w'=putRow encStr (Sort.ahead w q) blk off (zs.take i++zs.drop j++List.replicate (j-i) []).toArray:=Any.slices_Delete_string Tryz.laysNm224 blk off cap i j zs w hH hcap hm hij hj
end Go.Proofs
namespace Go.Av
open Go Go.Proofs Go.RowKit Go.Shelf Go.Lib
def letF(r:Nat):Bool:=
 if r<192 then(decide (97≤r)&&decide (r≤122))||(decide (48≤r)&&decide (r≤57))
 else !(decide (r=215)||decide (r=247)||decide (r=65533))&& !((decide (8192≤r)&&decide (r≤8303))||(decide (12288≤r)&&decide (r≤12351)))
set_option maxHeartbeats 4000000 in
theorem mt(W:World)(r:Nat):Calls Tryz.prog 254 #[encR r] W fun e w'=>e=.returned (.bool (letF r))∧∃q,w'=W.drewN q:=by
 by_cases h0:r<192
 ·by_cases h1:97≤r<;>by_cases h2:r≤122<;>by_cases h3:48≤r<;>by_cases h4:r≤57
  all_goals first| (exfalso;omega)|skip
  all_goals
   have z0:(r:Int)<192↔r<192:=by omega
   have z1:(97:Int)≤(r:Int)↔97≤r:=by omega
   have z2:(r:Int)≤122↔r≤122:=by omega
   have z3:(48:Int)≤(r:Int)↔48≤r:=by omega
   have z4:(r:Int)≤57↔r≤57:=by omega
   go_enter Tryz.func254,Tryz.ntmps254
   go_wp2
   all_goals first| (exfalso;omega)| (go_ret;exact⟨by simp[letF,h0,h1,h2,h3,h4],0,rfl⟩)
 ·by_cases h1:r=215
  ·subst h1
   go_enter Tryz.func254,Tryz.ntmps254
   go_wp2
   all_goals first| (exfalso;omega)| (go_ret;exact⟨by simp[letF],0,rfl⟩)
  by_cases h2:r=247
  ·subst h2
   go_enter Tryz.func254,Tryz.ntmps254
   go_wp2
   all_goals first| (exfalso;omega)| (go_ret;exact⟨by simp[letF],0,rfl⟩)
  by_cases h3:r=65533
  ·subst h3
   go_enter Tryz.func254,Tryz.ntmps254
   go_wp2
   all_goals first| (exfalso;omega)| (go_ret;exact⟨by simp[letF],0,rfl⟩)
  by_cases h4:8192≤r<;>by_cases h5:r≤8303<;>by_cases h6:12288≤r<;>by_cases h7:r≤12351
  all_goals first| (exfalso;omega)|skip
  all_goals
   have z0:(r:Int)<192↔r<192:=by omega
   have z1:(r:Int)=215↔r=215:=by omega
   have z2:(r:Int)=247↔r=247:=by omega
   have z3:(r:Int)=65533↔r=65533:=by omega
   have z4:(8192:Int)≤(r:Int)↔8192≤r:=by omega
   have z5:(r:Int)≤8303↔r≤8303:=by omega
   have z6:(12288:Int)≤(r:Int)↔12288≤r:=by omega
   have z7:(r:Int)≤12351↔r≤12351:=by omega
   go_enter Tryz.func254,Tryz.ntmps254
   go_wp2
   all_goals first| (exfalso;omega)| (exfalso;simp only[beq_iff_eq]at *;omega)| (go_ret;exact⟨by simp[letF,h0,h1,h2,h3,h4,h5,h6,h7],0,rfl⟩)
set_option maxHeartbeats 4000000 in
theorem r7(w:World):PredAt Tryz.prog 253 #[] encR (fun r=> !letF r) w:=fun W r _=>by
 unfold FnGives
 have hL:=mt
 go_enter Tryz.func253,Tryz.ntmps253
 go_wp2_with (go_at_call 254;refine(hL _ _).mono ?_;rintro e w' ⟨rfl,q,rfl⟩)
 go_ret
 exact⟨rfl,_,rfl⟩
end Go.Av
namespace Go.Av
open Go Go.Proofs Go.RowKit
variable (G:Nat→Option (List AVal))
theorem mu(x:AVal)(h:Heap):Sat (CT G) 288 [x] h (fun r h'=>r=x∧h'=h):=by
 refine Sat.of_extern (fn:=Tryz.f288) (ex:=Extern.AbiNoEscape.same) Tryz.func288 (by kernel_rfl) (by kernel_rfl) (by kernel_rfl) (by kernel_rfl) fun B S μ w vs f r=>?_
 obtain⟨hl,hr⟩:=r
 match vs,hl,hr with
 | [v],_,hr=>
  refine⟨v,w,Lib.run_noEscape w v,x,h,S,μ,⟨rfl,rfl⟩,Step.refl _ _ _ _,f,?_⟩
  simpa using hr 0 x rfl
end Go.Av
namespace Go.Av
open Go Go.Proofs Go.RowKit
variable (G:Nat→Option (List AVal))
theorem pz{w w':World}(e:w'=w):Below w.heap.size w w':=by rw[e];exact Below.refl _ _
end Go.Av
namespace Go.Av
open Go Go.Proofs Go.RowKit
variable (G:Nat→Option (List AVal))
variable {G}
variable (G)
theorem lr(s p:Bs)(h:Heap):
  Sat (CT G) 173 [.str s,.str p] h (fun r h'=>r=.bool (Lib.hasPrefix s p)∧h'=h):=by
 refine Sat.of_calls (fn:=Tryz.f173) Tryz.func173 (by kernel_rfl) (by kernel_rfl) rfl rfl fun B S μ w f=>?_
 refine(Tryz.strings_HasPrefix ⟨s.toArray⟩ ⟨p.toArray⟩ w).mono fun e w' ⟨h1,h2⟩=>⟨h1,pz h2⟩
end Go.Av
namespace Go.Av
open Go Go.Proofs Go.RowKit
attribute [local irreducible] WP WPl WPix Sat
variable (G:Nat→Option (List AVal))
def bytA(b:UInt8):AVal:=.int .u8 b.toNat
def bldR(a:AVal)(q v:Nat)(s:Bs):Blk:=.row 288 2 0 [.agg [a,.hs q v 0 s.length true]]
def bufR(v:Nat)(s:Bs):Blk:=.row 5 1 v (s.map bytA)
def bldA(a:AVal)(p:Nat):Prop:=a=.nil (.pointer none)∨a=.hp p 0 0 0
theorem g9(s:Bs):bytesA (s.map bytA)=some s:=by
 induction s with
 |nil=>rfl
 |cons b s ih=>
  have hb:(UInt8.ofNat (b.toNat:Int).toNat)=b:=by simp
  simp only[List.map_cons,bytA,bytesA,hb,if_true]
  show(bytesA (s.map bytA)).map _=_
  rw[ih];rfl
@[go_sem] theorem zO(a:AVal)(q v:Nat)(s:Bs)(l:Heap):getRow (bldR a q v s::l) 0 0=some (288,2,[.agg [a,.hs q v 0 s.length true]]):=rfl
theorem bt(v:Nat)(s:Bs)(l:Heap):getRow (bufR v s::l) 0 v=some (5,1,s.map bytA):=by simp[getRow,bufR]
theorem pA:ptrConv Tryz.prog 286 300 288 2=true:=by kernel_rfl
theorem mw:ptrConv Tryz.prog 300 286 288 2=true:=by kernel_rfl
theorem wY:ptrT Tryz.prog 286=true:=by kernel_rfl
attribute [go_sem] pA mw
theorem vm(n p q v:Nat)(s:Bs)(hp:p<n)(hq:q<n):CloB n (bldR (.hp p 0 0 0) q v s):=by
 intro r hr
 simp only[List.mem_singleton]at hr
 subst hr
 refine .agg _ fun c hc=>?_
 simp only[List.mem_cons,List.mem_nil_iff,or_false]at hc
 rcases hc with rfl|rfl
 ·exact .hp _ _ _ _ hp
 ·exact .hs _ _ _ _ _ hq
theorem ki(n v:Nat)(s:Bs):CloB n (bufR v s):=by
 intro r hr
 obtain⟨b,_,rfl⟩:=List.mem_map.1 hr
 exact .int _ _
theorem tw(h:Heap)(p:Nat)(hr:(getRow h p 0).isSome=true):abin Tryz.prog h .neq 286 (.hp p 0 0 0) (.hp p 0 0 0)=some (.bool false):=by
 simp[abin,hr,wY]
theorem r8(h:Heap)(p:Nat)(x:TypeId×Nat×List AVal)(hr:getRow h p 0=some x):abin Tryz.prog h .eql 286 (.hp p 0 0 0) (.nil (.pointer none))=some (.bool false):=by
 have hk:nilKind Tryz.prog 286 (.pointer none)=true:=by kernel_rfl
 simp[abin,hk,aeqNil,hr]
theorem vn(h:Heap):abin Tryz.prog h .eql 286 (.nil (.pointer none)) (.nil (.pointer none))=some (.bool true):=by
 have hk:nilKind Tryz.prog 286 (.pointer none)=true:=by kernel_rfl
 simp[abin,hk,aeqNil]
theorem zP{h j:Heap}{x y x' y':Blk}{n:Nat}(hx:CloB n x')(hy:CloB n y'):∀(p:Nat) (k:Blk),(h++x'::y'::j)[p]? =some k→(h++x::y::j)[p]? =some k∨CloB n k:=by
 intro p k hk
 rcases Nat.lt_or_ge p h.length with h1|h1
 ·rw[List.getElem?_append_left h1]at hk ⊢;exact .inl hk
 ·rw[List.getElem?_append_right h1]at hk ⊢
  match p-h.length,hk with
  |0,hk=>simp at hk;subst hk;exact .inr hx
  |1,hk=>simp at hk;subst hk;exact .inr hy
  |i+2,hk=>exact .inl (by simpa using hk)
def bldH(h j:Heap)(a:AVal)(v:Nat)(s:Bs):Heap:=h++bldR a (h.length+1) v s::bufR v s::j
theorem cD(h j:Heap)(a:AVal)(v:Nat)(s:Bs):(bldH h j a v s).length=h.length+(2+j.length):=by simp[bldH];omega
theorem gP(h j:Heap)(a:AVal)(v v':Nat)(s s':Bs):∀(p:Nat) (k:Blk),(bldH h j (.hp h.length 0 0 0) v' s')[p]? =some k→(bldH h j a v s)[p]? =some k∨CloB (bldH h j a v s).length k:=by
 rw[cD]
 exact zP (vm _ _ _ _ _ (by omega) (by omega)) (ki _ _ _)
theorem gx(a:AVal)(h j:Heap)(v:Nat)(s:Bs)(ha:bldA a h.length):
  Sat (CT G) 284 [.hp h.length 0 0 0] (bldH h j a v s) (fun r h'=>r=.tup []∧h'=bldH h j (.hp h.length 0 0 0) v s):=by
 have hK:=gP h j a v v s s
 have hl:=(cD h j (.hp h.length 0 0 0) v s).trans (cD h j a v s).symm
 have hfin:∀t',Fin (bldH h j a v s) (bldH h j (.hp h.length 0 0 0) v s) (fun r h'=>r=.tup []∧h'=bldH h j (.hp h.length 0 0 0) v s) t'∨True:=fun _=>.inr trivial
 have end_:Fin (bldH h j a v s) (bldH h j (.hp h.length 0 0 0) v s) (fun r h'=>r=.tup []∧h'=bldH h j (.hp h.length 0 0 0) v s) (.tup []):=Fin.keep0 hl hK (.tup _ (by simp)) ⟨rfl,rfl⟩
 clear hfin hK hl
 unfold bldH at*
 refine sb [] (fn:=Tryz.f284) Tryz.func284 ?_
 intro Q hQ
 (repeat (first|refine w1 (fun K hK=>?_)|refine w2 ?_|refine w3 ?_| ((first|refine w4 ?_|refine wD ?_|refine w5 ?_|refine w6 ?_|refine w7 ?_);try refine ft trivial ?_)| (refine w8 ?_;refine ft trivial ?_;refine w9 ?_)| ((first|refine hK _ _ (w0 ?_)| (clear hK K;refine hK _ _ (w0 ?_))| (clear hK K;clear hK K;refine hK _ _ (w0 ?_)));clear hK K)))
 rcases ha with rfl|rfl
 ·rw[qD,vn]
  simp(disch:=first|omega| (simp only[go_sem, ↓reduceIte,Nat.reduceEqDiff];done)|fail) only[go_sem, ↓reduceIte,Int.reduceToNat,Int.reduceLE,Int.reduceLT,Int.reduceSub,Int.reduceAdd,Nat.reduceEqDiff,Nat.reduceAdd,Nat.reduceLeDiff,Nat.reduceLT,Nat.reduceMul,Nat.reduceSub]
  (repeat (first|refine w1 (fun K hK=>?_)|refine w2 ?_|refine w3 ?_| ((first|refine w4 ?_|refine wD ?_|refine w5 ?_|refine w6 ?_|refine w7 ?_);try refine ft trivial ?_)| (refine w8 ?_;refine ft trivial ?_;refine w9 ?_)| ((first|refine hK _ _ (w0 ?_)| (clear hK K;refine hK _ _ (w0 ?_))| (clear hK K;clear hK K;refine hK _ _ (w0 ?_)));clear hK K)))
  refine⟨by simp,?_⟩
  refine(mu G _ _).mono ?_
  rintro r h' ⟨rfl,rfl⟩
  simp(disch:=first|omega| (simp only[go_sem, ↓reduceIte,Nat.reduceEqDiff];done)|fail) only[go_sem, ↓reduceIte,Int.reduceToNat,Int.reduceLE,Int.reduceLT,Int.reduceSub,Int.reduceAdd,Nat.reduceEqDiff,Nat.reduceAdd,Nat.reduceLeDiff,Nat.reduceLT,Nat.reduceMul,Nat.reduceSub,List.cons_ne_nil]
  refine(hQ _ _ ?_).2
  simp(disch:=first|omega| (simp only[go_sem, ↓reduceIte,Nat.reduceEqDiff];done)|fail) only[go_sem, ↓reduceIte,Int.reduceToNat,Int.reduceLE,Int.reduceLT,Int.reduceSub,Int.reduceAdd,Nat.reduceEqDiff,Nat.reduceAdd,Nat.reduceLeDiff,Nat.reduceLT,Nat.reduceMul,Nat.reduceSub]
  exact end_
 ·rw[sP,r8 _ _ _ (by simp(disch:=first|omega| (simp only[go_sem, ↓reduceIte,Nat.reduceEqDiff];done)|fail) only[go_sem, ↓reduceIte,Int.reduceToNat,Int.reduceLE,Int.reduceLT,Int.reduceSub,Int.reduceAdd,Nat.reduceEqDiff,Nat.reduceAdd,Nat.reduceLeDiff,Nat.reduceLT,Nat.reduceMul,Nat.reduceSub];rfl)]
  simp(disch:=first|omega| (simp only[go_sem, ↓reduceIte,Nat.reduceEqDiff];done)|fail) only[go_sem, ↓reduceIte,Int.reduceToNat,Int.reduceLE,Int.reduceLT,Int.reduceSub,Int.reduceAdd,Nat.reduceEqDiff,Nat.reduceAdd,Nat.reduceLeDiff,Nat.reduceLT,Nat.reduceMul,Nat.reduceSub]
  (repeat (first|refine w1 (fun K hK=>?_)|refine w2 ?_|refine w3 ?_| ((first|refine w4 ?_|refine wD ?_|refine w5 ?_|refine w6 ?_|refine w7 ?_);try refine ft trivial ?_)| (refine w8 ?_;refine ft trivial ?_;refine w9 ?_)| ((first|refine hK _ _ (w0 ?_)| (clear hK K;refine hK _ _ (w0 ?_))| (clear hK K;clear hK K;refine hK _ _ (w0 ?_)));clear hK K)))
  rw[tw _ _ (by exact fu trivial)]
  simp(disch:=first|omega| (simp only[go_sem, ↓reduceIte,Nat.reduceEqDiff];done)|fail) only[go_sem, ↓reduceIte,Int.reduceToNat,Int.reduceLE,Int.reduceLT,Int.reduceSub,Int.reduceAdd,Nat.reduceEqDiff,Nat.reduceAdd,Nat.reduceLeDiff,Nat.reduceLT,Nat.reduceMul,Nat.reduceSub]
  (repeat (first|refine w1 (fun K hK=>?_)|refine w2 ?_|refine w3 ?_| ((first|refine w4 ?_|refine wD ?_|refine w5 ?_|refine w6 ?_|refine w7 ?_);try refine ft trivial ?_)| (refine w8 ?_;refine ft trivial ?_;refine w9 ?_)| ((first|refine hK _ _ (w0 ?_)| (clear hK K;refine hK _ _ (w0 ?_))| (clear hK K;clear hK K;refine hK _ _ (w0 ?_)));clear hK K)))
  refine(hQ _ _ ?_).2
  simp(disch:=first|omega| (simp only[go_sem, ↓reduceIte,Nat.reduceEqDiff];done)|fail) only[go_sem, ↓reduceIte,Int.reduceToNat,Int.reduceLE,Int.reduceLT,Int.reduceSub,Int.reduceAdd,Nat.reduceEqDiff,Nat.reduceAdd,Nat.reduceLeDiff,Nat.reduceLT,Nat.reduceMul,Nat.reduceSub]
  exact end_
theorem d9:byT Tryz.prog 5=some 1:=by kernel_rfl
theorem cI(h:Heap)(es:List AVal):elemsOf h 1 (.sl 1 es)=some es:=by simp[elemsOf]
theorem fC:(zroT Tryz.prog 5).map (fun z=>z.cells.length)=some 1:=by simp only[go_sem]
theorem lu(a:AVal)(h j:Heap)(v:Nat)(s:Bs)(b:UInt8)(ha:bldA a h.length)(hs:s.length+1≤1073741824):
  Sat (CT G) 280 [.hp h.length 0 0 0,.int .u8 b.toNat] (bldH h j a v s) (fun r h'=>r=.nil .nilIface∧h'=bldH h j (.hp h.length 0 0 0) (v+1) (s++[b])):=by
 have end_:Fin (bldH h j a v s) (bldH h j (.hp h.length 0 0 0) (v+1) (s++[b])) (fun r h'=>r=.nil .nilIface∧h'=bldH h j (.hp h.length 0 0 0) (v+1) (s++[b])) (.nil .nilIface):=
  Fin.keep0 ((cD ..).trans (cD ..).symm) (gP _ _ _ _ _ _ _) (.nil _) ⟨rfl,rfl⟩
 refine sb [.tmp 4] (fn:=Tryz.f280) Tryz.func280 ?_
 intro Q hQ
 refine bN trivial ?_
 refine(gx G a h j v s ha).mono ?_
 rintro r h' ⟨rfl,rfl⟩
 unfold bldH at*
 try refine ft trivial ?_
 refine bN trivial ?_
 refine br (.inl rfl) (by exact fu trivial) (by exact fu trivial) d9 fC (by omega) (cI _ _) (by simp(disch:=first|omega| (simp only[go_sem, ↓reduceIte,Nat.reduceEqDiff];done)|fail) only[go_sem, ↓reduceIte,Int.reduceToNat,Int.reduceLE,Int.reduceLT,Int.reduceSub,Int.reduceAdd,Nat.reduceEqDiff,Nat.reduceAdd,Nat.reduceLeDiff,Nat.reduceLT,Nat.reduceMul,Nat.reduceSub,bt];rfl) (by simp) ?_ ?_
 ·simp[maxLen];omega
 simp(disch:=first|omega| (simp only[go_sem, ↓reduceIte,Nat.reduceEqDiff];done)|fail) only[go_sem, ↓reduceIte,Int.reduceToNat,Int.reduceLE,Int.reduceLT,Int.reduceSub,Int.reduceAdd,Nat.reduceEqDiff,Nat.reduceAdd,Nat.reduceLeDiff,Nat.reduceLT,Nat.reduceMul,Nat.reduceSub]
 refine bN trivial ?_
 refine iv hQ trivial ?_
 simp only[bldR,bufR,List.length_append,List.map_append,List.length_cons,List.length_nil,List.map_cons,List.map_nil,bytA,Nat.zero_add]at end_ ⊢
 exact end_
theorem vr(a:AVal)(h j:Heap)(v:Nat)(s:Bs):Sat (CT G) 278 [.hp h.length 0 0 0] (bldH h j a v s) (fun r h'=>r=.int .i64 s.length∧h'=bldH h j a v s):=by
 have end_:Fin (bldH h j a v s) (bldH h j a v s) (fun r h'=>r=.int .i64 s.length∧h'=bldH h j a v s) (.int .i64 s.length):=Fin.same (.int _ _) ⟨rfl,rfl⟩
 unfold bldH at*
 have F:= @bt
 refine sb [.tmp 2] (fn:=Tryz.f278) Tryz.func278 ?_
 intro Q hQ
 refine bN F ?_
 refine bN F ?_
 refine iv hQ F ?_
 exact end_
theorem wZ:bptr Tryz.prog 299 5=true:=by kernel_rfl
theorem jr(a:AVal)(h j:Heap)(v:Nat)(s:Bs):Sat (CT G) 274 [.hp h.length 0 0 0] (bldH h j a v s) (fun r h'=>r=.str s∧∃b,h'=h++bldR a (h.length+1) v s::b::j):=by
 unfold bldH
 have F:= @bt
 refine sb [.tmp 2] (fn:=Tryz.f274) Tryz.func274 ?_
 intro Q hQ
 refine bN F ?_
 have fin:∀b,Fin (h++bldR a (h.length+1) v s::bufR v s::j) (h++bldR a (h.length+1) v s::b::j) (fun r h'=>r=.str s∧∃b,h'=h++bldR a (h.length+1) v s::b::j) (.str s)∨¬(b=bufR v s∨b=.dead):=fun b=>by
  by_cases hb:b=bufR v s∨b=.dead
  ·refine .inl (Fin.keep0 (by simp) (fun p k hk=>?_) (.str _) ⟨rfl,b,rfl⟩)
   rcases Nat.lt_or_ge p h.length with h1|h1
   ·rw[List.getElem?_append_left h1]at hk ⊢;exact .inl hk
   ·rw[List.getElem?_append_right h1]at hk ⊢
    match p-h.length,hk with
    |0,hk=>exact .inl (by simpa using hk)
    |1,hk=>
     simp at hk;subst hk
     rcases hb with rfl|rfl
     ·exact .inl (by simp)
     ·exact .inr trivial
    |i+2,hk=>exact .inl (by simpa using hk)
  ·exact .inr hb
 rcases Nat.eq_zero_or_pos s.length with h0|h0
 ·have hs:s=[]:=List.length_eq_zero_iff.1 h0
  subst hs
  simp(disch:=first|omega| (simp only[go_sem, ↓reduceIte,Nat.reduceEqDiff];done)|fail) only[go_sem, ↓reduceIte,Int.reduceToNat,Int.reduceLE,Int.reduceLT,Int.reduceSub,Int.reduceAdd,Nat.reduceEqDiff,Nat.reduceAdd,Nat.reduceLeDiff,Nat.reduceLT,Nat.reduceMul,Nat.reduceSub,F,List.length_nil,Nat.lt_irrefl,Int.natCast_zero]
  refine bN F ?_
  refine iv hQ F ?_
  rcases fin (bufR v [])with f|f
  ·exact f
  ·exact absurd (.inl rfl) f
 ·simp(disch:=first|omega| (simp only[go_sem, ↓reduceIte,Nat.reduceEqDiff];done)|fail) only[go_sem, ↓reduceIte,Int.reduceToNat,Int.reduceLE,Int.reduceLT,Int.reduceSub,Int.reduceAdd,Nat.reduceEqDiff,Nat.reduceAdd,Nat.reduceLeDiff,Nat.reduceLT,Nat.reduceMul,Nat.reduceSub,F,h0]
  refine sQ h0 (by simp(disch:=first|omega| (simp only[go_sem, ↓reduceIte,Nat.reduceEqDiff];done)|fail) only[go_sem, ↓reduceIte,Int.reduceToNat,Int.reduceLE,Int.reduceLT,Int.reduceSub,Int.reduceAdd,Nat.reduceEqDiff,Nat.reduceAdd,Nat.reduceLeDiff,Nat.reduceLT,Nat.reduceMul,Nat.reduceSub,F];rfl) wZ (by simp) (by rw[List.take_of_length_le (by simp)];exact g9 s) ?_
  try refine ft F ?_
  refine bN F ?_
  refine iv hQ F ?_
  rcases fin .dead with f|f
  ·exact f
  ·exact absurd (.inr rfl) f
end Go.Av
