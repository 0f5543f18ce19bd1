/- The document's dates of the web. -/
import Derived.Shelf.SlIterI.Nil
import Derived.Shelf.SlIter.Nil
import Derived.Ground.GgzProg
import Derived.Shelf.Spec.SlicesInsert
import Derived.Shelf.Spec.SlicesInsertGrow
import Derived.Shelf.Spec.SearchS
import Derived.Test.YtjfjncmgclaokaaGreatDoorMtDr4
import Derived.RangeFuncLeaves
import Derived.RangeFuncRecord
set_option linter.unusedSimpArgs false
set_option linter.unusedVariables false
set_option linter.unusedSectionVars false
set_option linter.unnecessarySimpa false
set_option maxRecDepth 100000
set_option maxHeartbeats 16000000
namespace Go.Proofs
open Go.Shelf
def Tryz.keys90_ren:Go.Shelf.Ren:=⟨fun|7=>90|10=>150|n=>n,fun|23=>98|26=>3|3=>95|28=>157|0=>0|27=>156|33=>153|4=>4|n=>n,fun|n=>n⟩
theorem Tryz.keys90:Go.Proofs.SlLaysZI.n7 Tryz.prog Tryz.keys90_ren:= {
 mixed:=by kernel_rfl
 f7:=⟨Tryz.f90.name,by decide,Tryz.func90.trans (congrArg some (by kernel_rfl))⟩
 f10:=⟨Tryz.f150.name,by decide,Tryz.func150.trans (congrArg some (by kernel_rfl))⟩
 t0:=Tryz.underlying0
 a0:=Tryz.isAgg0
 z0:=Tryz.sizeOf0
 v0:=Tryz.zeroValue0
 t4:=Tryz.underlying4
 a4:=Tryz.isAgg4
 z4:=Tryz.sizeOf4
 v4:=Tryz.zeroValue4
 t23:=Tryz.underlying98
 a23:=Tryz.isAgg98
 z23:=Tryz.sizeOf98
 v23:=Tryz.zeroValue98
 t26:=Tryz.underlying3
 a26:=Tryz.isAgg3
 z26:=Tryz.sizeOf3
 v26:=Tryz.zeroValue3
 t27:=Tryz.underlying156
 a27:=Tryz.isAgg156
 z27:=Tryz.sizeOf156
 v27:=Tryz.zeroValue156
 t28:=Tryz.underlying157
 a28:=Tryz.isAgg157
 z28:=Tryz.sizeOf157
 v28:=Tryz.zeroValue157
 t33:=Tryz.underlying153
 a33:=Tryz.isAgg153
 z33:=Tryz.sizeOf153
 v33:=Tryz.zeroValue153}
def Tryz.keys91_ren:Go.Shelf.Ren:=⟨fun|7=>91|10=>151|n=>n,fun|23=>99|26=>3|3=>69|28=>157|0=>0|27=>156|33=>153|4=>4|n=>n,fun|n=>n⟩
theorem Tryz.keys91:Go.Proofs.SlLaysZI.n7 Tryz.prog Tryz.keys91_ren:= {
 mixed:=by kernel_rfl
 f7:=⟨Tryz.f91.name,by decide,Tryz.func91.trans (congrArg some (by kernel_rfl))⟩
 f10:=⟨Tryz.f151.name,by decide,Tryz.func151.trans (congrArg some (by kernel_rfl))⟩
 t0:=Tryz.underlying0
 a0:=Tryz.isAgg0
 z0:=Tryz.sizeOf0
 v0:=Tryz.zeroValue0
 t4:=Tryz.underlying4
 a4:=Tryz.isAgg4
 z4:=Tryz.sizeOf4
 v4:=Tryz.zeroValue4
 t23:=Tryz.underlying99
 a23:=Tryz.isAgg99
 z23:=Tryz.sizeOf99
 v23:=Tryz.zeroValue99
 t26:=Tryz.underlying3
 a26:=Tryz.isAgg3
 z26:=Tryz.sizeOf3
 v26:=Tryz.zeroValue3
 t27:=Tryz.underlying156
 a27:=Tryz.isAgg156
 z27:=Tryz.sizeOf156
 v27:=Tryz.zeroValue156
 t28:=Tryz.underlying157
 a28:=Tryz.isAgg157
 z28:=Tryz.sizeOf157
 v28:=Tryz.zeroValue157
 t33:=Tryz.underlying153
 a33:=Tryz.isAgg153
 z33:=Tryz.sizeOf153
 v33:=Tryz.zeroValue153}
def Tryz.keys92_ren:Go.Shelf.Ren:=⟨fun|7=>92|10=>152|n=>n,fun|23=>100|26=>3|3=>64|28=>157|0=>0|27=>156|33=>153|4=>4|n=>n,fun|n=>n⟩
theorem Tryz.keys92:Go.Proofs.SlLaysZI.n7 Tryz.prog Tryz.keys92_ren:= {
 mixed:=by kernel_rfl
 f7:=⟨Tryz.f92.name,by decide,Tryz.func92.trans (congrArg some (by kernel_rfl))⟩
 f10:=⟨Tryz.f152.name,by decide,Tryz.func152.trans (congrArg some (by kernel_rfl))⟩
 t0:=Tryz.underlying0
 a0:=Tryz.isAgg0
 z0:=Tryz.sizeOf0
 v0:=Tryz.zeroValue0
 t4:=Tryz.underlying4
 a4:=Tryz.isAgg4
 z4:=Tryz.sizeOf4
 v4:=Tryz.zeroValue4
 t23:=Tryz.underlying100
 a23:=Tryz.isAgg100
 z23:=Tryz.sizeOf100
 v23:=Tryz.zeroValue100
 t26:=Tryz.underlying3
 a26:=Tryz.isAgg3
 z26:=Tryz.sizeOf3
 v26:=Tryz.zeroValue3
 t27:=Tryz.underlying156
 a27:=Tryz.isAgg156
 z27:=Tryz.sizeOf156
 v27:=Tryz.zeroValue156
 t28:=Tryz.underlying157
 a28:=Tryz.isAgg157
 z28:=Tryz.sizeOf157
 v28:=Tryz.zeroValue157
 t33:=Tryz.underlying153
 a33:=Tryz.isAgg153
 z33:=Tryz.sizeOf153
 v33:=Tryz.zeroValue153}
def Tryz.keys93_ren:Go.Shelf.Ren:=⟨fun|7=>93|10=>153|n=>n,fun|23=>101|26=>3|3=>97|28=>157|0=>0|27=>156|33=>153|4=>4|n=>n,fun|n=>n⟩
theorem Tryz.keys93:Go.Proofs.SlLaysZI.n7 Tryz.prog Tryz.keys93_ren:= {
 mixed:=by kernel_rfl
 f7:=⟨Tryz.f93.name,by decide,Tryz.func93.trans (congrArg some (by kernel_rfl))⟩
 f10:=⟨Tryz.f153.name,by decide,Tryz.func153.trans (congrArg some (by kernel_rfl))⟩
 t0:=Tryz.underlying0
 a0:=Tryz.isAgg0
 z0:=Tryz.sizeOf0
 v0:=Tryz.zeroValue0
 t4:=Tryz.underlying4
 a4:=Tryz.isAgg4
 z4:=Tryz.sizeOf4
 v4:=Tryz.zeroValue4
 t23:=Tryz.underlying101
 a23:=Tryz.isAgg101
 z23:=Tryz.sizeOf101
 v23:=Tryz.zeroValue101
 t26:=Tryz.underlying3
 a26:=Tryz.isAgg3
 z26:=Tryz.sizeOf3
 v26:=Tryz.zeroValue3
 t27:=Tryz.underlying156
 a27:=Tryz.isAgg156
 z27:=Tryz.sizeOf156
 v27:=Tryz.zeroValue156
 t28:=Tryz.underlying157
 a28:=Tryz.isAgg157
 z28:=Tryz.sizeOf157
 v28:=Tryz.zeroValue157
 t33:=Tryz.underlying153
 a33:=Tryz.isAgg153
 z33:=Tryz.sizeOf153
 v33:=Tryz.zeroValue153}
def Tryz.sorted89_ren:Go.Shelf.Ren:=⟨fun|6=>89|8=>148|9=>149|11=>204|13=>206|12=>205|23=>256|24=>257|14=>247|15=>248|16=>249|17=>250|18=>251|19=>252|20=>253|21=>254|22=>255|25=>293|26=>294|27=>295|28=>296|29=>297|30=>298|31=>316|n=>n,fun|26=>3|28=>157|24=>154|0=>0|3=>3|37=>243|48=>259|50=>272|4=>4|40=>264|39=>263|45=>58|5=>5|9=>9|51=>289|55=>293|57=>303|58=>304|33=>153|n=>n,fun|n=>n⟩
theorem Tryz.sorted89:Go.Proofs.SlLaysZI.n6 Tryz.prog Tryz.sorted89_ren:= {
 mixed:=by kernel_rfl
 f6:=⟨Tryz.f89.name,by decide,Tryz.func89.trans (congrArg some (by kernel_rfl))⟩
 f8:=⟨Tryz.f148.name,by decide,Tryz.func148.trans (congrArg some (by kernel_rfl))⟩
 f11:=⟨Tryz.f204.name,by decide,Tryz.func204.trans (congrArg some (by kernel_rfl))⟩
 t0:=Tryz.underlying0
 a0:=Tryz.isAgg0
 z0:=Tryz.sizeOf0
 v0:=Tryz.zeroValue0
 t24:=Tryz.underlying154
 a24:=Tryz.isAgg154
 z24:=Tryz.sizeOf154
 v24:=Tryz.zeroValue154
 t26:=Tryz.underlying3
 a26:=Tryz.isAgg3
 z26:=Tryz.sizeOf3
 v26:=Tryz.zeroValue3
 t28:=Tryz.underlying157
 a28:=Tryz.isAgg157
 z28:=Tryz.sizeOf157
 v28:=Tryz.zeroValue157
 i26:=by kernel_rfl}
def Tryz.sort149_ren:Go.Shelf.Ren:=⟨fun|5=>149|8=>206|7=>205|19=>256|20=>257|10=>247|11=>248|12=>249|13=>250|14=>251|15=>252|16=>253|17=>254|18=>255|30=>293|31=>294|32=>295|33=>296|34=>297|35=>298|40=>316|n=>n,fun|23=>154|25=>3|3=>3|32=>243|22=>154|0=>0|44=>259|46=>272|4=>4|36=>264|35=>263|41=>58|5=>5|9=>9|53=>289|57=>293|63=>303|64=>304|n=>n,fun|n=>n⟩
theorem Tryz.sort149:Go.Proofs.SlLaysM.n5 Tryz.prog Tryz.sort149_ren:= {
 mixed:=by kernel_rfl
 f5:=⟨Tryz.f149.name,by decide,Tryz.func149.trans (congrArg some (by kernel_rfl))⟩
 f7:=⟨Tryz.f205.name,by decide,Tryz.func205.trans (congrArg some (by kernel_rfl))⟩
 f8:=Tryz.func206.trans (congrArg some (by kernel_rfl))
 f10:=⟨Tryz.f247.name,by decide,Tryz.func247.trans (congrArg some (by kernel_rfl))⟩
 f11:=⟨Tryz.f248.name,by decide,Tryz.func248.trans (congrArg some (by kernel_rfl))⟩
 f12:=⟨Tryz.f249.name,by decide,Tryz.func249.trans (congrArg some (by kernel_rfl))⟩
 f13:=⟨Tryz.f250.name,by decide,Tryz.func250.trans (congrArg some (by kernel_rfl))⟩
 f14:=⟨Tryz.f251.name,by decide,Tryz.func251.trans (congrArg some (by kernel_rfl))⟩
 f15:=⟨Tryz.f252.name,by decide,Tryz.func252.trans (congrArg some (by kernel_rfl))⟩
 f16:=⟨Tryz.f253.name,by decide,Tryz.func253.trans (congrArg some (by kernel_rfl))⟩
 f17:=⟨Tryz.f254.name,by decide,Tryz.func254.trans (congrArg some (by kernel_rfl))⟩
 f18:=⟨Tryz.f255.name,by decide,Tryz.func255.trans (congrArg some (by kernel_rfl))⟩
 f19:=Tryz.func256.trans (congrArg some (by kernel_rfl))
 f20:=Tryz.func257.trans (congrArg some (by kernel_rfl))
 f30:=⟨Tryz.f293.name,by decide,Tryz.func293.trans (congrArg some (by kernel_rfl))⟩
 f31:=Tryz.func294.trans (congrArg some (by kernel_rfl))
 f32:=Tryz.func295.trans (congrArg some (by kernel_rfl))
 f33:=⟨Tryz.f296.name,by decide,Tryz.func296.trans (congrArg some (by kernel_rfl))⟩
 f34:=⟨Tryz.f297.name,by decide,Tryz.func297.trans (congrArg some (by kernel_rfl))⟩
 f35:=⟨Tryz.f298.name,by decide,Tryz.func298.trans (congrArg some (by kernel_rfl))⟩
 f40:=⟨Tryz.f316.name,by decide,Tryz.func316.trans (congrArg some (by kernel_rfl))⟩
 t0:=Tryz.underlying0
 a0:=Tryz.isAgg0
 z0:=Tryz.sizeOf0
 v0:=Tryz.zeroValue0
 t3:=Tryz.underlying3
 a3:=Tryz.isAgg3
 z3:=Tryz.sizeOf3
 v3:=Tryz.zeroValue3
 t4:=Tryz.underlying4
 a4:=Tryz.isAgg4
 z4:=Tryz.sizeOf4
 v4:=Tryz.zeroValue4
 t5:=Tryz.underlying5
 a5:=Tryz.isAgg5
 z5:=Tryz.sizeOf5
 v5:=Tryz.zeroValue5
 t9:=Tryz.underlying9
 a9:=Tryz.isAgg9
 z9:=Tryz.sizeOf9
 v9:=Tryz.zeroValue9
 t22:=Tryz.underlying154
 a22:=Tryz.isAgg154
 z22:=Tryz.sizeOf154
 v22:=Tryz.zeroValue154
 t23:=Tryz.underlying154
 a23:=Tryz.isAgg154
 z23:=Tryz.sizeOf154
 v23:=Tryz.zeroValue154
 t25:=Tryz.underlying3
 a25:=Tryz.isAgg3
 z25:=Tryz.sizeOf3
 v25:=Tryz.zeroValue3
 t32:=Tryz.underlying243
 a32:=Tryz.isAgg243
 z32:=Tryz.sizeOf243
 v32:=Tryz.zeroValue243
 t35:=Tryz.underlying263
 a35:=Tryz.isAgg263
 z35:=Tryz.sizeOf263
 v35:=Tryz.zeroValue263
 t36:=Tryz.underlying264
 a36:=Tryz.isAgg264
 z36:=Tryz.sizeOf264
 v36:=Tryz.zeroValue264
 t41:=Tryz.underlying58
 a41:=Tryz.isAgg58
 z41:=Tryz.sizeOf58
 v41:=Tryz.zeroValue58
 t44:=Tryz.underlying259
 a44:=Tryz.isAgg259
 z44:=Tryz.sizeOf259
 v44:=Tryz.zeroValue259
 t46:=Tryz.underlying272
 a46:=Tryz.isAgg272
 z46:=Tryz.sizeOf272
 v46:=Tryz.zeroValue272
 t53:=Tryz.underlying289
 a53:=Tryz.isAgg289
 z53:=Tryz.sizeOf289
 v53:=Tryz.zeroValue289
 t57:=Tryz.underlying293
 a57:=Tryz.isAgg293
 z57:=Tryz.sizeOf293
 v57:=Tryz.zeroValue293
 t63:=Tryz.underlying303
 a63:=Tryz.isAgg303
 z63:=Tryz.sizeOf303
 v63:=Tryz.zeroValue303
 t64:=Tryz.underlying304
 a64:=Tryz.isAgg304
 z64:=Tryz.sizeOf304
 v64:=Tryz.zeroValue304}
open Go.RowKit Go.Maps Go.Sort in
theorem Tryz.sorts89(m:Nat):AnyZI.SortsIn Tryz.prog Tryz.sorted89_ren Fence.wide m:=
 ⟨fun blk off cap ss W hH hblk hsz=>callsIn_wide.2 (AnyM.slices_Sort_int Tryz.sort149 blk off cap ss W hH hblk hsz),
 fun p cap W=>callsIn_wide.2 (AnyM.slices_Sort_int_none Tryz.sort149 p cap W)⟩
open Go.RowKit Go.Maps Go.Sort in
theorem Tryz.sortedKeys90{H:Type}(Bm b nn:Nat)(D0:DataW H)(R:Value→Option (DataW H×List MemPlace))(w:World)(hBm:Bm<w.heap.size)(hm:w.cell? ⟨Bm,0,none⟩=some (.map (some b)))(hown:w.ownsMap Tryz.prog 3 R b nn D0)(hmax:Maps.size D0≤maxLen)(hbytes:Maps.size D0*8≤140737488355328):
  Calls Tryz.prog 89 #[.func (.func 150) #[] #[.pointer (some ⟨Bm,0,none⟩)]] w fun e w'=>∃(v:Value) (ss:List Int),e=.returned v∧ss.Perm (intKeys D0)∧
   w'.ownsRow w.heap.size 3 1 v ss.length ((ss.mergeSort (fun x y=>decide (x≤y))).map encZ)∧(v=.slice none 0 0↔ss=[])∧Below w.heap.size w w':=by
 refine(callsIn_wide (n:=5)).1 ?_
 have hseq:SeqGives Fence.wide 2 Tryz.prog 150 #[.pointer (some ⟨Bm,0,none⟩)] encZ (fun ss=>ss.Perm (intKeys D0)) (Maps.size D0) w:=
  AnyZI.keys_gives (ρ:=Tryz.keys90_ren) {Tryz.keys90 with} Fence.wide _ trivial rfl (by omega) Bm b nn D0 w hBm hm hown
 exact AnyZI.sorted_in Tryz.sorted89 Fence.wide 5 trivial trivial trivial trivial rfl (by omega) (Tryz.sorts89 _) (enters_of Tryz.func149 (by kernel_rfl) rfl) 150 #[.pointer (some ⟨Bm,0,none⟩)] trivial (enters_of Tryz.func150 (by kernel_rfl) rfl) _ _ hmax hbytes _ hseq
open Go.RowKit Go.Maps Go.Sort in
theorem Tryz.sortedKeys91{H:Type}(Bm b nn:Nat)(D0:DataW H)(R:Value→Option (DataW H×List MemPlace))(w:World)(hBm:Bm<w.heap.size)(hm:w.cell? ⟨Bm,0,none⟩=some (.map (some b)))(hown:w.ownsMap Tryz.prog 3 R b nn D0)(hmax:Maps.size D0≤maxLen)(hbytes:Maps.size D0*8≤140737488355328):
  Calls Tryz.prog 89 #[.func (.func 151) #[] #[.pointer (some ⟨Bm,0,none⟩)]] w fun e w'=>∃(v:Value) (ss:List Int),e=.returned v∧ss.Perm (intKeys D0)∧
   w'.ownsRow w.heap.size 3 1 v ss.length ((ss.mergeSort (fun x y=>decide (x≤y))).map encZ)∧(v=.slice none 0 0↔ss=[])∧Below w.heap.size w w':=by
 refine(callsIn_wide (n:=5)).1 ?_
 have hseq:SeqGives Fence.wide 2 Tryz.prog 151 #[.pointer (some ⟨Bm,0,none⟩)] encZ (fun ss=>ss.Perm (intKeys D0)) (Maps.size D0) w:=
  AnyZI.keys_gives (ρ:=Tryz.keys91_ren) {Tryz.keys91 with} Fence.wide _ trivial rfl (by omega) Bm b nn D0 w hBm hm hown
 exact AnyZI.sorted_in Tryz.sorted89 Fence.wide 5 trivial trivial trivial trivial rfl (by omega) (Tryz.sorts89 _) (enters_of Tryz.func149 (by kernel_rfl) rfl) 151 #[.pointer (some ⟨Bm,0,none⟩)] trivial (enters_of Tryz.func151 (by kernel_rfl) rfl) _ _ hmax hbytes _ hseq
open Go.RowKit Go.Maps Go.Sort in
theorem Tryz.sortedKeys92{H:Type}(Bm b nn:Nat)(D0:DataW H)(R:Value→Option (DataW H×List MemPlace))(w:World)(hBm:Bm<w.heap.size)(hm:w.cell? ⟨Bm,0,none⟩=some (.map (some b)))(hown:w.ownsMap Tryz.prog 3 R b nn D0)(hmax:Maps.size D0≤maxLen)(hbytes:Maps.size D0*8≤140737488355328):
  Calls Tryz.prog 89 #[.func (.func 152) #[] #[.pointer (some ⟨Bm,0,none⟩)]] w fun e w'=>∃(v:Value) (ss:List Int),e=.returned v∧ss.Perm (intKeys D0)∧
   w'.ownsRow w.heap.size 3 1 v ss.length ((ss.mergeSort (fun x y=>decide (x≤y))).map encZ)∧(v=.slice none 0 0↔ss=[])∧Below w.heap.size w w':=by
 refine(callsIn_wide (n:=5)).1 ?_
 have hseq:SeqGives Fence.wide 2 Tryz.prog 152 #[.pointer (some ⟨Bm,0,none⟩)] encZ (fun ss=>ss.Perm (intKeys D0)) (Maps.size D0) w:=
  AnyZI.keys_gives (ρ:=Tryz.keys92_ren) {Tryz.keys92 with} Fence.wide _ trivial rfl (by omega) Bm b nn D0 w hBm hm hown
 exact AnyZI.sorted_in Tryz.sorted89 Fence.wide 5 trivial trivial trivial trivial rfl (by omega) (Tryz.sorts89 _) (enters_of Tryz.func149 (by kernel_rfl) rfl) 152 #[.pointer (some ⟨Bm,0,none⟩)] trivial (enters_of Tryz.func152 (by kernel_rfl) rfl) _ _ hmax hbytes _ hseq
open Go.RowKit Go.Maps Go.Sort in
theorem Tryz.sortedKeys93{H:Type}(Bm b nn:Nat)(D0:DataW H)(R:Value→Option (DataW H×List MemPlace))(w:World)(hBm:Bm<w.heap.size)(hm:w.cell? ⟨Bm,0,none⟩=some (.map (some b)))(hown:w.ownsMap Tryz.prog 3 R b nn D0)(hmax:Maps.size D0≤maxLen)(hbytes:Maps.size D0*8≤140737488355328):
  Calls Tryz.prog 89 #[.func (.func 153) #[] #[.pointer (some ⟨Bm,0,none⟩)]] w fun e w'=>∃(v:Value) (ss:List Int),e=.returned v∧ss.Perm (intKeys D0)∧
   w'.ownsRow w.heap.size 3 1 v ss.length ((ss.mergeSort (fun x y=>decide (x≤y))).map encZ)∧(v=.slice none 0 0↔ss=[])∧Below w.heap.size w w':=by
 refine(callsIn_wide (n:=5)).1 ?_
 have hseq:SeqGives Fence.wide 2 Tryz.prog 153 #[.pointer (some ⟨Bm,0,none⟩)] encZ (fun ss=>ss.Perm (intKeys D0)) (Maps.size D0) w:=
  AnyZI.keys_gives (ρ:=Tryz.keys93_ren) {Tryz.keys93 with} Fence.wide _ trivial rfl (by omega) Bm b nn D0 w hBm hm hown
 exact AnyZI.sorted_in Tryz.sorted89 Fence.wide 5 trivial trivial trivial trivial rfl (by omega) (Tryz.sorts89 _) (enters_of Tryz.func149 (by kernel_rfl) rfl) 153 #[.pointer (some ⟨Bm,0,none⟩)] trivial (enters_of Tryz.func153 (by kernel_rfl) rfl) _ _ hmax hbytes _ hseq
def Tryz.lays2_22_ren:Go.Shelf.Ren:=⟨fun|22=>99|29=>157|30=>158|36=>217|17=>261|n=>n,fun|24=>62|9=>9|3=>3|4=>4|0=>0|n=>n,fun|n=>n⟩
theorem Tryz.lays2_22:Go.Proofs.Lays2.n22 Tryz.prog Tryz.lays2_22_ren:= {
 mixed:=by kernel_rfl
 f17:=Tryz.func261.trans (congrArg some (by kernel_rfl))
 f22:=Tryz.func99.trans (congrArg some (by kernel_rfl))
 f29:=Tryz.func157.trans (congrArg some (by kernel_rfl))
 f30:=Tryz.func158.trans (congrArg some (by kernel_rfl))
 f36:=Tryz.func217.trans (congrArg some (by kernel_rfl))
 t0:=Tryz.underlying0
 a0:=Tryz.isAgg0
 z0:=Tryz.sizeOf0
 v0:=Tryz.zeroValue0
 t3:=Tryz.underlying3
 a3:=Tryz.isAgg3
 z3:=Tryz.sizeOf3
 v3:=Tryz.zeroValue3
 t4:=Tryz.underlying4
 a4:=Tryz.isAgg4
 z4:=Tryz.sizeOf4
 v4:=Tryz.zeroValue4
 t9:=Tryz.underlying9
 a9:=Tryz.isAgg9
 z9:=Tryz.sizeOf9
 v9:=Tryz.zeroValue9
 t24:=Tryz.underlying62
 a24:=Tryz.isAgg62
 z24:=Tryz.sizeOf62
 v24:=Tryz.zeroValue62
 i9:=by kernel_rfl}
def Tryz.lays2_26_ren:Go.Shelf.Ren:=⟨fun|26=>156|33=>215|34=>216|38=>260|n=>n,fun|24=>62|9=>9|3=>3|4=>4|40=>243|0=>0|n=>n,fun|n=>n⟩
theorem Tryz.lays2_26:Go.Proofs.Lays2.n26 Tryz.prog Tryz.lays2_26_ren:= {
 mixed:=by kernel_rfl
 f26:=Tryz.func156.trans (congrArg some (by kernel_rfl))
 f33:=Tryz.func215.trans (congrArg some (by kernel_rfl))
 f34:=Tryz.func216.trans (congrArg some (by kernel_rfl))
 f38:=Tryz.func260.trans (congrArg some (by kernel_rfl))
 t0:=Tryz.underlying0
 a0:=Tryz.isAgg0
 z0:=Tryz.sizeOf0
 v0:=Tryz.zeroValue0
 t3:=Tryz.underlying3
 a3:=Tryz.isAgg3
 z3:=Tryz.sizeOf3
 v3:=Tryz.zeroValue3
 t4:=Tryz.underlying4
 a4:=Tryz.isAgg4
 z4:=Tryz.sizeOf4
 v4:=Tryz.zeroValue4
 t9:=Tryz.underlying9
 a9:=Tryz.isAgg9
 z9:=Tryz.sizeOf9
 v9:=Tryz.zeroValue9
 t24:=Tryz.underlying62
 a24:=Tryz.isAgg62
 z24:=Tryz.sizeOf62
 v24:=Tryz.zeroValue62
 t40:=Tryz.underlying243
 a40:=Tryz.isAgg243
 z40:=Tryz.sizeOf243
 v40:=Tryz.zeroValue243}
end Go.Proofs
namespace Go.Av
open Go Go.Proofs Go.RowKit
end Go.Av
namespace Go.Av
open Go Go.Proofs Go.RowKit
end Go.Av
namespace Go.Av
open Go Go.Proofs Go.RowKit
attribute [local irreducible] WP WPl WPix Sat
variable (G:Nat→Option (List AVal))
theorem qH(n a b:Int)(h:Heap):Sat (CT G) 193 [.int .i64 n,.int .i64 a,.int .i64 b] h (fun r h'=>r=.bool (decide (a≤n)&&decide (n≤b))∧h'=h):=by
 by_cases k:a≤n
 ·have k2:decide (n≥a)=true:=by simpa using k
  have F:=k2
  refine sb [.tmp 6] (fn:=Tryz.f193) Tryz.func193 ?_
  intro Q hQ
  refine wk F ?_
  refine ee hQ F ?_
  exact Fin.same (.bool _) ⟨by simp[k],rfl⟩
 ·have k2:decide (n≥a)=false:=by simpa using k
  have F:=k2
  refine sb [.tmp 6] (fn:=Tryz.f193) Tryz.func193 ?_
  intro Q hQ
  refine wk F ?_
  refine ee hQ F ?_
  exact Fin.same (.bool _) ⟨by simp[k],rfl⟩
end Go.Av
namespace Go.Av
open Go.RowKit
section
variable {C:Ctx} {B n m:Nat} {S:Addr→Prop} {μ:Map} {h:Heap} {w:World} {t:Env} {a:Act} {ds:List Deferred}
theorem eS{α:Type}{l:List α}{p:Nat}{x:α}(h:l[p]? =some x):l.set p x=l:=by
 obtain⟨hlt,rfl⟩:=List.getElem?_eq_some_iff.1 h
 exact List.set_getElem_self hlt
theorem cH(w:World)(b:Nat)(o:Obj):Only w (w.putObj b o) (some b):=
 ⟨rfl,rfl,rfl,by simp,fun k _ hne=>World.putObj_heap_other fun e=>hne (by rw[e])⟩
theorem Fits.turn(f:Fits C B S μ h w){p l k:Nat}{t:Env}{ps:Array Tmp}{ass body:Code}{st:LoopState}{pe:Option Code}(hh:h[p]? =some (.lp l k t ps ass body st pe)):
  ∃(fn:FuncId) (D:Nat) (tmps:Array Value),w.heap[l]? =some (.loop {state:=st,pending:=pe,fn,tmps,params:=ps,assign:=ass,body,defers:=D})∧tmps.size=k∧(∀i,i<k→Rep w S μ (t i) (tmps.getD i undef))∧
   (∀st' pe',Fits C B S μ (h.set p (.lp l k t ps ass body st' pe')) (w.putObj l (.loop {state:=st',pending:=pe',fn,tmps,params:=ps,assign:=ass,body,defers:=D}))∧
    Step B S μ w S μ (w.putObj l (.loop {state:=st',pending:=pe',fn,tmps,params:=ps,assign:=ass,body,defers:=D})))∧
   ∀o,Fits C B S μ (h.set p .dead) (w.putObj l o)∧Step B S μ w S μ (w.putObj l o):=by
 have hlt:p<μ.length:=by rw[f.len];exact(List.getElem?_eq_some_iff.1 hh).1
 have hm:=List.getElem?_eq_getElem hlt
 obtain⟨hv,hb,fn,D,tmps,h1,h2,h3⟩:=f.blk p _ _ hm hh
 have hll:=(f.own p _ l hm hb).2.1
 refine⟨fn,D,tmps,h1,h2,h3,fun st' pe'=>?_,fun o=>?_⟩
 ·have st0:=ba f hm (hb▸cH w l (.loop {state:=st',pending:=pe',fn,tmps,params:=ps,assign:=ass,body,defers:=D})) (MapLe.refl μ)
  have:=f.update (k':=.lp l k t ps ass body st' pe') hm (hb▸cH w l (.loop {state:=st',pending:=pe',fn,tmps,params:=ps,assign:=ass,body,defers:=D})) (Nat.le_refl _) (fun _=>rfl) (.inl rfl)
   ⟨hv,hb,fn,D,tmps,World.putObj_heap_same hll,h2,fun i hi=>by rw[eS hm];exact(h3 i hi).mono st0⟩
  rwa [eS hm]at this
 ·have:=f.update (k':=.dead) hm (hb▸cH w l o) (Nat.le_refl _) (fun _=>rfl) (.inl rfl) trivial
  rwa [eS hm]at this
def roundQ(p l k:Nat)(t:Env)(ps:Array Tmp)(ass body:Code)(R:AVal→Heap→Prop):Exit→Env→Heap→Prop:=fun e _ h2=>h2[p]? =some (.lp l k t ps ass body .busy none)∧(match e with
 | .normal=>R (.bool true) (h2.set p (.lp l k t ps ass body .ready none))
 | .ret=>R (.bool false) (h2.set p (.lp l k t ps ass body .done (some .ret)))
 | .exit id=>R (.bool false) (h2.set p (.lp l k t ps ass body .done (some (.exit id))))
 |_=>False)
theorem SatY.round{l k p q:Nat}{t:Env}{ass body:Code}{x:AVal}{R:AVal→Heap→Prop}(hh:h[p]? =some (.lp l k t #[q] ass body .ready none))
  (ho1:okCode k ass=true)(ho2:okCode k body=true)(hf1:flat ass=true)(hf2:flat body=true)
  (hw:WP C ass (fun e t1 h1=>e=.normal∧h1[p]? =some (.lp l k t #[q] ass body .ready none)∧WP C body (roundQ p l k t #[q] ass body R) t1 (h1.set p (.lp l k t #[q] ass body .busy none))) (upd t q x) h):SatY C l [x] h R:=by
 intro B S μ w vs f rl
 obtain⟨fn,D,tmps,h1,h2,h3,_,_⟩:=f.turn hh
 obtain⟨v,rfl⟩:∃v,vs=[v]:=by have:=rl.1;match vs,this with| [v],_=>exact⟨v,rfl⟩
 have hx:Rep w S μ x v:=by simpa using rl.2 0 x rfl
 rw[run_yield h1 (by simp)]
 intro m
 refine roundIn_of_wpIn trivial ?_
 have renv:REnv k w S μ (upd t q x) {tmps:=(Array.zip #[q] [v].toArray).foldl (fun tmps (t,a)=>tmps.setIfInBounds t a) tmps,defers:=[]}:=by
  refine⟨by simp[h2],rfl,fun i hi=>?_⟩
  have e0:(Array.zip #[q] [v].toArray).foldl (fun tmps (t,a)=>tmps.setIfInBounds t a) tmps=tmps.setIfInBounds q v:=by simp
  simp only[e0,upd]
  have hs:i<tmps.size:=by omega
  split
  ·rename_i e;subst e
   simpa [Array.getD_eq_getD_getElem?,hs]using hx
  ·rename_i e
   have:=h3 i hi
   simpa [Array.getD_eq_getD_getElem?,Array.getElem?_setIfInBounds_ne (show q≠i from fun e'=>e e'.symm)]using this
 refine wpIn_mono (bX (ρ:=some l) (ds:=[]) ass ho1 (.inr hf1) (Step.refl B S μ w) f renv hw) fun e a1 w1 hp=>?_
 obtain⟨t1,h1',S1,μ1,⟨rfl,hh1,hb⟩,st1,f1,r1⟩:=hp
 obtain⟨fn1,D1,tmps1,g1,g2,g3,g4,_⟩:=f1.turn hh1
 refine⟨_,run_beginRound g1 rfl,?_⟩
 obtain⟨f2,st2⟩:=g4 .busy none
 refine wpIn_mono (bX (ρ:=some l) (ds:=[]) body ho2 (.inr hf2) (st1.trans st2) f2 (r1.mono st2) hb) fun e a3 w3 hp=>?_
 obtain⟨t3,h3',S3,μ3,⟨hh3,hq⟩,st3,f3,r3⟩:=hp
 obtain⟨fn3,D3,tmps3,k1,k2,k3,k4,_⟩:=f3.turn hh3
 have fin:∀(j:Option Code),R (.bool j.isNone) (h3'.set p (.lp l k t #[q] ass body (if j.isNone then .ready else .done) j))→
   ∃v w',(Instr.endRound l j).run C.P w3=.ok v w'∧∃u,Ending.returned v=Ending.returned u∧OpPost C B S μ w R u w':=fun j hR=>by
  obtain⟨f4,st4⟩:=k4 (if j.isNone then .ready else .done) j
  exact⟨_,_,run_endRound j k1,_,rfl,_,_,_,_,hR,st3.trans st4,f4,.bool _⟩
 cases e with
 |normal=>exact fin none hq
 |ret=>exact fin (some .ret) hq
 |exit id=>exact fin (some (.exit id)) hq
 |_=>exact hq.elim
theorem SatY.roundQ{l k p q:Nat}{t:Env}{ass body:Code}{x:AVal}{R:AVal→Heap→Prop}(hh:h[p]? =some (.lp l k t #[q] ass body .ready none))
  (ho1:okCode k ass=true)(ho2:okCode k body=true)(hf1:flat ass=true)(hf2:flat body=true)
  (hw:∀Q1:Exit→Env→Heap→Prop,(∀t1 h1,h1[p]? =some (.lp l k t #[q] ass body .ready none)→
   (∀Q2:Exit→Env→Heap→Prop,(∀t2 h2,h2[p]? =some (.lp l k t #[q] ass body .busy none)→R (.bool true) (h2.set p (.lp l k t #[q] ass body .ready none))→Q2 .normal t2 h2)→
    (∀id t2 h2,h2[p]? =some (.lp l k t #[q] ass body .busy none)→R (.bool false) (h2.set p (.lp l k t #[q] ass body .done (some (.exit id))))→Q2 (.exit id) t2 h2)→WP C body Q2 t1 (h1.set p (.lp l k t #[q] ass body .busy none)))→Q1 .normal t1 h1)→WP C ass Q1 (upd t q x) h):SatY C l [x] h R:=
 SatY.round hh ho1 ho2 hf1 hf2 (hw _ fun _ _ g1 g2=>⟨rfl,g1,g2 _ (fun _ _ a b=>⟨a,b⟩) fun _ _ _ a b=>⟨a,b⟩⟩)
def mark(D:Nat):Deferred:= {target:=.collected D,args:= #[]}
def PostM(C:Ctx)(B n:Nat)(S:Addr→Prop)(μ:Map)(w:World)(p:Nat)(Q:Exit→Env→Heap→Prop):Exit→Act→World→Prop:=fun e a' w'=>
 ∃D t' h' S' μ' k,Q e t' h'∧Step B S μ w S' μ' w'∧Fits C B S' μ' h' w'∧REnv n w' S' μ' t' a' [mark D]∧μ'[p]? =some k∧(k.ver=0→k.blk=some D)
def PostE(C:Ctx)(B n:Nat)(S:Addr→Prop)(μ:Map)(w:World)(p:Nat)(Q0 Q1:Exit→Env→Heap→Prop):Exit→Act→World→Prop:=fun e a' w'=>
 Post C B n S μ w Q0 [] e a' w'∨PostM C B n S μ w p Q1 e a' w'
def MJ(C:Ctx)(n p:Nat)(Q:Exit→Env→Heap→Prop)(c:Code)(t:Env)(h:Heap):Prop:=∀m B S0 μ0 w0 S μ w a D k,Step B S0 μ0 w0 S μ w→Fits C B S μ h w→REnv n w S μ t a [mark D]→μ[p]? =some k→(k.ver=0→k.blk=some D)→
 c.wpIn (WF none) m C.P (PostM C B n S0 μ0 w0 p Q) a w
def EJ(C:Ctx)(n p:Nat)(Q0 Q1:Exit→Env→Heap→Prop)(c:Code)(t:Env)(h:Heap):Prop:=∀m B S0 μ0 w0 S μ w a,Step B S0 μ0 w0 S μ w→Fits C B S μ h w→REnv n w S μ t a []→
 c.wpIn (WF none) m C.P (PostE C B n S0 μ0 w0 p Q0 Q1) a w
variable {p:Nat} {Q Q0 Q1:Exit→Env→Heap→Prop} {c d:Code}
theorem MJ.wp(ho:okCode n c=true)(hw:WP C c Q t h):MJ C n p Q c t h:=fun m B S0 μ0 w0 S μ w a D k st f r hk hD=>
 wpIn_mono (bX (ρ:=none) c ho (.inl rfl) (Step.refl B S μ w) f r hw) fun e a' w' ⟨t',h',S',μ',hq,st',f',r'⟩=>by
  obtain⟨k',h1,h2,h3⟩:=st'.map p k hk
  exact⟨D,t',h',S',μ',k',hq,st.trans st',f',r',h1,fun e=>by have:=h3 (by omega);subst this;exact hD e⟩
theorem EJ.seq1(ho:okCode n c=true)(hw:∀KK:Env→Heap→Prop,(∀t h,Wkn C (wr c) t h (fun t h=>EJ C n p Q0 Q1 d t h)→KK t h)→WP C c (thenQ KK Q0) t h):EJ C n p Q0 Q1 (.seq c d) t h:=fun m B S0 μ0 w0 S μ w a st f r=>
 wpIn_seq (wpIn_mono (bX (ρ:=none) c ho (.inl rfl) st f r (hw _ fun _ _ g=>g)) fun e a' w' ⟨t',h',S',μ',hq,st',f',r'⟩=>by
  cases e with
  |normal=>
   obtain⟨t1,h1,hw,hq⟩:=hq
   obtain⟨S1,μ1,st1,f1,r1⟩:=hw.at f' r'
   exact hq m B S0 μ0 w0 S1 μ1 w' a' (st'.trans st1) f1 r1
  |_=>exact .inl ⟨t',h',S',μ',hq,st',f',r'⟩)
theorem EJ.seq2(hw:EJ C n p (thenQ (fun t h=>EJ C n p Q0 Q1 d t h) Q0) (thenQ (fun t h=>MJ C n p Q1 d t h) Q1) c t h):EJ C n p Q0 Q1 (.seq c d) t h:=fun m B S0 μ0 w0 S μ w a st f r=>
 wpIn_seq (wpIn_mono (hw m B S0 μ0 w0 S μ w a st f r) fun e a' w' hp=>by
  rcases hp with⟨t',h',S',μ',hq,st',f',r'⟩| ⟨D,t',h',S',μ',k,hq,st',f',r',hk,hD⟩
  ·cases e with
   |normal=>exact hq m B S0 μ0 w0 S' μ' w' a' st' f' r'
   |_=>exact .inl ⟨t',h',S',μ',hq,st',f',r'⟩
  ·cases e with
   |normal=>exact wpIn_mono (hq m B S0 μ0 w0 S' μ' w' a' D k st' f' r' hk hD) fun _ _ _ hp=>.inr hp
   |_=>exact .inr ⟨D,t',h',S',μ',k,hq,st',f',r',hk,hD⟩)
theorem EJ.block{id:Nat}(hw:EJ C n p (blockQ id Q0) (blockQ id Q1) c t h):EJ C n p Q0 Q1 (.block id c) t h:=fun m B S0 μ0 w0 S μ w a st f r=>
 wpIn_block (wpIn_mono (hw m B S0 μ0 w0 S μ w a st f r) fun e a' w' hp=>by
  rcases hp with⟨t',h',S',μ',hq,st',f',r'⟩| ⟨D,t',h',S',μ',k,hq,st',f',r',hk,hD⟩
  ·cases e with
   |exit id'=>
    simp only[blockQ]at hq
    simp only[Exit.inBlock]
    split
    ·rename_i e;rw[if_pos e]at hq;exact .inl ⟨t',h',S',μ',hq,st',f',r'⟩
    ·rename_i e;rw[if_neg e]at hq;exact .inl ⟨t',h',S',μ',hq,st',f',r'⟩
   |_=>exact .inl ⟨t',h',S',μ',hq,st',f',r'⟩
  ·cases e with
   |exit id'=>
    simp only[blockQ]at hq
    simp only[Exit.inBlock]
    split
    ·rename_i e;rw[if_pos e]at hq;exact .inr ⟨D,t',h',S',μ',k,hq,st',f',r',hk,hD⟩
    ·rename_i e;rw[if_neg e]at hq;exact .inr ⟨D,t',h',S',μ',k,hq,st',f',r',hk,hD⟩
   |_=>exact .inr ⟨D,t',h',S',μ',k,hq,st',f',r',hk,hD⟩)
def rangeQ(p l k:Nat)(t:Env)(ps:Array Tmp)(ass body:Code)(Q:Exit→Env→Heap→Prop):AVal→Heap→Prop:=fun _ h'=>
 ∃st pe,h'[p+1]? =some (.lp l k t ps ass body st pe)∧st≠ .busy∧(match pe with
  |none=>Q .normal t (h'.set (p+1) .dead)
  |some .ret=>Q .ret t (h'.set (p+1) .dead)
  |some (.exit id)=>Q (.exit id) t (h'.set (p+1) .dead)
  |_=>False)
theorem EJ.range{g:Operand}{ps:Array Tmp}{ass body:Code}{gf:FuncId}{fn:Func}{cb:Code}{caps:List AVal}(ho:okOpd n g=true)(hg:aev C.G t g=.fn (.func gf) [] caps)(hf:C.P.funcs[gf]? =some fn)(hb:fn.body=some cb)(hname:(fn.name== "runtime.NumGoroutine")=false)
  (hp:p=h.length)(hs:∀l,Sat C gf (.fn (.yield l) [] []::caps) (h++[.df,.lp l n t ps ass body .ready none]) (rangeQ p l n t ps ass body Q1)):EJ C n p Q0 Q1 (.rangeFunc g ps ass body) t h:=by
 intro m B S0 μ0 w0 S μ w a st f r
 refine wpIn_rangeFunc fun fid _=>?_
 have hgv:=dg f r g ho
 rw[hg]at hgv
 generalize hgg:a.eval g=gv at hgv
 cases hgv with
 |fn _ _ _ xv cv hx1 hc1 hx2 hc2=>
 obtain rfl:xv=[]:=List.eq_nil_of_length_eq_zero hx1
 let rec1:Loop:= {state:=.ready,pending:=none,fn:=fid,tmps:=a.tmps,params:=ps,assign:=ass,body,defers:=w.heap.size}
 have f1:Fits C B S (μ++[⟨some w.heap.size,0,1,1⟩]) (h++[.df]) (w.alloc (.deferred (some []))):=f.alloc _ _ .df rfl ⟨rfl,_,rfl,World.alloc_heap_new w _⟩
 have st1:=aG f (.deferred (some [])) ⟨some w.heap.size,0,1,1⟩
 have hsz:(w.alloc (.deferred (some []))).heap.size=w.heap.size+1:=World.size_alloc _ _
 have st2:=aG f1 (.loop rec1) ⟨some (w.heap.size+1),0,1,1⟩
 have f2:Fits C B S (μ++[⟨some w.heap.size,0,1,1⟩]++[⟨some (w.heap.size+1),0,1,1⟩]) (h++[.df]++[.lp (w.heap.size+1) n t ps ass body .ready none]) ((w.alloc (.deferred (some []))).alloc (.loop rec1)):=
  f1.alloc _ _ _ (by rw[hsz]) ⟨rfl,rfl,fid,w.heap.size,a.tmps,by have:=World.alloc_heap_new (w.alloc (.deferred (some []))) (.loop rec1);rw[hsz]at this;exact this,r.1,fun i hi=>((r.2.2 i hi).mono st1).mono st2⟩
 have st12:=st1.trans st2
 rw[List.append_assoc]at st12
 rw[List.append_assoc,List.append_assoc]at f2
 have hcall:∀(args:Array Value) (w:World),(callFunc gf args).run C.P w=.ok (.enter gf args) w:=fun args w=>by
  have hne:fn.name≠ "runtime.NumGoroutine" :=by simpa using hname
  simp[callFunc,hf,hne,hb]
 refine⟨w.heap.size+1,[mark w.heap.size],(w.alloc (.deferred (some []))).alloc (.loop rec1),{target:=.fn (.func gf) cv.toArray,args:= #[.func (.yield (w.heap.size+1)) #[] #[]]},(w.alloc (.deferred (some []))).alloc (.loop rec1),gf,
  #[.func (.yield (w.heap.size+1)) #[] #[]]++cv.toArray,(w.alloc (.deferred (some []))).alloc (.loop rec1),run_enterLoop_outer _ _ _ _ _,?_,fun _ _=>trivial,?_,fun e=>by simp[WF,Fence.wide]at e,?_⟩
 ·simp only[resolve,hgg]
  simp[go_sem]
 ·simp[invoke,go_sem,hcall]
 ·have hsat:=hs (w.heap.size+1) B S _ _ (.func (.yield (w.heap.size+1)) #[] #[]::cv) f2 ⟨by simp[hc1],fun i x hi=>by
   match i with
   |0=>simp at hi;subst hi;exact .fn _ [] [] [] [] rfl rfl (fun i c hi=>by simp at hi) (fun i c hi=>by simp at hi)
   |i+1=>simpa using((hc2 i x (by simpa using hi)).mono st1).mono st2⟩
  rw[hcall]at hsat
  have e0:(#[Value.func (.yield (w.heap.size+1)) #[] #[]]++cv.toArray:Array Value)=(.func (.yield (w.heap.size+1)) #[] #[]::cv).toArray:=by simp
  rw[e0]
  show CallsIn Fence.wide (m-1) C.P _ _ _ _
  refine callsIn_wide.2 (Calls.mono hsat fun e w3 hh=>?_)
  obtain⟨v,rfl,_,h',S',μ',⟨sst,pe,hh1,hbusy,hq⟩,st3,f3,_⟩:=hh
  obtain⟨fn3,D3,tmps3,k1,k2,k3,_,k4⟩:=f3.turn hh1
  have hmark:∃k,μ'[p]? =some k∧(k.ver=0→k.blk=some w.heap.size):=by
   obtain⟨k,g1,g2,g3⟩:=st3.map p ⟨some w.heap.size,0,1,1⟩ (by rw[hp, ← f.len];simp)
   exact⟨k,g1,fun e=>by have:=g3 (by simp[e]);subst this;rfl⟩
  obtain⟨k,hk1,hk2⟩:=hmark
  refine⟨pe,_,run_endLoop k1 hbusy,?_⟩
  obtain⟨f4,st4⟩:=k4 (.loop {state:=.exhausted,pending:=pe,fn:=fn3,tmps:=tmps3,params:=ps,assign:=ass,body:=body,defers:=D3})
  have stF:=(st.trans st12).trans (st3.trans st4)
  have renv:REnv n _ S' μ' t {a with defers:=[mark w.heap.size]++a.defers} [mark w.heap.size]:=⟨r.1,by simp[r.2.1],fun i hi=>(r.2.2 i hi).mono (st12.trans (st3.trans st4))⟩
  match pe,hq with
  |none,hq=>exact .inr ⟨_,t,_,S',μ',k,hq,stF,f4,renv,hk1,hk2⟩
  |some .ret,hq=>exact wpIn_ret (.inr ⟨_,t,_,S',μ',k,hq,stF,f4,renv,hk1,hk2⟩)
  |some (.exit id),hq=>exact wpIn_exit (.inr ⟨_,t,_,S',μ',k,hq,stF,f4,renv,hk1,hk2⟩)
def EQ0(C:Ctx)(fn:Func)(h:Heap)(R:AVal→Heap→Prop):Exit→Env→Heap→Prop:=fun e t' h'=>match e with
 | .normal=>need (resA C t' h' fn.results.toList) (Fin h h' R)
 | .ret=>need (resA C t' h' fn.results.toList) (Fin h h' R)
 |_=>False
def EQ1(C:Ctx)(fn:Func)(h:Heap)(p:Nat)(R:AVal→Heap→Prop):Exit→Env→Heap→Prop:=fun e t' h'=>h'[p]? =some .df∧EQ0 C fn h R e t' (h'.set p .dead)
theorem Fits.shut(f:Fits C B S μ h w){k:MB}{D:Nat}(hh:h[p]? =some .df)(hk:μ[p]? =some k)(hD:k.ver=0→k.blk=some D):
  w.heap[D]? =some (.deferred (some []))∧Fits C B S μ (h.set p .dead) (w.putObj D (.deferred none))∧Step B S μ w S μ (w.putObj D (.deferred none)):=by
 obtain⟨hv,b,hb,hheap⟩:=f.blk p _ _ hk hh
 have e:=hD hv
 rw[hb]at e;cases e
 refine⟨hheap,?_⟩
 have:=f.update (k':=.dead) hk (hb▸cH w D (.deferred none)) (Nat.le_refl _) (fun _=>rfl) (.inl rfl) trivial
 rwa [eS hk]at this
theorem Sat.of_range{f:FuncId}{fn:Func}{c:Code}{args:List AVal}{R:AVal→Heap→Prop}(hf:C.P.funcs[f]? =some fn)(hb:fn.body=some c)(hname:(fn.name== "runtime.NumGoroutine")=false)
  (hres:fn.results.toList.all (okRes fn.ntmps)=true)(hlen:args.length≤fn.ntmps)(hw:EJ C fn.ntmps p (EQ0 C fn h R) (EQ1 C fn h p R) c (env0 args) h):Sat C f args h R:=by
 intro B S μ w vs fit rl
 have hcall:(callFunc f vs.toArray).run C.P w=.ok (.enter f vs.toArray) w:=by
  have hne:fn.name≠ "runtime.NumGoroutine" :=by simpa using hname
  simp[callFunc,hf,hne,hb]
 rw[hcall]
 show Calls C.P f vs.toArray w _
 refine(callsIn_wide (n:=0)).1 (callsIn_of_wp_marks hf hb trivial ?_)
 have renv:=kj (n:=fn.ntmps) rl hlen
 have hres':=List.all_eq_true.1 hres
 refine wpIn_mono (hw 0 B S μ w S μ w _ (Step.refl B S μ w) fit renv) fun e a' w' hp=>?_
 have fin:∀{t' h' S' μ' w'} {a':Act} {ds:List Deferred},Step B S μ w S' μ' w'→Fits C B S' μ' h' w'→REnv fn.ntmps w' S' μ' t' a' ds→need (resA C t' h' fn.results.toList) (Fin h h' R)→∃v,(results fn a'.tmps).run C.P w'=.ok v w'∧
   ∃u,Ending.returned v=Ending.returned u∧OpPost C B S μ w R u w':=fun st fit' renv' hq=>by
  obtain⟨r0,hr0,hF⟩:=ab hq
  obtain⟨v,hv,hrep⟩:=gS fit' renv' hres' hr0
  exact⟨v,hv,v,rfl,hF.post fit st fit' hrep⟩
 rcases hp with⟨t',h',S',μ',hq,st,fit',renv'⟩| ⟨D,t',h',S',μ',k,⟨hdf,hq⟩,st,fit',renv',hk,hD⟩
 ·cases e with
  |normal=>show LeavesInM _ _ _ _ _ _ a'.defers _ _;rw[renv'.2.1];exact fin st fit' renv' hq
  |ret=>show LeavesInM _ _ _ _ _ _ a'.defers _ _;rw[renv'.2.1];exact fin st fit' renv' hq
  |_=>exact hq.elim
 ·obtain⟨g1,g2,g3⟩:=fit'.shut hdf hk hD
  have leave:need (resA C t' (h'.set p .dead) fn.results.toList) (Fin h (h'.set p .dead) R)→LeavesInM (WF none) 0 C.P fn a'.tmps (fun e w''=>∃u,e=.returned u∧OpPost C B S μ w R u w'') a'.defers .returning w':=fun hq=>by
   rw[renv'.2.1]
   exact⟨by simp,.inl ⟨D,_,rfl,run_takeDeferred g1,fin (st.trans g3) g2 (renv'.mono g3) hq⟩⟩
  cases e with
  |normal=>exact leave hq
  |ret=>exact leave hq
  |_=>exact hq.elim
theorem EJ.forget{P:Env→Prop}(hP:P t)(hk:∀t,P t→EJ C n p Q0 Q1 c t h):EJ C n p Q0 Q1 c t h:=hk t hP
theorem Sat.range(rs:List ResultVar){f:FuncId}{fn:Func}{c:Code}{args:List AVal}{R:AVal→Heap→Prop}(p:Nat)(hf:C.P.funcs[f]? =some fn)(hw:∀Q0 Q1:Exit→Env→Heap→Prop,(∀t' h',need (resA C t' h' rs) (Fin h h' R)→Q0 .ret t' h'∧Q0 .normal t' h')→
  (∀t' h',h'[p]? =some .df→need (resA C t' (h'.set p .dead) rs) (Fin h (h'.set p .dead) R)→Q1 .ret t' h'∧Q1 .normal t' h')→EJ C fn.ntmps p Q0 Q1 c (env0 args) h)(hb:fn.body=some c:=by exact rfl)(hrs:fn.results.toList=rs:=by exact rfl)
  (hname:(fn.name== "runtime.NumGoroutine")=false:=by kernel_rfl)(hres:fn.results.toList.all (okRes fn.ntmps)=true:=by kernel_rfl)(hlen:decide (args.length≤fn.ntmps)=true:=by exact rfl):Sat C f args h R:=by
 subst hrs
 exact Sat.of_range hf hb hname hres (of_decide_eq_true hlen) (hw _ _ (fun _ _ g=>⟨g,g⟩) fun _ _ g1 g2=>⟨⟨g1,g2⟩,⟨g1,g2⟩⟩)
end
end Go.Av
namespace Go.Av
open Go Go.Proofs Go.RowKit
attribute [local irreducible] WP WPl WPix Sat
variable (G:Nat→Option (List AVal))
def Dt.av(x:Dt):AVal:=.agg [.int .i64 x.y,.int .i64 x.m,.int .i64 x.d,.int .i64 x.h,.int .i64 x.i,.int .i64 x.s]
end Go.Av
namespace Go.Av
open Go Go.Proofs Go.RowKit
attribute [local irreducible] WP WPl WPix Sat
variable (G:Nat→Option (List AVal))
end Go.Av
namespace Go.Av
open Go Go.Proofs Go.RowKit
def orcX(f:FuncId)(args:List AVal):Option AVal:=match orcL f args with
 |some r=>some r
 |none=>match args with
  | [.int .i32 c]=>if f=269 then some (.bool (beginF c))else if f=268 then some (.bool (moreF c))else none
  |_=>none
variable {G:Nat→Option (List AVal)}
theorem gr(hG:GOk G):OrcOk (CT G) orcX:=by
 intro f args r g h
 unfold orcX at g
 split at g
 ·rename_i e;cases g;exact rF hG f args _ e h
 ·split at g
  ·rename_i c _
   split at g
   ·rename_i e;subst e;cases g;exact iL G c h
   ·split at g
    ·rename_i e;subst e;cases g;exact qf G c h
    ·cases g
  ·cases g
end Go.Av
namespace Go.Av
open Go Go.Proofs Go.RowKit
attribute [local irreducible] WP WPl WPix Sat
variable (G:Nat→Option (List AVal))
end Go.Av
namespace Go.Av
open Go Go.Proofs Go.RowKit
attribute [local irreducible] WP WPl WPix Sat
variable (G:Nat→Option (List AVal))
end Go.Av
namespace Go.Av
open Go Go.Proofs Go.RowKit
attribute [local irreducible] WP WPl WPix Sat
variable (G:Nat→Option (List AVal))
end Go.Av
namespace Go.Av
open Go Go.Proofs Go.RowKit
attribute [local irreducible] WP WPl WPix Sat
variable (G:Nat→Option (List AVal))
end Go.Av
namespace Go.Av
open Go Go.Proofs Go.RowKit
attribute [local irreducible] WP WPl WPix Sat
variable (G:Nat→Option (List AVal))
end Go.Av
namespace Go.Av
open Go Go.Proofs Go.RowKit
attribute [local irreducible] WP WPl WPix Sat
variable (G:Nat→Option (List AVal))
end Go.Av
namespace Go.Av
open Go Go.Proofs Go.RowKit
attribute [local irreducible] WP WPl WPix Sat
variable (G:Nat→Option (List AVal))
end Go.Av
namespace Go.Av
open Go Go.Proofs Go.RowKit
attribute [local irreducible] WP WPl WPix Sat
variable (G:Nat→Option (List AVal))
end Go.Av
namespace Go.Av
open Go Go.Proofs Go.RowKit
attribute [local irreducible] WP WPl WPix Sat
variable (G:Nat→Option (List AVal))
end Go.Av
