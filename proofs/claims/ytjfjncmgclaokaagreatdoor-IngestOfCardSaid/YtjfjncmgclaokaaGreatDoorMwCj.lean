/- Parts. -/
import Derived.Shelf.SlIterI.Nil
import Derived.Shelf.SlIter.Nil
import Derived.Ground.GgzProg
import Derived.Shelf.Spec.SlicesInsert
import Derived.Shelf.Spec.SlicesInsertGrow
import Derived.Shelf.Spec.SearchS
import Derived.Test.YtjfjncmgclaokaaGreatDoorMwInx
set_option linter.unusedSimpArgs false
set_option linter.unusedVariables false
set_option linter.unusedSectionVars false
set_option linter.unnecessarySimpa false
set_option maxRecDepth 100000
set_option maxHeartbeats 16000000
namespace Go.Proofs
open Go.Shelf
def Tryz.keys90_ren:Go.Shelf.Ren:=⟨fun|7=>90|10=>150|n=>n,fun|23=>98|26=>3|3=>95|28=>157|0=>0|27=>156|33=>153|4=>4|n=>n,fun|n=>n⟩
theorem Tryz.keys90:Go.Proofs.SlLaysZI.n7 Tryz.prog Tryz.keys90_ren:= {
 mixed:=by kernel_rfl
 f7:=⟨Tryz.f90.name,by decide,Tryz.func90.trans (L9 some (by kernel_rfl))⟩
 f10:=⟨Tryz.f150.name,by decide,Tryz.func150.trans (L9 some (by kernel_rfl))⟩
 t0:=Tryz.underlying0
 a0:=Tryz.isAgg0
 z0:=Tryz.sizeOf0
 v0:=Tryz.zeroValue0
 t4:=Tryz.underlying4
 a4:=Tryz.isAgg4
 z4:=Tryz.sizeOf4
 v4:=Tryz.zeroValue4
 t23:=Tryz.underlying98
 a23:=Tryz.isAgg98
 z23:=Tryz.sizeOf98
 v23:=Tryz.zeroValue98
 t26:=Tryz.underlying3
 a26:=Tryz.isAgg3
 z26:=Tryz.sizeOf3
 v26:=Tryz.zeroValue3
 t27:=Tryz.underlying156
 a27:=Tryz.isAgg156
 z27:=Tryz.sizeOf156
 v27:=Tryz.zeroValue156
 t28:=Tryz.underlying157
 a28:=Tryz.isAgg157
 z28:=Tryz.sizeOf157
 v28:=Tryz.zeroValue157
 t33:=Tryz.underlying153
 a33:=Tryz.isAgg153
 z33:=Tryz.sizeOf153
 v33:=Tryz.zeroValue153}
def Tryz.keys91_ren:Go.Shelf.Ren:=⟨fun|7=>91|10=>151|n=>n,fun|23=>99|26=>3|3=>69|28=>157|0=>0|27=>156|33=>153|4=>4|n=>n,fun|n=>n⟩
theorem Tryz.keys91:Go.Proofs.SlLaysZI.n7 Tryz.prog Tryz.keys91_ren:= {
 mixed:=by kernel_rfl
 f7:=⟨Tryz.f91.name,by decide,Tryz.func91.trans (L9 some (by kernel_rfl))⟩
 f10:=⟨Tryz.f151.name,by decide,Tryz.func151.trans (L9 some (by kernel_rfl))⟩
 t0:=Tryz.underlying0
 a0:=Tryz.isAgg0
 z0:=Tryz.sizeOf0
 v0:=Tryz.zeroValue0
 t4:=Tryz.underlying4
 a4:=Tryz.isAgg4
 z4:=Tryz.sizeOf4
 v4:=Tryz.zeroValue4
 t23:=Tryz.underlying99
 a23:=Tryz.isAgg99
 z23:=Tryz.sizeOf99
 v23:=Tryz.zeroValue99
 t26:=Tryz.underlying3
 a26:=Tryz.isAgg3
 z26:=Tryz.sizeOf3
 v26:=Tryz.zeroValue3
 t27:=Tryz.underlying156
 a27:=Tryz.isAgg156
 z27:=Tryz.sizeOf156
 v27:=Tryz.zeroValue156
 t28:=Tryz.underlying157
 a28:=Tryz.isAgg157
 z28:=Tryz.sizeOf157
 v28:=Tryz.zeroValue157
 t33:=Tryz.underlying153
 a33:=Tryz.isAgg153
 z33:=Tryz.sizeOf153
 v33:=Tryz.zeroValue153}
def Tryz.keys92_ren:Go.Shelf.Ren:=⟨fun|7=>92|10=>152|n=>n,fun|23=>100|26=>3|3=>64|28=>157|0=>0|27=>156|33=>153|4=>4|n=>n,fun|n=>n⟩
theorem Tryz.keys92:Go.Proofs.SlLaysZI.n7 Tryz.prog Tryz.keys92_ren:= {
 mixed:=by kernel_rfl
 f7:=⟨Tryz.f92.name,by decide,Tryz.func92.trans (L9 some (by kernel_rfl))⟩
 f10:=⟨Tryz.f152.name,by decide,Tryz.func152.trans (L9 some (by kernel_rfl))⟩
 t0:=Tryz.underlying0
 a0:=Tryz.isAgg0
 z0:=Tryz.sizeOf0
 v0:=Tryz.zeroValue0
 t4:=Tryz.underlying4
 a4:=Tryz.isAgg4
 z4:=Tryz.sizeOf4
 v4:=Tryz.zeroValue4
 t23:=Tryz.underlying100
 a23:=Tryz.isAgg100
 z23:=Tryz.sizeOf100
 v23:=Tryz.zeroValue100
 t26:=Tryz.underlying3
 a26:=Tryz.isAgg3
 z26:=Tryz.sizeOf3
 v26:=Tryz.zeroValue3
 t27:=Tryz.underlying156
 a27:=Tryz.isAgg156
 z27:=Tryz.sizeOf156
 v27:=Tryz.zeroValue156
 t28:=Tryz.underlying157
 a28:=Tryz.isAgg157
 z28:=Tryz.sizeOf157
 v28:=Tryz.zeroValue157
 t33:=Tryz.underlying153
 a33:=Tryz.isAgg153
 z33:=Tryz.sizeOf153
 v33:=Tryz.zeroValue153}
def Tryz.keys93_ren:Go.Shelf.Ren:=⟨fun|7=>93|10=>153|n=>n,fun|23=>101|26=>3|3=>97|28=>157|0=>0|27=>156|33=>153|4=>4|n=>n,fun|n=>n⟩
theorem Tryz.keys93:Go.Proofs.SlLaysZI.n7 Tryz.prog Tryz.keys93_ren:= {
 mixed:=by kernel_rfl
 f7:=⟨Tryz.f93.name,by decide,Tryz.func93.trans (L9 some (by kernel_rfl))⟩
 f10:=⟨Tryz.f153.name,by decide,Tryz.func153.trans (L9 some (by kernel_rfl))⟩
 t0:=Tryz.underlying0
 a0:=Tryz.isAgg0
 z0:=Tryz.sizeOf0
 v0:=Tryz.zeroValue0
 t4:=Tryz.underlying4
 a4:=Tryz.isAgg4
 z4:=Tryz.sizeOf4
 v4:=Tryz.zeroValue4
 t23:=Tryz.underlying101
 a23:=Tryz.isAgg101
 z23:=Tryz.sizeOf101
 v23:=Tryz.zeroValue101
 t26:=Tryz.underlying3
 a26:=Tryz.isAgg3
 z26:=Tryz.sizeOf3
 v26:=Tryz.zeroValue3
 t27:=Tryz.underlying156
 a27:=Tryz.isAgg156
 z27:=Tryz.sizeOf156
 v27:=Tryz.zeroValue156
 t28:=Tryz.underlying157
 a28:=Tryz.isAgg157
 z28:=Tryz.sizeOf157
 v28:=Tryz.zeroValue157
 t33:=Tryz.underlying153
 a33:=Tryz.isAgg153
 z33:=Tryz.sizeOf153
 v33:=Tryz.zeroValue153}
def Tryz.sorted89_ren:Go.Shelf.Ren:=⟨fun|6=>89|8=>148|9=>149|11=>204|13=>206|12=>205|23=>256|24=>257|14=>247|15=>248|16=>249|17=>250|18=>251|19=>252|20=>253|21=>254|22=>255|25=>293|26=>294|27=>295|28=>296|29=>297|30=>298|31=>316|n=>n,fun|26=>3|28=>157|24=>154|0=>0|3=>3|37=>243|48=>259|50=>272|4=>4|40=>264|39=>263|45=>58|5=>5|9=>9|51=>289|55=>293|57=>303|58=>304|33=>153|n=>n,fun|n=>n⟩
theorem Tryz.sorted89:Go.Proofs.SlLaysZI.n6 Tryz.prog Tryz.sorted89_ren:= {
 mixed:=by kernel_rfl
 f6:=⟨Tryz.f89.name,by decide,Tryz.func89.trans (L9 some (by kernel_rfl))⟩
 f8:=⟨Tryz.f148.name,by decide,Tryz.func148.trans (L9 some (by kernel_rfl))⟩
 f11:=⟨Tryz.f204.name,by decide,Tryz.func204.trans (L9 some (by kernel_rfl))⟩
 t0:=Tryz.underlying0
 a0:=Tryz.isAgg0
 z0:=Tryz.sizeOf0
 v0:=Tryz.zeroValue0
 t24:=Tryz.underlying154
 a24:=Tryz.isAgg154
 z24:=Tryz.sizeOf154
 v24:=Tryz.zeroValue154
 t26:=Tryz.underlying3
 a26:=Tryz.isAgg3
 z26:=Tryz.sizeOf3
 v26:=Tryz.zeroValue3
 t28:=Tryz.underlying157
 a28:=Tryz.isAgg157
 z28:=Tryz.sizeOf157
 v28:=Tryz.zeroValue157
 i26:=by kernel_rfl}
def Tryz.sort149_ren:Go.Shelf.Ren:=⟨fun|5=>149|8=>206|7=>205|19=>256|20=>257|10=>247|11=>248|12=>249|13=>250|14=>251|15=>252|16=>253|17=>254|18=>255|30=>293|31=>294|32=>295|33=>296|34=>297|35=>298|40=>316|n=>n,fun|23=>154|25=>3|3=>3|32=>243|22=>154|0=>0|44=>259|46=>272|4=>4|36=>264|35=>263|41=>58|5=>5|9=>9|53=>289|57=>293|63=>303|64=>304|n=>n,fun|n=>n⟩
theorem Tryz.sort149:Go.Proofs.SlLaysM.n5 Tryz.prog Tryz.sort149_ren:= {
 mixed:=by kernel_rfl
 f5:=⟨Tryz.f149.name,by decide,Tryz.func149.trans (L9 some (by kernel_rfl))⟩
 f7:=⟨Tryz.f205.name,by decide,Tryz.func205.trans (L9 some (by kernel_rfl))⟩
 f8:=Tryz.func206.trans (L9 some (by kernel_rfl))
 f10:=⟨Tryz.f247.name,by decide,Tryz.func247.trans (L9 some (by kernel_rfl))⟩
 f11:=⟨Tryz.f248.name,by decide,Tryz.func248.trans (L9 some (by kernel_rfl))⟩
 f12:=⟨Tryz.f249.name,by decide,Tryz.func249.trans (L9 some (by kernel_rfl))⟩
 f13:=⟨Tryz.f250.name,by decide,Tryz.func250.trans (L9 some (by kernel_rfl))⟩
 f14:=⟨Tryz.f251.name,by decide,Tryz.func251.trans (L9 some (by kernel_rfl))⟩
 f15:=⟨Tryz.f252.name,by decide,Tryz.func252.trans (L9 some (by kernel_rfl))⟩
 f16:=⟨Tryz.f253.name,by decide,Tryz.func253.trans (L9 some (by kernel_rfl))⟩
 f17:=⟨Tryz.f254.name,by decide,Tryz.func254.trans (L9 some (by kernel_rfl))⟩
 f18:=⟨Tryz.f255.name,by decide,Tryz.func255.trans (L9 some (by kernel_rfl))⟩
 f19:=Tryz.func256.trans (L9 some (by kernel_rfl))
 f20:=Tryz.func257.trans (L9 some (by kernel_rfl))
 f30:=⟨Tryz.f293.name,by decide,Tryz.func293.trans (L9 some (by kernel_rfl))⟩
 f31:=Tryz.func294.trans (L9 some (by kernel_rfl))
 f32:=Tryz.func295.trans (L9 some (by kernel_rfl))
 f33:=⟨Tryz.f296.name,by decide,Tryz.func296.trans (L9 some (by kernel_rfl))⟩
 f34:=⟨Tryz.f297.name,by decide,Tryz.func297.trans (L9 some (by kernel_rfl))⟩
 f35:=⟨Tryz.f298.name,by decide,Tryz.func298.trans (L9 some (by kernel_rfl))⟩
 f40:=⟨Tryz.f316.name,by decide,Tryz.func316.trans (L9 some (by kernel_rfl))⟩
 t0:=Tryz.underlying0
 a0:=Tryz.isAgg0
 z0:=Tryz.sizeOf0
 v0:=Tryz.zeroValue0
 t3:=Tryz.underlying3
 a3:=Tryz.isAgg3
 z3:=Tryz.sizeOf3
 v3:=Tryz.zeroValue3
 t4:=Tryz.underlying4
 a4:=Tryz.isAgg4
 z4:=Tryz.sizeOf4
 v4:=Tryz.zeroValue4
 t5:=Tryz.underlying5
 a5:=Tryz.isAgg5
 z5:=Tryz.sizeOf5
 v5:=Tryz.zeroValue5
 t9:=Tryz.underlying9
 a9:=Tryz.isAgg9
 z9:=Tryz.sizeOf9
 v9:=Tryz.zeroValue9
 t22:=Tryz.underlying154
 a22:=Tryz.isAgg154
 z22:=Tryz.sizeOf154
 v22:=Tryz.zeroValue154
 t23:=Tryz.underlying154
 a23:=Tryz.isAgg154
 z23:=Tryz.sizeOf154
 v23:=Tryz.zeroValue154
 t25:=Tryz.underlying3
 a25:=Tryz.isAgg3
 z25:=Tryz.sizeOf3
 v25:=Tryz.zeroValue3
 t32:=Tryz.underlying243
 a32:=Tryz.isAgg243
 z32:=Tryz.sizeOf243
 v32:=Tryz.zeroValue243
 t35:=Tryz.underlying263
 a35:=Tryz.isAgg263
 z35:=Tryz.sizeOf263
 v35:=Tryz.zeroValue263
 t36:=Tryz.underlying264
 a36:=Tryz.isAgg264
 z36:=Tryz.sizeOf264
 v36:=Tryz.zeroValue264
 t41:=Tryz.underlying58
 a41:=Tryz.isAgg58
 z41:=Tryz.sizeOf58
 v41:=Tryz.zeroValue58
 t44:=Tryz.underlying259
 a44:=Tryz.isAgg259
 z44:=Tryz.sizeOf259
 v44:=Tryz.zeroValue259
 t46:=Tryz.underlying272
 a46:=Tryz.isAgg272
 z46:=Tryz.sizeOf272
 v46:=Tryz.zeroValue272
 t53:=Tryz.underlying289
 a53:=Tryz.isAgg289
 z53:=Tryz.sizeOf289
 v53:=Tryz.zeroValue289
 t57:=Tryz.underlying293
 a57:=Tryz.isAgg293
 z57:=Tryz.sizeOf293
 v57:=Tryz.zeroValue293
 t63:=Tryz.underlying303
 a63:=Tryz.isAgg303
 z63:=Tryz.sizeOf303
 v63:=Tryz.zeroValue303
 t64:=Tryz.underlying304
 a64:=Tryz.isAgg304
 z64:=Tryz.sizeOf304
 v64:=Tryz.zeroValue304}
open Go.RowKit Go.Maps Go.Sort in
theorem Tryz.sorts89(m:Nat):AnyZI.SortsIn Tryz.prog Tryz.sorted89_ren Fence.wide m:=
 ⟨fun blk off cap ss W hH hblk hsz=>callsIn_wide.2 (AnyM.slices_Sort_int Tryz.sort149 blk off cap ss W hH hblk hsz),
 fun p cap W=>callsIn_wide.2 (AnyM.slices_Sort_int_none Tryz.sort149 p cap W)⟩
open Go.RowKit Go.Maps Go.Sort in
theorem Tryz.sortedKeys90{H:Type}(Bm b nn:Nat)(D0:DataW H)(R:Value→Option (DataW H×List MemPlace))(w:World)(hBm:Bm<w.heap.size)(hm:w.cell? ⟨Bm,0,none⟩=some (.map (some b)))(hown:w.ownsMap Tryz.prog 3 R b nn D0)(hmax:Maps.size D0≤maxLen)(hbytes:Maps.size D0*8≤140737488355328):
  Calls Tryz.prog 89 #[.func (.func 150) #[] #[.pointer (some ⟨Bm,0,none⟩)]] w fun e w'=>∃(v:Value) (ss:List Int),e=.returned v∧ss.Perm (intKeys D0)∧
   w'.ownsRow w.heap.size 3 1 v ss.length ((ss.mergeSort (fun x y=>decide (x≤y))).map encZ)∧(v=.slice none 0 0↔ss=[])∧Below w.heap.size w w':=by
 refine(callsIn_wide (n:=5)).1 ?_;have hseq:SeqGives Fence.wide 2 Tryz.prog 150 #[.pointer (some ⟨Bm,0,none⟩)] encZ (fun ss=>ss.Perm (intKeys D0)) (Maps.size D0) w:=
  AnyZI.keys_gives (ρ:=Tryz.keys90_ren) {Tryz.keys90 with} Fence.wide _ trivial rfl (by omega) Bm b nn D0 w hBm hm hown
 exact AnyZI.sorted_in Tryz.sorted89 Fence.wide 5 trivial trivial trivial trivial rfl (by omega) (Tryz.sorts89 _) (enters_of Tryz.func149 (by kernel_rfl) rfl) 150 #[.pointer (some ⟨Bm,0,none⟩)] trivial (enters_of Tryz.func150 (by kernel_rfl) rfl) _ _ hmax hbytes _ hseq
open Go.RowKit Go.Maps Go.Sort in
theorem Tryz.sortedKeys91{H:Type}(Bm b nn:Nat)(D0:DataW H)(R:Value→Option (DataW H×List MemPlace))(w:World)(hBm:Bm<w.heap.size)(hm:w.cell? ⟨Bm,0,none⟩=some (.map (some b)))(hown:w.ownsMap Tryz.prog 3 R b nn D0)(hmax:Maps.size D0≤maxLen)(hbytes:Maps.size D0*8≤140737488355328):
  Calls Tryz.prog 89 #[.func (.func 151) #[] #[.pointer (some ⟨Bm,0,none⟩)]] w fun e w'=>∃(v:Value) (ss:List Int),e=.returned v∧ss.Perm (intKeys D0)∧
   w'.ownsRow w.heap.size 3 1 v ss.length ((ss.mergeSort (fun x y=>decide (x≤y))).map encZ)∧(v=.slice none 0 0↔ss=[])∧Below w.heap.size w w':=by
 refine(callsIn_wide (n:=5)).1 ?_;have hseq:SeqGives Fence.wide 2 Tryz.prog 151 #[.pointer (some ⟨Bm,0,none⟩)] encZ (fun ss=>ss.Perm (intKeys D0)) (Maps.size D0) w:=
  AnyZI.keys_gives (ρ:=Tryz.keys91_ren) {Tryz.keys91 with} Fence.wide _ trivial rfl (by omega) Bm b nn D0 w hBm hm hown
 exact AnyZI.sorted_in Tryz.sorted89 Fence.wide 5 trivial trivial trivial trivial rfl (by omega) (Tryz.sorts89 _) (enters_of Tryz.func149 (by kernel_rfl) rfl) 151 #[.pointer (some ⟨Bm,0,none⟩)] trivial (enters_of Tryz.func151 (by kernel_rfl) rfl) _ _ hmax hbytes _ hseq
open Go.RowKit Go.Maps Go.Sort in
theorem Tryz.sortedKeys92{H:Type}(Bm b nn:Nat)(D0:DataW H)(R:Value→Option (DataW H×List MemPlace))(w:World)(hBm:Bm<w.heap.size)(hm:w.cell? ⟨Bm,0,none⟩=some (.map (some b)))(hown:w.ownsMap Tryz.prog 3 R b nn D0)(hmax:Maps.size D0≤maxLen)(hbytes:Maps.size D0*8≤140737488355328):
  Calls Tryz.prog 89 #[.func (.func 152) #[] #[.pointer (some ⟨Bm,0,none⟩)]] w fun e w'=>∃(v:Value) (ss:List Int),e=.returned v∧ss.Perm (intKeys D0)∧
   w'.ownsRow w.heap.size 3 1 v ss.length ((ss.mergeSort (fun x y=>decide (x≤y))).map encZ)∧(v=.slice none 0 0↔ss=[])∧Below w.heap.size w w':=by
 refine(callsIn_wide (n:=5)).1 ?_;have hseq:SeqGives Fence.wide 2 Tryz.prog 152 #[.pointer (some ⟨Bm,0,none⟩)] encZ (fun ss=>ss.Perm (intKeys D0)) (Maps.size D0) w:=
  AnyZI.keys_gives (ρ:=Tryz.keys92_ren) {Tryz.keys92 with} Fence.wide _ trivial rfl (by omega) Bm b nn D0 w hBm hm hown
 exact AnyZI.sorted_in Tryz.sorted89 Fence.wide 5 trivial trivial trivial trivial rfl (by omega) (Tryz.sorts89 _) (enters_of Tryz.func149 (by kernel_rfl) rfl) 152 #[.pointer (some ⟨Bm,0,none⟩)] trivial (enters_of Tryz.func152 (by kernel_rfl) rfl) _ _ hmax hbytes _ hseq
open Go.RowKit Go.Maps Go.Sort in
theorem Tryz.sortedKeys93{H:Type}(Bm b nn:Nat)(D0:DataW H)(R:Value→Option (DataW H×List MemPlace))(w:World)(hBm:Bm<w.heap.size)(hm:w.cell? ⟨Bm,0,none⟩=some (.map (some b)))(hown:w.ownsMap Tryz.prog 3 R b nn D0)(hmax:Maps.size D0≤maxLen)(hbytes:Maps.size D0*8≤140737488355328):
  Calls Tryz.prog 89 #[.func (.func 153) #[] #[.pointer (some ⟨Bm,0,none⟩)]] w fun e w'=>∃(v:Value) (ss:List Int),e=.returned v∧ss.Perm (intKeys D0)∧
   w'.ownsRow w.heap.size 3 1 v ss.length ((ss.mergeSort (fun x y=>decide (x≤y))).map encZ)∧(v=.slice none 0 0↔ss=[])∧Below w.heap.size w w':=by
 refine(callsIn_wide (n:=5)).1 ?_;have hseq:SeqGives Fence.wide 2 Tryz.prog 153 #[.pointer (some ⟨Bm,0,none⟩)] encZ (fun ss=>ss.Perm (intKeys D0)) (Maps.size D0) w:=
  AnyZI.keys_gives (ρ:=Tryz.keys93_ren) {Tryz.keys93 with} Fence.wide _ trivial rfl (by omega) Bm b nn D0 w hBm hm hown
 exact AnyZI.sorted_in Tryz.sorted89 Fence.wide 5 trivial trivial trivial trivial rfl (by omega) (Tryz.sorts89 _) (enters_of Tryz.func149 (by kernel_rfl) rfl) 153 #[.pointer (some ⟨Bm,0,none⟩)] trivial (enters_of Tryz.func153 (by kernel_rfl) rfl) _ _ hmax hbytes _ hseq
def Tryz.lays2_22_ren:Go.Shelf.Ren:=⟨fun|22=>99|29=>157|30=>158|36=>217|17=>261|n=>n,fun|24=>62|9=>9|3=>3|4=>4|0=>0|n=>n,fun|n=>n⟩
theorem Tryz.lays2_22:Go.Proofs.Lays2.n22 Tryz.prog Tryz.lays2_22_ren:= {
 mixed:=by kernel_rfl
 f17:=Tryz.func261.trans (L9 some (by kernel_rfl))
 f22:=Tryz.func99.trans (L9 some (by kernel_rfl))
 f29:=Tryz.func157.trans (L9 some (by kernel_rfl))
 f30:=Tryz.func158.trans (L9 some (by kernel_rfl))
 f36:=Tryz.func217.trans (L9 some (by kernel_rfl))
 t0:=Tryz.underlying0
 a0:=Tryz.isAgg0
 z0:=Tryz.sizeOf0
 v0:=Tryz.zeroValue0
 t3:=Tryz.underlying3
 a3:=Tryz.isAgg3
 z3:=Tryz.sizeOf3
 v3:=Tryz.zeroValue3
 t4:=Tryz.underlying4
 a4:=Tryz.isAgg4
 z4:=Tryz.sizeOf4
 v4:=Tryz.zeroValue4
 t9:=Tryz.underlying9
 a9:=Tryz.isAgg9
 z9:=Tryz.sizeOf9
 v9:=Tryz.zeroValue9
 t24:=Tryz.underlying62
 a24:=Tryz.isAgg62
 z24:=Tryz.sizeOf62
 v24:=Tryz.zeroValue62
 i9:=by kernel_rfl}
def Tryz.lays2_26_ren:Go.Shelf.Ren:=⟨fun|26=>156|33=>215|34=>216|38=>260|n=>n,fun|24=>62|9=>9|3=>3|4=>4|40=>243|0=>0|n=>n,fun|n=>n⟩
theorem Tryz.lays2_26:Go.Proofs.Lays2.n26 Tryz.prog Tryz.lays2_26_ren:= {
 mixed:=by kernel_rfl
 f26:=Tryz.func156.trans (L9 some (by kernel_rfl))
 f33:=Tryz.func215.trans (L9 some (by kernel_rfl))
 f34:=Tryz.func216.trans (L9 some (by kernel_rfl))
 f38:=Tryz.func260.trans (L9 some (by kernel_rfl))
 t0:=Tryz.underlying0
 a0:=Tryz.isAgg0
 z0:=Tryz.sizeOf0
 v0:=Tryz.zeroValue0
 t3:=Tryz.underlying3
 a3:=Tryz.isAgg3
 z3:=Tryz.sizeOf3
 v3:=Tryz.zeroValue3
 t4:=Tryz.underlying4
 a4:=Tryz.isAgg4
 z4:=Tryz.sizeOf4
 v4:=Tryz.zeroValue4
 t9:=Tryz.underlying9
 a9:=Tryz.isAgg9
 z9:=Tryz.sizeOf9
 v9:=Tryz.zeroValue9
 t24:=Tryz.underlying62
 a24:=Tryz.isAgg62
 z24:=Tryz.sizeOf62
 v24:=Tryz.zeroValue62
 t40:=Tryz.underlying243
 a40:=Tryz.isAgg243
 z40:=Tryz.sizeOf243
 v40:=Tryz.zeroValue243}
end Go.Proofs
namespace Go.Av
open Go Go.Proofs Go.RowKit
section
variable {C:Ctx} {B:Nat} {S:Addr→Prop} {μ:Map} {h:Heap} {w w':World} {α:Type}
theorem tX{av:α→AVal}{enc:α→Value}(hc:∀a,(av a).cells=[av a])(hs:∀a,(av a).sto=true)(hr:∀(w:World) (S:Addr→Prop) (μ:Map) (a:α),Rep w S μ (av a) (enc a))
  (f:Fits C B S μ h w){e:TypeId}{v:Value}{ls:List α}(ho:w'.ownsRow w.heap.size e 1 v ls.length (ls.map enc))(hb:Below w.heap.size w w'):
  ∃S',Fits C B S' μ h w'∧Step B S μ w S' μ w'∧Rep w' S' μ (.sl 1 (ls.map av)) v:=by
 obtain⟨f',st⟩:=f.grown hb;obtain⟨_,ho⟩:=ho;rcases ho with⟨rfl,h0⟩| ⟨g,cap,cur,rfl,hg,hheap,hn,hm,hsz,htk⟩
 ·have:ls=[]:=O7.1 h0;subst this;exact⟨S,f',st,.sl0 1 none 0⟩
 ·by_cases hl:ls=[]
  ·subst hl;exact⟨S,f',st,.sl0 1 _ cap⟩
  have hgl:g<w'.heap.size:=(L6.1 hheap).1
  let S':Addr→Prop:=fun a=>S a∨a.block=g
  have st2:Step B S μ w' S' μ w':=⟨fun a ha=>.inl ha,fun _ _=>rfl,T8 _ _,MapLe.refl _,fun a ha=>ha.elim .inl fun e=>.inr (by rw[e];exact P2 f.base hg)⟩
  have f2:Fits C B S' μ h w':=⟨fun g' cs hg'=>(f'.glob g' cs hg').mono st2,f'.len,f'.sep,fun p m b h1 e1=>by
    obtain⟨a1,a2,a3⟩:=f'.own p m b h1 e1;have:=(f.own p m b h1 e1).2.1;exact⟨a1,a2,fun a ha=>ha.elim (a3 a) fun e=>by omega⟩,f'.base,fun a ha=>ha.elim (f'.lie a) fun e=>by rw[e];exact hgl,
   fun p m k h1 h2=>(f'.blk p m k h1 h2).mono st2 fun _ _=>rfl⟩
  have hget:∀i,cur[0+(i*1+0)]? =cur[i]? :=fun i=>by congr 1;omega
  refine⟨S',f2,st.trans st2,?_⟩;have hlen:(ls.map av).length=ls.length:=I4 ..;rw[← hlen];refine .sl 1 (ls.map av) g 0 cap (fun i _=>cur[i]?.getD undef) (by simpa using hl) (by omega) hm (fun i x hx=>?_) (fun i x j c hx hj=>?_) (fun i x j c hx hj=>?_)
  ·obtain⟨a,_,rfl⟩:=J8.1 (J2 hx);rw[hc];rfl
  ·obtain⟨a,_,rfl⟩:=J8.1 (J2 hx);rw[hc]at hj
   match j with
   |0=>
    simp at hj;subst hj;have hi:i<ls.length:=(by have:=(f9.1 hx).1;omega);have hi2:i<cur.size:=(by omega);refine⟨.inr rfl,?_,hs a⟩;simp only[World.cell?,hheap];simp[hi2]
   |j+1=>simp at hj
  ·rw[K5]at hx;obtain⟨a,ha,rfl⟩:=K9.1 hx;rw[hc]at hj
   match j with
   |0=>
    simp at hj;subst hj;have hi:i<ls.length:=(f9.1 ha).1;have:cur[i]? =some (enc a):=by
     have h1:(cur.toList.take (ls.length*1))[i]? =some (enc a):=(by rw[htk,K5,ha];rfl);rw[K7 (by omega)]at h1;simpa using h1
    rw[this];exact hr _ _ _ a
   |j+1=>simp at hj
theorem cO{P:Program}{f:FuncId}{fn:Func}(hf:P.funcs[f]? =some fn)(hb:fn.body.isNone=false)(hname:(fn.name== "runtime.NumGoroutine")=false)(us:Array Value)(w:World):(callFunc f us).run P w=.ok (.enter f us) w:=by
 have hne:fn.name≠ "runtime.NumGoroutine" :=by simpa using hname
 obtain⟨c,hbc⟩:∃c,fn.body=some c:=by cases hq:fn.body with|none=>simp[hq]at hb|some c=>exact⟨c,rfl⟩
 simp[callFunc,hf,hne,hbc]
end
def noR:Value→Option (DataW Unit×List MemPlace):=fun _=>some (.nil,[])
def kI(n:Int):Lit:=.int .i64 n
theorem nN(x:Lit×DataW Unit)(l:List (Lit×DataW Unit)):(DataW.insert x l).Perm (x::l):=by
 induction l with
 |nil=>exact List.Perm.refl _
 |cons y r ih=>
  rw[DataW.insert];split
  ·exact List.Perm.refl _
  ·exact(ih.cons y).trans (List.Perm.swap x y r)
theorem jP(l:List (Lit×DataW Unit)):(l.foldr DataW.insert []).Perm l:=by
 induction l with
 |nil=>exact List.Perm.refl _
 |cons x l ih=>exact(nN x _).trans (ih.cons x)
def datK(ks:List Lit):DataW Unit:=.map ((ks.map fun k=>(k,(DataW.nil:DataW Unit))).foldr DataW.insert [])
theorem rI(ks:List Lit):Maps.size (datK ks)=ks.length:=by
 unfold datK;rw[Maps.size_eq,(jP _).length_eq,I4]
theorem vC{P:Program}{kt:TypeId}{w:World}{b c:Nat}{cur:Array MapEntry}{ks:List Lit}(hheap:w.heap[b]? =some (.map cur c))(hl:ks.length=cur.size)(hm:cur.size≤maxLen)
  (hk:∀(i:Nat) (x:MapEntry),cur[i]? =some x→∃k,ks[i]? =some k∧keyOf P kt x.key=some k)(hb:∀x∈cur.toList,x.born<c)(hn:(cur.toList.map (·.born)).Nodup)(hd:(cur.toList.map (·.key)).Nodup):
  w.ownsMap P kt noR b cur.size (datK ks):=by
 refine⟨cur,c,hheap,⟨hm,⟨hb,hn,hd⟩,fun x hx=>?_⟩,J1 _,?_⟩
 ·obtain⟨i,hi⟩:=O8 hx;obtain⟨k,_,h2⟩:=hk i x (by simpa using hi);exact⟨(k,.nil),by simp[WideElems.rd,h2,noR]⟩
 ·unfold datK;congr 2
  apply Q5
  intro i;rw[K5,K5];by_cases hi:i<cur.size
  ·have hc:cur[i]? =some cur[i]:=M1 hi;obtain⟨k,h1,h2⟩:=hk i _ hc;have h3:cur.toList[i]? =some cur[i]:=(by simp[hi]);rw[h1,h3];simp[WideElems.rg,WideElems.rd,h2,noR]
  ·rw[N5 (l:=cur.toList) (by simp;omega),N5 (l:=ks) (by omega)];rfl
variable (G:Nat→Option (List AVal))
theorem dJ{α:Type}(ev:α→AVal)(I:FuncId)
  (hI:∀(Bm b nn:Nat) (D0:DataW Unit) (R:Value→Option (DataW Unit×List MemPlace)) (w:World),Bm<w.heap.size→w.cell? ⟨Bm,0,none⟩=some (.map (some b))→w.ownsMap Tryz.prog 3 R b nn D0→Maps.size D0≤maxLen→Maps.size D0*8≤140737488355328→
   Calls Tryz.prog 89 #[.func (.func I) #[] #[.pointer (some ⟨Bm,0,none⟩)]] w fun e w'=>∃(v:Value) (ss:List Int),e=.returned v∧ss.Perm (intKeys D0)∧w'.ownsRow w.heap.size 3 1 v ss.length ((ss.mergeSort (fun x y=>decide (x≤y))).map encZ)∧(v=.slice none 0 0↔ss=[])∧Below w.heap.size w w')
  (l:ML Int α)(c:Nat)(hw:WFM l c)(hb:∀e∈l, -9223372036854775808≤e.1∧e.1≤9223372036854775807)(hl:l.length≤100000){h:Heap}{q p T:Nat}(hq:getRow h q 0=some (T,1,[.hm p]))(hp:mapAt h p=some (encM iA ev l,c)):
  Sat (CT G) 89 [.fn (.func I) [] [.hp q 0 0 0]] h (fun r h'=>r=.sl 1 (((l.map (·.1)).mergeSort (fun x y=>decide (x≤y))).map iA)∧h'=h):=by
 intro B S μ w us fit rl;obtain⟨hul,hur⟩:=rl
 match us,hul,hur with
 | [v0],_,hur=>
  have r0:Rep w S μ (.fn (.func I) [] [.hp q 0 0 0]) v0:=hur 0 _ rfl;obtain⟨cv,rfl,rc⟩:∃cv,v0=.func (.func I) #[] #[cv]∧Rep w S μ (.hp q 0 0 0) cv:=by
   cases r0 with
   |fn _ _ _ xv cv h1 h2 h3 h4=>
    match xv,cv,h1,h2,h4 with
    | [],[cv],_,_,h4=>exact⟨cv,rfl,h4 0 _ rfl⟩
  obtain⟨m,hm,rf⟩:=fit.row hq;obtain⟨b0,hb0,rfl⟩:=rc.hp_now hm rf.hver;have hz:0*m.size+0=0:=by simp
  rw[hz];obtain⟨cur,hheap,hcell⟩:∃cur,w.heap[b0]? =some (.cells cur T (0,0))∧∃x,cur[0]? =some x∧Rep w S μ (.hm p) x:=by
   rcases rf.lies with⟨_,h2⟩| ⟨b,cur,h1,h2,_,_,_,h6⟩
   ·cases h2
   ·rw[hb0]at h1;cases h1;obtain⟨x,hx,rx⟩:=h6 0 (.hm p) 0 (.hm p) rfl rfl;exact⟨cur,h2,x,by simpa using hx,rx⟩
  obtain⟨x,hx0,rx⟩:=hcell;obtain⟨m2,b2,cur2,hm2,hv2,hb2,rfl,hheap2,E⟩:=bj fit rx hp;have hcell0:w.cell? ⟨b0,0,none⟩=some (.map (some b2)):=by simp[World.cell?,hheap,hx0]
  have hlen:cur2.size=l.length:=by have:=E.len;simpa [encM]using this
  have hget:∀(i:Nat) (y:MapEntry),cur2[i]? =some y→∃e,l[i]? =some e∧y.key=encZ e.1∧y.born=e.2.2:=by
   intro i y hy;have hi:i<l.length:=(by have:=(L6.1 hy).1;omega);obtain⟨y',hy',r1,_,r3⟩:=E.get i (iA l[i].1,ev l[i].2.1,l[i].2.2) (by rw[encM,K5,I3 hi];rfl);rw[Array.getElem?_toList,hy]at hy';cases hy';refine⟨l[i],I3 hi,?_,r3⟩;exact r1.int_inv
  have hbk:cur2.toList.map (·.born)=l.map (·.2.2):=by
   apply Q5
   intro i;rw[K5,K5,Array.getElem?_toList];cases hy:cur2[i]? with
   |none=>rw[N5 (l:=l) (by rw[Array.getElem?_eq_none_iff]at hy;omega)];rfl
   |some y=>obtain⟨e,h1,_,h3⟩:=hget i y hy;rw[h1];simp[h3]
  have hkk:cur2.toList.map (·.key)=l.map (fun e=>encZ e.1):=by
   apply Q5
   intro i;rw[K5,K5,Array.getElem?_toList];cases hy:cur2[i]? with
   |none=>rw[N5 (l:=l) (by rw[Array.getElem?_eq_none_iff]at hy;omega)];rfl
   |some y=>obtain⟨e,h1,h2,_⟩:=hget i y hy;rw[h1];simp[h2]
  have hown:w.ownsMap Tryz.prog 3 noR b2 cur2.size (datK (l.map fun e=>kI e.1)):=by
   refine vC hheap2 (by simp[hlen]) (by simp[maxLen];omega) (fun i y hy=>?_) (fun y hy=>?_) (by rw[hbk];exact hw.borns) ?_
   ·obtain⟨e,h1,h2,_⟩:=hget i y hy;refine⟨kI e.1,by rw[K5,h1];rfl,?_⟩;have hu:Tryz.prog.underlying 3=some (.int .i64):=(by kernel_rfl);have:=hb e (J2 h1);have hwf:(Lit.int .i64 e.1).wf=true:=by
     simp only[Lit.wf,I1,I8];exact this
    rw[h2];simp[keyOf,hu,mapKey,encZ,kI,hwf]
   ·obtain⟨i,hi⟩:=O8 hy;obtain⟨e,h1,_,h3⟩:=hget i y (by simpa using hi);rw[h3];exact hw.lt e (J2 h1)
   ·rw[hkk];have:=hw.keys;rw[show(l.map fun e=>encZ e.1)=(l.map (·.1)).map encZ by simp];exact List.Pairwise.map encZ (fun a b hab he=>hab (by first|exact encZ_inj he| (simpa [encStr]using he))) this
  have hsz:Maps.size (datK (l.map fun e=>kI e.1))=l.length:=by rw[rI];simp
  change OpOk Tryz.prog _ ((callFunc 89 #[Value.func (Fn.func I) #[] #[Value.pointer (some ⟨b0,0,none⟩)]]).run Tryz.prog w)
  rw[cO (f:=89) Tryz.func89 rfl rfl];refine(hI b0 b2 _ _ _ w (L6.1 hheap).1 hcell0 hown (by rw[hsz];simp[maxLen];omega) (by rw[hsz];omega)).mono fun e w' ⟨v,ss,he,hperm,hrow,_,hbel⟩=>?_
  refine⟨v,he,?_⟩;have hk:(intKeys (datK (l.map fun e=>kI e.1))).Perm (l.map (·.1)):=by
   unfold datK;refine((jP _).map _).trans ?_;rw[X2,X2];exact List.Perm.of_eq (S7 fun e _=>rfl)
  have hs:ss.mergeSort (fun x y=>decide (x≤y))=(l.map (·.1)).mergeSort (fun x y=>decide (x≤y)):=mergeSort_of_perm_i (hperm.trans hk);rw[hs]at hrow;have hl2:ss.length=((l.map (·.1)).mergeSort (fun x y=>decide (x≤y))).length:=by
   rw[← hs,(V7 _ _).length_eq]
  rw[hl2]at hrow;obtain⟨S',f',st',r'⟩:=tX (av:=iA) (enc:=encZ) (fun _=>rfl) (fun _=>rfl) (fun _ _ _ _=>by first|exact .int _ _|exact .str _) fit hrow hbel;exact⟨_,h,S',μ,⟨rfl,rfl⟩,st',f',r'⟩
end Go.Av
namespace Go.Av
open Go Go.Proofs Go.RowKit
theorem E6(G:Nat→Option (List AVal)):(CT G).P.follows .mixedOrders=true:=by kernel_rfl
theorem tZ{C:Ctx}{t:Env}{h:Heap}{id:Nat}{l:List Oper}{Q:Exit→Env→Heap→Prop}(hok:preOkG false l.toArray l.length=true)(hm:C.P.follows .mixedOrders=true)
  (hh:WPp C l.toArray l t h fun t'=>Q .normal t' h):WP C (.region id l.toArray true) Q t h:=by
 have D:=fI hok;obtain⟨V,hv,hK⟩:=bL _ _ hh;have htk:l.toArray.toList.take l.length=l:=by simp
 have main:∀n,WPix C l.toArray Q (Region.linearise .any l.toArray n) t h:=fun n=>by
  unfold Region.linearise;refine cX D .any D.less (by simp) (V:=V) (t0:=t) (fun _=>True) (fun i o hi _=>by rw[htk]at hi ⊢;exact hv i o hi) (fun n=>?_) _ _ _ _ (by simp) ?_ (fun j oj hj hl=>?_) (fun j hj hl=>?_) (fun _ _ _=>trivial) (Ag.start _ _ _ _ fun j hj=>?_)
  ·rw[htk];have e1:l.toArray.size-l.length=0:=(by simp);rw[e1];exact Rest.nil hK .any n
  ·unfold left;have:(List.range l.toArray.size).filter (fun i=> !(Array.replicate l.toArray.size false).getD i true)=List.range l.toArray.size:=by
    rw[R1];intro i hi;have:=P0.1 hi;simp at this ⊢;simp[this]
   rw[this,V5]
  ·have h8:=(L6.1 hj).1;simp at h8 hl;simp[h8]at hl
  ·simp at hj hl;simp[hj]at hl
  ·have:j<l.length:=by omega
   simp[this]
 show ∀tp,WPix C l.toArray Q (Region.schedule (C.P.follows .mixedOrders) l.toArray tp) t h;intro tp;unfold Region.schedule;rw[hm];simp only[Bool.true_or,if_true];exact main _
end Go.Av
namespace Go.Av
open Go Go.Proofs Go.RowKit
attribute [local irreducible] WP WPl WPix Sat
variable (G:Nat→Option (List AVal))
def sortI(l:List Int):List Int:=l.mergeSort (fun x y=>decide (x≤y))
def valsM{α:Type}(z:α)(l:ML Int α):List α:=(sortI (l.map (·.1))).map fun k=>(lkM l k).getD z
theorem cd(l:List Int):(sortI l).length=l.length:=(V7 _ _).length_eq
theorem Fo.cells_sto(e:Fo):∀c∈e.av.cells,c.sto=true:=by
 intro c hc;simp only[Fo.av,AVal.cells,J9,Q7,or_false]at hc;rcases hc with rfl|rfl|rfl<;>rfl
theorem Fe.cells_sto(e:Fe):∀c∈e.av.cells,c.sto=true:=by
 intro c hc;simp only[Fe.av,AVal.cells,J9,Q7,or_false]at hc;rcases hc with rfl|rfl|rfl|rfl<;>rfl
theorem Se.cells_sto(e:Se):∀c∈e.av.cells,c.sto=true:=by
 intro c hc;simp only[Se.av,AVal.cells,J9,Q7,or_false]at hc;rcases hc with rfl|rfl|rfl<;>rfl
theorem It.cells_sto(e:It):∀c∈e.av.cells,c.sto=true:=by
 intro c hc;simp only[It.av,AVal.cells,J9,Q7,or_false]at hc;rcases hc with rfl|rfl|rfl|rfl|rfl|rfl|rfl|rfl|rfl<;>rfl
theorem Fo.clo(N:Nat)(f:Fo):Clo N f.av:=bN fun c hc=>by simp[Fo.av]at hc;rcases hc with rfl|rfl|rfl<;>simp
theorem Fe.clo(N:Nat)(f:Fe):Clo N f.av:=bN fun c hc=>by simp[Fe.av]at hc;rcases hc with rfl|rfl|rfl|rfl<;>simp
theorem Se.clo(N:Nat)(f:Se):Clo N f.av:=bN fun c hc=>by simp[Se.av]at hc;rcases hc with rfl|rfl|rfl<;>simp
theorem pR(p:Nat)(h:Heap):Sat (CT G) 90 [.hm p] h (fun r h'=>r=.fn (.func 150) [] [.hp h.length 0 0 0]∧h'=h++[.row 98 1 0 [.hm p]]):=by
 refine sb [.tmp 2] Tryz.func90 ?_;intro Q hQ;refine wk trivial ?_;refine ee hQ trivial ?_;exact Y5 (by simp) (.fn _ _ _ (fun _ h=>by cases h) (fun x hx=>by simp at hx;subst hx;exact .hp _ _ _ _ (by simp))) ⟨rfl,rfl⟩
theorem kL(s:PS)(hw:WFM s.fo s.c1)(hb:∀e∈s.fo, -9223372036854775808≤e.1∧e.1≤9223372036854775807)(hl:s.fo.length≤100000){H:Heap}{n:Nat}(hn:n+9≤H.length):Sat (CT G) 52 [.hm (n)] (so H n s) (fun r h'=>r=.sl 3 ((valsM Fo.z s.fo).map Fo.av)∧h'=so H n s):=by
 have hsl:=cd (s.fo.map (·.1));rw[I4]at hsl;refine sb [.tmp 2] Tryz.func52 ?_;intro Q hQ;refine wk trivial ?_;refine kq trivial (pR G _ _) ?_;refine kq trivial (dJ G Fo.av _ Tryz.sortedKeys90 s.fo s.c1 hw hb hl (by rw[bU (by simp;omega) 0 (by omega),aR _ rfl];rfl) (zT (by simp;omega))) ?_;unfold valsM at hQ;have hks:(List.map (fun x=>x.1) s.fo).mergeSort (fun x y=>decide (x≤y))=sortI (s.fo.map (·.1)):=rfl;rw[hks];generalize sortI (s.fo.map (·.1))=ks at*;have hkm:(ks.map iA).length=ks.length:=I4 ..;have F:=hkm;refine lm (fun nL tL hL=>∃(k v:Nat) (acc:List Fo),ks.length-k=nL∧so (H++[.row 98 1 0 [.hm (n)],.row 95 3 v (acc.map Fo.av)]) n s=hL∧tL 0=.hm (n)∧tL 3=.hs (H.length+1) v 0 acc.length true∧tL 8=.sl 1 (ks.map iA)∧tL 9=.int .i64 (ks.length:Int)∧tL 10=.int .i64 k∧k≤ks.length∧acc.length=k∧acc++(ks.drop k).map (fun k=>(lkM s.fo k).getD Fo.z)=ks.map (fun k=>(lkM s.fo k).getD Fo.z)) ((fun(k v:Nat) (acc:List Fo)=>(ks.length-k:Nat)) (0) (0) ([])) ?_ ?_
 ·refine⟨_,_,V3 3 95 3 (by simp) (by omega) (by exact zq F),⟨0,0,[],rfl,by rw[bv (by simp;omega)];simp,?_,?_,?_,?_,?_,by omega,rfl,by simp⟩⟩;all_goals try exact zZz F
 rintro _ s2 h' ⟨k,v,acc,rfl,rfl,e0,e3,e8,e9,e10,hk,hac,hp⟩ K2 hK2;simp only[ah,ar,Nat.reduceEqDiff, ↓reduceIte]at e0 e3 e8 e9 e10;have F:=F6 F e0 e3 e8 e9 e10;refine wk F ?_;refine cq F (fun c1=>?_) (fun c1=>?_)<;>(try exact c1.elim)<;>(refine wk F ?_)
 ·have c2:k<ks.length:=by omega
  obtain⟨y,hy,hym⟩:=ac c2;rw[aE hy,L5]at hp;have F:=F3 F hy @ao;try refine sq F ?_
  refine wk F ?_;refine aq F ?_;try refine sq F ?_
  refine wk F ?_;refine hK2 _ _ _ (I9 ⟨k+1,v+1,acc++[(lkM s.fo y).getD Fo.z],rfl,by simp[Fo.av],?_,?_,?_,?_,?_,by omega,by simp;omega,by rw[← hp];simp⟩) (by omega);all_goals try exact zZz F
 ·rw[aK c1,P4,M6]at hp;refine ee hQ F ?_;rw[← hp];have hbl:n+(s.bl n).length≤H.length:=hn;have hg:getRow (so (H++[.row 98 1 0 [.hm (n)],.row 95 3 v (acc.map Fo.av)]) n s) (H.length+1) v=some (95,3,acc.map Fo.av):=by
   rw[bU (by simp;omega) v (by omega),bm _ rfl];simp[getRow]
  exact g9 hbl rfl (PS.clo hn s) (U9 (by omega) hg (by simp) (fun r hr=>by obtain⟨a,_,rfl⟩:=J8.1 hr;exact Fo.clo _ a) (fun r hr=>by obtain⟨a,_,rfl⟩:=J8.1 hr;exact a.cells_sto)) ⟨rfl,rfl⟩
theorem pS(p:Nat)(h:Heap):Sat (CT G) 91 [.hm p] h (fun r h'=>r=.fn (.func 151) [] [.hp h.length 0 0 0]∧h'=h++[.row 99 1 0 [.hm p]]):=by
 refine sb [.tmp 2] Tryz.func91 ?_;intro Q hQ;refine wk trivial ?_;refine ee hQ trivial ?_;exact Y5 (by simp) (.fn _ _ _ (fun _ h=>by cases h) (fun x hx=>by simp at hx;subst hx;exact .hp _ _ _ _ (by simp))) ⟨rfl,rfl⟩
theorem kM(s:PS)(hw:WFM s.fe s.c2)(hb:∀e∈s.fe, -9223372036854775808≤e.1∧e.1≤9223372036854775807)(hl:s.fe.length≤100000){H:Heap}{n:Nat}(hn:n+9≤H.length):Sat (CT G) 53 [.hm (n+1)] (so H n s) (fun r h'=>r=.sl 4 ((valsM Fe.z s.fe).map Fe.av)∧h'=so H n s):=by
 have hsl:=cd (s.fe.map (·.1));rw[I4]at hsl;refine sb [.tmp 2] Tryz.func53 ?_;intro Q hQ;refine wk trivial ?_;refine kq trivial (pS G _ _) ?_;refine kq trivial (dJ G Fe.av _ Tryz.sortedKeys91 s.fe s.c2 hw hb hl (by rw[bU (by simp;omega) 0 (by omega),aR _ rfl];rfl) (zU (by simp;omega))) ?_;unfold valsM at hQ;have hks:(List.map (fun x=>x.1) s.fe).mergeSort (fun x y=>decide (x≤y))=sortI (s.fe.map (·.1)):=rfl;rw[hks];generalize sortI (s.fe.map (·.1))=ks at*;have hkm:(ks.map iA).length=ks.length:=I4 ..;have F:=hkm;refine lm (fun nL tL hL=>∃(k v:Nat) (acc:List Fe),ks.length-k=nL∧so (H++[.row 99 1 0 [.hm (n+1)],.row 69 4 v (acc.map Fe.av)]) n s=hL∧tL 0=.hm (n+1)∧tL 3=.hs (H.length+1) v 0 acc.length true∧tL 8=.sl 1 (ks.map iA)∧tL 9=.int .i64 (ks.length:Int)∧tL 10=.int .i64 k∧k≤ks.length∧acc.length=k∧acc++(ks.drop k).map (fun k=>(lkM s.fe k).getD Fe.z)=ks.map (fun k=>(lkM s.fe k).getD Fe.z)) ((fun(k v:Nat) (acc:List Fe)=>(ks.length-k:Nat)) (0) (0) ([])) ?_ ?_
 ·refine⟨_,_,V3 3 69 4 (by simp) (by omega) (by exact zq F),⟨0,0,[],rfl,by rw[bv (by simp;omega)];simp,?_,?_,?_,?_,?_,by omega,rfl,by simp⟩⟩;all_goals try exact zZz F
 rintro _ s2 h' ⟨k,v,acc,rfl,rfl,e0,e3,e8,e9,e10,hk,hac,hp⟩ K2 hK2;simp only[ah,ar,Nat.reduceEqDiff, ↓reduceIte]at e0 e3 e8 e9 e10;have F:=F6 F e0 e3 e8 e9 e10;refine wk F ?_;refine cq F (fun c1=>?_) (fun c1=>?_)<;>(try exact c1.elim)<;>(refine wk F ?_)
 ·have c2:k<ks.length:=by omega
  obtain⟨y,hy,hym⟩:=ac c2;rw[aE hy,L5]at hp;have F:=F3 F hy @ao;try refine sq F ?_
  refine wk F ?_;refine aq F ?_;try refine sq F ?_
  refine wk F ?_;refine hK2 _ _ _ (I9 ⟨k+1,v+1,acc++[(lkM s.fe y).getD Fe.z],rfl,by simp[Fe.av],?_,?_,?_,?_,?_,by omega,by simp;omega,by rw[← hp];simp⟩) (by omega);all_goals try exact zZz F
 ·rw[aK c1,P4,M6]at hp;refine ee hQ F ?_;rw[← hp];have hbl:n+(s.bl n).length≤H.length:=hn;have hg:getRow (so (H++[.row 99 1 0 [.hm (n+1)],.row 69 4 v (acc.map Fe.av)]) n s) (H.length+1) v=some (69,4,acc.map Fe.av):=by
   rw[bU (by simp;omega) v (by omega),bm _ rfl];simp[getRow]
  exact g9 hbl rfl (PS.clo hn s) (U9 (by omega) hg (by simp) (fun r hr=>by obtain⟨a,_,rfl⟩:=J8.1 hr;exact Fe.clo _ a) (fun r hr=>by obtain⟨a,_,rfl⟩:=J8.1 hr;exact a.cells_sto)) ⟨rfl,rfl⟩
theorem pT(p:Nat)(h:Heap):Sat (CT G) 92 [.hm p] h (fun r h'=>r=.fn (.func 152) [] [.hp h.length 0 0 0]∧h'=h++[.row 100 1 0 [.hm p]]):=by
 refine sb [.tmp 2] Tryz.func92 ?_;intro Q hQ;refine wk trivial ?_;refine ee hQ trivial ?_;exact Y5 (by simp) (.fn _ _ _ (fun _ h=>by cases h) (fun x hx=>by simp at hx;subst hx;exact .hp _ _ _ _ (by simp))) ⟨rfl,rfl⟩
theorem pU(p:Nat)(h:Heap):Sat (CT G) 93 [.hm p] h (fun r h'=>r=.fn (.func 153) [] [.hp h.length 0 0 0]∧h'=h++[.row 101 1 0 [.hm p]]):=by
 refine sb [.tmp 2] Tryz.func93 ?_;intro Q hQ;refine wk trivial ?_;refine ee hQ trivial ?_;exact Y5 (by simp) (.fn _ _ _ (fun _ h=>by cases h) (fun x hx=>by simp at hx;subst hx;exact .hp _ _ _ _ (by simp))) ⟨rfl,rfl⟩
theorem kN(s:PS)(hw:WFM s.se s.c4)(hb:∀e∈s.se, -9223372036854775808≤e.1∧e.1≤9223372036854775807)(hl:s.se.length≤100000){H:Heap}{n:Nat}(hn:n+9≤H.length):Sat (CT G) 55 [.hm (n+3)] (so H n s) (fun r h'=>r=.sl 3 ((valsM Se.z s.se).map Se.av)∧h'=so H n s):=by
 have hsl:=cd (s.se.map (·.1));rw[I4]at hsl;refine sb [.tmp 2] Tryz.func55 ?_;intro Q hQ;refine wk trivial ?_;refine kq trivial (pU G _ _) ?_;refine kq trivial (dJ G Se.av _ Tryz.sortedKeys93 s.se s.c4 hw hb hl (by rw[bU (by simp;omega) 0 (by omega),aR _ rfl];rfl) (zV (by simp;omega))) ?_;unfold valsM at hQ;have hks:(List.map (fun x=>x.1) s.se).mergeSort (fun x y=>decide (x≤y))=sortI (s.se.map (·.1)):=rfl;rw[hks];generalize sortI (s.se.map (·.1))=ks at*;have hkm:(ks.map iA).length=ks.length:=I4 ..;have F:=hkm;refine lm (fun nL tL hL=>∃(k v:Nat) (acc:List Se),ks.length-k=nL∧so (H++[.row 101 1 0 [.hm (n+3)],.row 97 3 v (acc.map Se.av)]) n s=hL∧tL 0=.hm (n+3)∧tL 3=.hs (H.length+1) v 0 acc.length true∧tL 8=.sl 1 (ks.map iA)∧tL 9=.int .i64 (ks.length:Int)∧tL 10=.int .i64 k∧k≤ks.length∧acc.length=k∧acc++(ks.drop k).map (fun k=>(lkM s.se k).getD Se.z)=ks.map (fun k=>(lkM s.se k).getD Se.z)) ((fun(k v:Nat) (acc:List Se)=>(ks.length-k:Nat)) (0) (0) ([])) ?_ ?_
 ·refine⟨_,_,V3 3 97 3 (by simp) (by omega) (by exact zq F),⟨0,0,[],rfl,by rw[bv (by simp;omega)];simp,?_,?_,?_,?_,?_,by omega,rfl,by simp⟩⟩;all_goals try exact zZz F
 rintro _ s2 h' ⟨k,v,acc,rfl,rfl,e0,e3,e8,e9,e10,hk,hac,hp⟩ K2 hK2;simp only[ah,ar,Nat.reduceEqDiff, ↓reduceIte]at e0 e3 e8 e9 e10;have F:=F6 F e0 e3 e8 e9 e10;refine wk F ?_;refine cq F (fun c1=>?_) (fun c1=>?_)<;>(try exact c1.elim)<;>(refine wk F ?_)
 ·have c2:k<ks.length:=by omega
  obtain⟨y,hy,hym⟩:=ac c2;rw[aE hy,L5]at hp;have F:=F3 F hy @ao;try refine sq F ?_
  refine wk F ?_;refine aq F ?_;try refine sq F ?_
  refine wk F ?_;refine hK2 _ _ _ (I9 ⟨k+1,v+1,acc++[(lkM s.se y).getD Se.z],rfl,by simp[Se.av],?_,?_,?_,?_,?_,by omega,by simp;omega,by rw[← hp];simp⟩) (by omega);all_goals try exact zZz F
 ·rw[aK c1,P4,M6]at hp;refine ee hQ F ?_;rw[← hp];have hbl:n+(s.bl n).length≤H.length:=hn;have hg:getRow (so (H++[.row 101 1 0 [.hm (n+3)],.row 97 3 v (acc.map Se.av)]) n s) (H.length+1) v=some (97,3,acc.map Se.av):=by
   rw[bU (by simp;omega) v (by omega),bm _ rfl];simp[getRow]
  exact g9 hbl rfl (PS.clo hn s) (U9 (by omega) hg (by simp) (fun r hr=>by obtain⟨a,_,rfl⟩:=J8.1 hr;exact Se.clo _ a) (fun r hr=>by obtain⟨a,_,rfl⟩:=J8.1 hr;exact a.cells_sto)) ⟨rfl,rfl⟩
theorem jQ(s:PS)(hw:WFM s.it s.c3)(hb:∀e∈s.it, -9223372036854775808≤e.1∧e.1≤9223372036854775807)(hl:s.it.length≤100000){H:Heap}{n:Nat}(hn:n+9≤H.length):Sat (CT G) 54 [.hm (n+2)] (so H n s) (fun r h'=>∃v,r=.hs (H.length+1) v 0 (valsM It.z s.it).length true∧h'=so (H++[.row 100 1 0 [.hm (n+2)],.row 64 9 v ((valsM It.z s.it).map It.av)]) n s):=by
 have hsl:=cd (s.it.map (·.1));rw[I4]at hsl;refine sb [.tmp 2] Tryz.func54 ?_;intro Q hQ;refine wk trivial ?_;refine kq trivial (pT G _ _) ?_;refine kq trivial (dJ G It.av _ Tryz.sortedKeys92 s.it s.c3 hw hb hl (by rw[bU (by simp;omega) 0 (by omega),aR _ rfl];rfl) (pO (by simp;omega))) ?_;unfold valsM at hQ;have hks:(List.map (fun x=>x.1) s.it).mergeSort (fun x y=>decide (x≤y))=sortI (s.it.map (·.1)):=rfl;rw[hks];generalize sortI (s.it.map (·.1))=ks at*;have hkm:(ks.map iA).length=ks.length:=I4 ..;have F:=hkm;refine lm (fun nL tL hL=>∃(k v:Nat) (acc:List It),ks.length-k=nL∧so (H++[.row 100 1 0 [.hm (n+2)],.row 64 9 v (acc.map It.av)]) n s=hL∧tL 0=.hm (n+2)∧tL 3=.hs (H.length+1) v 0 acc.length true∧tL 8=.sl 1 (ks.map iA)∧tL 9=.int .i64 (ks.length:Int)∧tL 10=.int .i64 k∧k≤ks.length∧acc.length=k∧acc++(ks.drop k).map (fun k=>(lkM s.it k).getD It.z)=ks.map (fun k=>(lkM s.it k).getD It.z)) ((fun(k v:Nat) (acc:List It)=>(ks.length-k:Nat)) (0) (0) ([])) ?_ ?_
 ·refine⟨_,_,V3 3 64 9 (by simp) (by omega) (by exact zq F),⟨0,0,[],rfl,by rw[bv (by simp;omega)];simp,?_,?_,?_,?_,?_,by omega,rfl,by simp⟩⟩;all_goals try exact zZz F
 rintro _ s2 h' ⟨k,v,acc,rfl,rfl,e0,e3,e8,e9,e10,hk,hac,hp⟩ K2 hK2;simp only[ah,ar,Nat.reduceEqDiff, ↓reduceIte]at e0 e3 e8 e9 e10;have F:=F6 F e0 e3 e8 e9 e10;refine wk F ?_;refine cq F (fun c1=>?_) (fun c1=>?_)<;>(try exact c1.elim)<;>(refine wk F ?_)
 ·have c2:k<ks.length:=by omega
  obtain⟨y,hy,hym⟩:=ac c2;rw[aE hy,L5]at hp;have F:=F3 F hy @ao;try refine sq F ?_
  refine wk F ?_;refine aq F ?_;try refine sq F ?_
  refine wk F ?_;refine hK2 _ _ _ (I9 ⟨k+1,v+1,acc++[(lkM s.it y).getD It.z],rfl,by simp[It.av],?_,?_,?_,?_,?_,by omega,by simp;omega,by rw[← hp];simp⟩) (by omega);all_goals try exact zZz F
 ·rw[aK c1,P4,M6]at hp;refine ee hQ F ?_;rw[← hp];have hal:acc.length=ks.length:=by omega
  exact Y5 (by rw[b8 hn,b8 (by simp;omega)];simp) (.hs _ _ _ _ _ (by rw[b8 (by simp;omega)];simp)) ⟨v,by simp[hal],rfl⟩
theorem jg{h0:Heap}{R:AVal→Heap→Prop}{r0 r:AVal}(hz:Frz h0 h0.length r0 r)(hR:R r h0):Fin h0 h0 R r0:=by
 have:=X1 (h0:=h0) (j:=[]) (R:=R) (r0:=r0) (r:=r) (by rwa [M6]) hR
 rwa [M6]at this
theorem pV(l:List Bs)(hl:l.length≤1048576)(h:Heap):Sat (CT G) 94 [.sl 1 (l.map .str)] h (fun r h'=>r=.sl 1 (l.map .str)∧h'=h):=by
 rcases l with _| ⟨a,l⟩
 ·refine sb [.tmp 2] Tryz.func94 ?_;intro Q hQ;refine wk trivial ?_;refine jy _ (by exact zq trivial) (.inl rfl) fun b=>?_
  cases b
  ·(try refine sq trivial ?_);refine wk trivial ?_;refine fS (.inl rfl) (by simp(disch:=first|omega| (simp only[go_sem, ↓reduceIte,seval];first|done|omega)|fail) only[go_sem, ↓reduceIte,seval];rfl) (by simp(disch:=first|omega| (simp only[go_sem, ↓reduceIte,seval];first|done|omega)|fail) only[go_sem, ↓reduceIte,seval];rfl) (by simp(disch:=first|omega| (simp only[go_sem, ↓reduceIte,seval];first|done|omega)|fail) only[go_sem, ↓reduceIte,seval];rfl) (by simp(disch:=first|omega| (simp only[go_sem, ↓reduceIte,seval];first|done|omega)|fail) only[go_sem, ↓reduceIte,seval];try rfl) (by omega) (by simp only[elemsOf, ↓reduceIte];try rfl) (by simp) (fun _=>?_) (fun h=>absurd rfl h);(try refine sq trivial ?_);refine wk trivial ?_;refine ee hQ trivial ?_;exact jg (.ezs _) ⟨rfl,rfl⟩
  ·(try refine sq trivial ?_);refine wk trivial ?_;refine ee hQ trivial ?_;exact jg (.nils _) ⟨rfl,rfl⟩
 ·have hr:(List.map AVal.str (a::l))≠ []:=by simp
  refine sb [.tmp 2] Tryz.func94 ?_;intro Q hQ;refine wk trivial ?_;refine fS (.inl rfl) (by simp(disch:=first|omega| (simp only[go_sem, ↓reduceIte,seval];first|done|omega)|fail) only[go_sem, ↓reduceIte,seval];rfl) (by simp(disch:=first|omega| (simp only[go_sem, ↓reduceIte,seval];first|done|omega)|fail) only[go_sem, ↓reduceIte,seval];rfl) (by simp(disch:=first|omega| (simp only[go_sem, ↓reduceIte,seval];first|done|omega)|fail) only[go_sem, ↓reduceIte,seval];rfl) (by simp(disch:=first|omega| (simp only[go_sem, ↓reduceIte,seval];first|done|omega)|fail) only[go_sem, ↓reduceIte,seval];try rfl) (by omega) (by simp only[elemsOf, ↓reduceIte];try rfl) ?_ (fun h=>by simp at h) (fun _=>?_)
  ·simp[maxLen]at hl ⊢;omega
  try refine sq trivial ?_
  refine wk trivial ?_;refine ee hQ trivial ?_;have hg:getRow (h++[.row 9 1 0 ((a::l).map .str)]) h.length 0=some (9,1,(a::l).map .str):=by rw[aR _ rfl];simp[getRow]
  have:=U9 (n:=h.length) (len:=(a::l).length) (room:=true) (J1 _) hg (by simp) (fun r hr=>by obtain⟨a,_,rfl⟩:=J8.1 hr;exact .str _) (fun r hr c hc=>by obtain⟨a,_,rfl⟩:=J8.1 hr;simp[AVal.cells]at hc;subst hc;rfl);simp only[I7,L5]at this;exact X1 (by simpa using this) ⟨rfl,rfl⟩
theorem jR(t:It)(ht:t.tags.length≤1048576)(h:Heap):Sat (CT G) 56 [t.av] h (fun r h'=>r=t.av∧h'=h):=by
 refine sb [.cell 2 64] Tryz.func56 ?_;intro Q hQ;refine wk trivial ?_;refine kq trivial (pV G t.tags ht _) ?_;refine ye hQ trivial ?_;exact I2 (Y6 _ t) ⟨rfl,rfl⟩
end Go.Av
namespace Go.Av
open Go Go.Proofs Go.RowKit
theorem ce:∀t:Bs,Op.bytesLess t t=false
 | []=>rfl
 |a::t=>by simp[Op.bytesLess,ce t]
theorem eZ:∀{a b c:Bs},Op.bytesLess a b=true→Op.bytesLess b c=true→Op.bytesLess a c=true
 |_,_,[],_,h=>by cases h2:(‹Bs› :Bs)<;>simp[Op.bytesLess]at h
 | [],_,_::_,_,_=>rfl
 |_::_,[],_::_,h,_=>by simp[Op.bytesLess]at h
 |x::a,y::b,z::c,h,k=>by
  simp only[Op.bytesLess,O2,I8,I1,beq_iff_eq]at h k ⊢;rcases h with h| ⟨rfl,h⟩
  ·rcases k with k| ⟨rfl,k⟩
   ·exact .inl (UInt8.lt_trans h k)
   ·exact .inl h
  ·rcases k with k| ⟨rfl,k⟩
   ·exact .inl k
   ·exact .inr ⟨rfl,eZ h k⟩
theorem mP:∀(a b:Bs),Op.bytesLess a b=false→Op.bytesLess b a=false→a=b
 | [],[],_,_=>rfl
 | [],_::_,h,_=>by simp[Op.bytesLess]at h
 |_::_,[],_,h=>by simp[Op.bytesLess]at h
 |x::a,y::b,h,k=>by
  simp only[Op.bytesLess,Bool.or_eq_false_iff,decide_eq_false_iff_not,Bool.and_eq_false_iff,beq_eq_false_iff_ne]at h k;have hxy:x=y:=by
   have h1:=UInt8.not_lt.1 h.1;have h2:=UInt8.not_lt.1 k.1;exact UInt8.le_antisymm h2 h1
  subst hxy;rw[mP a b (by rcases h.2 with h|h;exact absurd rfl h;exact h) (by rcases k.2 with h|h;exact absurd rfl h;exact h)]
def Srt(l:List Bs):Prop:=l.Pairwise fun a b=>Op.bytesLess a b=true
def lbF(l:List Bs)(t:Bs):Nat:=(l.takeWhile fun x=>Op.bytesLess x t).length
theorem mQ(l:List Bs)(t:Bs):lbF l t≤l.length:=by
 unfold lbF;have:=(List.takeWhile_sublist (l:=l) fun x=>Op.bytesLess x t).length_le;exact this
theorem fa(a:Bs)(l:List Bs)(t:Bs):lbF (a::l) t=if Op.bytesLess a t=true then lbF l t+1 else 0:=by
 unfold lbF;rw[X3];split<;>simp
theorem rR{l:List Bs}{t:Bs}:∀j,j<lbF l t→∃x,l[j]? =some x∧Op.bytesLess x t=true:=by
 induction l with
 |nil=>intro j h;simp[lbF]at h
 |cons a l ih=>
  intro j h;rw[fa]at h;split at h
  ·rename_i ha;cases j with
   |zero=>exact⟨a,rfl,ha⟩
   |succ j=>exact ih j (by omega)
  ·omega
theorem rS{l:List Bs}{t:Bs}(hs:Srt l):∀j x,lbF l t≤j→l[j]? =some x→Op.bytesLess x t=false:=by
 induction l with
 |nil=>intro j x _ h;simp at h
 |cons a l ih=>
  intro j x h hx;rw[fa]at h;have hp:=S5.1 hs;split at h
  ·rename_i ha;cases j with
   |zero=>omega
   |succ j=>exact ih hp.2 j x (by omega) (by simpa using hx)
  ·rename_i ha;cases j with
   |zero=>simp at hx;subst hx;simpa using ha
   |succ j=>
    have hm:=hp.1 x (J2 (by simpa using hx));cases hq:Op.bytesLess x t with
    |false=>rfl
    |true=>exact absurd (eZ hm hq) ha
theorem oK{l:List Bs}{t:Bs}(hs:Srt l)(hm:t∈l):l[lbF l t]? =some t:=by
 obtain⟨j,hj⟩:=O8 hm;rcases R3 j (lbF l t)with h|h|h
 ·obtain⟨x,hx,hl⟩:=rR j h;rw[hj]at hx;cases hx;rw[ce]at hl;cases hl
 ·rw[← h];exact hj
 ·have hlt:lbF l t<l.length:=by have:=(f9.1 hj).1;omega
  have h1:l[lbF l t]? =some l[lbF l t]:=I3 hlt;have h2:=rS hs _ _ (J1 _) h1;have h3:=(List.pairwise_iff_getElem.1 hs) (lbF l t) j hlt (f9.1 hj).1 h;rw[(f9.1 hj).2,h2]at h3;cases h3
variable (G:Nat→Option (List AVal))
theorem uk(w:World)(n:Nat):Below w.heap.size w (w.drewN n):=by
 induction n with
 |zero=>exact T8 _ _
 |succ n ih=>exact ih.trans (Below.drew (T8 _ _))
theorem lN(l:List Bs)(t:Bs)(hs:Srt l)(hl:l.length≤100000)(h:Heap):Sat (CT G) 156 [.sl 1 (l.map .str),.str t] h (fun r h'=>r=.tup [.int .i64 (lbF l t),.bool (decide (t∈l))]∧h'=h):=by
 intro B S μ w us fit rl;obtain⟨hul,hur⟩:=rl
 match us,hul,hur with
 | [v0,v1],_,hur=>
  have r0:Rep w S μ (.sl 1 (l.map .str)) v0:=hur 0 _ rfl;have r1:Rep w S μ (.str t) v1:=hur 1 _ rfl;obtain rfl:=r1.str_inv
  change OpOk Tryz.prog _ ((callFunc 156 #[v0,.string ⟨t.toArray⟩]).run Tryz.prog w)
  rw[cO (f:=156) Tryz.func156 rfl rfl];have fin:∀(w':World) (i:Nat) (b:Bool),Below w.heap.size w w'→i=lbF l t→b=decide (t∈l)→∃v,Value.tuple #[.int .i64 i,.bool b]=v∧OpPost (CT G) B S μ w (fun r h'=>r=.tup [.int .i64 (lbF l t),.bool (decide (t∈l))]∧h'=h) v w':=by
   rintro w' i b hb rfl rfl;obtain⟨f',st⟩:=fit.grown hb;exact⟨_,rfl,_,h,S,μ,⟨rfl,rfl⟩,st,f',jb (.int _ _) (.bool _)⟩
  by_cases hn:l=[]
  ·subst hn;obtain⟨a,cap,rfl⟩:∃a cap,v0=.slice a 0 cap:=by
    cases r0 with
    |sl0 _ a cap=>exact⟨a,cap,rfl⟩
    |sl _ _ b o cap vs h1=>exact absurd rfl h1
   refine(Any2.slices_BinarySearch_string_empty Tryz.lays2_26 a cap ⟨t.toArray⟩ w).mono fun e w' ⟨he,hw⟩=>?_
   obtain⟨v,hv,hp⟩:=fin w' 0 false (by rw[hw];exact T8 _ _) rfl (by simp);exact⟨v,by rw[he, ← hv];rfl,hp⟩
  ·obtain⟨b,o,cap,rfl,hc⟩:∃b o cap,v0=.slice (some ⟨b,o,none⟩) l.length cap∧∀j,j<l.length→w.cell? ⟨b,o+j,none⟩=some (.string ⟨(l.getD j t).toArray⟩):=by
    generalize hm:l.map AVal.str=m at r0;cases r0 with
    |sl0 _ a cap=>simp at hm;exact absurd hm hn
    |sl _ _ b o cap vs h1 h2 h3 h4 h5 h6=>
     subst hm;refine⟨b,o,cap,by simp,fun j hj=>?_⟩;have hx:(l.map AVal.str)[j]? =some (.str l[j]):=(by rw[K5,I3 hj];rfl);have h7:=h5 j _ 0 _ hx rfl;have h8:=h6 j _ 0 _ hx rfl;rw[h8.str_inv]at h7;have:l.getD j t=l[j]:=by simp[List.getD,hj]
     rw[this];have e:o+(j*1+0)=o+j:=(by omega);rw[e]at h7;exact h7.2.1
   refine(Any2.slices_BinarySearch_string Tryz.lays2_26 b o l.length cap (fun j=>⟨(l.getD j t).toArray⟩) ⟨t.toArray⟩ w (by omega) hc).mono fun e w' ⟨he,q,hw⟩=>?_
   have hk:Lib.bsGo (fun j=>Op.bytesLess (⟨(l.getD j t).toArray⟩:ByteArray).toList (⟨t.toArray⟩:ByteArray).toList) l.length 0 l.length=lbF l t:=by
    refine Lib.bsGo_spec _ (lbF l t) (fun j hj=>?_) (fun j hj=>?_) _ _ _ (by omega) (X9 _) (mQ l t)
    ·obtain⟨x,hx,hlt⟩:=rR j hj;simp only[bX];rw[show l.getD j t=x by simp[List.getD,hx]];exact hlt
    ·simp only[bX];cases hx:l[j]? with
     |none=>rw[show l.getD j t=t by simp[List.getD,hx]];exact ce t
     |some x=>rw[show l.getD j t=x by simp[List.getD,hx]];exact rS hs j x hj hx
   rw[hk]at he;obtain⟨v,hv,hp⟩:=fin w' (lbF l t) (decide (lbF l t<l.length∧(⟨(l.getD (lbF l t) t).toArray⟩:ByteArray)=⟨t.toArray⟩)) (by rw[hw];exact uk w q) rfl (by
    rw[N8,I8,I8];constructor
    ·rintro⟨h1,h2⟩;have h3:l.getD (lbF l t) t=l[lbF l t]:=(by simp[List.getD,h1]);rw[h3]at h2;have:l[lbF l t]=t:=by simpa using h2
     rw[← this];exact List.getElem_mem h1
    ·intro hm;have:=oK hs hm;exact⟨(f9.1 this).1,by simp[List.getD,this]⟩)
   exact⟨v,by rw[he, ← hv],hp⟩
end Go.Av
namespace Go.Av
open Go Go.Proofs Go.RowKit
def encS(t:Bs):Value:=.string ⟨t.toArray⟩
theorem Only.setCells(b:Nat):∀(vs:List Value) (o:Nat) (w:World),Only w (w.setCells b o vs) (some b)
 | [],_,_=>Only.refl _ _
 |v::r,o,w=>(Only.setCell w ⟨b,o,none⟩ v).trans (Only.setCells b r (o+1) _)
theorem Only.alloc(w:World)(o:Obj)(q:Option Nat):Only w (w.alloc o) q:=
 ⟨rfl,rfl,rfl,by simp,fun k hk _=>Below.heap_alloc w o k hk⟩
theorem Only.into{w w1 w2:World}{q:Option Nat}{g:Nat}(h:Only w w1 q)(k:Only w1 w2 (some g))(hg:w.heap.size≤g):Only w w2 q:=
 ⟨k.os.trans h.os,k.tape.trans h.tape,k.output.trans h.output,P2 h.size k.size,
  fun i hi hq=>(k.block i (S4 hi h.size) (fun e=>by cases e;omega)).trans (h.block i hi hq)⟩
theorem Only.putRow{α:Type}[Inhabited α](enc:α→Value)(w:World)(b off:Nat)(d:Array α):Only w (Go.Sort.putRow enc w b off d) (some b):=
 ⟨rfl,rfl,rfl,by simp,fun k _ hq=>by
  have:b≠k:=fun e=>hq (by rw[e])
  simp[Go.Sort.putRow,Go.Sort.mapBlock,Array.getElem?_modify,this]⟩
section
variable {C:Ctx} {B:Nat} {S:Addr→Prop} {μ:Map} {h:Heap} {w w':World}
theorem Fits.give(f:Fits C B S μ h w){p:Nat}{m:MB}(hm:μ[p]? =some m){g:Nat}(hg:∀q m',μ[q]? =some m'→m'.blk=some g→q=p)(hB:B≤g)(hgl:g<w.heap.size):
  Step B S μ w (fun a=>S a∨a.block=g) (μ.set p ⟨none,m.ver+1,m.size,m.cap⟩) w∧Fits C B (fun a=>S a∨a.block=g) (μ.set p ⟨none,m.ver+1,m.size,m.cap⟩) (h.set p .dead) w:=by
 have hlt:=(f9.1 hm).1;have st:Step B S μ w (fun a=>S a∨a.block=g) (μ.set p ⟨none,m.ver+1,m.size,m.cap⟩) w:=⟨fun a ha=>.inl ha,fun _ _=>rfl,T8 _ _,bq hm (by simp) (fun e=>by simp at e),fun a ha=>by
  rcases ha with ha|ha
  ·exact .inl ha
  ·exact .inr (by omega)⟩
 have at_:∀q k,(μ.set p ⟨none,m.ver+1,m.size,m.cap⟩)[q]? =some k→(q=p∧k.blk=none)∨(q≠p∧μ[q]? =some k):=by
  intro q k hq;by_cases e:p=q
  ·subst e;rw[N3 hlt]at hq;cases hq;exact .inl ⟨rfl,rfl⟩
  ·rw[P7 e]at hq;exact .inr ⟨fun e'=>e e'.symm,hq⟩
 refine⟨st,⟨fun g cs hg=>(f.glob g cs hg).mono st,by simp[f.len],?_,?_,f.base,?_,?_⟩⟩
 ·intro p1 q1 m1 m2 b h1 h2 e1 e2;rcases at_ p1 m1 h1 with⟨_,k1⟩| ⟨_,k1⟩
  ·rw[k1]at e1;cases e1
  ·rcases at_ q1 m2 h2 with⟨_,k2⟩| ⟨_,k2⟩
   ·rw[k2]at e2;cases e2
   ·exact f.sep p1 q1 m1 m2 b k1 k2 e1 e2
 ·intro p1 m1 b h1 e1;rcases at_ p1 m1 h1 with⟨_,k1⟩| ⟨r1,k1⟩
  ·rw[k1]at e1;cases e1
  ·obtain⟨a1,a2,a3⟩:=f.own p1 m1 b k1 e1;refine⟨a1,a2,fun a ha=>?_⟩;rcases ha with ha|ha
   ·exact a3 a ha
   ·intro e;exact r1 (hg p1 m1 k1 (by rw[e1, ← e,ha]))
 ·intro a ha;rcases ha with ha|ha
  ·exact f.lie a ha
  ·omega
 ·intro p1 m1 k1 h1 h2;rcases at_ p1 m1 h1 with⟨rfl,_⟩| ⟨r1,h1⟩
  ·rw[N3 (by rw[← f.len];exact hlt)]at h2;cases h2;trivial
  ·rw[P7 (fun e=>r1 e.symm)]at h2;exact(f.blk p1 m1 k1 h1 h2).mono st fun b _=>rfl
theorem ul{g off cap:Nat}{ls:List Bs}(hS:∀a,a.block=g→S a)(hl:ls.length≤cap)(hm:cap≤maxLen)(hc:∀j x,ls[j]? =some x→w.cell? ⟨g,off+j,none⟩=some (encS x)):
  Rep w S μ (.sl 1 (ls.map .str)) (.slice (some ⟨g,off,none⟩) ls.length cap):=by
 by_cases hn:ls=[]
 ·subst hn;exact .sl0 1 _ cap
 have hlen:(ls.map AVal.str).length=ls.length:=I4 ..;rw[← hlen];refine .sl 1 (ls.map .str) g off cap (fun i _=>encS (ls.getD i [])) (by simpa using hn) (by omega) hm (fun i x hx=>?_) (fun i x j c hx hj=>?_) (fun i x j c hx hj=>?_)
 ·obtain⟨a,_,rfl⟩:=J8.1 (J2 hx);rfl
 ·rw[K5]at hx;obtain⟨a,ha,rfl⟩:=K9.1 hx
  match j with
  |0=>
   simp[AVal.cells]at hj;subst hj;refine⟨hS _ rfl,?_,rfl⟩;rw[show off+(i*1+0)=off+i by omega,hc i a ha];simp[List.getD,ha]
  |j+1=>simp[AVal.cells]at hj
 ·rw[K5]at hx;obtain⟨a,ha,rfl⟩:=K9.1 hx
  match j with
  |0=>
   simp[AVal.cells]at hj;subst hj;simp only[List.getD,ha,O3];exact .str a
  |j+1=>simp[AVal.cells]at hj
theorem jh(f:Fits C B S μ h w){p:Nat}{m:MB}(hm:μ[p]? =some m)(o:Only w w' m.blk){g off cap:Nat}{ls:List Bs}(hg:m.blk=some g∨(w.heap.size≤g∧g<w'.heap.size))
  (hl:ls.length≤cap)(hx:cap≤maxLen)(hc:∀j x,ls[j]? =some x→w'.cell? ⟨g,off+j,none⟩=some (encS x)):
  ∃S' μ',Step B S μ w S' μ' w'∧Fits C B S' μ' (h.set p .dead) w'∧Rep w' S' μ' (.sl 1 (ls.map .str)) (.slice (some ⟨g,off,none⟩) ls.length cap):=by
 obtain⟨f1,st1⟩:=f.update (m':=⟨m.blk,m.ver+1,m.size,m.cap⟩) (k':=.dead) hm o (by simp) (fun e=>by simp at e) (.inl rfl) trivial;have hlt:=(f9.1 hm).1;have hm1:(μ.set p ⟨m.blk,m.ver+1,m.size,m.cap⟩)[p]? =some ⟨m.blk,m.ver+1,m.size,m.cap⟩:=N3 hlt;have hgg:(B≤g∧g<w'.heap.size)∧∀q m',(μ.set p ⟨m.blk,m.ver+1,m.size,m.cap⟩)[q]? =some m'→m'.blk=some g→q=p:=by
  rcases hg with hg| ⟨h1,h2⟩
  ·obtain⟨a1,a2,_⟩:=f.own p m g hm hg;exact⟨⟨a1,S4 a2 o.size⟩,fun q m' hq hb=>f1.sep q p m' _ g hq hm1 hb hg⟩
  ·refine⟨⟨P2 f.base h1,h2⟩,fun q m' hq hb=>?_⟩;by_cases e:p=q
   ·exact e.symm
   ·rw[P7 e]at hq;have:=(f.own q m' g hq hb).2.1;omega
 obtain⟨st2,f2⟩:=f1.give hm1 hgg.2 hgg.1.1 hgg.1.2;refine⟨_,_,st1.trans st2,?_,ul (fun a ha=>.inr ha) hl hx hc⟩;simpa using f2
end
theorem iL{C:Ctx}{B:Nat}{S:Addr→Prop}{μ:Map}{h:Heap}{w:World}(f:Fits C B S μ h w){p ver len:Nat}{T:TypeId}{room:Bool}{l:List Bs}{v:Value}(hn:l≠ [])
  (hg:getRow h p ver=some (T,1,l.map .str))(hv:Rep w S μ (.hs p ver 0 len room) v):
  ∃m b cur,μ[p]? =some m∧m.blk=some b∧w.heap[b]? =some (.cells cur T (0,0))∧cur.size=m.cap∧l.length≤m.cap∧m.cap≤maxLen∧0<m.cap∧v=.slice (some ⟨b,0,none⟩) len (if room then m.cap else len)∧
   ∀j x,l[j]? =some x→w.cell? ⟨b,0+j,none⟩=some (encS x):=by
 obtain⟨m,hm,hf⟩:=f.row hg;rcases hf.lies with⟨_,h2⟩| ⟨b,cur,hb,hheap,hsz,⟨h0,hle⟩,hmax,hcell⟩
 ·exact absurd (V8.1 h2) hn
 rcases hv.hs_now hm hf.hver with⟨h1,_⟩| ⟨b',hb',_,hve⟩
 ·rw[hb]at h1;cases h1
 rw[hb]at hb';cases hb';have hs1:=hf.hsize;refine⟨m,b,cur,hm,hb,hheap,by omega,by simpa using hle,hmax,h0,by rw[hve];simp,fun j x hx=>?_⟩;have hx':(l.map AVal.str)[j]? =some (.str x):=by rw[K5,hx];rfl
 obtain⟨u,hu,hr⟩:=hcell j (.str x) 0 (.str x) hx' rfl;rw[hr.str_inv]at hu;have hlt:=(L6.1 hu).1;simp only[World.cell?,hheap];have e:j*1+0=0+j:=by omega
 rw[e]at hu;simpa [encS]using hu
theorem gN(w:World)(c:Array Value)(T:TypeId)(j:Nat):(w.alloc (.cells c T)).cell? ⟨w.heap.size,j,none⟩=c[j]? :=by
 simp only[World.cell?,bY];rfl
theorem dq(b:Nat):∀(vs:List Value) (o:Nat) (w:World) (k:Nat),(w.cell? ⟨b,k,none⟩).isSome=true→((w.setCells b o vs).cell? ⟨b,k,none⟩).isSome=true
 | [],_,_,_,h=>h
 |v::r,o,w,k,h=>dq b r (o+1) (w.setCell ⟨b,o,none⟩ v) k (by
  by_cases e:o=k
  ·subst e;obtain⟨u,hu⟩:=K6.1 h;rw[World.cell?_setCell_same _ _ _ hu];rfl
  ·rw[World.cell?_setCell_other _ _ _ _ (by simpa using e)];exact h)
theorem iw{w:World}{b o:Nat}{v:Value}(hs:(w.cell? ⟨b,o,none⟩).isSome=true):(w.setCells b o [v]).cell? ⟨b,o,none⟩=some v:=by
 have:=World.cell?_setCells_in b [v] o w (fun j hj=>by simp at hj;subst hj;exact hs) 0 (by simp);simpa using this
theorem iM(l:List Bs)(t:Bs)(i:Nat)(hi:i≤l.length)(j:Nat)(x:Bs)(hx:(l.take i++t::l.drop i)[j]? =some x):
  (j<i∧l[j]? =some x)∨(j=i∧x=t)∨(i<j∧l[j-1]? =some x):=by
 rcases R3 j i with h|h|h
 ·rw[J0 (by simp;omega),K7 h]at hx;exact .inl ⟨h,hx⟩
 ·subst h;rw[J4 (by rw[M2];omega)]at hx;have:j-(l.take j).length=0:=by rw[M2];omega
  rw[this]at hx;simp at hx;exact .inr (.inl ⟨rfl,hx.symm⟩)
 ·rw[J4 (by simp;omega)]at hx;have:j-(l.take i).length=(j-i-1)+1:=by rw[M2];omega
  rw[this,R8,N4]at hx;refine .inr (.inr ⟨h,?_⟩);rw[← hx];congr 1;omega
variable (G:Nat→Option (List AVal))
theorem q7(l:List Bs)(t:Bs)(i v1 v2:Nat)(rm:Bool)(hi:i≤l.length)(hn:l≠ [])(hl:l.length≤100000)(h:Heap):
  Sat (CT G) 99 [.hs h.length v1 0 l.length true,.int .i64 i,.hs (h.length+1) v2 0 1 rm] (h++[Blk.row 9 1 v1 (l.map .str),.row 9 1 v2 [.str t]])
   (fun r h'=>r=.sl 1 ((l.take i++t::l.drop i).map .str)∧h'=h++[.dead,.row 9 1 v2 [.str t]]):=by
 intro B S μ w us fit rl;obtain⟨hul,hur⟩:=rl
 match us,hul,hur with
 | [u0,u1,u2],_,hur=>
  have r0:Rep w S μ (.hs h.length v1 0 l.length true) u0:=hur 0 _ rfl;have r1:Rep w S μ (.int .i64 i) u1:=hur 1 _ rfl;have r2:Rep w S μ (.hs (h.length+1) v2 0 1 rm) u2:=hur 2 _ rfl;obtain rfl:=r1.int_inv;have hg0:getRow (h++[Blk.row 9 1 v1 (l.map .str),.row 9 1 v2 [.str t]]) h.length v1=some (9,1,l.map .str):=by simp[getRow]
  have hg2:getRow (h++[Blk.row 9 1 v1 (l.map .str),.row 9 1 v2 [.str t]]) (h.length+1) v2=some (9,1,[t].map .str):=by simp[getRow]
  obtain⟨m,b,cur,hm,hb,hheap,hsz,hle,hmax,h0,rfl,hc⟩:=iL fit hn hg0 r0;obtain⟨m2,b2,cur2,hm2,hb2,hheap2,hsz2,hle2,hmax2,h02,rfl,hc2⟩:=iL fit (by simp) hg2 r2;simp only[↓reduceIte];have hne:b2≠b:=fun e=>by have:=fit.sep _ _ m2 m b hm2 hm (by rw[hb2,e]) hb;omega
  have hset:(h++[Blk.row 9 1 v1 (l.map .str),.row 9 1 v2 [.str t]]).set h.length .dead=h++[.dead,.row 9 1 v2 [.str t]]:=by simp[List.set_append]
  have hil:(l.take i++t::l.drop i).length=l.length+1:=by simp;omega
  change OpOk Tryz.prog _ ((callFunc 99 #[_,_,_]).run Tryz.prog w)
  rw[cO (f:=99) Tryz.func99 rfl rfl];have fin:∀(w':World) (g cap:Nat),Only w w' (some b)→(g=b∨(w.heap.size≤g∧g<w'.heap.size))→l.length+1≤cap→cap≤maxLen→
    (∀j x,(l.take i++t::l.drop i)[j]? =some x→w'.cell? ⟨g,0+j,none⟩=some (encS x))→
    OpPost (CT G) B S μ w (fun r h'=>r=.sl 1 ((l.take i++t::l.drop i).map .str)∧h'=h++[.dead,.row 9 1 v2 [.str t]]) (.slice (some ⟨g,0,none⟩) (l.length+1) cap) w':=by
   intro w' g cap ho hg hcap hmx hcell;obtain⟨S',μ',st,f',rp⟩:=jh fit hm (by rw[hb];exact ho) (g:=g) (by rcases hg with rfl|hg;exact .inl hb;exact .inr hg) (by rw[hil];exact hcap) hmx hcell;rw[hset]at f';rw[hil]at rp;exact⟨_,_,S',μ',⟨rfl,rfl⟩,st,f',rp⟩
  have hcs:∀j v,(l.map encS)[j]? =some v→w.cell? ⟨b,0+j,none⟩=some v:=by
   intro j v hv;rw[K5]at hv;obtain⟨x,hx,rfl⟩:=K9.1 hv;exact hc j x hx
  have hvs:∀j v,[encS t][j]? =some v→w.cell? ⟨b2,0+j,none⟩=some v:=by
   intro j v hv
   match j with
   |0=>simp at hv;subst hv;exact hc2 0 t rfl
   |j+1=>simp at hv
  have h1c:∀v∈l.map encS,v.oneCell'=true:=by intro v hv;obtain⟨x,_,rfl⟩:=J8.1 hv;rfl
  have h1v:∀v∈ [encS t],v.oneCell'=true:=by intro v hv;simp at hv;subst hv;rfl
  have there:∀k,k<m.cap→(w.cell? ⟨b,k,none⟩).isSome=true:=by
   intro k hk;have:k<cur.size:=by omega
   simp[World.cell?,hheap,this]
  have mx:maxLen≤9223372036854775807:=by decide
  have hdr:(l.map encS).drop i=(l.drop i).map encS:=by rw[W5]
  by_cases hroom:l.length+1≤m.cap
  ·by_cases hil2:i=l.length
   ·subst hil2;refine(Any2.slices_Insert_string_end_room Tryz.lays2_22 b 0 l.length m.cap b2 0 1 _ [encS t] w (by omega) hroom (by omega) rfl (fun j hj=>there _ (by omega)) (fun j hj=>by simp[World.frozen?,hheap]) hvs h1v).mono fun e w' ⟨he,hw⟩=>?_
    refine⟨_,he,fin w' b m.cap (by rw[hw];exact Only.setCells _ _ _ _) (.inl rfl) hroom hmax fun j x hx=>?_⟩;rw[hw];rcases iM l t l.length (J1 _) j x hx with⟨h1,h2⟩| ⟨rfl,rfl⟩| ⟨h1,h2⟩
    ·rw[R6 _ _ _ _ _ (fun _ _=>.inl (by simp;omega))];exact hc j x h2
    ·exact iw (there _ (by omega))
    ·have:=(f9.1 h2).1;omega
   ·refine(Any2.slices_Insert_string_shift Tryz.lays2_22 b 0 l.length m.cap i b2 0 1 _ (l.map encS) [encS t] w (by omega) (by omega) hroom (by omega) hne (by simp) rfl hcs (fun j hj=>there _ (by omega)) (fun j hj=>by simp[World.frozen?,hheap]) hvs h1c h1v
     9 9 cur2.size cur.size (by simp[World.shape?,hheap2]) (by simp[World.shape?,hheap]) (by omega) (by simp[World.frozen?,hheap2]) (by simp[World.frozen?,hheap2])).mono fun e w' ⟨he,hw⟩=>?_
    refine⟨_,he,fin w' b m.cap (by rw[hw];exact((Only.drew w _).trans (Only.setCells _ _ _ _)).trans (Only.setCells _ _ _ _)) (.inl rfl) hroom hmax fun j x hx=>?_⟩;rw[hw];have th2:∀k,k<m.cap→((w.drew.setCells b (0+(i+1)) ((l.map encS).drop i)).cell? ⟨b,k,none⟩).isSome=true:=fun k hk=>dq b _ _ _ _ (there k hk)
    rcases iM l t i hi j x hx with⟨h1,h2⟩| ⟨rfl,rfl⟩| ⟨h1,h2⟩
    ·rw[R6 _ _ _ _ _ (fun _ _=>.inl (by simp;omega)),R6 _ _ _ _ _ (fun _ _=>.inl (by simp;omega))];exact hc j x h2
    ·exact iw (th2 _ (by omega))
    ·have hjl:=(f9.1 h2).1;rw[R6 _ _ _ _ _ (fun _ _=>.inr (by simp;omega))];have:=World.cell?_setCells_in b ((l.map encS).drop i) (0+(i+1)) w.drew (fun k hk=>by
      have hk2:k<l.length-i:=(by simpa using hk);exact there _ (by omega)) (j-1-i) (by simp;omega)
     rw[show 0+(i+1)+(j-1-i)=0+j by omega]at this;rw[this];have e2:i+(j-1-i)=j-1:=(by omega);simp only[List.getElem_drop,List.getElem_map,e2];rw[(f9.1 h2).2]
  ·have hcl:m.cap=l.length:=(by omega);have hcg:=grownCap_ge w (l.length+1) m.cap 9;have hmx1:(100001:Nat)≤maxLen:=(by decide);have hcm:=grownCap_le_maxLen w (l.length+1) m.cap 9 (by omega);by_cases hil2:i=l.length
   ·subst hil2;refine(Any2.slices_Insert_string_end_grow Tryz.lays2_22 (some ⟨b,0,none⟩) l.length m.cap b2 0 1 _ (l.map encS) [encS t] w (by omega) (by omega) (by omega) (by omega) (by simp) rfl (by simp)
     (fun a ha j v hv=>by cases ha;rw[bh];exact hcs j v hv) hvs h1v).mono fun e w' ⟨he,hw⟩=>?_
    refine⟨_,he,fin w' w.heap.size _ (by rw[hw];exact(Only.drew w _).trans (Only.alloc _ _ _)) (.inr ⟨J1 _,by rw[hw];simp⟩) hcg hcm fun j x hx=>?_⟩;rw[hw];refine(gN w.drew _ _ _).trans ?_;rw[W1 (by simp;have:=(f9.1 hx).1;rw[hil]at this;omega)];rcases iM l t l.length (J1 _) j x hx with⟨h1,h2⟩| ⟨rfl,rfl⟩| ⟨h1,h2⟩
    ·rw[Q6,J0 (by simpa using by omega),K5,N7,h2];rfl
    ·rw[Q6,J4 (by simp)];simp
    ·have:=(f9.1 h2).1;omega
   ·refine(Any2.slices_Insert_string_grow Tryz.lays2_22 b 0 l.length m.cap i b2 0 1 _ (l.map encS) [encS t] w (by omega) (by omega) (by omega) (by omega) (by omega) (by simp) rfl hcs hvs h1c h1v).mono fun e w' ⟨he,hw⟩=>?_
    rw[show Tryz.lays2_22_ren.t 9=9 from rfl]at hw;generalize hw1:w.alloc (.cells (((l.map encS).take i).toArray++Builtin.zeroCells (Value.string ⟨#[]⟩).cells (l.length+1-i)++Builtin.zeroCells (Value.string ⟨#[]⟩).cells (grownCap w (l.length+1) m.cap 9-(l.length+1))) 9)=w1 at hw;have hsz1:w1.heap.size=w.heap.size+1:=(by rw[← hw1];simp);have ho1:Only w w1 (some b):=(by rw[← hw1];exact Only.alloc _ _ _);have hw':w'=((w1.drew.setCells w.heap.size i [encS t]).drew).setCells w.heap.size (i+1) ((l.map encS).drop i):=hw;have ho2:Only w1 w' (some w.heap.size):=(by rw[hw'];exact(((Only.drew _ _).trans (Only.setCells _ _ _ _)).trans (Only.drew _ _)).trans (Only.setCells _ _ _ _));have hc1:∀k,w1.cell? ⟨w.heap.size,k,none⟩=(((l.map encS).take i).toArray++Builtin.zeroCells (Value.string ⟨#[]⟩).cells (l.length+1-i)++Builtin.zeroCells (Value.string ⟨#[]⟩).cells (grownCap w (l.length+1) m.cap 9-(l.length+1)))[k]? :=by
     intro k;rw[← hw1];exact gN _ _ _ _
    have th1:∀k,k<l.length+1→(w1.cell? ⟨w.heap.size,k,none⟩).isSome=true:=by
     intro k hk;rw[hc1,M1 (by simp[size_zeroCells,Value.cells];omega)];rfl
    have th2:∀k,k<l.length+1→((w1.drew.setCells w.heap.size i [encS t]).drew.cell? ⟨w.heap.size,k,none⟩).isSome=true:=fun k hk=>dq _ _ _ w1.drew _ (th1 k hk)
    refine⟨_,he,fin w' w.heap.size _ (Only.into ho1 ho2 (J1 _)) (.inr ⟨J1 _,by have:=ho2.size;omega⟩) hcg hcm fun j x hx=>?_⟩;rw[hw'];rcases iM l t i hi j x hx with⟨h1,h2⟩| ⟨rfl,rfl⟩| ⟨h1,h2⟩
    ·rw[R6 _ _ _ _ _ (fun _ _=>.inl (by simp;omega))];refine(R6 _ _ _ w1.drew _ (fun _ _=>.inl (by simp;omega))).trans ?_;refine(hc1 _).trans ?_;rw[W1 (by simp;omega),W1 (by simp;omega),Q6,N7,K7 h1,K5,h2];rfl
    ·rw[R6 _ _ _ _ _ (fun _ _=>.inl (by simp))];have:=iw (w:=w1.drew) (b:=w.heap.size) (o:=j) (v:=encS x) (th1 j (by omega));simpa using this
    ·have hjl:=(f9.1 h2).1;have:=World.cell?_setCells_in w.heap.size ((l.map encS).drop i) (i+1) (w1.drew.setCells w.heap.size i [encS t]).drew (fun k hk=>by
      have hk2:k<l.length-i:=(by simpa using hk);exact th2 _ (by omega)) (j-1-i) (by simp;omega)
     rw[show i+1+(j-1-i)=0+j by omega]at this;rw[this];have e2:i+(j-1-i)=j-1:=(by omega);simp only[List.getElem_drop,List.getElem_map,e2];rw[(f9.1 h2).2]
theorem nX(a:AVal)(ha:a=.ez∨a=.nil (.slice none 0 0))(t:Bs)(v2:Nat)(rm:Bool)(h:Heap):
  Sat (CT G) 99 [a,.int .i64 0,.hs h.length v2 0 1 rm] (h++[Blk.row 9 1 v2 [.str t]]) (fun r h'=>r=.sl 1 [.str t]∧h'=h++[.dead]):=by
 intro B S μ w us fit rl;obtain⟨hul,hur⟩:=rl
 match us,hul,hur with
 | [u0,u1,u2],_,hur=>
  have r0:Rep w S μ a u0:=hur 0 _ rfl;have r1:Rep w S μ (.int .i64 0) u1:=hur 1 _ rfl;have r2:Rep w S μ (.hs h.length v2 0 1 rm) u2:=hur 2 _ rfl;obtain rfl:=r1.int_inv;have hg2:getRow (h++[Blk.row 9 1 v2 [.str t]]) h.length v2=some (9,1,[t].map .str):=by simp[getRow]
  obtain⟨m2,b2,cur2,hm2,hb2,hheap2,hsz2,hle2,hmax2,h02,rfl,hc2⟩:=iL fit (by simp) hg2 r2;have hset:(h++[Blk.row 9 1 v2 [.str t]]).set h.length .dead=h++[.dead]:=by simp[List.set_append]
  obtain⟨base,rfl⟩:∃base,u0=.slice base 0 0:=by
   rcases ha with rfl|rfl
   ·cases r0 with|ez a=>exact⟨_,rfl⟩
   ·exact⟨none,r0.nil_inv⟩
  change OpOk Tryz.prog _ ((callFunc 99 #[_,_,_]).run Tryz.prog w)
  rw[cO (f:=99) Tryz.func99 rfl rfl];have hvs:∀j v,[encS t][j]? =some v→w.cell? ⟨b2,0+j,none⟩=some v:=by
   intro j v hv
   match j with
   |0=>simp at hv;subst hv;exact hc2 0 t rfl
   |j+1=>simp at hv
  have h1v:∀v∈ [encS t],v.oneCell'=true:=by intro v hv;simp at hv;subst hv;rfl
  have hcg:=grownCap_ge w (0+1) 0 9;have hcm:=grownCap_le_maxLen w (0+1) 0 9 (by decide);refine(Any2.slices_Insert_string_end_grow Tryz.lays2_22 base 0 0 b2 0 1 _ [] [encS t] w (by omega) (by omega) (by omega) (by omega) rfl rfl (fun _=>rfl)
   (fun a ha j v hv=>by simp at hv) hvs h1v).mono fun e w' ⟨he,hw⟩=>?_
  obtain⟨S',μ',st,f',rp⟩:=jh (ls:=[t]) (off:=0) (cap:=grownCap w (0+1) 0 9) (w':=w') fit hm2 (by rw[hw];exact(Only.drew w _).trans (Only.alloc _ _ _)) (g:=w.heap.size) (.inr ⟨J1 _,by rw[hw];simp⟩) hcg hcm (fun j x hx=>by
   rw[hw];refine(gN w.drew _ _ _).trans ?_
   match j with
   |0=>simp at hx;subst hx;rw[W1 (by simp)];rfl
   |j+1=>simp at hx)
  rw[hset]at f';exact⟨_,he,_,_,S',μ',⟨rfl,rfl⟩,st,f',rp⟩
theorem q9(l:List Bs)(i v1:Nat)(hi:i<l.length)(hl:l.length≤100000)(h:Heap):
  Sat (CT G) 100 [.hs h.length v1 0 l.length true,.int .i64 i,.int .i64 (i+1)] (h++[Blk.row 9 1 v1 (l.map .str)])
   (fun r h'=>r=.sl 1 ((l.take i++l.drop (i+1)).map .str)∧h'=h++[.dead]):=by
 intro B S μ w us fit rl;obtain⟨hul,hur⟩:=rl
 match us,hul,hur with
 | [u0,u1,u2],_,hur=>
  have r0:Rep w S μ (.hs h.length v1 0 l.length true) u0:=hur 0 _ rfl;have r1:Rep w S μ (.int .i64 i) u1:=hur 1 _ rfl;have r2:Rep w S μ (.int .i64 (i+1)) u2:=hur 2 _ rfl;obtain rfl:=r1.int_inv;obtain rfl:=r2.int_inv;have hn:l≠ []:=by rintro rfl;simp at hi
  have hg0:getRow (h++[Blk.row 9 1 v1 (l.map .str)]) h.length v1=some (9,1,l.map .str):=by simp[getRow]
  obtain⟨m,b,cur,hm,hb,hheap,hsz,hle,hmax,h0,rfl,hc⟩:=iL fit hn hg0 r0;simp only[↓reduceIte];have hset:(h++[Blk.row 9 1 v1 (l.map .str)]).set h.length .dead=h++[.dead]:=by simp[List.set_append]
  have mx:maxLen≤9223372036854775807:=by decide
  change OpOk Tryz.prog _ ((callFunc 100 #[_,_,_]).run Tryz.prog w)
  rw[cO (f:=100) Tryz.func100 rfl rfl];have hH:Go.Sort.Holds Go.Proofs.encStr w b 0 l.toArray:=by
   intro j hj;have hj':j<l.length:=(by simpa using hj);refine⟨?_,by simp[World.frozen?,hheap]⟩;rw[hc j l[j] (I3 hj')];simp[encS,Go.Proofs.encStr,hj']
  have hlen:(l.take i++l.drop (i+1)++List.replicate (i+1-i) ([]:List UInt8)).length=l.length:=by simp;omega
  refine(Tryz.slices_Delete_string b 0 m.cap i (i+1) l w hH hle (by omega) (by omega) (by omega)).mono fun e w' ⟨he,q,hw⟩=>?_
  obtain⟨S',μ',st,f',rp⟩:=jh (ls:=l.take i++l.drop (i+1)) (off:=0) (cap:=m.cap) (w':=w') fit hm (by rw[hw,hb];exact Only.trans (b:=Go.Sort.ahead w q) ⟨rfl,rfl,rfl,J1 _,fun _ _ _=>rfl⟩ (Only.putRow _ _ _ _ _)) (g:=b) (.inl hb) (by simp;omega) hmax (fun j x hx=>by
   rw[hw];have hjl:=(f9.1 hx).1;have hH2:Go.Sort.Holds Go.Proofs.encStr (Go.Sort.ahead w q) b 0 l.toArray:=hH;rw[Go.Sort.cell?_putRow _ _ _ _ l.toArray _ hH2 (by simpa using hlen) j (by rw[V4,J5];omega)];have hx2:(l.take i++l.drop (i+1)++List.replicate (i+1-i) ([]:List UInt8))[j]? =some x:=(by rw[J0 hjl];exact hx);have:(l.take i++l.drop (i+1)++List.replicate (i+1-i) ([]:List UInt8)).toArray[j]! =x:=by
    rw[getElem!_def,Q6,hx2]
   rw[this];rfl)
  rw[hset]at f';have hl2:(l.take i++l.drop (i+1)).length=l.length-(i+1-i):=by simp;omega
  rw[hl2]at rp;exact⟨_,he,_,_,S',μ',⟨rfl,rfl⟩,st,f',rp⟩
end Go.Av
namespace Go.Av
open Go Go.Proofs Go.RowKit
attribute [local irreducible] WP WPl WPix Sat
variable (G:Nat→Option (List AVal))
theorem fK(h:Heap):Sat (CT G) 94 [.sl 1 []] h (fun r h'=>(r=.ez∨r=.nil (.slice none 0 0))∧h'=h):=by
 refine sb [.tmp 2] Tryz.func94 ?_;intro Q hQ;refine wk trivial ?_;refine jy _ (by exact zq trivial) (.inl rfl) fun b=>?_
 cases b
 ·try refine sq trivial ?_
  refine wk trivial ?_;refine fS (.inl rfl) (by simp(disch:=first|omega| (simp only[go_sem, ↓reduceIte,seval];first|done|omega)|fail) only[go_sem, ↓reduceIte,seval];rfl) (by simp(disch:=first|omega| (simp only[go_sem, ↓reduceIte,seval];first|done|omega)|fail) only[go_sem, ↓reduceIte,seval];rfl) (by simp(disch:=first|omega| (simp only[go_sem, ↓reduceIte,seval];first|done|omega)|fail) only[go_sem, ↓reduceIte,seval];rfl) (by simp(disch:=first|omega| (simp only[go_sem, ↓reduceIte,seval];first|done|omega)|fail) only[go_sem, ↓reduceIte,seval];try rfl) (by omega) (by simp only[elemsOf, ↓reduceIte];try rfl) (by simp) (fun _=>?_) (fun h=>absurd rfl h);try refine sq trivial ?_
  refine wk trivial ?_;refine ee hQ trivial ?_;exact M9 .ez ⟨.inl rfl,rfl⟩
 ·try refine sq trivial ?_
  refine wk trivial ?_;refine ee hQ trivial ?_;exact M9 (.nil _) ⟨.inr rfl,rfl⟩
theorem qa(l:List Bs)(hn:l≠ [])(hl:l.length≤1048576)(h:Heap):Sat (CT G) 94 [.sl 1 (l.map .str)] h (fun r h'=>r=.hs h.length 0 0 l.length true∧h'=h++[Blk.row 9 1 0 (l.map .str)]):=by
 obtain⟨a,l,rfl⟩:∃a k,l=a::k:=by
  cases l with
  |nil=>exact absurd rfl hn
  |cons a k=>exact⟨a,k,rfl⟩
 have hr:(List.map AVal.str (a::l))≠ []:=by simp
 refine sb [.tmp 2] Tryz.func94 ?_;intro Q hQ;refine wk trivial ?_;refine fS (.inl rfl) (by simp(disch:=first|omega| (simp only[go_sem, ↓reduceIte,seval];first|done|omega)|fail) only[go_sem, ↓reduceIte,seval];rfl) (by simp(disch:=first|omega| (simp only[go_sem, ↓reduceIte,seval];first|done|omega)|fail) only[go_sem, ↓reduceIte,seval];rfl) (by simp(disch:=first|omega| (simp only[go_sem, ↓reduceIte,seval];first|done|omega)|fail) only[go_sem, ↓reduceIte,seval];rfl) (by simp(disch:=first|omega| (simp only[go_sem, ↓reduceIte,seval];first|done|omega)|fail) only[go_sem, ↓reduceIte,seval];try rfl) (by omega) (by simp only[elemsOf, ↓reduceIte];try rfl) ?_ (fun h=>by simp at h) (fun _=>?_)
 ·simp[maxLen]at hl ⊢;omega
 try refine sq trivial ?_
 refine wk trivial ?_;refine ee hQ trivial ?_;exact Y5 (by simp) (.hs _ _ _ _ _ (by simp)) ⟨rfl,rfl⟩
section
variable {H:Heap} {n:Nat} {s:PS}
theorem qc(hn:n+9≤H.length)(x:Blk)(a:AVal)(ha:a=.ez∨a=.nil (.slice none 0 0))(t:Bs):Sat (CT G) 99 [a,.int .i64 0,.hs (H.length+1) 0 0 1 true] (so (H++[x,Blk.row 9 1 0 [.str t]]) n s)
  (fun r h'=>r=.sl 1 [.str t]∧h'=so (H++[x,.dead]) n s):=by
 have c:=nX G a ha t 0 true (so (H++[x]) n s);have hn1:n+9≤(H++[x]).length:=by simp;omega
 rw[b8 hn1,bv hn1,bv hn1]at c;simpa using c
theorem rU(hn:n+9≤H.length)(x:Blk)(l:List Bs)(t:Bs)(hl0:l≠ [])(hl:l.length≤100000):Sat (CT G) 99 [.hs (H.length+1) 0 0 l.length true,.int .i64 (lbF l t),.hs (H.length+2) 0 0 1 true] (so (H++[x,Blk.row 9 1 0 (l.map .str),Blk.row 9 1 0 [.str t]]) n s)
  (fun r h'=>r=.sl 1 ((l.take (lbF l t)++t::l.drop (lbF l t)).map .str)∧h'=so (H++[x,.dead,Blk.row 9 1 0 [.str t]]) n s):=by
 have c:=q7 G l t (lbF l t) 0 0 true (mQ l t) hl0 hl (so (H++[x]) n s);have hn1:n+9≤(H++[x]).length:=by simp;omega
 rw[b8 hn1,bv hn1,bv hn1]at c;simpa using c
theorem rV(hn:n+9≤H.length)(x:Blk)(l:List Bs)(i:Nat)(hi:i<l.length)(hl:l.length≤100000):Sat (CT G) 100 [.hs (H.length+1) 0 0 l.length true,.int .i64 i,.int .i64 (i+1)] (so (H++[x,Blk.row 9 1 0 (l.map .str)]) n s)
  (fun r h'=>r=.sl 1 ((l.take i++l.drop (i+1)).map .str)∧h'=so (H++[x,.dead]) n s):=by
 have c:=q9 G l i 0 hi hl (so (H++[x]) n s);have hn1:n+9≤(H++[x]).length:=by simp;omega
 rw[b8 hn1,bv hn1,bv hn1]at c;simpa using c
theorem bF{s':PS}{j:Heap}{R:AVal→Heap→Prop}{r0 r:AVal}(hn:n+9≤H.length)(hz:Frz (so (H++j) n s') H.length r0 r)(hR:R r (so H n s')):Fin (so H n s) (so (H++j) n s') R r0:=g9 hn rfl (PS.clo hn s') hz hR
theorem jU(hn:n+9≤H.length)(x:Blk)(l:List Bs):Frz (so (H++[x,Blk.row 9 1 0 (l.map .str)]) n s) H.length (.hs (H.length+1) 0 0 l.length true) (.sl 1 (l.map .str)):=by
 have hg:getRow (so (H++[x,Blk.row 9 1 0 (l.map .str)]) n s) (H.length+1) 0=some (9,1,l.map .str):=by
  rw[bU (by simp;omega) 0 (by omega)];simp[getRow]
 have:=U9 (n:=H.length) (len:=l.length) (room:=true) (by omega) hg (by simp) (fun r hr=>by obtain⟨a,_,rfl⟩:=J8.1 hr;exact .str _) (fun r hr c hc=>by obtain⟨a,_,rfl⟩:=J8.1 hr;simp[AVal.cells]at hc;subst hc;rfl);simpa using this
theorem cP(hn:n+9≤H.length)(x:Blk)(l:List Bs)(hl0:l≠ [])(hl:l.length≤1048576):Sat (CT G) 94 [.sl 1 (l.map .str)] (so (H++[x]) n s)
  (fun r h'=>r=.hs (H.length+1) 0 0 l.length true∧h'=so (H++[x,Blk.row 9 1 0 (l.map .str)]) n s):=by
 have c:=qa G l hl0 hl (so (H++[x]) n s);have hn1:n+9≤(H++[x]).length:=by simp;omega
 rw[b8 hn1,bv hn1]at c;simpa using c
end
theorem lw(s:PS)(id:Int)(t:Bs)(hs:Srt ((lkM s.it id).getD It.z).tags)(hl:((lkM s.it id).getD It.z).tags.length≤100000){H:Heap}{n:Nat}(hn:n+9≤H.length):Sat (CT G) 98 [.hp (n+8) 0 0 0,.int .i64 id,.str t] (so H n s) (fun r h'=>r=.tup [.int .i64 (lbF ((lkM s.it id).getD It.z).tags t),.bool (decide (t∈ ((lkM s.it id).getD It.z).tags))]∧h'=so H n s):=by
 refine sb [.tmp 6,.tmp 7] Tryz.func98 ?_;intro Q hQ;refine wk trivial ?_;refine kq trivial (lN G _ t hs hl _) ?_;refine ye hQ trivial ?_;exact bE hn (.tup _ (fun x hx=>by simp only[J9,N9,or_false]at hx;rcases hx with rfl|rfl;exact .int _ _;exact .bool _)) ⟨rfl,rfl⟩
def tgF(l:List Bs)(t:Bs)(n:Int):List Bs:=
 if n=1∧t ∉ l then l.take (lbF l t)++t::l.drop (lbF l t)else if n=0∧t∈l then l.take (lbF l t)++l.drop (lbF l t+1)else l
theorem mR(s:PS)(e:Ev)(hs:Srt ((lkM s.it e.a).getD It.z).tags)(hl:((lkM s.it e.a).getD It.z).tags.length≤100000){H:Heap}{n:Nat}(hn:n+9≤H.length):Sat (CT G) 60 [.hp (n+8) 0 0 0,e.av] (so H n s) (fun r h'=>r=.sl 1 ((tgF ((lkM s.it e.a).getD It.z).tags e.s e.n).map .str)∧h'=so H n s):=by
 have hT:=fun(H:Heap) (hn:n+9≤H.length)=>lw G s e.a e.s hs hl (n:=n) hn
 have hn1:∀x:Blk,n+9≤(H++[x]).length:=fun x=>by simp;omega
 generalize hg:((lkM s.it e.a).getD It.z).tags=l at hs hl hT ⊢;by_cases hn0:l=[]
 ·subst hn0;have ht:lbF [] e.s=0:=rfl;have hd:decide (e.s∈ ([]:List Bs))=false:=by simp
  rw[ht,hd]at hT;by_cases k1:e.n=1
  ·have F:=k1
   skip
   refine sb [.tmp 4] Tryz.func60 ?_;intro Q hQ;refine wn F ?_;refine bn 8 0 _ (by rfl) (by decide+kernel) (by kernel_rfl) (by decide+kernel) (by decide+kernel) (by decide+kernel) ?_;simp only[M7,N6];refine sq F ?_;refine wn F ?_;rw[hg];refine(fK G _).mono ?_;rintro r h' ⟨hr,rfl⟩;simp(disch:=first|omega| (simp only[go_sem, ↓reduceIte,seval];first|done|omega)|fail) only[go_sem, ↓reduceIte,seval,F]
   skip
   refine wk F ?_
   skip
   refine kx F (hT _ (by first|omega| (simp;omega))) ?_;refine kx F (qc G hn _ r hr e.s) ?_
   skip
   refine ee hQ F ?_;exact aw hn (.sl _ _ (by simp;exact .str _)) ⟨by simp[tgF,k1],rfl⟩
  ·by_cases k0:e.n=0
   ·have F:=k0
    skip
    refine sb [.tmp 4] Tryz.func60 ?_;intro Q hQ;refine wn F ?_;refine bn 8 0 _ (by rfl) (by decide+kernel) (by kernel_rfl) (by decide+kernel) (by decide+kernel) (by decide+kernel) ?_;simp only[M7,N6];refine sq F ?_;refine wn F ?_;rw[hg];refine(fK G _).mono ?_;rintro r h' ⟨hr,rfl⟩;simp(disch:=first|omega| (simp only[go_sem, ↓reduceIte,seval];first|done|omega)|fail) only[go_sem, ↓reduceIte,seval,F]
    skip
    refine wk F ?_;refine kq F (hT _ (by first|omega| (simp;omega))) ?_;refine ee hQ F ?_;refine bF (r:=.sl 1 []) hn ?_ ⟨by simp[tgF,k0,k1],rfl⟩;rcases hr with rfl|rfl
    ·exact .ezs _
    ·exact .nils _
   ·have n1:(e.n==1)=false:=(by simp[k1]);have n0:(e.n==0)=false:=(by simp[k0]);have F:=F2 n1 n0
    skip
    refine sb [.tmp 4] Tryz.func60 ?_;intro Q hQ;refine wn F ?_;refine bn 8 0 _ (by rfl) (by decide+kernel) (by kernel_rfl) (by decide+kernel) (by decide+kernel) (by decide+kernel) ?_;simp only[M7,N6];refine sq F ?_;refine wn F ?_;rw[hg];refine(fK G _).mono ?_;rintro r h' ⟨hr,rfl⟩;simp(disch:=first|omega| (simp only[go_sem, ↓reduceIte,seval];first|done|omega)|fail) only[go_sem, ↓reduceIte,seval,F]
    skip
    refine wk F ?_;refine kq F (hT _ (by first|omega| (simp;omega))) ?_;refine ee hQ F ?_;refine bF (r:=.sl 1 []) hn ?_ ⟨by simp[tgF,k0,k1],rfl⟩;rcases hr with rfl|rfl
    ·exact .ezs _
    ·exact .nils _
 ·by_cases km:e.s∈l
  ·have hd:decide (e.s∈l)=true:=(by simp[km]);rw[hd]at hT;have hlt:lbF l e.s<l.length:=(f9.1 (oK hs km)).1;by_cases k0:e.n=0
   ·have F:=k0
    skip
    refine sb [.tmp 4] Tryz.func60 ?_;intro Q hQ;refine wn F ?_;refine bn 8 0 _ (by rfl) (by decide+kernel) (by kernel_rfl) (by decide+kernel) (by decide+kernel) (by decide+kernel) ?_;simp only[M7,N6];refine sq F ?_;refine wn F ?_;rw[hg];refine(cP G hn _ l hn0 (by omega)).mono ?_;rintro r h' ⟨rfl,rfl⟩;try refine sq F ?_
    skip
    refine wk F ?_;refine kq F (hT _ (by first|omega| (simp;omega))) ?_;refine kq F (rV G hn _ l (lbF l e.s) hlt hl) ?_;refine ee hQ F ?_;exact aw hn (jf _ _) ⟨by simp[tgF,k0,km],rfl⟩
   ·by_cases k1:e.n=1
    ·have F:=k1
     skip
     refine sb [.tmp 4] Tryz.func60 ?_;intro Q hQ;refine wn F ?_;refine bn 8 0 _ (by rfl) (by decide+kernel) (by kernel_rfl) (by decide+kernel) (by decide+kernel) (by decide+kernel) ?_;simp only[M7,N6];refine sq F ?_;refine wn F ?_;rw[hg];refine(cP G hn _ l hn0 (by omega)).mono ?_;rintro r h' ⟨rfl,rfl⟩;try refine sq F ?_
     skip
     refine wk F ?_;refine kq F (hT _ (by first|omega| (simp;omega))) ?_;refine ee hQ F ?_;exact bF hn (jU hn _ l) ⟨by simp[tgF,k1,km],rfl⟩
    ·have n1:(e.n==1)=false:=(by simp[k1]);have n0:(e.n==0)=false:=(by simp[k0]);have F:=F2 n1 n0
     skip
     refine sb [.tmp 4] Tryz.func60 ?_;intro Q hQ;refine wn F ?_;refine bn 8 0 _ (by rfl) (by decide+kernel) (by kernel_rfl) (by decide+kernel) (by decide+kernel) (by decide+kernel) ?_;simp only[M7,N6];refine sq F ?_;refine wn F ?_;rw[hg];refine(cP G hn _ l hn0 (by omega)).mono ?_;rintro r h' ⟨rfl,rfl⟩;try refine sq F ?_
     skip
     refine wk F ?_;refine kq F (hT _ (by first|omega| (simp;omega))) ?_;refine ee hQ F ?_;exact bF hn (jU hn _ l) ⟨by simp[tgF,k1,k0,km],rfl⟩
  ·have hd:decide (e.s∈l)=false:=(by simp[km]);rw[hd]at hT;by_cases k1:e.n=1
   ·have F:=k1
    skip
    refine sb [.tmp 4] Tryz.func60 ?_;intro Q hQ;refine wn F ?_;refine bn 8 0 _ (by rfl) (by decide+kernel) (by kernel_rfl) (by decide+kernel) (by decide+kernel) (by decide+kernel) ?_;simp only[M7,N6];refine sq F ?_;refine wn F ?_;rw[hg];refine(cP G hn _ l hn0 (by omega)).mono ?_;rintro r h' ⟨rfl,rfl⟩;try refine sq F ?_
    skip
    refine wk F ?_
    skip
    refine kx F (hT _ (by first|omega| (simp;omega))) ?_;refine kx F (rU G hn _ l e.s hn0 hl) ?_
    skip
    refine ee hQ F ?_;exact aw hn (jf _ _) ⟨by simp[tgF,k1,km],rfl⟩
   ·by_cases k0:e.n=0
    ·have F:=k0
     skip
     refine sb [.tmp 4] Tryz.func60 ?_;intro Q hQ;refine wn F ?_;refine bn 8 0 _ (by rfl) (by decide+kernel) (by kernel_rfl) (by decide+kernel) (by decide+kernel) (by decide+kernel) ?_;simp only[M7,N6];refine sq F ?_;refine wn F ?_;rw[hg];refine(cP G hn _ l hn0 (by omega)).mono ?_;rintro r h' ⟨rfl,rfl⟩;try refine sq F ?_
     skip
     refine wk F ?_;refine kq F (hT _ (by first|omega| (simp;omega))) ?_;refine ee hQ F ?_;exact bF hn (jU hn _ l) ⟨by simp[tgF,k0,km],rfl⟩
    ·have n1:(e.n==1)=false:=(by simp[k1]);have n0:(e.n==0)=false:=(by simp[k0]);have F:=F2 n1 n0
     skip
     refine sb [.tmp 4] Tryz.func60 ?_;intro Q hQ;refine wn F ?_;refine bn 8 0 _ (by rfl) (by decide+kernel) (by kernel_rfl) (by decide+kernel) (by decide+kernel) (by decide+kernel) ?_;simp only[M7,N6];refine sq F ?_;refine wn F ?_;rw[hg];refine(cP G hn _ l hn0 (by omega)).mono ?_;rintro r h' ⟨rfl,rfl⟩;try refine sq F ?_
     skip
     refine wk F ?_;refine kq F (hT _ (by first|omega| (simp;omega))) ?_;refine ee hQ F ?_;exact bF hn (jU hn _ l) ⟨by simp[tgF,k1,k0,km],rfl⟩
theorem xb(h:Heap)(s:PS):h++s.bl h.length=so (h++PS.z.bl h.length) h.length s:=by
 have:=rE h (s.bl h.length) [];rw[M6]at this;rw[this];unfold so;have hz:ov (h++PS.z.bl h.length) h.length (PS.z.bl h.length)=h++PS.z.bl h.length:=by
  have:=rE h (PS.z.bl h.length) [];rw[M6]at this;exact this.symm
 apply Q5
 intro p;rw[bz (by simp),bz (by simp[PS.bl])];split
 ·rfl
 ·rename_i hp;rcases T9 p h.length with h1|h1
  ·rw[J0 h1,J0 h1]
  ·rw[J4 h1,J4 h1,N5 (by simp[PS.bl]at hp ⊢;omega),N5 (by simp[PS.bl]at hp ⊢;omega)]
@[go_sem] theorem E7(p:Nat):(AVal.hm p).cells=[.hm p]:=(rfl)
@[go_sem] theorem Gz(p:Nat):(AVal.hm p).lies=true:=(rfl)
theorem rW(h:Heap):Sat (CT G) 45 [] h (fun r h'=>r=.hp (h.length+8) 0 0 0∧h'=so (h++PS.z.bl h.length) h.length PS.z):=by
 rw[← xb];refine sb [.tmp 0] Tryz.func45 ?_;intro Q hQ;refine wk trivial ?_;refine ee hQ trivial ?_;refine Y5 (by simp) (.hp _ _ _ _ (by simp)) ⟨rfl,?_⟩;simp[PS.bl,PS.z,encM,PS.row]
theorem qd(es:List Ev)(hl:es.length≤1048576)(I:PS→Prop)(okF:PS→Ev→Bool)(stp:PS→Ev→PS)(hI0:I PS.z)(hI:∀s e,e∈es→I s→I (stp s e))
  (hA:∀s e,e∈es→I s→∀(n:Nat) (H:Heap),n+9≤H.length→Sat (CT G) 28 [.hp (n+8) 0 0 0,e.av] (so H n s) (fun r h'=>r=.bool (okF s e)∧h'=so H n (stp s e)))(h:Heap):
  Sat (CT G) 20 [.sl 7 (es.map Ev.av)] h (fun r h'=>r=.hp (h.length+8) 0 0 0∧h'=so (h++PS.z.bl h.length) h.length (es.foldl stp PS.z)):=by
 have hIk:∀k,I ((es.take k).foldl stp PS.z):=by
  intro k;induction k with
  |zero=>exact hI0
  |succ k ih=>
   rw[M8,List.foldl_append];cases he:es[k]? with
   |none=>exact ih
   |some e=>exact hI _ _ (J2 he) ih
 have hz9:(PS.z.bl h.length).length=9:=rfl;generalize hH:h++PS.z.bl h.length=H0;have hl0:h.length+9≤H0.length:=by rw[← hH];simp[hz9]
 have hN:=rW G h;rw[hH]at hN;refine sb [.tmp 2] Tryz.func20 ?_;intro Q hQ;refine wk trivial ?_;refine kq trivial (hN) ?_;refine lm (fun nL tL hL=>∃(k:Nat) (j:Heap),es.length-k=nL∧so (H0++j) h.length ((es.take k).foldl stp PS.z)=hL∧tL 3=.hp (h.length+8) 0 0 0∧tL 7=.sl 7 (es.map Ev.av)∧tL 8=.int .i64 es.length∧tL 9=.int .i64 k∧k≤es.length) ((fun(k:Nat) (j:Heap)=>(es.length-k:Nat)) (0) ([])) ?_ ?_
 ·refine I9 ⟨0,[],rfl,az,?_,?_,?_,?_,by omega⟩;all_goals try exact zZz trivial
 rintro _ s2 h' ⟨k,j,rfl,rfl,e3,e7,e8,e9,hk⟩ K2 hK2;simp only[ah,ar,Nat.reduceEqDiff, ↓reduceIte]at e3 e7 e8 e9;have F:=F4 e3 e7 e8 e9;refine wk F ?_;have hn1:h.length+9≤(H0++j).length:=by simp;omega
 refine cq F (fun c1=>?_) (fun c1=>?_)<;>(try exact c1.elim)<;>(refine wk F ?_)
 ·have c2:k<es.length:=by omega
  obtain⟨e,he⟩:∃e,es[k]? =some e:=⟨es[k],I3 c2⟩;have hem:=J2 he;have F:=F3 F c2 he;try refine sq F ?_
  refine wk F ?_;refine kq F (hA _ e hem (hIk k) _ _ (by first|omega| (simp;omega))) ?_;have ht:(es.take (k+1)).foldl stp PS.z=stp ((es.take k).foldl stp PS.z) e:=by rw[M8,List.foldl_append,he];rfl
  refine hK2 _ _ _ (I9 ⟨k+1,j++[.row 57 7 0 [e.av]],rfl,by rw[ht];rfl,?_,?_,?_,?_,by omega⟩) (by omega);all_goals try exact zZz F
 ·have hk2:k=es.length:=by omega
  subst hk2;have htk:es.take es.length=es:=W2;rw[htk];refine wk F ?_;refine ee hQ F ?_;rw[← bv hl0];refine Fin.upto (by rw[b8 hl0];omega) ?_ (.hp _ _ _ _ (by rw[b8 hl0];omega)) ⟨rfl,rfl⟩;rw[b8 hl0];have:=xb h (es.foldl stp PS.z);rw[hH]at this;rw[← this];exact(KeepC.refl h _).app (PS.clo hl0 _)
end Go.Av
namespace Go.Av
open Go Go.Proofs Go.RowKit
theorem fM(r:Int)(x:Bs):dec (enc r++x) 0=(fix r,(enc r).length):=by
 have hl:=x5 r;have hs:=vt r;rw[fB,oJ];generalize fix r=c at*;simp only[];by_cases h1:c<128
 ·rw[I6 h1];simp only[Q3,M5,V9,I7,M0];rw[aW _ (by omega)];simp[Lib.decodeN,h1]
 ·rw[I0 h1];by_cases h2:c<2048
  ·rw[I6 h2];simp only[Q3,M5,V9,X5,I7,M0,N7];rw[aW _ (by omega),aW _ (by omega)];unfold Lib.decodeN;rw[I0 (by omega),I6 (by omega),I6 (by omega)];congr 1;omega
  ·rw[I0 h2];by_cases h3:c<65536
   ·rw[I6 h3];simp only[Q3,M5,V9,X5,I7,M0,N7];rw[aW _ (by omega),aW _ (by omega),aW _ (by omega)];unfold Lib.decodeN;rw[I0 (by omega),I0 (by omega),I6 (by omega),I6 (by omega)];congr 1;omega
   ·rw[I0 h3];simp only[Q3,M5,V9,X5,I7,M0,N7];rw[aW _ (by omega),aW _ (by omega),aW _ (by omega),aW _ (by omega)];unfold Lib.decodeN;rw[I0 (by omega),I0 (by omega),I0 (by omega),I6 (by omega),I6 (by omega)];congr 1;omega
theorem mW{r:Int}(h:Rune r):fix r=r.toNat:=by
 unfold fix Utf8.valid;unfold Rune at h;rw[I6 (by simp;omega)]
theorem br(c:Int)(l:List Int):encs (c::l)=enc c++encs l:=by simp[encs]
theorem cf(a b:List Int):encs (a++b)=encs a++encs b:=by simp[encs]
theorem fg(c:Int):encs [c]=enc c:=by simp[encs]
theorem xe{a b:List Int}{c:Int}(hc:Rune c):dec (encs a++encs (c::b)) (encs a).length=(c.toNat,(enc c).length):=by
 rw[bM,List.drop_left' rfl,br,fM,mW hc]
theorem j5:∀{l:List Int},(∀c∈l,Rune c)→runesF (encs l)=l
 | [],_=>rfl
 |c::l,h=>by
  have hc:=h c (by simp);have hp:=iK c;rw[dH _ (by rw[br];intro e;have h2:=L9 List.length e;rw[J5]at h2;simp only[M0]at h2;omega),br,fM,mW hc,List.drop_left' rfl,j5 fun x hx=>h x (by simp[hx])];unfold Rune at hc;congr 1
  simp only[];omega
end Go.Av
namespace Go.Av
open Go Go.Proofs Go.RowKit
attribute [local irreducible] WP WPl WPix Sat
variable (G:Nat→Option (List AVal))
theorem ut(n a b:Int)(h:Heap):Sat (CT G) 193 [.int .i64 n,.int .i64 a,.int .i64 b] h (fun r h'=>r=.bool (decide (a≤n)&&decide (n≤b))∧h'=h):=by
 by_cases k:a≤n
 ·have k2:decide (n≥a)=true:=by simpa using k
  have F:=k2;refine sb [.tmp 6] Tryz.func193 ?_;intro Q hQ;refine wk F ?_;refine ee hQ F ?_;exact M9 (.bool _) ⟨by simp[k],rfl⟩
 ·have k2:decide (n≥a)=false:=by simpa using k
  have F:=k2;refine sb [.tmp 6] Tryz.func193 ?_;intro Q hQ;refine wk F ?_;refine ee hQ F ?_;exact M9 (.bool _) ⟨by simp[k],rfl⟩
def Dt.av(x:Dt):AVal:=.agg [.int .i64 x.y,.int .i64 x.m,.int .i64 x.d,.int .i64 x.h,.int .i64 x.i,.int .i64 x.s]
end Go.Av
namespace Go.Av
open Go Go.Proofs Go.RowKit
abbrev T2:=Int×Int
def tA(t:T2):AVal:=.agg [.int .i64 t.1,.int .i64 t.2]
def tadd(a b:T2):T2:=(a.1+b.1,a.2+b.2)
structure CS where
 al:T2
 st:T2
 fo:ML Int T2
 fe:ML Int T2
 tg:ML Bs T2
 it:ML Int It
 inn:ML Int Int
 ab:ML Int Int
 c1:Nat
 c2:Nat
 c3:Nat
 c4:Nat
 c5:Nat
 c6:Nat
def CS.row(m:Nat)(c:CS):AVal:=.agg [.int .i64 c.al.1,.int .i64 c.al.2,.int .i64 c.st.1,.int .i64 c.st.2,.hm m,.hm (m+1),.hm (m+2),.hm (m+3),.hm (m+4),.hm (m+5)]
def CS.bl(m:Nat)(c:CS):List Blk:=
 [.mp (encM iA tA c.fo) c.c1,.mp (encM iA tA c.fe) c.c2,.mp (encM AVal.str tA c.tg) c.c3,.mp (encM iA It.av c.it) c.c4,.mp (encM iA iA c.inn) c.c5,.mp (encM iA iA c.ab) c.c6,.row 0 10 0 [c.row m]]
def CS.z:CS:=⟨(0,0),(0,0),[],[],[],[],[],[],0,0,0,0,0,0⟩
def co(H:Heap)(m:Nat)(c:CS):Heap:=ov H m (c.bl m)
section
variable {H:Heap} {m:Nat} {c:CS}
end
def negT(t:T2):T2:=(-t.1, -t.2)
def oneT(t:It):T2:=(1,if t.read then 0 else 1)
def foF(t:T2):List Int→ML Int T2→Nat→ML Int T2×Nat
 | [],l,k=>(l,k)
 |id::ch,l,k=>foF t ch (upM l k id (tadd ((lkM l id).getD (0,0)) t)) (ckM l k id)
def CS.shift(c:CS)(ch:List Int)(feed:Int)(t:T2):CS:=
 {c with al:=tadd c.al t,fe:=upM c.fe c.c2 feed (tadd ((lkM c.fe feed).getD (0,0)) t),c2:=ckM c.fe c.c2 feed,fo:=(foF t ch c.fo c.c1).1,c1:=(foF t ch c.fo c.c1).2}
def tg1F(n:T2)(g:Bs)(l:ML Bs T2)(k:Nat):ML Bs T2×Nat:=
 if (tadd ((lkM l g).getD (0,0)) n).1=0 then(dlM l g,k)else(upM l k g (tadd ((lkM l g).getD (0,0)) n),ckM l k g)
def tgsF(n:T2):List Bs→ML Bs T2→Nat→ML Bs T2×Nat
 | [],l,k=>(l,k)
 |g::gs,l,k=>tgsF n gs (tg1F n g l k).1 (tg1F n g l k).2
def CS.tag(c:CS)(g:Bs)(n:T2):CS:= {c with tg:=(tg1F n g c.tg c.c3).1,c3:=(tg1F n g c.tg c.c3).2}
def CS.tags(c:CS)(gs:List Bs)(n:T2):CS:= {c with tg:=(tgsF n gs c.tg c.c3).1,c3:=(tgsF n gs c.tg c.c3).2}
def CS.star(c:CS)(b:Bool)(n:T2):CS:= {c with st:=if b then tadd c.st n else c.st}
def CS.count(c:CS)(ch:List Int)(t:It)(n:T2):CS:=((c.shift ch t.feed n).star t.star n).tags t.tags n
def chO(ab:ML Int Int):Nat→Int→Option (List Int)
 |0,id=>if id=0 then some []else none
 |k+1,id=>if id=0 then some []else(chO ab k ((lkM ab id).getD 0)).map (id:: ·)
def CS.chn(c:CS)(feed:Int):List Int:=(chO c.ab 7 ((lkM c.inn feed).getD 0)).getD []
end Go.Av
namespace Go.Av
open Go Go.Proofs Go.RowKit
attribute [local irreducible] WP WPl WPix Sat
section
variable {C:Ctx} {ops:Array Oper} {rest:List Oper} {t:Env} {h:Heap} {K:Env→Prop} {dst:Option Nat} {ty:TypeId} {pos:String} {aft:Array Edge}
end
variable (G:Nat→Option (List AVal))
end Go.Av
namespace Go.Av
open Go Go.Proofs Go.RowKit
attribute [local irreducible] WP WPl WPix Sat
variable (G:Nat→Option (List AVal))
end Go.Av
namespace Go.Av
open Go Go.Proofs Go.RowKit
attribute [local irreducible] WP WPl WPix Sat
def CS.drop(d:CS)(k:Int)(t:It):CS:= {d.count (d.chn t.feed) t (negT (oneT t))with it:=dlM d.it k}
variable (G:Nat→Option (List AVal))
def CS.less(d:CS)(feed:Int):CS:= {d with fe:=dlM d.fe feed,inn:=dlM d.inn feed}
end Go.Av
namespace Go.Av
open Go Go.Proofs Go.RowKit
attribute [local irreducible] WP WPl WPix Sat
variable (G:Nat→Option (List AVal))
def CS.of(c:CS)(kind id:Int)(g:Bs):T2:=
 if kind=1 then c.al else if kind=2 then(lkM c.fo id).getD (0,0)else if kind=3 then(lkM c.fe id).getD (0,0)else if kind=4 then(lkM c.tg g).getD (0,0)else if kind=5 then c.st else(0,0)
end Go.Av
namespace Go.Av
open Go Go.Proofs Go.RowKit Go.Maps Go.Sort
def sortB(l:List Bs):List Bs:=l.mergeSort fun x y=>decide (x≤y)
variable (G:Nat→Option (List AVal))
end Go.Av
namespace Go.Av
open Go Go.Proofs Go.RowKit
attribute [local irreducible] WP WPl WPix Sat
section
variable {C:Ctx} {ops:Array Oper} {t:Env} {h:Heap} {dst:Option Nat} {ty:TypeId} {pos:String} {aft:Array Edge} {T:TypeId}
end
structure Ct where
 kind:Int
 id:Int
 tag:Bs
 all:Int
 un:Int
def Ct.av(x:Ct):AVal:=.agg [.int .i64 x.kind,.int .i64 x.id,.str x.tag,.int .i64 x.all,.int .i64 x.un]
def ctI(kind:Int)(l:ML Int T2)(id:Int):Ct:=⟨kind,id,[],((lkM l id).getD (0,0)).1,((lkM l id).getD (0,0)).2⟩
def toldI(kind:Int)(l:ML Int T2):List Ct:=(sortI (l.map (·.1))).map (ctI kind l)
def ctS(l:ML Bs T2)(g:Bs):Ct:=⟨4,0,g,((lkM l g).getD (0,0)).1,((lkM l g).getD (0,0)).2⟩
def toldS(l:ML Bs T2):List Ct:=(sortB (l.map (·.1))).map (ctS l)
def CS.tell(c:CS):List Ct:=⟨1,0,[],c.al.1,c.al.2⟩::(toldI 2 c.fo++toldI 3 c.fe++toldS c.tg)++[⟨5,0,[],c.st.1,c.st.2⟩]
variable (G:Nat→Option (List AVal))
end Go.Av
namespace Go.Av
open Go Go.Proofs Go.RowKit
attribute [local irreducible] WP WPl WPix Sat
variable (G:Nat→Option (List AVal))
end Go.Av
theorem Y0:type_of% @Go.Av.Fe.clo:=@Go.Av.Fe.clo
theorem Y3:type_of% @Go.Av.Se.clo:=@Go.Av.Se.clo
theorem Y4:type_of% @Go.Av.Fo.clo:=@Go.Av.Fo.clo
