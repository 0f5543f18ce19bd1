/- Parts. -/
import Derived.Test.YtnolelibaahimaaGreatDoorROa
import Derived.Shelf.SlMaps.Clone
import Derived.Ground.SlmcProg
set_option linter.unusedSimpArgs false
set_option linter.unusedVariables false
set_option linter.unusedSectionVars false
set_option linter.unnecessarySimpa false
set_option maxRecDepth 100000
set_option maxHeartbeats 16000000
namespace Go.Av
open Go Go.Proofs Go.RowKit
attribute [local irreducible] WP WPl WPix Sat
variable (G:Nat→Option (List AVal))
def setL:List AVal:=(List.range 256).map fun i:Nat=>.bool (blankP (i:Int))
def setR:Blk:=.row 286 256 0 [.agg setL]
@[go_sem] theorem AU(l:Heap):getRow (setR::l) 0 0=some (286,256,[.agg setL]):=rfl
variable {H:Heap} {n0 pb po vo pd vd:Nat} {room:Bool} {os:List OE} {ds:List Elem}
end Go.Av
namespace Go.Av
open Go Go.Proofs Go.RowKit
attribute [local irreducible] WP WPl WPix Sat
variable (G:Nat→Option (List AVal))
variable {H:Heap} {n0 pb po vo pd vd:Nat} {room:Bool} {os:List OE} {ds:List Elem}
end Go.Av
namespace Go.Av
open Go Go.Proofs Go.RowKit
attribute [local irreducible] WP WPl WPix Sat
variable {H:Heap} {n0 pb po vo pd vd:Nat} {ds:List Elem}
end Go.Av
namespace Go.Av
open Go Go.Proofs Go.RowKit
attribute [local irreducible] WP WPl WPix Sat
variable (G:Nat→Option (List AVal))
variable {H:Heap} {n0 pb po vo pd vd:Nat} {room:Bool} {os:List OE} {ds:List Elem}
end Go.Av
namespace Go.Av
open Go Go.Proofs Go.RowKit
attribute [local irreducible] WP WPl WPix Sat
variable (G:Nat→Option (List AVal))
variable {H:Heap} {n0 pb po vo pd vd:Nat} {room:Bool} {os:List OE} {ds:List Elem}
end Go.Av
namespace Go.Av
open Go Go.Proofs Go.RowKit
attribute [local irreducible] WP WPl WPix Sat
variable (G:Nat→Option (List AVal)) {H:Heap} {n0 pb po vo pd vd:Nat} {room:Bool} {os:List OE} {ds:List Elem}
end Go.Av
namespace Go.Av
open Go Go.Proofs Go.RowKit
attribute [local irreducible] WP WPl WPix Sat
variable (G:Nat→Option (List AVal)) {H:Heap} {n0 pb po vo pd vd:Nat} {room:Bool} {os:List OE} {ds:List Elem}
end Go.Av
namespace Go.Proofs
open Go.Shelf
def Tryz.mcl71_ren:Go.Shelf.Ren:=⟨fun|5=>71|7=>113|n=>n,fun|23=>73|25=>3|3=>44|4=>4|20=>20|n=>n,fun|n=>n⟩
theorem Tryz.mcl71:Go.Proofs.SlLaysW.n5 Tryz.prog Tryz.mcl71_ren:= {
 mixed:=by kernel_rfl
 f5:=⟨Tryz.f71.name,by decide,Tryz.func71.trans (N5 some (by kernel_rfl))⟩
 f7:=Tryz.func113.trans (N5 some (by kernel_rfl))
 t4:=Tryz.underlying4
 a4:=Tryz.isAgg4
 z4:=Tryz.sizeOf4
 v4:=Tryz.zeroValue4
 t20:=Tryz.underlying20
 a20:=Tryz.isAgg20
 z20:=Tryz.sizeOf20
 v20:=Tryz.zeroValue20
 t23:=Tryz.underlying73
 a23:=Tryz.isAgg73
 z23:=Tryz.sizeOf73
 v23:=Tryz.zeroValue73}
def Tryz.mcl72_ren:Go.Shelf.Ren:=⟨fun|5=>72|7=>113|n=>n,fun|23=>74|25=>3|3=>48|4=>4|20=>20|n=>n,fun|n=>n⟩
theorem Tryz.mcl72:Go.Proofs.SlLaysW.n5 Tryz.prog Tryz.mcl72_ren:= {
 mixed:=by kernel_rfl
 f5:=⟨Tryz.f72.name,by decide,Tryz.func72.trans (N5 some (by kernel_rfl))⟩
 f7:=Tryz.func113.trans (N5 some (by kernel_rfl))
 t4:=Tryz.underlying4
 a4:=Tryz.isAgg4
 z4:=Tryz.sizeOf4
 v4:=Tryz.zeroValue4
 t20:=Tryz.underlying20
 a20:=Tryz.isAgg20
 z20:=Tryz.sizeOf20
 v20:=Tryz.zeroValue20
 t23:=Tryz.underlying74
 a23:=Tryz.isAgg74
 z23:=Tryz.sizeOf74
 v23:=Tryz.zeroValue74}
def Tryz.mcl73_ren:Go.Shelf.Ren:=⟨fun|5=>73|7=>113|n=>n,fun|23=>75|25=>3|3=>86|4=>4|20=>20|n=>n,fun|n=>n⟩
theorem Tryz.mcl73:Go.Proofs.SlLaysW.n5 Tryz.prog Tryz.mcl73_ren:= {
 mixed:=by kernel_rfl
 f5:=⟨Tryz.f73.name,by decide,Tryz.func73.trans (N5 some (by kernel_rfl))⟩
 f7:=Tryz.func113.trans (N5 some (by kernel_rfl))
 t4:=Tryz.underlying4
 a4:=Tryz.isAgg4
 z4:=Tryz.sizeOf4
 v4:=Tryz.zeroValue4
 t20:=Tryz.underlying20
 a20:=Tryz.isAgg20
 z20:=Tryz.sizeOf20
 v20:=Tryz.zeroValue20
 t23:=Tryz.underlying75
 a23:=Tryz.isAgg75
 z23:=Tryz.sizeOf75
 v23:=Tryz.zeroValue75}
def Tryz.mcl74_ren:Go.Shelf.Ren:=⟨fun|5=>74|7=>113|n=>n,fun|23=>76|25=>3|3=>98|4=>4|20=>20|n=>n,fun|n=>n⟩
theorem Tryz.mcl74:Go.Proofs.SlLaysW.n5 Tryz.prog Tryz.mcl74_ren:= {
 mixed:=by kernel_rfl
 f5:=⟨Tryz.f74.name,by decide,Tryz.func74.trans (N5 some (by kernel_rfl))⟩
 f7:=Tryz.func113.trans (N5 some (by kernel_rfl))
 t4:=Tryz.underlying4
 a4:=Tryz.isAgg4
 z4:=Tryz.sizeOf4
 v4:=Tryz.zeroValue4
 t20:=Tryz.underlying20
 a20:=Tryz.isAgg20
 z20:=Tryz.sizeOf20
 v20:=Tryz.zeroValue20
 t23:=Tryz.underlying76
 a23:=Tryz.isAgg76
 z23:=Tryz.sizeOf76
 v23:=Tryz.zeroValue76}
def Tryz.mcl75_ren:Go.Shelf.Ren:=⟨fun|5=>75|7=>113|n=>n,fun|23=>77|25=>88|3=>3|4=>4|20=>20|n=>n,fun|n=>n⟩
theorem Tryz.mcl75:Go.Proofs.SlLaysW.n5 Tryz.prog Tryz.mcl75_ren:= {
 mixed:=by kernel_rfl
 f5:=⟨Tryz.f75.name,by decide,Tryz.func75.trans (N5 some (by kernel_rfl))⟩
 f7:=Tryz.func113.trans (N5 some (by kernel_rfl))
 t4:=Tryz.underlying4
 a4:=Tryz.isAgg4
 z4:=Tryz.sizeOf4
 v4:=Tryz.zeroValue4
 t20:=Tryz.underlying20
 a20:=Tryz.isAgg20
 z20:=Tryz.sizeOf20
 v20:=Tryz.zeroValue20
 t23:=Tryz.underlying77
 a23:=Tryz.isAgg77
 z23:=Tryz.sizeOf77
 v23:=Tryz.zeroValue77}
def Tryz.mcl76_ren:Go.Shelf.Ren:=⟨fun|5=>76|7=>113|n=>n,fun|23=>78|25=>9|3=>3|4=>4|20=>20|n=>n,fun|n=>n⟩
theorem Tryz.mcl76:Go.Proofs.SlLaysW.n5 Tryz.prog Tryz.mcl76_ren:= {
 mixed:=by kernel_rfl
 f5:=⟨Tryz.f76.name,by decide,Tryz.func76.trans (N5 some (by kernel_rfl))⟩
 f7:=Tryz.func113.trans (N5 some (by kernel_rfl))
 t4:=Tryz.underlying4
 a4:=Tryz.isAgg4
 z4:=Tryz.sizeOf4
 v4:=Tryz.zeroValue4
 t20:=Tryz.underlying20
 a20:=Tryz.isAgg20
 z20:=Tryz.sizeOf20
 v20:=Tryz.zeroValue20
 t23:=Tryz.underlying78
 a23:=Tryz.isAgg78
 z23:=Tryz.sizeOf78
 v23:=Tryz.zeroValue78}
def Tryz.mcl77_ren:Go.Shelf.Ren:=⟨fun|5=>77|7=>113|n=>n,fun|23=>79|25=>131|3=>3|4=>4|20=>20|n=>n,fun|n=>n⟩
theorem Tryz.mcl77:Go.Proofs.SlLaysW.n5 Tryz.prog Tryz.mcl77_ren:= {
 mixed:=by kernel_rfl
 f5:=⟨Tryz.f77.name,by decide,Tryz.func77.trans (N5 some (by kernel_rfl))⟩
 f7:=Tryz.func113.trans (N5 some (by kernel_rfl))
 t4:=Tryz.underlying4
 a4:=Tryz.isAgg4
 z4:=Tryz.sizeOf4
 v4:=Tryz.zeroValue4
 t20:=Tryz.underlying20
 a20:=Tryz.isAgg20
 z20:=Tryz.sizeOf20
 v20:=Tryz.zeroValue20
 t23:=Tryz.underlying79
 a23:=Tryz.isAgg79
 z23:=Tryz.sizeOf79
 v23:=Tryz.zeroValue79}
def Tryz.mcl78_ren:Go.Shelf.Ren:=⟨fun|5=>78|7=>113|n=>n,fun|23=>80|25=>3|3=>3|4=>4|20=>20|n=>n,fun|n=>n⟩
theorem Tryz.mcl78:Go.Proofs.SlLaysW.n5 Tryz.prog Tryz.mcl78_ren:= {
 mixed:=by kernel_rfl
 f5:=⟨Tryz.f78.name,by decide,Tryz.func78.trans (N5 some (by kernel_rfl))⟩
 f7:=Tryz.func113.trans (N5 some (by kernel_rfl))
 t4:=Tryz.underlying4
 a4:=Tryz.isAgg4
 z4:=Tryz.sizeOf4
 v4:=Tryz.zeroValue4
 t20:=Tryz.underlying20
 a20:=Tryz.isAgg20
 z20:=Tryz.sizeOf20
 v20:=Tryz.zeroValue20
 t23:=Tryz.underlying80
 a23:=Tryz.isAgg80
 z23:=Tryz.sizeOf80
 v23:=Tryz.zeroValue80}
end Go.Proofs
namespace Go.Av
open Go Go.Proofs Go.RowKit
def orcX(f:FuncId)(args:List AVal):Option AVal:=match orcL f args with
 |some r=>some r
 |none=>match args with
  | [.int .i32 c]=>if f=260 then some (.bool (beginF c))else if f=259 then some (.bool (moreF c))else none
  |_=>none
variable {G:Nat→Option (List AVal)}
theorem dj(hG:GOk G):OrcOk (CT G) orcX:=by
 intro f args r g h;unfold orcX at g;split at g
 ·rename_i e;cases g;exact xI hG f args _ e h
 ·split at g
  ·rename_i c _;split at g
   ·rename_i e;subst e;cases g;exact kg G c h
   ·split at g
    ·rename_i e;subst e;cases g;exact vU G c h
    ·cases g
  ·cases g
end Go.Av
namespace Go.Av
open Go Go.Proofs Go.RowKit
attribute [local irreducible] WP WPl WPix Sat
theorem Wk.slD{n:Nat}{xs ys:List AVal}(hl:xs.length=ys.length)(hw:∀(i:Nat) (r s:AVal),xs[i]? =some r→ys[i]? =some s→WkR r s):Wk (.sl n xs) (.sl n ys):=fun w S μ v rr=>by
 have at_:∀(i:Nat) (e:AVal),ys[i]? =some e→∃r,xs[i]? =some r∧WkR r e:=fun i e he=>by
  have hlt:=(f9.1 he).1;have hx:=K6 (show i<xs.length by omega);exact⟨_,hx,hw i _ e hx he⟩
 cases rr with
 |sl0 n a cap=>
  obtain rfl:ys=[]:=Q2.1 (by simpa using hl.symm);exact .sl0 _ _ _
 |sl n es b o cap vs hne hm hm' hn hc hr=>
  rw[hl];refine .sl _ ys b o cap vs (fun e=>?_) (by omega) hm' (fun i e he=>?_) (fun i e j c he hj=>?_) (fun i e j c he hj=>?_)
  ·subst e;exact hne (Q2.1 hl)
  ·obtain⟨r,hx,hq⟩:=at_ i e he;rw[← hq.1];exact hn i r hx
  ·obtain⟨r,hx,hq⟩:=at_ i e he;have hlt:=(f9.1 hj).1;have hd:=K6 (show j<r.cells.length by rw[hq.1];exact hlt);obtain⟨a1,a2,a3⟩:=hc i r j _ hx hd;exact⟨a1,a2,(hq.2 j _ c hd hj).2 a3⟩
  ·obtain⟨r,hx,hq⟩:=at_ i e he;have hlt:=(f9.1 hj).1;have hd:=K6 (show j<r.cells.length by rw[hq.1];exact hlt);exact(hq.2 j _ c hd hj).1 _ _ _ _ (hr i r j _ hx hd)
theorem Sat.closedD{C:Ctx}(hG:GClo C){orc:FuncId→List AVal→Option AVal}(horc:OrcOk C orc)(lf n:Nat){f:FuncId}{args:List AVal}{v:AVal}(ha:args.all (cloA 0)=true)(hv:cloA 0 v=true)
  (hrun:isV v (callX C orc lf n f args [])=true)(h:Heap):Sat C f args h fun r2 h2=>r2=v∧h2=h:=by
 unfold isV at hrun;split at hrun
 ·rename_i r h1 e;split at hrun
  ·rename_i y hy;have ey:=db _ _ hrun;subst ey;have s:=(nI horc lf n f args [] r h1 e).letgo (v:=y) (by simp) (lg _ _ _ _ _ hy);refine(s.frame hG (fun x hx=>dc 0 _ (O4.1 ha x hx)) (fun r h' ⟨e1,e2⟩=>⟨by rw[e1];exact dc 0 _ hv,e2⟩) h).mono fun r2 h2 ⟨⟨e1,_⟩,e2⟩=>⟨e1,e2⟩
  ·cases hrun
 ·cases hrun
theorem Wk.tupD{xs ys:List AVal}(hl:xs.length=ys.length)(hw:∀(i:Nat) (x y:AVal),xs[i]? =some x→ys[i]? =some y→Wk x y):Wk (.tup xs) (.tup ys):=fun w S μ v r=>by
 cases r with
 |tup _ vs hvl hr=>
  refine .tup ys vs (by omega) (fun i d hd=>?_);have hlt:=(f9.1 hd).1;have hc:=K6 (show i<xs.length by omega);exact hw i _ d hc hd w S μ _ (hr i _ hc)
def wkL(f:AVal→AVal→Bool):List AVal→List AVal→Bool
 | [],[]=>true
 |x::xs,y::ys=>f x y&&wkL f xs ys
 |_,_=>false
def wkB:Nat→AVal→AVal→Bool
 |0,x,y=>beqA x y
 |f+1,x,y=>beqA x y||match x,y with
  | .nil (.slice none 0 0),.sl _ []=>true
  | .agg xs,.agg ys=>wkL (wkB f) xs ys&&ys.all AVal.sto
  | .tup xs,.tup ys=>wkL (wkB f) xs ys
  | .sl n xs,.sl m ys=>(n==m)&&wkL (fun r s=>wkL (wkB f) r.cells s.cells&&s.cells.all AVal.sto) xs ys
  |_,_=>false
theorem iF{f:AVal→AVal→Bool}{R:AVal→AVal→Prop}(hf:∀x y,f x y=true→R x y):∀{xs ys:List AVal},wkL f xs ys=true→xs.length=ys.length∧∀(i:Nat) (x y:AVal),xs[i]? =some x→ys[i]? =some y→R x y
 | [],[],_=>⟨rfl,fun i x y hx=>by simp at hx⟩
 |x::xs,y::ys,h=>by
  unfold wkL at h;rw[K5]at h;obtain⟨h1,h2⟩:=iF hf h.2;refine⟨by simp[h1],fun i a b ha hb=>?_⟩;cases i with
  |zero=>cases ha;cases hb;exact hf _ _ h.1
  |succ i=>exact h2 i a b ha hb
 | [],_::_,h=>by cases h
 |_::_,[],h=>by cases h
theorem o7:∀(f:Nat) (x y:AVal),wkB f x y=true→Wk x y:=by
 intro f;induction f with
 |zero=>intro x y h;rw[db _ _ h];exact Wk.refl _
 |succ f ih=>
  intro x y h;unfold wkB at h;rw[P8]at h;rcases h with h|h
  ·rw[db _ _ h];exact Wk.refl _
  ·split at h
   ·exact Wk.nils _
   ·rw[K5,O4]at h;obtain⟨h1,h2⟩:=iF ih h.1;exact Wk.agg h1 h.2 h2
   ·obtain⟨h1,h2⟩:=iF ih h;exact Wk.tupD h1 h2
   ·rw[K5,beq_iff_eq]at h;obtain⟨rfl,h⟩:=h;obtain⟨h1,h2⟩:=iF (R:=fun r s=>WkR r s) (fun r s hh=>by
     rw[K5,O4]at hh;obtain⟨k1,k2⟩:=iF ih hh.1;exact⟨k1,fun j c d hc hd=>⟨k2 j c d hc hd,fun _=>hh.2 d (M3 hd)⟩⟩) h
    exact Wk.slD h1 h2
   ·cases h
def isW(v:AVal):Option (AVal×Heap)→Bool
 |some (r,h1)=>match frzX h1 0 20 r with
  |some y=>wkB 20 y v&&cloA 0 y
  |none=>false
 |none=>false
theorem Sat.wkD{C:Ctx}{f:FuncId}{args:List AVal}{h h0:Heap}{a b:AVal}(hw:Wk a b)(s:Sat C f args h (fun r h'=>r=a∧h'=h0)):Sat C f args h (fun r h'=>r=b∧h'=h0):=by
 unfold Sat at*;intro B S μ w vs x y;refine(s B S μ w vs x y).mono fun v w' hp=>?_
 obtain⟨r,h',S',μ',⟨rfl,hh⟩,st,f',rp⟩:=hp;exact⟨b,h',S',μ',⟨rfl,hh⟩,st,f',hw _ _ _ _ rp⟩
theorem Sat.closedW{C:Ctx}(hG:GClo C){orc:FuncId→List AVal→Option AVal}(horc:OrcOk C orc)(lf n:Nat){f:FuncId}{args:List AVal}{v:AVal}(ha:args.all (cloA 0)=true)
  (hrun:isW v (callX C orc lf n f args [])=true)(h:Heap):Sat C f args h fun r2 h2=>r2=v∧h2=h:=by
 unfold isW at hrun;split at hrun
 ·rename_i r h1 e;split at hrun
  ·rename_i y hy;rw[K5]at hrun;refine Sat.wkD (o7 _ _ _ hrun.1) ?_;have s:=(nI horc lf n f args [] r h1 e).letgo (v:=y) (by simp) (lg _ _ _ _ _ hy);refine(s.frame hG (fun x hx=>dc 0 _ (O4.1 ha x hx)) (fun r h' ⟨e1,e2⟩=>⟨by rw[e1];exact dc 0 _ hrun.2,e2⟩) h).mono fun r2 h2 ⟨⟨e1,_⟩,e2⟩=>⟨e1,e2⟩
  ·cases hrun
 ·cases hrun
end Go.Av
namespace Go.Av
open Go Go.Proofs Go.RowKit
attribute [local irreducible] WP WPl WPix Sat
variable (G:Nat→Option (List AVal))
end Go.Av
namespace Go.Av
open Go Go.Proofs Go.RowKit
theorem cj(r:Int)(x:Bs):dec (enc r++x) 0=(fix r,(enc r).length):=by
 have hl:=zi r;have hs:=xL r;rw[eV,qo];generalize fix r=c at*;simp only[];by_cases h1:c<128
 ·rw[L7 h1];simp only[Q7,O5,X6,L6,M9];rw[aZ _ (by omega)];simp[Lib.decodeN,h1]
 ·rw[K4 h1];by_cases h2:c<2048
  ·rw[L7 h2];simp only[Q7,O5,X6,za0,L6,M9,P9];rw[aZ _ (by omega),aZ _ (by omega)];unfold Lib.decodeN;rw[K4 (by omega),L7 (by omega),L7 (by omega)];congr 1;omega
  ·rw[K4 h2];by_cases h3:c<65536
   ·rw[L7 h3];simp only[Q7,O5,X6,za0,L6,M9,P9];rw[aZ _ (by omega),aZ _ (by omega),aZ _ (by omega)];unfold Lib.decodeN;rw[K4 (by omega),K4 (by omega),L7 (by omega),L7 (by omega)];congr 1;omega
   ·rw[K4 h3];simp only[Q7,O5,X6,za0,L6,M9,P9];rw[aZ _ (by omega),aZ _ (by omega),aZ _ (by omega),aZ _ (by omega)];unfold Lib.decodeN;rw[K4 (by omega),K4 (by omega),K4 (by omega),L7 (by omega),L7 (by omega)];congr 1;omega
theorem fE{r:Int}(h:Rune r):fix r=r.toNat:=by
 unfold fix Utf8.valid;unfold Rune at h;rw[L7 (by simp;omega)]
theorem aH(c:Int)(l:List Int):encs (c::l)=enc c++encs l:=by simp[encs]
theorem bY(a b:List Int):encs (a++b)=encs a++encs b:=by simp[encs]
theorem ea(c:Int):encs [c]=enc c:=by simp[encs]
theorem zu{a b:List Int}{c:Int}(hc:Rune c):dec (encs a++encs (c::b)) (encs a).length=(c.toNat,(enc c).length):=by
 rw[bt,W6 rfl,aH,cj,fE hc]
theorem g9:∀{l:List Int},(∀c∈l,Rune c)→runesF (encs l)=l
 | [],_=>rfl
 |c::l,h=>by
  have hc:=h c (by simp);have hp:=cL c;rw[ej _ (by rw[aH];intro e;have h2:=N5 List.length e;rw[K7]at h2;simp only[M9]at h2;omega),aH,cj,fE hc,W6 rfl,g9 fun x hx=>h x (by simp[hx])];unfold Rune at hc;congr 1
  simp only[];omega
end Go.Av
