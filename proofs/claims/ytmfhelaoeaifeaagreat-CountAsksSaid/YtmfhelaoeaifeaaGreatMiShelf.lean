/-
  DERIVED: THE SHELF's CONTRACTS AT THIS DUMP, IN PLAIN WORDS (tools/lay-plain.mjs out of 'TryzShelf.lean', which tools/lay-shelf.mjs wrote): THE SAME DECLARATIONS UNDER THE SAME NAMES: 'import', 'namespace', 'open', 'def', 'theorem' AND NOTHING ELSE: no command of the shelf's: FOR A HAND-IN. Each laying: the table of numbers ('.._ren') and one theorem, a field a fact of the dump's own or the kernel's comparison; each contract: ONE APPLICATION.
-/
import Derived.Test.YtmfhelaoeaifeaaGreatMiSi
import Derived.Test.YtmfhelaoeaifeaaGreatMiFz
import Derived.Shelf.Strings.Builder1
import Derived.Shelf.Small.Bits
import Derived.Shelf.Small.Wraps
import Derived.Shelf.Strings.BuilderF
import Derived.Shelf.Strings.BuilderK
import Derived.Shelf.Utf8.AppendRunePlain
import Derived.Shelf.Strconv.Itoa0
import Derived.Shelf.Strings.Prefix
import Derived.Shelf.Strings.FieldsFuncAny
import Derived.Ground.Names2Prog
import Derived.Shelf.Slices.Clone
import Derived.Shelf.Slices.SearchI
import Derived.Shelf.Slices.Delete
import Derived.Shelf.Slices.Empties
import Derived.Ground.SlgmProg
import Derived.Shelf.SortM.Plain
import Derived.Shelf.SortM.SortNone
import Derived.Test.YtmfhelaoeaifeaaGreatProg
set_option linter.unusedSimpArgs false
set_option linter.unusedVariables false
set_option linter.unusedSectionVars false
set_option linter.unnecessarySimpa false
set_option maxRecDepth 100000
set_option maxHeartbeats 16000000
namespace Go.Av
open Go Go.Proofs Go.RowKit
attribute [local irreducible] WP WPl WPix Sat
variable (G:Nat→Option (List AVal))
theorem kg{h0:Heap}{R:AVal→Heap→Prop}{r0 r:AVal}(hz:Frz h0 h0.length r0 r)(hR:R r h0):Fin h0 h0 R r0:=by
 have:=Fin.frz (h0:=h0) (j:=[]) (R:=R) (r0:=r0) (r:=r) (by rwa [List.append_nil]) hR
 rwa [List.append_nil]at this
theorem nG(l:List Bs)(hl:l.length≤1048576)(h:Heap):Sat (CT G) 66 [.sl 1 (l.map .str)] h (fun r h'=>r=.sl 1 (l.map .str)∧h'=h):=by
 rcases l with _| ⟨a,l⟩
 ·refine sb [.tmp 2] (fn:=Tryz.f66) Tryz.func66 ?_
  intro Q hQ
  refine wk trivial ?_
  refine gQ _ (by exact zq trivial) (.inl rfl) fun b=>?_
  cases b
  ·try refine sq trivial ?_
   refine wk trivial ?_
   refine fG (.inl rfl) (by simp(disch:=first|omega| (simp only[go_sem, ↓reduceIte,seval];first|done|omega)|fail) only[go_sem, ↓reduceIte,seval];rfl) (by simp(disch:=first|omega| (simp only[go_sem, ↓reduceIte,seval];first|done|omega)|fail) only[go_sem, ↓reduceIte,seval];rfl) (by simp(disch:=first|omega| (simp only[go_sem, ↓reduceIte,seval];first|done|omega)|fail) only[go_sem, ↓reduceIte,seval];rfl) (by simp(disch:=first|omega| (simp only[go_sem, ↓reduceIte,seval];first|done|omega)|fail) only[go_sem, ↓reduceIte,seval];try rfl) (by omega) (by simp only[elemsOf, ↓reduceIte];try rfl) (by simp) (fun _=>?_) (fun h=>absurd rfl h)
   try refine sq trivial ?_
   refine wk trivial ?_
   refine ee hQ trivial ?_
   exact kg (.ezs _) ⟨rfl,rfl⟩
  ·try refine sq trivial ?_
   refine wk trivial ?_
   refine ee hQ trivial ?_
   exact kg (.nils _) ⟨rfl,rfl⟩
 ·have hr:(List.map AVal.str (a::l))≠ []:=by simp
  refine sb [.tmp 2] (fn:=Tryz.f66) Tryz.func66 ?_
  intro Q hQ
  refine wk trivial ?_
  refine fG (.inl rfl) (by simp(disch:=first|omega| (simp only[go_sem, ↓reduceIte,seval];first|done|omega)|fail) only[go_sem, ↓reduceIte,seval];rfl) (by simp(disch:=first|omega| (simp only[go_sem, ↓reduceIte,seval];first|done|omega)|fail) only[go_sem, ↓reduceIte,seval];rfl) (by simp(disch:=first|omega| (simp only[go_sem, ↓reduceIte,seval];first|done|omega)|fail) only[go_sem, ↓reduceIte,seval];rfl) (by simp(disch:=first|omega| (simp only[go_sem, ↓reduceIte,seval];first|done|omega)|fail) only[go_sem, ↓reduceIte,seval];try rfl) (by omega) (by simp only[elemsOf, ↓reduceIte];try rfl) ?_ (fun h=>by simp at h) (fun _=>?_)
  ·simp[maxLen]at hl ⊢;omega
  try refine sq trivial ?_
  refine wk trivial ?_
  refine ee hQ trivial ?_
  have hg:getRow (h++[.row 9 1 0 ((a::l).map .str)]) h.length 0=some (9,1,(a::l).map .str):=by rw[aG _ rfl];simp[getRow]
  have:=Frz.data (n:=h.length) (len:=(a::l).length) (room:=true) (Nat.le_refl _) hg (by simp) (fun r hr=>by obtain⟨a,_,rfl⟩:=List.mem_map.1 hr;exact .str _) (fun r hr c hc=>by obtain⟨a,_,rfl⟩:=List.mem_map.1 hr;simp[AVal.cells]at hc;subst hc;rfl)
  simp only[List.length_cons,List.map_cons]at this
  exact Fin.frz (by simpa using this) ⟨rfl,rfl⟩
theorem eE(t:It)(ht:t.tags.length≤1048576)(h:Heap):Sat (CT G) 39 [t.av] h (fun r h'=>r=t.av∧h'=h):=by
 refine sb [.cell 2 70] (fn:=Tryz.f39) Tryz.func39 ?_
 intro Q hQ
 refine wk trivial ?_
 refine kq trivial (nG G t.tags ht _) ?_
 refine ye hQ trivial ?_
 exact Fin.plain (It.clo _ t) ⟨rfl,rfl⟩
theorem nH(s:PS)(id:Int)(ht:((lkM s.it id).getD It.z).tags.length≤1048576){H:Heap}{n:Nat}(hn:n+9≤H.length):Sat (CT G) 34 [.hp (n+8) 0 0 0,.int .i64 id] (so H n s) (fun r h'=>r=.tup [((lkM s.it id).getD It.z).av,.bool (lkM s.it id).isSome]∧h'=so H n s):=by
 refine sb [.cell 4 70,.tmp 5] (fn:=Tryz.f34) Tryz.func34 ?_
 intro Q hQ
 refine wk trivial ?_
 refine kq trivial (eE G ((lkM s.it id).getD It.z) ht _) ?_
 refine ye hQ trivial ?_
 exact ai hn (.tup _ (fun x hx=>by simp only[List.mem_cons,List.not_mem_nil,or_false]at hx;rcases hx with rfl|rfl;exact It.clo _ _;exact .bool _)) ⟨rfl,rfl⟩
end Go.Av
namespace Go.Av
open Go Go.Proofs Go.RowKit
attribute [local irreducible] WP WPl WPix Sat
variable (G:Nat→Option (List AVal))
structure St where
 clock:Int
 fo:List Fo
 fe:List Fe
 it:List It
 se:List Se
 t1:Int
 t2:Int
 t3:Int
 t4:Int
def St.av(x:St):AVal:=.agg [.int .i64 x.clock,.sl 3 (x.fo.map Fo.av),.sl 4 (x.fe.map Fe.av),.sl 9 (x.it.map It.av),.sl 3 (x.se.map Se.av),.int .i64 x.t1,.int .i64 x.t2,.int .i64 x.t3,.int .i64 x.t4]
@[go_sem] theorem St.av_eq(x:St):x.av=.agg [.int .i64 x.clock,.sl 3 (x.fo.map Fo.av),.sl 4 (x.fe.map Fe.av),.sl 9 (x.it.map It.av),.sl 3 (x.se.map Se.av),.int .i64 x.t1,.int .i64 x.t2,.int .i64 x.t3,.int .i64 x.t4]:=(rfl)
def PS.tell(s:PS):St:=⟨s.clock,valsM Fo.z s.fo,valsM Fe.z s.fe,valsM It.z s.it,valsM Se.z s.se,s.t1,s.t2,s.t3,s.t4⟩
def inI(k:Int):Prop:= -9223372036854775808≤k∧k≤9223372036854775807
structure PS.Ok (s:PS):Prop where
 w1:WFM s.fo s.c1
 w2:WFM s.fe s.c2
 w3:WFM s.it s.c3
 w4:WFM s.se s.c4
 b1:∀e∈s.fo,inI e.1
 b2:∀e∈s.fe,inI e.1
 b3:∀e∈s.it,inI e.1
 b4:∀e∈s.se,inI e.1
 l1:s.fo.length≤100000
 l2:s.fe.length≤100000
 l3:s.it.length≤100000
 l4:s.se.length≤100000
 tg:∀t∈valsM It.z s.it,t.tags.length≤1048576
theorem iO{N:Nat}{h:Heap}{α:Type}{av:α→AVal}{m:Nat}(hc:∀a,Clo N (av a))(l:List α):Frz h N (.sl m (l.map av)) (.sl m (l.map av)):=
 .clo _ (Clo.sl _ _ fun x hx=>by obtain⟨a,_,rfl⟩:=List.mem_map.1 hx;exact hc a)
theorem qC(s:PS){H j:Heap}{n p v:Nat}(hn:n+9≤H.length)(hg:getRow (H++j) (H.length+p) v=some (70,9,(valsM It.z s.it).map It.av)):
  Fin (so H n s) (so (H++j) n s) (fun r h'=>r=s.tell.av∧h'=so H n s) (.agg [.int .i64 s.clock,.sl 3 ((valsM Fo.z s.fo).map Fo.av),.sl 4 ((valsM Fe.z s.fe).map Fe.av),.hs (H.length+p) v 0 (valsM It.z s.it).length true,.sl 3 ((valsM Se.z s.se).map Se.av),.int .i64 s.t1,.int .i64 s.t2,.int .i64 s.t3,.int .i64 s.t4]):=by
 have hl:H.length+p<(H++j).length:=cK hg
 have hg':getRow (so (H++j) n s) (H.length+p) v=some (70,9,(valsM It.z s.it).map It.av):=by rw[bA (by simp;omega) v (by omega)];exact hg
 refine cF hn rfl (PS.clo hn s) (FrzL.agg (.cons (.clo _ (.int _ _)) (.cons (iO (Fo.clo _) _) (.cons (iO (Fe.clo _) _) (.cons (Frz.data (by omega) hg' (by simp) (fun r hr=>by obtain⟨a,_,rfl⟩:=List.mem_map.1 hr;exact It.clo _ a) (fun r hr=>by obtain⟨a,_,rfl⟩:=List.mem_map.1 hr;exact a.cells_sto)) (.cons (iO (Se.clo _) _) (.cons (.clo _ (.int _ _)) (.cons (.clo _ (.int _ _)) (.cons (.clo _ (.int _ _)) (.cons (.clo _ (.int _ _)) .nil))))))))) rfl) ⟨rfl,rfl⟩
def PS.tellH(s:PS)(p v:Nat):AVal:=.agg [.int .i64 s.clock,.sl 3 ((valsM Fo.z s.fo).map Fo.av),.sl 4 ((valsM Fe.z s.fe).map Fe.av),.hs p v 0 (valsM It.z s.it).length true,.sl 3 ((valsM Se.z s.se).map Se.av),.int .i64 s.t1,.int .i64 s.t2,.int .i64 s.t3,.int .i64 s.t4]
theorem gj(s:PS)(hs:s.Ok){H:Heap}{n:Nat}(hn:n+9≤H.length)(R:AVal→Heap→Prop)
  (hR:∀(j:Heap) (p v:Nat),getRow (H++j) (H.length+p) v=some (70,9,(valsM It.z s.it).map It.av)→Fin (so H n s) (so (H++j) n s) R (s.tellH (H.length+p) v)):Sat (CT G) 17 [.hp (n+8) 0 0 0] (so H n s) R:=by
 have hvl:(valsM It.z s.it).length≤100000:=by unfold valsM;rw[List.length_map,bw,List.length_map];exact hs.l3
 refine sb [.cell 2 62] (fn:=Tryz.f17) Tryz.func17 ?_
 intro Q hQ
 refine wk trivial ?_
 refine aI 46 [8,13,18,23,44,45] [true,true,true,true,true,true,true,true,false,true,true,true,true,false,true,true,true,true,false,true,true,true,true,false,true,true,true,true,true,true,true,true,true,true,true,true,true,true,true,true,true,true,true,true,false,false] (.two 8 [false,true,true,true,false,false,false,false,false,false,true,true,true,false,false,true,true,true,false,false,true,true,true,false,false,true,true,true,true,false,true,true,true,true,false,true,true,true,true,false,true,true,true,true] (.two 13 [false,true,true,true,false,false,false,false,false,false,false,false,false,false,false,true,true,true,false,false,true,true,true,false,false,true,true,true,true,false,true,true,true,true,false,true,true,true,true,false,true,true,true,true] (.two 18 [false,true,true,true,false,false,false,false,false,false,false,false,false,false,false,false,false,false,false,false,true,true,true,false,false,true,true,true,true,false,true,true,true,true,false,true,true,true,true,false,true,true,true,true] (.two 23 [false,true,true,true,false,false,false,false,false,false,false,false,false,false,false,false,false,false,false,false,false,false,false,false,false,true,true,true,true,false,true,true,true,true,false,true,true,true,true,false,true,true,true,true] (.two 44 [] (.one 45 [] .fin) 45 [false,true,true,true,false,false,false,false,false,false,false,false,false,false,false,false,false,false,false,false,false,false,false,false,false,true,true,true,true,false,true,true,true,true,false,true,true,true,true,false,true,true,true,true] (.one 44 [] .fin)) 45 [false,true,true,true,false,false,false,false,false,false,false,false,false,false,false,false,false,false,false,false,true,true,true,false,false,true,true,true,true,false,true,true,true,true,false,true,true,true,true,false,true,true,true,true] (.one 23 [false,true,true,true,false,false,false,false,false,false,false,false,false,false,false,false,false,false,false,false,false,false,false,false,false,true,true,true,true,false,true,true,true,true,false,true,true,true,true,false,true,true,true,true] (.one 44 [] .fin))) 45 [false,true,true,true,false,false,false,false,false,false,false,false,false,false,false,true,true,true,false,false,true,true,true,false,false,true,true,true,true,false,true,true,true,true,false,true,true,true,true,false,true,true,true,true] (.one 18 [false,true,true,true,false,false,false,false,false,false,false,false,false,false,false,false,false,false,false,false,true,true,true,false,false,true,true,true,true,false,true,true,true,true,false,true,true,true,true,false,true,true,true,true] (.one 23 [false,true,true,true,false,false,false,false,false,false,false,false,false,false,false,false,false,false,false,false,false,false,false,false,false,true,true,true,true,false,true,true,true,true,false,true,true,true,true,false,true,true,true,true] (.one 44 [] .fin)))) 45 [false,true,true,true,false,false,false,false,false,false,true,true,true,false,false,true,true,true,false,false,true,true,true,false,false,true,true,true,true,false,true,true,true,true,false,true,true,true,true,false,true,true,true,true] (.one 13 [false,true,true,true,false,false,false,false,false,false,false,false,false,false,false,true,true,true,false,false,true,true,true,false,false,true,true,true,true,false,true,true,true,true,false,true,true,true,true,false,true,true,true,true] (.one 18 [false,true,true,true,false,false,false,false,false,false,false,false,false,false,false,false,false,false,false,false,true,true,true,false,false,true,true,true,true,false,true,true,true,true,false,true,true,true,true,false,true,true,true,true] (.one 23 [false,true,true,true,false,false,false,false,false,false,false,false,false,false,false,false,false,false,false,false,false,false,false,false,false,true,true,true,true,false,true,true,true,true,false,true,true,true,true,false,true,true,true,true] (.one 44 [] .fin))))) 45 [false,true,true,true,false,true,true,true,false,false,true,true,true,false,false,true,true,true,false,false,true,true,true,false,false,true,true,true,true,false,true,true,true,true,false,true,true,true,true,false,true,true,true,true] (.one 8 [false,true,true,true,false,false,false,false,false,false,true,true,true,false,false,true,true,true,false,false,true,true,true,false,false,true,true,true,true,false,true,true,true,true,false,true,true,true,true,false,true,true,true,true] (.one 13 [false,true,true,true,false,false,false,false,false,false,false,false,false,false,false,true,true,true,false,false,true,true,true,false,false,true,true,true,true,false,true,true,true,true,false,true,true,true,true,false,true,true,true,true] (.one 18 [false,true,true,true,false,false,false,false,false,false,false,false,false,false,false,false,false,false,false,false,true,true,true,false,false,true,true,true,true,false,true,true,true,true,false,true,true,true,true,false,true,true,true,true] (.one 23 [false,true,true,true,false,false,false,false,false,false,false,false,false,false,false,false,false,false,false,false,false,false,false,false,false,true,true,true,true,false,true,true,true,true,false,true,true,true,true,false,true,true,true,true] (.one 44 [] .fin)))))) (by decide+kernel) (by kernel_rfl) (by decide+kernel) ?_
 simp only[aU,aV,aH]
 try refine sq trivial ?_
 repeat' (first| (refine aA ?_;try refine sq trivial ?_)| (refine aB ?_;try refine sq trivial ?_)| (refine aC ?_ ?_<;>try refine sq trivial ?_))
 all_goals try refine wk trivial ?_
 repeat' (first
  | (refine(iL G s hs.w1 hs.b1 hs.l1 (by first|omega| (simp;omega))).mono ?_;rintro r h' ⟨rfl,rfl⟩;try refine sq trivial ?_)
  | (refine(iM G s hs.w2 hs.b2 hs.l2 (by first|omega| (simp;omega))).mono ?_;rintro r h' ⟨rfl,rfl⟩;try refine sq trivial ?_)
  | (refine(iN G s hs.w4 hs.b4 hs.l4 (by first|omega| (simp;omega))).mono ?_;rintro r h' ⟨rfl,rfl⟩;try refine sq trivial ?_)
  | (refine(hM G s hs.w3 hs.b3 hs.l3 (by first|omega| (simp;omega))).mono ?_;rintro r h' ⟨v,rfl,rfl⟩;try refine sq trivial ?_)
  | (refine aA ?_;try refine sq trivial ?_)| (refine aB ?_;try refine sq trivial ?_)| (refine aC ?_ ?_<;>try refine sq trivial ?_))
 all_goals try refine wk trivial ?_
 all_goals first
  | (
   refine lm (fun nL tL hL=>∃(k:Nat) (hh:Heap),(valsM It.z s.it).length-k=nL∧so hh n s=hL∧tL 2=.hp H.length 0 0 0∧tL 3=.hp (H.length+3) 0 0 0∧tL 55=.hs (H.length+2) v 0 (valsM It.z s.it).length true∧tL 56=.int .i64 ((valsM It.z s.it).length:Int)∧tL 57=.int .i64 k∧k≤(valsM It.z s.it).length∧(FrN H.length H hh∧H.length+3<hh.length)∧getRow hh H.length 0=some (62,9,[.agg [.int .i64 0,.nil (.slice none 0 0),.nil (.slice none 0 0),.nil (.slice none 0 0),.nil (.slice none 0 0),.int .i64 0,.int .i64 0,.int .i64 0,.int .i64 0]])∧getRow hh (H.length+3) 0=some (62,9,[.agg [.int .i64 s.clock,.sl 3 ((valsM Fo.z s.fo).map Fo.av),.sl 4 ((valsM Fe.z s.fe).map Fe.av),.hs (H.length+2) v 0 (valsM It.z s.it).length true,.sl 3 ((valsM Se.z s.se).map Se.av),.int .i64 s.t1,.int .i64 s.t2,.int .i64 s.t3,.int .i64 s.t4]])∧getRow hh (H.length+2) v=some (70,9,(valsM It.z s.it).map It.av)) ((fun(k:Nat) (hh:Heap)=>((valsM It.z s.it).length-k:Nat)) (0) (H++[.row 62 9 0 [.agg [.int .i64 0,.nil (.slice none 0 0),.nil (.slice none 0 0),.nil (.slice none 0 0),.nil (.slice none 0 0),.int .i64 0,.int .i64 0,.int .i64 0,.int .i64 0]],.row 51 1 0 [.hm (n+2)],.row 70 9 v ((valsM It.z s.it).map It.av),.row 62 9 0 [.agg [.int .i64 s.clock,.sl 3 ((valsM Fo.z s.fo).map Fo.av),.sl 4 ((valsM Fe.z s.fe).map Fe.av),.hs (H.length+2) v 0 (valsM It.z s.it).length true,.sl 3 ((valsM Se.z s.se).map Se.av),.int .i64 s.t1,.int .i64 s.t2,.int .i64 s.t3,.int .i64 s.t4]]])) ?_ ?_
   ·refine Wkn.refl ⟨0,H++[.row 62 9 0 [.agg [.int .i64 0,.nil (.slice none 0 0),.nil (.slice none 0 0),.nil (.slice none 0 0),.nil (.slice none 0 0),.int .i64 0,.int .i64 0,.int .i64 0,.int .i64 0]],.row 51 1 0 [.hm (n+2)],.row 70 9 v ((valsM It.z s.it).map It.av),.row 62 9 0 [.agg [.int .i64 s.clock,.sl 3 ((valsM Fo.z s.fo).map Fo.av),.sl 4 ((valsM Fe.z s.fe).map Fe.av),.hs (H.length+2) v 0 (valsM It.z s.it).length true,.sl 3 ((valsM Se.z s.se).map Se.av),.int .i64 s.t1,.int .i64 s.t2,.int .i64 s.t3,.int .i64 s.t4]]],rfl,bp,?_,?_,?_,?_,?_,by omega,⟨FrN.app _ (by omega) (FrN.refl _ _),by simp⟩,by rw[aG _ rfl];rfl,by rw[aX _ rfl];rfl,by rw[aX _ rfl];simp[getRow]⟩
    all_goals first|exact zq trivial|rfl|omega|trivial|skip
   rintro _ s2 h' ⟨k,hh,rfl,rfl,e2,e3,e55,e56,e57,hk,hfr,hg2,hgx,hgi⟩ K2 hK2
   simp only[ak,ao,Nat.reduceEqDiff, ↓reduceIte]at e2 e3 e55 e56 e57
   have F:=F5 e2 e3 e55 e56 e57
   refine wk F ?_
   obtain⟨hfr,hfl⟩:=hfr
   have hn1:n+9≤hh.length:=by omega
   refine cq F (fun c1=>?_) (fun c1=>?_)<;>(try exact c1.elim)<;>(refine wk F ?_)
   ·have c2:k<(valsM It.z s.it).length:=by omega
    obtain⟨y,hy,hym⟩:=ah c2
    have hyt:=hs.tg y hym
    have hset:((valsM It.z s.it).map It.av).set k (.agg [.int .i64 y.id,.int .i64 y.feed,.int .i64 y.date,.str y.guid,.str y.title,.str y.link,.bool y.read,.bool y.star,.sl 1 (y.tags.map .str)])=(valsM It.z s.it).map It.av:=by
     apply List.ext_getElem?
     intro q
     rw[List.getElem?_set]
     split
     ·rename_i hq;subst hq;rw[List.getElem?_map,hy];simp[c2,It.av]
     ·rfl
    have F:=F7 F c2 hy @hset hgi hgx @aE
    try refine sq F ?_
    refine wk F ?_
    refine bf (eE G y hyt _) ?_
    try refine sq F ?_
    refine wk F ?_
    refine hK2 _ _ _ (Wkn.refl ⟨k+1,hh.set (H.length+2) (.row 70 9 v ((valsM It.z s.it).map It.av))++[.row 70 9 0 [y.av]],rfl,bp,?_,?_,?_,?_,?_,by omega,⟨FrN.app _ (by simp;omega) (FrN.set _ (by omega) hfr),by simp;omega⟩,by rw[bv _ (by simp;omega),db _ _ (by omega)];exact hg2,by rw[bv _ (by simp;omega),db _ _ (by omega)];exact hgx,by rw[bv _ (by simp;omega),jE _ _ _ _ _ (by omega),if_pos rfl]⟩) (by omega)
    all_goals first|exact zq F|rfl|omega|trivial|skip
   ·have F:=F5 F hg2 hgx hgi @aE
    try refine sq F ?_
    refine wk F ?_
    refine ye hQ F ?_
    obtain⟨j,hj⟩:=hfr.behind (by omega)
    subst hj
    have hgi2:∀b,getRow (H++j.set 0 b) (H.length+2) v=some (70,9,(valsM It.z s.it).map It.av):=fun b=>by rw[← bV b rfl,db _ _ (by omega)];exact hgi
    rw[bV _ rfl]
    exact hR _ _ _ (by simpa using hgi2 _))
  | (
   refine lm (fun nL tL hL=>∃(k:Nat) (hh:Heap),(valsM It.z s.it).length-k=nL∧so hh n s=hL∧tL 2=.hp H.length 0 0 0∧tL 3=.hp (H.length+1) 0 0 0∧tL 55=.hs (H.length+3) v 0 (valsM It.z s.it).length true∧tL 56=.int .i64 ((valsM It.z s.it).length:Int)∧tL 57=.int .i64 k∧k≤(valsM It.z s.it).length∧(FrN H.length H hh∧H.length+3<hh.length)∧getRow hh H.length 0=some (62,9,[.agg [.int .i64 0,.nil (.slice none 0 0),.nil (.slice none 0 0),.nil (.slice none 0 0),.nil (.slice none 0 0),.int .i64 0,.int .i64 0,.int .i64 0,.int .i64 0]])∧getRow hh (H.length+1) 0=some (62,9,[.agg [.int .i64 s.clock,.sl 3 ((valsM Fo.z s.fo).map Fo.av),.sl 4 ((valsM Fe.z s.fe).map Fe.av),.hs (H.length+3) v 0 (valsM It.z s.it).length true,.sl 3 ((valsM Se.z s.se).map Se.av),.int .i64 s.t1,.int .i64 s.t2,.int .i64 s.t3,.int .i64 s.t4]])∧getRow hh (H.length+3) v=some (70,9,(valsM It.z s.it).map It.av)) ((fun(k:Nat) (hh:Heap)=>((valsM It.z s.it).length-k:Nat)) (0) (H++[.row 62 9 0 [.agg [.int .i64 0,.nil (.slice none 0 0),.nil (.slice none 0 0),.nil (.slice none 0 0),.nil (.slice none 0 0),.int .i64 0,.int .i64 0,.int .i64 0,.int .i64 0]],.row 62 9 0 [.agg [.int .i64 s.clock,.sl 3 ((valsM Fo.z s.fo).map Fo.av),.sl 4 ((valsM Fe.z s.fe).map Fe.av),.hs (H.length+3) v 0 (valsM It.z s.it).length true,.sl 3 ((valsM Se.z s.se).map Se.av),.int .i64 s.t1,.int .i64 s.t2,.int .i64 s.t3,.int .i64 s.t4]],.row 51 1 0 [.hm (n+2)],.row 70 9 v ((valsM It.z s.it).map It.av)])) ?_ ?_
   ·refine Wkn.refl ⟨0,H++[.row 62 9 0 [.agg [.int .i64 0,.nil (.slice none 0 0),.nil (.slice none 0 0),.nil (.slice none 0 0),.nil (.slice none 0 0),.int .i64 0,.int .i64 0,.int .i64 0,.int .i64 0]],.row 62 9 0 [.agg [.int .i64 s.clock,.sl 3 ((valsM Fo.z s.fo).map Fo.av),.sl 4 ((valsM Fe.z s.fe).map Fe.av),.hs (H.length+3) v 0 (valsM It.z s.it).length true,.sl 3 ((valsM Se.z s.se).map Se.av),.int .i64 s.t1,.int .i64 s.t2,.int .i64 s.t3,.int .i64 s.t4]],.row 51 1 0 [.hm (n+2)],.row 70 9 v ((valsM It.z s.it).map It.av)],rfl,bp,?_,?_,?_,?_,?_,by omega,⟨FrN.app _ (by omega) (FrN.refl _ _),by simp⟩,by rw[aG _ rfl];rfl,by rw[aX _ rfl];rfl,by rw[aX _ rfl];simp[getRow]⟩
    all_goals first|exact zq trivial|rfl|omega|trivial|skip
   rintro _ s2 h' ⟨k,hh,rfl,rfl,e2,e3,e55,e56,e57,hk,hfr,hg2,hgx,hgi⟩ K2 hK2
   simp only[ak,ao,Nat.reduceEqDiff, ↓reduceIte]at e2 e3 e55 e56 e57
   have F:=F5 e2 e3 e55 e56 e57
   refine wk F ?_
   obtain⟨hfr,hfl⟩:=hfr
   have hn1:n+9≤hh.length:=by omega
   refine cq F (fun c1=>?_) (fun c1=>?_)<;>(try exact c1.elim)<;>(refine wk F ?_)
   ·have c2:k<(valsM It.z s.it).length:=by omega
    obtain⟨y,hy,hym⟩:=ah c2
    have hyt:=hs.tg y hym
    have hset:((valsM It.z s.it).map It.av).set k (.agg [.int .i64 y.id,.int .i64 y.feed,.int .i64 y.date,.str y.guid,.str y.title,.str y.link,.bool y.read,.bool y.star,.sl 1 (y.tags.map .str)])=(valsM It.z s.it).map It.av:=by
     apply List.ext_getElem?
     intro q
     rw[List.getElem?_set]
     split
     ·rename_i hq;subst hq;rw[List.getElem?_map,hy];simp[c2,It.av]
     ·rfl
    have F:=F7 F c2 hy @hset hgi hgx @aE
    try refine sq F ?_
    refine wk F ?_
    refine bf (eE G y hyt _) ?_
    try refine sq F ?_
    refine wk F ?_
    refine hK2 _ _ _ (Wkn.refl ⟨k+1,hh.set (H.length+3) (.row 70 9 v ((valsM It.z s.it).map It.av))++[.row 70 9 0 [y.av]],rfl,bp,?_,?_,?_,?_,?_,by omega,⟨FrN.app _ (by simp;omega) (FrN.set _ (by omega) hfr),by simp;omega⟩,by rw[bv _ (by simp;omega),db _ _ (by omega)];exact hg2,by rw[bv _ (by simp;omega),db _ _ (by omega)];exact hgx,by rw[bv _ (by simp;omega),jE _ _ _ _ _ (by omega),if_pos rfl]⟩) (by omega)
    all_goals first|exact zq F|rfl|omega|trivial|skip
   ·have F:=F5 F hg2 hgx hgi @aE
    try refine sq F ?_
    refine wk F ?_
    refine ye hQ F ?_
    obtain⟨j,hj⟩:=hfr.behind (by omega)
    subst hj
    have hgi2:∀b,getRow (H++j.set 0 b) (H.length+3) v=some (70,9,(valsM It.z s.it).map It.av):=fun b=>by rw[← bV b rfl,db _ _ (by omega)];exact hgi
    rw[bV _ rfl]
    exact hR _ _ _ (by simpa using hgi2 _))
theorem hY(s:PS)(hs:s.Ok){H:Heap}{n:Nat}(hn:n+9≤H.length):Sat (CT G) 17 [.hp (n+8) 0 0 0] (so H n s) (fun r h'=>r=s.tell.av∧h'=so H n s):=
 gj G s hs hn _ fun _ _ _ hg=>qC s hn hg
theorem lE(s:PS)(hs:s.Ok){H:Heap}{n:Nat}(hn:n+9≤H.length):Sat (CT G) 17 [.hp (n+8) 0 0 0] (so H n s) (fun r h'=>∃(j:Heap) (p v:Nat),r=s.tellH p v∧H.length≤p∧getRow (H++j) p v=some (70,9,(valsM It.z s.it).map It.av)∧h'=so (H++j) n s):=
 gj G s hs hn _ fun j p v hg=>Fin.whole (by rw[au hn,au (by simp;omega)];simp) (.agg _ fun x hx=>by
  have hl:=cK hg
  simp only[List.mem_cons,List.not_mem_nil,or_false]at hx
  rcases hx with rfl|rfl|rfl|rfl|rfl|rfl|rfl|rfl|rfl
  ·exact .int _ _
  ·exact Clo.sl _ _ fun x hx=>by obtain⟨a,_,rfl⟩:=List.mem_map.1 hx;exact Fo.clo _ a
  ·exact Clo.sl _ _ fun x hx=>by obtain⟨a,_,rfl⟩:=List.mem_map.1 hx;exact Fe.clo _ a
  ·exact .hs _ _ _ _ _ (by rw[au (by simp;omega)];exact hl)
  ·exact Clo.sl _ _ fun x hx=>by obtain⟨a,_,rfl⟩:=List.mem_map.1 hx;exact Se.clo _ a
  ·exact .int _ _
  ·exact .int _ _
  ·exact .int _ _
  ·exact .int _ _) ⟨j,_,v,rfl,by omega,hg,rfl⟩
end Go.Av
namespace Go.Av
open Go Go.Proofs Go.RowKit
attribute [local irreducible] WP WPl WPix Sat
variable (G:Nat→Option (List AVal))
section
variable {l:List Ky} {H:Heap} {n v:Nat}
end
end Go.Av
namespace Go.Av
open Go Go.Proofs Go.RowKit
attribute [local irreducible] WP WPl WPix Sat
inductive Qy where
 |mk (op num:Int) (s:Bs) (ks:List Qy)
namespace Qy
mutual
def av:Qy→AVal
 | .mk op num s ks=>.agg [.int .i64 op,.int .i64 num,.str s,.sl 4 (avL ks)]
def avL:List Qy→List AVal
 | []=>[]
 |k::ks=>k.av::avL ks
end
theorem p6:∀ks:List Qy,avL ks=ks.map av
 | []=>by simp[avL]
 |k::ks=>by simp[avL,p6 ks]
@[go_sem] theorem av_eq(op num:Int)(s:Bs)(ks:List Qy):(Qy.mk op num s ks).av=.agg [.int .i64 op,.int .i64 num,.str s,.sl 4 (ks.map av)]:=by rw[av,p6]
theorem ind{P:Qy→Prop}(h:∀op num s ks,(∀k∈ks,P k)→P (.mk op num s ks)):∀q,P q:=fun q=>
 Qy.rec (motive_1:=P) (motive_2:=fun ks=>∀k∈ks,P k) (fun op num s ks ih=>h op num s ks ih) (fun k hk=>by simp at hk) (fun k ks ih1 ih2 x hx=>by
  rcases List.mem_cons.1 hx with rfl|hx
  ·exact ih1
  ·exact ih2 x hx) q
mutual
def sz:Qy→Nat
 | .mk _ _ s ks=>1+s.length+szL ks
def szL:List Qy→Nat
 | []=>0
 |k::ks=>k.sz+szL ks
end
theorem szL_mem:∀{ks:List Qy} {k:Qy},k∈ks→k.sz≤szL ks
 |k'::ks,k,h=>by
  rw[szL]
  rcases List.mem_cons.1 h with rfl|h
  ·omega
  ·have:=szL_mem h;omega
theorem szL_len:∀ks:List Qy,ks.length≤szL ks
 | []=>by simp
 | .mk op n s l::ks=>by rw[szL,sz,List.length_cons];have:=szL_len ks;omega
mutual
def mx:Qy→Nat
 | .mk _ _ s ks=>max (max s.length ks.length) (mxL ks)
def mxL:List Qy→Nat
 | []=>0
 |k::ks=>max k.mx (mxL ks)
end
theorem mu:∀{ks:List Qy} {k:Qy},k∈ks→k.mx≤mxL ks
 |k'::ks,k,h=>by
  rw[mxL]
  rcases List.mem_cons.1 h with rfl|h
  ·omega
  ·have:=mu h;omega
theorem mx_mk{op num:Int}{s:Bs}{ks:List Qy}{B:Nat}(h:(Qy.mk op num s ks).mx≤B):s.length≤B∧ks.length≤B∧∀k∈ks,k.mx≤B:=by
 rw[mx]at h
 exact⟨by omega,by omega,fun k hk=>by have:=mu hk;omega⟩
end Qy
end Go.Av
namespace Go.Av
open Go Go.Proofs Go.RowKit Go.ChangeShapes Go.WideShapes
section
variable {H:Type} {enc:TypeId×Value→H} {W:World}
end
def none':Nat→Option (List AVal):=fun _=>none
end Go.Av
namespace Go.Av
open Go Go.Proofs Go.RowKit
attribute [local irreducible] WP WPl WPix Sat
namespace Qy
mutual
def dep:Qy→Int→Int
 | .mk _ _ _ ks,a=>if a>64 then a else depL ks a a
def depL:List Qy→Int→Int→Int
 | [],_,m=>m
 |k::ks,a,m=>depL ks a (if k.dep (a+1)>m then k.dep (a+1)else m)
end
mutual
def nod:Qy→Int
 | .mk _ _ _ ks=>nodL ks 1
def nodL:List Qy→Int→Int
 | [],m=>m
 |k::ks,m=>nodL ks (m+k.nod)
end
mutual
theorem nod_in:∀(q:Qy),1≤q.nod∧q.nod≤q.sz
 | .mk _ _ s ks=>by
  rw[nod,sz]
  have:=nodL_in ks 1
  omega
theorem nodL_in:∀(ks:List Qy) (m:Int),m≤nodL ks m∧nodL ks m≤m+szL ks
 | [],m=>by simp[nodL,szL]
 |k::ks,m=>by
  rw[nodL,szL]
  have h1:=nod_in k
  have h2:=nodL_in ks (m+k.nod)
  omega
end
end Qy
variable (G:Nat→Option (List AVal))
end Go.Av
namespace Go.Av
open Go Go.Proofs Go.RowKit
attribute [local irreducible] WP WPl WPix Sat
variable (G:Nat→Option (List AVal))
theorem qD:∀(q:Qy) (a:Int) (h:Heap),1≤a→a≤65→q.mx≤9223372036854775807→Sat (CT G) 84 [q.av,.int .i64 a] h (fun r h'=>r=.int .i64 (q.dep a)∧h'=h):=by
 refine Qy.ind fun op num s ks ih=>?_
 intro a h h1 h2 hz
 obtain⟨hsl,hkl,hkm⟩:=Qy.mx_mk hz
 have hml:(ks.map Qy.av).length=ks.length:=List.length_map ..
 rw[Qy.av_eq,Qy.dep]
 by_cases ha:a>64
 ·rw[if_pos ha]
  have g0:decide (a>64)=true:=by simp[ha]
  have F:=g0
  refine sb [.tmp 4] (fn:=Tryz.f84) Tryz.func84 ?_
  intro Q hQ
  refine wk F ?_
  refine ee hQ F ?_
  exact Fin.plain (.int _ _) ⟨rfl,rfl⟩
 ·rw[if_neg ha]
  have g0:decide (a>64)=false:=by simp[ha]
  have wa:IntKind.i64.wrap (a+1)=a+1:=by rw[IntKind.wrap_i64];omega
  have F:=F3 g0 wa hml
  refine sb [.tmp 4] (fn:=Tryz.f84) Tryz.func84 ?_
  intro Q hQ
  refine wk F ?_
  refine lm (fun nL tL hL=>∃(k:Nat) (m:Int) (j:Heap),ks.length-k=nL∧h++(.row 33 4 0 [.agg [.int .i64 op,.int .i64 num,.str s,.sl 4 (ks.map Qy.av)]]::j)=hL∧tL 15=.int .i64 k∧tL 5=.int .i64 m∧k≤ks.length∧Qy.depL ks a a=Qy.depL (ks.drop k) a m) ((fun(k:Nat) (m:Int) (j:Heap)=>(ks.length-k:Nat)) (0) (a) ([])) ?_ ?_
  ·refine Wkn.refl ⟨0,a,[],rfl,bp,?_,?_,by omega,rfl⟩
   all_goals first|exact zq F|rfl|omega|trivial|skip
  rintro _ s2 h' ⟨k,m,j,rfl,rfl,e15,e5,hk,hm⟩ K2 hK2
  simp only[ak,ao,Nat.reduceEqDiff, ↓reduceIte]at e15 e5
  have F:=F3 F e15 e5
  refine wk F ?_
  refine cq F (fun c1=>?_) (fun c1=>?_)<;>(try exact c1.elim)<;>(refine wk F ?_)
  ·have c2:k<ks.length:=by omega
   obtain⟨y,hy,hym⟩:=ah c2
   have hc:=fun h=>ih y hym (a+1) h (by omega) (by omega) (hkm y hym)
   rw[aR hy,Qy.depL]at hm
   generalize y.dep (a+1)=e at hm hc
   obtain⟨yo,yn,ys,yl⟩:=y
   rw[Qy.av_eq]at hc
   by_cases hem:e>m
   ·have d0:decide (e>m)=true:=by simp;omega
    rw[if_pos (by omega)]at hm
    have F:=F5 F hy c2 d0 @aE
    try refine sq F ?_
    refine wk F ?_
    refine kq F (hc _) ?_
    refine hK2 _ _ _ (Wkn.refl ⟨k+1,e,j++[Blk.row 33 4 0 [.agg [.int .i64 yo,.int .i64 yn,.str ys,.sl 4 (yl.map Qy.av)]]],rfl,by simp,?_,?_,by omega,hm⟩) (by omega)
    all_goals first|exact zq F|rfl|omega|trivial|skip
   ·have d0:decide (e>m)=false:=by simp;omega
    rw[if_neg (by omega)]at hm
    have F:=F5 F hy c2 d0 @aE
    try refine sq F ?_
    refine wk F ?_
    refine kq F (hc _) ?_
    refine hK2 _ _ _ (Wkn.refl ⟨k+1,m,j++[Blk.row 33 4 0 [.agg [.int .i64 yo,.int .i64 yn,.str ys,.sl 4 (yl.map Qy.av)]]],rfl,by simp,?_,?_,by omega,hm⟩) (by omega)
    all_goals first|exact zq F|rfl|omega|trivial|skip
  ·rw[bi c1,Qy.depL]at hm
   refine ee hQ F ?_
   exact Fin.plain (.int _ _) ⟨by rw[hm],rfl⟩
theorem qE:∀(q:Qy) (h:Heap),q.sz≤1048576→Sat (CT G) 47 [q.av] h (fun r h'=>r=.int .i64 q.nod∧h'=h):=by
 refine Qy.ind fun op num s ks ih=>?_
 intro h hz
 have hkl:=Qy.szL_len ks
 have hkm:∀k∈ks,k.sz≤Qy.szL ks:=fun k hk=>Qy.szL_mem hk
 have hnt:=Qy.nodL_in ks 1
 rw[Qy.sz]at hz
 have hml:(ks.map Qy.av).length=ks.length:=List.length_map ..
 rw[Qy.av_eq,Qy.nod]
 have F:=hml
 refine sb [.tmp 2] (fn:=Tryz.f47) Tryz.func47 ?_
 intro Q hQ
 refine wk F ?_
 refine lm (fun nL tL hL=>∃(k:Nat) (m:Int) (j:Heap),ks.length-k=nL∧h++(.row 33 4 0 [.agg [.int .i64 op,.int .i64 num,.str s,.sl 4 (ks.map Qy.av)]]::j)=hL∧tL 9=.int .i64 k∧tL 3=.int .i64 m∧k≤ks.length∧1≤m∧Qy.nodL ks 1=Qy.nodL (ks.drop k) m) ((fun(k:Nat) (m:Int) (j:Heap)=>(ks.length-k:Nat)) (0) (1) ([])) ?_ ?_
 ·refine Wkn.refl ⟨0,1,[],rfl,bp,?_,?_,by omega,by omega,rfl⟩
  all_goals first|exact zq F|rfl|omega|trivial|skip
 rintro _ s2 h' ⟨k,m,j,rfl,rfl,e9,e3,hk,h1,hm⟩ K2 hK2
 simp only[ak,ao,Nat.reduceEqDiff, ↓reduceIte]at e9 e3
 have F:=F3 F e9 e3
 refine wk F ?_
 refine cq F (fun c1=>?_) (fun c1=>?_)<;>(try exact c1.elim)<;>(refine wk F ?_)
 ·have c2:k<ks.length:=by omega
  obtain⟨y,hy,hym⟩:=ah c2
  have hc:=fun h=>ih y hym h (by have:=hkm y hym;omega)
  rw[aR hy,Qy.nodL]at hm
  have hb:=Qy.nodL_in (ks.drop (k+1)) (m+y.nod)
  have hy1:=Qy.nod_in y
  generalize y.nod=e at hm hc hb hy1
  obtain⟨yo,yn,ys,yl⟩:=y
  rw[Qy.av_eq]at hc
  have wm:IntKind.i64.wrap (m+e)=m+e:=by rw[IntKind.wrap_i64];omega
  have F:=F5 F hy c2 wm @aE
  try refine sq F ?_
  refine wk F ?_
  refine kq F (hc _) ?_
  refine hK2 _ _ _ (Wkn.refl ⟨k+1,m+e,j++[Blk.row 33 4 0 [.agg [.int .i64 yo,.int .i64 yn,.str ys,.sl 4 (yl.map Qy.av)]]],rfl,by simp,?_,?_,by omega,by omega,hm⟩) (by omega)
  all_goals first|exact zq F|rfl|omega|trivial|skip
 ·rw[bi c1,Qy.nodL]at hm
  refine ee hQ F ?_
  exact Fin.plain (.int _ _) ⟨by rw[hm],rfl⟩
end Go.Av
namespace Go.Av
open Go Go.Proofs Go.RowKit
attribute [local irreducible] WP WPl WPix Sat
namespace Qy
def num:Qy→Int| .mk _ n _ _=>n
def op:Qy→Int| .mk o _ _ _=>o
def txt:Qy→Bs| .mk _ _ s _=>s
def kds:Qy→List Qy| .mk _ _ _ ks=>ks
mutual
def all(pl:Qy→Bool):Qy→Bool
 | .mk op num s ks=>allL pl ks&&pl (.mk op num s ks)
def allL(pl:Qy→Bool):List Qy→Bool
 | []=>true
 |k::ks=>k.all pl&&allL pl ks
end
theorem allL_eq(pl:Qy→Bool):∀ks:List Qy,allL pl ks=ks.all (all pl)
 | []=>by simp[allL]
 |k::ks=>by rw[allL,allL_eq pl ks];rfl
end Qy
variable (G:Nat→Option (List AVal))
theorem nI(q:Qy)(h:Heap)(hz:q.mx≤9223372036854775807):Sat (CT G) 46 [q.av] h (fun r h'=>r=.int .i64 (q.dep 1)∧h'=h):=by
 have hc:=fun h=>qD G q 1 h (by omega) (by omega) hz
 generalize q.dep 1=e at*
 obtain⟨yo,yn,ys,yl⟩:=q
 rw[Qy.av_eq]at*
 refine sb [.tmp 2] (fn:=Tryz.f46) Tryz.func46 ?_
 intro Q hQ
 refine wk trivial ?_
 refine kq trivial (hc _) ?_
 refine ee hQ trivial ?_
 exact Fin.plain (.int _ _) ⟨rfl,rfl⟩
namespace Qy
end Qy
end Go.Av
namespace Go.Av
open Go Go.Proofs Go.RowKit
attribute [local irreducible] WP WPl WPix Sat
variable (G:Nat→Option (List AVal))
def ixQ{α:Type}(p:α→Bool)(l:List α):Int:=match l.findIdx? p with
 |some k=>(k:Int)
 |none=> -1
theorem fM{α:Type}(p:α→Bool)(l:List α):decide (ixQ p l≥0)=l.any p:=by
 unfold ixQ
 cases h:l.findIdx? p with
 |none=>
  rw[List.findIdx?_eq_none_iff]at h
  have:l.any p=false:=by rw[List.any_eq_false];intro x hx;rw[h x hx];simp
  rw[this];rfl
 |some k=>
  obtain⟨hk,hp,_⟩:=List.findIdx?_eq_some_iff_getElem.1 h
  have:l.any p=true:=List.any_eq_true.2 ⟨l[k],List.getElem_mem hk,hp⟩
  rw[this];simp
theorem fk{α:Type}{p:α→Bool}{l:List α}{k:Nat}{y:α}(hy:l[k]? =some y)(he:p y=true)(hp:∀a∈l.take k,p a=false):ixQ p l=k:=by
 obtain⟨c2,hk⟩:=List.getElem?_eq_some_iff.1 hy
 unfold ixQ
 have:l.findIdx? p=some k:=by
  rw[List.findIdx?_eq_some_iff_getElem]
  refine⟨c2,by rw[hk];exact he,fun i hi=>?_⟩
  rw[hp _ (by rw[List.mem_take_iff_getElem];exact⟨i,by omega,rfl⟩)];simp
 rw[this]
theorem fm{α:Type}{p:α→Bool}{l:List α}(hp:∀a∈l,p a=false):ixQ p l= -1:=by
 unfold ixQ
 rw[List.findIdx?_eq_none_iff.2 hp]
theorem i5{α:Type}{p:α→Bool}{l:List α}{k:Nat}{y:α}(hy:l[k]? =some y)(he:p y=false)(hp:∀a∈l.take k,p a=false):∀a∈l.take (k+1),p a=false:=by
 rw[List.take_add_one,hy]
 intro a ha
 simp at ha
 rcases ha with ha|rfl
 ·exact hp a ha
 ·exact he
def FinW{σ:Type}(Hp:σ→Heap):Prop:=∀(x y:σ) (r:AVal) (R:AVal→Heap→Prop),(∀N,Clo N r)→R r (Hp y)→Fin (Hp x) (Hp y) R r
theorem lF{σ:Type}{Hp:σ→Heap}{P:σ→Prop}(hF:FinW Hp)(p:Qy→Bool)(g:FuncId)(cap:List AVal)(l:List Qy)(hl:l.length≤1048576)
  (hg:∀a∈l,∀x,P x→Sat (CT G) g ([]++[a.av]++cap) (Hp x) (fun r h'=>r=.bool (p a)∧∃y,P y∧h'=Hp y))(x:σ)(hx:P x):
  Sat (CT G) 93 [.sl 4 (l.map Qy.av),.fn (.func g) [] cap] (Hp x) (fun r h'=>r=.int .i64 (ixQ p l)∧∃y,P y∧h'=Hp y):=by
 have hml:(l.map Qy.av).length=l.length:=List.length_map ..
 have F:=hml
 refine sb [.tmp 4] (fn:=Tryz.f93) Tryz.func93 ?_
 intro Q hQ
 refine wk F ?_
 refine lm (fun nL tL hL=>∃(k:Nat) (z:σ),l.length-k=nL∧Hp z=hL∧tL 8=.int .i64 k∧k≤l.length∧P z∧(∀a∈l.take k,p a=false)) ((fun(k:Nat) (z:σ)=>(l.length-k:Nat)) (0) (x)) ?_ ?_
 ·refine Wkn.refl ⟨0,x,rfl,bp,?_,Nat.zero_le _,hx,by simp⟩
  all_goals first|exact zq F|rfl|omega|trivial|skip
 rintro _ s2 h' ⟨k,z,rfl,rfl,e8,hk,hz,hp⟩ K2 hK2
 simp only[ak,ao,Nat.reduceEqDiff, ↓reduceIte]at e8
 have F:=F2 F e8
 refine wk F ?_
 refine cq F (fun c1=>?_) (fun c1=>?_)<;>(try exact c1.elim)<;>(refine wk F ?_)
 ·have c2:k<l.length:=by omega
  obtain⟨y,hy,hym⟩:=ah c2
  have hc:=hg y hym z hz
  cases he:p y with
  |true=>
   have e:=fk hy he hp
   rw[he]at hc
   clear he
   obtain⟨yo,yn,ys,yl⟩:=y
   rw[Qy.av_eq]at hc
   have F:=F3 F hy c2
   try refine sq F ?_
   refine wk F ?_
   refine hc.mono ?_
   rintro r h' ⟨rfl,u,hu,rfl⟩
   try refine sq F ?_
   refine wk F ?_
   refine ee hQ F ?_
   exact hF _ _ _ _ (fun N=>.int _ _) ⟨by rw[e],u,hu,rfl⟩
  |false=>
   have hp1:=i5 hy he hp
   rw[he]at hc
   clear he
   obtain⟨yo,yn,ys,yl⟩:=y
   rw[Qy.av_eq]at hc
   have F:=F3 F hy c2
   try refine sq F ?_
   refine wk F ?_
   refine hc.mono ?_
   rintro r h' ⟨rfl,u,hu,rfl⟩
   try refine sq F ?_
   refine wk F ?_
   refine hK2 _ _ _ (Wkn.refl ⟨k+1,u,rfl,bp,?_,by omega,hu,hp1⟩) (by omega)
   all_goals first|exact zq F|rfl|omega|trivial|skip
 ·have e:=fm (p:=p) (l:=l) fun a ha=>hp a (by rwa [List.take_of_length_le (by omega)])
  refine ee hQ F ?_
  exact hF _ _ _ _ (fun N=>.int _ _) ⟨by rw[e],z,hz,rfl⟩
theorem fp{σ:Type}{Hp:σ→Heap}{P:σ→Prop}(hF:FinW Hp)(p:Qy→Bool)(g:FuncId)(cap:List AVal)(l:List Qy)(hl:l.length≤1048576)
  (hg:∀a∈l,∀x,P x→Sat (CT G) g ([]++[a.av]++cap) (Hp x) (fun r h'=>r=.bool (p a)∧∃y,P y∧h'=Hp y))(x:σ)(hx:P x):
  Sat (CT G) 54 [.sl 4 (l.map Qy.av),.fn (.func g) [] cap] (Hp x) (fun r h'=>r=.bool (l.any p)∧∃y,P y∧h'=Hp y):=by
 have hc:=lF G hF p g cap l hl hg x hx
 rw[← fM]
 refine sb [.tmp 4] (fn:=Tryz.f54) Tryz.func54 ?_
 intro Q hQ
 refine wk trivial ?_
 refine hc.mono ?_
 rintro r h' ⟨rfl,u,hu,rfl⟩
 try refine sq trivial ?_
 refine wk trivial ?_
 refine ee hQ trivial ?_
 exact hF _ _ _ _ (fun N=>.bool _) ⟨rfl,u,hu,rfl⟩
theorem qF(p:Qy→Bool)(g:FuncId)(cap:List AVal)(h:Heap)(l:List Qy)(hl:l.length≤1048576)(hg:∀a∈l,Sat (CT G) g ([]++[a.av]++cap) h (fun r h'=>r=.bool (p a)∧h'=h)):
  Sat (CT G) 54 [.sl 4 (l.map Qy.av),.fn (.func g) [] cap] h (fun r h'=>r=.bool (l.any p)∧h'=h):=
 (fp G (Hp:=fun _:Unit=>h) (P:=fun _=>True) (fun _ _ _ _ hc hR=>Fin.same (hc _) hR) p g cap l hl (fun a ha _ _=>(hg a ha).mono fun r h' ⟨h1,h2⟩=>⟨h1,(),trivial,h2⟩) () trivial).mono fun r h' ⟨h1,_,_,h2⟩=>⟨h1,h2⟩
def plP(nm tx kd:Qy→Bool)(q:Qy):Bool:= !(decide (q.op<1)||(decide (q.op>15)||(!nm q||(!tx q|| !kd q))))
theorem nJ(nm tx kd:Qy→Bool)(B:Nat)(hB:B≤1048576)(h1:∀q h,q.sz≤B→Sat (CT G) 85 [q.av] h (fun r h'=>r=.bool (nm q)∧h'=h))(h2:∀q h,q.sz≤B→Sat (CT G) 86 [q.av] h (fun r h'=>r=.bool (tx q)∧h'=h))
  (h3:∀q h,q.sz≤B→Sat (CT G) 87 [q.av] h (fun r h'=>r=.bool (kd q)∧h'=h)):
  ∀(q:Qy) (h:Heap),q.sz≤B→Sat (CT G) 48 [q.av] h (fun r h'=>r=.bool (q.all (plP nm tx kd))∧h'=h):=by
 refine Qy.ind fun op num s ks ih=>?_
 intro h hz
 have k1:=fun h=>h1 (.mk op num s ks) h hz
 have k2:=fun h=>h2 (.mk op num s ks) h hz
 have k3:=fun h=>h3 (.mk op num s ks) h hz
 have hkl:=Qy.szL_len ks
 have hkm:∀k∈ks,k.sz≤Qy.szL ks:=fun k hk=>Qy.szL_mem hk
 rw[Qy.sz]at hz
 have hcl:∀a∈ks,∀h,Sat (CT G) 88 ([]++[a.av]++[]) h (fun r h'=>r=.bool (!a.all (plP nm tx kd))∧h'=h):=fun a ha h=>by
  have hc:=fun h=>ih a ha h (by have:=hkm a ha;omega)
  generalize a.all (plP nm tx kd)=e at*
  obtain⟨yo,yn,ys,yl⟩:=a
  rw[Qy.av_eq]at*
  refine sb [.tmp 2] (fn:=Tryz.f88) Tryz.func88 ?_
  intro Q hQ
  refine wk trivial ?_
  refine kq trivial (hc _) ?_
  refine ee hQ trivial ?_
  exact Fin.plain (.bool _) ⟨rfl,rfl⟩
 have hany:=fun h=>qF G (fun a=> !a.all (plP nm tx kd)) 88 [] h ks (by omega) (fun a ha=>hcl a ha h)
 have hfin:(!ks.any fun a=> !a.all (plP nm tx kd))=Qy.allL (plP nm tx kd) ks:=by
  rw[Qy.allL_eq,List.all_eq_not_any_not]
 rw[Qy.all, ← hfin]
 generalize (ks.any fun a=> !a.all (plP nm tx kd))=ay at*
 unfold plP
 show Sat _ _ _ _ (fun r h'=>r=.bool (!ay&& !(decide (op<1)||(decide (op>15)||(!nm (.mk op num s ks)||(!tx (.mk op num s ks)|| !kd (.mk op num s ks))))))∧h'=h)
 generalize nm (.mk op num s ks)=e1 at*
 generalize tx (.mk op num s ks)=e2 at*
 generalize kd (.mk op num s ks)=e3 at*
 rw[Qy.av_eq]at*
 have dt:∀i:Decidable True, @decide True i=true:=fun i=>by simp
 have df:∀i:Decidable False, @decide False i=false:=fun i=>by simp
 cases b1:decide (op<1)with
 |true=>
  have F:=b1
  refine sb [.tmp 2] (fn:=Tryz.f48) Tryz.func48 ?_
  intro Q hQ
  refine wk F ?_
  refine ee hQ F ?_
  exact Fin.plain (.bool _) ⟨by simp,rfl⟩
 |false=>
 cases b2:decide (op>15)with
 |true=>
  have F:=F2 b1 b2
  refine sb [.tmp 2] (fn:=Tryz.f48) Tryz.func48 ?_
  intro Q hQ
  refine wk F ?_
  refine ee hQ F ?_
  exact Fin.plain (.bool _) ⟨by simp,rfl⟩
 |false=>
 have F:=F2 b1 b2
 cases e1 with
 |false=>
  refine sb [.tmp 2] (fn:=Tryz.f48) Tryz.func48 ?_
  intro Q hQ
  refine wk F ?_
  refine kq F (k1 _) ?_
  refine ee hQ F ?_
  exact Fin.plain (.bool _) ⟨by simp,rfl⟩
 |true=>
 cases e2 with
 |false=>
  refine sb [.tmp 2] (fn:=Tryz.f48) Tryz.func48 ?_
  intro Q hQ
  refine wk F ?_
  refine kq F (k1 _) ?_
  refine kq F (k2 _) ?_
  refine ee hQ F ?_
  exact Fin.plain (.bool _) ⟨by simp,rfl⟩
 |true=>
 cases e3 with
 |false=>
  refine sb [.tmp 2] (fn:=Tryz.f48) Tryz.func48 ?_
  intro Q hQ
  refine wk F ?_
  refine kq F (k1 _) ?_
  refine kq F (k2 _) ?_
  refine kq F (k3 _) ?_
  refine ee hQ F ?_
  exact Fin.plain (.bool _) ⟨by simp,rfl⟩
 |true=>
  refine sb [.tmp 2] (fn:=Tryz.f48) Tryz.func48 ?_
  intro Q hQ
  refine wk F ?_
  refine kq F (k1 _) ?_
  refine kq F (k2 _) ?_
  refine kq F (k3 _) ?_
  refine kq F (hany _) ?_
  refine ee hQ F ?_
  exact Fin.plain (.bool _) ⟨by simp,rfl⟩
end Go.Av
namespace Go.Av
open Go Go.Proofs Go.RowKit
abbrev T2:=Int×Int
def tA(t:T2):AVal:=.agg [.int .i64 t.1,.int .i64 t.2]
@[go_sem] theorem Ew(t:T2):tA t=.agg [.int .i64 t.1,.int .i64 t.2]:=(rfl)
def tadd(a b:T2):T2:=(a.1+b.1,a.2+b.2)
@[go_sem] theorem ES(o:Option T2):v1 (.agg [.int .i64 0,.int .i64 0]) tA o=.agg [.int .i64 (o.getD (0,0)).1,.int .i64 (o.getD (0,0)).2]:=iH (d:=(0,0)) rfl o
@[go_sem] theorem EU(c:Nat)(l:ML Int T2)(x a b:Int):putM (encM iA tA l) c (.int .i64 x) (.agg [.int .i64 a,.int .i64 b]) (ixM l x)=.mp (encM iA tA (upM l c x (a,b))) (ckM l c x):=fb c l x (a,b) rfl
@[go_sem] theorem Ex(c:Nat)(l:ML Bs T2)(x:Bs)(a b:Int):putM (encM AVal.str tA l) c (.str x) (.agg [.int .i64 a,.int .i64 b]) (ixM l x)=.mp (encM AVal.str tA (upM l c x (a,b))) (ckM l c x):=tG c l x (a,b) rfl
structure CS where
 al:T2
 st:T2
 fo:ML Int T2
 fe:ML Int T2
 tg:ML Bs T2
 it:ML Int It
 inn:ML Int Int
 ab:ML Int Int
 c1:Nat
 c2:Nat
 c3:Nat
 c4:Nat
 c5:Nat
 c6:Nat
def CS.row(m:Nat)(c:CS):AVal:=.agg [.int .i64 c.al.1,.int .i64 c.al.2,.int .i64 c.st.1,.int .i64 c.st.2,.hm m,.hm (m+1),.hm (m+2),.hm (m+3),.hm (m+4),.hm (m+5)]
def CS.bl(m:Nat)(c:CS):List Blk:=
 [.mp (encM iA tA c.fo) c.c1,.mp (encM iA tA c.fe) c.c2,.mp (encM AVal.str tA c.tg) c.c3,.mp (encM iA It.av c.it) c.c4,.mp (encM iA iA c.inn) c.c5,.mp (encM iA iA c.ab) c.c6,.row 56 10 0 [c.row m]]
def CS.z:CS:=⟨(0,0),(0,0),[],[],[],[],[],[],0,0,0,0,0,0⟩
def co(H:Heap)(m:Nat)(c:CS):Heap:=ov H m (c.bl m)
section
variable {H:Heap} {m:Nat} {c:CS}
@[go_sem] theorem tQ(hm:m+7≤H.length):getRow (co H m c) (m+6) 0=some (56,10,[.agg [.int .i64 c.al.1,.int .i64 c.al.2,.int .i64 c.st.1,.int .i64 c.st.2,.hm m,.hm (m+1),.hm (m+2),.hm (m+3),.hm (m+4),.hm (m+5)]]):=by
 unfold co;rw[hG 0 hm (by decide+revert:6<7)];rfl
@[go_sem] theorem wc(hm:m+7≤H.length):mapAt (co H m c) m=some (encM iA tA c.fo,c.c1):=by unfold co;rw[iK hm (by simp[CS.bl])];rfl
@[go_sem] theorem wd(hm:m+7≤H.length):mapAt (co H m c) (m+1)=some (encM iA tA c.fe,c.c2):=by unfold co;rw[bz hm (by simp[CS.bl])];rfl
@[go_sem] theorem wh(hm:m+7≤H.length):mapAt (co H m c) (m+2)=some (encM AVal.str tA c.tg,c.c3):=by unfold co;rw[bz hm (by simp[CS.bl])];rfl
@[go_sem] theorem wj(hm:m+7≤H.length):mapAt (co H m c) (m+3)=some (encM iA It.av c.it,c.c4):=by unfold co;rw[bz hm (by simp[CS.bl])];rfl
@[go_sem] theorem Ey(hm:m+7≤H.length):mapAt (co H m c) (m+4)=some (encM iA iA c.inn,c.c5):=by unfold co;rw[bz hm (by simp[CS.bl])];rfl
@[go_sem] theorem Ez(hm:m+7≤H.length):mapAt (co H m c) (m+5)=some (encM iA iA c.ab,c.c6):=by unfold co;rw[bz hm (by simp[CS.bl])];rfl
@[go_sem] theorem EA(hm:m+7≤H.length)(l:ML Int T2)(k:Nat):(co H m c).set m (.mp (encM iA tA l) k)=co H m {c with fo:=l,c1:=k}:=by unfold co;rw[fJ _ hm (by simp[CS.bl])];rfl
@[go_sem] theorem EB(hm:m+7≤H.length)(l:ML Int T2)(k:Nat):(co H m c).set (m+1) (.mp (encM iA tA l) k)=co H m {c with fe:=l,c2:=k}:=by unfold co;rw[bm _ hm (by simp[CS.bl])];rfl
@[go_sem] theorem EC(hm:m+7≤H.length)(l:ML Bs T2)(k:Nat):(co H m c).set (m+2) (.mp (encM AVal.str tA l) k)=co H m {c with tg:=l,c3:=k}:=by unfold co;rw[bm _ hm (by simp[CS.bl])];rfl
@[go_sem] theorem ED(hm:m+7≤H.length)(l:ML Int It)(k:Nat):(co H m c).set (m+3) (.mp (encM iA It.av l) k)=co H m {c with it:=l,c4:=k}:=by unfold co;rw[bm _ hm (by simp[CS.bl])];rfl
@[go_sem] theorem EE(hm:m+7≤H.length)(l:ML Int Int)(k:Nat):(co H m c).set (m+4) (.mp (encM iA iA l) k)=co H m {c with inn:=l,c5:=k}:=by unfold co;rw[bm _ hm (by simp[CS.bl])];rfl
@[go_sem] theorem EF(hm:m+7≤H.length)(l:ML Int Int)(k:Nat):(co H m c).set (m+5) (.mp (encM iA iA l) k)=co H m {c with ab:=l,c6:=k}:=by unfold co;rw[bm _ hm (by simp[CS.bl])];rfl
@[go_sem] theorem EG(hm:m+7≤H.length)(a b d e:Int):(co H m c).set (m+6) (.row 56 10 0 [.agg [.int .i64 a,.int .i64 b,.int .i64 d,.int .i64 e,.hm m,.hm (m+1),.hm (m+2),.hm (m+3),.hm (m+4),.hm (m+5)]])=co H m {c with al:=(a,b),st:=(d,e)}:=by unfold co;rw[bm _ hm (by simp[CS.bl])];rfl
@[go_sem] theorem kh(hm:m+7≤H.length)(j:Heap):co H m c++j=co (H++j) m c:=dA hm
@[go_sem] theorem bJ(hm:m+7≤H.length):(co H m c).length=H.length:=aD hm
@[go_sem] theorem p7(hm:m+7≤H.length){p:Nat}(hp:m+7≤p):(co H m c)[p]? =H[p]? :=fg hm (.inr hp)
@[go_sem] theorem iP(hm:m+7≤H.length){p:Nat}(v:Nat)(hp:m+7≤p):getRow (co H m c) p v=getRow H p v:=fK v hm (.inr hp)
@[go_sem] theorem sj(hm:m+7≤H.length){p:Nat}(b:Blk)(hp:m+7≤p):(co H m c).set p b=co (H.set p b) m c:=dM b hm (.inr hp)
@[go_sem] theorem tR(hm:m+7≤H.length):abin Tryz.prog (co H m c) .eql 27 (.hp (m+6) 0 0 0) (.nil (.pointer none))=some (.bool false):=by
 have hk:nilKind Tryz.prog 27 (.pointer none)=true:=by kernel_rfl
 simp[abin,hk,aeqNil,tQ hm]
end
theorem CS.clo{N m:Nat}(hm:m+7≤N)(c:CS):∀b∈c.bl m,CloB N b:=fun b hb=>by
 have hi:∀x:Int,Clo N (iA x):=fun x=>.int _ _
 have ht:∀x:T2,Clo N (tA x):=fun x=>bg fun c hc=>by simp at hc;rcases hc with rfl|rfl<;>simp
 simp only[CS.bl,List.mem_cons,List.not_mem_nil,or_false]at hb
 rcases hb with rfl|rfl|rfl|rfl|rfl|rfl|rfl
 ·exact aS hi ht _
 ·exact aS hi ht _
 ·exact aS (fun x=>.str _) ht _
 ·exact aS hi (fun x=>It.clo N x) _
 ·exact aS hi hi _
 ·exact aS hi hi _
 ·exact CloB.row fun r hr=>by
   simp at hr;subst hr
   exact bg fun c hc=>by
    simp only[CS.row,List.mem_cons,List.not_mem_nil,or_false]at hc
    rcases hc with rfl|rfl|rfl|rfl|rfl|rfl|rfl|rfl|rfl|rfl<;>simp<;>omega
theorem aM{H j:Heap}{m:Nat}{c c':CS}{R:AVal→Heap→Prop}{r:AVal}(hm:m+7≤H.length)(hc:Clo H.length r)(hR:R r (co H m c')):Fin (co H m c) (co (H++j) m c') R r:=hJ hm rfl (CS.clo hm c') hc hR
theorem mw{H:Heap}{m:Nat}{c c':CS}{R:AVal→Heap→Prop}{r:AVal}(hm:m+7≤H.length)(hc:Clo H.length r)(hR:R r (co H m c')):Fin (co H m c) (co H m c') R r:=mm hm rfl (CS.clo hm c') hc hR
theorem sk{H j:Heap}{m:Nat}{c c':CS}{R:AVal→Heap→Prop}{r0 r:AVal}(hm:m+7≤H.length)(hz:Frz (co (H++j) m c') H.length r0 r)(hR:R r (co H m c')):Fin (co H m c) (co (H++j) m c') R r0:=cF hm rfl (CS.clo hm c') hz hR
theorem tS(h:Heap)(c:CS):h++c.bl h.length=co (h++CS.z.bl h.length) h.length c:=by
 have:=ea h (c.bl h.length) []
 rw[List.append_nil]at this
 rw[this];unfold co
 have hz:ov (h++CS.z.bl h.length) h.length (CS.z.bl h.length)=h++CS.z.bl h.length:=by
  have:=ea h (CS.z.bl h.length) []
  rw[List.append_nil]at this;exact this.symm
 apply List.ext_getElem?
 intro p
 rw[aF (by simp),aF (by simp[CS.bl])]
 split
 ·rfl
 ·rename_i hp
  rcases Nat.lt_or_ge p h.length with h1|h1
  ·rw[List.getElem?_append_left h1,List.getElem?_append_left h1]
  ·rw[List.getElem?_append_right h1,List.getElem?_append_right h1,List.getElem?_eq_none (by simp[CS.bl]at hp ⊢;omega),List.getElem?_eq_none (by simp[CS.bl]at hp ⊢;omega)]
theorem rU{H:Heap}{n m:Nat}(s:PS)(c:CS)(hn:n+9≤m)(hm:m+7≤H.length):so (co H m c) n s=co (so H n s) m c:=iJ (bs:=s.bl n) (cs:=c.bl m) (by show n+9≤H.length;omega) hm (.inl hn)
end Go.Av
namespace Go.Av
open Go Go.Proofs Go.RowKit
def negT(t:T2):T2:=(-t.1, -t.2)
def oneT(t:It):T2:=(1,if t.read then 0 else 1)
def foF(t:T2):List Int→ML Int T2→Nat→ML Int T2×Nat
 | [],l,k=>(l,k)
 |id::ch,l,k=>foF t ch (upM l k id (tadd ((lkM l id).getD (0,0)) t)) (ckM l k id)
theorem qG(t:T2)(ch:List Int)(id:Int):∀(l:ML Int T2) (k:Nat),foF t (ch++[id]) l k=(upM (foF t ch l k).1 (foF t ch l k).2 id (tadd ((lkM (foF t ch l k).1 id).getD (0,0)) t),ckM (foF t ch l k).1 (foF t ch l k).2 id):=by
 induction ch with
 |nil=>intro l k;rfl
 |cons a ch ih=>intro l k;rw[List.cons_append,foF,ih];rfl
def CS.shift(c:CS)(ch:List Int)(feed:Int)(t:T2):CS:=
 {c with al:=tadd c.al t,fe:=upM c.fe c.c2 feed (tadd ((lkM c.fe feed).getD (0,0)) t),c2:=ckM c.fe c.c2 feed,fo:=(foF t ch c.fo c.c1).1,c1:=(foF t ch c.fo c.c1).2}
def tg1F(n:T2)(g:Bs)(l:ML Bs T2)(k:Nat):ML Bs T2×Nat:=
 if (tadd ((lkM l g).getD (0,0)) n).1=0 then(dlM l g,k)else(upM l k g (tadd ((lkM l g).getD (0,0)) n),ckM l k g)
def tgsF(n:T2):List Bs→ML Bs T2→Nat→ML Bs T2×Nat
 | [],l,k=>(l,k)
 |g::gs,l,k=>tgsF n gs (tg1F n g l k).1 (tg1F n g l k).2
theorem p8(n:T2)(gs:List Bs)(g:Bs):∀(l:ML Bs T2) (k:Nat),tgsF n (gs++[g]) l k=tg1F n g (tgsF n gs l k).1 (tgsF n gs l k).2:=by
 induction gs with
 |nil=>intro l k;rfl
 |cons a gs ih=>intro l k;rw[List.cons_append,tgsF,ih];rfl
def CS.tag(c:CS)(g:Bs)(n:T2):CS:= {c with tg:=(tg1F n g c.tg c.c3).1,c3:=(tg1F n g c.tg c.c3).2}
def CS.tags(c:CS)(gs:List Bs)(n:T2):CS:= {c with tg:=(tgsF n gs c.tg c.c3).1,c3:=(tgsF n gs c.tg c.c3).2}
def CS.star(c:CS)(b:Bool)(n:T2):CS:= {c with st:=if b then tadd c.st n else c.st}
def CS.count(c:CS)(ch:List Int)(t:It)(n:T2):CS:=((c.shift ch t.feed n).star t.star n).tags t.tags n
def chO(ab:ML Int Int):Nat→Int→Option (List Int)
 |0,id=>if id=0 then some []else none
 |k+1,id=>if id=0 then some []else(chO ab k ((lkM ab id).getD 0)).map (id:: ·)
def CS.chn(c:CS)(feed:Int):List Int:=(chO c.ab 7 ((lkM c.inn feed).getD 0)).getD []
theorem ed(t:T2):∀{ch:List Int} (_:ch.Nodup) (l:ML Int T2) (k:Nat) (x:Int),lkM (foF t ch l k).1 x=if x∈ch then some (tadd ((lkM l x).getD (0,0)) t)else lkM l x:=by
 intro ch
 induction ch with
 |nil=>intro _ l k x;simp[foF]
 |cons a ch ih=>
  intro hn l k x
  rw[List.nodup_cons]at hn
  rw[foF,ih hn.2]
  by_cases hx:x∈ch
  ·have hxa:x≠a:=fun e=>hn.1 (e▸hx)
   rw[if_pos hx,if_pos (List.mem_cons_of_mem _ hx),aj,if_neg hxa]
  ·rw[if_neg hx,aj]
   by_cases hxa:x=a
   ·subst hxa;rw[if_pos rfl,if_pos (List.mem_cons_self ..)]
   ·rw[if_neg hxa,if_neg (by simp[hx,hxa])]
theorem ki(t:T2):∀(ch:List Int) {l:ML Int T2} {k:Nat},WFM l k→WFM (foF t ch l k).1 (foF t ch l k).2:=by
 intro ch
 induction ch with
 |nil=>intro l k h;exact h
 |cons a ch ih=>intro l k h;rw[foF];exact ih (h.up _ _)
theorem iQ(n:T2)(g:Bs){l:ML Bs T2}{k:Nat}(h:WFM l k):WFM (tg1F n g l k).1 (tg1F n g l k).2:=by
 unfold tg1F
 split
 ·exact h.dl _
 ·exact h.up _ _
theorem sm(n:T2):∀(gs:List Bs) {l:ML Bs T2} {k:Nat},WFM l k→WFM (tgsF n gs l k).1 (tgsF n gs l k).2:=by
 intro gs
 induction gs with
 |nil=>intro l k h;exact h
 |cons a gs ih=>intro l k h;rw[tgsF];exact ih (iQ _ _ h)
def some0(u:T2):Option T2:=if u.1=0 then none else some u
theorem iR(n:T2)(g:Bs){l:ML Bs T2}{k:Nat}(w:WFM l k)(x:Bs):lkM (tg1F n g l k).1 x=if x=g then some0 (tadd ((lkM l x).getD (0,0)) n)else lkM l x:=by
 unfold tg1F some0
 by_cases hx:x=g
 ·subst hx
  rw[if_pos rfl]
  split
  ·rw[aQ w.keys,if_pos rfl]
  ·rw[aj,if_pos rfl]
 ·rw[if_neg hx]
  split
  ·rw[aQ w.keys,if_neg hx]
  ·rw[aj,if_neg hx]
theorem sn(n:T2):∀{gs:List Bs} (_:gs.Nodup) {l:ML Bs T2} {k:Nat} (_:WFM l k) (x:Bs),lkM (tgsF n gs l k).1 x=if x∈gs then some0 (tadd ((lkM l x).getD (0,0)) n)else lkM l x:=by
 intro gs
 induction gs with
 |nil=>intro _ l k _ x;simp[tgsF]
 |cons a gs ih=>
  intro hn l k w x
  rw[List.nodup_cons]at hn
  rw[tgsF,ih hn.2 (iQ _ _ w)]
  by_cases hx:x∈gs
  ·have hxa:x≠a:=fun e=>hn.1 (e▸hx)
   rw[if_pos hx,if_pos (List.mem_cons_of_mem _ hx),iR _ _ w,if_neg hxa]
  ·rw[if_neg hx,iR _ _ w]
   by_cases hxa:x=a
   ·subst hxa;rw[if_pos rfl,if_pos (List.mem_cons_self ..)]
   ·rw[if_neg hxa,if_neg (by simp[hx,hxa])]
def tl(L:List It)(p:It→Bool):T2:=((L.countP p:Nat),(L.countP (fun t=>p t&& !t.read):Nat))
def dlt(t:It)(p:It→Bool):T2:=if p t then oneT t else(0,0)
theorem bX(t:It)(L:List It)(p:It→Bool):tl (t::L) p=tadd (tl L p) (dlt t p):=by
 unfold tl dlt oneT tadd
 rw[List.countP_cons,List.countP_cons]
 cases h:p t<;>cases h2:t.read<;>simp[h]
theorem dh{L L':List It}(h:L.Perm L')(p:It→Bool):tl L p=tl L' p:=by
 unfold tl;rw[h.countP_eq,h.countP_eq]
theorem dC{L:List It}{p q:It→Bool}(h:∀t∈L,p t=q t):tl L p=tl L q:=by
 induction L with
 |nil=>rfl
 |cons t L ih=>rw[bX,bX,ih fun x hx=>h x (List.mem_cons_of_mem _ hx),dlt,dlt,h t (List.mem_cons_self ..)]
theorem rV(L:List It)(p:It→Bool):0≤(tl L p).2∧(tl L p).2≤(tl L p).1∧(tl L p).1≤L.length:=by
 unfold tl
 refine⟨by simp,?_,by simp only;exact Int.ofNat_le.2 List.countP_le_length⟩
 simp only
 exact Int.ofNat_le.2 (List.countP_mono_left fun t _ h=>by simp only[Bool.and_eq_true]at h;exact h.1)
theorem tT{L:List It}{p:It→Bool}(h:(tl L p).1=0):tl L p=(0,0):=by
 have:=rV L p
 rw[Prod.ext_iff];exact⟨h,by omega⟩
theorem fN{L:List It}{p:It→Bool}(h:∀t∈L,p t=false):tl L p=(0,0):=by
 apply tT
 unfold tl
 simp only
 have:L.countP p=0:=List.countP_eq_zero.2 fun t ht=>by rw[h t ht];simp
 rw[this];rfl
theorem p9(t:T2):tadd t (0,0)=t:=by unfold tadd;simp
theorem qH(t n:T2):tadd (tadd t n) (negT n)=t:=by unfold tadd negT;rw[Prod.ext_iff];simp only;omega
theorem fq(L:List It)(p:It→Bool):(some0 (tl L p)).getD (0,0)=tl L p:=by
 unfold some0
 split
 ·rename_i h;rw[tT h];rfl
 ·rfl
structure Tal (c:CS) (L:List It):Prop where
 al:c.al=tl L fun _=>true
 st:c.st=tl L fun t=>t.star
 fe:∀id,(lkM c.fe id).isSome=true→lkM c.fe id=some (tl L fun t=>decide (t.feed=id))
 fo:∀id,(lkM c.fo id).isSome=true→lkM c.fo id=some (tl L fun t=>decide (id∈c.chn t.feed))
 tg:∀g,lkM c.tg g=some0 (tl L fun t=>decide (g∈t.tags))
theorem Tal.perm{c:CS}{L L':List It}(h:Tal c L)(p:L.Perm L'):Tal c L' where
 al:=by rw[← dh p];exact h.al
 st:=by rw[← dh p];exact h.st
 fe:=fun id hi=>by rw[← dh p];exact h.fe id hi
 fo:=fun id hi=>by rw[← dh p];exact h.fo id hi
 tg:=fun g=>by rw[← dh p];exact h.tg g
structure Rdy (c:CS) (t:It):Prop where
 fe:(lkM c.fe t.feed).isSome=true
 ch:∃l,chO c.ab 7 ((lkM c.inn t.feed).getD 0)=some l∧l.Nodup∧l.length≤7∧∀x∈l,(lkM c.fo x).isSome=true
 tg:t.tags.Nodup
theorem Rdy.chn{c:CS}{t:It}(h:Rdy c t):(c.chn t.feed).Nodup∧∀x∈c.chn t.feed,(lkM c.fo x).isSome=true:=by
 obtain⟨l,h1,h2,_,h3⟩:=h.ch
 unfold CS.chn;rw[h1];exact⟨h2,h3⟩
theorem jf{c:CS}{L L':List It}{t:It}{n:T2}(h:Tal c L)(r:Rdy c t)(w3:WFM c.tg c.c3)
  (hy:∀p:It→Bool,p t=true→tl L' p=tadd (tl L p) n)(hn:∀p:It→Bool,p t=false→tl L' p=tl L p):Tal (c.count (c.chn t.feed) t n) L' where
 al:=by rw[hy _ rfl, ← h.al];rfl
 st:=by
  show(if t.star then tadd c.st n else c.st)=_
  cases hs:t.star with
  |true=>rw[if_pos rfl,hy _ hs, ← h.st]
  |false=>rw[if_neg (by simp),hn _ hs, ← h.st]
 fe:=fun id hi=>by
  have hi:(lkM (upM c.fe c.c2 t.feed (tadd ((lkM c.fe t.feed).getD (0,0)) n)) id).isSome=true:=hi
  show lkM (upM c.fe c.c2 t.feed (tadd ((lkM c.fe t.feed).getD (0,0)) n)) id=_
  rw[aj]at hi ⊢
  by_cases hx:id=t.feed
  ·subst hx
   rw[if_pos rfl,h.fe _ r.fe,hy _ (by simp)];rfl
  ·rw[if_neg hx]at hi ⊢
   rw[h.fe _ hi,hn _ (by simp;exact fun e=>hx e.symm)]
 fo:=fun id hi=>by
  obtain⟨hnd,hpr⟩:=r.chn
  have hi:(lkM (foF n (c.chn t.feed) c.fo c.c1).1 id).isSome=true:=hi
  show lkM (foF n (c.chn t.feed) c.fo c.c1).1 id=some (tl L' fun t=>decide (id∈c.chn t.feed))
  rw[ed n hnd]at hi ⊢
  by_cases hx:id∈c.chn t.feed
  ·rw[if_pos hx,h.fo _ (hpr id hx),hy _ (by simpa using hx)];rfl
  ·rw[if_neg hx]at hi ⊢
   rw[h.fo _ hi,hn _ (by simpa using hx)]
 tg:=fun g=>by
  show lkM (tgsF n t.tags c.tg c.c3).1 g=_
  rw[sn n r.tg w3]
  by_cases hx:g∈t.tags
  ·rw[if_pos hx,h.tg,fq,hy _ (by simpa using hx)]
  ·rw[if_neg hx,h.tg,hn _ (by simpa using hx)]
theorem qI{c:CS}{L:List It}{t:It}(h:Tal c L)(r:Rdy c t)(w3:WFM c.tg c.c3):Tal (c.count (c.chn t.feed) t (oneT t)) (t::L):=
 jf h r w3 (fun p hp=>by rw[bX,dlt,if_pos hp]) (fun p hp=>by rw[bX,dlt,if_neg (by simp[hp]),p9])
theorem jg{c:CS}{L:List It}{t:It}(h:Tal c (t::L))(r:Rdy c t)(w3:WFM c.tg c.c3):Tal (c.count (c.chn t.feed) t (negT (oneT t))) L:=
 jf h r w3 (fun p hp=>by rw[bX,dlt,if_pos hp,qH]) (fun p hp=>by rw[bX,dlt,if_neg (by simp[hp]),p9])
structure CS.Wf (c:CS):Prop where
 w1:WFM c.fo c.c1
 w2:WFM c.fe c.c2
 w3:WFM c.tg c.c3
 w4:WFM c.it c.c4
 w5:WFM c.inn c.c5
 w6:WFM c.ab c.c6
theorem CS.Wf.count{c:CS}(w:c.Wf)(ch:List Int)(t:It)(n:T2):(c.count ch t n).Wf:=
 {w with w1:=ki _ _ w.w1,w2:=w.w2.up _ _,w3:=sm _ _ w.w3}
structure CS.Like (c d:CS):Prop where
 it:d.it=c.it
 c4:d.c4=c.c4
 inn:d.inn=c.inn
 ab:d.ab=c.ab
 fe:∀id,(lkM d.fe id).isSome=(lkM c.fe id).isSome
 fo:∀id,(lkM d.fo id).isSome=(lkM c.fo id).isSome
theorem CS.Like.chn{c d:CS}(h:c.Like d)(f:Int):d.chn f=c.chn f:=by unfold CS.chn;rw[h.ab,h.inn]
theorem CS.Like.rdy{c d:CS}(h:c.Like d){t:It}(r:Rdy c t):Rdy d t where
 fe:=by rw[h.fe];exact r.fe
 ch:=by
  obtain⟨l,h1,h2,h3,h4⟩:=r.ch
  exact⟨l,by rw[h.ab,h.inn];exact h1,h2,h3,fun x hx=>by rw[h.fo];exact h4 x hx⟩
 tg:=r.tg
theorem CS.count_like{c:CS}{t:It}(r:Rdy c t)(n:T2):c.Like (c.count (c.chn t.feed) t n) where
 it:=rfl
 c4:=rfl
 inn:=rfl
 ab:=rfl
 fe:=fun id=>by
  show(lkM (upM c.fe c.c2 t.feed _) id).isSome=_
  rw[aj]
  split
  ·rename_i h;subst h;rw[r.fe];rfl
  ·rfl
 fo:=fun id=>by
  obtain⟨hnd,hpr⟩:=r.chn
  show(lkM (foF n (c.chn t.feed) c.fo c.c1).1 id).isSome=_
  rw[ed n hnd]
  split
  ·rename_i h;rw[hpr id h];rfl
  ·rfl
end Go.Av
namespace Go.Av
open Go Go.Proofs Go.RowKit
attribute [local irreducible] WP WPl WPix Sat
section
variable {C:Ctx} {ops:Array Oper} {rest:List Oper} {t:Env} {h:Heap} {K:Env→Prop} {dst:Option Nat} {ty:TypeId} {pos:String} {aft:Array Edge}
@[go_sem] theorem tU(f:Fn)(a b:Array Operand):WPp C ops (⟨dst,.makeFunc f a b,ty,pos,aft,none⟩::rest) t h K=WPp C ops rest (put t dst (.fn f (a.toList.map (aev C.G t)) (b.toList.map (aev C.G t)))) h K:=aZ (Det.pure _) fun _=>rfl
end
variable (G:Nat→Option (List AVal))
def bd(B:Int)(t:T2):Prop:=(-B≤t.1∧t.1≤B)∧(-B≤t.2∧t.2≤B)
theorem tV(N:Nat)(a b:Int):Clo N (.agg [.int .i64 a,.int .i64 b]):=bg fun c hc=>by simp at hc;rcases hc with rfl|rfl<;>simp
theorem dD(a1 a2 b1 b2:Int)(ha:bd 1000000000 (a1,a2))(hb:bd 1000000000 (b1,b2))(h:Heap):Sat (CT G) 76 [.agg [.int .i64 a1,.int .i64 a2],.agg [.int .i64 b1,.int .i64 b2]] h (fun r h'=>r=.agg [.int .i64 (a1+b1),.int .i64 (a2+b2)]∧h'=h):=by
 obtain⟨⟨_,_⟩,_,_⟩:=ha
 obtain⟨⟨_,_⟩,_,_⟩:=hb
 simp only at*
 refine sb [.cell 4 54] (fn:=Tryz.f76) Tryz.func76 ?_
 intro Q hQ
 refine wk trivial ?_
 refine ye hQ trivial ?_
 exact Fin.plain (tV ..) ⟨rfl,rfl⟩
theorem ft(a1 a2:Int)(ha:bd 1000000000 (a1,a2))(h:Heap):Sat (CT G) 71 [.agg [.int .i64 a1,.int .i64 a2]] h (fun r h'=>r=.agg [.int .i64 (-a1),.int .i64 (-a2)]∧h'=h):=by
 obtain⟨⟨_,_⟩,_,_⟩:=ha
 simp only at*
 refine sb [.cell 2 54] (fn:=Tryz.f71) Tryz.func71 ?_
 intro Q hQ
 refine wk trivial ?_
 refine ye hQ trivial ?_
 exact Fin.plain (tV ..) ⟨by simp,rfl⟩
theorem pb(c:CS)(g:Bs)(n:T2)(hb:bd 1000000 ((lkM c.tg g).getD (0,0)))(hn:bd 1000000 n){H:Heap}{m:Nat}(hm:m+7≤H.length):Sat (CT G) 77 [.hp (m+6) 0 0 0,.str g,tA n] (co H m c) (fun r h'=>r=.tup []∧h'=co H m (c.tag g n)):=by
 have hb':bd 1000000000 (((lkM c.tg g).getD (0,0)).1,((lkM c.tg g).getD (0,0)).2):=by unfold bd at *;omega
 have hn':bd 1000000000 (n.1,n.2):=by unfold bd at *;omega
 refine sb [] (fn:=Tryz.f77) Tryz.func77 ?_
 intro Q hQ
 refine wk trivial ?_
 refine bf (dD G _ _ _ _ hb' hn' _) ?_
 try refine sq trivial ?_
 refine wk trivial ?_
 refine cq trivial (fun c1=>?_) (fun c1=>?_)<;>(try exact c1.elim)<;>(refine wk trivial ?_)
 ·refine ee hQ trivial ?_
  exact aM hm (.tup _ (by simp)) ⟨rfl,by simp[CS.tag,tg1F,tadd,c1]⟩
 ·refine ee hQ trivial ?_
  exact aM hm (.tup _ (by simp)) ⟨rfl,by simp[CS.tag,tg1F,tadd,c1]⟩
def Boxed(H:Heap)(m q1 q2:Nat)(n:T2):Prop:=
 m+7≤q1∧m+7≤q2∧getRow H q1 0=some (27,1,[.hp (m+6) 0 0 0])∧getRow H q2 0=some (54,2,[.agg [.int .i64 n.1,.int .i64 n.2]])
def CS.add1(c:CS)(id:Int)(n:T2):CS:= {c with fo:=upM c.fo c.c1 id (tadd ((lkM c.fo id).getD (0,0)) n),c1:=ckM c.fo c.c1 id}
theorem kj(c:CS)(id:Int)(n:T2)(hb:bd 100000000 ((lkM c.fo id).getD (0,0)))(hn:bd 1000000 n){H:Heap}{m q1 q2:Nat}(hm:m+7≤H.length)(hx:Boxed H m q1 q2 n):
  Sat (CT G) 106 [.int .i64 id,.hp q1 0 0 0,.hp q2 0 0 0] (co H m c) (fun r h'=>r=.tup []∧h'=co H m (c.add1 id n)):=by
 have hb':bd 1000000000 (((lkM c.fo id).getD (0,0)).1,((lkM c.fo id).getD (0,0)).2):=by unfold bd at *;omega
 have hn':bd 1000000000 (n.1,n.2):=by unfold bd at *;omega
 obtain⟨x1,x2,x3,x4⟩:=hx
 have F:=F2 x3 x4
 refine sb [] (fn:=Tryz.f106) Tryz.func106 ?_
 intro Q hQ
 refine wk F ?_
 refine bf (dD G _ _ _ _ hb' hn' _) ?_
 try refine sq F ?_
 refine wk F ?_
 refine ee hQ F ?_
 exact mw hm (.tup _ (by simp)) ⟨rfl,rfl⟩
end Go.Av
namespace Go.Av
open Go Go.Proofs Go.RowKit
attribute [local irreducible] WP WPl WPix Sat
variable (G:Nat→Option (List AVal))
def CS.foT(c:CS)(ch:List Int)(n:T2):CS:= {c with fo:=(foF n ch c.fo c.c1).1,c1:=(foF n ch c.fo c.c1).2}
theorem CS.foT_snoc(c:CS)(ch:List Int)(id:Int)(n:T2):(c.foT ch n).add1 id n=c.foT (ch++[id]) n:=by
 unfold CS.foT CS.add1
 rw[qG]
theorem pc{n:T2}{B D:Int}(hn:bd D n):∀(ch:List Int) {l:ML Int T2} {k:Nat},(∀id,bd B ((lkM l id).getD (0,0)))→∀id,bd (B+D*ch.length) ((lkM (foF n ch l k).1 id).getD (0,0)):=by
 intro ch
 induction ch generalizing B with
 |nil=>intro l k h id;have:=h id;simpa [foF]using this
 |cons a ch ih=>
  intro l k h id
  rw[foF]
  have h1:∀id,bd (B+D) ((lkM (upM l k a (tadd ((lkM l a).getD (0,0)) n)) id).getD (0,0)):=by
   intro id
   rw[aj]
   split
   ·have:=h a
    simp only[Option.getD_some,tadd]
    unfold bd at *;simp only;omega
   ·have:=h id
    unfold bd at *;omega
  have h2:=ih h1 id (k:=ckM l k a)
  have:D*((a::ch).length:Int)=D+D*(ch.length:Int):=by rw[List.length_cons];push_cast;rw[Int.mul_add];omega
  rw[this, ← Int.add_assoc];exact h2
theorem lG(c:CS)(id0:Int)(ch:List Int)(k0:Nat)(n:T2)(hch:chO c.ab k0 id0=some ch)(hl:ch.length≤50)(hb:∀id,bd 1000000 ((lkM c.fo id).getD (0,0)))(hn:bd 1000000 n){H:Heap}{m q1 q2:Nat}(hm:m+7≤H.length)(hx:Boxed H m q1 q2 n):
  Sat (CT G) 105 [.hp (m+6) 0 0 0,.int .i64 id0,.fn (.func 106) [] [.hp q1 0 0 0,.hp q2 0 0 0]] (co H m c) (fun r h'=>r=.tup []∧h'=co H m (c.foT ch n)):=by
 refine sb [] (fn:=Tryz.f105) Tryz.func105 ?_
 intro Q hQ
 refine wk trivial ?_
 refine lm (fun nL tL hL=>∃(done rest:List Int) (id:Int),rest.length=nL∧co H m (c.foT done n)=hL∧tL 0=.hp (m+6) 0 0 0∧tL 1=.int .i64 id∧tL 2=.fn (.func 106) [] [.hp q1 0 0 0,.hp q2 0 0 0]∧done++rest=ch∧(∃k,chO c.ab k id=some rest)) ((fun(done rest:List Int) (id:Int)=>(rest.length:Nat)) ([]) (ch) (id0)) ?_ ?_
 ·refine Wkn.refl ⟨[],ch,id0,rfl,bp,?_,?_,?_,rfl,⟨k0,hch⟩⟩
  all_goals first|exact zq trivial|rfl|omega|trivial|skip
 rintro _ s2 h' ⟨done,rest,id,rfl,rfl,e0,e1,e2,hd,hr⟩ K2 hK2
 simp only[ak,ao,Nat.reduceEqDiff, ↓reduceIte]at e0 e1 e2
 have F:=F3 e0 e1 e2
 refine wk F ?_
 obtain⟨k,hr⟩:=hr
 have hdl:(done.length:Int)≤50:=by have:=congrArg List.length hd;rw[List.length_append]at this;omega
 have hbd:∀id,bd 100000000 ((lkM (c.foT done n).fo id).getD (0,0)):=fun id=>by
  have:=pc (B:=1000000) (D:=1000000) hn done (k:=c.c1) hb id
  unfold CS.foT
  unfold bd at this ⊢;simp only;omega
 refine cq F (fun c1=>?_) (fun c1=>?_)<;>(try exact c1.elim)<;>(refine wk F ?_)
 ·obtain⟨k',rest',rfl,hr'⟩:∃k' rest',rest=id::rest'∧chO c.ab k' ((lkM c.ab id).getD 0)=some rest':=by
   cases k with
   |zero=>rw[chO,if_neg c1]at hr;cases hr
   |succ k=>
    rw[chO,if_neg c1]at hr
    simp only[Option.map_eq_some_iff]at hr
    obtain⟨r,h1,h2⟩:=hr
    exact⟨k,r,h2.symm,h1⟩
  refine kq F (kj G (c.foT done n) id n (hbd id) hn hm hx) ?_
  have hlc:(id::rest').length=rest'.length+1:=rfl
  refine hK2 _ _ _ (Wkn.refl ⟨done++[id],rest',(lkM c.ab id).getD 0,rfl,by rw[CS.foT_snoc],?_,?_,?_,by rw[List.append_assoc];exact hd,⟨k',hr'⟩⟩) (by omega)
  all_goals first|exact zq F|rfl|omega|trivial|skip
 ·have hre:rest=[]:=by
   cases k with
   |zero=>rw[chO]at hr;rw[c1]at hr;simpa using hr.symm
   |succ k=>rw[chO]at hr;rw[c1]at hr;simpa using hr.symm
  subst hre
  rw[List.append_nil]at hd
  subst hd
  refine wk F ?_
  refine ee hQ F ?_
  exact mw hm (.tup _ (by simp)) ⟨rfl,rfl⟩
structure CS.Bd (c:CS) (B:Int):Prop where
 al:bd B c.al
 st:bd B c.st
 fe:∀id,bd B ((lkM c.fe id).getD (0,0))
 fo:∀id,bd B ((lkM c.fo id).getD (0,0))
 tg:∀g,bd B ((lkM c.tg g).getD (0,0))
theorem dQ(c:CS)(feed:Int)(ch:List Int)(k0:Nat)(n:T2)(hch:chO c.ab k0 ((lkM c.inn feed).getD 0)=some ch)(hl:ch.length≤50)(hb:c.Bd 1000000)(hn:bd 1000000 n){H:Heap}{m:Nat}(hm:m+7≤H.length):
  Sat (CT G) 70 [.hp (m+6) 0 0 0,.int .i64 feed,.agg [.int .i64 n.1,.int .i64 n.2]] (co H m c) (fun r h'=>r=.tup []∧h'=co H m (c.shift ch feed n)):=by
 have b1:bd 1000000000 (c.al.1,c.al.2):=by have:=hb.al;unfold bd at *;omega
 have b2:bd 1000000000 (((lkM c.fe feed).getD (0,0)).1,((lkM c.fe feed).getD (0,0)).2):=by have:=hb.fe feed;unfold bd at *;omega
 have hn':bd 1000000000 (n.1,n.2):=by unfold bd at *;omega
 refine sb [] (fn:=Tryz.f70) Tryz.func70 ?_
 intro Q hQ
 refine wk trivial ?_
 refine bf (dD G _ _ _ _ b1 hn' _) ?_
 try refine sq trivial ?_
 refine wk trivial ?_
 skip
 refine bf (dD G _ _ _ _ b2 hn' _) ?_
 try refine sq trivial ?_
 refine wn trivial ?_
 refine bq 8 0 _ (by rfl) (by decide+kernel) (by kernel_rfl) (by decide+kernel) (by decide+kernel) (by decide+kernel) ?_
 simp only[List.take_succ_cons,List.take_zero]
 refine sq trivial ?_
 refine wn trivial ?_
 skip
 refine(lG G {c with al:=tadd c.al n,fe:=upM c.fe c.c2 feed (tadd ((lkM c.fe feed).getD (0,0)) n),c2:=ckM c.fe c.c2 feed} ((lkM c.inn feed).getD 0) ch k0 n hch hl hb.fo hn (by first|omega| (simp;omega)) ⟨by omega,by omega,by rw[aG _ rfl];rfl,by rw[aX _ rfl];rfl⟩).mono ?_
 rintro r h' ⟨rfl,rfl⟩
 try refine sq trivial ?_
 refine wk trivial ?_
 refine ee hQ trivial ?_
 exact aM hm (.tup _ (by simp)) ⟨rfl,rfl⟩
end Go.Av
namespace Go.Av
open Go Go.Proofs Go.RowKit
attribute [local irreducible] WP WPl WPix Sat
variable (G:Nat→Option (List AVal))
theorem su{n:T2}{B D:Int}(hB:0≤B+D)(hn:bd D n)(g:Bs){l:ML Bs T2}{k:Nat}(w:WFM l k)(h:∀x,bd B ((lkM l x).getD (0,0)))(h0:0≤B)(hD:0≤D)(x:Bs):bd (B+D) ((lkM (tg1F n g l k).1 x).getD (0,0)):=by
 rw[iR n g w]
 have h1:=h x
 split
 ·unfold some0
  split
  ·simp only[Option.getD_none];unfold bd;simp only;omega
  ·simp only[Option.getD_some,tadd];unfold bd at *;simp only;omega
 ·unfold bd at *;omega
theorem sv{n:T2}{D:Int}(hD:0≤D)(hn:bd D n):∀(gs:List Bs) {B:Int} (_:0≤B) {l:ML Bs T2} {k:Nat} (_:WFM l k),(∀x,bd B ((lkM l x).getD (0,0)))→∀x,bd (B+D*gs.length) ((lkM (tgsF n gs l k).1 x).getD (0,0)):=by
 intro gs
 induction gs with
 |nil=>intro B _ l k _ h x;have:=h x;simpa [tgsF]using this
 |cons a gs ih=>
  intro B h0 l k w h x
  rw[tgsF]
  have h2:=ih (B:=B+D) (by omega) (iQ n a w) (su (by omega) hn a w h h0 hD) x
  have:D*((a::gs).length:Int)=D+D*(gs.length:Int):=by rw[List.length_cons];push_cast;rw[Int.mul_add];omega
  rw[this, ← Int.add_assoc];exact h2
def awT(t:It)(aw:Bool):T2:=if aw then negT (oneT t)else oneT t
theorem tW(t:It)(aw:Bool):bd 1 (awT t aw):=by
 unfold awT oneT negT bd
 cases aw<;>cases t.read<;>simp
theorem CS.tags_snoc(c:CS)(gs:List Bs)(g:Bs)(n:T2):(c.tags gs n).tag g n=c.tags (gs++[g]) n:=by
 unfold CS.tags CS.tag
 rw[p8]
theorem dR(c:CS)(t:It)(aw:Bool)(ch:List Int)(k0:Nat)(hch:chO c.ab k0 ((lkM c.inn t.feed).getD 0)=some ch)(hl:ch.length≤50)(ht:t.tags.length≤1000)(w3:WFM c.tg c.c3)(hb:c.Bd 100000){H:Heap}{m:Nat}(hm:m+7≤H.length):
  Sat (CT G) 40 [.hp (m+6) 0 0 0,t.av,.bool aw] (co H m c) (fun r h'=>r=.tup []∧h'=co H m (c.count ch t (awT t aw))):=by
 have hb1:c.Bd 1000000:=⟨by have:=hb.al;unfold bd at *;omega,by have:=hb.st;unfold bd at *;omega,fun id=>by have:=hb.fe id;unfold bd at *;omega,fun id=>by have:=hb.fo id;unfold bd at *;omega,fun id=>by have:=hb.tg id;unfold bd at *;omega⟩
 have hsh:∀(n:T2),bd 1000000 n→∀(H:Heap),m+7≤H.length→Sat (CT G) 70 [.hp (m+6) 0 0 0,.int .i64 t.feed,.agg [.int .i64 n.1,.int .i64 n.2]] (co H m c) (fun r h'=>r=.tup []∧h'=co H m (c.shift ch t.feed n)):=fun n hn H hm=>dQ G c t.feed ch k0 n hch hl hb1 hn hm
 have b2:bd 1000000000 (c.st.1,c.st.2):=by have:=hb.st;unfold bd at *;omega
 have hnb:=tW t aw
 have hnb1:bd 1000000 (awT t aw):=by unfold bd at *;omega
 have hnb2:bd 1000000000 ((awT t aw).1,(awT t aw).2):=by unfold bd at *;omega
 have hsn:=hsh (awT t aw) hnb1
 have hlast:∀(H:Heap),m+7≤H.length→∀k,k≤t.tags.length→∀g,t.tags[k]? =some g→Sat (CT G) 77 [.hp (m+6) 0 0 0,.str g,.agg [.int .i64 (awT t aw).1,.int .i64 (awT t aw).2]] (co H m (((c.shift ch t.feed (awT t aw)).star t.star (awT t aw)).tags (t.tags.take k) (awT t aw)))
   (fun r h'=>r=.tup []∧h'=co H m (((c.shift ch t.feed (awT t aw)).star t.star (awT t aw)).tags (t.tags.take (k+1)) (awT t aw))):=fun H hm k hk g hg=>by
  have htk:t.tags.take (k+1)=t.tags.take k++[g]:=by rw[List.take_add_one,hg];rfl
  rw[htk, ← CS.tags_snoc]
  refine pb G _ g (awT t aw) ?_ hnb1 hm
  have h1:=sv (D:=1) (by omega) hnb (t.tags.take k) (B:=100000) (by omega) w3 hb.tg g
  have:((t.tags.take k).length:Int)≤1000:=by rw[List.length_take];omega
  show bd 1000000 ((lkM (tgsF (awT t aw) (t.tags.take k) c.tg c.c3).1 g).getD (0,0))
  unfold bd at *;omega
 have hend:((c.shift ch t.feed (awT t aw)).star t.star (awT t aw)).tags (t.tags.take t.tags.length) (awT t aw)=c.count ch t (awT t aw):=by rw[List.take_length];rfl
 have hst0:((c.shift ch t.feed (awT t aw)).star t.star (awT t aw)).tags (t.tags.take 0) (awT t aw)=(c.shift ch t.feed (awT t aw)).star t.star (awT t aw):=rfl
 have hsl:=hsn
 have hnl:=hnb2
 generalize hn:awT t aw=n at hsn hnb hnb1 hnb2 hlast hend hst0 ⊢
 obtain⟨b,hbs⟩:∃b,t.star=b:=⟨_,rfl⟩
 rw[hbs]at hlast hend hst0
 cases hr:t.read<;>cases aw<;>cases hs:t.star
 all_goals (
  simp only[awT,oneT,negT,hr,Bool.false_eq_true, ↓reduceIte]at hsl hnl
  have F:=F2 hr hs
  refine sb [] (fn:=Tryz.f40) Tryz.func40 ?_
  intro Q hQ
  refine wk F ?_
  try refine kq F (ft G 1 1 (by unfold bd;simp) _) ?_
  try refine kq F (ft G 1 0 (by unfold bd;simp) _) ?_
  refine kq F (hsl _ (by first|omega| (simp;omega))) ?_
  try refine bf (dD G _ _ _ _ b2 hnl _) ?_
  try refine sq F ?_
  refine wk F ?_
  refine lm (fun nL tL hL=>∃(k:Nat),t.tags.length-k=nL∧co (H++[.row 70 9 0 [t.av],.row 54 2 0 [.agg [.int .i64 n.1,.int .i64 n.2]]]) m (((c.shift ch t.feed n).star b n).tags (t.tags.take k) n)=hL∧tL 0=.hp (m+6) 0 0 0∧tL 6=.hp (H.length+1) 0 0 0∧tL 33=.sl 1 (t.tags.map .str)∧tL 34=.int .i64 (t.tags.length:Int)∧tL 35=.int .i64 k∧k≤t.tags.length) ((fun(k:Nat)=>(t.tags.length-k:Nat)) (0)) ?_ ?_
  ·refine Wkn.refl ⟨0,rfl,by subst hn;rw[hst0, ← hbs];simp[awT,oneT,negT,hr,hs,It.av,CS.star,CS.shift,tadd],?_,?_,?_,?_,?_,by omega⟩
   all_goals first|exact zq F|rfl|omega|trivial|skip
  rintro _ s2 h' ⟨k,rfl,rfl,e0,e6,e33,e34,e35,hk⟩ K2 hK2
  simp only[ak,ao,Nat.reduceEqDiff, ↓reduceIte]at e0 e6 e33 e34 e35
  have F:=F6 F e0 e6 e33 e34 e35
  refine wk F ?_
  refine cq F (fun c1=>?_) (fun c1=>?_)<;>(try exact c1.elim)<;>(refine wk F ?_)
  ·have c2:k<t.tags.length:=by omega
   obtain⟨g,hg,_⟩:=ah c2
   have F:=F3 F c2 hg
   try refine sq F ?_
   refine wk F ?_
   refine kq F (hlast _ (by first|omega| (simp;omega)) k hk g hg) ?_
   refine hK2 _ _ _ (Wkn.refl ⟨k+1,rfl,by rw[It.av_eq,hr,hs],?_,?_,?_,?_,?_,by omega⟩) (by omega)
   all_goals first|exact zq F|rfl|omega|trivial|skip
  ·have hk2:k=t.tags.length:=by omega
   subst hk2
   rw[hend]
   refine ee hQ F ?_
   exact aM hm (.tup _ (by simp)) ⟨rfl,rfl⟩)
end Go.Av
namespace Go.Av
open Go Go.Proofs Go.RowKit
attribute [local irreducible] WP WPl WPix Sat
theorem my{κ α:Type}[DecidableEq κ]{l:ML κ α}{k:κ}{o:α}(h:lkM l k=some o):(l.map (·.2.1)).Perm (o::(dlM l k).map (·.2.1)):=by
 induction l with
 |nil=>cases h
 |cons e l ih=>
  rw[lkM]at h
  rw[dlM]
  split at h
  ·rename_i hx;cases h;rw[if_pos hx];exact .refl _
  ·rename_i hx;rw[if_neg hx];exact((ih h).cons _).trans (.swap _ _ _)
theorem qJ{κ α:Type}[DecidableEq κ]{l:ML κ α}{k:κ}(h:lkM l k=none):dlM l k=l:=by
 induction l with
 |nil=>rfl
 |cons e l ih=>
  rw[lkM]at h
  rw[dlM]
  split at h
  ·cases h
  ·rename_i hx;rw[if_neg hx,ih h]
theorem sw{κ α:Type}[DecidableEq κ](l:ML κ α)(c:Nat)(k:κ)(a:α):((upM l c k a).map (·.2.1)).Perm (a::(dlM l k).map (·.2.1)):=by
 induction l with
 |nil=>exact .refl _
 |cons e l ih=>
  rw[upM,dlM]
  split
  ·exact .refl _
  ·exact(ih.cons _).trans (.swap _ _ _)
theorem Tal.toBd{c:CS}{L:List It}(h:Tal c L)(hl:L.length≤100000):c.Bd 100000:=by
 have hb:∀p,Av.bd 100000 (tl L p):=fun p=>by have:=rV L p;unfold Av.bd;omega
 have h0:Av.bd 100000 (0,0):=by unfold Av.bd;simp
 refine⟨by rw[h.al];exact hb _,by rw[h.st];exact hb _,fun id=>?_,fun id=>?_,fun g=>?_⟩
 ·cases hl:(lkM c.fe id).isSome with
  |true=>rw[h.fe id hl];exact hb _
  |false=>rw[Option.isSome_eq_false_iff,Option.isNone_iff_eq_none]at hl;rw[hl];exact h0
 ·cases hl:(lkM c.fo id).isSome with
  |true=>rw[h.fo id hl];exact hb _
  |false=>rw[Option.isSome_eq_false_iff,Option.isNone_iff_eq_none]at hl;rw[hl];exact h0
 ·rw[h.tg,fq];exact hb _
structure CS.Own (c:CS):Prop where
 wf:c.Wf
 tal:Tal c (c.it.map (·.2.1))
 rdy:∀k t,lkM c.it k=some t→Rdy c t∧t.id=k∧t.tags.length≤8
 len:c.it.length≤1024
def CS.inIt(c:CS)(t:It):CS:= {c with it:=upM c.it c.c4 t.id t,c4:=ckM c.it c.c4 t.id}
def CS.out1(c:CS)(t:It):CS:=match lkM c.it t.id with
 |some o=>c.count (c.chn o.feed) o (negT (oneT o))
 |none=>c
def CS.putF(c:CS)(t:It):CS:=((c.out1 t).inIt t).count (c.chn t.feed) t (oneT t)
theorem CS.Like.refl(c:CS):c.Like c:=⟨rfl,rfl,rfl,rfl,fun _=>rfl,fun _=>rfl⟩
theorem CS.Own.out1{c:CS}(h:c.Own)(t:It):Tal (c.out1 t) ((dlM c.it t.id).map (·.2.1))∧c.Like (c.out1 t)∧(c.out1 t).Wf:=by
 unfold CS.out1
 cases hl:lkM c.it t.id with
 |none=>simp only;rw[qJ hl];exact⟨h.tal,.refl c,h.wf⟩
 |some o=>
  simp only
  have hr:=(h.rdy _ _ hl).1
  exact⟨jg (h.tal.perm (my hl)) hr h.wf.w3,CS.count_like hr _,h.wf.count _ _ _⟩
theorem Rdy.ch7{c:CS}{t:It}(r:Rdy c t):chO c.ab 7 ((lkM c.inn t.feed).getD 0)=some (c.chn t.feed)∧(c.chn t.feed).length≤7:=by
 obtain⟨l,h1,_,h3,_⟩:=r.ch
 unfold CS.chn;rw[h1];exact⟨rfl,h3⟩
theorem Tal.inIt{c:CS}{L:List It}(h:Tal c L)(t:It):Tal (c.inIt t) L:=⟨h.al,h.st,h.fe,h.fo,h.tg⟩
theorem Rdy.inIt{c:CS}{t:It}(r:Rdy c t)(u:It):Rdy (c.inIt u) t:=⟨r.fe,r.ch,r.tg⟩
theorem CS.Own.putF{c:CS}(h:c.Own){t:It}(r:Rdy c t)(ht:t.tags.length≤8)(hl:c.it.length<1024∨(lkM c.it t.id).isSome=true):(c.putF t).Own∧c.it.length≤1024∧(c.putF t).it=upM c.it c.c4 t.id t∧(c.putF t).inn=c.inn∧(c.putF t).ab=c.ab∧(∀id,(lkM (c.putF t).fe id).isSome=(lkM c.fe id).isSome)∧(∀id,(lkM (c.putF t).fo id).isSome=(lkM c.fo id).isSome):=by
 obtain⟨h1,h2,h3⟩:=h.out1 t
 have r1:Rdy ((c.out1 t).inIt t) t:=(h2.rdy r).inIt t
 have hc:((c.out1 t).inIt t).chn t.feed=c.chn t.feed:=h2.chn _
 have w4:((c.out1 t).inIt t).Wf:= {h3 with w4:=h3.w4.up _ _}
 have hk:=CS.count_like r1 (oneT t)
 have hT:=qI (h1.inIt t) r1 w4.w3
 rw[hc]at hk hT
 have hit:(c.putF t).it=upM c.it c.c4 t.id t:=by
  show upM (c.out1 t).it (c.out1 t).c4 t.id t=_
  rw[h2.it,h2.c4]
 have hfe:∀id,(lkM (c.putF t).fe id).isSome=(lkM c.fe id).isSome:=fun id=>(hk.fe id).trans (h2.fe id)
 have hfo:∀id,(lkM (c.putF t).fo id).isSome=(lkM c.fo id).isSome:=fun id=>(hk.fo id).trans (h2.fo id)
 have hinn:(c.putF t).inn=c.inn:=hk.inn.trans h2.inn
 have hab:(c.putF t).ab=c.ab:=hk.ab.trans h2.ab
 have hrd:∀u,Rdy c u→Rdy (c.putF t) u:=fun u ru=>⟨by rw[hfe];exact ru.fe,by
  obtain⟨l,a1,a2,a3,a4⟩:=ru.ch
  exact⟨l,by rw[hab,hinn];exact a1,a2,a3,fun x hx=>by rw[hfo];exact a4 x hx⟩,ru.tg⟩
 refine⟨⟨w4.count _ _ _,?_,fun k u hu=>?_,?_⟩,h.len,hit,hinn,hab,hfe,hfo⟩
 ·rw[hit];exact hT.perm (sw _ _ _ _).symm
 ·rw[hit,aj]at hu
  split at hu
  ·rename_i hk;cases hu;exact⟨hrd _ r,hk.symm,ht⟩
  ·obtain⟨a1,a2⟩:=h.rdy k u hu;exact⟨hrd _ a1,a2⟩
 ·rw[hit,fH]
  have:=h.len
  split
  ·exact this
  ·rename_i hn;rcases hl with hl|hl
   ·omega
   ·exact(hn hl).elim
variable (G:Nat→Option (List AVal))
theorem jh(c:CS)(h:c.Own)(t:It)(r:Rdy c t)(ht:t.tags.length≤8){H:Heap}{m:Nat}(hm:m+7≤H.length):
  Sat (CT G) 18 [.hp (m+6) 0 0 0,t.av] (co H m c) (fun r h'=>r=.tup []∧h'=co H m (c.putF t)):=by
 obtain⟨h1,h2,h3⟩:=h.out1 t
 have hlen:((dlM c.it t.id).map (·.2.1)).length≤100000:=by
  rw[List.length_map]
  have:=(dg c.it t.id).length_le
  have:=h.len
  omega
 have hb2:=((h1.inIt t).toBd hlen)
 have hb1:=h.tal.toBd (by rw[List.length_map];have:=h.len;omega)
 have hc2:chO ((c.out1 t).inIt t).ab 7 ((lkM ((c.out1 t).inIt t).inn t.feed).getD 0)=some (c.chn t.feed):=by
  show chO (c.out1 t).ab 7 ((lkM (c.out1 t).inn t.feed).getD 0)=_
  rw[h2.ab,h2.inn];exact r.ch7.1
 have hcl:(c.chn t.feed).length≤50:=by have:=r.ch7.2;omega
 have hP:∀(H:Heap),m+7≤H.length→Sat (CT G) 40 [.hp (m+6) 0 0 0,t.av,.bool false] (co H m ((c.out1 t).inIt t)) (fun r h'=>r=.tup []∧h'=co H m (c.putF t)):=
  fun H hm=>dR G ((c.out1 t).inIt t) t false (c.chn t.feed) 7 hc2 hcl (by omega) h3.w3 hb2 hm
 have hO:∀o,lkM c.it t.id=some o→∀(H:Heap),m+7≤H.length→Sat (CT G) 40 [.hp (m+6) 0 0 0,o.av,.bool true] (co H m c) (fun r h'=>r=.tup []∧h'=co H m (c.out1 t)):=fun o ho H hm=>by
  obtain⟨ro,_,hot⟩:=h.rdy _ _ ho
  have:=dR G c o true (c.chn o.feed) 7 ro.ch7.1 (by have:=ro.ch7.2;omega) (by omega) h.wf.w3 hb1 hm
  have he:c.out1 t=c.count (c.chn o.feed) o (awT o true):=by unfold CS.out1;rw[ho];rfl
  rw[he];exact this
 cases hl:lkM c.it t.id with
 |none=>
  have he:c.out1 t=c:=by unfold CS.out1;rw[hl]
  rw[he]at hP
  have his:(lkM c.it t.id).isSome=false:=by rw[hl];rfl
  have F:=his
  refine sb [] (fn:=Tryz.f18) Tryz.func18 ?_
  intro Q hQ
  refine wk F ?_
  refine aI 12 [10,11] [true,true,true,true,true,true,true,true,true,true,false,false] (.one 10 [false,true,true,true,true,true,true] (.one 11 [] .fin)) (by decide+kernel) (by kernel_rfl) (by decide+kernel) ?_
  simp only[aU,aV,aH]
  try refine sq F ?_
  repeat' (first| (refine aA ?_;try refine sq F ?_)| (refine aB ?_;try refine sq F ?_)| (refine aC ?_ ?_<;>try refine sq F ?_))
  all_goals try refine wk F ?_
  all_goals (
   refine kq F (hP _ (by first|omega| (simp;omega))) ?_
   refine ee hQ F ?_
   exact aM hm (.tup _ (by simp)) ⟨rfl,rfl⟩)
 |some o=>
  have hO1:=hO o hl
  have his:(lkM c.it t.id).isSome=true:=by rw[hl];rfl
  have hgd:(lkM c.it t.id).getD It.z=o:=by rw[hl];rfl
  have F:=F2 his hgd
  refine sb [] (fn:=Tryz.f18) Tryz.func18 ?_
  intro Q hQ
  refine wk F ?_
  refine aI 12 [10,11] [true,true,true,true,true,true,true,true,true,true,false,false] (.one 10 [false,true,true,true,true,true,true] (.one 11 [] .fin)) (by decide+kernel) (by kernel_rfl) (by decide+kernel) ?_
  simp only[aU,aV,aH]
  try refine sq F ?_
  repeat' (first| (refine aA ?_;try refine sq F ?_)| (refine aB ?_;try refine sq F ?_)| (refine aC ?_ ?_<;>try refine sq F ?_))
  all_goals try refine wk F ?_
  all_goals (
   refine kq F (hO1 _ (by first|omega| (simp;omega))) ?_
   refine kq F (hP _ (by first|omega| (simp;omega))) ?_
   refine ee hQ F ?_
   exact aM hm (.tup _ (by simp)) ⟨rfl,rfl⟩)
end Go.Av
namespace Go.Av
open Go Go.Proofs Go.RowKit
attribute [local irreducible] WP WPl WPix Sat
variable (G:Nat→Option (List AVal))
def PS.upFo(s:PS)(k:Int)(f:Fo):PS:= {s with fo:=upM s.fo s.c1 k f,c1:=ckM s.fo s.c1 k}
def PS.upFe(s:PS)(k:Int)(f:Fe):PS:= {s with fe:=upM s.fe s.c2 k f,c2:=ckM s.fe s.c2 k}
def PS.upIt(s:PS)(k:Int)(f:It):PS:= {s with it:=upM s.it s.c3 k f,c3:=ckM s.it s.c3 k}
def PS.upSe(s:PS)(k:Int)(f:Se):PS:= {s with se:=upM s.se s.c4 k f,c4:=ckM s.se s.c4 k}
def PS.upNm(s:PS)(k:Int×Bs)(f:Int):PS:= {s with nm:=upM s.nm s.c5 k f,c5:=ckM s.nm s.c5 k}
def PS.upPl(s:PS)(k:Bs)(f:Int):PS:= {s with pl:=upM s.pl s.c6 k f,c6:=ckM s.pl s.c6 k}
def PS.upGu(s:PS)(k:Int×Bs)(f:Int):PS:= {s with gu:=upM s.gu s.c7 k f,c7:=ckM s.gu s.c7 k}
def PS.few(s:PS):Prop:=∀id, -100000≤(lkM s.he id).getD 0∧(lkM s.he id).getD 0≤100000
theorem PS.few1{s:PS}(h:s.few)(id:Int): -1000000≤(lkM s.he id).getD 0∧(lkM s.he id).getD 0≤1000000:=by have:=h id;omega
def PS.make(s:PS)(e:Ev):PS:=
 if e.kind=1 then(((s.upFo e.a ⟨e.a,e.b,e.s⟩).upNm (e.b,e.s) e.a).hold e.b 1).raise 0 e.a
 else if e.kind=3 then(((s.upFe e.a ⟨e.a,e.b,e.s,e.t⟩).upPl e.s e.a).hold e.b 1).raise 1 e.a
 else if e.kind=7 then((s.upIt e.a ⟨e.a,e.b,e.n,e.s,e.t,e.u,false,false,[]⟩).upGu (e.b,e.s) e.a).raise 2 e.a
 else if e.kind=11 then(s.upSe e.a ⟨e.a,e.s,e.t⟩).raise 3 e.a
 else s
theorem nK(s:PS)(e:Ev)(hf:s.few){H:Heap}{n:Nat}(hn:n+9≤H.length):Sat (CT G) 31 [.hp (n+8) 0 0 0,e.av] (so H n s) (fun r h'=>r=.tup []∧h'=so H n (s.make e)):=by
 refine sb [] (fn:=Tryz.f31) Tryz.func31 ?_
 intro Q hQ
 refine wk trivial ?_
 by_cases k1:e.kind=1
 ·have F:=k1
  try refine sq F ?_
  refine wk F ?_
  refine kq F (bW G _ e.b 1 (PS.few1 (s:=((s.upFo e.a ⟨e.a,e.b,e.s⟩).upNm (e.b,e.s) e.a)) hf e.b) (by omega) (by first|omega| (simp;omega))) ?_
  refine kq F (cL G _ 0 e.a (by omega) (by first|omega| (simp;omega))) ?_
  refine ee hQ F ?_
  exact ai hn (.tup _ (by simp)) ⟨rfl,by rw[PS.make,if_pos k1]⟩
 by_cases k3:e.kind=3
 ·have F:=k3
  try refine sq F ?_
  refine wk F ?_
  refine kq F (bW G _ e.b 1 (PS.few1 (s:=((s.upFe e.a ⟨e.a,e.b,e.s,e.t⟩).upPl e.s e.a)) hf e.b) (by omega) (by first|omega| (simp;omega))) ?_
  refine kq F (cL G _ 1 e.a (by omega) (by first|omega| (simp;omega))) ?_
  refine ee hQ F ?_
  exact ai hn (.tup _ (by simp)) ⟨rfl,by rw[PS.make,if_neg k1,if_pos k3]⟩
 by_cases k7:e.kind=7
 ·have F:=k7
  try refine sq F ?_
  refine wk F ?_
  refine kq F (cL G _ 2 e.a (by omega) (by first|omega| (simp;omega))) ?_
  refine ee hQ F ?_
  exact ai hn (.tup _ (by simp)) ⟨rfl,by rw[PS.make,if_neg k1,if_neg k3,if_pos k7];rfl⟩
 by_cases k11:e.kind=11
 ·have F:=k11
  try refine sq F ?_
  refine wk F ?_
  refine kq F (cL G _ 3 e.a (by omega) (by first|omega| (simp;omega))) ?_
  refine ee hQ F ?_
  exact ai hn (.tup _ (by simp)) ⟨rfl,by rw[PS.make,if_neg k1,if_neg k3,if_neg k7,if_pos k11];rfl⟩
 have n1:(e.kind==1)=false:=by simp[k1]
 have n3:(e.kind==3)=false:=by simp[k3]
 have n7:(e.kind==7)=false:=by simp[k7]
 have n11:(e.kind==11)=false:=by simp[k11]
 have F:=F4 n1 n3 n7 n11
 try refine sq F ?_
 refine wk F ?_
 refine ee hQ F ?_
 exact ai hn (.tup _ (by simp)) ⟨rfl,by rw[PS.make,if_neg k1,if_neg k3,if_neg k7,if_neg k11]⟩
end Go.Av
namespace Go.Av
open Go Go.Proofs Go.RowKit
attribute [local irreducible] WP WPl WPix Sat
section
variable {κ α:Type} [DecidableEq κ]
theorem i6{l:ML κ α}(hn:(l.map (·.1)).Nodup)(x:κ):dlM l x=l.filter fun e=> !decide (e.1=x):=by
 induction l with
 |nil=>rfl
 |cons e l ih=>
  rw[List.map_cons,List.nodup_cons]at hn
  rw[dlM]
  by_cases h:x=e.1
  ·subst h
   rw[if_pos rfl,List.filter_cons_of_neg (by simp),List.filter_eq_self.2]
   intro d hd
   have:d.1≠e.1:=fun q=>hn.1 (List.mem_map.2 ⟨d,hd,q⟩)
   simp[this]
  ·rw[if_neg h,List.filter_cons_of_pos (by simp;exact fun q=>h q.symm),ih hn.2]
omit [DecidableEq κ] in
theorem WFM.filter{l:ML κ α}{c:Nat}(w:WFM l c)(p:κ×α×Nat→Bool):WFM (l.filter p) c:=
 ⟨(List.filter_sublist.map _).nodup w.keys,(List.filter_sublist.map _).nodup w.borns,fun e he=>w.lt e (List.mem_filter.1 he).1⟩
omit [DecidableEq κ] in
theorem WFM.born_inj{l:ML κ α}{c:Nat}(w:WFM l c){d e:κ×α×Nat}(hd:d∈l)(he:e∈l)(h:d.2.2=e.2.2):d=e:=by
 have hb:=w.borns
 clear w
 induction l with
 |nil=>cases hd
 |cons a l ih=>
  rw[List.map_cons,List.nodup_cons]at hb
  rcases List.mem_cons.1 hd with rfl|hd2
  ·rcases List.mem_cons.1 he with rfl|he2
   ·rfl
   ·exact(hb.1 (List.mem_map.2 ⟨e,he2,h.symm⟩)).elim
  ·rcases List.mem_cons.1 he with rfl|he2
   ·exact(hb.1 (List.mem_map.2 ⟨d,hd2,h⟩)).elim
   ·exact ih hd2 he2 hb.2
omit [DecidableEq κ] in
theorem WFM.key_inj{l:ML κ α}{c:Nat}(w:WFM l c){d e:κ×α×Nat}(hd:d∈l)(he:e∈l)(h:d.1=e.1):d=e:=by
 have hb:=w.keys
 clear w
 induction l with
 |nil=>cases hd
 |cons a l ih=>
  rw[List.map_cons,List.nodup_cons]at hb
  rcases List.mem_cons.1 hd with rfl|hd2
  ·rcases List.mem_cons.1 he with rfl|he2
   ·rfl
   ·exact(hb.1 (List.mem_map.2 ⟨e,he2,h.symm⟩)).elim
  ·rcases List.mem_cons.1 he with rfl|he2
   ·exact(hb.1 (List.mem_map.2 ⟨d,hd2,h⟩)).elim
   ·exact ih hd2 he2 hb.2
end
def itS(l:ML Int It)(fid:Int)(seen:List Nat):ML Int It:=l.filter fun e=> !(decide (e.2.1.feed=fid)&&decide (e.2.2∈seen))
def guS(l:ML Int It)(g:ML (Int×Bs) Int)(fid:Int)(seen:List Nat):ML (Int×Bs) Int:=g.filter fun e=> !(l.any fun d=>decide (d.2.1.feed=fid)&&decide (d.2.2∈seen)&&decide (e.1=(d.2.1.feed,d.2.1.guid)))
theorem i7{l:ML Int It}{c:Nat}(w:WFM l c){fid:Int}{seen:List Nat}{e:Int×It×Nat}(he:e∈l)(hf:e.2.1.feed=fid):dlM (itS l fid seen) e.1=itS l fid (seen++[e.2.2]):=by
 unfold itS
 rw[i6 (w.filter _).keys]
 rw[List.filter_filter]
 refine List.filter_congr fun d hd=>?_
 by_cases h:d=e
 ·subst h;simp[hf]
 ·have h1:d.1≠e.1:=fun q=>h (w.key_inj hd he q)
  have h2:d.2.2≠e.2.2:=fun q=>h (w.born_inj hd he q)
  simp[h1,h2]
theorem tX{l:ML Int It}{c c':Nat}{g:ML (Int×Bs) Int}(w:WFM l c)(wg:WFM g c'){fid:Int}{seen:List Nat}{e:Int×It×Nat}(he:e∈l)(hf:e.2.1.feed=fid):dlM (guS l g fid seen) (e.2.1.feed,e.2.1.guid)=guS l g fid (seen++[e.2.2]):=by
 unfold guS
 rw[i6 (wg.filter _).keys]
 rw[List.filter_filter]
 refine List.filter_congr fun d hd=>?_
 rw[Bool.eq_iff_iff]
 simp only[Bool.and_eq_true,Bool.not_eq_true',decide_eq_false_iff_not,List.any_eq_false,Bool.and_eq_true,decide_eq_true_eq,not_and,List.mem_append,List.mem_singleton]
 constructor
 ·rintro⟨h1,h2⟩ x hx ⟨h3,h4⟩ h5
  rcases h4 with h4|h4
  ·exact h2 x hx ⟨h3,h4⟩ h5
  ·rw[w.born_inj hx he h4]at h5;exact h1 h5
 ·intro h
  exact⟨fun h1=>h e he ⟨hf,.inr rfl⟩ h1,fun x hx h3 h5=>h x hx ⟨h3.1,.inl h3.2⟩ h5⟩
theorem eF{l:ML Int It}{c:Nat}(w:WFM l c){fid:Int}{seen:List Nat}{e:Int×It×Nat}(he:e∈l)(hf:e.2.1.feed≠fid):itS l fid (seen++[e.2.2])=itS l fid seen:=by
 unfold itS
 refine List.filter_congr fun d hd=>?_
 by_cases h:d=e
 ·subst h;simp[hf]
 ·have h2:d.2.2≠e.2.2:=fun q=>h (w.born_inj hd he q)
  simp[h2]
theorem qK{l:ML Int It}{c:Nat}{g:ML (Int×Bs) Int}(w:WFM l c){fid:Int}{seen:List Nat}{e:Int×It×Nat}(he:e∈l)(hf:e.2.1.feed≠fid):guS l g fid (seen++[e.2.2])=guS l g fid seen:=by
 unfold guS
 refine List.filter_congr fun d hd=>?_
 rw[Bool.eq_iff_iff]
 simp only[Bool.not_eq_true',List.any_eq_false,Bool.and_eq_true,decide_eq_true_eq,not_and,List.mem_append,List.mem_singleton]
 constructor
 ·intro h x hx h3 h5
  exact h x hx ⟨h3.1,.inl h3.2⟩ h5
 ·rintro h x hx ⟨h3,h4⟩ h5
  rcases h4 with h4|h4
  ·exact h x hx ⟨h3,h4⟩ h5
  ·rw[w.born_inj hx he h4]at h3;exact hf h3
theorem mz{l:ML Int It}{fid:Int}{seen:List Nat}(h:∀e∈itS l fid seen,e.2.2∈seen):∀e∈l,e.2.1.feed=fid→e.2.2∈seen:=by
 intro e he hf
 apply Classical.byContradiction
 intro hs
 exact hs (h e (List.mem_filter.2 ⟨he,by simp[hs]⟩))
theorem mA(l:ML Int It)(fid:Int):itS l fid []=l:=by unfold itS;simp
theorem sx(l:ML Int It)(g:ML (Int×Bs) Int)(fid:Int):guS l g fid []=g:=by unfold guS;simp
def itF(l:ML Int It)(fid:Int):ML Int It:=l.filter fun e=> !decide (e.2.1.feed=fid)
def guF(l:ML Int It)(g:ML (Int×Bs) Int)(fid:Int):ML (Int×Bs) Int:=g.filter fun e=> !(l.any fun d=>decide (d.2.1.feed=fid)&&decide (e.1=(d.2.1.feed,d.2.1.guid)))
theorem mB{l:ML Int It}{fid:Int}{seen:List Nat}(h:∀e∈l,e.2.1.feed=fid→e.2.2∈seen):itS l fid seen=itF l fid:=by
 unfold itS itF
 refine List.filter_congr fun d hd=>?_
 by_cases hf:d.2.1.feed=fid
 ·simp[hf,h d hd hf]
 ·simp[hf]
theorem sy{l:ML Int It}{g:ML (Int×Bs) Int}{fid:Int}{seen:List Nat}(h:∀e∈l,e.2.1.feed=fid→e.2.2∈seen):guS l g fid seen=guF l g fid:=by
 unfold guS guF
 refine List.filter_congr fun d hd=>?_
 rw[Bool.eq_iff_iff]
 simp only[Bool.not_eq_true',List.any_eq_false,Bool.and_eq_true,decide_eq_true_eq,not_and]
 constructor
 ·intro h1 x hx h3;exact h1 x hx ⟨h3,h x hx h3⟩
 ·intro h1 x hx h3;exact h1 x hx h3.1
variable (G:Nat→Option (List AVal))
def PS.dlFe(s:PS)(k:Int):PS:= {s with fe:=dlM s.fe k}
def PS.dlPl(s:PS)(k:Bs):PS:= {s with pl:=dlM s.pl k}
def PS.unfeed(s:PS)(f:Fe):PS:=((({s with it:=itF s.it f.id,gu:=guF s.it s.gu f.id}:PS).dlPl f.url).dlFe f.id).hold f.inn (-1)
theorem kp(s:PS)(f:Fe)(hw:WFM s.it s.c3)(hg:WFM s.gu s.c7)(hf:s.few){H:Heap}{n:Nat}(hn:n+9≤H.length):Sat (CT G) 29 [.hp (n+8) 0 0 0,f.av] (so H n s) (fun r h'=>r=.tup []∧h'=so H n (s.unfeed f)):=by
 refine sb [] (fn:=Tryz.f29) Tryz.func29 ?_
 intro Q hQ
 refine wk trivial ?_
 refine lm (fun nL tL hL=>∃(hh:Heap) (seen:List Nat),leftM (itS s.it f.id seen) seen=nL∧so hh n {s with it:=itS s.it f.id seen,gu:=guS s.it s.gu f.id seen}=hL∧tL 0=.hp (n+8) 0 0 0∧tL 3=.hp H.length 0 0 0∧tL 10=.hp (H.length+1) 0 0 0∧(FrN H.length H hh∧H.length+1<hh.length)∧getRow hh H.length 0=some (67,4,[.agg [.int .i64 f.id,.int .i64 f.inn,.str f.url,.str f.title]])∧hh[H.length+1]? =some (.mit (n+2) s.c3 seen s.c3)) ((fun(hh:Heap) (seen:List Nat)=>(leftM (itS s.it f.id seen) seen:Nat)) (H++[.row 67 4 0 [.agg [.int .i64 f.id,.int .i64 f.inn,.str f.url,.str f.title]],.mit (n+2) s.c3 [] s.c3]) ([])) ?_ ?_
 ·refine Wkn.refl ⟨H++[.row 67 4 0 [.agg [.int .i64 f.id,.int .i64 f.inn,.str f.url,.str f.title]],.mit (n+2) s.c3 [] s.c3],[],rfl,by rw[mA,sx],?_,?_,?_,⟨FrN.app _ (by omega) (FrN.refl _ _),by simp⟩,by rw[aG _ rfl];rfl,by simp⟩
  all_goals first|exact zq trivial|rfl|omega|trivial|skip
 rintro _ s2 h' ⟨hh,seen,rfl,rfl,e0,e3,e10,hfr,hgr,hi⟩ K2 hK2
 simp only[ak,ao,Nat.reduceEqDiff, ↓reduceIte]at e0 e3 e10
 have F:=F3 e0 e3 e10
 refine wk F ?_
 obtain⟨hfr,hfl⟩:=hfr
 have hn1:n+9≤hh.length:=by omega
 refine jR (q:=n+2) (c:=s.c3) (seen:=seen) (l:=itS s.it f.id seen) (by rw[oX hn1 (by omega)];exact hi) (nx hn1) (hw.filter _).lt (fun e he hs=>?_) (fun hall=>?_)
 ·have F:=F3 F hgr @aE
  try refine sq F ?_
  refine wk F ?_
  have hel:=(List.mem_filter.1 he).1
  refine jS (q:=n+2) (l:=itS s.it f.id seen) (by rw[oX (by simpa using hn1) (by omega),List.getElem?_set_self hfl]) (nx (by simpa using hn1)) (hw.filter _) he ?_
  try refine sq F ?_
  refine wk F ?_
  refine cq F (fun c1=>?_) (fun c1=>?_)<;>(try exact c1.elim)<;>(refine wk F ?_)
  ·have hlt:leftM (itS s.it f.id (seen++[e.2.2])) (seen++[e.2.2])<leftM (itS s.it f.id seen) seen:=by rw[← i7 hw hel c1];exact eC he hs (dg _ _)
   refine hK2 _ _ _ (Wkn.refl ⟨hh.set (H.length+1) (.mit (n+2) s.c3 (seen++[e.2.2]) s.c3)++[.row 70 9 0 [e.2.1.av]],seen++[e.2.2],rfl,by rw[← i7 hw hel c1, ← tX hw hg hel c1];rfl,?_,?_,?_,⟨FrN.app _ (by simp;omega) (FrN.set _ (by omega) hfr),by simp;omega⟩,by rw[bv _ (by simp;omega),db _ _ (by omega)];exact hgr,by rw[List.getElem?_append_left (by simp;omega),List.getElem?_set_self hfl]⟩) (by omega)
   all_goals first|exact zq F|rfl|omega|trivial|skip
  ·have hlt:leftM (itS s.it f.id (seen++[e.2.2])) (seen++[e.2.2])<leftM (itS s.it f.id seen) seen:=by rw[eF hw hel c1];exact eC he hs (List.Sublist.refl _)
   refine hK2 _ _ _ (Wkn.refl ⟨hh.set (H.length+1) (.mit (n+2) s.c3 (seen++[e.2.2]) s.c3)++[.row 70 9 0 [e.2.1.av]],seen++[e.2.2],rfl,by rw[eF hw hel c1,qK hw hel c1];rfl,?_,?_,?_,⟨FrN.app _ (by simp;omega) (FrN.set _ (by omega) hfr),by simp;omega⟩,by rw[bv _ (by simp;omega),db _ _ (by omega)];exact hgr,by rw[List.getElem?_append_left (by simp;omega),List.getElem?_set_self hfl]⟩) (by omega)
   all_goals first|exact zq F|rfl|omega|trivial|skip
 ·have hx:=mz hall
  rw[mB hx,sy hx]
  have F:=F2 F hgr
  try refine sq F ?_
  refine wk F ?_
  refine kq F (bW G _ f.inn (-1) (PS.few1 (s:=(({s with it:=itF s.it f.id,gu:=guF s.it s.gu f.id}:PS).dlPl f.url).dlFe f.id) hf f.inn) (by omega) hn1) ?_
  obtain⟨j,hj⟩:=hfr.behind (by omega)
  subst hj
  refine ee hQ F ?_
  exact ai hn (.tup _ (by simp)) ⟨rfl,rfl⟩
end Go.Av
namespace Go.Av
open Go Go.Proofs Go.RowKit
attribute [local irreducible] WP WPl WPix Sat
structure Unf (c:CS) (l:ML Int It) (d:CS):Prop where
 it:d.it=l
 c4:d.c4=c.c4
 inn:d.inn=c.inn
 ab:d.ab=c.ab
 fe:∀id,(lkM d.fe id).isSome=(lkM c.fe id).isSome
 fo:∀id,(lkM d.fo id).isSome=(lkM c.fo id).isSome
 wf:d.Wf
 tal:Tal d (d.it.map (·.2.1))
theorem Unf.rdy{c:CS}{l:ML Int It}{d:CS}(h:Unf c l d){t:It}(r:Rdy c t):Rdy d t where
 fe:=by rw[h.fe];exact r.fe
 ch:=by
  obtain⟨l,h1,h2,h3,h4⟩:=r.ch
  exact⟨l,by rw[h.ab,h.inn];exact h1,h2,h3,fun x hx=>by rw[h.fo];exact h4 x hx⟩
 tg:=r.tg
def CS.drop(d:CS)(k:Int)(t:It):CS:= {d.count (d.chn t.feed) t (negT (oneT t))with it:=dlM d.it k}
theorem Unf.go{c:CS}{l:ML Int It}{d:CS}(h:Unf c l d){k:Int}{t:It}(r:Rdy c t)(hk:lkM l k=some t):Unf c (dlM l k) (d.drop k t):=by
 have r1:=h.rdy r
 have hl:=CS.count_like r1 (negT (oneT t))
 have hw:=h.wf.count (d.chn t.feed) t (negT (oneT t))
 have ht:Tal d (t::(dlM d.it k).map (·.2.1)):=h.tal.perm (my (by rw[h.it];exact hk))
 have h2:=jg ht r1 h.wf.w3
 exact⟨by show dlM d.it k=_;rw[h.it],h.c4,h.inn,h.ab,fun id=>(hl.fe id).trans (h.fe id),fun id=>(hl.fo id).trans (h.fo id),{hw with w4:=by have:=h.wf.w4.dl k;exact this},⟨h2.al,h2.st,h2.fe,h2.fo,h2.tg⟩⟩
theorem Unf.refl{c:CS}(h:c.Own):Unf c c.it c:=⟨rfl,rfl,rfl,rfl,fun _=>rfl,fun _=>rfl,h.wf,h.tal⟩
variable (G:Nat→Option (List AVal))
def CS.less(d:CS)(feed:Int):CS:= {d with fe:=dlM d.fe feed,inn:=dlM d.inn feed}
theorem kr(c:CS)(h:c.Own)(feed:Int){H:Heap}{m:Nat}(hm:m+7≤H.length):
  Sat (CT G) 32 [.hp (m+6) 0 0 0,.int .i64 feed] (co H m c) (fun r h'=>r=.tup []∧∃d,Unf c (itF c.it feed) d∧h'=co H m (d.less feed)):=by
 have hw:=h.wf.w4
 refine sb [] (fn:=Tryz.f32) Tryz.func32 ?_
 intro Q hQ
 refine wk trivial ?_
 refine lm (fun nL tL hL=>∃(hh:Heap) (seen:List Nat) (d:CS),leftM (itS c.it feed seen) seen=nL∧co hh m d=hL∧tL 0=.hp (m+6) 0 0 0∧tL 1=.int .i64 feed∧tL 10=.hp H.length 0 0 0∧Unf c (itS c.it feed seen) d∧(FrN H.length H hh∧H.length<hh.length)∧hh[H.length]? =some (.mit (m+3) c.c4 seen c.c4)) ((fun(hh:Heap) (seen:List Nat) (d:CS)=>(leftM (itS c.it feed seen) seen:Nat)) (H++[.mit (m+3) c.c4 [] c.c4]) ([]) (c)) ?_ ?_
 ·refine Wkn.refl ⟨H++[.mit (m+3) c.c4 [] c.c4],[],c,rfl,bp,?_,?_,?_,by rw[mA];exact .refl h,⟨FrN.app _ (by omega) (FrN.refl _ _),by simp⟩,by simp⟩
  all_goals first|exact zq trivial|rfl|omega|trivial|skip
 rintro _ s2 h' ⟨hh,seen,d,rfl,rfl,e0,e1,e10,hd,hfr,hi⟩ K2 hK2
 simp only[ak,ao,Nat.reduceEqDiff, ↓reduceIte]at e0 e1 e10
 have F:=F3 e0 e1 e10
 refine wk F ?_
 obtain⟨hfr,hfl⟩:=hfr
 have hm1:m+7≤hh.length:=by omega
 have hmp:∀{hh:Heap},m+7≤hh.length→mapAt (co hh m d) (m+3)=some (encM iA It.av (itS c.it feed seen),c.c4):=fun hm=>by rw[wj hm,hd.it,hd.c4]
 refine jR (q:=m+3) (c:=c.c4) (seen:=seen) (l:=itS c.it feed seen) (by rw[p7 hm1 (by omega)];exact hi) (hmp hm1) (hw.filter _).lt (fun e he hs=>?_) (fun hall=>?_)
 ·have F:=F2 F @aE
  try refine sq F ?_
  refine wk F ?_
  have hel:=(List.mem_filter.1 he).1
  have hek:lkM (itS c.it feed seen) e.1=some e.2.1:=bn (hw.filter _).keys (b:=e.2.2) he
  obtain⟨re,_,ret⟩:=h.rdy e.1 e.2.1 (bn hw.keys (b:=e.2.2) hel)
  refine jS (q:=m+3) (l:=itS c.it feed seen) (by rw[p7 (by simpa using hm1) (by omega),List.getElem?_set_self hfl]) (hmp (by simpa using hm1)) (hw.filter _) he ?_
  try refine sq F ?_
  refine wk F ?_
  refine cq F (fun c1=>?_) (fun c1=>?_)<;>(try exact c1.elim)<;>(refine wk F ?_)
  ·have hlt:leftM (itS c.it feed (seen++[e.2.2])) (seen++[e.2.2])<leftM (itS c.it feed seen) seen:=by rw[← i7 hw hel c1];exact eC he hs (dg _ _)
   have r1:=hd.rdy re
   have hlen:(d.it.map (·.2.1)).length≤100000:=by
    rw[List.length_map,hd.it]
    have h1:(itS c.it feed seen).length≤c.it.length:=List.length_filter_le _ _
    have:=h.len
    omega
   refine kq F (dR G d e.2.1 true (d.chn e.2.1.feed) 7 r1.ch7.1 (by have:=r1.ch7.2;omega) (by omega) hd.wf.w3 (hd.tal.toBd hlen) (by first|omega| (simp;omega))) ?_
   refine hK2 _ _ _ (Wkn.refl ⟨hh.set H.length (.mit (m+3) c.c4 (seen++[e.2.2]) c.c4)++[.row 70 9 0 [e.2.1.av]],seen++[e.2.2],d.drop e.1 e.2.1,rfl,by show co _ m (d.drop e.1 e.2.1)=_;rfl,?_,?_,?_,by rw[← i7 hw hel c1];exact hd.go re hek,⟨FrN.app _ (by simp;omega) (FrN.set _ (by omega) hfr),by simp;omega⟩,by rw[List.getElem?_append_left (by simp;omega),List.getElem?_set_self hfl]⟩) (by omega)
   all_goals first|exact zq F|rfl|omega|trivial|skip
  ·have hlt:leftM (itS c.it feed (seen++[e.2.2])) (seen++[e.2.2])<leftM (itS c.it feed seen) seen:=by rw[eF hw hel c1];exact eC he hs (List.Sublist.refl _)
   refine hK2 _ _ _ (Wkn.refl ⟨hh.set H.length (.mit (m+3) c.c4 (seen++[e.2.2]) c.c4)++[.row 70 9 0 [e.2.1.av]],seen++[e.2.2],d,rfl,bp,?_,?_,?_,by rw[eF hw hel c1];exact hd,⟨FrN.app _ (by simp;omega) (FrN.set _ (by omega) hfr),by simp;omega⟩,by rw[List.getElem?_append_left (by simp;omega),List.getElem?_set_self hfl]⟩) (by omega)
   all_goals first|exact zq F|rfl|omega|trivial|skip
 ·have hx:=mz hall
  rw[mB hx]at hd
  try refine sq F ?_
  refine wk F ?_
  obtain⟨j,hj⟩:=hfr.behind (by omega)
  subst hj
  refine ee hQ F ?_
  exact aM hm (.tup _ (by simp)) ⟨rfl,d,hd,rfl⟩
theorem qL{c:CS}{ch:List Int}{n:T2}(feed:Int)(hb:c.Bd 100000)(hn:bd 100000 n)(hl:ch.length≤7):(c.shift ch feed n).Bd 1000000 where
 al:=by
  show bd 1000000 (tadd c.al n)
  have:=hb.al;unfold bd tadd at *;simp only;omega
 st:=by
  show bd 1000000 c.st
  have:=hb.st;unfold bd at *;omega
 fe:=fun id=>by
  show bd 1000000 ((lkM (upM c.fe c.c2 feed (tadd ((lkM c.fe feed).getD (0,0)) n)) id).getD (0,0))
  rw[aj]
  split
  ·have:=hb.fe feed;unfold bd tadd at *;simp only[Option.getD_some];omega
  ·have:=hb.fe id;unfold bd at *;omega
 fo:=fun id=>by
  have:=pc hn ch (k:=c.c1) hb.fo id
  show bd 1000000 ((lkM (foF n ch c.fo c.c1).1 id).getD (0,0))
  unfold bd at *;omega
 tg:=fun g=>by
  show bd 1000000 ((lkM c.tg g).getD (0,0))
  have:=hb.tg g;unfold bd at *;omega
def CS.setIn(c:CS)(feed to1:Int):CS:= {c with inn:=upM c.inn c.c5 feed to1,c5:=ckM c.inn c.c5 feed}
def CS.moveF(c:CS)(feed to1:Int):CS:=
 ((c.shift (c.chn feed) feed (negT ((lkM c.fe feed).getD (0,0)))).setIn feed to1).shift ((chO c.ab 7 to1).getD []) feed ((lkM c.fe feed).getD (0,0))
theorem nM(c:CS)(h:c.Own)(feed to1:Int){bK ca:List Int}(h1:chO c.ab 7 ((lkM c.inn feed).getD 0)=some bK)(l1:bK.length≤7)(h2:chO c.ab 7 to1=some ca)(l2:ca.length≤7){H:Heap}{m:Nat}(hm:m+7≤H.length):
  Sat (CT G) 33 [.hp (m+6) 0 0 0,.int .i64 feed,.int .i64 to1] (co H m c) (fun r h'=>r=.tup []∧h'=co H m (c.moveF feed to1)):=by
 have hb:=h.tal.toBd (by rw[List.length_map];have:=h.len;omega)
 have hb1:c.Bd 1000000:=⟨by have:=hb.al;unfold bd at *;omega,by have:=hb.st;unfold bd at *;omega,fun id=>by have:=hb.fe id;unfold bd at *;omega,fun id=>by have:=hb.fo id;unfold bd at *;omega,fun id=>by have:=hb.tg id;unfold bd at *;omega⟩
 have he1:c.chn feed=bK:=by unfold CS.chn;rw[h1];rfl
 have he2:(chO c.ab 7 to1).getD []=ca:=by rw[h2];rfl
 have hn:=hb.fe feed
 have hnn:bd 100000 (negT ((lkM c.fe feed).getD (0,0))):=by unfold bd negT at *;simp only;omega
 have hb2:=qL feed hb hnn l1
 have hb3:((c.shift bK feed (negT ((lkM c.fe feed).getD (0,0)))).setIn feed to1).Bd 1000000:=⟨hb2.al,hb2.st,hb2.fe,hb2.fo,hb2.tg⟩
 have hto:(lkM ((c.shift bK feed (negT ((lkM c.fe feed).getD (0,0)))).setIn feed to1).inn feed).getD 0=to1:=by
  show(lkM (upM c.inn c.c5 feed to1) feed).getD 0=to1
  rw[aj,if_pos rfl];rfl
 have hS2:=fun(H:Heap) (hm:m+7≤H.length)=>dQ G ((c.shift bK feed (negT ((lkM c.fe feed).getD (0,0)))).setIn feed to1) feed ca 7 ((lkM c.fe feed).getD (0,0)) (by rw[hto];exact h2) (by omega) hb3 (by unfold bd at *;omega) (H:=H) hm
 have hS1:=fun(H:Heap) (hm:m+7≤H.length)=>dQ G c feed bK 7 (negT ((lkM c.fe feed).getD (0,0))) h1 (by omega) hb1 (by unfold bd at *;omega) (H:=H) hm
 unfold CS.moveF
 rw[he1,he2]
 generalize hg:(lkM c.fe feed).getD (0,0)=n at*
 have F:=hg
 refine sb [] (fn:=Tryz.f33) Tryz.func33 ?_
 intro Q hQ
 refine wk F ?_
 refine kq F (ft G n.1 n.2 (by unfold bd at *;omega) _) ?_
 refine kq F (hS1 _ (by first|omega| (simp;omega))) ?_
 refine kq F (hS2 _ (by first|omega| (simp;omega))) ?_
 refine ee hQ F ?_
 exact aM hm (.tup _ (by simp)) ⟨rfl,rfl⟩
end Go.Av
namespace Go.Av
open Go Go.Proofs Go.RowKit
theorem iS(G:Nat→Option (List AVal)):(CT G).P.follows .mixedOrders=true:=by kernel_rfl
theorem cH{C:Ctx}{t:Env}{h:Heap}{id:Nat}{l:List Oper}{Q:Exit→Env→Heap→Prop}(hok:preOkG false l.toArray l.length=true)(hm:C.P.follows .mixedOrders=true)
  (hh:WPp C l.toArray l t h fun t'=>Q .normal t' h):WP C (.region id l.toArray true) Q t h:=by
 have D:=dP hok
 obtain⟨V,hv,hK⟩:=bP _ _ hh
 have htk:l.toArray.toList.take l.length=l:=by simp
 have main:∀n,WPix C l.toArray Q (Region.linearise .any l.toArray n) t h:=fun n=>by
  unfold Region.linearise
  refine da D .any D.less (by simp) (V:=V) (t0:=t) (fun _=>True) (fun i o hi _=>by rw[htk]at hi ⊢;exact hv i o hi) (fun n=>?_) _ _ _ _ (by simp) ?_ (fun j oj hj hl=>?_) (fun j hj hl=>?_) (fun _ _ _=>trivial) (Ag.start _ _ _ _ fun j hj=>?_)
  ·rw[htk]
   have e1:l.toArray.size-l.length=0:=by simp
   rw[e1]
   exact Rest.nil hK .any n
  ·unfold left
   have:(List.range l.toArray.size).filter (fun i=> !(Array.replicate l.toArray.size false).getD i true)=List.range l.toArray.size:=by
    rw[List.filter_eq_self]
    intro i hi
    have:=List.mem_range.1 hi
    simp at this ⊢
    simp[this]
   rw[this,List.length_range]
  ·have h8:=(Array.getElem?_eq_some_iff.1 hj).1
   simp at h8 hl
   simp[h8]at hl
  ·simp at hj hl
   simp[hj]at hl
  ·have:j<l.length:=by omega
   simp[this]
 show ∀tp,WPix C l.toArray Q (Region.schedule (C.P.follows .mixedOrders) l.toArray tp) t h
 intro tp
 unfold Region.schedule
 rw[hm]
 simp only[Bool.true_or,if_true]
 exact main _
end Go.Av
namespace Go.Av
open Go Go.Proofs Go.RowKit
attribute [local irreducible] WP WPl WPix Sat
variable (G:Nat→Option (List AVal))
def StepR(c:CS)(e:Ev)(t:It)(b:Bool)(d:CS):Prop:=
 if e.kind=1 then d= {c with fo:=upM c.fo c.c1 e.a (0,0),c1:=ckM c.fo c.c1 e.a,ab:=upM c.ab c.c6 e.a e.b,c6:=ckM c.ab c.c6 e.a}
 else if e.kind=2 then d= {c with fo:=dlM c.fo e.a,ab:=dlM c.ab e.a}
 else if e.kind=3 then d= {c with fe:=upM c.fe c.c2 e.a (0,0),c2:=ckM c.fe c.c2 e.a,inn:=upM c.inn c.c5 e.a e.b,c5:=ckM c.inn c.c5 e.a}
 else if e.kind=4 then ∃d',Unf c (itF c.it e.a) d'∧d=d'.less e.a
 else if e.kind=6 then d=c.moveF e.a e.b
 else if e.kind=7∨e.kind=8∨e.kind=9∨e.kind=10 then d=if b then c.putF t else c
 else d=c
theorem nN(c:CS)(h:c.Own)(e:Ev)(q:Nat)(t:It)(b:Bool){H:Heap}{m:Nat}(hm:m+7≤H.length)
  (hI:(e.kind=7∨e.kind=8∨e.kind=9∨e.kind=10)→∀j,Sat (CT G) 34 [.hp q 0 0 0,.int .i64 e.a] (co (H++j) m c) (fun r h'=>r=.tup [t.av,.bool b]∧h'=co (H++j) m c))
  (hr:(e.kind=7∨e.kind=8∨e.kind=9∨e.kind=10)→b=true→Rdy c t∧t.tags.length≤8)
  (hv:e.kind=6→(∃ch,chO c.ab 7 ((lkM c.inn e.a).getD 0)=some ch∧ch.length≤7)∧∃ch,chO c.ab 7 e.b=some ch∧ch.length≤7):
  Sat (CT G) 13 [.hp (m+6) 0 0 0,.hp q 0 0 0,e.av] (co H m c) (fun r h'=>r=.tup []∧∃d,StepR c e t b d∧h'=co H m d):=by
 refine sb [] (fn:=Tryz.f13) Tryz.func13 ?_
 intro Q hQ
 refine wk trivial ?_
 by_cases k1:e.kind=1
 ·have F:=k1
  try refine sq F ?_
  refine wk F ?_
  refine ee hQ F ?_
  exact aM hm (.tup _ (by simp)) ⟨rfl,_,by rw[StepR,if_pos k1],rfl⟩
 by_cases k2:e.kind=2
 ·have F:=k2
  try refine sq F ?_
  refine wk F ?_
  refine ee hQ F ?_
  exact aM hm (.tup _ (by simp)) ⟨rfl,_,by rw[StepR,if_neg k1,if_pos k2],rfl⟩
 by_cases k3:e.kind=3
 ·have F:=k3
  try refine sq F ?_
  refine wk F ?_
  refine ee hQ F ?_
  exact aM hm (.tup _ (by simp)) ⟨rfl,_,by rw[StepR,if_neg k1,if_neg k2,if_pos k3],rfl⟩
 by_cases k4:e.kind=4
 ·have F:=k4
  try refine sq F ?_
  refine wk F ?_
  refine(kr G c h e.a (by first|omega| (simp;omega))).mono ?_
  rintro r h' ⟨rfl,d,hd,rfl⟩
  try refine sq F ?_
  refine wk F ?_
  refine ee hQ F ?_
  exact aM hm (.tup _ (by simp)) ⟨rfl,_,by rw[StepR,if_neg k1,if_neg k2,if_neg k3,if_pos k4];exact⟨d,hd,rfl⟩,rfl⟩
 by_cases k6:e.kind=6
 ·obtain⟨⟨bK,a1,a2⟩,ca,a3,a4⟩:=hv k6
  have F:=k6
  try refine sq F ?_
  refine wk F ?_
  refine kq F (nM G c h e.a e.b a1 a2 a3 a4 (by first|omega| (simp;omega))) ?_
  refine ee hQ F ?_
  exact aM hm (.tup _ (by simp)) ⟨rfl,_,by rw[StepR,if_neg k1,if_neg k2,if_neg k3,if_neg k4,if_pos k6],rfl⟩
 have n1:(e.kind==1)=false:=by simp[k1]
 have n2:(e.kind==2)=false:=by simp[k2]
 have n3:(e.kind==3)=false:=by simp[k3]
 have n4:(e.kind==4)=false:=by simp[k4]
 have n6:(e.kind==6)=false:=by simp[k6]
 by_cases k7:e.kind=7∨e.kind=8∨e.kind=9∨e.kind=10
 ·have hI2:=hI k7
  have hr2:=hr k7
  have hfin:StepR c e t b (if b then c.putF t else c):=by rw[StepR,if_neg k1,if_neg k2,if_neg k3,if_neg k4,if_neg k6,if_pos k7]
  cases b with
  |false=>
   rcases k7 with k|k|k|k
   all_goals (
    have F:=k
    try refine sq F ?_
    refine wk F ?_
    refine kq F (hI2 _) ?_
    refine ee hQ F ?_
    exact aM hm (.tup _ (by simp)) ⟨rfl,_,hfin,rfl⟩)
  |true=>
   obtain⟨r1,r2⟩:=hr2 rfl
   rcases k7 with k|k|k|k
   all_goals (
    have F:=k
    try refine sq F ?_
    refine wk F ?_
    refine kq F (hI2 _) ?_
    refine kq F (jh G c h t r1 r2 (by first|omega| (simp;omega))) ?_
    refine ee hQ F ?_
    exact aM hm (.tup _ (by simp)) ⟨rfl,_,hfin,rfl⟩)
 ·have n7:(e.kind==7)=false:=by simp;omega
  have n8:(e.kind==8)=false:=by simp;omega
  have n9:(e.kind==9)=false:=by simp;omega
  have n10:(e.kind==10)=false:=by simp;omega
  have F:=F9 n1 n2 n3 n4 n6 n7 n8 n9 n10
  try refine sq F ?_
  refine wk F ?_
  refine ee hQ F ?_
  exact aM hm (.tup _ (by simp)) ⟨rfl,_,by rw[StepR,if_neg k1,if_neg k2,if_neg k3,if_neg k4,if_neg k6,if_neg k7],rfl⟩
def CS.of(c:CS)(kind id:Int)(g:Bs):T2:=
 if kind=1 then c.al else if kind=2 then(lkM c.fo id).getD (0,0)else if kind=3 then(lkM c.fe id).getD (0,0)else if kind=4 then(lkM c.tg g).getD (0,0)else if kind=5 then c.st else(0,0)
theorem qM(c:CS)(kind id:Int)(g:Bs){H:Heap}{m:Nat}(hm:m+7≤H.length):
  Sat (CT G) 14 [.hp (m+6) 0 0 0,.int .i64 kind,.int .i64 id,.str g] (co H m c) (fun r h'=>r=.tup [.int .i64 (c.of kind id g).1,.int .i64 (c.of kind id g).2]∧h'=co H m c):=by
 by_cases k1:kind=1
 ·have F:=k1
  skip
  refine sb [.tmp 8,.tmp 9] (fn:=Tryz.f14) Tryz.func14 ?_
  intro Q hQ
  refine wn F ?_
  refine cH (by decide+kernel) (iS G) ?_
  refine sq F ?_
  refine wn F ?_
  skip
  all_goals (
   refine ee hQ F ?_
   exact aM hm (.tup _ (fun x hx=>by simp at hx;rcases hx with rfl|rfl<;>exact .int _ _)) ⟨by simp[CS.of,k1],rfl⟩)
 by_cases k2:kind=2
 ·have F:=k2
  skip
  refine sb [.tmp 8,.tmp 9] (fn:=Tryz.f14) Tryz.func14 ?_
  intro Q hQ
  refine wn F ?_
  refine cH (by decide+kernel) (iS G) ?_
  refine sq F ?_
  refine wn F ?_
  skip
  all_goals (
   refine ee hQ F ?_
   exact aM hm (.tup _ (fun x hx=>by simp at hx;rcases hx with rfl|rfl<;>exact .int _ _)) ⟨by simp[CS.of,k2],rfl⟩)
 by_cases k3:kind=3
 ·have F:=k3
  skip
  refine sb [.tmp 8,.tmp 9] (fn:=Tryz.f14) Tryz.func14 ?_
  intro Q hQ
  refine wn F ?_
  refine cH (by decide+kernel) (iS G) ?_
  refine sq F ?_
  refine wn F ?_
  skip
  all_goals (
   refine ee hQ F ?_
   exact aM hm (.tup _ (fun x hx=>by simp at hx;rcases hx with rfl|rfl<;>exact .int _ _)) ⟨by simp[CS.of,k3],rfl⟩)
 by_cases k4:kind=4
 ·have F:=k4
  skip
  refine sb [.tmp 8,.tmp 9] (fn:=Tryz.f14) Tryz.func14 ?_
  intro Q hQ
  refine wn F ?_
  refine cH (by decide+kernel) (iS G) ?_
  refine sq F ?_
  refine wn F ?_
  skip
  all_goals (
   refine ee hQ F ?_
   exact aM hm (.tup _ (fun x hx=>by simp at hx;rcases hx with rfl|rfl<;>exact .int _ _)) ⟨by simp[CS.of,k4],rfl⟩)
 by_cases k5:kind=5
 ·have F:=k5
  skip
  refine sb [.tmp 8,.tmp 9] (fn:=Tryz.f14) Tryz.func14 ?_
  intro Q hQ
  refine wn F ?_
  refine cH (by decide+kernel) (iS G) ?_
  refine sq F ?_
  refine wn F ?_
  skip
  all_goals (
   refine ee hQ F ?_
   exact aM hm (.tup _ (fun x hx=>by simp at hx;rcases hx with rfl|rfl<;>exact .int _ _)) ⟨by simp[CS.of,k5],rfl⟩)
 have n1:(kind==1)=false:=by simp[k1]
 have n2:(kind==2)=false:=by simp[k2]
 have n3:(kind==3)=false:=by simp[k3]
 have n4:(kind==4)=false:=by simp[k4]
 have n5:(kind==5)=false:=by simp[k5]
 have F:=F5 n1 n2 n3 n4 n5
 skip
 refine sb [.tmp 8,.tmp 9] (fn:=Tryz.f14) Tryz.func14 ?_
 intro Q hQ
 refine wn F ?_
 refine cH (by decide+kernel) (iS G) ?_
 refine sq F ?_
 refine wn F ?_
 skip
 all_goals (
  refine ee hQ F ?_
  exact aM hm (.tup _ (fun x hx=>by simp at hx;rcases hx with rfl|rfl<;>exact .int _ _)) ⟨by simp[CS.of,k1,k2,k3,k4,k5],rfl⟩)
end Go.Av
namespace Go.Av
open Go Go.Proofs Go.RowKit
theorem fu:∀t:Bs,Op.bytesLess t t=false
 | []=>rfl
 |a::t=>by simp[Op.bytesLess,fu t]
theorem dE:∀{a b c:Bs},Op.bytesLess a b=true→Op.bytesLess b c=true→Op.bytesLess a c=true
 |_,_,[],_,h=>by cases h2:(‹Bs› :Bs)<;>simp[Op.bytesLess]at h
 | [],_,_::_,_,_=>rfl
 |_::_,[],_::_,h,_=>by simp[Op.bytesLess]at h
 |x::a,y::b,z::c,h,k=>by
  simp only[Op.bytesLess,Bool.or_eq_true,decide_eq_true_eq,Bool.and_eq_true,beq_iff_eq]at h k ⊢
  rcases h with h| ⟨rfl,h⟩
  ·rcases k with k| ⟨rfl,k⟩
   ·exact .inl (UInt8.lt_trans h k)
   ·exact .inl h
  ·rcases k with k| ⟨rfl,k⟩
   ·exact .inl k
   ·exact .inr ⟨rfl,dE h k⟩
theorem ku:∀(a b:Bs),Op.bytesLess a b=false→Op.bytesLess b a=false→a=b
 | [],[],_,_=>rfl
 | [],_::_,h,_=>by simp[Op.bytesLess]at h
 |_::_,[],_,h=>by simp[Op.bytesLess]at h
 |x::a,y::b,h,k=>by
  simp only[Op.bytesLess,Bool.or_eq_false_iff,decide_eq_false_iff_not,Bool.and_eq_false_iff,beq_eq_false_iff_ne]at h k
  have hxy:x=y:=by
   have h1:=UInt8.not_lt.1 h.1
   have h2:=UInt8.not_lt.1 k.1
   exact UInt8.le_antisymm h2 h1
  subst hxy
  rw[ku a b (by rcases h.2 with h|h;exact absurd rfl h;exact h) (by rcases k.2 with h|h;exact absurd rfl h;exact h)]
def Srt(l:List Bs):Prop:=l.Pairwise fun a b=>Op.bytesLess a b=true
def lbF(l:List Bs)(t:Bs):Nat:=(l.takeWhile fun x=>Op.bytesLess x t).length
theorem kw(l:List Bs)(t:Bs):lbF l t≤l.length:=by
 unfold lbF
 have:=(List.takeWhile_sublist (l:=l) fun x=>Op.bytesLess x t).length_le
 exact this
theorem gD(a:Bs)(l:List Bs)(t:Bs):lbF (a::l) t=if Op.bytesLess a t=true then lbF l t+1 else 0:=by
 unfold lbF;rw[List.takeWhile_cons];split<;>simp
theorem pd{l:List Bs}{t:Bs}:∀j,j<lbF l t→∃x,l[j]? =some x∧Op.bytesLess x t=true:=by
 induction l with
 |nil=>intro j h;simp[lbF]at h
 |cons a l ih=>
  intro j h
  rw[gD]at h
  split at h
  ·rename_i ha
   cases j with
   |zero=>exact⟨a,rfl,ha⟩
   |succ j=>exact ih j (by omega)
  ·omega
theorem pf{l:List Bs}{t:Bs}(hs:Srt l):∀j x,lbF l t≤j→l[j]? =some x→Op.bytesLess x t=false:=by
 induction l with
 |nil=>intro j x _ h;simp at h
 |cons a l ih=>
  intro j x h hx
  rw[gD]at h
  have hp:=List.pairwise_cons.1 hs
  split at h
  ·rename_i ha
   cases j with
   |zero=>omega
   |succ j=>exact ih hp.2 j x (by omega) (by simpa using hx)
  ·rename_i ha
   cases j with
   |zero=>simp at hx;subst hx;simpa using ha
   |succ j=>
    have hm:=hp.1 x (List.mem_of_getElem? (by simpa using hx))
    cases hq:Op.bytesLess x t with
    |false=>rfl
    |true=>exact absurd (dE hm hq) ha
theorem mC{l:List Bs}{t:Bs}(hs:Srt l)(hm:t∈l):l[lbF l t]? =some t:=by
 obtain⟨j,hj⟩:=List.getElem?_of_mem hm
 rcases Nat.lt_trichotomy j (lbF l t)with h|h|h
 ·obtain⟨x,hx,hl⟩:=pd j h
  rw[hj]at hx;cases hx
  rw[fu]at hl;cases hl
 ·rw[← h];exact hj
 ·have hlt:lbF l t<l.length:=by have:=(List.getElem?_eq_some_iff.1 hj).1;omega
  have h1:l[lbF l t]? =some l[lbF l t]:=List.getElem?_eq_getElem hlt
  have h2:=pf hs _ _ (Nat.le_refl _) h1
  have h3:=(List.pairwise_iff_getElem.1 hs) (lbF l t) j hlt (List.getElem?_eq_some_iff.1 hj).1 h
  rw[(List.getElem?_eq_some_iff.1 hj).2,h2]at h3;cases h3
variable (G:Nat→Option (List AVal))
theorem qN(w:World)(n:Nat):Below w.heap.size w (w.drewN n):=by
 induction n with
 |zero=>exact Below.refl _ _
 |succ n ih=>exact ih.trans (Below.drew (Below.refl _ _))
theorem jA(l:List Bs)(t:Bs)(hs:Srt l)(hl:l.length≤100000)(h:Heap):Sat (CT G) 102 [.sl 1 (l.map .str),.str t] h (fun r h'=>r=.tup [.int .i64 (lbF l t),.bool (decide (t∈l))]∧h'=h):=by
 intro B S μ w us fit rl
 obtain⟨hul,hur⟩:=rl
 match us,hul,hur with
 | [v0,v1],_,hur=>
  have r0:Rep w S μ (.sl 1 (l.map .str)) v0:=hur 0 _ rfl
  have r1:Rep w S μ (.str t) v1:=hur 1 _ rfl
  obtain rfl:=r1.str_inv
  change OpOk Tryz.prog _ ((callFunc 102 #[v0,.string ⟨t.toArray⟩]).run Tryz.prog w)
  rw[bF (f:=102) Tryz.func102 rfl rfl]
  have fin:∀(w':World) (i:Nat) (b:Bool),Below w.heap.size w w'→i=lbF l t→b=decide (t∈l)→∃v,Value.tuple #[.int .i64 i,.bool b]=v∧OpPost (CT G) B S μ w (fun r h'=>r=.tup [.int .i64 (lbF l t),.bool (decide (t∈l))]∧h'=h) v w':=by
   rintro w' i b hb rfl rfl
   obtain⟨f',st⟩:=fit.grown hb
   exact⟨_,rfl,_,h,S,μ,⟨rfl,rfl⟩,st,f',gz (.int _ _) (.bool _)⟩
  by_cases hn:l=[]
  ·subst hn
   obtain⟨a,cap,rfl⟩:∃a cap,v0=.slice a 0 cap:=by
    cases r0 with
    |sl0 _ a cap=>exact⟨a,cap,rfl⟩
    |sl _ _ b o cap vs h1=>exact absurd rfl h1
   refine(Any2.slices_BinarySearch_string_empty Tryz.lays2_26 a cap ⟨t.toArray⟩ w).mono fun e w' ⟨he,hw⟩=>?_
   obtain⟨v,hv,hp⟩:=fin w' 0 false (by rw[hw];exact Below.refl _ _) rfl (by simp)
   exact⟨v,by rw[he, ← hv];rfl,hp⟩
  ·obtain⟨b,o,cap,rfl,hc⟩:∃b o cap,v0=.slice (some ⟨b,o,none⟩) l.length cap∧∀j,j<l.length→w.cell? ⟨b,o+j,none⟩=some (.string ⟨(l.getD j t).toArray⟩):=by
    generalize hm:l.map AVal.str=m at r0
    cases r0 with
    |sl0 _ a cap=>simp at hm;exact absurd hm hn
    |sl _ _ b o cap vs h1 h2 h3 h4 h5 h6=>
     subst hm
     refine⟨b,o,cap,by simp,fun j hj=>?_⟩
     have hx:(l.map AVal.str)[j]? =some (.str l[j]):=by rw[List.getElem?_map,List.getElem?_eq_getElem hj];rfl
     have h7:=h5 j _ 0 _ hx rfl
     have h8:=h6 j _ 0 _ hx rfl
     rw[h8.str_inv]at h7
     have:l.getD j t=l[j]:=by simp[List.getD,hj]
     rw[this]
     have e:o+(j*1+0)=o+j:=by omega
     rw[e]at h7
     exact h7.2.1
   refine(Any2.slices_BinarySearch_string Tryz.lays2_26 b o l.length cap (fun j=>⟨(l.getD j t).toArray⟩) ⟨t.toArray⟩ w (by omega) hc).mono fun e w' ⟨he,q,hw⟩=>?_
   have hk:Lib.bsGo (fun j=>Op.bytesLess (⟨(l.getD j t).toArray⟩:ByteArray).toList (⟨t.toArray⟩:ByteArray).toList) l.length 0 l.length=lbF l t:=by
    refine Lib.bsGo_spec _ (lbF l t) (fun j hj=>?_) (fun j hj=>?_) _ _ _ (by omega) (Nat.zero_le _) (kw l t)
    ·obtain⟨x,hx,hlt⟩:=pd j hj
     simp only[bN]
     rw[show l.getD j t=x by simp[List.getD,hx]];exact hlt
    ·simp only[bN]
     cases hx:l[j]? with
     |none=>rw[show l.getD j t=t by simp[List.getD,hx]];exact fu t
     |some x=>rw[show l.getD j t=x by simp[List.getD,hx]];exact pf hs j x hj hx
   rw[hk]at he
   obtain⟨v,hv,hp⟩:=fin w' (lbF l t) (decide (lbF l t<l.length∧(⟨(l.getD (lbF l t) t).toArray⟩:ByteArray)=⟨t.toArray⟩)) (by rw[hw];exact qN w q) rfl (by
    rw[Bool.eq_iff_iff,decide_eq_true_eq,decide_eq_true_eq]
    constructor
    ·rintro⟨h1,h2⟩
     have h3:l.getD (lbF l t) t=l[lbF l t]:=by simp[List.getD,h1]
     rw[h3]at h2
     have:l[lbF l t]=t:=by simpa using h2
     rw[← this];exact List.getElem_mem h1
    ·intro hm
     have:=mC hs hm
     exact⟨(List.getElem?_eq_some_iff.1 this).1,by simp[List.getD,this]⟩)
   exact⟨v,by rw[he, ← hv],hp⟩
end Go.Av
namespace Go.Proofs
open Go.Shelf
def Tryz.lays99_ren:Go.Shelf.Ren:=⟨fun|99=>99|206=>142|n=>n,fun|9=>9|4=>4|3=>3|n=>n,fun|n=>n⟩
theorem Tryz.lays99:Go.Proofs.Lays.n99 Tryz.prog Tryz.lays99_ren:= {
 mixed:=by kernel_rfl
 f99:=Tryz.func99.trans (congrArg some (by kernel_rfl))
 f206:=Tryz.func142.trans (congrArg some (by kernel_rfl))
 t3:=Tryz.underlying3
 a3:=Tryz.isAgg3
 z3:=Tryz.sizeOf3
 v3:=Tryz.zeroValue3
 t4:=Tryz.underlying4
 a4:=Tryz.isAgg4
 z4:=Tryz.sizeOf4
 v4:=Tryz.zeroValue4
 t9:=Tryz.underlying9
 a9:=Tryz.isAgg9
 z9:=Tryz.sizeOf9
 v9:=Tryz.zeroValue9}
open Go.RowKit Go.Lib in
theorem Tryz.strings_HasPrefix(s p:ByteArray)(w:World):
  Calls Tryz.prog 99 #[.string s,.string p] w fun e w'=>e=.returned (.bool (Lib.hasPrefix s.data.toList p.data.toList))∧w'=w:=Any.strings_HasPrefix Tryz.lays99 s p w
def Tryz.lays229_ren:Go.Shelf.Ren:=⟨fun|229=>174|n=>n,fun|9=>9|40=>218|31=>68|152=>226|3=>3|0=>0|4=>4|21=>21|154=>228|n=>n,fun|n=>n⟩
theorem Tryz.lays229:Go.Proofs.Lays.n229 Tryz.prog Tryz.lays229_ren:= {
 mixed:=by kernel_rfl
 f229:=Tryz.func174.trans (congrArg some (by kernel_rfl))
 t0:=Tryz.underlying0
 a0:=Tryz.isAgg0
 z0:=Tryz.sizeOf0
 v0:=Tryz.zeroValue0
 t3:=Tryz.underlying3
 a3:=Tryz.isAgg3
 z3:=Tryz.sizeOf3
 v3:=Tryz.zeroValue3
 t4:=Tryz.underlying4
 a4:=Tryz.isAgg4
 z4:=Tryz.sizeOf4
 v4:=Tryz.zeroValue4
 t9:=Tryz.underlying9
 a9:=Tryz.isAgg9
 z9:=Tryz.sizeOf9
 v9:=Tryz.zeroValue9
 t21:=Tryz.underlying21
 a21:=Tryz.isAgg21
 z21:=Tryz.sizeOf21
 v21:=Tryz.zeroValue21
 t31:=Tryz.underlying68
 a31:=Tryz.isAgg68
 z31:=Tryz.sizeOf68
 v31:=Tryz.zeroValue68
 t40:=Tryz.underlying218
 a40:=Tryz.isAgg218
 z40:=Tryz.sizeOf218
 v40:=Tryz.zeroValue218
 t152:=Tryz.underlying226
 a152:=Tryz.isAgg226
 z152:=Tryz.sizeOf226
 v152:=Tryz.zeroValue226
 t154:=Tryz.underlying228
 a154:=Tryz.isAgg228
 z154:=Tryz.sizeOf228
 v154:=Tryz.zeroValue228}
open Go.RowKit Go.Lib in
theorem Tryz.strings_FieldsFunc(g:Nat)(lb:Array Value)(eg:∀args w,(callFunc g args).run Tryz.prog w=.ok (.enter g args) w)(p:Nat→Bool)(s:ByteArray)(w:World)(hs:s.size≤4294967296)(hp:PredAt Tryz.prog g lb encR p w):
  Calls Tryz.prog 174 #[.string s,.func (.func g) #[] lb] w fun e w'=>∃A,e=.returned (.slice (some ⟨A,0,none⟩) (Lib.goFieldsP p s).length (Lib.goFieldsP p s).length)∧w.heap.size≤A∧
   w'.ownsRow w.heap.size 9 1 (.slice (some ⟨A,0,none⟩) (Lib.goFieldsP p s).length (Lib.goFieldsP p s).length) (Lib.goFieldsP p s).length ((Lib.goFieldsP p s).map Value.string)∧Below w.heap.size w w':=Any.strings_FieldsFunc Tryz.lays229 g lb eg p s w hs hp (by kernel_rfl) (by kernel_rfl)
def Tryz.laysNm224_ren:Go.Shelf.Ren:=⟨fun|24=>68|n=>n,fun|24=>68|9=>9|3=>3|4=>4|0=>0|n=>n,fun|n=>n⟩
theorem Tryz.laysNm224:Go.Proofs.Lays2.n24 Tryz.prog Tryz.laysNm224_ren:= {
 mixed:=by kernel_rfl
 f24:=Tryz.func68.trans (congrArg some (by kernel_rfl))
 t0:=Tryz.underlying0
 a0:=Tryz.isAgg0
 z0:=Tryz.sizeOf0
 v0:=Tryz.zeroValue0
 t3:=Tryz.underlying3
 a3:=Tryz.isAgg3
 z3:=Tryz.sizeOf3
 v3:=Tryz.zeroValue3
 t4:=Tryz.underlying4
 a4:=Tryz.isAgg4
 z4:=Tryz.sizeOf4
 v4:=Tryz.zeroValue4
 t9:=Tryz.underlying9
 a9:=Tryz.isAgg9
 z9:=Tryz.sizeOf9
 v9:=Tryz.zeroValue9
 t24:=Tryz.underlying68
 a24:=Tryz.isAgg68
 z24:=Tryz.sizeOf68
 v24:=Tryz.zeroValue68
 i9:=by kernel_rfl}
open Go.RowKit Go.Lib Go.Sort in
theorem Tryz.slices_Delete_string(blk off cap i j:Nat)(zs:List (List UInt8))(w:World)(hH:Holds encStr w blk off zs.toArray)(hcap:zs.length≤cap)(hm:cap≤9223372036854775807)(hij:i≤j)(hj:j≤zs.length):
  Calls Tryz.prog 68 #[.slice (some ⟨blk,off,none⟩) zs.length cap,.int .i64 i,.int .i64 j] w fun e w'=>e=.returned (.slice (some ⟨blk,off,none⟩) (zs.length-(j-i)) cap)∧∃q,w'=putRow encStr (Sort.ahead w q) blk off (zs.take i++zs.drop j++List.replicate (j-i) []).toArray:=Any.slices_Delete_string Tryz.laysNm224 blk off cap i j zs w hH hcap hm hij hj
end Go.Proofs
