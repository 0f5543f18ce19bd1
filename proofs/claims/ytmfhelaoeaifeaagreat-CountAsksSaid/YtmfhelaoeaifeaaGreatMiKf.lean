/- What counts tell is the document's answer of the state that is told (plain). -/
import Derived.Test.YtmfhelaoeaifeaaGreatMiNi
set_option linter.unusedSimpArgs false
set_option linter.unusedVariables false
set_option linter.unusedSectionVars false
set_option linter.unnecessarySimpa false
set_option maxRecDepth 100000
set_option maxHeartbeats 16000000
namespace Go.Av
open Go Go.Proofs Go.RowKit
attribute [local irreducible] WP WPl WPix Sat
set_option pp.deepTerms true
set_option pp.maxSteps 200000
variable (G:Nat→Option (List AVal))
end Go.Av
namespace Go.Av
open Go Go.Proofs Go.RowKit
attribute [local irreducible] WP WPl WPix Sat
variable (G:Nat→Option (List AVal))
def St.tellC(x:St):List Ct:=x.fil 1 0 []::(x.fo.map (fun f=>x.fil 2 f.id [])++x.fe.map (fun f=>x.fil 3 f.id [])++(tagsR x.it).map (fun g=>x.fil 4 0 g))++[x.fil 5 0 []]
theorem pX{x:St}(hx:x.Up):(tagsR x.it).length≤8192:=by
 have h1:=pT (x.it.flatMap (·.tags)) []
 have h2:∀l:List It,(∀t∈l,t.tags.length≤8)→(l.flatMap (·.tags)).length≤8*l.length:=by
  intro l
  induction l with
  |nil=>intro _;simp
  |cons t l ih=>
   intro h
   have a:=h t (by simp)
   have b:=ih fun u hu=>h u (by simp[hu])
   simp only[List.flatMap_cons,List.length_append,List.length_cons];omega
 have h3:=h2 x.it hx.tg
 have h4:=hx.l3
 unfold tagsR
 simp only[List.length_nil]at h1
 omega
end Go.Av
namespace Go.Av
open Go Go.Proofs Go.RowKit
variable {s:PS}
theorem ow{α:Type}{z:α}{l:ML Int α}{c:Nat}(w:WFM l c):(valsM z l).Perm (l.map (·.2.1)):=by
 have h1:(l.map (·.2.1))=(l.map (·.1)).map fun k=>(lkM l k).getD z:=by
  rw[List.map_map]
  exact List.map_congr_left fun e he=>by simp only[Function.comp];rw[bn w.keys (b:=e.2.2) he];rfl
 rw[h1]
 exact(List.mergeSort_perm _ _).map _
theorem l7{α:Type}{z:α}{l:ML Int α}{key:α→Int}(hid:∀k a,lkM l k=some a→key a=k)(id:Int):fnd key (valsM z l) id=lkM l id:=cT key hid id
theorem PS.Inv.fndFo(h:s.Inv)(id:Int):fnd (·.id) s.tell.fo id=lkM s.fo id:=l7 (fun k a hk=>(h.i1 k a hk).1) id
theorem PS.Inv.fndFe(h:s.Inv)(id:Int):fnd (·.id) s.tell.fe id=lkM s.fe id:=l7 (fun k a hk=>(h.i2 k a hk).1) id
theorem PS.Inv.hasT(h:s.Inv){id:Int}(hi:id=0∨(lkM s.fo id).isSome=true):s.tell.has id:=by
 rcases hi with hi|hi
 ·exact .inl hi
 ·obtain⟨f,hf⟩:=Option.isSome_iff_exists.1 hi
  exact .inr ⟨f,by rw[h.fndFo,hf]⟩
theorem PS.Inv.up(h:s.Inv):s.tell.Up where
 fo:=fun f hf=>by
  obtain⟨k,hk⟩:=br hf
  exact h.hasT (h.u1 k f hk)
 fe:=fun f hf=>by
  obtain⟨k,hk⟩:=br hf
  exact h.hasT (h.u2 k f hk)
 it:=fun t ht=>by
  obtain⟨k,hk⟩:=br ht
  obtain⟨f,hf⟩:=Option.isSome_iff_exists.1 (h.u3 k t hk)
  exact⟨f,by rw[h.fndFe,hf]⟩
 l1:=by have:=bx (z:=Fo.z) s.fo;have:=h.l1;show(valsM Fo.z s.fo).length≤_;omega
 l2:=by have:=bx (z:=Fe.z) s.fe;have:=h.l2;show(valsM Fe.z s.fe).length≤_;omega
 l3:=by have:=bx (z:=It.z) s.it;have:=h.l3;show(valsM It.z s.it).length≤_;omega
 tg:=fun t ht=>by
  obtain⟨k,hk⟩:=br ht
  exact(h.tg k t hk).2
theorem iw{t:It}(h:s.Inv)(ht:t∈s.its):∃k,lkM s.it k=some t:=by
 obtain⟨e,he,rfl⟩:=List.mem_map.1 ht
 exact⟨e.1,bn h.w3.keys (b:=e.2.2) he⟩
theorem gH(h:s.Inv):s.tell.it.Perm s.its:=ow h.w3
theorem ox{l l':List It}(h:l.Perm l'):tagsR l=tagsR l':=by
 refine kV (fC _) (fC _) fun x=>?_
 rw[cW,cW]
 constructor
 ·rintro⟨t,ht,hx⟩;exact⟨t,h.mem_iff.1 ht,hx⟩
 ·rintro⟨t,ht,hx⟩;exact⟨t,h.mem_iff.2 ht,hx⟩
end Go.Av
