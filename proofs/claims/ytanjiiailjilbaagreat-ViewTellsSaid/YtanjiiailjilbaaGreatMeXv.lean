/- The order of any fold, the rank of any item; a nil view, and a nil state: for every list of events, item, place and number the call returns true, and its arguments read as before. -/
import Derived.Test.YtanjiiailjilbaaGreatMeXt
import Derived.Test.YtanjiiailjilbaaGreatMeNv
set_option linter.unusedSimpArgs false
set_option linter.unusedVariables false
set_option linter.unusedSectionVars false
set_option linter.unnecessarySimpa false
set_option maxRecDepth 100000
set_option maxHeartbeats 4000000
namespace Go.Av
open Go Go.Proofs Go.RowKit
attribute [local irreducible] WP WPl WPix Sat
variable (G:Nat→Option (List AVal))
abbrev nilP:AVal:=.nil (.pointer none)
theorem oL(H:Heap):abin Tryz.prog H .eql 27 nilP nilP=some (.bool true):=by
 have hk:nilKind Tryz.prog 27 (.pointer none)=true:=by kernel_rfl
 simp[abin,hk,aeqNil]
theorem il(H:Heap):abin Tryz.prog H .eql 56 nilP nilP=some (.bool true):=by
 have hk:nilKind Tryz.prog 56 (.pointer none)=true:=by kernel_rfl
 simp[abin,hk,aeqNil]
theorem nZ(h:Heap):Sat (CT G) 24 [nilP] h (fun r h'=>r=.hp h.length 0 0 0∧h'=h++vb h.length 0 []):=by
 have hz:PS.z.tell.it=[]:=by simp[PS.tell,PS.z,valsM,sortI]
 have:=mr G PS.z.tell nilP h (fun j=>na G _) (by rw[hz];simp) (by rw[hz];simp)
 rw[hz]at this
 exact this
theorem nb(sp:AVal)(e:Ev)(h:Heap):Sat (CT G) 30 [nilP,sp,e.av] h (fun r h'=>r=.tup []∧h'=h):=by
 have F:= @il
 refine sb [] (fn:=Tryz.f30) Tryz.func30 ?_
 intro Q hQ
 refine wk F ?_
 refine ee hQ F ?_
 exact Fin.plain (.tup _ (fun x hx=>by simp at hx)) ⟨rfl,rfl⟩
theorem o0(h:Heap):Sat (CT G) 26 [nilP] h (fun r h'=>r=.nil (.slice none 0 0)∧h'=h):=by
 have F:= @il
 refine sb [.tmp 2] (fn:=Tryz.f26) Tryz.func26 ?_
 intro Q hQ
 refine wk F ?_
 refine ee hQ F ?_
 exact Fin.same (.nil _) ⟨rfl,rfl⟩
theorem jP(id:Int)(h:Heap):Sat (CT G) 63 [nilP,.int .i64 id] h (fun r h'=>r=.int .i64 (-1)∧h'=h):=by
 have F:= @il
 refine sb [.tmp 4] (fn:=Tryz.f63) Tryz.func63 ?_
 intro Q hQ
 refine wk F ?_
 refine ee hQ F ?_
 exact Fin.plain (.int _ _) ⟨rfl,rfl⟩
theorem nc(id:Int)(h:Heap):Sat (CT G) 28 [nilP,.int .i64 id] h (fun r h'=>r=.int .i64 0∧h'=h):=by
 refine sb [.tmp 4] (fn:=Tryz.f28) Tryz.func28 ?_
 intro Q hQ
 refine wk trivial ?_
 refine kq trivial (jP G id _) ?_
 refine ee hQ trivial ?_
 exact Fin.same (.int _ _) ⟨rfl,rfl⟩
theorem kB(sp:AVal)(id:Int)(h:Heap):Sat (CT G) 32 [nilP,sp,qN 1,.int .i64 id] h (fun r h'=>r=.tup [.int .i64 0,.int .i64 0]∧h'=h):=by
 have dt:∀i:Decidable True, @decide True i=true:=fun i=>by simp
 have F:=dt
 refine sb [.tmp 8,.tmp 9] (fn:=Tryz.f32) Tryz.func32 ?_
 intro Q hQ
 refine wk F ?_
 refine kq F (jP G id _) ?_
 refine ee hQ F ?_
 exact Fin.plain (.tup _ (fun x hx=>by simp only[List.mem_cons,List.not_mem_nil,or_false]at hx;rcases hx with rfl|rfl<;>exact .int _ _)) ⟨rfl,rfl⟩
theorem nf{p:Nat}(c:Cu)(nn:Int)(h:Heap)(hp:∀j,abin Tryz.prog (h++j) .eql 27 (.hp p 0 0 0) nilP=some (.bool false)):Sat (CT G) 31 [nilP,.hp p 0 0 0,qN 1,c.av,.int .i64 nn] h (fun r h'=>r=.tup [pgZ,.int .i64 6]∧h'=h):=by
 have F:=F3 @il hp @ax
 refine sb [.cell 10 68,.tmp 11] (fn:=Tryz.f31) Tryz.func31 ?_
 intro Q hQ
 refine wk F ?_
 refine ye hQ F ?_
 exact Fin.plain (ij _ _) ⟨rfl,rfl⟩
theorem lz(vp:AVal)(c:Cu)(nn:Int)(h:Heap):Sat (CT G) 31 [vp,nilP,qN 1,c.av,.int .i64 nn] h (fun r h'=>r=.tup [pgZ,.int .i64 6]∧h'=h):=by
 have F:=F2 @oL @ax
 refine sb [.cell 10 68,.tmp 11] (fn:=Tryz.f31) Tryz.func31 ?_
 intro Q hQ
 refine wk F ?_
 refine ye hQ F ?_
 exact Fin.plain (ij _ _) ⟨rfl,rfl⟩
abbrev itZ:AVal:=.agg [.int .i64 0,.int .i64 0,.int .i64 0,.str [],.str [],.str [],.bool false,.bool false,.nil (.slice none 0 0)]
theorem o1(id:Int)(h:Heap):Sat (CT G) 38 [nilP,.int .i64 id] h (fun r h'=>r=.tup [itZ,.bool false]∧h'=h):=by
 have F:=F2 @oL @ax
 refine sb [.cell 4 82,.tmp 5] (fn:=Tryz.f38) Tryz.func38 ?_
 intro Q hQ
 refine wk F ?_
 refine ye hQ F ?_
 exact Fin.plain (.tup _ fun x hx=>by
  simp only[List.mem_cons,List.not_mem_nil,or_false]at hx
  rcases hx with rfl|rfl
  ·exact .agg _ fun x hx=>by
    simp only[List.mem_cons,List.not_mem_nil,or_false]at hx
    rcases hx with rfl|rfl|rfl|rfl|rfl|rfl|rfl|rfl|rfl<;>first|exact .nil _|exact .int _ _|exact .str _|exact .bool _
  ·exact .bool _) ⟨rfl,rfl⟩
theorem o2(id:Int)(h:Heap):Sat (CT G) 39 [nilP,qL 1,.int .i64 id] h (fun r h'=>r=.bool false∧h'=h):=by
 skip
 refine sb [.tmp 6] (fn:=Tryz.f39) Tryz.func39 ?_
 intro Q hQ
 refine wn trivial ?_
 refine kn trivial (o1 G id _) ?_
 refine eG (by decide+kernel) (mB G) ?_
 refine sq trivial ?_
 refine wn trivial ?_
 skip
 refine ee hQ trivial ?_
 exact Fin.plain (.bool _) ⟨rfl,rfl⟩
end Go.Av
namespace Go.Av
open Go Go.Proofs Go.RowKit
attribute [local irreducible] WP WPl WPix Sat
variable (G:Nat→Option (List AVal))
theorem xP(l:List Ky)(id:Int):arF (fun _=>false) l id=(0,0):=by
 have e:∀L:List Ky,(L.filter fun _=>false)=[]:=fun L=>List.filter_eq_nil_iff.2 (by simp)
 unfold arF
 split
 ·unfold lastI headI;rw[e,e];rfl
 ·rfl
section
variable {Y:Heap} {n m v:Nat} {s:PS} {l:List Ky}
theorem o3(hl:l.length≤1048576)(item:Int)(hn:n+9≤m)(hm:m+2≤Y.length):Sat (CT G) 32 [.hp m 0 0 0,nilP,qN 1,.int .i64 item] (sv Y n s m v l)
  (fun r h'=>r=.tup [.int .i64 0,.int .i64 0]∧h'=sv Y n s m v l):=by
 have h0:=jL G (H:=so Y n s) (n:=m) (v:=v) (l:=l) hl (fun _=>false) nilP item 1 0 [] [] (by rw[aW (by omega)];exact hm)
  (fun j=>cR G _) (fun j id=>o2 G id _)
 rw[xP, ← cC hn hm]at h0
 refine Sat.wk (ys:=[.hp m 0 0 0,nilP,qA 1 0 [] [],.int .i64 item]) rfl (fun i x y hx hy=>?_) h0
 match i with
 |2=>simp at hx hy;subst hx;subst hy;exact jM 1
 |0=>simp at hx hy;subst hx;subst hy;exact Wk.refl _
 |1=>simp at hx hy;subst hx;subst hy;exact Wk.refl _
 |3=>simp at hx hy;subst hx;subst hy;exact Wk.refl _
 |i+4=>simp at hx
end
theorem sG(H j:Heap):Sat (CT G) 26 [.hp H.length 0 0 0] (H++vb H.length 0 []++j) (fun r h'=>r=.sl 1 []∧h'=H++vb H.length 0 []++j):=by
 have hl:H.length+2≤(H++vb H.length 0 []).length:=by simp[vb]
 have h0:=mn G (l:=[]) (v:=0) (n:=H.length) (H:=H++vb H.length 0 []++j) (by simp) (by rw[List.length_append];omega)
 rw[← dI hl,gO]at h0
 exact h0
theorem Aw(H j:Heap):abin Tryz.prog (H++vb H.length 0 []++j) .eql 56 (.hp H.length 0 0 0) nilP=some (.bool false):=by
 have hl:H.length+2≤(H++vb H.length 0 []).length:=by simp[vb]
 have h0:=qV (l:=[]) (v:=0) (n:=H.length) (H:=H++vb H.length 0 []++j) (by rw[List.length_append];omega)
 rw[← dI hl,gO]at h0
 exact h0
theorem lA(hc:GClo (CT G))(es:List Ev)(item:Int)(c:Cu)(nn:Int)(h:Heap):Sat (CT G) 6 [.sl 7 (es.map Ev.av),.int .i64 item,c.av,.int .i64 nn] h (fun r h'=>r=.bool true∧h'=h):=by
 have hLg:=jy G es
 cases hlg:lgF es with
 |true=>
  rw[hlg]at hLg
  refine sb [.tmp 8] (fn:=Tryz.f6) Tryz.func6 ?_
  intro Q hQ
  refine wk trivial ?_
  refine kq trivial (hLg _) ?_
  refine kq trivial (iF G _) ?_
  refine ee hQ trivial ?_
  exact Fin.plain (.bool _) ⟨rfl,rfl⟩
 |false=>
  rw[hlg]at hLg
  have hel:es.length≤150:=by
   unfold lgF at hlg
   rw[Bool.or_eq_false_iff]at hlg
   have:=hlg.1
   simp only[decide_eq_false_iff_not]at this
   omega
  have hI:(es.foldl (PS.step L0) PS.z).Inv:=PS.Inv.z.fold es
  have hfh:=l5 G es (by omega)
  have hRF:=sF G hc es (by omega)
  generalize es.foldl (PS.step L0) PS.z=s at hI hfh hRF
  obtain⟨h1,hh1⟩:∃h1,h1=h++[Blk.row 55 3 0 [.agg [.int .i64 c.d,.int .i64 c.i,.bool c.set]]]:=⟨_,rfl⟩
  have hl1:h1.length=h.length+1:=by rw[hh1];simp
  have g1:getRow h1 h.length 0=some (55,3,[.agg [.int .i64 c.d,.int .i64 c.i,.bool c.set]]):=by rw[hh1,aE _ rfl];rfl
  have hz9:(PS.z.bl h1.length).length=9:=rfl
  have hfh1:=hfh h1
  generalize hH:h1++PS.z.bl h1.length=H0 at hfh1
  have hl0:H0.length=h1.length+9:=by rw[← hH];simp[hz9]
  have hnw:=uO G hI (H:=H0) (n:=h1.length) (by omega)
  have kc:=VK.new hI
  generalize srtK (s.tell.it.map It.ky)=l at hnw kc
  generalize s.tell.it.length=v at hnw
  generalize hWw:H0++vb H0.length 0 []=W0 at hnw
  have hlW:W0.length=H0.length+2:=by rw[← hWw];simp[vb]
  have gW:getRow W0 h.length 0=some (55,3,[.agg [.int .i64 c.d,.int .i64 c.i,.bool c.set]]):=by rw[← hWw,aN _ (by omega), ← hH,aN _ (by omega)];exact g1
  have hpre:∃j,W0=h++j:=⟨[Blk.row 55 3 0 [.agg [.int .i64 c.d,.int .i64 c.i,.bool c.set]]]++(PS.z.bl h1.length++vb H0.length 0 []),by rw[← hWw, ← hH,hh1];simp⟩
  generalize H0.length=m at*
  have hn:h1.length+9≤m:=by omega
  have hm0:m+2≤W0.length:=by omega
  have hLl:=kc.len hI
  have htl:s.tell.it.length≤100000:=by have:=aG (z:=It.z) s.it;have:=hI.l3;show(valsM It.z s.it).length≤_;omega
  have hal:=fun(Y:Heap) (hm:m+2≤Y.length)=>uP G (Y:=Y) (n:=h1.length) (m:=m) (v:=v) (s:=s) (l:=l) (by omega) hn hm
  have hrk:=fun(Y:Heap) (hm:m+2≤Y.length)=>mX G (Y:=Y) (n:=h1.length) (m:=m) (v:=v) (s:=s) (l:=l) (by omega) item hn hm
  have hra:=ld G s.tell (jF hI) htl
  have hrr:=qm G s.tell (jF hI) htl item
  rw[kc.vw hI]at hra hrr
  have hsm:=gY G (l.map (·.i)) (l.map (·.i)) (by simp;omega) (by simp;omega)
  rw[decide_eq_true (rfl:l.map (·.i)=l.map (·.i))]at hsm
  generalize rkI (l.map (·.i)) item=rk at hrk hrr
  have rkn:(rk !=rk)=false:=by simp
  have F:=F2 g1 @rkn
  refine sb [.tmp 8] (fn:=Tryz.f6) Tryz.func6 ?_
  intro Q hQ
  refine wk F ?_
  refine kq F (hLg _) ?_
  rw[← hh1]
  refine kq F (hfh1) ?_
  refine kq F (hnw) ?_
  refine kq F (hRF _) ?_
  obtain⟨W1,hWe⟩:∃W1,W1=W0++[Blk.row 34 9 0 [s.tell.av]]:=⟨_,rfl⟩
  have hm1:m+2≤W1.length:=by rw[hWe];simp;omega
  have hlW1:W1.length=W0.length+1:=by rw[hWe];simp
  have hg1:getRow W1 W0.length 0=some (34,9,[s.tell.av]):=by rw[hWe,aE _ rfl];rfl
  have hgc:getRow W1 h.length 0=some (55,3,[.agg [.int .i64 c.d,.int .i64 c.i,.bool c.set]]):=by
   rw[hWe,aN _ (by omega)];exact gW
  have hpre1:∃j,W1=h++j:=by
   obtain⟨j,hj⟩:=hpre
   exact⟨j++[Blk.row 34 9 0 [s.tell.av]],by rw[hWe,hj,List.append_assoc]⟩
  rw[St.av_eq]at hWe hg1
  rw[← hWe]
  clear hWe
  refine kq F (nZ G _) ?_
  obtain⟨W2,hWf⟩:∃W2,W2=W1++vb W1.length 0 []:=⟨_,rfl⟩
  have hlW2:W2.length=W1.length+2:=by rw[hWf];simp[vb]
  have hm2:m+2≤W2.length:=by omega
  have hg2:getRow W2 W0.length 0=getRow W1 W0.length 0:=by rw[hWf,aN _ (by omega)]
  have hgc2:getRow W2 h.length 0=getRow W1 h.length 0:=by rw[hWf,aN _ (by omega)]
  rw[hg1]at hg2
  rw[hgc]at hgc2
  have ll:=mW (s:=s) (v:=v) (l:=l) hn hm1
  have e2:sv W2 h1.length s m v l=sv W1 h1.length s m v l++vb W1.length 0 []++[]:=by rw[List.append_nil,gZ hn hm1,hWf]
  have eqE:=Aw (sv W1 h1.length s m v l) []
  have alE:=sG G (sv W1 h1.length s m v l) []
  rw[ll, ← e2]at eqE alE
  have hpre2:∃j,W2=h++j:=by
   obtain⟨j,hj⟩:=hpre1
   exact⟨j++vb W1.length 0 [],by rw[hWf,hj,List.append_assoc]⟩
  rw[← hWf]
  clear hWf e2
  have F:=F4 F hg2 hgc2 @eqE
  refine aA (iF G _) ?_
  try refine sq F ?_
  refine wk F ?_
  refine aA (hal _ hm2) ?_
  try refine sq F ?_
  refine wk F ?_
  refine aA (hra _) ?_
  try refine sq F ?_
  refine wk F ?_
  refine aA (hsm _) ?_
  try refine sq F ?_
  refine wk F ?_
  refine aA (hrk _ hm2) ?_
  try refine sq F ?_
  refine wk F ?_
  refine aA (hrr _) ?_
  try refine sq F ?_
  refine wk F ?_
  refine aA (alE) ?_
  try refine sq F ?_
  refine wk F ?_
  have hmm:∀q:Heap,m+2≤(W2++q).length:=fun q=>by simp;omega
  have gcm:∀q:Heap,getRow (W2++q) h.length 0=some (55,3,[.agg [.int .i64 c.d,.int .i64 c.i,.bool c.set]]):=fun q=>by rw[aN _ (by omega)];exact hgc2
  have lowr:∀q:Heap,getRow (sv (W2++q) h1.length s m v l) h.length 0=some (55,3,[.agg [.int .i64 c.d,.int .i64 c.i,.bool c.set]]):=fun q=>by
   unfold sv so vo
   rw[hU 0 (by show h1.length+9≤_;rw[ba (by have:=hmm q;show m+2≤_;omega)];have:=hmm q;omega) (.inl (by omega)),hU 0 (by have:=hmm q;show m+2≤_;omega) (.inl (by omega))]
   exact gcm q
  have hpn:=fun q:Heap=>nf G (p:=h1.length+8) c nn (sv (W2++q) h1.length s m v l) (fun j=>by rw[gZ hn (hmm _),List.append_assoc];exact sj hn (hmm _))
  have hzn:=fun q:Heap=>o3 G (Y:=W2++q) (n:=h1.length) (m:=m) (v:=v) (s:=s) (l:=l) (by omega) item hn (hmm _)
  have F:=F2 F @lowr
  try refine sq F ?_
  refine wk F ?_
  refine kq F (nb G _ ⟨4,item,0,0,[],[],[]⟩ _) ?_
  refine kq F (hpn _) ?_
  refine kq F (lz G _ c nn _) ?_
  refine kq F (kB G _ item _) ?_
  refine kq F (hzn _) ?_
  refine kq F (o0 G _) ?_
  refine kq F (nc G item _) ?_
  refine ee hQ F ?_
  obtain⟨j0,hj0⟩:=hpre2
  exact sk hn (hmm _) ⟨j0++_,by rw[hj0,List.append_assoc]⟩ (by omega) ⟨rfl,rfl⟩
end Go.Av
