/- slices.SortFunc over a row of items of the call's own: the kit's contract, over values. -/
import Derived.Test.YtmfhelaoeaifeaaGreatDoorMkZc
import Derived.Shelf.SlSortCmp.WholeK
import Derived.Ground.SlsfProg
import Derived.Test.YtmfhelaoeaifeaaGreatDoorMkZk
import Derived.Shelf.SlSortCmp.NoneTotal
set_option linter.unusedSimpArgs false
set_option linter.unusedVariables false
set_option linter.unusedSectionVars false
set_option linter.unnecessarySimpa false
set_option maxRecDepth 100000
set_option maxHeartbeats 16000000
namespace Go.Av
open Go Go.Proofs Go.RowKit
attribute [local irreducible] WP WPl WPix Sat
variable (G:Nat→Option (List AVal))
theorem qV{q k N:Nat}(h:q+2≤N):CloB N (u1 q k):=fun c hc=>by
 simp only[List.mem_singleton]at hc
 subst hc
 exact .hs _ _ _ _ _ (by omega)
theorem qW(l:List Int)(N:Nat):CloB N (u2 l):=fun c hc=>by
 obtain⟨y,_,rfl⟩:=List.mem_map.1 hc
 exact .int _ _
theorem mR(s:PS)(h:s.Inv)(id:Int){Y:Heap}{n q:Nat}(hn:n+9≤q)(hm:q+2≤Y.length):Sat (CT G) 171 [.hp (n+8) 0 0 0,.int .i64 id,.fn (.func 172) [] [.hp q 0 0 0]] (twB Y n s q (u1 q 0) (u2 [])) (fun r h'=>r=.tup []∧h'=twB Y n s q (u1 q (undF s id).length) (u2 (undF s id))):=by
 have hcf:Sat (CT G) 209 [.hp (n+8) 0 0 0,.int .i64 id] (twB Y n s q (u1 q 0) (u2 [])) (fun r h'=>r=.bool (s.within id)∧h'=twB Y n s q (u1 q 0) (u2 [])):=lM G s id (by rw[bD hm];omega)
 unfold undF
 cases hw:s.within id with
 |false=>
  rw[hw]at hcf
  refine sb [] (fn:=Tryz.f171) Tryz.func171 ?_
  intro Q hQ
  refine wk trivial ?_
  refine kq trivial (hcf) ?_
  refine ee hQ trivial ?_
  exact nD hn hm (qV hm) (qW _ _) (.tup _ (by simp)) ⟨rfl,rfl⟩
 |true=>
  rw[hw]at hcf
  have hT:Sat (CT G) 21 [.hp (n+8) 0 0 0] (twB Y n s q (u1 q 0) (u2 [])) (fun r h'=>r=s.tell.av∧h'=twB Y n s q (u1 q 0) (u2 [])):=iT G s h.toOk (by rw[bD hm];omega)
  have hfl:s.tell.fe.length≤100000:=by have:=eY (z:=Fe.z) s.fe;have:=h.l2;show(valsM Fe.z s.fe).length≤_;omega
  rw[St.av_eq]at hT
  generalize s.tell.fe=fe at*
  rw[if_pos rfl]
  have hfm:(fe.map Fe.av).length=fe.length:=List.length_map ..
  have F:=hfm
  refine sb [] (fn:=Tryz.f171) Tryz.func171 ?_
  intro Q hQ
  refine wk F ?_
  refine kq F (hcf) ?_
  refine kq F (hT) ?_
  refine lm (fun nL tL hL=>∃(k:Nat) (j:Heap),fe.length-k=nL∧twB (Y++j) n s q (u1 q ((fe.take k).filter fun f=>decide (id=0)||insF s.fo id 8 f.inn).length) (u2 (((fe.take k).filter fun f=>decide (id=0)||insF s.fo id 8 f.inn).map (·.id)))=hL∧tL 16=.int .i64 k∧k≤fe.length) ((fun(k:Nat) (j:Heap)=>(fe.length-k:Nat)) (0) ([])) ?_ ?_
  ·refine Wkn.refl ⟨0,[],rfl,by rw[List.append_nil];rfl,?_,by omega⟩
   all_goals first|exact zq F|rfl|omega|trivial|skip
  rintro _ s2 h' ⟨k,j,rfl,rfl,e16,hk⟩ K2 hK2
  simp only[aj,ao,Nat.reduceEqDiff, ↓reduceIte]at e16
  have F:=F2 F e16
  refine wk F ?_
  have hmj:q+2≤(Y++j).length:=by simp;omega
  refine cq F (fun c1=>?_) (fun c1=>?_)<;>(try exact c1.elim)<;>(refine wk F ?_)
  ·have c2:k<fe.length:=by omega
   obtain⟨f,hf,hfm1⟩:=af c2
   have ht:(fe.take (k+1)).filter (fun f=>decide (id=0)||insF s.fo id 8 f.inn)=(fe.take k).filter (fun f=>decide (id=0)||insF s.fo id 8 f.inn)++if (decide (id=0)||insF s.fo id 8 f.inn)=true then [f]else []:=by
    rw[List.take_add_one,hf,List.filter_append]
    congr 1
    simp only[Option.toList_some,List.filter_cons,List.filter_nil]
   have hl:((fe.take k).filter fun f=>decide (id=0)||insF s.fo id 8 f.inn).length≤100000:=by
    refine Nat.le_trans (List.length_filter_le _ _) ?_
    rw[List.length_take];omega
   have hin:∀X:Heap,q+2≤X.length→∀b1 b2,Sat (CT G) 210 [.hp (n+8) 0 0 0,.int .i64 f.inn,.int .i64 id] (twB X n s q b1 b2) (fun r h'=>r=.bool (insF s.fo id 8 f.inn)∧h'=twB X n s q b1 b2):=fun X hX b1 b2=>mQ G s h f.inn id (by rw[bD hX];omega)
   have hus:=fun(X:Heap) (hX:q+2≤X.length)=>pi G s f (((fe.take k).filter fun f=>decide (id=0)||insF s.fo id 8 f.inn).map (·.id)) (by rw[List.length_map];exact hl) (Y:=X) hn hX
   simp only[List.length_map]at hus
   generalize ((fe.take k).filter fun f=>decide (id=0)||insF s.fo id 8 f.inn)=fl at*
   have hx:∀g:Fe,q+2≤((Y++j)++[Blk.row 93 4 0 [g.av]]).length:=fun g=>by simp;omega
   cases hi:(id==0)with
   |true=>
    have hp:(decide (id=0)||insF s.fo id 8 f.inn)=true:=by rw[show decide (id=0)=(id==0)from rfl,hi];rfl
    rw[hp,if_pos rfl]at ht
    have F:=F5 F c2 hf hi @ap
    try refine sq F ?_
    refine wk F ?_
    refine kq F (hus _ (by simp;omega)) ?_
    refine hK2 _ _ _ (Wkn.refl ⟨k+1,j++[.row 93 4 0 [f.av]],rfl,by rw[ht,List.map_append,List.length_append];rfl,?_,by omega⟩) (by omega)
    all_goals first|exact zq F|rfl|omega|trivial|skip
   |false=>
    have hi0:decide (id=0)=false:=by rw[show decide (id=0)=(id==0)from rfl,hi]
    have hp2:(decide (id=0)||insF s.fo id 8 f.inn)=insF s.fo id 8 f.inn:=by rw[hi0,Bool.false_or]
    rw[hp2]at ht
    cases hp:insF s.fo id 8 f.inn with
    |true=>
     rw[hp]at hin
     rw[hp,if_pos rfl]at ht
     have F:=F5 F c2 hf hi @ap
     try refine sq F ?_
     refine wk F ?_
     refine kq F (hin _ (by simp;omega) _ _) ?_
     refine kq F (hus _ (by simp;omega)) ?_
     refine hK2 _ _ _ (Wkn.refl ⟨k+1,j++[.row 93 4 0 [f.av]],rfl,by rw[ht,List.map_append,List.length_append];rfl,?_,by omega⟩) (by omega)
     all_goals first|exact zq F|rfl|omega|trivial|skip
    |false=>
     rw[hp]at hin
     rw[hp,if_neg (by simp),List.append_nil]at ht
     have F:=F5 F c2 hf hi @ap
     try refine sq F ?_
     refine wk F ?_
     refine kq F (hin _ (by simp;omega) _ _) ?_
     refine hK2 _ _ _ (Wkn.refl ⟨k+1,j++[.row 93 4 0 [f.av]],rfl,by rw[ht];rfl,?_,by omega⟩) (by omega)
     all_goals first|exact zq F|rfl|omega|trivial|skip
  ·rw[List.take_of_length_le (by omega)]
   refine ee hQ F ?_
   exact j8 hn hm (qV hm) (qW _ _) (.tup _ (by simp)) ⟨rfl,rfl⟩
theorem pj(s:PS)(h:s.Inv)(id:Int){H:Heap}{n:Nat}(hn:n+9≤H.length):Sat (CT G) 123 [.hp (n+8) 0 0 0,.int .i64 id] (so H n s) (fun r h'=>r=.sl 1 ((undF s id).map iA)∧h'=so H n s):=by
 have hm:H.length+2≤(H++[u1 H.length 0,u2 []]).length:=by simp
 have hu:=mR G s h id (Y:=H++[u1 H.length 0,u2 []]) hn hm
 have e:∀k l,twB (H++[u1 H.length 0,u2 []]) n s H.length (u1 H.length k) (u2 l)=so (H++[u1 H.length k,u2 l]) n s:=fun k l=>by
  unfold twB
  congr 1
  have:=iO H [u1 H.length k,u2 l] []
  rw[List.append_nil]at this
  rw[this]
  unfold ov
  simp
 rw[e,e]at hu
 generalize undF s id=l at*
 have hq:so (H++[u1 H.length 0,u2 []]) n s=so H n s++[.row 38 1 0 [.hs (H.length+1) 0 0 0 true],.row 3 1 0 []]:=by
  rw[aX hn];rfl
 have hq2:so (H++[u1 H.length l.length,u2 l]) n s=so H n s++[.row 38 1 0 [.hs (H.length+1) l.length 0 l.length true],.row 3 1 l.length (l.map iA)]:=by
  rw[aX hn];rfl
 have hl:=aF (s:=s) hn
 have hne:abin Tryz.prog (so H n s++[Blk.row 38 1 0 [.hs (H.length+1) 0 0 0 true],.row 3 1 0 []]) .neq 29 (.hp (n+8) 0 0 0) (.nil (.pointer none))=some (.bool true):=by
  rw[aX hn];exact vR (by simp;omega)
 rw[hq,hq2]at hu
 have hz:Frz (so H n s++[Blk.row 38 1 0 [.hs (H.length+1) l.length 0 l.length true],.row 3 1 l.length (l.map iA)]) (so H n s).length (.hs (H.length+1) l.length 0 l.length true) (.sl 1 (l.map iA)):=by
  refine Frz.data (by omega) (e:=3) (by rw[bg _ (by rw[hl])];simp[getRow]) (by simp) (fun r hr=>?_) (fun r hr=>?_)
  ·obtain⟨x,_,rfl⟩:=List.mem_map.1 hr;exact .int _ _
  ·obtain⟨x,_,rfl⟩:=List.mem_map.1 hr;intro c hc;simp[AVal.cells,iA]at hc;subst hc;rfl
 generalize so H n s=X at*
 have F:=F3 hl hne @ap
 refine sb [.tmp 4] (fn:=Tryz.f123) Tryz.func123 ?_
 intro Q hQ
 (repeat (first|refine w1 (fun K hK=>?_)|refine w2 ?_|refine w3 ?_| ((first|refine w4 ?_|refine wD ?_|refine w5 ?_|refine w6 ?_|refine w7 ?_);try refine sq F ?_)| (refine w8 ?_;refine sq F ?_;refine w9 ?_)))
 refine hK _ _ (Wkn.refl ?_)
 clear hK K
 (repeat (first|refine w1 (fun K hK=>?_)|refine w2 ?_|refine w3 ?_| ((first|refine w4 ?_|refine wD ?_|refine w5 ?_|refine w6 ?_|refine w7 ?_);try refine sq F ?_)| (refine w8 ?_;refine sq F ?_;refine w9 ?_)))
 refine hK _ _ ⟨_,_,Weak.virtCell1 (p:=H.length) (v:=0) 3 1 (by omega) (by simp(disch:=first|omega| (simp only[go_sem, ↓reduceIte,seval];first|done|omega)|fail) only[go_sem, ↓reduceIte,seval,F];rfl),?_⟩
 clear hK K
 (repeat (first|refine w1 (fun K hK=>?_)|refine w2 ?_|refine w3 ?_| ((first|refine w4 ?_|refine wD ?_|refine w5 ?_|refine w6 ?_|refine w7 ?_);try refine sq F ?_)| (refine w8 ?_;refine sq F ?_;refine w9 ?_)| ((first|refine hK _ _ (w0 ?_)| (clear hK K;refine hK _ _ (w0 ?_))| (clear hK K;clear hK K;refine hK _ _ (w0 ?_)));clear hK K)))
 refine(hu).mono ?_
 rintro r h' ⟨rfl,rfl⟩
 try refine sq F ?_
 (repeat (first|refine w1 (fun K hK=>?_)|refine w2 ?_|refine w3 ?_| ((first|refine w4 ?_|refine wD ?_|refine w5 ?_|refine w6 ?_|refine w7 ?_);try refine sq F ?_)| (refine w8 ?_;refine sq F ?_;refine w9 ?_)| ((first|refine hK _ _ (w0 ?_)| (clear hK K;refine hK _ _ (w0 ?_))| (clear hK K;clear hK K;refine hK _ _ (w0 ?_)));clear hK K)))
 refine ee hQ F ?_
 exact Fin.frz hz ⟨rfl,rfl⟩
theorem kp(l:List Int)(x:Int)(hl:l.length≤1048576)(h:Heap):Sat (CT G) 52 [.sl 1 (l.map iA),.int .i64 x] h (fun r h'=>r=.bool (l.any fun a=>decide (x=a))∧h'=h):=by
 have hi:Sat (CT G) 94 [.sl 1 (l.map iA),.int .i64 x] h (fun r h'=>r=.int .i64 (ixQ (fun a=>decide (x=a)) l)∧h'=h):=by
  have hml:(l.map iA).length=l.length:=List.length_map ..
  have F:=hml
  refine sb [.tmp 4] (fn:=Tryz.f94) Tryz.func94 ?_
  intro Q hQ
  refine wk F ?_
  refine lm (fun nL tL hL=>∃(k:Nat),l.length-k=nL∧h=hL∧tL 8=.int .i64 k∧k≤l.length∧(∀a∈l.take k,decide (x=a)=false)) ((fun(k:Nat)=>(l.length-k:Nat)) (0)) ?_ ?_
  ·refine Wkn.refl ⟨0,rfl,aD,?_,Nat.zero_le _,by simp⟩
   all_goals first|exact zq F|rfl|omega|trivial|skip
  rintro _ s2 h' ⟨k,rfl,rfl,e8,hk,hp⟩ K2 hK2
  simp only[aj,ao,Nat.reduceEqDiff, ↓reduceIte]at e8
  have F:=F2 F e8
  refine wk F ?_
  refine cq F (fun c1=>?_) (fun c1=>?_)<;>(try exact c1.elim)<;>(refine wk F ?_)
  ·have c2:k<l.length:=by omega
   obtain⟨y,hy,hym⟩:=af c2
   cases he:(x==y)with
   |true=>
    have e:=fL (p:=fun a=>decide (x=a)) hy he hp
    have F:=F4 F hy c2 he
    try refine sq F ?_
    refine wk F ?_
    refine ee hQ F ?_
    exact Fin.same (.int _ _) ⟨by rw[e],rfl⟩
   |false=>
    have hp1:=iW (p:=fun a=>decide (x=a)) hy he hp
    have F:=F4 F hy c2 he
    try refine sq F ?_
    refine wk F ?_
    refine hK2 _ _ _ (Wkn.refl ⟨k+1,rfl,aD,?_,by omega,hp1⟩) (by omega)
    all_goals first|exact zq F|rfl|omega|trivial|skip
  ·have e:=fM (p:=fun a=>decide (x=a)) (l:=l) fun a ha=>hp a (by rwa [List.take_of_length_le (by omega)])
   refine ee hQ F ?_
   exact Fin.same (.int _ _) ⟨by rw[e],rfl⟩
 rw[← gg]
 refine sb [.tmp 4] (fn:=Tryz.f52) Tryz.func52 ?_
 intro Q hQ
 refine wk trivial ?_
 refine kq trivial (hi) ?_
 refine ee hQ trivial ?_
 exact Fin.same (.bool _) ⟨rfl,rfl⟩
theorem qX(l:List Bs)(x:Bs)(hl:l.length≤1048576)(h:Heap):Sat (CT G) 74 [.sl 1 (l.map .str),.str x] h (fun r h'=>r=.bool (l.any fun a=>decide (x=a))∧h'=h):=by
 have hi:Sat (CT G) 124 [.sl 1 (l.map .str),.str x] h (fun r h'=>r=.int .i64 (ixQ (fun a=>decide (x=a)) l)∧h'=h):=by
  have hml:(l.map AVal.str).length=l.length:=List.length_map ..
  have F:=hml
  refine sb [.tmp 4] (fn:=Tryz.f124) Tryz.func124 ?_
  intro Q hQ
  refine wk F ?_
  refine lm (fun nL tL hL=>∃(k:Nat),l.length-k=nL∧h=hL∧tL 8=.int .i64 k∧k≤l.length∧(∀a∈l.take k,decide (x=a)=false)) ((fun(k:Nat)=>(l.length-k:Nat)) (0)) ?_ ?_
  ·refine Wkn.refl ⟨0,rfl,aD,?_,Nat.zero_le _,by simp⟩
   all_goals first|exact zq F|rfl|omega|trivial|skip
  rintro _ s2 h' ⟨k,rfl,rfl,e8,hk,hp⟩ K2 hK2
  simp only[aj,ao,Nat.reduceEqDiff, ↓reduceIte]at e8
  have F:=F2 F e8
  refine wk F ?_
  refine cq F (fun c1=>?_) (fun c1=>?_)<;>(try exact c1.elim)<;>(refine wk F ?_)
  ·have c2:k<l.length:=by omega
   obtain⟨y,hy,hym⟩:=af c2
   cases he:(x==y)with
   |true=>
    have hx:decide (x=y)=true:=by simpa using he
    have e:=fL (p:=fun a=>decide (x=a)) hy hx hp
    have F:=F4 F hy c2 he
    try refine sq F ?_
    refine wk F ?_
    refine ee hQ F ?_
    exact Fin.same (.int _ _) ⟨by rw[e],rfl⟩
   |false=>
    have hx:decide (x=y)=false:=by simpa using he
    have hp1:=iW (p:=fun a=>decide (x=a)) hy hx hp
    have F:=F4 F hy c2 he
    try refine sq F ?_
    refine wk F ?_
    refine hK2 _ _ _ (Wkn.refl ⟨k+1,rfl,aD,?_,by omega,hp1⟩) (by omega)
    all_goals first|exact zq F|rfl|omega|trivial|skip
  ·have e:=fM (p:=fun a=>decide (x=a)) (l:=l) fun a ha=>hp a (by rwa [List.take_of_length_le (by omega)])
   refine ee hQ F ?_
   exact Fin.same (.int _ _) ⟨by rw[e],rfl⟩
 rw[← gg]
 refine sb [.tmp 4] (fn:=Tryz.f74) Tryz.func74 ?_
 intro Q hQ
 refine wk trivial ?_
 refine kq trivial (hi) ?_
 refine ee hQ trivial ?_
 exact Fin.same (.bool _) ⟨rfl,rfl⟩
end Go.Av
namespace Go.Av
open Go Go.Proofs Go.RowKit
attribute [local irreducible] WP WPl WPix Sat
variable (G:Nat→Option (List AVal))
theorem pk(p:Bs→Bool)(g:FuncId)(cap:List AVal)(h:Heap)(l:List Bs)(hl:l.length≤1048576)(hg:∀a∈l,Sat (CT G) g ([]++[.str a]++cap) h (fun r h'=>r=.bool (p a)∧h'=h)):
  Sat (CT G) 211 [.sl 1 (l.map .str),.fn (.func g) [] cap] h (fun r h'=>r=.int .i64 (ixQ p l)∧h'=h):=by
 have hml:(l.map AVal.str).length=l.length:=List.length_map ..
 have F:=hml
 refine sb [.tmp 4] (fn:=Tryz.f211) Tryz.func211 ?_
 intro Q hQ
 refine wk F ?_
 refine lm (fun nL tL hL=>∃(k:Nat),l.length-k=nL∧h=hL∧tL 8=.int .i64 k∧k≤l.length∧(∀a∈l.take k,p a=false)) ((fun(k:Nat)=>(l.length-k:Nat)) (0)) ?_ ?_
 ·refine Wkn.refl ⟨0,rfl,aD,?_,Nat.zero_le _,by simp⟩
  all_goals first|exact zq F|rfl|omega|trivial|skip
 rintro _ s2 h' ⟨k,rfl,rfl,e8,hk,hp⟩ K2 hK2
 simp only[aj,ao,Nat.reduceEqDiff, ↓reduceIte]at e8
 have F:=F2 F e8
 refine wk F ?_
 refine cq F (fun c1=>?_) (fun c1=>?_)<;>(try exact c1.elim)<;>(refine wk F ?_)
 ·have c2:k<l.length:=by omega
  obtain⟨y,hy,hym⟩:=af c2
  have hc:=hg y hym
  cases he:p y with
  |true=>
   have e:=fL hy he hp
   rw[he]at hc
   clear he
   have F:=F3 F hy c2
   try refine sq F ?_
   refine wk F ?_
   refine kq F (hc) ?_
   refine ee hQ F ?_
   exact Fin.same (.int _ _) ⟨by rw[e],rfl⟩
  |false=>
   have hp1:=iW hy he hp
   rw[he]at hc
   clear he
   have F:=F3 F hy c2
   try refine sq F ?_
   refine wk F ?_
   refine kq F (hc) ?_
   refine hK2 _ _ _ (Wkn.refl ⟨k+1,rfl,aD,?_,by omega,hp1⟩) (by omega)
   all_goals first|exact zq F|rfl|omega|trivial|skip
 ·have e:=fM (p:=p) (l:=l) fun a ha=>hp a (by rwa [List.take_of_length_le (by omega)])
  refine ee hQ F ?_
  exact Fin.same (.int _ _) ⟨by rw[e],rfl⟩
theorem tE(p:Bs→Bool)(g:FuncId)(cap:List AVal)(h:Heap)(l:List Bs)(hl:l.length≤1048576)(hg:∀a∈l,Sat (CT G) g ([]++[.str a]++cap) h (fun r h'=>r=.bool (p a)∧h'=h)):
  Sat (CT G) 174 [.sl 1 (l.map .str),.fn (.func g) [] cap] h (fun r h'=>r=.bool (l.any p)∧h'=h):=by
 have hc:=pk G p g cap h l hl hg
 rw[← gg]
 refine sb [.tmp 4] (fn:=Tryz.f174) Tryz.func174 ?_
 intro Q hQ
 refine wk trivial ?_
 refine kq trivial (hc) ?_
 refine ee hQ trivial ?_
 exact Fin.same (.bool _) ⟨rfl,rfl⟩
theorem pm(s:Bs)(hs:s.length≤100000)(h:Heap):Sat (CT G) 173 [.str s] h (fun r h'=>r=.tup [.str ((wordsF s).headD []),.bool (!(wordsF s).isEmpty)]∧h'=h):=by
 have hW:=eV G s hs
 generalize wordsF s=ws at*
 have ct:∀(t:Bs) (b:Bool),Clo h.length (.tup [.str t,.bool b]):=fun t b=>.tup _ (fun x hx=>by simp only[List.mem_cons,List.not_mem_nil,or_false]at hx;rcases hx with rfl|rfl;exact .str _;exact .bool _)
 match ws with
 | []=>
  refine sb [.tmp 2,.tmp 3] (fn:=Tryz.f173) Tryz.func173 ?_
  intro Q hQ
  refine wk trivial ?_
  refine kq trivial (hW _) ?_
  refine ee hQ trivial ?_
  exact Fin.same (ct _ _) ⟨rfl,rfl⟩
 |w::l=>
  refine sb [.tmp 2,.tmp 3] (fn:=Tryz.f173) Tryz.func173 ?_
  intro Q hQ
  refine wk trivial ?_
  refine kq trivial (hW _) ?_
  repeat' (first
   | (exfalso;first|omega| (simp at hx;done)| (simp at hx;omega))
   | (refine cq trivial (fun hx=>?_) (fun hx=>?_)<;>(try exact hx.elim)<;>(refine wk trivial ?_))
   | ((first|refine gq trivial (fun hx=>?_) (fun hx=>?_)|refine pq trivial (fun hx=>?_) (fun hx=>?_))<;>(try exact hx.elim)<;>(try refine sq trivial ?_)<;>(refine wk trivial ?_)))
  refine ee hQ trivial ?_
  exact Fin.same (ct _ _) ⟨rfl,rfl⟩
def hasG(p:Bs→Bs→Bool)(s w:Bs):Bool:=match wordsF w with
 | []=>false
 |f::_=>(wordsF s).any fun x=>p x f
theorem qY(p:Bs→Bs→Bool)(g:FuncId)(hg:∀x f h,Sat (CT G) g ([]++[.str x,.str f]++[]) h (fun r h'=>r=.bool (p x f)∧h'=h))(x f:Bs)(h:Heap):
  Sat (CT G) 176 ([]++[.str x]++[.hp h.length 0 0 0,.hp (h.length+1) 0 0 0]) (h++[.row 123 1 0 [.fn (.func g) [] []],.row 9 1 0 [.str f]]) (fun r h'=>r=.bool (p x f)∧h'=h++[.row 123 1 0 [.fn (.func g) [] []],.row 9 1 0 [.str f]]):=by
 have hc:=hg x f
 generalize p x f=b at*
 have F:= @ap
 refine sb [.tmp 4] (fn:=Tryz.f176) Tryz.func176 ?_
 intro Q hQ
 refine wk F ?_
 refine kq F (hc _) ?_
 refine ee hQ F ?_
 exact Fin.same (.bool _) ⟨rfl,rfl⟩
theorem kr(p:Bs→Bs→Bool)(g:FuncId)(hg:∀x f h,Sat (CT G) g ([]++[.str x,.str f]++[]) h (fun r h'=>r=.bool (p x f)∧h'=h))(s w:Bs)(hs:s.length≤100000)(hw:w.length≤100000)(h:Heap):
  Sat (CT G) 125 [.str s,.str w,.fn (.func g) [] []] h (fun r h'=>r=.bool (hasG p s w)∧h'=h):=by
 have hF:=pm G w hw
 have hW:=eV G s hs
 have hwl:(wordsF s).length≤1048576:=by
  unfold wordsF
  rw[List.length_map]
  have h1:=lC (foldS s)
  have h2:=d8 s
  omega
 unfold hasG
 generalize wordsF w=ws at*
 generalize wordsF s=vs at*
 match ws with
 | []=>
  simp only[List.headD_nil,List.isEmpty_nil,Bool.not_true]at hF
  refine sb [.tmp 6] (fn:=Tryz.f125) Tryz.func125 ?_
  intro Q hQ
  refine wk trivial ?_
  refine kq trivial (hF _) ?_
  refine ee hQ trivial ?_
  exact Fin.plain (.bool _) ⟨rfl,rfl⟩
 |f::l=>
  simp only[List.headD_cons,List.isEmpty_cons,Bool.not_false]at hF
  have ha:=tE G (fun x=>p x f) 176 [.hp h.length 0 0 0,.hp (h.length+1) 0 0 0] _ vs hwl fun x _=>qY G p g hg x f h
  refine sb [.tmp 6] (fn:=Tryz.f125) Tryz.func125 ?_
  intro Q hQ
  refine wk trivial ?_
  refine kq trivial (hF _) ?_
  refine kq trivial (hW _) ?_
  refine kq trivial (ha) ?_
  refine ee hQ trivial ?_
  exact Fin.plain (.bool _) ⟨rfl,rfl⟩
def hasF(s w:Bs):Bool:=hasG (fun x f=>decide (x=f)) s w
def bgnF(s w:Bs):Bool:=hasG (fun x f=>Lib.hasPrefix x f) s w
theorem tF(s w:Bs)(hs:s.length≤100000)(hw:w.length≤100000)(h:Heap):Sat (CT G) 75 [.str s,.str w] h (fun r h'=>r=.bool (hasF s w)∧h'=h):=by
 have hc:=kr G (fun x f=>decide (x=f)) 126 (fun x f h=>by
  refine sb [.tmp 4] (fn:=Tryz.f126) Tryz.func126 ?_
  intro Q hQ
  refine wk trivial ?_
  refine ee hQ trivial ?_
  exact Fin.same (.bool _) ⟨by congr 1;rw[Bool.eq_iff_iff];simp,rfl⟩) s w hs hw
 unfold hasF
 refine sb [.tmp 4] (fn:=Tryz.f75) Tryz.func75 ?_
 intro Q hQ
 refine wk trivial ?_
 refine kq trivial (hc _) ?_
 refine ee hQ trivial ?_
 exact Fin.same (.bool _) ⟨rfl,rfl⟩
theorem mS(s w:Bs)(hs:s.length≤100000)(hw:w.length≤100000)(h:Heap):Sat (CT G) 76 [.str s,.str w] h (fun r h'=>r=.bool (bgnF s w)∧h'=h):=by
 have hc:=kr G (fun x f=>Lib.hasPrefix x f) 127 (fun x f h=>fk G x f h) s w hs hw
 unfold bgnF
 refine sb [.tmp 4] (fn:=Tryz.f76) Tryz.func76 ?_
 intro Q hQ
 refine wk trivial ?_
 refine kq trivial (hc _) ?_
 refine ee hQ trivial ?_
 exact Fin.same (.bool _) ⟨rfl,rfl⟩
end Go.Av
namespace Go.Av
open Go Go.Proofs Go.RowKit
attribute [local irreducible] WP WPl WPix Sat
def leafF(s:PS)(t:It)(op num:Int)(tx:Bs):Bool:=
 if op=1 then true else if op=6 then decide (t.feed=num)else if op=7 then(undF s num).any (fun a=>decide (t.feed=a))
 else if op=8 then t.tags.any (fun a=>decide (tx=a))else if op=9 then !t.read else if op=10 then t.star
 else if op=11 then hasF t.title tx else if op=12 then bgnF t.title tx else if op=13 then decide (t.date<num)else if op=14 then decide (t.date≥num)
 else if op=15 then decide (t.date>IntKind.i64.wrap (s.clock-IntKind.i64.wrap (num*86400)))else false
namespace Qy
mutual
def bel(s:PS)(t:It):Qy→Bool
 | .mk op num tx ks=>if op=3 then belA s t ks else if op=4 then belO s t ks else if op=5 then !belO s t ks else leafF s t op num tx
def belA(s:PS)(t:It):List Qy→Bool
 | []=>true
 |k::ks=>k.bel s t&&belA s t ks
def belO(s:PS)(t:It):List Qy→Bool
 | []=>false
 |k::ks=>k.bel s t||belO s t ks
end
theorem belA_eq(s:PS)(t:It):∀ks:List Qy,belA s t ks= !ks.any fun k=> !k.bel s t
 | []=>rfl
 |k::ks=>by rw[belA,belA_eq s t ks,List.any_cons,Bool.not_or,Bool.not_not]
theorem belO_eq(s:PS)(t:It):∀ks:List Qy,belO s t ks=ks.any fun k=>k.bel s t
 | []=>rfl
 |k::ks=>by rw[belO,belO_eq s t ks,List.any_cons]
end Qy
def lsA(l:List Int):AVal:=.sl 1 (l.map iA)
def am(M:ML Int (List Int))(c:Nat):Blk:=.mp (encM iA lsA M) c
def ar(n a:Nat):Blk:=.row 117 2 0 [.agg [.hp (n+8) 0 0 0,.hm a]]
def Gd(s:PS)(x:ML Int (List Int)×Nat):Prop:=WFM x.1 x.2∧∀id l,lkM x.1 id=some l→l=undF s id
def sa(Y:Heap)(n:Nat)(s:PS)(a:Nat)(x:ML Int (List Int)×Nat):Heap:=twB Y n s a (am x.1 x.2) (ar n a)
theorem j9(M:ML Int (List Int))(c N:Nat):CloB N (am M c):=bx (fun _=>.int _ _) (fun l=>Clo.sl _ _ fun x hx=>by obtain⟨y,_,rfl⟩:=List.mem_map.1 hx;exact .int _ _) M
theorem ja{n a N:Nat}(hn:n+9≤a)(h:a+2≤N):CloB N (ar n a):=fun c hc=>by
 simp only[List.mem_singleton]at hc
 subst hc
 exact .agg _ fun x hx=>by
  simp only[List.mem_cons,List.not_mem_nil,or_false]at hx
  rcases hx with rfl|rfl
  ·exact .hp _ _ _ _ (by omega)
  ·exact .hm _ (by omega)
section
variable {Y:Heap} {n a:Nat} {s:PS} {x:ML Int (List Int)×Nat}
@[go_sem] theorem wC(hn:n+9≤a)(hm:a+2≤Y.length)(j:Heap):sa Y n s a x++j=sa (Y++j) n s a x:=wy hn hm j
@[go_sem] theorem wE(hn:n+9≤a)(hm:a+2≤Y.length):(sa Y n s a x).length=Y.length:=wz hn hm
@[go_sem] theorem r7(hn:n+9≤a)(hm:a+2≤Y.length){p:Nat}(u:Nat)(hp:a+2≤p):getRow (sa Y n s a x) p u=getRow Y p u:=wA hn hm u hp
@[go_sem] theorem r8(hn:n+9≤a)(hm:a+2≤Y.length){p:Nat}(b:Blk)(hp:a+2≤p):(sa Y n s a x).set p b=sa (Y.set p b) n s a x:=wB hn hm b hp
@[go_sem] theorem Gj(hn:n+9≤a)(hm:a+2≤Y.length):getRow (sa Y n s a x) (a+1) 0=some (117,2,[.agg [.hp (n+8) 0 0 0,.hm a]]):=yR hn hm 0
@[go_sem] theorem Gk(hn:n+9≤a)(hm:a+2≤Y.length):mapAt (sa Y n s a x) a=some (encM iA lsA x.1,x.2):=yS hn hm
@[go_sem] theorem Gl(hn:n+9≤a)(hm:a+2≤Y.length)(M:ML Int (List Int))(c:Nat):(sa Y n s a x).set a (.mp (encM iA lsA M) c)=sa Y n s a (M,c):=yT hn hm _
@[go_sem] theorem F0(n:Nat)(l:List AVal):softA (.sl n l)=.sl n l:=(rfl)
@[go_sem] theorem Gm(c:Nat)(l:ML Int (List Int))(x:Int)(ls:List Int):putM (encM iA lsA l) c (.int .i64 x) (.sl 1 (ls.map iA)) (ixM l x)=.mp (encM iA lsA (upM l c x ls)) (ckM l c x):=i7 c l x ls rfl
theorem bm{j:Heap}{y:ML Int (List Int)×Nat}{R:AVal→Heap→Prop}{r:AVal}(hn:n+9≤a)(hm:a+2≤Y.length)(hc:∀N,Clo N r)(hR:R r (sa Y n s a y)):Fin (sa Y n s a x) (sa (Y++j) n s a y) R r:=
 j8 hn hm (j9 _ _ _) (ja hn hm) (hc _) hR
theorem gC(hn:n+9≤a)(hm:a+2≤Y.length):FinW fun x=>sa Y n s a x:=fun x y r R hc hR=>nD hn hm (j9 _ _ _) (ja hn hm) (hc _) hR
end
variable (G:Nat→Option (List AVal))
theorem mT(s:PS)(h:s.Inv)(id:Int){Y:Heap}{n a:Nat}(hn:n+9≤a)(hm:a+2≤Y.length)(x:ML Int (List Int)×Nat)(hx:Gd s x):
  Sat (CT G) 73 [.hp (a+1) 0 0 0,.int .i64 id] (sa Y n s a x) (fun r h'=>r=.sl 1 ((undF s id).map iA)∧∃y,Gd s y∧h'=sa Y n s a y):=by
 obtain⟨M,c⟩:=x
 have hci:∀(l:List Int) N,Clo N (.sl 1 (l.map iA)):=fun l N=>Clo.sl _ _ fun x hx=>by obtain⟨y,_,rfl⟩:=List.mem_map.1 hx;exact .int _ _
 cases hl:lkM M id with
 |some l=>
  have:=hx.2 id l hl
  subst this
  have F:=hl
  refine sb [.tmp 4] (fn:=Tryz.f73) Tryz.func73 ?_
  intro Q hQ
  refine wk F ?_
  refine ee hQ F ?_
  exact gC hn hm _ _ _ _ (hci _) ⟨rfl,_,hx,rfl⟩
 |none=>
  have hU:Sat (CT G) 123 [.hp (n+8) 0 0 0,.int .i64 id] (sa Y n s a (M,c)) (fun r h'=>r=.sl 1 ((undF s id).map iA)∧h'=sa Y n s a (M,c)):=pj G s h id (by rw[bD hm];omega)
  have hx2:Gd s (upM M c id (undF s id),ckM M c id):=⟨hx.1.up _ _,fun k l hk=>by
   rcases aW hk with⟨rfl,rfl⟩| ⟨_,hk⟩
   ·rfl
   ·exact hx.2 k l hk⟩
  generalize undF s id=u at*
  have hns:(none:Option (List Int)).isSome=false:=rfl
  have F:=F2 hl hns
  refine sb [.tmp 4] (fn:=Tryz.f73) Tryz.func73 ?_
  intro Q hQ
  refine wk F ?_
  refine kq F (hU) ?_
  refine ee hQ F ?_
  refine gC hn hm (M,c) (upM M c id u,ckM M c id) _ _ (hci _) ?_
  exact⟨rfl,_,hx2,rfl⟩
end Go.Av
namespace Go.Av
open Go Go.Proofs Go.RowKit
attribute [local irreducible] WP WPl WPix Sat
def BelR(G:Nat→Option (List AVal))(s:PS)(n a:Nat)(t:It)(q:Qy):Prop:=∀(Y:Heap) (x:ML Int (List Int)×Nat),a+2≤Y.length→Gd s x→
 Sat (CT G) 37 [.hp (a+1) 0 0 0,q.av,t.av] (sa Y n s a x) (fun r h'=>r=.bool (q.bel s t)∧∃y,Gd s y∧h'=sa Y n s a y)
variable (G:Nat→Option (List AVal))
section
variable {s:PS} {n a:Nat} {t:It}
theorem iu{k:Qy}(ih:BelR G s n a t k)(hn:n+9≤a){Y:Heap}(hm:a+2≤Y.length){p1 p2:Nat}(l1:a+2≤p1)(l2:a+2≤p2)
  (h1:getRow Y p1 0=some (70,1,[.hp (a+1) 0 0 0]))(h2:getRow Y p2 0=some (49,9,[t.av]))(x:ML Int (List Int)×Nat)(hx:Gd s x):
  Sat (CT G) 70 ([]++[k.av]++[.hp p1 0 0 0,.hp p2 0 0 0]) (sa Y n s a x) (fun r h'=>r=.bool (k.bel s t)∧∃y,Gd s y∧h'=sa Y n s a y):=by
 have q1:=bO h1
 have q2:=bO h2
 have hm1:∀j:Heap,a+2≤(Y++j).length:=fun j=>by simp;omega
 have hc:=fun Y hm=>ih Y x hm hx
 generalize k.bel s t=b at*
 obtain⟨ko,kn,ks,kl⟩:=k
 rw[Qy.av_eq]at*
 have F:=vL hm hn hm1 h1 h2 q1 q2 l1 l2 @ap
 refine sb [.tmp 4] (fn:=Tryz.f70) Tryz.func70 ?_
 intro Q hQ
 refine wk F ?_
 refine(hc _ (by simp;omega)).mono ?_
 rintro r h' ⟨rfl,y,hy,rfl⟩
 try refine sq F ?_
 refine wk F ?_
 refine ee hQ F ?_
 exact bm hn hm (fun N=>.bool _) ⟨rfl,y,hy,rfl⟩
theorem tG{k:Qy}(ih:BelR G s n a t k)(hn:n+9≤a){Y:Heap}(hm:a+2≤Y.length){p1 p2 p3:Nat}(l1:a+2≤p1)(l2:a+2≤p2)(l3:a+2≤p3)
  (h1:getRow Y p1 0=some (70,1,[.hp (a+1) 0 0 0]))(h2:getRow Y p2 0=some (49,9,[t.av]))
  (h3:getRow Y p3 0=some (27,1,[.fn (.func 70) [] [.hp p1 0 0 0,.hp p2 0 0 0]]))(x:ML Int (List Int)×Nat)(hx:Gd s x):
  Sat (CT G) 72 ([]++[k.av]++[.hp p3 0 0 0]) (sa Y n s a x) (fun r h'=>r=.bool (!k.bel s t)∧∃y,Gd s y∧h'=sa Y n s a y):=by
 have q1:=bO h1
 have q2:=bO h2
 have q3:=bO h3
 have hm1:∀j:Heap,a+2≤(Y++j).length:=fun j=>by simp;omega
 have hc:=fun j:Heap=>iu G ih hn (Y:=Y++j) (hm1 j) l1 l2 (by rw[bk _ q1];exact h1) (by rw[bk _ q2];exact h2) x hx
 generalize k.bel s t=b at*
 clear ih
 obtain⟨ko,kn,ks,kl⟩:=k
 rw[Qy.av_eq]at*
 have F:=F7 hm hn hm1 h3 q3 l3 @ap
 refine sb [.tmp 3] (fn:=Tryz.f72) Tryz.func72 ?_
 intro Q hQ
 refine wk F ?_
 refine(hc _).mono ?_
 rintro r h' ⟨rfl,y,hy,rfl⟩
 try refine sq F ?_
 refine wk F ?_
 refine ee hQ F ?_
 exact bm hn hm (fun N=>.bool _) ⟨rfl,y,hy,rfl⟩
end
theorem wF{s:PS}{t:It}{op num:Int}{tx:Bs}{ks:List Qy}(h3:op≠3)(h4:op≠4)(h5:op≠5):(Qy.mk op num tx ks).bel s t=leafF s t op num tx:=by
 rw[Qy.bel,if_neg h3,if_neg h4,if_neg h5]
theorem nE(s:PS)(hI:s.Inv)(t:It)(ht:t.title.length≤256)(htg:t.tags.length≤1048576){n a:Nat}(hn:n+9≤a):∀q:Qy,q.sz≤20000→q.all pnF=true→BelR G s n a t q:=by
 refine Qy.ind fun op num tx ks ih=>?_
 intro hz hp Y x hm hx
 have hkl:=Qy.szL_len ks
 have hkm:∀k∈ks,k.sz≤Qy.szL ks:=fun k hk=>Qy.szL_mem hk
 rw[Qy.sz]at hz
 rw[Qy.all,Bool.and_eq_true,Qy.allL_eq,List.all_eq_true]at hp
 obtain⟨hpk,hpn⟩:=hp
 have ihk:∀k∈ks,BelR G s n a t k:=fun k hk=>ih k hk (by have:=hkm k hk;omega) (hpk k hk)
 have hpg:pnG op num tx ks.length=true:=hpn
 have hml:(ks.map Qy.av).length=ks.length:=List.length_map ..
 have hm1:∀j:Heap,a+2≤(Y++j).length:=fun j=>by simp;omega
 have hra:1≤op∧op≤15:=by
  unfold pnG at hpg
  simp only[Bool.and_eq_true,decide_eq_true_eq]at hpg
  exact hpg.1.1.1
 rw[Qy.av_eq]
 have F:=F5 hm hn hm1 hml @ap
 by_cases k3:op=3
 ·subst k3
  have hb:(Qy.mk 3 num tx ks).bel s t= !ks.any fun k=> !k.bel s t:=by rw[Qy.bel,if_pos rfl,Qy.belA_eq]
  rw[hb]
  have hany:=fN G (gC (s:=s) hn (hm1 [.row 70 1 0 [.hp (a+1) 0 0 0],.row 25 4 0 [.agg [.int .i64 3,.int .i64 num,.str tx,.sl 4 (ks.map Qy.av)]],.row 49 9 0 [t.av],.row 27 1 0 [.fn (.func 70) [] [.hp Y.length 0 0 0,.hp (Y.length+2) 0 0 0]]]))
   (fun k=> !k.bel s t) 72 [.hp (Y.length+3) 0 0 0] ks (by omega) (fun k hk x hx=>tG G (ihk k hk) hn (hm1 _) (p1:=Y.length) (p2:=Y.length+2) (by omega) (by omega) (by omega) (by rw[aO _ rfl];rfl) (by rw[bg _ rfl];rfl) (by rw[bg _ rfl];rfl) x hx) x hx
  generalize (ks.any fun k=> !k.bel s t)=b at*
  refine sb [.tmp 6] (fn:=Tryz.f37) Tryz.func37 ?_
  intro Q hQ
  refine wk F ?_
  refine hany.mono ?_
  rintro r h' ⟨rfl,y,hy,rfl⟩
  try refine sq F ?_
  refine wk F ?_
  refine ee hQ F ?_
  exact bm hn hm (fun N=>.bool _) ⟨rfl,y,hy,rfl⟩
 by_cases k4:op=4
 ·subst k4
  have hb:(Qy.mk 4 num tx ks).bel s t=ks.any fun k=>k.bel s t:=by rw[Qy.bel,if_neg (by decide),if_pos rfl,Qy.belO_eq]
  rw[hb]
  have hany:=fN G (gC (s:=s) hn (hm1 [.row 70 1 0 [.hp (a+1) 0 0 0],.row 25 4 0 [.agg [.int .i64 4,.int .i64 num,.str tx,.sl 4 (ks.map Qy.av)]],.row 49 9 0 [t.av],.row 27 1 0 [.fn (.func 70) [] [.hp Y.length 0 0 0,.hp (Y.length+2) 0 0 0]]]))
   (fun k=>k.bel s t) 70 [.hp Y.length 0 0 0,.hp (Y.length+2) 0 0 0] ks (by omega) (fun k hk x hx=>iu G (ihk k hk) hn (hm1 _) (p1:=Y.length) (p2:=Y.length+2) (by omega) (by omega) (by rw[aO _ rfl];rfl) (by rw[bg _ rfl];rfl) x hx) x hx
  generalize (ks.any fun k=>k.bel s t)=b at*
  refine sb [.tmp 6] (fn:=Tryz.f37) Tryz.func37 ?_
  intro Q hQ
  refine wk F ?_
  refine hany.mono ?_
  rintro r h' ⟨rfl,y,hy,rfl⟩
  try refine sq F ?_
  refine wk F ?_
  refine ee hQ F ?_
  exact bm hn hm (fun N=>.bool _) ⟨rfl,y,hy,rfl⟩
 by_cases k5:op=5
 ·subst k5
  have hl1:ks.length=1:=by
   unfold pnG kdG at hpg
   simp only[Bool.and_eq_true]at hpg
   simpa using hpg.2
  obtain⟨k,rfl⟩:∃k,ks=[k]:=by
   match ks,hl1 with
   | [k],_=>exact⟨k,rfl⟩
  have hb:(Qy.mk 5 num tx [k]).bel s t= !k.bel s t:=by rw[Qy.bel,if_neg (by decide),if_neg (by decide),if_pos rfl,Qy.belO,Qy.belO,Bool.or_false]
  rw[hb]
  have hc:=iu G (ihk k (by simp)) hn (hm1 [.row 70 1 0 [.hp (a+1) 0 0 0],.row 25 4 0 [.agg [.int .i64 5,.int .i64 num,.str tx,.sl 4 ([k].map Qy.av)]],.row 49 9 0 [t.av],.row 27 1 0 [.fn (.func 70) [] [.hp Y.length 0 0 0,.hp (Y.length+2) 0 0 0]]])
   (p1:=Y.length) (p2:=Y.length+2) (by omega) (by omega) (by rw[aO _ rfl];rfl) (by rw[bg _ rfl];rfl) x hx
  clear ih ihk hkm hpk hb
  generalize k.bel s t=b at*
  obtain⟨ko,kn,kt,kl⟩:=k
  simp only[List.map_cons,List.map_nil]at*
  rw[Qy.av_eq]at*
  skip
  refine sb [.tmp 6] (fn:=Tryz.f37) Tryz.func37 ?_
  intro Q hQ
  refine wn F ?_
  refine aL 6 [5] [true,true,true,true,true,false] (.one 5 [] .fin) (by decide+kernel) (by kernel_rfl) (by decide+kernel) ?_
  simp only[aU,aV,aI]
  try refine sq F ?_
  repeat' (first| (refine ax ?_;try refine sq F ?_)| (refine aA ?_;try refine sq F ?_)| (refine aB ?_ ?_<;>try refine sq F ?_))
  all_goals try refine wn F ?_
  refine hc.mono ?_
  rintro r h' ⟨rfl,y,hy,rfl⟩
  repeat' (first| (refine ax ?_;try refine sq F ?_)| (refine aA ?_;try refine sq F ?_)| (refine aB ?_ ?_<;>try refine sq F ?_))
  all_goals try refine wn F ?_
  skip
  refine ee hQ F ?_
  exact bm hn hm (fun N=>.bool _) ⟨rfl,y,hy,rfl⟩
 rw[wF k3 k4 k5]
 by_cases k7:op=7
 ·subst k7
  have hf:=fun Y hm=>mT G s hI num (Y:=Y) hn hm x hx
  have hul:(undF s num).length≤1048576:=by
   unfold undF
   split
   ·rw[List.length_map]
    refine Nat.le_trans (List.length_filter_le _ _) ?_
    have:=eY (z:=Fe.z) s.fe
    have:=hI.l2
    show(valsM Fe.z s.fe).length≤_
    omega
   ·simp
  have hcn:=kp G (undF s num) t.feed hul
  have hb:leafF s t 7 num tx=(undF s num).any fun a=>decide (t.feed=a):=rfl
  rw[hb]
  generalize ((undF s num).any fun a=>decide (t.feed=a))=b at*
  generalize undF s num=u at*
  skip
  refine sb [.tmp 6] (fn:=Tryz.f37) Tryz.func37 ?_
  intro Q hQ
  refine wn F ?_
  refine aL 6 [3] [true,true,true,false,true,true] (.one 3 [false,false,false,false,true,true] .fin) (by decide+kernel) (by kernel_rfl) (by decide+kernel) ?_
  simp only[aU,aV,aI]
  try refine sq F ?_
  repeat' (first| (refine ax ?_;try refine sq F ?_)| (refine aA ?_;try refine sq F ?_)| (refine aB ?_ ?_<;>try refine sq F ?_))
  all_goals try refine wn F ?_
  refine(hf _ (hm1 _)).mono ?_
  rintro r h' ⟨rfl,y,hy,rfl⟩
  refine⟨by simp(disch:=first|omega| (simp only[go_sem, ↓reduceIte,seval];first|done|omega)|fail) only[go_sem, ↓reduceIte,seval,F],?_⟩
  repeat' (first| (refine ax ?_;try refine sq F ?_)| (refine aA ?_;try refine sq F ?_)| (refine aB ?_ ?_<;>try refine sq F ?_))
  all_goals try refine wn F ?_
  refine(hcn _).mono ?_
  rintro r h' ⟨rfl,rfl⟩
  repeat' (first| (refine ax ?_;try refine sq F ?_)| (refine aA ?_;try refine sq F ?_)| (refine aB ?_ ?_<;>try refine sq F ?_))
  all_goals try refine wn F ?_
  skip
  refine ee hQ F ?_
  exact bm hn hm (fun N=>.bool _) ⟨rfl,y,hy,rfl⟩
 by_cases k8:op=8
 ·subst k8
  have hcn:=qX G t.tags tx htg
  have hb:leafF s t 8 num tx=t.tags.any fun a=>decide (tx=a):=rfl
  rw[hb]
  generalize (t.tags.any fun a=>decide (tx=a))=b at*
  refine sb [.tmp 6] (fn:=Tryz.f37) Tryz.func37 ?_
  intro Q hQ
  refine wk F ?_
  refine kq F (hcn _) ?_
  refine ee hQ F ?_
  exact bm hn hm (fun N=>.bool _) ⟨rfl,x,hx,rfl⟩
 by_cases k11:op=11
 ·subst k11
  have hcn:=tF G t.title tx (by omega) (by omega)
  have hb:leafF s t 11 num tx=hasF t.title tx:=rfl
  rw[hb]
  generalize hasF t.title tx=b at*
  refine sb [.tmp 6] (fn:=Tryz.f37) Tryz.func37 ?_
  intro Q hQ
  refine wk F ?_
  refine kq F (hcn _) ?_
  refine ee hQ F ?_
  exact bm hn hm (fun N=>.bool _) ⟨rfl,x,hx,rfl⟩
 by_cases k12:op=12
 ·subst k12
  have hcn:=mS G t.title tx (by omega) (by omega)
  have hb:leafF s t 12 num tx=bgnF t.title tx:=rfl
  rw[hb]
  generalize bgnF t.title tx=b at*
  refine sb [.tmp 6] (fn:=Tryz.f37) Tryz.func37 ?_
  intro Q hQ
  refine wk F ?_
  refine kq F (hcn _) ?_
  refine ee hQ F ?_
  exact bm hn hm (fun N=>.bool _) ⟨rfl,x,hx,rfl⟩
 by_cases k15:op=15
 ·subst k15
  have hck:∀Y,a+2≤Y.length→Sat (CT G) 77 [.hp (n+8) 0 0 0] (sa Y n s a x) (fun r h'=>r=.int .i64 s.clock∧h'=sa Y n s a x):=fun Y hm=>mP G s (by rw[bD hm];omega)
  have hb:leafF s t 15 num tx=decide (t.date>IntKind.i64.wrap (s.clock-IntKind.i64.wrap (num*86400))):=rfl
  rw[hb]
  refine sb [.tmp 6] (fn:=Tryz.f37) Tryz.func37 ?_
  intro Q hQ
  refine wk F ?_
  refine aJ (hck _ (hm1 _)) ?_
  try refine sq F ?_
  refine wk F ?_
  refine ee hQ F ?_
  exact bm hn hm (fun N=>.bool _) ⟨rfl,x,hx,rfl⟩
 have ho:op=1∨op=2∨op=6∨op=9∨op=10∨op=13∨op=14:=by omega
 clear ih ihk
 rcases ho with rfl|rfl|rfl|rfl|rfl|rfl|rfl
 all_goals (
  refine sb [.tmp 6] (fn:=Tryz.f37) Tryz.func37 ?_
  intro Q hQ
  refine wk F ?_
  refine ee hQ F ?_
  exact bm hn hm (fun N=>.bool _) ⟨by first|rfl| (congr 1;rw[Bool.eq_iff_iff];simp[leafF]),x,hx,rfl⟩)
end Go.Av
namespace Go.Av
open Go Go.Proofs Go.RowKit
attribute [local irreducible] WP WPl WPix Sat
def rI(v:Nat)(L:List It):Blk:=.row 49 9 v (L.map It.av)
theorem wH(v:Nat)(L:List It)(N:Nat):CloB N (rI v L):=fun c hc=>by obtain⟨y,_,rfl⟩:=List.mem_map.1 hc;exact It.clo _ y
def sI(Y:Heap)(n:Nat)(s:PS)(a:Nat)(x:ML Int (List Int)×Nat)(p v:Nat)(L:List It):Heap:=sa (ov Y p [rI v L]) n s a x
section
variable {Y:Heap} {n a p v:Nat} {s:PS} {x:ML Int (List Int)×Nat} {L:List It}
theorem fX(hp:p+1≤Y.length):(ov Y p [rI v L]).length=Y.length:=aH hp
@[go_sem] theorem r9(hn:n+9≤a)(ha:a+2≤p)(hp:p+1≤Y.length)(j:Heap):sI Y n s a x p v L++j=sI (Y++j) n s a x p v L:=by
 unfold sI;rw[wC hn (by rw[fX hp];omega),eB hp]
@[go_sem] theorem wI(hn:n+9≤a)(ha:a+2≤p)(hp:p+1≤Y.length):(sI Y n s a x p v L).length=Y.length:=by
 unfold sI;rw[wE hn (by rw[fX hp];omega),fX hp]
theorem lN(hn:n+9≤a)(ha:a+2≤p)(hp:p+1≤Y.length){q:Nat}(u:Nat)(hq:a+2≤q)(hne:q≠p):getRow (sI Y n s a x p v L) q u=getRow Y q u:=by
 unfold sI
 rw[r7 hn (by rw[fX hp];omega) u hq,gd u hp (by simp only[List.length_singleton];omega)]
@[go_sem] theorem jC(hn:n+9≤a)(ha:a+2≤p)(hp:p+1≤Y.length):getRow (sI Y n s a x p v L) p v=some (49,9,L.map It.av):=by
 unfold sI
 rw[r7 hn (by rw[fX hp];omega) v ha]
 have:=ld (H:=Y) (n:=p) (k:=0) (bs:=[rI v L]) v hp (by simp)
 rw[Nat.add_zero]at this
 rw[this];simp[getRow,rI]
theorem jD(hn:n+9≤a)(ha:a+2≤p)(hp:p+1≤Y.length)(L':List It):(sI Y n s a x p v L).set p (.row 49 9 v (L'.map It.av))=sI Y n s a x p v L':=by
 unfold sI
 rw[r8 hn (by rw[fX hp];omega) _ ha,jr _ hp (by simp)];rfl
theorem lO(hn:n+9≤a)(ha:a+2≤p)(hp:p+1≤Y.length){q:Nat}(b:Blk)(hq:a+2≤q)(hne:q≠p):(sI Y n s a x p v L).set q b=sI (Y.set q b) n s a x p v L:=by
 unfold sI
 rw[r8 hn (by rw[fX hp];omega) b hq,fG b hp (by simp only[List.length_singleton];omega)]
theorem jb{j:Heap}{y:ML Int (List Int)×Nat}{L':List It}{R:AVal→Heap→Prop}{r:AVal}(hn:n+9≤a)(ha:a+2≤p)(hp:p+1≤Y.length)(hc:Clo Y.length r)(hR:R r (sI Y n s a y p v L')):Fin (sI Y n s a x p v L) (sI (Y++j) n s a y p v L') R r:=by
 have hm:a+2≤Y.length:=by omega
 have e:∀(Y:Heap) (x:ML Int (List Int)×Nat) (L:List It),a+2≤Y.length→p+1≤Y.length→sI Y n s a x p v L=ov (ov (so Y n s) p [rI v L]) a [am x.1 x.2,ar n a]:=fun Y x L h1 h2=>by
  unfold sI sa
  rw[bU hn (by rw[fX h2];exact h1)]
  congr 1
  exact nc (bs:=s.bl n) (cs:=[rI v L]) (by show n+9≤Y.length;omega) h2 (.inl (by show n+9≤p;omega))
 have hl:(so Y n s).length=Y.length:=aF (by omega)
 rw[← r9 hn ha hp]
 rw[e _ _ _ hm hp]at hR ⊢
 rw[e _ _ _ hm hp]
 have hL:∀(x:ML Int (List Int)×Nat) (L:List It),(ov (ov (so Y n s) p [rI v L]) a [am x.1 x.2,ar n a]).length=Y.length:=fun x L=>by
  rw[aH (by rw[aH (by rw[hl];exact hp),hl];exact hm),aH (by rw[hl];exact hp),hl]
 refine Fin.keep (by rw[hL,hL]) (fun q k hk=>?_) (by rw[hL];exact hc) hR
 rw[hL]
 rw[aK (by rw[aH (by rw[hl];exact hp),hl];exact hm),aK (by rw[hl];exact hp)]at hk
 rw[aK (by rw[aH (by rw[hl];exact hp),hl];exact hm),aK (by rw[hl];exact hp)]
 simp only[List.length_cons,List.length_nil]at hk ⊢
 by_cases h1:a≤q∧q<a+2
 ·rw[if_pos h1]at hk
  refine .inr ?_
  have:=List.mem_of_getElem? hk
  simp only[List.mem_cons,List.not_mem_nil,or_false]at this
  rcases this with rfl|rfl
  ·exact j9 _ _ _
  ·exact ja hn hm
 ·rw[if_neg h1]at hk ⊢
  by_cases h2:p≤q∧q<p+1
  ·rw[if_pos h2]at hk
   refine .inr ?_
   have:=List.mem_of_getElem? hk
   simp only[List.mem_cons,List.not_mem_nil,or_false]at this
   subst this
   exact wH _ _ _
  ·rw[if_neg h2]at hk ⊢
   exact .inl hk
end
variable (G:Nat→Option (List AVal))
section
variable {Y:Heap} {n a p v:Nat} {s:PS}
theorem jc(hn:n+9≤a)(ha:a+2≤p)(hp:p+1≤Y.length)(f:It→Bool)(g:FuncId)(cap:List AVal)(L:List It)(hl:L.length≤1048576)
  (hg:∀t∈L,∀x,Gd s x→Sat (CT G) g ([]++[t.av]++cap) (sI Y n s a x p v L) (fun r h'=>r=.bool (f t)∧∃y,Gd s y∧h'=sI Y n s a y p v L))(x:ML Int (List Int)×Nat)(hx:Gd s x):
  Sat (CT G) 119 [.hs p v 0 L.length true,.fn (.func g) [] cap] (sI Y n s a x p v L) (fun r h'=>r=.int .i64 (ixQ f L)∧∃y,Gd s y∧h'=sI Y n s a y p v L):=by
 have hml:(L.map It.av).length=L.length:=List.length_map ..
 have F:=F4 hml hn ha hp
 refine sb [.tmp 4] (fn:=Tryz.f119) Tryz.func119 ?_
 intro Q hQ
 refine wk F ?_
 refine lm (fun nL tL hL=>∃(k:Nat) (z:ML Int (List Int)×Nat),L.length-k=nL∧sI Y n s a z p v L=hL∧tL 8=.int .i64 k∧k≤L.length∧Gd s z∧(∀t∈L.take k,f t=false)) ((fun(k:Nat) (z:ML Int (List Int)×Nat)=>(L.length-k:Nat)) (0) (x)) ?_ ?_
 ·refine Wkn.refl ⟨0,x,rfl,aD,?_,Nat.zero_le _,hx,by simp⟩
  all_goals first|exact zq F|rfl|omega|trivial|skip
 rintro _ s2 h' ⟨k,z,rfl,rfl,e8,hk,hz,hq⟩ K2 hK2
 simp only[aj,ao,Nat.reduceEqDiff, ↓reduceIte]at e8
 have F:=F2 F e8
 refine wk F ?_
 refine cq F (fun c1=>?_) (fun c1=>?_)<;>(try exact c1.elim)<;>(refine wk F ?_)
 ·have c2:k<L.length:=by omega
  obtain⟨y,hy,hym⟩:=af c2
  have hc:=hg y hym z hz
  cases he:f y with
  |true=>
   have e:=fL hy he hq
   rw[he]at hc
   clear he
   have F:=F3 F hy c2
   try refine sq F ?_
   refine wk F ?_
   refine hc.mono ?_
   rintro r h' ⟨rfl,u,hu,rfl⟩
   try refine sq F ?_
   refine wk F ?_
   refine ee hQ F ?_
   have:=jb (j:=[]) (x:=x) (L:=L) (s:=s) (R:=fun r h'=>r=.int .i64 (ixQ f L)∧∃y,Gd s y∧h'=sI Y n s a y p v L) (r:=.int .i64 k) hn ha hp (.int _ _) (v:=v) (L':=L) (y:=u) ⟨by rw[e],u,hu,rfl⟩
   rwa [List.append_nil]at this
  |false=>
   have hp1:=iW hy he hq
   rw[he]at hc
   clear he
   have F:=F3 F hy c2
   try refine sq F ?_
   refine wk F ?_
   refine hc.mono ?_
   rintro r h' ⟨rfl,u,hu,rfl⟩
   try refine sq F ?_
   refine wk F ?_
   refine hK2 _ _ _ (Wkn.refl ⟨k+1,u,rfl,aD,?_,by omega,hu,hp1⟩) (by omega)
   all_goals first|exact zq F|rfl|omega|trivial|skip
 ·have e:=fM (p:=f) (l:=L) fun b hb=>hq b (by rwa [List.take_of_length_le (by omega)])
  refine ee hQ F ?_
  have:=jb (j:=[]) (x:=x) (L:=L) (s:=s) (R:=fun r h'=>r=.int .i64 (ixQ f L)∧∃y,Gd s y∧h'=sI Y n s a y p v L) (r:=.int .i64 (-1)) hn ha hp (.int _ _) (v:=v) (L':=L) (y:=z) ⟨by rw[e],z,hz,rfl⟩
  rwa [List.append_nil]at this
theorem tH{f:It→Bool}{L:List It}(h:ixQ f L= -1):L.filter (fun t=> !f t)=L:=by
 unfold ixQ at h
 split at h
 ·omega
 ·rename_i hn
  rw[List.findIdx?_eq_none_iff]at hn
  exact List.filter_eq_self.2 fun k hk=>by rw[hn k hk];rfl
theorem tI{f:It→Bool}{L:List It}(h:ixQ f L≠ -1):∃i:Nat,ixQ f L=(i:Int)∧i<L.length∧(L.take (i+1)).filter (fun t=> !f t)=L.take i:=by
 unfold ixQ at h ⊢
 split at h
 ·rename_i i hi
  obtain⟨h1,h2,h3⟩:=List.findIdx?_eq_some_iff_getElem.1 hi
  refine⟨i,by simp,h1,?_⟩
  rw[List.take_add_one,List.getElem?_eq_getElem h1,List.filter_append]
  have e:(L.take i).filter (fun k=> !f k)=L.take i:=List.filter_eq_self.2 fun k hk=>by
   obtain⟨j,hj⟩:=List.getElem?_of_mem hk
   have hlt:=(List.getElem?_eq_some_iff.1 hj).1
   rw[List.length_take]at hlt
   rw[List.getElem?_take_of_lt (by omega)]at hj
   have:=h3 j (by omega)
   have hjl:j<L.length:=by omega
   rw[List.getElem?_eq_getElem hjl]at hj;cases hj
   simpa using this
  rw[e];simp[h2]
 ·exact absurd rfl h
theorem tJ(hn:n+9≤a)(ha:a+2≤p)(hp:p+1≤Y.length)(f:It→Bool)(g:FuncId)(cap:List AVal)(l:List It)(hl:l.length≤1048576)
  (hg:∀t∈l,∀x,Gd s x→∀(j:Heap) (L:List It),Sat (CT G) g ([]++[t.av]++cap) (sI (Y++j) n s a x p v L) (fun r h'=>r=.bool (f t)∧∃y,Gd s y∧h'=sI (Y++j) n s a y p v L))(x:ML Int (List Int)×Nat)(hx:Gd s x):
  Sat (CT G) 67 [.hs p v 0 l.length true,.fn (.func g) [] cap] (sI Y n s a x p v l)
   (fun r h'=>r=.hs p v 0 (l.filter (fun t=> !f t)).length true∧∃y,Gd s y∧h'=sI Y n s a y p v (l.filter (fun t=> !f t))):=by
 have hg0:=fun t ht x hx=>hg t ht x hx [] l
 simp only[List.append_nil]at hg0
 have hpj:∀j:Heap,p+1≤(Y++j).length:=fun j=>by simp;omega
 by_cases hi:ixQ f l= -1
 ·rw[tH hi]
  have hI:=jc G hn ha hp f g cap l hl hg0 x hx
  rw[hi]at hI
  refine sb [.tmp 4] (fn:=Tryz.f67) Tryz.func67 ?_
  intro Q hQ
  refine wk trivial ?_
  refine hI.mono ?_
  rintro r h' ⟨rfl,u,hu,rfl⟩
  try refine sq trivial ?_
  refine wk trivial ?_
  refine ee hQ trivial ?_
  have:=jb (j:=[]) (x:=x) (L:=l) (s:=s) (R:=fun r h'=>r=.hs p v 0 l.length true∧∃y,Gd s y∧h'=sI Y n s a y p v l) (r:=.hs p v 0 l.length true) hn ha hp (.hs _ _ _ _ _ (by omega)) (v:=v) (L':=l) (y:=u) ⟨rfl,u,hu,rfl⟩
  rwa [List.append_nil]at this
 ·obtain⟨i0,hi0,hil,hf0⟩:=tI hi
  have hI:=jc G hn ha hp f g cap l hl hg0 x hx
  rw[hi0]at hI
  have hne:(((i0:Nat):Int)== -1)=false:=by rw[beq_eq_false_iff_ne];omega
  have F:=F5 hne hn ha hp hpj
  refine sb [.tmp 4] (fn:=Tryz.f67) Tryz.func67 ?_
  intro Q hQ
  refine wk F ?_
  refine hI.mono ?_
  rintro r h' ⟨rfl,u,hu,rfl⟩
  try refine sq F ?_
  refine wk F ?_
  refine lm (fun nL tL hL=>∃(i k:Nat) (L:List It) (J:Heap) (z:ML Int (List Int)×Nat),l.length-k=nL∧sI (Y++J) n s a z p v L=hL∧tL 5=.int .i64 i∧tL 6=.int .i64 k∧Gd s z∧L.length=l.length∧i<k∧k≤l.length∧L.take i=(l.take k).filter (fun t=> !f t)∧L.drop k=l.drop k) ((fun(i k:Nat) (L:List It) (J:Heap) (z:ML Int (List Int)×Nat)=>(l.length-k:Nat)) (i0) (i0+1) (l) ([]) (u)) ?_ ?_
  ·refine Wkn.refl ⟨i0,i0+1,l,[],u,rfl,by rw[List.append_nil],?_,?_,hu,rfl,by omega,by omega,hf0.symm,rfl⟩
   all_goals first|exact zq F|rfl|omega|trivial|skip
  rintro _ s2 h' ⟨i,k,L,J,z,rfl,rfl,e5,e6,hz,hL,hij,hk,h1,h2⟩ K2 hK2
  simp only[aj,ao,Nat.reduceEqDiff, ↓reduceIte]at e5 e6
  have F:=F3 F e5 e6
  refine wk F ?_
  refine cq F (fun c1=>?_) (fun c1=>?_)<;>(try exact c1.elim)<;>(refine wk F ?_)
  ·have c2:k<L.length:=by omega
   obtain⟨y,hy,hym⟩:=af c2
   obtain⟨x1,hx1,_⟩:=af (show i<L.length by omega)
   have hyl:l[k]? =some y:=by
    have:=congrArg (·[0]?) h2
    simp only[List.getElem?_drop,Nat.add_zero]at this
    rw[← this];exact hy
   have hd:L.drop (k+1)=l.drop (k+1):=by
    have:=congrArg (List.drop 1) h2
    rwa [List.drop_drop,List.drop_drop]at this
   have ht:(l.take (k+1)).filter (fun t=> !f t)=(l.take k).filter (fun t=> !f t)++[y].filter (fun t=> !f t):=by rw[List.take_add_one,hyl,List.filter_append];rfl
   have c3:i<L.length:=by omega
   have c4:i<l.length:=by omega
   have c5:k<l.length:=by omega
   have hgy:=fun j=>hg y (List.mem_of_getElem? hyl) z hz j L
   have hsp:∀(Y:Heap) (x:ML Int (List Int)×Nat),p+1≤Y.length→(sI Y n s a x p v L).set p (.row 49 9 v ((L.map It.av).set i (.agg [.int .i64 y.id,.int .i64 y.feed,.int .i64 y.date,.str y.guid,.str y.title,.str y.link,.bool y.read,.bool y.star,.sl 1 (y.tags.map .str)])))=sI Y n s a x p v (L.set i y):=fun Y x hp=>by
    rw[show AVal.agg [.int .i64 y.id,.int .i64 y.feed,.int .i64 y.date,.str y.guid,.str y.title,.str y.link,.bool y.read,.bool y.star,.sl 1 (y.tags.map .str)]=It.av y from rfl, ← List.map_set]
    exact jD hn ha hp _
   have hrr:∀(J:Heap) (x:ML Int (List Int)×Nat) (b:Blk),getRow (sI (Y++(J++[b])) n s a x p v L) (Y.length+J.length) 0=getRow [b] 0 0:=fun J x b=>by
    rw[lN hn ha (hpj _) 0 (by omega) (by omega),bg _ rfl, ← Nat.add_zero J.length,bg _ rfl]
   have hst:∀(J:Heap) (x:ML Int (List Int)×Nat) (b b':Blk),(sI (Y++(J++[b])) n s a x p v L).set (Y.length+J.length) b'=sI (Y++(J++[b'])) n s a x p v L:=fun J x b b'=>by
    rw[lO hn ha (hpj _) _ (by omega) (by omega),la _ rfl,ca _ rfl];rfl
   have F:=vL F hy hx1 c4 c5 hL hsp hrr hst @ap
   try refine sq F ?_
   refine wk F ?_
   refine(hgy _).mono ?_
   rintro r h' ⟨rfl,u2,hu2,rfl⟩
   try refine sq F ?_
   refine wk F ?_
   refine cq F (fun c6=>?_) (fun c6=>?_)<;>(try exact c6.elim)<;>(refine wk F ?_)
   ·have hpy:f y=false:=by simpa using c6
    have e1:(L.set i y).take (i+1)=(l.take (k+1)).filter (fun t=> !f t):=by
     rw[ht, ← h1,List.take_add_one,List.take_set_of_le (Nat.le_refl _),List.getElem?_set_self c3];simp[hpy]
    have e2:(L.set i y).drop (k+1)=l.drop (k+1):=by rw[List.drop_set_of_lt (by omega)];exact hd
    refine hK2 _ _ _ (Wkn.refl ⟨i+1,k+1,L.set i y,J++[.row 49 9 0 [y.av]],u2,rfl,by rw[It.av],?_,?_,hu2,by simp[hL],by omega,by omega,e1,e2⟩) (by omega)
    all_goals first|exact zq F|rfl|omega|trivial|skip
   ·have hpy:f y=true:=by simpa using c6
    have e1:L.take i=(l.take (k+1)).filter (fun t=> !f t):=by rw[ht, ← h1];simp[hpy]
    refine hK2 _ _ _ (Wkn.refl ⟨i,k+1,L,J++[.row 49 9 0 [y.av]],u2,rfl,by rw[It.av],?_,?_,hu2,hL,by omega,by omega,e1,hd⟩) (by omega)
    all_goals first|exact zq F|rfl|omega|trivial|skip
  ·have ej:k=l.length:=by omega
   rw[ej,List.take_length]at h1
   have hil2:i<L.length:=by omega
   have hlf:(l.filter (fun t=> !f t)).length=i:=by rw[← h1,List.length_take];omega
   have hlt:p<(sI (Y++J) n s a z p v L).length:=by rw[wI hn ha (hpj _)];exact hpj _
   have s1:=oc (P:=Tryz.prog) (h:=sI (Y++J) n s a z p v L) (T:=33) (off:=0) (len:=l.length) (i:=i) (k:=.i64) (e:=49) (by simp only[go_sem]) (by simp only[go_sem]) (jC hn ha (hpj _)) (by omega)
   have hcut:(sI (Y++J) n s a z p v L).set p (.row 49 9 v ((L.map It.av).take i))=sI (Y++J) n s a z p v (l.filter (fun t=> !f t)):=by rw[← List.map_take,h1,jD hn ha (hpj _)]
   have twB':=od (P:=Tryz.prog) (h:=sI (Y++J) n s a z p v (l.filter (fun t=> !f t))) (T:=33) (off:=0) (len:=l.length) (i:=i) (k:=.i64) (e:=49) (by simp only[go_sem]) (by simp only[go_sem]) (jC hn ha (hpj _)) (by omega)
   rw[Nat.zero_add]at s1
   have hli:0<l.length-i:=by omega
   have hLl:(L.map It.av).length=i+(l.length-i):=by rw[List.length_map];omega
   have F:=F6 F s1 @twB' hli hLl @hcut
   try refine sq F ?_
   refine wk F ?_
   refine ee hQ F ?_
   exact jb hn ha hp (.hs _ _ _ _ _ (by omega)) ⟨by rw[hlf],z,hz,rfl⟩
end
end Go.Av
namespace Go.Proofs
open Go.Shelf
def Tryz.sortIt_ren:Go.Shelf.Ren:=⟨fun|6=>69|15=>121|14=>120|28=>169|29=>170|20=>161|21=>162|22=>163|23=>164|24=>165|25=>166|26=>167|27=>168|46=>204|47=>205|48=>206|49=>207|50=>208|57=>240|n=>n,fun|22=>33|24=>49|25=>105|3=>3|39=>164|0=>0|53=>198|55=>200|4=>4|46=>192|45=>191|50=>153|5=>5|9=>9|66=>215|70=>219|76=>240|77=>241|n=>n,fun|n=>n⟩
theorem Tryz.sortIt:Go.Proofs.SlLaysF0.n6 Tryz.prog Tryz.sortIt_ren:= {
 mixed:=by kernel_rfl
 f6:=⟨Tryz.f69.name,by decide,Tryz.func69.trans (congrArg some (by kernel_rfl))⟩
 f14:=⟨Tryz.f120.name,by decide,Tryz.func120.trans (congrArg some (by kernel_rfl))⟩
 f15:=Tryz.func121.trans (congrArg some (by kernel_rfl))
 f20:=⟨Tryz.f161.name,by decide,Tryz.func161.trans (congrArg some (by kernel_rfl))⟩
 f21:=⟨Tryz.f162.name,by decide,Tryz.func162.trans (congrArg some (by kernel_rfl))⟩
 f22:=⟨Tryz.f163.name,by decide,Tryz.func163.trans (congrArg some (by kernel_rfl))⟩
 f23:=⟨Tryz.f164.name,by decide,Tryz.func164.trans (congrArg some (by kernel_rfl))⟩
 f24:=⟨Tryz.f165.name,by decide,Tryz.func165.trans (congrArg some (by kernel_rfl))⟩
 f25:=⟨Tryz.f166.name,by decide,Tryz.func166.trans (congrArg some (by kernel_rfl))⟩
 f26:=⟨Tryz.f167.name,by decide,Tryz.func167.trans (congrArg some (by kernel_rfl))⟩
 f27:=⟨Tryz.f168.name,by decide,Tryz.func168.trans (congrArg some (by kernel_rfl))⟩
 f28:=Tryz.func169.trans (congrArg some (by kernel_rfl))
 f29:=Tryz.func170.trans (congrArg some (by kernel_rfl))
 f46:=⟨Tryz.f204.name,by decide,Tryz.func204.trans (congrArg some (by kernel_rfl))⟩
 f47:=Tryz.func205.trans (congrArg some (by kernel_rfl))
 f48:=Tryz.func206.trans (congrArg some (by kernel_rfl))
 f49:=⟨Tryz.f207.name,by decide,Tryz.func207.trans (congrArg some (by kernel_rfl))⟩
 f50:=⟨Tryz.f208.name,by decide,Tryz.func208.trans (congrArg some (by kernel_rfl))⟩
 f57:=⟨Tryz.f240.name,by decide,Tryz.func240.trans (congrArg some (by kernel_rfl))⟩
 t0:=Tryz.underlying0
 a0:=Tryz.isAgg0
 z0:=Tryz.sizeOf0
 v0:=Tryz.zeroValue0
 t3:=Tryz.underlying3
 a3:=Tryz.isAgg3
 z3:=Tryz.sizeOf3
 v3:=Tryz.zeroValue3
 t4:=Tryz.underlying4
 a4:=Tryz.isAgg4
 z4:=Tryz.sizeOf4
 v4:=Tryz.zeroValue4
 t5:=Tryz.underlying5
 a5:=Tryz.isAgg5
 z5:=Tryz.sizeOf5
 v5:=Tryz.zeroValue5
 t9:=Tryz.underlying9
 a9:=Tryz.isAgg9
 z9:=Tryz.sizeOf9
 v9:=Tryz.zeroValue9
 t22:=Tryz.underlying33
 a22:=Tryz.isAgg33
 z22:=Tryz.sizeOf33
 v22:=Tryz.zeroValue33
 t25:=Tryz.underlying105
 a25:=Tryz.isAgg105
 z25:=Tryz.sizeOf105
 v25:=Tryz.zeroValue105
 t39:=Tryz.underlying164
 a39:=Tryz.isAgg164
 z39:=Tryz.sizeOf164
 v39:=Tryz.zeroValue164
 t45:=Tryz.underlying191
 a45:=Tryz.isAgg191
 z45:=Tryz.sizeOf191
 v45:=Tryz.zeroValue191
 t46:=Tryz.underlying192
 a46:=Tryz.isAgg192
 z46:=Tryz.sizeOf192
 v46:=Tryz.zeroValue192
 t50:=Tryz.underlying153
 a50:=Tryz.isAgg153
 z50:=Tryz.sizeOf153
 v50:=Tryz.zeroValue153
 t53:=Tryz.underlying198
 a53:=Tryz.isAgg198
 z53:=Tryz.sizeOf198
 v53:=Tryz.zeroValue198
 t55:=Tryz.underlying200
 a55:=Tryz.isAgg200
 z55:=Tryz.sizeOf200
 v55:=Tryz.zeroValue200
 t66:=Tryz.underlying215
 a66:=Tryz.isAgg215
 z66:=Tryz.sizeOf215
 v66:=Tryz.zeroValue215
 t70:=Tryz.underlying219
 a70:=Tryz.isAgg219
 z70:=Tryz.sizeOf219
 v70:=Tryz.zeroValue219
 t76:=Tryz.underlying240
 a76:=Tryz.isAgg240
 z76:=Tryz.sizeOf240
 v76:=Tryz.zeroValue240
 t77:=Tryz.underlying241
 a77:=Tryz.isAgg241
 z77:=Tryz.sizeOf241
 v77:=Tryz.zeroValue241}
end Go.Proofs
namespace Go.Av
open Go Go.Proofs Go.RowKit Go.Sort Go.Shelf
attribute [local irreducible] WP WPl WPix Sat
structure Ro where
 t:It
 v:Value
 one:v.oneCell'=true
instance:Inhabited Ro:=⟨⟨It.z,.bool false,rfl⟩⟩
def Ro.enc(x:Ro):List Value:=[.int .i64 x.t.id,.int .i64 x.t.feed,.int .i64 x.t.date,.string ⟨x.t.guid.toArray⟩,.string ⟨x.t.title.toArray⟩,.string ⟨x.t.link.toArray⟩,.bool x.t.read,.bool x.t.star,x.v]
def Ro.cf(x y:Ro):Int:=if cmpW y.t.date x.t.date=0 then cmpW x.t.id y.t.id else cmpW y.t.date x.t.date
theorem Ro.lt(x y:Ro):ltOf Ro.cf x y=ahd x.t.ky y.t.ky:=by
 unfold ltOf Ro.cf cmpW
 rw[Bool.eq_iff_iff,dz,decide_eq_true_eq]
 show _↔y.t.date<x.t.date∨x.t.date=y.t.date∧x.t.id<y.t.id
 split<;>split<;>(try split)<;>omega
theorem Ro.swo:SWO (ltOf Ro.cf) where
 irrefl x:=by rw[Ro.lt];exact ng _
 trans x y z h1 h2:=by rw[Ro.lt]at *;exact fI h1 h2
 ntrans x y z h1 h2:=by rw[Ro.lt]at *;rw[gf]at *;omega
theorem Ro.lays(blk off size:Nat)(w:World):CmpLays Tryz.prog 53 #[] Ro.enc 9 Ro.cf blk off size w:=fun _ _ _ _ x y=>u4 x.t.id x.t.date y.t.id y.t.date x.t.feed y.t.feed _ _ _ _ _ _ x.t.read x.t.star y.t.read y.t.star x.v y.v _
def mkRo(t:It)(v:Value):Ro:=if h:v.oneCell'=true then⟨t,v,h⟩else⟨t,.bool false,rfl⟩
theorem lP(t:It)(v:Value):(mkRo t v).t=t:=by unfold mkRo;split<;>rfl
theorem ra{t:It}{v:Value}(h:v.oneCell'=true):(mkRo t v).v=v:=by unfold mkRo;rw[dif_pos h]
theorem lQ{α:Type}{l:List α}{p:Nat}{x:α}(h:l[p]? =some x):l.set p x=l:=by
 apply List.ext_getElem?
 intro q
 rw[List.getElem?_set]
 split
 ·rename_i e;subst e;rw[if_pos (List.getElem?_eq_some_iff.1 h).1,h]
 ·rfl
section
variable {C:Ctx} {B:Nat} {S:Addr→Prop} {μ:Map} {h:Heap} {w w':World}
theorem tK(f:Fits C B S μ h w){p:Nat}{m:MB}(hm:μ[p]? =some m)(o:Only w w' m.blk){e n g:Nat}{rows:List AVal}{Z:Array Value}(hb:m.blk=some g)(hs:m.size=n)
  (hn:0<n)(hh:w'.heap[g]? =some (.cells Z e (0,0)))(hz:Z.size=m.cap*n)(hl:0<m.cap∧rows.length≤m.cap)(hx:m.cap≤maxLen)(fl:Flat w S μ n rows (Z.toList.take (rows.length*n))):
  Step B S μ w S μ w'∧Fits C B S μ (h.set p (.row e n m.ver rows)) w':=by
 have st0:=bn f hm o (MapLe.refl μ)
 have hset:μ.set p m=μ:=lQ hm
 have hrf:BlkFits w' S (μ.set p m) m (.row e n m.ver rows):=by
  rw[hset];exact bM hn rfl hs hb hh hz hl hx (fl.mono st0) rfl
 have:=f.update (m':=m) hm o (Nat.le_refl _) (fun _=>rfl) (.inl rfl) hrf
 rw[hset]at this
 exact⟨this.2,this.1⟩
theorem Flat.it{L:List It}{xs:List Value}(fl:Flat w S μ 9 (L.map It.av) xs){i:Nat}{t:It}(hi:L[i]? =some t):
  ∃v,v.oneCell'=true∧Rep w S μ (.sl 1 (t.tags.map .str)) v∧xs[i*9+8]? =some v∧∀j,j<9→xs[i*9+j]? =(Ro.enc (mkRo t v))[j]? :=by
 have hr:(L.map It.av)[i]? =some t.av:=by rw[List.getElem?_map,hi];rfl
 obtain⟨v,hv,rv⟩:=fl.rep i _ 8 _ hr rfl
 have h1:v.oneCell'=true:=rv.oneCell (fl.sto i _ 8 _ hr rfl)
 refine⟨v,h1,rv,hv,fun j hj=>?_⟩
 unfold Ro.enc
 rw[lP,ra h1]
 match j,hj with
 |0,_=>obtain⟨x,hx,rx⟩:=fl.rep i _ 0 _ hr rfl;rw[hx,rx.int_inv];rfl
 |1,_=>obtain⟨x,hx,rx⟩:=fl.rep i _ 1 _ hr rfl;rw[hx,rx.int_inv];rfl
 |2,_=>obtain⟨x,hx,rx⟩:=fl.rep i _ 2 _ hr rfl;rw[hx,rx.int_inv];rfl
 |3,_=>obtain⟨x,hx,rx⟩:=fl.rep i _ 3 _ hr rfl;rw[hx,rx.str_inv];rfl
 |4,_=>obtain⟨x,hx,rx⟩:=fl.rep i _ 4 _ hr rfl;rw[hx,rx.str_inv];rfl
 |5,_=>obtain⟨x,hx,rx⟩:=fl.rep i _ 5 _ hr rfl;rw[hx,rx.str_inv];rfl
 |6,_=>obtain⟨x,hx,rx⟩:=fl.rep i _ 6 _ hr rfl;rw[hx,rx.bool_inv];rfl
 |7,_=>obtain⟨x,hx,rx⟩:=fl.rep i _ 7 _ hr rfl;rw[hx,rx.bool_inv];rfl
 |8,_=>rw[hv];rfl
 |j+9,h=>omega
theorem Flat.ofRo{D:List Ro}{xs:List Value}(hx:xs.length=D.length*9)(hr:∀x∈D,Rep w S μ (.sl 1 (x.t.tags.map .str)) x.v)(hc:∀(i:Nat) (x:Ro) (j:Nat),D[i]? =some x→j<9→xs[i*9+j]? =x.enc[j]?):
  Flat w S μ 9 ((D.map (·.t)).map It.av) xs:=by
 have hg:∀{i:Nat} {r:AVal},((D.map (·.t)).map It.av)[i]? =some r→∃x,D[i]? =some x∧r=x.t.av:=fun {i r} hi=>by
  rw[List.map_map,List.getElem?_map]at hi
  obtain⟨x,h1,h2⟩:=Option.map_eq_some_iff.1 hi
  exact⟨x,h1,h2.symm⟩
 refine⟨by simpa using hx,fun i r hi=>?_,fun i r j c hi hj=>?_,fun i r j c hi hj=>?_⟩
 ·obtain⟨x,_,rfl⟩:=hg hi;rfl
 ·obtain⟨x,_,rfl⟩:=hg hi
  exact x.t.cells_sto c (List.mem_of_getElem? hj)
 ·obtain⟨x,hx1,rfl⟩:=hg hi
  have hj9:j<9:=(List.getElem?_eq_some_iff.1 hj).1
  rw[hc i x j hx1 hj9]
  have hm:=hr x (List.mem_of_getElem? hx1)
  match j,hj9 with
  |0,_=>cases hj;exact⟨_,rfl,.int _ _⟩
  |1,_=>cases hj;exact⟨_,rfl,.int _ _⟩
  |2,_=>cases hj;exact⟨_,rfl,.int _ _⟩
  |3,_=>cases hj;exact⟨_,rfl,.str _⟩
  |4,_=>cases hj;exact⟨_,rfl,.str _⟩
  |5,_=>cases hj;exact⟨_,rfl,.str _⟩
  |6,_=>cases hj;exact⟨_,rfl,.bool _⟩
  |7,_=>cases hj;exact⟨_,rfl,.bool _⟩
  |8,_=>cases hj;exact⟨_,rfl,hm⟩
  |j+9,h=>omega
end
theorem lR{d:Array Ro}{i j:Nat}{x:Ro}(hi:d[i]? =some x)(hj:j<9):(flatK Ro.enc 9 d)[i*9+j]? =x.enc[j]? :=by
 obtain⟨hlt,hx⟩:=Array.getElem?_eq_some_iff.1 hi
 have ht:i*9+j<d.size*9:=by omega
 have hs:i*9+j<(flatK Ro.enc 9 d).size:=by rw[size_flatK];exact ht
 have:=get_flatK Ro.enc 9 d (i*9+j) ht
 rw[getElem!_pos (flatK Ro.enc 9 d) (i*9+j) hs]at this
 rw[Array.getElem?_eq_getElem hs,this,show(i*9+j)/9=i by omega,show(i*9+j)%9=j by omega,getElem!_pos d i hlt,hx]
 have hl:j<x.enc.length:=hj
 rw[getElem!_pos x.enc j hl,List.getElem?_eq_getElem hl]
theorem mU{F cur:Array Value}{t:Nat}(ht:t<F.size)(hc:F.size≤cur.size):(putCells id 0 F cur)[t]? =F[t]? :=by
 unfold putCells
 rw[Array.getElem?_mapIdx,Array.getElem?_eq_getElem (by omega),Option.map_some,if_pos ⟨by omega,by omega⟩,Array.getElem?_eq_getElem ht,Nat.sub_zero,getElem!_pos F t ht];rfl
variable (G:Nat→Option (List AVal))
theorem rb(L:List It)(hl:L.length≤100000)(h:Heap)(p v:Nat)(hp:getRow h p v=some (49,9,L.map It.av)):
  Sat (CT G) 69 [.hs p v 0 L.length true,.fn (.func 53) [] []] h
   (fun r h'=>r=.tup []∧∃L':List It,L'.Perm L∧L'.Pairwise (fun a b=>ahd b.ky a.ky=false)∧h'=h.set p (.row 49 9 v (L'.map It.av))):=by
 unfold Sat
 intro B S μ w us fit rl
 obtain⟨hul,hur⟩:=rl
 match us,hul,hur with
 | [u0,u1],_,hur=>
  have r0:Rep w S μ (.hs p v 0 L.length true) u0:=hur 0 _ rfl
  have r1:Rep w S μ (.fn (.func 53) [] []) u1:=hur 1 _ rfl
  obtain rfl:u1=.func (.func 53) #[] #[]:=by
   cases r1 with
   |fn _ _ _ xv cv h1 h2 h3 h4=>
    match xv,cv,h1,h2 with
    | [],[],_,_=>rfl
  obtain⟨m,hm,hf⟩:=fit.row hp
  have hver:=hf.hver
  have hsz9:=hf.hsize
  have rT:∀w':World,Rep w' S μ (.tup []) (.tuple #[]):=fun w'=>by simpa using Rep.tup (w:=w') (S:=S) (μ:=μ) [] [] rfl (fun i c hi=>by simp at hi)
  change OpOk Tryz.prog _ ((callFunc 69 #[_,_]).run Tryz.prog w)
  rw[bG (f:=69) Tryz.func69 rfl rfl]
  rcases r0.hs_now hm hver with⟨_,_,hl0,rfl⟩| ⟨b,hb,hcap,rfl⟩
  ·have hnil:L=[]:=List.length_eq_zero_iff.1 hl0
   subst hnil
   have hcon:=AnyF.slices_SortFunc_none Tryz.sortIt none 0 (.func (.func 53) #[] #[]) w
   change Calls Tryz.prog 69 _ _ _ at hcon
   refine hcon.mono fun e w' ⟨he,hw⟩=>⟨_,he,?_⟩
   subst hw
   exact⟨.tup [],h,S,μ,⟨rfl,[],.refl _,.nil,(lQ (bR hp)).symm⟩,Step.refl _ _ _ _,fit,rT _⟩
  ·obtain⟨cur,hheap,hcs,hle,hmax,fl⟩:=hf.flat hb
   have hlm:(L.map It.av).length=L.length:=List.length_map ..
   rw[hlm]at fl hle
   obtain⟨D,hD⟩:∃D:List Ro,D=L.mapIdx fun i t=>mkRo t ((cur.toList.take (L.length*9)).getD (i*9+8) undef):=⟨_,rfl⟩
   have hDl:D.length=L.length:=by rw[hD];simp
   have hDt:D.map (·.t)=L:=by
    rw[hD]
    apply List.ext_getElem?
    intro i
    rw[List.getElem?_map,List.getElem?_mapIdx]
    cases L[i]? with
    |none=>rfl
    |some t=>simp[lP]
   have hDi:∀i x,D[i]? =some x→Rep w S μ (.sl 1 (x.t.tags.map .str)) x.v∧∀j,j<9→cur[i*9+j]? =x.enc[j]? :=fun i x hi=>by
    rw[hD,List.getElem?_mapIdx]at hi
    obtain⟨t,ht,rfl⟩:=Option.map_eq_some_iff.1 hi
    obtain⟨u,h1,h2,h3,h4⟩:=fl.it ht
    have hlt:=(List.getElem?_eq_some_iff.1 ht).1
    rw[List.getD_eq_getElem?_getD,h3,Option.getD_some]
    refine⟨by rw[lP,ra h1];exact h2,fun j hj=>?_⟩
    rw[← h4 j hj,List.getElem?_take_of_lt (by omega)];simp
   have hDs:D.toArray.size=L.length:=by simp[hDl]
   have hc9:L.length*9≤cur.size:=by rw[hcs];exact Nat.mul_le_mul_right _ hle.2
   have hH:HoldsK Ro.enc 9 w b 0 D.toArray:=fun t ht=>by
    rw[size_flatK,hDs]at ht
    have hi:t/9<D.length:=by omega
    have hx:D[t/9]? =some D[t/9]:=List.getElem?_eq_getElem hi
    obtain⟨_,h2⟩:=hDi _ _ hx
    have h3:=h2 (t%9) (by omega)
    rw[show t/9*9+t%9=t by omega]at h3
    have h4:=lR (d:=D.toArray) (i:=t/9) (j:=t%9) (x:=D[t/9]) (by simp[hx]) (by omega)
    rw[show t/9*9+t%9=t by omega]at h4
    have hs:t<(flatK Ro.enc 9 D.toArray).size:=by rw[size_flatK,hDs];exact ht
    refine⟨?_,by simp[World.frozen?,hheap]⟩
    rw[getElem!_pos (flatK Ro.enc 9 D.toArray) t hs]
    show w.cell? ⟨b,0+t,none⟩=some _
    rw[Nat.zero_add]
    have:w.cell? ⟨b,t,none⟩=cur[t]? :=by simp[World.cell?,hheap]
    rw[this,h3, ← h4,Array.getElem?_eq_getElem hs];rfl
   have hbw:b<w.heap.size:=(Array.getElem?_eq_some_iff.1 hheap).1
   have hcon:=AnyQ.slices_SortFunc Tryz.sortIt 9 Tryz.isAgg49 Tryz.sizeOf49 Ro.enc (fun _=>rfl) (fun x v hv=>by
    unfold Ro.enc at hv
    simp only[List.mem_cons,List.not_mem_nil,or_false]at hv
    rcases hv with rfl|rfl|rfl|rfl|rfl|rfl|rfl|rfl|rfl<;>first|rfl|exact x.one) Ro.cf Ro.swo 53 #[] b 0 m.cap D.toArray w (enters_of Tryz.func53 (by kernel_rfl) rfl) (Ro.lays b 0 _ w) hH hbw (by rw[hDs];omega)
   change Calls Tryz.prog 69 _ _ _ at hcon
   rw[hDs]at hcon
   simp only[if_true,Nat.sub_zero,Nat.zero_mul]
   refine hcon.mono fun e w' ⟨he,d',n,os,hpm,hst,hw⟩=>⟨_,he,?_⟩
   have hds:d'.size=L.length:=by rw[hpm.1,hDs]
   have hperm:d'.toList.Perm D:=by
    have:=hpm.2.2
    have e1:d'.extract 0 L.length=d':=by rw[← hds];simp
    have e2:D.toArray.extract 0 L.length=D.toArray:=by rw[← hDs];simp
    rw[e1,e2]at this
    simpa using this
   have hwh:w'.heap[b]? =some (.cells (putCells id 0 (flatK Ro.enc 9 d') cur) 49 (0,0)):=by
    rw[hw]
    unfold sortWorldK grow putRowK putRow mapBlock
    rw[Array.getElem?_append_left (by simp[ahead];exact hbw)]
    simp[Array.getElem?_modify,ahead,hheap,onCells]
   have hon:Only w w' (some b):=by
    rw[hw]
    unfold sortWorldK grow putRowK putRow mapBlock
    refine⟨rfl,rfl,rfl,by simp[ahead],fun k hk hq=>?_⟩
    have hkb:b≠k:=fun e=>hq (by rw[e])
    rw[Array.getElem?_append_left (by simp[ahead];exact hk)]
    simp[Array.getElem?_modify,ahead,hkb]
   have hL'l:(d'.toList.map (·.t)).length=L.length:=by simp[hds]
   have hZs:(putCells id 0 (flatK Ro.enc 9 d') cur).size=cur.size:=by unfold putCells;simp
   have hFs:(flatK Ro.enc 9 d').size=L.length*9:=by rw[size_flatK,hds]
   have hzl:(putCells id 0 (flatK Ro.enc 9 d') cur).toList.length=cur.size:=by rw[Array.length_toList,hZs]
   have hdl:d'.toList.length=L.length:=by rw[Array.length_toList,hds]
   obtain⟨st,f'⟩:=tK (rows:=(d'.toList.map (·.t)).map It.av) fit hm (by rw[hb];exact hon) (e:=49) (n:=9) hb hsz9 (by decide) hwh (by rw[hZs];exact hcs) ⟨hle.1,by rw[List.length_map,hL'l];exact hle.2⟩ hmax (by
    rw[List.length_map,hL'l]
    refine Flat.ofRo (by rw[List.length_take,hzl,hdl];omega) (fun x hx=>?_) (fun i x j hi hj=>?_)
    ·obtain⟨i,hi⟩:=List.getElem?_of_mem (hperm.mem_iff.1 hx)
     exact(hDi i x hi).1
    ·have hlt:=(List.getElem?_eq_some_iff.1 hi).1
     rw[Array.length_toList,hds]at hlt
     have hlt2:i*9+j<L.length*9:=by omega
     rw[List.getElem?_take_of_lt hlt2,Array.getElem?_toList,mU (by rw[hFs];exact hlt2) (by rw[hFs];exact hc9)]
     exact lR (by simpa using hi) hj)
   rw[hver]at f'
   refine⟨.tup [],_,S,μ,⟨rfl,d'.toList.map (·.t),?_,?_,rfl⟩,st,f',rT _⟩
   ·have:=hperm.map (·.t)
    rwa [hDt]at this
   ·rw[List.pairwise_map,List.pairwise_iff_getElem]
    intro i j hi hj hij
    have h1:=hst i j (Nat.zero_le _) hij (by rw[Array.length_toList,hds]at hj;exact hj)
    rw[Array.length_toList]at hi hj
    rw[getElem!_pos d' i hi,getElem!_pos d' j hj,Ro.lt]at h1
    simpa using h1
end Go.Av
