/- Parts. -/
import Derived.Test.YtnolelibaahimaaGreatDoorXEp16
set_option linter.unusedSimpArgs false
set_option linter.unusedVariables false
set_option linter.unusedSectionVars false
set_option linter.unnecessarySimpa false
set_option maxRecDepth 100000
set_option maxHeartbeats 16000000
namespace Go.Av
open Go Go.Proofs Go.RowKit
section
attribute [local irreducible] WP WPl WPix Sat
variable (G:Nat→Option (List AVal))
def feV(f:Fe):AVal:=.agg [.str (if f.title=[]then shortF f.url 256 else f.title),.str f.url,.nil (.slice none 0 0)]
theorem yj{H:Heap}{N:Nat}{a b c d:List AVal}(z:FrzRs H N a b)(w:FrzRs H N c d):FrzRs H N (a++c) (b++d):=by
 induction z with
 |nil=>exact w
 |cons x _ ih=>exact .cons x ih
theorem pC(H:Heap)(N:Nat):∀l:List Outl,FrzRs H N (l.map Outl.av) (l.map Outl.av)
 | []=>.nil
 |o::l=>.cons (FrzR.clo (Outl.clo _ o) o.av_sto) (pC H N l)
theorem rN(H:Heap)(N:Nat):∀l:List Fe,FrzRs H N (l.map feV) ((l.map feO).map Outl.av)
 | []=>.nil
 |f::l=>.cons (by
   rw[za4];exact FrzL.row (.cons (.clo _ (.str _)) (.cons (.clo _ (.str _)) (.cons (.nils 3) .nil))) rfl) (rN H N l)
theorem vN{fo:List Fo}{i:Int}{k:Nat}{y:Fo}(hy:fo[k]? =some y):kidsI (fo.take (k+1)) i=kidsI (fo.take k) i++if y.inn=i then [y]else []:=by
 unfold kidsI;rw[R6,hy,Y3,List.filter_append,X0];by_cases h:y.inn=i
 ·rw[L7 (by simpa using h),L7 h];rfl
 ·rw[L1 (by simpa using h),L1 h];rfl
def feedsI(fe:List Fe)(i:Int):List Fe:=fe.filter fun f=>decide (f.inn=i)
theorem u4{fe:List Fe}{i:Int}{k:Nat}{y:Fe}(hy:fe[k]? =some y):feedsI (fe.take (k+1)) i=feedsI (fe.take k) i++if y.inn=i then [y]else []:=by
 unfold feedsI;rw[R6,hy,Y3,List.filter_append,X0];by_cases h:y.inn=i
 ·rw[L7 (by simpa using h),L7 h];rfl
 ·rw[L1 (by simpa using h),L1 h];rfl
theorem j6(x:St)(hlo:x.fo.length≤64)(hle:x.fe.length≤64)(hu:∀f∈x.fe,f.url.length≤512)(g:Int→List Outl)(i:Int)
  (hg:∀f∈x.fo,f.inn=i→∀h,Sat (CT G) 54 [x.av,.int .i64 f.id] h (fun r h'=>r=.sl 3 ((g f.id).map Outl.av)∧h'=h))(h:Heap):
  Sat (CT G) 54 [x.av,.int .i64 i] h (fun r h'=>r=.sl 3 ((((kidsI x.fo i).map fun f=>(⟨f.name,[],g f.id⟩:Outl))++(feedsI x.fe i).map feO).map Outl.av)∧h'=h):=by
 have he1:(x.fo.map Fo.av).length=x.fo.length:=N4 ..;have he2:(x.fe.map Fe.av).length=x.fe.length:=N4 ..;have F:=F3 he1 he2 @aW;refine sb [.tmp 4] Tryz.func54 ?_;intro Q hQ;refine wk F ?_;refine lm (fun nL tL hL=>∃(k v:Nat) (acc:List Outl) (j:Heap),x.fo.length-k=nL∧h++(.row 107 9 0 [x.av]:: .row 55 3 v (acc.map Outl.av)::j)=hL∧tL 5=.hs (h.length+1) v 0 acc.length true∧tL 15=.int .i64 k∧k≤x.fo.length∧acc.length≤k∧acc=(kidsI (x.fo.take k) i).map fun f=>(⟨f.name,[],g f.id⟩:Outl)) ((fun(k v:Nat) (acc:List Outl) (j:Heap)=>(x.fo.length-k:Nat)) (0) (0) ([]) ([])) ?_ ?_
 ·refine⟨_,_,Weak.virt 5 55 3 (by simp) (by omega) (by exact zq F),⟨0,0,[],[],rfl,aw,?_,?_,by omega,by simp,rfl⟩⟩;all_goals try exact zZz F
 rintro _ s2 h' ⟨k,v,acc,j,rfl,rfl,e5,e15,hk,hal,hac⟩ K2 hK2;simp only[ak,am,Nat.reduceEqDiff, ↓reduceIte]at e5 e15;have F:=F3 F e5 e15;by_cases c2:k<x.fo.length
 ·have d2:=P4 c2;obtain⟨y,hy,hym⟩:=aj c2;have hm:(x.fo.map Fo.av)[k]? =some y.av:=by rw[M8,hy];rfl
  have hkt:=vN (i:=i) hy;have hgy:=hg y hym;obtain⟨y1,y2,y3⟩:=y;rw[Fo.av_eq]at hm;simp only[]at hm hkt hgy;by_cases ca:y2=i
  ·have qa:(y2==i)=true:=(by simp[ca]);rw[L7 ca]at hkt;have F:=F6 F hm hy d2 c2 qa;(try refine sq F ?_);refine wk F ?_;refine aE (hgy ca _) ?_;(try refine sq F ?_);refine wk F ?_;refine aq F ?_;(try refine sq F ?_);refine wk F ?_;refine hK2 _ _ _ (M5 ⟨k+1,v+1,acc++[⟨y3,[],g y1⟩],j++[.row 44 3 0 [.agg [.int .i64 y1,.int .i64 y2,.str y3]]],rfl,by simp[St.av,za4,Outl.title,Outl.url,Outl.kids],?_,?_,by omega,by simp;omega,by rw[hkt,Q7,hac];rfl⟩) (by omega);all_goals try exact zZz F
  ·have qa:(y2==i)=false:=(by simp[ca]);rw[L1 ca,N3]at hkt;have F:=F6 F hm hy d2 c2 qa;(try refine sq F ?_);refine wk F ?_;refine hK2 _ _ _ (M5 ⟨k+1,v,acc,j++[.row 44 3 0 [.agg [.int .i64 y1,.int .i64 y2,.str y3]]],rfl,aw,?_,?_,by omega,by omega,by rw[hkt];exact hac⟩) (by omega);all_goals try exact zZz F
 have d2:=Q1 c2;rw[O1 (by omega)]at hac;have hkx:k=x.fo.length:=by omega
 clear hg;subst hac;generalize (kidsI x.fo i).map (fun f=>(⟨f.name,[],g f.id⟩:Outl))=A at*;have hA:(A.map Outl.av).length=A.length:=N4 ..;have F:=F3 F d2 hA;try refine sq F ?_
 refine wk F ?_;refine lm (fun nL tL hL=>∃(k2 v2:Nat) (acc:List Fe) (j2:Heap),x.fe.length-k2=nL∧h++(.row 107 9 0 [x.av]:: .row 55 3 v2 (A.map Outl.av++acc.map feV)::j2)=hL∧tL 5=.hs (h.length+1) v2 0 (A.length+acc.length) true∧tL 38=.int .i64 k2∧k2≤x.fe.length∧acc.length≤k2∧acc=feedsI (x.fe.take k2) i) ((fun(k2 v2:Nat) (acc:List Fe) (j2:Heap)=>(x.fe.length-k2:Nat)) (0) (v) ([]) (j)) ?_ ?_
 ·refine M5 ⟨0,v,[],j,rfl,by simp[St.av],?_,?_,by omega,by simp,rfl⟩;all_goals try exact zZz F
 rintro _ s3 h' ⟨k2,v2,acc,j2,rfl,rfl,e5,e38,hk2,hal2,hac2⟩ K3 hK3;simp only[ak,am,Nat.reduceEqDiff, ↓reduceIte]at e5 e38;have F:=F3 F e5 e38;by_cases c3:k2<x.fe.length
 ·have d3:=P4 c3;obtain⟨y,hy,hym⟩:=aj c3;have hm:(x.fe.map Fe.av)[k2]? =some y.av:=by rw[M8,hy];rfl
  have hkt:=u4 (i:=i) hy;have hus:=hu y hym;obtain⟨y1,y2,y3,y4⟩:=y;rw[Fe.av_eq]at hm;simp only[]at hm hkt hus;by_cases ca:y2=i
  ·have qa:(y2 !=i)=false:=(by simp[ca]);rw[L7 ca]at hkt;by_cases ct:y4=[]
   ·have qt:(y4==([]:Bs))=true:=(by simp[ct]);have hv:feV ⟨y1,y2,y3,y4⟩=.agg [.str (shortF y3 256),.str y3,.nil (.slice none 0 0)]:=(by unfold feV;simp[ct]);have F:=F7 F hm hy d3 c3 qa qt;(try refine sq F ?_);refine wk F ?_;refine kq F (jG G y3 256 (by omega) (by omega) _) ?_;refine aq F ?_;(try refine sq F ?_);refine wk F ?_;refine hK3 _ _ _ (M5 ⟨k2+1,v2+1,acc++[⟨y1,y2,y3,y4⟩],j2++[Blk.row 48 4 0 [.agg [.int .i64 y1,.int .i64 y2,.str y3,.str y4]],Blk.row 55 3 0 [.agg [.str (shortF y3 256),.str y3,.nil (.slice none 0 0)]]],rfl,by simp[St.av,hv],?_,?_,by omega,by simp;omega,by rw[hkt,hac2]⟩) (by omega);all_goals try exact zZz F
   ·have qt:(y4==([]:Bs))=false:=(by simp[ct]);have hv:feV ⟨y1,y2,y3,y4⟩=.agg [.str y4,.str y3,.nil (.slice none 0 0)]:=(by unfold feV;simp[ct]);have F:=F7 F hm hy d3 c3 qa qt;(try refine sq F ?_);refine wk F ?_;refine aq F ?_;(try refine sq F ?_);refine wk F ?_;refine hK3 _ _ _ (M5 ⟨k2+1,v2+1,acc++[⟨y1,y2,y3,y4⟩],j2++[Blk.row 48 4 0 [.agg [.int .i64 y1,.int .i64 y2,.str y3,.str y4]],Blk.row 55 3 0 [.agg [.str y4,.str y3,.nil (.slice none 0 0)]]],rfl,by simp[St.av,hv],?_,?_,by omega,by simp;omega,by rw[hkt,hac2]⟩) (by omega);all_goals try exact zZz F
  ·have qa:(y2 !=i)=true:=(by simp[ca]);rw[L1 ca,N3]at hkt;have F:=F6 F hm hy d3 c3 qa;(try refine sq F ?_);refine wk F ?_;refine hK3 _ _ _ (M5 ⟨k2+1,v2,acc,j2++[Blk.row 48 4 0 [.agg [.int .i64 y1,.int .i64 y2,.str y3,.str y4]]],rfl,aw,?_,?_,by omega,by omega,by rw[hkt];exact hac2⟩) (by omega);all_goals try exact zZz F
 ·have d3:=Q1 c3;rw[O1 (by omega)]at hac2;have F:=F2 F d3;try refine sq F ?_
  refine wk F ?_;refine ee hQ F ?_;subst hac2;refine za2 ?_ ⟨rfl,rfl⟩;rw[Q7];exact FrzRs.hs (by rw[bY _ rfl];simp[getRow];rfl) (by simp) (by omega) (yj (pC _ _ A) (rN _ _ _))
theorem mi(x:St)(hlo:x.fo.length≤64)(hle:x.fe.length≤64)(hu:∀f∈x.fe,f.url.length≤512):∀(k:Nat) (i:Int),Lv x.fo k i→∀h:Heap,
  Sat (CT G) 54 [x.av,.int .i64 i] h (fun r h'=>r=.sl 3 ((outF x.fo x.fe k i).map Outl.av)∧h'=h):=by
 intro k;induction k with
 |zero=>
  intro i hL h;have:=j6 G x hlo hle hu (fun _=>[]) i (fun f hf hi=>absurd hi (hL f hf)) h;rw[show kidsI x.fo i=[]from B4 hL]at this;exact this
 |succ k ih=>
  intro i hL h;exact j6 G x hlo hle hu (fun j=>outF x.fo x.fe k j) i (fun f hf hi=>ih f.id (hL f hf hi)) h
section
variable {s:PS} {X:Heap} {n:Nat}
theorem vO(hI:s.Inv)(hT:s.Txt):s.tell.fo.length≤64∧s.tell.fe.length≤64∧∀f∈s.tell.fe,f.url.length≤512:=by
 refine⟨by show(valsM Fo.z s.fo).length≤64;rw[fD];exact hI.l1,by show(valsM Fe.z s.fe).length≤64;rw[fD];exact hI.l2,fun f hf=>?_⟩;obtain⟨k,hk⟩:=vB hf;have:=ip (hT.fe k f hk).2.1;unfold textO at this;simp only[L2,L8]at this;exact this.1.1
theorem ix(hI:s.Inv)(hT:s.Txt)(hn:n+9≤X.length):Sat (CT G) 24 [.hp (n+8) 0 0 0] (so X n s) (fun r h'=>r=.sl 3 (s.outl.map Outl.av)∧h'=so X n s):=by
 have hTl:=i8 G s hI.toOk hn;obtain⟨h1,h2,h3⟩:=vO hI hT;have hW:=mi G s.tell h1 h2 h3 7 0 (B5 hI) (so X n s);unfold PS.outl;generalize outF s.tell.fo s.tell.fe 7 0=l at*;generalize s.tell=x at*;have F:= @aW;refine sb [.tmp 2] Tryz.func24 ?_;intro Q hQ;refine wk F ?_;refine kq F (hTl) ?_;refine kq F (hW) ?_;refine ee hQ F ?_;exact bH hn (Outls.clo _ _ _) ⟨rfl,rfl⟩
end
theorem rQ{h j:Heap}{n:Nat}{s:PS}(hm:n+9≤(h++j).length)(hh:h.length≤n):∃j',so (h++j) n s=h++j':=by
 refine⟨(so (h++j) n s).drop h.length,?_⟩;have hl:=aP (s:=s) hm
 apply S6
 intro p;by_cases hp:p<h.length
 ·rw[L5 hp];unfold so;rw[oR (by show n+9≤_;omega) (.inl (by omega)),L5 hp]
 ·rw[L9 (by omega),P5];congr 1
  omega
def okX(l:List Outl):Bool:=decide (cntN 8 l≤512)
theorem qH(l:List Outl)(hl:OkN 8 l)(h:Heap):Sat (CT G) 31 [.sl 3 (l.map Outl.av)] h (fun r h'=>r=.int .i64 (if okX l then 0 else 130)∧h'=h):=by
 have hc:=mh 8 l;refine sb [.tmp 2] Tryz.func31 ?_;intro Q hQ;refine wk trivial ?_;refine kq trivial (ll G 8 1 (by omega) l hl _) ?_;refine cq trivial (fun c1=>?_) (fun c1=>?_)<;>(try exact c1.elim)<;>(refine wk trivial ?_)
 ·refine ee hQ trivial ?_;refine fR (.int _ _) ?_;rw[L1 (by unfold okX;simp;omega)]
 ·refine ee hQ trivial ?_;refine fR (.int _ _) ?_;rw[L7 (by unfold okX;simp;omega)]
def CloneC:Prop:=∀(s:PS) (X:Heap) (n:Nat),s.Inv→n+9≤X.length→Sat (CT G) 37 [.hp (n+8) 0 0 0] (so X n s) (fun r h'=>r=.hp (X.length+8) 0 0 0∧h'=so (so X n s++PS.z.bl X.length) X.length s)
def exF(s:PS)(l:List Outl):List Ev×Int:=if okX l then((brgF nfX 8 0 l s).2,0)else([],130)
def exR(p:List Ev×Int):AVal:=.tup [.sl 7 (p.1.map Ev.av),.int .i64 p.2]
theorem rR(N:Nat)(p:List Ev×Int):Clo N (exR p):=.tup _ fun x hx=>by
 simp only[N0,T4,or_false]at hx;rcases hx with rfl|rfl
 ·exact .sl _ _ fun x hx=>by obtain⟨e,_,rfl⟩:=M7.1 hx;exact Ev.clo _ e
 ·exact .int _ _
theorem rS(Z:Heap)(n:Nat)(c:Int):Frz Z n (.tup [.nil (.slice none 0 0),.int .i64 c]) (exR ([],c)):=FrzL.tup (.cons (.nils 7) (.cons (.clo _ (.int _ _)) .nil))
section
variable {s:PS} {X:Heap} {n:Nat}
theorem fa(hC:CloneC G)(hn:n+9≤X.length)(T:s.Top2)(l:List Outl)(hl:OkN 8 l)(hz:szs Outl.sz l≤2097152):
  Sat (CT G) 12 [.hp (n+8) 0 0 0,.sl 3 (l.map Outl.av)] (so X n s) (fun r h'=>r=exR (exF s l)∧h'=so X n s):=by
 have hCk:=qH G l hl;have hCl:=hC s X n T.i hn;unfold exF;cases hk:okX l with
 |false=>
  rw[hk]at hCk;have hCk:∀h,Sat (CT G) 31 [.sl 3 (l.map Outl.av)] h (fun r h'=>r=.int .i64 130∧h'=h):=hCk;refine sb [.tmp 4,.tmp 5] Tryz.func12 ?_;intro Q hQ;refine wk trivial ?_;refine kq trivial (hCk _) ?_;refine ye hQ trivial ?_;have:=cu (j:=[]) (s:=s) (s':=s) (R:=fun r h'=>r=exR ([],130)∧h'=so X n s) hn (rS (so (X++[]) n s) X.length 130) ⟨rfl,rfl⟩;rw[N3]at this;exact this
 |true=>
  rw[hk]at hCk;have hCk:∀h,Sat (CT G) 31 [.sl 3 (l.map Outl.av)] h (fun r h'=>r=.int .i64 0∧h'=h):=hCk;have hlz:(so X n s++PS.z.bl X.length).length=X.length+9:=by rw[L4,aP hn];rfl
  have hB:=jH G (s:=s) (H:=so X n s++PS.z.bl X.length) (n:=X.length) (by omega) T l (nT 8 l (P7 hk)) hz;obtain⟨j',hj'⟩:=rQ (h:=so X n s) (j:=PS.z.bl X.length) (n:=X.length) (s:=(brgF nfX 8 0 l s).1) (by omega) (by rw[aP hn];omega);rw[hj',bN hn]at hB;rw[bN hn]at hB;refine sb [.tmp 4,.tmp 5] Tryz.func12 ?_;intro Q hQ;refine wk trivial ?_;refine kq trivial (hCk _) ?_;refine kq trivial (hCl) ?_;refine kq trivial (hB) ?_;refine ye hQ trivial ?_;exact cu (s':=s) hn (.clo _ (rR _ (_,_))) ⟨rfl,rfl⟩
end
section
variable {s:PS} {X:Heap} {n:Nat}
theorem lz(hG:GOk G)(hC:GClo (CT G))(hn:n+9≤X.length)(T:s.Top2)(t:Bs)(ht:t.length≤4194304)(l:List Outl)(hr:rdF t=(l,0))(hk:cntN 8 l≤512):
  Sat (CT G) 26 [.hp (n+8) 0 0 0,.str t] (so X n s) (fun r h'=>r=exR ((brgF nfX 8 0 l s).2,0)∧h'=so X n (brgF nfX 8 0 l s).1):=by
 have hR:=ln G hG hC t ht;unfold RdO at hR;rw[hr]at hR;have hz:=vJ 8 l hk;have hB:=jH G (s:=s) (H:=X) (n:=n) hn T l (nT 8 l hk) (by omega);generalize brgF nfX 8 0 l s=p at*;obtain⟨z,ws⟩:=p;simp only[]at hB ⊢;refine sb [.tmp 4,.tmp 5] Tryz.func26 ?_;intro Q hQ;refine wk trivial ?_;refine kq trivial (hR _) ?_;refine kq trivial (hB) ?_;refine ye hQ trivial ?_;exact bH hn (rR _ (_,_)) ⟨rfl,rfl⟩
theorem pI(hG:GOk G)(hC:GClo (CT G))(hn:n+9≤X.length)(t:Bs)(ht:t.length≤4194304)(c:Int)(hr:rdF t=([],c))(hc:c≠0):
  Sat (CT G) 26 [.hp (n+8) 0 0 0,.str t] (so X n s) (fun r h'=>r=exR ([],c)∧h'=so X n s):=by
 have hR:=ln G hG hC t ht;unfold RdO at hR;rw[hr]at hR;have q:(c !=0)=true:=by simpa using hc
 have F:=q;refine sb [.tmp 4,.tmp 5] Tryz.func26 ?_;intro Q hQ;refine wk F ?_;refine kq F (hR _) ?_;refine ye hQ F ?_;have:=cu (j:=[]) (s:=s) (s':=s) (R:=fun r h'=>r=exR ([],c)∧h'=so X n s) hn (rS (so (X++[]) n s) X.length c) ⟨rfl,rfl⟩;rw[N3]at this;exact this
theorem ym(hI:s.Inv)(hT:s.Txt):okOl s.outl=true∧OkN 8 s.outl∧szs Outl.sz s.outl≤400000∧(wrF 8 s.outl).length≤3000000:=by
 have h1:=zU hI hT;have h2:okOl s.outl=true:=P4 (by omega);have h3:=vQ h2;exact⟨h2,pB 8 _ (by omega),h3.2,h3.1⟩
theorem qL(hI:s.Inv)(hT:s.Txt)(hn:n+9≤X.length):Sat (CT G) 21 [.hp (n+8) 0 0 0] (so X n s) (fun r h'=>r=.tup [.str (docF 8 s.outl),.int .i64 0]∧h'=so X n s):=by
 have hO:=ix G hI hT hn;obtain⟨h1,h2,h3,h4⟩:=ym hI hT;have hW:=qK G s.outl h2 (by omega) (fun _=>by omega);rw[h1]at hW;generalize s.outl=l at*;have hW:∀h,Sat (CT G) 51 [.sl 3 (l.map Outl.av)] h (fun r h'=>r=.tup [.str (docF 8 l),.int .i64 0]∧h'=h):=hW;refine sb [.tmp 2,.tmp 3] Tryz.func21 ?_;intro Q hQ;refine wk trivial ?_;refine kq trivial (hO) ?_;refine kq trivial (hW _) ?_;refine ye hQ trivial ?_;exact bH hn (.tup _ (by intro c hc;simp at hc;rcases hc with rfl|rfl;exact .str _;exact .int _ _)) ⟨rfl,rfl⟩
end
def PS.okR(s:PS)(e:Ev):Bool:=s.fits (L0.right e) (s.dpt e.b) e
def PS.stR(s:PS)(e:Ev):PS:=if s.okR e then s.aft e else s
theorem vR(s:PS)(inn:Int)(o:Outl):s.ok L0 (evFe s inn o)=s.okR (evFe s inn o):=by
 have h:usedE (evFe s inn o)=evFe s inn o:=rfl;unfold PS.ok PS.okR Leaf.ck;rw[h];simp
theorem vS(s:PS)(inn:Int)(t:Bs):s.ok L0 (evFo s inn t)=s.okR (evFo s inn t):=by
 have h:usedE (evFo s inn t)=evFo s inn t:=rfl;unfold PS.ok PS.okR Leaf.ck;rw[h];simp
theorem Bj(s:PS)(inn:Int)(o:Outl):s.step L0 (evFe s inn o)=s.stR (evFe s inn o):=by unfold PS.step PS.stR;rw[vR]
theorem Bk(s:PS)(inn:Int)(t:Bs):s.step L0 (evFo s inn t)=s.stR (evFo s inn t):=by unfold PS.step PS.stR;rw[vS]
def oneR(nf:Bs→Bs)(g:Int→List Outl→PS→PS×List Ev)(inn:Int)(o:Outl)(s:PS):PS×List Ev:=
 if o.url≠ []then(if s.okR (evFe s inn o)then(s.stR (evFe s inn o),[evFe s inn o])else(s,[]))
 else if foId s inn (nf o.title)≠0 then g (foId s inn (nf o.title)) o.kids s
 else if s.okR (evFo s inn (nf o.title))then((g (s.t1+1) o.kids (s.stR (evFo s inn (nf o.title)))).1,evFo s inn (nf o.title)::(g (s.t1+1) o.kids (s.stR (evFo s inn (nf o.title)))).2)
 else g inn o.kids s
def brgR(nf:Bs→Bs):Nat→Int→List Outl→PS→PS×List Ev
 |0,_,_,s=>(s,[])
 |k+1,inn,l,s=>lstG (oneR nf (brgR nf k) inn) l s
theorem Ad(nf:Bs→Bs)(g:Int→List Outl→PS→PS×List Ev)(inn:Int)(o:Outl)(s:PS):oneG nf g inn o s=oneR nf g inn o s:=by
 unfold oneG oneR putF;rw[vR,vS,Bj,Bk]
theorem rW(nf:Bs→Bs):∀(k:Nat),brgF nf k=brgR nf k
 |0=>rfl
 |k+1=>by
  funext inn l s
  rw[brgF,brgR,rW nf k];congr 1
  funext o s
  exact Ad nf _ inn o s
def bTech:Bs:=[116,101,99,104]
def o24:Outl:=⟨bTech,[],[⟨[65],[117],[]⟩]⟩
def l24:List Outl:=[o24,⟨bTech,[],[]⟩]
def w24:List Ev:=[⟨1,1,0,0,bTech,[],[]⟩,⟨3,1,1,0,[117],[65],[]⟩]
def s24:PS:=(brgR nfX 8 0 l24 PS.z).1
theorem lA:brgF nfX 8 0 l24 PS.z=(s24,w24):=by
 rw[rW];have h:(brgR nfX 8 0 l24 PS.z).2=w24:=by kernel_rfl
 rw[← h];rfl
theorem Bl:brgF nfX 8 0 l24 s24=(s24,[]):=by
 have h1:=j1 (nf:=nfX) 8 0 l24 PS.z s24 PS.Top2.z0 rfl (by rw[lA];exact .refl _);exact h1
theorem jp:s24.Top2:=by
 have:=(fE (nf:=nfX) 8 0 l24 PS.z PS.Top2.z0 rfl).t;rw[lA]at this;exact this
theorem yn:s24=w24.foldl (PS.step L0) PS.z:=by
 have:=(fE (nf:=nfX) 8 0 l24 PS.z PS.Top2.z0 rfl).f;rw[lA]at this;exact this
theorem rX:s24.Txt:=by rw[yn];exact PS.Txt.fold w24 PS.Txt.z0 PS.Inv.z
theorem nD{α:Type}(z:α)(k:Int)(a:α)(n:Nat):valsM z [(k,a,n)]=[a]:=by
 unfold valsM sortI;rw[N6,Q6,List.mergeSort_singleton];simp[lkM]
theorem yp:s24.outl=[o24]:=by
 have h1:s24.fo=[(1,⟨1,0,bTech⟩,0)]:=by kernel_rfl
 have h2:s24.fe=[(1,⟨1,1,[117],[65]⟩,0)]:=by kernel_rfl
 have e1:s24.tell.fo=[⟨1,0,bTech⟩]:=by show valsM Fo.z s24.fo=_;rw[h1,nD]
 have e2:s24.tell.fe=[⟨1,1,[117],[65]⟩]:=by show valsM Fe.z s24.fe=_;rw[h2,nD]
 unfold PS.outl;rw[e1,e2];rfl
section
variable {s:PS} {X:Heap} {n:Nat}
def rowC(s:PS)(m:Nat):AVal:=.agg [.int .i64 s.clock,.hm m,.hm (m+1),.hm (m+2),.hm (m+3),.hm (m+4),.hm (m+5),.hm (m+6),.hm (m+7),.int .i64 s.t1,.int .i64 s.t2,.int .i64 s.t3,.int .i64 s.t4]
def mpsC(s:PS):List Blk:=[.mp (encM iA Fo.av s.fo) s.c1,.mp (encM iA Fe.av s.fe) s.c2,.mp (encM iA It.av s.it) s.c3,.mp (encM iA Se.av s.se) s.c4,
 .mp (encM nA iA s.nm) s.c5,.mp (encM AVal.str iA s.pl) s.c6,.mp (encM nA iA s.gu) s.c7,.mp (encM iA iA s.he) s.c8]
theorem pJ(s:PS)(hn:n+9≤X.length):Sat (CT G) 37 [.hp (n+8) 0 0 0] (so X n s) (fun r h'=>r=.hp (so X n s).length 0 0 0∧h'=so X n s++ .row 83 13 0 [rowC s (X.length+1)]::mpsC s):=by
 have h1:=fun {h:Heap} {es c} (hm:mapAt h n=some (es,c))=>bO (C:=CT G) (f:=71) Tryz.mcl71 rfl Tryz.func71 (by kernel_rfl) (by kernel_rfl) hm
 have h2:=fun {h:Heap} {es c} (hm:mapAt h (n+1)=some (es,c))=>bO (C:=CT G) (f:=72) Tryz.mcl72 rfl Tryz.func72 (by kernel_rfl) (by kernel_rfl) hm
 have h3:=fun {h:Heap} {es c} (hm:mapAt h (n+2)=some (es,c))=>bO (C:=CT G) (f:=73) Tryz.mcl73 rfl Tryz.func73 (by kernel_rfl) (by kernel_rfl) hm
 have h4:=fun {h:Heap} {es c} (hm:mapAt h (n+3)=some (es,c))=>bO (C:=CT G) (f:=74) Tryz.mcl74 rfl Tryz.func74 (by kernel_rfl) (by kernel_rfl) hm
 have h5:=fun {h:Heap} {es c} (hm:mapAt h (n+4)=some (es,c))=>bO (C:=CT G) (f:=75) Tryz.mcl75 rfl Tryz.func75 (by kernel_rfl) (by kernel_rfl) hm
 have h6:=fun {h:Heap} {es c} (hm:mapAt h (n+5)=some (es,c))=>bO (C:=CT G) (f:=76) Tryz.mcl76 rfl Tryz.func76 (by kernel_rfl) (by kernel_rfl) hm
 have h7:=fun {h:Heap} {es c} (hm:mapAt h (n+6)=some (es,c))=>bO (C:=CT G) (f:=77) Tryz.mcl77 rfl Tryz.func77 (by kernel_rfl) (by kernel_rfl) hm
 have h8:=fun {h:Heap} {es c} (hm:mapAt h (n+7)=some (es,c))=>bO (C:=CT G) (f:=78) Tryz.mcl78 rfl Tryz.func78 (by kernel_rfl) (by kernel_rfl) hm
 have F:= @aW
 skip
 refine sb [.tmp 2] Tryz.func37 ?_;intro Q hQ;refine wn F ?_;refine bf 19 [4,9,14] [true,true,true,true,false,true,true,true,true,false,true,true,true,true,false,true,true,true,true] (.one 4 [false,false,false,false,false,false,true,true,true,false,false,true,true,true,false,false,true,true,true] (.one 9 [false,false,false,false,false,false,false,false,false,false,false,true,true,true,false,false,true,true,true] (.one 14 [false,false,false,false,false,false,false,false,false,false,false,false,false,false,false,false,true,true,true] .fin))) (by decide+kernel) (by kernel_rfl) (by decide+kernel) ?_;simp only[bA,bB,ba];try refine sq F ?_
 repeat' ((first|refine aM ?_|refine aN ?_|refine aU ?_ ?_)<;>try refine sq F ?_)
 all_goals try refine wn F ?_
 repeat' (first
  | (refine(h1 (by simp(disch:=first|omega| (simp only[go_sem, ↓reduceIte,seval];first|done|omega)|fail) only[go_sem, ↓reduceIte,seval,F];rfl)).mono ?_;rintro r h' ⟨rfl,rfl⟩;try refine sq F ?_)
  | (refine(h2 (by simp(disch:=first|omega| (simp only[go_sem, ↓reduceIte,seval];first|done|omega)|fail) only[go_sem, ↓reduceIte,seval,F];rfl)).mono ?_;rintro r h' ⟨rfl,rfl⟩;try refine sq F ?_)
  | (refine(h3 (by simp(disch:=first|omega| (simp only[go_sem, ↓reduceIte,seval];first|done|omega)|fail) only[go_sem, ↓reduceIte,seval,F];rfl)).mono ?_;rintro r h' ⟨rfl,rfl⟩;try refine sq F ?_)
  | (refine(h4 (by simp(disch:=first|omega| (simp only[go_sem, ↓reduceIte,seval];first|done|omega)|fail) only[go_sem, ↓reduceIte,seval,F];rfl)).mono ?_;rintro r h' ⟨rfl,rfl⟩;try refine sq F ?_)
  | (refine aM ?_;try refine sq F ?_)| (refine aN ?_;try refine sq F ?_))
 refine wn F ?_;refine bf 19 [4,9,14] [true,true,true,true,false,true,true,true,true,false,true,true,true,true,false,true,true,true,true] (.one 4 [false,false,false,false,false,false,true,true,true,false,false,true,true,true,false,false,true,true,true] (.one 9 [false,false,false,false,false,false,false,false,false,false,false,true,true,true,false,false,true,true,true] (.one 14 [false,false,false,false,false,false,false,false,false,false,false,false,false,false,false,false,true,true,true] .fin))) (by decide+kernel) (by kernel_rfl) (by decide+kernel) ?_;simp only[bA,bB,ba];try refine sq F ?_
 repeat' ((first|refine aM ?_|refine aN ?_|refine aU ?_ ?_)<;>try refine sq F ?_)
 all_goals try refine wn F ?_
 repeat' (first
  | (refine(h5 (by simp(disch:=first|omega| (simp only[go_sem, ↓reduceIte,seval];first|done|omega)|fail) only[go_sem, ↓reduceIte,seval,F];rfl)).mono ?_;rintro r h' ⟨rfl,rfl⟩;try refine sq F ?_)
  | (refine(h6 (by simp(disch:=first|omega| (simp only[go_sem, ↓reduceIte,seval];first|done|omega)|fail) only[go_sem, ↓reduceIte,seval,F];rfl)).mono ?_;rintro r h' ⟨rfl,rfl⟩;try refine sq F ?_)
  | (refine(h7 (by simp(disch:=first|omega| (simp only[go_sem, ↓reduceIte,seval];first|done|omega)|fail) only[go_sem, ↓reduceIte,seval,F];rfl)).mono ?_;rintro r h' ⟨rfl,rfl⟩;try refine sq F ?_)
  | (refine(h8 (by simp(disch:=first|omega| (simp only[go_sem, ↓reduceIte,seval];first|done|omega)|fail) only[go_sem, ↓reduceIte,seval,F];rfl)).mono ?_;rintro r h' ⟨rfl,rfl⟩;try refine sq F ?_)
  | (refine aM ?_;try refine sq F ?_)| (refine aN ?_;try refine sq F ?_))
 refine wn F ?_;refine ee hQ F ?_;exact W5 (by rw[aP hn,aP (by simp;omega)];simp) (.hp _ _ _ _ (by rw[aP (by simp;omega)];simp)) ⟨rfl,rfl⟩
theorem Bn(A B bs:Heap)(hl:bs.length=B.length):ov (A++B) A.length bs=A++bs:=by
 unfold ov;rw[X3 rfl,W4 (by rw[L4];omega),N3]
theorem gg:CloneC G:=by
 intro s X n _ hn;have hl:(so X n s).length=X.length:=aP hn;have h0:=pJ G s hn;rw[← hl]at h0;generalize so X n s=A at*;have key:=Sat.turn (fun c hc=>?_) (fun c hc hcl=>?_) (fun k hk=>?_) h0
 ·refine key.mono ?_;rintro r h' ⟨rfl,rfl⟩;rw[hl];refine⟨rfl,?_⟩;unfold so;rw[← hl,Bn A (PS.bl A.length PS.z) (PS.bl A.length s) rfl];have e:∀i,(if A.length+1+i<A.length then AVal.hm (A.length+1+i)else .hm (A.length+1+i-1))=.hm (A.length+i):=fun i=>by
   rw[L1 (by omega)];congr 1;omega
  have e0:=e 0;have e1:=e 1;have e2:=e 2;have e3:=e 3;have e4:=e 4;have e5:=e 5;have e6:=e 6;have e7:=e 7;simp only[V3]at e0;simp only[PS.bl,PS.row,mpsC,N6,Q6,trn,P3,O8,e0,e1,e2,e3,e4,e5,e6,e7]
 ·simp only[N0,T4,or_false]at hc;rcases hc with rfl|rfl|rfl|rfl|rfl|rfl|rfl|rfl|rfl|rfl|rfl|rfl|rfl
  ·exact .inl (.int _ _)
  ·exact .inr ⟨0,rfl⟩
  ·exact .inr ⟨1,rfl⟩
  ·exact .inr ⟨2,rfl⟩
  ·exact .inr ⟨3,rfl⟩
  ·exact .inr ⟨4,rfl⟩
  ·exact .inr ⟨5,rfl⟩
  ·exact .inr ⟨6,rfl⟩
  ·exact .inr ⟨7,rfl⟩
  all_goals exact .inl (.int _ _)
 ·simp only[N0,T4,or_false]at hc;rcases hc with rfl|rfl|rfl|rfl|rfl|rfl|rfl|rfl|rfl|rfl|rfl|rfl|rfl<;>first|rfl| (exfalso;cases hcl;omega)
 ·exact PS.clo (n:=0) (N:=A.length) (by omega) s k (by simp only[mpsC,PS.bl]at hk ⊢;exact List.mem_append_left [_] hk)
end
end
section
attribute [local irreducible] WP WPl WPix Sat
theorem pK{es:List Ev}(h:lgF es=false):es.length≤150:=by
 unfold lgF at h;rw[Bool.or_eq_false_iff]at h;have:=h.1;simp only[decide_eq_false_iff_not]at this;omega
theorem dT{h Y:Heap}{n:Nat}{s:PS}{R:AVal→Heap→Prop}{b:Bool}(hm:n+9≤Y.length)(hp:∃j,Y=h++j)(hh:h.length≤n)(hR:R (.bool b) h):Fin h (so Y n s) R (.bool b):=by
 obtain⟨j,rfl⟩:=hp;obtain⟨j',he⟩:=rQ (s:=s) hm hh;rw[he];exact Y0 (j:=j') rfl (.bool _) hR
theorem mn:∀{l:List Ev} {s:PS} {k:Nat} {y:Ev},fitAll s l=true→l[k]? =some y→((l.take k).foldl (PS.step L0) s).ok L0 y=true
 | [],_,_,_,_,hy=>by cases hy
 |e::l,s,0,y,h,hy=>by
  cases hy;rw[fitAll,L2]at h;exact h.1
 |e::l,s,k+1,y,h,hy=>by
  rw[fitAll,L2]at h;exact mn (k:=k) h.2 hy
variable (G:Nat→Option (List AVal))
theorem lB(hC:CloneC G)(hlives:∀h,Sat (CT G) 10 [] h (fun r h'=>r=.bool true∧h'=h))(hsmall:∀l:List Outl,0<ocntL l 1 700→OkN 8 l)(es:List Ev)(m:List Outl)(hs:szs Outl.sz m≤1048576)(h:Heap):
  Sat (CT G) 3 [.sl 7 (es.map Ev.av),.sl 3 (m.map Outl.av)] h (fun r h'=>r=.bool true∧h'=h):=by
 have hLg:=fW G es;have hLm:=kT G m hs;have dt1:∀i:Decidable True, @decide True i=true:=fun i=>by simp
 have df:∀i:Decidable False, @decide False i=false:=fun i=>by simp
 cases hlg:lgF es with
 |true=>
  rw[hlg]at hLg;refine sb [.tmp 4] Tryz.func3 ?_;intro Q hQ;refine wk trivial ?_;refine kq trivial (hLg _) ?_;refine kq trivial (hlives _) ?_;refine ee hQ trivial ?_;exact R1 (.bool _) ⟨rfl,rfl⟩
 |false=>
  rw[hlg]at hLg;have hel:=pK hlg;by_cases hl0:ocntL m 1 700≤0
  ·rw[P4 hl0]at hLm;refine sb [.tmp 4] Tryz.func3 ?_;intro Q hQ;refine wk trivial ?_;refine kq trivial (hLg _) ?_;refine kq trivial (hLm _) ?_;refine kq trivial (hlives _) ?_;refine ee hQ trivial ?_;exact R1 (.bool _) ⟨rfl,rfl⟩
  rw[Q1 hl0]at hLm;have hok:=hsmall m (by omega);have T:(es.foldl (PS.step L0) PS.z).Top2:=PS.Top2.z0.fold es;have hfh:=ni G es (by omega) h;generalize es.foldl (PS.step L0) PS.z=s at T hfh;have hz9:(PS.z.bl h.length).length=9:=rfl;obtain⟨H0,hH0⟩:∃H0,H0=h++PS.z.bl h.length:=⟨_,rfl⟩;rw[← hH0]at hfh;have hn00:h.length+9≤H0.length:=by rw[hH0];simp[hz9]
  have hpre:∃j',H0=h++j':=⟨PS.z.bl h.length,hH0⟩
  have hPl:=fun(s:PS) (T:s.Top2)=>fa G hC hn00 T m hok (by omega)
  have hPs:=hPl s T;unfold exF at hPs;cases hk:okX m with
  |false=>
   rw[hk]at hPs;have hPs:Sat (CT G) 12 [.hp (h.length+8) 0 0 0,.sl 3 (m.map Outl.av)] (so H0 h.length s) (fun r h'=>r=.tup [.sl 7 [],.int .i64 130]∧h'=so H0 h.length s):=hPs;have F:=F3 hn00 dt1 df;refine sb [.tmp 4] Tryz.func3 ?_;intro Q hQ;refine wk F ?_;refine kq F (hLg _) ?_;refine kq F (hLm _) ?_;refine kq F (hfh) ?_;refine kq F (hlives _) ?_;refine kq F (hPs) ?_;refine ee hQ F ?_;exact dT hn00 hpre (M3 _) ⟨rfl,rfl⟩
  |true=>
   rw[hk]at hPs;obtain⟨e1,e2,_,Tz,_,e6,_⟩:=lh nfX T m (P7 hk);have hP2:=hPl _ Tz;unfold exF at hP2;rw[hk,L7 rfl,e6]at hP2;have hbl:=jo (nf:=nfX) 8 0 m s;have hIk:∀k,(((brgF nfX 8 0 m s).2.take k).foldl (PS.step L0) s).Inv:=fun k=>T.i.fold (L:=L0) _
   generalize brgF nfX 8 0 m s=p at*;obtain⟨z,l⟩:=p;simp only[]at e1 e2 hbl hIk;have hPs:Sat (CT G) 12 [.hp (h.length+8) 0 0 0,.sl 3 (m.map Outl.av)] (so H0 h.length s) (fun r h'=>r=.tup [.sl 7 (l.map Ev.av),.int .i64 0]∧h'=so H0 h.length s):=hPs;have hP2:Sat (CT G) 12 [.hp (h.length+8) 0 0 0,.sl 3 (m.map Outl.av)] (so H0 h.length z) (fun r h'=>r=.tup [.sl 7 [],.int .i64 0]∧h'=so H0 h.length z):=hP2;have hll:(l.map Ev.av).length=l.length:=N4 ..;have hAp:=fun(s:PS) (hI:s.Inv) (e:Ev)=>eX G s hI e (H:=H0) (n:=h.length) hn00
   have F:=F4 hn00 dt1 df hll;refine sb [.tmp 4] Tryz.func3 ?_;intro Q hQ;refine wk F ?_;refine kq F (hLg _) ?_;refine kq F (hLm _) ?_;refine kq F (hfh) ?_;refine kq F (hlives _) ?_;refine kq F (hPs) ?_;refine lm (fun nL tL hL=>∃(k:Nat),l.length-k=nL∧so H0 h.length ((l.take k).foldl (PS.step L0) s)=hL∧tL 8=.int .i64 k∧k≤l.length) ((fun(k:Nat)=>(l.length-k:Nat)) (0)) ?_ ?_
   ·refine M5 ⟨0,rfl,aw,?_,by omega⟩;all_goals try exact zZz F
   rintro _ s2 h' ⟨k,rfl,rfl,e8,hk⟩ K2 hK2;simp only[ak,am,Nat.reduceEqDiff, ↓reduceIte]at e8;have F:=F2 F e8;by_cases c2:k<l.length
   ·have d2:=P4 c2;obtain⟨y,hy,hym⟩:=aj c2;have hm:(l.map Ev.av)[k]? =some y.av:=(by rw[M8,hy];rfl);have hst:(l.take (k+1)).foldl (PS.step L0) s=((l.take k).foldl (PS.step L0) s).step L0 y:=(by rw[R6,hy,Y3,List.foldl_append];rfl);have hA1:=hAp _ (hIk k) y;rw[← hst,mn e1 hy]at hA1;have F:=F5 F hm hy d2 c2;(try refine sq F ?_);refine wk F ?_;refine kq F (hA1) ?_;refine hK2 _ _ _ (M5 ⟨k+1,rfl,rfl,?_,by omega⟩) (by omega);all_goals try exact zZz F
   ·have d2:=Q1 c2;rw[O1 (by omega), ← e2];have F:=F2 F d2;(try refine sq F ?_);refine wk F ?_;refine kq F (hP2) ?_;refine ee hQ F ?_;exact dT hn00 hpre (M3 _) ⟨rfl,rfl⟩
end
section
attribute [local irreducible] WP WPl WPix Sat
def a24:AVal:=.agg [.str bTech,.str [],.sl 3 [.agg [.str [65],.str [117],.nil (.slice none 0 0)]]]
def b24:AVal:=.agg [.str bTech,.str [],.nil (.slice none 0 0)]
def v24:AVal:=.sl 7 [.agg [.int .i64 1,.int .i64 1,.int .i64 0,.int .i64 0,.str bTech,.str [],.str []],.agg [.int .i64 3,.int .i64 1,.int .i64 1,.int .i64 0,.str [117],.str [65],.str []]]
theorem j8:(docF 8 l24).length≤5000:=P7 (by kernel_rfl)
theorem mr:okOl l24=true:=by kernel_rfl
theorem Bo:rdF (docF 8 l24)=(l24,0):=zR l24 mr (by have:=j8;omega)
section
variable (G:Nat→Option (List AVal))
theorem Bp:isV (.bool true) (callX (CT G) orcX 1000 100 29 [v24,v24] [])=true:=by kernel_rfl
theorem jL(hG:GOk G)(hc:GClo (CT G))(h:Heap):Sat (CT G) 10 [] h (fun r h'=>r=.bool true∧h'=h):=by
 have hN:=nh G h;have hz9:(PS.z.bl h.length).length=9:=rfl;obtain⟨H0,hH0⟩:∃H0,H0=h++PS.z.bl h.length:=⟨_,rfl⟩;rw[← hH0]at hN;have hl0:H0.length=h.length+9:=by rw[hH0];simp[hz9]
 have hn00:h.length+9≤H0.length:=by omega
 have hC:=gg G;have hK:OkN 8 l24:=pB 8 l24 (P7 mr);have hS:=fun h=>Sat.closedD hc (zy hG) 1000 100 (f:=29) (args:=[v24,v24]) (v:=.bool true) rfl rfl (Bp G) h
 have wk1:∀(i:Nat) (x y:AVal),([.hp (h.length+8) 0 0 0,.sl 3 [a24,b24]]:List AVal)[i]? =some x→([.hp (h.length+8) 0 0 0,.sl 3 (l24.map Outl.av)]:List AVal)[i]? =some y→Wk x y:=fun i x y hx hy=>by
  match i with
  |0=>cases hx;cases hy;exact Wk.refl _
  |1=>cases hx;cases hy;exact iX 9 _ _ rfl
  |i+2=>cases hx
 have wk2:∀(i:Nat) (x y:AVal),([.sl 3 [a24,b24]]:List AVal)[i]? =some x→([.sl 3 (l24.map Outl.av)]:List AVal)[i]? =some y→Wk x y:=fun i x y hx hy=>by
  match i with
  |0=>cases hx;cases hy;exact iX 9 _ _ rfl
  |i+1=>cases hx
 have wk3:∀(i:Nat) (x y:AVal),([.sl 3 [a24]]:List AVal)[i]? =some x→([.sl 3 ([o24].map Outl.av)]:List AVal)[i]? =some y→Wk x y:=fun i x y hx hy=>by
  match i with
  |0=>cases hx;cases hy;exact iX 9 _ _ rfl
  |i+1=>cases hx
 have wk4:∀(i:Nat) (x y:AVal),([.sl 3 ([o24].map Outl.av),.sl 3 [a24]]:List AVal)[i]? =some x→([.sl 3 ([o24].map Outl.av),.sl 3 ([o24].map Outl.av)]:List AVal)[i]? =some y→Wk x y:=fun i x y hx hy=>by
  match i with
  |0=>cases hx;cases hy;exact Wk.refl _
  |1=>cases hx;cases hy;exact iX 9 _ _ rfl
  |i+2=>cases hx
 have wk5:∀(i:Nat) (x y:AVal),([.hp (h.length+8) 0 0 0,.sl 3 [.agg [.str [],.str [],.nil (.slice none 0 0)]]]:List AVal)[i]? =some x→([.hp (h.length+8) 0 0 0,.sl 3 ([(⟨[],[],[]⟩:Outl)].map Outl.av)]:List AVal)[i]? =some y→Wk x y:=fun i x y hx hy=>by
  match i with
  |0=>cases hx;cases hy;exact Wk.refl _
  |1=>cases hx;cases hy;exact iX 9 _ _ rfl
  |i+2=>cases hx
 have dP:=fa G (s:=PS.z) (X:=H0) (n:=h.length) hC hn00 PS.Top2.z0 l24 hK (by decide);rw[show exF PS.z l24=(w24,0)from by unfold exF;rw[show okX l24=true from mr,lA];rfl]at dP;have dP:=Sat.wk (by rfl) wk1 dP;have dB:=fa G (s:=s24) (X:=H0) (n:=h.length) hC hn00 jp [⟨[],[],[]⟩] ⟨by decide,fun o ho=>by simp only[S7]at ho;subst ho;exact⟨by decide,by decide,OkN.nil 7⟩⟩ (by decide);rw[show exF s24 [⟨[],[],[]⟩]=([],130)from rfl]at dB;have dB:=Sat.wk (by rfl) wk5 dB;have dR1:=lz G (s:=PS.z) (X:=H0) (n:=h.length) hG hc hn00 PS.Top2.z0 (docF 8 l24) (by have:=j8;omega) l24 Bo (P7 mr);have dR2:=lz G (s:=s24) (X:=H0) (n:=h.length) hG hc hn00 jp (docF 8 l24) (by have:=j8;omega) l24 Bo (P7 mr);rw[lA]at dR1;rw[Bl]at dR2;have dR3:=pI G (s:=s24) (X:=H0) (n:=h.length) hG hc hn00 [] (by decide) (rdF []).2 (by kernel_rfl) (P7 (by kernel_rfl));have dW:=fun h=>Sat.wk (by rfl) wk2 (jK G l24 mr (by decide) (by decide) h)
 have dW1:=fun h=>Sat.wk (by rfl) wk3 (jK G [o24] (by kernel_rfl) (by decide) (by decide) h)
 have dS1:=fun h=>Sat.wk (by rfl) wk4 (uB G [o24] [o24] (by decide) (by decide) h)
 rw[show sameOL 8 [o24] [o24]=true from rfl]at dS1;have dO:=ix G (X:=H0) (n:=h.length) jp.i rX hn00;have dE:=qL G (X:=H0) (n:=h.length) jp.i rX hn00;rw[yp]at dO dE;have ap:∀a b:Bs,List.append a b=a++b:=fun _ _=>rfl
 generalize docF 8 l24=d1 at*;generalize docF 8 [o24]=d2 at*;have e0:(rdF []).2≠0:=P7 (by kernel_rfl);have q0:((rdF []).2 !=0)=true:=by simpa using e0
 generalize (rdF []).2=c0 at*;have qd:∀a:Bs,(a==a)=true:=fun a=>by simp
 unfold a24 b24 bTech at*;have F:=F4 hn00 q0 qd @aW;refine sb [.tmp 0] Tryz.func10 ?_;intro Q hQ;(repeat (first|refine w1 (fun K hK=>?_)|refine w2 ?_|refine w3 ?_| ((first|refine w4 ?_|refine wD ?_|refine w5 ?_|refine w6 ?_|refine w7 ?_);try refine sq F ?_)| (refine w8 ?_;refine sq F ?_;refine w9 ?_)| (refine rq F ?_;try refine sq F ?_)| (refine vq F ?_;try refine sq F ?_)| ((first|refine hK _ _ (w0 ?_)| (clear hK K;refine hK _ _ (w0 ?_))| (clear hK K;clear hK K;refine hK _ _ (w0 ?_)));clear hK K)))
 refine(hN).mono ?_;rintro r h' ⟨rfl,rfl⟩;try refine sq F ?_
 (repeat (first|refine w1 (fun K hK=>?_)|refine w2 ?_|refine w3 ?_| ((first|refine w4 ?_|refine wD ?_|refine w5 ?_|refine w6 ?_|refine w7 ?_);try refine sq F ?_)| (refine w8 ?_;refine sq F ?_;refine w9 ?_)| (refine rq F ?_;try refine sq F ?_)| (refine vq F ?_;try refine sq F ?_)| ((first|refine hK _ _ (w0 ?_)| (clear hK K;refine hK _ _ (w0 ?_))| (clear hK K;clear hK K;refine hK _ _ (w0 ?_)));clear hK K)))
 refine(dP).mono ?_;rintro r h' ⟨rfl,rfl⟩;try refine sq F ?_
 (repeat (first|refine w1 (fun K hK=>?_)|refine w2 ?_|refine w3 ?_| ((first|refine w4 ?_|refine wD ?_|refine w5 ?_|refine w6 ?_|refine w7 ?_);try refine sq F ?_)| (refine w8 ?_;refine sq F ?_;refine w9 ?_)| (refine rq F ?_;try refine sq F ?_)| (refine vq F ?_;try refine sq F ?_)| ((first|refine hK _ _ (w0 ?_)| (clear hK K;refine hK _ _ (w0 ?_))| (clear hK K;clear hK K;refine hK _ _ (w0 ?_)));clear hK K)))
 refine(dW _).mono ?_;rintro r h' ⟨rfl,rfl⟩;try refine sq F ?_
 (repeat (first|refine w1 (fun K hK=>?_)|refine w2 ?_|refine w3 ?_| ((first|refine w4 ?_|refine wD ?_|refine w5 ?_|refine w6 ?_|refine w7 ?_);try refine sq F ?_)| (refine w8 ?_;refine sq F ?_;refine w9 ?_)| (refine rq F ?_;try refine sq F ?_)| (refine vq F ?_;try refine sq F ?_)| ((first|refine hK _ _ (w0 ?_)| (clear hK K;refine hK _ _ (w0 ?_))| (clear hK K;clear hK K;refine hK _ _ (w0 ?_)));clear hK K)))
 refine(dR1).mono ?_;rintro r h' ⟨rfl,rfl⟩;try refine sq F ?_
 (repeat (first|refine w1 (fun K hK=>?_)|refine w2 ?_|refine w3 ?_| ((first|refine w4 ?_|refine wD ?_|refine w5 ?_|refine w6 ?_|refine w7 ?_);try refine sq F ?_)| (refine w8 ?_;refine sq F ?_;refine w9 ?_)| (refine rq F ?_;try refine sq F ?_)| (refine vq F ?_;try refine sq F ?_)| ((first|refine hK _ _ (w0 ?_)| (clear hK K;refine hK _ _ (w0 ?_))| (clear hK K;clear hK K;refine hK _ _ (w0 ?_)));clear hK K)))
 refine(dW _).mono ?_;rintro r h' ⟨rfl,rfl⟩;try refine sq F ?_
 (repeat (first|refine w1 (fun K hK=>?_)|refine w2 ?_|refine w3 ?_| ((first|refine w4 ?_|refine wD ?_|refine w5 ?_|refine w6 ?_|refine w7 ?_);try refine sq F ?_)| (refine w8 ?_;refine sq F ?_;refine w9 ?_)| (refine rq F ?_;try refine sq F ?_)| (refine vq F ?_;try refine sq F ?_)| ((first|refine hK _ _ (w0 ?_)| (clear hK K;refine hK _ _ (w0 ?_))| (clear hK K;clear hK K;refine hK _ _ (w0 ?_)));clear hK K)))
 refine(dR2).mono ?_;rintro r h' ⟨rfl,rfl⟩;try refine sq F ?_
 (repeat (first|refine w1 (fun K hK=>?_)|refine w2 ?_|refine w3 ?_| ((first|refine w4 ?_|refine wD ?_|refine w5 ?_|refine w6 ?_|refine w7 ?_);try refine sq F ?_)| (refine w8 ?_;refine sq F ?_;refine w9 ?_)| (refine rq F ?_;try refine sq F ?_)| (refine vq F ?_;try refine sq F ?_)| ((first|refine hK _ _ (w0 ?_)| (clear hK K;refine hK _ _ (w0 ?_))| (clear hK K;clear hK K;refine hK _ _ (w0 ?_)));clear hK K)))
 refine(dO).mono ?_;rintro r h' ⟨rfl,rfl⟩;try refine sq F ?_
 (repeat (first|refine w1 (fun K hK=>?_)|refine w2 ?_|refine w3 ?_| ((first|refine w4 ?_|refine wD ?_|refine w5 ?_|refine w6 ?_|refine w7 ?_);try refine sq F ?_)| (refine w8 ?_;refine sq F ?_;refine w9 ?_)| (refine rq F ?_;try refine sq F ?_)| (refine vq F ?_;try refine sq F ?_)| ((first|refine hK _ _ (w0 ?_)| (clear hK K;refine hK _ _ (w0 ?_))| (clear hK K;clear hK K;refine hK _ _ (w0 ?_)));clear hK K)))
 refine(dE).mono ?_;rintro r h' ⟨rfl,rfl⟩;try refine sq F ?_
 (repeat (first|refine w1 (fun K hK=>?_)|refine w2 ?_|refine w3 ?_| ((first|refine w4 ?_|refine wD ?_|refine w5 ?_|refine w6 ?_|refine w7 ?_);try refine sq F ?_)| (refine w8 ?_;refine sq F ?_;refine w9 ?_)| (refine rq F ?_;try refine sq F ?_)| (refine vq F ?_;try refine sq F ?_)| ((first|refine hK _ _ (w0 ?_)| (clear hK K;refine hK _ _ (w0 ?_))| (clear hK K;clear hK K;refine hK _ _ (w0 ?_)));clear hK K)))
 refine(dB).mono ?_;rintro r h' ⟨rfl,rfl⟩;try refine sq F ?_
 (repeat (first|refine w1 (fun K hK=>?_)|refine w2 ?_|refine w3 ?_| ((first|refine w4 ?_|refine wD ?_|refine w5 ?_|refine w6 ?_|refine w7 ?_);try refine sq F ?_)| (refine w8 ?_;refine sq F ?_;refine w9 ?_)| (refine rq F ?_;try refine sq F ?_)| (refine vq F ?_;try refine sq F ?_)| ((first|refine hK _ _ (w0 ?_)| (clear hK K;refine hK _ _ (w0 ?_))| (clear hK K;clear hK K;refine hK _ _ (w0 ?_)));clear hK K)))
 refine(dR3).mono ?_;rintro r h' ⟨rfl,rfl⟩;try refine sq F ?_
 (repeat (first|refine w1 (fun K hK=>?_)|refine w2 ?_|refine w3 ?_| ((first|refine w4 ?_|refine wD ?_|refine w5 ?_|refine w6 ?_|refine w7 ?_);try refine sq F ?_)| (refine w8 ?_;refine sq F ?_;refine w9 ?_)| (refine rq F ?_;try refine sq F ?_)| (refine vq F ?_;try refine sq F ?_)| ((first|refine hK _ _ (w0 ?_)| (clear hK K;refine hK _ _ (w0 ?_))| (clear hK K;clear hK K;refine hK _ _ (w0 ?_)));clear hK K)))
 refine(hS _).mono ?_;rintro r h' ⟨rfl,rfl⟩;try refine sq F ?_
 (repeat (first|refine w1 (fun K hK=>?_)|refine w2 ?_|refine w3 ?_| ((first|refine w4 ?_|refine wD ?_|refine w5 ?_|refine w6 ?_|refine w7 ?_);try refine sq F ?_)| (refine w8 ?_;refine sq F ?_;refine w9 ?_)| (refine rq F ?_;try refine sq F ?_)| (refine vq F ?_;try refine sq F ?_)| ((first|refine hK _ _ (w0 ?_)| (clear hK K;refine hK _ _ (w0 ?_))| (clear hK K;clear hK K;refine hK _ _ (w0 ?_)));clear hK K)))
 refine(hS _).mono ?_;rintro r h' ⟨rfl,rfl⟩;try refine sq F ?_
 (repeat (first|refine w1 (fun K hK=>?_)|refine w2 ?_|refine w3 ?_| ((first|refine w4 ?_|refine wD ?_|refine w5 ?_|refine w6 ?_|refine w7 ?_);try refine sq F ?_)| (refine w8 ?_;refine sq F ?_;refine w9 ?_)| (refine rq F ?_;try refine sq F ?_)| (refine vq F ?_;try refine sq F ?_)| ((first|refine hK _ _ (w0 ?_)| (clear hK K;refine hK _ _ (w0 ?_))| (clear hK K;clear hK K;refine hK _ _ (w0 ?_)));clear hK K)))
 refine(dS1 _).mono ?_;rintro r h' ⟨rfl,rfl⟩;try refine sq F ?_
 (repeat (first|refine w1 (fun K hK=>?_)|refine w2 ?_|refine w3 ?_| ((first|refine w4 ?_|refine wD ?_|refine w5 ?_|refine w6 ?_|refine w7 ?_);try refine sq F ?_)| (refine w8 ?_;refine sq F ?_;refine w9 ?_)| (refine rq F ?_;try refine sq F ?_)| (refine vq F ?_;try refine sq F ?_)| ((first|refine hK _ _ (w0 ?_)| (clear hK K;refine hK _ _ (w0 ?_))| (clear hK K;clear hK K;refine hK _ _ (w0 ?_)));clear hK K)))
 refine(dW1 _).mono ?_;rintro r h' ⟨rfl,rfl⟩;try refine sq F ?_
 (repeat (first|refine w1 (fun K hK=>?_)|refine w2 ?_|refine w3 ?_| ((first|refine w4 ?_|refine wD ?_|refine w5 ?_|refine w6 ?_|refine w7 ?_);try refine sq F ?_)| (refine w8 ?_;refine sq F ?_;refine w9 ?_)| (refine rq F ?_;try refine sq F ?_)| (refine vq F ?_;try refine sq F ?_)| ((first|refine hK _ _ (w0 ?_)| (clear hK K;refine hK _ _ (w0 ?_))| (clear hK K;clear hK K;refine hK _ _ (w0 ?_)));clear hK K)))
 refine ee hQ F ?_;exact dT hn00 ⟨_,hH0⟩ (M3 _) ⟨rfl,rfl⟩
end
end
section
attribute [local irreducible] WP WPl WPix Sat
variable (G:Nat→Option (List AVal))
theorem yq(h:Heap)(a b:Int)(s t:Bs):abin Tryz.prog h .neq 48 (.agg [.int .i64 a,.int .i64 b,.str s,.str t]) (.agg [.int .i64 a,.int .i64 b,.str s,.str t])=some (.bool false):=by
 simp[abin,go_sem,aeqL,aeq1]
theorem yt(h:Heap)(a b:Int)(s:Bs):abin Tryz.prog h .neq 44 (.agg [.int .i64 a,.int .i64 b,.str s]) (.agg [.int .i64 a,.int .i64 b,.str s])=some (.bool false):=by
 simp[abin,go_sem,aeqL,aeq1]
section
variable (s:PS) {H:Heap} {n:Nat} (hn:n+9≤H.length)
include hn
theorem qM(id:Int):Sat (CT G) 16 [.hp (n+8) 0 0 0,.int .i64 id] (so H n s) (fun r h'=>r=.tup [((lkM s.fe id).getD Fe.z).av,.bool (lkM s.fe id).isSome]∧h'=so H n s):=by
 refine sb [.cell 4 48,.tmp 5] Tryz.func16 ?_;intro Q hQ;refine wk trivial ?_;refine ye hQ trivial ?_;exact ar hn (.tup _ (fun x hx=>by simp only[N0,T4,or_false]at hx;rcases hx with rfl|rfl;exact Fe.clo _ _;exact .bool _)) ⟨rfl,rfl⟩
theorem nP(id:Int):Sat (CT G) 15 [.hp (n+8) 0 0 0,.int .i64 id] (so H n s) (fun r h'=>r=.tup [((lkM s.fo id).getD Fo.z).av,.bool (lkM s.fo id).isSome]∧h'=so H n s):=by
 refine sb [.cell 4 44,.tmp 5] Tryz.func15 ?_;intro Q hQ;refine wk trivial ?_;refine ye hQ trivial ?_;exact ar hn (.tup _ (fun x hx=>by simp only[N0,T4,or_false]at hx;rcases hx with rfl|rfl;exact Fo.clo _ _;exact .bool _)) ⟨rfl,rfl⟩
theorem pL(u:Bs):Sat (CT G) 18 [.hp (n+8) 0 0 0,.str u] (so H n s) (fun r h'=>r=.tup [.int .i64 ((lkM s.pl u).getD 0),.bool (lkM s.pl u).isSome]∧h'=so H n s):=by
 refine sb [.tmp 4,.tmp 5] Tryz.func18 ?_;intro Q hQ;refine wk trivial ?_;refine ye hQ trivial ?_;exact bH hn (.tup _ (fun x hx=>by simp only[N0,T4,or_false]at hx;rcases hx with rfl|rfl;exact .int _ _;exact .bool _)) ⟨rfl,rfl⟩
end
theorem lC(hC:CloneC G)(hlives:∀h,Sat (CT G) 10 [] h (fun r h'=>r=.bool true∧h'=h))(hsmall:∀l:List Outl,0<ocntL l 1 700→OkN 8 l)(es:List Ev)(m:List Outl)(hs:szs Outl.sz m≤1048576)(h:Heap):
  Sat (CT G) 4 [.sl 7 (es.map Ev.av),.sl 3 (m.map Outl.av)] h (fun r h'=>r=.bool true∧h'=h):=by
 have hLg:=fW G es;have hLm:=kT G m hs;have dt1:∀i:Decidable True, @decide True i=true:=fun i=>by simp
 have df:∀i:Decidable False, @decide False i=false:=fun i=>by simp
 cases hlg:lgF es with
 |true=>
  rw[hlg]at hLg;refine sb [.tmp 4] Tryz.func4 ?_;intro Q hQ;refine wk trivial ?_;refine kq trivial (hLg _) ?_;refine kq trivial (hlives _) ?_;refine ee hQ trivial ?_;exact R1 (.bool _) ⟨rfl,rfl⟩
 |false=>
  rw[hlg]at hLg;have hel:=pK hlg;by_cases hl0:ocntL m 1 700≤0
  ·rw[P4 hl0]at hLm;refine sb [.tmp 4] Tryz.func4 ?_;intro Q hQ;refine wk trivial ?_;refine kq trivial (hLg _) ?_;refine kq trivial (hLm _) ?_;refine kq trivial (hlives _) ?_;refine ee hQ trivial ?_;exact R1 (.bool _) ⟨rfl,rfl⟩
  rw[Q1 hl0]at hLm;have hok:=hsmall m (by omega);have T:(es.foldl (PS.step L0) PS.z).Top2:=PS.Top2.z0.fold es;have hfh:=ni G es (by omega) h;generalize es.foldl (PS.step L0) PS.z=s at T hfh;have hz9:(PS.z.bl h.length).length=9:=rfl;obtain⟨H0,hH0⟩:∃H0,H0=h++PS.z.bl h.length:=⟨_,rfl⟩;rw[← hH0]at hfh;have hn00:h.length+9≤H0.length:=by rw[hH0];simp[hz9]
  have hl0':H0.length=h.length+9:=by rw[hH0];simp[hz9]
  have hn0:∀j:Heap,h.length+9≤(H0++j).length:=fun j=>by simp;omega
  have hpre:∀j,∃j',H0++j=h++j':=fun j=>⟨PS.z.bl h.length++j,by rw[hH0];simp only[O4]⟩
  have hTl:=i8 G s T.i.toOk (H:=H0) (n:=h.length) hn00;have hPl:=fun(X:Heap) (hX:h.length+9≤X.length)=>fa G (s:=s) hC hX T m hok (by omega)
  have hfo2:∀f∈s.tell.fo,f∈valsM Fo.z s.fo:=fun f hf=>hf
  have hfe2:∀f∈s.tell.fe,f∈valsM Fe.z s.fe:=fun f hf=>hf
  have hxf:s.tell.fo.length≤64:=by show(valsM Fo.z s.fo).length≤_;rw[fD];exact T.i.l1
  have hxe:s.tell.fe.length=s.fe.length:=by show(valsM Fe.z s.fe).length=_;rw[fD]
  have hxe2:=T.i.l2;have hx2:s.tell.t2=s.t2:=rfl;have hz2:=T.ze;have hm2:=T.me;obtain⟨x,hx⟩:∃x,s.tell=x:=⟨_,rfl⟩;rw[hx]at hTl hfo2 hfe2 hxf hxe hx2;obtain⟨J,hJ⟩:∃J:Heap,[Blk.row 41 9 0 [x.av]]=J:=⟨_,rfl⟩;have hJl:J.length=1:=by rw[← hJ];rfl
  have hJ2:=hJ;rw[St.av_eq]at hJ2;have gJ:∀(s:PS) (j:Heap),getRow (so (H0++(J++j)) h.length s) H0.length 0=some (41,9,[x.av]):=fun s j=>by
   rw[cc (hn0 _) _ (by omega), ← hJ,bx _ rfl];rfl
  unfold exF at hPl;cases hk:okX m with
  |false=>
   rw[hk]at hPl;have hPl:∀(X:Heap),h.length+9≤X.length→Sat (CT G) 12 [.hp (h.length+8) 0 0 0,.sl 3 (m.map Outl.av)] (so X h.length s) (fun r h'=>r=.tup [.sl 7 [],.int .i64 130]∧h'=so X h.length s):=hPl;have F:=F5 hn00 hn0 dt1 df hJ2;refine sb [.tmp 4] Tryz.func4 ?_;intro Q hQ;refine wk F ?_;refine kq F (hLg _) ?_;refine kq F (hLm _) ?_;refine kq F (hfh) ?_;refine kq F (hlives _) ?_;refine kq F (hTl) ?_;refine kq F (hPl _ (hn0 _)) ?_;refine ee hQ F ?_;exact dT (hn0 _) (hpre _) (M3 _) ⟨rfl,rfl⟩
  |true=>
   rw[hk]at hPl;have hmk:=P7 hk;obtain⟨e1,e2,e3,Tz,hgr,_,e7⟩:=lh nfX T m hmk;have hbl:=jo (nf:=nfX) 8 0 m s;have hIk:∀k,(((brgF nfX 8 0 m s).2.take k).foldl (PS.step L0) s).Inv:=fun k=>T.i.fold (L:=L0) _
   have hfl:=gZ m 1;generalize brgF nfX 8 0 m s=p at*;obtain⟨z,l⟩:=p;simp only[]at e1 e2 e3 Tz hgr e7 hbl hIk;have hPl:∀(X:Heap),h.length+9≤X.length→Sat (CT G) 12 [.hp (h.length+8) 0 0 0,.sl 3 (m.map Outl.av)] (so X h.length s) (fun r h'=>r=.tup [.sl 7 (l.map Ev.av),.int .i64 0]∧h'=so X h.length s):=hPl;have hll:(l.map Ev.av).length=l.length:=N4 ..;have hxo:(x.fo.map Fo.av).length=x.fo.length:=N4 ..;have hxg:(x.fe.map Fe.av).length=x.fe.length:=N4 ..;have hFd:=tN G m hs;have hAp:=fun(s:PS) (hI:s.Inv) (e:Ev)=>eX G s hI e (H:=H0++J) (n:=h.length) (hn0 _)
   have hok1:∀o∈m,True:=fun _ _=>trivial
   have gJ1:=gJ;simp only[St.av_eq]at gJ1;have gJ0:∀(s:PS),getRow (so (H0++J) h.length s) H0.length 0=some (41,9,[.agg [.int .i64 x.clock,.sl 3 (x.fo.map Fo.av),.sl 4 (x.fe.map Fe.av),.sl 9 (x.it.map It.av),.sl 3 (x.se.map Se.av),.int .i64 x.t1,.int .i64 x.t2,.int .i64 x.t3,.int .i64 x.t4]]):=fun s=>by have:=gJ1 s [];rwa [N3]at this
   have F:=F2 (F9 hn00 hn0 dt1 df hll hxo hxg hJ2 @gJ0) (F4 @gJ1 @yq @yt @aW);refine sb [.tmp 4] Tryz.func4 ?_;intro Q hQ;refine wk F ?_;refine kq F (hLg _) ?_;refine kq F (hLm _) ?_;refine kq F (hfh) ?_;refine kq F (hlives _) ?_;refine kq F (hTl) ?_;refine kq F (hPl _ (hn0 _)) ?_;refine lm (fun nL tL hL=>∃(k:Nat),l.length-k=nL∧so (H0++J) h.length ((l.take k).foldl (PS.step L0) s)=hL∧tL 9=.int .i64 k∧k≤l.length) ((fun(k:Nat)=>(l.length-k:Nat)) (0)) ?_ ?_
   ·refine M5 ⟨0,rfl,aw,?_,by omega⟩;all_goals try exact zZz F
   rintro _ s2 h' ⟨k,rfl,rfl,e9,hk⟩ K2 hK2;simp only[ak,am,Nat.reduceEqDiff, ↓reduceIte]at e9;have F:=F2 F e9;by_cases c2:k<l.length
   ·have d2:=P4 c2;obtain⟨y,hy,hym⟩:=aj c2;have hm:(l.map Ev.av)[k]? =some y.av:=(by rw[M8,hy];rfl);have hst:(l.take (k+1)).foldl (PS.step L0) s=((l.take k).foldl (PS.step L0) s).step L0 y:=(by rw[R6,hy,Y3,List.foldl_append];rfl);have hA1:=hAp _ (hIk k) y;rw[← hst,mn e1 hy]at hA1;rcases e3 y hym with k1|k1
    ·have qk:(y.kind !=1)=false:=(by rw[k1];rfl);have F:=F6 F hm hy d2 c2 qk;(try refine sq F ?_);refine wk F ?_;refine kq F (hA1) ?_;refine hK2 _ _ _ (M5 ⟨k+1,rfl,rfl,?_,by omega⟩) (by omega);all_goals try exact zZz F
    ·have qk:(y.kind !=1)=true:=(by rw[k1];rfl);have qk3:(y.kind !=3)=false:=(by rw[k1];rfl);have F:=F7 F hm hy d2 c2 qk qk3;(try refine sq F ?_);refine wk F ?_;refine kq F (hA1) ?_;refine hK2 _ _ _ (M5 ⟨k+1,rfl,rfl,?_,by omega⟩) (by omega);all_goals try exact zZz F
   have d2:=Q1 c2;rw[O1 (by omega), ← e2];clear hIk e1 e2;have F:=F2 F d2;(try refine sq F ?_);refine wk F ?_;refine lm (fun nL tL hL=>∃(i:Nat) (j:Heap),x.fo.length-i=nL∧so (H0++(J++j)) h.length z=hL∧tL 10=.int .i64 i∧i≤x.fo.length) ((fun(i:Nat) (j:Heap)=>(x.fo.length-i:Nat)) (0) ([])) ?_ ?_
   ·refine M5 ⟨0,[],rfl,by rw[N3],?_,by omega⟩;all_goals try exact zZz F
   rintro _ s2 h' ⟨i,j,rfl,rfl,e10,hi⟩ K2 hK2;simp only[ak,am,Nat.reduceEqDiff, ↓reduceIte]at e10;have F:=F2 F e10;by_cases c3:i<x.fo.length
   ·have d3:=P4 c3;obtain⟨y,hy,hym⟩:=aj c3;have hm:(x.fo.map Fo.av)[i]? =some y.av:=(by rw[M8,hy];rfl);have hlk:=zG T hgr (hfo2 y hym);have hF:=nP G z (H:=H0++(J++j)) (n:=h.length) (hn0 _) y.id;rw[hlk]at hF;obtain⟨y1,y2,y3⟩:=y;have hF:Sat (CT G) 15 [.hp (h.length+8) 0 0 0,.int .i64 y1] (so (H0++(J++j)) h.length z) (fun r h'=>r=.tup [.agg [.int .i64 y1,.int .i64 y2,.str y3],.bool true]∧h'=so (H0++(J++j)) h.length z):=hF;rw[Fo.av_eq]at hm;simp only[]at hm;have gj2:=gJ1 z (j++[.row 44 3 0 [.agg [.int .i64 y1,.int .i64 y2,.str y3]]]);have F:=F6 F hm hy d3 c3 gj2;(try refine sq F ?_);refine wk F ?_;refine kq F (hF) ?_;refine hK2 _ _ _ (M5 ⟨i+1,j++[.row 44 3 0 [.agg [.int .i64 y1,.int .i64 y2,.str y3]]],rfl,rfl,?_,by omega⟩) (by omega);all_goals try exact zZz F
   have d3:=Q1 c3;have F:=F2 F d3;(try refine sq F ?_);refine wk F ?_;refine lm (fun nL tL hL=>∃(i2:Nat) (w:Heap),x.fe.length-i2=nL∧so (H0++(J++w)) h.length z=hL∧tL 13=.int .i64 i2∧i2≤x.fe.length) ((fun(i2:Nat) (w:Heap)=>(x.fe.length-i2:Nat)) (0) (j)) ?_ ?_
   ·refine M5 ⟨0,j,rfl,aw,?_,by omega⟩;all_goals try exact zZz F
   rintro _ s2 h' ⟨i2,w,rfl,rfl,e13,hi2⟩ K2 hK2;simp only[ak,am,Nat.reduceEqDiff, ↓reduceIte]at e13;have F:=F2 F e13;by_cases c4:i2<x.fe.length
   ·have d4:=P4 c4;obtain⟨y,hy,hym⟩:=aj c4;have hm:(x.fe.map Fe.av)[i2]? =some y.av:=(by rw[M8,hy];rfl);have hlk:=zH T hgr (hfe2 y hym);have hF:=qM G z (H:=H0++(J++w)) (n:=h.length) (hn0 _) y.id;rw[hlk]at hF;obtain⟨y1,y2,y3,y4⟩:=y;have hF:Sat (CT G) 16 [.hp (h.length+8) 0 0 0,.int .i64 y1] (so (H0++(J++w)) h.length z) (fun r h'=>r=.tup [.agg [.int .i64 y1,.int .i64 y2,.str y3,.str y4],.bool true]∧h'=so (H0++(J++w)) h.length z):=hF;rw[Fe.av_eq]at hm;simp only[]at hm;have gj2:=gJ1 z (w++[.row 48 4 0 [.agg [.int .i64 y1,.int .i64 y2,.str y3,.str y4]]]);have F:=F6 F hm hy d4 c4 gj2;(try refine sq F ?_);refine wk F ?_;refine kq F (hF) ?_;refine hK2 _ _ _ (M5 ⟨i2+1,w++[.row 48 4 0 [.agg [.int .i64 y1,.int .i64 y2,.str y3,.str y4]]],rfl,rfl,?_,by omega⟩) (by omega);all_goals try exact zZz F
   have d4:=Q1 c4;generalize feedsF m 1=fs at*;have hfm:(fs.map Outl.av).length=fs.length:=N4 ..;by_cases r1:(fs.length:Int)>64-(x.fe.length:Int)
   ·have q1:=P4 r1;have F:=F4 F d4 q1 hfm;(try refine sq F ?_);refine wk F ?_;refine kq F (hFd _) ?_;refine ee hQ F ?_;exact dT (hn0 _) (hpre _) (M3 _) ⟨rfl,rfl⟩
   have q1:=Q1 r1;by_cases r2:(fs.length:Int)>1048576-x.t2
   ·have q2:=P4 r2;have F:=F5 F d4 q1 q2 hfm;(try refine sq F ?_);refine wk F ?_;refine kq F (hFd _) ?_;refine ee hQ F ?_;exact dT (hn0 _) (hpre _) (M3 _) ⟨rfl,rfl⟩
   have q2:=Q1 r2;have hpl:=e7 (by omega) (by omega);have F:=F5 F d4 q1 q2 hfm;(try refine sq F ?_);refine wk F ?_;refine kq F (hFd _) ?_;refine lm (fun nL tL hL=>∃(i3:Nat),fs.length-i3=nL∧so (H0++(J++w)) h.length z=hL∧tL 17=.int .i64 i3∧i3≤fs.length) ((fun(i3:Nat)=>(fs.length-i3:Nat)) (0)) ?_ ?_
   ·refine M5 ⟨0,rfl,aw,?_,by omega⟩;all_goals try exact zZz F
   rintro _ s2 h' ⟨i3,rfl,rfl,e17,hi3⟩ K2 hK2;simp only[ak,am,Nat.reduceEqDiff, ↓reduceIte]at e17;have F:=F2 F e17;by_cases c5:i3<fs.length
   ·have d5:=P4 c5;obtain⟨y,hy,hym⟩:=aj c5;have hm:(fs.map Outl.av)[i3]? =some y.av:=(by rw[M8,hy];rfl);have hP:=pL G z (H:=H0++(J++w)) (n:=h.length) (hn0 _) y.url;rw[hpl y hym]at hP;rw[za4]at hm;have F:=F5 F hm hy d5 c5;(try refine sq F ?_);refine wk F ?_;refine kq F (hP) ?_;refine hK2 _ _ _ (M5 ⟨i3+1,rfl,rfl,?_,by omega⟩) (by omega);all_goals try exact zZz F
   ·have d5:=Q1 c5;have F:=F2 F d5;(try refine sq F ?_);refine wk F ?_;refine ee hQ F ?_;exact dT (hn0 _) (hpre _) (M3 _) ⟨rfl,rfl⟩
theorem rY(l:List Outl)(h:0<ocntL l 1 700):OkN 8 l:=(Ab 8 1 l 700 (by omega) (by omega) h).1
theorem ki(hG:GOk G)(hc:GClo (CT G))(es:List Ev)(m:List Outl)(hs:szs Outl.sz m≤1048576)(h:Heap):
  Sat (CT G) 3 [.sl 7 (es.map Ev.av),.sl 3 (m.map Outl.av)] h (fun r h'=>r=.bool true∧h'=h):=lB G (gg G) (jL G hG hc) rY es m hs h
theorem kj(hG:GOk G)(hc:GClo (CT G))(es:List Ev)(m:List Outl)(hs:szs Outl.sz m≤1048576)(h:Heap):
  Sat (CT G) 4 [.sl 7 (es.map Ev.av),.sl 3 (m.map Outl.av)] h (fun r h'=>r=.bool true∧h'=h):=lC G (gg G) (jL G hG hc) rY es m hs h
end
end Go.Av
