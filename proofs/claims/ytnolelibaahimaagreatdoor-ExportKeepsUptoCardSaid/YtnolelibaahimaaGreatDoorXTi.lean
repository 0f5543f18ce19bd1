/- Parts. -/
import Derived.Test.YtnolelibaahimaaGreatDoorXInx
set_option linter.unusedSimpArgs false
set_option linter.unusedVariables false
set_option linter.unusedSectionVars false
set_option linter.unnecessarySimpa false
set_option maxRecDepth 100000
set_option maxHeartbeats 16000000
namespace Go.Av
open Go Go.Proofs Go.RowKit
section
attribute [local irreducible] WP WPl WPix Sat
variable (G:Nat→Option (List AVal))
attribute [go_sem] dc
@[go_sem] theorem qn(h j l:Heap)(s:Bs)(b:Bool)(k v:Nat):getRow (rdH h j s b++l) (h.length+(1+(j.length+k))) v=getRow l k v:=by
 rw[show h.length+(1+(j.length+k))=(rdH h j s b).length+k by rw[dc];omega];exact gP _ l k v
@[go_sem] theorem qo(h j l:Heap)(s:Bs)(b:Bool)(v:Nat):getRow (rdH h j s b++l) (h.length+(1+j.length)) v=getRow l 0 v:=qn h j l s b 0 v
@[go_sem] theorem wQ(h j l:Heap)(s:Bs)(b:Bool)(k:Nat)(x:Blk):(rdH h j s b++l).set (h.length+(1+(j.length+k))) x=rdH h j s b++l.set k x:=by
 rw[show h.length+(1+(j.length+k))=(rdH h j s b).length+k by rw[dc];omega];exact lK _ l k x
@[go_sem] theorem oN(h j l:Heap)(s:Bs)(b:Bool)(x:Blk):(rdH h j s b++l).set (h.length+(1+j.length)) x=rdH h j s b++l.set 0 x:=wQ h j l s b 0 x
theorem ra(h j l:Heap)(s:Bs)(b:Bool):rdH h j s b++l=rdH h (j++l) s b:=by simp[rdH]
theorem c9{f:FuncId}{args:List AVal}{h j l:Heap}{s:Bs}{b:Bool}{x:AVal}{s1:Bs}{b1:Bool}(g:∀j,Sat (CT G) f args (rdH h j s b) (fun r h'=>r=x∧h'=rdH h j s1 b1)):
  Sat (CT G) f args (rdH h j s b++l) (fun r h'=>r=x∧h'=rdH h j s1 b1++l):=by
 rw[ra];refine(g (j++l)).mono fun r h' ⟨e1,e2⟩=>⟨e1,by rw[e2,ra]⟩
def attrX(s:Bs)(b:Bool):At×Bs×Bool:=
 let n:=nameW s
 let b1:=b||badN n
 let s2:=(nameR s).dropWhile blankB
 let b3:=b1|| !Lib.hasPrefix s2 [61]
 let s4:=(Lib.trimPrefix s2 [61]).dropWhile blankB
 if b3=true then((n,[]),s4,b3)else((n,(valueF s4 b3).1),(valueF s4 b3).2.1,(valueF s4 b3).2.2)
theorem aL(p:UInt8→Bool)(s:Bs):(s.dropWhile p).length≤s.length:=(List.dropWhile_sublist p).length_le
theorem wR(hG:GOk G)(s:Bs)(b:Bool)(hs:s.length≤1048576)(h j:Heap):Sat (CT G) 243 [.hp h.length 0 0 0] (rdH h j s b)
  (fun r h'=>r=(attrX s b).1.av∧h'=rdH h j (attrX s b).2.1 (attrX s b).2.2):=by
 have h1:(nameR s).length≤s.length:=aL _ _;have h2:=aL blankB (nameR s);have h3:=aO ((nameR s).dropWhile blankB) [61];have h4:=aL blankB (Lib.trimPrefix ((nameR s).dropWhile blankB) [61]);have c1:∀l,Sat (CT G) 240 [.hp h.length 0 0 0] (rdH h j s b++l) _:=fun l=>c9 G (l:=l) fun j=>hZ G s b (by omega) h j
 have c2:∀l b1,Sat (CT G) 241 [.hp h.length 0 0 0] (rdH h j (nameR s) b1++l) _:=fun l b1=>c9 G (l:=l) fun j=>fS G (nameR s) b1 (by omega) h j
 have c3:∀l b1,Sat (CT G) 242 [.hp h.length 0 0 0,.str [61]] (rdH h j ((nameR s).dropWhile blankB) b1++l) _:=fun l b1=>c9 G (l:=l) fun j=>jW G [61] ((nameR s).dropWhile blankB) b1 h j
 have c4:∀l b1,Sat (CT G) 241 [.hp h.length 0 0 0] (rdH h j (Lib.trimPrefix ((nameR s).dropWhile blankB) [61]) b1++l) _:=fun l b1=>c9 G (l:=l) fun j=>fS G _ b1 (by omega) h j
 have c5:∀l b1,Sat (CT G) 263 [.hp h.length 0 0 0] (rdH h j ((Lib.trimPrefix ((nameR s).dropWhile blankB) [61]).dropWhile blankB) b1++l) _:=fun l b1=>c9 G (l:=l) fun j=>uE G hG _ b1 (by omega) h j
 refine sb [.cell 2 254] Tryz.func243 ?_;intro Q hQ;refine af trivial ?_;refine aF trivial (c1 _) ?_;refine aF trivial (c2 _ _) ?_;refine aF trivial (c3 _ _) ?_;refine aF trivial (c4 _ _) ?_;refine aC trivial (fun hc=>?_) (fun hc=>?_)<;>(try exact hc.elim)<;>(refine af trivial ?_)
 ·refine aF trivial (c5 _ _) ?_;refine yv hQ trivial ?_;have e:attrX s b=((nameW s,(valueF _ _).1),(valueF _ _).2.1,(valueF _ _).2.2):=L1 (by simp[hc]);rw[e];exact cF h j _ _ s _ b rfl (fun n=>.agg _ (by intro c hc;simp at hc;rcases hc with rfl|rfl<;>exact .str _))
 ·refine yv hQ trivial ?_;have e:attrX s b=((nameW s,[]),_,_):=L7 (by simpa using hc);rw[e];exact cF h j _ _ s _ b rfl (fun n=>.agg _ (by intro c hc;simp at hc;rcases hc with rfl|rfl<;>exact .str _))
theorem sR(a:At)(w:Bs)(h:Heap):Sat (CT G) 265 [a.av,.hp h.length 0 0 0] (h++[.row 9 1 0 [.str w]])
  (fun r h'=>r=.bool (a.1==w)∧h'=h++[.row 9 1 0 [.str w]]):=by
 obtain⟨n,v⟩:=a;show Sat _ _ [.agg [.str n,.str v],_] _ _;refine sb [.tmp 3] Tryz.func265 ?_;intro Q hQ;refine af trivial ?_;refine af trivial ?_;refine au hQ trivial ?_;exact Y0 (j:=_) (O4 h [_] [_]).symm (.bool _) ⟨rfl,rfl⟩
def idxG(p:At→Bool)(l:List At):Int:=match l.findIdx? p with
 |some i=>i
 |none=> -1
theorem wT(p:At→Bool)(l:List At):decide (0≤idxG p l)=l.any p:=by
 unfold idxG;cases h:l.findIdx? p with
 |some i=>
  rw[List.findIdx?_eq_some_iff_getElem]at h;obtain⟨hi,h1,_⟩:=h;have:l.any p=true:=Z6.2 ⟨l[i],Z4 hi,h1⟩;rw[this];simp
 |none=>
  rw[List.findIdx?_eq_none_iff]at h;have:l.any p=false:=by rw[Z0];intro a ha;simp[h a ha]
  rw[this];rfl
theorem oO(s:Bs)(h:Heap):Sat (CT G) 212 [.str s] h (fun r h'=>r=.sl 4 ([(3,[],[],s)].map Tok.av)∧h'=h):=by
 skip
 refine sb [.tmp 2] Tryz.func212 ?_;intro Q hQ;refine ul trivial ?_;refine ul trivial ?_;refine au hQ trivial ?_;have fz:=mX (h0:=h) (h1:=h++[.row 221 4 0 [.agg [.int .i64 3,.str [],.nil (.slice none 0 0),.str s]]]) (pre:=h) (post:=[]) [] 3 [] s rfl rfl (M3 _);exact za2 fz ⟨rfl,rfl⟩
theorem de(h j jj:Heap)(s s0:Bs)(b b0:Bool){h2:Heap}{x y:AVal}(hh:h2=rdH h j s b++jj)(hx:Frz h2 (rdH h j s0 b0).length x y):Fin (rdH h j s0 b0) h2 (fun r h'=>r=y∧h'=rdH h j s b) x:=by
 subst hh;exact Fin.keepF (by simp only[dc]) (fun p k hk=>r9 _ _ _ _ _ _ _ p k hk) hx ⟨rfl,rfl⟩
def kindF(s:Bs)(b:Bool):Bs×Bool:=
 let u:=uptoF [62] s b
 (u.2.1,Lib.contains u.1 [91]||u.2.2)
theorem wV(hG:GOk G)(s:Bs)(b:Bool)(hs:s.length≤1048576)(h j:Heap):Sat (CT G) 211 [.hp h.length 0 0 0] (rdH h j s b)
  (fun r h'=>r=.sl 4 []∧h'=rdH h j (kindF s b).1 (kindF s b).2):=by
 have hu:=fU [62] s b;have hus:=dL G hG [62] s b (by omega) h j;have hv:kindF s b=((uptoF [62] s b).2.1,Lib.contains (uptoF [62] s b).1 [91]||(uptoF [62] s b).2.2):=rfl;rw[hv];generalize uptoF [62] s b=u at hu hus ⊢;refine sb [.tmp 2] Tryz.func211 ?_;intro Q hQ;refine ul trivial ?_;refine um trivial (hus) ?_;refine um trivial (du G hG u.1 [91] (by omega) _) ?_;have end_:=fun b1=>de h j [] u.2.1 s b1 b (x:=.nil (.slice none 0 0)) (y:=.sl 4 []) (N3 _).symm (Frz.nils 4)
 (first|refine bn trivial (fun g=>?_) (fun g=>?_)|refine bp trivial (fun g=>?_) (fun g=>?_))<;>(try exact g.elim)<;>(try refine ai trivial ?_)<;>(refine ul trivial ?_)
 ·refine au hQ trivial ?_;rw[g,T6]at*;exact end_ _
 ·refine au hQ trivial ?_;rw[g,Y7]at*;exact end_ _
def closeF(s:Bs)(b:Bool):Bs×Bool:=
 let s2:=(nameR s).dropWhile blankB
 (Lib.trimPrefix s2 [62],(b||badN (nameW s))|| !Lib.hasPrefix s2 [62])
theorem uG(s:Bs)(b:Bool)(hs:s.length≤1048576)(h j:Heap):Sat (CT G) 213 [.hp h.length 0 0 0] (rdH h j s b)
  (fun r h'=>r=.sl 4 ([(2,nameW s,[],[])].map Tok.av)∧h'=rdH h j (closeF s b).1 (closeF s b).2):=by
 have h1:(nameR s).length≤s.length:=aL _ _;have c1:∀l,Sat (CT G) 240 [.hp h.length 0 0 0] (rdH h j s b++l) _:=fun l=>c9 G (l:=l) fun j=>hZ G s b (by omega) h j
 have c2:∀l b1,Sat (CT G) 241 [.hp h.length 0 0 0] (rdH h j (nameR s) b1++l) _:=fun l b1=>c9 G (l:=l) fun j=>fS G (nameR s) b1 (by omega) h j
 have c3:∀l b1,Sat (CT G) 242 [.hp h.length 0 0 0,.str [62]] (rdH h j ((nameR s).dropWhile blankB) b1++l) _:=fun l b1=>c9 G (l:=l) fun j=>jW G [62] ((nameR s).dropWhile blankB) b1 h j
 refine sb [.tmp 2] Tryz.func213 ?_;intro Q hQ;refine ul trivial ?_;refine um trivial (hZ G s b (by omega) h j) ?_;refine um trivial (c2 _ _) ?_;refine um trivial (c3 _ _) ?_;refine au hQ trivial ?_;refine de h j _ _ s _ b rfl ?_;exact mX (pre:=rdH h j _ _++[_]) (post:=[]) [] 2 (nameW s) [] (O4 _ [_] [_]).symm (by simp[dc];try omega) (by simp[dc];try omega)
end
section
attribute [local irreducible] WP WPl WPix Sat
theorem At.cells_sto(e:At):∀c∈e.av.cells,c.sto=true:=by
 rw[At.av_cells];intro c hc;simp only[N0,Q8,or_false]at hc;rcases hc with rfl|rfl<;>rfl
theorem Frz.ats{h:Heap}{n q v e:Nat}{l:List At}{len:Nat}{room:Bool}(hq:n≤q)(hg:getRow h q v=some (e,2,l.map At.av))(hlen:len=l.length):Frz h n (.hs q v 0 len room) (.sl 2 (l.map At.av)):=
 Frz.data hq hg (by simpa using hlen) (fun r hr=>by obtain⟨a,_,rfl⟩:=M7.1 hr;exact At.clo _ a) (fun r hr=>by obtain⟨a,_,rfl⟩:=M7.1 hr;exact At.cells_sto a)
variable (G:Nat→Option (List AVal))
theorem lV(p:At→Bool)(g:FuncId)(cap:List AVal)(h:Heap)(hg:∀a:At,Sat (CT G) g ([]++[a.av]++cap) h (fun r h'=>r=.bool (p a)∧h'=h))(l:List At)(q v:Nat)(hrow:getRow h q v=some (254,2,l.map At.av))(hl:l.length≤1073741824):
  Sat (CT G) 221 [.hs q v 0 l.length true,.fn (.func g) [] cap] h
   (fun r h'=>r=.int .i64 (idxG p l)∧h'=h):=by
 have F:= @hrow;refine sb [.tmp 4] Tryz.func221 ?_;intro Q hQ;refine af F ?_;refine lm (fun nL tL hL=>∃(k:Nat),l.length-k=nL∧h=hL∧tL 8=.int .i64 k∧k≤l.length∧∀a∈l.take k,p a=false) ((fun(k:Nat)=>(l.length-k:Nat)) (0)) ?_ ?_
 ·refine M5 ⟨0,rfl,aw,?_,V0 _,by simp⟩;all_goals first|exact az F|rfl|omega|trivial|skip
 rintro _ s2 h' ⟨k,rfl,rfl,e8,hk,hp⟩ K2 hK2;simp only[ak,am,Nat.reduceEqDiff, ↓reduceIte]at e8;have F:=F2 F e8;refine af F ?_;refine aC F (fun hc=>?_) (fun hc=>?_)<;>(try exact hc.elim)
 ·obtain⟨y,hy,hym⟩:=aj hc;have F:=F2 F hy;refine af F ?_;refine⟨hc,?_⟩;refine aF F (hg y) ?_;refine aC F (fun hq=>?_) (fun hq=>?_)<;>(try exact hq.elim)<;>(refine af F ?_)
  ·refine au hQ F ?_;have e:idxG p l=k:=by
    unfold idxG;have:l.findIdx? p=some k:=by
     rw[List.findIdx?_eq_some_iff_getElem];refine⟨hc,?_,?_⟩
     ·rw[L3 hc]at hy;cases hy;exact hq
     ·intro i hi;rw[hp _ (by rw[List.mem_take_iff_getElem];exact⟨i,by omega,rfl⟩)];simp
    rw[this]
   rw[e];exact Y0 (j:=[]) (N3 _).symm (.int _ _) ⟨rfl,rfl⟩
  ·have hp1:∀a∈l.take (k+1),p a=false:=by
    rw[R6,hy];intro a ha;simp at ha;rcases ha with ha|rfl
    ·exact hp a ha
    ·exact hq
   refine hK2 _ _ _ (M5 ⟨k+1,rfl,aw,?_,by omega,hp1⟩) (by omega);all_goals first|exact az F|rfl|omega|trivial|skip
 ·refine af F ?_;refine au hQ F ?_;have e:idxG p l= -1:=by
   unfold idxG;have:l.findIdx? p=none:=by
    rw[List.findIdx?_eq_none_iff];intro a ha;exact hp a (by rwa [O1 hc])
   rw[this]
  rw[e];exact Y0 (j:=[]) (N3 _).symm (.int _ _) ⟨rfl,rfl⟩
theorem js(p:At→Bool)(g:FuncId)(cap:List AVal)(h:Heap)(hg:∀a:At,Sat (CT G) g ([]++[a.av]++cap) h (fun r h'=>r=.bool (p a)∧h'=h))(l:List At)(q v:Nat)(hrow:getRow h q v=some (254,2,l.map At.av))(hl:l.length≤1073741824):
  Sat (CT G) 264 [.hs q v 0 l.length true,.fn (.func g) [] cap] h
   (fun r h'=>r=.bool (l.any p)∧h'=h):=by
 refine sb [.tmp 4] Tryz.func264 ?_;intro Q hQ;refine af trivial ?_;refine aF trivial (lV G p g cap h hg l q v hrow hl) ?_;refine au hQ trivial ?_;rw[wT]at*;exact Y0 (j:=[]) (N3 _).symm (.bool _) ⟨rfl,rfl⟩
theorem sS(l:List At)(w:Bs)(h:Heap)(q v:Nat)(hrow:getRow h q v=some (254,2,l.map At.av))(hl:l.length≤1073741824):Sat (CT G) 244 [.hs q v 0 l.length true,.str w] h
  (fun r h'=>r=.bool (l.any fun a=>a.1==w)∧h'=h):=by
 refine sb [.tmp 4] Tryz.func244 ?_;intro Q hQ;refine af trivial ?_;refine aF trivial (js G (fun a=>a.1==w) 265 [.hp h.length 0 0 0] _ (fun a=>sR G a w h) l q v (eQ hrow) hl) ?_;refine au hQ trivial ?_;exact Y0 (j:=_) rfl (.bool _) ⟨rfl,rfl⟩
end
section
attribute [local irreducible] WP WPl WPix Sat
variable (G:Nat→Option (List AVal))
def textP(c:Int):Bool:= !(decide (c=60))
def textB(b:UInt8):Bool:=textP b.toNat
theorem yV:ByByte textP textB true:=⟨fun _ _=>rfl,fun c hc _=>by unfold textP;simp;omega,fun b hb=>by unfold textB textP;simp;omega⟩
theorem uH(c:Int)(h:Heap):Sat (CT G) 217 [.int .i32 c] h (fun r h'=>r=.bool (textP c)∧h'=h):=by
 refine sb [.tmp 2] Tryz.func217 ?_;intro Q hQ;refine af trivial ?_;refine au hQ trivial ?_;exact Y0 (j:=[]) (N3 _).symm (.bool _) ⟨by unfold textP;rfl,rfl⟩
def openL:Nat→Bs→List At→Bs→Bool→List Tok×Bs×Bool
 |0,_,_,s,_=>([],s,true)
 |f+1,n,at_,s,b=>
  if b=true then([],s,true)else
  if Lib.hasPrefix (s.dropWhile blankB) [62]=true then([(1,n,at_,[])],Lib.trimPrefix (s.dropWhile blankB) [62],false)else
  if Lib.hasPrefix (s.dropWhile blankB) [47,62]=true then([(1,n,at_,[]),(2,n,[],[])],Lib.trimPrefix (s.dropWhile blankB) [47,62],false)else
  openL f n (at_++[(attrX (s.dropWhile blankB) false).1]) (attrX (s.dropWhile blankB) false).2.1
   ((((attrX (s.dropWhile blankB) false).2.2||s.takeWhile blankB==[])||at_.any fun a=>a.1==(attrX (s.dropWhile blankB) false).1.1)||decide (32≤at_.length))
theorem bK(w s:Bs)(b:Bool):(uptoF w s b).2.1.length≤s.length:=(fU w s b).2
theorem uI(s:Bs)(b:Bool):(valueF s b).2.1.length≤s.length:=by
 have h1:=aO s (if Lib.hasPrefix s [34]=true then [34]else [39]);have h2:=bK (if Lib.hasPrefix s [34]=true then [34]else [39]) (Lib.trimPrefix s (if Lib.hasPrefix s [34]=true then [34]else [39])) (b|| !Lib.hasPrefix s (if Lib.hasPrefix s [34]=true then [34]else [39]));show(uptoF _ _ _).2.1.length≤_;omega
theorem gz(s:Bs)(h:badN (nameW s)=false):(nameR s).length<s.length:=by
 have h1:(nameW s).length+(nameR s).length=s.length:=by
  have:=N5 List.length (U7 (p:=moreB) (l:=s));rw[L4]at this;exact this
 cases hn:nameW s with
 |nil=>rw[hn]at h;cases h
 |cons c t=>rw[hn]at h1;simp at h1;omega
theorem fV(s:Bs)(b:Bool):(attrX s b).2.1.length≤(nameR s).length:=by
 have h2:=aL blankB (nameR s);have h3:=aO ((nameR s).dropWhile blankB) [61];have h4:=aL blankB (Lib.trimPrefix ((nameR s).dropWhile blankB) [61]);unfold attrX;simp only[];split
 ·simp only[];omega
 ·have:=uI ((Lib.trimPrefix ((nameR s).dropWhile blankB) [61]).dropWhile blankB) (b||badN (nameW s)|| !Lib.hasPrefix ((nameR s).dropWhile blankB) [61]);simp only[];omega
theorem kX(s:Bs)(h:(attrX s false).2.2=false):badN (nameW s)=false:=by
 cases hb:badN (nameW s)with
 |false=>rfl
 |true=>
  exfalso;unfold attrX at h;simp only[hb,Bool.or_true,T6,if_true]at h;cases h
theorem sT(s:Bs)(h:(attrX s false).2.2=false):(attrX s false).2.1.length<s.length:=by
 have h1:=fV s false;have h2:=gz s (kX s h);omega
def openF(s:Bs):List Tok×Bs×Bool:=openL (s.length+3) (nameW s) [] (nameR s) (badN (nameW s))
def tkR(n:Bs)(q v len:Nat):Blk:=.row 221 4 0 [.agg [.int .i64 1,.str n,.hs q v 0 len true,.str []]]
def atR(v:Nat)(l:List At):Blk:=.row 254 2 v (l.map At.av)
@[go_sem] theorem Db(n:Bs)(q v len:Nat)(l:Heap):getRow (tkR n q v len::l) 0 0=some (221,4,[.agg [.int .i64 1,.str n,.hs q v 0 len true,.str []]]):=rfl
@[go_sem] theorem BT(n:Bs)(q v len:Nat)(l:Heap)(k u:Nat):getRow (tkR n q v len::l) (k+1) u=getRow l k u:=rfl
@[go_sem] theorem Dc(v:Nat)(l:List At)(j:Heap):getRow (atR v l::j) 0 v=some (254,2,l.map At.av):=by simp[getRow,atR]
@[go_sem] theorem BU(v:Nat)(l:List At)(j:Heap)(k u:Nat):getRow (atR v l::j) (k+1) u=getRow j k u:=rfl
theorem rb{H:Heap}{n q v e:Nat}(k:Int)(nm:Bs)(l:List At)(hg:getRow H q v=some (e,2,l.map At.av))(hq:n≤q):FrzR H n (.agg [.int .i64 k,.str nm,.hs q v 0 l.length true,.str []]) (Tok.av (k,nm,l,[])):=
 FrzL.row (.cons (.clo _ (.int _ _)) (.cons (.clo _ (.str _)) (.cons (Frz.ats hq hg rfl) (.cons (.clo _ (.str _)) .nil)))) rfl
theorem wW{H:Heap}{n:Nat}(k:Int)(nm:Bs):FrzR H n (.agg [.int .i64 k,.str nm,.nil (.slice none 0 0),.str []]) (Tok.av (k,nm,[],[])):=
 FrzL.row (.cons (.clo _ (.int _ _)) (.cons (.clo _ (.str _)) (.cons (.nils _) (.cons (.clo _ (.str _)) .nil)))) rfl
theorem wX(hG:GOk G)(s:Bs)(hs:s.length≤1048576)(h j:Heap):Sat (CT G) 214 [.hp h.length 0 0 0] (rdH h j s false)
  (fun r h'=>r=.sl 4 ((openF s).1.map Tok.av)∧h'=rdH h j (openF s).2.1 (openF s).2.2):=by
 have h1:(nameR s).length≤s.length:=aL _ _;have c1:∀s b l,s.length≤1048576→Sat (CT G) 241 [.hp h.length 0 0 0] (rdH h j s b++l) _:=fun s b l hs=>c9 G (l:=l) fun j=>fS G s b (by omega) h j
 have c2:∀w s b l,Sat (CT G) 209 [.hp h.length 0 0 0,.str w] (rdH h j s b++l) _:=fun w s b l=>c9 G (l:=l) fun j=>bS G w s b h j
 have c3:∀s b l,s.length≤1048576→Sat (CT G) 243 [.hp h.length 0 0 0] (rdH h j s b++l) _:=fun s b l hs=>c9 G (l:=l) fun j=>wR G hG s b hs h j
 have end_:=fun(jj:Heap) (x:AVal)=>de h j jj (openF s).2.1 s (openF s).2.2 false (x:=x) (y:=.sl 4 ((openF s).1.map Tok.av)) rfl
 skip
 refine sb [.tmp 2] Tryz.func214 ?_;intro Q hQ;(repeat (first|refine w1 (fun K hK=>?_)|refine w2 ?_|refine w3 ?_| ((first|refine w4 ?_|refine wD ?_|refine w5 ?_|refine w6 ?_|refine w7 ?_);try refine sq trivial ?_)| (refine w8 ?_;refine sq trivial ?_;refine w9 ?_)| (refine xq trivial ?_;try refine sq trivial ?_)| ((first|refine hK _ _ (w0 ?_)| (clear hK K;refine hK _ _ (w0 ?_))| (clear hK K;clear hK K;refine hK _ _ (w0 ?_)));clear hK K)))
 refine(hZ G s false (by omega) h j).mono ?_;rintro r h' ⟨rfl,rfl⟩;try refine sq trivial ?_
 (repeat (first|refine w1 (fun K hK=>?_)|refine w2 ?_|refine w3 ?_| ((first|refine w4 ?_|refine wD ?_|refine w5 ?_|refine w6 ?_|refine w7 ?_);try refine sq trivial ?_)| (refine w8 ?_;refine sq trivial ?_;refine w9 ?_)| (refine xq trivial ?_;try refine sq trivial ?_)| ((first|refine hK _ _ (w0 ?_)| (clear hK K;refine hK _ _ (w0 ?_))| (clear hK K;clear hK K;refine hK _ _ (w0 ?_)));clear hK K)))
 refine lm (fun nL tL hL=>∃(f v:Nat) (s1:Bs) (b:Bool) (at_:List At) (jj:Heap),f=nL∧rdH h j s1 b++tkR (nameW s) (h.length+(1+(j.length+1))) v at_.length::atR v at_::jj=hL∧tL 0=.hp h.length 0 0 0∧tL 3=.hp (h.length+(1+j.length)) 0 0 0∧s1.length≤s.length∧(1≤f∧(b=false→s1.length+2≤f))∧openL f (nameW s) at_ s1 b=openF s∧((b=false→at_.length≤32))) ((fun(f v:Nat) (s1:Bs) (b:Bool) (at_:List At) (jj:Heap)=>(f:Nat)) ((s.length+3)) (0) ((nameR s)) (badN (nameW s)) ([]) ([])) ?_ ?_
 ·refine⟨_,_,Z1 (p:=h.length+(1+j.length)) (v:=0) 254 2 (by omega) (by simp(disch:=first|omega| (simp only[go_sem, ↓reduceIte,seval];first|done|omega)|fail) only[go_sem, ↓reduceIte,seval];rfl) 2 rfl,⟨(s.length+3),0,(nameR s),badN (nameW s),[],[],rfl,(by rw[oN];simp[dc,tkR,atR,Nat.add_assoc]),?_,?_,h1,⟨by omega,fun _=>by omega⟩,rfl,fun _=>by simp⟩⟩;all_goals try exact zZz trivial
 rintro _ s2 h' ⟨f,v,s1,b,at_,jj,rfl,rfl,e0,e3,hs1,hf,hp,ha⟩ K2 hK2;simp only[ak,am,Nat.reduceEqDiff, ↓reduceIte]at e0 e3;have F:=F2 e0 e3;(repeat (first|refine w1 (fun K hK=>?_)|refine w2 ?_|refine w3 ?_| ((first|refine w4 ?_|refine wD ?_|refine w5 ?_|refine w6 ?_|refine w7 ?_);try refine sq F ?_)| (refine w8 ?_;refine sq F ?_;refine w9 ?_)| (refine xq F ?_;try refine sq F ?_)| ((first|refine hK _ _ (w0 ?_)| (clear hK K;refine hK _ _ (w0 ?_))| (clear hK K;clear hK K;refine hK _ _ (w0 ?_)));clear hK K)))
 refine cq F (fun hc=>?_) (fun hc=>?_)<;>(try exact hc.elim)<;>((repeat (first|refine w1 (fun K hK=>?_)|refine w2 ?_|refine w3 ?_| ((first|refine w4 ?_|refine wD ?_|refine w5 ?_|refine w6 ?_|refine w7 ?_);try refine sq F ?_)| (refine w8 ?_;refine sq F ?_;refine w9 ?_)| (refine xq F ?_;try refine sq F ?_)| ((first|refine hK _ _ (w0 ?_)| (clear hK K;refine hK _ _ (w0 ?_))| (clear hK K;clear hK K;refine hK _ _ (w0 ?_)));clear hK K))))
 ·subst hc;obtain⟨g,rfl⟩:∃g,f=g+1:=⟨f-1,by omega⟩;have hd:=aL blankB s1;rw[openL,L1 (by simp)]at hp;have hf2:=hf.2 rfl;have ha2:=ha rfl;(repeat (first|refine w1 (fun K hK=>?_)|refine w2 ?_|refine w3 ?_| ((first|refine w4 ?_|refine wD ?_|refine w5 ?_|refine w6 ?_|refine w7 ?_);try refine sq F ?_)| (refine w8 ?_;refine sq F ?_;refine w9 ?_)| (refine xq F ?_;try refine sq F ?_)| ((first|refine hK _ _ (w0 ?_)| (clear hK K;refine hK _ _ (w0 ?_))| (clear hK K;clear hK K;refine hK _ _ (w0 ?_)));clear hK K)))
  refine(c1 _ _ _ (by omega)).mono ?_;rintro r h' ⟨rfl,rfl⟩;try refine sq F ?_
  (repeat (first|refine w1 (fun K hK=>?_)|refine w2 ?_|refine w3 ?_| ((first|refine w4 ?_|refine wD ?_|refine w5 ?_|refine w6 ?_|refine w7 ?_);try refine sq F ?_)| (refine w8 ?_;refine sq F ?_;refine w9 ?_)| (refine xq F ?_;try refine sq F ?_)| ((first|refine hK _ _ (w0 ?_)| (clear hK K;refine hK _ _ (w0 ?_))| (clear hK K;clear hK K;refine hK _ _ (w0 ?_)));clear hK K)))
  refine(c2 [62] _ _ _).mono ?_;rintro r h' ⟨rfl,rfl⟩;try refine sq F ?_
  (repeat (first|refine w1 (fun K hK=>?_)|refine w2 ?_|refine w3 ?_| ((first|refine w4 ?_|refine wD ?_|refine w5 ?_|refine w6 ?_|refine w7 ?_);try refine sq F ?_)| (refine w8 ?_;refine sq F ?_;refine w9 ?_)| (refine xq F ?_;try refine sq F ?_)| ((first|refine hK _ _ (w0 ?_)| (clear hK K;refine hK _ _ (w0 ?_))| (clear hK K;clear hK K;refine hK _ _ (w0 ?_)));clear hK K)))
  refine cq F (fun hc1=>?_) (fun hc1=>?_)<;>(try exact hc1.elim)<;>((repeat (first|refine w1 (fun K hK=>?_)|refine w2 ?_|refine w3 ?_| ((first|refine w4 ?_|refine wD ?_|refine w5 ?_|refine w6 ?_|refine w7 ?_);try refine sq F ?_)| (refine w8 ?_;refine sq F ?_;refine w9 ?_)| (refine xq F ?_;try refine sq F ?_)| ((first|refine hK _ _ (w0 ?_)| (clear hK K;refine hK _ _ (w0 ?_))| (clear hK K;clear hK K;refine hK _ _ (w0 ?_)));clear hK K))))
  ·rw[L7 hc1]at hp;refine ee hQ F ?_;rw[← hp];refine de h j _ _ s _ false rfl ?_;exact FrzRs.hs (by simp(disch:=first|omega| (simp only[go_sem, ↓reduceIte,seval];first|done|omega)|fail) only[go_sem, ↓reduceIte,seval,F];rfl) rfl (by simp(disch:=first|omega| (simp only[go_sem, ↓reduceIte,seval];first|done|omega)|fail) only[go_sem, ↓reduceIte,seval,F];omega) (.cons (rb 1 _ at_ (by simp(disch:=first|omega| (simp only[go_sem, ↓reduceIte,seval];first|done|omega)|fail) only[go_sem, ↓reduceIte,seval,F];rfl) (by simp(disch:=first|omega| (simp only[go_sem, ↓reduceIte,seval];first|done|omega)|fail) only[go_sem, ↓reduceIte,seval,F];omega)) .nil)
  ·rw[L1 (by simp[hc1])]at hp;have htp:Lib.trimPrefix (s1.dropWhile blankB) [62]=s1.dropWhile blankB:=(by unfold Lib.trimPrefix;rw[L1 (by simp[hc1])]);rw[htp];refine(c2 [47,62] _ _ _).mono ?_;rintro r h' ⟨rfl,rfl⟩;(try refine sq F ?_);(repeat (first|refine w1 (fun K hK=>?_)|refine w2 ?_|refine w3 ?_| ((first|refine w4 ?_|refine wD ?_|refine w5 ?_|refine w6 ?_|refine w7 ?_);try refine sq F ?_)| (refine w8 ?_;refine sq F ?_;refine w9 ?_)| (refine xq F ?_;try refine sq F ?_)| ((first|refine hK _ _ (w0 ?_)| (clear hK K;refine hK _ _ (w0 ?_))| (clear hK K;clear hK K;refine hK _ _ (w0 ?_)));clear hK K)))
   refine cq F (fun hc2=>?_) (fun hc2=>?_)<;>(try exact hc2.elim)<;>((repeat (first|refine w1 (fun K hK=>?_)|refine w2 ?_|refine w3 ?_| ((first|refine w4 ?_|refine wD ?_|refine w5 ?_|refine w6 ?_|refine w7 ?_);try refine sq F ?_)| (refine w8 ?_;refine sq F ?_;refine w9 ?_)| (refine xq F ?_;try refine sq F ?_)| ((first|refine hK _ _ (w0 ?_)| (clear hK K;refine hK _ _ (w0 ?_))| (clear hK K;clear hK K;refine hK _ _ (w0 ?_)));clear hK K))))
   ·rw[L7 hc2]at hp;refine ee hQ F ?_;rw[← hp];refine de h j _ _ s _ false rfl ?_;exact FrzRs.hs (by simp(disch:=first|omega| (simp only[go_sem, ↓reduceIte,seval];first|done|omega)|fail) only[go_sem, ↓reduceIte,seval,F];rfl) rfl (by simp(disch:=first|omega| (simp only[go_sem, ↓reduceIte,seval];first|done|omega)|fail) only[go_sem, ↓reduceIte,seval,F];omega) (.cons (rb 1 _ at_ (by simp(disch:=first|omega| (simp only[go_sem, ↓reduceIte,seval];first|done|omega)|fail) only[go_sem, ↓reduceIte,seval,F];rfl) (by simp(disch:=first|omega| (simp only[go_sem, ↓reduceIte,seval];first|done|omega)|fail) only[go_sem, ↓reduceIte,seval,F];omega)) (.cons (wW 2 _) .nil))
   ·rw[L1 (by simp[hc2])]at hp;have htp2:Lib.trimPrefix (s1.dropWhile blankB) [47,62]=s1.dropWhile blankB:=(by unfold Lib.trimPrefix;rw[L1 (by simp[hc2])]);rw[htp2];refine(c3 _ _ _ (by omega)).mono ?_;rintro r h' ⟨rfl,rfl⟩;(try refine sq F ?_);(repeat (first|refine w1 (fun K hK=>?_)|refine w2 ?_|refine w3 ?_| ((first|refine w4 ?_|refine wD ?_|refine w5 ?_|refine w6 ?_|refine w7 ?_);try refine sq F ?_)| (refine w8 ?_;refine sq F ?_;refine w9 ?_)| (refine xq F ?_;try refine sq F ?_)| ((first|refine hK _ _ (w0 ?_)| (clear hK K;refine hK _ _ (w0 ?_))| (clear hK K;clear hK K;refine hK _ _ (w0 ?_)));clear hK K)))
    have hl:=sT (s1.dropWhile blankB);have hl2:=fV (s1.dropWhile blankB) false;have hl3:=aL moreB (s1.dropWhile blankB)
    change (nameR (s1.dropWhile blankB)).length≤_ at hl3
    generalize attrX (s1.dropWhile blankB) false=x at hp hl hl2 ⊢;obtain⟨a,r,bb⟩:=x;simp only[]at hp hl hl2 ⊢
    skip
    (first|refine gq F (fun g1=>?_) (fun g1=>?_)|refine pq F (fun g1=>?_) (fun g1=>?_))<;>(try exact g1.elim)<;>(try refine sq F ?_)<;>((repeat (first|refine w1 (fun K hK=>?_)|refine w2 ?_|refine w3 ?_| ((first|refine w4 ?_|refine wD ?_|refine w5 ?_|refine w6 ?_|refine w7 ?_);try refine sq F ?_)| (refine w8 ?_;refine sq F ?_;refine w9 ?_)| (refine rq F ?_;try refine sq F ?_)| (refine vq F ?_;try refine sq F ?_)| ((first|refine hK _ _ (w0 ?_)| (clear hK K;refine hK _ _ (w0 ?_))| (clear hK K;clear hK K;refine hK _ _ (w0 ?_)));clear hK K))))
    ·refine aq F ?_;(try refine sq F ?_);(repeat (first|refine w1 (fun K hK=>?_)|refine w2 ?_|refine w3 ?_| ((first|refine w4 ?_|refine wD ?_|refine w5 ?_|refine w6 ?_|refine w7 ?_);try refine sq F ?_)| (refine w8 ?_;refine sq F ?_;refine w9 ?_)| (refine rq F ?_;try refine sq F ?_)| (refine vq F ?_;try refine sq F ?_)| ((first|refine hK _ _ (w0 ?_)| (clear hK K;refine hK _ _ (w0 ?_))| (clear hK K;clear hK K;refine hK _ _ (w0 ?_)));clear hK K)))
     rw[g1,T6,T6,T6]at hp;refine hK2 _ _ _ (M5 ⟨g,v+1,r,true,at_++[a],jj++[.row 254 2 0 [a.av]],rfl,by simp[tkR,atR],?_,?_,by omega,⟨by omega,fun h=>by cases h⟩,hp,fun h=>by cases h⟩) (by omega);all_goals try exact zZz F
    ·rw[g1,Y7]at hp;(first|refine gq F (fun g2=>?_) (fun g2=>?_)|refine pq F (fun g2=>?_) (fun g2=>?_))<;>(try exact g2.elim)<;>(try refine sq F ?_)<;>((repeat (first|refine w1 (fun K hK=>?_)|refine w2 ?_|refine w3 ?_| ((first|refine w4 ?_|refine wD ?_|refine w5 ?_|refine w6 ?_|refine w7 ?_);try refine sq F ?_)| (refine w8 ?_;refine sq F ?_;refine w9 ?_)| (refine rq F ?_;try refine sq F ?_)| (refine vq F ?_;try refine sq F ?_)| ((first|refine hK _ _ (w0 ?_)| (clear hK K;refine hK _ _ (w0 ?_))| (clear hK K;clear hK K;refine hK _ _ (w0 ?_)));clear hK K))))
     ·refine aq F ?_;(try refine sq F ?_);(repeat (first|refine w1 (fun K hK=>?_)|refine w2 ?_|refine w3 ?_| ((first|refine w4 ?_|refine wD ?_|refine w5 ?_|refine w6 ?_|refine w7 ?_);try refine sq F ?_)| (refine w8 ?_;refine sq F ?_;refine w9 ?_)| (refine rq F ?_;try refine sq F ?_)| (refine vq F ?_;try refine sq F ?_)| ((first|refine hK _ _ (w0 ?_)| (clear hK K;refine hK _ _ (w0 ?_))| (clear hK K;clear hK K;refine hK _ _ (w0 ?_)));clear hK K)))
      have e:(s1.takeWhile blankB==[])=true:=(by rw[g2];rfl);rw[e,T6,T6]at hp;refine hK2 _ _ _ (M5 ⟨g,v+1,r,true,at_++[a],jj++[.row 254 2 0 [a.av]],rfl,by simp[tkR,atR],?_,?_,by omega,⟨by omega,fun h=>by cases h⟩,hp,fun h=>by cases h⟩) (by omega);all_goals try exact zZz F
     ·have e:(s1.takeWhile blankB==[])=false:=(by simpa using g2);rw[e,Y7]at hp;refine(sS G at_ a.1 _ (h.length+(1+(j.length+1))) v (by simp(disch:=first|omega| (simp only[go_sem, ↓reduceIte,seval];first|done|omega)|fail) only[go_sem, ↓reduceIte,seval,F]) (by omega)).mono ?_;rintro r h' ⟨rfl,rfl⟩;(try refine sq F ?_);(repeat (first|refine w1 (fun K hK=>?_)|refine w2 ?_|refine w3 ?_| ((first|refine w4 ?_|refine wD ?_|refine w5 ?_|refine w6 ?_|refine w7 ?_);try refine sq F ?_)| (refine w8 ?_;refine sq F ?_;refine w9 ?_)| (refine rq F ?_;try refine sq F ?_)| (refine vq F ?_;try refine sq F ?_)| ((first|refine hK _ _ (w0 ?_)| (clear hK K;refine hK _ _ (w0 ?_))| (clear hK K;clear hK K;refine hK _ _ (w0 ?_)));clear hK K)))
      (first|refine gq F (fun g3=>?_) (fun g3=>?_)|refine pq F (fun g3=>?_) (fun g3=>?_))<;>(try exact g3.elim)<;>(try refine sq F ?_)<;>((repeat (first|refine w1 (fun K hK=>?_)|refine w2 ?_|refine w3 ?_| ((first|refine w4 ?_|refine wD ?_|refine w5 ?_|refine w6 ?_|refine w7 ?_);try refine sq F ?_)| (refine w8 ?_;refine sq F ?_;refine w9 ?_)| (refine rq F ?_;try refine sq F ?_)| (refine vq F ?_;try refine sq F ?_)| ((first|refine hK _ _ (w0 ?_)| (clear hK K;refine hK _ _ (w0 ?_))| (clear hK K;clear hK K;refine hK _ _ (w0 ?_)));clear hK K))))
      ·refine aq F ?_;(try refine sq F ?_);(repeat (first|refine w1 (fun K hK=>?_)|refine w2 ?_|refine w3 ?_| ((first|refine w4 ?_|refine wD ?_|refine w5 ?_|refine w6 ?_|refine w7 ?_);try refine sq F ?_)| (refine w8 ?_;refine sq F ?_;refine w9 ?_)| (refine rq F ?_;try refine sq F ?_)| (refine vq F ?_;try refine sq F ?_)| ((first|refine hK _ _ (w0 ?_)| (clear hK K;refine hK _ _ (w0 ?_))| (clear hK K;clear hK K;refine hK _ _ (w0 ?_)));clear hK K)))
       rw[g3,T6]at hp;refine hK2 _ _ _ (M5 ⟨g,v+1,r,true,at_++[a],jj++[.row 254 2 0 [a.av]],rfl,by simp[tkR,atR],?_,?_,by omega,⟨by omega,fun h=>by cases h⟩,hp,fun h=>by cases h⟩) (by omega);all_goals try exact zZz F
      ·refine aq F ?_;(try refine sq F ?_);(repeat (first|refine w1 (fun K hK=>?_)|refine w2 ?_|refine w3 ?_| ((first|refine w4 ?_|refine wD ?_|refine w5 ?_|refine w6 ?_|refine w7 ?_);try refine sq F ?_)| (refine w8 ?_;refine sq F ?_;refine w9 ?_)| (refine rq F ?_;try refine sq F ?_)| (refine vq F ?_;try refine sq F ?_)| ((first|refine hK _ _ (w0 ?_)| (clear hK K;refine hK _ _ (w0 ?_))| (clear hK K;clear hK K;refine hK _ _ (w0 ?_)));clear hK K)))
       rw[g3,Y7]at hp;refine hK2 _ _ _ (M5 ⟨g,v+1,r,decide (32≤at_.length),at_++[a],jj++[.row 254 2 0 [a.av]],rfl,by simp[tkR,atR,show((32:Int)≤at_.length)↔32≤at_.length from by omega],?_,?_,by omega,⟨by omega,fun h=>by have:=hl g1;omega⟩,hp,fun h=>by simp only[decide_eq_false_iff_not]at h;simp;omega⟩) (by omega);all_goals try exact zZz F
 ·refine ee hQ F ?_;subst hc;obtain⟨g,rfl⟩:∃g,f=g+1:=⟨f-1,by omega⟩;rw[openL,L7 rfl]at hp;rw[← hp];exact de h j _ _ s _ false rfl (.nils _)
def p1:Bs:=[60,33,45,45]
def p2:Bs:=[60,63]
def p3:Bs:=[60,33,68,79,67,84,89,80,69]
def p4:Bs:=[60,33,91,67,68,65,84,65,91]
def p5:Bs:=[60,47]
def p6:Bs:=[60]
def partF(s:Bs):List Tok×Bs×Bool:=
 if Lib.hasPrefix s p1=true then([],(uptoF [45,45,62] (Lib.trimPrefix s p1) false).2)
 else if Lib.hasPrefix s p2=true then([],(uptoF [63,62] (Lib.trimPrefix s p2) false).2)
 else if Lib.hasPrefix s p3=true then([],kindF (Lib.trimPrefix s p3) false)
 else if Lib.hasPrefix s p4=true then([(3,[],[],(uptoF [93,93,62] (Lib.trimPrefix s p4) false).1)],(uptoF [93,93,62] (Lib.trimPrefix s p4) false).2)
 else if Lib.hasPrefix s p5=true then([(2,nameW (Lib.trimPrefix s p5),[],[])],closeF (Lib.trimPrefix s p5) false)
 else if Lib.hasPrefix s p6=true then openF (Lib.trimPrefix s p6)
 else([(3,[],[],readP ((s.takeWhile textB).length+1) (s.takeWhile textB))],s.dropWhile textB,false)
theorem fg(s w:Bs)(h:Lib.hasPrefix s w=false):Lib.trimPrefix s w=s:=by unfold Lib.trimPrefix;rw[L1 (by simp[h])]
theorem wY(hG:GOk G)(s:Bs)(hs:s.length≤1048576)(h j:Heap):Sat (CT G) 179 [.hp h.length 0 0 0] (rdH h j s false)
  (fun r h'=>r=.sl 4 ((partF s).1.map Tok.av)∧h'=rdH h j (partF s).2.1 (partF s).2.2):=by
 have ht:=fun w=>aO s w
 have nils:=fun s1 b=>de h j [] s1 s b false (x:=.nil (.slice none 0 0)) (y:=.sl 4 []) (N3 _).symm (.nils _)
 have toks:=fun s1 b (l:List Tok)=>de h j [] s1 s b false (x:=.sl 4 (l.map Tok.av)) (y:=.sl 4 (l.map Tok.av)) (N3 _).symm (.clo _ (Toks.clo _ _ _))
 refine sb [.tmp 2] Tryz.func179 ?_;intro Q hQ;refine wk trivial ?_;refine kq trivial (bS G p1 s false h j) ?_;refine cq trivial (fun c1=>?_) (fun c1=>?_)<;>(try exact c1.elim)<;>(refine wk trivial ?_)
 ·refine kq trivial (dL G hG [45,45,62] (Lib.trimPrefix s p1) false (by have:=ht p1;omega) h j) ?_;have e:partF s=([],(uptoF [45,45,62] (Lib.trimPrefix s p1) false).2):=by unfold partF;rw[L7 c1]
  refine ee hQ trivial ?_;rw[e];exact nils _ _
 rw[fg _ _ c1];refine kq trivial (bS G p2 s false h j) ?_;refine cq trivial (fun c2=>?_) (fun c2=>?_)<;>(try exact c2.elim)<;>(refine wk trivial ?_)
 ·refine kq trivial (dL G hG [63,62] (Lib.trimPrefix s p2) false (by have:=ht p2;omega) h j) ?_;have e:partF s=([],(uptoF [63,62] (Lib.trimPrefix s p2) false).2):=by unfold partF;rw[L1 (by simp[c1]),L7 c2]
  refine ee hQ trivial ?_;rw[e];exact nils _ _
 rw[fg _ _ c2];refine kq trivial (bS G p3 s false h j) ?_;refine cq trivial (fun c3=>?_) (fun c3=>?_)<;>(try exact c3.elim)<;>(refine wk trivial ?_)
 ·refine kq trivial (wV G hG (Lib.trimPrefix s p3) false (by have:=ht p3;omega) h j) ?_;have e:partF s=([],kindF (Lib.trimPrefix s p3) false):=by unfold partF;rw[L1 (by simp[c1]),L1 (by simp[c2]),L7 c3]
  refine ee hQ trivial ?_;rw[e];exact toks _ _ []
 rw[fg _ _ c3];refine kq trivial (bS G p4 s false h j) ?_;refine cq trivial (fun c4=>?_) (fun c4=>?_)<;>(try exact c4.elim)<;>(refine wk trivial ?_)
 ·refine kq trivial (dL G hG [93,93,62] (Lib.trimPrefix s p4) false (by have:=ht p4;omega) h j) ?_;refine kq trivial (oO G _ _) ?_;have e:partF s=([(3,[],[],(uptoF [93,93,62] (Lib.trimPrefix s p4) false).1)],(uptoF [93,93,62] (Lib.trimPrefix s p4) false).2):=by unfold partF;rw[L1 (by simp[c1]),L1 (by simp[c2]),L1 (by simp[c3]),L7 c4]
  refine ee hQ trivial ?_;rw[e];exact toks _ _ [_]
 rw[fg _ _ c4];refine kq trivial (bS G p5 s false h j) ?_;refine cq trivial (fun c5=>?_) (fun c5=>?_)<;>(try exact c5.elim)<;>(refine wk trivial ?_)
 ·refine kq trivial (uG G (Lib.trimPrefix s p5) false (by have:=ht p5;omega) h j) ?_;have e:partF s=([(2,nameW (Lib.trimPrefix s p5),[],[])],closeF (Lib.trimPrefix s p5) false):=by unfold partF;rw[L1 (by simp[c1]),L1 (by simp[c2]),L1 (by simp[c3]),L1 (by simp[c4]),L7 c5]
  refine ee hQ trivial ?_;rw[e];exact toks _ _ [_]
 rw[fg _ _ c5];refine kq trivial (bS G p6 s false h j) ?_;refine cq trivial (fun c6=>?_) (fun c6=>?_)<;>(try exact c6.elim)<;>(refine wk trivial ?_)
 ·refine kq trivial (wX G hG (Lib.trimPrefix s p6) (by have:=ht p6;omega) h j) ?_;have e:partF s=openF (Lib.trimPrefix s p6):=by unfold partF;rw[L1 (by simp[c1]),L1 (by simp[c2]),L1 (by simp[c3]),L1 (by simp[c4]),L1 (by simp[c5]),L7 c6]
  refine ee hQ trivial ?_;rw[e];exact toks _ _ _
 rw[fg _ _ c6];have hw:(s.takeWhile textB).length≤s.length:=(List.takeWhile_sublist _).length_le;refine kq trivial (lT G textP textB true yV 217 s false (by omega) h j (fun c k _=>uH G c k)) ?_;refine kq trivial (fu hG (s.takeWhile textB) (by omega) _) ?_;refine kq trivial (oO G _ _) ?_;have e:partF s=([(3,[],[],readP ((s.takeWhile textB).length+1) (s.takeWhile textB))],s.dropWhile textB,false):=by unfold partF;rw[L1 (by simp[c1]),L1 (by simp[c2]),L1 (by simp[c3]),L1 (by simp[c4]),L1 (by simp[c5]),L1 (by simp[c6])]
 refine ee hQ trivial ?_;rw[e];exact toks _ _ [_]
def addT(l:List Tok)(t:Tok):List Tok:=
 if t.1=3 then
  if t.2.2.2=[]then l else
  match l.getLast? with
  |some u=>if u.1=3 then l.dropLast++[(u.1,u.2.1,u.2.2.1,u.2.2.2++t.2.2.2)]else l++[t]
  |none=>l++[t]
 else l++[t]
theorem mY(l:List Tok)(u t:Tok)(ht:t.1=3)(hn:t.2.2.2≠ []):addT (l++[u]) t=if u.1=3 then l++[(u.1,u.2.1,u.2.2.1,u.2.2.2++t.2.2.2)]else l++[u]++[t]:=by
 unfold addT;rw[L7 ht,L1 hn];simp
theorem oP(t:Tok)(hn:t.1=3→t.2.2.2≠ []):addT [] t=[t]:=by
 unfold addT;split
 ·rename_i h;rw[L1 (hn h)];rfl
 ·rfl
def tksR(v:Nat)(l:List Tok):Blk:=.row 221 4 v (l.map Tok.av)
theorem wZ(n v:Nat)(l:List Tok):CloB n (tksR v l):=by
 intro r hr;obtain⟨a,_,rfl⟩:=M7.1 hr;exact Tok.clo _ _
theorem yW(P j jj:Heap)(v v0:Nat)(l l0:List Tok){h2:Heap}{x:AVal}{R:AVal→Heap→Prop}(hh:h2=P++tksR v l::j++jj)(hx:Clo (P++tksR v0 l0::j).length x)(hR:R x (P++tksR v l::j)):
  Fin (P++tksR v0 l0::j) h2 R x:=by
 refine Fin.keepE (h1:=P++tksR v l::j) hh (by simp) (fun p k hk=>?_) hx hR;rcases T3 p P.length with h1|h1
 ·rw[L5 h1]at hk ⊢;exact .inl hk
 ·rw[L9 h1]at hk ⊢
  match p-P.length,hk with
  |0,hk=>simp at hk;subst hk;exact .inr (wZ _ _ _)
  |i+1,hk=>exact .inl (by simpa using hk)
@[go_sem] theorem Dd(v:Nat)(l:List Tok)(j:Heap):getRow (tksR v l::j) 0 v=some (221,4,l.map Tok.av):=by simp[getRow,tksR]
@[go_sem] theorem BV(v:Nat)(l:List Tok)(j:Heap)(k u:Nat):getRow (tksR v l::j) (k+1) u=getRow j k u:=rfl
theorem yX(P j:Heap)(v:Nat)(l:List Tok)(t:Tok)(hl:l.length≤1048576)(ht:∀u∈l,u.2.2.2.length+t.2.2.2.length≤140737488355328):
  Sat (CT G) 180 [.hs P.length v 0 l.length true,t.av] (P++tksR v l::j) (fun r h'=>∃v',r=.hs P.length v' 0 (addT l t).length true∧h'=P++tksR v' (addT l t)::j):=by
 have end_:=fun(jj:Heap) (v1:Nat) (l1:List Tok) (h2:Heap) (hh:h2=P++tksR v1 l1::j++jj) (hl1:l1=addT l t)=>yW P j jj v1 v l1 l (x:=.hs P.length v1 0 l1.length true)
  (R:=fun r h'=>∃v',r=.hs P.length v' 0 (addT l t).length true∧h'=P++tksR v' (addT l t)::j) hh (.hs _ _ _ _ _ (by simp)) ⟨v1,by rw[hl1],by rw[hl1]⟩
 refine sb [.tmp 4] Tryz.func180 ?_;intro Q hQ;(repeat (first|refine w1 (fun K hK=>?_)|refine w2 ?_|refine w3 ?_| ((first|refine w4 ?_|refine wD ?_|refine w5 ?_|refine w6 ?_|refine w7 ?_);try refine sq trivial ?_)| (refine w8 ?_;refine sq trivial ?_;refine w9 ?_)| (refine rq trivial ?_;try refine sq trivial ?_)| (refine vq trivial ?_;try refine sq trivial ?_)| ((first|refine hK _ _ (w0 ?_)| (clear hK K;refine hK _ _ (w0 ?_))| (clear hK K;clear hK K;refine hK _ _ (w0 ?_)));clear hK K)))
 have tail:∀(t':Env),t' 0=.hs P.length v 0 l.length true→t' 3=.hp (P.length+(j.length+1)) 0 0 0→addT l t=l++[t]→K t' (P++tksR v l::(j++[.row 221 4 0 [t.av]])):=by
  intro t' e0 e3 he;refine hK _ _ (M5 ?_);clear hK K;have F:=F2 e0 e3;(repeat (first|refine w1 (fun K hK=>?_)|refine w2 ?_|refine w3 ?_| ((first|refine w4 ?_|refine wD ?_|refine w5 ?_|refine w6 ?_|refine w7 ?_);try refine sq F ?_)| (refine w8 ?_;refine sq F ?_;refine w9 ?_)| (refine rq F ?_;try refine sq F ?_)| (refine vq F ?_;try refine sq F ?_)| ((first|refine hK _ _ (w0 ?_)| (clear hK K;refine hK _ _ (w0 ?_))| (clear hK K;clear hK K;refine hK _ _ (w0 ?_)));clear hK K)))
  refine aq F ?_;try refine sq F ?_
  (repeat (first|refine w1 (fun K hK=>?_)|refine w2 ?_|refine w3 ?_| ((first|refine w4 ?_|refine wD ?_|refine w5 ?_|refine w6 ?_|refine w7 ?_);try refine sq F ?_)| (refine w8 ?_;refine sq F ?_;refine w9 ?_)| (refine rq F ?_;try refine sq F ?_)| (refine vq F ?_;try refine sq F ?_)| ((first|refine hK _ _ (w0 ?_)| (clear hK K;refine hK _ _ (w0 ?_))| (clear hK K;clear hK K;refine hK _ _ (w0 ?_)));clear hK K)))
  refine ee hQ F ?_;have:=end_ [.row 221 4 0 [t.av]] (v+1) (l++[t]) (P++ .row 221 4 (v+1) (l.map Tok.av++[t.av])::(j++[.row 221 4 0 [t.av]])) (by simp[tksR]) he.symm;rw[L4]at this;exact this
 refine cq trivial (fun c1=>?_) (fun c1=>?_)<;>(try exact c1.elim)<;>((repeat (first|refine w1 (fun K hK=>?_)|refine w2 ?_|refine w3 ?_| ((first|refine w4 ?_|refine wD ?_|refine w5 ?_|refine w6 ?_|refine w7 ?_);try refine sq trivial ?_)| (refine w8 ?_;refine sq trivial ?_;refine w9 ?_)| (refine rq trivial ?_;try refine sq trivial ?_)| (refine vq trivial ?_;try refine sq trivial ?_)| ((first|refine hK _ _ (w0 ?_)| (clear hK K;refine hK _ _ (w0 ?_))| (clear hK K;clear hK K;refine hK _ _ (w0 ?_)));clear hK K))))
 ·refine tail _ ?_ ?_ (by unfold addT;rw[L1 c1])
  ·exact zq trivial
  ·exact zq trivial
 ·refine cq trivial (fun c2=>?_) (fun c2=>?_)<;>(try exact c2.elim)<;>((repeat (first|refine w1 (fun K hK=>?_)|refine w2 ?_|refine w3 ?_| ((first|refine w4 ?_|refine wD ?_|refine w5 ?_|refine w6 ?_|refine w7 ?_);try refine sq trivial ?_)| (refine w8 ?_;refine sq trivial ?_;refine w9 ?_)| (refine rq trivial ?_;try refine sq trivial ?_)| (refine vq trivial ?_;try refine sq trivial ?_)| ((first|refine hK _ _ (w0 ?_)| (clear hK K;refine hK _ _ (w0 ?_))| (clear hK K;clear hK K;refine hK _ _ (w0 ?_)));clear hK K))))
  ·refine ee hQ trivial ?_;exact end_ _ v l _ (by simp;rfl) (by unfold addT;rw[L7 c1,L7 c2])
  ·have c2':t.2.2.2≠ []:=c2;rcases W0 l with rfl| ⟨l,u,rfl⟩
   ·(first|refine gq trivial (fun g=>?_) (fun g=>?_)|refine pq trivial (fun g=>?_) (fun g=>?_))<;>(try exact g.elim)<;>(try refine sq trivial ?_)<;>((repeat (first|refine w1 (fun K hK=>?_)|refine w2 ?_|refine w3 ?_| ((first|refine w4 ?_|refine wD ?_|refine w5 ?_|refine w6 ?_|refine w7 ?_);try refine sq trivial ?_)| (refine w8 ?_;refine sq trivial ?_;refine w9 ?_)| (refine rq trivial ?_;try refine sq trivial ?_)| (refine vq trivial ?_;try refine sq trivial ?_)| ((first|refine hK _ _ (w0 ?_)| (clear hK K;refine hK _ _ (w0 ?_))| (clear hK K;clear hK K;refine hK _ _ (w0 ?_)));clear hK K))))
    ·refine tail _ ?_ ?_ (oP t fun _=>c2')
     ·exact zq trivial
     ·exact zq trivial
   ·rw[W1]at*;have hl2:l.length+1≤1048576:=(by simpa using hl);have e1:((l.length+1:Nat):Int)-1=l.length:=(by omega);have e2:(l++[u])[l.length]? =some u:=(by simp);have F:=F2 e1 e2;(first|refine gq F (fun g=>?_) (fun g=>?_)|refine pq F (fun g=>?_) (fun g=>?_))<;>(try exact g.elim)<;>(try refine sq F ?_)<;>((repeat (first|refine w1 (fun K hK=>?_)|refine w2 ?_|refine w3 ?_| ((first|refine w4 ?_|refine wD ?_|refine w5 ?_|refine w6 ?_|refine w7 ?_);try refine sq F ?_)| (refine w8 ?_;refine sq F ?_;refine w9 ?_)| (refine rq F ?_;try refine sq F ?_)| (refine vq F ?_;try refine sq F ?_)| ((first|refine hK _ _ (w0 ?_)| (clear hK K;refine hK _ _ (w0 ?_))| (clear hK K;clear hK K;refine hK _ _ (w0 ?_)));clear hK K))))
    ·have:=ht u (by simp);have hsn:=mY l u t c1 c2';have e3:l.length<l.length+1:=(by omega);refine⟨e3,?_⟩;by_cases c3:u.1=3
     ·refine hK _ _ (M5 ?_);clear tail hK K;have e4:(u.1==3)=true:=(by simpa using c3);rw[L7 c3]at hsn;have F:=F3 F e3 e4;(repeat (first|refine w1 (fun K hK=>?_)|refine w2 ?_|refine w3 ?_| ((first|refine w4 ?_|refine wD ?_|refine w5 ?_|refine w6 ?_|refine w7 ?_);try refine sq F ?_)| (refine w8 ?_;refine sq F ?_;refine w9 ?_)| (refine rq F ?_;try refine sq F ?_)| (refine vq F ?_;try refine sq F ?_)| ((first|refine hK _ _ (w0 ?_)| (clear hK K;refine hK _ _ (w0 ?_))| (clear hK K;clear hK K;refine hK _ _ (w0 ?_)));clear hK K)))
      refine ee hQ F ?_;have:=end_ [.row 221 4 0 [t.av]] v _ _ rfl hsn.symm;simp[tksR,Tok.av,ofCells]at this ⊢;exact this
     ·have e4:(u.1==3)=false:=(by simpa using c3);rw[L1 c3]at hsn;have F:=F2 F e4;refine hK _ _ (M5 ?_);clear hK;(repeat (first|refine w1 (fun K hK=>?_)|refine w2 ?_|refine w3 ?_| ((first|refine w4 ?_|refine wD ?_|refine w5 ?_|refine w6 ?_|refine w7 ?_);try refine sq F ?_)| (refine w8 ?_;refine sq F ?_;refine w9 ?_)| (refine rq F ?_;try refine sq F ?_)| (refine vq F ?_;try refine sq F ?_)| ((first|refine hK _ _ (w0 ?_)| (clear hK K;refine hK _ _ (w0 ?_))| (clear hK K;clear hK K;refine hK _ _ (w0 ?_)));clear hK K)))
      refine aq F ?_;(try refine sq F ?_);(repeat (first|refine w1 (fun K hK=>?_)|refine w2 ?_|refine w3 ?_| ((first|refine w4 ?_|refine wD ?_|refine w5 ?_|refine w6 ?_|refine w7 ?_);try refine sq F ?_)| (refine w8 ?_;refine sq F ?_;refine w9 ?_)| (refine rq F ?_;try refine sq F ?_)| (refine vq F ?_;try refine sq F ?_)| ((first|refine hK _ _ (w0 ?_)| (clear hK K;refine hK _ _ (w0 ?_))| (clear hK K;clear hK K;refine hK _ _ (w0 ?_)));clear hK K)))
      refine ee hQ F ?_;have:=end_ [.row 221 4 0 [t.av]] (v+1) _ _ rfl hsn.symm;simp[tksR]at this ⊢;exact this
    ·exfalso;simp at g
end
section
theorem cr{α:Type}(f:α→Nat)(a b:List α):szs f (a++b)=szs f a+szs f b:=by
 induction a with
 |nil=>simp[szs]
 |cons x l ih=>simp only[P3,szs,ih];omega
theorem mZ(w s:Bs)(b:Bool):(uptoF w s b).1.length+(uptoF w s b).2.1.length≤s.length:=by
 unfold uptoF;split
 ·rename_i h;have:=bZ s w h;simp only[];omega
 ·simp
theorem fw(s:Bs):(nameW s).length+(nameR s).length=s.length:=by
 have:=N5 List.length (U7 (p:=moreB) (l:=s));rw[L4]at this;exact this
theorem na:∀(f:Nat) (s:Bs),(readP f s).length≤5*s.length:=by
 intro f;induction f with
 |zero=>intro s;simp[readP]
 |succ f ih=>
  intro s;rw[readP];split
  ·rename_i h;have h1:=bZ s [38] h;simp only[L6,M4]at h1;split
   ·rename_i h2;simp only[L2]at h2;have h3:=bZ _ [59] h2.1.1;simp only[L6,M4]at h3;have h4:=dH (signF (Lib.cut (Lib.cut s [38]).2.1 [59]).1).1;have h5:=ih (Lib.cut (Lib.cut s [38]).2.1 [59]).2.1;simp only[L4];omega
   ·have h5:=ih (Lib.cut s [38]).2.1;simp only[L4,L6];omega
  ·rename_i h;rw[kW s [38] (by simpa using h)];simp only[];omega
theorem x5(s:Bs)(b:Bool):(valueF s b).1.length+5*(valueF s b).2.1.length≤5*s.length:=by
 have h1:=aO s (if Lib.hasPrefix s [34]=true then [34]else [39]);have h2:=mZ (if Lib.hasPrefix s [34]=true then [34]else [39]) (Lib.trimPrefix s (if Lib.hasPrefix s [34]=true then [34]else [39])) (b|| !Lib.hasPrefix s (if Lib.hasPrefix s [34]=true then [34]else [39]));show(readP _ _).length+5*(uptoF _ _ _).2.1.length≤_;have h3:=na ((uptoF (if Lib.hasPrefix s [34]=true then [34]else [39]) (Lib.trimPrefix s (if Lib.hasPrefix s [34]=true then [34]else [39])) (b|| !Lib.hasPrefix s (if Lib.hasPrefix s [34]=true then [34]else [39]))).1.length+1)
  (uptoF (if Lib.hasPrefix s [34]=true then [34]else [39]) (Lib.trimPrefix s (if Lib.hasPrefix s [34]=true then [34]else [39])) (b|| !Lib.hasPrefix s (if Lib.hasPrefix s [34]=true then [34]else [39]))).1
 omega
theorem x6(s:Bs)(h:(attrX s false).2.2=false):At.sz (attrX s false).1+10*(attrX s false).2.1.length≤10*s.length:=by
 have h0:=gz s (kX s h);have h1:=fw s;have h2:=aL blankB (nameR s);have h3:=aO ((nameR s).dropWhile blankB) [61];have h4:=aL blankB (Lib.trimPrefix ((nameR s).dropWhile blankB) [61]);unfold attrX at h ⊢;simp only[]at h ⊢;split at h
 ·rename_i hb;simp only[]at h;rw[h]at hb;cases hb
 ·rename_i hb;rw[L1 hb];have:=x5 ((Lib.trimPrefix ((nameR s).dropWhile blankB) [61]).dropWhile blankB) (false||badN (nameW s)|| !Lib.hasPrefix ((nameR s).dropWhile blankB) [61]);simp only[At.sz];omega
theorem cR(s w:Bs)(h:Lib.hasPrefix s w=true):(Lib.trimPrefix s w).length+w.length≤s.length:=by
 have h1:w.length≤s.length:=(List.isPrefixOf_iff_prefix.1 h).length_le;unfold Lib.trimPrefix;rw[L7 h,P2];omega
theorem x7:∀(f:Nat) (n:Bs) (at_:List At) (s:Bs) (b:Bool),szs Tok.sz (openL f n at_ s b).1+10*(openL f n at_ s b).2.1.length≤2+2*n.length+szs At.sz at_+10*s.length:=by
 intro f;induction f with
 |zero=>intro n at_ s b;simp only[openL,szs];omega
 |succ f ih=>
  intro n at_ s b;have h1:=aL blankB s;rw[openL];split
  ·simp only[szs];omega
  ·split
   ·have:=aO (s.dropWhile blankB) [62];simp only[szs,Tok.sz,M4];omega
   ·split
    ·have:=aO (s.dropWhile blankB) [47,62];simp only[szs,Tok.sz,M4];omega
    ·have h2:=x6 (s.dropWhile blankB);cases hb:(attrX (s.dropWhile blankB) false).2.2 with
     |true=>
      rw[T6,T6,T6];have h3:=fV (s.dropWhile blankB) false;have h4:=aL moreB (s.dropWhile blankB)
      change (nameR (s.dropWhile blankB)).length≤_ at h4
      have e:∀at_ s,openL f n at_ s true=([],s,true):=fun at_ s=>by cases f<;>simp[openL]
      rw[e];simp only[szs];omega
     |false=>
      have h3:=ih n (at_++[(attrX (s.dropWhile blankB) false).1]) (attrX (s.dropWhile blankB) false).2.1 (((false||s.takeWhile blankB==[])||at_.any fun a=>a.1==(attrX (s.dropWhile blankB) false).1.1)||decide (32≤at_.length));have h4:=h2 hb;rw[cr]at h3;simp only[szs]at h3;omega
theorem sU(f:Nat)(n:Bs)(s:Bs):openL f n [] s true=([],s,true):=by cases f<;>simp[openL]
theorem x8(s:Bs):szs Tok.sz (openF s).1+10*(openF s).2.1.length≤2+10*s.length:=by
 unfold openF;have h1:=fw s;cases hb:badN (nameW s)with
 |true=>rw[sU];simp only[szs];omega
 |false=>
  have:=x7 (s.length+3) (nameW s) [] (nameR s) false;simp only[szs]at this;omega
theorem kY(s:Bs)(h:Lib.hasPrefix s [60]=false)(hs:s≠ []):1≤(s.takeWhile textB).length:=by
 cases s with
 |nil=>exact absurd rfl hs
 |cons c t=>
  have:textB c=true:=by
   unfold textB textP;simp only[O6,decide_eq_false_iff_not];intro e;have:c=60:=UInt8.toNat_inj.1 (by have:=Int.ofNat.inj e;simpa using this);subst this;simp[Lib.hasPrefix]at h
  simp[List.takeWhile,this]
theorem oQ(s:Bs)(hs:s≠ []):szs Tok.sz (partF s).1+10*(partF s).2.1.length≤10*s.length:=by
 unfold partF;split
 ·have:=aO s p1;have:=bK [45,45,62] (Lib.trimPrefix s p1) false
  simp only[szs];omega
 split
 ·have:=aO s p2;have:=bK [63,62] (Lib.trimPrefix s p2) false
  simp only[szs];omega
 split
 ·have:=aO s p3;have:=bK [62] (Lib.trimPrefix s p3) false
  simp only[szs,kindF];omega
 split
 ·rename_i h;have:=cR s p4 h;have:=mZ [93,93,62] (Lib.trimPrefix s p4) false;simp only[szs,Tok.sz,p4,L6,M4]at *;omega
 split
 ·rename_i h;have:=cR s p5 h;have:=fw (Lib.trimPrefix s p5);have:=aL blankB (nameR (Lib.trimPrefix s p5));have:=aO ((nameR (Lib.trimPrefix s p5)).dropWhile blankB) [62];simp only[szs,Tok.sz,closeF,p5,L6,M4]at *;omega
 split
 ·rename_i h;have:=cR s p6 h;have:=x8 (Lib.trimPrefix s p6);simp only[p6,L6,M4]at *;omega
 ·rename_i h;have h1:=kY s (by simpa [p6]using h) hs;have h2:=na ((s.takeWhile textB).length+1) (s.takeWhile textB);have h3:=N5 List.length (U7 (p:=textB) (l:=s));rw[L4]at h3;simp only[szs,Tok.sz,M4];omega
theorem re(l:List Tok)(t:Tok):szs Tok.sz (addT l t)≤szs Tok.sz l+Tok.sz t:=by
 by_cases h3:t.1=3
 ·by_cases ht:t.2.2.2=[]
  ·unfold addT;rw[L7 h3,L7 ht];omega
  ·rcases W0 l with rfl| ⟨l,u,rfl⟩
   ·rw[oP t fun _=>ht];simp[szs]
   ·rw[W1,mY l u t h3 ht];split
    ·simp only[cr,szs,Tok.sz,L4];omega
    ·simp only[cr,szs];omega
 ·unfold addT;rw[L1 h3,cr];simp[szs]
theorem sV:∀(f:Nat) (n:Bs) (at_:List At) (s:Bs) (b:Bool),(openL f n at_ s b).2.1.length≤s.length:=by
 intro f;induction f with
 |zero=>intro n at_ s b;simp[openL]
 |succ f ih=>
  intro n at_ s b;have h1:=aL blankB s;rw[openL];split
  ·simp
  ·split
   ·have:=aO (s.dropWhile blankB) [62];simp only[];omega
   ·split
    ·have:=aO (s.dropWhile blankB) [47,62];simp only[];omega
    ·refine Q5 (ih _ _ _ _) ?_;have h3:=fV (s.dropWhile blankB) false;have h4:=aL moreB (s.dropWhile blankB)
     change (nameR (s.dropWhile blankB)).length≤_ at h4
     omega
theorem sW(s:Bs)(hs:s≠ []):(partF s).2.1.length<s.length:=by
 unfold partF;split
 ·rename_i h;have:=cR s p1 h;have:=bK [45,45,62] (Lib.trimPrefix s p1) false;simp only[p1,L6,M4]at *;omega
 split
 ·rename_i h;have:=cR s p2 h;have:=bK [63,62] (Lib.trimPrefix s p2) false;simp only[p2,L6,M4]at *;omega
 split
 ·rename_i h;have:=cR s p3 h;have:=bK [62] (Lib.trimPrefix s p3) false;simp only[p3,kindF,L6,M4]at *;omega
 split
 ·rename_i h;have:=cR s p4 h;have:=bK [93,93,62] (Lib.trimPrefix s p4) false;simp only[p4,L6,M4]at *;omega
 split
 ·rename_i h;have:=cR s p5 h;have:=fw (Lib.trimPrefix s p5);have:=aL blankB (nameR (Lib.trimPrefix s p5));have:=aO ((nameR (Lib.trimPrefix s p5)).dropWhile blankB) [62];simp only[closeF,p5,L6,M4]at *;omega
 split
 ·rename_i h;have:=cR s p6 h;have:=sV ((Lib.trimPrefix s p6).length+3) (nameW (Lib.trimPrefix s p6)) [] (nameR (Lib.trimPrefix s p6)) (badN (nameW (Lib.trimPrefix s p6)));have hns:=fw (Lib.trimPrefix s p6);unfold openF;simp only[p6,L6,M4]at*;omega
 ·rename_i h;have h1:=kY s (by simpa [p6]using h) hs;have h3:=N5 List.length (U7 (p:=textB) (l:=s));rw[L4]at h3;simp only[];omega
def tksF:Nat→Bs→List Tok→List Tok×Int
 |0,_,_=>([],80)
 |f+1,s,l=>if s=[]then(l,0)else
  if (partF s).2.2=true then([],80)else
  if 8192<((partF s).1.foldl addT l).length then([],3)else tksF f (partF s).2.1 ((partF s).1.foldl addT l)
theorem yY:∀(l:List Tok) (a:List Tok),szs Tok.sz (l.foldl addT a)≤szs Tok.sz a+szs Tok.sz l:=by
 intro l;induction l with
 |nil=>intro a;simp[szs]
 |cons t l ih=>intro a;have:=ih (addT a t);have:=re a t;simp only[List.foldl_cons,szs];omega
theorem yZ:∀(f:Nat) (s:Bs) (l:List Tok),szs Tok.sz (tksF f s l).1≤szs Tok.sz l+10*s.length:=by
 intro f;induction f with
 |zero=>intro s l;simp[tksF,szs]
 |succ f ih=>
  intro s l;rw[tksF];split
  ·simp only[];omega
  ·rename_i hs;split
   ·simp[szs]
   ·split
    ·simp[szs]
    ·have h1:=ih (partF s).2.1 ((partF s).1.foldl addT l);have h2:=oQ s hs;have h3:=yY (partF s).1 l;omega
def toksF(s:Bs):List Tok×Int:=if 65536<s.length then([],3)else tksF (s.length+1) s []
end
section
attribute [local irreducible] WP WPl WPix Sat
variable (G:Nat→Option (List AVal))
@[go_sem] theorem De(h j:Heap)(s:Bs)(b:Bool)(v:Nat)(l:List Tok):getRow (rdH h (tksR v l::j) s b) (h.length+1) v=some (221,4,l.map Tok.av):=by
 simp[rdH,getRow,tksR]
@[go_sem] theorem BW(h j l:Heap)(x:Blk)(s:Bs)(b:Bool)(v:Nat):getRow (rdH h (x::j) s b++l) (h.length+(1+(j.length+1))) v=getRow l 0 v:=qo h (x::j) l s b v
@[go_sem] theorem Hc(h j l:Heap)(x y:Blk)(s:Bs)(b:Bool):(rdH h (x::j) s b++l).set (h.length+(1+(j.length+1))) y=rdH h (x::j) s b++l.set 0 y:=oN h (x::j) l s b y
theorem x9(h j jj:Heap)(s:Bs)(b:Bool)(v:Nat)(l:List Tok)(t:Tok)(hl:l.length≤1048576)(ht:∀u∈l,u.2.2.2.length+t.2.2.2.length≤140737488355328):
  Sat (CT G) 180 [.hs (h.length+1) v 0 l.length true,t.av] (rdH h (tksR v l::j) s b++jj)
   (fun r h'=>∃v',r=.hs (h.length+1) v' 0 (addT l t).length true∧h'=rdH h (tksR v' (addT l t)::(j++jj)) s b):=by
 have:=yX G (h++[rdrR s b]) (j++jj) v l t hl ht;have e:rdH h (tksR v l::j) s b++jj=(h++[rdrR s b])++tksR v l::(j++jj):=by simp[rdH]
 rw[e];have e2:(h++[rdrR s b]).length=h.length+1:=by simp
 rw[e2]at this;exact this.mono fun r h' ⟨v',h1,h2⟩=>⟨v',h1,by rw[h2];simp[rdH]⟩
theorem rj{l:List Tok}{u:Tok}(h:u∈l):u.2.2.2.length≤szs Tok.sz l:=by
 have h1:=bJ Tok.sz h;have h2:Tok.sz u=1+u.2.1.length+szs At.sz u.2.2.1+u.2.2.2.length:=rfl;omega
theorem Fin.frzS{h0:Heap}{R:AVal→Heap→Prop}{r0 r:AVal}(hz:Frz h0 h0.length r0 r)(hR:R r h0):Fin h0 h0 R r0:=by
 have:=za2 (h0:=h0) (j:=[]) (R:=R) (r0:=r0) (r:=r) (by simpa using hz) hR;simpa using this
theorem Frz.toksD{h:Heap}{n q v e:Nat}{l:List Tok}{len:Nat}{room:Bool}(hq:n≤q)(hg:getRow h q v=some (e,4,l.map Tok.av))(hlen:len=l.length):Frz h n (.hs q v 0 len room) (.sl 4 (l.map Tok.av)):=
 Frz.data hq hg (by simpa using hlen) (fun r hr=>by obtain⟨a,_,rfl⟩:=M7.1 hr;exact Tok.clo _ a) (fun r hr=>by obtain⟨a,_,rfl⟩:=M7.1 hr;exact a.av_sto)
theorem qp(hG:GOk G)(s:Bs)(hs:s.length≤4194304)(h:Heap):Sat (CT G) 139 [.str s] h
  (fun r h'=>∃a,r=.tup [.sl 4 ((toksF s).1.map Tok.av),.int .i64 a,.int .i64 (toksF s).2]∧h'=h):=by
 refine sb [.tmp 2,.tmp 3,.tmp 4] Tryz.func139 ?_;intro Q hQ;refine wk trivial ?_;refine cq trivial (fun c0=>?_) (fun c0=>?_)<;>(try exact c0.elim)<;>(refine wk trivial ?_)
 ·have e:toksF s=([],3):=by unfold toksF;rw[L7 (by omega)]
  refine ye hQ trivial ?_;rw[e];exact Fin.frzS (FrzL.tup (.cons (.nils 4) (.cons (.clo _ (.int _ _)) (.cons (.clo _ (.int _ _)) .nil)))) ⟨0,rfl,rfl⟩
 have e:toksF s=tksF (s.length+1) s []:=by unfold toksF;rw[L1 (by omega)]
 have bad:∀(jj:Heap) (a:Int) (c:Int),toksF s=([],c)→Fin h (h++jj) (fun r h'=>∃a,r=.tup [.sl 4 ((toksF s).1.map Tok.av),.int .i64 a,.int .i64 (toksF s).2]∧h'=h) (.tup [.nil (.slice none 0 0),.int .i64 a,.int .i64 c]):=fun jj a c hb=>by
  rw[hb];exact za2 (FrzL.tup (.cons (.nils 4) (.cons (.clo _ (.int _ _)) (.cons (.clo _ (.int _ _)) .nil)))) ⟨a,rfl,rfl⟩
 refine lm (fun nL tL hL=>∃(f v:Nat) (s1:Bs) (l:List Tok) (jj:Heap),f=nL∧rdH h (tksR v l::jj) s1 false=hL∧tL 5=.hs (h.length+1) v 0 l.length true∧tL 6=.hp h.length 0 0 0∧s1.length<f∧tksF f s1 l=toksF s∧szs Tok.sz l+10*s1.length≤10*s.length∧l.length≤8192) ((fun(f v:Nat) (s1:Bs) (l:List Tok) (jj:Heap)=>(f:Nat)) (s.length+1) (0) (s) ([]) ([])) ?_ ?_
 ·refine⟨_,_,Weak.virt 5 221 4 (by simp) (by omega) (by exact zq trivial),⟨s.length+1,0,s,[],[],rfl,by simp[rdH,rdrR,tksR],?_,?_,by omega,e.symm,by simp[szs],by simp⟩⟩;all_goals try exact zZz trivial
 rintro _ s2 h' ⟨f,v,s1,l,jj,rfl,rfl,e5,e6,hf,hp,hz,hl⟩ K2 hK2;simp only[ak,am,Nat.reduceEqDiff, ↓reduceIte]at e5 e6;have F:=F2 e5 e6;refine wk F ?_;obtain⟨g,rfl⟩:∃g,f=g+1:=⟨f-1,by omega⟩;rw[tksF]at hp;refine cq F (fun c1=>?_) (fun c1=>?_)<;>(try exact c1.elim)<;>(refine wk F ?_)
 ·have hps:=oQ s1 c1;have hpl:=sW s1 c1;have hz0:=bX Tok.sz Tok.sz_pos (partF s1).1;rw[L1 c1]at hp;refine kq F (wY G hG s1 (by omega) h (tksR v l::jj)) ?_;generalize partF s1=x at hp hps hpl hz0 ⊢;obtain⟨tk,r1,bb⟩:=x;simp only[]at hp hps hpl hz0 ⊢;refine lm (fun nL tL hL=>∃(k v2:Nat) (l2:List Tok) (j2:Heap),tk.length-k=nL∧rdH h (tksR v2 l2::j2) r1 bb=hL∧tL 5=.hs (h.length+1) v2 0 l2.length true∧tL 32=.int .i64 k∧k≤tk.length∧(tk.drop k).foldl addT l2=tk.foldl addT l∧szs Tok.sz l2+szs Tok.sz (tk.drop k)≤szs Tok.sz l+szs Tok.sz tk) ((fun(k v2:Nat) (l2:List Tok) (j2:Heap)=>(tk.length-k:Nat)) (0) (v) (l) (jj)) ?_ ?_
  ·refine M5 ⟨0,v,l,jj,rfl,aw,?_,?_,?_,?_,?_⟩;all_goals try exact zZz F
  rintro _ s3 h' ⟨k,v2,l2,j2,rfl,rfl,e5,e32,hk,hq,hz2⟩ K3 hK3;simp only[ak,am,Nat.reduceEqDiff, ↓reduceIte]at e5 e32;have F:=F3 F e5 e32;refine wk F ?_;refine cq F (fun c2=>?_) (fun c2=>?_)<;>(try exact c2.elim)<;>(refine wk F ?_)
  ·obtain⟨y,hy,hym⟩:=aj c2;rw[aD hy]at hq hz2;simp only[szs,List.foldl_cons]at hq hz2;have hz3:=bX Tok.sz Tok.sz_pos l2;have hz4:=re l2 y;have F:=F2 F hy;(try refine sq F ?_);refine wk F ?_;refine(x9 G h j2 _ r1 bb v2 l2 y (by omega) (fun u hu=>by have:=rj hu;have:=rj hym;omega)).mono ?_;rintro r h' ⟨v3,rfl,rfl⟩;(try refine sq F ?_);refine wk F ?_;refine hK3 _ _ _ (M5 ⟨k+1,v3,addT l2 y,j2++[.row 221 4 0 [y.av]],rfl,by simp,?_,?_,by omega,hq,by omega⟩) (by omega);all_goals try exact zZz F
  ·rw[aJ c2]at hq hz2;simp only[szs,List.foldl_nil]at hq hz2;subst hq;refine wk F ?_;refine cq F (fun c3=>?_) (fun c3=>?_)<;>(try exact c3.elim)<;>(refine wk F ?_)
   ·rw[L7 c3]at hp;refine ye hQ F ?_;unfold rdH;exact bad _ _ _ hp.symm
   ·rw[L1 (by simp[c3])]at hp;refine cq F (fun c4=>?_) (fun c4=>?_)<;>(try exact c4.elim)<;>(refine wk F ?_)
    ·rw[L7 (by omega)]at hp;refine ye hQ F ?_;unfold rdH;exact bad _ _ _ hp.symm
    ·rw[L1 (by omega)]at hp;subst c3;refine hK2 _ _ _ (M5 ⟨g,v2,r1,tk.foldl addT l,j2,rfl,aw,?_,?_,by omega,hp,by omega,by omega⟩) (by omega);all_goals try exact zZz F
 ·rw[L7 (by simpa using c1)]at hp;refine ye hQ F ?_;rw[← hp];unfold rdH;exact za2 (FrzL.tup (.cons (Frz.toksD (by omega) (by simp[getRow,tksR];rfl) rfl) (.cons (.clo _ (.int _ _)) (.cons (.clo _ (.int _ _)) .nil)))) ⟨_,rfl,rfl⟩
structure OE where
 n:Bs
 a:List At
 t:Bs
 k:List Elem
 q:Nat
 v:Nat
def OE.av(o:OE):AVal:=.agg [.str o.n,.sl 2 (o.a.map At.av),.str o.t,.hs o.q o.v 0 o.k.length true]
def OE.el(o:OE):Elem:=⟨o.n,o.a,o.t,o.k⟩
@[go_sem] theorem OE.av_cells(o:OE):AVal.cells (OE.av o)=[.str o.n,.sl 2 (o.a.map At.av),.str o.t,.hs o.q o.v 0 o.k.length true]:=(rfl)
@[go_sem] theorem OE.av_fold(o:OE):AVal.agg [.str o.n,.sl 2 (o.a.map At.av),.str o.t,.hs o.q o.v 0 o.k.length true]=OE.av o:=(rfl)
@[go_sem] theorem OE.av_lies(o:OE):AVal.lies (OE.av o)=true:=(rfl)
@[go_sem] theorem OE.of(o:OE)(cs:List AVal):ofCells (OE.av o) cs=.agg cs:=(rfl)
structure BH (H:Heap) (n0 pb po vo:Nat) (room:Bool) (os:List OE) (pd vd:Nat) (ds:List Elem):Prop where
 b:getRow H pb 0=some (225,2,[.agg [.hs po vo 0 os.length room,.hs pd vd 0 ds.length true]])
 o:getRow H po vo=some (171,4,os.map OE.av)
 d:getRow H pd vd=some (171,4,ds.map Elem.av)
 k:∀(i:Nat) (o:OE),os[i]? =some o→getRow H o.q o.v=some (171,4,o.k.map Elem.av)
 od:po≠pd
 ko:∀(i:Nat) (o:OE),os[i]? =some o→o.q≠po∧o.q≠pd∧n0≤o.q
 kk:∀(i j:Nat) (o o':OE),os[i]? =some o→os[j]? =some o'→i≠j→o.q≠o'.q
 n:n0≤pb∧n0≤po∧n0≤pd
theorem cG{H:Heap}{p q v u e e' n n':Nat}{rs rs':List AVal}(h1:getRow H p v=some (e,n,rs))(h2:getRow H q u=some (e',n',rs'))(hn:n≠n'):p≠q:=by
 rintro rfl;have a:=bP h1;have b:=bP h2
 rw[a]at b;simp at b;exact hn b.2.1
variable {H:Heap} {n0 pb po vo pd vd:Nat} {room:Bool} {os:List OE} {ds:List Elem}
theorem BH.bo(g:BH H n0 pb po vo room os pd vd ds):pb≠po:=cG g.b g.o (by decide)
theorem BH.bd(g:BH H n0 pb po vo room os pd vd ds):pb≠pd:=cG g.b g.d (by decide)
theorem BH.bk(g:BH H n0 pb po vo room os pd vd ds)(i:Nat)(o:OE)(h:os[i]? =some o):pb≠o.q:=cG g.b (g.k i o h) (by decide)
def stepB(os ds:List Elem)(t:Tok):Option (List Elem×List Elem):=
 if t.1=1 then(if os.length+1≤32∧ds=[]then some (os++[⟨t.2.1,t.2.2.1,[],[]⟩],ds)else none)
 else if t.1=2 then
  match os.getLast? with
  |none=>none
  |some e=>if e.name=t.2.1 then
    match os.dropLast.getLast? with
    |none=>some ([],ds++[e])
    |some p=>some (os.dropLast.dropLast++[⟨p.name,p.attrs,p.text,p.kids++[e]⟩],ds)
   else none
 else if t.1=3 then
  match os.getLast? with
  |none=>if t.2.2.2.all blankB=true then some ([],ds)else none
  |some e=>some (os.dropLast++[⟨e.name,e.attrs,e.text++t.2.2.2,e.kids⟩],ds)
 else none
def BPost(n0 pb:Nat)(H:Heap)(os ds:List Elem)(x:Option (List Elem×List Elem))(r:AVal)(H':Heap):Prop:=
 (FrN n0 H H'∧H.length≤H'.length)∧match x with
 |none=>r=.bool false
 |some y=>r=.bool true∧∃po vo room os' pd vd,BH H' n0 pb po vo room os' pd vd y.2∧os'.map OE.el=y.1
end
section
attribute [local irreducible] WP WPl WPix Sat
variable (G:Nat→Option (List AVal))
variable {G}
end
section
attribute [local irreducible] WP WPl WPix Sat
variable {G:Nat→Option (List AVal)}
end
section
attribute [local irreducible] WP WPl WPix Sat
variable (G:Nat→Option (List AVal))
def setL:List AVal:=(List.range 256).map fun i:Nat=>.bool (blankP (i:Int))
theorem xH:setL.length=256:=by simp[setL]
theorem zw(c:UInt8):(setL.drop (c.toNat*1)).head? =some (.bool (blankB c)):=by
 rw[Nat.mul_one];have h:=c.toNat_lt;have e:setL.drop c.toNat=.bool (blankB c)::setL.drop (c.toNat+1):=by
  refine aD ?_;unfold setL;rw[M8,List.getElem?_range (by omega)];rfl
 rw[e];rfl
theorem xI:isV (.tup [.agg setL,.bool true]) (callX (CT G) orcL 1000 100 270 [.str blk4] [])=true:=by
 kernel_rfl
theorem xJ(hG:GOk G)(hC:GClo (CT G))(h:Heap):Sat (CT G) 270 [.str blk4] h (fun r h'=>r=.tup [.agg setL,.bool true]∧h'=h):=
 Sat.closedV hC (qV hG) 1000 100 rfl (by kernel_rfl) (xI G) h
def setR:Blk:=.row 286 256 0 [.agg setL]
@[go_sem] theorem BY(l:Heap):getRow (setR::l) 0 0=some (286,256,[.agg setL]):=rfl
theorem iU(c:UInt8)(h:Heap):Sat (CT G) 281 [.hp h.length 0 0 0,.int .u8 c.toNat] (h++[setR]) (fun r h'=>r=.bool (blankB c)∧h'=h++[setR]):=by
 have hlt:=c.toNat_lt;have hs:=zw c;have F:=hs;refine sb [.tmp 4] Tryz.func281 ?_;intro Q hQ;refine wk F ?_;refine⟨by omega,?_⟩;try refine sq F ?_
 refine wk F ?_;refine ee hQ F ?_;exact Fin.frzS (.clo _ (.bool _)) ⟨rfl,rfl⟩
def ltrim(s:Bs):Bs:=s.dropWhile blankB
def rtrim(s:Bs):Bs:=(s.reverse.dropWhile blankB).reverse
theorem tD(s:Bs)(c:UInt8):rtrim (s++[c])=if blankB c=true then rtrim s else s++[c]:=by
 unfold rtrim;rw[List.reverse_append,List.reverse_singleton,List.singleton_append,Z2];split
 ·rfl
 ·simp
theorem pf(s:Bs)(hs:s.length≤1073741824)(h:Heap):Sat (CT G) 271 [.str s,.hp h.length 0 0 0] (h++[setR]) (fun r h'=>r=.str (ltrim s)∧h'=h++[setR]):=by
 refine sb [.tmp 4] Tryz.func271 ?_;intro Q hQ;refine wk trivial ?_;refine lm (fun nL tL hL=>∃(s1:Bs),s1.length=nL∧h++[setR]=hL∧tL 0=.str s1∧s1.length≤s.length∧ltrim s1=ltrim s) ((fun(s1:Bs)=>(s1.length:Nat)) (s)) ?_ ?_
 ·refine M5 ⟨s,rfl,aw,?_,?_,?_⟩;all_goals try exact zZz trivial
 rintro _ s2 h' ⟨s1,rfl,rfl,e0,hl,hp⟩ K2 hK2;simp only[ak,am,Nat.reduceEqDiff, ↓reduceIte]at e0;have F:=e0;refine wk F ?_;cases s1 with
 |nil=>
  refine cq F (fun hc=>?_) (fun hc=>?_)<;>(try exact hc.elim)<;>(refine wk F ?_)
  refine ee hQ F ?_;rw[← hp];exact Fin.frzS (.clo _ (.str _)) ⟨rfl,rfl⟩
 |cons c t=>
  have h0:(c::t)[0]? =some c:=rfl;have h1:(c::t).drop 1=t:=rfl;have h2:(c::t).length=t.length+1:=rfl;simp only[L6]at hl;unfold ltrim at hp;rw[Z2]at hp;have F:=F3 F h0 h1;refine cq F (fun hc=>?_) (fun hc=>?_)<;>(try exact hc.elim)<;>(refine wk F ?_)
  ·(try refine sq F ?_);refine kq F (iU G c h) ?_;refine cq F (fun hb=>?_) (fun hb=>?_)<;>(try exact hb.elim)<;>(refine wk F ?_)
   ·rw[L1 (by simp[hb])]at hp;refine ee hQ F ?_;unfold ltrim;rw[← hp];exact Fin.frzS (.clo _ (.str _)) ⟨rfl,rfl⟩
   ·rw[L7 hb]at hp;have h3:(1:Int)≤((c::t).length:Int):=(by simp only[L6];omega);have F:=F2 F h3;(try refine sq F ?_);refine wk F ?_;refine hK2 _ _ _ (M5 ⟨t,rfl,aw,?_,by omega,hp⟩) (by omega);all_goals try exact zZz F
  ·exfalso;omega
theorem nN(s:Bs)(hs:s.length≤1073741824)(h:Heap):Sat (CT G) 272 [.str s,.hp h.length 0 0 0] (h++[setR]) (fun r h'=>r=.str (rtrim s)∧h'=h++[setR]):=by
 refine sb [.tmp 4] Tryz.func272 ?_;intro Q hQ;refine wk trivial ?_;refine lm (fun nL tL hL=>∃(s1:Bs),s1.length=nL∧h++[setR]=hL∧tL 0=.str s1∧s1.length≤s.length∧rtrim s1=rtrim s) ((fun(s1:Bs)=>(s1.length:Nat)) (s)) ?_ ?_
 ·refine M5 ⟨s,rfl,aw,?_,?_,?_⟩;all_goals try exact zZz trivial
 rintro _ s2 h' ⟨s1,rfl,rfl,e0,hl,hp⟩ K2 hK2;simp only[ak,am,Nat.reduceEqDiff, ↓reduceIte]at e0;have F:=e0;refine wk F ?_;rcases W0 s1 with rfl| ⟨t,c,rfl⟩
 ·refine cq F (fun hc=>?_) (fun hc=>?_)<;>(try exact hc.elim)<;>(refine wk F ?_)
  refine ee hQ F ?_;rw[← hp];exact Fin.frzS (.clo _ (.str _)) ⟨rfl,rfl⟩
 ·rw[W1]at*;have h2:(t++[c]).length=t.length+1:=by simp
  have h0:(t++[c])[t.length]? =some c:=by simp
  have h1:(t++[c]).take t.length=t:=by simp
  have h4:((t.length+1:Nat):Int)-1=t.length:=by omega
  rw[tD]at hp;rw[h2]at hl;have F:=F4 F h0 h1 h4;refine cq F (fun hc=>?_) (fun hc=>?_)<;>(try exact hc.elim)<;>(refine wk F ?_)
  ·(try refine sq F ?_);refine kq F (iU G c h) ?_;refine cq F (fun hb=>?_) (fun hb=>?_)<;>(try exact hb.elim)<;>(refine wk F ?_)
   ·rw[L1 (by simp[hb])]at hp;refine ee hQ F ?_;rw[← hp];exact Fin.frzS (.clo _ (.str _)) ⟨rfl,rfl⟩
   ·rw[L7 hb]at hp;(try refine sq F ?_);refine wk F ?_;refine hK2 _ _ _ (M5 ⟨t,rfl,aw,?_,by omega,hp⟩) (by omega);all_goals try exact zZz F
  ·exfalso;omega
theorem nj:∀s:Bs,ltrim s=[]↔s.all blankB=true
 | []=>by simp[ltrim]
 |c::t=>by
  have:=nj t;unfold ltrim at*;rw[Z2];by_cases hb:blankB c=true
  ·rw[L7 hb];simp[this,hb]
  ·rw[L1 hb];simp[hb]
theorem vg(s:Bs):(rtrim s).all blankB=s.all blankB:=by
 have hs:s=rtrim s++(s.reverse.takeWhile blankB).reverse:=by
  unfold rtrim;rw[← List.reverse_append,U7,List.reverse_reverse]
 conv=>rhs;rw[hs]
 rw[List.all_append];have:(s.reverse.takeWhile blankB).reverse.all blankB=true:=by
  rw[List.all_reverse];exact List.all_takeWhile
 rw[this,Bool.and_true]
theorem vh(s:Bs):ltrim (rtrim s)=[]↔s.all blankB=true:=by rw[nj,vg]
theorem xK(hG:GOk G)(hC:GClo (CT G))(s:Bs)(hs:s.length≤1073741824)(h:Heap):Sat (CT G) 246 [.str s,.str blk4] h (fun r h'=>∃x,r=.str x∧(x=[]↔s.all blankB=true)∧h'=h):=by
 have b1:(blk4==([]:Bs))=false:=rfl;have b2:(blk4.length:Int)=4:=rfl;have hr:(rtrim s).length≤s.length:=by
  unfold rtrim;have:=aL blankB s.reverse;simp at this ⊢;exact this
 have hs0:∀(j:Heap),h++[.row 286 256 0 [.agg setL]]++j=h++[setR]++j:=fun j=>rfl
 have F:=F3 b1 b2 @xH;refine sb [.tmp 4] Tryz.func246 ?_;intro Q hQ;refine wk F ?_;(first|refine gq F (fun g1=>?_) (fun g1=>?_)|refine pq F (fun g1=>?_) (fun g1=>?_))<;>(try exact g1.elim)<;>(try refine sq F ?_)<;>(refine wk F ?_)
 ·refine ee hQ F ?_;exact Fin.frzS (.clo _ (.str _)) ⟨s,rfl,by rw[show s=[]from by simpa using g1];simp,rfl⟩
 ·refine kq F (xJ G hG hC _) ?_;refine kq F (nN G s hs _) ?_;refine kq F (pf G (rtrim s) (by omega) _) ?_;refine ee hQ F ?_;exact Y0 (j:=[setR]) rfl (.str _) ⟨_,rfl,vh s,rfl⟩
variable {H:Heap} {n0 pb po vo pd vd:Nat} {room:Bool} {os:List OE} {ds:List Elem}
theorem iV(os ds:List Elem)(k:Int)(n:Bs)(a:List At)(x:Bs)(hk:k=3):stepB os ds (k,n,a,x)=match os.getLast? with
  |none=>if x.all blankB=true then some ([],ds)else none
  |some e=>some (os.dropLast++[⟨e.name,e.attrs,e.text++x,e.kids⟩],ds):=by
 subst hk;rfl
theorem BH.text{l:List OE}{o:OE}(g:BH H n0 pb po vo room (l++[o]) pd vd ds)(x:Bs):
  BH (H.set po (.row 171 4 vo ((l++[{o with t:=x}]).map OE.av))) n0 pb po vo room (l++[{o with t:=x}]) pd vd ds:=by
 have hb:=g.b;have at_:∀(i:Nat) (p:OE),(l++[{o with t:=x}])[i]? =some p→∃p',(l++[o])[i]? =some p'∧p.q=p'.q∧p.v=p'.v∧p.k=p'.k:=by
  intro i p hi;rcases ay hi with h1| ⟨h1,rfl⟩
  ·exact⟨p,by rw[L5 (f9.1 h1).1];exact h1,rfl,rfl,rfl⟩
  ·exact⟨o,by rw[h1];simp,rfl,rfl,rfl⟩
 refine⟨?_,?_,?_,fun i p hi=>?_,g.od,fun i p hi=>?_,fun i j p p' hi hj hij=>?_,g.n⟩
 ·rw[aH _ _ g.bo.symm,hb];simp
 ·rw[bU _ _ _ _ _ (aA g.o)];simp
 ·rw[aH _ _ g.od];exact g.d
 ·obtain⟨p',h1,h2,h3,h4⟩:=at_ i p hi;have:=g.ko i p' h1;rw[h2,h3,h4,aH _ _ this.1.symm];exact g.k i p' h1
 ·obtain⟨p',h1,h2,h3,h4⟩:=at_ i p hi;rw[h2];exact g.ko i p' h1
 ·obtain⟨p1,h1,h2,_⟩:=at_ i p hi;obtain⟨p2,h3,h4,_⟩:=at_ j p' hj;rw[h2,h4];exact g.kk i j p1 p2 h1 h3 hij
theorem vj(hG:GOk G)(hC:GClo (CT G))(x:Bs)(hx:x.length≤1073741824)(g:BH H n0 pb po vo room os pd vd ds)(hos:os.length≤1000)(ht:∀o∈os,o.t.length+x.length≤140737488355328):
  Sat (CT G) 220 [.hp pb 0 0 0,.str x] H (BPost n0 pb H (os.map OE.el) ds (stepB (os.map OE.el) ds (3,[],[],x))):=by
 have hb:=g.b;have ho:=g.o;have hlo:=aA ho;have hn:=g.n;rw[iV _ _ _ _ _ _ rfl];have F:=F2 hb ho;refine sb [.tmp 4] Tryz.func220 ?_;intro Q hQ;refine wk F ?_;rcases W0 os with rfl| ⟨l,o,rfl⟩
 ·refine cq F (fun hc=>?_) (fun hc=>?_)<;>(try exact hc.elim)<;>(refine wk F ?_)
  ·refine(xK G hG hC x hx _).mono ?_;rintro r h' ⟨y,rfl,hy,rfl⟩;(try refine sq F ?_);refine wk F ?_;refine ee hQ F ?_;have e:∀b:Bool,b=x.all blankB→BPost n0 pb h' ([].map OE.el) ds (if x.all blankB=true then some ([],ds)else none) (.bool b) h':=fun b hb=>by
    refine⟨⟨fun _ _=>rfl,M3 _⟩,?_⟩;cases hq:x.all blankB with
    |true=>rw[L7 rfl];exact⟨by rw[hb,hq],po,vo,room,[],pd,vd,g,rfl⟩
    |false=>rw[L1 (by simp)];show _=_;rw[hb,hq]
   refine R1 (.bool _) (e _ ?_);cases hq:x.all blankB with
   |true=>rw[hy.2 hq];rfl
   |false=>
    have:y≠ []:=fun e=>by rw[hy.1 e]at hq;cases hq
    simpa using this
  ·exact absurd trivial hc
 ·rw[W1]at*;have e1:((l.length+1:Nat):Int)-1=l.length:=by omega
  have e2:(l++[o])[l.length]? =some o:=by simp
  have e3:l.length<l.length+1:=by omega
  have e4:=ht o (by simp);have hbt:=g.text (o.t++x);have e5:(l.map OE.av++[o.av]).set l.length (.agg [.str o.n,.sl 2 (o.a.map At.av),.str (o.t++x),.hs o.q o.v 0 o.k.length true])=(l++[{o with t:=o.t++x}]).map OE.av:=by
   simp[OE.av]
  have F:=F4 F e1 e2 e3;refine cq F (fun hc=>?_) (fun hc=>?_)<;>(try exact hc.elim)<;>(refine wk F ?_)
  ·exfalso;omega
  ·(try refine sq F ?_);refine wk F ?_;refine ee hQ F ?_;have key:=W5 (h0:=H) (R:=BPost n0 pb H ((l++[o]).map OE.el) ds (some (((l++[o]).map OE.el).dropLast++[⟨o.n,o.a,o.t++x,o.k⟩],ds))) (h1:=H.set po (.row 171 4 vo ((l++[{o with t:=o.t++x}]).map OE.av))) (r:=.bool true) (by simp) (.bool _)
    ⟨⟨fun p hp=>P1 (by omega),by simp⟩,rfl,po,vo,room,_,pd,vd,hbt,by simp[OE.el]⟩
   simp only[Q7,N6,Q6,List.getLast?_append,List.getLast?_singleton,Option.some_or]at key ⊢;rw[e5,Q7,N6,Q6];exact key
end
section
attribute [local irreducible] WP WPl WPix Sat
variable (G:Nat→Option (List AVal))
theorem xL{h0 h1 pre post:Heap}{e v q:Nat}(l:List At)(hh:h1=pre++ .row e 2 v (l.map At.av)::post)(hq:q=pre.length)(hp:h0.length≤q):Frz h1 h0.length (.hs q v 0 l.length true) (.sl 2 (l.map At.av)):=by
 have:=jT (h0:=h0) hh hq hp (fun r hr=>by obtain⟨a,_,rfl⟩:=M7.1 hr;exact At.clo _ a) (fun r hr=>by obtain⟨a,_,rfl⟩:=M7.1 hr;exact At.cells_sto a);simpa using this
theorem ld(l:List At)(hl:l.length≤1048576)(h:Heap):Sat (CT G) 218 [.sl 2 (l.map At.av)] h (fun r h'=>r=.sl 2 (l.map At.av)∧h'=h):=by
 rcases l with _| ⟨a,l⟩
 ·refine sb [.tmp 2] Tryz.func218 ?_;intro Q hQ;refine wk trivial ?_;refine gO _ (by exact zq trivial) (.inl rfl) fun b=>?_
  cases b
  ·(try refine sq trivial ?_);refine wk trivial ?_;refine fb (.inl rfl) (by simp(disch:=first|omega| (simp only[go_sem, ↓reduceIte,seval];first|done|omega)|fail) only[go_sem, ↓reduceIte,seval];rfl) (by simp(disch:=first|omega| (simp only[go_sem, ↓reduceIte,seval];first|done|omega)|fail) only[go_sem, ↓reduceIte,seval];rfl) (by simp(disch:=first|omega| (simp only[go_sem, ↓reduceIte,seval];first|done|omega)|fail) only[go_sem, ↓reduceIte,seval];rfl) (by simp(disch:=first|omega| (simp only[go_sem, ↓reduceIte,seval];first|done|omega)|fail) only[go_sem, ↓reduceIte,seval];try rfl) (by omega) (by simp only[elemsOf, ↓reduceIte];try rfl) (by simp) (fun _=>?_) (fun h=>absurd rfl h);(try refine sq trivial ?_);refine wk trivial ?_;refine ee hQ trivial ?_;exact Fin.frzS (.ezs _) ⟨rfl,rfl⟩
  ·(try refine sq trivial ?_);refine wk trivial ?_;refine ee hQ trivial ?_;exact Fin.frzS (.nils _) ⟨rfl,rfl⟩
 ·have hr:(List.map At.av (a::l))≠ []:=by simp
  refine sb [.tmp 2] Tryz.func218 ?_;intro Q hQ;refine wk trivial ?_;refine fb (.inl rfl) (by simp(disch:=first|omega| (simp only[go_sem, ↓reduceIte,seval];first|done|omega)|fail) only[go_sem, ↓reduceIte,seval];rfl) (by simp(disch:=first|omega| (simp only[go_sem, ↓reduceIte,seval];first|done|omega)|fail) only[go_sem, ↓reduceIte,seval];rfl) (by simp(disch:=first|omega| (simp only[go_sem, ↓reduceIte,seval];first|done|omega)|fail) only[go_sem, ↓reduceIte,seval];rfl) (by simp(disch:=first|omega| (simp only[go_sem, ↓reduceIte,seval];first|done|omega)|fail) only[go_sem, ↓reduceIte,seval];try rfl) (by omega) (by simp only[elemsOf, ↓reduceIte];try rfl) ?_ (fun h=>by simp at h) (fun _=>?_)
  ·simp[maxLen]at hl ⊢;omega
  try refine sq trivial ?_
  refine wk trivial ?_;refine ee hQ trivial ?_;have:=xL (h0:=h) (h1:=h++[.row 254 2 0 ((a::l).map At.av)]) (e:=254) (v:=0) (a::l) rfl rfl (M3 _);simp only[L6,N6]at this;exact za2 (by simpa using this) ⟨rfl,rfl⟩
variable {H:Heap} {n0 pb po vo pd vd:Nat} {room:Bool} {os:List OE} {ds:List Elem}
structure BR (H:Heap) (n0 pb po vo:Nat) (os:List OE) (n:Bs) (a:List At) (pd vd:Nat) (ds:List Elem):Prop where
 b:getRow H pb 0=some (225,2,[.agg [.hs po vo 0 (os.length+1) true,.hs pd vd 0 ds.length true]])
 o:getRow H po vo=some (171,4,os.map OE.av++[.agg [.str n,.sl 2 (a.map At.av),.str [],.nil (.slice none 0 0)]])
 d:getRow H pd vd=some (171,4,ds.map Elem.av)
 k:∀(i:Nat) (o:OE),os[i]? =some o→getRow H o.q o.v=some (171,4,o.k.map Elem.av)
 od:po≠pd
 ko:∀(i:Nat) (o:OE),os[i]? =some o→o.q≠po∧o.q≠pd∧n0≤o.q
 kk:∀(i j:Nat) (o o':OE),os[i]? =some o→os[j]? =some o'→i≠j→o.q≠o'.q
 n:n0≤pb∧n0≤po∧n0≤pd
theorem BR.weak{C:Ctx}{n:Bs}{a:List At}(g:BR H n0 pb po vo os n a pd vd ds):
  ∃H',(∀(ms:List Nat) (t:Env),Weak C ms t H t H')∧(FrN n0 H H'∧H.length≤H'.length)∧BH H' n0 pb po vo true (os++[⟨n,a,[],[],H.length,0⟩]) pd vd ds:=by
 have hlo:=aA g.o;have hpo:pb≠po:=cG g.b g.o (by decide);have hlb:=aA g.b;have hld:=aA g.d;refine⟨_,fun ms t=>Weak.virtRows (p:=po) (v:=vo) (rows':=os.map OE.av++[OE.av ⟨n,a,[],[],H.length,0⟩]) 171 4 (by omega) g.o (by simp) fun i r' hi=>?_,⟨fun p hp=>?_,by simp⟩,?_⟩
 ·rcases ay hi with h1| ⟨h1,rfl⟩
  ·have hlt:=(f9.1 h1).1;exact⟨r',by rw[L5 hlt];exact h1,rfl,fun q c hc=>.inl hc⟩
  ·refine⟨.agg [.str n,.sl 2 (a.map At.av),.str [],.nil (.slice none 0 0)],by rw[h1];simp,rfl,fun q c hc=>?_⟩
   match q with
   |0=>exact .inl hc
   |1=>exact .inl hc
   |2=>exact .inl hc
   |3=>simp[OE.av,AVal.cells]at hc;exact .inr ⟨hc.symm,rfl⟩
   |q+4=>simp[OE.av,AVal.cells]at hc
 ·have:=g.n;rw[L5 (by simp;omega),P1 (by omega)]
 ·have gold:∀{q v:Nat} {x:TypeId×Nat×List AVal},getRow H q v=some x→po≠q→getRow (H.set po (.row 171 4 vo (os.map OE.av++[OE.av ⟨n,a,[],[],H.length,0⟩]))++[.row 171 4 0 []]) q v=some x:=fun {q v x} h1 h2=>by
   rw[bm _ (by simpa using aA h1),aH _ _ h2];exact h1
  have at_:∀(i:Nat) (p:OE),(os++[(⟨n,a,[],[],H.length,0⟩:OE)])[i]? =some p→(os[i]? =some p)∨(i=os.length∧p=⟨n,a,[],[],H.length,0⟩):=fun i p hi=>ay hi|>.imp id fun⟨h1,h2⟩=>⟨h1,h2⟩
  refine⟨?_,?_,gold g.d g.od,fun i p hi=>?_,g.od,fun i p hi=>?_,fun i j p p' hi hj hij=>?_,g.n⟩
  ·rw[gold g.b hpo.symm];simp
  ·rw[bm _ (by simpa using hlo),bU _ _ _ _ _ hlo];simp
  ·rcases at_ i p hi with h1| ⟨_,rfl⟩
   ·exact gold (g.k i p h1) (g.ko i p h1).1.symm
   ·show getRow _ H.length 0=_;rw[bx _ (by simp)];rfl
  ·rcases at_ i p hi with h1| ⟨_,rfl⟩
   ·exact g.ko i p h1
   ·have:=g.n;exact⟨by show H.length≠_;omega,by show H.length≠_;omega,by show _≤H.length;omega⟩
  ·rcases at_ i p hi with h1| ⟨h1,rfl⟩<;>rcases at_ j p' hj with h2| ⟨h2,rfl⟩
   ·exact g.kk i j p p' h1 h2 hij
   ·have:=aA (g.k i p h1);show p.q≠H.length;omega
   ·have:=aA (g.k j p' h2);show H.length≠p'.q;omega
   ·omega
theorem xM(nm:Bs)(at_:List At)(tx:Bs)(hat:at_.length≤1048576)(g:BH H n0 pb po vo room os pd vd ds)(hos:os.length≤1000)(hds:ds.length≤1048576):
  Sat (CT G) 181 [.hp pb 0 0 0,Tok.av (1,nm,at_,tx)] H (fun r H'=>(FrN n0 H H'∧H.length≤H'.length)∧r=.bool (decide (os.length≤31)&&decide (ds.length=0))∧∃po' vo',BR H' n0 pb po' vo' os nm at_ pd vd ds):=by
 have hb:=g.b;have ho:=g.o;have hd:=g.d;have hlo:=aA ho;have hlb:=aA hb;have hld:=aA hd;have hbo:=g.bo;have hbd:=g.bd;have hod:=g.od;have hn:=g.n;have F:=F4 hb ho hd @aW;refine sb [.tmp 4] Tryz.func181 ?_;intro Q hQ;(repeat (first|refine w1 (fun K hK=>?_)|refine w2 ?_|refine w3 ?_| ((first|refine w4 ?_|refine wD ?_|refine w5 ?_|refine w6 ?_|refine w7 ?_);try refine sq F ?_)| (refine w8 ?_;refine sq F ?_;refine w9 ?_)| (refine rq F ?_;try refine sq F ?_)| (refine vq F ?_;try refine sq F ?_)| ((first|refine hK _ _ (w0 ?_)| (clear hK K;refine hK _ _ (w0 ?_))| (clear hK K;clear hK K;refine hK _ _ (w0 ?_)));clear hK K)))
 have tail:∀(t':Env) (h':Heap) (po' vo':Nat),t' 0=.hp pb 0 0 0→FrN n0 H h'→H.length≤h'.length→
   getRow h' pb 0=some (225,2,[.agg [.hs po' vo' 0 (os.length+1) true,.hs pd vd 0 ds.length true]])→
   getRow h' po' vo'=some (171,4,os.map OE.av++[.agg [.str nm,.sl 2 (at_.map At.av),.str [],.nil (.slice none 0 0)]])→(po'=po∨H.length≤po')→
   (∀q v x,getRow H q v=some x→q≠pb→q≠po→getRow h' q v=some x)→K t' h':=by
  intro t' h' po' vo' e0 hfr hlen hb' ho' hpo' hrest;have hlt:=aA ho';have hbr:BR h' n0 pb po' vo' os nm at_ pd vd ds:=by
   have hne:∀q,q<H.length→q≠po→q≠po':=fun q h1 h2=>by omega
   exact⟨hb',ho',hrest _ _ _ hd hbd.symm hod.symm,fun i o hi=>hrest _ _ _ (g.k i o hi) (g.bk i o hi).symm (g.ko i o hi).1,fun e=>by omega,
    fun i o hi=>⟨hne _ (aA (g.k i o hi)) (g.ko i o hi).1,(g.ko i o hi).2.1,(g.ko i o hi).2.2⟩,g.kk,⟨hn.1,by omega,hn.2.2⟩⟩
  refine hK _ _ (M5 ?_);clear hK K;have hd':=hbr.d;have F:=F5 F e0 hb' ho' hd';(repeat (first|refine w1 (fun K hK=>?_)|refine w2 ?_|refine w3 ?_| ((first|refine w4 ?_|refine wD ?_|refine w5 ?_|refine w6 ?_|refine w7 ?_);try refine sq F ?_)| (refine w8 ?_;refine sq F ?_;refine w9 ?_)| (refine rq F ?_;try refine sq F ?_)| (refine vq F ?_;try refine sq F ?_)| ((first|refine hK _ _ (w0 ?_)| (clear hK K;refine hK _ _ (w0 ?_))| (clear hK K;clear hK K;refine hK _ _ (w0 ?_)));clear hK K)))
  have fin:∀b:Bool,b=(decide (os.length≤31)&&decide (ds.length=0))→Fin H h' (fun r H'=>(FrN n0 H H'∧H.length≤H'.length)∧r=.bool (decide (os.length≤31)&&decide (ds.length=0))∧∃po' vo',BR H' n0 pb po' vo' os nm at_ pd vd ds) (.bool b):=fun b hb=>by
   exact W5 hlen (.bool _) ⟨⟨hfr,hlen⟩,by rw[hb],po',vo',hbr⟩
  (first|refine gq F (fun hg=>?_) (fun hg=>?_)|refine pq F (fun hg=>?_) (fun hg=>?_))<;>(try exact hg.elim)<;>(try refine sq F ?_)<;>((repeat (first|refine w1 (fun K hK=>?_)|refine w2 ?_|refine w3 ?_| ((first|refine w4 ?_|refine wD ?_|refine w5 ?_|refine w6 ?_|refine w7 ?_);try refine sq F ?_)| (refine w8 ?_;refine sq F ?_;refine w9 ?_)| (refine rq F ?_;try refine sq F ?_)| (refine vq F ?_;try refine sq F ?_)| ((first|refine hK _ _ (w0 ?_)| (clear hK K;refine hK _ _ (w0 ?_))| (clear hK K;clear hK K;refine hK _ _ (w0 ?_)));clear hK K))))
  ·refine ee hQ F ?_;refine fin _ ?_;have e:decide (os.length≤31)=true:=(by rw[decide_eq_true_iff];omega);rw[e,Y6,R5];simp
  ·refine ee hQ F ?_;refine fin _ ?_;have e:decide (os.length≤31)=false:=(by rw[decide_eq_false_iff_not];omega);rw[e,Bool.false_and]
 have hlt1:os.length<os.length+1:=by omega
 have hg1:∀x:AVal,(os.map OE.av++[x])[os.length]? =some x:=fun x=>by simp
 have hs1:∀x y:AVal,(os.map OE.av++[x]).set os.length y=os.map OE.av++[y]:=fun x y=>by simp
 cases room with
 |true=>
  have F:=F4 F hlt1 hg1 hs1;refine d8 12 (.one 12 (.two 13 (.two 14 (.one 15 (.one 16 (.one 17 .nil))) 15 (.two 14 (.one 16 (.one 17 .nil)) 16 (.two 14 (.one 17 .nil) 17 (.one 14 .nil)))) 15 (.two 13 (.two 14 (.one 16 (.one 17 .nil)) 16 (.two 14 (.one 17 .nil) 17 (.one 14 .nil))) 16 (.two 13 (.two 14 (.one 17 .nil) 17 (.one 14 .nil)) 17 (.one 13 (.one 14 .nil)))))) (by decide+kernel) (by kernel_rfl) (by decide+kernel) ?_;simp only[O7,Q3];try refine sq F ?_
  repeat' (first|refine aY ?_| (refine aZ rfl ?_;refine sq F ?_)| (refine b8 rfl rfl ?_ ?_<;>refine sq F ?_))
  refine aE (ld G at_ hat _) ?_;try refine sq F ?_
  refine vq F ?_;try refine sq F ?_
  repeat' (first|refine aY ?_| (refine aZ rfl ?_;refine sq F ?_)| (refine b8 rfl rfl ?_ ?_<;>refine sq F ?_))
  refine aq F ?_;try refine sq F ?_
  (repeat (first|refine w1 (fun K hK=>?_)|refine w2 ?_|refine w3 ?_| ((first|refine w4 ?_|refine wD ?_|refine w5 ?_|refine w6 ?_|refine w7 ?_);try refine sq F ?_)| (refine w8 ?_;refine sq F ?_;refine w9 ?_)| (refine rq F ?_;try refine sq F ?_)| (refine vq F ?_;try refine sq F ?_)))
  repeat' (first|refine aY ?_| (refine aZ rfl ?_;refine sq F ?_)| (refine b8 rfl rfl ?_ ?_<;>refine sq F ?_))
  all_goals (
   show K _ _;refine tail _ _ po (vo+1) ?_ ?_ ?_ ?_ ?_ (.inl rfl) ?_
   ·exact zq F
   ·repeat (first|exact za0 _ _|refine za3 _ (by omega) ?_|refine za1 _ (by simp;omega) ?_)
   ·simp
   ·exact zq F
   ·exact zq F
   ·intro q v x h1 h2 h3;have h4:=aA h1;have h2':=h2.symm;have h3':=h3.symm;simp(disch:=first|omega| (simp only[go_sem, ↓reduceIte,seval];first|done|omega)|fail) only[go_sem, ↓reduceIte,seval,F,h1])
 |false=>
  have F:=F4 F hlt1 hg1 hs1;refine d8 12 (.one 12 (.two 13 (.two 14 (.one 15 (.one 16 (.one 17 .nil))) 15 (.two 14 (.one 16 (.one 17 .nil)) 16 (.two 14 (.one 17 .nil) 17 (.one 14 .nil)))) 15 (.two 13 (.two 14 (.one 16 (.one 17 .nil)) 16 (.two 14 (.one 17 .nil) 17 (.one 14 .nil))) 16 (.two 13 (.two 14 (.one 17 .nil) 17 (.one 14 .nil)) 17 (.one 13 (.one 14 .nil)))))) (by decide+kernel) (by kernel_rfl) (by decide+kernel) ?_;simp only[O7,Q3];try refine sq F ?_
  repeat' (first|refine aY ?_| (refine aZ rfl ?_;refine sq F ?_)| (refine b8 rfl rfl ?_ ?_<;>refine sq F ?_))
  refine aE (ld G at_ hat _) ?_;try refine sq F ?_
  refine vq F ?_;try refine sq F ?_
  repeat' (first|refine aY ?_| (refine aZ rfl ?_;refine sq F ?_)| (refine b8 rfl rfl ?_ ?_<;>refine sq F ?_))
  refine wN (.inl rfl) (by simp only[go_sem];rfl) (by simp only[go_sem];rfl) (by simp only[go_sem];rfl) (by simp only[go_sem];try rfl) (by omega) (by simp only[elemsOf, ↓reduceIte];rfl) (by simp(disch:=first|omega| (simp only[go_sem, ↓reduceIte,seval];first|done|omega)|fail) only[go_sem, ↓reduceIte,seval,F];rfl) (by simp) (by simp) ?_ ?_
  ·refine⟨?_,?_⟩<;>simp only[maxLen,N4,L6,M4]<;>omega
  rw[O1 (by simp)];try refine sq F ?_
  repeat' (first|refine aY ?_| (refine aZ rfl ?_;refine sq F ?_)| (refine b8 rfl rfl ?_ ?_<;>refine sq F ?_))
  all_goals (
   show K _ _;refine tail _ _ (H.length+1) 0 ?_ ?_ ?_ ?_ ?_ (.inr (by omega)) ?_
   ·exact zq F
   ·repeat (first|exact za0 _ _|refine za3 _ (by omega) ?_|refine za1 _ (by simp;omega) ?_)
   ·simp
   ·exact zq F
   ·exact zq F
   ·intro q v x h1 h2 h3;have h4:=aA h1;have h2':=h2.symm;have h3':=h3.symm;simp(disch:=first|omega| (simp only[go_sem, ↓reduceIte,seval];first|done|omega)|fail) only[go_sem, ↓reduceIte,seval,F,h1])
end
section
attribute [local irreducible] WP WPl WPix Sat
variable {H:Heap} {n0 pb po vo pd vd:Nat} {ds:List Elem}
theorem OE.fz{K:Heap}{e:TypeId}(o:OE)(hk:getRow K o.q o.v=some (e,4,o.k.map Elem.av)):o.av.cells.length=o.el.av.cells.length∧∀(j:Nat) (c d:AVal),o.av.cells[j]? =some c→o.el.av.cells[j]? =some d→Fz K o.q o.v c d∧d.sto=true:=by
 rw[Elem.av_cells];refine⟨rfl,fun j c d hc hd=>?_⟩
 match j with
 |0=>simp[OE.av,AVal.cells,OE.el,Elem.name]at hc hd;subst hc;subst hd;exact⟨.same _,rfl⟩
 |1=>simp[OE.av,AVal.cells,OE.el,Elem.attrs]at hc hd;subst hc;subst hd;exact⟨.same _,rfl⟩
 |2=>simp[OE.av,AVal.cells,OE.el,Elem.text]at hc hd;subst hc;subst hd;exact⟨.same _,rfl⟩
 |3=>simp[OE.av,AVal.cells,OE.el,Elem.kids]at hc hd;subst hc;subst hd;exact⟨Fz.all _ _ _ hk rfl (by simp),rfl⟩
 |j+4=>simp[OE.av,AVal.cells]at hc
theorem rD{K:Heap}{e:TypeId}(o:OE)(hk:getRow K o.q o.v=some (e,4,o.k.map Elem.av))(ks:List Elem):∀(i:Nat) (x y:AVal),(ks.map Elem.av++[o.av])[i]? =some x→((ks++[o.el]).map Elem.av)[i]? =some y→
  x.cells.length=y.cells.length∧∀(j:Nat) (c d:AVal),x.cells[j]? =some c→y.cells[j]? =some d→Fz K o.q o.v c d∧d.sto=true:=by
 intro i x y hx hy;rw[Q7]at hy;rcases ay hx with h1| ⟨h1,rfl⟩
 ·rw[L5 (f9.1 h1).1,h1]at hy;cases hy;obtain⟨a,_,rfl⟩:=M7.1 (M0 h1);exact⟨rfl,fun j c d hc hd=>by rw[hc]at hd;cases hd;exact⟨.same _,a.av_sto _ (M0 hc)⟩⟩
 ·subst h1;simp at hy;subst hy;exact o.fz hk
theorem qC{C:Ctx}{K:Heap}{o:OE}(hb:getRow K pb 0=some (225,2,[.agg [.hs po vo 0 0 false,.hs pd vd 0 (ds.length+1) true]]))
  (ho:getRow K po vo=some (171,4,[o.av]))(hd:getRow K pd vd=some (171,4,ds.map Elem.av++[o.av]))
  (hk:getRow K o.q o.v=some (171,4,o.k.map Elem.av))(od:po≠pd)(ko:o.q≠po∧o.q≠pd∧n0≤o.q)(hn:n0≤pb∧n0≤po∧n0≤pd):
  ∃K',(∀(ms:List Nat) (t:Env),Weak C ms t K t K')∧(FrN n0 K K'∧K.length≤K'.length)∧BH K' n0 pb po vo false [] pd vd (ds++[o.el]):=by
 have hlo:=aA ho;have hlb:=aA hb;have hld:=aA hd;have hlk:=aA hk
 have hbo:pb≠po:=cG hb ho (by decide);have hbd:pb≠pd:=cG hb hd (by decide);have hbk:pb≠o.q:=cG hb hk (by decide);have w1:=fun(ms:List Nat) (t:Env)=>Weak.fzIn (C:=C) (ms:=ms) (t:=t) (t1:=t) o.q o.v pd vd ((ds++[o.el]).map Elem.av) hk ko.2.1 hd (by simp) (rD o hk ds) (fun _=>.inl rfl)
 have g2:getRow ((K.set o.q .dead).set pd (.row 171 4 vd ((ds++[o.el]).map Elem.av))) po vo=some (171,4,[o.av]):=by
  rw[aH _ _ od.symm,aH _ _ ko.1];exact ho
 have w2:=fun(ms:List Nat) (t:Env)=>Weak.rowTake (C:=C) (ms:=ms) (t:=t) po vo 0 g2
 refine⟨_,fun ms t=>(w1 ms t).trans (w2 ms t),⟨za3 _ hn.2.1 (za3 _ hn.2.2 (za3 _ ko.2.2 (za0 _ _))),by simp⟩,⟨?_,?_,?_,fun i p hi=>by simp at hi,od,fun i p hi=>by simp at hi,fun i j p p' hi=>by simp at hi,hn⟩⟩
 ·rw[aH _ _ hbo.symm,aH _ _ hbd.symm,aH _ _ hbk.symm,hb];simp
 ·rw[bU _ _ _ _ _ (by simpa using hlo)];simp
 ·rw[aH _ _ od,bU _ _ _ _ _ (by simpa using hld)];simp
theorem qD{C:Ctx}{K:Heap}{l:List OE}{p o:OE}(hb:getRow K pb 0=some (225,2,[.agg [.hs po vo 0 (l.length+1) false,.hs pd vd 0 ds.length true]]))
  (ho:getRow K po vo=some (171,4,l.map OE.av++[.agg [.str p.n,.sl 2 (p.a.map At.av),.str p.t,.hs p.q (p.v+1) 0 (p.k.length+1) true],o.av]))
  (hd:getRow K pd vd=some (171,4,ds.map Elem.av))
  (hk:getRow K o.q o.v=some (171,4,o.k.map Elem.av))(hp:getRow K p.q (p.v+1)=some (171,4,p.k.map Elem.av++[o.av]))
  (hl:∀(i:Nat) (x:OE),l[i]? =some x→getRow K x.q x.v=some (171,4,x.k.map Elem.av)∧x.q≠po∧x.q≠pd∧n0≤x.q∧x.q≠p.q∧x.q≠o.q)
  (kk:∀(i j:Nat) (x x':OE),l[i]? =some x→l[j]? =some x'→i≠j→x.q≠x'.q)
  (od:po≠pd)(ko:o.q≠po∧o.q≠pd∧n0≤o.q)(kp:p.q≠po∧p.q≠pd∧n0≤p.q)(kop:o.q≠p.q)(hn:n0≤pb∧n0≤po∧n0≤pd):
  ∃K',(∀(ms:List Nat) (t:Env),Weak C ms t K t K')∧(FrN n0 K K'∧K.length≤K'.length)∧BH K' n0 pb po vo false (l++[⟨p.n,p.a,p.t,p.k++[o.el],p.q,p.v+1⟩]) pd vd ds:=by
 have hlo:=aA ho;have hlb:=aA hb;have hld:=aA hd;have hlk:=aA hk;have hlp:=aA hp
 have hbo:pb≠po:=cG hb ho (by decide);have hbd:pb≠pd:=cG hb hd (by decide);have hbk:pb≠o.q:=cG hb hk (by decide);have hbp:pb≠p.q:=cG hb hp (by decide);have w1:=fun(ms:List Nat) (t:Env)=>Weak.fzIn (C:=C) (ms:=ms) (t:=t) (t1:=t) o.q o.v p.q (p.v+1) ((p.k++[o.el]).map Elem.av) hk kop hp (by simp) (rD o hk p.k) (fun _=>.inl rfl)
 have g2:=(show getRow ((K.set o.q .dead).set p.q (.row 171 4 (p.v+1) ((p.k++[o.el]).map Elem.av))) po vo=getRow K po vo by
  rw[aH _ _ kp.1,aH _ _ ko.1]).trans ho
 have w2:=fun(ms:List Nat) (t:Env)=>Weak.rowTake (C:=C) (ms:=ms) (t:=t) po vo (l.length+1) g2
 have at_:∀(i:Nat) (x:OE),(l++[(⟨p.n,p.a,p.t,p.k++[o.el],p.q,p.v+1⟩:OE)])[i]? =some x→(l[i]? =some x)∨(i=l.length∧x=⟨p.n,p.a,p.t,p.k++[o.el],p.q,p.v+1⟩):=fun i x hi=>ay hi
 refine⟨_,fun ms t=>(w1 ms t).trans (w2 ms t),⟨za3 _ hn.2.1 (za3 _ kp.2.2 (za3 _ ko.2.2 (za0 _ _))),by simp⟩,⟨?_,?_,?_,fun i x hi=>?_,od,fun i x hi=>?_,fun i j x x' hi hj hij=>?_,hn⟩⟩
 ·rw[aH _ _ hbo.symm,aH _ _ hbp.symm,aH _ _ hbk.symm,hb];simp
 ·rw[bU _ _ _ _ _ (by simpa using hlo),L7 rfl];have e:(l.map OE.av++[AVal.agg [.str p.n,.sl 2 (p.a.map At.av),.str p.t,.hs p.q (p.v+1) 0 (p.k.length+1) true],o.av]).take (l.length+1)=(l++[(⟨p.n,p.a,p.t,p.k++[o.el],p.q,p.v+1⟩:OE)]).map OE.av:=by
   rw[List.take_append,O1 (by simp)];simp[OE.av]
  rw[e]
 ·rw[aH _ _ od,aH _ _ kp.2.1,aH _ _ ko.2.1];exact hd
 ·rcases at_ i x hi with h1| ⟨_,rfl⟩
  ·obtain⟨k1,k2,k3,k4,k5,k6⟩:=hl i x h1;rw[aH _ _ k2.symm,aH _ _ k5.symm,aH _ _ k6.symm];exact k1
  ·show getRow _ p.q (p.v+1)=_;rw[aH _ _ kp.1.symm,bU _ _ _ _ _ (by simpa using hlp)];simp
 ·rcases at_ i x hi with h1| ⟨_,rfl⟩
  ·obtain⟨k1,k2,k3,k4,k5,k6⟩:=hl i x h1;exact⟨k2,k3,k4⟩
  ·exact kp
 ·rcases at_ i x hi with h1| ⟨h1,rfl⟩<;>rcases at_ j x' hj with h2| ⟨h2,rfl⟩
  ·exact kk i j x x' h1 h2 hij
  ·exact(hl i x h1).2.2.2.2.1
  ·exact(hl j x' h2).2.2.2.2.1.symm
  ·omega
end
section
attribute [local irreducible] WP WPl WPix Sat
variable (G:Nat→Option (List AVal))
variable {H:Heap} {n0 pb po vo pd vd:Nat} {room:Bool} {os:List OE} {ds:List Elem}
theorem tE(os ds:List Elem)(n:Bs)(h:os=[]∨∃l e,os=l++[e]∧e.name≠n)(a:List At)(x:Bs):stepB os ds (2,n,a,x)=none:=by
 rcases h with rfl| ⟨l,e,rfl,he⟩
 ·rfl
 ·simp[stepB,he]
theorem tF(ds:List Elem)(e:Elem)(a:List At)(x:Bs):stepB [e] ds (2,e.name,a,x)=some ([],ds++[e]):=by simp[stepB]
theorem tG(l ds:List Elem)(p e:Elem)(a:List At)(x:Bs):stepB (l++[p]++[e]) ds (2,e.name,a,x)=some (l++[⟨p.name,p.attrs,p.text,p.kids++[e]⟩],ds):=by
 simp[stepB]
theorem tH(nm:Bs)(g:BH H n0 pb po vo room os pd vd ds)(hos:os.length≤1000)(h:os=[]∨∃l o,os=l++[o]∧o.n≠nm):
  Sat (CT G) 219 [.hp pb 0 0 0,.str nm] H (fun r H'=>r=.bool false∧H'=H):=by
 have hb:=g.b;have ho:=g.o;have F:=F2 hb ho;refine sb [.tmp 4] Tryz.func219 ?_;intro Q hQ;refine wk F ?_;rcases h with rfl| ⟨l,o,rfl,hne⟩
 ·(first|refine gq F (fun g1=>?_) (fun g1=>?_)|refine pq F (fun g1=>?_) (fun g1=>?_))<;>(try exact g1.elim)<;>(try refine sq F ?_)<;>(refine wk F ?_)
  ·refine ee hQ F ?_;exact R1 (.bool _) ⟨rfl,rfl⟩
  ·exact absurd trivial g1
 ·have e1:((l.length+1:Nat):Int)-1=l.length:=by omega
  have e2:(l++[o])[l.length]? =some o:=by simp
  have e3:l.length<l.length+1:=by omega
  have e4:(o.n==nm)=false:=by simpa using hne
  have F:=F5 F e1 e2 e3 e4;(first|refine gq F (fun g1=>?_) (fun g1=>?_)|refine pq F (fun g1=>?_) (fun g1=>?_))<;>(try exact g1.elim)<;>(try refine sq F ?_)<;>(refine wk F ?_)
  ·exfalso;omega
  ·(try refine sq F ?_);refine wk F ?_;refine ee hQ F ?_;exact R1 (.bool _) ⟨rfl,rfl⟩
theorem tI(o:OE)(g:BH H n0 pb po vo room [o] pd vd ds)(hds:ds.length≤1048576):
  Sat (CT G) 219 [.hp pb 0 0 0,.str o.n] H (BPost n0 pb H [o.el] ds (some ([],ds++[o.el]))):=by
 have hb:=g.b;have ho:=g.o;have hd:=g.d;have hk:=g.k 0 o rfl;have ko:=g.ko 0 o rfl;have hlo:=aA ho;have hlb:=aA hb;have hld:=aA hd;have hlk:=aA hk;have hbo:=g.bo;have hbd:=g.bd;have hbk:=g.bk 0 o rfl;have hod:=g.od;have hn:=g.n;refine Sat.postw (R:=fun r H'=>(FrN n0 H H'∧H.length≤H'.length)∧r=.bool true∧getRow H' pb 0=some (225,2,[.agg [.hs po vo 0 0 false,.hs pd (vd+1) 0 (ds.length+1) true]])∧
   getRow H' po vo=some (171,4,[o.av])∧getRow H' pd (vd+1)=some (171,4,ds.map Elem.av++[o.av])∧
   getRow H' o.q o.v=some (171,4,o.k.map Elem.av)) ?_ (fun r h' ⟨a1,a2,a3,a4,a5,a6⟩=>by
    obtain⟨K',w,f1,f2⟩:=qC (C:=CT G) a3 a4 a5 a6 hod ko hn;exact⟨K',w [],⟨a1.1.trans f1.1,Q5 a1.2 f1.2⟩,a2,po,vo,false,[],pd,vd+1,f2,rfl⟩)
 have e1:((0+1:Nat):Int)-1=0:=by omega
 have hbt:(o.n==o.n)=true:=by simp
 have hsl:∀l,aslice Tryz.prog (H++l) 169 (.hs po vo 0 1 room) none (some (.int .i64 0)) (some (.int .i64 0))=some (.hs po vo 0 0 false):=fun l=>
  kV (r:=0) (by simp only[go_sem];rfl) (eQ ho) (by simp only[go_sem]) (by omega)
 have F:=F8 hb ho hd (F3 (@bne_self_eq_false Int _ _) (@bne_self_eq_false Bool _ _) (@bne_self_eq_false Bs _ _)) hbt e1 hsl @aW;refine sb [.tmp 4] Tryz.func219 ?_;intro Q hQ;(repeat (first|refine w1 (fun K hK=>?_)|refine w2 ?_|refine w3 ?_| ((first|refine w4 ?_|refine wD ?_|refine w5 ?_|refine w6 ?_|refine w7 ?_);try refine sq F ?_)| (refine w8 ?_;refine sq F ?_;refine w9 ?_)| (refine rq F ?_;try refine sq F ?_)| (refine vq F ?_;try refine sq F ?_)| ((first|refine hK _ _ (w0 ?_)| (clear hK K;refine hK _ _ (w0 ?_))| (clear hK K;clear hK K;refine hK _ _ (w0 ?_)));clear hK K)))
 (first|refine gq F (fun g1=>?_) (fun g1=>?_)|refine pq F (fun g1=>?_) (fun g1=>?_))<;>(try exact g1.elim)<;>(try refine sq F ?_)<;>((repeat (first|refine w1 (fun K hK=>?_)|refine w2 ?_|refine w3 ?_| ((first|refine w4 ?_|refine wD ?_|refine w5 ?_|refine w6 ?_|refine w7 ?_);try refine sq F ?_)| (refine w8 ?_;refine sq F ?_;refine w9 ?_)| (refine rq F ?_;try refine sq F ?_)| (refine vq F ?_;try refine sq F ?_)| ((first|refine hK _ _ (w0 ?_)| (clear hK K;refine hK _ _ (w0 ?_))| (clear hK K;clear hK K;refine hK _ _ (w0 ?_)));clear hK K))))
 have tail:∀(t':Env) (h':Heap),FrN n0 H h'→H.length≤h'.length→getRow h' pb 0=some (225,2,[.agg [.hs po vo 0 0 false,.hs pd (vd+1) 0 (ds.length+1) true]])→
   getRow h' po vo=some (171,4,[o.av])→getRow h' pd (vd+1)=some (171,4,ds.map Elem.av++[o.av])→
   getRow h' o.q o.v=some (171,4,o.k.map Elem.av)→K t' h':=by
  intro t' h' a1 a2 a4 a5 a6 a7;refine hK _ _ (M5 ?_);clear hK K;(repeat (first|refine w1 (fun K hK=>?_)|refine w2 ?_|refine w3 ?_| ((first|refine w4 ?_|refine wD ?_|refine w5 ?_|refine w6 ?_|refine w7 ?_);try refine sq F ?_)| (refine w8 ?_;refine sq F ?_;refine w9 ?_)| (refine rq F ?_;try refine sq F ?_)| (refine vq F ?_;try refine sq F ?_)| ((first|refine hK _ _ (w0 ?_)| (clear hK K;refine hK _ _ (w0 ?_))| (clear hK K;clear hK K;refine hK _ _ (w0 ?_)));clear hK K)))
  refine ee hQ F ?_;exact W5 a2 (.bool _) ⟨⟨a1,a2⟩,rfl,a4,a5,a6,a7⟩
 have hlt1:ds.length<ds.length+1:=by omega
 have hg1:∀x:AVal,(ds.map Elem.av++[x])[ds.length]? =some x:=fun x=>by simp
 have hs1:∀x y:AVal,(ds.map Elem.av++[x]).set ds.length y=ds.map Elem.av++[y]:=fun x y=>by simp
 have F:=F4 F hlt1 hg1 hs1;refine d8 7 (.one 7 (.two 8 (.two 9 (.one 10 (.one 11 (.one 12 .nil))) 10 (.two 9 (.one 11 (.one 12 .nil)) 11 (.two 9 (.one 12 .nil) 12 (.one 9 .nil)))) 10 (.two 8 (.two 9 (.one 11 (.one 12 .nil)) 11 (.two 9 (.one 12 .nil) 12 (.one 9 .nil))) 11 (.two 8 (.two 9 (.one 12 .nil) 12 (.one 9 .nil)) 12 (.one 8 (.one 9 .nil)))))) (by decide+kernel) (by kernel_rfl) (by decide+kernel) ?_;simp only[O7,Q3];try refine sq F ?_
 repeat' (first|refine aY ?_| (refine aZ rfl ?_;refine sq F ?_)| (refine b8 rfl rfl ?_ ?_<;>refine sq F ?_))
 refine vq F ?_;try refine sq F ?_
 repeat' (first|refine aY ?_| (refine aZ rfl ?_;refine sq F ?_)| (refine b8 rfl rfl ?_ ?_<;>refine sq F ?_))
 refine aq F ?_;try refine sq F ?_
 (repeat (first|refine w1 (fun K hK=>?_)|refine w2 ?_|refine w3 ?_| ((first|refine w4 ?_|refine wD ?_|refine w5 ?_|refine w6 ?_|refine w7 ?_);try refine sq F ?_)| (refine w8 ?_;refine sq F ?_;refine w9 ?_)| (refine rq F ?_;try refine sq F ?_)| (refine vq F ?_;try refine sq F ?_)))
 repeat' (first|refine aY ?_| (refine aZ rfl ?_;refine sq F ?_)| (refine b8 rfl rfl ?_ ?_<;>refine sq F ?_))
 all_goals (
  show K _ _;refine tail _ _ ?_ ?_ ?_ ?_ ?_ ?_
  ·repeat (first|exact za0 _ _|refine za3 _ (by omega) ?_|refine za1 _ (by simp;omega) ?_)
  ·simp
  ·exact zq F
  ·exact zq F
  ·exact zq F
  ·simp(disch:=first|omega| (simp only[go_sem, ↓reduceIte,seval];first|done|omega)|fail) only[go_sem, ↓reduceIte,seval,F];exact hk)
end
section
attribute [local irreducible] WP WPl WPix Sat
variable (G:Nat→Option (List AVal))
variable {H:Heap} {n0 pb po vo pd vd:Nat} {room:Bool} {os:List OE} {ds:List Elem}
theorem tJ(l:List OE)(p o:OE)(hl:l.length≤1000)(hpk:p.k.length≤1048576)(g:BH H n0 pb po vo room (l++[p,o]) pd vd ds):
  Sat (CT G) 219 [.hp pb 0 0 0,.str o.n] H (BPost n0 pb H ((l++[p,o]).map OE.el) ds (some ((l++[(⟨p.n,p.a,p.t,p.k++[o.el],p.q,p.v+1⟩:OE)]).map OE.el,ds))):=by
 have i0:(l++[p,o])[l.length]? =some p:=by simp
 have i1:(l++[p,o])[l.length+1]? =some o:=by simp
 have il:∀(i:Nat) (x:OE),l[i]? =some x→(l++[p,o])[i]? =some x:=fun i x h=>by rw[L5 (f9.1 h).1];exact h
 have hb:=g.b;have ho:=g.o;have hd:=g.d;have hk:=g.k _ o i1;have ko:=g.ko _ o i1;have hp:=g.k _ p i0;have kp:=g.ko _ p i0;have kop:=g.kk _ _ o p i1 i0 (by omega);have hlo:=aA ho;have hlb:=aA hb;have hld:=aA hd;have hlk:=aA hk;have hlp:=aA hp;have hbo:=g.bo;have hbd:=g.bd;have hbk:=g.bk _ o i1;have hbp:=g.bk _ p i0;have hod:=g.od;have hn:=g.n;have hlen:(l++[p,o]).length=l.length+2:=by simp
 rw[hlen]at hb;refine Sat.postw (R:=fun r H'=>(FrN n0 H H'∧H.length≤H'.length)∧r=.bool true∧getRow H' pb 0=some (225,2,[.agg [.hs po vo 0 (l.length+1) false,.hs pd vd 0 ds.length true]])∧
   getRow H' po vo=some (171,4,l.map OE.av++[.agg [.str p.n,.sl 2 (p.a.map At.av),.str p.t,.hs p.q (p.v+1) 0 (p.k.length+1) true],o.av])∧
   getRow H' p.q (p.v+1)=some (171,4,p.k.map Elem.av++[o.av])∧
   (∀q v x,getRow H q v=some x→q≠pb→q≠po→q≠p.q→getRow H' q v=some x)) ?_ (fun r h' ⟨a1,a2,a3,a4,a5,a6⟩=>by
    obtain⟨K',w,f1,f2⟩:=qD (C:=CT G) (ds:=ds) (n0:=n0) a3 a4 (a6 _ _ _ hd hbd.symm hod.symm kp.2.1.symm) (a6 _ _ _ hk hbk.symm ko.1 kop) a5
     (fun i x hi=>by
      have j:=il i x hi;have hlt:=(f9.1 hi).1;have k1:=g.ko i x j;have k2:=g.kk i l.length x p j i0 (by omega);exact⟨a6 _ _ _ (g.k i x j) (g.bk i x j).symm k1.1 k2,k1.1,k1.2.1,k1.2.2,k2,g.kk i (l.length+1) x o j i1 (by omega)⟩)
     (fun i j x x' hi hj hij=>g.kk i j x x' (il i x hi) (il j x' hj) hij) hod ko kp kop hn
    exact⟨K',w [],⟨a1.1.trans f1.1,Q5 a1.2 f1.2⟩,a2,po,vo,false,_,pd,vd,f2,rfl⟩)
 have e1:((l.length+2:Nat):Int)-1=((l.length+1:Nat):Int):=by omega
 have e2:((l.length+1:Nat):Int)-1=(l.length:Int):=by omega
 have e3:(((l.length+1:Nat):Int)==0)=false:=by simp;omega
 have hbt:(o.n==o.n)=true:=by simp
 have e4:∀x y:AVal,(l.map OE.av++[x,y])[l.length]? =some x:=fun x y=>by simp
 have e5:∀x y:AVal,(l.map OE.av++[x,y])[l.length+1]? =some y:=fun x y=>by simp
 have e6:∀x y z:AVal,(l.map OE.av++[x,y]).set l.length z=l.map OE.av++[z,y]:=fun x y z=>by simp
 have e7:l.length+1<l.length+2:=by omega
 have e8:l.length<l.length+1:=by omega
 have e9:p.k.length<p.k.length+1:=by omega
 have hg1:∀x:AVal,(p.k.map Elem.av++[x])[p.k.length]? =some x:=fun x=>by simp
 have hs1:∀x y:AVal,(p.k.map Elem.av++[x]).set p.k.length y=p.k.map Elem.av++[y]:=fun x y=>by simp
 have hsl:∀j,aslice Tryz.prog (H++j) 169 (.hs po vo 0 (l.length+2) room) none (some (.int .i64 ((l.length+1:Nat):Int))) (some (.int .i64 ((l.length+1:Nat):Int)))=some (.hs po vo 0 (l.length+1) false):=fun j=>
  kV (r:=l.length+1) (by simp only[go_sem];rfl) (eQ ho) (by simp only[go_sem]) (by omega)
 have ho':getRow H po vo=some (171,4,l.map OE.av++[p.av,o.av]):=by rw[ho];simp
 clear ho;have F:=F2 (F9 hb ho' hd hp (F3 (@bne_self_eq_false Int _ _) (@bne_self_eq_false Bool _ _) (@bne_self_eq_false Bs _ _)) hbt e1 e2 e3) (E0 e4 e5 e6 e7 e8 e9 hg1 hs1 hsl @aW);refine sb [.tmp 4] Tryz.func219 ?_;intro Q hQ;(repeat (first|refine w1 (fun K hK=>?_)|refine w2 ?_|refine w3 ?_| ((first|refine w4 ?_|refine wD ?_|refine w5 ?_|refine w6 ?_|refine w7 ?_);try refine sq F ?_)| (refine w8 ?_;refine sq F ?_;refine w9 ?_)| (refine rq F ?_;try refine sq F ?_)| (refine vq F ?_;try refine sq F ?_)| ((first|refine hK _ _ (w0 ?_)| (clear hK K;refine hK _ _ (w0 ?_))| (clear hK K;clear hK K;refine hK _ _ (w0 ?_)));clear hK K)))
 (first|refine gq F (fun g1=>?_) (fun g1=>?_)|refine pq F (fun g1=>?_) (fun g1=>?_))<;>(try exact g1.elim)<;>(try refine sq F ?_)<;>((repeat (first|refine w1 (fun K hK=>?_)|refine w2 ?_|refine w3 ?_| ((first|refine w4 ?_|refine wD ?_|refine w5 ?_|refine w6 ?_|refine w7 ?_);try refine sq F ?_)| (refine w8 ?_;refine sq F ?_;refine w9 ?_)| (refine rq F ?_;try refine sq F ?_)| (refine vq F ?_;try refine sq F ?_)| ((first|refine hK _ _ (w0 ?_)| (clear hK K;refine hK _ _ (w0 ?_))| (clear hK K;clear hK K;refine hK _ _ (w0 ?_)));clear hK K))))
 ·exfalso;omega
 ·refine d8 0 (.one 0 (.two 1 (.one 2 (.one 3 .nil)) 2 (.one 1 (.one 3 .nil)))) (by decide+kernel) (by kernel_rfl) (by decide+kernel) ?_;simp only[O7,Q3];try refine sq F ?_
  repeat' (first|refine aY ?_| (refine aZ rfl ?_;refine sq F ?_)| (refine b8 rfl rfl ?_ ?_<;>refine sq F ?_))
  repeat' (first|refine aY ?_| (refine aZ rfl ?_;refine sq F ?_)| (refine b8 rfl rfl ?_ ?_<;>refine sq F ?_))
  ·show K _ _;refine hK _ _ (M5 ?_);clear hK K
   skip
   (repeat (first|refine w1 (fun K hK=>?_)|refine w2 ?_|refine w3 ?_| ((first|refine w4 ?_|refine w5 ?_|refine w6 ?_|refine w7 ?_);try refine sq F ?_)| (refine w8 ?_;refine sq F ?_;refine w9 ?_)| (refine rq F ?_;try refine sq F ?_)| (refine vq F ?_;try refine sq F ?_)| ((first|refine hK _ _ (w0 ?_)| (clear hK K;refine hK _ _ (w0 ?_))| (clear hK K;clear hK K;refine hK _ _ (w0 ?_)));clear hK K)))
   refine bR 17 6 _ (by rfl) (by decide+kernel) (by kernel_rfl) (by decide+kernel) (by decide+kernel) (by decide+kernel) ?_;simp only[O7,Q3];refine sq F ?_;(repeat (first|refine w1 (fun K hK=>?_)|refine w2 ?_|refine w3 ?_| ((first|refine w4 ?_|refine w5 ?_|refine w6 ?_|refine w7 ?_);try refine sq F ?_)| (refine w8 ?_;refine sq F ?_;refine w9 ?_)| (refine rq F ?_;try refine sq F ?_)| (refine vq F ?_;try refine sq F ?_)| ((first|refine hK _ _ (w0 ?_)| (clear hK K;refine hK _ _ (w0 ?_))| (clear hK K;clear hK K;refine hK _ _ (w0 ?_)));clear hK K)))
   skip
   rw[qj];(try refine sq F ?_);refine aq F ?_;(try refine sq F ?_);(repeat (first|refine w1 (fun K hK=>?_)|refine w2 ?_|refine w3 ?_| ((first|refine w4 ?_|refine wD ?_|refine w5 ?_|refine w6 ?_|refine w7 ?_);try refine sq F ?_)| (refine w8 ?_;refine sq F ?_;refine w9 ?_)| (refine rq F ?_;try refine sq F ?_)| (refine vq F ?_;try refine sq F ?_)))
   refine hK _ _ (M5 ?_);clear hK K;(repeat (first|refine w1 (fun K hK=>?_)|refine w2 ?_|refine w3 ?_| ((first|refine w4 ?_|refine wD ?_|refine w5 ?_|refine w6 ?_|refine w7 ?_);try refine sq F ?_)| (refine w8 ?_;refine sq F ?_;refine w9 ?_)| (refine rq F ?_;try refine sq F ?_)| (refine vq F ?_;try refine sq F ?_)| ((first|refine hK _ _ (w0 ?_)| (clear hK K;refine hK _ _ (w0 ?_))| (clear hK K;clear hK K;refine hK _ _ (w0 ?_)));clear hK K)))
   refine ee hQ F ?_;refine W5 (by simp) (.bool _) ⟨⟨?_,by simp⟩,rfl,?_,?_,?_,?_⟩
   ·repeat (first|exact za0 _ _|refine za3 _ (by omega) ?_|refine za1 _ (by simp;omega) ?_)
   ·exact zq F
   ·exact zq F
   ·exact zq F
   ·intro q v x h1 h2 h3 h4;have h5:=aA h1;have h2':pb≠q:=fun e=>h2 e.symm
    have h3':po≠q:=fun e=>h3 e.symm
    have h4':p.q≠q:=fun e=>h4 e.symm
    simp(disch:=first|omega| (simp only[go_sem, ↓reduceIte,seval];first|done|omega)|fail) only[go_sem, ↓reduceIte,seval,F,h1]
  ·show K _ _;refine hK _ _ (M5 ?_);clear hK K;(repeat (first|refine w1 (fun K hK=>?_)|refine w2 ?_|refine w3 ?_| ((first|refine w4 ?_|refine wD ?_|refine w5 ?_|refine w6 ?_|refine w7 ?_);try refine sq F ?_)| (refine w8 ?_;refine sq F ?_;refine w9 ?_)| (refine rq F ?_;try refine sq F ?_)| (refine vq F ?_;try refine sq F ?_)| ((first|refine hK _ _ (w0 ?_)| (clear hK K;refine hK _ _ (w0 ?_))| (clear hK K;clear hK K;refine hK _ _ (w0 ?_)));clear hK K)))
   refine aq F ?_;(try refine sq F ?_);(repeat (first|refine w1 (fun K hK=>?_)|refine w2 ?_|refine w3 ?_| ((first|refine w4 ?_|refine wD ?_|refine w5 ?_|refine w6 ?_|refine w7 ?_);try refine sq F ?_)| (refine w8 ?_;refine sq F ?_;refine w9 ?_)| (refine rq F ?_;try refine sq F ?_)| (refine vq F ?_;try refine sq F ?_)| ((first|refine hK _ _ (w0 ?_)| (clear hK K;refine hK _ _ (w0 ?_))| (clear hK K;clear hK K;refine hK _ _ (w0 ?_)));clear hK K)))
   refine ee hQ F ?_;refine W5 (by simp) (.bool _) ⟨⟨?_,by simp⟩,rfl,?_,?_,?_,?_⟩
   ·repeat (first|exact za0 _ _|refine za3 _ (by omega) ?_|refine za1 _ (by simp;omega) ?_)
   ·exact zq F
   ·exact zq F
   ·exact zq F
   ·intro q v x h1 h2 h3 h4;have h5:=aA h1;have h2':pb≠q:=fun e=>h2 e.symm
    have h3':po≠q:=fun e=>h3 e.symm
    have h4':p.q≠q:=fun e=>h4 e.symm
    simp(disch:=first|omega| (simp only[go_sem, ↓reduceIte,seval];first|done|omega)|fail) only[go_sem, ↓reduceIte,seval,F,h1]
end
section
attribute [local irreducible] WP WPl WPix Sat
variable (G:Nat→Option (List AVal)) {H:Heap} {n0 pb po vo pd vd:Nat} {room:Bool} {os:List OE} {ds:List Elem}
theorem BH.app(l:Heap)(g:BH H n0 pb po vo room os pd vd ds):BH (H++l) n0 pb po vo room os pd vd ds:=
 ⟨by rw[bm _ (aA g.b)];exact g.b,by rw[bm _ (aA g.o)];exact g.o,by rw[bm _ (aA g.d)];exact g.d,
  fun i o h=>by rw[bm _ (aA (g.k i o h))];exact g.k i o h,g.od,g.ko,g.kk,g.n⟩
theorem tK(nm:Bs)(a:List At)(x:Bs)(g:BH H n0 pb po vo room os pd vd ds)(hos:os.length≤1000)(hds:ds.length≤1048576)(hk:∀o∈os,o.k.length≤1048576):
  Sat (CT G) 219 [.hp pb 0 0 0,.str nm] H (BPost n0 pb H (os.map OE.el) ds (stepB (os.map OE.el) ds (2,nm,a,x))):=by
 have no:(os=[]∨∃l o,os=l++[o]∧o.n≠nm)→Sat (CT G) 219 [.hp pb 0 0 0,.str nm] H (BPost n0 pb H (os.map OE.el) ds (stepB (os.map OE.el) ds (2,nm,a,x))):=fun hno=>by
  have e:stepB (os.map OE.el) ds (2,nm,a,x)=none:=tE _ _ _ (by
   rcases hno with rfl| ⟨l,o,rfl,h⟩
   ·exact .inl rfl
   ·exact .inr ⟨l.map OE.el,o.el,by simp,h⟩) _ _
  rw[e];refine(tH G nm g hos hno).mono ?_;rintro r h' ⟨rfl,rfl⟩;exact⟨⟨za0 _ _,M3 _⟩,rfl⟩
 rcases W0 os with rfl| ⟨l,o,rfl⟩
 ·exact no (.inl rfl)
 ·rw[W1]at*;by_cases hn:o.n=nm
  ·subst hn;rcases W0 l with rfl| ⟨l,p,rfl⟩
   ·have:=tI G o g hds;have e:stepB (([]++[o]).map OE.el) ds (2,o.n,a,x)=some ([],ds++[o.el]):=tF ds o.el a x;rw[e];exact this
   ·rw[W1]at*;have e1:l++[p]++[o]=l++[p,o]:=(by simp);rw[e1]at g hk hos ⊢;have:=tJ G l p o (by simp at hos;omega) (hk p (by simp)) g;have e:stepB ((l++[p,o]).map OE.el) ds (2,o.n,a,x)=some ((l++[(⟨p.n,p.a,p.t,p.k++[o.el],p.q,p.v+1⟩:OE)]).map OE.el,ds):=by
     have:=tG (l.map OE.el) ds p.el o.el a x;simpa [OE.el,Elem.name,Elem.attrs,Elem.text,Elem.kids]using this
    rw[e];exact this
  ·exact no (.inr ⟨l,o,rfl,hn⟩)
end
section
attribute [local irreducible] WP WPl WPix Sat
variable (G:Nat→Option (List AVal)) {H:Heap} {n0 pb po vo pd vd:Nat} {room:Bool} {os:List OE} {ds:List Elem}
theorem BPost.app{l:Heap}{a b:List Elem}{x:Option (List Elem×List Elem)}{r:AVal}{H':Heap}(hn:n0≤H.length)(g:BPost n0 pb (H++l) a b x r H'):BPost n0 pb H a b x r H':=by
 obtain⟨⟨g1,g2⟩,g3⟩:=g;exact⟨⟨(za1 _ (by omega) (za0 _ _)).trans g1,by rw[L4]at g2;omega⟩,g3⟩
theorem BPost.bool{a b:List Elem}{x:Option (List Elem×List Elem)}{r:AVal}{H':Heap}(g:BPost n0 pb H a b x r H'):∃q,r=.bool q:=by
 obtain⟨_,g⟩:=g;cases x with
 |none=>exact⟨_,g⟩
 |some y=>exact⟨_,g.1⟩
theorem BH.start{C:Ctx}(hb:getRow H pb 0=some (225,2,[.agg [.nil (.slice none 0 0),.nil (.slice none 0 0)]]))(hn:n0≤pb):
  ∃H',(∀(ms:List Nat) (t:Env),Weak C ms t H t H')∧(FrN n0 H H'∧H.length≤H'.length)∧∃po pd,BH H' n0 pb po 0 true [] pd 0 []:=by
 have hlt:=aA hb;have g1:getRow (H.set pb (.row 225 2 0 [.agg [.hs H.length 0 0 0 true,.nil (.slice none 0 0)]])++[.row 171 4 0 []]) pb 0=some (225,2,[.agg [.hs H.length 0 0 0 true,.nil (.slice none 0 0)]]):=by
  rw[bm _ (by simpa using hlt),bU _ _ _ _ _ hlt];simp
 refine⟨_,fun ms t=>(Z1 171 4 (by omega) hb 0 rfl).trans (Z1 171 4 (by omega) g1 1 rfl),⟨fun p hp=>?_,by simp;omega⟩,H.length,H.length+1,?_⟩
 ·rw[L5 (by simp;omega),P1 (by omega),L5 (by simp;omega),P1 (by omega)]
 ·refine⟨?_,?_,?_,fun i o hi=>(by simp at hi),by omega,fun i o hi=>(by simp at hi),fun i j o o' hi=>(by simp at hi),⟨hn,by omega,by omega⟩⟩
  ·rw[bm _ (by simp;omega),bU _ _ _ _ _ (by simp;omega)];simp
  ·rw[bm _ (by simp),aH _ _ (by omega),bx _ (by simp)];rfl
  ·rw[bx _ (by simp)];rfl
theorem xN(hG:GOk G)(hC:GClo (CT G))(t:Tok)(ht:Tok.sz t≤1048576)(g:BH H n0 pb po vo room os pd vd ds)(hos:os.length≤1000)(hds:ds.length≤1048576)(hk:∀o∈os,o.k.length≤1048576)(htx:∀o∈os,o.t.length≤10000000):
  Sat (CT G) 181 [.hp pb 0 0 0,t.av] H (BPost n0 pb H (os.map OE.el) ds (stepB (os.map OE.el) ds t)):=by
 obtain⟨k,nm,at_,tx⟩:=t;have hsz:Tok.sz (k,nm,at_,tx)=1+nm.length+szs At.sz at_+tx.length:=rfl;have hal:=bX At.sz At.sz_pos at_;have hlb:=aA g.b;have hn:=g.n;by_cases h1:k=1
 ·subst h1;refine(xM G nm at_ tx (by omega) g hos hds).postw ?_;rintro r h' ⟨hfr,rfl,po',vo',br⟩;obtain⟨h'',hw,hfr2,bh⟩:=br.weak (C:=CT G);refine⟨h'',hw [],⟨hfr.1.trans hfr2.1,by omega⟩,?_⟩;unfold stepB;rw[L7 rfl];by_cases hc:(os.map OE.el).length+1≤32∧ds=[]
  ·rw[L7 hc];have e1:os.length≤31:=(by have:=hc.1;simp at this;omega);refine⟨by rw[P4 e1,hc.2];rfl,po',vo',true,_,pd,vd,bh,by simp[OE.el]⟩
  ·rw[L1 hc];show AVal.bool _=AVal.bool false;congr 1
   rw[Bool.and_eq_false_iff];by_cases e1:os.length≤31
   ·right;rw[decide_eq_false_iff_not];intro e2;exact hc ⟨by simp;omega,O9.1 e2⟩
   ·left;simpa using e1
 have fin:∀(l:Heap) (x:Option (List Elem×List Elem)) (r:AVal) (H':Heap),BPost n0 pb (H++l) (os.map OE.el) ds x r H'→x=stepB (os.map OE.el) ds (k,nm,at_,tx)→Fin H H' (BPost n0 pb H (os.map OE.el) ds (stepB (os.map OE.el) ds (k,nm,at_,tx))) r:=by
  intro l x r H' gp hx;obtain⟨q,rfl⟩:=gp.bool;have hl:=gp.1.2;rw[L4]at hl;rw[← hx];exact W5 (by omega) (.bool _) (BPost.app (by omega) gp)
 refine sb [.tmp 4] Tryz.func181 ?_;intro Q hQ;refine wk trivial ?_;refine cq trivial (fun c1=>?_) (fun c1=>?_)<;>(try exact c1.elim)<;>(refine wk trivial ?_)
 ·exact absurd c1 h1
 refine cq trivial (fun c2=>?_) (fun c2=>?_)<;>(try exact c2.elim)<;>(refine wk trivial ?_)
 ·subst c2;refine(tK G nm at_ tx (g.app _) hos hds hk).mono ?_;intro r h' gp;obtain⟨q,hq⟩:=gp.bool;subst hq;try refine sq trivial ?_
  refine wk trivial ?_;refine ee hQ trivial ?_;exact fin _ _ _ _ gp rfl
 refine cq trivial (fun c3=>?_) (fun c3=>?_)<;>(try exact c3.elim)<;>(refine wk trivial ?_)
 ·subst c3;refine(vj G hG hC tx (by omega) (g.app _) hos (fun o ho=>by have:=htx o ho;omega)).mono ?_;intro r h' gp;obtain⟨q,hq⟩:=gp.bool;subst hq;try refine sq trivial ?_
  refine wk trivial ?_;refine ee hQ trivial ?_;exact fin _ _ _ _ gp (by rw[iV _ _ _ _ _ _ rfl,iV _ _ _ _ _ _ rfl])
 ·refine ee hQ trivial ?_;have e:stepB (os.map OE.el) ds (k,nm,at_,tx)=none:=by
   unfold stepB;rw[L1 h1,L1 c2,L1 c3]
  rw[e];exact W5 (by simp) (.bool _) ⟨⟨za1 _ (by omega) (za0 _ _),by simp⟩,rfl⟩
end
end Go.Av
