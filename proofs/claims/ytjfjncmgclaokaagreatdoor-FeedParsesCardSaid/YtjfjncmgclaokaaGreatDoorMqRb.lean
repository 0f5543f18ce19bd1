/- Parts. -/
import Derived.Test.YtjfjncmgclaokaaGreatDoorMqEx7
import Derived.Test.YtjfjncmgclaokaaGreatDoorMqDr5
set_option linter.unusedSimpArgs false
set_option linter.unusedVariables false
set_option linter.unusedSectionVars false
set_option linter.unnecessarySimpa false
set_option maxRecDepth 100000
set_option maxHeartbeats 16000000
namespace Go.Av
open Go Go.Proofs Go.RowKit
section
attribute [local irreducible] WP WPl WPix Sat
variable (G:Nat→Option (List AVal))
attribute [go_sem] da
@[go_sem] theorem o5(h j l:Heap)(s:Bs)(b:Bool)(k v:Nat):getRow (rdH h j s b++l) (h.length+(1+(j.length+k))) v=getRow l k v:=by
 rw[show h.length+(1+(j.length+k))=(rdH h j s b).length+k by rw[da];omega];exact fX _ l k v
@[go_sem] theorem o6(h j l:Heap)(s:Bs)(b:Bool)(v:Nat):getRow (rdH h j s b++l) (h.length+(1+j.length)) v=getRow l 0 v:=o5 h j l s b 0 v
@[go_sem] theorem ur(h j l:Heap)(s:Bs)(b:Bool)(k:Nat)(x:Blk):(rdH h j s b++l).set (h.length+(1+(j.length+k))) x=rdH h j s b++l.set k x:=by
 rw[show h.length+(1+(j.length+k))=(rdH h j s b).length+k by rw[da];omega];exact ki _ l k x
@[go_sem] theorem mS(h j l:Heap)(s:Bs)(b:Bool)(x:Blk):(rdH h j s b++l).set (h.length+(1+j.length)) x=rdH h j s b++l.set 0 x:=ur h j l s b 0 x
theorem oS(h j l:Heap)(s:Bs)(b:Bool):rdH h j s b++l=rdH h (j++l) s b:=by simp[rdH]
theorem bW{f:FuncId}{args:List AVal}{h j l:Heap}{s:Bs}{b:Bool}{x:AVal}{s1:Bs}{b1:Bool}(g:∀j,Sat (CT G) f args (rdH h j s b) (fun r h'=>r=x∧h'=rdH h j s1 b1)):
  Sat (CT G) f args (rdH h j s b++l) (fun r h'=>r=x∧h'=rdH h j s1 b1++l):=by
 rw[oS];refine(g (j++l)).mono fun r h' ⟨e1,e2⟩=>⟨e1,by rw[e2,oS]⟩
def attrX(s:Bs)(b:Bool):At×Bs×Bool:=
 let n:=nameW s
 let b1:=b||badN n
 let s2:=(nameR s).dropWhile blankB
 let b3:=b1|| !Lib.hasPrefix s2 [61]
 let s4:=(Lib.trimPrefix s2 [61]).dropWhile blankB
 if b3=true then((n,[]),s4,b3)else((n,(valueF s4 b3).1),(valueF s4 b3).2.1,(valueF s4 b3).2.2)
theorem aC(p:UInt8→Bool)(s:Bs):(s.dropWhile p).length≤s.length:=(List.dropWhile_sublist p).length_le
theorem ut(hG:GOk G)(s:Bs)(b:Bool)(hs:s.length≤1048576)(h j:Heap):Sat (CT G) 230 [.hp h.length 0 0 0] (rdH h j s b)
  (fun r h'=>r=(attrX s b).1.av∧h'=rdH h j (attrX s b).2.1 (attrX s b).2.2):=by
 have h1:(nameR s).length≤s.length:=aC _ _;have h2:=aC blankB (nameR s);have h3:=aL ((nameR s).dropWhile blankB) [61];have h4:=aC blankB (Lib.trimPrefix ((nameR s).dropWhile blankB) [61]);have c1:∀l,Sat (CT G) 227 [.hp h.length 0 0 0] (rdH h j s b++l) _:=fun l=>bW G (l:=l) fun j=>gx G s b (by omega) h j
 have c2:∀l b1,Sat (CT G) 228 [.hp h.length 0 0 0] (rdH h j (nameR s) b1++l) _:=fun l b1=>bW G (l:=l) fun j=>fp G (nameR s) b1 (by omega) h j
 have c3:∀l b1,Sat (CT G) 229 [.hp h.length 0 0 0,.str [61]] (rdH h j ((nameR s).dropWhile blankB) b1++l) _:=fun l b1=>bW G (l:=l) fun j=>j6 G [61] ((nameR s).dropWhile blankB) b1 h j
 have c4:∀l b1,Sat (CT G) 228 [.hp h.length 0 0 0] (rdH h j (Lib.trimPrefix ((nameR s).dropWhile blankB) [61]) b1++l) _:=fun l b1=>bW G (l:=l) fun j=>fp G _ b1 (by omega) h j
 have c5:∀l b1,Sat (CT G) 272 [.hp h.length 0 0 0] (rdH h j ((Lib.trimPrefix ((nameR s).dropWhile blankB) [61]).dropWhile blankB) b1++l) _:=fun l b1=>bW G (l:=l) fun j=>rV G hG _ b1 (by omega) h j
 refine sb [.cell 2 228] Tryz.func230 ?_;intro Q hQ;refine aj trivial ?_;refine aJ trivial (c1 _) ?_;refine aJ trivial (c2 _ _) ?_;refine aJ trivial (c3 _ _) ?_;refine aJ trivial (c4 _ _) ?_;refine aH trivial (fun hc=>?_) (fun hc=>?_)<;>(try exact hc.elim)<;>(refine aj trivial ?_)
 ·refine aJ trivial (c5 _ _) ?_;refine oI hQ trivial ?_;have e:attrX s b=((nameW s,(valueF _ _).1),(valueF _ _).2.1,(valueF _ _).2.2):=G0 (by simp[hc]);rw[e];exact cy h j _ _ s _ b rfl (fun n=>.agg _ (by intro c hc;simp at hc;rcases hc with rfl|rfl<;>exact .str _))
 ·refine oI hQ trivial ?_;have e:attrX s b=((nameW s,[]),_,_):=G3 (by simpa using hc);rw[e];exact cy h j _ _ s _ b rfl (fun n=>.agg _ (by intro c hc;simp at hc;rcases hc with rfl|rfl<;>exact .str _))
theorem qg(a:At)(w:Bs)(h:Heap):Sat (CT G) 274 [a.av,.hp h.length 0 0 0] (h++[.row 9 1 0 [.str w]])
  (fun r h'=>r=.bool (a.1==w)∧h'=h++[.row 9 1 0 [.str w]]):=by
 obtain⟨n,v⟩:=a;show Sat _ _ [.agg [.str n,.str v],_] _ _;refine sb [.tmp 3] Tryz.func274 ?_;intro Q hQ;refine aj trivial ?_;refine aj trivial ?_;refine ay hQ trivial ?_;exact V3 (j:=_) (M5 h [_] [_]).symm (.bool _) ⟨rfl,rfl⟩
def idxG(p:At→Bool)(l:List At):Int:=match l.findIdx? p with
 |some i=>i
 |none=> -1
theorem uu(p:At→Bool)(l:List At):decide (0≤idxG p l)=l.any p:=by
 unfold idxG;cases h:l.findIdx? p with
 |some i=>
  rw[N7]at h;obtain⟨hi,h1,_⟩:=h;have:l.any p=true:=R0.2 ⟨l[i],List.getElem_mem hi,h1⟩;rw[this];simp
 |none=>
  rw[R3]at h;have:l.any p=false:=by rw[List.any_eq_false];intro a ha;simp[h a ha]
  rw[this];rfl
theorem mT(s:Bs)(h:Heap):Sat (CT G) 171 [.str s] h (fun r h'=>r=.sl 4 ([(3,[],[],s)].map Tok.av)∧h'=h):=by
 skip
 refine sb [.tmp 2] Tryz.func171 ?_;intro Q hQ;refine rF trivial ?_;refine rF trivial ?_;refine ay hQ trivial ?_;have fz:=lq (h0:=h) (h1:=h++[.row 182 4 0 [.agg [.int .i64 3,.str [],.nil (.slice none 0 0),.str s]]]) (pre:=h) (post:=[]) [] 3 [] s rfl rfl (H5 _);exact P3 fz ⟨rfl,rfl⟩
theorem db(h j jj:Heap)(s s0:Bs)(b b0:Bool){h2:Heap}{x y:AVal}(hh:h2=rdH h j s b++jj)(hx:Frz h2 (rdH h j s0 b0).length x y):Fin (rdH h j s0 b0) h2 (fun r h'=>r=y∧h'=rdH h j s b) x:=by
 subst hh;exact Fin.keepF (by simp only[da]) (fun p k hk=>oR _ _ _ _ _ _ _ p k hk) hx ⟨rfl,rfl⟩
def kindF(s:Bs)(b:Bool):Bs×Bool:=
 let u:=uptoF [62] s b
 (u.2.1,Lib.contains u.1 [91]||u.2.2)
theorem uw(hG:GOk G)(s:Bs)(b:Bool)(hs:s.length≤1048576)(h j:Heap):Sat (CT G) 170 [.hp h.length 0 0 0] (rdH h j s b)
  (fun r h'=>r=.sl 4 []∧h'=rdH h j (kindF s b).1 (kindF s b).2):=by
 have hu:=dS [62] s b;have hus:=dC G hG [62] s b (by omega) h j;have hv:kindF s b=((uptoF [62] s b).2.1,Lib.contains (uptoF [62] s b).1 [91]||(uptoF [62] s b).2.2):=rfl;rw[hv];generalize uptoF [62] s b=u at hu hus ⊢;refine sb [.tmp 2] Tryz.func170 ?_;intro Q hQ;refine rF trivial ?_;refine rG trivial (hus) ?_;refine rG trivial (dm G hG u.1 [91] (by omega) _) ?_;have end_:=fun b1=>db h j [] u.2.1 s b1 b (x:=.nil (.slice none 0 0)) (y:=.sl 4 []) (J3 _).symm (Frz.nils 4)
 (first|refine bD trivial (fun g=>?_) (fun g=>?_)|refine pqo trivial (fun g=>?_) (fun g=>?_))<;>(try exact g.elim)<;>(try refine am trivial ?_)<;>(refine rF trivial ?_)
 ·refine ay hQ trivial ?_;rw[g,L0]at*;exact end_ _
 ·refine ay hQ trivial ?_;rw[g,O0]at*;exact end_ _
def closeF(s:Bs)(b:Bool):Bs×Bool:=
 let s2:=(nameR s).dropWhile blankB
 (Lib.trimPrefix s2 [62],(b||badN (nameW s))|| !Lib.hasPrefix s2 [62])
theorem rW(s:Bs)(b:Bool)(hs:s.length≤1048576)(h j:Heap):Sat (CT G) 172 [.hp h.length 0 0 0] (rdH h j s b)
  (fun r h'=>r=.sl 4 ([(2,nameW s,[],[])].map Tok.av)∧h'=rdH h j (closeF s b).1 (closeF s b).2):=by
 have h1:(nameR s).length≤s.length:=aC _ _;have c1:∀l,Sat (CT G) 227 [.hp h.length 0 0 0] (rdH h j s b++l) _:=fun l=>bW G (l:=l) fun j=>gx G s b (by omega) h j
 have c2:∀l b1,Sat (CT G) 228 [.hp h.length 0 0 0] (rdH h j (nameR s) b1++l) _:=fun l b1=>bW G (l:=l) fun j=>fp G (nameR s) b1 (by omega) h j
 have c3:∀l b1,Sat (CT G) 229 [.hp h.length 0 0 0,.str [62]] (rdH h j ((nameR s).dropWhile blankB) b1++l) _:=fun l b1=>bW G (l:=l) fun j=>j6 G [62] ((nameR s).dropWhile blankB) b1 h j
 refine sb [.tmp 2] Tryz.func172 ?_;intro Q hQ;refine rF trivial ?_;refine rG trivial (gx G s b (by omega) h j) ?_;refine rG trivial (c2 _ _) ?_;refine rG trivial (c3 _ _) ?_;refine ay hQ trivial ?_;refine db h j _ _ s _ b rfl ?_;exact lq (pre:=rdH h j _ _++[_]) (post:=[]) [] 2 (nameW s) [] (M5 _ [_] [_]).symm (by simp[da];try omega) (by simp[da];try omega)
end
section
attribute [local irreducible] WP WPl WPix Sat
theorem At.cells_sto(e:At):∀c∈e.av.cells,c.sto=true:=by
 rw[At.av_cells];intro c hc;simp only[J6,Q9,or_false]at hc;rcases hc with rfl|rfl<;>rfl
theorem Frz.ats{h:Heap}{n q v e:Nat}{l:List At}{len:Nat}{room:Bool}(hq:n≤q)(hg:getRow h q v=some (e,2,l.map At.av))(hlen:len=l.length):Frz h n (.hs q v 0 len room) (.sl 2 (l.map At.av)):=
 Frz.data hq hg (by simpa using hlen) (fun r hr=>by obtain⟨a,_,rfl⟩:=J9.1 hr;exact At.clo _ a) (fun r hr=>by obtain⟨a,_,rfl⟩:=J9.1 hr;exact At.cells_sto a)
variable (G:Nat→Option (List AVal))
theorem kA(p:At→Bool)(g:FuncId)(cap:List AVal)(h:Heap)(hg:∀a:At,Sat (CT G) g ([]++[a.av]++cap) h (fun r h'=>r=.bool (p a)∧h'=h))(l:List At)(q v:Nat)(hrow:getRow h q v=some (228,2,l.map At.av))(hl:l.length≤1073741824):
  Sat (CT G) 221 [.hs q v 0 l.length true,.fn (.func g) [] cap] h
   (fun r h'=>r=.int .i64 (idxG p l)∧h'=h):=by
 have F:= @hrow;refine sb [.tmp 4] Tryz.func221 ?_;intro Q hQ;refine aj F ?_;refine lm (fun nL tL hL=>∃(k:Nat),l.length-k=nL∧h=hL∧tL 8=.int .i64 k∧k≤l.length∧∀a∈l.take k,p a=false) ((fun(k:Nat)=>(l.length-k:Nat)) (0)) ?_ ?_
 ·refine G9 ⟨0,rfl,ar,?_,Nat.zero_le _,by simp⟩;all_goals first|exact aE F|rfl|omega|trivial|skip
 rintro _ s2 h' ⟨k,rfl,rfl,e8,hk,hp⟩ K2 hK2;simp only[ai,ak,Nat.reduceEqDiff, ↓reduceIte]at e8;have F:=F2 F e8;refine aj F ?_;refine aH F (fun hc=>?_) (fun hc=>?_)<;>(try exact hc.elim)
 ·obtain⟨y,hy,hym⟩:=ae hc;have F:=F2 F hy;refine aj F ?_;refine⟨hc,?_⟩;refine aJ F (hg y) ?_;refine aH F (fun hq=>?_) (fun hq=>?_)<;>(try exact hq.elim)<;>(refine aj F ?_)
  ·refine ay hQ F ?_;have e:idxG p l=k:=by
    unfold idxG;have:l.findIdx? p=some k:=by
     rw[N7];refine⟨hc,?_,?_⟩
     ·rw[G1 hc]at hy;cases hy;exact hq
     ·intro i hi;rw[hp _ (by rw[List.mem_take_iff_getElem];exact⟨i,by omega,rfl⟩)];simp
    rw[this]
   rw[e];exact V3 (j:=[]) (J3 _).symm (.int _ _) ⟨rfl,rfl⟩
  ·have hp1:∀a∈l.take (k+1),p a=false:=by
    rw[M2,hy];intro a ha;simp at ha;rcases ha with ha|rfl
    ·exact hp a ha
    ·exact hq
   refine hK2 _ _ _ (G9 ⟨k+1,rfl,ar,?_,by omega,hp1⟩) (by omega);all_goals first|exact aE F|rfl|omega|trivial|skip
 ·refine aj F ?_;refine ay hQ F ?_;have e:idxG p l= -1:=by
   unfold idxG;have:l.findIdx? p=none:=by
    rw[R3];intro a ha;exact hp a (by rwa [H9 hc])
   rw[this]
  rw[e];exact V3 (j:=[]) (J3 _).symm (.int _ _) ⟨rfl,rfl⟩
theorem iL(p:At→Bool)(g:FuncId)(cap:List AVal)(h:Heap)(hg:∀a:At,Sat (CT G) g ([]++[a.av]++cap) h (fun r h'=>r=.bool (p a)∧h'=h))(l:List At)(q v:Nat)(hrow:getRow h q v=some (228,2,l.map At.av))(hl:l.length≤1073741824):
  Sat (CT G) 273 [.hs q v 0 l.length true,.fn (.func g) [] cap] h
   (fun r h'=>r=.bool (l.any p)∧h'=h):=by
 refine sb [.tmp 4] Tryz.func273 ?_;intro Q hQ;refine aj trivial ?_;refine aJ trivial (kA G p g cap h hg l q v hrow hl) ?_;refine ay hQ trivial ?_;rw[uu]at*;exact V3 (j:=[]) (J3 _).symm (.bool _) ⟨rfl,rfl⟩
theorem qh(l:List At)(w:Bs)(h:Heap)(q v:Nat)(hrow:getRow h q v=some (228,2,l.map At.av))(hl:l.length≤1073741824):Sat (CT G) 231 [.hs q v 0 l.length true,.str w] h
  (fun r h'=>r=.bool (l.any fun a=>a.1==w)∧h'=h):=by
 refine sb [.tmp 4] Tryz.func231 ?_;intro Q hQ;refine aj trivial ?_;refine aJ trivial (iL G (fun a=>a.1==w) 274 [.hp h.length 0 0 0] _ (fun a=>qg G a w h) l q v (eC hrow) hl) ?_;refine ay hQ trivial ?_;exact V3 (j:=_) rfl (.bool _) ⟨rfl,rfl⟩
end
section
attribute [local irreducible] WP WPl WPix Sat
variable (G:Nat→Option (List AVal))
def textP(c:Int):Bool:= !(decide (c=60))
def textB(b:UInt8):Bool:=textP b.toNat
theorem vU:ByByte textP textB true:=⟨fun _ _=>rfl,fun c hc _=>by unfold textP;simp;omega,fun b hb=>by unfold textB textP;simp;omega⟩
theorem rX(c:Int)(h:Heap):Sat (CT G) 176 [.int .i32 c] h (fun r h'=>r=.bool (textP c)∧h'=h):=by
 refine sb [.tmp 2] Tryz.func176 ?_;intro Q hQ;refine aj trivial ?_;refine ay hQ trivial ?_;exact V3 (j:=[]) (J3 _).symm (.bool _) ⟨by unfold textP;rfl,rfl⟩
def openL:Nat→Bs→List At→Bs→Bool→List Tok×Bs×Bool
 |0,_,_,s,_=>([],s,true)
 |f+1,n,at_,s,b=>
  if b=true then([],s,true)else
  if Lib.hasPrefix (s.dropWhile blankB) [62]=true then([(1,n,at_,[])],Lib.trimPrefix (s.dropWhile blankB) [62],false)else
  if Lib.hasPrefix (s.dropWhile blankB) [47,62]=true then([(1,n,at_,[]),(2,n,[],[])],Lib.trimPrefix (s.dropWhile blankB) [47,62],false)else
  openL f n (at_++[(attrX (s.dropWhile blankB) false).1]) (attrX (s.dropWhile blankB) false).2.1
   ((((attrX (s.dropWhile blankB) false).2.2||s.takeWhile blankB==[])||at_.any fun a=>a.1==(attrX (s.dropWhile blankB) false).1.1)||decide (32≤at_.length))
theorem bP(w s:Bs)(b:Bool):(uptoF w s b).2.1.length≤s.length:=(dS w s b).2
theorem rY(s:Bs)(b:Bool):(valueF s b).2.1.length≤s.length:=by
 have h1:=aL s (if Lib.hasPrefix s [34]=true then [34]else [39]);have h2:=bP (if Lib.hasPrefix s [34]=true then [34]else [39]) (Lib.trimPrefix s (if Lib.hasPrefix s [34]=true then [34]else [39])) (b|| !Lib.hasPrefix s (if Lib.hasPrefix s [34]=true then [34]else [39]));show(uptoF _ _ _).2.1.length≤_;omega
theorem fN(s:Bs)(h:badN (nameW s)=false):(nameR s).length<s.length:=by
 have h1:(nameW s).length+(nameR s).length=s.length:=by
  have:=J2 List.length (M3 (p:=moreB) (l:=s));rw[H7]at this;exact this
 cases hn:nameW s with
 |nil=>rw[hn]at h;cases h
 |cons c t=>rw[hn]at h1;simp at h1;omega
theorem fq(s:Bs)(b:Bool):(attrX s b).2.1.length≤(nameR s).length:=by
 have h2:=aC blankB (nameR s);have h3:=aL ((nameR s).dropWhile blankB) [61];have h4:=aC blankB (Lib.trimPrefix ((nameR s).dropWhile blankB) [61]);unfold attrX;simp only[];split
 ·simp only[];omega
 ·have:=rY ((Lib.trimPrefix ((nameR s).dropWhile blankB) [61]).dropWhile blankB) (b||badN (nameW s)|| !Lib.hasPrefix ((nameR s).dropWhile blankB) [61]);simp only[];omega
theorem rZ(w s:Bs):(uptoF w s true).2.2=true:=by unfold uptoF;split<;>rfl
theorem gy(s:Bs)(h:(attrX s false).2.2=false):badN (nameW s)=false:=by
 cases hb:badN (nameW s)with
 |false=>rfl
 |true=>
  exfalso;unfold attrX at h;simp only[hb,T6,L0,if_true]at h;cases h
theorem jI(s:Bs)(h:(attrX s false).2.2=false):(attrX s false).2.1.length<s.length:=by
 have h1:=fq s false;have h2:=fN s (gy s h);omega
def openF(s:Bs):List Tok×Bs×Bool:=openL (s.length+3) (nameW s) [] (nameR s) (badN (nameW s))
def tkR(n:Bs)(q v len:Nat):Blk:=.row 182 4 0 [.agg [.int .i64 1,.str n,.hs q v 0 len true,.str []]]
def atR(v:Nat)(l:List At):Blk:=.row 228 2 v (l.map At.av)
@[go_sem] theorem zN(n:Bs)(q v len:Nat)(l:Heap):getRow (tkR n q v len::l) 0 0=some (182,4,[.agg [.int .i64 1,.str n,.hs q v 0 len true,.str []]]):=rfl
@[go_sem] theorem yj(n:Bs)(q v len:Nat)(l:Heap)(k u:Nat):getRow (tkR n q v len::l) (k+1) u=getRow l k u:=rfl
@[go_sem] theorem zO(v:Nat)(l:List At)(j:Heap):getRow (atR v l::j) 0 v=some (228,2,l.map At.av):=by simp[getRow,atR]
@[go_sem] theorem yk(v:Nat)(l:List At)(j:Heap)(k u:Nat):getRow (atR v l::j) (k+1) u=getRow j k u:=rfl
theorem oT{H:Heap}{n q v e:Nat}(k:Int)(nm:Bs)(l:List At)(hg:getRow H q v=some (e,2,l.map At.av))(hq:n≤q):FrzR H n (.agg [.int .i64 k,.str nm,.hs q v 0 l.length true,.str []]) (Tok.av (k,nm,l,[])):=
 FrzL.row (.cons (.clo _ (.int _ _)) (.cons (.clo _ (.str _)) (.cons (Frz.ats hq hg rfl) (.cons (.clo _ (.str _)) .nil)))) rfl
theorem ux{H:Heap}{n:Nat}(k:Int)(nm:Bs):FrzR H n (.agg [.int .i64 k,.str nm,.nil (.slice none 0 0),.str []]) (Tok.av (k,nm,[],[])):=
 FrzL.row (.cons (.clo _ (.int _ _)) (.cons (.clo _ (.str _)) (.cons (.nils _) (.cons (.clo _ (.str _)) .nil)))) rfl
theorem uy(hG:GOk G)(s:Bs)(hs:s.length≤1048576)(h j:Heap):Sat (CT G) 173 [.hp h.length 0 0 0] (rdH h j s false)
  (fun r h'=>r=.sl 4 ((openF s).1.map Tok.av)∧h'=rdH h j (openF s).2.1 (openF s).2.2):=by
 have h1:(nameR s).length≤s.length:=aC _ _;have c1:∀s b l,s.length≤1048576→Sat (CT G) 228 [.hp h.length 0 0 0] (rdH h j s b++l) _:=fun s b l hs=>bW G (l:=l) fun j=>fp G s b (by omega) h j
 have c2:∀w s b l,Sat (CT G) 168 [.hp h.length 0 0 0,.str w] (rdH h j s b++l) _:=fun w s b l=>bW G (l:=l) fun j=>bU G w s b h j
 have c3:∀s b l,s.length≤1048576→Sat (CT G) 230 [.hp h.length 0 0 0] (rdH h j s b++l) _:=fun s b l hs=>bW G (l:=l) fun j=>ut G hG s b hs h j
 have end_:=fun(jj:Heap) (x:AVal)=>db h j jj (openF s).2.1 s (openF s).2.2 false (x:=x) (y:=.sl 4 ((openF s).1.map Tok.av)) rfl
 skip
 refine sb [.tmp 2] Tryz.func173 ?_;intro Q hQ;(repeat (first|refine w1 (fun K hK=>?_)|refine w2 ?_|refine w3 ?_| ((first|refine w4 ?_|refine wD ?_|refine w5 ?_|refine w6 ?_|refine w7 ?_);try refine sq trivial ?_)| (refine w8 ?_;refine sq trivial ?_;refine w9 ?_)| (refine xq trivial ?_;try refine sq trivial ?_)| ((first|refine hK _ _ (w0 ?_)| (clear hK K;refine hK _ _ (w0 ?_))| (clear hK K;clear hK K;refine hK _ _ (w0 ?_)));clear hK K)))
 refine(gx G s false (by omega) h j).mono ?_;rintro r h' ⟨rfl,rfl⟩;try refine sq trivial ?_
 (repeat (first|refine w1 (fun K hK=>?_)|refine w2 ?_|refine w3 ?_| ((first|refine w4 ?_|refine wD ?_|refine w5 ?_|refine w6 ?_|refine w7 ?_);try refine sq trivial ?_)| (refine w8 ?_;refine sq trivial ?_;refine w9 ?_)| (refine xq trivial ?_;try refine sq trivial ?_)| ((first|refine hK _ _ (w0 ?_)| (clear hK K;refine hK _ _ (w0 ?_))| (clear hK K;clear hK K;refine hK _ _ (w0 ?_)));clear hK K)))
 refine lm (fun nL tL hL=>∃(f v:Nat) (s1:Bs) (b:Bool) (at_:List At) (jj:Heap),f=nL∧rdH h j s1 b++tkR (nameW s) (h.length+(1+(j.length+1))) v at_.length::atR v at_::jj=hL∧tL 0=.hp h.length 0 0 0∧tL 3=.hp (h.length+(1+j.length)) 0 0 0∧s1.length≤s.length∧(1≤f∧(b=false→s1.length+2≤f))∧openL f (nameW s) at_ s1 b=openF s∧((b=false→at_.length≤32))) ((fun(f v:Nat) (s1:Bs) (b:Bool) (at_:List At) (jj:Heap)=>(f:Nat)) ((s.length+3)) (0) ((nameR s)) (badN (nameW s)) ([]) ([])) ?_ ?_
 ·refine⟨_,_,S7 (p:=h.length+(1+j.length)) (v:=0) 228 2 (by omega) (by simp(disch:=first|omega| (simp only[go_sem, ↓reduceIte,seval];first|done|omega)|fail) only[go_sem, ↓reduceIte,seval];rfl) 2 rfl,⟨(s.length+3),0,(nameR s),badN (nameW s),[],[],rfl,(by rw[mS];simp[da,tkR,atR,Nat.add_assoc]),?_,?_,h1,⟨by omega,fun _=>by omega⟩,rfl,fun _=>by simp⟩⟩;all_goals try exact zZz trivial
 rintro _ s2 h' ⟨f,v,s1,b,at_,jj,rfl,rfl,e0,e3,hs1,hf,hp,ha⟩ K2 hK2;simp only[ai,ak,Nat.reduceEqDiff, ↓reduceIte]at e0 e3;have F:=F2 e0 e3;(repeat (first|refine w1 (fun K hK=>?_)|refine w2 ?_|refine w3 ?_| ((first|refine w4 ?_|refine wD ?_|refine w5 ?_|refine w6 ?_|refine w7 ?_);try refine sq F ?_)| (refine w8 ?_;refine sq F ?_;refine w9 ?_)| (refine xq F ?_;try refine sq F ?_)| ((first|refine hK _ _ (w0 ?_)| (clear hK K;refine hK _ _ (w0 ?_))| (clear hK K;clear hK K;refine hK _ _ (w0 ?_)));clear hK K)))
 refine cq F (fun hc=>?_) (fun hc=>?_)<;>(try exact hc.elim)<;>((repeat (first|refine w1 (fun K hK=>?_)|refine w2 ?_|refine w3 ?_| ((first|refine w4 ?_|refine wD ?_|refine w5 ?_|refine w6 ?_|refine w7 ?_);try refine sq F ?_)| (refine w8 ?_;refine sq F ?_;refine w9 ?_)| (refine xq F ?_;try refine sq F ?_)| ((first|refine hK _ _ (w0 ?_)| (clear hK K;refine hK _ _ (w0 ?_))| (clear hK K;clear hK K;refine hK _ _ (w0 ?_)));clear hK K))))
 ·subst hc;obtain⟨g,rfl⟩:∃g,f=g+1:=⟨f-1,by omega⟩;have hd:=aC blankB s1;rw[openL,G0 (by simp)]at hp;have hf2:=hf.2 rfl;have ha2:=ha rfl;(repeat (first|refine w1 (fun K hK=>?_)|refine w2 ?_|refine w3 ?_| ((first|refine w4 ?_|refine wD ?_|refine w5 ?_|refine w6 ?_|refine w7 ?_);try refine sq F ?_)| (refine w8 ?_;refine sq F ?_;refine w9 ?_)| (refine xq F ?_;try refine sq F ?_)| ((first|refine hK _ _ (w0 ?_)| (clear hK K;refine hK _ _ (w0 ?_))| (clear hK K;clear hK K;refine hK _ _ (w0 ?_)));clear hK K)))
  refine(c1 _ _ _ (by omega)).mono ?_;rintro r h' ⟨rfl,rfl⟩;try refine sq F ?_
  (repeat (first|refine w1 (fun K hK=>?_)|refine w2 ?_|refine w3 ?_| ((first|refine w4 ?_|refine wD ?_|refine w5 ?_|refine w6 ?_|refine w7 ?_);try refine sq F ?_)| (refine w8 ?_;refine sq F ?_;refine w9 ?_)| (refine xq F ?_;try refine sq F ?_)| ((first|refine hK _ _ (w0 ?_)| (clear hK K;refine hK _ _ (w0 ?_))| (clear hK K;clear hK K;refine hK _ _ (w0 ?_)));clear hK K)))
  refine(c2 [62] _ _ _).mono ?_;rintro r h' ⟨rfl,rfl⟩;try refine sq F ?_
  (repeat (first|refine w1 (fun K hK=>?_)|refine w2 ?_|refine w3 ?_| ((first|refine w4 ?_|refine wD ?_|refine w5 ?_|refine w6 ?_|refine w7 ?_);try refine sq F ?_)| (refine w8 ?_;refine sq F ?_;refine w9 ?_)| (refine xq F ?_;try refine sq F ?_)| ((first|refine hK _ _ (w0 ?_)| (clear hK K;refine hK _ _ (w0 ?_))| (clear hK K;clear hK K;refine hK _ _ (w0 ?_)));clear hK K)))
  refine cq F (fun hc1=>?_) (fun hc1=>?_)<;>(try exact hc1.elim)<;>((repeat (first|refine w1 (fun K hK=>?_)|refine w2 ?_|refine w3 ?_| ((first|refine w4 ?_|refine wD ?_|refine w5 ?_|refine w6 ?_|refine w7 ?_);try refine sq F ?_)| (refine w8 ?_;refine sq F ?_;refine w9 ?_)| (refine xq F ?_;try refine sq F ?_)| ((first|refine hK _ _ (w0 ?_)| (clear hK K;refine hK _ _ (w0 ?_))| (clear hK K;clear hK K;refine hK _ _ (w0 ?_)));clear hK K))))
  ·rw[G3 hc1]at hp;refine ee hQ F ?_;rw[← hp];refine db h j _ _ s _ false rfl ?_;exact FrzRs.hs (by simp(disch:=first|omega| (simp only[go_sem, ↓reduceIte,seval];first|done|omega)|fail) only[go_sem, ↓reduceIte,seval,F];rfl) rfl (by simp(disch:=first|omega| (simp only[go_sem, ↓reduceIte,seval];first|done|omega)|fail) only[go_sem, ↓reduceIte,seval,F];omega) (.cons (oT 1 _ at_ (by simp(disch:=first|omega| (simp only[go_sem, ↓reduceIte,seval];first|done|omega)|fail) only[go_sem, ↓reduceIte,seval,F];rfl) (by simp(disch:=first|omega| (simp only[go_sem, ↓reduceIte,seval];first|done|omega)|fail) only[go_sem, ↓reduceIte,seval,F];omega)) .nil)
  ·rw[G0 (by simp[hc1])]at hp;have htp:Lib.trimPrefix (s1.dropWhile blankB) [62]=s1.dropWhile blankB:=(by unfold Lib.trimPrefix;rw[G0 (by simp[hc1])]);rw[htp];refine(c2 [47,62] _ _ _).mono ?_;rintro r h' ⟨rfl,rfl⟩;(try refine sq F ?_);(repeat (first|refine w1 (fun K hK=>?_)|refine w2 ?_|refine w3 ?_| ((first|refine w4 ?_|refine wD ?_|refine w5 ?_|refine w6 ?_|refine w7 ?_);try refine sq F ?_)| (refine w8 ?_;refine sq F ?_;refine w9 ?_)| (refine xq F ?_;try refine sq F ?_)| ((first|refine hK _ _ (w0 ?_)| (clear hK K;refine hK _ _ (w0 ?_))| (clear hK K;clear hK K;refine hK _ _ (w0 ?_)));clear hK K)))
   refine cq F (fun hc2=>?_) (fun hc2=>?_)<;>(try exact hc2.elim)<;>((repeat (first|refine w1 (fun K hK=>?_)|refine w2 ?_|refine w3 ?_| ((first|refine w4 ?_|refine wD ?_|refine w5 ?_|refine w6 ?_|refine w7 ?_);try refine sq F ?_)| (refine w8 ?_;refine sq F ?_;refine w9 ?_)| (refine xq F ?_;try refine sq F ?_)| ((first|refine hK _ _ (w0 ?_)| (clear hK K;refine hK _ _ (w0 ?_))| (clear hK K;clear hK K;refine hK _ _ (w0 ?_)));clear hK K))))
   ·rw[G3 hc2]at hp;refine ee hQ F ?_;rw[← hp];refine db h j _ _ s _ false rfl ?_;exact FrzRs.hs (by simp(disch:=first|omega| (simp only[go_sem, ↓reduceIte,seval];first|done|omega)|fail) only[go_sem, ↓reduceIte,seval,F];rfl) rfl (by simp(disch:=first|omega| (simp only[go_sem, ↓reduceIte,seval];first|done|omega)|fail) only[go_sem, ↓reduceIte,seval,F];omega) (.cons (oT 1 _ at_ (by simp(disch:=first|omega| (simp only[go_sem, ↓reduceIte,seval];first|done|omega)|fail) only[go_sem, ↓reduceIte,seval,F];rfl) (by simp(disch:=first|omega| (simp only[go_sem, ↓reduceIte,seval];first|done|omega)|fail) only[go_sem, ↓reduceIte,seval,F];omega)) (.cons (ux 2 _) .nil))
   ·rw[G0 (by simp[hc2])]at hp;have htp2:Lib.trimPrefix (s1.dropWhile blankB) [47,62]=s1.dropWhile blankB:=(by unfold Lib.trimPrefix;rw[G0 (by simp[hc2])]);rw[htp2];refine(c3 _ _ _ (by omega)).mono ?_;rintro r h' ⟨rfl,rfl⟩;(try refine sq F ?_);(repeat (first|refine w1 (fun K hK=>?_)|refine w2 ?_|refine w3 ?_| ((first|refine w4 ?_|refine wD ?_|refine w5 ?_|refine w6 ?_|refine w7 ?_);try refine sq F ?_)| (refine w8 ?_;refine sq F ?_;refine w9 ?_)| (refine xq F ?_;try refine sq F ?_)| ((first|refine hK _ _ (w0 ?_)| (clear hK K;refine hK _ _ (w0 ?_))| (clear hK K;clear hK K;refine hK _ _ (w0 ?_)));clear hK K)))
    have hl:=jI (s1.dropWhile blankB);have hl2:=fq (s1.dropWhile blankB) false;have hl3:=aC moreB (s1.dropWhile blankB)
    change (nameR (s1.dropWhile blankB)).length≤_ at hl3
    generalize attrX (s1.dropWhile blankB) false=x at hp hl hl2 ⊢;obtain⟨a,r,bb⟩:=x;simp only[]at hp hl hl2 ⊢
    skip
    (first|refine gq F (fun g1=>?_) (fun g1=>?_)|refine pq F (fun g1=>?_) (fun g1=>?_))<;>(try exact g1.elim)<;>(try refine sq F ?_)<;>((repeat (first|refine w1 (fun K hK=>?_)|refine w2 ?_|refine w3 ?_| ((first|refine w4 ?_|refine wD ?_|refine w5 ?_|refine w6 ?_|refine w7 ?_);try refine sq F ?_)| (refine w8 ?_;refine sq F ?_;refine w9 ?_)| (refine rq F ?_;try refine sq F ?_)| (refine vq F ?_;try refine sq F ?_)| ((first|refine hK _ _ (w0 ?_)| (clear hK K;refine hK _ _ (w0 ?_))| (clear hK K;clear hK K;refine hK _ _ (w0 ?_)));clear hK K))))
    ·refine aq F ?_;(try refine sq F ?_);(repeat (first|refine w1 (fun K hK=>?_)|refine w2 ?_|refine w3 ?_| ((first|refine w4 ?_|refine wD ?_|refine w5 ?_|refine w6 ?_|refine w7 ?_);try refine sq F ?_)| (refine w8 ?_;refine sq F ?_;refine w9 ?_)| (refine rq F ?_;try refine sq F ?_)| (refine vq F ?_;try refine sq F ?_)| ((first|refine hK _ _ (w0 ?_)| (clear hK K;refine hK _ _ (w0 ?_))| (clear hK K;clear hK K;refine hK _ _ (w0 ?_)));clear hK K)))
     rw[g1,L0,L0,L0]at hp;refine hK2 _ _ _ (G9 ⟨g,v+1,r,true,at_++[a],jj++[.row 228 2 0 [a.av]],rfl,by simp[tkR,atR],?_,?_,by omega,⟨by omega,fun h=>by cases h⟩,hp,fun h=>by cases h⟩) (by omega);all_goals try exact zZz F
    ·rw[g1,O0]at hp;(first|refine gq F (fun g2=>?_) (fun g2=>?_)|refine pq F (fun g2=>?_) (fun g2=>?_))<;>(try exact g2.elim)<;>(try refine sq F ?_)<;>((repeat (first|refine w1 (fun K hK=>?_)|refine w2 ?_|refine w3 ?_| ((first|refine w4 ?_|refine wD ?_|refine w5 ?_|refine w6 ?_|refine w7 ?_);try refine sq F ?_)| (refine w8 ?_;refine sq F ?_;refine w9 ?_)| (refine rq F ?_;try refine sq F ?_)| (refine vq F ?_;try refine sq F ?_)| ((first|refine hK _ _ (w0 ?_)| (clear hK K;refine hK _ _ (w0 ?_))| (clear hK K;clear hK K;refine hK _ _ (w0 ?_)));clear hK K))))
     ·refine aq F ?_;(try refine sq F ?_);(repeat (first|refine w1 (fun K hK=>?_)|refine w2 ?_|refine w3 ?_| ((first|refine w4 ?_|refine wD ?_|refine w5 ?_|refine w6 ?_|refine w7 ?_);try refine sq F ?_)| (refine w8 ?_;refine sq F ?_;refine w9 ?_)| (refine rq F ?_;try refine sq F ?_)| (refine vq F ?_;try refine sq F ?_)| ((first|refine hK _ _ (w0 ?_)| (clear hK K;refine hK _ _ (w0 ?_))| (clear hK K;clear hK K;refine hK _ _ (w0 ?_)));clear hK K)))
      have e:(s1.takeWhile blankB==[])=true:=(by rw[g2];rfl);rw[e,L0,L0]at hp;refine hK2 _ _ _ (G9 ⟨g,v+1,r,true,at_++[a],jj++[.row 228 2 0 [a.av]],rfl,by simp[tkR,atR],?_,?_,by omega,⟨by omega,fun h=>by cases h⟩,hp,fun h=>by cases h⟩) (by omega);all_goals try exact zZz F
     ·have e:(s1.takeWhile blankB==[])=false:=(by simpa using g2);rw[e,O0]at hp;refine(qh G at_ a.1 _ (h.length+(1+(j.length+1))) v (by simp(disch:=first|omega| (simp only[go_sem, ↓reduceIte,seval];first|done|omega)|fail) only[go_sem, ↓reduceIte,seval,F]) (by omega)).mono ?_;rintro r h' ⟨rfl,rfl⟩;(try refine sq F ?_);(repeat (first|refine w1 (fun K hK=>?_)|refine w2 ?_|refine w3 ?_| ((first|refine w4 ?_|refine wD ?_|refine w5 ?_|refine w6 ?_|refine w7 ?_);try refine sq F ?_)| (refine w8 ?_;refine sq F ?_;refine w9 ?_)| (refine rq F ?_;try refine sq F ?_)| (refine vq F ?_;try refine sq F ?_)| ((first|refine hK _ _ (w0 ?_)| (clear hK K;refine hK _ _ (w0 ?_))| (clear hK K;clear hK K;refine hK _ _ (w0 ?_)));clear hK K)))
      (first|refine gq F (fun g3=>?_) (fun g3=>?_)|refine pq F (fun g3=>?_) (fun g3=>?_))<;>(try exact g3.elim)<;>(try refine sq F ?_)<;>((repeat (first|refine w1 (fun K hK=>?_)|refine w2 ?_|refine w3 ?_| ((first|refine w4 ?_|refine wD ?_|refine w5 ?_|refine w6 ?_|refine w7 ?_);try refine sq F ?_)| (refine w8 ?_;refine sq F ?_;refine w9 ?_)| (refine rq F ?_;try refine sq F ?_)| (refine vq F ?_;try refine sq F ?_)| ((first|refine hK _ _ (w0 ?_)| (clear hK K;refine hK _ _ (w0 ?_))| (clear hK K;clear hK K;refine hK _ _ (w0 ?_)));clear hK K))))
      ·refine aq F ?_;(try refine sq F ?_);(repeat (first|refine w1 (fun K hK=>?_)|refine w2 ?_|refine w3 ?_| ((first|refine w4 ?_|refine wD ?_|refine w5 ?_|refine w6 ?_|refine w7 ?_);try refine sq F ?_)| (refine w8 ?_;refine sq F ?_;refine w9 ?_)| (refine rq F ?_;try refine sq F ?_)| (refine vq F ?_;try refine sq F ?_)| ((first|refine hK _ _ (w0 ?_)| (clear hK K;refine hK _ _ (w0 ?_))| (clear hK K;clear hK K;refine hK _ _ (w0 ?_)));clear hK K)))
       rw[g3,L0]at hp;refine hK2 _ _ _ (G9 ⟨g,v+1,r,true,at_++[a],jj++[.row 228 2 0 [a.av]],rfl,by simp[tkR,atR],?_,?_,by omega,⟨by omega,fun h=>by cases h⟩,hp,fun h=>by cases h⟩) (by omega);all_goals try exact zZz F
      ·refine aq F ?_;(try refine sq F ?_);(repeat (first|refine w1 (fun K hK=>?_)|refine w2 ?_|refine w3 ?_| ((first|refine w4 ?_|refine wD ?_|refine w5 ?_|refine w6 ?_|refine w7 ?_);try refine sq F ?_)| (refine w8 ?_;refine sq F ?_;refine w9 ?_)| (refine rq F ?_;try refine sq F ?_)| (refine vq F ?_;try refine sq F ?_)| ((first|refine hK _ _ (w0 ?_)| (clear hK K;refine hK _ _ (w0 ?_))| (clear hK K;clear hK K;refine hK _ _ (w0 ?_)));clear hK K)))
       rw[g3,O0]at hp;refine hK2 _ _ _ (G9 ⟨g,v+1,r,decide (32≤at_.length),at_++[a],jj++[.row 228 2 0 [a.av]],rfl,by simp[tkR,atR,show((32:Int)≤at_.length)↔32≤at_.length from by omega],?_,?_,by omega,⟨by omega,fun h=>by have:=hl g1;omega⟩,hp,fun h=>by simp only[decide_eq_false_iff_not]at h;simp;omega⟩) (by omega);all_goals try exact zZz F
 ·refine ee hQ F ?_;subst hc;obtain⟨g,rfl⟩:∃g,f=g+1:=⟨f-1,by omega⟩;rw[openL,G3 rfl]at hp;rw[← hp];exact db h j _ _ s _ false rfl (.nils _)
def p1:Bs:=[60,33,45,45]
def p2:Bs:=[60,63]
def p3:Bs:=[60,33,68,79,67,84,89,80,69]
def p4:Bs:=[60,33,91,67,68,65,84,65,91]
def p5:Bs:=[60,47]
def p6:Bs:=[60]
def partF(s:Bs):List Tok×Bs×Bool:=
 if Lib.hasPrefix s p1=true then([],(uptoF [45,45,62] (Lib.trimPrefix s p1) false).2)
 else if Lib.hasPrefix s p2=true then([],(uptoF [63,62] (Lib.trimPrefix s p2) false).2)
 else if Lib.hasPrefix s p3=true then([],kindF (Lib.trimPrefix s p3) false)
 else if Lib.hasPrefix s p4=true then([(3,[],[],(uptoF [93,93,62] (Lib.trimPrefix s p4) false).1)],(uptoF [93,93,62] (Lib.trimPrefix s p4) false).2)
 else if Lib.hasPrefix s p5=true then([(2,nameW (Lib.trimPrefix s p5),[],[])],closeF (Lib.trimPrefix s p5) false)
 else if Lib.hasPrefix s p6=true then openF (Lib.trimPrefix s p6)
 else([(3,[],[],readP ((s.takeWhile textB).length+1) (s.takeWhile textB))],s.dropWhile textB,false)
theorem eP(s w:Bs)(h:Lib.hasPrefix s w=false):Lib.trimPrefix s w=s:=by unfold Lib.trimPrefix;rw[G0 (by simp[h])]
theorem uz(hG:GOk G)(s:Bs)(hs:s.length≤1048576)(h j:Heap):Sat (CT G) 112 [.hp h.length 0 0 0] (rdH h j s false)
  (fun r h'=>r=.sl 4 ((partF s).1.map Tok.av)∧h'=rdH h j (partF s).2.1 (partF s).2.2):=by
 have ht:=fun w=>aL s w
 have nils:=fun s1 b=>db h j [] s1 s b false (x:=.nil (.slice none 0 0)) (y:=.sl 4 []) (J3 _).symm (.nils _)
 have toks:=fun s1 b (l:List Tok)=>db h j [] s1 s b false (x:=.sl 4 (l.map Tok.av)) (y:=.sl 4 (l.map Tok.av)) (J3 _).symm (.clo _ (Toks.clo _ _ _))
 refine sb [.tmp 2] Tryz.func112 ?_;intro Q hQ;refine wk trivial ?_;refine kq trivial (bU G p1 s false h j) ?_;refine cq trivial (fun c1=>?_) (fun c1=>?_)<;>(try exact c1.elim)<;>(refine wk trivial ?_)
 ·refine kq trivial (dC G hG [45,45,62] (Lib.trimPrefix s p1) false (by have:=ht p1;omega) h j) ?_;have e:partF s=([],(uptoF [45,45,62] (Lib.trimPrefix s p1) false).2):=by unfold partF;rw[G3 c1]
  refine ee hQ trivial ?_;rw[e];exact nils _ _
 rw[eP _ _ c1];refine kq trivial (bU G p2 s false h j) ?_;refine cq trivial (fun c2=>?_) (fun c2=>?_)<;>(try exact c2.elim)<;>(refine wk trivial ?_)
 ·refine kq trivial (dC G hG [63,62] (Lib.trimPrefix s p2) false (by have:=ht p2;omega) h j) ?_;have e:partF s=([],(uptoF [63,62] (Lib.trimPrefix s p2) false).2):=by unfold partF;rw[G0 (by simp[c1]),G3 c2]
  refine ee hQ trivial ?_;rw[e];exact nils _ _
 rw[eP _ _ c2];refine kq trivial (bU G p3 s false h j) ?_;refine cq trivial (fun c3=>?_) (fun c3=>?_)<;>(try exact c3.elim)<;>(refine wk trivial ?_)
 ·refine kq trivial (uw G hG (Lib.trimPrefix s p3) false (by have:=ht p3;omega) h j) ?_;have e:partF s=([],kindF (Lib.trimPrefix s p3) false):=by unfold partF;rw[G0 (by simp[c1]),G0 (by simp[c2]),G3 c3]
  refine ee hQ trivial ?_;rw[e];exact toks _ _ []
 rw[eP _ _ c3];refine kq trivial (bU G p4 s false h j) ?_;refine cq trivial (fun c4=>?_) (fun c4=>?_)<;>(try exact c4.elim)<;>(refine wk trivial ?_)
 ·refine kq trivial (dC G hG [93,93,62] (Lib.trimPrefix s p4) false (by have:=ht p4;omega) h j) ?_;refine kq trivial (mT G _ _) ?_;have e:partF s=([(3,[],[],(uptoF [93,93,62] (Lib.trimPrefix s p4) false).1)],(uptoF [93,93,62] (Lib.trimPrefix s p4) false).2):=by unfold partF;rw[G0 (by simp[c1]),G0 (by simp[c2]),G0 (by simp[c3]),G3 c4]
  refine ee hQ trivial ?_;rw[e];exact toks _ _ [_]
 rw[eP _ _ c4];refine kq trivial (bU G p5 s false h j) ?_;refine cq trivial (fun c5=>?_) (fun c5=>?_)<;>(try exact c5.elim)<;>(refine wk trivial ?_)
 ·refine kq trivial (rW G (Lib.trimPrefix s p5) false (by have:=ht p5;omega) h j) ?_;have e:partF s=([(2,nameW (Lib.trimPrefix s p5),[],[])],closeF (Lib.trimPrefix s p5) false):=by unfold partF;rw[G0 (by simp[c1]),G0 (by simp[c2]),G0 (by simp[c3]),G0 (by simp[c4]),G3 c5]
  refine ee hQ trivial ?_;rw[e];exact toks _ _ [_]
 rw[eP _ _ c5];refine kq trivial (bU G p6 s false h j) ?_;refine cq trivial (fun c6=>?_) (fun c6=>?_)<;>(try exact c6.elim)<;>(refine wk trivial ?_)
 ·refine kq trivial (uy G hG (Lib.trimPrefix s p6) (by have:=ht p6;omega) h j) ?_;have e:partF s=openF (Lib.trimPrefix s p6):=by unfold partF;rw[G0 (by simp[c1]),G0 (by simp[c2]),G0 (by simp[c3]),G0 (by simp[c4]),G0 (by simp[c5]),G3 c6]
  refine ee hQ trivial ?_;rw[e];exact toks _ _ _
 rw[eP _ _ c6];have hw:(s.takeWhile textB).length≤s.length:=(List.takeWhile_sublist _).length_le;refine kq trivial (ky G textP textB true vU 176 s false (by omega) h j (fun c k _=>rX G c k)) ?_;refine kq trivial (fa hG (s.takeWhile textB) (by omega) _) ?_;refine kq trivial (mT G _ _) ?_;have e:partF s=([(3,[],[],readP ((s.takeWhile textB).length+1) (s.takeWhile textB))],s.dropWhile textB,false):=by unfold partF;rw[G0 (by simp[c1]),G0 (by simp[c2]),G0 (by simp[c3]),G0 (by simp[c4]),G0 (by simp[c5]),G0 (by simp[c6])]
 refine ee hQ trivial ?_;rw[e];exact toks _ _ [_]
def addT(l:List Tok)(t:Tok):List Tok:=
 if t.1=3 then
  if t.2.2.2=[]then l else
  match l.getLast? with
  |some u=>if u.1=3 then l.dropLast++[(u.1,u.2.1,u.2.2.1,u.2.2.2++t.2.2.2)]else l++[t]
  |none=>l++[t]
 else l++[t]
theorem i5(l:List Tok)(u t:Tok)(ht:t.1=3)(hn:t.2.2.2≠ []):addT (l++[u]) t=if u.1=3 then l++[(u.1,u.2.1,u.2.2.1,u.2.2.2++t.2.2.2)]else l++[u]++[t]:=by
 unfold addT;rw[G3 ht,G0 hn];simp
theorem j7(t:Tok)(hn:t.1=3→t.2.2.2≠ []):addT [] t=[t]:=by
 unfold addT;split
 ·rename_i h;rw[G0 (hn h)];rfl
 ·rfl
def tksR(v:Nat)(l:List Tok):Blk:=.row 182 4 v (l.map Tok.av)
theorem uA(n v:Nat)(l:List Tok):CloB n (tksR v l):=by
 intro r hr;obtain⟨a,_,rfl⟩:=J9.1 hr;exact Tok.clo _ _
theorem vV(P j jj:Heap)(v v0:Nat)(l l0:List Tok){h2:Heap}{x:AVal}{R:AVal→Heap→Prop}(hh:h2=P++tksR v l::j++jj)(hx:Clo (P++tksR v0 l0::j).length x)(hR:R x (P++tksR v l::j)):
  Fin (P++tksR v0 l0::j) h2 R x:=by
 refine Fin.keepE (h1:=P++tksR v l::j) hh (by simp) (fun p k hk=>?_) hx hR;rcases N9 p P.length with h1|h1
 ·rw[H0 h1]at hk ⊢;exact .inl hk
 ·rw[I3 h1]at hk ⊢
  match p-P.length,hk with
  |0,hk=>simp at hk;subst hk;exact .inr (uA _ _ _)
  |i+1,hk=>exact .inl (by simpa using hk)
@[go_sem] theorem zP(v:Nat)(l:List Tok)(j:Heap):getRow (tksR v l::j) 0 v=some (182,4,l.map Tok.av):=by simp[getRow,tksR]
@[go_sem] theorem yl(v:Nat)(l:List Tok)(j:Heap)(k u:Nat):getRow (tksR v l::j) (k+1) u=getRow j k u:=rfl
theorem vW(P j:Heap)(v:Nat)(l:List Tok)(t:Tok)(hl:l.length≤1048576)(ht:∀u∈l,u.2.2.2.length+t.2.2.2.length≤140737488355328):
  Sat (CT G) 113 [.hs P.length v 0 l.length true,t.av] (P++tksR v l::j) (fun r h'=>∃v',r=.hs P.length v' 0 (addT l t).length true∧h'=P++tksR v' (addT l t)::j):=by
 have end_:=fun(jj:Heap) (v1:Nat) (l1:List Tok) (h2:Heap) (hh:h2=P++tksR v1 l1::j++jj) (hl1:l1=addT l t)=>vV P j jj v1 v l1 l (x:=.hs P.length v1 0 l1.length true)
  (R:=fun r h'=>∃v',r=.hs P.length v' 0 (addT l t).length true∧h'=P++tksR v' (addT l t)::j) hh (.hs _ _ _ _ _ (by simp)) ⟨v1,by rw[hl1],by rw[hl1]⟩
 refine sb [.tmp 4] Tryz.func113 ?_;intro Q hQ;(repeat (first|refine w1 (fun K hK=>?_)|refine w2 ?_|refine w3 ?_| ((first|refine w4 ?_|refine wD ?_|refine w5 ?_|refine w6 ?_|refine w7 ?_);try refine sq trivial ?_)| (refine w8 ?_;refine sq trivial ?_;refine w9 ?_)| (refine rq trivial ?_;try refine sq trivial ?_)| (refine vq trivial ?_;try refine sq trivial ?_)| ((first|refine hK _ _ (w0 ?_)| (clear hK K;refine hK _ _ (w0 ?_))| (clear hK K;clear hK K;refine hK _ _ (w0 ?_)));clear hK K)))
 have tail:∀(t':Env),t' 0=.hs P.length v 0 l.length true→t' 3=.hp (P.length+(j.length+1)) 0 0 0→addT l t=l++[t]→K t' (P++tksR v l::(j++[.row 182 4 0 [t.av]])):=by
  intro t' e0 e3 he;refine hK _ _ (G9 ?_);clear hK K;have F:=F2 e0 e3;(repeat (first|refine w1 (fun K hK=>?_)|refine w2 ?_|refine w3 ?_| ((first|refine w4 ?_|refine wD ?_|refine w5 ?_|refine w6 ?_|refine w7 ?_);try refine sq F ?_)| (refine w8 ?_;refine sq F ?_;refine w9 ?_)| (refine rq F ?_;try refine sq F ?_)| (refine vq F ?_;try refine sq F ?_)| ((first|refine hK _ _ (w0 ?_)| (clear hK K;refine hK _ _ (w0 ?_))| (clear hK K;clear hK K;refine hK _ _ (w0 ?_)));clear hK K)))
  refine aq F ?_;try refine sq F ?_
  (repeat (first|refine w1 (fun K hK=>?_)|refine w2 ?_|refine w3 ?_| ((first|refine w4 ?_|refine wD ?_|refine w5 ?_|refine w6 ?_|refine w7 ?_);try refine sq F ?_)| (refine w8 ?_;refine sq F ?_;refine w9 ?_)| (refine rq F ?_;try refine sq F ?_)| (refine vq F ?_;try refine sq F ?_)| ((first|refine hK _ _ (w0 ?_)| (clear hK K;refine hK _ _ (w0 ?_))| (clear hK K;clear hK K;refine hK _ _ (w0 ?_)));clear hK K)))
  refine ee hQ F ?_;have:=end_ [.row 182 4 0 [t.av]] (v+1) (l++[t]) (P++ .row 182 4 (v+1) (l.map Tok.av++[t.av])::(j++[.row 182 4 0 [t.av]])) (by simp[tksR]) he.symm;rw[H7]at this;exact this
 refine cq trivial (fun c1=>?_) (fun c1=>?_)<;>(try exact c1.elim)<;>((repeat (first|refine w1 (fun K hK=>?_)|refine w2 ?_|refine w3 ?_| ((first|refine w4 ?_|refine wD ?_|refine w5 ?_|refine w6 ?_|refine w7 ?_);try refine sq trivial ?_)| (refine w8 ?_;refine sq trivial ?_;refine w9 ?_)| (refine rq trivial ?_;try refine sq trivial ?_)| (refine vq trivial ?_;try refine sq trivial ?_)| ((first|refine hK _ _ (w0 ?_)| (clear hK K;refine hK _ _ (w0 ?_))| (clear hK K;clear hK K;refine hK _ _ (w0 ?_)));clear hK K))))
 ·refine tail _ ?_ ?_ (by unfold addT;rw[G0 c1])
  ·exact zq trivial
  ·exact zq trivial
 ·refine cq trivial (fun c2=>?_) (fun c2=>?_)<;>(try exact c2.elim)<;>((repeat (first|refine w1 (fun K hK=>?_)|refine w2 ?_|refine w3 ?_| ((first|refine w4 ?_|refine wD ?_|refine w5 ?_|refine w6 ?_|refine w7 ?_);try refine sq trivial ?_)| (refine w8 ?_;refine sq trivial ?_;refine w9 ?_)| (refine rq trivial ?_;try refine sq trivial ?_)| (refine vq trivial ?_;try refine sq trivial ?_)| ((first|refine hK _ _ (w0 ?_)| (clear hK K;refine hK _ _ (w0 ?_))| (clear hK K;clear hK K;refine hK _ _ (w0 ?_)));clear hK K))))
  ·refine ee hQ trivial ?_;exact end_ _ v l _ (by simp;rfl) (by unfold addT;rw[G3 c1,G3 c2])
  ·have c2':t.2.2.2≠ []:=c2;rcases P0 l with rfl| ⟨l,u,rfl⟩
   ·(first|refine gq trivial (fun g=>?_) (fun g=>?_)|refine pq trivial (fun g=>?_) (fun g=>?_))<;>(try exact g.elim)<;>(try refine sq trivial ?_)<;>((repeat (first|refine w1 (fun K hK=>?_)|refine w2 ?_|refine w3 ?_| ((first|refine w4 ?_|refine wD ?_|refine w5 ?_|refine w6 ?_|refine w7 ?_);try refine sq trivial ?_)| (refine w8 ?_;refine sq trivial ?_;refine w9 ?_)| (refine rq trivial ?_;try refine sq trivial ?_)| (refine vq trivial ?_;try refine sq trivial ?_)| ((first|refine hK _ _ (w0 ?_)| (clear hK K;refine hK _ _ (w0 ?_))| (clear hK K;clear hK K;refine hK _ _ (w0 ?_)));clear hK K))))
    ·refine tail _ ?_ ?_ (j7 t fun _=>c2')
     ·exact zq trivial
     ·exact zq trivial
   ·rw[P1]at*;have hl2:l.length+1≤1048576:=(by simpa using hl);have e1:((l.length+1:Nat):Int)-1=l.length:=(by omega);have e2:(l++[u])[l.length]? =some u:=(by simp);have F:=F2 e1 e2;(first|refine gq F (fun g=>?_) (fun g=>?_)|refine pq F (fun g=>?_) (fun g=>?_))<;>(try exact g.elim)<;>(try refine sq F ?_)<;>((repeat (first|refine w1 (fun K hK=>?_)|refine w2 ?_|refine w3 ?_| ((first|refine w4 ?_|refine wD ?_|refine w5 ?_|refine w6 ?_|refine w7 ?_);try refine sq F ?_)| (refine w8 ?_;refine sq F ?_;refine w9 ?_)| (refine rq F ?_;try refine sq F ?_)| (refine vq F ?_;try refine sq F ?_)| ((first|refine hK _ _ (w0 ?_)| (clear hK K;refine hK _ _ (w0 ?_))| (clear hK K;clear hK K;refine hK _ _ (w0 ?_)));clear hK K))))
    ·have:=ht u (by simp);have hsn:=i5 l u t c1 c2';have e3:l.length<l.length+1:=(by omega);refine⟨e3,?_⟩;by_cases c3:u.1=3
     ·refine hK _ _ (G9 ?_);clear tail hK K;have e4:(u.1==3)=true:=(by simpa using c3);rw[G3 c3]at hsn;have F:=F3 F e3 e4;(repeat (first|refine w1 (fun K hK=>?_)|refine w2 ?_|refine w3 ?_| ((first|refine w4 ?_|refine wD ?_|refine w5 ?_|refine w6 ?_|refine w7 ?_);try refine sq F ?_)| (refine w8 ?_;refine sq F ?_;refine w9 ?_)| (refine rq F ?_;try refine sq F ?_)| (refine vq F ?_;try refine sq F ?_)| ((first|refine hK _ _ (w0 ?_)| (clear hK K;refine hK _ _ (w0 ?_))| (clear hK K;clear hK K;refine hK _ _ (w0 ?_)));clear hK K)))
      refine ee hQ F ?_;have:=end_ [.row 182 4 0 [t.av]] v _ _ rfl hsn.symm;simp[tksR,Tok.av,ofCells]at this ⊢;exact this
     ·have e4:(u.1==3)=false:=(by simpa using c3);rw[G0 c3]at hsn;have F:=F2 F e4;refine hK _ _ (G9 ?_);clear hK;(repeat (first|refine w1 (fun K hK=>?_)|refine w2 ?_|refine w3 ?_| ((first|refine w4 ?_|refine wD ?_|refine w5 ?_|refine w6 ?_|refine w7 ?_);try refine sq F ?_)| (refine w8 ?_;refine sq F ?_;refine w9 ?_)| (refine rq F ?_;try refine sq F ?_)| (refine vq F ?_;try refine sq F ?_)| ((first|refine hK _ _ (w0 ?_)| (clear hK K;refine hK _ _ (w0 ?_))| (clear hK K;clear hK K;refine hK _ _ (w0 ?_)));clear hK K)))
      refine aq F ?_;(try refine sq F ?_);(repeat (first|refine w1 (fun K hK=>?_)|refine w2 ?_|refine w3 ?_| ((first|refine w4 ?_|refine wD ?_|refine w5 ?_|refine w6 ?_|refine w7 ?_);try refine sq F ?_)| (refine w8 ?_;refine sq F ?_;refine w9 ?_)| (refine rq F ?_;try refine sq F ?_)| (refine vq F ?_;try refine sq F ?_)| ((first|refine hK _ _ (w0 ?_)| (clear hK K;refine hK _ _ (w0 ?_))| (clear hK K;clear hK K;refine hK _ _ (w0 ?_)));clear hK K)))
      refine ee hQ F ?_;have:=end_ [.row 182 4 0 [t.av]] (v+1) _ _ rfl hsn.symm;simp[tksR]at this ⊢;exact this
    ·exfalso;simp at g
end
section
theorem ck{α:Type}(f:α→Nat)(a b:List α):szs f (a++b)=szs f a+szs f b:=by
 induction a with
 |nil=>simp[szs]
 |cons x l ih=>simp only[N5,szs,ih];omega
theorem lr(w s:Bs)(b:Bool):(uptoF w s b).1.length+(uptoF w s b).2.1.length≤s.length:=by
 unfold uptoF;split
 ·rename_i h;have:=bG s w h;simp only[];omega
 ·simp
theorem fb(s:Bs):(nameW s).length+(nameR s).length=s.length:=by
 have:=J2 List.length (M3 (p:=moreB) (l:=s));rw[H7]at this;exact this
theorem ls:∀(f:Nat) (s:Bs),(readP f s).length≤5*s.length:=by
 intro f;induction f with
 |zero=>intro s;simp[readP]
 |succ f ih=>
  intro s;rw[readP];split
  ·rename_i h;have h1:=bG s [38] h;simp only[G5,H6]at h1;split
   ·rename_i h2;simp only[G2]at h2;have h3:=bG _ [59] h2.1.1;simp only[G5,H6]at h3;have h4:=cZ (signF (Lib.cut (Lib.cut s [38]).2.1 [59]).1).1;have h5:=ih (Lib.cut (Lib.cut s [38]).2.1 [59]).2.1;simp only[H7];omega
   ·have h5:=ih (Lib.cut s [38]).2.1;simp only[H7,G5];omega
  ·rename_i h;rw[jH s [38] (by simpa using h)];simp only[];omega
theorem uB(s:Bs)(b:Bool):(valueF s b).1.length+5*(valueF s b).2.1.length≤5*s.length:=by
 have h1:=aL s (if Lib.hasPrefix s [34]=true then [34]else [39]);have h2:=lr (if Lib.hasPrefix s [34]=true then [34]else [39]) (Lib.trimPrefix s (if Lib.hasPrefix s [34]=true then [34]else [39])) (b|| !Lib.hasPrefix s (if Lib.hasPrefix s [34]=true then [34]else [39]));show(readP _ _).length+5*(uptoF _ _ _).2.1.length≤_;have h3:=ls ((uptoF (if Lib.hasPrefix s [34]=true then [34]else [39]) (Lib.trimPrefix s (if Lib.hasPrefix s [34]=true then [34]else [39])) (b|| !Lib.hasPrefix s (if Lib.hasPrefix s [34]=true then [34]else [39]))).1.length+1)
  (uptoF (if Lib.hasPrefix s [34]=true then [34]else [39]) (Lib.trimPrefix s (if Lib.hasPrefix s [34]=true then [34]else [39])) (b|| !Lib.hasPrefix s (if Lib.hasPrefix s [34]=true then [34]else [39]))).1
 omega
theorem uC(s:Bs)(h:(attrX s false).2.2=false):At.sz (attrX s false).1+10*(attrX s false).2.1.length≤10*s.length:=by
 have h0:=fN s (gy s h);have h1:=fb s;have h2:=aC blankB (nameR s);have h3:=aL ((nameR s).dropWhile blankB) [61];have h4:=aC blankB (Lib.trimPrefix ((nameR s).dropWhile blankB) [61]);unfold attrX at h ⊢;simp only[]at h ⊢;split at h
 ·rename_i hb;simp only[]at h;rw[h]at hb;cases hb
 ·rename_i hb;rw[G0 hb];have:=uB ((Lib.trimPrefix ((nameR s).dropWhile blankB) [61]).dropWhile blankB) (false||badN (nameW s)|| !Lib.hasPrefix ((nameR s).dropWhile blankB) [61]);simp only[At.sz];omega
theorem bp(s w:Bs)(h:Lib.hasPrefix s w=true):(Lib.trimPrefix s w).length+w.length≤s.length:=by
 have h1:w.length≤s.length:=(List.isPrefixOf_iff_prefix.1 h).length_le;unfold Lib.trimPrefix;rw[G3 h,J7];omega
theorem uD:∀(f:Nat) (n:Bs) (at_:List At) (s:Bs) (b:Bool),szs Tok.sz (openL f n at_ s b).1+10*(openL f n at_ s b).2.1.length≤2+2*n.length+szs At.sz at_+10*s.length:=by
 intro f;induction f with
 |zero=>intro n at_ s b;simp only[openL,szs];omega
 |succ f ih=>
  intro n at_ s b;have h1:=aC blankB s;rw[openL];split
  ·simp only[szs];omega
  ·split
   ·have:=aL (s.dropWhile blankB) [62];simp only[szs,Tok.sz,H6];omega
   ·split
    ·have:=aL (s.dropWhile blankB) [47,62];simp only[szs,Tok.sz,H6];omega
    ·have h2:=uC (s.dropWhile blankB);cases hb:(attrX (s.dropWhile blankB) false).2.2 with
     |true=>
      rw[L0,L0,L0];have h3:=fq (s.dropWhile blankB) false;have h4:=aC moreB (s.dropWhile blankB)
      change (nameR (s.dropWhile blankB)).length≤_ at h4
      have e:∀at_ s,openL f n at_ s true=([],s,true):=fun at_ s=>by cases f<;>simp[openL]
      rw[e];simp only[szs];omega
     |false=>
      have h3:=ih n (at_++[(attrX (s.dropWhile blankB) false).1]) (attrX (s.dropWhile blankB) false).2.1 (((false||s.takeWhile blankB==[])||at_.any fun a=>a.1==(attrX (s.dropWhile blankB) false).1.1)||decide (32≤at_.length));have h4:=h2 hb;rw[ck]at h3;simp only[szs]at h3;omega
theorem qj(f:Nat)(n:Bs)(s:Bs):openL f n [] s true=([],s,true):=by cases f<;>simp[openL]
theorem uE(s:Bs):szs Tok.sz (openF s).1+10*(openF s).2.1.length≤2+10*s.length:=by
 unfold openF;have h1:=fb s;cases hb:badN (nameW s)with
 |true=>rw[qj];simp only[szs];omega
 |false=>
  have:=uD (s.length+3) (nameW s) [] (nameR s) false;simp only[szs]at this;omega
theorem jJ(s:Bs)(h:Lib.hasPrefix s [60]=false)(hs:s≠ []):1≤(s.takeWhile textB).length:=by
 cases s with
 |nil=>exact absurd rfl hs
 |cons c t=>
  have:textB c=true:=by
   unfold textB textP;simp only[M6,decide_eq_false_iff_not];intro e;have:c=60:=N1.1 (by have:=Int.ofNat.inj e;simpa using this);subst this;simp[Lib.hasPrefix]at h
  simp[List.takeWhile,this]
theorem j8(s:Bs)(hs:s≠ []):szs Tok.sz (partF s).1+10*(partF s).2.1.length≤10*s.length:=by
 unfold partF;split
 ·have:=aL s p1;have:=bP [45,45,62] (Lib.trimPrefix s p1) false
  simp only[szs];omega
 split
 ·have:=aL s p2;have:=bP [63,62] (Lib.trimPrefix s p2) false
  simp only[szs];omega
 split
 ·have:=aL s p3;have:=bP [62] (Lib.trimPrefix s p3) false
  simp only[szs,kindF];omega
 split
 ·rename_i h;have:=bp s p4 h;have:=lr [93,93,62] (Lib.trimPrefix s p4) false;simp only[szs,Tok.sz,p4,G5,H6]at *;omega
 split
 ·rename_i h;have:=bp s p5 h;have:=fb (Lib.trimPrefix s p5);have:=aC blankB (nameR (Lib.trimPrefix s p5));have:=aL ((nameR (Lib.trimPrefix s p5)).dropWhile blankB) [62];simp only[szs,Tok.sz,closeF,p5,G5,H6]at *;omega
 split
 ·rename_i h;have:=bp s p6 h;have:=uE (Lib.trimPrefix s p6);simp only[p6,G5,H6]at *;omega
 ·rename_i h;have h1:=jJ s (by simpa [p6]using h) hs;have h2:=ls ((s.takeWhile textB).length+1) (s.takeWhile textB);have h3:=J2 List.length (M3 (p:=textB) (l:=s));rw[H7]at h3;simp only[szs,Tok.sz,H6];omega
theorem kB(l:List Tok)(t:Tok):szs Tok.sz (addT l t)≤szs Tok.sz l+Tok.sz t:=by
 by_cases h3:t.1=3
 ·by_cases ht:t.2.2.2=[]
  ·unfold addT;rw[G3 h3,G3 ht];omega
  ·rcases P0 l with rfl| ⟨l,u,rfl⟩
   ·rw[j7 t fun _=>ht];simp[szs]
   ·rw[P1,i5 l u t h3 ht];split
    ·simp only[ck,szs,Tok.sz,H7];omega
    ·simp only[ck,szs];omega
 ·unfold addT;rw[G0 h3,ck];simp[szs]
theorem qk:∀(f:Nat) (n:Bs) (at_:List At) (s:Bs) (b:Bool),(openL f n at_ s b).2.1.length≤s.length:=by
 intro f;induction f with
 |zero=>intro n at_ s b;simp[openL]
 |succ f ih=>
  intro n at_ s b;have h1:=aC blankB s;rw[openL];split
  ·simp
  ·split
   ·have:=aL (s.dropWhile blankB) [62];simp only[];omega
   ·split
    ·have:=aL (s.dropWhile blankB) [47,62];simp only[];omega
    ·refine T4 (ih _ _ _ _) ?_;have h3:=fq (s.dropWhile blankB) false;have h4:=aC moreB (s.dropWhile blankB)
     change (nameR (s.dropWhile blankB)).length≤_ at h4
     omega
theorem jK(s:Bs)(hs:s≠ []):(partF s).2.1.length<s.length:=by
 unfold partF;split
 ·rename_i h;have:=bp s p1 h;have:=bP [45,45,62] (Lib.trimPrefix s p1) false;simp only[p1,G5,H6]at *;omega
 split
 ·rename_i h;have:=bp s p2 h;have:=bP [63,62] (Lib.trimPrefix s p2) false;simp only[p2,G5,H6]at *;omega
 split
 ·rename_i h;have:=bp s p3 h;have:=bP [62] (Lib.trimPrefix s p3) false;simp only[p3,kindF,G5,H6]at *;omega
 split
 ·rename_i h;have:=bp s p4 h;have:=bP [93,93,62] (Lib.trimPrefix s p4) false;simp only[p4,G5,H6]at *;omega
 split
 ·rename_i h;have:=bp s p5 h;have:=fb (Lib.trimPrefix s p5);have:=aC blankB (nameR (Lib.trimPrefix s p5));have:=aL ((nameR (Lib.trimPrefix s p5)).dropWhile blankB) [62];simp only[closeF,p5,G5,H6]at *;omega
 split
 ·rename_i h;have:=bp s p6 h;have:=qk ((Lib.trimPrefix s p6).length+3) (nameW (Lib.trimPrefix s p6)) [] (nameR (Lib.trimPrefix s p6)) (badN (nameW (Lib.trimPrefix s p6)));have hns:=fb (Lib.trimPrefix s p6);unfold openF;simp only[p6,G5,H6]at*;omega
 ·rename_i h;have h1:=jJ s (by simpa [p6]using h) hs;have h3:=J2 List.length (M3 (p:=textB) (l:=s));rw[H7]at h3;simp only[];omega
def tksF:Nat→Bs→List Tok→List Tok×Int
 |0,_,_=>([],80)
 |f+1,s,l=>if s=[]then(l,0)else
  if (partF s).2.2=true then([],80)else
  if 8192<((partF s).1.foldl addT l).length then([],3)else tksF f (partF s).2.1 ((partF s).1.foldl addT l)
theorem vX:∀(l:List Tok) (a:List Tok),szs Tok.sz (l.foldl addT a)≤szs Tok.sz a+szs Tok.sz l:=by
 intro l;induction l with
 |nil=>intro a;simp[szs]
 |cons t l ih=>intro a;have:=ih (addT a t);have:=kB a t;simp only[List.foldl_cons,szs];omega
theorem vY:∀(f:Nat) (s:Bs) (l:List Tok),szs Tok.sz (tksF f s l).1≤szs Tok.sz l+10*s.length:=by
 intro f;induction f with
 |zero=>intro s l;simp[tksF,szs]
 |succ f ih=>
  intro s l;rw[tksF];split
  ·simp only[];omega
  ·rename_i hs;split
   ·simp[szs]
   ·split
    ·simp[szs]
    ·have h1:=ih (partF s).2.1 ((partF s).1.foldl addT l);have h2:=j8 s hs;have h3:=vX (partF s).1 l;omega
def toksF(s:Bs):List Tok×Int:=if 65536<s.length then([],3)else tksF (s.length+1) s []
end
section
attribute [local irreducible] WP WPl WPix Sat
variable (G:Nat→Option (List AVal))
@[go_sem] theorem zQ(h j:Heap)(s:Bs)(b:Bool)(v:Nat)(l:List Tok):getRow (rdH h (tksR v l::j) s b) (h.length+1) v=some (182,4,l.map Tok.av):=by
 simp[rdH,getRow,tksR]
@[go_sem] theorem ym(h j l:Heap)(x:Blk)(s:Bs)(b:Bool)(v:Nat):getRow (rdH h (x::j) s b++l) (h.length+(1+(j.length+1))) v=getRow l 0 v:=o6 h (x::j) l s b v
@[go_sem] theorem Cw(h j l:Heap)(x y:Blk)(s:Bs)(b:Bool):(rdH h (x::j) s b++l).set (h.length+(1+(j.length+1))) y=rdH h (x::j) s b++l.set 0 y:=mS h (x::j) l s b y
theorem uF(h j jj:Heap)(s:Bs)(b:Bool)(v:Nat)(l:List Tok)(t:Tok)(hl:l.length≤1048576)(ht:∀u∈l,u.2.2.2.length+t.2.2.2.length≤140737488355328):
  Sat (CT G) 113 [.hs (h.length+1) v 0 l.length true,t.av] (rdH h (tksR v l::j) s b++jj)
   (fun r h'=>∃v',r=.hs (h.length+1) v' 0 (addT l t).length true∧h'=rdH h (tksR v' (addT l t)::(j++jj)) s b):=by
 have:=vW G (h++[rdrR s b]) (j++jj) v l t hl ht;have e:rdH h (tksR v l::j) s b++jj=(h++[rdrR s b])++tksR v l::(j++jj):=by simp[rdH]
 rw[e];have e2:(h++[rdrR s b]).length=h.length+1:=by simp
 rw[e2]at this;exact this.mono fun r h' ⟨v',h1,h2⟩=>⟨v',h1,by rw[h2];simp[rdH]⟩
theorem dD{l:List Tok}{u:Tok}(h:u∈l):u.2.2.2.length≤szs Tok.sz l:=by
 have h1:=iq Tok.sz h;have h2:Tok.sz u=1+u.2.1.length+szs At.sz u.2.2.1+u.2.2.2.length:=rfl;omega
theorem Fin.frzS{h0:Heap}{R:AVal→Heap→Prop}{r0 r:AVal}(hz:Frz h0 h0.length r0 r)(hR:R r h0):Fin h0 h0 R r0:=by
 have:=P3 (h0:=h0) (j:=[]) (R:=R) (r0:=r0) (r:=r) (by simpa using hz) hR;simpa using this
theorem Frz.toksD{h:Heap}{n q v e:Nat}{l:List Tok}{len:Nat}{room:Bool}(hq:n≤q)(hg:getRow h q v=some (e,4,l.map Tok.av))(hlen:len=l.length):Frz h n (.hs q v 0 len room) (.sl 4 (l.map Tok.av)):=
 Frz.data hq hg (by simpa using hlen) (fun r hr=>by obtain⟨a,_,rfl⟩:=J9.1 hr;exact Tok.clo _ a) (fun r hr=>by obtain⟨a,_,rfl⟩:=J9.1 hr;exact a.av_sto)
theorem o7(hG:GOk G)(s:Bs)(hs:s.length≤4194304)(h:Heap):Sat (CT G) 69 [.str s] h
  (fun r h'=>∃a,r=.tup [.sl 4 ((toksF s).1.map Tok.av),.int .i64 a,.int .i64 (toksF s).2]∧h'=h):=by
 refine sb [.tmp 2,.tmp 3,.tmp 4] Tryz.func69 ?_;intro Q hQ;refine wk trivial ?_;refine cq trivial (fun c0=>?_) (fun c0=>?_)<;>(try exact c0.elim)<;>(refine wk trivial ?_)
 ·have e:toksF s=([],3):=by unfold toksF;rw[G3 (by omega)]
  refine ye hQ trivial ?_;rw[e];exact Fin.frzS (U0 (.cons (.nils 4) (.cons (.clo _ (.int _ _)) (.cons (.clo _ (.int _ _)) .nil)))) ⟨0,rfl,rfl⟩
 have e:toksF s=tksF (s.length+1) s []:=by unfold toksF;rw[G0 (by omega)]
 have bad:∀(jj:Heap) (a:Int) (c:Int),toksF s=([],c)→Fin h (h++jj) (fun r h'=>∃a,r=.tup [.sl 4 ((toksF s).1.map Tok.av),.int .i64 a,.int .i64 (toksF s).2]∧h'=h) (.tup [.nil (.slice none 0 0),.int .i64 a,.int .i64 c]):=fun jj a c hb=>by
  rw[hb];exact P3 (U0 (.cons (.nils 4) (.cons (.clo _ (.int _ _)) (.cons (.clo _ (.int _ _)) .nil)))) ⟨a,rfl,rfl⟩
 refine lm (fun nL tL hL=>∃(f v:Nat) (s1:Bs) (l:List Tok) (jj:Heap),f=nL∧rdH h (tksR v l::jj) s1 false=hL∧tL 5=.hs (h.length+1) v 0 l.length true∧tL 6=.hp h.length 0 0 0∧s1.length<f∧tksF f s1 l=toksF s∧szs Tok.sz l+10*s1.length≤10*s.length∧l.length≤8192) ((fun(f v:Nat) (s1:Bs) (l:List Tok) (jj:Heap)=>(f:Nat)) (s.length+1) (0) (s) ([]) ([])) ?_ ?_
 ·refine⟨_,_,V4 5 182 4 (by simp) (by omega) (by exact zq trivial),⟨s.length+1,0,s,[],[],rfl,by simp[rdH,rdrR,tksR],?_,?_,by omega,e.symm,by simp[szs],by simp⟩⟩;all_goals try exact zZz trivial
 rintro _ s2 h' ⟨f,v,s1,l,jj,rfl,rfl,e5,e6,hf,hp,hz,hl⟩ K2 hK2;simp only[ai,ak,Nat.reduceEqDiff, ↓reduceIte]at e5 e6;have F:=F2 e5 e6;refine wk F ?_;obtain⟨g,rfl⟩:∃g,f=g+1:=⟨f-1,by omega⟩;rw[tksF]at hp;refine cq F (fun c1=>?_) (fun c1=>?_)<;>(try exact c1.elim)<;>(refine wk F ?_)
 ·have hps:=j8 s1 c1;have hpl:=jK s1 c1;have hz0:=bF Tok.sz V0 (partF s1).1;rw[G0 c1]at hp;refine kq F (uz G hG s1 (by omega) h (tksR v l::jj)) ?_;generalize partF s1=x at hp hps hpl hz0 ⊢;obtain⟨tk,r1,bb⟩:=x;simp only[]at hp hps hpl hz0 ⊢;refine lm (fun nL tL hL=>∃(k v2:Nat) (l2:List Tok) (j2:Heap),tk.length-k=nL∧rdH h (tksR v2 l2::j2) r1 bb=hL∧tL 5=.hs (h.length+1) v2 0 l2.length true∧tL 32=.int .i64 k∧k≤tk.length∧(tk.drop k).foldl addT l2=tk.foldl addT l∧szs Tok.sz l2+szs Tok.sz (tk.drop k)≤szs Tok.sz l+szs Tok.sz tk) ((fun(k v2:Nat) (l2:List Tok) (j2:Heap)=>(tk.length-k:Nat)) (0) (v) (l) (jj)) ?_ ?_
  ·refine G9 ⟨0,v,l,jj,rfl,ar,?_,?_,?_,?_,?_⟩;all_goals try exact zZz F
  rintro _ s3 h' ⟨k,v2,l2,j2,rfl,rfl,e5,e32,hk,hq,hz2⟩ K3 hK3;simp only[ai,ak,Nat.reduceEqDiff, ↓reduceIte]at e5 e32;have F:=F3 F e5 e32;refine wk F ?_;refine cq F (fun c2=>?_) (fun c2=>?_)<;>(try exact c2.elim)<;>(refine wk F ?_)
  ·obtain⟨y,hy,hym⟩:=ae c2;rw[aF hy]at hq hz2;simp only[szs,List.foldl_cons]at hq hz2;have hz3:=bF Tok.sz V0 l2;have hz4:=kB l2 y;have F:=F2 F hy;(try refine sq F ?_);refine wk F ?_;refine(uF G h j2 _ r1 bb v2 l2 y (by omega) (fun u hu=>by have:=dD hu;have:=dD hym;omega)).mono ?_;rintro r h' ⟨v3,rfl,rfl⟩;(try refine sq F ?_);refine wk F ?_;refine hK3 _ _ _ (G9 ⟨k+1,v3,addT l2 y,j2++[.row 182 4 0 [y.av]],rfl,by simp,?_,?_,by omega,hq,by omega⟩) (by omega);all_goals try exact zZz F
  ·rw[aY c2]at hq hz2;simp only[szs,List.foldl_nil]at hq hz2;subst hq;refine wk F ?_;refine cq F (fun c3=>?_) (fun c3=>?_)<;>(try exact c3.elim)<;>(refine wk F ?_)
   ·rw[G3 c3]at hp;refine ye hQ F ?_;unfold rdH;exact bad _ _ _ hp.symm
   ·rw[G0 (by simp[c3])]at hp;refine cq F (fun c4=>?_) (fun c4=>?_)<;>(try exact c4.elim)<;>(refine wk F ?_)
    ·rw[G3 (by omega)]at hp;refine ye hQ F ?_;unfold rdH;exact bad _ _ _ hp.symm
    ·rw[G0 (by omega)]at hp;subst c3;refine hK2 _ _ _ (G9 ⟨g,v2,r1,tk.foldl addT l,j2,rfl,ar,?_,?_,by omega,hp,by omega,by omega⟩) (by omega);all_goals try exact zZz F
 ·rw[G3 (by simpa using c1)]at hp;refine ye hQ F ?_;rw[← hp];unfold rdH;exact P3 (U0 (.cons (Frz.toksD (by omega) (by simp[getRow,tksR];rfl) rfl) (.cons (.clo _ (.int _ _)) (.cons (.clo _ (.int _ _)) .nil)))) ⟨_,rfl,rfl⟩
theorem i6{x:Int}(h0:0≤x)(h1:x<256):IntKind.u8.wrap x=x:=by
 simp only[IntKind.wrap,IntKind.bits,IntKind.signed];simp;omega
theorem uG(k:IntKind)(n:Int)(h0:0≤n)(h1:n<256):aconv Tryz.prog 21 5 (.int k n)=some (.int .u8 n):=by simp only[aconv,go_sem,i6 h0 h1]
theorem uH(k:IntKind)(n:Int)(h0:0≤n)(h1:n<256):aconv Tryz.prog 5 3 (.int k n)=some (.int .i64 n):=by simp only[aconv,go_sem,fh (x:=n) (by omega) (by omega)]
theorem vZ{a b:Int}(h0:0≤a):a.tdiv b=a/b:=R1 h0
theorem wa{a b:Int}(h0:0≤a):a.tmod b=a%b:=P5 h0
theorem Bytes.clo(n m:Nat)(l:Bs):Clo n (.sl m (l.map bytA)):=.sl _ _ fun e he=>by obtain⟨a,_,rfl⟩:=J9.1 he;exact .int _ _
theorem wb(r:Int)(hr:Rune r)(h:Heap):Sat (CT G) 201 [.int .i32 r] h (fun x h'=>x=.sl 1 ((enc r).map bytA)∧h'=h):=by
 obtain⟨h0,h1⟩:=id hr;have n64:((64:Int)=0)=False:=by decide
 have F:=F4 @uG @d7 @vZ @wa;refine sb [.tmp 2] Tryz.func201 ?_;intro Q hQ;(repeat (first|refine w1 (fun K hK=>?_)|refine w2 ?_|refine w3 ?_| ((first|refine w4 ?_|refine wD ?_|refine w5 ?_|refine w6 ?_|refine w7 ?_);try refine sq F ?_)| (refine w8 ?_;refine sq F ?_;refine w9 ?_)| (refine rq F ?_;try refine sq F ?_)| (refine vq F ?_;try refine sq F ?_)| ((first|refine hK _ _ (w0 ?_)| (clear hK K;refine hK _ _ (w0 ?_))| (clear hK K;clear hK K;refine hK _ _ (w0 ?_)));clear hK K)))
 (first|refine gq F (fun g1=>?_) (fun g1=>?_)|refine pq F (fun g1=>?_) (fun g1=>?_))<;>(try exact g1.elim)<;>(try refine sq F ?_)<;>((repeat (first|refine w1 (fun K hK=>?_)|refine w2 ?_|refine w3 ?_| ((first|refine w4 ?_|refine wD ?_|refine w5 ?_|refine w6 ?_|refine w7 ?_);try refine sq F ?_)| (refine w8 ?_;refine sq F ?_;refine w9 ?_)| (refine rq F ?_;try refine sq F ?_)| (refine vq F ?_;try refine sq F ?_)| ((first|refine hK _ _ (w0 ?_)| (clear hK K;refine hK _ _ (w0 ?_))| (clear hK K;clear hK K;refine hK _ _ (w0 ?_)));clear hK K))))
 ·exfalso;omega
 ·have big:∀(t':Env),t' 0=.int .i32 r→t' 16=.bool false→K t' h:=by
   intro t' e0 e16;refine hK _ _ (G9 ?_);clear hK K;have F:=F3 F e0 e16;(repeat (first|refine w1 (fun K hK=>?_)|refine w2 ?_|refine w3 ?_| ((first|refine w4 ?_|refine wD ?_|refine w5 ?_|refine w6 ?_|refine w7 ?_);try refine sq F ?_)| (refine w8 ?_;refine sq F ?_;refine w9 ?_)| (refine rq F ?_;try refine sq F ?_)| (refine vq F ?_;try refine sq F ?_)| ((first|refine hK _ _ (w0 ?_)| (clear hK K;refine hK _ _ (w0 ?_))| (clear hK K;clear hK K;refine hK _ _ (w0 ?_)));clear hK K)))
   have fin:∀l:List AVal,(enc r).map bytA=l→Fin h h (fun x h'=>x=.sl 1 ((enc r).map bytA)∧h'=h) (.sl 1 l):=fun l e=>by
    rw[← e];exact Fin.frzS (.clo _ (Bytes.clo _ _ _)) ⟨rfl,rfl⟩
   refine cq F (fun c1=>?_) (fun c1=>?_)<;>(try exact c1.elim)<;>((repeat (first|refine w1 (fun K hK=>?_)|refine w2 ?_|refine w3 ?_| ((first|refine w4 ?_|refine wD ?_|refine w5 ?_|refine w6 ?_|refine w7 ?_);try refine sq F ?_)| (refine w8 ?_;refine sq F ?_;refine w9 ?_)| (refine rq F ?_;try refine sq F ?_)| (refine vq F ?_;try refine sq F ?_)| ((first|refine hK _ _ (w0 ?_)| (clear hK K;refine hK _ _ (w0 ?_))| (clear hK K;clear hK K;refine hK _ _ (w0 ?_)));clear hK K))))
   ·refine ee hQ F ?_;exact fin _ (xp h0 c1)
   ·refine cq F (fun c2=>?_) (fun c2=>?_)<;>(try exact c2.elim)<;>((repeat (first|refine w1 (fun K hK=>?_)|refine w2 ?_|refine w3 ?_| ((first|refine w4 ?_|refine wD ?_|refine w5 ?_|refine w6 ?_|refine w7 ?_);try refine sq F ?_)| (refine w8 ?_;refine sq F ?_;refine w9 ?_)| (refine rq F ?_;try refine sq F ?_)| (refine vq F ?_;try refine sq F ?_)| ((first|refine hK _ _ (w0 ?_)| (clear hK K;refine hK _ _ (w0 ?_))| (clear hK K;clear hK K;refine hK _ _ (w0 ?_)));clear hK K))))
    ·refine ee hQ F ?_;exact fin _ (by rw[xt c1 c2])
    ·refine cq F (fun c3=>?_) (fun c3=>?_)<;>(try exact c3.elim)<;>((repeat (first|refine w1 (fun K hK=>?_)|refine w2 ?_|refine w3 ?_| ((first|refine w4 ?_|refine wD ?_|refine w5 ?_|refine w6 ?_|refine w7 ?_);try refine sq F ?_)| (refine w8 ?_;refine sq F ?_;refine w9 ?_)| (refine rq F ?_;try refine sq F ?_)| (refine vq F ?_;try refine sq F ?_)| ((first|refine hK _ _ (w0 ?_)| (clear hK K;refine hK _ _ (w0 ?_))| (clear hK K;clear hK K;refine hK _ _ (w0 ?_)));clear hK K))))
     ·refine ee hQ F ?_;exact fin _ (by rw[ud hr c2 c3])
     ·refine ee hQ F ?_;exact fin _ (by rw[xu c3 (by omega)])
  (first|refine gq F (fun g2=>?_) (fun g2=>?_)|refine pq F (fun g2=>?_) (fun g2=>?_))<;>(try exact g2.elim)<;>(try refine sq F ?_)<;>((repeat (first|refine w1 (fun K hK=>?_)|refine w2 ?_|refine w3 ?_| ((first|refine w4 ?_|refine wD ?_|refine w5 ?_|refine w6 ?_|refine w7 ?_);try refine sq F ?_)| (refine w8 ?_;refine sq F ?_;refine w9 ?_)| (refine rq F ?_;try refine sq F ?_)| (refine vq F ?_;try refine sq F ?_)| ((first|refine hK _ _ (w0 ?_)| (clear hK K;refine hK _ _ (w0 ?_))| (clear hK K;clear hK K;refine hK _ _ (w0 ?_)));clear hK K))))
  ·exfalso;omega
  ·(first|refine gq F (fun g3=>?_) (fun g3=>?_)|refine pq F (fun g3=>?_) (fun g3=>?_))<;>(try exact g3.elim)<;>(try refine sq F ?_)<;>((repeat (first|refine w1 (fun K hK=>?_)|refine w2 ?_|refine w3 ?_| ((first|refine w4 ?_|refine wD ?_|refine w5 ?_|refine w6 ?_|refine w7 ?_);try refine sq F ?_)| (refine w8 ?_;refine sq F ?_;refine w9 ?_)| (refine rq F ?_;try refine sq F ?_)| (refine vq F ?_;try refine sq F ?_)| ((first|refine hK _ _ (w0 ?_)| (clear hK K;refine hK _ _ (w0 ?_))| (clear hK K;clear hK K;refine hK _ _ (w0 ?_)));clear hK K))))
   ·have e:decide (r≤57343)=false:=(by rw[decide_eq_false_iff_not];omega);refine big _ ?_ ?_
    ·exact zq F
    ·exact zq (F2 F e)
   ·refine big _ ?_ ?_
    ·exact zq F
    ·exact zq F
theorem iT:bytesStr Tryz.prog 125 9=true:=by kernel_rfl
def runA(r:Int):AVal:=.int .i32 r
@[go_sem] theorem zR(r:Int):(runA r).cells=[.int .i32 r]:=(rfl)
theorem oU(l:List Int)(hr:∀r∈l,Rune r)(hl:l.length≤1048576)(h:Heap):Sat (CT G) 145 [.sl 1 (l.map runA)] h (fun x h'=>x=.str (l.flatMap enc)∧h'=h):=by
 have hll:(l.map runA).length=l.length:=I9 ..;have F:=hll;refine sb [.tmp 2] Tryz.func145 ?_;intro Q hQ;refine wk F ?_;refine lm (fun nL tL hL=>∃(k v:Nat) (acc:Bs),l.length-k=nL∧h++[.row 5 1 v (acc.map bytA)]=hL∧tL 3=.hs h.length v 0 acc.length true∧tL 4=.int .i64 k∧k≤l.length∧acc++(l.drop k).flatMap enc=l.flatMap enc∧acc.length≤4*k) ((fun(k v:Nat) (acc:Bs)=>(l.length-k:Nat)) (0) (0) ([])) ?_ ?_
 ·refine⟨_,_,V4 3 5 1 (by simp) (by omega) (by exact zq F),⟨0,0,[],rfl,ar,?_,?_,?_,?_,?_⟩⟩;all_goals try exact zZz F
 rintro _ s2 h' ⟨k,v,acc,rfl,rfl,e3,e4,hk,hp,hz⟩ K2 hK2;simp only[ai,ak,Nat.reduceEqDiff, ↓reduceIte]at e3 e4;have F:=F3 F e3 e4;refine wk F ?_;refine cq F (fun hc=>?_) (fun hc=>?_)<;>(try exact hc.elim)
 ·obtain⟨y,hy,hym⟩:=ae hc;rw[aF hy,T7]at hp;have he:=cZ y;have hel:((enc y).map bytA).length=(enc y).length:=I9 ..;have F:=F2 F hy;refine wk F ?_;refine kq F (wb G y (hr y hym) _) ?_;refine aq F ?_;try refine sq F ?_
  refine wk F ?_;refine hK2 _ _ _ (G9 ⟨k+1,v+1,acc++enc y,rfl,ar,?_,?_,by omega,by rw[← hp];simp,by simp;omega⟩) (by omega);all_goals try exact zZz F
 ·rw[aY hc,List.flatMap_nil,J3]at hp;have hb:=gd acc;have hel:elemsOf (h++[.row 5 1 v (acc.map bytA)]) 1 (.hs h.length v 0 acc.length true)=some (acc.map bytA):=by
   simp[elemsOf,getRow,H9]
  have F:=F4 F hb hel @iT;refine wk F ?_;refine ee hQ F ?_;rw[← hp];exact V3 (j:=_) rfl (.str _) ⟨rfl,rfl⟩
theorem ql(c:UInt8)(base:Int)(hb:0≤base)(hb1:base≤16)(h:Heap):
  Sat (CT G) 309 [.int .u8 c.toNat,.int .i64 base] h (fun r h'=>r=.int .i64 (digF c.toNat base)∧h'=h):=by
 have hc:=c.toNat_lt;have F:=F2 @uH @i6;refine sb [.tmp 4] Tryz.func309 ?_;intro Q hQ;(repeat (first|refine w1 (fun K hK=>?_)|refine w2 ?_|refine w3 ?_| ((first|refine w4 ?_|refine wD ?_|refine w5 ?_|refine w6 ?_|refine w7 ?_);try refine sq F ?_)| (refine w8 ?_;refine sq F ?_;refine w9 ?_)| ((first|refine hK _ _ (w0 ?_)| (clear hK K;refine hK _ _ (w0 ?_))| (clear hK K;clear hK K;refine hK _ _ (w0 ?_)));clear hK K)))
 rename_i K0 hK0;have tail:∀(n:Int) (t':Env),t' 5=.int .i64 n→t' 1=.int .i64 base→n=(if 48≤(c.toNat:Int)∧(c.toNat:Int)≤57 then(c.toNat:Int)-48 else if 97≤(c.toNat:Int)∧(c.toNat:Int)≤102 then(c.toNat:Int)-87 else if 65≤(c.toNat:Int)∧(c.toNat:Int)≤70 then(c.toNat:Int)-55 else-1)→K0 t' h:=by
  intro n t' e5 e1 hn;have hd:digF c.toNat base=if base≤n then-1 else n:=by subst hn;rfl
  refine hK0 _ _ (G9 ?_);clear hK0 K0 hK K;have F:=F3 F e5 e1;(repeat (first|refine w1 (fun K hK=>?_)|refine w2 ?_|refine w3 ?_| ((first|refine w4 ?_|refine wD ?_|refine w5 ?_|refine w6 ?_|refine w7 ?_);try refine sq F ?_)| (refine w8 ?_;refine sq F ?_;refine w9 ?_)| ((first|refine hK _ _ (w0 ?_)| (clear hK K;refine hK _ _ (w0 ?_))| (clear hK K;clear hK K;refine hK _ _ (w0 ?_)));clear hK K)))
  refine cq F (fun hc=>?_) (fun hc=>?_)<;>(try exact hc.elim)<;>((repeat (first|refine w1 (fun K hK=>?_)|refine w2 ?_|refine w3 ?_| ((first|refine w4 ?_|refine wD ?_|refine w5 ?_|refine w6 ?_|refine w7 ?_);try refine sq F ?_)| (refine w8 ?_;refine sq F ?_;refine w9 ?_)| ((first|refine hK _ _ (w0 ?_)| (clear hK K;refine hK _ _ (w0 ?_))| (clear hK K;clear hK K;refine hK _ _ (w0 ?_)));clear hK K))))
  ·refine ee hQ F ?_;rw[hd,G3 hc];exact Fin.frzS (.clo _ (.int _ _)) ⟨rfl,rfl⟩
  ·refine ee hQ F ?_;rw[hd,G0 (by omega)];exact Fin.frzS (.clo _ (.int _ _)) ⟨rfl,rfl⟩
 (first|refine gq F (fun g1=>?_) (fun g1=>?_)|refine pq F (fun g1=>?_) (fun g1=>?_))<;>(try exact g1.elim)<;>(try refine sq F ?_)<;>((repeat (first|refine w1 (fun K hK=>?_)|refine w2 ?_|refine w3 ?_| ((first|refine w4 ?_|refine wD ?_|refine w5 ?_|refine w6 ?_|refine w7 ?_);try refine sq F ?_)| (refine w8 ?_;refine sq F ?_;refine w9 ?_)| ((first|refine hK _ _ (w0 ?_)| (clear hK K;refine hK _ _ (w0 ?_))| (clear hK K;clear hK K;refine hK _ _ (w0 ?_)));clear hK K))))
 ·refine cq F (fun hc=>?_) (fun hc=>?_)<;>(try exact hc.elim)<;>((repeat (first|refine w1 (fun K hK=>?_)|refine w2 ?_|refine w3 ?_| ((first|refine w4 ?_|refine wD ?_|refine w5 ?_|refine w6 ?_|refine w7 ?_);try refine sq F ?_)| (refine w8 ?_;refine sq F ?_;refine w9 ?_)| ((first|refine hK _ _ (w0 ?_)| (clear hK K;refine hK _ _ (w0 ?_))| (clear hK K;clear hK K;refine hK _ _ (w0 ?_)));clear hK K))))
  ·refine tail ((c.toNat:Int)-48) _ ?_ ?_ ?_
   ·exact zq F
   ·exact zq F
   ·rw[G3 (by omega)]
  ·(first|refine gq F (fun g2=>?_) (fun g2=>?_)|refine pq F (fun g2=>?_) (fun g2=>?_))<;>(try exact g2.elim)<;>(try refine sq F ?_)<;>((repeat (first|refine w1 (fun K hK=>?_)|refine w2 ?_|refine w3 ?_| ((first|refine w4 ?_|refine wD ?_|refine w5 ?_|refine w6 ?_|refine w7 ?_);try refine sq F ?_)| (refine w8 ?_;refine sq F ?_;refine w9 ?_)| ((first|refine hK _ _ (w0 ?_)| (clear hK K;refine hK _ _ (w0 ?_))| (clear hK K;clear hK K;refine hK _ _ (w0 ?_)));clear hK K))))
   ·refine cq F (fun hc=>?_) (fun hc=>?_)<;>(try exact hc.elim)<;>((repeat (first|refine w1 (fun K hK=>?_)|refine w2 ?_|refine w3 ?_| ((first|refine w4 ?_|refine wD ?_|refine w5 ?_|refine w6 ?_|refine w7 ?_);try refine sq F ?_)| (refine w8 ?_;refine sq F ?_;refine w9 ?_)| ((first|refine hK _ _ (w0 ?_)| (clear hK K;refine hK _ _ (w0 ?_))| (clear hK K;clear hK K;refine hK _ _ (w0 ?_)));clear hK K))))
    ·refine tail ((c.toNat:Int)-87) _ ?_ ?_ ?_
     ·simp(disch:=first|omega| (simp only[go_sem, ↓reduceIte,seval];first|done|omega)|fail) only[go_sem, ↓reduceIte,seval,F];congr 1;omega
     ·exact zq F
     ·rw[G0 (by omega),G3 (by omega)]
    ·(first|refine gq F (fun hg=>?_) (fun hg=>?_)|refine pq F (fun hg=>?_) (fun hg=>?_))<;>(try exact hg.elim)<;>(try refine sq F ?_)<;>((repeat (first|refine w1 (fun K hK=>?_)|refine w2 ?_|refine w3 ?_| ((first|refine w4 ?_|refine wD ?_|refine w5 ?_|refine w6 ?_|refine w7 ?_);try refine sq F ?_)| (refine w8 ?_;refine sq F ?_;refine w9 ?_)| ((first|refine hK _ _ (w0 ?_)| (clear hK K;refine hK _ _ (w0 ?_))| (clear hK K;clear hK K;refine hK _ _ (w0 ?_)));clear hK K))))
     ·refine cq F (fun hc=>?_) (fun hc=>?_)<;>(try exact hc.elim)<;>((repeat (first|refine w1 (fun K hK=>?_)|refine w2 ?_|refine w3 ?_| ((first|refine w4 ?_|refine wD ?_|refine w5 ?_|refine w6 ?_|refine w7 ?_);try refine sq F ?_)| (refine w8 ?_;refine sq F ?_;refine w9 ?_)| ((first|refine hK _ _ (w0 ?_)| (clear hK K;refine hK _ _ (w0 ?_))| (clear hK K;clear hK K;refine hK _ _ (w0 ?_)));clear hK K))))
      ·exfalso;omega
      ·refine tail (-1) _ ?_ ?_ ?_
       ·exact zq F
       ·exact zq F
       ·rw[G0 (by omega),G0 (by omega),G0 (by omega)]
     ·exfalso;omega
   ·(first|refine gq F (fun hg=>?_) (fun hg=>?_)|refine pq F (fun hg=>?_) (fun hg=>?_))<;>(try exact hg.elim)<;>(try refine sq F ?_)<;>((repeat (first|refine w1 (fun K hK=>?_)|refine w2 ?_|refine w3 ?_| ((first|refine w4 ?_|refine wD ?_|refine w5 ?_|refine w6 ?_|refine w7 ?_);try refine sq F ?_)| (refine w8 ?_;refine sq F ?_;refine w9 ?_)| ((first|refine hK _ _ (w0 ?_)| (clear hK K;refine hK _ _ (w0 ?_))| (clear hK K;clear hK K;refine hK _ _ (w0 ?_)));clear hK K))))
    ·refine cq F (fun hc=>?_) (fun hc=>?_)<;>(try exact hc.elim)<;>((repeat (first|refine w1 (fun K hK=>?_)|refine w2 ?_|refine w3 ?_| ((first|refine w4 ?_|refine wD ?_|refine w5 ?_|refine w6 ?_|refine w7 ?_);try refine sq F ?_)| (refine w8 ?_;refine sq F ?_;refine w9 ?_)| ((first|refine hK _ _ (w0 ?_)| (clear hK K;refine hK _ _ (w0 ?_))| (clear hK K;clear hK K;refine hK _ _ (w0 ?_)));clear hK K))))
     ·refine tail ((c.toNat:Int)-55) _ ?_ ?_ ?_
      ·simp(disch:=first|omega| (simp only[go_sem, ↓reduceIte,seval];first|done|omega)|fail) only[go_sem, ↓reduceIte,seval,F];congr 1;omega
      ·exact zq F
      ·rw[G0 (by omega),G0 (by omega),G3 (by omega)]
     ·refine tail (-1) _ ?_ ?_ ?_
      ·exact zq F
      ·exact zq F
      ·rw[G0 (by omega),G0 (by omega),G0 (by omega)]
    ·refine tail (-1) _ ?_ ?_ ?_
     ·exact zq F
     ·exact zq F
     ·rw[G0 (by omega),G0 (by omega),G0 (by omega)]
 ·(first|refine gq F (fun hg=>?_) (fun hg=>?_)|refine pq F (fun hg=>?_) (fun hg=>?_))<;>(try exact hg.elim)<;>(try refine sq F ?_)<;>((repeat (first|refine w1 (fun K hK=>?_)|refine w2 ?_|refine w3 ?_| ((first|refine w4 ?_|refine wD ?_|refine w5 ?_|refine w6 ?_|refine w7 ?_);try refine sq F ?_)| (refine w8 ?_;refine sq F ?_;refine w9 ?_)| ((first|refine hK _ _ (w0 ?_)| (clear hK K;refine hK _ _ (w0 ?_))| (clear hK K;clear hK K;refine hK _ _ (w0 ?_)));clear hK K))))
  ·exfalso;omega
  ·(first|refine gq F (fun hg=>?_) (fun hg=>?_)|refine pq F (fun hg=>?_) (fun hg=>?_))<;>(try exact hg.elim)<;>(try refine sq F ?_)<;>((repeat (first|refine w1 (fun K hK=>?_)|refine w2 ?_|refine w3 ?_| ((first|refine w4 ?_|refine wD ?_|refine w5 ?_|refine w6 ?_|refine w7 ?_);try refine sq F ?_)| (refine w8 ?_;refine sq F ?_;refine w9 ?_)| ((first|refine hK _ _ (w0 ?_)| (clear hK K;refine hK _ _ (w0 ?_))| (clear hK K;clear hK K;refine hK _ _ (w0 ?_)));clear hK K))))
   ·exfalso;omega
   ·refine tail (-1) _ ?_ ?_ ?_
    ·exact zq F
    ·exact zq F
    ·rw[G0 (by omega),G0 (by omega),G0 (by omega)]
theorem fB(s:Bs)(base:Int)(most:Nat)(hb0:1≤base)(hb1:base≤16)(hm:most≤7)(hs:s.length≤1073741824)(h:Heap):
  Sat (CT G) 284 [.str s,.int .i64 base,.int .i64 most] h (fun r h'=>r=.int .i64 (numF s base most)∧h'=h):=by
 refine sb [.tmp 6] Tryz.func284 ?_;intro Q hQ;refine wk trivial ?_;(first|refine gq trivial (fun hg=>?_) (fun hg=>?_)|refine pq trivial (fun hg=>?_) (fun hg=>?_))<;>(try exact hg.elim)<;>(try refine sq trivial ?_)<;>(refine wk trivial ?_)
 ·refine ee hQ trivial ?_;have e:numF s base most= -1:=by unfold numF;rw[G3 (.inl (K5.1 (by omega)))]
  rw[e];exact Fin.frzS (.clo _ (.int _ _)) ⟨rfl,rfl⟩
 ·refine cq trivial (fun hc=>?_) (fun hc=>?_)<;>(try exact hc.elim)<;>(refine wk trivial ?_)
  ·refine ee hQ trivial ?_;have e:numF s base most= -1:=(by unfold numF;rw[G3 (.inr (by omega))]);rw[e];exact Fin.frzS (.clo _ (.int _ _)) ⟨rfl,rfl⟩
  ·have hn:numF s base most=numGo base s 0:=by
    unfold numF;rw[G0];rintro(h1|h1)
    ·subst h1;simp at hg
    ·omega
   rw[hn]at hQ;have h16:∀k,k≤s.length→(16:Int)^k≤268435456:=fun k hk=>by
    have:(16:Nat)^k≤16^7:=Q8 (by omega) (by omega);have:((16^k:Nat):Int)≤((16^7:Nat):Int):=by omega
    simpa using this
   refine lm (fun nL tL hL=>∃(k:Nat) (n:Int),s.length-k=nL∧h=hL∧tL 7=.int .i64 n∧tL 8=.int .i64 k∧k≤s.length∧numGo base s 0=numGo base (s.drop k) n∧0≤n∧n<16^k) ((fun(k:Nat) (n:Int)=>(s.length-k:Nat)) (0) (0)) ?_ ?_
   ·refine G9 ⟨0,0,rfl,ar,?_,?_,by omega,by simp,by omega,by simp⟩;all_goals try exact zZz trivial
   rintro _ s2 h' ⟨k,n,rfl,rfl,e7,e8,hk,hv,h0,h1⟩ K2 hK2;simp only[ai,ak,Nat.reduceEqDiff, ↓reduceIte]at e7 e8;have F:=F2 e7 e8;refine wk F ?_;refine cq F (fun hc=>?_) (fun hc=>?_)<;>(try exact hc.elim)
   ·have hy:=G1 hc;have hdrop:=P9 hc;have hbn0:0≤base*n:=Int.mul_nonneg (by omega) h0;have hbn1:base*n≤16*n:=P6 hb1 h0;have hk16:=h16 (k+1) hc;have hk17:(16:Int)^(k+1)=16^k*16:=Int.pow_succ _ _;rw[hdrop,numGo]at hv;have hlt':=kw s[k].toNat base (by omega);have F:=F2 F hy;refine wk F ?_;refine kq F (ql G s[k] base (by omega) hb1 _) ?_;refine cq F (fun hc=>?_) (fun hc=>?_)<;>(try exact hc.elim)
    ·refine wk F ?_;refine ee hQ F ?_;rw[hv,G3 hc];exact Fin.frzS (.clo _ (.int _ _)) ⟨rfl,rfl⟩
    ·rw[G0 (by omega)]at hv;refine wk F ?_;refine hK2 _ _ _ (G9 ⟨k+1,base*n+digF s[k].toNat base,rfl,ar,?_,?_,by omega,hv,by omega,by omega⟩) (by omega);all_goals try exact zZz F
   ·rw[aY hc,numGo]at hv;refine wk F ?_;refine ee hQ F ?_;rw[hv];exact Fin.frzS (.clo _ (.int _ _)) ⟨rfl,rfl⟩
def isB(b:Bool):Option AVal→Bool
 |some (.bool q)=>q==b
 |_=>false
theorem mU{b:Bool}{x:Option AVal}(h:isB b x=true):x=some (.bool b):=by
 unfold isB at h;split at h
 ·simp at h;rw[h]
 ·cases h
theorem sa:((List.range 256).all fun c=>isB (beginF (c:Nat)) (runX (CT G) orcL 10 10 235 [.int .u8 (c:Nat)]))=true:=by kernel_rfl
theorem uI:((List.range 256).all fun c=>isB (moreF (c:Nat)) (runX (CT G) orcL 10 10 236 [.int .u8 (c:Nat)]))=true:=by kernel_rfl
theorem se:((List.range 256).all fun c=>isB (blankP (c:Nat)) (runX (CT G) orcL 10 10 237 [.int .u8 (c:Nat)]))=true:=by kernel_rfl
variable {G}
theorem qn(hG:GOk G)(hC:GClo (CT G))(c:UInt8)(h:Heap):Sat (CT G) 235 [.int .u8 c.toNat] h (fun r h'=>r=.bool (beginF c.toNat)∧h'=h):=
 Sat.closed hC (fI hG) 10 10 rfl rfl (mU (I1.1 (sa G) c.toNat (L1.2 c.toNat_lt))) h
theorem sf(hG:GOk G)(hC:GClo (CT G))(c:UInt8)(h:Heap):Sat (CT G) 236 [.int .u8 c.toNat] h (fun r h'=>r=.bool (moreB c)∧h'=h):=
 Sat.closed hC (fI hG) 10 10 rfl rfl (mU (I1.1 (uI G) c.toNat (L1.2 c.toNat_lt))) h
theorem qo(hG:GOk G)(hC:GClo (CT G))(c:UInt8)(h:Heap):Sat (CT G) 237 [.int .u8 c.toNat] h (fun r h'=>r=.bool (blankB c)∧h'=h):=
 Sat.closed hC (fI hG) 10 10 rfl rfl (mU (I1.1 (se G) c.toNat (L1.2 c.toNat_lt))) h
end
section
attribute [local irreducible] WP WPl WPix Sat
variable {G:Nat→Option (List AVal)}
theorem aO(s w:Bs)(h:Heap):Sat (CT G) 182 [.str s,.str w] h (fun r h'=>r=.bool (Lib.hasPrefix s w)∧h'=h):=by
 have hp:=Lib.hasPrefix_of_take s w;have fin:∀b:Bool,b=Lib.hasPrefix s w→Fin h h (fun r h'=>r=.bool (Lib.hasPrefix s w)∧h'=h) (.bool b):=fun b e=>by rw[e];exact Fin.frzS (.clo _ (.bool _)) ⟨rfl,rfl⟩
 refine sb [.tmp 4] Tryz.func182 ?_;intro Q hQ;refine wk trivial ?_;(first|refine gq trivial (fun hg=>?_) (fun hg=>?_)|refine pq trivial (fun hg=>?_) (fun hg=>?_))<;>(try exact hg.elim)<;>(try refine sq trivial ?_)<;>(refine wk trivial ?_)
 ·refine ee hQ trivial ?_;refine fin _ ?_;rw[← hp,G8 (by omega),Q0]
 ·refine ee hQ trivial ?_;refine fin _ ?_;rw[← hp,G7 (by omega),Bool.false_and]
theorem cm(hG:GOk G)(hC:GClo (CT G))(s:Bs)(hs:s.length≤1073741824)(h:Heap):Sat (CT G) 185 [.str s] h (fun r h'=>r=.str (s.dropWhile blankB)∧h'=h):=by
 have fin:∀k,s.dropWhile blankB=s.drop k→Fin h h (fun r h'=>r=.str (s.dropWhile blankB)∧h'=h) (.str (s.drop k)):=fun b e=>by rw[e];exact Fin.frzS (.clo _ (.str _)) ⟨rfl,rfl⟩
 refine sb [.tmp 2] Tryz.func185 ?_;intro Q hQ;refine wk trivial ?_;refine lm (fun nL tL hL=>∃(k:Nat),s.length-k=nL∧h=hL∧tL 3=.int .i64 k∧k≤s.length∧(∀i,i<k→∀c,s[i]? =some c→blankB c=true)) ((fun(k:Nat)=>(s.length-k:Nat)) (0)) ?_ ?_
 ·refine G9 ⟨0,rfl,ar,?_,by omega,fun i hi=>by omega⟩;all_goals try exact zZz trivial
 rintro _ s2 h' ⟨k,rfl,rfl,e3,hk,hq⟩ K2 hK2;simp only[ai,ak,Nat.reduceEqDiff, ↓reduceIte]at e3;have F:=e3;refine wk F ?_;(first|refine gq F (fun g1=>?_) (fun g1=>?_)|refine pq F (fun g1=>?_) (fun g1=>?_))<;>(try exact g1.elim)<;>(try refine sq F ?_)<;>(refine wk F ?_)
 ·obtain⟨y,hy,hym⟩:=ae g1;have F:=F2 F hy;try refine sq F ?_
  refine wk F ?_;refine kq F (qo hG hC y _) ?_;refine cq F (fun hb=>?_) (fun hb=>?_)<;>(try exact hb.elim)<;>(refine wk F ?_)
  ·have hq1:∀i,i<k+1→∀c,s[i]? =some c→blankB c=true:=fun i hi c hc=>by
    rcases N9 i k with h1|h1
    ·exact hq i h1 c hc
    ·obtain rfl:i=k:=by omega
     rw[hy]at hc;cases hc;exact hb
   refine hK2 _ _ _ (G9 ⟨k+1,rfl,ar,?_,by omega,hq1⟩) (by omega);all_goals try exact zZz F
  ·refine ee hQ F ?_;exact fin k (dJ blankB s k hq hk (.inr ⟨_,hy,hb⟩)).2
 ·obtain rfl:k=s.length:=by omega
  refine ee hQ F ?_;exact fin _ (dJ blankB s _ hq hk (.inl rfl)).2
theorem cB(s w:Bs)(hs:s.length≤1073741824)(hw:w.length≤1073741824)(h:Heap):Sat (CT G) 180 [.str s,.str w] h (fun r h'=>r=.int .i64 (Lib.index s w)∧h'=h):=by
 have fin:∀k:Int,k=Lib.index s w→Fin h h (fun r h'=>r=.int .i64 (Lib.index s w)∧h'=h) (.int .i64 k):=fun b e=>by rw[e];exact Fin.frzS (.clo _ (.int _ _)) ⟨rfl,rfl⟩
 refine sb [.tmp 4] Tryz.func180 ?_;intro Q hQ;refine wk trivial ?_;refine lm (fun nL tL hL=>∃(k:Nat),s.length+1-k=nL∧h=hL∧tL 5=.int .i64 k∧k≤s.length+1∧(∀i,i<k→Lib.occAt s w i=false)) ((fun(k:Nat)=>(s.length+1-k:Nat)) (0)) ?_ ?_
 ·refine G9 ⟨0,rfl,ar,?_,by omega,fun i hi=>by omega⟩;all_goals try exact zZz trivial
 rintro _ s2 h' ⟨k,rfl,rfl,e5,hk,hq⟩ K2 hK2;simp only[ai,ak,Nat.reduceEqDiff, ↓reduceIte]at e5;have F:=e5;refine wk F ?_;refine cq F (fun hc=>?_) (fun hc=>?_)<;>(try exact hc.elim)<;>(refine wk F ?_)
 ·have ho:=Lib.occAt_iff_take s w k (by omega);have e:(s.take ((k:Int)+(w.length:Int)).toNat).drop k=(s.drop k).take w.length:=by rw[P8];congr 1;omega
  have F:=F2 F e;try refine sq F ?_
  refine wk F ?_;refine cq F (fun hb=>?_) (fun hb=>?_)<;>(try exact hb.elim)<;>(refine wk F ?_)
  ·refine ee hQ F ?_;refine fin _ ?_;have ho2:Lib.occAt s w k=true:=(by rw[ho];simpa using hb);rcases Lib.index_spec s w with⟨_,h1⟩| ⟨i,h1,h2,h3,h4⟩
   ·rw[h1 k (by omega)]at ho2;cases ho2
   ·rw[h1];rcases O9 i k with h5|h5|h5
    ·rw[hq i h5]at h3;cases h3
    ·rw[h5]
    ·have:=h4 k h5;rw[ho2]at this;cases this
  ·have ho2:Lib.occAt s w k=false:=(by rw[ho];simpa using hb);have hq1:∀i,i<k+1→Lib.occAt s w i=false:=fun i hi=>by
    rcases N9 i k with h1|h1
    ·exact hq i h1
    ·obtain rfl:i=k:=by omega
     exact ho2
   refine hK2 _ _ _ (G9 ⟨k+1,rfl,ar,?_,by omega,hq1⟩) (by omega);all_goals try exact zZz F
 ·refine ee hQ F ?_;refine fin _ ?_;rcases Lib.index_spec s w with⟨h1,_⟩| ⟨i,h1,h2,h3,h4⟩
  ·exact h1.symm
  ·have:=Lib.index_room s w (by omega);rw[hq i (by omega)]at h3;cases h3
def nmR(s:Bs):Bs×Bs:=if badN (nameW s)=true then([],s)else(nameW s,nameR s)
theorem qp(c:UInt8)(h:beginF c.toNat=true):moreB c=true:=by
 unfold beginF at h;unfold moreB moreF;simp at *;omega
theorem i7(hG:GOk G)(hC:GClo (CT G))(s:Bs)(hs:s.length≤1073741824)(h:Heap):Sat (CT G) 184 [.str s] h (fun r h'=>r=.tup [.str (nmR s).1,.str (nmR s).2]∧h'=h):=by
 have fin:∀(h1:Heap) (a b:Bs),(a,b)=nmR s→Fin h1 h1 (fun r h'=>r=.tup [.str (nmR s).1,.str (nmR s).2]∧h'=h1) (.tup [.str a,.str b]):=fun h1 a b e=>by
  rw[← e];exact Fin.frzS (.clo _ (.tup _ (by intro c hc;simp at hc;rcases hc with rfl|rfl<;>exact .str _))) ⟨rfl,rfl⟩
 cases s with
 |nil=>
  refine sb [.tmp 2,.tmp 3] Tryz.func184 ?_;intro Q hQ;(repeat (first|refine w1 (fun K hK=>?_)|refine w2 ?_|refine w3 ?_| ((first|refine w4 ?_|refine wD ?_|refine w5 ?_|refine w6 ?_|refine w7 ?_);try refine sq trivial ?_)| (refine w8 ?_;refine sq trivial ?_;refine w9 ?_)| ((first|refine hK _ _ (w0 ?_)| (clear hK K;refine hK _ _ (w0 ?_))| (clear hK K;clear hK K;refine hK _ _ (w0 ?_)));clear hK K)))
  refine ye hQ trivial ?_;exact fin _ _ _ rfl
 |cons c t=>
  have h0:(c::t)[0]? =some c:=rfl;have F:=h0;refine sb [.tmp 2,.tmp 3] Tryz.func184 ?_;intro Q hQ;(repeat (first|refine w1 (fun K hK=>?_)|refine w2 ?_|refine w3 ?_| ((first|refine w4 ?_|refine wD ?_|refine w5 ?_|refine w6 ?_|refine w7 ?_);try refine sq F ?_)| (refine w8 ?_;refine sq F ?_;refine w9 ?_)| ((first|refine hK _ _ (w0 ?_)| (clear hK K;refine hK _ _ (w0 ?_))| (clear hK K;clear hK K;refine hK _ _ (w0 ?_)));clear hK K)))
  (first|refine gq F (fun g1=>?_) (fun g1=>?_)|refine pq F (fun g1=>?_) (fun g1=>?_))<;>(try exact g1.elim)<;>(try refine sq F ?_)<;>((repeat (first|refine w1 (fun K hK=>?_)|refine w2 ?_|refine w3 ?_| ((first|refine w4 ?_|refine wD ?_|refine w5 ?_|refine w6 ?_|refine w7 ?_);try refine sq F ?_)| (refine w8 ?_;refine sq F ?_;refine w9 ?_)| ((first|refine hK _ _ (w0 ?_)| (clear hK K;refine hK _ _ (w0 ?_))| (clear hK K;clear hK K;refine hK _ _ (w0 ?_)));clear hK K))))
  ·exfalso;omega
  ·refine(qn hG hC c _).mono ?_;rintro r h' ⟨rfl,rfl⟩;(try refine sq F ?_);(repeat (first|refine w1 (fun K hK=>?_)|refine w2 ?_|refine w3 ?_| ((first|refine w4 ?_|refine wD ?_|refine w5 ?_|refine w6 ?_|refine w7 ?_);try refine sq F ?_)| (refine w8 ?_;refine sq F ?_;refine w9 ?_)| ((first|refine hK _ _ (w0 ?_)| (clear hK K;refine hK _ _ (w0 ?_))| (clear hK K;clear hK K;refine hK _ _ (w0 ?_)));clear hK K)))
   refine cq F (fun hb=>?_) (fun hb=>?_)<;>(try exact hb.elim)<;>((repeat (first|refine w1 (fun K hK=>?_)|refine w2 ?_|refine w3 ?_| ((first|refine w4 ?_|refine wD ?_|refine w5 ?_|refine w6 ?_|refine w7 ?_);try refine sq F ?_)| (refine w8 ?_;refine sq F ?_;refine w9 ?_)| ((first|refine hK _ _ (w0 ?_)| (clear hK K;refine hK _ _ (w0 ?_))| (clear hK K;clear hK K;refine hK _ _ (w0 ?_)));clear hK K))))
   ·refine ye hQ F ?_;refine fin _ _ _ ?_;have e:badN (nameW (c::t))=true:=by
     unfold nameW;rw[List.takeWhile_cons];split
     ·simp[badN,hb]
     ·rfl
    unfold nmR;rw[G3 e]
   ·have hm:=qp c hb;have hq0:∀i,i<1→∀d,(c::t)[i]? =some d→moreB d=true:=fun i hi d hd=>by
     obtain rfl:i=0:=by omega
     simp at hd;subst hd;exact hm
    refine lm (fun nL tL hL=>∃(k:Nat),(c::t).length-k=nL∧h'=hL∧tL 4=.int .i64 k∧((1≤k∧k≤(c::t).length))∧(∀i,i<k→∀d,(c::t)[i]? =some d→moreB d=true)) ((fun(k:Nat)=>((c::t).length-k:Nat)) (1)) ?_ ?_
    ·refine G9 ⟨1,rfl,ar,?_,⟨by omega,by simp⟩,hq0⟩;all_goals try exact zZz F
    rintro _ s2 h' ⟨k,rfl,rfl,e4,hk,hq⟩ K2 hK2;simp only[ai,ak,Nat.reduceEqDiff, ↓reduceIte]at e4;have F:=F2 F e4;have tail:∀t':Env,t' 4=.int .i64 k→t' 0=.str (c::t)→nameW (c::t)=(c::t).take k→nameR (c::t)=(c::t).drop k→K t' h':=by
     intro t' e4 e0 hw hr;have hwl:(nameW (c::t)).length=k:=(by rw[hw,I2];omega);have hbd:badN (nameW (c::t))=decide (64<k):=by
      rw[← hwl,hw];obtain⟨j,rfl⟩:∃j,k=j+1:=⟨k-1,by omega⟩;rw[H8];simp[badN,hb]
     refine hK _ _ (G9 ?_);clear hK K;have hkl:=hk.2;have F:=F3 F e4 e0;(repeat (first|refine w1 (fun K hK=>?_)|refine w2 ?_|refine w3 ?_| ((first|refine w4 ?_|refine wD ?_|refine w5 ?_|refine w6 ?_|refine w7 ?_);try refine sq F ?_)| (refine w8 ?_;refine sq F ?_;refine w9 ?_)| ((first|refine hK _ _ (w0 ?_)| (clear hK K;refine hK _ _ (w0 ?_))| (clear hK K;clear hK K;refine hK _ _ (w0 ?_)));clear hK K)))
     refine cq F (fun c3=>?_) (fun c3=>?_)<;>(try exact c3.elim)<;>((repeat (first|refine w1 (fun K hK=>?_)|refine w2 ?_|refine w3 ?_| ((first|refine w4 ?_|refine wD ?_|refine w5 ?_|refine w6 ?_|refine w7 ?_);try refine sq F ?_)| (refine w8 ?_;refine sq F ?_;refine w9 ?_)| ((first|refine hK _ _ (w0 ?_)| (clear hK K;refine hK _ _ (w0 ?_))| (clear hK K;clear hK K;refine hK _ _ (w0 ?_)));clear hK K))))
     ·refine ye hQ F ?_;refine fin _ _ _ ?_;unfold nmR;rw[hbd,G8 (by omega),G3 rfl]
     ·trace_state
      refine ye hQ F ?_;refine fin _ _ _ ?_;unfold nmR;rw[hbd,G7 (by omega),G0 (by simp),hw,hr]
    have hlt:(c::t).length=t.length+1:=rfl;(repeat (first|refine w1 (fun K hK=>?_)|refine w2 ?_|refine w3 ?_| ((first|refine w4 ?_|refine wD ?_|refine w5 ?_|refine w6 ?_|refine w7 ?_);try refine sq F ?_)| (refine w8 ?_;refine sq F ?_;refine w9 ?_)| ((first|refine hK _ _ (w0 ?_)| (clear hK K;refine hK _ _ (w0 ?_))| (clear hK K;clear hK K;refine hK _ _ (w0 ?_)));clear hK K)))
    (first|refine gq F (fun g2=>?_) (fun g2=>?_)|refine pq F (fun g2=>?_) (fun g2=>?_))<;>(try exact g2.elim)<;>(try refine sq F ?_)<;>((repeat (first|refine w1 (fun K hK=>?_)|refine w2 ?_|refine w3 ?_| ((first|refine w4 ?_|refine wD ?_|refine w5 ?_|refine w6 ?_|refine w7 ?_);try refine sq F ?_)| (refine w8 ?_;refine sq F ?_;refine w9 ?_)| ((first|refine hK _ _ (w0 ?_)| (clear hK K;refine hK _ _ (w0 ?_))| (clear hK K;clear hK K;refine hK _ _ (w0 ?_)));clear hK K))))
    ·obtain⟨y,hy,hym⟩:=ae (l:=c::t) g2;have F:=F2 F hy;(try refine sq F ?_);(repeat (first|refine w1 (fun K hK=>?_)|refine w2 ?_|refine w3 ?_| ((first|refine w4 ?_|refine wD ?_|refine w5 ?_|refine w6 ?_|refine w7 ?_);try refine sq F ?_)| (refine w8 ?_;refine sq F ?_;refine w9 ?_)| ((first|refine hK _ _ (w0 ?_)| (clear hK K;refine hK _ _ (w0 ?_))| (clear hK K;clear hK K;refine hK _ _ (w0 ?_)));clear hK K)))
     refine(sf hG hC y _).mono ?_;rintro r h' ⟨rfl,rfl⟩;(try refine sq F ?_);(repeat (first|refine w1 (fun K hK=>?_)|refine w2 ?_|refine w3 ?_| ((first|refine w4 ?_|refine wD ?_|refine w5 ?_|refine w6 ?_|refine w7 ?_);try refine sq F ?_)| (refine w8 ?_;refine sq F ?_;refine w9 ?_)| ((first|refine hK _ _ (w0 ?_)| (clear hK K;refine hK _ _ (w0 ?_))| (clear hK K;clear hK K;refine hK _ _ (w0 ?_)));clear hK K)))
     refine cq F (fun hb2=>?_) (fun hb2=>?_)<;>(try exact hb2.elim)<;>((repeat (first|refine w1 (fun K hK=>?_)|refine w2 ?_|refine w3 ?_| ((first|refine w4 ?_|refine wD ?_|refine w5 ?_|refine w6 ?_|refine w7 ?_);try refine sq F ?_)| (refine w8 ?_;refine sq F ?_;refine w9 ?_)| ((first|refine hK _ _ (w0 ?_)| (clear hK K;refine hK _ _ (w0 ?_))| (clear hK K;clear hK K;refine hK _ _ (w0 ?_)));clear hK K))))
     ·have hq1:∀i,i<k+1→∀d,(c::t)[i]? =some d→moreB d=true:=fun i hi d hd=>by
       rcases N9 i k with h1|h1
       ·exact hq i h1 d hd
       ·obtain rfl:i=k:=by omega
        rw[hy]at hd;cases hd;exact hb2
      refine hK2 _ _ _ (G9 ⟨k+1,rfl,ar,?_,⟨by omega,by omega⟩,hq1⟩) (by omega);all_goals try exact zZz F
     ·obtain⟨k1,k2⟩:=dJ moreB (c::t) k hq hk.2 (.inr ⟨_,hy,hb2⟩);refine tail _ ?_ ?_ k1 k2
      ·exact zq F
      ·exact zq F
    ·obtain rfl:k=(c::t).length:=by omega
     obtain⟨k1,k2⟩:=dJ moreB (c::t) _ hq hk.2 (.inl rfl);refine tail _ ?_ ?_ k1 k2
     ·exact zq F
     ·exact zq F
end
end Go.Av
theorem V6:type_of% @Go.Av.Fin.frzS:=@Go.Av.Fin.frzS
