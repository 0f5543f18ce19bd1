/- Parts. -/
import Derived.Test.YtnolelibaahimaaGreatDoorXUj
set_option linter.unusedSimpArgs false
set_option linter.unusedVariables false
set_option linter.unusedSectionVars false
set_option linter.unnecessarySimpa false
set_option maxRecDepth 100000
set_option maxHeartbeats 16000000
namespace Go.Av
open Go Go.Proofs Go.RowKit
section
def nVer:Bs:=[118,101,114,115,105,111,110]
def q1:Bs:=[60,111,117,116,108,105,110,101,32,116,101,120,116,61,34]
def q2:Bs:=[34,32,120,109,108,85,114,108,61,34]
def q3:Bs:=[34,62]
def q4:Bs:=[60,47,111,117,116,108,105,110,101,62]
def q5:Bs:=[60,111,112,109,108,32,118,101,114,115,105,111,110,61,34,50,46,48,34,62]
def q6:Bs:=[60,98,111,100,121,62]
def q7:Bs:=[60,47,98,111,100,121,62]
def q8:Bs:=[60,47,111,112,109,108,62]
def opB(o:Outl):Bs:=q1++escF o.title++(if o.url=[]then []else q2++escF o.url)++q3
def opT(o:Outl):Tok:=(1,bOutline,(bText,o.title)::(if o.url=[]then []else [(bUrl,o.url)]),[])
def clT:Tok:=(2,bOutline,[],[])
def pcs:Nat→List Outl→List (Bs×Tok)
 |0,_=>[]
 |f+1,l=>l.flatMap fun o=>(opB o,opT o)::pcs f o.kids++[(q4,clT)]
def Pc(p:Bs×Tok):Prop:=p.1≠ []∧p.2.1≠3∧∀r,partF (p.1++r)=([p.2],r,false)
theorem ii(n r:Bs)(hn:nameW (n++62::r)=n)(hr:nameR (n++62::r)=62::r)(hb:badN n=false):partF (60::47::n++62::r)=([(2,n,[],[])],r,false):=by
 have e1:Lib.hasPrefix (60::47::n++62::r) p1=false:=rfl;have e2:Lib.hasPrefix (60::47::n++62::r) p2=false:=rfl;have e3:Lib.hasPrefix (60::47::n++62::r) p3=false:=rfl;have e4:Lib.hasPrefix (60::47::n++62::r) p4=false:=rfl;have e5:Lib.hasPrefix (60::47::n++62::r) p5=true:=rfl;have e6:Lib.trimPrefix (60::47::n++62::r) p5=n++62::r:=by unfold Lib.trimPrefix;rw[L7 e5];rfl
 unfold partF;rw[e1,e2,e3,e4,e5,e6];simp only[N9,if_false,if_true];have e7:(62::r:Bs).dropWhile blankB=62::r:=rfl;have e8:Lib.hasPrefix (62::r) [62]=true:=rfl;have e9:Lib.trimPrefix (62::r) [62]=r:=by unfold Lib.trimPrefix;rw[L7 e8];rfl
 unfold closeF;simp only[hn,hr,hb,e7,e8,e9];rfl
theorem fX(f:Nat)(n:Bs)(at_:List At)(r:Bs):openL (f+1) n at_ (62::r) false=([(1,n,at_,[])],r,false):=by
 have e7:(62::r:Bs).dropWhile blankB=62::r:=rfl;have e8:Lib.hasPrefix (62::r) [62]=true:=rfl;have e9:Lib.trimPrefix (62::r) [62]=r:=by unfold Lib.trimPrefix;rw[L7 e8];rfl
 rw[openL,e7,e8,e9];rfl
theorem ij(f:Nat)(n m v:Bs)(at_:List At)(r:Bs)(h1:(m++61::34::escF v++34::r).dropWhile blankB=m++61::34::escF v++34::r)(h2:Lib.hasPrefix (m++61::34::escF v++34::r) [62]=false)(h3:Lib.hasPrefix (m++61::34::escF v++34::r) [47,62]=false)
  (hn:nameW (m++61::34::escF v++34::r)=m)(hr:nameR (m++61::34::escF v++34::r)=61::34::escF v++34::r)(hb:badN m=false)(h4:(at_.any fun a=>a.1==m)=false)(h5:decide (32≤at_.length)=false):
  openL (f+1) n at_ (32::(m++61::34::escF v++34::r)) false=openL f n (at_++[(m,v)]) r false:=by
 have e7:(32::(m++61::34::escF v++34::r):Bs).dropWhile blankB=m++61::34::escF v++34::r:=h1;rw[openL,e7,h2,h3,vE m v r hn hr hb,h4,h5];rfl
theorem j4(n r:Bs)(c:UInt8)(h1:(c==33)=false)(h2:(c==63)=false)(h3:(c==47)=false):partF (60::c::n++r)=openF (c::n++r):=by
 have b1:((33:UInt8)==c)=false:=by rw[← h1];exact Bool.beq_comm
 have b2:((63:UInt8)==c)=false:=by rw[← h2];exact Bool.beq_comm
 have b3:((47:UInt8)==c)=false:=by rw[← h3];exact Bool.beq_comm
 have e1:Lib.hasPrefix (60::c::n++r) p1=false:=by simp[Lib.hasPrefix,p1,List.isPrefixOf,b1]
 have e2:Lib.hasPrefix (60::c::n++r) p2=false:=by simp[Lib.hasPrefix,p2,List.isPrefixOf,b2]
 have e3:Lib.hasPrefix (60::c::n++r) p3=false:=by simp[Lib.hasPrefix,p3,List.isPrefixOf,b1]
 have e4:Lib.hasPrefix (60::c::n++r) p4=false:=by simp[Lib.hasPrefix,p4,List.isPrefixOf,b1]
 have e5:Lib.hasPrefix (60::c::n++r) p5=false:=by simp[Lib.hasPrefix,p5,List.isPrefixOf,b3]
 have e6:Lib.hasPrefix (60::c::n++r) p6=true:=rfl;have e7:Lib.trimPrefix (60::c::n++r) p6=c::n++r:=by unfold Lib.trimPrefix;rw[L7 e6];rfl
 unfold partF;rw[e1,e2,e3,e4,e5,e6,e7];simp only[N9,if_false,if_true]
theorem vF(o:Outl)(r:Bs):partF (opB o++r)=([opT o],r,false):=by
 have key:∀u:Bs,openF (bOutline++32::(bText++61::34::escF o.title++34::u))=openL (bOutline++32::(bText++61::34::escF o.title++34::u)).length.succ.succ bOutline [(bText,o.title)] u false:=fun u=>by
  unfold openF;have a1:nameW (bOutline++32::(bText++61::34::escF o.title++34::u))=bOutline:=rfl;have a2:nameR (bOutline++32::(bText++61::34::escF o.title++34::u))=32::(bText++61::34::escF o.title++34::u):=rfl;have a3:badN bOutline=false:=rfl;rw[a1,a2,a3];exact ij _ bOutline bText o.title [] u rfl rfl rfl rfl rfl rfl rfl rfl
 have e0:∀v:Bs,partF (q1++v)=openF (bOutline++32::(bText++61::34::v)):=fun v=>j4 [117,116,108,105,110,101,32,116,101,120,116,61,34] v 111 rfl rfl rfl
 unfold opB opT;by_cases hu:o.url=[]
 ·rw[L7 hu,L7 hu,N3,O4,O4,e0];have e1:(escF o.title++(q3++r))=escF o.title++34::(62::r):=rfl;rw[e1];have:=key (62::r);simp only[P3,O4]at this ⊢;rw[this];exact fX _ _ _ _
 ·rw[L1 hu,L1 hu];have e1:q1++escF o.title++(q2++escF o.url)++q3++r=q1++(escF o.title++34::(32::(bUrl++61::34::escF o.url++34::(62::r)))):=by simp[q2,q3,bUrl]
  rw[e1,e0];have:=key (32::(bUrl++61::34::escF o.url++34::(62::r)));simp only[P3,O4]at this ⊢;rw[this];have h2:=ij (bOutline++32::(bText++61::34::escF o.title++34::(32::(bUrl++61::34::escF o.url++34::(62::r))))).length.succ bOutline bUrl o.url [(bText,o.title)] (62::r) rfl rfl rfl rfl rfl rfl rfl rfl;simp only[P3,O4]at h2;rw[h2];exact fX _ _ _ _
theorem zJ(o:Outl):Pc (opB o,opT o):=⟨by simp[opB,q1],by simp[opT],fun r=>vF o r⟩
theorem xZ:Pc (q4,clT):=⟨by simp[q4],by simp[clT],fun r=>ii bOutline r rfl rfl rfl⟩
theorem B6:∀(f:Nat) (l:List Outl),∀p∈pcs f l,Pc p:=by
 intro f;induction f with
 |zero=>intro l p hp;simp[pcs]at hp
 |succ f ih=>
  intro l p hp;rw[pcs]at hp;obtain⟨o,_,hp⟩:=List.mem_flatMap.1 hp;simp only[U2,N0,Q8,or_false]at hp;rcases hp with(rfl|hp)|rfl
  ·exact zJ o
  ·exact ih _ p hp
  ·exact xZ
theorem zK:Pc (q5,(1,bOpml,[(nVer,[50,46,48])],[])):=⟨by simp[q5],by simp,fun r=>by
 have e0:partF (q5++r)=openF (bOpml++32::(nVer++61::34::escF [50,46,48]++34::(62::r))):=j4 [112,109,108,32,118,101,114,115,105,111,110,61,34,50,46,48,34,62] r 111 rfl rfl rfl;rw[e0];unfold openF;have a1:nameW (bOpml++32::(nVer++61::34::escF [50,46,48]++34::(62::r)))=bOpml:=rfl;have a2:nameR (bOpml++32::(nVer++61::34::escF [50,46,48]++34::(62::r)))=32::(nVer++61::34::escF [50,46,48]++34::(62::r)):=rfl;have a3:badN bOpml=false:=rfl;rw[a1,a2,a3,ij _ bOpml nVer [50,46,48] [] (62::r) rfl rfl rfl rfl rfl rfl rfl rfl];exact fX _ _ _ _⟩
theorem zL:Pc (q6,(1,bBody,[],[])):=⟨by simp[q6],by simp,fun r=>by
 have e0:partF (q6++r)=openF (bBody++62::r):=j4 [111,100,121,62] r 98 rfl rfl rfl;rw[e0];unfold openF;have a1:nameW (bBody++62::r)=bBody:=rfl;have a2:nameR (bBody++62::r)=62::r:=rfl;have a3:badN bBody=false:=rfl;rw[a1,a2,a3];exact fX _ _ _ _⟩
theorem y7:Pc (q7,(2,bBody,[],[])):=⟨by simp[q7],by simp,fun r=>ii bBody r rfl rfl rfl⟩
theorem y9:Pc (q8,(2,bOpml,[],[])):=⟨by simp[q8],by simp,fun r=>ii bOpml r rfl rfl rfl⟩
theorem pm:∀(ps:List (Bs×Tok)) (f:Nat) (l:List Tok),(∀p∈ps,Pc p)→ps.length<f→l.length+ps.length≤8192→tksF f (ps.flatMap (·.1)) l=(l++ps.map (·.2),0)
 | [],f,l,_,hf,_=>by
  obtain⟨f,rfl⟩:∃k,f=k+1:=⟨f-1,by omega⟩;rw[Z5,tksF,L7 rfl];simp
 |p::ps,f,l,hp,hf,hl=>by
  simp only[L6]at hf hl;obtain⟨f,rfl⟩:∃k,f=k+1:=⟨f-1,by omega⟩;obtain⟨h1,h2,h3⟩:=hp p (R2 ..);have hne:p.1++ps.flatMap (·.1)≠ []:=by simp[h1]
  have ha:[p.2].foldl addT l=l++[p.2]:=by show addT l p.2=_;unfold addT;rw[L1 h2]
  rw[R7,tksF,L1 hne,h3];simp only[N9,if_false,ha];rw[L1 (by simp;omega),pm ps f _ (fun q hq=>hp q (P6 _ hq)) (by omega) (by simp;omega)];simp
def docP(f:Nat)(l:List Outl):List (Bs×Tok):=(q5,(1,bOpml,[(nVer,[50,46,48])],[]))::(q6,(1,bBody,[],[]))::pcs f l++[(q7,(2,bBody,[],[])),(q8,(2,bOpml,[],[]))]
def docF(f:Nat)(l:List Outl):Bs:=(docP f l).flatMap (·.1)
theorem rK(f:Nat)(l:List Outl):∀p∈docP f l,Pc p:=by
 intro p hp;simp only[docP,U2,N0,Q8,or_false]at hp;rcases hp with(rfl|rfl|hp)|rfl|rfl
 ·exact zK
 ·exact zL
 ·exact B6 f l p hp
 ·exact y7
 ·exact y9
theorem pn:∀ps:List (Bs×Tok),(∀p∈ps,Pc p)→ps.length≤(ps.flatMap (·.1)).length
 | [],_=>by simp
 |p::ps,h=>by
  have h1:=pn ps fun q hq=>h q (P6 _ hq)
  have h2:=S9.2 (h p (R2 ..)).1;rw[R7,L4,L6];omega
theorem vG(f:Nat)(l:List Outl)(h1:(docF f l).length≤65536)(h2:(docP f l).length≤8192):toksF (docF f l)=((docP f l).map (·.2),0):=by
 unfold toksF;rw[L1 (by omega)];have:=pm (docP f l) ((docF f l).length+1) [] (rK f l) (by have:=pn _ (rK f l);unfold docF;omega) (by simpa using h2);simpa [docF]using this
end
section
attribute [local irreducible] WP WPl WPix Sat
variable (G:Nat→Option (List AVal))
theorem tY(hG:GOk G)(hC:GClo (CT G))(s:Bs)(hs:s.length≤4194304)(h:Heap):Sat (CT G) 104 [.str s] h (PrsR h s):=by
 have hsz:szs Tok.sz (toksF s).1≤1048576:=by have:=nu s;omega
 refine sb [.cell 2 171,.tmp 3] Tryz.func104 ?_;intro Q hQ;refine wk trivial ?_;refine(qp G hG s (by omega) _).mono ?_;rintro r h' ⟨a,rfl,rfl⟩;try refine sq trivial ?_
 refine wk trivial ?_;by_cases c0:(toksF s).2=0
 ·have b0:((toksF s).2 !=0)=false:=by simpa using c0
  have F:=b0;try refine sq F ?_
  refine wk F ?_;refine(tX G hG hC (toksF s).1 hsz _).mono ?_;rintro r h' ⟨e,rfl,he,hz,rfl⟩;try refine sq F ?_
  refine wk F ?_;refine ye hQ F ?_;have hp:prsC s=if (bldF (toksF s).1).isSome then 0 else 90:=by unfold prsC;rw[L7 c0]
  exact M2 (.tup _ (by intro c hc;simp at hc;rcases hc with rfl|rfl;exact Elem.clo _ _;exact .int _ _)) ⟨e,by rw[hp],(fun y _ hy=>he y hy),(fun hne=>hz (by cases hb:bldF (toksF s).1 with|none=>rfl|some x=>rw[hp,hb]at hne;exact absurd rfl hne)),rfl⟩
 ·have b0:((toksF s).2 !=0)=true:=by simpa using c0
  have F:=b0;try refine sq F ?_
  refine wk F ?_;refine ye hQ F ?_;exact PrsR.bad _ _ (by unfold prsC;rw[L1 c0]) c0
def okOl(l:List Outl):Bool:=decide (cntN 8 l≤512)
theorem jF(l:List Outl)(hl:OkN 8 l)(h:Heap):Sat (CT G) 31 [.sl 3 (l.map Outl.av)] h (fun r h'=>r=.int .i64 (if okOl l then 0 else 130)∧h'=h):=by
 have hc:=mh 8 l;refine sb [.tmp 2] Tryz.func31 ?_;intro Q hQ;refine wk trivial ?_;refine kq trivial (ll G 8 1 (by omega) l hl _) ?_;refine cq trivial (fun c1=>?_) (fun c1=>?_)<;>(try exact c1.elim)<;>(refine wk trivial ?_)
 ·refine ee hQ trivial ?_;refine fR (.int _ _) ?_;rw[L1 (by unfold okOl;simp;omega)]
 ·refine ee hQ trivial ?_;refine fR (.int _ _) ?_;rw[L7 (by unfold okOl;simp;omega)]
theorem vI:∀(n d:Nat),d+n=40→∀e:Elem,deep e (d+1)≤32→deep e d≤32:=by
 intro n;induction n with
 |zero=>intro d hd e he;rw[dK,L7 (by omega)]at he;omega
 |succ n ih=>
  intro d hd e he;have h40:¬40≤d+1:=fun h=>by rw[dK,L7 h]at he;omega
  rw[dK,L1 h40]at he;have h2:=i5 e.kids (d+1) (d+1);rw[dK,L1 (by omega)];exact kg _ _ _ (by omega) fun k hk=>ih (d+1) (by omega) k (by have:=h2.2 k hk;omega)
theorem nw(g:List Outl→Nat)(hg:∀l,g l≤512→szs Outl.sz l≤769*g l):∀(t:List Outl) (a:Nat),t.length≤a→cntGo g t a≤512→szs Outl.sz t+769*(a-t.length)≤769*cntGo g t a
 | [],a,_,_=>by simp[szs,cntGo]
 |o::t,a,ha,h=>by
  rw[cntGo]at h ⊢;simp only[L6]at ha ⊢;by_cases hk:oneOk o=true
  ·rw[L7 hk]at h ⊢;by_cases h5:512<a+g o.kids
   ·rw[L7 h5]at h;omega
   ·rw[L1 h5]at h ⊢;have h1:=nw g hg t (a+g o.kids) (by omega) h;have h2:=hg o.kids (by omega);have h3:=o.sz_eq;unfold oneOk textO at hk;simp only[L2,L8]at hk;have h4:=hk.1.1.2.1.1;have h6:=hk.1.2.1.1;rw[szs];omega
  ·rw[L1 hk]at h;omega
theorem vJ:∀(f:Nat) (l:List Outl),cntN f l≤512→szs Outl.sz l≤769*cntN f l:=by
 intro f;induction f with
 |zero=>
  intro l h;rw[cntN]at h ⊢;by_cases hl:l=[]
  ·subst hl;simp[szs]
  ·rw[L1 hl]at h;omega
 |succ f ih=>
  intro l h;rw[cntN]at h ⊢;by_cases hl:512<l.length
  ·rw[L7 hl]at h;omega
  ·rw[L1 hl]at h ⊢;have:=nw (cntN f) ih l l.length (M3 _) h;omega
def rdO(e:Elem):List Outl:=ofF 40 (kidF e bBody).1
def goodO(e:Elem):Bool:=(kidF e bBody).2&&decide (short e.name=bOpml)&&okOl (rdO e)
def rdF(s:Bs):List Outl×Int:=
 if prsC s=0 then
  match bldF (toksF s).1 with
  |none=>([],0)
  |some e=>if goodO e then(rdO e,0)else([],130)
 else([],prsC s)
def RdO(h:Heap)(s:Bs)(r:AVal)(h':Heap):Prop:=r=.tup [.sl 3 ((rdF s).1.map Outl.av),.int .i64 (rdF s).2]∧h'=h
theorem Hh{s:Bs}(h:prsC s=0):∃y,bldF (toksF s).1=some y:=by
 unfold prsC at h;by_cases c0:(toksF s).2=0
 ·rw[L7 c0]at h;cases hb:bldF (toksF s).1 with
  |none=>rw[hb]at h;exact absurd h (by decide)
  |some y=>exact⟨y,rfl⟩
 ·rw[L1 c0]at h;exact absurd h c0
theorem RdO.bad{h:Heap}{s:Bs}(j:Heap)(c:Int)(e:rdF s=([],c)):Fin h (h++j) (RdO h s) (.tup [.nil (.slice none 0 0),.int .i64 c]):=by
 refine za2 (FrzL.tup (.cons (.nils 3) (.cons (.clo _ (.int _ _)) .nil))) ⟨?_,rfl⟩;rw[e];rfl
theorem zO{s:Bs}(h:prsC s≠0):rdF s=([],prsC s):=by unfold rdF;rw[L1 h]
theorem pu{s:Bs}{e:Elem}(h:prsC s=0)(he:bldF (toksF s).1=some e):rdF s=if goodO e then(rdO e,0)else([],130):=by
 unfold rdF;rw[L7 h,he]
theorem zP(e:Elem)(n:Bs):(kidF e n).1.sz≤e.sz∧(deep e 1≤32→deep (kidF e n).1 1≤32):=by
 have hp:=e.sz_pos;by_cases h:(kidF e n).2=true
 ·have h1:=xb e n h;have h2:=Elem.kid_sz h1;exact⟨by omega,fun hd=>vI 39 1 rfl _ (pp hd h1).2⟩
 ·have:(kidF e n).1=⟨[],[],[],[]⟩:=by
   unfold kidF at h ⊢;cases hq:kidsF e n with
   |nil=>rfl
   |cons k l=>rw[hq]at h;exact absurd rfl h
  rw[this];exact⟨by show 1≤_;exact hp,fun _=>by decide⟩
theorem ln(hG:GOk G)(hC:GClo (CT G))(s:Bs)(hs:s.length≤4194304)(h:Heap):Sat (CT G) 56 [.str s] h (RdO h s):=by
 have hsz:=nu s;refine sb [.tmp 2,.tmp 3] Tryz.func56 ?_;intro Q hQ;refine wk trivial ?_;refine(tY G hG hC s (by omega) _).mono ?_;rintro r h' ⟨e,rfl,he,hez,rfl⟩;try refine sq trivial ?_
 refine wk trivial ?_;by_cases c0:prsC s=0
 ·obtain⟨y,hb⟩:=Hh c0;have hey:=he y c0 hb;subst hey;have hes:=zB hb;have hed:=vr hb;have hnl:=e.name_len;obtain⟨hk1,hk2⟩:=zP e bBody;have hr:=pu c0 hb;have b0:(prsC s !=0)=false:=by simpa using c0
  have F:=b0;try refine sq F ?_
  refine wk F ?_;refine kq F (xa G e bBody (by omega) _) ?_;(first|refine gq F (fun g1=>?_) (fun g1=>?_)|refine pq F (fun g1=>?_) (fun g1=>?_))<;>(try exact g1.elim)<;>(try refine sq F ?_)<;>(refine wk F ?_)
  ·refine ye hQ F ?_;exact RdO.bad _ _ (by rw[hr,L1 (by unfold goodO;simp[g1])])
  ·refine kq F (kZ G e.name (by omega) _) ?_;refine cq F (fun g2=>?_) (fun g2=>?_)<;>(try exact g2.elim)<;>(refine wk F ?_)
   ·refine ye hQ F ?_;exact RdO.bad _ _ (by rw[hr,L1 (by unfold goodO;intro hh;simp only[L2,L8]at hh;exact g2 hh.1.2)])
   ·refine kq F (zN G 40 1 rfl (kidF e bBody).1 (hk2 hed) (by omega) _) ?_;refine kq F (jF G (rdO e) (B8 8 40 _ (by omega)) _) ?_;cases hok:okOl (rdO e)with
    |true=>
     have q:rdF s=(rdO e,0):=(by rw[hr,L7 (by unfold goodO;rw[g1,hok,g2];simp[bOpml])]);have n0:((0:Int) !=0)=false:=rfl;have F:=F2 F n0;(try refine sq F ?_);refine wk F ?_;refine ye hQ F ?_;refine M2 (.tup _ (by intro c hc;simp at hc;rcases hc with rfl|rfl;exact Outls.clo _ _ _;exact .int _ _)) ⟨?_,rfl⟩;rw[q];rfl
    |false=>
     have n1:((130:Int) !=0)=true:=rfl;have F:=F2 F n1;(try refine sq F ?_);refine wk F ?_;refine ye hQ F ?_;exact RdO.bad _ _ (by rw[hr,L1 (by unfold goodO;rw[hok];simp)])
 ·have b0:(prsC s !=0)=true:=by simpa using c0
  have F:=b0;try refine sq F ?_
  refine wk F ?_;refine ye hQ F ?_;exact RdO.bad _ _ (zO c0)
end
section
theorem yc:∀(f:Nat) (s:Bs) (n:Nat),s.length≤f→s.length≤n→cutN f s n=s.length:=by
 intro f;induction f with
 |zero=>intro s n hf _;rw[cutN];omega
 |succ f ih=>
  intro s n hf hn;rw[cutN];by_cases hs:s=[]
  ·subst hs;rfl
  ·have hp:=S9.2 hs;have hd:=aR s 0 hp;rw[L1 hs,L1 (by omega),ih _ _ (by rw[P2];omega) (by rw[P2];omega),P2];omega
theorem ny{s:Bs}{n:Nat}(h:textO s n=true):shortF s n=s:=by
 unfold textO at h;simp only[L2,L8]at h;have hc:cutF s n=s:=by unfold cutF;rw[yc _ _ _ (M3 _) h.1.1];exact X9
 unfold shortF;rw[h.2,hc,h.2]
theorem pv(g:List Outl→Nat):∀(t:List Outl) (a:Nat),cntGo g t a≤512→(∀o∈t,oneOk o=true∧g o.kids≤512)∧a≤cntGo g t a
 | [],a,h=>⟨fun o ho=>by simp at ho,M3 _⟩
 |o::t,a,h=>by
  rw[cntGo]at h ⊢;by_cases hk:oneOk o=true
  ·rw[L7 hk]at h ⊢;by_cases h5:512<a+g o.kids
   ·rw[L7 h5]at h;omega
   ·rw[L1 h5]at h ⊢;obtain⟨h1,h2⟩:=pv g t _ h;refine⟨fun x hx=>?_,by omega⟩;rcases N0.1 hx with rfl|hx
    ·exact⟨hk,by omega⟩
    ·exact h1 x hx
  ·rw[L1 hk]at h;omega
theorem eD{l:List Outl}(h:cntN 0 l≤512):l=[]:=by
 rw[cntN]at h;by_cases hl:l=[]
 ·exact hl
 ·rw[L1 hl]at h;omega
theorem eE{f:Nat}{l:List Outl}(h:cntN (f+1) l≤512):(∀o∈l,oneOk o=true∧cntN f o.kids≤512)∧cntGo (cntN f) l l.length=cntN (f+1) l:=by
 rw[cntN]at h ⊢;by_cases hl:512<l.length
 ·rw[L7 hl]at h;omega
 ·rw[L1 hl]at h ⊢;exact⟨(pv _ l _ h).1,rfl⟩
theorem vK(f:Nat)(ih:∀l,cntN f l≤512→(pcs f l).length≤2*cntN f l):∀(t:List Outl) (a:Nat),cntGo (cntN f) t a≤512→(pcs (f+1) t).length+2*a≤2*cntGo (cntN f) t a+2*t.length
 | [],a,_=>by simp[pcs,cntGo]
 |o::t,a,h=>by
  rw[cntGo]at h ⊢;by_cases hk:oneOk o=true
  ·rw[L7 hk]at h ⊢;by_cases h5:512<a+cntN f o.kids
   ·rw[L7 h5]at h;omega
   ·rw[L1 h5]at h ⊢;have h1:=vK f ih t _ h;have h2:=ih o.kids (by omega);have e:(pcs (f+1) (o::t)).length=(pcs f o.kids).length+2+(pcs (f+1) t).length:=by
     rw[pcs,pcs,R7];simp;omega
    rw[e];simp only[L6];omega
  ·rw[L1 hk]at h;omega
theorem rM:∀(f:Nat) (l:List Outl),cntN f l≤512→(pcs f l).length≤2*cntN f l:=by
 intro f;induction f with
 |zero=>intro l h;rw[eD h];simp[pcs]
 |succ f ih=>
  intro l h;obtain⟨_,h1⟩:=eE h;have:=vK f ih l l.length (by omega);omega
def atO(o:Outl):List At:=(bText,o.title)::(if o.url=[]then []else [(bUrl,o.url)])
def elsO:Nat→List Outl→List Elem
 |0,_=>[]
 |f+1,l=>l.map fun o=>⟨bOutline,atO o,[],elsO f o.kids⟩
theorem zQ:∀(f d:Nat) (n:Bs) (a:List At) (x:Bs) (l:List Outl) (k:List Elem) (rest:List Tok) (g g':Nat),f≤d→((pcs f l).map (·.2)++rest).length<g→rest.length<g'→
  elL g d n a x k ((pcs f l).map (·.2)++rest)=elL g' d n a x (k++elsO f l) rest:=by
 intro f;induction f with
 |zero=>
  intro d n a x l k rest g g' _ hg hg';simp only[pcs,elsO,Q6,O8,N3]at hg ⊢;exact ph _ _ _ _ _ _ _ _ hg hg'
 |succ f ih=>
  intro d n a x l;induction l with
  |nil=>
   intro k rest g g' _ hg hg';simp only[pcs,elsO,Z5,Q6,O8,N3]at hg ⊢;exact ph _ _ _ _ _ _ _ _ hg hg'
  |cons o l ihl=>
   intro k rest g g' hd hg hg';have e:(pcs (f+1) (o::l)).map (·.2)++rest=opT o::((pcs f o.kids).map (·.2)++clT::((pcs (f+1) l).map (·.2)++rest)):=by
    rw[pcs,pcs,R7];simp
   rw[e]at hg ⊢;simp only[L6,L4,N4]at hg;obtain⟨g,rfl⟩:∃q,g=q+1:=⟨g-1,by omega⟩;have t1:(opT o).1=1:=rfl;have hi:elL g (d-1) (opT o).2.1 (opT o).2.2.1 [] [] ((pcs f o.kids).map (·.2)++clT::((pcs (f+1) l).map (·.2)++rest))=some (⟨bOutline,atO o,[],elsO f o.kids⟩,(pcs (f+1) l).map (·.2)++rest):=by
    rw[ih (d-1) _ _ _ o.kids [] _ g (((pcs (f+1) l).map (·.2)++rest).length+2) (by omega) (by simp;omega) (by simp),dj];rfl
   rw[dj,L1 (by rw[t1];decide),L7 t1,L1 (by omega),hi,S4];show elL g d n a x (k++[⟨bOutline,atO o,[],elsO f o.kids⟩]) ((pcs (f+1) l).map (·.2)++rest)=_;refine(ihl _ rest g g' hd (by simp;omega) hg').trans ?_;rw[O4];rfl
def docE(f:Nat)(l:List Outl):Elem:=⟨bOpml,[(nVer,[50,46,48])],[],[⟨bBody,[],[],elsO f l⟩]⟩
theorem yd(f:Nat)(l:List Outl)(hf:f≤30):bldF ((docP f l).map (·.2))=some (docE f l):=by
 have e:(docP f l).map (·.2)=(1,bOpml,[(nVer,[50,46,48])],[])::(1,bBody,[],[])::((pcs f l).map (·.2)++[(2,bBody,[],[]),(2,bOpml,[],[])]):=by simp[docP]
 unfold bldF;rw[e];have b1:(((1,bOpml,[(nVer,[50,46,48])],[])::(1,bBody,[],[])::((pcs f l).map (·.2)++[(2,bBody,[],[]),(2,bOpml,[],[])]):List Tok)).dropWhile blankT=(1,bOpml,[(nVer,[50,46,48])],[])::(1,bBody,[],[])::((pcs f l).map (·.2)++[(2,bBody,[],[]),(2,bOpml,[],[])]):=rfl;rw[b1,kb,L7 rfl,L1 (by decide),dj,L1 (by decide),L7 rfl,L1 (by decide)];rw[zQ f 30 bBody [] [] l [] _ _ 3 hf (by simp) (by simp)];rfl
theorem B9:∀(f g:Nat) (n:Bs) (a:List At) (x:Bs) (l:List Outl),f≤g→cntN f l≤512→ofF g ⟨n,a,x,elsO f l⟩=l:=by
 intro f;induction f with
 |zero=>intro g n a x l _ h;rw[eD h];cases g<;>rfl
 |succ f ih=>
  intro g n a x l hg h;obtain⟨g,rfl⟩:∃q,g=q+1:=⟨g-1,by omega⟩;obtain⟨h1,_⟩:=eE h;have hk:kidsF ⟨n,a,x,elsO (f+1) l⟩ bOutline=elsO (f+1) l:=by
   refine V7.2 fun k hk=>?_
   obtain⟨o,_,rfl⟩:=M7.1 hk;rfl
  rw[ofF,hk,elsO];have key:∀t:List Outl,(∀o∈t,oneOk o=true∧cntN f o.kids≤512)→(t.map fun o=>(⟨bOutline,atO o,[],elsO f o.kids⟩:Elem)).filterMap (oneO (ofF g))=t:=by
   intro t;induction t with
   |nil=>intro _;rfl
   |cons o t iht=>
    intro ht;obtain⟨ho,hc⟩:=ht o (R2 ..);have hq:=ho;unfold oneOk at hq;simp only[L2,P8,L8]at hq;obtain⟨⟨⟨q1,q2⟩,q3⟩,q4⟩:=hq;have a1:attrS ⟨bOutline,atO o,[],elsO f o.kids⟩ bText 256=o.title:=by
     show shortF (attrF (atO o) bText).1 256=_;exact ny q2
    have a2:attrS ⟨bOutline,atO o,[],elsO f o.kids⟩ bUrl 512=o.url:=by
     show shortF (attrF (atO o) bUrl).1 512=_;by_cases hu:o.url=[]
     ·have:(attrF (atO o) bUrl).1=[]:=by unfold atO;rw[L7 hu];rfl
      rw[this,hu];rfl
     ·have:(attrF (atO o) bUrl).1=o.url:=by unfold atO;rw[L1 hu];rfl
      rw[this];exact ny q3
    have a3:titF ⟨bOutline,atO o,[],elsO f o.kids⟩=o.title:=by
     unfold titF orF;rw[a1,L7 q1]
    have a4:oneO (ofF g) ⟨bOutline,atO o,[],elsO f o.kids⟩=some o:=by
     unfold oneO;rw[a3,L1 q1,a2,ih g _ _ _ o.kids (by omega) hc];have a5:(if o.url=[]then o.kids else [])=o.kids:=by
      rcases q4 with q4|q4
      ·rw[L7 q4]
      ·rw[q4];split<;>rfl
     rw[a5];cases o;rfl
    rw[N6,List.filterMap_cons_some a4,iht fun x hx=>ht x (P6 _ hx)]
  exact key l h1
theorem zR(l:List Outl)(h:okOl l=true)(hs:(docF 8 l).length≤65536):rdF (docF 8 l)=(l,0):=by
 have hc:cntN 8 l≤512:=P7 h;have hp:=rM 8 l hc;have ht:=vG 8 l hs (by simp[docP];omega);have hb:=yd 8 l (by omega);have hk:kidF (docE 8 l) bBody=(⟨bBody,[],[],elsO 8 l⟩,true):=rfl;have hr:rdO (docE 8 l)=l:=by unfold rdO;rw[hk];exact B9 8 40 _ _ _ l (by omega) hc
 have h0:prsC (docF 8 l)=0:=by unfold prsC;rw[ht,L7 rfl];simp only[];rw[hb];rfl
 rw[pu h0 (e:=docE 8 l) (by rw[ht];exact hb),hr];rw[L7];unfold goodO;rw[hr,hk,h];rfl
end
section
attribute [local irreducible] WP WPl WPix Sat
variable (G:Nat→Option (List AVal))
def bldWR(a:AVal)(q v:Nat)(s:Bs):Blk:=.row 159 2 0 [.agg [a,.hs q v 0 s.length true]]
@[go_sem] theorem BZ(a:AVal)(q v:Nat)(s:Bs)(l:Heap):getRow (bldWR a q v s::l) 0 0=some (159,2,[.agg [a,.hs q v 0 s.length true]]):=rfl
theorem qI:ptrConv Tryz.prog 154 214 159 2=true:=by kernel_rfl
theorem nO:ptrConv Tryz.prog 214 154 159 2=true:=by kernel_rfl
attribute [go_sem] qI nO
theorem yk(n p q v:Nat)(s:Bs)(hp:p<n)(hq:q<n):CloB n (bldWR (.hp p 0 0 0) q v s):=by
 intro r hr;simp only[S7]at hr;subst hr;refine .agg _ fun c hc=>?_
 simp only[N0,Q8,or_false]at hc;rcases hc with rfl|rfl
 ·exact .hp _ _ _ _ hp
 ·exact .hs _ _ _ _ _ hq
def bldW(h j:Heap)(a:AVal)(v:Nat)(s:Bs):Heap:=h++bldWR a (h.length+1) v s::bufR v s::j
theorem bT(h j:Heap)(a:AVal)(v:Nat)(s:Bs):(bldW h j a v s).length=h.length+(2+j.length):=by simp[bldW];omega
theorem j7(h j:Heap)(a:AVal)(v v':Nat)(s s':Bs):∀(p:Nat) (k:Blk),(bldW h j (.hp h.length 0 0 0) v' s')[p]? =some k→(bldW h j a v s)[p]? =some k∨CloB (bldW h j a v s).length k:=by
 rw[bT];exact yy (yk _ _ _ _ _ (by omega) (by omega)) (jc _ _ _)
theorem ml(a:AVal)(h j:Heap)(v:Nat)(s:Bs)(ha:bldA a h.length):
  Sat (CT G) 137 [.hp h.length 0 0 0] (bldW h j a v s) (fun r h'=>r=.tup []∧h'=bldW h j (.hp h.length 0 0 0) v s):=by
 have hK:=j7 h j a v v s s;have hl:=(bT h j (.hp h.length 0 0 0) v s).trans (bT h j a v s).symm;have hfin:∀t',Fin (bldW h j a v s) (bldW h j (.hp h.length 0 0 0) v s) (fun r h'=>r=.tup []∧h'=bldW h j (.hp h.length 0 0 0) v s) t'∨True:=fun _=>.inr trivial
 have end_:Fin (bldW h j a v s) (bldW h j (.hp h.length 0 0 0) v s) (fun r h'=>r=.tup []∧h'=bldW h j (.hp h.length 0 0 0) v s) (.tup []):=Fin.keep0 hl hK (.tup _ (by simp)) ⟨rfl,rfl⟩;clear hfin hK hl;unfold bldW at*;refine sb [] Tryz.func137 ?_;intro Q hQ;(repeat (first|refine w1 (fun K hK=>?_)|refine w2 ?_|refine w3 ?_| ((first|refine w4 ?_|refine wD ?_|refine w5 ?_|refine w6 ?_|refine w7 ?_);try refine ai trivial ?_)| (refine w8 ?_;refine ai trivial ?_;refine w9 ?_)| ((first|refine hK _ _ (w0 ?_)| (clear hK K;refine hK _ _ (w0 ?_))| (clear hK K;clear hK K;refine hK _ _ (w0 ?_)));clear hK K)))
 rcases ha with rfl|rfl
 ·rw[mB,qW];simp(disch:=first|omega| (simp only[go_sem, ↓reduceIte,Nat.reduceEqDiff];done)|fail) only[go_sem, ↓reduceIte,Int.reduceToNat,Int.reduceLE,Int.reduceLT,Int.reduceSub,Int.reduceAdd,Nat.reduceEqDiff,Nat.reduceAdd,Nat.reduceLeDiff,Nat.reduceLT,Nat.reduceMul,Nat.reduceSub];(repeat (first|refine w1 (fun K hK=>?_)|refine w2 ?_|refine w3 ?_| ((first|refine w4 ?_|refine wD ?_|refine w5 ?_|refine w6 ?_|refine w7 ?_);try refine ai trivial ?_)| (refine w8 ?_;refine ai trivial ?_;refine w9 ?_)| ((first|refine hK _ _ (w0 ?_)| (clear hK K;refine hK _ _ (w0 ?_))| (clear hK K;clear hK K;refine hK _ _ (w0 ?_)));clear hK K)))
  refine⟨by simp,?_⟩;refine(fr G _ _).mono ?_;rintro r h' ⟨rfl,rfl⟩;simp(disch:=first|omega| (simp only[go_sem, ↓reduceIte,Nat.reduceEqDiff];done)|fail) only[go_sem, ↓reduceIte,Int.reduceToNat,Int.reduceLE,Int.reduceLT,Int.reduceSub,Int.reduceAdd,Nat.reduceEqDiff,Nat.reduceAdd,Nat.reduceLeDiff,Nat.reduceLT,Nat.reduceMul,Nat.reduceSub,List.cons_ne_nil];refine(hQ _ _ ?_).2;simp(disch:=first|omega| (simp only[go_sem, ↓reduceIte,Nat.reduceEqDiff];done)|fail) only[go_sem, ↓reduceIte,Int.reduceToNat,Int.reduceLE,Int.reduceLT,Int.reduceSub,Int.reduceAdd,Nat.reduceEqDiff,Nat.reduceAdd,Nat.reduceLeDiff,Nat.reduceLT,Nat.reduceMul,Nat.reduceSub];exact end_
 ·rw[o4,mP _ _ _ (by simp(disch:=first|omega| (simp only[go_sem, ↓reduceIte,Nat.reduceEqDiff];done)|fail) only[go_sem, ↓reduceIte,Int.reduceToNat,Int.reduceLE,Int.reduceLT,Int.reduceSub,Int.reduceAdd,Nat.reduceEqDiff,Nat.reduceAdd,Nat.reduceLeDiff,Nat.reduceLT,Nat.reduceMul,Nat.reduceSub];rfl)];simp(disch:=first|omega| (simp only[go_sem, ↓reduceIte,Nat.reduceEqDiff];done)|fail) only[go_sem, ↓reduceIte,Int.reduceToNat,Int.reduceLE,Int.reduceLT,Int.reduceSub,Int.reduceAdd,Nat.reduceEqDiff,Nat.reduceAdd,Nat.reduceLeDiff,Nat.reduceLT,Nat.reduceMul,Nat.reduceSub];(repeat (first|refine w1 (fun K hK=>?_)|refine w2 ?_|refine w3 ?_| ((first|refine w4 ?_|refine wD ?_|refine w5 ?_|refine w6 ?_|refine w7 ?_);try refine ai trivial ?_)| (refine w8 ?_;refine ai trivial ?_;refine w9 ?_)| ((first|refine hK _ _ (w0 ?_)| (clear hK K;refine hK _ _ (w0 ?_))| (clear hK K;clear hK K;refine hK _ _ (w0 ?_)));clear hK K)))
  rw[oA _ _ (by exact az trivial)];simp(disch:=first|omega| (simp only[go_sem, ↓reduceIte,Nat.reduceEqDiff];done)|fail) only[go_sem, ↓reduceIte,Int.reduceToNat,Int.reduceLE,Int.reduceLT,Int.reduceSub,Int.reduceAdd,Nat.reduceEqDiff,Nat.reduceAdd,Nat.reduceLeDiff,Nat.reduceLT,Nat.reduceMul,Nat.reduceSub];(repeat (first|refine w1 (fun K hK=>?_)|refine w2 ?_|refine w3 ?_| ((first|refine w4 ?_|refine wD ?_|refine w5 ?_|refine w6 ?_|refine w7 ?_);try refine ai trivial ?_)| (refine w8 ?_;refine ai trivial ?_;refine w9 ?_)| ((first|refine hK _ _ (w0 ?_)| (clear hK K;refine hK _ _ (w0 ?_))| (clear hK K;clear hK K;refine hK _ _ (w0 ?_)));clear hK K)))
  refine(hQ _ _ ?_).2;simp(disch:=first|omega| (simp only[go_sem, ↓reduceIte,Nat.reduceEqDiff];done)|fail) only[go_sem, ↓reduceIte,Int.reduceToNat,Int.reduceLE,Int.reduceLT,Int.reduceSub,Int.reduceAdd,Nat.reduceEqDiff,Nat.reduceAdd,Nat.reduceLeDiff,Nat.reduceLT,Nat.reduceMul,Nat.reduceSub];exact end_
theorem bI(a:AVal)(h j:Heap)(v:Nat)(s x:Bs)(ha:bldA a h.length)(hs:s.length+x.length≤1073741824):
  Sat (CT G) 99 [.hp h.length 0 0 0,.str x] (bldW h j a v s) (fun r h'=>r=.tup [.int .i64 x.length,.nil .nilIface]∧h'=bldW h j (.hp h.length 0 0 0) (v+1) (s++x)):=by
 have end_:Fin (bldW h j a v s) (bldW h j (.hp h.length 0 0 0) (v+1) (s++x)) (fun r h'=>r=.tup [.int .i64 x.length,.nil .nilIface]∧h'=bldW h j (.hp h.length 0 0 0) (v+1) (s++x)) (.tup [.int .i64 x.length,.nil .nilIface]):=
  Fin.keep0 ((bT ..).trans (bT ..).symm) (j7 _ _ _ _ _ _ _) (.tup _ (by intro c hc;simp at hc;rcases hc with rfl|rfl;exact .int _ _;exact .nil _)) ⟨rfl,rfl⟩
 refine sb [.tmp 4,.tmp 5] Tryz.func99 ?_;intro Q hQ;refine af trivial ?_;refine(ml G a h j v s ha).mono ?_;rintro r h' ⟨rfl,rfl⟩;unfold bldW at*;try refine ai trivial ?_
 refine af trivial ?_;refine bQ (.inr (by exact az trivial)) (by exact az trivial) (by exact az trivial) cD er (by omega) (mQ _ x) (by simp(disch:=first|omega| (simp only[go_sem, ↓reduceIte,Nat.reduceEqDiff];done)|fail) only[go_sem, ↓reduceIte,Int.reduceToNat,Int.reduceLE,Int.reduceLT,Int.reduceSub,Int.reduceAdd,Nat.reduceEqDiff,Nat.reduceAdd,Nat.reduceLeDiff,Nat.reduceLT,Nat.reduceMul,Nat.reduceSub,bc];rfl) (by simp) ?_ ?_
 ·simp[maxLen];omega
 simp(disch:=first|omega| (simp only[go_sem, ↓reduceIte,Nat.reduceEqDiff];done)|fail) only[go_sem, ↓reduceIte,Int.reduceToNat,Int.reduceLE,Int.reduceLT,Int.reduceSub,Int.reduceAdd,Nat.reduceEqDiff,Nat.reduceAdd,Nat.reduceLeDiff,Nat.reduceLT,Nat.reduceMul,Nat.reduceSub];refine af trivial ?_;refine(hQ _ _ ?_).1;simp(disch:=first|omega| (simp only[go_sem, ↓reduceIte,Nat.reduceEqDiff];done)|fail) only[go_sem, ↓reduceIte,Int.reduceToNat,Int.reduceLE,Int.reduceLT,Int.reduceSub,Int.reduceAdd,Nat.reduceEqDiff,Nat.reduceAdd,Nat.reduceLeDiff,Nat.reduceLT,Nat.reduceMul,Nat.reduceSub];simp only[bldWR,bufR,L4,Q7,N4]at end_ ⊢;exact end_
theorem qJ(a:AVal)(h j:Heap)(v:Nat)(s:Bs):Sat (CT G) 101 [.hp h.length 0 0 0] (bldW h j a v s) (fun r h'=>r=.str s∧∃b,h'=h++bldWR a (h.length+1) v s::b::j):=by
 unfold bldW;have F:= @bc;refine sb [.tmp 2] Tryz.func101 ?_;intro Q hQ;refine af F ?_;have fin:∀b,Fin (h++bldWR a (h.length+1) v s::bufR v s::j) (h++bldWR a (h.length+1) v s::b::j) (fun r h'=>r=.str s∧∃b,h'=h++bldWR a (h.length+1) v s::b::j) (.str s)∨¬(b=bufR v s∨b=.dead):=fun b=>by
  by_cases hb:b=bufR v s∨b=.dead
  ·refine .inl (Fin.keep0 (by simp) (fun p k hk=>?_) (.str _) ⟨rfl,b,rfl⟩);rcases T3 p h.length with h1|h1
   ·rw[L5 h1]at hk ⊢;exact .inl hk
   ·rw[L9 h1]at hk ⊢
    match p-h.length,hk with
    |0,hk=>exact .inl (by simpa using hk)
    |1,hk=>
     simp at hk;subst hk;rcases hb with rfl|rfl
     ·exact .inl (by simp)
     ·exact .inr trivial
    |i+2,hk=>exact .inl (by simpa using hk)
  ·exact .inr hb
 rcases Nat.eq_zero_or_pos s.length with h0|h0
 ·have hs:s=[]:=O9.1 h0;subst hs;simp(disch:=first|omega| (simp only[go_sem, ↓reduceIte,Nat.reduceEqDiff];done)|fail) only[go_sem, ↓reduceIte,Int.reduceToNat,Int.reduceLE,Int.reduceLT,Int.reduceSub,Int.reduceAdd,Nat.reduceEqDiff,Nat.reduceAdd,Nat.reduceLeDiff,Nat.reduceLT,Nat.reduceMul,Nat.reduceSub,F,M4,Nat.lt_irrefl,Int.natCast_zero];refine af F ?_;refine au hQ F ?_;rcases fin (bufR v [])with f|f
  ·exact f
  ·exact absurd (.inl rfl) f
 ·simp(disch:=first|omega| (simp only[go_sem, ↓reduceIte,Nat.reduceEqDiff];done)|fail) only[go_sem, ↓reduceIte,Int.reduceToNat,Int.reduceLE,Int.reduceLT,Int.reduceSub,Int.reduceAdd,Nat.reduceEqDiff,Nat.reduceAdd,Nat.reduceLeDiff,Nat.reduceLT,Nat.reduceMul,Nat.reduceSub,F,h0];refine o5 h0 (by simp(disch:=first|omega| (simp only[go_sem, ↓reduceIte,Nat.reduceEqDiff];done)|fail) only[go_sem, ↓reduceIte,Int.reduceToNat,Int.reduceLE,Int.reduceLT,Int.reduceSub,Int.reduceAdd,Nat.reduceEqDiff,Nat.reduceAdd,Nat.reduceLeDiff,Nat.reduceLT,Nat.reduceMul,Nat.reduceSub,F];rfl) uv (by simp) (by rw[O1 (by simp)];exact kN s) ?_;try refine ai F ?_
  refine af F ?_;refine au hQ F ?_;rcases fin .dead with f|f
  ·exact f
  ·exact absurd (.inr rfl) f
theorem pE{s:Bs}{k:Nat}{y:UInt8}(hy:s[k]? =some y){e:Bs}(he:escB y=e):escF (s.take (k+1))=escF (s.take k)++e:=by
 rw[R6,hy, ← he];exact vD _ _
theorem pF(s:Bs)(k:Nat):(escF (s.take k)).length≤6*s.length:=by
 have h1:=(cL (s.take k)).1;have h2:(s.take k).length≤s.length:=by rw[O3];omega
 omega
theorem zY{y:UInt8}{k:Nat}(hk:k<256)(h:(y.toNat:Int)=(k:Int)):y=UInt8.ofNat k:=by
 apply UInt8.toNat_inj.1
 rw[UInt8.toNat_ofNat',Nat.mod_eq_of_lt hk];omega
theorem cV{y:UInt8}{e:Bs}(k:Nat)(hk:k<256)(h:(y.toNat:Int)=(k:Int))(he:escB (UInt8.ofNat k)=e):escB y=e:=by rw[zY hk h];exact he
theorem gH{y:UInt8}{k:Nat}(hk:k<256)(h:¬(y.toNat:Int)=(k:Int)):y≠UInt8.ofNat k:=by
 rintro rfl
 apply h
 rw[UInt8.toNat_ofNat',Nat.mod_eq_of_lt hk]
theorem vP{y:UInt8}(c1:¬(y.toNat:Int)=38)(c2:¬(y.toNat:Int)=60)(c3:¬(y.toNat:Int)=62)(c4:¬(y.toNat:Int)=34)(c5:¬(y.toNat:Int)=39):escB y=[y]:=by
 have h1:y≠38:=gH (k:=38) (by omega) c1;have h2:y≠60:=gH (k:=60) (by omega) c2;have h3:y≠62:=gH (k:=62) (by omega) c3;have h4:y≠34:=gH (k:=34) (by omega) c4;have h5:y≠39:=gH (k:=39) (by omega) c5;unfold escB;rw[L1 h1,L1 h2,L1 h3,L1 h4,L1 h5]
theorem lu(s:Bs)(hs:s.length≤1048576)(h:Heap):Sat (CT G) 138 [.str s] h (fun r h'=>r=.str (escF s)∧h'=h):=by
 refine sb [.tmp 2] Tryz.func138 ?_;intro Q hQ;refine wk trivial ?_;refine lm (fun nL tL hL=>∃(k v:Nat) (a:AVal),s.length-k=nL∧bldH h [] a v (escF (s.take k))=hL∧tL 7=.int .i64 k∧bldA a h.length∧k≤s.length) ((fun(k v:Nat) (a:AVal)=>(s.length-k:Nat)) (0) (0) ((.nil (.pointer none)))) ?_ ?_
 ·refine⟨_,_,Z1 (p:=h.length) (v:=0) 5 1 (by omega) (by simp(disch:=first|omega| (simp only[go_sem, ↓reduceIte,seval];first|done|omega)|fail) only[go_sem, ↓reduceIte,seval];rfl) 1 rfl,⟨0,0,(.nil (.pointer none)),rfl,aw,?_,.inl rfl,by omega⟩⟩;all_goals try exact zZz trivial
 rintro _ s2 h' ⟨k,v,a,rfl,rfl,e7,ha,hk⟩ K2 hK2;simp only[ak,am,Nat.reduceEqDiff, ↓reduceIte]at e7;have F:=e7;have hel:=pF s k;refine wk F ?_;refine cq F (fun c0=>?_) (fun c0=>?_)<;>(try exact c0.elim)<;>(refine wk F ?_)
 ·obtain⟨y,hy,hym⟩:=aj c0;have nx:= @pE s k y hy;have F:=F2 F hy;try refine sq F ?_
  refine wk F ?_;refine cq F (fun c1=>?_) (fun c1=>?_)<;>(try exact c1.elim)<;>(refine wk F ?_)
  ·refine kq F (bF G a h [] v (escF (s.take k)) [38,97,109,112,59] ha (by simp;omega)) ?_;refine hK2 _ _ _ (M5 ⟨k+1,v+1,(.hp h.length 0 0 0),rfl,by rw[@nx [38,97,109,112,59] (cV 38 (by omega) c1 rfl)],?_,.inr rfl,by omega⟩) (by omega);all_goals try exact zZz F
  refine cq F (fun c2=>?_) (fun c2=>?_)<;>(try exact c2.elim)<;>(refine wk F ?_)
  ·refine kq F (bF G a h [] v (escF (s.take k)) [38,108,116,59] ha (by simp;omega)) ?_;refine hK2 _ _ _ (M5 ⟨k+1,v+1,(.hp h.length 0 0 0),rfl,by rw[@nx [38,108,116,59] (cV 60 (by omega) c2 rfl)],?_,.inr rfl,by omega⟩) (by omega);all_goals try exact zZz F
  refine cq F (fun c3=>?_) (fun c3=>?_)<;>(try exact c3.elim)<;>(refine wk F ?_)
  ·refine kq F (bF G a h [] v (escF (s.take k)) [38,103,116,59] ha (by simp;omega)) ?_;refine hK2 _ _ _ (M5 ⟨k+1,v+1,(.hp h.length 0 0 0),rfl,by rw[@nx [38,103,116,59] (cV 62 (by omega) c3 rfl)],?_,.inr rfl,by omega⟩) (by omega);all_goals try exact zZz F
  refine cq F (fun c4=>?_) (fun c4=>?_)<;>(try exact c4.elim)<;>(refine wk F ?_)
  ·refine kq F (bF G a h [] v (escF (s.take k)) [38,113,117,111,116,59] ha (by simp;omega)) ?_;refine hK2 _ _ _ (M5 ⟨k+1,v+1,(.hp h.length 0 0 0),rfl,by rw[@nx [38,113,117,111,116,59] (cV 34 (by omega) c4 rfl)],?_,.inr rfl,by omega⟩) (by omega);all_goals try exact zZz F
  refine cq F (fun c5=>?_) (fun c5=>?_)<;>(try exact c5.elim)<;>(refine wk F ?_)
  ·refine kq F (bF G a h [] v (escF (s.take k)) [38,97,112,111,115,59] ha (by simp;omega)) ?_;refine hK2 _ _ _ (M5 ⟨k+1,v+1,(.hp h.length 0 0 0),rfl,by rw[@nx [38,97,112,111,115,59] (cV 39 (by omega) c5 rfl)],?_,.inr rfl,by omega⟩) (by omega);all_goals try exact zZz F
  ·have e:=vP c1 c2 c3 c4 c5;refine kq F (cj G a h [] v (escF (s.take k)) y ha (by omega)) ?_;refine hK2 _ _ _ (M5 ⟨k+1,v+1,(.hp h.length 0 0 0),rfl,by rw[nx e],?_,.inr rfl,by omega⟩) (by omega);all_goals try exact zZz F
 ·have e:s.take k=s:=O1 (by omega);refine(eT G a h [] v (escF (s.take k))).mono ?_;rintro r h' ⟨rfl,b2,rfl⟩;try refine sq F ?_
  refine wk F ?_;refine ee hQ F ?_;exact Y0 (j:=[bldR a (h.length+1) v (escF (s.take k)),b2]) (by simp) (.str _) ⟨by rw[e],rfl⟩
theorem jI(s:Bs)(hs:s.length≤1048576)(h:Heap):Sat (CT G) 102 [.str s] h (fun r h'=>r=.str (escF s)∧h'=h):=by
 refine sb [.tmp 2] Tryz.func102 ?_;intro Q hQ;refine wk trivial ?_;refine lm (fun nL tL hL=>∃(k:Nat),s.length-k=nL∧h=hL∧tL 3=.str (escF (s.take k))∧tL 4=.int .i64 k∧k≤s.length) ((fun(k:Nat)=>(s.length-k:Nat)) (0)) ?_ ?_
 ·refine M5 ⟨0,rfl,aw,?_,?_,by omega⟩;all_goals try exact zZz trivial
 rintro _ s2 h' ⟨k,rfl,rfl,e3,e4,hk⟩ K2 hK2;simp only[ak,am,Nat.reduceEqDiff, ↓reduceIte]at e3 e4;have F:=F2 e3 e4;have hel:=pF s k;refine wk F ?_;refine cq F (fun c0=>?_) (fun c0=>?_)<;>(try exact c0.elim)<;>(refine wk F ?_)
 ·obtain⟨y,hy,hym⟩:=aj c0;have nx:= @pE s k y hy;have hsl:(s.take (k+1)).drop k=[y]:=by rw[R6,hy,List.drop_append_of_le_length (by rw[O3];omega),W4 (by rw[O3];omega)];rfl
  have F:=F2 F hy;try refine sq F ?_
  refine wk F ?_;refine cq F (fun c1=>?_) (fun c1=>?_)<;>(try exact c1.elim)<;>(refine wk F ?_)
  ·rw[← @nx [38,97,109,112,59] (cV 38 (by omega) c1 rfl)];refine hK2 _ _ _ (M5 ⟨k+1,rfl,aw,?_,?_,by omega⟩) (by omega);all_goals try exact zZz F
  refine cq F (fun c2=>?_) (fun c2=>?_)<;>(try exact c2.elim)<;>(refine wk F ?_)
  ·rw[← @nx [38,108,116,59] (cV 60 (by omega) c2 rfl)];refine hK2 _ _ _ (M5 ⟨k+1,rfl,aw,?_,?_,by omega⟩) (by omega);all_goals try exact zZz F
  refine cq F (fun c3=>?_) (fun c3=>?_)<;>(try exact c3.elim)<;>(refine wk F ?_)
  ·rw[← @nx [38,103,116,59] (cV 62 (by omega) c3 rfl)];refine hK2 _ _ _ (M5 ⟨k+1,rfl,aw,?_,?_,by omega⟩) (by omega);all_goals try exact zZz F
  refine cq F (fun c4=>?_) (fun c4=>?_)<;>(try exact c4.elim)<;>(refine wk F ?_)
  ·rw[← @nx [38,113,117,111,116,59] (cV 34 (by omega) c4 rfl)];refine hK2 _ _ _ (M5 ⟨k+1,rfl,aw,?_,?_,by omega⟩) (by omega);all_goals try exact zZz F
  refine cq F (fun c5=>?_) (fun c5=>?_)<;>(try exact c5.elim)<;>(refine wk F ?_)
  ·rw[← @nx [38,97,112,111,115,59] (cV 39 (by omega) c5 rfl)];refine hK2 _ _ _ (M5 ⟨k+1,rfl,aw,?_,?_,by omega⟩) (by omega);all_goals try exact zZz F
  ·have e:=vP c1 c2 c3 c4 c5;rw[hsl,L7 (by simp only[L6,M4];omega), ← nx e];(try refine sq F ?_);refine wk F ?_;refine hK2 _ _ _ (M5 ⟨k+1,rfl,aw,?_,?_,by omega⟩) (by omega);all_goals try exact zZz F
 ·have e:s.take k=s:=O1 (by omega);rw[e];refine ee hQ F ?_;refine fR (.str _) ?_;rfl
def wrF(f:Nat)(l:List Outl):Bs:=(pcs f l).flatMap (·.1)
def wrG(g:Outl→Bs)(l:List Outl):Bs:=l.flatMap fun o=>opB o++(g o++q4)
theorem iq(f:Nat)(l:List Outl):wrF (f+1) l=wrG (fun o=>wrF f o.kids) l:=by
 unfold wrF wrG;rw[pcs,List.flatMap_assoc];congr 1
 funext o
 simp[wrF]
theorem pG{g:Outl→Bs}{l:List Outl}{k:Nat}{o:Outl}(hy:l[k]? =some o):wrG g (l.take (k+1))=wrG g (l.take k)++(opB o++(g o++q4)):=by
 rw[R6,hy];simp[wrG]
theorem lw(g:Outl→Bs)(l:List Outl)(k:Nat):(wrG g (l.take k)).length≤(wrG g l).length:=by
 have:wrG g l=wrG g (l.take k)++wrG g (l.drop k):=by
  unfold wrG;rw[← List.flatMap_append,V8]
 rw[this,L4];omega
theorem rU(g:Outl→Bs):∀{l:List Outl} {o:Outl},o∈l→(g o).length≤(wrG g l).length
 |x::l,o,h=>by
  have e:wrG g (x::l)=opB x++(g x++q4)++wrG g l:=by simp[wrG]
  rw[e,L4,L4,L4];rcases N0.1 h with rfl|h
  ·omega
  ·have:=rU g h;omega
theorem mm(o:Outl):(opB o).length=17+(escF o.title).length+(if o.url=[]then 0 else 10+(escF o.url).length):=by
 unfold opB;split<;>simp[q1,q2,q3]<;>omega
theorem zZ:∀(f:Nat) (l:List Outl),(wrF f l).length≤6*szs Outl.sz l+31*(pcs f l).length:=by
 intro f;induction f with
 |zero=>intro l;simp[wrF,pcs]
 |succ f ih=>
  intro l;induction l with
  |nil=>simp[wrF,pcs]
  |cons o l ihl=>
   have e1:wrF (f+1) (o::l)=opB o++(wrF f o.kids++q4)++wrF (f+1) l:=(by rw[iq,iq];simp[wrG]);have e2:(pcs (f+1) (o::l)).length=(pcs f o.kids).length+2+(pcs (f+1) l).length:=(by rw[pcs,pcs,R7];simp;omega);have h1:=mm o;have h2:=cL o.title;have h3:=cL o.url;have h4:=ih o.kids;have h5:=o.sz_eq;have h6:(opB o).length≤27+(escF o.title).length+(escF o.url).length:=(by rw[h1];split<;>omega);rw[e1,e2,szs];simp only[L4,show q4.length=10 from rfl];omega
theorem rV(f:Nat)(l:List Outl):docF f l=(q5++q6)++wrF f l++(q7++q8):=by
 unfold docF docP wrF;simp
theorem jJ(g:Outl→Bs)(l:List Outl)(hs:szs Outl.sz l≤1048576)(hB:(wrG g l).length≤1048576)(ih:∀o∈l,∀h,Sat (CT G) 52 [.sl 3 (o.kids.map Outl.av)] h (fun r h'=>r=.str (g o)∧h'=h))(h:Heap):
  Sat (CT G) 52 [.sl 3 (l.map Outl.av)] h (fun r h'=>r=.str (wrG g l)∧h'=h):=by
 have hlm:(l.map Outl.av).length=l.length:=N4 ..;have hll:=cE l;have F:=hlm;refine sb [.tmp 2] Tryz.func52 ?_;intro Q hQ;refine wk F ?_;refine lm (fun nL tL hL=>∃(k:Nat),l.length-k=nL∧h=hL∧tL 3=.str (wrG g (l.take k))∧tL 4=.int .i64 k∧k≤l.length) ((fun(k:Nat)=>(l.length-k:Nat)) (0)) ?_ ?_
 ·refine M5 ⟨0,rfl,aw,?_,?_,by omega⟩;all_goals try exact zZz F
 rintro _ s2 h' ⟨k,rfl,rfl,e3,e4,hk⟩ K2 hK2;simp only[ak,am,Nat.reduceEqDiff, ↓reduceIte]at e3 e4;have F:=F3 F e3 e4;have hle:=lw g l k;have hle1:=lw g l (k+1);refine wk F ?_;refine cq F (fun c0=>?_) (fun c0=>?_)<;>(try exact c0.elim)<;>(refine wk F ?_)
 ·obtain⟨y,hy,hym⟩:=aj c0;have hyv:(l.map Outl.av)[k]? =some y.av:=by rw[M8,hy];rfl
  have nx:= @pG g l k y hy;have hys:=bJ Outl.sz hym;have hyz:=y.sz_eq;have h2:=cL y.title;have h3:=cL y.url;rw[nx,L4,L4,L4,mm]at hle1;have lq:q4.length=10:=rfl;have F:=F2 F hy;try refine sq F ?_
  refine wk F ?_;refine kq F (jI G y.title (by omega) _) ?_;refine cq F (fun c1=>?_) (fun c1=>?_)<;>(try exact c1.elim)<;>(refine wk F ?_)
  ·refine kq F (jI G y.url (by omega) _) ?_;rw[L1 c1]at hle1;refine kq F (ih y hym _) ?_;refine hK2 _ _ _ (M5 ⟨k+1,rfl,aw,?_,?_,by omega⟩) (by omega);(all_goals try exact zZz F);(try refine sq F ?_);rw[nx];unfold opB;rw[L1 c1];simp[q1,q2,q3,q4]
  ·rw[L7 c1]at hle1;refine kq F (ih y hym _) ?_;refine hK2 _ _ _ (M5 ⟨k+1,rfl,aw,?_,?_,by omega⟩) (by omega);(all_goals try exact zZz F);(try refine sq F ?_);rw[nx];unfold opB;rw[L7 c1];simp[q1,q3,q4]
 ·have e:l.take k=l:=O1 (by omega);refine wk F ?_;refine ee hQ F ?_;refine fR (.str _) ?_;rw[e]
theorem u5:∀(f:Nat) (l:List Outl),cntN f l≤512→szs Outl.sz l≤1048576→(wrF f l).length≤1048576→∀h:Heap,Sat (CT G) 52 [.sl 3 (l.map Outl.av)] h (fun r h'=>r=.str (wrF f l)∧h'=h):=by
 intro f;induction f with
 |zero=>
  intro l hc hs hw h;have e:=eD hc;subst e;exact jJ G (fun _=>[]) [] hs (by simp[wrG]) (fun o ho=>by simp at ho) h
 |succ f ih=>
  intro l hc hs hw h;rw[iq]at hw ⊢;refine jJ G _ l hs hw (fun o ho h=>?_) h;have h1:=bJ Outl.sz ho;have h2:=o.sz_eq;have h3:=rU (fun o=>wrF f o.kids) ho;exact ih o.kids ((eE hc).1 o ho).2 (by omega) (by omega) h
theorem jK(l:List Outl)(hc:okOl l=true)(hs:szs Outl.sz l≤1048576)(hw:(wrF 8 l).length≤1000000)(h:Heap):Sat (CT G) 22 [.sl 3 (l.map Outl.av)] h (fun r h'=>r=.str (docF 8 l)∧h'=h):=by
 have hc:=P7 hc;refine sb [.tmp 2] Tryz.func22 ?_;intro Q hQ;refine wk trivial ?_;refine kq trivial (u5 G 8 l hc hs (by omega) _) ?_;refine ee hQ trivial ?_;refine fR (.str _) ?_;rw[rV];simp[q5,q6,q7,q8]
attribute [go_sem] bT
theorem dS(h j l:Heap)(a:AVal)(v:Nat)(s:Bs):bldW h j a v s++l=bldW h (j++l) a v s:=by simp[bldW]
@[go_sem] theorem Bh(h j l:Heap)(a:AVal)(v u n:Nat)(s:Bs)(hn:j.length=n):getRow (bldW h j a v s++l) (h.length+(2+n)) u=getRow l 0 u:=by
 rw[← hn, ← bT h j a v s];exact g9 _ l u
@[go_sem] theorem Fg(h j l:Heap)(a:AVal)(v n:Nat)(s:Bs)(x:Blk)(hn:j.length=n):(bldW h j a v s++l).set (h.length+(2+n)) x=bldW h j a v s++l.set 0 x:=by
 rw[← hn, ← bT h j a v s];exact o6 _ l x
@[go_sem] theorem pH(h j:Heap)(a:AVal)(v:Nat)(s:Bs):getRow (bldW h j a v s) h.length 0=some (159,2,[.agg [a,.hs (h.length+1) v 0 s.length true]]):=by
 unfold bldW;exact g9 _ _ _
@[go_sem] theorem Bi(h j l:Heap)(a:AVal)(v:Nat)(s:Bs):getRow (bldW h j a v s++l) h.length 0=some (159,2,[.agg [a,.hs (h.length+1) v 0 s.length true]]):=by
 rw[dS];exact pH ..
theorem yE{h j l:Heap}{a:AVal}{v:Nat}{s:Bs}(x:Bs)(ha:bldA a h.length)(hs:s.length+x.length≤1073741824):
  Sat (CT G) 99 [.hp h.length 0 0 0,.str x] (bldW h j a v s++l) (fun r h'=>r=.tup [.int .i64 x.length,.nil .nilIface]∧h'=bldW h j (.hp h.length 0 0 0) (v+1) (s++x)++l):=by
 rw[dS,dS];exact bI G a h (j++l) v s x ha hs
def AllR(h j:Heap)(s:Bs)(r:AVal)(h':Heap):Prop:=r=.tup []∧∃a v,bldA a h.length∧h'=bldW h j a v s
theorem Aa{h j jj:Heap}{a a1:AVal}{v v1:Nat}{s s1:Bs}(ha:bldA a1 h.length)(hq:a1=a∧v1=v∧s1=s∨a1=.hp h.length 0 0 0):Fin (bldW h j a v s) (bldW h (j++jj) a1 v1 s1) (AllR h j s1) (.tup []):=by
 rw[← dS];refine Fin.keep ((bT ..).trans (bT ..).symm) ?_ (.tup _ (by simp)) ⟨rfl,a1,v1,ha,rfl⟩;rcases hq with⟨rfl,rfl,rfl⟩|rfl
 ·exact fun p k hk=>.inl hk
 ·exact j7 _ _ _ _ _ _ _
theorem nC(g:Outl→Bs)(l:List Outl)(hs:szs Outl.sz l≤1048576)(ih:∀o∈l,∀(h j:Heap) (a:AVal) (v:Nat) (s:Bs),bldA a h.length→s.length+(g o).length≤8388608→Sat (CT G) 100 [.hp h.length 0 0 0,.sl 3 (o.kids.map Outl.av)] (bldW h j a v s) (AllR h j (s++g o)))
  (h j:Heap)(a:AVal)(v:Nat)(s:Bs)(ha:bldA a h.length)(hB:s.length+(wrG g l).length≤8388608):Sat (CT G) 100 [.hp h.length 0 0 0,.sl 3 (l.map Outl.av)] (bldW h j a v s) (AllR h j (s++wrG g l)):=by
 have hlm:(l.map Outl.av).length=l.length:=N4 ..;have hll:=cE l;have F:=hlm
 skip
 refine sb [] Tryz.func100 ?_;intro Q hQ;refine wn F ?_;refine lm (fun nL tL hL=>∃(k u:Nat) (b:AVal) (jj:Heap),l.length-k=nL∧bldW h (j++jj) b u (s++wrG g (l.take k))=hL∧tL 8=.int .i64 k∧bldA b h.length∧(b=a∧u=v∧s++wrG g (l.take k)=s∨b=.hp h.length 0 0 0)∧k≤l.length) ((fun(k u:Nat) (b:AVal) (jj:Heap)=>(l.length-k:Nat)) (0) (v) (a) ([])) ?_ ?_
 ·refine M5 ⟨0,v,a,[],rfl,by simp[wrG],?_,ha,.inl ⟨rfl,rfl,by simp[wrG]⟩,by omega⟩;all_goals try exact zZz F
 rintro _ s2 h' ⟨k,u,b,jj,rfl,rfl,e8,hb,hq,hk⟩ K2 hK2;simp only[ak,am,Nat.reduceEqDiff, ↓reduceIte]at e8;have F:=F2 F e8;have hle:=lw g l k;have hle1:=lw g l (k+1);refine wn F ?_;refine cq F (fun c0=>?_) (fun c0=>?_)<;>(try exact c0.elim)<;>(refine wn F ?_)
 ·obtain⟨y,hy,hym⟩:=aj c0;have hyv:(l.map Outl.av)[k]? =some y.av:=by rw[M8,hy];rfl
  have nx:= @pG g l k y hy;have hys:=bJ Outl.sz hym;have hyz:=y.sz_eq;have h2:=cL y.title;have h3:=cL y.url;rw[nx,L4,L4,L4,mm]at hle1;have lq:q4.length=10:=rfl;have F:=F2 F hy;try refine sq F ?_
  refine wn F ?_;refine lL 7 (by kernel_rfl) ?_;refine sq F ?_;refine wn F ?_;refine aE (lu G y.title (by omega) _) ?_;try refine sq F ?_
  refine wn F ?_;refine kn F (yE G _ hb (by simp only[L4,L6,M4];omega)) ?_;refine cq F (fun c1=>?_) (fun c1=>?_)<;>(try exact c1.elim)<;>(refine wn F ?_)
  ·rw[L1 c1]at hle1;refine lL 7 (by kernel_rfl) ?_;refine sq F ?_;refine wn F ?_;refine aE (lu G y.url (by omega) _) ?_;(try refine sq F ?_);refine wn F ?_;refine kn F (yE G _ (.inr rfl) (by simp only[L4,L6,M4];omega)) ?_;refine kn F (yE G _ (.inr rfl) (by simp only[L4,L6,M4];omega)) ?_;rw[dS];refine(ih y hym h _ _ _ _ (.inr rfl) (by simp only[L4,L6,M4];omega)).mono ?_;rintro r h' ⟨rfl,a1,u1,ha1,rfl⟩;(try refine sq F ?_);refine wn F ?_;refine kn F (bI G a1 h _ u1 _ _ ha1 (by simp only[L4,L6,M4];omega)) ?_;refine hK2 _ _ _ (M5 ⟨k+1,u1+1,(.hp h.length 0 0 0),jj++[.row 55 3 0 [y.av]],rfl,by rw[nx];unfold opB;rw[L1 c1];simp[q1,q2,q3,q4],?_,.inr rfl,.inr rfl,by omega⟩) (by omega);all_goals try exact zZz F
  ·rw[L7 c1]at hle1;refine kn F (yE G _ (.inr rfl) (by simp only[L4,L6,M4];omega)) ?_;rw[dS];refine(ih y hym h _ _ _ _ (.inr rfl) (by simp only[L4,L6,M4];omega)).mono ?_;rintro r h' ⟨rfl,a1,u1,ha1,rfl⟩;(try refine sq F ?_);refine wn F ?_;refine kn F (bI G a1 h _ u1 _ _ ha1 (by simp only[L4,L6,M4];omega)) ?_;refine hK2 _ _ _ (M5 ⟨k+1,u1+1,(.hp h.length 0 0 0),jj++[.row 55 3 0 [y.av]],rfl,by rw[nx];unfold opB;rw[L7 c1];simp[q1,q2,q3,q4],?_,.inr rfl,.inr rfl,by omega⟩) (by omega);all_goals try exact zZz F
 ·have e:l.take k=l:=O1 (by omega);refine wn F ?_;refine ee hQ F ?_;rw[e]at hq ⊢;exact Aa hb hq
theorem yl:∀(f:Nat) (l:List Outl),cntN f l≤512→szs Outl.sz l≤1048576→∀(h j:Heap) (a:AVal) (v:Nat) (s:Bs),bldA a h.length→s.length+(wrF f l).length≤8388608→Sat (CT G) 100 [.hp h.length 0 0 0,.sl 3 (l.map Outl.av)] (bldW h j a v s) (AllR h j (s++wrF f l)):=by
 intro f;induction f with
 |zero=>
  intro l hc hs h j a v s ha hw;have e:=eD hc;subst e;exact nC G (fun _=>[]) [] hs (fun o ho=>by simp at ho) h j a v s ha hw
 |succ f ih=>
  intro l hc hs h j a v s ha hw;rw[iq]at hw ⊢;refine nC G _ l hs (fun o ho h j a v s ha hw=>?_) h j a v s ha hw;have h1:=bJ Outl.sz ho;have h2:=o.sz_eq;exact ih o.kids ((eE hc).1 o ho).2 (by omega) h j a v s ha hw
theorem Ab:∀(f d:Nat) (l:List Outl) (m:Int),d+f≤39→m≤700→0<ocntL l d m→OkN f l∧(l.length:Int)≤m-ocntL l d m:=by
 intro f;induction f with
 |zero=>
  intro d l;induction l with
  |nil=>intro m _ hm h;rw[ocntL];exact⟨OkN.nil 0,by simp⟩
  |cons o r ihr=>
   intro m hd hm h;rw[ocntL]at h ⊢;by_cases h0:0<m∧d<40
   ·rw[L7 h0]at h ⊢;have hb:=hD o d m;have he:=jU o d m;have hk:=(d7 o.kids (d+1) (m-1-(o.title.length/20:Nat)-(o.url.length/20:Nat))).2;obtain⟨h1,h2⟩:=ihr (ocntO o d m) hd (by omega) h;have h3:(o::r).length≤1000000:=(by simp only[L6];omega);exact⟨h3,by simp only[L6];omega⟩
   ·rw[L1 h0]at h;exact absurd ⟨h,by omega⟩ h0
 |succ f ih=>
  intro d l;induction l with
  |nil=>intro m _ hm h;rw[ocntL];exact⟨OkN.nil _,by simp⟩
  |cons o r ihr=>
   intro m hd hm h;rw[ocntL]at h ⊢;by_cases h0:0<m∧d<40
   ·rw[L7 h0]at h ⊢;have hb:=hD o d m;have he:=jU o d m;have hk:=(d7 o.kids (d+1) (m-1-(o.title.length/20:Nat)-(o.url.length/20:Nat))).2;have hr:=(d7 r d (ocntO o d m)).2;obtain⟨h1,h2⟩:=ihr (ocntO o d m) hd (by omega) h;have h3:=(ih (d+1) o.kids (m-1-(o.title.length/20:Nat)-(o.url.length/20:Nat)) (by omega) (by omega) (by omega)).1;refine⟨⟨by simp only[L6];omega,fun x hx=>?_⟩,by simp only[L6];omega⟩;rcases N0.1 hx with rfl|hx
    ·exact⟨by omega,by omega,h3⟩
    ·exact h1.2 x hx
   ·rw[L1 h0]at h;exact absurd ⟨h,by omega⟩ h0
theorem vQ{l:List Outl}(hc:okOl l=true):(wrF 8 l).length≤3000000∧szs Outl.sz l≤400000:=by
 have hc:=P7 hc;have h1:=vJ 8 l hc;have h2:=zZ 8 l;have h3:=rM 8 l hc;omega
theorem Ac{C:Ctx}{c:Code}{Q:Exit→Env→Heap→Prop}{t:Env}{h h':Heap}(e:h=h')(g:WP C c Q t h'):WP C c Q t h:=e▸g
theorem qK(l:List Outl)(hk:OkN 8 l)(hs:szs Outl.sz l≤1048576)(hw:okOl l=true→(wrF 8 l).length≤4000000)(h:Heap):
  Sat (CT G) 51 [.sl 3 (l.map Outl.av)] h (fun r h'=>r=.tup [.str (if okOl l then docF 8 l else []),.int .i64 (if okOl l then 0 else 130)]∧h'=h):=by
 refine sb [.tmp 2,.tmp 3] Tryz.func51 ?_;intro Q hQ;(repeat (first|refine w1 (fun K hK=>?_)|refine w2 ?_|refine w3 ?_| ((first|refine w4 ?_|refine wD ?_|refine w5 ?_|refine w6 ?_|refine w7 ?_);try refine sq trivial ?_)| (refine w8 ?_;refine sq trivial ?_;refine w9 ?_)| ((first|refine hK _ _ (w0 ?_)| (clear hK K;refine hK _ _ (w0 ?_))| (clear hK K;clear hK K;refine hK _ _ (w0 ?_)));clear hK K)))
 refine(jF G l hk _).mono ?_;rintro r h' ⟨rfl,hk_⟩;replace hk_:=hk_.symm;subst hk_;try refine sq trivial ?_
 (repeat (first|refine w1 (fun K hK=>?_)|refine w2 ?_|refine w3 ?_| ((first|refine w4 ?_|refine wD ?_|refine w5 ?_|refine w6 ?_|refine w7 ?_);try refine sq trivial ?_)| (refine w8 ?_;refine sq trivial ?_;refine w9 ?_)| ((first|refine hK _ _ (w0 ?_)| (clear hK K;refine hK _ _ (w0 ?_))| (clear hK K;clear hK K;refine hK _ _ (w0 ?_)));clear hK K)))
 cases hok:okOl l with
 |false=>
  try refine sq trivial ?_
  (repeat (first|refine w1 (fun K hK=>?_)|refine w2 ?_|refine w3 ?_| ((first|refine w4 ?_|refine wD ?_|refine w5 ?_|refine w6 ?_|refine w7 ?_);try refine sq trivial ?_)| (refine w8 ?_;refine sq trivial ?_;refine w9 ?_)| ((first|refine hK _ _ (w0 ?_)| (clear hK K;refine hK _ _ (w0 ?_))| (clear hK K;clear hK K;refine hK _ _ (w0 ?_)));clear hK K)))
  refine ye hQ trivial ?_;exact R1 (.tup _ (by intro c hc;simp at hc;rcases hc with rfl|rfl;exact .str _;exact .int _ _)) ⟨by rw[hok];rfl,rfl⟩
 |true=>
  have hwl:=hw hok;have hc:=P7 hok;try refine sq trivial ?_
  (repeat (first|refine w1 (fun K hK=>?_)|refine w2 ?_|refine w3 ?_| ((first|refine w4 ?_|refine wD ?_|refine w5 ?_|refine w6 ?_|refine w7 ?_);try refine sq trivial ?_)| (refine w8 ?_;refine sq trivial ?_;refine w9 ?_)))
  refine hK _ _ (M5 ?_);clear hK K;(repeat (first|refine w1 (fun K hK=>?_)|refine w2 ?_|refine w3 ?_| ((first|refine w4 ?_|refine wD ?_|refine w5 ?_|refine w6 ?_|refine w7 ?_);try refine sq trivial ?_)| (refine w8 ?_;refine sq trivial ?_;refine w9 ?_)))
  refine hK _ _ ⟨_,_,Z1 (p:=h.length) (v:=0) 5 1 (by omega) (by simp(disch:=first|omega| (simp only[go_sem, ↓reduceIte,seval];first|done|omega)|fail) only[go_sem, ↓reduceIte,seval];rfl) 1 rfl,?_⟩;clear hK K;refine Ac (h':=bldW h [] (.nil (.pointer none)) 0 []) aw ?_;(repeat (first|refine w1 (fun K hK=>?_)|refine w2 ?_|refine w3 ?_| ((first|refine w4 ?_|refine wD ?_|refine w5 ?_|refine w6 ?_|refine w7 ?_);try refine sq trivial ?_)| (refine w8 ?_;refine sq trivial ?_;refine w9 ?_)| ((first|refine hK _ _ (w0 ?_)| (clear hK K;refine hK _ _ (w0 ?_))| (clear hK K;clear hK K;refine hK _ _ (w0 ?_)));clear hK K)))
  refine(bI G (.nil (.pointer none)) h [] 0 [] _ (.inl rfl) (by simp)).mono ?_;rintro r h' ⟨rfl,rfl⟩;try refine sq trivial ?_
  (repeat (first|refine w1 (fun K hK=>?_)|refine w2 ?_|refine w3 ?_| ((first|refine w4 ?_|refine wD ?_|refine w5 ?_|refine w6 ?_|refine w7 ?_);try refine sq trivial ?_)| (refine w8 ?_;refine sq trivial ?_;refine w9 ?_)| ((first|refine hK _ _ (w0 ?_)| (clear hK K;refine hK _ _ (w0 ?_))| (clear hK K;clear hK K;refine hK _ _ (w0 ?_)));clear hK K)))
  refine(yl G 8 l hc hs h [] _ _ _ (.inr rfl) (by simp only[L4,L6,M4];omega)).mono ?_;rintro r h' ⟨rfl,a1,u1,ha1,rfl⟩;try refine sq trivial ?_
  (repeat (first|refine w1 (fun K hK=>?_)|refine w2 ?_|refine w3 ?_| ((first|refine w4 ?_|refine wD ?_|refine w5 ?_|refine w6 ?_|refine w7 ?_);try refine sq trivial ?_)| (refine w8 ?_;refine sq trivial ?_;refine w9 ?_)| ((first|refine hK _ _ (w0 ?_)| (clear hK K;refine hK _ _ (w0 ?_))| (clear hK K;clear hK K;refine hK _ _ (w0 ?_)));clear hK K)))
  refine(bI G a1 h [] u1 _ _ ha1 (by simp only[L4,L6,M4];omega)).mono ?_;rintro r h' ⟨rfl,rfl⟩;try refine sq trivial ?_
  (repeat (first|refine w1 (fun K hK=>?_)|refine w2 ?_|refine w3 ?_| ((first|refine w4 ?_|refine wD ?_|refine w5 ?_|refine w6 ?_|refine w7 ?_);try refine sq trivial ?_)| (refine w8 ?_;refine sq trivial ?_;refine w9 ?_)| ((first|refine hK _ _ (w0 ?_)| (clear hK K;refine hK _ _ (w0 ?_))| (clear hK K;clear hK K;refine hK _ _ (w0 ?_)));clear hK K)))
  refine(qJ G _ h [] _ _).mono ?_;rintro r h' ⟨rfl,b2,rfl⟩;try refine sq trivial ?_
  (repeat (first|refine w1 (fun K hK=>?_)|refine w2 ?_|refine w3 ?_| ((first|refine w4 ?_|refine wD ?_|refine w5 ?_|refine w6 ?_|refine w7 ?_);try refine sq trivial ?_)| (refine w8 ?_;refine sq trivial ?_;refine w9 ?_)| ((first|refine hK _ _ (w0 ?_)| (clear hK K;refine hK _ _ (w0 ?_))| (clear hK K;clear hK K;refine hK _ _ (w0 ?_)));clear hK K)))
  refine ye hQ trivial ?_;refine Y0 rfl (.tup _ (by intro c hc;simp at hc;rcases hc with rfl|rfl;exact .str _;exact .int _ _)) ⟨?_,rfl⟩;rw[hok,rV];simp[q5,q6,q7,q8]
end
end Go.Av
