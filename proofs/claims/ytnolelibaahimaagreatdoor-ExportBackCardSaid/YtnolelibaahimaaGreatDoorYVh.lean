/- Parts. -/
import Derived.Test.YtnolelibaahimaaGreatDoorYTl
set_option linter.unusedSimpArgs false
set_option linter.unusedVariables false
set_option linter.unusedSectionVars false
set_option linter.unnecessarySimpa false
set_option maxRecDepth 100000
set_option maxHeartbeats 16000000
namespace Go.Av
open Go Go.Proofs Go.RowKit
section
def nVer:Bs:=[118,101,114,115,105,111,110]
def q1:Bs:=[60,111,117,116,108,105,110,101,32,116,101,120,116,61,34]
def q2:Bs:=[34,32,120,109,108,85,114,108,61,34]
def q3:Bs:=[34,62]
def q4:Bs:=[60,47,111,117,116,108,105,110,101,62]
def q5:Bs:=[60,111,112,109,108,32,118,101,114,115,105,111,110,61,34,50,46,48,34,62]
def q6:Bs:=[60,98,111,100,121,62]
def q7:Bs:=[60,47,98,111,100,121,62]
def q8:Bs:=[60,47,111,112,109,108,62]
def opB(o:Outl):Bs:=q1++escF o.title++(if o.url=[]then []else q2++escF o.url)++q3
def opT(o:Outl):Tok:=(1,bOutline,(bText,o.title)::(if o.url=[]then []else [(bUrl,o.url)]),[])
def clT:Tok:=(2,bOutline,[],[])
def pcs:Nat→List Outl→List (Bs×Tok)
 |0,_=>[]
 |f+1,l=>l.flatMap fun o=>(opB o,opT o)::pcs f o.kids++[(q4,clT)]
def Pc(p:Bs×Tok):Prop:=p.1≠ []∧p.2.1≠3∧∀r,partF (p.1++r)=([p.2],r,false)
theorem iq(n r:Bs)(hn:nameW (n++62::r)=n)(hr:nameR (n++62::r)=62::r)(hb:badN n=false):partF (60::47::n++62::r)=([(2,n,[],[])],r,false):=by
 have e1:Lib.hasPrefix (60::47::n++62::r) p1=false:=rfl;have e2:Lib.hasPrefix (60::47::n++62::r) p2=false:=rfl;have e3:Lib.hasPrefix (60::47::n++62::r) p3=false:=rfl;have e4:Lib.hasPrefix (60::47::n++62::r) p4=false:=rfl;have e5:Lib.hasPrefix (60::47::n++62::r) p5=true:=rfl;have e6:Lib.trimPrefix (60::47::n++62::r) p5=n++62::r:=by unfold Lib.trimPrefix;rw[M7 e5];rfl
 unfold partF;rw[e1,e2,e3,e4,e5,e6];simp only[P0,if_false,if_true];have e7:(62::r:Bs).dropWhile blankB=62::r:=rfl;have e8:Lib.hasPrefix (62::r) [62]=true:=rfl;have e9:Lib.trimPrefix (62::r) [62]=r:=by unfold Lib.trimPrefix;rw[M7 e8];rfl
 unfold closeF;simp only[hn,hr,hb,e7,e8,e9];rfl
theorem fY(f:Nat)(n:Bs)(at_:List At)(r:Bs):openL (f+1) n at_ (62::r) false=([(1,n,at_,[])],r,false):=by
 have e7:(62::r:Bs).dropWhile blankB=62::r:=rfl;have e8:Lib.hasPrefix (62::r) [62]=true:=rfl;have e9:Lib.trimPrefix (62::r) [62]=r:=by unfold Lib.trimPrefix;rw[M7 e8];rfl
 rw[openL,e7,e8,e9];rfl
theorem ir(f:Nat)(n m v:Bs)(at_:List At)(r:Bs)(h1:(m++61::34::escF v++34::r).dropWhile blankB=m++61::34::escF v++34::r)(h2:Lib.hasPrefix (m++61::34::escF v++34::r) [62]=false)(h3:Lib.hasPrefix (m++61::34::escF v++34::r) [47,62]=false)
  (hn:nameW (m++61::34::escF v++34::r)=m)(hr:nameR (m++61::34::escF v++34::r)=61::34::escF v++34::r)(hb:badN m=false)(h4:(at_.any fun a=>a.1==m)=false)(h5:decide (32≤at_.length)=false):
  openL (f+1) n at_ (32::(m++61::34::escF v++34::r)) false=openL f n (at_++[(m,v)]) r false:=by
 have e7:(32::(m++61::34::escF v++34::r):Bs).dropWhile blankB=m++61::34::escF v++34::r:=h1;rw[openL,e7,h2,h3,vR m v r hn hr hb,h4,h5];rfl
theorem j7(n r:Bs)(c:UInt8)(h1:(c==33)=false)(h2:(c==63)=false)(h3:(c==47)=false):partF (60::c::n++r)=openF (c::n++r):=by
 have b1:((33:UInt8)==c)=false:=by rw[← h1];exact Bool.beq_comm
 have b2:((63:UInt8)==c)=false:=by rw[← h2];exact Bool.beq_comm
 have b3:((47:UInt8)==c)=false:=by rw[← h3];exact Bool.beq_comm
 have e1:Lib.hasPrefix (60::c::n++r) p1=false:=by simp[Lib.hasPrefix,p1,List.isPrefixOf,b1]
 have e2:Lib.hasPrefix (60::c::n++r) p2=false:=by simp[Lib.hasPrefix,p2,List.isPrefixOf,b2]
 have e3:Lib.hasPrefix (60::c::n++r) p3=false:=by simp[Lib.hasPrefix,p3,List.isPrefixOf,b1]
 have e4:Lib.hasPrefix (60::c::n++r) p4=false:=by simp[Lib.hasPrefix,p4,List.isPrefixOf,b1]
 have e5:Lib.hasPrefix (60::c::n++r) p5=false:=by simp[Lib.hasPrefix,p5,List.isPrefixOf,b3]
 have e6:Lib.hasPrefix (60::c::n++r) p6=true:=rfl;have e7:Lib.trimPrefix (60::c::n++r) p6=c::n++r:=by unfold Lib.trimPrefix;rw[M7 e6];rfl
 unfold partF;rw[e1,e2,e3,e4,e5,e6,e7];simp only[P0,if_false,if_true]
theorem vS(o:Outl)(r:Bs):partF (opB o++r)=([opT o],r,false):=by
 have key:∀u:Bs,openF (bOutline++32::(bText++61::34::escF o.title++34::u))=openL (bOutline++32::(bText++61::34::escF o.title++34::u)).length.succ.succ bOutline [(bText,o.title)] u false:=fun u=>by
  unfold openF;have a1:nameW (bOutline++32::(bText++61::34::escF o.title++34::u))=bOutline:=rfl;have a2:nameR (bOutline++32::(bText++61::34::escF o.title++34::u))=32::(bText++61::34::escF o.title++34::u):=rfl;have a3:badN bOutline=false:=rfl;rw[a1,a2,a3];exact ir _ bOutline bText o.title [] u rfl rfl rfl rfl rfl rfl rfl rfl
 have e0:∀v:Bs,partF (q1++v)=openF (bOutline++32::(bText++61::34::v)):=fun v=>j7 [117,116,108,105,110,101,32,116,101,120,116,61,34] v 111 rfl rfl rfl
 unfold opB opT;by_cases hu:o.url=[]
 ·rw[M7 hu,M7 hu,N8,O9,O9,e0];have e1:(escF o.title++(q3++r))=escF o.title++34::(62::r):=rfl;rw[e1];have:=key (62::r);simp only[Q2,O9]at this ⊢;rw[this];exact fY _ _ _ _
 ·rw[M1 hu,M1 hu];have e1:q1++escF o.title++(q2++escF o.url)++q3++r=q1++(escF o.title++34::(32::(bUrl++61::34::escF o.url++34::(62::r)))):=by simp[q2,q3,bUrl]
  rw[e1,e0];have:=key (32::(bUrl++61::34::escF o.url++34::(62::r)));simp only[Q2,O9]at this ⊢;rw[this];have h2:=ir (bOutline++32::(bText++61::34::escF o.title++34::(32::(bUrl++61::34::escF o.url++34::(62::r))))).length.succ bOutline bUrl o.url [(bText,o.title)] (62::r) rfl rfl rfl rfl rfl rfl rfl rfl;simp only[Q2,O9]at h2;rw[h2];exact fY _ _ _ _
theorem Ah(o:Outl):Pc (opB o,opT o):=⟨by simp[opB,q1],by simp[opT],fun r=>vS o r⟩
theorem yz:Pc (q4,clT):=⟨by simp[q4],by simp[clT],fun r=>iq bOutline r rfl rfl rfl⟩
theorem Bz:∀(f:Nat) (l:List Outl),∀p∈pcs f l,Pc p:=by
 intro f;induction f with
 |zero=>intro l p hp;simp[pcs]at hp
 |succ f ih=>
  intro l p hp;rw[pcs]at hp;obtain⟨o,_,hp⟩:=List.mem_flatMap.1 hp;simp only[Q6,O5,S8,or_false]at hp;rcases hp with(rfl|hp)|rfl
  ·exact Ah o
  ·exact ih _ p hp
  ·exact yz
theorem Ai:Pc (q5,(1,bOpml,[(nVer,[50,46,48])],[])):=⟨by simp[q5],by simp,fun r=>by
 have e0:partF (q5++r)=openF (bOpml++32::(nVer++61::34::escF [50,46,48]++34::(62::r))):=j7 [112,109,108,32,118,101,114,115,105,111,110,61,34,50,46,48,34,62] r 111 rfl rfl rfl;rw[e0];unfold openF;have a1:nameW (bOpml++32::(nVer++61::34::escF [50,46,48]++34::(62::r)))=bOpml:=rfl;have a2:nameR (bOpml++32::(nVer++61::34::escF [50,46,48]++34::(62::r)))=32::(nVer++61::34::escF [50,46,48]++34::(62::r)):=rfl;have a3:badN bOpml=false:=rfl;rw[a1,a2,a3,ir _ bOpml nVer [50,46,48] [] (62::r) rfl rfl rfl rfl rfl rfl rfl rfl];exact fY _ _ _ _⟩
theorem Aj:Pc (q6,(1,bBody,[],[])):=⟨by simp[q6],by simp,fun r=>by
 have e0:partF (q6++r)=openF (bBody++62::r):=j7 [111,100,121,62] r 98 rfl rfl rfl;rw[e0];unfold openF;have a1:nameW (bBody++62::r)=bBody:=rfl;have a2:nameR (bBody++62::r)=62::r:=rfl;have a3:badN bBody=false:=rfl;rw[a1,a2,a3];exact fY _ _ _ _⟩
theorem yA:Pc (q7,(2,bBody,[],[])):=⟨by simp[q7],by simp,fun r=>iq bBody r rfl rfl rfl⟩
theorem yB:Pc (q8,(2,bOpml,[],[])):=⟨by simp[q8],by simp,fun r=>iq bOpml r rfl rfl rfl⟩
theorem pu:∀(ps:List (Bs×Tok)) (f:Nat) (l:List Tok),(∀p∈ps,Pc p)→ps.length<f→l.length+ps.length≤8192→tksF f (ps.flatMap (·.1)) l=(l++ps.map (·.2),0)
 | [],f,l,_,hf,_=>by
  obtain⟨f,rfl⟩:∃k,f=k+1:=⟨f-1,by omega⟩;rw[zb0,tksF,M7 rfl];simp
 |p::ps,f,l,hp,hf,hl=>by
  simp only[M6]at hf hl;obtain⟨f,rfl⟩:∃k,f=k+1:=⟨f-1,by omega⟩;obtain⟨h1,h2,h3⟩:=hp p (Q0 ..);have hne:p.1++ps.flatMap (·.1)≠ []:=by simp[h1]
  have ha:[p.2].foldl addT l=l++[p.2]:=by show addT l p.2=_;unfold addT;rw[M1 h2]
  rw[R8,tksF,M1 hne,h3];simp only[P0,if_false,ha];rw[M1 (by simp;omega),pu ps f _ (fun q hq=>hp q (P3 _ hq)) (by omega) (by simp;omega)];simp
def docP(f:Nat)(l:List Outl):List (Bs×Tok):=(q5,(1,bOpml,[(nVer,[50,46,48])],[]))::(q6,(1,bBody,[],[]))::pcs f l++[(q7,(2,bBody,[],[])),(q8,(2,bOpml,[],[]))]
def docF(f:Nat)(l:List Outl):Bs:=(docP f l).flatMap (·.1)
theorem rN(f:Nat)(l:List Outl):∀p∈docP f l,Pc p:=by
 intro p hp;simp only[docP,Q6,O5,S8,or_false]at hp;rcases hp with(rfl|rfl|hp)|rfl|rfl
 ·exact Ai
 ·exact Aj
 ·exact Bz f l p hp
 ·exact yA
 ·exact yB
theorem pv:∀ps:List (Bs×Tok),(∀p∈ps,Pc p)→ps.length≤(ps.flatMap (·.1)).length
 | [],_=>by simp
 |p::ps,h=>by
  have h1:=pv ps fun q hq=>h q (P3 _ hq)
  have h2:=U4.2 (h p (Q0 ..)).1;rw[R8,M3,M6];omega
theorem vT(f:Nat)(l:List Outl)(h1:(docF f l).length≤65536)(h2:(docP f l).length≤8192):toksF (docF f l)=((docP f l).map (·.2),0):=by
 unfold toksF;rw[M1 (by omega)];have:=pu (docP f l) ((docF f l).length+1) [] (rN f l) (by have:=pv _ (rN f l);unfold docF;omega) (by simpa using h2);simpa [docF]using this
end
section
attribute [local irreducible] WP WPl WPix Sat
variable (G:Nat→Option (List AVal))
theorem Frz.outls{h:Heap}{n q v e:Nat}{l:List Outl}{len:Nat}{room:Bool}(hq:n≤q)(hg:getRow h q v=some (e,3,l.map Outl.av))(hlen:len=l.length):Frz h n (.hs q v 0 len room) (.sl 3 (l.map Outl.av)):=
 Frz.data hq hg (by simpa using hlen) (fun r hr=>by obtain⟨a,_,rfl⟩:=N5.1 hr;exact Outl.clo _ a) (fun r hr=>by obtain⟨a,_,rfl⟩:=N5.1 hr;exact a.av_sto)
theorem Ak(t u:Bs):WkR (.agg [.str t,.str u,.nil (.slice none 0 0)]) (.agg [.str t,.str u,.sl 3 []]):=by
 refine⟨rfl,fun j c d hc hd=>?_⟩
 match j with
 |0=>simp[AVal.cells]at hc hd;subst hc;subst hd;exact⟨Wk.refl _,id⟩
 |1=>simp[AVal.cells]at hc hd;subst hc;subst hd;exact⟨Wk.refl _,id⟩
 |2=>simp[AVal.cells]at hc hd;subst hc;subst hd;exact⟨Wk.nils 3,fun _=>rfl⟩
 |j+3=>simp[AVal.cells]at hc
theorem pw{e k:Elem}{d:Nat}(hd:deep e d≤32)(hk:k∈e.kids):d<40∧deep k (d+1)≤32:=by
 rw[dR]at hd;by_cases h40:40≤d
 ·rw[M7 h40]at hd;omega
 ·rw[M1 h40]at hd;have:=(hZ e.kids d d).2 k hk;omega
theorem pz{e k:Elem}{n:Bs}(h:k∈kidsF e n):k∈e.kids:=by unfold kidsF at h;exact(T4.1 h).1
theorem Al:∀(f d:Nat),f+d=41→∀(e:Elem) (_:deep e d≤32) (_:e.sz≤700000) (h:Heap),Sat (CT G) 107 [e.av] h (fun r h'=>r=.sl 3 ((ofF f e).map Outl.av)∧h'=h):=by
 intro f;induction f with
 |zero=>
  intro d hf e hd hs h;rw[dR,M7 (by omega)]at hd;omega
 |succ f ih=>
  intro d hf e hd hs h;have hks:=nt e bOutline;have hkin:∀k∈kidsF e bOutline,k∈e.kids:=fun k hk=>pz hk
  have hof:ofF (f+1) e=(kidsF e bOutline).filterMap (oneO (ofF f)):=rfl;refine sb [.tmp 2] Tryz.func107 ?_;intro Q hQ;(repeat (first|refine w1 (fun K hK=>?_)|refine w2 ?_|refine w3 ?_| ((first|refine w4 ?_|refine wD ?_|refine w5 ?_|refine w6 ?_|refine w7 ?_);try refine sq trivial ?_)| (refine w8 ?_;refine sq trivial ?_;refine w9 ?_)| (refine rq trivial ?_;try refine sq trivial ?_)| (refine vq trivial ?_;try refine sq trivial ?_)| ((first|refine hK _ _ (w0 ?_)| (clear hK K;refine hK _ _ (w0 ?_))| (clear hK K;clear hK K;refine hK _ _ (w0 ?_)));clear hK K)))
  refine(nk G e bOutline (by omega) _).mono ?_;rintro r h' ⟨rfl,hk_⟩;replace hk_:=hk_.symm;subst hk_;try refine sq trivial ?_
  (repeat (first|refine w1 (fun K hK=>?_)|refine w2 ?_|refine w3 ?_| ((first|refine w4 ?_|refine wD ?_|refine w5 ?_|refine w6 ?_|refine w7 ?_);try refine sq trivial ?_)| (refine w8 ?_;refine sq trivial ?_;refine w9 ?_)| (refine rq trivial ?_;try refine sq trivial ?_)| (refine vq trivial ?_;try refine sq trivial ?_)| ((first|refine hK _ _ (w0 ?_)| (clear hK K;refine hK _ _ (w0 ?_))| (clear hK K;clear hK K;refine hK _ _ (w0 ?_)));clear hK K)))
  have hkl:=bY Elem.sz Elem.sz_pos (kidsF e bOutline);rw[hof]at hQ;clear hof;generalize kidsF e bOutline=l at*;have hlm:(l.map Elem.av).length=l.length:=O0 ..;have F:=hlm;refine lm (fun nL tL hL=>∃(k v:Nat) (acc:List Outl) (hh:Heap),l.length-k=nL∧hh=hL∧tL 3=.hs (h.length+1) v 0 acc.length true∧tL 10=.int .i64 k∧k≤l.length∧acc.length≤k∧acc++(l.drop k).filterMap (oneO (ofF f))=l.filterMap (oneO (ofF f))∧(FrN h.length h hh∧h.length+1<hh.length)∧getRow hh (h.length+1) v=some (55,3,acc.map Outl.av)) ((fun(k v:Nat) (acc:List Outl) (hh:Heap)=>(l.length-k:Nat)) (0) (0) ([]) (h++[.row 171 4 0 [e.av],.row 55 3 0 []])) ?_ ?_
  ·refine⟨_,_,Weak.virt 3 55 3 (by simp) (by omega) (by exact zq F),⟨0,0,[],h++[.row 171 4 0 [e.av],.row 55 3 0 []],rfl,aw,?_,?_,by omega,by simp,rfl,⟨zb7 _ (by omega) (zb6 _ _),by simp⟩,by rw[bZ _ rfl];rfl⟩⟩;all_goals try exact zZz F
  rintro _ s2 h' ⟨k,v,acc,hh,rfl,rfl,e3,e10,hk,hl,hp,hf,hg⟩ K2 hK2;simp only[aj,am,Nat.reduceEqDiff, ↓reduceIte]at e3 e10;have F:=F3 F e3 e10;(repeat (first|refine w1 (fun K hK=>?_)|refine w2 ?_|refine w3 ?_| ((first|refine w4 ?_|refine wD ?_|refine w5 ?_|refine w6 ?_|refine w7 ?_);try refine sq F ?_)| (refine w8 ?_;refine sq F ?_;refine w9 ?_)| (refine rq F ?_;try refine sq F ?_)| (refine vq F ?_;try refine sq F ?_)| ((first|refine hK _ _ (w0 ?_)| (clear hK K;refine hK _ _ (w0 ?_))| (clear hK K;clear hK K;refine hK _ _ (w0 ?_)));clear hK K)))
  obtain⟨hfr,hfl⟩:=hf;refine cq F (fun c1=>?_) (fun c1=>?_)<;>(try exact c1.elim)<;>((repeat (first|refine w1 (fun K hK=>?_)|refine w2 ?_|refine w3 ?_| ((first|refine w4 ?_|refine wD ?_|refine w5 ?_|refine w6 ?_|refine w7 ?_);try refine sq F ?_)| (refine w8 ?_;refine sq F ?_;refine w9 ?_)| (refine rq F ?_;try refine sq F ?_)| (refine vq F ?_;try refine sq F ?_)| ((first|refine hK _ _ (w0 ?_)| (clear hK K;refine hK _ _ (w0 ?_))| (clear hK K;clear hK K;refine hK _ _ (w0 ?_)));clear hK K))))
  ·obtain⟨y,hy,hym⟩:=ak c1;have hyv:(l.map Elem.av)[k]? =some y.av:=(by rw[O2,hy];rfl);have hys:=Elem.kid_sz (hkin y hym);have hyd:=pw hd (hkin y hym);have hul:=rI y;rw[aI hy,List.filterMap_cons]at hp;have hg1:∀j:Heap,getRow (hh++j) (h.length+1) v=some (55,3,acc.map Outl.av):=fun j=>by rw[bq _ (by omega)];exact hg
   have hs1:∀(j:Heap) (b:Blk),(hh++j).set (h.length+1) b=hh.set (h.length+1) b++j:=fun j b=>oP b (by omega)
   have F:=F4 F hy hg1 hs1;(try refine sq F ?_);(repeat (first|refine w1 (fun K hK=>?_)|refine w2 ?_|refine w3 ?_| ((first|refine w4 ?_|refine wD ?_|refine w5 ?_|refine w6 ?_|refine w7 ?_);try refine sq F ?_)| (refine w8 ?_;refine sq F ?_;refine w9 ?_)| (refine rq F ?_;try refine sq F ?_)| (refine vq F ?_;try refine sq F ?_)| ((first|refine hK _ _ (w0 ?_)| (clear hK K;refine hK _ _ (w0 ?_))| (clear hK K;clear hK K;refine hK _ _ (w0 ?_)));clear hK K)))
   refine(iu G y bUrl 512 (by omega) (by omega) _).mono ?_;rintro r h' ⟨rfl,rfl⟩;(try refine sq F ?_);(repeat (first|refine w1 (fun K hK=>?_)|refine w2 ?_|refine w3 ?_| ((first|refine w4 ?_|refine wD ?_|refine w5 ?_|refine w6 ?_|refine w7 ?_);try refine sq F ?_)| (refine w8 ?_;refine sq F ?_;refine w9 ?_)| (refine rq F ?_;try refine sq F ?_)| (refine vq F ?_;try refine sq F ?_)))
   refine hK _ _ ⟨_,_,Weak.rows (p:=hh.length+1) (v:=0) (e:=55) (m:=3) (rows:=[.agg [.str [],.str (attrS y bUrl 512),.nil (.slice none 0 0)]]) [.agg [.str [],.str (attrS y bUrl 512),.sl 3 []]] (by rw[bZ _ rfl];rfl) rfl (fun i r s h1 h2=>?_),?_⟩
   ·match i with
    |0=>simp at h1 h2;subst h1;subst h2;exact Ak _ _
    |i+1=>simp at h1
   clear hK K;rw[kZ _ rfl];simp only[List.set_cons_succ,List.set_cons_zero];(repeat (first|refine w1 (fun K hK=>?_)|refine w2 ?_|refine w3 ?_| ((first|refine w4 ?_|refine wD ?_|refine w5 ?_|refine w6 ?_|refine w7 ?_);try refine sq F ?_)| (refine w8 ?_;refine sq F ?_;refine w9 ?_)| (refine rq F ?_;try refine sq F ?_)| (refine vq F ?_;try refine sq F ?_)| ((first|refine hK _ _ (w0 ?_)| (clear hK K;refine hK _ _ (w0 ?_))| (clear hK K;clear hK K;refine hK _ _ (w0 ?_)));clear hK K)))
   refine aG (iu G y bText 256 (by omega) (by omega) _) ?_;(try refine sq F ?_);(repeat (first|refine w1 (fun K hK=>?_)|refine w2 ?_|refine w3 ?_| ((first|refine w4 ?_|refine wD ?_|refine w5 ?_|refine w6 ?_|refine w7 ?_);try refine sq F ?_)| (refine w8 ?_;refine sq F ?_;refine w9 ?_)| (refine rq F ?_;try refine sq F ?_)| (refine vq F ?_;try refine sq F ?_)| ((first|refine hK _ _ (w0 ?_)| (clear hK K;refine hK _ _ (w0 ?_))| (clear hK K;clear hK K;refine hK _ _ (w0 ?_)));clear hK K)))
   refine aG (iu G y bTitle 256 (by omega) (by omega) _) ?_;(try refine sq F ?_);(repeat (first|refine w1 (fun K hK=>?_)|refine w2 ?_|refine w3 ?_| ((first|refine w4 ?_|refine wD ?_|refine w5 ?_|refine w6 ?_|refine w7 ?_);try refine sq F ?_)| (refine w8 ?_;refine sq F ?_;refine w9 ?_)| (refine rq F ?_;try refine sq F ?_)| (refine vq F ?_;try refine sq F ?_)| ((first|refine hK _ _ (w0 ?_)| (clear hK K;refine hK _ _ (w0 ?_))| (clear hK K;clear hK K;refine hK _ _ (w0 ?_)));clear hK K)))
   refine aG (jI G (attrS y bUrl 512) 256 (by omega) (by omega) _) ?_;(try refine sq F ?_);(repeat (first|refine w1 (fun K hK=>?_)|refine w2 ?_|refine w3 ?_| ((first|refine w4 ?_|refine wD ?_|refine w5 ?_|refine w6 ?_|refine w7 ?_);try refine sq F ?_)| (refine w8 ?_;refine sq F ?_;refine w9 ?_)| (refine rq F ?_;try refine sq F ?_)| (refine vq F ?_;try refine sq F ?_)| ((first|refine hK _ _ (w0 ?_)| (clear hK K;refine hK _ _ (w0 ?_))| (clear hK K;clear hK K;refine hK _ _ (w0 ?_)));clear hK K)))
   refine aG (BA G (attrS y bText 256) (attrS y bTitle 256) (shortF (attrS y bUrl 512) 256) _) ?_;(try refine sq F ?_);(repeat (first|refine w1 (fun K hK=>?_)|refine w2 ?_|refine w3 ?_| ((first|refine w4 ?_|refine wD ?_|refine w5 ?_|refine w6 ?_|refine w7 ?_);try refine sq F ?_)| (refine w8 ?_;refine sq F ?_;refine w9 ?_)| (refine rq F ?_;try refine sq F ?_)| (refine vq F ?_;try refine sq F ?_)| ((first|refine hK _ _ (w0 ?_)| (clear hK K;refine hK _ _ (w0 ?_))| (clear hK K;clear hK K;refine hK _ _ (w0 ?_)));clear hK K)))
   have htit:orF (attrS y bText 256) (attrS y bTitle 256) (shortF (attrS y bUrl 512) 256)=titF y:=rfl;rw[htit];have put:∀(o:Outl) (B:Blk),FrN h.length h (hh.set (h.length+1) (.row 55 3 (v+1) ((acc++[o]).map Outl.av))++[.row 171 4 0 [y.av],B])∧h.length+1<(hh.set (h.length+1) (.row 55 3 (v+1) ((acc++[o]).map Outl.av))++[.row 171 4 0 [y.av],B]).length:=fun o B=>
    ⟨zb7 _ (by simp;omega) (zb8 _ (by omega) hfr),by simp;omega⟩
   have put2:∀(o:Outl) (B:Blk),getRow (hh.set (h.length+1) (.row 55 3 (v+1) ((acc++[o]).map Outl.av))++[.row 171 4 0 [y.av],B]) (h.length+1) (v+1)=some (55,3,(acc++[o]).map Outl.av):=fun o B=>by
    rw[bq _ (by simp;omega),bV _ _ _ _ _ (by omega)];simp
   refine cq F (fun c2=>?_) (fun c2=>?_)<;>(try exact c2.elim)<;>((repeat (first|refine w1 (fun K hK=>?_)|refine w2 ?_|refine w3 ?_| ((first|refine w4 ?_|refine wD ?_|refine w5 ?_|refine w6 ?_|refine w7 ?_);try refine sq F ?_)| (refine w8 ?_;refine sq F ?_;refine w9 ?_)| (refine rq F ?_;try refine sq F ?_)| (refine vq F ?_;try refine sq F ?_)| ((first|refine hK _ _ (w0 ?_)| (clear hK K;refine hK _ _ (w0 ?_))| (clear hK K;clear hK K;refine hK _ _ (w0 ?_)));clear hK K))))
   ·have ho:oneO (ofF f) y=none:=(by unfold oneO;rw[M7 c2]);rw[ho]at hp;refine hK2 _ _ _ (N6 ⟨k+1,v,acc,hh++[.row 171 4 0 [y.av],.row 55 3 0 [.agg [.str (titF y),.str (attrS y bUrl 512),.sl 3 []]]],rfl,aw,?_,?_,by omega,by omega,hp,⟨zb7 _ (by omega) hfr,by simp;omega⟩,hg1 _⟩) (by omega);all_goals try exact zZz F
   ·refine cq F (fun c3=>?_) (fun c3=>?_)<;>(try exact c3.elim)<;>((repeat (first|refine w1 (fun K hK=>?_)|refine w2 ?_|refine w3 ?_| ((first|refine w4 ?_|refine wD ?_|refine w5 ?_|refine w6 ?_|refine w7 ?_);try refine sq F ?_)| (refine w8 ?_;refine sq F ?_;refine w9 ?_)| (refine rq F ?_;try refine sq F ?_)| (refine vq F ?_;try refine sq F ?_)| ((first|refine hK _ _ (w0 ?_)| (clear hK K;refine hK _ _ (w0 ?_))| (clear hK K;clear hK K;refine hK _ _ (w0 ?_)));clear hK K))))
    ·have ho:oneO (ofF f) y=some ⟨titF y,attrS y bUrl 512,ofF f y⟩:=(by unfold oneO;rw[M1 c2,M7 c3]);rw[ho]at hp;refine(ih (d+1) (by omega) y hyd.2 (by omega) _).mono ?_;rintro r h' ⟨rfl,rfl⟩;(try refine sq F ?_);(repeat (first|refine w1 (fun K hK=>?_)|refine w2 ?_|refine w3 ?_| ((first|refine w4 ?_|refine wD ?_|refine w5 ?_|refine w6 ?_|refine w7 ?_);try refine sq F ?_)| (refine w8 ?_;refine sq F ?_;refine w9 ?_)| (refine rq F ?_;try refine sq F ?_)| (refine vq F ?_;try refine sq F ?_)| ((first|refine hK _ _ (w0 ?_)| (clear hK K;refine hK _ _ (w0 ?_))| (clear hK K;clear hK K;refine hK _ _ (w0 ?_)));clear hK K)))
     refine aq F ?_;(try refine sq F ?_);(repeat (first|refine w1 (fun K hK=>?_)|refine w2 ?_|refine w3 ?_| ((first|refine w4 ?_|refine wD ?_|refine w5 ?_|refine w6 ?_|refine w7 ?_);try refine sq F ?_)| (refine w8 ?_;refine sq F ?_;refine w9 ?_)| (refine rq F ?_;try refine sq F ?_)| (refine vq F ?_;try refine sq F ?_)| ((first|refine hK _ _ (w0 ?_)| (clear hK K;refine hK _ _ (w0 ?_))| (clear hK K;clear hK K;refine hK _ _ (w0 ?_)));clear hK K)))
     refine hK2 _ _ _ (N6 ⟨k+1,v+1,acc++[⟨titF y,attrS y bUrl 512,ofF f y⟩],hh.set (h.length+1) (.row 55 3 (v+1) ((acc++[Outl.mk (titF y) (attrS y bUrl 512) (ofF f y)]).map Outl.av))++[.row 171 4 0 [y.av],.row 55 3 0 [.agg [.str (titF y),.str (attrS y bUrl 512),.sl 3 ((ofF f y).map Outl.av)]]],rfl,by simp[Outl.av_eq,Outl.title,Outl.url,Outl.kids],?_,?_,by omega,by simp;omega,by rw[← hp];simp,put _ _,put2 _ _⟩) (by omega);all_goals try exact zZz F
    ·have ho:oneO (ofF f) y=some ⟨titF y,attrS y bUrl 512,[]⟩:=(by unfold oneO;rw[M1 c2,M1 c3]);rw[ho]at hp;refine aq F ?_;(try refine sq F ?_);(repeat (first|refine w1 (fun K hK=>?_)|refine w2 ?_|refine w3 ?_| ((first|refine w4 ?_|refine wD ?_|refine w5 ?_|refine w6 ?_|refine w7 ?_);try refine sq F ?_)| (refine w8 ?_;refine sq F ?_;refine w9 ?_)| (refine rq F ?_;try refine sq F ?_)| (refine vq F ?_;try refine sq F ?_)| ((first|refine hK _ _ (w0 ?_)| (clear hK K;refine hK _ _ (w0 ?_))| (clear hK K;clear hK K;refine hK _ _ (w0 ?_)));clear hK K)))
     refine hK2 _ _ _ (N6 ⟨k+1,v+1,acc++[⟨titF y,attrS y bUrl 512,[]⟩],hh.set (h.length+1) (.row 55 3 (v+1) ((acc++[Outl.mk (titF y) (attrS y bUrl 512) []]).map Outl.av))++[.row 171 4 0 [y.av],.row 55 3 0 [.agg [.str (titF y),.str (attrS y bUrl 512),.sl 3 []]]],rfl,by simp[Outl.av_eq,Outl.title,Outl.url,Outl.kids],?_,?_,by omega,by simp;omega,by rw[← hp];simp,put _ _,put2 _ _⟩) (by omega);all_goals try exact zZz F
  ·rw[aL c1,List.filterMap_nil,N8]at hp;(repeat (first|refine w1 (fun K hK=>?_)|refine w2 ?_|refine w3 ?_| ((first|refine w4 ?_|refine wD ?_|refine w5 ?_|refine w6 ?_|refine w7 ?_);try refine sq F ?_)| (refine w8 ?_;refine sq F ?_;refine w9 ?_)| (refine rq F ?_;try refine sq F ?_)| (refine vq F ?_;try refine sq F ?_)| ((first|refine hK _ _ (w0 ?_)| (clear hK K;refine hK _ _ (w0 ?_))| (clear hK K;clear hK K;refine hK _ _ (w0 ?_)));clear hK K)))
   refine ee hQ F ?_;rw[← hp];obtain⟨j,hj⟩:=hfr.split (by omega);have hg2:getRow (h++j) (h.length+1) v=some (55,3,acc.map Outl.av):=(by rw[← hj];exact hg);rw[hj];exact Fin.frz (Frz.outls (by omega) hg2 rfl) ⟨rfl,rfl⟩
theorem pB(g:List Outl→Nat)(b:Nat)(hb:1≤b)(hg:∀l,g l≤b):∀(t:List Outl) (a:Nat),a≤512→cntGo g t a≤512+b
 | [],a,h=>by rw[cntGo];omega
 |o::t,a,h=>by
  rw[cntGo];split
  ·split
   ·have:=hg o.kids;omega
   ·exact pB g b hb hg t _ (by omega)
  ·omega
theorem mr:∀(f:Nat) (l:List Outl),cntN f l≤513+512*f:=by
 intro f;induction f with
 |zero=>intro l;rw[cntN];split<;>omega
 |succ f ih=>
  intro l;rw[cntN];split
  ·omega
  ·have:=pB (cntN f) (513+512*f) (by omega) ih l l.length (by omega);omega
def OkN:Nat→List Outl→Prop
 |0,l=>l.length≤1000000
 |f+1,l=>l.length≤1000000∧∀o∈l,o.title.length≤100000∧o.url.length≤100000∧OkN f o.kids
theorem rO(f:Nat)(e:Elem):(ofF f e).length≤e.sz:=by
 cases f with
 |zero=>exact V8 _
 |succ f=>
  have h1:=List.length_filterMap_le (oneO (ofF f)) (kidsF e bOutline);have h2:=bY Elem.sz Elem.sz_pos (kidsF e bOutline);have h3:=nt e bOutline;show((kidsF e bOutline).filterMap (oneO (ofF f))).length≤_;omega
theorem OkN.nil:∀f:Nat,OkN f []:=fun f=>by cases f with|zero=>exact V8 _|succ f=>exact⟨V8 _,fun o ho=>by cases ho⟩
theorem BB:∀(g f:Nat) (e:Elem),e.sz≤1000000→OkN g (ofF f e):=by
 intro g;induction g with
 |zero=>intro f e he;have:=rO f e;show _≤_;omega
 |succ g ih=>
  intro f e he;have hl:=rO f e;refine⟨by omega,fun o ho=>?_⟩;cases f with
  |zero=>cases ho
  |succ f=>
   obtain⟨k,hk,hko⟩:=List.mem_filterMap.1 ho;have h1:=Elem.kid_sz (pz hk);have h2:=yq k;have h3:=rI k;unfold oneO at hko;by_cases h0:titF k=[]
   ·rw[M7 h0]at hko;cases hko
   ·rw[M1 h0]at hko;cases hko;refine⟨by show(titF k).length≤_;omega,by show(attrS k bUrl 512).length≤_;omega,?_⟩;show OkN g (if attrS k bUrl 512=[]then ofF f k else []);by_cases h4:attrS k bUrl 512=[]
    ·rw[M7 h4];exact ih f k (by omega)
    ·rw[M1 h4];exact OkN.nil g
theorem iv(f:Nat):cntN f []=0:=by cases f<;>rfl
theorem lB(f d:Nat)(h:Heap):Sat (CT G) 59 [.sl 3 (([]:List Outl).map Outl.av),.int .i64 d] h (fun r h'=>r=.int .i64 (cntN f [])∧h'=h):=by
 rw[iv];refine sb [.tmp 4] Tryz.func59 ?_;intro Q hQ;refine wk trivial ?_;refine lm (fun nL tL hL=>∃(k:Nat),0=nL∧h=hL∧tL 5=.int .i64 0∧tL 22=.int .i64 k∧k=0) ((fun(k:Nat)=>(0:Nat)) (0)) ?_ ?_
 ·refine N6 ⟨0,rfl,aw,?_,?_,rfl⟩;all_goals try exact zZz trivial
 rintro _ s2 h' ⟨k,rfl,rfl,e5,e22,hk⟩ K2 hK2;simp only[aj,am,Nat.reduceEqDiff, ↓reduceIte]at e5 e22;have F:=F2 e5 e22;subst hk;refine wk F ?_;refine ee hQ F ?_;refine fR (.int _ _) ?_;rfl
theorem lC:∀(f d:Nat),f+d=9→∀(l:List Outl) (_:OkN f l) (h:Heap),Sat (CT G) 59 [.sl 3 (l.map Outl.av),.int .i64 d] h (fun r h'=>r=.int .i64 (cntN f l)∧h'=h):=by
 intro f;induction f with
 |zero=>
  intro d hf l hs h;by_cases hl0:l=[]
  ·subst hl0;exact lB G 0 d h
  have hlp:=U4.2 hl0;have hlm:(l.map Outl.av).length=l.length:=O0 ..;have f1:decide ((l.length:Int)>0)=true:=by rw[decide_eq_true_iff];omega
  have f2:decide ((d:Int)>8)=true:=by rw[decide_eq_true_iff];omega
  have F:=F3 hlm f1 f2;refine sb [.tmp 4] Tryz.func59 ?_;intro Q hQ;refine wk F ?_;refine ee hQ F ?_;refine fR (.int _ _) ?_;rw[cntN,M1 hl0];rfl
 |succ f ih=>
  intro d hf l hs h;by_cases hl0:l=[]
  ·subst hl0;exact lB G (f+1) d h
  have hlp:=U4.2 hl0;have hlm:(l.map Outl.av).length=l.length:=O0 ..;have hll:=hs.1;have f1:decide ((l.length:Int)>0)=true:=by rw[decide_eq_true_iff];omega
  have f2:decide ((d:Int)>8)=false:=by rw[decide_eq_false_iff_not];omega
  by_cases hl:512<l.length
  ·have f3:decide ((l.length:Int)>512)=true:=(by rw[decide_eq_true_iff];omega);have F:=F4 hlm f1 f2 f3;refine sb [.tmp 4] Tryz.func59 ?_;intro Q hQ;refine wk F ?_;refine ee hQ F ?_;refine fR (.int _ _) ?_;rw[cntN,M7 hl];rfl
  have f3:decide ((l.length:Int)>512)=false:=by rw[decide_eq_false_iff_not];omega
  rw[cntN,M1 hl];have F:=F4 hlm f1 f2 f3;refine sb [.tmp 4] Tryz.func59 ?_;intro Q hQ;refine wk F ?_;refine lm (fun nL tL hL=>∃(k a:Nat) (jj:Heap),l.length-k=nL∧h++jj=hL∧tL 5=.int .i64 a∧tL 22=.int .i64 k∧k≤l.length∧a≤512∧cntGo (cntN f) (l.drop k) a=cntGo (cntN f) l l.length) ((fun(k a:Nat) (jj:Heap)=>(l.length-k:Nat)) (0) (l.length) ([])) ?_ ?_
  ·refine N6 ⟨0,l.length,[],rfl,aw,?_,?_,by omega,by omega,rfl⟩;all_goals try exact zZz F
  rintro _ s2 h' ⟨k,a,jj,rfl,rfl,e5,e22,hk,ha,hp⟩ K2 hK2;simp only[aj,am,Nat.reduceEqDiff, ↓reduceIte]at e5 e22;have F:=F3 F e5 e22;refine wk F ?_;refine cq F (fun c1=>?_) (fun c1=>?_)<;>(try exact c1.elim)<;>(refine wk F ?_)
  ·obtain⟨y,hy,hym⟩:=ak c1;have hyo:=hs.2 y hym;have hcl:=mr f y.kids;rw[aI hy,cntGo]at hp;have F:=F2 F hy;(try refine sq F ?_);refine wk F ?_;refine kq F (vU G y hyo.1 hyo.2.1 _) ?_;refine cq F (fun c2=>?_) (fun c2=>?_)<;>(try exact c2.elim)<;>(refine wk F ?_)
   ·rw[M1 (by simp[c2])]at hp;refine ee hQ F ?_;refine fR (.int _ _) ?_;rw[← hp];rfl
   ·rw[M7 c2]at hp;refine kq F (ih (d+1) (by omega) y.kids hyo.2.2 _) ?_;refine cq F (fun c3=>?_) (fun c3=>?_)<;>(try exact c3.elim)<;>(refine wk F ?_)
    ·rw[M7 (by omega)]at hp;refine ee hQ F ?_;refine fR (.int _ _) ?_;rw[← hp];rfl
    ·rw[M1 (by omega)]at hp;refine hK2 _ _ _ (N6 ⟨k+1,a+cntN f y.kids,jj++[.row 55 3 0 [y.av]],rfl,by simp,?_,?_,by omega,by omega,hp⟩) (by omega);all_goals try exact zZz F
  ·rw[aL c1,cntGo]at hp;refine wk F ?_;refine ee hQ F ?_;refine fR (.int _ _) ?_;rw[hp]
def okOl(l:List Outl):Bool:=decide (cntN 8 l≤512)
theorem gg(l:List Outl)(hl:OkN 8 l)(h:Heap):Sat (CT G) 31 [.sl 3 (l.map Outl.av)] h (fun r h'=>r=.int .i64 (if okOl l then 0 else 130)∧h'=h):=by
 have hc:=mr 8 l;refine sb [.tmp 2] Tryz.func31 ?_;intro Q hQ;refine wk trivial ?_;refine kq trivial (lC G 8 1 (by omega) l hl _) ?_;refine cq trivial (fun c1=>?_) (fun c1=>?_)<;>(try exact c1.elim)<;>(refine wk trivial ?_)
 ·refine ee hQ trivial ?_;refine fR (.int _ _) ?_;rw[M1 (by unfold okOl;simp;omega)]
 ·refine ee hQ trivial ?_;refine fR (.int _ _) ?_;rw[M7 (by unfold okOl;simp;omega)]
theorem vV:∀(n d:Nat),d+n=40→∀e:Elem,deep e (d+1)≤32→deep e d≤32:=by
 intro n;induction n with
 |zero=>intro d hd e he;rw[dR,M7 (by omega)]at he;omega
 |succ n ih=>
  intro d hd e he;have h40:¬40≤d+1:=fun h=>by rw[dR,M7 h]at he;omega
  rw[dR,M1 h40]at he;have h2:=hZ e.kids (d+1) (d+1);rw[dR,M1 (by omega)];exact kj _ _ _ (by omega) fun k hk=>ih (d+1) (by omega) k (by have:=h2.2 k hk;omega)
theorem nC(g:List Outl→Nat)(hg:∀l,g l≤512→szs Outl.sz l≤769*g l):∀(t:List Outl) (a:Nat),t.length≤a→cntGo g t a≤512→szs Outl.sz t+769*(a-t.length)≤769*cntGo g t a
 | [],a,_,_=>by simp[szs,cntGo]
 |o::t,a,ha,h=>by
  rw[cntGo]at h ⊢;simp only[M6]at ha ⊢;by_cases hk:oneOk o=true
  ·rw[M7 hk]at h ⊢;by_cases h5:512<a+g o.kids
   ·rw[M7 h5]at h;omega
   ·rw[M1 h5]at h ⊢;have h1:=nC g hg t (a+g o.kids) (by omega) h;have h2:=hg o.kids (by omega);have h3:=o.sz_eq;unfold oneOk textO at hk;simp only[M2,M8]at hk;have h4:=hk.1.1.2.1.1;have h6:=hk.1.2.1.1;rw[szs];omega
  ·rw[M1 hk]at h;omega
theorem vW:∀(f:Nat) (l:List Outl),cntN f l≤512→szs Outl.sz l≤769*cntN f l:=by
 intro f;induction f with
 |zero=>
  intro l h;rw[cntN]at h ⊢;by_cases hl:l=[]
  ·subst hl;simp[szs]
  ·rw[M1 hl]at h;omega
 |succ f ih=>
  intro l h;rw[cntN]at h ⊢;by_cases hl:512<l.length
  ·rw[M7 hl]at h;omega
  ·rw[M1 hl]at h ⊢;have:=nC (cntN f) ih l l.length (N3 _) h;omega
def rdO(e:Elem):List Outl:=ofF 40 (kidF e bBody).1
def goodO(e:Elem):Bool:=(kidF e bBody).2&&decide (short e.name=bOpml)&&okOl (rdO e)
def rdF(s:Bs):List Outl×Int:=
 if prsC s=0 then
  match bldF (toksF s).1 with
  |none=>([],0)
  |some e=>if goodO e then(rdO e,0)else([],130)
 else([],prsC s)
def RdO(h:Heap)(s:Bs)(r:AVal)(h':Heap):Prop:=r=.tup [.sl 3 ((rdF s).1.map Outl.av),.int .i64 (rdF s).2]∧h'=h
theorem HO{s:Bs}(h:prsC s=0):∃y,bldF (toksF s).1=some y:=by
 unfold prsC at h;by_cases c0:(toksF s).2=0
 ·rw[M7 c0]at h;cases hb:bldF (toksF s).1 with
  |none=>rw[hb]at h;exact absurd h (by decide)
  |some y=>exact⟨y,rfl⟩
 ·rw[M1 c0]at h;exact absurd h c0
theorem RdO.bad{h:Heap}{s:Bs}(j:Heap)(c:Int)(e:rdF s=([],c)):Fin h (h++j) (RdO h s) (.tup [.nil (.slice none 0 0),.int .i64 c]):=by
 refine Fin.frz (FrzL.tup (.cons (.nils 3) (.cons (.clo _ (.int _ _)) .nil))) ⟨?_,rfl⟩;rw[e];rfl
theorem Am{s:Bs}(h:prsC s≠0):rdF s=([],prsC s):=by unfold rdF;rw[M1 h]
theorem pC{s:Bs}{e:Elem}(h:prsC s=0)(he:bldF (toksF s).1=some e):rdF s=if goodO e then(rdO e,0)else([],130):=by
 unfold rdF;rw[M7 h,he]
theorem An(e:Elem)(n:Bs):(kidF e n).1.sz≤e.sz∧(deep e 1≤32→deep (kidF e n).1 1≤32):=by
 have hp:=e.sz_pos;by_cases h:(kidF e n).2=true
 ·have h1:=xF e n h;have h2:=Elem.kid_sz h1;exact⟨by omega,fun hd=>vV 39 1 rfl _ (pw hd h1).2⟩
 ·have:(kidF e n).1=⟨[],[],[],[]⟩:=by
   unfold kidF at h ⊢;cases hq:kidsF e n with
   |nil=>rfl
   |cons k l=>rw[hq]at h;exact absurd rfl h
  rw[this];exact⟨by show 1≤_;exact hp,fun _=>by decide⟩
theorem lD(hG:GOk G)(hC:GClo (CT G))(s:Bs)(hs:s.length≤4194304)(h:Heap):Sat (CT G) 56 [.str s] h (RdO h s):=by
 have hsz:=nz s;refine sb [.tmp 2,.tmp 3] Tryz.func56 ?_;intro Q hQ;refine wk trivial ?_;refine(ua G hG hC s (by omega) _).mono ?_;rintro r h' ⟨e,rfl,he,hez,rfl⟩;try refine sq trivial ?_
 refine wk trivial ?_;by_cases c0:prsC s=0
 ·obtain⟨y,hb⟩:=HO c0;have hey:=he y c0 hb;subst hey;have hes:=Ab hb;have hed:=vH hb;have hnl:=e.name_len;obtain⟨hk1,hk2⟩:=An e bBody;have hr:=pC c0 hb;have b0:(prsC s !=0)=false:=by simpa using c0
  have F:=b0;try refine sq F ?_
  refine wk F ?_;refine kq F (xE G e bBody (by omega) _) ?_;(first|refine gq F (fun g1=>?_) (fun g1=>?_)|refine pq F (fun g1=>?_) (fun g1=>?_))<;>(try exact g1.elim)<;>(try refine sq F ?_)<;>(refine wk F ?_)
  ·refine ye hQ F ?_;exact RdO.bad _ _ (by rw[hr,M1 (by unfold goodO;simp[g1])])
  ·refine kq F (l9 G e.name (by omega) _) ?_;refine cq F (fun g2=>?_) (fun g2=>?_)<;>(try exact g2.elim)<;>(refine wk F ?_)
   ·refine ye hQ F ?_;exact RdO.bad _ _ (by rw[hr,M1 (by unfold goodO;intro hh;simp only[M2,M8]at hh;exact g2 hh.1.2)])
   ·refine kq F (Al G 40 1 rfl (kidF e bBody).1 (hk2 hed) (by omega) _) ?_;refine kq F (gg G (rdO e) (BB 8 40 _ (by omega)) _) ?_;cases hok:okOl (rdO e)with
    |true=>
     have q:rdF s=(rdO e,0):=(by rw[hr,M7 (by unfold goodO;rw[g1,hok,g2];simp[bOpml])]);have n0:((0:Int) !=0)=false:=rfl;have F:=F2 F n0;(try refine sq F ?_);refine wk F ?_;refine ye hQ F ?_;refine N2 (.tup _ (by intro c hc;simp at hc;rcases hc with rfl|rfl;exact Outls.clo _ _ _;exact .int _ _)) ⟨?_,rfl⟩;rw[q];rfl
    |false=>
     have n1:((130:Int) !=0)=true:=rfl;have F:=F2 F n1;(try refine sq F ?_);refine wk F ?_;refine ye hQ F ?_;exact RdO.bad _ _ (by rw[hr,M1 (by unfold goodO;rw[hok];simp)])
 ·have b0:(prsC s !=0)=true:=by simpa using c0
  have F:=b0;try refine sq F ?_
  refine wk F ?_;refine ye hQ F ?_;exact RdO.bad _ _ (Am c0)
end
section
theorem yE:∀(f:Nat) (s:Bs) (n:Nat),s.length≤f→s.length≤n→cutN f s n=s.length:=by
 intro f;induction f with
 |zero=>intro s n hf _;rw[cutN];omega
 |succ f ih=>
  intro s n hf hn;rw[cutN];by_cases hs:s=[]
  ·subst hs;rfl
  ·have hp:=U4.2 hs;have hd:=aR s 0 hp;rw[M1 hs,M1 (by omega),ih _ _ (by rw[Q5];omega) (by rw[Q5];omega),Q5];omega
theorem j8{s:Bs}{n:Nat}(h:textO s n=true):shortF s n=s:=by
 unfold textO at h;simp only[M2,M8]at h;have hc:cutF s n=s:=by unfold cutF;rw[yE _ _ _ (N3 _) h.1.1];exact Z9
 unfold shortF;rw[h.2,hc,h.2]
theorem pD(g:List Outl→Nat):∀(t:List Outl) (a:Nat),cntGo g t a≤512→(∀o∈t,oneOk o=true∧g o.kids≤512)∧a≤cntGo g t a
 | [],a,h=>⟨fun o ho=>by simp at ho,N3 _⟩
 |o::t,a,h=>by
  rw[cntGo]at h ⊢;by_cases hk:oneOk o=true
  ·rw[M7 hk]at h ⊢;by_cases h5:512<a+g o.kids
   ·rw[M7 h5]at h;omega
   ·rw[M1 h5]at h ⊢;obtain⟨h1,h2⟩:=pD g t _ h;refine⟨fun x hx=>?_,by omega⟩;rcases O5.1 hx with rfl|hx
    ·exact⟨hk,by omega⟩
    ·exact h1 x hx
  ·rw[M1 hk]at h;omega
theorem eJ{l:List Outl}(h:cntN 0 l≤512):l=[]:=by
 rw[cntN]at h;by_cases hl:l=[]
 ·exact hl
 ·rw[M1 hl]at h;omega
theorem eK{f:Nat}{l:List Outl}(h:cntN (f+1) l≤512):(∀o∈l,oneOk o=true∧cntN f o.kids≤512)∧cntGo (cntN f) l l.length=cntN (f+1) l:=by
 rw[cntN]at h ⊢;by_cases hl:512<l.length
 ·rw[M7 hl]at h;omega
 ·rw[M1 hl]at h ⊢;exact⟨(pD _ l _ h).1,rfl⟩
theorem vX(f:Nat)(ih:∀l,cntN f l≤512→(pcs f l).length≤2*cntN f l):∀(t:List Outl) (a:Nat),cntGo (cntN f) t a≤512→(pcs (f+1) t).length+2*a≤2*cntGo (cntN f) t a+2*t.length
 | [],a,_=>by simp[pcs,cntGo]
 |o::t,a,h=>by
  rw[cntGo]at h ⊢;by_cases hk:oneOk o=true
  ·rw[M7 hk]at h ⊢;by_cases h5:512<a+cntN f o.kids
   ·rw[M7 h5]at h;omega
   ·rw[M1 h5]at h ⊢;have h1:=vX f ih t _ h;have h2:=ih o.kids (by omega);have e:(pcs (f+1) (o::t)).length=(pcs f o.kids).length+2+(pcs (f+1) t).length:=by
     rw[pcs,pcs,R8];simp;omega
    rw[e];simp only[M6];omega
  ·rw[M1 hk]at h;omega
theorem rP:∀(f:Nat) (l:List Outl),cntN f l≤512→(pcs f l).length≤2*cntN f l:=by
 intro f;induction f with
 |zero=>intro l h;rw[eJ h];simp[pcs]
 |succ f ih=>
  intro l h;obtain⟨_,h1⟩:=eK h;have:=vX f ih l l.length (by omega);omega
def atO(o:Outl):List At:=(bText,o.title)::(if o.url=[]then []else [(bUrl,o.url)])
def elsO:Nat→List Outl→List Elem
 |0,_=>[]
 |f+1,l=>l.map fun o=>⟨bOutline,atO o,[],elsO f o.kids⟩
theorem Ao:∀(f d:Nat) (n:Bs) (a:List At) (x:Bs) (l:List Outl) (k:List Elem) (rest:List Tok) (g g':Nat),f≤d→((pcs f l).map (·.2)++rest).length<g→rest.length<g'→
  elL g d n a x k ((pcs f l).map (·.2)++rest)=elL g' d n a x (k++elsO f l) rest:=by
 intro f;induction f with
 |zero=>
  intro d n a x l k rest g g' _ hg hg';simp only[pcs,elsO,R5,P2,N8]at hg ⊢;exact pp _ _ _ _ _ _ _ _ hg hg'
 |succ f ih=>
  intro d n a x l;induction l with
  |nil=>
   intro k rest g g' _ hg hg';simp only[pcs,elsO,zb0,R5,P2,N8]at hg ⊢;exact pp _ _ _ _ _ _ _ _ hg hg'
  |cons o l ihl=>
   intro k rest g g' hd hg hg';have e:(pcs (f+1) (o::l)).map (·.2)++rest=opT o::((pcs f o.kids).map (·.2)++clT::((pcs (f+1) l).map (·.2)++rest)):=by
    rw[pcs,pcs,R8];simp
   rw[e]at hg ⊢;simp only[M6,M3,O0]at hg;obtain⟨g,rfl⟩:∃q,g=q+1:=⟨g-1,by omega⟩;have t1:(opT o).1=1:=rfl;have hi:elL g (d-1) (opT o).2.1 (opT o).2.2.1 [] [] ((pcs f o.kids).map (·.2)++clT::((pcs (f+1) l).map (·.2)++rest))=some (⟨bOutline,atO o,[],elsO f o.kids⟩,(pcs (f+1) l).map (·.2)++rest):=by
    rw[ih (d-1) _ _ _ o.kids [] _ g (((pcs (f+1) l).map (·.2)++rest).length+2) (by omega) (by simp;omega) (by simp),dn];rfl
   rw[dn,M1 (by rw[t1];decide),M7 t1,M1 (by omega),hi,U1];show elL g d n a x (k++[⟨bOutline,atO o,[],elsO f o.kids⟩]) ((pcs (f+1) l).map (·.2)++rest)=_;refine(ihl _ rest g g' hd (by simp;omega) hg').trans ?_;rw[O9];rfl
def docE(f:Nat)(l:List Outl):Elem:=⟨bOpml,[(nVer,[50,46,48])],[],[⟨bBody,[],[],elsO f l⟩]⟩
theorem yF(f:Nat)(l:List Outl)(hf:f≤30):bldF ((docP f l).map (·.2))=some (docE f l):=by
 have e:(docP f l).map (·.2)=(1,bOpml,[(nVer,[50,46,48])],[])::(1,bBody,[],[])::((pcs f l).map (·.2)++[(2,bBody,[],[]),(2,bOpml,[],[])]):=by simp[docP]
 unfold bldF;rw[e];have b1:(((1,bOpml,[(nVer,[50,46,48])],[])::(1,bBody,[],[])::((pcs f l).map (·.2)++[(2,bBody,[],[]),(2,bOpml,[],[])]):List Tok)).dropWhile blankT=(1,bOpml,[(nVer,[50,46,48])],[])::(1,bBody,[],[])::((pcs f l).map (·.2)++[(2,bBody,[],[]),(2,bOpml,[],[])]):=rfl;rw[b1,kg,M7 rfl,M1 (by decide),dn,M1 (by decide),M7 rfl,M1 (by decide)];rw[Ao f 30 bBody [] [] l [] _ _ 3 hf (by simp) (by simp)];rfl
theorem BC:∀(f g:Nat) (n:Bs) (a:List At) (x:Bs) (l:List Outl),f≤g→cntN f l≤512→ofF g ⟨n,a,x,elsO f l⟩=l:=by
 intro f;induction f with
 |zero=>intro g n a x l _ h;rw[eJ h];cases g<;>rfl
 |succ f ih=>
  intro g n a x l hg h;obtain⟨g,rfl⟩:∃q,g=q+1:=⟨g-1,by omega⟩;obtain⟨h1,_⟩:=eK h;have hk:kidsF ⟨n,a,x,elsO (f+1) l⟩ bOutline=elsO (f+1) l:=by
   refine V5.2 fun k hk=>?_
   obtain⟨o,_,rfl⟩:=N5.1 hk;rfl
  rw[ofF,hk,elsO];have key:∀t:List Outl,(∀o∈t,oneOk o=true∧cntN f o.kids≤512)→(t.map fun o=>(⟨bOutline,atO o,[],elsO f o.kids⟩:Elem)).filterMap (oneO (ofF g))=t:=by
   intro t;induction t with
   |nil=>intro _;rfl
   |cons o t iht=>
    intro ht;obtain⟨ho,hc⟩:=ht o (Q0 ..);have hq:=ho;unfold oneOk at hq;simp only[M2,Q9,M8]at hq;obtain⟨⟨⟨q1,q2⟩,q3⟩,q4⟩:=hq;have a1:attrS ⟨bOutline,atO o,[],elsO f o.kids⟩ bText 256=o.title:=by
     show shortF (attrF (atO o) bText).1 256=_;exact j8 q2
    have a2:attrS ⟨bOutline,atO o,[],elsO f o.kids⟩ bUrl 512=o.url:=by
     show shortF (attrF (atO o) bUrl).1 512=_;by_cases hu:o.url=[]
     ·have:(attrF (atO o) bUrl).1=[]:=by unfold atO;rw[M7 hu];rfl
      rw[this,hu];rfl
     ·have:(attrF (atO o) bUrl).1=o.url:=by unfold atO;rw[M1 hu];rfl
      rw[this];exact j8 q3
    have a3:titF ⟨bOutline,atO o,[],elsO f o.kids⟩=o.title:=by
     unfold titF orF;rw[a1,M7 q1]
    have a4:oneO (ofF g) ⟨bOutline,atO o,[],elsO f o.kids⟩=some o:=by
     unfold oneO;rw[a3,M1 q1,a2,ih g _ _ _ o.kids (by omega) hc];have a5:(if o.url=[]then o.kids else [])=o.kids:=by
      rcases q4 with q4|q4
      ·rw[M7 q4]
      ·rw[q4];split<;>rfl
     rw[a5];cases o;rfl
    rw[O3,List.filterMap_cons_some a4,iht fun x hx=>ht x (P3 _ hx)]
  exact key l h1
theorem rQ(l:List Outl)(h:okOl l=true)(hs:(docF 8 l).length≤65536):rdF (docF 8 l)=(l,0):=by
 have hc:cntN 8 l≤512:=R7 h;have hp:=rP 8 l hc;have ht:=vT 8 l hs (by simp[docP];omega);have hb:=yF 8 l (by omega);have hk:kidF (docE 8 l) bBody=(⟨bBody,[],[],elsO 8 l⟩,true):=rfl;have hr:rdO (docE 8 l)=l:=by unfold rdO;rw[hk];exact BC 8 40 _ _ _ l (by omega) hc
 have h0:prsC (docF 8 l)=0:=by unfold prsC;rw[ht,M7 rfl];simp only[];rw[hb];rfl
 rw[pC h0 (e:=docE 8 l) (by rw[ht];exact hb),hr];rw[M7];unfold goodO;rw[hr,hk,h];rfl
end
section
attribute [local irreducible] WP WPl WPix Sat
variable (G:Nat→Option (List AVal))
def bldWR(a:AVal)(q v:Nat)(s:Bs):Blk:=.row 159 2 0 [.agg [a,.hs q v 0 s.length true]]
@[go_sem] theorem Ct(a:AVal)(q v:Nat)(s:Bs)(l:Heap):getRow (bldWR a q v s::l) 0 0=some (159,2,[.agg [a,.hs q v 0 s.length true]]):=rfl
theorem qM:ptrConv Tryz.prog 154 214 159 2=true:=by kernel_rfl
theorem nQ:ptrConv Tryz.prog 214 154 159 2=true:=by kernel_rfl
attribute [go_sem] qM nQ
theorem yJ(n p q v:Nat)(s:Bs)(hp:p<n)(hq:q<n):CloB n (bldWR (.hp p 0 0 0) q v s):=by
 intro r hr;simp only[Q7]at hr;subst hr;refine .agg _ fun c hc=>?_
 simp only[O5,S8,or_false]at hc;rcases hc with rfl|rfl
 ·exact .hp _ _ _ _ hp
 ·exact .hs _ _ _ _ _ hq
def bldW(h j:Heap)(a:AVal)(v:Nat)(s:Bs):Heap:=h++bldWR a (h.length+1) v s::bufR v s::j
theorem bU(h j:Heap)(a:AVal)(v:Nat)(s:Bs):(bldW h j a v s).length=h.length+(2+j.length):=by simp[bldW];omega
theorem jb(h j:Heap)(a:AVal)(v v':Nat)(s s':Bs):∀(p:Nat) (k:Blk),(bldW h j (.hp h.length 0 0 0) v' s')[p]? =some k→(bldW h j a v s)[p]? =some k∨CloB (bldW h j a v s).length k:=by
 rw[bU];exact yX (yJ _ _ _ _ _ (by omega) (by omega)) (jg _ _ _)
theorem mz(a:AVal)(h j:Heap)(v:Nat)(s:Bs)(ha:bldA a h.length):
  Sat (CT G) 137 [.hp h.length 0 0 0] (bldW h j a v s) (fun r h'=>r=.tup []∧h'=bldW h j (.hp h.length 0 0 0) v s):=by
 have hK:=jb h j a v v s s;have hl:=(bU h j (.hp h.length 0 0 0) v s).trans (bU h j a v s).symm;have hfin:∀t',Fin (bldW h j a v s) (bldW h j (.hp h.length 0 0 0) v s) (fun r h'=>r=.tup []∧h'=bldW h j (.hp h.length 0 0 0) v s) t'∨True:=fun _=>.inr trivial
 have end_:Fin (bldW h j a v s) (bldW h j (.hp h.length 0 0 0) v s) (fun r h'=>r=.tup []∧h'=bldW h j (.hp h.length 0 0 0) v s) (.tup []):=Fin.keep0 hl hK (.tup _ (by simp)) ⟨rfl,rfl⟩;clear hfin hK hl;unfold bldW at*;refine sb [] Tryz.func137 ?_;intro Q hQ;(repeat (first|refine w1 (fun K hK=>?_)|refine w2 ?_|refine w3 ?_| ((first|refine w4 ?_|refine wD ?_|refine w5 ?_|refine w6 ?_|refine w7 ?_);try refine ai trivial ?_)| (refine w8 ?_;refine ai trivial ?_;refine w9 ?_)| ((first|refine hK _ _ (w0 ?_)| (clear hK K;refine hK _ _ (w0 ?_))| (clear hK K;clear hK K;refine hK _ _ (w0 ?_)));clear hK K)))
 rcases ha with rfl|rfl
 ·rw[mL,r7];simp(disch:=first|omega| (simp only[go_sem, ↓reduceIte,Nat.reduceEqDiff];done)|fail) only[go_sem, ↓reduceIte,Int.reduceToNat,Int.reduceLE,Int.reduceLT,Int.reduceSub,Int.reduceAdd,Nat.reduceEqDiff,Nat.reduceAdd,Nat.reduceLeDiff,Nat.reduceLT,Nat.reduceMul,Nat.reduceSub];(repeat (first|refine w1 (fun K hK=>?_)|refine w2 ?_|refine w3 ?_| ((first|refine w4 ?_|refine wD ?_|refine w5 ?_|refine w6 ?_|refine w7 ?_);try refine ai trivial ?_)| (refine w8 ?_;refine ai trivial ?_;refine w9 ?_)| ((first|refine hK _ _ (w0 ?_)| (clear hK K;refine hK _ _ (w0 ?_))| (clear hK K;clear hK K;refine hK _ _ (w0 ?_)));clear hK K)))
  refine⟨by simp,?_⟩;refine(fu G _ _).mono ?_;rintro r h' ⟨rfl,rfl⟩;simp(disch:=first|omega| (simp only[go_sem, ↓reduceIte,Nat.reduceEqDiff];done)|fail) only[go_sem, ↓reduceIte,Int.reduceToNat,Int.reduceLE,Int.reduceLT,Int.reduceSub,Int.reduceAdd,Nat.reduceEqDiff,Nat.reduceAdd,Nat.reduceLeDiff,Nat.reduceLT,Nat.reduceMul,Nat.reduceSub,List.cons_ne_nil];refine(hQ _ _ ?_).2;simp(disch:=first|omega| (simp only[go_sem, ↓reduceIte,Nat.reduceEqDiff];done)|fail) only[go_sem, ↓reduceIte,Int.reduceToNat,Int.reduceLE,Int.reduceLT,Int.reduceSub,Int.reduceAdd,Nat.reduceEqDiff,Nat.reduceAdd,Nat.reduceLeDiff,Nat.reduceLT,Nat.reduceMul,Nat.reduceSub];exact end_
 ·rw[o8,mW _ _ _ (by simp(disch:=first|omega| (simp only[go_sem, ↓reduceIte,Nat.reduceEqDiff];done)|fail) only[go_sem, ↓reduceIte,Int.reduceToNat,Int.reduceLE,Int.reduceLT,Int.reduceSub,Int.reduceAdd,Nat.reduceEqDiff,Nat.reduceAdd,Nat.reduceLeDiff,Nat.reduceLT,Nat.reduceMul,Nat.reduceSub];rfl)];simp(disch:=first|omega| (simp only[go_sem, ↓reduceIte,Nat.reduceEqDiff];done)|fail) only[go_sem, ↓reduceIte,Int.reduceToNat,Int.reduceLE,Int.reduceLT,Int.reduceSub,Int.reduceAdd,Nat.reduceEqDiff,Nat.reduceAdd,Nat.reduceLeDiff,Nat.reduceLT,Nat.reduceMul,Nat.reduceSub];(repeat (first|refine w1 (fun K hK=>?_)|refine w2 ?_|refine w3 ?_| ((first|refine w4 ?_|refine wD ?_|refine w5 ?_|refine w6 ?_|refine w7 ?_);try refine ai trivial ?_)| (refine w8 ?_;refine ai trivial ?_;refine w9 ?_)| ((first|refine hK _ _ (w0 ?_)| (clear hK K;refine hK _ _ (w0 ?_))| (clear hK K;clear hK K;refine hK _ _ (w0 ?_)));clear hK K)))
  rw[oE _ _ (by exact az trivial)];simp(disch:=first|omega| (simp only[go_sem, ↓reduceIte,Nat.reduceEqDiff];done)|fail) only[go_sem, ↓reduceIte,Int.reduceToNat,Int.reduceLE,Int.reduceLT,Int.reduceSub,Int.reduceAdd,Nat.reduceEqDiff,Nat.reduceAdd,Nat.reduceLeDiff,Nat.reduceLT,Nat.reduceMul,Nat.reduceSub];(repeat (first|refine w1 (fun K hK=>?_)|refine w2 ?_|refine w3 ?_| ((first|refine w4 ?_|refine wD ?_|refine w5 ?_|refine w6 ?_|refine w7 ?_);try refine ai trivial ?_)| (refine w8 ?_;refine ai trivial ?_;refine w9 ?_)| ((first|refine hK _ _ (w0 ?_)| (clear hK K;refine hK _ _ (w0 ?_))| (clear hK K;clear hK K;refine hK _ _ (w0 ?_)));clear hK K)))
  refine(hQ _ _ ?_).2;simp(disch:=first|omega| (simp only[go_sem, ↓reduceIte,Nat.reduceEqDiff];done)|fail) only[go_sem, ↓reduceIte,Int.reduceToNat,Int.reduceLE,Int.reduceLT,Int.reduceSub,Int.reduceAdd,Nat.reduceEqDiff,Nat.reduceAdd,Nat.reduceLeDiff,Nat.reduceLT,Nat.reduceMul,Nat.reduceSub];exact end_
theorem bK(a:AVal)(h j:Heap)(v:Nat)(s x:Bs)(ha:bldA a h.length)(hs:s.length+x.length≤1073741824):
  Sat (CT G) 99 [.hp h.length 0 0 0,.str x] (bldW h j a v s) (fun r h'=>r=.tup [.int .i64 x.length,.nil .nilIface]∧h'=bldW h j (.hp h.length 0 0 0) (v+1) (s++x)):=by
 have end_:Fin (bldW h j a v s) (bldW h j (.hp h.length 0 0 0) (v+1) (s++x)) (fun r h'=>r=.tup [.int .i64 x.length,.nil .nilIface]∧h'=bldW h j (.hp h.length 0 0 0) (v+1) (s++x)) (.tup [.int .i64 x.length,.nil .nilIface]):=
  Fin.keep0 ((bU ..).trans (bU ..).symm) (jb _ _ _ _ _ _ _) (.tup _ (by intro c hc;simp at hc;rcases hc with rfl|rfl;exact .int _ _;exact .nil _)) ⟨rfl,rfl⟩
 refine sb [.tmp 4,.tmp 5] Tryz.func99 ?_;intro Q hQ;refine af trivial ?_;refine(mz G a h j v s ha).mono ?_;rintro r h' ⟨rfl,rfl⟩;unfold bldW at*;try refine ai trivial ?_
 refine af trivial ?_;refine bQ (.inr (by exact az trivial)) (by exact az trivial) (by exact az trivial) cD eB (by omega) (mX _ x) (by simp(disch:=first|omega| (simp only[go_sem, ↓reduceIte,Nat.reduceEqDiff];done)|fail) only[go_sem, ↓reduceIte,Int.reduceToNat,Int.reduceLE,Int.reduceLT,Int.reduceSub,Int.reduceAdd,Nat.reduceEqDiff,Nat.reduceAdd,Nat.reduceLeDiff,Nat.reduceLT,Nat.reduceMul,Nat.reduceSub,bi];rfl) (by simp) ?_ ?_
 ·simp[maxLen];omega
 simp(disch:=first|omega| (simp only[go_sem, ↓reduceIte,Nat.reduceEqDiff];done)|fail) only[go_sem, ↓reduceIte,Int.reduceToNat,Int.reduceLE,Int.reduceLT,Int.reduceSub,Int.reduceAdd,Nat.reduceEqDiff,Nat.reduceAdd,Nat.reduceLeDiff,Nat.reduceLT,Nat.reduceMul,Nat.reduceSub];refine af trivial ?_;refine(hQ _ _ ?_).1;simp(disch:=first|omega| (simp only[go_sem, ↓reduceIte,Nat.reduceEqDiff];done)|fail) only[go_sem, ↓reduceIte,Int.reduceToNat,Int.reduceLE,Int.reduceLT,Int.reduceSub,Int.reduceAdd,Nat.reduceEqDiff,Nat.reduceAdd,Nat.reduceLeDiff,Nat.reduceLT,Nat.reduceMul,Nat.reduceSub];simp only[bldWR,bufR,M3,R3,O0]at end_ ⊢;exact end_
theorem qN(a:AVal)(h j:Heap)(v:Nat)(s:Bs):Sat (CT G) 101 [.hp h.length 0 0 0] (bldW h j a v s) (fun r h'=>r=.str s∧∃b,h'=h++bldWR a (h.length+1) v s::b::j):=by
 unfold bldW;have F:= @bi;refine sb [.tmp 2] Tryz.func101 ?_;intro Q hQ;refine af F ?_;have fin:∀b,Fin (h++bldWR a (h.length+1) v s::bufR v s::j) (h++bldWR a (h.length+1) v s::b::j) (fun r h'=>r=.str s∧∃b,h'=h++bldWR a (h.length+1) v s::b::j) (.str s)∨¬(b=bufR v s∨b=.dead):=fun b=>by
  by_cases hb:b=bufR v s∨b=.dead
  ·refine .inl (Fin.keep0 (by simp) (fun p k hk=>?_) (.str _) ⟨rfl,b,rfl⟩);rcases U7 p h.length with h1|h1
   ·rw[M5 h1]at hk ⊢;exact .inl hk
   ·rw[M9 h1]at hk ⊢
    match p-h.length,hk with
    |0,hk=>exact .inl (by simpa using hk)
    |1,hk=>
     simp at hk;subst hk;rcases hb with rfl|rfl
     ·exact .inl (by simp)
     ·exact .inr trivial
    |i+2,hk=>exact .inl (by simpa using hk)
  ·exact .inr hb
 rcases Nat.eq_zero_or_pos s.length with h0|h0
 ·have hs:s=[]:=Q1.1 h0;subst hs;simp(disch:=first|omega| (simp only[go_sem, ↓reduceIte,Nat.reduceEqDiff];done)|fail) only[go_sem, ↓reduceIte,Int.reduceToNat,Int.reduceLE,Int.reduceLT,Int.reduceSub,Int.reduceAdd,Nat.reduceEqDiff,Nat.reduceAdd,Nat.reduceLeDiff,Nat.reduceLT,Nat.reduceMul,Nat.reduceSub,F,N4,Nat.lt_irrefl,Int.natCast_zero];refine af F ?_;refine au hQ F ?_;rcases fin (bufR v [])with f|f
  ·exact f
  ·exact absurd (.inl rfl) f
 ·simp(disch:=first|omega| (simp only[go_sem, ↓reduceIte,Nat.reduceEqDiff];done)|fail) only[go_sem, ↓reduceIte,Int.reduceToNat,Int.reduceLE,Int.reduceLT,Int.reduceSub,Int.reduceAdd,Nat.reduceEqDiff,Nat.reduceAdd,Nat.reduceLeDiff,Nat.reduceLT,Nat.reduceMul,Nat.reduceSub,F,h0];refine o9 h0 (by simp(disch:=first|omega| (simp only[go_sem, ↓reduceIte,Nat.reduceEqDiff];done)|fail) only[go_sem, ↓reduceIte,Int.reduceToNat,Int.reduceLE,Int.reduceLT,Int.reduceSub,Int.reduceAdd,Nat.reduceEqDiff,Nat.reduceAdd,Nat.reduceLeDiff,Nat.reduceLT,Nat.reduceMul,Nat.reduceSub,F];rfl) uF (by simp) (by rw[P5 (by simp)];exact kT s) ?_;try refine ai F ?_
  refine af F ?_;refine au hQ F ?_;rcases fin .dead with f|f
  ·exact f
  ·exact absurd (.inr rfl) f
theorem pH{s:Bs}{k:Nat}{y:UInt8}(hy:s[k]? =some y){e:Bs}(he:escB y=e):escF (s.take (k+1))=escF (s.take k)++e:=by
 rw[T9,hy, ← he];exact vQ _ _
theorem pI(s:Bs)(k:Nat):(escF (s.take k)).length≤6*s.length:=by
 have h1:=(cL (s.take k)).1;have h2:(s.take k).length≤s.length:=by rw[P6];omega
 omega
theorem Aw{y:UInt8}{k:Nat}(hk:k<256)(h:(y.toNat:Int)=(k:Int)):y=UInt8.ofNat k:=by
 apply UInt8.toNat_inj.1
 rw[UInt8.toNat_ofNat',Nat.mod_eq_of_lt hk];omega
theorem cW{y:UInt8}{e:Bs}(k:Nat)(hk:k<256)(h:(y.toNat:Int)=(k:Int))(he:escB (UInt8.ofNat k)=e):escB y=e:=by rw[Aw hk h];exact he
theorem gK{y:UInt8}{k:Nat}(hk:k<256)(h:¬(y.toNat:Int)=(k:Int)):y≠UInt8.ofNat k:=by
 rintro rfl
 apply h
 rw[UInt8.toNat_ofNat',Nat.mod_eq_of_lt hk]
theorem wc{y:UInt8}(c1:¬(y.toNat:Int)=38)(c2:¬(y.toNat:Int)=60)(c3:¬(y.toNat:Int)=62)(c4:¬(y.toNat:Int)=34)(c5:¬(y.toNat:Int)=39):escB y=[y]:=by
 have h1:y≠38:=gK (k:=38) (by omega) c1;have h2:y≠60:=gK (k:=60) (by omega) c2;have h3:y≠62:=gK (k:=62) (by omega) c3;have h4:y≠34:=gK (k:=34) (by omega) c4;have h5:y≠39:=gK (k:=39) (by omega) c5;unfold escB;rw[M1 h1,M1 h2,M1 h3,M1 h4,M1 h5]
theorem lF(s:Bs)(hs:s.length≤1048576)(h:Heap):Sat (CT G) 138 [.str s] h (fun r h'=>r=.str (escF s)∧h'=h):=by
 refine sb [.tmp 2] Tryz.func138 ?_;intro Q hQ;refine wk trivial ?_;refine lm (fun nL tL hL=>∃(k v:Nat) (a:AVal),s.length-k=nL∧bldH h [] a v (escF (s.take k))=hL∧tL 7=.int .i64 k∧bldA a h.length∧k≤s.length) ((fun(k v:Nat) (a:AVal)=>(s.length-k:Nat)) (0) (0) ((.nil (.pointer none)))) ?_ ?_
 ·refine⟨_,_,za7 (p:=h.length) (v:=0) 5 1 (by omega) (by simp(disch:=first|omega| (simp only[go_sem, ↓reduceIte,seval];first|done|omega)|fail) only[go_sem, ↓reduceIte,seval];rfl) 1 rfl,⟨0,0,(.nil (.pointer none)),rfl,aw,?_,.inl rfl,by omega⟩⟩;all_goals try exact zZz trivial
 rintro _ s2 h' ⟨k,v,a,rfl,rfl,e7,ha,hk⟩ K2 hK2;simp only[aj,am,Nat.reduceEqDiff, ↓reduceIte]at e7;have F:=e7;have hel:=pI s k;refine wk F ?_;refine cq F (fun c0=>?_) (fun c0=>?_)<;>(try exact c0.elim)<;>(refine wk F ?_)
 ·obtain⟨y,hy,hym⟩:=ak c0;have nx:= @pH s k y hy;have F:=F2 F hy;try refine sq F ?_
  refine wk F ?_;refine cq F (fun c1=>?_) (fun c1=>?_)<;>(try exact c1.elim)<;>(refine wk F ?_)
  ·refine kq F (bG G a h [] v (escF (s.take k)) [38,97,109,112,59] ha (by simp;omega)) ?_;refine hK2 _ _ _ (N6 ⟨k+1,v+1,(.hp h.length 0 0 0),rfl,by rw[@nx [38,97,109,112,59] (cW 38 (by omega) c1 rfl)],?_,.inr rfl,by omega⟩) (by omega);all_goals try exact zZz F
  refine cq F (fun c2=>?_) (fun c2=>?_)<;>(try exact c2.elim)<;>(refine wk F ?_)
  ·refine kq F (bG G a h [] v (escF (s.take k)) [38,108,116,59] ha (by simp;omega)) ?_;refine hK2 _ _ _ (N6 ⟨k+1,v+1,(.hp h.length 0 0 0),rfl,by rw[@nx [38,108,116,59] (cW 60 (by omega) c2 rfl)],?_,.inr rfl,by omega⟩) (by omega);all_goals try exact zZz F
  refine cq F (fun c3=>?_) (fun c3=>?_)<;>(try exact c3.elim)<;>(refine wk F ?_)
  ·refine kq F (bG G a h [] v (escF (s.take k)) [38,103,116,59] ha (by simp;omega)) ?_;refine hK2 _ _ _ (N6 ⟨k+1,v+1,(.hp h.length 0 0 0),rfl,by rw[@nx [38,103,116,59] (cW 62 (by omega) c3 rfl)],?_,.inr rfl,by omega⟩) (by omega);all_goals try exact zZz F
  refine cq F (fun c4=>?_) (fun c4=>?_)<;>(try exact c4.elim)<;>(refine wk F ?_)
  ·refine kq F (bG G a h [] v (escF (s.take k)) [38,113,117,111,116,59] ha (by simp;omega)) ?_;refine hK2 _ _ _ (N6 ⟨k+1,v+1,(.hp h.length 0 0 0),rfl,by rw[@nx [38,113,117,111,116,59] (cW 34 (by omega) c4 rfl)],?_,.inr rfl,by omega⟩) (by omega);all_goals try exact zZz F
  refine cq F (fun c5=>?_) (fun c5=>?_)<;>(try exact c5.elim)<;>(refine wk F ?_)
  ·refine kq F (bG G a h [] v (escF (s.take k)) [38,97,112,111,115,59] ha (by simp;omega)) ?_;refine hK2 _ _ _ (N6 ⟨k+1,v+1,(.hp h.length 0 0 0),rfl,by rw[@nx [38,97,112,111,115,59] (cW 39 (by omega) c5 rfl)],?_,.inr rfl,by omega⟩) (by omega);all_goals try exact zZz F
  ·have e:=wc c1 c2 c3 c4 c5;refine kq F (cj G a h [] v (escF (s.take k)) y ha (by omega)) ?_;refine hK2 _ _ _ (N6 ⟨k+1,v+1,(.hp h.length 0 0 0),rfl,by rw[nx e],?_,.inr rfl,by omega⟩) (by omega);all_goals try exact zZz F
 ·have e:s.take k=s:=P5 (by omega);refine(eZ G a h [] v (escF (s.take k))).mono ?_;rintro r h' ⟨rfl,b2,rfl⟩;try refine sq F ?_
  refine wk F ?_;refine ee hQ F ?_;exact Y9 (j:=[bldR a (h.length+1) v (escF (s.take k)),b2]) (by simp) (.str _) ⟨by rw[e],rfl⟩
theorem jL(s:Bs)(hs:s.length≤1048576)(h:Heap):Sat (CT G) 102 [.str s] h (fun r h'=>r=.str (escF s)∧h'=h):=by
 refine sb [.tmp 2] Tryz.func102 ?_;intro Q hQ;refine wk trivial ?_;refine lm (fun nL tL hL=>∃(k:Nat),s.length-k=nL∧h=hL∧tL 3=.str (escF (s.take k))∧tL 4=.int .i64 k∧k≤s.length) ((fun(k:Nat)=>(s.length-k:Nat)) (0)) ?_ ?_
 ·refine N6 ⟨0,rfl,aw,?_,?_,by omega⟩;all_goals try exact zZz trivial
 rintro _ s2 h' ⟨k,rfl,rfl,e3,e4,hk⟩ K2 hK2;simp only[aj,am,Nat.reduceEqDiff, ↓reduceIte]at e3 e4;have F:=F2 e3 e4;have hel:=pI s k;refine wk F ?_;refine cq F (fun c0=>?_) (fun c0=>?_)<;>(try exact c0.elim)<;>(refine wk F ?_)
 ·obtain⟨y,hy,hym⟩:=ak c0;have nx:= @pH s k y hy;have hsl:(s.take (k+1)).drop k=[y]:=by rw[T9,hy,List.drop_append_of_le_length (by rw[P6];omega),Y4 (by rw[P6];omega)];rfl
  have F:=F2 F hy;try refine sq F ?_
  refine wk F ?_;refine cq F (fun c1=>?_) (fun c1=>?_)<;>(try exact c1.elim)<;>(refine wk F ?_)
  ·rw[← @nx [38,97,109,112,59] (cW 38 (by omega) c1 rfl)];refine hK2 _ _ _ (N6 ⟨k+1,rfl,aw,?_,?_,by omega⟩) (by omega);all_goals try exact zZz F
  refine cq F (fun c2=>?_) (fun c2=>?_)<;>(try exact c2.elim)<;>(refine wk F ?_)
  ·rw[← @nx [38,108,116,59] (cW 60 (by omega) c2 rfl)];refine hK2 _ _ _ (N6 ⟨k+1,rfl,aw,?_,?_,by omega⟩) (by omega);all_goals try exact zZz F
  refine cq F (fun c3=>?_) (fun c3=>?_)<;>(try exact c3.elim)<;>(refine wk F ?_)
  ·rw[← @nx [38,103,116,59] (cW 62 (by omega) c3 rfl)];refine hK2 _ _ _ (N6 ⟨k+1,rfl,aw,?_,?_,by omega⟩) (by omega);all_goals try exact zZz F
  refine cq F (fun c4=>?_) (fun c4=>?_)<;>(try exact c4.elim)<;>(refine wk F ?_)
  ·rw[← @nx [38,113,117,111,116,59] (cW 34 (by omega) c4 rfl)];refine hK2 _ _ _ (N6 ⟨k+1,rfl,aw,?_,?_,by omega⟩) (by omega);all_goals try exact zZz F
  refine cq F (fun c5=>?_) (fun c5=>?_)<;>(try exact c5.elim)<;>(refine wk F ?_)
  ·rw[← @nx [38,97,112,111,115,59] (cW 39 (by omega) c5 rfl)];refine hK2 _ _ _ (N6 ⟨k+1,rfl,aw,?_,?_,by omega⟩) (by omega);all_goals try exact zZz F
  ·have e:=wc c1 c2 c3 c4 c5;rw[hsl,M7 (by simp only[M6,N4];omega), ← nx e];(try refine sq F ?_);refine wk F ?_;refine hK2 _ _ _ (N6 ⟨k+1,rfl,aw,?_,?_,by omega⟩) (by omega);all_goals try exact zZz F
 ·have e:s.take k=s:=P5 (by omega);rw[e];refine ee hQ F ?_;refine fR (.str _) ?_;rfl
def wrF(f:Nat)(l:List Outl):Bs:=(pcs f l).flatMap (·.1)
def wrG(g:Outl→Bs)(l:List Outl):Bs:=l.flatMap fun o=>opB o++(g o++q4)
theorem ix(f:Nat)(l:List Outl):wrF (f+1) l=wrG (fun o=>wrF f o.kids) l:=by
 unfold wrF wrG;rw[pcs,List.flatMap_assoc];congr 1
 funext o
 simp[wrF]
theorem pJ{g:Outl→Bs}{l:List Outl}{k:Nat}{o:Outl}(hy:l[k]? =some o):wrG g (l.take (k+1))=wrG g (l.take k)++(opB o++(g o++q4)):=by
 rw[T9,hy];simp[wrG]
theorem lG(g:Outl→Bs)(l:List Outl)(k:Nat):(wrG g (l.take k)).length≤(wrG g l).length:=by
 have:wrG g l=wrG g (l.take k)++wrG g (l.drop k):=by
  unfold wrG;rw[← Z5,X3]
 rw[this,M3];omega
theorem rX(g:Outl→Bs):∀{l:List Outl} {o:Outl},o∈l→(g o).length≤(wrG g l).length
 |x::l,o,h=>by
  have e:wrG g (x::l)=opB x++(g x++q4)++wrG g l:=by simp[wrG]
  rw[e,M3,M3,M3];rcases O5.1 h with rfl|h
  ·omega
  ·have:=rX g h;omega
theorem mA(o:Outl):(opB o).length=17+(escF o.title).length+(if o.url=[]then 0 else 10+(escF o.url).length):=by
 unfold opB;split<;>simp[q1,q2,q3]<;>omega
theorem Ax:∀(f:Nat) (l:List Outl),(wrF f l).length≤6*szs Outl.sz l+31*(pcs f l).length:=by
 intro f;induction f with
 |zero=>intro l;simp[wrF,pcs]
 |succ f ih=>
  intro l;induction l with
  |nil=>simp[wrF,pcs]
  |cons o l ihl=>
   have e1:wrF (f+1) (o::l)=opB o++(wrF f o.kids++q4)++wrF (f+1) l:=(by rw[ix,ix];simp[wrG]);have e2:(pcs (f+1) (o::l)).length=(pcs f o.kids).length+2+(pcs (f+1) l).length:=(by rw[pcs,pcs,R8];simp;omega);have h1:=mA o;have h2:=cL o.title;have h3:=cL o.url;have h4:=ih o.kids;have h5:=o.sz_eq;have h6:(opB o).length≤27+(escF o.title).length+(escF o.url).length:=(by rw[h1];split<;>omega);rw[e1,e2,szs];simp only[M3,show q4.length=10 from rfl];omega
theorem rY(f:Nat)(l:List Outl):docF f l=(q5++q6)++wrF f l++(q7++q8):=by
 unfold docF docP wrF;simp
theorem jM(g:Outl→Bs)(l:List Outl)(hs:szs Outl.sz l≤1048576)(hB:(wrG g l).length≤1048576)(ih:∀o∈l,∀h,Sat (CT G) 52 [.sl 3 (o.kids.map Outl.av)] h (fun r h'=>r=.str (g o)∧h'=h))(h:Heap):
  Sat (CT G) 52 [.sl 3 (l.map Outl.av)] h (fun r h'=>r=.str (wrG g l)∧h'=h):=by
 have hlm:(l.map Outl.av).length=l.length:=O0 ..;have hll:=bR l;have F:=hlm;refine sb [.tmp 2] Tryz.func52 ?_;intro Q hQ;refine wk F ?_;refine lm (fun nL tL hL=>∃(k:Nat),l.length-k=nL∧h=hL∧tL 3=.str (wrG g (l.take k))∧tL 4=.int .i64 k∧k≤l.length) ((fun(k:Nat)=>(l.length-k:Nat)) (0)) ?_ ?_
 ·refine N6 ⟨0,rfl,aw,?_,?_,by omega⟩;all_goals try exact zZz F
 rintro _ s2 h' ⟨k,rfl,rfl,e3,e4,hk⟩ K2 hK2;simp only[aj,am,Nat.reduceEqDiff, ↓reduceIte]at e3 e4;have F:=F3 F e3 e4;have hle:=lG g l k;have hle1:=lG g l (k+1);refine wk F ?_;refine cq F (fun c0=>?_) (fun c0=>?_)<;>(try exact c0.elim)<;>(refine wk F ?_)
 ·obtain⟨y,hy,hym⟩:=ak c0;have hyv:(l.map Outl.av)[k]? =some y.av:=by rw[O2,hy];rfl
  have nx:= @pJ g l k y hy;have hys:=bL Outl.sz hym;have hyz:=y.sz_eq;have h2:=cL y.title;have h3:=cL y.url;rw[nx,M3,M3,M3,mA]at hle1;have lq:q4.length=10:=rfl;have F:=F2 F hy;try refine sq F ?_
  refine wk F ?_;refine kq F (jL G y.title (by omega) _) ?_;refine cq F (fun c1=>?_) (fun c1=>?_)<;>(try exact c1.elim)<;>(refine wk F ?_)
  ·refine kq F (jL G y.url (by omega) _) ?_;rw[M1 c1]at hle1;refine kq F (ih y hym _) ?_;refine hK2 _ _ _ (N6 ⟨k+1,rfl,aw,?_,?_,by omega⟩) (by omega);(all_goals try exact zZz F);(try refine sq F ?_);rw[nx];unfold opB;rw[M1 c1];simp[q1,q2,q3,q4]
  ·rw[M7 c1]at hle1;refine kq F (ih y hym _) ?_;refine hK2 _ _ _ (N6 ⟨k+1,rfl,aw,?_,?_,by omega⟩) (by omega);(all_goals try exact zZz F);(try refine sq F ?_);rw[nx];unfold opB;rw[M7 c1];simp[q1,q3,q4]
 ·have e:l.take k=l:=P5 (by omega);refine wk F ?_;refine ee hQ F ?_;refine fR (.str _) ?_;rw[e]
theorem ue:∀(f:Nat) (l:List Outl),cntN f l≤512→szs Outl.sz l≤1048576→(wrF f l).length≤1048576→∀h:Heap,Sat (CT G) 52 [.sl 3 (l.map Outl.av)] h (fun r h'=>r=.str (wrF f l)∧h'=h):=by
 intro f;induction f with
 |zero=>
  intro l hc hs hw h;have e:=eJ hc;subst e;exact jM G (fun _=>[]) [] hs (by simp[wrG]) (fun o ho=>by simp at ho) h
 |succ f ih=>
  intro l hc hs hw h;rw[ix]at hw ⊢;refine jM G _ l hs hw (fun o ho h=>?_) h;have h1:=bL Outl.sz ho;have h2:=o.sz_eq;have h3:=rX (fun o=>wrF f o.kids) ho;exact ih o.kids ((eK hc).1 o ho).2 (by omega) (by omega) h
theorem jN(l:List Outl)(hc:okOl l=true)(hs:szs Outl.sz l≤1048576)(hw:(wrF 8 l).length≤1000000)(h:Heap):Sat (CT G) 22 [.sl 3 (l.map Outl.av)] h (fun r h'=>r=.str (docF 8 l)∧h'=h):=by
 have hc:=R7 hc;refine sb [.tmp 2] Tryz.func22 ?_;intro Q hQ;refine wk trivial ?_;refine kq trivial (ue G 8 l hc hs (by omega) _) ?_;refine ee hQ trivial ?_;refine fR (.str _) ?_;rw[rY];simp[q5,q6,q7,q8]
attribute [go_sem] bU
theorem dX(h j l:Heap)(a:AVal)(v:Nat)(s:Bs):bldW h j a v s++l=bldW h (j++l) a v s:=by simp[bldW]
@[go_sem] theorem BK(h j l:Heap)(a:AVal)(v u n:Nat)(s:Bs)(hn:j.length=n):getRow (bldW h j a v s++l) (h.length+(2+n)) u=getRow l 0 u:=by
 rw[← hn, ← bU h j a v s];exact g9 _ l u
@[go_sem] theorem FQ(h j l:Heap)(a:AVal)(v n:Nat)(s:Bs)(x:Blk)(hn:j.length=n):(bldW h j a v s++l).set (h.length+(2+n)) x=bldW h j a v s++l.set 0 x:=by
 rw[← hn, ← bU h j a v s];exact oc _ l x
@[go_sem] theorem pK(h j:Heap)(a:AVal)(v:Nat)(s:Bs):getRow (bldW h j a v s) h.length 0=some (159,2,[.agg [a,.hs (h.length+1) v 0 s.length true]]):=by
 unfold bldW;exact g9 _ _ _
@[go_sem] theorem BL(h j l:Heap)(a:AVal)(v:Nat)(s:Bs):getRow (bldW h j a v s++l) h.length 0=some (159,2,[.agg [a,.hs (h.length+1) v 0 s.length true]]):=by
 rw[dX];exact pK ..
theorem zb{h j l:Heap}{a:AVal}{v:Nat}{s:Bs}(x:Bs)(ha:bldA a h.length)(hs:s.length+x.length≤1073741824):
  Sat (CT G) 99 [.hp h.length 0 0 0,.str x] (bldW h j a v s++l) (fun r h'=>r=.tup [.int .i64 x.length,.nil .nilIface]∧h'=bldW h j (.hp h.length 0 0 0) (v+1) (s++x)++l):=by
 rw[dX,dX];exact bK G a h (j++l) v s x ha hs
def AllR(h j:Heap)(s:Bs)(r:AVal)(h':Heap):Prop:=r=.tup []∧∃a v,bldA a h.length∧h'=bldW h j a v s
theorem Ay{h j jj:Heap}{a a1:AVal}{v v1:Nat}{s s1:Bs}(ha:bldA a1 h.length)(hq:a1=a∧v1=v∧s1=s∨a1=.hp h.length 0 0 0):Fin (bldW h j a v s) (bldW h (j++jj) a1 v1 s1) (AllR h j s1) (.tup []):=by
 rw[← dX];refine Fin.keep ((bU ..).trans (bU ..).symm) ?_ (.tup _ (by simp)) ⟨rfl,a1,v1,ha,rfl⟩;rcases hq with⟨rfl,rfl,rfl⟩|rfl
 ·exact fun p k hk=>.inl hk
 ·exact jb _ _ _ _ _ _ _
theorem nE(g:Outl→Bs)(l:List Outl)(hs:szs Outl.sz l≤1048576)(ih:∀o∈l,∀(h j:Heap) (a:AVal) (v:Nat) (s:Bs),bldA a h.length→s.length+(g o).length≤8388608→Sat (CT G) 100 [.hp h.length 0 0 0,.sl 3 (o.kids.map Outl.av)] (bldW h j a v s) (AllR h j (s++g o)))
  (h j:Heap)(a:AVal)(v:Nat)(s:Bs)(ha:bldA a h.length)(hB:s.length+(wrG g l).length≤8388608):Sat (CT G) 100 [.hp h.length 0 0 0,.sl 3 (l.map Outl.av)] (bldW h j a v s) (AllR h j (s++wrG g l)):=by
 have hlm:(l.map Outl.av).length=l.length:=O0 ..;have hll:=bR l;have F:=hlm
 skip
 refine sb [] Tryz.func100 ?_;intro Q hQ;refine wn F ?_;refine lm (fun nL tL hL=>∃(k u:Nat) (b:AVal) (jj:Heap),l.length-k=nL∧bldW h (j++jj) b u (s++wrG g (l.take k))=hL∧tL 8=.int .i64 k∧bldA b h.length∧(b=a∧u=v∧s++wrG g (l.take k)=s∨b=.hp h.length 0 0 0)∧k≤l.length) ((fun(k u:Nat) (b:AVal) (jj:Heap)=>(l.length-k:Nat)) (0) (v) (a) ([])) ?_ ?_
 ·refine N6 ⟨0,v,a,[],rfl,by simp[wrG],?_,ha,.inl ⟨rfl,rfl,by simp[wrG]⟩,by omega⟩;all_goals try exact zZz F
 rintro _ s2 h' ⟨k,u,b,jj,rfl,rfl,e8,hb,hq,hk⟩ K2 hK2;simp only[aj,am,Nat.reduceEqDiff, ↓reduceIte]at e8;have F:=F2 F e8;have hle:=lG g l k;have hle1:=lG g l (k+1);refine wn F ?_;refine cq F (fun c0=>?_) (fun c0=>?_)<;>(try exact c0.elim)<;>(refine wn F ?_)
 ·obtain⟨y,hy,hym⟩:=ak c0;have hyv:(l.map Outl.av)[k]? =some y.av:=by rw[O2,hy];rfl
  have nx:= @pJ g l k y hy;have hys:=bL Outl.sz hym;have hyz:=y.sz_eq;have h2:=cL y.title;have h3:=cL y.url;rw[nx,M3,M3,M3,mA]at hle1;have lq:q4.length=10:=rfl;have F:=F2 F hy;try refine sq F ?_
  refine wn F ?_;refine lR 7 (by kernel_rfl) ?_;refine sq F ?_;refine wn F ?_;refine aG (lF G y.title (by omega) _) ?_;try refine sq F ?_
  refine wn F ?_;refine kn F (zb G _ hb (by simp only[M3,M6,N4];omega)) ?_;refine cq F (fun c1=>?_) (fun c1=>?_)<;>(try exact c1.elim)<;>(refine wn F ?_)
  ·rw[M1 c1]at hle1;refine lR 7 (by kernel_rfl) ?_;refine sq F ?_;refine wn F ?_;refine aG (lF G y.url (by omega) _) ?_;(try refine sq F ?_);refine wn F ?_;refine kn F (zb G _ (.inr rfl) (by simp only[M3,M6,N4];omega)) ?_;refine kn F (zb G _ (.inr rfl) (by simp only[M3,M6,N4];omega)) ?_;rw[dX];refine(ih y hym h _ _ _ _ (.inr rfl) (by simp only[M3,M6,N4];omega)).mono ?_;rintro r h' ⟨rfl,a1,u1,ha1,rfl⟩;(try refine sq F ?_);refine wn F ?_;refine kn F (bK G a1 h _ u1 _ _ ha1 (by simp only[M3,M6,N4];omega)) ?_;refine hK2 _ _ _ (N6 ⟨k+1,u1+1,(.hp h.length 0 0 0),jj++[.row 55 3 0 [y.av]],rfl,by rw[nx];unfold opB;rw[M1 c1];simp[q1,q2,q3,q4],?_,.inr rfl,.inr rfl,by omega⟩) (by omega);all_goals try exact zZz F
  ·rw[M7 c1]at hle1;refine kn F (zb G _ (.inr rfl) (by simp only[M3,M6,N4];omega)) ?_;rw[dX];refine(ih y hym h _ _ _ _ (.inr rfl) (by simp only[M3,M6,N4];omega)).mono ?_;rintro r h' ⟨rfl,a1,u1,ha1,rfl⟩;(try refine sq F ?_);refine wn F ?_;refine kn F (bK G a1 h _ u1 _ _ ha1 (by simp only[M3,M6,N4];omega)) ?_;refine hK2 _ _ _ (N6 ⟨k+1,u1+1,(.hp h.length 0 0 0),jj++[.row 55 3 0 [y.av]],rfl,by rw[nx];unfold opB;rw[M7 c1];simp[q1,q2,q3,q4],?_,.inr rfl,.inr rfl,by omega⟩) (by omega);all_goals try exact zZz F
 ·have e:l.take k=l:=P5 (by omega);refine wn F ?_;refine ee hQ F ?_;rw[e]at hq ⊢;exact Ay hb hq
theorem yK:∀(f:Nat) (l:List Outl),cntN f l≤512→szs Outl.sz l≤1048576→∀(h j:Heap) (a:AVal) (v:Nat) (s:Bs),bldA a h.length→s.length+(wrF f l).length≤8388608→Sat (CT G) 100 [.hp h.length 0 0 0,.sl 3 (l.map Outl.av)] (bldW h j a v s) (AllR h j (s++wrF f l)):=by
 intro f;induction f with
 |zero=>
  intro l hc hs h j a v s ha hw;have e:=eJ hc;subst e;exact nE G (fun _=>[]) [] hs (fun o ho=>by simp at ho) h j a v s ha hw
 |succ f ih=>
  intro l hc hs h j a v s ha hw;rw[ix]at hw ⊢;refine nE G _ l hs (fun o ho h j a v s ha hw=>?_) h j a v s ha hw;have h1:=bL Outl.sz ho;have h2:=o.sz_eq;exact ih o.kids ((eK hc).1 o ho).2 (by omega) h j a v s ha hw
theorem rZ(g:List Outl→Nat)(f:Nat)(hg:∀l,g l≤512→sameOL f l l=true):∀(t:List Outl) (a:Nat),t.length≤a→cntGo g t a≤512→((t.zip t).all fun p=>decide (p.1.title=p.2.title)&&(decide (p.1.url=p.2.url)&&sameOL f p.1.kids p.2.kids))=true
 | [],a,_,_=>rfl
 |o::t,a,ha,h=>by
  rw[cntGo]at h;simp only[M6]at ha;by_cases hk:oneOk o=true
  ·rw[M7 hk]at h;by_cases h5:512<a+g o.kids
   ·rw[M7 h5]at h;omega
   ·rw[M1 h5]at h;have h1:=rZ g f hg t (a+g o.kids) (by omega) h;have h2:=hg o.kids (by omega);rw[List.zip_cons_cons,Z1,h1];simp[h2]
  ·rw[M1 hk]at h;omega
theorem qO:∀(f:Nat) (l:List Outl),cntN f l≤512→sameOL f l l=true:=by
 intro f;induction f with
 |zero=>
  intro l h;rw[cntN]at h;by_cases hl:l=[]
  ·subst hl;rfl
  ·rw[M1 hl]at h;omega
 |succ f ih=>
  intro l h;rw[cntN]at h;by_cases hl:512<l.length
  ·rw[M7 hl]at h;omega
  ·rw[M1 hl]at h;have:=rZ (cntN f) f ih l l.length (N3 _) h;rw[sameOL,this];simp
theorem wd{l:List Outl}(hc:okOl l=true):(wrF 8 l).length≤3000000∧szs Outl.sz l≤400000:=by
 have hc:=R7 hc;have h1:=vW 8 l hc;have h2:=Ax 8 l;have h3:=rP 8 l hc;omega
theorem Az{C:Ctx}{c:Code}{Q:Exit→Env→Heap→Prop}{t:Env}{h h':Heap}(e:h=h')(g:WP C c Q t h'):WP C c Q t h:=e▸g
theorem qP(l:List Outl)(hk:OkN 8 l)(hs:szs Outl.sz l≤1048576)(hw:okOl l=true→(wrF 8 l).length≤4000000)(h:Heap):
  Sat (CT G) 51 [.sl 3 (l.map Outl.av)] h (fun r h'=>r=.tup [.str (if okOl l then docF 8 l else []),.int .i64 (if okOl l then 0 else 130)]∧h'=h):=by
 refine sb [.tmp 2,.tmp 3] Tryz.func51 ?_;intro Q hQ;(repeat (first|refine w1 (fun K hK=>?_)|refine w2 ?_|refine w3 ?_| ((first|refine w4 ?_|refine wD ?_|refine w5 ?_|refine w6 ?_|refine w7 ?_);try refine sq trivial ?_)| (refine w8 ?_;refine sq trivial ?_;refine w9 ?_)| ((first|refine hK _ _ (w0 ?_)| (clear hK K;refine hK _ _ (w0 ?_))| (clear hK K;clear hK K;refine hK _ _ (w0 ?_)));clear hK K)))
 refine(gg G l hk _).mono ?_;rintro r h' ⟨rfl,hk_⟩;replace hk_:=hk_.symm;subst hk_;try refine sq trivial ?_
 (repeat (first|refine w1 (fun K hK=>?_)|refine w2 ?_|refine w3 ?_| ((first|refine w4 ?_|refine wD ?_|refine w5 ?_|refine w6 ?_|refine w7 ?_);try refine sq trivial ?_)| (refine w8 ?_;refine sq trivial ?_;refine w9 ?_)| ((first|refine hK _ _ (w0 ?_)| (clear hK K;refine hK _ _ (w0 ?_))| (clear hK K;clear hK K;refine hK _ _ (w0 ?_)));clear hK K)))
 cases hok:okOl l with
 |false=>
  try refine sq trivial ?_
  (repeat (first|refine w1 (fun K hK=>?_)|refine w2 ?_|refine w3 ?_| ((first|refine w4 ?_|refine wD ?_|refine w5 ?_|refine w6 ?_|refine w7 ?_);try refine sq trivial ?_)| (refine w8 ?_;refine sq trivial ?_;refine w9 ?_)| ((first|refine hK _ _ (w0 ?_)| (clear hK K;refine hK _ _ (w0 ?_))| (clear hK K;clear hK K;refine hK _ _ (w0 ?_)));clear hK K)))
  refine ye hQ trivial ?_;exact S6 (.tup _ (by intro c hc;simp at hc;rcases hc with rfl|rfl;exact .str _;exact .int _ _)) ⟨by rw[hok];rfl,rfl⟩
 |true=>
  have hwl:=hw hok;have hc:=R7 hok;try refine sq trivial ?_
  (repeat (first|refine w1 (fun K hK=>?_)|refine w2 ?_|refine w3 ?_| ((first|refine w4 ?_|refine wD ?_|refine w5 ?_|refine w6 ?_|refine w7 ?_);try refine sq trivial ?_)| (refine w8 ?_;refine sq trivial ?_;refine w9 ?_)))
  refine hK _ _ (N6 ?_);clear hK K;(repeat (first|refine w1 (fun K hK=>?_)|refine w2 ?_|refine w3 ?_| ((first|refine w4 ?_|refine wD ?_|refine w5 ?_|refine w6 ?_|refine w7 ?_);try refine sq trivial ?_)| (refine w8 ?_;refine sq trivial ?_;refine w9 ?_)))
  refine hK _ _ ⟨_,_,za7 (p:=h.length) (v:=0) 5 1 (by omega) (by simp(disch:=first|omega| (simp only[go_sem, ↓reduceIte,seval];first|done|omega)|fail) only[go_sem, ↓reduceIte,seval];rfl) 1 rfl,?_⟩;clear hK K;refine Az (h':=bldW h [] (.nil (.pointer none)) 0 []) aw ?_;(repeat (first|refine w1 (fun K hK=>?_)|refine w2 ?_|refine w3 ?_| ((first|refine w4 ?_|refine wD ?_|refine w5 ?_|refine w6 ?_|refine w7 ?_);try refine sq trivial ?_)| (refine w8 ?_;refine sq trivial ?_;refine w9 ?_)| ((first|refine hK _ _ (w0 ?_)| (clear hK K;refine hK _ _ (w0 ?_))| (clear hK K;clear hK K;refine hK _ _ (w0 ?_)));clear hK K)))
  refine(bK G (.nil (.pointer none)) h [] 0 [] _ (.inl rfl) (by simp)).mono ?_;rintro r h' ⟨rfl,rfl⟩;try refine sq trivial ?_
  (repeat (first|refine w1 (fun K hK=>?_)|refine w2 ?_|refine w3 ?_| ((first|refine w4 ?_|refine wD ?_|refine w5 ?_|refine w6 ?_|refine w7 ?_);try refine sq trivial ?_)| (refine w8 ?_;refine sq trivial ?_;refine w9 ?_)| ((first|refine hK _ _ (w0 ?_)| (clear hK K;refine hK _ _ (w0 ?_))| (clear hK K;clear hK K;refine hK _ _ (w0 ?_)));clear hK K)))
  refine(yK G 8 l hc hs h [] _ _ _ (.inr rfl) (by simp only[M3,M6,N4];omega)).mono ?_;rintro r h' ⟨rfl,a1,u1,ha1,rfl⟩;try refine sq trivial ?_
  (repeat (first|refine w1 (fun K hK=>?_)|refine w2 ?_|refine w3 ?_| ((first|refine w4 ?_|refine wD ?_|refine w5 ?_|refine w6 ?_|refine w7 ?_);try refine sq trivial ?_)| (refine w8 ?_;refine sq trivial ?_;refine w9 ?_)| ((first|refine hK _ _ (w0 ?_)| (clear hK K;refine hK _ _ (w0 ?_))| (clear hK K;clear hK K;refine hK _ _ (w0 ?_)));clear hK K)))
  refine(bK G a1 h [] u1 _ _ ha1 (by simp only[M3,M6,N4];omega)).mono ?_;rintro r h' ⟨rfl,rfl⟩;try refine sq trivial ?_
  (repeat (first|refine w1 (fun K hK=>?_)|refine w2 ?_|refine w3 ?_| ((first|refine w4 ?_|refine wD ?_|refine w5 ?_|refine w6 ?_|refine w7 ?_);try refine sq trivial ?_)| (refine w8 ?_;refine sq trivial ?_;refine w9 ?_)| ((first|refine hK _ _ (w0 ?_)| (clear hK K;refine hK _ _ (w0 ?_))| (clear hK K;clear hK K;refine hK _ _ (w0 ?_)));clear hK K)))
  refine(qN G _ h [] _ _).mono ?_;rintro r h' ⟨rfl,b2,rfl⟩;try refine sq trivial ?_
  (repeat (first|refine w1 (fun K hK=>?_)|refine w2 ?_|refine w3 ?_| ((first|refine w4 ?_|refine wD ?_|refine w5 ?_|refine w6 ?_|refine w7 ?_);try refine sq trivial ?_)| (refine w8 ?_;refine sq trivial ?_;refine w9 ?_)| ((first|refine hK _ _ (w0 ?_)| (clear hK K;refine hK _ _ (w0 ?_))| (clear hK K;clear hK K;refine hK _ _ (w0 ?_)));clear hK K)))
  refine ye hQ trivial ?_;refine Y9 rfl (.tup _ (by intro c hc;simp at hc;rcases hc with rfl|rfl;exact .str _;exact .int _ _)) ⟨?_,rfl⟩;rw[hok,rY];simp[q5,q6,q7,q8]
end
end Go.Av
