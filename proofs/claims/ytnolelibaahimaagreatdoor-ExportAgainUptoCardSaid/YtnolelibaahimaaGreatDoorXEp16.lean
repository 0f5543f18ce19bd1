/- Parts. -/
import Derived.Test.YtnolelibaahimaaGreatDoorXEp9
import Derived.Test.YtnolelibaahimaaGreatDoorXVh
set_option linter.unusedSimpArgs false
set_option linter.unusedVariables false
set_option linter.unusedSectionVars false
set_option linter.unnecessarySimpa false
set_option maxRecDepth 100000
set_option maxHeartbeats 16000000
namespace Go.Av
open Go Go.Proofs Go.RowKit
theorem xU{l:List Int}(h:l.Nodup):(sortI l).Nodup:=(X5 l _).nodup_iff.2 h
section
variable {α:Type} {z:α} {key:α→Int} {l:ML Int α} {c:Nat}
theorem vA(w:WFM l c)(hid:∀k a,lkM l k=some a→key a=k):(valsM z l).map key=sortI (l.map (·.1)):=by
 unfold valsM;rw[List.map_map];have:∀k∈sortI (l.map (·.1)),(key ∘ fun k=>(lkM l k).getD z) k=k:=fun k hk=>by
  have hk2:k∈l.map (·.1):=(X5 _ _).mem_iff.1 hk;obtain⟨x,hx,rfl⟩:=M7.1 hk2;have:=dt w.keys (b:=x.2.2) (a:=x.2.1) (x:=x.1) hx;simp only[Function.comp,this,U0];exact hid _ _ this
 rw[W6 this,List.map_id']
end
def feO(f:Fe):Outl:=⟨if f.title=[]then shortF f.url 256 else f.title,f.url,[]⟩
def outF(fo:List Fo)(fe:List Fe):Nat→Int→List Outl
 |0,i=>(fe.filter fun f=>decide (f.inn=i)).map feO
 |k+1,i=>((fo.filter fun f=>decide (f.inn=i)).map fun f=>⟨f.name,[],outF fo fe k f.id⟩)++(fe.filter fun f=>decide (f.inn=i)).map feO
def Lv(fo:List Fo):Nat→Int→Prop
 |0,i=>∀f∈fo,f.inn≠i
 |k+1,i=>∀f∈fo,f.inn=i→Lv fo k f.id
theorem B4{fo:List Fo}{i:Int}(h:∀f∈fo,f.inn≠i):(fo.filter fun f=>decide (f.inn=i))=[]:=by
 rw[List.filter_eq_nil_iff];intro f hf;simpa using h f hf
theorem pj{s:PS}{f:Fo}(h:f∈s.tell.fo):∃k,lkM s.fo k=some f:=dR h
theorem vB{s:PS}{f:Fe}(h:f∈s.tell.fe):∃k,lkM s.fe k=some f:=dR h
theorem Dn{s:PS}(hI:s.Inv):∀(k:Nat) (i:Int),(i=0∨(lkM s.fo i).isSome=true)→7≤s.dpt i+k→Lv s.tell.fo k i:=by
 have up:∀{f:Fo} {i:Int},f∈s.tell.fo→f.inn=i→s.dpt f.id=s.dpt i+1∧s.dpt f.id≤7∧(lkM s.fo f.id).isSome=true:=fun {f i} hf hi=>by
  obtain⟨k,hk⟩:=pj hf;have hid:=(hI.i1 _ _ hk).1;rw[← hid]at hk;obtain⟨h1,h2⟩:=hI.deep f.id;obtain⟨h3,h4⟩:=hI.deep i;refine⟨?_,h2,by rw[hk];rfl⟩;rw[deepO,hk]at h1;simp only[hi,N2]at h1;obtain⟨d,hd,he⟩:=h1;have:=iS hd (k':=7) (by have:=h2;omega);rw[h3]at this;cases this;exact he.symm
 intro k;induction k with
 |zero=>
  intro i _ hd f hf hi;have:=up hf hi;omega
 |succ k ih=>
  intro i _ hd f hf hi;have:=up hf hi;exact ih f.id (.inr this.2.2) (by omega)
theorem B5{s:PS}(hI:s.Inv):Lv s.tell.fo 7 0:=Dn hI 7 0 (.inl rfl) (by omega)
def clnG:List Int→Bool→Bool→List Int
 | [],_,_=>[]
 |c::t,e,w=>if blankR c then clnG t e e else if ctlR c then clnG t e w else(if w then [32,c]else [c])++clnG t true false
theorem gE:∀(l o:List Int) (w:Bool),clnR l o w=o++clnG l (decide (0<o.length)) w
 | [],o,w=>by simp[clnR,clnG]
 |c::t,o,w=>by
  rw[clnR,clnG];split
  ·exact gE t o _
  ·split
   ·exact gE t o w
   ·rw[gE t _ false,O4];have:decide (0<(o++if w=true then [32,c]else [c]).length)=true:=by
     refine P4 ?_;rw[L4];split<;>simp<;>omega
    rw[this]
theorem eC:∀(l:List Int) (e w:Bool),(w=true→e=true)→clnG (clnG l e w) e false=clnG l e w
 | [],e,w,_=>rfl
 |c::t,e,w,h=>by
  rw[clnG];by_cases hb:blankR c=true
  ·rw[L7 hb];exact eC t e e id
  ·rw[L1 hb];by_cases hk:ctlR c=true
   ·rw[L7 hk];exact eC t e w h
   ·rw[L1 hk];have ih:=eC t true false (by simp);have h32:blankR 32=true:=(by decide);cases w with
    |false=>
     show clnG (c::clnG t true false) e false=c::clnG t true false;rw[clnG,L1 hb,L1 hk,ih];rfl
    |true=>
     rw[h rfl];show clnG (32::c::clnG t true false) true false=32::c::clnG t true false;rw[clnG,L7 h32,clnG,L1 hb,L1 hk,ih];rfl
theorem gF:∀(l:List Int) (e w:Bool),(encs (clnG l e w)).length≤(encs l).length+(if w then 1 else 0)
 | [],e,w=>by simp[clnG,encs]
 |c::t,e,w=>by
  rw[clnG,aX,L4];have hp:=dJ c;split
  ·have:=gF t e e;have:(if e=true then 1 else 0)≤1:=by split<;>omega
   omega
  ·split
   ·have:=gF t e w;omega
   ·have ih:=gF t true false;rw[xF,L4];have h32:(enc 32).length=1:=(by decide);cases w with
    |false=>
     have:(encs (if false=true then [32,c]else [c])).length=(enc c).length:=by simp[encs]
     simp only[N9,if_false]at*;omega
    |true=>
     have:(encs (if true=true then [32,c]else [c])).length=1+(enc c).length:=by simp[encs,h32]
     simp only[if_true]at*;simp only[N9,if_false]at ih;omega
theorem nr{l:List Int}(h:∀c∈l,Rune c):∀c∈clnG l false false,Rune c:=by
 have:=fQ l [] false h (by simp);rw[gE]at this;exact this
theorem tP(s:Bs):∀c∈runesF s,Rune c:=qg s.length s (M3 _)
theorem gd{l:List Int}(h:∀c∈l,Rune c):cleanF (encs l)=encs (clnG l false false):=by
 unfold cleanF cleanR;rw[jC h,gE];rfl
theorem ns(s:Bs):∃l:List Int,(∀c∈l,Rune c)∧cleanF s=encs l∧clnG l false false=l:=by
 refine⟨clnG (runesF s) false false,nr (tP s),?_,eC _ _ _ (by simp)⟩;unfold cleanF cleanR;rw[gE];rfl
theorem jn{c:Int}{l:List Int}:encs (c::l)≠ []:=fun e=>by
 have hp:=dJ c;have h2:=N5 List.length e;rw[aX,L4]at h2;simp only[M4]at h2;omega
theorem li:∀{l:List Int},(∀c∈l,Rune c)→rightS (encs l)=true
 | [],_=>rfl
 |c::l,h=>by
  have hc:=h c (by simp);rw[jy _ jn,aX,dZ,ia hc,List.drop_left' rfl,L1]
  ·exact li fun x hx=>h x (by simp[hx])
  ·rintro⟨h1,h2⟩;simp only[]at h1 h2;have:c=65533:=by unfold Rune at hc;omega
   rw[this]at h2;revert h2;decide
theorem kh:∀(l:List Int) (n:Nat),(∀c∈l,Rune c)→∃k,cutF (encs l) n=encs (l.take k)
 | [],n,_=>⟨0,by simp[cutF,encs]⟩
 |c::l,n,h=>by
  have hc:=h c (by simp);have hp:=dJ c;obtain⟨k,hk⟩:=kh l (n-(enc c).length) fun x hx=>h x (by simp[hx])
  have hd:dec (encs (c::l)) 0=(c.toNat,(enc c).length):=by rw[aX,dZ,ia hc]
  have hdr:(encs (c::l)).drop (enc c).length=encs l:=by rw[aX,List.drop_left' rfl]
  have hst:cutN (encs (c::l)).length (encs (c::l)) n=if n<(enc c).length then 0 else(enc c).length+cutN (encs l).length (encs l) (n-(enc c).length):=by
   have hl:(encs (c::l)).length=(enc c).length+(encs l).length:=(by rw[aX,L4]);obtain⟨f,hf⟩:∃f,(encs (c::l)).length=f+1:=⟨(encs (c::l)).length-1,by omega⟩;rw[hf,cutN,L1 jn,hd];simp only[];rw[hdr,iO f (encs l) _ (by omega)]
  unfold cutF at hk ⊢;rw[hst];by_cases h2:n<(enc c).length
  ·rw[L7 h2];exact⟨0,rfl⟩
  ·rw[L1 h2];refine⟨k+1,?_⟩;rw[O7,aX,aX, ← hk,List.take_append,O1 (by omega),U6]
theorem xV(s:Bs)(n:Nat):∃l:List Int,(∀c∈l,Rune c)∧shortF s n=encs l∧clnG l false false=l∧(encs l).length≤n:=by
 obtain⟨l,h1,h2,h3⟩:=ns s;obtain⟨k,hk⟩:=kh l n h1;have ht:∀c∈l.take k,Rune c:=fun c hc=>h1 c (W3 hc)
 refine⟨clnG (l.take k) false false,nr ht,?_,eC _ _ _ (by simp),?_⟩
 ·unfold shortF;rw[h2,hk,gd ht]
 ·have h4:=gF (l.take k) false false;have h5:=(ig (encs l) n).1;rw[hk]at h5;simp only[N9,if_false]at h4;omega
theorem tQ(s:Bs)(n:Nat):textO (shortF s n) n=true:=by
 obtain⟨l,h1,h2,h3,h4⟩:=xV s n;unfold textO;rw[h2,li h1,gd h1,h3,P4 h4,P4 rfl];rfl
theorem tR{s:Bs}{m n:Nat}(h:textO s m=true)(hn:m≤n):textO s n=true:=by
 unfold textO at h ⊢;simp only[L2,L8]at h ⊢;exact⟨⟨by omega,h.1.2⟩,h.2⟩
theorem vC(n:Nat):textO [] n=true:=by
 unfold textO;rw[P4 (by simp)];rfl
theorem ip{t:Bs}{m:Nat}(h:textF rightS cleanF t m=true):textO t m=true:=by
 unfold textF at h;unfold textO;simp only[L2,L8,beq_iff_eq]at*;exact⟨⟨by omega,h.2.1⟩,h.2.2⟩
theorem Ba{c:Int}{l:List Int}{n:Nat}(h:∀x∈c::l,Rune x)(hn:4≤n):cutF (encs (c::l)) n≠ []:=by
 have hc:=h c (by simp);have hp:=dJ c;have h4:=(gU [c]).1;rw[xG]at h4;have hd:dec (encs (c::l)) 0=(c.toNat,(enc c).length):=by rw[aX,dZ,ia hc]
 have hdr:(encs (c::l)).drop (enc c).length=encs l:=by rw[aX,List.drop_left' rfl]
 have hl:(encs (c::l)).length=(enc c).length+(encs l).length:=by rw[aX,L4]
 have hst:cutN (encs (c::l)).length (encs (c::l)) n=if n<(enc c).length then 0 else(enc c).length+cutN (encs l).length (encs l) (n-(enc c).length):=by
  obtain⟨f,hf⟩:∃f,(encs (c::l)).length=f+1:=⟨(encs (c::l)).length-1,by omega⟩;rw[hf,cutN,L1 jn,hd];simp only[];rw[hdr,iO f (encs l) _ (by omega)]
 simp only[W9]at h4;rw[L1 (by omega)]at hst;unfold cutF;rw[hst];intro e;have:=N5 List.length e;rw[O3,M4]at this;omega
theorem yf{u:Bs}{n:Nat}(hn:4≤n)(h0:u≠ [])(hc:cleanF u=u):shortF u n≠ []:=by
 obtain⟨l,h1,h2,h3⟩:=ns u;rw[hc]at h2;cases l with
 |nil=>exact absurd h2 h0
 |cons c t=>
  have hz:=gF t false false;have hp:=dJ c;simp only[N9,if_false,V3]at hz;have hl:(encs (c::t)).length=(enc c).length+(encs t).length:=by rw[aX,L4]
  have hb:¬blankR c=true:=fun hb=>by
   rw[clnG,L7 hb]at h3;rw[h3]at hz;omega
  have hk:¬ctlR c=true:=fun hk=>by
   rw[clnG,L1 hb,L7 hk]at h3;rw[h3]at hz;omega
  unfold shortF;rw[hc,h2];obtain⟨k,hk2⟩:=kh (c::t) n h1;have hne:=Ba h1 hn;rw[hk2]at hne ⊢;cases k with
  |zero=>exact absurd rfl hne
  |succ k=>
   rw[O7,gd (fun x hx=>h1 x (by
    rcases N0.1 hx with rfl|hx
    ·exact R2 ..
    ·exact P6 _ (W3 hx))),clnG,L1 hb,L1 hk]
   exact jn
theorem Bb{f:Fe}(h:feT f):oneOk (feO f)=true:=by
 have hu:=ip h.2.1;have hc:cleanF f.url=f.url:=by
  unfold textO at hu;simp only[L2,L8]at hu;exact hu.2
 unfold oneOk feO;show(decide ((if f.title=[]then shortF f.url 256 else f.title)≠ [])&&textO (if f.title=[]then shortF f.url 256 else f.title) 256&&textO f.url 512&&(decide (f.url=[])||decide (([]:List Outl)=[])))=true;rw[hu];by_cases h0:f.title=[]
 ·rw[L7 h0,tQ,P4 (yf (by omega) h.1 hc)];simp
 ·rw[L1 h0,ip h.2.2,P4 h0];simp
theorem Bc{f:Fo}(h:f.name≠ []∧textF rightS cleanF f.name 64=true)(l:List Outl):oneOk ⟨f.name,[],l⟩=true:=by
 unfold oneOk;show(decide (f.name≠ [])&&textO f.name 256&&textO [] 512&&(decide (([]:Bs)=[])||decide (l=[])))=true;rw[tR (ip (m:=64) h.2) (by omega),vC,P4 h.1];simp
def upN(up:Int→Int):Nat→Int→Int
 |0,x=>x
 |n+1,x=>up (upN up n x)
def inW(up:Int→Int)(d:Int→Nat)(i x:Int):Bool:=decide (d i≤d x)&&decide (upN up (d x-d i) x=i)
def sumN{α:Type}(g:α→Nat):List α→Nat
 | []=>0
 |a::l=>g a+sumN g l
theorem pw{α:Type}(g g':α→Nat)(l:List α):sumN (fun a=>g a+g' a) l=sumN g l+sumN g' l:=by
 induction l with
 |nil=>rfl
 |cons a l ih=>simp only[sumN,ih];omega
theorem yg{α:Type}(g:α→Nat)(a b:List α):sumN g (a++b)=sumN g a+sumN g b:=by
 induction a with
 |nil=>simp[sumN]
 |cons x a ih=>simp only[P3,sumN,ih];omega
theorem yh{α β:Type}(g:β→Nat)(m:α→β)(l:List α):sumN g (l.map m)=sumN (fun a=>g (m a)) l:=by
 induction l with
 |nil=>rfl
 |cons a l ih=>simp only[N6,sumN,ih]
theorem zS{α:Type}{g g':α→Nat}{l:List α}(h:∀a∈l,g a≤g' a):sumN g l≤sumN g' l:=by
 induction l with
 |nil=>exact M3 _
 |cons a l ih=>
  have h1:=h a (R2 ..);have h2:=ih fun x hx=>h x (P6 _ hx)
  simp only[sumN];omega
theorem yi{α:Type}(p:α→Bool)(l:List α):sumN (fun a=>if p a then 1 else 0) l=l.countP p:=by
 induction l with
 |nil=>rfl
 |cons a l ih=>rw[sumN,ih,List.countP_cons];omega
theorem fY{α:Type}{g:α→Nat}{l:List α}(h:∀a∈l,g a=0):sumN g l=0:=by
 induction l with
 |nil=>rfl
 |cons a l ih=>rw[sumN,h a (R2 ..),ih fun x hx=>h x (P6 _ hx)]
def kidsI(fo:List Fo)(i:Int):List Fo:=fo.filter fun f=>decide (f.inn=i)
theorem nz{fo:List Fo}{i:Int}{f:Fo}(h:f∈kidsI fo i):f∈fo∧f.inn=i:=by
 unfold kidsI at h;rw[U1,L8]at h;exact h
theorem nB{p:Fo→Bool}:∀{L:List Fo},(L.map (·.id)).Nodup→(∀f∈L,∀g∈L,p f=true→p g=true→f.id=g.id)→L.countP p≤1
 | [],_,_=>by simp
 |f::L,nd,h=>by
  rw[N6,X4]at nd;have ih:=nB nd.2 fun a ha b hb=>h a (P6 _ ha) b (P6 _ hb)
  rw[List.countP_cons];by_cases hp:p f=true
  ·have:L.countP p=0:=by
    rw[List.countP_eq_zero];intro g hg hpg;have:=h f (R2 ..) g (P6 _ hg) hp hpg;exact nd.1 (this▸M7.2 ⟨g,hg,rfl⟩)
   rw[this];split<;>omega
  ·rw[L1 hp];omega
section
variable {fo:List Fo} {up:Int→Int} {d:Int→Nat}
theorem Bd(h:∀f∈fo,up f.id=f.inn∧d f.id=d f.inn+1)(nd:(fo.map (·.id)).Nodup)(i x:Int):(if decide (x=i)=true then 1 else 0)+(kidsI fo i).countP (fun f=>inW up d f.id x)≤if inW up d i x=true then 1 else 0:=by
 have hk:∀f∈kidsI fo i,inW up d f.id x=true→d f.id=d i+1∧d f.id≤d x∧upN up (d x-d f.id) x=f.id∧up f.id=i:=fun f hf hw=>by
  obtain⟨h1,h2⟩:=nz hf;unfold inW at hw;rw[L2,L8,L8]at hw;have:=h f h1;rw[h2]at this;exact⟨this.2,hw.1,hw.2,this.1⟩
 have hnd:((kidsI fo i).map (·.id)).Nodup:=nd.sublist (List.filter_sublist.map _);have h1:=nB (p:=fun f=>inW up d f.id x) hnd fun f hf g hg hpf hpg=>by
  have a:=hk f hf hpf;have b:=hk g hg hpg;rw[← a.2.2.1, ← b.2.2.1,a.1,b.1]
 have hin:inW up d i i=true:=by unfold inW;simp[upN]
 by_cases hx:x=i
 ·subst hx;have:(kidsI fo x).countP (fun f=>inW up d f.id x)=0:=by
   rw[List.countP_eq_zero];intro f hf hw;have:=hk f hf hw;omega
  rw[this,hin];simp
 ·rw[L1 (by simpa using hx)];by_cases hz:(kidsI fo i).countP (fun f=>inW up d f.id x)=0
  ·rw[hz];omega
  ·obtain⟨f,hf,hw⟩:=List.countP_pos_iff.1 (Nat.pos_of_ne_zero hz);have a:=hk f hf hw;rw[L7]
   ·omega
   ·unfold inW;rw[L2,L8,L8];refine⟨by omega,?_⟩;rw[show d x-d i=(d x-d f.id)+1 by omega,upN,a.2.2.1];exact a.2.2.2
theorem pz(h:∀f∈fo,up f.id=f.inn∧d f.id=d f.inn+1)(nd:(fo.map (·.id)).Nodup)(i:Int)(l:List Int):l.countP (fun x=>decide (x=i))+sumN (fun f=>l.countP (inW up d f.id)) (kidsI fo i)≤l.countP (inW up d i):=by
 induction l with
 |nil=>rw[show sumN (fun f:Fo=>List.countP (inW up d f.id) ([]:List Int)) (kidsI fo i)=0 from fY fun _ _=>rfl];simp
 |cons x l ih=>
  have h1:=Bd h nd i x;have e:sumN (fun f:Fo=>(x::l).countP (inW up d f.id)) (kidsI fo i)=sumN (fun f=>l.countP (inW up d f.id)) (kidsI fo i)+(kidsI fo i).countP (fun f=>inW up d f.id x):=by
   rw[← yi, ← pw];congr 1
   funext f
   rw[List.countP_cons]
  rw[e,List.countP_cons,List.countP_cons];omega
theorem j5(g:List Outl→Nat):∀(t:List Outl) (n:Nat),(∀o∈t,oneOk o=true)→n+sumN (fun o:Outl=>g o.kids) t≤512→cntGo g t n=n+sumN (fun o:Outl=>g o.kids) t
 | [],n,_,_=>rfl
 |o::t,n,ho,hs=>by
  rw[sumN]at hs ⊢;rw[cntGo,L7 (ho o (R2 ..)),L1 (by omega),j5 g t _ (fun x hx=>ho x (P6 _ hx)) (by omega)];omega
theorem zT{fe:List Fe}(h:∀f∈fo,up f.id=f.inn∧d f.id=d f.inn+1)(nd:(fo.map (·.id)).Nodup)(ho:∀f∈fo,f.name≠ []∧textF rightS cleanF f.name 64=true)(hf:∀f∈fe,feT f)(hl:fo.length+fe.length≤512):
  ∀(k:Nat) (i:Int),cntN (k+1) (outF fo fe k i)≤(fo.map (·.inn)).countP (inW up d i)+(fe.map (·.inn)).countP (inW up d i):=by
 have hb:∀i,(fo.map (·.inn)).countP (inW up d i)+(fe.map (·.inn)).countP (inW up d i)≤512:=fun i=>by
  have h1:=List.countP_le_length (p:=inW up d i) (l:=fo.map (·.inn));have h2:=List.countP_le_length (p:=inW up d i) (l:=fe.map (·.inn));rw[N4]at h1 h2;omega
 have hkf:∀i,((fe.filter fun f=>decide (f.inn=i)).map feO).length=(fe.map (·.inn)).countP (fun x=>decide (x=i)):=fun i=>by
  rw[N4,List.countP_map,List.countP_eq_length_filter];rfl
 have hko:∀i,(kidsI fo i).length=(fo.map (·.inn)).countP (fun x=>decide (x=i)):=fun i=>by
  unfold kidsI;rw[List.countP_map,List.countP_eq_length_filter];rfl
 have hfeo:∀i,∀o∈ (fe.filter fun f=>decide (f.inn=i)).map feO,oneOk o=true∧o.kids=[]:=fun i o ho=>by
  obtain⟨f,hm,rfl⟩:=M7.1 ho;exact⟨Bb (hf f (U1.1 hm).1),rfl⟩
 intro k;induction k with
 |zero=>
  intro i;have a:=pz h nd i (fe.map (·.inn));have b:=hb i;have c:=hkf i;rw[outF,cntN,L1 (by omega),j5 _ _ _ (fun o ho=>(hfeo i o ho).1) (by rw[fY (fun o ho=>by rw[(hfeo i o ho).2,io])];omega),fY (fun o ho=>by rw[(hfeo i o ho).2,io])];omega
 |succ k ih=>
  intro i;have a:=pz h nd i (fe.map (·.inn));have a2:=pz h nd i (fo.map (·.inn));have b:=hb i;have c:=hkf i;have c2:=hko i;have hs:sumN (fun o:Outl=>cntN (k+1) o.kids) (((kidsI fo i).map fun f=>(⟨f.name,[],outF fo fe k f.id⟩:Outl))++(fe.filter fun f=>decide (f.inn=i)).map feO)≤sumN (fun f:Fo=>(fo.map (·.inn)).countP (inW up d f.id)) (kidsI fo i)+sumN (fun f:Fo=>(fe.map (·.inn)).countP (inW up d f.id)) (kidsI fo i):=by
   rw[yg,fY (l:=(fe.filter fun f=>decide (f.inn=i)).map feO) (fun o ho=>by rw[(hfeo i o ho).2,io]),yh,V3, ← pw];exact zS fun f _=>ih f.id
  have hlen:(((kidsI fo i).map fun f=>(⟨f.name,[],outF fo fe k f.id⟩:Outl))++(fe.filter fun f=>decide (f.inn=i)).map feO).length=(kidsI fo i).length+(fe.map (·.inn)).countP (fun x=>decide (x=i)):=by
   rw[L4,c,N4]
  have hall:∀o∈ ((kidsI fo i).map fun f=>(⟨f.name,[],outF fo fe k f.id⟩:Outl))++(fe.filter fun f=>decide (f.inn=i)).map feO,oneOk o=true:=fun o hm=>by
   rcases U2.1 hm with hm|hm
   ·obtain⟨f,hm2,rfl⟩:=M7.1 hm;exact Bc (ho f (nz hm2).1) _
   ·exact(hfeo i o hm).1
  show cntN (k+1+1) (((kidsI fo i).map fun f=>(⟨f.name,[],outF fo fe k f.id⟩:Outl))++(fe.filter fun f=>decide (f.inn=i)).map feO)≤_;generalize ((kidsI fo i).map fun f=>(⟨f.name,[],outF fo fe k f.id⟩:Outl))++(fe.filter fun f=>decide (f.inn=i)).map feO=l at*;rw[cntN,L1 (by omega),j5 _ _ _ hall (by omega)];omega
end
theorem pB:∀(f:Nat) (l:List Outl),cntN f l≤512→OkN f l
 |0,l,h=>by rw[eD h];exact OkN.nil 0
 |f+1,l,h=>by
  have hl:l.length≤512:=by
   rw[cntN]at h;by_cases hl:512<l.length
   ·rw[L7 hl]at h;omega
   ·omega
  refine⟨by omega,fun o ho=>?_⟩;have h1:=(eE h).1 o ho;have h2:=h1.1;unfold oneOk textO at h2;simp only[L2,L8]at h2;exact⟨by omega,by omega,pB f o.kids h1.2⟩
def PS.outl(s:PS):List Outl:=outF s.tell.fo s.tell.fe 7 0
theorem zU{s:PS}(hI:s.Inv)(hT:s.Txt):cntN 8 s.outl≤128:=by
 have hlo:s.tell.fo.length≤64:=by show(valsM Fo.z s.fo).length≤64;rw[fD];exact hI.l1
 have hle:s.tell.fe.length≤64:=by show(valsM Fe.z s.fe).length≤64;rw[fD];exact hI.l2
 have hup:∀f∈s.tell.fo,((lkM s.fo f.id).map (·.inn)).getD 0=f.inn∧s.dpt f.id=s.dpt f.inn+1:=fun f hf=>by
  obtain⟨k,hk⟩:=pj hf;have hid:=(hI.i1 _ _ hk).1;rw[← hid]at hk;obtain⟨h1,h2⟩:=hI.deep f.id;obtain⟨h3,h4⟩:=hI.deep f.inn;refine⟨by rw[hk];rfl,?_⟩;rw[deepO,hk]at h1;simp only[N2]at h1;obtain⟨d,hd,he⟩:=h1;have:=iS hd (k':=7) (by omega);rw[h3]at this;cases this;exact he.symm
 have nd:(s.tell.fo.map (·.id)).Nodup:=by
  show((valsM Fo.z s.fo).map (·.id)).Nodup;rw[vA hI.w1 fun k a hk=>(hI.i1 k a hk).1];exact xU hI.w1.keys
 have key:=zT (up:=fun x=>((lkM s.fo x).map (·.inn)).getD 0) (d:=s.dpt) hup nd (fun f hf=>by obtain⟨k,hk⟩:=pj hf;exact hT.fo k f hk) (fun f hf=>by obtain⟨k,hk⟩:=vB hf;exact hT.fe k f hk) (by omega) 7 0;have h1:=List.countP_le_length (p:=inW (fun x=>((lkM s.fo x).map (·.inn)).getD 0) s.dpt 0) (l:=s.tell.fo.map (·.inn));have h2:=List.countP_le_length (p:=inW (fun x=>((lkM s.fo x).map (·.inn)).getD 0) s.dpt 0) (l:=s.tell.fe.map (·.inn));rw[N4]at h1 h2;have key:cntN 8 (outF s.tell.fo s.tell.fe 7 0)≤_:=key;unfold PS.outl;omega
end Go.Av
