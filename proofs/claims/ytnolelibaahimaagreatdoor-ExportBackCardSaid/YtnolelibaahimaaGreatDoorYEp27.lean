/- Parts. -/
import Derived.Test.YtnolelibaahimaaGreatDoorYEp20
set_option linter.unusedSimpArgs false
set_option linter.unusedVariables false
set_option linter.unusedSectionVars false
set_option linter.unnecessarySimpa false
set_option maxRecDepth 100000
set_option maxHeartbeats 16000000
namespace Go.Av
open Go Go.Proofs Go.RowKit
section
variable {s:PS} {e:Ev}
def feT(f:Fe):Prop:=f.url≠ []∧textF rightS cleanF f.url 512=true∧textF rightS cleanF f.title 256=true
structure PS.Txt (s:PS):Prop where
 fo:∀k f,lkM s.fo k=some f→f.name≠ []∧textF rightS cleanF f.name 64=true
 fe:∀k f,lkM s.fe k=some f→feT f
theorem PS.Txt.z0:PS.z.Txt:=⟨fun _ _ h=>(by cases h),fun _ _ h=>by cases h⟩
theorem PS.Txt.same{z:PS}(h:s.Txt)(a:z.fo=s.fo)(b:z.fe=s.fe):z.Txt:=⟨by rw[a];exact h.fo,by rw[b];exact h.fe⟩
theorem Bw{t:Bs}{b:Bool}(h:(!(t==[])&&b)=true):t≠ []∧b=true:=by
 rw[M2]at h;exact⟨by simpa using h.1,h.2⟩
theorem PS.Txt.aft(h:s.Txt)(hI:s.Inv)(hok:s.ok L0 e=true):(s.aft e).Txt:=by
 unfold PS.ok PS.fits at hok;rw[M2]at hok;obtain⟨hck,hfit⟩:=hok;unfold Leaf.ck at hck;rw[M2]at hck;have hr:=hck.1;clear hck;unfold Leaf.right at hr;unfold PS.aft PS.after;split
 ·have hh:=cm ((s.dlNm (((lkM s.fo e.a).getD Fo.z).inn,((lkM s.fo e.a).getD Fo.z).name)).dlFo e.a) ((lkM s.fo e.a).getD Fo.z).inn (-1);refine PS.Txt.same (s:=(s.dlNm (((lkM s.fo e.a).getD Fo.z).inn,((lkM s.fo e.a).getD Fo.z).name)).dlFo e.a) ⟨fun k f hf=>?_,h.fe⟩ hh.1 hh.2.1;have hf:lkM (dlM s.fo e.a) k=some f:=hf;exact h.fo k f (cJ hI.w1.keys hf).2
 split
 ·have hh:=cm ((({s with it:=itF s.it ((lkM s.fe e.a).getD Fe.z).id,gu:=guF s.it s.gu ((lkM s.fe e.a).getD Fe.z).id}:PS).dlPl ((lkM s.fe e.a).getD Fe.z).url).dlFe ((lkM s.fe e.a).getD Fe.z).id) ((lkM s.fe e.a).getD Fe.z).inn (-1);refine PS.Txt.same (s:=(({s with it:=itF s.it ((lkM s.fe e.a).getD Fe.z).id,gu:=guF s.it s.gu ((lkM s.fe e.a).getD Fe.z).id}:PS).dlPl ((lkM s.fe e.a).getD Fe.z).url).dlFe ((lkM s.fe e.a).getD Fe.z).id) ⟨h.fo,fun k f hf=>?_⟩ hh.1 hh.2.1;have hf:lkM (dlM s.fe ((lkM s.fe e.a).getD Fe.z).id) k=some f:=hf;exact h.fe k f (cJ hI.w2.keys hf).2
 split
 ·rename_i k5;rw[M1 (by omega),M1 (by omega),M1 (by omega),M7 (.inr k5)]at hfit;rw[M1 (by omega),M1 (by omega),M1 (by omega),M7 k5,M2]at hr;refine⟨h.fo,fun k f hf=>?_⟩;have hf:lkM (upM s.fe s.c2 e.a {(lkM s.fe e.a).getD Fe.z with title:=e.t}) k=some f:=hf;rcases aE hf with⟨rfl,rfl⟩| ⟨_,hf⟩
  ·obtain⟨g,hg⟩:=aF hfit;have:=h.fe _ _ hg;rw[hg];exact⟨this.1,this.2.1,hr.2⟩
  ·exact h.fe k f hf
 split
 ·rename_i k6;rw[M1 (by omega),M1 (by omega),M1 (by omega),M1 (by omega),M7 k6,M2]at hfit;have h1:=cm s ((lkM s.fe e.a).getD Fe.z).inn (-1);have h2:=cm (s.hold ((lkM s.fe e.a).getD Fe.z).inn (-1)) e.b 1;refine⟨fun k f hf=>?_,fun k f hf=>?_⟩
  ·have hf:lkM ((s.hold ((lkM s.fe e.a).getD Fe.z).inn (-1)).hold e.b 1).fo k=some f:=hf;rw[h2.1,h1.1]at hf;exact h.fo k f hf
  ·have hf:lkM (upM ((s.hold ((lkM s.fe e.a).getD Fe.z).inn (-1)).hold e.b 1).fe _ e.a {(lkM s.fe e.a).getD Fe.z with inn:=e.b}) k=some f:=hf;rw[h2.2.1,h1.2.1]at hf;rcases aE hf with⟨rfl,rfl⟩| ⟨_,hf⟩
   ·obtain⟨g,hg⟩:=aF hfit.1;have:=h.fe _ _ hg;rw[hg];exact this
   ·exact h.fe k f hf
 split
 ·exact h.same rfl rfl
 split
 ·exact h.same rfl rfl
 split
 ·exact h.same rfl rfl
 split
 ·exact h.same rfl rfl
 split
 ·exact h.same rfl rfl
 unfold PS.make;split
 ·rename_i k1;rw[M7 k1,M2,M2]at hr;have hh:=cm ((s.upFo e.a ⟨e.a,e.b,e.s⟩).upNm (e.b,e.s) e.a) e.b 1;have hl:=Bw hr.2.2;refine PS.Txt.same (s:=(s.upFo e.a ⟨e.a,e.b,e.s⟩).upNm (e.b,e.s) e.a) ⟨fun k f hf=>?_,h.fe⟩ hh.1 hh.2.1;have hf:lkM (upM s.fo s.c1 e.a ⟨e.a,e.b,e.s⟩) k=some f:=hf;rcases aE hf with⟨rfl,rfl⟩| ⟨_,hf⟩
  ·exact hl
  ·exact h.fo k f hf
 split
 ·rename_i k3;rw[M1 (by omega),M1 (by omega),M7 k3,M2,M2,M2]at hr;have hh:=cm ((s.upFe e.a ⟨e.a,e.b,e.s,e.t⟩).upPl e.s e.a) e.b 1;have hl:=Bw hr.2.2.1;refine PS.Txt.same (s:=(s.upFe e.a ⟨e.a,e.b,e.s,e.t⟩).upPl e.s e.a) ⟨h.fo,fun k f hf=>?_⟩ hh.1 hh.2.1;have hf:lkM (upM s.fe s.c2 e.a ⟨e.a,e.b,e.s,e.t⟩) k=some f:=hf;rcases aE hf with⟨rfl,rfl⟩| ⟨_,hf⟩
  ·exact⟨hl.1,hl.2,hr.2.2.2⟩
  ·exact h.fe k f hf
 split
 ·exact h.same rfl rfl
 split
 ·exact h.same rfl rfl
 ·exact h
theorem PS.Txt.step(h:s.Txt)(hI:s.Inv)(e:Ev):(s.step L0 e).Txt:=by
 unfold PS.step;split
 ·rename_i hk;exact h.aft hI hk
 ·exact h
theorem PS.Txt.fold(es:List Ev):∀{s:PS},s.Txt→s.Inv→(es.foldl (PS.step L0) s).Txt:=by
 induction es with
 |nil=>intro s h _;exact h
 |cons e es ih=>intro s h hI;exact ih (h.step hI e) (hI.step e)
end
section
def feO(f:Fe):Outl:=⟨if f.title=[]then shortF f.url 256 else f.title,f.url,[]⟩
def outF(fo:List Fo)(fe:List Fe):Nat→Int→List Outl
 |0,i=>(fe.filter fun f=>decide (f.inn=i)).map feO
 |k+1,i=>((fo.filter fun f=>decide (f.inn=i)).map fun f=>⟨f.name,[],outF fo fe k f.id⟩)++(fe.filter fun f=>decide (f.inn=i)).map feO
def Lv(fo:List Fo):Nat→Int→Prop
 |0,i=>∀f∈fo,f.inn≠i
 |k+1,i=>∀f∈fo,f.inn=i→Lv fo k f.id
theorem lw{fo:List Fo}{i:Int}(h:∀f∈fo,f.inn≠i):(fo.filter fun f=>decide (f.inn=i))=[]:=by
 rw[Y3];intro f hf;simpa using h f hf
theorem eH{s:PS}{f:Fo}(h:f∈s.tell.fo):∃k,lkM s.fo k=some f:=da h
theorem j6{s:PS}{f:Fe}(h:f∈s.tell.fe):∃k,lkM s.fe k=some f:=da h
theorem DR{s:PS}(hI:s.Inv):∀(k:Nat) (i:Int),(i=0∨(lkM s.fo i).isSome=true)→7≤s.dpt i+k→Lv s.tell.fo k i:=by
 have up:∀{f:Fo} {i:Int},f∈s.tell.fo→f.inn=i→s.dpt f.id=s.dpt i+1∧s.dpt f.id≤7∧(lkM s.fo f.id).isSome=true:=fun {f i} hf hi=>by
  obtain⟨k,hk⟩:=eH hf;have hid:=(hI.i1 _ _ hk).1;rw[← hid]at hk;obtain⟨h1,h2⟩:=hI.deep f.id;obtain⟨h3,h4⟩:=hI.deep i;refine⟨?_,h2,by rw[hk];rfl⟩;rw[deepO,hk]at h1;simp only[hi,N9]at h1;obtain⟨d,hd,he⟩:=h1;have:=eF hd (k':=7) (by have:=h2;omega);rw[h3]at this;cases this;exact he.symm
 intro k;induction k with
 |zero=>
  intro i _ hd f hf hi;have:=up hf hi;omega
 |succ k ih=>
  intro i _ hd f hf hi;have:=up hf hi;exact ih f.id (.inr this.2.2) (by omega)
theorem By{s:PS}(hI:s.Inv):Lv s.tell.fo 7 0:=DR hI 7 0 (.inl rfl) (by omega)
def clnG:List Int→Bool→Bool→List Int
 | [],_,_=>[]
 |c::t,e,w=>if blankR c then clnG t e e else if ctlR c then clnG t e w else(if w then [32,c]else [c])++clnG t true false
theorem gF:∀(l o:List Int) (w:Bool),clnR l o w=o++clnG l (decide (0<o.length)) w
 | [],o,w=>by simp[clnR,clnG]
 |c::t,o,w=>by
  rw[clnR,clnG];split
  ·exact gF t o _
  ·split
   ·exact gF t o w
   ·rw[gF t _ false,O9];have:decide (0<(o++if w=true then [32,c]else [c]).length)=true:=by
     refine R4 ?_;rw[M3];split<;>simp<;>omega
    rw[this]
theorem eI:∀(l:List Int) (e w:Bool),(w=true→e=true)→clnG (clnG l e w) e false=clnG l e w
 | [],e,w,_=>rfl
 |c::t,e,w,h=>by
  rw[clnG];by_cases hb:blankR c=true
  ·rw[M7 hb];exact eI t e e id
  ·rw[M1 hb];by_cases hk:ctlR c=true
   ·rw[M7 hk];exact eI t e w h
   ·rw[M1 hk];have ih:=eI t true false (by simp);have h32:blankR 32=true:=(by decide);cases w with
    |false=>
     show clnG (c::clnG t true false) e false=c::clnG t true false;rw[clnG,M1 hb,M1 hk,ih];rfl
    |true=>
     rw[h rfl];show clnG (32::c::clnG t true false) true false=32::c::clnG t true false;rw[clnG,M7 h32,clnG,M1 hb,M1 hk,ih];rfl
theorem gG:∀(l:List Int) (e w:Bool),(encs (clnG l e w)).length≤(encs l).length+(if w then 1 else 0)
 | [],e,w=>by simp[clnG,encs]
 |c::t,e,w=>by
  rw[clnG,b8,M3];have hp:=dQ c;split
  ·have:=gG t e e;have:(if e=true then 1 else 0)≤1:=by split<;>omega
   omega
  ·split
   ·have:=gG t e w;omega
   ·have ih:=gG t true false;rw[yb,M3];have h32:(enc 32).length=1:=(by decide);cases w with
    |false=>
     have:(encs (if false=true then [32,c]else [c])).length=(enc c).length:=by simp[encs]
     simp only[P0,if_false]at*;omega
    |true=>
     have:(encs (if true=true then [32,c]else [c])).length=1+(enc c).length:=by simp[encs,h32]
     simp only[if_true]at*;simp only[P0,if_false]at ih;omega
theorem nv{l:List Int}(h:∀c∈l,Rune c):∀c∈clnG l false false,Rune c:=by
 have:=fQ l [] false h (by simp);rw[gF]at this;exact this
theorem tW(s:Bs):∀c∈runesF s,Rune c:=qk s.length s (N3 _)
theorem gd{l:List Int}(h:∀c∈l,Rune c):cleanF (encs l)=encs (clnG l false false):=by
 unfold cleanF cleanR;rw[jH h,gF];rfl
theorem nw(s:Bs):∃l:List Int,(∀c∈l,Rune c)∧cleanF s=encs l∧clnG l false false=l:=by
 refine⟨clnG (runesF s) false false,nv (tW s),?_,eI _ _ _ (by simp)⟩;unfold cleanF cleanR;rw[gF];rfl
theorem jt{c:Int}{l:List Int}:encs (c::l)≠ []:=fun e=>by
 have hp:=dQ c;have h2:=O6 List.length e;rw[b8,M3]at h2;simp only[N4]at h2;omega
theorem lz:∀{l:List Int},(∀c∈l,Rune c)→rightS (encs l)=true
 | [],_=>rfl
 |c::l,h=>by
  have hc:=h c (by simp);rw[jD _ jt,b8,ed,i8 hc,List.drop_left' rfl,M1]
  ·exact lz fun x hx=>h x (by simp[hx])
  ·rintro⟨h1,h2⟩;simp only[]at h1 h2;have:c=65533:=by unfold Rune at hc;omega
   rw[this]at h2;revert h2;decide
theorem kr:∀(l:List Int) (n:Nat),(∀c∈l,Rune c)→∃k,cutF (encs l) n=encs (l.take k)
 | [],n,_=>⟨0,by simp[cutF,encs]⟩
 |c::l,n,h=>by
  have hc:=h c (by simp);have hp:=dQ c;obtain⟨k,hk⟩:=kr l (n-(enc c).length) fun x hx=>h x (by simp[hx])
  have hd:dec (encs (c::l)) 0=(c.toNat,(enc c).length):=by rw[b8,ed,i8 hc]
  have hdr:(encs (c::l)).drop (enc c).length=encs l:=by rw[b8,List.drop_left' rfl]
  have hst:cutN (encs (c::l)).length (encs (c::l)) n=if n<(enc c).length then 0 else(enc c).length+cutN (encs l).length (encs l) (n-(enc c).length):=by
   have hl:(encs (c::l)).length=(enc c).length+(encs l).length:=(by rw[b8,M3]);obtain⟨f,hf⟩:∃f,(encs (c::l)).length=f+1:=⟨(encs (c::l)).length-1,by omega⟩;rw[hf,cutN,M1 jt,hd];simp only[];rw[hdr,iQ f (encs l) _ (by omega)]
  unfold cutF at hk ⊢;rw[hst];by_cases h2:n<(enc c).length
  ·rw[M7 h2];exact⟨0,rfl⟩
  ·rw[M1 h2];refine⟨k+1,?_⟩;rw[P9,b8,b8, ← hk,List.take_append,P5 (by omega),W3]
theorem yv(s:Bs)(n:Nat):∃l:List Int,(∀c∈l,Rune c)∧shortF s n=encs l∧clnG l false false=l∧(encs l).length≤n:=by
 obtain⟨l,h1,h2,h3⟩:=nw s;obtain⟨k,hk⟩:=kr l n h1;have ht:∀c∈l.take k,Rune c:=fun c hc=>h1 c (Y0 hc)
 refine⟨clnG (l.take k) false false,nv ht,?_,eI _ _ _ (by simp),?_⟩
 ·unfold shortF;rw[h2,hk,gd ht]
 ·have h4:=gG (l.take k) false false;have h5:=(ij (encs l) n).1;rw[hk]at h5;simp only[P0,if_false]at h4;omega
theorem tX(s:Bs)(n:Nat):textO (shortF s n) n=true:=by
 obtain⟨l,h1,h2,h3,h4⟩:=yv s n;unfold textO;rw[h2,lz h1,gd h1,h3,R4 h4,R4 rfl];rfl
theorem tY{s:Bs}{m n:Nat}(h:textO s m=true)(hn:m≤n):textO s n=true:=by
 unfold textO at h ⊢;simp only[M2,M8]at h ⊢;exact⟨⟨by omega,h.1.2⟩,h.2⟩
theorem vP(n:Nat):textO [] n=true:=by
 unfold textO;rw[R4 (by simp)];rfl
theorem fG{t:Bs}{m:Nat}(h:textF rightS cleanF t m=true):textO t m=true:=by
 unfold textF at h;unfold textO;simp only[M2,M8,beq_iff_eq]at*;exact⟨⟨by omega,h.2.1⟩,h.2.2⟩
theorem BD{c:Int}{l:List Int}{n:Nat}(h:∀x∈c::l,Rune x)(hn:4≤n):cutF (encs (c::l)) n≠ []:=by
 have hc:=h c (by simp);have hp:=dQ c;have h4:=(gW [c]).1;rw[yc]at h4;have hd:dec (encs (c::l)) 0=(c.toNat,(enc c).length):=by rw[b8,ed,i8 hc]
 have hdr:(encs (c::l)).drop (enc c).length=encs l:=by rw[b8,List.drop_left' rfl]
 have hl:(encs (c::l)).length=(enc c).length+(encs l).length:=by rw[b8,M3]
 have hst:cutN (encs (c::l)).length (encs (c::l)) n=if n<(enc c).length then 0 else(enc c).length+cutN (encs l).length (encs l) (n-(enc c).length):=by
  obtain⟨f,hf⟩:∃f,(encs (c::l)).length=f+1:=⟨(encs (c::l)).length-1,by omega⟩;rw[hf,cutN,M1 jt,hd];simp only[];rw[hdr,iQ f (encs l) _ (by omega)]
 simp only[U8]at h4;rw[M1 (by omega)]at hst;unfold cutF;rw[hst];intro e;have:=O6 List.length e;rw[P6,N4]at this;omega
theorem yG{u:Bs}{n:Nat}(hn:4≤n)(h0:u≠ [])(hc:cleanF u=u):shortF u n≠ []:=by
 obtain⟨l,h1,h2,h3⟩:=nw u;rw[hc]at h2;cases l with
 |nil=>exact absurd h2 h0
 |cons c t=>
  have hz:=gG t false false;have hp:=dQ c;simp only[P0,if_false,W1]at hz;have hl:(encs (c::t)).length=(enc c).length+(encs t).length:=by rw[b8,M3]
  have hb:¬blankR c=true:=fun hb=>by
   rw[clnG,M7 hb]at h3;rw[h3]at hz;omega
  have hk:¬ctlR c=true:=fun hk=>by
   rw[clnG,M1 hb,M7 hk]at h3;rw[h3]at hz;omega
  unfold shortF;rw[hc,h2];obtain⟨k,hk2⟩:=kr (c::t) n h1;have hne:=BD h1 hn;rw[hk2]at hne ⊢;cases k with
  |zero=>exact absurd rfl hne
  |succ k=>
   rw[P9,gd (fun x hx=>h1 x (by
    rcases O5.1 hx with rfl|hx
    ·exact Q0 ..
    ·exact P3 _ (Y0 hx))),clnG,M1 hb,M1 hk]
   exact jt
theorem vY{f:Fe}(h:feT f):oneOk (feO f)=true:=by
 have hu:=fG h.2.1;have hc:cleanF f.url=f.url:=by
  unfold textO at hu;simp only[M2,M8]at hu;exact hu.2
 unfold oneOk feO;show(decide ((if f.title=[]then shortF f.url 256 else f.title)≠ [])&&textO (if f.title=[]then shortF f.url 256 else f.title) 256&&textO f.url 512&&(decide (f.url=[])||decide (([]:List Outl)=[])))=true;rw[hu];by_cases h0:f.title=[]
 ·rw[M7 h0,tX,R4 (yG (by omega) h.1 hc)];simp
 ·rw[M1 h0,fG h.2.2,R4 h0];simp
theorem BE{f:Fo}(h:f.name≠ []∧textF rightS cleanF f.name 64=true)(l:List Outl):oneOk ⟨f.name,[],l⟩=true:=by
 unfold oneOk;show(decide (f.name≠ [])&&textO f.name 256&&textO [] 512&&(decide (([]:Bs)=[])||decide (l=[])))=true;rw[tY (fG (m:=64) h.2) (by omega),vP,R4 h.1];simp
def upN(up:Int→Int):Nat→Int→Int
 |0,x=>x
 |n+1,x=>up (upN up n x)
def inW(up:Int→Int)(d:Int→Nat)(i x:Int):Bool:=decide (d i≤d x)&&decide (upN up (d x-d i) x=i)
def sumN{α:Type}(g:α→Nat):List α→Nat
 | []=>0
 |a::l=>g a+sumN g l
theorem ku{α:Type}(g g':α→Nat)(l:List α):sumN (fun a=>g a+g' a) l=sumN g l+sumN g' l:=by
 induction l with
 |nil=>rfl
 |cons a l ih=>simp only[sumN,ih];omega
theorem kw{α:Type}(g:α→Nat)(a b:List α):sumN g (a++b)=sumN g a+sumN g b:=by
 induction a with
 |nil=>simp[sumN]
 |cons x a ih=>simp only[Q2,sumN,ih];omega
theorem ky{α β:Type}(g:β→Nat)(m:α→β)(l:List α):sumN g (l.map m)=sumN (fun a=>g (m a)) l:=by
 induction l with
 |nil=>rfl
 |cons a l ih=>simp only[O3,sumN,ih]
theorem mt{α:Type}{g g':α→Nat}{l:List α}(h:∀a∈l,g a≤g' a):sumN g l≤sumN g' l:=by
 induction l with
 |nil=>exact N3 _
 |cons a l ih=>
  have h1:=h a (Q0 ..);have h2:=ih fun x hx=>h x (P3 _ hx)
  simp only[sumN];omega
theorem yH{α:Type}(p:α→Bool)(l:List α):sumN (fun a=>if p a then 1 else 0) l=l.countP p:=by
 induction l with
 |nil=>rfl
 |cons a l ih=>rw[sumN,ih,W2];omega
theorem dq{α:Type}{g:α→Nat}{l:List α}(h:∀a∈l,g a=0):sumN g l=0:=by
 induction l with
 |nil=>rfl
 |cons a l ih=>rw[sumN,h a (Q0 ..),ih fun x hx=>h x (P3 _ hx)]
def kidsI(fo:List Fo)(i:Int):List Fo:=fo.filter fun f=>decide (f.inn=i)
theorem cM{fo:List Fo}{i:Int}{f:Fo}(h:f∈kidsI fo i):f∈fo∧f.inn=i:=by
 unfold kidsI at h;rw[T4,M8]at h;exact h
theorem nD{p:Fo→Bool}:∀{L:List Fo},(L.map (·.id)).Nodup→(∀f∈L,∀g∈L,p f=true→p g=true→f.id=g.id)→L.countP p≤1
 | [],_,_=>by simp
 |f::L,nd,h=>by
  rw[O3,U6]at nd;have ih:=nD nd.2 fun a ha b hb=>h a (P3 _ ha) b (P3 _ hb)
  rw[W2];by_cases hp:p f=true
  ·have:L.countP p=0:=by
    rw[List.countP_eq_zero];intro g hg hpg;have:=h f (Q0 ..) g (P3 _ hg) hp hpg;exact nd.1 (this▸N5.2 ⟨g,hg,rfl⟩)
   rw[this];split<;>omega
  ·rw[M1 hp];omega
section
variable {fo:List Fo} {up:Int→Int} {d:Int→Nat}
theorem BF(h:∀f∈fo,up f.id=f.inn∧d f.id=d f.inn+1)(nd:(fo.map (·.id)).Nodup)(i x:Int):(if decide (x=i)=true then 1 else 0)+(kidsI fo i).countP (fun f=>inW up d f.id x)≤if inW up d i x=true then 1 else 0:=by
 have hk:∀f∈kidsI fo i,inW up d f.id x=true→d f.id=d i+1∧d f.id≤d x∧upN up (d x-d f.id) x=f.id∧up f.id=i:=fun f hf hw=>by
  obtain⟨h1,h2⟩:=cM hf;unfold inW at hw;rw[M2,M8,M8]at hw;have:=h f h1;rw[h2]at this;exact⟨this.2,hw.1,hw.2,this.1⟩
 have hnd:((kidsI fo i).map (·.id)).Nodup:=nd.sublist (List.filter_sublist.map _);have h1:=nD (p:=fun f=>inW up d f.id x) hnd fun f hf g hg hpf hpg=>by
  have a:=hk f hf hpf;have b:=hk g hg hpg;rw[← a.2.2.1, ← b.2.2.1,a.1,b.1]
 have hin:inW up d i i=true:=by unfold inW;simp[upN]
 by_cases hx:x=i
 ·subst hx;have:(kidsI fo x).countP (fun f=>inW up d f.id x)=0:=by
   rw[List.countP_eq_zero];intro f hf hw;have:=hk f hf hw;omega
  rw[this,hin];simp
 ·rw[M1 (by simpa using hx)];by_cases hz:(kidsI fo i).countP (fun f=>inW up d f.id x)=0
  ·rw[hz];omega
  ·obtain⟨f,hf,hw⟩:=List.countP_pos_iff.1 (Nat.pos_of_ne_zero hz);have a:=hk f hf hw;rw[M7]
   ·omega
   ·unfold inW;rw[M2,M8,M8];refine⟨by omega,?_⟩;rw[show d x-d i=(d x-d f.id)+1 by omega,upN,a.2.2.1];exact a.2.2.2
theorem gH(h:∀f∈fo,up f.id=f.inn∧d f.id=d f.inn+1)(nd:(fo.map (·.id)).Nodup)(i:Int)(l:List Int):l.countP (fun x=>decide (x=i))+sumN (fun f=>l.countP (inW up d f.id)) (kidsI fo i)≤l.countP (inW up d i):=by
 induction l with
 |nil=>rw[show sumN (fun f:Fo=>List.countP (inW up d f.id) ([]:List Int)) (kidsI fo i)=0 from dq fun _ _=>rfl];simp
 |cons x l ih=>
  have h1:=BF h nd i x;have e:sumN (fun f:Fo=>(x::l).countP (inW up d f.id)) (kidsI fo i)=sumN (fun f=>l.countP (inW up d f.id)) (kidsI fo i)+(kidsI fo i).countP (fun f=>inW up d f.id x):=by
   rw[← yH, ← ku];congr 1
   funext f
   rw[W2]
  rw[e,W2,W2];omega
theorem j9(g:List Outl→Nat):∀(t:List Outl) (n:Nat),(∀o∈t,oneOk o=true)→n+sumN (fun o:Outl=>g o.kids) t≤512→cntGo g t n=n+sumN (fun o:Outl=>g o.kids) t
 | [],n,_,_=>rfl
 |o::t,n,ho,hs=>by
  rw[sumN]at hs ⊢;rw[cntGo,M7 (ho o (Q0 ..)),M1 (by omega),j9 g t _ (fun x hx=>ho x (P3 _ hx)) (by omega)];omega
theorem Ap{fe:List Fe}(h:∀f∈fo,up f.id=f.inn∧d f.id=d f.inn+1)(nd:(fo.map (·.id)).Nodup)(ho:∀f∈fo,f.name≠ []∧textF rightS cleanF f.name 64=true)(hf:∀f∈fe,feT f)(hl:fo.length+fe.length≤512):
  ∀(k:Nat) (i:Int),cntN (k+1) (outF fo fe k i)≤(fo.map (·.inn)).countP (inW up d i)+(fe.map (·.inn)).countP (inW up d i):=by
 have hb:∀i,(fo.map (·.inn)).countP (inW up d i)+(fe.map (·.inn)).countP (inW up d i)≤512:=fun i=>by
  have h1:=X6 (p:=inW up d i) (l:=fo.map (·.inn));have h2:=X6 (p:=inW up d i) (l:=fe.map (·.inn));rw[O0]at h1 h2;omega
 have hkf:∀i,((fe.filter fun f=>decide (f.inn=i)).map feO).length=(fe.map (·.inn)).countP (fun x=>decide (x=i)):=fun i=>by
  rw[O0,List.countP_map,List.countP_eq_length_filter];rfl
 have hko:∀i,(kidsI fo i).length=(fo.map (·.inn)).countP (fun x=>decide (x=i)):=fun i=>by
  unfold kidsI;rw[List.countP_map,List.countP_eq_length_filter];rfl
 have hfeo:∀i,∀o∈ (fe.filter fun f=>decide (f.inn=i)).map feO,oneOk o=true∧o.kids=[]:=fun i o ho=>by
  obtain⟨f,hm,rfl⟩:=N5.1 ho;exact⟨vY (hf f (T4.1 hm).1),rfl⟩
 intro k;induction k with
 |zero=>
  intro i;have a:=gH h nd i (fe.map (·.inn));have b:=hb i;have c:=hkf i;rw[outF,cntN,M1 (by omega),j9 _ _ _ (fun o ho=>(hfeo i o ho).1) (by rw[dq (fun o ho=>by rw[(hfeo i o ho).2,iv])];omega),dq (fun o ho=>by rw[(hfeo i o ho).2,iv])];omega
 |succ k ih=>
  intro i;have a:=gH h nd i (fe.map (·.inn));have a2:=gH h nd i (fo.map (·.inn));have b:=hb i;have c:=hkf i;have c2:=hko i;have hs:sumN (fun o:Outl=>cntN (k+1) o.kids) (((kidsI fo i).map fun f=>(⟨f.name,[],outF fo fe k f.id⟩:Outl))++(fe.filter fun f=>decide (f.inn=i)).map feO)≤sumN (fun f:Fo=>(fo.map (·.inn)).countP (inW up d f.id)) (kidsI fo i)+sumN (fun f:Fo=>(fe.map (·.inn)).countP (inW up d f.id)) (kidsI fo i):=by
   rw[kw,dq (l:=(fe.filter fun f=>decide (f.inn=i)).map feO) (fun o ho=>by rw[(hfeo i o ho).2,iv]),ky,W1, ← ku];exact mt fun f _=>ih f.id
  have hlen:(((kidsI fo i).map fun f=>(⟨f.name,[],outF fo fe k f.id⟩:Outl))++(fe.filter fun f=>decide (f.inn=i)).map feO).length=(kidsI fo i).length+(fe.map (·.inn)).countP (fun x=>decide (x=i)):=by
   rw[M3,c,O0]
  have hall:∀o∈ ((kidsI fo i).map fun f=>(⟨f.name,[],outF fo fe k f.id⟩:Outl))++(fe.filter fun f=>decide (f.inn=i)).map feO,oneOk o=true:=fun o hm=>by
   rcases Q6.1 hm with hm|hm
   ·obtain⟨f,hm2,rfl⟩:=N5.1 hm;exact BE (ho f (cM hm2).1) _
   ·exact(hfeo i o hm).1
  show cntN (k+1+1) (((kidsI fo i).map fun f=>(⟨f.name,[],outF fo fe k f.id⟩:Outl))++(fe.filter fun f=>decide (f.inn=i)).map feO)≤_;generalize ((kidsI fo i).map fun f=>(⟨f.name,[],outF fo fe k f.id⟩:Outl))++(fe.filter fun f=>decide (f.inn=i)).map feO=l at*;rw[cntN,M1 (by omega),j9 _ _ _ hall (by omega)];omega
end
theorem pE:∀(f:Nat) (l:List Outl),cntN f l≤512→OkN f l
 |0,l,h=>by rw[eJ h];exact OkN.nil 0
 |f+1,l,h=>by
  have hl:l.length≤512:=by
   rw[cntN]at h;by_cases hl:512<l.length
   ·rw[M7 hl]at h;omega
   ·omega
  refine⟨by omega,fun o ho=>?_⟩;have h1:=(eK h).1 o ho;have h2:=h1.1;unfold oneOk textO at h2;simp only[M2,M8]at h2;exact⟨by omega,by omega,pE f o.kids h1.2⟩
def PS.outl(s:PS):List Outl:=outF s.tell.fo s.tell.fe 7 0
theorem Aq{s:PS}(hI:s.Inv)(hT:s.Txt):cntN 8 s.outl≤128:=by
 have hlo:s.tell.fo.length≤64:=by show(valsM Fo.z s.fo).length≤64;rw[cK];exact hI.l1
 have hle:s.tell.fe.length≤64:=by show(valsM Fe.z s.fe).length≤64;rw[cK];exact hI.l2
 have hup:∀f∈s.tell.fo,((lkM s.fo f.id).map (·.inn)).getD 0=f.inn∧s.dpt f.id=s.dpt f.inn+1:=fun f hf=>by
  obtain⟨k,hk⟩:=eH hf;have hid:=(hI.i1 _ _ hk).1;rw[← hid]at hk;obtain⟨h1,h2⟩:=hI.deep f.id;obtain⟨h3,h4⟩:=hI.deep f.inn;refine⟨by rw[hk];rfl,?_⟩;rw[deepO,hk]at h1;simp only[N9]at h1;obtain⟨d,hd,he⟩:=h1;have:=eF hd (k':=7) (by omega);rw[h3]at this;cases this;exact he.symm
 have nd:(s.tell.fo.map (·.id)).Nodup:=by
  show((valsM Fo.z s.fo).map (·.id)).Nodup;rw[j5 hI.w1 fun k a hk=>(hI.i1 k a hk).1];exact kl hI.w1.keys
 have key:=Ap (up:=fun x=>((lkM s.fo x).map (·.inn)).getD 0) (d:=s.dpt) hup nd (fun f hf=>by obtain⟨k,hk⟩:=eH hf;exact hT.fo k f hk) (fun f hf=>by obtain⟨k,hk⟩:=j6 hf;exact hT.fe k f hk) (by omega) 7 0;have h1:=X6 (p:=inW (fun x=>((lkM s.fo x).map (·.inn)).getD 0) s.dpt 0) (l:=s.tell.fo.map (·.inn));have h2:=X6 (p:=inW (fun x=>((lkM s.fo x).map (·.inn)).getD 0) s.dpt 0) (l:=s.tell.fe.map (·.inn));rw[O0]at h1 h2;have key:cntN 8 (outF s.tell.fo s.tell.fe 7 0)≤_:=key;unfold PS.outl;omega
end
section
attribute [local irreducible] WP WPl WPix Sat
variable (G:Nat→Option (List AVal))
def feV(f:Fe):AVal:=.agg [.str (if f.title=[]then shortF f.url 256 else f.title),.str f.url,.nil (.slice none 0 0)]
theorem yI{H:Heap}{N:Nat}{a b c d:List AVal}(z:FrzRs H N a b)(w:FrzRs H N c d):FrzRs H N (a++c) (b++d):=by
 induction z with
 |nil=>exact w
 |cons x _ ih=>exact .cons x ih
theorem pF(H:Heap)(N:Nat):∀l:List Outl,FrzRs H N (l.map Outl.av) (l.map Outl.av)
 | []=>.nil
 |o::l=>.cons (FrzR.clo (Outl.clo _ o) o.av_sto) (pF H N l)
theorem rR(H:Heap)(N:Nat):∀l:List Fe,FrzRs H N (l.map feV) ((l.map feO).map Outl.av)
 | []=>.nil
 |f::l=>.cons (by
   rw[Outl.av_eq];exact FrzL.row (.cons (.clo _ (.str _)) (.cons (.clo _ (.str _)) (.cons (.nils 3) .nil))) rfl) (rR H N l)
theorem wa{fo:List Fo}{i:Int}{k:Nat}{y:Fo}(hy:fo[k]? =some y):kidsI (fo.take (k+1)) i=kidsI (fo.take k) i++if y.inn=i then [y]else []:=by
 unfold kidsI;rw[T9,hy,Option.toList_some,V9,X0];by_cases h:y.inn=i
 ·rw[M7 (by simpa using h),M7 h];rfl
 ·rw[M1 (by simpa using h),M1 h];rfl
def feedsI(fe:List Fe)(i:Int):List Fe:=fe.filter fun f=>decide (f.inn=i)
theorem uc{fe:List Fe}{i:Int}{k:Nat}{y:Fe}(hy:fe[k]? =some y):feedsI (fe.take (k+1)) i=feedsI (fe.take k) i++if y.inn=i then [y]else []:=by
 unfold feedsI;rw[T9,hy,Option.toList_some,V9,X0];by_cases h:y.inn=i
 ·rw[M7 (by simpa using h),M7 h];rfl
 ·rw[M1 (by simpa using h),M1 h];rfl
theorem ja(x:St)(hlo:x.fo.length≤64)(hle:x.fe.length≤64)(hu:∀f∈x.fe,f.url.length≤512)(g:Int→List Outl)(i:Int)
  (hg:∀f∈x.fo,f.inn=i→∀h,Sat (CT G) 54 [x.av,.int .i64 f.id] h (fun r h'=>r=.sl 3 ((g f.id).map Outl.av)∧h'=h))(h:Heap):
  Sat (CT G) 54 [x.av,.int .i64 i] h (fun r h'=>r=.sl 3 ((((kidsI x.fo i).map fun f=>(⟨f.name,[],g f.id⟩:Outl))++(feedsI x.fe i).map feO).map Outl.av)∧h'=h):=by
 have he1:(x.fo.map Fo.av).length=x.fo.length:=O0 ..;have he2:(x.fe.map Fe.av).length=x.fe.length:=O0 ..;have F:=F3 he1 he2 @aZ;refine sb [.tmp 4] Tryz.func54 ?_;intro Q hQ;refine wk F ?_;refine lm (fun nL tL hL=>∃(k v:Nat) (acc:List Outl) (j:Heap),x.fo.length-k=nL∧h++(.row 107 9 0 [x.av]:: .row 55 3 v (acc.map Outl.av)::j)=hL∧tL 5=.hs (h.length+1) v 0 acc.length true∧tL 15=.int .i64 k∧k≤x.fo.length∧acc.length≤k∧acc=(kidsI (x.fo.take k) i).map fun f=>(⟨f.name,[],g f.id⟩:Outl)) ((fun(k v:Nat) (acc:List Outl) (j:Heap)=>(x.fo.length-k:Nat)) (0) (0) ([]) ([])) ?_ ?_
 ·refine⟨_,_,Weak.virt 5 55 3 (by simp) (by omega) (by exact zq F),⟨0,0,[],[],rfl,aw,?_,?_,by omega,by simp,rfl⟩⟩;all_goals try exact zZz F
 rintro _ s2 h' ⟨k,v,acc,j,rfl,rfl,e5,e15,hk,hal,hac⟩ K2 hK2;simp only[aj,am,Nat.reduceEqDiff, ↓reduceIte]at e5 e15;have F:=F3 F e5 e15;by_cases c2:k<x.fo.length
 ·have d2:=R4 c2;obtain⟨y,hy,hym⟩:=ak c2;have hm:(x.fo.map Fo.av)[k]? =some y.av:=by rw[O2,hy];rfl
  have hkt:=wa (i:=i) hy;have hgy:=hg y hym;obtain⟨y1,y2,y3⟩:=y;rw[Fo.av_eq]at hm;simp only[]at hm hkt hgy;by_cases ca:y2=i
  ·have qa:(y2==i)=true:=(by simp[ca]);rw[M7 ca]at hkt;have F:=F6 F hm hy d2 c2 qa;(try refine sq F ?_);refine wk F ?_;refine aG (hgy ca _) ?_;(try refine sq F ?_);refine wk F ?_;refine aq F ?_;(try refine sq F ?_);refine wk F ?_;refine hK2 _ _ _ (N6 ⟨k+1,v+1,acc++[⟨y3,[],g y1⟩],j++[.row 44 3 0 [.agg [.int .i64 y1,.int .i64 y2,.str y3]]],rfl,by simp[St.av,Outl.av_eq,Outl.title,Outl.url,Outl.kids],?_,?_,by omega,by simp;omega,by rw[hkt,R3,hac];rfl⟩) (by omega);all_goals try exact zZz F
  ·have qa:(y2==i)=false:=(by simp[ca]);rw[M1 ca,N8]at hkt;have F:=F6 F hm hy d2 c2 qa;(try refine sq F ?_);refine wk F ?_;refine hK2 _ _ _ (N6 ⟨k+1,v,acc,j++[.row 44 3 0 [.agg [.int .i64 y1,.int .i64 y2,.str y3]]],rfl,aw,?_,?_,by omega,by omega,by rw[hkt];exact hac⟩) (by omega);all_goals try exact zZz F
 have d2:=S7 c2;rw[P5 (by omega)]at hac;have hkx:k=x.fo.length:=by omega
 clear hg;subst hac;generalize (kidsI x.fo i).map (fun f=>(⟨f.name,[],g f.id⟩:Outl))=A at*;have hA:(A.map Outl.av).length=A.length:=O0 ..;have F:=F3 F d2 hA;try refine sq F ?_
 refine wk F ?_;refine lm (fun nL tL hL=>∃(k2 v2:Nat) (acc:List Fe) (j2:Heap),x.fe.length-k2=nL∧h++(.row 107 9 0 [x.av]:: .row 55 3 v2 (A.map Outl.av++acc.map feV)::j2)=hL∧tL 5=.hs (h.length+1) v2 0 (A.length+acc.length) true∧tL 38=.int .i64 k2∧k2≤x.fe.length∧acc.length≤k2∧acc=feedsI (x.fe.take k2) i) ((fun(k2 v2:Nat) (acc:List Fe) (j2:Heap)=>(x.fe.length-k2:Nat)) (0) (v) ([]) (j)) ?_ ?_
 ·refine N6 ⟨0,v,[],j,rfl,by simp[St.av],?_,?_,by omega,by simp,rfl⟩;all_goals try exact zZz F
 rintro _ s3 h' ⟨k2,v2,acc,j2,rfl,rfl,e5,e38,hk2,hal2,hac2⟩ K3 hK3;simp only[aj,am,Nat.reduceEqDiff, ↓reduceIte]at e5 e38;have F:=F3 F e5 e38;by_cases c3:k2<x.fe.length
 ·have d3:=R4 c3;obtain⟨y,hy,hym⟩:=ak c3;have hm:(x.fe.map Fe.av)[k2]? =some y.av:=by rw[O2,hy];rfl
  have hkt:=uc (i:=i) hy;have hus:=hu y hym;obtain⟨y1,y2,y3,y4⟩:=y;rw[Fe.av_eq]at hm;simp only[]at hm hkt hus;by_cases ca:y2=i
  ·have qa:(y2 !=i)=false:=(by simp[ca]);rw[M7 ca]at hkt;by_cases ct:y4=[]
   ·have qt:(y4==([]:Bs))=true:=(by simp[ct]);have hv:feV ⟨y1,y2,y3,y4⟩=.agg [.str (shortF y3 256),.str y3,.nil (.slice none 0 0)]:=(by unfold feV;simp[ct]);have F:=F7 F hm hy d3 c3 qa qt;(try refine sq F ?_);refine wk F ?_;refine kq F (jJ G y3 256 (by omega) (by omega) _) ?_;refine aq F ?_;(try refine sq F ?_);refine wk F ?_;refine hK3 _ _ _ (N6 ⟨k2+1,v2+1,acc++[⟨y1,y2,y3,y4⟩],j2++[Blk.row 48 4 0 [.agg [.int .i64 y1,.int .i64 y2,.str y3,.str y4]],Blk.row 55 3 0 [.agg [.str (shortF y3 256),.str y3,.nil (.slice none 0 0)]]],rfl,by simp[St.av,hv],?_,?_,by omega,by simp;omega,by rw[hkt,hac2]⟩) (by omega);all_goals try exact zZz F
   ·have qt:(y4==([]:Bs))=false:=(by simp[ct]);have hv:feV ⟨y1,y2,y3,y4⟩=.agg [.str y4,.str y3,.nil (.slice none 0 0)]:=(by unfold feV;simp[ct]);have F:=F7 F hm hy d3 c3 qa qt;(try refine sq F ?_);refine wk F ?_;refine aq F ?_;(try refine sq F ?_);refine wk F ?_;refine hK3 _ _ _ (N6 ⟨k2+1,v2+1,acc++[⟨y1,y2,y3,y4⟩],j2++[Blk.row 48 4 0 [.agg [.int .i64 y1,.int .i64 y2,.str y3,.str y4]],Blk.row 55 3 0 [.agg [.str y4,.str y3,.nil (.slice none 0 0)]]],rfl,by simp[St.av,hv],?_,?_,by omega,by simp;omega,by rw[hkt,hac2]⟩) (by omega);all_goals try exact zZz F
  ·have qa:(y2 !=i)=true:=(by simp[ca]);rw[M1 ca,N8]at hkt;have F:=F6 F hm hy d3 c3 qa;(try refine sq F ?_);refine wk F ?_;refine hK3 _ _ _ (N6 ⟨k2+1,v2,acc,j2++[Blk.row 48 4 0 [.agg [.int .i64 y1,.int .i64 y2,.str y3,.str y4]]],rfl,aw,?_,?_,by omega,by omega,by rw[hkt];exact hac2⟩) (by omega);all_goals try exact zZz F
 ·have d3:=S7 c3;rw[P5 (by omega)]at hac2;have F:=F2 F d3;try refine sq F ?_
  refine wk F ?_;refine ee hQ F ?_;subst hac2;refine Fin.frz ?_ ⟨rfl,rfl⟩;rw[R3];exact FrzRs.hs (by rw[bZ _ rfl];simp[getRow];rfl) (by simp) (by omega) (yI (pF _ _ A) (rR _ _ _))
theorem mu(x:St)(hlo:x.fo.length≤64)(hle:x.fe.length≤64)(hu:∀f∈x.fe,f.url.length≤512):∀(k:Nat) (i:Int),Lv x.fo k i→∀h:Heap,
  Sat (CT G) 54 [x.av,.int .i64 i] h (fun r h'=>r=.sl 3 ((outF x.fo x.fe k i).map Outl.av)∧h'=h):=by
 intro k;induction k with
 |zero=>
  intro i hL h;have:=ja G x hlo hle hu (fun _=>[]) i (fun f hf hi=>absurd hi (hL f hf)) h;rw[show kidsI x.fo i=[]from lw hL]at this;exact this
 |succ k ih=>
  intro i hL h;exact ja G x hlo hle hu (fun j=>outF x.fo x.fe k j) i (fun f hf hi=>ih f.id (hL f hf hi)) h
section
variable {s:PS} {X:Heap} {n:Nat}
theorem wb(hI:s.Inv)(hT:s.Txt):s.tell.fo.length≤64∧s.tell.fe.length≤64∧∀f∈s.tell.fe,f.url.length≤512:=by
 refine⟨by show(valsM Fo.z s.fo).length≤64;rw[cK];exact hI.l1,by show(valsM Fe.z s.fe).length≤64;rw[cK];exact hI.l2,fun f hf=>?_⟩;obtain⟨k,hk⟩:=j6 hf;have:=fG (hT.fe k f hk).2.1;unfold textO at this;simp only[M2,M8]at this;exact this.1.1
theorem d7(hI:s.Inv)(hT:s.Txt)(hn:n+9≤X.length):Sat (CT G) 24 [.hp (n+8) 0 0 0] (so X n s) (fun r h'=>r=.sl 3 (s.outl.map Outl.av)∧h'=so X n s):=by
 have hTl:=fb G s hI.toOk hn;obtain⟨h1,h2,h3⟩:=wb hI hT;have hW:=mu G s.tell h1 h2 h3 7 0 (By hI) (so X n s);unfold PS.outl;generalize outF s.tell.fo s.tell.fe 7 0=l at*;generalize s.tell=x at*;have F:= @aZ;refine sb [.tmp 2] Tryz.func24 ?_;intro Q hQ;refine wk F ?_;refine kq F (hTl) ?_;refine kq F (hW) ?_;refine ee hQ F ?_;exact bM hn (Outls.clo _ _ _) ⟨rfl,rfl⟩
end
section
variable {s:PS} {X:Heap} {n:Nat}
theorem iy(hG:GOk G)(hC:GClo (CT G))(hn:n+9≤X.length)(T:s.Top2)(t:Bs)(ht:t.length≤4194304)(l:List Outl)(hr:rdF t=(l,0))(hk:cntN 8 l≤512):
  Sat (CT G) 26 [.hp (n+8) 0 0 0,.str t] (so X n s) (fun r h'=>r=exR ((brgF nfX 8 0 l s).2,0)∧h'=so X n (brgF nfX 8 0 l s).1):=by
 have hR:=lD G hG hC t ht;unfold RdO at hR;rw[hr]at hR;have hz:=vW 8 l hk;have hB:=jK G (s:=s) (H:=X) (n:=n) hn T l (nT 8 l hk) (by omega);generalize brgF nfX 8 0 l s=p at*;obtain⟨z,ws⟩:=p;simp only[]at hB ⊢;refine sb [.tmp 4,.tmp 5] Tryz.func26 ?_;intro Q hQ;refine wk trivial ?_;refine kq trivial (hR _) ?_;refine kq trivial (hB) ?_;refine ye hQ trivial ?_;exact bM hn (rV _ (_,_)) ⟨rfl,rfl⟩
theorem pL(hG:GOk G)(hC:GClo (CT G))(hn:n+9≤X.length)(t:Bs)(ht:t.length≤4194304)(c:Int)(hr:rdF t=([],c))(hc:c≠0):
  Sat (CT G) 26 [.hp (n+8) 0 0 0,.str t] (so X n s) (fun r h'=>r=exR ([],c)∧h'=so X n s):=by
 have hR:=lD G hG hC t ht;unfold RdO at hR;rw[hr]at hR;have q:(c !=0)=true:=by simpa using hc
 have F:=q;refine sb [.tmp 4,.tmp 5] Tryz.func26 ?_;intro Q hQ;refine wk F ?_;refine kq F (hR _) ?_;refine ye hQ F ?_;have:=cu (j:=[]) (s:=s) (s':=s) (R:=fun r h'=>r=exR ([],c)∧h'=so X n s) hn (rW (so (X++[]) n s) X.length c) ⟨rfl,rfl⟩;rw[N8]at this;exact this
theorem pM(hI:s.Inv)(hT:s.Txt):okOl s.outl=true∧OkN 8 s.outl∧szs Outl.sz s.outl≤400000∧(wrF 8 s.outl).length≤3000000:=by
 have h1:=Aq hI hT;have h2:okOl s.outl=true:=R4 (by omega);have h3:=wd h2;exact⟨h2,pE 8 _ (by omega),h3.2,h3.1⟩
theorem jO(hI:s.Inv)(hT:s.Txt)(hn:n+9≤X.length):Sat (CT G) 21 [.hp (n+8) 0 0 0] (so X n s) (fun r h'=>r=.tup [.str (docF 8 s.outl),.int .i64 0]∧h'=so X n s):=by
 have hO:=d7 G hI hT hn;obtain⟨h1,h2,h3,h4⟩:=pM hI hT;have hW:=qP G s.outl h2 (by omega) (fun _=>by omega);rw[h1]at hW;generalize s.outl=l at*;have hW:∀h,Sat (CT G) 51 [.sl 3 (l.map Outl.av)] h (fun r h'=>r=.tup [.str (docF 8 l),.int .i64 0]∧h'=h):=hW;refine sb [.tmp 2,.tmp 3] Tryz.func21 ?_;intro Q hQ;refine wk trivial ?_;refine kq trivial (hO) ?_;refine kq trivial (hW _) ?_;refine ye hQ trivial ?_;exact bM hn (.tup _ (by intro c hc;simp at hc;rcases hc with rfl|rfl;exact .str _;exact .int _ _)) ⟨rfl,rfl⟩
end
def PS.okR(s:PS)(e:Ev):Bool:=s.fits (L0.right e) (s.dpt e.b) e
def PS.stR(s:PS)(e:Ev):PS:=if s.okR e then s.aft e else s
theorem wh(s:PS)(inn:Int)(o:Outl):s.ok L0 (evFe s inn o)=s.okR (evFe s inn o):=by
 have h:usedE (evFe s inn o)=evFe s inn o:=rfl;unfold PS.ok PS.okR Leaf.ck;rw[h];simp
theorem wj(s:PS)(inn:Int)(t:Bs):s.ok L0 (evFo s inn t)=s.okR (evFo s inn t):=by
 have h:usedE (evFo s inn t)=evFo s inn t:=rfl;unfold PS.ok PS.okR Leaf.ck;rw[h];simp
theorem BM(s:PS)(inn:Int)(o:Outl):s.step L0 (evFe s inn o)=s.stR (evFe s inn o):=by unfold PS.step PS.stR;rw[wh]
theorem BN(s:PS)(inn:Int)(t:Bs):s.step L0 (evFo s inn t)=s.stR (evFo s inn t):=by unfold PS.step PS.stR;rw[wj]
def oneR(nf:Bs→Bs)(g:Int→List Outl→PS→PS×List Ev)(inn:Int)(o:Outl)(s:PS):PS×List Ev:=
 if o.url≠ []then(if s.okR (evFe s inn o)then(s.stR (evFe s inn o),[evFe s inn o])else(s,[]))
 else if foId s inn (nf o.title)≠0 then g (foId s inn (nf o.title)) o.kids s
 else if s.okR (evFo s inn (nf o.title))then((g (s.t1+1) o.kids (s.stR (evFo s inn (nf o.title)))).1,evFo s inn (nf o.title)::(g (s.t1+1) o.kids (s.stR (evFo s inn (nf o.title)))).2)
 else g inn o.kids s
def brgR(nf:Bs→Bs):Nat→Int→List Outl→PS→PS×List Ev
 |0,_,_,s=>(s,[])
 |k+1,inn,l,s=>lstG (oneR nf (brgR nf k) inn) l s
theorem AA(nf:Bs→Bs)(g:Int→List Outl→PS→PS×List Ev)(inn:Int)(o:Outl)(s:PS):oneG nf g inn o s=oneR nf g inn o s:=by
 unfold oneG oneR putF;rw[wh,wj,BM,BN]
theorem s7(nf:Bs→Bs):∀(k:Nat),brgF nf k=brgR nf k
 |0=>rfl
 |k+1=>by
  funext inn l s
  rw[brgF,brgR,s7 nf k];congr 1
  funext o s
  exact AA nf _ inn o s
def bTech:Bs:=[116,101,99,104]
def o24:Outl:=⟨bTech,[],[⟨[65],[117],[]⟩]⟩
def l24:List Outl:=[o24,⟨bTech,[],[]⟩]
def w24:List Ev:=[⟨1,1,0,0,bTech,[],[]⟩,⟨3,1,1,0,[117],[65],[]⟩]
def s24:PS:=(brgR nfX 8 0 l24 PS.z).1
theorem lH:brgF nfX 8 0 l24 PS.z=(s24,w24):=by
 rw[s7];have h:(brgR nfX 8 0 l24 PS.z).2=w24:=by kernel_rfl
 rw[← h];rfl
theorem BO:brgF nfX 8 0 l24 s24=(s24,[]):=by
 have h1:=j4 (nf:=nfX) 8 0 l24 PS.z s24 zb5 rfl (by rw[lH];exact .refl _);exact h1
theorem ju:s24.Top2:=by
 have:=(eG (nf:=nfX) 8 0 l24 PS.z zb5 rfl).t;rw[lH]at this;exact this
theorem yL:s24=w24.foldl (PS.step L0) PS.z:=by
 have:=(eG (nf:=nfX) 8 0 l24 PS.z zb5 rfl).f;rw[lH]at this;exact this
theorem s8:s24.Txt:=by rw[yL];exact PS.Txt.fold w24 PS.Txt.z0 PS.Inv.z
theorem nF{α:Type}(z:α)(k:Int)(a:α)(n:Nat):valsM z [(k,a,n)]=[a]:=by
 unfold valsM sortI;rw[O3,R5,List.mergeSort_singleton];simp[lkM]
theorem yM:s24.outl=[o24]:=by
 have h1:s24.fo=[(1,⟨1,0,bTech⟩,0)]:=by kernel_rfl
 have h2:s24.fe=[(1,⟨1,1,[117],[65]⟩,0)]:=by kernel_rfl
 have e1:s24.tell.fo=[⟨1,0,bTech⟩]:=by show valsM Fo.z s24.fo=_;rw[h1,nF]
 have e2:s24.tell.fe=[⟨1,1,[117],[65]⟩]:=by show valsM Fe.z s24.fe=_;rw[h2,nF]
 unfold PS.outl;rw[e1,e2];rfl
end
section
attribute [local irreducible] WP WPl WPix Sat
def a24:AVal:=.agg [.str bTech,.str [],.sl 3 [.agg [.str [65],.str [117],.nil (.slice none 0 0)]]]
def b24:AVal:=.agg [.str bTech,.str [],.nil (.slice none 0 0)]
def v24:AVal:=.sl 7 [.agg [.int .i64 1,.int .i64 1,.int .i64 0,.int .i64 0,.str bTech,.str [],.str []],.agg [.int .i64 3,.int .i64 1,.int .i64 1,.int .i64 0,.str [117],.str [65],.str []]]
theorem jc:(docF 8 l24).length≤5000:=R7 (by kernel_rfl)
theorem mB:okOl l24=true:=by kernel_rfl
theorem BQ:rdF (docF 8 l24)=(l24,0):=rQ l24 mB (by have:=jc;omega)
section
variable (G:Nat→Option (List AVal))
theorem BS:isV (.bool true) (callX (CT G) orcX 1000 100 29 [v24,v24] [])=true:=by kernel_rfl
theorem qQ(hG:GOk G)(hc:GClo (CT G))(h:Heap):Sat (CT G) 10 [] h (fun r h'=>r=.bool true∧h'=h):=by
 have hN:=fW G h;have hz9:(PS.z.bl h.length).length=9:=rfl;obtain⟨H0,hH0⟩:∃H0,H0=h++PS.z.bl h.length:=⟨_,rfl⟩;rw[← hH0]at hN;have hl0:H0.length=h.length+9:=by rw[hH0];simp[hz9]
 have hn00:h.length+9≤H0.length:=by omega
 have hC:=jP G;have hK:OkN 8 l24:=pE 8 l24 (R7 mB);have hS:=fun h=>Sat.closedD hc (zY hG) 1000 100 (f:=29) (args:=[v24,v24]) (v:=.bool true) rfl rfl (BS G) h
 have wk1:∀(i:Nat) (x y:AVal),([.hp (h.length+8) 0 0 0,.sl 3 [a24,b24]]:List AVal)[i]? =some x→([.hp (h.length+8) 0 0 0,.sl 3 (l24.map Outl.av)]:List AVal)[i]? =some y→Wk x y:=fun i x y hx hy=>by
  match i with
  |0=>cases hx;cases hy;exact Wk.refl _
  |1=>cases hx;cases hy;exact iX 9 _ _ rfl
  |i+2=>cases hx
 have wk2:∀(i:Nat) (x y:AVal),([.sl 3 [a24,b24]]:List AVal)[i]? =some x→([.sl 3 (l24.map Outl.av)]:List AVal)[i]? =some y→Wk x y:=fun i x y hx hy=>by
  match i with
  |0=>cases hx;cases hy;exact iX 9 _ _ rfl
  |i+1=>cases hx
 have wk3:∀(i:Nat) (x y:AVal),([.sl 3 [a24]]:List AVal)[i]? =some x→([.sl 3 ([o24].map Outl.av)]:List AVal)[i]? =some y→Wk x y:=fun i x y hx hy=>by
  match i with
  |0=>cases hx;cases hy;exact iX 9 _ _ rfl
  |i+1=>cases hx
 have wk4:∀(i:Nat) (x y:AVal),([.sl 3 ([o24].map Outl.av),.sl 3 [a24]]:List AVal)[i]? =some x→([.sl 3 ([o24].map Outl.av),.sl 3 ([o24].map Outl.av)]:List AVal)[i]? =some y→Wk x y:=fun i x y hx hy=>by
  match i with
  |0=>cases hx;cases hy;exact Wk.refl _
  |1=>cases hx;cases hy;exact iX 9 _ _ rfl
  |i+2=>cases hx
 have wk5:∀(i:Nat) (x y:AVal),([.hp (h.length+8) 0 0 0,.sl 3 [.agg [.str [],.str [],.nil (.slice none 0 0)]]]:List AVal)[i]? =some x→([.hp (h.length+8) 0 0 0,.sl 3 ([(⟨[],[],[]⟩:Outl)].map Outl.av)]:List AVal)[i]? =some y→Wk x y:=fun i x y hx hy=>by
  match i with
  |0=>cases hx;cases hy;exact Wk.refl _
  |1=>cases hx;cases hy;exact iX 9 _ _ rfl
  |i+2=>cases hx
 have dP:=iw G (s:=PS.z) (X:=H0) (n:=h.length) hC hn00 zb5 l24 hK (by decide);rw[show exF PS.z l24=(w24,0)from by unfold exF;rw[show okX l24=true from mB,lH];rfl]at dP;have dP:=Sat.wk (by rfl) wk1 dP;have dB:=iw G (s:=s24) (X:=H0) (n:=h.length) hC hn00 ju [⟨[],[],[]⟩] ⟨by decide,fun o ho=>by simp only[Q7]at ho;subst ho;exact⟨by decide,by decide,OkN.nil 7⟩⟩ (by decide);rw[show exF s24 [⟨[],[],[]⟩]=([],130)from rfl]at dB;have dB:=Sat.wk (by rfl) wk5 dB;have dR1:=iy G (s:=PS.z) (X:=H0) (n:=h.length) hG hc hn00 zb5 (docF 8 l24) (by have:=jc;omega) l24 BQ (R7 mB);have dR2:=iy G (s:=s24) (X:=H0) (n:=h.length) hG hc hn00 ju (docF 8 l24) (by have:=jc;omega) l24 BQ (R7 mB);rw[lH]at dR1;rw[BO]at dR2;have dR3:=pL G (s:=s24) (X:=H0) (n:=h.length) hG hc hn00 [] (by decide) (rdF []).2 (by kernel_rfl) (R7 (by kernel_rfl));have dW:=fun h=>Sat.wk (by rfl) wk2 (jN G l24 mB (by decide) (by decide) h)
 have dW1:=fun h=>Sat.wk (by rfl) wk3 (jN G [o24] (by kernel_rfl) (by decide) (by decide) h)
 have dS1:=fun h=>Sat.wk (by rfl) wk4 (uN G [o24] [o24] (by decide) (by decide) h)
 rw[show sameOL 8 [o24] [o24]=true from rfl]at dS1;have dO:=d7 G (X:=H0) (n:=h.length) ju.i s8 hn00;have dE:=jO G (X:=H0) (n:=h.length) ju.i s8 hn00;rw[yM]at dO dE;have ap:∀a b:Bs,List.append a b=a++b:=fun _ _=>rfl
 generalize docF 8 l24=d1 at*;generalize docF 8 [o24]=d2 at*;have e0:(rdF []).2≠0:=R7 (by kernel_rfl);have q0:((rdF []).2 !=0)=true:=by simpa using e0
 generalize (rdF []).2=c0 at*;have qd:∀a:Bs,(a==a)=true:=fun a=>by simp
 unfold a24 b24 bTech at*;have F:=F4 hn00 q0 qd @aZ;refine sb [.tmp 0] Tryz.func10 ?_;intro Q hQ;(repeat (first|refine w1 (fun K hK=>?_)|refine w2 ?_|refine w3 ?_| ((first|refine w4 ?_|refine wD ?_|refine w5 ?_|refine w6 ?_|refine w7 ?_);try refine sq F ?_)| (refine w8 ?_;refine sq F ?_;refine w9 ?_)| (refine rq F ?_;try refine sq F ?_)| (refine vq F ?_;try refine sq F ?_)| ((first|refine hK _ _ (w0 ?_)| (clear hK K;refine hK _ _ (w0 ?_))| (clear hK K;clear hK K;refine hK _ _ (w0 ?_)));clear hK K)))
 refine(hN).mono ?_;rintro r h' ⟨rfl,rfl⟩;try refine sq F ?_
 (repeat (first|refine w1 (fun K hK=>?_)|refine w2 ?_|refine w3 ?_| ((first|refine w4 ?_|refine wD ?_|refine w5 ?_|refine w6 ?_|refine w7 ?_);try refine sq F ?_)| (refine w8 ?_;refine sq F ?_;refine w9 ?_)| (refine rq F ?_;try refine sq F ?_)| (refine vq F ?_;try refine sq F ?_)| ((first|refine hK _ _ (w0 ?_)| (clear hK K;refine hK _ _ (w0 ?_))| (clear hK K;clear hK K;refine hK _ _ (w0 ?_)));clear hK K)))
 refine(dP).mono ?_;rintro r h' ⟨rfl,rfl⟩;try refine sq F ?_
 (repeat (first|refine w1 (fun K hK=>?_)|refine w2 ?_|refine w3 ?_| ((first|refine w4 ?_|refine wD ?_|refine w5 ?_|refine w6 ?_|refine w7 ?_);try refine sq F ?_)| (refine w8 ?_;refine sq F ?_;refine w9 ?_)| (refine rq F ?_;try refine sq F ?_)| (refine vq F ?_;try refine sq F ?_)| ((first|refine hK _ _ (w0 ?_)| (clear hK K;refine hK _ _ (w0 ?_))| (clear hK K;clear hK K;refine hK _ _ (w0 ?_)));clear hK K)))
 refine(dW _).mono ?_;rintro r h' ⟨rfl,rfl⟩;try refine sq F ?_
 (repeat (first|refine w1 (fun K hK=>?_)|refine w2 ?_|refine w3 ?_| ((first|refine w4 ?_|refine wD ?_|refine w5 ?_|refine w6 ?_|refine w7 ?_);try refine sq F ?_)| (refine w8 ?_;refine sq F ?_;refine w9 ?_)| (refine rq F ?_;try refine sq F ?_)| (refine vq F ?_;try refine sq F ?_)| ((first|refine hK _ _ (w0 ?_)| (clear hK K;refine hK _ _ (w0 ?_))| (clear hK K;clear hK K;refine hK _ _ (w0 ?_)));clear hK K)))
 refine(dR1).mono ?_;rintro r h' ⟨rfl,rfl⟩;try refine sq F ?_
 (repeat (first|refine w1 (fun K hK=>?_)|refine w2 ?_|refine w3 ?_| ((first|refine w4 ?_|refine wD ?_|refine w5 ?_|refine w6 ?_|refine w7 ?_);try refine sq F ?_)| (refine w8 ?_;refine sq F ?_;refine w9 ?_)| (refine rq F ?_;try refine sq F ?_)| (refine vq F ?_;try refine sq F ?_)| ((first|refine hK _ _ (w0 ?_)| (clear hK K;refine hK _ _ (w0 ?_))| (clear hK K;clear hK K;refine hK _ _ (w0 ?_)));clear hK K)))
 refine(dW _).mono ?_;rintro r h' ⟨rfl,rfl⟩;try refine sq F ?_
 (repeat (first|refine w1 (fun K hK=>?_)|refine w2 ?_|refine w3 ?_| ((first|refine w4 ?_|refine wD ?_|refine w5 ?_|refine w6 ?_|refine w7 ?_);try refine sq F ?_)| (refine w8 ?_;refine sq F ?_;refine w9 ?_)| (refine rq F ?_;try refine sq F ?_)| (refine vq F ?_;try refine sq F ?_)| ((first|refine hK _ _ (w0 ?_)| (clear hK K;refine hK _ _ (w0 ?_))| (clear hK K;clear hK K;refine hK _ _ (w0 ?_)));clear hK K)))
 refine(dR2).mono ?_;rintro r h' ⟨rfl,rfl⟩;try refine sq F ?_
 (repeat (first|refine w1 (fun K hK=>?_)|refine w2 ?_|refine w3 ?_| ((first|refine w4 ?_|refine wD ?_|refine w5 ?_|refine w6 ?_|refine w7 ?_);try refine sq F ?_)| (refine w8 ?_;refine sq F ?_;refine w9 ?_)| (refine rq F ?_;try refine sq F ?_)| (refine vq F ?_;try refine sq F ?_)| ((first|refine hK _ _ (w0 ?_)| (clear hK K;refine hK _ _ (w0 ?_))| (clear hK K;clear hK K;refine hK _ _ (w0 ?_)));clear hK K)))
 refine(dO).mono ?_;rintro r h' ⟨rfl,rfl⟩;try refine sq F ?_
 (repeat (first|refine w1 (fun K hK=>?_)|refine w2 ?_|refine w3 ?_| ((first|refine w4 ?_|refine wD ?_|refine w5 ?_|refine w6 ?_|refine w7 ?_);try refine sq F ?_)| (refine w8 ?_;refine sq F ?_;refine w9 ?_)| (refine rq F ?_;try refine sq F ?_)| (refine vq F ?_;try refine sq F ?_)| ((first|refine hK _ _ (w0 ?_)| (clear hK K;refine hK _ _ (w0 ?_))| (clear hK K;clear hK K;refine hK _ _ (w0 ?_)));clear hK K)))
 refine(dE).mono ?_;rintro r h' ⟨rfl,rfl⟩;try refine sq F ?_
 (repeat (first|refine w1 (fun K hK=>?_)|refine w2 ?_|refine w3 ?_| ((first|refine w4 ?_|refine wD ?_|refine w5 ?_|refine w6 ?_|refine w7 ?_);try refine sq F ?_)| (refine w8 ?_;refine sq F ?_;refine w9 ?_)| (refine rq F ?_;try refine sq F ?_)| (refine vq F ?_;try refine sq F ?_)| ((first|refine hK _ _ (w0 ?_)| (clear hK K;refine hK _ _ (w0 ?_))| (clear hK K;clear hK K;refine hK _ _ (w0 ?_)));clear hK K)))
 refine(dB).mono ?_;rintro r h' ⟨rfl,rfl⟩;try refine sq F ?_
 (repeat (first|refine w1 (fun K hK=>?_)|refine w2 ?_|refine w3 ?_| ((first|refine w4 ?_|refine wD ?_|refine w5 ?_|refine w6 ?_|refine w7 ?_);try refine sq F ?_)| (refine w8 ?_;refine sq F ?_;refine w9 ?_)| (refine rq F ?_;try refine sq F ?_)| (refine vq F ?_;try refine sq F ?_)| ((first|refine hK _ _ (w0 ?_)| (clear hK K;refine hK _ _ (w0 ?_))| (clear hK K;clear hK K;refine hK _ _ (w0 ?_)));clear hK K)))
 refine(dR3).mono ?_;rintro r h' ⟨rfl,rfl⟩;try refine sq F ?_
 (repeat (first|refine w1 (fun K hK=>?_)|refine w2 ?_|refine w3 ?_| ((first|refine w4 ?_|refine wD ?_|refine w5 ?_|refine w6 ?_|refine w7 ?_);try refine sq F ?_)| (refine w8 ?_;refine sq F ?_;refine w9 ?_)| (refine rq F ?_;try refine sq F ?_)| (refine vq F ?_;try refine sq F ?_)| ((first|refine hK _ _ (w0 ?_)| (clear hK K;refine hK _ _ (w0 ?_))| (clear hK K;clear hK K;refine hK _ _ (w0 ?_)));clear hK K)))
 refine(hS _).mono ?_;rintro r h' ⟨rfl,rfl⟩;try refine sq F ?_
 (repeat (first|refine w1 (fun K hK=>?_)|refine w2 ?_|refine w3 ?_| ((first|refine w4 ?_|refine wD ?_|refine w5 ?_|refine w6 ?_|refine w7 ?_);try refine sq F ?_)| (refine w8 ?_;refine sq F ?_;refine w9 ?_)| (refine rq F ?_;try refine sq F ?_)| (refine vq F ?_;try refine sq F ?_)| ((first|refine hK _ _ (w0 ?_)| (clear hK K;refine hK _ _ (w0 ?_))| (clear hK K;clear hK K;refine hK _ _ (w0 ?_)));clear hK K)))
 refine(hS _).mono ?_;rintro r h' ⟨rfl,rfl⟩;try refine sq F ?_
 (repeat (first|refine w1 (fun K hK=>?_)|refine w2 ?_|refine w3 ?_| ((first|refine w4 ?_|refine wD ?_|refine w5 ?_|refine w6 ?_|refine w7 ?_);try refine sq F ?_)| (refine w8 ?_;refine sq F ?_;refine w9 ?_)| (refine rq F ?_;try refine sq F ?_)| (refine vq F ?_;try refine sq F ?_)| ((first|refine hK _ _ (w0 ?_)| (clear hK K;refine hK _ _ (w0 ?_))| (clear hK K;clear hK K;refine hK _ _ (w0 ?_)));clear hK K)))
 refine(dS1 _).mono ?_;rintro r h' ⟨rfl,rfl⟩;try refine sq F ?_
 (repeat (first|refine w1 (fun K hK=>?_)|refine w2 ?_|refine w3 ?_| ((first|refine w4 ?_|refine wD ?_|refine w5 ?_|refine w6 ?_|refine w7 ?_);try refine sq F ?_)| (refine w8 ?_;refine sq F ?_;refine w9 ?_)| (refine rq F ?_;try refine sq F ?_)| (refine vq F ?_;try refine sq F ?_)| ((first|refine hK _ _ (w0 ?_)| (clear hK K;refine hK _ _ (w0 ?_))| (clear hK K;clear hK K;refine hK _ _ (w0 ?_)));clear hK K)))
 refine(dW1 _).mono ?_;rintro r h' ⟨rfl,rfl⟩;try refine sq F ?_
 (repeat (first|refine w1 (fun K hK=>?_)|refine w2 ?_|refine w3 ?_| ((first|refine w4 ?_|refine wD ?_|refine w5 ?_|refine w6 ?_|refine w7 ?_);try refine sq F ?_)| (refine w8 ?_;refine sq F ?_;refine w9 ?_)| (refine rq F ?_;try refine sq F ?_)| (refine vq F ?_;try refine sq F ?_)| ((first|refine hK _ _ (w0 ?_)| (clear hK K;refine hK _ _ (w0 ?_))| (clear hK K;clear hK K;refine hK _ _ (w0 ?_)));clear hK K)))
 refine ee hQ F ?_;exact AB hn00 ⟨_,hH0⟩ (N3 _) ⟨rfl,rfl⟩
end
end
section
theorem mC(Z:Int→Prop){P A S:List Fo}{Q B R:List Fe}(hP:∀f∈P,¬Z f.inn)(hS:∀f∈S,¬Z f.inn)(hQ:∀f∈Q,¬Z f.inn)(hR:∀f∈R,¬Z f.inn)(hA:∀f∈A,Z f.id):
  ∀(k:Nat) (i:Int),Z i→outF (P++(A++S)) (Q++(B++R)) k i=outF A B k i:=by
 have fo:∀i,Z i→((P++(A++S)).filter fun f=>decide (f.inn=i))=A.filter fun f=>decide (f.inn=i):=fun i hi=>by
  rw[V9,V9,lw (fun f hf e=>hP f hf (e▸hi)),lw (fun f hf e=>hS f hf (e▸hi)),P2,N8]
 have fe:∀i,Z i→((Q++(B++R)).filter fun f=>decide (f.inn=i))=B.filter fun f=>decide (f.inn=i):=fun i hi=>by
  have no:∀L:List Fe,(∀f∈L,¬Z f.inn)→(L.filter fun f=>decide (f.inn=i))=[]:=fun L hL=>by
   rw[Y3];intro f hf he;exact hL f hf (R7 he▸hi)
  rw[V9,V9,no Q hQ,no R hR,P2,N8]
 intro k;induction k with
 |zero=>intro i hi;rw[outF,outF,fe i hi]
 |succ k ih=>
  intro i hi;rw[outF,outF,fe i hi,fo i hi];congr 1
  refine V1 fun f hf=>?_
  rw[ih f.id (hA f (T4.1 hf).1)]
section
variable {t z a b:PS} {inn:Int}
theorem uf(T:t.Top2)(hw:t.within inn=true):inn≤t.t1∧0≤inn:=by
 have:=T.zo;rcases lr hw with rfl|h
 ·omega
 ·obtain⟨f,hf⟩:=aF h;have:=T.o _ _ hf;have:=(T.i.i1 _ _ hf).2;omega
theorem DS(T:t.Top2){f:Fo}(hf:f∈t.tell.fo):f.inn≤t.t1:=by
 obtain⟨k,hk⟩:=eH hf;have:=T.zo;rcases T.i.u1 _ _ hk with h|h
 ·omega
 ·obtain⟨g,hg⟩:=aF h;exact T.o _ _ hg
theorem HP{name:Bs}(T:t.Top2)(hw:t.within inn=true)(hd:t.dpt inn<7)(hn:name≠ []∧textF rightS cleanF name 64=true)(h1:t.fo.length<64)(h2:t.t1+1≤1048576)(hp:foId t inn name=0):t.ok L0 (evFo t inn name)=true:=by
 have k1:(evFo t inn name).kind=1:=rfl;have hf:lkM t.fo (t.t1+1)=none:=by
  cases hl:lkM t.fo (t.t1+1)with
  |none=>rfl
  |some f=>have:=T.o _ _ hl;omega
 have hz:=T.zo;have hi:(inn==0||idF inn)=true:=by
  rcases lr hw with rfl|h
  ·rfl
  ·obtain⟨f,hf⟩:=aF h;have:=(T.i.i1 _ _ hf).2;have e:idF inn=true:=(by unfold idF;simp;omega);rw[e];simp
 have hck:L0.ck (evFo t inn name)=true:=by
  unfold Leaf.ck;rw[M2];refine⟨?_,by simp[usedE,evFo]⟩;have g1:idF (t.t1+1)=true:=by unfold idF;simp;omega
  have g3:L0.label name=true:=by
   show(!(name==[])&&textF rightS cleanF name 64)=true;rw[hn.2];simpa using hn.1
  unfold Leaf.right;rw[M7 k1];show(idF (t.t1+1)&&((inn==0||idF inn)&&L0.label name))=true;rw[g1,hi,g3];rfl
 have h4:(lkM t.nm (inn,name)).getD 0=0:=hp;have h5:(deepO t.fo 7 inn).getD 0<7:=hd;unfold PS.ok PS.fits;rw[hck,M7 k1];simp[evFo,hf,h1,hw,h4,PS.dpt,h5]
structure Inc (t z:PS) (inn:Int) (A:List Fo) (B:List Fe):Prop where
 T:z.Top2
 gr:Gr t z
 fo:z.tell.fo=t.tell.fo++A
 fe:z.tell.fe=t.tell.fe++B
 t1:z.t1=t.t1+A.length
 t2:z.t2=t.t2+B.length
 id:∀f∈A,t.t1<f.id∧f.id≤z.t1
 io:∀f∈A,f.inn=inn∨(t.t1<f.inn∧f.inn≤z.t1)
 ie:∀f∈B,f.inn=inn∨(t.t1<f.inn∧f.inn≤z.t1)
theorem Inc.refl(T:t.Top2):Inc t t inn [] []:=⟨T,Gr.refl t,by simp,by simp,by simp,by simp,fun f hf=>(by cases hf),fun f hf=>(by cases hf),fun f hf=>by cases hf⟩
theorem Inc.app{A C:List Fo}{B D:List Fe}(h:Inc t a inn A B)(g:Inc a b inn C D):Inc t b inn (A++C) (B++D) where
 T:=g.T
 gr:=h.gr.trans g.gr
 fo:=by rw[g.fo,h.fo,O9]
 fe:=by rw[g.fe,h.fe,O9]
 t1:=by have:=h.t1;have:=g.t1;rw[M3];omega
 t2:=by have:=h.t2;have:=g.t2;rw[M3];omega
 id:=fun f hf=>by
  have h1:=h.t1;have h2:=g.t1
  rcases Q6.1 hf with hf|hf
  ·have:=h.id f hf;omega
  ·have:=g.id f hf;omega
 io:=fun f hf=>by
  have h1:=h.t1;have h2:=g.t1
  rcases Q6.1 hf with hf|hf
  ·have:=h.io f hf;omega
  ·have:=g.io f hf;omega
 ie:=fun f hf=>by
  have h1:=h.t1;have h2:=g.t1
  rcases Q6.1 hf with hf|hf
  ·have:=h.ie f hf;omega
  ·have:=g.ie f hf;omega
theorem Inc.up{A:List Fo}{B:List Fe}{j:Int}(h:Inc a b j A B)(hj:t.t1<j∧j≤a.t1){C:List Fo}{D:List Fe}(g:Inc t a inn C D):Inc t b inn (C++A) (D++B) where
 T:=h.T
 gr:=g.gr.trans h.gr
 fo:=by rw[h.fo,g.fo,O9]
 fe:=by rw[h.fe,g.fe,O9]
 t1:=by have:=h.t1;have:=g.t1;rw[M3];omega
 t2:=by have:=h.t2;have:=g.t2;rw[M3];omega
 id:=fun f hf=>by
  have h1:=h.t1;have h2:=g.t1
  rcases Q6.1 hf with hf|hf
  ·have:=g.id f hf;omega
  ·have:=h.id f hf;omega
 io:=fun f hf=>by
  have h1:=h.t1;have h2:=g.t1
  rcases Q6.1 hf with hf|hf
  ·have:=g.io f hf;omega
  ·have:=h.io f hf;omega
 ie:=fun f hf=>by
  have h1:=h.t1;have h2:=g.t1
  rcases Q6.1 hf with hf|hf
  ·have:=g.ie f hf;omega
  ·have:=h.ie f hf;omega
theorem Inc.lo{A:List Fo}{B:List Fe}(h:Inc t z inn A B):z.fo.length=t.fo.length+A.length:=by
 have:=O6 List.length h.fo;rw[M3]at this;have e:∀s:PS,s.tell.fo.length=s.fo.length:=fun s=>cK Fo.z s.fo
 rw[e,e]at this;exact this
theorem Inc.le{A:List Fo}{B:List Fe}(h:Inc t z inn A B):z.fe.length=t.fe.length+B.length:=by
 have:=O6 List.length h.fe;rw[M3]at this;have e:∀s:PS,s.tell.fe.length=s.fe.length:=fun s=>cK Fe.z s.fe
 rw[e,e]at this;exact this
theorem Inc.dp{A:List Fo}{B:List Fe}(h:Inc t z inn A B)(T:t.Top2){i:Int}(hi:t.within i=true):z.dpt i=t.dpt i∧z.within i=true:=by
 refine⟨?_,ln h.gr hi⟩;unfold PS.dpt;rw[rK T.i h.T.i h.gr 7 i (lr hi)]
theorem DT{name:Bs}(T:t.Top2)(h:∀f∈t.tell.fo,f.inn=inn→f.name≠name):foId t inn name=0:=by
 unfold foId;cases hl:lkM t.nm (inn,name)with
 |none=>rfl
 |some k=>
  obtain⟨f,hf,he⟩:=T.n.n1 _ _ hl;cases he;exact absurd rfl (h f (ip hf) rfl)
theorem BT{name:Bs}(T:t.Top2)(hw:t.within inn=true)(hd:t.dpt inn<7)(hn:name≠ []∧textF rightS cleanF name 64=true)(h1:t.fo.length<64)(h2:t.t1+1≤1048576)(h0:∀f∈t.tell.fo,f.inn=inn→f.name≠name):
  t.ok L0 (evFo t inn name)=true∧foId t inn name=0∧Inc t (t.step L0 (evFo t inn name)) inn [⟨t.t1+1,inn,name⟩] []∧(t.step L0 (evFo t inn name)).within (t.t1+1)=true∧(t.step L0 (evFo t inn name)).dpt (t.t1+1)=t.dpt inn+1:=by
 have hp:=DT T h0;have hok:=HP T hw hd hn h1 h2 hp;have hle:=uf T hw;obtain⟨hgr,hT,_,hsome⟩:=im T hok;obtain⟨he,c8,e⟩:=gE hok;have hfo:(t.step L0 (evFo t inn name)).tell.fo=t.tell.fo++[⟨t.t1+1,inn,name⟩]:=by
  rw[e];show valsM Fo.z (upM t.fo t.c1 (t.t1+1) ⟨t.t1+1,inn,name⟩)=valsM Fo.z t.fo++_;exact lu (key:=(·.id)) T.i.w1 (fun k a hk=>(T.i.i1 k a hk).1) (fun j b hj=>by have:=T.o j b hj;omega) rfl
 have hfe:(t.step L0 (evFo t inn name)).tell.fe=t.tell.fe++[]:=by rw[e,N8];rfl
 have h1:(t.step L0 (evFo t inn name)).t1=t.t1+1:=by rw[e]
 have h2:(t.step L0 (evFo t inn name)).t2=t.t2:=by rw[e]
 have hlk:lkM (t.step L0 (evFo t inn name)).fo (t.t1+1)=some ⟨t.t1+1,inn,name⟩:=by
  rw[e];show lkM (upM t.fo t.c1 (t.t1+1) _) (t.t1+1)=_;rw[aS,M7 rfl]
 have hw1:(t.step L0 (evFo t inn name)).within (t.t1+1)=true:=by unfold PS.within;rw[hsome];simp
 have hI:Inc t (t.step L0 (evFo t inn name)) inn [⟨t.t1+1,inn,name⟩] []:=⟨hT,hgr,hfo,hfe,by rw[h1];rfl,by rw[h2];simp,fun f hf=>by
  rw[Q7]at hf;subst hf;rw[h1];show t.t1<t.t1+1∧t.t1+1≤t.t1+1;omega,fun f hf=>by
  rw[Q7]at hf;subst hf;exact .inl rfl,fun f hf=>by cases hf⟩
 refine⟨hok,hp,hI,hw1,?_⟩;have hdi:=(hI.dp T hw).1;generalize t.step L0 (evFo t inn name)=z at*;obtain⟨a1,a2⟩:=hT.i.deep (t.t1+1);obtain⟨a3,a4⟩:=hT.i.deep inn;rw[deepO,hlk]at a1;simp only[N9]at a1;obtain⟨d,hd1,hd2⟩:=a1;have:=eF hd1 (k':=7) (by omega);rw[a3]at this;cases this;omega
theorem BU{o:Outl}(T:t.Top2)(hw:t.within inn=true)(hu:o.url≠ [])(ho:oneOk o=true)(h1:t.fe.length<64)(h2:t.t2+1≤1048576)(h0:∀f∈t.tell.fe,f.url≠o.url):
  t.ok L0 (evFe t inn o)=true∧Inc t (t.step L0 (evFe t inn o)) inn [] [⟨t.t2+1,inn,o.url,o.title⟩]:=by
 have hp:lkM t.pl o.url=none:=by
  cases hl:lkM t.pl o.url with
  |none=>rfl
  |some k=>
   obtain⟨f,hf,he⟩:=T.n.p1 _ _ hl;exact absurd he (h0 f (ip hf))
 have hok:=Bu T hw hu ho h1 h2 hp;obtain⟨hgr,hT,_,_⟩:=jr T hok;obtain⟨he,c8,e⟩:=jq hok;refine⟨hok,hT,hgr,?_,?_,?_,?_,fun f hf=>(by cases hf),fun f hf=>(by cases hf),fun f hf=>?_⟩
 ·rw[e,N8];rfl
 ·rw[e];show valsM Fe.z (upM t.fe t.c2 (t.t2+1) ⟨t.t2+1,inn,o.url,o.title⟩)=valsM Fe.z t.fe++_;exact lu (key:=(·.id)) T.i.w2 (fun k a hk=>(T.i.i2 k a hk).1) (fun j b hj=>by have:=T.e j b hj;omega) rfl
 ·rw[e];simp
 ·rw[e];rfl
 ·rw[Q7]at hf;subst hf;exact .inl rfl
end
def gdF(o:Outl):Prop:=o.url≠ []∧oneOk o=true∧o.kids=[]
def gdO(nf:Bs→Bs)(o:Outl):Prop:=o.url=[]∧nf o.title=o.title∧o.title≠ []∧textF rightS cleanF o.title 64=true
def Gd(nf:Bs→Bs):Nat→List Outl→Prop
 |0,l=>∀o∈l,gdF o
 |k+1,l=>∃a b,l=a++b∧(∀o∈a,gdO nf o∧Gd nf k o.kids)∧(∀o∈b,gdF o)∧(a.map Outl.title).Nodup
def nfoK:Nat→List Outl→Nat
 |0,_=>0
 |k+1,l=>sumN (fun o=>if o.url=[]then 1+nfoK k o.kids else 0) l
def urlK:Nat→List Outl→List Bs
 |0,l=>l.flatMap fun o=>if o.url=[]then []else [o.url]
 |k+1,l=>l.flatMap fun o=>if o.url=[]then urlK k o.kids else [o.url]
theorem pO(h:Outl→PS→PS×List Ev):∀(a b:List Outl) (s:PS),(lstG h (a++b) s).1=(lstG h b (lstG h a s).1).1
 | [],b,s=>by rw[P2,lstG]
 |o::a,b,s=>by
  rw[Q2,lstG,lstG];exact pO h a b _
theorem sa{k:Nat}{b:List Outl}(h:∀o∈b,gdF o):urlK k b=b.map Outl.url∧nfoK k b=0:=by
 have key:∀g:Outl→List Bs,(b.flatMap fun o=>if o.url=[]then g o else [o.url])=b.map Outl.url:=fun g=>by
  induction b with
  |nil=>rfl
  |cons o b ih=>
   rw[R8,M1 (h o (Q0 ..)).1,ih fun x hx=>h x (P3 _ hx)];rfl
 cases k with
 |zero=>exact⟨key _,rfl⟩
 |succ k=>exact⟨key _,dq fun o ho=>M1 (h o ho).1⟩
theorem yO(k:Nat)(a b:List Outl):urlK k (a++b)=urlK k a++urlK k b:=by cases k<;>exact Z5
theorem yP(k:Nat)(a b:List Outl):nfoK k (a++b)=nfoK k a+nfoK k b:=by
 cases k with
 |zero=>rfl
 |succ k=>exact kw _ a b
section
variable {nf:Bs→Bs} {inn:Int}
theorem pP{g:Int→List Outl→PS→PS×List Ev}:∀(b:List Outl) (t:PS),(∀o∈b,gdF o)→t.Top2→t.within inn=true→t.fe.length+b.length≤64→t.t2+b.length≤1048576→(b.map Outl.url).Nodup→(∀f∈t.tell.fe,f.url ∉ b.map Outl.url)→
  ∃B,Inc t (lstG (oneG nf g inn) b t).1 inn [] B∧B.map (·.url)=b.map Outl.url∧B.map feO=b∧∀f∈B,f.inn=inn
 | [],t,_,T,_,_,_,_,_=>⟨[],Inc.refl T,rfl,rfl,fun f hf=>by cases hf⟩
 |o::b,t,hb,T,hw,h1,h2,nd,h0=>by
  have ho:=hb o (Q0 ..);rw[M6]at h1 h2;rw[O3,U6]at nd;obtain⟨hok,I1⟩:=BU (inn:=inn) T hw ho.1 ho.2.1 (by omega) (by omega) fun f hf e=>h0 f hf (by rw[e];exact Q0 ..)
  have hone:oneG nf g inn o t=(t.step L0 (evFe t inn o),[evFe t inn o]):=by unfold oneG putF;rw[M7 ho.1,M7 hok]
  have l1:=I1.le;have t2:=I1.t2;rw[U8]at l1 t2;obtain⟨B,I2,e1,e2,e3⟩:=pP (g:=g) b (t.step L0 (evFe t inn o)) (fun x hx=>hb x (P3 _ hx)) I1.T (I1.dp T hw).2 (by omega) (by omega) nd.2 fun f hf hm=>by
   rw[I1.fe,Q6,Q7]at hf;rcases hf with hf|rfl
   ·exact h0 f hf (P3 _ hm)
   ·exact nd.1 hm
  refine⟨_::B,by rw[lstG,hone];exact I1.app I2,by rw[O3,e1];rfl,?_,fun f hf=>?_⟩
  ·rw[O3,e2];congr 1
   have ht:o.title≠ []:=by
    have:=ho.2.1;unfold oneOk at this;simp only[M2,M8]at this;exact this.1.1.1
   have hk:=ho.2.2;cases o with
   |mk x u l=>
    unfold feO;have ht:x≠ []:=ht;have hk:l=[]:=hk;show Outl.mk (if x=[]then shortF u 256 else x) u []=Outl.mk x u l;rw[M1 ht,hk]
  ·rcases O5.1 hf with rfl|hf
   ·rfl
   ·exact e3 f hf
def Did(nf:Bs→Bs)(k:Nat):Prop:=∀(inn:Int) (l:List Outl) (t:PS),t.Top2→t.within inn=true→t.dpt inn+k≤7→Gd nf k l→(∀f∈t.tell.fo,f.inn≠inn)→
 t.fo.length+nfoK k l≤64→t.t1+nfoK k l≤1048576→t.fe.length+(urlK k l).length≤64→t.t2+(urlK k l).length≤1048576→(urlK k l).Nodup→(∀f∈t.tell.fe,f.url ∉ urlK k l)→
 ∃A B,Inc t (brgF nf (k+1) inn l t).1 inn A B∧A.length=nfoK k l∧B.map (·.url)=urlK k l∧outF A B k inn=l
theorem wl{k:Nat}(ih:Did nf k):∀(a:List Outl) (t:PS),t.Top2→t.within inn=true→t.dpt inn+(k+1)≤7→(∀o∈a,gdO nf o∧Gd nf k o.kids)→(a.map Outl.title).Nodup→(∀f∈t.tell.fo,f.inn=inn→f.name ∉ a.map Outl.title)→
  t.fo.length+nfoK (k+1) a≤64→t.t1+nfoK (k+1) a≤1048576→t.fe.length+(urlK (k+1) a).length≤64→t.t2+(urlK (k+1) a).length≤1048576→(urlK (k+1) a).Nodup→(∀f∈t.tell.fe,f.url ∉ urlK (k+1) a)→
  ∃A B,Inc t (lstG (oneG nf (brgF nf (k+1)) inn) a t).1 inn A B∧A.length=nfoK (k+1) a∧B.map (·.url)=urlK (k+1) a∧((kidsI A inn).map fun f=>(⟨f.name,[],outF A B k f.id⟩:Outl))=a∧∀f∈B,f.inn≠inn
 | [],t,T,_,_,_,_,_,_,_,_,_,_,_=>⟨[],[],Inc.refl T,rfl,rfl,rfl,fun f hf=>by cases hf⟩
 |o::a,t,T,hw,hd,ha,nd,hnm,r1,r2,r3,r4,ud,hur=>by
  obtain⟨⟨o1,o2,o3,o4⟩,hG⟩:=ha o (Q0 ..);have en:nfoK (k+1) (o::a)=1+nfoK k o.kids+nfoK (k+1) a:=by
   show sumN _ (o::a)=_;rw[sumN,M7 o1];rfl
  have eu:urlK (k+1) (o::a)=urlK k o.kids++urlK (k+1) a:=by
   show List.flatMap _ (o::a)=_;rw[R8,M7 o1];rfl
  rw[en]at r1 r2;rw[eu,M3]at r3 r4;rw[eu,List.nodup_append]at ud;rw[eu]at hur;rw[O3,U6]at nd;have hle:=uf T hw;obtain⟨hok,hp,I1,w1,d1⟩:=BT (name:=o.title) T hw (by omega) ⟨o3,o4⟩ (by omega) (by omega) fun f hf hi e=>hnm f hf hi (by rw[e];exact Q0 ..)
  have hone:(oneG nf (brgF nf (k+1)) inn o t).1=(brgF nf (k+1) (t.t1+1) o.kids (t.step L0 (evFo t inn o.title))).1:=by
   unfold oneG;rw[M1 (by simpa using o1),o2,M1 (by simpa using hp),M7 hok]
  have l1:=I1.lo;have l2:=I1.le;have t1:=I1.t1;have t2:=I1.t2;rw[U8]at l1 t1;rw[N4]at l2 t2;generalize t.step L0 (evFo t inn o.title)=u at*;obtain⟨A1,B1,I2,c1,c2,c3⟩:=ih (t.t1+1) o.kids u I1.T w1 (by omega) hG (fun f hf=>by
   rw[I1.fo,Q6,Q7]at hf;rcases hf with hf|rfl
   ·have:=DS T hf;omega
   ·show inn≠t.t1+1;omega) (by omega) (by omega) (by omega) (by omega) ud.1 (fun f hf hm=>by
   rw[I1.fe,N8]at hf;exact hur f hf (Z0 _ hm))
  have m1:=I2.lo;have m2:=I2.le;have m3:=I2.t1;have m4:=I2.t2;have c2l:B1.length=(urlK k o.kids).length:=by rw[← c2,O0]
  have I12:=I2.up (t:=t) (inn:=inn) (by omega) I1;generalize (brgF nf (k+1) (t.t1+1) o.kids u).1=v at*;have hwv:=I12.dp T hw;obtain⟨A2,B2,I3,e1,e2,e3,e4⟩:=wl ih a v I2.T hwv.2 (by omega) (fun x hx=>ha x (P3 _ hx)) nd.2 (fun f hf hi=>by
   rw[I12.fo,Q6,Q6,Q7]at hf;rcases hf with hf|rfl|hf
   ·exact fun hm=>hnm f hf hi (P3 _ hm)
   ·exact nd.1
   ·have:=I2.io f hf;omega) (by omega) (by omega) (by omega) (by omega) ud.2.1 (fun f hf hm=>by
   rw[I12.fe,P2,Q6]at hf;rcases hf with hf|hf
   ·exact hur f hf (List.mem_append_right _ hm)
   ·have:f.url∈urlK k o.kids:=by rw[← c2];exact N5.2 ⟨f,hf,rfl⟩
    exact ud.2.2 _ this _ hm rfl)
  have hA1:kidsI A1 inn=[]:=lw fun f hf e=>by have:=I2.io f hf;omega
  refine⟨[⟨t.t1+1,inn,o.title⟩]++A1++A2,[]++B1++B2,?_,?_,?_,?_,?_⟩
  ·rw[lstG,hone];exact I12.app I3
  ·rw[en];simp only[M3,U8];omega
  ·rw[eu,R3,P2,c2,e2]
  ·have hK:kidsI ([⟨t.t1+1,inn,o.title⟩]++A1++A2) inn=⟨t.t1+1,inn,o.title⟩::kidsI A2 inn:=by
    unfold kidsI at hA1 ⊢;rw[V9,V9,hA1,N8];simp
   rw[hK,O3];have q1:outF ([⟨t.t1+1,inn,o.title⟩]++A1++A2) ([]++B1++B2) k (t.t1+1)=o.kids:=by
    rw[← c3,O9,O9];refine mC (fun x=>t.t1<x∧x≤v.t1) (fun f hf=>?_) (fun f hf=>?_) (fun f hf=>by cases hf) (fun f hf=>?_) (fun f hf=>?_) k _ (by omega)
    ·rw[Q7]at hf;subst hf;show ¬(t.t1<inn∧inn≤v.t1);omega
    ·have:=I3.io f hf;omega
    ·have:=I3.ie f hf;omega
    ·have:=I2.id f hf;omega
   congr 1
   ·show(⟨o.title,[],outF ([⟨t.t1+1,inn,o.title⟩]++A1++A2) ([]++B1++B2) k (t.t1+1)⟩:Outl)=o;rw[q1];cases o with
    |mk x y z=>simp only[Outl.title,Outl.url,Outl.kids]at o1 ⊢;rw[o1]
   ·rw[← e3];refine V1 fun f hf=>?_
    have hf2:=(cM hf).1;have q2:=mC (fun x=>v.t1<x) (P:=[⟨t.t1+1,inn,o.title⟩]++A1) (A:=A2) (S:=[]) (Q:=[]++B1) (B:=B2) (R:=[]) (fun g hg=>?_) (fun g hg=>by cases hg) (fun g hg=>?_) (fun g hg=>by cases hg) (fun g hg=>?_) k f.id ?_
    ·rw[N8,N8]at q2;rw[q2]
    ·rcases Q6.1 hg with hg|hg
     ·rw[Q7]at hg;subst hg;show ¬v.t1<inn;omega
     ·have:=I2.io g hg;omega
    ·rw[P2]at hg;have:=I2.ie g hg;omega
    ·exact(I3.id g hg).1
    ·exact(I3.id f hf2).1
  ·intro f hf;rw[P2]at hf;rcases Q6.1 hf with hf|hf
   ·have:=I2.ie f hf;omega
   ·exact e4 f hf
theorem sf:∀k,Did nf k
 |0=>fun inn l t T hw _ hG _ _ _ r3 r4 ud hur=>by
  have hG:∀o∈l,gdF o:=hG;obtain⟨eu,en⟩:=sa (k:=0) hG;rw[eu]at r3 r4 ud hur;rw[O0]at r3 r4;obtain⟨B,I,e1,e2,e3⟩:=pP (nf:=nf) (g:=brgF nf 0) (inn:=inn) l t hG T hw r3 r4 ud hur;refine⟨[],B,I,en.symm,by rw[eu,e1],?_⟩;rw[outF,V5.2 fun f hf=>by simp[e3 f hf]];exact e2
 |k+1=>fun inn l t T hw hd hG hno r1 r2 r3 r4 ud hur=>by
  obtain⟨a,b,rfl,ha,hb,nd⟩:=hG;obtain⟨eu,en⟩:=sa (k:=k+1) hb;rw[yP,en,W1]at r1 r2 ⊢;rw[yO,eu]at r3 r4 ud hur ⊢;rw[M3,O0]at r3 r4;rw[List.nodup_append]at ud;have hle:=uf T hw;obtain⟨A,B,I,c1,c2,c3,c4⟩:=wl (inn:=inn) (sf k) a t T hw hd ha nd (fun f hf hi=>absurd hi (hno f hf)) r1 r2 (by omega) (by omega) ud.1 (fun f hf hm=>hur f hf (Z0 _ hm));have m1:=I.lo;have m2:=I.le;have m3:=I.t1;have m4:=I.t2;have c2l:B.length=(urlK (k+1) a).length:=by rw[← c2,O0]
  have hbr:(brgF nf (k+1+1) inn (a++b) t).1=(lstG (oneG nf (brgF nf (k+1)) inn) b (lstG (oneG nf (brgF nf (k+1)) inn) a t).1).1:=pO _ a b t;rw[hbr];generalize (lstG (oneG nf (brgF nf (k+1)) inn) a t).1=u at*;obtain⟨C,J,e1,e2,e3⟩:=pP (nf:=nf) (g:=brgF nf (k+1)) (inn:=inn) b u hb I.T (I.dp T hw).2 (by omega) (by omega) ud.2.1 (fun f hf hm=>by
   rw[I.fe,Q6]at hf;rcases hf with hf|hf
   ·exact hur f hf (List.mem_append_right _ hm)
   ·have:f.url∈urlK (k+1) a:=by rw[← c2];exact N5.2 ⟨f,hf,rfl⟩
    exact ud.2.2 _ this _ hm rfl)
  refine⟨A++[],B++C,I.app J,by rw[N8];exact c1,by rw[R3,c2,e1],?_⟩;rw[N8,outF];congr 1
  ·show((kidsI A inn).map fun f=>(⟨f.name,[],outF A (B++C) k f.id⟩:Outl))=a;rw[← c3];refine V1 fun f hf=>?_
   have hf2:=(cM hf).1;have q:=mC (fun x=>t.t1<x) (P:=[]) (A:=A) (S:=[]) (Q:=[]) (B:=B) (R:=C) (fun g hg=>by cases hg) (fun g hg=>by cases hg) (fun g hg=>by cases hg) (fun g hg=>by rw[e3 g hg];omega) (fun g hg=>(I.id g hg).1) k f.id (I.id f hf2).1;rw[N8,P2,P2]at q;rw[q]
  ·rw[V9,Y3.2 fun f hf=>by simpa using c4 f hf,P2,V5.2 fun f hf=>by simp[e3 f hf]];exact e2
end
theorem zc:∀{l:List Bs},(∀u,l.countP (fun x=>x==u)≤1)→l.Nodup
 | [],_=>List.nodup_nil
 |a::l,h=>by
  rw[U6];refine⟨fun hm=>?_,zc fun u=>?_⟩
  ·have h1:=h a;rw[W2,M7 (by simp)]at h1;have:0<l.countP (fun x=>x==a):=List.countP_pos_iff.2 ⟨a,hm,by simp⟩;omega
  ·have:=h u;rw[W2]at this;omega
theorem AC{α β:Type}(p:β→Bool)(g:α→List β)(l:List α):(l.flatMap g).countP p=sumN (fun a=>(g a).countP p) l:=by
 induction l with
 |nil=>rfl
 |cons a l ih=>rw[R8,List.countP_append,ih,sumN]
section
variable {fo:List Fo} {fe:List Fe} {up:Int→Int} {d:Int→Nat}
theorem sg(h:∀f∈fo,up f.id=f.inn∧d f.id=d f.inn+1)(nd:(fo.map (·.id)).Nodup)(hf:∀f∈fe,feT f):∀(k:Nat) (i:Int),nfoK k (outF fo fe k i)≤(fo.map (·.inn)).countP (inW up d i)
 |0,i=>V8 _
 |k+1,i=>by
  have a:=gH h nd i (fo.map (·.inn));have hko:(kidsI fo i).length=(fo.map (·.inn)).countP (fun x=>decide (x=i)):=by
   unfold kidsI;rw[List.countP_map,List.countP_eq_length_filter];rfl
  have h2:∀o∈ (fe.filter fun f=>decide (f.inn=i)).map feO,(if o.url=[]then 1+nfoK k o.kids else 0)=0:=fun o ho=>by
   obtain⟨f,hm,rfl⟩:=N5.1 ho;exact M1 (hf f (T4.1 hm).1).1
  have e1:sumN (fun f:Fo=>1+nfoK k (outF fo fe k f.id)) (kidsI fo i)=(kidsI fo i).length+sumN (fun f:Fo=>nfoK k (outF fo fe k f.id)) (kidsI fo i):=by
   rw[ku];congr 1
   induction kidsI fo i with
   |nil=>rfl
   |cons x l ih=>rw[sumN,ih,M6];omega
  have e2:sumN (fun f:Fo=>nfoK k (outF fo fe k f.id)) (kidsI fo i)≤sumN (fun f:Fo=>(fo.map (·.inn)).countP (inW up d f.id)) (kidsI fo i):=mt fun f _=>sg h nd hf k f.id
  show sumN (fun o:Outl=>if o.url=[]then 1+nfoK k o.kids else 0) (((kidsI fo i).map fun f=>(⟨f.name,[],outF fo fe k f.id⟩:Outl))++(fe.filter fun f=>decide (f.inn=i)).map feO)≤_;rw[kw,dq h2,ky];show sumN (fun f:Fo=>1+nfoK k (outF fo fe k f.id)) (kidsI fo i)+0≤_;omega
theorem zd(p:Bs→Bool)(i:Int):∀fe:List Fe,(fe.filter fun f=>decide (f.inn=i)).countP (fun f=>p f.url)=((fe.filter fun f=>p f.url).map (·.inn)).countP (fun x=>decide (x=i))
 | []=>rfl
 |f::fe=>by
  have ih:=zd p i fe;rw[X0,X0];by_cases h1:f.inn=i<;>by_cases h2:p f.url=true
  ·rw[M7 (by simpa using h1),M7 h2,W2,O3,W2,ih,M7 h2,M7 (by simpa using h1)]
  ·rw[M7 (by simpa using h1),M1 h2,W2,ih,M1 h2];rfl
  ·rw[M1 (by simpa using h1),M7 h2,O3,W2,ih,M1 (by simpa using h1)];rfl
  ·rw[M1 (by simpa using h1),M1 h2,ih]
theorem sh(p:Bs→Bool)(h:∀f∈fo,up f.id=f.inn∧d f.id=d f.inn+1)(nd:(fo.map (·.id)).Nodup)(hf:∀f∈fe,feT f):∀(k:Nat) (i:Int),(urlK k (outF fo fe k i)).countP p≤((fe.filter fun f=>p f.url).map (·.inn)).countP (inW up d i):=by
 have h2:∀(g:Outl→List Bs) (i:Int),(((fe.filter fun f=>decide (f.inn=i)).map feO).flatMap fun o=>if o.url=[]then g o else [o.url]).countP p=((fe.filter fun f=>p f.url).map (·.inn)).countP (fun x=>decide (x=i)):=fun g i=>by
  have:(((fe.filter fun f=>decide (f.inn=i)).map feO).flatMap fun o=>if o.url=[]then g o else [o.url])=(fe.filter fun f=>decide (f.inn=i)).map (·.url):=by
   have key:∀L:List Fe,(∀f∈L,feT f)→((L.map feO).flatMap fun o=>if o.url=[]then g o else [o.url])=L.map (·.url):=fun L=>by
    induction L with
    |nil=>intro _;rfl
    |cons f L ih=>
     intro hL;rw[O3,R8,ih fun x hx=>hL x (P3 _ hx),M1 (show(feO f).url≠ []from(hL f (Q0 ..)).1)];rfl
   exact key _ fun f hm=>hf f (T4.1 hm).1
  rw[this,List.countP_map];exact zd p i fe
 intro k;induction k with
 |zero=>
  intro i;have a:=gH h nd i ((fe.filter fun f=>p f.url).map (·.inn));have:=h2 (fun _=>[]) i;show(List.flatMap _ (outF fo fe 0 i)).countP p≤_;rw[outF,this];omega
 |succ k ih=>
  intro i;have a:=gH h nd i ((fe.filter fun f=>p f.url).map (·.inn));have:=h2 (fun o=>urlK k o.kids) i;show(List.flatMap (fun o:Outl=>if o.url=[]then urlK k o.kids else [o.url]) (((kidsI fo i).map fun f=>(⟨f.name,[],outF fo fe k f.id⟩:Outl))++(fe.filter fun f=>decide (f.inn=i)).map feO)).countP p≤_;rw[Z5,List.countP_append,this,AC,ky];have e2:sumN (fun f:Fo=>(urlK k (outF fo fe k f.id)).countP p) (kidsI fo i)≤sumN (fun f:Fo=>((fe.filter fun f=>p f.url).map (·.inn)).countP (inW up d f.id)) (kidsI fo i):=mt fun f _=>ih f.id
  show sumN (fun f:Fo=>(urlK k (outF fo fe k f.id)).countP p) (kidsI fo i)+_≤_;omega
theorem BV{nf:Bs→Bs}(hf:∀f∈fe,feT f)(ho:∀f∈fo,f.name≠ []∧textF rightS cleanF f.name 64=true)(hn:∀f∈fo,nf f.name=f.name)(hu:∀i,((kidsI fo i).map (·.name)).Nodup):∀(k:Nat) (i:Int),Gd nf k (outF fo fe k i):=by
 have h2:∀i,∀o∈ (fe.filter fun f=>decide (f.inn=i)).map feO,gdF o:=fun i o hm=>by
  obtain⟨f,hm2,rfl⟩:=N5.1 hm;have:=hf f (T4.1 hm2).1;exact⟨this.1,vY this,rfl⟩
 intro k;induction k with
 |zero=>intro i;exact h2 i
 |succ k ih=>
  intro i;refine⟨(kidsI fo i).map fun f=>(⟨f.name,[],outF fo fe k f.id⟩:Outl),_,rfl,fun o hm=>?_,h2 i,?_⟩
  ·obtain⟨f,hm2,rfl⟩:=N5.1 hm;have hm:=(cM hm2).1;exact⟨⟨rfl,hn f hm,(ho f hm).1,(ho f hm).2⟩,ih f.id⟩
  ·rw[List.map_map];exact hu i
end
theorem AD{L:List Fe}(nd:L.Nodup)(h:∀a∈L,∀b∈L,a=b):L.length≤1:=by
 match L,nd,h with
 | [],_,_=>exact V8 _
 | [_],_,_=>exact N3 _
 |a::b::L,nd,h=>
  have:=h a (Q0 ..) b (P3 _ (Q0 ..));subst this;rw[U6]at nd;exact absurd (Q0 ..) nd.1
theorem wm{α β:Type}{f:α→β}:∀{l:List α},l.Nodup→(∀a∈l,∀b∈l,f a=f b→a=b)→(l.map f).Nodup
 | [],_,_=>List.nodup_nil
 |a::l,nd,h=>by
  rw[U6]at nd;rw[O3,U6];refine⟨fun hm=>?_,wm nd.2 fun x hx y hy=>h x (P3 _ hx) y (P3 _ hy)⟩;obtain⟨b,hb,he⟩:=N5.1 hm;exact nd.1 (h a (Q0 ..) b (P3 _ hb) he.symm▸hb)
theorem DU:PS.z.dpt 0=0:=rfl
theorem BW:PS.z.tell.fo=[]:=by show valsM Fo.z []=[];simp[valsM,sortI]
theorem BX:PS.z.tell.fe=[]:=by show valsM Fe.z []=[];simp[valsM,sortI]
theorem yQ{s:PS}(T:s.Top2)(hT:s.Txt):(brgF nfX 8 0 s.outl PS.z).1.outl=s.outl:=by
 have hlo:s.tell.fo.length≤64:=by show(valsM Fo.z s.fo).length≤64;rw[cK];exact T.i.l1
 have hle:s.tell.fe.length≤64:=by show(valsM Fe.z s.fe).length≤64;rw[cK];exact T.i.l2
 have hup:∀f∈s.tell.fo,((lkM s.fo f.id).map (·.inn)).getD 0=f.inn∧s.dpt f.id=s.dpt f.inn+1:=fun f hf=>by
  obtain⟨k,hk⟩:=eH hf;have hid:=(T.i.i1 _ _ hk).1;rw[← hid]at hk;obtain⟨h1,h2⟩:=T.i.deep f.id;obtain⟨h3,h4⟩:=T.i.deep f.inn;refine⟨by rw[hk];rfl,?_⟩;rw[deepO,hk]at h1;simp only[N9]at h1;obtain⟨d,hd,he⟩:=h1;have:=eF hd (k':=7) (by omega);rw[h3]at this;cases this;exact he.symm
 have sro:=fX (z:=Fo.z) (key:=(·.id)) T.i.w1 fun k a hk=>(T.i.i1 k a hk).1
 have sre:=fX (z:=Fe.z) (key:=(·.id)) T.i.w2 fun k a hk=>(T.i.i2 k a hk).1
 have nd:(s.tell.fo.map (·.id)).Nodup:=by
  show((valsM Fo.z s.fo).map (·.id)).Nodup;rw[j5 T.i.w1 fun k a hk=>(T.i.i1 k a hk).1];exact kl T.i.w1.keys
 have hfe:∀f∈s.tell.fe,feT f:=fun f hf=>by obtain⟨k,hk⟩:=j6 hf;exact hT.fe k f hk
 have hfo:∀f∈s.tell.fo,f.name≠ []∧textF rightS cleanF f.name 64=true:=fun f hf=>by obtain⟨k,hk⟩:=eH hf;exact hT.fo k f hk
 have hnm:∀i,((kidsI s.tell.fo i).map (·.name)).Nodup:=fun i=>by
  refine wm ((js sro).sublist List.filter_sublist) fun a ha b hb he=>?_
  obtain⟨ha,ia⟩:=cM ha;obtain⟨hb,ib⟩:=cM hb;obtain⟨ka,hka⟩:=eH ha;obtain⟨kb,hkb⟩:=eH hb;have h1:=T.n.n2 _ _ hka;have h2:=T.n.n2 _ _ hkb;rw[ia,he]at h1;rw[ib,h1]at h2;cases h2;rw[hka]at hkb;cases hkb;rfl
 have hG:=BV (nf:=nfX) hfe hfo (fun f hf=>j8 (fG (m:=64) (hfo f hf).2)) hnm 7 0;have n1:=sg (up:=fun x=>((lkM s.fo x).map (·.inn)).getD 0) (d:=s.dpt) hup nd hfe 7 0;have n2:=X6 (p:=inW (fun x=>((lkM s.fo x).map (·.inn)).getD 0) s.dpt 0) (l:=s.tell.fo.map (·.inn));rw[O0]at n2;have u1:=sh (up:=fun x=>((lkM s.fo x).map (·.inn)).getD 0) (d:=s.dpt) (fun _=>true) hup nd hfe 7 0;rw[List.countP_true]at u1;have u2:=X6 (p:=inW (fun x=>((lkM s.fo x).map (·.inn)).getD 0) s.dpt 0) (l:=(s.tell.fe.filter fun _=>true).map (·.inn));rw[O0]at u2;have u3:(s.tell.fe.filter fun _=>true).length≤s.tell.fe.length:=List.length_filter_le ..;have und:(urlK 7 (outF s.tell.fo s.tell.fe 7 0)).Nodup:=zc fun u=>by
  have a:=sh (up:=fun x=>((lkM s.fo x).map (·.inn)).getD 0) (d:=s.dpt) (fun x=>x==u) hup nd hfe 7 0;have b:=X6 (p:=inW (fun x=>((lkM s.fo x).map (·.inn)).getD 0) s.dpt 0) (l:=(s.tell.fe.filter fun f=>f.url==u).map (·.inn));rw[O0]at b;have c:(s.tell.fe.filter fun f=>f.url==u).length≤1:=AD ((js sre).sublist List.filter_sublist) fun x hx y hy=>by
   rw[T4,beq_iff_eq]at hx hy;obtain⟨ka,hka⟩:=j6 hx.1;obtain⟨kb,hkb⟩:=j6 hy.1;have h1:=T.n.p2 _ _ hka;have h2:=T.n.p2 _ _ hkb;rw[hx.2]at h1;rw[hy.2,h1]at h2;cases h2;rw[hka]at hkb;cases hkb;rfl
  omega
 have z1:PS.z.fo.length=0:=rfl;have z2:PS.z.fe.length=0:=rfl;have z3:PS.z.t1=0:=rfl;have z4:PS.z.t2=0:=rfl;have hz:=DU;obtain⟨A,B,I,_,_,he⟩:=sf (nf:=nfX) 7 0 s.outl PS.z zb5 rfl (by omega) hG (fun f hf=>by rw[BW]at hf;cases hf) (by unfold PS.outl;omega) (by unfold PS.outl;omega) (by unfold PS.outl;omega) (by unfold PS.outl;omega) und (fun f hf=>by rw[BX]at hf;cases hf);have f1:=I.fo;have f2:=I.fe;rw[BW,P2]at f1;rw[BX,P2]at f2;rw[show(brgF nfX 8 0 s.outl PS.z).1.outl=outF (brgF nfX 8 0 s.outl PS.z).1.tell.fo (brgF nfX 8 0 s.outl PS.z).1.tell.fe 7 0 from rfl,f1,f2];exact he
end
section
attribute [local irreducible] WP WPl WPix Sat
theorem mD{H:Heap}{n m:Nat}{s a:PS}(h1:n+9≤m)(h2:m+9≤H.length):so (so H n s) m a=so (so H m a) n s:=(zF (by show n+9≤_;omega) (by show m+9≤_;omega) (.inl h1)).symm
variable (G:Nat→Option (List AVal))
theorem yT(l:List Fo)(hl:l.length≤100)(h:Heap):Sat (CT G) 61 [.sl 3 (l.map Fo.av),.sl 3 (l.map Fo.av)] h (fun r h'=>r=.bool true∧h'=h):=by
 have hm:(l.map Fo.av).length=l.length:=O0 ..;have q0:((l.length:Int) != (l.length:Int))=false:=by simp
 have F:=F3 hm q0 @yS;refine sb [.tmp 4] Tryz.func61 ?_;intro Q hQ;refine wk F ?_;refine lm (fun nL tL hL=>∃(k:Nat),l.length-k=nL∧h=hL∧tL 13=.int .i64 k∧k≤l.length) ((fun(k:Nat)=>(l.length-k:Nat)) (0)) ?_ ?_
 ·refine N6 ⟨0,rfl,aw,?_,by omega⟩;all_goals try exact zZz F
 rintro _ s2 h' ⟨k,rfl,rfl,e13,hk⟩ K2 hK2;simp only[aj,am,Nat.reduceEqDiff, ↓reduceIte]at e13;have F:=F2 F e13;by_cases c2:k<l.length
 ·have d2:=R4 c2;obtain⟨y,hy,hym⟩:=ak c2;have hmy:(l.map Fo.av)[k]? =some y.av:=by rw[O2,hy];rfl
  obtain⟨y1,y2,y3⟩:=y;rw[Fo.av_eq]at hmy;simp only[]at hmy;have F:=F5 F hmy hy d2 c2;try refine sq F ?_
  refine wk F ?_;refine hK2 _ _ _ (N6 ⟨k+1,rfl,rfl,?_,by omega⟩) (by omega);all_goals try exact zZz F
 ·have d2:=S7 c2;have F:=F2 F d2;try refine sq F ?_
  refine wk F ?_;refine ee hQ F ?_;exact S6 (.bool _) ⟨rfl,rfl⟩
theorem yU(l:List Fe)(hl:l.length≤100)(h:Heap):Sat (CT G) 62 [.sl 4 (l.map Fe.av),.sl 4 (l.map Fe.av)] h (fun r h'=>r=.bool true∧h'=h):=by
 have hm:(l.map Fe.av).length=l.length:=O0 ..;have q0:((l.length:Int) != (l.length:Int))=false:=by simp
 have F:=F3 hm q0 @yR;refine sb [.tmp 4] Tryz.func62 ?_;intro Q hQ;refine wk F ?_;refine lm (fun nL tL hL=>∃(k:Nat),l.length-k=nL∧h=hL∧tL 13=.int .i64 k∧k≤l.length) ((fun(k:Nat)=>(l.length-k:Nat)) (0)) ?_ ?_
 ·refine N6 ⟨0,rfl,aw,?_,by omega⟩;all_goals try exact zZz F
 rintro _ s2 h' ⟨k,rfl,rfl,e13,hk⟩ K2 hK2;simp only[aj,am,Nat.reduceEqDiff, ↓reduceIte]at e13;have F:=F2 F e13;by_cases c2:k<l.length
 ·have d2:=R4 c2;obtain⟨y,hy,hym⟩:=ak c2;have hmy:(l.map Fe.av)[k]? =some y.av:=by rw[O2,hy];rfl
  obtain⟨y1,y2,y3,y4⟩:=y;rw[Fe.av_eq]at hmy;simp only[]at hmy;have F:=F5 F hmy hy d2 c2;try refine sq F ?_
  refine wk F ?_;refine hK2 _ _ _ (N6 ⟨k+1,rfl,rfl,?_,by omega⟩) (by omega);all_goals try exact zZz F
 ·have d2:=S7 c2;have F:=F2 F d2;try refine sq F ?_
  refine wk F ?_;refine ee hQ F ?_;exact S6 (.bool _) ⟨rfl,rfl⟩
theorem wo(h:Heap):Sat (CT G) 63 [.sl 3 [],.sl 3 []] h (fun r h'=>r=.bool true∧h'=h):=by
 refine sb [.tmp 4] Tryz.func63 ?_;intro Q hQ;refine wk trivial ?_;refine lm (fun nL tL hL=>∃(k:Nat),0-k=nL∧h=hL∧tL 13=.int .i64 k∧k≤0) ((fun(k:Nat)=>(0-k:Nat)) (0)) ?_ ?_
 ·refine N6 ⟨0,rfl,aw,?_,by omega⟩;all_goals try exact zZz trivial
 rintro _ s2 h' ⟨k,rfl,rfl,e13,hk⟩ K2 hK2;simp only[aj,am,Nat.reduceEqDiff, ↓reduceIte]at e13;have F:=e13;refine wk F ?_;refine cq F (fun c1=>?_) (fun c1=>?_)<;>(try exact c1.elim)<;>(refine wk F ?_)
 ·exact absurd c1 (by omega)
 ·refine ee hQ F ?_;exact S6 (.bool _) ⟨rfl,rfl⟩
theorem wq(f:AVal)(h:Heap):Sat (CT G) 64 [.sl 9 [],.sl 9 [],f] h (fun r h'=>r=.bool true∧h'=h):=by
 refine sb [.tmp 6] Tryz.func64 ?_;intro Q hQ;refine wk trivial ?_;refine lm (fun nL tL hL=>∃(k:Nat),0-k=nL∧h=hL∧tL 17=.int .i64 k∧k≤0) ((fun(k:Nat)=>(0-k:Nat)) (0)) ?_ ?_
 ·refine N6 ⟨0,rfl,aw,?_,by omega⟩;all_goals try exact zZz trivial
 rintro _ s2 h' ⟨k,rfl,rfl,e17,hk⟩ K2 hK2;simp only[aj,am,Nat.reduceEqDiff, ↓reduceIte]at e17;have F:=e17;refine wk F ?_;refine cq F (fun c1=>?_) (fun c1=>?_)<;>(try exact c1.elim)<;>(refine wk F ?_)
 ·exact absurd c1 (by omega)
 ·refine ee hQ F ?_;exact S6 (.bool _) ⟨rfl,rfl⟩
theorem wt(x:St)(h1:x.fo.length≤100)(h2:x.fe.length≤100)(h3:x.it=[])(h4:x.se=[])(h:Heap):Sat (CT G) 33 [x.av,x.av] h (fun r h'=>r=.bool true∧h'=h):=by
 obtain⟨x0,x1,x2,x3,x4,x5,x6,x7,x8⟩:=x;simp only[]at h1 h2 h3 h4;subst h3;subst h4;have g1:=yT G x1 h1;have g2:=yU G x2 h2;have e:∀x:Int,(x==x)=true:=fun x=>by simp
 have m1:([]:List It).map It.av=[]:=rfl;have m2:([]:List Se).map Se.av=[]:=rfl;have F:=F4 e m1 m2 @aZ;refine sb [.tmp 4] Tryz.func33 ?_;intro Q hQ;refine wk F ?_;refine kq F (g1 _) ?_;refine kq F (g2 _) ?_;refine kq F (wo G _) ?_;refine kq F (wq G _ _) ?_;refine ee hQ F ?_;exact N2 (.bool _) ⟨rfl,rfl⟩
theorem Run.it{s t:PS}(h:Run s t):t.it=s.it∧t.se=s.se:=by
 induction h with
 |refl=>exact⟨rfl,rfl⟩
 |fe inn o _ hk ih=>obtain⟨he,c8,e⟩:=jq hk;rw[e];exact ih
 |fo inn name _ hk ih=>obtain⟨he,c8,e⟩:=gE hk;rw[e];exact ih
theorem mE(hG:GOk G)(hc:GClo (CT G))(hlives:∀h,Sat (CT G) 10 [] h (fun r h'=>r=.bool true∧h'=h))(es:List Ev)(h:Heap):
  Sat (CT G) 7 [.sl 7 (es.map Ev.av)] h (fun r h'=>r=.bool true∧h'=h):=by
 have hLg:=ll G es;have dt1:∀i:Decidable True, @decide True i=true:=fun i=>by simp
 have df:∀i:Decidable False, @decide False i=false:=fun i=>by simp
 cases hlg:lgF es with
 |true=>
  rw[hlg]at hLg;refine sb [.tmp 2] Tryz.func7 ?_;intro Q hQ;refine wk trivial ?_;refine kq trivial (hLg _) ?_;refine kq trivial (hlives _) ?_;refine ee hQ trivial ?_;exact S6 (.bool _) ⟨rfl,rfl⟩
 |false=>
  rw[hlg]at hLg;have hel:=yN hlg;have T:(es.foldl (PS.step L0) PS.z).Top2:=PS.Top2.z0.fold es;have X:(es.foldl (PS.step L0) PS.z).Txt:=PS.Txt.fold es PS.Txt.z0 PS.Inv.z;have hfh:=vw G es (by omega) h;generalize es.foldl (PS.step L0) PS.z=s at T X hfh;have hz9:∀n,(PS.z.bl n).length=9:=fun _=>rfl
  obtain⟨H,hH⟩:∃H,H=h++PS.z.bl h.length++PS.z.bl (h.length+9)++PS.z.bl (h.length+18):=⟨_,rfl⟩;have hHl:H.length=h.length+27:=by rw[hH];simp[hz9]
  obtain⟨W,hW⟩:∃W:PS→PS→Heap,W=fun a b=>so (so (so H h.length s) (h.length+9) a) (h.length+18) b:=⟨_,rfl⟩
  have ls:(so H h.length s).length=h.length+27:=by rw[aB (by omega)];exact hHl
  have lsa:∀a,(so (so H h.length s) (h.length+9) a).length=h.length+27:=fun a=>by rw[aB (by omega)];exact ls
  have lW:∀a b,(W a b).length=h.length+27:=fun a b=>by rw[hW];show(so _ _ _).length=_;rw[aB (by rw[lsa];omega)];exact lsa a
  have hWb:∀a b,W a b=so (so (so H h.length s) (h.length+9) a) (h.length+18) b:=fun a b=>by rw[hW]
  have hWa:∀a b,W a b=so (so (so H h.length s) (h.length+18) b) (h.length+9) a:=fun a b=>by rw[hWb,mD (by omega) (by rw[ls];omega)]
  have hWs:∀a b,W a b=so (so (so H (h.length+9) a) (h.length+18) b) h.length s:=fun a b=>by
   rw[hWb,mD (n:=h.length) (m:=h.length+9) (by omega) (by omega),mD (n:=h.length) (m:=h.length+18) (by omega) (by rw[aB (by omega)];omega)]
  have l1:∀b,h.length+9+9≤(so (so H h.length s) (h.length+18) b).length:=fun b=>by rw[aB (by rw[ls];omega),ls];omega
  have l2:∀a,h.length+18+9≤(so (so H h.length s) (h.length+9) a).length:=fun a=>by rw[lsa];omega
  have l3:∀a b,h.length+9≤(so (so H (h.length+9) a) (h.length+18) b).length:=fun a b=>by rw[aB (by rw[aB (by omega)];omega),aB (by omega)];omega
  have hN1:=fW G (so (h++PS.z.bl h.length) h.length s);rw[aB (by simp[hz9])]at hN1;have e1:(h++PS.z.bl h.length).length=h.length+9:=by simp[hz9]
  rw[e1,bF (by simp[hz9])]at hN1;have hN2:=fW G (so (so (h++PS.z.bl h.length++PS.z.bl (h.length+9)) h.length s) (h.length+9) PS.z);have e2:(so (so (h++PS.z.bl h.length++PS.z.bl (h.length+9)) h.length s) (h.length+9) PS.z).length=h.length+18:=by
   rw[aB (by rw[aB (by simp[hz9]<;>omega)];simp[hz9]),aB (by simp[hz9]<;>omega)];simp[hz9]
  rw[e2,bF (by rw[aB (by simp[hz9]<;>omega)];simp[hz9]),bF (by simp[hz9]<;>omega), ← hH, ← hWb]at hN2;simp only[O9]at hN1 hN2;have hO:=fun a b=>d7 G (s:=s) (X:=so (so H (h.length+9) a) (h.length+18) b) (n:=h.length) T.i X (l3 a b)
  have hWr:=fun a b=>jO G (s:=s) (X:=so (so H (h.length+9) a) (h.length+18) b) (n:=h.length) T.i X (l3 a b)
  simp only[← hWs]at hO hWr;obtain⟨k1,k2,k3,k4⟩:=pM T.i X;have hkc:=R7 k1;have hP:=iw G (s:=PS.z) (X:=so (so H h.length s) (h.length+18) PS.z) (n:=h.length+9) (jP G) (l1 _) zb5 s.outl k2 (by omega);rw[← hWa]at hP;unfold exF at hP;rw[show okX s.outl=true from k1,M7 rfl]at hP;have hCk:=gg G s.outl k2;rw[k1]at hCk;have hbk:=yQ T X;obtain⟨f1,f2,_,Tz,_,_,_⟩:=tU nfX zb5 s.outl hkc;have hbl:=my (nf:=nfX) 8 0 s.outl PS.z;have hIk:∀k,(((brgF nfX 8 0 s.outl PS.z).2.take k).foldl (PS.step L0) PS.z).Inv:=fun k=>PS.Inv.z.fold (L:=L0) _
  have hzt:(brgF nfX 8 0 s.outl PS.z).1.Txt:=by rw[f2];exact PS.Txt.fold _ PS.Txt.z0 PS.Inv.z
  have hzi:=(eG (nf:=nfX) 8 0 s.outl PS.z zb5 rfl).r.it;have hR:=fun a (hd:(docF 8 s.outl).length≤65536)=>iy G (s:=PS.z) (X:=so (so H h.length s) (h.length+9) a) (n:=h.length+18) hG hc (l2 _) zb5 (docF 8 s.outl) (by omega) s.outl (rQ s.outl k1 hd) hkc
  simp only[← hWb]at hR;have hsm:=vB G s.outl s.outl (by omega) (by omega);rw[qO 8 s.outl hkc]at hsm;generalize brgF nfX 8 0 s.outl PS.z=p at*;obtain⟨z,l⟩:=p;simp only[]at f1 f2 Tz hbl hIk hzt hbk hzi hR;have hO2:=fun b=>d7 G (s:=z) (X:=so (so H h.length s) (h.length+18) b) (n:=h.length+9) Tz.i hzt (l1 b)
  simp only[← hWa]at hO2;rw[hbk]at hO2;generalize s.outl=x at*;have hP:Sat (CT G) 12 [.hp (h.length+9+8) 0 0 0,.sl 3 (x.map Outl.av)] (W PS.z PS.z) (fun r h'=>r=.tup [.sl 7 (l.map Ev.av),.int .i64 0]∧h'=W PS.z PS.z):=hP;have hR:∀a,(docF 8 x).length≤65536→Sat (CT G) 26 [.hp (h.length+18+8) 0 0 0,.str (docF 8 x)] (W a PS.z) (fun r h'=>r=.tup [.sl 7 (l.map Ev.av),.int .i64 0]∧h'=W a z):=hR;have hCk:∀h,Sat (CT G) 31 [.sl 3 (x.map Outl.av)] h (fun r h'=>r=.int .i64 0∧h'=h):=hCk;have hAp:=fun(a:PS) (hI:a.Inv) (b:PS) (e:Ev)=>i7 G a hI e (H:=so (so H h.length s) (h.length+18) b) (n:=h.length+9) (l1 b)
  simp only[← hWa]at hAp;have hT1:=fb G z Tz.i.toOk (H:=so (so H h.length s) (h.length+18) z) (n:=h.length+9) (l1 z);have hT2:=fb G z Tz.i.toOk (H:=so (so H h.length s) (h.length+9) z) (n:=h.length+18) (l2 z);rw[← hWa]at hT1;rw[← hWb]at hT2;have hSt:=wt G z.tell (by show(valsM Fo.z z.fo).length≤100;rw[cK];have:=Tz.i.l1;omega) (by show(valsM Fe.z z.fe).length≤100;rw[cK];have:=Tz.i.l2;omega)
   (by show valsM It.z z.it=[];rw[hzi.1];show valsM It.z []=[];simp[valsM,sortI]) (by show valsM Se.z z.se=[];rw[hzi.2];show valsM Se.z []=[];simp[valsM,sortI])
  have hpre:∀a b,∃j,W a b=h++j:=fun a b=>by
   rw[hWb];obtain⟨j1,hj1⟩:=gJ (h:=h) (j:=PS.z.bl h.length++PS.z.bl (h.length+9)++PS.z.bl (h.length+18)) (n:=h.length) (s:=s) (by simp[hz9]<;>omega) (N3 _);rw[← O9, ← O9, ← hH]at hj1;have q1:(h++j1).length=h.length+27:=(by rw[← hj1];exact ls);obtain⟨j2,hj2⟩:=gJ (h:=h) (j:=j1) (n:=h.length+9) (s:=a) (by omega) (by omega);have q2:(h++j2).length=h.length+27:=(by rw[← hj2,aB (by omega)];exact q1);obtain⟨j3,hj3⟩:=gJ (h:=h) (j:=j2) (n:=h.length+18) (s:=b) (by omega) (by omega);exact⟨j3,by rw[hj1,hj2,hj3]⟩
  have nil1:∀a b,abin Tryz.prog (W a b) .eql 27 (.hp (h.length+8) 0 0 0) (.nil (.pointer none))=some (.bool false):=fun a b=>by rw[hWs];exact p7 (l3 a b)
  have nil2:∀a b,abin Tryz.prog (W a b) .eql 27 (.hp (h.length+9+8) 0 0 0) (.nil (.pointer none))=some (.bool false):=fun a b=>by rw[hWa];exact p7 (l1 b)
  have nil3:∀a b,abin Tryz.prog (W a b) .eql 27 (.hp (h.length+18+8) 0 0 0) (.nil (.pointer none))=some (.bool false):=fun a b=>by rw[hWb];exact p7 (l2 a)
  have hll:(l.map Ev.av).length=l.length:=O0 ..;have hdl:∀d:Bs,(docF 8 x).length=d.length→True:=fun _ _=>trivial
  clear hWb hWa hWs l1 l2 l3 hW;have F:=F6 @nil1 @nil2 @nil3 dt1 df hll;refine sb [.tmp 2] Tryz.func7 ?_;intro Q hQ;refine wk F ?_;refine kq F (hLg _) ?_;refine kq F (hfh) ?_;refine kq F (hN1) ?_;refine kq F (hN2) ?_;refine kq F (hlives _) ?_;refine kq F (hO _ _) ?_;refine kq F (hP) ?_;refine kq F (hCk _) ?_;refine lm (fun nL tL hL=>∃(k:Nat),l.length-k=nL∧W ((l.take k).foldl (PS.step L0) PS.z) PS.z=hL∧tL 9=.int .i64 k∧k≤l.length) ((fun(k:Nat)=>(l.length-k:Nat)) (0)) ?_ ?_
  ·refine N6 ⟨0,rfl,aw,?_,by omega⟩;all_goals try exact zZz F
  rintro _ s2 h' ⟨k,rfl,rfl,e9,hk⟩ K2 hK2;simp only[aj,am,Nat.reduceEqDiff, ↓reduceIte]at e9;have F:=F2 F e9;by_cases c2:k<l.length
  ·have d2:=R4 c2;obtain⟨y,hy,hym⟩:=ak c2;have hm:(l.map Ev.av)[k]? =some y.av:=(by rw[O2,hy];rfl);have hst:(l.take (k+1)).foldl (PS.step L0) PS.z=((l.take k).foldl (PS.step L0) PS.z).step L0 y:=(by rw[T9,hy,Option.toList_some,List.foldl_append];rfl);have hA1:=hAp _ (hIk k) PS.z y;rw[← hst,s9 f1 hy]at hA1;have F:=F5 F hm hy d2 c2;(try refine sq F ?_);refine wk F ?_;refine kq F (hA1) ?_;refine hK2 _ _ _ (N6 ⟨k+1,rfl,rfl,?_,by omega⟩) (by omega);all_goals try exact zZz F
  have d2:=S7 c2;rw[P5 (by omega), ← f2];by_cases hd:(docF 8 x).length≤65536
  ·have q1:decide (((docF 8 x).length:Int)>65536)=false:=S7 (by omega);have F:=F3 F d2 q1;(try refine sq F ?_);refine wk F ?_;refine kq F (hO2 _) ?_;refine kq F (hsm _) ?_;refine kq F (hWr _ _) ?_;refine kq F (hR _ hd) ?_;refine kq F (hT1) ?_;refine kq F (hT2) ?_;refine kq F (hSt _) ?_;refine ee hQ F ?_;obtain⟨j,hj⟩:=hpre z z;rw[hj];exact Y9 rfl (.bool _) ⟨rfl,rfl⟩
  ·have q1:decide (((docF 8 x).length:Int)>65536)=true:=R4 (by omega);have F:=F3 F d2 q1;(try refine sq F ?_);refine wk F ?_;refine kq F (hO2 _) ?_;refine kq F (hsm _) ?_;refine kq F (hWr _ _) ?_;refine ee hQ F ?_;obtain⟨j,hj⟩:=hpre z PS.z;rw[hj];exact Y9 rfl (.bool _) ⟨rfl,rfl⟩
end
section
attribute [local irreducible] WP WPl WPix Sat
variable (G:Nat→Option (List AVal))
theorem lI(hG:GOk G)(hc:GClo (CT G))(es:List Ev)(h:Heap):
  Sat (CT G) 7 [.sl 7 (es.map Ev.av)] h (fun r h'=>r=.bool true∧h'=h):=mE G hG hc (qQ G hG hc) es h
end
end Go.Av
