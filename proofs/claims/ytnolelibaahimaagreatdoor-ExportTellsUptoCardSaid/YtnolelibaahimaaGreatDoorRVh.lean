/- Parts. -/
import Derived.Test.YtnolelibaahimaaGreatDoorRTl
set_option linter.unusedSimpArgs false
set_option linter.unusedVariables false
set_option linter.unusedSectionVars false
set_option linter.unnecessarySimpa false
set_option maxRecDepth 100000
set_option maxHeartbeats 16000000
namespace Go.Av
open Go Go.Proofs Go.RowKit
section
variable {s:PS} {e:Ev}
structure Aft (s z:PS) (e:Ev):Prop where
 fo:∀k f,lkM z.fo k=some f→(lkM s.fo k).isSome=true∨(e.kind=1∧k=e.a)
 fe:∀k f,lkM z.fe k=some f→(lkM s.fe k).isSome=true∨(e.kind=3∧k=e.a)
 t1:z.t1=if e.kind=1 then(if e.a>s.t1 then e.a else s.t1)else s.t1
 t2:z.t2=if e.kind=3 then(if e.a>s.t2 then e.a else s.t2)else s.t2
theorem Aft.same{z:PS}(h1:e.kind≠1)(h3:e.kind≠3)(a:z.fo=s.fo)(b:z.fe=s.fe)(c:z.t1=s.t1)(d:z.t2=s.t2):Aft s z e:=
 ⟨fun k f hf=>.inl (by rw[a]at hf;rw[hf];rfl),fun k f hf=>.inl (by rw[b]at hf;rw[hf];rfl),by rw[K4 h1,c],by rw[K4 h3,d]⟩
theorem cd(s:PS)(id k:Int):(s.hold id k).fo=s.fo∧(s.hold id k).fe=s.fe∧(s.hold id k).t1=s.t1∧(s.hold id k).t2=s.t2:=by rw[aP];exact⟨rfl,rfl,rfl,rfl⟩
theorem Aft.of{a z:PS}(h:Aft s a e)(h1:z.fo=a.fo)(h2:z.fe=a.fe)(h3:z.t1=a.t1)(h4:z.t2=a.t2):Aft s z e:=⟨by rw[h1];exact h.fo,by rw[h2];exact h.fe,by rw[h3];exact h.t1,by rw[h4];exact h.t2⟩
theorem xp{s:PS}{c:Nat}{x:Int}{a:Fe}(hx:(lkM s.fe x).isSome=true):∀k f,lkM (upM s.fe c x a) k=some f→(lkM s.fe k).isSome=true:=fun k f hf=>by
 rcases aI hf with⟨rfl,_⟩| ⟨_,hf⟩
 ·exact hx
 ·rw[hf];rfl
theorem Cr(hI:s.Inv)(hok:s.ok L0 e=true):Aft s (s.aft e) e:=by
 unfold PS.ok PS.fits at hok;rw[K5]at hok;have hfit:=hok.2;clear hok;unfold PS.aft PS.after;split
 ·have h:=cd ((s.dlNm (((lkM s.fo e.a).getD Fo.z).inn,((lkM s.fo e.a).getD Fo.z).name)).dlFo e.a) ((lkM s.fo e.a).getD Fo.z).inn (-1);refine Aft.of (a:=(s.dlNm (((lkM s.fo e.a).getD Fo.z).inn,((lkM s.fo e.a).getD Fo.z).name)).dlFo e.a) ⟨fun k f hf=>?_,fun k f hf=>.inl ?_,?_,?_⟩ h.1 h.2.1 h.2.2.1 h.2.2.2
  ·have hf:lkM (dlM s.fo e.a) k=some f:=hf;left;rw[(bO hI.w1.keys hf).2];rfl
  ·have hf:lkM s.fe k=some f:=hf;rw[hf];rfl
  ·rw[K4 (by omega)];rfl
  ·rw[K4 (by omega)];rfl
 split
 ·have h:=cd ((({s with it:=itF s.it ((lkM s.fe e.a).getD Fe.z).id,gu:=guF s.it s.gu ((lkM s.fe e.a).getD Fe.z).id}:PS).dlPl ((lkM s.fe e.a).getD Fe.z).url).dlFe ((lkM s.fe e.a).getD Fe.z).id) ((lkM s.fe e.a).getD Fe.z).inn (-1);refine Aft.of (a:=(({s with it:=itF s.it ((lkM s.fe e.a).getD Fe.z).id,gu:=guF s.it s.gu ((lkM s.fe e.a).getD Fe.z).id}:PS).dlPl ((lkM s.fe e.a).getD Fe.z).url).dlFe ((lkM s.fe e.a).getD Fe.z).id) ⟨fun k f hf=>.inl ?_,fun k f hf=>.inl ?_,?_,?_⟩ h.1 h.2.1 h.2.2.1 h.2.2.2
  ·have hf:lkM s.fo k=some f:=hf;rw[hf];rfl
  ·have hf:lkM (dlM s.fe ((lkM s.fe e.a).getD Fe.z).id) k=some f:=hf;rw[(bO hI.w2.keys hf).2];rfl
  ·rw[K4 (by omega)];rfl
  ·rw[K4 (by omega)];rfl
 split
 ·rename_i k5;rw[K4 (by omega),K4 (by omega),K4 (by omega),L7 (.inr k5)]at hfit;refine⟨fun k f hf=>.inl ?_,fun k f hf=>.inl (xp hfit k f hf),?_,?_⟩
  ·have hf:lkM s.fo k=some f:=hf;rw[hf];rfl
  ·rw[K4 (by omega)];rfl
  ·rw[K4 (by omega)];rfl
 split
 ·rename_i k6;rw[K4 (by omega),K4 (by omega),K4 (by omega),K4 (by omega),L7 k6,K5]at hfit;have h1:=cd s ((lkM s.fe e.a).getD Fe.z).inn (-1);have h2:=cd (s.hold ((lkM s.fe e.a).getD Fe.z).inn (-1)) e.b 1;refine⟨fun k f hf=>.inl ?_,fun k f hf=>.inl ?_,?_,?_⟩
  ·have hf:lkM ((s.hold ((lkM s.fe e.a).getD Fe.z).inn (-1)).hold e.b 1).fo k=some f:=hf;rw[h2.1,h1.1]at hf;rw[hf];rfl
  ·have hf:lkM (upM ((s.hold ((lkM s.fe e.a).getD Fe.z).inn (-1)).hold e.b 1).fe _ e.a _) k=some f:=hf;rw[h2.2.1,h1.2.1]at hf;exact xp hfit.1 k f hf
  ·show((s.hold ((lkM s.fe e.a).getD Fe.z).inn (-1)).hold e.b 1).t1=_;rw[K4 (by omega),h2.2.2.1,h1.2.2.1]
  ·show((s.hold ((lkM s.fe e.a).getD Fe.z).inn (-1)).hold e.b 1).t2=_;rw[K4 (by omega),h2.2.2.2,h1.2.2.2]
 split
 ·exact Aft.same (by omega) (by omega) rfl rfl rfl rfl
 split
 ·exact Aft.same (by omega) (by omega) rfl rfl rfl rfl
 split
 ·exact Aft.same (by omega) (by omega) rfl rfl rfl rfl
 split
 ·exact Aft.same (by omega) (by omega) rfl rfl rfl rfl
 split
 ·exact Aft.same (by omega) (by omega) rfl rfl rfl rfl
 unfold PS.make;split
 ·rename_i k1;have h:=cd ((s.upFo e.a ⟨e.a,e.b,e.s⟩).upNm (e.b,e.s) e.a) e.b 1;refine⟨fun k f hf=>?_,fun k f hf=>.inl ?_,?_,?_⟩
  ·have hf:lkM (PS.hold ((s.upFo e.a ⟨e.a,e.b,e.s⟩).upNm (e.b,e.s) e.a) e.b 1).fo k=some f:=hf;rw[h.1]at hf;have hf:lkM (upM s.fo s.c1 e.a _) k=some f:=hf;rcases aI hf with⟨rfl,_⟩| ⟨_,hf⟩
   ·exact .inr ⟨k1,rfl⟩
   ·left;rw[hf];rfl
  ·have hf:lkM (PS.hold ((s.upFo e.a ⟨e.a,e.b,e.s⟩).upNm (e.b,e.s) e.a) e.b 1).fe k=some f:=hf;rw[h.2.1]at hf;have hf:lkM s.fe k=some f:=hf;rw[hf];rfl
  ·rw[L7 k1];show(if e.a>(PS.hold ((s.upFo e.a ⟨e.a,e.b,e.s⟩).upNm (e.b,e.s) e.a) e.b 1).t1 then e.a else(PS.hold ((s.upFo e.a ⟨e.a,e.b,e.s⟩).upNm (e.b,e.s) e.a) e.b 1).t1)=_;rw[h.2.2.1];rfl
  ·rw[K4 (by omega)];show(PS.hold ((s.upFo e.a ⟨e.a,e.b,e.s⟩).upNm (e.b,e.s) e.a) e.b 1).t2=_;rw[h.2.2.2];rfl
 split
 ·rename_i k3;have h:=cd ((s.upFe e.a ⟨e.a,e.b,e.s,e.t⟩).upPl e.s e.a) e.b 1;refine⟨fun k f hf=>.inl ?_,fun k f hf=>?_,?_,?_⟩
  ·have hf:lkM (PS.hold ((s.upFe e.a ⟨e.a,e.b,e.s,e.t⟩).upPl e.s e.a) e.b 1).fo k=some f:=hf;rw[h.1]at hf;have hf:lkM s.fo k=some f:=hf;rw[hf];rfl
  ·have hf:lkM (PS.hold ((s.upFe e.a ⟨e.a,e.b,e.s,e.t⟩).upPl e.s e.a) e.b 1).fe k=some f:=hf;rw[h.2.1]at hf;have hf:lkM (upM s.fe s.c2 e.a _) k=some f:=hf;rcases aI hf with⟨rfl,_⟩| ⟨_,hf⟩
   ·exact .inr ⟨k3,rfl⟩
   ·left;rw[hf];rfl
  ·rw[K4 (by omega)];show(PS.hold ((s.upFe e.a ⟨e.a,e.b,e.s,e.t⟩).upPl e.s e.a) e.b 1).t1=_;rw[h.2.2.1];rfl
  ·rw[L7 k3];show(if e.a>(PS.hold ((s.upFe e.a ⟨e.a,e.b,e.s,e.t⟩).upPl e.s e.a) e.b 1).t2 then e.a else(PS.hold ((s.upFe e.a ⟨e.a,e.b,e.s,e.t⟩).upPl e.s e.a) e.b 1).t2)=_;rw[h.2.2.2];rfl
 split
 ·exact Aft.same (by omega) (by omega) rfl rfl rfl rfl
 split
 ·exact Aft.same (by omega) (by omega) rfl rfl rfl rfl
 exact Aft.same (by omega) (by omega) rfl rfl rfl rfl
theorem PS.Top2.z0:PS.z.Top2:=⟨PS.Inv.z,PS.Nam.z,(fun _ _ h=>by cases h),(fun _ _ h=>by cases h),Z4 _,Z4 _,(by show(0:Int)≤1048576;omega),(by show(0:Int)≤1048576;omega)⟩
theorem PS.Top2.step(T:s.Top2)(e:Ev):(s.step L0 e).Top2:=by
 have I:=T.i.step (L:=L0) e;have N:=T.n.step (L:=L0) T.i e;unfold PS.step at I N ⊢;split
 ·rename_i hok;rw[L7 hok]at I N;have A:=Cr T.i hok;have zo:=T.zo;have ze:=T.ze;have mo:=T.mo;have me:=T.me;have hid:e.kind≠13→e.a≤1048576:=fun h13=>by
   unfold PS.ok PS.fits at hok;rw[K5]at hok;have hck:=hok.1;unfold Leaf.ck at hck;rw[K5]at hck;exact(fC hck.1 h13).2
  refine⟨I,N,fun k f hf=>?_,fun k f hf=>?_,?_,?_,?_,?_⟩
  ·rw[A.t1];rcases A.fo k f hf with h| ⟨h1,rfl⟩
   ·obtain⟨g,hg⟩:=aT h;have:=T.o k g hg;split<;>(try split)<;>omega
   ·rw[L7 h1];split<;>omega
  ·rw[A.t2];rcases A.fe k f hf with h| ⟨h1,rfl⟩
   ·obtain⟨g,hg⟩:=aT h;have:=T.e k g hg;split<;>(try split)<;>omega
   ·rw[L7 h1];split<;>omega
  ·rw[A.t1];split<;>(try split)<;>omega
  ·rw[A.t2];split<;>(try split)<;>omega
  ·rw[A.t1];split
   ·have:=hid (by omega);split<;>omega
   ·exact mo
  ·rw[A.t2];split
   ·have:=hid (by omega);split<;>omega
   ·exact me
 ·exact T
theorem PS.Top2.fold(T:s.Top2)(l:List Ev):(l.foldl (PS.step L0) s).Top2:=by
 induction l generalizing s with
 |nil=>exact T
 |cons e l ih=>exact ih (T.step e)
end
section
variable {s z:PS}
theorem uI{α:Type}{z:α}{l:ML Int α}{k:Int}{a:α}(h:lkM l k=some a):a∈valsM z l:=by
 unfold valsM;refine M7.2 ⟨k,?_,by rw[h];rfl⟩;refine(U4 _ _).mem_iff.2 ?_;obtain⟨n,hn⟩:=dL h;exact M7.2 ⟨_,hn,rfl⟩
def fndN(l:List Fo)(inn:Int)(name:Bs):Int:=((l.find? fun f=>decide (f.inn=inn∧f.name=name)).map (·.id)).getD 0
theorem yn(T:s.Top2)(inn:Int)(name:Bs):fndN (valsM Fo.z s.fo) inn name=foId s inn name:=by
 unfold fndN foId;cases hf:(valsM Fo.z s.fo).find? fun f=>decide (f.inn=inn∧f.name=name)with
 |none=>
  cases hl:lkM s.nm (inn,name)with
  |none=>rfl
  |some k=>
   obtain⟨f,hk,hu⟩:=T.n.n1 _ _ hl;have:=Y9.1 hf f (uI hk);cases hu;simp at this
 |some f=>
  have h1:=List.find?_some hf;obtain⟨k,hk⟩:=aK (Z2 hf);simp only[K8]at h1;have:=T.n.n2 k f hk;rw[h1.1,h1.2]at this;rw[this];simp only[Q3,Q0];exact(T.i.i1 _ _ hk).1
end
section
attribute [local irreducible] WP WPl WPix Sat
variable (G:Nat→Option (List AVal))
def bA(s:Bs)(i:Nat):Nat:=(s.getD i 0).toNat
theorem xt(s:Bs)(i:Nat):bA s i<256:=UInt8.toNat_lt _
theorem xu{s:Bs}{i:Nat}{c:UInt8}(h:s[i]? =some c):bA s i=c.toNat:=by unfold bA;rw[S4,h];rfl
def Cls(b:Nat)(n:Nat)(r l:Int):Prop:=
 (192≤b∧b<224∧n=2∧r=b-192∧l=128)∨(224≤b∧b<240∧n=3∧r=b-224∧l=2048)∨(240≤b∧b<248∧n=4∧r=b-240∧l=65536)
def accI(s:Bs)(r:Int):Nat→Int
 |0=>r
 |i+1=>accI s r i*64+(bA s (i+1)-128)
theorem nb(s:Bs):dec s 0=Lib.decodeN s.length (bA s 0) (bA s 1) (bA s 2) (bA s 3):=by rw[eV];rfl
theorem kJ(s:Bs)(h:(128≤bA s 0∧bA s 0<192)∨248≤bA s 0):dec s 0=(65533,1):=by
 rw[nb];have:=xt s 0;unfold Lib.decodeN;rw[K4 (by omega),K4 (by omega),K4 (by omega),K4 (by omega)]
theorem pI(s:Bs){n:Nat}{r l:Int}(hc:Cls (bA s 0) n r l)(h:s.length<n):dec s 0=(65533,1):=by
 rw[nb];unfold Cls at hc;unfold Lib.decodeN;rw[K4 (by omega),K4 (by omega),K4 (by omega),K4 (by omega)]
theorem sS(s:Bs){n:Nat}{r l:Int}(hc:Cls (bA s 0) n r l)(i:Nat)(h1:1≤i)(h2:i<n)(h:¬(128≤bA s i∧bA s i<192)):dec s 0=(65533,1):=by
 rw[nb];unfold Cls at hc;have:=xt s i;unfold Lib.decodeN;have hi:i=1∨i=2∨i=3:=by omega
 rcases hi with rfl|rfl|rfl<;>rw[K4 (by omega),K4 (by omega),K4 (by omega),K4 (by omega)]
theorem uJ(s:Bs){n:Nat}{r l:Int}(hc:Cls (bA s 0) n r l)(hn:n≤s.length)(ht:∀i,1≤i→i<n→128≤bA s i∧bA s i<192):
  ((accI s r (n-1)<l∨1114111<accI s r (n-1)∨(55296≤accI s r (n-1)∧accI s r (n-1)≤57343))→dec s 0=(65533,1))∧
  (¬(accI s r (n-1)<l∨1114111<accI s r (n-1)∨(55296≤accI s r (n-1)∧accI s r (n-1)≤57343))→((dec s 0).1:Int)=accI s r (n-1)∧(dec s 0).2=n):=by
 rw[nb];unfold Cls at hc;rcases hc with⟨h1,h2,rfl,rfl,rfl⟩| ⟨h1,h2,rfl,rfl,rfl⟩| ⟨h1,h2,rfl,rfl,rfl⟩
 ·have t1:=ht 1 (by omega) (by omega);simp only[accI,Nat.reduceSub,Nat.reduceAdd];unfold Lib.decodeN;rw[K4 (by omega),L7 (by omega)];constructor
  ·intro h;rw[K4 (by omega)]
  ·intro h;rw[L7 (by omega)];dsimp only;refine⟨?_,rfl⟩;omega
 ·have t1:=ht 1 (by omega) (by omega);have t2:=ht 2 (by omega) (by omega);simp only[accI,Nat.reduceSub,Nat.reduceAdd];unfold Lib.decodeN;rw[K4 (by omega),K4 (by omega),L7 (by omega)];constructor
  ·intro h;rw[K4 (by omega)]
  ·intro h;rw[L7 (by omega)];dsimp only;refine⟨?_,rfl⟩;omega
 ·have t1:=ht 1 (by omega) (by omega);have t2:=ht 2 (by omega) (by omega);have t3:=ht 3 (by omega) (by omega);simp only[accI,Nat.reduceSub,Nat.reduceAdd];unfold Lib.decodeN;rw[K4 (by omega),K4 (by omega),K4 (by omega),L7 (by omega)];constructor
  ·intro h;rw[K4 (by omega)]
  ·intro h;rw[L7 (by omega)];dsimp only;refine⟨?_,rfl⟩;omega
theorem uK(b:UInt8)(h:Heap):Sat (CT G) 208 [.int .u8 b.toNat] h (fun r h'=>r=.bool (decide (128≤b.toNat∧b.toNat<192))∧h'=h):=by
 refine sb [.tmp 2] Tryz.func208 ?_;intro Q hQ;refine wk trivial ?_;(first|refine gq trivial (fun g1=>?_) (fun g1=>?_)|refine pq trivial (fun g1=>?_) (fun g1=>?_))<;>(try exact g1.elim)<;>(try refine sq trivial ?_)<;>(refine wk trivial ?_)
 ·refine ee hQ trivial ?_;refine fR (.bool _) ?_;congr 1
  rw[P6];simp;omega
 ·refine ee hQ trivial ?_;refine fR (.bool _) ?_;rw[N8 (by omega)]
theorem wW(k:IntKind)(n:Int)(h0:0≤n)(h1:n<256):aconv Tryz.prog 5 21 (.int k n)=some (.int .i32 n):=by simp only[aconv,go_sem,br (x:=n) (by omega) (by omega)]
theorem mA(s:Bs)(hne:s≠ [])(hs:s.length≤1073741824)(h:Heap):Sat (CT G) 177 [.str s] h (fun r h'=>r=.tup [.int .i32 (dec s 0).1,.int .i64 (dec s 0).2]∧h'=h):=by
 have hpos:0<s.length:=T5.2 hne;obtain⟨b,hb,_⟩:=ac hpos;have hbA:=xu hb;have hb256:=b.toNat_lt;have fin:∀c w:Int,((dec s 0).1:Int)=c→((dec s 0).2:Int)=w→Fin h h (fun r h'=>r=.tup [.int .i32 (dec s 0).1,.int .i64 (dec s 0).2]∧h'=h) (.tup [.int .i32 c,.int .i64 w]):=fun c w e1 e2=>by
  rw[e1,e2];exact O9 (.tup _ (by intro c hc;simp at hc;rcases hc with rfl|rfl<;>exact .int _ _)) ⟨rfl,rfl⟩
 have bad:dec s 0=(65533,1)→Fin h h (fun r h'=>r=.tup [.int .i32 (dec s 0).1,.int .i64 (dec s 0).2]∧h'=h) (.tup [.int .i32 65533,.int .i64 1]):=fun e=>fin _ _ (by rw[e];rfl) (by rw[e];rfl)
 have F:=F4 @wW @mr @br hb;refine sb [.tmp 2,.tmp 3] Tryz.func177 ?_;intro Q hQ;(repeat (first|refine w1 (fun K hK=>?_)|refine w2 ?_|refine w3 ?_| ((first|refine w4 ?_|refine wD ?_|refine w5 ?_|refine w6 ?_|refine w7 ?_);try refine sq F ?_)| (refine w8 ?_;refine sq F ?_;refine w9 ?_)| ((first|refine hK _ _ (w0 ?_)| (clear hK K;refine hK _ _ (w0 ?_))| (clear hK K;clear hK K;refine hK _ _ (w0 ?_)));clear hK K)))
 refine cq F (fun c1=>?_) (fun c1=>?_)<;>(try exact c1.elim)<;>((repeat (first|refine w1 (fun K hK=>?_)|refine w2 ?_|refine w3 ?_| ((first|refine w4 ?_|refine wD ?_|refine w5 ?_|refine w6 ?_|refine w7 ?_);try refine sq F ?_)| (refine w8 ?_;refine sq F ?_;refine w9 ?_)| ((first|refine hK _ _ (w0 ?_)| (clear hK K;refine hK _ _ (w0 ?_))| (clear hK K;clear hK K;refine hK _ _ (w0 ?_)));clear hK K))))
 ·refine ee hQ F ?_;have e:=ix s 0 b hb (by omega);exact fin _ _ (by rw[e]) (by rw[e];rfl)
 rename_i K0 hK0;have tail:∀(t':Env) (n:Nat) (r l:Int),Cls (bA s 0) n r l→t' 0=.str s→t' 5=.int .i64 n→t' 6=.int .i32 r→t' 7=.int .i32 l→K0 t' h:=by
  intro t' n r l hc e0 e5 e6 e7;refine hK0 _ _ (L8 ?_);clear hK0 K0 hK K;have F:=F5 F e0 e5 e6 e7;(repeat (first|refine w1 (fun K hK=>?_)|refine w2 ?_|refine w3 ?_| ((first|refine w4 ?_|refine wD ?_|refine w5 ?_|refine w6 ?_|refine w7 ?_);try refine sq F ?_)| (refine w8 ?_;refine sq F ?_;refine w9 ?_)| ((first|refine hK _ _ (w0 ?_)| (clear hK K;refine hK _ _ (w0 ?_))| (clear hK K;clear hK K;refine hK _ _ (w0 ?_)));clear hK K)))
  refine cq F (fun c2=>?_) (fun c2=>?_)<;>(try exact c2.elim)<;>((repeat (first|refine w1 (fun K hK=>?_)|refine w2 ?_|refine w3 ?_| ((first|refine w4 ?_|refine wD ?_|refine w5 ?_|refine w6 ?_|refine w7 ?_);try refine sq F ?_)| (refine w8 ?_;refine sq F ?_;refine w9 ?_)| ((first|refine hK _ _ (w0 ?_)| (clear hK K;refine hK _ _ (w0 ?_))| (clear hK K;clear hK K;refine hK _ _ (w0 ?_)));clear hK K))))
  ·refine ee hQ F ?_;exact bad (pI s hc (by omega))
  have hc':=hc;unfold Cls at hc';refine lm (fun nL tL hL=>∃(i:Nat) (q:Int),n-i=nL∧h=hL∧tL 6=.int .i32 q∧tL 8=.int .i64 i∧(1≤i∧i≤n)∧q=accI s r (i-1)∧(0≤q∧(i=1→q<32)∧(i=2→q<2048)∧(i=3→q<131072)∧(i=4→q<8388608))∧(∀j,1≤j→j<i→128≤bA s j∧bA s j<192)) ((fun(i:Nat) (q:Int)=>(n-i:Nat)) (1) (r)) ?_ ?_
  ·refine L8 ⟨1,r,rfl,aw,?_,?_,⟨by omega,by omega⟩,rfl,⟨by omega,by omega,by omega,by omega,by omega⟩,fun j h1 h2=>by omega⟩;all_goals try exact zZz F
  rintro _ s1 h' ⟨i,q,rfl,rfl,e6,e8,hi,hq,hb,ht⟩ K1 hK1;simp only[ah,ao,Nat.reduceEqDiff, ↓reduceIte]at e6 e8;have F:=F3 F e6 e8;(repeat (first|refine w1 (fun K hK=>?_)|refine w2 ?_|refine w3 ?_| ((first|refine w4 ?_|refine wD ?_|refine w5 ?_|refine w6 ?_|refine w7 ?_);try refine sq F ?_)| (refine w8 ?_;refine sq F ?_;refine w9 ?_)| ((first|refine hK _ _ (w0 ?_)| (clear hK K;refine hK _ _ (w0 ?_))| (clear hK K;clear hK K;refine hK _ _ (w0 ?_)));clear hK K)))
  refine cq F (fun c3=>?_) (fun c3=>?_)<;>(try exact c3.elim)<;>((repeat (first|refine w1 (fun K hK=>?_)|refine w2 ?_|refine w3 ?_| ((first|refine w4 ?_|refine wD ?_|refine w5 ?_|refine w6 ?_|refine w7 ?_);try refine sq F ?_)| (refine w8 ?_;refine sq F ?_;refine w9 ?_)| ((first|refine hK _ _ (w0 ?_)| (clear hK K;refine hK _ _ (w0 ?_))| (clear hK K;clear hK K;refine hK _ _ (w0 ?_)));clear hK K))))
  ·obtain⟨y,hy,_⟩:=ac (show i<s.length by omega);have hyA:=xu hy;have hy256:=y.toNat_lt;have F:=F2 F hy;(try refine sq F ?_);(repeat (first|refine w1 (fun K hK=>?_)|refine w2 ?_|refine w3 ?_| ((first|refine w4 ?_|refine wD ?_|refine w5 ?_|refine w6 ?_|refine w7 ?_);try refine sq F ?_)| (refine w8 ?_;refine sq F ?_;refine w9 ?_)| ((first|refine hK _ _ (w0 ?_)| (clear hK K;refine hK _ _ (w0 ?_))| (clear hK K;clear hK K;refine hK _ _ (w0 ?_)));clear hK K)))
   refine(uK G y _).mono ?_;rintro r h' ⟨rfl,rfl⟩;(try refine sq F ?_);(repeat (first|refine w1 (fun K hK=>?_)|refine w2 ?_|refine w3 ?_| ((first|refine w4 ?_|refine wD ?_|refine w5 ?_|refine w6 ?_|refine w7 ?_);try refine sq F ?_)| (refine w8 ?_;refine sq F ?_;refine w9 ?_)| ((first|refine hK _ _ (w0 ?_)| (clear hK K;refine hK _ _ (w0 ?_))| (clear hK K;clear hK K;refine hK _ _ (w0 ?_)));clear hK K)))
   refine cq F (fun c4=>?_) (fun c4=>?_)<;>(try exact c4.elim)<;>((repeat (first|refine w1 (fun K hK=>?_)|refine w2 ?_|refine w3 ?_| ((first|refine w4 ?_|refine wD ?_|refine w5 ?_|refine w6 ?_|refine w7 ?_);try refine sq F ?_)| (refine w8 ?_;refine sq F ?_;refine w9 ?_)| ((first|refine hK _ _ (w0 ?_)| (clear hK K;refine hK _ _ (w0 ?_))| (clear hK K;clear hK K;refine hK _ _ (w0 ?_)));clear hK K))))
   ·refine ee hQ F ?_;exact bad (sS s hc i hi.1 c3 (by rw[hyA];omega))
   ·have hacc:accI s r i=accI s r (i-1)*64+(bA s i-128):=by
     obtain⟨k,rfl⟩:∃k,i=k+1:=⟨i-1,by omega⟩;rfl
    have hi4:i=1∨i=2∨i=3:=(by omega);have ht':∀j,1≤j→j<i+1→128≤bA s j∧bA s j<192:=fun j h1 h2=>by
     rcases T3 j i with h3|h3
     ·exact ht j h1 h3
     ·obtain rfl:j=i:=by omega
      rw[hyA];omega
    have hq':q*64+((y.toNat:Int)-128)=accI s r (i+1-1):=(by rw[Nat.add_sub_cancel,hacc, ← hq,hyA]);(try refine sq F ?_);(repeat (first|refine w1 (fun K hK=>?_)|refine w2 ?_|refine w3 ?_| ((first|refine w4 ?_|refine wD ?_|refine w5 ?_|refine w6 ?_|refine w7 ?_);try refine sq F ?_)| (refine w8 ?_;refine sq F ?_;refine w9 ?_)| ((first|refine hK _ _ (w0 ?_)| (clear hK K;refine hK _ _ (w0 ?_))| (clear hK K;clear hK K;refine hK _ _ (w0 ?_)));clear hK K)))
    refine hK1 _ _ _ (L8 ⟨i+1,q*64+(y.toNat-128),rfl,aw,?_,?_,⟨by omega,by omega⟩,hq',by omega,ht'⟩) (by omega);all_goals try exact zZz F
  ·have hin:i=n:=(by omega);subst hin;obtain⟨f1,f2⟩:=uJ s hc (by omega) ht;rw[← hq]at f1 f2;(try refine sq F ?_);(repeat (first|refine w1 (fun K hK=>?_)|refine w2 ?_|refine w3 ?_| ((first|refine w4 ?_|refine wD ?_|refine w5 ?_|refine w6 ?_|refine w7 ?_);try refine sq F ?_)| (refine w8 ?_;refine sq F ?_;refine w9 ?_)| ((first|refine hK _ _ (w0 ?_)| (clear hK K;refine hK _ _ (w0 ?_))| (clear hK K;clear hK K;refine hK _ _ (w0 ?_)));clear hK K)))
   (first|refine gq F (fun g1=>?_) (fun g1=>?_)|refine pq F (fun g1=>?_) (fun g1=>?_))<;>(try exact g1.elim)<;>(try refine sq F ?_)<;>((repeat (first|refine w1 (fun K hK=>?_)|refine w2 ?_|refine w3 ?_| ((first|refine w4 ?_|refine wD ?_|refine w5 ?_|refine w6 ?_|refine w7 ?_);try refine sq F ?_)| (refine w8 ?_;refine sq F ?_;refine w9 ?_)| ((first|refine hK _ _ (w0 ?_)| (clear hK K;refine hK _ _ (w0 ?_))| (clear hK K;clear hK K;refine hK _ _ (w0 ?_)));clear hK K))))
   ·refine ee hQ F ?_;exact bad (f1 (by omega))
   ·(first|refine gq F (fun g2=>?_) (fun g2=>?_)|refine pq F (fun g2=>?_) (fun g2=>?_))<;>(try exact g2.elim)<;>(try refine sq F ?_)<;>((repeat (first|refine w1 (fun K hK=>?_)|refine w2 ?_|refine w3 ?_| ((first|refine w4 ?_|refine wD ?_|refine w5 ?_|refine w6 ?_|refine w7 ?_);try refine sq F ?_)| (refine w8 ?_;refine sq F ?_;refine w9 ?_)| ((first|refine hK _ _ (w0 ?_)| (clear hK K;refine hK _ _ (w0 ?_))| (clear hK K;clear hK K;refine hK _ _ (w0 ?_)));clear hK K))))
    ·refine ee hQ F ?_;exact bad (f1 (by omega))
    ·(first|refine gq F (fun g3=>?_) (fun g3=>?_)|refine pq F (fun g3=>?_) (fun g3=>?_))<;>(try exact g3.elim)<;>(try refine sq F ?_)<;>((repeat (first|refine w1 (fun K hK=>?_)|refine w2 ?_|refine w3 ?_| ((first|refine w4 ?_|refine wD ?_|refine w5 ?_|refine w6 ?_|refine w7 ?_);try refine sq F ?_)| (refine w8 ?_;refine sq F ?_;refine w9 ?_)| ((first|refine hK _ _ (w0 ?_)| (clear hK K;refine hK _ _ (w0 ?_))| (clear hK K;clear hK K;refine hK _ _ (w0 ?_)));clear hK K))))
     ·refine cq F (fun g4=>?_) (fun g4=>?_)<;>(try exact g4.elim)<;>((repeat (first|refine w1 (fun K hK=>?_)|refine w2 ?_|refine w3 ?_| ((first|refine w4 ?_|refine wD ?_|refine w5 ?_|refine w6 ?_|refine w7 ?_);try refine sq F ?_)| (refine w8 ?_;refine sq F ?_;refine w9 ?_)| ((first|refine hK _ _ (w0 ?_)| (clear hK K;refine hK _ _ (w0 ?_))| (clear hK K;clear hK K;refine hK _ _ (w0 ?_)));clear hK K))))
      ·refine ee hQ F ?_;exact bad (f1 (by omega))
      ·refine ee hQ F ?_;exact fin _ _ (f2 (by omega)).1 (by rw[(f2 (by omega)).2])
     ·refine ee hQ F ?_;exact fin _ _ (f2 (by omega)).1 (by rw[(f2 (by omega)).2])
 (first|refine gq F (fun g1=>?_) (fun g1=>?_)|refine pq F (fun g1=>?_) (fun g1=>?_))<;>(try exact g1.elim)<;>(try refine sq F ?_)<;>((repeat (first|refine w1 (fun K hK=>?_)|refine w2 ?_|refine w3 ?_| ((first|refine w4 ?_|refine wD ?_|refine w5 ?_|refine w6 ?_|refine w7 ?_);try refine sq F ?_)| (refine w8 ?_;refine sq F ?_;refine w9 ?_)| ((first|refine hK _ _ (w0 ?_)| (clear hK K;refine hK _ _ (w0 ?_))| (clear hK K;clear hK K;refine hK _ _ (w0 ?_)));clear hK K))))
 ·refine cq F (fun g2=>?_) (fun g2=>?_)<;>(try exact g2.elim)<;>((repeat (first|refine w1 (fun K hK=>?_)|refine w2 ?_|refine w3 ?_| ((first|refine w4 ?_|refine wD ?_|refine w5 ?_|refine w6 ?_|refine w7 ?_);try refine sq F ?_)| (refine w8 ?_;refine sq F ?_;refine w9 ?_)| ((first|refine hK _ _ (w0 ?_)| (clear hK K;refine hK _ _ (w0 ?_))| (clear hK K;clear hK K;refine hK _ _ (w0 ?_)));clear hK K))))
  ·refine tail _ 2 (b.toNat-192) 128 ?_ ?_ ?_ ?_ ?_
   ·unfold Cls;omega
   ·exact zq F
   ·exact zq F
   ·exact zq F
   ·exact zq F
  ·(first|refine gq F (fun g3=>?_) (fun g3=>?_)|refine pq F (fun g3=>?_) (fun g3=>?_))<;>(try exact g3.elim)<;>(try refine sq F ?_)<;>((repeat (first|refine w1 (fun K hK=>?_)|refine w2 ?_|refine w3 ?_| ((first|refine w4 ?_|refine wD ?_|refine w5 ?_|refine w6 ?_|refine w7 ?_);try refine sq F ?_)| (refine w8 ?_;refine sq F ?_;refine w9 ?_)| ((first|refine hK _ _ (w0 ?_)| (clear hK K;refine hK _ _ (w0 ?_))| (clear hK K;clear hK K;refine hK _ _ (w0 ?_)));clear hK K))))
   ·refine cq F (fun g4=>?_) (fun g4=>?_)<;>(try exact g4.elim)<;>((repeat (first|refine w1 (fun K hK=>?_)|refine w2 ?_|refine w3 ?_| ((first|refine w4 ?_|refine wD ?_|refine w5 ?_|refine w6 ?_|refine w7 ?_);try refine sq F ?_)| (refine w8 ?_;refine sq F ?_;refine w9 ?_)| ((first|refine hK _ _ (w0 ?_)| (clear hK K;refine hK _ _ (w0 ?_))| (clear hK K;clear hK K;refine hK _ _ (w0 ?_)));clear hK K))))
    ·refine tail _ 3 (b.toNat-224) 2048 ?_ ?_ ?_ ?_ ?_
     ·unfold Cls;omega
     ·exact zq F
     ·exact zq F
     ·exact zq F
     ·exact zq F
    ·(first|refine gq F (fun g5=>?_) (fun g5=>?_)|refine pq F (fun g5=>?_) (fun g5=>?_))<;>(try exact g5.elim)<;>(try refine sq F ?_)<;>((repeat (first|refine w1 (fun K hK=>?_)|refine w2 ?_|refine w3 ?_| ((first|refine w4 ?_|refine wD ?_|refine w5 ?_|refine w6 ?_|refine w7 ?_);try refine sq F ?_)| (refine w8 ?_;refine sq F ?_;refine w9 ?_)| ((first|refine hK _ _ (w0 ?_)| (clear hK K;refine hK _ _ (w0 ?_))| (clear hK K;clear hK K;refine hK _ _ (w0 ?_)));clear hK K))))
     ·refine cq F (fun g6=>?_) (fun g6=>?_)<;>(try exact g6.elim)<;>((repeat (first|refine w1 (fun K hK=>?_)|refine w2 ?_|refine w3 ?_| ((first|refine w4 ?_|refine wD ?_|refine w5 ?_|refine w6 ?_|refine w7 ?_);try refine sq F ?_)| (refine w8 ?_;refine sq F ?_;refine w9 ?_)| ((first|refine hK _ _ (w0 ?_)| (clear hK K;refine hK _ _ (w0 ?_))| (clear hK K;clear hK K;refine hK _ _ (w0 ?_)));clear hK K))))
      ·refine tail _ 4 (b.toNat-240) 65536 ?_ ?_ ?_ ?_ ?_
       ·unfold Cls;omega
       ·exact zq F
       ·exact zq F
       ·exact zq F
       ·exact zq F
      ·refine ee hQ F ?_;exact bad (kJ s (by omega))
     ·exfalso;omega
   ·exfalso;omega
 ·(first|refine gq F (fun g3=>?_) (fun g3=>?_)|refine pq F (fun g3=>?_) (fun g3=>?_))<;>(try exact g3.elim)<;>(try refine sq F ?_)<;>((repeat (first|refine w1 (fun K hK=>?_)|refine w2 ?_|refine w3 ?_| ((first|refine w4 ?_|refine wD ?_|refine w5 ?_|refine w6 ?_|refine w7 ?_);try refine sq F ?_)| (refine w8 ?_;refine sq F ?_;refine w9 ?_)| ((first|refine hK _ _ (w0 ?_)| (clear hK K;refine hK _ _ (w0 ?_))| (clear hK K;clear hK K;refine hK _ _ (w0 ?_)));clear hK K))))
  ·exfalso;omega
  ·(first|refine gq F (fun g5=>?_) (fun g5=>?_)|refine pq F (fun g5=>?_) (fun g5=>?_))<;>(try exact g5.elim)<;>(try refine sq F ?_)<;>((repeat (first|refine w1 (fun K hK=>?_)|refine w2 ?_|refine w3 ?_| ((first|refine w4 ?_|refine wD ?_|refine w5 ?_|refine w6 ?_|refine w7 ?_);try refine sq F ?_)| (refine w8 ?_;refine sq F ?_;refine w9 ?_)| ((first|refine hK _ _ (w0 ?_)| (clear hK K;refine hK _ _ (w0 ?_))| (clear hK K;clear hK K;refine hK _ _ (w0 ?_)));clear hK K))))
   ·exfalso;omega
   ·refine ee hQ F ?_;exact bad (kJ s (by omega))
theorem wX:∀(l:List Int),∀r∈l.map runA,∀c∈r.cells,c.sto=true:=fun l r hr c hc=>by
 obtain⟨a,_,rfl⟩:=M7.1 hr;simp[runA,AVal.cells]at hc;subst hc;rfl
theorem wY:∀(n:Nat) (l:List Int),∀r∈l.map runA,Clo n r:=fun n l r hr=>by
 obtain⟨a,_,rfl⟩:=M7.1 hr;exact .int _ _
theorem Frz.runes{h:Heap}{n q v e:Nat}{l:List Int}{len:Nat}{room:Bool}(hq:n≤q)(hg:getRow h q v=some (e,1,l.map runA))(hlen:len=l.length):Frz h n (.hs q v 0 len room) (.sl 1 (l.map runA)):=
 Z5 hq hg (by simpa using hlen) (fun r hr=>wY _ l r hr) (fun r hr=>wX l r hr)
theorem uL(s:Bs)(hs:s.length≤1048576)(h:Heap):Sat (CT G) 174 [.str s] h (fun r h'=>r=.sl 1 ((runesF s).map runA)∧h'=h):=by
 refine sb [.tmp 2] Tryz.func174 ?_;intro Q hQ;refine wk trivial ?_;refine lm (fun nL tL hL=>∃(k v:Nat) (acc:List Int),s.length-k=nL∧h++[.row 21 1 v (acc.map runA)]=hL∧tL 0=.str (s.drop k)∧tL 3=.hs h.length v 0 acc.length true∧k≤s.length∧acc.length≤k∧acc++runesF (s.drop k)=runesF s) ((fun(k v:Nat) (acc:List Int)=>(s.length-k:Nat)) (0) (0) ([])) ?_ ?_
 ·refine⟨_,_,W9 3 21 1 (by simp) (by omega) (by exact zq trivial),⟨0,0,[],rfl,aw,?_,?_,?_,?_,?_⟩⟩;all_goals try exact zZz trivial
 rintro _ s2 h' ⟨k,v,acc,rfl,rfl,e0,e3,hk,hl,hp⟩ K2 hK2;simp only[ah,ao,Nat.reduceEqDiff, ↓reduceIte]at e0 e3;have F:=F2 e0 e3;refine wk F ?_;refine cq F (fun c1=>?_) (fun c1=>?_)<;>(try exact c1.elim)<;>(refine wk F ?_)
 ·simp only[O8]at c1;have hlt:k<s.length:=by omega
  have hp2:=aN s k hlt;rw[eH s k hlt]at hp;have hne:s.drop k≠ []:=by intro e;have:=N5 List.length e;simp at this;omega
  refine(mA G (s.drop k) hne (by simp;omega) _).mono ?_;rintro r h' ⟨rfl,rfl⟩;rw[← bt];generalize dec s k=d at*;obtain⟨c,m⟩:=d;simp only[]at hp hp2 ⊢;have hsl:m≤(s.drop k).length:=by simp;omega
  have hdd:(s.drop k).drop m=s.drop (k+m):=V3 ..;have F:=F3 F hsl hdd;try refine sq F ?_
  refine wk F ?_;refine aq F ?_;try refine sq F ?_
  refine wk F ?_;refine hK2 _ _ _ (L8 ⟨k+m,v+1,acc++[(c:Int)],rfl,aw,?_,?_,by omega,by simp;omega,by rw[← hp];simp⟩) (by omega);all_goals try exact zZz F
 ·simp only[O8]at c1;rw[dD s k (by omega),O1]at hp;refine wk F ?_;refine ee hQ F ?_;rw[← hp];exact za6 (Frz.runes (M0 _) (by simp[getRow];rfl) rfl) ⟨rfl,rfl⟩
theorem sT(c:Int)(h:Heap):Sat (CT G) 175 [.int .i32 c] h (fun r h'=>r=.bool (blankR c)∧h'=h):=by
 have yes:(c=9∨c=10∨c=13∨c=32∨c=160∨c=8232∨c=8233∨c=12288)→blankR c=true:=fun h=>N7 h
 have no:¬(c=9∨c=10∨c=13∨c=32∨c=160∨c=8232∨c=8233∨c=12288)→blankR c=false:=fun h=>N8 h
 refine sb [.tmp 2] Tryz.func175 ?_;intro Q hQ;refine wk trivial ?_;(first|refine gq trivial (fun g0=>?_) (fun g0=>?_)|refine pq trivial (fun g0=>?_) (fun g0=>?_))<;>(try exact g0.elim)<;>(try refine sq trivial ?_)<;>(refine wk trivial ?_)
 ·refine ee hQ trivial ?_;refine fR (.bool _) ?_;rw[yes (by omega)]
 ·(first|refine gq trivial (fun g1=>?_) (fun g1=>?_)|refine pq trivial (fun g1=>?_) (fun g1=>?_))<;>(try exact g1.elim)<;>(try refine sq trivial ?_)<;>(refine wk trivial ?_)
  ·refine ee hQ trivial ?_;refine fR (.bool _) ?_;rw[yes (by omega)]
  ·(first|refine gq trivial (fun g2=>?_) (fun g2=>?_)|refine pq trivial (fun g2=>?_) (fun g2=>?_))<;>(try exact g2.elim)<;>(try refine sq trivial ?_)<;>(refine wk trivial ?_)
   ·refine ee hQ trivial ?_;refine fR (.bool _) ?_;rw[yes (by omega)]
   ·(first|refine gq trivial (fun g3=>?_) (fun g3=>?_)|refine pq trivial (fun g3=>?_) (fun g3=>?_))<;>(try exact g3.elim)<;>(try refine sq trivial ?_)<;>(refine wk trivial ?_)
    ·refine ee hQ trivial ?_;refine fR (.bool _) ?_;rw[yes (by omega)]
    ·(first|refine gq trivial (fun g4=>?_) (fun g4=>?_)|refine pq trivial (fun g4=>?_) (fun g4=>?_))<;>(try exact g4.elim)<;>(try refine sq trivial ?_)<;>(refine wk trivial ?_)
     ·refine ee hQ trivial ?_;refine fR (.bool _) ?_;rw[yes (by omega)]
     ·(first|refine gq trivial (fun g5=>?_) (fun g5=>?_)|refine pq trivial (fun g5=>?_) (fun g5=>?_))<;>(try exact g5.elim)<;>(try refine sq trivial ?_)<;>(refine wk trivial ?_)
      ·refine ee hQ trivial ?_;refine fR (.bool _) ?_;rw[yes (by omega)]
      ·(first|refine gq trivial (fun g6=>?_) (fun g6=>?_)|refine pq trivial (fun g6=>?_) (fun g6=>?_))<;>(try exact g6.elim)<;>(try refine sq trivial ?_)<;>(refine wk trivial ?_)
       ·refine ee hQ trivial ?_;refine fR (.bool _) ?_;rw[yes (by omega)]
       ·refine ee hQ trivial ?_;refine fR (.bool _) ?_;congr 1
        rw[P6];by_cases h8:c=12288
        ·rw[yes (by omega)];simp[h8]
        ·rw[no (by omega)];simp[h8]
theorem wZ(s:Bs)(n:Nat)(hs:s.length≤1048576)(hn:n≤1048576)(h:Heap):Sat (CT G) 136 [.str s,.int .i64 n] h (fun r h'=>r=.str (cutF s n)∧h'=h):=by
 refine sb [.tmp 4] Tryz.func136 ?_;intro Q hQ;(repeat (first|refine w1 (fun K hK=>?_)|refine w2 ?_|refine w3 ?_| ((first|refine w4 ?_|refine wD ?_|refine w5 ?_|refine w6 ?_|refine w7 ?_);try refine sq trivial ?_)| (refine w8 ?_;refine sq trivial ?_;refine w9 ?_)| ((first|refine hK _ _ (w0 ?_)| (clear hK K;refine hK _ _ (w0 ?_))| (clear hK K;clear hK K;refine hK _ _ (w0 ?_)));clear hK K)))
 have tail:∀(t':Env) (k:Nat),t' 0=.str s→t' 5=.int .i64 k→k≤s.length→k=cutN s.length s n→K t' h:=by
  intro t' k e0 e5 hk hx;refine hK _ _ (L8 ?_);clear hK K;have F:=F2 e0 e5;(repeat (first|refine w1 (fun K hK=>?_)|refine w2 ?_|refine w3 ?_| ((first|refine w4 ?_|refine wD ?_|refine w5 ?_|refine w6 ?_|refine w7 ?_);try refine sq F ?_)| (refine w8 ?_;refine sq F ?_;refine w9 ?_)| ((first|refine hK _ _ (w0 ?_)| (clear hK K;refine hK _ _ (w0 ?_))| (clear hK K;clear hK K;refine hK _ _ (w0 ?_)));clear hK K)))
  refine ee hQ F ?_;refine fR (.str _) ?_;unfold cutF;rw[← hx]
 refine lm (fun nL tL hL=>∃(k:Nat),s.length-k=nL∧h=hL∧tL 5=.int .i64 k∧(k≤s.length∧k≤n)∧k+cutA s k (n-k)=cutN s.length s n) ((fun(k:Nat)=>(s.length-k:Nat)) (0)) ?_ ?_
 ·refine L8 ⟨0,rfl,aw,?_,⟨by omega,by omega⟩,by unfold cutA;simp⟩;all_goals try exact zZz trivial
 rintro _ s2 h' ⟨k,rfl,rfl,e5,hk,hc⟩ K2 hK2;simp only[ah,ao,Nat.reduceEqDiff, ↓reduceIte]at e5;have F:=e5;(repeat (first|refine w1 (fun K hK=>?_)|refine w2 ?_|refine w3 ?_| ((first|refine w4 ?_|refine wD ?_|refine w5 ?_|refine w6 ?_|refine w7 ?_);try refine sq F ?_)| (refine w8 ?_;refine sq F ?_;refine w9 ?_)| ((first|refine hK _ _ (w0 ?_)| (clear hK K;refine hK _ _ (w0 ?_))| (clear hK K;clear hK K;refine hK _ _ (w0 ?_)));clear hK K)))
 refine cq F (fun c1=>?_) (fun c1=>?_)<;>(try exact c1.elim)<;>((repeat (first|refine w1 (fun K hK=>?_)|refine w2 ?_|refine w3 ?_| ((first|refine w4 ?_|refine wD ?_|refine w5 ?_|refine w6 ?_|refine w7 ?_);try refine sq F ?_)| (refine w8 ?_;refine sq F ?_;refine w9 ?_)| ((first|refine hK _ _ (w0 ?_)| (clear hK K;refine hK _ _ (w0 ?_))| (clear hK K;clear hK K;refine hK _ _ (w0 ?_)));clear hK K))))
 ·have hp2:=aN s k c1;have hca:=iP s k (n-k) c1;have hne:s.drop k≠ []:=by intro e;have:=N5 List.length e;simp at this;omega
  refine(mA G (s.drop k) hne (by simp;omega) _).mono ?_;rintro r h' ⟨rfl,rfl⟩;rw[← bt];generalize dec s k=d at*;obtain⟨c,m⟩:=d;simp only[]at hp2 hca ⊢;rw[hca]at hc;try refine sq F ?_
  (repeat (first|refine w1 (fun K hK=>?_)|refine w2 ?_|refine w3 ?_| ((first|refine w4 ?_|refine wD ?_|refine w5 ?_|refine w6 ?_|refine w7 ?_);try refine sq F ?_)| (refine w8 ?_;refine sq F ?_;refine w9 ?_)| ((first|refine hK _ _ (w0 ?_)| (clear hK K;refine hK _ _ (w0 ?_))| (clear hK K;clear hK K;refine hK _ _ (w0 ?_)));clear hK K)))
  refine cq F (fun c2=>?_) (fun c2=>?_)<;>(try exact c2.elim)<;>((repeat (first|refine w1 (fun K hK=>?_)|refine w2 ?_|refine w3 ?_| ((first|refine w4 ?_|refine wD ?_|refine w5 ?_|refine w6 ?_|refine w7 ?_);try refine sq F ?_)| (refine w8 ?_;refine sq F ?_;refine w9 ?_)| ((first|refine hK _ _ (w0 ?_)| (clear hK K;refine hK _ _ (w0 ?_))| (clear hK K;clear hK K;refine hK _ _ (w0 ?_)));clear hK K))))
  ·rw[L7 (by omega)]at hc;refine tail _ k ?_ ?_ hk.1 (by omega)
   ·exact zq F
   ·exact zq F
  ·rw[K4 (by omega)]at hc;refine hK2 _ _ _ (L8 ⟨k+m,rfl,aw,?_,⟨by omega,by omega⟩,by rw[← hc,show n-(k+m)=n-k-m by omega];omega⟩) (by omega);all_goals try exact zZz F
 ·rw[ft s k (n-k) (by omega)]at hc;refine tail _ k ?_ ?_ hk.1 (by omega)
  ·exact zq F
  ·exact zq F
theorem kK(s:Bs)(hs:s.length≤100000)(h:Heap):Sat (CT G) 135 [.str s] h (fun r h'=>r=.str (cleanF s)∧h'=h):=by
 have hll:=bV s.length s (M0 _);have hrl:=cg s.length s (M0 _);have hcl:=dg (runesF s) [] false hrl (by simp);have hdef:clnR (runesF s) [] false=cleanR s:=rfl;have hcf:encs (cleanR s)=cleanF s:=rfl;refine sb [.tmp 2] Tryz.func135 ?_;intro Q hQ;(repeat (first|refine w1 (fun K hK=>?_)|refine w2 ?_|refine w3 ?_| ((first|refine w4 ?_|refine wD ?_|refine w5 ?_|refine w6 ?_|refine w7 ?_);try refine sq trivial ?_)| (refine w8 ?_;refine sq trivial ?_;refine w9 ?_)| (refine rq trivial ?_;try refine sq trivial ?_)| (refine vq trivial ?_;try refine sq trivial ?_)| ((first|refine hK _ _ (w0 ?_)| (clear hK K;refine hK _ _ (w0 ?_))| (clear hK K;clear hK K;refine hK _ _ (w0 ?_)));clear hK K)))
 refine(uL G s (by omega) _).mono ?_;rintro r h' ⟨rfl,hk_⟩;replace hk_:=hk_.symm;subst hk_;try refine sq trivial ?_
 (repeat (first|refine w1 (fun K hK=>?_)|refine w2 ?_|refine w3 ?_| ((first|refine w4 ?_|refine wD ?_|refine w5 ?_|refine w6 ?_|refine w7 ?_);try refine sq trivial ?_)| (refine w8 ?_;refine sq trivial ?_;refine w9 ?_)| (refine rq trivial ?_;try refine sq trivial ?_)| (refine vq trivial ?_;try refine sq trivial ?_)| ((first|refine hK _ _ (w0 ?_)| (clear hK K;refine hK _ _ (w0 ?_))| (clear hK K;clear hK K;refine hK _ _ (w0 ?_)));clear hK K)))
 generalize runesF s=l at*;have hlm:(l.map runA).length=l.length:=L5 ..;have F:=hlm;refine lm (fun nL tL hL=>∃(k v:Nat) (acc:List Int) (w:Bool),l.length-k=nL∧h++[.row 21 1 v (acc.map runA)]=hL∧tL 4=.hs h.length v 0 acc.length true∧tL 5=.bool w∧tL 6=.int .i64 k∧k≤l.length∧clnR (l.drop k) acc w=cleanR s∧acc.length≤2*k) ((fun(k v:Nat) (acc:List Int) (w:Bool)=>(l.length-k:Nat)) (0) (0) ([]) (false)) ?_ ?_
 ·refine⟨_,_,W9 4 21 1 (by simp) (by omega) (by exact zq F),⟨0,0,[],false,rfl,aw,?_,?_,?_,by omega,hdef,by simp⟩⟩;all_goals try exact zZz F
 rintro _ s2 h' ⟨k,v,acc,w,rfl,rfl,e4,e5,e6,hk,hv,hl⟩ K2 hK2;simp only[ah,ao,Nat.reduceEqDiff, ↓reduceIte]at e4 e5 e6;have F:=F4 F e4 e5 e6;(repeat (first|refine w1 (fun K hK=>?_)|refine w2 ?_|refine w3 ?_| ((first|refine w4 ?_|refine wD ?_|refine w5 ?_|refine w6 ?_|refine w7 ?_);try refine sq F ?_)| (refine w8 ?_;refine sq F ?_;refine w9 ?_)| (refine rq F ?_;try refine sq F ?_)| (refine vq F ?_;try refine sq F ?_)| ((first|refine hK _ _ (w0 ?_)| (clear hK K;refine hK _ _ (w0 ?_))| (clear hK K;clear hK K;refine hK _ _ (w0 ?_)));clear hK K)))
 refine cq F (fun c1=>?_) (fun c1=>?_)<;>(try exact c1.elim)
 ·obtain⟨y,hy,hym⟩:=ac c1;have hyl:(l.map runA)[k]? =some (.int .i32 y):=by rw[M5,hy];rfl
  rw[aB hy,clnR]at hv;have F:=F2 F hyl;(repeat (first|refine w1 (fun K hK=>?_)|refine w2 ?_|refine w3 ?_| ((first|refine w4 ?_|refine wD ?_|refine w5 ?_|refine w6 ?_|refine w7 ?_);try refine sq F ?_)| (refine w8 ?_;refine sq F ?_;refine w9 ?_)| (refine rq F ?_;try refine sq F ?_)| (refine vq F ?_;try refine sq F ?_)| ((first|refine hK _ _ (w0 ?_)| (clear hK K;refine hK _ _ (w0 ?_))| (clear hK K;clear hK K;refine hK _ _ (w0 ?_)));clear hK K)))
  refine(sT G y _).mono ?_;rintro r h' ⟨rfl,rfl⟩;try refine sq F ?_
  (repeat (first|refine w1 (fun K hK=>?_)|refine w2 ?_|refine w3 ?_| ((first|refine w4 ?_|refine wD ?_|refine w5 ?_|refine w6 ?_|refine w7 ?_);try refine sq F ?_)| (refine w8 ?_;refine sq F ?_;refine w9 ?_)| (refine rq F ?_;try refine sq F ?_)| (refine vq F ?_;try refine sq F ?_)| ((first|refine hK _ _ (w0 ?_)| (clear hK K;refine hK _ _ (w0 ?_))| (clear hK K;clear hK K;refine hK _ _ (w0 ?_)));clear hK K)))
  have ho:decide ((acc.length:Int)>0)=decide (0<acc.length):=by
   rw[P6];simp only[K8];omega
  refine cq F (fun c2=>?_) (fun c2=>?_)<;>(try exact c2.elim)<;>((repeat (first|refine w1 (fun K hK=>?_)|refine w2 ?_|refine w3 ?_| ((first|refine w4 ?_|refine wD ?_|refine w5 ?_|refine w6 ?_|refine w7 ?_);try refine sq F ?_)| (refine w8 ?_;refine sq F ?_;refine w9 ?_)| (refine rq F ?_;try refine sq F ?_)| (refine vq F ?_;try refine sq F ?_)| ((first|refine hK _ _ (w0 ?_)| (clear hK K;refine hK _ _ (w0 ?_))| (clear hK K;clear hK K;refine hK _ _ (w0 ?_)));clear hK K))))
  ·rw[L7 c2]at hv;have F:=F2 F ho;(try refine sq F ?_);refine hK2 _ _ _ (L8 ⟨k+1,v,acc,decide (0<acc.length),rfl,aw,?_,?_,?_,by omega,hv,by omega⟩) (by omega);all_goals try exact zZz F
  ·rw[K4 (by simp[c2])]at hv;have yes:(y<32∨(127≤y∧y≤159))→ctlR y=true:=fun h=>N7 h
   have no:¬(y<32∨(127≤y∧y≤159))→ctlR y=false:=fun h=>N8 h
   (first|refine gq F (fun g1=>?_) (fun g1=>?_)|refine pq F (fun g1=>?_) (fun g1=>?_))<;>(try exact g1.elim)<;>(try refine sq F ?_)<;>((repeat (first|refine w1 (fun K hK=>?_)|refine w2 ?_|refine w3 ?_| ((first|refine w4 ?_|refine wD ?_|refine w5 ?_|refine w6 ?_|refine w7 ?_);try refine sq F ?_)| (refine w8 ?_;refine sq F ?_;refine w9 ?_)| (refine rq F ?_;try refine sq F ?_)| (refine vq F ?_;try refine sq F ?_)| ((first|refine hK _ _ (w0 ?_)| (clear hK K;refine hK _ _ (w0 ?_))| (clear hK K;clear hK K;refine hK _ _ (w0 ?_)));clear hK K))))
   ·rw[L7 (yes (by omega))]at hv;refine hK2 _ _ _ (L8 ⟨k+1,v,acc,w,rfl,aw,?_,?_,?_,by omega,hv,by omega⟩) (by omega);all_goals try exact zZz F
   ·(first|refine gq F (fun g2=>?_) (fun g2=>?_)|refine pq F (fun g2=>?_) (fun g2=>?_))<;>(try exact g2.elim)<;>(try refine sq F ?_)<;>((repeat (first|refine w1 (fun K hK=>?_)|refine w2 ?_|refine w3 ?_| ((first|refine w4 ?_|refine wD ?_|refine w5 ?_|refine w6 ?_|refine w7 ?_);try refine sq F ?_)| (refine w8 ?_;refine sq F ?_;refine w9 ?_)| (refine rq F ?_;try refine sq F ?_)| (refine vq F ?_;try refine sq F ?_)| ((first|refine hK _ _ (w0 ?_)| (clear hK K;refine hK _ _ (w0 ?_))| (clear hK K;clear hK K;refine hK _ _ (w0 ?_)));clear hK K))))
    ·refine cq F (fun g3=>?_) (fun g3=>?_)<;>(try exact g3.elim)<;>((repeat (first|refine w1 (fun K hK=>?_)|refine w2 ?_|refine w3 ?_| ((first|refine w4 ?_|refine wD ?_|refine w5 ?_|refine w6 ?_|refine w7 ?_);try refine sq F ?_)| (refine w8 ?_;refine sq F ?_;refine w9 ?_)| (refine rq F ?_;try refine sq F ?_)| (refine vq F ?_;try refine sq F ?_)| ((first|refine hK _ _ (w0 ?_)| (clear hK K;refine hK _ _ (w0 ?_))| (clear hK K;clear hK K;refine hK _ _ (w0 ?_)));clear hK K))))
     ·rw[L7 (yes (by omega))]at hv;refine hK2 _ _ _ (L8 ⟨k+1,v,acc,w,rfl,aw,?_,?_,?_,by omega,hv,by omega⟩) (by omega);all_goals try exact zZz F
     ·rw[K4 (by rw[no (by omega)];simp)]at hv;refine cq F (fun c3=>?_) (fun c3=>?_)<;>(try exact c3.elim)<;>((repeat (first|refine w1 (fun K hK=>?_)|refine w2 ?_|refine w3 ?_| ((first|refine w4 ?_|refine wD ?_|refine w5 ?_|refine w6 ?_|refine w7 ?_);try refine sq F ?_)| (refine w8 ?_;refine sq F ?_;refine w9 ?_)| (refine rq F ?_;try refine sq F ?_)| (refine vq F ?_;try refine sq F ?_)| ((first|refine hK _ _ (w0 ?_)| (clear hK K;refine hK _ _ (w0 ?_))| (clear hK K;clear hK K;refine hK _ _ (w0 ?_)));clear hK K))))
      ·rw[L7 c3]at hv;refine aq F ?_;(try refine sq F ?_);(repeat (first|refine w1 (fun K hK=>?_)|refine w2 ?_|refine w3 ?_| ((first|refine w4 ?_|refine wD ?_|refine w5 ?_|refine w6 ?_|refine w7 ?_);try refine sq F ?_)| (refine w8 ?_;refine sq F ?_;refine w9 ?_)| (refine rq F ?_;try refine sq F ?_)| (refine vq F ?_;try refine sq F ?_)| ((first|refine hK _ _ (w0 ?_)| (clear hK K;refine hK _ _ (w0 ?_))| (clear hK K;clear hK K;refine hK _ _ (w0 ?_)));clear hK K)))
       refine aq F ?_;(try refine sq F ?_);(repeat (first|refine w1 (fun K hK=>?_)|refine w2 ?_|refine w3 ?_| ((first|refine w4 ?_|refine wD ?_|refine w5 ?_|refine w6 ?_|refine w7 ?_);try refine sq F ?_)| (refine w8 ?_;refine sq F ?_;refine w9 ?_)| (refine rq F ?_;try refine sq F ?_)| (refine vq F ?_;try refine sq F ?_)| ((first|refine hK _ _ (w0 ?_)| (clear hK K;refine hK _ _ (w0 ?_))| (clear hK K;clear hK K;refine hK _ _ (w0 ?_)));clear hK K)))
       refine hK2 _ _ _ (L8 ⟨k+1,v+1+1,acc++[32,y],false,rfl,by simp[runA],?_,?_,?_,by omega,hv,by simp;omega⟩) (by omega);all_goals try exact zZz F
      ·rw[K4 (by simp[c3])]at hv;refine aq F ?_;(try refine sq F ?_);(repeat (first|refine w1 (fun K hK=>?_)|refine w2 ?_|refine w3 ?_| ((first|refine w4 ?_|refine wD ?_|refine w5 ?_|refine w6 ?_|refine w7 ?_);try refine sq F ?_)| (refine w8 ?_;refine sq F ?_;refine w9 ?_)| (refine rq F ?_;try refine sq F ?_)| (refine vq F ?_;try refine sq F ?_)| ((first|refine hK _ _ (w0 ?_)| (clear hK K;refine hK _ _ (w0 ?_))| (clear hK K;clear hK K;refine hK _ _ (w0 ?_)));clear hK K)))
       refine hK2 _ _ _ (L8 ⟨k+1,v+1,acc++[y],w,rfl,by simp[runA],?_,?_,?_,by omega,by rw[c3];exact hv,by simp;omega⟩) (by omega);all_goals try exact zZz F
    ·rw[K4 (by rw[no (by omega)];simp)]at hv;refine cq F (fun c3=>?_) (fun c3=>?_)<;>(try exact c3.elim)<;>((repeat (first|refine w1 (fun K hK=>?_)|refine w2 ?_|refine w3 ?_| ((first|refine w4 ?_|refine wD ?_|refine w5 ?_|refine w6 ?_|refine w7 ?_);try refine sq F ?_)| (refine w8 ?_;refine sq F ?_;refine w9 ?_)| (refine rq F ?_;try refine sq F ?_)| (refine vq F ?_;try refine sq F ?_)| ((first|refine hK _ _ (w0 ?_)| (clear hK K;refine hK _ _ (w0 ?_))| (clear hK K;clear hK K;refine hK _ _ (w0 ?_)));clear hK K))))
     ·rw[L7 c3]at hv;refine aq F ?_;(try refine sq F ?_);(repeat (first|refine w1 (fun K hK=>?_)|refine w2 ?_|refine w3 ?_| ((first|refine w4 ?_|refine wD ?_|refine w5 ?_|refine w6 ?_|refine w7 ?_);try refine sq F ?_)| (refine w8 ?_;refine sq F ?_;refine w9 ?_)| (refine rq F ?_;try refine sq F ?_)| (refine vq F ?_;try refine sq F ?_)| ((first|refine hK _ _ (w0 ?_)| (clear hK K;refine hK _ _ (w0 ?_))| (clear hK K;clear hK K;refine hK _ _ (w0 ?_)));clear hK K)))
      refine aq F ?_;(try refine sq F ?_);(repeat (first|refine w1 (fun K hK=>?_)|refine w2 ?_|refine w3 ?_| ((first|refine w4 ?_|refine wD ?_|refine w5 ?_|refine w6 ?_|refine w7 ?_);try refine sq F ?_)| (refine w8 ?_;refine sq F ?_;refine w9 ?_)| (refine rq F ?_;try refine sq F ?_)| (refine vq F ?_;try refine sq F ?_)| ((first|refine hK _ _ (w0 ?_)| (clear hK K;refine hK _ _ (w0 ?_))| (clear hK K;clear hK K;refine hK _ _ (w0 ?_)));clear hK K)))
      refine hK2 _ _ _ (L8 ⟨k+1,v+1+1,acc++[32,y],false,rfl,by simp[runA],?_,?_,?_,by omega,hv,by simp;omega⟩) (by omega);all_goals try exact zZz F
     ·rw[K4 (by simp[c3])]at hv;refine aq F ?_;(try refine sq F ?_);(repeat (first|refine w1 (fun K hK=>?_)|refine w2 ?_|refine w3 ?_| ((first|refine w4 ?_|refine wD ?_|refine w5 ?_|refine w6 ?_|refine w7 ?_);try refine sq F ?_)| (refine w8 ?_;refine sq F ?_;refine w9 ?_)| (refine rq F ?_;try refine sq F ?_)| (refine vq F ?_;try refine sq F ?_)| ((first|refine hK _ _ (w0 ?_)| (clear hK K;refine hK _ _ (w0 ?_))| (clear hK K;clear hK K;refine hK _ _ (w0 ?_)));clear hK K)))
      refine hK2 _ _ _ (L8 ⟨k+1,v+1,acc++[y],w,rfl,by simp[runA],?_,?_,?_,by omega,by rw[c3];exact hv,by simp;omega⟩) (by omega);all_goals try exact zZz F
 ·rw[aF c1,clnR]at hv;(repeat (first|refine w1 (fun K hK=>?_)|refine w2 ?_|refine w3 ?_| ((first|refine w4 ?_|refine wD ?_|refine w5 ?_|refine w6 ?_|refine w7 ?_);try refine sq F ?_)| (refine w8 ?_;refine sq F ?_;refine w9 ?_)| (refine rq F ?_;try refine sq F ?_)| (refine vq F ?_;try refine sq F ?_)))
  have hg:getRow (h++[.row 21 1 v (acc.map runA)]) h.length v=some (21,1,acc.map runA):=by simp[getRow]
  have ht:∀(ms:List Nat) (t:Env),4∈ms→t 4=.hs h.length v 0 acc.length true→∀i,upd t 4 (.sl 1 (acc.map runA)) i=t i∨(i∈ms∧Fz (h++[.row 21 1 v (acc.map runA)]) h.length v (t i) (upd t 4 (.sl 1 (acc.map runA)) i)):=fun ms t hm ht i=>by
   by_cases hi:i=4
   ·subst hi;right;refine⟨hm,?_⟩;rw[ht];simp only[upd, ↓reduceIte];exact Fz.all _ _ _ hg rfl (by simp)
   ·left;simp only[upd];rw[K4 hi]
  clear hK K;refine hK _ _ ⟨_,_,Weak.fz h.length v hg (ht _ _ (by decide+kernel) (by exact zq F)),?_⟩;clear hK K;have hset:(h++[Blk.row 21 1 v (acc.map runA)]).set h.length Blk.dead=h++[Blk.dead]:=by simp
  rw[hset];(repeat (first|refine w1 (fun K hK=>?_)|refine w2 ?_|refine w3 ?_| ((first|refine w4 ?_|refine wD ?_|refine w5 ?_|refine w6 ?_|refine w7 ?_);try refine sq F ?_)| (refine w8 ?_;refine sq F ?_;refine w9 ?_)| (refine rq F ?_;try refine sq F ?_)| (refine vq F ?_;try refine sq F ?_)| ((first|refine hK _ _ (w0 ?_)| (clear hK K;refine hK _ _ (w0 ?_))| (clear hK K;clear hK K;refine hK _ _ (w0 ?_)));clear hK K)))
  refine(xR G acc (fun r hr=>hcl r (by rw[hdef, ← hv];exact hr)) (by omega) _).mono ?_;rintro r h' ⟨rfl,rfl⟩;try refine sq F ?_
  (repeat (first|refine w1 (fun K hK=>?_)|refine w2 ?_|refine w3 ?_| ((first|refine w4 ?_|refine wD ?_|refine w5 ?_|refine w6 ?_|refine w7 ?_);try refine sq F ?_)| (refine w8 ?_;refine sq F ?_;refine w9 ?_)| (refine rq F ?_;try refine sq F ?_)| (refine vq F ?_;try refine sq F ?_)| ((first|refine hK _ _ (w0 ?_)| (clear hK K;refine hK _ _ (w0 ?_))| (clear hK K;clear hK K;refine hK _ _ (w0 ?_)));clear hK K)))
  refine ee hQ F ?_;refine fR (.str _) ?_;rw[hv];exact N5 AVal.str hcf
theorem oy(s:Bs)(n:Nat)(hs:s.length≤100000)(hn:n≤1000)(h:Heap):Sat (CT G) 98 [.str s,.int .i64 n] h (fun r h'=>r=.str (shortF s n)∧h'=h):=by
 have h1:=kb s;have h2:=(jB (cleanF s) n).1;refine sb [.tmp 4] Tryz.func98 ?_;intro Q hQ;refine wk trivial ?_;refine kq trivial (kK G s (by omega) _) ?_;refine kq trivial (wZ G (cleanF s) n (by omega) (by omega) _) ?_;refine kq trivial (kK G (cutF (cleanF s) n) (by omega) _) ?_;refine ee hQ trivial ?_;refine fR (.str _) ?_;rfl
theorem kL(s:Bs)(m:Nat)(hs:s.length≤100000)(h:Heap):Sat (CT G) 147 [.str s,.int .i64 m] h (fun r h'=>r=.bool (textO s m)∧h'=h):=by
 refine sb [.tmp 4] Tryz.func147 ?_;intro Q hQ;refine wk trivial ?_;(first|refine gq trivial (fun g1=>?_) (fun g1=>?_)|refine pq trivial (fun g1=>?_) (fun g1=>?_))<;>(try exact g1.elim)<;>(try refine sq trivial ?_)<;>(refine wk trivial ?_)
 ·refine kq trivial (kc G s (by omega) _) ?_;(first|refine gq trivial (fun g2=>?_) (fun g2=>?_)|refine pq trivial (fun g2=>?_) (fun g2=>?_))<;>(try exact g2.elim)<;>(try refine sq trivial ?_)<;>(refine wk trivial ?_)
  ·refine kq trivial (eX G s (by omega) _) ?_;refine ee hQ trivial ?_;refine fR (.bool _) ?_;unfold textO;rw[N7 (show s.length≤m by omega),g2,S3,S3];congr 1
   rw[P6];simp
  ·refine ee hQ trivial ?_;refine fR (.bool _) ?_;unfold textO;rw[g2];simp
 ·refine ee hQ trivial ?_;refine fR (.bool _) ?_;unfold textO;rw[N8 (show ¬s.length≤m by omega)];simp
theorem uM(o:Outl)(ht:o.title.length≤100000)(hu:o.url.length≤100000)(h:Heap):Sat (CT G) 109 [o.av] h (fun r h'=>r=.bool (oneOk o)∧h'=h):=by
 have hkl:o.kids.length=0↔o.kids=[]:=Q2;refine sb [.tmp 2] Tryz.func109 ?_;intro Q hQ;refine wk trivial ?_;(first|refine gq trivial (fun g1=>?_) (fun g1=>?_)|refine pq trivial (fun g1=>?_) (fun g1=>?_))<;>(try exact g1.elim)<;>(try refine sq trivial ?_)<;>(refine wk trivial ?_)
 ·refine kq trivial (kL G o.title 256 (by omega) _) ?_;(first|refine gq trivial (fun g2=>?_) (fun g2=>?_)|refine pq trivial (fun g2=>?_) (fun g2=>?_))<;>(try exact g2.elim)<;>(try refine sq trivial ?_)<;>(refine wk trivial ?_)
  ·refine kq trivial (kL G o.url 512 (by omega) _) ?_;(first|refine gq trivial (fun g3=>?_) (fun g3=>?_)|refine pq trivial (fun g3=>?_) (fun g3=>?_))<;>(try exact g3.elim)<;>(try refine sq trivial ?_)<;>(refine wk trivial ?_)
   ·(first|refine gq trivial (fun g4=>?_) (fun g4=>?_)|refine pq trivial (fun g4=>?_) (fun g4=>?_))<;>(try exact g4.elim)<;>(try refine sq trivial ?_)<;>(refine wk trivial ?_)
    ·refine ee hQ trivial ?_;refine fR (.bool _) ?_;unfold oneOk;rw[g2,g3];simp[g1,g4]
    ·refine ee hQ trivial ?_;refine fR (.bool _) ?_;unfold oneOk;rw[g2,g3];simp[g1,g4];rw[P6];simp
   ·refine ee hQ trivial ?_;refine fR (.bool _) ?_;unfold oneOk;rw[g3];simp
  ·refine ee hQ trivial ?_;refine fR (.bool _) ?_;unfold oneOk;rw[g2];simp
 ·refine ee hQ trivial ?_;refine fR (.bool _) ?_;unfold oneOk;simp[g1]
theorem jh(s:Bs)(n:Nat)(hs:s.length≤700000)(hn:n≤1000)(h:Heap):Sat (CT G) 69 [.str s,.int .i64 n] h (fun r h'=>r=.str (shortF s n)∧h'=h):=by
 have h1:=kb s;have h2:=(jB (cleanF s) n).1;refine sb [.tmp 4] Tryz.func69 ?_;intro Q hQ;refine wk trivial ?_;refine kq trivial (eX G s (by omega) _) ?_;refine kq trivial (vS G (cleanF s) n (by omega) (by omega) _) ?_;refine kq trivial (eX G (cutF (cleanF s) n) (by omega) _) ?_;refine ee hQ trivial ?_;refine fR (.str _) ?_;rfl
section
variable {s:PS} {H:Heap} {n:Nat}
theorem kM(hn:n+9≤H.length):Sat (CT G) 67 [.hp (n+8) 0 0 0,.int .i64 1] (so H n s) (fun r h'=>r=.int .i64 s.t1∧h'=so H n s):=by
 refine sb [.tmp 4] Tryz.func67 ?_;intro Q hQ;refine wk trivial ?_;refine ee hQ trivial ?_;exact bm hn (.int _ _) ⟨rfl,rfl⟩
theorem sU(hn:n+9≤H.length):Sat (CT G) 67 [.hp (n+8) 0 0 0,.int .i64 3] (so H n s) (fun r h'=>r=.int .i64 s.t2∧h'=so H n s):=by
 refine sb [.tmp 4] Tryz.func67 ?_;intro Q hQ;refine wk trivial ?_;refine ee hQ trivial ?_;exact bm hn (.int _ _) ⟨rfl,rfl⟩
theorem uN{l:List Fo}{k:Nat}{y:Fo}{p:Fo→Bool}(hy:l[k]? =some y)(h:(l.take k).find? p=none):l.find? p=if p y then some y else(l.drop (k+1)).find? p:=by
 have e:l=l.take k++y::l.drop (k+1):=by
  obtain⟨hlt,he⟩:=f9.1 hy;rw[← he, ← Z3 hlt,W4]
 rw[e,List.find?_append,h,List.find?_cons];rw[← e];cases p y<;>rfl
theorem pJ(T:s.Top2)(hn:n+9≤H.length)(inn:Int)(name:Bs):Sat (CT G) 70 [.hp (n+8) 0 0 0,.int .i64 inn,.str name] (so H n s) (fun r h'=>r=.int .i64 (foId s inn name)∧h'=so H n s):=by
 have hTl:=f4 G s T.i.toOk hn;have hfn:=yn T inn name;have hfo:s.tell.fo=valsM Fo.z s.fo:=rfl;rw[← hfo]at hfn;rw[← hfn];have hlf:s.tell.fo.length≤64:=by rw[hfo,dG];exact T.i.l1
 generalize s.tell=x at*;clear hfn hfo;have mfo:(x.fo.map Fo.av).length=x.fo.length:=L5 ..;have hnj:∀j,n+9≤(H++j).length:=fun j=>by simp;omega
 have F:=F3 @mfo hnj @ax;refine sb [.tmp 6] Tryz.func70 ?_;intro Q hQ;refine wk F ?_;refine kq F (hTl) ?_;refine lm (fun nL tL hL=>∃(k:Nat) (j:Heap),x.fo.length-k=nL∧so (H++j) n s=hL∧tL 13=.int .i64 k∧k≤x.fo.length∧((x.fo.take k).find? (fun f=>decide (f.inn=inn∧f.name=name))=none)) ((fun(k:Nat) (j:Heap)=>(x.fo.length-k:Nat)) (0) ([])) ?_ ?_
 ·refine L8 ⟨0,[],rfl,by rw[O1],?_,by omega,rfl⟩;all_goals try exact zZz F
 rintro _ s2 h' ⟨k,j,rfl,rfl,e13,hk,hf⟩ K2 hK2;simp only[ah,ao,Nat.reduceEqDiff, ↓reduceIte]at e13;have F:=F2 F e13;by_cases c2:k<x.fo.length
 ·have d2:=N7 c2;obtain⟨y,hy,hym⟩:=ac c2;have hm:(x.fo.map Fo.av)[k]? =some y.av:=by rw[M5,hy];rfl
  have hft:=uN hy hf;have hf2:(x.fo.take (k+1)).find? (fun f=>decide (f.inn=inn∧f.name=name))=if decide (y.inn=inn∧y.name=name)then some y else none:=by
   rw[O7,hy,Option.toList_some,List.find?_append,hf,List.find?_cons];cases decide (y.inn=inn∧y.name=name)<;>rfl
  obtain⟨y1,y2,y3⟩:=y;rw[Fo.av_eq]at hm;simp only[]at hm hft hf2;by_cases ca:y2=inn
  ·have qa:(y2==inn)=true:=(by simp[ca]);by_cases cb:y3=name
   ·have qb:(y3==name)=true:=(by simp[cb]);have F:=F7 F hm hy d2 c2 qa qb;(try refine sq F ?_);refine wk F ?_;refine ee hQ F ?_;refine au hn (.int _ _) ⟨?_,rfl⟩;unfold fndN;rw[hft,L7 (by simp[ca,cb])];rfl
   ·have qb:(y3==name)=false:=(by simp[cb]);have F:=F7 F hm hy d2 c2 qa qb;(try refine sq F ?_);refine wk F ?_;refine hK2 _ _ _ (L8 ⟨k+1,j++[.row 44 3 0 [.agg [.int .i64 y1,.int .i64 y2,.str y3]]],rfl,rfl,?_,by omega,by rw[hf2,K4 (by simp[cb])]⟩) (by omega);all_goals try exact zZz F
  ·have qa:(y2==inn)=false:=(by simp[ca]);have F:=F6 F hm hy d2 c2 qa;(try refine sq F ?_);refine wk F ?_;refine hK2 _ _ _ (L8 ⟨k+1,j++[.row 44 3 0 [.agg [.int .i64 y1,.int .i64 y2,.str y3]]],rfl,rfl,?_,by omega,by rw[hf2,K4 (by simp[ca])]⟩) (by omega);all_goals try exact zZz F
 ·have d2:=N8 c2;rw[M4 (by omega)]at hf;have F:=F2 F d2;try refine sq F ?_
  refine wk F ?_;refine ee hQ F ?_;refine au hn (.int _ _) ⟨?_,rfl⟩;unfold fndN;rw[hf];rfl
end
def exM(H:Heap)(n:Nat)(ws:List Ev)(j:Heap):Heap:=
 H++(.row 27 1 0 [.hp (n+8) 0 0 0]:: .row 22 1 0 [.hs (H.length+2) ws.length 0 ws.length true]:: .row 34 7 ws.length (ws.map Ev.av)::
  .row 32 1 0 [.fn (.func 66) [] [.hp H.length 0 0 0,.hp (H.length+1) 0 0 0]]::
  .row 120 1 0 [.fn (.func 68) [] [.hp (H.length+3) 0 0 0,.hp H.length 0 0 0,.hp (H.length+4) 0 0 0]]::j)
section
variable {H:Heap} {n:Nat} {ws:List Ev} {j:Heap}
theorem gD(j':Heap):exM H n ws j++j'=exM H n ws (j++j'):=by simp[exM]
theorem cQ:(exM H n ws j).length=H.length+5+j.length:=by simp[exM];omega
theorem dr(i v:Nat):getRow (exM H n ws j) (H.length+i) v=getRow (.row 27 1 0 [.hp (n+8) 0 0 0]:: .row 22 1 0 [.hs (H.length+2) ws.length 0 ws.length true]:: .row 34 7 ws.length (ws.map Ev.av)::
  .row 32 1 0 [.fn (.func 66) [] [.hp H.length 0 0 0,.hp (H.length+1) 0 0 0]]::
  .row 120 1 0 [.fn (.func 68) [] [.hp (H.length+3) 0 0 0,.hp H.length 0 0 0,.hp (H.length+4) 0 0 0]]::j) i v:=bx v rfl
theorem yp(e:Ev):((exM H n ws j).set (H.length+2) (.row 34 7 (ws.length+1) (ws.map Ev.av++[e.av]))).set (H.length+1) (.row 22 1 0 [.hs (H.length+2) (ws.length+1) 0 (ws.length+1) true])=exM H n (ws++[e]) j:=by
 unfold exM;rw[ke _ rfl,ke _ rfl];simp only[List.set_cons_succ,List.set_cons_zero,K7,Y8,P2,N4,R1]
end
theorem oA(g:List Outl→Nat)(b:Nat)(hb:1≤b)(hg:∀l,g l≤b):∀(t:List Outl) (a:Nat),a≤512→cntGo g t a≤512+b
 | [],a,h=>by rw[cntGo];omega
 |o::t,a,h=>by
  rw[cntGo];split
  ·split
   ·have:=hg o.kids;omega
   ·exact oA g b hb hg t _ (by omega)
  ·omega
theorem lE:∀(f:Nat) (l:List Outl),cntN f l≤513+512*f:=by
 intro f;induction f with
 |zero=>intro l;rw[cntN];split<;>omega
 |succ f ih=>
  intro l;rw[cntN];split
  ·omega
  ·have:=oA (cntN f) (513+512*f) (by omega) ih l l.length (by omega);omega
def OkN:Nat→List Outl→Prop
 |0,l=>l.length≤1000000
 |f+1,l=>l.length≤1000000∧∀o∈l,o.title.length≤100000∧o.url.length≤100000∧OkN f o.kids
theorem OkN.nil:∀f:Nat,OkN f []:=fun f=>by cases f with|zero=>exact W1 _|succ f=>exact⟨W1 _,fun o ho=>by cases ho⟩
theorem gZ(f:Nat):cntN f []=0:=by cases f<;>rfl
theorem kN(f d:Nat)(h:Heap):Sat (CT G) 59 [.sl 3 (([]:List Outl).map Outl.av),.int .i64 d] h (fun r h'=>r=.int .i64 (cntN f [])∧h'=h):=by
 rw[gZ];refine sb [.tmp 4] Tryz.func59 ?_;intro Q hQ;refine wk trivial ?_;refine lm (fun nL tL hL=>∃(k:Nat),0=nL∧h=hL∧tL 5=.int .i64 0∧tL 22=.int .i64 k∧k=0) ((fun(k:Nat)=>(0:Nat)) (0)) ?_ ?_
 ·refine L8 ⟨0,rfl,aw,?_,?_,rfl⟩;all_goals try exact zZz trivial
 rintro _ s2 h' ⟨k,rfl,rfl,e5,e22,hk⟩ K2 hK2;simp only[ah,ao,Nat.reduceEqDiff, ↓reduceIte]at e5 e22;have F:=F2 e5 e22;subst hk;refine wk F ?_;refine ee hQ F ?_;refine fR (.int _ _) ?_;rfl
theorem kO:∀(f d:Nat),f+d=9→∀(l:List Outl) (_:OkN f l) (h:Heap),Sat (CT G) 59 [.sl 3 (l.map Outl.av),.int .i64 d] h (fun r h'=>r=.int .i64 (cntN f l)∧h'=h):=by
 intro f;induction f with
 |zero=>
  intro d hf l hs h;by_cases hl0:l=[]
  ·subst hl0;exact kN G 0 d h
  have hlp:=T5.2 hl0;have hlm:(l.map Outl.av).length=l.length:=L5 ..;have f1:decide ((l.length:Int)>0)=true:=by rw[decide_eq_true_iff];omega
  have f2:decide ((d:Int)>8)=true:=by rw[decide_eq_true_iff];omega
  have F:=F3 hlm f1 f2;refine sb [.tmp 4] Tryz.func59 ?_;intro Q hQ;refine wk F ?_;refine ee hQ F ?_;refine fR (.int _ _) ?_;rw[cntN,K4 hl0];rfl
 |succ f ih=>
  intro d hf l hs h;by_cases hl0:l=[]
  ·subst hl0;exact kN G (f+1) d h
  have hlp:=T5.2 hl0;have hlm:(l.map Outl.av).length=l.length:=L5 ..;have hll:=hs.1;have f1:decide ((l.length:Int)>0)=true:=by rw[decide_eq_true_iff];omega
  have f2:decide ((d:Int)>8)=false:=by rw[decide_eq_false_iff_not];omega
  by_cases hl:512<l.length
  ·have f3:decide ((l.length:Int)>512)=true:=(by rw[decide_eq_true_iff];omega);have F:=F4 hlm f1 f2 f3;refine sb [.tmp 4] Tryz.func59 ?_;intro Q hQ;refine wk F ?_;refine ee hQ F ?_;refine fR (.int _ _) ?_;rw[cntN,L7 hl];rfl
  have f3:decide ((l.length:Int)>512)=false:=by rw[decide_eq_false_iff_not];omega
  rw[cntN,K4 hl];have F:=F4 hlm f1 f2 f3;refine sb [.tmp 4] Tryz.func59 ?_;intro Q hQ;refine wk F ?_;refine lm (fun nL tL hL=>∃(k a:Nat) (jj:Heap),l.length-k=nL∧h++jj=hL∧tL 5=.int .i64 a∧tL 22=.int .i64 k∧k≤l.length∧a≤512∧cntGo (cntN f) (l.drop k) a=cntGo (cntN f) l l.length) ((fun(k a:Nat) (jj:Heap)=>(l.length-k:Nat)) (0) (l.length) ([])) ?_ ?_
  ·refine L8 ⟨0,l.length,[],rfl,aw,?_,?_,by omega,by omega,rfl⟩;all_goals try exact zZz F
  rintro _ s2 h' ⟨k,a,jj,rfl,rfl,e5,e22,hk,ha,hp⟩ K2 hK2;simp only[ah,ao,Nat.reduceEqDiff, ↓reduceIte]at e5 e22;have F:=F3 F e5 e22;refine wk F ?_;refine cq F (fun c1=>?_) (fun c1=>?_)<;>(try exact c1.elim)<;>(refine wk F ?_)
  ·obtain⟨y,hy,hym⟩:=ac c1;have hyo:=hs.2 y hym;have hcl:=lE f y.kids;rw[aB hy,cntGo]at hp;have F:=F2 F hy;(try refine sq F ?_);refine wk F ?_;refine kq F (uM G y hyo.1 hyo.2.1 _) ?_;refine cq F (fun c2=>?_) (fun c2=>?_)<;>(try exact c2.elim)<;>(refine wk F ?_)
   ·rw[K4 (by simp[c2])]at hp;refine ee hQ F ?_;refine fR (.int _ _) ?_;rw[← hp];rfl
   ·rw[L7 c2]at hp;refine kq F (ih (d+1) (by omega) y.kids hyo.2.2 _) ?_;refine cq F (fun c3=>?_) (fun c3=>?_)<;>(try exact c3.elim)<;>(refine wk F ?_)
    ·rw[L7 (by omega)]at hp;refine ee hQ F ?_;refine fR (.int _ _) ?_;rw[← hp];rfl
    ·rw[K4 (by omega)]at hp;refine hK2 _ _ _ (L8 ⟨k+1,a+cntN f y.kids,jj++[.row 55 3 0 [y.av]],rfl,by simp,?_,?_,by omega,by omega,hp⟩) (by omega);all_goals try exact zZz F
  ·rw[aF c1,cntGo]at hp;refine wk F ?_;refine ee hQ F ?_;refine fR (.int _ _) ?_;rw[hp]
end
section
def escB(c:UInt8):Bs:=if c=38 then [38,97,109,112,59]else if c=60 then [38,108,116,59]else if c=62 then [38,103,116,59]else if c=34 then [38,113,117,111,116,59]else if c=39 then [38,97,112,111,115,59]else [c]
def escF(s:Bs):Bs:=s.flatMap escB
theorem uV(c:UInt8)(s:Bs):escF (c::s)=escB c++escF s:=S6
theorem xa(c:UInt8):1≤(escB c).length∧(escB c).length≤6:=by
 unfold escB;repeat (first|split|exact⟨by simp,by simp⟩)
theorem cI:∀s:Bs,(escF s).length≤6*s.length∧s.length≤(escF s).length
 | []=>by simp[escF]
 |c::s=>by have:=cI s;have:=xa c;rw[uV];simp;omega
theorem uW(s:Bs)(c:UInt8):escF (s++[c])=escF s++escB c:=by simp[escF]
def nVer:Bs:=[118,101,114,115,105,111,110]
def q1:Bs:=[60,111,117,116,108,105,110,101,32,116,101,120,116,61,34]
def q2:Bs:=[34,32,120,109,108,85,114,108,61,34]
def q3:Bs:=[34,62]
def q4:Bs:=[60,47,111,117,116,108,105,110,101,62]
def q5:Bs:=[60,111,112,109,108,32,118,101,114,115,105,111,110,61,34,50,46,48,34,62]
def q6:Bs:=[60,98,111,100,121,62]
def q7:Bs:=[60,47,98,111,100,121,62]
def q8:Bs:=[60,47,111,112,109,108,62]
def opB(o:Outl):Bs:=q1++escF o.title++(if o.url=[]then []else q2++escF o.url)++q3
def opT(o:Outl):Tok:=(1,bOutline,(bText,o.title)::(if o.url=[]then []else [(bUrl,o.url)]),[])
def clT:Tok:=(2,bOutline,[],[])
def pcs:Nat→List Outl→List (Bs×Tok)
 |0,_=>[]
 |f+1,l=>l.flatMap fun o=>(opB o,opT o)::pcs f o.kids++[(q4,clT)]
def docP(f:Nat)(l:List Outl):List (Bs×Tok):=(q5,(1,bOpml,[(nVer,[50,46,48])],[]))::(q6,(1,bBody,[],[]))::pcs f l++[(q7,(2,bBody,[],[])),(q8,(2,bOpml,[],[]))]
def docF(f:Nat)(l:List Outl):Bs:=(docP f l).flatMap (·.1)
end
section
attribute [local irreducible] WP WPl WPix Sat
variable (G:Nat→Option (List AVal))
def okOl(l:List Outl):Bool:=decide (cntN 8 l≤512)
theorem pP(l:List Outl)(hl:OkN 8 l)(h:Heap):Sat (CT G) 31 [.sl 3 (l.map Outl.av)] h (fun r h'=>r=.int .i64 (if okOl l then 0 else 130)∧h'=h):=by
 have hc:=lE 8 l;refine sb [.tmp 2] Tryz.func31 ?_;intro Q hQ;refine wk trivial ?_;refine kq trivial (kO G 8 1 (by omega) l hl _) ?_;refine cq trivial (fun c1=>?_) (fun c1=>?_)<;>(try exact c1.elim)<;>(refine wk trivial ?_)
 ·refine ee hQ trivial ?_;refine fR (.int _ _) ?_;rw[K4 (by unfold okOl;simp;omega)]
 ·refine ee hQ trivial ?_;refine fR (.int _ _) ?_;rw[L7 (by unfold okOl;simp;omega)]
theorem mF(g:List Outl→Nat)(hg:∀l,g l≤512→szs Outl.sz l≤769*g l):∀(t:List Outl) (a:Nat),t.length≤a→cntGo g t a≤512→szs Outl.sz t+769*(a-t.length)≤769*cntGo g t a
 | [],a,_,_=>by simp[szs,cntGo]
 |o::t,a,ha,h=>by
  rw[cntGo]at h ⊢;simp only[L6]at ha ⊢;by_cases hk:oneOk o=true
  ·rw[L7 hk]at h ⊢;by_cases h5:512<a+g o.kids
   ·rw[L7 h5]at h;omega
   ·rw[K4 h5]at h ⊢;have h1:=mF g hg t (a+g o.kids) (by omega) h;have h2:=hg o.kids (by omega);have h3:=o.sz_eq;unfold oneOk textO at hk;simp only[K5,K8]at hk;have h4:=hk.1.1.2.1.1;have h6:=hk.1.2.1.1;rw[szs];omega
  ·rw[K4 hk]at h;omega
theorem uX:∀(f:Nat) (l:List Outl),cntN f l≤512→szs Outl.sz l≤769*cntN f l:=by
 intro f;induction f with
 |zero=>
  intro l h;rw[cntN]at h ⊢;by_cases hl:l=[]
  ·subst hl;simp[szs]
  ·rw[K4 hl]at h;omega
 |succ f ih=>
  intro l h;rw[cntN]at h ⊢;by_cases hl:512<l.length
  ·rw[L7 hl]at h;omega
  ·rw[K4 hl]at h ⊢;have:=mF (cntN f) ih l l.length (M0 _) h;omega
end
section
theorem oE(g:List Outl→Nat):∀(t:List Outl) (a:Nat),cntGo g t a≤512→(∀o∈t,oneOk o=true∧g o.kids≤512)∧a≤cntGo g t a
 | [],a,h=>⟨fun o ho=>by simp at ho,M0 _⟩
 |o::t,a,h=>by
  rw[cntGo]at h ⊢;by_cases hk:oneOk o=true
  ·rw[L7 hk]at h ⊢;by_cases h5:512<a+g o.kids
   ·rw[L7 h5]at h;omega
   ·rw[K4 h5]at h ⊢;obtain⟨h1,h2⟩:=oE g t _ h;refine⟨fun x hx=>?_,by omega⟩;rcases N0.1 hx with rfl|hx
    ·exact⟨hk,by omega⟩
    ·exact h1 x hx
  ·rw[K4 hk]at h;omega
theorem fP{l:List Outl}(h:cntN 0 l≤512):l=[]:=by
 rw[cntN]at h;by_cases hl:l=[]
 ·exact hl
 ·rw[K4 hl]at h;omega
theorem fQ{f:Nat}{l:List Outl}(h:cntN (f+1) l≤512):(∀o∈l,oneOk o=true∧cntN f o.kids≤512)∧cntGo (cntN f) l l.length=cntN (f+1) l:=by
 rw[cntN]at h ⊢;by_cases hl:512<l.length
 ·rw[L7 hl]at h;omega
 ·rw[K4 hl]at h ⊢;exact⟨(oE _ l _ h).1,rfl⟩
theorem uY(f:Nat)(ih:∀l,cntN f l≤512→(pcs f l).length≤2*cntN f l):∀(t:List Outl) (a:Nat),cntGo (cntN f) t a≤512→(pcs (f+1) t).length+2*a≤2*cntGo (cntN f) t a+2*t.length
 | [],a,_=>by simp[pcs,cntGo]
 |o::t,a,h=>by
  rw[cntGo]at h ⊢;by_cases hk:oneOk o=true
  ·rw[L7 hk]at h ⊢;by_cases h5:512<a+cntN f o.kids
   ·rw[L7 h5]at h;omega
   ·rw[K4 h5]at h ⊢;have h1:=uY f ih t _ h;have h2:=ih o.kids (by omega);have e:(pcs (f+1) (o::t)).length=(pcs f o.kids).length+2+(pcs (f+1) t).length:=by
     rw[pcs,pcs,S6];simp;omega
    rw[e];simp only[L6];omega
  ·rw[K4 hk]at h;omega
theorem qL:∀(f:Nat) (l:List Outl),cntN f l≤512→(pcs f l).length≤2*cntN f l:=by
 intro f;induction f with
 |zero=>intro l h;rw[fP h];simp[pcs]
 |succ f ih=>
  intro l h;obtain⟨_,h1⟩:=fQ h;have:=uY f ih l l.length (by omega);omega
end
section
attribute [local irreducible] WP WPl WPix Sat
variable (G:Nat→Option (List AVal))
theorem qN(g:List Outl→Nat)(f:Nat)(hg:∀l,g l≤512→sameOL f l l=true):∀(t:List Outl) (a:Nat),t.length≤a→cntGo g t a≤512→((t.zip t).all fun p=>decide (p.1.title=p.2.title)&&(decide (p.1.url=p.2.url)&&sameOL f p.1.kids p.2.kids))=true
 | [],a,_,_=>rfl
 |o::t,a,ha,h=>by
  rw[cntGo]at h;simp only[L6]at ha;by_cases hk:oneOk o=true
  ·rw[L7 hk]at h;by_cases h5:512<a+g o.kids
   ·rw[L7 h5]at h;omega
   ·rw[K4 h5]at h;have h1:=qN g f hg t (a+g o.kids) (by omega) h;have h2:=hg o.kids (by omega);rw[List.zip_cons_cons,Z0,h1];simp[h2]
  ·rw[K4 hk]at h;omega
theorem pQ:∀(f:Nat) (l:List Outl),cntN f l≤512→sameOL f l l=true:=by
 intro f;induction f with
 |zero=>
  intro l h;rw[cntN]at h;by_cases hl:l=[]
  ·subst hl;rfl
  ·rw[K4 hl]at h;omega
 |succ f ih=>
  intro l h;rw[cntN]at h;by_cases hl:512<l.length
  ·rw[L7 hl]at h;omega
  ·rw[K4 hl]at h;have:=qN (cntN f) f ih l l.length (M0 _) h;rw[sameOL,this];simp
def bldWR(a:AVal)(q v:Nat)(s:Bs):Blk:=.row 159 2 0 [.agg [a,.hs q v 0 s.length true]]
@[go_sem] theorem AW(a:AVal)(q v:Nat)(s:Bs)(l:Heap):getRow (bldWR a q v s::l) 0 0=some (159,2,[.agg [a,.hs q v 0 s.length true]]):=rfl
theorem pR:ptrConv Tryz.prog 154 214 159 2=true:=by kernel_rfl
theorem mW:ptrConv Tryz.prog 214 154 159 2=true:=by kernel_rfl
attribute [go_sem] pR mW
theorem xf(n p q v:Nat)(s:Bs)(hp:p<n)(hq:q<n):CloB n (bldWR (.hp p 0 0 0) q v s):=by
 intro r hr;simp only[W7]at hr;subst hr;refine .agg _ fun c hc=>?_
 simp only[N0,S5,or_false]at hc;rcases hc with rfl|rfl
 ·exact .hp _ _ _ _ hp
 ·exact .hs _ _ _ _ _ hq
def bldW(h j:Heap)(a:AVal)(v:Nat)(s:Bs):Heap:=h++bldWR a (h.length+1) v s::bufR v s::j
theorem bH(h j:Heap)(a:AVal)(v:Nat)(s:Bs):(bldW h j a v s).length=h.length+(2+j.length):=by simp[bldW];omega
theorem iL(h j:Heap)(a:AVal)(v v':Nat)(s s':Bs):∀(p:Nat) (k:Blk),(bldW h j (.hp h.length 0 0 0) v' s')[p]? =some k→(bldW h j a v s)[p]? =some k∨CloB (bldW h j a v s).length k:=by
 rw[bH];exact xj (xf _ _ _ _ _ (by omega) (by omega)) (iN _ _ _)
theorem lI(a:AVal)(h j:Heap)(v:Nat)(s:Bs)(ha:bldA a h.length):
  Sat (CT G) 137 [.hp h.length 0 0 0] (bldW h j a v s) (fun r h'=>r=.tup []∧h'=bldW h j (.hp h.length 0 0 0) v s):=by
 have hK:=iL h j a v v s s;have hl:=(bH h j (.hp h.length 0 0 0) v s).trans (bH h j a v s).symm;have hfin:∀t',Fin (bldW h j a v s) (bldW h j (.hp h.length 0 0 0) v s) (fun r h'=>r=.tup []∧h'=bldW h j (.hp h.length 0 0 0) v s) t'∨True:=fun _=>.inr trivial
 have end_:Fin (bldW h j a v s) (bldW h j (.hp h.length 0 0 0) v s) (fun r h'=>r=.tup []∧h'=bldW h j (.hp h.length 0 0 0) v s) (.tup []):=Fin.keep0 hl hK (.tup _ (by simp)) ⟨rfl,rfl⟩;clear hfin hK hl;unfold bldW at*;refine sb [] Tryz.func137 ?_;intro Q hQ;(repeat (first|refine w1 (fun K hK=>?_)|refine w2 ?_|refine w3 ?_| ((first|refine w4 ?_|refine wD ?_|refine w5 ?_|refine w6 ?_|refine w7 ?_);try refine bg trivial ?_)| (refine w8 ?_;refine bg trivial ?_;refine w9 ?_)| ((first|refine hK _ _ (w0 ?_)| (clear hK K;refine hK _ _ (w0 ?_))| (clear hK K;clear hK K;refine hK _ _ (w0 ?_)));clear hK K)))
 rcases ha with rfl|rfl
 ·rw[lR,qn];simp(disch:=first|omega| (simp only[go_sem, ↓reduceIte,Nat.reduceEqDiff];done)|fail) only[go_sem, ↓reduceIte,Int.reduceToNat,Int.reduceLE,Int.reduceLT,Int.reduceSub,Int.reduceAdd,Nat.reduceEqDiff,Nat.reduceAdd,Nat.reduceLeDiff,Nat.reduceLT,Nat.reduceMul,Nat.reduceSub];(repeat (first|refine w1 (fun K hK=>?_)|refine w2 ?_|refine w3 ?_| ((first|refine w4 ?_|refine wD ?_|refine w5 ?_|refine w6 ?_|refine w7 ?_);try refine bg trivial ?_)| (refine w8 ?_;refine bg trivial ?_;refine w9 ?_)| ((first|refine hK _ _ (w0 ?_)| (clear hK K;refine hK _ _ (w0 ?_))| (clear hK K;clear hK K;refine hK _ _ (w0 ?_)));clear hK K)))
  refine⟨by simp,?_⟩;refine(fp G _ _).mono ?_;rintro r h' ⟨rfl,rfl⟩;simp(disch:=first|omega| (simp only[go_sem, ↓reduceIte,Nat.reduceEqDiff];done)|fail) only[go_sem, ↓reduceIte,Int.reduceToNat,Int.reduceLE,Int.reduceLT,Int.reduceSub,Int.reduceAdd,Nat.reduceEqDiff,Nat.reduceAdd,Nat.reduceLeDiff,Nat.reduceLT,Nat.reduceMul,Nat.reduceSub,List.cons_ne_nil];refine(hQ _ _ ?_).2;simp(disch:=first|omega| (simp only[go_sem, ↓reduceIte,Nat.reduceEqDiff];done)|fail) only[go_sem, ↓reduceIte,Int.reduceToNat,Int.reduceLE,Int.reduceLT,Int.reduceSub,Int.reduceAdd,Nat.reduceEqDiff,Nat.reduceAdd,Nat.reduceLeDiff,Nat.reduceLT,Nat.reduceMul,Nat.reduceSub];exact end_
 ·rw[nu,mi _ _ _ (by simp(disch:=first|omega| (simp only[go_sem, ↓reduceIte,Nat.reduceEqDiff];done)|fail) only[go_sem, ↓reduceIte,Int.reduceToNat,Int.reduceLE,Int.reduceLT,Int.reduceSub,Int.reduceAdd,Nat.reduceEqDiff,Nat.reduceAdd,Nat.reduceLeDiff,Nat.reduceLT,Nat.reduceMul,Nat.reduceSub];rfl)];simp(disch:=first|omega| (simp only[go_sem, ↓reduceIte,Nat.reduceEqDiff];done)|fail) only[go_sem, ↓reduceIte,Int.reduceToNat,Int.reduceLE,Int.reduceLT,Int.reduceSub,Int.reduceAdd,Nat.reduceEqDiff,Nat.reduceAdd,Nat.reduceLeDiff,Nat.reduceLT,Nat.reduceMul,Nat.reduceSub];(repeat (first|refine w1 (fun K hK=>?_)|refine w2 ?_|refine w3 ?_| ((first|refine w4 ?_|refine wD ?_|refine w5 ?_|refine w6 ?_|refine w7 ?_);try refine bg trivial ?_)| (refine w8 ?_;refine bg trivial ?_;refine w9 ?_)| ((first|refine hK _ _ (w0 ?_)| (clear hK K;refine hK _ _ (w0 ?_))| (clear hK K;clear hK K;refine hK _ _ (w0 ?_)));clear hK K)))
  rw[nM _ _ (by exact bv trivial)];simp(disch:=first|omega| (simp only[go_sem, ↓reduceIte,Nat.reduceEqDiff];done)|fail) only[go_sem, ↓reduceIte,Int.reduceToNat,Int.reduceLE,Int.reduceLT,Int.reduceSub,Int.reduceAdd,Nat.reduceEqDiff,Nat.reduceAdd,Nat.reduceLeDiff,Nat.reduceLT,Nat.reduceMul,Nat.reduceSub];(repeat (first|refine w1 (fun K hK=>?_)|refine w2 ?_|refine w3 ?_| ((first|refine w4 ?_|refine wD ?_|refine w5 ?_|refine w6 ?_|refine w7 ?_);try refine bg trivial ?_)| (refine w8 ?_;refine bg trivial ?_;refine w9 ?_)| ((first|refine hK _ _ (w0 ?_)| (clear hK K;refine hK _ _ (w0 ?_))| (clear hK K;clear hK K;refine hK _ _ (w0 ?_)));clear hK K)))
  refine(hQ _ _ ?_).2;simp(disch:=first|omega| (simp only[go_sem, ↓reduceIte,Nat.reduceEqDiff];done)|fail) only[go_sem, ↓reduceIte,Int.reduceToNat,Int.reduceLE,Int.reduceLT,Int.reduceSub,Int.reduceAdd,Nat.reduceEqDiff,Nat.reduceAdd,Nat.reduceLeDiff,Nat.reduceLT,Nat.reduceMul,Nat.reduceSub];exact end_
theorem bu(a:AVal)(h j:Heap)(v:Nat)(s x:Bs)(ha:bldA a h.length)(hs:s.length+x.length≤1073741824):
  Sat (CT G) 99 [.hp h.length 0 0 0,.str x] (bldW h j a v s) (fun r h'=>r=.tup [.int .i64 x.length,.nil .nilIface]∧h'=bldW h j (.hp h.length 0 0 0) (v+1) (s++x)):=by
 have end_:Fin (bldW h j a v s) (bldW h j (.hp h.length 0 0 0) (v+1) (s++x)) (fun r h'=>r=.tup [.int .i64 x.length,.nil .nilIface]∧h'=bldW h j (.hp h.length 0 0 0) (v+1) (s++x)) (.tup [.int .i64 x.length,.nil .nilIface]):=
  Fin.keep0 ((bH ..).trans (bH ..).symm) (iL _ _ _ _ _ _ _) (.tup _ (by intro c hc;simp at hc;rcases hc with rfl|rfl;exact .int _ _;exact .nil _)) ⟨rfl,rfl⟩
 refine sb [.tmp 4,.tmp 5] Tryz.func99 ?_;intro Q hQ;refine aA trivial ?_;refine(lI G a h j v s ha).mono ?_;rintro r h' ⟨rfl,rfl⟩;unfold bldW at*;try refine bg trivial ?_
 refine aA trivial ?_;refine bF (.inr (by exact bv trivial)) (by exact bv trivial) (by exact bv trivial) cA eG (by omega) (mj _ x) (by simp(disch:=first|omega| (simp only[go_sem, ↓reduceIte,Nat.reduceEqDiff];done)|fail) only[go_sem, ↓reduceIte,Int.reduceToNat,Int.reduceLE,Int.reduceLT,Int.reduceSub,Int.reduceAdd,Nat.reduceEqDiff,Nat.reduceAdd,Nat.reduceLeDiff,Nat.reduceLT,Nat.reduceMul,Nat.reduceSub,b8];rfl) (by simp) ?_ ?_
 ·simp[maxLen];omega
 simp(disch:=first|omega| (simp only[go_sem, ↓reduceIte,Nat.reduceEqDiff];done)|fail) only[go_sem, ↓reduceIte,Int.reduceToNat,Int.reduceLE,Int.reduceLT,Int.reduceSub,Int.reduceAdd,Nat.reduceEqDiff,Nat.reduceAdd,Nat.reduceLeDiff,Nat.reduceLT,Nat.reduceMul,Nat.reduceSub];refine aA trivial ?_;refine(hQ _ _ ?_).1;simp(disch:=first|omega| (simp only[go_sem, ↓reduceIte,Nat.reduceEqDiff];done)|fail) only[go_sem, ↓reduceIte,Int.reduceToNat,Int.reduceLE,Int.reduceLT,Int.reduceSub,Int.reduceAdd,Nat.reduceEqDiff,Nat.reduceAdd,Nat.reduceLeDiff,Nat.reduceLT,Nat.reduceMul,Nat.reduceSub];simp only[bldWR,bufR,K7,P2,L5]at end_ ⊢;exact end_
theorem pS(a:AVal)(h j:Heap)(v:Nat)(s:Bs):Sat (CT G) 101 [.hp h.length 0 0 0] (bldW h j a v s) (fun r h'=>r=.str s∧∃b,h'=h++bldWR a (h.length+1) v s::b::j):=by
 unfold bldW;have F:= @b8;refine sb [.tmp 2] Tryz.func101 ?_;intro Q hQ;refine aA F ?_;have fin:∀b,Fin (h++bldWR a (h.length+1) v s::bufR v s::j) (h++bldWR a (h.length+1) v s::b::j) (fun r h'=>r=.str s∧∃b,h'=h++bldWR a (h.length+1) v s::b::j) (.str s)∨¬(b=bufR v s∨b=.dead):=fun b=>by
  by_cases hb:b=bufR v s∨b=.dead
  ·refine .inl (Fin.keep0 (by simp) (fun p k hk=>?_) (.str _) ⟨rfl,b,rfl⟩);rcases T3 p h.length with h1|h1
   ·rw[L9 h1]at hk ⊢;exact .inl hk
   ·rw[M1 h1]at hk ⊢
    match p-h.length,hk with
    |0,hk=>exact .inl (by simpa using hk)
    |1,hk=>
     simp at hk;subst hk;rcases hb with rfl|rfl
     ·exact .inl (by simp)
     ·exact .inr trivial
    |i+2,hk=>exact .inl (by simpa using hk)
  ·exact .inr hb
 rcases Nat.eq_zero_or_pos s.length with h0|h0
 ·have hs:s=[]:=Q2.1 h0;subst hs;simp(disch:=first|omega| (simp only[go_sem, ↓reduceIte,Nat.reduceEqDiff];done)|fail) only[go_sem, ↓reduceIte,Int.reduceToNat,Int.reduceLE,Int.reduceLT,Int.reduceSub,Int.reduceAdd,Nat.reduceEqDiff,Nat.reduceAdd,Nat.reduceLeDiff,Nat.reduceLT,Nat.reduceMul,Nat.reduceSub,F,M9,Nat.lt_irrefl,Int.natCast_zero];refine aA F ?_;refine cn hQ F ?_;rcases fin (bufR v [])with f|f
  ·exact f
  ·exact absurd (.inl rfl) f
 ·simp(disch:=first|omega| (simp only[go_sem, ↓reduceIte,Nat.reduceEqDiff];done)|fail) only[go_sem, ↓reduceIte,Int.reduceToNat,Int.reduceLE,Int.reduceLT,Int.reduceSub,Int.reduceAdd,Nat.reduceEqDiff,Nat.reduceAdd,Nat.reduceLeDiff,Nat.reduceLT,Nat.reduceMul,Nat.reduceSub,F,h0];refine nv h0 (by simp(disch:=first|omega| (simp only[go_sem, ↓reduceIte,Nat.reduceEqDiff];done)|fail) only[go_sem, ↓reduceIte,Int.reduceToNat,Int.reduceLE,Int.reduceLT,Int.reduceSub,Int.reduceAdd,Nat.reduceEqDiff,Nat.reduceAdd,Nat.reduceLeDiff,Nat.reduceLT,Nat.reduceMul,Nat.reduceSub,F];rfl) tJ (by simp) (by rw[M4 (by simp)];exact dC s) ?_;try refine bg F ?_
  refine aA F ?_;refine cn hQ F ?_;rcases fin .dead with f|f
  ·exact f
  ·exact absurd (.inr rfl) f
theorem oI{s:Bs}{k:Nat}{y:UInt8}(hy:s[k]? =some y){e:Bs}(he:escB y=e):escF (s.take (k+1))=escF (s.take k)++e:=by
 rw[O7,hy, ← he];exact uW _ _
theorem oJ(s:Bs)(k:Nat):(escF (s.take k)).length≤6*s.length:=by
 have h1:=(cI (s.take k)).1;have h2:(s.take k).length≤s.length:=by rw[O3];omega
 omega
theorem yx{y:UInt8}{k:Nat}(hk:k<256)(h:(y.toNat:Int)=(k:Int)):y=UInt8.ofNat k:=by
 apply UInt8.toNat_inj.1
 rw[UInt8.toNat_ofNat',Nat.mod_eq_of_lt hk];omega
theorem cU{y:UInt8}{e:Bs}(k:Nat)(hk:k<256)(h:(y.toNat:Int)=(k:Int))(he:escB (UInt8.ofNat k)=e):escB y=e:=by rw[yx hk h];exact he
theorem gG{y:UInt8}{k:Nat}(hk:k<256)(h:¬(y.toNat:Int)=(k:Int)):y≠UInt8.ofNat k:=by
 rintro rfl
 apply h
 rw[UInt8.toNat_ofNat',Nat.mod_eq_of_lt hk]
theorem v6{y:UInt8}(c1:¬(y.toNat:Int)=38)(c2:¬(y.toNat:Int)=60)(c3:¬(y.toNat:Int)=62)(c4:¬(y.toNat:Int)=34)(c5:¬(y.toNat:Int)=39):escB y=[y]:=by
 have h1:y≠38:=gG (k:=38) (by omega) c1;have h2:y≠60:=gG (k:=60) (by omega) c2;have h3:y≠62:=gG (k:=62) (by omega) c3;have h4:y≠34:=gG (k:=34) (by omega) c4;have h5:y≠39:=gG (k:=39) (by omega) c5;unfold escB;rw[K4 h1,K4 h2,K4 h3,K4 h4,K4 h5]
theorem kT(s:Bs)(hs:s.length≤1048576)(h:Heap):Sat (CT G) 138 [.str s] h (fun r h'=>r=.str (escF s)∧h'=h):=by
 refine sb [.tmp 2] Tryz.func138 ?_;intro Q hQ;refine wk trivial ?_;refine lm (fun nL tL hL=>∃(k v:Nat) (a:AVal),s.length-k=nL∧bldH h [] a v (escF (s.take k))=hL∧tL 7=.int .i64 k∧bldA a h.length∧k≤s.length) ((fun(k v:Nat) (a:AVal)=>(s.length-k:Nat)) (0) (0) ((.nil (.pointer none)))) ?_ ?_
 ·refine⟨_,_,Weak.virtCell (p:=h.length) (v:=0) 5 1 (by omega) (by simp(disch:=first|omega| (simp only[go_sem, ↓reduceIte,seval];first|done|omega)|fail) only[go_sem, ↓reduceIte,seval];rfl) 1 rfl,⟨0,0,(.nil (.pointer none)),rfl,aw,?_,.inl rfl,by omega⟩⟩;all_goals try exact zZz trivial
 rintro _ s2 h' ⟨k,v,a,rfl,rfl,e7,ha,hk⟩ K2 hK2;simp only[ah,ao,Nat.reduceEqDiff, ↓reduceIte]at e7;have F:=e7;have hel:=oJ s k;refine wk F ?_;refine cq F (fun c0=>?_) (fun c0=>?_)<;>(try exact c0.elim)<;>(refine wk F ?_)
 ·obtain⟨y,hy,hym⟩:=ac c0;have nx:= @oI s k y hy;have F:=F2 F hy;try refine sq F ?_
  refine wk F ?_;refine cq F (fun c1=>?_) (fun c1=>?_)<;>(try exact c1.elim)<;>(refine wk F ?_)
  ·refine kq F (bw G a h [] v (escF (s.take k)) [38,97,109,112,59] ha (by simp;omega)) ?_;refine hK2 _ _ _ (L8 ⟨k+1,v+1,(.hp h.length 0 0 0),rfl,by rw[@nx [38,97,109,112,59] (cU 38 (by omega) c1 rfl)],?_,.inr rfl,by omega⟩) (by omega);all_goals try exact zZz F
  refine cq F (fun c2=>?_) (fun c2=>?_)<;>(try exact c2.elim)<;>(refine wk F ?_)
  ·refine kq F (bw G a h [] v (escF (s.take k)) [38,108,116,59] ha (by simp;omega)) ?_;refine hK2 _ _ _ (L8 ⟨k+1,v+1,(.hp h.length 0 0 0),rfl,by rw[@nx [38,108,116,59] (cU 60 (by omega) c2 rfl)],?_,.inr rfl,by omega⟩) (by omega);all_goals try exact zZz F
  refine cq F (fun c3=>?_) (fun c3=>?_)<;>(try exact c3.elim)<;>(refine wk F ?_)
  ·refine kq F (bw G a h [] v (escF (s.take k)) [38,103,116,59] ha (by simp;omega)) ?_;refine hK2 _ _ _ (L8 ⟨k+1,v+1,(.hp h.length 0 0 0),rfl,by rw[@nx [38,103,116,59] (cU 62 (by omega) c3 rfl)],?_,.inr rfl,by omega⟩) (by omega);all_goals try exact zZz F
  refine cq F (fun c4=>?_) (fun c4=>?_)<;>(try exact c4.elim)<;>(refine wk F ?_)
  ·refine kq F (bw G a h [] v (escF (s.take k)) [38,113,117,111,116,59] ha (by simp;omega)) ?_;refine hK2 _ _ _ (L8 ⟨k+1,v+1,(.hp h.length 0 0 0),rfl,by rw[@nx [38,113,117,111,116,59] (cU 34 (by omega) c4 rfl)],?_,.inr rfl,by omega⟩) (by omega);all_goals try exact zZz F
  refine cq F (fun c5=>?_) (fun c5=>?_)<;>(try exact c5.elim)<;>(refine wk F ?_)
  ·refine kq F (bw G a h [] v (escF (s.take k)) [38,97,112,111,115,59] ha (by simp;omega)) ?_;refine hK2 _ _ _ (L8 ⟨k+1,v+1,(.hp h.length 0 0 0),rfl,by rw[@nx [38,97,112,111,115,59] (cU 39 (by omega) c5 rfl)],?_,.inr rfl,by omega⟩) (by omega);all_goals try exact zZz F
  ·have e:=v6 c1 c2 c3 c4 c5;refine kq F (ia G a h [] v (escF (s.take k)) y ha (by omega)) ?_;refine hK2 _ _ _ (L8 ⟨k+1,v+1,(.hp h.length 0 0 0),rfl,by rw[nx e],?_,.inr rfl,by omega⟩) (by omega);all_goals try exact zZz F
 ·have e:s.take k=s:=M4 (by omega);refine(gP G a h [] v (escF (s.take k))).mono ?_;rintro r h' ⟨rfl,b2,rfl⟩;try refine sq F ?_
  refine wk F ?_;refine ee hQ F ?_;exact Fin.plainE (j:=[bldR a (h.length+1) v (escF (s.take k)),b2]) (by simp) (.str _) ⟨by rw[e],rfl⟩
theorem jk(s:Bs)(hs:s.length≤1048576)(h:Heap):Sat (CT G) 102 [.str s] h (fun r h'=>r=.str (escF s)∧h'=h):=by
 refine sb [.tmp 2] Tryz.func102 ?_;intro Q hQ;refine wk trivial ?_;refine lm (fun nL tL hL=>∃(k:Nat),s.length-k=nL∧h=hL∧tL 3=.str (escF (s.take k))∧tL 4=.int .i64 k∧k≤s.length) ((fun(k:Nat)=>(s.length-k:Nat)) (0)) ?_ ?_
 ·refine L8 ⟨0,rfl,aw,?_,?_,by omega⟩;all_goals try exact zZz trivial
 rintro _ s2 h' ⟨k,rfl,rfl,e3,e4,hk⟩ K2 hK2;simp only[ah,ao,Nat.reduceEqDiff, ↓reduceIte]at e3 e4;have F:=F2 e3 e4;have hel:=oJ s k;refine wk F ?_;refine cq F (fun c0=>?_) (fun c0=>?_)<;>(try exact c0.elim)<;>(refine wk F ?_)
 ·obtain⟨y,hy,hym⟩:=ac c0;have nx:= @oI s k y hy;have hsl:(s.take (k+1)).drop k=[y]:=by rw[O7,hy,List.drop_append_of_le_length (by rw[O3];omega),X8 (by rw[O3];omega)];rfl
  have F:=F2 F hy;try refine sq F ?_
  refine wk F ?_;refine cq F (fun c1=>?_) (fun c1=>?_)<;>(try exact c1.elim)<;>(refine wk F ?_)
  ·rw[← @nx [38,97,109,112,59] (cU 38 (by omega) c1 rfl)];refine hK2 _ _ _ (L8 ⟨k+1,rfl,aw,?_,?_,by omega⟩) (by omega);all_goals try exact zZz F
  refine cq F (fun c2=>?_) (fun c2=>?_)<;>(try exact c2.elim)<;>(refine wk F ?_)
  ·rw[← @nx [38,108,116,59] (cU 60 (by omega) c2 rfl)];refine hK2 _ _ _ (L8 ⟨k+1,rfl,aw,?_,?_,by omega⟩) (by omega);all_goals try exact zZz F
  refine cq F (fun c3=>?_) (fun c3=>?_)<;>(try exact c3.elim)<;>(refine wk F ?_)
  ·rw[← @nx [38,103,116,59] (cU 62 (by omega) c3 rfl)];refine hK2 _ _ _ (L8 ⟨k+1,rfl,aw,?_,?_,by omega⟩) (by omega);all_goals try exact zZz F
  refine cq F (fun c4=>?_) (fun c4=>?_)<;>(try exact c4.elim)<;>(refine wk F ?_)
  ·rw[← @nx [38,113,117,111,116,59] (cU 34 (by omega) c4 rfl)];refine hK2 _ _ _ (L8 ⟨k+1,rfl,aw,?_,?_,by omega⟩) (by omega);all_goals try exact zZz F
  refine cq F (fun c5=>?_) (fun c5=>?_)<;>(try exact c5.elim)<;>(refine wk F ?_)
  ·rw[← @nx [38,97,112,111,115,59] (cU 39 (by omega) c5 rfl)];refine hK2 _ _ _ (L8 ⟨k+1,rfl,aw,?_,?_,by omega⟩) (by omega);all_goals try exact zZz F
  ·have e:=v6 c1 c2 c3 c4 c5;rw[hsl,L7 (by simp only[L6,M9];omega), ← nx e];(try refine sq F ?_);refine wk F ?_;refine hK2 _ _ _ (L8 ⟨k+1,rfl,aw,?_,?_,by omega⟩) (by omega);all_goals try exact zZz F
 ·have e:s.take k=s:=M4 (by omega);rw[e];refine ee hQ F ?_;refine fR (.str _) ?_;rfl
def wrF(f:Nat)(l:List Outl):Bs:=(pcs f l).flatMap (·.1)
def wrG(g:Outl→Bs)(l:List Outl):Bs:=l.flatMap fun o=>opB o++(g o++q4)
theorem hZ(f:Nat)(l:List Outl):wrF (f+1) l=wrG (fun o=>wrF f o.kids) l:=by
 unfold wrF wrG;rw[pcs,List.flatMap_assoc];congr 1
 funext o
 simp[wrF]
theorem oK{g:Outl→Bs}{l:List Outl}{k:Nat}{o:Outl}(hy:l[k]? =some o):wrG g (l.take (k+1))=wrG g (l.take k)++(opB o++(g o++q4)):=by
 rw[O7,hy];simp[wrG]
theorem kU(g:Outl→Bs)(l:List Outl)(k:Nat):(wrG g (l.take k)).length≤(wrG g l).length:=by
 have:wrG g l=wrG g (l.take k)++wrG g (l.drop k):=by
  unfold wrG;rw[← List.flatMap_append,W4]
 rw[this,K7];omega
theorem qO(g:Outl→Bs):∀{l:List Outl} {o:Outl},o∈l→(g o).length≤(wrG g l).length
 |x::l,o,h=>by
  have e:wrG g (x::l)=opB x++(g x++q4)++wrG g l:=by simp[wrG]
  rw[e,K7,K7,K7];rcases N0.1 h with rfl|h
  ·omega
  ·have:=qO g h;omega
theorem lJ(o:Outl):(opB o).length=17+(escF o.title).length+(if o.url=[]then 0 else 10+(escF o.url).length):=by
 unfold opB;split<;>simp[q1,q2,q3]<;>omega
theorem qP:∀(f:Nat) (l:List Outl),(wrF f l).length≤6*szs Outl.sz l+31*(pcs f l).length:=by
 intro f;induction f with
 |zero=>intro l;simp[wrF,pcs]
 |succ f ih=>
  intro l;induction l with
  |nil=>simp[wrF,pcs]
  |cons o l ihl=>
   have e1:wrF (f+1) (o::l)=opB o++(wrF f o.kids++q4)++wrF (f+1) l:=(by rw[hZ,hZ];simp[wrG]);have e2:(pcs (f+1) (o::l)).length=(pcs f o.kids).length+2+(pcs (f+1) l).length:=(by rw[pcs,pcs,S6];simp;omega);have h1:=lJ o;have h2:=cI o.title;have h3:=cI o.url;have h4:=ih o.kids;have h5:=o.sz_eq;have h6:(opB o).length≤27+(escF o.title).length+(escF o.url).length:=(by rw[h1];split<;>omega);rw[e1,e2,szs];simp only[K7,show q4.length=10 from rfl];omega
theorem qQ(f:Nat)(l:List Outl):docF f l=(q5++q6)++wrF f l++(q7++q8):=by
 unfold docF docP wrF;simp
theorem jl(g:Outl→Bs)(l:List Outl)(hs:szs Outl.sz l≤1048576)(hB:(wrG g l).length≤1048576)(ih:∀o∈l,∀h,Sat (CT G) 52 [.sl 3 (o.kids.map Outl.av)] h (fun r h'=>r=.str (g o)∧h'=h))(h:Heap):
  Sat (CT G) 52 [.sl 3 (l.map Outl.av)] h (fun r h'=>r=.str (wrG g l)∧h'=h):=by
 have hlm:(l.map Outl.av).length=l.length:=L5 ..;have hll:=cX l;have F:=hlm;refine sb [.tmp 2] Tryz.func52 ?_;intro Q hQ;refine wk F ?_;refine lm (fun nL tL hL=>∃(k:Nat),l.length-k=nL∧h=hL∧tL 3=.str (wrG g (l.take k))∧tL 4=.int .i64 k∧k≤l.length) ((fun(k:Nat)=>(l.length-k:Nat)) (0)) ?_ ?_
 ·refine L8 ⟨0,rfl,aw,?_,?_,by omega⟩;all_goals try exact zZz F
 rintro _ s2 h' ⟨k,rfl,rfl,e3,e4,hk⟩ K2 hK2;simp only[ah,ao,Nat.reduceEqDiff, ↓reduceIte]at e3 e4;have F:=F3 F e3 e4;have hle:=kU g l k;have hle1:=kU g l (k+1);refine wk F ?_;refine cq F (fun c0=>?_) (fun c0=>?_)<;>(try exact c0.elim)<;>(refine wk F ?_)
 ·obtain⟨y,hy,hym⟩:=ac c0;have hyv:(l.map Outl.av)[k]? =some y.av:=by rw[M5,hy];rfl
  have nx:= @oK g l k y hy;have hys:=dM Outl.sz hym;have hyz:=y.sz_eq;have h2:=cI y.title;have h3:=cI y.url;rw[nx,K7,K7,K7,lJ]at hle1;have lq:q4.length=10:=rfl;have F:=F2 F hy;try refine sq F ?_
  refine wk F ?_;refine kq F (jk G y.title (by omega) _) ?_;refine cq F (fun c1=>?_) (fun c1=>?_)<;>(try exact c1.elim)<;>(refine wk F ?_)
  ·refine kq F (jk G y.url (by omega) _) ?_;rw[K4 c1]at hle1;refine kq F (ih y hym _) ?_;refine hK2 _ _ _ (L8 ⟨k+1,rfl,aw,?_,?_,by omega⟩) (by omega);(all_goals try exact zZz F);(try refine sq F ?_);rw[nx];unfold opB;rw[K4 c1];simp[q1,q2,q3,q4]
  ·rw[L7 c1]at hle1;refine kq F (ih y hym _) ?_;refine hK2 _ _ _ (L8 ⟨k+1,rfl,aw,?_,?_,by omega⟩) (by omega);(all_goals try exact zZz F);(try refine sq F ?_);rw[nx];unfold opB;rw[L7 c1];simp[q1,q3,q4]
 ·have e:l.take k=l:=M4 (by omega);refine wk F ?_;refine ee hQ F ?_;refine fR (.str _) ?_;rw[e]
theorem t7:∀(f:Nat) (l:List Outl),cntN f l≤512→szs Outl.sz l≤1048576→(wrF f l).length≤1048576→∀h:Heap,Sat (CT G) 52 [.sl 3 (l.map Outl.av)] h (fun r h'=>r=.str (wrF f l)∧h'=h):=by
 intro f;induction f with
 |zero=>
  intro l hc hs hw h;have e:=fP hc;subst e;exact jl G (fun _=>[]) [] hs (by simp[wrG]) (fun o ho=>by simp at ho) h
 |succ f ih=>
  intro l hc hs hw h;rw[hZ]at hw ⊢;refine jl G _ l hs hw (fun o ho h=>?_) h;have h1:=dM Outl.sz ho;have h2:=o.sz_eq;have h3:=qO (fun o=>wrF f o.kids) ho;exact ih o.kids ((fQ hc).1 o ho).2 (by omega) (by omega) h
theorem pT(l:List Outl)(hc:okOl l=true)(hs:szs Outl.sz l≤1048576)(hw:(wrF 8 l).length≤1000000)(h:Heap):Sat (CT G) 22 [.sl 3 (l.map Outl.av)] h (fun r h'=>r=.str (docF 8 l)∧h'=h):=by
 have hc:=R8 hc;refine sb [.tmp 2] Tryz.func22 ?_;intro Q hQ;refine wk trivial ?_;refine kq trivial (t7 G 8 l hc hs (by omega) _) ?_;refine ee hQ trivial ?_;refine fR (.str _) ?_;rw[qQ];simp[q5,q6,q7,q8]
attribute [go_sem] bH
theorem ed(h j l:Heap)(a:AVal)(v:Nat)(s:Bs):bldW h j a v s++l=bldW h (j++l) a v s:=by simp[bldW]
@[go_sem] theorem An(h j l:Heap)(a:AVal)(v u n:Nat)(s:Bs)(hn:j.length=n):getRow (bldW h j a v s++l) (h.length+(2+n)) u=getRow l 0 u:=by
 rw[← hn, ← bH h j a v s];exact fV _ l u
@[go_sem] theorem Ed(h j l:Heap)(a:AVal)(v n:Nat)(s:Bs)(x:Blk)(hn:j.length=n):(bldW h j a v s++l).set (h.length+(2+n)) x=bldW h j a v s++l.set 0 x:=by
 rw[← hn, ← bH h j a v s];exact nw _ l x
@[go_sem] theorem oL(h j:Heap)(a:AVal)(v:Nat)(s:Bs):getRow (bldW h j a v s) h.length 0=some (159,2,[.agg [a,.hs (h.length+1) v 0 s.length true]]):=by
 unfold bldW;exact fV _ _ _
@[go_sem] theorem Ao(h j l:Heap)(a:AVal)(v:Nat)(s:Bs):getRow (bldW h j a v s++l) h.length 0=some (159,2,[.agg [a,.hs (h.length+1) v 0 s.length true]]):=by
 rw[ed];exact oL ..
theorem xw{h j l:Heap}{a:AVal}{v:Nat}{s:Bs}(x:Bs)(ha:bldA a h.length)(hs:s.length+x.length≤1073741824):
  Sat (CT G) 99 [.hp h.length 0 0 0,.str x] (bldW h j a v s++l) (fun r h'=>r=.tup [.int .i64 x.length,.nil .nilIface]∧h'=bldW h j (.hp h.length 0 0 0) (v+1) (s++x)++l):=by
 rw[ed,ed];exact bu G a h (j++l) v s x ha hs
def AllR(h j:Heap)(s:Bs)(r:AVal)(h':Heap):Prop:=r=.tup []∧∃a v,bldA a h.length∧h'=bldW h j a v s
theorem yy{h j jj:Heap}{a a1:AVal}{v v1:Nat}{s s1:Bs}(ha:bldA a1 h.length)(hq:a1=a∧v1=v∧s1=s∨a1=.hp h.length 0 0 0):Fin (bldW h j a v s) (bldW h (j++jj) a1 v1 s1) (AllR h j s1) (.tup []):=by
 rw[← ed];refine Fin.keep ((bH ..).trans (bH ..).symm) ?_ (.tup _ (by simp)) ⟨rfl,a1,v1,ha,rfl⟩;rcases hq with⟨rfl,rfl,rfl⟩|rfl
 ·exact fun p k hk=>.inl hk
 ·exact iL _ _ _ _ _ _ _
theorem mK(g:Outl→Bs)(l:List Outl)(hs:szs Outl.sz l≤1048576)(ih:∀o∈l,∀(h j:Heap) (a:AVal) (v:Nat) (s:Bs),bldA a h.length→s.length+(g o).length≤8388608→Sat (CT G) 100 [.hp h.length 0 0 0,.sl 3 (o.kids.map Outl.av)] (bldW h j a v s) (AllR h j (s++g o)))
  (h j:Heap)(a:AVal)(v:Nat)(s:Bs)(ha:bldA a h.length)(hB:s.length+(wrG g l).length≤8388608):Sat (CT G) 100 [.hp h.length 0 0 0,.sl 3 (l.map Outl.av)] (bldW h j a v s) (AllR h j (s++wrG g l)):=by
 have hlm:(l.map Outl.av).length=l.length:=L5 ..;have hll:=cX l;have F:=hlm
 skip
 refine sb [] Tryz.func100 ?_;intro Q hQ;refine wn F ?_;refine lm (fun nL tL hL=>∃(k u:Nat) (b:AVal) (jj:Heap),l.length-k=nL∧bldW h (j++jj) b u (s++wrG g (l.take k))=hL∧tL 8=.int .i64 k∧bldA b h.length∧(b=a∧u=v∧s++wrG g (l.take k)=s∨b=.hp h.length 0 0 0)∧k≤l.length) ((fun(k u:Nat) (b:AVal) (jj:Heap)=>(l.length-k:Nat)) (0) (v) (a) ([])) ?_ ?_
 ·refine L8 ⟨0,v,a,[],rfl,by simp[wrG],?_,ha,.inl ⟨rfl,rfl,by simp[wrG]⟩,by omega⟩;all_goals try exact zZz F
 rintro _ s2 h' ⟨k,u,b,jj,rfl,rfl,e8,hb,hq,hk⟩ K2 hK2;simp only[ah,ao,Nat.reduceEqDiff, ↓reduceIte]at e8;have F:=F2 F e8;have hle:=kU g l k;have hle1:=kU g l (k+1);refine wn F ?_;refine cq F (fun c0=>?_) (fun c0=>?_)<;>(try exact c0.elim)<;>(refine wn F ?_)
 ·obtain⟨y,hy,hym⟩:=ac c0;have hyv:(l.map Outl.av)[k]? =some y.av:=by rw[M5,hy];rfl
  have nx:= @oK g l k y hy;have hys:=dM Outl.sz hym;have hyz:=y.sz_eq;have h2:=cI y.title;have h3:=cI y.url;rw[nx,K7,K7,K7,lJ]at hle1;have lq:q4.length=10:=rfl;have F:=F2 F hy;try refine sq F ?_
  refine wn F ?_;refine l8 7 (by kernel_rfl) ?_;refine sq F ?_;refine wn F ?_;refine aG (kT G y.title (by omega) _) ?_;try refine sq F ?_
  refine wn F ?_;refine kn F (xw G _ hb (by simp only[K7,L6,M9];omega)) ?_;refine cq F (fun c1=>?_) (fun c1=>?_)<;>(try exact c1.elim)<;>(refine wn F ?_)
  ·rw[K4 c1]at hle1;refine l8 7 (by kernel_rfl) ?_;refine sq F ?_;refine wn F ?_;refine aG (kT G y.url (by omega) _) ?_;(try refine sq F ?_);refine wn F ?_;refine kn F (xw G _ (.inr rfl) (by simp only[K7,L6,M9];omega)) ?_;refine kn F (xw G _ (.inr rfl) (by simp only[K7,L6,M9];omega)) ?_;rw[ed];refine(ih y hym h _ _ _ _ (.inr rfl) (by simp only[K7,L6,M9];omega)).mono ?_;rintro r h' ⟨rfl,a1,u1,ha1,rfl⟩;(try refine sq F ?_);refine wn F ?_;refine kn F (bu G a1 h _ u1 _ _ ha1 (by simp only[K7,L6,M9];omega)) ?_;refine hK2 _ _ _ (L8 ⟨k+1,u1+1,(.hp h.length 0 0 0),jj++[.row 55 3 0 [y.av]],rfl,by rw[nx];unfold opB;rw[K4 c1];simp[q1,q2,q3,q4],?_,.inr rfl,.inr rfl,by omega⟩) (by omega);all_goals try exact zZz F
  ·rw[L7 c1]at hle1;refine kn F (xw G _ (.inr rfl) (by simp only[K7,L6,M9];omega)) ?_;rw[ed];refine(ih y hym h _ _ _ _ (.inr rfl) (by simp only[K7,L6,M9];omega)).mono ?_;rintro r h' ⟨rfl,a1,u1,ha1,rfl⟩;(try refine sq F ?_);refine wn F ?_;refine kn F (bu G a1 h _ u1 _ _ ha1 (by simp only[K7,L6,M9];omega)) ?_;refine hK2 _ _ _ (L8 ⟨k+1,u1+1,(.hp h.length 0 0 0),jj++[.row 55 3 0 [y.av]],rfl,by rw[nx];unfold opB;rw[L7 c1];simp[q1,q2,q3,q4],?_,.inr rfl,.inr rfl,by omega⟩) (by omega);all_goals try exact zZz F
 ·have e:l.take k=l:=M4 (by omega);refine wn F ?_;refine ee hQ F ?_;rw[e]at hq ⊢;exact yy hb hq
theorem xg:∀(f:Nat) (l:List Outl),cntN f l≤512→szs Outl.sz l≤1048576→∀(h j:Heap) (a:AVal) (v:Nat) (s:Bs),bldA a h.length→s.length+(wrF f l).length≤8388608→Sat (CT G) 100 [.hp h.length 0 0 0,.sl 3 (l.map Outl.av)] (bldW h j a v s) (AllR h j (s++wrF f l)):=by
 intro f;induction f with
 |zero=>
  intro l hc hs h j a v s ha hw;have e:=fP hc;subst e;exact mK G (fun _=>[]) [] hs (fun o ho=>by simp at ho) h j a v s ha hw
 |succ f ih=>
  intro l hc hs h j a v s ha hw;rw[hZ]at hw ⊢;refine mK G _ l hs (fun o ho h j a v s ha hw=>?_) h j a v s ha hw;have h1:=dM Outl.sz ho;have h2:=o.sz_eq;exact ih o.kids ((fQ hc).1 o ho).2 (by omega) h j a v s ha hw
theorem v7{l:List Outl}(hc:okOl l=true):(wrF 8 l).length≤3000000∧szs Outl.sz l≤400000:=by
 have hc:=R8 hc;have h1:=uX 8 l hc;have h2:=qP 8 l;have h3:=qL 8 l hc;omega
theorem yz{C:Ctx}{c:Code}{Q:Exit→Env→Heap→Prop}{t:Env}{h h':Heap}(e:h=h')(g:WP C c Q t h'):WP C c Q t h:=e▸g
theorem pU(l:List Outl)(hk:OkN 8 l)(hs:szs Outl.sz l≤1048576)(hw:okOl l=true→(wrF 8 l).length≤4000000)(h:Heap):
  Sat (CT G) 51 [.sl 3 (l.map Outl.av)] h (fun r h'=>r=.tup [.str (if okOl l then docF 8 l else []),.int .i64 (if okOl l then 0 else 130)]∧h'=h):=by
 refine sb [.tmp 2,.tmp 3] Tryz.func51 ?_;intro Q hQ;(repeat (first|refine w1 (fun K hK=>?_)|refine w2 ?_|refine w3 ?_| ((first|refine w4 ?_|refine wD ?_|refine w5 ?_|refine w6 ?_|refine w7 ?_);try refine sq trivial ?_)| (refine w8 ?_;refine sq trivial ?_;refine w9 ?_)| ((first|refine hK _ _ (w0 ?_)| (clear hK K;refine hK _ _ (w0 ?_))| (clear hK K;clear hK K;refine hK _ _ (w0 ?_)));clear hK K)))
 refine(pP G l hk _).mono ?_;rintro r h' ⟨rfl,hk_⟩;replace hk_:=hk_.symm;subst hk_;try refine sq trivial ?_
 (repeat (first|refine w1 (fun K hK=>?_)|refine w2 ?_|refine w3 ?_| ((first|refine w4 ?_|refine wD ?_|refine w5 ?_|refine w6 ?_|refine w7 ?_);try refine sq trivial ?_)| (refine w8 ?_;refine sq trivial ?_;refine w9 ?_)| ((first|refine hK _ _ (w0 ?_)| (clear hK K;refine hK _ _ (w0 ?_))| (clear hK K;clear hK K;refine hK _ _ (w0 ?_)));clear hK K)))
 cases hok:okOl l with
 |false=>
  try refine sq trivial ?_
  (repeat (first|refine w1 (fun K hK=>?_)|refine w2 ?_|refine w3 ?_| ((first|refine w4 ?_|refine wD ?_|refine w5 ?_|refine w6 ?_|refine w7 ?_);try refine sq trivial ?_)| (refine w8 ?_;refine sq trivial ?_;refine w9 ?_)| ((first|refine hK _ _ (w0 ?_)| (clear hK K;refine hK _ _ (w0 ?_))| (clear hK K;clear hK K;refine hK _ _ (w0 ?_)));clear hK K)))
  refine ye hQ trivial ?_;exact O9 (.tup _ (by intro c hc;simp at hc;rcases hc with rfl|rfl;exact .str _;exact .int _ _)) ⟨by rw[hok];rfl,rfl⟩
 |true=>
  have hwl:=hw hok;have hc:=R8 hok;try refine sq trivial ?_
  (repeat (first|refine w1 (fun K hK=>?_)|refine w2 ?_|refine w3 ?_| ((first|refine w4 ?_|refine wD ?_|refine w5 ?_|refine w6 ?_|refine w7 ?_);try refine sq trivial ?_)| (refine w8 ?_;refine sq trivial ?_;refine w9 ?_)))
  refine hK _ _ (L8 ?_);clear hK K;(repeat (first|refine w1 (fun K hK=>?_)|refine w2 ?_|refine w3 ?_| ((first|refine w4 ?_|refine wD ?_|refine w5 ?_|refine w6 ?_|refine w7 ?_);try refine sq trivial ?_)| (refine w8 ?_;refine sq trivial ?_;refine w9 ?_)))
  refine hK _ _ ⟨_,_,Weak.virtCell (p:=h.length) (v:=0) 5 1 (by omega) (by simp(disch:=first|omega| (simp only[go_sem, ↓reduceIte,seval];first|done|omega)|fail) only[go_sem, ↓reduceIte,seval];rfl) 1 rfl,?_⟩;clear hK K;refine yz (h':=bldW h [] (.nil (.pointer none)) 0 []) aw ?_;(repeat (first|refine w1 (fun K hK=>?_)|refine w2 ?_|refine w3 ?_| ((first|refine w4 ?_|refine wD ?_|refine w5 ?_|refine w6 ?_|refine w7 ?_);try refine sq trivial ?_)| (refine w8 ?_;refine sq trivial ?_;refine w9 ?_)| ((first|refine hK _ _ (w0 ?_)| (clear hK K;refine hK _ _ (w0 ?_))| (clear hK K;clear hK K;refine hK _ _ (w0 ?_)));clear hK K)))
  refine(bu G (.nil (.pointer none)) h [] 0 [] _ (.inl rfl) (by simp)).mono ?_;rintro r h' ⟨rfl,rfl⟩;try refine sq trivial ?_
  (repeat (first|refine w1 (fun K hK=>?_)|refine w2 ?_|refine w3 ?_| ((first|refine w4 ?_|refine wD ?_|refine w5 ?_|refine w6 ?_|refine w7 ?_);try refine sq trivial ?_)| (refine w8 ?_;refine sq trivial ?_;refine w9 ?_)| ((first|refine hK _ _ (w0 ?_)| (clear hK K;refine hK _ _ (w0 ?_))| (clear hK K;clear hK K;refine hK _ _ (w0 ?_)));clear hK K)))
  refine(xg G 8 l hc hs h [] _ _ _ (.inr rfl) (by simp only[K7,L6,M9];omega)).mono ?_;rintro r h' ⟨rfl,a1,u1,ha1,rfl⟩;try refine sq trivial ?_
  (repeat (first|refine w1 (fun K hK=>?_)|refine w2 ?_|refine w3 ?_| ((first|refine w4 ?_|refine wD ?_|refine w5 ?_|refine w6 ?_|refine w7 ?_);try refine sq trivial ?_)| (refine w8 ?_;refine sq trivial ?_;refine w9 ?_)| ((first|refine hK _ _ (w0 ?_)| (clear hK K;refine hK _ _ (w0 ?_))| (clear hK K;clear hK K;refine hK _ _ (w0 ?_)));clear hK K)))
  refine(bu G a1 h [] u1 _ _ ha1 (by simp only[K7,L6,M9];omega)).mono ?_;rintro r h' ⟨rfl,rfl⟩;try refine sq trivial ?_
  (repeat (first|refine w1 (fun K hK=>?_)|refine w2 ?_|refine w3 ?_| ((first|refine w4 ?_|refine wD ?_|refine w5 ?_|refine w6 ?_|refine w7 ?_);try refine sq trivial ?_)| (refine w8 ?_;refine sq trivial ?_;refine w9 ?_)| ((first|refine hK _ _ (w0 ?_)| (clear hK K;refine hK _ _ (w0 ?_))| (clear hK K;clear hK K;refine hK _ _ (w0 ?_)));clear hK K)))
  refine(pS G _ h [] _ _).mono ?_;rintro r h' ⟨rfl,b2,rfl⟩;try refine sq trivial ?_
  (repeat (first|refine w1 (fun K hK=>?_)|refine w2 ?_|refine w3 ?_| ((first|refine w4 ?_|refine wD ?_|refine w5 ?_|refine w6 ?_|refine w7 ?_);try refine sq trivial ?_)| (refine w8 ?_;refine sq trivial ?_;refine w9 ?_)| ((first|refine hK _ _ (w0 ?_)| (clear hK K;refine hK _ _ (w0 ?_))| (clear hK K;clear hK K;refine hK _ _ (w0 ?_)));clear hK K)))
  refine ye hQ trivial ?_;refine Fin.plainE rfl (.tup _ (by intro c hc;simp at hc;rcases hc with rfl|rfl;exact .str _;exact .int _ _)) ⟨?_,rfl⟩;rw[hok,qQ];simp[q5,q6,q7,q8]
end
end Go.Av
