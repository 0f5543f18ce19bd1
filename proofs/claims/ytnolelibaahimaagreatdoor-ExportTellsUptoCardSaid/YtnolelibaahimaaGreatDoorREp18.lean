import Derived.Test.YtnolelibaahimaaGreatDoorREp17
set_option linter.unusedSimpArgs false
set_option Elab.async false
set_option maxRecDepth 100000
set_option maxHeartbeats 16000000
namespace Go.Av
open Go Go.Proofs Go.RowKit
section
attribute [local irreducible] WP WPl WPix Sat
def d24:Bs:=[60,111,112,109,108,32,118,101,114,115,105,111,110,61,34,50,46,48,34,62,60,98,111,100,121,62,60,111,117,116,108,105,110,101,32,116,101,120,116,61,34,116,101,99,104,34,62,60,111,117,116,108,105,110,101,32,116,101,120,116,61,34,65,34,32,120,109,108,85,114,108,61,34,117,34,62,60,47,111,117,116,108,105,110,101,62,60,47,111,117,116,108,105,110,101,62,60,111,117,116,108,105,110,101,32,116,101,120,116,61,34,116,101,99,104,34,62,60,47,111,117,116,108,105,110,101,62,60,47,98,111,100,121,62,60,47,111,112,109,108,62]
def e24:Bs:=[60,111,112,109,108,32,118,101,114,115,105,111,110,61,34,50,46,48,34,62,60,98,111,100,121,62,60,111,117,116,108,105,110,101,32,116,101,120,116,61,34,116,101,99,104,34,62,60,111,117,116,108,105,110,101,32,116,101,120,116,61,34,65,34,32,120,109,108,85,114,108,61,34,117,34,62,60,47,111,117,116,108,105,110,101,62,60,47,111,117,116,108,105,110,101,62,60,47,98,111,100,121,62,60,47,111,112,109,108,62]
def a24:AVal:=.agg [.str bTech,.str [],.sl 3 [.agg [.str [65],.str [117],.nil (.slice none 0 0)]]]
def b24:AVal:=.agg [.str bTech,.str [],.nil (.slice none 0 0)]
def v24:AVal:=.sl 7 [.agg [.int .i64 1,.int .i64 1,.int .i64 0,.int .i64 0,.str bTech,.str [],.str []],.agg [.int .i64 3,.int .i64 1,.int .i64 1,.int .i64 0,.str [117],.str [65],.str []]]
def tE9(a:Bs)(l m:List AVal):AVal:=.agg [.str a,.sl 2 l,.str [],.sl 4 m]
def tq9(a b:Bs):AVal:=.agg [.str a,.str b]
def t24:AVal:=let o:Bs:=[111,117,116,108,105,110,101];let x:Bs:=[116,101,120,116];tE9 [111,112,109,108] [tq9 [118,101,114,115,105,111,110] [50,46,48]] [tE9 [98,111,100,121] [] [tE9 o [tq9 x bTech] [tE9 o [tq9 x [65],tq9 [120,109,108,85,114,108] [117]] []],tE9 o [tq9 x bTech] []]]
def oT9(f:FuncId)(a:List AVal):Option AVal:=match a with
 |[.str s]=>if f=104∧s=d24 then some (.tup [t24,.int .i64 0]) else orcX f a
 |_=>orcX f a
theorem x7:okX l24=true:=by kernel_rfl
def smN:Nat→List Outl→Bool
 |0,l=>l.isEmpty
 |f+1,l=>decide (l.length≤100)&&l.all fun o=>decide (o.title.length≤100)&&decide (o.url.length≤100)&&smN f o.kids
theorem oC:∀(f:Nat) (l:List Outl),smN f l=true→OkN f l
 |0,l,h=>by
  cases l with
  |nil=>exact OkN.nil 0
  |cons o l=>cases h
 |f+1,l,h=>by
  unfold smN at h;rw[K5,K8,O4]at h;refine⟨by omega,fun o ho=>?_⟩;have:=h.2 o ho;rw[K5,K5,K8,K8]at this;exact⟨by omega,by omega,oC f o.kids this.2⟩
section
variable (G:Nat→Option (List AVal))
section
variable {s:PS} {X:Heap} {n:Nat}
theorem kQ(hn:n+9≤X.length)(T:s.Top2)(t:Bs)(l:List Outl)(hR:∀h,Sat (CT G) 56 [.str t] h (fun r h'=>r=.tup [.sl 3 (l.map Outl.av),.int .i64 0]∧h'=h))(hk:okX l=true)(hz:szs Outl.sz l≤2097152):
  Sat (CT G) 26 [.hp (n+8) 0 0 0,.str t] (so X n s) (fun r h'=>r=exR ((brgF nfX 8 0 l s).2,0)∧h'=so X n (brgF nfX 8 0 l s).1):=by
 have hB:=ji G (s:=s) (H:=X) (n:=n) hn T l (sR 8 l (R8 hk)) hz;generalize brgF nfX 8 0 l s=p at*;obtain⟨z,ws⟩:=p;simp only[]at hB ⊢;refine sb [.tmp 4,.tmp 5] Tryz.func26 ?_;intro Q hQ;refine wk trivial ?_;refine kq trivial (hR _) ?_;refine kq trivial (hB) ?_;refine ye hQ trivial ?_;exact bm hn (qJ _ (_,_)) ⟨rfl,rfl⟩
theorem sV(hn:n+9≤X.length)(t:Bs)(c:Int)(hR:∀h,Sat (CT G) 56 [.str t] h (fun r h'=>r=.tup [.sl 3 [],.int .i64 c]∧h'=h))(hc:c≠0):
  Sat (CT G) 26 [.hp (n+8) 0 0 0,.str t] (so X n s) (fun r h'=>r=exR ([],c)∧h'=so X n s):=by
 have q:(c !=0)=true:=by simpa using hc
 have F:=q;refine sb [.tmp 4,.tmp 5] Tryz.func26 ?_;intro Q hQ;refine wk F ?_;refine kq F (hR _) ?_;refine ye hQ F ?_;have:=ci (j:=[]) (s:=s) (s':=s) (R:=fun r h'=>r=exR ([],c)∧h'=so X n s) hn (iX (so (X++[]) n s) X.length c) ⟨rfl,rfl⟩;rw[O1]at this;exact this
end
theorem zZ:isV (.bool true) (callX (CT G) orcX 1000 100 29 [v24,v24] [])=true:=by kernel_rfl
theorem yx9:isW (.tup [t24,.int .i64 0]) (callX (CT G) orcX 1000 100 104 [.str d24] [])=true:=by kernel_rfl
theorem yz9(hG:GOk G)(hc:GClo (CT G)):OrcOk (CT G) oT9:=by
 intro f a r g h;unfold oT9 at g;split at g
 ·split at g
  ·rename_i e;obtain⟨rfl,rfl⟩:=e;cases g;exact Sat.closedW hc (dj hG) 1000 100 rfl (yx9 G) h
  ·exact dj hG f _ _ g h
 ·exact dj hG f _ _ g h
theorem Aa:isW (.tup [.sl 3 (l24.map Outl.av),.int .i64 0]) (callX (CT G) oT9 1000 100 56 [.str d24] [])=true:=by kernel_rfl
theorem Ab:isW (.tup [.sl 3 [],.int .i64 90]) (callX (CT G) orcX 1000 100 56 [.str []] [])=true:=by kernel_rfl
theorem Ac:isW (.str d24) (callX (CT G) orcX 1000 100 22 [.sl 3 [a24,b24]] [])=true:=by kernel_rfl
theorem Ad:isW (.str e24) (callX (CT G) orcX 1000 100 22 [.sl 3 [a24]] [])=true:=by kernel_rfl
theorem Ae:isW (.bool true) (callX (CT G) orcX 1000 100 23 [.sl 3 ([o24].map Outl.av),.sl 3 [a24]] [])=true:=by kernel_rfl
theorem Af:isW (.sl 3 ([o24].map Outl.av)) (callX (CT G) orcX 1000 100 54 [x24.av,.int .i64 0] [])=true:=by kernel_rfl
theorem Ah:isW (.tup [.str e24,.int .i64 0]) (callX (CT G) orcX 1000 100 51 [.sl 3 ([o24].map Outl.av)] [])=true:=by kernel_rfl
theorem pN(hG:GOk G)(hc:GClo (CT G))(h:Heap):Sat (CT G) 10 [] h (fun r h'=>r=.bool true∧h'=h):=by
 have hN:=mu G h;have hz9:(PS.z.bl h.length).length=9:=rfl;obtain⟨H0,hH0⟩:∃H0,H0=h++PS.z.bl h.length:=⟨_,rfl⟩;rw[← hH0]at hN;have hl0:H0.length=h.length+9:=by rw[hH0];simp[hz9]
 have hn00:h.length+9≤H0.length:=by omega
 have hC:=pM G;have hK:OkN 8 l24:=oC 8 l24 rfl;have hS:=fun h=>Sat.closedD hc (dj hG) 1000 100 (f:=29) (args:=[v24,v24]) (v:=.bool true) rfl rfl (zZ G) h
 have wk1:∀(i:Nat) (x y:AVal),([.hp (h.length+8) 0 0 0,.sl 3 [a24,b24]]:List AVal)[i]? =some x→([.hp (h.length+8) 0 0 0,.sl 3 (l24.map Outl.av)]:List AVal)[i]? =some y→Wk x y:=fun i x y hx hy=>by
  match i with
  |0=>cases hx;cases hy;exact Wk.refl _
  |1=>cases hx;cases hy;exact o7 9 _ _ rfl
  |i+2=>cases hx
 have wk5:∀(i:Nat) (x y:AVal),([.hp (h.length+8) 0 0 0,.sl 3 [.agg [.str [],.str [],.nil (.slice none 0 0)]]]:List AVal)[i]? =some x→([.hp (h.length+8) 0 0 0,.sl 3 ([(⟨[],[],[]⟩:Outl)].map Outl.av)]:List AVal)[i]? =some y→Wk x y:=fun i x y hx hy=>by
  match i with
  |0=>cases hx;cases hy;exact Wk.refl _
  |1=>cases hx;cases hy;exact o7 9 _ _ rfl
  |i+2=>cases hx
 have dP:=kP G (s:=PS.z) (X:=H0) (n:=h.length) hC hn00 PS.Top2.z0 l24 hK (by decide);rw[show exF PS.z l24=(w24,0)from by unfold exF;rw[x7,nc];rfl]at dP;have dP:=Sat.wk (by rfl) wk1 dP;have dB:=kP G (s:=s24) (X:=H0) (n:=h.length) hC hn00 lD [⟨[],[],[]⟩] (oC 8 _ rfl) (by decide);rw[show exF s24 [⟨[],[],[]⟩]=([],130)from rfl]at dB;have dB:=Sat.wk (by rfl) wk5 dB;have rA:=fun h=>Sat.closedW hc (yz9 G hG hc) 1000 100 (f:=56) (args:=[.str d24]) rfl (Aa G) h
 have rB:=fun h=>Sat.closedW hc (dj hG) 1000 100 (f:=56) (args:=[.str []]) rfl (Ab G) h
 have dR1:=kQ G (s:=PS.z) (X:=H0) (n:=h.length) hn00 PS.Top2.z0 d24 l24 rA x7 (by decide);have dR2:=kQ G (s:=s24) (X:=H0) (n:=h.length) hn00 lD d24 l24 rA x7 (by decide);rw[nc]at dR1;rw[zX]at dR2;have dR3:=sV G (s:=s24) (X:=H0) (n:=h.length) hn00 [] 90 rB (by decide);have dW:=fun h=>Sat.closedW hc (dj hG) 1000 100 (f:=22) (args:=[.sl 3 [a24,b24]]) rfl (Ac G) h
 have dW1:=fun h=>Sat.closedW hc (dj hG) 1000 100 (f:=22) (args:=[.sl 3 [a24]]) rfl (Ad G) h
 have dS1:=fun h=>Sat.closedW hc (dj hG) 1000 100 (f:=23) (args:=[.sl 3 ([o24].map Outl.av),.sl 3 [a24]]) rfl (Ae G) h
 have dT:=f4 G s24 lD.i.toOk hn00;rw[x5]at dT;have dI:=fun h=>Sat.closedW hc (dj hG) 1000 100 (f:=54) (args:=[x24.av,.int .i64 0]) rfl (Af G) h
 have dX:=fun h=>Sat.closedW hc (dj hG) 1000 100 (f:=51) (args:=[.sl 3 ([o24].map Outl.av)]) rfl (Ah G) h
 have dO:Sat (CT G) 24 [.hp (h.length+8) 0 0 0] (so H0 h.length s24) (fun r h'=>r=.sl 3 ([o24].map Outl.av)∧h'=so H0 h.length s24):=by
  generalize x24=x at*;generalize [o24]=ol at*;have F:= @ax;refine sb [.tmp 2] Tryz.func24 ?_;intro Q hQ;(repeat (first|refine w1 (fun K hK=>?_)|refine w2 ?_|refine w3 ?_| ((first|refine w4 ?_|refine wD ?_|refine w5 ?_|refine w6 ?_|refine w7 ?_);try refine sq F ?_)| (refine w8 ?_;refine sq F ?_;refine w9 ?_)| ((first|refine hK _ _ (w0 ?_)| (clear hK K;refine hK _ _ (w0 ?_))| (clear hK K;clear hK K;refine hK _ _ (w0 ?_)));clear hK K)))
  refine(dT).mono ?_;rintro r h' ⟨rfl,rfl⟩;try refine sq F ?_
  (repeat (first|refine w1 (fun K hK=>?_)|refine w2 ?_|refine w3 ?_| ((first|refine w4 ?_|refine wD ?_|refine w5 ?_|refine w6 ?_|refine w7 ?_);try refine sq F ?_)| (refine w8 ?_;refine sq F ?_;refine w9 ?_)| ((first|refine hK _ _ (w0 ?_)| (clear hK K;refine hK _ _ (w0 ?_))| (clear hK K;clear hK K;refine hK _ _ (w0 ?_)));clear hK K)))
  refine(dI _).mono ?_;rintro r h' ⟨rfl,rfl⟩;try refine sq F ?_
  (repeat (first|refine w1 (fun K hK=>?_)|refine w2 ?_|refine w3 ?_| ((first|refine w4 ?_|refine wD ?_|refine w5 ?_|refine w6 ?_|refine w7 ?_);try refine sq F ?_)| (refine w8 ?_;refine sq F ?_;refine w9 ?_)| ((first|refine hK _ _ (w0 ?_)| (clear hK K;refine hK _ _ (w0 ?_))| (clear hK K;clear hK K;refine hK _ _ (w0 ?_)));clear hK K)))
  refine ee hQ F ?_;exact bm hn00 (Outls.clo _ _ _) ⟨rfl,rfl⟩
 have dE:Sat (CT G) 21 [.hp (h.length+8) 0 0 0] (so H0 h.length s24) (fun r h'=>r=.tup [.str e24,.int .i64 0]∧h'=so H0 h.length s24):=by
  generalize [o24]=ol at*;refine sb [.tmp 2,.tmp 3] Tryz.func21 ?_;intro Q hQ;(repeat (first|refine w1 (fun K hK=>?_)|refine w2 ?_|refine w3 ?_| ((first|refine w4 ?_|refine wD ?_|refine w5 ?_|refine w6 ?_|refine w7 ?_);try refine sq trivial ?_)| (refine w8 ?_;refine sq trivial ?_;refine w9 ?_)| ((first|refine hK _ _ (w0 ?_)| (clear hK K;refine hK _ _ (w0 ?_))| (clear hK K;clear hK K;refine hK _ _ (w0 ?_)));clear hK K)))
  refine(dO).mono ?_;rintro r h' ⟨rfl,rfl⟩;try refine sq trivial ?_
  (repeat (first|refine w1 (fun K hK=>?_)|refine w2 ?_|refine w3 ?_| ((first|refine w4 ?_|refine wD ?_|refine w5 ?_|refine w6 ?_|refine w7 ?_);try refine sq trivial ?_)| (refine w8 ?_;refine sq trivial ?_;refine w9 ?_)| ((first|refine hK _ _ (w0 ?_)| (clear hK K;refine hK _ _ (w0 ?_))| (clear hK K;clear hK K;refine hK _ _ (w0 ?_)));clear hK K)))
  refine(dX _).mono ?_;rintro r h' ⟨rfl,rfl⟩;try refine sq trivial ?_
  (repeat (first|refine w1 (fun K hK=>?_)|refine w2 ?_|refine w3 ?_| ((first|refine w4 ?_|refine wD ?_|refine w5 ?_|refine w6 ?_|refine w7 ?_);try refine sq trivial ?_)| (refine w8 ?_;refine sq trivial ?_;refine w9 ?_)| ((first|refine hK _ _ (w0 ?_)| (clear hK K;refine hK _ _ (w0 ?_))| (clear hK K;clear hK K;refine hK _ _ (w0 ?_)));clear hK K)))
  refine ye hQ trivial ?_;exact bm hn00 (.tup _ (by intro c hc;simp at hc;rcases hc with rfl|rfl;exact .str _;exact .int _ _)) ⟨rfl,rfl⟩
 generalize d24=d1 at*;generalize e24=d2 at*;have qd:∀a:Bs,(a==a)=true:=fun a=>by simp
 unfold a24 b24 bTech at*;have F:=F3 hn00 qd @ax;refine sb [.tmp 0] Tryz.func10 ?_;intro Q hQ;(repeat (first|refine w1 (fun K hK=>?_)|refine w2 ?_|refine w3 ?_| ((first|refine w4 ?_|refine wD ?_|refine w5 ?_|refine w6 ?_|refine w7 ?_);try refine sq F ?_)| (refine w8 ?_;refine sq F ?_;refine w9 ?_)| (refine rq F ?_;try refine sq F ?_)| (refine vq F ?_;try refine sq F ?_)| ((first|refine hK _ _ (w0 ?_)| (clear hK K;refine hK _ _ (w0 ?_))| (clear hK K;clear hK K;refine hK _ _ (w0 ?_)));clear hK K)))
 refine(hN).mono ?_;rintro r h' ⟨rfl,rfl⟩;try refine sq F ?_
 (repeat (first|refine w1 (fun K hK=>?_)|refine w2 ?_|refine w3 ?_| ((first|refine w4 ?_|refine wD ?_|refine w5 ?_|refine w6 ?_|refine w7 ?_);try refine sq F ?_)| (refine w8 ?_;refine sq F ?_;refine w9 ?_)| (refine rq F ?_;try refine sq F ?_)| (refine vq F ?_;try refine sq F ?_)| ((first|refine hK _ _ (w0 ?_)| (clear hK K;refine hK _ _ (w0 ?_))| (clear hK K;clear hK K;refine hK _ _ (w0 ?_)));clear hK K)))
 refine(dP).mono ?_;rintro r h' ⟨rfl,rfl⟩;try refine sq F ?_
 (repeat (first|refine w1 (fun K hK=>?_)|refine w2 ?_|refine w3 ?_| ((first|refine w4 ?_|refine wD ?_|refine w5 ?_|refine w6 ?_|refine w7 ?_);try refine sq F ?_)| (refine w8 ?_;refine sq F ?_;refine w9 ?_)| (refine rq F ?_;try refine sq F ?_)| (refine vq F ?_;try refine sq F ?_)| ((first|refine hK _ _ (w0 ?_)| (clear hK K;refine hK _ _ (w0 ?_))| (clear hK K;clear hK K;refine hK _ _ (w0 ?_)));clear hK K)))
 refine(dW _).mono ?_;rintro r h' ⟨rfl,rfl⟩;try refine sq F ?_
 (repeat (first|refine w1 (fun K hK=>?_)|refine w2 ?_|refine w3 ?_| ((first|refine w4 ?_|refine wD ?_|refine w5 ?_|refine w6 ?_|refine w7 ?_);try refine sq F ?_)| (refine w8 ?_;refine sq F ?_;refine w9 ?_)| (refine rq F ?_;try refine sq F ?_)| (refine vq F ?_;try refine sq F ?_)| ((first|refine hK _ _ (w0 ?_)| (clear hK K;refine hK _ _ (w0 ?_))| (clear hK K;clear hK K;refine hK _ _ (w0 ?_)));clear hK K)))
 refine(dR1).mono ?_;rintro r h' ⟨rfl,rfl⟩;try refine sq F ?_
 (repeat (first|refine w1 (fun K hK=>?_)|refine w2 ?_|refine w3 ?_| ((first|refine w4 ?_|refine wD ?_|refine w5 ?_|refine w6 ?_|refine w7 ?_);try refine sq F ?_)| (refine w8 ?_;refine sq F ?_;refine w9 ?_)| (refine rq F ?_;try refine sq F ?_)| (refine vq F ?_;try refine sq F ?_)| ((first|refine hK _ _ (w0 ?_)| (clear hK K;refine hK _ _ (w0 ?_))| (clear hK K;clear hK K;refine hK _ _ (w0 ?_)));clear hK K)))
 refine(dW _).mono ?_;rintro r h' ⟨rfl,rfl⟩;try refine sq F ?_
 (repeat (first|refine w1 (fun K hK=>?_)|refine w2 ?_|refine w3 ?_| ((first|refine w4 ?_|refine wD ?_|refine w5 ?_|refine w6 ?_|refine w7 ?_);try refine sq F ?_)| (refine w8 ?_;refine sq F ?_;refine w9 ?_)| (refine rq F ?_;try refine sq F ?_)| (refine vq F ?_;try refine sq F ?_)| ((first|refine hK _ _ (w0 ?_)| (clear hK K;refine hK _ _ (w0 ?_))| (clear hK K;clear hK K;refine hK _ _ (w0 ?_)));clear hK K)))
 refine(dR2).mono ?_;rintro r h' ⟨rfl,rfl⟩;try refine sq F ?_
 (repeat (first|refine w1 (fun K hK=>?_)|refine w2 ?_|refine w3 ?_| ((first|refine w4 ?_|refine wD ?_|refine w5 ?_|refine w6 ?_|refine w7 ?_);try refine sq F ?_)| (refine w8 ?_;refine sq F ?_;refine w9 ?_)| (refine rq F ?_;try refine sq F ?_)| (refine vq F ?_;try refine sq F ?_)| ((first|refine hK _ _ (w0 ?_)| (clear hK K;refine hK _ _ (w0 ?_))| (clear hK K;clear hK K;refine hK _ _ (w0 ?_)));clear hK K)))
 refine(dO).mono ?_;rintro r h' ⟨rfl,rfl⟩;try refine sq F ?_
 (repeat (first|refine w1 (fun K hK=>?_)|refine w2 ?_|refine w3 ?_| ((first|refine w4 ?_|refine wD ?_|refine w5 ?_|refine w6 ?_|refine w7 ?_);try refine sq F ?_)| (refine w8 ?_;refine sq F ?_;refine w9 ?_)| (refine rq F ?_;try refine sq F ?_)| (refine vq F ?_;try refine sq F ?_)| ((first|refine hK _ _ (w0 ?_)| (clear hK K;refine hK _ _ (w0 ?_))| (clear hK K;clear hK K;refine hK _ _ (w0 ?_)));clear hK K)))
 refine(dE).mono ?_;rintro r h' ⟨rfl,rfl⟩;try refine sq F ?_
 (repeat (first|refine w1 (fun K hK=>?_)|refine w2 ?_|refine w3 ?_| ((first|refine w4 ?_|refine wD ?_|refine w5 ?_|refine w6 ?_|refine w7 ?_);try refine sq F ?_)| (refine w8 ?_;refine sq F ?_;refine w9 ?_)| (refine rq F ?_;try refine sq F ?_)| (refine vq F ?_;try refine sq F ?_)| ((first|refine hK _ _ (w0 ?_)| (clear hK K;refine hK _ _ (w0 ?_))| (clear hK K;clear hK K;refine hK _ _ (w0 ?_)));clear hK K)))
 refine(dB).mono ?_;rintro r h' ⟨rfl,rfl⟩;try refine sq F ?_
 (repeat (first|refine w1 (fun K hK=>?_)|refine w2 ?_|refine w3 ?_| ((first|refine w4 ?_|refine wD ?_|refine w5 ?_|refine w6 ?_|refine w7 ?_);try refine sq F ?_)| (refine w8 ?_;refine sq F ?_;refine w9 ?_)| (refine rq F ?_;try refine sq F ?_)| (refine vq F ?_;try refine sq F ?_)| ((first|refine hK _ _ (w0 ?_)| (clear hK K;refine hK _ _ (w0 ?_))| (clear hK K;clear hK K;refine hK _ _ (w0 ?_)));clear hK K)))
 refine(dR3).mono ?_;rintro r h' ⟨rfl,rfl⟩;try refine sq F ?_
 (repeat (first|refine w1 (fun K hK=>?_)|refine w2 ?_|refine w3 ?_| ((first|refine w4 ?_|refine wD ?_|refine w5 ?_|refine w6 ?_|refine w7 ?_);try refine sq F ?_)| (refine w8 ?_;refine sq F ?_;refine w9 ?_)| (refine rq F ?_;try refine sq F ?_)| (refine vq F ?_;try refine sq F ?_)| ((first|refine hK _ _ (w0 ?_)| (clear hK K;refine hK _ _ (w0 ?_))| (clear hK K;clear hK K;refine hK _ _ (w0 ?_)));clear hK K)))
 refine(hS _).mono ?_;rintro r h' ⟨rfl,rfl⟩;try refine sq F ?_
 (repeat (first|refine w1 (fun K hK=>?_)|refine w2 ?_|refine w3 ?_| ((first|refine w4 ?_|refine wD ?_|refine w5 ?_|refine w6 ?_|refine w7 ?_);try refine sq F ?_)| (refine w8 ?_;refine sq F ?_;refine w9 ?_)| (refine rq F ?_;try refine sq F ?_)| (refine vq F ?_;try refine sq F ?_)| ((first|refine hK _ _ (w0 ?_)| (clear hK K;refine hK _ _ (w0 ?_))| (clear hK K;clear hK K;refine hK _ _ (w0 ?_)));clear hK K)))
 refine(hS _).mono ?_;rintro r h' ⟨rfl,rfl⟩;try refine sq F ?_
 (repeat (first|refine w1 (fun K hK=>?_)|refine w2 ?_|refine w3 ?_| ((first|refine w4 ?_|refine wD ?_|refine w5 ?_|refine w6 ?_|refine w7 ?_);try refine sq F ?_)| (refine w8 ?_;refine sq F ?_;refine w9 ?_)| (refine rq F ?_;try refine sq F ?_)| (refine vq F ?_;try refine sq F ?_)| ((first|refine hK _ _ (w0 ?_)| (clear hK K;refine hK _ _ (w0 ?_))| (clear hK K;clear hK K;refine hK _ _ (w0 ?_)));clear hK K)))
 refine(dS1 _).mono ?_;rintro r h' ⟨rfl,rfl⟩;try refine sq F ?_
 (repeat (first|refine w1 (fun K hK=>?_)|refine w2 ?_|refine w3 ?_| ((first|refine w4 ?_|refine wD ?_|refine w5 ?_|refine w6 ?_|refine w7 ?_);try refine sq F ?_)| (refine w8 ?_;refine sq F ?_;refine w9 ?_)| (refine rq F ?_;try refine sq F ?_)| (refine vq F ?_;try refine sq F ?_)| ((first|refine hK _ _ (w0 ?_)| (clear hK K;refine hK _ _ (w0 ?_))| (clear hK K;clear hK K;refine hK _ _ (w0 ?_)));clear hK K)))
 refine(dW1 _).mono ?_;rintro r h' ⟨rfl,rfl⟩;try refine sq F ?_
 (repeat (first|refine w1 (fun K hK=>?_)|refine w2 ?_|refine w3 ?_| ((first|refine w4 ?_|refine wD ?_|refine w5 ?_|refine w6 ?_|refine w7 ?_);try refine sq F ?_)| (refine w8 ?_;refine sq F ?_;refine w9 ?_)| (refine rq F ?_;try refine sq F ?_)| (refine vq F ?_;try refine sq F ?_)| ((first|refine hK _ _ (w0 ?_)| (clear hK K;refine hK _ _ (w0 ?_))| (clear hK K;clear hK K;refine hK _ _ (w0 ?_)));clear hK K)))
 refine ee hQ F ?_;exact qK hn00 ⟨_,hH0⟩ (M0 _) ⟨rfl,rfl⟩
end
variable (G:Nat→Option (List AVal))
theorem cY(h:Heap)(a b:Int)(s t:Bs):abin Tryz.prog h .neq 48 (.agg [.int .i64 a,.int .i64 b,.str s,.str t]) (.agg [.int .i64 a,.int .i64 b,.str s,.str t])=some (.bool false):=by
 simp[abin,go_sem,aeqL,aeq1]
section
variable (s:PS) {H:Heap} {n:Nat} (hn:n+9≤H.length)
include hn
end
end
section
variable {s:PS} {e:Ev}
def feT(f:Fe):Prop:=f.url≠ []∧textF rightS cleanF f.url 512=true∧textF rightS cleanF f.title 256=true
structure PS.Txt (s:PS):Prop where
 fo:∀k f,lkM s.fo k=some f→f.name≠ []∧textF rightS cleanF f.name 64=true
 fe:∀k f,lkM s.fe k=some f→feT f
theorem PS.Txt.z0:PS.z.Txt:=⟨fun _ _ h=>(by cases h),fun _ _ h=>by cases h⟩
theorem PS.Txt.same{z:PS}(h:s.Txt)(a:z.fo=s.fo)(b:z.fe=s.fe):z.Txt:=⟨by rw[a];exact h.fo,by rw[b];exact h.fe⟩
theorem Ai{t:Bs}{b:Bool}(h:(!(t==[])&&b)=true):t≠ []∧b=true:=by
 rw[K5]at h;exact⟨by simpa using h.1,h.2⟩
theorem PS.Txt.aft(h:s.Txt)(hI:s.Inv)(hok:s.ok L0 e=true):(s.aft e).Txt:=by
 unfold PS.ok PS.fits at hok;rw[K5]at hok;obtain⟨hck,hfit⟩:=hok;unfold Leaf.ck at hck;rw[K5]at hck;have hr:=hck.1;clear hck;unfold Leaf.right at hr;unfold PS.aft PS.after;split
 ·have hh:=cd ((s.dlNm (((lkM s.fo e.a).getD Fo.z).inn,((lkM s.fo e.a).getD Fo.z).name)).dlFo e.a) ((lkM s.fo e.a).getD Fo.z).inn (-1);refine PS.Txt.same (s:=(s.dlNm (((lkM s.fo e.a).getD Fo.z).inn,((lkM s.fo e.a).getD Fo.z).name)).dlFo e.a) ⟨fun k f hf=>?_,h.fe⟩ hh.1 hh.2.1;have hf:lkM (dlM s.fo e.a) k=some f:=hf;exact h.fo k f (bO hI.w1.keys hf).2
 split
 ·have hh:=cd ((({s with it:=itF s.it ((lkM s.fe e.a).getD Fe.z).id,gu:=guF s.it s.gu ((lkM s.fe e.a).getD Fe.z).id}:PS).dlPl ((lkM s.fe e.a).getD Fe.z).url).dlFe ((lkM s.fe e.a).getD Fe.z).id) ((lkM s.fe e.a).getD Fe.z).inn (-1);refine PS.Txt.same (s:=(({s with it:=itF s.it ((lkM s.fe e.a).getD Fe.z).id,gu:=guF s.it s.gu ((lkM s.fe e.a).getD Fe.z).id}:PS).dlPl ((lkM s.fe e.a).getD Fe.z).url).dlFe ((lkM s.fe e.a).getD Fe.z).id) ⟨h.fo,fun k f hf=>?_⟩ hh.1 hh.2.1;have hf:lkM (dlM s.fe ((lkM s.fe e.a).getD Fe.z).id) k=some f:=hf;exact h.fe k f (bO hI.w2.keys hf).2
 split
 ·rename_i k5;rw[K4 (by omega),K4 (by omega),K4 (by omega),L7 (.inr k5)]at hfit;rw[K4 (by omega),K4 (by omega),K4 (by omega),L7 k5,K5]at hr;refine⟨h.fo,fun k f hf=>?_⟩;have hf:lkM (upM s.fe s.c2 e.a {(lkM s.fe e.a).getD Fe.z with title:=e.t}) k=some f:=hf;rcases aI hf with⟨rfl,rfl⟩| ⟨_,hf⟩
  ·obtain⟨g,hg⟩:=aT hfit;have:=h.fe _ _ hg;rw[hg];exact⟨this.1,this.2.1,hr.2⟩
  ·exact h.fe k f hf
 split
 ·rename_i k6;rw[K4 (by omega),K4 (by omega),K4 (by omega),K4 (by omega),L7 k6,K5]at hfit;have h1:=cd s ((lkM s.fe e.a).getD Fe.z).inn (-1);have h2:=cd (s.hold ((lkM s.fe e.a).getD Fe.z).inn (-1)) e.b 1;refine⟨fun k f hf=>?_,fun k f hf=>?_⟩
  ·have hf:lkM ((s.hold ((lkM s.fe e.a).getD Fe.z).inn (-1)).hold e.b 1).fo k=some f:=hf;rw[h2.1,h1.1]at hf;exact h.fo k f hf
  ·have hf:lkM (upM ((s.hold ((lkM s.fe e.a).getD Fe.z).inn (-1)).hold e.b 1).fe _ e.a {(lkM s.fe e.a).getD Fe.z with inn:=e.b}) k=some f:=hf;rw[h2.2.1,h1.2.1]at hf;rcases aI hf with⟨rfl,rfl⟩| ⟨_,hf⟩
   ·obtain⟨g,hg⟩:=aT hfit.1;have:=h.fe _ _ hg;rw[hg];exact this
   ·exact h.fe k f hf
 split
 ·exact h.same rfl rfl
 split
 ·exact h.same rfl rfl
 split
 ·exact h.same rfl rfl
 split
 ·exact h.same rfl rfl
 split
 ·exact h.same rfl rfl
 unfold PS.make;split
 ·rename_i k1;rw[L7 k1,K5,K5]at hr;have hh:=cd ((s.upFo e.a ⟨e.a,e.b,e.s⟩).upNm (e.b,e.s) e.a) e.b 1;have hl:=Ai hr.2.2;refine PS.Txt.same (s:=(s.upFo e.a ⟨e.a,e.b,e.s⟩).upNm (e.b,e.s) e.a) ⟨fun k f hf=>?_,h.fe⟩ hh.1 hh.2.1;have hf:lkM (upM s.fo s.c1 e.a ⟨e.a,e.b,e.s⟩) k=some f:=hf;rcases aI hf with⟨rfl,rfl⟩| ⟨_,hf⟩
  ·exact hl
  ·exact h.fo k f hf
 split
 ·rename_i k3;rw[K4 (by omega),K4 (by omega),L7 k3,K5,K5,K5]at hr;have hh:=cd ((s.upFe e.a ⟨e.a,e.b,e.s,e.t⟩).upPl e.s e.a) e.b 1;have hl:=Ai hr.2.2.1;refine PS.Txt.same (s:=(s.upFe e.a ⟨e.a,e.b,e.s,e.t⟩).upPl e.s e.a) ⟨h.fo,fun k f hf=>?_⟩ hh.1 hh.2.1;have hf:lkM (upM s.fe s.c2 e.a ⟨e.a,e.b,e.s,e.t⟩) k=some f:=hf;rcases aI hf with⟨rfl,rfl⟩| ⟨_,hf⟩
  ·exact⟨hl.1,hl.2,hr.2.2.2⟩
  ·exact h.fe k f hf
 split
 ·exact h.same rfl rfl
 split
 ·exact h.same rfl rfl
 ·exact h
theorem PS.Txt.step(h:s.Txt)(hI:s.Inv)(e:Ev):(s.step L0 e).Txt:=by
 unfold PS.step;split
 ·rename_i hk;exact h.aft hI hk
 ·exact h
theorem PS.Txt.fold(es:List Ev):∀{s:PS},s.Txt→s.Inv→(es.foldl (PS.step L0) s).Txt:=by
 induction es with
 |nil=>intro s h _;exact h
 |cons e es ih=>intro s h hI;exact ih (h.step hI e) (hI.step e)
end
section
def feO(f:Fe):Outl:=⟨if f.title=[]then shortF f.url 256 else f.title,f.url,[]⟩
def outF(fo:List Fo)(fe:List Fe):Nat→Int→List Outl
 |0,i=>(fe.filter fun f=>decide (f.inn=i)).map feO
 |k+1,i=>((fo.filter fun f=>decide (f.inn=i)).map fun f=>⟨f.name,[],outF fo fe k f.id⟩)++(fe.filter fun f=>decide (f.inn=i)).map feO
def Lv(fo:List Fo):Nat→Int→Prop
 |0,i=>∀f∈fo,f.inn≠i
 |k+1,i=>∀f∈fo,f.inn=i→Lv fo k f.id
theorem uR{fo:List Fo}{i:Int}(h:∀f∈fo,f.inn≠i):(fo.filter fun f=>decide (f.inn=i))=[]:=by
 rw[List.filter_eq_nil_iff];intro f hf;simpa using h f hf
theorem mC{fo:List Fo}{fe:List Fe}:∀{k:Nat} {i:Int},Lv fo k i→∀j,outF fo fe (k+j) i=outF fo fe k i
 |0,i,h,0=>rfl
 |0,i,h,j+1=>by
  rw[show 0+(j+1)=j+1 by omega];show(List.map _ (fo.filter fun f=>decide (f.inn=i)))++_=_;rw[uR h];rfl
 |k+1,i,h,j=>by
  rw[show k+1+j=(k+j)+1 by omega,outF,outF];congr 1
  refine T4 fun f hf=>?_
  rw[T9,K8]at hf;rw[mC (h f hf.1 hf.2) j]
theorem oD{s:PS}{f:Fo}(h:f∈s.tell.fo):∃k,lkM s.fo k=some f:=aK h
theorem uS{s:PS}{f:Fe}(h:f∈s.tell.fe):∃k,lkM s.fe k=some f:=aK h
theorem Cs{s:PS}(hI:s.Inv):∀(k:Nat) (i:Int),(i=0∨(lkM s.fo i).isSome=true)→7≤s.dpt i+k→Lv s.tell.fo k i:=by
 have up:∀{f:Fo} {i:Int},f∈s.tell.fo→f.inn=i→s.dpt f.id=s.dpt i+1∧s.dpt f.id≤7∧(lkM s.fo f.id).isSome=true:=fun {f i} hf hi=>by
  obtain⟨k,hk⟩:=oD hf;have hid:=(hI.i1 _ _ hk).1;rw[← hid]at hk;obtain⟨h1,h2⟩:=hI.deep f.id;obtain⟨h3,h4⟩:=hI.deep i;refine⟨?_,h2,by rw[hk];rfl⟩;rw[deepO,hk]at h1;simp only[hi,N3]at h1;obtain⟨d,hd,he⟩:=h1;have:=iD hd (k':=7) (by have:=h2;omega);rw[h3]at this;cases this;exact he.symm
 intro k;induction k with
 |zero=>
  intro i _ hd f hf hi;have:=up hf hi;omega
 |succ k ih=>
  intro i _ hd f hf hi;have:=up hf hi;exact ih f.id (.inr this.2.2) (by omega)
theorem uT{s:PS}(hI:s.Inv):Lv s.tell.fo 7 0:=Cs hI 7 0 (.inl rfl) (by omega)
def clnG:List Int→Bool→Bool→List Int
 | [],_,_=>[]
 |c::t,e,w=>if blankR c then clnG t e e else if ctlR c then clnG t e w else(if w then [32,c]else [c])++clnG t true false
theorem gE:∀(l o:List Int) (w:Bool),clnR l o w=o++clnG l (decide (0<o.length)) w
 | [],o,w=>by simp[clnR,clnG]
 |c::t,o,w=>by
  rw[clnR,clnG];split
  ·exact gE t o _
  ·split
   ·exact gE t o w
   ·rw[gE t _ false,P1];have:decide (0<(o++if w=true then [32,c]else [c]).length)=true:=by
     refine N7 ?_;rw[K7];split<;>simp<;>omega
    rw[this]
theorem eK:∀(l:List Int) (e w:Bool),(w=true→e=true)→clnG (clnG l e w) e false=clnG l e w
 | [],e,w,_=>rfl
 |c::t,e,w,h=>by
  rw[clnG];by_cases hb:blankR c=true
  ·rw[L7 hb];exact eK t e e id
  ·rw[K4 hb];by_cases hk:ctlR c=true
   ·rw[L7 hk];exact eK t e w h
   ·rw[K4 hk];have ih:=eK t true false (by simp);have h32:blankR 32=true:=(by decide);cases w with
    |false=>
     show clnG (c::clnG t true false) e false=c::clnG t true false;rw[clnG,K4 hb,K4 hk,ih];rfl
    |true=>
     rw[h rfl];show clnG (32::c::clnG t true false) true false=32::c::clnG t true false;rw[clnG,L7 h32,clnG,K4 hb,K4 hk,ih];rfl
theorem gF:∀(l:List Int) (e w:Bool),(encs (clnG l e w)).length≤(encs l).length+(if w then 1 else 0)
 | [],e,w=>by simp[clnG,encs]
 |c::t,e,w=>by
  rw[clnG,aH,K7];have hp:=cL c;split
  ·have:=gF t e e;have:(if e=true then 1 else 0)≤1:=by split<;>omega
   omega
  ·split
   ·have:=gF t e w;omega
   ·have ih:=gF t true false;rw[bY,K7];have h32:(enc 32).length=1:=(by decide);cases w with
    |false=>
     have:(encs (if false=true then [32,c]else [c])).length=(enc c).length:=by simp[encs]
     simp only[O0,if_false]at*;omega
    |true=>
     have:(encs (if true=true then [32,c]else [c])).length=1+(enc c).length:=by simp[encs,h32]
     simp only[if_true]at*;simp only[O0,if_false]at ih;omega
theorem mD{l:List Int}(h:∀c∈l,Rune c):∀c∈clnG l false false,Rune c:=by
 have:=dg l [] false h (by simp);rw[gE]at this;exact this
theorem sX(s:Bs):∀c∈runesF s,Rune c:=cg s.length s (M0 _)
theorem ga{l:List Int}(h:∀c∈l,Rune c):cleanF (encs l)=encs (clnG l false false):=by
 unfold cleanF cleanR;rw[g9 h,gE];rfl
theorem mE(s:Bs):∃l:List Int,(∀c∈l,Rune c)∧cleanF s=encs l∧clnG l false false=l:=by
 refine⟨clnG (runesF s) false false,mD (sX s),?_,eK _ _ _ (by simp)⟩;unfold cleanF cleanR;rw[gE];rfl
theorem iY{c:Int}{l:List Int}:encs (c::l)≠ []:=fun e=>by
 have hp:=cL c;have h2:=N5 List.length e;rw[aH,K7]at h2;simp only[M9]at h2;omega
theorem kR:∀{l:List Int},(∀c∈l,Rune c)→rightS (encs l)=true
 | [],_=>rfl
 |c::l,h=>by
  have hc:=h c (by simp);rw[j9 _ iY,aH,cj,fE hc,W6 rfl,K4]
  ·exact kR fun x hx=>h x (by simp[hx])
  ·rintro⟨h1,h2⟩;simp only[]at h1 h2;have:c=65533:=by unfold Rune at hc;omega
   rw[this]at h2;revert h2;decide
theorem jC:∀(l:List Int) (n:Nat),(∀c∈l,Rune c)→∃k,cutF (encs l) n=encs (l.take k)
 | [],n,_=>⟨0,by simp[cutF,encs]⟩
 |c::l,n,h=>by
  have hc:=h c (by simp);have hp:=cL c;obtain⟨k,hk⟩:=jC l (n-(enc c).length) fun x hx=>h x (by simp[hx])
  have hd:dec (encs (c::l)) 0=(c.toNat,(enc c).length):=by rw[aH,cj,fE hc]
  have hdr:(encs (c::l)).drop (enc c).length=encs l:=by rw[aH,W6 rfl]
  have hst:cutN (encs (c::l)).length (encs (c::l)) n=if n<(enc c).length then 0 else(enc c).length+cutN (encs l).length (encs l) (n-(enc c).length):=by
   have hl:(encs (c::l)).length=(enc c).length+(encs l).length:=(by rw[aH,K7]);obtain⟨f,hf⟩:∃f,(encs (c::l)).length=f+1:=⟨(encs (c::l)).length-1,by omega⟩;rw[hf,cutN,K4 iY,hd];simp only[];rw[hdr,iy f (encs l) _ (by omega)]
  unfold cutF at hk ⊢;rw[hst];by_cases h2:n<(enc c).length
  ·rw[L7 h2];exact⟨0,rfl⟩
  ·rw[K4 h2];refine⟨k+1,?_⟩;rw[P0,aH,aH, ← hk,List.take_append,M4 (by omega),U5]
theorem x9(s:Bs)(n:Nat):∃l:List Int,(∀c∈l,Rune c)∧shortF s n=encs l∧clnG l false false=l∧(encs l).length≤n:=by
 obtain⟨l,h1,h2,h3⟩:=mE s;obtain⟨k,hk⟩:=jC l n h1;have ht:∀c∈l.take k,Rune c:=fun c hc=>h1 c (V7 hc)
 refine⟨clnG (l.take k) false false,mD ht,?_,eK _ _ _ (by simp),?_⟩
 ·unfold shortF;rw[h2,hk,ga ht]
 ·have h4:=gF (l.take k) false false;have h5:=(jB (encs l) n).1;rw[hk]at h5;simp only[O0,if_false]at h4;omega
theorem sY(s:Bs)(n:Nat):textO (shortF s n) n=true:=by
 obtain⟨l,h1,h2,h3,h4⟩:=x9 s n;unfold textO;rw[h2,kR h1,ga h1,h3,N7 h4,N7 rfl];rfl
theorem sZ{s:Bs}{m n:Nat}(h:textO s m=true)(hn:m≤n):textO s n=true:=by
 unfold textO at h ⊢;simp only[K5,K8]at h ⊢;exact⟨⟨by omega,h.1.2⟩,h.2⟩
theorem uU(n:Nat):textO [] n=true:=by
 unfold textO;rw[N7 (by simp)];rfl
theorem hU{t:Bs}{m:Nat}(h:textF rightS cleanF t m=true):textO t m=true:=by
 unfold textF at h;unfold textO;simp only[K5,K8,beq_iff_eq]at*;exact⟨⟨by omega,h.2.1⟩,h.2.2⟩
theorem Aj{c:Int}{l:List Int}{n:Nat}(h:∀x∈c::l,Rune x)(hn:4≤n):cutF (encs (c::l)) n≠ []:=by
 have hc:=h c (by simp);have hp:=cL c;have h4:=(fq [c]).1;rw[ea]at h4;have hd:dec (encs (c::l)) 0=(c.toNat,(enc c).length):=by rw[aH,cj,fE hc]
 have hdr:(encs (c::l)).drop (enc c).length=encs l:=by rw[aH,W6 rfl]
 have hl:(encs (c::l)).length=(enc c).length+(encs l).length:=by rw[aH,K7]
 have hst:cutN (encs (c::l)).length (encs (c::l)) n=if n<(enc c).length then 0 else(enc c).length+cutN (encs l).length (encs l) (n-(enc c).length):=by
  obtain⟨f,hf⟩:∃f,(encs (c::l)).length=f+1:=⟨(encs (c::l)).length-1,by omega⟩;rw[hf,cutN,K4 iY,hd];simp only[];rw[hdr,iy f (encs l) _ (by omega)]
 simp only[Y8]at h4;rw[K4 (by omega)]at hst;unfold cutF;rw[hst];intro e;have:=N5 List.length e;rw[O3,M9]at this;omega
theorem xb{u:Bs}{n:Nat}(hn:4≤n)(h0:u≠ [])(hc:cleanF u=u):shortF u n≠ []:=by
 obtain⟨l,h1,h2,h3⟩:=mE u;rw[hc]at h2;cases l with
 |nil=>exact absurd h2 h0
 |cons c t=>
  have hz:=gF t false false;have hp:=cL c;simp only[O0,if_false,U9]at hz;have hl:(encs (c::t)).length=(enc c).length+(encs t).length:=by rw[aH,K7]
  have hb:¬blankR c=true:=fun hb=>by
   rw[clnG,L7 hb]at h3;rw[h3]at hz;omega
  have hk:¬ctlR c=true:=fun hk=>by
   rw[clnG,K4 hb,L7 hk]at h3;rw[h3]at hz;omega
  unfold shortF;rw[hc,h2];obtain⟨k,hk2⟩:=jC (c::t) n h1;have hne:=Aj h1 hn;rw[hk2]at hne ⊢;cases k with
  |zero=>exact absurd rfl hne
  |succ k=>
   rw[P0,ga (fun x hx=>h1 x (by
    rcases N0.1 hx with rfl|hx
    ·exact S9 ..
    ·exact Q1 _ (V7 hx))),clnG,K4 hb,K4 hk]
   exact iY
theorem Ak{f:Fe}(h:feT f):oneOk (feO f)=true:=by
 have hu:=hU h.2.1;have hc:cleanF f.url=f.url:=by
  unfold textO at hu;simp only[K5,K8]at hu;exact hu.2
 unfold oneOk feO;show(decide ((if f.title=[]then shortF f.url 256 else f.title)≠ [])&&textO (if f.title=[]then shortF f.url 256 else f.title) 256&&textO f.url 512&&(decide (f.url=[])||decide (([]:List Outl)=[])))=true;rw[hu];by_cases h0:f.title=[]
 ·rw[L7 h0,sY,N7 (xb (by omega) h.1 hc)];simp
 ·rw[K4 h0,hU h.2.2,N7 h0];simp
theorem Al{f:Fo}(h:f.name≠ []∧textF rightS cleanF f.name 64=true)(l:List Outl):oneOk ⟨f.name,[],l⟩=true:=by
 unfold oneOk;show(decide (f.name≠ [])&&textO f.name 256&&textO [] 512&&(decide (([]:Bs)=[])||decide (l=[])))=true;rw[sZ (hU (m:=64) h.2) (by omega),uU,N7 h.1];simp
def upN(up:Int→Int):Nat→Int→Int
 |0,x=>x
 |n+1,x=>up (upN up n x)
def inW(up:Int→Int)(d:Int→Nat)(i x:Int):Bool:=decide (d i≤d x)&&decide (upN up (d x-d i) x=i)
def sumN{α:Type}(g:α→Nat):List α→Nat
 | []=>0
 |a::l=>g a+sumN g l
theorem oF{α:Type}(g g':α→Nat)(l:List α):sumN (fun a=>g a+g' a) l=sumN g l+sumN g' l:=by
 induction l with
 |nil=>rfl
 |cons a l ih=>simp only[sumN,ih];omega
theorem xc{α:Type}(g:α→Nat)(a b:List α):sumN g (a++b)=sumN g a+sumN g b:=by
 induction a with
 |nil=>simp[sumN]
 |cons x a ih=>simp only[Q7,sumN,ih];omega
theorem xd{α β:Type}(g:β→Nat)(m:α→β)(l:List α):sumN g (l.map m)=sumN (fun a=>g (m a)) l:=by
 induction l with
 |nil=>rfl
 |cons a l ih=>simp only[N4,sumN,ih]
theorem yv{α:Type}{g g':α→Nat}{l:List α}(h:∀a∈l,g a≤g' a):sumN g l≤sumN g' l:=by
 induction l with
 |nil=>exact M0 _
 |cons a l ih=>
  have h1:=h a (S9 ..);have h2:=ih fun x hx=>h x (Q1 _ hx)
  simp only[sumN];omega
theorem xe{α:Type}(p:α→Bool)(l:List α):sumN (fun a=>if p a then 1 else 0) l=l.countP p:=by
 induction l with
 |nil=>rfl
 |cons a l ih=>rw[sumN,ih,List.countP_cons];omega
theorem fS{α:Type}{g:α→Nat}{l:List α}(h:∀a∈l,g a=0):sumN g l=0:=by
 induction l with
 |nil=>rfl
 |cons a l ih=>rw[sumN,h a (S9 ..),ih fun x hx=>h x (Q1 _ hx)]
def kidsI(fo:List Fo)(i:Int):List Fo:=fo.filter fun f=>decide (f.inn=i)
theorem mG{fo:List Fo}{i:Int}{f:Fo}(h:f∈kidsI fo i):f∈fo∧f.inn=i:=by
 unfold kidsI at h;rw[T9,K8]at h;exact h
theorem mH{p:Fo→Bool}:∀{L:List Fo},(L.map (·.id)).Nodup→(∀f∈L,∀g∈L,p f=true→p g=true→f.id=g.id)→L.countP p≤1
 | [],_,_=>by simp
 |f::L,nd,h=>by
  rw[N4,X4]at nd;have ih:=mH nd.2 fun a ha b hb=>h a (Q1 _ ha) b (Q1 _ hb)
  rw[List.countP_cons];by_cases hp:p f=true
  ·have:L.countP p=0:=by
    rw[List.countP_eq_zero];intro g hg hpg;have:=h f (S9 ..) g (Q1 _ hg) hp hpg;exact nd.1 (this▸M7.2 ⟨g,hg,rfl⟩)
   rw[this];split<;>omega
  ·rw[K4 hp];omega
section
variable {fo:List Fo} {up:Int→Int} {d:Int→Nat}
theorem Am(h:∀f∈fo,up f.id=f.inn∧d f.id=d f.inn+1)(nd:(fo.map (·.id)).Nodup)(i x:Int):(if decide (x=i)=true then 1 else 0)+(kidsI fo i).countP (fun f=>inW up d f.id x)≤if inW up d i x=true then 1 else 0:=by
 have hk:∀f∈kidsI fo i,inW up d f.id x=true→d f.id=d i+1∧d f.id≤d x∧upN up (d x-d f.id) x=f.id∧up f.id=i:=fun f hf hw=>by
  obtain⟨h1,h2⟩:=mG hf;unfold inW at hw;rw[K5,K8,K8]at hw;have:=h f h1;rw[h2]at this;exact⟨this.2,hw.1,hw.2,this.1⟩
 have hnd:((kidsI fo i).map (·.id)).Nodup:=nd.sublist (List.filter_sublist.map _);have h1:=mH (p:=fun f=>inW up d f.id x) hnd fun f hf g hg hpf hpg=>by
  have a:=hk f hf hpf;have b:=hk g hg hpg;rw[← a.2.2.1, ← b.2.2.1,a.1,b.1]
 have hin:inW up d i i=true:=by unfold inW;simp[upN]
 by_cases hx:x=i
 ·subst hx;have:(kidsI fo x).countP (fun f=>inW up d f.id x)=0:=by
   rw[List.countP_eq_zero];intro f hf hw;have:=hk f hf hw;omega
  rw[this,hin];simp
 ·rw[K4 (by simpa using hx)];by_cases hz:(kidsI fo i).countP (fun f=>inW up d f.id x)=0
  ·rw[hz];omega
  ·obtain⟨f,hf,hw⟩:=List.countP_pos_iff.1 (Nat.pos_of_ne_zero hz);have a:=hk f hf hw;rw[L7]
   ·omega
   ·unfold inW;rw[K5,K8,K8];refine⟨by omega,?_⟩;rw[show d x-d i=(d x-d f.id)+1 by omega,upN,a.2.2.1];exact a.2.2.2
theorem oG(h:∀f∈fo,up f.id=f.inn∧d f.id=d f.inn+1)(nd:(fo.map (·.id)).Nodup)(i:Int)(l:List Int):l.countP (fun x=>decide (x=i))+sumN (fun f=>l.countP (inW up d f.id)) (kidsI fo i)≤l.countP (inW up d i):=by
 induction l with
 |nil=>rw[show sumN (fun f:Fo=>List.countP (inW up d f.id) ([]:List Int)) (kidsI fo i)=0 from fS fun _ _=>rfl];simp
 |cons x l ih=>
  have h1:=Am h nd i x;have e:sumN (fun f:Fo=>(x::l).countP (inW up d f.id)) (kidsI fo i)=sumN (fun f=>l.countP (inW up d f.id)) (kidsI fo i)+(kidsI fo i).countP (fun f=>inW up d f.id x):=by
   rw[← xe, ← oF];congr 1
   funext f
   rw[List.countP_cons]
  rw[e,List.countP_cons,List.countP_cons];omega
theorem iI(g:List Outl→Nat):∀(t:List Outl) (n:Nat),(∀o∈t,oneOk o=true)→n+sumN (fun o:Outl=>g o.kids) t≤512→cntGo g t n=n+sumN (fun o:Outl=>g o.kids) t
 | [],n,_,_=>rfl
 |o::t,n,ho,hs=>by
  rw[sumN]at hs ⊢;rw[cntGo,L7 (ho o (S9 ..)),K4 (by omega),iI g t _ (fun x hx=>ho x (Q1 _ hx)) (by omega)];omega
theorem yw{fe:List Fe}(h:∀f∈fo,up f.id=f.inn∧d f.id=d f.inn+1)(nd:(fo.map (·.id)).Nodup)(ho:∀f∈fo,f.name≠ []∧textF rightS cleanF f.name 64=true)(hf:∀f∈fe,feT f)(hl:fo.length+fe.length≤512):
  ∀(k:Nat) (i:Int),cntN (k+1) (outF fo fe k i)≤(fo.map (·.inn)).countP (inW up d i)+(fe.map (·.inn)).countP (inW up d i):=by
 have hb:∀i,(fo.map (·.inn)).countP (inW up d i)+(fe.map (·.inn)).countP (inW up d i)≤512:=fun i=>by
  have h1:=List.countP_le_length (p:=inW up d i) (l:=fo.map (·.inn));have h2:=List.countP_le_length (p:=inW up d i) (l:=fe.map (·.inn));rw[L5]at h1 h2;omega
 have hkf:∀i,((fe.filter fun f=>decide (f.inn=i)).map feO).length=(fe.map (·.inn)).countP (fun x=>decide (x=i)):=fun i=>by
  rw[L5,List.countP_map,List.countP_eq_length_filter];rfl
 have hko:∀i,(kidsI fo i).length=(fo.map (·.inn)).countP (fun x=>decide (x=i)):=fun i=>by
  unfold kidsI;rw[List.countP_map,List.countP_eq_length_filter];rfl
 have hfeo:∀i,∀o∈ (fe.filter fun f=>decide (f.inn=i)).map feO,oneOk o=true∧o.kids=[]:=fun i o ho=>by
  obtain⟨f,hm,rfl⟩:=M7.1 ho;exact⟨Ak (hf f (T9.1 hm).1),rfl⟩
 intro k;induction k with
 |zero=>
  intro i;have a:=oG h nd i (fe.map (·.inn));have b:=hb i;have c:=hkf i;rw[outF,cntN,K4 (by omega),iI _ _ _ (fun o ho=>(hfeo i o ho).1) (by rw[fS (fun o ho=>by rw[(hfeo i o ho).2,gZ])];omega),fS (fun o ho=>by rw[(hfeo i o ho).2,gZ])];omega
 |succ k ih=>
  intro i;have a:=oG h nd i (fe.map (·.inn));have a2:=oG h nd i (fo.map (·.inn));have b:=hb i;have c:=hkf i;have c2:=hko i;have hs:sumN (fun o:Outl=>cntN (k+1) o.kids) (((kidsI fo i).map fun f=>(⟨f.name,[],outF fo fe k f.id⟩:Outl))++(fe.filter fun f=>decide (f.inn=i)).map feO)≤sumN (fun f:Fo=>(fo.map (·.inn)).countP (inW up d f.id)) (kidsI fo i)+sumN (fun f:Fo=>(fe.map (·.inn)).countP (inW up d f.id)) (kidsI fo i):=by
   rw[xc,fS (l:=(fe.filter fun f=>decide (f.inn=i)).map feO) (fun o ho=>by rw[(hfeo i o ho).2,gZ]),xd,U9, ← oF];exact yv fun f _=>ih f.id
  have hlen:(((kidsI fo i).map fun f=>(⟨f.name,[],outF fo fe k f.id⟩:Outl))++(fe.filter fun f=>decide (f.inn=i)).map feO).length=(kidsI fo i).length+(fe.map (·.inn)).countP (fun x=>decide (x=i)):=by
   rw[K7,c,L5]
  have hall:∀o∈ ((kidsI fo i).map fun f=>(⟨f.name,[],outF fo fe k f.id⟩:Outl))++(fe.filter fun f=>decide (f.inn=i)).map feO,oneOk o=true:=fun o hm=>by
   rcases R4.1 hm with hm|hm
   ·obtain⟨f,hm2,rfl⟩:=M7.1 hm;exact Al (ho f (mG hm2).1) _
   ·exact(hfeo i o hm).1
  show cntN (k+1+1) (((kidsI fo i).map fun f=>(⟨f.name,[],outF fo fe k f.id⟩:Outl))++(fe.filter fun f=>decide (f.inn=i)).map feO)≤_;generalize ((kidsI fo i).map fun f=>(⟨f.name,[],outF fo fe k f.id⟩:Outl))++(fe.filter fun f=>decide (f.inn=i)).map feO=l at*;rw[cntN,K4 (by omega),iI _ _ _ hall (by omega)];omega
end
theorem uZ:∀(f:Nat) (l:List Outl),cntN f l≤512→OkN f l
 |0,l,h=>by rw[fP h];exact OkN.nil 0
 |f+1,l,h=>by
  have hl:l.length≤512:=by
   rw[cntN]at h;by_cases hl:512<l.length
   ·rw[L7 hl]at h;omega
   ·omega
  refine⟨by omega,fun o ho=>?_⟩;have h1:=(fQ h).1 o ho;have h2:=h1.1;unfold oneOk textO at h2;simp only[K5,K8]at h2;exact⟨by omega,by omega,uZ f o.kids h1.2⟩
def PS.outl(s:PS):List Outl:=outF s.tell.fo s.tell.fe 7 0
theorem qM{s:PS}(hI:s.Inv)(hT:s.Txt):cntN 8 s.outl≤128:=by
 have hlo:s.tell.fo.length≤64:=by show(valsM Fo.z s.fo).length≤64;rw[dG];exact hI.l1
 have hle:s.tell.fe.length≤64:=by show(valsM Fe.z s.fe).length≤64;rw[dG];exact hI.l2
 have hup:∀f∈s.tell.fo,((lkM s.fo f.id).map (·.inn)).getD 0=f.inn∧s.dpt f.id=s.dpt f.inn+1:=fun f hf=>by
  obtain⟨k,hk⟩:=oD hf;have hid:=(hI.i1 _ _ hk).1;rw[← hid]at hk;obtain⟨h1,h2⟩:=hI.deep f.id;obtain⟨h3,h4⟩:=hI.deep f.inn;refine⟨by rw[hk];rfl,?_⟩;rw[deepO,hk]at h1;simp only[N3]at h1;obtain⟨d,hd,he⟩:=h1;have:=iD hd (k':=7) (by omega);rw[h3]at this;cases this;exact he.symm
 have nd:(s.tell.fo.map (·.id)).Nodup:=by
  show((valsM Fo.z s.fo).map (·.id)).Nodup;rw[uQ hI.w1 fun k a hk=>(hI.i1 k a hk).1];exact x8 hI.w1.keys
 have key:=yw (up:=fun x=>((lkM s.fo x).map (·.inn)).getD 0) (d:=s.dpt) hup nd (fun f hf=>by obtain⟨k,hk⟩:=oD hf;exact hT.fo k f hk) (fun f hf=>by obtain⟨k,hk⟩:=uS hf;exact hT.fe k f hk) (by omega) 7 0;have h1:=List.countP_le_length (p:=inW (fun x=>((lkM s.fo x).map (·.inn)).getD 0) s.dpt 0) (l:=s.tell.fo.map (·.inn));have h2:=List.countP_le_length (p:=inW (fun x=>((lkM s.fo x).map (·.inn)).getD 0) s.dpt 0) (l:=s.tell.fe.map (·.inn));rw[L5]at h1 h2;have key:cntN 8 (outF s.tell.fo s.tell.fe 7 0)≤_:=key;unfold PS.outl;omega
end
section
attribute [local irreducible] WP WPl WPix Sat
variable (G:Nat→Option (List AVal))
def feV(f:Fe):AVal:=.agg [.str (if f.title=[]then shortF f.url 256 else f.title),.str f.url,.nil (.slice none 0 0)]
theorem oH{H:Heap}{N:Nat}{a b c d:List AVal}(z:FrzRs H N a b)(w:FrzRs H N c d):FrzRs H N (a++c) (b++d):=by
 induction z with
 |nil=>exact w
 |cons x _ ih=>exact .cons x ih
theorem jD(H:Heap)(N:Nat):∀l:List Outl,FrzRs H N (l.map Outl.av) (l.map Outl.av)
 | []=>.nil
 |o::l=>.cons (FrzR.clo (Outl.clo _ o) o.av_sto) (jD H N l)
theorem lF(H:Heap)(N:Nat):∀l:List Fe,FrzRs H N (l.map feV) ((l.map feO).map Outl.av)
 | []=>.nil
 |f::l=>.cons (by
   rw[Outl.av_eq];exact FrzL.row (.cons (.clo _ (.str _)) (.cons (.clo _ (.str _)) (.cons (.nils 3) .nil))) rfl) (lF H N l)
theorem mI{fo:List Fo}{i:Int}{k:Nat}{y:Fo}(hy:fo[k]? =some y):kidsI (fo.take (k+1)) i=kidsI (fo.take k) i++if y.inn=i then [y]else []:=by
 unfold kidsI;rw[O7,hy,Option.toList_some,List.filter_append,V8];by_cases h:y.inn=i
 ·rw[L7 (by simpa using h),L7 h];rfl
 ·rw[K4 (by simpa using h),K4 h];rfl
def feedsI(fe:List Fe)(i:Int):List Fe:=fe.filter fun f=>decide (f.inn=i)
theorem kS{fe:List Fe}{i:Int}{k:Nat}{y:Fe}(hy:fe[k]? =some y):feedsI (fe.take (k+1)) i=feedsI (fe.take k) i++if y.inn=i then [y]else []:=by
 unfold feedsI;rw[O7,hy,Option.toList_some,List.filter_append,V8];by_cases h:y.inn=i
 ·rw[L7 (by simpa using h),L7 h];rfl
 ·rw[K4 (by simpa using h),K4 h];rfl
theorem iJ(x:St)(hlo:x.fo.length≤64)(hle:x.fe.length≤64)(hu:∀f∈x.fe,f.url.length≤512)(g:Int→List Outl)(i:Int)
  (hg:∀f∈x.fo,f.inn=i→∀h,Sat (CT G) 54 [x.av,.int .i64 f.id] h (fun r h'=>r=.sl 3 ((g f.id).map Outl.av)∧h'=h))(h:Heap):
  Sat (CT G) 54 [x.av,.int .i64 i] h (fun r h'=>r=.sl 3 ((((kidsI x.fo i).map fun f=>(⟨f.name,[],g f.id⟩:Outl))++(feedsI x.fe i).map feO).map Outl.av)∧h'=h):=by
 have he1:(x.fo.map Fo.av).length=x.fo.length:=L5 ..;have he2:(x.fe.map Fe.av).length=x.fe.length:=L5 ..;have F:=F3 he1 he2 @ax;refine sb [.tmp 4] Tryz.func54 ?_;intro Q hQ;refine wk F ?_;refine lm (fun nL tL hL=>∃(k v:Nat) (acc:List Outl) (j:Heap),x.fo.length-k=nL∧h++(.row 107 9 0 [x.av]:: .row 55 3 v (acc.map Outl.av)::j)=hL∧tL 5=.hs (h.length+1) v 0 acc.length true∧tL 15=.int .i64 k∧k≤x.fo.length∧acc.length≤k∧acc=(kidsI (x.fo.take k) i).map fun f=>(⟨f.name,[],g f.id⟩:Outl)) ((fun(k v:Nat) (acc:List Outl) (j:Heap)=>(x.fo.length-k:Nat)) (0) (0) ([]) ([])) ?_ ?_
 ·refine⟨_,_,W9 5 55 3 (by simp) (by omega) (by exact zq F),⟨0,0,[],[],rfl,aw,?_,?_,by omega,by simp,rfl⟩⟩;all_goals try exact zZz F
 rintro _ s2 h' ⟨k,v,acc,j,rfl,rfl,e5,e15,hk,hal,hac⟩ K2 hK2;simp only[ah,ao,Nat.reduceEqDiff, ↓reduceIte]at e5 e15;have F:=F3 F e5 e15;by_cases c2:k<x.fo.length
 ·have d2:=N7 c2;obtain⟨y,hy,hym⟩:=ac c2;have hm:(x.fo.map Fo.av)[k]? =some y.av:=by rw[M5,hy];rfl
  have hkt:=mI (i:=i) hy;have hgy:=hg y hym;obtain⟨y1,y2,y3⟩:=y;rw[Fo.av_eq]at hm;simp only[]at hm hkt hgy;by_cases ca:y2=i
  ·have qa:(y2==i)=true:=(by simp[ca]);rw[L7 ca]at hkt;have F:=F6 F hm hy d2 c2 qa;(try refine sq F ?_);refine wk F ?_;refine aG (hgy ca _) ?_;(try refine sq F ?_);refine wk F ?_;refine aq F ?_;(try refine sq F ?_);refine wk F ?_;refine hK2 _ _ _ (L8 ⟨k+1,v+1,acc++[⟨y3,[],g y1⟩],j++[.row 44 3 0 [.agg [.int .i64 y1,.int .i64 y2,.str y3]]],rfl,by simp[St.av,Outl.av_eq,Outl.title,Outl.url,Outl.kids],?_,?_,by omega,by simp;omega,by rw[hkt,P2,hac];rfl⟩) (by omega);all_goals try exact zZz F
  ·have qa:(y2==i)=false:=(by simp[ca]);rw[K4 ca,O1]at hkt;have F:=F6 F hm hy d2 c2 qa;(try refine sq F ?_);refine wk F ?_;refine hK2 _ _ _ (L8 ⟨k+1,v,acc,j++[.row 44 3 0 [.agg [.int .i64 y1,.int .i64 y2,.str y3]]],rfl,aw,?_,?_,by omega,by omega,by rw[hkt];exact hac⟩) (by omega);all_goals try exact zZz F
 have d2:=N8 c2;rw[M4 (by omega)]at hac;have hkx:k=x.fo.length:=by omega
 clear hg;subst hac;generalize (kidsI x.fo i).map (fun f=>(⟨f.name,[],g f.id⟩:Outl))=A at*;have hA:(A.map Outl.av).length=A.length:=L5 ..;have F:=F3 F d2 hA;try refine sq F ?_
 refine wk F ?_;refine lm (fun nL tL hL=>∃(k2 v2:Nat) (acc:List Fe) (j2:Heap),x.fe.length-k2=nL∧h++(.row 107 9 0 [x.av]:: .row 55 3 v2 (A.map Outl.av++acc.map feV)::j2)=hL∧tL 5=.hs (h.length+1) v2 0 (A.length+acc.length) true∧tL 38=.int .i64 k2∧k2≤x.fe.length∧acc.length≤k2∧acc=feedsI (x.fe.take k2) i) ((fun(k2 v2:Nat) (acc:List Fe) (j2:Heap)=>(x.fe.length-k2:Nat)) (0) (v) ([]) (j)) ?_ ?_
 ·refine L8 ⟨0,v,[],j,rfl,by simp[St.av],?_,?_,by omega,by simp,rfl⟩;all_goals try exact zZz F
 rintro _ s3 h' ⟨k2,v2,acc,j2,rfl,rfl,e5,e38,hk2,hal2,hac2⟩ K3 hK3;simp only[ah,ao,Nat.reduceEqDiff, ↓reduceIte]at e5 e38;have F:=F3 F e5 e38;by_cases c3:k2<x.fe.length
 ·have d3:=N7 c3;obtain⟨y,hy,hym⟩:=ac c3;have hm:(x.fe.map Fe.av)[k2]? =some y.av:=by rw[M5,hy];rfl
  have hkt:=kS (i:=i) hy;have hus:=hu y hym;obtain⟨y1,y2,y3,y4⟩:=y;rw[Fe.av_eq]at hm;simp only[]at hm hkt hus;by_cases ca:y2=i
  ·have qa:(y2 !=i)=false:=(by simp[ca]);rw[L7 ca]at hkt;by_cases ct:y4=[]
   ·have qt:(y4==([]:Bs))=true:=(by simp[ct]);have hv:feV ⟨y1,y2,y3,y4⟩=.agg [.str (shortF y3 256),.str y3,.nil (.slice none 0 0)]:=(by unfold feV;simp[ct]);have F:=F7 F hm hy d3 c3 qa qt;(try refine sq F ?_);refine wk F ?_;refine kq F (jh G y3 256 (by omega) (by omega) _) ?_;refine aq F ?_;(try refine sq F ?_);refine wk F ?_;refine hK3 _ _ _ (L8 ⟨k2+1,v2+1,acc++[⟨y1,y2,y3,y4⟩],j2++[Blk.row 48 4 0 [.agg [.int .i64 y1,.int .i64 y2,.str y3,.str y4]],Blk.row 55 3 0 [.agg [.str (shortF y3 256),.str y3,.nil (.slice none 0 0)]]],rfl,by simp[St.av,hv],?_,?_,by omega,by simp;omega,by rw[hkt,hac2]⟩) (by omega);all_goals try exact zZz F
   ·have qt:(y4==([]:Bs))=false:=(by simp[ct]);have hv:feV ⟨y1,y2,y3,y4⟩=.agg [.str y4,.str y3,.nil (.slice none 0 0)]:=(by unfold feV;simp[ct]);have F:=F7 F hm hy d3 c3 qa qt;(try refine sq F ?_);refine wk F ?_;refine aq F ?_;(try refine sq F ?_);refine wk F ?_;refine hK3 _ _ _ (L8 ⟨k2+1,v2+1,acc++[⟨y1,y2,y3,y4⟩],j2++[Blk.row 48 4 0 [.agg [.int .i64 y1,.int .i64 y2,.str y3,.str y4]],Blk.row 55 3 0 [.agg [.str y4,.str y3,.nil (.slice none 0 0)]]],rfl,by simp[St.av,hv],?_,?_,by omega,by simp;omega,by rw[hkt,hac2]⟩) (by omega);all_goals try exact zZz F
  ·have qa:(y2 !=i)=true:=(by simp[ca]);rw[K4 ca,O1]at hkt;have F:=F6 F hm hy d3 c3 qa;(try refine sq F ?_);refine wk F ?_;refine hK3 _ _ _ (L8 ⟨k2+1,v2,acc,j2++[Blk.row 48 4 0 [.agg [.int .i64 y1,.int .i64 y2,.str y3,.str y4]]],rfl,aw,?_,?_,by omega,by omega,by rw[hkt];exact hac2⟩) (by omega);all_goals try exact zZz F
 ·have d3:=N8 c3;rw[M4 (by omega)]at hac2;have F:=F2 F d3;try refine sq F ?_
  refine wk F ?_;refine ee hQ F ?_;subst hac2;refine za6 ?_ ⟨rfl,rfl⟩;rw[P2];exact FrzRs.hs (by rw[bx _ rfl];simp[getRow];rfl) (by simp) (by omega) (oH (jD _ _ A) (lF _ _ _))
theorem lG(x:St)(hlo:x.fo.length≤64)(hle:x.fe.length≤64)(hu:∀f∈x.fe,f.url.length≤512):∀(k:Nat) (i:Int),Lv x.fo k i→∀h:Heap,
  Sat (CT G) 54 [x.av,.int .i64 i] h (fun r h'=>r=.sl 3 ((outF x.fo x.fe k i).map Outl.av)∧h'=h):=by
 intro k;induction k with
 |zero=>
  intro i hL h;have:=iJ G x hlo hle hu (fun _=>[]) i (fun f hf hi=>absurd hi (hL f hf)) h;rw[show kidsI x.fo i=[]from uR hL]at this;exact this
 |succ k ih=>
  intro i hL h;exact iJ G x hlo hle hu (fun j=>outF x.fo x.fe k j) i (fun f hf hi=>ih f.id (hL f hf hi)) h
section
variable {s:PS} {X:Heap} {n:Nat}
theorem mJ(hI:s.Inv)(hT:s.Txt):s.tell.fo.length≤64∧s.tell.fe.length≤64∧∀f∈s.tell.fe,f.url.length≤512:=by
 refine⟨by show(valsM Fo.z s.fo).length≤64;rw[dG];exact hI.l1,by show(valsM Fe.z s.fe).length≤64;rw[dG];exact hI.l2,fun f hf=>?_⟩;obtain⟨k,hk⟩:=uS hf;have:=hU (hT.fe k f hk).2.1;unfold textO at this;simp only[K5,K8]at this;exact this.1.1
theorem ib(hI:s.Inv)(hT:s.Txt)(hn:n+9≤X.length):Sat (CT G) 24 [.hp (n+8) 0 0 0] (so X n s) (fun r h'=>r=.sl 3 (s.outl.map Outl.av)∧h'=so X n s):=by
 have hTl:=f4 G s hI.toOk hn;obtain⟨h1,h2,h3⟩:=mJ hI hT;have hW:=lG G s.tell h1 h2 h3 7 0 (uT hI) (so X n s);unfold PS.outl;generalize outF s.tell.fo s.tell.fe 7 0=l at*;generalize s.tell=x at*;have F:= @ax;refine sb [.tmp 2] Tryz.func24 ?_;intro Q hQ;refine wk F ?_;refine kq F (hTl) ?_;refine kq F (hW) ?_;refine ee hQ F ?_;exact bm hn (Outls.clo _ _ _) ⟨rfl,rfl⟩
end
def kidsO(x:St)(g:Int→List Outl)(i dp:Int):List Outl:=if dp<9 then(kidsI x.fo i).map (fun f=>(⟨f.name,[],g f.id⟩:Outl))else []
theorem iK(x:St)(hlo:x.fo.length≤64)(hle:x.fe.length≤64)(hu:∀f∈x.fe,f.url.length≤512)(g:Int→List Outl)(i:Int)(dp:Int)(hd:0≤dp∧dp≤9)
  (hg:dp<9→∀f∈x.fo,f.inn=i→∀h,Sat (CT G) 50 [x.av,.int .i64 f.id,.int .i64 (dp+1)] h (fun r h'=>r=.sl 3 ((g f.id).map Outl.av)∧h'=h))(h:Heap):
  Sat (CT G) 50 [x.av,.int .i64 i,.int .i64 dp] h (fun r h'=>r=.sl 3 ((kidsO x g i dp++(feedsI x.fe i).map feO).map Outl.av)∧h'=h):=by
 have he1:(x.fo.map Fo.av).length=x.fo.length:=L5 ..;have he2:(x.fe.map Fe.av).length=x.fe.length:=L5 ..;have F:=F3 he1 he2 @ax;refine sb [.tmp 6] Tryz.func50 ?_;intro Q hQ;refine wk F ?_;refine lm (fun nL tL hL=>∃(k v:Nat) (acc:List Outl),x.fo.length-k=nL∧h++[.row 41 9 0 [x.av],.row 55 3 v (acc.map Outl.av)]=hL∧tL 7=.hs (h.length+1) v 0 acc.length true∧tL 8=.int .i64 k∧k≤x.fo.length∧acc.length≤k∧acc=(kidsI (x.fo.take k) i).map (fun f=>(⟨f.name,[],g f.id⟩:Outl))∧(¬dp<9→k=0)) ((fun(k v:Nat) (acc:List Outl)=>(x.fo.length-k:Nat)) (0) (0) ([])) ?_ ?_
 ·refine⟨_,_,W9 7 55 3 (by simp) (by omega) (by exact zq F),⟨0,0,[],rfl,aw,?_,?_,by omega,by simp,rfl,fun _=>rfl⟩⟩;all_goals try exact zZz F
 rintro _ s2 h' ⟨k,v,acc,rfl,rfl,e7,e8,hk,hal,hac,hk0⟩ K2 hK2;simp only[ah,ao,Nat.reduceEqDiff, ↓reduceIte]at e7 e8;have F:=F3 F e7 e8;by_cases c23:k<x.fo.length∧dp<9
 ·obtain⟨c2,c9⟩:=c23;have d2:=N7 c2;have d9:=N7 c9;obtain⟨y,hy,hym⟩:=ac c2;have hm:(x.fo.map Fo.av)[k]? =some y.av:=by rw[M5,hy];rfl
  have hkt:=mI (i:=i) hy;have hgy:=hg c9 y hym;obtain⟨y1,y2,y3⟩:=y;rw[Fo.av_eq]at hm;simp only[]at hm hkt hgy;by_cases ca:y2=i
  ·have qa:(y2==i)=true:=(by simp[ca]);rw[L7 ca]at hkt;have F:=F7 F hm hy d2 d9 c2 qa;(try refine sq F ?_);refine wk F ?_;refine aG (hgy ca _) ?_;(try refine sq F ?_);refine wk F ?_;refine aq F ?_;(try refine sq F ?_);refine wk F ?_;refine hK2 _ _ _ (L8 ⟨k+1,v+1,acc++[⟨y3,[],g y1⟩],rfl,by simp[St.av,Outl.av_eq,Outl.title,Outl.url,Outl.kids],?_,?_,by omega,by simp;omega,by rw[hkt,P2,hac];rfl,fun q=>absurd c9 q⟩) (by omega);all_goals try exact zZz F
  ·have qa:(y2==i)=false:=(by simp[ca]);rw[K4 ca,O1]at hkt;have F:=F7 F hm hy d2 d9 c2 qa;(try refine sq F ?_);refine wk F ?_;refine hK2 _ _ _ (L8 ⟨k+1,v,acc,rfl,aw,?_,?_,by omega,by omega,by rw[hkt];exact hac,fun q=>absurd c9 q⟩) (by omega);all_goals try exact zZz F
 have hA:acc=kidsO x g i dp:=by
  unfold kidsO;by_cases c9:dp<9
  ·rw[L7 c9,hac,M4 (by omega)]
  ·rw[K4 c9,hac,hk0 c9];rfl
 rw[← hA]at hQ;clear hA hac hg;have hAl:(acc.map Outl.av).length=acc.length:=L5 ..;have ht:(decide (k<x.fo.length)=false)∨(decide (k<x.fo.length)=true∧decide (dp<9)=false):=by
  by_cases c2:k<x.fo.length
  ·exact .inr ⟨N7 (by omega),N8 (by omega)⟩
  ·exact .inl (N8 (by omega))
 rcases ht with ht|ht;all_goals (
 have F:=F3 F ht hAl;try refine sq F ?_
 refine wk F ?_;refine lm (fun nL tL hL=>∃(k2 v2:Nat) (ac2:List Fe) (j2:Heap),x.fe.length-k2=nL∧h++(.row 41 9 0 [x.av]:: .row 55 3 v2 (acc.map Outl.av++ac2.map feV)::j2)=hL∧tL 7=.hs (h.length+1) v2 0 (acc.length+ac2.length) true∧tL 9=.int .i64 k2∧k2≤x.fe.length∧ac2.length≤k2∧ac2=feedsI (x.fe.take k2) i) ((fun(k2 v2:Nat) (ac2:List Fe) (j2:Heap)=>(x.fe.length-k2:Nat)) (0) (v) ([]) ([])) ?_ ?_
 ·refine L8 ⟨0,v,[],[],rfl,by simp[St.av],?_,?_,by omega,by simp,rfl⟩;all_goals try exact zZz F
 rintro _ s3 h' ⟨k2,v2,ac2,j2,rfl,rfl,e7,e9,hk2,hal2,hac2⟩ K3 hK3;simp only[ah,ao,Nat.reduceEqDiff, ↓reduceIte]at e7 e9;have F:=F3 F e7 e9;by_cases c3:k2<x.fe.length
 ·have d3:=N7 c3;obtain⟨y,hy,hym⟩:=ac c3;have hm:(x.fe.map Fe.av)[k2]? =some y.av:=by rw[M5,hy];rfl
  have hkt:=kS (i:=i) hy;have hus:=hu y hym;obtain⟨y1,y2,y3,y4⟩:=y;rw[Fe.av_eq]at hm;simp only[]at hm hkt hus;by_cases ca:y2=i
  ·have qa:(y2 !=i)=false:=(by simp[ca]);rw[L7 ca]at hkt;by_cases ct:y4=[]
   ·have qt:(y4==([]:Bs))=true:=(by simp[ct]);have hv:feV ⟨y1,y2,y3,y4⟩=.agg [.str (shortF y3 256),.str y3,.nil (.slice none 0 0)]:=(by unfold feV;simp[ct]);have F:=F7 F hm hy d3 c3 qa qt;(try refine sq F ?_);refine wk F ?_;refine kq F (oy G y3 256 (by omega) (by omega) _) ?_;refine aq F ?_;(try refine sq F ?_);refine wk F ?_;refine hK3 _ _ _ (L8 ⟨k2+1,v2+1,ac2++[⟨y1,y2,y3,y4⟩],j2++[Blk.row 48 4 0 [.agg [.int .i64 y1,.int .i64 y2,.str y3,.str y4]],Blk.row 55 3 0 [.agg [.str (shortF y3 256),.str y3,.nil (.slice none 0 0)]]],rfl,by simp[St.av,hv],?_,?_,by omega,by simp;omega,by rw[hkt,hac2]⟩) (by omega);all_goals try exact zZz F
   ·have qt:(y4==([]:Bs))=false:=(by simp[ct]);have hv:feV ⟨y1,y2,y3,y4⟩=.agg [.str y4,.str y3,.nil (.slice none 0 0)]:=(by unfold feV;simp[ct]);have F:=F7 F hm hy d3 c3 qa qt;(try refine sq F ?_);refine wk F ?_;refine aq F ?_;(try refine sq F ?_);refine wk F ?_;refine hK3 _ _ _ (L8 ⟨k2+1,v2+1,ac2++[⟨y1,y2,y3,y4⟩],j2++[Blk.row 48 4 0 [.agg [.int .i64 y1,.int .i64 y2,.str y3,.str y4]],Blk.row 55 3 0 [.agg [.str y4,.str y3,.nil (.slice none 0 0)]]],rfl,by simp[St.av,hv],?_,?_,by omega,by simp;omega,by rw[hkt,hac2]⟩) (by omega);all_goals try exact zZz F
  ·have qa:(y2 !=i)=true:=(by simp[ca]);rw[K4 ca,O1]at hkt;have F:=F6 F hm hy d3 c3 qa;(try refine sq F ?_);refine wk F ?_;refine hK3 _ _ _ (L8 ⟨k2+1,v2,ac2,j2++[Blk.row 48 4 0 [.agg [.int .i64 y1,.int .i64 y2,.str y3,.str y4]]],rfl,aw,?_,?_,by omega,by omega,by rw[hkt];exact hac2⟩) (by omega);all_goals try exact zZz F
 ·have d3:=N8 c3;rw[M4 (by omega)]at hac2;have F:=F2 F d3;try refine sq F ?_
  refine wk F ?_;refine ee hQ F ?_;subst hac2;refine za6 ?_ ⟨rfl,rfl⟩;rw[P2];exact FrzRs.hs (by rw[bx _ rfl];simp[getRow];rfl) (by simp) (by omega) (oH (jD _ _ acc) (lF _ _ _)))
theorem lH(x:St)(hlo:x.fo.length≤64)(hle:x.fe.length≤64)(hu:∀f∈x.fe,f.url.length≤512):∀(k d:Nat) (i:Int),d+k=9→∀h:Heap,
  Sat (CT G) 50 [x.av,.int .i64 i,.int .i64 d] h (fun r h'=>r=.sl 3 ((outF x.fo x.fe k i).map Outl.av)∧h'=h):=by
 intro k;induction k with
 |zero=>
  intro d i hd h;have:=iK G x hlo hle hu (fun _=>[]) i d (by omega) (fun q=>by omega) h;unfold kidsO at this;rw[K4 (by omega)]at this;exact this
 |succ k ih=>
  intro d i hd h;have:=iK G x hlo hle hu (fun j=>outF x.fo x.fe k j) i d (by omega) (fun q f hf hi h=>by have:=ih (d+1) f.id (by omega) h;rw[Int.natCast_add]at this;exact this) h;unfold kidsO at this;rw[L7 (by omega)]at this;exact this
theorem mV{s:PS}(hI:s.Inv)(hT:s.Txt)(h:Heap):Sat (CT G) 20 [s.tell.av] h (fun r h'=>r=.sl 3 (s.outl.map Outl.av)∧h'=h):=by
 obtain⟨h1,h2,h3⟩:=mJ hI hT;have hW:=lH G s.tell h1 h2 h3 9 0 0 (by omega);rw[show outF s.tell.fo s.tell.fe 9 0=outF s.tell.fo s.tell.fe 7 0 from mC (uT hI) 2]at hW;unfold PS.outl;generalize outF s.tell.fo s.tell.fe 7 0=l at*;generalize s.tell=x at*;refine sb [.tmp 2] Tryz.func20 ?_;intro Q hQ;refine wk trivial ?_;refine kq trivial (hW _) ?_;refine ee hQ trivial ?_;exact K9 (Outls.clo _ _ _) ⟨rfl,rfl⟩
section
variable {s:PS} {X:Heap} {n:Nat}
theorem oM(hI:s.Inv)(hT:s.Txt):okOl s.outl=true∧OkN 8 s.outl∧szs Outl.sz s.outl≤400000∧(wrF 8 s.outl).length≤3000000:=by
 have h1:=qM hI hT;have h2:okOl s.outl=true:=N7 (by omega);have h3:=v7 h2;exact⟨h2,uZ 8 _ (by omega),h3.2,h3.1⟩
theorem pV(hI:s.Inv)(hT:s.Txt)(hn:n+9≤X.length):Sat (CT G) 21 [.hp (n+8) 0 0 0] (so X n s) (fun r h'=>r=.tup [.str (docF 8 s.outl),.int .i64 0]∧h'=so X n s):=by
 have hO:=ib G hI hT hn;obtain⟨h1,h2,h3,h4⟩:=oM hI hT;have hW:=pU G s.outl h2 (by omega) (fun _=>by omega);rw[h1]at hW;generalize s.outl=l at*;have hW:∀h,Sat (CT G) 51 [.sl 3 (l.map Outl.av)] h (fun r h'=>r=.tup [.str (docF 8 l),.int .i64 0]∧h'=h):=hW;refine sb [.tmp 2,.tmp 3] Tryz.func21 ?_;intro Q hQ;refine wk trivial ?_;refine kq trivial (hO) ?_;refine kq trivial (hW _) ?_;refine ye hQ trivial ?_;exact bm hn (.tup _ (by intro c hc;simp at hc;rcases hc with rfl|rfl;exact .str _;exact .int _ _)) ⟨rfl,rfl⟩
end
end
end Go.Av
