import Derived.Test.YtnolelibaahimaaGreatDoorQEp17
set_option linter.unusedSimpArgs false
set_option Elab.async false
set_option maxRecDepth 100000
set_option maxHeartbeats 16000000
namespace Go.Av
open Go Go.Proofs Go.RowKit
section
attribute [local irreducible] WP WPl WPix Sat
def d24:Bs:=[60,111,112,109,108,32,118,101,114,115,105,111,110,61,34,50,46,48,34,62,60,98,111,100,121,62,60,111,117,116,108,105,110,101,32,116,101,120,116,61,34,116,101,99,104,34,62,60,111,117,116,108,105,110,101,32,116,101,120,116,61,34,65,34,32,120,109,108,85,114,108,61,34,117,34,62,60,47,111,117,116,108,105,110,101,62,60,47,111,117,116,108,105,110,101,62,60,111,117,116,108,105,110,101,32,116,101,120,116,61,34,116,101,99,104,34,62,60,47,111,117,116,108,105,110,101,62,60,47,98,111,100,121,62,60,47,111,112,109,108,62]
def e24:Bs:=[60,111,112,109,108,32,118,101,114,115,105,111,110,61,34,50,46,48,34,62,60,98,111,100,121,62,60,111,117,116,108,105,110,101,32,116,101,120,116,61,34,116,101,99,104,34,62,60,111,117,116,108,105,110,101,32,116,101,120,116,61,34,65,34,32,120,109,108,85,114,108,61,34,117,34,62,60,47,111,117,116,108,105,110,101,62,60,47,111,117,116,108,105,110,101,62,60,47,98,111,100,121,62,60,47,111,112,109,108,62]
def a24:AVal:=.agg [.str bTech,.str [],.sl 3 [.agg [.str [65],.str [117],.nil (.slice none 0 0)]]]
def b24:AVal:=.agg [.str bTech,.str [],.nil (.slice none 0 0)]
def v24:AVal:=.sl 7 [.agg [.int .i64 1,.int .i64 1,.int .i64 0,.int .i64 0,.str bTech,.str [],.str []],.agg [.int .i64 3,.int .i64 1,.int .i64 1,.int .i64 0,.str [117],.str [65],.str []]]
def tE9(a:Bs)(l m:List AVal):AVal:=.agg [.str a,.sl 2 l,.str [],.sl 4 m]
def tq9(a b:Bs):AVal:=.agg [.str a,.str b]
def t24:AVal:=let o:Bs:=[111,117,116,108,105,110,101];let x:Bs:=[116,101,120,116];tE9 [111,112,109,108] [tq9 [118,101,114,115,105,111,110] [50,46,48]] [tE9 [98,111,100,121] [] [tE9 o [tq9 x bTech] [tE9 o [tq9 x [65],tq9 [120,109,108,85,114,108] [117]] []],tE9 o [tq9 x bTech] []]]
def oT9(f:FuncId)(a:List AVal):Option AVal:=match a with
 |[.str s]=>if f=104∧s=d24 then some (.tup [t24,.int .i64 0]) else orcX f a
 |_=>orcX f a
theorem vc:okX l24=true:=by kernel_rfl
def smN:Nat→List Outl→Bool
 |0,l=>l.isEmpty
 |f+1,l=>decide (l.length≤100)&&l.all fun o=>decide (o.title.length≤100)&&decide (o.url.length≤100)&&smN f o.kids
theorem np:∀(f:Nat) (l:List Outl),smN f l=true→OkN f l
 |0,l,h=>by
  cases l with
  |nil=>exact OkN.nil 0
  |cons o l=>cases h
 |f+1,l,h=>by
  unfold smN at h;rw[I1,I4,M2]at h;refine⟨by omega,fun o ho=>?_⟩;have:=h.2 o ho;rw[I1,I1,I4,I4]at this;exact⟨by omega,by omega,np f o.kids this.2⟩
section
variable (G:Nat→Option (List AVal))
section
variable {s:PS} {X:Heap} {n:Nat}
theorem jZ(hn:n+9≤X.length)(T:s.Top2)(t:Bs)(l:List Outl)(hR:∀h,Sat (CT G) 56 [.str t] h (fun r h'=>r=.tup [.sl 3 (l.map Outl.av),.int .i64 0]∧h'=h))(hk:okX l=true)(hz:szs Outl.sz l≤2097152):
  Sat (CT G) 26 [.hp (n+8) 0 0 0,.str t] (so X n s) (fun r h'=>r=exR ((brgF nfX 8 0 l s).2,0)∧h'=so X n (brgF nfX 8 0 l s).1):=by
 have hB:=iQ G (s:=s) (H:=X) (n:=n) hn T l (qQ 8 l (Q8 hk)) hz;generalize brgF nfX 8 0 l s=p at*;obtain⟨z,ws⟩:=p;simp only[]at hB ⊢;refine sb [.tmp 4,.tmp 5] Tryz.func26 ?_;intro Q hQ;refine wk trivial ?_;refine kq trivial (hR _) ?_;refine kq trivial (hB) ?_;refine ye hQ trivial ?_;exact br hn (p5 _ (_,_)) ⟨rfl,rfl⟩
theorem qW(hn:n+9≤X.length)(t:Bs)(c:Int)(hR:∀h,Sat (CT G) 56 [.str t] h (fun r h'=>r=.tup [.sl 3 [],.int .i64 c]∧h'=h))(hc:c≠0):
  Sat (CT G) 26 [.hp (n+8) 0 0 0,.str t] (so X n s) (fun r h'=>r=exR ([],c)∧h'=so X n s):=by
 have q:(c !=0)=true:=by simpa using hc
 have F:=q;refine sb [.tmp 4,.tmp 5] Tryz.func26 ?_;intro Q hQ;refine wk F ?_;refine kq F (hR _) ?_;refine ye hQ F ?_;have:=bT (j:=[]) (s:=s) (s':=s) (R:=fun r h'=>r=exR ([],c)∧h'=so X n s) hn (p6 (so (X++[]) n s) X.length c) ⟨rfl,rfl⟩;rw[M4]at this;exact this
end
theorem yc:isV (.bool true) (callX (CT G) orcX 1000 100 29 [v24,v24] [])=true:=by kernel_rfl
theorem yx9:isW (.tup [t24,.int .i64 0]) (callX (CT G) orcX 1000 100 104 [.str d24] [])=true:=by kernel_rfl
theorem yz9(hG:GOk G)(hc:GClo (CT G)):OrcOk (CT G) oT9:=by
 intro f a r g h;unfold oT9 at g;split at g
 ·split at g
  ·rename_i e;obtain⟨rfl,rfl⟩:=e;cases g;exact Sat.closedW hc (cU hG) 1000 100 rfl (yx9 G) h
  ·exact cU hG f _ _ g h
 ·exact cU hG f _ _ g h
theorem yd:isW (.tup [.sl 3 (l24.map Outl.av),.int .i64 0]) (callX (CT G) oT9 1000 100 56 [.str d24] [])=true:=by kernel_rfl
theorem yf:isW (.tup [.sl 3 [],.int .i64 90]) (callX (CT G) orcX 1000 100 56 [.str []] [])=true:=by kernel_rfl
theorem yg:isW (.str d24) (callX (CT G) orcX 1000 100 22 [.sl 3 [a24,b24]] [])=true:=by kernel_rfl
theorem yh:isW (.str e24) (callX (CT G) orcX 1000 100 22 [.sl 3 [a24]] [])=true:=by kernel_rfl
theorem yi:isW (.bool true) (callX (CT G) orcX 1000 100 23 [.sl 3 ([o24].map Outl.av),.sl 3 [a24]] [])=true:=by kernel_rfl
theorem yj:isW (.sl 3 ([o24].map Outl.av)) (callX (CT G) orcX 1000 100 54 [x24.av,.int .i64 0] [])=true:=by kernel_rfl
theorem yk:isW (.tup [.str e24,.int .i64 0]) (callX (CT G) orcX 1000 100 51 [.sl 3 ([o24].map Outl.av)] [])=true:=by kernel_rfl
theorem oo(hG:GOk G)(hc:GClo (CT G))(h:Heap):Sat (CT G) 10 [] h (fun r h'=>r=.bool true∧h'=h):=by
 have hN:=li G h;have hz9:(PS.z.bl h.length).length=9:=rfl;obtain⟨H0,hH0⟩:∃H0,H0=h++PS.z.bl h.length:=⟨_,rfl⟩;rw[← hH0]at hN;have hl0:H0.length=h.length+9:=by rw[hH0];simp[hz9]
 have hn00:h.length+9≤H0.length:=by omega
 have hC:=iR G;have hK:OkN 8 l24:=np 8 l24 rfl;have hS:=fun h=>Sat.closedD hc (cU hG) 1000 100 (f:=29) (args:=[v24,v24]) (v:=.bool true) rfl rfl (yc G) h
 have wk1:∀(i:Nat) (x y:AVal),([.hp (h.length+8) 0 0 0,.sl 3 [a24,b24]]:List AVal)[i]? =some x→([.hp (h.length+8) 0 0 0,.sl 3 (l24.map Outl.av)]:List AVal)[i]? =some y→Wk x y:=fun i x y hx hy=>by
  match i with
  |0=>cases hx;cases hy;exact Wk.refl _
  |1=>cases hx;cases hy;exact mR 9 _ _ rfl
  |i+2=>cases hx
 have wk5:∀(i:Nat) (x y:AVal),([.hp (h.length+8) 0 0 0,.sl 3 [.agg [.str [],.str [],.nil (.slice none 0 0)]]]:List AVal)[i]? =some x→([.hp (h.length+8) 0 0 0,.sl 3 ([(⟨[],[],[]⟩:Outl)].map Outl.av)]:List AVal)[i]? =some y→Wk x y:=fun i x y hx hy=>by
  match i with
  |0=>cases hx;cases hy;exact Wk.refl _
  |1=>cases hx;cases hy;exact mR 9 _ _ rfl
  |i+2=>cases hx
 have dP:=gA G (s:=PS.z) (X:=H0) (n:=h.length) hC hn00 PS.Top2.z0 l24 hK (by decide);rw[show exF PS.z l24=(w24,0)from by unfold exF;rw[vc,lP];rfl]at dP;have dP:=Sat.wk (by rfl) wk1 dP;have dB:=gA G (s:=s24) (X:=H0) (n:=h.length) hC hn00 kK [⟨[],[],[]⟩] (np 8 _ rfl) (by decide);rw[show exF s24 [⟨[],[],[]⟩]=([],130)from rfl]at dB;have dB:=Sat.wk (by rfl) wk5 dB;have rA:=fun h=>Sat.closedW hc (yz9 G hG hc) 1000 100 (f:=56) (args:=[.str d24]) rfl (yd G) h
 have rB:=fun h=>Sat.closedW hc (cU hG) 1000 100 (f:=56) (args:=[.str []]) rfl (yf G) h
 have dR1:=jZ G (s:=PS.z) (X:=H0) (n:=h.length) hn00 PS.Top2.z0 d24 l24 rA vc (by decide);have dR2:=jZ G (s:=s24) (X:=H0) (n:=h.length) hn00 kK d24 l24 rA vc (by decide);rw[lP]at dR1;rw[ya]at dR2;have dR3:=qW G (s:=s24) (X:=H0) (n:=h.length) hn00 [] 90 rB (by decide);have dW:=fun h=>Sat.closedW hc (cU hG) 1000 100 (f:=22) (args:=[.sl 3 [a24,b24]]) rfl (yg G) h
 have dW1:=fun h=>Sat.closedW hc (cU hG) 1000 100 (f:=22) (args:=[.sl 3 [a24]]) rfl (yh G) h
 have dS1:=fun h=>Sat.closedW hc (cU hG) 1000 100 (f:=23) (args:=[.sl 3 ([o24].map Outl.av),.sl 3 [a24]]) rfl (yi G) h
 have dT:=gn G s24 kK.i.toOk hn00;rw[v8]at dT;have dI:=fun h=>Sat.closedW hc (cU hG) 1000 100 (f:=54) (args:=[x24.av,.int .i64 0]) rfl (yj G) h
 have dX:=fun h=>Sat.closedW hc (cU hG) 1000 100 (f:=51) (args:=[.sl 3 ([o24].map Outl.av)]) rfl (yk G) h
 have dO:Sat (CT G) 24 [.hp (h.length+8) 0 0 0] (so H0 h.length s24) (fun r h'=>r=.sl 3 ([o24].map Outl.av)∧h'=so H0 h.length s24):=by
  generalize x24=x at*;generalize [o24]=ol at*;have F:= @ax;refine sb [.tmp 2] Tryz.func24 ?_;intro Q hQ;(repeat (first|refine w1 (fun K hK=>?_)|refine w2 ?_|refine w3 ?_| ((first|refine w4 ?_|refine wD ?_|refine w5 ?_|refine w6 ?_|refine w7 ?_);try refine sq F ?_)| (refine w8 ?_;refine sq F ?_;refine w9 ?_)| ((first|refine hK _ _ (w0 ?_)| (clear hK K;refine hK _ _ (w0 ?_))| (clear hK K;clear hK K;refine hK _ _ (w0 ?_)));clear hK K)))
  refine(dT).mono ?_;rintro r h' ⟨rfl,rfl⟩;try refine sq F ?_
  (repeat (first|refine w1 (fun K hK=>?_)|refine w2 ?_|refine w3 ?_| ((first|refine w4 ?_|refine wD ?_|refine w5 ?_|refine w6 ?_|refine w7 ?_);try refine sq F ?_)| (refine w8 ?_;refine sq F ?_;refine w9 ?_)| ((first|refine hK _ _ (w0 ?_)| (clear hK K;refine hK _ _ (w0 ?_))| (clear hK K;clear hK K;refine hK _ _ (w0 ?_)));clear hK K)))
  refine(dI _).mono ?_;rintro r h' ⟨rfl,rfl⟩;try refine sq F ?_
  (repeat (first|refine w1 (fun K hK=>?_)|refine w2 ?_|refine w3 ?_| ((first|refine w4 ?_|refine wD ?_|refine w5 ?_|refine w6 ?_|refine w7 ?_);try refine sq F ?_)| (refine w8 ?_;refine sq F ?_;refine w9 ?_)| ((first|refine hK _ _ (w0 ?_)| (clear hK K;refine hK _ _ (w0 ?_))| (clear hK K;clear hK K;refine hK _ _ (w0 ?_)));clear hK K)))
  refine ee hQ F ?_;exact br hn00 (Outls.clo _ _ _) ⟨rfl,rfl⟩
 have dE:Sat (CT G) 21 [.hp (h.length+8) 0 0 0] (so H0 h.length s24) (fun r h'=>r=.tup [.str e24,.int .i64 0]∧h'=so H0 h.length s24):=by
  generalize [o24]=ol at*;refine sb [.tmp 2,.tmp 3] Tryz.func21 ?_;intro Q hQ;(repeat (first|refine w1 (fun K hK=>?_)|refine w2 ?_|refine w3 ?_| ((first|refine w4 ?_|refine wD ?_|refine w5 ?_|refine w6 ?_|refine w7 ?_);try refine sq trivial ?_)| (refine w8 ?_;refine sq trivial ?_;refine w9 ?_)| ((first|refine hK _ _ (w0 ?_)| (clear hK K;refine hK _ _ (w0 ?_))| (clear hK K;clear hK K;refine hK _ _ (w0 ?_)));clear hK K)))
  refine(dO).mono ?_;rintro r h' ⟨rfl,rfl⟩;try refine sq trivial ?_
  (repeat (first|refine w1 (fun K hK=>?_)|refine w2 ?_|refine w3 ?_| ((first|refine w4 ?_|refine wD ?_|refine w5 ?_|refine w6 ?_|refine w7 ?_);try refine sq trivial ?_)| (refine w8 ?_;refine sq trivial ?_;refine w9 ?_)| ((first|refine hK _ _ (w0 ?_)| (clear hK K;refine hK _ _ (w0 ?_))| (clear hK K;clear hK K;refine hK _ _ (w0 ?_)));clear hK K)))
  refine(dX _).mono ?_;rintro r h' ⟨rfl,rfl⟩;try refine sq trivial ?_
  (repeat (first|refine w1 (fun K hK=>?_)|refine w2 ?_|refine w3 ?_| ((first|refine w4 ?_|refine wD ?_|refine w5 ?_|refine w6 ?_|refine w7 ?_);try refine sq trivial ?_)| (refine w8 ?_;refine sq trivial ?_;refine w9 ?_)| ((first|refine hK _ _ (w0 ?_)| (clear hK K;refine hK _ _ (w0 ?_))| (clear hK K;clear hK K;refine hK _ _ (w0 ?_)));clear hK K)))
  refine ye hQ trivial ?_;exact br hn00 (.tup _ (by intro c hc;simp at hc;rcases hc with rfl|rfl;exact .str _;exact .int _ _)) ⟨rfl,rfl⟩
 generalize d24=d1 at*;generalize e24=d2 at*;have qd:∀a:Bs,(a==a)=true:=fun a=>by simp
 unfold a24 b24 bTech at*;have F:=F3 hn00 qd @ax;refine sb [.tmp 0] Tryz.func10 ?_;intro Q hQ;(repeat (first|refine w1 (fun K hK=>?_)|refine w2 ?_|refine w3 ?_| ((first|refine w4 ?_|refine wD ?_|refine w5 ?_|refine w6 ?_|refine w7 ?_);try refine sq F ?_)| (refine w8 ?_;refine sq F ?_;refine w9 ?_)| (refine rq F ?_;try refine sq F ?_)| (refine vq F ?_;try refine sq F ?_)| ((first|refine hK _ _ (w0 ?_)| (clear hK K;refine hK _ _ (w0 ?_))| (clear hK K;clear hK K;refine hK _ _ (w0 ?_)));clear hK K)))
 refine(hN).mono ?_;rintro r h' ⟨rfl,rfl⟩;try refine sq F ?_
 (repeat (first|refine w1 (fun K hK=>?_)|refine w2 ?_|refine w3 ?_| ((first|refine w4 ?_|refine wD ?_|refine w5 ?_|refine w6 ?_|refine w7 ?_);try refine sq F ?_)| (refine w8 ?_;refine sq F ?_;refine w9 ?_)| (refine rq F ?_;try refine sq F ?_)| (refine vq F ?_;try refine sq F ?_)| ((first|refine hK _ _ (w0 ?_)| (clear hK K;refine hK _ _ (w0 ?_))| (clear hK K;clear hK K;refine hK _ _ (w0 ?_)));clear hK K)))
 refine(dP).mono ?_;rintro r h' ⟨rfl,rfl⟩;try refine sq F ?_
 (repeat (first|refine w1 (fun K hK=>?_)|refine w2 ?_|refine w3 ?_| ((first|refine w4 ?_|refine wD ?_|refine w5 ?_|refine w6 ?_|refine w7 ?_);try refine sq F ?_)| (refine w8 ?_;refine sq F ?_;refine w9 ?_)| (refine rq F ?_;try refine sq F ?_)| (refine vq F ?_;try refine sq F ?_)| ((first|refine hK _ _ (w0 ?_)| (clear hK K;refine hK _ _ (w0 ?_))| (clear hK K;clear hK K;refine hK _ _ (w0 ?_)));clear hK K)))
 refine(dW _).mono ?_;rintro r h' ⟨rfl,rfl⟩;try refine sq F ?_
 (repeat (first|refine w1 (fun K hK=>?_)|refine w2 ?_|refine w3 ?_| ((first|refine w4 ?_|refine wD ?_|refine w5 ?_|refine w6 ?_|refine w7 ?_);try refine sq F ?_)| (refine w8 ?_;refine sq F ?_;refine w9 ?_)| (refine rq F ?_;try refine sq F ?_)| (refine vq F ?_;try refine sq F ?_)| ((first|refine hK _ _ (w0 ?_)| (clear hK K;refine hK _ _ (w0 ?_))| (clear hK K;clear hK K;refine hK _ _ (w0 ?_)));clear hK K)))
 refine(dR1).mono ?_;rintro r h' ⟨rfl,rfl⟩;try refine sq F ?_
 (repeat (first|refine w1 (fun K hK=>?_)|refine w2 ?_|refine w3 ?_| ((first|refine w4 ?_|refine wD ?_|refine w5 ?_|refine w6 ?_|refine w7 ?_);try refine sq F ?_)| (refine w8 ?_;refine sq F ?_;refine w9 ?_)| (refine rq F ?_;try refine sq F ?_)| (refine vq F ?_;try refine sq F ?_)| ((first|refine hK _ _ (w0 ?_)| (clear hK K;refine hK _ _ (w0 ?_))| (clear hK K;clear hK K;refine hK _ _ (w0 ?_)));clear hK K)))
 refine(dW _).mono ?_;rintro r h' ⟨rfl,rfl⟩;try refine sq F ?_
 (repeat (first|refine w1 (fun K hK=>?_)|refine w2 ?_|refine w3 ?_| ((first|refine w4 ?_|refine wD ?_|refine w5 ?_|refine w6 ?_|refine w7 ?_);try refine sq F ?_)| (refine w8 ?_;refine sq F ?_;refine w9 ?_)| (refine rq F ?_;try refine sq F ?_)| (refine vq F ?_;try refine sq F ?_)| ((first|refine hK _ _ (w0 ?_)| (clear hK K;refine hK _ _ (w0 ?_))| (clear hK K;clear hK K;refine hK _ _ (w0 ?_)));clear hK K)))
 refine(dR2).mono ?_;rintro r h' ⟨rfl,rfl⟩;try refine sq F ?_
 (repeat (first|refine w1 (fun K hK=>?_)|refine w2 ?_|refine w3 ?_| ((first|refine w4 ?_|refine wD ?_|refine w5 ?_|refine w6 ?_|refine w7 ?_);try refine sq F ?_)| (refine w8 ?_;refine sq F ?_;refine w9 ?_)| (refine rq F ?_;try refine sq F ?_)| (refine vq F ?_;try refine sq F ?_)| ((first|refine hK _ _ (w0 ?_)| (clear hK K;refine hK _ _ (w0 ?_))| (clear hK K;clear hK K;refine hK _ _ (w0 ?_)));clear hK K)))
 refine(dO).mono ?_;rintro r h' ⟨rfl,rfl⟩;try refine sq F ?_
 (repeat (first|refine w1 (fun K hK=>?_)|refine w2 ?_|refine w3 ?_| ((first|refine w4 ?_|refine wD ?_|refine w5 ?_|refine w6 ?_|refine w7 ?_);try refine sq F ?_)| (refine w8 ?_;refine sq F ?_;refine w9 ?_)| (refine rq F ?_;try refine sq F ?_)| (refine vq F ?_;try refine sq F ?_)| ((first|refine hK _ _ (w0 ?_)| (clear hK K;refine hK _ _ (w0 ?_))| (clear hK K;clear hK K;refine hK _ _ (w0 ?_)));clear hK K)))
 refine(dE).mono ?_;rintro r h' ⟨rfl,rfl⟩;try refine sq F ?_
 (repeat (first|refine w1 (fun K hK=>?_)|refine w2 ?_|refine w3 ?_| ((first|refine w4 ?_|refine wD ?_|refine w5 ?_|refine w6 ?_|refine w7 ?_);try refine sq F ?_)| (refine w8 ?_;refine sq F ?_;refine w9 ?_)| (refine rq F ?_;try refine sq F ?_)| (refine vq F ?_;try refine sq F ?_)| ((first|refine hK _ _ (w0 ?_)| (clear hK K;refine hK _ _ (w0 ?_))| (clear hK K;clear hK K;refine hK _ _ (w0 ?_)));clear hK K)))
 refine(dB).mono ?_;rintro r h' ⟨rfl,rfl⟩;try refine sq F ?_
 (repeat (first|refine w1 (fun K hK=>?_)|refine w2 ?_|refine w3 ?_| ((first|refine w4 ?_|refine wD ?_|refine w5 ?_|refine w6 ?_|refine w7 ?_);try refine sq F ?_)| (refine w8 ?_;refine sq F ?_;refine w9 ?_)| (refine rq F ?_;try refine sq F ?_)| (refine vq F ?_;try refine sq F ?_)| ((first|refine hK _ _ (w0 ?_)| (clear hK K;refine hK _ _ (w0 ?_))| (clear hK K;clear hK K;refine hK _ _ (w0 ?_)));clear hK K)))
 refine(dR3).mono ?_;rintro r h' ⟨rfl,rfl⟩;try refine sq F ?_
 (repeat (first|refine w1 (fun K hK=>?_)|refine w2 ?_|refine w3 ?_| ((first|refine w4 ?_|refine wD ?_|refine w5 ?_|refine w6 ?_|refine w7 ?_);try refine sq F ?_)| (refine w8 ?_;refine sq F ?_;refine w9 ?_)| (refine rq F ?_;try refine sq F ?_)| (refine vq F ?_;try refine sq F ?_)| ((first|refine hK _ _ (w0 ?_)| (clear hK K;refine hK _ _ (w0 ?_))| (clear hK K;clear hK K;refine hK _ _ (w0 ?_)));clear hK K)))
 refine(hS _).mono ?_;rintro r h' ⟨rfl,rfl⟩;try refine sq F ?_
 (repeat (first|refine w1 (fun K hK=>?_)|refine w2 ?_|refine w3 ?_| ((first|refine w4 ?_|refine wD ?_|refine w5 ?_|refine w6 ?_|refine w7 ?_);try refine sq F ?_)| (refine w8 ?_;refine sq F ?_;refine w9 ?_)| (refine rq F ?_;try refine sq F ?_)| (refine vq F ?_;try refine sq F ?_)| ((first|refine hK _ _ (w0 ?_)| (clear hK K;refine hK _ _ (w0 ?_))| (clear hK K;clear hK K;refine hK _ _ (w0 ?_)));clear hK K)))
 refine(hS _).mono ?_;rintro r h' ⟨rfl,rfl⟩;try refine sq F ?_
 (repeat (first|refine w1 (fun K hK=>?_)|refine w2 ?_|refine w3 ?_| ((first|refine w4 ?_|refine wD ?_|refine w5 ?_|refine w6 ?_|refine w7 ?_);try refine sq F ?_)| (refine w8 ?_;refine sq F ?_;refine w9 ?_)| (refine rq F ?_;try refine sq F ?_)| (refine vq F ?_;try refine sq F ?_)| ((first|refine hK _ _ (w0 ?_)| (clear hK K;refine hK _ _ (w0 ?_))| (clear hK K;clear hK K;refine hK _ _ (w0 ?_)));clear hK K)))
 refine(dS1 _).mono ?_;rintro r h' ⟨rfl,rfl⟩;try refine sq F ?_
 (repeat (first|refine w1 (fun K hK=>?_)|refine w2 ?_|refine w3 ?_| ((first|refine w4 ?_|refine wD ?_|refine w5 ?_|refine w6 ?_|refine w7 ?_);try refine sq F ?_)| (refine w8 ?_;refine sq F ?_;refine w9 ?_)| (refine rq F ?_;try refine sq F ?_)| (refine vq F ?_;try refine sq F ?_)| ((first|refine hK _ _ (w0 ?_)| (clear hK K;refine hK _ _ (w0 ?_))| (clear hK K;clear hK K;refine hK _ _ (w0 ?_)));clear hK K)))
 refine(dW1 _).mono ?_;rintro r h' ⟨rfl,rfl⟩;try refine sq F ?_
 (repeat (first|refine w1 (fun K hK=>?_)|refine w2 ?_|refine w3 ?_| ((first|refine w4 ?_|refine wD ?_|refine w5 ?_|refine w6 ?_|refine w7 ?_);try refine sq F ?_)| (refine w8 ?_;refine sq F ?_;refine w9 ?_)| (refine rq F ?_;try refine sq F ?_)| (refine vq F ?_;try refine sq F ?_)| ((first|refine hK _ _ (w0 ?_)| (clear hK K;refine hK _ _ (w0 ?_))| (clear hK K;clear hK K;refine hK _ _ (w0 ?_)));clear hK K)))
 refine ee hQ F ?_;exact kL hn00 ⟨_,hH0⟩ (J0 _) ⟨rfl,rfl⟩
end
end
section
attribute [local irreducible] WP WPl WPix Sat
variable (G:Nat→Option (List AVal))
theorem cJ(h:Heap)(a b:Int)(s t:Bs):abin Tryz.prog h .neq 48 (.agg [.int .i64 a,.int .i64 b,.str s,.str t]) (.agg [.int .i64 a,.int .i64 b,.str s,.str t])=some (.bool false):=by
 simp[abin,go_sem,aeqL,aeq1]
section
variable (s:PS) {H:Heap} {n:Nat} (hn:n+9≤H.length)
include hn
end
end
section
variable {s:PS} {e:Ev}
end
section
theorem yl{s:PS}{f:Fo}(h:f∈s.tell.fo):∃k,lkM s.fo k=some f:=aJ h
section
variable {fo:List Fo} {up:Int→Int} {d:Int→Nat}
end
end
section
attribute [local irreducible] WP WPl WPix Sat
variable (G:Nat→Option (List AVal))
section
variable {s:PS} {X:Heap} {n:Nat}
end
end
section
attribute [local irreducible] WP WPl WPix Sat
def pickL(inn:Int)(name:Bs)(l:List Fo)(d:Int):Int:=l.foldl (fun a f=>if f.inn=inn∧f.name=name then f.id else a) d
theorem nr{inn v:Int}{name:Bs}:∀(l:List Fo) (d:Int),(∀f∈l,f.inn=inn→f.name=name→f.id=v)→pickL inn name l d=if (l.any fun f=>decide (f.inn=inn)&&decide (f.name=name))=true then v else d
 | [],d,_=>rfl
 |f::l,d,h=>by
  have ih:=nr (inn:=inn) (v:=v) (name:=name) l (if f.inn=inn∧f.name=name then f.id else d) fun x hx=>h x (Q3 _ hx)
  show pickL inn name l _=_;rw[ih,List.any_cons];by_cases hc:f.inn=inn∧f.name=name
  ·have:=h f (U2 ..) hc.1 hc.2;rw[I7 hc,this];simp[hc.1,hc.2]
  ·rw[I0 hc];have:(decide (f.inn=inn)&&decide (f.name=name))=false:=by
    cases hb:(decide (f.inn=inn)&&decide (f.name=name))with
    |false=>rfl
    |true=>rw[I1,I4,I4]at hb;exact absurd hb hc
   rw[this];simp
theorem wH{s:PS}(T:s.Top2)(inn:Int)(name:Bs):pickL inn name s.tell.fo inn=if foId s inn name≠0 then foId s inn name else inn:=by
 have key:∀f∈s.tell.fo,f.inn=inn→f.name=name→f.id=foId s inn name∧1≤f.id:=fun f hf h1 h2=>by
  obtain⟨k,hk⟩:=yl hf;have h3:=T.n.n2 _ _ hk;have h4:=T.i.i1 _ _ hk;rw[h1,h2]at h3;unfold foId;rw[h3];exact⟨h4.1,by omega⟩
 rw[nr (v:=foId s inn name) _ _ fun f hf h1 h2=>(key f hf h1 h2).1];by_cases h0:foId s inn name≠0
 ·rw[I7 h0,I7];unfold foId at h0;cases hl:lkM s.nm (inn,name)with
  |none=>rw[hl]at h0;exact absurd rfl h0
  |some k=>
   obtain⟨f,hf,he⟩:=T.n.n1 _ _ hl;rw[T6];cases he;exact⟨f,vf hf,by simp⟩
 ·rw[I0 h0,I0];intro hany;rw[T6]at hany;obtain⟨f,hf,he⟩:=hany;rw[I1,I4,I4]at he;have:=key f hf he.1 he.2;exact h0 (by omega)
theorem tf{inn d:Int}{name:Bs}{l:List Fo}{k:Nat}{y:Fo}(hy:l[k]? =some y):pickL inn name (l.take (k+1)) d=if y.inn=inn∧y.name=name then y.id else pickL inn name (l.take k) d:=by
 unfold pickL;rw[N1,hy,Option.toList_some,List.foldl_append];rfl
variable (G:Nat→Option (List AVal))
def stZ:AVal:=.agg [.int .i64 0,.nil (.slice none 0 0),.nil (.slice none 0 0),.nil (.slice none 0 0),.nil (.slice none 0 0),.int .i64 0,.int .i64 0,.int .i64 0,.int .i64 0]
def BrC(g:Int→List Outl→PS→PS×List Ev)(l:List Outl):Prop:=∀(inn:Int) (s:PS) (h:Heap),s.Top2→s.within inn=true→
 Sat (CT G) 58 [s.tell.av,.int .i64 inn,.sl 3 (l.map Outl.av)] h (fun r h'=>r=.tup [(g inn l s).1.tell.av,.sl 7 ((g inn l s).2.map Ev.av)]∧h'=h)
def ApC:Prop:=∀(s:PS) (e:Ev) (h:Heap),s.Inv→s.Nam→Sat (CT G) 49 [s.tell.av,e.av] h (fun r h'=>r=.tup [(s.step L0 e).tell.av,.bool (s.ok L0 e)]∧h'=h)
theorem vx{s:PS}{inn:Int}{name:Bs}(h0:foId s inn name≠0):s.ok L0 (evFo s inn name)=false:=by
 cases hk:s.ok L0 (evFo s inn name)with
 |false=>rfl
 |true=>exact absurd (uW hk).2.2.2.2.2 h0
theorem fW(hAp:ApC G){g:Int→List Outl→PS→PS×List Ev}(hb:∀inn l s,s.Top2→s.within inn=true→Br s (g inn l s))(hgl:∀inn l s,(g inn l s).2.length≤szs Outl.sz l)(h0:∀inn s,g inn [] s=(s,[]))
  {l:List Outl}(hsz:szs Outl.sz l≤2097152)(hl:∀o∈l,oneOk o=true∧BrC G g o.kids):BrC G (fun inn l s=>lstG (oneG nfX g inn) l s) l:=by
 intro inn s h T hw;show Sat (CT G) _ _ h (fun r h'=>r=.tup [(lstG (oneG nfX g inn) l s).1.tell.av,.sl 7 ((lstG (oneG nfX g inn) l s).2.map Ev.av)]∧h'=h);have hlm:(l.map Outl.av).length=l.length:=I5 ..;have hll:=mA l;have hz:ofVal (.agg #[.int .i64 0,.slice none 0 0,.slice none 0 0,.slice none 0 0,.slice none 0 0,.int .i64 0,.int .i64 0,.int .i64 0,.int .i64 0])=stZ:=rfl;unfold stZ at hz;have F:=F3 hlm hz @ax;refine sb [.cell 6 41,.tmp 7] Tryz.func58 ?_;intro Q hQ;refine wk F ?_;refine lm (fun nL tL hL=>∃(i v:Nat) (c:PS) (ws:List Ev) (j:Heap),l.length-i=nL∧h++(.row 41 9 0 [c.tell.av]:: .row 41 9 0 [stZ]:: .row 34 7 v (ws.map Ev.av)::j)=hL∧tL 8=.hs (h.length+2) v 0 ws.length true∧tL 9=.int .i64 i∧i≤l.length∧lstG (oneG nfX g inn) (l.take i) s=(c,ws)) ((fun(i v:Nat) (c:PS) (ws:List Ev) (j:Heap)=>(l.length-i:Nat)) (0) (0) (s) ([]) ([])) ?_ ?_
 ·refine⟨_,_,U9 8 34 7 (by simp) (by omega) (by exact zq F),⟨0,0,s,[],[],rfl,by simp[St.av,stZ],?_,?_,by omega,rfl⟩⟩;all_goals try exact zZz F
 rintro _ s2 h' ⟨i,v,c,ws,j,rfl,rfl,e8,e9,hk,hcw⟩ K2 hK2;simp only[ah,ao,Nat.reduceEqDiff, ↓reduceIte]at e8 e9;have F:=F3 F e8 e9;have B:=ia (fun o s T hw=>fa (nf:=nfX) hb T hw o) (l.take i) s T hw;have hwl:=ix (fun o s=>iw (nf:=nfX) hgl inn o s) (l.take i) s;have hzt:=v7 l i;rw[hcw]at B hwl;have T2:c.Top2:=B.t;have hw2:c.within inn=true:=jT (B.r.gr T).1 hw;simp only[]at hwl;clear B;have hpk:=fun name=>wH T2 inn name
 have z1:c.tell.t1=c.t1:=rfl;have z2:c.tell.t2=c.t2:=rfl;have zf:c.tell.fo.length≤64:=by show(valsM Fo.z c.fo).length≤64;rw[fS];exact T2.i.l1
 obtain⟨x,hx⟩:∃x,c.tell=x:=⟨_,rfl⟩;have hxf:(x.fo.map Fo.av).length=x.fo.length:=I5 ..;have b1:=T2.zo;have b2:=T2.ze;have b3:=T2.mo;have b4:=T2.me;rw[hx]at hpk z1 z2 zf ⊢;by_cases c2:i<l.length
 ·have d2:=M0 c2;obtain⟨y,hy,hym⟩:=ac c2;have hm:(l.map Outl.av)[i]? =some y.av:=by rw[J8,hy];rfl
  obtain⟨ho,hkid⟩:=hl y hym;have hone:=oW (oneG nfX g inn) hy s;rw[hcw]at hone;simp only[]at hone;have hsy:=t7 hy;have hol:=iw (nf:=nfX) hgl inn y c;have hyz:=y.sz_eq;obtain⟨ti,u,ks⟩:=y;rw[Outl.av_eq]at hm;simp only[Outl.title,Outl.url,Outl.kids]at hm hkid hyz;by_cases hu:u=[]
  ·subst hu;have qu:(([]:Bs)==([]:Bs))=true:=rfl;have hti:ti.length≤256:=by
    unfold oneOk textO at ho;simp only[I1,I4]at ho;exact ho.1.1.2.1.1
   have hSh:=nh G ti 64 (by omega) (by omega);have hnf:shortF ti 64=nfX ti:=rfl;rw[hnf]at hSh;have hA:=fun h=>hAp c (evFo c inn (nfX ti)) h T2.i T2.n
   have he:(evFo c inn (nfX ti)).av=.agg [.int .i64 1,.int .i64 (x.t1+1),.int .i64 inn,.int .i64 0,.str (nfX ti),.str [],.str []]:=(by rw[z1];rfl);rw[he,hx]at hA;have hpk:=hpk (nfX ti);have hoe:oneG nfX g inn ⟨ti,[],ks⟩ c=if foId c inn (nfX ti)≠0 then g (foId c inn (nfX ti)) ks c
    else if c.ok L0 (evFo c inn (nfX ti))then((g (c.t1+1) ks (c.step L0 (evFo c inn (nfX ti)))).1,evFo c inn (nfX ti)::(g (c.t1+1) ks (c.step L0 (evFo c inn (nfX ti)))).2)else g inn ks c:=by
    unfold oneG;rw[I0 (show ¬(Outl.mk ti [] ks).url≠ []from fun e=>e rfl)];rfl
   have hB:=fa (nf:=nfX) hb T2 hw2 ⟨ti,[],ks⟩;have hkr:(ks.map Outl.av).length=ks.length:=I5 ..;clear hAp;obtain⟨nm,hnm⟩:∃nm,nfX ti=nm:=⟨_,rfl⟩;simp only[hnm]at hSh hA he hpk hoe;have F:=F7 F hm hy d2 c2 qu hxf;(try refine sq F ?_);refine wk F ?_;refine aH (hSh _) ?_;(try refine sq F ?_);refine wk F ?_;refine lm (fun nL tL hL=>∃(q:Nat),x.fo.length-q=nL∧h++(.row 41 9 0 [x.av]:: .row 41 9 0 [stZ]:: .row 34 7 v (ws.map Ev.av)::(j++[.row 55 3 0 [.agg [.str ti,.str [],.sl 3 (ks.map Outl.av)]],.row 34 7 0 [.agg [.int .i64 1,.int .i64 (x.t1+1),.int .i64 inn,.int .i64 0,.str nm,.str [],.str []]]]))=hL∧tL 12=.int .i64 (pickL inn nm (x.fo.take q) inn)∧tL 13=.int .i64 q∧q≤x.fo.length) ((fun(q:Nat)=>(x.fo.length-q:Nat)) (0)) ?_ ?_
   ·refine I9 ⟨0,rfl,by simp[St.av,stZ,Outl.av_eq,Outl.title,Outl.url,Outl.kids],?_,?_,by omega⟩;all_goals try exact zZz F
   rintro _ s3 h' ⟨q,rfl,rfl,e12,e13,hq⟩ K3 hK3;simp only[ah,ao,Nat.reduceEqDiff, ↓reduceIte]at e12 e13;have F:=F3 F e12 e13;by_cases c3:q<x.fo.length
   ·have d3:=M0 c3;obtain⟨w,hw1,hwm⟩:=ac c3;have hmw:(x.fo.map Fo.av)[q]? =some w.av:=(by rw[J8,hw1];rfl);have hpt:=tf (inn:=inn) (d:=inn) (name:=nm) hw1;obtain⟨f1,f2,f3⟩:=w;rw[Fo.av_eq]at hmw;simp only[]at hmw hpt;by_cases ca:f2=inn
    ·have qa:(f2==inn)=true:=(by simp[ca]);by_cases cb:f3=nm
     ·have qb:(f3==nm)=true:=(by simp[cb]);rw[I7 ⟨ca,cb⟩]at hpt;have F:=F8 F d3 c3 hmw hw1 qa qb hpt;(try refine sq F ?_);refine wk F ?_;refine hK3 _ _ _ (I9 ⟨q+1,rfl,aw,?_,?_,by omega⟩) (by omega);all_goals try exact zZz F
     ·have qb:(f3==nm)=false:=(by simp[cb]);rw[I0 (fun q=>cb q.2)]at hpt;have F:=F8 F d3 c3 hmw hw1 qa qb hpt;(try refine sq F ?_);refine wk F ?_;refine hK3 _ _ _ (I9 ⟨q+1,rfl,aw,?_,?_,by omega⟩) (by omega);all_goals try exact zZz F
    ·have qa:(f2==inn)=false:=(by simp[ca]);rw[I0 (fun q=>ca q.1)]at hpt;have F:=F7 F d3 c3 hmw hw1 qa hpt;(try refine sq F ?_);refine wk F ?_;refine hK3 _ _ _ (I9 ⟨q+1,rfl,aw,?_,?_,by omega⟩) (by omega);all_goals try exact zZz F
   have d3:=L6 c3;have hpe:pickL inn nm (x.fo.take q) inn=pickL inn nm x.fo inn:=(by rw[K6 (by omega)]);rw[hpk]at hpe;by_cases h00:foId c inn nm≠0
   ·have hst:c.step L0 (evFo c inn nm)=c:=(by unfold PS.step;rw[vx h00];rfl);rw[I7 h00]at hoe hpe;rw[vx h00,hst,hx]at hA;have hBk:=fun h=>hkid (foId c inn nm) c h T2 (lN T2 rfl h00)
    rw[hx]at hBk;rw[hoe]at hone hol;generalize g (foId c inn nm) ks c=p at*;obtain⟨z,l2⟩:=p;obtain⟨y,hyz2⟩:∃y,z.tell=y:=⟨_,rfl⟩;simp only[]at hBk hone hol;rw[hyz2]at hBk;have hl2:(l2.map Ev.av).length=l2.length:=I5 ..;generalize foId c inn nm=fid at*;have F:=F4 F d3 hpe hl2;(try refine sq F ?_);refine wk F ?_;refine kq F (hA _) ?_;refine kq F (hBk _) ?_;refine aq F ?_;(try refine sq F ?_);refine wk F ?_;refine hK2 _ _ _ (I9 ⟨i+1,v+1,z,ws++l2,_,rfl,by rw[hyz2];simp[St.av];rfl,?_,?_,by omega,hone⟩) (by omega);all_goals try exact zZz F
   rw[I0 h00]at hoe hpe;cases hok:c.ok L0 (evFo c inn nm)with
   |true=>
    obtain⟨_,T3,_,hsome⟩:=iv T2 hok;have hw3:(c.step L0 (evFo c inn nm)).within (c.t1+1)=true:=(by unfold PS.within;rw[hsome];simp);rw[I7 hok]at hoe;rw[hok]at hA;have hBk:=fun h=>hkid (c.t1+1) (c.step L0 (evFo c inn nm)) h T3 hw3
    rw[hoe]at hone hol;generalize c.step L0 (evFo c inn nm)=c1 at*;generalize g (c.t1+1) ks c1=p at*;obtain⟨z,l2⟩:=p;obtain⟨y1,hy1⟩:∃y,c1.tell=y:=⟨_,rfl⟩;obtain⟨y,hyz2⟩:∃y,z.tell=y:=⟨_,rfl⟩;simp only[I6]at hBk hone hol;rw[hyz2,hy1, ← z1]at hBk;rw[hy1]at hA;have hl2:(l2.map Ev.av).length=l2.length:=I5 ..;have F:=F5 F d3 hpe hl2 qu;(try refine sq F ?_);refine wk F ?_;refine kq F (hA _) ?_;refine aq F ?_;(try refine sq F ?_);refine wk F ?_;refine kq F (hBk _) ?_;refine aq F ?_;(try refine sq F ?_);refine wk F ?_;refine hK2 _ _ _ (I9 ⟨i+1,v+1+1,z,ws++[evFo c inn nm]++l2,_,rfl,by rw[hyz2];simp[St.av,he,z1];rfl,?_,?_,by omega,by rw[hone];simp⟩) (by omega);(all_goals try exact zZz F);simp(disch:=first|omega| (simp only[go_sem, ↓reduceIte,seval];first|done|omega)|fail) only[go_sem, ↓reduceIte,seval,F];exact K9 (fun q=>AVal.hs (h.length+2) (v+2) 0 q true) (by simp;omega)
   |false=>
    have hst:c.step L0 (evFo c inn nm)=c:=(by unfold PS.step;rw[hok];rfl);rw[I0 (by rw[hok];simp)]at hoe;rw[hok,hst,hx]at hA;have hBk:=fun h=>hkid inn c h T2 hw2
    rw[hx]at hBk;rw[hoe]at hone hol;generalize g inn ks c=p at*;obtain⟨z,l2⟩:=p;obtain⟨y,hyz2⟩:∃y,z.tell=y:=⟨_,rfl⟩;simp only[]at hBk hone hol;rw[hyz2]at hBk;have hl2:(l2.map Ev.av).length=l2.length:=I5 ..;have F:=F4 F d3 hpe hl2;(try refine sq F ?_);refine wk F ?_;refine kq F (hA _) ?_;refine kq F (hBk _) ?_;refine aq F ?_;(try refine sq F ?_);refine wk F ?_;refine hK2 _ _ _ (I9 ⟨i+1,v+1,z,ws++l2,_,rfl,by rw[hyz2];simp[St.av];rfl,?_,?_,by omega,hone⟩) (by omega);all_goals try exact zZz F
  ·have qu:(u==([]:Bs))=false:=(by simpa using hu);have hks:ks=[]:=by
    unfold oneOk at ho;simp only[I1,N6,I4]at ho;exact ho.2.resolve_left hu
   subst hks;have hA:=fun h=>hAp c (evFe c inn ⟨ti,u,[]⟩) h T2.i T2.n
   have he:(evFe c inn ⟨ti,u,[]⟩).av=.agg [.int .i64 3,.int .i64 (x.t2+1),.int .i64 inn,.int .i64 0,.str u,.str ti,.str []]:=(by rw[z2];rfl);have hoe:oneG nfX g inn ⟨ti,u,[]⟩ c=putF c (evFe c inn ⟨ti,u,[]⟩):=(by unfold oneG;rw[I7 (show(Outl.mk ti u []).url≠ []from hu)]);unfold putF at hoe;rw[he,hx]at hA;cases hok:c.ok L0 (evFe c inn ⟨ti,u,[]⟩)with
   |false=>
    have hst:c.step L0 (evFe c inn ⟨ti,u,[]⟩)=c:=(by unfold PS.step;rw[hok];rfl);rw[hok,hst,hx]at hA;rw[hok]at hoe;have hoe:oneG nfX g inn ⟨ti,u,[]⟩ c=(c,[]):=hoe;rw[hoe,M4]at hone;have hBk:=fun h=>hkid inn c h T2 hw2
    rw[h0,hx]at hBk;have hBk:∀h,Sat (CT G) 58 [x.av,.int .i64 inn,.sl 3 []] h (fun r h'=>r=.tup [x.av,.sl 7 []]∧h'=h):=hBk;have F:=F7 F hm hy d2 c2 qu hxf;(try refine sq F ?_);refine wk F ?_;refine lm (fun nL tL hL=>∃(q:Nat),x.fo.length-q=nL∧h++(.row 41 9 0 [x.av]:: .row 41 9 0 [stZ]:: .row 34 7 v (ws.map Ev.av)::(j++[.row 55 3 0 [.agg [.str ti,.str u,.sl 3 []]],.row 34 7 0 [.agg [.int .i64 3,.int .i64 (x.t2+1),.int .i64 inn,.int .i64 0,.str u,.str ti,.str []]]]))=hL∧tL 12=.int .i64 inn∧tL 13=.int .i64 q∧q≤x.fo.length) ((fun(q:Nat)=>(x.fo.length-q:Nat)) (0)) ?_ ?_
    ·refine I9 ⟨0,rfl,by simp[St.av,stZ,Outl.av_eq],?_,?_,by omega⟩;all_goals try exact zZz F
    rintro _ s3 h' ⟨q,rfl,rfl,e12,e13,hq⟩ K3 hK3;simp only[ah,ao,Nat.reduceEqDiff, ↓reduceIte]at e12 e13;have F:=F3 F e12 e13;by_cases c3:q<x.fo.length
    ·have d3:=M0 c3;have F:=F2 F d3;(try refine sq F ?_);refine wk F ?_;refine hK3 _ _ _ (I9 ⟨q+1,rfl,aw,?_,?_,by omega⟩) (by omega);all_goals try exact zZz F
    have d3:=L6 c3;have F:=F2 F d3;(try refine sq F ?_);refine wk F ?_;refine kq F (hA _) ?_;refine kq F (hBk _) ?_;refine aq F ?_;(try refine sq F ?_);refine wk F ?_;refine hK2 _ _ _ (I9 ⟨i+1,v+1,c,ws,_,rfl,by rw[hx];rfl,?_,?_,by omega,hone⟩) (by omega);all_goals try exact zZz F
   |true=>
    have hB:=fa (nf:=nfX) hb T2 hw2 ⟨ti,u,[]⟩;rw[hok]at hA hoe;have hoe:oneG nfX g inn ⟨ti,u,[]⟩ c=(c.step L0 (evFe c inn ⟨ti,u,[]⟩),[evFe c inn ⟨ti,u,[]⟩]):=hoe;rw[hoe]at hone hB;have T3:(c.step L0 (evFe c inn ⟨ti,u,[]⟩)).Top2:=hB.t;have hw3:=jT (hB.r.gr T2).1 hw2;simp only[]at hone hw3;have hBk:=fun h=>hkid inn (c.step L0 (evFe c inn ⟨ti,u,[]⟩)) h T3 hw3
    rw[h0]at hBk;generalize c.step L0 (evFe c inn ⟨ti,u,[]⟩)=z at*;obtain⟨y,hyz2⟩:∃y,z.tell=y:=⟨_,rfl⟩;simp only[]at hBk;rw[hyz2]at hBk hA;have hBk:∀h,Sat (CT G) 58 [y.av,.int .i64 inn,.sl 3 []] h (fun r h'=>r=.tup [y.av,.sl 7 []]∧h'=h):=hBk;have F:=F7 F hm hy d2 c2 qu hxf;(try refine sq F ?_);refine wk F ?_;refine lm (fun nL tL hL=>∃(q:Nat),x.fo.length-q=nL∧h++(.row 41 9 0 [x.av]:: .row 41 9 0 [stZ]:: .row 34 7 v (ws.map Ev.av)::(j++[.row 55 3 0 [.agg [.str ti,.str u,.sl 3 []]],.row 34 7 0 [.agg [.int .i64 3,.int .i64 (x.t2+1),.int .i64 inn,.int .i64 0,.str u,.str ti,.str []]]]))=hL∧tL 12=.int .i64 inn∧tL 13=.int .i64 q∧q≤x.fo.length) ((fun(q:Nat)=>(x.fo.length-q:Nat)) (0)) ?_ ?_
    ·refine I9 ⟨0,rfl,by simp[St.av,stZ,Outl.av_eq],?_,?_,by omega⟩;all_goals try exact zZz F
    rintro _ s3 h' ⟨q,rfl,rfl,e12,e13,hq⟩ K3 hK3;simp only[ah,ao,Nat.reduceEqDiff, ↓reduceIte]at e12 e13;have F:=F3 F e12 e13;by_cases c3:q<x.fo.length
    ·have d3:=M0 c3;have F:=F2 F d3;(try refine sq F ?_);refine wk F ?_;refine hK3 _ _ _ (I9 ⟨q+1,rfl,aw,?_,?_,by omega⟩) (by omega);all_goals try exact zZz F
    have d3:=L6 c3;have F:=F2 F d3;(try refine sq F ?_);refine wk F ?_;refine kq F (hA _) ?_;refine aq F ?_;(try refine sq F ?_);refine wk F ?_;refine kq F (hBk _) ?_;refine aq F ?_;(try refine sq F ?_);refine wk F ?_;refine hK2 _ _ _ (I9 ⟨i+1,v+1+1,z,ws++[evFe c inn ⟨ti,u,[]⟩],_,rfl,by rw[hyz2];simp[St.av,he,z2];rfl,?_,?_,by omega,hone⟩) (by omega);all_goals try exact zZz F
 ·have d2:=L6 c2;rw[K6 (by omega)]at hcw;rw[hcw]at hQ;simp only[]at hQ;rw[hx]at hQ;have cst:∀N,Clo N x.av:=fun N=>.agg _ fun a ha=>by
   simp only[K4,P8,or_false]at ha;rcases ha with rfl|rfl|rfl|rfl|rfl|rfl|rfl|rfl|rfl
   ·exact .int _ _
   ·exact .sl _ _ (fun r hr=>by obtain⟨e,_,rfl⟩:=J5.1 hr;exact Y4 _ e)
   ·exact .sl _ _ (fun r hr=>by obtain⟨e,_,rfl⟩:=J5.1 hr;exact Y5 _ e)
   ·exact .sl _ _ (fun r hr=>by obtain⟨e,_,rfl⟩:=J5.1 hr;exact Y6 _ e)
   ·exact .sl _ _ (fun r hr=>by obtain⟨e,_,rfl⟩:=J5.1 hr;exact Y3 _ e)
   all_goals exact .int _ _
  have hzz:stZ=.agg [.int .i64 0,.nil (.slice none 0 0),.nil (.slice none 0 0),.nil (.slice none 0 0),.nil (.slice none 0 0),.int .i64 0,.int .i64 0,.int .i64 0,.int .i64 0]:=rfl;have F:=F3 F d2 hzz;try refine sq F ?_
  refine wk F ?_;refine ye hQ F ?_;refine Fin.frz (r:=.tup [x.av,.sl 7 (ws.map Ev.av)]) ?_ ⟨rfl,rfl⟩;have hd7:Frz (h++(.row 41 9 0 [x.av]:: .row 41 9 0 [x.av]:: .row 34 7 v (ws.map Ev.av)::j)) h.length (.hs (h.length+2) v 0 ws.length true) (.sl 7 (ws.map Ev.av)):=
   W3 (by omega) (by rw[bF _ rfl];simp[getRow];rfl) (by simp) (fun r hr=>by obtain⟨e,_,rfl⟩:=J5.1 hr;exact Ev.clo _ e) (fun r hr=>by obtain⟨e,_,rfl⟩:=J5.1 hr;exact oY e)
  exact FrzL.tup (.cons (.clo _ (cst _)) (.cons hd7 .nil))
end
section
attribute [local irreducible] WP WPl WPix Sat
variable (G:Nat→Option (List AVal))
section
variable {s:PS} {X:Heap} {n:Nat}
end
end
end Go.Av
