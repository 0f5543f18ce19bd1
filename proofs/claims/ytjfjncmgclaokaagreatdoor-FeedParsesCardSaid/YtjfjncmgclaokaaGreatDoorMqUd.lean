/- Parts. -/
import Derived.Test.YtjfjncmgclaokaaGreatDoorMqRg
import Derived.Test.YtjfjncmgclaokaaGreatDoorMqTc0
import Derived.Test.YtjfjncmgclaokaaGreatDoorMqGg
set_option linter.unusedSimpArgs false
set_option linter.unusedVariables false
set_option linter.unusedSectionVars false
set_option linter.unnecessarySimpa false
set_option maxRecDepth 100000
set_option maxHeartbeats 16000000
namespace Go.Av
open Go Go.Proofs Go.RowKit
section
attribute [local irreducible] WP WPl WPix Sat
variable {G:Nat→Option (List AVal)}
theorem Frz.slR{h:Heap}{n m:Nat}{es fs:List AVal}(z:FrzRs h n es fs):Frz h n (.sl m es) (.sl m fs):=
 .sl _ _ _ z.len.symm (fun i r s h1 h2=>⟨(z.at_ i r s h1 h2).len,fun j d hd=>(z.at_ i r s h1 h2).sto d (G4 hd)⟩) fun i r s j c d h1 h2 h3 h4=>(z.at_ i r s h1 h2).cell j c d h3 h4
theorem fe{h:Heap}{n:Nat}(k:Int)(nm tx:Bs):FrzR h n (.agg [.int .i64 k,.str nm,.nil (.slice none 0 0),.str tx]) (Tok.av (k,nm,[],tx)):=
 FrzL.row (.cons (.clo _ (.int _ _)) (.cons (.clo _ (.str _)) (.cons (.nils _) (.cons (.clo _ (.str _)) .nil)))) rfl
theorem v6{h:Heap}{n:Nat}(t:Tok):FrzR h n t.av t.av:=FrzR.clo (Tok.clo _ t) (fun c hc=>t.av_sto c hc)
def OpenR(h:Heap)(y:List Tok×Bs×Bool)(r:AVal)(h':Heap):Prop:=
 ∃(ts:List Tok) (rest:Bs),r=.tup [.sl 4 (ts.map Tok.av),.str rest,.bool (!y.2.2)]∧(y.2.2=false→ts=y.1∧rest=y.2.1)∧h'=h
theorem nj(n:Nat)(l:List Tok):Clo n (.sl 4 (l.map Tok.av)):=by
 refine .sl _ _ fun c hc=>?_
 obtain⟨a,_,rfl⟩:=J9.1 hc;exact Tok.clo _ a
theorem OpenR.bad{h:Heap}{y:List Tok×Bs×Bool}(j:Heap)(e:y.2.2=true):Fin h (h++j) (OpenR h y) (.tup [.nil (.slice none 0 0),.str [],.bool false]):=
 P3 (U0 (.cons (.nils 4) (.cons (.clo _ (.str _)) (.cons (.clo _ (.bool _)) .nil)))) ⟨[],[],by rw[e];rfl,(fun e2=>by rw[e]at e2;cases e2),rfl⟩
theorem OpenR.mk{h:Heap}{y:List Tok×Bs×Bool}(j:Heap){x:AVal}{rest:Bs}{b:Bool}(ts:List Tok)(hx:Frz (h++j) h.length x (.sl 4 (ts.map Tok.av)))(hb:b= !y.2.2)(hg:y.2.2=false→ts=y.1∧rest=y.2.1):Fin h (h++j) (OpenR h y) (.tup [x,.str rest,.bool b]):=
 P3 (U0 (.cons hx (.cons (.clo _ (.str _)) (.cons (.clo _ (.bool _)) .nil)))) ⟨ts,rest,by rw[hb],hg,rfl⟩
theorem OpenR.good{h:Heap}{y:List Tok×Bs×Bool}(j:Heap)(ts:List Tok)(rest:Bs)(e:y=(ts,rest,false)):Fin h (h++j) (OpenR h y) (.tup [.sl 4 (ts.map Tok.av),.str rest,.bool true]):=by
 subst e;exact H3 (.tup _ (by intro c hc;simp at hc;rcases hc with rfl|rfl|rfl;exact nj _ ts;exact .str _;exact .bool _)) ⟨ts,rest,rfl,fun _=>⟨rfl,rfl⟩,rfl⟩
theorem nk(h jj:Heap)(n:Bs)(v:Nat)(at_:List At){C:Ctx}(ms:List Nat)(t:Env):
  Weak C ms t (h++tkR n (h.length+1) v at_.length::atR v at_::jj) t (h++ .row 182 4 0 [Tok.av (1,n,at_,[])]:: .dead::jj):=by
 have g1:getRow (h++tkR n (h.length+1) v at_.length::atR v at_::jj) (h.length+1) v=some (228,2,at_.map At.av):=by rw[eZ _ rfl];simp[getRow,atR]
 have g2:getRow (h++tkR n (h.length+1) v at_.length::atR v at_::jj) h.length 0=some (182,4,[.agg [.int .i64 1,.str n,.hs (h.length+1) v 0 at_.length true,.str []]]):=by rw[bL _ rfl];simp[getRow,tkR]
 have:=Weak.fzIn (C:=C) (ms:=ms) (t:=t) (t1:=t) (h:=h++tkR n (h.length+1) v at_.length::atR v at_::jj) (h.length+1) v h.length 0 [Tok.av (1,n,at_,[])] g1 (by omega) g2 (by simp) (fun i x y hx hy=>by
   match i with
   |0=>
    simp at hx hy;subst hx;subst hy;refine⟨rfl,fun j c d hc hd=>?_⟩
    match j with
    |0=>simp[AVal.cells,Tok.av]at hc hd;subst hc;subst hd;exact⟨.same _,rfl⟩
    |1=>simp[AVal.cells,Tok.av]at hc hd;subst hc;subst hd;exact⟨.same _,rfl⟩
    |2=>
     simp[AVal.cells,Tok.av]at hc hd;subst hc;subst hd;exact⟨Fz.all _ _ _ g1 rfl (by simp),by simp[AVal.sto]⟩
    |3=>simp[AVal.cells,Tok.av]at hc hd;subst hc;subst hd;exact⟨.same _,rfl⟩
    |_+4=>simp[AVal.cells,Tok.av]at hc
   |_+1=>simp at hx) (fun _=>.inl rfl)
 simpa using this
theorem sT(hG:GOk G)(hC:GClo (CT G))(s:Bs)(hs:s.length≤1048576)(h:Heap):Sat (CT G) 186 [.str s] h (OpenR h (openF s)):=by
 have h1:(nameR s).length≤s.length:=aC _ _;have hn:=i7 hG hC s (by omega);cases hb:badN (nameW s)with
 |true=>
  have e:nmR s=([],s):=by unfold nmR;rw[G3 hb]
  have he:(([]:Bs)==[])=true:=rfl;have ho:(openF s).2.2=true:=by unfold openF;rw[hb,openL,G3 rfl]
  rw[e]at hn;have F:=he;refine sb [.tmp 2,.tmp 3,.tmp 4] Tryz.func186 ?_;intro Q hQ;(repeat (first|refine w1 (fun K hK=>?_)|refine w2 ?_|refine w3 ?_| ((first|refine w4 ?_|refine wD ?_|refine w5 ?_|refine w6 ?_|refine w7 ?_);try refine sq F ?_)| (refine w8 ?_;refine sq F ?_;refine w9 ?_)| (refine rq F ?_;try refine sq F ?_)| (refine vq F ?_;try refine sq F ?_)| ((first|refine hK _ _ (w0 ?_)| (clear hK K;refine hK _ _ (w0 ?_))| (clear hK K;clear hK K;refine hK _ _ (w0 ?_)));clear hK K)))
  refine(hn _).mono ?_;rintro r h' ⟨rfl,hk_⟩;replace hk_:=hk_.symm;subst hk_;try refine sq F ?_
  (repeat (first|refine w1 (fun K hK=>?_)|refine w2 ?_|refine w3 ?_| ((first|refine w4 ?_|refine wD ?_|refine w5 ?_|refine w6 ?_|refine w7 ?_);try refine sq F ?_)| (refine w8 ?_;refine sq F ?_;refine w9 ?_)| (refine rq F ?_;try refine sq F ?_)| (refine vq F ?_;try refine sq F ?_)| ((first|refine hK _ _ (w0 ?_)| (clear hK K;refine hK _ _ (w0 ?_))| (clear hK K;clear hK K;refine hK _ _ (w0 ?_)));clear hK K)))
  refine lm (fun nL tL hL=>0=nL∧h++[.row 182 4 0 [.agg [.int .i64 1,.str [],.nil (.slice none 0 0),.str []]]]=hL∧tL 5=.str []) (0) ?_ ?_
  ·refine G9 ⟨rfl,ar,?_⟩;all_goals try exact zZz F
  rintro _ s2 h' ⟨rfl,rfl,e5⟩ K2 hK2;simp only[ai,ak,Nat.reduceEqDiff, ↓reduceIte]at e5;have F:=F2 F e5;(repeat (first|refine w1 (fun K hK=>?_)|refine w2 ?_|refine w3 ?_| ((first|refine w4 ?_|refine wD ?_|refine w5 ?_|refine w6 ?_|refine w7 ?_);try refine sq F ?_)| (refine w8 ?_;refine sq F ?_;refine w9 ?_)| (refine rq F ?_;try refine sq F ?_)| (refine vq F ?_;try refine sq F ?_)| ((first|refine hK _ _ (w0 ?_)| (clear hK K;refine hK _ _ (w0 ?_))| (clear hK K;clear hK K;refine hK _ _ (w0 ?_)));clear hK K)))
  refine ye hQ F ?_;exact OpenR.bad _ ho
 |false=>
  have e:nmR s=(nameW s,nameR s):=by unfold nmR;rw[G0 (by simp[hb])]
  have hne:(nameW s==[])=false:=by simpa using jd _ hb
  rw[e]at hn;have F:=hne;refine sb [.tmp 2,.tmp 3,.tmp 4] Tryz.func186 ?_;intro Q hQ;(repeat (first|refine w1 (fun K hK=>?_)|refine w2 ?_|refine w3 ?_| ((first|refine w4 ?_|refine wD ?_|refine w5 ?_|refine w6 ?_|refine w7 ?_);try refine sq F ?_)| (refine w8 ?_;refine sq F ?_;refine w9 ?_)| (refine rq F ?_;try refine sq F ?_)| (refine vq F ?_;try refine sq F ?_)| ((first|refine hK _ _ (w0 ?_)| (clear hK K;refine hK _ _ (w0 ?_))| (clear hK K;clear hK K;refine hK _ _ (w0 ?_)));clear hK K)))
  refine(hn _).mono ?_;rintro r h' ⟨rfl,hk_⟩;replace hk_:=hk_.symm;subst hk_;try refine sq F ?_
  (repeat (first|refine w1 (fun K hK=>?_)|refine w2 ?_|refine w3 ?_| ((first|refine w4 ?_|refine wD ?_|refine w5 ?_|refine w6 ?_|refine w7 ?_);try refine sq F ?_)| (refine w8 ?_;refine sq F ?_;refine w9 ?_)| (refine rq F ?_;try refine sq F ?_)| (refine vq F ?_;try refine sq F ?_)| ((first|refine hK _ _ (w0 ?_)| (clear hK K;refine hK _ _ (w0 ?_))| (clear hK K;clear hK K;refine hK _ _ (w0 ?_)));clear hK K)))
  refine lm (fun nL tL hL=>∃(f v:Nat) (s1:Bs) (at_:List At) (jj:Heap),f=nL∧h++tkR (nameW s) (h.length+1) v at_.length::atR v at_::jj=hL∧tL 5=.str (nameW s)∧tL 6=.str s1∧tL 7=.hp h.length 0 0 0∧s1.length≤s.length∧s1.length+2≤f∧openL f (nameW s) at_ s1 false=openF s∧at_.length≤32) ((fun(f v:Nat) (s1:Bs) (at_:List At) (jj:Heap)=>(f:Nat)) ((s.length+3)) (0) ((nameR s)) ([]) ([])) ?_ ?_
  ·refine⟨_,_,S7 (p:=h.length) (v:=0) 228 2 (by omega) (by simp(disch:=first|omega| (simp only[go_sem, ↓reduceIte,seval];first|done|omega)|fail) only[go_sem, ↓reduceIte,seval,F];rfl) 2 rfl,⟨(s.length+3),0,(nameR s),[],[],rfl,(by simp[tkR,atR]),?_,?_,?_,h1,by omega,by rw[openF,hb],by simp⟩⟩;all_goals try exact zZz F
  rintro _ s2 h' ⟨f,v,s1,at_,jj,rfl,rfl,e5,e6,e7,hs1,hf,hp,ha⟩ K2 hK2;simp only[ai,ak,Nat.reduceEqDiff, ↓reduceIte]at e5 e6 e7;have F:=F4 F e5 e6 e7;(repeat (first|refine w1 (fun K hK=>?_)|refine w2 ?_|refine w3 ?_| ((first|refine w4 ?_|refine wD ?_|refine w5 ?_|refine w6 ?_|refine w7 ?_);try refine sq F ?_)| (refine w8 ?_;refine sq F ?_;refine w9 ?_)| (refine rq F ?_;try refine sq F ?_)| (refine vq F ?_;try refine sq F ?_)| ((first|refine hK _ _ (w0 ?_)| (clear hK K;refine hK _ _ (w0 ?_))| (clear hK K;clear hK K;refine hK _ _ (w0 ?_)));clear hK K)))
  have hd:=aC blankB s1;have ex1:[(1,nameW s,at_,([]:Bs))].map Tok.av=[Tok.av (1,nameW s,at_,[])]:=rfl;obtain⟨g,rfl⟩:∃g,f=g+1:=⟨f-1,by omega⟩;rw[openL,G0 (by simp)]at hp;refine(cm hG hC s1 (by omega) _).mono ?_;rintro r h' ⟨rfl,rfl⟩;try refine sq F ?_
  (repeat (first|refine w1 (fun K hK=>?_)|refine w2 ?_|refine w3 ?_| ((first|refine w4 ?_|refine wD ?_|refine w5 ?_|refine w6 ?_|refine w7 ?_);try refine sq F ?_)| (refine w8 ?_;refine sq F ?_;refine w9 ?_)| (refine rq F ?_;try refine sq F ?_)| (refine vq F ?_;try refine sq F ?_)| ((first|refine hK _ _ (w0 ?_)| (clear hK K;refine hK _ _ (w0 ?_))| (clear hK K;clear hK K;refine hK _ _ (w0 ?_)));clear hK K)))
  cases hc1:Lib.hasPrefix (s1.dropWhile blankB) [62]with
  |true=>
   rw[G3 hc1]at hp;have h9:1≤(s1.dropWhile blankB).length:=(by have:=bp _ _ hc1;simp at this;omega);have h8:List.drop 1 (s1.dropWhile blankB)=Lib.trimPrefix (s1.dropWhile blankB) [62]:=(by unfold Lib.trimPrefix;rw[G3 hc1];rfl);refine(aO _ [62] _).mono ?_;rintro r h' ⟨rfl,rfl⟩;rw[hc1];(try refine sq F ?_);refine hK _ _ ⟨_,_,nk h jj (nameW s) v at_ _ _,?_⟩;clear hK K;(repeat (first|refine w1 (fun K hK=>?_)|refine w2 ?_|refine w3 ?_| ((first|refine w4 ?_|refine wD ?_|refine w5 ?_|refine w6 ?_|refine w7 ?_);try refine sq F ?_)| (refine w8 ?_;refine sq F ?_;refine w9 ?_)| (refine rq F ?_;try refine sq F ?_)| (refine vq F ?_;try refine sq F ?_)| ((first|refine hK _ _ (w0 ?_)| (clear hK K;refine hK _ _ (w0 ?_))| (clear hK K;clear hK K;refine hK _ _ (w0 ?_)));clear hK K)))
   rw[h8, ← ex1];refine ye hQ F ?_;exact OpenR.good _ _ _ hp.symm
  |false=>
   rw[G0 (by simp[hc1])]at hp;have F:=F2 F hc1;refine(aO _ [62] _).mono ?_;rintro r h' ⟨rfl,rfl⟩;(try refine sq F ?_);(repeat (first|refine w1 (fun K hK=>?_)|refine w2 ?_|refine w3 ?_| ((first|refine w4 ?_|refine wD ?_|refine w5 ?_|refine w6 ?_|refine w7 ?_);try refine sq F ?_)| (refine w8 ?_;refine sq F ?_;refine w9 ?_)| (refine rq F ?_;try refine sq F ?_)| (refine vq F ?_;try refine sq F ?_)| ((first|refine hK _ _ (w0 ?_)| (clear hK K;refine hK _ _ (w0 ?_))| (clear hK K;clear hK K;refine hK _ _ (w0 ?_)));clear hK K)))
   cases hc2:Lib.hasPrefix (s1.dropWhile blankB) [47,62]with
   |true=>
    have ex2:[(1,nameW s,at_,([]:Bs)),(2,nameW s,[],[])].map Tok.av=[Tok.av (1,nameW s,at_,[]),.agg [.int .i64 2,.str (nameW s),.sl 2 [],.str []]]:=rfl;rw[G3 hc2]at hp;have h9:2≤(s1.dropWhile blankB).length:=(by have:=bp _ _ hc2;simp at this;omega);have h8:List.drop 2 (s1.dropWhile blankB)=Lib.trimPrefix (s1.dropWhile blankB) [47,62]:=(by unfold Lib.trimPrefix;rw[G3 hc2];rfl);refine(aO _ [47,62] _).mono ?_;rintro r h' ⟨rfl,rfl⟩;rw[hc2];(try refine sq F ?_);refine hK _ _ ⟨_,_,nk h jj (nameW s) v at_ _ _,?_⟩;clear hK K;(repeat (first|refine w1 (fun K hK=>?_)|refine w2 ?_|refine w3 ?_| ((first|refine w4 ?_|refine wD ?_|refine w5 ?_|refine w6 ?_|refine w7 ?_);try refine sq F ?_)| (refine w8 ?_;refine sq F ?_;refine w9 ?_)| (refine rq F ?_;try refine sq F ?_)| (refine vq F ?_;try refine sq F ?_)| ((first|refine hK _ _ (w0 ?_)| (clear hK K;refine hK _ _ (w0 ?_))| (clear hK K;clear hK K;refine hK _ _ (w0 ?_)));clear hK K)))
    rw[h8];refine ye hQ F ?_;exact OpenR.mk _ [(1,nameW s,at_,[]),(2,nameW s,[],[])] (.slR (.cons (v6 (1,nameW s,at_,[])) (.cons (fe _ _ _) .nil))) (by rw[← hp];rfl) (fun _=>by rw[← hp];exact⟨rfl,rfl⟩)
   |false=>
    rw[G0 (by simp[hc2])]at hp;have F:=F2 F hc2;refine(aO _ [47,62] _).mono ?_;rintro r h' ⟨rfl,rfl⟩;(try refine sq F ?_);(repeat (first|refine w1 (fun K hK=>?_)|refine w2 ?_|refine w3 ?_| ((first|refine w4 ?_|refine wD ?_|refine w5 ?_|refine w6 ?_|refine w7 ?_);try refine sq F ?_)| (refine w8 ?_;refine sq F ?_;refine w9 ?_)| (refine rq F ?_;try refine sq F ?_)| (refine vq F ?_;try refine sq F ?_)| ((first|refine hK _ _ (w0 ?_)| (clear hK K;refine hK _ _ (w0 ?_))| (clear hK K;clear hK K;refine hK _ _ (w0 ?_)));clear hK K)))
    have hsum:(s1.takeWhile blankB).length+(s1.dropWhile blankB).length=s1.length:=(by rw[← H7,M3]);cases hbl:(s1.takeWhile blankB==[])with
    |true=>
     have e0:(s1.takeWhile blankB)=[]:=(by simpa using hbl);have b1:(((s1.dropWhile blankB).length:Int)==(s1.length:Int))=true:=(by rw[e0]at hsum;simp at hsum ⊢;omega);have ho:(openF s).2.2=true:=by
      rw[← hp,hbl,T6,L0,L0];cases g<;>rfl
     have F:=F2 F b1;(try refine sq F ?_);(repeat (first|refine w1 (fun K hK=>?_)|refine w2 ?_|refine w3 ?_| ((first|refine w4 ?_|refine wD ?_|refine w5 ?_|refine w6 ?_|refine w7 ?_);try refine sq F ?_)| (refine w8 ?_;refine sq F ?_;refine w9 ?_)| (refine rq F ?_;try refine sq F ?_)| (refine vq F ?_;try refine sq F ?_)| ((first|refine hK _ _ (w0 ?_)| (clear hK K;refine hK _ _ (w0 ?_))| (clear hK K;clear hK K;refine hK _ _ (w0 ?_)));clear hK K)))
     refine ye hQ F ?_;exact OpenR.bad _ ho
    |false=>
     have b1:(((s1.dropWhile blankB).length:Int)==(s1.length:Int))=false:=by
      have:0<(s1.takeWhile blankB).length:=N2.2 (by simpa using hbl);simp;omega
     rw[hbl,Q1]at hp;have F:=F2 F b1;(try refine sq F ?_);(repeat (first|refine w1 (fun K hK=>?_)|refine w2 ?_|refine w3 ?_| ((first|refine w4 ?_|refine wD ?_|refine w5 ?_|refine w6 ?_|refine w7 ?_);try refine sq F ?_)| (refine w8 ?_;refine sq F ?_;refine w9 ?_)| (refine rq F ?_;try refine sq F ?_)| (refine vq F ?_;try refine sq F ?_)| ((first|refine hK _ _ (w0 ?_)| (clear hK K;refine hK _ _ (w0 ?_))| (clear hK K;clear hK K;refine hK _ _ (w0 ?_)));clear hK K)))
     have hl:=jI (s1.dropWhile blankB);refine(sR hG hC (s1.dropWhile blankB) (by omega) _).mono ?_;rintro r h' ⟨a,rest,rfl,hgood,rfl⟩;(try refine sq F ?_);(repeat (first|refine w1 (fun K hK=>?_)|refine w2 ?_|refine w3 ?_| ((first|refine w4 ?_|refine wD ?_|refine w5 ?_|refine w6 ?_|refine w7 ?_);try refine sq F ?_)| (refine w8 ?_;refine sq F ?_;refine w9 ?_)| (refine rq F ?_;try refine sq F ?_)| (refine vq F ?_;try refine sq F ?_)| ((first|refine hK _ _ (w0 ?_)| (clear hK K;refine hK _ _ (w0 ?_))| (clear hK K;clear hK K;refine hK _ _ (w0 ?_)));clear hK K)))
     generalize attrX (s1.dropWhile blankB) false=x at hp hl hgood ⊢;obtain⟨a0,r0,bb⟩:=x;simp only[]at hp hl hgood ⊢;cases bb with
     |true=>
      have ho:(openF s).2.2=true:=by
       rw[← hp,L0,L0];cases g<;>rfl
      (try refine sq F ?_);(repeat (first|refine w1 (fun K hK=>?_)|refine w2 ?_|refine w3 ?_| ((first|refine w4 ?_|refine wD ?_|refine w5 ?_|refine w6 ?_|refine w7 ?_);try refine sq F ?_)| (refine w8 ?_;refine sq F ?_;refine w9 ?_)| (refine rq F ?_;try refine sq F ?_)| (refine vq F ?_;try refine sq F ?_)| ((first|refine hK _ _ (w0 ?_)| (clear hK K;refine hK _ _ (w0 ?_))| (clear hK K;clear hK K;refine hK _ _ (w0 ?_)));clear hK K)))
      refine ye hQ F ?_;exact OpenR.bad _ ho
     |false=>
      obtain⟨rfl,rfl⟩:=hgood rfl;have hl:=hl rfl;rw[O0]at hp;cases hb2:decide ((32:Int)≤(at_.length:Int))with
      |true=>
       have ho:(openF s).2.2=true:=by
        have:decide (32≤at_.length)=true:=by simp at hb2 ⊢;omega
        rw[← hp,this,T6];cases g<;>rfl
       have F:=F2 F hb2;(try refine sq F ?_);(repeat (first|refine w1 (fun K hK=>?_)|refine w2 ?_|refine w3 ?_| ((first|refine w4 ?_|refine wD ?_|refine w5 ?_|refine w6 ?_|refine w7 ?_);try refine sq F ?_)| (refine w8 ?_;refine sq F ?_;refine w9 ?_)| (refine rq F ?_;try refine sq F ?_)| (refine vq F ?_;try refine sq F ?_)| ((first|refine hK _ _ (w0 ?_)| (clear hK K;refine hK _ _ (w0 ?_))| (clear hK K;clear hK K;refine hK _ _ (w0 ?_)));clear hK K)))
       refine ye hQ F ?_;exact OpenR.bad _ ho
      |false=>
       have:decide (32≤at_.length)=false:=by simp at hb2 ⊢;omega
       rw[this,Q1]at hp;have F:=F2 F hb2;(try refine sq F ?_);(repeat (first|refine w1 (fun K hK=>?_)|refine w2 ?_|refine w3 ?_| ((first|refine w4 ?_|refine wD ?_|refine w5 ?_|refine w6 ?_|refine w7 ?_);try refine sq F ?_)| (refine w8 ?_;refine sq F ?_;refine w9 ?_)| (refine rq F ?_;try refine sq F ?_)| (refine vq F ?_;try refine sq F ?_)| ((first|refine hK _ _ (w0 ?_)| (clear hK K;refine hK _ _ (w0 ?_))| (clear hK K;clear hK K;refine hK _ _ (w0 ?_)));clear hK K)))
       refine lm (fun nL tL hL=>∃(i:Nat),at_.length-i=nL∧h++tkR (nameW s) (h.length+1) v at_.length::atR v at_::(jj++[.row 228 2 0 [a.av]])=hL∧tL 12=.int .i64 i∧i≤at_.length∧((at_.take i).any fun x=>x.1==a.1)=false) ((fun(i:Nat)=>(at_.length-i:Nat)) (0)) ?_ ?_
       ·refine G9 ⟨0,rfl,(by simp),?_,by omega,by simp⟩;all_goals try exact zZz F
       rintro _ s3 h' ⟨i,rfl,rfl,e12,hi,hno⟩ K3 hK3;simp only[ai,ak,Nat.reduceEqDiff, ↓reduceIte]at e12;have F:=F2 F e12;(repeat (first|refine w1 (fun K hK=>?_)|refine w2 ?_|refine w3 ?_| ((first|refine w4 ?_|refine wD ?_|refine w5 ?_|refine w6 ?_|refine w7 ?_);try refine sq F ?_)| (refine w8 ?_;refine sq F ?_;refine w9 ?_)| (refine rq F ?_;try refine sq F ?_)| (refine vq F ?_;try refine sq F ?_)| ((first|refine hK _ _ (w0 ?_)| (clear hK K;refine hK _ _ (w0 ?_))| (clear hK K;clear hK K;refine hK _ _ (w0 ?_)));clear hK K)))
       refine cq F (fun c3=>?_) (fun c3=>?_)<;>(try exact c3.elim)<;>((repeat (first|refine w1 (fun K hK=>?_)|refine w2 ?_|refine w3 ?_| ((first|refine w4 ?_|refine wD ?_|refine w5 ?_|refine w6 ?_|refine w7 ?_);try refine sq F ?_)| (refine w8 ?_;refine sq F ?_;refine w9 ?_)| (refine rq F ?_;try refine sq F ?_)| (refine vq F ?_;try refine sq F ?_)| ((first|refine hK _ _ (w0 ?_)| (clear hK K;refine hK _ _ (w0 ?_))| (clear hK K;clear hK K;refine hK _ _ (w0 ?_)));clear hK K))))
       ·obtain⟨y,hy,hym⟩:=ae c3;have F:=F2 F hy;(try refine sq F ?_);(repeat (first|refine w1 (fun K hK=>?_)|refine w2 ?_|refine w3 ?_| ((first|refine w4 ?_|refine wD ?_|refine w5 ?_|refine w6 ?_|refine w7 ?_);try refine sq F ?_)| (refine w8 ?_;refine sq F ?_;refine w9 ?_)| (refine rq F ?_;try refine sq F ?_)| (refine vq F ?_;try refine sq F ?_)| ((first|refine hK _ _ (w0 ?_)| (clear hK K;refine hK _ _ (w0 ?_))| (clear hK K;clear hK K;refine hK _ _ (w0 ?_)));clear hK K)))
        refine⟨c3,?_⟩;(repeat (first|refine w1 (fun K hK=>?_)|refine w2 ?_|refine w3 ?_| ((first|refine w4 ?_|refine wD ?_|refine w5 ?_|refine w6 ?_|refine w7 ?_);try refine sq F ?_)| (refine w8 ?_;refine sq F ?_;refine w9 ?_)| (refine rq F ?_;try refine sq F ?_)| (refine vq F ?_;try refine sq F ?_)| ((first|refine hK _ _ (w0 ?_)| (clear hK K;refine hK _ _ (w0 ?_))| (clear hK K;clear hK K;refine hK _ _ (w0 ?_)));clear hK K)))
        cases hya:(y.1==a.1)with
        |true=>
         have ho:(openF s).2.2=true:=by
          have:(at_.any fun x=>x.1==a.1)=true:=R0.2 ⟨y,hym,hya⟩;rw[← hp,this];cases g<;>rfl
         have F:=F2 F hya;(try refine sq F ?_);(repeat (first|refine w1 (fun K hK=>?_)|refine w2 ?_|refine w3 ?_| ((first|refine w4 ?_|refine wD ?_|refine w5 ?_|refine w6 ?_|refine w7 ?_);try refine sq F ?_)| (refine w8 ?_;refine sq F ?_;refine w9 ?_)| (refine rq F ?_;try refine sq F ?_)| (refine vq F ?_;try refine sq F ?_)| ((first|refine hK _ _ (w0 ?_)| (clear hK K;refine hK _ _ (w0 ?_))| (clear hK K;clear hK K;refine hK _ _ (w0 ?_)));clear hK K)))
         refine ye hQ F ?_;exact OpenR.bad _ ho
        |false=>
         have F:=F2 F hya;(try refine sq F ?_);(repeat (first|refine w1 (fun K hK=>?_)|refine w2 ?_|refine w3 ?_| ((first|refine w4 ?_|refine wD ?_|refine w5 ?_|refine w6 ?_|refine w7 ?_);try refine sq F ?_)| (refine w8 ?_;refine sq F ?_;refine w9 ?_)| (refine rq F ?_;try refine sq F ?_)| (refine vq F ?_;try refine sq F ?_)| ((first|refine hK _ _ (w0 ?_)| (clear hK K;refine hK _ _ (w0 ?_))| (clear hK K;clear hK K;refine hK _ _ (w0 ?_)));clear hK K)))
         refine hK3 _ _ _ (G9 ⟨i+1,rfl,ar,?_,by omega,by rw[M2,hy];simp[hno,hya]⟩) (by omega);all_goals try exact zZz F
       ·refine aq F ?_;(try refine sq F ?_);(repeat (first|refine w1 (fun K hK=>?_)|refine w2 ?_|refine w3 ?_| ((first|refine w4 ?_|refine wD ?_|refine w5 ?_|refine w6 ?_|refine w7 ?_);try refine sq F ?_)| (refine w8 ?_;refine sq F ?_;refine w9 ?_)| (refine rq F ?_;try refine sq F ?_)| (refine vq F ?_;try refine sq F ?_)| ((first|refine hK _ _ (w0 ?_)| (clear hK K;refine hK _ _ (w0 ?_))| (clear hK K;clear hK K;refine hK _ _ (w0 ?_)));clear hK K)))
        have:(at_.any fun x=>x.1==a.1)=false:=by
         have e:at_.take i=at_:=H9 (by omega);rw[e]at hno;exact hno
        rw[this]at hp;refine hK2 _ _ _ (G9 ⟨g,v+1,rest,at_++[a],jj++[.row 228 2 0 [a.av]],rfl,by simp[tkR,atR],?_,?_,?_,by omega,by omega,hp,by simp at hb2;simp;omega⟩) (by omega);all_goals try exact zZz F
end
section
attribute [local irreducible] WP WPl WPix Sat
variable {G:Nat→Option (List AVal)}
theorem nl:∀s:Bs,(∀c,c∈s.takeWhile textB→c≠60)∧(s.dropWhile textB=[]∨∃t,s.dropWhile textB=60::t)
 | []=>⟨by simp,.inl rfl⟩
 |c::s=>by
  obtain⟨h1,h2⟩:=nl s;have hb:textB c= !(c==60):=by
   have:∀x:UInt8,textB x= !(x==60):=by
    intro x;unfold textB textP;by_cases e:x=60
    ·subst e;rfl
    ·have:¬(x.toNat:Int)=60:=fun e2=>e (N1.1 (by have:(x.toNat:Int)=((60:UInt8).toNat:Int):=e2;omega))
     simp[e,this]
   exact this c
  by_cases e:c=60
  ·subst e;exact⟨by simp[List.takeWhile_cons,hb],.inr ⟨s,by simp[M7,hb]⟩⟩
  ·have hb:textB c=true:=(by rw[hb];simp[e]);refine⟨fun d hd=>?_,by rw[M7,G3 hb];exact h2⟩;rw[List.takeWhile_cons,G3 hb]at hd;rcases J6.1 hd with rfl|hd
   ·exact e
   ·exact h1 d hd
theorem wm(s:Bs):(Lib.index s [60]<0∧s.takeWhile textB=s∧s.dropWhile textB=[])∨∃m:Nat,Lib.index s [60]=m∧m≤s.length∧s.takeWhile textB=s.take m∧s.dropWhile textB=s.drop m:=by
 obtain⟨h1,h2⟩:=nl s;have hs:s.takeWhile textB++s.dropWhile textB=s:=M3;have ix:=gE [60] s false;generalize s.takeWhile textB=a at*;generalize s.dropWhile textB=b at*;subst hs;have hne:∀i,i<a.length→∀c,(a++b)[i]? =some c→c≠60:=fun i hi c hc=>by
  rw[H0 hi]at hc;exact h1 c (G4 hc)
 rcases h2 with rfl| ⟨t,rfl⟩
 ·left;rcases ix with⟨g1,_⟩| ⟨m,g1,g2,g3⟩
  ·exact⟨g1,by simp,rfl⟩
  ·exfalso;have hc:(Lib.cut (a++[]) [60]).2.2=true:=(by unfold Lib.cut;rw[G3 (by omega)]);have k1:=jc _ _ a.length hne hc;have k2:=bG _ _ hc;simp at k1 k2;omega
 ·right;have hc:=sP (a++60::t) 60 a.length hne (by simp);rcases ix with⟨g1,g2⟩| ⟨m,g1,g2,g3⟩
  ·exfalso;unfold uptoF at g2;rw[hc]at g2;simp at g2
  ·unfold uptoF at g3;rw[hc]at g3;have e1:a=(a++60::t).take m:=(by simpa using J2 (fun x=>x.1) g3);have e2:a.length=m:=by
    have:=J2 List.length e1;rw[I2]at this;simp at g2 this;omega
   exact⟨m,g1,by simp at g2 ⊢;omega,e1,by rw[← e2];simp⟩
theorem xE(c:UInt8)(t w:Bs)(h:c≠60):Lib.hasPrefix (c::t) (60::w)=false:=by
 simp[Lib.hasPrefix,List.isPrefixOf,Ne.symm h]
theorem OpenR.mkS{h:Heap}{y:List Tok×Bs×Bool}{x:AVal}{rest:Bs}{b:Bool}(ts:List Tok)(hx:Frz h h.length x (.sl 4 (ts.map Tok.av)))(hb:b= !y.2.2)(hg:y.2.2=false→ts=y.1∧rest=y.2.1):Fin h h (OpenR h y) (.tup [x,.str rest,.bool b]):=
 V6 (U0 (.cons hx (.cons (.clo _ (.str _)) (.cons (.clo _ (.bool _)) .nil)))) ⟨ts,rest,by rw[hb],hg,rfl⟩
theorem gF(s w:Bs)(h:Lib.hasPrefix s w=true):s.drop w.length=Lib.trimPrefix s w:=by unfold Lib.trimPrefix;rw[G3 h]
theorem sU(hG:GOk G)(hC:GClo (CT G))(s:Bs)(hs:s.length≤1048576)(hn0:s≠ [])(h:Heap):Sat (CT G) 115 [.str s] h (OpenR h (partF s)):=by
 have ht:=fun w=>aL s w
 have hpos:0<s.length:=N2.2 hn0;obtain⟨c,hc0,hcm⟩:=ae hpos;have up:∀w z:Bs,Lib.hasPrefix s w=true→z.length≤100→Sat (CT G) 183 [.str s,.str w,.str z] h (fun r h'=>∃rest:Bs,r=.tup [.str (uptoF z (Lib.trimPrefix s w) false).1,.str rest,.bool (!(uptoF z (Lib.trimPrefix s w) false).2.2)]∧((uptoF z (Lib.trimPrefix s w) false).2.2=false→rest=(uptoF z (Lib.trimPrefix s w) false).2.1)∧h'=h):=fun w z hw hz=>by
  have:=sS (G:=G) s w z hs (by have:=bp _ _ hw;omega) hz h;rw[gF s w hw]at this;exact this
 by_cases hc:c=60
 ·subst hc;have b0:((UInt8.toNat 60:Int) !=60)=false:=rfl;obtain⟨t,ht0⟩:∃t,s=60::t:=by
   cases s with
   |nil=>cases hc0
   |cons a t=>simp at hc0;subst hc0;exact⟨t,rfl⟩
  have F:=F2 hc0 b0;refine sb [.tmp 2,.tmp 3,.tmp 4] Tryz.func115 ?_;intro Q hQ;refine wk F ?_;cases c1:Lib.hasPrefix s [60,33,45,45]with
  |true=>
   have e:partF s=([],(uptoF [45,45,62] (Lib.trimPrefix s [60,33,45,45]) false).2):=(by unfold partF;rw[G3 (show Lib.hasPrefix s p1=true from c1)];rfl);have F:=F2 F c1;refine(aO s [60,33,45,45] _).mono ?_;rintro r h' ⟨rfl,hk_⟩;replace hk_:=hk_.symm;subst hk_;(try refine sq F ?_);refine wk F ?_;refine(up [60,33,45,45] [45,45,62] c1 (by simp)).mono ?_;rintro r h' ⟨rest,rfl,hg,hk⟩;replace hk:=hk.symm;subst hk;simp(disch:=first|omega| (simp only[go_sem, ↓reduceIte,seval];first|done|omega)|fail) only[go_sem, ↓reduceIte,seval,F];refine wk F ?_;refine ye hQ F ?_;rw[e];exact OpenR.mkS [] (.nils _) rfl (fun h=>⟨rfl,hg h⟩)
  |false=>
  have F:=F2 F c1;refine(aO s [60,33,45,45] _).mono ?_;rintro r h' ⟨rfl,hk_⟩;replace hk_:=hk_.symm;subst hk_;try refine sq F ?_
  refine wk F ?_;cases c2:Lib.hasPrefix s [60,63]with
  |true=>
   have e:partF s=([],(uptoF [63,62] (Lib.trimPrefix s [60,63]) false).2):=(by unfold partF;rw[G0 (show ¬Lib.hasPrefix s p1=true by rw[show Lib.hasPrefix s p1=false from c1];simp),G3 (show Lib.hasPrefix s p2=true from c2)];rfl);have F:=F2 F c2;refine(aO s [60,63] _).mono ?_;rintro r h' ⟨rfl,hk_⟩;replace hk_:=hk_.symm;subst hk_;(try refine sq F ?_);refine wk F ?_;refine(up [60,63] [63,62] c2 (by simp)).mono ?_;rintro r h' ⟨rest,rfl,hg,hk⟩;replace hk:=hk.symm;subst hk;simp(disch:=first|omega| (simp only[go_sem, ↓reduceIte,seval];first|done|omega)|fail) only[go_sem, ↓reduceIte,seval,F];refine wk F ?_;refine ye hQ F ?_;rw[e];exact OpenR.mkS [] (.nils _) rfl (fun h=>⟨rfl,hg h⟩)
  |false=>
  have F:=F2 F c2;refine(aO s [60,63] _).mono ?_;rintro r h' ⟨rfl,hk_⟩;replace hk_:=hk_.symm;subst hk_;try refine sq F ?_
  refine wk F ?_;cases c3:Lib.hasPrefix s [60,33,68,79,67,84,89,80,69]with
  |true=>
   have e:partF s=([],kindF (Lib.trimPrefix s [60,33,68,79,67,84,89,80,69]) false):=(by unfold partF;rw[G0 (show ¬Lib.hasPrefix s p1=true by rw[show Lib.hasPrefix s p1=false from c1];simp),G0 (show ¬Lib.hasPrefix s p2=true by rw[show Lib.hasPrefix s p2=false from c2];simp),G3 (show Lib.hasPrefix s p3=true from c3)];rfl);have F:=F2 F c3;refine(aO s [60,33,68,79,67,84,89,80,69] _).mono ?_;rintro r h' ⟨rfl,hk_⟩;replace hk_:=hk_.symm;subst hk_;(try refine sq F ?_);refine wk F ?_;refine(up [60,33,68,79,67,84,89,80,69] [62] c3 (by simp)).mono ?_;rintro r h' ⟨rest,rfl,hg,hk⟩;replace hk:=hk.symm;subst hk;simp(disch:=first|omega| (simp only[go_sem, ↓reduceIte,seval];first|done|omega)|fail) only[go_sem, ↓reduceIte,seval,F];refine wk F ?_;have hul:=dS [62] (Lib.trimPrefix s [60,33,68,79,67,84,89,80,69]) false;have htl:=ht [60,33,68,79,67,84,89,80,69];have ek:kindF (Lib.trimPrefix s [60,33,68,79,67,84,89,80,69]) false=((uptoF [62] (Lib.trimPrefix s [60,33,68,79,67,84,89,80,69]) false).2.1,Lib.contains (uptoF [62] (Lib.trimPrefix s [60,33,68,79,67,84,89,80,69]) false).1 [91]||(uptoF [62] (Lib.trimPrefix s [60,33,68,79,67,84,89,80,69]) false).2.2):=rfl;rw[ek]at e;clear ek;generalize uptoF [62] (Lib.trimPrefix s [60,33,68,79,67,84,89,80,69]) false=u at hul hg e ⊢;obtain⟨u1,u2,u3⟩:=u;simp only[]at hul hg e ⊢;cases u3 with
   |true=>
    (try refine sq F ?_);refine wk F ?_;refine ye hQ F ?_;rw[e];exact OpenR.mkS [] (.nils _) (by simp) (fun h=>by simp at h)
   |false=>
    (try refine sq F ?_);refine wk F ?_;refine(cB u1 [91] (by omega) (by simp) _).mono ?_;rintro r h' ⟨rfl,hk_⟩;replace hk_:=hk_.symm;subst hk_;(try refine sq F ?_);refine wk F ?_;refine ye hQ F ?_;rw[e];exact OpenR.mkS [] (.nils _) (by rw[og];simp only[Q1];by_cases q:0≤Lib.index u1 [91]<;>simp[q]<;>omega) (fun _=>⟨rfl,hg rfl⟩)
  |false=>
  have F:=F2 F c3;refine(aO s [60,33,68,79,67,84,89,80,69] _).mono ?_;rintro r h' ⟨rfl,hk_⟩;replace hk_:=hk_.symm;subst hk_;try refine sq F ?_
  refine wk F ?_;cases c4:Lib.hasPrefix s [60,33,91,67,68,65,84,65,91]with
  |true=>
   have e:partF s=([(3,[],[],(uptoF [93,93,62] (Lib.trimPrefix s [60,33,91,67,68,65,84,65,91]) false).1)],(uptoF [93,93,62] (Lib.trimPrefix s [60,33,91,67,68,65,84,65,91]) false).2):=(by unfold partF;rw[G0 (show ¬Lib.hasPrefix s p1=true by rw[show Lib.hasPrefix s p1=false from c1];simp),G0 (show ¬Lib.hasPrefix s p2=true by rw[show Lib.hasPrefix s p2=false from c2];simp),G0 (show ¬Lib.hasPrefix s p3=true by rw[show Lib.hasPrefix s p3=false from c3];simp),G3 (show Lib.hasPrefix s p4=true from c4)];rfl);have F:=F2 F c4;refine(aO s [60,33,91,67,68,65,84,65,91] _).mono ?_;rintro r h' ⟨rfl,hk_⟩;replace hk_:=hk_.symm;subst hk_;(try refine sq F ?_);refine wk F ?_;refine(up [60,33,91,67,68,65,84,65,91] [93,93,62] c4 (by simp)).mono ?_;rintro r h' ⟨rest,rfl,hg,hk⟩;replace hk:=hk.symm;subst hk;simp(disch:=first|omega| (simp only[go_sem, ↓reduceIte,seval];first|done|omega)|fail) only[go_sem, ↓reduceIte,seval,F];refine wk F ?_;refine ye hQ F ?_;rw[e];exact OpenR.mkS [(3,[],[],(uptoF [93,93,62] (Lib.trimPrefix s [60,33,91,67,68,65,84,65,91]) false).1)] (.slR (.cons (fe _ _ _) .nil)) rfl (fun h=>⟨rfl,hg h⟩)
  |false=>
  have F:=F2 F c4;refine(aO s [60,33,91,67,68,65,84,65,91] _).mono ?_;rintro r h' ⟨rfl,hk_⟩;replace hk_:=hk_.symm;subst hk_;try refine sq F ?_
  refine wk F ?_;cases c5:Lib.hasPrefix s [60,47]with
  |true=>
   have e:partF s=([(2,nameW (Lib.trimPrefix s [60,47]),[],[])],closeF (Lib.trimPrefix s [60,47]) false):=(by unfold partF;rw[G0 (show ¬Lib.hasPrefix s p1=true by rw[show Lib.hasPrefix s p1=false from c1];simp),G0 (show ¬Lib.hasPrefix s p2=true by rw[show Lib.hasPrefix s p2=false from c2];simp),G0 (show ¬Lib.hasPrefix s p3=true by rw[show Lib.hasPrefix s p3=false from c3];simp),G0 (show ¬Lib.hasPrefix s p4=true by rw[show Lib.hasPrefix s p4=false from c4];simp),G3 (show Lib.hasPrefix s p5=true from c5)];rfl);have h2:=bp _ _ c5;simp only[G5,H6]at h2;have h3:List.drop 2 s=Lib.trimPrefix s [60,47]:=gF s [60,47] c5;have F:=F3 F c5 h3;refine(aO s [60,47] _).mono ?_;rintro r h' ⟨rfl,hk_⟩;replace hk_:=hk_.symm;subst hk_;(try refine sq F ?_);refine wk F ?_;have htl:=ht [60,47];generalize Lib.trimPrefix s [60,47]=x at e htl ⊢;have h4:(nameR x).length≤x.length:=aC _ _;have h5:=aC blankB (nameR x);have hn:=i7 hG hC x (by omega);have ec:closeF x false=(Lib.trimPrefix ((nameR x).dropWhile blankB) [62],(false||badN (nameW x))|| !Lib.hasPrefix ((nameR x).dropWhile blankB) [62]):=rfl;cases hbn:badN (nameW x)with
   |true=>
    have en:nmR x=([],x):=(by unfold nmR;rw[G3 hbn]);have he:(([]:Bs)==[])=true:=rfl;rw[en]at hn;rw[hbn]at ec;have F:=F2 F he;refine(hn _).mono ?_;rintro r h' ⟨rfl,hk_⟩;replace hk_:=hk_.symm;subst hk_;(try refine sq F ?_);refine wk F ?_;refine(cm hG hC x (by omega) _).mono ?_;rintro r h' ⟨rfl,hk_⟩;replace hk_:=hk_.symm;subst hk_;(try refine sq F ?_);refine wk F ?_;refine ye hQ F ?_;rw[e,ec];exact OpenR.mkS [] (.nils _) (by simp) (fun h=>by simp at h)
   |false=>
    have en:nmR x=(nameW x,nameR x):=(by unfold nmR;rw[G0 (by simp[hbn])]);have hne:(nameW x==[])=false:=(by simpa using jd _ hbn);rw[en]at hn;rw[hbn]at ec;have F:=F2 F hne;refine(hn _).mono ?_;rintro r h' ⟨rfl,hk_⟩;replace hk_:=hk_.symm;subst hk_;(try refine sq F ?_);refine wk F ?_;refine(cm hG hC (nameR x) (by omega) _).mono ?_;rintro r h' ⟨rfl,hk_⟩;replace hk_:=hk_.symm;subst hk_;(try refine sq F ?_);refine wk F ?_;generalize (nameR x).dropWhile blankB=s2 at ec h5 ⊢;cases h62:Lib.hasPrefix s2 [62]with
    |true=>
     rw[h62]at ec;have h6:=bp _ _ h62;simp only[G5,H6]at h6;have h7:List.drop 1 s2=Lib.trimPrefix s2 [62]:=gF s2 [62] h62;have F:=F3 F h62 h7;refine(aO s2 [62] _).mono ?_;rintro r h' ⟨rfl,hk_⟩;replace hk_:=hk_.symm;subst hk_;(try refine sq F ?_);refine wk F ?_;refine ye hQ F ?_;rw[e,ec];exact OpenR.mkS [(2,nameW x,[],[])] (.slR (.cons (fe _ _ _) .nil)) rfl (fun _=>⟨rfl,rfl⟩)
    |false=>
     rw[h62]at ec;have F:=F2 F h62;refine(aO s2 [62] _).mono ?_;rintro r h' ⟨rfl,hk_⟩;replace hk_:=hk_.symm;subst hk_;(try refine sq F ?_);refine wk F ?_;refine ye hQ F ?_;rw[e,ec];exact OpenR.mkS [] (.nils _) (by simp) (fun h=>by simp at h)
  |false=>
   have e:partF s=openF (Lib.trimPrefix s [60]):=by
    unfold partF;rw[G0 (show ¬Lib.hasPrefix s p1=true by rw[show Lib.hasPrefix s p1=false from c1];simp),G0 (show ¬Lib.hasPrefix s p2=true by rw[show Lib.hasPrefix s p2=false from c2];simp),G0 (show ¬Lib.hasPrefix s p3=true by rw[show Lib.hasPrefix s p3=false from c3];simp),G0 (show ¬Lib.hasPrefix s p4=true by rw[show Lib.hasPrefix s p4=false from c4];simp),G0 (show ¬Lib.hasPrefix s p5=true by rw[show Lib.hasPrefix s p5=false from c5];simp),G3 (show Lib.hasPrefix s p6=true by rw[ht0];rfl)];rfl
   have h3:List.drop 1 s=Lib.trimPrefix s [60]:=gF s [60] (by rw[ht0];rfl);have F:=F3 F c5 h3;refine(aO s [60,47] _).mono ?_;rintro r h' ⟨rfl,hk_⟩;replace hk_:=hk_.symm;subst hk_;(try refine sq F ?_);refine wk F ?_;have htl:=ht [60];refine(sT hG hC (Lib.trimPrefix s [60]) (by omega) h).mono ?_;rintro r h' ⟨ts,rest,rfl,hg,hk⟩;replace hk:=hk.symm;subst hk;simp(disch:=first|omega| (simp only[go_sem, ↓reduceIte,seval];first|done|omega)|fail) only[go_sem, ↓reduceIte,seval,F];refine wk F ?_;refine ye hQ F ?_;rw[e];exact OpenR.mkS ts (.clo _ (nj _ ts)) rfl hg
 ·have b0:((c.toNat:Int) !=60)=true:=by
   have:¬(c.toNat:Int)=60:=fun e2=>hc (N1.1 (by have:(c.toNat:Int)=((60:UInt8).toNat:Int):=e2;omega))
   simpa using this
  obtain⟨t,ht0⟩:∃t,s=c::t:=by
   cases s with
   |nil=>cases hc0
   |cons a t=>simp at hc0;subst hc0;exact⟨t,rfl⟩
  have e:partF s=([(3,[],[],rdE (s.takeWhile textB))],s.dropWhile textB,false):=by
   have:=fun w=>xE c t w hc
   rw[← ht0]at this;unfold partF p1 p2 p3 p4 p5 p6;simp only[this,I7,if_false];rfl
  have hl:(s.takeWhile textB).length≤s.length:=(List.takeWhile_sublist _).length_le;have F:=F2 hc0 b0;refine sb [.tmp 2,.tmp 3,.tmp 4] Tryz.func115 ?_;intro Q hQ;refine wk F ?_;refine(cB s [60] (by omega) (by simp) _).mono ?_;rintro r h' ⟨rfl,hk_⟩;replace hk_:=hk_.symm;subst hk_;try refine sq F ?_
  refine wk F ?_;rcases wm s with⟨g1,g2,g3⟩| ⟨m,g1,g2,g3,g4⟩
  ·have b1:decide (Lib.index s [60]<0)=true:=(by simpa using g1);have e1:List.take s.length s=s:=List.take_length;have e2:List.drop s.length s=[]:=List.drop_length;have F:=F4 F b1 e1 e2;(try refine sq F ?_);refine wk F ?_;refine aa (de s (by omega) _) ?_;(try refine sq F ?_);refine wk F ?_;refine ye hQ F ?_;rw[e];exact OpenR.mkS [(3,[],[],rdE s)] (.slR (.cons (fe _ _ _) .nil)) rfl (fun _=>⟨by rw[g2],g3.symm⟩)
  ·rw[g1];have b1:decide ((m:Int)<0)=false:=(by simp);have F:=F2 F b1;(try refine sq F ?_);refine wk F ?_;refine aa (de (s.take m) (by rw[I2];omega) _) ?_;(try refine sq F ?_);refine wk F ?_;refine ye hQ F ?_;rw[e];exact OpenR.mkS [(3,[],[],rdE (s.take m))] (.slR (.cons (fe _ _ _) .nil)) rfl (fun _=>⟨by rw[g3],g4.symm⟩)
end
section
attribute [local irreducible] WP WPl WPix Sat
variable {G:Nat→Option (List AVal)}
theorem oh(hG:GOk G)(hC:GClo (CT G))(s:Bs)(hs:s.length≤1048576)(h:Heap):Sat (CT G) 71 [.str s] h
  (fun r h'=>∃a,r=.tup [.sl 4 ((toksF s).1.map Tok.av),.int .i64 a,.int .i64 (toksF s).2]∧h'=h):=by
 refine sb [.tmp 2,.tmp 3,.tmp 4] Tryz.func71 ?_;intro Q hQ;refine wk trivial ?_;refine cq trivial (fun c0=>?_) (fun c0=>?_)<;>(try exact c0.elim)<;>(refine wk trivial ?_)
 ·have e:toksF s=([],3):=by unfold toksF;rw[G3 (by omega)]
  refine ye hQ trivial ?_;rw[e];exact V6 (U0 (.cons (.nils 4) (.cons (.clo _ (.int _ _)) (.cons (.clo _ (.int _ _)) .nil)))) ⟨0,rfl,rfl⟩
 have e:toksF s=tksF (s.length+1) s []:=by unfold toksF;rw[G0 (by omega)]
 have bad:∀(jj:Heap) (a:Int) (c:Int),toksF s=([],c)→Fin h (h++jj) (fun r h'=>∃a,r=.tup [.sl 4 ((toksF s).1.map Tok.av),.int .i64 a,.int .i64 (toksF s).2]∧h'=h) (.tup [.nil (.slice none 0 0),.int .i64 a,.int .i64 c]):=fun jj a c hb=>by
  rw[hb];exact P3 (U0 (.cons (.nils 4) (.cons (.clo _ (.int _ _)) (.cons (.clo _ (.int _ _)) .nil)))) ⟨a,rfl,rfl⟩
 refine lm (fun nL tL hL=>∃(f v:Nat) (s1:Bs) (l:List Tok),f=nL∧h++[tksR v l]=hL∧tL 5=.hs h.length v 0 l.length true∧tL 6=.str s1∧s1.length<f∧tksF f s1 l=toksF s∧szs Tok.sz l+10*s1.length≤10*s.length∧l.length≤8192) ((fun(f v:Nat) (s1:Bs) (l:List Tok)=>(f:Nat)) (s.length+1) (0) (s) ([])) ?_ ?_
 ·refine⟨_,_,V4 5 182 4 (by simp) (by omega) (by exact zq trivial),⟨s.length+1,0,s,[],rfl,by simp[tksR],?_,?_,by omega,e.symm,by simp[szs],by simp⟩⟩;all_goals try exact zZz trivial
 rintro _ s2 h' ⟨f,v,s1,l,rfl,rfl,e5,e6,hf,hp,hz,hl⟩ K2 hK2;simp only[ai,ak,Nat.reduceEqDiff, ↓reduceIte]at e5 e6;have F:=F2 e5 e6;refine wk F ?_;obtain⟨g,rfl⟩:∃g,f=g+1:=⟨f-1,by omega⟩;rw[tksF]at hp;refine cq F (fun c1=>?_) (fun c1=>?_)<;>(try exact c1.elim)<;>(refine wk F ?_)
 ·have c1:s1≠ []:=N2.1 (by omega);have hps:=j8 s1 c1;have hpl:=jK s1 c1;have hz0:=bF Tok.sz V0 (partF s1).1;rw[G0 c1]at hp;refine(sU hG hC s1 (by omega) c1 _).mono ?_;rintro r h' ⟨tk,r1,rfl,hg,rfl⟩;simp(disch:=first|omega| (simp only[go_sem, ↓reduceIte,seval];first|done|omega)|fail) only[go_sem, ↓reduceIte,seval,F];refine wk F ?_;generalize partF s1=x at hp hps hpl hz0 hg ⊢;obtain⟨tk0,r0,bb⟩:=x;simp only[]at hp hps hpl hz0 hg ⊢;cases bb with
  |true=>
   rw[G3 rfl]at hp;(try refine sq F ?_);refine wk F ?_;refine ye hQ F ?_;exact bad _ _ _ hp.symm
  |false=>
   obtain⟨rfl,rfl⟩:=hg rfl;rw[G0 (by simp)]at hp;(try refine sq F ?_);refine wk F ?_;refine lm (fun nL tL hL=>∃(k v2:Nat) (l2:List Tok),tk.length-k=nL∧h++[tksR v2 l2]=hL∧tL 5=.hs h.length v2 0 l2.length true∧tL 11=.int .i64 k∧k≤tk.length∧(tk.drop k).foldl addT l2=tk.foldl addT l∧szs Tok.sz l2+szs Tok.sz (tk.drop k)≤szs Tok.sz l+szs Tok.sz tk) ((fun(k v2:Nat) (l2:List Tok)=>(tk.length-k:Nat)) (0) (v) (l)) ?_ ?_
   ·refine G9 ⟨0,v,l,rfl,ar,?_,?_,?_,?_,?_⟩;all_goals try exact zZz F
   rintro _ s3 h' ⟨k,v2,l2,rfl,rfl,e5,e11,hk,hq,hz2⟩ K3 hK3;simp only[ai,ak,Nat.reduceEqDiff, ↓reduceIte]at e5 e11;have F:=F3 F e5 e11;refine wk F ?_;refine cq F (fun c2=>?_) (fun c2=>?_)<;>(try exact c2.elim)<;>(refine wk F ?_)
   ·obtain⟨y,hy,hym⟩:=ae c2;rw[aF hy]at hq hz2;simp only[szs,List.foldl_cons]at hq hz2;have hz3:=bF Tok.sz V0 l2;have hz4:=kB l2 y;have F:=F2 F hy;by_cases c3:y.1=3
    ·have b3:(y.1==3)=true:=(by simpa using c3);by_cases c4:y.2.2.2=[]
     ·have b4:(y.2.2.2==[])=true:=(by simpa using c4);have ea:addT l2 y=l2:=(by unfold addT;rw[G3 c3,G3 c4]);rw[ea]at hq hz4;have F:=F3 F b3 b4;(try refine sq F ?_);refine wk F ?_;refine hK3 _ _ _ (G9 ⟨k+1,v2,l2,rfl,ar,?_,?_,by omega,hq,by omega⟩) (by omega);all_goals try exact zZz F
     ·have b4:(y.2.2.2==[])=false:=(by simpa using c4);rcases P0 l2 with rfl| ⟨l2,u,rfl⟩
      ·have ea:=j7 y fun _=>c4
       rw[ea]at hq hz4;have F:=F3 F b3 b4;(try refine sq F ?_);refine wk F ?_;refine aq F ?_;(try refine sq F ?_);refine wk F ?_;refine hK3 _ _ _ (G9 ⟨k+1,v2+1,[y],rfl,by simp[tksR],?_,?_,by omega,hq,by omega⟩) (by omega);all_goals try exact zZz F
      ·rw[P1]at*;have hsn:=i5 l2 u y c3 c4;have e1:((l2.length+1:Nat):Int)-1=l2.length:=(by omega);have e2:(l2++[u])[l2.length]? =some u:=(by simp);have b6:decide (((l2.length+1:Nat):Int)>0)=true:=(by simp);have e3:l2.length<l2.length+1:=(by omega);have hl2:l2.length+1≤100000000:=(by rw[H7]at hz3;simp only[G5,H6]at hz3;omega);have hut:=dD (l:=l2++[u]) (u:=u) (by simp);have hyt:=dD hym;by_cases c5:u.1=3
       ·have b5:(u.1==3)=true:=(by simpa using c5);rw[G3 c5]at hsn;rw[hsn]at hq hz4;have F:=F8 F b3 b4 b5 b6 e1 e2 e3;(try refine sq F ?_);refine wk F ?_;refine hK3 _ _ _ (G9 ⟨k+1,v2,l2++[(u.1,u.2.1,u.2.2.1,u.2.2.2++y.2.2.2)],rfl,by simp[tksR,Tok.av,ofCells],?_,?_,by omega,hq,by omega⟩) (by omega);all_goals try exact zZz F
       ·have b5:(u.1==3)=false:=(by simpa using c5);rw[G0 c5]at hsn;rw[hsn]at hq hz4;have F:=F8 F b3 b4 b5 b6 e1 e2 e3;(try refine sq F ?_);refine wk F ?_;refine aq F ?_;(try refine sq F ?_);refine wk F ?_;refine hK3 _ _ _ (G9 ⟨k+1,v2+1,l2++[u]++[y],rfl,by simp[tksR],?_,?_,by omega,hq,by omega⟩) (by omega);all_goals try exact zZz F
    ·have b3:(y.1==3)=false:=(by simpa using c3);have ea:addT l2 y=l2++[y]:=(by unfold addT;rw[G0 c3]);rw[ea]at hq hz4;have F:=F2 F b3;(try refine sq F ?_);refine wk F ?_;refine aq F ?_;(try refine sq F ?_);refine wk F ?_;refine hK3 _ _ _ (G9 ⟨k+1,v2+1,l2++[y],rfl,by simp[tksR],?_,?_,by omega,hq,by omega⟩) (by omega);all_goals try exact zZz F
   ·rw[aY c2]at hq hz2;simp only[szs,List.foldl_nil]at hq hz2;subst hq;refine cq F (fun c4=>?_) (fun c4=>?_)<;>(try exact c4.elim)<;>(refine wk F ?_)
    ·rw[G3 (by omega)]at hp;refine ye hQ F ?_;exact bad _ _ _ hp.symm
    ·rw[G0 (by omega)]at hp;refine hK2 _ _ _ (G9 ⟨g,v2,r1,tk.foldl addT l,rfl,ar,?_,?_,by omega,hp,by omega,by omega⟩) (by omega);all_goals try exact zZz F
 ·have c1:s1=[]:=L8 (by omega);rw[G3 c1]at hp;refine ye hQ F ?_;rw[← hp];exact P3 (U0 (.cons (Frz.toksD (H5 _) (by simp[getRow,tksR];rfl) rfl) (.cons (.clo _ (.int _ _)) (.cons (.clo _ (.int _ _)) .nil)))) ⟨_,rfl,rfl⟩
end
section
attribute [local irreducible] WP WPl WPix Sat
variable {G:Nat→Option (List AVal)}
def blankT(t:Tok):Bool:=t.2.2.2.all blankB&&(t.1==3)
theorem wo:∀b:UInt8,blankB b=(b==9||b==10||b==13||b==32):=by
 have:∀x:_root_.Fin 256,blankB (UInt8.ofNat x.val)=(UInt8.ofNat x.val==9||UInt8.ofNat x.val==10||UInt8.ofNat x.val==13||UInt8.ofNat x.val==32):=by decide+kernel
 intro b;have h:=this ⟨b.toNat,b.toNat_lt⟩;simpa using h
theorem jR(c:UInt8)(k:Nat)(hk:k<256)(h:c≠UInt8.ofNat k):((c.toNat:Int) != (k:Int))=true:=by
 have:¬(c.toNat:Int)=k:=fun e2=>h (N1.1 (by rw[UInt8.toNat_ofNat_of_lt' (by simpa using hk)];omega))
 simpa using this
theorem cr(t:Tok)(ht:t.2.2.2.length≤1048576)(h:Heap):Sat (CT G) 116 [t.av] h (fun r h'=>r=.bool (blankT t)∧h'=h):=by
 have fin:∀(j:Heap) (b:Bool),b=blankT t→Fin h (h++j) (fun r h'=>r=.bool (blankT t)∧h'=h) (.bool b):=fun j b e=>by rw[e];exact H3 (.bool _) ⟨rfl,rfl⟩
 refine sb [.tmp 2] Tryz.func116 ?_;intro Q hQ;refine wk trivial ?_;refine lm (fun nL tL hL=>∃(i:Nat),t.2.2.2.length-i=nL∧h++[.row 182 4 0 [t.av]]=hL∧tL 1=.hp h.length 0 0 0∧tL 3=.int .i64 i∧i≤t.2.2.2.length∧(t.2.2.2.take i).all blankB=true) ((fun(i:Nat)=>(t.2.2.2.length-i:Nat)) (0)) ?_ ?_
 ·refine G9 ⟨0,rfl,ar,?_,?_,by omega,by simp⟩;all_goals try exact zZz trivial
 rintro _ s2 h' ⟨i,rfl,rfl,e1,e3,hi,hq⟩ K2 hK2;simp only[ai,ak,Nat.reduceEqDiff, ↓reduceIte]at e1 e3;have F:=F2 e1 e3;refine wk F ?_;refine cq F (fun c1=>?_) (fun c1=>?_)<;>(try exact c1.elim)<;>(refine wk F ?_)
 ·obtain⟨c,hc,hcm⟩:=ae c1;have hb:=wo c;have no:blankB c=false→blankT t=false:=fun e=>by
   have:t.2.2.2.all blankB=false:=List.all_eq_false.2 ⟨c,hcm,by simp[e]⟩;unfold blankT;rw[this,Bool.false_and]
  have nx:blankB c=true→(t.2.2.2.take (i+1)).all blankB=true:=fun e=>by
   rw[M2,hc];simp[hq,e]
  have F:=F2 F hc;by_cases e9:c=9
  ·subst e9;have n9:((UInt8.toNat 9:Int) !=9)=false:=rfl;have F:=F2 F n9;(try refine sq F ?_);refine wk F ?_;refine hK2 _ _ _ (G9 ⟨i+1,rfl,ar,?_,?_,by omega,nx rfl⟩) (by omega);all_goals try exact zZz F
  ·have n9:((c.toNat:Int) !=9)=true:=jR c 9 (by omega) e9;have F:=F2 F n9;by_cases e10:c=10
   ·subst e10;have n10:((UInt8.toNat 10:Int) !=10)=false:=rfl;have n9:((UInt8.toNat 10:Int) !=9)=true:=rfl;have F:=F5 e1 e3 hc n9 n10;(try refine sq F ?_);refine wk F ?_;refine hK2 _ _ _ (G9 ⟨i+1,rfl,ar,?_,?_,by omega,nx rfl⟩) (by omega);all_goals try exact zZz F
   ·have n10:((c.toNat:Int) !=10)=true:=jR c 10 (by omega) e10;have F:=F2 F n10;by_cases e13:c=13
    ·subst e13;have n13:((UInt8.toNat 13:Int) !=13)=false:=rfl;have n9:((UInt8.toNat 13:Int) !=9)=true:=rfl;have n10:((UInt8.toNat 13:Int) !=10)=true:=rfl;have F:=F6 e1 e3 hc n9 n10 n13;(try refine sq F ?_);refine wk F ?_;refine hK2 _ _ _ (G9 ⟨i+1,rfl,ar,?_,?_,by omega,nx rfl⟩) (by omega);all_goals try exact zZz F
    ·have n13:((c.toNat:Int) !=13)=true:=jR c 13 (by omega) e13;have F:=F2 F n13;by_cases e32:c=32
     ·subst e32;have n32:((UInt8.toNat 32:Int) !=32)=false:=rfl;have n9:((UInt8.toNat 32:Int) !=9)=true:=rfl;have n10:((UInt8.toNat 32:Int) !=10)=true:=rfl;have n13:((UInt8.toNat 32:Int) !=13)=true:=rfl;have F:=F7 e1 e3 hc n9 n10 n13 n32;(try refine sq F ?_);refine wk F ?_;refine hK2 _ _ _ (G9 ⟨i+1,rfl,ar,?_,?_,by omega,nx rfl⟩) (by omega);all_goals try exact zZz F
     ·have n32:((c.toNat:Int) !=32)=true:=jR c 32 (by omega) e32;have F:=F2 F n32;(try refine sq F ?_);refine wk F ?_;refine ee hQ F ?_;exact fin _ _ (no (by rw[hb];simp[e9,e10,e13,e32])).symm
 ·have e1:t.2.2.2.take i=t.2.2.2:=H9 (by omega);rw[e1]at hq;refine wk (F2 e1 e3) ?_;refine ee hQ (F2 e1 e3) ?_;exact fin _ _ (by unfold blankT;rw[hq,Q0])
end
section
def elL:Nat→Nat→Bs→List At→Bs→List Elem→List Tok→Option (Elem×List Tok)
 |0,_,_,_,_,_,_=>none
 |_+1,_,_,_,_,_,[]=>none
 |f+1,d,n,a,x,k,t::ts=>
  if t.1=3 then elL f d n a (x++t.2.2.2) k ts
  else if t.1=1 then(if d=0 then none else(elL f (d-1) t.2.1 t.2.2.1 [] [] ts).bind fun q=>elL f d n a x (k++[q.1]) q.2)
  else if t.1=2 then(if t.2.1=n then some (⟨n,a,x,k⟩,ts)else none)
  else none
def elF(d:Nat):List Tok→Option (Elem×List Tok)
 | []=>none
 |t::ts=>if t.1=1 then(if d=0 then none else elL (ts.length+1) (d-1) t.2.1 t.2.2.1 [] [] ts)else none
theorem fP(f d:Nat)(n:Bs)(a:List At)(x:Bs)(k:List Elem)(t:Tok)(ts:List Tok):elL (f+1) d n a x k (t::ts)=
  if t.1=3 then elL f d n a (x++t.2.2.2) k ts
  else if t.1=1 then(if d=0 then none else(elL f (d-1) t.2.1 t.2.2.1 [] [] ts).bind fun q=>elL f d n a x (k++[q.1]) q.2)
  else if t.1=2 then(if t.2.1=n then some (⟨n,a,x,k⟩,ts)else none)else none:=rfl
theorem fQ(f d:Nat)(n:Bs)(a:List At)(x:Bs)(k:List Elem):elL f d n a x k []=none:=by cases f<;>rfl
theorem dE(d:Nat)(t:Tok)(ts:List Tok):elF d (t::ts)=if t.1=1 then(if d=0 then none else elL (ts.length+1) (d-1) t.2.1 t.2.2.1 [] [] ts)else none:=rfl
theorem kF:∀(f d:Nat) (n:Bs) (a:List At) (x:Bs) (k:List Elem) (ts:List Tok) (q:Elem×List Tok),elL f d n a x k ts=some q→q.2 <:+ts∧q.2.length<ts.length:=by
 intro f;induction f with
 |zero=>intro d n a x k ts q h;cases h
 |succ f ih=>
  intro d n a x k ts q h;cases ts with
  |nil=>rw[fQ]at h;cases h
  |cons t ts=>
   rw[fP]at h;have key:q.2 <:+ts:=by
    split at h
    ·exact(ih _ _ _ _ _ _ _ h).1
    ·split at h
     ·split at h
      ·cases h
      ·obtain⟨p,hp,h⟩:=S8.1 h;exact(ih _ _ _ _ _ _ _ h).1.trans (ih _ _ _ _ _ _ _ hp).1
     ·split at h
      ·split at h
       ·cases h;exact List.suffix_refl _
       ·cases h
      ·cases h
   exact⟨key.trans (List.suffix_cons t ts),by have:=key.length_le;simp;omega⟩
theorem kG{d:Nat}{ts:List Tok}{q:Elem×List Tok}(h:elF d ts=some q):q.2.length<ts.length∧q.2=ts.drop (ts.length-q.2.length):=by
 cases ts with
 |nil=>cases h
 |cons t ts=>
  rw[dE]at h;split at h
  ·split at h
   ·cases h
   ·have h1:=(kF _ _ _ _ _ _ _ _ h)
    exact⟨by simp;omega,List.suffix_iff_eq_drop.1 (h1.1.trans (List.suffix_cons t ts))⟩
  ·cases h
theorem np:∀(f g d:Nat) (n:Bs) (a:List At) (x:Bs) (k:List Elem) (ts:List Tok),ts.length<f→ts.length<g→elL f d n a x k ts=elL g d n a x k ts:=by
 intro f;induction f with
 |zero=>intro g d n a x k ts h;omega
 |succ f ih=>
  intro g d n a x k ts h1 h2;obtain⟨g,rfl⟩:∃g',g=g'+1:=⟨g-1,by omega⟩;cases ts with
  |nil=>rw[fQ,fQ]
  |cons t ts=>
   simp only[G5]at h1 h2;rw[fP,fP,ih g d n a (x++t.2.2.2) k ts (by omega) (by omega),ih g (d-1) t.2.1 t.2.2.1 [] [] ts (by omega) (by omega)];cases hq:elL g (d-1) t.2.1 t.2.2.1 [] [] ts with
   |none=>rfl
   |some q=>
    have:=(kF _ _ _ _ _ _ _ _ hq).2;simp only[L7];rw[ih g d n a x (k++[q.1]) q.2 (by omega) (by omega)]
theorem v7(f d:Nat)(n:Bs)(a:List At)(x:Bs)(k:List Elem)(t:Tok)(ts:List Tok)(hf:ts.length<f):elL (f+1) d n a x k (t::ts)=
  if t.1=3 then elL f d n a (x++t.2.2.2) k ts
  else if t.1=1 then(elF d (t::ts)).bind fun q=>elL f d n a x (k++[q.1]) q.2
  else if t.1=2 then(if t.2.1=n then some (⟨n,a,x,k⟩,ts)else none)else none:=by
 rw[fP,dE];by_cases h1:t.1=1
 ·have h3:¬t.1=3:=by omega
  rw[G0 h3,G0 h3,G3 h1,G3 h1,G3 h1];by_cases hd:d=0
  ·rw[G3 hd,G3 hd];rfl
  ·rw[G0 hd,G0 hd,np (ts.length+1) f (d-1) t.2.1 t.2.2.1 [] [] ts (by omega) hf]
 ·rw[G0 h1,G0 h1]
end
section
attribute [local irreducible] WP WPl WPix Sat
variable {G:Nat→Option (List AVal)}
def ElR(h:Heap)(d:Nat)(ts:List Tok)(r:AVal)(h':Heap):Prop:=
 ∃(e:Elem) (n:Int),r=.tup [e.av,.int .i64 n,.bool (elF d ts).isSome]∧(∀q,elF d ts=some q→e=q.1∧n=(ts.length-q.2.length:Nat))∧(0≤n∧n≤ts.length)∧h'=h
theorem ElR.bad{h:Heap}{d:Nat}{ts:List Tok}(j:Heap)(e:elF d ts=none):Fin h (h++j) (ElR h d ts) (.tup [.agg [.str [],.nil (.slice none 0 0),.str [],.nil (.slice none 0 0)],.int .i64 0,.bool false]):=by
 have z:Frz (h++j) h.length (.agg [.str [],.nil (.slice none 0 0),.str [],.nil (.slice none 0 0)]) (Elem.av ⟨[],[],[],[]⟩):=by
  rw[Elem.av_eq];exact FrzL.agg (.cons (.clo _ (.str _)) (.cons (.nils 2) (.cons (.clo _ (.str _)) (.cons (.nils 4) .nil)))) rfl
 exact P3 (U0 (.cons z (.cons (.clo _ (.int _ _)) (.cons (.clo _ (.bool _)) .nil)))) ⟨_,0,by rw[e];rfl,(fun q hq=>by rw[e]at hq;cases hq),⟨by omega,by omega⟩,rfl⟩
theorem lV{C:Ctx}{ops:Array Oper}{e:TypeId}{ty:TypeId}{pos:String}{aft:Array Edge}{dst:Option Tmp}{t:Env}{h:Heap}{K:AVal→Heap→Prop}:
  wpOperV C ops ⟨dst,.alloc e,ty,pos,aft,none⟩ t h K=need (zroT C.P e) fun z=>0<z.cells.length∧z.cells.all AVal.sto=true∧z.lies=true∧K (.hp h.length 0 0 0) (h++[.row e z.cells.length 0 [z]]):=rfl
theorem gG{P:Program}{h:Heap}{T e n i:Nat}{es:List AVal}{k:IntKind}(he:elmT P T=some e)(hn:szOf P e=some n)(hi:i≤es.length):aslice P h T (.sl n es) (some (.int k (i:Int))) none none=some (.sl n (es.drop i)):=by
 simp only[aslice,he,hn,optInt,Option.isNone_none,if_true];rw[G3 ⟨by omega,by omega,by omega⟩];simp
theorem gH{α:Type}(f:α→Nat)(hf:∀a,1≤f a):∀(l:List α) (m:Nat),m≤l.length→szs f (l.drop m)+m≤szs f l
 |_,0,_=>by simp
 | [],m+1,h=>by simp at h
 |a::l,m+1,h=>by
  have:=gH f hf l m (by simpa using h);have:=hf a;simp only[O6,szs];omega
theorem lG:∀(d:Nat) (ts:List Tok) (dep:Int),szs Tok.sz ts≤1048576→0≤dep→dep+d=33→∀h:Heap,Sat (CT G) 117 [.sl 4 (ts.map Tok.av),.int .i64 dep] h (ElR h d ts):=by
 intro d;induction d with
 |zero=>
  intro ts dep hsz h0 hd h;have he:elF 0 ts=none:=by cases ts with|nil=>rfl|cons t ts=>rw[dE];simp
  have hlen:=bF Tok.sz V0 ts;have b3:decide (dep>32)=true:=by simp;omega
  by_cases hnil:ts=[]
  ·subst hnil;have F:=b3;refine sb [.cell 4 76,.tmp 5,.tmp 6] Tryz.func117 ?_;intro Q hQ;refine wk F ?_;(try refine sq F ?_);refine wk F ?_;refine ye hQ F ?_;exact ElR.bad _ he
  ·have hpos:0<ts.length:=N2.2 hnil;obtain⟨t,hc0,hcm⟩:=ae hpos;have b1:((ts.length:Int)==0)=false:=(by simp;omega);cases b2:(t.1 !=1)with
   |true=>
    have F:=F4 hc0 b1 b2 b3;refine sb [.cell 4 76,.tmp 5,.tmp 6] Tryz.func117 ?_;intro Q hQ;refine wk F ?_;(try refine sq F ?_);refine wk F ?_;refine ye hQ F ?_;exact ElR.bad _ he
   |false=>
    have F:=F4 hc0 b1 b2 b3;refine sb [.cell 4 76,.tmp 5,.tmp 6] Tryz.func117 ?_;intro Q hQ;refine wk F ?_;(try refine sq F ?_);refine wk F ?_;refine ye hQ F ?_;exact ElR.bad _ he
 |succ d ih=>
  intro ts dep hsz h0 hd h;have hlen:=bF Tok.sz V0 ts;by_cases hnil:ts=[]
  ·subst hnil;have he:elF (d+1) []=none:=rfl;refine sb [.cell 4 76,.tmp 5,.tmp 6] Tryz.func117 ?_;intro Q hQ;refine wk trivial ?_;(try refine sq trivial ?_);refine wk trivial ?_;refine ye hQ trivial ?_;exact ElR.bad _ he
  have hpos:0<ts.length:=N2.2 hnil;obtain⟨t,hc0,hcm⟩:=ae hpos;obtain⟨tr,htr⟩:∃tr,ts=t::tr:=by
   cases ts with
   |nil=>cases hc0
   |cons a r=>simp at hc0;subst hc0;exact⟨r,rfl⟩
  have b1:((ts.length:Int)==0)=false:=by simp;omega
  by_cases hk:t.1=1
  ·have b2:(t.1 !=1)=false:=(by simpa using hk);have b3:decide (dep>32)=false:=(by simp;omega);have hel:elF (d+1) ts=elL (tr.length+1) d t.2.1 t.2.2.1 [] [] tr:=(by rw[htr,dE,G3 hk,G0 (by omega)];rfl);have F:=F4 hc0 b1 b2 b3
   skip
   refine sb [.cell 4 76,.tmp 5,.tmp 6] Tryz.func117 ?_;intro Q hQ;refine wn F ?_;(try refine sq F ?_);refine wn F ?_;refine aG 9 9 _ (by rfl) (by decide+kernel) (by kernel_rfl) (by decide+kernel) (by decide+kernel) (by decide+kernel) ?_;simp only[H8,J1];refine sq F ?_;refine wn F ?_
   skip
   (try rw[lV];simp(disch:=first|omega| (simp only[go_sem, ↓reduceIte,seval];first|done|omega)|fail) only[go_sem, ↓reduceIte,seval,F])
   (try refine sq F ?_);refine wk F ?_;refine lm (fun nL tL hL=>∃(i v:Nat) (x:Bs) (k:List Elem) (jj:Heap),ts.length-i=nL∧h++ .row 76 4 0 [.agg [.str [],.nil (.slice none 0 0),.str [],.nil (.slice none 0 0)]]:: .row 76 4 0 [.agg [.str t.2.1,.sl 2 (t.2.2.1.map At.av),.str x,.hs (h.length+2) v 0 k.length true]]:: .row 76 4 v (k.map Elem.av)::jj=hL∧tL 4=.hp h.length 0 0 0∧tL 7=.hp (h.length+1) 0 0 0∧tL 8=.int .i64 i∧i≤ts.length∧elL (ts.length-i+1) d t.2.1 t.2.2.1 x k (ts.drop i)=elF (d+1) ts∧x.length+k.length+szs Tok.sz (ts.drop i)≤szs Tok.sz ts) ((fun(i v:Nat) (x:Bs) (k:List Elem) (jj:Heap)=>(ts.length-i:Nat)) (1) (0) ([]) ([]) ([])) ?_ ?_
   ·refine⟨_,_,S7 (p:=h.length+1) (v:=0) 76 4 (by omega) (by simp(disch:=first|omega| (simp only[go_sem, ↓reduceIte,seval];first|done|omega)|fail) only[go_sem, ↓reduceIte,seval,F];rfl) 3 rfl,⟨1,0,[],[],[],rfl,(by simp),?_,?_,?_,by omega,by rw[hel,htr];simp,by rw[htr];simp[szs]⟩⟩;all_goals try exact zZz F
   rintro _ s2 h' ⟨i,v,x,k,jj,rfl,rfl,e4,e7,e8,hi,hp,hz⟩ K2 hK2;simp only[ai,ak,Nat.reduceEqDiff, ↓reduceIte]at e4 e7 e8;have F:=F4 F e4 e7 e8;refine wk F ?_;refine cq F (fun c1=>?_) (fun c1=>?_)<;>(try exact c1.elim)<;>(refine wk F ?_)
   ·obtain⟨y,hy,hym⟩:=ae c1;have hdr:=aF hy;rw[hdr,v7 _ _ _ _ _ _ _ _ (by rw[J7];omega)]at hp;have ef:ts.length-(i+1)+1=ts.length-i:=(by omega);have hzk:=hz;rw[hdr]at hz;simp only[szs]at hz;have hys:Tok.sz y=1+y.2.1.length+szs At.sz y.2.2.1+y.2.2.2.length:=rfl;have F:=F2 F hy;by_cases k3:y.1=3
    ·have q3:(y.1==3)=true:=(by simpa using k3);rw[G3 k3]at hp;have F:=F2 F q3;(try refine sq F ?_);refine wk F ?_;refine hK2 _ _ _ (G9 ⟨i+1,v,x++y.2.2.2,k,jj,rfl,by simp,?_,?_,?_,by omega,by rw[ef];exact hp,by simp;omega⟩) (by omega);all_goals try exact zZz F
    ·have q3:(y.1==3)=false:=(by simpa using k3);rw[G0 k3]at hp;by_cases k1:y.1=1
     ·have q1:(y.1==1)=true:=(by simpa using k1);rw[G3 k1]at hp;have hsl:∀j,aslice Tryz.prog j 137 (.sl 4 (ts.map Tok.av)) (some (.int .i64 (i:Int))) none none=some (.sl 4 ((ts.drop i).map Tok.av)):=fun j=>by
       rw[List.map_drop];exact gG (by simp only[go_sem];rfl) (by simp only[go_sem]) (by simp;omega)
      rw[← hdr]at hp;have F:=F4 F q3 q1 hsl;(try refine sq F ?_);refine wk F ?_;refine(ih (ts.drop i) (dep+1) (by omega) (by omega) (by omega) _).mono ?_;rintro r h' ⟨e,n,rfl,hg,_,rfl⟩;simp(disch:=first|omega| (simp only[go_sem, ↓reduceIte,seval];first|done|omega)|fail) only[go_sem, ↓reduceIte,seval,F];refine wk F ?_;cases hq:elF d (ts.drop i)with
      |none=>
       rw[hq]at hp;have hno:(none:Option (Elem×List Tok)).isSome=false:=rfl;have F:=F2 F hno;(try refine sq F ?_);refine wk F ?_;refine ye hQ F ?_;exact ElR.bad _ hp.symm
      |some q=>
       obtain⟨rfl,rfl⟩:=hg q hq;rw[hq]at hp;have hsf:=kG hq;have hm:∃m,m=(ts.drop i).length-q.2.length:=⟨_,rfl⟩
       obtain⟨m,hm⟩:=hm;rw[← hm]at hsf ⊢;have hdl:(ts.drop i).length=ts.length-i:=J7;have hm1:1≤m:=(by omega);have hsd:=gH Tok.sz V0 (ts.drop i) m (by omega);have hq2:q.2=ts.drop (i+m):=(by rw[hsf.2,O3]);rw[O3]at hsd;simp only[L7]at hp;rw[hq2,np _ (ts.length-(i+m)+1) _ _ _ _ _ _ (by rw[J7];omega) (by rw[J7];omega)]at hp;(try refine sq F ?_);refine wk F ?_;refine aq F ?_;(try refine sq F ?_);refine wk F ?_;have him:(i:Int)+(m:Int)=((i+m:Nat):Int):=(by omega);rw[him];refine hK2 _ _ _ (G9 ⟨i+m,v+1,x,k++[q.1],jj++[.row 76 4 0 [q.1.av]],rfl,by simp,?_,?_,?_,by omega,hp,by simp;omega⟩) (by omega);all_goals try exact zZz F
     ·have q1:(y.1==1)=false:=(by simpa using k1);rw[G0 k1]at hp;by_cases k2:y.1=2
      ·have q2:(y.1==2)=true:=(by simpa using k2);rw[G3 k2]at hp;have F:=F4 F q3 q1 q2;(try refine sq F ?_);refine wk F ?_;refine uJ 11 _ (by rfl) rfl (by decide+kernel) (zU G) ?_;simp only[List.set_cons_succ,Q5,nopO];refine sq F ?_;refine wk F ?_
       (try rw[ed];simp(disch:=first|omega| (simp only[go_sem, ↓reduceIte,seval];first|done|omega)|fail) only[go_sem, ↓reduceIte,seval,F])
       refine wk F ?_;refine ye hQ F ?_;have z:∀hh:Heap,getRow hh (h.length+2) v=some (76,4,k.map Elem.av)→Frz hh h.length (.agg [.str t.2.1,.sl 2 (t.2.2.1.map At.av),.str x,.hs (h.length+2) v 0 k.length true]) (Elem.av ⟨t.2.1,t.2.2.1,x,k⟩):=fun hh hg=>by
        rw[Elem.av_eq];exact FrzL.agg (.cons (.clo _ (.str _)) (.cons (.clo _ (Ats.clo _ 2 _)) (.cons (.clo _ (.str _)) (.cons (Frz.data (by omega) hg (by simp[Elem.kids]) (fun r hr=>by obtain⟨a,_,rfl⟩:=J9.1 hr;exact Elem.clo _ a) (fun r hr=>by obtain⟨a,_,rfl⟩:=J9.1 hr;exact a.av_sto)) .nil)))) rfl
       refine P3 (U0 (.cons (z _ ?_) (.cons (.clo _ (.int _ _)) (.cons (.clo _ (.bool _)) .nil)))) ⟨⟨t.2.1,t.2.2.1,x,k⟩,(i+1:Nat),?_,?_,⟨by omega,by omega⟩,rfl⟩
       ·exact zq F
       ·rw[← hp];by_cases hnm:y.2.1=t.2.1
        ·rw[G3 hnm];simp[hnm]
        ·rw[G0 hnm];simp[hnm]
       ·intro q hq;rw[← hp]at hq;by_cases hnm:y.2.1=t.2.1
        ·rw[G3 hnm]at hq;cases hq;exact⟨rfl,by rw[J7];omega⟩
        ·rw[G0 hnm]at hq;cases hq
      ·have q2:(y.1==2)=false:=(by simpa using k2);rw[G0 k2]at hp;have F:=F4 F q3 q1 q2;(try refine sq F ?_);refine wk F ?_;refine ye hQ F ?_;exact ElR.bad _ hp.symm
   ·have:ts.drop i=[]:=aY c1;rw[this,fQ]at hp;refine wk F ?_;refine ye hQ F ?_;exact ElR.bad _ hp.symm
  ·have b2:(t.1 !=1)=true:=(by simpa using hk);have he:elF (d+1) ts=none:=(by rw[htr,dE,G0 hk]);have F:=F3 hc0 b1 b2;refine sb [.cell 4 76,.tmp 5,.tmp 6] Tryz.func117 ?_;intro Q hQ;refine wk F ?_;(try refine sq F ?_);refine wk F ?_;refine ye hQ F ?_;exact ElR.bad _ he
end
section
attribute [local irreducible] WP WPl WPix Sat
variable {G:Nat→Option (List AVal)}
def bldF(ts:List Tok):Option Elem:=(elF 32 (ts.dropWhile blankT)).bind fun q=>if q.2.dropWhile blankT=[]then some q.1 else none
def BldR(h:Heap)(ts:List Tok)(r:AVal)(h':Heap):Prop:=
 ∃e:Elem,r=.tup [e.av,.bool (bldF ts).isSome]∧(∀x,bldF ts=some x→e=x)∧h'=h
theorem BldR.bad{h:Heap}{ts:List Tok}(j:Heap)(e:bldF ts=none):Fin h (h++j) (BldR h ts) (.tup [.agg [.str [],.nil (.slice none 0 0),.str [],.nil (.slice none 0 0)],.bool false]):=by
 have z:Frz (h++j) h.length (.agg [.str [],.nil (.slice none 0 0),.str [],.nil (.slice none 0 0)]) (Elem.av ⟨[],[],[],[]⟩):=by
  rw[Elem.av_eq];exact FrzL.agg (.cons (.clo _ (.str _)) (.cons (.nils 2) (.cons (.clo _ (.str _)) (.cons (.nils 4) .nil)))) rfl
 exact P3 (U0 (.cons z (.cons (.clo _ (.bool _)) .nil))) ⟨_,by rw[e];rfl,(fun q hq=>by rw[e]at hq;cases hq),rfl⟩
theorem qJ(ts:List Tok)(hsz:szs Tok.sz ts≤1048576)(h:Heap):Sat (CT G) 72 [.sl 4 (ts.map Tok.av)] h (BldR h ts):=by
 have hlen:=bF Tok.sz V0 ts;refine sb [.cell 2 76,.tmp 3] Tryz.func72 ?_;intro Q hQ;refine wk trivial ?_;refine lm (fun nL tL hL=>∃(i:Nat),ts.length-i=nL∧h++[.row 76 4 0 [.agg [.str [],.nil (.slice none 0 0),.str [],.nil (.slice none 0 0)]]]=hL∧tL 2=.hp h.length 0 0 0∧tL 4=.int .i64 i∧i≤ts.length∧(ts.drop i).dropWhile blankT=ts.dropWhile blankT) ((fun(i:Nat)=>(ts.length-i:Nat)) (0)) ?_ ?_
 ·refine G9 ⟨0,rfl,ar,?_,?_,by omega,by simp⟩;all_goals try exact zZz trivial
 rintro _ s2 h' ⟨i,rfl,rfl,e2,e4,hi,hq⟩ K2 hK2;simp only[ai,ak,Nat.reduceEqDiff, ↓reduceIte]at e2 e4;have F:=F2 e2 e4;refine wk F ?_;by_cases c1:i<ts.length
 ·obtain⟨y,hy,hym⟩:=ae c1;have b1:decide (i<ts.length)=true:=by simpa using c1
  have hdr:=aF hy;have hyl:=dD hym;have F:=F3 F hy b1;try refine sq F ?_
  refine wk F ?_;cases hb:blankT y with
  |true=>
   rw[hdr,M7,G3 hb]at hq;refine(cr y (by omega) _).mono ?_;rintro r h' ⟨rfl,rfl⟩;rw[hb];(try refine sq F ?_);refine wk F ?_;refine hK2 _ _ _ (G9 ⟨i+1,rfl,ar,?_,?_,by omega,hq⟩) (by omega);all_goals try exact zZz F
  |false=>
   have hq':ts.dropWhile blankT=ts.drop i:=(by rw[← hq,hdr,M7,G0 (by simp[hb])]);refine(cr y (by omega) _).mono ?_;rintro r h' ⟨rfl,rfl⟩;rw[hb];(try refine sq F ?_);refine wk F ?_;have hsl:∀j,aslice Tryz.prog j 137 (.sl 4 (ts.map Tok.av)) (some (.int .i64 (i:Int))) none none=some (.sl 4 ((ts.drop i).map Tok.av)):=fun j=>by
    rw[List.map_drop];exact gG (by simp only[go_sem];rfl) (by simp only[go_sem]) (by simp;omega)
   have hsd:=gH Tok.sz V0 ts i hi;have F:=F2 F hsl;(try refine sq F ?_);refine wk F ?_;refine(lG 32 (ts.drop i) 1 (by omega) (by omega) (by omega) _).mono ?_;rintro r h' ⟨e,n,rfl,hg,hn,rfl⟩;(try refine sq F ?_);refine wk F ?_;have hlen2:(ts.drop i).length=ts.length-i:=J7;obtain⟨n,rfl⟩:∃m:Nat,n=m:=⟨n.toNat,by omega⟩;have hin:i+n≤ts.length:=(by omega);have him:(i:Int)+(n:Int)=((i+n:Nat):Int):=(by omega);rw[him];refine lm (fun nL tL hL=>∃(j:Nat),ts.length-j=nL∧h++[.row 76 4 0 [.agg [.str [],.nil (.slice none 0 0),.str [],.nil (.slice none 0 0)]],.row 76 4 0 [e.av]]=hL∧tL 4=.int .i64 j∧j≤ts.length∧(ts.drop j).dropWhile blankT=(ts.drop (i+n)).dropWhile blankT) ((fun(j:Nat)=>(ts.length-j:Nat)) ((i+n))) ?_ ?_
   ·refine G9 ⟨(i+n),rfl,ar,?_,by omega,rfl⟩;all_goals try exact zZz F
   rintro _ s3 h' ⟨j,rfl,rfl,e4,hj,hq2⟩ K3 hK3;simp only[ai,ak,Nat.reduceEqDiff, ↓reduceIte]at e4;have F:=F2 F e4;refine wk F ?_;have hbl:∀q,elF 32 (ts.drop i)=some q→q.2=ts.drop (i+n)∧e=q.1:=fun q hqq=>by
    obtain⟨g1,g2⟩:=hg q hqq;have g3:=kG hqq;refine⟨?_,g1⟩;have e9:i+((ts.drop i).length-q.2.length)=i+n:=(by omega);rw[g3.2,O3,e9]
   by_cases d1:j<ts.length
   ·obtain⟨y2,hy2,hym2⟩:=ae d1;have b2:decide (j<ts.length)=true:=(by simpa using d1);have hdr2:=aF hy2;have hyl2:=dD hym2;have F:=F3 F hy2 b2;(try refine sq F ?_);refine wk F ?_;cases hb2:blankT y2 with
    |true=>
     rw[hdr2,M7,G3 hb2]at hq2;refine(cr y2 (by omega) _).mono ?_;rintro r h' ⟨rfl,rfl⟩;rw[hb2];(try refine sq F ?_);refine wk F ?_;refine hK3 _ _ _ (G9 ⟨j+1,rfl,ar,?_,by omega,hq2⟩) (by omega);all_goals try exact zZz F
    |false=>
     have hno:bldF ts=none:=by
      unfold bldF;rw[hq'];cases hqe:elF 32 (ts.drop i)with
      |none=>rfl
      |some q=>
       rw[L7,(hbl q hqe).1, ← hq2,hdr2,M7,G0 (by simp[hb2])]
     refine(cr y2 (by omega) _).mono ?_;rintro r h' ⟨rfl,rfl⟩;rw[hb2];(try refine sq F ?_);refine wk F ?_;have no1:(none:Option (Elem×List Tok)).isSome=false:=rfl;cases hqe:elF 32 (ts.drop i)with
     |none=>
      have F:=F2 F no1;(try refine sq F ?_);refine wk F ?_;refine ye hQ F ?_;exact BldR.bad _ hno
     |some q=>
      (try refine sq F ?_);refine wk F ?_;refine ye hQ F ?_;exact BldR.bad _ hno
   ·have b2:decide (j<ts.length)=false:=(by simpa using d1);have F:=F2 F b2;(try refine sq F ?_);refine wk F ?_;have no1:(none:Option (Elem×List Tok)).isSome=false:=rfl;cases hqe:elF 32 (ts.drop i)with
    |none=>
     have hno:bldF ts=none:=(by unfold bldF;rw[hq',hqe];rfl);have F:=F2 F no1;(try refine sq F ?_);refine wk F ?_;refine ye hQ F ?_;exact BldR.bad _ hno
    |some q=>
     have hyes:bldF ts=some q.1:=by
      unfold bldF;rw[hq',hqe,L7,(hbl q hqe).1, ← hq2,P7 (by omega)];rfl
     obtain rfl:=(hbl q hqe).2;(try refine sq F ?_);refine wk F ?_;refine ye hQ F ?_;exact H3 (.tup _ (by intro c hc;simp at hc;rcases hc with rfl|rfl;exact Elem.clo _ _;exact .bool _)) ⟨q.1,by rw[hyes];rfl,(fun x hx=>by rw[hyes]at hx;cases hx;rfl),rfl⟩
 ·have b1:decide (i<ts.length)=false:=by simpa using c1
  have F:=F2 F b1;try refine sq F ?_
  refine wk F ?_;have hq':ts.dropWhile blankT=ts.drop i:=by rw[← hq,P7 (by omega)];rfl
  have hsl:∀j,aslice Tryz.prog j 137 (.sl 4 (ts.map Tok.av)) (some (.int .i64 (i:Int))) none none=some (.sl 4 ((ts.drop i).map Tok.av)):=fun j=>by
   rw[List.map_drop];exact gG (by simp only[go_sem];rfl) (by simp only[go_sem]) (by simp;omega)
  have hsd:=gH Tok.sz V0 ts i hi;have F:=F2 F hsl;try refine sq F ?_
  refine wk F ?_;refine(lG 32 (ts.drop i) 1 (by omega) (by omega) (by omega) _).mono ?_;rintro r h' ⟨e,n,rfl,hg,hn,rfl⟩;try refine sq F ?_
  refine wk F ?_;have hlen2:(ts.drop i).length=ts.length-i:=J7;obtain⟨n,rfl⟩:∃m:Nat,n=m:=⟨n.toNat,by omega⟩;have hin:i+n≤ts.length:=by omega
  have him:(i:Int)+(n:Int)=((i+n:Nat):Int):=by omega
  rw[him];refine lm (fun nL tL hL=>∃(j:Nat),ts.length-j=nL∧h++[.row 76 4 0 [.agg [.str [],.nil (.slice none 0 0),.str [],.nil (.slice none 0 0)]],.row 76 4 0 [e.av]]=hL∧tL 4=.int .i64 j∧j≤ts.length∧(ts.drop j).dropWhile blankT=(ts.drop (i+n)).dropWhile blankT) ((fun(j:Nat)=>(ts.length-j:Nat)) ((i+n))) ?_ ?_
  ·refine G9 ⟨(i+n),rfl,ar,?_,by omega,rfl⟩;all_goals try exact zZz F
  rintro _ s3 h' ⟨j,rfl,rfl,e4,hj,hq2⟩ K3 hK3;simp only[ai,ak,Nat.reduceEqDiff, ↓reduceIte]at e4;have F:=F2 F e4;refine wk F ?_;have hbl:∀q,elF 32 (ts.drop i)=some q→q.2=ts.drop (i+n)∧e=q.1:=fun q hqq=>by
   obtain⟨g1,g2⟩:=hg q hqq;have g3:=kG hqq;refine⟨?_,g1⟩;have e9:i+((ts.drop i).length-q.2.length)=i+n:=(by omega);rw[g3.2,O3,e9]
  by_cases d1:j<ts.length
  ·obtain⟨y2,hy2,hym2⟩:=ae d1;have b2:decide (j<ts.length)=true:=(by simpa using d1);have hdr2:=aF hy2;have hyl2:=dD hym2;have F:=F3 F hy2 b2;(try refine sq F ?_);refine wk F ?_;cases hb2:blankT y2 with
   |true=>
    rw[hdr2,M7,G3 hb2]at hq2;refine(cr y2 (by omega) _).mono ?_;rintro r h' ⟨rfl,rfl⟩;rw[hb2];(try refine sq F ?_);refine wk F ?_;refine hK3 _ _ _ (G9 ⟨j+1,rfl,ar,?_,by omega,hq2⟩) (by omega);all_goals try exact zZz F
   |false=>
    have hno:bldF ts=none:=by
     unfold bldF;rw[hq'];cases hqe:elF 32 (ts.drop i)with
     |none=>rfl
     |some q=>
      rw[L7,(hbl q hqe).1, ← hq2,hdr2,M7,G0 (by simp[hb2])]
    refine(cr y2 (by omega) _).mono ?_;rintro r h' ⟨rfl,rfl⟩;rw[hb2];(try refine sq F ?_);refine wk F ?_;have no1:(none:Option (Elem×List Tok)).isSome=false:=rfl;cases hqe:elF 32 (ts.drop i)with
    |none=>
     have F:=F2 F no1;(try refine sq F ?_);refine wk F ?_;refine ye hQ F ?_;exact BldR.bad _ hno
    |some q=>
     (try refine sq F ?_);refine wk F ?_;refine ye hQ F ?_;exact BldR.bad _ hno
  ·have b2:decide (j<ts.length)=false:=(by simpa using d1);have F:=F2 F b2;(try refine sq F ?_);refine wk F ?_;have no1:(none:Option (Elem×List Tok)).isSome=false:=rfl;cases hqe:elF 32 (ts.drop i)with
   |none=>
    have hno:bldF ts=none:=(by unfold bldF;rw[hq',hqe];rfl);have F:=F2 F no1;(try refine sq F ?_);refine wk F ?_;refine ye hQ F ?_;exact BldR.bad _ hno
   |some q=>
    have hyes:bldF ts=some q.1:=by
     unfold bldF;rw[hq',hqe,L7,(hbl q hqe).1, ← hq2,P7 (by omega)];rfl
    obtain rfl:=(hbl q hqe).2;(try refine sq F ?_);refine wk F ?_;refine ye hQ F ?_;exact H3 (.tup _ (by intro c hc;simp at hc;rcases hc with rfl|rfl;exact Elem.clo _ _;exact .bool _)) ⟨q.1,by rw[hyes];rfl,(fun x hx=>by rw[hyes]at hx;cases hx;rfl),rfl⟩
end
section
def foldB:List Elem→List Elem→List Tok→Option (List Elem×List Elem)
 |os,ds,[]=>some (os,ds)
 |os,ds,t::ts=>(stepB os ds t).bind fun q=>foldB q.1 q.2 ts
def finB:Option (List Elem×List Elem)→Option Elem
 |some ([],[e])=>some e
 |_=>none
def clsB(st:List Elem)(e:Elem):List Elem×List Elem:=
 match st.getLast? with
 |none=>([],[e])
 |some p=>(st.dropLast++[⟨p.name,p.attrs,p.text,p.kids++[e]⟩],[])
theorem sV(os ds:List Elem):foldB os ds []=some (os,ds):=rfl
theorem cL(os ds:List Elem)(t:Tok)(ts:List Tok):foldB os ds (t::ts)=(stepB os ds t).bind fun q=>foldB q.1 q.2 ts:=rfl
theorem ii:∀(a b:List Tok) (os ds:List Elem),foldB os ds (a++b)=(foldB os ds a).bind fun q=>foldB q.1 q.2 b
 | [],b,os,ds=>rfl
 |t::a,b,os,ds=>by
  rw[N5,cL,cL];cases stepB os ds t with
  |none=>rfl
  |some q=>simp only[L7];exact ii a b q.1 q.2
theorem sW(st:List Elem)(p e:Elem):clsB (st++[p]) e=(st++[⟨p.name,p.attrs,p.text,p.kids++[e]⟩],[]):=by
 unfold clsB;simp
theorem v8:∀(f d:Nat) (st:List Elem) (n:Bs) (a:List At) (x:Bs) (k:List Elem) (ts:List Tok),ts.length<f→st.length+d=31→
  finB (foldB (st++[⟨n,a,x,k⟩]) [] ts)=(elL f d n a x k ts).bind fun q=>finB (foldB (clsB st q.1).1 (clsB st q.1).2 q.2):=by
 intro f;induction f with
 |zero=>intro d st n a x k ts h;omega
 |succ f ih=>
  intro d st n a x k ts hf hd;cases ts with
  |nil=>
   rw[fQ,sV];cases st<;>rfl
  |cons t ts=>
   simp only[G5]at hf;rw[fP,cL];have hlast:(st++[(⟨n,a,x,k⟩:Elem)]).getLast? =some ⟨n,a,x,k⟩:=(by simp);have hdrop:(st++[(⟨n,a,x,k⟩:Elem)]).dropLast=st:=(by simp);by_cases h3:t.1=3
   ·have e:stepB (st++[⟨n,a,x,k⟩]) [] t=some (st++[⟨n,a,x++t.2.2.2,k⟩],[]):=by
     unfold stepB;rw[G0 (by omega),G0 (by omega),G3 h3,hlast,hdrop];rfl
    rw[e,G3 h3,L7];exact ih d st n a (x++t.2.2.2) k ts (by omega) hd
   ·rw[G0 h3];by_cases h1:t.1=1
    ·rw[G3 h1];by_cases h0:d=0
     ·have e:stepB (st++[⟨n,a,x,k⟩]) [] t=none:=by
       unfold stepB;rw[G3 h1,G0];simp;omega
      rw[e,G3 h0];rfl
     ·have e:stepB (st++[⟨n,a,x,k⟩]) [] t=some ((st++[⟨n,a,x,k⟩])++[⟨t.2.1,t.2.2.1,[],[]⟩],[]):=by
       unfold stepB;rw[G3 h1,G3];simp;omega
      rw[e,G0 h0,L7];simp only[];rw[ih (d-1) (st++[Elem.mk n a x k]) t.2.1 t.2.2.1 [] [] ts (by omega) (by simp;omega)];cases hq:elL f (d-1) t.2.1 t.2.2.1 [] [] ts with
      |none=>rfl
      |some q=>
       have:=(kF _ _ _ _ _ _ _ _ hq).2;simp only[L7,sW];exact ih d st n a x (k++[q.1]) q.2 (by omega) hd
    ·rw[G0 h1];by_cases h2:t.1=2
     ·rw[G3 h2];by_cases hn:t.2.1=n
      ·have e:stepB (st++[⟨n,a,x,k⟩]) [] t=some (clsB st ⟨n,a,x,k⟩):=by
        unfold stepB;rw[G0 h1,G3 h2,hlast,hdrop];show(if n=t.2.1 then _ else _)=_;rw[G3 hn.symm];unfold clsB;cases st.getLast?<;>rfl
       rw[e,G3 hn];rfl
      ·have e:stepB (st++[⟨n,a,x,k⟩]) [] t=none:=by
        unfold stepB;rw[G0 h1,G3 h2,hlast];show(if n=t.2.1 then _ else _)=_;rw[G0 (Ne.symm hn)]
       rw[e,G0 hn];rfl
     ·have e:stepB (st++[⟨n,a,x,k⟩]) [] t=none:=by
       unfold stepB;rw[G0 h1,G0 h2,G0 h3]
      rw[e,G0 h2];rfl
theorem sX(ds:List Elem)(t:Tok)(h:ds≠ []):stepB [] ds t=if blankT t then some ([],ds)else none:=by
 unfold stepB blankT;by_cases h1:t.1=1
 ·rw[G3 h1,G0 (fun hc=>h hc.2),G0 (by simp[h1])]
 ·rw[G0 h1];by_cases h2:t.1=2
  ·rw[G3 h2,G0 (by simp[h2])];rfl
  ·rw[G0 h2];by_cases h3:t.1=3
   ·rw[G3 h3];simp[h3]
   ·rw[G0 h3,G0 (by simp[h3])]
theorem lH(e:Elem):∀ts:List Tok,finB (foldB [] [e] ts)=if ts.dropWhile blankT=[]then some e else none
 | []=>rfl
 |t::ts=>by
  rw[cL,sX _ _ (by simp),M7];cases hb:blankT t with
  |true=>simp only[↓reduceIte,L7];exact lH e ts
  |false=>rfl
theorem gI:∀ts:List Tok,finB (foldB [] [] ts)=bldF ts
 | []=>rfl
 |t::ts=>by
  unfold bldF;rw[cL,M7];cases hb:blankT t with
  |true=>
   have e:stepB [] [] t=some ([],[]):=by
    unfold blankT at hb;simp only[G2,beq_iff_eq]at hb;unfold stepB;rw[G0 (by omega),G0 (by omega),G3 hb.2];show(if _ then _ else _)=_;rw[G3 hb.1]
   rw[e];simp only[↓reduceIte,L7];exact gI ts
  |false=>
   simp only[I7, ↓reduceIte];rw[dE];by_cases h1:t.1=1
   ·have e:stepB [] [] t=some ([⟨t.2.1,t.2.2.1,[],[]⟩],[]):=by
     unfold stepB;rw[G3 h1,G3 (by simp)];rfl
    rw[e,G3 h1,G0 (by omega),L7];have:=v8 (ts.length+1) 31 [] t.2.1 t.2.2.1 [] [] ts (by omega) rfl;rw[L6]at this;rw[this];show Option.bind (elL (ts.length+1) 31 _ _ _ _ ts) _=Option.bind (elL (ts.length+1) 31 _ _ _ _ ts) _;congr 1
    funext q
    exact lH q.1 q.2
   ·rw[G0 h1];have e:stepB [] [] t=none:=by
     unfold blankT at hb;unfold stepB;rw[G0 h1];by_cases h2:t.1=2
     ·rw[G3 h2];rfl
     ·rw[G0 h2];by_cases h3:t.1=3
      ·rw[G3 h3];show(if _ then _ else _)=_;rw[G0 (by simpa [h3]using hb)]
      ·rw[G0 h3]
    rw[e];rfl
theorem je{l:List Elem}{e:Elem}(h:l.getLast? =some e):szs Elem.sz l=szs Elem.sz l.dropLast+e.sz:=by
 rcases P0 l with rfl| ⟨m,o,rfl⟩
 ·cases h
 ·rw[P1]at*;simp at h;subst h;simp[ck,szs]
theorem sY(t:Tok):Tok.sz t=1+t.2.1.length+szs At.sz t.2.2.1+t.2.2.2.length:=rfl
theorem eJ(n:Bs)(a:List At)(x:Bs)(k:List Elem):(Elem.mk n a x k).sz=1+n.length+szs At.sz a+x.length+szs Elem.sz k:=V5 _
theorem va{os ds:List Elem}{t:Tok}{q:List Elem×List Elem}(h:stepB os ds t=some q):
  szs Elem.sz q.1+szs Elem.sz q.2≤szs Elem.sz os+szs Elem.sz ds+Tok.sz t∧(os.length≤32→q.1.length≤32):=by
 have ht:=sY t;unfold stepB at h;split at h
 ·split at h
  ·rename_i h1 h2;cases h;refine⟨?_,fun _=>by simp;omega⟩;simp only[ck,szs,eJ,H6];omega
  ·cases h
 ·split at h
  ·split at h
   ·cases h
   ·rename_i e he;have h1:=je he;split at h
    ·split at h
     ·rename_i hn;cases h;refine⟨?_,fun _=>by simp⟩;simp only[ck,szs];omega
     ·rename_i p hp;cases h;have h2:=je hp;have h3:=V5 p;refine⟨?_,fun hl=>by simp[List.length_dropLast];omega⟩;simp only[ck,szs,eJ];omega
    ·cases h
  ·split at h
   ·split at h
    ·split at h
     ·cases h;refine⟨?_,fun _=>by simp⟩;simp only[szs];omega
     ·cases h
    ·rename_i e he;cases h;have h1:=je he;have h3:=V5 e;have hne:os≠ []:=(by rintro rfl;cases he);have hl0:0<os.length:=N2.2 hne;refine⟨?_,fun hl=>by simp[List.length_dropLast];omega⟩;simp only[ck,szs,eJ,H7];omega
   ·cases h
theorem jf:∀(ts:List Tok) (os ds:List Elem) (q:List Elem×List Elem),foldB os ds ts=some q→
  szs Elem.sz q.1+szs Elem.sz q.2≤szs Elem.sz os+szs Elem.sz ds+szs Tok.sz ts∧(os.length≤32→q.1.length≤32)
 | [],os,ds,q,h=>by cases h;exact⟨by simp[szs],id⟩
 |t::ts,os,ds,q,h=>by
  rw[cL]at h;obtain⟨p,hp,h⟩:=S8.1 h;have h1:=va hp;have h2:=jf ts p.1 p.2 q h;rw[szs];exact⟨by omega,fun hl=>h2.2 (h1.2 hl)⟩
theorem pc{ts:List Tok}{e:Elem}(h:bldF ts=some e):e.sz≤szs Tok.sz ts:=by
 rw[← gI]at h;cases hq:foldB [] [] ts with
 |none=>rw[hq]at h;cases h
 |some q=>
  rw[hq]at h;have:=(jf ts [] [] q hq).1;obtain⟨a,b⟩:=q
  match a,b,h with
  | [],[x],h=>cases h;simpa [szs]using this
def shortF(s:Bs)(n:Nat):Bs:=cleanF (cutF (cleanF s) n)
def orF(a b c:Bs):Bs:=if a≠ []then a else if b≠ []then b else c
def bTitle:Bs:=[116,105,116,108,101]
theorem jg(s:Bs)(n:Nat):(cutF s n).length≤n∧(cutF s n).length≤s.length:=by
 have:=vQ s s.length 0 n (by omega);unfold cutA at this;simp only[P2]at this;unfold cutF;rw[I2];omega
def textO(s:Bs)(m:Nat):Bool:=decide (s.length≤m)&&rightS s&&decide (cleanF s=s)
structure En where
 guid:Bs
 title:Bs
 link:Bs
 date:Int
 dated:Bool
def En.av(x:En):AVal:=.agg [.str x.guid,.str x.title,.str x.link,.int .i64 x.date,.bool x.dated]
@[go_sem] theorem En.av_eq(x:En):x.av=.agg [.str x.guid,.str x.title,.str x.link,.int .i64 x.date,.bool x.dated]:=(rfl)
theorem En.clo(n:Nat)(x:En):Clo n x.av:=.agg _ fun c hc=>by
 simp only[J6,O7,or_false]at hc;rcases hc with rfl|rfl|rfl|rfl|rfl<;>first|exact .str _|exact .int _ _|exact .bool _
theorem En.sto(x:En):∀c∈x.av.cells,c.sto=true:=by
 intro c hc;simp[En.av,AVal.cells]at hc;rcases hc with rfl|rfl|rfl|rfl|rfl<;>rfl
structure Fd where
 title:Bs
 link:Bs
 es:List En
def Fd.av(d:Fd):AVal:=.agg [.str d.title,.str d.link,.sl 5 (d.es.map En.av)]
def onceS(out:List En)(x:En):List En:=if out.any (fun y=>decide (y.guid=x.guid))then out else out++[x]
def onceF(l:List En):List En:=l.foldl onceS []
theorem nq{l:List En}{i:Nat}{x:En}(h:l[i]? =some x):onceF (l.take (i+1))=onceS (onceF (l.take i)) x:=by
 unfold onceF;rw[M2,h,List.foldl_append];rfl
theorem ft(l:List En):(onceF l).length≤l.length:=by
 have key:∀(l out:List En),(l.foldl onceS out).length≤out.length+l.length:=by
  intro l;induction l with
  |nil=>intro out;simp
  |cons x l ih=>
   intro out;have:=ih (onceS out x);have h2:(onceS out x).length≤out.length+1:=(by unfold onceS;split<;>simp);rw[List.foldl_cons,G5];omega
 have k:=key l [];rw[H6,L2]at k;exact k
def anyF(s:Bs):Option Int:=match webR s with
 |some n=>some n
 |none=>mailR s
def fieldF(e:Elem)(n:Bs)(m:Nat):Bs:=shortF (kidF e n).1.text m
def momE(f:Bs→Option Int)(e:Elem)(n:Bs):Option Int:=if (kidF e n).2 then f (cleanF (kidF e n).1.text)else none
def momL(f:Bs→Option Int)(e:Elem):List Bs→Option Int
 | []=>none
 |n::l=>match momE f e n with
  |some v=>some v
  |none=>momL f e l
def mkE(g t l:Bs)(m:Option Int):Option En:=if g=[]then none else some ⟨g,t,l,m.getD 0,m.isSome⟩
def bLink:Bs:=[108,105,110,107]
def bGuid:Bs:=[103,117,105,100]
def bPub:Bs:=[112,117,98,68,97,116,101]
def bDate:Bs:=[100,97,116,101]
def bId:Bs:=[105,100]
def bHref:Bs:=[104,114,101,102]
def bRel:Bs:=[114,101,108]
def bAlt:Bs:=[97,108,116,101,114,110,97,116,101]
def bUpd:Bs:=[117,112,100,97,116,101,100]
def bPubl:Bs:=[112,117,98,108,105,115,104,101,100]
def bIss:Bs:=[105,115,115,117,101,100]
def bChan:Bs:=[99,104,97,110,110,101,108]
def bItem:Bs:=[105,116,101,109]
def bRss:Bs:=[114,115,115]
def bFeed:Bs:=[102,101,101,100]
def bEntry:Bs:=[101,110,116,114,121]
def entR(e:Elem):Option En:=mkE (orF (fieldF e bGuid 512) (fieldF e bLink 512) (fieldF e bTitle 256)) (fieldF e bTitle 256) (fieldF e bLink 512) (momL anyF e [bPub,bDate])
def linkP(k:Elem):Bool:=(attrF k.attrs bHref).2&&(!(attrF k.attrs bRel).2||decide ((attrF k.attrs bRel).1=bAlt))
def linkA(e:Elem):Bs:=match (kidsF e bLink).find? linkP with
 |some k=>shortF (attrF k.attrs bHref).1 512
 |none=>[]
def entA(e:Elem):Option En:=mkE (orF (fieldF e bId 512) (linkA e) (fieldF e bTitle 256)) (fieldF e bTitle 256) (linkA e) (momL webR e [bUpd,bPubl,bIss])
def entsF(f:Elem→Option En)(l:List Elem):List En:=(l.filterMap f).take 256
def rssF(e:Elem):Option Fd:=if (kidF e bChan).2&&decide (short e.name=bRss)then some ⟨fieldF (kidF e bChan).1 bTitle 256,fieldF (kidF e bChan).1 bLink 512,entsF entR (kidsF (kidF e bChan).1 bItem)⟩else none
def atomF(e:Elem):Option Fd:=if short e.name=bFeed then some ⟨fieldF e bTitle 256,linkA e,entsF entA (kidsF e bEntry)⟩else none
def ofE(e:Elem):Option Fd:=(match rssF e with
 |some d=>some d
 |none=>atomF e).map fun d:Fd=>⟨d.title,d.link,onceF d.es⟩
end
section
attribute [local irreducible] WP WPl WPix Sat
variable (G:Nat→Option (List AVal))
theorem pg{h0 Z:Heap}{q v e:Nat}(l:List En)(hq:h0.length≤q)(hg:getRow Z q v=some (e,5,l.map En.av)):Frz Z h0.length (.hs q v 0 l.length true) (.sl 5 (l.map En.av)):=
 Frz.data hq hg (by simp) (fun r hr=>by obtain⟨x,_,rfl⟩:=J9.1 hr;exact x.clo _) (fun r hr=>by obtain⟨x,_,rfl⟩:=J9.1 hr;exact x.sto)
theorem dV(l:List En)(hl:l.length≤1048576)(h:Heap):Sat (CT G) 35 [.sl 5 (l.map En.av)] h (fun r h'=>r=.sl 5 ((onceF l).map En.av)∧h'=h):=by
 have ml:(l.map En.av).length=l.length:=I9 ..;have hma:∀(m:ML Bs Int) (c:Nat) (j:Heap),mapAt (h++(.mp (encM .str iA m) c::j)) h.length=some (encM .str iA m,c):=fun m c j=>by simp[mapAt]
 have ia:∀n,iA n=.int .i64 n:=fun _=>rfl
 have F:=F2 ml hma;refine sb [.tmp 2] Tryz.func35 ?_;intro Q hQ;refine wk F ?_;refine lm (fun nL tL hL=>∃(i v c:Nat) (m:ML Bs Int) (out:List En) (j:Heap),l.length-i=nL∧h++(.mp (encM .str iA m) c:: .row 61 5 v (out.map En.av)::j)=hL∧tL 3=.hs (h.length+1) v 0 out.length true∧tL 10=.int .i64 i∧i≤l.length∧out=onceF (l.take i)∧(∀g,((∃y∈out,y.guid=g)∧lkM m g=some 1)∨((∀y∈out,y.guid≠g)∧lkM m g=none))) ((fun(i v c:Nat) (m:ML Bs Int) (out:List En) (j:Heap)=>(l.length-i:Nat)) (0) (0) (0) ([]) ([]) ([])) ?_ ?_
 ·refine⟨_,_,V4 3 61 5 (by simp) (by omega) (by exact zq F),⟨0,0,0,[],[],[],rfl,ar,?_,?_,by omega,rfl,fun g=>.inr ⟨by simp,rfl⟩⟩⟩;all_goals try exact zZz F
 rintro _ s2 h' ⟨i,v,c,m,out,j,rfl,rfl,e3,e10,hi,ho,hm⟩ K2 hK2;simp only[ai,ak,Nat.reduceEqDiff, ↓reduceIte]at e3 e10;have F:=F3 F e3 e10;have hol:=ft (l.take i);rw[← ho,I2]at hol;by_cases c1:i<l.length
 ·obtain⟨x,hx,_⟩:=ae c1;have d1:=G8 c1;have hst:=nq hx;rw[← ho]at hst;have mo:(out.map En.av).length=out.length:=I9 ..;rcases hm x.guid with⟨⟨y,hy1,hy2⟩,hlk⟩| ⟨hn,hlk⟩
  ·have ha:out.any (fun y=>decide (y.guid=x.guid))=true:=R0.2 ⟨y,hy1,by simp[hy2]⟩;unfold onceS at hst;rw[G3 ha]at hst;have hg:(lkM m x.guid).getD 0=1:=(by rw[hlk];rfl);have q:decide ((1:Int)>0)=true:=rfl;have F:=F6 F hx d1 hg q @al;(try refine sq F ?_);refine wk F ?_;refine hK2 _ _ _ (G9 ⟨i+1,v,c,m,out,j++[.row 61 5 0 [x.av]],rfl,rfl,?_,?_,by omega,hst.symm,hm⟩) (by omega);all_goals try exact zZz F
  ·have ha:out.any (fun y=>decide (y.guid=x.guid))=false:=by
    cases hh:out.any (fun y=>decide (y.guid=x.guid))with
    |false=>rfl
    |true=>
     obtain⟨y,hy1,hy2⟩:=R0.1 hh;exact absurd (by simpa using hy2) (hn y hy1)
   unfold onceS at hst;rw[G0 (by simp[ha])]at hst;have hg:(lkM m x.guid).getD 0=0:=(by rw[hlk];rfl);have q:decide ((0:Int)>0)=false:=rfl;have hm2:∀g,((∃y∈out++[x],y.guid=g)∧lkM (upM m c x.guid 1) g=some 1)∨((∀y∈out++[x],y.guid≠g)∧lkM (upM m c x.guid 1) g=none):=fun g=>by
    rw[xd];by_cases e:g=x.guid
    ·left;rw[G3 e];exact⟨⟨x,by simp,e.symm⟩,rfl⟩
    ·rw[G0 e];rcases hm g with⟨⟨y,hy1,hy2⟩,k⟩| ⟨k1,k2⟩
     ·exact .inl ⟨⟨y,by simp[hy1],hy2⟩,k⟩
     ·refine .inr ⟨fun y hy=>?_,k2⟩;rcases R6.1 hy with hy|hy
      ·exact k1 y hy
      ·rw[M4.1 hy];exact fun k=>e k.symm
   have F:=F7 F hx d1 hg q mo @al;(try refine sq F ?_);refine wk F ?_;refine aq F ?_;(try refine sq F ?_);refine wk F ?_;refine hK2 _ _ _ (G9 ⟨i+1,v+1,ckM m c x.guid,upM m c x.guid 1,out++[x],j++[.row 61 5 0 [x.av]],rfl,by simp[En.av],?_,?_,by omega,hst.symm,hm2⟩) (by omega);all_goals try exact zZz F
 ·have d1:=G7 c1;rw[H9 (by omega)]at ho;have mo:(out.map En.av).length=out.length:=I9 ..;have F:=F3 F d1 mo;try refine sq F ?_
  refine wk F ?_;refine ee hQ F ?_;rw[← ho];exact P3 (pg out (by omega) (by rw[eZ _ rfl];show(if v=v then _ else _)=_;rw[G3 rfl])) ⟨rfl,rfl⟩
end
section
attribute [local irreducible] WP WPl WPix Sat
variable {G:Nat→Option (List AVal)}
def prsC(s:Bs):Int:=if (toksF s).2=0 then(if (bldF (toksF s).1).isSome then 0 else 90)else(toksF s).2
def PrsR(h:Heap)(s:Bs)(r:AVal)(h':Heap):Prop:=
 ∃e:Elem,r=.tup [e.av,.int .i64 (prsC s)]∧(∀x,prsC s=0→bldF (toksF s).1=some x→e=x)∧(prsC s≠0→e=⟨[],[],[],[]⟩)∧h'=h
theorem PrsR.bad{h:Heap}{s:Bs}(j:Heap)(c:Int)(e:prsC s=c)(hc:c≠0):Fin h (h++j) (PrsR h s) (.tup [.agg [.str [],.nil (.slice none 0 0),.str [],.nil (.slice none 0 0)],.int .i64 c]):=by
 have z:Frz (h++j) h.length (.agg [.str [],.nil (.slice none 0 0),.str [],.nil (.slice none 0 0)]) (Elem.av ⟨[],[],[],[]⟩):=by
  rw[Elem.av_eq];exact FrzL.agg (.cons (.clo _ (.str _)) (.cons (.nils 2) (.cons (.clo _ (.str _)) (.cons (.nils 4) .nil)))) rfl
 exact P3 (U0 (.cons z (.cons (.clo _ (.int _ _)) .nil))) ⟨_,by rw[e],(fun x hx=>by rw[e]at hx;exact absurd hx hc),fun _=>rfl,rfl⟩
theorem jh(s:Bs):szs Tok.sz (toksF s).1≤10*s.length:=by
 unfold toksF;split
 ·simp[szs]
 ·have:=vY (s.length+1) s [];simpa [szs]using this
theorem lJ(s:Bs):szs Tok.sz (toksF s).1≤655360:=by
 have h:=jh s;by_cases hs:65536<s.length
 ·unfold toksF;rw[G3 hs];simp[szs]
 ·omega
theorem qM(hG:GOk G)(hC:GClo (CT G))(s:Bs)(hs:s.length≤100000)(h:Heap):Sat (CT G) 37 [.str s] h (PrsR h s):=by
 have hsz:szs Tok.sz (toksF s).1≤1048576:=by have:=jh s;omega
 refine sb [.cell 2 76,.tmp 3] Tryz.func37 ?_;intro Q hQ;refine wk trivial ?_;refine(oh hG hC s (by omega) _).mono ?_;rintro r h' ⟨a,rfl,rfl⟩;try refine sq trivial ?_
 refine wk trivial ?_;by_cases c0:(toksF s).2=0
 ·have b0:((toksF s).2 !=0)=false:=by simpa using c0
  have F:=b0;try refine sq F ?_
  refine wk F ?_;refine(qJ (toksF s).1 hsz _).mono ?_;rintro r h' ⟨e,rfl,he,rfl⟩;try refine sq F ?_
  refine wk F ?_;cases hb:bldF (toksF s).1 with
  |none=>
   have no1:(none:Option Elem).isSome=false:=rfl;have F:=F2 F no1;(try refine sq F ?_);refine wk F ?_;refine ye hQ F ?_;exact PrsR.bad _ 90 (by unfold prsC;rw[G3 c0,hb];rfl) (by omega)
  |some x=>
   have hp:prsC s=0:=(by unfold prsC;rw[G3 c0,hb];rfl);(try refine sq F ?_);refine wk F ?_;refine ye hQ F ?_;exact H3 (.tup _ (by intro c hc;simp at hc;rcases hc with rfl|rfl;exact Elem.clo _ _;exact .int _ _)) ⟨e,by rw[hp],(fun y _ hy=>he y hy),(fun hne=>absurd hp hne),rfl⟩
 ·have b0:((toksF s).2 !=0)=true:=by simpa using c0
  have F:=b0;try refine sq F ?_
  refine wk F ?_;refine ye hQ F ?_;exact PrsR.bad _ _ (by unfold prsC;rw[G0 c0]) c0
end
section
attribute [local irreducible] WP WPl WPix Sat
variable (G:Nat→Option (List AVal))
def bA(s:Bs)(i:Nat):Nat:=(s.getD i 0).toNat
theorem vz(s:Bs)(i:Nat):bA s i<256:=UInt8.toNat_lt _
theorem vA{s:Bs}{i:Nat}{c:UInt8}(h:s[i]? =some c):bA s i=c.toNat:=by unfold bA;rw[L9,h];rfl
def Cls(b:Nat)(n:Nat)(r l:Int):Prop:=
 (192≤b∧b<224∧n=2∧r=b-192∧l=128)∨(224≤b∧b<240∧n=3∧r=b-224∧l=2048)∨(240≤b∧b<248∧n=4∧r=b-240∧l=65536)
def accI(s:Bs)(r:Int):Nat→Int
 |0=>r
 |i+1=>accI s r i*64+(bA s (i+1)-128)
theorem lZ(s:Bs):dec s 0=Lib.decodeN s.length (bA s 0) (bA s 1) (bA s 2) (bA s 3):=by rw[eG];rfl
theorem jV(s:Bs)(h:(128≤bA s 0∧bA s 0<192)∨248≤bA s 0):dec s 0=(65533,1):=by
 rw[lZ];have:=vz s 0;unfold Lib.decodeN;rw[G0 (by omega),G0 (by omega),G0 (by omega),G0 (by omega)]
theorem ou(s:Bs){n:Nat}{r l:Int}(hc:Cls (bA s 0) n r l)(h:s.length<n):dec s 0=(65533,1):=by
 rw[lZ];unfold Cls at hc;unfold Lib.decodeN;rw[G0 (by omega),G0 (by omega),G0 (by omega),G0 (by omega)]
theorem qN(s:Bs){n:Nat}{r l:Int}(hc:Cls (bA s 0) n r l)(i:Nat)(h1:1≤i)(h2:i<n)(h:¬(128≤bA s i∧bA s i<192)):dec s 0=(65533,1):=by
 rw[lZ];unfold Cls at hc;have:=vz s i;unfold Lib.decodeN;have hi:i=1∨i=2∨i=3:=by omega
 rcases hi with rfl|rfl|rfl<;>rw[G0 (by omega),G0 (by omega),G0 (by omega),G0 (by omega)]
theorem t7(s:Bs){n:Nat}{r l:Int}(hc:Cls (bA s 0) n r l)(hn:n≤s.length)(ht:∀i,1≤i→i<n→128≤bA s i∧bA s i<192):
  ((accI s r (n-1)<l∨1114111<accI s r (n-1)∨(55296≤accI s r (n-1)∧accI s r (n-1)≤57343))→dec s 0=(65533,1))∧
  (¬(accI s r (n-1)<l∨1114111<accI s r (n-1)∨(55296≤accI s r (n-1)∧accI s r (n-1)≤57343))→((dec s 0).1:Int)=accI s r (n-1)∧(dec s 0).2=n):=by
 rw[lZ];unfold Cls at hc;rcases hc with⟨h1,h2,rfl,rfl,rfl⟩| ⟨h1,h2,rfl,rfl,rfl⟩| ⟨h1,h2,rfl,rfl,rfl⟩
 ·have t1:=ht 1 (by omega) (by omega);simp only[accI,Nat.reduceSub,Nat.reduceAdd];unfold Lib.decodeN;rw[G0 (by omega),G3 (by omega)];constructor
  ·intro h;rw[G0 (by omega)]
  ·intro h;rw[G3 (by omega)];dsimp only;refine⟨?_,rfl⟩;omega
 ·have t1:=ht 1 (by omega) (by omega);have t2:=ht 2 (by omega) (by omega);simp only[accI,Nat.reduceSub,Nat.reduceAdd];unfold Lib.decodeN;rw[G0 (by omega),G0 (by omega),G3 (by omega)];constructor
  ·intro h;rw[G0 (by omega)]
  ·intro h;rw[G3 (by omega)];dsimp only;refine⟨?_,rfl⟩;omega
 ·have t1:=ht 1 (by omega) (by omega);have t2:=ht 2 (by omega) (by omega);have t3:=ht 3 (by omega) (by omega);simp only[accI,Nat.reduceSub,Nat.reduceAdd];unfold Lib.decodeN;rw[G0 (by omega),G0 (by omega),G0 (by omega),G3 (by omega)];constructor
  ·intro h;rw[G0 (by omega)]
  ·intro h;rw[G3 (by omega)];dsimp only;refine⟨?_,rfl⟩;omega
theorem t8(b:UInt8)(h:Heap):Sat (CT G) 200 [.int .u8 b.toNat] h (fun r h'=>r=.bool (decide (128≤b.toNat∧b.toNat<192))∧h'=h):=by
 refine sb [.tmp 2] Tryz.func200 ?_;intro Q hQ;refine wk trivial ?_;(first|refine gq trivial (fun g1=>?_) (fun g1=>?_)|refine pq trivial (fun g1=>?_) (fun g1=>?_))<;>(try exact g1.elim)<;>(try refine sq trivial ?_)<;>(refine wk trivial ?_)
 ·refine ee hQ trivial ?_;refine fR (.bool _) ?_;congr 1
  rw[N8];simp;omega
 ·refine ee hQ trivial ?_;refine fR (.bool _) ?_;rw[G7 (by omega)]
theorem vg(k:IntKind)(n:Int)(h0:0≤n)(h1:n<256):aconv Tryz.prog 5 21 (.int k n)=some (.int .i32 n):=by simp only[aconv,go_sem,d7 (x:=n) (by omega) (by omega)]
theorem lK(s:Bs)(hne:s≠ [])(hs:s.length≤1073741824)(h:Heap):Sat (CT G) 142 [.str s] h (fun r h'=>r=.tup [.int .i32 (dec s 0).1,.int .i64 (dec s 0).2]∧h'=h):=by
 have hpos:0<s.length:=N2.2 hne;obtain⟨b,hb,_⟩:=ae hpos;have hbA:=vA hb;have hb256:=b.toNat_lt;have fin:∀c w:Int,((dec s 0).1:Int)=c→((dec s 0).2:Int)=w→Fin h h (fun r h'=>r=.tup [.int .i32 (dec s 0).1,.int .i64 (dec s 0).2]∧h'=h) (.tup [.int .i32 c,.int .i64 w]):=fun c w e1 e2=>by
  rw[e1,e2];exact I8 (.tup _ (by intro c hc;simp at hc;rcases hc with rfl|rfl<;>exact .int _ _)) ⟨rfl,rfl⟩
 have bad:dec s 0=(65533,1)→Fin h h (fun r h'=>r=.tup [.int .i32 (dec s 0).1,.int .i64 (dec s 0).2]∧h'=h) (.tup [.int .i32 65533,.int .i64 1]):=fun e=>fin _ _ (by rw[e];rfl) (by rw[e];rfl)
 have F:=F4 @vg @i6 @d7 hb;refine sb [.tmp 2,.tmp 3] Tryz.func142 ?_;intro Q hQ;(repeat (first|refine w1 (fun K hK=>?_)|refine w2 ?_|refine w3 ?_| ((first|refine w4 ?_|refine wD ?_|refine w5 ?_|refine w6 ?_|refine w7 ?_);try refine sq F ?_)| (refine w8 ?_;refine sq F ?_;refine w9 ?_)| ((first|refine hK _ _ (w0 ?_)| (clear hK K;refine hK _ _ (w0 ?_))| (clear hK K;clear hK K;refine hK _ _ (w0 ?_)));clear hK K)))
 refine cq F (fun c1=>?_) (fun c1=>?_)<;>(try exact c1.elim)<;>((repeat (first|refine w1 (fun K hK=>?_)|refine w2 ?_|refine w3 ?_| ((first|refine w4 ?_|refine wD ?_|refine w5 ?_|refine w6 ?_|refine w7 ?_);try refine sq F ?_)| (refine w8 ?_;refine sq F ?_;refine w9 ?_)| ((first|refine hK _ _ (w0 ?_)| (clear hK K;refine hK _ _ (w0 ?_))| (clear hK K;clear hK K;refine hK _ _ (w0 ?_)));clear hK K))))
 ·refine ee hQ F ?_;have e:=d6 s 0 b hb (by omega);exact fin _ _ (by rw[e]) (by rw[e];rfl)
 rename_i K0 hK0;have tail:∀(t':Env) (n:Nat) (r l:Int),Cls (bA s 0) n r l→t' 0=.str s→t' 5=.int .i64 n→t' 6=.int .i32 r→t' 7=.int .i32 l→K0 t' h:=by
  intro t' n r l hc e0 e5 e6 e7;refine hK0 _ _ (G9 ?_);clear hK0 K0 hK K;have F:=F5 F e0 e5 e6 e7;(repeat (first|refine w1 (fun K hK=>?_)|refine w2 ?_|refine w3 ?_| ((first|refine w4 ?_|refine wD ?_|refine w5 ?_|refine w6 ?_|refine w7 ?_);try refine sq F ?_)| (refine w8 ?_;refine sq F ?_;refine w9 ?_)| ((first|refine hK _ _ (w0 ?_)| (clear hK K;refine hK _ _ (w0 ?_))| (clear hK K;clear hK K;refine hK _ _ (w0 ?_)));clear hK K)))
  refine cq F (fun c2=>?_) (fun c2=>?_)<;>(try exact c2.elim)<;>((repeat (first|refine w1 (fun K hK=>?_)|refine w2 ?_|refine w3 ?_| ((first|refine w4 ?_|refine wD ?_|refine w5 ?_|refine w6 ?_|refine w7 ?_);try refine sq F ?_)| (refine w8 ?_;refine sq F ?_;refine w9 ?_)| ((first|refine hK _ _ (w0 ?_)| (clear hK K;refine hK _ _ (w0 ?_))| (clear hK K;clear hK K;refine hK _ _ (w0 ?_)));clear hK K))))
  ·refine ee hQ F ?_;exact bad (ou s hc (by omega))
  have hc':=hc;unfold Cls at hc';refine lm (fun nL tL hL=>∃(i:Nat) (q:Int),n-i=nL∧h=hL∧tL 6=.int .i32 q∧tL 8=.int .i64 i∧(1≤i∧i≤n)∧q=accI s r (i-1)∧(0≤q∧(i=1→q<32)∧(i=2→q<2048)∧(i=3→q<131072)∧(i=4→q<8388608))∧(∀j,1≤j→j<i→128≤bA s j∧bA s j<192)) ((fun(i:Nat) (q:Int)=>(n-i:Nat)) (1) (r)) ?_ ?_
  ·refine G9 ⟨1,r,rfl,ar,?_,?_,⟨by omega,by omega⟩,rfl,⟨by omega,by omega,by omega,by omega,by omega⟩,fun j h1 h2=>by omega⟩;all_goals try exact zZz F
  rintro _ s1 h' ⟨i,q,rfl,rfl,e6,e8,hi,hq,hb,ht⟩ K1 hK1;simp only[ai,ak,Nat.reduceEqDiff, ↓reduceIte]at e6 e8;have F:=F3 F e6 e8;(repeat (first|refine w1 (fun K hK=>?_)|refine w2 ?_|refine w3 ?_| ((first|refine w4 ?_|refine wD ?_|refine w5 ?_|refine w6 ?_|refine w7 ?_);try refine sq F ?_)| (refine w8 ?_;refine sq F ?_;refine w9 ?_)| ((first|refine hK _ _ (w0 ?_)| (clear hK K;refine hK _ _ (w0 ?_))| (clear hK K;clear hK K;refine hK _ _ (w0 ?_)));clear hK K)))
  refine cq F (fun c3=>?_) (fun c3=>?_)<;>(try exact c3.elim)<;>((repeat (first|refine w1 (fun K hK=>?_)|refine w2 ?_|refine w3 ?_| ((first|refine w4 ?_|refine wD ?_|refine w5 ?_|refine w6 ?_|refine w7 ?_);try refine sq F ?_)| (refine w8 ?_;refine sq F ?_;refine w9 ?_)| ((first|refine hK _ _ (w0 ?_)| (clear hK K;refine hK _ _ (w0 ?_))| (clear hK K;clear hK K;refine hK _ _ (w0 ?_)));clear hK K))))
  ·obtain⟨y,hy,_⟩:=ae (show i<s.length by omega);have hyA:=vA hy;have hy256:=y.toNat_lt;have F:=F2 F hy;(try refine sq F ?_);(repeat (first|refine w1 (fun K hK=>?_)|refine w2 ?_|refine w3 ?_| ((first|refine w4 ?_|refine wD ?_|refine w5 ?_|refine w6 ?_|refine w7 ?_);try refine sq F ?_)| (refine w8 ?_;refine sq F ?_;refine w9 ?_)| ((first|refine hK _ _ (w0 ?_)| (clear hK K;refine hK _ _ (w0 ?_))| (clear hK K;clear hK K;refine hK _ _ (w0 ?_)));clear hK K)))
   refine(t8 G y _).mono ?_;rintro r h' ⟨rfl,rfl⟩;(try refine sq F ?_);(repeat (first|refine w1 (fun K hK=>?_)|refine w2 ?_|refine w3 ?_| ((first|refine w4 ?_|refine wD ?_|refine w5 ?_|refine w6 ?_|refine w7 ?_);try refine sq F ?_)| (refine w8 ?_;refine sq F ?_;refine w9 ?_)| ((first|refine hK _ _ (w0 ?_)| (clear hK K;refine hK _ _ (w0 ?_))| (clear hK K;clear hK K;refine hK _ _ (w0 ?_)));clear hK K)))
   refine cq F (fun c4=>?_) (fun c4=>?_)<;>(try exact c4.elim)<;>((repeat (first|refine w1 (fun K hK=>?_)|refine w2 ?_|refine w3 ?_| ((first|refine w4 ?_|refine wD ?_|refine w5 ?_|refine w6 ?_|refine w7 ?_);try refine sq F ?_)| (refine w8 ?_;refine sq F ?_;refine w9 ?_)| ((first|refine hK _ _ (w0 ?_)| (clear hK K;refine hK _ _ (w0 ?_))| (clear hK K;clear hK K;refine hK _ _ (w0 ?_)));clear hK K))))
   ·refine ee hQ F ?_;exact bad (qN s hc i hi.1 c3 (by rw[hyA];omega))
   ·have hacc:accI s r i=accI s r (i-1)*64+(bA s i-128):=by
     obtain⟨k,rfl⟩:∃k,i=k+1:=⟨i-1,by omega⟩;rfl
    have hi4:i=1∨i=2∨i=3:=(by omega);have ht':∀j,1≤j→j<i+1→128≤bA s j∧bA s j<192:=fun j h1 h2=>by
     rcases N9 j i with h3|h3
     ·exact ht j h1 h3
     ·obtain rfl:j=i:=by omega
      rw[hyA];omega
    have hq':q*64+((y.toNat:Int)-128)=accI s r (i+1-1):=(by rw[Nat.add_sub_cancel,hacc, ← hq,hyA]);(try refine sq F ?_);(repeat (first|refine w1 (fun K hK=>?_)|refine w2 ?_|refine w3 ?_| ((first|refine w4 ?_|refine wD ?_|refine w5 ?_|refine w6 ?_|refine w7 ?_);try refine sq F ?_)| (refine w8 ?_;refine sq F ?_;refine w9 ?_)| ((first|refine hK _ _ (w0 ?_)| (clear hK K;refine hK _ _ (w0 ?_))| (clear hK K;clear hK K;refine hK _ _ (w0 ?_)));clear hK K)))
    refine hK1 _ _ _ (G9 ⟨i+1,q*64+(y.toNat-128),rfl,ar,?_,?_,⟨by omega,by omega⟩,hq',by omega,ht'⟩) (by omega);all_goals try exact zZz F
  ·have hin:i=n:=(by omega);subst hin;obtain⟨f1,f2⟩:=t7 s hc (by omega) ht;rw[← hq]at f1 f2;(try refine sq F ?_);(repeat (first|refine w1 (fun K hK=>?_)|refine w2 ?_|refine w3 ?_| ((first|refine w4 ?_|refine wD ?_|refine w5 ?_|refine w6 ?_|refine w7 ?_);try refine sq F ?_)| (refine w8 ?_;refine sq F ?_;refine w9 ?_)| ((first|refine hK _ _ (w0 ?_)| (clear hK K;refine hK _ _ (w0 ?_))| (clear hK K;clear hK K;refine hK _ _ (w0 ?_)));clear hK K)))
   (first|refine gq F (fun g1=>?_) (fun g1=>?_)|refine pq F (fun g1=>?_) (fun g1=>?_))<;>(try exact g1.elim)<;>(try refine sq F ?_)<;>((repeat (first|refine w1 (fun K hK=>?_)|refine w2 ?_|refine w3 ?_| ((first|refine w4 ?_|refine wD ?_|refine w5 ?_|refine w6 ?_|refine w7 ?_);try refine sq F ?_)| (refine w8 ?_;refine sq F ?_;refine w9 ?_)| ((first|refine hK _ _ (w0 ?_)| (clear hK K;refine hK _ _ (w0 ?_))| (clear hK K;clear hK K;refine hK _ _ (w0 ?_)));clear hK K))))
   ·refine ee hQ F ?_;exact bad (f1 (by omega))
   ·(first|refine gq F (fun g2=>?_) (fun g2=>?_)|refine pq F (fun g2=>?_) (fun g2=>?_))<;>(try exact g2.elim)<;>(try refine sq F ?_)<;>((repeat (first|refine w1 (fun K hK=>?_)|refine w2 ?_|refine w3 ?_| ((first|refine w4 ?_|refine wD ?_|refine w5 ?_|refine w6 ?_|refine w7 ?_);try refine sq F ?_)| (refine w8 ?_;refine sq F ?_;refine w9 ?_)| ((first|refine hK _ _ (w0 ?_)| (clear hK K;refine hK _ _ (w0 ?_))| (clear hK K;clear hK K;refine hK _ _ (w0 ?_)));clear hK K))))
    ·refine ee hQ F ?_;exact bad (f1 (by omega))
    ·(first|refine gq F (fun g3=>?_) (fun g3=>?_)|refine pq F (fun g3=>?_) (fun g3=>?_))<;>(try exact g3.elim)<;>(try refine sq F ?_)<;>((repeat (first|refine w1 (fun K hK=>?_)|refine w2 ?_|refine w3 ?_| ((first|refine w4 ?_|refine wD ?_|refine w5 ?_|refine w6 ?_|refine w7 ?_);try refine sq F ?_)| (refine w8 ?_;refine sq F ?_;refine w9 ?_)| ((first|refine hK _ _ (w0 ?_)| (clear hK K;refine hK _ _ (w0 ?_))| (clear hK K;clear hK K;refine hK _ _ (w0 ?_)));clear hK K))))
     ·refine cq F (fun g4=>?_) (fun g4=>?_)<;>(try exact g4.elim)<;>((repeat (first|refine w1 (fun K hK=>?_)|refine w2 ?_|refine w3 ?_| ((first|refine w4 ?_|refine wD ?_|refine w5 ?_|refine w6 ?_|refine w7 ?_);try refine sq F ?_)| (refine w8 ?_;refine sq F ?_;refine w9 ?_)| ((first|refine hK _ _ (w0 ?_)| (clear hK K;refine hK _ _ (w0 ?_))| (clear hK K;clear hK K;refine hK _ _ (w0 ?_)));clear hK K))))
      ·refine ee hQ F ?_;exact bad (f1 (by omega))
      ·refine ee hQ F ?_;exact fin _ _ (f2 (by omega)).1 (by rw[(f2 (by omega)).2])
     ·refine ee hQ F ?_;exact fin _ _ (f2 (by omega)).1 (by rw[(f2 (by omega)).2])
 (first|refine gq F (fun g1=>?_) (fun g1=>?_)|refine pq F (fun g1=>?_) (fun g1=>?_))<;>(try exact g1.elim)<;>(try refine sq F ?_)<;>((repeat (first|refine w1 (fun K hK=>?_)|refine w2 ?_|refine w3 ?_| ((first|refine w4 ?_|refine wD ?_|refine w5 ?_|refine w6 ?_|refine w7 ?_);try refine sq F ?_)| (refine w8 ?_;refine sq F ?_;refine w9 ?_)| ((first|refine hK _ _ (w0 ?_)| (clear hK K;refine hK _ _ (w0 ?_))| (clear hK K;clear hK K;refine hK _ _ (w0 ?_)));clear hK K))))
 ·refine cq F (fun g2=>?_) (fun g2=>?_)<;>(try exact g2.elim)<;>((repeat (first|refine w1 (fun K hK=>?_)|refine w2 ?_|refine w3 ?_| ((first|refine w4 ?_|refine wD ?_|refine w5 ?_|refine w6 ?_|refine w7 ?_);try refine sq F ?_)| (refine w8 ?_;refine sq F ?_;refine w9 ?_)| ((first|refine hK _ _ (w0 ?_)| (clear hK K;refine hK _ _ (w0 ?_))| (clear hK K;clear hK K;refine hK _ _ (w0 ?_)));clear hK K))))
  ·refine tail _ 2 (b.toNat-192) 128 ?_ ?_ ?_ ?_ ?_
   ·unfold Cls;omega
   ·exact zq F
   ·exact zq F
   ·exact zq F
   ·exact zq F
  ·(first|refine gq F (fun g3=>?_) (fun g3=>?_)|refine pq F (fun g3=>?_) (fun g3=>?_))<;>(try exact g3.elim)<;>(try refine sq F ?_)<;>((repeat (first|refine w1 (fun K hK=>?_)|refine w2 ?_|refine w3 ?_| ((first|refine w4 ?_|refine wD ?_|refine w5 ?_|refine w6 ?_|refine w7 ?_);try refine sq F ?_)| (refine w8 ?_;refine sq F ?_;refine w9 ?_)| ((first|refine hK _ _ (w0 ?_)| (clear hK K;refine hK _ _ (w0 ?_))| (clear hK K;clear hK K;refine hK _ _ (w0 ?_)));clear hK K))))
   ·refine cq F (fun g4=>?_) (fun g4=>?_)<;>(try exact g4.elim)<;>((repeat (first|refine w1 (fun K hK=>?_)|refine w2 ?_|refine w3 ?_| ((first|refine w4 ?_|refine wD ?_|refine w5 ?_|refine w6 ?_|refine w7 ?_);try refine sq F ?_)| (refine w8 ?_;refine sq F ?_;refine w9 ?_)| ((first|refine hK _ _ (w0 ?_)| (clear hK K;refine hK _ _ (w0 ?_))| (clear hK K;clear hK K;refine hK _ _ (w0 ?_)));clear hK K))))
    ·refine tail _ 3 (b.toNat-224) 2048 ?_ ?_ ?_ ?_ ?_
     ·unfold Cls;omega
     ·exact zq F
     ·exact zq F
     ·exact zq F
     ·exact zq F
    ·(first|refine gq F (fun g5=>?_) (fun g5=>?_)|refine pq F (fun g5=>?_) (fun g5=>?_))<;>(try exact g5.elim)<;>(try refine sq F ?_)<;>((repeat (first|refine w1 (fun K hK=>?_)|refine w2 ?_|refine w3 ?_| ((first|refine w4 ?_|refine wD ?_|refine w5 ?_|refine w6 ?_|refine w7 ?_);try refine sq F ?_)| (refine w8 ?_;refine sq F ?_;refine w9 ?_)| ((first|refine hK _ _ (w0 ?_)| (clear hK K;refine hK _ _ (w0 ?_))| (clear hK K;clear hK K;refine hK _ _ (w0 ?_)));clear hK K))))
     ·refine cq F (fun g6=>?_) (fun g6=>?_)<;>(try exact g6.elim)<;>((repeat (first|refine w1 (fun K hK=>?_)|refine w2 ?_|refine w3 ?_| ((first|refine w4 ?_|refine wD ?_|refine w5 ?_|refine w6 ?_|refine w7 ?_);try refine sq F ?_)| (refine w8 ?_;refine sq F ?_;refine w9 ?_)| ((first|refine hK _ _ (w0 ?_)| (clear hK K;refine hK _ _ (w0 ?_))| (clear hK K;clear hK K;refine hK _ _ (w0 ?_)));clear hK K))))
      ·refine tail _ 4 (b.toNat-240) 65536 ?_ ?_ ?_ ?_ ?_
       ·unfold Cls;omega
       ·exact zq F
       ·exact zq F
       ·exact zq F
       ·exact zq F
      ·refine ee hQ F ?_;exact bad (jV s (by omega))
     ·exfalso;omega
   ·exfalso;omega
 ·(first|refine gq F (fun g3=>?_) (fun g3=>?_)|refine pq F (fun g3=>?_) (fun g3=>?_))<;>(try exact g3.elim)<;>(try refine sq F ?_)<;>((repeat (first|refine w1 (fun K hK=>?_)|refine w2 ?_|refine w3 ?_| ((first|refine w4 ?_|refine wD ?_|refine w5 ?_|refine w6 ?_|refine w7 ?_);try refine sq F ?_)| (refine w8 ?_;refine sq F ?_;refine w9 ?_)| ((first|refine hK _ _ (w0 ?_)| (clear hK K;refine hK _ _ (w0 ?_))| (clear hK K;clear hK K;refine hK _ _ (w0 ?_)));clear hK K))))
  ·exfalso;omega
  ·(first|refine gq F (fun g5=>?_) (fun g5=>?_)|refine pq F (fun g5=>?_) (fun g5=>?_))<;>(try exact g5.elim)<;>(try refine sq F ?_)<;>((repeat (first|refine w1 (fun K hK=>?_)|refine w2 ?_|refine w3 ?_| ((first|refine w4 ?_|refine wD ?_|refine w5 ?_|refine w6 ?_|refine w7 ?_);try refine sq F ?_)| (refine w8 ?_;refine sq F ?_;refine w9 ?_)| ((first|refine hK _ _ (w0 ?_)| (clear hK K;refine hK _ _ (w0 ?_))| (clear hK K;clear hK K;refine hK _ _ (w0 ?_)));clear hK K))))
   ·exfalso;omega
   ·refine ee hQ F ?_;exact bad (jV s (by omega))
theorem vh:∀(l:List Int),∀r∈l.map runA,∀c∈r.cells,c.sto=true:=fun l r hr c hc=>by
 obtain⟨a,_,rfl⟩:=J9.1 hr;simp[runA,AVal.cells]at hc;subst hc;rfl
theorem vj:∀(n:Nat) (l:List Int),∀r∈l.map runA,Clo n r:=fun n l r hr=>by
 obtain⟨a,_,rfl⟩:=J9.1 hr;exact .int _ _
theorem Frz.runes{h:Heap}{n q v e:Nat}{l:List Int}{len:Nat}{room:Bool}(hq:n≤q)(hg:getRow h q v=some (e,1,l.map runA))(hlen:len=l.length):Frz h n (.hs q v 0 len room) (.sl 1 (l.map runA)):=
 Frz.data hq hg (by simpa using hlen) (fun r hr=>vj _ l r hr) (fun r hr=>vh l r hr)
theorem ta(s:Bs)(hs:s.length≤1048576)(h:Heap):Sat (CT G) 143 [.str s] h (fun r h'=>r=.sl 1 ((runesF s).map runA)∧h'=h):=by
 refine sb [.tmp 2] Tryz.func143 ?_;intro Q hQ;refine wk trivial ?_;refine lm (fun nL tL hL=>∃(k v:Nat) (acc:List Int),s.length-k=nL∧h++[.row 21 1 v (acc.map runA)]=hL∧tL 0=.str (s.drop k)∧tL 3=.hs h.length v 0 acc.length true∧k≤s.length∧acc.length≤k∧acc++runesF (s.drop k)=runesF s) ((fun(k v:Nat) (acc:List Int)=>(s.length-k:Nat)) (0) (0) ([])) ?_ ?_
 ·refine⟨_,_,V4 3 21 1 (by simp) (by omega) (by exact zq trivial),⟨0,0,[],rfl,ar,?_,?_,?_,?_,?_⟩⟩;all_goals try exact zZz trivial
 rintro _ s2 h' ⟨k,v,acc,rfl,rfl,e0,e3,hk,hl,hp⟩ K2 hK2;simp only[ai,ak,Nat.reduceEqDiff, ↓reduceIte]at e0 e3;have F:=F2 e0 e3;refine wk F ?_;refine cq F (fun c1=>?_) (fun c1=>?_)<;>(try exact c1.elim)<;>(refine wk F ?_)
 ·simp only[J7]at c1;have hlt:k<s.length:=by omega
  have hp2:=bg s k hlt;rw[li s k hlt]at hp;have hne:s.drop k≠ []:=by intro e;have:=J2 List.length e;simp at this;omega
  refine(lK G (s.drop k) hne (by simp;omega) _).mono ?_;rintro r h' ⟨rfl,rfl⟩;rw[← dB];generalize dec s k=d at*;obtain⟨c,m⟩:=d;simp only[]at hp hp2 ⊢;have hsl:m≤(s.drop k).length:=by simp;omega
  have hdd:(s.drop k).drop m=s.drop (k+m):=O3 ..;have F:=F3 F hsl hdd;try refine sq F ?_
  refine wk F ?_;refine aq F ?_;try refine sq F ?_
  refine wk F ?_;refine hK2 _ _ _ (G9 ⟨k+m,v+1,acc++[(c:Int)],rfl,ar,?_,?_,by omega,by simp;omega,by rw[← hp];simp⟩) (by omega);all_goals try exact zZz F
 ·simp only[J7]at c1;rw[jE s k (by omega),J3]at hp;refine wk F ?_;refine ee hQ F ?_;rw[← hp];exact P3 (Frz.runes (H5 _) (by simp[getRow];rfl) rfl) ⟨rfl,rfl⟩
theorem qO(c:Int)(h:Heap):Sat (CT G) 144 [.int .i32 c] h (fun r h'=>r=.bool (blankR c)∧h'=h):=by
 have yes:(c=9∨c=10∨c=13∨c=32∨c=160∨c=8232∨c=8233∨c=12288)→blankR c=true:=fun h=>G8 h
 have no:¬(c=9∨c=10∨c=13∨c=32∨c=160∨c=8232∨c=8233∨c=12288)→blankR c=false:=fun h=>G7 h
 refine sb [.tmp 2] Tryz.func144 ?_;intro Q hQ;refine wk trivial ?_;(first|refine gq trivial (fun g0=>?_) (fun g0=>?_)|refine pq trivial (fun g0=>?_) (fun g0=>?_))<;>(try exact g0.elim)<;>(try refine sq trivial ?_)<;>(refine wk trivial ?_)
 ·refine ee hQ trivial ?_;refine fR (.bool _) ?_;rw[yes (by omega)]
 ·(first|refine gq trivial (fun g1=>?_) (fun g1=>?_)|refine pq trivial (fun g1=>?_) (fun g1=>?_))<;>(try exact g1.elim)<;>(try refine sq trivial ?_)<;>(refine wk trivial ?_)
  ·refine ee hQ trivial ?_;refine fR (.bool _) ?_;rw[yes (by omega)]
  ·(first|refine gq trivial (fun g2=>?_) (fun g2=>?_)|refine pq trivial (fun g2=>?_) (fun g2=>?_))<;>(try exact g2.elim)<;>(try refine sq trivial ?_)<;>(refine wk trivial ?_)
   ·refine ee hQ trivial ?_;refine fR (.bool _) ?_;rw[yes (by omega)]
   ·(first|refine gq trivial (fun g3=>?_) (fun g3=>?_)|refine pq trivial (fun g3=>?_) (fun g3=>?_))<;>(try exact g3.elim)<;>(try refine sq trivial ?_)<;>(refine wk trivial ?_)
    ·refine ee hQ trivial ?_;refine fR (.bool _) ?_;rw[yes (by omega)]
    ·(first|refine gq trivial (fun g4=>?_) (fun g4=>?_)|refine pq trivial (fun g4=>?_) (fun g4=>?_))<;>(try exact g4.elim)<;>(try refine sq trivial ?_)<;>(refine wk trivial ?_)
     ·refine ee hQ trivial ?_;refine fR (.bool _) ?_;rw[yes (by omega)]
     ·(first|refine gq trivial (fun g5=>?_) (fun g5=>?_)|refine pq trivial (fun g5=>?_) (fun g5=>?_))<;>(try exact g5.elim)<;>(try refine sq trivial ?_)<;>(refine wk trivial ?_)
      ·refine ee hQ trivial ?_;refine fR (.bool _) ?_;rw[yes (by omega)]
      ·(first|refine gq trivial (fun g6=>?_) (fun g6=>?_)|refine pq trivial (fun g6=>?_) (fun g6=>?_))<;>(try exact g6.elim)<;>(try refine sq trivial ?_)<;>(refine wk trivial ?_)
       ·refine ee hQ trivial ?_;refine fR (.bool _) ?_;rw[yes (by omega)]
       ·refine ee hQ trivial ?_;refine fR (.bool _) ?_;congr 1
        rw[N8];by_cases h8:c=12288
        ·rw[yes (by omega)];simp[h8]
        ·rw[no (by omega)];simp[h8]
theorem vk(s:Bs)(n:Nat)(hs:s.length≤1048576)(hn:n≤1048576)(h:Heap):Sat (CT G) 239 [.str s,.int .i64 n] h (fun r h'=>r=.str (cutF s n)∧h'=h):=by
 refine sb [.tmp 4] Tryz.func239 ?_;intro Q hQ;(repeat (first|refine w1 (fun K hK=>?_)|refine w2 ?_|refine w3 ?_| ((first|refine w4 ?_|refine wD ?_|refine w5 ?_|refine w6 ?_|refine w7 ?_);try refine sq trivial ?_)| (refine w8 ?_;refine sq trivial ?_;refine w9 ?_)| ((first|refine hK _ _ (w0 ?_)| (clear hK K;refine hK _ _ (w0 ?_))| (clear hK K;clear hK K;refine hK _ _ (w0 ?_)));clear hK K)))
 have tail:∀(t':Env) (k:Nat),t' 0=.str s→t' 5=.int .i64 k→k≤s.length→k=cutN s.length s n→K t' h:=by
  intro t' k e0 e5 hk hx;refine hK _ _ (G9 ?_);clear hK K;have F:=F2 e0 e5;(repeat (first|refine w1 (fun K hK=>?_)|refine w2 ?_|refine w3 ?_| ((first|refine w4 ?_|refine wD ?_|refine w5 ?_|refine w6 ?_|refine w7 ?_);try refine sq F ?_)| (refine w8 ?_;refine sq F ?_;refine w9 ?_)| ((first|refine hK _ _ (w0 ?_)| (clear hK K;refine hK _ _ (w0 ?_))| (clear hK K;clear hK K;refine hK _ _ (w0 ?_)));clear hK K)))
  refine ee hQ F ?_;refine fR (.str _) ?_;unfold cutF;rw[← hx]
 refine lm (fun nL tL hL=>∃(k:Nat),s.length-k=nL∧h=hL∧tL 5=.int .i64 k∧(k≤s.length∧k≤n)∧k+cutA s k (n-k)=cutN s.length s n) ((fun(k:Nat)=>(s.length-k:Nat)) (0)) ?_ ?_
 ·refine G9 ⟨0,rfl,ar,?_,⟨by omega,by omega⟩,by unfold cutA;simp⟩;all_goals try exact zZz trivial
 rintro _ s2 h' ⟨k,rfl,rfl,e5,hk,hc⟩ K2 hK2;simp only[ai,ak,Nat.reduceEqDiff, ↓reduceIte]at e5;have F:=e5;(repeat (first|refine w1 (fun K hK=>?_)|refine w2 ?_|refine w3 ?_| ((first|refine w4 ?_|refine wD ?_|refine w5 ?_|refine w6 ?_|refine w7 ?_);try refine sq F ?_)| (refine w8 ?_;refine sq F ?_;refine w9 ?_)| ((first|refine hK _ _ (w0 ?_)| (clear hK K;refine hK _ _ (w0 ?_))| (clear hK K;clear hK K;refine hK _ _ (w0 ?_)));clear hK K)))
 refine cq F (fun c1=>?_) (fun c1=>?_)<;>(try exact c1.elim)<;>((repeat (first|refine w1 (fun K hK=>?_)|refine w2 ?_|refine w3 ?_| ((first|refine w4 ?_|refine wD ?_|refine w5 ?_|refine w6 ?_|refine w7 ?_);try refine sq F ?_)| (refine w8 ?_;refine sq F ?_;refine w9 ?_)| ((first|refine hK _ _ (w0 ?_)| (clear hK K;refine hK _ _ (w0 ?_))| (clear hK K;clear hK K;refine hK _ _ (w0 ?_)));clear hK K))))
 ·have hp2:=bg s k c1;have hca:=iB s k (n-k) c1;have hne:s.drop k≠ []:=by intro e;have:=J2 List.length e;simp at this;omega
  refine(lK G (s.drop k) hne (by simp;omega) _).mono ?_;rintro r h' ⟨rfl,rfl⟩;rw[← dB];generalize dec s k=d at*;obtain⟨c,m⟩:=d;simp only[]at hp2 hca ⊢;rw[hca]at hc;try refine sq F ?_
  (repeat (first|refine w1 (fun K hK=>?_)|refine w2 ?_|refine w3 ?_| ((first|refine w4 ?_|refine wD ?_|refine w5 ?_|refine w6 ?_|refine w7 ?_);try refine sq F ?_)| (refine w8 ?_;refine sq F ?_;refine w9 ?_)| ((first|refine hK _ _ (w0 ?_)| (clear hK K;refine hK _ _ (w0 ?_))| (clear hK K;clear hK K;refine hK _ _ (w0 ?_)));clear hK K)))
  refine cq F (fun c2=>?_) (fun c2=>?_)<;>(try exact c2.elim)<;>((repeat (first|refine w1 (fun K hK=>?_)|refine w2 ?_|refine w3 ?_| ((first|refine w4 ?_|refine wD ?_|refine w5 ?_|refine w6 ?_|refine w7 ?_);try refine sq F ?_)| (refine w8 ?_;refine sq F ?_;refine w9 ?_)| ((first|refine hK _ _ (w0 ?_)| (clear hK K;refine hK _ _ (w0 ?_))| (clear hK K;clear hK K;refine hK _ _ (w0 ?_)));clear hK K))))
  ·rw[G3 (by omega)]at hc;refine tail _ k ?_ ?_ hk.1 (by omega)
   ·exact zq F
   ·exact zq F
  ·rw[G0 (by omega)]at hc;refine hK2 _ _ _ (G9 ⟨k+m,rfl,ar,?_,⟨by omega,by omega⟩,by rw[← hc,show n-(k+m)=n-k-m by omega];omega⟩) (by omega);all_goals try exact zZz F
 ·rw[eX s k (n-k) (by omega)]at hc;refine tail _ k ?_ ?_ hk.1 (by omega)
  ·exact zq F
  ·exact zq F
end
end Go.Av
