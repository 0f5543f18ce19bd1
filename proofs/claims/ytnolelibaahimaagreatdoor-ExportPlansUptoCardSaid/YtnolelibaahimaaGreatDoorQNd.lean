/- Parts. -/
import Derived.Test.YtnolelibaahimaaGreatDoorQCj
import Derived.Shelf.SlMaps.Clone
import Derived.Ground.SlmcProg
set_option linter.unusedSimpArgs false
set_option linter.unusedVariables false
set_option linter.unusedSectionVars false
set_option linter.unnecessarySimpa false
set_option maxRecDepth 100000
set_option maxHeartbeats 16000000
namespace Go.Av
open Go Go.Proofs Go.RowKit
attribute [local irreducible] WP WPl WPix Sat
variable (G:Nat→Option (List AVal))
theorem fu(h:Heap):Sat (CT G) 83 [.sl 1 []] h (fun r h'=>(r=.ez∨r=.nil (.slice none 0 0))∧h'=h):=by
 refine sb [.tmp 2] Tryz.func83 ?_;intro Q hQ;refine wk trivial ?_;refine jl _ (by exact zq trivial) (.inl rfl) fun b=>?_
 cases b
 ·try refine sq trivial ?_
  refine wk trivial ?_;refine fC (.inl rfl) (by simp(disch:=first|omega| (simp only[go_sem, ↓reduceIte,seval];first|done|omega)|fail) only[go_sem, ↓reduceIte,seval];rfl) (by simp(disch:=first|omega| (simp only[go_sem, ↓reduceIte,seval];first|done|omega)|fail) only[go_sem, ↓reduceIte,seval];rfl) (by simp(disch:=first|omega| (simp only[go_sem, ↓reduceIte,seval];first|done|omega)|fail) only[go_sem, ↓reduceIte,seval];rfl) (by simp(disch:=first|omega| (simp only[go_sem, ↓reduceIte,seval];first|done|omega)|fail) only[go_sem, ↓reduceIte,seval];try rfl) (by omega) (by simp only[elemsOf, ↓reduceIte];try rfl) (by simp) (fun _=>?_) (fun h=>absurd rfl h);try refine sq trivial ?_
  refine wk trivial ?_;refine ee hQ trivial ?_;exact M8 .ez ⟨.inl rfl,rfl⟩
 ·try refine sq trivial ?_
  refine wk trivial ?_;refine ee hQ trivial ?_;exact M8 (.nil _) ⟨.inr rfl,rfl⟩
theorem qn(l:List Bs)(hn:l≠ [])(hl:l.length≤1048576)(h:Heap):Sat (CT G) 83 [.sl 1 (l.map .str)] h (fun r h'=>r=.hs h.length 0 0 l.length true∧h'=h++[Blk.row 9 1 0 (l.map .str)]):=by
 obtain⟨a,l,rfl⟩:∃a k,l=a::k:=by
  cases l with
  |nil=>exact absurd rfl hn
  |cons a k=>exact⟨a,k,rfl⟩
 have hr:(List.map AVal.str (a::l))≠ []:=by simp
 refine sb [.tmp 2] Tryz.func83 ?_;intro Q hQ;refine wk trivial ?_;refine fC (.inl rfl) (by simp(disch:=first|omega| (simp only[go_sem, ↓reduceIte,seval];first|done|omega)|fail) only[go_sem, ↓reduceIte,seval];rfl) (by simp(disch:=first|omega| (simp only[go_sem, ↓reduceIte,seval];first|done|omega)|fail) only[go_sem, ↓reduceIte,seval];rfl) (by simp(disch:=first|omega| (simp only[go_sem, ↓reduceIte,seval];first|done|omega)|fail) only[go_sem, ↓reduceIte,seval];rfl) (by simp(disch:=first|omega| (simp only[go_sem, ↓reduceIte,seval];first|done|omega)|fail) only[go_sem, ↓reduceIte,seval];try rfl) (by omega) (by simp only[elemsOf, ↓reduceIte];try rfl) ?_ (fun h=>by simp at h) (fun _=>?_)
 ·simp[maxLen]at hl ⊢;omega
 try refine sq trivial ?_
 refine wk trivial ?_;refine ee hQ trivial ?_;exact X8 (by simp) (.hs _ _ _ _ _ (by simp)) ⟨rfl,rfl⟩
section
variable {H:Heap} {n:Nat} {s:PS}
theorem qo(hn:n+9≤H.length)(x:Blk)(a:AVal)(ha:a=.ez∨a=.nil (.slice none 0 0))(t:Bs):Sat (CT G) 84 [a,.int .i64 0,.hs (H.length+1) 0 0 1 true] (so (H++[x,Blk.row 9 1 0 [.str t]]) n s)
  (fun r h'=>r=.sl 1 [.str t]∧h'=so (H++[x,.dead]) n s):=by
 have c:=nZ G a ha t 0 true (so (H++[x]) n s);have hn1:n+9≤(H++[x]).length:=by simp;omega
 rw[aP hn1,bv hn1,bv hn1]at c;simpa using c
theorem sf(hn:n+9≤H.length)(x:Blk)(l:List Bs)(t:Bs)(hl0:l≠ [])(hl:l.length≤100000):Sat (CT G) 84 [.hs (H.length+1) 0 0 l.length true,.int .i64 (lbF l t),.hs (H.length+2) 0 0 1 true] (so (H++[x,Blk.row 9 1 0 (l.map .str),Blk.row 9 1 0 [.str t]]) n s)
  (fun r h'=>r=.sl 1 ((l.take (lbF l t)++t::l.drop (lbF l t)).map .str)∧h'=so (H++[x,.dead,Blk.row 9 1 0 [.str t]]) n s):=by
 have c:=qk G l t (lbF l t) 0 0 true (mL l t) hl0 hl (so (H++[x]) n s);have hn1:n+9≤(H++[x]).length:=by simp;omega
 rw[aP hn1,bv hn1,bv hn1]at c;simpa using c
theorem sg(hn:n+9≤H.length)(x:Blk)(l:List Bs)(i:Nat)(hi:i<l.length)(hl:l.length≤100000):Sat (CT G) 85 [.hs (H.length+1) 0 0 l.length true,.int .i64 i,.int .i64 (i+1)] (so (H++[x,Blk.row 9 1 0 (l.map .str)]) n s)
  (fun r h'=>r=.sl 1 ((l.take i++l.drop (i+1)).map .str)∧h'=so (H++[x,.dead]) n s):=by
 have c:=qm G l i 0 hi hl (so (H++[x]) n s);have hn1:n+9≤(H++[x]).length:=by simp;omega
 rw[aP hn1,bv hn1,bv hn1]at c;simpa using c
theorem bT{s':PS}{j:Heap}{R:AVal→Heap→Prop}{r0 r:AVal}(hn:n+9≤H.length)(hz:Frz (so (H++j) n s') H.length r0 r)(hR:R r (so H n s')):Fin (so H n s) (so (H++j) n s') R r0:=fI hn rfl (PS.clo hn s') hz hR
theorem jI(hn:n+9≤H.length)(x:Blk)(l:List Bs):Frz (so (H++[x,Blk.row 9 1 0 (l.map .str)]) n s) H.length (.hs (H.length+1) 0 0 l.length true) (.sl 1 (l.map .str)):=by
 have hg:getRow (so (H++[x,Blk.row 9 1 0 (l.map .str)]) n s) (H.length+1) 0=some (9,1,l.map .str):=by
  rw[bG (by simp;omega) 0 (by omega)];simp[getRow]
 have:=W3 (n:=H.length) (len:=l.length) (room:=true) (by omega) hg (by simp) (fun r hr=>by obtain⟨a,_,rfl⟩:=J5.1 hr;exact .str _) (fun r hr c hc=>by obtain⟨a,_,rfl⟩:=J5.1 hr;simp[AVal.cells]at hc;subst hc;rfl);simpa using this
theorem cT(hn:n+9≤H.length)(x:Blk)(l:List Bs)(hl0:l≠ [])(hl:l.length≤1048576):Sat (CT G) 83 [.sl 1 (l.map .str)] (so (H++[x]) n s)
  (fun r h'=>r=.hs (H.length+1) 0 0 l.length true∧h'=so (H++[x,Blk.row 9 1 0 (l.map .str)]) n s):=by
 have c:=qn G l hl0 hl (so (H++[x]) n s);have hn1:n+9≤(H++[x]).length:=by simp;omega
 rw[aP hn1,bv hn1]at c;simpa using c
end
theorem lh(s:PS)(id:Int)(t:Bs)(hs:Srt ((lkM s.it id).getD It.z).tags)(hl:((lkM s.it id).getD It.z).tags.length≤100000){H:Heap}{n:Nat}(hn:n+9≤H.length):Sat (CT G) 82 [.hp (n+8) 0 0 0,.int .i64 id,.str t] (so H n s) (fun r h'=>r=.tup [.int .i64 (lbF ((lkM s.it id).getD It.z).tags t),.bool (decide (t∈ ((lkM s.it id).getD It.z).tags))]∧h'=so H n s):=by
 refine sb [.tmp 6,.tmp 7] Tryz.func82 ?_;intro Q hQ;refine wk trivial ?_;refine kq trivial (lG G _ t hs hl _) ?_;refine ye hQ trivial ?_;exact br hn (.tup _ (fun x hx=>by simp only[K4,P8,or_false]at hx;rcases hx with rfl|rfl;exact .int _ _;exact .bool _)) ⟨rfl,rfl⟩
def tgF(l:List Bs)(t:Bs)(n:Int):List Bs:=
 if n=1∧t ∉ l then l.take (lbF l t)++t::l.drop (lbF l t)else if n=0∧t∈l then l.take (lbF l t)++l.drop (lbF l t+1)else l
theorem mM(s:PS)(e:Ev)(hs:Srt ((lkM s.it e.a).getD It.z).tags)(hl:((lkM s.it e.a).getD It.z).tags.length≤100000){H:Heap}{n:Nat}(hn:n+9≤H.length):Sat (CT G) 41 [.hp (n+8) 0 0 0,e.av] (so H n s) (fun r h'=>r=.sl 1 ((tgF ((lkM s.it e.a).getD It.z).tags e.s e.n).map .str)∧h'=so H n s):=by
 have hT:=fun(H:Heap) (hn:n+9≤H.length)=>lh G s e.a e.s hs hl (n:=n) hn
 have hn1:∀x:Blk,n+9≤(H++[x]).length:=fun x=>by simp;omega
 generalize hg:((lkM s.it e.a).getD It.z).tags=l at hs hl hT ⊢;by_cases hn0:l=[]
 ·subst hn0;have ht:lbF [] e.s=0:=rfl;have hd:decide (e.s∈ ([]:List Bs))=false:=by simp
  rw[ht,hd]at hT;by_cases k1:e.n=1
  ·have F:=k1
   skip
   refine sb [.tmp 4] Tryz.func41 ?_;intro Q hQ;refine wn F ?_;refine bN 8 0 _ (by rfl) (by decide+kernel) (by kernel_rfl) (by decide+kernel) (by decide+kernel) (by decide+kernel) ?_;simp only[N0,O6];refine sq F ?_;refine wn F ?_;rw[hg];refine(fu G _).mono ?_;rintro r h' ⟨hr,rfl⟩;simp(disch:=first|omega| (simp only[go_sem, ↓reduceIte,seval];first|done|omega)|fail) only[go_sem, ↓reduceIte,seval,F]
   skip
   refine wk F ?_
   skip
   refine kx F (hT _ (by first|omega| (simp;omega))) ?_;refine kx F (qo G hn _ r hr e.s) ?_
   skip
   refine ee hQ F ?_;exact au hn (.sl _ _ (by simp;exact .str _)) ⟨by simp[tgF,k1],rfl⟩
  ·by_cases k0:e.n=0
   ·have F:=k0
    skip
    refine sb [.tmp 4] Tryz.func41 ?_;intro Q hQ;refine wn F ?_;refine bN 8 0 _ (by rfl) (by decide+kernel) (by kernel_rfl) (by decide+kernel) (by decide+kernel) (by decide+kernel) ?_;simp only[N0,O6];refine sq F ?_;refine wn F ?_;rw[hg];refine(fu G _).mono ?_;rintro r h' ⟨hr,rfl⟩;simp(disch:=first|omega| (simp only[go_sem, ↓reduceIte,seval];first|done|omega)|fail) only[go_sem, ↓reduceIte,seval,F]
    skip
    refine wk F ?_;refine kq F (hT _ (by first|omega| (simp;omega))) ?_;refine ee hQ F ?_;refine bT (r:=.sl 1 []) hn ?_ ⟨by simp[tgF,k0,k1],rfl⟩;rcases hr with rfl|rfl
    ·exact .ezs _
    ·exact .nils _
   ·have n1:(e.n==1)=false:=(by simp[k1]);have n0:(e.n==0)=false:=(by simp[k0]);have F:=F2 n1 n0
    skip
    refine sb [.tmp 4] Tryz.func41 ?_;intro Q hQ;refine wn F ?_;refine bN 8 0 _ (by rfl) (by decide+kernel) (by kernel_rfl) (by decide+kernel) (by decide+kernel) (by decide+kernel) ?_;simp only[N0,O6];refine sq F ?_;refine wn F ?_;rw[hg];refine(fu G _).mono ?_;rintro r h' ⟨hr,rfl⟩;simp(disch:=first|omega| (simp only[go_sem, ↓reduceIte,seval];first|done|omega)|fail) only[go_sem, ↓reduceIte,seval,F]
    skip
    refine wk F ?_;refine kq F (hT _ (by first|omega| (simp;omega))) ?_;refine ee hQ F ?_;refine bT (r:=.sl 1 []) hn ?_ ⟨by simp[tgF,k0,k1],rfl⟩;rcases hr with rfl|rfl
    ·exact .ezs _
    ·exact .nils _
 ·by_cases km:e.s∈l
  ·have hd:decide (e.s∈l)=true:=(by simp[km]);rw[hd]at hT;have hlt:lbF l e.s<l.length:=(f9.1 (oL hs km)).1;by_cases k0:e.n=0
   ·have F:=k0
    skip
    refine sb [.tmp 4] Tryz.func41 ?_;intro Q hQ;refine wn F ?_;refine bN 8 0 _ (by rfl) (by decide+kernel) (by kernel_rfl) (by decide+kernel) (by decide+kernel) (by decide+kernel) ?_;simp only[N0,O6];refine sq F ?_;refine wn F ?_;rw[hg];refine(cT G hn _ l hn0 (by omega)).mono ?_;rintro r h' ⟨rfl,rfl⟩;try refine sq F ?_
    skip
    refine wk F ?_;refine kq F (hT _ (by first|omega| (simp;omega))) ?_;refine kq F (sg G hn _ l (lbF l e.s) hlt hl) ?_;refine ee hQ F ?_;exact au hn (j1 _ _) ⟨by simp[tgF,k0,km],rfl⟩
   ·by_cases k1:e.n=1
    ·have F:=k1
     skip
     refine sb [.tmp 4] Tryz.func41 ?_;intro Q hQ;refine wn F ?_;refine bN 8 0 _ (by rfl) (by decide+kernel) (by kernel_rfl) (by decide+kernel) (by decide+kernel) (by decide+kernel) ?_;simp only[N0,O6];refine sq F ?_;refine wn F ?_;rw[hg];refine(cT G hn _ l hn0 (by omega)).mono ?_;rintro r h' ⟨rfl,rfl⟩;try refine sq F ?_
     skip
     refine wk F ?_;refine kq F (hT _ (by first|omega| (simp;omega))) ?_;refine ee hQ F ?_;exact bT hn (jI hn _ l) ⟨by simp[tgF,k1,km],rfl⟩
    ·have n1:(e.n==1)=false:=(by simp[k1]);have n0:(e.n==0)=false:=(by simp[k0]);have F:=F2 n1 n0
     skip
     refine sb [.tmp 4] Tryz.func41 ?_;intro Q hQ;refine wn F ?_;refine bN 8 0 _ (by rfl) (by decide+kernel) (by kernel_rfl) (by decide+kernel) (by decide+kernel) (by decide+kernel) ?_;simp only[N0,O6];refine sq F ?_;refine wn F ?_;rw[hg];refine(cT G hn _ l hn0 (by omega)).mono ?_;rintro r h' ⟨rfl,rfl⟩;try refine sq F ?_
     skip
     refine wk F ?_;refine kq F (hT _ (by first|omega| (simp;omega))) ?_;refine ee hQ F ?_;exact bT hn (jI hn _ l) ⟨by simp[tgF,k1,k0,km],rfl⟩
  ·have hd:decide (e.s∈l)=false:=(by simp[km]);rw[hd]at hT;by_cases k1:e.n=1
   ·have F:=k1
    skip
    refine sb [.tmp 4] Tryz.func41 ?_;intro Q hQ;refine wn F ?_;refine bN 8 0 _ (by rfl) (by decide+kernel) (by kernel_rfl) (by decide+kernel) (by decide+kernel) (by decide+kernel) ?_;simp only[N0,O6];refine sq F ?_;refine wn F ?_;rw[hg];refine(cT G hn _ l hn0 (by omega)).mono ?_;rintro r h' ⟨rfl,rfl⟩;try refine sq F ?_
    skip
    refine wk F ?_
    skip
    refine kx F (hT _ (by first|omega| (simp;omega))) ?_;refine kx F (sf G hn _ l e.s hn0 hl) ?_
    skip
    refine ee hQ F ?_;exact au hn (j1 _ _) ⟨by simp[tgF,k1,km],rfl⟩
   ·by_cases k0:e.n=0
    ·have F:=k0
     skip
     refine sb [.tmp 4] Tryz.func41 ?_;intro Q hQ;refine wn F ?_;refine bN 8 0 _ (by rfl) (by decide+kernel) (by kernel_rfl) (by decide+kernel) (by decide+kernel) (by decide+kernel) ?_;simp only[N0,O6];refine sq F ?_;refine wn F ?_;rw[hg];refine(cT G hn _ l hn0 (by omega)).mono ?_;rintro r h' ⟨rfl,rfl⟩;try refine sq F ?_
     skip
     refine wk F ?_;refine kq F (hT _ (by first|omega| (simp;omega))) ?_;refine ee hQ F ?_;exact bT hn (jI hn _ l) ⟨by simp[tgF,k0,km],rfl⟩
    ·have n1:(e.n==1)=false:=(by simp[k1]);have n0:(e.n==0)=false:=(by simp[k0]);have F:=F2 n1 n0
     skip
     refine sb [.tmp 4] Tryz.func41 ?_;intro Q hQ;refine wn F ?_;refine bN 8 0 _ (by rfl) (by decide+kernel) (by kernel_rfl) (by decide+kernel) (by decide+kernel) (by decide+kernel) ?_;simp only[N0,O6];refine sq F ?_;refine wn F ?_;rw[hg];refine(cT G hn _ l hn0 (by omega)).mono ?_;rintro r h' ⟨rfl,rfl⟩;try refine sq F ?_
     skip
     refine wk F ?_;refine kq F (hT _ (by first|omega| (simp;omega))) ?_;refine ee hQ F ?_;exact bT hn (jI hn _ l) ⟨by simp[tgF,k1,k0,km],rfl⟩
theorem xB(h:Heap)(s:PS):h++s.bl h.length=so (h++PS.z.bl h.length) h.length s:=by
 have:=rO h (s.bl h.length) [];rw[M4]at this;rw[this];unfold so;have hz:ov (h++PS.z.bl h.length) h.length (PS.z.bl h.length)=h++PS.z.bl h.length:=by
  have:=rO h (PS.z.bl h.length) [];rw[M4]at this;exact this.symm
 apply P9
 intro p;rw[bu (by simp),bu (by simp[PS.bl])];split
 ·rfl
 ·rename_i hp;rcases R1 p h.length with h1|h1
  ·rw[I8 h1,I8 h1]
  ·rw[J1 h1,J1 h1,N5 (by simp[PS.bl]at hp ⊢;omega),N5 (by simp[PS.bl]at hp ⊢;omega)]
@[go_sem] theorem DV(p:Nat):(AVal.hm p).cells=[.hm p]:=(rfl)
@[go_sem] theorem GD(p:Nat):(AVal.hm p).lies=true:=(rfl)
theorem li(h:Heap):Sat (CT G) 30 [] h (fun r h'=>r=.hp (h.length+8) 0 0 0∧h'=so (h++PS.z.bl h.length) h.length PS.z):=by
 rw[← xB];refine sb [.tmp 0] Tryz.func30 ?_;intro Q hQ;refine wk trivial ?_;refine ee hQ trivial ?_;refine X8 (by simp) (.hp _ _ _ _ (by simp)) ⟨rfl,?_⟩;simp[PS.bl,PS.z,encM,PS.row]
theorem qp(es:List Ev)(hl:es.length≤1048576)(I:PS→Prop)(okF:PS→Ev→Bool)(stp:PS→Ev→PS)(hI0:I PS.z)(hI:∀s e,e∈es→I s→I (stp s e))
  (hA:∀s e,e∈es→I s→∀(n:Nat) (H:Heap),n+9≤H.length→Sat (CT G) 13 [.hp (n+8) 0 0 0,e.av] (so H n s) (fun r h'=>r=.bool (okF s e)∧h'=so H n (stp s e)))(h:Heap):
  Sat (CT G) 11 [.sl 7 (es.map Ev.av)] h (fun r h'=>r=.hp (h.length+8) 0 0 0∧h'=so (h++PS.z.bl h.length) h.length (es.foldl stp PS.z)):=by
 have hIk:∀k,I ((es.take k).foldl stp PS.z):=by
  intro k;induction k with
  |zero=>exact hI0
  |succ k ih=>
   rw[N1,List.foldl_append];cases he:es[k]? with
   |none=>exact ih
   |some e=>exact hI _ _ (J4 he) ih
 have hz9:(PS.z.bl h.length).length=9:=rfl;generalize hH:h++PS.z.bl h.length=H0;have hl0:h.length+9≤H0.length:=by rw[← hH];simp[hz9]
 have hN:=li G h;rw[hH]at hN;refine sb [.tmp 2] Tryz.func11 ?_;intro Q hQ;refine wk trivial ?_;refine kq trivial (hN) ?_;refine lm (fun nL tL hL=>∃(k:Nat) (j:Heap),es.length-k=nL∧so (H0++j) h.length ((es.take k).foldl stp PS.z)=hL∧tL 3=.hp (h.length+8) 0 0 0∧tL 7=.sl 7 (es.map Ev.av)∧tL 8=.int .i64 es.length∧tL 9=.int .i64 k∧k≤es.length) ((fun(k:Nat) (j:Heap)=>(es.length-k:Nat)) (0) ([])) ?_ ?_
 ·refine I9 ⟨0,[],rfl,aw,?_,?_,?_,?_,by omega⟩;all_goals try exact zZz trivial
 rintro _ s2 h' ⟨k,j,rfl,rfl,e3,e7,e8,e9,hk⟩ K2 hK2;simp only[ah,ao,Nat.reduceEqDiff, ↓reduceIte]at e3 e7 e8 e9;have F:=F4 e3 e7 e8 e9;refine wk F ?_;have hn1:h.length+9≤(H0++j).length:=by simp;omega
 refine cq F (fun c1=>?_) (fun c1=>?_)<;>(try exact c1.elim)<;>(refine wk F ?_)
 ·have c2:k<es.length:=by omega
  obtain⟨e,he⟩:∃e,es[k]? =some e:=⟨es[k],I2 c2⟩;have hem:=J4 he;have F:=F3 F c2 he;try refine sq F ?_
  refine wk F ?_;refine kq F (hA _ e hem (hIk k) _ _ (by first|omega| (simp;omega))) ?_;have ht:(es.take (k+1)).foldl stp PS.z=stp ((es.take k).foldl stp PS.z) e:=by rw[N1,List.foldl_append,he];rfl
  refine hK2 _ _ _ (I9 ⟨k+1,j++[.row 34 7 0 [e.av]],rfl,by rw[ht];rfl,?_,?_,?_,?_,by omega⟩) (by omega);all_goals try exact zZz F
 ·have hk2:k=es.length:=by omega
  subst hk2;have htk:es.take es.length=es:=V6;rw[htk];refine wk F ?_;refine ee hQ F ?_;rw[← bv hl0];refine Fin.upto (by rw[aP hl0];omega) ?_ (.hp _ _ _ _ (by rw[aP hl0];omega)) ⟨rfl,rfl⟩;rw[aP hl0];have:=xB h (es.foldl stp PS.z);rw[hH]at this;rw[← this];exact(KeepC.refl h _).app (PS.clo hl0 _)
def setL:List AVal:=(List.range 256).map fun i:Nat=>.bool (blankP (i:Int))
def setR:Blk:=.row 286 256 0 [.agg setL]
@[go_sem] theorem yR(l:Heap):getRow (setR::l) 0 0=some (286,256,[.agg setL]):=rfl
variable {H:Heap} {n0 pb po vo pd vd:Nat} {room:Bool} {os:List OE} {ds:List Elem}
end Go.Av
namespace Go.Av
open Go Go.Proofs Go.RowKit
attribute [local irreducible] WP WPl WPix Sat
variable (G:Nat→Option (List AVal))
variable {H:Heap} {n0 pb po vo pd vd:Nat} {room:Bool} {os:List OE} {ds:List Elem}
end Go.Av
namespace Go.Av
open Go Go.Proofs Go.RowKit
attribute [local irreducible] WP WPl WPix Sat
variable {H:Heap} {n0 pb po vo pd vd:Nat} {ds:List Elem}
end Go.Av
namespace Go.Av
open Go Go.Proofs Go.RowKit
attribute [local irreducible] WP WPl WPix Sat
variable (G:Nat→Option (List AVal))
variable {H:Heap} {n0 pb po vo pd vd:Nat} {room:Bool} {os:List OE} {ds:List Elem}
end Go.Av
namespace Go.Av
open Go Go.Proofs Go.RowKit
attribute [local irreducible] WP WPl WPix Sat
variable (G:Nat→Option (List AVal))
variable {H:Heap} {n0 pb po vo pd vd:Nat} {room:Bool} {os:List OE} {ds:List Elem}
end Go.Av
namespace Go.Av
open Go Go.Proofs Go.RowKit
attribute [local irreducible] WP WPl WPix Sat
variable (G:Nat→Option (List AVal)) {H:Heap} {n0 pb po vo pd vd:Nat} {room:Bool} {os:List OE} {ds:List Elem}
end Go.Av
namespace Go.Av
open Go Go.Proofs Go.RowKit
attribute [local irreducible] WP WPl WPix Sat
variable (G:Nat→Option (List AVal)) {H:Heap} {n0 pb po vo pd vd:Nat} {room:Bool} {os:List OE} {ds:List Elem}
end Go.Av
namespace Go.Proofs
open Go.Shelf
def Tryz.mcl71_ren:Go.Shelf.Ren:=⟨fun|5=>71|7=>113|n=>n,fun|23=>73|25=>3|3=>44|4=>4|20=>20|n=>n,fun|n=>n⟩
theorem Tryz.mcl71:Go.Proofs.SlLaysW.n5 Tryz.prog Tryz.mcl71_ren:= {
 mixed:=by kernel_rfl
 f5:=⟨Tryz.f71.name,by decide,Tryz.func71.trans (K9 some (by kernel_rfl))⟩
 f7:=Tryz.func113.trans (K9 some (by kernel_rfl))
 t4:=Tryz.underlying4
 a4:=Tryz.isAgg4
 z4:=Tryz.sizeOf4
 v4:=Tryz.zeroValue4
 t20:=Tryz.underlying20
 a20:=Tryz.isAgg20
 z20:=Tryz.sizeOf20
 v20:=Tryz.zeroValue20
 t23:=Tryz.underlying73
 a23:=Tryz.isAgg73
 z23:=Tryz.sizeOf73
 v23:=Tryz.zeroValue73}
def Tryz.mcl72_ren:Go.Shelf.Ren:=⟨fun|5=>72|7=>113|n=>n,fun|23=>74|25=>3|3=>48|4=>4|20=>20|n=>n,fun|n=>n⟩
theorem Tryz.mcl72:Go.Proofs.SlLaysW.n5 Tryz.prog Tryz.mcl72_ren:= {
 mixed:=by kernel_rfl
 f5:=⟨Tryz.f72.name,by decide,Tryz.func72.trans (K9 some (by kernel_rfl))⟩
 f7:=Tryz.func113.trans (K9 some (by kernel_rfl))
 t4:=Tryz.underlying4
 a4:=Tryz.isAgg4
 z4:=Tryz.sizeOf4
 v4:=Tryz.zeroValue4
 t20:=Tryz.underlying20
 a20:=Tryz.isAgg20
 z20:=Tryz.sizeOf20
 v20:=Tryz.zeroValue20
 t23:=Tryz.underlying74
 a23:=Tryz.isAgg74
 z23:=Tryz.sizeOf74
 v23:=Tryz.zeroValue74}
def Tryz.mcl73_ren:Go.Shelf.Ren:=⟨fun|5=>73|7=>113|n=>n,fun|23=>75|25=>3|3=>86|4=>4|20=>20|n=>n,fun|n=>n⟩
theorem Tryz.mcl73:Go.Proofs.SlLaysW.n5 Tryz.prog Tryz.mcl73_ren:= {
 mixed:=by kernel_rfl
 f5:=⟨Tryz.f73.name,by decide,Tryz.func73.trans (K9 some (by kernel_rfl))⟩
 f7:=Tryz.func113.trans (K9 some (by kernel_rfl))
 t4:=Tryz.underlying4
 a4:=Tryz.isAgg4
 z4:=Tryz.sizeOf4
 v4:=Tryz.zeroValue4
 t20:=Tryz.underlying20
 a20:=Tryz.isAgg20
 z20:=Tryz.sizeOf20
 v20:=Tryz.zeroValue20
 t23:=Tryz.underlying75
 a23:=Tryz.isAgg75
 z23:=Tryz.sizeOf75
 v23:=Tryz.zeroValue75}
def Tryz.mcl74_ren:Go.Shelf.Ren:=⟨fun|5=>74|7=>113|n=>n,fun|23=>76|25=>3|3=>98|4=>4|20=>20|n=>n,fun|n=>n⟩
theorem Tryz.mcl74:Go.Proofs.SlLaysW.n5 Tryz.prog Tryz.mcl74_ren:= {
 mixed:=by kernel_rfl
 f5:=⟨Tryz.f74.name,by decide,Tryz.func74.trans (K9 some (by kernel_rfl))⟩
 f7:=Tryz.func113.trans (K9 some (by kernel_rfl))
 t4:=Tryz.underlying4
 a4:=Tryz.isAgg4
 z4:=Tryz.sizeOf4
 v4:=Tryz.zeroValue4
 t20:=Tryz.underlying20
 a20:=Tryz.isAgg20
 z20:=Tryz.sizeOf20
 v20:=Tryz.zeroValue20
 t23:=Tryz.underlying76
 a23:=Tryz.isAgg76
 z23:=Tryz.sizeOf76
 v23:=Tryz.zeroValue76}
def Tryz.mcl75_ren:Go.Shelf.Ren:=⟨fun|5=>75|7=>113|n=>n,fun|23=>77|25=>88|3=>3|4=>4|20=>20|n=>n,fun|n=>n⟩
theorem Tryz.mcl75:Go.Proofs.SlLaysW.n5 Tryz.prog Tryz.mcl75_ren:= {
 mixed:=by kernel_rfl
 f5:=⟨Tryz.f75.name,by decide,Tryz.func75.trans (K9 some (by kernel_rfl))⟩
 f7:=Tryz.func113.trans (K9 some (by kernel_rfl))
 t4:=Tryz.underlying4
 a4:=Tryz.isAgg4
 z4:=Tryz.sizeOf4
 v4:=Tryz.zeroValue4
 t20:=Tryz.underlying20
 a20:=Tryz.isAgg20
 z20:=Tryz.sizeOf20
 v20:=Tryz.zeroValue20
 t23:=Tryz.underlying77
 a23:=Tryz.isAgg77
 z23:=Tryz.sizeOf77
 v23:=Tryz.zeroValue77}
def Tryz.mcl76_ren:Go.Shelf.Ren:=⟨fun|5=>76|7=>113|n=>n,fun|23=>78|25=>9|3=>3|4=>4|20=>20|n=>n,fun|n=>n⟩
theorem Tryz.mcl76:Go.Proofs.SlLaysW.n5 Tryz.prog Tryz.mcl76_ren:= {
 mixed:=by kernel_rfl
 f5:=⟨Tryz.f76.name,by decide,Tryz.func76.trans (K9 some (by kernel_rfl))⟩
 f7:=Tryz.func113.trans (K9 some (by kernel_rfl))
 t4:=Tryz.underlying4
 a4:=Tryz.isAgg4
 z4:=Tryz.sizeOf4
 v4:=Tryz.zeroValue4
 t20:=Tryz.underlying20
 a20:=Tryz.isAgg20
 z20:=Tryz.sizeOf20
 v20:=Tryz.zeroValue20
 t23:=Tryz.underlying78
 a23:=Tryz.isAgg78
 z23:=Tryz.sizeOf78
 v23:=Tryz.zeroValue78}
def Tryz.mcl77_ren:Go.Shelf.Ren:=⟨fun|5=>77|7=>113|n=>n,fun|23=>79|25=>131|3=>3|4=>4|20=>20|n=>n,fun|n=>n⟩
theorem Tryz.mcl77:Go.Proofs.SlLaysW.n5 Tryz.prog Tryz.mcl77_ren:= {
 mixed:=by kernel_rfl
 f5:=⟨Tryz.f77.name,by decide,Tryz.func77.trans (K9 some (by kernel_rfl))⟩
 f7:=Tryz.func113.trans (K9 some (by kernel_rfl))
 t4:=Tryz.underlying4
 a4:=Tryz.isAgg4
 z4:=Tryz.sizeOf4
 v4:=Tryz.zeroValue4
 t20:=Tryz.underlying20
 a20:=Tryz.isAgg20
 z20:=Tryz.sizeOf20
 v20:=Tryz.zeroValue20
 t23:=Tryz.underlying79
 a23:=Tryz.isAgg79
 z23:=Tryz.sizeOf79
 v23:=Tryz.zeroValue79}
def Tryz.mcl78_ren:Go.Shelf.Ren:=⟨fun|5=>78|7=>113|n=>n,fun|23=>80|25=>3|3=>3|4=>4|20=>20|n=>n,fun|n=>n⟩
theorem Tryz.mcl78:Go.Proofs.SlLaysW.n5 Tryz.prog Tryz.mcl78_ren:= {
 mixed:=by kernel_rfl
 f5:=⟨Tryz.f78.name,by decide,Tryz.func78.trans (K9 some (by kernel_rfl))⟩
 f7:=Tryz.func113.trans (K9 some (by kernel_rfl))
 t4:=Tryz.underlying4
 a4:=Tryz.isAgg4
 z4:=Tryz.sizeOf4
 v4:=Tryz.zeroValue4
 t20:=Tryz.underlying20
 a20:=Tryz.isAgg20
 z20:=Tryz.sizeOf20
 v20:=Tryz.zeroValue20
 t23:=Tryz.underlying80
 a23:=Tryz.isAgg80
 z23:=Tryz.sizeOf80
 v23:=Tryz.zeroValue80}
end Go.Proofs
namespace Go.Av
open Go Go.Proofs Go.RowKit
section
variable {C:Ctx} {B n:Nat} {S:Addr→Prop} {μ μ2:Map} {h:Heap} {w:World}
theorem BlkFits.turn{m:MB}{k:Blk}(hk:(∃(w0:World) (S0:Addr→Prop) (μ0:Map) (m0:MB),μ0.length≤n∧BlkFits w0 S0 μ0 m0 k)∨CloB n k)(hb:BlkFits w S μ m k)(st:Step B S (μ.take n) w S μ2 w):BlkFits w S μ2 m k:=by
 have go:∀{x:AVal} {v:Value},Clo n x→Rep w S μ x v→Rep w S μ2 x v:=fun c r=>(c.rep r fun _ h=>h).mono st
 cases k with
 |iter s pos=>exact hb
 |dead=>trivial
 |df=>exact hb
 |lp l m t ps ass body s pe=>
  obtain⟨g0,g1,fn,D,tmps,g2,g3,g4⟩:=hb;refine⟨g0,g1,fn,D,tmps,g2,g3,fun i hi=>?_⟩;rcases hk with⟨_,_,_,_,hle,hold⟩|hclo
  ·obtain⟨_,_,_,_,_,_,_,k4⟩:=hold;exact go ((k4 i hi).clo.mono hle) (g4 i hi)
  ·exact go (hclo i hi) (g4 i hi)
 |mp es clock=>
  obtain⟨g0,b,cur,g1,g2,g3,g4⟩:=hb;refine⟨g0,b,cur,g1,g2,g3,fun i e he=>?_⟩;obtain⟨x,hx,r1,r2,r3⟩:=g4 i e he;rcases hk with⟨_,_,_,_,hle,hold⟩|hclo
  ·obtain⟨_,_,_,_,_,_,k4⟩:=hold;obtain⟨_,_,s1,s2,_⟩:=k4 i e he;exact⟨x,hx,go (s1.clo.mono hle) r1,go (s2.clo.mono hle) r2,r3⟩
  ·have hc:=hclo e (J4 he);exact⟨x,hx,go hc.1 r1,go hc.2 r2,r3⟩
 |mit q since seen last=>
  obtain⟨g0,b,r,g1,g2,g3⟩:=hb;refine⟨g0,b,r,g1,?_,g3⟩;rcases hk with⟨_,_,_,_,hle,hold⟩|hclo
  ·obtain⟨_,_,_,_,s2,_⟩:=hold;exact go (s2.clo.mono hle) g2
  ·exact go (Clo.hm q hclo) g2
 |row e sz ver rows=>
  refine⟨hb.hver,hb.hsize,hb.pos,hb.lens,hb.sto,?_⟩;rcases hb.lies with hl| ⟨b,cur,g1,g2,g3,g4,g5,g6⟩
  ·exact .inl hl
  ·refine .inr ⟨b,cur,g1,g2,g3,g4,g5,fun i r j c hi hj=>?_⟩;obtain⟨x,hx,hr⟩:=g6 i r j c hi hj;refine⟨x,hx,?_⟩;rcases hk with⟨_,_,_,_,hle,hold⟩|hclo
   ·rcases RowFits.lies hold with⟨_,h0⟩| ⟨_,_,_,_,_,_,_,k6⟩
    ·rw[h0]at hi;cases hi
    ·obtain⟨_,_,hr0⟩:=k6 i r j c hi hj;exact go (hr0.clo.mono hle) hr
   ·exact go ((hclo r (J4 hi)).cells c (J4 hj)) hr
def trn(L:Nat):AVal→AVal
 | .hm p=>if p<L then .hm p else .hm (p-1)
 |x=>x
theorem wx(L:Nat)(c:AVal)(h:c.sto=true):(trn L c).sto=true:=by
 cases c<;>first|exact h| (show AVal.sto (if _<L then AVal.hm _ else AVal.hm (_-1))=true;split<;>rfl)
theorem Sat.turn{f:FuncId}{args:List AVal}{e size:Nat}{cs:List AVal}{ms:List Blk}(hcs:∀c∈cs,Clo h.length c∨∃p,c=.hm (h.length+1+p))(hcl:∀c∈cs,Clo h.length c→trn h.length c=c)(hms:∀k∈ms,CloB h.length k)
  (hs:Sat C f args h (fun r h'=>r=.hp h.length 0 0 0∧h'=h++ .row e size 0 [.agg cs]::ms)):
  Sat C f args h (fun r h'=>r=.hp (h.length+ms.length) 0 0 0∧h'=h++(ms++[.row e size 0 [.agg (cs.map (trn h.length))]])):=by
 unfold Sat at hs ⊢;intro B S μ w vs fit rl;refine(hs B S μ w vs fit rl).mono fun v w' hp=>?_
 obtain⟨r,h',S',μ',⟨e1,e2⟩,st,f',rep⟩:=hp;subst e1 e2;have hl:=f'.len;rw[J3,I6]at hl;obtain⟨A,m0,M,rfl,hA,hM⟩:∃A m0 M,μ'=A++m0::M∧A.length=h.length∧M.length=ms.length:=by
  have h1:=V8 h.length μ';have h2:(μ'.drop h.length).length=ms.length+1:=by rw[M7];omega
  rcases hd:μ'.drop h.length with _| ⟨m0,M⟩
  ·rw[hd]at h2;simp at h2
  ·rw[hd]at h1 h2;exact⟨_,m0,M,h1.symm,by rw[M6];omega,by simpa using h2⟩
 have hA':(A++m0::M).take h.length=A:=by rw[← hA];exact S3 rfl
 have p1:∀p,p<h.length→(A++(M++[m0]))[p]? =(A++m0::M)[p]? :=fun p hp=>by
  rw[I8 (by omega),I8 (by omega)]
 have p2:∀i,i<ms.length→(A++(M++[m0]))[h.length+i]? =(A++m0::M)[h.length+1+i]? :=fun i hi=>by
  rw[show(A++(M++[m0]))[h.length+i]? =M[i]? from by rw[J1 (by omega),hA,S9,I8 (by omega)],
   show(A++m0::M)[h.length+1+i]? =M[i]? from by rw[J1 (by omega),hA,show h.length+1+i-h.length=i+1 by omega,Q4]]
 have p3:(A++(M++[m0]))[h.length+ms.length]? =(A++m0::M)[h.length]? :=by
  rw[show(A++(M++[m0]))[h.length+ms.length]? =some m0 from by rw[J1 (by omega),hA,S9,J1 (by omega),hM,U5];rfl,
   show(A++m0::M)[h.length]? =some m0 from by rw[J1 (by omega),hA,U5];rfl]
 have pA:∀p m,(A++(M++[m0]))[p]? =some m→∃q,(A++m0::M)[q]? =some m∧((p<h.length∧q=p)∨(∃i,i<ms.length∧p=h.length+i∧q=h.length+1+i)∨(p=h.length+ms.length∧q=h.length)):=fun p m hm=>by
  have hlt:=(f9.1 hm).1;simp only[J3,I6,L8]at hlt;rcases R1 p h.length with h1|h1
  ·exact⟨p,by rw[← p1 p h1];exact hm,.inl ⟨h1,rfl⟩⟩
  rcases R1 p (h.length+ms.length)with h2|h2
  ·refine⟨p+1,?_,.inr (.inl ⟨p-h.length,by omega,by omega,by omega⟩)⟩;have:=p2 (p-h.length) (by omega);rw[show h.length+(p-h.length)=p by omega,show h.length+1+(p-h.length)=p+1 by omega]at this;rw[← this];exact hm
  ·have:p=h.length+ms.length:=by omega
   subst this;exact⟨h.length,by rw[← p3];exact hm,.inr (.inr ⟨rfl,rfl⟩)⟩
 have hμ:μ.length=h.length:=fit.len;have st2:Step B S' ((A++m0::M).take h.length) w' S' (A++(M++[m0])) w':=⟨fun _ h=>h,fun _ _=>rfl,S7 _ _,fun p m hm=>by
  rw[hA']at hm;have:=(f9.1 hm).1;exact⟨m,by rw[I8 this];exact hm,J0 _,fun _=>rfl⟩,fun _ h=>.inl h⟩
 have st':Step B S μ w S' (A++(M++[m0])) w':=⟨st.sub,st.keep,st.below,fun p m hm=>by
  obtain⟨m',h1,h2⟩:=st.map p m hm;have:=(f9.1 hm).1;exact⟨m',by rw[p1 p (by omega)];exact h1,h2⟩,st.new⟩
 have go:∀{x:AVal} {v:Value},Clo h.length x→Rep w' S' (A++m0::M) x v→Rep w' S' (A++(M++[m0])) x v:=fun c r=>(c.rep r fun _ h=>h).mono st2
 refine⟨_,_,S',A++(M++[m0]),⟨rfl,rfl⟩,st',⟨fun g cs hg=>?_,?_,?_,?_,f'.base,f'.lie,?_⟩,?_⟩
 ·have:=(fit.glob g cs hg).clo;rw[hμ]at this;exact go this (f'.glob g cs hg)
 ·simp only[J3,I6,L8];omega
 ·intro p q m m' b h1 h2 e1 e2;obtain⟨p',a1,a2⟩:=pA p m h1;obtain⟨q',b1,b2⟩:=pA q m' h2;have:=f'.sep p' q' m m' b a1 b1 e1 e2;rcases a2 with⟨_,_⟩| ⟨_,_,_,_⟩| ⟨_,_⟩<;>rcases b2 with⟨_,_⟩| ⟨_,_,_,_⟩| ⟨_,_⟩<;>omega
 ·intro p m b h1 e1;obtain⟨p',a1,_⟩:=pA p m h1;exact f'.own p' m b a1 e1
 ·intro p m k h1 h2;obtain⟨q,a1,a2⟩:=pA p m h1;rcases a2 with⟨c1,rfl⟩| ⟨i,c1,rfl,rfl⟩| ⟨rfl,rfl⟩
  ·rw[I8 c1]at h2;have hq:q<μ.length:=(by omega);exact(f'.blk q m k a1 (by rw[I8 c1];exact h2)).turn (n:=h.length) (.inl ⟨w,S,μ,μ[q],by omega,fit.blk q _ k (I2 hq) h2⟩) st2
  ·rw[J1 (by omega),show h.length+i-h.length=i by omega,I8 c1]at h2;exact(f'.blk _ m k a1 (by rw[J1 (by omega),show h.length+1+i-h.length=i+1 by omega];exact h2)).turn (n:=h.length) (.inr (hms k (J4 h2))) st2
  ·rw[J1 (by omega),show h.length+ms.length-h.length=ms.length by omega,J1 (by omega),U5]at h2;cases h2;have hb:=f'.blk _ m _ a1 (by rw[J1 (by omega),U5];rfl);have hb:RowFits w' S' (A++m0::M) m e size 0 [.agg cs]:=hb;have cell:∀(i:Nat) (r:AVal) (j:Nat) (c:AVal),[AVal.agg (cs.map (trn h.length))][i]? =some r→r.cells[j]? =some c→i=0∧∃d,cs[j]? =some d∧c=trn h.length d:=fun i r j c hi hj=>by
    match i with
    |0=>
     cases hi;have hj:(cs.map (trn h.length))[j]? =some c:=hj;rw[J8]at hj;obtain⟨d,hd,rfl⟩:=K7.1 hj;exact⟨rfl,d,hd,rfl⟩
    |i+1=>simp at hi
   refine⟨hb.hver,hb.hsize,hb.pos,fun i r hi=>?_,fun i r j c hi hj=>?_,?_⟩
   ·match i with
    |0=>cases hi;rw[← hb.lens 0 _ rfl];simp[AVal.cells]
    |i+1=>simp at hi
   ·obtain⟨rfl,d,hd,rfl⟩:=cell i r j c hi hj;exact wx _ _ (hb.sto 0 _ j d rfl hd)
   ·rcases hb.lies with⟨_,h0⟩| ⟨b,cur,g1,g2,g3,g4,g5,g6⟩
    ·cases h0
    ·refine .inr ⟨b,cur,g1,g2,g3,g4,g5,fun i r j c hi hj=>?_⟩;obtain⟨rfl,d,hd,rfl⟩:=cell i r j c hi hj;obtain⟨x,hx,hr⟩:=g6 0 _ j d rfl hd;refine⟨x,hx,?_⟩;have hdm:=J4 hd;rcases hcs d hdm with hc| ⟨i,rfl⟩
     ·rw[hcl d hdm hc];exact go hc hr
     ·have et:trn h.length (.hm (h.length+1+i))=.hm (h.length+i):=by
       show(if h.length+1+i<h.length then AVal.hm (h.length+1+i)else .hm (h.length+1+i-1))=_;rw[I0 (by omega)];congr 1;omega
      rw[et];cases hr with
      |hm _ m v q1 q2 q3 q4=>
       have hi:i<ms.length:=by
        have:=(f9.1 q1).1;simp only[J3,I6]at this;omega
       exact .hm _ m _ (by rw[p2 i hi];exact q1) q2 q3 q4
 ·cases rep with
  |hp _ _ _ _ m v q1 q2 q3 q4 q5=>exact .hp _ _ _ _ m _ (by rw[p3];exact q1) q2 q3 q4 q5
end
theorem bw{C:Ctx}{f:FuncId}{fn:Func}{ρ:Go.Shelf.Ren}(L:SlLaysW.n5 C.P ρ)(hρ:ρ.f 5=f)(hf:C.P.funcs[f]? =some fn)(hb:fn.body.isNone=false)(hname:(fn.name== "runtime.NumGoroutine")=false){h:Heap}{p c:Nat}{es:List (AVal×AVal×Nat)}(hm:mapAt h p=some (es,c)):
  Sat C f [.hm p] h (fun r h'=>r=.hm h.length∧h'=h++[.mp es c]):=by
 have hk:h[p]? =some (.mp es c):=by
  unfold mapAt at hm;split at hm
  ·cases hm;assumption
  ·cases hm
 unfold Sat;intro B S μ w us fit rl;obtain⟨v,rfl⟩:∃v,us=[v]:=by
  have h1:=rl.1
  match us,h1 with
  | [v],_=>exact⟨v,rfl⟩
 have hr:Rep w S μ (.hm p) v:=rl.2 0 _ rfl;cases hr with
 |hm _ m _ h1 h2 h3 h4=>
  obtain⟨h0,b,cur,e1,e2,e3,e4⟩:=fit.blk p m _ h1 hk;obtain⟨b',e1',e5⟩:=h4 h0;rw[e1]at e1';cases e1';subst e5;rw[cc hf hb hname];have key:=AnyW.maps_Clone L b cur c w e2;rw[hρ]at key;refine key.mono fun e w' ⟨k1,k2⟩=>?_
  subst k2;have st:=b9 fit (.map cur c) ⟨some w.heap.size,0,0,0⟩;refine⟨_,k1,_,_,S,_,⟨rfl,rfl⟩,st,fit.alloc (.map cur c) ⟨some w.heap.size,0,0,0⟩ (.mp es c) rfl ⟨rfl,w.heap.size,cur,rfl,(MapKept.heap_alloc w _).1,e3,fun i e he=>?_⟩,?_⟩
  ·obtain⟨x,hx,r1,r2,r3⟩:=e4 i e he;exact⟨x,hx,r1.mono st,r2.mono st,r3⟩
  ·refine .hm _ ⟨some w.heap.size,0,0,0⟩ _ (by rw[← fit.len];simp) (fun cs=>by simp) rfl fun _=>⟨w.heap.size,rfl,rfl⟩
end Go.Av
namespace Go.Av
open Go Go.Proofs Go.RowKit
attribute [local irreducible] WP WPl WPix Sat
variable (G:Nat→Option (List AVal))
theorem jM{x:Int}(h0:0≤x)(h1:x<256):IntKind.u8.wrap x=x:=by
 simp only[IntKind.wrap,IntKind.bits,IntKind.signed];simp;omega
theorem sk(k:IntKind)(n:Int)(h0:0≤n)(h1:n<256):aconv Tryz.prog 21 5 (.int k n)=some (.int .u8 n):=by simp only[aconv,go_sem,jM h0 h1]
theorem uI{a b:Int}(h0:0≤a):a.tdiv b=a/b:=Int.tdiv_eq_ediv_of_nonneg h0
theorem uJ{a b:Int}(h0:0≤a):a.tmod b=a%b:=Int.tmod_eq_emod_of_nonneg h0
theorem Bytes.cloN(n m:Nat)(l:Bs):Clo n (.sl m (l.map bytA)):=.sl _ _ fun e he=>by obtain⟨a,_,rfl⟩:=J5.1 he;exact .int _ _
theorem mU(r:Int)(hr:Rune r)(h:Heap):Sat (CT G) 207 [.int .i32 r] h (fun x h'=>x=.sl 1 ((enc r).map bytA)∧h'=h):=by
 obtain⟨h0,h1⟩:=id hr;have n64:((64:Int)=0)=False:=by decide
 have F:=F4 @sk @bp @uI @uJ;refine sb [.tmp 2] Tryz.func207 ?_;intro Q hQ;(repeat (first|refine w1 (fun K hK=>?_)|refine w2 ?_|refine w3 ?_| ((first|refine w4 ?_|refine wD ?_|refine w5 ?_|refine w6 ?_|refine w7 ?_);try refine sq F ?_)| (refine w8 ?_;refine sq F ?_;refine w9 ?_)| (refine rq F ?_;try refine sq F ?_)| (refine vq F ?_;try refine sq F ?_)| ((first|refine hK _ _ (w0 ?_)| (clear hK K;refine hK _ _ (w0 ?_))| (clear hK K;clear hK K;refine hK _ _ (w0 ?_)));clear hK K)))
 (first|refine gq F (fun g1=>?_) (fun g1=>?_)|refine pq F (fun g1=>?_) (fun g1=>?_))<;>(try exact g1.elim)<;>(try refine sq F ?_)<;>((repeat (first|refine w1 (fun K hK=>?_)|refine w2 ?_|refine w3 ?_| ((first|refine w4 ?_|refine wD ?_|refine w5 ?_|refine w6 ?_|refine w7 ?_);try refine sq F ?_)| (refine w8 ?_;refine sq F ?_;refine w9 ?_)| (refine rq F ?_;try refine sq F ?_)| (refine vq F ?_;try refine sq F ?_)| ((first|refine hK _ _ (w0 ?_)| (clear hK K;refine hK _ _ (w0 ?_))| (clear hK K;clear hK K;refine hK _ _ (w0 ?_)));clear hK K))))
 ·exfalso;omega
 ·have big:∀(t':Env),t' 0=.int .i32 r→t' 16=.bool false→K t' h:=by
   intro t' e0 e16;refine hK _ _ (I9 ?_);clear hK K;have F:=F3 F e0 e16;(repeat (first|refine w1 (fun K hK=>?_)|refine w2 ?_|refine w3 ?_| ((first|refine w4 ?_|refine wD ?_|refine w5 ?_|refine w6 ?_|refine w7 ?_);try refine sq F ?_)| (refine w8 ?_;refine sq F ?_;refine w9 ?_)| (refine rq F ?_;try refine sq F ?_)| (refine vq F ?_;try refine sq F ?_)| ((first|refine hK _ _ (w0 ?_)| (clear hK K;refine hK _ _ (w0 ?_))| (clear hK K;clear hK K;refine hK _ _ (w0 ?_)));clear hK K)))
   have fin:∀l:List AVal,(enc r).map bytA=l→Fin h h (fun x h'=>x=.sl 1 ((enc r).map bytA)∧h'=h) (.sl 1 l):=fun l e=>by
    rw[← e];exact j4 (.clo _ (Bytes.cloN _ _ _)) ⟨rfl,rfl⟩
   refine cq F (fun c1=>?_) (fun c1=>?_)<;>(try exact c1.elim)<;>((repeat (first|refine w1 (fun K hK=>?_)|refine w2 ?_|refine w3 ?_| ((first|refine w4 ?_|refine wD ?_|refine w5 ?_|refine w6 ?_|refine w7 ?_);try refine sq F ?_)| (refine w8 ?_;refine sq F ?_;refine w9 ?_)| (refine rq F ?_;try refine sq F ?_)| (refine vq F ?_;try refine sq F ?_)| ((first|refine hK _ _ (w0 ?_)| (clear hK K;refine hK _ _ (w0 ?_))| (clear hK K;clear hK K;refine hK _ _ (w0 ?_)));clear hK K))))
   ·refine ee hQ F ?_;exact fin _ (u5 h0 c1)
   ·refine cq F (fun c2=>?_) (fun c2=>?_)<;>(try exact c2.elim)<;>((repeat (first|refine w1 (fun K hK=>?_)|refine w2 ?_|refine w3 ?_| ((first|refine w4 ?_|refine wD ?_|refine w5 ?_|refine w6 ?_|refine w7 ?_);try refine sq F ?_)| (refine w8 ?_;refine sq F ?_;refine w9 ?_)| (refine rq F ?_;try refine sq F ?_)| (refine vq F ?_;try refine sq F ?_)| ((first|refine hK _ _ (w0 ?_)| (clear hK K;refine hK _ _ (w0 ?_))| (clear hK K;clear hK K;refine hK _ _ (w0 ?_)));clear hK K))))
    ·refine ee hQ F ?_;exact fin _ (by rw[u6 c1 c2])
    ·refine cq F (fun c3=>?_) (fun c3=>?_)<;>(try exact c3.elim)<;>((repeat (first|refine w1 (fun K hK=>?_)|refine w2 ?_|refine w3 ?_| ((first|refine w4 ?_|refine wD ?_|refine w5 ?_|refine w6 ?_|refine w7 ?_);try refine sq F ?_)| (refine w8 ?_;refine sq F ?_;refine w9 ?_)| (refine rq F ?_;try refine sq F ?_)| (refine vq F ?_;try refine sq F ?_)| ((first|refine hK _ _ (w0 ?_)| (clear hK K;refine hK _ _ (w0 ?_))| (clear hK K;clear hK K;refine hK _ _ (w0 ?_)));clear hK K))))
     ·refine ee hQ F ?_;exact fin _ (by rw[pI hr c2 c3])
     ·refine ee hQ F ?_;exact fin _ (by rw[u7 c3 (by omega)])
  (first|refine gq F (fun g2=>?_) (fun g2=>?_)|refine pq F (fun g2=>?_) (fun g2=>?_))<;>(try exact g2.elim)<;>(try refine sq F ?_)<;>((repeat (first|refine w1 (fun K hK=>?_)|refine w2 ?_|refine w3 ?_| ((first|refine w4 ?_|refine wD ?_|refine w5 ?_|refine w6 ?_|refine w7 ?_);try refine sq F ?_)| (refine w8 ?_;refine sq F ?_;refine w9 ?_)| (refine rq F ?_;try refine sq F ?_)| (refine vq F ?_;try refine sq F ?_)| ((first|refine hK _ _ (w0 ?_)| (clear hK K;refine hK _ _ (w0 ?_))| (clear hK K;clear hK K;refine hK _ _ (w0 ?_)));clear hK K))))
  ·exfalso;omega
  ·(first|refine gq F (fun g3=>?_) (fun g3=>?_)|refine pq F (fun g3=>?_) (fun g3=>?_))<;>(try exact g3.elim)<;>(try refine sq F ?_)<;>((repeat (first|refine w1 (fun K hK=>?_)|refine w2 ?_|refine w3 ?_| ((first|refine w4 ?_|refine wD ?_|refine w5 ?_|refine w6 ?_|refine w7 ?_);try refine sq F ?_)| (refine w8 ?_;refine sq F ?_;refine w9 ?_)| (refine rq F ?_;try refine sq F ?_)| (refine vq F ?_;try refine sq F ?_)| ((first|refine hK _ _ (w0 ?_)| (clear hK K;refine hK _ _ (w0 ?_))| (clear hK K;clear hK K;refine hK _ _ (w0 ?_)));clear hK K))))
   ·have e:decide (r≤57343)=false:=(by rw[decide_eq_false_iff_not];omega);refine big _ ?_ ?_
    ·exact zq F
    ·exact zq (F2 F e)
   ·refine big _ ?_ ?_
    ·exact zq F
    ·exact zq F
theorem i7:bytesStr Tryz.prog 155 9=true:=by kernel_rfl
def runAN(r:Int):AVal:=.int .i32 r
@[go_sem] theorem yS(r:Int):(runAN r).cells=[.int .i32 r]:=(rfl)
theorem uK(l:List Int)(hr:∀r∈l,Rune r)(hl:l.length≤1048576)(h:Heap):Sat (CT G) 176 [.sl 1 (l.map runAN)] h (fun x h'=>x=.str (l.flatMap enc)∧h'=h):=by
 have hll:(l.map runAN).length=l.length:=I5 ..;have F:=hll;refine sb [.tmp 2] Tryz.func176 ?_;intro Q hQ;refine wk F ?_;refine lm (fun nL tL hL=>∃(k v:Nat) (acc:Bs),l.length-k=nL∧h++[.row 5 1 v (acc.map bytA)]=hL∧tL 3=.hs h.length v 0 acc.length true∧tL 4=.int .i64 k∧k≤l.length∧acc++(l.drop k).flatMap enc=l.flatMap enc∧acc.length≤4*k) ((fun(k v:Nat) (acc:Bs)=>(l.length-k:Nat)) (0) (0) ([])) ?_ ?_
 ·refine⟨_,_,U9 3 5 1 (by simp) (by omega) (by exact zq F),⟨0,0,[],rfl,aw,?_,?_,?_,?_,?_⟩⟩;all_goals try exact zZz F
 rintro _ s2 h' ⟨k,v,acc,rfl,rfl,e3,e4,hk,hp,hz⟩ K2 hK2;simp only[ah,ao,Nat.reduceEqDiff, ↓reduceIte]at e3 e4;have F:=F3 F e3 e4;refine wk F ?_;refine cq F (fun hc=>?_) (fun hc=>?_)<;>(try exact hc.elim)
 ·obtain⟨y,hy,hym⟩:=ac hc;rw[aA hy,R4]at hp;have he:=dr y;have hel:((enc y).map bytA).length=(enc y).length:=I5 ..;have F:=F2 F hy;refine wk F ?_;refine kq F (mU G y (hr y hym) _) ?_;refine aq F ?_;try refine sq F ?_
  refine wk F ?_;refine hK2 _ _ _ (I9 ⟨k+1,v+1,acc++enc y,rfl,aw,?_,?_,by omega,by rw[← hp];simp,by simp;omega⟩) (by omega);all_goals try exact zZz F
 ·rw[aE hc,X7,M4]at hp;have hb:=eA acc;have hel:elemsOf (h++[.row 5 1 v (acc.map bytA)]) 1 (.hs h.length v 0 acc.length true)=some (acc.map bytA):=by
   simp[elemsOf,getRow,K6]
  have F:=F4 F hb hel @i7;refine wk F ?_;refine ee hQ F ?_;rw[← hp];exact Fin.plainE (j:=_) rfl (.str _) ⟨rfl,rfl⟩
def bAN(s:Bs)(i:Nat):Nat:=(s.getD i 0).toNat
theorem sm(s:Bs)(i:Nat):bAN s i<256:=UInt8.toNat_lt _
theorem sn{s:Bs}{i:Nat}{c:UInt8}(h:s[i]? =some c):bAN s i=c.toNat:=by unfold bAN;rw[P7,h];rfl
def ClsN(b:Nat)(n:Nat)(r l:Int):Prop:=
 (192≤b∧b<224∧n=2∧r=b-192∧l=128)∨(224≤b∧b<240∧n=3∧r=b-224∧l=2048)∨(240≤b∧b<248∧n=4∧r=b-240∧l=65536)
def accIN(s:Bs)(r:Int):Nat→Int
 |0=>r
 |i+1=>accIN s r i*64+(bAN s (i+1)-128)
theorem jN(s:Bs):dec s 0=Lib.decodeN s.length (bAN s 0) (bAN s 1) (bAN s 2) (bAN s 3):=by rw[eB];rfl
theorem iM(s:Bs)(h:(128≤bAN s 0∧bAN s 0<192)∨248≤bAN s 0):dec s 0=(65533,1):=by
 rw[jN];have:=sm s 0;unfold Lib.decodeN;rw[I0 (by omega),I0 (by omega),I0 (by omega),I0 (by omega)]
theorem mV(s:Bs){n:Nat}{r l:Int}(hc:ClsN (bAN s 0) n r l)(h:s.length<n):dec s 0=(65533,1):=by
 rw[jN];unfold ClsN at hc;unfold Lib.decodeN;rw[I0 (by omega),I0 (by omega),I0 (by omega),I0 (by omega)]
theorem o3(s:Bs){n:Nat}{r l:Int}(hc:ClsN (bAN s 0) n r l)(i:Nat)(h1:1≤i)(h2:i<n)(h:¬(128≤bAN s i∧bAN s i<192)):dec s 0=(65533,1):=by
 rw[jN];unfold ClsN at hc;have:=sm s i;unfold Lib.decodeN;have hi:i=1∨i=2∨i=3:=by omega
 rcases hi with rfl|rfl|rfl<;>rw[I0 (by omega),I0 (by omega),I0 (by omega),I0 (by omega)]
theorem qv(s:Bs){n:Nat}{r l:Int}(hc:ClsN (bAN s 0) n r l)(hn:n≤s.length)(ht:∀i,1≤i→i<n→128≤bAN s i∧bAN s i<192):
  ((accIN s r (n-1)<l∨1114111<accIN s r (n-1)∨(55296≤accIN s r (n-1)∧accIN s r (n-1)≤57343))→dec s 0=(65533,1))∧
  (¬(accIN s r (n-1)<l∨1114111<accIN s r (n-1)∨(55296≤accIN s r (n-1)∧accIN s r (n-1)≤57343))→((dec s 0).1:Int)=accIN s r (n-1)∧(dec s 0).2=n):=by
 rw[jN];unfold ClsN at hc;rcases hc with⟨h1,h2,rfl,rfl,rfl⟩| ⟨h1,h2,rfl,rfl,rfl⟩| ⟨h1,h2,rfl,rfl,rfl⟩
 ·have t1:=ht 1 (by omega) (by omega);simp only[accIN,Nat.reduceSub,Nat.reduceAdd];unfold Lib.decodeN;rw[I0 (by omega),I7 (by omega)];constructor
  ·intro h;rw[I0 (by omega)]
  ·intro h;rw[I7 (by omega)];dsimp only;refine⟨?_,rfl⟩;omega
 ·have t1:=ht 1 (by omega) (by omega);have t2:=ht 2 (by omega) (by omega);simp only[accIN,Nat.reduceSub,Nat.reduceAdd];unfold Lib.decodeN;rw[I0 (by omega),I0 (by omega),I7 (by omega)];constructor
  ·intro h;rw[I0 (by omega)]
  ·intro h;rw[I7 (by omega)];dsimp only;refine⟨?_,rfl⟩;omega
 ·have t1:=ht 1 (by omega) (by omega);have t2:=ht 2 (by omega) (by omega);have t3:=ht 3 (by omega) (by omega);simp only[accIN,Nat.reduceSub,Nat.reduceAdd];unfold Lib.decodeN;rw[I0 (by omega),I0 (by omega),I0 (by omega),I7 (by omega)];constructor
  ·intro h;rw[I0 (by omega)]
  ·intro h;rw[I7 (by omega)];dsimp only;refine⟨?_,rfl⟩;omega
theorem qw(b:UInt8)(h:Heap):Sat (CT G) 208 [.int .u8 b.toNat] h (fun r h'=>r=.bool (decide (128≤b.toNat∧b.toNat<192))∧h'=h):=by
 refine sb [.tmp 2] Tryz.func208 ?_;intro Q hQ;refine wk trivial ?_;(first|refine gq trivial (fun g1=>?_) (fun g1=>?_)|refine pq trivial (fun g1=>?_) (fun g1=>?_))<;>(try exact g1.elim)<;>(try refine sq trivial ?_)<;>(refine wk trivial ?_)
 ·refine ee hQ trivial ?_;refine fR (.bool _) ?_;congr 1
  rw[N3];simp;omega
 ·refine ee hQ trivial ?_;refine fR (.bool _) ?_;rw[L6 (by omega)]
theorem su(k:IntKind)(n:Int)(h0:0≤n)(h1:n<256):aconv Tryz.prog 5 21 (.int k n)=some (.int .i32 n):=by simp only[aconv,go_sem,bp (x:=n) (by omega) (by omega)]
theorem gp(s:Bs)(hne:s≠ [])(hs:s.length≤1073741824)(h:Heap):Sat (CT G) 177 [.str s] h (fun r h'=>r=.tup [.int .i32 (dec s 0).1,.int .i64 (dec s 0).2]∧h'=h):=by
 have hpos:0<s.length:=Q1.2 hne;obtain⟨b,hb,_⟩:=ac hpos;have hbA:=sn hb;have hb256:=b.toNat_lt;have fin:∀c w:Int,((dec s 0).1:Int)=c→((dec s 0).2:Int)=w→Fin h h (fun r h'=>r=.tup [.int .i32 (dec s 0).1,.int .i64 (dec s 0).2]∧h'=h) (.tup [.int .i32 c,.int .i64 w]):=fun c w e1 e2=>by
  rw[e1,e2];exact M8 (.tup _ (by intro c hc;simp at hc;rcases hc with rfl|rfl<;>exact .int _ _)) ⟨rfl,rfl⟩
 have bad:dec s 0=(65533,1)→Fin h h (fun r h'=>r=.tup [.int .i32 (dec s 0).1,.int .i64 (dec s 0).2]∧h'=h) (.tup [.int .i32 65533,.int .i64 1]):=fun e=>fin _ _ (by rw[e];rfl) (by rw[e];rfl)
 have F:=F4 @su @jM @bp hb;refine sb [.tmp 2,.tmp 3] Tryz.func177 ?_;intro Q hQ;(repeat (first|refine w1 (fun K hK=>?_)|refine w2 ?_|refine w3 ?_| ((first|refine w4 ?_|refine wD ?_|refine w5 ?_|refine w6 ?_|refine w7 ?_);try refine sq F ?_)| (refine w8 ?_;refine sq F ?_;refine w9 ?_)| ((first|refine hK _ _ (w0 ?_)| (clear hK K;refine hK _ _ (w0 ?_))| (clear hK K;clear hK K;refine hK _ _ (w0 ?_)));clear hK K)))
 refine cq F (fun c1=>?_) (fun c1=>?_)<;>(try exact c1.elim)<;>((repeat (first|refine w1 (fun K hK=>?_)|refine w2 ?_|refine w3 ?_| ((first|refine w4 ?_|refine wD ?_|refine w5 ?_|refine w6 ?_|refine w7 ?_);try refine sq F ?_)| (refine w8 ?_;refine sq F ?_;refine w9 ?_)| ((first|refine hK _ _ (w0 ?_)| (clear hK K;refine hK _ _ (w0 ?_))| (clear hK K;clear hK K;refine hK _ _ (w0 ?_)));clear hK K))))
 ·refine ee hQ F ?_;have e:=gY s 0 b hb (by omega);exact fin _ _ (by rw[e]) (by rw[e];rfl)
 rename_i K0 hK0;have tail:∀(t':Env) (n:Nat) (r l:Int),ClsN (bAN s 0) n r l→t' 0=.str s→t' 5=.int .i64 n→t' 6=.int .i32 r→t' 7=.int .i32 l→K0 t' h:=by
  intro t' n r l hc e0 e5 e6 e7;refine hK0 _ _ (I9 ?_);clear hK0 K0 hK K;have F:=F5 F e0 e5 e6 e7;(repeat (first|refine w1 (fun K hK=>?_)|refine w2 ?_|refine w3 ?_| ((first|refine w4 ?_|refine wD ?_|refine w5 ?_|refine w6 ?_|refine w7 ?_);try refine sq F ?_)| (refine w8 ?_;refine sq F ?_;refine w9 ?_)| ((first|refine hK _ _ (w0 ?_)| (clear hK K;refine hK _ _ (w0 ?_))| (clear hK K;clear hK K;refine hK _ _ (w0 ?_)));clear hK K)))
  refine cq F (fun c2=>?_) (fun c2=>?_)<;>(try exact c2.elim)<;>((repeat (first|refine w1 (fun K hK=>?_)|refine w2 ?_|refine w3 ?_| ((first|refine w4 ?_|refine wD ?_|refine w5 ?_|refine w6 ?_|refine w7 ?_);try refine sq F ?_)| (refine w8 ?_;refine sq F ?_;refine w9 ?_)| ((first|refine hK _ _ (w0 ?_)| (clear hK K;refine hK _ _ (w0 ?_))| (clear hK K;clear hK K;refine hK _ _ (w0 ?_)));clear hK K))))
  ·refine ee hQ F ?_;exact bad (mV s hc (by omega))
  have hc':=hc;unfold ClsN at hc';refine lm (fun nL tL hL=>∃(i:Nat) (q:Int),n-i=nL∧h=hL∧tL 6=.int .i32 q∧tL 8=.int .i64 i∧(1≤i∧i≤n)∧q=accIN s r (i-1)∧(0≤q∧(i=1→q<32)∧(i=2→q<2048)∧(i=3→q<131072)∧(i=4→q<8388608))∧(∀j,1≤j→j<i→128≤bAN s j∧bAN s j<192)) ((fun(i:Nat) (q:Int)=>(n-i:Nat)) (1) (r)) ?_ ?_
  ·refine I9 ⟨1,r,rfl,aw,?_,?_,⟨by omega,by omega⟩,rfl,⟨by omega,by omega,by omega,by omega,by omega⟩,fun j h1 h2=>by omega⟩;all_goals try exact zZz F
  rintro _ s1 h' ⟨i,q,rfl,rfl,e6,e8,hi,hq,hb,ht⟩ K1 hK1;simp only[ah,ao,Nat.reduceEqDiff, ↓reduceIte]at e6 e8;have F:=F3 F e6 e8;(repeat (first|refine w1 (fun K hK=>?_)|refine w2 ?_|refine w3 ?_| ((first|refine w4 ?_|refine wD ?_|refine w5 ?_|refine w6 ?_|refine w7 ?_);try refine sq F ?_)| (refine w8 ?_;refine sq F ?_;refine w9 ?_)| ((first|refine hK _ _ (w0 ?_)| (clear hK K;refine hK _ _ (w0 ?_))| (clear hK K;clear hK K;refine hK _ _ (w0 ?_)));clear hK K)))
  refine cq F (fun c3=>?_) (fun c3=>?_)<;>(try exact c3.elim)<;>((repeat (first|refine w1 (fun K hK=>?_)|refine w2 ?_|refine w3 ?_| ((first|refine w4 ?_|refine wD ?_|refine w5 ?_|refine w6 ?_|refine w7 ?_);try refine sq F ?_)| (refine w8 ?_;refine sq F ?_;refine w9 ?_)| ((first|refine hK _ _ (w0 ?_)| (clear hK K;refine hK _ _ (w0 ?_))| (clear hK K;clear hK K;refine hK _ _ (w0 ?_)));clear hK K))))
  ·obtain⟨y,hy,_⟩:=ac (show i<s.length by omega);have hyA:=sn hy;have hy256:=y.toNat_lt;have F:=F2 F hy;(try refine sq F ?_);(repeat (first|refine w1 (fun K hK=>?_)|refine w2 ?_|refine w3 ?_| ((first|refine w4 ?_|refine wD ?_|refine w5 ?_|refine w6 ?_|refine w7 ?_);try refine sq F ?_)| (refine w8 ?_;refine sq F ?_;refine w9 ?_)| ((first|refine hK _ _ (w0 ?_)| (clear hK K;refine hK _ _ (w0 ?_))| (clear hK K;clear hK K;refine hK _ _ (w0 ?_)));clear hK K)))
   refine(qw G y _).mono ?_;rintro r h' ⟨rfl,rfl⟩;(try refine sq F ?_);(repeat (first|refine w1 (fun K hK=>?_)|refine w2 ?_|refine w3 ?_| ((first|refine w4 ?_|refine wD ?_|refine w5 ?_|refine w6 ?_|refine w7 ?_);try refine sq F ?_)| (refine w8 ?_;refine sq F ?_;refine w9 ?_)| ((first|refine hK _ _ (w0 ?_)| (clear hK K;refine hK _ _ (w0 ?_))| (clear hK K;clear hK K;refine hK _ _ (w0 ?_)));clear hK K)))
   refine cq F (fun c4=>?_) (fun c4=>?_)<;>(try exact c4.elim)<;>((repeat (first|refine w1 (fun K hK=>?_)|refine w2 ?_|refine w3 ?_| ((first|refine w4 ?_|refine wD ?_|refine w5 ?_|refine w6 ?_|refine w7 ?_);try refine sq F ?_)| (refine w8 ?_;refine sq F ?_;refine w9 ?_)| ((first|refine hK _ _ (w0 ?_)| (clear hK K;refine hK _ _ (w0 ?_))| (clear hK K;clear hK K;refine hK _ _ (w0 ?_)));clear hK K))))
   ·refine ee hQ F ?_;exact bad (o3 s hc i hi.1 c3 (by rw[hyA];omega))
   ·have hacc:accIN s r i=accIN s r (i-1)*64+(bAN s i-128):=by
     obtain⟨k,rfl⟩:∃k,i=k+1:=⟨i-1,by omega⟩;rfl
    have hi4:i=1∨i=2∨i=3:=(by omega);have ht':∀j,1≤j→j<i+1→128≤bAN s j∧bAN s j<192:=fun j h1 h2=>by
     rcases R1 j i with h3|h3
     ·exact ht j h1 h3
     ·obtain rfl:j=i:=by omega
      rw[hyA];omega
    have hq':q*64+((y.toNat:Int)-128)=accIN s r (i+1-1):=(by rw[Nat.add_sub_cancel,hacc, ← hq,hyA]);(try refine sq F ?_);(repeat (first|refine w1 (fun K hK=>?_)|refine w2 ?_|refine w3 ?_| ((first|refine w4 ?_|refine wD ?_|refine w5 ?_|refine w6 ?_|refine w7 ?_);try refine sq F ?_)| (refine w8 ?_;refine sq F ?_;refine w9 ?_)| ((first|refine hK _ _ (w0 ?_)| (clear hK K;refine hK _ _ (w0 ?_))| (clear hK K;clear hK K;refine hK _ _ (w0 ?_)));clear hK K)))
    refine hK1 _ _ _ (I9 ⟨i+1,q*64+(y.toNat-128),rfl,aw,?_,?_,⟨by omega,by omega⟩,hq',by omega,ht'⟩) (by omega);all_goals try exact zZz F
  ·have hin:i=n:=(by omega);subst hin;obtain⟨f1,f2⟩:=qv s hc (by omega) ht;rw[← hq]at f1 f2;(try refine sq F ?_);(repeat (first|refine w1 (fun K hK=>?_)|refine w2 ?_|refine w3 ?_| ((first|refine w4 ?_|refine wD ?_|refine w5 ?_|refine w6 ?_|refine w7 ?_);try refine sq F ?_)| (refine w8 ?_;refine sq F ?_;refine w9 ?_)| ((first|refine hK _ _ (w0 ?_)| (clear hK K;refine hK _ _ (w0 ?_))| (clear hK K;clear hK K;refine hK _ _ (w0 ?_)));clear hK K)))
   (first|refine gq F (fun g1=>?_) (fun g1=>?_)|refine pq F (fun g1=>?_) (fun g1=>?_))<;>(try exact g1.elim)<;>(try refine sq F ?_)<;>((repeat (first|refine w1 (fun K hK=>?_)|refine w2 ?_|refine w3 ?_| ((first|refine w4 ?_|refine wD ?_|refine w5 ?_|refine w6 ?_|refine w7 ?_);try refine sq F ?_)| (refine w8 ?_;refine sq F ?_;refine w9 ?_)| ((first|refine hK _ _ (w0 ?_)| (clear hK K;refine hK _ _ (w0 ?_))| (clear hK K;clear hK K;refine hK _ _ (w0 ?_)));clear hK K))))
   ·refine ee hQ F ?_;exact bad (f1 (by omega))
   ·(first|refine gq F (fun g2=>?_) (fun g2=>?_)|refine pq F (fun g2=>?_) (fun g2=>?_))<;>(try exact g2.elim)<;>(try refine sq F ?_)<;>((repeat (first|refine w1 (fun K hK=>?_)|refine w2 ?_|refine w3 ?_| ((first|refine w4 ?_|refine wD ?_|refine w5 ?_|refine w6 ?_|refine w7 ?_);try refine sq F ?_)| (refine w8 ?_;refine sq F ?_;refine w9 ?_)| ((first|refine hK _ _ (w0 ?_)| (clear hK K;refine hK _ _ (w0 ?_))| (clear hK K;clear hK K;refine hK _ _ (w0 ?_)));clear hK K))))
    ·refine ee hQ F ?_;exact bad (f1 (by omega))
    ·(first|refine gq F (fun g3=>?_) (fun g3=>?_)|refine pq F (fun g3=>?_) (fun g3=>?_))<;>(try exact g3.elim)<;>(try refine sq F ?_)<;>((repeat (first|refine w1 (fun K hK=>?_)|refine w2 ?_|refine w3 ?_| ((first|refine w4 ?_|refine wD ?_|refine w5 ?_|refine w6 ?_|refine w7 ?_);try refine sq F ?_)| (refine w8 ?_;refine sq F ?_;refine w9 ?_)| ((first|refine hK _ _ (w0 ?_)| (clear hK K;refine hK _ _ (w0 ?_))| (clear hK K;clear hK K;refine hK _ _ (w0 ?_)));clear hK K))))
     ·refine cq F (fun g4=>?_) (fun g4=>?_)<;>(try exact g4.elim)<;>((repeat (first|refine w1 (fun K hK=>?_)|refine w2 ?_|refine w3 ?_| ((first|refine w4 ?_|refine wD ?_|refine w5 ?_|refine w6 ?_|refine w7 ?_);try refine sq F ?_)| (refine w8 ?_;refine sq F ?_;refine w9 ?_)| ((first|refine hK _ _ (w0 ?_)| (clear hK K;refine hK _ _ (w0 ?_))| (clear hK K;clear hK K;refine hK _ _ (w0 ?_)));clear hK K))))
      ·refine ee hQ F ?_;exact bad (f1 (by omega))
      ·refine ee hQ F ?_;exact fin _ _ (f2 (by omega)).1 (by rw[(f2 (by omega)).2])
     ·refine ee hQ F ?_;exact fin _ _ (f2 (by omega)).1 (by rw[(f2 (by omega)).2])
 (first|refine gq F (fun g1=>?_) (fun g1=>?_)|refine pq F (fun g1=>?_) (fun g1=>?_))<;>(try exact g1.elim)<;>(try refine sq F ?_)<;>((repeat (first|refine w1 (fun K hK=>?_)|refine w2 ?_|refine w3 ?_| ((first|refine w4 ?_|refine wD ?_|refine w5 ?_|refine w6 ?_|refine w7 ?_);try refine sq F ?_)| (refine w8 ?_;refine sq F ?_;refine w9 ?_)| ((first|refine hK _ _ (w0 ?_)| (clear hK K;refine hK _ _ (w0 ?_))| (clear hK K;clear hK K;refine hK _ _ (w0 ?_)));clear hK K))))
 ·refine cq F (fun g2=>?_) (fun g2=>?_)<;>(try exact g2.elim)<;>((repeat (first|refine w1 (fun K hK=>?_)|refine w2 ?_|refine w3 ?_| ((first|refine w4 ?_|refine wD ?_|refine w5 ?_|refine w6 ?_|refine w7 ?_);try refine sq F ?_)| (refine w8 ?_;refine sq F ?_;refine w9 ?_)| ((first|refine hK _ _ (w0 ?_)| (clear hK K;refine hK _ _ (w0 ?_))| (clear hK K;clear hK K;refine hK _ _ (w0 ?_)));clear hK K))))
  ·refine tail _ 2 (b.toNat-192) 128 ?_ ?_ ?_ ?_ ?_
   ·unfold ClsN;omega
   ·exact zq F
   ·exact zq F
   ·exact zq F
   ·exact zq F
  ·(first|refine gq F (fun g3=>?_) (fun g3=>?_)|refine pq F (fun g3=>?_) (fun g3=>?_))<;>(try exact g3.elim)<;>(try refine sq F ?_)<;>((repeat (first|refine w1 (fun K hK=>?_)|refine w2 ?_|refine w3 ?_| ((first|refine w4 ?_|refine wD ?_|refine w5 ?_|refine w6 ?_|refine w7 ?_);try refine sq F ?_)| (refine w8 ?_;refine sq F ?_;refine w9 ?_)| ((first|refine hK _ _ (w0 ?_)| (clear hK K;refine hK _ _ (w0 ?_))| (clear hK K;clear hK K;refine hK _ _ (w0 ?_)));clear hK K))))
   ·refine cq F (fun g4=>?_) (fun g4=>?_)<;>(try exact g4.elim)<;>((repeat (first|refine w1 (fun K hK=>?_)|refine w2 ?_|refine w3 ?_| ((first|refine w4 ?_|refine wD ?_|refine w5 ?_|refine w6 ?_|refine w7 ?_);try refine sq F ?_)| (refine w8 ?_;refine sq F ?_;refine w9 ?_)| ((first|refine hK _ _ (w0 ?_)| (clear hK K;refine hK _ _ (w0 ?_))| (clear hK K;clear hK K;refine hK _ _ (w0 ?_)));clear hK K))))
    ·refine tail _ 3 (b.toNat-224) 2048 ?_ ?_ ?_ ?_ ?_
     ·unfold ClsN;omega
     ·exact zq F
     ·exact zq F
     ·exact zq F
     ·exact zq F
    ·(first|refine gq F (fun g5=>?_) (fun g5=>?_)|refine pq F (fun g5=>?_) (fun g5=>?_))<;>(try exact g5.elim)<;>(try refine sq F ?_)<;>((repeat (first|refine w1 (fun K hK=>?_)|refine w2 ?_|refine w3 ?_| ((first|refine w4 ?_|refine wD ?_|refine w5 ?_|refine w6 ?_|refine w7 ?_);try refine sq F ?_)| (refine w8 ?_;refine sq F ?_;refine w9 ?_)| ((first|refine hK _ _ (w0 ?_)| (clear hK K;refine hK _ _ (w0 ?_))| (clear hK K;clear hK K;refine hK _ _ (w0 ?_)));clear hK K))))
     ·refine cq F (fun g6=>?_) (fun g6=>?_)<;>(try exact g6.elim)<;>((repeat (first|refine w1 (fun K hK=>?_)|refine w2 ?_|refine w3 ?_| ((first|refine w4 ?_|refine wD ?_|refine w5 ?_|refine w6 ?_|refine w7 ?_);try refine sq F ?_)| (refine w8 ?_;refine sq F ?_;refine w9 ?_)| ((first|refine hK _ _ (w0 ?_)| (clear hK K;refine hK _ _ (w0 ?_))| (clear hK K;clear hK K;refine hK _ _ (w0 ?_)));clear hK K))))
      ·refine tail _ 4 (b.toNat-240) 65536 ?_ ?_ ?_ ?_ ?_
       ·unfold ClsN;omega
       ·exact zq F
       ·exact zq F
       ·exact zq F
       ·exact zq F
      ·refine ee hQ F ?_;exact bad (iM s (by omega))
     ·exfalso;omega
   ·exfalso;omega
 ·(first|refine gq F (fun g3=>?_) (fun g3=>?_)|refine pq F (fun g3=>?_) (fun g3=>?_))<;>(try exact g3.elim)<;>(try refine sq F ?_)<;>((repeat (first|refine w1 (fun K hK=>?_)|refine w2 ?_|refine w3 ?_| ((first|refine w4 ?_|refine wD ?_|refine w5 ?_|refine w6 ?_|refine w7 ?_);try refine sq F ?_)| (refine w8 ?_;refine sq F ?_;refine w9 ?_)| ((first|refine hK _ _ (w0 ?_)| (clear hK K;refine hK _ _ (w0 ?_))| (clear hK K;clear hK K;refine hK _ _ (w0 ?_)));clear hK K))))
  ·exfalso;omega
  ·(first|refine gq F (fun g5=>?_) (fun g5=>?_)|refine pq F (fun g5=>?_) (fun g5=>?_))<;>(try exact g5.elim)<;>(try refine sq F ?_)<;>((repeat (first|refine w1 (fun K hK=>?_)|refine w2 ?_|refine w3 ?_| ((first|refine w4 ?_|refine wD ?_|refine w5 ?_|refine w6 ?_|refine w7 ?_);try refine sq F ?_)| (refine w8 ?_;refine sq F ?_;refine w9 ?_)| ((first|refine hK _ _ (w0 ?_)| (clear hK K;refine hK _ _ (w0 ?_))| (clear hK K;clear hK K;refine hK _ _ (w0 ?_)));clear hK K))))
   ·exfalso;omega
   ·refine ee hQ F ?_;exact bad (iM s (by omega))
theorem sv:∀(l:List Int),∀r∈l.map runAN,∀c∈r.cells,c.sto=true:=fun l r hr c hc=>by
 obtain⟨a,_,rfl⟩:=J5.1 hr;simp[runAN,AVal.cells]at hc;subst hc;rfl
theorem sw:∀(n:Nat) (l:List Int),∀r∈l.map runAN,Clo n r:=fun n l r hr=>by
 obtain⟨a,_,rfl⟩:=J5.1 hr;exact .int _ _
theorem Frz.runesN{h:Heap}{n q v e:Nat}{l:List Int}{len:Nat}{room:Bool}(hq:n≤q)(hg:getRow h q v=some (e,1,l.map runAN))(hlen:len=l.length):Frz h n (.hs q v 0 len room) (.sl 1 (l.map runAN)):=
 W3 hq hg (by simpa using hlen) (fun r hr=>sw _ l r hr) (fun r hr=>sv l r hr)
theorem jO(s:Bs)(hs:s.length≤1048576)(h:Heap):Sat (CT G) 174 [.str s] h (fun r h'=>r=.sl 1 ((runesF s).map runAN)∧h'=h):=by
 refine sb [.tmp 2] Tryz.func174 ?_;intro Q hQ;refine wk trivial ?_;refine lm (fun nL tL hL=>∃(k v:Nat) (acc:List Int),s.length-k=nL∧h++[.row 21 1 v (acc.map runAN)]=hL∧tL 0=.str (s.drop k)∧tL 3=.hs h.length v 0 acc.length true∧k≤s.length∧acc.length≤k∧acc++runesF (s.drop k)=runesF s) ((fun(k v:Nat) (acc:List Int)=>(s.length-k:Nat)) (0) (0) ([])) ?_ ?_
 ·refine⟨_,_,U9 3 21 1 (by simp) (by omega) (by exact zq trivial),⟨0,0,[],rfl,aw,?_,?_,?_,?_,?_⟩⟩;all_goals try exact zZz trivial
 rintro _ s2 h' ⟨k,v,acc,rfl,rfl,e0,e3,hk,hl,hp⟩ K2 hK2;simp only[ah,ao,Nat.reduceEqDiff, ↓reduceIte]at e0 e3;have F:=F2 e0 e3;refine wk F ?_;refine cq F (fun c1=>?_) (fun c1=>?_)<;>(try exact c1.elim)<;>(refine wk F ?_)
 ·simp only[M7]at c1;have hlt:k<s.length:=by omega
  have hp2:=aI s k hlt;rw[dU s k hlt]at hp;have hne:s.drop k≠ []:=by intro e;have:=K9 List.length e;simp at this;omega
  refine(gp G (s.drop k) hne (by simp;omega) _).mono ?_;rintro r h' ⟨rfl,rfl⟩;rw[← bj];generalize dec s k=d at*;obtain⟨c,m⟩:=d;simp only[]at hp hp2 ⊢;have hsl:m≤(s.drop k).length:=by simp;omega
  have hdd:(s.drop k).drop m=s.drop (k+m):=R3 ..;have F:=F3 F hsl hdd;try refine sq F ?_
  refine wk F ?_;refine aq F ?_;try refine sq F ?_
  refine wk F ?_;refine hK2 _ _ _ (I9 ⟨k+m,v+1,acc++[(c:Int)],rfl,aw,?_,?_,by omega,by simp;omega,by rw[← hp];simp⟩) (by omega);all_goals try exact zZz F
 ·simp only[M7]at c1;rw[db s k (by omega),M4]at hp;refine wk F ?_;refine ee hQ F ?_;rw[← hp];exact Fin.frz (Frz.runesN (J0 _) (by simp[getRow];rfl) rfl) ⟨rfl,rfl⟩
theorem o4(c:Int)(h:Heap):Sat (CT G) 175 [.int .i32 c] h (fun r h'=>r=.bool (blankR c)∧h'=h):=by
 have yes:(c=9∨c=10∨c=13∨c=32∨c=160∨c=8232∨c=8233∨c=12288)→blankR c=true:=fun h=>M0 h
 have no:¬(c=9∨c=10∨c=13∨c=32∨c=160∨c=8232∨c=8233∨c=12288)→blankR c=false:=fun h=>L6 h
 refine sb [.tmp 2] Tryz.func175 ?_;intro Q hQ;refine wk trivial ?_;(first|refine gq trivial (fun g0=>?_) (fun g0=>?_)|refine pq trivial (fun g0=>?_) (fun g0=>?_))<;>(try exact g0.elim)<;>(try refine sq trivial ?_)<;>(refine wk trivial ?_)
 ·refine ee hQ trivial ?_;refine fR (.bool _) ?_;rw[yes (by omega)]
 ·(first|refine gq trivial (fun g1=>?_) (fun g1=>?_)|refine pq trivial (fun g1=>?_) (fun g1=>?_))<;>(try exact g1.elim)<;>(try refine sq trivial ?_)<;>(refine wk trivial ?_)
  ·refine ee hQ trivial ?_;refine fR (.bool _) ?_;rw[yes (by omega)]
  ·(first|refine gq trivial (fun g2=>?_) (fun g2=>?_)|refine pq trivial (fun g2=>?_) (fun g2=>?_))<;>(try exact g2.elim)<;>(try refine sq trivial ?_)<;>(refine wk trivial ?_)
   ·refine ee hQ trivial ?_;refine fR (.bool _) ?_;rw[yes (by omega)]
   ·(first|refine gq trivial (fun g3=>?_) (fun g3=>?_)|refine pq trivial (fun g3=>?_) (fun g3=>?_))<;>(try exact g3.elim)<;>(try refine sq trivial ?_)<;>(refine wk trivial ?_)
    ·refine ee hQ trivial ?_;refine fR (.bool _) ?_;rw[yes (by omega)]
    ·(first|refine gq trivial (fun g4=>?_) (fun g4=>?_)|refine pq trivial (fun g4=>?_) (fun g4=>?_))<;>(try exact g4.elim)<;>(try refine sq trivial ?_)<;>(refine wk trivial ?_)
     ·refine ee hQ trivial ?_;refine fR (.bool _) ?_;rw[yes (by omega)]
     ·(first|refine gq trivial (fun g5=>?_) (fun g5=>?_)|refine pq trivial (fun g5=>?_) (fun g5=>?_))<;>(try exact g5.elim)<;>(try refine sq trivial ?_)<;>(refine wk trivial ?_)
      ·refine ee hQ trivial ?_;refine fR (.bool _) ?_;rw[yes (by omega)]
      ·(first|refine gq trivial (fun g6=>?_) (fun g6=>?_)|refine pq trivial (fun g6=>?_) (fun g6=>?_))<;>(try exact g6.elim)<;>(try refine sq trivial ?_)<;>(refine wk trivial ?_)
       ·refine ee hQ trivial ?_;refine fR (.bool _) ?_;rw[yes (by omega)]
       ·refine ee hQ trivial ?_;refine fR (.bool _) ?_;congr 1
        rw[N3];by_cases h8:c=12288
        ·rw[yes (by omega)];simp[h8]
        ·rw[no (by omega)];simp[h8]
theorem iN(s:Bs)(hs:s.length≤1048576)(h:Heap):Sat (CT G) 146 [.str s] h (fun r h'=>r=.bool (rightS s)∧h'=h):=by
 refine sb [.tmp 2] Tryz.func146 ?_;intro Q hQ;refine wk trivial ?_;refine lm (fun nL tL hL=>∃(k:Nat),s.length-k=nL∧h=hL∧tL 0=.str (s.drop k)∧k≤s.length∧rightS (s.drop k)=rightS s) ((fun(k:Nat)=>(s.length-k:Nat)) (0)) ?_ ?_
 ·refine I9 ⟨0,rfl,aw,?_,by omega,rfl⟩;all_goals try exact zZz trivial
 rintro _ s2 h' ⟨k,rfl,rfl,e0,hk,hc⟩ K2 hK2;simp only[ah,ao,Nat.reduceEqDiff, ↓reduceIte]at e0;have F:=e0;refine wk F ?_;refine cq F (fun c1=>?_) (fun c1=>?_)<;>(try exact c1.elim)<;>(refine wk F ?_)
 ·simp only[M7]at c1;have hlt:k<s.length:=by omega
  have hp2:=aI s k hlt;have hca:=gZ s k hlt;have hne:s.drop k≠ []:=by intro e;have:=K9 List.length e;simp at this;omega
  rw[hc]at hca;refine(gp G (s.drop k) hne (by simp;omega) _).mono ?_;rintro r h' ⟨rfl,rfl⟩;rw[← bj];generalize dec s k=d at*;obtain⟨c,m⟩:=d;simp only[]at hp2 hca ⊢;have hsl:m≤(s.drop k).length:=by simp;omega
  have hdd:(s.drop k).drop m=s.drop (k+m):=R3 ..;have F:=F3 F hsl hdd;try refine sq F ?_
  refine wk F ?_;(first|refine gq F (fun g1=>?_) (fun g1=>?_)|refine pq F (fun g1=>?_) (fun g1=>?_))<;>(try exact g1.elim)<;>(try refine sq F ?_)<;>(refine wk F ?_)
  ·refine cq F (fun g2=>?_) (fun g2=>?_)<;>(try exact g2.elim)<;>(refine wk F ?_)
   ·refine ee hQ F ?_;refine fR (.bool _) ?_;rw[hca,I7 (by omega)]
   ·refine hK2 _ _ _ (I9 ⟨k+m,rfl,aw,?_,by omega,by rw[hca,I0 (by omega)]⟩) (by omega);all_goals try exact zZz F
  ·refine hK2 _ _ _ (I9 ⟨k+m,rfl,aw,?_,by omega,by rw[hca,I0 (by omega)]⟩) (by omega);all_goals try exact zZz F
 ·simp only[M7]at c1;rw[Q2 (by omega)]at hc;refine wk F ?_;refine ee hQ F ?_;refine fR (.bool _) ?_;rw[← hc];rfl
theorem iO(s:Bs)(hs:s.length≤100000)(h:Heap):Sat (CT G) 135 [.str s] h (fun r h'=>r=.str (cleanF s)∧h'=h):=by
 have hll:=bM s.length s (J0 _);have hrl:=cD s.length s (J0 _);have hcl:=dV (runesF s) [] false hrl (by simp);have hdef:clnR (runesF s) [] false=cleanR s:=rfl;have hcf:encs (cleanR s)=cleanF s:=rfl;refine sb [.tmp 2] Tryz.func135 ?_;intro Q hQ;refine wk trivial ?_;refine(jO G s (by omega) _).mono ?_;rintro r h' ⟨rfl,hk_⟩;replace hk_:=hk_.symm;subst hk_;try refine sq trivial ?_
 refine wk trivial ?_;generalize runesF s=l at*;have hlm:(l.map runAN).length=l.length:=I5 ..;have F:=hlm;refine lm (fun nL tL hL=>∃(k v:Nat) (acc:List Int) (w:Bool),l.length-k=nL∧h++[.row 21 1 v (acc.map runAN)]=hL∧tL 4=.hs h.length v 0 acc.length true∧tL 5=.bool w∧tL 6=.int .i64 k∧k≤l.length∧clnR (l.drop k) acc w=cleanR s∧acc.length≤2*k) ((fun(k v:Nat) (acc:List Int) (w:Bool)=>(l.length-k:Nat)) (0) (0) ([]) (false)) ?_ ?_
 ·refine⟨_,_,U9 4 21 1 (by simp) (by omega) (by exact zq F),⟨0,0,[],false,rfl,aw,?_,?_,?_,by omega,hdef,by simp⟩⟩;all_goals try exact zZz F
 rintro _ s2 h' ⟨k,v,acc,w,rfl,rfl,e4,e5,e6,hk,hv,hl⟩ K2 hK2;simp only[ah,ao,Nat.reduceEqDiff, ↓reduceIte]at e4 e5 e6;have F:=F4 F e4 e5 e6;refine wk F ?_;refine cq F (fun c1=>?_) (fun c1=>?_)<;>(try exact c1.elim)
 ·obtain⟨y,hy,hym⟩:=ac c1;have hyl:(l.map runAN)[k]? =some (.int .i32 y):=by rw[J8,hy];rfl
  rw[aA hy,clnR]at hv;have F:=F2 F hyl;refine wk F ?_;refine kq F (o4 G y _) ?_;have ho:decide ((acc.length:Int)>0)=decide (0<acc.length):=by
   rw[N3];simp only[I4];omega
  refine cq F (fun c2=>?_) (fun c2=>?_)<;>(try exact c2.elim)<;>(refine wk F ?_)
  ·rw[I7 c2]at hv;have F:=F2 F ho;(try refine sq F ?_);refine hK2 _ _ _ (I9 ⟨k+1,v,acc,decide (0<acc.length),rfl,aw,?_,?_,?_,by omega,hv,by omega⟩) (by omega);all_goals try exact zZz F
  ·rw[I0 (by simp[c2])]at hv;have yes:(y<32∨(127≤y∧y≤159))→ctlR y=true:=fun h=>M0 h
   have no:¬(y<32∨(127≤y∧y≤159))→ctlR y=false:=fun h=>L6 h
   (first|refine gq F (fun g1=>?_) (fun g1=>?_)|refine pq F (fun g1=>?_) (fun g1=>?_))<;>(try exact g1.elim)<;>(try refine sq F ?_)<;>(refine wk F ?_)
   ·rw[I7 (yes (by omega))]at hv;refine hK2 _ _ _ (I9 ⟨k+1,v,acc,w,rfl,aw,?_,?_,?_,by omega,hv,by omega⟩) (by omega);all_goals try exact zZz F
   ·(first|refine gq F (fun g2=>?_) (fun g2=>?_)|refine pq F (fun g2=>?_) (fun g2=>?_))<;>(try exact g2.elim)<;>(try refine sq F ?_)<;>(refine wk F ?_)
    ·refine cq F (fun g3=>?_) (fun g3=>?_)<;>(try exact g3.elim)<;>(refine wk F ?_)
     ·rw[I7 (yes (by omega))]at hv;refine hK2 _ _ _ (I9 ⟨k+1,v,acc,w,rfl,aw,?_,?_,?_,by omega,hv,by omega⟩) (by omega);all_goals try exact zZz F
     ·rw[I0 (by rw[no (by omega)];simp)]at hv;refine cq F (fun c3=>?_) (fun c3=>?_)<;>(try exact c3.elim)<;>(refine wk F ?_)
      ·rw[I7 c3]at hv;refine aq F ?_;(try refine sq F ?_);refine wk F ?_;refine aq F ?_;(try refine sq F ?_);refine wk F ?_;refine hK2 _ _ _ (I9 ⟨k+1,v+1+1,acc++[32,y],false,rfl,by simp[runAN],?_,?_,?_,by omega,hv,by simp;omega⟩) (by omega);all_goals try exact zZz F
      ·rw[I0 (by simp[c3])]at hv;refine aq F ?_;(try refine sq F ?_);refine wk F ?_;refine hK2 _ _ _ (I9 ⟨k+1,v+1,acc++[y],w,rfl,by simp[runAN],?_,?_,?_,by omega,by rw[c3];exact hv,by simp;omega⟩) (by omega);all_goals try exact zZz F
    ·rw[I0 (by rw[no (by omega)];simp)]at hv;refine cq F (fun c3=>?_) (fun c3=>?_)<;>(try exact c3.elim)<;>(refine wk F ?_)
     ·rw[I7 c3]at hv;refine aq F ?_;(try refine sq F ?_);refine wk F ?_;refine aq F ?_;(try refine sq F ?_);refine wk F ?_;refine hK2 _ _ _ (I9 ⟨k+1,v+1+1,acc++[32,y],false,rfl,by simp[runAN],?_,?_,?_,by omega,hv,by simp;omega⟩) (by omega);all_goals try exact zZz F
     ·rw[I0 (by simp[c3])]at hv;refine aq F ?_;(try refine sq F ?_);refine wk F ?_;refine hK2 _ _ _ (I9 ⟨k+1,v+1,acc++[y],w,rfl,by simp[runAN],?_,?_,?_,by omega,by rw[c3];exact hv,by simp;omega⟩) (by omega);all_goals try exact zZz F
 ·rw[aE c1,clnR]at hv;(repeat (first|refine w1 (fun K hK=>?_)|refine w2 ?_|refine w3 ?_| ((first|refine w4 ?_|refine wD ?_|refine w5 ?_|refine w6 ?_|refine w7 ?_);try refine sq F ?_)| (refine w8 ?_;refine sq F ?_;refine w9 ?_)| (refine rq F ?_;try refine sq F ?_)| (refine vq F ?_;try refine sq F ?_)))
  have hg:getRow (h++[.row 21 1 v (acc.map runAN)]) h.length v=some (21,1,acc.map runAN):=by simp[getRow]
  have ht:∀(ms:List Nat) (t:Env),4∈ms→t 4=.hs h.length v 0 acc.length true→∀i,upd t 4 (.sl 1 (acc.map runAN)) i=t i∨(i∈ms∧Fz (h++[.row 21 1 v (acc.map runAN)]) h.length v (t i) (upd t 4 (.sl 1 (acc.map runAN)) i)):=fun ms t hm ht i=>by
   by_cases hi:i=4
   ·subst hi;right;refine⟨hm,?_⟩;rw[ht];simp only[upd, ↓reduceIte];exact Fz.all _ _ _ hg rfl (by simp)
   ·left;simp only[upd];rw[I0 hi]
  refine GQ (Weak.fz h.length v hg (ht _ _ (by decide+kernel) (by exact zq F))) ?_;have hset:(h++[Blk.row 21 1 v (acc.map runAN)]).set h.length Blk.dead=h++[Blk.dead]:=by simp
  rw[hset];refine wk F ?_;refine kq F (uK G acc (fun r hr=>hcl r (by rw[hdef, ← hv];exact hr)) (by omega) _) ?_;refine ee hQ F ?_;refine fR (.str _) ?_;rw[hv];exact K9 AVal.str hcf
end Go.Av
