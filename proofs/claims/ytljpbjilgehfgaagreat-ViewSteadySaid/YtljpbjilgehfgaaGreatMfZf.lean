/- Whether an item belongs to a query, of any depth. -/
import Derived.Test.YtljpbjilgehfgaaGreatMfNi
set_option linter.unusedSimpArgs false
set_option linter.unusedVariables false
set_option linter.unusedSectionVars false
set_option linter.unnecessarySimpa false
set_option maxRecDepth 100000
set_option maxHeartbeats 16000000
namespace Go.Av
open Go Go.Proofs Go.RowKit
attribute [local irreducible] WP WPl WPix Sat
variable (G:Nat→Option (List AVal))
theorem gm(s:PS)(id:Int){H:Heap}{n:Nat}(hn:n+9≤H.length):Sat (CT G) 274 [.hp (n+8) 0 0 0,.int .i64 id] (so H n s) (fun r h'=>r=.tup [((lkM s.fo id).getD Fo.z).av,.bool (lkM s.fo id).isSome]∧h'=so H n s):=by
 refine sb [.cell 4 116,.tmp 5] (fn:=Tryz.f274) Tryz.func274 ?_
 intro Q hQ
 refine wk trivial ?_
 refine ye hQ trivial ?_
 exact ak hn (.tup _ (fun x hx=>by simp only[List.mem_cons,List.not_mem_nil,or_false]at hx;rcases hx with rfl|rfl;exact Fo.clo _ _;exact .bool _)) ⟨rfl,rfl⟩
theorem nc(s:PS){H:Heap}{n:Nat}(hn:n+9≤H.length):Sat (CT G) 96 [.hp (n+8) 0 0 0] (so H n s) (fun r h'=>r=.int .i64 s.clock∧h'=so H n s):=by
 refine sb [.tmp 2] (fn:=Tryz.f96) Tryz.func96 ?_
 intro Q hQ
 refine wk trivial ?_
 refine ee hQ trivial ?_
 exact cg hn (.int _ _) ⟨rfl,rfl⟩
theorem me(s:PS)(id:Int){H:Heap}{n:Nat}(hn:n+9≤H.length):Sat (CT G) 240 [.hp (n+8) 0 0 0,.int .i64 id] (so H n s) (fun r h'=>r=.bool (s.within id)∧h'=so H n s):=by
 have hc:=gm G s id hn
 cases hi:(id==0)with
 |true=>
  have F:=hi
  refine sb [.tmp 4] (fn:=Tryz.f240) Tryz.func240 ?_
  intro Q hQ
  refine wk F ?_
  refine kq F (hc) ?_
  refine ee hQ F ?_
  exact ak hn (.bool _) ⟨by unfold PS.within;rw[show decide (id=0)=(id==0)from rfl,hi];rfl,rfl⟩
 |false=>
  have F:=hi
  refine sb [.tmp 4] (fn:=Tryz.f240) Tryz.func240 ?_
  intro Q hQ
  refine wk F ?_
  refine kq F (hc) ?_
  refine ee hQ F ?_
  exact ak hn (.bool _) ⟨by unfold PS.within;rw[show decide (id=0)=(id==0)from rfl,hi];rfl,rfl⟩
def insF(l:ML Int Fo)(u:Int):Nat→Int→Bool
 |0,id=>decide (id=u)
 |k+1,id=>if id≠u∧id≠0 then insF l u k ((lkM l id).getD Fo.z).inn else decide (id=u)
theorem tB{l:ML Int Fo}{u id:Int}(h:¬(id≠u∧id≠0)):∀k,insF l u k id=decide (id=u)
 |0=>rfl
 |k+1=>by rw[insF,if_neg h]
theorem uY{l:ML Int Fo}{u id:Int}{k:Nat}(h:id≠u∧id≠0):insF l u (k+1) id=insF l u k ((lkM l id).getD Fo.z).inn:=by rw[insF,if_pos h]
theorem nf(s:PS)(h:s.Inv)(id u:Int){H:Heap}{n:Nat}(hn:n+9≤H.length):Sat (CT G) 241 [.hp (n+8) 0 0 0,.int .i64 id,.int .i64 u] (so H n s) (fun r h'=>r=.bool (insF s.fo u 8 id)∧h'=so H n s):=by
 obtain⟨d0,hd0,hdp⟩:=h.dp id
 have hz:lkM s.fo 0=none:=by
  cases hl:lkM s.fo 0 with
  |none=>rfl
  |some f=>have:=(h.i1 0 f hl).2.1;omega
 refine sb [.tmp 6] (fn:=Tryz.f241) Tryz.func241 ?_
 intro Q hQ
 refine wk trivial ?_
 refine lm (fun nL tL hL=>∃(k:Nat) (x:Int) (j:Heap),k=nL∧so (H++j) n s=hL∧tL 0=.hp (n+8) 0 0 0∧tL 1=.int .i64 x∧tL 2=.int .i64 u∧insF s.fo u 8 id=insF s.fo u k x∧(x=0∨∃m d,deepO s.fo m x=some d∧d+1≤k)) ((fun(k:Nat) (x:Int) (j:Heap)=>(k:Nat)) (8) (id) ([])) ?_ ?_
 ·refine Wkn.refl ⟨8,id,[],rfl,by rw[List.append_nil],?_,?_,?_,rfl,.inr ⟨7,d0,hdp,by omega⟩⟩
  all_goals first|exact zq trivial|rfl|omega|trivial|skip
 rintro _ s2 h' ⟨k,x,j,rfl,rfl,e0,e1,e2,h1,h2⟩ K2 hK2
 simp only[ai,aj,Nat.reduceEqDiff, ↓reduceIte]at e0 e1 e2
 have F:=F3 e0 e1 e2
 have hnj:n+9≤(H++j).length:=by simp;omega
 by_cases hc:x≠u∧x≠0
 ·have b1:(x !=u)=true:=by simpa using hc.1
  have b2:(x !=0)=true:=by simpa using hc.2
  obtain⟨m,d,hm,hdk⟩:=h2.resolve_left hc.2
  obtain⟨k,rfl⟩:∃k',k=k'+1:=⟨k-1,by omega⟩
  replace h1:=h1.trans (uY hc)
  have h3:((lkM s.fo x).getD Fo.z).inn=0∨∃m d,deepO s.fo m ((lkM s.fo x).getD Fo.z).inn=some d∧d+1≤k:=by
   cases hl:lkM s.fo x with
   |none=>exact .inl rfl
   |some f=>
    refine .inr ?_
    cases m with
    |zero=>rw[deepO,hl]at hm;simp at hm
    |succ m=>
     rw[deepO,hl]at hm
     simp only[Option.map_eq_some_iff]at hm
     obtain⟨d1,h4,rfl⟩:=hm
     exact⟨m,d1,h4,by omega⟩
  have hF:=gm G s x hnj
  generalize (lkM s.fo x).getD Fo.z=f at*
  have F:=F3 F b1 b2
  refine wk F ?_
  refine kq F (hF) ?_
  refine hK2 _ _ _ (Wkn.refl ⟨k,f.inn,j++[.row 116 3 0 [f.av]],rfl,rfl,?_,?_,?_,h1,h3⟩) (by omega)
  all_goals first|exact zq F|rfl|omega|trivial|skip
 ·replace h1:=h1.trans (tB hc k)
  by_cases hxu:x=u
  ·have b1:(x !=u)=false:=by simp[hxu]
   have F:=F2 F b1
   refine wk F ?_
   refine ee hQ F ?_
   exact ak hn (.bool _) ⟨by rw[h1];congr 1,rfl⟩
  ·have b1:(x !=u)=true:=by simp[hxu]
   have b2:(x !=0)=false:=by simp;exact Decidable.byContradiction fun e=>hc ⟨hxu,e⟩
   have F:=F3 F b1 b2
   refine wk F ?_
   refine ee hQ F ?_
   exact ak hn (.bool _) ⟨by rw[h1];congr 1,rfl⟩
def undF(s:PS)(id:Int):List Int:=if s.within id then(s.tell.fe.filter fun f=>decide (id=0)||insF s.fo id 8 f.inn).map (·.id)else []
def twB(Y:Heap)(n:Nat)(s:PS)(a:Nat)(b1 b2:Blk):Heap:=so (ov Y a [b1,b2]) n s
section
variable {Y:Heap} {n a:Nat} {s:PS} {b1 b2:Blk}
theorem cS(hn:n+9≤a)(hm:a+2≤Y.length):twB Y n s a b1 b2=ov (so Y n s) a [b1,b2]:=nx (bs:=s.bl n) (cs:=[b1,b2]) (by show n+9≤Y.length;omega) hm (.inl hn)
theorem bG(hm:a+2≤Y.length):(ov Y a [b1,b2]).length=Y.length:=aX hm
@[go_sem] theorem wI(hn:n+9≤a)(hm:a+2≤Y.length)(j:Heap):twB Y n s a b1 b2++j=twB (Y++j) n s a b1 b2:=by
 unfold twB;rw[aH (by rw[bG hm];omega),fW hm]
@[go_sem] theorem wJ(hn:n+9≤a)(hm:a+2≤Y.length):(twB Y n s a b1 b2).length=Y.length:=by
 unfold twB;rw[aD (by rw[bG hm];omega),bG hm]
@[go_sem] theorem wK(hn:n+9≤a)(hm:a+2≤Y.length){p:Nat}(u:Nat)(hp:a+2≤p):getRow (twB Y n s a b1 b2) p u=getRow Y p u:=by
 unfold twB;rw[br (by rw[bG hm];omega) u (by omega),eM u hm (.inr hp)]
@[go_sem] theorem wL(hn:n+9≤a)(hm:a+2≤Y.length){p:Nat}(b:Blk)(hp:a+2≤p):(twB Y n s a b1 b2).set p b=twB (Y.set p b) n s a b1 b2:=by
 unfold twB;rw[nB (by rw[bG hm];omega) b (by omega),fV b hm (.inr hp)]
@[go_sem] theorem GN(hn:n+9≤a)(hm:a+2≤Y.length)(u:Nat):getRow (twB Y n s a b1 b2) a u=getRow [b1] 0 u:=by
 rw[cS hn hm];unfold getRow;rw[wj (by rw[aD (by omega)];exact hm) (by simp)];rfl
@[go_sem] theorem zp(hn:n+9≤a)(hm:a+2≤Y.length)(u:Nat):getRow (twB Y n s a b1 b2) (a+1) u=getRow [b2] 0 u:=by
 rw[cS hn hm,iV u (by rw[aD (by omega)];exact hm) (by simp)];rfl
@[go_sem] theorem zr(hn:n+9≤a)(hm:a+2≤Y.length):mapAt (twB Y n s a b1 b2) a=mapAt [b1] 0:=by
 rw[cS hn hm,ny (by rw[aD (by omega)];exact hm) (by simp)];rfl
@[go_sem] theorem zt(hn:n+9≤a)(hm:a+2≤Y.length)(b:Blk):(twB Y n s a b1 b2).set a b=twB Y n s a b b2:=by
 rw[cS hn hm,cS hn hm,jC b (by rw[aD (by omega)];exact hm) (by simp)];rfl
@[go_sem] theorem GO(hn:n+9≤a)(hm:a+2≤Y.length)(b:Blk):(twB Y n s a b1 b2).set (a+1) b=twB Y n s a b1 b:=by
 rw[cS hn hm,cS hn hm,bm b (by rw[aD (by omega)];exact hm) (by simp)];rfl
theorem jc{j:Heap}{c1 c2:Blk}{R:AVal→Heap→Prop}{r:AVal}(hn:n+9≤a)(hm:a+2≤Y.length)(h1:CloB Y.length c1)(h2:CloB Y.length c2)(hc:Clo Y.length r)(hR:R r (twB Y n s a c1 c2)):Fin (twB Y n s a b1 b2) (twB (Y++j) n s a c1 c2) R r:=by
 rw[cS hn hm,cS hn (by simp;omega), ← aH (by omega)]
 rw[cS hn hm]at hR
 have hl:(so Y n s).length=Y.length:=aD (by omega)
 exact fX (by rw[hl];exact hm) rfl (fun b hb=>by
  rw[hl]
  simp only[List.mem_cons,List.not_mem_nil,or_false]at hb
  rcases hb with rfl|rfl
  ·exact h1
  ·exact h2) (by rw[hl];exact hc) hR
theorem nR{c1 c2:Blk}{R:AVal→Heap→Prop}{r:AVal}(hn:n+9≤a)(hm:a+2≤Y.length)(h1:CloB Y.length c1)(h2:CloB Y.length c2)(hc:Clo Y.length r)(hR:R r (twB Y n s a c1 c2)):Fin (twB Y n s a b1 b2) (twB Y n s a c1 c2) R r:=by
 have:=jc (j:=[]) (b1:=b1) (b2:=b2) hn hm h1 h2 hc hR
 rwa [List.append_nil]at this
end
def u1(q k:Nat):Blk:=.row 42 1 0 [.hs (q+1) k 0 k true]
def u2(l:List Int):Blk:=.row 3 1 l.length (l.map iA)
theorem pk(s:PS)(f:Fe)(l:List Int)(hl:l.length≤100000){Y:Heap}{n q:Nat}(hn:n+9≤q)(hm:q+2≤Y.length):Sat (CT G) 190 [f.av,.hp q 0 0 0] (twB Y n s q (u1 q l.length) (u2 l)) (fun r h'=>r=.tup []∧h'=twB Y n s q (u1 q (l.length+1)) (u2 (l++[f.id]))):=by
 have r0:getRow [u1 q l.length] 0 0=some (42,1,[.hs (q+1) l.length 0 l.length true]):=rfl
 have r1:getRow [u2 l] 0 l.length=some (3,1,l.map iA):=by simp[getRow,u2]
 have hml:(l.map iA).length=l.length:=List.length_map ..
 have e2:u2 (l++[f.id])=.row 3 1 (l.length+1) (l.map iA++[.int .i64 f.id]):=by simp[u2,iA]
 have e1:u1 q (l.length+1)=.row 42 1 0 [.hs (q+1) (l.length+1) 0 (l.length+1) true]:=rfl
 have hm1:∀j:Heap,q+2≤(Y++j).length:=fun j=>by simp;omega
 have F:=F7 r0 r1 hml hm hn hm1 @aA
 refine sb [] (fn:=Tryz.f190) Tryz.func190 ?_
 intro Q hQ
 refine wk F ?_
 refine aq F ?_
 try refine sq F ?_
 refine wk F ?_
 refine ee hQ F ?_
 rw[e1,e2]
 refine jc hn hm ?_ ?_ (.tup _ (by simp)) ⟨rfl,rfl⟩
 ·intro c hc
  simp only[List.mem_singleton]at hc
  subst hc
  exact .hs _ _ _ _ _ (by omega)
 ·intro c hc
  rw[List.mem_append,List.mem_map,List.mem_singleton]at hc
  rcases hc with⟨y,_,rfl⟩|rfl<;>exact .int _ _
end Go.Av
namespace Go.Av
open Go Go.Proofs Go.RowKit
attribute [local irreducible] WP WPl WPix Sat
variable (G:Nat→Option (List AVal))
theorem qM{q k N:Nat}(h:q+2≤N):CloB N (u1 q k):=fun c hc=>by
 simp only[List.mem_singleton]at hc
 subst hc
 exact .hs _ _ _ _ _ (by omega)
theorem qO(l:List Int)(N:Nat):CloB N (u2 l):=fun c hc=>by
 obtain⟨y,_,rfl⟩:=List.mem_map.1 hc
 exact .int _ _
theorem ng(s:PS)(h:s.Inv)(id:Int){Y:Heap}{n q:Nat}(hn:n+9≤q)(hm:q+2≤Y.length):Sat (CT G) 189 [.hp (n+8) 0 0 0,.int .i64 id,.fn (.func 190) [] [.hp q 0 0 0]] (twB Y n s q (u1 q 0) (u2 [])) (fun r h'=>r=.tup []∧h'=twB Y n s q (u1 q (undF s id).length) (u2 (undF s id))):=by
 have hcf:Sat (CT G) 240 [.hp (n+8) 0 0 0,.int .i64 id] (twB Y n s q (u1 q 0) (u2 [])) (fun r h'=>r=.bool (s.within id)∧h'=twB Y n s q (u1 q 0) (u2 [])):=me G s id (by rw[bG hm];omega)
 unfold undF
 cases hw:s.within id with
 |false=>
  rw[hw]at hcf
  refine sb [] (fn:=Tryz.f189) Tryz.func189 ?_
  intro Q hQ
  refine wk trivial ?_
  refine kq trivial (hcf) ?_
  refine ee hQ trivial ?_
  exact nR hn hm (qM hm) (qO _ _) (.tup _ (by simp)) ⟨rfl,rfl⟩
 |true=>
  rw[hw]at hcf
  have hT:Sat (CT G) 34 [.hp (n+8) 0 0 0] (twB Y n s q (u1 q 0) (u2 [])) (fun r h'=>r=s.tell.av∧h'=twB Y n s q (u1 q 0) (u2 [])):=j1 G s h.toOk (by rw[bG hm];omega)
  have hfl:s.tell.fe.length≤100000:=by have:=fj (z:=Fe.z) s.fe;have:=h.l2;show(valsM Fe.z s.fe).length≤_;omega
  rw[St.av_eq]at hT
  generalize s.tell.fe=fe at*
  rw[if_pos rfl]
  have hfm:(fe.map Fe.av).length=fe.length:=List.length_map ..
  have F:=hfm
  refine sb [] (fn:=Tryz.f189) Tryz.func189 ?_
  intro Q hQ
  refine wk F ?_
  refine kq F (hcf) ?_
  refine kq F (hT) ?_
  refine lm (fun nL tL hL=>∃(k:Nat) (j:Heap),fe.length-k=nL∧twB (Y++j) n s q (u1 q ((fe.take k).filter fun f=>decide (id=0)||insF s.fo id 8 f.inn).length) (u2 (((fe.take k).filter fun f=>decide (id=0)||insF s.fo id 8 f.inn).map (·.id)))=hL∧tL 16=.int .i64 k∧k≤fe.length) ((fun(k:Nat) (j:Heap)=>(fe.length-k:Nat)) (0) ([])) ?_ ?_
  ·refine Wkn.refl ⟨0,[],rfl,by rw[List.append_nil];rfl,?_,by omega⟩
   all_goals first|exact zq F|rfl|omega|trivial|skip
  rintro _ s2 h' ⟨k,j,rfl,rfl,e16,hk⟩ K2 hK2
  simp only[ai,aj,Nat.reduceEqDiff, ↓reduceIte]at e16
  have F:=F2 F e16
  refine wk F ?_
  have hmj:q+2≤(Y++j).length:=by simp;omega
  refine cq F (fun c1=>?_) (fun c1=>?_)<;>(try exact c1.elim)<;>(refine wk F ?_)
  ·have c2:k<fe.length:=by omega
   obtain⟨f,hf,hfm1⟩:=af c2
   have ht:(fe.take (k+1)).filter (fun f=>decide (id=0)||insF s.fo id 8 f.inn)=(fe.take k).filter (fun f=>decide (id=0)||insF s.fo id 8 f.inn)++if (decide (id=0)||insF s.fo id 8 f.inn)=true then [f]else []:=by
    rw[List.take_add_one,hf,List.filter_append]
    congr 1
    simp only[Option.toList_some,List.filter_cons,List.filter_nil]
   have hl:((fe.take k).filter fun f=>decide (id=0)||insF s.fo id 8 f.inn).length≤100000:=by
    refine Nat.le_trans (List.length_filter_le _ _) ?_
    rw[List.length_take];omega
   have hin:∀X:Heap,q+2≤X.length→∀b1 b2,Sat (CT G) 241 [.hp (n+8) 0 0 0,.int .i64 f.inn,.int .i64 id] (twB X n s q b1 b2) (fun r h'=>r=.bool (insF s.fo id 8 f.inn)∧h'=twB X n s q b1 b2):=fun X hX b1 b2=>nf G s h f.inn id (by rw[bG hX];omega)
   have hus:=fun(X:Heap) (hX:q+2≤X.length)=>pk G s f (((fe.take k).filter fun f=>decide (id=0)||insF s.fo id 8 f.inn).map (·.id)) (by rw[List.length_map];exact hl) (Y:=X) hn hX
   simp only[List.length_map]at hus
   generalize ((fe.take k).filter fun f=>decide (id=0)||insF s.fo id 8 f.inn)=fl at*
   have hx:∀g:Fe,q+2≤((Y++j)++[Blk.row 114 4 0 [g.av]]).length:=fun g=>by simp;omega
   cases hi:(id==0)with
   |true=>
    have hp:(decide (id=0)||insF s.fo id 8 f.inn)=true:=by rw[show decide (id=0)=(id==0)from rfl,hi];rfl
    rw[hp,if_pos rfl]at ht
    have F:=F5 F c2 hf hi @aA
    try refine sq F ?_
    refine wk F ?_
    refine kq F (hus _ (by simp;omega)) ?_
    refine hK2 _ _ _ (Wkn.refl ⟨k+1,j++[.row 114 4 0 [f.av]],rfl,by rw[ht,List.map_append,List.length_append];rfl,?_,by omega⟩) (by omega)
    all_goals first|exact zq F|rfl|omega|trivial|skip
   |false=>
    have hi0:decide (id=0)=false:=by rw[show decide (id=0)=(id==0)from rfl,hi]
    have hp2:(decide (id=0)||insF s.fo id 8 f.inn)=insF s.fo id 8 f.inn:=by rw[hi0,Bool.false_or]
    rw[hp2]at ht
    cases hp:insF s.fo id 8 f.inn with
    |true=>
     rw[hp]at hin
     rw[hp,if_pos rfl]at ht
     have F:=F5 F c2 hf hi @aA
     try refine sq F ?_
     refine wk F ?_
     refine kq F (hin _ (by simp;omega) _ _) ?_
     refine kq F (hus _ (by simp;omega)) ?_
     refine hK2 _ _ _ (Wkn.refl ⟨k+1,j++[.row 114 4 0 [f.av]],rfl,by rw[ht,List.map_append,List.length_append];rfl,?_,by omega⟩) (by omega)
     all_goals first|exact zq F|rfl|omega|trivial|skip
    |false=>
     rw[hp]at hin
     rw[hp,if_neg (by simp),List.append_nil]at ht
     have F:=F5 F c2 hf hi @aA
     try refine sq F ?_
     refine wk F ?_
     refine kq F (hin _ (by simp;omega) _ _) ?_
     refine hK2 _ _ _ (Wkn.refl ⟨k+1,j++[.row 114 4 0 [f.av]],rfl,by rw[ht];rfl,?_,by omega⟩) (by omega)
     all_goals first|exact zq F|rfl|omega|trivial|skip
  ·rw[List.take_of_length_le (by omega)]
   refine ee hQ F ?_
   exact jc hn hm (qM hm) (qO _ _) (.tup _ (by simp)) ⟨rfl,rfl⟩
theorem pm(s:PS)(h:s.Inv)(id:Int){H:Heap}{n:Nat}(hn:n+9≤H.length):Sat (CT G) 144 [.hp (n+8) 0 0 0,.int .i64 id] (so H n s) (fun r h'=>r=.sl 1 ((undF s id).map iA)∧h'=so H n s):=by
 have hm:H.length+2≤(H++[u1 H.length 0,u2 []]).length:=by simp
 have hu:=ng G s h id (Y:=H++[u1 H.length 0,u2 []]) hn hm
 have e:∀k l,twB (H++[u1 H.length 0,u2 []]) n s H.length (u1 H.length k) (u2 l)=so (H++[u1 H.length k,u2 l]) n s:=fun k l=>by
  unfold twB
  congr 1
  have:=iU H [u1 H.length k,u2 l] []
  rw[List.append_nil]at this
  rw[this]
  unfold ov
  simp
 rw[e,e]at hu
 generalize undF s id=l at*
 have hq:so (H++[u1 H.length 0,u2 []]) n s=so H n s++[.row 42 1 0 [.hs (H.length+1) 0 0 0 true],.row 3 1 0 []]:=by
  rw[aH hn];rfl
 have hq2:so (H++[u1 H.length l.length,u2 l]) n s=so H n s++[.row 42 1 0 [.hs (H.length+1) l.length 0 l.length true],.row 3 1 l.length (l.map iA)]:=by
  rw[aH hn];rfl
 have hl:=aD (s:=s) hn
 have hne:abin Tryz.prog (so H n s++[Blk.row 42 1 0 [.hs (H.length+1) 0 0 0 true],.row 3 1 0 []]) .neq 31 (.hp (n+8) 0 0 0) (.nil (.pointer none))=some (.bool true):=by
  rw[aH hn];exact wo (by simp;omega)
 rw[hq,hq2]at hu
 have hz:Frz (so H n s++[Blk.row 42 1 0 [.hs (H.length+1) l.length 0 l.length true],.row 3 1 l.length (l.map iA)]) (so H n s).length (.hs (H.length+1) l.length 0 l.length true) (.sl 1 (l.map iA)):=by
  refine Frz.data (by omega) (e:=3) (by rw[bk _ (by rw[hl])];simp[getRow]) (by simp) (fun r hr=>?_) (fun r hr=>?_)
  ·obtain⟨x,_,rfl⟩:=List.mem_map.1 hr;exact .int _ _
  ·obtain⟨x,_,rfl⟩:=List.mem_map.1 hr;intro c hc;simp[AVal.cells,iA]at hc;subst hc;rfl
 generalize so H n s=X at*
 have F:=F3 hl hne @aA
 refine sb [.tmp 4] (fn:=Tryz.f144) Tryz.func144 ?_
 intro Q hQ
 (repeat (first|refine w1 (fun K hK=>?_)|refine w2 ?_|refine w3 ?_| ((first|refine w4 ?_|refine wD ?_|refine w5 ?_|refine w6 ?_|refine w7 ?_);try refine sq F ?_)| (refine w8 ?_;refine sq F ?_;refine w9 ?_)))
 refine hK _ _ (Wkn.refl ?_)
 clear hK K
 (repeat (first|refine w1 (fun K hK=>?_)|refine w2 ?_|refine w3 ?_| ((first|refine w4 ?_|refine wD ?_|refine w5 ?_|refine w6 ?_|refine w7 ?_);try refine sq F ?_)| (refine w8 ?_;refine sq F ?_;refine w9 ?_)))
 refine hK _ _ ⟨_,_,Weak.virtCell1 (p:=H.length) (v:=0) 3 1 (by omega) (by simp(disch:=first|omega| (simp only[go_sem, ↓reduceIte,seval];first|done|omega)|fail) only[go_sem, ↓reduceIte,seval,F];rfl),?_⟩
 clear hK K
 (repeat (first|refine w1 (fun K hK=>?_)|refine w2 ?_|refine w3 ?_| ((first|refine w4 ?_|refine wD ?_|refine w5 ?_|refine w6 ?_|refine w7 ?_);try refine sq F ?_)| (refine w8 ?_;refine sq F ?_;refine w9 ?_)| ((first|refine hK _ _ (w0 ?_)| (clear hK K;refine hK _ _ (w0 ?_))| (clear hK K;clear hK K;refine hK _ _ (w0 ?_)));clear hK K)))
 refine(hu).mono ?_
 rintro r h' ⟨rfl,rfl⟩
 try refine sq F ?_
 (repeat (first|refine w1 (fun K hK=>?_)|refine w2 ?_|refine w3 ?_| ((first|refine w4 ?_|refine wD ?_|refine w5 ?_|refine w6 ?_|refine w7 ?_);try refine sq F ?_)| (refine w8 ?_;refine sq F ?_;refine w9 ?_)| ((first|refine hK _ _ (w0 ?_)| (clear hK K;refine hK _ _ (w0 ?_))| (clear hK K;clear hK K;refine hK _ _ (w0 ?_)));clear hK K)))
 refine ee hQ F ?_
 exact Fin.frz hz ⟨rfl,rfl⟩
theorem qP(l:List Int)(x:Int)(hl:l.length≤1048576)(h:Heap):Sat (CT G) 91 [.sl 1 (l.map iA),.int .i64 x] h (fun r h'=>r=.bool (l.any fun a=>decide (x=a))∧h'=h):=by
 have hi:Sat (CT G) 143 [.sl 1 (l.map iA),.int .i64 x] h (fun r h'=>r=.int .i64 (ixQ (fun a=>decide (x=a)) l)∧h'=h):=by
  have hml:(l.map iA).length=l.length:=List.length_map ..
  have F:=hml
  refine sb [.tmp 4] (fn:=Tryz.f143) Tryz.func143 ?_
  intro Q hQ
  refine wk F ?_
  refine lm (fun nL tL hL=>∃(k:Nat),l.length-k=nL∧h=hL∧tL 8=.int .i64 k∧k≤l.length∧(∀a∈l.take k,decide (x=a)=false)) ((fun(k:Nat)=>(l.length-k:Nat)) (0)) ?_ ?_
  ·refine Wkn.refl ⟨0,rfl,az,?_,Nat.zero_le _,by simp⟩
   all_goals first|exact zq F|rfl|omega|trivial|skip
  rintro _ s2 h' ⟨k,rfl,rfl,e8,hk,hp⟩ K2 hK2
  simp only[ai,aj,Nat.reduceEqDiff, ↓reduceIte]at e8
  have F:=F2 F e8
  refine wk F ?_
  refine cq F (fun c1=>?_) (fun c1=>?_)<;>(try exact c1.elim)<;>(refine wk F ?_)
  ·have c2:k<l.length:=by omega
   obtain⟨y,hy,hym⟩:=af c2
   cases he:(x==y)with
   |true=>
    have e:=j3 (p:=fun a=>decide (x=a)) hy he hp
    have F:=F4 F hy c2 he
    try refine sq F ?_
    refine wk F ?_
    refine ee hQ F ?_
    exact Fin.same (.int _ _) ⟨by rw[e],rfl⟩
   |false=>
    have hp1:=kX (p:=fun a=>decide (x=a)) hy he hp
    have F:=F4 F hy c2 he
    try refine sq F ?_
    refine wk F ?_
    refine hK2 _ _ _ (Wkn.refl ⟨k+1,rfl,az,?_,by omega,hp1⟩) (by omega)
    all_goals first|exact zq F|rfl|omega|trivial|skip
  ·have e:=j4 (p:=fun a=>decide (x=a)) (l:=l) fun a ha=>hp a (by rwa [List.take_of_length_le (by omega)])
   refine ee hQ F ?_
   exact Fin.same (.int _ _) ⟨by rw[e],rfl⟩
 rw[← gz]
 refine sb [.tmp 4] (fn:=Tryz.f91) Tryz.func91 ?_
 intro Q hQ
 refine wk trivial ?_
 refine kq trivial (hi) ?_
 refine ee hQ trivial ?_
 exact Fin.same (.bool _) ⟨rfl,rfl⟩
theorem qQ(l:List Bs)(x:Bs)(hl:l.length≤1048576)(h:Heap):Sat (CT G) 93 [.sl 1 (l.map .str),.str x] h (fun r h'=>r=.bool (l.any fun a=>decide (x=a))∧h'=h):=by
 have hi:Sat (CT G) 145 [.sl 1 (l.map .str),.str x] h (fun r h'=>r=.int .i64 (ixQ (fun a=>decide (x=a)) l)∧h'=h):=by
  have hml:(l.map AVal.str).length=l.length:=List.length_map ..
  have F:=hml
  refine sb [.tmp 4] (fn:=Tryz.f145) Tryz.func145 ?_
  intro Q hQ
  refine wk F ?_
  refine lm (fun nL tL hL=>∃(k:Nat),l.length-k=nL∧h=hL∧tL 8=.int .i64 k∧k≤l.length∧(∀a∈l.take k,decide (x=a)=false)) ((fun(k:Nat)=>(l.length-k:Nat)) (0)) ?_ ?_
  ·refine Wkn.refl ⟨0,rfl,az,?_,Nat.zero_le _,by simp⟩
   all_goals first|exact zq F|rfl|omega|trivial|skip
  rintro _ s2 h' ⟨k,rfl,rfl,e8,hk,hp⟩ K2 hK2
  simp only[ai,aj,Nat.reduceEqDiff, ↓reduceIte]at e8
  have F:=F2 F e8
  refine wk F ?_
  refine cq F (fun c1=>?_) (fun c1=>?_)<;>(try exact c1.elim)<;>(refine wk F ?_)
  ·have c2:k<l.length:=by omega
   obtain⟨y,hy,hym⟩:=af c2
   cases he:(x==y)with
   |true=>
    have hx:decide (x=y)=true:=by simpa using he
    have e:=j3 (p:=fun a=>decide (x=a)) hy hx hp
    have F:=F4 F hy c2 he
    try refine sq F ?_
    refine wk F ?_
    refine ee hQ F ?_
    exact Fin.same (.int _ _) ⟨by rw[e],rfl⟩
   |false=>
    have hx:decide (x=y)=false:=by simpa using he
    have hp1:=kX (p:=fun a=>decide (x=a)) hy hx hp
    have F:=F4 F hy c2 he
    try refine sq F ?_
    refine wk F ?_
    refine hK2 _ _ _ (Wkn.refl ⟨k+1,rfl,az,?_,by omega,hp1⟩) (by omega)
    all_goals first|exact zq F|rfl|omega|trivial|skip
  ·have e:=j4 (p:=fun a=>decide (x=a)) (l:=l) fun a ha=>hp a (by rwa [List.take_of_length_le (by omega)])
   refine ee hQ F ?_
   exact Fin.same (.int _ _) ⟨by rw[e],rfl⟩
 rw[← gz]
 refine sb [.tmp 4] (fn:=Tryz.f93) Tryz.func93 ?_
 intro Q hQ
 refine wk trivial ?_
 refine kq trivial (hi) ?_
 refine ee hQ trivial ?_
 exact Fin.same (.bool _) ⟨rfl,rfl⟩
end Go.Av
namespace Go.Av
open Go Go.Proofs Go.RowKit
attribute [local irreducible] WP WPl WPix Sat
variable (G:Nat→Option (List AVal))
theorem pn(p:Bs→Bool)(g:FuncId)(cap:List AVal)(h:Heap)(l:List Bs)(hl:l.length≤1048576)(hg:∀a∈l,Sat (CT G) g ([]++[.str a]++cap) h (fun r h'=>r=.bool (p a)∧h'=h)):
  Sat (CT G) 242 [.sl 1 (l.map .str),.fn (.func g) [] cap] h (fun r h'=>r=.int .i64 (ixQ p l)∧h'=h):=by
 have hml:(l.map AVal.str).length=l.length:=List.length_map ..
 have F:=hml
 refine sb [.tmp 4] (fn:=Tryz.f242) Tryz.func242 ?_
 intro Q hQ
 refine wk F ?_
 refine lm (fun nL tL hL=>∃(k:Nat),l.length-k=nL∧h=hL∧tL 8=.int .i64 k∧k≤l.length∧(∀a∈l.take k,p a=false)) ((fun(k:Nat)=>(l.length-k:Nat)) (0)) ?_ ?_
 ·refine Wkn.refl ⟨0,rfl,az,?_,Nat.zero_le _,by simp⟩
  all_goals first|exact zq F|rfl|omega|trivial|skip
 rintro _ s2 h' ⟨k,rfl,rfl,e8,hk,hp⟩ K2 hK2
 simp only[ai,aj,Nat.reduceEqDiff, ↓reduceIte]at e8
 have F:=F2 F e8
 refine wk F ?_
 refine cq F (fun c1=>?_) (fun c1=>?_)<;>(try exact c1.elim)<;>(refine wk F ?_)
 ·have c2:k<l.length:=by omega
  obtain⟨y,hy,hym⟩:=af c2
  have hc:=hg y hym
  cases he:p y with
  |true=>
   have e:=j3 hy he hp
   rw[he]at hc
   clear he
   have F:=F3 F hy c2
   try refine sq F ?_
   refine wk F ?_
   refine kq F (hc) ?_
   refine ee hQ F ?_
   exact Fin.same (.int _ _) ⟨by rw[e],rfl⟩
  |false=>
   have hp1:=kX hy he hp
   rw[he]at hc
   clear he
   have F:=F3 F hy c2
   try refine sq F ?_
   refine wk F ?_
   refine kq F (hc) ?_
   refine hK2 _ _ _ (Wkn.refl ⟨k+1,rfl,az,?_,by omega,hp1⟩) (by omega)
   all_goals first|exact zq F|rfl|omega|trivial|skip
 ·have e:=j4 (p:=p) (l:=l) fun a ha=>hp a (by rwa [List.take_of_length_le (by omega)])
  refine ee hQ F ?_
  exact Fin.same (.int _ _) ⟨by rw[e],rfl⟩
theorem tC(p:Bs→Bool)(g:FuncId)(cap:List AVal)(h:Heap)(l:List Bs)(hl:l.length≤1048576)(hg:∀a∈l,Sat (CT G) g ([]++[.str a]++cap) h (fun r h'=>r=.bool (p a)∧h'=h)):
  Sat (CT G) 192 [.sl 1 (l.map .str),.fn (.func g) [] cap] h (fun r h'=>r=.bool (l.any p)∧h'=h):=by
 have hc:=pn G p g cap h l hl hg
 rw[← gz]
 refine sb [.tmp 4] (fn:=Tryz.f192) Tryz.func192 ?_
 intro Q hQ
 refine wk trivial ?_
 refine kq trivial (hc) ?_
 refine ee hQ trivial ?_
 exact Fin.same (.bool _) ⟨rfl,rfl⟩
theorem pr(s:Bs)(hs:s.length≤100000)(h:Heap):Sat (CT G) 191 [.str s] h (fun r h'=>r=.tup [.str ((wordsF s).headD []),.bool (!(wordsF s).isEmpty)]∧h'=h):=by
 have hW:=fp G s hs
 generalize wordsF s=ws at*
 have ct:∀(t:Bs) (b:Bool),Clo h.length (.tup [.str t,.bool b]):=fun t b=>.tup _ (fun x hx=>by simp only[List.mem_cons,List.not_mem_nil,or_false]at hx;rcases hx with rfl|rfl;exact .str _;exact .bool _)
 match ws with
 | []=>
  refine sb [.tmp 2,.tmp 3] (fn:=Tryz.f191) Tryz.func191 ?_
  intro Q hQ
  refine wk trivial ?_
  refine kq trivial (hW _) ?_
  refine ee hQ trivial ?_
  exact Fin.same (ct _ _) ⟨rfl,rfl⟩
 |w::l=>
  refine sb [.tmp 2,.tmp 3] (fn:=Tryz.f191) Tryz.func191 ?_
  intro Q hQ
  refine wk trivial ?_
  refine kq trivial (hW _) ?_
  repeat' (first
   | (exfalso;first|omega| (simp at hx;done)| (simp at hx;omega))
   | (refine cq trivial (fun hx=>?_) (fun hx=>?_)<;>(try exact hx.elim)<;>(refine wk trivial ?_))
   | ((first|refine gq trivial (fun hx=>?_) (fun hx=>?_)|refine pq trivial (fun hx=>?_) (fun hx=>?_))<;>(try exact hx.elim)<;>(try refine sq trivial ?_)<;>(refine wk trivial ?_)))
  refine ee hQ trivial ?_
  exact Fin.same (ct _ _) ⟨rfl,rfl⟩
def hasG(p:Bs→Bs→Bool)(s w:Bs):Bool:=match wordsF w with
 | []=>false
 |f::_=>(wordsF s).any fun x=>p x f
theorem qR(p:Bs→Bs→Bool)(g:FuncId)(hg:∀x f h,Sat (CT G) g ([]++[.str x,.str f]++[]) h (fun r h'=>r=.bool (p x f)∧h'=h))(x f:Bs)(h:Heap):
  Sat (CT G) 194 ([]++[.str x]++[.hp h.length 0 0 0,.hp (h.length+1) 0 0 0]) (h++[.row 163 1 0 [.fn (.func g) [] []],.row 9 1 0 [.str f]]) (fun r h'=>r=.bool (p x f)∧h'=h++[.row 163 1 0 [.fn (.func g) [] []],.row 9 1 0 [.str f]]):=by
 have hc:=hg x f
 generalize p x f=b at*
 have F:= @aA
 refine sb [.tmp 4] (fn:=Tryz.f194) Tryz.func194 ?_
 intro Q hQ
 refine wk F ?_
 refine kq F (hc _) ?_
 refine ee hQ F ?_
 exact Fin.same (.bool _) ⟨rfl,rfl⟩
theorem kC(p:Bs→Bs→Bool)(g:FuncId)(hg:∀x f h,Sat (CT G) g ([]++[.str x,.str f]++[]) h (fun r h'=>r=.bool (p x f)∧h'=h))(s w:Bs)(hs:s.length≤100000)(hw:w.length≤100000)(h:Heap):
  Sat (CT G) 146 [.str s,.str w,.fn (.func g) [] []] h (fun r h'=>r=.bool (hasG p s w)∧h'=h):=by
 have hF:=pr G w hw
 have hW:=fp G s hs
 have hwl:(wordsF s).length≤1048576:=by
  unfold wordsF
  rw[List.length_map]
  have h1:=ma (foldS s)
  have h2:=d9 s
  omega
 unfold hasG
 generalize wordsF w=ws at*
 generalize wordsF s=vs at*
 match ws with
 | []=>
  simp only[List.headD_nil,List.isEmpty_nil,Bool.not_true]at hF
  refine sb [.tmp 6] (fn:=Tryz.f146) Tryz.func146 ?_
  intro Q hQ
  refine wk trivial ?_
  refine kq trivial (hF _) ?_
  refine ee hQ trivial ?_
  exact Fin.plain (.bool _) ⟨rfl,rfl⟩
 |f::l=>
  simp only[List.headD_cons,List.isEmpty_cons,Bool.not_false]at hF
  have ha:=tC G (fun x=>p x f) 194 [.hp h.length 0 0 0,.hp (h.length+1) 0 0 0] _ vs hwl fun x _=>qR G p g hg x f h
  refine sb [.tmp 6] (fn:=Tryz.f146) Tryz.func146 ?_
  intro Q hQ
  refine wk trivial ?_
  refine kq trivial (hF _) ?_
  refine kq trivial (hW _) ?_
  refine kq trivial (ha) ?_
  refine ee hQ trivial ?_
  exact Fin.plain (.bool _) ⟨rfl,rfl⟩
def hasF(s w:Bs):Bool:=hasG (fun x f=>decide (x=f)) s w
def bgnF(s w:Bs):Bool:=hasG (fun x f=>Lib.hasPrefix x f) s w
theorem tD(s w:Bs)(hs:s.length≤100000)(hw:w.length≤100000)(h:Heap):Sat (CT G) 94 [.str s,.str w] h (fun r h'=>r=.bool (hasF s w)∧h'=h):=by
 have hc:=kC G (fun x f=>decide (x=f)) 147 (fun x f h=>by
  refine sb [.tmp 4] (fn:=Tryz.f147) Tryz.func147 ?_
  intro Q hQ
  refine wk trivial ?_
  refine ee hQ trivial ?_
  exact Fin.same (.bool _) ⟨by congr 1;rw[Bool.eq_iff_iff];simp,rfl⟩) s w hs hw
 unfold hasF
 refine sb [.tmp 4] (fn:=Tryz.f94) Tryz.func94 ?_
 intro Q hQ
 refine wk trivial ?_
 refine kq trivial (hc _) ?_
 refine ee hQ trivial ?_
 exact Fin.same (.bool _) ⟨rfl,rfl⟩
theorem nh(s w:Bs)(hs:s.length≤100000)(hw:w.length≤100000)(h:Heap):Sat (CT G) 95 [.str s,.str w] h (fun r h'=>r=.bool (bgnF s w)∧h'=h):=by
 have hc:=kC G (fun x f=>Lib.hasPrefix x f) 148 (fun x f h=>fC G x f h) s w hs hw
 unfold bgnF
 refine sb [.tmp 4] (fn:=Tryz.f95) Tryz.func95 ?_
 intro Q hQ
 refine wk trivial ?_
 refine kq trivial (hc _) ?_
 refine ee hQ trivial ?_
 exact Fin.same (.bool _) ⟨rfl,rfl⟩
end Go.Av
namespace Go.Av
open Go Go.Proofs Go.RowKit
attribute [local irreducible] WP WPl WPix Sat
def leafF(s:PS)(t:It)(op num:Int)(tx:Bs):Bool:=
 if op=1 then true else if op=6 then decide (t.feed=num)else if op=7 then(undF s num).any (fun a=>decide (t.feed=a))
 else if op=8 then t.tags.any (fun a=>decide (tx=a))else if op=9 then !t.read else if op=10 then t.star
 else if op=11 then hasF t.title tx else if op=12 then bgnF t.title tx else if op=13 then decide (t.date<num)else if op=14 then decide (t.date≥num)
 else if op=15 then decide (t.date>IntKind.i64.wrap (s.clock-IntKind.i64.wrap (num*86400)))else false
namespace Qy
mutual
def bel(s:PS)(t:It):Qy→Bool
 | .mk op num tx ks=>if op=3 then belA s t ks else if op=4 then belO s t ks else if op=5 then !belO s t ks else leafF s t op num tx
def belA(s:PS)(t:It):List Qy→Bool
 | []=>true
 |k::ks=>k.bel s t&&belA s t ks
def belO(s:PS)(t:It):List Qy→Bool
 | []=>false
 |k::ks=>k.bel s t||belO s t ks
end
theorem belA_eq(s:PS)(t:It):∀ks:List Qy,belA s t ks= !ks.any fun k=> !k.bel s t
 | []=>rfl
 |k::ks=>by rw[belA,belA_eq s t ks,List.any_cons,Bool.not_or,Bool.not_not]
theorem belO_eq(s:PS)(t:It):∀ks:List Qy,belO s t ks=ks.any fun k=>k.bel s t
 | []=>rfl
 |k::ks=>by rw[belO,belO_eq s t ks,List.any_cons]
end Qy
def lsA(l:List Int):AVal:=.sl 1 (l.map iA)
def am(M:ML Int (List Int))(c:Nat):Blk:=.mp (encM iA lsA M) c
def ar(n a:Nat):Blk:=.row 158 2 0 [.agg [.hp (n+8) 0 0 0,.hm a]]
def Gd(s:PS)(x:ML Int (List Int)×Nat):Prop:=WFM x.1 x.2∧∀id l,lkM x.1 id=some l→l=undF s id
def sa(Y:Heap)(n:Nat)(s:PS)(a:Nat)(x:ML Int (List Int)×Nat):Heap:=twB Y n s a (am x.1 x.2) (ar n a)
theorem qS(M:ML Int (List Int))(c N:Nat):CloB N (am M c):=bB (fun _=>.int _ _) (fun l=>Clo.sl _ _ fun x hx=>by obtain⟨y,_,rfl⟩:=List.mem_map.1 hx;exact .int _ _) M
theorem qT{n a N:Nat}(hn:n+9≤a)(h:a+2≤N):CloB N (ar n a):=fun c hc=>by
 simp only[List.mem_singleton]at hc
 subst hc
 exact .agg _ fun x hx=>by
  simp only[List.mem_cons,List.not_mem_nil,or_false]at hx
  rcases hx with rfl|rfl
  ·exact .hp _ _ _ _ (by omega)
  ·exact .hm _ (by omega)
section
variable {Y:Heap} {n a:Nat} {s:PS} {x:ML Int (List Int)×Nat}
@[go_sem] theorem G9(hn:n+9≤a)(hm:a+2≤Y.length)(j:Heap):sa Y n s a x++j=sa (Y++j) n s a x:=wI hn hm j
@[go_sem] theorem Ga(hn:n+9≤a)(hm:a+2≤Y.length):(sa Y n s a x).length=Y.length:=wJ hn hm
@[go_sem] theorem Gb(hn:n+9≤a)(hm:a+2≤Y.length){p:Nat}(u:Nat)(hp:a+2≤p):getRow (sa Y n s a x) p u=getRow Y p u:=wK hn hm u hp
@[go_sem] theorem Gc(hn:n+9≤a)(hm:a+2≤Y.length){p:Nat}(b:Blk)(hp:a+2≤p):(sa Y n s a x).set p b=sa (Y.set p b) n s a x:=wL hn hm b hp
@[go_sem] theorem GP(hn:n+9≤a)(hm:a+2≤Y.length):getRow (sa Y n s a x) (a+1) 0=some (158,2,[.agg [.hp (n+8) 0 0 0,.hm a]]):=zp hn hm 0
@[go_sem] theorem GQ(hn:n+9≤a)(hm:a+2≤Y.length):mapAt (sa Y n s a x) a=some (encM iA lsA x.1,x.2):=zr hn hm
@[go_sem] theorem GR(hn:n+9≤a)(hm:a+2≤Y.length)(M:ML Int (List Int))(c:Nat):(sa Y n s a x).set a (.mp (encM iA lsA M) c)=sa Y n s a (M,c):=zt hn hm _
@[go_sem] theorem FG(n:Nat)(l:List AVal):softA (.sl n l)=.sl n l:=(rfl)
@[go_sem] theorem GS(c:Nat)(l:ML Int (List Int))(x:Int)(ls:List Int):putM (encM iA lsA l) c (.int .i64 x) (.sl 1 (ls.map iA)) (ixM l x)=.mp (encM iA lsA (upM l c x ls)) (ckM l c x):=ig c l x ls rfl
theorem bP{j:Heap}{y:ML Int (List Int)×Nat}{R:AVal→Heap→Prop}{r:AVal}(hn:n+9≤a)(hm:a+2≤Y.length)(hc:∀N,Clo N r)(hR:R r (sa Y n s a y)):Fin (sa Y n s a x) (sa (Y++j) n s a y) R r:=
 jc hn hm (qS _ _ _) (qT hn hm) (hc _) hR
theorem gJ(hn:n+9≤a)(hm:a+2≤Y.length):FinW fun x=>sa Y n s a x:=fun x y r R hc hR=>nR hn hm (qS _ _ _) (qT hn hm) (hc _) hR
end
variable (G:Nat→Option (List AVal))
theorem ni(s:PS)(h:s.Inv)(id:Int){Y:Heap}{n a:Nat}(hn:n+9≤a)(hm:a+2≤Y.length)(x:ML Int (List Int)×Nat)(hx:Gd s x):
  Sat (CT G) 92 [.hp (a+1) 0 0 0,.int .i64 id] (sa Y n s a x) (fun r h'=>r=.sl 1 ((undF s id).map iA)∧∃y,Gd s y∧h'=sa Y n s a y):=by
 obtain⟨M,c⟩:=x
 have hci:∀(l:List Int) N,Clo N (.sl 1 (l.map iA)):=fun l N=>Clo.sl _ _ fun x hx=>by obtain⟨y,_,rfl⟩:=List.mem_map.1 hx;exact .int _ _
 cases hl:lkM M id with
 |some l=>
  have:=hx.2 id l hl
  subst this
  have F:=hl
  refine sb [.tmp 4] (fn:=Tryz.f92) Tryz.func92 ?_
  intro Q hQ
  refine wk F ?_
  refine ee hQ F ?_
  exact gJ hn hm _ _ _ _ (hci _) ⟨rfl,_,hx,rfl⟩
 |none=>
  have hU:Sat (CT G) 144 [.hp (n+8) 0 0 0,.int .i64 id] (sa Y n s a (M,c)) (fun r h'=>r=.sl 1 ((undF s id).map iA)∧h'=sa Y n s a (M,c)):=pm G s h id (by rw[bG hm];omega)
  have hx2:Gd s (upM M c id (undF s id),ckM M c id):=⟨hx.1.up _ _,fun k l hk=>by
   rcases aI hk with⟨rfl,rfl⟩| ⟨_,hk⟩
   ·rfl
   ·exact hx.2 k l hk⟩
  generalize undF s id=u at*
  have hns:(none:Option (List Int)).isSome=false:=rfl
  have F:=F2 hl hns
  refine sb [.tmp 4] (fn:=Tryz.f92) Tryz.func92 ?_
  intro Q hQ
  refine wk F ?_
  refine kq F (hU) ?_
  refine ee hQ F ?_
  refine gJ hn hm (M,c) (upM M c id u,ckM M c id) _ _ (hci _) ?_
  exact⟨rfl,_,hx2,rfl⟩
end Go.Av
namespace Go.Av
open Go Go.Proofs Go.RowKit
attribute [local irreducible] WP WPl WPix Sat
variable (G:Nat→Option (List AVal))
def kdF(q:Qy):Bool:=if q.op=3∨q.op=4 then decide (2≤q.kds.length)&&decide (q.kds.length≤16)else if q.op=5 then decide (q.kds.length=1)else decide (q.kds.length=0)
theorem qU(q:Qy)(h:Heap)(_hz:q.sz≤1048576):Sat (CT G) 136 [q.av] h (fun r h'=>r=.bool (kdF q)∧h'=h):=by
 obtain⟨op,num,s,ks⟩:=q
 have hml:(ks.map Qy.av).length=ks.length:=List.length_map ..
 rw[Qy.av_eq]
 show Sat _ _ _ _ (fun r h'=>r=.bool (if op=3∨op=4 then decide (2≤ks.length)&&decide (ks.length≤16)else if op=5 then decide (ks.length=1)else decide (ks.length=0))∧h'=h)
 by_cases k1:op=3∨op=4
 ·rw[if_pos k1]
  rcases k1 with k1|k1
  ·subst k1
   have F:=hml
   refine sb [.tmp 2] (fn:=Tryz.f136) Tryz.func136 ?_
   intro Q hQ
   refine wk F ?_
   repeat' (first
    | (exfalso;omega)
    | (refine cq F (fun hx=>?_) (fun hx=>?_)<;>(try exact hx.elim)<;>(refine wk F ?_))
    | ((first|refine gq F (fun hx=>?_) (fun hx=>?_)|refine pq F (fun hx=>?_) (fun hx=>?_))<;>(try exact hx.elim)<;>(try refine sq F ?_)<;>(refine wk F ?_)))
   all_goals (
    refine ee hQ F ?_
    exact Fin.plain (.bool _) ⟨by congr 1;rw[Bool.eq_iff_iff];simp;try omega,rfl⟩)
  ·subst k1
   have F:=hml
   refine sb [.tmp 2] (fn:=Tryz.f136) Tryz.func136 ?_
   intro Q hQ
   refine wk F ?_
   repeat' (first
    | (exfalso;omega)
    | (refine cq F (fun hx=>?_) (fun hx=>?_)<;>(try exact hx.elim)<;>(refine wk F ?_))
    | ((first|refine gq F (fun hx=>?_) (fun hx=>?_)|refine pq F (fun hx=>?_) (fun hx=>?_))<;>(try exact hx.elim)<;>(try refine sq F ?_)<;>(refine wk F ?_)))
   all_goals (
    refine ee hQ F ?_
    exact Fin.plain (.bool _) ⟨by congr 1;rw[Bool.eq_iff_iff];simp;try omega,rfl⟩)
 rw[if_neg k1]
 have d1:(op==3)=false:=by simp;omega
 have d2:(op==4)=false:=by simp;omega
 by_cases k2:op=5
 ·subst k2
  rw[if_pos rfl]
  have F:=F3 hml d1 d2
  refine sb [.tmp 2] (fn:=Tryz.f136) Tryz.func136 ?_
  intro Q hQ
  refine wk F ?_
  repeat' (first
   | (exfalso;omega)
   | (refine cq F (fun hx=>?_) (fun hx=>?_)<;>(try exact hx.elim)<;>(refine wk F ?_))
   | ((first|refine gq F (fun hx=>?_) (fun hx=>?_)|refine pq F (fun hx=>?_) (fun hx=>?_))<;>(try exact hx.elim)<;>(try refine sq F ?_)<;>(refine wk F ?_)))
  all_goals (
   refine ee hQ F ?_
   exact Fin.plain (.bool _) ⟨by congr 1;rw[Bool.eq_iff_iff];simp;try omega,rfl⟩)
 rw[if_neg k2]
 have d3:(op==5)=false:=by simp[k2]
 have F:=F4 hml d1 d2 d3
 refine sb [.tmp 2] (fn:=Tryz.f136) Tryz.func136 ?_
 intro Q hQ
 refine wk F ?_
 repeat' (first
  | (exfalso;omega)
  | (refine cq F (fun hx=>?_) (fun hx=>?_)<;>(try exact hx.elim)<;>(refine wk F ?_))
  | ((first|refine gq F (fun hx=>?_) (fun hx=>?_)|refine pq F (fun hx=>?_) (fun hx=>?_))<;>(try exact hx.elim)<;>(try refine sq F ?_)<;>(refine wk F ?_)))
 all_goals (
  refine ee hQ F ?_
  exact Fin.plain (.bool _) ⟨by congr 1;rw[Bool.eq_iff_iff];simp;try omega,rfl⟩)
def txF(q:Qy):Bool:=if q.op=8 then L0.tag q.txt else if q.op=11∨q.op=12 then isF q.txt else decide (q.txt=[])
theorem qV(q:Qy)(h:Heap)(hz:q.sz≤100000):Sat (CT G) 135 [q.av] h (fun r h'=>r=.bool (txF q)∧h'=h):=by
 obtain⟨op,num,s,ks⟩:=q
 rw[Qy.sz]at hz
 have hT:=fun h=>mc G s h
 have hW:=fun h=>nP G s (by omega) h
 rw[Qy.av_eq]
 show Sat _ _ _ _ (fun r h'=>r=.bool (if op=8 then L0.tag s else if op=11∨op=12 then isF s else decide (s=[]))∧h'=h)
 generalize L0.tag s=e1 at*
 generalize isF s=e2 at*
 by_cases k1:op=8
 ·rw[if_pos k1]
  subst k1
  refine sb [.tmp 2] (fn:=Tryz.f135) Tryz.func135 ?_
  intro Q hQ
  refine wk trivial ?_
  refine kq trivial (hT _) ?_
  refine ee hQ trivial ?_
  exact Fin.plain (.bool _) ⟨rfl,rfl⟩
 rw[if_neg k1]
 have d1:(op==8)=false:=by simp[k1]
 by_cases k2:op=11
 ·subst k2
  refine sb [.tmp 2] (fn:=Tryz.f135) Tryz.func135 ?_
  intro Q hQ
  refine wk trivial ?_
  refine kq trivial (hW _) ?_
  refine ee hQ trivial ?_
  exact Fin.plain (.bool _) ⟨rfl,rfl⟩
 by_cases k3:op=12
 ·subst k3
  refine sb [.tmp 2] (fn:=Tryz.f135) Tryz.func135 ?_
  intro Q hQ
  refine wk trivial ?_
  refine kq trivial (hW _) ?_
  refine ee hQ trivial ?_
  exact Fin.plain (.bool _) ⟨rfl,rfl⟩
 rw[if_neg (by omega)]
 have d2:(op==11)=false:=by simp[k2]
 have d3:(op==12)=false:=by simp[k3]
 have F:=F3 d1 d2 d3
 refine sb [.tmp 2] (fn:=Tryz.f135) Tryz.func135 ?_
 intro Q hQ
 refine wk F ?_
 refine ee hQ F ?_
 exact Fin.plain (.bool _) ⟨by congr 1;rw[Bool.eq_iff_iff];simp,rfl⟩
end Go.Av
namespace Go.Av
open Go Go.Proofs Go.RowKit
attribute [local irreducible] WP WPl WPix Sat
variable (G:Nat→Option (List AVal))
def nuF(op n:Int):Bool:=if op=6 then decide (1≤n)&&decide (n≤1048576)else if op=7 then decide (0≤n)&&decide (n≤1048576)else if op=13∨op=14 then momF n else if op=15 then decide (1≤n)&&decide (n≤36500)else decide (n=0)
theorem nj(q:Qy)(h:Heap):Sat (CT G) 134 [q.av] h (fun r h'=>r=.bool (nuF q.op q.num)∧h'=h):=by
 obtain⟨op,num,s,ks⟩:=q
 rw[Qy.av_eq]
 show Sat _ _ _ _ (fun r h'=>r=.bool (nuF op num)∧h'=h)
 unfold nuF
 by_cases k1:op=6
 ·rw[if_pos k1]
  subst k1
  refine sb [.tmp 2] (fn:=Tryz.f134) Tryz.func134 ?_
  intro Q hQ
  refine wk trivial ?_
  repeat' (first
   | (exfalso;omega)
   | (refine cq trivial (fun hx=>?_) (fun hx=>?_)<;>(try exact hx.elim)<;>(refine wk trivial ?_))
   | ((first|refine gq trivial (fun hx=>?_) (fun hx=>?_)|refine pq trivial (fun hx=>?_) (fun hx=>?_))<;>(try exact hx.elim)<;>(try refine sq trivial ?_)<;>(refine wk trivial ?_)))
  all_goals (
   refine ee hQ trivial ?_
   exact Fin.plain (.bool _) ⟨by congr 1;rw[Bool.eq_iff_iff];simp;try omega,rfl⟩)
 rw[if_neg k1]
 have d1:(op==6)=false:=by simp[k1]
 by_cases k2:op=7
 ·rw[if_pos k2]
  subst k2
  refine sb [.tmp 2] (fn:=Tryz.f134) Tryz.func134 ?_
  intro Q hQ
  refine wk trivial ?_
  repeat' (first
   | (exfalso;omega)
   | (refine cq trivial (fun hx=>?_) (fun hx=>?_)<;>(try exact hx.elim)<;>(refine wk trivial ?_))
   | ((first|refine gq trivial (fun hx=>?_) (fun hx=>?_)|refine pq trivial (fun hx=>?_) (fun hx=>?_))<;>(try exact hx.elim)<;>(try refine sq trivial ?_)<;>(refine wk trivial ?_)))
  all_goals (
   refine ee hQ trivial ?_
   exact Fin.plain (.bool _) ⟨by congr 1;rw[Bool.eq_iff_iff];simp;try omega,rfl⟩)
 rw[if_neg k2]
 have d2:(op==7)=false:=by simp[k2]
 by_cases k3:op=13∨op=14
 ·rw[if_pos k3]
  have hd:=nQ G num
  rcases k3 with k3|k3
  ·subst k3
   refine sb [.tmp 2] (fn:=Tryz.f134) Tryz.func134 ?_
   intro Q hQ
   refine wk trivial ?_
   refine(hd _).mono ?_
   rintro r h' ⟨⟨_,_,_,_,_,_,rfl⟩,rfl⟩
   cases hm:momF num
   ·have F:=hm
    try refine sq F ?_
    refine wk F ?_
    refine ee hQ F ?_
    exact Fin.plain (.bool _) ⟨rfl,rfl⟩
   ·have F:=hm
    try refine sq F ?_
    refine wk F ?_
    refine ee hQ F ?_
    exact Fin.plain (.bool _) ⟨rfl,rfl⟩
  ·subst k3
   refine sb [.tmp 2] (fn:=Tryz.f134) Tryz.func134 ?_
   intro Q hQ
   refine wk trivial ?_
   refine(hd _).mono ?_
   rintro r h' ⟨⟨_,_,_,_,_,_,rfl⟩,rfl⟩
   cases hm:momF num
   ·have F:=hm
    try refine sq F ?_
    refine wk F ?_
    refine ee hQ F ?_
    exact Fin.plain (.bool _) ⟨rfl,rfl⟩
   ·have F:=hm
    try refine sq F ?_
    refine wk F ?_
    refine ee hQ F ?_
    exact Fin.plain (.bool _) ⟨rfl,rfl⟩
 rw[if_neg k3]
 have d3:(op==13)=false:=by simp;omega
 have d4:(op==14)=false:=by simp;omega
 by_cases k4:op=15
 ·rw[if_pos k4]
  subst k4
  refine sb [.tmp 2] (fn:=Tryz.f134) Tryz.func134 ?_
  intro Q hQ
  refine wk trivial ?_
  repeat' (first
   | (exfalso;omega)
   | (refine cq trivial (fun hx=>?_) (fun hx=>?_)<;>(try exact hx.elim)<;>(refine wk trivial ?_))
   | ((first|refine gq trivial (fun hx=>?_) (fun hx=>?_)|refine pq trivial (fun hx=>?_) (fun hx=>?_))<;>(try exact hx.elim)<;>(try refine sq trivial ?_)<;>(refine wk trivial ?_)))
  all_goals (
   refine ee hQ trivial ?_
   exact Fin.plain (.bool _) ⟨by congr 1;rw[Bool.eq_iff_iff];simp;try omega,rfl⟩)
 rw[if_neg k4]
 have d5:(op==15)=false:=by simp[k4]
 have F:=F5 d1 d2 d3 d4 d5
 refine sb [.tmp 2] (fn:=Tryz.f134) Tryz.func134 ?_
 intro Q hQ
 refine wk F ?_
 refine ee hQ F ?_
 exact Fin.plain (.bool _) ⟨by congr 1,rfl⟩
end Go.Av
namespace Go.Av
open Go Go.Proofs Go.RowKit
attribute [local irreducible] WP WPl WPix Sat
variable (G:Nat→Option (List AVal))
theorem rj(t:Bs)(ht:t.length≤10000)(h:Heap):Sat (CT G) 139 [.str t] h (fun r h'=>r=.bool (isF t)∧h'=h):=by
 have hwl:(wordsF t).length≤1000000:=by
  have h1:=fu (runesF (foldS t)) [] []
  have h2:=bX (foldS t).length (foldS t) (Nat.le_refl _)
  have h3:=d9 t
  rw[← fq]at h1
  simp only[List.length_nil]at h1
  omega
 have hS:=kH G (wordsF t) [t] hwl (by simp)
 refine sb [.tmp 2] (fn:=Tryz.f139) Tryz.func139 ?_
 intro Q hQ
 refine wk trivial ?_
 refine kq trivial (jg G t (by omega) _) ?_
 refine kq trivial (hS _) ?_
 refine ee hQ trivial ?_
 exact Fin.same (.bool _) ⟨by simp[isF],rfl⟩
def kdG(op:Int)(n:Nat):Bool:=if op=3∨op=4 then decide (2≤n)&&decide (n≤16)else if op=5 then decide (n=1)else decide (n=0)
def txG(op:Int)(t:Bs):Bool:=if op=8 then L0.tag t else if op=11∨op=12 then isF t else decide (t=[])
def pnG(op num:Int)(t:Bs)(n:Nat):Bool:=decide (1≤op)&&decide (op≤15)&&nuF op num&&txG op t&&kdG op n
theorem Dl(op num:Int)(s:Bs)(ks:List AVal)(h:Heap)(ho:op=1∨op=2∨op=3∨op=4∨op=5∨op=6∨op=7∨op=9∨op=10∨op=15):Sat (CT G) 84 [.agg [.int .i64 op,.int .i64 num,.str s,.sl 4 ks]] h (fun r h'=>r=.bool (pnG op num s ks.length)∧h'=h):=by
 rcases ho with rfl|rfl|rfl|rfl|rfl|rfl|rfl|rfl|rfl|rfl
 all_goals (
  refine sb [.tmp 2] (fn:=Tryz.f84) Tryz.func84 ?_
  intro Q hQ
  refine wk trivial ?_
  repeat' (first
   | (exfalso;omega)
   | (refine cq trivial (fun hx=>?_) (fun hx=>?_)<;>(try exact hx.elim)<;>(refine wk trivial ?_))
   | ((first|refine gq trivial (fun hx=>?_) (fun hx=>?_)|refine pq trivial (fun hx=>?_) (fun hx=>?_))<;>(try exact hx.elim)<;>(try refine sq trivial ?_)<;>(refine wk trivial ?_)))
  all_goals (
   refine ee hQ trivial ?_
   exact Fin.plain (.bool _) ⟨by congr 1;rw[Bool.eq_iff_iff];simp[pnG,nuF,txG,kdG, *];try omega,rfl⟩))
end Go.Av
namespace Go.Av
open Go Go.Proofs Go.RowKit
attribute [local irreducible] WP WPl WPix Sat
variable (G:Nat→Option (List AVal))
theorem Dm(num:Int)(s:Bs)(ks:List AVal)(h:Heap):Sat (CT G) 84 [.agg [.int .i64 8,.int .i64 num,.str s,.sl 4 ks]] h (fun r h'=>r=.bool (pnG 8 num s ks.length)∧h'=h):=by
 have hT:=fun h=>tX G s h
 have hp:pnG 8 num s ks.length=(decide (num=0)&&(L0.tag s&&decide (ks.length=0))):=by
  unfold pnG nuF txG kdG;simp[Bool.and_assoc]
 rw[hp]
 generalize L0.tag s=e at*
 by_cases hn:num=0
 ·subst hn
  cases e
  all_goals (
   refine sb [.tmp 2] (fn:=Tryz.f84) Tryz.func84 ?_
   intro Q hQ
   refine wk trivial ?_
   repeat' (first
    | (exfalso;omega)
    | (refine kq trivial (hT _) ?_)
    | (refine cq trivial (fun hx=>?_) (fun hx=>?_)<;>(try exact hx.elim)<;>(refine wk trivial ?_))
    | ((first|refine gq trivial (fun hx=>?_) (fun hx=>?_)|refine pq trivial (fun hx=>?_) (fun hx=>?_))<;>(try exact hx.elim)<;>(try refine sq trivial ?_)<;>(refine wk trivial ?_)))
   all_goals (
    refine ee hQ trivial ?_
    exact Fin.plain (.bool _) ⟨by first|rfl| (congr 1;rw[Bool.eq_iff_iff];simp),rfl⟩))
 ·have b2:(num==0)=false:=by simpa using hn
  rw[show decide (num=0)=false by simpa using hn,Bool.false_and]
  have F:=b2
  refine sb [.tmp 2] (fn:=Tryz.f84) Tryz.func84 ?_
  intro Q hQ
  refine wk F ?_
  repeat' (first
   | (exfalso;omega)
   | (refine cq F (fun hx=>?_) (fun hx=>?_)<;>(try exact hx.elim)<;>(refine wk F ?_))
   | ((first|refine gq F (fun hx=>?_) (fun hx=>?_)|refine pq F (fun hx=>?_) (fun hx=>?_))<;>(try exact hx.elim)<;>(try refine sq F ?_)<;>(refine wk F ?_)))
  all_goals (
   refine ee hQ F ?_
   exact Fin.plain (.bool _) ⟨rfl,rfl⟩)
theorem Dn(op num:Int)(s:Bs)(hs:s.length≤10000)(ks:List AVal)(h:Heap)(ho:op=11∨op=12):Sat (CT G) 84 [.agg [.int .i64 op,.int .i64 num,.str s,.sl 4 ks]] h (fun r h'=>r=.bool (pnG op num s ks.length)∧h'=h):=by
 have hT:=fun h=>rj G s hs h
 have hp:pnG op num s ks.length=(decide (num=0)&&(isF s&&decide (ks.length=0))):=by
  unfold pnG nuF txG kdG;rcases ho with rfl|rfl<;>simp[Bool.and_assoc]
 rw[hp]
 generalize isF s=e at*
 by_cases hn:num=0
 ·subst hn
  rcases ho with rfl|rfl<;>cases e
  all_goals (
   refine sb [.tmp 2] (fn:=Tryz.f84) Tryz.func84 ?_
   intro Q hQ
   refine wk trivial ?_
   repeat' (first
    | (exfalso;omega)
    | (refine kq trivial (hT _) ?_)
    | (refine cq trivial (fun hx=>?_) (fun hx=>?_)<;>(try exact hx.elim)<;>(refine wk trivial ?_))
    | ((first|refine gq trivial (fun hx=>?_) (fun hx=>?_)|refine pq trivial (fun hx=>?_) (fun hx=>?_))<;>(try exact hx.elim)<;>(try refine sq trivial ?_)<;>(refine wk trivial ?_)))
   all_goals (
    refine ee hQ trivial ?_
    exact Fin.plain (.bool _) ⟨by first|rfl| (congr 1;rw[Bool.eq_iff_iff];simp),rfl⟩))
 ·have b2:(num==0)=false:=by simpa using hn
  rw[show decide (num=0)=false by simpa using hn,Bool.false_and]
  have F:=b2
  rcases ho with rfl|rfl
  all_goals (
   refine sb [.tmp 2] (fn:=Tryz.f84) Tryz.func84 ?_
   intro Q hQ
   refine wk F ?_
   repeat' (first
    | (exfalso;omega)
    | (refine cq F (fun hx=>?_) (fun hx=>?_)<;>(try exact hx.elim)<;>(refine wk F ?_))
    | ((first|refine gq F (fun hx=>?_) (fun hx=>?_)|refine pq F (fun hx=>?_) (fun hx=>?_))<;>(try exact hx.elim)<;>(try refine sq F ?_)<;>(refine wk F ?_)))
   all_goals (
    refine ee hQ F ?_
    exact Fin.plain (.bool _) ⟨rfl,rfl⟩))
theorem Do(hc:GClo (CT G))(op num:Int)(s:Bs)(ks:List AVal)(h:Heap)(ho:op=13∨op=14):Sat (CT G) 84 [.agg [.int .i64 op,.int .i64 num,.str s,.sl 4 ks]] h (fun r h'=>r=.bool (pnG op num s ks.length)∧h'=h):=by
 have hT:=fun h=>tU G hc num h
 have hp:pnG op num s ks.length=(momF num&&(decide (s=[])&&decide (ks.length=0))):=by
  unfold pnG nuF txG kdG;rcases ho with rfl|rfl<;>simp[Bool.and_assoc]
 rw[hp]
 generalize momF num=e at*
 rcases ho with rfl|rfl<;>cases e
 all_goals (
  refine sb [.tmp 2] (fn:=Tryz.f84) Tryz.func84 ?_
  intro Q hQ
  refine wk trivial ?_
  repeat' (first
   | (exfalso;omega)
   | (refine kq trivial (hT _) ?_)
   | (refine cq trivial (fun hx=>?_) (fun hx=>?_)<;>(try exact hx.elim)<;>(refine wk trivial ?_))
   | ((first|refine gq trivial (fun hx=>?_) (fun hx=>?_)|refine pq trivial (fun hx=>?_) (fun hx=>?_))<;>(try exact hx.elim)<;>(try refine sq trivial ?_)<;>(refine wk trivial ?_)))
  all_goals (
   refine ee hQ trivial ?_
   exact Fin.plain (.bool _) ⟨by first|rfl| (congr 1;rw[Bool.eq_iff_iff];simp[*];try omega),rfl⟩))
theorem Dp(op num:Int)(s:Bs)(ks:List AVal)(h:Heap)(ho:¬(1≤op∧op≤15)):Sat (CT G) 84 [.agg [.int .i64 op,.int .i64 num,.str s,.sl 4 ks]] h (fun r h'=>r=.bool false∧h'=h):=by
 have q:∀k:Int,1≤k→k≤15→(op==k)=false:=fun k h1 h2=>by simp;omega
 have q1:=q 1 (by omega) (by omega)
 have q2:=q 2 (by omega) (by omega)
 have q3:=q 3 (by omega) (by omega)
 have q4:=q 4 (by omega) (by omega)
 have q5:=q 5 (by omega) (by omega)
 have q6:=q 6 (by omega) (by omega)
 have q7:=q 7 (by omega) (by omega)
 have q8:=q 8 (by omega) (by omega)
 have q9:=q 9 (by omega) (by omega)
 have q10:=q 10 (by omega) (by omega)
 have q11:=q 11 (by omega) (by omega)
 have q12:=q 12 (by omega) (by omega)
 have q13:=q 13 (by omega) (by omega)
 have q14:=q 14 (by omega) (by omega)
 have q15:=q 15 (by omega) (by omega)
 clear q
 have F:=F2 (F9 q1 q2 q3 q4 q5 q6 q7 q8 q9) (F6 q10 q11 q12 q13 q14 q15)
 refine sb [.tmp 2] (fn:=Tryz.f84) Tryz.func84 ?_
 intro Q hQ
 refine wk F ?_
 repeat' (first
  | (exfalso;omega)
  | (refine cq F (fun hx=>?_) (fun hx=>?_)<;>(try exact hx.elim)<;>(refine wk F ?_))
  | ((first|refine gq F (fun hx=>?_) (fun hx=>?_)|refine pq F (fun hx=>?_) (fun hx=>?_))<;>(try exact hx.elim)<;>(try refine sq F ?_)<;>(refine wk F ?_)))
 all_goals (
  refine ee hQ F ?_
  exact Fin.plain (.bool _) ⟨rfl,rfl⟩)
def pnF(q:Qy):Bool:=pnG q.op q.num q.txt q.kds.length
theorem vf(hc:GClo (CT G))(q:Qy)(h:Heap)(hz:q.sz≤10000):Sat (CT G) 84 [q.av] h (fun r h'=>r=.bool (pnF q)∧h'=h):=by
 obtain⟨op,num,s,ks⟩:=q
 rw[Qy.sz]at hz
 have e:pnF (.mk op num s ks)=pnG op num s (ks.map Qy.av).length:=by rw[List.length_map];rfl
 rw[e,Qy.av_eq]
 by_cases ho:1≤op∧op≤15
 ·by_cases k8:op=8
  ·subst k8;exact Dm G num s _ h
  by_cases k11:op=11∨op=12
  ·exact Dn G op num s (by omega) _ h k11
  by_cases k13:op=13∨op=14
  ·exact Do G hc op num s _ h k13
  exact Dl G op num s _ h (by omega)
 ·have:=Dp G op num s (ks.map Qy.av) h ho
  have e2:pnG op num s (ks.map Qy.av).length=false:=by
   unfold pnG
   have:(decide (1≤op)&&decide (op≤15))=false:=by rw[Bool.and_eq_false_iff,decide_eq_false_iff_not,decide_eq_false_iff_not];omega
   rw[this];rfl
  rw[e2];exact this
def Qy.ok(q:Qy):Bool:=decide (q.dep 1≤12)&&(decide (q.nod≤64)&&q.all pnF)
theorem wO:plP (fun q=>nuF q.op q.num) txF kdF=pnF:=by
 funext ⟨op,num,s,ks⟩
 show(!(decide (op<1)||(decide (op>15)||(!nuF op num||(!txG op s|| !kdG op ks.length)))))=(decide (1≤op)&&decide (op≤15)&&nuF op num&&txG op s&&kdG op ks.length)
 generalize nuF op num=a
 generalize txG op s=b
 generalize kdG op ks.length=c
 rw[Bool.eq_iff_iff]
 simp only[Bool.not_eq_true',Bool.or_eq_false_iff,decide_eq_false_iff_not,Bool.and_eq_true,decide_eq_true_eq,Bool.not_eq_false']
 constructor
 ·rintro⟨h1,h2,h3,h4,h5⟩;exact⟨⟨⟨⟨by omega,by omega⟩,h3⟩,h4⟩,h5⟩
 ·rintro⟨⟨⟨⟨h1,h2⟩,h3⟩,h4⟩,h5⟩;exact⟨by omega,by omega,h3,h4,h5⟩
theorem vg(q:Qy)(h:Heap)(hz:q.sz≤100000):Sat (CT G) 79 [q.av] h (fun r h'=>r=.bool (q.all pnF)∧h'=h):=by
 rw[← wO]
 exact oQ G _ _ _ 100000 (by omega) (fun q h _=>nj G q h) (fun q h hz=>qV G q h hz) (fun q h hz=>qU G q h (by omega)) q h hz
theorem i6(hc:GClo (CT G))(q:Qy)(h:Heap)(hz:q.mx≤9223372036854775807)(h2:q.dep 1≤12→q.sz≤10000):Sat (CT G) 15 [q.av] h (fun r h'=>r=.bool q.ok∧h'=h):=by
 have k1:=fun h=>oO G q h hz
 have k2:=fun hq:q.sz≤10000=>fun h=>sJ G q h (Nat.le_trans hq (by omega))
 have k3:=fun hq:q.sz≤10000=>fun h=>sM G pnF 10000 (by omega) (vf G hc) q h hq
 unfold Qy.ok
 generalize q.all pnF=e3 at*
 generalize q.dep 1=e1 at*
 generalize q.nod=e2 at*
 generalize q.sz=z at*
 obtain⟨yo,yn,ys,yl⟩:=q
 rw[Qy.av_eq]at*
 by_cases b1:e1≤12
 ·have d1:decide (e1≤12)=true:=by simp[b1]
  have k3:=k3 (h2 b1)
  have k2:=k2 (h2 b1)
  by_cases b2:e2≤64
  ·have d2:decide (e2≤64)=true:=by simp[b2]
   have F:=F2 d1 d2
   refine sb [.tmp 2] (fn:=Tryz.f15) Tryz.func15 ?_
   intro Q hQ
   refine wk F ?_
   refine kq F (k1 _) ?_
   refine kq F (k2 _) ?_
   refine kq F (k3 _) ?_
   refine ee hQ F ?_
   exact Fin.plain (.bool _) ⟨by simp,rfl⟩
  ·have d2:decide (e2≤64)=false:=by simp;omega
   have F:=F2 d1 d2
   refine sb [.tmp 2] (fn:=Tryz.f15) Tryz.func15 ?_
   intro Q hQ
   refine wk F ?_
   refine kq F (k1 _) ?_
   refine kq F (k2 _) ?_
   refine ee hQ F ?_
   exact Fin.plain (.bool _) ⟨by simp,rfl⟩
 ·have d1:decide (e1≤12)=false:=by simp;omega
  have F:=d1
  refine sb [.tmp 2] (fn:=Tryz.f15) Tryz.func15 ?_
  intro Q hQ
  refine wk F ?_
  refine kq F (k1 _) ?_
  refine ee hQ F ?_
  exact Fin.plain (.bool _) ⟨by simp,rfl⟩
theorem jh(q:Qy)(h:Heap)(hz:q.mx≤9223372036854775807)(h2:q.dep 1≤12→q.sz≤10000):Sat (CT G) 37 [q.av] h (fun r h'=>r=.int .i64 (if q.ok then 0 else 250)∧h'=h):=by
 have k1:=fun h=>oP G q h hz
 have k2:=fun hq:q.sz≤10000=>fun h=>sL G q h (Nat.le_trans hq (by omega))
 have k3:=fun hq:q.sz≤10000=>fun h=>vg G q h (Nat.le_trans hq (by omega))
 unfold Qy.ok
 generalize q.all pnF=e3 at*
 generalize q.dep 1=e1 at*
 generalize q.nod=e2 at*
 generalize q.sz=z at*
 obtain⟨yo,yn,ys,yl⟩:=q
 rw[Qy.av_eq]at*
 by_cases b1:e1≤12
 ·have d0:decide (e1≤12)=true:=by simp[b1]
  have d1:decide (e1>12)=false:=by simp[b1]
  have k3:=k3 (h2 b1)
  have k2:=k2 (h2 b1)
  rw[d0,Bool.true_and]
  by_cases b2:e2≤64
  ·have d2:decide (e2>64)=false:=by simp[b2]
   have d3:decide (e2≤64)=true:=by simp[b2]
   rw[d3,Bool.true_and]
   have F:=F2 d1 d2
   cases e3 with
   |true=>
    refine sb [.tmp 2] (fn:=Tryz.f37) Tryz.func37 ?_
    intro Q hQ
    refine wk F ?_
    refine kq F (k1 _) ?_
    refine kq F (k2 _) ?_
    refine kq F (k3 _) ?_
    refine ee hQ F ?_
    exact Fin.plain (.int _ _) ⟨rfl,rfl⟩
   |false=>
    refine sb [.tmp 2] (fn:=Tryz.f37) Tryz.func37 ?_
    intro Q hQ
    refine wk F ?_
    refine kq F (k1 _) ?_
    refine kq F (k2 _) ?_
    refine kq F (k3 _) ?_
    refine ee hQ F ?_
    exact Fin.plain (.int _ _) ⟨rfl,rfl⟩
  ·have d2:decide (e2>64)=true:=by simp;omega
   have d3:decide (e2≤64)=false:=by simp;omega
   rw[d3]
   have F:=F2 d1 d2
   refine sb [.tmp 2] (fn:=Tryz.f37) Tryz.func37 ?_
   intro Q hQ
   refine wk F ?_
   refine kq F (k1 _) ?_
   refine kq F (k2 _) ?_
   refine ee hQ F ?_
   exact Fin.plain (.int _ _) ⟨rfl,rfl⟩
 ·have d1:decide (e1>12)=true:=by simp;omega
  have d0:decide (e1≤12)=false:=by simp;omega
  rw[d0]
  have F:=d1
  refine sb [.tmp 2] (fn:=Tryz.f37) Tryz.func37 ?_
  intro Q hQ
  refine wk F ?_
  refine kq F (k1 _) ?_
  refine ee hQ F ?_
  exact Fin.plain (.int _ _) ⟨rfl,rfl⟩
end Go.Av
namespace Go.Av
open Go Go.Proofs Go.RowKit
attribute [local irreducible] WP WPl WPix Sat
def BelR(G:Nat→Option (List AVal))(s:PS)(n a:Nat)(t:It)(q:Qy):Prop:=∀(Y:Heap) (x:ML Int (List Int)×Nat),a+2≤Y.length→Gd s x→
 Sat (CT G) 49 [.hp (a+1) 0 0 0,q.av,t.av] (sa Y n s a x) (fun r h'=>r=.bool (q.bel s t)∧∃y,Gd s y∧h'=sa Y n s a y)
variable (G:Nat→Option (List AVal))
section
variable {s:PS} {n a:Nat} {t:It}
theorem iz{k:Qy}(ih:BelR G s n a t k)(hn:n+9≤a){Y:Heap}(hm:a+2≤Y.length){p1 p2:Nat}(l1:a+2≤p1)(l2:a+2≤p2)
  (h1:getRow Y p1 0=some (110,1,[.hp (a+1) 0 0 0]))(h2:getRow Y p2 0=some (56,9,[t.av]))(x:ML Int (List Int)×Nat)(hx:Gd s x):
  Sat (CT G) 88 ([]++[k.av]++[.hp p1 0 0 0,.hp p2 0 0 0]) (sa Y n s a x) (fun r h'=>r=.bool (k.bel s t)∧∃y,Gd s y∧h'=sa Y n s a y):=by
 have q1:=bz h1
 have q2:=bz h2
 have hm1:∀j:Heap,a+2≤(Y++j).length:=fun j=>by simp;omega
 have hc:=fun Y hm=>ih Y x hm hx
 generalize k.bel s t=b at*
 obtain⟨ko,kn,ks,kl⟩:=k
 rw[Qy.av_eq]at*
 have F:=Ak hm hn hm1 h1 h2 q1 q2 l1 l2 @aA
 refine sb [.tmp 4] (fn:=Tryz.f88) Tryz.func88 ?_
 intro Q hQ
 refine wk F ?_
 refine(hc _ (by simp;omega)).mono ?_
 rintro r h' ⟨rfl,y,hy,rfl⟩
 try refine sq F ?_
 refine wk F ?_
 refine ee hQ F ?_
 exact bP hn hm (fun N=>.bool _) ⟨rfl,y,hy,rfl⟩
theorem tY{k:Qy}(ih:BelR G s n a t k)(hn:n+9≤a){Y:Heap}(hm:a+2≤Y.length){p1 p2 p3:Nat}(l1:a+2≤p1)(l2:a+2≤p2)(l3:a+2≤p3)
  (h1:getRow Y p1 0=some (110,1,[.hp (a+1) 0 0 0]))(h2:getRow Y p2 0=some (56,9,[t.av]))
  (h3:getRow Y p3 0=some (29,1,[.fn (.func 88) [] [.hp p1 0 0 0,.hp p2 0 0 0]]))(x:ML Int (List Int)×Nat)(hx:Gd s x):
  Sat (CT G) 90 ([]++[k.av]++[.hp p3 0 0 0]) (sa Y n s a x) (fun r h'=>r=.bool (!k.bel s t)∧∃y,Gd s y∧h'=sa Y n s a y):=by
 have q1:=bz h1
 have q2:=bz h2
 have q3:=bz h3
 have hm1:∀j:Heap,a+2≤(Y++j).length:=fun j=>by simp;omega
 have hc:=fun j:Heap=>iz G ih hn (Y:=Y++j) (hm1 j) l1 l2 (by rw[bg _ q1];exact h1) (by rw[bg _ q2];exact h2) x hx
 generalize k.bel s t=b at*
 clear ih
 obtain⟨ko,kn,ks,kl⟩:=k
 rw[Qy.av_eq]at*
 have F:=F7 hm hn hm1 h3 q3 l3 @aA
 refine sb [.tmp 3] (fn:=Tryz.f90) Tryz.func90 ?_
 intro Q hQ
 refine wk F ?_
 refine(hc _).mono ?_
 rintro r h' ⟨rfl,y,hy,rfl⟩
 try refine sq F ?_
 refine wk F ?_
 refine ee hQ F ?_
 exact bP hn hm (fun N=>.bool _) ⟨rfl,y,hy,rfl⟩
end
theorem wP{s:PS}{t:It}{op num:Int}{tx:Bs}{ks:List Qy}(h3:op≠3)(h4:op≠4)(h5:op≠5):(Qy.mk op num tx ks).bel s t=leafF s t op num tx:=by
 rw[Qy.bel,if_neg h3,if_neg h4,if_neg h5]
theorem vh(s:PS)(hI:s.Inv)(t:It)(ht:t.title.length≤256)(htg:t.tags.length≤1048576){n a:Nat}(hn:n+9≤a):∀q:Qy,q.sz≤10000→q.all pnF=true→BelR G s n a t q:=by
 refine Qy.ind fun op num tx ks ih=>?_
 intro hz hp Y x hm hx
 have hkl:=Qy.szL_len ks
 have hkm:∀k∈ks,k.sz≤Qy.szL ks:=fun k hk=>Qy.szL_mem hk
 rw[Qy.sz]at hz
 rw[Qy.all,Bool.and_eq_true,Qy.allL_eq,List.all_eq_true]at hp
 obtain⟨hpk,hpn⟩:=hp
 have ihk:∀k∈ks,BelR G s n a t k:=fun k hk=>ih k hk (by have:=hkm k hk;omega) (hpk k hk)
 have hpg:pnG op num tx ks.length=true:=hpn
 have hml:(ks.map Qy.av).length=ks.length:=List.length_map ..
 have hm1:∀j:Heap,a+2≤(Y++j).length:=fun j=>by simp;omega
 have hra:1≤op∧op≤15:=by
  unfold pnG at hpg
  simp only[Bool.and_eq_true,decide_eq_true_eq]at hpg
  exact hpg.1.1.1
 rw[Qy.av_eq]
 have F:=F5 hm hn hm1 hml @aA
 by_cases k3:op=3
 ·subst k3
  have hb:(Qy.mk 3 num tx ks).bel s t= !ks.any fun k=> !k.bel s t:=by rw[Qy.bel,if_pos rfl,Qy.belA_eq]
  rw[hb]
  have hany:=ga G (gJ (s:=s) hn (hm1 [.row 110 1 0 [.hp (a+1) 0 0 0],.row 25 4 0 [.agg [.int .i64 3,.int .i64 num,.str tx,.sl 4 (ks.map Qy.av)]],.row 56 9 0 [t.av],.row 29 1 0 [.fn (.func 88) [] [.hp Y.length 0 0 0,.hp (Y.length+2) 0 0 0]]]))
   (fun k=> !k.bel s t) 90 [.hp (Y.length+3) 0 0 0] ks (by omega) (fun k hk x hx=>tY G (ihk k hk) hn (hm1 _) (p1:=Y.length) (p2:=Y.length+2) (by omega) (by omega) (by omega) (by rw[aJ _ rfl];rfl) (by rw[bk _ rfl];rfl) (by rw[bk _ rfl];rfl) x hx) x hx
  generalize (ks.any fun k=> !k.bel s t)=b at*
  refine sb [.tmp 6] (fn:=Tryz.f49) Tryz.func49 ?_
  intro Q hQ
  refine wk F ?_
  refine hany.mono ?_
  rintro r h' ⟨rfl,y,hy,rfl⟩
  try refine sq F ?_
  refine wk F ?_
  refine ee hQ F ?_
  exact bP hn hm (fun N=>.bool _) ⟨rfl,y,hy,rfl⟩
 by_cases k4:op=4
 ·subst k4
  have hb:(Qy.mk 4 num tx ks).bel s t=ks.any fun k=>k.bel s t:=by rw[Qy.bel,if_neg (by decide),if_pos rfl,Qy.belO_eq]
  rw[hb]
  have hany:=ga G (gJ (s:=s) hn (hm1 [.row 110 1 0 [.hp (a+1) 0 0 0],.row 25 4 0 [.agg [.int .i64 4,.int .i64 num,.str tx,.sl 4 (ks.map Qy.av)]],.row 56 9 0 [t.av],.row 29 1 0 [.fn (.func 88) [] [.hp Y.length 0 0 0,.hp (Y.length+2) 0 0 0]]]))
   (fun k=>k.bel s t) 88 [.hp Y.length 0 0 0,.hp (Y.length+2) 0 0 0] ks (by omega) (fun k hk x hx=>iz G (ihk k hk) hn (hm1 _) (p1:=Y.length) (p2:=Y.length+2) (by omega) (by omega) (by rw[aJ _ rfl];rfl) (by rw[bk _ rfl];rfl) x hx) x hx
  generalize (ks.any fun k=>k.bel s t)=b at*
  refine sb [.tmp 6] (fn:=Tryz.f49) Tryz.func49 ?_
  intro Q hQ
  refine wk F ?_
  refine hany.mono ?_
  rintro r h' ⟨rfl,y,hy,rfl⟩
  try refine sq F ?_
  refine wk F ?_
  refine ee hQ F ?_
  exact bP hn hm (fun N=>.bool _) ⟨rfl,y,hy,rfl⟩
 by_cases k5:op=5
 ·subst k5
  have hl1:ks.length=1:=by
   unfold pnG kdG at hpg
   simp only[Bool.and_eq_true]at hpg
   simpa using hpg.2
  obtain⟨k,rfl⟩:∃k,ks=[k]:=by
   match ks,hl1 with
   | [k],_=>exact⟨k,rfl⟩
  have hb:(Qy.mk 5 num tx [k]).bel s t= !k.bel s t:=by rw[Qy.bel,if_neg (by decide),if_neg (by decide),if_pos rfl,Qy.belO,Qy.belO,Bool.or_false]
  rw[hb]
  have hc:=iz G (ihk k (by simp)) hn (hm1 [.row 110 1 0 [.hp (a+1) 0 0 0],.row 25 4 0 [.agg [.int .i64 5,.int .i64 num,.str tx,.sl 4 ([k].map Qy.av)]],.row 56 9 0 [t.av],.row 29 1 0 [.fn (.func 88) [] [.hp Y.length 0 0 0,.hp (Y.length+2) 0 0 0]]])
   (p1:=Y.length) (p2:=Y.length+2) (by omega) (by omega) (by rw[aJ _ rfl];rfl) (by rw[bk _ rfl];rfl) x hx
  clear ih ihk hkm hpk hb
  generalize k.bel s t=b at*
  obtain⟨ko,kn,kt,kl⟩:=k
  simp only[List.map_cons,List.map_nil]at*
  rw[Qy.av_eq]at*
  skip
  refine sb [.tmp 6] (fn:=Tryz.f49) Tryz.func49 ?_
  intro Q hQ
  refine wn F ?_
  refine aL 6 [5] [true,true,true,true,true,false] (.one 5 [] .fin) (by decide+kernel) (by kernel_rfl) (by decide+kernel) ?_
  simp only[aR,aS,aK]
  try refine sq F ?_
  repeat' (first| (refine ap ?_;try refine sq F ?_)| (refine au ?_;try refine sq F ?_)| (refine aw ?_ ?_<;>try refine sq F ?_))
  all_goals try refine wn F ?_
  refine hc.mono ?_
  rintro r h' ⟨rfl,y,hy,rfl⟩
  repeat' (first| (refine ap ?_;try refine sq F ?_)| (refine au ?_;try refine sq F ?_)| (refine aw ?_ ?_<;>try refine sq F ?_))
  all_goals try refine wn F ?_
  skip
  refine ee hQ F ?_
  exact bP hn hm (fun N=>.bool _) ⟨rfl,y,hy,rfl⟩
 rw[wP k3 k4 k5]
 by_cases k7:op=7
 ·subst k7
  have hf:=fun Y hm=>ni G s hI num (Y:=Y) hn hm x hx
  have hul:(undF s num).length≤1048576:=by
   unfold undF
   split
   ·rw[List.length_map]
    refine Nat.le_trans (List.length_filter_le _ _) ?_
    have:=fj (z:=Fe.z) s.fe
    have:=hI.l2
    show(valsM Fe.z s.fe).length≤_
    omega
   ·simp
  have hcn:=qP G (undF s num) t.feed hul
  have hb:leafF s t 7 num tx=(undF s num).any fun a=>decide (t.feed=a):=rfl
  rw[hb]
  generalize ((undF s num).any fun a=>decide (t.feed=a))=b at*
  generalize undF s num=u at*
  skip
  refine sb [.tmp 6] (fn:=Tryz.f49) Tryz.func49 ?_
  intro Q hQ
  refine wn F ?_
  refine aL 6 [3] [true,true,true,false,true,true] (.one 3 [false,false,false,false,true,true] .fin) (by decide+kernel) (by kernel_rfl) (by decide+kernel) ?_
  simp only[aR,aS,aK]
  try refine sq F ?_
  repeat' (first| (refine ap ?_;try refine sq F ?_)| (refine au ?_;try refine sq F ?_)| (refine aw ?_ ?_<;>try refine sq F ?_))
  all_goals try refine wn F ?_
  refine(hf _ (hm1 _)).mono ?_
  rintro r h' ⟨rfl,y,hy,rfl⟩
  refine⟨by simp(disch:=first|omega| (simp only[go_sem, ↓reduceIte,seval];first|done|omega)|fail) only[go_sem, ↓reduceIte,seval,F],?_⟩
  repeat' (first| (refine ap ?_;try refine sq F ?_)| (refine au ?_;try refine sq F ?_)| (refine aw ?_ ?_<;>try refine sq F ?_))
  all_goals try refine wn F ?_
  refine(hcn _).mono ?_
  rintro r h' ⟨rfl,rfl⟩
  repeat' (first| (refine ap ?_;try refine sq F ?_)| (refine au ?_;try refine sq F ?_)| (refine aw ?_ ?_<;>try refine sq F ?_))
  all_goals try refine wn F ?_
  skip
  refine ee hQ F ?_
  exact bP hn hm (fun N=>.bool _) ⟨rfl,y,hy,rfl⟩
 by_cases k8:op=8
 ·subst k8
  have hcn:=qQ G t.tags tx htg
  have hb:leafF s t 8 num tx=t.tags.any fun a=>decide (tx=a):=rfl
  rw[hb]
  generalize (t.tags.any fun a=>decide (tx=a))=b at*
  refine sb [.tmp 6] (fn:=Tryz.f49) Tryz.func49 ?_
  intro Q hQ
  refine wk F ?_
  refine kq F (hcn _) ?_
  refine ee hQ F ?_
  exact bP hn hm (fun N=>.bool _) ⟨rfl,x,hx,rfl⟩
 by_cases k11:op=11
 ·subst k11
  have hcn:=tD G t.title tx (by omega) (by omega)
  have hb:leafF s t 11 num tx=hasF t.title tx:=rfl
  rw[hb]
  generalize hasF t.title tx=b at*
  refine sb [.tmp 6] (fn:=Tryz.f49) Tryz.func49 ?_
  intro Q hQ
  refine wk F ?_
  refine kq F (hcn _) ?_
  refine ee hQ F ?_
  exact bP hn hm (fun N=>.bool _) ⟨rfl,x,hx,rfl⟩
 by_cases k12:op=12
 ·subst k12
  have hcn:=nh G t.title tx (by omega) (by omega)
  have hb:leafF s t 12 num tx=bgnF t.title tx:=rfl
  rw[hb]
  generalize bgnF t.title tx=b at*
  refine sb [.tmp 6] (fn:=Tryz.f49) Tryz.func49 ?_
  intro Q hQ
  refine wk F ?_
  refine kq F (hcn _) ?_
  refine ee hQ F ?_
  exact bP hn hm (fun N=>.bool _) ⟨rfl,x,hx,rfl⟩
 by_cases k15:op=15
 ·subst k15
  have hck:∀Y,a+2≤Y.length→Sat (CT G) 96 [.hp (n+8) 0 0 0] (sa Y n s a x) (fun r h'=>r=.int .i64 s.clock∧h'=sa Y n s a x):=fun Y hm=>nc G s (by rw[bG hm];omega)
  have hb:leafF s t 15 num tx=decide (t.date>IntKind.i64.wrap (s.clock-IntKind.i64.wrap (num*86400))):=rfl
  rw[hb]
  refine sb [.tmp 6] (fn:=Tryz.f49) Tryz.func49 ?_
  intro Q hQ
  refine wk F ?_
  refine aF (hck _ (hm1 _)) ?_
  try refine sq F ?_
  refine wk F ?_
  refine ee hQ F ?_
  exact bP hn hm (fun N=>.bool _) ⟨rfl,x,hx,rfl⟩
 have ho:op=1∨op=2∨op=6∨op=9∨op=10∨op=13∨op=14:=by omega
 clear ih ihk
 rcases ho with rfl|rfl|rfl|rfl|rfl|rfl|rfl
 all_goals (
  refine sb [.tmp 6] (fn:=Tryz.f49) Tryz.func49 ?_
  intro Q hQ
  refine wk F ?_
  refine ee hQ F ?_
  exact bP hn hm (fun N=>.bool _) ⟨by first|rfl| (congr 1;rw[Bool.eq_iff_iff];simp[leafF]),x,hx,rfl⟩)
end Go.Av
