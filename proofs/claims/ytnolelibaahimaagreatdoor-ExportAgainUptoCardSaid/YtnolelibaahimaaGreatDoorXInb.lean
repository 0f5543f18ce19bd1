/- Parts. -/
import Derived.Test.YtnolelibaahimaaGreatDoorXEd
import Derived.Test.YtnolelibaahimaaGreatDoorXJc
import Derived.Test.YtnolelibaahimaaGreatDoorXSc
set_option linter.unusedSimpArgs false
set_option linter.unusedVariables false
set_option linter.unusedSectionVars false
set_option linter.unnecessarySimpa false
set_option maxRecDepth 100000
set_option maxHeartbeats 16000000
namespace Go.Av
open Go Go.Proofs Go.RowKit
section
attribute [local irreducible] WP WPl WPix Sat
variable (G:Nat→Option (List AVal))
theorem xi(N:Nat)(a b c d e f k:Int):Clo N (.tup [.agg [.int .i64 a,.int .i64 b,.int .i64 c,.int .i64 d,.int .i64 e,.int .i64 f],.int .i64 k]):=.tup _ fun x hx=>by
 simp only[N0,T4,or_false]at hx;rcases hx with rfl|rfl
 ·exact ci fun c hc=>by simp at hc;rcases hc with rfl|rfl|rfl|rfl|rfl|rfl<;>simp
 ·exact .int _ _
def momF(n:Int):Bool:=decide (-62135596800≤n)&&decide (n≤253402300799)
theorem jz(n a b:Int)(h:Heap):Sat (CT G) 225 [.int .i64 n,.int .i64 a,.int .i64 b] h (fun r h'=>r=.bool (decide (a≤n)&&decide (n≤b))∧h'=h):=by
 by_cases k:a≤n
 ·have k2:decide (n≥a)=true:=by simpa using k
  have F:=k2;refine sb [.tmp 6] Tryz.func225 ?_;intro Q hQ;refine wk F ?_;refine ee hQ F ?_;exact R1 (.bool _) ⟨by simp[k],rfl⟩
 ·have k2:decide (n≥a)=false:=by simpa using k
  have F:=k2;refine sb [.tmp 6] Tryz.func225 ?_;intro Q hQ;refine wk F ?_;refine ee hQ F ?_;exact R1 (.bool _) ⟨by simp[k],rfl⟩
theorem zn(n:Int)(h:Heap):Sat (CT G) 187 [.int .i64 n] h (fun r h'=>(∃a b c d e f:Int,r=.tup [.agg [.int .i64 a,.int .i64 b,.int .i64 c,.int .i64 d,.int .i64 e,.int .i64 f],.int .i64 (if momF n then 0 else 40)])∧h'=h):=by
 cases hm:momF n with
 |false=>
  unfold momF at hm;have hW:=jz G n (-62135596800) 253402300799;rw[hm]at hW;refine sb [.cell 2 231,.tmp 3] Tryz.func187 ?_;intro Q hQ;refine wk trivial ?_;refine kq trivial (hW _) ?_;refine ye hQ trivial ?_;exact M2 (xi ..) ⟨⟨_,_,_,_,_,_,rfl⟩,rfl⟩
 |true=>
  have hm2:=hm;unfold momF at hm2;have hW:=jz G n (-62135596800) 253402300799;rw[hm2]at hW;simp only[L2,L8]at hm2;obtain⟨m1,m2⟩:=hm2;refine sb [.cell 2 231,.tmp 3] Tryz.func187 ?_;intro Q hQ;refine wk trivial ?_;refine kq trivial (hW _) ?_;refine cq trivial (fun c1=>?_) (fun c1=>?_)<;>(try exact c1.elim)<;>(refine wk trivial ?_)
  ·refine ye hQ trivial ?_;exact M2 (xi ..) ⟨⟨_,_,_,_,_,_,rfl⟩,rfl⟩
  ·refine ye hQ trivial ?_;exact M2 (xi ..) ⟨⟨_,_,_,_,_,_,rfl⟩,rfl⟩
theorem qv(n:Int)(h:Heap):Sat (CT G) 157 [.int .i64 n] h (fun r h'=>r=.bool (momF n)∧h'=h):=by
 refine sb [.tmp 2] Tryz.func157 ?_;intro Q hQ;refine wk trivial ?_;refine(zn G n _).mono ?_;rintro r h' ⟨⟨_,_,_,_,_,_,rfl⟩,rfl⟩;cases hm:momF n
 ·have F:=hm;try refine sq F ?_
  refine wk F ?_;refine ee hQ F ?_;exact M2 (.bool _) ⟨rfl,rfl⟩
 ·have F:=hm;try refine sq F ?_
  refine wk F ?_;refine ee hQ F ?_;exact M2 (.bool _) ⟨rfl,rfl⟩
end
section
section
variable {κ α:Type} [DecidableEq κ]
def sumM(w:α→Int):ML κ α→Int
 | []=>0
 |e::l=>w e.2.1+sumM w l
def atM(w:α→Int):Option α→Int
 |none=>0
 |some a=>w a
theorem jg(w:α→Int)(l:ML κ α)(c:Nat)(x:κ)(a:α):sumM w (upM l c x a)=sumM w l+w a-atM w (lkM l x):=by
 induction l with
 |nil=>simp[upM,sumM,lkM,atM]
 |cons e l ih=>
  simp only[upM,lkM];split
  ·simp only[sumM,atM];omega
  ·simp only[sumM,ih];omega
theorem ru(w:α→Int)(l:ML κ α)(x:κ):sumM w (dlM l x)=sumM w l-atM w (lkM l x):=by
 induction l with
 |nil=>simp[dlM,sumM,lkM,atM]
 |cons e l ih=>
  simp only[dlM,lkM];split
  ·simp only[sumM,atM];omega
  ·simp only[sumM,ih];omega
omit [DecidableEq κ] in
theorem dN{w:α→Int}(h:∀a,0≤w a)(l:ML κ α):0≤sumM w l:=by
 induction l with
 |nil=>simp[sumM]
 |cons e l ih=>have:=h e.2.1;simp only[sumM];omega
omit [DecidableEq κ] in
theorem jh{w:α→Int}(h:∀a,w a≤1)(l:ML κ α):sumM w l≤l.length:=by
 induction l with
 |nil=>simp[sumM]
 |cons e l ih=>have:=h e.2.1;simp only[sumM,L6];omega
theorem xB{w:α→Int}(h:∀a,0≤w a)(l:ML κ α)(x:κ):atM w (lkM l x)≤sumM w l:=by
 induction l with
 |nil=>simp[sumM,lkM,atM]
 |cons e l ih=>
  have h1:=h e.2.1;have h2:=dN h l;simp only[lkM];split
  ·simp only[sumM,atM];omega
  ·simp only[sumM];omega
theorem ve{w:α→Int}(h:∀a,0≤w a){l:ML κ α}(h0:sumM w l≤0){x:κ}{a:α}(hx:lkM l x=some a):w a=0:=by
 have:=xB h l x;rw[hx]at this;have:=h a;simp only[atM]at *;omega
end
def inFo(id:Int)(f:Fo):Int:=if f.inn=id then 1 else 0
def inFe(id:Int)(f:Fe):Int:=if f.inn=id then 1 else 0
theorem ji(id:Int)(f:Fo):0≤inFo id f:=by unfold inFo;split<;>omega
theorem jk(id:Int)(f:Fe):0≤inFe id f:=by unfold inFe;split<;>omega
theorem rz(id:Int)(f:Fo):inFo id f≤1:=by unfold inFo;split<;>omega
theorem rA(id:Int)(f:Fe):inFe id f≤1:=by unfold inFe;split<;>omega
theorem iS{l:ML Int Fo}:∀{k:Nat} {id:Int} {d:Nat},deepO l k id=some d→∀{k':Nat},d≤k'→deepO l k' id=some d:=by
 intro k;induction k with
 |zero=>
  intro id d h k' hk;rw[deepO]at h;cases hl:lkM l id with
  |none=>
   rw[hl]at h;simp at h;subst h;cases k' with
   |zero=>rw[deepO,hl];simp
   |succ k'=>rw[deepO,hl]
  |some f=>rw[hl]at h;simp at h
 |succ k ih=>
  intro id d h k' hk;rw[deepO]at h;cases hl:lkM l id with
  |none=>
   rw[hl]at h;simp at h;subst h;cases k' with
   |zero=>rw[deepO,hl];simp
   |succ k'=>rw[deepO,hl]
  |some f=>
   rw[hl]at h;simp only[N2]at h;obtain⟨j,hj,rfl⟩:=h;obtain⟨k'',rfl⟩:∃k'',k'=k''+1:=⟨k'-1,by omega⟩;rw[deepO,hl];simp only[ih hj (k':=k'') (by omega),R4]
theorem jB{l l':ML Int Fo}(P:Int→Prop)(h:∀id,P id→lkM l' id=lkM l id)(hc:∀id f,P id→lkM l id=some f→P f.inn):∀(k:Nat) (id:Int),P id→deepO l' k id=deepO l k id:=by
 intro k;induction k with
 |zero=>intro id hp;rw[deepO,deepO,h id hp]
 |succ k ih=>
  intro id hp;rw[deepO,deepO,h id hp];cases hl:lkM l id with
  |none=>rfl
  |some f=>simp only[ih f.inn (hc id f hp hl)]
structure PS.Inv (s:PS):Prop where
 w1:WFM s.fo s.c1
 w2:WFM s.fe s.c2
 w3:WFM s.it s.c3
 w4:WFM s.se s.c4
 w7:WFM s.gu s.c7
 w8:WFM s.he s.c8
 i1:∀k f,lkM s.fo k=some f→f.id=k∧1≤k∧k≤1048576
 i2:∀k f,lkM s.fe k=some f→f.id=k∧1≤k∧k≤1048576
 i3:∀k t,lkM s.it k=some t→t.id=k∧1≤k∧k≤1048576
 i4:∀k q,lkM s.se k=some q→q.id=k∧1≤k∧k≤1048576
 u1:∀k f,lkM s.fo k=some f→f.inn=0∨(lkM s.fo f.inn).isSome=true
 u2:∀k f,lkM s.fe k=some f→f.inn=0∨(lkM s.fo f.inn).isSome=true
 u3:∀k t,lkM s.it k=some t→(lkM s.fe t.feed).isSome=true
 dp:∀id,∃d,d≤7∧deepO s.fo 7 id=some d
 hd:∀id,id≠0→(lkM s.he id).getD 0=sumM (inFo id) s.fo+sumM (inFe id) s.fe
 h0:lkM s.he 0=none
 tg:∀k t,lkM s.it k=some t→Srt t.tags∧t.tags.length≤8
 l1:s.fo.length≤64
 l2:s.fe.length≤64
 l3:s.it.length≤1024
 l4:s.se.length≤32
theorem PS.Inv.z:PS.z.Inv where
 w1:=.nil
 w2:=.nil
 w3:=.nil
 w4:=.nil
 w7:=.nil
 w8:=.nil
 i1:=fun _ _ h=>by cases h
 i2:=fun _ _ h=>by cases h
 i3:=fun _ _ h=>by cases h
 i4:=fun _ _ h=>by cases h
 u1:=fun _ _ h=>by cases h
 u2:=fun _ _ h=>by cases h
 u3:=fun _ _ h=>by cases h
 dp:=fun _=>⟨0,by omega,rfl⟩
 hd:=fun _ _=>rfl
 h0:=rfl
 tg:=fun _ _ h=>by cases h
 l1:=by simp[PS.z]
 l2:=by simp[PS.z]
 l3:=by simp[PS.z]
 l4:=by simp[PS.z]
theorem PS.Inv.few{s:PS}(h:s.Inv):s.few:=by
 intro id;by_cases h0:id=0
 ·subst h0;rw[h.h0];simp
 ·have h1:=h.hd id h0;have h2:=dN (ji id) s.fo;have h3:=dN (jk id) s.fe;have h4:=jh (rz id) s.fo;have h5:=jh (rA id) s.fe;have h6:=h.l1;have h7:=h.l2;omega
def heF(he:ML Int Int)(c:Nat)(id k:Int):ML Int Int:=if id=0 then he else upM he c id ((lkM he id).getD 0+k)
def chF(he:ML Int Int)(c:Nat)(id:Int):Nat:=if id=0 then c else ckM he c id
theorem bC(s:PS)(id k:Int):s.hold id k= {s with he:=heF s.he s.c8 id k,c8:=chF s.he s.c8 id}:=by
 unfold PS.hold heF chF;split<;>rfl
theorem fB(he:ML Int Int)(c:Nat)(id k x:Int):(lkM (heF he c id k) x).getD 0=(lkM he x).getD 0+(if x=id∧id≠0 then k else 0):=by
 unfold heF;by_cases h:id=0
 ·rw[L7 h,L1 (by omega)];omega
 ·rw[L1 h,bt];by_cases hx:x=id
  ·subst hx;rw[L7 rfl,L7 ⟨rfl,h⟩];rfl
  ·rw[L1 hx,L1 (by omega)];omega
theorem jl{he:ML Int Int}(c:Nat)(id k:Int)(h:lkM he 0=none):lkM (heF he c id k) 0=none:=by
 unfold heF;split
 ·exact h
 ·rename_i h1;rw[bt,L1 (fun e=>h1 e.symm)];exact h
theorem gB{he:ML Int Int}{c:Nat}(w:WFM he c)(id k:Int):WFM (heF he c id k) (chF he c id):=by
 unfold heF chF;split
 ·exact w
 ·exact w.up _ _
theorem xC{s:PS}(h:s.Inv)(id k:Int)(hk: -1≤k∧k≤1):(s.hold id k).few:=by
 intro x;have h1:=fB s.he s.c8 id k x;rw[bC];simp only;have h6:=h.l1;have h7:=h.l2;have h2:=dN (ji x) s.fo;have h3:=dN (jk x) s.fe;have h4:=jh (rz x) s.fo;have h5:=jh (rA x) s.fe;by_cases h0:x=0
 ·subst h0;rw[h1,h.h0];simp only[Option.getD_none];split<;>omega
 ·have:=h.hd x h0;rw[h1];split<;>omega
def PS.dpt(s:PS)(id:Int):Nat:=(deepO s.fo 7 id).getD 0
def PS.ok(L:Leaf)(s:PS)(e:Ev):Bool:=s.fits (L.ck e) (s.dpt e.b) e
def PS.aft(s:PS)(e:Ev):PS:=s.after (tgF ((lkM s.it e.a).getD It.z).tags e.s e.n) e
def PS.step(L:Leaf)(s:PS)(e:Ev):PS:=if s.ok L e then s.aft e else s
theorem i7{L:Leaf}{e:Ev}(h:L.right e=true)(hk:e.kind≠13):1≤e.a∧e.a≤1048576:=by
 have:idF e.a=true:=by
  unfold Leaf.right at h;repeat' (split at h)
  all_goals first| (simp only[L2]at h;exact h.1)|exact h|omega| (cases h)
 simpa [idF]using this
theorem zp{l:List Bs}{t:Bs}(hs:Srt l)(ht:t ∉ l):Srt (l.take (lbF l t)++t::l.drop (lbF l t)):=by
 induction l with
 |nil=>simp[lbF,Srt]
 |cons a l ih=>
  have hs':=hs;unfold Srt at hs;rw[List.pairwise_cons]at hs;rw[jZ];split
  ·rename_i hat;simp only[O7,List.drop_succ_cons,P3];unfold Srt;rw[List.pairwise_cons];refine⟨fun x hx=>?_,ih hs.2 (fun h=>ht (P6 _ h))⟩;rw[U2,N0]at hx;rcases hx with h|rfl|h
   ·exact hs.1 x (W3 h)
   ·exact hat
   ·exact hs.1 x (List.mem_of_mem_drop h)
  ·rename_i hat;simp only[Q3,Z9,O8];have hat':Op.bytesLess a t=false:=(by simpa using hat);have hta:Op.bytesLess t a=true:=by
    cases h:Op.bytesLess t a with
    |true=>rfl
    |false=>exact(ht (by rw[v7 t a h hat'];exact R2 ..)).elim
   unfold Srt;rw[List.pairwise_cons];refine⟨fun x hx=>?_,hs'⟩;rcases N0.1 hx with rfl|h
   ·exact hta
   ·exact jY hta (hs.1 x h)
theorem zr{l:List Bs}(hs:Srt l)(i:Nat):Srt (l.take i++l.drop (i+1)):=by
 rw[← List.eraseIdx_eq_take_drop_succ];exact hs.sublist (List.eraseIdx_sublist l i)
theorem zt{l:List Bs}(hs:Srt l)(t:Bs)(n:Int):Srt (tgF l t n):=by
 unfold tgF;split
 ·rename_i h;exact zp hs h.2
 ·split
  ·exact zr hs _
  ·exact hs
theorem zu{l:List Bs}(t:Bs)(n:Int)(hl:l.length≤8)(h:n=0∨t∈l∨l.length<8):(tgF l t n).length≤8:=by
 have:=p7 l t;unfold tgF;split
 ·rename_i h1;simp only[L4,L6,O3,P2];rcases h with h|h|h
  ·omega
  ·exact(h1.2 h).elim
  ·omega
 ·split
  ·simp only[L4,O3,P2];omega
  ·exact hl
variable {s:PS} {e:Ev}
theorem dQ{κ α:Type}[DecidableEq κ]{l:ML κ α}{x:κ}(h:(lkM l x).isSome=false):lkM l x=none:=by
 cases hl:lkM l x with
 |none=>rfl
 |some a=>rw[hl]at h;cases h
theorem aK{κ α:Type}[DecidableEq κ]{l:ML κ α}{x:κ}(h:(lkM l x).isSome=true):∃a,lkM l x=some a:=O5.1 h
theorem fh{κ α:Type}[DecidableEq κ]{l:ML κ α}(c:Nat)(x:κ)(a:α){y:κ}(h:(lkM l y).isSome=true):(lkM (upM l c x a) y).isSome=true:=by
 rw[bt];split
 ·rfl
 ·exact h
theorem aG{κ α:Type}[DecidableEq κ]{l:ML κ α}{c:Nat}{x y:κ}{a b:α}(h:lkM (upM l c x a) y=some b):(y=x∧b=a)∨(y≠x∧lkM l y=some b):=by
 rw[bt]at h;split at h
 ·rename_i hy;cases h;exact .inl ⟨hy,rfl⟩
 ·rename_i hy;exact .inr ⟨hy,h⟩
theorem cK{κ α:Type}[DecidableEq κ]{l:ML κ α}(hn:(l.map (·.1)).Nodup){x y:κ}{b:α}(h:lkM (dlM l x) y=some b):y≠x∧lkM l y=some b:=by
 rw[fq hn]at h;split at h
 ·cases h
 ·rename_i hy;exact⟨hy,h⟩
theorem mc{α:Type}{l:ML Int α}(hn:(l.map (·.1)).Nodup){p:Int×α×Nat→Bool}{y:Int}{b:α}(h:lkM (l.filter p) y=some b):lkM l y=some b:=by
 obtain⟨n,hm⟩:=ff h;exact dt hn (U1.1 hm).1
theorem fC{κ α:Type}[DecidableEq κ](l:ML κ α)(c:Nat)(x:κ)(a:α)(m:Nat)(h:l.length<m∨((lkM l x).isSome=true∧l.length≤m)):(upM l c x a).length≤m:=by
 rw[j9];split
 ·omega
 ·rename_i h1;rcases h with h|h
  ·omega
  ·exact(h1 h.1).elim
theorem p9{κ α:Type}[DecidableEq κ](l:ML κ α)(x:κ)(m:Nat)(h:l.length≤m):(dlM l x).length≤m:=Q5 (ja l x).length_le h
theorem PS.Inv.deep(h:s.Inv)(id:Int):deepO s.fo 7 id=some (s.dpt id)∧s.dpt id≤7:=by
 obtain⟨d,h1,h2⟩:=h.dp id;unfold PS.dpt;rw[h2];exact⟨rfl,h1⟩
theorem iT(h:s.within e.b=true):e.b=0∨(lkM s.fo e.b).isSome=true:=by
 unfold PS.within at h;simpa using h
theorem PS.Inv.mkFo(h:s.Inv)(ha:1≤e.a∧e.a≤1048576)(hn:(lkM s.fo e.a).isSome=false)(hl:s.fo.length<64)(hw:s.within e.b=true)(hd:s.dpt e.b<7):
  PS.Inv ((((s.upFo e.a ⟨e.a,e.b,e.s⟩).upNm (e.b,e.s) e.a).hold e.b 1).raise 0 e.a):=by
 rw[bC];have hb:=iT hw;have hnn:=dQ hn;have hba:e.b≠e.a:=by
  rcases hb with hb|hb
  ·omega
  ·intro q;rw[q,hn]at hb;cases hb
 have hcg:∀k id,id≠e.a→deepO (upM s.fo s.c1 e.a ⟨e.a,e.b,e.s⟩) k id=deepO s.fo k id:=by
  refine jB (fun id=>id≠e.a) (fun id hi=>by rw[bt,L1 hi]) (fun id f hi hf=>?_);rcases h.u1 id f hf with h1|h1
  ·omega
  ·intro q;rw[q,hn]at h1;cases h1
 exact {h with
  w1:=h.w1.up _ _
  w8:=gB h.w8 _ _
  i1:=fun k f hk=>by
   rcases aG (l:=s.fo) hk with⟨rfl,rfl⟩| ⟨_,hk⟩
   ·exact⟨rfl,ha⟩
   ·exact h.i1 k f hk
  u1:=fun k f hk=>by
   rcases aG (l:=s.fo) hk with⟨rfl,rfl⟩| ⟨_,hk⟩
   ·exact hb.imp id (fh _ _ _)
   ·exact(h.u1 k f hk).imp id (fh _ _ _)
  u2:=fun k f hk=>(h.u2 k f hk).imp id (fh _ _ _)
  dp:=fun id=>by
   show ∃d,d≤7∧deepO (upM s.fo s.c1 e.a ⟨e.a,e.b,e.s⟩) 7 id=some d;by_cases hi:id=e.a
   ·subst hi;obtain⟨h1,h2⟩:=h.deep e.b;refine⟨s.dpt e.b+1,by omega,?_⟩;rw[deepO,bt,L7 rfl];simp only[hcg 6 e.b hba,iS h1 (k':=6) (by omega),R4]
   ·obtain⟨d,h1,h2⟩:=h.dp id;exact⟨d,h1,by rw[hcg 7 id hi,h2]⟩
  hd:=fun id hi=>by
   show(lkM (heF s.he s.c8 e.b 1) id).getD 0=sumM (inFo id) (upM s.fo s.c1 e.a ⟨e.a,e.b,e.s⟩)+sumM (inFe id) s.fe;rw[fB,jg,hnn,h.hd id hi];simp only[atM,inFo];by_cases hx:e.b=id
   ·subst hx;simp[hi];omega
   ·rw[L1 (by omega),L1 hx];omega
  h0:=jl _ _ _ h.h0
  l1:=fC _ _ _ _ _ (.inl hl)}
theorem PS.Inv.mkFe(h:s.Inv)(ha:1≤e.a∧e.a≤1048576)(hn:(lkM s.fe e.a).isSome=false)(hl:s.fe.length<64)(hw:s.within e.b=true):
  PS.Inv ((((s.upFe e.a ⟨e.a,e.b,e.s,e.t⟩).upPl e.s e.a).hold e.b 1).raise 1 e.a):=by
 rw[bC];have hb:=iT hw;have hnn:=dQ hn;exact {h with
  w2:=h.w2.up _ _
  w8:=gB h.w8 _ _
  i2:=fun k f hk=>by
   rcases aG (l:=s.fe) hk with⟨rfl,rfl⟩| ⟨_,hk⟩
   ·exact⟨rfl,ha⟩
   ·exact h.i2 k f hk
  u2:=fun k f hk=>by
   rcases aG (l:=s.fe) hk with⟨rfl,rfl⟩| ⟨_,hk⟩
   ·exact hb
   ·exact h.u2 k f hk
  u3:=fun k f hk=>fh _ _ _ (h.u3 k f hk)
  hd:=fun id hi=>by
   show(lkM (heF s.he s.c8 e.b 1) id).getD 0=sumM (inFo id) s.fo+sumM (inFe id) (upM s.fe s.c2 e.a ⟨e.a,e.b,e.s,e.t⟩);rw[fB,jg,hnn,h.hd id hi];simp only[atM,inFe];by_cases hx:e.b=id
   ·subst hx;simp[hi];omega
   ·rw[L1 (by omega),L1 hx];omega
  h0:=jl _ _ _ h.h0
  l2:=fC _ _ _ _ _ (.inl hl)}
theorem PS.Inv.mkIt(h:s.Inv)(ha:1≤e.a∧e.a≤1048576)(hl:s.it.length<1024)(hw:(lkM s.fe e.b).isSome=true):
  PS.Inv (((s.upIt e.a ⟨e.a,e.b,e.n,e.s,e.t,e.u,false,false,[]⟩).upGu (e.b,e.s) e.a).raise 2 e.a):=
 {h with
  w3:=h.w3.up _ _
  w7:=h.w7.up _ _
  i3:=fun k f hk=>by
   rcases aG (l:=s.it) hk with⟨rfl,rfl⟩| ⟨_,hk⟩
   ·exact⟨rfl,ha⟩
   ·exact h.i3 k f hk
  u3:=fun k f hk=>by
   rcases aG (l:=s.it) hk with⟨rfl,rfl⟩| ⟨_,hk⟩
   ·exact hw
   ·exact h.u3 k f hk
  tg:=fun k f hk=>by
   rcases aG (l:=s.it) hk with⟨rfl,rfl⟩| ⟨_,hk⟩
   ·exact⟨by simp[Srt],by simp⟩
   ·exact h.tg k f hk
  l3:=fC _ _ _ _ _ (.inl hl)}
theorem PS.Inv.mkSe(h:s.Inv)(ha:1≤e.a∧e.a≤1048576)(hl:s.se.length<32):PS.Inv ((s.upSe e.a ⟨e.a,e.s,e.t⟩).raise 3 e.a):=
 {h with
  w4:=h.w4.up _ _
  i4:=fun k f hk=>by
   rcases aG (l:=s.se) hk with⟨rfl,rfl⟩| ⟨_,hk⟩
   ·exact⟨rfl,ha⟩
   ·exact h.i4 k f hk
  l4:=fC _ _ _ _ _ (.inl hl)}
theorem PS.Inv.reIt(h:s.Inv){k:Int}{t:It}(t':It)(hk:lkM s.it k=some t)(h1:t'.id=t.id)(h2:t'.feed=t.feed)(h3:Srt t'.tags∧t'.tags.length≤8):PS.Inv (s.upIt k t'):=
 {h with
  w3:=h.w3.up _ _
  i3:=fun j f hj=>by
   rcases aG (l:=s.it) hj with⟨rfl,rfl⟩| ⟨_,hj⟩
   ·rw[h1];exact h.i3 _ _ hk
   ·exact h.i3 j f hj
  u3:=fun j f hj=>by
   rcases aG (l:=s.it) hj with⟨rfl,rfl⟩| ⟨_,hj⟩
   ·rw[h2];exact h.u3 _ _ hk
   ·exact h.u3 j f hj
  tg:=fun j f hj=>by
   rcases aG (l:=s.it) hj with⟨rfl,rfl⟩| ⟨_,hj⟩
   ·exact h3
   ·exact h.tg j f hj
  l3:=fC _ _ _ _ _ (.inr ⟨by rw[hk];rfl,h.l3⟩)}
theorem PS.Inv.unFo(h:s.Inv){k:Int}{f:Fo}(hk:lkM s.fo k=some f)(h0:(lkM s.he k).getD 0=0):PS.Inv (((s.dlNm (f.inn,f.name)).dlFo k).hold f.inn (-1)):=by
 rw[bC];have hk1:=(h.i1 _ _ hk).2;have hs:=h.hd k (by omega);have n1:=dN (ji k) s.fo;have n2:=dN (jk k) s.fe;have hA:∀j g,lkM s.fo j=some g→g.inn≠k:=fun j g hg q=>by
  have:=ve (ji k) (l:=s.fo) (by omega) hg;rw[inFo,L7 q]at this;omega
 have hB:∀j g,lkM s.fe j=some g→g.inn≠k:=fun j g hg q=>by
  have:=ve (jk k) (l:=s.fe) (by omega) hg;rw[inFe,L7 q]at this;omega
 have hcg:∀m id,id≠k→deepO (dlM s.fo k) m id=deepO s.fo m id:=
  jB (fun id=>id≠k) (fun id hi=>by rw[fq h.w1.keys,L1 hi]) (fun id g _ hg=>hA id g hg)
 have hst:∀x,x≠k→(lkM s.fo x).isSome=true→(lkM (dlM s.fo k) x).isSome=true:=fun x hx hs=>by rw[fq h.w1.keys,L1 hx];exact hs
 exact {h with
  w1:=h.w1.dl _
  w8:=gB h.w8 _ _
  i1:=fun j g hj=>h.i1 j g (cK h.w1.keys hj).2
  u1:=fun j g hj=>by
   obtain⟨_,hj⟩:=cK h.w1.keys hj;exact(h.u1 j g hj).imp id (hst _ (hA j g hj))
  u2:=fun j g hj=>(h.u2 j g hj).imp id (hst _ (hB j g hj))
  dp:=fun id=>by
   show ∃d,d≤7∧deepO (dlM s.fo k) 7 id=some d;by_cases hi:id=k
   ·subst hi;exact⟨0,by omega,by rw[deepO,fq h.w1.keys,L7 rfl]⟩
   ·rw[hcg 7 id hi];exact h.dp id
  hd:=fun id hi=>by
   show(lkM (heF s.he s.c8 f.inn (-1)) id).getD 0=sumM (inFo id) (dlM s.fo k)+sumM (inFe id) s.fe;rw[fB,ru,hk,h.hd id hi];simp only[atM,inFo];by_cases hx:f.inn=id
   ·subst hx;simp[hi];omega
   ·rw[L1 (by omega),L1 hx];omega
  h0:=jl _ _ _ h.h0
  l1:=p9 _ _ _ h.l1}
theorem PS.Inv.reTi(h:s.Inv){k:Int}{f:Fe}(t:Bs)(hk:lkM s.fe k=some f):PS.Inv (s.upFe k {f with title:=t}):=
 {h with
  w2:=h.w2.up _ _
  i2:=fun j g hj=>by
   rcases aG (l:=s.fe) hj with⟨rfl,rfl⟩| ⟨_,hj⟩
   ·have:=h.i2 _ _ hk;exact this
   ·exact h.i2 j g hj
  u2:=fun j g hj=>by
   rcases aG (l:=s.fe) hj with⟨rfl,rfl⟩| ⟨_,hj⟩
   ·have:=h.u2 _ _ hk;exact this
   ·exact h.u2 j g hj
  u3:=fun j g hj=>fh _ _ _ (h.u3 j g hj)
  hd:=fun id hi=>by
   show(lkM s.he id).getD 0=sumM (inFo id) s.fo+sumM (inFe id) (upM s.fe s.c2 k {f with title:=t});rw[jg,hk,h.hd id hi];simp only[atM,inFe];omega
  l2:=fC _ _ _ _ _ (.inr ⟨by rw[hk];rfl,h.l2⟩)}
theorem PS.Inv.reIn(h:s.Inv){k b:Int}{f:Fe}(hk:lkM s.fe k=some f)(hb:b=0∨(lkM s.fo b).isSome=true):PS.Inv (((s.hold f.inn (-1)).hold b 1).upFe k {f with inn:=b}):=by
 rw[bC s,bC];exact {h with
  w2:=h.w2.up _ _
  w8:=gB (gB h.w8 _ _) _ _
  i2:=fun j g hj=>by
   rcases aG (l:=s.fe) hj with⟨rfl,rfl⟩| ⟨_,hj⟩
   ·have:=h.i2 _ _ hk;exact this
   ·exact h.i2 j g hj
  u2:=fun j g hj=>by
   rcases aG (l:=s.fe) hj with⟨rfl,rfl⟩| ⟨_,hj⟩
   ·exact hb
   ·exact h.u2 j g hj
  u3:=fun j g hj=>fh _ _ _ (h.u3 j g hj)
  hd:=fun id hi=>by
   show(lkM (heF (heF s.he s.c8 f.inn (-1)) (chF s.he s.c8 f.inn) b 1) id).getD 0=sumM (inFo id) s.fo+sumM (inFe id) (upM s.fe s.c2 k {f with inn:=b});rw[fB,fB,jg,hk,h.hd id hi];simp only[atM,inFe];by_cases h1:f.inn=id
   ·by_cases h2:b=id
    ·rw[L7 ⟨h1.symm,by omega⟩,L7 ⟨h2.symm,by omega⟩,L7 h1,L7 h2];omega
    ·rw[L7 ⟨h1.symm,by omega⟩,L1 (by omega),L7 h1,L1 h2];omega
   ·by_cases h2:b=id
    ·rw[L1 (by omega),L7 ⟨h2.symm,by omega⟩,L1 h1,L7 h2];omega
    ·rw[L1 (by omega),L1 (by omega),L1 h1,L1 h2];omega
  h0:=jl _ _ _ (jl _ _ _ h.h0)
  l2:=fC _ _ _ _ _ (.inr ⟨by rw[hk];rfl,h.l2⟩)}
theorem PS.Inv.unFe(h:s.Inv){k:Int}{f:Fe}(hk:lkM s.fe k=some f):PS.Inv (s.unfeed f):=by
 have hfk:=(h.i2 _ _ hk).1;unfold PS.unfeed;rw[bC];exact {h with
  w2:=h.w2.dl _
  w3:=h.w3.filter _
  w7:=h.w7.filter _
  w8:=gB h.w8 _ _
  i2:=fun j g hj=>h.i2 j g (cK h.w2.keys hj).2
  i3:=fun j t hj=>h.i3 j t (mc h.w3.keys hj)
  u2:=fun j g hj=>h.u2 j g (cK h.w2.keys hj).2
  u3:=fun j t hj=>by
   have hj':lkM (itF s.it f.id) j=some t:=hj;show(lkM (dlM s.fe f.id) t.feed).isSome=true;have hne:t.feed≠f.id:=by
    obtain⟨n,hm⟩:=ff hj';have:=(U1.1 hm).2;simpa using this
   rw[fq h.w2.keys,L1 hne];exact h.u3 j t (mc h.w3.keys hj')
  hd:=fun id hi=>by
   show(lkM (heF s.he s.c8 f.inn (-1)) id).getD 0=sumM (inFo id) s.fo+sumM (inFe id) (dlM s.fe f.id);rw[fB,ru,hfk,hk,h.hd id hi];simp only[atM,inFe];by_cases hx:f.inn=id
   ·subst hx;simp[hi];omega
   ·rw[L1 (by omega),L1 hx];omega
  h0:=jl _ _ _ h.h0
  tg:=fun j t hj=>h.tg j t (mc h.w3.keys hj)
  l2:=p9 _ _ _ h.l2
  l3:=Q5 (List.length_filter_le _ _) h.l3}
theorem PS.Inv.unSe(h:s.Inv)(k:Int):PS.Inv (s.dlSe k):=
 {h with
  w4:=h.w4.dl _
  i4:=fun j g hj=>h.i4 j g (cK h.w4.keys hj).2
  l4:=p9 _ _ _ h.l4}
theorem PS.Inv.clk(h:s.Inv)(k:Int):PS.Inv {s with clock:=k}:= {h with}
theorem PS.Inv.step{L:Leaf}(h:s.Inv)(e:Ev):(s.step L e).Inv:=by
 unfold PS.step;split
 ·rename_i hok;unfold PS.ok PS.fits at hok;rw[L2]at hok;obtain⟨hck,hf⟩:=hok;have hr:L.right e=true:=by unfold Leaf.ck at hck;simp only[L2]at hck;exact hck.1
  have ha:e.kind≠13→1≤e.a∧e.a≤1048576:=fun hk=>i7 hr hk
  unfold PS.aft PS.after;by_cases k1:e.kind=1
  ·rw[L7 k1]at hf;simp only[L2,O6,L8,beq_iff_eq]at hf;rw[L1 (by omega),L1 (by omega),L1 (by omega),L1 (by omega),L1 (by omega),L1 (by omega),L1 (by omega),L1 (by omega),L1 (by omega),PS.make,L7 k1];exact h.mkFo (ha (by omega)) hf.1.1.1.1 hf.1.1.1.2 hf.1.1.2 hf.1.2
  rw[L1 k1]at hf;by_cases k2:e.kind=2
  ·rw[L7 k2]at hf ⊢;simp only[L2,beq_iff_eq]at hf;obtain⟨f,hfo⟩:=aK hf.1;rw[hfo];exact h.unFo hfo hf.2
  rw[L1 k2]at hf ⊢;by_cases k3:e.kind=3
  ·rw[L7 k3]at hf;simp only[L2,O6,L8,beq_iff_eq]at hf;rw[L1 (by omega),L1 (by omega),L1 (by omega),L1 (by omega),L1 (by omega),L1 (by omega),L1 (by omega),L1 (by omega),PS.make,L1 (by omega),L7 k3];exact h.mkFe (ha (by omega)) hf.1.1.1 hf.1.1.2 hf.1.2
  rw[L1 k3]at hf;by_cases k4:e.kind=4
  ·rw[L7 (.inl k4)]at hf;rw[L7 k4];obtain⟨f,hfo⟩:=aK hf;rw[hfo];exact h.unFe hfo
  rw[L1 k4];by_cases k5:e.kind=5
  ·rw[L7 (.inr k5)]at hf;rw[L7 k5];obtain⟨f,hfo⟩:=aK hf;rw[hfo];exact h.reTi _ hfo
  rw[L1 (by omega)]at hf;rw[L1 k5];by_cases k6:e.kind=6
  ·rw[L7 k6]at hf ⊢;simp only[L2]at hf;obtain⟨f,hfo⟩:=aK hf.1;rw[hfo];exact h.reIn hfo (iT hf.2)
  rw[L1 k6]at hf ⊢;by_cases k7:e.kind=7
  ·rw[L7 k7]at hf;simp only[L2,O6,L8,beq_iff_eq]at hf;rw[L1 (by omega),L1 (by omega),L1 (by omega),L1 (by omega),L1 (by omega),PS.make,L1 (by omega),L1 (by omega),L7 k7];exact h.mkIt (ha (by omega)) hf.1.1.2 hf.1.2
  rw[L1 k7]at hf;by_cases k8:e.kind=8
  ·rw[L7 (.inl k8)]at hf;rw[L7 k8];obtain⟨f,hfo⟩:=aK hf;rw[hfo];have htg:=h.tg _ _ hfo;exact h.reIt _ hfo rfl rfl htg
  rw[L1 k8];by_cases k9:e.kind=9
  ·rw[L7 (.inr k9)]at hf;rw[L7 k9];obtain⟨f,hfo⟩:=aK hf;rw[hfo];have htg:=h.tg _ _ hfo;exact h.reIt _ hfo rfl rfl htg
  rw[L1 (by omega)]at hf;rw[L1 k9];by_cases k10:e.kind=10
  ·rw[L7 k10]at hf ⊢;simp only[L2,P8,L8]at hf;obtain⟨f,hfo⟩:=aK hf.1;rw[hfo]at hf ⊢;simp only[U0]at hf ⊢;have htg:=h.tg _ _ hfo;exact h.reIt _ hfo rfl rfl ⟨zt htg.1 _ _,zu _ _ htg.2 (by rcases hf.2 with(h1|h1)|h1<;>simp[h1])⟩
  rw[L1 k10]at hf ⊢;by_cases k11:e.kind=11
  ·rw[L7 k11]at hf;simp only[L2,O6,L8]at hf;rw[L1 (by omega),L1 (by omega),PS.make,L1 (by omega),L1 (by omega),L1 (by omega),L7 k11];exact h.mkSe (ha (by omega)) hf.2
  rw[L1 k11]at hf;by_cases k12:e.kind=12
  ·rw[L7 k12];exact h.unSe _
  rw[L1 k12];by_cases k13:e.kind=13
  ·rw[L7 k13];exact h.clk _
  ·exfalso;unfold Leaf.right at hr;rw[L1 k1,L1 (by omega),L1 k3,L1 k5,L1 k6,L1 k7,L1 (by omega),L1 k10,L1 k11,L1 k13]at hr;cases hr
 ·exact h
theorem PS.Inv.fold{L:Leaf}(h:s.Inv)(l:List Ev):(l.foldl (PS.step L) s).Inv:=by
 induction l generalizing s with
 |nil=>exact h
 |cons e l ih=>exact ih (h.step e)
theorem dR{α:Type}{z:α}{l:ML Int α}{a:α}(h:a∈valsM z l):∃k,lkM l k=some a:=by
 unfold valsM at h;obtain⟨k,hk,rfl⟩:=M7.1 h;have hk2:k∈l.map (·.1):=(X5 _ _).mem_iff.1 hk;refine⟨k,?_⟩;cases hl:lkM l k with
 |none=>
  have:(lkM l k).isSome=false:=by rw[hl];rfl
  exact(qQ this hk2).elim
 |some a=>rfl
theorem lc{α:Type}{l:ML Int α}{c:Nat}(w:WFM l c)(h:∀k a,lkM l k=some a→1≤k∧k≤1048576):∀e∈l,inI e.1:=fun e he=>by
 have:=h e.1 e.2.1 (dt w.keys (b:=e.2.2) (by exact he));unfold inI;omega
theorem PS.Inv.toOk(h:s.Inv):s.Ok where
 w1:=h.w1
 w2:=h.w2
 w3:=h.w3
 w4:=h.w4
 b1:=lc h.w1 fun k f hk=>(h.i1 k f hk).2
 b2:=lc h.w2 fun k f hk=>(h.i2 k f hk).2
 b3:=lc h.w3 fun k f hk=>(h.i3 k f hk).2
 b4:=lc h.w4 fun k f hk=>(h.i4 k f hk).2
 l1:=Q5 h.l1 (by omega)
 l2:=Q5 h.l2 (by omega)
 l3:=Q5 h.l3 (by omega)
 l4:=Q5 h.l4 (by omega)
 tg:=fun t ht=>by
  obtain⟨k,hk⟩:=dR ht;exact Q5 (h.tg k t hk).2 (by omega)
theorem PS.Inv.tags(h:s.Inv)(id:Int):Srt ((lkM s.it id).getD It.z).tags∧((lkM s.it id).getD It.z).tags.length≤8:=by
 cases hl:lkM s.it id with
 |none=>exact⟨by simp[It.z,Srt],by simp[It.z]⟩
 |some t=>exact h.tg id t hl
end
section
attribute [local irreducible] WP WPl WPix Sat
variable (G:Nat→Option (List AVal))
def L0:Leaf where
 label:=fun t=> !(t==[])&&textF rightS cleanF t 64
 title:=fun t=>textF rightS cleanF t 256
 link:=fun t=>textF rightS cleanF t 512
 tag:=fun t=>(!(t==[])&&textF rightS cleanF t 64)&&isF t
 query:=fun t=> !(t==[])&&textF rightS cleanF t 512
 moment:=momF
theorem R0(t:Bs)(ht:t.length≤1000)(h:Heap):Sat (CT G) 184 [.str t] h (fun r h'=>r=.bool (rightS t)∧h'=h):=kS G t (by omega) h
theorem C0(t:Bs)(ht:t.length≤1000)(h:Heap):Sat (CT G) 111 [.str t] h (fun r h'=>r=.str (cleanF t)∧h'=h):=cP G t (by omega) h
theorem xE(t:Bs)(h:Heap):Sat (CT G) 159 [.str t] h (fun r h'=>r=.bool (L0.tag t)∧h'=h):=by
 have hL:=jA G rightS cleanF (R0 G) (C0 G) t;have hu:L0.tag t=((!(t==[])&&textF rightS cleanF t 64)&&isF t):=rfl;rw[hu];cases hl:(!(t==[])&&textF rightS cleanF t 64)with
 |false=>
  rw[hl]at hL;refine sb [.tmp 2] Tryz.func159 ?_;intro Q hQ;refine wk trivial ?_;refine kq trivial (hL _) ?_;refine ee hQ trivial ?_;exact R1 (.bool _) ⟨by simp,rfl⟩
 |true=>
  rw[hl]at hL;have hlen:t.length≤64:=by
   rw[L2]at hl;have:=hl.2;unfold textF at this;rw[L2,L8]at this;omega
  refine sb [.tmp 2] Tryz.func159 ?_;intro Q hQ;refine wk trivial ?_;refine kq trivial (hL _) ?_;refine kq trivial (zh G t (by omega) _) ?_;refine ee hQ trivial ?_;exact R1 (.bool _) ⟨by simp,rfl⟩
theorem tC(e:Ev)(h:Heap):Sat (CT G) 79 [e.av] h (fun r h'=>r=.int .i64 (if L0.ck e then 0 else 140)∧h'=h):=
 qs G L0 e (qx G L0 (jA G rightS cleanF (R0 G) (C0 G)) (qy G rightS cleanF (R0 G) (C0 G)) (l9 G rightS cleanF (R0 G) (C0 G)) (qw G L0 (l9 G rightS cleanF (R0 G) (C0 G))) (xE G) (qz G rightS cleanF (R0 G) (C0 G)) (qv G) e) h
theorem eX(s:PS)(h:s.Inv)(e:Ev){H:Heap}{n:Nat}(hn:n+9≤H.length):Sat (CT G) 13 [.hp (n+8) 0 0 0,e.av] (so H n s) (fun r h'=>r=.bool (s.ok L0 e)∧h'=so H n (s.step L0 e)):=by
 obtain⟨d1,d2⟩:=h.deep e.b;obtain⟨g1,g2⟩:=h.tags e.a;have hl:=(⟨Q5 h.l1 (by omega),Q5 h.l2 (by omega),Q5 h.l3 (by omega),Q5 h.l4 (by omega)⟩:s.fo.length≤100∧s.fe.length≤100∧s.it.length≤2000∧s.se.length≤100)
 exact qr G s e (s.ok L0 e) (tgF ((lkM s.it e.a).getD It.z).tags e.s e.n) h.w3 h.w7 h.few (xC h _ _ (by omega))
  (fun n H hn=>tB G s e (L0.ck e) 7 (s.dpt e.b) d1 (by omega) hl (tC G e) (fun n H hn=>(ng G s e.a e.s g1 (by omega) hn).mono fun r h' ⟨hr,hh⟩=>⟨⟨_,hr⟩,hh⟩) hn)
  (fun n H hn=>p8 G s e g1 (by omega) hn) hn
theorem ni(es:List Ev)(hl:es.length≤1048576)(h:Heap):Sat (CT G) 11 [.sl 7 (es.map Ev.av)] h (fun r h'=>r=.hp (h.length+8) 0 0 0∧h'=so (h++PS.z.bl h.length) h.length (es.foldl (PS.step L0) PS.z)):=
 tA G es hl PS.Inv (PS.ok L0) (PS.step L0) .z (fun s e _ h=>h.step e) (fun s e _ h n H hn=>eX G s h e hn) h
end
section
variable {s:PS} {e:Ev}
structure PS.Nam (s:PS):Prop where
 w5:WFM s.nm s.c5
 w6:WFM s.pl s.c6
 n1:∀key k,lkM s.nm key=some k→∃f,lkM s.fo k=some f∧(f.inn,f.name)=key
 n2:∀k f,lkM s.fo k=some f→lkM s.nm (f.inn,f.name)=some k
 p1:∀u k,lkM s.pl u=some k→∃f,lkM s.fe k=some f∧f.url=u
 p2:∀k f,lkM s.fe k=some f→lkM s.pl f.url=some k
 g1:∀key k,lkM s.gu key=some k→∃t,lkM s.it k=some t∧(t.feed,t.guid)=key
 g2:∀k t,lkM s.it k=some t→lkM s.gu (t.feed,t.guid)=some k
theorem PS.Nam.z:PS.z.Nam where
 w5:=.nil
 w6:=.nil
 n1:=fun _ _ h=>by cases h
 n2:=fun _ _ h=>by cases h
 p1:=fun _ _ h=>by cases h
 p2:=fun _ _ h=>by cases h
 g1:=fun _ _ h=>by cases h
 g2:=fun _ _ h=>by cases h
theorem mf{κ α:Type}[DecidableEq κ]{m:ML κ Int}{l:ML Int α}{c c':Nat}{key:κ}{a:α}{k:Int}(kf:α→κ)
  (h1:∀q j,lkM m q=some j→∃f,lkM l j=some f∧kf f=q)(h2:∀j f,lkM l j=some f→lkM m (kf f)=some j)(hk:lkM l k=none)(hm:lkM m key=none)(ha:kf a=key):
  (∀q j,lkM (upM m c key k) q=some j→∃f,lkM (upM l c' k a) j=some f∧kf f=q)∧(∀j f,lkM (upM l c' k a) j=some f→lkM (upM m c key k) (kf f)=some j):=by
 refine⟨fun q j hq=>?_,fun j f hf=>?_⟩
 ·rcases aG hq with⟨rfl,rfl⟩| ⟨hne,hq⟩
  ·exact⟨a,by rw[bt,L7 rfl],ha⟩
  ·obtain⟨f,hf,hkf⟩:=h1 q j hq;refine⟨f,?_,hkf⟩;rw[bt,L1 (by rintro rfl;rw[hk]at hf;cases hf)];exact hf
 ·rcases aG hf with⟨rfl,rfl⟩| ⟨hne,hf⟩
  ·rw[ha,bt,L7 rfl]
  ·have:=h2 j f hf;rw[bt,L1 (by intro e;rw[e,hm]at this;cases this)];exact this
theorem rB{κ α:Type}[DecidableEq κ]{m:ML κ Int}{l:ML Int α}{k:Int}{a:α}(kf:α→κ)(nm:(m.map (·.1)).Nodup)(nl:(l.map (·.1)).Nodup)
  (h1:∀q j,lkM m q=some j→∃f,lkM l j=some f∧kf f=q)(h2:∀j f,lkM l j=some f→lkM m (kf f)=some j)(hk:lkM l k=some a):
  (∀q j,lkM (dlM m (kf a)) q=some j→∃f,lkM (dlM l k) j=some f∧kf f=q)∧(∀j f,lkM (dlM l k) j=some f→lkM (dlM m (kf a)) (kf f)=some j):=by
 refine⟨fun q j hq=>?_,fun j f hf=>?_⟩
 ·obtain⟨hne,hq⟩:=cK nm hq;obtain⟨f,hf,hkf⟩:=h1 q j hq;refine⟨f,?_,hkf⟩;rw[fq nl,L1 (by rintro rfl;rw[hk]at hf;cases hf;exact hne hkf.symm)];exact hf
 ·obtain⟨hne,hf⟩:=cK nl hf;have:=h2 j f hf;rw[fq nm,L1 (by intro e;rw[e,h2 k a hk]at this;cases this;exact hne rfl)];exact this
theorem gC{κ α:Type}[DecidableEq κ]{m:ML κ Int}{l:ML Int α}{c:Nat}{k:Int}{a a':α}(kf:α→κ)
  (h1:∀q j,lkM m q=some j→∃f,lkM l j=some f∧kf f=q)(h2:∀j f,lkM l j=some f→lkM m (kf f)=some j)(hk:lkM l k=some a)(ha:kf a'=kf a):
  (∀q j,lkM m q=some j→∃f,lkM (upM l c k a') j=some f∧kf f=q)∧(∀j f,lkM (upM l c k a') j=some f→lkM m (kf f)=some j):=by
 refine⟨fun q j hq=>?_,fun j f hf=>?_⟩
 ·obtain⟨f,hf,hkf⟩:=h1 q j hq;by_cases hj:j=k
  ·subst hj;rw[hk]at hf;cases hf;exact⟨a',by rw[bt,L7 rfl],by rw[ha,hkf]⟩
  ·exact⟨f,by rw[bt,L1 hj];exact hf,hkf⟩
 ·rcases aG hf with⟨rfl,rfl⟩| ⟨hne,hf⟩
  ·rw[ha];exact h2 _ _ hk
  ·exact h2 j f hf
theorem vf{κ α:Type}[DecidableEq κ]{l:ML κ α}(hn:(l.map (·.1)).Nodup){p:κ×α×Nat→Bool}{y:κ}{b:α}(h:lkM l y=some b)(hp:∀n,p (y,b,n)=true):lkM (l.filter p) y=some b:=by
 obtain⟨n,hm⟩:=ff h;exact dt (hn.sublist (List.filter_sublist.map _)) (U1.2 ⟨hm,hp n⟩)
theorem rC{κ α:Type}[DecidableEq κ]{l:ML κ α}(hn:(l.map (·.1)).Nodup){p:κ×α×Nat→Bool}{y:κ}{b:α}(h:lkM (l.filter p) y=some b):lkM l y=some b∧∃n,(y,b,n)∈l∧p (y,b,n)=true:=by
 obtain⟨n,hm⟩:=ff h;have:=U1.1 hm;exact⟨dt hn this.1,n,this.1,this.2⟩
theorem pc{κ:Type}[DecidableEq κ]{m:ML κ Int}{key:κ}(h:∀j,lkM m key=some j→1≤j)(h0:(lkM m key).getD 0=0):lkM m key=none:=by
 cases hl:lkM m key with
 |none=>rfl
 |some j=>rw[hl]at h0;have:=h j hl;simp at h0;omega
theorem PS.Nam.nm1(h:s.Nam)(hI:s.Inv){key:Int×Bs}{j:Int}(hj:lkM s.nm key=some j):1≤j:=by
 obtain⟨f,hf,_⟩:=h.n1 key j hj;exact(hI.i1 _ _ hf).2.1
theorem PS.Nam.pl1(h:s.Nam)(hI:s.Inv){key:Bs}{j:Int}(hj:lkM s.pl key=some j):1≤j:=by
 obtain⟨f,hf,_⟩:=h.p1 key j hj;exact(hI.i2 _ _ hf).2.1
theorem PS.Nam.gu1(h:s.Nam)(hI:s.Inv){key:Int×Bs}{j:Int}(hj:lkM s.gu key=some j):1≤j:=by
 obtain⟨f,hf,_⟩:=h.g1 key j hj;exact(hI.i3 _ _ hf).2.1
theorem PS.Nam.unFe(h:s.Nam)(hI:s.Inv){k:Int}{f:Fe}(hk:lkM s.fe k=some f):PS.Nam (s.unfeed f):=by
 have hfk:=(hI.i2 _ _ hk).1;obtain⟨q1,q2⟩:=rB (·.url) h.w6.keys hI.w2.keys h.p1 h.p2 hk;unfold PS.unfeed;rw[bC];have hkey:∀j t,lkM s.it j=some t→t.feed=f.id→∀n,(fun e:(Int×Bs)×Int×Nat=> !(s.it.any fun d=>decide (d.2.1.feed=f.id)&&decide (e.1=(d.2.1.feed,d.2.1.guid)))) ((t.feed,t.guid),j,n)=false:=fun j t ht hf n=>by
  obtain⟨m,hm⟩:=ff ht;simp only[Bool.not_eq_false',Z6];exact⟨_,hm,by simp[hf]⟩
 exact {h with
  w6:=h.w6.dl _
  p1:=by rw[hfk];exact q1
  p2:=by rw[hfk];exact q2
  g1:=fun key j hj=>by
   obtain⟨h1,n,h2,h3⟩:=rC hI.w7.keys hj;obtain⟨t,ht,hkf⟩:=h.g1 key j h1;refine⟨t,vf hI.w3.keys ht fun n'=>?_,hkf⟩;simp only[O6,decide_eq_false_iff_not];intro hfe;have:=hkey j t ht hfe n;rw[hkf]at this;exact absurd (h3.symm.trans this) (by decide)
  g2:=fun j t ht=>by
   obtain⟨h1,n,h2,h3⟩:=rC hI.w3.keys ht;refine vf hI.w7.keys (h.g2 j t h1) fun n'=>?_
   simp only[O6,decide_eq_false_iff_not]at h3;simp only[O6,Z0,L2,L8,not_and];intro d hd hdf hq;have:t.feed=d.2.1.feed:=N5 Prod.fst hq;exact h3 (this.trans hdf)}
theorem PS.Nam.step{L:Leaf}(h:s.Nam)(hI:s.Inv)(e:Ev):(s.step L e).Nam:=by
 unfold PS.step;split
 ·rename_i hok;unfold PS.ok PS.fits at hok;rw[L2]at hok;obtain⟨hck,hf⟩:=hok;unfold PS.aft PS.after;by_cases k1:e.kind=1
  ·rw[L7 k1]at hf;simp only[L2,O6,L8,beq_iff_eq]at hf;rw[L1 (by omega),L1 (by omega),L1 (by omega),L1 (by omega),L1 (by omega),L1 (by omega),L1 (by omega),L1 (by omega),L1 (by omega),PS.make,L7 k1,bC];have hn:=pc (fun j hj=>h.nm1 hI hj) hf.2;obtain⟨q1,q2⟩:=mf (c:=s.c5) (c':=s.c1) (a:=(⟨e.a,e.b,e.s⟩:Fo)) (fun f:Fo=>(f.inn,f.name)) h.n1 h.n2 (dQ hf.1.1.1.1) hn rfl;exact {h with w5:=h.w5.up _ _,n1:=q1,n2:=q2}
  rw[L1 k1]at hf;by_cases k2:e.kind=2
  ·rw[L7 k2]at hf ⊢;simp only[L2,beq_iff_eq]at hf;obtain⟨f,hfo⟩:=aK hf.1;rw[hfo,bC];obtain⟨q1,q2⟩:=rB (fun f:Fo=>(f.inn,f.name)) h.w5.keys hI.w1.keys h.n1 h.n2 hfo;exact {h with w5:=h.w5.dl _,n1:=q1,n2:=q2}
  rw[L1 k2]at hf ⊢;by_cases k3:e.kind=3
  ·rw[L7 k3]at hf;simp only[L2,O6,L8,beq_iff_eq]at hf;rw[L1 (by omega),L1 (by omega),L1 (by omega),L1 (by omega),L1 (by omega),L1 (by omega),L1 (by omega),L1 (by omega),PS.make,L1 (by omega),L7 k3,bC];have hn:=pc (fun j hj=>h.pl1 hI hj) hf.2;obtain⟨q1,q2⟩:=mf (c:=s.c6) (c':=s.c2) (a:=(⟨e.a,e.b,e.s,e.t⟩:Fe)) (fun f:Fe=>f.url) h.p1 h.p2 (dQ hf.1.1.1) hn rfl;exact {h with w6:=h.w6.up _ _,p1:=q1,p2:=q2}
  rw[L1 k3]at hf;by_cases k4:e.kind=4
  ·rw[L7 (.inl k4)]at hf;rw[L7 k4];obtain⟨f,hfo⟩:=aK hf;rw[hfo];exact h.unFe hI hfo
  rw[L1 k4];by_cases k5:e.kind=5
  ·rw[L7 (.inr k5)]at hf;rw[L7 k5];obtain⟨f,hfo⟩:=aK hf;rw[hfo];obtain⟨q1,q2⟩:=gC (c:=s.c2) (a':= {f with title:=e.t}) (fun f:Fe=>f.url) h.p1 h.p2 hfo rfl;exact {h with p1:=q1,p2:=q2}
  rw[L1 (by omega)]at hf;rw[L1 k5];by_cases k6:e.kind=6
  ·rw[L7 k6]at hf ⊢;simp only[L2]at hf;obtain⟨f,hfo⟩:=aK hf.1;rw[hfo,bC,bC];obtain⟨q1,q2⟩:=gC (c:=s.c2) (a':= {f with inn:=e.b}) (fun f:Fe=>f.url) h.p1 h.p2 hfo rfl;exact {h with p1:=q1,p2:=q2}
  rw[L1 k6]at hf ⊢;by_cases k7:e.kind=7
  ·rw[L7 k7]at hf;simp only[L2,O6,L8,beq_iff_eq]at hf;rw[L1 (by omega),L1 (by omega),L1 (by omega),L1 (by omega),L1 (by omega),PS.make,L1 (by omega),L1 (by omega),L7 k7];have hn:=pc (fun j hj=>h.gu1 hI hj) hf.2;obtain⟨q1,q2⟩:=mf (c:=s.c7) (c':=s.c3) (a:=(⟨e.a,e.b,e.n,e.s,e.t,e.u,false,false,[]⟩:It)) (fun t:It=>(t.feed,t.guid)) h.g1 h.g2 (dQ hf.1.1.1) hn rfl;exact {h with g1:=q1,g2:=q2}
  rw[L1 k7]at hf;by_cases k8:e.kind=8
  ·rw[L7 (.inl k8)]at hf;rw[L7 k8];obtain⟨f,hfo⟩:=aK hf;rw[hfo];obtain⟨q1,q2⟩:=gC (c:=s.c3) (a':= {f with read:=e.n==1}) (fun t:It=>(t.feed,t.guid)) h.g1 h.g2 hfo rfl;exact {h with g1:=q1,g2:=q2}
  rw[L1 k8];by_cases k9:e.kind=9
  ·rw[L7 (.inr k9)]at hf;rw[L7 k9];obtain⟨f,hfo⟩:=aK hf;rw[hfo];obtain⟨q1,q2⟩:=gC (c:=s.c3) (a':= {f with star:=e.n==1}) (fun t:It=>(t.feed,t.guid)) h.g1 h.g2 hfo rfl;exact {h with g1:=q1,g2:=q2}
  rw[L1 (by omega)]at hf;rw[L1 k9];by_cases k10:e.kind=10
  ·rw[L7 k10]at hf ⊢;simp only[L2,P8,L8]at hf;obtain⟨f,hfo⟩:=aK hf.1;rw[hfo];obtain⟨q1,q2⟩:=gC (c:=s.c3) (a':= {f with tags:=tgF f.tags e.s e.n}) (fun t:It=>(t.feed,t.guid)) h.g1 h.g2 hfo rfl;exact {h with g1:=q1,g2:=q2}
  rw[L1 k10];by_cases k12:e.kind=12
  ·rw[L7 k12];exact {h with}
  rw[L1 k12];by_cases k13:e.kind=13
  ·rw[L7 k13];exact {h with}
  rw[L1 k13,PS.make,L1 k1,L1 k3,L1 k7];split
  ·exact {h with}
  ·exact h
 ·exact h
end
section
attribute [local irreducible] WP WPl WPix Sat
variable (G:Nat→Option (List AVal))
def lgE(e:Ev):Bool:=decide ((e.s.length:Int)>1000)||(decide ((e.t.length:Int)>1000)||decide ((e.u.length:Int)>1000))
theorem qE(e:Ev)(h:Heap):Sat (CT G) 34 [e.av] h (fun r h'=>r=.bool (lgE e)∧h'=h):=by
 refine sb [.tmp 2] Tryz.func34 ?_;intro Q hQ;refine wk trivial ?_;cases k1:decide ((e.s.length:Int)>1000)with
 |true=>
  have F:=k1;try refine sq F ?_
  refine wk F ?_;refine ee hQ F ?_;exact M2 (.bool _) ⟨by simp[lgE,k1],rfl⟩
 |false=>
  cases k2:decide ((e.t.length:Int)>1000)with
  |true=>
   have F:=F2 k1 k2;(try refine sq F ?_);refine wk F ?_;refine ee hQ F ?_;exact M2 (.bool _) ⟨by simp[lgE,k1,k2],rfl⟩
  |false=>
   have F:=F2 k1 k2;(try refine sq F ?_);refine wk F ?_;refine ee hQ F ?_;exact M2 (.bool _) ⟨by simp[lgE,k1,k2],rfl⟩
def lgF(es:List Ev):Bool:=decide ((es.length:Int)>150)||es.any lgE
theorem fW(es:List Ev)(h:Heap):Sat (CT G) 8 [.sl 7 (es.map Ev.av)] h (fun r h'=>r=.bool (lgF es)∧h'=h):=by
 refine sb [.tmp 2] Tryz.func8 ?_;intro Q hQ;refine wk trivial ?_;have hel:(es.map Ev.av).length=es.length:=N4 ..;have F:=hel;try refine sq F ?_
 refine cq F (fun c0=>?_) (fun c0=>?_)<;>(try exact c0.elim)<;>(refine wk F ?_)
 ·refine ee hQ F ?_;exact R1 (.bool _) ⟨by simp[lgF];omega,rfl⟩
 ·refine lm (fun nL tL hL=>∃(k:Nat),es.length-k=nL∧[]++h=hL∧tL 0=.sl 7 (es.map Ev.av)∧tL 3=.int .i64 k∧k≤es.length∧(∀e∈es.take k,lgE e=false)) ((fun(k:Nat)=>(es.length-k:Nat)) (0)) ?_ ?_
  ·refine M5 ⟨0,rfl,rfl,?_,?_,by omega,by simp⟩;all_goals try exact zZz F
  rintro _ s2 h' ⟨k,rfl,rfl,e0,e3,hk,hp⟩ K2 hK2;simp only[ak,am,Nat.reduceEqDiff, ↓reduceIte]at e0 e3;have F:=F3 F e0 e3;refine wk F ?_;refine cq F (fun c1=>?_) (fun c1=>?_)<;>(try exact c1.elim)<;>(refine wk F ?_)
  ·have c2:k<es.length:=(by omega);obtain⟨e,he,_⟩:=aj c2;have F:=F3 F c2 he;(try refine sq F ?_);refine wk F ?_;refine kq F (qE G e _) ?_;refine cq F (fun c3=>?_) (fun c3=>?_)<;>(try exact c3.elim)<;>(refine wk F ?_)
   ·refine ee hQ F ?_;exact R1 (.bool _) ⟨by
     have:es.any lgE=true:=Z6.2 ⟨e,M0 he,c3⟩;simp[lgF,this],rfl⟩
   ·have hp1:∀x∈es.take (k+1),lgE x=false:=by
     rw[R6,he];intro x hx;simp at hx;rcases hx with hx|rfl
     ·exact hp x hx
     ·exact c3
    refine hK2 _ _ _ (M5 ⟨k+1,rfl,rfl,?_,?_,by omega,hp1⟩) (by omega);all_goals try exact zZz F
  ·rw[O1 (by omega)]at hp;refine ee hQ F ?_;exact R1 (.bool _) ⟨by
    have:es.any lgE=false:=by rw[Z0];intro x hx;rw[hp x hx];simp
    simp[lgF,this];omega,rfl⟩
end
end Go.Av
