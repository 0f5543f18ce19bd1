/- Parts. -/
import Derived.Test.YtjfjncmgclaokaaGreatDoorMwCj
import Derived.Test.YtjfjncmgclaokaaGreatDoorMwSc
import Derived.Test.YtjfjncmgclaokaaGreatDoorMwEd
set_option linter.unusedSimpArgs false
set_option linter.unusedVariables false
set_option linter.unusedSectionVars false
set_option linter.unnecessarySimpa false
set_option maxRecDepth 100000
set_option maxHeartbeats 16000000
namespace Go.Av
open Go Go.Proofs Go.RowKit
section
section
variable {κ α:Type} [DecidableEq κ]
def sumM(w:α→Int):ML κ α→Int
 | []=>0
 |e::l=>w e.2.1+sumM w l
def atM(w:α→Int):Option α→Int
 |none=>0
 |some a=>w a
theorem iN(w:α→Int)(l:ML κ α)(c:Nat)(x:κ)(a:α):sumM w (upM l c x a)=sumM w l+w a-atM w (lkM l x):=by
 induction l with
 |nil=>simp[upM,sumM,lkM,atM]
 |cons e l ih=>
  simp only[upM,lkM];split
  ·simp only[sumM,atM];omega
  ·simp only[sumM,ih];omega
theorem oL(w:α→Int)(l:ML κ α)(x:κ):sumM w (dlM l x)=sumM w l-atM w (lkM l x):=by
 induction l with
 |nil=>simp[dlM,sumM,lkM,atM]
 |cons e l ih=>
  simp only[dlM,lkM];split
  ·simp only[sumM,atM];omega
  ·simp only[sumM,ih];omega
omit [DecidableEq κ] in
theorem cy{w:α→Int}(h:∀a,0≤w a)(l:ML κ α):0≤sumM w l:=by
 induction l with
 |nil=>simp[sumM]
 |cons e l ih=>have:=h e.2.1;simp only[sumM];omega
omit [DecidableEq κ] in
theorem iO{w:α→Int}(h:∀a,w a≤1)(l:ML κ α):sumM w l≤l.length:=by
 induction l with
 |nil=>simp[sumM]
 |cons e l ih=>have:=h e.2.1;simp only[sumM,I7];omega
theorem um{w:α→Int}(h:∀a,0≤w a)(l:ML κ α)(x:κ):atM w (lkM l x)≤sumM w l:=by
 induction l with
 |nil=>simp[sumM,lkM,atM]
 |cons e l ih=>
  have h1:=h e.2.1;have h2:=cy h l;simp only[lkM];split
  ·simp only[sumM,atM];omega
  ·simp only[sumM];omega
theorem mS{w:α→Int}(h:∀a,0≤w a){l:ML κ α}(h0:sumM w l≤0){x:κ}{a:α}(hx:lkM l x=some a):w a=0:=by
 have:=um h l x;rw[hx]at this;have:=h a;simp only[atM]at *;omega
end
def inFo(id:Int)(f:Fo):Int:=if f.inn=id then 1 else 0
def inFe(id:Int)(f:Fe):Int:=if f.inn=id then 1 else 0
theorem gb(id:Int)(f:Fo):0≤inFo id f:=by unfold inFo;split<;>omega
theorem gd(id:Int)(f:Fe):0≤inFe id f:=by unfold inFe;split<;>omega
theorem oM(id:Int)(f:Fo):inFo id f≤1:=by unfold inFo;split<;>omega
theorem oN(id:Int)(f:Fe):inFe id f≤1:=by unfold inFe;split<;>omega
theorem rX{l:ML Int Fo}:∀{k:Nat} {id:Int} {d:Nat},deepO l k id=some d→∀{k':Nat},d≤k'→deepO l k' id=some d:=by
 intro k;induction k with
 |zero=>
  intro id d h k' hk;rw[deepO]at h;cases hl:lkM l id with
  |none=>
   rw[hl]at h;simp at h;subst h;cases k' with
   |zero=>rw[deepO,hl];simp
   |succ k'=>rw[deepO,hl]
  |some f=>rw[hl]at h;simp at h
 |succ k ih=>
  intro id d h k' hk;rw[deepO]at h;cases hl:lkM l id with
  |none=>
   rw[hl]at h;simp at h;subst h;cases k' with
   |zero=>rw[deepO,hl];simp
   |succ k'=>rw[deepO,hl]
  |some f=>
   rw[hl]at h;simp only[K9]at h;obtain⟨j,hj,rfl⟩:=h;obtain⟨k'',rfl⟩:∃k'',k'=k''+1:=⟨k'-1,by omega⟩;rw[deepO,hl];simp only[ih hj (k':=k'') (by omega),O6]
theorem j4{l l':ML Int Fo}(P:Int→Prop)(h:∀id,P id→lkM l' id=lkM l id)(hc:∀id f,P id→lkM l id=some f→P f.inn):∀(k:Nat) (id:Int),P id→deepO l' k id=deepO l k id:=by
 intro k;induction k with
 |zero=>intro id hp;rw[deepO,deepO,h id hp]
 |succ k ih=>
  intro id hp;rw[deepO,deepO,h id hp];cases hl:lkM l id with
  |none=>rfl
  |some f=>simp only[ih f.inn (hc id f hp hl)]
structure PS.Inv (s:PS):Prop where
 w1:WFM s.fo s.c1
 w2:WFM s.fe s.c2
 w3:WFM s.it s.c3
 w4:WFM s.se s.c4
 w7:WFM s.gu s.c7
 w8:WFM s.he s.c8
 i1:∀k f,lkM s.fo k=some f→f.id=k∧1≤k∧k≤1048576
 i2:∀k f,lkM s.fe k=some f→f.id=k∧1≤k∧k≤1048576
 i3:∀k t,lkM s.it k=some t→t.id=k∧1≤k∧k≤1048576
 i4:∀k q,lkM s.se k=some q→q.id=k∧1≤k∧k≤1048576
 u1:∀k f,lkM s.fo k=some f→f.inn=0∨(lkM s.fo f.inn).isSome=true
 u2:∀k f,lkM s.fe k=some f→f.inn=0∨(lkM s.fo f.inn).isSome=true
 u3:∀k t,lkM s.it k=some t→(lkM s.fe t.feed).isSome=true
 dp:∀id,∃d,d≤7∧deepO s.fo 7 id=some d
 hd:∀id,id≠0→(lkM s.he id).getD 0=sumM (inFo id) s.fo+sumM (inFe id) s.fe
 h0:lkM s.he 0=none
 tg:∀k t,lkM s.it k=some t→Srt t.tags∧t.tags.length≤8
 l1:s.fo.length≤64
 l2:s.fe.length≤64
 l3:s.it.length≤1024
 l4:s.se.length≤32
theorem PS.Inv.z:PS.z.Inv where
 w1:=.nil
 w2:=.nil
 w3:=.nil
 w4:=.nil
 w7:=.nil
 w8:=.nil
 i1:=fun _ _ h=>by cases h
 i2:=fun _ _ h=>by cases h
 i3:=fun _ _ h=>by cases h
 i4:=fun _ _ h=>by cases h
 u1:=fun _ _ h=>by cases h
 u2:=fun _ _ h=>by cases h
 u3:=fun _ _ h=>by cases h
 dp:=fun _=>⟨0,by omega,rfl⟩
 hd:=fun _ _=>rfl
 h0:=rfl
 tg:=fun _ _ h=>by cases h
 l1:=by simp[PS.z]
 l2:=by simp[PS.z]
 l3:=by simp[PS.z]
 l4:=by simp[PS.z]
theorem PS.Inv.few{s:PS}(h:s.Inv):s.few:=by
 intro id;by_cases h0:id=0
 ·subst h0;rw[h.h0];simp
 ·have h1:=h.hd id h0;have h2:=cy (gb id) s.fo;have h3:=cy (gd id) s.fe;have h4:=iO (oM id) s.fo;have h5:=iO (oN id) s.fe;have h6:=h.l1;have h7:=h.l2;omega
def heF(he:ML Int Int)(c:Nat)(id k:Int):ML Int Int:=if id=0 then he else upM he c id ((lkM he id).getD 0+k)
def chF(he:ML Int Int)(c:Nat)(id:Int):Nat:=if id=0 then c else ckM he c id
theorem aM(s:PS)(id k:Int):s.hold id k= {s with he:=heF s.he s.c8 id k,c8:=chF s.he s.c8 id}:=by
 unfold PS.hold heF chF;split<;>rfl
theorem fb(he:ML Int Int)(c:Nat)(id k x:Int):(lkM (heF he c id k) x).getD 0=(lkM he x).getD 0+(if x=id∧id≠0 then k else 0):=by
 unfold heF;by_cases h:id=0
 ·rw[I6 h,I0 (by omega)];omega
 ·rw[I0 h,bt];by_cases hx:x=id
  ·subst hx;rw[I6 rfl,I6 ⟨rfl,h⟩];rfl
  ·rw[I0 hx,I0 (by omega)];omega
theorem iP{he:ML Int Int}(c:Nat)(id k:Int)(h:lkM he 0=none):lkM (heF he c id k) 0=none:=by
 unfold heF;split
 ·exact h
 ·rename_i h1;rw[bt,I0 (fun e=>h1 e.symm)];exact h
theorem gg{he:ML Int Int}{c:Nat}(w:WFM he c)(id k:Int):WFM (heF he c id k) (chF he c id):=by
 unfold heF chF;split
 ·exact w
 ·exact w.up _ _
theorem uo{s:PS}(h:s.Inv)(id k:Int)(hk: -1≤k∧k≤1):(s.hold id k).few:=by
 intro x;have h1:=fb s.he s.c8 id k x;rw[aM];simp only;have h6:=h.l1;have h7:=h.l2;have h2:=cy (gb x) s.fo;have h3:=cy (gd x) s.fe;have h4:=iO (oM x) s.fo;have h5:=iO (oN x) s.fe;by_cases h0:x=0
 ·subst h0;rw[h1,h.h0];simp only[Option.getD_none];split<;>omega
 ·have:=h.hd x h0;rw[h1];split<;>omega
def PS.dpt(s:PS)(id:Int):Nat:=(deepO s.fo 7 id).getD 0
def PS.ok(L:Leaf)(s:PS)(e:Ev):Bool:=s.fits (L.ck e) (s.dpt e.b) e
def PS.aft(s:PS)(e:Ev):PS:=s.after (tgF ((lkM s.it e.a).getD It.z).tags e.s e.n) e
def PS.step(L:Leaf)(s:PS)(e:Ev):PS:=if s.ok L e then s.aft e else s
theorem ji{L:Leaf}{e:Ev}(h:L.right e=true)(hk:e.kind≠13):1≤e.a∧e.a≤1048576:=by
 have:idF e.a=true:=by
  unfold Leaf.right at h;repeat' (split at h)
  all_goals first| (simp only[I1]at h;exact h.1)|exact h|omega| (cases h)
 simpa [idF]using this
theorem vN{l:List Bs}{t:Bs}(hs:Srt l)(ht:t ∉ l):Srt (l.take (lbF l t)++t::l.drop (lbF l t)):=by
 induction l with
 |nil=>simp[lbF,Srt]
 |cons a l ih=>
  have hs':=hs;unfold Srt at hs;rw[S5]at hs;rw[fa];split
  ·rename_i hat;simp only[M7,W0,Q3];unfold Srt;rw[S5];refine⟨fun x hx=>?_,ih hs.2 (fun h=>ht (R4 _ h))⟩;rw[P6,J9]at hx;rcases hx with h|rfl|h
   ·exact hs.1 x (W7 h)
   ·exact hat
   ·exact hs.1 x (List.mem_of_mem_drop h)
  ·rename_i hat;simp only[N6,U6,M5];have hat':Op.bytesLess a t=false:=(by simpa using hat);have hta:Op.bytesLess t a=true:=by
    cases h:Op.bytesLess t a with
    |true=>rfl
    |false=>exact(ht (by rw[mP t a h hat'];exact W4 ..)).elim
   unfold Srt;rw[S5];refine⟨fun x hx=>?_,hs'⟩;rcases J9.1 hx with rfl|h
   ·exact hta
   ·exact eZ hta (hs.1 x h)
theorem vO{l:List Bs}(hs:Srt l)(i:Nat):Srt (l.take i++l.drop (i+1)):=by
 rw[← List.eraseIdx_eq_take_drop_succ];exact hs.sublist (List.eraseIdx_sublist l i)
theorem vP{l:List Bs}(hs:Srt l)(t:Bs)(n:Int):Srt (tgF l t n):=by
 unfold tgF;split
 ·rename_i h;exact vN hs h.2
 ·split
  ·exact vO hs _
  ·exact hs
theorem vQ{l:List Bs}(t:Bs)(n:Int)(hl:l.length≤8)(h:n=0∨t∈l∨l.length<8):(tgF l t n).length≤8:=by
 have:=mQ l t;unfold tgF;split
 ·rename_i h1;simp only[J5,I7,M2,N2];rcases h with h|h|h
  ·omega
  ·exact(h1.2 h).elim
  ·omega
 ·split
  ·simp only[J5,M2,N2];omega
  ·exact hl
end
section
attribute [local irreducible] WP WPl WPix Sat
variable (G:Nat→Option (List AVal))
structure St where
 clock:Int
 fo:List Fo
 fe:List Fe
 it:List It
 se:List Se
 t1:Int
 t2:Int
 t3:Int
 t4:Int
def St.av(x:St):AVal:=.agg [.int .i64 x.clock,.sl 3 (x.fo.map Fo.av),.sl 4 (x.fe.map Fe.av),.sl 9 (x.it.map It.av),.sl 3 (x.se.map Se.av),.int .i64 x.t1,.int .i64 x.t2,.int .i64 x.t3,.int .i64 x.t4]
@[go_sem] theorem St.av_eq(x:St):x.av=.agg [.int .i64 x.clock,.sl 3 (x.fo.map Fo.av),.sl 4 (x.fe.map Fe.av),.sl 9 (x.it.map It.av),.sl 3 (x.se.map Se.av),.int .i64 x.t1,.int .i64 x.t2,.int .i64 x.t3,.int .i64 x.t4]:=(rfl)
def PS.tell(s:PS):St:=⟨s.clock,valsM Fo.z s.fo,valsM Fe.z s.fe,valsM It.z s.it,valsM Se.z s.se,s.t1,s.t2,s.t3,s.t4⟩
def inI(k:Int):Prop:= -9223372036854775808≤k∧k≤9223372036854775807
structure PS.Ok (s:PS):Prop where
 w1:WFM s.fo s.c1
 w2:WFM s.fe s.c2
 w3:WFM s.it s.c3
 w4:WFM s.se s.c4
 b1:∀e∈s.fo,inI e.1
 b2:∀e∈s.fe,inI e.1
 b3:∀e∈s.it,inI e.1
 b4:∀e∈s.se,inI e.1
 l1:s.fo.length≤100000
 l2:s.fe.length≤100000
 l3:s.it.length≤100000
 l4:s.se.length≤100000
 tg:∀t∈valsM It.z s.it,t.tags.length≤1048576
theorem ax{N:Nat}{h:Heap}{α:Type}{av:α→AVal}{m:Nat}(hc:∀a,Clo N (av a))(l:List α):Frz h N (.sl m (l.map av)) (.sl m (l.map av)):=
 .clo _ (Clo.sl _ _ fun x hx=>by obtain⟨a,_,rfl⟩:=J8.1 hx;exact hc a)
theorem uq(s:PS){H j:Heap}{n p v:Nat}(hn:n+9≤H.length)(hg:getRow (H++j) (H.length+p) v=some (64,9,(valsM It.z s.it).map It.av)):
  Fin (so H n s) (so (H++j) n s) (fun r h'=>r=s.tell.av∧h'=so H n s) (.agg [.int .i64 s.clock,.sl 3 ((valsM Fo.z s.fo).map Fo.av),.sl 4 ((valsM Fe.z s.fe).map Fe.av),.hs (H.length+p) v 0 (valsM It.z s.it).length true,.sl 3 ((valsM Se.z s.se).map Se.av),.int .i64 s.t1,.int .i64 s.t2,.int .i64 s.t3,.int .i64 s.t4]):=by
 have hl:H.length+p<(H++j).length:=bB hg;have hg':getRow (so (H++j) n s) (H.length+p) v=some (64,9,(valsM It.z s.it).map It.av):=by rw[bU (by simp;omega) v (by omega)];exact hg
 refine g9 hn rfl (PS.clo hn s) (FrzL.agg (.cons (.clo _ (.int _ _)) (.cons (ax (Y4 _) _) (.cons (ax (Y0 _) _) (.cons (U9 (by omega) hg' (by simp) (fun r hr=>by obtain⟨a,_,rfl⟩:=J8.1 hr;exact Y6 _ a) (fun r hr=>by obtain⟨a,_,rfl⟩:=J8.1 hr;exact a.cells_sto)) (.cons (ax (Y3 _) _) (.cons (.clo _ (.int _ _)) (.cons (.clo _ (.int _ _)) (.cons (.clo _ (.int _ _)) (.cons (.clo _ (.int _ _)) .nil))))))))) rfl) ⟨rfl,rfl⟩
def PS.tellH(s:PS)(p v:Nat):AVal:=.agg [.int .i64 s.clock,.sl 3 ((valsM Fo.z s.fo).map Fo.av),.sl 4 ((valsM Fe.z s.fe).map Fe.av),.hs p v 0 (valsM It.z s.it).length true,.sl 3 ((valsM Se.z s.se).map Se.av),.int .i64 s.t1,.int .i64 s.t2,.int .i64 s.t3,.int .i64 s.t4]
theorem nY(s:PS)(hs:s.Ok){H:Heap}{n:Nat}(hn:n+9≤H.length)(R:AVal→Heap→Prop)
  (hR:∀(j:Heap) (p v:Nat),getRow (H++j) (H.length+p) v=some (64,9,(valsM It.z s.it).map It.av)→Fin (so H n s) (so (H++j) n s) R (s.tellH (H.length+p) v)):Sat (CT G) 27 [.hp (n+8) 0 0 0] (so H n s) R:=by
 have hvl:(valsM It.z s.it).length≤100000:=by unfold valsM;rw[I4,cd,I4];exact hs.l3
 refine sb [.cell 2 47] Tryz.func27 ?_;intro Q hQ;refine wk trivial ?_;refine aA 46 [8,13,18,23,44,45] [true,true,true,true,true,true,true,true,false,true,true,true,true,false,true,true,true,true,false,true,true,true,true,false,true,true,true,true,true,true,true,true,true,true,true,true,true,true,true,true,true,true,true,true,false,false] (.two 8 [false,true,true,true,false,false,false,false,false,false,true,true,true,false,false,true,true,true,false,false,true,true,true,false,false,true,true,true,true,false,true,true,true,true,false,true,true,true,true,false,true,true,true,true] (.two 13 [false,true,true,true,false,false,false,false,false,false,false,false,false,false,false,true,true,true,false,false,true,true,true,false,false,true,true,true,true,false,true,true,true,true,false,true,true,true,true,false,true,true,true,true] (.two 18 [false,true,true,true,false,false,false,false,false,false,false,false,false,false,false,false,false,false,false,false,true,true,true,false,false,true,true,true,true,false,true,true,true,true,false,true,true,true,true,false,true,true,true,true] (.two 23 [false,true,true,true,false,false,false,false,false,false,false,false,false,false,false,false,false,false,false,false,false,false,false,false,false,true,true,true,true,false,true,true,true,true,false,true,true,true,true,false,true,true,true,true] (.two 44 [] (.one 45 [] .fin) 45 [false,true,true,true,false,false,false,false,false,false,false,false,false,false,false,false,false,false,false,false,false,false,false,false,false,true,true,true,true,false,true,true,true,true,false,true,true,true,true,false,true,true,true,true] (.one 44 [] .fin)) 45 [false,true,true,true,false,false,false,false,false,false,false,false,false,false,false,false,false,false,false,false,true,true,true,false,false,true,true,true,true,false,true,true,true,true,false,true,true,true,true,false,true,true,true,true] (.one 23 [false,true,true,true,false,false,false,false,false,false,false,false,false,false,false,false,false,false,false,false,false,false,false,false,false,true,true,true,true,false,true,true,true,true,false,true,true,true,true,false,true,true,true,true] (.one 44 [] .fin))) 45 [false,true,true,true,false,false,false,false,false,false,false,false,false,false,false,true,true,true,false,false,true,true,true,false,false,true,true,true,true,false,true,true,true,true,false,true,true,true,true,false,true,true,true,true] (.one 18 [false,true,true,true,false,false,false,false,false,false,false,false,false,false,false,false,false,false,false,false,true,true,true,false,false,true,true,true,true,false,true,true,true,true,false,true,true,true,true,false,true,true,true,true] (.one 23 [false,true,true,true,false,false,false,false,false,false,false,false,false,false,false,false,false,false,false,false,false,false,false,false,false,true,true,true,true,false,true,true,true,true,false,true,true,true,true,false,true,true,true,true] (.one 44 [] .fin)))) 45 [false,true,true,true,false,false,false,false,false,false,true,true,true,false,false,true,true,true,false,false,true,true,true,false,false,true,true,true,true,false,true,true,true,true,false,true,true,true,true,false,true,true,true,true] (.one 13 [false,true,true,true,false,false,false,false,false,false,false,false,false,false,false,true,true,true,false,false,true,true,true,false,false,true,true,true,true,false,true,true,true,true,false,true,true,true,true,false,true,true,true,true] (.one 18 [false,true,true,true,false,false,false,false,false,false,false,false,false,false,false,false,false,false,false,false,true,true,true,false,false,true,true,true,true,false,true,true,true,true,false,true,true,true,true,false,true,true,true,true] (.one 23 [false,true,true,true,false,false,false,false,false,false,false,false,false,false,false,false,false,false,false,false,false,false,false,false,false,true,true,true,true,false,true,true,true,true,false,true,true,true,true,false,true,true,true,true] (.one 44 [] .fin))))) 45 [false,true,true,true,false,true,true,true,false,false,true,true,true,false,false,true,true,true,false,false,true,true,true,false,false,true,true,true,true,false,true,true,true,true,false,true,true,true,true,false,true,true,true,true] (.one 8 [false,true,true,true,false,false,false,false,false,false,true,true,true,false,false,true,true,true,false,false,true,true,true,false,false,true,true,true,true,false,true,true,true,true,false,true,true,true,true,false,true,true,true,true] (.one 13 [false,true,true,true,false,false,false,false,false,false,false,false,false,false,false,true,true,true,false,false,true,true,true,false,false,true,true,true,true,false,true,true,true,true,false,true,true,true,true,false,true,true,true,true] (.one 18 [false,true,true,true,false,false,false,false,false,false,false,false,false,false,false,false,false,false,false,false,true,true,true,false,false,true,true,true,true,false,true,true,true,true,false,true,true,true,true,false,true,true,true,true] (.one 23 [false,true,true,true,false,false,false,false,false,false,false,false,false,false,false,false,false,false,false,false,false,false,false,false,false,true,true,true,true,false,true,true,true,true,false,true,true,true,true,false,true,true,true,true] (.one 44 [] .fin)))))) (by decide+kernel) (by kernel_rfl) (by decide+kernel) ?_;simp only[aC,aD,aB];try refine sq trivial ?_
 repeat' ((first|refine ai ?_|refine aj ?_|refine ak ?_ ?_)<;>try refine sq trivial ?_)
 all_goals try refine wk trivial ?_
 repeat' (first
  | (refine(kL G s hs.w1 hs.b1 hs.l1 (by first|omega| (simp;omega))).mono ?_;rintro r h' ⟨rfl,rfl⟩;try refine sq trivial ?_)
  | (refine(kM G s hs.w2 hs.b2 hs.l2 (by first|omega| (simp;omega))).mono ?_;rintro r h' ⟨rfl,rfl⟩;try refine sq trivial ?_)
  | (refine(kN G s hs.w4 hs.b4 hs.l4 (by first|omega| (simp;omega))).mono ?_;rintro r h' ⟨rfl,rfl⟩;try refine sq trivial ?_)
  | (refine(jQ G s hs.w3 hs.b3 hs.l3 (by first|omega| (simp;omega))).mono ?_;rintro r h' ⟨v,rfl,rfl⟩;try refine sq trivial ?_)
  | (refine ai ?_;try refine sq trivial ?_)| (refine aj ?_;try refine sq trivial ?_)| (refine ak ?_ ?_<;>try refine sq trivial ?_))
 all_goals try refine wk trivial ?_
 all_goals first
  | (
   refine lm (fun nL tL hL=>∃(k:Nat) (hh:Heap),(valsM It.z s.it).length-k=nL∧so hh n s=hL∧tL 2=.hp H.length 0 0 0∧tL 3=.hp (H.length+3) 0 0 0∧tL 55=.hs (H.length+2) v 0 (valsM It.z s.it).length true∧tL 56=.int .i64 ((valsM It.z s.it).length:Int)∧tL 57=.int .i64 k∧k≤(valsM It.z s.it).length∧(FrN H.length H hh∧H.length+3<hh.length)∧getRow hh H.length 0=some (47,9,[.agg [.int .i64 0,.nil (.slice none 0 0),.nil (.slice none 0 0),.nil (.slice none 0 0),.nil (.slice none 0 0),.int .i64 0,.int .i64 0,.int .i64 0,.int .i64 0]])∧getRow hh (H.length+3) 0=some (47,9,[.agg [.int .i64 s.clock,.sl 3 ((valsM Fo.z s.fo).map Fo.av),.sl 4 ((valsM Fe.z s.fe).map Fe.av),.hs (H.length+2) v 0 (valsM It.z s.it).length true,.sl 3 ((valsM Se.z s.se).map Se.av),.int .i64 s.t1,.int .i64 s.t2,.int .i64 s.t3,.int .i64 s.t4]])∧getRow hh (H.length+2) v=some (64,9,(valsM It.z s.it).map It.av)) ((fun(k:Nat) (hh:Heap)=>((valsM It.z s.it).length-k:Nat)) (0) (H++[.row 47 9 0 [.agg [.int .i64 0,.nil (.slice none 0 0),.nil (.slice none 0 0),.nil (.slice none 0 0),.nil (.slice none 0 0),.int .i64 0,.int .i64 0,.int .i64 0,.int .i64 0]],.row 100 1 0 [.hm (n+2)],.row 64 9 v ((valsM It.z s.it).map It.av),.row 47 9 0 [.agg [.int .i64 s.clock,.sl 3 ((valsM Fo.z s.fo).map Fo.av),.sl 4 ((valsM Fe.z s.fe).map Fe.av),.hs (H.length+2) v 0 (valsM It.z s.it).length true,.sl 3 ((valsM Se.z s.se).map Se.av),.int .i64 s.t1,.int .i64 s.t2,.int .i64 s.t3,.int .i64 s.t4]]])) ?_ ?_
   ·refine I9 ⟨0,H++[.row 47 9 0 [.agg [.int .i64 0,.nil (.slice none 0 0),.nil (.slice none 0 0),.nil (.slice none 0 0),.nil (.slice none 0 0),.int .i64 0,.int .i64 0,.int .i64 0,.int .i64 0]],.row 100 1 0 [.hm (n+2)],.row 64 9 v ((valsM It.z s.it).map It.av),.row 47 9 0 [.agg [.int .i64 s.clock,.sl 3 ((valsM Fo.z s.fo).map Fo.av),.sl 4 ((valsM Fe.z s.fe).map Fe.av),.hs (H.length+2) v 0 (valsM It.z s.it).length true,.sl 3 ((valsM Se.z s.se).map Se.av),.int .i64 s.t1,.int .i64 s.t2,.int .i64 s.t3,.int .i64 s.t4]]],rfl,az,?_,?_,?_,?_,?_,by omega,⟨V1 _ (by omega) (U2 _ _),by simp⟩,by rw[aR _ rfl];rfl,by rw[bm _ rfl];rfl,by rw[bm _ rfl];simp[getRow]⟩;all_goals try exact zZz trivial
   rintro _ s2 h' ⟨k,hh,rfl,rfl,e2,e3,e55,e56,e57,hk,hfr,hg2,hgx,hgi⟩ K2 hK2;simp only[ah,ar,Nat.reduceEqDiff, ↓reduceIte]at e2 e3 e55 e56 e57;have F:=F5 e2 e3 e55 e56 e57;refine wk F ?_;obtain⟨hfr,hfl⟩:=hfr;have hn1:n+9≤hh.length:=(by omega);refine cq F (fun c1=>?_) (fun c1=>?_)<;>(try exact c1.elim)<;>(refine wk F ?_)
   ·have c2:k<(valsM It.z s.it).length:=(by omega);obtain⟨y,hy,hym⟩:=ac c2;have hyt:=hs.tg y hym;have hset:((valsM It.z s.it).map It.av).set k (.agg [.int .i64 y.id,.int .i64 y.feed,.int .i64 y.date,.str y.guid,.str y.title,.str y.link,.bool y.read,.bool y.star,.sl 1 (y.tags.map .str)])=(valsM It.z s.it).map It.av:=by
     apply Q5
     intro q;rw[V6];split
     ·rename_i hq;subst hq;rw[K5,hy];simp[c2,It.av]
     ·rfl
    have F:=F7 F c2 hy @hset hgi hgx @ao;(try refine sq F ?_);refine wk F ?_;refine au (jR G y hyt _) ?_;(try refine sq F ?_);refine wk F ?_;refine hK2 _ _ _ (I9 ⟨k+1,hh.set (H.length+2) (.row 64 9 v ((valsM It.z s.it).map It.av))++[.row 64 9 0 [y.av]],rfl,az,?_,?_,?_,?_,?_,by omega,⟨V1 _ (by simp;omega) (U1 _ (by omega) hfr),by simp;omega⟩,by rw[bu _ (by simp;omega),b9 _ _ (by omega)];exact hg2,by rw[bu _ (by simp;omega),b9 _ _ (by omega)];exact hgx,by rw[bu _ (by simp;omega),bW _ _ _ _ _ (by omega),I6 rfl]⟩) (by omega);all_goals try exact zZz F
   ·have F:=F5 F hg2 hgx hgi @ao;(try refine sq F ?_);refine wk F ?_;refine ye hQ F ?_;obtain⟨j,hj⟩:=hfr.behind (by omega);subst hj;have hgi2:∀b,getRow (H++j.set 0 b) (H.length+2) v=some (64,9,(valsM It.z s.it).map It.av):=fun b=>by rw[← fZ b rfl,b9 _ _ (by omega)];exact hgi
    rw[fZ _ rfl];exact hR _ _ _ (by simpa using hgi2 _))
  | (
   refine lm (fun nL tL hL=>∃(k:Nat) (hh:Heap),(valsM It.z s.it).length-k=nL∧so hh n s=hL∧tL 2=.hp H.length 0 0 0∧tL 3=.hp (H.length+1) 0 0 0∧tL 55=.hs (H.length+3) v 0 (valsM It.z s.it).length true∧tL 56=.int .i64 ((valsM It.z s.it).length:Int)∧tL 57=.int .i64 k∧k≤(valsM It.z s.it).length∧(FrN H.length H hh∧H.length+3<hh.length)∧getRow hh H.length 0=some (47,9,[.agg [.int .i64 0,.nil (.slice none 0 0),.nil (.slice none 0 0),.nil (.slice none 0 0),.nil (.slice none 0 0),.int .i64 0,.int .i64 0,.int .i64 0,.int .i64 0]])∧getRow hh (H.length+1) 0=some (47,9,[.agg [.int .i64 s.clock,.sl 3 ((valsM Fo.z s.fo).map Fo.av),.sl 4 ((valsM Fe.z s.fe).map Fe.av),.hs (H.length+3) v 0 (valsM It.z s.it).length true,.sl 3 ((valsM Se.z s.se).map Se.av),.int .i64 s.t1,.int .i64 s.t2,.int .i64 s.t3,.int .i64 s.t4]])∧getRow hh (H.length+3) v=some (64,9,(valsM It.z s.it).map It.av)) ((fun(k:Nat) (hh:Heap)=>((valsM It.z s.it).length-k:Nat)) (0) (H++[.row 47 9 0 [.agg [.int .i64 0,.nil (.slice none 0 0),.nil (.slice none 0 0),.nil (.slice none 0 0),.nil (.slice none 0 0),.int .i64 0,.int .i64 0,.int .i64 0,.int .i64 0]],.row 47 9 0 [.agg [.int .i64 s.clock,.sl 3 ((valsM Fo.z s.fo).map Fo.av),.sl 4 ((valsM Fe.z s.fe).map Fe.av),.hs (H.length+3) v 0 (valsM It.z s.it).length true,.sl 3 ((valsM Se.z s.se).map Se.av),.int .i64 s.t1,.int .i64 s.t2,.int .i64 s.t3,.int .i64 s.t4]],.row 100 1 0 [.hm (n+2)],.row 64 9 v ((valsM It.z s.it).map It.av)])) ?_ ?_
   ·refine I9 ⟨0,H++[.row 47 9 0 [.agg [.int .i64 0,.nil (.slice none 0 0),.nil (.slice none 0 0),.nil (.slice none 0 0),.nil (.slice none 0 0),.int .i64 0,.int .i64 0,.int .i64 0,.int .i64 0]],.row 47 9 0 [.agg [.int .i64 s.clock,.sl 3 ((valsM Fo.z s.fo).map Fo.av),.sl 4 ((valsM Fe.z s.fe).map Fe.av),.hs (H.length+3) v 0 (valsM It.z s.it).length true,.sl 3 ((valsM Se.z s.se).map Se.av),.int .i64 s.t1,.int .i64 s.t2,.int .i64 s.t3,.int .i64 s.t4]],.row 100 1 0 [.hm (n+2)],.row 64 9 v ((valsM It.z s.it).map It.av)],rfl,az,?_,?_,?_,?_,?_,by omega,⟨V1 _ (by omega) (U2 _ _),by simp⟩,by rw[aR _ rfl];rfl,by rw[bm _ rfl];rfl,by rw[bm _ rfl];simp[getRow]⟩;all_goals try exact zZz trivial
   rintro _ s2 h' ⟨k,hh,rfl,rfl,e2,e3,e55,e56,e57,hk,hfr,hg2,hgx,hgi⟩ K2 hK2;simp only[ah,ar,Nat.reduceEqDiff, ↓reduceIte]at e2 e3 e55 e56 e57;have F:=F5 e2 e3 e55 e56 e57;refine wk F ?_;obtain⟨hfr,hfl⟩:=hfr;have hn1:n+9≤hh.length:=(by omega);refine cq F (fun c1=>?_) (fun c1=>?_)<;>(try exact c1.elim)<;>(refine wk F ?_)
   ·have c2:k<(valsM It.z s.it).length:=(by omega);obtain⟨y,hy,hym⟩:=ac c2;have hyt:=hs.tg y hym;have hset:((valsM It.z s.it).map It.av).set k (.agg [.int .i64 y.id,.int .i64 y.feed,.int .i64 y.date,.str y.guid,.str y.title,.str y.link,.bool y.read,.bool y.star,.sl 1 (y.tags.map .str)])=(valsM It.z s.it).map It.av:=by
     apply Q5
     intro q;rw[V6];split
     ·rename_i hq;subst hq;rw[K5,hy];simp[c2,It.av]
     ·rfl
    have F:=F7 F c2 hy @hset hgi hgx @ao;(try refine sq F ?_);refine wk F ?_;refine au (jR G y hyt _) ?_;(try refine sq F ?_);refine wk F ?_;refine hK2 _ _ _ (I9 ⟨k+1,hh.set (H.length+3) (.row 64 9 v ((valsM It.z s.it).map It.av))++[.row 64 9 0 [y.av]],rfl,az,?_,?_,?_,?_,?_,by omega,⟨V1 _ (by simp;omega) (U1 _ (by omega) hfr),by simp;omega⟩,by rw[bu _ (by simp;omega),b9 _ _ (by omega)];exact hg2,by rw[bu _ (by simp;omega),b9 _ _ (by omega)];exact hgx,by rw[bu _ (by simp;omega),bW _ _ _ _ _ (by omega),I6 rfl]⟩) (by omega);all_goals try exact zZz F
   ·have F:=F5 F hg2 hgx hgi @ao;(try refine sq F ?_);refine wk F ?_;refine ye hQ F ?_;obtain⟨j,hj⟩:=hfr.behind (by omega);subst hj;have hgi2:∀b,getRow (H++j.set 0 b) (H.length+3) v=some (64,9,(valsM It.z s.it).map It.av):=fun b=>by rw[← fZ b rfl,b9 _ _ (by omega)];exact hgi
    rw[fZ _ rfl];exact hR _ _ _ (by simpa using hgi2 _))
theorem jV(s:PS)(hs:s.Ok){H:Heap}{n:Nat}(hn:n+9≤H.length):Sat (CT G) 27 [.hp (n+8) 0 0 0] (so H n s) (fun r h'=>r=s.tell.av∧h'=so H n s):=
 nY G s hs hn _ fun _ _ _ hg=>uq s hn hg
end
section
variable {s:PS} {e:Ev}
theorem cA{κ α:Type}[DecidableEq κ]{l:ML κ α}{x:κ}(h:(lkM l x).isSome=false):lkM l x=none:=by
 cases hl:lkM l x with
 |none=>rfl
 |some a=>rw[hl]at h;cases h
theorem bd{κ α:Type}[DecidableEq κ]{l:ML κ α}{x:κ}(h:(lkM l x).isSome=true):∃a,lkM l x=some a:=K6.1 h
theorem eK{κ α:Type}[DecidableEq κ]{l:ML κ α}(c:Nat)(x:κ)(a:α){y:κ}(h:(lkM l y).isSome=true):(lkM (upM l c x a) y).isSome=true:=by
 rw[bt];split
 ·rfl
 ·exact h
theorem aP{κ α:Type}[DecidableEq κ]{l:ML κ α}{c:Nat}{x y:κ}{a b:α}(h:lkM (upM l c x a) y=some b):(y=x∧b=a)∨(y≠x∧lkM l y=some b):=by
 rw[bt]at h;split at h
 ·rename_i hy;cases h;exact .inl ⟨hy,rfl⟩
 ·rename_i hy;exact .inr ⟨hy,h⟩
theorem cZ{κ α:Type}[DecidableEq κ]{l:ML κ α}(hn:(l.map (·.1)).Nodup){x y:κ}{b:α}(h:lkM (dlM l x) y=some b):y≠x∧lkM l y=some b:=by
 rw[dU hn]at h;split at h
 ·cases h
 ·rename_i hy;exact⟨hy,h⟩
theorem gj{α:Type}{l:ML Int α}(hn:(l.map (·.1)).Nodup){p:Int×α×Nat→Bool}{y:Int}{b:α}(h:lkM (l.filter p) y=some b):lkM l y=some b:=by
 obtain⟨n,hm⟩:=eI h;exact cn hn (R7.1 hm).1
theorem ff{κ α:Type}[DecidableEq κ](l:ML κ α)(c:Nat)(x:κ)(a:α)(m:Nat)(h:l.length<m∨((lkM l x).isSome=true∧l.length≤m)):(upM l c x a).length≤m:=by
 rw[vb];split
 ·omega
 ·rename_i h1;rcases h with h|h
  ·omega
  ·exact(h1 h.1).elim
theorem mT{κ α:Type}[DecidableEq κ](l:ML κ α)(x:κ)(m:Nat)(h:l.length≤m):(dlM l x).length≤m:=P2 (iI l x).length_le h
theorem PS.Inv.no0(h:s.Inv):lkM s.fo 0=none:=by
 cases hl:lkM s.fo 0 with
 |none=>rfl
 |some f=>have:=(h.i1 _ _ hl).2.1;omega
theorem PS.Inv.deep(h:s.Inv)(id:Int):deepO s.fo 7 id=some (s.dpt id)∧s.dpt id≤7:=by
 obtain⟨d,h1,h2⟩:=h.dp id;unfold PS.dpt;rw[h2];exact⟨rfl,h1⟩
theorem ix(h:s.within e.b=true):e.b=0∨(lkM s.fo e.b).isSome=true:=by
 unfold PS.within at h;simpa using h
theorem PS.Inv.mkFo(h:s.Inv)(ha:1≤e.a∧e.a≤1048576)(hn:(lkM s.fo e.a).isSome=false)(hl:s.fo.length<64)(hw:s.within e.b=true)(hd:s.dpt e.b<7):
  PS.Inv ((((s.upFo e.a ⟨e.a,e.b,e.s⟩).upNm (e.b,e.s) e.a).hold e.b 1).raise 0 e.a):=by
 rw[aM];have hb:=ix hw;have hnn:=cA hn;have hba:e.b≠e.a:=by
  rcases hb with hb|hb
  ·omega
  ·intro q;rw[q,hn]at hb;cases hb
 have hcg:∀k id,id≠e.a→deepO (upM s.fo s.c1 e.a ⟨e.a,e.b,e.s⟩) k id=deepO s.fo k id:=by
  refine j4 (fun id=>id≠e.a) (fun id hi=>by rw[bt,I0 hi]) (fun id f hi hf=>?_);rcases h.u1 id f hf with h1|h1
  ·omega
  ·intro q;rw[q,hn]at h1;cases h1
 exact {h with
  w1:=h.w1.up _ _
  w8:=gg h.w8 _ _
  i1:=fun k f hk=>by
   rcases aP (l:=s.fo) hk with⟨rfl,rfl⟩| ⟨_,hk⟩
   ·exact⟨rfl,ha⟩
   ·exact h.i1 k f hk
  u1:=fun k f hk=>by
   rcases aP (l:=s.fo) hk with⟨rfl,rfl⟩| ⟨_,hk⟩
   ·exact hb.imp id (eK _ _ _)
   ·exact(h.u1 k f hk).imp id (eK _ _ _)
  u2:=fun k f hk=>(h.u2 k f hk).imp id (eK _ _ _)
  dp:=fun id=>by
   show ∃d,d≤7∧deepO (upM s.fo s.c1 e.a ⟨e.a,e.b,e.s⟩) 7 id=some d;by_cases hi:id=e.a
   ·subst hi;obtain⟨h1,h2⟩:=h.deep e.b;refine⟨s.dpt e.b+1,by omega,?_⟩;rw[deepO,bt,I6 rfl];simp only[hcg 6 e.b hba,rX h1 (k':=6) (by omega),O6]
   ·obtain⟨d,h1,h2⟩:=h.dp id;exact⟨d,h1,by rw[hcg 7 id hi,h2]⟩
  hd:=fun id hi=>by
   show(lkM (heF s.he s.c8 e.b 1) id).getD 0=sumM (inFo id) (upM s.fo s.c1 e.a ⟨e.a,e.b,e.s⟩)+sumM (inFe id) s.fe;rw[fb,iN,hnn,h.hd id hi];simp only[atM,inFo];by_cases hx:e.b=id
   ·subst hx;simp[hi];omega
   ·rw[I0 (by omega),I0 hx];omega
  h0:=iP _ _ _ h.h0
  l1:=ff _ _ _ _ _ (.inl hl)}
theorem PS.Inv.mkFe(h:s.Inv)(ha:1≤e.a∧e.a≤1048576)(hn:(lkM s.fe e.a).isSome=false)(hl:s.fe.length<64)(hw:s.within e.b=true):
  PS.Inv ((((s.upFe e.a ⟨e.a,e.b,e.s,e.t⟩).upPl e.s e.a).hold e.b 1).raise 1 e.a):=by
 rw[aM];have hb:=ix hw;have hnn:=cA hn;exact {h with
  w2:=h.w2.up _ _
  w8:=gg h.w8 _ _
  i2:=fun k f hk=>by
   rcases aP (l:=s.fe) hk with⟨rfl,rfl⟩| ⟨_,hk⟩
   ·exact⟨rfl,ha⟩
   ·exact h.i2 k f hk
  u2:=fun k f hk=>by
   rcases aP (l:=s.fe) hk with⟨rfl,rfl⟩| ⟨_,hk⟩
   ·exact hb
   ·exact h.u2 k f hk
  u3:=fun k f hk=>eK _ _ _ (h.u3 k f hk)
  hd:=fun id hi=>by
   show(lkM (heF s.he s.c8 e.b 1) id).getD 0=sumM (inFo id) s.fo+sumM (inFe id) (upM s.fe s.c2 e.a ⟨e.a,e.b,e.s,e.t⟩);rw[fb,iN,hnn,h.hd id hi];simp only[atM,inFe];by_cases hx:e.b=id
   ·subst hx;simp[hi];omega
   ·rw[I0 (by omega),I0 hx];omega
  h0:=iP _ _ _ h.h0
  l2:=ff _ _ _ _ _ (.inl hl)}
theorem PS.Inv.mkIt(h:s.Inv)(ha:1≤e.a∧e.a≤1048576)(hl:s.it.length<1024)(hw:(lkM s.fe e.b).isSome=true):
  PS.Inv (((s.upIt e.a ⟨e.a,e.b,e.n,e.s,e.t,e.u,false,false,[]⟩).upGu (e.b,e.s) e.a).raise 2 e.a):=
 {h with
  w3:=h.w3.up _ _
  w7:=h.w7.up _ _
  i3:=fun k f hk=>by
   rcases aP (l:=s.it) hk with⟨rfl,rfl⟩| ⟨_,hk⟩
   ·exact⟨rfl,ha⟩
   ·exact h.i3 k f hk
  u3:=fun k f hk=>by
   rcases aP (l:=s.it) hk with⟨rfl,rfl⟩| ⟨_,hk⟩
   ·exact hw
   ·exact h.u3 k f hk
  tg:=fun k f hk=>by
   rcases aP (l:=s.it) hk with⟨rfl,rfl⟩| ⟨_,hk⟩
   ·exact⟨by simp[Srt],by simp⟩
   ·exact h.tg k f hk
  l3:=ff _ _ _ _ _ (.inl hl)}
theorem PS.Inv.mkSe(h:s.Inv)(ha:1≤e.a∧e.a≤1048576)(hl:s.se.length<32):PS.Inv ((s.upSe e.a ⟨e.a,e.s,e.t⟩).raise 3 e.a):=
 {h with
  w4:=h.w4.up _ _
  i4:=fun k f hk=>by
   rcases aP (l:=s.se) hk with⟨rfl,rfl⟩| ⟨_,hk⟩
   ·exact⟨rfl,ha⟩
   ·exact h.i4 k f hk
  l4:=ff _ _ _ _ _ (.inl hl)}
theorem PS.Inv.reIt(h:s.Inv){k:Int}{t:It}(t':It)(hk:lkM s.it k=some t)(h1:t'.id=t.id)(h2:t'.feed=t.feed)(h3:Srt t'.tags∧t'.tags.length≤8):PS.Inv (s.upIt k t'):=
 {h with
  w3:=h.w3.up _ _
  i3:=fun j f hj=>by
   rcases aP (l:=s.it) hj with⟨rfl,rfl⟩| ⟨_,hj⟩
   ·rw[h1];exact h.i3 _ _ hk
   ·exact h.i3 j f hj
  u3:=fun j f hj=>by
   rcases aP (l:=s.it) hj with⟨rfl,rfl⟩| ⟨_,hj⟩
   ·rw[h2];exact h.u3 _ _ hk
   ·exact h.u3 j f hj
  tg:=fun j f hj=>by
   rcases aP (l:=s.it) hj with⟨rfl,rfl⟩| ⟨_,hj⟩
   ·exact h3
   ·exact h.tg j f hj
  l3:=ff _ _ _ _ _ (.inr ⟨by rw[hk];rfl,h.l3⟩)}
theorem PS.Inv.unFo(h:s.Inv){k:Int}{f:Fo}(hk:lkM s.fo k=some f)(h0:(lkM s.he k).getD 0=0):PS.Inv (((s.dlNm (f.inn,f.name)).dlFo k).hold f.inn (-1)):=by
 rw[aM];have hk1:=(h.i1 _ _ hk).2;have hs:=h.hd k (by omega);have n1:=cy (gb k) s.fo;have n2:=cy (gd k) s.fe;have hA:∀j g,lkM s.fo j=some g→g.inn≠k:=fun j g hg q=>by
  have:=mS (gb k) (l:=s.fo) (by omega) hg;rw[inFo,I6 q]at this;omega
 have hB:∀j g,lkM s.fe j=some g→g.inn≠k:=fun j g hg q=>by
  have:=mS (gd k) (l:=s.fe) (by omega) hg;rw[inFe,I6 q]at this;omega
 have hcg:∀m id,id≠k→deepO (dlM s.fo k) m id=deepO s.fo m id:=
  j4 (fun id=>id≠k) (fun id hi=>by rw[dU h.w1.keys,I0 hi]) (fun id g _ hg=>hA id g hg)
 have hst:∀x,x≠k→(lkM s.fo x).isSome=true→(lkM (dlM s.fo k) x).isSome=true:=fun x hx hs=>by rw[dU h.w1.keys,I0 hx];exact hs
 exact {h with
  w1:=h.w1.dl _
  w8:=gg h.w8 _ _
  i1:=fun j g hj=>h.i1 j g (cZ h.w1.keys hj).2
  u1:=fun j g hj=>by
   obtain⟨_,hj⟩:=cZ h.w1.keys hj;exact(h.u1 j g hj).imp id (hst _ (hA j g hj))
  u2:=fun j g hj=>(h.u2 j g hj).imp id (hst _ (hB j g hj))
  dp:=fun id=>by
   show ∃d,d≤7∧deepO (dlM s.fo k) 7 id=some d;by_cases hi:id=k
   ·subst hi;exact⟨0,by omega,by rw[deepO,dU h.w1.keys,I6 rfl]⟩
   ·rw[hcg 7 id hi];exact h.dp id
  hd:=fun id hi=>by
   show(lkM (heF s.he s.c8 f.inn (-1)) id).getD 0=sumM (inFo id) (dlM s.fo k)+sumM (inFe id) s.fe;rw[fb,oL,hk,h.hd id hi];simp only[atM,inFo];by_cases hx:f.inn=id
   ·subst hx;simp[hi];omega
   ·rw[I0 (by omega),I0 hx];omega
  h0:=iP _ _ _ h.h0
  l1:=mT _ _ _ h.l1}
theorem PS.Inv.reTi(h:s.Inv){k:Int}{f:Fe}(t:Bs)(hk:lkM s.fe k=some f):PS.Inv (s.upFe k {f with title:=t}):=
 {h with
  w2:=h.w2.up _ _
  i2:=fun j g hj=>by
   rcases aP (l:=s.fe) hj with⟨rfl,rfl⟩| ⟨_,hj⟩
   ·have:=h.i2 _ _ hk;exact this
   ·exact h.i2 j g hj
  u2:=fun j g hj=>by
   rcases aP (l:=s.fe) hj with⟨rfl,rfl⟩| ⟨_,hj⟩
   ·have:=h.u2 _ _ hk;exact this
   ·exact h.u2 j g hj
  u3:=fun j g hj=>eK _ _ _ (h.u3 j g hj)
  hd:=fun id hi=>by
   show(lkM s.he id).getD 0=sumM (inFo id) s.fo+sumM (inFe id) (upM s.fe s.c2 k {f with title:=t});rw[iN,hk,h.hd id hi];simp only[atM,inFe];omega
  l2:=ff _ _ _ _ _ (.inr ⟨by rw[hk];rfl,h.l2⟩)}
theorem PS.Inv.reIn(h:s.Inv){k b:Int}{f:Fe}(hk:lkM s.fe k=some f)(hb:b=0∨(lkM s.fo b).isSome=true):PS.Inv (((s.hold f.inn (-1)).hold b 1).upFe k {f with inn:=b}):=by
 rw[aM s,aM];exact {h with
  w2:=h.w2.up _ _
  w8:=gg (gg h.w8 _ _) _ _
  i2:=fun j g hj=>by
   rcases aP (l:=s.fe) hj with⟨rfl,rfl⟩| ⟨_,hj⟩
   ·have:=h.i2 _ _ hk;exact this
   ·exact h.i2 j g hj
  u2:=fun j g hj=>by
   rcases aP (l:=s.fe) hj with⟨rfl,rfl⟩| ⟨_,hj⟩
   ·exact hb
   ·exact h.u2 j g hj
  u3:=fun j g hj=>eK _ _ _ (h.u3 j g hj)
  hd:=fun id hi=>by
   show(lkM (heF (heF s.he s.c8 f.inn (-1)) (chF s.he s.c8 f.inn) b 1) id).getD 0=sumM (inFo id) s.fo+sumM (inFe id) (upM s.fe s.c2 k {f with inn:=b});rw[fb,fb,iN,hk,h.hd id hi];simp only[atM,inFe];by_cases h1:f.inn=id
   ·by_cases h2:b=id
    ·rw[I6 ⟨h1.symm,by omega⟩,I6 ⟨h2.symm,by omega⟩,I6 h1,I6 h2];omega
    ·rw[I6 ⟨h1.symm,by omega⟩,I0 (by omega),I6 h1,I0 h2];omega
   ·by_cases h2:b=id
    ·rw[I0 (by omega),I6 ⟨h2.symm,by omega⟩,I0 h1,I6 h2];omega
    ·rw[I0 (by omega),I0 (by omega),I0 h1,I0 h2];omega
  h0:=iP _ _ _ (iP _ _ _ h.h0)
  l2:=ff _ _ _ _ _ (.inr ⟨by rw[hk];rfl,h.l2⟩)}
theorem PS.Inv.unFe(h:s.Inv){k:Int}{f:Fe}(hk:lkM s.fe k=some f):PS.Inv (s.unfeed f):=by
 have hfk:=(h.i2 _ _ hk).1;unfold PS.unfeed;rw[aM];exact {h with
  w2:=h.w2.dl _
  w3:=h.w3.filter _
  w7:=h.w7.filter _
  w8:=gg h.w8 _ _
  i2:=fun j g hj=>h.i2 j g (cZ h.w2.keys hj).2
  i3:=fun j t hj=>h.i3 j t (gj h.w3.keys hj)
  u2:=fun j g hj=>h.u2 j g (cZ h.w2.keys hj).2
  u3:=fun j t hj=>by
   have hj':lkM (itF s.it f.id) j=some t:=hj;show(lkM (dlM s.fe f.id) t.feed).isSome=true;have hne:t.feed≠f.id:=by
    obtain⟨n,hm⟩:=eI hj';have:=(R7.1 hm).2;simpa using this
   rw[dU h.w2.keys,I0 hne];exact h.u3 j t (gj h.w3.keys hj')
  hd:=fun id hi=>by
   show(lkM (heF s.he s.c8 f.inn (-1)) id).getD 0=sumM (inFo id) s.fo+sumM (inFe id) (dlM s.fe f.id);rw[fb,oL,hfk,hk,h.hd id hi];simp only[atM,inFe];by_cases hx:f.inn=id
   ·subst hx;simp[hi];omega
   ·rw[I0 (by omega),I0 hx];omega
  h0:=iP _ _ _ h.h0
  tg:=fun j t hj=>h.tg j t (gj h.w3.keys hj)
  l2:=mT _ _ _ h.l2
  l3:=P2 (List.length_filter_le _ _) h.l3}
theorem PS.Inv.unSe(h:s.Inv)(k:Int):PS.Inv (s.dlSe k):=
 {h with
  w4:=h.w4.dl _
  i4:=fun j g hj=>h.i4 j g (cZ h.w4.keys hj).2
  l4:=mT _ _ _ h.l4}
theorem PS.Inv.clk(h:s.Inv)(k:Int):PS.Inv {s with clock:=k}:= {h with}
theorem PS.Inv.step{L:Leaf}(h:s.Inv)(e:Ev):(s.step L e).Inv:=by
 unfold PS.step;split
 ·rename_i hok;unfold PS.ok PS.fits at hok;rw[I1]at hok;obtain⟨hck,hf⟩:=hok;have hr:L.right e=true:=by unfold Leaf.ck at hck;simp only[I1]at hck;exact hck.1
  have ha:e.kind≠13→1≤e.a∧e.a≤1048576:=fun hk=>ji hr hk
  unfold PS.aft PS.after;by_cases k1:e.kind=1
  ·rw[I6 k1]at hf;simp only[I1,M4,I8,beq_iff_eq]at hf;rw[I0 (by omega),I0 (by omega),I0 (by omega),I0 (by omega),I0 (by omega),I0 (by omega),I0 (by omega),I0 (by omega),I0 (by omega),PS.make,I6 k1];exact h.mkFo (ha (by omega)) hf.1.1.1.1 hf.1.1.1.2 hf.1.1.2 hf.1.2
  rw[I0 k1]at hf;by_cases k2:e.kind=2
  ·rw[I6 k2]at hf ⊢;simp only[I1,beq_iff_eq]at hf;obtain⟨f,hfo⟩:=bd hf.1;rw[hfo];exact h.unFo hfo hf.2
  rw[I0 k2]at hf ⊢;by_cases k3:e.kind=3
  ·rw[I6 k3]at hf;simp only[I1,M4,I8,beq_iff_eq]at hf;rw[I0 (by omega),I0 (by omega),I0 (by omega),I0 (by omega),I0 (by omega),I0 (by omega),I0 (by omega),I0 (by omega),PS.make,I0 (by omega),I6 k3];exact h.mkFe (ha (by omega)) hf.1.1.1 hf.1.1.2 hf.1.2
  rw[I0 k3]at hf;by_cases k4:e.kind=4
  ·rw[I6 (.inl k4)]at hf;rw[I6 k4];obtain⟨f,hfo⟩:=bd hf;rw[hfo];exact h.unFe hfo
  rw[I0 k4];by_cases k5:e.kind=5
  ·rw[I6 (.inr k5)]at hf;rw[I6 k5];obtain⟨f,hfo⟩:=bd hf;rw[hfo];exact h.reTi _ hfo
  rw[I0 (by omega)]at hf;rw[I0 k5];by_cases k6:e.kind=6
  ·rw[I6 k6]at hf ⊢;simp only[I1]at hf;obtain⟨f,hfo⟩:=bd hf.1;rw[hfo];exact h.reIn hfo (ix hf.2)
  rw[I0 k6]at hf ⊢;by_cases k7:e.kind=7
  ·rw[I6 k7]at hf;simp only[I1,M4,I8,beq_iff_eq]at hf;rw[I0 (by omega),I0 (by omega),I0 (by omega),I0 (by omega),I0 (by omega),PS.make,I0 (by omega),I0 (by omega),I6 k7];exact h.mkIt (ha (by omega)) hf.1.1.2 hf.1.2
  rw[I0 k7]at hf;by_cases k8:e.kind=8
  ·rw[I6 (.inl k8)]at hf;rw[I6 k8];obtain⟨f,hfo⟩:=bd hf;rw[hfo];have htg:=h.tg _ _ hfo;exact h.reIt _ hfo rfl rfl htg
  rw[I0 k8];by_cases k9:e.kind=9
  ·rw[I6 (.inr k9)]at hf;rw[I6 k9];obtain⟨f,hfo⟩:=bd hf;rw[hfo];have htg:=h.tg _ _ hfo;exact h.reIt _ hfo rfl rfl htg
  rw[I0 (by omega)]at hf;rw[I0 k9];by_cases k10:e.kind=10
  ·rw[I6 k10]at hf ⊢;simp only[I1,O2,I8]at hf;obtain⟨f,hfo⟩:=bd hf.1;rw[hfo]at hf ⊢;simp only[O3]at hf ⊢;have htg:=h.tg _ _ hfo;exact h.reIt _ hfo rfl rfl ⟨vP htg.1 _ _,vQ _ _ htg.2 (by rcases hf.2 with(h1|h1)|h1<;>simp[h1])⟩
  rw[I0 k10]at hf ⊢;by_cases k11:e.kind=11
  ·rw[I6 k11]at hf;simp only[I1,M4,I8]at hf;rw[I0 (by omega),I0 (by omega),PS.make,I0 (by omega),I0 (by omega),I0 (by omega),I6 k11];exact h.mkSe (ha (by omega)) hf.2
  rw[I0 k11]at hf;by_cases k12:e.kind=12
  ·rw[I6 k12];exact h.unSe _
  rw[I0 k12];by_cases k13:e.kind=13
  ·rw[I6 k13];exact h.clk _
  ·exfalso;unfold Leaf.right at hr;rw[I0 k1,I0 (by omega),I0 k3,I0 k5,I0 k6,I0 k7,I0 (by omega),I0 k10,I0 k11,I0 k13]at hr;cases hr
 ·exact h
theorem PS.Inv.fold{L:Leaf}(h:s.Inv)(l:List Ev):(l.foldl (PS.step L) s).Inv:=by
 induction l generalizing s with
 |nil=>exact h
 |cons e l ih=>exact ih (h.step e)
theorem aN{α:Type}{z:α}{l:ML Int α}{a:α}(h:a∈valsM z l):∃k,lkM l k=some a:=by
 unfold valsM at h;obtain⟨k,hk,rfl⟩:=J8.1 h;have hk2:k∈l.map (·.1):=(V7 _ _).mem_iff.1 hk;refine⟨k,?_⟩;cases hl:lkM l k with
 |none=>
  have:(lkM l k).isSome=false:=by rw[hl];rfl
  exact(oD this hk2).elim
 |some a=>rfl
theorem jW{α:Type}{l:ML Int α}{c:Nat}(w:WFM l c)(h:∀k a,lkM l k=some a→1≤k∧k≤1048576):∀e∈l,inI e.1:=fun e he=>by
 have:=h e.1 e.2.1 (cn w.keys (b:=e.2.2) (by exact he));unfold inI;omega
theorem PS.Inv.toOk(h:s.Inv):s.Ok where
 w1:=h.w1
 w2:=h.w2
 w3:=h.w3
 w4:=h.w4
 b1:=jW h.w1 fun k f hk=>(h.i1 k f hk).2
 b2:=jW h.w2 fun k f hk=>(h.i2 k f hk).2
 b3:=jW h.w3 fun k f hk=>(h.i3 k f hk).2
 b4:=jW h.w4 fun k f hk=>(h.i4 k f hk).2
 l1:=P2 h.l1 (by omega)
 l2:=P2 h.l2 (by omega)
 l3:=P2 h.l3 (by omega)
 l4:=P2 h.l4 (by omega)
 tg:=fun t ht=>by
  obtain⟨k,hk⟩:=aN ht;exact P2 (h.tg k t hk).2 (by omega)
theorem PS.Inv.tags(h:s.Inv)(id:Int):Srt ((lkM s.it id).getD It.z).tags∧((lkM s.it id).getD It.z).tags.length≤8:=by
 cases hl:lkM s.it id with
 |none=>exact⟨by simp[It.z,Srt],by simp[It.z]⟩
 |some t=>exact h.tg id t hl
end
section
attribute [local irreducible] WP WPl WPix Sat
section
variable {α:Type}
def ixO(key:α→Int)(id:Int):List α→Option Nat
 | []=>none
 |a::l=>if key a=id then some 0 else(ixO key id l).map (· +1)
def posF(key:α→Int)(l:List α)(id:Int):Int:=match ixO key id l with
 |some k=>(k:Int)
 |none=> -1
def fnd(key:α→Int)(l:List α)(id:Int):Option α:=l.find? fun a=>decide (key a=id)
theorem mX{key:α→Int}{id:Int}:∀{l:List α} {k:Nat} {a:α},l[k]? =some a→key a=id→(∀b∈l.take k,key b≠id)→ixO key id l=some k
 | [],k,a,h,_,_=>by simp at h
 |b::l,0,a,h,ha,_=>by simp at h;subst h;rw[ixO,I6 ha]
 |b::l,k+1,a,h,ha,hf=>by
  rw[ixO,I0 (hf b (by simp)),mX (by simpa using h) ha (fun c hc=>hf c (by simp[hc]))];rfl
theorem mY{key:α→Int}{id:Int}:∀{l:List α},(∀b∈l,key b≠id)→ixO key id l=none
 | [],_=>rfl
 |b::l,hf=>by rw[ixO,I0 (hf b (by simp)),mY (fun c hc=>hf c (by simp[hc]))];rfl
theorem cQ{key:α→Int}{id:Int}{l:List α}{k:Nat}{a:α}(h:l[k]? =some a)(ha:key a=id)(hf:∀b∈l.take k,key b≠id):posF key l id=(k:Int):=by
 unfold posF;rw[mX h ha hf]
theorem cg{key:α→Int}{id:Int}{l:List α}(hf:∀b∈l,key b≠id):posF key l id= -1:=by
 unfold posF;rw[mY hf]
theorem bi{key:α→Int}{id:Int}:∀{l:List α} {a:α},fnd key l id=some a→∃k:Nat,l[k]? =some a∧posF key l id=(k:Int)∧key a=id
 | [],a,h=>by simp[fnd]at h
 |b::l,a,h=>by
  unfold fnd at h;rw[List.find?_cons]at h;by_cases hb:key b=id
  ·rw[J7 hb]at h;simp at h;subst h;exact⟨0,rfl,by unfold posF;rw[ixO,I6 hb],hb⟩
  ·rw[J3 hb]at h;simp at h;obtain⟨k,h1,h2,h3⟩:=bi (key:=key) (l:=l) h;refine⟨k+1,by simpa using h1,?_,h3⟩;unfold posF at h2 ⊢;rw[ixO,I0 hb];cases hx:ixO key id l with
   |none=>rw[hx]at h2;simp at h2
   |some j=>rw[hx]at h2;simp at h2 ⊢;omega
theorem uu{key:α→Int}{id:Int}{l:List α}(h:fnd key l id=none):∀b∈l,key b≠id:=fun b hb=>by
 have:=List.find?_eq_none.1 h b hb;simpa using this
theorem eO{key:α→Int}{id:Int}{l:List α}(h:fnd key l id=none):posF key l id= -1:=cg (uu h)
end
variable (G:Nat→Option (List AVal))
theorem cD(x:St)(id:Int)(hl:x.fo.length≤100000)(h:Heap):Sat (CT G) 134 [x.av,.int .i64 id] h (fun r h'=>r=.int .i64 (posF (·.id) x.fo id)∧h'=h):=by
 have hel:(x.fo.map Fo.av).length=x.fo.length:=I4 ..;have F:=hel;refine sb [.tmp 4] Tryz.func134 ?_;intro Q hQ;refine wk F ?_;refine lm (fun nL tL hL=>∃(k:Nat),x.fo.length-k=nL∧h++[.row 47 9 0 [x.av]]=hL∧tL 1=.int .i64 id∧tL 2=.hp h.length 0 0 0∧tL 5=.int .i64 k∧k≤x.fo.length∧(∀f∈x.fo.take k,f.id≠id)) ((fun(k:Nat)=>(x.fo.length-k:Nat)) (0)) ?_ ?_
 ·refine I9 ⟨0,rfl,az,?_,?_,?_,by omega,by simp⟩;all_goals try exact zZz F
 rintro _ s2 h' ⟨k,rfl,rfl,e1,e2,e5,hk,hp⟩ K2 hK2;simp only[ah,ar,Nat.reduceEqDiff, ↓reduceIte]at e1 e2 e5;have F:=F4 F e1 e2 e5;refine wk F ?_;refine cq F (fun c1=>?_) (fun c1=>?_)<;>(try exact c1.elim)<;>(refine wk F ?_)
 ·have c2:k<x.fo.length:=by omega
  obtain⟨f,hf,hfm⟩:=ac c2;have F:=F3 F c2 hf;try refine sq F ?_
  refine wk F ?_;refine cq F (fun c3=>?_) (fun c3=>?_)<;>(try exact c3.elim)<;>(refine wk F ?_)
  ·refine ee hQ F ?_;exact I2 (.int _ _) ⟨by rw[cQ hf (by first|exact c3|exact c3.symm) hp],rfl⟩
  ·have hp1:∀g∈x.fo.take (k+1),g.id≠id:=by
    rw[M8,hf];intro g hg;simp at hg;rcases hg with hg|rfl
    ·exact hp g hg
    ·exact c3
   refine hK2 _ _ _ (I9 ⟨k+1,rfl,az,?_,?_,?_,by omega,hp1⟩) (by omega);all_goals try exact zZz F
 ·rw[J6 (by omega)]at hp;refine ee hQ F ?_;exact I2 (.int _ _) ⟨by rw[cg hp],rfl⟩
theorem bI(x:St)(id:Int)(hl:x.fe.length≤100000)(h:Heap):Sat (CT G) 22 [x.av,.int .i64 id] h (fun r h'=>r=.int .i64 (posF (·.id) x.fe id)∧h'=h):=by
 have hel:(x.fe.map Fe.av).length=x.fe.length:=I4 ..;have F:=hel;refine sb [.tmp 4] Tryz.func22 ?_;intro Q hQ;refine wk F ?_;refine lm (fun nL tL hL=>∃(k:Nat),x.fe.length-k=nL∧h++[.row 47 9 0 [x.av]]=hL∧tL 1=.int .i64 id∧tL 2=.hp h.length 0 0 0∧tL 5=.int .i64 k∧k≤x.fe.length∧(∀f∈x.fe.take k,f.id≠id)) ((fun(k:Nat)=>(x.fe.length-k:Nat)) (0)) ?_ ?_
 ·refine I9 ⟨0,rfl,az,?_,?_,?_,by omega,by simp⟩;all_goals try exact zZz F
 rintro _ s2 h' ⟨k,rfl,rfl,e1,e2,e5,hk,hp⟩ K2 hK2;simp only[ah,ar,Nat.reduceEqDiff, ↓reduceIte]at e1 e2 e5;have F:=F4 F e1 e2 e5;refine wk F ?_;refine cq F (fun c1=>?_) (fun c1=>?_)<;>(try exact c1.elim)<;>(refine wk F ?_)
 ·have c2:k<x.fe.length:=by omega
  obtain⟨f,hf,hfm⟩:=ac c2;have F:=F3 F c2 hf;try refine sq F ?_
  refine wk F ?_;refine cq F (fun c3=>?_) (fun c3=>?_)<;>(try exact c3.elim)<;>(refine wk F ?_)
  ·refine ee hQ F ?_;exact I2 (.int _ _) ⟨by rw[cQ hf (by first|exact c3|exact c3.symm) hp],rfl⟩
  ·have hp1:∀g∈x.fe.take (k+1),g.id≠id:=by
    rw[M8,hf];intro g hg;simp at hg;rcases hg with hg|rfl
    ·exact hp g hg
    ·exact c3
   refine hK2 _ _ _ (I9 ⟨k+1,rfl,az,?_,?_,?_,by omega,hp1⟩) (by omega);all_goals try exact zZz F
 ·rw[J6 (by omega)]at hp;refine ee hQ F ?_;exact I2 (.int _ _) ⟨by rw[cg hp],rfl⟩
theorem fE(x:St)(id:Int)(hl:x.it.length≤100000)(h:Heap):Sat (CT G) 84 [x.av,.int .i64 id] h (fun r h'=>r=.int .i64 (posF (·.id) x.it id)∧h'=h):=by
 have hel:(x.it.map It.av).length=x.it.length:=I4 ..;have F:=hel;refine sb [.tmp 4] Tryz.func84 ?_;intro Q hQ;refine wk F ?_;refine lm (fun nL tL hL=>∃(k:Nat),x.it.length-k=nL∧h++[.row 47 9 0 [x.av]]=hL∧tL 1=.int .i64 id∧tL 2=.hp h.length 0 0 0∧tL 5=.int .i64 k∧k≤x.it.length∧(∀f∈x.it.take k,f.id≠id)) ((fun(k:Nat)=>(x.it.length-k:Nat)) (0)) ?_ ?_
 ·refine I9 ⟨0,rfl,az,?_,?_,?_,by omega,by simp⟩;all_goals try exact zZz F
 rintro _ s2 h' ⟨k,rfl,rfl,e1,e2,e5,hk,hp⟩ K2 hK2;simp only[ah,ar,Nat.reduceEqDiff, ↓reduceIte]at e1 e2 e5;have F:=F4 F e1 e2 e5;refine wk F ?_;refine cq F (fun c1=>?_) (fun c1=>?_)<;>(try exact c1.elim)<;>(refine wk F ?_)
 ·have c2:k<x.it.length:=by omega
  obtain⟨f,hf,hfm⟩:=ac c2;have F:=F3 F c2 hf;try refine sq F ?_
  refine wk F ?_;refine cq F (fun c3=>?_) (fun c3=>?_)<;>(try exact c3.elim)<;>(refine wk F ?_)
  ·refine ee hQ F ?_;exact I2 (.int _ _) ⟨by rw[cQ hf (by first|exact c3|exact c3.symm) hp],rfl⟩
  ·have hp1:∀g∈x.it.take (k+1),g.id≠id:=by
    rw[M8,hf];intro g hg;simp at hg;rcases hg with hg|rfl
    ·exact hp g hg
    ·exact c3
   refine hK2 _ _ _ (I9 ⟨k+1,rfl,az,?_,?_,?_,by omega,hp1⟩) (by omega);all_goals try exact zZz F
 ·rw[J6 (by omega)]at hp;refine ee hQ F ?_;exact I2 (.int _ _) ⟨by rw[cg hp],rfl⟩
theorem fN(x:St)(id:Int)(hl:x.se.length≤100000)(h:Heap):Sat (CT G) 140 [x.av,.int .i64 id] h (fun r h'=>r=.int .i64 (posF (·.id) x.se id)∧h'=h):=by
 have hel:(x.se.map Se.av).length=x.se.length:=I4 ..;have F:=hel;refine sb [.tmp 4] Tryz.func140 ?_;intro Q hQ;refine wk F ?_;refine lm (fun nL tL hL=>∃(k:Nat),x.se.length-k=nL∧h++[.row 47 9 0 [x.av]]=hL∧tL 1=.int .i64 id∧tL 2=.hp h.length 0 0 0∧tL 5=.int .i64 k∧k≤x.se.length∧(∀f∈x.se.take k,f.id≠id)) ((fun(k:Nat)=>(x.se.length-k:Nat)) (0)) ?_ ?_
 ·refine I9 ⟨0,rfl,az,?_,?_,?_,by omega,by simp⟩;all_goals try exact zZz F
 rintro _ s2 h' ⟨k,rfl,rfl,e1,e2,e5,hk,hp⟩ K2 hK2;simp only[ah,ar,Nat.reduceEqDiff, ↓reduceIte]at e1 e2 e5;have F:=F4 F e1 e2 e5;refine wk F ?_;refine cq F (fun c1=>?_) (fun c1=>?_)<;>(try exact c1.elim)<;>(refine wk F ?_)
 ·have c2:k<x.se.length:=by omega
  obtain⟨f,hf,hfm⟩:=ac c2;have F:=F3 F c2 hf;try refine sq F ?_
  refine wk F ?_;refine cq F (fun c3=>?_) (fun c3=>?_)<;>(try exact c3.elim)<;>(refine wk F ?_)
  ·refine ee hQ F ?_;exact I2 (.int _ _) ⟨by rw[cQ hf (by first|exact c3|exact c3.symm) hp],rfl⟩
  ·have hp1:∀g∈x.se.take (k+1),g.id≠id:=by
    rw[M8,hf];intro g hg;simp at hg;rcases hg with hg|rfl
    ·exact hp g hg
    ·exact c3
   refine hK2 _ _ _ (I9 ⟨k+1,rfl,az,?_,?_,?_,by omega,hp1⟩) (by omega);all_goals try exact zZz F
 ·rw[J6 (by omega)]at hp;refine ee hQ F ?_;exact I2 (.int _ _) ⟨by rw[cg hp],rfl⟩
end
section
variable {c d:CS} {s:PS} {e:Ev}
end
section
attribute [local irreducible] WP WPl WPix Sat
variable (G:Nat→Option (List AVal))
def CS.mkFo(c:CS)(f:Fo):CS:= {c with fo:=upM c.fo c.c1 f.id (0,0),c1:=ckM c.fo c.c1 f.id,ab:=upM c.ab c.c6 f.id f.inn,c6:=ckM c.ab c.c6 f.id}
def CS.mkFe(c:CS)(f:Fe):CS:= {c with fe:=upM c.fe c.c2 f.id (0,0),c2:=ckM c.fe c.c2 f.id,inn:=upM c.inn c.c5 f.id f.inn,c5:=ckM c.inn c.c5 f.id}
end
section
variable {c d:CS} {s:PS} {e:Ev}
theorem bA{α:Type}{z:α}{l:ML Int α}{k:Int}{a:α}(h:lkM l k=some a):a∈valsM z l:=by
 unfold valsM;refine J8.2 ⟨k,?_,by rw[h];rfl⟩;refine(V7 _ _).mem_iff.2 ?_;obtain⟨n,hn⟩:=eI h;exact J8.2 ⟨_,hn,rfl⟩
theorem rZ{α:Type}{z:α}{l:ML Int α}(idf:α→Int)(hid:∀k a,lkM l k=some a→idf a=k)(x:Int):(valsM z l).find? (fun a=>decide (idf a=x))=lkM l x:=by
 cases hl:lkM l x with
 |none=>
  rw[List.find?_eq_none];intro a ha;obtain⟨k,hk⟩:=aN ha;have:=hid k a hk;simp only[I8];rintro rfl;rw[this,hk]at hl;cases hl
 |some a=>
  have hm:=bA (z:=z) hl;have hs:((valsM z l).find? (fun a=>decide (idf a=x))).isSome=true:=by
   rw[List.find?_isSome];exact⟨a,hm,by simp[hid x a hl]⟩
  obtain⟨b,hb⟩:=K6.1 hs;have h1:=List.find?_some hb;simp only[I8]at h1;obtain⟨k,hk⟩:=aN (List.mem_of_find?_eq_some hb);have h2:=hid k b hk;rw[hb, ← hl, ← h1,h2,hk]
theorem uv{α:Type}{z:α}{l:ML Int α}{c:Nat}(w:WFM l c)(idf:α→Int)(hid:∀k a,lkM l k=some a→idf a=k):(valsM z l).map idf=sortI (l.map (·.1)):=by
 unfold valsM;rw[X2];have:∀k∈sortI (l.map (·.1)),(idf ∘ fun k=>(lkM l k).getD z) k=k:=fun k hk=>by
  have hk2:k∈l.map (·.1):=(V7 _ _).mem_iff.1 hk;obtain⟨x,hx,rfl⟩:=J8.1 hk2;have:=cn w.keys (b:=x.2.2) (a:=x.2.1) (x:=x.1) hx;simp only[Function.comp,this,O3];exact hid _ _ this
 rw[S7 this,List.map_id']
theorem o0{l:List Int}(h:l.Nodup):(sortI l).Nodup:=(V7 l _).nodup_iff.2 h
theorem aH{α:Type}{z:α}(l:ML Int α):(valsM z l).length=l.length:=by unfold valsM;rw[I4,cd,I4]
end
end Go.Av
