/- The document's answer: words of a text; tags. -/
import Derived.Test.YtljpbjilgehfgaaGreatMfNl
set_option linter.unusedSimpArgs false
set_option linter.unusedVariables false
set_option linter.unusedSectionVars false
set_option linter.unnecessarySimpa false
set_option maxRecDepth 100000
set_option maxHeartbeats 16000000
namespace Go.Av
open Go Go.Proofs Go.RowKit
theorem eE(r:Int)(x:Bs):dec (enc r++x) 0=(fix r,(enc r).length):=by
 have hl:=wF r
 have hs:=uW r
 rw[en,nN]
 generalize fix r=c at*
 simp only[]
 by_cases h1:c<128
 ·rw[if_pos h1]
  simp only[List.cons_append,List.nil_append,List.getD_cons_zero,List.length_cons,List.length_nil]
  rw[aT _ (by omega)]
  simp[Lib.decodeN,h1]
 ·rw[if_neg h1]
  by_cases h2:c<2048
  ·rw[if_pos h2]
   simp only[List.cons_append,List.nil_append,List.getD_cons_zero,List.getD_cons_succ,List.length_cons,List.length_nil,Nat.zero_add]
   rw[aT _ (by omega),aT _ (by omega)]
   unfold Lib.decodeN
   rw[if_neg (by omega),if_pos (by omega),if_pos (by omega)]
   congr 1;omega
  ·rw[if_neg h2]
   by_cases h3:c<65536
   ·rw[if_pos h3]
    simp only[List.cons_append,List.nil_append,List.getD_cons_zero,List.getD_cons_succ,List.length_cons,List.length_nil,Nat.zero_add]
    rw[aT _ (by omega),aT _ (by omega),aT _ (by omega)]
    unfold Lib.decodeN
    rw[if_neg (by omega),if_neg (by omega),if_pos (by omega),if_pos (by omega)]
    congr 1;omega
   ·rw[if_neg h3]
    simp only[List.cons_append,List.nil_append,List.getD_cons_zero,List.getD_cons_succ,List.length_cons,List.length_nil,Nat.zero_add]
    rw[aT _ (by omega),aT _ (by omega),aT _ (by omega),aT _ (by omega)]
    unfold Lib.decodeN
    rw[if_neg (by omega),if_neg (by omega),if_neg (by omega),if_pos (by omega),if_pos (by omega)]
    congr 1;omega
theorem mf{r:Int}(h:Rune r):fix r=r.toNat:=by
 unfold fix Utf8.valid
 unfold Rune at h
 rw[if_pos (by simp;omega)]
theorem bj(c:Int)(l:List Int):encs (c::l)=enc c++encs l:=by simp[encs]
theorem bQ(a b:List Int):encs (a++b)=encs a++encs b:=by simp[encs]
theorem dY(c:Int):encs [c]=enc c:=by simp[encs]
theorem wM{a b:List Int}{c:Int}(hc:Rune c):dec (encs a++encs (c::b)) (encs a).length=(c.toNat,(enc c).length):=by
 rw[bN,List.drop_left' rfl,bj,eE,mf hc]
theorem i5:∀{l:List Int},(∀c∈l,Rune c)→runesF (encs l)=l
 | [],_=>rfl
 |c::l,h=>by
  have hc:=h c (by simp)
  have hp:=gI c
  rw[cQ _ (by rw[bj];intro e;have h2:=congrArg List.length e;rw[List.length_append]at h2;simp only[List.length_nil]at h2;omega),bj,eE,mf hc,List.drop_left' rfl,i5 fun x hx=>h x (by simp[hx])]
  unfold Rune at hc
  congr 1
  simp only[]
  omega
def segR:List Int→List Int→List (List Int)→List (List Int)
 | [],w,acc=>if w=[]then acc else acc++[w]
 |c::b,w,acc=>if letR c then segR b (w++[c]) acc else segR b [] (if w=[]then acc else acc++[w])
theorem tI(t:Bs)(x y:Nat):((⟨t.toArray⟩:ByteArray).extract x y).data.toList=(t.take y).drop x:=by
 have hext:(⟨t.toArray⟩:ByteArray).extract x y=⟨((t.take y).drop x).toArray⟩:=by
  apply ByteArray.ext
  simp[List.extract_eq_take_drop,List.drop_take]
 rw[hext]
def AtS(t:Bs)(w:List Int)(x:Nat×Nat):Prop:=(t.take x.2).drop x.1=encs w
def AtSL(t:Bs):List (List Int)→List (Nat×Nat)→Prop
 | [],[]=>True
 |w::l,x::m=>AtS t w x∧AtSL t l m
 |_,_=>False
theorem AtSL.snoc{t:Bs}:∀{l:List (List Int)} {m:List (Nat×Nat)} {w:List Int} {x:Nat×Nat},AtSL t l m→AtS t w x→AtSL t (l++[w]) (m++[x])
 | [],[],_,_,_,h=>⟨h,trivial⟩
 |_::_,_::_,_,_,h,h2=>⟨h.1,AtSL.snoc h.2 h2⟩
 | [],_::_,_,_,h,_=>h.elim
 |_::_,[],_,_,h,_=>h.elim
theorem AtSL.map{t:Bs}:∀{l:List (List Int)} {m:List (Nat×Nat)},AtSL t l m→m.map (fun x=>((⟨t.toArray⟩:ByteArray).extract x.1 x.2).data.toList)=l.map encs
 | [],[],_=>rfl
 |w::l,x::m,h=>by rw[List.map_cons,List.map_cons,AtSL.map h.2,tI,h.1]
 | [],_::_,h=>h.elim
 |_::_,[],h=>h.elim
theorem qZ(t:Bs):∀(b a w:List Int) (acc:List (List Int)) (m:List (Nat×Nat)) (f:Nat),(∀c∈b,Rune c)→t=encs (a++w)++encs b→b.length≤f→AtSL t acc m→
  AtSL t (segR b w acc) (Lib.closeSpans ⟨t.toArray⟩ (Lib.spansFromP (fun r=> !letF r) ⟨t.toArray⟩ f (encs (a++w)).length (if w=[]then none else some (encs a).length) m)):=by
 intro b
 induction b with
 |nil=>
  intro a w acc m f _ ht _ hm
  have hsz:(⟨t.toArray⟩:ByteArray).size=(encs (a++w)).length:=by rw[ht];simp[ByteArray.size,encs]
  have hst:Lib.spansFromP (fun r=> !letF r) ⟨t.toArray⟩ f (encs (a++w)).length (if w=[]then none else some (encs a).length) m=(m,if w=[]then none else some (encs a).length):=by
   cases f with
   |zero=>rfl
   |succ f=>unfold Lib.spansFromP;rw[if_neg (by rw[hsz];omega)]
  rw[hst,segR]
  by_cases hw:w=[]
  ·rw[if_pos hw,if_pos hw];exact hm
  ·rw[if_neg hw,if_neg hw]
   unfold Lib.closeSpans
   refine hm.snoc ?_
   unfold AtS
   simp only[hsz]
   rw[ht,List.take_left' rfl,bQ,List.drop_left' rfl]
 |cons c b ih=>
  intro a w acc m f hb ht hf hm
  have hc:=hb c (by simp)
  have hp:=gI c
  have hb':∀x∈b,Rune x:=fun x hx=>hb x (by simp[hx])
  obtain⟨f,rfl⟩:∃g,f=g+1:=⟨f-1,by simp at hf;omega⟩
  have hlt:(encs (a++w)).length<(⟨t.toArray⟩:ByteArray).size:=by rw[ht,bj];simp[ByteArray.size];omega
  have hd:Utf8.decode ⟨t.toArray⟩ (encs (a++w)).length=(c.toNat,(enc c).length):=by
   show dec t _=_
   rw[ht];exact wM hc
  unfold Lib.spansFromP
  rw[if_pos hlt,hd,segR]
  have hfl:b.length≤f:=by simp at hf;omega
  cases hl:letR c with
  |true=>
   have hl2:letF c.toNat=true:=hl
   have h1:=ih a (w++[c]) acc m f hb' (by rw[ht,bj, ← List.append_assoc, ← List.append_assoc,bQ (a++w),dY]) hfl hm
   have hne:¬w++[c]=[]:=by simp
   have hlen:(encs (a++(w++[c]))).length=(encs (a++w)).length+(enc c).length:=by rw[← List.append_assoc,bQ,List.length_append,dY]
   rw[if_neg hne,hlen]at h1
   simp only[hl2,Bool.not_true,Bool.false_eq_true,if_false,if_true]
   by_cases hw:w=[]
   ·subst hw;rw[if_pos rfl];simpa using h1
   ·rw[if_neg hw];exact h1
  |false=>
   have hl2:letF c.toNat=false:=hl
   have hlen:(encs ((a++w++[c])++[])).length=(encs (a++w)).length+(enc c).length:=by rw[List.append_nil,bQ,List.length_append,dY]
   simp only[hl2,Bool.not_false,if_true,Bool.false_eq_true,if_false]
   by_cases hw:w=[]
   ·have h1:=ih (a++w++[c]) [] acc m f hb' (by rw[List.append_nil,ht,bj,bQ (a++w),dY,List.append_assoc]) hfl hm
    rw[hlen,if_pos rfl]at h1
    rw[if_pos hw,if_pos hw];exact h1
   ·have hat:AtS t w ((encs a).length,(encs (a++w)).length):=by
     unfold AtS
     simp only[]
     rw[ht,List.take_left' rfl,bQ,List.drop_left' rfl]
    have h1:=ih (a++w++[c]) [] (acc++[w]) (m++[((encs a).length,(encs (a++w)).length)]) f hb' (by rw[List.append_nil,ht,bj,bQ (a++w),dY,List.append_assoc]) hfl (hm.snoc hat)
    rw[hlen,if_pos rfl]at h1
    rw[if_neg hw,if_neg hw];exact h1
theorem pz{l:List Int}(h:∀c∈l,Rune c):fldsF (encs l)=(segR l [] []).map encs:=by
 have h1:=qZ (encs l) l [] [] [] [] (⟨(encs l).toArray⟩:ByteArray).size h (by simp[encs]) (by have:=(ix l).2;simp[ByteArray.size];omega) trivial
 unfold fldsF Lib.goFieldsP Lib.spansOfP
 rw[List.map_map]
 exact h1.map
theorem mg:∀(l:List Int) (f n:Nat),(∀c∈l,Rune c)→(encs l).length≤f→n≤32→shN f (encs l) n=(encs (l.take (32-n))).length
 | [],f,n,_,_,_=>by cases f<;>simp[shN,encs]
 |c::l,f,n,h,hf,hn=>by
  have hc:=h c (by simp)
  have hp:=gI c
  have hl:(encs (c::l)).length=(enc c).length+(encs l).length:=by rw[bj,List.length_append]
  obtain⟨f,rfl⟩:∃g,f=g+1:=⟨f-1,by omega⟩
  rw[shN,if_neg (by intro e;rw[e]at hl;simp at hl;omega)]
  by_cases h32:n=32
  ·subst h32;simp[encs]
  ·rw[if_neg h32,bj,eE,List.drop_left' rfl]
   simp only[]
   rw[mg l f (n+1) (fun x hx=>h x (by simp[hx])) (by omega) (by omega)]
   obtain⟨k,hk⟩:∃k,32-n=k+1:=⟨31-n,by omega⟩
   rw[hk,show 32-(n+1)=k by omega,List.take_succ_cons,bj,List.length_append]
theorem tJ{l:List Int}(h:∀c∈l,Rune c):shW (encs l)=encs (l.take 32):=by
 unfold shW
 rw[mg l _ 0 h (Nat.le_refl _) (by omega)]
 have h1:encs l=encs (l.take 32)++encs (l.drop 32):=by rw[← bQ,List.take_append_drop]
 rw[show 32-0=32 from rfl]
 conv=>lhs;rw[h1]
 rw[List.take_left' rfl]
def wdsR:List Int→List Int→List Bs→List Bs
 | [],w,out=>if w=[]then out else out++[encs w]
 |c::b,w,out=>if letR c then wdsR b (if w.length<32 then w++[c]else w) out else wdsR b [] (if w=[]then out else out++[encs w])
theorem gp:∀(b w:List Int) (acc:List (List Int)),(∀c∈b,Rune c)→(∀c∈w,Rune c)→(∀v∈acc,∀c∈v,Rune c)→∀v∈segR b w acc,∀c∈v,Rune c
 | [],w,acc,_,hw,ha=>by
  rw[segR];split
  ·exact ha
  ·intro v hv
   rcases List.mem_append.1 hv with hv|hv
   ·exact ha v hv
   ·simp at hv;subst hv;exact hw
 |c::b,w,acc,hb,hw,ha=>by
  have hb':∀x∈b,Rune x:=fun x hx=>hb x (by simp[hx])
  rw[segR];split
  ·exact gp b _ acc hb' (fun x hx=>by
    rcases List.mem_append.1 hx with hx|hx
    ·exact hw x hx
    ·simp at hx;subst hx;exact hb _ (by simp)) ha
  ·refine gp b [] _ hb' (fun x hx=>by cases hx) ?_
   split
   ·exact ha
   ·intro v hv
    rcases List.mem_append.1 hv with hv|hv
    ·exact ha v hv
    ·simp at hv;subst hv;exact hw
theorem gK:∀(b w:List Int) (acc:List (List Int)),wdsR b (w.take 32) (acc.map fun v=>encs (v.take 32))=(segR b w acc).map fun v=>encs (v.take 32)
 | [],w,acc=>by
  rw[wdsR,segR]
  by_cases hw:w=[]
  ·rw[if_pos hw,if_pos (by rw[hw];rfl)]
  ·rw[if_neg hw,if_neg (by intro e;rw[List.take_eq_nil_iff]at e;rcases e with e|e;omega;exact hw e)];simp
 |c::b,w,acc=>by
  rw[wdsR,segR]
  split
  ·rw[← gK b (w++[c]) acc]
   congr 1
   split
   ·rename_i h;rw[List.length_take]at h;rw[List.take_of_length_le (by omega),List.take_of_length_le (by simp;omega)]
   ·rename_i h;rw[List.length_take]at h;rw[List.take_append_of_le_length (by omega)]
  ·by_cases hw:w=[]
   ·rw[if_pos hw,if_pos (by rw[hw];rfl), ← gK b [] acc];rfl
   ·rw[if_neg hw,if_neg (by intro e;rw[List.take_eq_nil_iff]at e;rcases e with e|e;omega;exact hw e), ← gK b [] (acc++[w])]
    simp
theorem fq(s:Bs):wordsF s=wdsR (runesF (foldS s)) [] []:=by
 have hr:∀c∈ (runesF s).map foldR,Rune c:=fun c hc=>by
  obtain⟨x,hx,rfl⟩:=List.mem_map.1 hc
  exact fm (cR s.length s (Nat.le_refl _) x hx)
 unfold wordsF foldS
 rw[pz hr,i5 hr,List.map_map]
 have h1:=gK ((runesF s).map foldR) [] []
 simp only[List.take_nil,List.map_nil]at h1
 rw[h1]
 refine List.map_congr_left fun v hv=>?_
 exact tJ (gp _ [] [] hr (fun _ h=>by cases h) (fun _ h=>by cases h) v hv)
end Go.Av
namespace Go.Av
open Go.RowKit
section
variable {C:Ctx}
def GClo(C:Ctx):Prop:=∀g cs,C.G g=some cs→Clo 0 (.ad cs)
theorem Sat.frame(hG:GClo C){f:FuncId}{args:List AVal}{R:AVal→Heap→Prop}(ha:∀x∈args,Clo 0 x)(hR:∀r h',R r h'→Clo 0 r∧h'=[])
  (s:Sat C f args [] R)(h:Heap):Sat C f args h fun r h'=>R r []∧h'=h:=by
 intro B S μ w vs fit rl
 have st0:∀(x:AVal) (v:Value),Clo 0 x→Rep w S μ x v→Rep w S [] x v:=fun x v hc hr=>by
  have:=hc.rep (S':=S) hr fun a ha=>ha
  simpa using this
 have fit0:Fits C w.heap.size S [] [] w:=by
  refine⟨fun g cs hg=>st0 _ _ (hG g cs hg) (fit.glob g cs hg),rfl,?_,?_,Nat.le_refl _,fit.lie,?_⟩
  ·intro p q m m' b h1;simp at h1
  ·intro p m b h1;simp at h1
  ·intro p m k h1;simp at h1
 have rl0:RepL w S [] args vs:=⟨rl.1,fun i x hx=>st0 _ _ (ha x (List.mem_of_getElem? hx)) (rl.2 i x hx)⟩
 refine(s _ S [] w vs fit0 rl0).mono fun v w' hp=>?_
 obtain⟨r,h',S',μ',hr,st,fit',hrep⟩:=hp
 obtain⟨hclo,rfl⟩:=hR r h' hr
 obtain rfl:μ'=[]:=List.length_eq_zero_iff.1 (by rw[fit'.len];rfl)
 have own:∀(p:Nat) (m:MB) (b:Nat),μ[p]? =some m→m.blk=some b→∀a,S' a→a.block≠b:=fun p m b h1 e1 a ha=>by
  obtain⟨k1,k2,k3⟩:=fit.own p m b h1 e1
  rcases st.new a ha with h2|h2
  ·exact k3 a h2
  ·omega
 have st2:Step B S μ w S' μ w':=⟨st.sub,st.keep,st.below.mono fit.base,MapLe.refl _,fun a ha=>(st.new a ha).imp id fun e=>Nat.le_trans fit.base e⟩
 refine⟨r,h,S',μ,⟨hr,rfl⟩,st2,?_,?_⟩
 ·refine⟨fun g cs hg=>(fit.glob g cs hg).mono st2,fit.len,fit.sep,fun p m b h1 e1=>?_,Nat.le_trans fit.base st.below.size,fit'.lie,fun p m k h1 h2=>?_⟩
  ·obtain⟨k1,k2,k3⟩:=fit.own p m b h1 e1
   exact⟨k1,Nat.lt_of_lt_of_le k2 st.below.size,own p m b h1 e1⟩
  ·exact(fit.blk p m k h1 h2).mono st2 fun b hb=>st.below.block b (fit.own p m b h1 hb).2.1
 ·have grow:∀(x:AVal) (v:Value),Rep w' S' [] x v→Rep w' S' μ x v:=fun x v hr=>by
   refine hr.mono (B:=0) (S':=S') (w':=w') ⟨fun _ ha=>ha,fun _ _=>rfl,Below.refl _ _,fun p m hm=>by simp at hm,fun _ ha=>.inl ha⟩
  exact grow _ _ hrep
def plainB:AVal→Bool
 | .int _ _=>true
 | .bool _=>true
 | .str _=>true
 |_=>false
theorem pB{n:Nat}{x:AVal}(h:plainB x=true):Clo n x:=by
 cases x<;>first|exact .int _ _|exact .bool _|exact .str _|cases h
def isV(v:AVal):Option (AVal×Heap)→Bool
 |some (r,h1)=>match frzX h1 0 20 r with
  |some y=>beqA y v
  |none=>false
 |none=>false
theorem Sat.closedV(hG:GClo C){orc:FuncId→List AVal→Option AVal}(horc:OrcOk C orc)(lf n:Nat){f:FuncId}{args:List AVal}{v:AVal}(ha:args.all plainB=true)(hv:cloA 0 v=true)
  (hrun:isV v (callX C orc lf n f args [])=true)(h:Heap):Sat C f args h fun r2 h2=>r2=v∧h2=h:=by
 unfold isV at hrun
 split at hrun
 ·rename_i r h1 e
  split at hrun
  ·rename_i y hy
   have ey:=dH _ _ hrun
   subst ey
   have s:=(tT horc lf n f args [] r h1 e).letgo (v:=y) (by simp) (nU _ _ _ _ _ hy)
   refine(s.frame hG (fun x hx=>pB (List.all_eq_true.1 ha x hx)) (fun r h' ⟨e1,e2⟩=>⟨by rw[e1];exact eR 0 _ hv,e2⟩) h).mono fun r2 h2 ⟨⟨e1,_⟩,e2⟩=>⟨e1,e2⟩
  ·cases hrun
 ·cases hrun
end
end Go.Av
namespace Go.Av
open Go Go.Proofs Go.RowKit
attribute [local irreducible] WP WPl WPix Sat
variable (G:Nat→Option (List AVal))
theorem pC(s:Bs)(hs:s.length≤1048576)(h:Heap):Sat (CT G) 232 [.str s] h (fun r h'=>∃v,r=.hs h.length v 0 (runesF s).length true∧h'=h++[.row 21 1 v ((runesF s).map runA)]):=by
 refine sb [.tmp 2] (fn:=Tryz.f232) Tryz.func232 ?_
 intro Q hQ
 refine wk trivial ?_
 refine lm (fun nL tL hL=>∃(k v:Nat) (acc:List Int),s.length-k=nL∧h++[.row 21 1 v (acc.map runA)]=hL∧tL 0=.str (s.drop k)∧tL 3=.hs h.length v 0 acc.length true∧k≤s.length∧acc.length≤k∧acc++runesF (s.drop k)=runesF s) ((fun(k v:Nat) (acc:List Int)=>(s.length-k:Nat)) (0) (0) ([])) ?_ ?_
 ·refine⟨_,_,Weak.virt 3 21 1 (by simp) (by omega) (by exact zq trivial),⟨0,0,[],rfl,az,?_,?_,?_,?_,?_⟩⟩
  all_goals first|exact zq trivial|rfl|omega|trivial|skip
 rintro _ s2 h' ⟨k,v,acc,rfl,rfl,e0,e3,hk,hl,hp⟩ K2 hK2
 simp only[ai,aj,Nat.reduceEqDiff, ↓reduceIte]at e0 e3
 have F:=F2 e0 e3
 refine wk F ?_
 refine cq F (fun c1=>?_) (fun c1=>?_)<;>(try exact c1.elim)<;>(refine wk F ?_)
 ·simp only[List.length_drop]at c1
  have hlt:k<s.length:=by omega
  have hp2:=bb s k hlt
  rw[eo s k hlt]at hp
  have hne:s.drop k≠ []:=by intro e;have:=congrArg List.length e;simp at this;omega
  refine(gn G (s.drop k) hne (by simp;omega) _).mono ?_
  rintro r h' ⟨rfl,rfl⟩
  rw[← bN]
  generalize dec s k=d at*
  obtain⟨c,m⟩:=d
  simp only[]at hp hp2 ⊢
  have hsl:m≤(s.drop k).length:=by simp;omega
  have hdd:(s.drop k).drop m=s.drop (k+m):=List.drop_drop ..
  have F:=F3 F hsl hdd
  try refine sq F ?_
  refine wk F ?_
  refine aq F ?_
  try refine sq F ?_
  refine wk F ?_
  refine hK2 _ _ _ (Wkn.refl ⟨k+m,v+1,acc++[(c:Int)],rfl,az,?_,?_,by omega,by simp;omega,by rw[← hp];simp⟩) (by omega)
  all_goals first|exact zq F|rfl|omega|trivial|skip
 ·simp only[List.length_drop]at c1
  rw[du s k (by omega),List.append_nil]at hp
  refine wk F ?_
  refine ee hQ F ?_
  subst hp
  exact Fin.whole (by simp) (.hs _ _ _ _ _ (by simp)) ⟨v,rfl,rfl⟩
theorem iy(l:List Int)(hr:∀r∈l,Rune r)(hl:l.length≤1048576){h:Heap}{p v0:Nat}(hg:getRow h p v0=some (21,1,l.map runA)):Sat (CT G) 235 [.hs p v0 0 l.length true] h (fun x h'=>x=.str (l.flatMap enc)∧h'=h):=by
 have hll:(l.map runA).length=l.length:=List.length_map ..
 have hpl:=bz hg
 have hgj:∀j,getRow (h++j) p v0=some (21,1,l.map runA):=fun j=>by rw[bg _ hpl];exact hg
 have hra:∀x,runA x=.int .i32 x:=fun _=>rfl
 have F:=F4 hll hg hgj hra
 refine sb [.tmp 2] (fn:=Tryz.f235) Tryz.func235 ?_
 intro Q hQ
 refine wk F ?_
 refine lm (fun nL tL hL=>∃(k v:Nat) (acc:Bs),l.length-k=nL∧h++[.row 5 1 v (acc.map bytA)]=hL∧tL 3=.hs h.length v 0 acc.length true∧tL 4=.int .i64 k∧k≤l.length∧acc++(l.drop k).flatMap enc=l.flatMap enc∧acc.length≤4*k) ((fun(k v:Nat) (acc:Bs)=>(l.length-k:Nat)) (0) (0) ([])) ?_ ?_
 ·refine⟨_,_,Weak.virt 3 5 1 (by simp) (by omega) (by exact zq F),⟨0,0,[],rfl,az,?_,?_,?_,?_,?_⟩⟩
  all_goals first|exact zq F|rfl|omega|trivial|skip
 rintro _ s2 h' ⟨k,v,acc,rfl,rfl,e3,e4,hk,hp,hz⟩ K2 hK2
 simp only[ai,aj,Nat.reduceEqDiff, ↓reduceIte]at e3 e4
 have F:=F3 F e3 e4
 refine wk F ?_
 refine cq F (fun hc=>?_) (fun hc=>?_)<;>(try exact hc.elim)
 ·obtain⟨y,hy,hym⟩:=af hc
  rw[ax hy,List.flatMap_cons]at hp
  have he:=dG y
  have hel:((enc y).map bytA).length=(enc y).length:=List.length_map ..
  have c2:k<l.length:=by omega
  have F:=F3 F c2 hy
  refine wk F ?_
  refine kq F (nS G y (hr y hym) _) ?_
  refine aq F ?_
  try refine sq F ?_
  refine wk F ?_
  refine hK2 _ _ _ (Wkn.refl ⟨k+1,v+1,acc++enc y,rfl,az,?_,?_,by omega,by rw[← hp];simp,by simp;omega⟩) (by omega)
  all_goals first|exact zq F|rfl|omega|trivial|skip
 ·rw[aC hc,List.flatMap_nil,List.append_nil]at hp
  have hb:=fk acc
  have hel:elemsOf (h++[.row 5 1 v (acc.map bytA)]) 1 (.hs h.length v 0 acc.length true)=some (acc.map bytA):=by
   simp[elemsOf,getRow,List.take_of_length_le]
  have F:=F4 F hb hel @hM
  refine wk F ?_
  refine ee hQ F ?_
  rw[← hp]
  exact Fin.plainE (j:=_) rfl (.str _) ⟨rfl,rfl⟩
theorem rb(s:Bs)(hs:s.length≤100000)(h:Heap):Sat (CT G) 233 [.str s] h (fun r h'=>r=.str (foldS s)∧h'=h):=by
 have hll:=bX s.length s (Nat.le_refl _)
 have hrl:=cR s.length s (Nat.le_refl _)
 have hR:=pC G s (by omega)
 have hfo:foldS s=((runesF s).map foldR).flatMap enc:=rfl
 rw[hfo]
 generalize runesF s=l at*
 refine sb [.tmp 2] (fn:=Tryz.f233) Tryz.func233 ?_
 intro Q hQ
 refine wk trivial ?_
 refine(hR _).mono ?_
 rintro r h' ⟨v,rfl,rfl⟩
 try refine sq trivial ?_
 refine wk trivial ?_
 refine lm (fun nL tL hL=>∃(k:Nat),l.length-k=nL∧h++[.row 21 1 v (((l.take k).map foldR++l.drop k).map runA)]=hL∧tL 3=.hs h.length v 0 l.length true∧tL 4=.int .i64 k∧k≤l.length) ((fun(k:Nat)=>(l.length-k:Nat)) (0)) ?_ ?_
 ·refine Wkn.refl ⟨0,rfl,by simp,?_,?_,by omega⟩
  all_goals first|exact zq trivial|rfl|omega|trivial|skip
 rintro _ s2 h' ⟨k,rfl,rfl,e3,e4,hk⟩ K2 hK2
 simp only[ai,aj,Nat.reduceEqDiff, ↓reduceIte]at e3 e4
 have F:=F2 e3 e4
 refine wk F ?_
 refine cq F (fun c1=>?_) (fun c1=>?_)<;>(try exact c1.elim)
 ·have c2:k<l.length:=by omega
  obtain⟨y,hy,hym⟩:=af c2
  have hget:((l.take k).map foldR++l.drop k)[k]? =some y:=by
   rw[List.getElem?_append_right (by simp;omega),List.length_map,List.length_take,Nat.min_eq_left (by omega),Nat.sub_self,List.getElem?_drop];simpa using hy
  have hset:(((l.take k).map foldR++l.drop k).map runA).set k (.int .i32 (foldR y))=((l.take (k+1)).map foldR++l.drop (k+1)).map runA:=by
   have h1:(AVal.int .i32 (foldR y))=runA (foldR y):=rfl
   rw[h1, ← List.map_set]
   congr 1
   rw[List.set_append_right _ _ (by simp;omega),List.length_map,List.length_take,Nat.min_eq_left (by omega),Nat.sub_self,ax hy,List.set_cons_zero,List.take_add_one,hy]
   simp
  have hlen:(((l.take k).map foldR++l.drop k).map runA).length=l.length:=by simp;omega
  have hra:∀x,runA x=.int .i32 x:=fun _=>rfl
  generalize (l.take k).map foldR++l.drop k=rw_ at*
  have F:=F7 F c2 @hget @hset @hlen hra @aA
  try refine sq F ?_
  refine wk F ?_
  refine kq F (qY G y (hrl y hym) _) ?_
  refine hK2 _ _ _ (Wkn.refl ⟨k+1,rfl,rfl,?_,?_,by omega⟩) (by omega)
  all_goals first|exact zq F|rfl|omega|trivial|skip
 ·have hk2:k=l.length:=by omega
  subst hk2
  have hfin:(l.take l.length).map foldR++l.drop l.length=l.map foldR:=by rw[List.take_length,List.drop_length,List.append_nil]
  rw[hfin]
  have hg:getRow (h++[.row 21 1 v ((l.map foldR).map runA)]) h.length v=some (21,1,(l.map foldR).map runA):=by simp[getRow]
  have hP:=iy G (l.map foldR) (fun r hr=>by obtain⟨x,hx,rfl⟩:=List.mem_map.1 hr;exact fm (hrl x hx)) (by simp;omega) hg
  rw[List.length_map]at hP
  refine wk F ?_
  refine kq F (hP) ?_
  refine ee hQ F ?_
  exact Fin.plain (.str _) ⟨rfl,rfl⟩
theorem kH(a b:List Bs)(ha:a.length≤1000000)(hb:b.length≤1000000)(h:Heap):Sat (CT G) 182 [.sl 1 (a.map .str),.sl 1 (b.map .str)] h (fun r h'=>r=.bool (decide (a=b))∧h'=h):=by
 have ela:(a.map AVal.str).length=a.length:=List.length_map ..
 have elb:(b.map AVal.str).length=b.length:=List.length_map ..
 have F:=F2 @ela @elb
 refine sb [.tmp 4] (fn:=Tryz.f182) Tryz.func182 ?_
 intro Q hQ
 refine wk F ?_
 refine cq F (fun c0=>?_) (fun c0=>?_)<;>(try exact c0.elim)<;>(refine wk F ?_)
 ·refine ee hQ F ?_
  exact Fin.same (.bool _) ⟨by simp;rintro rfl;omega,rfl⟩
 ·refine lm (fun nL tL hL=>∃(k:Nat),a.length-k=nL∧[]++h=hL∧tL 0=.sl 1 (a.map .str)∧tL 1=.sl 1 (b.map .str)∧tL 5=.int .i64 k∧k≤a.length∧a.take k=b.take k) ((fun(k:Nat)=>(a.length-k:Nat)) (0)) ?_ ?_
  ·refine Wkn.refl ⟨0,rfl,rfl,?_,?_,?_,by omega,by simp⟩
   all_goals first|exact zq F|rfl|omega|trivial|skip
  rintro _ s2 h' ⟨k,rfl,rfl,e0,e1,e5,hk,hp⟩ K2 hK2
  simp only[ai,aj,Nat.reduceEqDiff, ↓reduceIte]at e0 e1 e5
  have F:=F4 F e0 e1 e5
  refine wk F ?_
  refine cq F (fun c1=>?_) (fun c1=>?_)<;>(try exact c1.elim)<;>(refine wk F ?_)
  ·have c2:k<a.length:=by omega
   have c2b:k<b.length:=by omega
   obtain⟨x,hx,_⟩:=af c2
   obtain⟨y,hy,_⟩:=af c2b
   have F:=F5 F c2 @c2b hx hy
   try refine sq F ?_
   refine wk F ?_
   refine cq F (fun c3=>?_) (fun c3=>?_)<;>(try exact c3.elim)<;>(refine wk F ?_)
   ·refine ee hQ F ?_
    exact Fin.same (.bool _) ⟨by
     simp
     rintro rfl
     rw[hx]at hy;cases hy
     simp at c3,rfl⟩
   ·have c4:x=y:=by simpa using c3
    have hp1:a.take (k+1)=b.take (k+1):=by rw[List.take_add_one,List.take_add_one,hx,hy,hp,c4]
    refine hK2 _ _ _ (Wkn.refl ⟨k+1,rfl,rfl,?_,?_,?_,by omega,hp1⟩) (by omega)
    all_goals first|exact zq F|rfl|omega|trivial|skip
  ·rw[List.take_of_length_le (by omega),List.take_of_length_le (by omega)]at hp
   refine ee hQ F ?_
   exact Fin.same (.bool _) ⟨by simp[hp],rfl⟩
theorem uk(C:Ctx):OrcOk C (fun _ _=>none):=fun f args r g h=>by cases g
theorem ve:isV (.int .i64 (-62135596800)) (callX (CT G) (fun _ _=>none) 1000 100 184 [] [])=true:=by kernel_rfl
theorem wN:isV (.int .i64 253402300799) (callX (CT G) (fun _ _=>none) 1000 100 185 [] [])=true:=by kernel_rfl
theorem tU(hc:GClo (CT G))(n:Int)(h:Heap):Sat (CT G) 140 [.int .i64 n] h (fun r h'=>r=.bool (momF n)∧h'=h):=by
 have h1:=fun h=>Sat.closedV hc (uk _) 1000 100 rfl rfl (ve G) h
 have h2:=fun h=>Sat.closedV hc (uk _) 1000 100 rfl rfl (wN G) h
 by_cases k: -62135596800≤n
 ·have k2:decide (n≥ -62135596800)=true:=by simpa using k
  have F:=k2
  refine sb [.tmp 2] (fn:=Tryz.f140) Tryz.func140 ?_
  intro Q hQ
  refine wk F ?_
  refine kq F (h1 _) ?_
  refine kq F (h2 _) ?_
  refine ee hQ F ?_
  exact Fin.same (.bool _) ⟨by simp[momF,k],rfl⟩
 ·have k2:decide (n≥ -62135596800)=false:=by simpa using k
  have F:=k2
  refine sb [.tmp 2] (fn:=Tryz.f140) Tryz.func140 ?_
  intro Q hQ
  refine wk F ?_
  refine kq F (h1 _) ?_
  refine ee hQ F ?_
  exact Fin.same (.bool _) ⟨by simp[momF,k],rfl⟩
end Go.Av
namespace Go.Av
open Go Go.Proofs Go.RowKit
attribute [local irreducible] WP WPl WPix Sat
variable (G:Nat→Option (List AVal))
def St.fil(x:St)(kind id:Int)(g:Bs):Ct:=ctM kind id g (tl x.it (x.cnt ⟨kind,id,g,0,0⟩))
theorem tW{h0 H:Heap}{p v e:Nat}{l:List Bs}(hp:h0.length≤p)(hg:getRow H p v=some (e,1,l.map .str)):Frz H h0.length (.hs p v 0 l.length true) (.sl 1 (l.map .str)):=by
 have:=Frz.data (n:=h0.length) (len:=l.length) (room:=true) hp hg (by simp) (fun r hr=>by obtain⟨a,_,rfl⟩:=List.mem_map.1 hr;exact .str _) (fun r hr c hc=>by obtain⟨a,_,rfl⟩:=List.mem_map.1 hr;simp[AVal.cells]at hc;subst hc;rfl)
 simpa using this
end Go.Av
namespace Go.Av
open Go Go.Proofs Go.RowKit
attribute [local irreducible] WP WPl WPix Sat
set_option pp.deepTerms true
set_option pp.maxSteps 200000
variable (G:Nat→Option (List AVal))
theorem fu:∀(b w:List Int) (out:List Bs),(wdsR b w out).length≤out.length+b.length+1
 | [],w,out=>by rw[wdsR];split<;>simp
 |c::b,w,out=>by
  rw[wdsR]
  split
  ·have:=fu b (if w.length<32 then w++[c]else w) out;simp only[List.length_cons];omega
  ·have:=fu b [] (if w=[]then out else out++[encs w])
   have h2:(if w=[]then out else out++[encs w]).length≤out.length+1:=by split<;>simp
   simp only[List.length_cons];omega
theorem jg(s:Bs)(hs:s.length≤10000)(h:Heap):Sat (CT G) 183 [.str s] h (fun r h'=>r=.sl 1 ((wordsF s).map .str)∧h'=h):=by
 have hfl:=d9 s
 have hR:=kE G (foldS s) (by omega)
 have hrn:=cR (foldS s).length (foldS s) (Nat.le_refl _)
 have hrl:=bX (foldS s).length (foldS s) (Nat.le_refl _)
 rw[fq]
 generalize runesF (foldS s)=rs at*
 have hel:(rs.map runA).length=rs.length:=List.length_map ..
 have hra:∀x,runA x=.int .i32 x:=fun _=>rfl
 have F:=F2 hel hra
 refine sb [.tmp 2] (fn:=Tryz.f183) Tryz.func183 ?_
 intro Q hQ
 refine wk F ?_
 refine kq F (rb G s (by omega) _) ?_
 refine kq F (hR _) ?_
 refine lm (fun nL tL hL=>∃(i po vo:Nat) (hh:Heap) (out:List Bs) (w:List Int) (x:AVal),rs.length+1-i=nL∧hh=hL∧tL 3=.sl 1 (rs.map runA)∧tL 4=.hs po vo 0 out.length true∧tL 5=x∧tL 6=.int .i64 i∧i≤rs.length+1∧((w=[]∧x=.nil (.slice none 0 0))∨(∃p v,x=.hs p v 0 w.length true∧getRow hh p v=some (21,1,w.map runA)∧h.length≤p∧p≠po))∧getRow hh po vo=some (9,1,out.map .str)∧(FrN h.length h hh∧h.length≤po)∧wdsR (rs.drop i) w out=wdsR rs [] []∧(w.length≤32∧out.length≤i∧(∀c∈w,Rune c)∧(i=rs.length+1→w=[]))) ((fun(i po vo:Nat) (hh:Heap) (out:List Bs) (w:List Int) (x:AVal)=>(rs.length+1-i:Nat)) (0) (h.length) (0) (h++[.row 9 1 0 []]) ([]) ([]) (.nil (.slice none 0 0))) ?_ ?_
 ·refine⟨_,_,Weak.virt 4 9 1 (by simp) (by omega) (by exact zq F),⟨0,h.length,0,h++[.row 9 1 0 []],[],[],.nil (.slice none 0 0),rfl,az,?_,?_,?_,?_,by omega,.inl ⟨rfl,rfl⟩,by rw[aJ _ rfl];rfl,⟨FrN.app _ (by omega) (FrN.refl _ _),by omega⟩,by simp,⟨by simp,by simp,by simp,by simp⟩⟩⟩
  all_goals first|exact zq F|rfl|omega|trivial|skip
 rintro _ s2 h' ⟨i,po,vo,hh,out,w,x,rfl,rfl,e3,e4,e5,e6,hi,hx,hg,hfr,hv,hwl⟩ K2 hK2
 simp only[ai,aj,Nat.reduceEqDiff, ↓reduceIte]at e3 e4 e5 e6
 have F:=F5 F e3 e4 e5 e6
 have hgl:=bz hg
 obtain⟨hw1,hw2,hw3,hw4⟩:=hwl
 obtain⟨hfr,hpo⟩:=hfr
 have hol:(out.map AVal.str).length=out.length:=List.length_map ..
 have hwm:(w.map runA).length=w.length:=List.length_map ..
 have dt:∀i:Decidable True, @decide True i=true:=fun i=>decide_eq_true trivial
 have done0:∀(q:Nat),letR (rs.getD i 0)=false∨rs.length≤i→i≤rs.length→wdsR (rs.drop (i+1)) [] (if w=[]then out else out++[encs w])=wdsR rs [] []:=fun _ hl hle=>by
  rw[← hv]
  rcases Nat.lt_or_ge i rs.length with hlt|hge
  ·obtain⟨y,hy,_⟩:=af hlt
   have hly:letR y=false:=by
    rcases hl with hl|hl
    ·rw[List.getD_eq_getElem?_getD,hy]at hl;exact hl
    ·omega
   rw[ax hy,wdsR]
   simp only[hly,Bool.false_eq_true,if_false]
  ·rw[aC hge,aC (by omega),wdsR,wdsR];simp
 have F:=F4 F hg hol hwm
 try refine sq F ?_
 refine wk F ?_
 refine cq F (fun c1=>?_) (fun c1=>?_)<;>(try exact c1.elim)<;>(refine wk F ?_)
 ·have c2:i≤rs.length:=by omega
  have fin0:True:=trivial
  by_cases c3:i<rs.length
  ·obtain⟨y,hy,hym⟩:=af c3
   have d3:decide (i<rs.length)=true:=by simp;omega
   have hl:=nl G y (hrn y hym)
   have hv2:=hv
   rw[ax hy,wdsR]at hv2
   have hgd:rs.getD i 0=y:=by rw[List.getD_eq_getElem?_getD,hy];rfl
   rw[hgd]at done0
   cases hlt:letR y with
   |true=>
    rw[hlt]at hl hv2
    rw[if_pos rfl]at hv2
    have F:=F4 F hy c3 dt
    try refine sq F ?_
    refine wk F ?_
    refine kq F (hl _) ?_
    rcases hx with⟨rfl,rfl⟩| ⟨p,v,rfl,hgw,hp1,hp2⟩
    ·try refine sq F ?_
     refine wk F ?_
     refine rY (.inl rfl) (by simp(disch:=first|omega| (simp only[go_sem, ↓reduceIte,seval];first|done|omega)|fail) only[go_sem, ↓reduceIte,seval,F];try rfl) (by simp(disch:=first|omega| (simp only[go_sem, ↓reduceIte,seval];first|done|omega)|fail) only[go_sem, ↓reduceIte,seval,F];try rfl) (by simp(disch:=first|omega| (simp only[go_sem, ↓reduceIte,seval];first|done|omega)|fail) only[go_sem, ↓reduceIte,seval,F];try rfl) (by simp(disch:=first|omega| (simp only[go_sem, ↓reduceIte,seval];first|done|omega)|fail) only[go_sem, ↓reduceIte,seval,F];try rfl) (by omega) (by simp only[elemsOf, ↓reduceIte];rfl) ⟨by simp[maxLen],by simp⟩ ?_
     try refine sq F ?_
     refine wk F ?_
     refine hK2 _ _ _ (Wkn.refl ⟨i+1,po,vo,hh++[.row 21 1 0 [runA y]],out,[y],.hs hh.length 0 0 1 true,rfl,az,?_,?_,?_,?_,by omega,.inr ⟨hh.length,0,rfl,by rw[aJ _ rfl];rfl,(by omega),by omega⟩,by rw[bg _ hgl];exact hg,⟨FrN.app _ ((by omega)) hfr,hpo⟩,by simpa using hv2,⟨by simp,by omega,fun c hc=>by simp at hc;subst hc;exact hrn _ hym,by omega⟩⟩) (by omega)
     all_goals first|exact zq F|rfl|omega|trivial|skip
    ·have hpl:=bz hgw
     have F:=F3 F hgw @aA
     try refine sq F ?_
     refine wk F ?_
     refine cq F (fun c4=>?_) (fun c4=>?_)<;>(try exact c4.elim)<;>(refine wk F ?_)
     ·rw[if_pos (by omega)]at hv2
      refine aq F ?_
      try refine sq F ?_
      refine wk F ?_
      refine hK2 _ _ _ (Wkn.refl ⟨i+1,po,vo,hh.set p (.row 21 1 (v+1) ((w++[y]).map runA)),out,w++[y],.hs p (v+1) 0 (w++[y]).length true,rfl,by simp[runA],?_,?_,?_,?_,by omega,.inr ⟨p,v+1,rfl,by rw[fb _ _ _ _ _ hpl,if_pos rfl],hp1,hp2⟩,by rw[ca _ _ hp2];exact hg,⟨FrN.set _ hp1 hfr,hpo⟩,hv2,⟨by simp;omega,by omega,fun c hc=>by rcases List.mem_append.1 hc with hc|hc;exact hw3 c hc;simp at hc;subst hc;exact hrn _ hym,by omega⟩⟩) (by omega)
      all_goals first|exact zq F|rfl|omega|trivial|skip
     ·rw[if_neg (by omega)]at hv2
      refine hK2 _ _ _ (Wkn.refl ⟨i+1,po,vo,hh,out,w,.hs p v 0 w.length true,rfl,rfl,?_,?_,?_,?_,by omega,.inr ⟨p,v,rfl,hgw,hp1,hp2⟩,hg,⟨hfr,hpo⟩,hv2,⟨hw1,by omega,hw3,by omega⟩⟩) (by omega)
      all_goals first|exact zq F|rfl|omega|trivial|skip
   |false=>
    have hd:=done0 0 (.inl hlt) c2
    rw[hlt]at hl
    have F:=F4 F hy c3 dt
    try refine sq F ?_
    refine wk F ?_
    refine kq F (hl _) ?_
    rcases hx with⟨rfl,rfl⟩| ⟨p,v,rfl,hgw,hp1,hp2⟩
    ·rw[if_pos rfl]at hd
     try refine sq F ?_
     refine wk F ?_
     refine cq F (fun c5=>?_) (fun c5=>?_)<;>(try exact c5.elim)<;>(refine wk F ?_)
     refine hK2 _ _ _ (Wkn.refl ⟨i+1,po,vo,hh,out,[],.nil (.slice none 0 0),rfl,rfl,?_,?_,?_,?_,by omega,.inl ⟨rfl,rfl⟩,hg,⟨hfr,hpo⟩,hd,⟨by simp,by omega,by simp,fun _=>rfl⟩⟩) (by omega)
     all_goals first|exact zq F|rfl|omega|trivial|skip
    ·have hpl:=bz hgw
     have hP:=iy G w hw3 (by omega) hgw
     have F:=F3 F hgw @aA
     try refine sq F ?_
     refine wk F ?_
     refine cq F (fun c5=>?_) (fun c5=>?_)<;>(try exact c5.elim)<;>(refine wk F ?_)
     ·have hw0:¬w=[]:=by rintro rfl;simp at c5
      rw[if_neg hw0]at hd
      refine kq F (hP) ?_
      refine aq F ?_
      try refine sq F ?_
      refine wk F ?_
      refine hK2 _ _ _ (Wkn.refl ⟨i+1,po,vo+1,hh.set po (.row 9 1 (vo+1) ((out++[encs w]).map .str)),out++[encs w],[],.nil (.slice none 0 0),rfl,by simp[encs],?_,?_,?_,?_,by omega,.inl ⟨rfl,rfl⟩,by rw[fb _ _ _ _ _ hgl,if_pos rfl],⟨FrN.set _ hpo hfr,hpo⟩,hd,⟨by simp,by simp;omega,by simp,fun _=>rfl⟩⟩) (by omega)
      all_goals first|exact zq F|rfl|omega|trivial|skip
     ·have hw0:w=[]:=by cases w with|nil=>rfl|cons a l=>exfalso;simp only[List.length_cons]at c5;omega
      rw[if_pos hw0]at hd
      subst hw0
      refine hK2 _ _ _ (Wkn.refl ⟨i+1,po,vo,hh,out,[],.hs p v 0 0 true,rfl,rfl,?_,?_,?_,?_,by omega,.inr ⟨p,v,rfl,hgw,hp1,hp2⟩,hg,⟨hfr,hpo⟩,hd,⟨by simp,by omega,by simp,fun _=>rfl⟩⟩) (by omega)
      all_goals first|exact zq F|rfl|omega|trivial|skip
  ·have d3:decide (i<rs.length)=false:=by simp;omega
   have hd:=done0 0 (.inr (by omega)) c2
   have F:=F2 F d3
   try refine sq F ?_
   refine wk F ?_
   rcases hx with⟨rfl,rfl⟩| ⟨p,v,rfl,hgw,hp1,hp2⟩
   ·rw[if_pos rfl]at hd
    try refine sq F ?_
    refine wk F ?_
    refine cq F (fun c5=>?_) (fun c5=>?_)<;>(try exact c5.elim)<;>(refine wk F ?_)
    refine hK2 _ _ _ (Wkn.refl ⟨i+1,po,vo,hh,out,[],.nil (.slice none 0 0),rfl,rfl,?_,?_,?_,?_,by omega,.inl ⟨rfl,rfl⟩,hg,⟨hfr,hpo⟩,hd,⟨by simp,by omega,by simp,fun _=>rfl⟩⟩) (by omega)
    all_goals first|exact zq F|rfl|omega|trivial|skip
   ·have hpl:=bz hgw
    have hP:=iy G w hw3 (by omega) hgw
    have F:=F3 F hgw @aA
    try refine sq F ?_
    refine wk F ?_
    refine cq F (fun c5=>?_) (fun c5=>?_)<;>(try exact c5.elim)<;>(refine wk F ?_)
    ·have hw0:¬w=[]:=by rintro rfl;simp at c5
     rw[if_neg hw0]at hd
     refine kq F (hP) ?_
     refine aq F ?_
     try refine sq F ?_
     refine wk F ?_
     refine hK2 _ _ _ (Wkn.refl ⟨i+1,po,vo+1,hh.set po (.row 9 1 (vo+1) ((out++[encs w]).map .str)),out++[encs w],[],.nil (.slice none 0 0),rfl,by simp[encs],?_,?_,?_,?_,by omega,.inl ⟨rfl,rfl⟩,by rw[fb _ _ _ _ _ hgl,if_pos rfl],⟨FrN.set _ hpo hfr,hpo⟩,hd,⟨by simp,by simp;omega,by simp,fun _=>rfl⟩⟩) (by omega)
     all_goals first|exact zq F|rfl|omega|trivial|skip
    ·have hw0:w=[]:=by cases w with|nil=>rfl|cons a l=>exfalso;simp only[List.length_cons]at c5;omega
     rw[if_pos hw0]at hd
     subst hw0
     refine hK2 _ _ _ (Wkn.refl ⟨i+1,po,vo,hh,out,[],.hs p v 0 0 true,rfl,rfl,?_,?_,?_,?_,by omega,.inr ⟨p,v,rfl,hgw,hp1,hp2⟩,hg,⟨hfr,hpo⟩,hd,⟨by simp,by omega,by simp,fun _=>rfl⟩⟩) (by omega)
     all_goals first|exact zq F|rfl|omega|trivial|skip
 ·have hie:i=rs.length+1:=by omega
  have hwe:=hw4 hie
  subst hwe
  rw[aC (by omega),wdsR,if_pos rfl]at hv
  obtain⟨j,rfl⟩:=hfr.behind (by omega)
  refine ee hQ F ?_
  rw[← hv]
  exact Fin.frz (tW hpo hg) ⟨rfl,rfl⟩
theorem tX(t:Bs)(h:Heap):Sat (CT G) 138 [.str t] h (fun r h'=>r=.bool (L0.tag t)∧h'=h):=by
 have hL:=nb G rightS cleanF (fun t ht h=>pv G t (by omega) h) (fun t ht h=>pw G t (by omega) h) t
 have hu:L0.tag t=((!(t==[])&&textF rightS cleanF t 64)&&isF t):=rfl
 rw[hu]
 cases hl:(!(t==[])&&textF rightS cleanF t 64)with
 |false=>
  rw[hl]at hL
  refine sb [.tmp 2] (fn:=Tryz.f138) Tryz.func138 ?_
  intro Q hQ
  refine wk trivial ?_
  refine kq trivial (hL _) ?_
  refine ee hQ trivial ?_
  exact Fin.same (.bool _) ⟨by simp,rfl⟩
 |true=>
  rw[hl]at hL
  have hlen:t.length≤64:=by
   rw[Bool.and_eq_true]at hl
   have:=hl.2
   unfold textF at this
   rw[Bool.and_eq_true,decide_eq_true_eq]at this
   omega
  have hwl:(wordsF t).length≤1000000:=by
   have h1:=fu (runesF (foldS t)) [] []
   have h2:=bX (foldS t).length (foldS t) (Nat.le_refl _)
   have h3:=d9 t
   rw[← fq]at h1
   simp only[List.length_nil]at h1
   omega
  have hS:=kH G (wordsF t) [t] hwl (by simp)
  refine sb [.tmp 2] (fn:=Tryz.f138) Tryz.func138 ?_
  intro Q hQ
  refine wk trivial ?_
  refine kq trivial (hL _) ?_
  refine kq trivial (jg G t (by omega) _) ?_
  refine kq trivial (hS _) ?_
  refine ee hQ trivial ?_
  exact Fin.same (.bool _) ⟨by simp[isF],rfl⟩
end Go.Av
