/- Laws of counts: what must come of every program (lives). -/
import Derived.Test.YtmfhelaoeaifeaaGreatMiQa
set_option linter.unusedSimpArgs false
set_option linter.unusedVariables false
set_option linter.unusedSectionVars false
set_option linter.unnecessarySimpa false
set_option maxRecDepth 100000
set_option maxHeartbeats 16000000
namespace Go.Av
open Go Go.Proofs Go.RowKit
variable {c:CS} {s:PS}
def chS(fo:ML Int Fo):Nat→Int→Option (List Int)
 |0,id=>if id=0 then some []else none
 |k+1,id=>if id=0 then some []else(chS fo k (((lkM fo id).map (·.inn)).getD 0)).map (id:: ·)
theorem mN{ab:ML Int Int}{fo:ML Int Fo}(h:∀id,lkM ab id=(lkM fo id).map (·.inn)):∀(k:Nat) (id:Int),chO ab k id=chS fo k id:=by
 intro k
 induction k with
 |zero=>intro id;rfl
 |succ k ih=>intro id;rw[chO,chS,h,ih]
def PS.chn(s:PS)(feed:Int):List Int:=(chS s.fo 7 (((lkM s.fe feed).map (·.inn)).getD 0)).getD []
theorem Kp.chnS(K:Kp c s)(f:Int):c.chn f=s.chn f:=by unfold CS.chn PS.chn;rw[mN K.ab,K.inn]
theorem bH{κ α:Type}[DecidableEq κ]{l:ML κ α}{x:κ}:x∈l.map (·.1)↔(lkM l x).isSome=true:=by
 constructor
 ·intro hm
  cases hq:(lkM l x).isSome with
  |true=>rfl
  |false=>exact(fI hq hm).elim
 ·intro hq
  obtain⟨a,ha⟩:=Option.isSome_iff_exists.1 hq
  obtain⟨n,hn⟩:=dX ha
  exact List.mem_map.2 ⟨_,hn,rfl⟩
theorem cV{κ α β:Type}[DecidableEq κ]{l:ML κ α}{l':ML κ β}{n n':Nat}(w:WFM l n)(w':WFM l' n')(h:∀x,(lkM l x).isSome=(lkM l' x).isSome):(l.map (·.1)).Perm (l'.map (·.1)):=by
 rw[List.perm_ext_iff_of_nodup w.keys w'.keys]
 intro x
 rw[bH,bH,h]
theorem kT{l l':List Int}(h:l.Perm l'):sortI l=sortI l':=mergeSort_of_perm_i h
theorem pQ{κ α:Type}[DecidableEq κ]{l l':ML κ α}{n n':Nat}(w:WFM l n)(w':WFM l' n')(h:∀x,lkM l x=lkM l' x):(l.map (·.2.1)).Perm (l'.map (·.2.1)):=by
 have hp:=cV w w' fun x=>by rw[h]
 have hv:∀{l:ML κ α} {n:Nat},WFM l n→l.map (fun e=>some e.2.1)=(l.map (·.1)).map (lkM l):=fun {l n} w=>by
  rw[List.map_map]
  exact List.map_congr_left fun e he=>(bn w.keys (b:=e.2.2) he).symm
 have h1:(l.map fun e=>some e.2.1).Perm (l'.map fun e=>some e.2.1):=by
  rw[hv w,hv w',List.map_congr_left (fun x _=>h x)]
  exact hp.map _
 have h2:=h1.map (fun o:Option α=>o)
 have h3:∀l:ML κ α,(l.map fun e=>some e.2.1)=(l.map (·.2.1)).map some:=fun l=>by rw[List.map_map];rfl
 rw[h3,h3]at h1
 have:=h1.filterMap id
 simpa using this
def PS.its(s:PS):List It:=s.it.map (·.2.1)
theorem Kp.tl(K:Kp c s)(h:s.Inv)(p:It→Bool):Av.tl (c.it.map (·.2.1)) p=Av.tl s.its p:=dh (pQ K.wf.w4 h.w3 K.it) p
def insT(l:List Bs)(g:Bs):List Bs:=match l with
 | []=>[g]
 |a::l=>if Op.bytesLess a g=true then a::insT l g else if a=g then a::l else g::a::l
def tagsR(L:List It):List Bs:=(L.flatMap (·.tags)).foldl insT []
theorem kU(l:List Bs)(g x:Bs):x∈insT l g↔x=g∨x∈l:=by
 induction l with
 |nil=>simp[insT]
 |cons a l ih=>
  rw[insT]
  split
  ·rw[List.mem_cons,ih,List.mem_cons]
   constructor
   ·rintro(h|h|h)
    ·exact .inr (.inl h)
    ·exact .inl h
    ·exact .inr (.inr h)
   ·rintro(h|h|h)
    ·exact .inr (.inl h)
    ·exact .inl h
    ·exact .inr (.inr h)
  ·split
   ·rename_i h;subst h
    constructor
    ·exact .inr
    ·rintro(h|h)
     ·rw[h];exact List.mem_cons_self ..
     ·exact h
   ·rw[List.mem_cons]
theorem rD{l:List Bs}(h:Srt l)(g:Bs):Srt (insT l g):=by
 induction l with
 |nil=>simp[insT,Srt]
 |cons a l ih=>
  have h2:=h
  unfold Srt at h
  rw[List.pairwise_cons]at h
  rw[insT]
  split
  ·rename_i hl
   unfold Srt
   rw[List.pairwise_cons]
   refine⟨fun x hx=>?_,ih h.2⟩
   rcases(kU l g x).1 hx with rfl|hx
   ·exact hl
   ·exact h.1 x hx
  ·rename_i hl
   split
   ·exact h2
   ·rename_i hne
    have hga:Op.bytesLess g a=true:=by
     cases hq:Op.bytesLess g a with
     |true=>rfl
     |false=>exact(hne (ku a g (by simpa using hl) hq)).elim
    unfold Srt
    rw[List.pairwise_cons]
    refine⟨fun x hx=>?_,h2⟩
    rcases List.mem_cons.1 hx with rfl|hx
    ·exact hga
    ·exact dE hga (h.1 x hx)
theorem rW(gs:List Bs):∀{l:List Bs},Srt l→Srt (gs.foldl insT l)∧∀x,x∈gs.foldl insT l↔x∈gs∨x∈l:=by
 induction gs with
 |nil=>intro l h;exact⟨h,fun x=>by simp⟩
 |cons g gs ih=>
  intro l h
  obtain⟨h1,h2⟩:=ih (rD h g)
  refine⟨h1,fun x=>?_⟩
  rw[List.foldl_cons,h2,kU,List.mem_cons]
  constructor
  ·rintro(h|h|h)
   ·exact .inl (.inr h)
   ·exact .inl (.inl h)
   ·exact .inr h
  ·rintro((h|h)|h)
   ·exact .inr (.inl h)
   ·exact .inl h
   ·exact .inr (.inr h)
theorem fC(L:List It):Srt (tagsR L):=(rW _ (by simp[Srt])).1
theorem cW(L:List It)(x:Bs):x∈tagsR L↔∃t∈L,x∈t.tags:=by
 unfold tagsR
 rw[(rW _ (by simp[Srt])).2]
 simp
theorem kV{l l':List Bs}(h:Srt l)(h':Srt l')(hm:∀x,x∈l↔x∈l'):l=l':=by
 have hp:l.Perm l':=(List.perm_ext_iff_of_nodup (fz h) (fz h')).2 hm
 refine List.Perm.eq_of_pairwise (le:=fun a b=>Op.bytesLess a b=true) (fun a b _ _ h1 h2=>?_) h h' hp
 have:=dE h1 h2
 rw[fu]at this;cases this
theorem pR{l:List Bs}(h:l.Nodup):Srt (sortB l):=by
 have h1:(sortB l).Pairwise fun a b=>decide (a≤b)=true:=List.pairwise_mergeSort kQ kR l
 have h2:(sortB l).Nodup:=(List.mergeSort_perm l _).nodup_iff.2 h
 unfold Srt
 refine List.Pairwise.imp₂ (R:=fun a b=>decide (a≤b)=true) (S:=fun a b=>a≠b) (fun a b hab hne=>?_) h1 h2
 rw[bytesLess_eq,decide_eq_true_eq]
 rw[decide_eq_true_eq]at hab
 rcases List.le_iff_lt_or_eq.1 hab with h|h
 ·exact h
 ·exact(hne h).elim
def ctM(kind id:Int)(g:Bs)(n:T2):Ct:=⟨kind,id,g,n.1,n.2⟩
def PS.tellC(s:PS):List Ct:=
 ctM 1 0 [] (tl s.its fun _=>true)::(((sortI (s.fo.map (·.1))).map fun id=>ctM 2 id [] (tl s.its fun t=>decide (id∈s.chn t.feed)))++((sortI (s.fe.map (·.1))).map fun id=>ctM 3 id [] (tl s.its fun t=>decide (t.feed=id)))
  ++ (tagsR s.its).map fun g=>ctM 4 0 g (tl s.its fun t=>decide (g∈t.tags)))++[ctM 5 0 [] (tl s.its fun t=>t.star)]
theorem Kp.lkFo(K:Kp c s)(h:s.Inv){id:Int}(hi:(lkM s.fo id).isSome=true):lkM c.fo id=some (Av.tl s.its fun t=>decide (id∈s.chn t.feed)):=by
 rw[K.tal.fo id (by rw[K.fo];exact hi),K.tl h]
 congr 1
 exact dC fun t _=>by rw[K.chnS]
theorem Kp.lkFe(K:Kp c s)(h:s.Inv){id:Int}(hi:(lkM s.fe id).isSome=true):lkM c.fe id=some (Av.tl s.its fun t=>decide (t.feed=id)):=by
 rw[K.tal.fe id (by rw[K.fe];exact hi),K.tl h]
theorem Kp.lkTg(K:Kp c s)(h:s.Inv)(g:Bs):lkM c.tg g=some0 (Av.tl s.its fun t=>decide (g∈t.tags)):=by
 rw[K.tal.tg,K.tl h]
theorem pS(L:List It)(g:Bs):(some0 (tl L fun t=>decide (g∈t.tags))).isSome=true↔∃t∈L,g∈t.tags:=by
 unfold some0 tl
 simp only
 constructor
 ·intro h
  split at h
  ·cases h
  ·rename_i h0
   have:L.countP (fun t=>decide (g∈t.tags))≠0:=fun q=>h0 (by rw[q];rfl)
   obtain⟨t,ht,hg⟩:=List.countP_pos_iff.1 (Nat.pos_of_ne_zero this)
   exact⟨t,ht,by simpa using hg⟩
 ·rintro⟨t,ht,hg⟩
  rw[if_neg]
  ·rfl
  ·have:0<L.countP (fun t=>decide (g∈t.tags)):=List.countP_pos_iff.2 ⟨t,ht,by simpa using hg⟩
   omega
theorem Kp.keysTg(K:Kp c s)(h:s.Inv):sortB (c.tg.map (·.1))=tagsR s.its:=by
 refine kV (pR K.wf.w3.keys) (fC _) fun x=>?_
 rw[cW, ← pS, ← K.lkTg h, ← bH]
 exact(List.mergeSort_perm _ _).mem_iff
theorem Kp.told(K:Kp c s)(h:s.Inv):c.tell=s.tellC:=by
 unfold CS.tell PS.tellC toldI toldS
 rw[K.keysTg h,kT (cV K.wf.w1 h.w1 K.fo),kT (cV K.wf.w2 h.w2 K.fe),K.tal.al,K.tal.st,K.tl h,K.tl h]
 have e1:(sortI (s.fo.map (·.1))).map (ctI 2 c.fo)=(sortI (s.fo.map (·.1))).map fun id=>ctM 2 id [] (Av.tl s.its fun t=>decide (id∈s.chn t.feed)):=
  List.map_congr_left fun id hid=>by
   unfold ctI
   rw[K.lkFo h (bH.1 ((List.mergeSort_perm _ _).mem_iff.1 hid))];rfl
 have e2:(sortI (s.fe.map (·.1))).map (ctI 3 c.fe)=(sortI (s.fe.map (·.1))).map fun id=>ctM 3 id [] (Av.tl s.its fun t=>decide (t.feed=id)):=
  List.map_congr_left fun id hid=>by
   unfold ctI
   rw[K.lkFe h (bH.1 ((List.mergeSort_perm _ _).mem_iff.1 hid))];rfl
 have e3:(tagsR s.its).map (ctS c.tg)=(tagsR s.its).map fun g=>ctM 4 0 g (Av.tl s.its fun t=>decide (g∈t.tags)):=
  List.map_congr_left fun g _=>by
   unfold ctS
   rw[K.lkTg h,fq];rfl
 rw[e1,e2,e3];rfl
end Go.Av
namespace Go.Av
open Go Go.Proofs Go.RowKit
theorem dr(s:PS)(id k:Int):(s.hold id k).it=s.it:=by rw[bk]
theorem l6(s:PS)(e:Ev):(s.aft e).it=
  if e.kind=4 then itF s.it ((lkM s.fe e.a).getD Fe.z).id
  else if e.kind=7 then upM s.it s.c3 e.a ⟨e.a,e.b,e.n,e.s,e.t,e.u,false,false,[]⟩
  else if e.kind=8 then upM s.it s.c3 e.a {(lkM s.it e.a).getD It.z with read:=e.n==1}
  else if e.kind=9 then upM s.it s.c3 e.a {(lkM s.it e.a).getD It.z with star:=e.n==1}
  else if e.kind=10 then upM s.it s.c3 e.a {(lkM s.it e.a).getD It.z with tags:=tgF ((lkM s.it e.a).getD It.z).tags e.s e.n}
  else s.it:=by
 unfold PS.aft PS.after
 by_cases k2:e.kind=2
 ·rw[if_pos k2,dr,if_neg (by omega),if_neg (by omega),if_neg (by omega),if_neg (by omega),if_neg (by omega)];rfl
 by_cases k4:e.kind=4
 ·rw[if_neg k2,if_pos k4,if_pos k4,PS.unfeed,dr];rfl
 rw[if_neg k2,if_neg k4,if_neg k4]
 by_cases k5:e.kind=5
 ·rw[if_pos k5,if_neg (by omega),if_neg (by omega),if_neg (by omega),if_neg (by omega)];rfl
 rw[if_neg k5]
 by_cases k6:e.kind=6
 ·rw[if_pos k6,if_neg (by omega),if_neg (by omega),if_neg (by omega),if_neg (by omega)]
  show((s.hold _ _).hold _ _).it=_
  rw[dr,dr]
 rw[if_neg k6]
 by_cases k7:e.kind=7
 ·rw[if_neg (by omega),if_neg (by omega),if_neg (by omega),if_neg (by omega),if_neg (by omega),PS.make,if_neg (by omega),if_neg (by omega),if_pos k7,if_pos k7];rfl
 rw[if_neg k7]
 by_cases k8:e.kind=8
 ·rw[if_pos k8,if_pos k8];rfl
 rw[if_neg k8,if_neg k8]
 by_cases k9:e.kind=9
 ·rw[if_pos k9,if_pos k9];rfl
 rw[if_neg k9,if_neg k9]
 by_cases k10:e.kind=10
 ·rw[if_pos k10,if_pos k10];rfl
 rw[if_neg k10,if_neg k10]
 by_cases k12:e.kind=12
 ·rw[if_pos k12];rfl
 rw[if_neg k12]
 by_cases k13:e.kind=13
 ·rw[if_pos k13]
 rw[if_neg k13,PS.make]
 by_cases k1:e.kind=1
 ·rw[if_pos k1]
  show((((s.upFo e.a _).upNm _ _).hold _ _)).it=_
  rw[dr];rfl
 rw[if_neg k1]
 by_cases k3:e.kind=3
 ·rw[if_pos k3]
  show((((s.upFe e.a _).upPl _ _).hold _ _)).it=_
  rw[dr];rfl
 rw[if_neg k3,if_neg k7]
 split<;>rfl
theorem mO{l:List Bs}{t:Bs}{n:Int}{g:Bs}(h:g∈tgF l t n):g∈l∨g=t:=by
 unfold tgF at h
 split at h
 ·rw[List.mem_append,List.mem_cons]at h
  rcases h with h|h|h
  ·exact .inl (List.mem_of_mem_take h)
  ·exact .inr h
  ·exact .inl (List.mem_of_mem_drop h)
 ·split at h
  ·rw[List.mem_append]at h
   rcases h with h|h
   ·exact .inl (List.mem_of_mem_take h)
   ·exact .inl (List.mem_of_mem_drop h)
  ·exact .inl h
def PS.Tg(s:PS):Prop:=∀k t,lkM s.it k=some t→∀g∈t.tags,g.length≤64
theorem PS.Tg.z:PS.z.Tg:=fun _ _ h=>by cases h
theorem PS.Tg.getD{s:PS}(h:s.Tg)(k:Int):∀g∈ ((lkM s.it k).getD It.z).tags,g.length≤64:=by
 cases hl:lkM s.it k with
 |none=>intro g hg;simp[It.z]at hg
 |some t=>exact h k t hl
theorem mP{g:Bs}(h:L0.tag g=true):g.length≤64:=by
 have hu:L0.tag g=((!(g==[])&&textF rightS cleanF g 64)&&isF g):=rfl
 rw[hu]at h
 simp only[Bool.and_eq_true]at h
 have:=h.1.2
 unfold textF at this
 rw[Bool.and_eq_true,decide_eq_true_eq]at this
 omega
theorem PS.Tg.step{s:PS}(h:s.Tg)(hI:s.Inv)(e:Ev):(s.step L0 e).Tg:=by
 unfold PS.step
 split
 ·rename_i hok
  have hr:e.kind=10→e.s.length≤64:=fun k=>by
   unfold PS.ok PS.fits at hok
   rw[Bool.and_eq_true]at hok
   have:=hok.1
   unfold Leaf.ck at this
   simp only[Bool.and_eq_true]at this
   have hq:=this.1
   unfold Leaf.right at hq
   rw[if_neg (by omega),if_neg (by omega),if_neg (by omega),if_neg (by omega),if_neg (by omega),if_neg (by omega),if_neg (by omega),if_pos k]at hq
   simp only[Bool.and_eq_true]at hq
   exact mP hq.2.2
  intro k t hk g hg
  rw[l6]at hk
  split at hk
  ·exact h k t (dq hI.w3.keys hk) g hg
  split at hk
  ·rcases az hk with⟨rfl,rfl⟩| ⟨_,hk⟩
   ·simp at hg
   ·exact h k t hk g hg
  split at hk
  ·rcases az hk with⟨rfl,rfl⟩| ⟨_,hk⟩
   ·exact h.getD _ g hg
   ·exact h k t hk g hg
  split at hk
  ·rcases az hk with⟨rfl,rfl⟩| ⟨_,hk⟩
   ·exact h.getD _ g hg
   ·exact h k t hk g hg
  split at hk
  ·rename_i k10
   rcases az hk with⟨rfl,rfl⟩| ⟨_,hk⟩
   ·rcases mO hg with hg|rfl
    ·exact h.getD _ g hg
    ·exact hr k10
   ·exact h k t hk g hg
  ·exact h k t hk g hg
 ·exact h
theorem PS.Tg.fold{s:PS}(h:s.Tg)(hI:s.Inv)(l:List Ev):(l.foldl (PS.step L0) s).Tg:=by
 induction l generalizing s with
 |nil=>exact h
 |cons e l ih=>exact ih (h.step hI e) (hI.step e)
end Go.Av
namespace Go.Av
open Go Go.Proofs Go.RowKit
variable {s:PS} {e:Ev}
end Go.Av
namespace Go.Av
open Go Go.Proofs Go.RowKit
def sumZ:List Int→Int
 | []=>0
 |a::l=>a+sumZ l
def S2{α:Type}(F:List α)(L:List It)(P:α→It→Bool):Int:=sumZ (F.map fun g=>(L.countP (P g):Int))
variable {s:PS}
def PS.inn(s:PS)(id:Int):Int:=((lkM s.fo id).map (·.inn)).getD 0
theorem PS.Inv.chs(h:s.Inv){p:Int}(hp:p=0∨(lkM s.fo p).isSome=true):∃l,chS s.fo 7 p=some l∧l.Nodup∧∀x∈l,(lkM s.fo x).isSome=true:=by
 obtain⟨l,h1,h2,_,h4⟩:=(Kp.new h).chain h hp
 exact⟨l,by rw[← mN (Kp.new h).ab];exact h1,h2,h4⟩
end Go.Av
namespace Go.Av
open Go Go.Proofs Go.RowKit
attribute [local irreducible] WP WPl WPix Sat
variable (G:Nat→Option (List AVal))
def PS.step1(s:PS)(e:Ev):PS:=if s.fits true (s.dpt e.b) e then s.aft e else s
theorem ei{s:PS}{e:Ev}(h:L0.ck e=true):s.step L0 e=s.step1 e:=by unfold PS.step PS.step1 PS.ok;rw[h]
theorem g9{e:Ev}(h1:L0.right e=true)(h2:usedE e=e):L0.ck e=true:=by unfold Leaf.ck;rw[h1,h2];simp
def lvs:List Ev:=[⟨1,1,0,0,[102],[],[]⟩,⟨3,1,1,0,[117],[],[]⟩,⟨7,1,1,0,[97],[],[]⟩,⟨7,2,1,0,[98],[],[]⟩,⟨10,2,0,1,[103,111],[],[]⟩]
def lvE:Ev:=⟨8,2,0,1,[],[],[]⟩
def lvS:PS:=lvs.foldl PS.step1 PS.z
def lvT:PS:=lvS.aft lvE
theorem ur:L0.ck lvE=true:=g9 (by kernel_rfl) rfl
theorem l9:lvs.foldl (PS.step L0) PS.z=lvS:=by
 show(((((PS.z.step L0 _).step L0 _).step L0 _).step L0 _).step L0 _)=_
 rw[ei (g9 (by kernel_rfl) rfl),ei (g9 (by kernel_rfl) rfl),ei (g9 (by kernel_rfl) rfl),ei (g9 (by kernel_rfl) rfl),ei (g9 (by kernel_rfl) rfl)]
 rfl
theorem la:lvS.ok L0 lvE=true:=by unfold PS.ok;rw[ur];kernel_rfl
theorem en:lvS.Inv:=by rw[← l9];exact PS.Inv.z.fold lvs
theorem lc:lvS.step L0 lvE=lvT:=by unfold PS.step;rw[la];rfl
theorem mR:lvT.Inv:=by rw[← lc];exact en.step lvE
def lvC:List Ct:=[⟨1,0,[],2,1⟩,⟨2,1,[],2,1⟩,⟨3,1,[],2,1⟩,⟨4,0,[103,111],1,0⟩,⟨5,0,[],0,0⟩]
theorem q6(n:Int):sortI [n]=[n]:=List.mergeSort_of_pairwise (by simp)
theorem ut:lvT.fo.map (·.1)=[1]:=by kernel_rfl
theorem uu:lvT.fe.map (·.1)=[1]:=by kernel_rfl
theorem rP:lvT.tellC=lvC:=by
 unfold PS.tellC
 rw[ut,uu,q6]
 kernel_rfl
theorem ld:tagsR lvT.its=[[103,111]]:=by kernel_rfl
section
variable {Y:Heap} {n m:Nat} {s:PS} {c:CS}
theorem q7(Kc:Kp c s)(h:s.Inv)(t1:∀g∈tagsR s.its,g.length≤1048576)(t2:(tagsR s.its).length≤100000)(hn:n+9≤m)(hm:m+7≤Y.length):
  Sat (CT G) 8 [.hp (m+6) 0 0 0] (sc Y n s m c) (fun r h'=>r=.sl 5 (s.tellC.map Ct.av)∧h'=sc Y n s m c):=by
 have hp:(c.tg.map (·.1)).Perm (tagsR s.its):=by rw[← Kc.keysTg h];exact(List.mergeSort_perm _ _).symm
 have p1:=cV Kc.wf.w1 h.w1 Kc.fo
 have p2:=cV Kc.wf.w2 h.w2 Kc.fe
 have q1:=p1.length_eq
 have q2:=p2.length_eq
 have q3:=hp.length_eq
 rw[List.length_map,List.length_map]at q1 q2
 rw[List.length_map]at q3
 have l1:=h.l1
 have l2:=h.l2
 rw[fZ hn hm, ← Kc.told h]
 refine ot G c Kc.wf (fun e he=>?_) (fun e he=>?_) (fun e he=>?_) (by omega) (by omega) (by omega) (by rw[au (by omega)];exact hm)
 ·have:=bH.1 (p1.mem_iff.1 (List.mem_map.2 ⟨e,he,rfl⟩))
  obtain⟨f,hf⟩:=Option.isSome_iff_exists.1 this
  have:=h.i1 _ _ hf
  omega
 ·have:=bH.1 (p2.mem_iff.1 (List.mem_map.2 ⟨e,he,rfl⟩))
  obtain⟨f,hf⟩:=Option.isSome_iff_exists.1 this
  have:=h.i2 _ _ hf
  omega
 ·exact t1 _ (hp.mem_iff.1 (List.mem_map.2 ⟨e,he,rfl⟩))
end
theorem q8{h Y:Heap}{n m:Nat}{s:PS}{c:CS}{R:AVal→Heap→Prop}{b:Bool}(hn:n+9≤m)(hm:m+7≤Y.length)(hp:∃j,Y=h++j)(hh:h.length≤n)(hR:R (.bool b) h):Fin h (sc Y n s m c) R (.bool b):=by
 obtain⟨j,rfl⟩:=hp
 obtain⟨j',he⟩:=uh (s:=s) (c:=c) hn hm hh
 rw[he]
 exact Fin.plainE (j:=j') rfl (.bool _) hR
theorem gv(h:Heap):Sat (CT G) 5 [] h (fun r h'=>r=.bool true∧h'=h):=by
 have hF:=fun h=>jq G lvs (by decide) h
 rw[l9]at hF
 have hz9:(PS.z.bl h.length).length=9:=rfl
 have hfh:=hF h
 generalize hH:h++PS.z.bl h.length=H0 at hfh
 have hl0:H0.length=h.length+9:=by rw[← hH];simp[hz9]
 have hnw:=uj G en (H:=H0) (n:=h.length) (by omega)
 have hz7:(CS.z.bl H0.length).length=7:=rfl
 generalize hWw:H0++CS.z.bl H0.length=W0 at hnw
 have hlW:W0.length=H0.length+7:=by rw[← hWw];simp[hz7]
 have hpre:∃j,W0=h++j:=⟨PS.z.bl h.length++CS.z.bl H0.length,by rw[← hWw, ← hH,List.append_assoc]⟩
 generalize H0.length=m at*
 have hn:h.length+9≤m:=by omega
 have hap:=fun(W:Heap) (hm:m+7≤W.length)=>ui G (Y:=W) (n:=h.length) (m:=m) (c:=CS.ofSt lvS.tell) en lvE hn hm
 rw[lc,la]at hap
 have hst:=fun(W:Heap) (hm:m+7≤W.length)=>wE G (Y:=W) (n:=h.length) (m:=m) (Kp.new en) en lvE la hn hm
 refine sb [.tmp 0] (fn:=Tryz.f5) Tryz.func5 ?_
 intro Q hQ
 refine wk trivial ?_
 refine kq trivial (hfh) ?_
 refine kq trivial (hnw) ?_
 refine kq trivial (hap _ (by first|omega| (simp;omega))) ?_
 refine(hst _ (by first|omega| (simp;omega))).mono ?_
 rintro r h' ⟨rfl,d,kd,rfl⟩
 change Kp d lvT at kd
 have hof:d.of 2 1 []=(2,1):=by
  show(lkM d.fo 1).getD (0,0)=_
  rw[kd.lkFo mR (by kernel_rfl)]
  kernel_rfl
 have hof1:(d.of 2 1 []).1=2:=by rw[hof]
 have hof2:(d.of 2 1 []).2=1:=by rw[hof]
 have htl:=fun(W:Heap) (hm:m+7≤W.length)=>q7 G (Y:=W) (n:=h.length) (m:=m) kd mR (by rw[ld];decide) (by rw[ld];decide) hn hm
 rw[rP]at htl
 have hsm:=fun h=>rC G lvC lvC (by decide) (by decide) h
 rw[decide_eq_true (rfl:lvC=lvC)]at hsm
 have F:=F2 hof1 hof2
 try refine sq F ?_
 refine wk F ?_
 refine kq F (DZ G (n:=h.length) (s:=lvT) (c:=d) hn (by first|omega| (simp;omega)) 2 1 []) ?_
 refine kq F (htl _ (by first|omega| (simp;omega))) ?_
 refine kq F (hsm _) ?_
 refine ee hQ F ?_
 obtain⟨j0,hj0⟩:=hpre
 exact q8 hn (by simp;omega) ⟨j0++_,by rw[hj0,List.append_assoc]⟩ (Nat.le_refl _) ⟨rfl,rfl⟩
end Go.Av
