/- Parts. -/
import Derived.Test.YtnolelibaahimaaGreatDoorRNd
import Derived.Test.YtnolelibaahimaaGreatDoorRSc
import Derived.Test.YtnolelibaahimaaGreatDoorREc
import Derived.Test.YtnolelibaahimaaGreatDoorRUa1
set_option linter.unusedSimpArgs false
set_option linter.unusedVariables false
set_option linter.unusedSectionVars false
set_option linter.unnecessarySimpa false
set_option maxRecDepth 100000
set_option maxHeartbeats 16000000
namespace Go.Av
open Go Go.Proofs Go.RowKit
section
def encS(t:Bs):Value:=.string ⟨t.toArray⟩
theorem Only.setCells(b:Nat):∀(vs:List Value) (o:Nat) (w:World),Only w (w.setCells b o vs) (some b)
 | [],_,_=>Only.refl _ _
 |v::r,o,w=>(Only.setCell w ⟨b,o,none⟩ v).trans (Only.setCells b r (o+1) _)
theorem Only.alloc(w:World)(o:Obj)(q:Option Nat):Only w (w.alloc o) q:=
 ⟨rfl,rfl,rfl,by simp,fun k hk _=>Below.heap_alloc w o k hk⟩
theorem Only.into{w w1 w2:World}{q:Option Nat}{g:Nat}(h:Only w w1 q)(k:Only w1 w2 (some g))(hg:w.heap.size≤g):Only w w2 q:=
 ⟨k.os.trans h.os,k.tape.trans h.tape,k.output.trans h.output,Q6 h.size k.size,
  fun i hi hq=>(k.block i (U8 hi h.size) (fun e=>by cases e;omega)).trans (h.block i hi hq)⟩
theorem Only.putRow{α:Type}[Inhabited α](enc:α→Value)(w:World)(b off:Nat)(d:Array α):Only w (Go.Sort.putRow enc w b off d) (some b):=
 ⟨rfl,rfl,rfl,by simp,fun k _ hq=>by
  have:b≠k:=fun e=>hq (by rw[e])
  simp[Go.Sort.putRow,Go.Sort.mapBlock,Array.getElem?_modify,this]⟩
section
variable {C:Ctx} {B:Nat} {S:Addr→Prop} {μ:Map} {h:Heap} {w w':World}
theorem Fits.give(f:Fits C B S μ h w){p:Nat}{m:MB}(hm:μ[p]? =some m){g:Nat}(hg:∀q m',μ[q]? =some m'→m'.blk=some g→q=p)(hB:B≤g)(hgl:g<w.heap.size):
  Step B S μ w (fun a=>S a∨a.block=g) (μ.set p ⟨none,m.ver+1,m.size,m.cap⟩) w∧Fits C B (fun a=>S a∨a.block=g) (μ.set p ⟨none,m.ver+1,m.size,m.cap⟩) (h.set p .dead) w:=by
 have hlt:=(f9.1 hm).1;have st:Step B S μ w (fun a=>S a∨a.block=g) (μ.set p ⟨none,m.ver+1,m.size,m.cap⟩) w:=⟨fun a ha=>.inl ha,fun _ _=>rfl,V4 _ _,bq hm (by simp) (fun e=>by simp at e),fun a ha=>by
  rcases ha with ha|ha
  ·exact .inl ha
  ·exact .inr (by omega)⟩
 have at_:∀q k,(μ.set p ⟨none,m.ver+1,m.size,m.cap⟩)[q]? =some k→(q=p∧k.blk=none)∨(q≠p∧μ[q]? =some k):=by
  intro q k hq;by_cases e:p=q
  ·subst e;rw[P3 hlt]at hq;cases hq;exact .inl ⟨rfl,rfl⟩
  ·rw[R6 e]at hq;exact .inr ⟨fun e'=>e e'.symm,hq⟩
 refine⟨st,⟨fun g cs hg=>(f.glob g cs hg).mono st,by simp[f.len],?_,?_,f.base,?_,?_⟩⟩
 ·intro p1 q1 m1 m2 b h1 h2 e1 e2;rcases at_ p1 m1 h1 with⟨_,k1⟩| ⟨_,k1⟩
  ·rw[k1]at e1;cases e1
  ·rcases at_ q1 m2 h2 with⟨_,k2⟩| ⟨_,k2⟩
   ·rw[k2]at e2;cases e2
   ·exact f.sep p1 q1 m1 m2 b k1 k2 e1 e2
 ·intro p1 m1 b h1 e1;rcases at_ p1 m1 h1 with⟨_,k1⟩| ⟨r1,k1⟩
  ·rw[k1]at e1;cases e1
  ·obtain⟨a1,a2,a3⟩:=f.own p1 m1 b k1 e1;refine⟨a1,a2,fun a ha=>?_⟩;rcases ha with ha|ha
   ·exact a3 a ha
   ·intro e;exact r1 (hg p1 m1 k1 (by rw[e1, ← e,ha]))
 ·intro a ha;rcases ha with ha|ha
  ·exact f.lie a ha
  ·omega
 ·intro p1 m1 k1 h1 h2;rcases at_ p1 m1 h1 with⟨rfl,_⟩| ⟨r1,h1⟩
  ·rw[P3 (by rw[← f.len];exact hlt)]at h2;cases h2;trivial
  ·rw[R6 (fun e=>r1 e.symm)]at h2;exact(f.blk p1 m1 k1 h1 h2).mono st fun b _=>rfl
theorem wy{g off cap:Nat}{ls:List Bs}(hS:∀a,a.block=g→S a)(hl:ls.length≤cap)(hm:cap≤maxLen)(hc:∀j x,ls[j]? =some x→w.cell? ⟨g,off+j,none⟩=some (encS x)):
  Rep w S μ (.sl 1 (ls.map .str)) (.slice (some ⟨g,off,none⟩) ls.length cap):=by
 by_cases hn:ls=[]
 ·subst hn;exact .sl0 1 _ cap
 have hlen:(ls.map AVal.str).length=ls.length:=L5 ..;rw[← hlen];refine .sl 1 (ls.map .str) g off cap (fun i _=>encS (ls.getD i [])) (by simpa using hn) (by omega) hm (fun i x hx=>?_) (fun i x j c hx hj=>?_) (fun i x j c hx hj=>?_)
 ·obtain⟨a,_,rfl⟩:=M7.1 (M3 hx);rfl
 ·rw[M5]at hx;obtain⟨a,ha,rfl⟩:=N3.1 hx
  match j with
  |0=>
   simp[AVal.cells]at hj;subst hj;refine⟨hS _ rfl,?_,rfl⟩;rw[show off+(i*1+0)=off+i by omega,hc i a ha];simp[List.getD,ha]
  |j+1=>simp[AVal.cells]at hj
 ·rw[M5]at hx;obtain⟨a,ha,rfl⟩:=N3.1 hx
  match j with
  |0=>
   simp[AVal.cells]at hj;subst hj;simp only[List.getD,ha,Q0];exact .str a
  |j+1=>simp[AVal.cells]at hj
theorem jw(f:Fits C B S μ h w){p:Nat}{m:MB}(hm:μ[p]? =some m)(o:Only w w' m.blk){g off cap:Nat}{ls:List Bs}(hg:m.blk=some g∨(w.heap.size≤g∧g<w'.heap.size))
  (hl:ls.length≤cap)(hx:cap≤maxLen)(hc:∀j x,ls[j]? =some x→w'.cell? ⟨g,off+j,none⟩=some (encS x)):
  ∃S' μ',Step B S μ w S' μ' w'∧Fits C B S' μ' (h.set p .dead) w'∧Rep w' S' μ' (.sl 1 (ls.map .str)) (.slice (some ⟨g,off,none⟩) ls.length cap):=by
 obtain⟨f1,st1⟩:=f.update (m':=⟨m.blk,m.ver+1,m.size,m.cap⟩) (k':=.dead) hm o (by simp) (fun e=>by simp at e) (.inl rfl) trivial;have hlt:=(f9.1 hm).1;have hm1:(μ.set p ⟨m.blk,m.ver+1,m.size,m.cap⟩)[p]? =some ⟨m.blk,m.ver+1,m.size,m.cap⟩:=P3 hlt;have hgg:(B≤g∧g<w'.heap.size)∧∀q m',(μ.set p ⟨m.blk,m.ver+1,m.size,m.cap⟩)[q]? =some m'→m'.blk=some g→q=p:=by
  rcases hg with hg| ⟨h1,h2⟩
  ·obtain⟨a1,a2,_⟩:=f.own p m g hm hg;exact⟨⟨a1,U8 a2 o.size⟩,fun q m' hq hb=>f1.sep q p m' _ g hq hm1 hb hg⟩
  ·refine⟨⟨Q6 f.base h1,h2⟩,fun q m' hq hb=>?_⟩;by_cases e:p=q
   ·exact e.symm
   ·rw[R6 e]at hq;have:=(f.own q m' g hq hb).2.1;omega
 obtain⟨st2,f2⟩:=f1.give hm1 hgg.2 hgg.1.1 hgg.1.2;refine⟨_,_,st1.trans st2,?_,wy (fun a ha=>.inr ha) hl hx hc⟩;simpa using f2
end
theorem iQ{C:Ctx}{B:Nat}{S:Addr→Prop}{μ:Map}{h:Heap}{w:World}(f:Fits C B S μ h w){p ver len:Nat}{T:TypeId}{room:Bool}{l:List Bs}{v:Value}(hn:l≠ [])
  (hg:getRow h p ver=some (T,1,l.map .str))(hv:Rep w S μ (.hs p ver 0 len room) v):
  ∃m b cur,μ[p]? =some m∧m.blk=some b∧w.heap[b]? =some (.cells cur T (0,0))∧cur.size=m.cap∧l.length≤m.cap∧m.cap≤maxLen∧0<m.cap∧v=.slice (some ⟨b,0,none⟩) len (if room then m.cap else len)∧
   ∀j x,l[j]? =some x→w.cell? ⟨b,0+j,none⟩=some (encS x):=by
 obtain⟨m,hm,hf⟩:=f.row hg;rcases hf.lies with⟨_,h2⟩| ⟨b,cur,hb,hheap,hsz,⟨h0,hle⟩,hmax,hcell⟩
 ·exact absurd (X5.1 h2) hn
 rcases hv.hs_now hm hf.hver with⟨h1,_⟩| ⟨b',hb',_,hve⟩
 ·rw[hb]at h1;cases h1
 rw[hb]at hb';cases hb';have hs1:=hf.hsize;refine⟨m,b,cur,hm,hb,hheap,by omega,by simpa using hle,hmax,h0,by rw[hve];simp,fun j x hx=>?_⟩;have hx':(l.map AVal.str)[j]? =some (.str x):=by rw[M5,hx];rfl
 obtain⟨u,hu,hr⟩:=hcell j (.str x) 0 (.str x) hx' rfl;rw[hr.str_inv]at hu;have hlt:=(N6.1 hu).1;simp only[World.cell?,hheap];have e:j*1+0=0+j:=by omega
 rw[e]at hu;simpa [encS]using hu
theorem gU(w:World)(c:Array Value)(T:TypeId)(j:Nat):(w.alloc (.cells c T)).cell? ⟨w.heap.size,j,none⟩=c[j]? :=by
 simp only[World.cell?,cw];rfl
theorem dZ(b:Nat):∀(vs:List Value) (o:Nat) (w:World) (k:Nat),(w.cell? ⟨b,k,none⟩).isSome=true→((w.setCells b o vs).cell? ⟨b,k,none⟩).isSome=true
 | [],_,_,_,h=>h
 |v::r,o,w,k,h=>dZ b r (o+1) (w.setCell ⟨b,o,none⟩ v) k (by
  by_cases e:o=k
  ·subst e;obtain⟨u,hu⟩:=M8.1 h;rw[World.cell?_setCell_same _ _ _ hu];rfl
  ·rw[World.cell?_setCell_other _ _ _ _ (by simpa using e)];exact h)
theorem iC{w:World}{b o:Nat}{v:Value}(hs:(w.cell? ⟨b,o,none⟩).isSome=true):(w.setCells b o [v]).cell? ⟨b,o,none⟩=some v:=by
 have:=World.cell?_setCells_in b [v] o w (fun j hj=>by simp at hj;subst hj;exact hs) 0 (by simp);simpa using this
theorem iR(l:List Bs)(t:Bs)(i:Nat)(hi:i≤l.length)(j:Nat)(x:Bs)(hx:(l.take i++t::l.drop i)[j]? =some x):
  (j<i∧l[j]? =some x)∨(j=i∧x=t)∨(i<j∧l[j-1]? =some x):=by
 rcases U1 j i with h|h|h
 ·rw[L9 (by simp;omega),N1 h]at hx;exact .inl ⟨h,hx⟩
 ·subst h;rw[M1 (by rw[O3];omega)]at hx;have:j-(l.take j).length=0:=by rw[O3];omega
  rw[this]at hx;simp at hx;exact .inr (.inl ⟨rfl,hx.symm⟩)
 ·rw[M1 (by simp;omega)]at hx;have:j-(l.take i).length=(j-i-1)+1:=by rw[O3];omega
  rw[this,T6,P4]at hx;refine .inr (.inr ⟨h,?_⟩);rw[← hx];congr 1;omega
variable (G:Nat→Option (List AVal))
theorem sf(l:List Bs)(t:Bs)(i v1 v2:Nat)(rm:Bool)(hi:i≤l.length)(hn:l≠ [])(hl:l.length≤100000)(h:Heap):
  Sat (CT G) 84 [.hs h.length v1 0 l.length true,.int .i64 i,.hs (h.length+1) v2 0 1 rm] (h++[Blk.row 9 1 v1 (l.map .str),.row 9 1 v2 [.str t]])
   (fun r h'=>r=.sl 1 ((l.take i++t::l.drop i).map .str)∧h'=h++[.dead,.row 9 1 v2 [.str t]]):=by
 intro B S μ w us fit rl;obtain⟨hul,hur⟩:=rl
 match us,hul,hur with
 | [u0,u1,u2],_,hur=>
  have r0:Rep w S μ (.hs h.length v1 0 l.length true) u0:=hur 0 _ rfl;have r1:Rep w S μ (.int .i64 i) u1:=hur 1 _ rfl;have r2:Rep w S μ (.hs (h.length+1) v2 0 1 rm) u2:=hur 2 _ rfl;obtain rfl:=r1.int_inv;have hg0:getRow (h++[Blk.row 9 1 v1 (l.map .str),.row 9 1 v2 [.str t]]) h.length v1=some (9,1,l.map .str):=by simp[getRow]
  have hg2:getRow (h++[Blk.row 9 1 v1 (l.map .str),.row 9 1 v2 [.str t]]) (h.length+1) v2=some (9,1,[t].map .str):=by simp[getRow]
  obtain⟨m,b,cur,hm,hb,hheap,hsz,hle,hmax,h0,rfl,hc⟩:=iQ fit hn hg0 r0;obtain⟨m2,b2,cur2,hm2,hb2,hheap2,hsz2,hle2,hmax2,h02,rfl,hc2⟩:=iQ fit (by simp) hg2 r2;simp only[↓reduceIte];have hne:b2≠b:=fun e=>by have:=fit.sep _ _ m2 m b hm2 hm (by rw[hb2,e]) hb;omega
  have hset:(h++[Blk.row 9 1 v1 (l.map .str),.row 9 1 v2 [.str t]]).set h.length .dead=h++[.dead,.row 9 1 v2 [.str t]]:=by simp[List.set_append]
  have hil:(l.take i++t::l.drop i).length=l.length+1:=by simp;omega
  change OpOk Tryz.prog _ ((callFunc 84 #[_,_,_]).run Tryz.prog w)
  rw[cC (f:=84) Tryz.func84 rfl rfl];have fin:∀(w':World) (g cap:Nat),Only w w' (some b)→(g=b∨(w.heap.size≤g∧g<w'.heap.size))→l.length+1≤cap→cap≤maxLen→
    (∀j x,(l.take i++t::l.drop i)[j]? =some x→w'.cell? ⟨g,0+j,none⟩=some (encS x))→
    OpPost (CT G) B S μ w (fun r h'=>r=.sl 1 ((l.take i++t::l.drop i).map .str)∧h'=h++[.dead,.row 9 1 v2 [.str t]]) (.slice (some ⟨g,0,none⟩) (l.length+1) cap) w':=by
   intro w' g cap ho hg hcap hmx hcell;obtain⟨S',μ',st,f',rp⟩:=jw fit hm (by rw[hb];exact ho) (g:=g) (by rcases hg with rfl|hg;exact .inl hb;exact .inr hg) (by rw[hil];exact hcap) hmx hcell;rw[hset]at f';rw[hil]at rp;exact⟨_,_,S',μ',⟨rfl,rfl⟩,st,f',rp⟩
  have hcs:∀j v,(l.map encS)[j]? =some v→w.cell? ⟨b,0+j,none⟩=some v:=by
   intro j v hv;rw[M5]at hv;obtain⟨x,hx,rfl⟩:=N3.1 hv;exact hc j x hx
  have hvs:∀j v,[encS t][j]? =some v→w.cell? ⟨b2,0+j,none⟩=some v:=by
   intro j v hv
   match j with
   |0=>simp at hv;subst hv;exact hc2 0 t rfl
   |j+1=>simp at hv
  have h1c:∀v∈l.map encS,v.oneCell'=true:=by intro v hv;obtain⟨x,_,rfl⟩:=M7.1 hv;rfl
  have h1v:∀v∈ [encS t],v.oneCell'=true:=by intro v hv;simp at hv;subst hv;rfl
  have there:∀k,k<m.cap→(w.cell? ⟨b,k,none⟩).isSome=true:=by
   intro k hk;have:k<cur.size:=by omega
   simp[World.cell?,hheap,this]
  have mx:maxLen≤9223372036854775807:=by decide
  have hdr:(l.map encS).drop i=(l.drop i).map encS:=by rw[Y7]
  by_cases hroom:l.length+1≤m.cap
  ·by_cases hil2:i=l.length
   ·subst hil2;refine(Any2.slices_Insert_string_end_room Tryz.lays2_22 b 0 l.length m.cap b2 0 1 _ [encS t] w (by omega) hroom (by omega) rfl (fun j hj=>there _ (by omega)) (fun j hj=>by simp[World.frozen?,hheap]) hvs h1v).mono fun e w' ⟨he,hw⟩=>?_
    refine⟨_,he,fin w' b m.cap (by rw[hw];exact Only.setCells _ _ _ _) (.inl rfl) hroom hmax fun j x hx=>?_⟩;rw[hw];rcases iR l t l.length (M0 _) j x hx with⟨h1,h2⟩| ⟨rfl,rfl⟩| ⟨h1,h2⟩
    ·rw[U3 _ _ _ _ _ (fun _ _=>.inl (by simp;omega))];exact hc j x h2
    ·exact iC (there _ (by omega))
    ·have:=(f9.1 h2).1;omega
   ·refine(Any2.slices_Insert_string_shift Tryz.lays2_22 b 0 l.length m.cap i b2 0 1 _ (l.map encS) [encS t] w (by omega) (by omega) hroom (by omega) hne (by simp) rfl hcs (fun j hj=>there _ (by omega)) (fun j hj=>by simp[World.frozen?,hheap]) hvs h1c h1v
     9 9 cur2.size cur.size (by simp[World.shape?,hheap2]) (by simp[World.shape?,hheap]) (by omega) (by simp[World.frozen?,hheap2]) (by simp[World.frozen?,hheap2])).mono fun e w' ⟨he,hw⟩=>?_
    refine⟨_,he,fin w' b m.cap (by rw[hw];exact((Only.drew w _).trans (Only.setCells _ _ _ _)).trans (Only.setCells _ _ _ _)) (.inl rfl) hroom hmax fun j x hx=>?_⟩;rw[hw];have th2:∀k,k<m.cap→((w.drew.setCells b (0+(i+1)) ((l.map encS).drop i)).cell? ⟨b,k,none⟩).isSome=true:=fun k hk=>dZ b _ _ _ _ (there k hk)
    rcases iR l t i hi j x hx with⟨h1,h2⟩| ⟨rfl,rfl⟩| ⟨h1,h2⟩
    ·rw[U3 _ _ _ _ _ (fun _ _=>.inl (by simp;omega)),U3 _ _ _ _ _ (fun _ _=>.inl (by simp;omega))];exact hc j x h2
    ·exact iC (th2 _ (by omega))
    ·have hjl:=(f9.1 h2).1;rw[U3 _ _ _ _ _ (fun _ _=>.inr (by simp;omega))];have:=World.cell?_setCells_in b ((l.map encS).drop i) (0+(i+1)) w.drew (fun k hk=>by
      have hk2:k<l.length-i:=(by simpa using hk);exact there _ (by omega)) (j-1-i) (by simp;omega)
     rw[show 0+(i+1)+(j-1-i)=0+j by omega]at this;rw[this];have e2:i+(j-1-i)=j-1:=(by omega);simp only[List.getElem_drop,List.getElem_map,e2];rw[(f9.1 h2).2]
  ·have hcl:m.cap=l.length:=(by omega);have hcg:=grownCap_ge w (l.length+1) m.cap 9;have hmx1:(100001:Nat)≤maxLen:=(by decide);have hcm:=grownCap_le_maxLen w (l.length+1) m.cap 9 (by omega);by_cases hil2:i=l.length
   ·subst hil2;refine(Any2.slices_Insert_string_end_grow Tryz.lays2_22 (some ⟨b,0,none⟩) l.length m.cap b2 0 1 _ (l.map encS) [encS t] w (by omega) (by omega) (by omega) (by omega) (by simp) rfl (by simp)
     (fun a ha j v hv=>by cases ha;rw[bi];exact hcs j v hv) hvs h1v).mono fun e w' ⟨he,hw⟩=>?_
    refine⟨_,he,fin w' w.heap.size _ (by rw[hw];exact(Only.drew w _).trans (Only.alloc _ _ _)) (.inr ⟨M0 _,by rw[hw];simp⟩) hcg hcm fun j x hx=>?_⟩;rw[hw];refine(gU w.drew _ _ _).trans ?_;rw[Y0 (by simp;have:=(f9.1 hx).1;rw[hil]at this;omega)];rcases iR l t l.length (M0 _) j x hx with⟨h1,h2⟩| ⟨rfl,rfl⟩| ⟨h1,h2⟩
    ·rw[S8,L9 (by simpa using by omega),M5,P9,h2];rfl
    ·rw[S8,M1 (by simp)];simp
    ·have:=(f9.1 h2).1;omega
   ·refine(Any2.slices_Insert_string_grow Tryz.lays2_22 b 0 l.length m.cap i b2 0 1 _ (l.map encS) [encS t] w (by omega) (by omega) (by omega) (by omega) (by omega) (by simp) rfl hcs hvs h1c h1v).mono fun e w' ⟨he,hw⟩=>?_
    rw[show Tryz.lays2_22_ren.t 9=9 from rfl]at hw;generalize hw1:w.alloc (.cells (((l.map encS).take i).toArray++Builtin.zeroCells (Value.string ⟨#[]⟩).cells (l.length+1-i)++Builtin.zeroCells (Value.string ⟨#[]⟩).cells (grownCap w (l.length+1) m.cap 9-(l.length+1))) 9)=w1 at hw;have hsz1:w1.heap.size=w.heap.size+1:=(by rw[← hw1];simp);have ho1:Only w w1 (some b):=(by rw[← hw1];exact Only.alloc _ _ _);have hw':w'=((w1.drew.setCells w.heap.size i [encS t]).drew).setCells w.heap.size (i+1) ((l.map encS).drop i):=hw;have ho2:Only w1 w' (some w.heap.size):=(by rw[hw'];exact(((Only.drew _ _).trans (Only.setCells _ _ _ _)).trans (Only.drew _ _)).trans (Only.setCells _ _ _ _));have hc1:∀k,w1.cell? ⟨w.heap.size,k,none⟩=(((l.map encS).take i).toArray++Builtin.zeroCells (Value.string ⟨#[]⟩).cells (l.length+1-i)++Builtin.zeroCells (Value.string ⟨#[]⟩).cells (grownCap w (l.length+1) m.cap 9-(l.length+1)))[k]? :=by
     intro k;rw[← hw1];exact gU _ _ _ _
    have th1:∀k,k<l.length+1→(w1.cell? ⟨w.heap.size,k,none⟩).isSome=true:=by
     intro k hk;rw[hc1,O2 (by simp[size_zeroCells,Value.cells];omega)];rfl
    have th2:∀k,k<l.length+1→((w1.drew.setCells w.heap.size i [encS t]).drew.cell? ⟨w.heap.size,k,none⟩).isSome=true:=fun k hk=>dZ _ _ _ w1.drew _ (th1 k hk)
    refine⟨_,he,fin w' w.heap.size _ (Only.into ho1 ho2 (M0 _)) (.inr ⟨M0 _,by have:=ho2.size;omega⟩) hcg hcm fun j x hx=>?_⟩;rw[hw'];rcases iR l t i hi j x hx with⟨h1,h2⟩| ⟨rfl,rfl⟩| ⟨h1,h2⟩
    ·rw[U3 _ _ _ _ _ (fun _ _=>.inl (by simp;omega))];refine(U3 _ _ _ w1.drew _ (fun _ _=>.inl (by simp;omega))).trans ?_;refine(hc1 _).trans ?_;rw[Y0 (by simp;omega),Y0 (by simp;omega),S8,P9,N1 h1,M5,h2];rfl
    ·rw[U3 _ _ _ _ _ (fun _ _=>.inl (by simp))];have:=iC (w:=w1.drew) (b:=w.heap.size) (o:=j) (v:=encS x) (th1 j (by omega));simpa using this
    ·have hjl:=(f9.1 h2).1;have:=World.cell?_setCells_in w.heap.size ((l.map encS).drop i) (i+1) (w1.drew.setCells w.heap.size i [encS t]).drew (fun k hk=>by
      have hk2:k<l.length-i:=(by simpa using hk);exact th2 _ (by omega)) (j-1-i) (by simp;omega)
     rw[show i+1+(j-1-i)=0+j by omega]at this;rw[this];have e2:i+(j-1-i)=j-1:=(by omega);simp only[List.getElem_drop,List.getElem_map,e2];rw[(f9.1 h2).2]
theorem pu(a:AVal)(ha:a=.ez∨a=.nil (.slice none 0 0))(t:Bs)(v2:Nat)(rm:Bool)(h:Heap):
  Sat (CT G) 84 [a,.int .i64 0,.hs h.length v2 0 1 rm] (h++[Blk.row 9 1 v2 [.str t]]) (fun r h'=>r=.sl 1 [.str t]∧h'=h++[.dead]):=by
 intro B S μ w us fit rl;obtain⟨hul,hur⟩:=rl
 match us,hul,hur with
 | [u0,u1,u2],_,hur=>
  have r0:Rep w S μ a u0:=hur 0 _ rfl;have r1:Rep w S μ (.int .i64 0) u1:=hur 1 _ rfl;have r2:Rep w S μ (.hs h.length v2 0 1 rm) u2:=hur 2 _ rfl;obtain rfl:=r1.int_inv;have hg2:getRow (h++[Blk.row 9 1 v2 [.str t]]) h.length v2=some (9,1,[t].map .str):=by simp[getRow]
  obtain⟨m2,b2,cur2,hm2,hb2,hheap2,hsz2,hle2,hmax2,h02,rfl,hc2⟩:=iQ fit (by simp) hg2 r2;have hset:(h++[Blk.row 9 1 v2 [.str t]]).set h.length .dead=h++[.dead]:=by simp[List.set_append]
  obtain⟨base,rfl⟩:∃base,u0=.slice base 0 0:=by
   rcases ha with rfl|rfl
   ·cases r0 with|ez a=>exact⟨_,rfl⟩
   ·exact⟨none,r0.nil_inv⟩
  change OpOk Tryz.prog _ ((callFunc 84 #[_,_,_]).run Tryz.prog w)
  rw[cC (f:=84) Tryz.func84 rfl rfl];have hvs:∀j v,[encS t][j]? =some v→w.cell? ⟨b2,0+j,none⟩=some v:=by
   intro j v hv
   match j with
   |0=>simp at hv;subst hv;exact hc2 0 t rfl
   |j+1=>simp at hv
  have h1v:∀v∈ [encS t],v.oneCell'=true:=by intro v hv;simp at hv;subst hv;rfl
  have hcg:=grownCap_ge w (0+1) 0 9;have hcm:=grownCap_le_maxLen w (0+1) 0 9 (by decide);refine(Any2.slices_Insert_string_end_grow Tryz.lays2_22 base 0 0 b2 0 1 _ [] [encS t] w (by omega) (by omega) (by omega) (by omega) rfl rfl (fun _=>rfl)
   (fun a ha j v hv=>by simp at hv) hvs h1v).mono fun e w' ⟨he,hw⟩=>?_
  obtain⟨S',μ',st,f',rp⟩:=jw (ls:=[t]) (off:=0) (cap:=grownCap w (0+1) 0 9) (w':=w') fit hm2 (by rw[hw];exact(Only.drew w _).trans (Only.alloc _ _ _)) (g:=w.heap.size) (.inr ⟨M0 _,by rw[hw];simp⟩) hcg hcm (fun j x hx=>by
   rw[hw];refine(gU w.drew _ _ _).trans ?_
   match j with
   |0=>simp at hx;subst hx;rw[Y0 (by simp)];rfl
   |j+1=>simp at hx)
  rw[hset]at f';exact⟨_,he,_,_,S',μ',⟨rfl,rfl⟩,st,f',rp⟩
theorem sg(l:List Bs)(i v1:Nat)(hi:i<l.length)(hl:l.length≤100000)(h:Heap):
  Sat (CT G) 85 [.hs h.length v1 0 l.length true,.int .i64 i,.int .i64 (i+1)] (h++[Blk.row 9 1 v1 (l.map .str)])
   (fun r h'=>r=.sl 1 ((l.take i++l.drop (i+1)).map .str)∧h'=h++[.dead]):=by
 intro B S μ w us fit rl;obtain⟨hul,hur⟩:=rl
 match us,hul,hur with
 | [u0,u1,u2],_,hur=>
  have r0:Rep w S μ (.hs h.length v1 0 l.length true) u0:=hur 0 _ rfl;have r1:Rep w S μ (.int .i64 i) u1:=hur 1 _ rfl;have r2:Rep w S μ (.int .i64 (i+1)) u2:=hur 2 _ rfl;obtain rfl:=r1.int_inv;obtain rfl:=r2.int_inv;have hn:l≠ []:=by rintro rfl;simp at hi
  have hg0:getRow (h++[Blk.row 9 1 v1 (l.map .str)]) h.length v1=some (9,1,l.map .str):=by simp[getRow]
  obtain⟨m,b,cur,hm,hb,hheap,hsz,hle,hmax,h0,rfl,hc⟩:=iQ fit hn hg0 r0;simp only[↓reduceIte];have hset:(h++[Blk.row 9 1 v1 (l.map .str)]).set h.length .dead=h++[.dead]:=by simp[List.set_append]
  have mx:maxLen≤9223372036854775807:=by decide
  change OpOk Tryz.prog _ ((callFunc 85 #[_,_,_]).run Tryz.prog w)
  rw[cC (f:=85) Tryz.func85 rfl rfl];have hH:Go.Sort.Holds Go.Proofs.encStr w b 0 l.toArray:=by
   intro j hj;have hj':j<l.length:=(by simpa using hj);refine⟨?_,by simp[World.frozen?,hheap]⟩;rw[hc j l[j] (K6 hj')];simp[encS,Go.Proofs.encStr,hj']
  have hlen:(l.take i++l.drop (i+1)++List.replicate (i+1-i) ([]:List UInt8)).length=l.length:=by simp;omega
  refine(Tryz.slices_Delete_string b 0 m.cap i (i+1) l w hH hle (by omega) (by omega) (by omega)).mono fun e w' ⟨he,q,hw⟩=>?_
  obtain⟨S',μ',st,f',rp⟩:=jw (ls:=l.take i++l.drop (i+1)) (off:=0) (cap:=m.cap) (w':=w') fit hm (by rw[hw,hb];exact Only.trans (b:=Go.Sort.ahead w q) ⟨rfl,rfl,rfl,M0 _,fun _ _ _=>rfl⟩ (Only.putRow _ _ _ _ _)) (g:=b) (.inl hb) (by simp;omega) hmax (fun j x hx=>by
   rw[hw];have hjl:=(f9.1 hx).1;have hH2:Go.Sort.Holds Go.Proofs.encStr (Go.Sort.ahead w q) b 0 l.toArray:=hH;rw[Go.Sort.cell?_putRow _ _ _ _ l.toArray _ hH2 (by simpa using hlen) j (by rw[X1,K7];omega)];have hx2:(l.take i++l.drop (i+1)++List.replicate (i+1-i) ([]:List UInt8))[j]? =some x:=(by rw[L9 hjl];exact hx);have:(l.take i++l.drop (i+1)++List.replicate (i+1-i) ([]:List UInt8)).toArray[j]! =x:=by
    rw[getElem!_def,S8,hx2]
   rw[this];rfl)
  rw[hset]at f';have hl2:(l.take i++l.drop (i+1)).length=l.length-(i+1-i):=by simp;omega
  rw[hl2]at rp;exact⟨_,he,_,_,S',μ',⟨rfl,rfl⟩,st,f',rp⟩
end
section
attribute [local irreducible] WP WPl WPix Sat
variable (G:Nat→Option (List AVal))
theorem fY(h:Heap):Sat (CT G) 83 [.sl 1 []] h (fun r h'=>(r=.ez∨r=.nil (.slice none 0 0))∧h'=h):=by
 refine sb [.tmp 2] Tryz.func83 ?_;intro Q hQ;refine wk trivial ?_;refine jN _ (by exact zq trivial) (.inl rfl) fun b=>?_
 cases b
 ·try refine sq trivial ?_
  refine wk trivial ?_;refine gf (.inl rfl) (by simp(disch:=first|omega| (simp only[go_sem, ↓reduceIte,seval];first|done|omega)|fail) only[go_sem, ↓reduceIte,seval];rfl) (by simp(disch:=first|omega| (simp only[go_sem, ↓reduceIte,seval];first|done|omega)|fail) only[go_sem, ↓reduceIte,seval];rfl) (by simp(disch:=first|omega| (simp only[go_sem, ↓reduceIte,seval];first|done|omega)|fail) only[go_sem, ↓reduceIte,seval];rfl) (by simp(disch:=first|omega| (simp only[go_sem, ↓reduceIte,seval];first|done|omega)|fail) only[go_sem, ↓reduceIte,seval];try rfl) (by omega) (by simp only[elemsOf, ↓reduceIte];try rfl) (by simp) (fun _=>?_) (fun h=>absurd rfl h);try refine sq trivial ?_
  refine wk trivial ?_;refine ee hQ trivial ?_;exact O9 .ez ⟨.inl rfl,rfl⟩
 ·try refine sq trivial ?_
  refine wk trivial ?_;refine ee hQ trivial ?_;exact O9 (.nil _) ⟨.inr rfl,rfl⟩
theorem sh(l:List Bs)(hn:l≠ [])(hl:l.length≤1048576)(h:Heap):Sat (CT G) 83 [.sl 1 (l.map .str)] h (fun r h'=>r=.hs h.length 0 0 l.length true∧h'=h++[Blk.row 9 1 0 (l.map .str)]):=by
 obtain⟨a,l,rfl⟩:∃a k,l=a::k:=by
  cases l with
  |nil=>exact absurd rfl hn
  |cons a k=>exact⟨a,k,rfl⟩
 have hr:(List.map AVal.str (a::l))≠ []:=by simp
 refine sb [.tmp 2] Tryz.func83 ?_;intro Q hQ;refine wk trivial ?_;refine gf (.inl rfl) (by simp(disch:=first|omega| (simp only[go_sem, ↓reduceIte,seval];first|done|omega)|fail) only[go_sem, ↓reduceIte,seval];rfl) (by simp(disch:=first|omega| (simp only[go_sem, ↓reduceIte,seval];first|done|omega)|fail) only[go_sem, ↓reduceIte,seval];rfl) (by simp(disch:=first|omega| (simp only[go_sem, ↓reduceIte,seval];first|done|omega)|fail) only[go_sem, ↓reduceIte,seval];rfl) (by simp(disch:=first|omega| (simp only[go_sem, ↓reduceIte,seval];first|done|omega)|fail) only[go_sem, ↓reduceIte,seval];try rfl) (by omega) (by simp only[elemsOf, ↓reduceIte];try rfl) ?_ (fun h=>by simp at h) (fun _=>?_)
 ·simp[maxLen]at hl ⊢;omega
 try refine sq trivial ?_
 refine wk trivial ?_;refine ee hQ trivial ?_;exact za3 (by simp) (.hs _ _ _ _ _ (by simp)) ⟨rfl,rfl⟩
section
variable {H:Heap} {n:Nat} {s:PS}
theorem si(hn:n+9≤H.length)(x:Blk)(a:AVal)(ha:a=.ez∨a=.nil (.slice none 0 0))(t:Bs):Sat (CT G) 84 [a,.int .i64 0,.hs (H.length+1) 0 0 1 true] (so (H++[x,Blk.row 9 1 0 [.str t]]) n s)
  (fun r h'=>r=.sl 1 [.str t]∧h'=so (H++[x,.dead]) n s):=by
 have c:=pu G a ha t 0 true (so (H++[x]) n s);have hn1:n+9≤(H++[x]).length:=by simp;omega
 rw[aQ hn1,bD hn1,bD hn1]at c;simpa using c
theorem u9(hn:n+9≤H.length)(x:Blk)(l:List Bs)(t:Bs)(hl0:l≠ [])(hl:l.length≤100000):Sat (CT G) 84 [.hs (H.length+1) 0 0 l.length true,.int .i64 (lbF l t),.hs (H.length+2) 0 0 1 true] (so (H++[x,Blk.row 9 1 0 (l.map .str),Blk.row 9 1 0 [.str t]]) n s)
  (fun r h'=>r=.sl 1 ((l.take (lbF l t)++t::l.drop (lbF l t)).map .str)∧h'=so (H++[x,.dead,Blk.row 9 1 0 [.str t]]) n s):=by
 have c:=sf G l t (lbF l t) 0 0 true (o1 l t) hl0 hl (so (H++[x]) n s);have hn1:n+9≤(H++[x]).length:=by simp;omega
 rw[aQ hn1,bD hn1,bD hn1]at c;simpa using c
theorem ua(hn:n+9≤H.length)(x:Blk)(l:List Bs)(i:Nat)(hi:i<l.length)(hl:l.length≤100000):Sat (CT G) 85 [.hs (H.length+1) 0 0 l.length true,.int .i64 i,.int .i64 (i+1)] (so (H++[x,Blk.row 9 1 0 (l.map .str)]) n s)
  (fun r h'=>r=.sl 1 ((l.take i++l.drop (i+1)).map .str)∧h'=so (H++[x,.dead]) n s):=by
 have c:=sg G l i 0 hi hl (so (H++[x]) n s);have hn1:n+9≤(H++[x]).length:=by simp;omega
 rw[aQ hn1,bD hn1,bD hn1]at c;simpa using c
theorem ci{s':PS}{j:Heap}{R:AVal→Heap→Prop}{r0 r:AVal}(hn:n+9≤H.length)(hz:Frz (so (H++j) n s') H.length r0 r)(hR:R r (so H n s')):Fin (so H n s) (so (H++j) n s') R r0:=gv hn rfl (PS.clo hn s') hz hR
theorem kp(hn:n+9≤H.length)(x:Blk)(l:List Bs):Frz (so (H++[x,Blk.row 9 1 0 (l.map .str)]) n s) H.length (.hs (H.length+1) 0 0 l.length true) (.sl 1 (l.map .str)):=by
 have hg:getRow (so (H++[x,Blk.row 9 1 0 (l.map .str)]) n s) (H.length+1) 0=some (9,1,l.map .str):=by
  rw[bM (by simp;omega) 0 (by omega)];simp[getRow]
 have:=Z5 (n:=H.length) (len:=l.length) (room:=true) (by omega) hg (by simp) (fun r hr=>by obtain⟨a,_,rfl⟩:=M7.1 hr;exact .str _) (fun r hr c hc=>by obtain⟨a,_,rfl⟩:=M7.1 hr;simp[AVal.cells]at hc;subst hc;rfl);simpa using this
theorem di(hn:n+9≤H.length)(x:Blk)(l:List Bs)(hl0:l≠ [])(hl:l.length≤1048576):Sat (CT G) 83 [.sl 1 (l.map .str)] (so (H++[x]) n s)
  (fun r h'=>r=.hs (H.length+1) 0 0 l.length true∧h'=so (H++[x,Blk.row 9 1 0 (l.map .str)]) n s):=by
 have c:=sh G l hl0 hl (so (H++[x]) n s);have hn1:n+9≤(H++[x]).length:=by simp;omega
 rw[aQ hn1,bD hn1]at c;simpa using c
end
theorem mt(s:PS)(id:Int)(t:Bs)(hs:Srt ((lkM s.it id).getD It.z).tags)(hl:((lkM s.it id).getD It.z).tags.length≤100000){H:Heap}{n:Nat}(hn:n+9≤H.length):Sat (CT G) 82 [.hp (n+8) 0 0 0,.int .i64 id,.str t] (so H n s) (fun r h'=>r=.tup [.int .i64 (lbF ((lkM s.it id).getD It.z).tags t),.bool (decide (t∈ ((lkM s.it id).getD It.z).tags))]∧h'=so H n s):=by
 refine sb [.tmp 6,.tmp 7] Tryz.func82 ?_;intro Q hQ;refine wk trivial ?_;refine kq trivial (mT G _ t hs hl _) ?_;refine ye hQ trivial ?_;exact bm hn (.tup _ (fun x hx=>by simp only[N0,T8,or_false]at hx;rcases hx with rfl|rfl;exact .int _ _;exact .bool _)) ⟨rfl,rfl⟩
def tgF(l:List Bs)(t:Bs)(n:Int):List Bs:=
 if n=1∧t ∉ l then l.take (lbF l t)++t::l.drop (lbF l t)else if n=0∧t∈l then l.take (lbF l t)++l.drop (lbF l t+1)else l
theorem o2(s:PS)(e:Ev)(hs:Srt ((lkM s.it e.a).getD It.z).tags)(hl:((lkM s.it e.a).getD It.z).tags.length≤100000){H:Heap}{n:Nat}(hn:n+9≤H.length):Sat (CT G) 41 [.hp (n+8) 0 0 0,e.av] (so H n s) (fun r h'=>r=.sl 1 ((tgF ((lkM s.it e.a).getD It.z).tags e.s e.n).map .str)∧h'=so H n s):=by
 have hT:=fun(H:Heap) (hn:n+9≤H.length)=>mt G s e.a e.s hs hl (n:=n) hn
 have hn1:∀x:Blk,n+9≤(H++[x]).length:=fun x=>by simp;omega
 generalize hg:((lkM s.it e.a).getD It.z).tags=l at hs hl hT ⊢;by_cases hn0:l=[]
 ·subst hn0;have ht:lbF [] e.s=0:=rfl;have hd:decide (e.s∈ ([]:List Bs))=false:=by simp
  rw[ht,hd]at hT;by_cases k1:e.n=1
  ·have F:=k1
   skip
   refine sb [.tmp 4] Tryz.func41 ?_;intro Q hQ;refine wn F ?_;refine bW 8 0 _ (by rfl) (by decide+kernel) (by kernel_rfl) (by decide+kernel) (by decide+kernel) (by decide+kernel) ?_;simp only[P0,Q8];refine sq F ?_;refine wn F ?_;rw[hg];refine(fY G _).mono ?_;rintro r h' ⟨hr,rfl⟩;simp(disch:=first|omega| (simp only[go_sem, ↓reduceIte,seval];first|done|omega)|fail) only[go_sem, ↓reduceIte,seval,F]
   skip
   refine wk F ?_
   skip
   refine kx F (hT _ (by first|omega| (simp;omega))) ?_;refine kx F (si G hn _ r hr e.s) ?_
   skip
   refine ee hQ F ?_;exact au hn (.sl _ _ (by simp;exact .str _)) ⟨by simp[tgF,k1],rfl⟩
  ·by_cases k0:e.n=0
   ·have F:=k0
    skip
    refine sb [.tmp 4] Tryz.func41 ?_;intro Q hQ;refine wn F ?_;refine bW 8 0 _ (by rfl) (by decide+kernel) (by kernel_rfl) (by decide+kernel) (by decide+kernel) (by decide+kernel) ?_;simp only[P0,Q8];refine sq F ?_;refine wn F ?_;rw[hg];refine(fY G _).mono ?_;rintro r h' ⟨hr,rfl⟩;simp(disch:=first|omega| (simp only[go_sem, ↓reduceIte,seval];first|done|omega)|fail) only[go_sem, ↓reduceIte,seval,F]
    skip
    refine wk F ?_;refine kq F (hT _ (by first|omega| (simp;omega))) ?_;refine ee hQ F ?_;refine ci (r:=.sl 1 []) hn ?_ ⟨by simp[tgF,k0,k1],rfl⟩;rcases hr with rfl|rfl
    ·exact .ezs _
    ·exact .nils _
   ·have n1:(e.n==1)=false:=(by simp[k1]);have n0:(e.n==0)=false:=(by simp[k0]);have F:=F2 n1 n0
    skip
    refine sb [.tmp 4] Tryz.func41 ?_;intro Q hQ;refine wn F ?_;refine bW 8 0 _ (by rfl) (by decide+kernel) (by kernel_rfl) (by decide+kernel) (by decide+kernel) (by decide+kernel) ?_;simp only[P0,Q8];refine sq F ?_;refine wn F ?_;rw[hg];refine(fY G _).mono ?_;rintro r h' ⟨hr,rfl⟩;simp(disch:=first|omega| (simp only[go_sem, ↓reduceIte,seval];first|done|omega)|fail) only[go_sem, ↓reduceIte,seval,F]
    skip
    refine wk F ?_;refine kq F (hT _ (by first|omega| (simp;omega))) ?_;refine ee hQ F ?_;refine ci (r:=.sl 1 []) hn ?_ ⟨by simp[tgF,k0,k1],rfl⟩;rcases hr with rfl|rfl
    ·exact .ezs _
    ·exact .nils _
 ·by_cases km:e.s∈l
  ·have hd:decide (e.s∈l)=true:=(by simp[km]);rw[hd]at hT;have hlt:lbF l e.s<l.length:=(f9.1 (qp hs km)).1;by_cases k0:e.n=0
   ·have F:=k0
    skip
    refine sb [.tmp 4] Tryz.func41 ?_;intro Q hQ;refine wn F ?_;refine bW 8 0 _ (by rfl) (by decide+kernel) (by kernel_rfl) (by decide+kernel) (by decide+kernel) (by decide+kernel) ?_;simp only[P0,Q8];refine sq F ?_;refine wn F ?_;rw[hg];refine(di G hn _ l hn0 (by omega)).mono ?_;rintro r h' ⟨rfl,rfl⟩;try refine sq F ?_
    skip
    refine wk F ?_;refine kq F (hT _ (by first|omega| (simp;omega))) ?_;refine kq F (ua G hn _ l (lbF l e.s) hlt hl) ?_;refine ee hQ F ?_;exact au hn (ju _ _) ⟨by simp[tgF,k0,km],rfl⟩
   ·by_cases k1:e.n=1
    ·have F:=k1
     skip
     refine sb [.tmp 4] Tryz.func41 ?_;intro Q hQ;refine wn F ?_;refine bW 8 0 _ (by rfl) (by decide+kernel) (by kernel_rfl) (by decide+kernel) (by decide+kernel) (by decide+kernel) ?_;simp only[P0,Q8];refine sq F ?_;refine wn F ?_;rw[hg];refine(di G hn _ l hn0 (by omega)).mono ?_;rintro r h' ⟨rfl,rfl⟩;try refine sq F ?_
     skip
     refine wk F ?_;refine kq F (hT _ (by first|omega| (simp;omega))) ?_;refine ee hQ F ?_;exact ci hn (kp hn _ l) ⟨by simp[tgF,k1,km],rfl⟩
    ·have n1:(e.n==1)=false:=(by simp[k1]);have n0:(e.n==0)=false:=(by simp[k0]);have F:=F2 n1 n0
     skip
     refine sb [.tmp 4] Tryz.func41 ?_;intro Q hQ;refine wn F ?_;refine bW 8 0 _ (by rfl) (by decide+kernel) (by kernel_rfl) (by decide+kernel) (by decide+kernel) (by decide+kernel) ?_;simp only[P0,Q8];refine sq F ?_;refine wn F ?_;rw[hg];refine(di G hn _ l hn0 (by omega)).mono ?_;rintro r h' ⟨rfl,rfl⟩;try refine sq F ?_
     skip
     refine wk F ?_;refine kq F (hT _ (by first|omega| (simp;omega))) ?_;refine ee hQ F ?_;exact ci hn (kp hn _ l) ⟨by simp[tgF,k1,k0,km],rfl⟩
  ·have hd:decide (e.s∈l)=false:=(by simp[km]);rw[hd]at hT;by_cases k1:e.n=1
   ·have F:=k1
    skip
    refine sb [.tmp 4] Tryz.func41 ?_;intro Q hQ;refine wn F ?_;refine bW 8 0 _ (by rfl) (by decide+kernel) (by kernel_rfl) (by decide+kernel) (by decide+kernel) (by decide+kernel) ?_;simp only[P0,Q8];refine sq F ?_;refine wn F ?_;rw[hg];refine(di G hn _ l hn0 (by omega)).mono ?_;rintro r h' ⟨rfl,rfl⟩;try refine sq F ?_
    skip
    refine wk F ?_
    skip
    refine kx F (hT _ (by first|omega| (simp;omega))) ?_;refine kx F (u9 G hn _ l e.s hn0 hl) ?_
    skip
    refine ee hQ F ?_;exact au hn (ju _ _) ⟨by simp[tgF,k1,km],rfl⟩
   ·by_cases k0:e.n=0
    ·have F:=k0
     skip
     refine sb [.tmp 4] Tryz.func41 ?_;intro Q hQ;refine wn F ?_;refine bW 8 0 _ (by rfl) (by decide+kernel) (by kernel_rfl) (by decide+kernel) (by decide+kernel) (by decide+kernel) ?_;simp only[P0,Q8];refine sq F ?_;refine wn F ?_;rw[hg];refine(di G hn _ l hn0 (by omega)).mono ?_;rintro r h' ⟨rfl,rfl⟩;try refine sq F ?_
     skip
     refine wk F ?_;refine kq F (hT _ (by first|omega| (simp;omega))) ?_;refine ee hQ F ?_;exact ci hn (kp hn _ l) ⟨by simp[tgF,k0,km],rfl⟩
    ·have n1:(e.n==1)=false:=(by simp[k1]);have n0:(e.n==0)=false:=(by simp[k0]);have F:=F2 n1 n0
     skip
     refine sb [.tmp 4] Tryz.func41 ?_;intro Q hQ;refine wn F ?_;refine bW 8 0 _ (by rfl) (by decide+kernel) (by kernel_rfl) (by decide+kernel) (by decide+kernel) (by decide+kernel) ?_;simp only[P0,Q8];refine sq F ?_;refine wn F ?_;rw[hg];refine(di G hn _ l hn0 (by omega)).mono ?_;rintro r h' ⟨rfl,rfl⟩;try refine sq F ?_
     skip
     refine wk F ?_;refine kq F (hT _ (by first|omega| (simp;omega))) ?_;refine ee hQ F ?_;exact ci hn (kp hn _ l) ⟨by simp[tgF,k1,k0,km],rfl⟩
theorem zt(h:Heap)(s:PS):h++s.bl h.length=so (h++PS.z.bl h.length) h.length s:=by
 have:=tP h (s.bl h.length) [];rw[O1]at this;rw[this];unfold so;have hz:ov (h++PS.z.bl h.length) h.length (PS.z.bl h.length)=h++PS.z.bl h.length:=by
  have:=tP h (PS.z.bl h.length) [];rw[O1]at this;exact this.symm
 apply S7
 intro p;rw[bC (by simp),bC (by simp[PS.bl])];split
 ·rfl
 ·rename_i hp;rcases T3 p h.length with h1|h1
  ·rw[L9 h1,L9 h1]
  ·rw[M1 h1,M1 h1,P5 (by simp[PS.bl]at hp ⊢;omega),P5 (by simp[PS.bl]at hp ⊢;omega)]
@[go_sem] theorem FU(p:Nat):(AVal.hm p).cells=[.hm p]:=(rfl)
@[go_sem] theorem Il(p:Nat):(AVal.hm p).lies=true:=(rfl)
theorem mu(h:Heap):Sat (CT G) 30 [] h (fun r h'=>r=.hp (h.length+8) 0 0 0∧h'=so (h++PS.z.bl h.length) h.length PS.z):=by
 rw[← zt];refine sb [.tmp 0] Tryz.func30 ?_;intro Q hQ;refine wk trivial ?_;refine ee hQ trivial ?_;refine za3 (by simp) (.hp _ _ _ _ (by simp)) ⟨rfl,?_⟩;simp[PS.bl,PS.z,encM,PS.row]
theorem sj(es:List Ev)(hl:es.length≤1048576)(I:PS→Prop)(okF:PS→Ev→Bool)(stp:PS→Ev→PS)(hI0:I PS.z)(hI:∀s e,e∈es→I s→I (stp s e))
  (hA:∀s e,e∈es→I s→∀(n:Nat) (H:Heap),n+9≤H.length→Sat (CT G) 13 [.hp (n+8) 0 0 0,e.av] (so H n s) (fun r h'=>r=.bool (okF s e)∧h'=so H n (stp s e)))(h:Heap):
  Sat (CT G) 11 [.sl 7 (es.map Ev.av)] h (fun r h'=>r=.hp (h.length+8) 0 0 0∧h'=so (h++PS.z.bl h.length) h.length (es.foldl stp PS.z)):=by
 have hIk:∀k,I ((es.take k).foldl stp PS.z):=by
  intro k;induction k with
  |zero=>exact hI0
  |succ k ih=>
   rw[O7,List.foldl_append];cases he:es[k]? with
   |none=>exact ih
   |some e=>exact hI _ _ (M3 he) ih
 have hz9:(PS.z.bl h.length).length=9:=rfl;generalize hH:h++PS.z.bl h.length=H0;have hl0:h.length+9≤H0.length:=by rw[← hH];simp[hz9]
 have hN:=mu G h;rw[hH]at hN;refine sb [.tmp 2] Tryz.func11 ?_;intro Q hQ;refine wk trivial ?_;refine kq trivial (hN) ?_;refine lm (fun nL tL hL=>∃(k:Nat) (j:Heap),es.length-k=nL∧so (H0++j) h.length ((es.take k).foldl stp PS.z)=hL∧tL 3=.hp (h.length+8) 0 0 0∧tL 7=.sl 7 (es.map Ev.av)∧tL 8=.int .i64 es.length∧tL 9=.int .i64 k∧k≤es.length) ((fun(k:Nat) (j:Heap)=>(es.length-k:Nat)) (0) ([])) ?_ ?_
 ·refine L8 ⟨0,[],rfl,aw,?_,?_,?_,?_,by omega⟩;all_goals try exact zZz trivial
 rintro _ s2 h' ⟨k,j,rfl,rfl,e3,e7,e8,e9,hk⟩ K2 hK2;simp only[ah,ao,Nat.reduceEqDiff, ↓reduceIte]at e3 e7 e8 e9;have F:=F4 e3 e7 e8 e9;refine wk F ?_;have hn1:h.length+9≤(H0++j).length:=by simp;omega
 refine cq F (fun c1=>?_) (fun c1=>?_)<;>(try exact c1.elim)<;>(refine wk F ?_)
 ·have c2:k<es.length:=by omega
  obtain⟨e,he⟩:∃e,es[k]? =some e:=⟨es[k],K6 c2⟩;have hem:=M3 he;have F:=F3 F c2 he;try refine sq F ?_
  refine wk F ?_;refine kq F (hA _ e hem (hIk k) _ _ (by first|omega| (simp;omega))) ?_;have ht:(es.take (k+1)).foldl stp PS.z=stp ((es.take k).foldl stp PS.z) e:=by rw[O7,List.foldl_append,he];rfl
  refine hK2 _ _ _ (L8 ⟨k+1,j++[.row 34 7 0 [e.av]],rfl,by rw[ht];rfl,?_,?_,?_,?_,by omega⟩) (by omega);all_goals try exact zZz F
 ·have hk2:k=es.length:=by omega
  subst hk2;have htk:es.take es.length=es:=Y3;rw[htk];refine wk F ?_;refine ee hQ F ?_;rw[← bD hl0];refine Fin.upto (by rw[aQ hl0];omega) ?_ (.hp _ _ _ _ (by rw[aQ hl0];omega)) ⟨rfl,rfl⟩;rw[aQ hl0];have:=zt h (es.foldl stp PS.z);rw[hH]at this;rw[← this];exact(KeepC.refl h _).app (PS.clo hl0 _)
end
section
section
variable {κ α:Type} [DecidableEq κ]
def sumM(w:α→Int):ML κ α→Int
 | []=>0
 |e::l=>w e.2.1+sumM w l
def atM(w:α→Int):Option α→Int
 |none=>0
 |some a=>w a
theorem iS(w:α→Int)(l:ML κ α)(c:Nat)(x:κ)(a:α):sumM w (upM l c x a)=sumM w l+w a-atM w (lkM l x):=by
 induction l with
 |nil=>simp[upM,sumM,lkM,atM]
 |cons e l ih=>
  simp only[upM,lkM];split
  ·simp only[sumM,atM];omega
  ·simp only[sumM,ih];omega
theorem qq(w:α→Int)(l:ML κ α)(x:κ):sumM w (dlM l x)=sumM w l-atM w (lkM l x):=by
 induction l with
 |nil=>simp[dlM,sumM,lkM,atM]
 |cons e l ih=>
  simp only[dlM,lkM];split
  ·simp only[sumM,atM];omega
  ·simp only[sumM,ih];omega
omit [DecidableEq κ] in
theorem cN{w:α→Int}(h:∀a,0≤w a)(l:ML κ α):0≤sumM w l:=by
 induction l with
 |nil=>simp[sumM]
 |cons e l ih=>have:=h e.2.1;simp only[sumM];omega
omit [DecidableEq κ] in
theorem iT{w:α→Int}(h:∀a,w a≤1)(l:ML κ α):sumM w l≤l.length:=by
 induction l with
 |nil=>simp[sumM]
 |cons e l ih=>have:=h e.2.1;simp only[sumM,L6];omega
theorem wz{w:α→Int}(h:∀a,0≤w a)(l:ML κ α)(x:κ):atM w (lkM l x)≤sumM w l:=by
 induction l with
 |nil=>simp[sumM,lkM,atM]
 |cons e l ih=>
  have h1:=h e.2.1;have h2:=cN h l;simp only[lkM];split
  ·simp only[sumM,atM];omega
  ·simp only[sumM];omega
theorem o3{w:α→Int}(h:∀a,0≤w a){l:ML κ α}(h0:sumM w l≤0){x:κ}{a:α}(hx:lkM l x=some a):w a=0:=by
 have:=wz h l x;rw[hx]at this;have:=h a;simp only[atM]at *;omega
end
def inFo(id:Int)(f:Fo):Int:=if f.inn=id then 1 else 0
def inFe(id:Int)(f:Fe):Int:=if f.inn=id then 1 else 0
theorem gw(id:Int)(f:Fo):0≤inFo id f:=by unfold inFo;split<;>omega
theorem gx(id:Int)(f:Fe):0≤inFe id f:=by unfold inFe;split<;>omega
theorem qr(id:Int)(f:Fo):inFo id f≤1:=by unfold inFo;split<;>omega
theorem qv(id:Int)(f:Fe):inFe id f≤1:=by unfold inFe;split<;>omega
theorem iD{l:ML Int Fo}:∀{k:Nat} {id:Int} {d:Nat},deepO l k id=some d→∀{k':Nat},d≤k'→deepO l k' id=some d:=by
 intro k;induction k with
 |zero=>
  intro id d h k' hk;rw[deepO]at h;cases hl:lkM l id with
  |none=>
   rw[hl]at h;simp at h;subst h;cases k' with
   |zero=>rw[deepO,hl];simp
   |succ k'=>rw[deepO,hl]
  |some f=>rw[hl]at h;simp at h
 |succ k ih=>
  intro id d h k' hk;rw[deepO]at h;cases hl:lkM l id with
  |none=>
   rw[hl]at h;simp at h;subst h;cases k' with
   |zero=>rw[deepO,hl];simp
   |succ k'=>rw[deepO,hl]
  |some f=>
   rw[hl]at h;simp only[N3]at h;obtain⟨j,hj,rfl⟩:=h;obtain⟨k'',rfl⟩:∃k'',k'=k''+1:=⟨k'-1,by omega⟩;rw[deepO,hl];simp only[ih hj (k':=k'') (by omega),Q3]
theorem jd{l l':ML Int Fo}(P:Int→Prop)(h:∀id,P id→lkM l' id=lkM l id)(hc:∀id f,P id→lkM l id=some f→P f.inn):∀(k:Nat) (id:Int),P id→deepO l' k id=deepO l k id:=by
 intro k;induction k with
 |zero=>intro id hp;rw[deepO,deepO,h id hp]
 |succ k ih=>
  intro id hp;rw[deepO,deepO,h id hp];cases hl:lkM l id with
  |none=>rfl
  |some f=>simp only[ih f.inn (hc id f hp hl)]
structure PS.Inv (s:PS):Prop where
 w1:WFM s.fo s.c1
 w2:WFM s.fe s.c2
 w3:WFM s.it s.c3
 w4:WFM s.se s.c4
 w7:WFM s.gu s.c7
 w8:WFM s.he s.c8
 i1:∀k f,lkM s.fo k=some f→f.id=k∧1≤k∧k≤1048576
 i2:∀k f,lkM s.fe k=some f→f.id=k∧1≤k∧k≤1048576
 i3:∀k t,lkM s.it k=some t→t.id=k∧1≤k∧k≤1048576
 i4:∀k q,lkM s.se k=some q→q.id=k∧1≤k∧k≤1048576
 u1:∀k f,lkM s.fo k=some f→f.inn=0∨(lkM s.fo f.inn).isSome=true
 u2:∀k f,lkM s.fe k=some f→f.inn=0∨(lkM s.fo f.inn).isSome=true
 u3:∀k t,lkM s.it k=some t→(lkM s.fe t.feed).isSome=true
 dp:∀id,∃d,d≤7∧deepO s.fo 7 id=some d
 hd:∀id,id≠0→(lkM s.he id).getD 0=sumM (inFo id) s.fo+sumM (inFe id) s.fe
 h0:lkM s.he 0=none
 tg:∀k t,lkM s.it k=some t→Srt t.tags∧t.tags.length≤8
 l1:s.fo.length≤64
 l2:s.fe.length≤64
 l3:s.it.length≤1024
 l4:s.se.length≤32
theorem PS.Inv.z:PS.z.Inv where
 w1:=.nil
 w2:=.nil
 w3:=.nil
 w4:=.nil
 w7:=.nil
 w8:=.nil
 i1:=fun _ _ h=>by cases h
 i2:=fun _ _ h=>by cases h
 i3:=fun _ _ h=>by cases h
 i4:=fun _ _ h=>by cases h
 u1:=fun _ _ h=>by cases h
 u2:=fun _ _ h=>by cases h
 u3:=fun _ _ h=>by cases h
 dp:=fun _=>⟨0,by omega,rfl⟩
 hd:=fun _ _=>rfl
 h0:=rfl
 tg:=fun _ _ h=>by cases h
 l1:=by simp[PS.z]
 l2:=by simp[PS.z]
 l3:=by simp[PS.z]
 l4:=by simp[PS.z]
theorem PS.Inv.few{s:PS}(h:s.Inv):s.few:=by
 intro id;by_cases h0:id=0
 ·subst h0;rw[h.h0];simp
 ·have h1:=h.hd id h0;have h2:=cN (gw id) s.fo;have h3:=cN (gx id) s.fe;have h4:=iT (qr id) s.fo;have h5:=iT (qv id) s.fe;have h6:=h.l1;have h7:=h.l2;omega
def heF(he:ML Int Int)(c:Nat)(id k:Int):ML Int Int:=if id=0 then he else upM he c id ((lkM he id).getD 0+k)
def chF(he:ML Int Int)(c:Nat)(id:Int):Nat:=if id=0 then c else ckM he c id
theorem aP(s:PS)(id k:Int):s.hold id k= {s with he:=heF s.he s.c8 id k,c8:=chF s.he s.c8 id}:=by
 unfold PS.hold heF chF;split<;>rfl
theorem fB(he:ML Int Int)(c:Nat)(id k x:Int):(lkM (heF he c id k) x).getD 0=(lkM he x).getD 0+(if x=id∧id≠0 then k else 0):=by
 unfold heF;by_cases h:id=0
 ·rw[L7 h,K4 (by omega)];omega
 ·rw[K4 h,aY];by_cases hx:x=id
  ·subst hx;rw[L7 rfl,L7 ⟨rfl,h⟩];rfl
  ·rw[K4 hx,K4 (by omega)];omega
theorem iU{he:ML Int Int}(c:Nat)(id k:Int)(h:lkM he 0=none):lkM (heF he c id k) 0=none:=by
 unfold heF;split
 ·exact h
 ·rename_i h1;rw[aY,K4 (fun e=>h1 e.symm)];exact h
theorem gy{he:ML Int Int}{c:Nat}(w:WFM he c)(id k:Int):WFM (heF he c id k) (chF he c id):=by
 unfold heF chF;split
 ·exact w
 ·exact w.up _ _
theorem wA{s:PS}(h:s.Inv)(id k:Int)(hk: -1≤k∧k≤1):(s.hold id k).few:=by
 intro x;have h1:=fB s.he s.c8 id k x;rw[aP];simp only;have h6:=h.l1;have h7:=h.l2;have h2:=cN (gw x) s.fo;have h3:=cN (gx x) s.fe;have h4:=iT (qr x) s.fo;have h5:=iT (qv x) s.fe;by_cases h0:x=0
 ·subst h0;rw[h1,h.h0];simp only[Option.getD_none];split<;>omega
 ·have:=h.hd x h0;rw[h1];split<;>omega
def PS.dpt(s:PS)(id:Int):Nat:=(deepO s.fo 7 id).getD 0
def PS.ok(L:Leaf)(s:PS)(e:Ev):Bool:=s.fits (L.ck e) (s.dpt e.b) e
def PS.aft(s:PS)(e:Ev):PS:=s.after (tgF ((lkM s.it e.a).getD It.z).tags e.s e.n) e
def PS.step(L:Leaf)(s:PS)(e:Ev):PS:=if s.ok L e then s.aft e else s
theorem fC{L:Leaf}{e:Ev}(h:L.right e=true)(hk:e.kind≠13):1≤e.a∧e.a≤1048576:=by
 have:idF e.a=true:=by
  unfold Leaf.right at h;repeat' (split at h)
  all_goals first| (simp only[K5]at h;exact h.1)|exact h|omega| (cases h)
 simpa [idF]using this
theorem yf{l:List Bs}{t:Bs}(hs:Srt l)(ht:t ∉ l):Srt (l.take (lbF l t)++t::l.drop (lbF l t)):=by
 induction l with
 |nil=>simp[lbF,Srt]
 |cons a l ih=>
  have hs':=hs;unfold Srt at hs;rw[V0]at hs;rw[fA];split
  ·rename_i hat;simp only[P0,X7,Q7];unfold Srt;rw[V0];refine⟨fun x hx=>?_,ih hs.2 (fun h=>ht (Q1 _ h))⟩;rw[R4,N0]at hx;rcases hx with h|rfl|h
   ·exact hs.1 x (V7 h)
   ·exact hat
   ·exact hs.1 x (List.mem_of_mem_drop h)
  ·rename_i hat;simp only[Q8,W3,O5];have hat':Op.bytesLess a t=false:=(by simpa using hat);have hta:Op.bytesLess t a=true:=by
    cases h:Op.bytesLess t a with
    |true=>rfl
    |false=>exact(ht (by rw[o0 t a h hat'];exact S9 ..)).elim
   unfold Srt;rw[V0];refine⟨fun x hx=>?_,hs'⟩;rcases N0.1 hx with rfl|h
   ·exact hta
   ·exact fy hta (hs.1 x h)
theorem yg{l:List Bs}(hs:Srt l)(i:Nat):Srt (l.take i++l.drop (i+1)):=by
 rw[← List.eraseIdx_eq_take_drop_succ];exact hs.sublist (List.eraseIdx_sublist l i)
theorem yh{l:List Bs}(hs:Srt l)(t:Bs)(n:Int):Srt (tgF l t n):=by
 unfold tgF;split
 ·rename_i h;exact yf hs h.2
 ·split
  ·exact yg hs _
  ·exact hs
theorem yi{l:List Bs}(t:Bs)(n:Int)(hl:l.length≤8)(h:n=0∨t∈l∨l.length<8):(tgF l t n).length≤8:=by
 have:=o1 l t;unfold tgF;split
 ·rename_i h1;simp only[K7,L6,O3,O8];rcases h with h|h|h
  ·omega
  ·exact(h1.2 h).elim
  ·omega
 ·split
  ·simp only[K7,O3,O8];omega
  ·exact hl
end
section
attribute [local irreducible] WP WPl WPix Sat
variable (G:Nat→Option (List AVal))
structure St where
 clock:Int
 fo:List Fo
 fe:List Fe
 it:List It
 se:List Se
 t1:Int
 t2:Int
 t3:Int
 t4:Int
def St.av(x:St):AVal:=.agg [.int .i64 x.clock,.sl 3 (x.fo.map Fo.av),.sl 4 (x.fe.map Fe.av),.sl 9 (x.it.map It.av),.sl 3 (x.se.map Se.av),.int .i64 x.t1,.int .i64 x.t2,.int .i64 x.t3,.int .i64 x.t4]
@[go_sem] theorem St.av_eq(x:St):x.av=.agg [.int .i64 x.clock,.sl 3 (x.fo.map Fo.av),.sl 4 (x.fe.map Fe.av),.sl 9 (x.it.map It.av),.sl 3 (x.se.map Se.av),.int .i64 x.t1,.int .i64 x.t2,.int .i64 x.t3,.int .i64 x.t4]:=(rfl)
def PS.tell(s:PS):St:=⟨s.clock,valsM Fo.z s.fo,valsM Fe.z s.fe,valsM It.z s.it,valsM Se.z s.se,s.t1,s.t2,s.t3,s.t4⟩
def inI(k:Int):Prop:= -9223372036854775808≤k∧k≤9223372036854775807
structure PS.Ok (s:PS):Prop where
 w1:WFM s.fo s.c1
 w2:WFM s.fe s.c2
 w3:WFM s.it s.c3
 w4:WFM s.se s.c4
 b1:∀e∈s.fo,inI e.1
 b2:∀e∈s.fe,inI e.1
 b3:∀e∈s.it,inI e.1
 b4:∀e∈s.se,inI e.1
 l1:s.fo.length≤100000
 l2:s.fe.length≤100000
 l3:s.it.length≤100000
 l4:s.se.length≤100000
 tg:∀t∈valsM It.z s.it,t.tags.length≤1048576
theorem ap{N:Nat}{h:Heap}{α:Type}{av:α→AVal}{m:Nat}(hc:∀a,Clo N (av a))(l:List α):Frz h N (.sl m (l.map av)) (.sl m (l.map av)):=
 .clo _ (Clo.sl _ _ fun x hx=>by obtain⟨a,_,rfl⟩:=M7.1 hx;exact hc a)
theorem wB(s:PS){H j:Heap}{n p v:Nat}(hn:n+9≤H.length)(hg:getRow (H++j) (H.length+p) v=some (86,9,(valsM It.z s.it).map It.av)):
  Fin (so H n s) (so (H++j) n s) (fun r h'=>r=s.tell.av∧h'=so H n s) (.agg [.int .i64 s.clock,.sl 3 ((valsM Fo.z s.fo).map Fo.av),.sl 4 ((valsM Fe.z s.fe).map Fe.av),.hs (H.length+p) v 0 (valsM It.z s.it).length true,.sl 3 ((valsM Se.z s.se).map Se.av),.int .i64 s.t1,.int .i64 s.t2,.int .i64 s.t3,.int .i64 s.t4]):=by
 have hl:H.length+p<(H++j).length:=bI hg;have hg':getRow (so (H++j) n s) (H.length+p) v=some (86,9,(valsM It.z s.it).map It.av):=by rw[bM (by simp;omega) v (by omega)];exact hg
 refine gv hn rfl (PS.clo hn s) (FrzL.agg (.cons (.clo _ (.int _ _)) (.cons (ap (za8 _) _) (.cons (ap (za9 _) _) (.cons (Z5 (by omega) hg' (by simp) (fun r hr=>by obtain⟨a,_,rfl⟩:=M7.1 hr;exact zb0 _ a) (fun r hr=>by obtain⟨a,_,rfl⟩:=M7.1 hr;exact a.cells_sto)) (.cons (ap (za7 _) _) (.cons (.clo _ (.int _ _)) (.cons (.clo _ (.int _ _)) (.cons (.clo _ (.int _ _)) (.cons (.clo _ (.int _ _)) .nil))))))))) rfl) ⟨rfl,rfl⟩
def PS.tellH(s:PS)(p v:Nat):AVal:=.agg [.int .i64 s.clock,.sl 3 ((valsM Fo.z s.fo).map Fo.av),.sl 4 ((valsM Fe.z s.fe).map Fe.av),.hs p v 0 (valsM It.z s.it).length true,.sl 3 ((valsM Se.z s.se).map Se.av),.int .i64 s.t1,.int .i64 s.t2,.int .i64 s.t3,.int .i64 s.t4]
theorem pv(s:PS)(hs:s.Ok){H:Heap}{n:Nat}(hn:n+9≤H.length)(R:AVal→Heap→Prop)
  (hR:∀(j:Heap) (p v:Nat),getRow (H++j) (H.length+p) v=some (86,9,(valsM It.z s.it).map It.av)→Fin (so H n s) (so (H++j) n s) R (s.tellH (H.length+p) v)):Sat (CT G) 14 [.hp (n+8) 0 0 0] (so H n s) R:=by
 have hvl:(valsM It.z s.it).length≤100000:=by unfold valsM;rw[L5,cE,L5];exact hs.l3
 refine sb [.cell 2 41] Tryz.func14 ?_;intro Q hQ;refine wk trivial ?_;refine ay 46 [8,13,18,23,44,45] [true,true,true,true,true,true,true,true,false,true,true,true,true,false,true,true,true,true,false,true,true,true,true,false,true,true,true,true,true,true,true,true,true,true,true,true,true,true,true,true,true,true,true,true,false,false] (.two 8 [false,true,true,true,false,false,false,false,false,false,true,true,true,false,false,true,true,true,false,false,true,true,true,false,false,true,true,true,true,false,true,true,true,true,false,true,true,true,true,false,true,true,true,true] (.two 13 [false,true,true,true,false,false,false,false,false,false,false,false,false,false,false,true,true,true,false,false,true,true,true,false,false,true,true,true,true,false,true,true,true,true,false,true,true,true,true,false,true,true,true,true] (.two 18 [false,true,true,true,false,false,false,false,false,false,false,false,false,false,false,false,false,false,false,false,true,true,true,false,false,true,true,true,true,false,true,true,true,true,false,true,true,true,true,false,true,true,true,true] (.two 23 [false,true,true,true,false,false,false,false,false,false,false,false,false,false,false,false,false,false,false,false,false,false,false,false,false,true,true,true,true,false,true,true,true,true,false,true,true,true,true,false,true,true,true,true] (.two 44 [] (.one 45 [] .fin) 45 [false,true,true,true,false,false,false,false,false,false,false,false,false,false,false,false,false,false,false,false,false,false,false,false,false,true,true,true,true,false,true,true,true,true,false,true,true,true,true,false,true,true,true,true] (.one 44 [] .fin)) 45 [false,true,true,true,false,false,false,false,false,false,false,false,false,false,false,false,false,false,false,false,true,true,true,false,false,true,true,true,true,false,true,true,true,true,false,true,true,true,true,false,true,true,true,true] (.one 23 [false,true,true,true,false,false,false,false,false,false,false,false,false,false,false,false,false,false,false,false,false,false,false,false,false,true,true,true,true,false,true,true,true,true,false,true,true,true,true,false,true,true,true,true] (.one 44 [] .fin))) 45 [false,true,true,true,false,false,false,false,false,false,false,false,false,false,false,true,true,true,false,false,true,true,true,false,false,true,true,true,true,false,true,true,true,true,false,true,true,true,true,false,true,true,true,true] (.one 18 [false,true,true,true,false,false,false,false,false,false,false,false,false,false,false,false,false,false,false,false,true,true,true,false,false,true,true,true,true,false,true,true,true,true,false,true,true,true,true,false,true,true,true,true] (.one 23 [false,true,true,true,false,false,false,false,false,false,false,false,false,false,false,false,false,false,false,false,false,false,false,false,false,true,true,true,true,false,true,true,true,true,false,true,true,true,true,false,true,true,true,true] (.one 44 [] .fin)))) 45 [false,true,true,true,false,false,false,false,false,false,true,true,true,false,false,true,true,true,false,false,true,true,true,false,false,true,true,true,true,false,true,true,true,true,false,true,true,true,true,false,true,true,true,true] (.one 13 [false,true,true,true,false,false,false,false,false,false,false,false,false,false,false,true,true,true,false,false,true,true,true,false,false,true,true,true,true,false,true,true,true,true,false,true,true,true,true,false,true,true,true,true] (.one 18 [false,true,true,true,false,false,false,false,false,false,false,false,false,false,false,false,false,false,false,false,true,true,true,false,false,true,true,true,true,false,true,true,true,true,false,true,true,true,true,false,true,true,true,true] (.one 23 [false,true,true,true,false,false,false,false,false,false,false,false,false,false,false,false,false,false,false,false,false,false,false,false,false,true,true,true,true,false,true,true,true,true,false,true,true,true,true,false,true,true,true,true] (.one 44 [] .fin))))) 45 [false,true,true,true,false,true,true,true,false,false,true,true,true,false,false,true,true,true,false,false,true,true,true,false,false,true,true,true,true,false,true,true,true,true,false,true,true,true,true,false,true,true,true,true] (.one 8 [false,true,true,true,false,false,false,false,false,false,true,true,true,false,false,true,true,true,false,false,true,true,true,false,false,true,true,true,true,false,true,true,true,true,false,true,true,true,true,false,true,true,true,true] (.one 13 [false,true,true,true,false,false,false,false,false,false,false,false,false,false,false,true,true,true,false,false,true,true,true,false,false,true,true,true,true,false,true,true,true,true,false,true,true,true,true,false,true,true,true,true] (.one 18 [false,true,true,true,false,false,false,false,false,false,false,false,false,false,false,false,false,false,false,false,true,true,true,false,false,true,true,true,true,false,true,true,true,true,false,true,true,true,true,false,true,true,true,true] (.one 23 [false,true,true,true,false,false,false,false,false,false,false,false,false,false,false,false,false,false,false,false,false,false,false,false,false,true,true,true,true,false,true,true,true,true,false,true,true,true,true,false,true,true,true,true] (.one 44 [] .fin)))))) (by decide+kernel) (by kernel_rfl) (by decide+kernel) ?_;simp only[aC,aD,az];try refine sq trivial ?_
 repeat' ((first|refine ai ?_|refine aj ?_|refine am ?_ ?_)<;>try refine sq trivial ?_)
 all_goals try refine wk trivial ?_
 repeat' (first
  | (refine(ln G s hs.w1 hs.b1 hs.l1 (by first|omega| (simp;omega))).mono ?_;rintro r h' ⟨rfl,rfl⟩;try refine sq trivial ?_)
  | (refine(lr G s hs.w2 hs.b2 hs.l2 (by first|omega| (simp;omega))).mono ?_;rintro r h' ⟨rfl,rfl⟩;try refine sq trivial ?_)
  | (refine(lu G s hs.w4 hs.b4 hs.l4 (by first|omega| (simp;omega))).mono ?_;rintro r h' ⟨rfl,rfl⟩;try refine sq trivial ?_)
  | (refine(ki G s hs.w3 hs.b3 hs.l3 (by first|omega| (simp;omega))).mono ?_;rintro r h' ⟨v,rfl,rfl⟩;try refine sq trivial ?_)
  | (refine ai ?_;try refine sq trivial ?_)| (refine aj ?_;try refine sq trivial ?_)| (refine am ?_ ?_<;>try refine sq trivial ?_))
 all_goals try refine wk trivial ?_
 all_goals first
  | (
   refine lm (fun nL tL hL=>∃(k:Nat) (hh:Heap),(valsM It.z s.it).length-k=nL∧so hh n s=hL∧tL 2=.hp H.length 0 0 0∧tL 3=.hp (H.length+3) 0 0 0∧tL 55=.hs (H.length+2) v 0 (valsM It.z s.it).length true∧tL 56=.int .i64 ((valsM It.z s.it).length:Int)∧tL 57=.int .i64 k∧k≤(valsM It.z s.it).length∧(FrN H.length H hh∧H.length+3<hh.length)∧getRow hh H.length 0=some (41,9,[.agg [.int .i64 0,.nil (.slice none 0 0),.nil (.slice none 0 0),.nil (.slice none 0 0),.nil (.slice none 0 0),.int .i64 0,.int .i64 0,.int .i64 0,.int .i64 0]])∧getRow hh (H.length+3) 0=some (41,9,[.agg [.int .i64 s.clock,.sl 3 ((valsM Fo.z s.fo).map Fo.av),.sl 4 ((valsM Fe.z s.fe).map Fe.av),.hs (H.length+2) v 0 (valsM It.z s.it).length true,.sl 3 ((valsM Se.z s.se).map Se.av),.int .i64 s.t1,.int .i64 s.t2,.int .i64 s.t3,.int .i64 s.t4]])∧getRow hh (H.length+2) v=some (86,9,(valsM It.z s.it).map It.av)) ((fun(k:Nat) (hh:Heap)=>((valsM It.z s.it).length-k:Nat)) (0) (H++[.row 41 9 0 [.agg [.int .i64 0,.nil (.slice none 0 0),.nil (.slice none 0 0),.nil (.slice none 0 0),.nil (.slice none 0 0),.int .i64 0,.int .i64 0,.int .i64 0,.int .i64 0]],.row 75 1 0 [.hm (n+2)],.row 86 9 v ((valsM It.z s.it).map It.av),.row 41 9 0 [.agg [.int .i64 s.clock,.sl 3 ((valsM Fo.z s.fo).map Fo.av),.sl 4 ((valsM Fe.z s.fe).map Fe.av),.hs (H.length+2) v 0 (valsM It.z s.it).length true,.sl 3 ((valsM Se.z s.se).map Se.av),.int .i64 s.t1,.int .i64 s.t2,.int .i64 s.t3,.int .i64 s.t4]]])) ?_ ?_
   ·refine L8 ⟨0,H++[.row 41 9 0 [.agg [.int .i64 0,.nil (.slice none 0 0),.nil (.slice none 0 0),.nil (.slice none 0 0),.nil (.slice none 0 0),.int .i64 0,.int .i64 0,.int .i64 0,.int .i64 0]],.row 75 1 0 [.hm (n+2)],.row 86 9 v ((valsM It.z s.it).map It.av),.row 41 9 0 [.agg [.int .i64 s.clock,.sl 3 ((valsM Fo.z s.fo).map Fo.av),.sl 4 ((valsM Fe.z s.fe).map Fe.av),.hs (H.length+2) v 0 (valsM It.z s.it).length true,.sl 3 ((valsM Se.z s.se).map Se.av),.int .i64 s.t1,.int .i64 s.t2,.int .i64 s.t3,.int .i64 s.t4]]],rfl,aw,?_,?_,?_,?_,?_,by omega,⟨W8 _ (by omega) (W0 _ _),by simp⟩,by rw[aS _ rfl];rfl,by rw[bx _ rfl];rfl,by rw[bx _ rfl];simp[getRow]⟩;all_goals try exact zZz trivial
   rintro _ s2 h' ⟨k,hh,rfl,rfl,e2,e3,e55,e56,e57,hk,hfr,hg2,hgx,hgi⟩ K2 hK2;simp only[ah,ao,Nat.reduceEqDiff, ↓reduceIte]at e2 e3 e55 e56 e57;have F:=F5 e2 e3 e55 e56 e57;refine wk F ?_;obtain⟨hfr,hfl⟩:=hfr;have hn1:n+9≤hh.length:=(by omega);refine cq F (fun c1=>?_) (fun c1=>?_)<;>(try exact c1.elim)<;>(refine wk F ?_)
   ·have c2:k<(valsM It.z s.it).length:=(by omega);obtain⟨y,hy,hym⟩:=ac c2;have hyt:=hs.tg y hym;have hset:((valsM It.z s.it).map It.av).set k (.agg [.int .i64 y.id,.int .i64 y.feed,.int .i64 y.date,.str y.guid,.str y.title,.str y.link,.bool y.read,.bool y.star,.sl 1 (y.tags.map .str)])=(valsM It.z s.it).map It.av:=by
     apply S7
     intro q;rw[X3];split
     ·rename_i hq;subst hq;rw[M5,hy];simp[c2,It.av]
     ·rfl
    have F:=F7 F c2 hy @hset hgi hgx @ax;(try refine sq F ?_);refine wk F ?_;refine aG (kj G y hyt _) ?_;(try refine sq F ?_);refine wk F ?_;refine hK2 _ _ _ (L8 ⟨k+1,hh.set (H.length+2) (.row 86 9 v ((valsM It.z s.it).map It.av))++[.row 86 9 0 [y.av]],rfl,aw,?_,?_,?_,?_,?_,by omega,⟨W8 _ (by simp;omega) (V9 _ (by omega) hfr),by simp;omega⟩,by rw[bL _ (by simp;omega),bc _ _ (by omega)];exact hg2,by rw[bL _ (by simp;omega),bc _ _ (by omega)];exact hgx,by rw[bL _ (by simp;omega),cr _ _ _ _ _ (by omega),L7 rfl]⟩) (by omega);all_goals try exact zZz F
   ·have F:=F5 F hg2 hgx hgi @ax;(try refine sq F ?_);refine wk F ?_;refine ye hQ F ?_;obtain⟨j,hj⟩:=hfr.behind (by omega);subst hj;have hgi2:∀b,getRow (H++j.set 0 b) (H.length+2) v=some (86,9,(valsM It.z s.it).map It.av):=fun b=>by rw[← gp b rfl,bc _ _ (by omega)];exact hgi
    rw[gp _ rfl];exact hR _ _ _ (by simpa using hgi2 _))
  | (
   refine lm (fun nL tL hL=>∃(k:Nat) (hh:Heap),(valsM It.z s.it).length-k=nL∧so hh n s=hL∧tL 2=.hp H.length 0 0 0∧tL 3=.hp (H.length+1) 0 0 0∧tL 55=.hs (H.length+3) v 0 (valsM It.z s.it).length true∧tL 56=.int .i64 ((valsM It.z s.it).length:Int)∧tL 57=.int .i64 k∧k≤(valsM It.z s.it).length∧(FrN H.length H hh∧H.length+3<hh.length)∧getRow hh H.length 0=some (41,9,[.agg [.int .i64 0,.nil (.slice none 0 0),.nil (.slice none 0 0),.nil (.slice none 0 0),.nil (.slice none 0 0),.int .i64 0,.int .i64 0,.int .i64 0,.int .i64 0]])∧getRow hh (H.length+1) 0=some (41,9,[.agg [.int .i64 s.clock,.sl 3 ((valsM Fo.z s.fo).map Fo.av),.sl 4 ((valsM Fe.z s.fe).map Fe.av),.hs (H.length+3) v 0 (valsM It.z s.it).length true,.sl 3 ((valsM Se.z s.se).map Se.av),.int .i64 s.t1,.int .i64 s.t2,.int .i64 s.t3,.int .i64 s.t4]])∧getRow hh (H.length+3) v=some (86,9,(valsM It.z s.it).map It.av)) ((fun(k:Nat) (hh:Heap)=>((valsM It.z s.it).length-k:Nat)) (0) (H++[.row 41 9 0 [.agg [.int .i64 0,.nil (.slice none 0 0),.nil (.slice none 0 0),.nil (.slice none 0 0),.nil (.slice none 0 0),.int .i64 0,.int .i64 0,.int .i64 0,.int .i64 0]],.row 41 9 0 [.agg [.int .i64 s.clock,.sl 3 ((valsM Fo.z s.fo).map Fo.av),.sl 4 ((valsM Fe.z s.fe).map Fe.av),.hs (H.length+3) v 0 (valsM It.z s.it).length true,.sl 3 ((valsM Se.z s.se).map Se.av),.int .i64 s.t1,.int .i64 s.t2,.int .i64 s.t3,.int .i64 s.t4]],.row 75 1 0 [.hm (n+2)],.row 86 9 v ((valsM It.z s.it).map It.av)])) ?_ ?_
   ·refine L8 ⟨0,H++[.row 41 9 0 [.agg [.int .i64 0,.nil (.slice none 0 0),.nil (.slice none 0 0),.nil (.slice none 0 0),.nil (.slice none 0 0),.int .i64 0,.int .i64 0,.int .i64 0,.int .i64 0]],.row 41 9 0 [.agg [.int .i64 s.clock,.sl 3 ((valsM Fo.z s.fo).map Fo.av),.sl 4 ((valsM Fe.z s.fe).map Fe.av),.hs (H.length+3) v 0 (valsM It.z s.it).length true,.sl 3 ((valsM Se.z s.se).map Se.av),.int .i64 s.t1,.int .i64 s.t2,.int .i64 s.t3,.int .i64 s.t4]],.row 75 1 0 [.hm (n+2)],.row 86 9 v ((valsM It.z s.it).map It.av)],rfl,aw,?_,?_,?_,?_,?_,by omega,⟨W8 _ (by omega) (W0 _ _),by simp⟩,by rw[aS _ rfl];rfl,by rw[bx _ rfl];rfl,by rw[bx _ rfl];simp[getRow]⟩;all_goals try exact zZz trivial
   rintro _ s2 h' ⟨k,hh,rfl,rfl,e2,e3,e55,e56,e57,hk,hfr,hg2,hgx,hgi⟩ K2 hK2;simp only[ah,ao,Nat.reduceEqDiff, ↓reduceIte]at e2 e3 e55 e56 e57;have F:=F5 e2 e3 e55 e56 e57;refine wk F ?_;obtain⟨hfr,hfl⟩:=hfr;have hn1:n+9≤hh.length:=(by omega);refine cq F (fun c1=>?_) (fun c1=>?_)<;>(try exact c1.elim)<;>(refine wk F ?_)
   ·have c2:k<(valsM It.z s.it).length:=(by omega);obtain⟨y,hy,hym⟩:=ac c2;have hyt:=hs.tg y hym;have hset:((valsM It.z s.it).map It.av).set k (.agg [.int .i64 y.id,.int .i64 y.feed,.int .i64 y.date,.str y.guid,.str y.title,.str y.link,.bool y.read,.bool y.star,.sl 1 (y.tags.map .str)])=(valsM It.z s.it).map It.av:=by
     apply S7
     intro q;rw[X3];split
     ·rename_i hq;subst hq;rw[M5,hy];simp[c2,It.av]
     ·rfl
    have F:=F7 F c2 hy @hset hgi hgx @ax;(try refine sq F ?_);refine wk F ?_;refine aG (kj G y hyt _) ?_;(try refine sq F ?_);refine wk F ?_;refine hK2 _ _ _ (L8 ⟨k+1,hh.set (H.length+3) (.row 86 9 v ((valsM It.z s.it).map It.av))++[.row 86 9 0 [y.av]],rfl,aw,?_,?_,?_,?_,?_,by omega,⟨W8 _ (by simp;omega) (V9 _ (by omega) hfr),by simp;omega⟩,by rw[bL _ (by simp;omega),bc _ _ (by omega)];exact hg2,by rw[bL _ (by simp;omega),bc _ _ (by omega)];exact hgx,by rw[bL _ (by simp;omega),cr _ _ _ _ _ (by omega),L7 rfl]⟩) (by omega);all_goals try exact zZz F
   ·have F:=F5 F hg2 hgx hgi @ax;(try refine sq F ?_);refine wk F ?_;refine ye hQ F ?_;obtain⟨j,hj⟩:=hfr.behind (by omega);subst hj;have hgi2:∀b,getRow (H++j.set 0 b) (H.length+3) v=some (86,9,(valsM It.z s.it).map It.av):=fun b=>by rw[← gp b rfl,bc _ _ (by omega)];exact hgi
    rw[gp _ rfl];exact hR _ _ _ (by simpa using hgi2 _))
theorem f4(s:PS)(hs:s.Ok){H:Heap}{n:Nat}(hn:n+9≤H.length):Sat (CT G) 14 [.hp (n+8) 0 0 0] (so H n s) (fun r h'=>r=s.tell.av∧h'=so H n s):=
 pv G s hs hn _ fun _ _ _ hg=>wB s hn hg
end
section
variable {s:PS} {e:Ev}
theorem bN{κ α:Type}[DecidableEq κ]{l:ML κ α}{x:κ}(h:(lkM l x).isSome=false):lkM l x=none:=by
 cases hl:lkM l x with
 |none=>rfl
 |some a=>rw[hl]at h;cases h
theorem aT{κ α:Type}[DecidableEq κ]{l:ML κ α}{x:κ}(h:(lkM l x).isSome=true):∃a,lkM l x=some a:=M8.1 h
theorem fb{κ α:Type}[DecidableEq κ]{l:ML κ α}(c:Nat)(x:κ)(a:α){y:κ}(h:(lkM l y).isSome=true):(lkM (upM l c x a) y).isSome=true:=by
 rw[aY];split
 ·rfl
 ·exact h
theorem aI{κ α:Type}[DecidableEq κ]{l:ML κ α}{c:Nat}{x y:κ}{a b:α}(h:lkM (upM l c x a) y=some b):(y=x∧b=a)∨(y≠x∧lkM l y=some b):=by
 rw[aY]at h;split at h
 ·rename_i hy;cases h;exact .inl ⟨hy,rfl⟩
 ·rename_i hy;exact .inr ⟨hy,h⟩
theorem bO{κ α:Type}[DecidableEq κ]{l:ML κ α}(hn:(l.map (·.1)).Nodup){x y:κ}{b:α}(h:lkM (dlM l x) y=some b):y≠x∧lkM l y=some b:=by
 rw[eE hn]at h;split at h
 ·cases h
 ·rename_i hy;exact⟨hy,h⟩
theorem iV{α:Type}{l:ML Int α}(hn:(l.map (·.1)).Nodup){p:Int×α×Nat→Bool}{y:Int}{b:α}(h:lkM (l.filter p) y=some b):lkM l y=some b:=by
 obtain⟨n,hm⟩:=dL h;exact bT hn (T9.1 hm).1
theorem fD{κ α:Type}[DecidableEq κ](l:ML κ α)(c:Nat)(x:κ)(a:α)(m:Nat)(h:l.length<m∨((lkM l x).isSome=true∧l.length≤m)):(upM l c x a).length≤m:=by
 rw[l9];split
 ·omega
 ·rename_i h1;rcases h with h|h
  ·omega
  ·exact(h1 h.1).elim
theorem o4{κ α:Type}[DecidableEq κ](l:ML κ α)(x:κ)(m:Nat)(h:l.length≤m):(dlM l x).length≤m:=Q6 (iM l x).length_le h
theorem PS.Inv.no0(h:s.Inv):lkM s.fo 0=none:=by
 cases hl:lkM s.fo 0 with
 |none=>rfl
 |some f=>have:=(h.i1 _ _ hl).2.1;omega
theorem PS.Inv.deep(h:s.Inv)(id:Int):deepO s.fo 7 id=some (s.dpt id)∧s.dpt id≤7:=by
 obtain⟨d,h1,h2⟩:=h.dp id;unfold PS.dpt;rw[h2];exact⟨rfl,h1⟩
theorem iE(h:s.within e.b=true):e.b=0∨(lkM s.fo e.b).isSome=true:=by
 unfold PS.within at h;simpa using h
theorem PS.Inv.mkFo(h:s.Inv)(ha:1≤e.a∧e.a≤1048576)(hn:(lkM s.fo e.a).isSome=false)(hl:s.fo.length<64)(hw:s.within e.b=true)(hd:s.dpt e.b<7):
  PS.Inv ((((s.upFo e.a ⟨e.a,e.b,e.s⟩).upNm (e.b,e.s) e.a).hold e.b 1).raise 0 e.a):=by
 rw[aP];have hb:=iE hw;have hnn:=bN hn;have hba:e.b≠e.a:=by
  rcases hb with hb|hb
  ·omega
  ·intro q;rw[q,hn]at hb;cases hb
 have hcg:∀k id,id≠e.a→deepO (upM s.fo s.c1 e.a ⟨e.a,e.b,e.s⟩) k id=deepO s.fo k id:=by
  refine jd (fun id=>id≠e.a) (fun id hi=>by rw[aY,K4 hi]) (fun id f hi hf=>?_);rcases h.u1 id f hf with h1|h1
  ·omega
  ·intro q;rw[q,hn]at h1;cases h1
 exact {h with
  w1:=h.w1.up _ _
  w8:=gy h.w8 _ _
  i1:=fun k f hk=>by
   rcases aI (l:=s.fo) hk with⟨rfl,rfl⟩| ⟨_,hk⟩
   ·exact⟨rfl,ha⟩
   ·exact h.i1 k f hk
  u1:=fun k f hk=>by
   rcases aI (l:=s.fo) hk with⟨rfl,rfl⟩| ⟨_,hk⟩
   ·exact hb.imp id (fb _ _ _)
   ·exact(h.u1 k f hk).imp id (fb _ _ _)
  u2:=fun k f hk=>(h.u2 k f hk).imp id (fb _ _ _)
  dp:=fun id=>by
   show ∃d,d≤7∧deepO (upM s.fo s.c1 e.a ⟨e.a,e.b,e.s⟩) 7 id=some d;by_cases hi:id=e.a
   ·subst hi;obtain⟨h1,h2⟩:=h.deep e.b;refine⟨s.dpt e.b+1,by omega,?_⟩;rw[deepO,aY,L7 rfl];simp only[hcg 6 e.b hba,iD h1 (k':=6) (by omega),Q3]
   ·obtain⟨d,h1,h2⟩:=h.dp id;exact⟨d,h1,by rw[hcg 7 id hi,h2]⟩
  hd:=fun id hi=>by
   show(lkM (heF s.he s.c8 e.b 1) id).getD 0=sumM (inFo id) (upM s.fo s.c1 e.a ⟨e.a,e.b,e.s⟩)+sumM (inFe id) s.fe;rw[fB,iS,hnn,h.hd id hi];simp only[atM,inFo];by_cases hx:e.b=id
   ·subst hx;simp[hi];omega
   ·rw[K4 (by omega),K4 hx];omega
  h0:=iU _ _ _ h.h0
  l1:=fD _ _ _ _ _ (.inl hl)}
theorem PS.Inv.mkFe(h:s.Inv)(ha:1≤e.a∧e.a≤1048576)(hn:(lkM s.fe e.a).isSome=false)(hl:s.fe.length<64)(hw:s.within e.b=true):
  PS.Inv ((((s.upFe e.a ⟨e.a,e.b,e.s,e.t⟩).upPl e.s e.a).hold e.b 1).raise 1 e.a):=by
 rw[aP];have hb:=iE hw;have hnn:=bN hn;exact {h with
  w2:=h.w2.up _ _
  w8:=gy h.w8 _ _
  i2:=fun k f hk=>by
   rcases aI (l:=s.fe) hk with⟨rfl,rfl⟩| ⟨_,hk⟩
   ·exact⟨rfl,ha⟩
   ·exact h.i2 k f hk
  u2:=fun k f hk=>by
   rcases aI (l:=s.fe) hk with⟨rfl,rfl⟩| ⟨_,hk⟩
   ·exact hb
   ·exact h.u2 k f hk
  u3:=fun k f hk=>fb _ _ _ (h.u3 k f hk)
  hd:=fun id hi=>by
   show(lkM (heF s.he s.c8 e.b 1) id).getD 0=sumM (inFo id) s.fo+sumM (inFe id) (upM s.fe s.c2 e.a ⟨e.a,e.b,e.s,e.t⟩);rw[fB,iS,hnn,h.hd id hi];simp only[atM,inFe];by_cases hx:e.b=id
   ·subst hx;simp[hi];omega
   ·rw[K4 (by omega),K4 hx];omega
  h0:=iU _ _ _ h.h0
  l2:=fD _ _ _ _ _ (.inl hl)}
theorem PS.Inv.mkIt(h:s.Inv)(ha:1≤e.a∧e.a≤1048576)(hl:s.it.length<1024)(hw:(lkM s.fe e.b).isSome=true):
  PS.Inv (((s.upIt e.a ⟨e.a,e.b,e.n,e.s,e.t,e.u,false,false,[]⟩).upGu (e.b,e.s) e.a).raise 2 e.a):=
 {h with
  w3:=h.w3.up _ _
  w7:=h.w7.up _ _
  i3:=fun k f hk=>by
   rcases aI (l:=s.it) hk with⟨rfl,rfl⟩| ⟨_,hk⟩
   ·exact⟨rfl,ha⟩
   ·exact h.i3 k f hk
  u3:=fun k f hk=>by
   rcases aI (l:=s.it) hk with⟨rfl,rfl⟩| ⟨_,hk⟩
   ·exact hw
   ·exact h.u3 k f hk
  tg:=fun k f hk=>by
   rcases aI (l:=s.it) hk with⟨rfl,rfl⟩| ⟨_,hk⟩
   ·exact⟨by simp[Srt],by simp⟩
   ·exact h.tg k f hk
  l3:=fD _ _ _ _ _ (.inl hl)}
theorem PS.Inv.mkSe(h:s.Inv)(ha:1≤e.a∧e.a≤1048576)(hl:s.se.length<32):PS.Inv ((s.upSe e.a ⟨e.a,e.s,e.t⟩).raise 3 e.a):=
 {h with
  w4:=h.w4.up _ _
  i4:=fun k f hk=>by
   rcases aI (l:=s.se) hk with⟨rfl,rfl⟩| ⟨_,hk⟩
   ·exact⟨rfl,ha⟩
   ·exact h.i4 k f hk
  l4:=fD _ _ _ _ _ (.inl hl)}
theorem PS.Inv.reIt(h:s.Inv){k:Int}{t:It}(t':It)(hk:lkM s.it k=some t)(h1:t'.id=t.id)(h2:t'.feed=t.feed)(h3:Srt t'.tags∧t'.tags.length≤8):PS.Inv (s.upIt k t'):=
 {h with
  w3:=h.w3.up _ _
  i3:=fun j f hj=>by
   rcases aI (l:=s.it) hj with⟨rfl,rfl⟩| ⟨_,hj⟩
   ·rw[h1];exact h.i3 _ _ hk
   ·exact h.i3 j f hj
  u3:=fun j f hj=>by
   rcases aI (l:=s.it) hj with⟨rfl,rfl⟩| ⟨_,hj⟩
   ·rw[h2];exact h.u3 _ _ hk
   ·exact h.u3 j f hj
  tg:=fun j f hj=>by
   rcases aI (l:=s.it) hj with⟨rfl,rfl⟩| ⟨_,hj⟩
   ·exact h3
   ·exact h.tg j f hj
  l3:=fD _ _ _ _ _ (.inr ⟨by rw[hk];rfl,h.l3⟩)}
theorem PS.Inv.unFo(h:s.Inv){k:Int}{f:Fo}(hk:lkM s.fo k=some f)(h0:(lkM s.he k).getD 0=0):PS.Inv (((s.dlNm (f.inn,f.name)).dlFo k).hold f.inn (-1)):=by
 rw[aP];have hk1:=(h.i1 _ _ hk).2;have hs:=h.hd k (by omega);have n1:=cN (gw k) s.fo;have n2:=cN (gx k) s.fe;have hA:∀j g,lkM s.fo j=some g→g.inn≠k:=fun j g hg q=>by
  have:=o3 (gw k) (l:=s.fo) (by omega) hg;rw[inFo,L7 q]at this;omega
 have hB:∀j g,lkM s.fe j=some g→g.inn≠k:=fun j g hg q=>by
  have:=o3 (gx k) (l:=s.fe) (by omega) hg;rw[inFe,L7 q]at this;omega
 have hcg:∀m id,id≠k→deepO (dlM s.fo k) m id=deepO s.fo m id:=
  jd (fun id=>id≠k) (fun id hi=>by rw[eE h.w1.keys,K4 hi]) (fun id g _ hg=>hA id g hg)
 have hst:∀x,x≠k→(lkM s.fo x).isSome=true→(lkM (dlM s.fo k) x).isSome=true:=fun x hx hs=>by rw[eE h.w1.keys,K4 hx];exact hs
 exact {h with
  w1:=h.w1.dl _
  w8:=gy h.w8 _ _
  i1:=fun j g hj=>h.i1 j g (bO h.w1.keys hj).2
  u1:=fun j g hj=>by
   obtain⟨_,hj⟩:=bO h.w1.keys hj;exact(h.u1 j g hj).imp id (hst _ (hA j g hj))
  u2:=fun j g hj=>(h.u2 j g hj).imp id (hst _ (hB j g hj))
  dp:=fun id=>by
   show ∃d,d≤7∧deepO (dlM s.fo k) 7 id=some d;by_cases hi:id=k
   ·subst hi;exact⟨0,by omega,by rw[deepO,eE h.w1.keys,L7 rfl]⟩
   ·rw[hcg 7 id hi];exact h.dp id
  hd:=fun id hi=>by
   show(lkM (heF s.he s.c8 f.inn (-1)) id).getD 0=sumM (inFo id) (dlM s.fo k)+sumM (inFe id) s.fe;rw[fB,qq,hk,h.hd id hi];simp only[atM,inFo];by_cases hx:f.inn=id
   ·subst hx;simp[hi];omega
   ·rw[K4 (by omega),K4 hx];omega
  h0:=iU _ _ _ h.h0
  l1:=o4 _ _ _ h.l1}
theorem PS.Inv.reTi(h:s.Inv){k:Int}{f:Fe}(t:Bs)(hk:lkM s.fe k=some f):PS.Inv (s.upFe k {f with title:=t}):=
 {h with
  w2:=h.w2.up _ _
  i2:=fun j g hj=>by
   rcases aI (l:=s.fe) hj with⟨rfl,rfl⟩| ⟨_,hj⟩
   ·have:=h.i2 _ _ hk;exact this
   ·exact h.i2 j g hj
  u2:=fun j g hj=>by
   rcases aI (l:=s.fe) hj with⟨rfl,rfl⟩| ⟨_,hj⟩
   ·have:=h.u2 _ _ hk;exact this
   ·exact h.u2 j g hj
  u3:=fun j g hj=>fb _ _ _ (h.u3 j g hj)
  hd:=fun id hi=>by
   show(lkM s.he id).getD 0=sumM (inFo id) s.fo+sumM (inFe id) (upM s.fe s.c2 k {f with title:=t});rw[iS,hk,h.hd id hi];simp only[atM,inFe];omega
  l2:=fD _ _ _ _ _ (.inr ⟨by rw[hk];rfl,h.l2⟩)}
theorem PS.Inv.reIn(h:s.Inv){k b:Int}{f:Fe}(hk:lkM s.fe k=some f)(hb:b=0∨(lkM s.fo b).isSome=true):PS.Inv (((s.hold f.inn (-1)).hold b 1).upFe k {f with inn:=b}):=by
 rw[aP s,aP];exact {h with
  w2:=h.w2.up _ _
  w8:=gy (gy h.w8 _ _) _ _
  i2:=fun j g hj=>by
   rcases aI (l:=s.fe) hj with⟨rfl,rfl⟩| ⟨_,hj⟩
   ·have:=h.i2 _ _ hk;exact this
   ·exact h.i2 j g hj
  u2:=fun j g hj=>by
   rcases aI (l:=s.fe) hj with⟨rfl,rfl⟩| ⟨_,hj⟩
   ·exact hb
   ·exact h.u2 j g hj
  u3:=fun j g hj=>fb _ _ _ (h.u3 j g hj)
  hd:=fun id hi=>by
   show(lkM (heF (heF s.he s.c8 f.inn (-1)) (chF s.he s.c8 f.inn) b 1) id).getD 0=sumM (inFo id) s.fo+sumM (inFe id) (upM s.fe s.c2 k {f with inn:=b});rw[fB,fB,iS,hk,h.hd id hi];simp only[atM,inFe];by_cases h1:f.inn=id
   ·by_cases h2:b=id
    ·rw[L7 ⟨h1.symm,by omega⟩,L7 ⟨h2.symm,by omega⟩,L7 h1,L7 h2];omega
    ·rw[L7 ⟨h1.symm,by omega⟩,K4 (by omega),L7 h1,K4 h2];omega
   ·by_cases h2:b=id
    ·rw[K4 (by omega),L7 ⟨h2.symm,by omega⟩,K4 h1,L7 h2];omega
    ·rw[K4 (by omega),K4 (by omega),K4 h1,K4 h2];omega
  h0:=iU _ _ _ (iU _ _ _ h.h0)
  l2:=fD _ _ _ _ _ (.inr ⟨by rw[hk];rfl,h.l2⟩)}
theorem PS.Inv.unFe(h:s.Inv){k:Int}{f:Fe}(hk:lkM s.fe k=some f):PS.Inv (s.unfeed f):=by
 have hfk:=(h.i2 _ _ hk).1;unfold PS.unfeed;rw[aP];exact {h with
  w2:=h.w2.dl _
  w3:=h.w3.filter _
  w7:=h.w7.filter _
  w8:=gy h.w8 _ _
  i2:=fun j g hj=>h.i2 j g (bO h.w2.keys hj).2
  i3:=fun j t hj=>h.i3 j t (iV h.w3.keys hj)
  u2:=fun j g hj=>h.u2 j g (bO h.w2.keys hj).2
  u3:=fun j t hj=>by
   have hj':lkM (itF s.it f.id) j=some t:=hj;show(lkM (dlM s.fe f.id) t.feed).isSome=true;have hne:t.feed≠f.id:=by
    obtain⟨n,hm⟩:=dL hj';have:=(T9.1 hm).2;simpa using this
   rw[eE h.w2.keys,K4 hne];exact h.u3 j t (iV h.w3.keys hj')
  hd:=fun id hi=>by
   show(lkM (heF s.he s.c8 f.inn (-1)) id).getD 0=sumM (inFo id) s.fo+sumM (inFe id) (dlM s.fe f.id);rw[fB,qq,hfk,hk,h.hd id hi];simp only[atM,inFe];by_cases hx:f.inn=id
   ·subst hx;simp[hi];omega
   ·rw[K4 (by omega),K4 hx];omega
  h0:=iU _ _ _ h.h0
  tg:=fun j t hj=>h.tg j t (iV h.w3.keys hj)
  l2:=o4 _ _ _ h.l2
  l3:=Q6 (List.length_filter_le _ _) h.l3}
theorem PS.Inv.unSe(h:s.Inv)(k:Int):PS.Inv (s.dlSe k):=
 {h with
  w4:=h.w4.dl _
  i4:=fun j g hj=>h.i4 j g (bO h.w4.keys hj).2
  l4:=o4 _ _ _ h.l4}
theorem PS.Inv.clk(h:s.Inv)(k:Int):PS.Inv {s with clock:=k}:= {h with}
theorem PS.Inv.step{L:Leaf}(h:s.Inv)(e:Ev):(s.step L e).Inv:=by
 unfold PS.step;split
 ·rename_i hok;unfold PS.ok PS.fits at hok;rw[K5]at hok;obtain⟨hck,hf⟩:=hok;have hr:L.right e=true:=by unfold Leaf.ck at hck;simp only[K5]at hck;exact hck.1
  have ha:e.kind≠13→1≤e.a∧e.a≤1048576:=fun hk=>fC hr hk
  unfold PS.aft PS.after;by_cases k1:e.kind=1
  ·rw[L7 k1]at hf;simp only[K5,O6,K8,beq_iff_eq]at hf;rw[K4 (by omega),K4 (by omega),K4 (by omega),K4 (by omega),K4 (by omega),K4 (by omega),K4 (by omega),K4 (by omega),K4 (by omega),PS.make,L7 k1];exact h.mkFo (ha (by omega)) hf.1.1.1.1 hf.1.1.1.2 hf.1.1.2 hf.1.2
  rw[K4 k1]at hf;by_cases k2:e.kind=2
  ·rw[L7 k2]at hf ⊢;simp only[K5,beq_iff_eq]at hf;obtain⟨f,hfo⟩:=aT hf.1;rw[hfo];exact h.unFo hfo hf.2
  rw[K4 k2]at hf ⊢;by_cases k3:e.kind=3
  ·rw[L7 k3]at hf;simp only[K5,O6,K8,beq_iff_eq]at hf;rw[K4 (by omega),K4 (by omega),K4 (by omega),K4 (by omega),K4 (by omega),K4 (by omega),K4 (by omega),K4 (by omega),PS.make,K4 (by omega),L7 k3];exact h.mkFe (ha (by omega)) hf.1.1.1 hf.1.1.2 hf.1.2
  rw[K4 k3]at hf;by_cases k4:e.kind=4
  ·rw[L7 (.inl k4)]at hf;rw[L7 k4];obtain⟨f,hfo⟩:=aT hf;rw[hfo];exact h.unFe hfo
  rw[K4 k4];by_cases k5:e.kind=5
  ·rw[L7 (.inr k5)]at hf;rw[L7 k5];obtain⟨f,hfo⟩:=aT hf;rw[hfo];exact h.reTi _ hfo
  rw[K4 (by omega)]at hf;rw[K4 k5];by_cases k6:e.kind=6
  ·rw[L7 k6]at hf ⊢;simp only[K5]at hf;obtain⟨f,hfo⟩:=aT hf.1;rw[hfo];exact h.reIn hfo (iE hf.2)
  rw[K4 k6]at hf ⊢;by_cases k7:e.kind=7
  ·rw[L7 k7]at hf;simp only[K5,O6,K8,beq_iff_eq]at hf;rw[K4 (by omega),K4 (by omega),K4 (by omega),K4 (by omega),K4 (by omega),PS.make,K4 (by omega),K4 (by omega),L7 k7];exact h.mkIt (ha (by omega)) hf.1.1.2 hf.1.2
  rw[K4 k7]at hf;by_cases k8:e.kind=8
  ·rw[L7 (.inl k8)]at hf;rw[L7 k8];obtain⟨f,hfo⟩:=aT hf;rw[hfo];have htg:=h.tg _ _ hfo;exact h.reIt _ hfo rfl rfl htg
  rw[K4 k8];by_cases k9:e.kind=9
  ·rw[L7 (.inr k9)]at hf;rw[L7 k9];obtain⟨f,hfo⟩:=aT hf;rw[hfo];have htg:=h.tg _ _ hfo;exact h.reIt _ hfo rfl rfl htg
  rw[K4 (by omega)]at hf;rw[K4 k9];by_cases k10:e.kind=10
  ·rw[L7 k10]at hf ⊢;simp only[K5,P8,K8]at hf;obtain⟨f,hfo⟩:=aT hf.1;rw[hfo]at hf ⊢;simp only[Q0]at hf ⊢;have htg:=h.tg _ _ hfo;exact h.reIt _ hfo rfl rfl ⟨yh htg.1 _ _,yi _ _ htg.2 (by rcases hf.2 with(h1|h1)|h1<;>simp[h1])⟩
  rw[K4 k10]at hf ⊢;by_cases k11:e.kind=11
  ·rw[L7 k11]at hf;simp only[K5,O6,K8]at hf;rw[K4 (by omega),K4 (by omega),PS.make,K4 (by omega),K4 (by omega),K4 (by omega),L7 k11];exact h.mkSe (ha (by omega)) hf.2
  rw[K4 k11]at hf;by_cases k12:e.kind=12
  ·rw[L7 k12];exact h.unSe _
  rw[K4 k12];by_cases k13:e.kind=13
  ·rw[L7 k13];exact h.clk _
  ·exfalso;unfold Leaf.right at hr;rw[K4 k1,K4 (by omega),K4 k3,K4 k5,K4 k6,K4 k7,K4 (by omega),K4 k10,K4 k11,K4 k13]at hr;cases hr
 ·exact h
theorem PS.Inv.fold{L:Leaf}(h:s.Inv)(l:List Ev):(l.foldl (PS.step L) s).Inv:=by
 induction l generalizing s with
 |nil=>exact h
 |cons e l ih=>exact ih (h.step e)
theorem aK{α:Type}{z:α}{l:ML Int α}{a:α}(h:a∈valsM z l):∃k,lkM l k=some a:=by
 unfold valsM at h;obtain⟨k,hk,rfl⟩:=M7.1 h;have hk2:k∈l.map (·.1):=(U4 _ _).mem_iff.1 hk;refine⟨k,?_⟩;cases hl:lkM l k with
 |none=>
  have:(lkM l k).isSome=false:=by rw[hl];rfl
  exact(qg this hk2).elim
 |some a=>rfl
theorem kr{α:Type}{l:ML Int α}{c:Nat}(w:WFM l c)(h:∀k a,lkM l k=some a→1≤k∧k≤1048576):∀e∈l,inI e.1:=fun e he=>by
 have:=h e.1 e.2.1 (bT w.keys (b:=e.2.2) (by exact he));unfold inI;omega
theorem PS.Inv.toOk(h:s.Inv):s.Ok where
 w1:=h.w1
 w2:=h.w2
 w3:=h.w3
 w4:=h.w4
 b1:=kr h.w1 fun k f hk=>(h.i1 k f hk).2
 b2:=kr h.w2 fun k f hk=>(h.i2 k f hk).2
 b3:=kr h.w3 fun k f hk=>(h.i3 k f hk).2
 b4:=kr h.w4 fun k f hk=>(h.i4 k f hk).2
 l1:=Q6 h.l1 (by omega)
 l2:=Q6 h.l2 (by omega)
 l3:=Q6 h.l3 (by omega)
 l4:=Q6 h.l4 (by omega)
 tg:=fun t ht=>by
  obtain⟨k,hk⟩:=aK ht;exact Q6 (h.tg k t hk).2 (by omega)
theorem PS.Inv.tags(h:s.Inv)(id:Int):Srt ((lkM s.it id).getD It.z).tags∧((lkM s.it id).getD It.z).tags.length≤8:=by
 cases hl:lkM s.it id with
 |none=>exact⟨by simp[It.z,Srt],by simp[It.z]⟩
 |some t=>exact h.tg id t hl
end
section
section
variable {C:Ctx} {B n:Nat} {S:Addr→Prop} {μ μ2:Map} {h:Heap} {w:World}
theorem BlkFits.turn{m:MB}{k:Blk}(hk:(∃(w0:World) (S0:Addr→Prop) (μ0:Map) (m0:MB),μ0.length≤n∧BlkFits w0 S0 μ0 m0 k)∨CloB n k)(hb:BlkFits w S μ m k)(st:Step B S (μ.take n) w S μ2 w):BlkFits w S μ2 m k:=by
 have go:∀{x:AVal} {v:Value},Clo n x→Rep w S μ x v→Rep w S μ2 x v:=fun c r=>(c.rep r fun _ h=>h).mono st
 cases k with
 |iter s pos=>exact hb
 |dead=>trivial
 |df=>exact hb
 |lp l m t ps ass body s pe=>
  obtain⟨g0,g1,fn,D,tmps,g2,g3,g4⟩:=hb;refine⟨g0,g1,fn,D,tmps,g2,g3,fun i hi=>?_⟩;rcases hk with⟨_,_,_,_,hle,hold⟩|hclo
  ·obtain⟨_,_,_,_,_,_,_,k4⟩:=hold;exact go ((k4 i hi).clo.mono hle) (g4 i hi)
  ·exact go (hclo i hi) (g4 i hi)
 |mp es clock=>
  obtain⟨g0,b,cur,g1,g2,g3,g4⟩:=hb;refine⟨g0,b,cur,g1,g2,g3,fun i e he=>?_⟩;obtain⟨x,hx,r1,r2,r3⟩:=g4 i e he;rcases hk with⟨_,_,_,_,hle,hold⟩|hclo
  ·obtain⟨_,_,_,_,_,_,k4⟩:=hold;obtain⟨_,_,s1,s2,_⟩:=k4 i e he;exact⟨x,hx,go (s1.clo.mono hle) r1,go (s2.clo.mono hle) r2,r3⟩
  ·have hc:=hclo e (M3 he);exact⟨x,hx,go hc.1 r1,go hc.2 r2,r3⟩
 |mit q since seen last=>
  obtain⟨g0,b,r,g1,g2,g3⟩:=hb;refine⟨g0,b,r,g1,?_,g3⟩;rcases hk with⟨_,_,_,_,hle,hold⟩|hclo
  ·obtain⟨_,_,_,_,s2,_⟩:=hold;exact go (s2.clo.mono hle) g2
  ·exact go (Clo.hm q hclo) g2
 |row e sz ver rows=>
  refine⟨hb.hver,hb.hsize,hb.pos,hb.lens,hb.sto,?_⟩;rcases hb.lies with hl| ⟨b,cur,g1,g2,g3,g4,g5,g6⟩
  ·exact .inl hl
  ·refine .inr ⟨b,cur,g1,g2,g3,g4,g5,fun i r j c hi hj=>?_⟩;obtain⟨x,hx,hr⟩:=g6 i r j c hi hj;refine⟨x,hx,?_⟩;rcases hk with⟨_,_,_,_,hle,hold⟩|hclo
   ·rcases RowFits.lies hold with⟨_,h0⟩| ⟨_,_,_,_,_,_,_,k6⟩
    ·rw[h0]at hi;cases hi
    ·obtain⟨_,_,hr0⟩:=k6 i r j c hi hj;exact go (hr0.clo.mono hle) hr
   ·exact go ((hclo r (M3 hi)).cells c (M3 hj)) hr
def trn(L:Nat):AVal→AVal
 | .hm p=>if p<L then .hm p else .hm (p-1)
 |x=>x
theorem yj(L:Nat)(c:AVal)(h:c.sto=true):(trn L c).sto=true:=by
 cases c<;>first|exact h| (show AVal.sto (if _<L then AVal.hm _ else AVal.hm (_-1))=true;split<;>rfl)
theorem Sat.turn{f:FuncId}{args:List AVal}{e size:Nat}{cs:List AVal}{ms:List Blk}(hcs:∀c∈cs,Clo h.length c∨∃p,c=.hm (h.length+1+p))(hcl:∀c∈cs,Clo h.length c→trn h.length c=c)(hms:∀k∈ms,CloB h.length k)
  (hs:Sat C f args h (fun r h'=>r=.hp h.length 0 0 0∧h'=h++ .row e size 0 [.agg cs]::ms)):
  Sat C f args h (fun r h'=>r=.hp (h.length+ms.length) 0 0 0∧h'=h++(ms++[.row e size 0 [.agg (cs.map (trn h.length))]])):=by
 unfold Sat at hs ⊢;intro B S μ w vs fit rl;refine(hs B S μ w vs fit rl).mono fun v w' hp=>?_
 obtain⟨r,h',S',μ',⟨e1,e2⟩,st,f',rep⟩:=hp;subst e1 e2;have hl:=f'.len;rw[K7,L6]at hl;obtain⟨A,m0,M,rfl,hA,hM⟩:∃A m0 M,μ'=A++m0::M∧A.length=h.length∧M.length=ms.length:=by
  have h1:=W4 h.length μ';have h2:(μ'.drop h.length).length=ms.length+1:=by rw[O8];omega
  rcases hd:μ'.drop h.length with _| ⟨m0,M⟩
  ·rw[hd]at h2;simp at h2
  ·rw[hd]at h1 h2;exact⟨_,m0,M,h1.symm,by rw[O3];omega,by simpa using h2⟩
 have hA':(A++m0::M).take h.length=A:=by rw[← hA];exact V1 rfl
 have p1:∀p,p<h.length→(A++(M++[m0]))[p]? =(A++m0::M)[p]? :=fun p hp=>by
  rw[L9 (by omega),L9 (by omega)]
 have p2:∀i,i<ms.length→(A++(M++[m0]))[h.length+i]? =(A++m0::M)[h.length+1+i]? :=fun i hi=>by
  rw[show(A++(M++[m0]))[h.length+i]? =M[i]? from by rw[M1 (by omega),hA,U5,L9 (by omega)],
   show(A++m0::M)[h.length+1+i]? =M[i]? from by rw[M1 (by omega),hA,show h.length+1+i-h.length=i+1 by omega,T6]]
 have p3:(A++(M++[m0]))[h.length+ms.length]? =(A++m0::M)[h.length]? :=by
  rw[show(A++(M++[m0]))[h.length+ms.length]? =some m0 from by rw[M1 (by omega),hA,U5,M1 (by omega),hM,X0];rfl,
   show(A++m0::M)[h.length]? =some m0 from by rw[M1 (by omega),hA,X0];rfl]
 have pA:∀p m,(A++(M++[m0]))[p]? =some m→∃q,(A++m0::M)[q]? =some m∧((p<h.length∧q=p)∨(∃i,i<ms.length∧p=h.length+i∧q=h.length+1+i)∨(p=h.length+ms.length∧q=h.length)):=fun p m hm=>by
  have hlt:=(f9.1 hm).1;simp only[K7,L6,M9]at hlt;rcases T3 p h.length with h1|h1
  ·exact⟨p,by rw[← p1 p h1];exact hm,.inl ⟨h1,rfl⟩⟩
  rcases T3 p (h.length+ms.length)with h2|h2
  ·refine⟨p+1,?_,.inr (.inl ⟨p-h.length,by omega,by omega,by omega⟩)⟩;have:=p2 (p-h.length) (by omega);rw[show h.length+(p-h.length)=p by omega,show h.length+1+(p-h.length)=p+1 by omega]at this;rw[← this];exact hm
  ·have:p=h.length+ms.length:=by omega
   subst this;exact⟨h.length,by rw[← p3];exact hm,.inr (.inr ⟨rfl,rfl⟩)⟩
 have hμ:μ.length=h.length:=fit.len;have st2:Step B S' ((A++m0::M).take h.length) w' S' (A++(M++[m0])) w':=⟨fun _ h=>h,fun _ _=>rfl,V4 _ _,fun p m hm=>by
  rw[hA']at hm;have:=(f9.1 hm).1;exact⟨m,by rw[L9 this];exact hm,M0 _,fun _=>rfl⟩,fun _ h=>.inl h⟩
 have st':Step B S μ w S' (A++(M++[m0])) w':=⟨st.sub,st.keep,st.below,fun p m hm=>by
  obtain⟨m',h1,h2⟩:=st.map p m hm;have:=(f9.1 hm).1;exact⟨m',by rw[p1 p (by omega)];exact h1,h2⟩,st.new⟩
 have go:∀{x:AVal} {v:Value},Clo h.length x→Rep w' S' (A++m0::M) x v→Rep w' S' (A++(M++[m0])) x v:=fun c r=>(c.rep r fun _ h=>h).mono st2
 refine⟨_,_,S',A++(M++[m0]),⟨rfl,rfl⟩,st',⟨fun g cs hg=>?_,?_,?_,?_,f'.base,f'.lie,?_⟩,?_⟩
 ·have:=(fit.glob g cs hg).clo;rw[hμ]at this;exact go this (f'.glob g cs hg)
 ·simp only[K7,L6,M9];omega
 ·intro p q m m' b h1 h2 e1 e2;obtain⟨p',a1,a2⟩:=pA p m h1;obtain⟨q',b1,b2⟩:=pA q m' h2;have:=f'.sep p' q' m m' b a1 b1 e1 e2;rcases a2 with⟨_,_⟩| ⟨_,_,_,_⟩| ⟨_,_⟩<;>rcases b2 with⟨_,_⟩| ⟨_,_,_,_⟩| ⟨_,_⟩<;>omega
 ·intro p m b h1 e1;obtain⟨p',a1,_⟩:=pA p m h1;exact f'.own p' m b a1 e1
 ·intro p m k h1 h2;obtain⟨q,a1,a2⟩:=pA p m h1;rcases a2 with⟨c1,rfl⟩| ⟨i,c1,rfl,rfl⟩| ⟨rfl,rfl⟩
  ·rw[L9 c1]at h2;have hq:q<μ.length:=(by omega);exact(f'.blk q m k a1 (by rw[L9 c1];exact h2)).turn (n:=h.length) (.inl ⟨w,S,μ,μ[q],by omega,fit.blk q _ k (K6 hq) h2⟩) st2
  ·rw[M1 (by omega),show h.length+i-h.length=i by omega,L9 c1]at h2;exact(f'.blk _ m k a1 (by rw[M1 (by omega),show h.length+1+i-h.length=i+1 by omega];exact h2)).turn (n:=h.length) (.inr (hms k (M3 h2))) st2
  ·rw[M1 (by omega),show h.length+ms.length-h.length=ms.length by omega,M1 (by omega),X0]at h2;cases h2;have hb:=f'.blk _ m _ a1 (by rw[M1 (by omega),X0];rfl);have hb:RowFits w' S' (A++m0::M) m e size 0 [.agg cs]:=hb;have cell:∀(i:Nat) (r:AVal) (j:Nat) (c:AVal),[AVal.agg (cs.map (trn h.length))][i]? =some r→r.cells[j]? =some c→i=0∧∃d,cs[j]? =some d∧c=trn h.length d:=fun i r j c hi hj=>by
    match i with
    |0=>
     cases hi;have hj:(cs.map (trn h.length))[j]? =some c:=hj;rw[M5]at hj;obtain⟨d,hd,rfl⟩:=N3.1 hj;exact⟨rfl,d,hd,rfl⟩
    |i+1=>simp at hi
   refine⟨hb.hver,hb.hsize,hb.pos,fun i r hi=>?_,fun i r j c hi hj=>?_,?_⟩
   ·match i with
    |0=>cases hi;rw[← hb.lens 0 _ rfl];simp[AVal.cells]
    |i+1=>simp at hi
   ·obtain⟨rfl,d,hd,rfl⟩:=cell i r j c hi hj;exact yj _ _ (hb.sto 0 _ j d rfl hd)
   ·rcases hb.lies with⟨_,h0⟩| ⟨b,cur,g1,g2,g3,g4,g5,g6⟩
    ·cases h0
    ·refine .inr ⟨b,cur,g1,g2,g3,g4,g5,fun i r j c hi hj=>?_⟩;obtain⟨rfl,d,hd,rfl⟩:=cell i r j c hi hj;obtain⟨x,hx,hr⟩:=g6 0 _ j d rfl hd;refine⟨x,hx,?_⟩;have hdm:=M3 hd;rcases hcs d hdm with hc| ⟨i,rfl⟩
     ·rw[hcl d hdm hc];exact go hc hr
     ·have et:trn h.length (.hm (h.length+1+i))=.hm (h.length+i):=by
       show(if h.length+1+i<h.length then AVal.hm (h.length+1+i)else .hm (h.length+1+i-1))=_;rw[K4 (by omega)];congr 1;omega
      rw[et];cases hr with
      |hm _ m v q1 q2 q3 q4=>
       have hi:i<ms.length:=by
        have:=(f9.1 q1).1;simp only[K7,L6]at this;omega
       exact .hm _ m _ (by rw[p2 i hi];exact q1) q2 q3 q4
 ·cases rep with
  |hp _ _ _ _ m v q1 q2 q3 q4 q5=>exact .hp _ _ _ _ m _ (by rw[p3];exact q1) q2 q3 q4 q5
end
theorem bE{C:Ctx}{f:FuncId}{fn:Func}{ρ:Go.Shelf.Ren}(L:SlLaysW.n5 C.P ρ)(hρ:ρ.f 5=f)(hf:C.P.funcs[f]? =some fn)(hb:fn.body.isNone=false)(hname:(fn.name== "runtime.NumGoroutine")=false){h:Heap}{p c:Nat}{es:List (AVal×AVal×Nat)}(hm:mapAt h p=some (es,c)):
  Sat C f [.hm p] h (fun r h'=>r=.hm h.length∧h'=h++[.mp es c]):=by
 have hk:h[p]? =some (.mp es c):=by
  unfold mapAt at hm;split at hm
  ·cases hm;assumption
  ·cases hm
 unfold Sat;intro B S μ w us fit rl;obtain⟨v,rfl⟩:∃v,us=[v]:=by
  have h1:=rl.1
  match us,h1 with
  | [v],_=>exact⟨v,rfl⟩
 have hr:Rep w S μ (.hm p) v:=rl.2 0 _ rfl;cases hr with
 |hm _ m _ h1 h2 h3 h4=>
  obtain⟨h0,b,cur,e1,e2,e3,e4⟩:=fit.blk p m _ h1 hk;obtain⟨b',e1',e5⟩:=h4 h0;rw[e1]at e1';cases e1';subst e5;rw[cC hf hb hname];have key:=AnyW.maps_Clone L b cur c w e2;rw[hρ]at key;refine key.mono fun e w' ⟨k1,k2⟩=>?_
  subst k2;have st:=bb fit (.map cur c) ⟨some w.heap.size,0,0,0⟩;refine⟨_,k1,_,_,S,_,⟨rfl,rfl⟩,st,fit.alloc (.map cur c) ⟨some w.heap.size,0,0,0⟩ (.mp es c) rfl ⟨rfl,w.heap.size,cur,rfl,(MapKept.heap_alloc w _).1,e3,fun i e he=>?_⟩,?_⟩
  ·obtain⟨x,hx,r1,r2,r3⟩:=e4 i e he;exact⟨x,hx,r1.mono st,r2.mono st,r3⟩
  ·refine .hm _ ⟨some w.heap.size,0,0,0⟩ _ (by rw[← fit.len];simp) (fun cs=>by simp) rfl fun _=>⟨w.heap.size,rfl,rfl⟩
end
section
attribute [local irreducible] WP WPl WPix Sat
section
variable {α:Type}
def ixO(key:α→Int)(id:Int):List α→Option Nat
 | []=>none
 |a::l=>if key a=id then some 0 else(ixO key id l).map (· +1)
def posF(key:α→Int)(l:List α)(id:Int):Int:=match ixO key id l with
 |some k=>(k:Int)
 |none=> -1
def fnd(key:α→Int)(l:List α)(id:Int):Option α:=l.find? fun a=>decide (key a=id)
theorem o8{key:α→Int}{id:Int}:∀{l:List α} {k:Nat} {a:α},l[k]? =some a→key a=id→(∀b∈l.take k,key b≠id)→ixO key id l=some k
 | [],k,a,h,_,_=>by simp at h
 |b::l,0,a,h,ha,_=>by simp at h;subst h;rw[ixO,L7 ha]
 |b::l,k+1,a,h,ha,hf=>by
  rw[ixO,K4 (hf b (by simp)),o8 (by simpa using h) ha (fun c hc=>hf c (by simp[hc]))];rfl
theorem o9{key:α→Int}{id:Int}:∀{l:List α},(∀b∈l,key b≠id)→ixO key id l=none
 | [],_=>rfl
 |b::l,hf=>by rw[ixO,K4 (hf b (by simp)),o9 (fun c hc=>hf c (by simp[hc]))];rfl
theorem dn{key:α→Int}{id:Int}{l:List α}{k:Nat}{a:α}(h:l[k]? =some a)(ha:key a=id)(hf:∀b∈l.take k,key b≠id):posF key l id=(k:Int):=by
 unfold posF;rw[o8 h ha hf]
theorem cG{key:α→Int}{id:Int}{l:List α}(hf:∀b∈l,key b≠id):posF key l id= -1:=by
 unfold posF;rw[o9 hf]
theorem bn{key:α→Int}{id:Int}:∀{l:List α} {a:α},fnd key l id=some a→∃k:Nat,l[k]? =some a∧posF key l id=(k:Int)∧key a=id
 | [],a,h=>by simp[fnd]at h
 |b::l,a,h=>by
  unfold fnd at h;rw[List.find?_cons]at h;by_cases hb:key b=id
  ·rw[N7 hb]at h;simp at h;subst h;exact⟨0,rfl,by unfold posF;rw[ixO,L7 hb],hb⟩
  ·rw[N8 hb]at h;simp at h;obtain⟨k,h1,h2,h3⟩:=bn (key:=key) (l:=l) h;refine⟨k+1,by simpa using h1,?_,h3⟩;unfold posF at h2 ⊢;rw[ixO,K4 hb];cases hx:ixO key id l with
   |none=>rw[hx]at h2;simp at h2
   |some j=>rw[hx]at h2;simp at h2 ⊢;omega
theorem wE{key:α→Int}{id:Int}{l:List α}(h:fnd key l id=none):∀b∈l,key b≠id:=fun b hb=>by
 have:=Y9.1 h b hb;simpa using this
theorem gA{key:α→Int}{id:Int}{l:List α}(h:fnd key l id=none):posF key l id= -1:=cG (wE h)
end
variable (G:Nat→Option (List AVal))
theorem cT(x:St)(id:Int)(hl:x.fo.length≤100000)(h:Heap):Sat (CT G) 126 [x.av,.int .i64 id] h (fun r h'=>r=.int .i64 (posF (·.id) x.fo id)∧h'=h):=by
 have hel:(x.fo.map Fo.av).length=x.fo.length:=L5 ..;have F:=hel;refine sb [.tmp 4] Tryz.func126 ?_;intro Q hQ;refine wk F ?_;refine lm (fun nL tL hL=>∃(k:Nat),x.fo.length-k=nL∧h++[.row 41 9 0 [x.av]]=hL∧tL 1=.int .i64 id∧tL 2=.hp h.length 0 0 0∧tL 5=.int .i64 k∧k≤x.fo.length∧(∀f∈x.fo.take k,f.id≠id)) ((fun(k:Nat)=>(x.fo.length-k:Nat)) (0)) ?_ ?_
 ·refine L8 ⟨0,rfl,aw,?_,?_,?_,by omega,by simp⟩;all_goals try exact zZz F
 rintro _ s2 h' ⟨k,rfl,rfl,e1,e2,e5,hk,hp⟩ K2 hK2;simp only[ah,ao,Nat.reduceEqDiff, ↓reduceIte]at e1 e2 e5;have F:=F4 F e1 e2 e5;refine wk F ?_;refine cq F (fun c1=>?_) (fun c1=>?_)<;>(try exact c1.elim)<;>(refine wk F ?_)
 ·have c2:k<x.fo.length:=by omega
  obtain⟨f,hf,hfm⟩:=ac c2;have F:=F3 F c2 hf;try refine sq F ?_
  refine wk F ?_;refine cq F (fun c3=>?_) (fun c3=>?_)<;>(try exact c3.elim)<;>(refine wk F ?_)
  ·refine ee hQ F ?_;exact K9 (.int _ _) ⟨by rw[dn hf (by first|exact c3|exact c3.symm) hp],rfl⟩
  ·have hp1:∀g∈x.fo.take (k+1),g.id≠id:=by
    rw[O7,hf];intro g hg;simp at hg;rcases hg with hg|rfl
    ·exact hp g hg
    ·exact c3
   refine hK2 _ _ _ (L8 ⟨k+1,rfl,aw,?_,?_,?_,by omega,hp1⟩) (by omega);all_goals try exact zZz F
 ·rw[M4 (by omega)]at hp;refine ee hQ F ?_;exact K9 (.int _ _) ⟨by rw[cG hp],rfl⟩
theorem dq(x:St)(id:Int)(hl:x.fe.length≤100000)(h:Heap):Sat (CT G) 95 [x.av,.int .i64 id] h (fun r h'=>r=.int .i64 (posF (·.id) x.fe id)∧h'=h):=by
 have hel:(x.fe.map Fe.av).length=x.fe.length:=L5 ..;have F:=hel;refine sb [.tmp 4] Tryz.func95 ?_;intro Q hQ;refine wk F ?_;refine lm (fun nL tL hL=>∃(k:Nat),x.fe.length-k=nL∧h++[.row 41 9 0 [x.av]]=hL∧tL 1=.int .i64 id∧tL 2=.hp h.length 0 0 0∧tL 5=.int .i64 k∧k≤x.fe.length∧(∀f∈x.fe.take k,f.id≠id)) ((fun(k:Nat)=>(x.fe.length-k:Nat)) (0)) ?_ ?_
 ·refine L8 ⟨0,rfl,aw,?_,?_,?_,by omega,by simp⟩;all_goals try exact zZz F
 rintro _ s2 h' ⟨k,rfl,rfl,e1,e2,e5,hk,hp⟩ K2 hK2;simp only[ah,ao,Nat.reduceEqDiff, ↓reduceIte]at e1 e2 e5;have F:=F4 F e1 e2 e5;refine wk F ?_;refine cq F (fun c1=>?_) (fun c1=>?_)<;>(try exact c1.elim)<;>(refine wk F ?_)
 ·have c2:k<x.fe.length:=by omega
  obtain⟨f,hf,hfm⟩:=ac c2;have F:=F3 F c2 hf;try refine sq F ?_
  refine wk F ?_;refine cq F (fun c3=>?_) (fun c3=>?_)<;>(try exact c3.elim)<;>(refine wk F ?_)
  ·refine ee hQ F ?_;exact K9 (.int _ _) ⟨by rw[dn hf (by first|exact c3|exact c3.symm) hp],rfl⟩
  ·have hp1:∀g∈x.fe.take (k+1),g.id≠id:=by
    rw[O7,hf];intro g hg;simp at hg;rcases hg with hg|rfl
    ·exact hp g hg
    ·exact c3
   refine hK2 _ _ _ (L8 ⟨k+1,rfl,aw,?_,?_,?_,by omega,hp1⟩) (by omega);all_goals try exact zZz F
 ·rw[M4 (by omega)]at hp;refine ee hQ F ?_;exact K9 (.int _ _) ⟨by rw[cG hp],rfl⟩
theorem fN(x:St)(id:Int)(hl:x.it.length≤100000)(h:Heap):Sat (CT G) 96 [x.av,.int .i64 id] h (fun r h'=>r=.int .i64 (posF (·.id) x.it id)∧h'=h):=by
 have hel:(x.it.map It.av).length=x.it.length:=L5 ..;have F:=hel;refine sb [.tmp 4] Tryz.func96 ?_;intro Q hQ;refine wk F ?_;refine lm (fun nL tL hL=>∃(k:Nat),x.it.length-k=nL∧h++[.row 41 9 0 [x.av]]=hL∧tL 1=.int .i64 id∧tL 2=.hp h.length 0 0 0∧tL 5=.int .i64 k∧k≤x.it.length∧(∀f∈x.it.take k,f.id≠id)) ((fun(k:Nat)=>(x.it.length-k:Nat)) (0)) ?_ ?_
 ·refine L8 ⟨0,rfl,aw,?_,?_,?_,by omega,by simp⟩;all_goals try exact zZz F
 rintro _ s2 h' ⟨k,rfl,rfl,e1,e2,e5,hk,hp⟩ K2 hK2;simp only[ah,ao,Nat.reduceEqDiff, ↓reduceIte]at e1 e2 e5;have F:=F4 F e1 e2 e5;refine wk F ?_;refine cq F (fun c1=>?_) (fun c1=>?_)<;>(try exact c1.elim)<;>(refine wk F ?_)
 ·have c2:k<x.it.length:=by omega
  obtain⟨f,hf,hfm⟩:=ac c2;have F:=F3 F c2 hf;try refine sq F ?_
  refine wk F ?_;refine cq F (fun c3=>?_) (fun c3=>?_)<;>(try exact c3.elim)<;>(refine wk F ?_)
  ·refine ee hQ F ?_;exact K9 (.int _ _) ⟨by rw[dn hf (by first|exact c3|exact c3.symm) hp],rfl⟩
  ·have hp1:∀g∈x.it.take (k+1),g.id≠id:=by
    rw[O7,hf];intro g hg;simp at hg;rcases hg with hg|rfl
    ·exact hp g hg
    ·exact c3
   refine hK2 _ _ _ (L8 ⟨k+1,rfl,aw,?_,?_,?_,by omega,hp1⟩) (by omega);all_goals try exact zZz F
 ·rw[M4 (by omega)]at hp;refine ee hQ F ?_;exact K9 (.int _ _) ⟨by rw[cG hp],rfl⟩
theorem fZ(x:St)(id:Int)(hl:x.se.length≤100000)(h:Heap):Sat (CT G) 133 [x.av,.int .i64 id] h (fun r h'=>r=.int .i64 (posF (·.id) x.se id)∧h'=h):=by
 have hel:(x.se.map Se.av).length=x.se.length:=L5 ..;have F:=hel;refine sb [.tmp 4] Tryz.func133 ?_;intro Q hQ;refine wk F ?_;refine lm (fun nL tL hL=>∃(k:Nat),x.se.length-k=nL∧h++[.row 41 9 0 [x.av]]=hL∧tL 1=.int .i64 id∧tL 2=.hp h.length 0 0 0∧tL 5=.int .i64 k∧k≤x.se.length∧(∀f∈x.se.take k,f.id≠id)) ((fun(k:Nat)=>(x.se.length-k:Nat)) (0)) ?_ ?_
 ·refine L8 ⟨0,rfl,aw,?_,?_,?_,by omega,by simp⟩;all_goals try exact zZz F
 rintro _ s2 h' ⟨k,rfl,rfl,e1,e2,e5,hk,hp⟩ K2 hK2;simp only[ah,ao,Nat.reduceEqDiff, ↓reduceIte]at e1 e2 e5;have F:=F4 F e1 e2 e5;refine wk F ?_;refine cq F (fun c1=>?_) (fun c1=>?_)<;>(try exact c1.elim)<;>(refine wk F ?_)
 ·have c2:k<x.se.length:=by omega
  obtain⟨f,hf,hfm⟩:=ac c2;have F:=F3 F c2 hf;try refine sq F ?_
  refine wk F ?_;refine cq F (fun c3=>?_) (fun c3=>?_)<;>(try exact c3.elim)<;>(refine wk F ?_)
  ·refine ee hQ F ?_;exact K9 (.int _ _) ⟨by rw[dn hf (by first|exact c3|exact c3.symm) hp],rfl⟩
  ·have hp1:∀g∈x.se.take (k+1),g.id≠id:=by
    rw[O7,hf];intro g hg;simp at hg;rcases hg with hg|rfl
    ·exact hp g hg
    ·exact c3
   refine hK2 _ _ _ (L8 ⟨k+1,rfl,aw,?_,?_,?_,by omega,hp1⟩) (by omega);all_goals try exact zZz F
 ·rw[M4 (by omega)]at hp;refine ee hQ F ?_;exact K9 (.int _ _) ⟨by rw[cG hp],rfl⟩
end
section
variable {c d:CS} {s:PS} {e:Ev}
end
section
attribute [local irreducible] WP WPl WPix Sat
variable (G:Nat→Option (List AVal))
def CS.mkFo(c:CS)(f:Fo):CS:= {c with fo:=upM c.fo c.c1 f.id (0,0),c1:=ckM c.fo c.c1 f.id,ab:=upM c.ab c.c6 f.id f.inn,c6:=ckM c.ab c.c6 f.id}
def CS.mkFe(c:CS)(f:Fe):CS:= {c with fe:=upM c.fe c.c2 f.id (0,0),c2:=ckM c.fe c.c2 f.id,inn:=upM c.inn c.c5 f.id f.inn,c5:=ckM c.inn c.c5 f.id}
end
section
variable {c d:CS} {s:PS} {e:Ev}
theorem bG{α:Type}{z:α}{l:ML Int α}{k:Int}{a:α}(h:lkM l k=some a):a∈valsM z l:=by
 unfold valsM;refine M7.2 ⟨k,?_,by rw[h];rfl⟩;refine(U4 _ _).mem_iff.2 ?_;obtain⟨n,hn⟩:=dL h;exact M7.2 ⟨_,hn,rfl⟩
theorem uc{α:Type}{z:α}{l:ML Int α}(idf:α→Int)(hid:∀k a,lkM l k=some a→idf a=k)(x:Int):(valsM z l).find? (fun a=>decide (idf a=x))=lkM l x:=by
 cases hl:lkM l x with
 |none=>
  rw[Y9];intro a ha;obtain⟨k,hk⟩:=aK ha;have:=hid k a hk;simp only[K8];rintro rfl;rw[this,hk]at hl;cases hl
 |some a=>
  have hm:=bG (z:=z) hl;have hs:((valsM z l).find? (fun a=>decide (idf a=x))).isSome=true:=by
   rw[List.find?_isSome];exact⟨a,hm,by simp[hid x a hl]⟩
  obtain⟨b,hb⟩:=M8.1 hs;have h1:=List.find?_some hb;simp only[K8]at h1;obtain⟨k,hk⟩:=aK (Z2 hb);have h2:=hid k b hk;rw[hb, ← hl, ← h1,h2,hk]
theorem wF{α:Type}{z:α}{l:ML Int α}{c:Nat}(w:WFM l c)(idf:α→Int)(hid:∀k a,lkM l k=some a→idf a=k):(valsM z l).map idf=sortI (l.map (·.1)):=by
 unfold valsM;rw[Y6];have:∀k∈sortI (l.map (·.1)),(idf ∘ fun k=>(lkM l k).getD z) k=k:=fun k hk=>by
  have hk2:k∈l.map (·.1):=(U4 _ _).mem_iff.1 hk;obtain⟨x,hx,rfl⟩:=M7.1 hk2;have:=bT w.keys (b:=x.2.2) (a:=x.2.1) (x:=x.1) hx;simp only[Function.comp,this,Q0];exact hid _ _ this
 rw[T4 this,List.map_id']
theorem pz{l:List Int}(h:l.Nodup):(sortI l).Nodup:=(U4 l _).nodup_iff.2 h
theorem aM{α:Type}{z:α}(l:ML Int α):(valsM z l).length=l.length:=by unfold valsM;rw[L5,cE,L5]
end
end Go.Av
