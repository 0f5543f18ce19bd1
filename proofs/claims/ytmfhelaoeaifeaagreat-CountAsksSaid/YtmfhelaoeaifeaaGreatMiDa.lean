/- Moments: which are there (date.Of). -/
import Derived.Test.YtmfhelaoeaifeaaGreatMiEb
set_option linter.unusedSimpArgs false
set_option linter.unusedVariables false
set_option linter.unusedSectionVars false
set_option linter.unnecessarySimpa false
set_option maxRecDepth 100000
set_option maxHeartbeats 16000000
namespace Go.Av
open Go Go.Proofs Go.RowKit
def encS(t:Bs):Value:=.string ⟨t.toArray⟩
theorem Only.setCells(b:Nat):∀(vs:List Value) (o:Nat) (w:World),Only w (w.setCells b o vs) (some b)
 | [],_,_=>Only.refl _ _
 |v::r,o,w=>(Only.setCell w ⟨b,o,none⟩ v).trans (Only.setCells b r (o+1) _)
theorem Only.alloc(w:World)(o:Obj)(q:Option Nat):Only w (w.alloc o) q:=
 ⟨rfl,rfl,rfl,by simp,fun k hk _=>Below.heap_alloc w o k hk⟩
theorem Only.into{w w1 w2:World}{q:Option Nat}{g:Nat}(h:Only w w1 q)(k:Only w1 w2 (some g))(hg:w.heap.size≤g):Only w w2 q:=
 ⟨k.os.trans h.os,k.tape.trans h.tape,k.output.trans h.output,Nat.le_trans h.size k.size,
  fun i hi hq=>(k.block i (Nat.lt_of_lt_of_le hi h.size) (fun e=>by cases e;omega)).trans (h.block i hi hq)⟩
theorem Only.putRow{α:Type}[Inhabited α](enc:α→Value)(w:World)(b off:Nat)(d:Array α):Only w (Go.Sort.putRow enc w b off d) (some b):=
 ⟨rfl,rfl,rfl,by simp,fun k _ hq=>by
  have:b≠k:=fun e=>hq (by rw[e])
  simp[Go.Sort.putRow,Go.Sort.mapBlock,Array.getElem?_modify,this]⟩
section
variable {C:Ctx} {B:Nat} {S:Addr→Prop} {μ:Map} {h:Heap} {w w':World}
theorem Fits.give(f:Fits C B S μ h w){p:Nat}{m:MB}(hm:μ[p]? =some m){g:Nat}(hg:∀q m',μ[q]? =some m'→m'.blk=some g→q=p)(hB:B≤g)(hgl:g<w.heap.size):
  Step B S μ w (fun a=>S a∨a.block=g) (μ.set p ⟨none,m.ver+1,m.size,m.cap⟩) w∧Fits C B (fun a=>S a∨a.block=g) (μ.set p ⟨none,m.ver+1,m.size,m.cap⟩) (h.set p .dead) w:=by
 have hlt:=(List.getElem?_eq_some_iff.1 hm).1
 have st:Step B S μ w (fun a=>S a∨a.block=g) (μ.set p ⟨none,m.ver+1,m.size,m.cap⟩) w:=⟨fun a ha=>.inl ha,fun _ _=>rfl,Below.refl _ _,bt hm (by simp) (fun e=>by simp at e),fun a ha=>by
  rcases ha with ha|ha
  ·exact .inl ha
  ·exact .inr (by omega)⟩
 have at_:∀q k,(μ.set p ⟨none,m.ver+1,m.size,m.cap⟩)[q]? =some k→(q=p∧k.blk=none)∨(q≠p∧μ[q]? =some k):=by
  intro q k hq
  by_cases e:p=q
  ·subst e;rw[List.getElem?_set_self hlt]at hq;cases hq;exact .inl ⟨rfl,rfl⟩
  ·rw[List.getElem?_set_ne e]at hq;exact .inr ⟨fun e'=>e e'.symm,hq⟩
 refine⟨st,⟨fun g cs hg=>(f.glob g cs hg).mono st,by simp[f.len],?_,?_,f.base,?_,?_⟩⟩
 ·intro p1 q1 m1 m2 b h1 h2 e1 e2
  rcases at_ p1 m1 h1 with⟨_,k1⟩| ⟨_,k1⟩
  ·rw[k1]at e1;cases e1
  ·rcases at_ q1 m2 h2 with⟨_,k2⟩| ⟨_,k2⟩
   ·rw[k2]at e2;cases e2
   ·exact f.sep p1 q1 m1 m2 b k1 k2 e1 e2
 ·intro p1 m1 b h1 e1
  rcases at_ p1 m1 h1 with⟨_,k1⟩| ⟨r1,k1⟩
  ·rw[k1]at e1;cases e1
  ·obtain⟨a1,a2,a3⟩:=f.own p1 m1 b k1 e1
   refine⟨a1,a2,fun a ha=>?_⟩
   rcases ha with ha|ha
   ·exact a3 a ha
   ·intro e
    exact r1 (hg p1 m1 k1 (by rw[e1, ← e,ha]))
 ·intro a ha
  rcases ha with ha|ha
  ·exact f.lie a ha
  ·omega
 ·intro p1 m1 k1 h1 h2
  rcases at_ p1 m1 h1 with⟨rfl,_⟩| ⟨r1,h1⟩
  ·rw[List.getElem?_set_self (by rw[← f.len];exact hlt)]at h2;cases h2;trivial
  ·rw[List.getElem?_set_ne (fun e=>r1 e.symm)]at h2
   exact(f.blk p1 m1 k1 h1 h2).mono st fun b _=>rfl
theorem qO{g off cap:Nat}{ls:List Bs}(hS:∀a,a.block=g→S a)(hl:ls.length≤cap)(hm:cap≤maxLen)(hc:∀j x,ls[j]? =some x→w.cell? ⟨g,off+j,none⟩=some (encS x)):
  Rep w S μ (.sl 1 (ls.map .str)) (.slice (some ⟨g,off,none⟩) ls.length cap):=by
 by_cases hn:ls=[]
 ·subst hn;exact .sl0 1 _ cap
 have hlen:(ls.map AVal.str).length=ls.length:=List.length_map ..
 rw[← hlen]
 refine .sl 1 (ls.map .str) g off cap (fun i _=>encS (ls.getD i [])) (by simpa using hn) (by omega) hm (fun i x hx=>?_) (fun i x j c hx hj=>?_) (fun i x j c hx hj=>?_)
 ·obtain⟨a,_,rfl⟩:=List.mem_map.1 (List.mem_of_getElem? hx);rfl
 ·rw[List.getElem?_map]at hx
  obtain⟨a,ha,rfl⟩:=Option.map_eq_some_iff.1 hx
  match j with
  |0=>
   simp[AVal.cells]at hj;subst hj
   refine⟨hS _ rfl,?_,rfl⟩
   rw[show off+(i*1+0)=off+i by omega,hc i a ha]
   simp[List.getD,ha]
  |j+1=>simp[AVal.cells]at hj
 ·rw[List.getElem?_map]at hx
  obtain⟨a,ha,rfl⟩:=Option.map_eq_some_iff.1 hx
  match j with
  |0=>
   simp[AVal.cells]at hj;subst hj
   simp only[List.getD,ha,Option.getD_some]
   exact .str a
  |j+1=>simp[AVal.cells]at hj
theorem gE(f:Fits C B S μ h w){p:Nat}{m:MB}(hm:μ[p]? =some m)(o:Only w w' m.blk){g off cap:Nat}{ls:List Bs}(hg:m.blk=some g∨(w.heap.size≤g∧g<w'.heap.size))
  (hl:ls.length≤cap)(hx:cap≤maxLen)(hc:∀j x,ls[j]? =some x→w'.cell? ⟨g,off+j,none⟩=some (encS x)):
  ∃S' μ',Step B S μ w S' μ' w'∧Fits C B S' μ' (h.set p .dead) w'∧Rep w' S' μ' (.sl 1 (ls.map .str)) (.slice (some ⟨g,off,none⟩) ls.length cap):=by
 obtain⟨f1,st1⟩:=f.update (m':=⟨m.blk,m.ver+1,m.size,m.cap⟩) (k':=.dead) hm o (by simp) (fun e=>by simp at e) (.inl rfl) trivial
 have hlt:=(List.getElem?_eq_some_iff.1 hm).1
 have hm1:(μ.set p ⟨m.blk,m.ver+1,m.size,m.cap⟩)[p]? =some ⟨m.blk,m.ver+1,m.size,m.cap⟩:=List.getElem?_set_self hlt
 have hgg:(B≤g∧g<w'.heap.size)∧∀q m',(μ.set p ⟨m.blk,m.ver+1,m.size,m.cap⟩)[q]? =some m'→m'.blk=some g→q=p:=by
  rcases hg with hg| ⟨h1,h2⟩
  ·obtain⟨a1,a2,_⟩:=f.own p m g hm hg
   exact⟨⟨a1,Nat.lt_of_lt_of_le a2 o.size⟩,fun q m' hq hb=>f1.sep q p m' _ g hq hm1 hb hg⟩
  ·refine⟨⟨Nat.le_trans f.base h1,h2⟩,fun q m' hq hb=>?_⟩
   by_cases e:p=q
   ·exact e.symm
   ·rw[List.getElem?_set_ne e]at hq
    have:=(f.own q m' g hq hb).2.1
    omega
 obtain⟨st2,f2⟩:=f1.give hm1 hgg.2 hgg.1.1 hgg.1.2
 refine⟨_,_,st1.trans st2,?_,qO (fun a ha=>.inr ha) hl hx hc⟩
 simpa using f2
end
theorem fO{C:Ctx}{B:Nat}{S:Addr→Prop}{μ:Map}{h:Heap}{w:World}(f:Fits C B S μ h w){p ver len:Nat}{T:TypeId}{room:Bool}{l:List Bs}{v:Value}(hn:l≠ [])
  (hg:getRow h p ver=some (T,1,l.map .str))(hv:Rep w S μ (.hs p ver 0 len room) v):
  ∃m b cur,μ[p]? =some m∧m.blk=some b∧w.heap[b]? =some (.cells cur T (0,0))∧cur.size=m.cap∧l.length≤m.cap∧m.cap≤maxLen∧0<m.cap∧v=.slice (some ⟨b,0,none⟩) len (if room then m.cap else len)∧
   ∀j x,l[j]? =some x→w.cell? ⟨b,0+j,none⟩=some (encS x):=by
 obtain⟨m,hm,hf⟩:=f.row hg
 rcases hf.lies with⟨_,h2⟩| ⟨b,cur,hb,hheap,hsz,⟨h0,hle⟩,hmax,hcell⟩
 ·exact absurd (List.map_eq_nil_iff.1 h2) hn
 rcases hv.hs_now hm hf.hver with⟨h1,_⟩| ⟨b',hb',_,hve⟩
 ·rw[hb]at h1;cases h1
 rw[hb]at hb';cases hb'
 have hs1:=hf.hsize
 refine⟨m,b,cur,hm,hb,hheap,by omega,by simpa using hle,hmax,h0,by rw[hve];simp,fun j x hx=>?_⟩
 have hx':(l.map AVal.str)[j]? =some (.str x):=by rw[List.getElem?_map,hx];rfl
 obtain⟨u,hu,hr⟩:=hcell j (.str x) 0 (.str x) hx' rfl
 rw[hr.str_inv]at hu
 have hlt:=(Array.getElem?_eq_some_iff.1 hu).1
 simp only[World.cell?,hheap]
 have e:j*1+0=0+j:=by omega
 rw[e]at hu
 simpa [encS]using hu
theorem eG(w:World)(c:Array Value)(T:TypeId)(j:Nat):(w.alloc (.cells c T)).cell? ⟨w.heap.size,j,none⟩=c[j]? :=by
 simp only[World.cell?,bO]
 rfl
theorem cI(b:Nat):∀(vs:List Value) (o:Nat) (w:World) (k:Nat),(w.cell? ⟨b,k,none⟩).isSome=true→((w.setCells b o vs).cell? ⟨b,k,none⟩).isSome=true
 | [],_,_,_,h=>h
 |v::r,o,w,k,h=>cI b r (o+1) (w.setCell ⟨b,o,none⟩ v) k (by
  by_cases e:o=k
  ·subst e;obtain⟨u,hu⟩:=Option.isSome_iff_exists.1 h;rw[World.cell?_setCell_same _ _ _ hu];rfl
  ·rw[World.cell?_setCell_other _ _ _ _ (by simpa using e)];exact h)
theorem fw{w:World}{b o:Nat}{v:Value}(hs:(w.cell? ⟨b,o,none⟩).isSome=true):(w.setCells b o [v]).cell? ⟨b,o,none⟩=some v:=by
 have:=World.cell?_setCells_in b [v] o w (fun j hj=>by simp at hj;subst hj;exact hs) 0 (by simp)
 simpa using this
theorem fP(l:List Bs)(t:Bs)(i:Nat)(hi:i≤l.length)(j:Nat)(x:Bs)(hx:(l.take i++t::l.drop i)[j]? =some x):
  (j<i∧l[j]? =some x)∨(j=i∧x=t)∨(i<j∧l[j-1]? =some x):=by
 rcases Nat.lt_trichotomy j i with h|h|h
 ·rw[List.getElem?_append_left (by simp;omega),List.getElem?_take_of_lt h]at hx
  exact .inl ⟨h,hx⟩
 ·subst h
  rw[List.getElem?_append_right (by rw[List.length_take];omega)]at hx
  have:j-(l.take j).length=0:=by rw[List.length_take];omega
  rw[this]at hx;simp at hx
  exact .inr (.inl ⟨rfl,hx.symm⟩)
 ·rw[List.getElem?_append_right (by simp;omega)]at hx
  have:j-(l.take i).length=(j-i-1)+1:=by rw[List.length_take];omega
  rw[this,List.getElem?_cons_succ,List.getElem?_drop]at hx
  refine .inr (.inr ⟨h,?_⟩)
  rw[← hx];congr 1;omega
variable (G:Nat→Option (List AVal))
theorem nO(l:List Bs)(t:Bs)(i v1 v2:Nat)(rm:Bool)(hi:i≤l.length)(hn:l≠ [])(hl:l.length≤100000)(h:Heap):
  Sat (CT G) 67 [.hs h.length v1 0 l.length true,.int .i64 i,.hs (h.length+1) v2 0 1 rm] (h++[Blk.row 9 1 v1 (l.map .str),.row 9 1 v2 [.str t]])
   (fun r h'=>r=.sl 1 ((l.take i++t::l.drop i).map .str)∧h'=h++[.dead,.row 9 1 v2 [.str t]]):=by
 intro B S μ w us fit rl
 obtain⟨hul,hur⟩:=rl
 match us,hul,hur with
 | [u0,u1,u2],_,hur=>
  have r0:Rep w S μ (.hs h.length v1 0 l.length true) u0:=hur 0 _ rfl
  have r1:Rep w S μ (.int .i64 i) u1:=hur 1 _ rfl
  have r2:Rep w S μ (.hs (h.length+1) v2 0 1 rm) u2:=hur 2 _ rfl
  obtain rfl:=r1.int_inv
  have hg0:getRow (h++[Blk.row 9 1 v1 (l.map .str),.row 9 1 v2 [.str t]]) h.length v1=some (9,1,l.map .str):=by simp[getRow]
  have hg2:getRow (h++[Blk.row 9 1 v1 (l.map .str),.row 9 1 v2 [.str t]]) (h.length+1) v2=some (9,1,[t].map .str):=by simp[getRow]
  obtain⟨m,b,cur,hm,hb,hheap,hsz,hle,hmax,h0,rfl,hc⟩:=fO fit hn hg0 r0
  obtain⟨m2,b2,cur2,hm2,hb2,hheap2,hsz2,hle2,hmax2,h02,rfl,hc2⟩:=fO fit (by simp) hg2 r2
  simp only[↓reduceIte]
  have hne:b2≠b:=fun e=>by have:=fit.sep _ _ m2 m b hm2 hm (by rw[hb2,e]) hb;omega
  have hset:(h++[Blk.row 9 1 v1 (l.map .str),.row 9 1 v2 [.str t]]).set h.length .dead=h++[.dead,.row 9 1 v2 [.str t]]:=by simp[List.set_append]
  have hil:(l.take i++t::l.drop i).length=l.length+1:=by simp;omega
  change OpOk Tryz.prog _ ((callFunc 67 #[_,_,_]).run Tryz.prog w)
  rw[bF (f:=67) Tryz.func67 rfl rfl]
  have fin:∀(w':World) (g cap:Nat),Only w w' (some b)→(g=b∨(w.heap.size≤g∧g<w'.heap.size))→l.length+1≤cap→cap≤maxLen→
    (∀j x,(l.take i++t::l.drop i)[j]? =some x→w'.cell? ⟨g,0+j,none⟩=some (encS x))→
    OpPost (CT G) B S μ w (fun r h'=>r=.sl 1 ((l.take i++t::l.drop i).map .str)∧h'=h++[.dead,.row 9 1 v2 [.str t]]) (.slice (some ⟨g,0,none⟩) (l.length+1) cap) w':=by
   intro w' g cap ho hg hcap hmx hcell
   obtain⟨S',μ',st,f',rp⟩:=gE fit hm (by rw[hb];exact ho) (g:=g) (by rcases hg with rfl|hg;exact .inl hb;exact .inr hg) (by rw[hil];exact hcap) hmx hcell
   rw[hset]at f'
   rw[hil]at rp
   exact⟨_,_,S',μ',⟨rfl,rfl⟩,st,f',rp⟩
  have hcs:∀j v,(l.map encS)[j]? =some v→w.cell? ⟨b,0+j,none⟩=some v:=by
   intro j v hv
   rw[List.getElem?_map]at hv
   obtain⟨x,hx,rfl⟩:=Option.map_eq_some_iff.1 hv
   exact hc j x hx
  have hvs:∀j v,[encS t][j]? =some v→w.cell? ⟨b2,0+j,none⟩=some v:=by
   intro j v hv
   match j with
   |0=>simp at hv;subst hv;exact hc2 0 t rfl
   |j+1=>simp at hv
  have h1c:∀v∈l.map encS,v.oneCell'=true:=by intro v hv;obtain⟨x,_,rfl⟩:=List.mem_map.1 hv;rfl
  have h1v:∀v∈ [encS t],v.oneCell'=true:=by intro v hv;simp at hv;subst hv;rfl
  have there:∀k,k<m.cap→(w.cell? ⟨b,k,none⟩).isSome=true:=by
   intro k hk
   have:k<cur.size:=by omega
   simp[World.cell?,hheap,this]
  have mx:maxLen≤9223372036854775807:=by decide
  have hdr:(l.map encS).drop i=(l.drop i).map encS:=by rw[List.map_drop]
  by_cases hroom:l.length+1≤m.cap
  ·by_cases hil2:i=l.length
   ·subst hil2
    refine(Any2.slices_Insert_string_end_room Tryz.lays2_22 b 0 l.length m.cap b2 0 1 _ [encS t] w (by omega) hroom (by omega) rfl (fun j hj=>there _ (by omega)) (fun j hj=>by simp[World.frozen?,hheap]) hvs h1v).mono fun e w' ⟨he,hw⟩=>?_
    refine⟨_,he,fin w' b m.cap (by rw[hw];exact Only.setCells _ _ _ _) (.inl rfl) hroom hmax fun j x hx=>?_⟩
    rw[hw]
    rcases fP l t l.length (Nat.le_refl _) j x hx with⟨h1,h2⟩| ⟨rfl,rfl⟩| ⟨h1,h2⟩
    ·rw[World.cell?_setCells_out _ _ _ _ _ (fun _ _=>.inl (by simp;omega))];exact hc j x h2
    ·exact fw (there _ (by omega))
    ·have:=(List.getElem?_eq_some_iff.1 h2).1;omega
   ·refine(Any2.slices_Insert_string_shift Tryz.lays2_22 b 0 l.length m.cap i b2 0 1 _ (l.map encS) [encS t] w (by omega) (by omega) hroom (by omega) hne (by simp) rfl hcs (fun j hj=>there _ (by omega)) (fun j hj=>by simp[World.frozen?,hheap]) hvs h1c h1v
     9 9 cur2.size cur.size (by simp[World.shape?,hheap2]) (by simp[World.shape?,hheap]) (by omega) (by simp[World.frozen?,hheap2]) (by simp[World.frozen?,hheap2])).mono fun e w' ⟨he,hw⟩=>?_
    refine⟨_,he,fin w' b m.cap (by rw[hw];exact((Only.drew w _).trans (Only.setCells _ _ _ _)).trans (Only.setCells _ _ _ _)) (.inl rfl) hroom hmax fun j x hx=>?_⟩
    rw[hw]
    have th2:∀k,k<m.cap→((w.drew.setCells b (0+(i+1)) ((l.map encS).drop i)).cell? ⟨b,k,none⟩).isSome=true:=fun k hk=>cI b _ _ _ _ (there k hk)
    rcases fP l t i hi j x hx with⟨h1,h2⟩| ⟨rfl,rfl⟩| ⟨h1,h2⟩
    ·rw[World.cell?_setCells_out _ _ _ _ _ (fun _ _=>.inl (by simp;omega)),World.cell?_setCells_out _ _ _ _ _ (fun _ _=>.inl (by simp;omega))];exact hc j x h2
    ·exact fw (th2 _ (by omega))
    ·have hjl:=(List.getElem?_eq_some_iff.1 h2).1
     rw[World.cell?_setCells_out _ _ _ _ _ (fun _ _=>.inr (by simp;omega))]
     have:=World.cell?_setCells_in b ((l.map encS).drop i) (0+(i+1)) w.drew (fun k hk=>by
      have hk2:k<l.length-i:=by simpa using hk
      exact there _ (by omega)) (j-1-i) (by simp;omega)
     rw[show 0+(i+1)+(j-1-i)=0+j by omega]at this
     rw[this]
     have e2:i+(j-1-i)=j-1:=by omega
     simp only[List.getElem_drop,List.getElem_map,e2]
     rw[(List.getElem?_eq_some_iff.1 h2).2]
  ·have hcl:m.cap=l.length:=by omega
   have hcg:=grownCap_ge w (l.length+1) m.cap 9
   have hmx1:(100001:Nat)≤maxLen:=by decide
   have hcm:=grownCap_le_maxLen w (l.length+1) m.cap 9 (by omega)
   by_cases hil2:i=l.length
   ·subst hil2
    refine(Any2.slices_Insert_string_end_grow Tryz.lays2_22 (some ⟨b,0,none⟩) l.length m.cap b2 0 1 _ (l.map encS) [encS t] w (by omega) (by omega) (by omega) (by omega) (by simp) rfl (by simp)
     (fun a ha j v hv=>by cases ha;rw[bc];exact hcs j v hv) hvs h1v).mono fun e w' ⟨he,hw⟩=>?_
    refine⟨_,he,fin w' w.heap.size _ (by rw[hw];exact(Only.drew w _).trans (Only.alloc _ _ _)) (.inr ⟨Nat.le_refl _,by rw[hw];simp⟩) hcg hcm fun j x hx=>?_⟩
    rw[hw]
    refine(eG w.drew _ _ _).trans ?_
    rw[Array.getElem?_append_left (by simp;have:=(List.getElem?_eq_some_iff.1 hx).1;rw[hil]at this;omega)]
    rcases fP l t l.length (Nat.le_refl _) j x hx with⟨h1,h2⟩| ⟨rfl,rfl⟩| ⟨h1,h2⟩
    ·rw[List.getElem?_toArray,List.getElem?_append_left (by simpa using by omega),List.getElem?_map,Nat.zero_add,h2];rfl
    ·rw[List.getElem?_toArray,List.getElem?_append_right (by simp)];simp
    ·have:=(List.getElem?_eq_some_iff.1 h2).1;omega
   ·refine(Any2.slices_Insert_string_grow Tryz.lays2_22 b 0 l.length m.cap i b2 0 1 _ (l.map encS) [encS t] w (by omega) (by omega) (by omega) (by omega) (by omega) (by simp) rfl hcs hvs h1c h1v).mono fun e w' ⟨he,hw⟩=>?_
    rw[show Tryz.lays2_22_ren.t 9=9 from rfl]at hw
    generalize hw1:w.alloc (.cells (((l.map encS).take i).toArray++Builtin.zeroCells (Value.string ⟨#[]⟩).cells (l.length+1-i)++Builtin.zeroCells (Value.string ⟨#[]⟩).cells (grownCap w (l.length+1) m.cap 9-(l.length+1))) 9)=w1 at hw
    have hsz1:w1.heap.size=w.heap.size+1:=by rw[← hw1];simp
    have ho1:Only w w1 (some b):=by rw[← hw1];exact Only.alloc _ _ _
    have hw':w'=((w1.drew.setCells w.heap.size i [encS t]).drew).setCells w.heap.size (i+1) ((l.map encS).drop i):=hw
    have ho2:Only w1 w' (some w.heap.size):=by rw[hw'];exact(((Only.drew _ _).trans (Only.setCells _ _ _ _)).trans (Only.drew _ _)).trans (Only.setCells _ _ _ _)
    have hc1:∀k,w1.cell? ⟨w.heap.size,k,none⟩=(((l.map encS).take i).toArray++Builtin.zeroCells (Value.string ⟨#[]⟩).cells (l.length+1-i)++Builtin.zeroCells (Value.string ⟨#[]⟩).cells (grownCap w (l.length+1) m.cap 9-(l.length+1)))[k]? :=by
     intro k;rw[← hw1];exact eG _ _ _ _
    have th1:∀k,k<l.length+1→(w1.cell? ⟨w.heap.size,k,none⟩).isSome=true:=by
     intro k hk
     rw[hc1,Array.getElem?_eq_getElem (by simp[size_zeroCells,Value.cells];omega)];rfl
    have th2:∀k,k<l.length+1→((w1.drew.setCells w.heap.size i [encS t]).drew.cell? ⟨w.heap.size,k,none⟩).isSome=true:=fun k hk=>cI _ _ _ w1.drew _ (th1 k hk)
    refine⟨_,he,fin w' w.heap.size _ (Only.into ho1 ho2 (Nat.le_refl _)) (.inr ⟨Nat.le_refl _,by have:=ho2.size;omega⟩) hcg hcm fun j x hx=>?_⟩
    rw[hw']
    rcases fP l t i hi j x hx with⟨h1,h2⟩| ⟨rfl,rfl⟩| ⟨h1,h2⟩
    ·rw[World.cell?_setCells_out _ _ _ _ _ (fun _ _=>.inl (by simp;omega))]
     refine(World.cell?_setCells_out _ _ _ w1.drew _ (fun _ _=>.inl (by simp;omega))).trans ?_
     refine(hc1 _).trans ?_
     rw[Array.getElem?_append_left (by simp;omega),Array.getElem?_append_left (by simp;omega),List.getElem?_toArray,Nat.zero_add,List.getElem?_take_of_lt h1,List.getElem?_map,h2];rfl
    ·rw[World.cell?_setCells_out _ _ _ _ _ (fun _ _=>.inl (by simp))]
     have:=fw (w:=w1.drew) (b:=w.heap.size) (o:=j) (v:=encS x) (th1 j (by omega))
     simpa using this
    ·have hjl:=(List.getElem?_eq_some_iff.1 h2).1
     have:=World.cell?_setCells_in w.heap.size ((l.map encS).drop i) (i+1) (w1.drew.setCells w.heap.size i [encS t]).drew (fun k hk=>by
      have hk2:k<l.length-i:=by simpa using hk
      exact th2 _ (by omega)) (j-1-i) (by simp;omega)
     rw[show i+1+(j-1-i)=0+j by omega]at this
     rw[this]
     have e2:i+(j-1-i)=j-1:=by omega
     simp only[List.getElem_drop,List.getElem_map,e2]
     rw[(List.getElem?_eq_some_iff.1 h2).2]
theorem lH(a:AVal)(ha:a=.ez∨a=.nil (.slice none 0 0))(t:Bs)(v2:Nat)(rm:Bool)(h:Heap):
  Sat (CT G) 67 [a,.int .i64 0,.hs h.length v2 0 1 rm] (h++[Blk.row 9 1 v2 [.str t]]) (fun r h'=>r=.sl 1 [.str t]∧h'=h++[.dead]):=by
 intro B S μ w us fit rl
 obtain⟨hul,hur⟩:=rl
 match us,hul,hur with
 | [u0,u1,u2],_,hur=>
  have r0:Rep w S μ a u0:=hur 0 _ rfl
  have r1:Rep w S μ (.int .i64 0) u1:=hur 1 _ rfl
  have r2:Rep w S μ (.hs h.length v2 0 1 rm) u2:=hur 2 _ rfl
  obtain rfl:=r1.int_inv
  have hg2:getRow (h++[Blk.row 9 1 v2 [.str t]]) h.length v2=some (9,1,[t].map .str):=by simp[getRow]
  obtain⟨m2,b2,cur2,hm2,hb2,hheap2,hsz2,hle2,hmax2,h02,rfl,hc2⟩:=fO fit (by simp) hg2 r2
  have hset:(h++[Blk.row 9 1 v2 [.str t]]).set h.length .dead=h++[.dead]:=by simp[List.set_append]
  obtain⟨base,rfl⟩:∃base,u0=.slice base 0 0:=by
   rcases ha with rfl|rfl
   ·cases r0 with|ez a=>exact⟨_,rfl⟩
   ·exact⟨none,r0.nil_inv⟩
  change OpOk Tryz.prog _ ((callFunc 67 #[_,_,_]).run Tryz.prog w)
  rw[bF (f:=67) Tryz.func67 rfl rfl]
  have hvs:∀j v,[encS t][j]? =some v→w.cell? ⟨b2,0+j,none⟩=some v:=by
   intro j v hv
   match j with
   |0=>simp at hv;subst hv;exact hc2 0 t rfl
   |j+1=>simp at hv
  have h1v:∀v∈ [encS t],v.oneCell'=true:=by intro v hv;simp at hv;subst hv;rfl
  have hcg:=grownCap_ge w (0+1) 0 9
  have hcm:=grownCap_le_maxLen w (0+1) 0 9 (by decide)
  refine(Any2.slices_Insert_string_end_grow Tryz.lays2_22 base 0 0 b2 0 1 _ [] [encS t] w (by omega) (by omega) (by omega) (by omega) rfl rfl (fun _=>rfl)
   (fun a ha j v hv=>by simp at hv) hvs h1v).mono fun e w' ⟨he,hw⟩=>?_
  obtain⟨S',μ',st,f',rp⟩:=gE (ls:=[t]) (off:=0) (cap:=grownCap w (0+1) 0 9) (w':=w') fit hm2 (by rw[hw];exact(Only.drew w _).trans (Only.alloc _ _ _)) (g:=w.heap.size) (.inr ⟨Nat.le_refl _,by rw[hw];simp⟩) hcg hcm (fun j x hx=>by
   rw[hw]
   refine(eG w.drew _ _ _).trans ?_
   match j with
   |0=>simp at hx;subst hx;rw[Array.getElem?_append_left (by simp)];rfl
   |j+1=>simp at hx)
  rw[hset]at f'
  exact⟨_,he,_,_,S',μ',⟨rfl,rfl⟩,st,f',rp⟩
theorem nP(l:List Bs)(i v1:Nat)(hi:i<l.length)(hl:l.length≤100000)(h:Heap):
  Sat (CT G) 68 [.hs h.length v1 0 l.length true,.int .i64 i,.int .i64 (i+1)] (h++[Blk.row 9 1 v1 (l.map .str)])
   (fun r h'=>r=.sl 1 ((l.take i++l.drop (i+1)).map .str)∧h'=h++[.dead]):=by
 intro B S μ w us fit rl
 obtain⟨hul,hur⟩:=rl
 match us,hul,hur with
 | [u0,u1,u2],_,hur=>
  have r0:Rep w S μ (.hs h.length v1 0 l.length true) u0:=hur 0 _ rfl
  have r1:Rep w S μ (.int .i64 i) u1:=hur 1 _ rfl
  have r2:Rep w S μ (.int .i64 (i+1)) u2:=hur 2 _ rfl
  obtain rfl:=r1.int_inv
  obtain rfl:=r2.int_inv
  have hn:l≠ []:=by rintro rfl;simp at hi
  have hg0:getRow (h++[Blk.row 9 1 v1 (l.map .str)]) h.length v1=some (9,1,l.map .str):=by simp[getRow]
  obtain⟨m,b,cur,hm,hb,hheap,hsz,hle,hmax,h0,rfl,hc⟩:=fO fit hn hg0 r0
  simp only[↓reduceIte]
  have hset:(h++[Blk.row 9 1 v1 (l.map .str)]).set h.length .dead=h++[.dead]:=by simp[List.set_append]
  have mx:maxLen≤9223372036854775807:=by decide
  change OpOk Tryz.prog _ ((callFunc 68 #[_,_,_]).run Tryz.prog w)
  rw[bF (f:=68) Tryz.func68 rfl rfl]
  have hH:Go.Sort.Holds Go.Proofs.encStr w b 0 l.toArray:=by
   intro j hj
   have hj':j<l.length:=by simpa using hj
   refine⟨?_,by simp[World.frozen?,hheap]⟩
   rw[hc j l[j] (List.getElem?_eq_getElem hj')]
   simp[encS,Go.Proofs.encStr,hj']
  have hlen:(l.take i++l.drop (i+1)++List.replicate (i+1-i) ([]:List UInt8)).length=l.length:=by simp;omega
  refine(Tryz.slices_Delete_string b 0 m.cap i (i+1) l w hH hle (by omega) (by omega) (by omega)).mono fun e w' ⟨he,q,hw⟩=>?_
  obtain⟨S',μ',st,f',rp⟩:=gE (ls:=l.take i++l.drop (i+1)) (off:=0) (cap:=m.cap) (w':=w') fit hm (by rw[hw,hb];exact Only.trans (b:=Go.Sort.ahead w q) ⟨rfl,rfl,rfl,Nat.le_refl _,fun _ _ _=>rfl⟩ (Only.putRow _ _ _ _ _)) (g:=b) (.inl hb) (by simp;omega) hmax (fun j x hx=>by
   rw[hw]
   have hjl:=(List.getElem?_eq_some_iff.1 hx).1
   have hH2:Go.Sort.Holds Go.Proofs.encStr (Go.Sort.ahead w q) b 0 l.toArray:=hH
   rw[Go.Sort.cell?_putRow _ _ _ _ l.toArray _ hH2 (by simpa using hlen) j (by rw[List.size_toArray,List.length_append];omega)]
   have hx2:(l.take i++l.drop (i+1)++List.replicate (i+1-i) ([]:List UInt8))[j]? =some x:=by rw[List.getElem?_append_left hjl];exact hx
   have:(l.take i++l.drop (i+1)++List.replicate (i+1-i) ([]:List UInt8)).toArray[j]! =x:=by
    rw[getElem!_def,List.getElem?_toArray,hx2]
   rw[this];rfl)
  rw[hset]at f'
  have hl2:(l.take i++l.drop (i+1)).length=l.length-(i+1-i):=by simp;omega
  rw[hl2]at rp
  exact⟨_,he,_,_,S',μ',⟨rfl,rfl⟩,st,f',rp⟩
end Go.Av
namespace Go.Av
open Go Go.Proofs Go.RowKit
attribute [local irreducible] WP WPl WPix Sat
variable (G:Nat→Option (List AVal))
theorem dS(h:Heap):Sat (CT G) 66 [.sl 1 []] h (fun r h'=>(r=.ez∨r=.nil (.slice none 0 0))∧h'=h):=by
 refine sb [.tmp 2] (fn:=Tryz.f66) Tryz.func66 ?_
 intro Q hQ
 refine wk trivial ?_
 refine gQ _ (by exact zq trivial) (.inl rfl) fun b=>?_
 cases b
 ·try refine sq trivial ?_
  refine wk trivial ?_
  refine fG (.inl rfl) (by simp(disch:=first|omega| (simp only[go_sem, ↓reduceIte,seval];first|done|omega)|fail) only[go_sem, ↓reduceIte,seval];rfl) (by simp(disch:=first|omega| (simp only[go_sem, ↓reduceIte,seval];first|done|omega)|fail) only[go_sem, ↓reduceIte,seval];rfl) (by simp(disch:=first|omega| (simp only[go_sem, ↓reduceIte,seval];first|done|omega)|fail) only[go_sem, ↓reduceIte,seval];rfl) (by simp(disch:=first|omega| (simp only[go_sem, ↓reduceIte,seval];first|done|omega)|fail) only[go_sem, ↓reduceIte,seval];try rfl) (by omega) (by simp only[elemsOf, ↓reduceIte];try rfl) (by simp) (fun _=>?_) (fun h=>absurd rfl h)
  try refine sq trivial ?_
  refine wk trivial ?_
  refine ee hQ trivial ?_
  exact Fin.same .ez ⟨.inl rfl,rfl⟩
 ·try refine sq trivial ?_
  refine wk trivial ?_
  refine ee hQ trivial ?_
  exact Fin.same (.nil _) ⟨.inr rfl,rfl⟩
theorem nQ(l:List Bs)(hn:l≠ [])(hl:l.length≤1048576)(h:Heap):Sat (CT G) 66 [.sl 1 (l.map .str)] h (fun r h'=>r=.hs h.length 0 0 l.length true∧h'=h++[Blk.row 9 1 0 (l.map .str)]):=by
 obtain⟨a,l,rfl⟩:∃a k,l=a::k:=by
  cases l with
  |nil=>exact absurd rfl hn
  |cons a k=>exact⟨a,k,rfl⟩
 have hr:(List.map AVal.str (a::l))≠ []:=by simp
 refine sb [.tmp 2] (fn:=Tryz.f66) Tryz.func66 ?_
 intro Q hQ
 refine wk trivial ?_
 refine fG (.inl rfl) (by simp(disch:=first|omega| (simp only[go_sem, ↓reduceIte,seval];first|done|omega)|fail) only[go_sem, ↓reduceIte,seval];rfl) (by simp(disch:=first|omega| (simp only[go_sem, ↓reduceIte,seval];first|done|omega)|fail) only[go_sem, ↓reduceIte,seval];rfl) (by simp(disch:=first|omega| (simp only[go_sem, ↓reduceIte,seval];first|done|omega)|fail) only[go_sem, ↓reduceIte,seval];rfl) (by simp(disch:=first|omega| (simp only[go_sem, ↓reduceIte,seval];first|done|omega)|fail) only[go_sem, ↓reduceIte,seval];try rfl) (by omega) (by simp only[elemsOf, ↓reduceIte];try rfl) ?_ (fun h=>by simp at h) (fun _=>?_)
 ·simp[maxLen]at hl ⊢;omega
 try refine sq trivial ?_
 refine wk trivial ?_
 refine ee hQ trivial ?_
 exact Fin.whole (by simp) (.hs _ _ _ _ _ (by simp)) ⟨rfl,rfl⟩
section
variable {H:Heap} {n:Nat} {s:PS}
theorem nR(hn:n+9≤H.length)(x:Blk)(a:AVal)(ha:a=.ez∨a=.nil (.slice none 0 0))(t:Bs):Sat (CT G) 67 [a,.int .i64 0,.hs (H.length+1) 0 0 1 true] (so (H++[x,Blk.row 9 1 0 [.str t]]) n s)
  (fun r h'=>r=.sl 1 [.str t]∧h'=so (H++[x,.dead]) n s):=by
 have c:=lH G a ha t 0 true (so (H++[x]) n s)
 have hn1:n+9≤(H++[x]).length:=by simp;omega
 rw[au hn1,aJ hn1,aJ hn1]at c
 simpa using c
theorem pg(hn:n+9≤H.length)(x:Blk)(l:List Bs)(t:Bs)(hl0:l≠ [])(hl:l.length≤100000):Sat (CT G) 67 [.hs (H.length+1) 0 0 l.length true,.int .i64 (lbF l t),.hs (H.length+2) 0 0 1 true] (so (H++[x,Blk.row 9 1 0 (l.map .str),Blk.row 9 1 0 [.str t]]) n s)
  (fun r h'=>r=.sl 1 ((l.take (lbF l t)++t::l.drop (lbF l t)).map .str)∧h'=so (H++[x,.dead,Blk.row 9 1 0 [.str t]]) n s):=by
 have c:=nO G l t (lbF l t) 0 0 true (kw l t) hl0 hl (so (H++[x]) n s)
 have hn1:n+9≤(H++[x]).length:=by simp;omega
 rw[au hn1,aJ hn1,aJ hn1]at c
 simpa using c
theorem ph(hn:n+9≤H.length)(x:Blk)(l:List Bs)(i:Nat)(hi:i<l.length)(hl:l.length≤100000):Sat (CT G) 68 [.hs (H.length+1) 0 0 l.length true,.int .i64 i,.int .i64 (i+1)] (so (H++[x,Blk.row 9 1 0 (l.map .str)]) n s)
  (fun r h'=>r=.sl 1 ((l.take i++l.drop (i+1)).map .str)∧h'=so (H++[x,.dead]) n s):=by
 have c:=nP G l i 0 hi hl (so (H++[x]) n s)
 have hn1:n+9≤(H++[x]).length:=by simp;omega
 rw[au hn1,aJ hn1,aJ hn1]at c
 simpa using c
theorem di{s':PS}{j:Heap}{R:AVal→Heap→Prop}{r0 r:AVal}(hn:n+9≤H.length)(hz:Frz (so (H++j) n s') H.length r0 r)(hR:R r (so H n s')):Fin (so H n s) (so (H++j) n s') R r0:=cF hn rfl (PS.clo hn s') hz hR
theorem i8(hn:n+9≤H.length)(x:Blk)(l:List Bs):Frz (so (H++[x,Blk.row 9 1 0 (l.map .str)]) n s) H.length (.hs (H.length+1) 0 0 l.length true) (.sl 1 (l.map .str)):=by
 have hg:getRow (so (H++[x,Blk.row 9 1 0 (l.map .str)]) n s) (H.length+1) 0=some (9,1,l.map .str):=by
  rw[bA (by simp;omega) 0 (by omega)];simp[getRow]
 have:=Frz.data (n:=H.length) (len:=l.length) (room:=true) (by omega) hg (by simp) (fun r hr=>by obtain⟨a,_,rfl⟩:=List.mem_map.1 hr;exact .str _) (fun r hr c hc=>by obtain⟨a,_,rfl⟩:=List.mem_map.1 hr;simp[AVal.cells]at hc;subst hc;rfl)
 simpa using this
theorem cj(hn:n+9≤H.length)(x:Blk)(l:List Bs)(hl0:l≠ [])(hl:l.length≤1048576):Sat (CT G) 66 [.sl 1 (l.map .str)] (so (H++[x]) n s)
  (fun r h'=>r=.hs (H.length+1) 0 0 l.length true∧h'=so (H++[x,Blk.row 9 1 0 (l.map .str)]) n s):=by
 have c:=nQ G l hl0 hl (so (H++[x]) n s)
 have hn1:n+9≤(H++[x]).length:=by simp;omega
 rw[au hn1,aJ hn1]at c
 simpa using c
end
theorem ji(s:PS)(id:Int)(t:Bs)(hs:Srt ((lkM s.it id).getD It.z).tags)(hl:((lkM s.it id).getD It.z).tags.length≤100000){H:Heap}{n:Nat}(hn:n+9≤H.length):Sat (CT G) 65 [.hp (n+8) 0 0 0,.int .i64 id,.str t] (so H n s) (fun r h'=>r=.tup [.int .i64 (lbF ((lkM s.it id).getD It.z).tags t),.bool (decide (t∈ ((lkM s.it id).getD It.z).tags))]∧h'=so H n s):=by
 refine sb [.tmp 6,.tmp 7] (fn:=Tryz.f65) Tryz.func65 ?_
 intro Q hQ
 refine wk trivial ?_
 refine kq trivial (jA G _ t hs hl _) ?_
 refine ye hQ trivial ?_
 exact ci hn (.tup _ (fun x hx=>by simp only[List.mem_cons,List.not_mem_nil,or_false]at hx;rcases hx with rfl|rfl;exact .int _ _;exact .bool _)) ⟨rfl,rfl⟩
def tgF(l:List Bs)(t:Bs)(n:Int):List Bs:=
 if n=1∧t ∉ l then l.take (lbF l t)++t::l.drop (lbF l t)else if n=0∧t∈l then l.take (lbF l t)++l.drop (lbF l t+1)else l
theorem kz(s:PS)(e:Ev)(hs:Srt ((lkM s.it e.a).getD It.z).tags)(hl:((lkM s.it e.a).getD It.z).tags.length≤100000){H:Heap}{n:Nat}(hn:n+9≤H.length):Sat (CT G) 30 [.hp (n+8) 0 0 0,e.av] (so H n s) (fun r h'=>r=.sl 1 ((tgF ((lkM s.it e.a).getD It.z).tags e.s e.n).map .str)∧h'=so H n s):=by
 have hT:=fun(H:Heap) (hn:n+9≤H.length)=>ji G s e.a e.s hs hl (n:=n) hn
 have hn1:∀x:Blk,n+9≤(H++[x]).length:=fun x=>by simp;omega
 generalize hg:((lkM s.it e.a).getD It.z).tags=l at hs hl hT ⊢
 by_cases hn0:l=[]
 ·subst hn0
  have ht:lbF [] e.s=0:=rfl
  have hd:decide (e.s∈ ([]:List Bs))=false:=by simp
  rw[ht,hd]at hT
  by_cases k1:e.n=1
  ·have F:=k1
   skip
   refine sb [.tmp 4] (fn:=Tryz.f30) Tryz.func30 ?_
   intro Q hQ
   refine wn F ?_
   refine bq 8 0 _ (by rfl) (by decide+kernel) (by kernel_rfl) (by decide+kernel) (by decide+kernel) (by decide+kernel) ?_
   simp only[List.take_succ_cons,List.take_zero]
   refine sq F ?_
   refine wn F ?_
   rw[hg]
   refine(dS G _).mono ?_
   rintro r h' ⟨hr,rfl⟩
   simp(disch:=first|omega| (simp only[go_sem, ↓reduceIte,seval];first|done|omega)|fail) only[go_sem, ↓reduceIte,seval,F]
   skip
   refine wk F ?_
   skip
   refine kx F (hT _ (by first|omega| (simp;omega))) ?_
   refine kx F (nR G hn _ r hr e.s) ?_
   skip
   refine ee hQ F ?_
   exact ai hn (.sl _ _ (by simp;exact .str _)) ⟨by simp[tgF,k1],rfl⟩
  ·by_cases k0:e.n=0
   ·have F:=k0
    skip
    refine sb [.tmp 4] (fn:=Tryz.f30) Tryz.func30 ?_
    intro Q hQ
    refine wn F ?_
    refine bq 8 0 _ (by rfl) (by decide+kernel) (by kernel_rfl) (by decide+kernel) (by decide+kernel) (by decide+kernel) ?_
    simp only[List.take_succ_cons,List.take_zero]
    refine sq F ?_
    refine wn F ?_
    rw[hg]
    refine(dS G _).mono ?_
    rintro r h' ⟨hr,rfl⟩
    simp(disch:=first|omega| (simp only[go_sem, ↓reduceIte,seval];first|done|omega)|fail) only[go_sem, ↓reduceIte,seval,F]
    skip
    refine wk F ?_
    refine kq F (hT _ (by first|omega| (simp;omega))) ?_
    refine ee hQ F ?_
    refine di (r:=.sl 1 []) hn ?_ ⟨by simp[tgF,k0,k1],rfl⟩
    rcases hr with rfl|rfl
    ·exact .ezs _
    ·exact .nils _
   ·have n1:(e.n==1)=false:=by simp[k1]
    have n0:(e.n==0)=false:=by simp[k0]
    have F:=F2 n1 n0
    skip
    refine sb [.tmp 4] (fn:=Tryz.f30) Tryz.func30 ?_
    intro Q hQ
    refine wn F ?_
    refine bq 8 0 _ (by rfl) (by decide+kernel) (by kernel_rfl) (by decide+kernel) (by decide+kernel) (by decide+kernel) ?_
    simp only[List.take_succ_cons,List.take_zero]
    refine sq F ?_
    refine wn F ?_
    rw[hg]
    refine(dS G _).mono ?_
    rintro r h' ⟨hr,rfl⟩
    simp(disch:=first|omega| (simp only[go_sem, ↓reduceIte,seval];first|done|omega)|fail) only[go_sem, ↓reduceIte,seval,F]
    skip
    refine wk F ?_
    refine kq F (hT _ (by first|omega| (simp;omega))) ?_
    refine ee hQ F ?_
    refine di (r:=.sl 1 []) hn ?_ ⟨by simp[tgF,k0,k1],rfl⟩
    rcases hr with rfl|rfl
    ·exact .ezs _
    ·exact .nils _
 ·by_cases km:e.s∈l
  ·have hd:decide (e.s∈l)=true:=by simp[km]
   rw[hd]at hT
   have hlt:lbF l e.s<l.length:=(List.getElem?_eq_some_iff.1 (mC hs km)).1
   by_cases k0:e.n=0
   ·have F:=k0
    skip
    refine sb [.tmp 4] (fn:=Tryz.f30) Tryz.func30 ?_
    intro Q hQ
    refine wn F ?_
    refine bq 8 0 _ (by rfl) (by decide+kernel) (by kernel_rfl) (by decide+kernel) (by decide+kernel) (by decide+kernel) ?_
    simp only[List.take_succ_cons,List.take_zero]
    refine sq F ?_
    refine wn F ?_
    rw[hg]
    refine(cj G hn _ l hn0 (by omega)).mono ?_
    rintro r h' ⟨rfl,rfl⟩
    try refine sq F ?_
    skip
    refine wk F ?_
    refine kq F (hT _ (by first|omega| (simp;omega))) ?_
    refine kq F (ph G hn _ l (lbF l e.s) hlt hl) ?_
    refine ee hQ F ?_
    exact ai hn (gC _ _) ⟨by simp[tgF,k0,km],rfl⟩
   ·by_cases k1:e.n=1
    ·have F:=k1
     skip
     refine sb [.tmp 4] (fn:=Tryz.f30) Tryz.func30 ?_
     intro Q hQ
     refine wn F ?_
     refine bq 8 0 _ (by rfl) (by decide+kernel) (by kernel_rfl) (by decide+kernel) (by decide+kernel) (by decide+kernel) ?_
     simp only[List.take_succ_cons,List.take_zero]
     refine sq F ?_
     refine wn F ?_
     rw[hg]
     refine(cj G hn _ l hn0 (by omega)).mono ?_
     rintro r h' ⟨rfl,rfl⟩
     try refine sq F ?_
     skip
     refine wk F ?_
     refine kq F (hT _ (by first|omega| (simp;omega))) ?_
     refine ee hQ F ?_
     exact di hn (i8 hn _ l) ⟨by simp[tgF,k1,km],rfl⟩
    ·have n1:(e.n==1)=false:=by simp[k1]
     have n0:(e.n==0)=false:=by simp[k0]
     have F:=F2 n1 n0
     skip
     refine sb [.tmp 4] (fn:=Tryz.f30) Tryz.func30 ?_
     intro Q hQ
     refine wn F ?_
     refine bq 8 0 _ (by rfl) (by decide+kernel) (by kernel_rfl) (by decide+kernel) (by decide+kernel) (by decide+kernel) ?_
     simp only[List.take_succ_cons,List.take_zero]
     refine sq F ?_
     refine wn F ?_
     rw[hg]
     refine(cj G hn _ l hn0 (by omega)).mono ?_
     rintro r h' ⟨rfl,rfl⟩
     try refine sq F ?_
     skip
     refine wk F ?_
     refine kq F (hT _ (by first|omega| (simp;omega))) ?_
     refine ee hQ F ?_
     exact di hn (i8 hn _ l) ⟨by simp[tgF,k1,k0,km],rfl⟩
  ·have hd:decide (e.s∈l)=false:=by simp[km]
   rw[hd]at hT
   by_cases k1:e.n=1
   ·have F:=k1
    skip
    refine sb [.tmp 4] (fn:=Tryz.f30) Tryz.func30 ?_
    intro Q hQ
    refine wn F ?_
    refine bq 8 0 _ (by rfl) (by decide+kernel) (by kernel_rfl) (by decide+kernel) (by decide+kernel) (by decide+kernel) ?_
    simp only[List.take_succ_cons,List.take_zero]
    refine sq F ?_
    refine wn F ?_
    rw[hg]
    refine(cj G hn _ l hn0 (by omega)).mono ?_
    rintro r h' ⟨rfl,rfl⟩
    try refine sq F ?_
    skip
    refine wk F ?_
    skip
    refine kx F (hT _ (by first|omega| (simp;omega))) ?_
    refine kx F (pg G hn _ l e.s hn0 hl) ?_
    skip
    refine ee hQ F ?_
    exact ai hn (gC _ _) ⟨by simp[tgF,k1,km],rfl⟩
   ·by_cases k0:e.n=0
    ·have F:=k0
     skip
     refine sb [.tmp 4] (fn:=Tryz.f30) Tryz.func30 ?_
     intro Q hQ
     refine wn F ?_
     refine bq 8 0 _ (by rfl) (by decide+kernel) (by kernel_rfl) (by decide+kernel) (by decide+kernel) (by decide+kernel) ?_
     simp only[List.take_succ_cons,List.take_zero]
     refine sq F ?_
     refine wn F ?_
     rw[hg]
     refine(cj G hn _ l hn0 (by omega)).mono ?_
     rintro r h' ⟨rfl,rfl⟩
     try refine sq F ?_
     skip
     refine wk F ?_
     refine kq F (hT _ (by first|omega| (simp;omega))) ?_
     refine ee hQ F ?_
     exact di hn (i8 hn _ l) ⟨by simp[tgF,k0,km],rfl⟩
    ·have n1:(e.n==1)=false:=by simp[k1]
     have n0:(e.n==0)=false:=by simp[k0]
     have F:=F2 n1 n0
     skip
     refine sb [.tmp 4] (fn:=Tryz.f30) Tryz.func30 ?_
     intro Q hQ
     refine wn F ?_
     refine bq 8 0 _ (by rfl) (by decide+kernel) (by kernel_rfl) (by decide+kernel) (by decide+kernel) (by decide+kernel) ?_
     simp only[List.take_succ_cons,List.take_zero]
     refine sq F ?_
     refine wn F ?_
     rw[hg]
     refine(cj G hn _ l hn0 (by omega)).mono ?_
     rintro r h' ⟨rfl,rfl⟩
     try refine sq F ?_
     skip
     refine wk F ?_
     refine kq F (hT _ (by first|omega| (simp;omega))) ?_
     refine ee hQ F ?_
     exact di hn (i8 hn _ l) ⟨by simp[tgF,k1,k0,km],rfl⟩
end Go.Av
namespace Go.Av
open Go Go.Proofs Go.RowKit
attribute [local irreducible] WP WPl WPix Sat
variable (G:Nat→Option (List AVal))
theorem tY(h:Heap)(s:PS):h++s.bl h.length=so (h++PS.z.bl h.length) h.length s:=by
 have:=ea h (s.bl h.length) []
 rw[List.append_nil]at this
 rw[this];unfold so
 have hz:ov (h++PS.z.bl h.length) h.length (PS.z.bl h.length)=h++PS.z.bl h.length:=by
  have:=ea h (PS.z.bl h.length) []
  rw[List.append_nil]at this;exact this.symm
 apply List.ext_getElem?
 intro p
 rw[aF (by simp),aF (by simp[PS.bl])]
 split
 ·rfl
 ·rename_i hp
  rcases Nat.lt_or_ge p h.length with h1|h1
  ·rw[List.getElem?_append_left h1,List.getElem?_append_left h1]
  ·rw[List.getElem?_append_right h1,List.getElem?_append_right h1,List.getElem?_eq_none (by simp[PS.bl]at hp ⊢;omega),List.getElem?_eq_none (by simp[PS.bl]at hp ⊢;omega)]
@[go_sem] theorem AF(p:Nat):(AVal.hm p).cells=[.hm p]:=(rfl)
@[go_sem] theorem Do(p:Nat):(AVal.hm p).lies=true:=(rfl)
theorem pi(h:Heap):Sat (CT G) 16 [] h (fun r h'=>r=.hp (h.length+8) 0 0 0∧h'=so (h++PS.z.bl h.length) h.length PS.z):=by
 rw[← tY]
 refine sb [.tmp 0] (fn:=Tryz.f16) Tryz.func16 ?_
 intro Q hQ
 refine wk trivial ?_
 refine ee hQ trivial ?_
 refine Fin.whole (by simp) (.hp _ _ _ _ (by simp)) ⟨rfl,?_⟩
 simp[PS.bl,PS.z,encM,PS.row]
theorem nS(es:List Ev)(hl:es.length≤1048576)(I:PS→Prop)(okF:PS→Ev→Bool)(stp:PS→Ev→PS)(hI0:I PS.z)(hI:∀s e,e∈es→I s→I (stp s e))
  (hA:∀s e,e∈es→I s→∀(n:Nat) (H:Heap),n+9≤H.length→Sat (CT G) 12 [.hp (n+8) 0 0 0,e.av] (so H n s) (fun r h'=>r=.bool (okF s e)∧h'=so H n (stp s e)))(h:Heap):
  Sat (CT G) 6 [.sl 7 (es.map Ev.av)] h (fun r h'=>r=.hp (h.length+8) 0 0 0∧h'=so (h++PS.z.bl h.length) h.length (es.foldl stp PS.z)):=by
 have hIk:∀k,I ((es.take k).foldl stp PS.z):=by
  intro k
  induction k with
  |zero=>exact hI0
  |succ k ih=>
   rw[List.take_add_one,List.foldl_append]
   cases he:es[k]? with
   |none=>exact ih
   |some e=>exact hI _ _ (List.mem_of_getElem? he) ih
 have hz9:(PS.z.bl h.length).length=9:=rfl
 generalize hH:h++PS.z.bl h.length=H0
 have hl0:h.length+9≤H0.length:=by rw[← hH];simp[hz9]
 have hN:=pi G h
 rw[hH]at hN
 refine sb [.tmp 2] (fn:=Tryz.f6) Tryz.func6 ?_
 intro Q hQ
 refine wk trivial ?_
 refine kq trivial (hN) ?_
 refine lm (fun nL tL hL=>∃(k:Nat) (j:Heap),es.length-k=nL∧so (H0++j) h.length ((es.take k).foldl stp PS.z)=hL∧tL 3=.hp (h.length+8) 0 0 0∧tL 7=.sl 7 (es.map Ev.av)∧tL 8=.int .i64 es.length∧tL 9=.int .i64 k∧k≤es.length) ((fun(k:Nat) (j:Heap)=>(es.length-k:Nat)) (0) ([])) ?_ ?_
 ·refine Wkn.refl ⟨0,[],rfl,bp,?_,?_,?_,?_,by omega⟩
  all_goals first|exact zq trivial|rfl|omega|trivial|skip
 rintro _ s2 h' ⟨k,j,rfl,rfl,e3,e7,e8,e9,hk⟩ K2 hK2
 simp only[ak,ao,Nat.reduceEqDiff, ↓reduceIte]at e3 e7 e8 e9
 have F:=F4 e3 e7 e8 e9
 refine wk F ?_
 have hn1:h.length+9≤(H0++j).length:=by simp;omega
 refine cq F (fun c1=>?_) (fun c1=>?_)<;>(try exact c1.elim)<;>(refine wk F ?_)
 ·have c2:k<es.length:=by omega
  obtain⟨e,he⟩:∃e,es[k]? =some e:=⟨es[k],List.getElem?_eq_getElem c2⟩
  have hem:=List.mem_of_getElem? he
  have F:=F3 F c2 he
  try refine sq F ?_
  refine wk F ?_
  refine kq F (hA _ e hem (hIk k) _ _ (by first|omega| (simp;omega))) ?_
  have ht:(es.take (k+1)).foldl stp PS.z=stp ((es.take k).foldl stp PS.z) e:=by rw[List.take_add_one,List.foldl_append,he];rfl
  refine hK2 _ _ _ (Wkn.refl ⟨k+1,j++[.row 43 7 0 [e.av]],rfl,by rw[ht];rfl,?_,?_,?_,?_,by omega⟩) (by omega)
  all_goals first|exact zq F|rfl|omega|trivial|skip
 ·have hk2:k=es.length:=by omega
  subst hk2
  have htk:es.take es.length=es:=List.take_length
  rw[htk]
  refine wk F ?_
  refine ee hQ F ?_
  rw[← aJ hl0]
  refine Fin.upto (by rw[au hl0];omega) ?_ (.hp _ _ _ _ (by rw[au hl0];omega)) ⟨rfl,rfl⟩
  rw[au hl0]
  have:=tY h (es.foldl stp PS.z)
  rw[hH]at this
  rw[← this]
  exact(KeepC.refl h _).app (PS.clo hl0 _)
end Go.Av
namespace Go.Av
open Go Go.Proofs Go.RowKit
attribute [local irreducible] WP WPl WPix Sat
variable (G:Nat→Option (List AVal))
def PS.fits(s:PS)(ok:Bool)(dp:Nat)(e:Ev):Bool:=
 ok&&(
  if e.kind=1 then !(lkM s.fo e.a).isSome&&decide (s.fo.length<64)&&s.within e.b&&decide (dp<7)&&((lkM s.nm (e.b,e.s)).getD 0==0)
  else if e.kind=2 then(lkM s.fo e.a).isSome&&((lkM s.he e.a).getD 0==0)
  else if e.kind=3 then !(lkM s.fe e.a).isSome&&decide (s.fe.length<64)&&s.within e.b&&((lkM s.pl e.s).getD 0==0)
  else if e.kind=4∨e.kind=5 then(lkM s.fe e.a).isSome
  else if e.kind=6 then(lkM s.fe e.a).isSome&&s.within e.b
  else if e.kind=7 then !(lkM s.it e.a).isSome&&decide (s.it.length<1024)&&(lkM s.fe e.b).isSome&&((lkM s.gu (e.b,e.s)).getD 0==0)
  else if e.kind=8∨e.kind=9 then(lkM s.it e.a).isSome
  else if e.kind=10 then(lkM s.it e.a).isSome&&(decide (e.n=0)||decide (e.s∈ ((lkM s.it e.a).getD It.z).tags)||decide (((lkM s.it e.a).getD It.z).tags.length<8))
  else if e.kind=11 then !(lkM s.se e.a).isSome&&decide (s.se.length<32)
  else if e.kind=12 then(lkM s.se e.a).isSome
  else decide (s.clock≤e.n))
theorem nT(s:PS)(e:Ev)(ok:Bool)(k dp:Nat)(hdp:deepO s.fo k e.b=some dp)(hdk:dp≤1000)(hl:s.fo.length≤100∧s.fe.length≤100∧s.it.length≤2000∧s.se.length≤100)
  (hE:∀h,Sat (CT G) 62 [e.av] h (fun r h'=>r=.int .i64 (if ok then 0 else 140)∧h'=h))
  (hB:∀(n:Nat) (H:Heap),n+9≤H.length→Sat (CT G) 65 [.hp (n+8) 0 0 0,.int .i64 e.a,.str e.s] (so H n s) (fun r h'=>(∃i:Int,r=.tup [.int .i64 i,.bool (decide (e.s∈ ((lkM s.it e.a).getD It.z).tags))])∧h'=so H n s))
  {H:Heap}{n:Nat}(hn:n+9≤H.length):Sat (CT G) 27 [.hp (n+8) 0 0 0,e.av] (so H n s) (fun r h'=>r=.bool (s.fits ok dp e)∧h'=so H n s):=by
 cases ok with
 |false=>
  have hE:=fun h=>(hE h)
  refine sb [.tmp 4] (fn:=Tryz.f27) Tryz.func27 ?_
  intro Q hQ
  refine wk trivial ?_
  refine kq trivial (hE _) ?_
  refine ee hQ trivial ?_
  exact ai hn (.bool _) ⟨rfl,rfl⟩
 |true=>
  refine sb [.tmp 4] (fn:=Tryz.f27) Tryz.func27 ?_
  intro Q hQ
  refine wk trivial ?_
  refine kq trivial (hE _) ?_
  refine aI 12 [10,11] [true,true,true,true,true,true,true,true,true,true,false,false] (.one 10 [false,true,true,true,true,true,true] (.one 11 [] .fin)) (by decide+kernel) (by kernel_rfl) (by decide+kernel) ?_
  simp only[aU,aV,aH]
  try refine sq trivial ?_
  repeat' (first| (refine aA ?_;try refine sq trivial ?_)| (refine aB ?_;try refine sq trivial ?_)| (refine aC ?_ ?_<;>try refine sq trivial ?_))
  all_goals try refine wk trivial ?_
  refine aI 12 [10,11] [true,true,true,true,true,true,true,true,true,true,false,false] (.one 10 [false,true,true,true,true,true,true] (.one 11 [] .fin)) (by decide+kernel) (by kernel_rfl) (by decide+kernel) ?_
  simp only[aU,aV,aH]
  try refine sq trivial ?_
  repeat' (first| (refine aA ?_;try refine sq trivial ?_)| (refine aB ?_;try refine sq trivial ?_)| (refine aC ?_ ?_<;>try refine sq trivial ?_))
  all_goals try refine wk trivial ?_
  refine aI 12 [10,11] [true,true,true,true,true,true,true,true,true,true,false,false] (.one 10 [false,true,true,true,true,true,true] (.one 11 [] .fin)) (by decide+kernel) (by kernel_rfl) (by decide+kernel) ?_
  simp only[aU,aV,aH]
  try refine sq trivial ?_
  repeat' (first| (refine aA ?_;try refine sq trivial ?_)| (refine aB ?_;try refine sq trivial ?_)| (refine aC ?_ ?_<;>try refine sq trivial ?_))
  all_goals try refine wk trivial ?_
  refine aI 12 [10,11] [true,true,true,true,true,true,true,true,true,true,false,false] (.one 10 [false,true,true,true,true,true,true] (.one 11 [] .fin)) (by decide+kernel) (by kernel_rfl) (by decide+kernel) ?_
  simp only[aU,aV,aH]
  try refine sq trivial ?_
  repeat' (first| (refine aA ?_;try refine sq trivial ?_)| (refine aB ?_;try refine sq trivial ?_)| (refine aC ?_ ?_<;>try refine sq trivial ?_))
  all_goals try refine wk trivial ?_
  by_cases k1:e.kind=1
  ·have F:=k1
   try refine sq F ?_
   refine wk F ?_
   (first|refine gq F (fun g1=>?_) (fun g1=>?_)|refine pq F (fun g1=>?_) (fun g1=>?_))<;>(try exact g1.elim)<;>(try refine sq F ?_)<;>(refine wk F ?_)
   ·skip
    (first|refine gq F (fun g2=>?_) (fun g2=>?_)|refine pq F (fun g2=>?_) (fun g2=>?_))<;>(try exact g2.elim)<;>(try refine sq F ?_)<;>(refine wk F ?_)
    ·have ag2:s.fo.length<64:=by omega
     refine bf (dB G s e.b (by simp;omega)) ?_
     try refine sq F ?_
     refine wk F ?_
     (first|refine gq F (fun g3=>?_) (fun g3=>?_)|refine pq F (fun g3=>?_) (fun g3=>?_))<;>(try exact g3.elim)<;>(try refine sq F ?_)<;>(refine wk F ?_)
     ·skip
      refine bf (nB G s e.b k dp hdp hdk (by simp;omega)) ?_
      try refine sq F ?_
      refine wk F ?_
      (first|refine gq F (fun g4=>?_) (fun g4=>?_)|refine pq F (fun g4=>?_) (fun g4=>?_))<;>(try exact g4.elim)<;>(try refine sq F ?_)<;>(refine wk F ?_)
      ·have ag4:dp<7:=by omega
       refine ee hQ F ?_
       exact ai hn (.bool _) ⟨by simp[PS.fits,k1,g1,ag2,g3,ag4],rfl⟩
      ·have ag4:¬dp<7:=by omega
       refine ee hQ F ?_
       exact ai hn (.bool _) ⟨by simp[PS.fits,k1,g1,ag2,g3,ag4],rfl⟩
     ·skip
      refine ee hQ F ?_
      exact ai hn (.bool _) ⟨by simp[PS.fits,k1,g1,ag2,g3],rfl⟩
    ·have ag2:¬s.fo.length<64:=by omega
     refine ee hQ F ?_
     exact ai hn (.bool _) ⟨by simp[PS.fits,k1,g1,ag2],rfl⟩
   ·skip
    refine ee hQ F ?_
    exact ai hn (.bool _) ⟨by simp[PS.fits,k1,g1],rfl⟩
  by_cases k2:e.kind=2
  ·have F:=k2
   try refine sq F ?_
   refine wk F ?_
   (first|refine gq F (fun g1=>?_) (fun g1=>?_)|refine pq F (fun g1=>?_) (fun g1=>?_))<;>(try exact g1.elim)<;>(try refine sq F ?_)<;>(refine wk F ?_)
   ·skip
    refine ee hQ F ?_
    exact ai hn (.bool _) ⟨by simp[PS.fits,k2,g1],rfl⟩
   ·skip
    refine ee hQ F ?_
    exact ai hn (.bool _) ⟨by simp[PS.fits,k2,g1],rfl⟩
  by_cases k3:e.kind=3
  ·have F:=k3
   try refine sq F ?_
   refine wk F ?_
   (first|refine gq F (fun g1=>?_) (fun g1=>?_)|refine pq F (fun g1=>?_) (fun g1=>?_))<;>(try exact g1.elim)<;>(try refine sq F ?_)<;>(refine wk F ?_)
   ·skip
    (first|refine gq F (fun g2=>?_) (fun g2=>?_)|refine pq F (fun g2=>?_) (fun g2=>?_))<;>(try exact g2.elim)<;>(try refine sq F ?_)<;>(refine wk F ?_)
    ·have ag2:s.fe.length<64:=by omega
     refine bf (dB G s e.b (by simp;omega)) ?_
     try refine sq F ?_
     refine wk F ?_
     (first|refine gq F (fun g3=>?_) (fun g3=>?_)|refine pq F (fun g3=>?_) (fun g3=>?_))<;>(try exact g3.elim)<;>(try refine sq F ?_)<;>(refine wk F ?_)
     ·skip
      refine ee hQ F ?_
      exact ai hn (.bool _) ⟨by simp[PS.fits,k3,g1,ag2,g3],rfl⟩
     ·skip
      refine ee hQ F ?_
      exact ai hn (.bool _) ⟨by simp[PS.fits,k3,g1,ag2,g3],rfl⟩
    ·have ag2:¬s.fe.length<64:=by omega
     refine ee hQ F ?_
     exact ai hn (.bool _) ⟨by simp[PS.fits,k3,g1,ag2],rfl⟩
   ·skip
    refine ee hQ F ?_
    exact ai hn (.bool _) ⟨by simp[PS.fits,k3,g1],rfl⟩
  by_cases k4:e.kind=4
  ·have F:=k4
   try refine sq F ?_
   refine wk F ?_
   refine ee hQ F ?_
   exact ai hn (.bool _) ⟨by simp[PS.fits,k4],rfl⟩
  by_cases k5:e.kind=5
  ·have F:=k5
   try refine sq F ?_
   refine wk F ?_
   refine ee hQ F ?_
   exact ai hn (.bool _) ⟨by simp[PS.fits,k5],rfl⟩
  by_cases k6:e.kind=6
  ·have F:=k6
   try refine sq F ?_
   refine wk F ?_
   (first|refine gq F (fun g1=>?_) (fun g1=>?_)|refine pq F (fun g1=>?_) (fun g1=>?_))<;>(try exact g1.elim)<;>(try refine sq F ?_)<;>(refine wk F ?_)
   ·refine kq F (dB G s e.b (by simp;omega)) ?_
    refine ee hQ F ?_
    exact ai hn (.bool _) ⟨by simp[PS.fits,k6,g1],rfl⟩
   ·skip
    refine ee hQ F ?_
    exact ai hn (.bool _) ⟨by simp[PS.fits,k6,g1],rfl⟩
  by_cases k7:e.kind=7
  ·have F:=k7
   try refine sq F ?_
   refine wk F ?_
   refine aI 12 [10,11] [true,true,true,true,true,true,true,true,true,true,false,false] (.one 10 [false,true,true,true,true,true,true] (.one 11 [] .fin)) (by decide+kernel) (by kernel_rfl) (by decide+kernel) ?_
   simp only[aU,aV,aH]
   try refine sq F ?_
   repeat' (first| (refine aA ?_;try refine sq F ?_)| (refine aB ?_;try refine sq F ?_)| (refine aC ?_ ?_<;>try refine sq F ?_))
   all_goals try refine wk F ?_
   (first|refine gq F (fun g1=>?_) (fun g1=>?_)|refine pq F (fun g1=>?_) (fun g1=>?_))<;>(try exact g1.elim)<;>(try refine sq F ?_)<;>(refine wk F ?_)
   ·skip
    (first|refine gq F (fun g2=>?_) (fun g2=>?_)|refine pq F (fun g2=>?_) (fun g2=>?_))<;>(try exact g2.elim)<;>(try refine sq F ?_)<;>(refine wk F ?_)
    ·have ag2:s.it.length<1024:=by omega
     (first|refine gq F (fun g3=>?_) (fun g3=>?_)|refine pq F (fun g3=>?_) (fun g3=>?_))<;>(try exact g3.elim)<;>(try refine sq F ?_)<;>(refine wk F ?_)
     ·skip
      refine ee hQ F ?_
      exact ai hn (.bool _) ⟨by simp[PS.fits,k7,g1,ag2,g3],rfl⟩
     ·skip
      refine ee hQ F ?_
      exact ai hn (.bool _) ⟨by simp[PS.fits,k7,g1,ag2,g3],rfl⟩
    ·have ag2:¬s.it.length<1024:=by omega
     refine ee hQ F ?_
     exact ai hn (.bool _) ⟨by simp[PS.fits,k7,g1,ag2],rfl⟩
   ·skip
    refine ee hQ F ?_
    exact ai hn (.bool _) ⟨by simp[PS.fits,k7,g1],rfl⟩
  by_cases k8:e.kind=8
  ·have F:=k8
   try refine sq F ?_
   refine wk F ?_
   refine ee hQ F ?_
   exact ai hn (.bool _) ⟨by simp[PS.fits,k8],rfl⟩
  by_cases k9:e.kind=9
  ·have F:=k9
   try refine sq F ?_
   refine wk F ?_
   refine ee hQ F ?_
   exact ai hn (.bool _) ⟨by simp[PS.fits,k9],rfl⟩
  by_cases k10:e.kind=10
  ·have F:=k10
   try refine sq F ?_
   refine wk F ?_
   refine(hB n _ (by simp;omega)).mono ?_
   rintro r h' ⟨⟨i,rfl⟩,rfl⟩
   try refine sq F ?_
   refine wk F ?_
   (first|refine gq F (fun g1=>?_) (fun g1=>?_)|refine pq F (fun g1=>?_) (fun g1=>?_))<;>(try exact g1.elim)<;>(try refine sq F ?_)<;>(refine wk F ?_)
   ·(first|refine gq F (fun g2=>?_) (fun g2=>?_)|refine pq F (fun g2=>?_) (fun g2=>?_))<;>(try exact g2.elim)<;>(try refine sq F ?_)<;>(refine wk F ?_)
    ·skip
     refine ee hQ F ?_
     exact ai hn (.bool _) ⟨by simp[PS.fits,k10,g1,g2],rfl⟩
    ·(first|refine gq F (fun g3=>?_) (fun g3=>?_)|refine pq F (fun g3=>?_) (fun g3=>?_))<;>(try exact g3.elim)<;>(try refine sq F ?_)<;>(refine wk F ?_)
     ·skip
      refine ee hQ F ?_
      exact ai hn (.bool _) ⟨by simp[PS.fits,k10,g1,g2,g3],rfl⟩
     ·skip
      refine ee hQ F ?_
      exact ai hn (.bool _) ⟨by simp[PS.fits,k10,g1,g2,g3];omega,rfl⟩
   ·skip
    refine ee hQ F ?_
    exact ai hn (.bool _) ⟨by simp[PS.fits,k10,g1],rfl⟩
  by_cases k11:e.kind=11
  ·have F:=k11
   try refine sq F ?_
   refine wk F ?_
   (first|refine gq F (fun g1=>?_) (fun g1=>?_)|refine pq F (fun g1=>?_) (fun g1=>?_))<;>(try exact g1.elim)<;>(try refine sq F ?_)<;>(refine wk F ?_)
   ·skip
    refine ee hQ F ?_
    exact ai hn (.bool _) ⟨by simp[PS.fits,k11,g1];omega,rfl⟩
   ·skip
    refine ee hQ F ?_
    exact ai hn (.bool _) ⟨by simp[PS.fits,k11,g1],rfl⟩
  by_cases k12:e.kind=12
  ·have F:=k12
   try refine sq F ?_
   refine wk F ?_
   refine ee hQ F ?_
   exact ai hn (.bool _) ⟨by simp[PS.fits,k12],rfl⟩
  have n1:(e.kind==1)=false:=by simp[k1]
  have n2:(e.kind==2)=false:=by simp[k2]
  have n3:(e.kind==3)=false:=by simp[k3]
  have n4:(e.kind==4)=false:=by simp[k4]
  have n5:(e.kind==5)=false:=by simp[k5]
  have n6:(e.kind==6)=false:=by simp[k6]
  have n7:(e.kind==7)=false:=by simp[k7]
  have n8:(e.kind==8)=false:=by simp[k8]
  have n9:(e.kind==9)=false:=by simp[k9]
  have n10:(e.kind==10)=false:=by simp[k10]
  have n11:(e.kind==11)=false:=by simp[k11]
  have n12:(e.kind==12)=false:=by simp[k12]
  have F:=F2 (F9 n1 n2 n3 n4 n5 n6 n7 n8 n9) (F3 n10 n11 n12)
  try refine sq F ?_
  refine wk F ?_
  refine ee hQ F ?_
  exact ai hn (.bool _) ⟨by simp[PS.fits,k1,k2,k3,k4,k5,k6,k7,k8,k9,k10,k11,k12],rfl⟩
end Go.Av
namespace Go.Av
open Go Go.Proofs Go.RowKit
section
variable {κ α:Type} [DecidableEq κ]
def sumM(w:α→Int):ML κ α→Int
 | []=>0
 |e::l=>w e.2.1+sumM w l
def atM(w:α→Int):Option α→Int
 |none=>0
 |some a=>w a
theorem fQ(w:α→Int)(l:ML κ α)(c:Nat)(x:κ)(a:α):sumM w (upM l c x a)=sumM w l+w a-atM w (lkM l x):=by
 induction l with
 |nil=>simp[upM,sumM,lkM,atM]
 |cons e l ih=>
  simp only[upM,lkM]
  split
  ·simp only[sumM,atM];omega
  ·simp only[sumM,ih];omega
theorem mD(w:α→Int)(l:ML κ α)(x:κ):sumM w (dlM l x)=sumM w l-atM w (lkM l x):=by
 induction l with
 |nil=>simp[dlM,sumM,lkM,atM]
 |cons e l ih=>
  simp only[dlM,lkM]
  split
  ·simp only[sumM,atM];omega
  ·simp only[sumM,ih];omega
omit [DecidableEq κ] in
theorem bY{w:α→Int}(h:∀a,0≤w a)(l:ML κ α):0≤sumM w l:=by
 induction l with
 |nil=>simp[sumM]
 |cons e l ih=>have:=h e.2.1;simp only[sumM];omega
omit [DecidableEq κ] in
theorem fS{w:α→Int}(h:∀a,w a≤1)(l:ML κ α):sumM w l≤l.length:=by
 induction l with
 |nil=>simp[sumM]
 |cons e l ih=>have:=h e.2.1;simp only[sumM,List.length_cons];omega
theorem qP{w:α→Int}(h:∀a,0≤w a)(l:ML κ α)(x:κ):atM w (lkM l x)≤sumM w l:=by
 induction l with
 |nil=>simp[sumM,lkM,atM]
 |cons e l ih=>
  have h1:=h e.2.1
  have h2:=bY h l
  simp only[lkM]
  split
  ·simp only[sumM,atM];omega
  ·simp only[sumM];omega
theorem ia{w:α→Int}(h:∀a,0≤w a){l:ML κ α}(h0:sumM w l≤0){x:κ}{a:α}(hx:lkM l x=some a):w a=0:=by
 have:=qP h l x
 rw[hx]at this
 have:=h a
 simp only[atM]at *;omega
end
def inFo(id:Int)(f:Fo):Int:=if f.inn=id then 1 else 0
def inFe(id:Int)(f:Fe):Int:=if f.inn=id then 1 else 0
theorem dj(id:Int)(f:Fo):0≤inFo id f:=by unfold inFo;split<;>omega
theorem dm(id:Int)(f:Fe):0≤inFe id f:=by unfold inFe;split<;>omega
theorem mE(id:Int)(f:Fo):inFo id f≤1:=by unfold inFo;split<;>omega
theorem mF(id:Int)(f:Fe):inFe id f≤1:=by unfold inFe;split<;>omega
theorem pj{l:ML Int Fo}:∀{k:Nat} {id:Int} {d:Nat},deepO l k id=some d→∀{k':Nat},d≤k'→deepO l k' id=some d:=by
 intro k
 induction k with
 |zero=>
  intro id d h k' hk
  rw[deepO]at h
  cases hl:lkM l id with
  |none=>
   rw[hl]at h;simp at h;subst h
   cases k' with
   |zero=>rw[deepO,hl];simp
   |succ k'=>rw[deepO,hl]
  |some f=>rw[hl]at h;simp at h
 |succ k ih=>
  intro id d h k' hk
  rw[deepO]at h
  cases hl:lkM l id with
  |none=>
   rw[hl]at h;simp at h;subst h
   cases k' with
   |zero=>rw[deepO,hl];simp
   |succ k'=>rw[deepO,hl]
  |some f=>
   rw[hl]at h
   simp only[Option.map_eq_some_iff]at h
   obtain⟨j,hj,rfl⟩:=h
   obtain⟨k'',rfl⟩:∃k'',k'=k''+1:=⟨k'-1,by omega⟩
   rw[deepO,hl]
   simp only[ih hj (k':=k'') (by omega),Option.map_some]
theorem gm{l l':ML Int Fo}(P:Int→Prop)(h:∀id,P id→lkM l' id=lkM l id)(hc:∀id f,P id→lkM l id=some f→P f.inn):∀(k:Nat) (id:Int),P id→deepO l' k id=deepO l k id:=by
 intro k
 induction k with
 |zero=>intro id hp;rw[deepO,deepO,h id hp]
 |succ k ih=>
  intro id hp
  rw[deepO,deepO,h id hp]
  cases hl:lkM l id with
  |none=>rfl
  |some f=>simp only[ih f.inn (hc id f hp hl)]
structure PS.Inv (s:PS):Prop where
 w1:WFM s.fo s.c1
 w2:WFM s.fe s.c2
 w3:WFM s.it s.c3
 w4:WFM s.se s.c4
 w7:WFM s.gu s.c7
 w8:WFM s.he s.c8
 i1:∀k f,lkM s.fo k=some f→f.id=k∧1≤k∧k≤1048576
 i2:∀k f,lkM s.fe k=some f→f.id=k∧1≤k∧k≤1048576
 i3:∀k t,lkM s.it k=some t→t.id=k∧1≤k∧k≤1048576
 i4:∀k q,lkM s.se k=some q→q.id=k∧1≤k∧k≤1048576
 u1:∀k f,lkM s.fo k=some f→f.inn=0∨(lkM s.fo f.inn).isSome=true
 u2:∀k f,lkM s.fe k=some f→f.inn=0∨(lkM s.fo f.inn).isSome=true
 u3:∀k t,lkM s.it k=some t→(lkM s.fe t.feed).isSome=true
 dp:∀id,∃d,d≤7∧deepO s.fo 7 id=some d
 hd:∀id,id≠0→(lkM s.he id).getD 0=sumM (inFo id) s.fo+sumM (inFe id) s.fe
 h0:lkM s.he 0=none
 tg:∀k t,lkM s.it k=some t→Srt t.tags∧t.tags.length≤8
 l1:s.fo.length≤64
 l2:s.fe.length≤64
 l3:s.it.length≤1024
 l4:s.se.length≤32
theorem PS.Inv.z:PS.z.Inv where
 w1:=.nil
 w2:=.nil
 w3:=.nil
 w4:=.nil
 w7:=.nil
 w8:=.nil
 i1:=fun _ _ h=>by cases h
 i2:=fun _ _ h=>by cases h
 i3:=fun _ _ h=>by cases h
 i4:=fun _ _ h=>by cases h
 u1:=fun _ _ h=>by cases h
 u2:=fun _ _ h=>by cases h
 u3:=fun _ _ h=>by cases h
 dp:=fun _=>⟨0,by omega,rfl⟩
 hd:=fun _ _=>rfl
 h0:=rfl
 tg:=fun _ _ h=>by cases h
 l1:=by simp[PS.z]
 l2:=by simp[PS.z]
 l3:=by simp[PS.z]
 l4:=by simp[PS.z]
theorem PS.Inv.few{s:PS}(h:s.Inv):s.few:=by
 intro id
 by_cases h0:id=0
 ·subst h0;rw[h.h0];simp
 ·have h1:=h.hd id h0
  have h2:=bY (dj id) s.fo
  have h3:=bY (dm id) s.fe
  have h4:=fS (mE id) s.fo
  have h5:=fS (mF id) s.fe
  have h6:=h.l1
  have h7:=h.l2
  omega
def heF(he:ML Int Int)(c:Nat)(id k:Int):ML Int Int:=if id=0 then he else upM he c id ((lkM he id).getD 0+k)
def chF(he:ML Int Int)(c:Nat)(id:Int):Nat:=if id=0 then c else ckM he c id
theorem bk(s:PS)(id k:Int):s.hold id k= {s with he:=heF s.he s.c8 id k,c8:=chF s.he s.c8 id}:=by
 unfold PS.hold heF chF;split<;>rfl
theorem dG(he:ML Int Int)(c:Nat)(id k x:Int):(lkM (heF he c id k) x).getD 0=(lkM he x).getD 0+(if x=id∧id≠0 then k else 0):=by
 unfold heF
 by_cases h:id=0
 ·rw[if_pos h,if_neg (by omega)];omega
 ·rw[if_neg h,aj]
  by_cases hx:x=id
  ·subst hx;rw[if_pos rfl,if_pos ⟨rfl,h⟩];rfl
  ·rw[if_neg hx,if_neg (by omega)];omega
theorem fU{he:ML Int Int}(c:Nat)(id k:Int)(h:lkM he 0=none):lkM (heF he c id k) 0=none:=by
 unfold heF
 split
 ·exact h
 ·rename_i h1;rw[aj,if_neg (fun e=>h1 e.symm)];exact h
theorem ef{he:ML Int Int}{c:Nat}(w:WFM he c)(id k:Int):WFM (heF he c id k) (chF he c id):=by
 unfold heF chF
 split
 ·exact w
 ·exact w.up _ _
theorem qQ{s:PS}(h:s.Inv)(id k:Int)(hk: -1≤k∧k≤1):(s.hold id k).few:=by
 intro x
 have h1:=dG s.he s.c8 id k x
 rw[bk]
 simp only
 have h6:=h.l1
 have h7:=h.l2
 have h2:=bY (dj x) s.fo
 have h3:=bY (dm x) s.fe
 have h4:=fS (mE x) s.fo
 have h5:=fS (mF x) s.fe
 by_cases h0:x=0
 ·subst h0;rw[h1,h.h0];simp only[Option.getD_none];split<;>omega
 ·have:=h.hd x h0
  rw[h1];split<;>omega
def PS.dpt(s:PS)(id:Int):Nat:=(deepO s.fo 7 id).getD 0
def PS.ok(L:Leaf)(s:PS)(e:Ev):Bool:=s.fits (L.ck e) (s.dpt e.b) e
def PS.aft(s:PS)(e:Ev):PS:=s.after (tgF ((lkM s.it e.a).getD It.z).tags e.s e.n) e
def PS.step(L:Leaf)(s:PS)(e:Ev):PS:=if s.ok L e then s.aft e else s
theorem gF{L:Leaf}{e:Ev}(h:L.right e=true)(hk:e.kind≠13):1≤e.a∧e.a≤1048576:=by
 have:idF e.a=true:=by
  unfold Leaf.right at h
  repeat' (split at h)
  all_goals first| (simp only[Bool.and_eq_true]at h;exact h.1)|exact h|omega| (cases h)
 simpa [idF]using this
theorem sA{l:List Bs}{t:Bs}(hs:Srt l)(ht:t ∉ l):Srt (l.take (lbF l t)++t::l.drop (lbF l t)):=by
 induction l with
 |nil=>simp[lbF,Srt]
 |cons a l ih=>
  have hs':=hs
  unfold Srt at hs
  rw[List.pairwise_cons]at hs
  rw[gD]
  split
  ·rename_i hat
   simp only[List.take_succ_cons,List.drop_succ_cons,List.cons_append]
   unfold Srt
   rw[List.pairwise_cons]
   refine⟨fun x hx=>?_,ih hs.2 (fun h=>ht (List.mem_cons_of_mem _ h))⟩
   rw[List.mem_append,List.mem_cons]at hx
   rcases hx with h|rfl|h
   ·exact hs.1 x (List.mem_of_mem_take h)
   ·exact hat
   ·exact hs.1 x (List.mem_of_mem_drop h)
  ·rename_i hat
   simp only[List.take_zero,List.drop_zero,List.nil_append]
   have hat':Op.bytesLess a t=false:=by simpa using hat
   have hta:Op.bytesLess t a=true:=by
    cases h:Op.bytesLess t a with
    |true=>rfl
    |false=>exact(ht (by rw[ku t a h hat'];exact List.mem_cons_self ..)).elim
   unfold Srt
   rw[List.pairwise_cons]
   refine⟨fun x hx=>?_,hs'⟩
   rcases List.mem_cons.1 hx with rfl|h
   ·exact hta
   ·exact dE hta (hs.1 x h)
theorem sB{l:List Bs}(hs:Srt l)(i:Nat):Srt (l.take i++l.drop (i+1)):=by
 rw[← List.eraseIdx_eq_take_drop_succ]
 exact hs.sublist (List.eraseIdx_sublist l i)
theorem sC{l:List Bs}(hs:Srt l)(t:Bs)(n:Int):Srt (tgF l t n):=by
 unfold tgF
 split
 ·rename_i h;exact sA hs h.2
 ·split
  ·exact sB hs _
  ·exact hs
theorem sD{l:List Bs}(t:Bs)(n:Int)(hl:l.length≤8)(h:n=0∨t∈l∨l.length<8):(tgF l t n).length≤8:=by
 have:=kw l t
 unfold tgF
 split
 ·rename_i h1
  simp only[List.length_append,List.length_cons,List.length_take,List.length_drop]
  rcases h with h|h|h
  ·omega
  ·exact(h1.2 h).elim
  ·omega
 ·split
  ·simp only[List.length_append,List.length_take,List.length_drop];omega
  ·exact hl
end Go.Av
namespace Go.Av
open Go Go.Proofs Go.RowKit
variable {s:PS} {e:Ev}
theorem mG{κ α:Type}[DecidableEq κ]{l:ML κ α}{x:κ}(h:(lkM l x).isSome=false):lkM l x=none:=by
 cases hl:lkM l x with
 |none=>rfl
 |some a=>rw[hl]at h;cases h
theorem bB{κ α:Type}[DecidableEq κ]{l:ML κ α}{x:κ}(h:(lkM l x).isSome=true):∃a,lkM l x=some a:=Option.isSome_iff_exists.1 h
theorem dn{κ α:Type}[DecidableEq κ]{l:ML κ α}(c:Nat)(x:κ)(a:α){y:κ}(h:(lkM l y).isSome=true):(lkM (upM l c x a) y).isSome=true:=by
 rw[aj];split
 ·rfl
 ·exact h
theorem az{κ α:Type}[DecidableEq κ]{l:ML κ α}{c:Nat}{x y:κ}{a b:α}(h:lkM (upM l c x a) y=some b):(y=x∧b=a)∨(y≠x∧lkM l y=some b):=by
 rw[aj]at h
 split at h
 ·rename_i hy;cases h;exact .inl ⟨hy,rfl⟩
 ·rename_i hy;exact .inr ⟨hy,h⟩
theorem fy{κ α:Type}[DecidableEq κ]{l:ML κ α}(hn:(l.map (·.1)).Nodup){x y:κ}{b:α}(h:lkM (dlM l x) y=some b):y≠x∧lkM l y=some b:=by
 rw[aQ hn]at h
 split at h
 ·cases h
 ·rename_i hy;exact⟨hy,h⟩
theorem dq{α:Type}{l:ML Int α}(hn:(l.map (·.1)).Nodup){p:Int×α×Nat→Bool}{y:Int}{b:α}(h:lkM (l.filter p) y=some b):lkM l y=some b:=by
 obtain⟨n,hm⟩:=dX h
 exact bn hn (List.mem_filter.1 hm).1
theorem dH{κ α:Type}[DecidableEq κ](l:ML κ α)(c:Nat)(x:κ)(a:α)(m:Nat)(h:l.length<m∨((lkM l x).isSome=true∧l.length≤m)):(upM l c x a).length≤m:=by
 rw[fH];split
 ·omega
 ·rename_i h1;rcases h with h|h
  ·omega
  ·exact(h1 h.1).elim
theorem kA{κ α:Type}[DecidableEq κ](l:ML κ α)(x:κ)(m:Nat)(h:l.length≤m):(dlM l x).length≤m:=Nat.le_trans (dg l x).length_le h
theorem PS.Inv.no0(h:s.Inv):lkM s.fo 0=none:=by
 cases hl:lkM s.fo 0 with
 |none=>rfl
 |some f=>have:=(h.i1 _ _ hl).2.1;omega
theorem PS.Inv.deep(h:s.Inv)(id:Int):deepO s.fo 7 id=some (s.dpt id)∧s.dpt id≤7:=by
 obtain⟨d,h1,h2⟩:=h.dp id
 unfold PS.dpt;rw[h2];exact⟨rfl,h1⟩
theorem cS(h:s.within e.b=true):e.b=0∨(lkM s.fo e.b).isSome=true:=by
 unfold PS.within at h;simpa using h
theorem PS.Inv.mkFo(h:s.Inv)(ha:1≤e.a∧e.a≤1048576)(hn:(lkM s.fo e.a).isSome=false)(hl:s.fo.length<64)(hw:s.within e.b=true)(hd:s.dpt e.b<7):
  PS.Inv ((((s.upFo e.a ⟨e.a,e.b,e.s⟩).upNm (e.b,e.s) e.a).hold e.b 1).raise 0 e.a):=by
 rw[bk]
 have hb:=cS hw
 have hnn:=mG hn
 have hba:e.b≠e.a:=by
  rcases hb with hb|hb
  ·omega
  ·intro q;rw[q,hn]at hb;cases hb
 have hcg:∀k id,id≠e.a→deepO (upM s.fo s.c1 e.a ⟨e.a,e.b,e.s⟩) k id=deepO s.fo k id:=by
  refine gm (fun id=>id≠e.a) (fun id hi=>by rw[aj,if_neg hi]) (fun id f hi hf=>?_)
  rcases h.u1 id f hf with h1|h1
  ·omega
  ·intro q;rw[q,hn]at h1;cases h1
 exact {h with
  w1:=h.w1.up _ _
  w8:=ef h.w8 _ _
  i1:=fun k f hk=>by
   rcases az (l:=s.fo) hk with⟨rfl,rfl⟩| ⟨_,hk⟩
   ·exact⟨rfl,ha⟩
   ·exact h.i1 k f hk
  u1:=fun k f hk=>by
   rcases az (l:=s.fo) hk with⟨rfl,rfl⟩| ⟨_,hk⟩
   ·exact hb.imp id (dn _ _ _)
   ·exact(h.u1 k f hk).imp id (dn _ _ _)
  u2:=fun k f hk=>(h.u2 k f hk).imp id (dn _ _ _)
  dp:=fun id=>by
   show ∃d,d≤7∧deepO (upM s.fo s.c1 e.a ⟨e.a,e.b,e.s⟩) 7 id=some d
   by_cases hi:id=e.a
   ·subst hi
    obtain⟨h1,h2⟩:=h.deep e.b
    refine⟨s.dpt e.b+1,by omega,?_⟩
    rw[deepO,aj,if_pos rfl]
    simp only[hcg 6 e.b hba,pj h1 (k':=6) (by omega),Option.map_some]
   ·obtain⟨d,h1,h2⟩:=h.dp id
    exact⟨d,h1,by rw[hcg 7 id hi,h2]⟩
  hd:=fun id hi=>by
   show(lkM (heF s.he s.c8 e.b 1) id).getD 0=sumM (inFo id) (upM s.fo s.c1 e.a ⟨e.a,e.b,e.s⟩)+sumM (inFe id) s.fe
   rw[dG,fQ,hnn,h.hd id hi]
   simp only[atM,inFo]
   by_cases hx:e.b=id
   ·subst hx;simp[hi];omega
   ·rw[if_neg (by omega),if_neg hx];omega
  h0:=fU _ _ _ h.h0
  l1:=dH _ _ _ _ _ (.inl hl)}
theorem PS.Inv.mkFe(h:s.Inv)(ha:1≤e.a∧e.a≤1048576)(hn:(lkM s.fe e.a).isSome=false)(hl:s.fe.length<64)(hw:s.within e.b=true):
  PS.Inv ((((s.upFe e.a ⟨e.a,e.b,e.s,e.t⟩).upPl e.s e.a).hold e.b 1).raise 1 e.a):=by
 rw[bk]
 have hb:=cS hw
 have hnn:=mG hn
 exact {h with
  w2:=h.w2.up _ _
  w8:=ef h.w8 _ _
  i2:=fun k f hk=>by
   rcases az (l:=s.fe) hk with⟨rfl,rfl⟩| ⟨_,hk⟩
   ·exact⟨rfl,ha⟩
   ·exact h.i2 k f hk
  u2:=fun k f hk=>by
   rcases az (l:=s.fe) hk with⟨rfl,rfl⟩| ⟨_,hk⟩
   ·exact hb
   ·exact h.u2 k f hk
  u3:=fun k f hk=>dn _ _ _ (h.u3 k f hk)
  hd:=fun id hi=>by
   show(lkM (heF s.he s.c8 e.b 1) id).getD 0=sumM (inFo id) s.fo+sumM (inFe id) (upM s.fe s.c2 e.a ⟨e.a,e.b,e.s,e.t⟩)
   rw[dG,fQ,hnn,h.hd id hi]
   simp only[atM,inFe]
   by_cases hx:e.b=id
   ·subst hx;simp[hi];omega
   ·rw[if_neg (by omega),if_neg hx];omega
  h0:=fU _ _ _ h.h0
  l2:=dH _ _ _ _ _ (.inl hl)}
theorem PS.Inv.mkIt(h:s.Inv)(ha:1≤e.a∧e.a≤1048576)(hl:s.it.length<1024)(hw:(lkM s.fe e.b).isSome=true):
  PS.Inv (((s.upIt e.a ⟨e.a,e.b,e.n,e.s,e.t,e.u,false,false,[]⟩).upGu (e.b,e.s) e.a).raise 2 e.a):=
 {h with
  w3:=h.w3.up _ _
  w7:=h.w7.up _ _
  i3:=fun k f hk=>by
   rcases az (l:=s.it) hk with⟨rfl,rfl⟩| ⟨_,hk⟩
   ·exact⟨rfl,ha⟩
   ·exact h.i3 k f hk
  u3:=fun k f hk=>by
   rcases az (l:=s.it) hk with⟨rfl,rfl⟩| ⟨_,hk⟩
   ·exact hw
   ·exact h.u3 k f hk
  tg:=fun k f hk=>by
   rcases az (l:=s.it) hk with⟨rfl,rfl⟩| ⟨_,hk⟩
   ·exact⟨by simp[Srt],by simp⟩
   ·exact h.tg k f hk
  l3:=dH _ _ _ _ _ (.inl hl)}
theorem PS.Inv.mkSe(h:s.Inv)(ha:1≤e.a∧e.a≤1048576)(hl:s.se.length<32):PS.Inv ((s.upSe e.a ⟨e.a,e.s,e.t⟩).raise 3 e.a):=
 {h with
  w4:=h.w4.up _ _
  i4:=fun k f hk=>by
   rcases az (l:=s.se) hk with⟨rfl,rfl⟩| ⟨_,hk⟩
   ·exact⟨rfl,ha⟩
   ·exact h.i4 k f hk
  l4:=dH _ _ _ _ _ (.inl hl)}
theorem PS.Inv.reIt(h:s.Inv){k:Int}{t:It}(t':It)(hk:lkM s.it k=some t)(h1:t'.id=t.id)(h2:t'.feed=t.feed)(h3:Srt t'.tags∧t'.tags.length≤8):PS.Inv (s.upIt k t'):=
 {h with
  w3:=h.w3.up _ _
  i3:=fun j f hj=>by
   rcases az (l:=s.it) hj with⟨rfl,rfl⟩| ⟨_,hj⟩
   ·rw[h1];exact h.i3 _ _ hk
   ·exact h.i3 j f hj
  u3:=fun j f hj=>by
   rcases az (l:=s.it) hj with⟨rfl,rfl⟩| ⟨_,hj⟩
   ·rw[h2];exact h.u3 _ _ hk
   ·exact h.u3 j f hj
  tg:=fun j f hj=>by
   rcases az (l:=s.it) hj with⟨rfl,rfl⟩| ⟨_,hj⟩
   ·exact h3
   ·exact h.tg j f hj
  l3:=dH _ _ _ _ _ (.inr ⟨by rw[hk];rfl,h.l3⟩)}
theorem PS.Inv.unFo(h:s.Inv){k:Int}{f:Fo}(hk:lkM s.fo k=some f)(h0:(lkM s.he k).getD 0=0):PS.Inv (((s.dlNm (f.inn,f.name)).dlFo k).hold f.inn (-1)):=by
 rw[bk]
 have hk1:=(h.i1 _ _ hk).2
 have hs:=h.hd k (by omega)
 have n1:=bY (dj k) s.fo
 have n2:=bY (dm k) s.fe
 have hA:∀j g,lkM s.fo j=some g→g.inn≠k:=fun j g hg q=>by
  have:=ia (dj k) (l:=s.fo) (by omega) hg
  rw[inFo,if_pos q]at this;omega
 have hB:∀j g,lkM s.fe j=some g→g.inn≠k:=fun j g hg q=>by
  have:=ia (dm k) (l:=s.fe) (by omega) hg
  rw[inFe,if_pos q]at this;omega
 have hcg:∀m id,id≠k→deepO (dlM s.fo k) m id=deepO s.fo m id:=
  gm (fun id=>id≠k) (fun id hi=>by rw[aQ h.w1.keys,if_neg hi]) (fun id g _ hg=>hA id g hg)
 have hst:∀x,x≠k→(lkM s.fo x).isSome=true→(lkM (dlM s.fo k) x).isSome=true:=fun x hx hs=>by rw[aQ h.w1.keys,if_neg hx];exact hs
 exact {h with
  w1:=h.w1.dl _
  w8:=ef h.w8 _ _
  i1:=fun j g hj=>h.i1 j g (fy h.w1.keys hj).2
  u1:=fun j g hj=>by
   obtain⟨_,hj⟩:=fy h.w1.keys hj
   exact(h.u1 j g hj).imp id (hst _ (hA j g hj))
  u2:=fun j g hj=>(h.u2 j g hj).imp id (hst _ (hB j g hj))
  dp:=fun id=>by
   show ∃d,d≤7∧deepO (dlM s.fo k) 7 id=some d
   by_cases hi:id=k
   ·subst hi;exact⟨0,by omega,by rw[deepO,aQ h.w1.keys,if_pos rfl]⟩
   ·rw[hcg 7 id hi];exact h.dp id
  hd:=fun id hi=>by
   show(lkM (heF s.he s.c8 f.inn (-1)) id).getD 0=sumM (inFo id) (dlM s.fo k)+sumM (inFe id) s.fe
   rw[dG,mD,hk,h.hd id hi]
   simp only[atM,inFo]
   by_cases hx:f.inn=id
   ·subst hx;simp[hi];omega
   ·rw[if_neg (by omega),if_neg hx];omega
  h0:=fU _ _ _ h.h0
  l1:=kA _ _ _ h.l1}
theorem PS.Inv.reTi(h:s.Inv){k:Int}{f:Fe}(t:Bs)(hk:lkM s.fe k=some f):PS.Inv (s.upFe k {f with title:=t}):=
 {h with
  w2:=h.w2.up _ _
  i2:=fun j g hj=>by
   rcases az (l:=s.fe) hj with⟨rfl,rfl⟩| ⟨_,hj⟩
   ·have:=h.i2 _ _ hk;exact this
   ·exact h.i2 j g hj
  u2:=fun j g hj=>by
   rcases az (l:=s.fe) hj with⟨rfl,rfl⟩| ⟨_,hj⟩
   ·have:=h.u2 _ _ hk;exact this
   ·exact h.u2 j g hj
  u3:=fun j g hj=>dn _ _ _ (h.u3 j g hj)
  hd:=fun id hi=>by
   show(lkM s.he id).getD 0=sumM (inFo id) s.fo+sumM (inFe id) (upM s.fe s.c2 k {f with title:=t})
   rw[fQ,hk,h.hd id hi]
   simp only[atM,inFe];omega
  l2:=dH _ _ _ _ _ (.inr ⟨by rw[hk];rfl,h.l2⟩)}
theorem PS.Inv.reIn(h:s.Inv){k b:Int}{f:Fe}(hk:lkM s.fe k=some f)(hb:b=0∨(lkM s.fo b).isSome=true):PS.Inv (((s.hold f.inn (-1)).hold b 1).upFe k {f with inn:=b}):=by
 rw[bk s,bk]
 exact {h with
  w2:=h.w2.up _ _
  w8:=ef (ef h.w8 _ _) _ _
  i2:=fun j g hj=>by
   rcases az (l:=s.fe) hj with⟨rfl,rfl⟩| ⟨_,hj⟩
   ·have:=h.i2 _ _ hk;exact this
   ·exact h.i2 j g hj
  u2:=fun j g hj=>by
   rcases az (l:=s.fe) hj with⟨rfl,rfl⟩| ⟨_,hj⟩
   ·exact hb
   ·exact h.u2 j g hj
  u3:=fun j g hj=>dn _ _ _ (h.u3 j g hj)
  hd:=fun id hi=>by
   show(lkM (heF (heF s.he s.c8 f.inn (-1)) (chF s.he s.c8 f.inn) b 1) id).getD 0=sumM (inFo id) s.fo+sumM (inFe id) (upM s.fe s.c2 k {f with inn:=b})
   rw[dG,dG,fQ,hk,h.hd id hi]
   simp only[atM,inFe]
   by_cases h1:f.inn=id
   ·by_cases h2:b=id
    ·rw[if_pos ⟨h1.symm,by omega⟩,if_pos ⟨h2.symm,by omega⟩,if_pos h1,if_pos h2];omega
    ·rw[if_pos ⟨h1.symm,by omega⟩,if_neg (by omega),if_pos h1,if_neg h2];omega
   ·by_cases h2:b=id
    ·rw[if_neg (by omega),if_pos ⟨h2.symm,by omega⟩,if_neg h1,if_pos h2];omega
    ·rw[if_neg (by omega),if_neg (by omega),if_neg h1,if_neg h2];omega
  h0:=fU _ _ _ (fU _ _ _ h.h0)
  l2:=dH _ _ _ _ _ (.inr ⟨by rw[hk];rfl,h.l2⟩)}
theorem PS.Inv.unFe(h:s.Inv){k:Int}{f:Fe}(hk:lkM s.fe k=some f):PS.Inv (s.unfeed f):=by
 have hfk:=(h.i2 _ _ hk).1
 unfold PS.unfeed
 rw[bk]
 exact {h with
  w2:=h.w2.dl _
  w3:=h.w3.filter _
  w7:=h.w7.filter _
  w8:=ef h.w8 _ _
  i2:=fun j g hj=>h.i2 j g (fy h.w2.keys hj).2
  i3:=fun j t hj=>h.i3 j t (dq h.w3.keys hj)
  u2:=fun j g hj=>h.u2 j g (fy h.w2.keys hj).2
  u3:=fun j t hj=>by
   have hj':lkM (itF s.it f.id) j=some t:=hj
   show(lkM (dlM s.fe f.id) t.feed).isSome=true
   have hne:t.feed≠f.id:=by
    obtain⟨n,hm⟩:=dX hj'
    have:=(List.mem_filter.1 hm).2
    simpa using this
   rw[aQ h.w2.keys,if_neg hne]
   exact h.u3 j t (dq h.w3.keys hj')
  hd:=fun id hi=>by
   show(lkM (heF s.he s.c8 f.inn (-1)) id).getD 0=sumM (inFo id) s.fo+sumM (inFe id) (dlM s.fe f.id)
   rw[dG,mD,hfk,hk,h.hd id hi]
   simp only[atM,inFe]
   by_cases hx:f.inn=id
   ·subst hx;simp[hi];omega
   ·rw[if_neg (by omega),if_neg hx];omega
  h0:=fU _ _ _ h.h0
  tg:=fun j t hj=>h.tg j t (dq h.w3.keys hj)
  l2:=kA _ _ _ h.l2
  l3:=Nat.le_trans (List.length_filter_le _ _) h.l3}
theorem PS.Inv.unSe(h:s.Inv)(k:Int):PS.Inv (s.dlSe k):=
 {h with
  w4:=h.w4.dl _
  i4:=fun j g hj=>h.i4 j g (fy h.w4.keys hj).2
  l4:=kA _ _ _ h.l4}
theorem PS.Inv.clk(h:s.Inv)(k:Int):PS.Inv {s with clock:=k}:= {h with}
theorem PS.Inv.step{L:Leaf}(h:s.Inv)(e:Ev):(s.step L e).Inv:=by
 unfold PS.step
 split
 ·rename_i hok
  unfold PS.ok PS.fits at hok
  rw[Bool.and_eq_true]at hok
  obtain⟨hck,hf⟩:=hok
  have hr:L.right e=true:=by unfold Leaf.ck at hck;simp only[Bool.and_eq_true]at hck;exact hck.1
  have ha:e.kind≠13→1≤e.a∧e.a≤1048576:=fun hk=>gF hr hk
  unfold PS.aft PS.after
  by_cases k1:e.kind=1
  ·rw[if_pos k1]at hf
   simp only[Bool.and_eq_true,Bool.not_eq_true',decide_eq_true_eq,beq_iff_eq]at hf
   rw[if_neg (by omega),if_neg (by omega),if_neg (by omega),if_neg (by omega),if_neg (by omega),if_neg (by omega),if_neg (by omega),if_neg (by omega),if_neg (by omega),PS.make,if_pos k1]
   exact h.mkFo (ha (by omega)) hf.1.1.1.1 hf.1.1.1.2 hf.1.1.2 hf.1.2
  rw[if_neg k1]at hf
  by_cases k2:e.kind=2
  ·rw[if_pos k2]at hf ⊢
   simp only[Bool.and_eq_true,beq_iff_eq]at hf
   obtain⟨f,hfo⟩:=bB hf.1
   rw[hfo]
   exact h.unFo hfo hf.2
  rw[if_neg k2]at hf ⊢
  by_cases k3:e.kind=3
  ·rw[if_pos k3]at hf
   simp only[Bool.and_eq_true,Bool.not_eq_true',decide_eq_true_eq,beq_iff_eq]at hf
   rw[if_neg (by omega),if_neg (by omega),if_neg (by omega),if_neg (by omega),if_neg (by omega),if_neg (by omega),if_neg (by omega),if_neg (by omega),PS.make,if_neg (by omega),if_pos k3]
   exact h.mkFe (ha (by omega)) hf.1.1.1 hf.1.1.2 hf.1.2
  rw[if_neg k3]at hf
  by_cases k4:e.kind=4
  ·rw[if_pos (.inl k4)]at hf
   rw[if_pos k4]
   obtain⟨f,hfo⟩:=bB hf
   rw[hfo]
   exact h.unFe hfo
  rw[if_neg k4]
  by_cases k5:e.kind=5
  ·rw[if_pos (.inr k5)]at hf
   rw[if_pos k5]
   obtain⟨f,hfo⟩:=bB hf
   rw[hfo]
   exact h.reTi _ hfo
  rw[if_neg (by omega)]at hf
  rw[if_neg k5]
  by_cases k6:e.kind=6
  ·rw[if_pos k6]at hf ⊢
   simp only[Bool.and_eq_true]at hf
   obtain⟨f,hfo⟩:=bB hf.1
   rw[hfo]
   exact h.reIn hfo (cS hf.2)
  rw[if_neg k6]at hf ⊢
  by_cases k7:e.kind=7
  ·rw[if_pos k7]at hf
   simp only[Bool.and_eq_true,Bool.not_eq_true',decide_eq_true_eq,beq_iff_eq]at hf
   rw[if_neg (by omega),if_neg (by omega),if_neg (by omega),if_neg (by omega),if_neg (by omega),PS.make,if_neg (by omega),if_neg (by omega),if_pos k7]
   exact h.mkIt (ha (by omega)) hf.1.1.2 hf.1.2
  rw[if_neg k7]at hf
  by_cases k8:e.kind=8
  ·rw[if_pos (.inl k8)]at hf
   rw[if_pos k8]
   obtain⟨f,hfo⟩:=bB hf
   rw[hfo]
   have htg:=h.tg _ _ hfo
   exact h.reIt _ hfo rfl rfl htg
  rw[if_neg k8]
  by_cases k9:e.kind=9
  ·rw[if_pos (.inr k9)]at hf
   rw[if_pos k9]
   obtain⟨f,hfo⟩:=bB hf
   rw[hfo]
   have htg:=h.tg _ _ hfo
   exact h.reIt _ hfo rfl rfl htg
  rw[if_neg (by omega)]at hf
  rw[if_neg k9]
  by_cases k10:e.kind=10
  ·rw[if_pos k10]at hf ⊢
   simp only[Bool.and_eq_true,Bool.or_eq_true,decide_eq_true_eq]at hf
   obtain⟨f,hfo⟩:=bB hf.1
   rw[hfo]at hf ⊢
   simp only[Option.getD_some]at hf ⊢
   have htg:=h.tg _ _ hfo
   exact h.reIt _ hfo rfl rfl ⟨sC htg.1 _ _,sD _ _ htg.2 (by rcases hf.2 with(h1|h1)|h1<;>simp[h1])⟩
  rw[if_neg k10]at hf ⊢
  by_cases k11:e.kind=11
  ·rw[if_pos k11]at hf
   simp only[Bool.and_eq_true,Bool.not_eq_true',decide_eq_true_eq]at hf
   rw[if_neg (by omega),if_neg (by omega),PS.make,if_neg (by omega),if_neg (by omega),if_neg (by omega),if_pos k11]
   exact h.mkSe (ha (by omega)) hf.2
  rw[if_neg k11]at hf
  by_cases k12:e.kind=12
  ·rw[if_pos k12];exact h.unSe _
  rw[if_neg k12]
  by_cases k13:e.kind=13
  ·rw[if_pos k13];exact h.clk _
  ·exfalso
   unfold Leaf.right at hr
   rw[if_neg k1,if_neg (by omega),if_neg k3,if_neg k5,if_neg k6,if_neg k7,if_neg (by omega),if_neg k10,if_neg k11,if_neg k13]at hr
   cases hr
 ·exact h
theorem PS.Inv.fold{L:Leaf}(h:s.Inv)(l:List Ev):(l.foldl (PS.step L) s).Inv:=by
 induction l generalizing s with
 |nil=>exact h
 |cons e l ih=>exact ih (h.step e)
theorem br{α:Type}{z:α}{l:ML Int α}{a:α}(h:a∈valsM z l):∃k,lkM l k=some a:=by
 unfold valsM at h
 obtain⟨k,hk,rfl⟩:=List.mem_map.1 h
 have hk2:k∈l.map (·.1):=(List.mergeSort_perm _ _).mem_iff.1 hk
 refine⟨k,?_⟩
 cases hl:lkM l k with
 |none=>
  have:(lkM l k).isSome=false:=by rw[hl];rfl
  exact(fI this hk2).elim
 |some a=>rfl
theorem ib{α:Type}{l:ML Int α}{c:Nat}(w:WFM l c)(h:∀k a,lkM l k=some a→1≤k∧k≤1048576):∀e∈l,inI e.1:=fun e he=>by
 have:=h e.1 e.2.1 (bn w.keys (b:=e.2.2) (by exact he))
 unfold inI;omega
theorem PS.Inv.toOk(h:s.Inv):s.Ok where
 w1:=h.w1
 w2:=h.w2
 w3:=h.w3
 w4:=h.w4
 b1:=ib h.w1 fun k f hk=>(h.i1 k f hk).2
 b2:=ib h.w2 fun k f hk=>(h.i2 k f hk).2
 b3:=ib h.w3 fun k f hk=>(h.i3 k f hk).2
 b4:=ib h.w4 fun k f hk=>(h.i4 k f hk).2
 l1:=Nat.le_trans h.l1 (by omega)
 l2:=Nat.le_trans h.l2 (by omega)
 l3:=Nat.le_trans h.l3 (by omega)
 l4:=Nat.le_trans h.l4 (by omega)
 tg:=fun t ht=>by
  obtain⟨k,hk⟩:=br ht
  exact Nat.le_trans (h.tg k t hk).2 (by omega)
theorem PS.Inv.tags(h:s.Inv)(id:Int):Srt ((lkM s.it id).getD It.z).tags∧((lkM s.it id).getD It.z).tags.length≤8:=by
 cases hl:lkM s.it id with
 |none=>exact⟨by simp[It.z,Srt],by simp[It.z]⟩
 |some t=>exact h.tg id t hl
end Go.Av
namespace Go.Av
open Go Go.Proofs Go.RowKit
theorem qR{ab:ML Int Int}:∀{k:Nat} {id:Int} {l:List Int},chO ab k id=some l→∀{k':Nat} {l':List Int},chO ab k' id=some l'→l=l':=by
 intro k
 induction k with
 |zero=>
  intro id l h k' l' h'
  rw[chO]at h
  split at h
  ·rename_i h0
   cases h
   cases k' with
   |zero=>rw[chO,if_pos h0]at h';cases h';rfl
   |succ k'=>rw[chO,if_pos h0]at h';cases h';rfl
  ·cases h
 |succ k ih=>
  intro id l h k' l' h'
  rw[chO]at h
  split at h
  ·rename_i h0
   cases h
   cases k' with
   |zero=>rw[chO,if_pos h0]at h';cases h';rfl
   |succ k'=>rw[chO,if_pos h0]at h';cases h';rfl
  ·rename_i h0
   simp only[Option.map_eq_some_iff]at h
   obtain⟨r,hr,rfl⟩:=h
   cases k' with
   |zero=>rw[chO,if_neg h0]at h';cases h'
   |succ k'=>
    rw[chO,if_neg h0]at h'
    simp only[Option.map_eq_some_iff]at h'
    obtain⟨r',hr',rfl⟩:=h'
    rw[ih hr hr']
theorem sE{ab:ML Int Int}:∀{k:Nat} {id:Int} {l:List Int},chO ab k id=some l→∀x∈l,∃k' l',chO ab k' x=some l'∧l'.length≤l.length:=by
 intro k
 induction k with
 |zero=>
  intro id l h x hx
  rw[chO]at h
  split at h
  ·cases h;cases hx
  ·cases h
 |succ k ih=>
  intro id l h x hx
  have h2:=h
  rw[chO]at h
  split at h
  ·cases h;cases hx
  ·simp only[Option.map_eq_some_iff]at h
   obtain⟨r,hr,rfl⟩:=h
   rcases List.mem_cons.1 hx with rfl|hx
   ·exact⟨k+1,_,h2,Nat.le_refl _⟩
   ·obtain⟨k',l',h3,h4⟩:=ih hr x hx
    exact⟨k',l',h3,Nat.le_trans h4 (by simp)⟩
theorem pk{ab:ML Int Int}:∀{k:Nat} {id:Int} {l:List Int},chO ab k id=some l→l.Nodup:=by
 intro k
 induction k with
 |zero=>
  intro id l h
  rw[chO]at h
  split at h
  ·cases h;simp
  ·cases h
 |succ k ih=>
  intro id l h
  have h2:=h
  rw[chO]at h
  split at h
  ·cases h;simp
  ·simp only[Option.map_eq_some_iff]at h
   obtain⟨r,hr,rfl⟩:=h
   rw[List.nodup_cons]
   refine⟨fun hm=>?_,ih hr⟩
   obtain⟨k',l',h3,h4⟩:=sE hr id hm
   have:=qR h2 h3
   rw[← this]at h4
   simp at h4;omega
theorem jk{ab ab':ML Int Int}(P:Int→Prop)(h:∀id,P id→lkM ab' id=lkM ab id)(hc:∀id,P id→id≠0→P ((lkM ab id).getD 0)):∀(k:Nat) (id:Int),P id→chO ab' k id=chO ab k id:=by
 intro k
 induction k with
 |zero=>intro id hp;rw[chO,chO]
 |succ k ih=>
  intro id hp
  rw[chO,chO,h id hp]
  split
  ·rfl
  ·rename_i h0;rw[ih _ (hc id hp h0)]
theorem qS{ab:ML Int Int}{fo:ML Int Fo}(hab:∀id,lkM ab id=(lkM fo id).map (·.inn))(hu:∀k f,lkM fo k=some f→f.inn=0∨(lkM fo f.inn).isSome=true)(h0:lkM fo 0=none):
  ∀(k:Nat) (id:Int) (d:Nat),(id=0∨(lkM fo id).isSome=true)→deepO fo k id=some d→∃l,chO ab k id=some l∧l.length=d∧∀x∈l,(lkM fo x).isSome=true:=by
 intro k
 induction k with
 |zero=>
  intro id d hi hd
  rw[deepO]at hd
  split at hd
  ·cases hd
  ·rename_i hs
   cases hd
   have:id=0:=hi.resolve_right hs
   exact⟨[],by rw[chO,if_pos this],rfl,fun x hx=>by cases hx⟩
 |succ k ih=>
  intro id d hi hd
  rw[deepO]at hd
  by_cases hz:id=0
  ·subst hz
   rw[h0]at hd
   simp only at hd
   cases hd
   exact⟨[],by rw[chO,if_pos rfl],rfl,fun x hx=>by cases hx⟩
  ·obtain⟨f,hf⟩:=Option.isSome_iff_exists.1 (hi.resolve_left hz)
   rw[hf]at hd
   simp only[Option.map_eq_some_iff]at hd
   obtain⟨j,hj,rfl⟩:=hd
   obtain⟨l,h1,h2,h3⟩:=ih f.inn j (hu id f hf) hj
   refine⟨id::l,?_,by simp[h2],fun x hx=>?_⟩
   ·rw[chO,if_neg hz,hab,hf]
    simp only[Option.map_some,Option.getD_some,h1]
   ·rcases List.mem_cons.1 hx with rfl|hx
    ·rw[hf];rfl
    ·exact h3 x hx
structure Kp (c:CS) (s:PS):Prop where
 wf:c.Wf
 tal:Tal c (c.it.map (·.2.1))
 it:∀id,lkM c.it id=lkM s.it id
 inn:∀id,lkM c.inn id=(lkM s.fe id).map (·.inn)
 ab:∀id,lkM c.ab id=(lkM s.fo id).map (·.inn)
 fe:∀id,(lkM c.fe id).isSome=(lkM s.fe id).isSome
 fo:∀id,(lkM c.fo id).isSome=(lkM s.fo id).isSome
 len:c.it.length≤1024
variable {c d:CS} {s:PS} {e:Ev}
theorem Kp.chain(K:Kp c s)(h:s.Inv){id:Int}(hi:id=0∨(lkM s.fo id).isSome=true):∃l,chO c.ab 7 id=some l∧l.Nodup∧l.length≤7∧∀x∈l,(lkM s.fo x).isSome=true:=by
 obtain⟨d,h1,h2⟩:=h.dp id
 obtain⟨l,h3,h4,h5⟩:=qS K.ab h.u1 h.no0 7 id d hi h2
 exact⟨l,h3,pk h3,by omega,h5⟩
theorem Kp.up(K:Kp c s)(h:s.Inv)(feed:Int):(lkM c.inn feed).getD 0=0∨(lkM s.fo ((lkM c.inn feed).getD 0)).isSome=true:=by
 rw[K.inn]
 cases hf:lkM s.fe feed with
 |none=>exact .inl rfl
 |some f=>exact h.u2 _ _ hf
theorem Kp.chn(K:Kp c s)(h:s.Inv)(feed:Int):∃l,chO c.ab 7 ((lkM c.inn feed).getD 0)=some l∧c.chn feed=l∧l.Nodup∧l.length≤7∧∀x∈l,(lkM s.fo x).isSome=true:=by
 obtain⟨l,h1,h2,h3,h4⟩:=K.chain h (K.up h feed)
 exact⟨l,h1,by unfold CS.chn;rw[h1];rfl,h2,h3,h4⟩
theorem fz{l:List Bs}(h:Srt l):l.Nodup:=by
 unfold Srt at h
 refine h.imp fun {a b} hab=>?_
 rintro rfl
 rw[fu]at hab;cases hab
theorem Kp.rdy(K:Kp c s)(h:s.Inv){t:It}(hf:(lkM s.fe t.feed).isSome=true)(ht:Srt t.tags):Rdy c t where
 fe:=by rw[K.fe];exact hf
 ch:=by
  obtain⟨l,h1,_,h2,h3,h4⟩:=K.chn h t.feed
  exact⟨l,h1,h2,h3,fun x hx=>by rw[K.fo];exact h4 x hx⟩
 tg:=fz ht
theorem Kp.own(K:Kp c s)(h:s.Inv):c.Own where
 wf:=K.wf
 tal:=K.tal
 rdy:=fun k t ht=>by
  rw[K.it]at ht
  exact⟨K.rdy h (h.u3 k t ht) (h.tg k t ht).1,(h.i3 k t ht).1,(h.tg k t ht).2⟩
 len:=K.len
theorem Kp.mem(K:Kp c s){t:It}(ht:t∈c.it.map (·.2.1)):∃k,lkM s.it k=some t:=by
 obtain⟨x,hx,rfl⟩:=List.mem_map.1 ht
 exact⟨x.1,by rw[← K.it];exact bn K.wf.w4.keys (b:=x.2.2) hx⟩
theorem Kp.feeds(K:Kp c s)(h:s.Inv){t:It}(ht:t∈c.it.map (·.2.1)):(lkM s.fe t.feed).isSome=true:=by
 obtain⟨k,hk⟩:=K.mem ht
 exact h.u3 k t hk
theorem Tal.re{L:List It}(h:Tal c L)(ha:d.al=c.al)(hs:d.st=c.st)(ht:d.tg=c.tg)
  (hfe:∀id,(lkM d.fe id).isSome=true→(lkM c.fe id).isSome=true∧lkM d.fe id=lkM c.fe id∨lkM d.fe id=some (0,0)∧∀t∈L,t.feed≠id)
  (hfo:∀id,(lkM d.fo id).isSome=true→(lkM c.fo id).isSome=true∧lkM d.fo id=lkM c.fo id∨lkM d.fo id=some (0,0)∧∀t∈L,id ∉ d.chn t.feed)
  (hch:∀t∈L,d.chn t.feed=c.chn t.feed):Tal d L where
 al:=by rw[ha];exact h.al
 st:=by rw[hs];exact h.st
 fe:=fun id hi=>by
  rcases hfe id hi with⟨h1,h2⟩| ⟨h1,h2⟩
  ·rw[h2];exact h.fe id h1
  ·rw[h1,fN fun t ht=>by simpa using h2 t ht]
 fo:=fun id hi=>by
  rcases hfo id hi with⟨h1,h2⟩| ⟨h1,h2⟩
  ·rw[h2,h.fo id h1];congr 1
   exact dC fun t ht=>by rw[hch t ht]
  ·rw[h1,fN fun t ht=>by simpa using h2 t ht]
 tg:=fun g=>by rw[ht];exact h.tg g
theorem Kp.mkFo(K:Kp c s)(h:s.Inv)(ha:1≤e.a∧e.a≤1048576)(hn:(lkM s.fo e.a).isSome=false)(hw:s.within e.b=true){s':PS}
  (e1:s'.fo=upM s.fo s.c1 e.a ⟨e.a,e.b,e.s⟩)(e2:s'.fe=s.fe)(e3:s'.it=s.it):
  Kp {c with fo:=upM c.fo c.c1 e.a (0,0),c1:=ckM c.fo c.c1 e.a,ab:=upM c.ab c.c6 e.a e.b,c6:=ckM c.ab c.c6 e.a} s' where
 wf:= {K.wf with w1:=K.wf.w1.up _ _,w6:=K.wf.w6.up _ _}
 it:=fun id=>by rw[e3];exact K.it id
 inn:=fun id=>by rw[e2];exact K.inn id
 ab:=fun id=>by
  show lkM (upM c.ab c.c6 e.a e.b) id=_
  rw[e1,aj,aj]
  split
  ·rfl
  ·exact K.ab id
 fe:=fun id=>by rw[e2];exact K.fe id
 fo:=fun id=>by
  show(lkM (upM c.fo c.c1 e.a (0,0)) id).isSome=_
  rw[e1,aj,aj]
  split
  ·rfl
  ·exact K.fo id
 len:=K.len
 tal:=by
  have hne:∀x,(x=0∨(lkM s.fo x).isSome=true)→x≠e.a:=fun x hx=>by
   rcases hx with hx|hx
   ·omega
   ·intro q;rw[q,hn]at hx;cases hx
  have hch:∀f,({c with fo:=upM c.fo c.c1 e.a (0,0),c1:=ckM c.fo c.c1 e.a,ab:=upM c.ab c.c6 e.a e.b,c6:=ckM c.ab c.c6 e.a}:CS).chn f=c.chn f:=fun f=>by
   show(chO (upM c.ab c.c6 e.a e.b) 7 ((lkM c.inn f).getD 0)).getD []=(chO c.ab 7 ((lkM c.inn f).getD 0)).getD []
   have hcg:∀id,id≠e.a→id≠0→(lkM c.ab id).getD 0≠e.a:=fun id _ _=>by
    rw[K.ab]
    cases hf:lkM s.fo id with
    |none=>simp;omega
    |some g=>exact hne _ (h.u1 _ _ hf)
   rw[jk (fun id=>id≠e.a) (fun id hi=>by rw[aj,if_neg hi]) hcg 7 _ (hne _ (K.up h f))]
  refine K.tal.re rfl rfl rfl (fun id hi=>.inl ⟨hi,rfl⟩) (fun id hi=>?_) (fun t _=>hch _)
  have hi:(lkM (upM c.fo c.c1 e.a (0,0)) id).isSome=true:=hi
  show _∨lkM (upM c.fo c.c1 e.a (0,0)) id=_∧_
  rw[aj]at hi ⊢
  by_cases hx:id=e.a
  ·refine .inr ⟨by rw[if_pos hx],fun t _=>?_⟩
   rw[hch]
   obtain⟨l,_,h1,_,_,h2⟩:=K.chn h t.feed
   rw[h1,hx]
   intro hm
   rw[h2 _ hm]at hn;cases hn
  ·rw[if_neg hx]at hi
   exact .inl ⟨hi,by rw[if_neg hx]⟩
theorem Kp.unFo(K:Kp c s)(h:s.Inv){k:Int}{f:Fo}(hk:lkM s.fo k=some f)(h0:(lkM s.he k).getD 0=0){s':PS}
  (e1:s'.fo=dlM s.fo k)(e2:s'.fe=s.fe)(e3:s'.it=s.it):Kp {c with fo:=dlM c.fo k,ab:=dlM c.ab k} s' where
 wf:= {K.wf with w1:=K.wf.w1.dl _,w6:=K.wf.w6.dl _}
 it:=fun id=>by rw[e3];exact K.it id
 inn:=fun id=>by rw[e2];exact K.inn id
 ab:=fun id=>by
  show lkM (dlM c.ab k) id=_
  rw[e1,aQ K.wf.w6.keys,aQ h.w1.keys]
  split
  ·rfl
  ·exact K.ab id
 fe:=fun id=>by rw[e2];exact K.fe id
 fo:=fun id=>by
  show(lkM (dlM c.fo k) id).isSome=_
  rw[e1,aQ K.wf.w1.keys,aQ h.w1.keys]
  split
  ·rfl
  ·exact K.fo id
 len:=K.len
 tal:=by
  have hk1:=(h.i1 _ _ hk).2
  have hs:=h.hd k (by omega)
  have n1:=bY (dj k) s.fo
  have n2:=bY (dm k) s.fe
  have hA:∀j g,lkM s.fo j=some g→g.inn≠k:=fun j g hg q=>by
   have:=ia (dj k) (l:=s.fo) (by omega) hg
   rw[inFo,if_pos q]at this;omega
  have hB:∀j g,lkM s.fe j=some g→g.inn≠k:=fun j g hg q=>by
   have:=ia (dm k) (l:=s.fe) (by omega) hg
   rw[inFe,if_pos q]at this;omega
  have hin:∀f,(lkM c.inn f).getD 0≠k:=fun f=>by
   rw[K.inn]
   cases hf:lkM s.fe f with
   |none=>simp;omega
   |some g=>exact hB _ _ hf
  have hch:∀f,({c with fo:=dlM c.fo k,ab:=dlM c.ab k}:CS).chn f=c.chn f:=fun f=>by
   show(chO (dlM c.ab k) 7 ((lkM c.inn f).getD 0)).getD []=(chO c.ab 7 ((lkM c.inn f).getD 0)).getD []
   have hcg:∀id,id≠k→id≠0→(lkM c.ab id).getD 0≠k:=fun id _ _=>by
    rw[K.ab]
    cases hf:lkM s.fo id with
    |none=>simp;omega
    |some g=>exact hA _ _ hf
   rw[jk (fun id=>id≠k) (fun id hi=>by rw[aQ K.wf.w6.keys,if_neg hi]) hcg 7 _ (hin f)]
  refine K.tal.re rfl rfl rfl (fun id hi=>.inl ⟨hi,rfl⟩) (fun id hi=>?_) (fun t _=>hch _)
  have hi:(lkM (dlM c.fo k) id).isSome=true:=hi
  rw[aQ K.wf.w1.keys]at hi
  split at hi
  ·cases hi
  ·rename_i hx
   refine .inl ⟨hi,?_⟩
   show lkM (dlM c.fo k) id=_
   rw[aQ K.wf.w1.keys,if_neg hx]
theorem Kp.mkFe(K:Kp c s)(h:s.Inv)(hn:(lkM s.fe e.a).isSome=false){s':PS}{u t:Bs}
  (e1:s'.fo=s.fo)(e2:s'.fe=upM s.fe s.c2 e.a ⟨e.a,e.b,u,t⟩)(e3:s'.it=s.it):
  Kp {c with fe:=upM c.fe c.c2 e.a (0,0),c2:=ckM c.fe c.c2 e.a,inn:=upM c.inn c.c5 e.a e.b,c5:=ckM c.inn c.c5 e.a} s' where
 wf:= {K.wf with w2:=K.wf.w2.up _ _,w5:=K.wf.w5.up _ _}
 it:=fun id=>by rw[e3];exact K.it id
 ab:=fun id=>by rw[e1];exact K.ab id
 inn:=fun id=>by
  show lkM (upM c.inn c.c5 e.a e.b) id=_
  rw[e2,aj,aj]
  split
  ·rfl
  ·exact K.inn id
 fo:=fun id=>by rw[e1];exact K.fo id
 fe:=fun id=>by
  show(lkM (upM c.fe c.c2 e.a (0,0)) id).isSome=_
  rw[e2,aj,aj]
  split
  ·rfl
  ·exact K.fe id
 len:=K.len
 tal:=by
  have hne:∀t∈c.it.map (·.2.1),t.feed≠e.a:=fun t ht q=>by
   have:=K.feeds h ht
   rw[q,hn]at this;cases this
  refine K.tal.re rfl rfl rfl (fun id hi=>?_) (fun id hi=>.inl ⟨hi,rfl⟩) (fun t ht=>?_)
  ·have hi:(lkM (upM c.fe c.c2 e.a (0,0)) id).isSome=true:=hi
   show _∨lkM (upM c.fe c.c2 e.a (0,0)) id=_∧_
   rw[aj]at hi ⊢
   by_cases hx:id=e.a
   ·exact .inr ⟨by rw[if_pos hx],fun t ht=>by rw[hx];exact hne t ht⟩
   ·rw[if_neg hx]at hi
    exact .inl ⟨hi,by rw[if_neg hx]⟩
  ·show(chO c.ab 7 ((lkM (upM c.inn c.c5 e.a e.b) t.feed).getD 0)).getD []=_
   rw[aj,if_neg (hne t ht)];rfl
theorem jl{α:Type}{l:ML Int α}(hn:(l.map (·.1)).Nodup)(p:α→Bool)(x:Int):lkM (l.filter fun e=>p e.2.1) x=(lkM l x).filter p:=by
 induction l with
 |nil=>rfl
 |cons e l ih=>
  rw[List.map_cons,List.nodup_cons]at hn
  rw[List.filter_cons,lkM]
  by_cases hx:x=e.1
  ·rw[if_pos hx]
   cases hp:p e.2.1 with
   |true=>rw[if_pos rfl,lkM,if_pos hx,Option.filter,if_pos hp]
   |false=>
    rw[if_neg (by simp),ih hn.2,hx,jP hn.1]
    simp[Option.filter,hp]
  ·rw[if_neg hx, ← ih hn.2]
   split
   ·rw[lkM,if_neg hx]
   ·rfl
theorem Kp.unFe(K:Kp c s)(h:s.Inv){k:Int}{d':CS}(hd:Unf c (itF c.it k) d'){s':PS}
  (e1:s'.fo=s.fo)(e2:s'.fe=dlM s.fe k)(e3:s'.it=itF s.it k):Kp (d'.less k) s' where
 wf:= {hd.wf with w2:=hd.wf.w2.dl _,w5:=hd.wf.w5.dl _}
 it:=fun id=>by
  show lkM d'.it id=_
  rw[hd.it,e3]
  unfold itF
  rw[jl (p:=fun t=> !decide (t.feed=k)) K.wf.w4.keys,jl (p:=fun t=> !decide (t.feed=k)) h.w3.keys,K.it]
 ab:=fun id=>by
  show lkM d'.ab id=_
  rw[hd.ab,e1];exact K.ab id
 inn:=fun id=>by
  show lkM (dlM d'.inn k) id=_
  rw[aQ hd.wf.w5.keys,e2,aQ h.w2.keys,hd.inn]
  split
  ·rfl
  ·exact K.inn id
 fo:=fun id=>by
  show(lkM d'.fo id).isSome=_
  rw[hd.fo,e1];exact K.fo id
 fe:=fun id=>by
  show(lkM (dlM d'.fe k) id).isSome=_
  rw[aQ hd.wf.w2.keys,e2,aQ h.w2.keys]
  split
  ·rfl
  ·rw[hd.fe];exact K.fe id
 len:=by
  show d'.it.length≤1024
  rw[hd.it]
  exact Nat.le_trans (List.length_filter_le _ _) K.len
 tal:=by
  have hne:∀t∈d'.it.map (·.2.1),t.feed≠k:=fun t ht=>by
   rw[hd.it]at ht
   obtain⟨x,hx,rfl⟩:=List.mem_map.1 ht
   have:=(List.mem_filter.1 hx).2
   simpa using this
  refine hd.tal.re (d:=d'.less k) rfl rfl rfl (fun id hi=>?_) (fun id hi=>.inl ⟨hi,rfl⟩) (fun t ht=>?_)
  ·have hi:(lkM (dlM d'.fe k) id).isSome=true:=hi
   rw[aQ hd.wf.w2.keys]at hi
   split at hi
   ·cases hi
   ·rename_i hx
    refine .inl ⟨hi,?_⟩
    show lkM (dlM d'.fe k) id=_
    rw[aQ hd.wf.w2.keys,if_neg hx]
  ·show(chO d'.ab 7 ((lkM (dlM d'.inn k) t.feed).getD 0)).getD []=_
   rw[aQ hd.wf.w5.keys,if_neg (hne t ht)];rfl
theorem kB(L:List It)(p q:It→Bool):tl L p=tadd (tl L fun t=>p t&&q t) (tl L fun t=>p t&& !q t):=by
 induction L with
 |nil=>rfl
 |cons t L ih=>
  rw[bX,bX,bX,ih]
  simp only[dlt,tadd,oneT]
  generalize (if t.read=true then(0:Int)else 1)=r
  rcases Bool.eq_false_or_eq_true (p t)with hp|hp<;>rcases Bool.eq_false_or_eq_true (q t)with hq|hq<;>simp only[hp,hq,Bool.and_true,Bool.and_false,Bool.and_self,Bool.not_true,Bool.not_false,Bool.false_eq_true,if_true,if_false]<;>rw[Prod.ext_iff]<;>simp only<;>omega
theorem Kp.mov(K:Kp c s)(h:s.Inv){k b:Int}{f:Fe}(hk:lkM s.fe k=some f)(hb:b=0∨(lkM s.fo b).isSome=true){s':PS}
  (e1:s'.fo=s.fo)(e2:s'.fe=upM s.fe s.c2 k {f with inn:=b})(e3:s'.it=s.it):Kp (c.moveF k b) s':=by
 obtain⟨bK,a1,a2,a3,_,a4⟩:=K.chn h k
 obtain⟨ca,b1,b2,_,b4⟩:=K.chain h hb
 have hfk:(lkM c.fe k).isSome=true:=by rw[K.fe,hk];rfl
 have hn:=K.tal.fe k hfk
 have hmv:c.moveF k b=((c.shift bK k (negT (tl (c.it.map (·.2.1)) fun t=>decide (t.feed=k)))).setIn k b).shift ca k (tl (c.it.map (·.2.1)) fun t=>decide (t.feed=k)):=by
  unfold CS.moveF;rw[a2,b1,hn];rfl
 rw[hmv]
 have hT:=K.tal
 generalize hL:c.it.map (·.2.1)=L at hT hn ⊢
 have hw:=K.wf
 refine⟨{hw with w1:=ki _ _ (ki _ _ hw.w1),w2:=(hw.w2.up _ _).up _ _,w5:=hw.w5.up _ _},?_,fun id=>by rw[e3];exact K.it id,fun id=>?_,fun id=>by rw[e1];exact K.ab id,fun id=>?_,fun id=>?_,K.len⟩
 ·show Tal _ (c.it.map (·.2.1))
  rw[hL]
  generalize hnn:(tl L fun t=>decide (t.feed=k))=n at*
  have hfe2:∀id,lkM (((c.shift bK k (negT n)).setIn k b).shift ca k n).fe id=lkM c.fe id:=fun id=>by
   show lkM (upM (upM c.fe c.c2 k (tadd ((lkM c.fe k).getD (0,0)) (negT n))) (ckM c.fe c.c2 k) k (tadd ((lkM (upM c.fe c.c2 k (tadd ((lkM c.fe k).getD (0,0)) (negT n))) k).getD (0,0)) n)) id=_
   rw[aj,aj,if_pos rfl,aj]
   split
   ·rename_i hx
    rw[hx,hn]
    simp only[Option.getD_some,Option.some.injEq,tadd,negT]
    rw[Prod.ext_iff];simp only;omega
   ·rfl
  have hch:∀f,(((c.shift bK k (negT n)).setIn k b).shift ca k n).chn f=if f=k then ca else c.chn f:=fun f=>by
   show(chO c.ab 7 ((lkM (upM c.inn c.c5 k b) f).getD 0)).getD []=_
   rw[aj]
   split
   ·simp only[Option.getD_some,b1]
   ·rfl
  refine⟨?_,hT.st,fun id hi=>?_,fun id hi=>?_,hT.tg⟩
  ·show tadd (tadd c.al (negT n)) n=_
   rw[← hT.al]
   unfold tadd negT;rw[Prod.ext_iff];simp only;omega
  ·rw[hfe2]at hi ⊢
   exact hT.fe id hi
  ·have hlk:lkM (((c.shift bK k (negT n)).setIn k b).shift ca k n).fo id=if id∈ca then some (tadd ((if id∈bK then some (tadd ((lkM c.fo id).getD (0,0)) (negT n))else lkM c.fo id).getD (0,0)) n)else if id∈bK then some (tadd ((lkM c.fo id).getD (0,0)) (negT n))else lkM c.fo id:=by
    show lkM (foF n ca (foF (negT n) bK c.fo c.c1).1 (foF (negT n) bK c.fo c.c1).2).1 id=_
    rw[ed n b2,ed (negT n) a3]
   have hpr:(lkM c.fo id).isSome=true:=by
    rw[hlk]at hi
    by_cases h2:id∈ca
    ·rw[K.fo];exact b4 id h2
    ·rw[if_neg h2]at hi
     by_cases h1:id∈bK
     ·rw[K.fo];exact a4 id h1
     ·rw[if_neg h1]at hi;exact hi
   have hv:=hT.fo id hpr
   rw[hlk,hv]
   have s1:=kB L (fun t=>decide (id∈c.chn t.feed)) (fun t=>decide (t.feed=k))
   have s2:=kB L (fun t=>decide (id∈ (((c.shift bK k (negT n)).setIn k b).shift ca k n).chn t.feed)) (fun t=>decide (t.feed=k))
   have r1:(tl L fun t=>decide (id∈c.chn t.feed)&&decide (t.feed=k))=if id∈bK then n else(0,0):=by
    split
    ·rename_i h1
     rw[← hnn]
     refine dC fun t _=>?_
     by_cases hx:t.feed=k
     ·rw[hx,a2];simp[h1]
     ·simp[hx]
    ·rename_i h1
     refine fN fun t _=>?_
     by_cases hx:t.feed=k
     ·rw[hx,a2];simp[h1]
     ·simp[hx]
   have r2:(tl L fun t=>decide (id∈ (((c.shift bK k (negT n)).setIn k b).shift ca k n).chn t.feed)&&decide (t.feed=k))=if id∈ca then n else(0,0):=by
    split
    ·rename_i h1
     refine(dC (q:=fun t=>decide (t.feed=k)) fun t _=>?_).trans hnn
     rw[hch]
     by_cases hx:t.feed=k
     ·rw[if_pos hx];simp[h1]
     ·simp[hx]
    ·rename_i h1
     refine fN fun t _=>?_
     rw[hch]
     by_cases hx:t.feed=k
     ·rw[if_pos hx];simp[h1]
     ·simp[hx]
   have r3:(tl L fun t=>decide (id∈ (((c.shift bK k (negT n)).setIn k b).shift ca k n).chn t.feed)&& !decide (t.feed=k))=tl L fun t=>decide (id∈c.chn t.feed)&& !decide (t.feed=k):=by
    refine dC fun t _=>?_
    rw[hch]
    by_cases hx:t.feed=k
    ·simp[hx]
    ·rw[if_neg hx]
   rw[r1]at s1
   rw[r2,r3]at s2
   rw[s1,s2]
   unfold tadd negT
   by_cases h1:id∈bK<;>by_cases h2:id∈ca<;>simp only[h1,h2,if_true,if_false,Option.getD_some,Option.some.injEq]<;>rw[Prod.ext_iff]<;>simp only<;>omega
 ·show lkM (upM c.inn c.c5 k b) id=_
  rw[e2,aj,aj]
  split
  ·rfl
  ·exact K.inn id
 ·show(lkM (upM (upM c.fe c.c2 k _) (ckM c.fe c.c2 k) k _) id).isSome=_
  rw[e2,aj,aj,aj]
  split
  ·rfl
  ·exact K.fe id
 ·show(lkM (foF _ ca (foF _ bK c.fo c.c1).1 _).1 id).isSome=_
  rw[ed _ b2,ed _ a3,e1]
  split
  ·rename_i h2;rw[b4 id h2];rfl
  ·split
   ·rename_i h1;rw[a4 id h1];rfl
   ·exact K.fo id
theorem Kp.pt(K:Kp c s)(h:s.Inv){k:Int}{t:It}{s':PS}(h':s'.Inv)(e1:s'.fo=s.fo)(e2:s'.fe=s.fe)(e3:s'.it=upM s.it s.c3 k t):Kp (c.putF t) s':=by
 have hk:lkM s'.it k=some t:=by rw[e3,aj,if_pos rfl]
 have hid:=(h'.i3 _ _ hk).1
 have hf:=h'.u3 _ _ hk
 rw[e2]at hf
 have htg:=h'.tg _ _ hk
 have r:=K.rdy h hf htg.1
 have hlen:c.it.length<1024∨(lkM c.it t.id).isSome=true:=by
  rw[hid,K.it]
  cases hs:(lkM s.it k).isSome with
  |true=>exact .inr rfl
  |false=>
   left
   have h1:=h'.l3
   rw[e3,fH,hs]at h1
   simp only[Bool.false_eq_true,if_false]at h1
   have h2:c.it.length=s.it.length:=by
    have p:(c.it.map (·.1)).Perm (s.it.map (·.1)):=by
     rw[List.perm_ext_iff_of_nodup K.wf.w4.keys h.w3.keys]
     intro x
     have hb:∀{l:ML Int It},x∈l.map (·.1)↔(lkM l x).isSome=true:=fun {l}=>by
      constructor
      ·intro hm
       cases hq:(lkM l x).isSome with
       |true=>rfl
       |false=>exact(fI hq hm).elim
      ·intro hq
       obtain⟨a,ha⟩:=Option.isSome_iff_exists.1 hq
       obtain⟨n,hn⟩:=dX ha
       exact List.mem_map.2 ⟨_,hn,rfl⟩
     rw[hb,hb,K.it]
    have:=p.length_eq
    simpa using this
   omega
 obtain⟨o,_,q1,q2,q3,q4,q5⟩:=(K.own h).putF r htg.2 hlen
 refine⟨o.wf,o.tal,fun id=>?_,fun id=>by rw[q2,e2];exact K.inn id,fun id=>by rw[q3,e1];exact K.ab id,fun id=>by rw[q4,e2];exact K.fe id,fun id=>by rw[q5,e1];exact K.fo id,o.len⟩
 rw[q1,e3,aj,aj,hid]
 split
 ·rfl
 ·exact K.it id
theorem Kp.same(K:Kp c s){s':PS}(e1:∀id,lkM s'.fo id=lkM s.fo id)(e2:∀id,(lkM s'.fe id).map (·.inn)=(lkM s.fe id).map (·.inn))(e3:∀id,lkM s'.it id=lkM s.it id):Kp c s':=
 ⟨K.wf,K.tal,fun id=>by rw[e3];exact K.it id,fun id=>by rw[e2];exact K.inn id,fun id=>by rw[e1];exact K.ab id,fun id=>by
  rw[K.fe id]
  have:=congrArg Option.isSome (e2 id)
  simpa using this.symm,fun id=>by rw[e1];exact K.fo id,K.len⟩
end Go.Av
namespace Go.Av
open Go Go.Proofs Go.RowKit
attribute [local irreducible] WP WPl WPix Sat
variable (G:Nat→Option (List AVal))
def CS.mkFo(c:CS)(f:Fo):CS:= {c with fo:=upM c.fo c.c1 f.id (0,0),c1:=ckM c.fo c.c1 f.id,ab:=upM c.ab c.c6 f.id f.inn,c6:=ckM c.ab c.c6 f.id}
def CS.mkFe(c:CS)(f:Fe):CS:= {c with fe:=upM c.fe c.c2 f.id (0,0),c2:=ckM c.fe c.c2 f.id,inn:=upM c.inn c.c5 f.id f.inn,c5:=ckM c.inn c.c5 f.id}
def CS.of0(x:St):CS:=x.fe.foldl CS.mkFe (x.fo.foldl CS.mkFo CS.z)
def CS.ofSt(x:St):CS:=x.it.foldl CS.putF (CS.of0 x)
theorem dc{α β:Type}(f:β→α→β)(l:List α)(b:β){k:Nat}{y:α}(h:l[k]? =some y):(l.take (k+1)).foldl f b=f ((l.take k).foldl f b) y:=by
 rw[List.take_add_one,List.foldl_append,h];rfl
theorem pm(x:St)(sp:AVal)(h:Heap)(hT:∀j,Sat (CT G) 17 [sp] (h++j) (fun r h'=>r=x.av∧h'=h++j))
  (hP:∀(k:Nat) (t:It),x.it[k]? =some t→((x.it.take k).foldl CS.putF (CS.of0 x)).Own∧Rdy ((x.it.take k).foldl CS.putF (CS.of0 x)) t∧t.tags.length≤8)
  (l1:x.fo.length≤100000)(l2:x.fe.length≤100000)(l3:x.it.length≤100000):
  Sat (CT G) 7 [sp] h (fun r h'=>r=.hp (h.length+6) 0 0 0∧h'=co (h++CS.z.bl h.length) h.length (CS.ofSt x)):=by
 have hz7:(CS.z.bl h.length).length=7:=rfl
 have hm:h.length+7≤(h++CS.z.bl h.length).length:=by simp[hz7]
 have hcoz:∀j,co ((h++CS.z.bl h.length)++j) h.length CS.z=(h++CS.z.bl h.length)++j:=fun j=>by rw[← kh hm, ← tS]
 generalize hH:h++CS.z.bl h.length=H0 at hm hcoz ⊢
 have hl0:H0.length=h.length+7:=by rw[← hH];simp[hz7]
 refine sb [.tmp 2] (fn:=Tryz.f7) Tryz.func7 ?_
 intro Q hQ
 refine wk trivial ?_
 refine kq trivial (hT _) ?_
 refine lm (fun nL tL hL=>∃(k:Nat) (j:Heap),x.fo.length-k=nL∧co (H0++j) h.length ((x.fo.take k).foldl CS.mkFo CS.z)=hL∧tL 3=.hp (h.length+6) 0 0 0∧tL 4=.hp (h.length+7) 0 0 0∧tL 22=.sl 3 (x.fo.map Fo.av)∧tL 23=.int .i64 (x.fo.length:Int)∧tL 24=.int .i64 k∧k≤x.fo.length∧getRow (H0++j) (h.length+7) 0=some (62,9,[x.av])) ((fun(k:Nat) (j:Heap)=>(x.fo.length-k:Nat)) (0) ([.row 62 9 0 [x.av]])) ?_ ?_
 ·refine Wkn.refl ⟨0,[.row 62 9 0 [x.av]],rfl,by rw[List.take_zero,List.foldl_nil,hcoz, ← hH];simp[CS.bl,CS.z,encM,CS.row,St.av],?_,?_,?_,?_,?_,by omega,by rw[aG _ (by omega)];rfl⟩
  all_goals first|exact zq trivial|rfl|omega|trivial|skip
 rintro _ s2 h' ⟨k,j,rfl,rfl,e3,e4,e22,e23,e24,hk,hg⟩ K2 hK2
 simp only[ak,ao,Nat.reduceEqDiff, ↓reduceIte]at e3 e4 e22 e23 e24
 have F:=F5 e3 e4 e22 e23 e24
 refine wk F ?_
 refine cq F (fun c1=>?_) (fun c1=>?_)<;>(try exact c1.elim)<;>(refine wk F ?_)
 ·have c2:k<x.fo.length:=by omega
  obtain⟨f,hf,_⟩:=ah c2
  have F:=F4 F c2 hf hg
  try refine sq F ?_
  refine wk F ?_
  refine hK2 _ _ _ (Wkn.refl ⟨k+1,j++[.row 65 3 0 [f.av]],rfl,by rw[dc _ _ _ hf];rfl,?_,?_,?_,?_,?_,by omega,by rw[← List.append_assoc,bv _ (cK hg)];exact hg⟩) (by omega)
  all_goals first|exact zq F|rfl|omega|trivial|skip
 have hk1:k=x.fo.length:=by omega
 subst hk1
 rw[List.take_length]
 have F:=F2 F hg
 try refine sq F ?_
 refine wk F ?_
 refine lm (fun nL tL hL=>∃(k:Nat) (j:Heap),x.fe.length-k=nL∧co (H0++j) h.length ((x.fe.take k).foldl CS.mkFe (x.fo.foldl CS.mkFo CS.z))=hL∧tL 3=.hp (h.length+6) 0 0 0∧tL 4=.hp (h.length+7) 0 0 0∧tL 45=.sl 4 (x.fe.map Fe.av)∧tL 46=.int .i64 (x.fe.length:Int)∧tL 47=.int .i64 k∧k≤x.fe.length∧getRow (H0++j) (h.length+7) 0=some (62,9,[x.av])) ((fun(k:Nat) (j:Heap)=>(x.fe.length-k:Nat)) (0) (j)) ?_ ?_
 ·refine Wkn.refl ⟨0,j,rfl,by rw[List.take_zero,List.foldl_nil],?_,?_,?_,?_,?_,by omega,hg⟩
  all_goals first|exact zq F|rfl|omega|trivial|skip
 rintro _ s3 h' ⟨k,j,rfl,rfl,e3,e4,e45,e46,e47,hk,hg⟩ K3 hK3
 simp only[ak,ao,Nat.reduceEqDiff, ↓reduceIte]at e3 e4 e45 e46 e47
 have F:=F6 F e3 e4 e45 e46 e47
 refine wk F ?_
 refine cq F (fun c1=>?_) (fun c1=>?_)<;>(try exact c1.elim)<;>(refine wk F ?_)
 ·have c2:k<x.fe.length:=by omega
  obtain⟨f,hf,_⟩:=ah c2
  have F:=F4 F c2 hf hg
  try refine sq F ?_
  refine wk F ?_
  refine hK3 _ _ _ (Wkn.refl ⟨k+1,j++[.row 67 4 0 [f.av]],rfl,by rw[dc _ _ _ hf];rfl,?_,?_,?_,?_,?_,by omega,by rw[← List.append_assoc,bv _ (cK hg)];exact hg⟩) (by omega)
  all_goals first|exact zq F|rfl|omega|trivial|skip
 have hk1:k=x.fe.length:=by omega
 subst hk1
 rw[List.take_length]
 have F:=F2 F hg
 try refine sq F ?_
 refine wk F ?_
 refine lm (fun nL tL hL=>∃(k:Nat) (j:Heap),x.it.length-k=nL∧co (H0++j) h.length ((x.it.take k).foldl CS.putF (CS.of0 x))=hL∧tL 3=.hp (h.length+6) 0 0 0∧tL 68=.sl 9 (x.it.map It.av)∧tL 69=.int .i64 (x.it.length:Int)∧tL 70=.int .i64 k∧k≤x.it.length) ((fun(k:Nat) (j:Heap)=>(x.it.length-k:Nat)) (0) (j)) ?_ ?_
 ·refine Wkn.refl ⟨0,j,rfl,by rw[List.take_zero,List.foldl_nil];rfl,?_,?_,?_,?_,by omega⟩
  all_goals first|exact zq F|rfl|omega|trivial|skip
 rintro _ s4 h' ⟨k,j,rfl,rfl,e3,e68,e69,e70,hk⟩ K4 hK4
 simp only[ak,ao,Nat.reduceEqDiff, ↓reduceIte]at e3 e68 e69 e70
 have F:=F5 F e3 e68 e69 e70
 refine wk F ?_
 refine cq F (fun c1=>?_) (fun c1=>?_)<;>(try exact c1.elim)<;>(refine wk F ?_)
 ·have c2:k<x.it.length:=by omega
  obtain⟨f,hf,_⟩:=ah c2
  obtain⟨p1,p2,p3⟩:=hP k f hf
  have F:=F3 F c2 hf
  try refine sq F ?_
  refine wk F ?_
  refine kq F (jh G _ p1 f p2 p3 (by first|omega| (simp;omega))) ?_
  refine hK4 _ _ _ (Wkn.refl ⟨k+1,j++[.row 70 9 0 [f.av]],rfl,by rw[dc _ _ _ hf];rfl,?_,?_,?_,?_,by omega⟩) (by omega)
  all_goals first|exact zq F|rfl|omega|trivial|skip
 have hk1:k=x.it.length:=by omega
 subst hk1
 rw[List.take_length]
 try refine sq F ?_
 refine wk F ?_
 refine ee hQ F ?_
 rw[← kh hm]
 refine Fin.upto (by rw[bJ hm];omega) ?_ (.hp _ _ _ _ (by rw[bJ hm];omega)) ⟨rfl,rfl⟩
 rw[bJ hm]
 have:=tS h (x.it.foldl CS.putF (CS.of0 x))
 rw[hH]at this
 rw[← this]
 exact(KeepC.refl h _).app (CS.clo hm _)
end Go.Av
namespace Go.Av
open Go Go.Proofs Go.RowKit
variable {c d:CS} {s:PS} {e:Ev}
theorem Kp.step{L:Leaf}(K:Kp c s)(h:s.Inv)(hok:s.ok L e=true)(hR:StepR c e ((lkM (s.aft e).it e.a).getD It.z) (lkM (s.aft e).it e.a).isSome d):Kp d (s.aft e):=by
 have hI:(s.aft e).Inv:=by have:=h.step (L:=L) e;unfold PS.step at this;rw[if_pos hok]at this;exact this
 unfold PS.ok PS.fits at hok
 rw[Bool.and_eq_true]at hok
 obtain⟨hck,hf⟩:=hok
 have hr:L.right e=true:=by unfold Leaf.ck at hck;simp only[Bool.and_eq_true]at hck;exact hck.1
 have ha:e.kind≠13→1≤e.a∧e.a≤1048576:=fun hk=>gF hr hk
 unfold StepR at hR
 have hat:s.aft e=s.after (tgF ((lkM s.it e.a).getD It.z).tags e.s e.n) e:=rfl
 unfold PS.after at hat
 by_cases k1:e.kind=1
 ·rw[if_pos k1]at hf hR
  simp only[Bool.and_eq_true,Bool.not_eq_true',decide_eq_true_eq,beq_iff_eq]at hf
  rw[if_neg (by omega),if_neg (by omega),if_neg (by omega),if_neg (by omega),if_neg (by omega),if_neg (by omega),if_neg (by omega),if_neg (by omega),if_neg (by omega),PS.make,if_pos k1,bk]at hat
  rw[hR,hat]
  exact K.mkFo h (ha (by omega)) hf.1.1.1.1 hf.1.1.2 rfl rfl rfl
 rw[if_neg k1]at hf hR
 by_cases k2:e.kind=2
 ·rw[if_pos k2]at hf hat hR
  simp only[Bool.and_eq_true,beq_iff_eq]at hf
  obtain⟨f,hfo⟩:=bB hf.1
  rw[bk]at hat
  rw[hR,hat]
  exact K.unFo h hfo hf.2 rfl rfl rfl
 rw[if_neg k2]at hf hat hR
 by_cases k3:e.kind=3
 ·rw[if_pos k3]at hf hR
  simp only[Bool.and_eq_true,Bool.not_eq_true',decide_eq_true_eq,beq_iff_eq]at hf
  rw[if_neg (by omega),if_neg (by omega),if_neg (by omega),if_neg (by omega),if_neg (by omega),if_neg (by omega),if_neg (by omega),if_neg (by omega),PS.make,if_neg (by omega),if_pos k3,bk]at hat
  rw[hR,hat]
  exact K.mkFe h hf.1.1.1 rfl rfl rfl
 rw[if_neg k3]at hf hR
 by_cases k4:e.kind=4
 ·rw[if_pos (.inl k4)]at hf
  rw[if_pos k4]at hat hR
  obtain⟨f,hfo⟩:=bB hf
  obtain⟨d',hd,rfl⟩:=hR
  rw[hfo,Option.getD_some,PS.unfeed,bk,(h.i2 _ _ hfo).1]at hat
  rw[hat]
  exact K.unFe h hd rfl rfl rfl
 rw[if_neg k4]at hat hR
 by_cases k5:e.kind=5
 ·rw[if_pos (.inr k5)]at hf
  rw[if_pos k5]at hat
  rw[if_neg (by omega),if_neg (by omega)]at hR
  obtain⟨f,hfo⟩:=bB hf
  rw[hfo,Option.getD_some]at hat
  rw[hR,hat]
  refine K.same (fun _=>rfl) (fun id=>?_) (fun _=>rfl)
  show(lkM (upM s.fe s.c2 e.a {f with title:=e.t}) id).map (·.inn)=_
  rw[aj]
  split
  ·rename_i hx;rw[hx,hfo];rfl
  ·rfl
 rw[if_neg (by omega)]at hf
 rw[if_neg k5]at hat
 by_cases k6:e.kind=6
 ·rw[if_pos k6]at hf hat hR
  simp only[Bool.and_eq_true]at hf
  obtain⟨f,hfo⟩:=bB hf.1
  rw[hfo,Option.getD_some,bk s,bk]at hat
  rw[hR,hat]
  exact K.mov h hfo (cS hf.2) rfl rfl rfl
 rw[if_neg k6]at hf hat hR
 by_cases k7:e.kind=7∨e.kind=8∨e.kind=9∨e.kind=10
 ·rw[if_pos k7]at hR
  have hu:∃t,(s.aft e).it=upM s.it s.c3 e.a t∧(s.aft e).fo=s.fo∧(s.aft e).fe=s.fe:=by
   rcases k7 with k|k|k|k
   ·rw[if_neg (by omega),if_neg (by omega),if_neg (by omega),if_neg (by omega),if_neg (by omega),PS.make,if_neg (by omega),if_neg (by omega),if_pos k]at hat
    rw[hat];exact⟨_,rfl,rfl,rfl⟩
   ·rw[if_pos k]at hat
    rw[hat];exact⟨_,rfl,rfl,rfl⟩
   ·rw[if_neg (by omega),if_pos k]at hat
    rw[hat];exact⟨_,rfl,rfl,rfl⟩
   ·rw[if_neg (by omega),if_neg (by omega),if_pos k]at hat
    rw[hat];exact⟨_,rfl,rfl,rfl⟩
  obtain⟨t,u1,u2,u3⟩:=hu
  have hl:lkM (s.aft e).it e.a=some t:=by rw[u1,aj,if_pos rfl]
  rw[hl]at hR
  simp only[Option.isSome_some,if_true,Option.getD_some]at hR
  rw[hR]
  exact K.pt h hI u2 u3 u1
 rw[if_neg k7]at hR
 rw[hR]
 have hs:(s.aft e).fo=s.fo∧(s.aft e).fe=s.fe∧(s.aft e).it=s.it:=by
  rw[if_neg (by omega),if_neg (by omega),if_neg (by omega)]at hat
  by_cases k12:e.kind=12
  ·rw[if_pos k12]at hat;rw[hat];exact⟨rfl,rfl,rfl⟩
  rw[if_neg k12]at hat
  by_cases k13:e.kind=13
  ·rw[if_pos k13]at hat;rw[hat];exact⟨rfl,rfl,rfl⟩
  rw[if_neg k13,PS.make,if_neg k1,if_neg k3,if_neg (by omega)]at hat
  by_cases k11:e.kind=11
  ·rw[if_pos k11]at hat;rw[hat];exact⟨rfl,rfl,rfl⟩
  ·rw[if_neg k11]at hat;rw[hat];exact⟨rfl,rfl,rfl⟩
 obtain⟨q1,q2,q3⟩:=hs
 exact K.same (fun id=>by rw[q1]) (fun id=>by rw[q2]) (fun id=>by rw[q3])
theorem kC{α:Type}{z:α}{l:ML Int α}{k:Int}{a:α}(h:lkM l k=some a):a∈valsM z l:=by
 unfold valsM
 refine List.mem_map.2 ⟨k,?_,by rw[h];rfl⟩
 refine(List.mergeSort_perm _ _).mem_iff.2 ?_
 obtain⟨n,hn⟩:=dX h
 exact List.mem_map.2 ⟨_,hn,rfl⟩
theorem cT{α:Type}{z:α}{l:ML Int α}(idf:α→Int)(hid:∀k a,lkM l k=some a→idf a=k)(x:Int):(valsM z l).find? (fun a=>decide (idf a=x))=lkM l x:=by
 cases hl:lkM l x with
 |none=>
  rw[List.find?_eq_none]
  intro a ha
  obtain⟨k,hk⟩:=br ha
  have:=hid k a hk
  simp only[decide_eq_true_eq]
  rintro rfl
  rw[this,hk]at hl;cases hl
 |some a=>
  have hm:=kC (z:=z) hl
  have hs:((valsM z l).find? (fun a=>decide (idf a=x))).isSome=true:=by
   rw[List.find?_isSome]
   exact⟨a,hm,by simp[hid x a hl]⟩
  obtain⟨b,hb⟩:=Option.isSome_iff_exists.1 hs
  have h1:=List.find?_some hb
  simp only[decide_eq_true_eq]at h1
  obtain⟨k,hk⟩:=br (List.mem_of_find?_eq_some hb)
  have h2:=hid k b hk
  rw[hb, ← hl, ← h1,h2,hk]
theorem eH{α:Type}{z:α}{l:ML Int α}{c:Nat}(w:WFM l c)(idf:α→Int)(hid:∀k a,lkM l k=some a→idf a=k):(valsM z l).map idf=sortI (l.map (·.1)):=by
 unfold valsM
 rw[List.map_map]
 have:∀k∈sortI (l.map (·.1)),(idf ∘ fun k=>(lkM l k).getD z) k=k:=fun k hk=>by
  have hk2:k∈l.map (·.1):=(List.mergeSort_perm _ _).mem_iff.1 hk
  obtain⟨x,hx,rfl⟩:=List.mem_map.1 hk2
  have:=bn w.keys (b:=x.2.2) (a:=x.2.1) (x:=x.1) hx
  simp only[Function.comp,this,Option.getD_some]
  exact hid _ _ this
 rw[List.map_congr_left this,List.map_id']
theorem cM{l:List Int}(h:l.Nodup):(sortI l).Nodup:=(List.mergeSort_perm l _).nodup_iff.2 h
theorem tZ(F:List Fo):∀(c:CS),(F.map (·.id)).Nodup→
  (∀id,lkM (F.foldl CS.mkFo c).ab id=match F.find? (fun f=>decide (f.id=id))with|some f=>some f.inn|none=>lkM c.ab id)∧
  (∀id,lkM (F.foldl CS.mkFo c).fo id=match F.find? (fun f=>decide (f.id=id))with|some _=>some (0,0)|none=>lkM c.fo id)∧
  (c.Wf→(F.foldl CS.mkFo c).Wf)∧(F.foldl CS.mkFo c).al=c.al∧(F.foldl CS.mkFo c).st=c.st∧(F.foldl CS.mkFo c).tg=c.tg∧(F.foldl CS.mkFo c).it=c.it∧(F.foldl CS.mkFo c).inn=c.inn∧(F.foldl CS.mkFo c).fe=c.fe:=by
 induction F with
 |nil=>intro c _;exact⟨fun _=>rfl,fun _=>rfl,fun w=>w,rfl,rfl,rfl,rfl,rfl,rfl⟩
 |cons f F ih=>
  intro c hn
  rw[List.map_cons,List.nodup_cons]at hn
  obtain⟨a1,a2,a3,a4,a5,a6,a7,a8,a9⟩:=ih (c.mkFo f) hn.2
  have hno:∀id,f.id=id→F.find? (fun f=>decide (f.id=id))=none:=fun id hid=>by
   rw[List.find?_eq_none]
   intro g hg
   simp only[decide_eq_true_eq]
   intro q
   exact hn.1 (List.mem_map.2 ⟨g,hg,by rw[q,hid]⟩)
  refine⟨fun id=>?_,fun id=>?_,fun w=>a3 {w with w1:=w.w1.up _ _,w6:=w.w6.up _ _},a4,a5,a6,a7,a8,a9⟩
  ·rw[List.foldl_cons,a1,List.find?_cons]
   by_cases hid:f.id=id
   ·rw[hno id hid,decide_eq_true hid]
    show lkM (upM c.ab c.c6 f.id f.inn) id=_
    rw[aj,if_pos hid.symm]
   ·rw[decide_eq_false hid]
    simp only
    cases F.find? (fun f=>decide (f.id=id))with
    |some g=>rfl
    |none=>
     show lkM (upM c.ab c.c6 f.id f.inn) id=_
     rw[aj,if_neg (fun q=>hid q.symm)]
  ·rw[List.foldl_cons,a2,List.find?_cons]
   by_cases hid:f.id=id
   ·rw[hno id hid,decide_eq_true hid]
    show lkM (upM c.fo c.c1 f.id (0,0)) id=_
    rw[aj,if_pos hid.symm]
   ·rw[decide_eq_false hid]
    simp only
    cases F.find? (fun f=>decide (f.id=id))with
    |some g=>rfl
    |none=>
     show lkM (upM c.fo c.c1 f.id (0,0)) id=_
     rw[aj,if_neg (fun q=>hid q.symm)]
theorem u4(F:List Fe):∀(c:CS),(F.map (·.id)).Nodup→
  (∀id,lkM (F.foldl CS.mkFe c).inn id=match F.find? (fun f=>decide (f.id=id))with|some f=>some f.inn|none=>lkM c.inn id)∧
  (∀id,lkM (F.foldl CS.mkFe c).fe id=match F.find? (fun f=>decide (f.id=id))with|some _=>some (0,0)|none=>lkM c.fe id)∧
  (c.Wf→(F.foldl CS.mkFe c).Wf)∧(F.foldl CS.mkFe c).al=c.al∧(F.foldl CS.mkFe c).st=c.st∧(F.foldl CS.mkFe c).tg=c.tg∧(F.foldl CS.mkFe c).it=c.it∧(F.foldl CS.mkFe c).ab=c.ab∧(F.foldl CS.mkFe c).fo=c.fo:=by
 induction F with
 |nil=>intro c _;exact⟨fun _=>rfl,fun _=>rfl,fun w=>w,rfl,rfl,rfl,rfl,rfl,rfl⟩
 |cons f F ih=>
  intro c hn
  rw[List.map_cons,List.nodup_cons]at hn
  obtain⟨a1,a2,a3,a4,a5,a6,a7,a8,a9⟩:=ih (c.mkFe f) hn.2
  have hno:∀id,f.id=id→F.find? (fun f=>decide (f.id=id))=none:=fun id hid=>by
   rw[List.find?_eq_none]
   intro g hg
   simp only[decide_eq_true_eq]
   intro q
   exact hn.1 (List.mem_map.2 ⟨g,hg,by rw[q,hid]⟩)
  refine⟨fun id=>?_,fun id=>?_,fun w=>a3 {w with w2:=w.w2.up _ _,w5:=w.w5.up _ _},a4,a5,a6,a7,a8,a9⟩
  ·rw[List.foldl_cons,a1,List.find?_cons]
   by_cases hid:f.id=id
   ·rw[hno id hid,decide_eq_true hid]
    show lkM (upM c.inn c.c5 f.id f.inn) id=_
    rw[aj,if_pos hid.symm]
   ·rw[decide_eq_false hid]
    simp only
    cases F.find? (fun f=>decide (f.id=id))with
    |some g=>rfl
    |none=>
     show lkM (upM c.inn c.c5 f.id f.inn) id=_
     rw[aj,if_neg (fun q=>hid q.symm)]
  ·rw[List.foldl_cons,a2,List.find?_cons]
   by_cases hid:f.id=id
   ·rw[hno id hid,decide_eq_true hid]
    show lkM (upM c.fe c.c2 f.id (0,0)) id=_
    rw[aj,if_pos hid.symm]
   ·rw[decide_eq_false hid]
    simp only
    cases F.find? (fun f=>decide (f.id=id))with
    |some g=>rfl
    |none=>
     show lkM (upM c.fe c.c2 f.id (0,0)) id=_
     rw[aj,if_neg (fun q=>hid q.symm)]
theorem Kp.of0(h:s.Inv):Kp (CS.of0 s.tell) {s with it:=[],c3:=0}:=by
 have n1:((valsM Fo.z s.fo).map (·.id)).Nodup:=by rw[eH h.w1 _ fun k f hk=>(h.i1 k f hk).1];exact cM h.w1.keys
 have n2:((valsM Fe.z s.fe).map (·.id)).Nodup:=by rw[eH h.w2 _ fun k f hk=>(h.i2 k f hk).1];exact cM h.w2.keys
 obtain⟨a1,a2,a3,a4,a5,a6,a7,a8,a9⟩:=tZ (valsM Fo.z s.fo) CS.z n1
 obtain⟨b1,b2,b3,b4,b5,b6,b7,b8,b9⟩:=u4 (valsM Fe.z s.fe) ((valsM Fo.z s.fo).foldl CS.mkFo CS.z) n2
 have f1:=cT (z:=Fo.z) (l:=s.fo) (·.id) fun k f hk=>(h.i1 k f hk).1
 have f2:=cT (z:=Fe.z) (l:=s.fe) (·.id) fun k f hk=>(h.i2 k f hk).1
 have hz:CS.z.Wf:=⟨.nil,.nil,.nil,.nil,.nil,.nil⟩
 have e0:CS.of0 s.tell=(valsM Fe.z s.fe).foldl CS.mkFe ((valsM Fo.z s.fo).foldl CS.mkFo CS.z):=rfl
 rw[← e0]at b1 b2 b3 b4 b5 b6 b7 b8 b9
 have hit:(CS.of0 s.tell).it=[]:=by rw[b7,a7];rfl
 refine⟨b3 (a3 hz),?_,fun id=>by rw[hit],fun id=>?_,fun id=>?_,fun id=>?_,fun id=>?_,by rw[hit];simp⟩
 ·rw[hit]
  refine⟨by rw[b4,a4];rfl,by rw[b5,a5];rfl,fun id hi=>?_,fun id hi=>?_,fun g=>by rw[b6,a6];rfl⟩
  ·rw[b2,f2]at hi ⊢
   cases hl:lkM s.fe id with
   |some f=>rfl
   |none=>rw[hl,a9]at hi;cases hi
  ·rw[b9,a2,f1]at hi ⊢
   cases hl:lkM s.fo id with
   |some f=>rfl
   |none=>rw[hl]at hi;cases hi
 ·rw[b1,f2,a8]
  cases lkM s.fe id<;>rfl
 ·rw[b8,a1,f1]
  cases lkM s.fo id<;>rfl
 ·rw[b2,f2,a9]
  cases lkM s.fe id<;>rfl
 ·rw[b9,a2,f1]
  cases lkM s.fo id<;>rfl
theorem mH(h:s.Inv){I:ML Int It}{c3:Nat}(w:WFM I c3)(hs:∀k t,lkM I k=some t→lkM s.it k=some t)(hl:I.length≤1024):PS.Inv {s with it:=I,c3:=c3}:=
 {h with
  w3:=w
  i3:=fun k t hk=>h.i3 k t (hs k t hk)
  u3:=fun k t hk=>h.u3 k t (hs k t hk)
  tg:=fun k t hk=>h.tg k t (hs k t hk)
  l3:=hl}
theorem bx{α:Type}{z:α}(l:ML Int α):(valsM z l).length=l.length:=by unfold valsM;rw[List.length_map,bw,List.length_map]
theorem kD(h:s.Inv):∀k,k≤(valsM It.z s.it).length→∃I c3,Kp (((valsM It.z s.it).take k).foldl CS.putF (CS.of0 s.tell)) {s with it:=I,c3:=c3}∧PS.Inv {s with it:=I,c3:=c3}∧I.length≤k∧
  ∀id,lkM I id=((valsM It.z s.it).take k).find? (fun t=>decide (t.id=id)):=by
 have hid:∀k t,lkM s.it k=some t→t.id=k:=fun k t hk=>(h.i3 k t hk).1
 have f3:=cT (z:=It.z) (l:=s.it) (·.id) hid
 have n3:((valsM It.z s.it).map (·.id)).Nodup:=by rw[eH h.w3 _ hid];exact cM h.w3.keys
 have hlen:=bx (z:=It.z) s.it
 have h3:=h.l3
 intro k
 induction k with
 |zero=>intro _;exact⟨[],0,Kp.of0 h,mH h .nil (fun _ _ h=>by cases h) (by simp),by simp,fun _=>rfl⟩
 |succ k ih=>
  intro hk
  obtain⟨I,c3,K,hI,hl,hf⟩:=ih (by omega)
  obtain⟨t,ht,htm⟩:=ah (show k<(valsM It.z s.it).length by omega)
  obtain⟨j,hj⟩:=br htm
  have hjt:=hid j t hj
  have hnew:lkM I t.id=none:=by
   rw[hf,List.find?_eq_none]
   intro u hu
   simp only[decide_eq_true_eq]
   intro q
   obtain⟨i,hi⟩:=List.getElem?_of_mem hu
   have hik:i<k:=by have:=(List.getElem?_eq_some_iff.1 hi).1;rw[List.length_take]at this;omega
   rw[List.getElem?_take_of_lt hik]at hi
   have h1:((valsM It.z s.it).map (·.id))[i]? =some t.id:=by rw[List.getElem?_map,hi];simp[q]
   have h2:((valsM It.z s.it).map (·.id))[k]? =some t.id:=by rw[List.getElem?_map,ht];rfl
   have:=(List.getElem?_inj (by rw[List.length_map];omega) n3).1 (h1.trans h2.symm)
   omega
  have hul:(upM I c3 t.id t).length≤k+1:=by rw[fH,hnew];simp;omega
  have hI2:PS.Inv {s with it:=upM I c3 t.id t,c3:=ckM I c3 t.id}:=mH h (hI.w3.up _ _) (fun k' t' hk'=>by
   rcases az hk' with⟨rfl,rfl⟩| ⟨_,hk'⟩
   ·rw[hjt];exact hj
   ·rw[hf]at hk'
    have h1:=List.find?_some hk'
    simp only[decide_eq_true_eq]at h1
    obtain⟨q,hq⟩:=br (List.mem_of_mem_take (List.mem_of_find?_eq_some hk'))
    rw[← h1,hid q t' hq];exact hq) (by omega)
  refine⟨_,_,?_,hI2,hul,fun id=>?_⟩
  ·rw[dc _ _ _ ht]
   exact K.pt hI hI2 rfl rfl rfl
  ·rw[aj,List.take_add_one,ht,List.find?_append,hf]
   by_cases hx:id=t.id
   ·rw[if_pos hx,hx, ← hf,hnew]
    simp
   ·rw[if_neg hx]
    cases((valsM It.z s.it).take k).find? (fun t=>decide (t.id=id))with
    |some u=>rfl
    |none=>
     have:¬t.id=id:=fun q=>hx q.symm
     simp[this]
theorem Kp.new(h:s.Inv):Kp (CS.ofSt s.tell) s:=by
 obtain⟨I,c3,K,_,_,hf⟩:=kD h _ (Nat.le_refl _)
 rw[List.take_length]at K hf
 have f3:=cT (z:=It.z) (l:=s.it) (·.id) fun k t hk=>(h.i3 k t hk).1
 exact⟨K.wf,K.tal,fun id=>(K.it id).trans ((hf id).trans (f3 id)),K.inn,K.ab,K.fe,K.fo,K.len⟩
theorem pn(h:s.Inv)(k:Nat)(t:It)(ht:s.tell.it[k]? =some t):((s.tell.it.take k).foldl CS.putF (CS.of0 s.tell)).Own∧Rdy ((s.tell.it.take k).foldl CS.putF (CS.of0 s.tell)) t∧t.tags.length≤8:=by
 have hk:=(List.getElem?_eq_some_iff.1 ht).1
 obtain⟨I,c3,K,hI,_,_⟩:=kD h k (Nat.le_of_lt hk)
 obtain⟨j,hj⟩:=br (List.mem_of_getElem? ht)
 exact⟨K.own hI,K.rdy hI (h.u3 j t hj) (h.tg j t hj).1,(h.tg j t hj).2⟩
end Go.Av
namespace Go.Av
open Go Go.Proofs Go.RowKit
attribute [local irreducible] WP WPl WPix Sat
variable (G:Nat→Option (List AVal))
theorem qZ(N:Nat)(a b c d e f k:Int):Clo N (.tup [.agg [.int .i64 a,.int .i64 b,.int .i64 c,.int .i64 d,.int .i64 e,.int .i64 f],.int .i64 k]):=.tup _ fun x hx=>by
 simp only[List.mem_cons,List.not_mem_nil,or_false]at hx
 rcases hx with rfl|rfl
 ·exact bg fun c hc=>by simp at hc;rcases hc with rfl|rfl|rfl|rfl|rfl|rfl<;>simp
 ·exact .int _ _
def momF(n:Int):Bool:=decide (-62135596800≤n)&&decide (n≤253402300799)
theorem gp(n a b:Int)(h:Heap):Sat (CT G) 167 [.int .i64 n,.int .i64 a,.int .i64 b] h (fun r h'=>r=.bool (decide (a≤n)&&decide (n≤b))∧h'=h):=by
 by_cases k:a≤n
 ·have k2:decide (n≥a)=true:=by simpa using k
  have F:=k2
  refine sb [.tmp 6] (fn:=Tryz.f167) Tryz.func167 ?_
  intro Q hQ
  refine wk F ?_
  refine ee hQ F ?_
  exact Fin.same (.bool _) ⟨by simp[k],rfl⟩
 ·have k2:decide (n≥a)=false:=by simpa using k
  have F:=k2
  refine sb [.tmp 6] (fn:=Tryz.f167) Tryz.func167 ?_
  intro Q hQ
  refine wk F ?_
  refine ee hQ F ?_
  exact Fin.same (.bool _) ⟨by simp[k],rfl⟩
theorem mK(n:Int)(h:Heap):Sat (CT G) 124 [.int .i64 n] h (fun r h'=>(∃a b c d e f:Int,r=.tup [.agg [.int .i64 a,.int .i64 b,.int .i64 c,.int .i64 d,.int .i64 e,.int .i64 f],.int .i64 (if momF n then 0 else 40)])∧h'=h):=by
 cases hm:momF n with
 |false=>
  unfold momF at hm
  have hW:=gp G n (-62135596800) 253402300799
  rw[hm]at hW
  refine sb [.cell 2 185,.tmp 3] (fn:=Tryz.f124) Tryz.func124 ?_
  intro Q hQ
  refine wk trivial ?_
  refine kq trivial (hW _) ?_
  refine ye hQ trivial ?_
  exact Fin.plain (qZ ..) ⟨⟨_,_,_,_,_,_,rfl⟩,rfl⟩
 |true=>
  have hm2:=hm
  unfold momF at hm2
  have hW:=gp G n (-62135596800) 253402300799
  rw[hm2]at hW
  simp only[Bool.and_eq_true,decide_eq_true_eq]at hm2
  obtain⟨m1,m2⟩:=hm2
  refine sb [.cell 2 185,.tmp 3] (fn:=Tryz.f124) Tryz.func124 ?_
  intro Q hQ
  refine wk trivial ?_
  refine kq trivial (hW _) ?_
  refine cq trivial (fun c1=>?_) (fun c1=>?_)<;>(try exact c1.elim)<;>(refine wk trivial ?_)
  ·refine ye hQ trivial ?_
   exact Fin.plain (qZ ..) ⟨⟨_,_,_,_,_,_,rfl⟩,rfl⟩
  ·refine ye hQ trivial ?_
   exact Fin.plain (qZ ..) ⟨⟨_,_,_,_,_,_,rfl⟩,rfl⟩
theorem lP(n:Int)(h:Heap):Sat (CT G) 147 [.int .i64 n] h (fun r h'=>r=.bool (momF n)∧h'=h):=by
 refine sb [.tmp 2] (fn:=Tryz.f147) Tryz.func147 ?_
 intro Q hQ
 refine wk trivial ?_
 refine(mK G n _).mono ?_
 rintro r h' ⟨⟨_,_,_,_,_,_,rfl⟩,rfl⟩
 cases hm:momF n
 ·have F:=hm
  try refine sq F ?_
  refine wk F ?_
  refine ee hQ F ?_
  exact Fin.plain (.bool _) ⟨rfl,rfl⟩
 ·have F:=hm
  try refine sq F ?_
  refine wk F ?_
  refine ee hQ F ?_
  exact Fin.plain (.bool _) ⟨rfl,rfl⟩
end Go.Av
