/- Parts. -/
import Derived.Test.YtnolelibaahimaaGreatDoorRAv9
import Derived.Lib.Builder
import Derived.Lib.UnsafeStr
import Derived.Laws.BytesArg
import Derived.Deep.LoopGhost
import Derived.Scope
import Derived.TacticsIn
import Derived.Sort.LoopGhostIn
set_option linter.unusedSimpArgs false
set_option linter.unusedVariables false
set_option linter.unusedSectionVars false
set_option linter.unnecessarySimpa false
set_option maxRecDepth 100000
set_option maxHeartbeats 16000000
namespace Go.Av
open Go.RowKit
section
variable {C:Ctx} {B n:Nat} {S:Addr→Prop} {μ:Map} {h:Heap} {w:World} {t:Env} {a:Act} {P:Program} {K:AVal→Heap→Prop}
theorem aV{s:Sem Value}{z:Value}{w':World}(hr:s.run P w=.ok z w'):(do pure (Next.value (← s)):Sem Next).run P w=.ok (.value z) w':=by
 simp[hr]
theorem qZ{s:Sem Unit}{w':World}(hr:s.run P w=.ok () w'):(do s;pure Next.skip:Sem Next).run P w=.ok .skip w':=by
 simp[hr]
theorem lM{T f o fT k:Nat}(g:fOff P T f=some (o,fT,k)):∃fs fd,P.underlying T=some (.struct fs)∧fs[f]? =some fd∧fd.offset=o∧fd.type=fT∧szOf P fT=some k:=by
 unfold fOff at g;split at g
 ·rename_i fs hT;split at g
  ·rename_i fd hf;split at g
   ·rename_i ti hi;cases g;exact⟨fs,fd,hT,hf,rfl,rfl,by simp[szOf,hi]⟩
   ·cases g
  ·cases g
 ·cases g
theorem pY(f:Fits C B S μ h w){e:TypeId}{x:AVal}{v:Value}(hx:Rep w S μ x v)(h0:0<x.cells.length)(hl:x.lies=true)
  (hk:K (.hp h.length 0 0 0) (h++[.row e x.cells.length 0 [x]])):
  OpPost C B S μ w K (.pointer (some ⟨w.heap.size,0,none⟩)) (w.alloc (.cells v.cells e)):=by
 obtain⟨hsz,hcell⟩:=hx.cells;have hsto:=hx.lies hl;have st:=bb f (.cells v.cells e) ⟨some w.heap.size,0,x.cells.length,1⟩;have fl:Flat (w.alloc (.cells v.cells e)) S (μ++[⟨some w.heap.size,0,x.cells.length,1⟩]) x.cells.length [x] v.cells.toList:=by
  refine⟨by simp[hsz],fun i r hi=>?_,fun i r j c hi hj=>?_,fun i r j c hi hj=>?_⟩
  ·match i with
   |0=>simp at hi;subst hi;rfl
   |i+1=>simp at hi
  ·match i with
   |0=>simp at hi;subst hi;exact hsto j c hj
   |i+1=>simp at hi
  ·match i with
   |0=>
    simp at hi;subst hi;obtain⟨u,hu,hr⟩:=hcell j c hj;exact⟨u,by simpa using hu,hr.mono st⟩
   |i+1=>simp at hi
 have hfit:BlkFits (w.alloc (.cells v.cells e)) S (μ++[⟨some w.heap.size,0,x.cells.length,1⟩]) ⟨some w.heap.size,0,x.cells.length,1⟩ (.row e x.cells.length 0 [x]):=
  dv h0 rfl rfl rfl (cw w _) (by simp[hsz]) (by simp) (by simp[maxLen]) fl (by simp[hsz,M4])
 refine⟨_,_,S,_,hk,st,f.alloc _ _ _ rfl hfit,?_⟩;have:=mX (w:=w.alloc (.cells v.cells e)) (S:=S) (μ:=μ++[⟨some w.heap.size,0,x.cells.length,1⟩]) (p:=h.length) (ver:=0) (i:=0) (off:=0) (b:=w.heap.size) (m:=⟨some w.heap.size,0,x.cells.length,1⟩) (by rw[← f.len];simp) rfl rfl;simpa using this
theorem jn{T:TypeId}{z:AVal}(g:zroT P T=some z)(w:World)(S:Addr→Prop)(μ:Map):∃v,(zeroValue T).run P w=.ok v w∧(okVal v=true→Rep w S μ z v)∧z=ofVal v:=by
 unfold zroT at g;split at g
 ·rename_i i hi;simp only[N3]at g;obtain⟨v,hv,rfl⟩:=g;exact⟨v,by simp[zeroValue,typeInfo,hi,hv],fun ho=>lL w S μ v ho,rfl⟩
 ·cases g
theorem eM{v:Value}(h:(ofVal v).cells.all AVal.sto=true):okVal v=true:=by
 unfold ofVal at h;split at h
 ·rename_i cs;refine O4.2 fun c hc=>?_
  have:=O4.1 h (ofVal1 c) (List.mem_map_of_mem hc);unfold ofVal1 at this;split at this<;>first|rfl|simpa [AVal.sto]using this
 ·rename_i hne;cases v<;>first|rfl|exact absurd rfl (hne _)
theorem pZ(f:Fits C B S μ h w){T p ver i off e m:Nat}{rows:List AVal}{r z:AVal}{v:Value}(hx:Rep w S μ (.hp p ver i off) v)(hg:getRow h p ver=some (e,m,rows))(hr:rows[i]? =some r)
  (g:pickT P T (r.cells.drop off)=some z):∃u,(Instr.loadAt T v).run P w=.ok u w∧Rep w S μ z u:=by
 obtain⟨mb,hm,hf⟩:=f.row hg;obtain⟨b,hb,rfl⟩:=hx.hp_now hm hf.hver;rcases hf.lies with⟨h0,_⟩| ⟨b',cur,h1,hheap,h3,h4,h5,h6⟩
 ·rw[hb]at h0;cases h0
 ·rw[hb]at h1;cases h1;obtain⟨u,hu,hz⟩:=fh (w:=w) (S:=S) (μ:=μ) (b:=b) (o:=i*mb.size+off) g (fun j c hj=>by
   rw[P4]at hj;obtain⟨x,hx',hrep⟩:=h6 i r (off+j) c hr hj;refine⟨x,?_,hf.sto i r _ c hr hj,hrep⟩;rw[hf.hsize];have e1:i*m+off+j=i*m+(off+j):=(by omega);simp[World.cell?,hheap,e1,hx'])
  exact⟨u,by simp[Instr.loadAt,Instr.sureAddr,hu],hz⟩
theorem q9{T:TypeId}{cs:List AVal}{z:AVal}{v:Value}(hx:Rep w S μ (.ad cs) v)(g:pickT P T cs=some z):∃u,(Instr.loadAt T v).run P w=.ok u w∧Rep w S μ z u:=by
 cases hx with
 |ad _ b o vs hne hc hr=>
  obtain⟨u,hu,hz⟩:=fh (w:=w) (S:=S) (μ:=μ) (b:=b) (o:=o) g (fun j c hj=>⟨vs j,(hc j c hj).2.1,(hc j c hj).2.2,hr j c hj⟩);exact⟨u,by simp[Instr.loadAt,Instr.sureAddr,hu],hz⟩
theorem mL{r:AVal}{l:List AVal}(hl:l.length=r.cells.length)(hs:∀x∈l,x.sto=true):(ofCells r l).cells=l:=by
 cases r with
 |agg cs=>rfl
 |_=>
  obtain⟨x,rfl⟩:∃x,l=[x]:=List.length_eq_one_iff.1 hl;have hx:=hs x (by simp);cases x<;>first|rfl| (simp[AVal.sto]at hx;done)
theorem v8(f:Fits C B S μ h w){T p ver i off e m:Nat}{rows:List AVal}{r y:AVal}{v u:Value}(hx:Rep w S μ (.hp p ver i off) v)(hy:Rep w S μ y u)(hg:getRow h p ver=some (e,m,rows))(hr:rows[i]? =some r)
  (hs:szOf P T=some y.cells.length)(hl:y.lies=true)(hlt:off+y.cells.length≤m)(hk:K undefA (h.set p (.row e m ver (rows.set i (putA r off y.cells))))):
  ∃w',(Instr.storeAt T v u).run P w=.ok () w'∧OpPost C B S μ w K undef w':=by
 obtain⟨mb,hm,hf⟩:=f.row hg;obtain⟨b,hb,rfl⟩:=hx.hp_now hm hf.hver;obtain⟨hsz,hcell⟩:=hy.cells;have hsto:=hy.lies hl;obtain⟨cur,hheap,hcs,hle,hmax,fl⟩:=hf.flat hb;have hi:i<rows.length:=(f9.1 hr).1;have hrl:r.cells.length=m:=hf.lens i r hr;have hbound:i*m+off+y.cells.length≤cur.size:=by
  have h1:(i+1)*m≤rows.length*m:=R3 _ hi;have h2:rows.length*m≤mb.cap*m:=R3 _ hle.2;rw[R7]at h1;omega
 have hone:∀x∈u.cells.toList,x.oneCell'=true:=by
  intro x hx;obtain⟨j,hj⟩:=Q5 hx;have hjl:j<y.cells.length:=by have:=(f9.1 hj).1;simp at this;omega
  obtain⟨x',hx',hrep⟩:=hcell j y.cells[j] (K6 hjl);have:x=x':=by simp[hx']at hj;exact hj.symm
  subst this;exact hrep.oneCell (hsto j _ (K6 hjl))
 have hst:=run_storeCells_at P b (i*m+off) e u.cells.toList 0 cur w hheap (by simp[hsz];omega) hone;simp only[U9]at hst;generalize hnew:(cur.toList.take (i*m+off)++u.cells.toList++cur.toList.drop (i*m+off+u.cells.toList.length)).toArray=cur' at hst;have hrun:(Instr.storeAt T (.pointer (some ⟨b,i*mb.size+off,none⟩)) u).run P w=.ok () (w.setRow b cur'):=by
  simp[Instr.storeAt,Instr.sureAddr,storeVar,aE hs,hsz,hf.hsize,hst]
 have only:Only w (w.setRow b cur') mb.blk:=⟨rfl,rfl,rfl,by simp,fun k _ hk=>setRow_other w b k _ (fun e=>hk (by rw[hb,e]))⟩
 have hlen0:=(f9.1 hm).1;have st0:=bP f hm only (bq (m':=mb) hm (M0 _) (fun _=>rfl));have hul:u.cells.toList.length=y.cells.length:=by simp[hsz]
 have hcur':∀k,cur'[k]? =if k<i*m+off then cur[k]? else if k<i*m+off+y.cells.length then u.cells[k-(i*m+off)]? else cur[k]? :=by
  intro k;subst hnew;rw[hul];simp only[S8];split
  ·rename_i hk;rw[P1,L9 (by simp;omega),N1 hk];simp
  ·rename_i hk;rw[P1,M1 (by simp;omega)];have e1:(cur.toList.take (i*m+off)).length=i*m+off:=(by simp;omega);rw[e1];split
   ·rename_i hk2;rw[L9 (by simp;omega)];simp
   ·rename_i hk2;rw[M1 (by simp;omega),P4];have e2:i*m+off+y.cells.length+(k-(i*m+off)-u.cells.toList.length)=k:=(by omega);rw[e2];simp
 have hlsto:∀x∈r.cells.take off++y.cells++r.cells.drop (off+y.cells.length),x.sto=true:=by
  intro x hx;simp only[R4]at hx;rcases hx with(hx|hx)|hx
  ·obtain⟨j,hj⟩:=Q5 (V7 hx);exact hf.sto i r j x hr hj
  ·obtain⟨j,hj⟩:=Q5 hx;exact hsto j x hj
  ·obtain⟨j,hj⟩:=Q5 (List.mem_of_mem_drop hx);exact hf.sto i r j x hr hj
 have hput:(putA r off y.cells).cells=r.cells.take off++y.cells++r.cells.drop (off+y.cells.length):=mL (by simp;omega) hlsto;have hpl:(putA r off y.cells).cells.length=m:=by rw[hput];simp;omega
 have hget:∀(q:Nat) (x:AVal),(rows.set i (putA r off y.cells))[q]? =some x→(q=i∧x=putA r off y.cells)∨(q≠i∧rows[q]? =some x):=by
  intro q x hq;by_cases e:i=q
  ·subst e;rw[P3 hi]at hq;cases hq;exact .inl ⟨rfl,rfl⟩
  ·rw[R6 e]at hq;exact .inr ⟨fun e'=>e e'.symm,hq⟩
 have hrf:BlkFits (w.setRow b cur') S (μ.set p mb) mb (.row e m ver (rows.set i (putA r off y.cells))):=by
  refine⟨hf.hver,hf.hsize,hf.pos,fun q x hq=>?_,fun q x j c hq hj=>?_,.inr ⟨b,cur',hb,setRow_heap w b cur cur' e _ hheap,?_,by simpa using hle,hmax,fun q x j c hq hj=>?_⟩⟩
  ·rcases hget q x hq with⟨_,rfl⟩| ⟨_,hq⟩
   ·exact hpl
   ·exact hf.lens q x hq
  ·rcases hget q x hq with⟨_,rfl⟩| ⟨_,hq⟩
   ·rw[hput]at hj;exact hlsto c (M3 hj)
   ·exact hf.sto q x j c hq hj
  ·subst hnew;simp;omega
  ·rcases hget q x hq with⟨rfl,rfl⟩| ⟨hne,hq⟩
   ·have hjm:j<m:=(by rw[← hpl];exact(f9.1 hj).1);rw[hput]at hj;rw[hcur'];by_cases h1:j<off
    ·rw[L7 (by omega)];rw[P1,L9 (by simp;omega),N1 h1]at hj;obtain⟨x,hx',hrep⟩:=fl.rep q r j c hr hj;exact⟨x,by simpa using aO hx',hrep.mono st0⟩
    ·have e1:(r.cells.take off).length=off:=(by simp;omega);rw[P1,M1 (by omega),e1]at hj;by_cases h2:j<off+y.cells.length
     ·rw[K4 (by omega),L7 (by omega)];rw[L9 (by omega)]at hj;obtain⟨x,hx',hrep⟩:=hcell _ _ hj;refine⟨x,?_,hrep.mono st0⟩;rw[show q*m+j-(q*m+off)=j-off from by omega];exact hx'
     ·rw[K4 (by omega),K4 (by omega)];rw[M1 (by omega),P4]at hj;rw[show off+y.cells.length+(j-off-y.cells.length)=j from by omega]at hj;obtain⟨x,hx',hrep⟩:=fl.rep q r j c hr hj;exact⟨x,by simpa using aO hx',hrep.mono st0⟩
   ·have hjm:j<m:=(by rw[← hf.lens q x hq];exact(f9.1 hj).1);obtain⟨x',hx',hrep⟩:=fl.rep q x j c hq hj;refine⟨x',?_,hrep.mono st0⟩;rw[hcur'];have hx2:cur[q*m+j]? =some x':=(by simpa using aO hx');rcases Nat.lt_or_gt_of_ne hne with h1|h1
    ·have:(q+1)*m≤i*m:=R3 _ h1;rw[R7]at this;rw[L7 (by omega)];exact hx2
    ·have:(i+1)*m≤q*m:=R3 _ h1;rw[R7]at this;rw[K4 (by omega),K4 (by omega)];exact hx2
 obtain⟨f',st⟩:=f.update hm only (M0 _) (fun _=>rfl) (.inl rfl) hrf;exact⟨_,hrun,_,_,S,_,hk,st,f',eR _ _ _⟩
end
section
variable {C:Ctx} {B n:Nat} {S:Addr→Prop} {μ:Map} {h:Heap} {w:World} {t:Env} {a:Act} {P:Program} {K:AVal→Heap→Prop}
theorem j5{T f o fT k:Nat}(g:fOff P T f=some (o,fT,k))(hk:k≠0)(b off:Nat):(Instr.fieldAt T (.pointer (some ⟨b,off,none⟩)) f).run P w=.ok (.pointer (some ⟨b,off+o,none⟩)) w:=by
 obtain⟨fs,fd,hT,hf,rfl,rfl,hsz⟩:=lM g;simp[Instr.fieldAt,Instr.sureAddr,aa hT,hf,fieldPlace,aE hsz,hk,bi]
theorem Rep.ad_drop{cs:List AVal}{v:Value}(hx:Rep w S μ (.ad cs) v){o:Nat}(ho:o<cs.length):∃b off,v=.pointer (some ⟨b,off,none⟩)∧Rep w S μ (.ad (cs.drop o)) (.pointer (some ⟨b,off+o,none⟩)):=by
 cases hx with
 |ad _ b off vs hne hc hr=>
  refine⟨b,off,rfl,.ad _ b (off+o) (fun j=>vs (o+j)) ?_ (fun j c hj=>?_) (fun j c hj=>?_)⟩
  ·intro e;have:=N5 List.length e;simp at this;omega
  ·rw[P4]at hj;have:=hc _ _ hj;rw[show off+o+j=off+(o+j)from by omega];exact this
  ·rw[P4]at hj;exact hr _ _ hj
theorem jH{p ver i off b:Nat}{m:MB}(hm:μ[p]? =some m)(hv:m.ver=ver)(hb:m.blk=some b){q:Nat}(hq:q=i*m.size+off):
  Rep w S μ (.hp p ver i off) (.pointer (some ⟨b,q,none⟩)):=by subst hq;exact mX hm hv hb
theorem fI(f:Fits C B S μ h w){T fi o fT k:Nat}(g:fOff P T fi=some (o,fT,k))(hk:k≠0){x r:AVal}{v:Value}(hx:Rep w S μ x v)
  (hr:(∃p ver i off,x=.hp p ver i off∧(getRow h p ver).isSome∧r=.hp p ver i (off+o))∨(∃cs,x=.ad cs∧o<cs.length∧r=.ad (cs.drop o))):
  ∃u,(Instr.fieldAt T v fi).run P w=.ok u w∧Rep w S μ r u:=by
 rcases hr with⟨p,ver,i,off,rfl,hs,rfl⟩| ⟨cs,rfl,ho,rfl⟩
 ·obtain⟨⟨e,m,rows⟩,hg⟩:=M8.1 hs;obtain⟨mb,hm,hf⟩:=f.row hg;obtain⟨b,hb,rfl⟩:=hx.hp_now hm hf.hver;exact⟨_,j5 g hk _ _,jH hm hf.hver hb (by omega)⟩
 ·obtain⟨b,off,rfl,hr⟩:=hx.ad_drop ho;exact⟨_,j5 g hk _ _,hr⟩
theorem eP{T e m:Nat}(hT:P.underlying T=some (.slice e))(hs:szOf P e=some m){b o len cap:Nat}{k:IntKind}{i:Int}(h0:0≤i)(h1:i<len):
  (Instr.indexAt T (.slice (some ⟨b,o,none⟩) len cap) (.int k i)).run P w=.ok (.pointer (some ⟨b,o+i.toNat*m,none⟩)) w:=by
 simp[Instr.indexAt,asIntOf,aa hT,h0,h1,aE hs,bi]
theorem eQ{T e m len:Nat}(hT:P.underlying T=some (.array len e))(hs:szOf P e=some m){b o:Nat}{k:IntKind}{i:Int}(h0:0≤i)(h1:i<len):
  (Instr.indexAt T (.pointer (some ⟨b,o,none⟩)) (.int k i)).run P w=.ok (.pointer (some ⟨b,o+i.toNat*m,none⟩)) w:=by
 simp[Instr.indexAt,Instr.sureAddr,asIntOf,aa hT,h0,h1,aE hs,bi]
theorem AX{m:Nat}{es:List AVal}{v:Value}(hx:Rep w S μ (.sl m es) v)(hm:0<m){i:Nat}{r:AVal}(hi:es[i]? =some r):
  ∃b o cap,v=.slice (some ⟨b,o,none⟩) es.length cap∧Rep w S μ (.ad r.cells) (.pointer (some ⟨b,o+i*m,none⟩)):=by
 cases hx with
 |sl0=>simp at hi
 |sl _ _ b o cap vs hne hcap hmx hl hc hr=>
  refine⟨b,o,cap,rfl,.ad _ b (o+i*m) (fun j=>vs i j) ?_ (fun j c hj=>?_) (fun j c hj=>?_)⟩
  ·intro e;have:=hl i r hi;rw[e]at this;simp at this;omega
  ·have:=hc i r j c hi hj;rw[show o+i*m+j=o+(i*m+j)from by omega];exact this
  ·exact hr i r j c hi hj
theorem eT{place:Nat→Option (Nat×Nat)}:∀(parts:List (Nat×Operand)) (zs:List AVal) (cells:Array Value) (cs:List AVal),
  (∀q∈parts,okOpd n q.2=true)→(∀x,okOpd n x=true→Rep w S μ (aev C.G t x) (a.eval x))→
  cells.size=zs.length→(∀(i:Nat) (c:AVal),zs[i]? =some c→c.sto=true∧∃u,cells[i]? =some u∧Rep w S μ c u)→
  fillA place zs (parts.map fun q=>(q.1,aev C.G t q.2))=some cs→
  ∃out,Instr.fill place cells (parts.map fun q=>(q.1,a.eval q.2))=some out∧out.size=cs.length∧(∀(i:Nat) (c:AVal),cs[i]? =some c→c.sto=true∧∃u,out[i]? =some u∧Rep w S μ c u)
 | [],zs,cells,cs,_,_,hl,hc,g=>by
  simp only[R1,fillA,N2]at g;subst g;exact⟨cells,rfl,hl,hc⟩
 | (i,x)::rest,zs,cells,cs,ho,rp,hl,hc,g=>by
  simp only[N4,fillA]at g;split at g
  ·rename_i o k hp;split at g
   ·rename_i hcond;obtain⟨h1,h2,h3⟩:=hcond;have hx:=rp x (ho (i,x) (by simp));obtain⟨hsz,hcell⟩:=hx.cells;have hsto:=hx.lies h3;have hfold:∀(vs:List Value) (j:Nat) (cells:Array Value),o+j+vs.length≤cells.size→
      ((vs.zipIdx j).foldl (fun cs (q:Value×Nat)=>cs.setIfInBounds (o+q.2) q.1) cells).size=cells.size∧
      ∀k,((vs.zipIdx j).foldl (fun cs (q:Value×Nat)=>cs.setIfInBounds (o+q.2) q.1) cells)[k]? =if o+j≤k∧k<o+j+vs.length then vs[k-(o+j)]? else cells[k]? :=by
     intro vs;induction vs with
     |nil=>intro j cells _;refine⟨rfl,fun k=>?_⟩;rw[K4 (by simp)];rfl
     |cons v vs ih=>
      intro j cells hb;simp only[L6]at hb;simp only[List.zipIdx_cons,List.foldl_cons];obtain⟨e1,e2⟩:=ih (j+1) (cells.setIfInBounds (o+j) v) (by simp;omega);refine⟨by rw[e1];simp,fun k=>?_⟩;rw[e2];simp only[L6];by_cases h1:k=o+j
      ·subst h1;rw[K4 (by omega),L7 (by omega)];have hlt:o+j<cells.size:=(by omega);simp[hlt]
      ·by_cases h2:o+(j+1)≤k∧k<o+(j+1)+vs.length
       ·rw[L7 h2,L7 (by omega)];rw[show k-(o+j)=(k-(o+(j+1)))+1 from by omega];simp
       ·rw[K4 h2,K4 (by omega)];rw[U7 (by omega)]
    obtain⟨hs1,hs2⟩:=hfold (a.eval x).cells.toList 0 cells (by simp[hsz];omega);have hz:(a.eval x).cells.zipIdx.foldl (fun cs (q:Value×Nat)=>cs.setIfInBounds (o+q.2) q.1) cells=((a.eval x).cells.toList.zipIdx 0).foldl (fun cs (q:Value×Nat)=>cs.setIfInBounds (o+q.2) q.1) cells:=by
     rw[← Array.foldl_toList,Array.toList_zipIdx]
    have hfill:Instr.fill place cells ((i,a.eval x)::rest.map fun q=>(q.1,a.eval q.2))=Instr.fill place (((a.eval x).cells.toList.zipIdx 0).foldl (fun cs (q:Value×Nat)=>cs.setIfInBounds (o+q.2) q.1) cells) (rest.map fun q=>(q.1,a.eval q.2)):=by
     rw[Instr.fill,hp];simp only[];rw[K4 (by rw[P8];simp[hsz,h1];omega),hz]
    have hq:∀(k:Nat) (c:AVal),(zs.take o++(aev C.G t x).cells++zs.drop (o+(aev C.G t x).cells.length))[k]? =some c→
      c.sto=true∧∃u,(((a.eval x).cells.toList.zipIdx 0).foldl (fun cs (q:Value×Nat)=>cs.setIfInBounds (o+q.2) q.1) cells)[k]? =some u∧Rep w S μ c u:=by
     intro k c hk;rw[hs2];have e1:(zs.take o).length=o:=(by simp;omega);simp only[U9,Array.length_toList];by_cases k1:k<o
     ·rw[P1,L9 (by omega),N1 k1]at hk;rw[K4 (by omega)];exact hc k c hk
     ·rw[P1,M1 (by omega),e1]at hk;by_cases k2:k<o+(aev C.G t x).cells.length
      ·rw[L9 (by omega)]at hk;rw[L7 (by omega)];obtain⟨u,hu,hr⟩:=hcell _ _ hk;exact⟨hsto _ _ hk,u,by simpa using hu,hr⟩
      ·rw[M1 (by omega),P4]at hk;rw[K4 (by omega)];refine hc k c ?_;rw[← hk];congr 1;omega
    rw[← h1]at g;obtain⟨out,hout,hol,hoc⟩:=eT rest _ _ cs (fun q hq=>ho q (by simp[hq])) rp (by rw[hs1];simp;omega) hq g;exact⟨out,by rw[N4,hfill];exact hout,hol,hoc⟩
   ·cases g
  ·cases g
end
section
variable {C:Ctx} {B n:Nat} {S:Addr→Prop} {μ:Map} {h:Heap} {w:World} {t:Env} {a:Act} {ds:List Deferred} {K:AVal→Heap→Prop}
theorem tm{P:Program}{T k:Nat}(g:nFld P T=some k):∃fs,P.underlying T=some (.struct fs)∧∀f∈fs.toList,(szOf P f.type).isSome=true:=by
 unfold nFld at g;split at g
 ·rename_i fs hT;split at g
  ·rename_i hall;exact⟨fs,hT,O4.1 hall⟩
  ·cases g
 ·cases g
theorem jI{P:Program}(fs:Array Field)(hall:∀f∈fs.toList,(szOf P f.type).isSome=true):
  (fs.mapM fun f=>(do pure (f.offset, ← sizeOf f.type):Sem (Nat×Nat))).run P w=.ok (fs.map fun f=>(f.offset,(szOf P f.type).getD 0)) w:=by
 obtain⟨l⟩:=fs;rw[List.mapM_toArray];have key:∀l:List Field,(∀f∈l,(szOf P f.type).isSome=true)→(l.mapM fun f=>(do pure (f.offset, ← sizeOf f.type):Sem (Nat×Nat))).run P w=.ok (l.map fun f=>(f.offset,(szOf P f.type).getD 0)) w:=by
  intro l;induction l with
  |nil=>intro _;rfl
  |cons f l ih=>
   intro hall;obtain⟨k,hk⟩:=M8.1 (hall f (by simp));simp only[List.mapM_cons,M6,aE hk,M2,N9,ih (fun g hg=>hall g (by simp[hg])),hk,N4,Q0]
 simp only[Sem.run_map,key l hall,M2,U0]
theorem gH{P:Program}{T:TypeId}{z:AVal}(g:zroT P T=some z)(hz:z.cells.all AVal.sto=true)(w:World)(S:Addr→Prop)(μ:Map):
  ∃v,(zeroValue T).run P w=.ok v w∧v.cells.size=z.cells.length∧∀(i:Nat) (c:AVal),z.cells[i]? =some c→c.sto=true∧∃u,v.cells[i]? =some u∧Rep w S μ c u:=by
 obtain⟨v,hv,hr,rfl⟩:=jn g w S μ;obtain⟨h1,h2⟩:=(hr (eM hz)).cells;exact⟨v,hv,h1,fun i c hi=>⟨O4.1 hz c (M3 hi),h2 i c hi⟩⟩
theorem il{cs:List AVal}{out:Array Value}(hl:out.size=cs.length)(hc:∀(i:Nat) (c:AVal),cs[i]? =some c→c.sto=true∧∃u,out[i]? =some u∧Rep w S μ c u):Rep w S μ (.agg cs) (.agg out):=by
 obtain⟨l⟩:=out;refine .agg cs l (by simpa using hl) (fun i c hi=>(hc i c hi).1) (fun i c hi=>?_);obtain⟨_,u,hu,hr⟩:=hc i c hi;have:l.getD i undef=u:=by simp at hu;simp[List.getD,hu]
 rw[this];exact hr
theorem oO(f:Fits C B S μ h w)(r:REnv n w S μ t a ds){T:TypeId}{parts:Array (Nat×Operand)}(ho:∀q∈parts.toList,okOpd n q.2=true)(g:wpOp C (.build T parts) t h K):
  ∃z,(Instr.build T (parts.map fun q=>(q.1,a.eval q.2))).run C.P w=.ok z w∧OpPost C B S μ w K z w:=by
 obtain⟨l⟩:=parts;simp only[wpOp]at g;obtain⟨z,hz,g1⟩:=ae g;clear g;obtain⟨hsto,g⟩:=g1;obtain⟨v,hv,hvl,hvc⟩:=gH hz hsto w S μ;have rp:∀x,okOpd n x=true→Rep w S μ (aev C.G t x) (a.eval x):=fun x hx=>gb f r x hx
 split at g
 ·rename_i k x hn;obtain⟨fs,hT,hall⟩:=tm hn;obtain⟨cs,hcs,hK⟩:=ae g;have hp:(fun i=>(fOff C.P T i).map fun q=>(q.1,q.2.2))=fun i=>(fs.map fun f=>(f.offset,(szOf C.P f.type).getD 0))[i]? :=by
   funext i
   simp only[Array.getElem?_map];unfold fOff;simp only[hT];cases hf:fs[i]? with
   |none=>rfl
   |some fd=>
    have:fd∈fs.toList:=by simpa using V5 hf
    obtain⟨k,hk⟩:=M8.1 (hall fd this);obtain⟨ti,h1,h2⟩:=ie hk;simp[hk,h1,h2]
  rw[hp]at hcs;obtain⟨out,hout,hol,hoc⟩:=eT l z.cells v.cells cs ho rp hvl hvc hcs;refine⟨.agg out,?_,OpPost.here f hK (il hol hoc)⟩;simp only[Instr.build,M6,hv,M2,aa hT,jI fs hall,U0,hout,N9]
 ·rename_i x m e hn ha;have hT:=fH ha;obtain⟨sz,hsz,g2⟩:=ae g;obtain⟨cs,hcs,hK⟩:=ae g2;obtain⟨out,hout,hol,hoc⟩:=eT l z.cells v.cells cs ho rp hvl hvc hcs;refine⟨.agg out,?_,OpPost.here f hK (il hol hoc)⟩;simp only[Instr.build,M6,hv,M2,aa hT,aE hsz,U0,hout,N9]
 ·exact g.elim
end
section
variable {C:Ctx} {B n:Nat} {S:Addr→Prop} {μ:Map} {h:Heap} {w:World} {t:Env} {a:Act} {ds:List Deferred} {K:AVal→Heap→Prop}
theorem gd{n:Nat}:∀(rows:List AVal) (i:Nat) (r:AVal) (j:Nat) (c:AVal),(∀x∈rows,x.cells.length=n)→rows[i]? =some r→r.cells[j]? =some c→
  (rows.flatMap AVal.cells)[i*n+j]? =some c
 | [],i,r,j,c,_,hi,_=>by simp at hi
 |x::rows,0,r,j,c,hl,hi,hj=>by
  simp at hi;subst hi;rw[S6,Nat.zero_mul,P9,L9 (f9.1 hj).1];exact hj
 |x::rows,i+1,r,j,c,hl,hi,hj=>by
  have hx:=hl x (by simp);rw[S6,M1 (by rw[hx,R7];omega),hx];rw[show(i+1)*n+j-n=i*n+j from by rw[R7];omega];exact gd rows i r j c (fun y hy=>hl y (by simp[hy])) (by simpa using hi) hj
theorem gI{n:Nat}:∀(rows:List AVal),(∀x∈rows,x.cells.length=n)→(rows.flatMap AVal.cells).length=rows.length*n
 | [],_=>by simp
 |x::rows,hl=>by
  rw[S6,K7,hl x (by simp),gI rows (fun y hy=>hl y (by simp[hy])),L6,R7];omega
theorem jJ{n:Nat}:∀(parts:List (Nat×AVal)) (s:Nat) (zs:List AVal),parts.map (·.1)=List.range' s parts.length→(∀x∈parts.map (·.2),x.cells.length=n∧x.lies=true)→
  (s+parts.length)*n≤zs.length→
  fillA (fun i=>some (i*n,n)) zs parts=some (zs.take (s*n)++(parts.map (·.2)).flatMap AVal.cells++zs.drop ((s+parts.length)*n))
 | [],s,zs,_,_,hz=>by simp[fillA]
 | (i,x)::rest,s,zs,hi,hx,hz=>by
  simp only[N4,L6,List.range'_succ,Z7]at hi;obtain⟨rfl,hi⟩:=hi;have hx0:=hx x (by simp);simp only[L6]at hz;have h1:(i+1)*n≤(i+(rest.length+1))*n:=R3 _ (by omega);have h2:(i+1)*n=i*n+n:=by rw[R7];omega
  rw[fillA];simp only[];rw[L7 ⟨hx0.1,by omega,hx0.2⟩];have hlen:(zs.take (i*n)++x.cells++zs.drop (i*n+n)).length=zs.length:=by simp[hx0.1];omega
  rw[jJ rest (i+1) _ hi (fun y hy=>hx y (by simp at hy ⊢;exact .inr hy)) (by rw[hlen,show i+1+rest.length=i+(rest.length+1)from by omega];exact hz)];have ht:(zs.take (i*n)).length=i*n:=by simp;omega
  have e1:(zs.take (i*n)++x.cells++zs.drop (i*n+n)).take ((i+1)*n)=zs.take (i*n)++x.cells:=by
   rw[h2,List.take_append_of_le_length (by simp[hx0.1];omega)];exact M4 (by simp[hx0.1];omega)
  have e2:(zs.take (i*n)++x.cells++zs.drop (i*n+n)).drop ((i+1+rest.length)*n)=zs.drop ((i+(rest.length+1))*n):=by
   have e3:(zs.take (i*n)++x.cells).length=i*n+n:=(by simp[hx0.1];omega);rw[List.drop_append,e3,U2 (by rw[e3,R7,h2];omega),O5,V3];congr 1
   have e4:(i+1+rest.length)*n=i*n+n+rest.length*n:=(by rw[R7,R7];omega);have e5:(i+(rest.length+1))*n=i*n+n+rest.length*n:=(by rw[R7,R7];omega);omega
  rw[e1,e2];simp[P1]
theorem jo(f:Fits C B S μ h w)(r:REnv n w S μ t a ds){T len:Nat}{parts:Array (Nat×Operand)}(ho:∀q∈parts.toList,okOpd n q.2=true)(g:wpOp C (.buildSlice T len parts) t h K):
  ∃z w',(Instr.buildSlice T len (parts.map fun q=>(q.1,a.eval q.2))).run C.P w=.ok z w'∧OpPost C B S μ w K z w':=by
 obtain⟨l⟩:=parts;simp only[wpOp]at g;obtain⟨e,he,g1⟩:=ae g;clear g;obtain⟨m,hm,g2⟩:=ae g1;clear g1;split at g2
 ·rename_i hlen0;subst hlen0;obtain⟨hp0,hK⟩:=g2;have hl0:l=[]:=by simpa using hp0
  subst hl0;obtain⟨f',st⟩:=f.foreign (.cells #[] e) (S':=S) (fun _ ha=>ha) (fun _ ha=>.inl ha);refine⟨.slice (some ⟨w.heap.size,0,none⟩) 0 0,w.alloc (.cells #[] e),?_,_,_,S,_,hK,st,f',.ez _⟩;simp only[Instr.buildSlice,M6,aa (aW he),M2,aE hm,Nat.zero_mul];have hr:Array.range 0= #[]:=Array.eq_empty_of_size_eq_zero (by simp);simp[Instr.fill,newRow,run_newObj,hr]
 obtain⟨hsz,hlen,hm0,hbig,hidx,hz,hall,hK⟩:=g2;have hsz:l.length=len:=by simpa using hsz
 have hT:=aW he;have rp:∀x,okOpd n x=true→Rep w S μ (aev C.G t x) (a.eval x):=fun x hx=>gb f r x hx
 simp only[N3,Prod.mk.injEq]at hz;obtain⟨z,hz,hzl,hzs⟩:=hz;obtain⟨v,hv,hvl,hvc⟩:=gH hz hzs w S μ;generalize hzz:(List.range (len*m)).map (fun k=>z.cells.getD (k%m) default)=zs;have hzlen:zs.length=len*m:=by subst hzz;simp
 generalize hcz:(Array.range (len*m)).map (fun k=>v.cells[k%v.cells.size]!)=cz;have hczl:cz.size=zs.length:=by subst hcz;subst hzz;simp
 have hzc:∀(i:Nat) (c:AVal),zs[i]? =some c→c.sto=true∧∃u,cz[i]? =some u∧Rep w S μ c u:=by
  intro i c hi;have hlt:i<len*m:=by rw[← hzlen];exact(f9.1 hi).1
  subst hzz;simp only[M5,List.getElem?_range hlt,Q3,N2]at hi;have hmod:i%m<m:=Nat.mod_lt _ hm0;obtain⟨h1,u,hu,hr⟩:=hvc (i%m) (z.cells[i%m]'(by rw[hzl];exact hmod)) (K6 _);have ec:z.cells.getD (i%m) default=z.cells[i%m]'(by rw[hzl];exact hmod):=by simp[List.getD,K6 (show i%m<z.cells.length by rw[hzl];exact hmod)]
  rw[ec]at hi;subst hi;refine⟨h1,u,?_,hr⟩;subst hcz;have hlt2:i<(Array.range (len*m)).size:=by simpa using hlt
  simp only[Array.getElem?_map,O2 hlt2,Array.getElem_range,Q3,N2];have e1:v.cells.size=m:=by rw[hvl,hzl]
  rw[e1];simp[getElem!_def,hu]
 have hmap1:(l.map fun q=>(q.1,aev C.G t q.2)).map (·.1)=List.range' 0 (l.map fun q=>(q.1,aev C.G t q.2)).length:=by
  simp only[Y6,L5,hsz];rw[← List.range_eq_range'];exact hidx
 have hmap2:(l.map fun q=>(q.1,aev C.G t q.2)).map (·.2)=l.map fun q=>aev C.G t q.2:=by simp
 have hfa:=jJ (n:=m) (l.map fun q=>(q.1,aev C.G t q.2)) 0 zs hmap1 (by rw[hmap2];exact hall) (by simp[hsz,hzlen]);rw[hmap2]at hfa;have hend:zs.drop ((0+(l.map fun q=>(q.1,aev C.G t q.2)).length)*m)=[]:=U2 (by simp[hsz,hzlen]);rw[hend,Nat.zero_mul,Q8,O5,O1]at hfa;obtain⟨out,hout,hol,hoc⟩:=eT l zs cz _ ho rp hczl hzc hfa;generalize hrows:(l.map fun q=>aev C.G t q.2)=rows at hall hK hol hoc;have hrl:rows.length=len:=by subst hrows;simpa using hsz
 have hl1:∀x∈rows,x.cells.length=m:=fun x hx=>(hall x hx).1
 have hrun:(Instr.buildSlice T len (l.map fun q=>(q.1,a.eval q.2)).toArray).run C.P w=.ok (.slice (some ⟨w.heap.size,0,none⟩) len len) (w.alloc (.cells out e)):=by
  have hnb:¬len*m>16777216:=by omega
  have hn0:len*m≠0:=Nat.mul_ne_zero (by omega) (by omega);simp only[Instr.buildSlice,M6,aa hT,M2,aE hm,K4 hnb,K4 hn0,hv,N9,hcz,hout,newRow,run_newObj];rfl
 rcases hK with hK|hK
 ·have st:=bb f (.cells out e) ⟨some w.heap.size,0,m,len⟩;have fl:Flat (w.alloc (.cells out e)) S (μ++[⟨some w.heap.size,0,m,len⟩]) m rows out.toList:=by
   refine⟨by simp[hol,gI rows hl1],fun i q hi=>hl1 q (M3 hi),fun i q j c hi hj=>?_,fun i q j c hi hj=>?_⟩
   ·exact(hoc _ c (gd rows i q j c hl1 hi hj)).1
   ·obtain⟨_,u,hu,hr⟩:=hoc _ c (gd rows i q j c hl1 hi hj);exact⟨u,by simpa using hu,hr.mono st⟩
  have hfit:BlkFits (w.alloc (.cells out e)) S (μ++[⟨some w.heap.size,0,m,len⟩]) ⟨some w.heap.size,0,m,len⟩ (.row e m 0 rows):=
   dv hm0 rfl rfl rfl (cw w _) (by rw[hol,gI rows hl1,hrl]) ⟨hlen,by simp[hrl]⟩ (by simp only[maxLen];have:len*1≤len*m:=Nat.mul_le_mul_left _ hm0;omega) fl (by rw[← fl.len,Y3])
  refine⟨_,_,by simpa using hrun,_,_,S,_,hK,st,f.alloc _ _ _ rfl hfit,?_⟩;exact .hs _ _ _ _ _ ⟨some w.heap.size,0,m,len⟩ _ (by rw[← f.len];simp) (M0 _) (by simp) rfl fun _=>.inr ⟨_,rfl,by simp,by simp⟩
 ·have hof:out.size=len*m:=by rw[hol,gI rows hl1,hrl]
  obtain⟨f',st⟩:=f.foreign (.cells out e) (S':=fun a=>S a∨(a.block=w.heap.size∧a.spot=none)) (fun a ha=>.inl ha) (fun a ha=>ha.imp id (·.1));have cellat:∀k x,out[k]? =some x→(w.alloc (.cells out e)).cell? ⟨w.heap.size,k,none⟩=some x:=fun k x hx=>by
   have hnh:=cw w (.cells out e);simp only[World.cell?,hnh];exact hx
  have hne:rows≠ []:=fun e=>by rw[e]at hrl;simp at hrl;omega
  refine⟨_,_,by simpa using hrun,_,_,_,_,hK,st,f',?_⟩;have hsl:=Rep.sl (w:=w.alloc (.cells out e)) (S:=fun a=>S a∨(a.block=w.heap.size∧a.spot=none)) (μ:=μ) m rows w.heap.size 0 len (fun i j=>(out[i*m+j]?).getD undef) hne (by omega)
   (by simp only[maxLen];have:len*1≤len*m:=Nat.mul_le_mul_left _ hm0;omega) (fun i q hi=>hl1 q (M3 hi)) ?_ ?_
  ·rw[hrl]at hsl;exact hsl
  ·intro i q j c hi hj;obtain⟨hcs,u,hu,hr⟩:=hoc _ c (gd rows i q j c hl1 hi hj);refine⟨.inr ⟨rfl,rfl⟩,?_,hcs⟩;rw[P9,cellat _ u hu,hu];rfl
  ·intro i q j c hi hj;obtain⟨_,u,hu,hr⟩:=hoc _ c (gd rows i q j c hl1 hi hj);rw[hu];exact hr.mono st
end
section
variable {C:Ctx} {B n:Nat} {S:Addr→Prop} {μ:Map} {h:Heap} {w:World} {t:Env} {a:Act} {P:Program} {K:AVal→Heap→Prop}
theorem eA:∀{ys:List AVal} {bs:List UInt8},bytesA ys=some bs→ys.length=bs.length∧∀(i:Nat) (y:AVal),ys[i]? =some y→∃b,bs[i]? =some b∧y=.int .u8 b.toNat
 | [],bs,g=>by cases g;exact⟨rfl,fun i y hi=>by simp at hi⟩
 |y::ys,bs,g=>by
  unfold bytesA at g;split at g
  ·rename_i h1;cases h1
  ·rename_i m rest h1;obtain⟨rfl,rfl⟩:=List.cons.inj h1;split at g
   case isFalse=>cases g
   rename_i hm;obtain⟨l,hl,rfl⟩:=N3.1 g;obtain⟨e1,e2⟩:=eA hl;refine⟨by simp[e1],fun i y hi=>?_⟩
   match i with
   |0=>simp only[V6,N2]at hi;subst hi;exact⟨_,by rw[V6],by rw[hm]⟩
   |i+1=>rw[T6]at hi;rw[T6];exact e2 i y hi
  ·cases g
theorem lN{m:MB}{e ver:Nat}{rows:List AVal}(r:RowFits w S μ m e 1 ver rows){b k off:Nat}(hb:m.blk=some b){bs:List UInt8}(g:bytesA ((rows.drop off).take k)=some bs):
  ∃cur,w.heap[b]? =some (.cells cur e (0,0))∧cur.size=m.cap∧(∀j x,bs[j]? =some x→w.cell? ⟨b,off+j,none⟩=some (.int .u8 x.toNat))∧(0<m.cap∧rows.length≤m.cap)∧m.cap≤maxLen:=by
 rcases r.lies with⟨h0,_⟩| ⟨b',cur,h1,h2,h3,h4,h5,h6⟩
 ·rw[hb]at h0;cases h0
 ·rw[hb]at h1;cases h1;obtain⟨e1,e2⟩:=eA g;refine⟨cur,h2,by simpa using h3,fun j x hx=>?_,h4,h5⟩;have hj:=(f9.1 hx).1;have hlt:j<((rows.drop off).take k).length:=by omega
  have hy:=K6 hlt;obtain⟨x',hx',hy'⟩:=e2 j _ hy;rw[hx]at hx';cases hx';have hk:j<k:=by simp at hlt;omega
  rw[N1 hk,P4]at hy;obtain⟨u,hu,hr⟩:=h6 (off+j) _ 0 _ hy (by rw[hy'];rfl);cases hr;simp only[Nat.mul_one,U9]at hu;simp[World.cell?,h2,hu]
theorem j6(bs:List UInt8):strOfNums (bs.map fun x=>(x.toNat:Int))=⟨bs.toArray⟩:=by
 unfold strOfNums;congr 2
 rw[Y6]
 conv=>rhs;rw[← List.map_id bs]
 refine T4 fun x _=>?_
 simp
theorem jK{bs:List UInt8}{i:Nat}{x:UInt8}(hx:bs[i]? =some x):(bs.map fun x=>(x.toNat:Int)).getD i 0=x.toNat:=by
 simp[List.getD,hx]
theorem mM{src dst:TypeId}(g:bytesStr P src dst=true):∃e,P.underlying src=some (.slice e)∧P.underlying e=some (.int .u8)∧P.underlying dst=some .string:=by
 unfold bytesStr at g;split at g
 ·rename_i e he;split at g
  ·rename_i h1 h2;exact⟨e,he,h1,h2⟩
  ·cases g
 ·cases g
theorem oP(f:Fits C B S μ h w){src dst:TypeId}{x:AVal}{u:Value}(hx:Rep w S μ x u){k:AVal→Prop}(g:convK P src dst x h k):
  ∃r z,k r∧(convert src dst u).run P w=.ok z w∧Rep w S μ r z:=by
 have bytes:∀(y:AVal),(∀s,y≠ .str s)→Rep w S μ y u→(bytesStr P src dst=true∧need (elemsOf h 1 y) fun ys=>need (bytesA ys) fun bs=>k (.str bs))→∃r z,k r∧(convert src dst u).run P w=.ok z w∧Rep w S μ r z:=by
  intro y hns hy g;obtain⟨hs,g⟩:=g;obtain⟨e,h1,h2,h3⟩:=mM hs;obtain⟨ys,hel,g1⟩:=ae g;obtain⟨bs,hbs,gk⟩:=ae g1;clear g g1;have nilcase:∀(ad:Option Addr) (cap:Nat),bs=[]→u=.slice ad 0 cap→∃r z,k r∧(convert src dst u).run P w=.ok z w∧Rep w S μ r z:=by
   intro ad cap hb hu;subst hb;subst hu;refine⟨_,.string ⟨#[]⟩,gk,?_,.str []⟩;cases ad with
   |none=>rw[run_convert_bytes_string w src dst e _ _ _ h1 h2 h3];rfl
   |some ad=>
    obtain⟨b,o,sp⟩:=ad;rw[run_convert_bytes_string w src dst e _ _ _ h1 h2 h3];have:=run_bytesToString (P:=P) w ⟨b,o,sp⟩ 0 cap [] (by rfl);rw[this];rfl
  unfold elemsOf at hel;split at hel
  ·rename_i m es;split at hel
   case isFalse=>cases hel
   rename_i hm;subst hm;cases hel;cases hy with
   |sl0 _ ad cap=>cases hbs;exact nilcase ad cap rfl rfl
   |sl _ _ b o cap vs hne hcap hmx hl hc hr=>
    obtain⟨e1,e2⟩:=eA hbs;refine⟨_,.string ⟨bs.toArray⟩,gk,?_,.str bs⟩;rw[run_convert_bytes_arg w src e h1 h2 b o ys.length cap (bs.map fun x=>(x.toNat:Int)) (by simp[e1]) (fun i hi=>?_) dst h3,j6];have hy:=K6 hi;obtain⟨x,hx',hyx⟩:=e2 i _ hy;have hcell:=hc i _ 0 _ hy (by rw[hyx];rfl);have hrep:=hr i _ 0 _ hy (by rw[hyx];rfl);rw[jK hx'];simp only[Nat.mul_one,U9]at hcell;rw[hcell.2.1];rw[hrep.int_inv]
  ·rename_i p ver off len room;split at hel
   case h_2=>cases hel
   rename_i e' m rows hg;split at hel
   case isFalse=>cases hel
   rename_i hc;obtain⟨rfl,hlen⟩:=hc;cases hel;obtain⟨mb,hm,hrow⟩:=f.row hg;rcases hy.hs_now hm hrow.hver with⟨hb,rfl,rfl,rfl⟩| ⟨b,hb,hcap,rfl⟩
   ·simp only[Q8]at hbs;cases hbs;exact nilcase none 0 rfl rfl
   ·obtain⟨e1,e2⟩:=eA hbs;obtain⟨cur,hh,hcs,hcell,_⟩:=lN hrow hb hbs;have hlb:bs.length=len:=(by rw[← e1];simp;omega);refine⟨_,.string ⟨bs.toArray⟩,gk,?_,.str bs⟩;rw[hrow.hsize,Nat.mul_one];rw[run_convert_bytes_arg w src e h1 h2 b off len _ (bs.map fun x=>(x.toNat:Int)) (by simp[hlb]) (fun i hi=>?_) dst h3,j6];have hx':=K6 (show i<bs.length by omega);rw[hcell i _ hx',jK hx']
  ·cases hel;cases hbs;obtain rfl:=hy.nil_inv;exact nilcase none 0 rfl rfl
  ·cases hel;cases hbs;cases hy with
   |ez ad=>exact nilcase (some ad) 0 rfl rfl
  ·exact absurd rfl (hns _)
  ·cases hel
 unfold convK at g;split at g
 ·rename_i p ver;obtain⟨⟨e,m,rows⟩,hg,hp,hne,hk⟩:=ae g;obtain⟨mb,hm,hf⟩:=f.row hg;obtain⟨b,hb,rfl⟩:=hx.hp_now hm hf.hver;rcases hf.lies with⟨h0,_⟩| ⟨b',cur,h1,h2,h3,h4,h5,h6⟩
  ·rw[hb]at h0;cases h0
  ·rw[hb]at h1;cases h1;have hsh:w.shape? b=some (e,cur.size):=(by simp[World.shape?,h2]);have hpos:=hf.pos;have hcp:0<cur.size:=(by rw[h3];exact Nat.mul_pos h4.1 hpos);refine⟨_,_,hk,?_,hx⟩;simp only[Nat.zero_mul,P9];unfold ptrConv at hp;split at hp
   ·rename_i t hs hd;split at hp
    ·rename_i j hj;exact Lib.run_to_unsafe w ⟨b,0,none⟩ hs hd hj (by simpa using hp) hsh hcp
    ·cases hp
   ·rename_i u hs hd;simp only[K5,beq_iff_eq]at hp;obtain⟨⟨hi,hce⟩,hlay⟩:=hp;obtain⟨j,hj⟩:=M8.1 hi;refine Lib.run_from_unsafe w ⟨b,0,none⟩ hs hd hj hsh ?_;have hdep:P.depth=(2*(P.types.size+Made.depth))+1+1:=rfl;have hdiv:cur.size/P.cellsOf e=mb.cap:=(by rw[hce,h3];exact Nat.mul_div_cancel _ hpos);rw[hdiv,hdep];simp only[liesAt,P8];left;rw[hdep];have hn0:P.cellsOf e≠0:=(by omega);rcases P8 _ _▸hlay with hu|hfld
    ·have hu:=eq_of_beq hu;subst hu;simp[rowAt,hn0,sameLayout];left;omega
    ·split at hfld
     ·rename_i fs hfs;simp only[K5,K8,O6]at hfld;obtain⟨⟨hst,hpu⟩,hany⟩:=hfld;obtain⟨f,hf1,hf2⟩:=Array.any_eq_true'.1 hany;simp only[K5,beq_iff_eq]at hf2;have hinner:rowAt P (fun x=>sameLayout P (2*(P.types.size+Made.depth)+1+1) x u) (2*(P.types.size+Made.depth)+1) f.type 1 0 1=true:=by
       have hn1:P.cellsOf f.type≠0:=(by rw[hf2.2];omega);simp[rowAt,hn1,sameLayout,hf2.2];omega
      unfold rowAt;simp only[hn0,K4,not_false_eq_true,ite_false,P8,hfs,Nat.zero_div,Nat.zero_mod];right;simp only[K5,K8,hst,Bool.not_false,true_and];refine⟨h4.1,Array.any_eq_true'.2 ⟨f,hf1,?_⟩⟩;simp only[hf2.1,M0,decide_true,S3,P9,X0,hf2.2,hpu,K5,K8,true_and];rw[← hf2.2];rw[hf2.2]at hinner ⊢;exact hinner
     ·cases hfld
   ·cases hp
 ·exact bytes _ (by simp) hx g
 ·exact bytes _ (by simp) hx g
 ·exact bytes _ (by simp) hx ⟨g.1,g.2⟩
 ·obtain⟨v,hv,hk⟩:=ae g;obtain⟨z,hr,hz⟩:=oN (P:=P) hx hv;exact⟨v,z,hk,hr,hz⟩
theorem nh(f:Fits C B S μ h w){x:AVal}{u:Value}(hx:Rep w S μ x u){k:AVal→Prop}(g:sdataK x h k)(ts:Array TypeId)(ty:TypeId):
  ∃r z,k r∧(Builtin.unsafeSliceData_ ts ty #[u]).run P w=.ok z w∧Rep w S μ r z:=by
 unfold sdataK at g;split at g
 ·rename_i p ver len;obtain⟨hrow,g⟩:=g;obtain⟨⟨e,m,rows⟩,hg⟩:=M8.1 hrow;obtain⟨mb,hm,hf⟩:=f.row hg;rcases hx.hs_now hm hf.hver with⟨hb,_,rfl,rfl⟩| ⟨b,hb,hcap,rfl⟩
  ·rw[K4 (by omega)]at g;exact⟨_,_,g,Lib.run_unsafeSliceData_nil w ts ty 0 0,.pa none⟩
  ·rcases hf.lies with⟨h0,_⟩| ⟨b',cur,h1,h2,h3,h4,h5,h6⟩
   ·rw[hb]at h0;cases h0
   ·have:=Lib.run_unsafeSliceData_row (P:=P) w ts ty ⟨b,0*mb.size,none⟩ len (mb.cap-0) (by omega);split at g
    ·exact⟨_,_,g,this,by simpa using mX (i:=0) (off:=0) hm hf.hver hb⟩
    ·exact⟨_,_,g,this,.pa _⟩
 ·obtain rfl:=hx.nil_inv;exact⟨_,_,g,Lib.run_unsafeSliceData_nil w ts ty 0 0,.pa none⟩
 ·exact g.elim
theorem oQ(w:World)(p:Addr)(k:Nat):Only w (w.freeze p k) (some p.block):=by
 have hb:=Lib.below_freeze (B:=0) (V4 0 w) (p:=p) (W1 _) k;refine⟨hb.os,hb.tape,hb.output,hb.size,fun i _ hi=>?_⟩;have h1:i≠p.block:=fun e=>hi (by rw[e])
 unfold World.freeze;split
 ·rfl
 ·simp[Array.getElem?_modify,Ne.symm h1]
theorem oR(f:Fits C B S μ h w){T T2 ty:TypeId}{x y:AVal}{u v:Value}(hx:Rep w S μ x u)(hy:Rep w S μ y v)(g:ustrK P T x y h K):
  ∃z w',(Builtin.unsafeString_ #[T,T2] ty #[u,v]).run P w=.ok z w'∧OpPost C B S μ w K z w':=by
 unfold ustrK at g;split at g
 case h_2=>exact g.elim
 rename_i m;obtain rfl:=hy.int_inv;split at g
 ·rename_i h0;subst h0;split at g
  ·cases hx with
   |pa ad=>exact⟨_,_,Lib.run_unsafeString_none w T T2 ty ad,OpPost.here f g (.str [])⟩
  ·exact g.elim
 ·split at g
  case h_2=>exact g.elim
  rename_i p ver;obtain⟨⟨e,c,rows⟩,hg,hc,hT,hm0,hml,g⟩:=ae g;simp only at hc hT hml g;subst hc;obtain⟨bs,hbs,hk⟩:=ae g;obtain⟨mb,hm,hf⟩:=f.row hg;obtain⟨b,hb,rfl⟩:=hx.hp_now hm hf.hver;have hbs':bytesA ((rows.drop 0).take m.toNat)=some bs:=by simpa using hbs
  obtain⟨cur,hh,hcs,hcell,hcap,hmax⟩:=lN hf hb hbs';obtain⟨e1,e2⟩:=eA hbs;have hlb:bs.length=m.toNat:=by rw[← e1];simp;omega
  obtain⟨hp,hce⟩:P.underlying T=some (.pointer e)∧P.cellsOf e=1:=by
   unfold bptr at hT;split at hT
   ·rename_i t ht;simp only[K5,beq_iff_eq]at hT;obtain⟨rfl,h2⟩:=hT;exact⟨ht,h2⟩
   ·cases hT
  have hsh:w.shape? b=some (e,cur.size):=by simp[World.shape?,hh]
  have hrun:=Lib.run_unsafeString_row (P:=P) w T T2 ty e hp hce b cur.size hsh bs (by intro e0;rw[e0]at hlb;simp at hlb;omega) (by omega) (by unfold maxLen at hmax;omega) (fun j x hj=>by
   rw[bi];simpa using hcell j x hj)
  have em:(m:Int)=bs.length:=by omega
  have only:Only w (w.freeze ⟨b,0,none⟩ bs.length) mb.blk:=by rw[hb];exact oQ w ⟨b,0,none⟩ _
  have hset:List.set μ p mb=μ:=by
   obtain⟨hlt,he⟩:=f9.1 hm;rw[← he,List.set_getElem_self]
  obtain⟨f',st⟩:=f.update (m':=mb) (k':=.dead) hm only (M0 _) (fun _=>rfl) (.inl rfl) trivial;refine⟨_,_,?_,_,_,S,_,hk,st,f',.str bs⟩;simp only[Nat.zero_mul,P9];rw[em];exact hrun
theorem jL{x y:AVal}{u v:Value}(hx:Rep w S μ x u)(hy:Rep w S μ y v){k:AVal→Prop}(ts:Array TypeId)(ty:TypeId):
  (maxK (fun a b=>decide (b>a)) x y k→∃r z,k r∧(Builtin.max_ ts ty #[u,v]).run P w=.ok z w∧Rep w S μ r z)∧
  (maxK (fun a b=>decide (b<a)) x y k→∃r z,k r∧(Builtin.min_ ts ty #[u,v]).run P w=.ok z w∧Rep w S μ r z):=by
 constructor<;>intro g<;>unfold maxK at g<;>split at g<;>first|exact g.elim|skip
 ·obtain rfl:=hx.int_inv;obtain rfl:=hy.int_inv;exact⟨_,_,g,by simp[Builtin.max_,Builtin.max2],.int _ _⟩
 ·obtain rfl:=hx.int_inv;obtain rfl:=hy.int_inv;exact⟨_,_,g,by simp[Builtin.min_,Builtin.min2],.int _ _⟩
end
section
variable {C:Ctx} {B n:Nat} {S:Addr→Prop} {μ:Map} {h:Heap} {w:World} {P:Program}
theorem ni{d:Nat}{x y:AVal}{u v:Value}(hx:Rep w S μ x u)(hy:Rep w S μ y v)(g:aeq1 d x y=some true):u=v:=by
 unfold aeq1 at g;split at g
 ·obtain rfl:=hx.int_inv;obtain rfl:=hy.int_inv;split at g
  ·rename_i hk;subst hk;simp at g;subst g;rfl
  ·cases g
 ·obtain rfl:=hx.bool_inv;obtain rfl:=hy.bool_inv;simp at g;subst g;rfl
 ·obtain rfl:=hx.str_inv;obtain rfl:=hy.str_inv;simp at g;subst g;rfl
 ·cases g
theorem nj:∀{ds:List Nat} {xs ys:List AVal} {us vs:List Value},us.length=xs.length→vs.length=ys.length→(∀(i:Nat) (c:AVal),xs[i]? =some c→Rep w S μ c (us.getD i undef))→(∀(i:Nat) (c:AVal),ys[i]? =some c→Rep w S μ c (vs.getD i undef))→
  aeqL ds xs ys=some true→us=vs
 | [],[],[],[],[],_,_,_,_,_=>rfl
 |d::ds,x::xs,y::ys,u::us,v::vs,hu,hv,hx,hy,g=>by
  simp only[aeqL]at g;split at g
  ·rename_i q hq;simp only[N3,K5]at g;obtain⟨r,hr,rfl,rfl⟩:=g;have hx0:Rep w S μ x u:=hx 0 x rfl;have hy0:Rep w S μ y v:=hy 0 y rfl;rw[ni hx0 hy0 hq,nj (xs:=xs) (ys:=ys) (us:=us) (vs:=vs) (by simpa using hu) (by simpa using hv) (fun i c hi=>by simpa using hx (i+1) c (by simpa using hi)) (fun i c hi=>by simpa using hy (i+1) c (by simpa using hi)) hr]
  ·cases g
 | [],[],[],_::_,_,hu,_,_,_,_=>by simp at hu
 | [],[],[],[],_::_,_,hv,_,_,_=>by simp at hv
 |_::_,_::_,_::_,[],_,hu,_,_,_,_=>by simp at hu
 |_::_,_::_,_::_,_::_,[],_,hv,_,_,_=>by simp at hv
 | [],_::_,_,_,_,_,_,_,_,g=>by simp[aeqL]at g
 | [],[],_::_,_,_,_,_,_,_,g=>by simp[aeqL]at g
 |_::_,[],_,_,_,_,_,_,_,g=>by simp[aeqL]at g
 |_::_,_::_,[],_,_,_,_,_,_,g=>by simp[aeqL]at g
theorem nk{k:TypeId}{x y:AVal}{u v:Value}(hx:Rep w S μ x u)(hy:Rep w S μ y v)(g:akey P k x y=some true):u=v:=by
 unfold akey at g;split at g
 ·obtain⟨ds,_,g⟩:=Option.bind_eq_some_iff.1 g;cases hx with
  |agg _ us h1 h2 h3=>
   cases hy with
   |agg _ vs k1 k2 k3=>rw[nj h1 k1 h3 k3 g]
 ·exact ni hx hy g
theorem r7{k:TypeId}{x y:AVal}{u v:Value}{q:Bool}(hx:Rep w S μ x u)(hy:Rep w S μ y v)(g:akey P k x y=some q):(Op.equal k u v).run P w=.ok q w:=by
 show(Op.equalIn 10000 k u v).run P w=.ok q w;unfold akey at g;split at g
 ·obtain⟨ds,hd,g⟩:=Option.bind_eq_some_iff.1 g;cases hx with
  |agg _ us h1 h2 h3=>
   cases hy with
   |agg _ vs k1 k2 k3=>exact(fU hd h1 k1 h3 k3 g).1
 ·exact jG hx hy k 9999 g
theorem np{d m:Nat}{x:AVal}{u:Value}(hx:Rep w S μ x u)(g:(aeq1 d x x).isSome=true):Instr.sameBits m u u=true:=by
 unfold aeq1 at g;split at g
 ·obtain rfl:=hx.int_inv;cases m<;>simp[Instr.sameBits]
 ·obtain rfl:=hx.bool_inv;cases m<;>simp[Instr.sameBits]
 ·obtain rfl:=hx.str_inv;cases m<;>simp[Instr.sameBits,ig]
 ·simp at g
theorem lO{m:Nat}:∀{ds:List Nat} {xs:List AVal} {us:List Value},us.length=xs.length→(∀(i:Nat) (c:AVal),xs[i]? =some c→Rep w S μ c (us.getD i undef))→(aeqL ds xs xs).isSome=true→(us.zip us).all (fun p=>Instr.sameBits m p.1 p.2)=true
 |_,_,[],_,_,_=>rfl
 |d::ds,x::xs,u::us,hu,hx,g=>by
  simp only[aeqL]at g;split at g
  ·rename_i q hq;simp only[Option.isSome_map]at g;rw[List.zip_cons_cons,Z0,lO (by simpa using hu) (fun i c hi=>by simpa using hx (i+1) c (by simpa using hi)) g];have hx0:Rep w S μ x u:=hx 0 x rfl;rw[np hx0 (by rw[hq];rfl)];rfl
  ·simp at g
 | [],x::xs,u::us,_,_,g=>by simp[aeqL]at g
 |_,[],u::us,hu,_,_=>by simp at hu
theorem j7{k:TypeId}{x:AVal}{u:Value}(hx:Rep w S μ x u)(g:(akey P k x x).isSome=true):(Instr.keyThatStays u u).run P w=.ok u w:=by
 have:Instr.sameBits 10000 u u=true:=by
  unfold akey at g;split at g
  ·cases hp:plainT P k with
   |none=>rw[hp]at g;simp at g
   |some ds=>
    rw[hp]at g;cases hx with
    |agg _ us h1 h2 h3=>
     have:=lO (m:=9999) h1 h3 g;simp only[Instr.sameBits,X1,BEq.rfl,S3];exact this
  ·exact np hx g
 unfold Instr.keyThatStays;rw[this];rfl
theorem lP{em:Bool}{m:Nat}{T:TypeId}{x:AVal}{u:Value}(hx:Rep w S μ x u)(g:(aeq1 (kindT P T) x x).isSome=true):(Instr.checkKey em (m+1) T u).run P w=.ok () w:=by
 generalize heq:kindT P T=kd at g;unfold aeq1 at g;split at g
 ·obtain rfl:=hx.int_inv;unfold kindT at heq;split at heq<;>first| (cases heq;done)|skip
  rename_i hT;simp[Instr.checkKey,aa hT]
 ·obtain rfl:=hx.bool_inv;unfold kindT at heq;split at heq<;>first| (cases heq;done)|skip
  rename_i hT;simp[Instr.checkKey,aa hT]
 ·obtain rfl:=hx.str_inv;unfold kindT at heq;split at heq<;>first| (cases heq;done)|skip
  rename_i hT;simp[Instr.checkKey,aa hT]
 ·simp at g
theorem ce{em:Bool}{k:TypeId}{x:AVal}{u:Value}(hx:Rep w S μ x u)(g:(akey P k x x).isSome=true):(Instr.checkKey em 10000 k u).run P w=.ok () w:=by
 cases x with
 |agg xs=>
  have g:((plainT P k).bind fun ds=>aeqL ds xs xs).isSome=true:=g;cases hp:plainT P k with
  |none=>rw[hp]at g;simp at g
  |some ds=>
   rw[hp]at g;obtain⟨us,rfl,h1,h2,h3⟩:=hx.agg_inv;unfold plainT at hp;split at hp
   ·rename_i fs hT;split at hp
    ·rename_i hc;cases hp;simp only[K5,O6]at hc;have hall:=hc.2;have g2:(aeqL (fs.toList.map fun f=>kindT P f.type) (xs.drop 0) (xs.drop 0)).isSome=true:=g;clear g hc;rw[show(10000:Nat)=9999+1 from rfl,Instr.checkKey];simp only[M6,aa hT,M2];rw[← Array.forIn_toList];generalize fs.toList=L at hall g2 ⊢;generalize (0:Nat)=i at hall g2;induction L generalizing i with
     |nil=>simp
     |cons f L ih=>
      simp only[List.zipIdx_cons,Z0,K5]at hall;obtain⟨⟨⟨k1,k2⟩,k3⟩,hrest⟩:=hall;simp only[N4]at g2;cases hxs:xs.drop i with
      |nil=>rw[hxs]at g2;simp[aeqL]at g2
      |cons x xr=>
       rw[hxs]at g2;simp only[aeqL]at g2;have ex:xs[i]? =some x:=(by have:=N5 List.head? hxs;simpa [List.head?_drop]using this);have dx:xs.drop (i+1)=xr:=(by rw[← V3,hxs];rfl);split at g2
       ·rename_i q1 hq1;simp only[Option.isSome_map]at g2;have hagg:aggT P f.type=some false:=(by simpa using k3);have hoff:f.offset=i:=(by simpa using k2);have hname:f.name≠ "_" :=(by simpa using k1);have lx:i<us.length:=(by rw[h1];exact(f9.1 ex).1);have px:(part f.type us.toArray f.offset).run P w=.ok us[i] w:=(by simp[part,M6,bR hagg,hoff,lx]);have rx:=h3 i x ex;simp only[List.getD,K6 lx,Q0]at rx;have he:=lP (P:=P) (em:=em) (m:=9998) rx (by rw[hq1];rfl);simp only[List.forIn_cons,M6,hname,ne_eq,not_false_eq_true,if_true,M2,px,he,N9];exact ih (i+1) hrest (by rw[dx];exact g2)
       ·simp at g2
    ·cases hp
   ·cases hp
 |_=>exact lP hx g
def Found(P:Program)(k:TypeId)(x:AVal)(es:List (AVal×AVal×Nat))(xs:List MapEntry)(i:Nat)(r:Option Nat)(q:Option (Nat×Value)):Prop:=
 (r=none∧q=none)∨∃j e y,r=some (i+j)∧es[j]? =some e∧xs[j]? =some y∧q=some (i+j,y.val)∧akey P k x e.1=some true
theorem Found.up{k:TypeId}{x:AVal}{e:AVal×AVal×Nat}{y:MapEntry}{es:List (AVal×AVal×Nat)}{xs:List MapEntry}{i:Nat}{r:Option Nat}{q:Option (Nat×Value)}(f:Found P k x es xs (i+1) r q):Found P k x (e::es) (y::xs) i r q:=by
 rcases f with h| ⟨j,e',y',h1,h2,h3,h4,h5⟩
 ·exact .inl h
 ·exact .inr ⟨j+1,e',y',by rw[h1];congr 1;omega,by simpa using h2,by simpa using h3,by rw[h4];congr 2;omega,h5⟩
theorem va{k:TypeId}{d:TypeDesc}(hd:P.underlying k=some d)(hk:kindT P k<3){x y:AVal}{u v:Value}{q:Bool}(hx:Rep w S μ x u)(hy:Rep w S μ y v)(g:akey P k x y=some q):Instr.sameNow d u v=some q:=by
 have g1:aeq1 (kindT P k) x y=some q:=by
  unfold akey at g;split at g
  ·obtain⟨ds,hp,_⟩:=Option.bind_eq_some_iff.1 g;unfold plainT at hp;unfold kindT at hk;split at hp
   ·rename_i fs hT;rw[hT]at hk;simp at hk
   ·cases hp
  ·exact g
 generalize heq:kindT P k=kd at g1 hk;unfold aeq1 at g1;split at g1
 ·obtain rfl:=hx.int_inv;obtain rfl:=hy.int_inv;unfold kindT at heq;split at heq<;>first| (cases heq;done)|skip
  rename_i hT;rw[hd]at hT;cases hT;exact g1
 ·obtain rfl:=hx.bool_inv;obtain rfl:=hy.bool_inv;unfold kindT at heq;split at heq<;>first| (cases heq;done)|skip
  rename_i hT;rw[hd]at hT;cases hT;exact g1
 ·obtain rfl:=hx.str_inv;obtain rfl:=hy.str_inv;unfold kindT at heq;split at heq<;>first| (cases heq;done)|skip
  rename_i hT;rw[hd]at hT;cases hT;simp only[Instr.sameNow,ig];exact g1
 ·cases g1
theorem vb{k:TypeId}{d:TypeDesc}(hd:P.underlying k=some d)(hk:kindT P k<3){x:AVal}{u:Value}(hx:Rep w S μ x u){es:List (AVal×AVal×Nat)}{xs:List MapEntry}(E:EntL w S μ es xs):
  ∀(i:Nat) (r:Option Nat),findA P k x es i=some r→∃q,Instr.findNow d u xs i=some q∧Found P k x es xs i r q:=by
 induction E with
 |nil=>intro i r g;simp only[findA,N2]at g;subst g;exact⟨none,rfl,.inl ⟨rfl,rfl⟩⟩
 | @cons e y es xs hr E ih=>
  intro i r g;rw[findA]at g;cases hq:akey P k x e.1 with
  |none=>rw[hq]at g;cases g
  |some q=>
   rw[hq]at g;have hs:=va hd hk hx hr.1 hq;cases q with
   |true=>
    simp only[N2]at g;subst g;exact⟨some (i,y.val),by simp only[Instr.findNow,hs],.inr ⟨0,e,y,rfl,rfl,rfl,rfl,hq⟩⟩
   |false=>
    obtain⟨q,h1,h2⟩:=ih (i+1) r g;exact⟨q,by simp only[Instr.findNow,hs];exact h1,h2.up⟩
theorem oS{k:TypeId}{x:AVal}{u:Value}(hx:Rep w S μ x u){es:List (AVal×AVal×Nat)}{xs:List MapEntry}(E:EntL w S μ es xs):
  ∀(i:Nat) (r:Option Nat),findA P k x es i=some r→∃q,(Instr.findAsking k u xs i).run P w=.ok q w∧Found P k x es xs i r q:=by
 induction E with
 |nil=>intro i r g;simp only[findA,N2]at g;subst g;exact⟨none,rfl,.inl ⟨rfl,rfl⟩⟩
 | @cons e y es xs hr E ih=>
  intro i r g;rw[findA]at g;cases hq:akey P k x e.1 with
  |none=>rw[hq]at g;cases g
  |some q=>
   rw[hq]at g;have hs:=r7 hx hr.1 hq;cases q with
   |true=>
    simp only[N2]at g;subst g;exact⟨some (i,y.val),by simp[Instr.findAsking,hs],.inr ⟨0,e,y,rfl,rfl,rfl,rfl,hq⟩⟩
   |false=>
    obtain⟨q,h1,h2⟩:=ih (i+1) r g;exact⟨q,by simp[Instr.findAsking,hs,h1],h2.up⟩
theorem vc{fs:Array Field}{u:Value}{xs:List MapEntry}(hne:xs≠ [])(i:Nat):Instr.findNow (.struct fs) u xs i=none:=by
 cases xs with
 |nil=>exact absurd rfl hne
 |cons y xs=>simp[Instr.findNow,Instr.sameNow]
theorem dw{k:TypeId}{x:AVal}{u:Value}(hK:keyA P k x=true)(hx:Rep w S μ x u){es:List (AVal×AVal×Nat)}{xs:List MapEntry}(E:EntL w S μ es xs){r:Option Nat}(g:findA P k x es 0=some r):
  ∃q,(Instr.findKey k u xs).run P w=.ok q w∧Found P k x es xs 0 r q:=by
 unfold keyA keyT at hK;simp only[K5,P8,K8]at hK;obtain⟨hk,_⟩:=hK;by_cases hk3:kindT P k<3
 ·have hd:∃d,P.underlying k=some d:=by
   cases hu:P.underlying k with
   |none=>unfold kindT at hk3;rw[hu]at hk3;simp at hk3
   |some d=>exact⟨d,rfl⟩
  obtain⟨d,hd⟩:=hd;obtain⟨q,h1,h2⟩:=vb hd hk3 hx E 0 r g;exact⟨q,by simp[Instr.findKey,aa hd,h1],h2⟩
 ·have hp:(plainT P k).isSome=true:=by
   rcases hk with hk|hk
   ·exact absurd hk hk3
   ·cases hp:plainT P k with
    |none=>rw[hp]at hk;cases hk
    |some ds=>rfl
  unfold plainT at hp;split at hp
  ·rename_i fs hT;by_cases hne:xs=[]
   ·subst hne;cases E;simp only[findA,N2]at g;subst g;exact⟨none,by simp[Instr.findKey,aa hT,Instr.findNow],.inl ⟨rfl,rfl⟩⟩
   ·obtain⟨q,h1,h2⟩:=oS hx E 0 r g;exact⟨q,by simp[Instr.findKey,aa hT,vc hne,h1],h2⟩
  ·simp at hp
theorem bQ{k:TypeId}{x:AVal}(hK:keyA P k x=true):(akey P k x x).isSome=true:=by
 unfold keyA at hK;simp only[K5]at hK;exact hK.2
theorem EntL.fits{m:MB}{b:Nat}{es:List (AVal×AVal×Nat)}{cur:Array MapEntry}{c:Nat}(hv:m.ver=0)(hb:m.blk=some b)(hh:w.heap[b]? =some (.map cur c))(E:EntL w S μ es cur.toList):BlkFits w S μ m (.mp es c):=
 ⟨hv,b,cur,hb,hh,by have:=E.len;simpa using this,fun i e he=>by obtain⟨x,hx,r⟩:=E.get i e he;exact⟨x,by simpa using hx,r⟩⟩
theorem dH(f:Fits C B S μ h w){p:Nat}{m:MB}{b c c':Nat}{cur cur':Array MapEntry}{es':List (AVal×AVal×Nat)}(hm:μ[p]? =some m)(hv:m.ver=0)(hb:m.blk=some b)(hheap:w.heap[b]? =some (.map cur c))(E:EntL w S μ es' cur'.toList):
  (setObj b (.map cur' c')).run P w=.ok () {w with heap:=w.heap.setIfInBounds b (.map cur' c')}∧Fits C B S (μ.set p m) (h.set p (.mp es' c')) {w with heap:=w.heap.setIfInBounds b (.map cur' c')}∧
   Step B S μ w S (μ.set p m) {w with heap:=w.heap.setIfInBounds b (.map cur' c')}:=by
 have hbl:b<w.heap.size:=(f.own p m b hm hb).2.1;have only:Only w {w with heap:=w.heap.setIfInBounds b (.map cur' c')} m.blk:=⟨rfl,rfl,rfl,by simp,fun k hk hne=>by
  have:b≠k:=fun e=>hne (by rw[hb,e])
  simp[U7 this]⟩
 have st:=bP f hm only (bq hm (M0 _) (fun _=>rfl));obtain⟨f',st'⟩:=f.update (k':=.mp es' c') hm only (M0 _) (fun _=>rfl) (.inl rfl) (EntL.fits hv hb (by simp[hbl]) (E.mono st));exact⟨by simp[setObj,Sem.run,hheap],f',st'⟩
theorem jM(f:Fits C B S μ h w){T kt et:TypeId}(hT:mapT P T=some (kt,et)){x v:AVal}{u vv mv:Value}(hK:keyA P kt x=true)(hx:Rep w S μ x u)(hv:Rep w S μ v vv){p:Nat}(hp:Rep w S μ (.hm p) mv){es:List (AVal×AVal×Nat)}{c:Nat}(g:mapAt h p=some (es,c)){r:Option Nat}(hf:findA P kt x es 0=some r):
  ∃w' μ',(Instr.mapUpdate T mv u vv).run P w=.ok () w'∧Fits C B S μ' (h.set p (putM es c x (softA v) r)) w'∧Step B S μ w S μ' w':=by
 obtain⟨m,b,cur,hm,hv0,hb,rfl,hheap,E⟩:=bj f hp g;replace hv:=hv.soft;generalize softA v=v at*;obtain⟨q,hq,hF⟩:=dw (w:=w) hK hx E hf;have hc:=ce (P:=P) (em:=false) hx (bQ hK);have hget:(getObj b).run P w=.ok (.map cur c) w:=by simp[getObj,Sem.run,hheap]
 rcases hF with⟨rfl,rfl⟩| ⟨j,e,y,rfl,h2,h3,rfl,h5⟩
 ·obtain⟨h1,f',st⟩:=dH (P:=P) f (c':=c+1) (cur':=cur.push {key:=u,val:=vv,born:=c}) (es':=es++[(x,v,c)]) hm hv0 hb hheap (by rw[Array.toList_push];exact E.app (.cons ⟨hx,hv,rfl⟩ .nil));refine⟨_,_,?_,f',st⟩;simp only[Instr.mapUpdate,M6,aa (aR hT),M2,hget,hc,hq,h1]
 ·rw[P9]at*;obtain⟨y',hy',hr⟩:=E.get j e h2;rw[h3]at hy';cases hy';have hk:u=y.key:=nk hx hr.1 h5;have hst:=j7 (P:=P) hx (bQ hK);obtain⟨h1,f',st⟩:=dH (P:=P) f (c':=c) (cur':=cur.modify j fun e=> {e with key:=u,val:=vv}) (es':=es.modify j fun e=>(x,v,e.2.2)) hm hv0 hb hheap (by rw[Array.toList_modify];exact E.modify (f:=fun e=>(x,v,e.2.2)) (fx:=fun e=> {e with key:=u,val:=vv}) (fun e z hz=>⟨hx,hv,hz.2.2⟩) j);refine⟨_,_,?_,f',st⟩;have hy2:cur[j]? =some y:=by simpa using h3
  simp only[Instr.mapUpdate,M6,aa (aR hT),M2,hget,hc,hq,hy2,Q3,Q0, ← hk,hst,h1]
theorem kY{T:TypeId}{z:AVal}(g:zroT P T=some z)(hs:z.cells.all AVal.sto=true)(w:World)(S:Addr→Prop)(μ:Map):∃v,(zeroValue T).run P w=.ok v w∧Rep w S μ z v:=by
 obtain⟨v,hv,hr,rfl⟩:=jn g w S μ;exact⟨v,hv,hr (eM hs)⟩
theorem jp{x y:AVal}{u v:Value}(hx:Rep w S μ x u)(hy:Rep w S μ y v):Rep w S μ (.tup [x,y]) (.tuple #[u,v]):=
 .tup _ [u,v] rfl fun i c hi=>by
  match i with
  |0=>simp at hi;subst hi;exact hx
  |1=>simp at hi;subst hi;exact hy
  |i+2=>simp at hi
theorem oT(f:Fits C B S μ h w){T kt et:TypeId}(hT:mapT P T=some (kt,et)){z:AVal}(hz:zroT P et=some z)(hzs:z.cells.all AVal.sto=true){x:AVal}{u mv:Value}(hK:keyA P kt x=true)(hx:Rep w S μ x u)(ok:Bool){p:Nat}(hp:Rep w S μ (.hm p) mv){es:List (AVal×AVal×Nat)}{c:Nat}(g:mapAt h p=some (es,c)){r:Option Nat}(hf:findA P kt x es 0=some r):
  ∃v,(Instr.lookup T mv u ok).run P w=.ok v w∧Rep w S μ (gotA ok (softA z) (r.bind (es[·]?))) v:=by
 obtain⟨m,b,cur,hm,hv0,hb,rfl,hheap,E⟩:=bj f hp g;obtain⟨q,hq,hF⟩:=dw (w:=w) hK hx E hf;have hc:=ce (P:=P) (em:=cur.isEmpty) hx (bQ hK);have hget:(getObj b).run P w=.ok (.map cur c) w:=by simp[getObj,Sem.run,hheap]
 obtain⟨zv,hzv,hzr⟩:=kY hz hzs w S μ;replace hzr:=hzr.soft;rcases hF with⟨rfl,rfl⟩| ⟨j,e,y,rfl,h2,h3,rfl,h5⟩
 ·refine⟨if ok then .tuple #[zv,.bool false]else zv,?_,?_⟩
  ·simp only[Instr.lookup,M6,aa (aR hT),M2,hget,hc,hq,hzv,N9]
  ·cases ok
   ·exact hzr
   ·exact jp hzr (.bool _)
 ·rw[P9]at*;obtain⟨y',hy',hr⟩:=E.get j e h2;rw[h3]at hy';cases hy';refine⟨if ok then .tuple #[y.val,.bool true]else y.val,?_,?_⟩
  ·simp only[Instr.lookup,M6,aa (aR hT),M2,hget,hc,hq,N9]
  ·rw[Option.bind_some,h2];cases ok
   ·exact hr.2.1
   ·exact jp hr.2.1 (.bool _)
theorem kZ{T kt et:TypeId}(hT:mapT P T=some (kt,et)){z:AVal}(hz:zroT P et=some z)(hzs:z.cells.all AVal.sto=true){x:AVal}{u:Value}(hK:keyA P kt x=true)(hx:Rep w S μ x u)(ok:Bool):
  ∃v,(Instr.lookup T (.map none) u ok).run P w=.ok v w∧Rep w S μ (gotA ok (softA z) none) v:=by
 obtain⟨q,hq,hF⟩:=dw (w:=w) (S:=S) (μ:=μ) hK hx (xs:=[]) .nil rfl;have hc:=ce (P:=P) (em:=true) hx (bQ hK);obtain⟨zv,hzv,hzr⟩:=kY hz hzs w S μ;replace hzr:=hzr.soft;rcases hF with⟨_,rfl⟩| ⟨j,e,y,h1,_⟩
 ·refine⟨if ok then .tuple #[zv,.bool false]else zv,?_,?_⟩
  ·simp only[Instr.lookup,M6,aa (aR hT),M2,N9];show(((Instr.checkKey true 10000 kt u).run P w).andThen _)=_;simp only[hc,M2,M6,hq,hzv,N9]
  ·cases ok
   ·exact hzr
   ·exact jp hzr (.bool _)
 ·cases h1
theorem r8(f:Fits C B S μ h w){T kt et:TypeId}(hT:mapT P T=some (kt,et)){z:AVal}(hz:zroT P et=some z)(hzs:z.cells.all AVal.sto=true){x:AVal}{u mv:Value}(hK:keyA P kt x=true)(hx:Rep w S μ x u){p:Nat}(hp:Rep w S μ (.hm p) mv){es:List (AVal×AVal×Nat)}{c:Nat}(g:mapAt h p=some (es,c)){r:Option Nat}(hf:findA P kt x es 0=some r):
  ∃v w' μ',(Instr.mapEntry T mv u).run P w=.ok v w'∧Fits C B S μ' (h.set p (match r.bind (es[·]?)with|some _=>keyM es c x r|none=>putM es c x z none)) w'∧Step B S μ w S μ' w'∧
   Rep w' S μ' (match r.bind (es[·]?)with|some e=>.tup [e.2.1,.int .i64 e.2.2]|none=>.tup [z,.int .i64 c]) v:=by
 obtain⟨m,b,cur,hm,hv0,hb,rfl,hheap,E⟩:=bj f hp g;obtain⟨q,hq,hF⟩:=dw (w:=w) hK hx E hf;have hc:=ce (P:=P) (em:=false) hx (bQ hK);have hget:(getObj b).run P w=.ok (.map cur c) w:=by simp[getObj,Sem.run,hheap]
 rcases hF with⟨rfl,rfl⟩| ⟨j,e,y,rfl,h2,h3,rfl,h5⟩
 ·obtain⟨zv,hzv,hzr⟩:=kY hz hzs w S μ;obtain⟨h1,f',st⟩:=dH (P:=P) f (c':=c+1) (cur':=cur.push {key:=u,val:=zv,born:=c}) (es':=es++[(x,z,c)]) hm hv0 hb hheap (by rw[Array.toList_push];exact E.app (.cons ⟨hx,hzr,rfl⟩ .nil));refine⟨.tuple #[zv,goInt c],_,_,?_,f',st,jp (hzr.mono st) (.int _ _)⟩;simp only[Instr.mapEntry,M6,aa (aR hT),M2,hget,hc,hq,hzv,h1,N9]
 ·rw[P9]at*;obtain⟨y',hy',hr⟩:=E.get j e h2;rw[h3]at hy';cases hy';have hk:u=y.key:=nk hx hr.1 h5;have hst:=j7 (P:=P) hx (bQ hK);obtain⟨h1,f',st⟩:=dH (P:=P) f (c':=c) (cur':=cur.modify j fun e=> {e with key:=u}) (es':=es.modify j fun e=>(x,e.2.1,e.2.2)) hm hv0 hb hheap (by rw[Array.toList_modify];exact E.modify (f:=fun e=>(x,e.2.1,e.2.2)) (fx:=fun e=> {e with key:=u}) (fun e z hz=>⟨hx,hz.2.1,hz.2.2⟩) j);have hy2:cur[j]? =some y:=by simpa using h3
  rw[Option.bind_some,h2];refine⟨.tuple #[y.val,goInt y.born],_,_,?_,f',st,jp (hr.2.1.mono st) (by rw[hr.2.2];exact .int _ _)⟩;simp only[Instr.mapEntry,M6,aa (aR hT),M2,hget,hc,hq,hy2,Q3,Q0, ← hk,hst,h1,N9]
theorem EntL.findIdx{n:Int}{es:List (AVal×AVal×Nat)}{xs:List MapEntry}(E:EntL w S μ es xs):xs.findIdx? (fun e=>(e.born:Int)==n)=es.findIdx? fun e=>(e.2.2:Int)==n:=by
 induction E with
 |nil=>rfl
 |cons r _ ih=>rw[List.findIdx?_cons,List.findIdx?_cons,ih,r.2.2]
theorem r9(f:Fits C B S μ h w){T:TypeId}{k:IntKind}{n:Int}{v:AVal}{vv mv:Value}(hv:Rep w S μ v vv){p:Nat}(hp:Rep w S μ (.hm p) mv){es:List (AVal×AVal×Nat)}{c:Nat}(g:mapAt h p=some (es,c)){i:Nat}(hi:es.findIdx? (fun e=>(e.2.2:Int)==n)=some i):
  ∃w' μ',(Instr.entryStore T mv (.int k n) vv).run P w=.ok () w'∧Fits C B S μ' (h.set p (.mp (es.modify i fun e=>(e.1,v,e.2.2)) c)) w'∧Step B S μ w S μ' w':=by
 obtain⟨m,b,cur,hm,hv0,hb,rfl,hheap,E⟩:=bj f hp g;have hget:(getObj b).run P w=.ok (.map cur c) w:=by simp[getObj,Sem.run,hheap]
 obtain⟨h1,f',st⟩:=dH (P:=P) f (c':=c) (cur':=cur.modify i fun e=> {e with val:=vv}) (es':=es.modify i fun e=>(e.1,v,e.2.2)) hm hv0 hb hheap (by rw[Array.toList_modify];exact E.modify (f:=fun e=>(e.1,v,e.2.2)) (fx:=fun e=> {e with val:=vv}) (fun e z hz=>⟨hz.1,hv,hz.2.2⟩) i);have hj:cur.findIdx? (fun e=>(e.born:Int)==n)=some i:=by
  have:=E.findIdx (n:=n);rw[hi]at this;obtain⟨l⟩:=cur;rw[List.findIdx?_toArray];exact this
 refine⟨_,_,?_,f',st⟩;simp[Instr.entryStore,M6,hget,M2,asInt,asIntOf,N9,hj,h1]
theorem oU(f:Fits C B S μ h w){T T' kt et ty:TypeId}(hT:mapT P T=some (kt,et)){x:AVal}{u mv:Value}(hK:keyA P kt x=true)(hx:Rep w S μ x u){p:Nat}(hp:Rep w S μ (.hm p) mv){es:List (AVal×AVal×Nat)}{c:Nat}(g:mapAt h p=some (es,c)){r:Option Nat}(hf:findA P kt x es 0=some r):
  ∃w' μ',(Builtin.delete_ #[T,T'] ty #[mv,u]).run P w=.ok (.tuple #[]) w'∧Fits C B S μ' (h.set p (delM es c r)) w'∧Step B S μ w S μ' w':=by
 obtain⟨m,b,cur,hm,hv0,hb,rfl,hheap,E⟩:=bj f hp g;obtain⟨q,hq,hF⟩:=dw (w:=w) hK hx E hf;have hc:=ce (P:=P) (em:=cur.isEmpty) hx (bQ hK);have hget:(getObj b).run P w=.ok (.map cur c) w:=by simp[getObj,Sem.run,hheap]
 rcases hF with⟨rfl,rfl⟩| ⟨j,e,y,rfl,h2,h3,rfl,h5⟩
 ·obtain⟨h1,f',st⟩:=dH (P:=P) f (c':=c) (cur':=cur) (es':=es) hm hv0 hb hheap E;refine⟨_,_,?_,f',st⟩;simp[Builtin.delete_,M6,aa (aR hT),M2,hget,hc,hq,h1,N9]
 ·rw[P9]at*;have hlt:j<cur.size:=by have:=(f9.1 h3).1;simpa using this
  obtain⟨h1,f',st⟩:=dH (P:=P) f (c':=c) (cur':=cur.eraseIdxIfInBounds j) (es':=es.eraseIdx j) hm hv0 hb hheap (by
   have:(cur.eraseIdxIfInBounds j).toList=cur.toList.eraseIdx j:=by simp[Array.eraseIdxIfInBounds,hlt]
   rw[this];exact E.erase j)
  refine⟨_,_,?_,f',st⟩;simp[Builtin.delete_,M6,aa (aR hT),M2,hget,hc,hq,h1,N9]
theorem l5{T T' kt et ty:TypeId}(hT:mapT P T=some (kt,et)){x:AVal}{u:Value}(hK:keyA P kt x=true)(hx:Rep w S μ x u):(Builtin.delete_ #[T,T'] ty #[.map none,u]).run P w=.ok (.tuple #[]) w:=by
 have hc:=ce (P:=P) (em:=true) hx (bQ hK);simp[Builtin.delete_,M6,aa (aR hT),M2,hc,N9]
theorem EntL.back{es:List (AVal×AVal×Nat)}{xs:List MapEntry}(E:EntL w S μ es xs):∀x∈xs,∃e∈es,EntR w S μ e x:=by
 induction E with
 |nil=>intro x hx;simp at hx
 | @cons e y es xs r _ ih=>
  intro x hx;rcases N0.1 hx with rfl|hx
  ·exact⟨e,S9 ..,r⟩
  ·obtain⟨e',he,hr⟩:=ih x hx;exact⟨e',Q1 _ he,hr⟩
theorem EntL.fwd{es:List (AVal×AVal×Nat)}{xs:List MapEntry}(E:EntL w S μ es xs):∀e∈es,∃x∈xs,EntR w S μ e x:=by
 induction E with
 |nil=>intro x hx;simp at hx
 | @cons e y es xs r _ ih=>
  intro x hx;rcases N0.1 hx with rfl|hx
  ·exact⟨y,S9 ..,r⟩
  ·obtain⟨e',he,hr⟩:=ih x hx;exact⟨e',Q1 _ he,hr⟩
theorem EntL.all{last:Nat}{es:List (AVal×AVal×Nat)}{xs:List MapEntry}(E:EntL w S μ es xs):xs.all (fun e=>decide (e.born≥last))=es.all fun e=>decide (last≤e.2.2):=by
 induction E with
 |nil=>rfl
 |cons r _ ih=>rw[Z0,Z0,ih,r.2.2]
theorem ra(f:Fits C B S μ h w){T:TypeId}(hT:(mapT P T).isSome=true){p:Nat}{mv:Value}(hp:Rep w S μ (.hm p) mv){es:List (AVal×AVal×Nat)}{c:Nat}(g:mapAt h p=some (es,c)):
  ∃v w' μ',(Instr.range T mv).run P w=.ok v w'∧Fits C B S μ' (h++[.mit p c [] c]) w'∧Step B S μ w S μ' w'∧Rep w' S μ' (.hp h.length 0 0 0) v:=by
 obtain⟨m,b,cur,hm,hv0,hb,rfl,hheap,E⟩:=bj f hp g;obtain⟨⟨kt,et⟩,hT'⟩:=M8.1 hT;have hget:(getObj b).run P w=.ok (.map cur c) w:=by simp[getObj,Sem.run,hheap]
 have st:=bb f (.mapIter (some b) c #[] c) ⟨some w.heap.size,0,1,0⟩;have hfit:BlkFits (w.alloc (.mapIter (some b) c #[] c)) S (μ++[⟨some w.heap.size,0,1,0⟩]) ⟨some w.heap.size,0,1,0⟩ (.mit p c [] c):=⟨rfl,_,_,rfl,hp.mono st,cw w _⟩
 refine⟨.pointer (some ⟨w.heap.size,0,none⟩),_,_,?_,f.alloc _ ⟨some w.heap.size,0,1,0⟩ _ rfl hfit,st,jH (m:=⟨some w.heap.size,0,1,0⟩) (by rw[← f.len];simp) rfl rfl (by simp)⟩;simp only[Instr.range,M6,aa (aR hT'),M2,hget,N9,run_newObj];rfl
theorem ve(f:Fits C B S μ h w){T:TypeId}(hT:(mapT P T).isSome=true){r:Option Value}(hr:∀v,r=some v→∃k n,v=.int k n):
  ∃v w' μ',(Instr.makeMap T r).run P w=.ok v w'∧Fits C B S μ' (h++[.mp [] 0]) w'∧Step B S μ w S μ' w'∧Rep w' S μ' (.hm h.length) v:=by
 obtain⟨⟨kt,et⟩,hT'⟩:=M8.1 hT;have st:=bb f (.map #[] 0) ⟨some w.heap.size,0,1,0⟩;have hfit:BlkFits (w.alloc (.map #[] 0)) S (μ++[⟨some w.heap.size,0,1,0⟩]) ⟨some w.heap.size,0,1,0⟩ (.mp [] 0):=⟨rfl,_, #[],rfl,cw w _,rfl,fun i e he=>by simp at he⟩
 refine⟨.map (some w.heap.size),_,_,?_,f.alloc _ ⟨some w.heap.size,0,1,0⟩ _ rfl hfit,st,.hm _ ⟨some w.heap.size,0,1,0⟩ _ (by rw[← f.len];simp) (by intro cs e;cases e) rfl fun _=>⟨_,rfl,rfl⟩⟩;cases r with
 |none=>simp only[Instr.makeMap,M6,N9,M2,run_newObj];rfl
 |some v=>
  obtain⟨k,n,rfl⟩:=hr v rfl;simp[Instr.makeMap,M6,aa (aR hT'),M2,asInt,asIntOf,N9,run_newObj]
theorem rb(n:Nat)(hn:0<n)(w:World):∃(j:Nat) (w1:World),j<n∧(w1=w∨w1=w.drew)∧(choose (Question.mapNext n)).run P w=.ok j w1:=by
 by_cases hf:n≤1
 ·exact⟨0,w,by omega,.inl rfl,by simp[choose,Sem.run,Question.forced,hf]⟩
 ·exact⟨_,w.drew,Nat.mod_lt _ (by omega),.inr rfl,by
   simp only[choose,Sem.run,Question.forced,K8,hf,if_false,Question.cut];rfl⟩
theorem tn(f:Fits C B S μ h w){p q:Nat}{v:Value}(hx:Rep w S μ (.hp p 0 0 0) v){since last:Nat}{seen:List Nat}(hh:h[p]? =some (.mit q since seen last)){es:List (AVal×AVal×Nat)}{c:Nat}(g:mapAt h q=some (es,c))
  (ht:(!seen.isEmpty&& !es.isEmpty&&es.all fun e=>decide (last≤e.2.2))=false)(ty:TypeId):
  (∃e∈es,e.2.2 ∉ seen∧∃u w' μ',(Instr.next v false ty).run P w=.ok u w'∧Fits C B S μ' (h.set p (.mit q since (seen++[e.2.2]) c)) w'∧Step B S μ w S μ' w'∧Rep w' S μ' (.tup [.bool true,e.1,e.2.1]) u)∨
  ((∀e∈es,e.2.2 ∉ seen→since≤e.2.2)∧∃u w',(Instr.next v false ty).run P w=.ok u w'∧Fits C B S μ h w'∧Step B S μ w S μ w'∧Rep w' S μ (.tup [.bool false]) u):=by
 have hlt:=(f9.1 hh).1;rw[← f.len]at hlt;have hm:μ[p]? =some μ[p]:=K6 hlt;obtain⟨hv0,b,r,hb,hr,hheap⟩:=f.blk p μ[p] _ hm hh;generalize μ[p]=mb at hm hb hv0;obtain⟨b',hb',rfl⟩:=hx.hp_now hm hv0;rw[hb]at hb';cases hb';obtain⟨m2,b2,cur,hm2,hv2,hb2,hrr,hheap2,E⟩:=bj f hr g;cases hrr;have hz:0*mb.size+0=0:=by simp
 rw[hz];have hl:cur.size=es.length:=by have:=E.len;simpa using this
 have hget:(getObj b).run P w=.ok (.mapIter (some b2) since seen.toArray last) w:=by simp[getObj,Sem.run,hheap]
 have hget2:(getObj b2).run P w=.ok (.map cur c) w:=by simp[getObj,Sem.run,hheap2]
 have htest:(!seen.toArray.isEmpty&& !cur.isEmpty&&cur.all fun e=>decide (e.born≥last))=false:=by
  rw[← ht, ← E.all, ← Array.all_toList];have h1:cur.isEmpty=es.isEmpty:=by
   rw[Array.isEmpty,hl];cases es<;>simp
  rw[h1];simp
 generalize hcs:((if (Array.filter (fun x=>decide (x.born<since)) (Array.filter (fun e=> !seen.toArray.contains e.born) cur)).isEmpty=true then #[none]else #[])++
   (Array.filter (fun x=>decide (x.born<since)) (Array.filter (fun e=> !seen.toArray.contains e.born) cur)++Array.filter (fun x=>decide (x.born≥since)) (Array.filter (fun e=> !seen.toArray.contains e.born) cur)).map some:Array (Option MapEntry))=cs
 have hpos:0<cs.size:=by
  rw[← hcs];split
  ·simp only[Array.size_append,X1,L6];omega
  ·rename_i hne;have:0<(Array.filter (fun x=>decide (x.born<since)) (Array.filter (fun e=> !seen.toArray.contains e.born) cur)).size:=by
    rcases Nat.eq_zero_or_pos (Array.filter (fun x=>decide (x.born<since)) (Array.filter (fun e=> !seen.toArray.contains e.born) cur)).size with h0|h0
    ·exact absurd (by simpa [Array.isEmpty]using h0) hne
    ·exact h0
   simp only[Array.size_append,Array.size_map];omega
 have hmem:∀x∈cs,(x=none→∀e∈es,e.2.2 ∉ seen→since≤e.2.2)∧∀y,x=some y→y∈cur.toList∧y.born ∉ seen:=by
  intro x hx;rw[← hcs,Array.mem_append]at hx;rcases hx with hx|hx
  ·split at hx
   ·rename_i hem;have hxn:x=none:=(by simpa using hx);subst hxn;refine⟨fun _ e he hs=>?_,fun y hy=>by cases hy⟩;obtain⟨y,hy,r1,r2,r3⟩:=E.fwd e he;rcases T3 y.born since with h1|h1
    ·exfalso;have:y∈Array.filter (fun x=>decide (x.born<since)) (Array.filter (fun e=> !seen.toArray.contains e.born) cur):=by
      rw[za4,za4];exact⟨⟨by simpa using hy,by simp[r3];exact hs⟩,by simpa using h1⟩
     rw[Array.isEmpty_iff]at hem;rw[hem]at this;simp at this
    ·omega
   ·simp at hx
  ·refine⟨fun hn=>by subst hn;simp at hx,fun y hy=>?_⟩;subst hy;rw[Array.mem_map]at hx;obtain⟨y',hy',e⟩:=hx;cases e;rw[Array.mem_append,za4,za4]at hy';have key:y∈cur∧(!seen.toArray.contains y.born)=true:=by
    rcases hy' with h1|h1
    ·exact h1.1
    ·exact za4.1 (za4.1 h1).1
   exact⟨by simpa using key.1,by simpa using key.2⟩
 obtain⟨j,w1,hj,hw1,hrun⟩:=rb (P:=P) cs.size hpos w;have hfit:Fits C B S μ h w1∧Step B S μ w S μ w1∧w1.heap=w.heap:=by
  rcases hw1 with rfl|rfl
  ·exact⟨f,Step.refl ..,rfl⟩
  ·exact⟨f.drew.1,f.drew.2,rfl⟩
 obtain⟨f1,st1,hw1h⟩:=hfit;have hcm:=hmem cs[j] (Array.getElem_mem hj);have hcj:cs[j]? =some cs[j]:=O2 hj;generalize cs[j]=cand at hcm hcj;cases cand with
 |none=>
  refine .inr ⟨hcm.1 rfl,.tuple #[.bool false],w1,?_,f1,st1,?_⟩
  ·simp only[Instr.next,M6,hget,M2,hget2,htest,O0,if_false,hcs,hrun,hcj,N9]
  ·refine .tup _ [.bool false] rfl fun i c' hi=>?_
   match i with
   |0=>simp at hi;subst hi;exact .bool _
   |i+1=>simp at hi
 |some y=>
  obtain⟨hy,hys⟩:=hcm.2 y rfl;obtain⟨e,he,r1,r2,r3⟩:=E.back y hy;refine .inl ⟨e,he,by rw[← r3];exact hys,?_⟩;have hbl:b<w1.heap.size:=(f1.own p mb b hm hb).2.1;have hheap1:w1.heap[b]? =some (.mapIter (some b2) since seen.toArray last):=by rw[hw1h];exact hheap
  let o':Obj:=.mapIter (some b2) since (seen.toArray.push y.born) c
  have hset:(setObj b o').run P w1=.ok () {w1 with heap:=w1.heap.setIfInBounds b o'}:=by simp[setObj,Sem.run,hheap1]
  have only:Only w1 {w1 with heap:=w1.heap.setIfInBounds b o'} mb.blk:=⟨rfl,rfl,rfl,by simp,fun k hk hne=>by
   have:b≠k:=fun e=>hne (by rw[hb,e])
   simp[U7 this]⟩
  have st:=bP f1 hm only (bq hm (M0 _) (fun _=>rfl));have hbf:BlkFits {w1 with heap:=w1.heap.setIfInBounds b o'} S (μ.set p mb) mb (.mit q since (seen++[e.2.2]) c):=
   ⟨hv0,b,some b2,hb,(hr.mono st1).mono st,by simp[hbl,o',r3]⟩
  obtain⟨f',st'⟩:=f1.update hm only (M0 _) (fun _=>rfl) (.inl rfl) hbf;refine⟨.tuple #[.bool true,y.key,y.val],_,_,?_,f',st1.trans st',?_⟩
  ·simp only[Instr.next,M6,hget,M2,hget2,htest,O0,if_false,hcs,hrun,hcj];show((setObj b o').run P w1).andThen _=_;rw[hset];rfl
  ·refine .tup _ [.bool true,y.key,y.val] rfl fun i c' hi=>?_
   match i with
   |0=>simp at hi;subst hi;exact .bool _
   |1=>simp at hi;subst hi;exact(r1.mono st1).mono st'
   |2=>simp at hi;subst hi;exact(r2.mono st1).mono st'
   |i+3=>simp at hi
theorem EntL.find{n:Nat}{es:List (AVal×AVal×Nat)}{xs:List MapEntry}(E:EntL w S μ es xs){e:AVal×AVal×Nat}(g:es.find? (fun e=>e.2.2==n)=some e):∃x,xs.find? (fun x=>x.born==n)=some x∧EntR w S μ e x:=by
 induction E with
 |nil=>simp at g
 | @cons d y es xs r _ ih=>
  by_cases hq:d.2.2=n
  ·rw[List.find?_cons_of_pos (by simpa using hq)]at g;cases g;exact⟨y,List.find?_cons_of_pos (by rw[r.2.2];simpa using hq),r⟩
  ·rw[List.find?_cons_of_neg (by simpa using hq)]at g;obtain⟨x,hx,hr⟩:=ih g;exact⟨x,by rw[List.find?_cons_of_neg (by rw[r.2.2];simpa using hq)];exact hx,hr⟩
theorem tq(f:Fits C B S μ h w){p q:Nat}{v:Value}(hx:Rep w S μ (.hp p 0 0 0) v){since last:Nat}{seen:List Nat}(hh:h[p]? =some (.mit q since seen last)){st:Nat}(hs:seen.getLast? =some st){es:List (AVal×AVal×Nat)}(g:mapAt h q=some (es,last)){e:AVal×AVal×Nat}(he:es.find? (fun e=>e.2.2==st)=some e):
  ∃u,(Instr.entry v).run P w=.ok u w∧Rep w S μ (.tup [e.1,e.2.1]) u:=by
 have hlt:=(f9.1 hh).1;rw[← f.len]at hlt;have hm:μ[p]? =some μ[p]:=K6 hlt;obtain⟨hv0,b,r,hb,hr,hheap⟩:=f.blk p μ[p] _ hm hh;generalize μ[p]=mb at hm hb hv0;obtain⟨b',hb',rfl⟩:=hx.hp_now hm hv0;rw[hb]at hb';cases hb';obtain⟨m2,b2,cur,hm2,hv2,hb2,hrr,hheap2,E⟩:=bj f hr g;cases hrr;have hz:0*mb.size+0=0:=by simp
 rw[hz];have hget:(getObj b).run P w=.ok (.mapIter (some b2) since seen.toArray last) w:=by simp[getObj,Sem.run,hheap]
 have hget2:(getObj b2).run P w=.ok (.map cur last) w:=by simp[getObj,Sem.run,hheap2]
 obtain⟨x,hx,r1,r2,r3⟩:=E.find he;have hf:cur.find? (fun x=>x.born==st)=some x:=by rw[← Array.find?_toList];exact hx
 have hbk:seen.toArray.back? =some st:=by simpa using hs
 exact⟨.tuple #[x.key,x.val],by simp[Instr.entry,M6,hget,hget2,hf,hbk,N9],jp r1 r2⟩
end
section
variable {C:Ctx} {B n:Nat} {S:Addr→Prop} {μ:Map} {h:Heap} {w:World} {t:Env} {a:Act} {ds:List Deferred} {K:AVal→Heap→Prop}
theorem OpOk.val{Φ:Value→World→Prop}{P:Program}{s:Sem Next}{z:Value}{w':World}(hr:s.run P w=.ok (.value z) w')(p:Φ z w'):OpOk P Φ (s.run P w):=by rw[hr];exact p
theorem RepL.of_map(rp:∀x,okOpd n x=true→Rep w S μ (aev C.G t x) (a.eval x))(l:List Operand)(ho:∀x∈l,okOpd n x=true):RepL w S μ (l.map (aev C.G t)) (l.map a.eval):=by
 refine⟨by simp,fun i x hi=>?_⟩;simp only[M5,N3]at hi;obtain⟨o,hoi,rfl⟩:=hi;have e:(l.map a.eval).getD i undef=a.eval o:=by simp[List.getD,hoi]
 rw[e];exact rp o (ho o (M3 hoi))
theorem RepL.append{x1 x2:List AVal}{v1 v2:List Value}(r1:RepL w S μ x1 v1)(r2:RepL w S μ x2 v2):RepL w S μ (x1++x2) (v1++v2):=by
 refine⟨by simp[r1.1,r2.1],fun i x hi=>?_⟩;by_cases hlt:i<x1.length
 ·rw[L9 hlt]at hi;have:=r1.2 i x hi;simp only[List.getD]at this ⊢;rw[L9 (by rw[r1.1];exact hlt)];exact this
 ·rw[M1 (by omega)]at hi;have:=r2.2 _ x hi;simp only[List.getD]at this ⊢;rw[M1 (by rw[r1.1];omega),r1.1];exact this
theorem Flat.takeR{rows:List AVal}{cur:List Value}{m:Nat}(fl:Flat w S μ m rows (cur.take (rows.length*m)))(k:Nat)(hk:k≤rows.length):Flat w S μ m (rows.take k) (cur.take (k*m)):=by
 have hlm:k*m≤rows.length*m:=R3 _ hk;refine⟨?_,fun i r hi=>fl.lens i r (aO hi),fun i r j c hi hj=>fl.sto i r j c (aO hi) hj,fun i r j c hi hj=>?_⟩
 ·have:=fl.len;simp only[O3]at this ⊢;rw[Z6 hk];omega
 ·obtain⟨x,hx',hr⟩:=fl.rep i r j c (aO hi) hj;refine⟨x,?_,hr⟩;have hi':=(f9.1 hi).1;simp only[O3]at hi';have hlt:i*m+j<k*m:=du (by omega) (by rw[← fl.lens i r (aO hi)];exact(f9.1 hj).1);rw[N1 hlt];rw[N1 (by omega)]at hx';exact hx'
theorem mN(f:Fits C B S μ h w){T ty:TypeId}{x:AVal}{v:Value}(hx:Rep w S μ x v){K:Heap→Prop}(g:clrK C.P T x h K):
  ∃h' w' μ',(Builtin.clear_ #[T] ty #[v]).run C.P w=.ok (.tuple #[]) w'∧K h'∧Step B S μ w S μ' w'∧Fits C B S μ' h' w':=by
 unfold clrK at g;split at g
 ·rename_i p ver off len room;obtain⟨e,he,g⟩:=ae g;obtain⟨⟨e',m,rows⟩,hrow,hz,hl,h0,hK⟩:=ae g;simp only at hz hl hK;obtain⟨z,hz1,hz2⟩:=N3.1 hz;obtain⟨hzl,hza⟩:=Prod.mk.inj hz2;obtain⟨mb,hm,hf⟩:=f.row hrow;rcases hx.hs_now hm hf.hver with⟨_,_,h1,_⟩| ⟨b,hb,hcap,rfl⟩
  ·omega
  obtain⟨cur,hheap,hcs,hle,hmax,fl⟩:=hf.flat hb;obtain⟨zv,hzv,hzs,hzc⟩:=gH hz1 hza w S μ;have hms:=hf.hsize;have hm0:=hf.pos;have hzm:zv.cells.size=m:=by omega
  have hlt:=(f9.1 hm).1;have hlm:(off+len)*m≤cur.size:=by rw[hcs];exact R3 _ (by omega)
  have hadd:(off+len)*m=off*m+len*m:=R7 ..;obtain⟨news,hnews⟩:∃news,news=(Builtin.zeroCells zv.cells len).toList:=⟨_,rfl⟩;have hnl:news.length=len*m:=by rw[hnews];simp[size_zeroCells,hzm]
  have hn1:∀v∈news,v.oneCell'=true:=by
   intro v hv;rw[hnews]at hv;simp only[Builtin.zeroCells,Array.toList_map,M7]at hv;obtain⟨i,_,rfl⟩:=hv;have hi:i%zv.cells.size<zv.cells.size:=Nat.mod_lt _ (by omega);obtain⟨hs,u,hu,hr⟩:=hzc (i%zv.cells.size) (z.cells[i%zv.cells.size]'(by omega)) (K6 _);rw[getElem!_def,hu];exact hr.oneCell hs
  have hst:=run_storeCells_at (P:=C.P) b (off*m) e' news 0 cur w hheap (by omega) hn1;simp only[U9]at hst;generalize hnew:(cur.toList.take (off*m)++news++cur.toList.drop (off*m+news.length)).toArray=cur' at hst;have hrun:(Builtin.clear_ #[T] ty #[.slice (some ⟨b,off*mb.size,none⟩) len (if room then mb.cap-off else len)]).run C.P w=.ok (.tuple #[]) (w.setRow b cur'):=by
   obtain⟨k,rfl⟩:∃k,len=k+1:=⟨len-1,by omega⟩;rw[hms];simp[Builtin.clear_,aa (aW he),hzv, ← hnews,hst]
  have only:Only w (w.setRow b cur') mb.blk:=⟨rfl,rfl,rfl,by simp,fun k _ hk=>setRow_other w b k _ (fun e=>hk (by rw[hb,e]))⟩
  have st0:=bP f hm only (bq (m':=mb) hm (M0 _) (fun _=>rfl));have fl2:=(fl.takeR off (by omega)).mono st0;have hrf:BlkFits (w.setRow b cur') S (μ.set p mb) mb (.row e' m ver (rows.take off)):=by
   refine dv hm0 hf.hver hms hb (setRow_heap w b cur cur' e' _ hheap) ?_ ⟨hle.1,by rw[O3];omega⟩ hmax fl2 ?_
   ·subst hnew;simp only[X1,K7,O3,O8,Array.length_toList];omega
   ·subst hnew;have e1:(rows.take off).length=off:=(by rw[O3];omega);rw[e1];show List.take _ (_++_++_)=_;rw[P1,List.take_append_of_le_length (by simp;omega),za5,Nat.min_self]
  obtain⟨f',st⟩:=f.update hm only (M0 _) (fun _=>rfl) (.inl rfl) hrf;exact⟨_,_,_,hrun,hK,st,f'⟩
 ·exact g.elim
theorem nq(f:Fits C B S μ h w)(r:REnv n w S μ t a ds){c:Call}{ty:TypeId}(ho:∀x∈c.operands.toList,okOpd n x=true)(g:wpCall C c t h K):
  OpOk C.P (OpPost C B S μ w K) ((do let d ← resolve a.eval c ty;invoke d.target d.args:Sem Next).run C.P w):=by
 have rp:∀x,okOpd n x=true→Rep w S μ (aev C.G t x) (a.eval x):=fun x hx=>gb f r x hx
 obtain⟨callee,⟨args⟩,⟨argTypes⟩⟩:=c;unfold wpCall at g;cases callee with
 |builtin b=>
  cases b<;>simp only at g<;>try exact g.elim
  case len=>
   split at g
   ·rename_i x T;obtain⟨k,hk,hK⟩:=ae g;have hx:=rp x (ho x (by simp[Call.operands]));refine OpOk.val (z:=.int .i64 k) (w':=w) ?_ (OpPost.here f hK (.int _ _));simp only[resolve,M6,N9,M2,invoke,builtin,U0,N4,R1,qY f hx hk]
   ·exact g.elim
  case append=>
   split at g
   ·rename_i x y T T';obtain⟨hT,g⟩:=g;have hx:=rp x (ho x (by simp[Call.operands]));have hy:=rp y (ho y (by simp[Call.operands]));obtain⟨z,w',hr,hp⟩:=kX (ty:=ty) f hT hx hy g;refine OpOk.val (z:=z) (w':=w') ?_ hp;simp only[resolve,M6,N9,M2,invoke,builtin,U0,N4,R1,hr]
   ·exact g.elim
  case max=>
   split at g
   ·rename_i _ x y;have hx:=rp x (ho x (by simp[Call.operands]));have hy:=rp y (ho y (by simp[Call.operands]));obtain⟨r,z,hk,hr,hz⟩:=(jL (P:=C.P) (w:=w) hx hy ⟨argTypes⟩ ty).1 g;refine OpOk.val (z:=z) (w':=w) ?_ (OpPost.here f hk hz);simp only[resolve,M6,N9,M2,invoke,builtin,U0,N4,R1,hr]
   ·exact g.elim
  case min=>
   split at g
   ·rename_i _ x y;have hx:=rp x (ho x (by simp[Call.operands]));have hy:=rp y (ho y (by simp[Call.operands]));obtain⟨r,z,hk,hr,hz⟩:=(jL (P:=C.P) (w:=w) hx hy ⟨argTypes⟩ ty).2 g;refine OpOk.val (z:=z) (w':=w) ?_ (OpPost.here f hk hz);simp only[resolve,M6,N9,M2,invoke,builtin,U0,N4,R1,hr]
   ·exact g.elim
  case unsafeSliceData=>
   split at g
   ·rename_i _ x;have hx:=rp x (ho x (by simp[Call.operands]));obtain⟨r,z,hk,hr,hz⟩:=nh (P:=C.P) f hx g ⟨argTypes⟩ ty;refine OpOk.val (z:=z) (w':=w) ?_ (OpPost.here f hk hz);simp only[resolve,M6,N9,M2,invoke,builtin,U0,N4,R1,hr]
   ·exact g.elim
  case unsafeString=>
   split at g
   ·rename_i x y T T2;have hx:=rp x (ho x (by simp[Call.operands]));have hy:=rp y (ho y (by simp[Call.operands]));obtain⟨z,w',hr,hp⟩:=oR (T2:=T2) (ty:=ty) f hx hy g;refine OpOk.val (z:=z) (w':=w') ?_ hp;simp only[resolve,M6,N9,M2,invoke,builtin,U0,N4,R1,hr]
   ·exact g.elim
  case clear=>
   split at g
   ·rename_i x T;have hx:=rp x (ho x (by simp[Call.operands]));obtain⟨h',w',μ',hrun,hK,st,f'⟩:=mN (ty:=ty) f hx g;refine OpOk.val (z:=.tuple #[]) (w':=w') ?_ ⟨_,_,S,μ',hK,st,f',.tup [] [] rfl (by simp)⟩;simp only[resolve,M6,N9,M2,invoke,builtin,U0,N4,R1,hrun]
   ·exact g.elim
  case delete=>
   split at g
   ·rename_i x k T T2;have hx:=rp x (ho x (by simp[Call.operands]));have hk:=rp k (ho k (by simp[Call.operands]));obtain⟨⟨kt,et⟩,hT,hK,g⟩:=ae g;split at g
    ·rename_i hq;rw[hq]at hx;have hx:=hx.nil_inv;refine OpOk.val (z:=.tuple #[]) (w':=w) ?_ (OpPost.here f g (.tup [] [] rfl (by simp)));simp only[resolve,M6,N9,M2,invoke,builtin,U0,N4,R1,hx,l5 hT hK hk]
    ·rename_i p hq;rw[hq]at hx;obtain⟨⟨es,c⟩,ha,g1⟩:=ae g;obtain⟨r,hr,hK2⟩:=ae g1;obtain⟨w',μ',hrun,f',st⟩:=oU (T':=T2) (ty:=ty) f hT hK hk hx ha hr;refine OpOk.val (z:=.tuple #[]) (w':=w') ?_ ⟨_,_,S,μ',hK2,st,f',.tup [] [] rfl (by simp)⟩;simp only[resolve,M6,N9,M2,invoke,builtin,U0,N4,R1,hrun]
    ·exact g.elim
   ·exact g.elim
 |value fo=>
  simp only[callK]at g;have hf:=rp fo (ho fo (by simp[Call.operands]));split at g
  ·rename_i fid first captured hfe
   rw[hfe]at hf;generalize hv:a.eval fo=v at hf;cases hf with
   |fn _ _ _ xv cv h1 h2 h3 h4=>
    have hargs:=RepL.of_map rp args (fun x hx=>ho x (by simp[Call.operands]at hx ⊢;exact .inr hx));have hall:RepL w S μ (first++args.map (aev C.G t)++captured) (xv++args.map a.eval++cv):=
     (RepL.append ⟨h1,h3⟩ hargs).append ⟨h2,h4⟩
    have hs:=g B S μ w _ f hall;have e:(do let d ← resolve a.eval {callee:=.value fo,args:=⟨args⟩,argTypes:=⟨argTypes⟩} ty;invoke d.target d.args:Sem Next).run C.P w=(callFunc fid (xv++args.map a.eval++cv).toArray).run C.P w:=by
     simp only[resolve,hv,Deferred.ofValue,M6,N9,M2,invoke];congr 2
     simp
    rw[e];exact hs
  ·rename_i l hfe;rw[hfe]at hf;generalize hv:a.eval fo=v at hf;cases hf with
   |fn _ _ _ xv cv h1 h2 h3 h4=>
    have hargs:=RepL.of_map rp args (fun x hx=>ho x (by simp[Call.operands]at hx ⊢;exact .inr hx));obtain rfl:xv=[]:=R2 h1;obtain rfl:cv=[]:=R2 h2;have hs:=g B S μ w _ f hargs;have e:(do let d ← resolve a.eval {callee:=.value fo,args:=⟨args⟩,argTypes:=⟨argTypes⟩} ty;invoke d.target d.args:Sem Next).run C.P w=(Instr.yield l (args.map a.eval).toArray).run C.P w:=by
     simp only[resolve,hv,Deferred.ofValue,M6,N9,M2,invoke];congr 2
     simp
    rw[e];exact hs
  ·exact g.elim
 |invoke rv m=>exact g.elim
theorem re(o:Oper)(ho:∀x∈o.op.operands.toList,okOpd n x=true)(f:Fits C B S μ h w)(r:REnv n w S μ t a ds)(g:wpOp C o.op t h K):
  OpOk C.P (OpPost C B S μ w K) ((execOp a.eval o).run C.P w):=by
 have rp:∀x,okOpd n x=true→Rep w S μ (aev C.G t x) (a.eval x):=fun x hx=>gb f r x hx
 obtain⟨dst,op,ty,pos,after,guard⟩:=o;simp only at ho g;cases op with
 |move x=>exact OpOk.val (by simp only[execOp,N9]) (OpPost.here f g (rp x (ho x (by simp[Op.operands]))))
 |assign x=>exact OpOk.val (by simp only[execOp,N9]) (OpPost.here f g (rp x (ho x (by simp[Op.operands]))))
 |pick c x y=>
  simp only[wpOp]at g;have hc:=rp c (ho c (by simp[Op.operands]));split at g
  ·rename_i q hq;rw[hq]at hc;have hc:=hc.bool_inv;cases q with
   |true=>exact OpOk.val (z:=a.eval x) (w':=w) (by simp[execOp,hc,asBool]) (OpPost.here f (g.1 rfl) (rp x (ho x (by simp[Op.operands]))))
   |false=>exact OpOk.val (z:=a.eval y) (w':=w) (by simp[execOp,hc,asBool]) (OpPost.here f (g.2 rfl) (rp y (ho y (by simp[Op.operands]))))
  ·exact g.elim
 |alloc e=>
  simp only[wpOp]at g;obtain⟨z,hz,h0,hs,hl,hK⟩:=ae g;obtain⟨v,hv,hr,rfl⟩:=jn hz w S μ;refine OpOk.val (aV (z:=.pointer (some ⟨w.heap.size,0,none⟩)) (w':=w.alloc (.cells v.cells e)) ?_) (pY f (hr (eM hs)) h0 hl hK);simp only[Instr.alloc,M6,hv,M2,newVar,newRow,run_newObj,N9];rfl
 |box e x=>
  simp only[wpOp]at g;obtain⟨h0,hl,hK⟩:=g;have hx:=rp x (ho x (by simp[Op.operands]));refine OpOk.val (aV (z:=.pointer (some ⟨w.heap.size,0,none⟩)) (w':=w.alloc (.cells (a.eval x).cells e)) ?_) (pY f hx h0 hl hK);simp only[Instr.box,M6,M2,newVar,newRow,run_newObj,N9];rfl
 |build T parts=>
  obtain⟨z,hr,hp⟩:=oO f r (fun q hq=>ho q.2 (by simp[Op.operands];exact⟨q.1,by simpa using hq⟩)) g;exact OpOk.val (aV hr) hp
 |buildSlice T len parts=>
  obtain⟨z,w',hr,hp⟩:=jo f r (fun q hq=>ho q.2 (by simp[Op.operands];exact⟨q.1,by simpa using hq⟩)) g;exact OpOk.val (aV hr) hp
 |load T x=>
  simp only[wpOp]at g;have hx:=rp x (ho x (by simp[Op.operands]));split at g
  ·rename_i cs hq;rw[hq]at hx;obtain⟨v,hv,hK⟩:=ae g;obtain⟨u,hu,hz⟩:=q9 hx hv;exact OpOk.val (aV hu) (OpPost.here f hK hz)
  ·rename_i p ver i off hq;rw[hq]at hx;obtain⟨⟨e,m,rows⟩,hg,g1⟩:=ae g;obtain⟨row,hrow,g2⟩:=ae g1;obtain⟨v,hv,hK⟩:=ae g2;obtain⟨u,hu,hz⟩:=pZ f hx hg hrow hv;exact OpOk.val (aV hu) (OpPost.here f hK hz)
  ·exact g.elim
 |store T x y=>
  simp only[wpOp]at g;have hx:=rp x (ho x (by simp[Op.operands]));have hy:=rp y (ho y (by simp[Op.operands]));split at g
  ·rename_i p ver i off hq;rw[hq]at hx;obtain⟨⟨e,m,rows⟩,hg,g1⟩:=ae g;obtain⟨row,hrow,h1,h2,h3,hK⟩:=ae g1;obtain⟨w',hr,hp⟩:=v8 f hx hy hg hrow h1 h2 h3 hK;have e:(execOp a.eval {dst,op:=.store T x y,type:=ty,pos,after,guard}).run C.P w=.ok .skip w':=qZ hr;rw[e];exact hp
  ·exact g.elim
 |nilCheck x=>
  simp only[wpOp]at g;have hx:=rp x (ho x (by simp[Op.operands]));generalize hv:a.eval x=v at hx;split at g
  ·rename_i p ver i off hq;rw[hq]at hx;obtain⟨⟨⟨e,m,rows⟩,hg⟩,hK⟩:=And.imp_left M8.1 g;obtain⟨mb,hm,hf⟩:=f.row hg;obtain⟨b,hb,rfl⟩:=hx.hp_now hm hf.hver;exact OpOk.val (by simp only[execOp,hv,N9]) (OpPost.here f hK hx)
  ·rename_i cs hq;rw[hq]at hx;obtain⟨b,o,rfl⟩:∃b o,v=.pointer (some ⟨b,o,none⟩):=by cases hx;exact⟨_,_,rfl⟩
   exact OpOk.val (by simp only[execOp,hv,N9]) (OpPost.here f g hx)
  ·rename_i fid b c hq;rw[hq]at hx;obtain⟨xv,cv,rfl⟩:∃xv cv,v=.func (.func fid) xv cv:=by cases hx;exact⟨_,_,rfl⟩
   exact OpOk.val (by simp only[execOp,hv,N9]) (OpPost.here f g hx)
  ·rename_i T y hq;rw[hq]at hx;obtain⟨u,rfl⟩:∃u,v=.iface T u:=by cases hx;exact⟨_,rfl⟩
   exact OpOk.val (by simp only[execOp,hv,N9]) (OpPost.here f g hx)
  ·exact g.elim
 |binOp bop T x y T'=>
  simp only[wpOp]at g;obtain⟨v,z,hK,hr,hz⟩:=qW (xo:=x) (yo:=y) f (rp x (ho x (by simp[Op.operands]))) (rp y (ho y (by simp[Op.operands]))) g;exact OpOk.val (aV hr) (OpPost.here f hK hz)
 |unOp uop T x=>
  simp only[wpOp]at g;obtain⟨v,hv,hK⟩:=ae g;obtain⟨z,hr,hz⟩:=tf (P:=C.P) (rp x (ho x (by simp[Op.operands]))) hv;exact OpOk.val (aV hr) (OpPost.here f hK hz)
 |convert src dst' x=>
  simp only[wpOp]at g;obtain⟨v,z,hK,hr,hz⟩:=oP f (rp x (ho x (by simp[Op.operands]))) g;exact OpOk.val (aV hr) (OpPost.here f hK hz)
 |makeInterface T x=>
  simp only[wpOp]at g;obtain⟨hT,hK⟩:=g;unfold ifcT at hT;cases hd:C.P.underlying T with
  |none=>simp[hd]at hT
  |some d=>
   refine OpOk.val (aV (z:=.iface T (a.eval x)) (w':=w) ?_) (OpPost.here f hK (.ifc _ _ _ (rp x (ho x (by simp[Op.operands])))));simp only[Instr.makeInterface,M6,aa hd,M2];cases d<;>first|rfl|simp[hd]at hT
 |makeFunc fn first captured=>
  simp only[wpOp]at g;refine OpOk.val (aV (z:=.func fn (first.map a.eval) (captured.map a.eval)) (w':=w) rfl) (OpPost.here f g ?_);have h1:=RepL.of_map rp first.toList (fun x hx=>ho x (by simp[Op.operands]at hx ⊢;exact .inl hx))
  have h2:=RepL.of_map rp captured.toList (fun x hx=>ho x (by simp[Op.operands]at hx ⊢;exact .inr hx));have:=Rep.fn (w:=w) (S:=S) (μ:=μ) fn _ _ _ _ h1.1 h2.1 h1.2 h2.2;obtain⟨l1⟩:=first;obtain⟨l2⟩:=captured
  simpa using this
 |slice T x lo hi mx=>
  simp only[wpOp]at g;obtain⟨v,hv,hK⟩:=ae g;have ro:∀q:Option Operand,(∀x∈q.toArray.toList,okOpd n x=true)→RepO w S μ (q.map (aev C.G t)) (q.map a.eval):=by
   intro q hq;cases q with
   |none=>trivial
   |some x=>exact rp x (hq x (by simp))
  obtain⟨z,hr,hz⟩:=ng f (rp x (ho x (by simp[Op.operands]))) (ro lo fun x hx=>ho x (by simp[Op.operands]at hx ⊢;exact .inr (.inl hx)))
   (ro hi fun x hx=>ho x (by simp[Op.operands]at hx ⊢;exact .inr (.inr (.inl hx)))) (ro mx fun x hx=>ho x (by simp[Op.operands]at hx ⊢;exact .inr (.inr (.inr hx)))) hv
  exact OpOk.val (aV hr) (OpPost.here f hK hz)
 |fieldAddr T x fi=>
  simp only[wpOp]at g;obtain⟨⟨o,fT,k⟩,hf,hk,g1⟩:=ae g;have hx:=rp x (ho x (by simp[Op.operands]));split at g1
  ·rename_i p ver i off hq;rw[hq]at hx;obtain⟨u,hu,hz⟩:=fI f hf hk hx (.inl ⟨_,_,_,_,rfl,g1.1,rfl⟩);exact OpOk.val (aV hu) (OpPost.here f g1.2 hz)
  ·rename_i cs hq;rw[hq]at hx;obtain⟨u,hu,hz⟩:=fI f hf hk hx (.inr ⟨_,rfl,g1.1,rfl⟩);exact OpOk.val (aV hu) (OpPost.here f g1.2 hz)
  ·exact g1.elim
 |field T x fi=>
  simp only[wpOp]at g;obtain⟨⟨o,fT,k⟩,hf,g1⟩:=ae g;have hx:=rp x (ho x (by simp[Op.operands]));split at g1
  ·rename_i cs hq;rw[hq]at hx;obtain⟨v,hv,hK⟩:=ae g1;obtain⟨vs,he,hl,hs,hr⟩:=hx.agg_inv;obtain⟨fs,fd,hT,hfd,rfl,rfl,hsz⟩:=lM hf;obtain⟨u,hu,hz⟩:=i5 (P:=C.P) (w:=w) (S:=S) (μ:=μ) hv hl hs hr;refine OpOk.val (aV (z:=u) (w':=w) ?_) (OpPost.here f hK hz);simp only[Instr.field,M6,aa hT,M2,hfd,he,asAgg,N9,hu]
  ·exact g1.elim
 |indexAddr T x i=>
  simp only[wpOp]at g;have hx:=rp x (ho x (by simp[Op.operands]));have hi:=rp i (ho i (by simp[Op.operands]));split at g
  ·rename_i ik j hq;rw[hq]at hi;have hi:=hi.int_inv;split at g
   ·rename_i m es hq2;rw[hq2]at hx;obtain⟨e,he,hs,h0,hm,g1⟩:=ae g;obtain⟨row,hrow,hK⟩:=ae g1;obtain⟨b,o,cap,hv,hz⟩:=AX hx hm hrow;have hlt:=(f9.1 hrow).1;refine OpOk.val (aV (w':=w) ?_) (OpPost.here f hK hz);rw[hv,hi];exact eP (aW he) hs h0 (by omega)
   ·rename_i p ver off len room hq2;rw[hq2]at hx;obtain⟨e,he,g1⟩:=ae g;obtain⟨⟨e',m,rows⟩,hg,hs,h0,h1,hK⟩:=ae g1;obtain⟨mb,hm,hf⟩:=f.row hg;rcases hx.hs_now hm hf.hver with⟨_,_,hl,_⟩| ⟨b,hb,hcap,hv⟩
    ·omega
    ·refine OpOk.val (aV (w':=w) (z:=.pointer (some ⟨b,(off+j.toNat)*mb.size+0,none⟩)) ?_) (OpPost.here f hK (mX hm hf.hver hb));rw[hv,hi,eP (aW he) hs h0 h1,hf.hsize,R7];rfl
   ·rename_i p ver jj off hq2;rw[hq2]at hx;obtain⟨⟨k,e⟩,he,g1⟩:=ae g;obtain⟨m,hs,hg,h0,h1,hK⟩:=ae g1;obtain⟨⟨e',m',rows⟩,hg⟩:=M8.1 hg;obtain⟨mb,hm,hf⟩:=f.row hg;obtain⟨b,hb,hv⟩:=hx.hp_now hm hf.hver;refine OpOk.val (aV (w':=w) ?_) (OpPost.here f hK (jH hm hf.hver hb (q:=jj*mb.size+off+j.toNat*m) (by omega)));rw[hv,hi];exact eQ (fH he) hs h0 h1
   ·rename_i cs hq2;rw[hq2]at hx;obtain⟨⟨k,e⟩,he,g1⟩:=ae g;obtain⟨m,hs,h0,h1,h2,hK⟩:=ae g1;obtain⟨b,o,hv,hz⟩:=hx.ad_drop h2;refine OpOk.val (aV (w':=w) ?_) (OpPost.here f hK hz);rw[hv,hi];exact eQ (fH he) hs h0 h1
   ·exact g.elim
  ·exact g.elim
 |index T x i=>
  simp only[wpOp]at g;have hx:=rp x (ho x (by simp[Op.operands]));have hi:=rp i (ho i (by simp[Op.operands]));split at g
  ·rename_i ik j hq;rw[hq]at hi;have hi:=hi.int_inv;split at g
   ·rename_i s hq2;rw[hq2]at hx;have hx:=hx.str_inv;obtain⟨hT,h0,g1⟩:=g;obtain⟨b,hb,hK⟩:=ae g1;refine OpOk.val (aV (z:=.int .u8 b.toNat) (w':=w) ?_) (OpPost.here f hK (.int _ _));have hbs:(⟨s.toArray⟩:ByteArray)[j.toNat]? =some b:=by
     have hlt:=(f9.1 hb).1;have hsz:(⟨s.toArray⟩:ByteArray).size=s.length:=(by simp[ByteArray.size]);rw[getElem?_pos _ _ (by rw[hsz];exact hlt)];have:=(f9.1 hb).2;rw[← this];rfl
    rw[hx,hi];simp only[Instr.index,asIntOf,M6,N9,M2,aa (er hT),L7 h0,hbs]
   ·rename_i cs hq2;rw[hq2]at hx;obtain⟨⟨k,e⟩,he,g1⟩:=ae g;obtain⟨m,hs,h0,h1,g2⟩:=ae g1;obtain⟨v,hv,hK⟩:=ae g2;obtain⟨vs,hve,hl,hst,hr⟩:=hx.agg_inv;obtain⟨u,hu,hz⟩:=i5 (P:=C.P) (w:=w) (S:=S) (μ:=μ) hv hl hst hr;refine OpOk.val (aV (z:=u) (w':=w) ?_) (OpPost.here f hK hz);rw[hve,hi];simp only[Instr.index,asIntOf,M6,N9,M2,aa (fH he),L7 (show(0:Int)≤j∧j<k from⟨h0,h1⟩),aE hs,hu]
   ·exact g.elim
  ·exact g.elim
 |extract x i=>
  simp only[wpOp]at g;have hx:=rp x (ho x (by simp[Op.operands]));split at g
  ·rename_i vs hq;rw[hq]at hx;obtain⟨v,hv,hK⟩:=ae g;obtain⟨us,hve,hl,hr⟩:=hx.tup_inv;have hlt:i<us.length:=(by rw[hl];exact(f9.1 hv).1);have hz:=hr i v hv;simp only[List.getD,K6 hlt,Q0]at hz;refine OpOk.val (aV (z:=us[i]) (w':=w) ?_) (OpPost.here f hK hz);rw[hve];simp[Instr.extract,hlt]
  ·exact g.elim
 |range T x=>
  simp only[wpOp]at g;have hx:=rp x (ho x (by simp[Op.operands]));split at g
  ·rename_i s hq;rw[hq]at hx;have hx:=hx.str_inv;obtain⟨hT,hK⟩:=g;have hfit:BlkFits (w.alloc (.stringIter ⟨s.toArray⟩ 0)) S (μ++[⟨some w.heap.size,0,1,0⟩]) ⟨some w.heap.size,0,1,0⟩ (.iter s 0):=⟨rfl,_,rfl,cw w _⟩
   refine OpOk.val (aV (z:=.pointer (some ⟨w.heap.size,0,none⟩)) (w':=w.alloc (.stringIter ⟨s.toArray⟩ 0)) ?_)
    ⟨_,_,S,_,hK,bb f _ ⟨some w.heap.size,0,1,0⟩,f.alloc _ ⟨some w.heap.size,0,1,0⟩ _ rfl hfit,jH (m:=⟨some w.heap.size,0,1,0⟩) (by rw[← f.len];simp) rfl rfl (by simp)⟩
   rw[hx];simp only[Instr.range,M6,aa (er hT),M2,N9,run_newObj];rfl
  ·rename_i p hq;rw[hq]at hx;obtain⟨hT,g⟩:=g;obtain⟨⟨es,c⟩,ha,hK⟩:=ae g;obtain⟨v,w',μ',hrun,f',st,rr⟩:=ra f hT hx ha;exact OpOk.val (aV hrun) ⟨_,_,S,μ',hK,st,f',rr⟩
  ·exact g.elim
 |entry x=>
  simp only[wpOp]at g;have hx:=rp x (ho x (by simp[Op.operands]));split at g
  ·rename_i p hq;rw[hq]at hx;split at g
   ·rename_i q since seen last hh;obtain⟨s0,hs0,g1⟩:=ae g;obtain⟨⟨es,c⟩,ha,g2⟩:=ae g1;have hc:c=last:=g2.1;obtain⟨e,he,hK⟩:=ae g2.2;subst hc;obtain⟨u,hrun,rr⟩:=tq (P:=C.P) f hx hh hs0 ha he;exact OpOk.val (aV hrun) ⟨_,_,S,μ,hK,Step.refl ..,f,rr⟩
   ·exact g.elim
  ·exact g.elim
 |next x isString=>
  simp only[wpOp]at g;have hx:=rp x (ho x (by simp[Op.operands]));split at g
  ·rename_i p hq;rw[hq]at hx;cases isString with
   |false=>
    simp only at g;split at g
    ·rename_i q since seen last hh;obtain⟨⟨es,c⟩,ha,ht,g1,g2⟩:=ae g;rcases tn (P:=C.P) f hx hh ha ht ty with⟨e,he,hs,u,w',μ',hrun,f',st,rr⟩| ⟨hn,u,w',hrun,f',st,rr⟩
     ·exact OpOk.val (aV hrun) ⟨_,_,S,μ',g1 e he hs,st,f',rr⟩
     ·exact OpOk.val (aV hrun) ⟨_,_,S,μ,g2 hn,st,f',rr⟩
    ·exact g.elim
   |true=>
   simp only at g;split at g
   ·rename_i s ps hh;have hlt:=(f9.1 hh).1;rw[← f.len]at hlt;have hm:μ[p]? =some μ[p]:=K6 hlt;obtain⟨hv0,b,hb,hheap⟩:=f.blk p μ[p] _ hm hh;generalize hmb:μ[p]=mb at hm hb hv0;obtain⟨b',hb',hv⟩:=hx.hp_now hm hv0;rw[hb]at hb';cases hb';have hz:0*mb.size+0=0:=(by simp);rw[hz]at hv;have hsz:(⟨s.toArray⟩:ByteArray).size=s.length:=(by simp[ByteArray.size]);have hget:(getObj b).run C.P w=.ok (.stringIter ⟨s.toArray⟩ ps) w:=(by simp[getObj,Sem.run,hheap]);by_cases hp:ps<s.length
    ·have hK:=g.1 hp;generalize hd:Utf8.decode ⟨s.toArray⟩ ps=d at hK;obtain⟨c,width⟩:=d
     let w':World:= {w with heap:=w.heap.setIfInBounds b (.stringIter ⟨s.toArray⟩ (ps+width))}
     have hset:(setObj b (.stringIter ⟨s.toArray⟩ (ps+width))).run C.P w=.ok () w':=(by simp[setObj,Sem.run,hheap,w']);have hbl:b<w.heap.size:=(f.own p mb b hm hb).2.1;have only:Only w w' mb.blk:=⟨rfl,rfl,rfl,by simp[w'],fun k hk hne=>by
      have:b≠k:=fun e=>hne (by rw[hb,e])
      simp[w',U7 this]⟩
     have hbf:BlkFits w' S (μ.set p mb) mb (.iter s (ps+width)):=⟨hv0,b,hb,by simp[w',hbl]⟩
     obtain⟨f',st⟩:=f.update hm only (M0 _) (fun _=>rfl) (.inl rfl) hbf;refine OpOk.val (aV (z:=.tuple #[.bool true,goInt ps,.int .i32 c]) (w':=w') ?_) ⟨_,_,S,_,hK,st,f',?_⟩
     ·rw[hv];simp only[Instr.next,M6,hget,M2,hsz,L7 hp,hd,hset,N9]
     ·refine .tup _ [.bool true,goInt ps,.int .i32 c] rfl fun i c' hi=>?_
      match i with
      |0=>simp at hi;subst hi;exact .bool _
      |1=>simp at hi;subst hi;exact .int _ _
      |2=>simp at hi;subst hi;exact .int _ _
      |i+3=>simp at hi
    ·refine OpOk.val (aV (z:=.tuple #[.bool false]) (w':=w) ?_) (OpPost.here f (g.2 hp) ?_)
     ·rw[hv];simp only[Instr.next,M6,hget,M2,hsz,K4 hp,N9]
     ·refine .tup _ [.bool false] rfl fun i c' hi=>?_
      match i with
      |0=>simp at hi;subst hi;exact .bool _
      |i+1=>simp at hi
   ·exact g.elim
  ·exact g.elim
 |makeMap T o=>
  simp only[wpOp]at g;obtain⟨hT,hr,hK⟩:=g;have hi:∀v,o.map a.eval=some v→∃k n,v=.int k n:=by
   cases o with
   |none=>intro v hv;cases hv
   |some x=>
    intro v hv;simp only[Q3,N2]at hv;subst hv;have hx:=rp x (ho x (by simp[Op.operands]));simp only[Q3]at hr;generalize aev C.G t x=q at hr hx;cases q with
    |int k n=>exact⟨_,_,hx.int_inv⟩
    |_=>exact hr.elim
  obtain⟨v,w',μ',hrun,f',st,rr⟩:=ve (P:=C.P) f hT hi;exact OpOk.val (aV hrun) ⟨_,_,S,μ',hK,st,f',rr⟩
 |lookup T x i ok=>
  simp only[wpOp]at g;have hx:=rp x (ho x (by simp[Op.operands]));have hi:=rp i (ho i (by simp[Op.operands]));obtain⟨⟨k,e⟩,hT,g⟩:=ae g;obtain⟨z,hz,hzs,hK,g⟩:=ae g;split at g
  ·rename_i hq;rw[hq]at hx;have hx:=hx.nil_inv;obtain⟨v,hrun,rr⟩:=kZ (w:=w) hT hz hzs hK hi ok;exact OpOk.val (aV (by rw[hx];exact hrun)) (OpPost.here f g rr)
  ·rename_i p hq;rw[hq]at hx;obtain⟨⟨es,c⟩,ha,g⟩:=ae g;obtain⟨r0,hr0,g⟩:=ae g;obtain⟨v,hrun,rr⟩:=oT f hT hz hzs hK hi ok hx ha hr0;exact OpOk.val (aV hrun) (OpPost.here f g rr)
  ·exact g.elim
 |mapUpdate T x k v=>
  simp only[wpOp]at g;have hx:=rp x (ho x (by simp[Op.operands]));have hk:=rp k (ho k (by simp[Op.operands]));have hv:=rp v (ho v (by simp[Op.operands]));obtain⟨⟨kt,et⟩,hT,hK,g⟩:=ae g;split at g
  ·rename_i p hq;rw[hq]at hx;obtain⟨⟨es,c⟩,ha,g⟩:=ae g;obtain⟨r0,hr0,g⟩:=ae g;obtain⟨w',μ',hrun,f',st⟩:=jM f hT hK hk hv hx ha hr0;have e:(execOp a.eval {dst,op:=.mapUpdate T x k v,type:=ty,pos,after,guard}).run C.P w=.ok .skip w':=qZ hrun;rw[e];exact⟨_,_,S,μ',g,st,f',.nil _ (by intro cs h;cases h)⟩
  ·exact g.elim
 |insert T x k v=>
  simp only[wpOp]at g;have hx:=rp x (ho x (by simp[Op.operands]));have hk:=rp k (ho k (by simp[Op.operands]));have hv:=rp v (ho v (by simp[Op.operands]));obtain⟨⟨kt,et⟩,hT,hK,g⟩:=ae g;split at g
  ·rename_i p hq;rw[hq]at hx;obtain⟨⟨es,c⟩,ha,g⟩:=ae g;obtain⟨r0,hr0,g⟩:=ae g;obtain⟨w',μ',hrun,f',st⟩:=jM f hT hK hk hv hx ha hr0;have e:(execOp a.eval {dst,op:=.insert T x k v,type:=ty,pos,after,guard}).run C.P w=.ok .skip w':=qZ hrun;rw[e];exact⟨_,_,S,μ',g,st,f',.nil _ (by intro cs h;cases h)⟩
  ·exact g.elim
 |mapEntry T x k=>
  simp only[wpOp]at g;have hx:=rp x (ho x (by simp[Op.operands]));have hk:=rp k (ho k (by simp[Op.operands]));obtain⟨⟨kt,et⟩,hT,g⟩:=ae g;obtain⟨z,hz,hzs,hK,g⟩:=ae g;split at g
  ·rename_i p hq;rw[hq]at hx;obtain⟨⟨es,c⟩,ha,g⟩:=ae g;obtain⟨r0,hr0,g⟩:=ae g;obtain⟨v,w',μ',hrun,f',st,rr⟩:=r8 f hT hz hzs hK hk hx ha hr0;refine OpOk.val (aV hrun) ?_;cases hb:r0.bind (es[·]?)with
   |none=>rw[hb]at f' rr;simp only[hb]at g;exact⟨_,_,S,μ',g,st,f',rr⟩
   |some e=>rw[hb]at f' rr;simp only[hb]at g;exact⟨_,_,S,μ',g,st,f',rr⟩
  ·exact g.elim
 |entryStore T x s v=>
  simp only[wpOp]at g;have hx:=rp x (ho x (by simp[Op.operands]));have hs:=rp s (ho s (by simp[Op.operands]));have hv:=rp v (ho v (by simp[Op.operands]));split at g
  ·rename_i p kk nn hq hq2;rw[hq]at hx;rw[hq2]at hs;have hs:=hs.int_inv;obtain⟨⟨es,c⟩,ha,g⟩:=ae g;obtain⟨i0,hi0,g⟩:=ae g;obtain⟨w',μ',hrun,f',st⟩:=r9 (T:=T) (k:=kk) f hv hx ha hi0;have e:(execOp a.eval {dst,op:=.entryStore T x s v,type:=ty,pos,after,guard}).run C.P w=.ok .skip w':=qZ (by rw[hs];exact hrun);rw[e];exact⟨_,_,S,μ',g,st,f',.nil _ (by intro cs h;cases h)⟩
  ·exact g.elim
 |call c=>exact nq f r ho g
 |_=>exact g.elim
end
def WF(ρ:Option Nat):Fence:= {Fence.wide with round:=ρ}
def flat:Code→Bool
 | .seq a b=>flat a&&flat b
 | .cond _ a b=>flat a&&flat b
 | .block _ c=>flat c
 | .loop c=>flat c
 | .scope _=>false
 |_=>true
def okOper(n:Nat)(o:Oper):Bool:=o.op.operands.toList.all (okOpd n)&&(match o.dst with|some d=>decide (d<n)|none=>true)
def okCode(n:Nat):Code→Bool
 | .region _ ops _=>ops.toList.all (okOper n)
 | .seq a b=>okCode n a&&okCode n b
 | .cond c a b=>okOpd n c&&okCode n a&&okCode n b
 | .block _ c=>okCode n c
 | .loop c=>okCode n c
 | .scope c=>okCode n c
 |_=>true
section
variable {C:Ctx} {B n m:Nat} {ρ:Option Nat} {S:Addr→Prop} {μ:Map} {h:Heap} {w:World} {t:Env} {a:Act} {ds:List Deferred} {K:AVal→Heap→Prop}
def Post(C:Ctx)(B n:Nat)(S:Addr→Prop)(μ:Map)(w:World)(Q:Exit→Env→Heap→Prop)(ds:List Deferred):Exit→Act→World→Prop:=fun e a' w'=>
 ∃t' h' S' μ',Q e t' h'∧Step B S μ w S' μ' w'∧Fits C B S' μ' h' w'∧REnv n w' S' μ' t' a' ds
theorem Weak.at{ms:List Nat}{t1:Env}{h1:Heap}(hw:Weak C ms t h t1 h1)(f:Fits C B S μ h w)(r:REnv n w S μ t a ds):∃S' μ',Step B S μ w S' μ' w∧Fits C B S' μ' h1 w∧REnv n w S' μ' t1 a ds:=by
 obtain⟨S1,μ1,st,f1,r1⟩:=hw.2 B n S μ w {a with defers:=[]} f ⟨r.1,rfl,r.2.2⟩;exact⟨S1,μ1,st,f1,r1.1,r.2.1,r1.2.2⟩
theorem REnv.put{S':Addr→Prop}{μ':Map}{w':World}(r:REnv n w' S' μ' t a ds)(d:Option Nat){x:AVal}{v:Value}(hx:Rep w' S' μ' x v):REnv n w' S' μ' (put t d x) (a.put d v) ds:=by
 cases d with
 |none=>exact r
 |some d=>
  refine⟨by simp[Act.put,r.1],r.2.1,fun i hi=>?_⟩;simp only[Av.put,upd,Act.put];by_cases e:i=d
  ·subst e;simp only[if_true];have:i<a.tmps.size:=by rw[r.1];exact hi
   simpa [P7,this]using hx
  ·rw[K4 e];have:=r.2.2 i hi;simpa [P7,U7 (show d≠i from fun q=>e q.symm)]using this
theorem oV{o:Oper}{next:Act→World→Prop}{Q:Exit→Act→World→Prop}{Φ:Value→World→Prop}{P:Program}(r:Result Next)
  (h:OpOk P Φ r)(k:∀v w',Φ v w'→next (a.put o.dst v) w'):o.uponIn (WF ρ) m P a next Q r:=by
 unfold OpOk at h;split at h
 ·exact k _ _ h
 ·exact k _ _ h
 ·refine⟨fun e=>by simp[WF,Fence.wide]at e,?_⟩;show CallsIn Fence.wide (m-1) P _ _ _ _;refine callsIn_wide.2 (Calls.mono h fun e w' hh=>?_);obtain⟨v,rfl,hv⟩:=hh;exact k _ _ hv
 ·refine⟨fun e=>by simp[WF,Fence.wide]at e,?_⟩;show RowsIn Fence.wide (m-1) P _ _ _ _;exact fun c cs _=>let ⟨v,w',r,s⟩:=h c cs;⟨v,w',k _ _ r,stepsIn_wide.2 s⟩
 ·refine⟨fun e=>by simp[WF,Fence.wide]at e,?_⟩;exact RoundIn.mono (h (m-1)) fun e w' hh=>by
   obtain⟨v,rfl,hv⟩:=hh;exact k _ _ hv
 ·exact h.elim
theorem l6{ops:Array Oper}(r:REnv n w S μ t a ds)(hok:∀o∈ops.toList,okOper n o=true){j:Nat}{b:Option Bool}(g:guardA ops t j=some b):yielded ops a.tmps j=b:=by
 unfold guardA at g;split at g
 ·rename_i d hd;split at g
  ·rename_i b' hb;cases g;cases hj:ops[j]? with
   |none=>simp[hj]at hd
   |some o=>
    have ho:=hok o (by simpa using V5 hj);have hdo:o.dst=some d:=(by simpa [hj]using hd);have hlt:d<n:=(by unfold okOper at ho;rw[hdo]at ho;simp at ho;exact ho.2);have hr:=r.2.2 d hlt;rw[hb]at hr;have hr:=hr.bool_inv;have hs:d<a.tmps.size:=(by rw[r.1];exact hlt);have:a.tmps[d]? =some (.bool b'):=by
     rw[O2 hs];simpa [P7,hs]using hr
    unfold yielded;rw[hd];simp[this]
  ·rename_i xs hb;cases g;cases hj:ops[j]? with
   |none=>simp[hj]at hd
   |some o=>
    have ho:=hok o (by simpa using V5 hj);have hdo:o.dst=some d:=(by simpa [hj]using hd);have hlt:d<n:=(by unfold okOper at ho;rw[hdo]at ho;simp at ho;exact ho.2);have hr:=r.2.2 d hlt;rw[hb]at hr;have hr:a.tmps.getD d undef=.tuple xs:=by
     generalize a.tmps.getD d undef=u at hr;cases hr;rfl
    have hs:d<a.tmps.size:=(by rw[r.1];exact hlt);have:a.tmps[d]? =some (.tuple xs):=by
     rw[O2 hs];simpa [P7,hs]using hr
    unfold yielded;rw[hd];simp[this]
  ·cases g
 ·cases g
theorem im{ops:Array Oper}{o:Oper}(hok:∀o∈ops.toList,okOper n o=true)(ho:okOper n o=true)(f:Fits C B S μ h w)(r:REnv n w S μ t a ds){KE:Env→Heap→Prop}
  (g:wpOper C ops o t h KE){next:Act→World→Prop}{Q:Exit→Act→World→Prop}
  (k:∀t' h' S' μ' a' w',KE t' h'→Step B S μ w S' μ' w'→Fits C B S' μ' h' w'→REnv n w' S' μ' t' a' ds→next a' w'):
  if Region.wanted o (yielded ops a.tmps)then o.wpIn (WF ρ) m C.P a w next Q else(∀f,o.about C.P w a.eval=some f→(WF ρ).fn f)∧next (a.put o.dst undef) w:=by
 have hops:∀x∈o.op.operands.toList,okOpd n x=true:=by
  unfold okOper at ho;simp only[K5]at ho;exact O4.1 ho.1
 have main:wpOp C o.op t h (fun v h'=>KE (put t o.dst v) h')→o.wpIn (WF ρ) m C.P a w next Q:=fun g=>by
  refine⟨fun _ _=>trivial,?_⟩;rw[Oper.semAt_eq _ _ _ fun c e=>by rw[e]at g;exact g];refine oV _ (re o hops f r g) fun v w' hp=>?_
  obtain⟨x,h',S',μ',hK,st,f',hx⟩:=hp;exact k _ _ S' μ' _ _ hK st f' ((r.mono st).put o.dst hx)
 unfold wpOper at g;cases hg:o.guard with
 |none=>
  rw[hg]at g;rw[L7 (by simp[Region.wanted,hg])];exact main g
 |some q=>
  obtain⟨j,want⟩:=q;rw[hg]at g;simp only at g;split at g
  ·rename_i b hb;have hy:=l6 r hok hb;by_cases e:b=some want
   ·rw[L7 (by simp[Region.wanted,hg,hy,e])];exact main (g.1 e)
   ·rw[K4 (by simp[Region.wanted,hg,hy,e])];exact⟨fun _ _=>trivial,k _ _ S μ _ _ (g.2 e) (Step.refl _ _ _ _) f (r.put o.dst (eR _ _ _))⟩
  ·exact g.elim
theorem lQ{ops:Array Oper}(hok:∀o∈ops.toList,okOper n o=true){Q:Exit→Env→Heap→Prop}{S0:Addr→Prop}{μ0:Map}{w0:World}:
  ∀(l:List Oper),(∀o∈l,okOper n o=true)→∀{t h S μ a w},Step B S0 μ0 w0 S μ w→Fits C B S μ h w→REnv n w S μ t a ds→WPl C ops Q l t h→wpListIn (WF ρ) m C.P ops (Post C B n S0 μ0 w0 Q ds) l a w
 | [],_,t,h,S,μ,a,w,st,f,r,g=>⟨t,h,S,μ,g,st,f,r⟩
 |o::rest,hl,t,h,S,μ,a,w,st,f,r,g=>by
  unfold wpListIn;exact im hok (hl o (by simp)) f r g fun t' h' S' μ' a' w' hk st' f' r'=>
   lQ hok rest (fun o ho=>hl o (by simp[ho])) (st.trans st') f' r' hk
theorem gK{ops:Array Oper}(hok:∀o∈ops.toList,okOper n o=true){Q:Exit→Env→Heap→Prop}{S0:Addr→Prop}{μ0:Map}{w0:World}:
  ∀(l:List Nat),∀{t h S μ a w},Step B S0 μ0 w0 S μ w→Fits C B S μ h w→REnv n w S μ t a ds→WPix C ops Q l t h→wpOpsIn (WF ρ) m C.P ops (Post C B n S0 μ0 w0 Q ds) l a w
 | [],t,h,S,μ,a,w,st,f,r,g=>⟨t,h,S,μ,g,st,f,r⟩
 |i::rest,t,h,S,μ,a,w,st,f,r,g=>by
  unfold wpOpsIn;unfold WPix at g;cases hi:ops[i]? with
  |none=>
   rw[hi]at g;exact gK hok rest st f r g
  |some o=>
   rw[hi]at g;simp only at g ⊢;exact im hok (hok o (by simpa using V5 hi)) f r g fun t' h' S' μ' a' w' hk st' f' r'=>
    gK hok rest (st.trans st') f' r' hk
theorem rj:∀(c:Code),okCode n c=true→(ρ=none∨flat c=true)→∀{Q:Exit→Env→Heap→Prop} {S0:Addr→Prop} {μ0:Map} {w0:World} {t h S μ a w},
  Step B S0 μ0 w0 S μ w→Fits C B S μ h w→REnv n w S μ t a ds→WP C c Q t h→c.wpIn (WF ρ) m C.P (Post C B n S0 μ0 w0 Q ds) a w:=by
 intro c;induction c with
 |skip=>intro _ _ Q S0 μ0 w0 t h S μ a w st f r g;exact wpIn_skip ⟨t,h,S,μ,g,st,f,r⟩
 |label l=>intro _ _ Q S0 μ0 w0 t h S μ a w st f r g;exact wpIn_label ⟨t,h,S,μ,g,st,f,r⟩
 |exit id=>intro _ _ Q S0 μ0 w0 t h S μ a w st f r g;exact wpIn_exit ⟨t,h,S,μ,g,st,f,r⟩
 |ret=>intro _ _ Q S0 μ0 w0 t h S μ a w st f r g;exact wpIn_ret ⟨t,h,S,μ,g,st,f,r⟩
 |region id ops draw=>
  intro hok hfl Q S0 μ0 w0 t h S μ a w st f r g;have hops:=O4.1 hok;cases draw with
  |false=>exact wpIn_region_list (lQ hops ops.toList hops st f r g)
  |true=>
   refine wpIn_region_draw fun tp=>?_
   obtain⟨fd,sd⟩:=f.drew;exact gK hops _ (st.trans sd) fd (r.mono sd) (g tp)
 |seq x y ihx ihy=>
  intro hok hfl Q S0 μ0 w0 t h S μ a w st f r g;simp only[okCode,K5]at hok;refine wpIn_seq (wpIn_mono (ihx hok.1 (hfl.imp_right fun h=>by simp only[flat,K5]at h;exact h.1) st f r g) fun e a' w' hp=>?_);obtain⟨t',h',S',μ',hq,st',f',r'⟩:=hp;cases e with
  |normal=>
   obtain⟨t1,h1,hw,hq⟩:=hq;obtain⟨S1,μ1,st1,f1,r1⟩:=hw.at f' r';exact ihy hok.2 (hfl.imp_right fun h=>by simp only[flat,K5]at h;exact h.2) (st'.trans st1) f1 r1 hq
  |_=>exact⟨t',h',S',μ',hq,st',f',r'⟩
 |cond c x y ihx ihy=>
  intro hok hfl Q S0 μ0 w0 t h S μ a w st f r g;simp only[okCode,K5]at hok;have hc:=gb f r c hok.1.1;simp only[WP]at g;split at g
  ·rename_i q hq;rw[hq]at hc;have hc:=hc.bool_inv;exact wpIn_cond_split hc (fun e=>ihx hok.1.2 (hfl.imp_right fun h=>by simp only[flat,K5]at h;exact h.1) st f r (g.1 e)) (fun e=>ihy hok.2 (hfl.imp_right fun h=>by simp only[flat,K5]at h;exact h.2) st f r (g.2 e))
  ·exact g.elim
 |block id x ih=>
  intro hok hfl Q S0 μ0 w0 t h S μ a w st f r g;refine wpIn_block (wpIn_mono (ih hok (hfl.imp_right fun h=>h) st f r g) fun e a' w' hp=>?_);obtain⟨t',h',S',μ',hq,st',f',r'⟩:=hp;cases e with
  |exit id'=>
   simp only[blockQ]at hq;simp only[Exit.inBlock];split
   ·rename_i e;rw[L7 e]at hq;exact⟨t',h',S',μ',hq,st',f',r'⟩
   ·rename_i e;rw[K4 e]at hq;exact⟨t',h',S',μ',hq,st',f',r'⟩
  |_=>exact⟨t',h',S',μ',hq,st',f',r'⟩
 |loop x ih=>
  intro hok hfl Q S0 μ0 w0 t h S μ a w st f r g;obtain⟨I,n0,⟨t1,h1,hw,h0⟩,hround⟩:=g;obtain⟨S1,μ1,st1,f1,r1⟩:=hw.at f r;refine wpIn_loop_ghost (fun k a w=>∃t h S μ,I k t h∧Step B S0 μ0 w0 S μ w∧Fits C B S μ h w∧REnv n w S μ t a ds) n0 ⟨t1,h1,S1,μ1,h0,st.trans st1,f1,r1⟩ ?_;rintro k a w ⟨t,h,S,μ,hI,st,f,r⟩;refine wpIn_mono (ih hok hfl st f r (hround k t h hI)) fun e a' w' hp=>?_
  obtain⟨t',h',S',μ',hq,st',f',r'⟩:=hp;cases e with
  |normal=>
   obtain⟨m,hm,t1,h1,hw,hI'⟩:=hq;obtain⟨S1,μ1,st1,f1,r1⟩:=hw.at f' r';exact⟨m,hm,t1,h1,S1,μ1,hI',st'.trans st1,f1,r1⟩
  |_=>exact⟨t',h',S',μ',hq,st',f',r'⟩
 |rangeFunc f ps a0 b _ _=>intro _ _ Q S0 μ0 w0 t h S μ a w st f r g;exact g.elim
 |scope x ih=>
  intro hok hfl Q S0 μ0 w0 t h S μ a w st f r g;obtain rfl:ρ=none:=hfl.elim id fun h=>by simp[flat]at h
  refine wpIn_wide.2 (wp_scope_straight (wpIn_wide.1 (wpIn_mono (ih hok (.inl rfl) st f r g) fun e a' w' hp=>?_)));obtain⟨t',h',S',μ',hq,st',f',r'⟩:=hp;cases e with
  |goto l=>exact hq.elim
  |_=>exact⟨t',h',S',μ',hq,st',f',r'⟩
 |goto l=>intro _ _ Q S0 μ0 w0 t h S μ a w st f r g;exact g.elim
 |refuse s=>intro _ _ Q S0 μ0 w0 t h S μ a w st f r g;exact g.elim
theorem nr(c:Code)(hok:okCode n c=true){Q:Exit→Env→Heap→Prop}{S0:Addr→Prop}{μ0:Map}{w0:World}(st:Step B S0 μ0 w0 S μ w)(f:Fits C B S μ h w)(r:REnv n w S μ t a ds)(g:WP C c Q t h):
  c.wp C.P (Post C B n S0 μ0 w0 Q ds) a w:=wpIn_wide.1 (rj (ρ:=none) (m:=0) c hok (.inl rfl) st f r g)
end
end Go.Av
