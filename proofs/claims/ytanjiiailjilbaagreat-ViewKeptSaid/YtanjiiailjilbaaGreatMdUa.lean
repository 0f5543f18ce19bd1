/- Texts of runes: plain laws. -/
import Derived.Test.YtanjiiailjilbaaGreatMdXf
import Derived.Test.YtanjiiailjilbaaGreatMdOc
import Derived.Shelf.Strings.Builder1
import Derived.Shelf.Small.Bits
import Derived.Shelf.Small.Wraps
import Derived.Shelf.Strings.BuilderF
import Derived.Shelf.Strings.BuilderK
import Derived.Shelf.Utf8.AppendRunePlain
import Derived.Shelf.Strconv.Itoa0
import Derived.Shelf.Strings.Prefix
import Derived.Shelf.Strings.FieldsFuncAny
import Derived.Ground.Names2Prog
import Derived.Shelf.Slices.Clone
import Derived.Shelf.Slices.SearchI
import Derived.Shelf.Slices.Delete
import Derived.Shelf.Slices.Empties
import Derived.Ground.SlgmProg
import Derived.Shelf.SortM.Plain
import Derived.Shelf.SortM.SortNone
import Derived.Test.YtanjiiailjilbaaGreatProg
import Derived.Test.YtanjiiailjilbaaGreatMdFz
import Derived.Lib.Builder
import Derived.Lib.TrimUEq
set_option linter.unusedSimpArgs false
set_option linter.unusedVariables false
set_option linter.unusedSectionVars false
set_option linter.unnecessarySimpa false
set_option maxRecDepth 100000
set_option maxHeartbeats 4000000
namespace Go.Av
open Go Go.Proofs Go.RowKit
attribute [local irreducible] WP WPl WPix Sat
section
variable {C:Ctx} {B:Nat} {S:Addr→Prop} {μ:Map} {h:Heap} {w w':World}
theorem Flat.dropR{rows:List AVal}{cur:List Value}{m:Nat}(fl:Flat w S μ m rows (cur.take (rows.length*m)))(k:Nat)(hk:k≤rows.length):Flat w S μ m (rows.drop k) ((cur.drop (k*m)).take ((rows.length-k)*m)):=by
 have hlm:(rows.length-k)*m+k*m=rows.length*m:=by rw[← Nat.add_mul];congr 1;omega
 have gt:∀{i:Nat} {r:AVal},(rows.drop k)[i]? =some r→rows[k+i]? =some r:=fun hi=>by rwa [List.getElem?_drop]at hi
 refine⟨?_,fun i r hi=>fl.lens _ r (gt hi),fun i r j c hi hj=>fl.sto _ r j c (gt hi) hj,fun i r j c hi hj=>?_⟩
 ·have:=fl.len;simp only[List.length_take,List.length_drop]at this ⊢;omega
 ·obtain⟨x,hx',hr⟩:=fl.rep _ r j c (gt hi) hj
  refine⟨x,?_,hr⟩
  have hi':=(List.getElem?_eq_some_iff.1 hi).1
  rw[List.length_drop]at hi'
  have hlt:i*m+j<(rows.length-k)*m:=bC hi' (by rw[← fl.lens _ r (gt hi)];exact(List.getElem?_eq_some_iff.1 hj).1)
  have e:k*m+(i*m+j)=(k+i)*m+j:=by rw[Nat.add_mul];omega
  rw[List.getElem?_take_of_lt hlt,List.getElem?_drop,e]
  exact az hx'
theorem Flat.one{rows:List AVal}{xs:List Value}{m:Nat}(hm:0<m)(fl:Flat w S μ m rows xs):∀v∈xs,v.oneCell'=true:=fun v hv=>by
 obtain⟨t,ht⟩:=List.getElem?_of_mem hv
 have hlt:=(List.getElem?_eq_some_iff.1 ht).1
 rw[fl.len]at hlt
 have hr:t/m<rows.length:=Nat.div_lt_of_lt_mul (by rwa [Nat.mul_comm])
 have h1:rows[t/m]? =some rows[t/m]:=List.getElem?_eq_getElem hr
 have hc:t%m<rows[t/m].cells.length:=by rw[fl.lens _ _ h1];exact Nat.mod_lt _ hm
 have h2:rows[t/m].cells[t%m]? =some rows[t/m].cells[t%m]:=List.getElem?_eq_getElem hc
 obtain⟨x,hx,hrep⟩:=fl.rep _ _ _ _ h1 h2
 have e:t/m*m+t%m=t:=Nat.div_add_mod' t m
 rw[e,ht]at hx
 cases hx
 exact hrep.oneCell (fl.sto _ _ _ _ h1 h2)
theorem qg(f:Fits C B S μ h w){p:Nat}{m:MB}(hm:μ[p]? =some m)(o:Only w w' m.blk){e n g cp:Nat}{rows:List AVal}{Z:Array Value}(hg:m.blk=some g∨(w.heap.size≤g∧g<w'.heap.size))
  (hn:0<n)(hh:w'.heap[g]? =some (.cells Z e (0,0)))(hz:Z.size=cp*n)(hl:0<cp∧rows.length≤cp)(hx:cp≤maxLen)(fl:Flat w S μ n rows (Z.toList.take (rows.length*n))):
  ∃μ',Step B S μ w S μ' w'∧Fits C B S μ' (h.set p (.row e n (m.ver+1) rows)) w'∧Rep w' S μ' (.hs p (m.ver+1) 0 rows.length true) (.slice (some ⟨g,0,none⟩) rows.length cp):=by
 have hlt:=(List.getElem?_eq_some_iff.1 hm).1
 have st0:=bb f hm o (ba (m':=⟨some g,m.ver+1,n,cp⟩) hm (by simp) (by simp))
 have hrf:BlkFits w' S (μ.set p ⟨some g,m.ver+1,n,cp⟩) ⟨some g,m.ver+1,n,cp⟩ (.row e n (m.ver+1) rows):=
  bD hn rfl rfl rfl hh hz hl hx (fl.mono st0) rfl
 obtain⟨f',st⟩:=f.update (m':=⟨some g,m.ver+1,n,cp⟩) hm o (by simp) (by simp) (by rcases hg with hg|hg;exact .inl hg.symm;exact .inr ⟨g,rfl,hg.1,hg.2⟩) hrf
 refine⟨_,st,f',.hs _ _ _ _ _ ⟨some g,m.ver+1,n,cp⟩ _ (by rw[List.getElem?_set_self hlt]) (Nat.le_refl _) (by simp) rfl fun _=>.inr ⟨g,rfl,by simpa using hl.2,by simp⟩⟩
end
theorem qh(G:Nat→Option (List AVal))(l:List Ky)(k:Ky)(i v p q v2:Nat)(rm:Bool)(hi:i<l.length)(hl:l.length≤100000)(h:Heap)(hp:getRow h p v=some (135,3,l.map Ky.av))(hq:getRow h q v2=some (135,3,[k.av]))(hne:p≠q):
  Sat (CT G) 104 [.hs p v 0 l.length true,.int .i64 i,.hs q v2 0 1 rm] h
   (fun r h'=>r=.hs p (v+1) 0 (l.length+1) true∧h'=h.set p (.row 135 3 (v+1) ((l.take i++k::l.drop i).map Ky.av))):=by
 unfold Sat
 intro B S μ w us fit rl
 obtain⟨hul,hur⟩:=rl
 match us,hul,hur with
 | [u0,u1,u2],_,hur=>
  have r0:Rep w S μ (.hs p v 0 l.length true) u0:=hur 0 _ rfl
  have r1:Rep w S μ (.int .i64 i) u1:=hur 1 _ rfl
  have r2:Rep w S μ (.hs q v2 0 1 rm) u2:=hur 2 _ rfl
  obtain rfl:=r1.int_inv
  obtain⟨m,hm,hf⟩:=fit.row hp
  obtain⟨m2,hm2,hf2⟩:=fit.row hq
  have hver:=hf.hver
  have hver2:=hf2.hver
  have hsz3:=hf.hsize
  rcases r0.hs_now hm hver with⟨_,_,h1,_⟩| ⟨b,hb,hcap,rfl⟩
  ·omega
  rcases r2.hs_now hm2 hver2 with⟨_,_,h1,_⟩| ⟨b2,hb2,hcap2,rfl⟩
  ·omega
  obtain⟨cur,hheap,hcs,hle,hmax,fl⟩:=hf.flat hb
  obtain⟨cur2,hheap2,hcs2,hle2,hmax2,fl2⟩:=hf2.flat hb2
  simp only[List.length_map,List.length_singleton,Nat.one_mul]at fl fl2 hle hle2
  have hnb:b2≠b:=fun e=>hne (fit.sep p q m m2 b hm hm2 hb (by rw[hb2,e]))
  simp only[if_true,Nat.sub_zero,Nat.zero_mul]
  have flr:Flat w S μ 3 (l.map Ky.av) (cur.toList.take ((l.map Ky.av).length*3)):=by rw[List.length_map];exact fl
  have fA:=flr.takeR i (by rw[List.length_map];omega)
  have fD:=flr.dropR i (by rw[List.length_map];omega)
  rw[List.length_map]at fD
  have hnew:(l.take i++k::l.drop i).map Ky.av=((l.map Ky.av).take i++[k.av])++(l.map Ky.av).drop i:=by simp[List.map_take,List.map_drop]
  have fN:=(fA.append fl2).append fD
  rw[← hnew]at fN
  have hnl:((l.take i++k::l.drop i).map Ky.av).length=l.length+1:=by simp;omega
  have hc3:(l.length:Nat)*3≤cur.size:=by rw[hcs];exact Nat.mul_le_mul_right _ hle.2
  have hc23:3≤cur2.size:=by rw[hcs2];omega
  have hcl:cur.toList.length=cur.size:=Array.length_toList
  have hcl2:cur2.toList.length=cur2.size:=Array.length_toList
  have hAl:(cur.toList.take (i*3)).length=i*3:=by rw[List.length_take,hcl];omega
  have hVl:(cur2.toList.take 3).length=3:=by rw[List.length_take,hcl2];omega
  have hDl:((cur.toList.drop (i*3)).take ((l.length-i)*3)).length=(l.length-i)*3:=by rw[List.length_take,List.length_drop,hcl];omega
  have h1:=fD.one (by omega)
  have h1v:=fl2.one (by omega)
  have fin:∀(w':World) (g cp:Nat) (Z E:List Value),Only w w' (some b)→(g=b∨(w.heap.size≤g∧g<w'.heap.size))→w'.heap[g]? =some (.cells Z.toArray 135 (0,0))→Z.length=cp*3→l.length+1≤cp→cp≤maxLen→
    Z=cur.toList.take (i*3)++cur2.toList.take 3++(cur.toList.drop (i*3)).take ((l.length-i)*3)++E→
    OpPost (CT G) B S μ w (fun r h'=>r=.hs p (v+1) 0 (l.length+1) true∧h'=h.set p (.row 135 3 (v+1) ((l.take i++k::l.drop i).map Ky.av))) (.slice (some ⟨g,0,none⟩) (l.length+1) cp) w':=by
   intro w' g cp Z E ho hg hh hz hcp hcm hZ
   have hZl:(l.length+1)*3=(cur.toList.take (i*3)++cur2.toList.take 3++(cur.toList.drop (i*3)).take ((l.length-i)*3)).length:=by
    simp only[List.length_append,hAl,hVl,hDl];omega
   obtain⟨μ',st,f',rp⟩:=qg (rows:=(l.take i++k::l.drop i).map Ky.av) fit hm (by rw[hb];exact ho) (e:=135) (n:=3) (cp:=cp) (Z:=Z.toArray) (g:=g) (by rcases hg with rfl|hg;exact .inl hb;exact .inr hg) (by decide) hh (by simpa using hz) ⟨by omega,by rw[hnl];exact hcp⟩ hcm (by
    rw[hnl]
    show Flat _ _ _ _ _ (List.take _ Z)
    rw[hZ,hZl,List.take_left']
    ·exact fN
    ·rfl)
   rw[hnl,hver]at rp
   rw[hver]at f'
   exact⟨_,_,S,μ',⟨rfl,rfl⟩,st,f',rp⟩
  change OpOk Tryz.prog _ ((callFunc 104 #[_,_,_]).run Tryz.prog w)
  rw[bA (f:=104) Tryz.func104 rfl rfl]
  by_cases hroom:l.length+1≤m.cap
  ·refine(ow b l.length m.cap i b2 _ cur cur2 w hi hroom (by simp only[maxLen]at hmax;omega) hnb hheap hcs hheap2 hc23 h1 h1v _ _ rfl rfl).mono fun e w' ⟨he,hw⟩=>?_
   refine⟨_,he,fin w' b m.cap _ (cur.toList.drop ((i+1)*3+(l.length-i)*3)) (by rw[hw];exact⟨rfl,rfl,rfl,by simp,fun j _ hj=>by rw[setRow_other _ _ _ _ (fun e=>hj (by rw[e])),setRow_other _ _ _ _ (fun e=>hj (by rw[e]))];rfl⟩) (.inl rfl) (by rw[hw];exact setRow_heap _ b _ _ _ _ (setRow_heap w.drew b cur _ _ _ hheap)) ?_ hroom hmax ?_⟩
   ·simp only[List.length_append,List.length_take,List.length_drop,Array.length_toList,List.toList_toArray,hVl]
    omega
   ·rw[List.toList_toArray]
    have e1:(cur.toList.take ((i+1)*3)++(cur.toList.drop (i*3)).take ((l.length-i)*3)++cur.toList.drop ((i+1)*3+(l.length-i)*3)).take (i*3)=cur.toList.take (i*3):=by
     rw[List.append_assoc,List.take_append_of_le_length (by rw[List.length_take,hcl];omega),List.take_take];congr 1;omega
    have e2:(cur.toList.take ((i+1)*3)++(cur.toList.drop (i*3)).take ((l.length-i)*3)++cur.toList.drop ((i+1)*3+(l.length-i)*3)).drop (i*3+3)=(cur.toList.drop (i*3)).take ((l.length-i)*3)++cur.toList.drop ((i+1)*3+(l.length-i)*3):=by
     rw[List.append_assoc,List.drop_left' (by rw[List.length_take,hcl];omega)]
    rw[e1,e2];simp
  ·have hcm:=grownCap_le_maxLen w (l.length+1) m.cap 135 (by simp only[maxLen];omega)
   have hcg:=grownCap_ge w (l.length+1) m.cap 135
   obtain⟨cp,hcpe⟩:∃cp,cp=grownCap w (l.length+1) m.cap 135:=⟨_,rfl⟩
   rw[← hcpe]at hcm hcg
   obtain⟨ROW,hROW⟩:∃ROW:Array Value,(cur.toList.take (i*3)).toArray++Builtin.zeroCells (Value.agg #[.int .i64 0,.int .i64 0,.int .i64 0]).cells (l.length+1-i)++Builtin.zeroCells (Value.agg #[.int .i64 0,.int .i64 0,.int .i64 0]).cells (cp-(l.length+1))=ROW:=⟨_,rfl⟩
   obtain⟨Y1,hY1⟩:∃Y1:Array Value,(ROW.toList.take (i*3)++cur2.toList.take 3++ROW.toList.drop (i*3+3)).toArray=Y1:=⟨_,rfl⟩
   obtain⟨Y2,hY2⟩:∃Y2:Array Value,(Y1.toList.take ((i+1)*3)++(cur.toList.drop (i*3)).take ((l.length-i)*3)++Y1.toList.drop ((i+1)*3+(l.length-i)*3)).toArray=Y2:=⟨_,rfl⟩
   refine(ox b l.length m.cap i b2 _ cur cur2 w hi hle.2 (by omega) (by omega) hheap hcs hheap2 hc23 h1 h1v ROW Y1 Y2 cp hcpe hROW hY1 hY2).mono fun e w' ⟨he,hw⟩=>?_
   have hon:Only w w' (some b):=by
    rw[hw]
    refine⟨rfl,rfl,rfl,by simp,fun j hj _=>?_⟩
    rw[setRow_other _ _ _ _ (by omega)]
    show(World.setRow _ _ _).heap[j]? =_
    rw[setRow_other _ _ _ _ (by omega)]
    exact heap_alloc_old w.drew _ hj
   have hz3:∀j,(Builtin.zeroCells (Value.agg #[.int .i64 0,.int .i64 0,.int .i64 0]).cells j).toList.length=j*3:=fun j=>by
    rw[Array.length_toList,size_zeroCells];simp[Value.cells]
   have hRl:ROW.toList=cur.toList.take (i*3)++((Builtin.zeroCells (Value.agg #[.int .i64 0,.int .i64 0,.int .i64 0]).cells (l.length+1-i)).toList++(Builtin.zeroCells (Value.agg #[.int .i64 0,.int .i64 0,.int .i64 0]).cells (cp-(l.length+1))).toList):=by
    rw[← hROW];simp
   generalize hZ1:(Builtin.zeroCells (Value.agg #[.int .i64 0,.int .i64 0,.int .i64 0]).cells (l.length+1-i)).toList++(Builtin.zeroCells (Value.agg #[.int .i64 0,.int .i64 0,.int .i64 0]).cells (cp-(l.length+1))).toList=Z1 at hRl
   have hZ1l:Z1.length=(l.length+1-i)*3+(cp-(l.length+1))*3:=by rw[← hZ1,List.length_append,hz3,hz3]
   have hY1l:Y1.toList=cur.toList.take (i*3)++cur2.toList.take 3++Z1.drop 3:=by
    rw[← hY1,hRl,List.take_left' hAl]
    show _++List.drop (i*3+3) _=_
    rw[← List.drop_drop,List.drop_left' hAl]
   have hT:Y1.toList.take ((i+1)*3)=cur.toList.take (i*3)++cur2.toList.take 3:=by
    rw[hY1l,List.take_left' (by rw[List.length_append,hAl,hVl];omega)]
   have hY2l:Y2.toList=cur.toList.take (i*3)++cur2.toList.take 3++(cur.toList.drop (i*3)).take ((l.length-i)*3)++Y1.toList.drop ((i+1)*3+(l.length-i)*3):=by
    rw[← hY2, ← hT]
   refine⟨_,he,fin w' w.heap.size cp Y2.toList _ hon (.inr ⟨Nat.le_refl _,by rw[hw];simp⟩) ?_ ?_ hcg hcm hY2l⟩
   ·rw[hw,Array.toArray_toList]
    exact setRow_heap _ _ _ _ _ _ (setRow_heap (w.drew.alloc (.cells ROW _)) _ _ Y1 _ _ (heap_alloc_new w.drew _))
   ·rw[hY2l,List.length_append,List.length_append,List.length_append,hAl,hVl,hDl,List.length_drop,hY1l,List.length_append,List.length_append,hAl,hVl,List.length_drop,hZ1l]
    omega
end Go.Av
namespace Go.Av
open Go Go.Proofs Go.RowKit
attribute [local irreducible] WP WPl WPix Sat
theorem kA{h:Heap}{p v len n m:Nat}{b:Bool}{rows:List AVal}(hg:getRow h p v=some (m,n,rows))(hl:rows.length=len):elemsOf h n (.hs p v 0 len b)=some rows:=by
 simp only[elemsOf,hg,true_and]
 rw[if_pos (by omega),List.drop_zero,List.take_of_length_le (by omega)]
variable (G:Nat→Option (List AVal))
theorem qi(l:List Ky)(k:Ky)(v p q v2:Nat)(rm:Bool)(hl:l.length≤100000)(h:Heap)(hp:getRow h p v=some (135,3,l.map Ky.av))(hq:getRow h q v2=some (135,3,[k.av])):
  Sat (CT G) 104 [.hs p v 0 l.length true,.int .i64 l.length,.hs q v2 0 1 rm] h
   (fun r h'=>r=.hs p (v+1) 0 (l.length+1) true∧h'=h.set p (.row 135 3 (v+1) ((l++[k]).map Ky.av))):=by
 have s1:aslice Tryz.prog h 131 (.hs p v 0 l.length true) (some (.int .i64 (l.length:Int))) none none=some (.sl 3 [])∨aslice Tryz.prog h 131 (.hs p v 0 l.length true) (some (.int .i64 (l.length:Int))) none none=some (.hs p v (0+l.length) 0 true):=by
  have e1:elmT Tryz.prog 131=some 135:=by simp only[go_sem]
  have e2:szOf Tryz.prog 135=some 3:=by simp only[go_sem]
  simp only[aslice,e1,e2,hp,optInt,if_true]
  by_cases h0:l=[]
  ·subst h0;right;simp
  ·left
   have:0<l.length:=List.length_pos_iff.2 h0
   rw[if_neg (by omega),if_pos (by simp)]
 rw[Ky.av_eq]at hq
 rcases s1 with s1|s1
 all_goals have hy:=kA (b:=rm) hq (rfl:[AVal.agg [.int .i64 k.d,.int .i64 k.i,.int .i64 k.f]].length=1)
 ·have F:=F4 hp hq s1 (F3 (@beq_self_eq_true Int _ _) (@beq_self_eq_true Bool _ _) (@beq_self_eq_true Bs _ _))
  refine sb [.tmp 6] (fn:=Tryz.f104) Tryz.func104 ?_
  intro Q hQ
  refine wk F ?_
  refine aZ (.inl rfl) (by simp(disch:=first|omega| (simp only[go_sem, ↓reduceIte,seval];first|done|omega)|fail) only[go_sem, ↓reduceIte,seval,F];try rfl) (by simp(disch:=first|omega| (simp only[go_sem, ↓reduceIte,seval];first|done|omega)|fail) only[go_sem, ↓reduceIte,seval,F];try rfl) (by simp(disch:=first|omega| (simp only[go_sem, ↓reduceIte,seval];first|done|omega)|fail) only[go_sem, ↓reduceIte,seval,F];try rfl) (by simp(disch:=first|omega| (simp only[go_sem, ↓reduceIte,seval];first|done|omega)|fail) only[go_sem, ↓reduceIte,seval,F];try rfl) (by omega) hy hp (List.length_map ..).symm ⟨by simp[maxLen];omega,by simp;omega⟩ ?_
  try refine sq F ?_
  refine wk F ?_
  refine ee hQ F ?_
  exact Fin.whole (by simp) (.hs _ _ _ _ _ (by rw[List.length_set];exact cj hp)) ⟨by simp,by simp[Ky.av]⟩
 ·have F:=F4 hp hq s1 (F3 (@beq_self_eq_true Int _ _) (@beq_self_eq_true Bool _ _) (@beq_self_eq_true Bs _ _))
  refine sb [.tmp 6] (fn:=Tryz.f104) Tryz.func104 ?_
  intro Q hQ
  refine wk F ?_
  refine aZ (.inl rfl) (by simp(disch:=first|omega| (simp only[go_sem, ↓reduceIte,seval];first|done|omega)|fail) only[go_sem, ↓reduceIte,seval,F];try rfl) (by simp(disch:=first|omega| (simp only[go_sem, ↓reduceIte,seval];first|done|omega)|fail) only[go_sem, ↓reduceIte,seval,F];try rfl) (by simp(disch:=first|omega| (simp only[go_sem, ↓reduceIte,seval];first|done|omega)|fail) only[go_sem, ↓reduceIte,seval,F];try rfl) (by simp(disch:=first|omega| (simp only[go_sem, ↓reduceIte,seval];first|done|omega)|fail) only[go_sem, ↓reduceIte,seval,F];try rfl) (by omega) hy hp (List.length_map ..).symm ⟨by simp[maxLen];omega,by simp;omega⟩ ?_
  try refine sq F ?_
  refine wk F ?_
  refine ee hQ F ?_
  exact Fin.whole (by simp) (.hs _ _ _ _ _ (by rw[List.length_set];exact cj hp)) ⟨by simp,by simp[Ky.av]⟩
theorem oZ{C:Ctx}{ops:Array Oper}{dst:Option Tmp}{ty:TypeId}{pos:String}{aft:Array Edge}{t:Env}{h:Heap}{K:AVal→Heap→Prop}{x:Operand}{T e n:Nat}{v:AVal}(hv:aev C.G t x=v)(he:elmT C.P T=some e)(hn:szOf C.P e=some n)
  (hz:(zroT C.P e).map (fun z=>(z.cells.length,z.cells.all AVal.sto))=some (n,true))(hc:v.cells.length=n)(hl:v.lies=true)(h0:0<n∧n≤16777216)(k:K (.hs h.length 0 0 1 true) (h++[.row e n 0 [v]])):
  wpOperV C ops ⟨dst,.buildSlice T 1 #[(0,x)],ty,pos,aft,none⟩ t h K:=by
 show wpOp C (.buildSlice T 1 #[(0,x)]) t h K
 subst hv
 simp only[wpOp]
 rw[he]
 show need (szOf C.P e) _
 rw[hn]
 unfold need
 simp only[]
 rw[if_neg (by decide)]
 exact⟨rfl,by decide,h0.1,by omega,rfl,hz,fun y hy=>by simp at hy;subst hy;exact⟨hc,hl⟩,.inl k⟩
section
variable {l:List Ky} {H:Heap} {n v:Nat}
theorem uw(hl:l.length≤100000)(k:Ky)(q:Nat)(hn:n+2≤H.length)(hq:n+2≤q)(hr:getRow H q 0=some (135,3,[k.av])):
  Sat (CT G) 104 [.hs (n+1) v 0 l.length true,.int .i64 (pst l k),.hs q 0 0 1 true] (vo H n v l)
   (fun r h'=>r=.hs (n+1) (v+1) 0 (insK l k).length true∧h'=(vo H n v l).set (n+1) (.row 135 3 (v+1) ((insK l k).map Ky.av))):=by
 have hr2:getRow (vo H n v l) q 0=some (135,3,[k.av]):=(cO hn 0 hq).trans hr
 rw[fO]
 rcases Nat.lt_or_ge (pst l k) l.length with h|h
 ·exact qh G l k _ v _ q 0 true h hl _ (bq hn) hr2 (by omega)
 ·have e:pst l k=l.length:=Nat.le_antisymm (eJ l k) h
  have e2:insK l k=l++[k]:=by unfold insK;rw[e,List.take_length,List.drop_length]
  rw[e,e2]
  exact qi G l k v _ q 0 true hl _ (bq hn) hr2
theorem lg(hs:Sk l)(hl:l.length≤100000)(t:It)(hn:n+2≤H.length):Sat (CT G) 61 [.hp n 0 0 0,t.av] (vo H n v l) (fun r h'=>r=.tup []∧h'=vo H n (v+1) (insK l t.ky)):=by
 skip
 refine sb [] (fn:=Tryz.f61) Tryz.func61 ?_
 intro Q hQ
 refine wn trivial ?_
 refine aB 11 [9,10] [true,true,true,true,true,true,true,true,true,false,false] (.one 9 [false,false,true,true,true,false,true,true] (.one 10 [] .fin)) (by decide+kernel) (by kernel_rfl) (by decide+kernel) ?_
 simp only[aM,aN,aA]
 try refine sq trivial ?_
 repeat' (first| (refine am ?_;try refine sq trivial ?_)| (refine ao ?_;try refine sq trivial ?_)| (refine ap ?_ ?_<;>try refine sq trivial ?_))
 all_goals try refine wn trivial ?_
 refine au (fP G hs (by omega) t.ky (by simp;omega)) ?_
 try refine sq trivial ?_
 refine wn trivial ?_
 repeat' (first| (refine am ?_;try refine sq trivial ?_)| (refine ao ?_;try refine sq trivial ?_)| (refine ap ?_ ?_<;>try refine sq trivial ?_))
 all_goals try refine wn trivial ?_
 refine oZ (n:=3) (by simp(disch:=first|omega| (simp only[go_sem, ↓reduceIte,seval];first|done|omega)|fail) only[go_sem, ↓reduceIte,seval];rfl) (by simp(disch:=first|omega| (simp only[go_sem, ↓reduceIte,seval];first|done|omega)|fail) only[go_sem, ↓reduceIte,seval];try rfl) (by simp(disch:=first|omega| (simp only[go_sem, ↓reduceIte,seval];first|done|omega)|fail) only[go_sem, ↓reduceIte,seval];try rfl) (by simp(disch:=first|omega| (simp only[go_sem, ↓reduceIte,seval];first|done|omega)|fail) only[go_sem, ↓reduceIte,seval];try rfl) rfl rfl (by decide) ?_
 refine⟨?_,?_⟩
 ·try refine sq trivial ?_
  exact au (fP G hs (by omega) t.ky (by simp;omega)) rfl
 repeat' (first| (refine am ?_;try refine sq trivial ?_)| (refine ao ?_;try refine sq trivial ?_)| (refine ap ?_ ?_<;>try refine sq trivial ?_))
 all_goals try refine wn trivial ?_
 have hki:=uw G (H:=H++[.row 82 9 0 [t.av],.row 135 3 0 [t.ky.av],.row 135 3 0 [t.ky.av]]) (n:=n) (v:=v) hl t.ky (H.length+2) (by simp;omega) (by omega) (by rw[bH _ rfl];rfl)
 refine hki.mono ?_
 rintro r h' ⟨rfl,rfl⟩
 have F:= @ax
 try refine sq F ?_
 repeat' (first| (refine am ?_;try refine sq F ?_)| (refine ao ?_;try refine sq F ?_)| (refine ap ?_ ?_<;>try refine sq F ?_))
 all_goals try refine wn F ?_
 refine ee hQ F ?_
 rw[la (by simp;omega)]
 exact bd hn (.tup _ (fun x hx=>by simp at hx)) ⟨rfl,rfl⟩
end
end Go.Av
namespace Go.Av
open Go Go.Proofs Go.RowKit
attribute [local irreducible] WP WPl WPix Sat
variable (G:Nat→Option (List AVal))
def PS.within(s:PS)(id:Int):Bool:=decide (id=0)||(lkM s.fo id).isSome
theorem d8(s:PS)(id:Int){H:Heap}{n:Nat}(hn:n+9≤H.length):Sat (CT G) 93 [.hp (n+8) 0 0 0,.int .i64 id] (so H n s) (fun r h'=>r=.bool (s.within id)∧h'=so H n s):=by
 refine sb [.tmp 4] (fn:=Tryz.f93) Tryz.func93 ?_
 intro Q hQ
 refine wk trivial ?_
 (first|refine gq trivial (fun g=>?_) (fun g=>?_)|refine pq trivial (fun g=>?_) (fun g=>?_))<;>(try exact g.elim)<;>(try refine sq trivial ?_)<;>(refine wk trivial ?_)
 ·refine ee hQ trivial ?_
  exact ai hn (.bool _) ⟨by simp[PS.within,g],rfl⟩
 ·refine ee hQ trivial ?_
  exact ai hn (.bool _) ⟨by simp[PS.within,g],rfl⟩
def PS.hold(s:PS)(id k:Int):PS:=if id=0 then s else {s with he:=upM s.he s.c8 id ((lkM s.he id).getD 0+k),c8:=ckM s.he s.c8 id}
theorem bF(s:PS)(id k:Int)(hk: -1000000≤(lkM s.he id).getD 0∧(lkM s.he id).getD 0≤1000000)(hk': -1≤k∧k≤1){H:Heap}{n:Nat}(hn:n+9≤H.length):Sat (CT G) 52 [.hp (n+8) 0 0 0,.int .i64 id,.int .i64 k] (so H n s) (fun r h'=>r=.tup []∧h'=so H n (s.hold id k)):=by
 refine sb [] (fn:=Tryz.f52) Tryz.func52 ?_
 intro Q hQ
 refine wk trivial ?_
 refine cq trivial (fun c=>?_) (fun c=>?_)<;>(try exact c.elim)<;>(refine wk trivial ?_)
 ·refine ee hQ trivial ?_
  exact cd hn (.tup _ (by simp)) ⟨rfl,by rw[PS.hold,if_neg (by omega)]⟩
 ·refine ee hQ trivial ?_
  exact cd hn (.tup _ (by simp)) ⟨rfl,by rw[PS.hold,if_pos (by omega)]⟩
def PS.raise(s:PS)(k:Nat)(id:Int):PS:=match k with
 |0=> {s with t1:=if id>s.t1 then id else s.t1}
 |1=> {s with t2:=if id>s.t2 then id else s.t2}
 |2=> {s with t3:=if id>s.t3 then id else s.t3}
 |_=> {s with t4:=if id>s.t4 then id else s.t4}
theorem cn(s:PS)(k:Nat)(id:Int)(hk:k<4){H:Heap}{n:Nat}(hn:n+9≤H.length):Sat (CT G) 99 [.hp (n+8) 0 0 0,.int .i64 (k:Int),.int .i64 id] (so H n s) (fun r h'=>r=.tup []∧h'=so H n (s.raise k id)):=by
 match k,hk with
 |0,_=>
  refine sb [] (fn:=Tryz.f99) Tryz.func99 ?_
  intro Q hQ
  refine wk trivial ?_
  refine ee hQ trivial ?_
  exact cd hn (.tup _ (by simp)) ⟨rfl,by simp only[PS.raise,decide_eq_true_eq]⟩
 |1,_=>
  refine sb [] (fn:=Tryz.f99) Tryz.func99 ?_
  intro Q hQ
  refine wk trivial ?_
  refine ee hQ trivial ?_
  exact cd hn (.tup _ (by simp)) ⟨rfl,by simp only[PS.raise,decide_eq_true_eq]⟩
 |2,_=>
  refine sb [] (fn:=Tryz.f99) Tryz.func99 ?_
  intro Q hQ
  refine wk trivial ?_
  refine ee hQ trivial ?_
  exact cd hn (.tup _ (by simp)) ⟨rfl,by simp only[PS.raise,decide_eq_true_eq]⟩
 |3,_=>
  refine sb [] (fn:=Tryz.f99) Tryz.func99 ?_
  intro Q hQ
  refine wk trivial ?_
  refine ee hQ trivial ?_
  exact cd hn (.tup _ (by simp)) ⟨rfl,by simp only[PS.raise,decide_eq_true_eq]⟩
def deepO(l:ML Int Fo):Nat→Int→Option Nat
 |0,id=>if (lkM l id).isSome then none else some 0
 |k+1,id=>match lkM l id with
  |none=>some 0
  |some f=>(deepO l k f.inn).map (· +1)
theorem mc(s:PS)(id:Int)(k d:Nat)(hd:deepO s.fo k id=some d)(hk:d≤1000){H:Heap}{n:Nat}(hn:n+9≤H.length):Sat (CT G) 94 [.hp (n+8) 0 0 0,.int .i64 id] (so H n s) (fun r h'=>r=.int .i64 d∧h'=so H n s):=by
 have step:∀(k m:Nat) (id:Int),deepO s.fo k id=some (d-m)→m≤d→((lkM s.fo id).isSome=true∧m+1≤d∧∃k,deepO s.fo k ((lkM s.fo id).getD Fo.z).inn=some (d-(m+1)))∨((lkM s.fo id).isSome=false∧m=d):=by
  intro k m id h hm
  cases k with
  |zero=>
   rw[deepO]at h
   cases hl:lkM s.fo id with
   |none=>rw[hl]at h;simp at h;exact .inr ⟨rfl,by omega⟩
   |some f=>rw[hl]at h;simp at h
  |succ k=>
   rw[deepO]at h
   cases hl:lkM s.fo id with
   |none=>rw[hl]at h;simp at h;exact .inr ⟨rfl,by omega⟩
   |some f=>
    rw[hl]at h
    simp only[Option.map_eq_some_iff]at h
    obtain⟨j,hj,hd⟩:=h
    exact .inl ⟨rfl,by omega,k,by rw[Option.getD_some,hj];congr 1;omega⟩
 refine sb [.tmp 4] (fn:=Tryz.f94) Tryz.func94 ?_
 intro Q hQ
 refine wk trivial ?_
 refine lm (fun nL tL hL=>∃(m:Nat) (f:Fo) (b:Bool),d-m=nL∧so (H++[.row 53 3 0 [.agg [.int .i64 f.id,.int .i64 f.inn,.str f.name]]]) n s=hL∧tL 0=.hp (n+8) 0 0 0∧tL 5=.int .i64 m∧tL 6=.hp H.length 0 0 0∧tL 7=.bool b∧((b=true∧m+1≤d∧∃k,deepO s.fo k f.inn=some (d-(m+1)))∨(b=false∧m=d))) ((fun(m:Nat) (f:Fo) (b:Bool)=>(d-m:Nat)) (0) ((lkM s.fo id).getD Fo.z) ((lkM s.fo id).isSome)) ?_ ?_
 ·refine Wkn.refl ⟨0,(lkM s.fo id).getD Fo.z,(lkM s.fo id).isSome,rfl,aK,?_,?_,?_,?_,step k 0 id hd (by omega)⟩
  all_goals first|exact zq trivial|rfl|omega|trivial|skip
 rintro _ s2 h' ⟨m,f,b,rfl,rfl,e0,e5,e6,e7,hi⟩ K2 hK2
 simp only[aj,ak,Nat.reduceEqDiff, ↓reduceIte]at e0 e5 e6 e7
 have F:=F4 e0 e5 e6 e7
 refine wk F ?_
 refine cq F (fun c=>?_) (fun c=>?_)<;>(try exact c.elim)<;>(refine wk F ?_)
 ·rcases hi with⟨_,h1,k1,h2⟩| ⟨h1,_⟩
  ·refine fJ 8 (.two 8 (.two 9 (.one 10 (.one 11 .nil)) 10 (.one 9 (.one 11 .nil))) 9 (.one 8 (.one 10 (.one 11 .nil)))) (by decide+kernel) (by kernel_rfl) (by decide+kernel) ?_
   simp only[List.take_succ_cons,List.take_zero]
   try refine sq F ?_
   repeat' (first|refine bZ ?_| (refine c9 rfl ?_;refine sq F ?_)| (refine ca rfl rfl ?_ ?_<;>refine sq F ?_))
   all_goals (
    refine hK2 _ _ _ (Wkn.refl ⟨m+1,(lkM s.fo f.inn).getD Fo.z,(lkM s.fo f.inn).isSome,rfl,aK,?_,?_,?_,?_,step k1 (m+1) f.inn h2 h1⟩) (by omega)
    all_goals first|exact zq F|rfl|omega|trivial|skip)
  ·rw[c]at h1;cases h1
 ·rcases hi with⟨h1,_⟩| ⟨_,h1⟩
  ·rw[c]at h1;cases h1
  ·subst h1
   refine ee hQ F ?_
   exact ai hn (.int _ _) ⟨rfl,rfl⟩
end Go.Av
namespace Go.Av
open Go Go.Proofs Go.RowKit
attribute [local irreducible] WP WPl WPix Sat
variable (G:Nat→Option (List AVal))
def sortI(l:List Int):List Int:=l.mergeSort (fun x y=>decide (x≤y))
def valsM{α:Type}(z:α)(l:ML Int α):List α:=(sortI (l.map (·.1))).map fun k=>(lkM l k).getD z
theorem bN(l:List Int):(sortI l).length=l.length:=(List.mergeSort_perm _ _).length_eq
theorem Fo.cells_sto(e:Fo):∀c∈e.av.cells,c.sto=true:=by
 intro c hc;simp only[Fo.av,AVal.cells,List.mem_cons,List.mem_nil_iff,or_false]at hc;rcases hc with rfl|rfl|rfl<;>rfl
theorem Fe.cells_sto(e:Fe):∀c∈e.av.cells,c.sto=true:=by
 intro c hc;simp only[Fe.av,AVal.cells,List.mem_cons,List.mem_nil_iff,or_false]at hc;rcases hc with rfl|rfl|rfl|rfl<;>rfl
theorem Se.cells_sto(e:Se):∀c∈e.av.cells,c.sto=true:=by
 intro c hc;simp only[Se.av,AVal.cells,List.mem_cons,List.mem_nil_iff,or_false]at hc;rcases hc with rfl|rfl|rfl<;>rfl
theorem It.cells_sto(e:It):∀c∈e.av.cells,c.sto=true:=by
 intro c hc;simp only[It.av,AVal.cells,List.mem_cons,List.mem_nil_iff,or_false]at hc;rcases hc with rfl|rfl|rfl|rfl|rfl|rfl|rfl|rfl|rfl<;>rfl
theorem Fo.clo(N:Nat)(f:Fo):Clo N f.av:=bk fun c hc=>by simp[Fo.av]at hc;rcases hc with rfl|rfl|rfl<;>simp
theorem Fe.clo(N:Nat)(f:Fe):Clo N f.av:=bk fun c hc=>by simp[Fe.av]at hc;rcases hc with rfl|rfl|rfl|rfl<;>simp
theorem Se.clo(N:Nat)(f:Se):Clo N f.av:=bk fun c hc=>by simp[Se.av]at hc;rcases hc with rfl|rfl|rfl<;>simp
theorem me(p:Nat)(h:Heap):Sat (CT G) 100 [.hm p] h (fun r h'=>r=.fn (.func 151) [] [.hp h.length 0 0 0]∧h'=h++[.row 110 1 0 [.hm p]]):=by
 refine sb [.tmp 2] (fn:=Tryz.f100) Tryz.func100 ?_
 intro Q hQ
 refine wk trivial ?_
 refine ee hQ trivial ?_
 exact Fin.whole (by simp) (.fn _ _ _ (fun _ h=>by cases h) (fun x hx=>by simp at hx;subst hx;exact .hp _ _ _ _ (by simp))) ⟨rfl,rfl⟩
theorem ic(s:PS)(hw:WFM s.fo s.c1)(hb:∀e∈s.fo, -9223372036854775808≤e.1∧e.1≤9223372036854775807)(hl:s.fo.length≤100000){H:Heap}{n:Nat}(hn:n+9≤H.length):Sat (CT G) 56 [.hm (n)] (so H n s) (fun r h'=>r=.sl 3 ((valsM Fo.z s.fo).map Fo.av)∧h'=so H n s):=by
 have hsl:=bN (s.fo.map (·.1))
 rw[List.length_map]at hsl
 refine sb [.tmp 2] (fn:=Tryz.f56) Tryz.func56 ?_
 intro Q hQ
 refine wk trivial ?_
 refine kq trivial (me G _ _) ?_
 refine kq trivial (cm G Fo.av _ Tryz.sortedKeys100 s.fo s.c1 hw hb hl (by rw[bp (by simp;omega) 0 (by omega),ay _ rfl];rfl) (ur (by simp;omega))) ?_
 unfold valsM at hQ
 have hks:(List.map (fun x=>x.1) s.fo).mergeSort (fun x y=>decide (x≤y))=sortI (s.fo.map (·.1)):=rfl
 rw[hks]
 generalize sortI (s.fo.map (·.1))=ks at*
 have hkm:(ks.map iA).length=ks.length:=List.length_map ..
 have F:=hkm
 refine lm (fun nL tL hL=>∃(k v:Nat) (acc:List Fo),ks.length-k=nL∧so (H++[.row 110 1 0 [.hm (n)],.row 53 3 v (acc.map Fo.av)]) n s=hL∧tL 0=.hm (n)∧tL 3=.hs (H.length+1) v 0 acc.length true∧tL 8=.sl 1 (ks.map iA)∧tL 9=.int .i64 (ks.length:Int)∧tL 10=.int .i64 k∧k≤ks.length∧acc.length=k∧acc++(ks.drop k).map (fun k=>(lkM s.fo k).getD Fo.z)=ks.map (fun k=>(lkM s.fo k).getD Fo.z)) ((fun(k v:Nat) (acc:List Fo)=>(ks.length-k:Nat)) (0) (0) ([])) ?_ ?_
 ·refine⟨_,_,Weak.virt 3 53 3 (by simp) (by omega) (by exact zq F),⟨0,0,[],rfl,by rw[aU (by simp;omega)];simp,?_,?_,?_,?_,?_,by omega,rfl,by simp⟩⟩
  all_goals first|exact zq F|rfl|omega|trivial|skip
 rintro _ s2 h' ⟨k,v,acc,rfl,rfl,e0,e3,e8,e9,e10,hk,hac,hp⟩ K2 hK2
 simp only[aj,ak,Nat.reduceEqDiff, ↓reduceIte]at e0 e3 e8 e9 e10
 have F:=F6 F e0 e3 e8 e9 e10
 refine wk F ?_
 refine cq F (fun c1=>?_) (fun c1=>?_)<;>(try exact c1.elim)<;>(refine wk F ?_)
 ·have c2:k<ks.length:=by omega
  obtain⟨y,hy,hym⟩:=ah c2
  rw[aP hy,List.map_cons]at hp
  have F:=F3 F hy @ax
  try refine sq F ?_
  refine wk F ?_
  refine aq F ?_
  try refine sq F ?_
  refine wk F ?_
  refine hK2 _ _ _ (Wkn.refl ⟨k+1,v+1,acc++[(lkM s.fo y).getD Fo.z],rfl,by simp[Fo.av],?_,?_,?_,?_,?_,by omega,by simp;omega,by rw[← hp];simp⟩) (by omega)
  all_goals first|exact zq F|rfl|omega|trivial|skip
 ·rw[bo c1,List.map_nil,List.append_nil]at hp
  refine ee hQ F ?_
  rw[← hp]
  have hbl:n+(s.bl n).length≤H.length:=hn
  have hg:getRow (so (H++[.row 110 1 0 [.hm (n)],.row 53 3 v (acc.map Fo.av)]) n s) (H.length+1) v=some (53,3,acc.map Fo.av):=by
   rw[bp (by simp;omega) v (by omega),bH _ rfl];simp[getRow]
  exact cc hbl rfl (PS.clo hn s) (Frz.data (by omega) hg (by simp) (fun r hr=>by obtain⟨a,_,rfl⟩:=List.mem_map.1 hr;exact Fo.clo _ a) (fun r hr=>by obtain⟨a,_,rfl⟩:=List.mem_map.1 hr;exact a.cells_sto)) ⟨rfl,rfl⟩
theorem mf(p:Nat)(h:Heap):Sat (CT G) 101 [.hm p] h (fun r h'=>r=.fn (.func 152) [] [.hp h.length 0 0 0]∧h'=h++[.row 111 1 0 [.hm p]]):=by
 refine sb [.tmp 2] (fn:=Tryz.f101) Tryz.func101 ?_
 intro Q hQ
 refine wk trivial ?_
 refine ee hQ trivial ?_
 exact Fin.whole (by simp) (.fn _ _ _ (fun _ h=>by cases h) (fun x hx=>by simp at hx;subst hx;exact .hp _ _ _ _ (by simp))) ⟨rfl,rfl⟩
theorem ie(s:PS)(hw:WFM s.fe s.c2)(hb:∀e∈s.fe, -9223372036854775808≤e.1∧e.1≤9223372036854775807)(hl:s.fe.length≤100000){H:Heap}{n:Nat}(hn:n+9≤H.length):Sat (CT G) 57 [.hm (n+1)] (so H n s) (fun r h'=>r=.sl 4 ((valsM Fe.z s.fe).map Fe.av)∧h'=so H n s):=by
 have hsl:=bN (s.fe.map (·.1))
 rw[List.length_map]at hsl
 refine sb [.tmp 2] (fn:=Tryz.f57) Tryz.func57 ?_
 intro Q hQ
 refine wk trivial ?_
 refine kq trivial (mf G _ _) ?_
 refine kq trivial (cm G Fe.av _ Tryz.sortedKeys101 s.fe s.c2 hw hb hl (by rw[bp (by simp;omega) 0 (by omega),ay _ rfl];rfl) (ut (by simp;omega))) ?_
 unfold valsM at hQ
 have hks:(List.map (fun x=>x.1) s.fe).mergeSort (fun x y=>decide (x≤y))=sortI (s.fe.map (·.1)):=rfl
 rw[hks]
 generalize sortI (s.fe.map (·.1))=ks at*
 have hkm:(ks.map iA).length=ks.length:=List.length_map ..
 have F:=hkm
 refine lm (fun nL tL hL=>∃(k v:Nat) (acc:List Fe),ks.length-k=nL∧so (H++[.row 111 1 0 [.hm (n+1)],.row 51 4 v (acc.map Fe.av)]) n s=hL∧tL 0=.hm (n+1)∧tL 3=.hs (H.length+1) v 0 acc.length true∧tL 8=.sl 1 (ks.map iA)∧tL 9=.int .i64 (ks.length:Int)∧tL 10=.int .i64 k∧k≤ks.length∧acc.length=k∧acc++(ks.drop k).map (fun k=>(lkM s.fe k).getD Fe.z)=ks.map (fun k=>(lkM s.fe k).getD Fe.z)) ((fun(k v:Nat) (acc:List Fe)=>(ks.length-k:Nat)) (0) (0) ([])) ?_ ?_
 ·refine⟨_,_,Weak.virt 3 51 4 (by simp) (by omega) (by exact zq F),⟨0,0,[],rfl,by rw[aU (by simp;omega)];simp,?_,?_,?_,?_,?_,by omega,rfl,by simp⟩⟩
  all_goals first|exact zq F|rfl|omega|trivial|skip
 rintro _ s2 h' ⟨k,v,acc,rfl,rfl,e0,e3,e8,e9,e10,hk,hac,hp⟩ K2 hK2
 simp only[aj,ak,Nat.reduceEqDiff, ↓reduceIte]at e0 e3 e8 e9 e10
 have F:=F6 F e0 e3 e8 e9 e10
 refine wk F ?_
 refine cq F (fun c1=>?_) (fun c1=>?_)<;>(try exact c1.elim)<;>(refine wk F ?_)
 ·have c2:k<ks.length:=by omega
  obtain⟨y,hy,hym⟩:=ah c2
  rw[aP hy,List.map_cons]at hp
  have F:=F3 F hy @ax
  try refine sq F ?_
  refine wk F ?_
  refine aq F ?_
  try refine sq F ?_
  refine wk F ?_
  refine hK2 _ _ _ (Wkn.refl ⟨k+1,v+1,acc++[(lkM s.fe y).getD Fe.z],rfl,by simp[Fe.av],?_,?_,?_,?_,?_,by omega,by simp;omega,by rw[← hp];simp⟩) (by omega)
  all_goals first|exact zq F|rfl|omega|trivial|skip
 ·rw[bo c1,List.map_nil,List.append_nil]at hp
  refine ee hQ F ?_
  rw[← hp]
  have hbl:n+(s.bl n).length≤H.length:=hn
  have hg:getRow (so (H++[.row 111 1 0 [.hm (n+1)],.row 51 4 v (acc.map Fe.av)]) n s) (H.length+1) v=some (51,4,acc.map Fe.av):=by
   rw[bp (by simp;omega) v (by omega),bH _ rfl];simp[getRow]
  exact cc hbl rfl (PS.clo hn s) (Frz.data (by omega) hg (by simp) (fun r hr=>by obtain⟨a,_,rfl⟩:=List.mem_map.1 hr;exact Fe.clo _ a) (fun r hr=>by obtain⟨a,_,rfl⟩:=List.mem_map.1 hr;exact a.cells_sto)) ⟨rfl,rfl⟩
theorem mg(p:Nat)(h:Heap):Sat (CT G) 102 [.hm p] h (fun r h'=>r=.fn (.func 153) [] [.hp h.length 0 0 0]∧h'=h++[.row 91 1 0 [.hm p]]):=by
 refine sb [.tmp 2] (fn:=Tryz.f102) Tryz.func102 ?_
 intro Q hQ
 refine wk trivial ?_
 refine ee hQ trivial ?_
 exact Fin.whole (by simp) (.fn _ _ _ (fun _ h=>by cases h) (fun x hx=>by simp at hx;subst hx;exact .hp _ _ _ _ (by simp))) ⟨rfl,rfl⟩
theorem mh(p:Nat)(h:Heap):Sat (CT G) 103 [.hm p] h (fun r h'=>r=.fn (.func 154) [] [.hp h.length 0 0 0]∧h'=h++[.row 112 1 0 [.hm p]]):=by
 refine sb [.tmp 2] (fn:=Tryz.f103) Tryz.func103 ?_
 intro Q hQ
 refine wk trivial ?_
 refine ee hQ trivial ?_
 exact Fin.whole (by simp) (.fn _ _ _ (fun _ h=>by cases h) (fun x hx=>by simp at hx;subst hx;exact .hp _ _ _ _ (by simp))) ⟨rfl,rfl⟩
theorem ig(s:PS)(hw:WFM s.se s.c4)(hb:∀e∈s.se, -9223372036854775808≤e.1∧e.1≤9223372036854775807)(hl:s.se.length≤100000){H:Heap}{n:Nat}(hn:n+9≤H.length):Sat (CT G) 59 [.hm (n+3)] (so H n s) (fun r h'=>r=.sl 3 ((valsM Se.z s.se).map Se.av)∧h'=so H n s):=by
 have hsl:=bN (s.se.map (·.1))
 rw[List.length_map]at hsl
 refine sb [.tmp 2] (fn:=Tryz.f59) Tryz.func59 ?_
 intro Q hQ
 refine wk trivial ?_
 refine kq trivial (mh G _ _) ?_
 refine kq trivial (cm G Se.av _ Tryz.sortedKeys103 s.se s.c4 hw hb hl (by rw[bp (by simp;omega) 0 (by omega),ay _ rfl];rfl) (uu (by simp;omega))) ?_
 unfold valsM at hQ
 have hks:(List.map (fun x=>x.1) s.se).mergeSort (fun x y=>decide (x≤y))=sortI (s.se.map (·.1)):=rfl
 rw[hks]
 generalize sortI (s.se.map (·.1))=ks at*
 have hkm:(ks.map iA).length=ks.length:=List.length_map ..
 have F:=hkm
 refine lm (fun nL tL hL=>∃(k v:Nat) (acc:List Se),ks.length-k=nL∧so (H++[.row 112 1 0 [.hm (n+3)],.row 129 3 v (acc.map Se.av)]) n s=hL∧tL 0=.hm (n+3)∧tL 3=.hs (H.length+1) v 0 acc.length true∧tL 8=.sl 1 (ks.map iA)∧tL 9=.int .i64 (ks.length:Int)∧tL 10=.int .i64 k∧k≤ks.length∧acc.length=k∧acc++(ks.drop k).map (fun k=>(lkM s.se k).getD Se.z)=ks.map (fun k=>(lkM s.se k).getD Se.z)) ((fun(k v:Nat) (acc:List Se)=>(ks.length-k:Nat)) (0) (0) ([])) ?_ ?_
 ·refine⟨_,_,Weak.virt 3 129 3 (by simp) (by omega) (by exact zq F),⟨0,0,[],rfl,by rw[aU (by simp;omega)];simp,?_,?_,?_,?_,?_,by omega,rfl,by simp⟩⟩
  all_goals first|exact zq F|rfl|omega|trivial|skip
 rintro _ s2 h' ⟨k,v,acc,rfl,rfl,e0,e3,e8,e9,e10,hk,hac,hp⟩ K2 hK2
 simp only[aj,ak,Nat.reduceEqDiff, ↓reduceIte]at e0 e3 e8 e9 e10
 have F:=F6 F e0 e3 e8 e9 e10
 refine wk F ?_
 refine cq F (fun c1=>?_) (fun c1=>?_)<;>(try exact c1.elim)<;>(refine wk F ?_)
 ·have c2:k<ks.length:=by omega
  obtain⟨y,hy,hym⟩:=ah c2
  rw[aP hy,List.map_cons]at hp
  have F:=F3 F hy @ax
  try refine sq F ?_
  refine wk F ?_
  refine aq F ?_
  try refine sq F ?_
  refine wk F ?_
  refine hK2 _ _ _ (Wkn.refl ⟨k+1,v+1,acc++[(lkM s.se y).getD Se.z],rfl,by simp[Se.av],?_,?_,?_,?_,?_,by omega,by simp;omega,by rw[← hp];simp⟩) (by omega)
  all_goals first|exact zq F|rfl|omega|trivial|skip
 ·rw[bo c1,List.map_nil,List.append_nil]at hp
  refine ee hQ F ?_
  rw[← hp]
  have hbl:n+(s.bl n).length≤H.length:=hn
  have hg:getRow (so (H++[.row 112 1 0 [.hm (n+3)],.row 129 3 v (acc.map Se.av)]) n s) (H.length+1) v=some (129,3,acc.map Se.av):=by
   rw[bp (by simp;omega) v (by omega),bH _ rfl];simp[getRow]
  exact cc hbl rfl (PS.clo hn s) (Frz.data (by omega) hg (by simp) (fun r hr=>by obtain⟨a,_,rfl⟩:=List.mem_map.1 hr;exact Se.clo _ a) (fun r hr=>by obtain⟨a,_,rfl⟩:=List.mem_map.1 hr;exact a.cells_sto)) ⟨rfl,rfl⟩
theorem gE(s:PS)(hw:WFM s.it s.c3)(hb:∀e∈s.it, -9223372036854775808≤e.1∧e.1≤9223372036854775807)(hl:s.it.length≤100000){H:Heap}{n:Nat}(hn:n+9≤H.length):Sat (CT G) 58 [.hm (n+2)] (so H n s) (fun r h'=>∃v,r=.hs (H.length+1) v 0 (valsM It.z s.it).length true∧h'=so (H++[.row 91 1 0 [.hm (n+2)],.row 82 9 v ((valsM It.z s.it).map It.av)]) n s):=by
 have hsl:=bN (s.it.map (·.1))
 rw[List.length_map]at hsl
 refine sb [.tmp 2] (fn:=Tryz.f58) Tryz.func58 ?_
 intro Q hQ
 refine wk trivial ?_
 refine kq trivial (mg G _ _) ?_
 refine kq trivial (cm G It.av _ Tryz.sortedKeys102 s.it s.c3 hw hb hl (by rw[bp (by simp;omega) 0 (by omega),ay _ rfl];rfl) (lX (by simp;omega))) ?_
 unfold valsM at hQ
 have hks:(List.map (fun x=>x.1) s.it).mergeSort (fun x y=>decide (x≤y))=sortI (s.it.map (·.1)):=rfl
 rw[hks]
 generalize sortI (s.it.map (·.1))=ks at*
 have hkm:(ks.map iA).length=ks.length:=List.length_map ..
 have F:=hkm
 refine lm (fun nL tL hL=>∃(k v:Nat) (acc:List It),ks.length-k=nL∧so (H++[.row 91 1 0 [.hm (n+2)],.row 82 9 v (acc.map It.av)]) n s=hL∧tL 0=.hm (n+2)∧tL 3=.hs (H.length+1) v 0 acc.length true∧tL 8=.sl 1 (ks.map iA)∧tL 9=.int .i64 (ks.length:Int)∧tL 10=.int .i64 k∧k≤ks.length∧acc.length=k∧acc++(ks.drop k).map (fun k=>(lkM s.it k).getD It.z)=ks.map (fun k=>(lkM s.it k).getD It.z)) ((fun(k v:Nat) (acc:List It)=>(ks.length-k:Nat)) (0) (0) ([])) ?_ ?_
 ·refine⟨_,_,Weak.virt 3 82 9 (by simp) (by omega) (by exact zq F),⟨0,0,[],rfl,by rw[aU (by simp;omega)];simp,?_,?_,?_,?_,?_,by omega,rfl,by simp⟩⟩
  all_goals first|exact zq F|rfl|omega|trivial|skip
 rintro _ s2 h' ⟨k,v,acc,rfl,rfl,e0,e3,e8,e9,e10,hk,hac,hp⟩ K2 hK2
 simp only[aj,ak,Nat.reduceEqDiff, ↓reduceIte]at e0 e3 e8 e9 e10
 have F:=F6 F e0 e3 e8 e9 e10
 refine wk F ?_
 refine cq F (fun c1=>?_) (fun c1=>?_)<;>(try exact c1.elim)<;>(refine wk F ?_)
 ·have c2:k<ks.length:=by omega
  obtain⟨y,hy,hym⟩:=ah c2
  rw[aP hy,List.map_cons]at hp
  have F:=F3 F hy @ax
  try refine sq F ?_
  refine wk F ?_
  refine aq F ?_
  try refine sq F ?_
  refine wk F ?_
  refine hK2 _ _ _ (Wkn.refl ⟨k+1,v+1,acc++[(lkM s.it y).getD It.z],rfl,by simp[It.av],?_,?_,?_,?_,?_,by omega,by simp;omega,by rw[← hp];simp⟩) (by omega)
  all_goals first|exact zq F|rfl|omega|trivial|skip
 ·rw[bo c1,List.map_nil,List.append_nil]at hp
  refine ee hQ F ?_
  rw[← hp]
  have hal:acc.length=ks.length:=by omega
  exact Fin.whole (by rw[aO hn,aO (by simp;omega)];simp) (.hs _ _ _ _ _ (by rw[aO (by simp;omega)];simp)) ⟨v,by simp[hal],rfl⟩
end Go.Av
namespace Go.Av
open Go Go.Proofs Go.RowKit
attribute [local irreducible] WP WPl WPix Sat
variable (G:Nat→Option (List AVal))
theorem jB{h0:Heap}{R:AVal→Heap→Prop}{r0 r:AVal}(hz:Frz h0 h0.length r0 r)(hR:R r h0):Fin h0 h0 R r0:=by
 have:=Fin.frz (h0:=h0) (j:=[]) (R:=R) (r0:=r0) (r:=r) (by rwa [List.append_nil]) hR
 rwa [List.append_nil]at this
theorem mi(l:List Bs)(hl:l.length≤1048576)(h:Heap):Sat (CT G) 96 [.sl 1 (l.map .str)] h (fun r h'=>r=.sl 1 (l.map .str)∧h'=h):=by
 rcases l with _| ⟨a,l⟩
 ·refine sb [.tmp 2] (fn:=Tryz.f96) Tryz.func96 ?_
  intro Q hQ
  refine wk trivial ?_
  refine gi _ (by exact zq trivial) (.inl rfl) fun b=>?_
  cases b
  ·try refine sq trivial ?_
   refine wk trivial ?_
   refine dD (.inl rfl) (by simp(disch:=first|omega| (simp only[go_sem, ↓reduceIte,seval];first|done|omega)|fail) only[go_sem, ↓reduceIte,seval];rfl) (by simp(disch:=first|omega| (simp only[go_sem, ↓reduceIte,seval];first|done|omega)|fail) only[go_sem, ↓reduceIte,seval];rfl) (by simp(disch:=first|omega| (simp only[go_sem, ↓reduceIte,seval];first|done|omega)|fail) only[go_sem, ↓reduceIte,seval];rfl) (by simp(disch:=first|omega| (simp only[go_sem, ↓reduceIte,seval];first|done|omega)|fail) only[go_sem, ↓reduceIte,seval];try rfl) (by omega) (by simp only[elemsOf, ↓reduceIte];try rfl) (by simp) (fun _=>?_) (fun h=>absurd rfl h)
   try refine sq trivial ?_
   refine wk trivial ?_
   refine ee hQ trivial ?_
   exact jB (.ezs _) ⟨rfl,rfl⟩
  ·try refine sq trivial ?_
   refine wk trivial ?_
   refine ee hQ trivial ?_
   exact jB (.nils _) ⟨rfl,rfl⟩
 ·have hr:(List.map AVal.str (a::l))≠ []:=by simp
  refine sb [.tmp 2] (fn:=Tryz.f96) Tryz.func96 ?_
  intro Q hQ
  refine wk trivial ?_
  refine dD (.inl rfl) (by simp(disch:=first|omega| (simp only[go_sem, ↓reduceIte,seval];first|done|omega)|fail) only[go_sem, ↓reduceIte,seval];rfl) (by simp(disch:=first|omega| (simp only[go_sem, ↓reduceIte,seval];first|done|omega)|fail) only[go_sem, ↓reduceIte,seval];rfl) (by simp(disch:=first|omega| (simp only[go_sem, ↓reduceIte,seval];first|done|omega)|fail) only[go_sem, ↓reduceIte,seval];rfl) (by simp(disch:=first|omega| (simp only[go_sem, ↓reduceIte,seval];first|done|omega)|fail) only[go_sem, ↓reduceIte,seval];try rfl) (by omega) (by simp only[elemsOf, ↓reduceIte];try rfl) ?_ (fun h=>by simp at h) (fun _=>?_)
  ·simp[maxLen]at hl ⊢;omega
  try refine sq trivial ?_
  refine wk trivial ?_
  refine ee hQ trivial ?_
  have hg:getRow (h++[.row 9 1 0 ((a::l).map .str)]) h.length 0=some (9,1,(a::l).map .str):=by rw[ay _ rfl];simp[getRow]
  have:=Frz.data (n:=h.length) (len:=(a::l).length) (room:=true) (Nat.le_refl _) hg (by simp) (fun r hr=>by obtain⟨a,_,rfl⟩:=List.mem_map.1 hr;exact .str _) (fun r hr c hc=>by obtain⟨a,_,rfl⟩:=List.mem_map.1 hr;simp[AVal.cells]at hc;subst hc;rfl)
  simp only[List.length_cons,List.map_cons]at this
  exact Fin.frz (by simpa using this) ⟨rfl,rfl⟩
theorem dY(t:It)(ht:t.tags.length≤1048576)(h:Heap):Sat (CT G) 60 [t.av] h (fun r h'=>r=t.av∧h'=h):=by
 refine sb [.cell 2 82] (fn:=Tryz.f60) Tryz.func60 ?_
 intro Q hQ
 refine wk trivial ?_
 refine kq trivial (mi G t.tags ht _) ?_
 refine ye hQ trivial ?_
 exact Fin.plain (It.clo _ t) ⟨rfl,rfl⟩
theorem mj(s:PS)(id:Int)(ht:((lkM s.it id).getD It.z).tags.length≤1048576){H:Heap}{n:Nat}(hn:n+9≤H.length):Sat (CT G) 38 [.hp (n+8) 0 0 0,.int .i64 id] (so H n s) (fun r h'=>r=.tup [((lkM s.it id).getD It.z).av,.bool (lkM s.it id).isSome]∧h'=so H n s):=by
 refine sb [.cell 4 82,.tmp 5] (fn:=Tryz.f38) Tryz.func38 ?_
 intro Q hQ
 refine wk trivial ?_
 refine kq trivial (dY G ((lkM s.it id).getD It.z) ht _) ?_
 refine ye hQ trivial ?_
 exact ai hn (.tup _ (fun x hx=>by simp only[List.mem_cons,List.not_mem_nil,or_false]at hx;rcases hx with rfl|rfl;exact It.clo _ _;exact .bool _)) ⟨rfl,rfl⟩
end Go.Av
namespace Go.Av
open Go Go.Proofs Go.RowKit
attribute [local irreducible] WP WPl WPix Sat
variable (G:Nat→Option (List AVal))
structure St where
 clock:Int
 fo:List Fo
 fe:List Fe
 it:List It
 se:List Se
 t1:Int
 t2:Int
 t3:Int
 t4:Int
def St.av(x:St):AVal:=.agg [.int .i64 x.clock,.sl 3 (x.fo.map Fo.av),.sl 4 (x.fe.map Fe.av),.sl 9 (x.it.map It.av),.sl 3 (x.se.map Se.av),.int .i64 x.t1,.int .i64 x.t2,.int .i64 x.t3,.int .i64 x.t4]
@[go_sem] theorem St.av_eq(x:St):x.av=.agg [.int .i64 x.clock,.sl 3 (x.fo.map Fo.av),.sl 4 (x.fe.map Fe.av),.sl 9 (x.it.map It.av),.sl 3 (x.se.map Se.av),.int .i64 x.t1,.int .i64 x.t2,.int .i64 x.t3,.int .i64 x.t4]:=(rfl)
def PS.tell(s:PS):St:=⟨s.clock,valsM Fo.z s.fo,valsM Fe.z s.fe,valsM It.z s.it,valsM Se.z s.se,s.t1,s.t2,s.t3,s.t4⟩
def inI(k:Int):Prop:= -9223372036854775808≤k∧k≤9223372036854775807
structure PS.Ok (s:PS):Prop where
 w1:WFM s.fo s.c1
 w2:WFM s.fe s.c2
 w3:WFM s.it s.c3
 w4:WFM s.se s.c4
 b1:∀e∈s.fo,inI e.1
 b2:∀e∈s.fe,inI e.1
 b3:∀e∈s.it,inI e.1
 b4:∀e∈s.se,inI e.1
 l1:s.fo.length≤100000
 l2:s.fe.length≤100000
 l3:s.it.length≤100000
 l4:s.se.length≤100000
 tg:∀t∈valsM It.z s.it,t.tags.length≤1048576
theorem ii{N:Nat}{h:Heap}{α:Type}{av:α→AVal}{m:Nat}(hc:∀a,Clo N (av a))(l:List α):Frz h N (.sl m (l.map av)) (.sl m (l.map av)):=
 .clo _ (Clo.sl _ _ fun x hx=>by obtain⟨a,_,rfl⟩:=List.mem_map.1 hx;exact hc a)
theorem jC(s:PS){H j:Heap}{n p v:Nat}(hn:n+9≤H.length)(hg:getRow (H++j) (H.length+p) v=some (82,9,(valsM It.z s.it).map It.av)):
  Fin (so H n s) (so (H++j) n s) (fun r h'=>r=s.tell.av∧h'=so H n s) (.agg [.int .i64 s.clock,.sl 3 ((valsM Fo.z s.fo).map Fo.av),.sl 4 ((valsM Fe.z s.fe).map Fe.av),.hs (H.length+p) v 0 (valsM It.z s.it).length true,.sl 3 ((valsM Se.z s.se).map Se.av),.int .i64 s.t1,.int .i64 s.t2,.int .i64 s.t3,.int .i64 s.t4]):=by
 have hl:H.length+p<(H++j).length:=cj hg
 have hg':getRow (so (H++j) n s) (H.length+p) v=some (82,9,(valsM It.z s.it).map It.av):=by rw[bp (by simp;omega) v (by omega)];exact hg
 refine cc hn rfl (PS.clo hn s) (FrzL.agg (.cons (.clo _ (.int _ _)) (.cons (ii (Fo.clo _) _) (.cons (ii (Fe.clo _) _) (.cons (Frz.data (by omega) hg' (by simp) (fun r hr=>by obtain⟨a,_,rfl⟩:=List.mem_map.1 hr;exact It.clo _ a) (fun r hr=>by obtain⟨a,_,rfl⟩:=List.mem_map.1 hr;exact a.cells_sto)) (.cons (ii (Se.clo _) _) (.cons (.clo _ (.int _ _)) (.cons (.clo _ (.int _ _)) (.cons (.clo _ (.int _ _)) (.cons (.clo _ (.int _ _)) .nil))))))))) rfl) ⟨rfl,rfl⟩
theorem gF(s:PS)(hs:s.Ok){H:Heap}{n:Nat}(hn:n+9≤H.length):Sat (CT G) 22 [.hp (n+8) 0 0 0] (so H n s) (fun r h'=>r=s.tell.av∧h'=so H n s):=by
 have hvl:(valsM It.z s.it).length≤100000:=by unfold valsM;rw[List.length_map,bN,List.length_map];exact hs.l3
 refine sb [.cell 2 34] (fn:=Tryz.f22) Tryz.func22 ?_
 intro Q hQ
 refine wk trivial ?_
 refine aB 46 [8,13,18,23,44,45] [true,true,true,true,true,true,true,true,false,true,true,true,true,false,true,true,true,true,false,true,true,true,true,false,true,true,true,true,true,true,true,true,true,true,true,true,true,true,true,true,true,true,true,true,false,false] (.two 8 [false,true,true,true,false,false,false,false,false,false,true,true,true,false,false,true,true,true,false,false,true,true,true,false,false,true,true,true,true,false,true,true,true,true,false,true,true,true,true,false,true,true,true,true] (.two 13 [false,true,true,true,false,false,false,false,false,false,false,false,false,false,false,true,true,true,false,false,true,true,true,false,false,true,true,true,true,false,true,true,true,true,false,true,true,true,true,false,true,true,true,true] (.two 18 [false,true,true,true,false,false,false,false,false,false,false,false,false,false,false,false,false,false,false,false,true,true,true,false,false,true,true,true,true,false,true,true,true,true,false,true,true,true,true,false,true,true,true,true] (.two 23 [false,true,true,true,false,false,false,false,false,false,false,false,false,false,false,false,false,false,false,false,false,false,false,false,false,true,true,true,true,false,true,true,true,true,false,true,true,true,true,false,true,true,true,true] (.two 44 [] (.one 45 [] .fin) 45 [false,true,true,true,false,false,false,false,false,false,false,false,false,false,false,false,false,false,false,false,false,false,false,false,false,true,true,true,true,false,true,true,true,true,false,true,true,true,true,false,true,true,true,true] (.one 44 [] .fin)) 45 [false,true,true,true,false,false,false,false,false,false,false,false,false,false,false,false,false,false,false,false,true,true,true,false,false,true,true,true,true,false,true,true,true,true,false,true,true,true,true,false,true,true,true,true] (.one 23 [false,true,true,true,false,false,false,false,false,false,false,false,false,false,false,false,false,false,false,false,false,false,false,false,false,true,true,true,true,false,true,true,true,true,false,true,true,true,true,false,true,true,true,true] (.one 44 [] .fin))) 45 [false,true,true,true,false,false,false,false,false,false,false,false,false,false,false,true,true,true,false,false,true,true,true,false,false,true,true,true,true,false,true,true,true,true,false,true,true,true,true,false,true,true,true,true] (.one 18 [false,true,true,true,false,false,false,false,false,false,false,false,false,false,false,false,false,false,false,false,true,true,true,false,false,true,true,true,true,false,true,true,true,true,false,true,true,true,true,false,true,true,true,true] (.one 23 [false,true,true,true,false,false,false,false,false,false,false,false,false,false,false,false,false,false,false,false,false,false,false,false,false,true,true,true,true,false,true,true,true,true,false,true,true,true,true,false,true,true,true,true] (.one 44 [] .fin)))) 45 [false,true,true,true,false,false,false,false,false,false,true,true,true,false,false,true,true,true,false,false,true,true,true,false,false,true,true,true,true,false,true,true,true,true,false,true,true,true,true,false,true,true,true,true] (.one 13 [false,true,true,true,false,false,false,false,false,false,false,false,false,false,false,true,true,true,false,false,true,true,true,false,false,true,true,true,true,false,true,true,true,true,false,true,true,true,true,false,true,true,true,true] (.one 18 [false,true,true,true,false,false,false,false,false,false,false,false,false,false,false,false,false,false,false,false,true,true,true,false,false,true,true,true,true,false,true,true,true,true,false,true,true,true,true,false,true,true,true,true] (.one 23 [false,true,true,true,false,false,false,false,false,false,false,false,false,false,false,false,false,false,false,false,false,false,false,false,false,true,true,true,true,false,true,true,true,true,false,true,true,true,true,false,true,true,true,true] (.one 44 [] .fin))))) 45 [false,true,true,true,false,true,true,true,false,false,true,true,true,false,false,true,true,true,false,false,true,true,true,false,false,true,true,true,true,false,true,true,true,true,false,true,true,true,true,false,true,true,true,true] (.one 8 [false,true,true,true,false,false,false,false,false,false,true,true,true,false,false,true,true,true,false,false,true,true,true,false,false,true,true,true,true,false,true,true,true,true,false,true,true,true,true,false,true,true,true,true] (.one 13 [false,true,true,true,false,false,false,false,false,false,false,false,false,false,false,true,true,true,false,false,true,true,true,false,false,true,true,true,true,false,true,true,true,true,false,true,true,true,true,false,true,true,true,true] (.one 18 [false,true,true,true,false,false,false,false,false,false,false,false,false,false,false,false,false,false,false,false,true,true,true,false,false,true,true,true,true,false,true,true,true,true,false,true,true,true,true,false,true,true,true,true] (.one 23 [false,true,true,true,false,false,false,false,false,false,false,false,false,false,false,false,false,false,false,false,false,false,false,false,false,true,true,true,true,false,true,true,true,true,false,true,true,true,true,false,true,true,true,true] (.one 44 [] .fin)))))) (by decide+kernel) (by kernel_rfl) (by decide+kernel) ?_
 simp only[aM,aN,aA]
 try refine sq trivial ?_
 repeat' (first| (refine am ?_;try refine sq trivial ?_)| (refine ao ?_;try refine sq trivial ?_)| (refine ap ?_ ?_<;>try refine sq trivial ?_))
 all_goals try refine wk trivial ?_
 repeat' (first
  | (refine(ic G s hs.w1 hs.b1 hs.l1 (by first|omega| (simp;omega))).mono ?_;rintro r h' ⟨rfl,rfl⟩;try refine sq trivial ?_)
  | (refine(ie G s hs.w2 hs.b2 hs.l2 (by first|omega| (simp;omega))).mono ?_;rintro r h' ⟨rfl,rfl⟩;try refine sq trivial ?_)
  | (refine(ig G s hs.w4 hs.b4 hs.l4 (by first|omega| (simp;omega))).mono ?_;rintro r h' ⟨rfl,rfl⟩;try refine sq trivial ?_)
  | (refine(gE G s hs.w3 hs.b3 hs.l3 (by first|omega| (simp;omega))).mono ?_;rintro r h' ⟨v,rfl,rfl⟩;try refine sq trivial ?_)
  | (refine am ?_;try refine sq trivial ?_)| (refine ao ?_;try refine sq trivial ?_)| (refine ap ?_ ?_<;>try refine sq trivial ?_))
 all_goals try refine wk trivial ?_
 all_goals first
  | (
   refine lm (fun nL tL hL=>∃(k:Nat) (hh:Heap),(valsM It.z s.it).length-k=nL∧so hh n s=hL∧tL 2=.hp H.length 0 0 0∧tL 3=.hp (H.length+3) 0 0 0∧tL 55=.hs (H.length+2) v 0 (valsM It.z s.it).length true∧tL 56=.int .i64 ((valsM It.z s.it).length:Int)∧tL 57=.int .i64 k∧k≤(valsM It.z s.it).length∧(FrN H.length H hh∧H.length+3<hh.length)∧getRow hh H.length 0=some (34,9,[.agg [.int .i64 0,.nil (.slice none 0 0),.nil (.slice none 0 0),.nil (.slice none 0 0),.nil (.slice none 0 0),.int .i64 0,.int .i64 0,.int .i64 0,.int .i64 0]])∧getRow hh (H.length+3) 0=some (34,9,[.agg [.int .i64 s.clock,.sl 3 ((valsM Fo.z s.fo).map Fo.av),.sl 4 ((valsM Fe.z s.fe).map Fe.av),.hs (H.length+2) v 0 (valsM It.z s.it).length true,.sl 3 ((valsM Se.z s.se).map Se.av),.int .i64 s.t1,.int .i64 s.t2,.int .i64 s.t3,.int .i64 s.t4]])∧getRow hh (H.length+2) v=some (82,9,(valsM It.z s.it).map It.av)) ((fun(k:Nat) (hh:Heap)=>((valsM It.z s.it).length-k:Nat)) (0) (H++[.row 34 9 0 [.agg [.int .i64 0,.nil (.slice none 0 0),.nil (.slice none 0 0),.nil (.slice none 0 0),.nil (.slice none 0 0),.int .i64 0,.int .i64 0,.int .i64 0,.int .i64 0]],.row 91 1 0 [.hm (n+2)],.row 82 9 v ((valsM It.z s.it).map It.av),.row 34 9 0 [.agg [.int .i64 s.clock,.sl 3 ((valsM Fo.z s.fo).map Fo.av),.sl 4 ((valsM Fe.z s.fe).map Fe.av),.hs (H.length+2) v 0 (valsM It.z s.it).length true,.sl 3 ((valsM Se.z s.se).map Se.av),.int .i64 s.t1,.int .i64 s.t2,.int .i64 s.t3,.int .i64 s.t4]]])) ?_ ?_
   ·refine Wkn.refl ⟨0,H++[.row 34 9 0 [.agg [.int .i64 0,.nil (.slice none 0 0),.nil (.slice none 0 0),.nil (.slice none 0 0),.nil (.slice none 0 0),.int .i64 0,.int .i64 0,.int .i64 0,.int .i64 0]],.row 91 1 0 [.hm (n+2)],.row 82 9 v ((valsM It.z s.it).map It.av),.row 34 9 0 [.agg [.int .i64 s.clock,.sl 3 ((valsM Fo.z s.fo).map Fo.av),.sl 4 ((valsM Fe.z s.fe).map Fe.av),.hs (H.length+2) v 0 (valsM It.z s.it).length true,.sl 3 ((valsM Se.z s.se).map Se.av),.int .i64 s.t1,.int .i64 s.t2,.int .i64 s.t3,.int .i64 s.t4]]],rfl,aK,?_,?_,?_,?_,?_,by omega,⟨FrN.app _ (by omega) (FrN.refl _ _),by simp⟩,by rw[ay _ rfl];rfl,by rw[bH _ rfl];rfl,by rw[bH _ rfl];simp[getRow]⟩
    all_goals first|exact zq trivial|rfl|omega|trivial|skip
   rintro _ s2 h' ⟨k,hh,rfl,rfl,e2,e3,e55,e56,e57,hk,hfr,hg2,hgx,hgi⟩ K2 hK2
   simp only[aj,ak,Nat.reduceEqDiff, ↓reduceIte]at e2 e3 e55 e56 e57
   have F:=F5 e2 e3 e55 e56 e57
   refine wk F ?_
   obtain⟨hfr,hfl⟩:=hfr
   have hn1:n+9≤hh.length:=by omega
   refine cq F (fun c1=>?_) (fun c1=>?_)<;>(try exact c1.elim)<;>(refine wk F ?_)
   ·have c2:k<(valsM It.z s.it).length:=by omega
    obtain⟨y,hy,hym⟩:=ah c2
    have hyt:=hs.tg y hym
    have hset:((valsM It.z s.it).map It.av).set k (.agg [.int .i64 y.id,.int .i64 y.feed,.int .i64 y.date,.str y.guid,.str y.title,.str y.link,.bool y.read,.bool y.star,.sl 1 (y.tags.map .str)])=(valsM It.z s.it).map It.av:=by
     apply List.ext_getElem?
     intro q
     rw[List.getElem?_set]
     split
     ·rename_i hq;subst hq;rw[List.getElem?_map,hy];simp[c2,It.av]
     ·rfl
    have F:=F7 F c2 hy @hset hgi hgx @ax
    try refine sq F ?_
    refine wk F ?_
    refine au (dY G y hyt _) ?_
    try refine sq F ?_
    refine wk F ?_
    refine hK2 _ _ _ (Wkn.refl ⟨k+1,hh.set (H.length+2) (.row 82 9 v ((valsM It.z s.it).map It.av))++[.row 82 9 0 [y.av]],rfl,aK,?_,?_,?_,?_,?_,by omega,⟨FrN.app _ (by simp;omega) (FrN.set _ (by omega) hfr),by simp;omega⟩,by rw[bf _ (by simp;omega),bT _ _ (by omega)];exact hg2,by rw[bf _ (by simp;omega),bT _ _ (by omega)];exact hgx,by rw[bf _ (by simp;omega),gy _ _ _ _ _ (by omega),if_pos rfl]⟩) (by omega)
    all_goals first|exact zq F|rfl|omega|trivial|skip
   ·have F:=F5 F hg2 hgx hgi @ax
    try refine sq F ?_
    refine wk F ?_
    refine ye hQ F ?_
    obtain⟨j,hj⟩:=hfr.behind (by omega)
    subst hj
    have hgi2:∀b,getRow (H++j.set 0 b) (H.length+2) v=some (82,9,(valsM It.z s.it).map It.av):=fun b=>by rw[← dH b rfl,bT _ _ (by omega)];exact hgi
    rw[dH _ rfl]
    exact jC s hn (by simpa using hgi2 _))
  | (
   refine lm (fun nL tL hL=>∃(k:Nat) (hh:Heap),(valsM It.z s.it).length-k=nL∧so hh n s=hL∧tL 2=.hp H.length 0 0 0∧tL 3=.hp (H.length+1) 0 0 0∧tL 55=.hs (H.length+3) v 0 (valsM It.z s.it).length true∧tL 56=.int .i64 ((valsM It.z s.it).length:Int)∧tL 57=.int .i64 k∧k≤(valsM It.z s.it).length∧(FrN H.length H hh∧H.length+3<hh.length)∧getRow hh H.length 0=some (34,9,[.agg [.int .i64 0,.nil (.slice none 0 0),.nil (.slice none 0 0),.nil (.slice none 0 0),.nil (.slice none 0 0),.int .i64 0,.int .i64 0,.int .i64 0,.int .i64 0]])∧getRow hh (H.length+1) 0=some (34,9,[.agg [.int .i64 s.clock,.sl 3 ((valsM Fo.z s.fo).map Fo.av),.sl 4 ((valsM Fe.z s.fe).map Fe.av),.hs (H.length+3) v 0 (valsM It.z s.it).length true,.sl 3 ((valsM Se.z s.se).map Se.av),.int .i64 s.t1,.int .i64 s.t2,.int .i64 s.t3,.int .i64 s.t4]])∧getRow hh (H.length+3) v=some (82,9,(valsM It.z s.it).map It.av)) ((fun(k:Nat) (hh:Heap)=>((valsM It.z s.it).length-k:Nat)) (0) (H++[.row 34 9 0 [.agg [.int .i64 0,.nil (.slice none 0 0),.nil (.slice none 0 0),.nil (.slice none 0 0),.nil (.slice none 0 0),.int .i64 0,.int .i64 0,.int .i64 0,.int .i64 0]],.row 34 9 0 [.agg [.int .i64 s.clock,.sl 3 ((valsM Fo.z s.fo).map Fo.av),.sl 4 ((valsM Fe.z s.fe).map Fe.av),.hs (H.length+3) v 0 (valsM It.z s.it).length true,.sl 3 ((valsM Se.z s.se).map Se.av),.int .i64 s.t1,.int .i64 s.t2,.int .i64 s.t3,.int .i64 s.t4]],.row 91 1 0 [.hm (n+2)],.row 82 9 v ((valsM It.z s.it).map It.av)])) ?_ ?_
   ·refine Wkn.refl ⟨0,H++[.row 34 9 0 [.agg [.int .i64 0,.nil (.slice none 0 0),.nil (.slice none 0 0),.nil (.slice none 0 0),.nil (.slice none 0 0),.int .i64 0,.int .i64 0,.int .i64 0,.int .i64 0]],.row 34 9 0 [.agg [.int .i64 s.clock,.sl 3 ((valsM Fo.z s.fo).map Fo.av),.sl 4 ((valsM Fe.z s.fe).map Fe.av),.hs (H.length+3) v 0 (valsM It.z s.it).length true,.sl 3 ((valsM Se.z s.se).map Se.av),.int .i64 s.t1,.int .i64 s.t2,.int .i64 s.t3,.int .i64 s.t4]],.row 91 1 0 [.hm (n+2)],.row 82 9 v ((valsM It.z s.it).map It.av)],rfl,aK,?_,?_,?_,?_,?_,by omega,⟨FrN.app _ (by omega) (FrN.refl _ _),by simp⟩,by rw[ay _ rfl];rfl,by rw[bH _ rfl];rfl,by rw[bH _ rfl];simp[getRow]⟩
    all_goals first|exact zq trivial|rfl|omega|trivial|skip
   rintro _ s2 h' ⟨k,hh,rfl,rfl,e2,e3,e55,e56,e57,hk,hfr,hg2,hgx,hgi⟩ K2 hK2
   simp only[aj,ak,Nat.reduceEqDiff, ↓reduceIte]at e2 e3 e55 e56 e57
   have F:=F5 e2 e3 e55 e56 e57
   refine wk F ?_
   obtain⟨hfr,hfl⟩:=hfr
   have hn1:n+9≤hh.length:=by omega
   refine cq F (fun c1=>?_) (fun c1=>?_)<;>(try exact c1.elim)<;>(refine wk F ?_)
   ·have c2:k<(valsM It.z s.it).length:=by omega
    obtain⟨y,hy,hym⟩:=ah c2
    have hyt:=hs.tg y hym
    have hset:((valsM It.z s.it).map It.av).set k (.agg [.int .i64 y.id,.int .i64 y.feed,.int .i64 y.date,.str y.guid,.str y.title,.str y.link,.bool y.read,.bool y.star,.sl 1 (y.tags.map .str)])=(valsM It.z s.it).map It.av:=by
     apply List.ext_getElem?
     intro q
     rw[List.getElem?_set]
     split
     ·rename_i hq;subst hq;rw[List.getElem?_map,hy];simp[c2,It.av]
     ·rfl
    have F:=F7 F c2 hy @hset hgi hgx @ax
    try refine sq F ?_
    refine wk F ?_
    refine au (dY G y hyt _) ?_
    try refine sq F ?_
    refine wk F ?_
    refine hK2 _ _ _ (Wkn.refl ⟨k+1,hh.set (H.length+3) (.row 82 9 v ((valsM It.z s.it).map It.av))++[.row 82 9 0 [y.av]],rfl,aK,?_,?_,?_,?_,?_,by omega,⟨FrN.app _ (by simp;omega) (FrN.set _ (by omega) hfr),by simp;omega⟩,by rw[bf _ (by simp;omega),bT _ _ (by omega)];exact hg2,by rw[bf _ (by simp;omega),bT _ _ (by omega)];exact hgx,by rw[bf _ (by simp;omega),gy _ _ _ _ _ (by omega),if_pos rfl]⟩) (by omega)
    all_goals first|exact zq F|rfl|omega|trivial|skip
   ·have F:=F5 F hg2 hgx hgi @ax
    try refine sq F ?_
    refine wk F ?_
    refine ye hQ F ?_
    obtain⟨j,hj⟩:=hfr.behind (by omega)
    subst hj
    have hgi2:∀b,getRow (H++j.set 0 b) (H.length+3) v=some (82,9,(valsM It.z s.it).map It.av):=fun b=>by rw[← dH b rfl,bT _ _ (by omega)];exact hgi
    rw[dH _ rfl]
    exact jC s hn (by simpa using hgi2 _))
end Go.Av
namespace Go.Av
open Go Go.Proofs Go.RowKit
attribute [local irreducible] WP WPl WPix Sat
variable (G:Nat→Option (List AVal))
theorem eM(l:List Ky)(acc:List Ky):(l.foldl insK acc).length=acc.length+l.length:=by
 induction l generalizing acc with
 |nil=>rfl
 |cons x l ih=>rw[List.foldl_cons,ih,fO];simp;omega
theorem jD(h:Heap)(v u:Nat)(l l':List Ky):vo (h++vb h.length u l') h.length v l=h++vb h.length v l:=by
 unfold vo ov
 have e:(vb h.length u l').length=2:=rfl
 have e2:(vb h.length v l).length=2:=rfl
 rw[List.take_left' rfl,e2,List.drop_of_length_le (by simp[e]),List.append_nil]
theorem p3(x:St)(sp:AVal)(h:Heap)(hT:∀j,Sat (CT G) 22 [sp] (h++j) (fun r h'=>r=x.av∧h'=h++j))(hl:x.it.length≤100000)(hd:(x.it.map (·.id)).Nodup):
  Sat (CT G) 24 [sp] h (fun r h'=>r=.hp h.length 0 0 0∧h'=h++vb h.length x.it.length (srtK (x.it.map It.ky))):=by
 have hil:(x.it.map It.av).length=x.it.length:=List.length_map ..
 have hsk:∀k,Sk (((x.it.take k).map It.ky).foldl insK []):=fun k=>jz (by
  rw[List.map_map]
  exact(List.Sublist.map _ (List.take_sublist k x.it)).nodup hd)
 have hkl:∀k,(((x.it.take k).map It.ky).foldl insK []).length≤100000:=fun k=>by rw[eM];simp;omega
 obtain⟨H0,hH0⟩:∃H0,H0=h++vb h.length 0 []:=⟨_,rfl⟩
 have hl0:H0.length=h.length+2:=by rw[hH0];simp[jA]
 have F:=hil
 refine sb [.tmp 2] (fn:=Tryz.f24) Tryz.func24 ?_
 intro Q hQ
 refine wk F ?_
 refine kq F (hT _) ?_
 refine lm (fun nL tL hL=>∃(k:Nat) (j:Heap),x.it.length-k=nL∧vo (H0++j) h.length k (((x.it.take k).map It.ky).foldl insK [])=hL∧tL 12=.int .i64 k∧k≤x.it.length) ((fun(k:Nat) (j:Heap)=>(x.it.length-k:Nat)) (0) ([])) ?_ ?_
 ·refine⟨_,_,Weak.virtCell (p:=h.length) (v:=0) 135 3 (by omega) (by rw[ay _ rfl];rfl) 0 rfl,⟨0,[],rfl,by rw[List.append_nil,hH0,jD];simp[vb],?_,by omega⟩⟩
  all_goals first|exact zq F|rfl|omega|trivial|skip
 rintro _ s2 h' ⟨k,j,rfl,rfl,e12,hk⟩ K2 hK2
 simp only[aj,ak,Nat.reduceEqDiff, ↓reduceIte]at e12
 have F:=F2 F e12
 refine wk F ?_
 refine cq F (fun c1=>?_) (fun c1=>?_)<;>(try exact c1.elim)<;>(refine wk F ?_)
 ·have c2:k<x.it.length:=by omega
  obtain⟨y,hy,hym⟩:=ah c2
  have F:=F4 F hy c2 @ax
  try refine sq F ?_
  refine wk F ?_
  refine kq F (lg G (H:=H0++(j++[Blk.row 82 9 0 [y.av]])) (n:=h.length) (v:=k) (hsk k) (hkl k) y (by simp;omega)) ?_
  have ht:insK (((x.it.take k).map It.ky).foldl insK []) y.ky=((x.it.take (k+1)).map It.ky).foldl insK []:=by rw[List.take_add_one,hy];simp
  rw[ht]
  refine hK2 _ _ _ (Wkn.refl ⟨k+1,j++[.row 82 9 0 [y.av]],rfl,by simp[It.av],?_,by omega⟩) (by omega)
  all_goals first|exact zq F|rfl|omega|trivial|skip
 ·have e:k=x.it.length:=by omega
  subst e
  rw[List.take_length]
  refine ee hQ F ?_
  rw[← dJ (by omega),hH0,jD]
  exact Fin.upto (by simp) ((KeepC.refl h _).app (eK (by simp[jA]))) (.hp _ _ _ _ (by simp[jA])) ⟨rfl,rfl⟩
section
variable {l:List Ky} {H:Heap} {n v:Nat}
theorem nF(k:Ky)(e:Ev)(q:Nat)(h:Heap)(hq:getRow h q 0=some (45,7,[e.av])):Sat (CT G) 65 [k.av,.hp q 0 0 0] h (fun r h'=>r=.bool (decide (k.f=e.a))∧h'=h):=by
 have h2:getRow (h++[.row 135 3 0 [k.av]]) q 0=some (45,7,[e.av]):=by rw[bf _ (cj hq)];exact hq
 rw[Ky.av_eq,Ev.av_eq]at h2
 have F:=h2
 refine sb [.tmp 3] (fn:=Tryz.f65) Tryz.func65 ?_
 intro Q hQ
 refine wk F ?_
 refine ee hQ F ?_
 exact Fin.plain (.bool _) ⟨by rw[show(k.f==e.a)=decide (k.f=e.a)from by rw[Bool.eq_iff_iff];simp],rfl⟩
def VStepF(l:List Ky)(e:Ev)(t:It)(b:Bool):List Ky:=
 if e.kind=7 then(if b then insK l t.ky else l)else if e.kind=4 then l.filter (fun k=> !decide (k.f=e.a))else l
theorem nG(hs:Sk l)(hl:l.length≤100000)(e:Ev)(sp:AVal)(t:It)(b:Bool)(hn:n+2≤H.length)
  (hI:e.kind=7→∀j,Sat (CT G) 38 [sp,.int .i64 e.a] (vo (H++j) n v l) (fun r h'=>r=.tup [t.av,.bool b]∧h'=vo (H++j) n v l)):
  Sat (CT G) 30 [.hp n 0 0 0,sp,e.av] (vo H n v l) (fun r h'=>r=.tup []∧∃u,h'=vo H n u (VStepF l e t b)):=by
 have ct:∀N,Clo N (.tup []):=fun N=>.tup _ (fun x hx=>by simp at hx)
 have hn1:∀j:Heap,n+2≤(H++j).length:=fun j=>by simp;omega
 by_cases k7:e.kind=7
 ·have hP:=lg G (n:=n) (v:=v) (H:=H++[Blk.row 45 7 0 [e.av],Blk.row 82 9 0 [t.av]]) hs hl t (hn1 _)
  cases b with
  |true=>
   have hI1:=hI k7 [Blk.row 45 7 0 [e.av]]
   have y7:(e.kind==7)=true:=by simp[k7]
   have F:=y7
   refine sb [] (fn:=Tryz.f30) Tryz.func30 ?_
   intro Q hQ
   refine wk F ?_
   refine kq F (hI1) ?_
   refine kq F (hP) ?_
   refine ee hQ F ?_
   exact bd hn (ct _) ⟨rfl,v+1,by unfold VStepF;rw[if_pos k7];rfl⟩
  |false=>
   have hI1:=hI k7 [Blk.row 45 7 0 [e.av]]
   have y7:(e.kind==7)=true:=by simp[k7]
   have F:=y7
   refine sb [] (fn:=Tryz.f30) Tryz.func30 ?_
   intro Q hQ
   refine wk F ?_
   refine kq F (hI1) ?_
   refine ee hQ F ?_
   exact bd hn (ct _) ⟨rfl,v,by unfold VStepF;rw[if_pos k7];rfl⟩
 ·by_cases k4:e.kind=4
  ·have hD:=oX G (l:=l) (v:=v) (n:=n) (H:=H++[Blk.row 45 7 0 [e.av]]) (fun k=>decide (k.f=e.a)) 65 [.hp H.length 0 0 0] (hn1 _) (by omega) (fun a j L=>nF G a e H.length _ (by
    rw[cO (by simp;omega) 0 (by omega),List.append_assoc,ay _ rfl];rfl))
   have n7:(e.kind==7)=false:=by simp[k7]
   have y4:(e.kind==4)=true:=by simp[k4]
   have F:=F2 n7 y4
   refine sb [] (fn:=Tryz.f30) Tryz.func30 ?_
   intro Q hQ
   refine wk F ?_
   refine kq F (hD) ?_
   have F:=F2 F @ax
   try refine sq F ?_
   refine wk F ?_
   refine ee hQ F ?_
   rw[la (hn1 _)]
   exact bd hn (ct _) ⟨rfl,v,by unfold VStepF;rw[if_neg k7,if_pos k4]⟩
  ·have n7:(e.kind==7)=false:=by simp[k7]
   have n4:(e.kind==4)=false:=by simp[k4]
   have F:=F2 n7 n4
   refine sb [] (fn:=Tryz.f30) Tryz.func30 ?_
   intro Q hQ
   refine wk F ?_
   refine ee hQ F ?_
   exact bd hn (ct _) ⟨rfl,v,by unfold VStepF;rw[if_neg k7,if_neg k4]⟩
end
end Go.Av
namespace Go.Proofs
open Go.Shelf
def Tryz.lays99_ren:Go.Shelf.Ren:=⟨fun|99=>173|206=>219|n=>n,fun|9=>9|4=>4|3=>3|n=>n,fun|n=>n⟩
theorem Tryz.lays99:Go.Proofs.Lays.n99 Tryz.prog Tryz.lays99_ren:= {
 mixed:=by kernel_rfl
 f99:=Tryz.func173.trans (congrArg some (by kernel_rfl))
 f206:=Tryz.func219.trans (congrArg some (by kernel_rfl))
 t3:=Tryz.underlying3
 a3:=Tryz.isAgg3
 z3:=Tryz.sizeOf3
 v3:=Tryz.zeroValue3
 t4:=Tryz.underlying4
 a4:=Tryz.isAgg4
 z4:=Tryz.sizeOf4
 v4:=Tryz.zeroValue4
 t9:=Tryz.underlying9
 a9:=Tryz.isAgg9
 z9:=Tryz.sizeOf9
 v9:=Tryz.zeroValue9}
open Go.RowKit Go.Lib in
theorem Tryz.strings_HasPrefix(s p:ByteArray)(w:World):
  Calls Tryz.prog 173 #[.string s,.string p] w fun e w'=>e=.returned (.bool (Lib.hasPrefix s.data.toList p.data.toList))∧w'=w:=Any.strings_HasPrefix Tryz.lays99 s p w
def Tryz.lays229_ren:Go.Shelf.Ren:=⟨fun|229=>251|n=>n,fun|9=>9|40=>264|31=>80|152=>283|3=>3|0=>0|4=>4|21=>21|154=>285|n=>n,fun|n=>n⟩
theorem Tryz.lays229:Go.Proofs.Lays.n229 Tryz.prog Tryz.lays229_ren:= {
 mixed:=by kernel_rfl
 f229:=Tryz.func251.trans (congrArg some (by kernel_rfl))
 t0:=Tryz.underlying0
 a0:=Tryz.isAgg0
 z0:=Tryz.sizeOf0
 v0:=Tryz.zeroValue0
 t3:=Tryz.underlying3
 a3:=Tryz.isAgg3
 z3:=Tryz.sizeOf3
 v3:=Tryz.zeroValue3
 t4:=Tryz.underlying4
 a4:=Tryz.isAgg4
 z4:=Tryz.sizeOf4
 v4:=Tryz.zeroValue4
 t9:=Tryz.underlying9
 a9:=Tryz.isAgg9
 z9:=Tryz.sizeOf9
 v9:=Tryz.zeroValue9
 t21:=Tryz.underlying21
 a21:=Tryz.isAgg21
 z21:=Tryz.sizeOf21
 v21:=Tryz.zeroValue21
 t31:=Tryz.underlying80
 a31:=Tryz.isAgg80
 z31:=Tryz.sizeOf80
 v31:=Tryz.zeroValue80
 t40:=Tryz.underlying264
 a40:=Tryz.isAgg264
 z40:=Tryz.sizeOf264
 v40:=Tryz.zeroValue264
 t152:=Tryz.underlying283
 a152:=Tryz.isAgg283
 z152:=Tryz.sizeOf283
 v152:=Tryz.zeroValue283
 t154:=Tryz.underlying285
 a154:=Tryz.isAgg285
 z154:=Tryz.sizeOf285
 v154:=Tryz.zeroValue285}
open Go.RowKit Go.Lib in
theorem Tryz.strings_FieldsFunc(g:Nat)(lb:Array Value)(eg:∀args w,(callFunc g args).run Tryz.prog w=.ok (.enter g args) w)(p:Nat→Bool)(s:ByteArray)(w:World)(hs:s.size≤4294967296)(hp:PredAt Tryz.prog g lb encR p w):
  Calls Tryz.prog 251 #[.string s,.func (.func g) #[] lb] w fun e w'=>∃A,e=.returned (.slice (some ⟨A,0,none⟩) (Lib.goFieldsP p s).length (Lib.goFieldsP p s).length)∧w.heap.size≤A∧
   w'.ownsRow w.heap.size 9 1 (.slice (some ⟨A,0,none⟩) (Lib.goFieldsP p s).length (Lib.goFieldsP p s).length) (Lib.goFieldsP p s).length ((Lib.goFieldsP p s).map Value.string)∧Below w.heap.size w w':=Any.strings_FieldsFunc Tryz.lays229 g lb eg p s w hs hp (by kernel_rfl) (by kernel_rfl)
def Tryz.laysNm224_ren:Go.Shelf.Ren:=⟨fun|24=>98|n=>n,fun|24=>80|9=>9|3=>3|4=>4|0=>0|n=>n,fun|n=>n⟩
theorem Tryz.laysNm224:Go.Proofs.Lays2.n24 Tryz.prog Tryz.laysNm224_ren:= {
 mixed:=by kernel_rfl
 f24:=Tryz.func98.trans (congrArg some (by kernel_rfl))
 t0:=Tryz.underlying0
 a0:=Tryz.isAgg0
 z0:=Tryz.sizeOf0
 v0:=Tryz.zeroValue0
 t3:=Tryz.underlying3
 a3:=Tryz.isAgg3
 z3:=Tryz.sizeOf3
 v3:=Tryz.zeroValue3
 t4:=Tryz.underlying4
 a4:=Tryz.isAgg4
 z4:=Tryz.sizeOf4
 v4:=Tryz.zeroValue4
 t9:=Tryz.underlying9
 a9:=Tryz.isAgg9
 z9:=Tryz.sizeOf9
 v9:=Tryz.zeroValue9
 t24:=Tryz.underlying80
 a24:=Tryz.isAgg80
 z24:=Tryz.sizeOf80
 v24:=Tryz.zeroValue80
 i9:=by kernel_rfl}
open Go.RowKit Go.Lib Go.Sort in
theorem Tryz.slices_Delete_string(blk off cap i j:Nat)(zs:List (List UInt8))(w:World)(hH:Holds encStr w blk off zs.toArray)(hcap:zs.length≤cap)(hm:cap≤9223372036854775807)(hij:i≤j)(hj:j≤zs.length):
  Calls Tryz.prog 98 #[.slice (some ⟨blk,off,none⟩) zs.length cap,.int .i64 i,.int .i64 j] w fun e w'=>e=.returned (.slice (some ⟨blk,off,none⟩) (zs.length-(j-i)) cap)∧∃q,w'=putRow encStr (Sort.ahead w q) blk off (zs.take i++zs.drop j++List.replicate (j-i) []).toArray:=Any.slices_Delete_string Tryz.laysNm224 blk off cap i j zs w hH hcap hm hij hj
end Go.Proofs
namespace Go.Av
open Go Go.Proofs Go.RowKit Go.Shelf Go.Lib
def letF(r:Nat):Bool:=
 if r<192 then(decide (97≤r)&&decide (r≤122))||(decide (48≤r)&&decide (r≤57))
 else !(decide (r=215)||decide (r=247)||decide (r=65533))&& !((decide (8192≤r)&&decide (r≤8303))||(decide (12288≤r)&&decide (r≤12351)))
set_option maxHeartbeats 4000000 in
theorem jE(W:World)(r:Nat):Calls Tryz.prog 254 #[encR r] W fun e w'=>e=.returned (.bool (letF r))∧∃q,w'=W.drewN q:=by
 by_cases h0:r<192
 ·by_cases h1:97≤r<;>by_cases h2:r≤122<;>by_cases h3:48≤r<;>by_cases h4:r≤57
  all_goals first| (exfalso;omega)|skip
  all_goals
   have z0:(r:Int)<192↔r<192:=by omega
   have z1:(97:Int)≤(r:Int)↔97≤r:=by omega
   have z2:(r:Int)≤122↔r≤122:=by omega
   have z3:(48:Int)≤(r:Int)↔48≤r:=by omega
   have z4:(r:Int)≤57↔r≤57:=by omega
   go_enter Tryz.func254,Tryz.ntmps254
   go_wp2
   all_goals first| (exfalso;omega)| (go_ret;exact⟨by simp[letF,h0,h1,h2,h3,h4],0,rfl⟩)
 ·by_cases h1:r=215
  ·subst h1
   go_enter Tryz.func254,Tryz.ntmps254
   go_wp2
   all_goals first| (exfalso;omega)| (go_ret;exact⟨by simp[letF],0,rfl⟩)
  by_cases h2:r=247
  ·subst h2
   go_enter Tryz.func254,Tryz.ntmps254
   go_wp2
   all_goals first| (exfalso;omega)| (go_ret;exact⟨by simp[letF],0,rfl⟩)
  by_cases h3:r=65533
  ·subst h3
   go_enter Tryz.func254,Tryz.ntmps254
   go_wp2
   all_goals first| (exfalso;omega)| (go_ret;exact⟨by simp[letF],0,rfl⟩)
  by_cases h4:8192≤r<;>by_cases h5:r≤8303<;>by_cases h6:12288≤r<;>by_cases h7:r≤12351
  all_goals first| (exfalso;omega)|skip
  all_goals
   have z0:(r:Int)<192↔r<192:=by omega
   have z1:(r:Int)=215↔r=215:=by omega
   have z2:(r:Int)=247↔r=247:=by omega
   have z3:(r:Int)=65533↔r=65533:=by omega
   have z4:(8192:Int)≤(r:Int)↔8192≤r:=by omega
   have z5:(r:Int)≤8303↔r≤8303:=by omega
   have z6:(12288:Int)≤(r:Int)↔12288≤r:=by omega
   have z7:(r:Int)≤12351↔r≤12351:=by omega
   go_enter Tryz.func254,Tryz.ntmps254
   go_wp2
   all_goals first| (exfalso;omega)| (exfalso;simp only[beq_iff_eq]at *;omega)| (go_ret;exact⟨by simp[letF,h0,h1,h2,h3,h4,h5,h6,h7],0,rfl⟩)
set_option maxHeartbeats 4000000 in
theorem nH(w:World):PredAt Tryz.prog 253 #[] encR (fun r=> !letF r) w:=fun W r _=>by
 unfold FnGives
 have hL:=jE
 go_enter Tryz.func253,Tryz.ntmps253
 go_wp2_with (go_at_call 254;refine(hL _ _).mono ?_;rintro e w' ⟨rfl,q,rfl⟩)
 go_ret
 exact⟨rfl,_,rfl⟩
end Go.Av
namespace Go.Av
open Go Go.Proofs Go.RowKit
variable (G:Nat→Option (List AVal))
theorem jF(x:AVal)(h:Heap):Sat (CT G) 288 [x] h (fun r h'=>r=x∧h'=h):=by
 refine Sat.of_extern (fn:=Tryz.f288) (ex:=Extern.AbiNoEscape.same) Tryz.func288 (by kernel_rfl) (by kernel_rfl) (by kernel_rfl) (by kernel_rfl) fun B S μ w vs f r=>?_
 obtain⟨hl,hr⟩:=r
 match vs,hl,hr with
 | [v],_,hr=>
  refine⟨v,w,Lib.run_noEscape w v,x,h,S,μ,⟨rfl,rfl⟩,Step.refl _ _ _ _,f,?_⟩
  simpa using hr 0 x rfl
end Go.Av
namespace Go.Av
open Go Go.Proofs Go.RowKit
variable (G:Nat→Option (List AVal))
theorem ml{w w':World}(e:w'=w):Below w.heap.size w w':=by rw[e];exact Below.refl _ _
end Go.Av
namespace Go.Av
open Go Go.Proofs Go.RowKit
variable (G:Nat→Option (List AVal))
variable {G}
variable (G)
theorem j1(s p:Bs)(h:Heap):
  Sat (CT G) 173 [.str s,.str p] h (fun r h'=>r=.bool (Lib.hasPrefix s p)∧h'=h):=by
 refine Sat.of_calls (fn:=Tryz.f173) Tryz.func173 (by kernel_rfl) (by kernel_rfl) rfl rfl fun B S μ w f=>?_
 refine(Tryz.strings_HasPrefix ⟨s.toArray⟩ ⟨p.toArray⟩ w).mono fun e w' ⟨h1,h2⟩=>⟨h1,ml h2⟩
end Go.Av
namespace Go.Av
open Go Go.Proofs Go.RowKit
attribute [local irreducible] WP WPl WPix Sat
variable (G:Nat→Option (List AVal))
def bytA(b:UInt8):AVal:=.int .u8 b.toNat
def bldR(a:AVal)(q v:Nat)(s:Bs):Blk:=.row 288 2 0 [.agg [a,.hs q v 0 s.length true]]
def bufR(v:Nat)(s:Bs):Blk:=.row 5 1 v (s.map bytA)
def bldA(a:AVal)(p:Nat):Prop:=a=.nil (.pointer none)∨a=.hp p 0 0 0
theorem mm(s:Bs):bytesA (s.map bytA)=some s:=by
 induction s with
 |nil=>rfl
 |cons b s ih=>
  have hb:(UInt8.ofNat (b.toNat:Int).toNat)=b:=by simp
  simp only[List.map_cons,bytA,bytesA,hb,if_true]
  show(bytesA (s.map bytA)).map _=_
  rw[ih];rfl
@[go_sem] theorem ux(a:AVal)(q v:Nat)(s:Bs)(l:Heap):getRow (bldR a q v s::l) 0 0=some (288,2,[.agg [a,.hs q v 0 s.length true]]):=rfl
theorem b9(v:Nat)(s:Bs)(l:Heap):getRow (bufR v s::l) 0 v=some (5,1,s.map bytA):=by simp[getRow,bufR]
theorem mn:ptrConv Tryz.prog 286 300 288 2=true:=by kernel_rfl
theorem jG:ptrConv Tryz.prog 300 286 288 2=true:=by kernel_rfl
theorem rO:ptrT Tryz.prog 286=true:=by kernel_rfl
attribute [go_sem] mn jG
theorem qj(n p q v:Nat)(s:Bs)(hp:p<n)(hq:q<n):CloB n (bldR (.hp p 0 0 0) q v s):=by
 intro r hr
 simp only[List.mem_singleton]at hr
 subst hr
 refine .agg _ fun c hc=>?_
 simp only[List.mem_cons,List.mem_nil_iff,or_false]at hc
 rcases hc with rfl|rfl
 ·exact .hp _ _ _ _ hp
 ·exact .hs _ _ _ _ _ hq
theorem ij(n v:Nat)(s:Bs):CloB n (bufR v s):=by
 intro r hr
 obtain⟨b,_,rfl⟩:=List.mem_map.1 hr
 exact .int _ _
theorem p4(h:Heap)(p:Nat)(hr:(getRow h p 0).isSome=true):abin Tryz.prog h .neq 286 (.hp p 0 0 0) (.hp p 0 0 0)=some (.bool false):=by
 simp[abin,hr,rO]
theorem nI(h:Heap)(p:Nat)(x:TypeId×Nat×List AVal)(hr:getRow h p 0=some x):abin Tryz.prog h .eql 286 (.hp p 0 0 0) (.nil (.pointer none))=some (.bool false):=by
 have hk:nilKind Tryz.prog 286 (.pointer none)=true:=by kernel_rfl
 simp[abin,hk,aeqNil,hr]
theorem qk(h:Heap):abin Tryz.prog h .eql 286 (.nil (.pointer none)) (.nil (.pointer none))=some (.bool true):=by
 have hk:nilKind Tryz.prog 286 (.pointer none)=true:=by kernel_rfl
 simp[abin,hk,aeqNil]
theorem uy{h j:Heap}{x y x' y':Blk}{n:Nat}(hx:CloB n x')(hy:CloB n y'):∀(p:Nat) (k:Blk),(h++x'::y'::j)[p]? =some k→(h++x::y::j)[p]? =some k∨CloB n k:=by
 intro p k hk
 rcases Nat.lt_or_ge p h.length with h1|h1
 ·rw[List.getElem?_append_left h1]at hk ⊢;exact .inl hk
 ·rw[List.getElem?_append_right h1]at hk ⊢
  match p-h.length,hk with
  |0,hk=>simp at hk;subst hk;exact .inr hx
  |1,hk=>simp at hk;subst hk;exact .inr hy
  |i+2,hk=>exact .inl (by simpa using hk)
def bldH(h j:Heap)(a:AVal)(v:Nat)(s:Bs):Heap:=h++bldR a (h.length+1) v s::bufR v s::j
theorem bJ(h j:Heap)(a:AVal)(v:Nat)(s:Bs):(bldH h j a v s).length=h.length+(2+j.length):=by simp[bldH];omega
theorem eN(h j:Heap)(a:AVal)(v v':Nat)(s s':Bs):∀(p:Nat) (k:Blk),(bldH h j (.hp h.length 0 0 0) v' s')[p]? =some k→(bldH h j a v s)[p]? =some k∨CloB (bldH h j a v s).length k:=by
 rw[bJ]
 exact uy (qj _ _ _ _ _ (by omega) (by omega)) (ij _ _ _)
theorem eh(a:AVal)(h j:Heap)(v:Nat)(s:Bs)(ha:bldA a h.length):
  Sat (CT G) 284 [.hp h.length 0 0 0] (bldH h j a v s) (fun r h'=>r=.tup []∧h'=bldH h j (.hp h.length 0 0 0) v s):=by
 have hK:=eN h j a v v s s
 have hl:=(bJ h j (.hp h.length 0 0 0) v s).trans (bJ h j a v s).symm
 have hfin:∀t',Fin (bldH h j a v s) (bldH h j (.hp h.length 0 0 0) v s) (fun r h'=>r=.tup []∧h'=bldH h j (.hp h.length 0 0 0) v s) t'∨True:=fun _=>.inr trivial
 have end_:Fin (bldH h j a v s) (bldH h j (.hp h.length 0 0 0) v s) (fun r h'=>r=.tup []∧h'=bldH h j (.hp h.length 0 0 0) v s) (.tup []):=Fin.keep0 hl hK (.tup _ (by simp)) ⟨rfl,rfl⟩
 clear hfin hK hl
 unfold bldH at*
 refine sb [] (fn:=Tryz.f284) Tryz.func284 ?_
 intro Q hQ
 (repeat (first|refine w1 (fun K hK=>?_)|refine w2 ?_|refine w3 ?_| ((first|refine w4 ?_|refine wD ?_|refine w5 ?_|refine w6 ?_|refine w7 ?_);try refine dF trivial ?_)| (refine w8 ?_;refine dF trivial ?_;refine w9 ?_)| ((first|refine hK _ _ (w0 ?_)| (clear hK K;refine hK _ _ (w0 ?_))| (clear hK K;clear hK K;refine hK _ _ (w0 ?_)));clear hK K)))
 rcases ha with rfl|rfl
 ·rw[ni,qk]
  simp(disch:=first|omega| (simp only[go_sem, ↓reduceIte,Nat.reduceEqDiff];done)|fail) only[go_sem, ↓reduceIte,Int.reduceToNat,Int.reduceLE,Int.reduceLT,Int.reduceSub,Int.reduceAdd,Nat.reduceEqDiff,Nat.reduceAdd,Nat.reduceLeDiff,Nat.reduceLT,Nat.reduceMul,Nat.reduceSub]
  (repeat (first|refine w1 (fun K hK=>?_)|refine w2 ?_|refine w3 ?_| ((first|refine w4 ?_|refine wD ?_|refine w5 ?_|refine w6 ?_|refine w7 ?_);try refine dF trivial ?_)| (refine w8 ?_;refine dF trivial ?_;refine w9 ?_)| ((first|refine hK _ _ (w0 ?_)| (clear hK K;refine hK _ _ (w0 ?_))| (clear hK K;clear hK K;refine hK _ _ (w0 ?_)));clear hK K)))
  refine⟨by simp,?_⟩
  refine(jF G _ _).mono ?_
  rintro r h' ⟨rfl,rfl⟩
  simp(disch:=first|omega| (simp only[go_sem, ↓reduceIte,Nat.reduceEqDiff];done)|fail) only[go_sem, ↓reduceIte,Int.reduceToNat,Int.reduceLE,Int.reduceLT,Int.reduceSub,Int.reduceAdd,Nat.reduceEqDiff,Nat.reduceAdd,Nat.reduceLeDiff,Nat.reduceLT,Nat.reduceMul,Nat.reduceSub,List.cons_ne_nil]
  refine(hQ _ _ ?_).2
  simp(disch:=first|omega| (simp only[go_sem, ↓reduceIte,Nat.reduceEqDiff];done)|fail) only[go_sem, ↓reduceIte,Int.reduceToNat,Int.reduceLE,Int.reduceLT,Int.reduceSub,Int.reduceAdd,Nat.reduceEqDiff,Nat.reduceAdd,Nat.reduceLeDiff,Nat.reduceLT,Nat.reduceMul,Nat.reduceSub]
  exact end_
 ·rw[oE,nI _ _ _ (by simp(disch:=first|omega| (simp only[go_sem, ↓reduceIte,Nat.reduceEqDiff];done)|fail) only[go_sem, ↓reduceIte,Int.reduceToNat,Int.reduceLE,Int.reduceLT,Int.reduceSub,Int.reduceAdd,Nat.reduceEqDiff,Nat.reduceAdd,Nat.reduceLeDiff,Nat.reduceLT,Nat.reduceMul,Nat.reduceSub];rfl)]
  simp(disch:=first|omega| (simp only[go_sem, ↓reduceIte,Nat.reduceEqDiff];done)|fail) only[go_sem, ↓reduceIte,Int.reduceToNat,Int.reduceLE,Int.reduceLT,Int.reduceSub,Int.reduceAdd,Nat.reduceEqDiff,Nat.reduceAdd,Nat.reduceLeDiff,Nat.reduceLT,Nat.reduceMul,Nat.reduceSub]
  (repeat (first|refine w1 (fun K hK=>?_)|refine w2 ?_|refine w3 ?_| ((first|refine w4 ?_|refine wD ?_|refine w5 ?_|refine w6 ?_|refine w7 ?_);try refine dF trivial ?_)| (refine w8 ?_;refine dF trivial ?_;refine w9 ?_)| ((first|refine hK _ _ (w0 ?_)| (clear hK K;refine hK _ _ (w0 ?_))| (clear hK K;clear hK K;refine hK _ _ (w0 ?_)));clear hK K)))
  rw[p4 _ _ (by exact dG trivial)]
  simp(disch:=first|omega| (simp only[go_sem, ↓reduceIte,Nat.reduceEqDiff];done)|fail) only[go_sem, ↓reduceIte,Int.reduceToNat,Int.reduceLE,Int.reduceLT,Int.reduceSub,Int.reduceAdd,Nat.reduceEqDiff,Nat.reduceAdd,Nat.reduceLeDiff,Nat.reduceLT,Nat.reduceMul,Nat.reduceSub]
  (repeat (first|refine w1 (fun K hK=>?_)|refine w2 ?_|refine w3 ?_| ((first|refine w4 ?_|refine wD ?_|refine w5 ?_|refine w6 ?_|refine w7 ?_);try refine dF trivial ?_)| (refine w8 ?_;refine dF trivial ?_;refine w9 ?_)| ((first|refine hK _ _ (w0 ?_)| (clear hK K;refine hK _ _ (w0 ?_))| (clear hK K;clear hK K;refine hK _ _ (w0 ?_)));clear hK K)))
  refine(hQ _ _ ?_).2
  simp(disch:=first|omega| (simp only[go_sem, ↓reduceIte,Nat.reduceEqDiff];done)|fail) only[go_sem, ↓reduceIte,Int.reduceToNat,Int.reduceLE,Int.reduceLT,Int.reduceSub,Int.reduceAdd,Nat.reduceEqDiff,Nat.reduceAdd,Nat.reduceLeDiff,Nat.reduceLT,Nat.reduceMul,Nat.reduceSub]
  exact end_
theorem ce:byT Tryz.prog 5=some 1:=by kernel_rfl
theorem bO(h:Heap)(es:List AVal):elemsOf h 1 (.sl 1 es)=some es:=by simp[elemsOf]
theorem dK:(zroT Tryz.prog 5).map (fun z=>z.cells.length)=some 1:=by simp only[go_sem]
theorem j2(a:AVal)(h j:Heap)(v:Nat)(s:Bs)(b:UInt8)(ha:bldA a h.length)(hs:s.length+1≤1073741824):
  Sat (CT G) 280 [.hp h.length 0 0 0,.int .u8 b.toNat] (bldH h j a v s) (fun r h'=>r=.nil .nilIface∧h'=bldH h j (.hp h.length 0 0 0) (v+1) (s++[b])):=by
 have end_:Fin (bldH h j a v s) (bldH h j (.hp h.length 0 0 0) (v+1) (s++[b])) (fun r h'=>r=.nil .nilIface∧h'=bldH h j (.hp h.length 0 0 0) (v+1) (s++[b])) (.nil .nilIface):=
  Fin.keep0 ((bJ ..).trans (bJ ..).symm) (eN _ _ _ _ _ _ _) (.nil _) ⟨rfl,rfl⟩
 refine sb [.tmp 4] (fn:=Tryz.f280) Tryz.func280 ?_
 intro Q hQ
 refine bm trivial ?_
 refine(eh G a h j v s ha).mono ?_
 rintro r h' ⟨rfl,rfl⟩
 unfold bldH at*
 try refine dF trivial ?_
 refine bm trivial ?_
 refine aZ (.inl rfl) (by exact dG trivial) (by exact dG trivial) ce dK (by omega) (bO _ _) (by simp(disch:=first|omega| (simp only[go_sem, ↓reduceIte,Nat.reduceEqDiff];done)|fail) only[go_sem, ↓reduceIte,Int.reduceToNat,Int.reduceLE,Int.reduceLT,Int.reduceSub,Int.reduceAdd,Nat.reduceEqDiff,Nat.reduceAdd,Nat.reduceLeDiff,Nat.reduceLT,Nat.reduceMul,Nat.reduceSub,b9];rfl) (by simp) ?_ ?_
 ·simp[maxLen];omega
 simp(disch:=first|omega| (simp only[go_sem, ↓reduceIte,Nat.reduceEqDiff];done)|fail) only[go_sem, ↓reduceIte,Int.reduceToNat,Int.reduceLE,Int.reduceLT,Int.reduceSub,Int.reduceAdd,Nat.reduceEqDiff,Nat.reduceAdd,Nat.reduceLeDiff,Nat.reduceLT,Nat.reduceMul,Nat.reduceSub]
 refine bm trivial ?_
 refine ft hQ trivial ?_
 simp only[bldR,bufR,List.length_append,List.map_append,List.length_cons,List.length_nil,List.map_cons,List.map_nil,bytA,Nat.zero_add]at end_ ⊢
 exact end_
theorem ql(a:AVal)(h j:Heap)(v:Nat)(s:Bs):Sat (CT G) 278 [.hp h.length 0 0 0] (bldH h j a v s) (fun r h'=>r=.int .i64 s.length∧h'=bldH h j a v s):=by
 have end_:Fin (bldH h j a v s) (bldH h j a v s) (fun r h'=>r=.int .i64 s.length∧h'=bldH h j a v s) (.int .i64 s.length):=Fin.same (.int _ _) ⟨rfl,rfl⟩
 unfold bldH at*
 have F:= @b9
 refine sb [.tmp 2] (fn:=Tryz.f278) Tryz.func278 ?_
 intro Q hQ
 refine bm F ?_
 refine bm F ?_
 refine ft hQ F ?_
 exact end_
theorem rP:bptr Tryz.prog 299 5=true:=by kernel_rfl
theorem gG(a:AVal)(h j:Heap)(v:Nat)(s:Bs):Sat (CT G) 274 [.hp h.length 0 0 0] (bldH h j a v s) (fun r h'=>r=.str s∧∃b,h'=h++bldR a (h.length+1) v s::b::j):=by
 unfold bldH
 have F:= @b9
 refine sb [.tmp 2] (fn:=Tryz.f274) Tryz.func274 ?_
 intro Q hQ
 refine bm F ?_
 have fin:∀b,Fin (h++bldR a (h.length+1) v s::bufR v s::j) (h++bldR a (h.length+1) v s::b::j) (fun r h'=>r=.str s∧∃b,h'=h++bldR a (h.length+1) v s::b::j) (.str s)∨¬(b=bufR v s∨b=.dead):=fun b=>by
  by_cases hb:b=bufR v s∨b=.dead
  ·refine .inl (Fin.keep0 (by simp) (fun p k hk=>?_) (.str _) ⟨rfl,b,rfl⟩)
   rcases Nat.lt_or_ge p h.length with h1|h1
   ·rw[List.getElem?_append_left h1]at hk ⊢;exact .inl hk
   ·rw[List.getElem?_append_right h1]at hk ⊢
    match p-h.length,hk with
    |0,hk=>exact .inl (by simpa using hk)
    |1,hk=>
     simp at hk;subst hk
     rcases hb with rfl|rfl
     ·exact .inl (by simp)
     ·exact .inr trivial
    |i+2,hk=>exact .inl (by simpa using hk)
  ·exact .inr hb
 rcases Nat.eq_zero_or_pos s.length with h0|h0
 ·have hs:s=[]:=List.length_eq_zero_iff.1 h0
  subst hs
  simp(disch:=first|omega| (simp only[go_sem, ↓reduceIte,Nat.reduceEqDiff];done)|fail) only[go_sem, ↓reduceIte,Int.reduceToNat,Int.reduceLE,Int.reduceLT,Int.reduceSub,Int.reduceAdd,Nat.reduceEqDiff,Nat.reduceAdd,Nat.reduceLeDiff,Nat.reduceLT,Nat.reduceMul,Nat.reduceSub,F,List.length_nil,Nat.lt_irrefl,Int.natCast_zero]
  refine bm F ?_
  refine ft hQ F ?_
  rcases fin (bufR v [])with f|f
  ·exact f
  ·exact absurd (.inl rfl) f
 ·simp(disch:=first|omega| (simp only[go_sem, ↓reduceIte,Nat.reduceEqDiff];done)|fail) only[go_sem, ↓reduceIte,Int.reduceToNat,Int.reduceLE,Int.reduceLT,Int.reduceSub,Int.reduceAdd,Nat.reduceEqDiff,Nat.reduceAdd,Nat.reduceLeDiff,Nat.reduceLT,Nat.reduceMul,Nat.reduceSub,F,h0]
  refine oF h0 (by simp(disch:=first|omega| (simp only[go_sem, ↓reduceIte,Nat.reduceEqDiff];done)|fail) only[go_sem, ↓reduceIte,Int.reduceToNat,Int.reduceLE,Int.reduceLT,Int.reduceSub,Int.reduceAdd,Nat.reduceEqDiff,Nat.reduceAdd,Nat.reduceLeDiff,Nat.reduceLT,Nat.reduceMul,Nat.reduceSub,F];rfl) rP (by simp) (by rw[List.take_of_length_le (by simp)];exact mm s) ?_
  try refine dF F ?_
  refine bm F ?_
  refine ft hQ F ?_
  rcases fin .dead with f|f
  ·exact f
  ·exact absurd (.inr rfl) f
end Go.Av
namespace Go.Av
open Go Go.Proofs Go.RowKit
attribute [local irreducible] WP WPl WPix Sat
variable (G:Nat→Option (List AVal))
def enc(r:Int):Bs:=(Utf8.encode r).data.toList
def Rune(r:Int):Prop:=0≤r∧(r<55296∨57343<r∧r≤1114111)
theorem Rune.valid{r:Int}(h:Rune r):Utf8.valid r=true:=by
 unfold Utf8.valid;obtain⟨h0,h1⟩:=h;simp;omega
theorem aY(n:Nat)(h:n<256):bytA (UInt8.ofNat n)=.int .u8 n:=by
 simp[bytA];omega
theorem yT{r:Int}(h0:0≤r)(h1:r<128):(enc r).map bytA=[.int .u8 r]:=by
 have hv:=Rune.valid (r:=r) ⟨h0,by omega⟩
 unfold enc Utf8.encode
 simp only[hv,if_true]
 rw[if_pos (by omega)]
 simp only[List.map_cons,List.map_nil]
 rw[aY _ (by omega)]
 simp only[List.cons.injEq,AVal.int.injEq,and_true,true_and]
 omega
theorem yU{r:Int}(h0:128≤r)(h1:r<2048):(enc r).map bytA=[.int .u8 (192+r/64),.int .u8 (128+r%64)]:=by
 have hv:=Rune.valid (r:=r) ⟨by omega,by omega⟩
 unfold enc Utf8.encode
 simp only[hv,if_true]
 rw[if_neg (by omega),if_pos (by omega)]
 simp only[List.map_cons,List.map_nil]
 rw[aY _ (by omega),aY _ (by omega)]
 simp only[List.cons.injEq,AVal.int.injEq,and_true,true_and]
 omega
theorem rQ{r:Int}(h:Rune r)(h0:2048≤r)(h1:r<65536):(enc r).map bytA=[.int .u8 (224+r/4096),.int .u8 (128+r/64%64),.int .u8 (128+r%64)]:=by
 have hv:=h.valid
 unfold enc Utf8.encode
 simp only[hv,if_true]
 rw[if_neg (by omega),if_neg (by omega),if_pos (by omega)]
 simp only[List.map_cons,List.map_nil]
 rw[aY _ (by omega),aY _ (by omega),aY _ (by omega)]
 simp only[List.cons.injEq,AVal.int.injEq,and_true,true_and]
 omega
theorem yV{r:Int}(h0:65536≤r)(h1:r≤1114111):(enc r).map bytA=[.int .u8 (240+r/262144),.int .u8 (128+r/4096%64),.int .u8 (128+r/64%64),.int .u8 (128+r%64)]:=by
 have hv:=Rune.valid (r:=r) ⟨by omega,by omega⟩
 unfold enc Utf8.encode
 simp only[hv,if_true]
 rw[if_neg (by omega),if_neg (by omega),if_neg (by omega)]
 simp only[List.map_cons,List.map_nil]
 rw[aY _ (by omega),aY _ (by omega),aY _ (by omega),aY _ (by omega)]
 simp only[List.cons.injEq,AVal.int.injEq,and_true,true_and]
 omega
theorem eU(r:Int):1≤(enc r).length∧(enc r).length≤4:=by
 unfold enc Utf8.encode
 simp only[]
 generalize (if Utf8.valid r=true then r.toNat else Utf8.runeError)=c
 by_cases h1:c<128
 ·rw[if_pos h1];exact⟨by simp,by simp⟩
 ·rw[if_neg h1]
  by_cases h2:c<2048
  ·rw[if_pos h2];exact⟨by simp,by simp⟩
  ·rw[if_neg h2]
   by_cases h3:c<65536
   ·rw[if_pos h3];exact⟨by simp,by simp⟩
   ·rw[if_neg h3];exact⟨by simp,by simp⟩
theorem il(P:Program)(h:Heap)(T:TypeId)(a b:Int)(k:IntKind)(hb:0≤b)(hb2:b<32):abin P h .shr T (.int .i32 a) (.int k b)=some (.int .i32 (a/2^b.toNat)):=by
 simp only[abin]
 rw[if_neg (by omega)]
 have:min b.toNat (IntKind.bits .i32)=b.toNat:=by simp[IntKind.bits];omega
 rw[this,Int.fdiv_eq_ediv_of_nonneg _ (by exact Int.le_of_lt (Int.pow_pos (by omega)))]
theorem wrap_u8(x:Int):IntKind.wrap .u8 x=x%256:=IntKind.wrap_u8 x
theorem wrap_u32(x:Int)(h0:0≤x)(h1:x<4294967296):IntKind.wrap .u32 x=x:=by rw[IntKind.wrap_u32];omega
theorem eV(n m:Nat)(h:n+m<256)(hh:∀x:_root_.Fin 256,x.val≤m→(BitVec.ofInt 8 n|||BitVec.ofInt 8 (x.val:Int)).toNat=n+x.val)(x:Int)(h0:0≤x)(h1:x≤m):aint .or .u8 n x=some (.int .u8 (n+x)):=by
 have e:(BitVec.ofInt 8 n|||BitVec.ofInt 8 ((x.toNat:Nat):Int)).toNat=n+x.toNat:=hh ⟨x.toNat,by omega⟩ (by simp;omega)
 rw[show x=((x.toNat:Nat):Int)from by omega]
 show some (AVal.int .u8 (IntKind.wrap .u8 (BitVec.ofInt 8 n|||BitVec.ofInt 8 ((x.toNat:Nat):Int)).toNat))=_
 rw[e,wrap_u8]
 congr 2;omega
theorem uz(x:Int)(h0:0≤x)(h1:x≤31):aint .or .u8 192 x=some (.int .u8 (192+x)):=eV 192 31 (by omega) (by decide+kernel) x h0 h1
theorem uA(x:Int)(h0:0≤x)(h1:x≤15):aint .or .u8 224 x=some (.int .u8 (224+x)):=eV 224 15 (by omega) (by decide+kernel) x h0 h1
theorem uB(x:Int)(h0:0≤x)(h1:x≤7):aint .or .u8 240 x=some (.int .u8 (240+x)):=eV 240 7 (by omega) (by decide+kernel) x h0 h1
theorem uC(x:Int)(h0:0≤x)(h1:x≤63):aint .or .u8 128 x=some (.int .u8 (128+x)):=eV 128 63 (by omega) (by decide+kernel) x h0 h1
theorem uD(x:Int)(h0:0≤x)(h1:x<256):aint .and .u8 x 63=some (.int .u8 (x%64)):=by
 have hh:∀x:_root_.Fin 256,(BitVec.ofInt 8 (x.val:Int)&&&BitVec.ofInt 8 63).toNat=x.val%64:=by decide+kernel
 have e:(BitVec.ofInt 8 ((x.toNat:Nat):Int)&&&BitVec.ofInt 8 63).toNat=x.toNat%64:=hh ⟨x.toNat,by omega⟩
 rw[show x=((x.toNat:Nat):Int)from by omega]
 show some (AVal.int .u8 (IntKind.wrap .u8 (BitVec.ofInt 8 ((x.toNat:Nat):Int)&&&BitVec.ofInt 8 63).toNat))=_
 rw[e,wrap_u8]
 congr 2;omega
theorem mq(P:Program)(h:Heap)(T:TypeId)(x:Int)(h0:0≤x)(h1:x≤31):abin P h .or T (.int .u8 192) (.int .u8 x)=some (.int .u8 (192+x)):=by simpa only[abin,if_true]using uz x h0 h1
theorem mr(P:Program)(h:Heap)(T:TypeId)(x:Int)(h0:0≤x)(h1:x≤15):abin P h .or T (.int .u8 224) (.int .u8 x)=some (.int .u8 (224+x)):=by simpa only[abin,if_true]using uA x h0 h1
theorem mt(P:Program)(h:Heap)(T:TypeId)(x:Int)(h0:0≤x)(h1:x≤7):abin P h .or T (.int .u8 240) (.int .u8 x)=some (.int .u8 (240+x)):=by simpa only[abin,if_true]using uB x h0 h1
theorem mu(P:Program)(h:Heap)(T:TypeId)(x:Int)(h0:0≤x)(h1:x≤63):abin P h .or T (.int .u8 128) (.int .u8 x)=some (.int .u8 (128+x)):=by simpa only[abin,if_true]using uC x h0 h1
theorem mw(P:Program)(h:Heap)(T:TypeId)(x:Int)(h0:0≤x)(h1:x<256):abin P h .and T (.int .u8 x) (.int .u8 63)=some (.int .u8 (x%64)):=by simpa only[abin,if_true]using uD x h0 h1
theorem yW(P:Program)(h:Heap)(T:TypeId)(a:Int):abin P h .shr T (.int .i32 a) (.int .u64 6)=some (.int .i32 (a/64)):=by rw[il _ _ _ _ _ _ (by omega) (by omega)];rfl
theorem uE(P:Program)(h:Heap)(T:TypeId)(a:Int):abin P h .shr T (.int .i32 a) (.int .u64 12)=some (.int .i32 (a/4096)):=by rw[il _ _ _ _ _ _ (by omega) (by omega)];rfl
theorem uF(P:Program)(h:Heap)(T:TypeId)(a:Int):abin P h .shr T (.int .i32 a) (.int .u64 18)=some (.int .i32 (a/262144)):=by rw[il _ _ _ _ _ _ (by omega) (by omega)];rfl
theorem iL(k:IntKind)(n:Int):aconv Tryz.prog 21 5 (.int k n)=some (.int .u8 (n%256)):=by simp only[aconv,go_sem,wrap_u8]
theorem gH(k:IntKind)(n:Int)(h0:0≤n)(h1:n<4294967296):aconv Tryz.prog 21 232 (.int k n)=some (.int .u32 n):=by simp only[aconv,go_sem,wrap_u32 n h0 h1]
theorem dz(r:Int)(hr:Rune r)(h1:128≤r)(h j:Heap)(X:Blk)(v:Nat)(s:Bs)(hs:s.length≤1073741824):
  Sat (CT G) 289 [.hs (h.length+1) v 0 s.length true,.int .i32 r] (h++X::bufR v s::j)
   (fun x h'=>x=.hs (h.length+1) (v+1) 0 (s.length+(enc r).length) true∧h'=h++X::bufR (v+1) (s++enc r)::j):=by
 have end_:∀l,l=enc r→Fin (h++X::bufR v s::j) (h++X::bufR (v+1) (s++l)::j) (fun x h'=>x=.hs (h.length+1) (v+1) 0 (s.length+(enc r).length) true∧h'=h++X::bufR (v+1) (s++enc r)::j) (.hs (h.length+1) (v+1) 0 (s.length+l.length) true):=fun l hl=>by
  subst hl
  refine Fin.keep0 (by simp) (fun p k hk=>?_) (.hs _ _ _ _ _ (by simp)) ⟨rfl,rfl⟩
  rcases Nat.lt_or_ge p h.length with h1|h1
  ·rw[List.getElem?_append_left h1]at hk ⊢;exact .inl hk
  ·rw[List.getElem?_append_right h1]at hk ⊢
   match p-h.length,hk with
   |0,hk=>exact .inl hk
   |1,hk=>simp at hk;subst hk;exact .inr (ij _ _ _)
   |i+2,hk=>exact .inl hk
 have F:=F2 (F9 @iL @gH @yW @uE @uF @mq @mr @mt @mu) (F3 @mw @wrap_u8 @wrap_u32)
 obtain⟨hr0,hr1⟩:=hr
 refine sb [.tmp 4] (fn:=Tryz.f289) Tryz.func289 ?_
 intro Q hQ
 refine bm F ?_
 refine kZ F (fun hc=>?_) (fun hc=>?_)<;>(try exact hc.elim)<;>(refine bm F ?_)
 ·refine aZ (.inl rfl) (by exact dG F) (by exact dG F) ce dK (by omega) (bO _ _) (by simp(disch:=first|omega| (simp only[go_sem, ↓reduceIte,Nat.reduceEqDiff];done)|fail) only[go_sem, ↓reduceIte,Int.reduceToNat,Int.reduceLE,Int.reduceLT,Int.reduceSub,Int.reduceAdd,Nat.reduceEqDiff,Nat.reduceAdd,Nat.reduceLeDiff,Nat.reduceLT,Nat.reduceMul,Nat.reduceSub,F,b9];rfl) (by simp) ?_ ?_
  ·simp[maxLen];omega
  simp(disch:=first|omega| (simp only[go_sem, ↓reduceIte,Nat.reduceEqDiff];done)|fail) only[go_sem, ↓reduceIte,Int.reduceToNat,Int.reduceLE,Int.reduceLT,Int.reduceSub,Int.reduceAdd,Nat.reduceEqDiff,Nat.reduceAdd,Nat.reduceLeDiff,Nat.reduceLT,Nat.reduceMul,Nat.reduceSub,F]
  refine bm F ?_
  refine ft hQ F ?_
  have e:=yU h1 (by omega)
  have le:(enc r).length=2:=by simpa using congrArg List.length e
  have:=end_ _ rfl
  simp only[bufR,List.map_append,e,le]at this
  have m0:r/64%256=r/64:=by omega
  have m1:r%256%64=r%64:=by omega
  simp only[bufR,List.map_append,e,le,m0,m1,List.length_cons,List.length_nil,Nat.zero_add,Nat.reduceAdd]
  exact this
 ·refine kZ F (fun hc=>?_) (fun hc=>?_)<;>(try exact hc.elim)<;>(refine bm F ?_)
  ·refine kZ F (fun hc=>?_) (fun hc=>?_)<;>(try exact hc.elim)<;>(refine bm F ?_)
   ·refine aZ (.inl rfl) (by exact dG F) (by exact dG F) ce dK (by omega) (bO _ _) (by simp(disch:=first|omega| (simp only[go_sem, ↓reduceIte,Nat.reduceEqDiff];done)|fail) only[go_sem, ↓reduceIte,Int.reduceToNat,Int.reduceLE,Int.reduceLT,Int.reduceSub,Int.reduceAdd,Nat.reduceEqDiff,Nat.reduceAdd,Nat.reduceLeDiff,Nat.reduceLT,Nat.reduceMul,Nat.reduceSub,F,b9];rfl) (by simp) ?_ ?_
    ·simp[maxLen];omega
    simp(disch:=first|omega| (simp only[go_sem, ↓reduceIte,Nat.reduceEqDiff];done)|fail) only[go_sem, ↓reduceIte,Int.reduceToNat,Int.reduceLE,Int.reduceLT,Int.reduceSub,Int.reduceAdd,Nat.reduceEqDiff,Nat.reduceAdd,Nat.reduceLeDiff,Nat.reduceLT,Nat.reduceMul,Nat.reduceSub,F]
    refine bm F ?_
    refine ft hQ F ?_
    have e:=rQ ⟨hr0,hr1⟩ (by omega) (by omega)
    have le:(enc r).length=3:=by simpa using congrArg List.length e
    have:=end_ _ rfl
    simp only[bufR,List.map_append,e,le]at this
    have m0:r/4096%256=r/4096:=by omega
    have m1:r/64%256%64=r/64%64:=by omega
    have m2:r%256%64=r%64:=by omega
    simp only[bufR,List.map_append,e,le,m0,m1,m2,List.length_cons,List.length_nil,Nat.zero_add,Nat.reduceAdd]
    exact this
   ·exfalso;omega
  ·(first|refine vu F (fun hg=>?_) (fun hg=>?_)|refine pqo F (fun hg=>?_) (fun hg=>?_))<;>(try exact hg.elim)<;>(try refine dF F ?_)<;>(refine bm F ?_)
   ·refine kZ F (fun hc=>?_) (fun hc=>?_)<;>(try exact hc.elim)<;>(refine bm F ?_)
    ·refine aZ (.inl rfl) (by exact dG F) (by exact dG F) ce dK (by omega) (bO _ _) (by simp(disch:=first|omega| (simp only[go_sem, ↓reduceIte,Nat.reduceEqDiff];done)|fail) only[go_sem, ↓reduceIte,Int.reduceToNat,Int.reduceLE,Int.reduceLT,Int.reduceSub,Int.reduceAdd,Nat.reduceEqDiff,Nat.reduceAdd,Nat.reduceLeDiff,Nat.reduceLT,Nat.reduceMul,Nat.reduceSub,F,b9];rfl) (by simp) ?_ ?_
     ·simp[maxLen];omega
     simp(disch:=first|omega| (simp only[go_sem, ↓reduceIte,Nat.reduceEqDiff];done)|fail) only[go_sem, ↓reduceIte,Int.reduceToNat,Int.reduceLE,Int.reduceLT,Int.reduceSub,Int.reduceAdd,Nat.reduceEqDiff,Nat.reduceAdd,Nat.reduceLeDiff,Nat.reduceLT,Nat.reduceMul,Nat.reduceSub,F]
     refine bm F ?_
     refine ft hQ F ?_
     have e:=rQ ⟨hr0,hr1⟩ (by omega) (by omega)
     have le:(enc r).length=3:=by simpa using congrArg List.length e
     have:=end_ _ rfl
     simp only[bufR,List.map_append,e,le]at this
     have m0:r/4096%256=r/4096:=by omega
     have m1:r/64%256%64=r/64%64:=by omega
     have m2:r%256%64=r%64:=by omega
     simp only[bufR,List.map_append,e,le,m0,m1,m2,List.length_cons,List.length_nil,Nat.zero_add,Nat.reduceAdd]
     exact this
    ·(first|refine vu F (fun hg=>?_) (fun hg=>?_)|refine pqo F (fun hg=>?_) (fun hg=>?_))<;>(try exact hg.elim)<;>(try refine dF F ?_)<;>(refine bm F ?_)
     ·refine kZ F (fun hc=>?_) (fun hc=>?_)<;>(try exact hc.elim)<;>(refine bm F ?_)
      ·refine aZ (.inl rfl) (by exact dG F) (by exact dG F) ce dK (by omega) (bO _ _) (by simp(disch:=first|omega| (simp only[go_sem, ↓reduceIte,Nat.reduceEqDiff];done)|fail) only[go_sem, ↓reduceIte,Int.reduceToNat,Int.reduceLE,Int.reduceLT,Int.reduceSub,Int.reduceAdd,Nat.reduceEqDiff,Nat.reduceAdd,Nat.reduceLeDiff,Nat.reduceLT,Nat.reduceMul,Nat.reduceSub,F,b9];rfl) (by simp) ?_ ?_
       ·simp[maxLen];omega
       simp(disch:=first|omega| (simp only[go_sem, ↓reduceIte,Nat.reduceEqDiff];done)|fail) only[go_sem, ↓reduceIte,Int.reduceToNat,Int.reduceLE,Int.reduceLT,Int.reduceSub,Int.reduceAdd,Nat.reduceEqDiff,Nat.reduceAdd,Nat.reduceLeDiff,Nat.reduceLT,Nat.reduceMul,Nat.reduceSub,F]
       refine bm F ?_
       refine ft hQ F ?_
       have e:=yV (r:=r) (by omega) (by omega)
       have le:(enc r).length=4:=by simpa using congrArg List.length e
       have:=end_ _ rfl
       simp only[bufR,List.map_append,e,le]at this
       have m0:r/262144%256=r/262144:=by omega
       have m1:r/4096%256%64=r/4096%64:=by omega
       have m2:r/64%256%64=r/64%64:=by omega
       have m3:r%256%64=r%64:=by omega
       simp only[bufR,List.map_append,e,le,m0,m1,m2,m3,List.length_cons,List.length_nil,Nat.zero_add,Nat.reduceAdd]
       exact this
      ·exfalso;omega
     ·exfalso;omega
   ·exfalso;omega
theorem im(r:Int)(hr:Rune r)(h j:Heap)(X:Blk)(v:Nat)(s:Bs)(hs:s.length≤1073741824):
  Sat (CT G) 285 [.hs (h.length+1) v 0 s.length true,.int .i32 r] (h++X::bufR v s::j)
   (fun x h'=>x=.hs (h.length+1) (v+1) 0 (s.length+(enc r).length) true∧h'=h++X::bufR (v+1) (s++enc r)::j):=by
 have end_:∀l,l=enc r→Fin (h++X::bufR v s::j) (h++X::bufR (v+1) (s++l)::j) (fun x h'=>x=.hs (h.length+1) (v+1) 0 (s.length+(enc r).length) true∧h'=h++X::bufR (v+1) (s++enc r)::j) (.hs (h.length+1) (v+1) 0 (s.length+l.length) true):=fun l hl=>by
  subst hl
  refine Fin.keep0 (by simp) (fun p k hk=>?_) (.hs _ _ _ _ _ (by simp)) ⟨rfl,rfl⟩
  rcases Nat.lt_or_ge p h.length with h1|h1
  ·rw[List.getElem?_append_left h1]at hk ⊢;exact .inl hk
  ·rw[List.getElem?_append_right h1]at hk ⊢
   match p-h.length,hk with
   |0,hk=>exact .inl hk
   |1,hk=>simp at hk;subst hk;exact .inr (ij _ _ _)
   |i+2,hk=>exact .inl hk
 have hr':=hr
 obtain⟨hr0,hr1⟩:=hr
 have F:=F2 @iL @gH
 refine sb [.tmp 4] (fn:=Tryz.f285) Tryz.func285 ?_
 intro Q hQ
 refine bm F ?_
 refine kZ F (fun hc=>?_) (fun hc=>?_)<;>(try exact hc.elim)<;>(refine bm F ?_)
 ·refine aZ (.inl rfl) (by exact dG F) (by exact dG F) ce dK (by omega) (bO _ _) (by simp(disch:=first|omega| (simp only[go_sem, ↓reduceIte,Nat.reduceEqDiff];done)|fail) only[go_sem, ↓reduceIte,Int.reduceToNat,Int.reduceLE,Int.reduceLT,Int.reduceSub,Int.reduceAdd,Nat.reduceEqDiff,Nat.reduceAdd,Nat.reduceLeDiff,Nat.reduceLT,Nat.reduceMul,Nat.reduceSub,F,b9];rfl) (by simp) ?_ ?_
  ·simp[maxLen];omega
  simp(disch:=first|omega| (simp only[go_sem, ↓reduceIte,Nat.reduceEqDiff];done)|fail) only[go_sem, ↓reduceIte,Int.reduceToNat,Int.reduceLE,Int.reduceLT,Int.reduceSub,Int.reduceAdd,Nat.reduceEqDiff,Nat.reduceAdd,Nat.reduceLeDiff,Nat.reduceLT,Nat.reduceMul,Nat.reduceSub,F]
  refine bm F ?_
  refine ft hQ F ?_
  have e:=yT (r:=r) (by omega) (by omega)
  have le:(enc r).length=1:=by simpa using congrArg List.length e
  have:=end_ _ rfl
  simp only[bufR,List.map_append,e,le]at this
  have m0:r%256=r:=by omega
  simp only[bufR,List.map_append,e,le,m0,List.length_cons,List.length_nil,Nat.zero_add,Nat.reduceAdd]
  exact this
 ·refine vy F (dz G r hr' (by omega) h j X v s hs) ?_
  refine ft hQ F ?_
  exact end_ _ rfl
theorem cF(a:AVal)(r:Int)(hr:Rune r)(h j:Heap)(v:Nat)(s:Bs)(ha:bldA a h.length)(hs:s.length≤1073741824):
  Sat (CT G) 272 [.hp h.length 0 0 0,.int .i32 r] (bldH h j a v s) (fun x h'=>x=.tup [.int .i64 (enc r).length,.nil .nilIface]∧h'=bldH h j (.hp h.length 0 0 0) (v+1) (s++enc r)):=by
 have end_:Fin (bldH h j a v s) (bldH h j (.hp h.length 0 0 0) (v+1) (s++enc r)) (fun x h'=>x=.tup [.int .i64 (enc r).length,.nil .nilIface]∧h'=bldH h j (.hp h.length 0 0 0) (v+1) (s++enc r)) (.tup [.int .i64 (enc r).length,.nil .nilIface]):=
  Fin.keep0 ((bJ ..).trans (bJ ..).symm) (eN _ _ _ _ _ _ _) (.tup _ (by intro c hc;simp at hc;rcases hc with rfl|rfl;exact .int _ _;exact .nil _)) ⟨rfl,rfl⟩
 have F:= @b9
 refine sb [.tmp 4,.tmp 5] (fn:=Tryz.f272) Tryz.func272 ?_
 intro Q hQ
 refine bm F ?_
 refine(eh G a h j v s ha).mono ?_
 rintro x h' ⟨rfl,rfl⟩
 unfold bldH at*
 try refine dF F ?_
 refine bm F ?_
 refine vy F (im G r hr h j _ v s hs) ?_
 refine(hQ _ _ ?_).1
 simp(disch:=first|omega| (simp only[go_sem, ↓reduceIte,Nat.reduceEqDiff];done)|fail) only[go_sem, ↓reduceIte,Int.reduceToNat,Int.reduceLE,Int.reduceLT,Int.reduceSub,Int.reduceAdd,Nat.reduceEqDiff,Nat.reduceAdd,Nat.reduceLeDiff,Nat.reduceLT,Nat.reduceMul,Nat.reduceSub,F]
 have hl:=eU r
 simp only[bldR,bufR,List.length_append,List.map_append]at end_ ⊢
 rw[show IntKind.wrap .i64 (((s.length+(enc r).length:Nat):Int)-(s.length:Nat))=((enc r).length:Nat)from by rw[iC (by omega) (by omega)];omega]
 exact end_
end Go.Av
namespace Go.Av
open Go Go.Proofs Go.RowKit
def dec(s:Bs)(k:Nat):Nat×Nat:=Utf8.decode ⟨s.toArray⟩ k
theorem eW(s:Bs)(k:Nat):dec s k=Lib.decodeN (s.length-k) (s.getD k 0).toNat (s.getD (k+1) 0).toNat (s.getD (k+2) 0).toNat (s.getD (k+3) 0).toNat:=by
 unfold dec;rw[Lib.decode_N]
theorem kB(n:Nat)(h:n<256):(UInt8.ofNat n).toNat=n:=by simp;omega
def fix(r:Int):Nat:=if Utf8.valid r=true then r.toNat else Utf8.runeError
theorem qm(r:Int):enc r=let c:=fix r
  if c<0x80 then [UInt8.ofNat c]
  else if c<0x800 then [UInt8.ofNat (0xC0+c/64),UInt8.ofNat (0x80+c%64)]
  else if c<0x10000 then [UInt8.ofNat (0xE0+c/4096),UInt8.ofNat (0x80+c/64%64),UInt8.ofNat (0x80+c%64)]
  else [UInt8.ofNat (0xF0+c/262144),UInt8.ofNat (0x80+c/4096%64),UInt8.ofNat (0x80+c/64%64),UInt8.ofNat (0x80+c%64)]:=by
 unfold enc Utf8.encode fix
 simp only[]
 split
 ·split
  ·rfl
  ·split
   ·rfl
   ·split<;>rfl
 ·rfl
theorem bg(s:Bs)(k:Nat)(h:k<s.length):1≤(dec s k).2∧k+(dec s k).2≤s.length:=by
 rw[eW]
 refine⟨Lib.decodeN_ge1 _ _ _ _ _,?_⟩
 unfold Lib.decodeN
 repeat (first|split| (simp only[];omega))
theorem nJ(s:Bs)(k:Nat)(b:UInt8)(h:s[k]? =some b)(ha:b.toNat<128):dec s k=(b.toNat,1):=by
 rw[eW,List.getD_eq_getElem?_getD,h]
 exact Lib.decodeN_ascii _ _ _ _ _ ha
theorem p5(s:Bs)(k:Nat)(b:UInt8)(h:s[k]? =some b)(ha:128≤b.toNat):
  128≤(dec s k).1∧((dec s k).1<55296∨57343<(dec s k).1∧(dec s k).1≤1114111)∧∀i,i<(dec s k).2→∀c,s[k+i]? =some c→128≤c.toNat:=by
 have hb:s.getD k 0=b:=by rw[List.getD_eq_getElem?_getD,h];rfl
 have at_:∀i c,s[k+i]? =some c→s.getD (k+i) 0=c:=fun i c hc=>by rw[List.getD_eq_getElem?_getD,hc];rfl
 have l0:∀i,(s.getD i 0).toNat<256:=fun i=>(s.getD i 0).toNat_lt
 have e1:=l0 (k+1);have e2:=l0 (k+2);have e3:=l0 (k+3);have e0:=b.toNat_lt
 rw[eW,hb]
 generalize h1:(s.getD (k+1) 0).toNat=b1 at*
 generalize h2:(s.getD (k+2) 0).toNat=b2 at*
 generalize h3:(s.getD (k+3) 0).toNat=b3 at*
 have key:∀i c,s[k+i]? =some c→(i=0→c.toNat=b.toNat)∧(i=1→c.toNat=b1)∧(i=2→c.toNat=b2)∧(i=3→c.toNat=b3):=fun i c hc=>by
  have:=at_ i c hc
  refine⟨fun e=>?_,fun e=>?_,fun e=>?_,fun e=>?_⟩<;>subst e
  ·rw[← this];simp only[Nat.add_zero];rw[hb]
  ·rw[← h1,this]
  ·rw[← h2,this]
  ·rw[← h3,this]
 generalize s.length-k=n
 have fin:∀x m:Nat,(128≤x∧(x<55296∨57343<x∧x≤1114111))→(∀i,i<m→(i=0∧128≤b.toNat)∨(i=1∧128≤b1)∨(i=2∧128≤b2)∨(i=3∧128≤b3))→
   128≤(x,m).1∧((x,m).1<55296∨57343<(x,m).1∧(x,m).1≤1114111)∧∀i,i<(x,m).2→∀c,s[k+i]? =some c→128≤c.toNat:=fun x m hx hm=>
  ⟨hx.1,hx.2,fun i hi c hc=>by
   obtain⟨k0,k1,k2,k3⟩:=key i c hc
   rcases hm i hi with⟨e,h⟩| ⟨e,h⟩| ⟨e,h⟩| ⟨e,h⟩
   ·rw[k0 e];exact h
   ·rw[k1 e];exact h
   ·rw[k2 e];exact h
   ·rw[k3 e];exact h⟩
 unfold Lib.decodeN
 rw[if_neg (by omega)]
 split
 ·split
  ·exact fin _ _ (by omega) (fun i hi=>by omega)
  ·exact fin _ _ (by omega) (fun i hi=>by omega)
 ·split
  ·split
   ·exact fin _ _ (by omega) (fun i hi=>by omega)
   ·exact fin _ _ (by omega) (fun i hi=>by omega)
  ·split
   ·split
    ·exact fin _ _ (by omega) (fun i hi=>by omega)
    ·exact fin _ _ (by omega) (fun i hi=>by omega)
   ·exact fin _ _ (by omega) (fun i hi=>by omega)
end Go.Av
namespace Go.Av
open Go Go.Proofs Go.RowKit
attribute [local irreducible] WP WPl WPix Sat
variable (G:Nat→Option (List AVal))
theorem iM{x:Int}(h0: -2147483648≤x)(h1:x≤2147483647):IntKind.i32.wrap x=x:=by
 simp only[IntKind.wrap,IntKind.bits,IntKind.signed];simp;omega
theorem lh(h j:Heap)(s:Bs)(q:Nat):(h++Blk.iter s q::j)[h.length]? =some (.iter s q):=by simp
end Go.Av
namespace Go.Av
open Go Go.Proofs Go.RowKit Go.Lib
section
variable {C:Ctx} {B:Nat} {S:Addr→Prop} {μ:Map} {h:Heap} {w w':World}
theorem p6(f:Fits C B S μ h w)(hb:Below w.heap.size w w'){g cap:Nat}{cur:Array Value}{e:TypeId}{ls:List Bs}(hg:w.heap.size≤g)(hheap:w'.heap[g]? =some (.cells cur e (0,0)))
  (hn:ls.length≤cap)(h0:0<cap)(hm:cap≤maxLen)(hsz:cur.size=cap)(hget:∀(i:Nat) (a:Bs),ls[i]? =some a→cur[i]? =some (.string ⟨a.toArray⟩)):
  Fits C B S (μ++[⟨some g,0,1,cap⟩]) (h++[.row e 1 0 (ls.map .str)]) w'∧Step B S μ w S (μ++[⟨some g,0,1,cap⟩]) w':=by
 obtain⟨f',st⟩:=f.grown hb
 have hgl:g<w'.heap.size:=(Array.getElem?_eq_some_iff.1 hheap).1
 have st2:Step B S μ w' S (μ++[⟨some g,0,1,cap⟩]) w':=⟨fun a ha=>ha,fun _ _=>rfl,Below.refl _ _,cW _ _,fun a ha=>.inl ha⟩
 refine⟨⟨fun g' cs hg'=>(f'.glob g' cs hg').mono st2,by simp[f'.len],?_,?_,f'.base,f'.lie,?_⟩,st.trans st2⟩
 ·intro p q m1 m2 b h1 h2 e1 e2
  rcases aw h1 with k1| ⟨k1,rfl⟩<;>rcases aw h2 with k2| ⟨k2,rfl⟩
  ·exact f'.sep p q m1 m2 b k1 k2 e1 e2
  ·have:=(f.own p m1 b k1 e1).2.1;cases e2;omega
  ·have:=(f.own q m2 b k2 e2).2.1;cases e1;omega
  ·rw[k1,k2]
 ·intro p m1 b h1 e1
  rcases aw h1 with k1| ⟨k1,rfl⟩
  ·exact f'.own p m1 b k1 e1
  ·cases e1
   exact⟨Nat.le_trans f.base hg,hgl,fun a ha=>by have:=f.lie a ha;omega⟩
 ·intro p m1 k1 h1 h2
  rcases aw h1 with a1| ⟨a1,rfl⟩
  ·have hp:p<h.length:=by have:=(List.getElem?_eq_some_iff.1 a1).1;rw[f.len]at this;exact this
   rw[List.getElem?_append_left hp]at h2
   exact(f'.blk p m1 k1 a1 h2).mono st2 fun _ _=>rfl
  ·rw[a1,f.len,List.getElem?_append_right (Nat.le_refl _)]at h2
   simp at h2
   subst h2
   refine⟨rfl,rfl,by omega,fun i r hr=>?_,fun i r j c hr hc=>?_,.inr ⟨g,cur,rfl,hheap,by simp[hsz],⟨h0,by simpa using hn⟩,hm,fun i r j c hr hc=>?_⟩⟩
   ·obtain⟨a,_,rfl⟩:=List.mem_map.1 (List.mem_of_getElem? hr);rfl
   ·obtain⟨a,_,rfl⟩:=List.mem_map.1 (List.mem_of_getElem? hr)
    match j with
    |0=>simp[AVal.cells]at hc;subst hc;rfl
    |j+1=>simp[AVal.cells]at hc
   ·rw[List.getElem?_map]at hr
    obtain⟨a,ha,rfl⟩:=Option.map_eq_some_iff.1 hr
    match j with
    |0=>
     simp[AVal.cells]at hc;subst hc
     exact⟨_,by simpa using hget i a ha,.str _⟩
    |j+1=>simp[AVal.cells]at hc
end
variable (G:Nat→Option (List AVal))
def fldsF(s:Bs):List Bs:=(goFieldsP (fun r=> !letF r) ⟨s.toArray⟩).map fun b=>b.data.toList
theorem my(s:Bs)(hs:s.length≤1000000)(h:Heap):Sat (CT G) 251 [.str s,.fn (.func 253) [] []] h
  (fun r h'=>(fldsF s=[]∧r=.sl 1 []∧h'=h)∨(fldsF s≠ []∧r=.hs h.length 0 0 (fldsF s).length true∧h'=h++[.row 9 1 0 ((fldsF s).map .str)])):=by
 intro B S μ w us fit rl
 obtain⟨hul,hur⟩:=rl
 match us,hul,hur with
 | [v0,v1],_,hur=>
  have r0:Rep w S μ (.str s) v0:=hur 0 _ rfl
  have r1:Rep w S μ (.fn (.func 253) [] []) v1:=hur 1 _ rfl
  obtain rfl:=r0.str_inv
  obtain rfl:v1=.func (.func 253) #[] #[]:=by
   cases r1 with
   |fn _ _ _ xv cv h1 h2 h3 h4=>
    match xv,cv,h1,h2 with
    | [],[],_,_=>rfl
  change OpOk Tryz.prog _ ((callFunc 251 #[Value.string ⟨s.toArray⟩,Value.func (Fn.func 253) #[] #[]]).run Tryz.prog w)
  rw[bA (f:=251) Tryz.func251 rfl rfl]
  refine(Tryz.strings_FieldsFunc 253 #[] (enters_of Tryz.func253 (by kernel_rfl) rfl) _ ⟨s.toArray⟩ w (by simp[ByteArray.size];omega) (nH w)).mono fun e w' ⟨A,he,hA,hrow,hbel⟩=>?_
  refine⟨_,he,?_⟩
  have hlen:(fldsF s).length=(goFieldsP (fun r=> !letF r) ⟨s.toArray⟩).length:=by unfold fldsF;rw[List.length_map]
  have hmap:(goFieldsP (fun r=> !letF r) ⟨s.toArray⟩).map Value.string=(fldsF s).map fun a=>Value.string ⟨a.toArray⟩:=by
   unfold fldsF
   rw[List.map_map]
   exact List.map_congr_left fun b _=>by simp
  rw[hmap]at hrow
  rw[← hlen]at hrow he ⊢
  obtain⟨_,ho⟩:=hrow
  rcases ho with⟨h1,_⟩| ⟨g,cap,cur,h1,hg,hheap,hn,hm,hsz,htk⟩
  ·cases h1
  ·cases h1
   by_cases hl:fldsF s=[]
   ·obtain⟨f',st⟩:=fit.grown hbel
    rw[hl]
    exact⟨.sl 1 [],h,S,μ,.inl ⟨rfl,rfl,rfl⟩,st,f',.sl0 1 _ _⟩
   ·have hp:=List.length_pos_iff.2 hl
    have hget:∀(i:Nat) (a:Bs),(fldsF s)[i]? =some a→cur[i]? =some (.string ⟨a.toArray⟩):=fun i a ha=>by
     have hi:i<(fldsF s).length:=(List.getElem?_eq_some_iff.1 ha).1
     have h2:(cur.toList.take ((fldsF s).length*1))[i]? =some (.string ⟨a.toArray⟩):=by rw[htk,List.getElem?_map,ha];rfl
     rw[List.getElem?_take_of_lt (by omega)]at h2
     simpa using h2
    obtain⟨f',st⟩:=p6 fit hbel hg hheap hn (by omega) hm (by simpa using hsz) hget
    refine⟨.hs h.length 0 0 (fldsF s).length true,_,S,_,.inr ⟨hl,rfl,rfl⟩,st,f',?_⟩
    refine .hs _ _ _ _ _ ⟨some A,0,1,(fldsF s).length⟩ _ (by rw[← fit.len];simp) (Nat.le_refl _) (fun cs h=>by cases h) rfl (fun _=>.inr ⟨A,rfl,by simp,by simp⟩)
end Go.Av
namespace Go.Av
open Go Go.Proofs Go.RowKit
theorem dZ(s:Bs)(k:Nat):dec s k=dec (s.drop k) 0:=by
 rw[eW,eW]
 simp only[List.getD_eq_getElem?_getD,List.getElem?_drop,List.length_drop,Nat.add_zero,Nat.zero_add,Nat.sub_zero,Nat.add_assoc]
theorem jH(s:Bs)(k:Nat)(h:k<s.length):Rune (dec s k).1:=by
 have hb:=List.getElem?_eq_getElem h
 by_cases ha:s[k].toNat<128
 ·rw[nJ s k _ hb ha];exact⟨by simp,by simp;omega⟩
 ·obtain⟨h1,h2,_⟩:=p5 s k _ hb (by omega)
  exact⟨by omega,by omega⟩
def runesN:Nat→Bs→List Int
 |0,_=>[]
 |f+1,s=>if s=[]then []else((dec s 0).1:Int)::runesN f (s.drop (dec s 0).2)
def runesF(s:Bs):List Int:=runesN s.length s
theorem kC:∀(f:Nat) (s:Bs),s.length≤f→runesN f s=runesN s.length s:=by
 intro f
 induction f using Nat.strongRecOn with
 |ind f ih=>
  intro s hs
  cases s with
  |nil=>cases f<;>rfl
  |cons b t=>
   obtain⟨f,rfl⟩:∃g,f=g+1:=⟨f-1,by simp at hs;omega⟩
   have hd:=bg (b::t) 0 (by simp)
   simp only[List.length_cons]at hs hd ⊢
   rw[runesN,runesN,if_neg (by simp),if_neg (by simp)]
   have hl:((b::t).drop (dec (b::t) 0).2).length≤t.length:=by simp only[List.length_drop,List.length_cons];omega
   rw[ih f (by omega) _ (by omega)]
   by_cases hf:t.length=f
   ·subst hf;rw[ih t.length (by omega) _ hl]
   ·rw[ih t.length (by omega) _ hl]
theorem gI:runesF []=[]:=rfl
theorem fy(s:Bs)(h:s≠ []):runesF s=((dec s 0).1:Int)::runesF (s.drop (dec s 0).2):=by
 have hl:0<s.length:=List.length_pos_iff.2 h
 have hd:=bg s 0 hl
 unfold runesF
 obtain⟨n,hn⟩:∃n,s.length=n+1:=⟨s.length-1,by omega⟩
 rw[hn,runesN,if_neg h,kC n _ (by simp only[List.length_drop];omega)]
theorem iN(s:Bs)(k:Nat)(h:k<s.length):runesF (s.drop k)=((dec s k).1:Int)::runesF (s.drop (k+(dec s k).2)):=by
 rw[fy _ (by intro e;have:=congrArg List.length e;simp at this;omega), ← dZ,List.drop_drop]
theorem gJ(s:Bs)(k:Nat)(h:s.length≤k):runesF (s.drop k)=[]:=by
 rw[List.drop_of_length_le h];rfl
theorem mz:∀(n:Nat) (s:Bs),s.length≤n→(runesF s).length≤s.length:=by
 intro n
 induction n with
 |zero=>intro s h;have:s=[]:=List.length_eq_zero_iff.1 (by omega);subst this;simp[gI]
 |succ n ih=>
  intro s h
  by_cases h0:s=[]
  ·subst h0;simp[gI]
  ·have hd:=bg s 0 (List.length_pos_iff.2 h0)
   rw[fy s h0]
   have:=ih (s.drop (dec s 0).2) (by simp only[List.length_drop];omega)
   simp only[List.length_drop]at this
   simp only[List.length_cons];omega
def blankR(c:Int):Bool:=decide (c=9∨c=10∨c=13∨c=32∨c=160∨c=8232∨c=8233∨c=12288)
def ctlR(c:Int):Bool:=decide (c<32∨(127≤c∧c≤159))
def clnR:List Int→List Int→Bool→List Int
 | [],o,_=>o
 |c::t,o,w=>if blankR c then clnR t o (decide (0<o.length))else if ctlR c then clnR t o w else clnR t (o++(if w then [32,c]else [c])) false
def cleanR(s:Bs):List Int:=clnR (runesF s) [] false
def encs(l:List Int):Bs:=l.flatMap enc
def cleanF(s:Bs):Bs:=encs (cleanR s)
theorem qn(r:Int):1≤(enc r).length:=by
 rw[qm];simp only[];repeat (first|split|simp)
theorem jI(l:List Int):(encs l).length≤4*l.length∧l.length≤(encs l).length:=by
 induction l with
 |nil=>simp[encs]
 |cons c t ih=>
  have h1:=eU c
  have h2:=qn c
  simp only[encs,List.flatMap_cons,List.length_append,List.length_cons]at ih ⊢;omega
def rightN:Nat→Bs→Bool
 |0,_=>true
 |f+1,s=>if s=[]then true else if (dec s 0).1=65533∧(dec s 0).2=1 then false else rightN f (s.drop (dec s 0).2)
def rightS(s:Bs):Bool:=rightN s.length s
theorem kD:∀(f:Nat) (s:Bs),s.length≤f→rightN f s=rightN s.length s:=by
 intro f
 induction f using Nat.strongRecOn with
 |ind f ih=>
  intro s hs
  cases s with
  |nil=>cases f<;>rfl
  |cons b t=>
   obtain⟨f,rfl⟩:∃g,f=g+1:=⟨f-1,by simp at hs;omega⟩
   have hd:=bg (b::t) 0 (by simp)
   simp only[List.length_cons]at hs hd ⊢
   rw[rightN,rightN,if_neg (show ¬(b::t)=[] by simp),if_neg (show ¬(b::t)=[] by simp)]
   have hl:((b::t).drop (dec (b::t) 0).2).length≤t.length:=by simp only[List.length_drop,List.length_cons];omega
   rw[ih f (by omega) _ (by omega),ih t.length (by omega) _ hl]
theorem kE(s:Bs)(h:s≠ []):rightS s=if (dec s 0).1=65533∧(dec s 0).2=1 then false else rightS (s.drop (dec s 0).2):=by
 have hl:0<s.length:=List.length_pos_iff.2 h
 have hd:=bg s 0 hl
 unfold rightS
 obtain⟨n,hn⟩:∃n,s.length=n+1:=⟨s.length-1,by omega⟩
 rw[hn,rightN,if_neg h,kD n _ (by simp only[List.length_drop];omega)]
theorem nK(s:Bs)(k:Nat)(h:k<s.length):rightS (s.drop k)=if (dec s k).1=65533∧(dec s k).2=1 then false else rightS (s.drop (k+(dec s k).2)):=by
 rw[kE _ (by intro e;have:=congrArg List.length e;simp at this;omega), ← dZ,List.drop_drop]
theorem kF(n b0 b1 b2 b3:Nat)(h1:b1<256)(h2:b2<256)(h0:b0<256)(h:(Lib.decodeN n b0 b1 b2 b3).1=65533):(Lib.decodeN n b0 b1 b2 b3).2=1↔¬(3≤n∧b0=239∧b1=191∧b2=189):=by
 unfold Lib.decodeN at*
 by_cases c1:b0<128
 ·rw[if_pos c1]at *;simp only[]at *;omega
 rw[if_neg c1]at*
 by_cases c2:(b0/32=6∧(1<n∧b1/64=2))
 ·rw[if_pos c2]at*
  by_cases c3:b0%32*64+b1%64≥128
  ·rw[if_pos c3]at *;simp only[]at *;omega
  ·rw[if_neg c3]at *;exact⟨fun _ hc=>by omega,fun _=>rfl⟩
 rw[if_neg c2]at*
 by_cases c4:b0/16=14∧(1<n∧b1/64=2)∧(2<n∧b2/64=2)
 ·rw[if_pos c4]at*
  by_cases c5:(b0%16*4096+b1%64*64+b2%64≥2048∧(b0%16*4096+b1%64*64+b2%64<55296∨(57344≤b0%16*4096+b1%64*64+b2%64∧b0%16*4096+b1%64*64+b2%64≤1114111)))
  ·rw[if_pos c5]at *;simp only[]at *;omega
  ·rw[if_neg c5]at *;exact⟨fun _ hc=>by omega,fun _=>rfl⟩
 rw[if_neg c4]at*
 by_cases c6:b0/8=30∧(1<n∧b1/64=2)∧(2<n∧b2/64=2)∧(3<n∧b3/64=2)
 ·rw[if_pos c6]at*
  by_cases c7:(b0%8*262144+b1%64*4096+b2%64*64+b3%64≥65536∧(b0%8*262144+b1%64*4096+b2%64*64+b3%64<55296∨(57344≤b0%8*262144+b1%64*4096+b2%64*64+b3%64∧b0%8*262144+b1%64*4096+b2%64*64+b3%64≤1114111)))
  ·rw[if_pos c7]at *;simp only[]at *;omega
  ·rw[if_neg c7]at *;exact⟨fun _ hc=>by omega,fun _=>rfl⟩
 ·rw[if_neg c6]at *;exact⟨fun _ hc=>by omega,fun _=>rfl⟩
theorem yX(u:Bs):Lib.hasPrefix u [239,191,189]=true↔(3≤u.length∧(u.getD 0 0).toNat=239∧(u.getD 1 0).toNat=191∧(u.getD 2 0).toNat=189):=by
 have key:∀(x:UInt8) (n:Nat),n<256→(x.toNat=n↔x=UInt8.ofNat n):=fun x n h=>by rw[← UInt8.toNat_inj,kB n h]
 match u with
 | []=>simp[Lib.hasPrefix]
 | [a]=>simp[Lib.hasPrefix]
 | [a,b]=>simp[Lib.hasPrefix]
 |a::b::c::t=>
  simp only[List.getD_cons_zero,List.getD_cons_succ,List.length_cons]
  rw[key a 239 (by omega),key b 191 (by omega),key c 189 (by omega)]
  unfold Lib.hasPrefix
  simp only[List.isPrefixOf,Bool.and_eq_true,beq_iff_eq]
  constructor
  ·rintro⟨rfl,rfl,rfl,_⟩;exact⟨by omega,rfl,rfl,rfl⟩
  ·rintro⟨_,rfl,rfl,rfl⟩;exact⟨rfl,rfl,rfl,trivial⟩
theorem p7(s:Bs)(k:Nat)(hd:(dec s k).1=65533):(dec s k).2=1↔Lib.hasPrefix (s.drop k) [239,191,189]=false:=by
 rw[dZ]at*
 generalize s.drop k=u at*
 rw[← Bool.not_eq_true,yX]
 rw[eW]at*
 exact kF _ _ _ _ _ (UInt8.toNat_lt _) (UInt8.toNat_lt _) (UInt8.toNat_lt _) hd
end Go.Av
