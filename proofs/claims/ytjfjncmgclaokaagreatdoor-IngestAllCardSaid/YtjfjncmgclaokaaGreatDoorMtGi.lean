/- The gate for events, numbers, documents. -/
import Derived.Test.YtjfjncmgclaokaaGreatDoorMtDz
import Derived.Test.YtjfjncmgclaokaaGreatDoorMtEb
set_option linter.unusedSimpArgs false
set_option linter.unusedVariables false
set_option linter.unusedSectionVars false
set_option linter.unnecessarySimpa false
set_option maxRecDepth 100000
set_option maxHeartbeats 16000000
namespace Go.Av
open Go Go.Proofs Go.RowKit Go.ChangeShapes Go.WideShapes
section
variable {H:Type} {enc:TypeId×Value→H} {W:World}
theorem vQ(n:Nat):Rd H enc Tryz.prog W n 61 (fun e:En=>e.av.cells) (fun _=>0):=fun cs x h=>by
 obtain⟨ds,n',rfl,hx,hcl,hdl,hf⟩:=fz (fs:=[9,9,9,3,4]) (by kernel_rfl) h
 obtain⟨y0,d0,t0⟩:=hf 0 _ rfl
 obtain⟨y1,d1,t1⟩:=hf 1 _ rfl
 obtain⟨y2,d2,t2⟩:=hf 2 _ rfl
 obtain⟨y3,d3,t3⟩:=hf 3 _ rfl
 obtain⟨y4,d4,t4⟩:=hf 4 _ rfl
 obtain⟨a0,s0,r0,_⟩:=aL (mk:=fun s:Bs=>.str s) (cP (by kernel_rfl)) t0
 obtain⟨a1,s1,r1,_⟩:=aL (mk:=fun s:Bs=>.str s) (cP (by kernel_rfl)) t1
 obtain⟨a2,s2,r2,_⟩:=aL (mk:=fun s:Bs=>.str s) (cP (by kernel_rfl)) t2
 obtain⟨a3,s3,r3,_⟩:=aL (mk:=fun i: {i:Int//(Lit.int .i64 i).wf=true}=>.int .i64 i.1) (ef (by kernel_rfl)) t3
 obtain⟨a4,s4,r4,_⟩:=aL (mk:=fun b:Bool=>.bool b) (rz (by kernel_rfl)) t4
 refine⟨⟨a0,a1,a2,a3.1,a4⟩,by rw[hcl];rfl,fun j c hj=>?_,Nat.zero_le _⟩
 match j with
 |0=>simp[En.av,AVal.cells]at hj;subst hj;exact⟨s0,r0⟩
 |1=>simp[En.av,AVal.cells]at hj;subst hj;exact⟨s1,r1⟩
 |2=>simp[En.av,AVal.cells]at hj;subst hj;exact⟨s2,r2⟩
 |3=>simp[En.av,AVal.cells]at hj;subst hj;exact⟨s3,r3⟩
 |4=>simp[En.av,AVal.cells]at hj;subst hj;exact⟨s4,r4⟩
 |j+5=>simp[En.av,AVal.cells]at hj
end
end Go.Av
namespace Go.Av
open Go Go.Proofs Go.RowKit Go.ChangeShapes Go.WideShapes
section
variable {H:Type} {enc:TypeId×Value→H} {W:World}
theorem vR(n:Nat):Rd H enc Tryz.prog W n 25 (fun d:Fd=>d.av.cells) (fun _=>0):=fun cs x h=>by
 obtain⟨ds,n',rfl,hx,hcl,hdl,hf⟩:=fz (fs:=[9,9,23]) (by kernel_rfl) h
 obtain⟨y0,d0,t0⟩:=hf 0 _ rfl
 obtain⟨y1,d1,t1⟩:=hf 1 _ rfl
 obtain⟨y2,d2,t2⟩:=hf 2 _ rfl
 obtain⟨a0,s0,r0,_⟩:=aL (mk:=fun s:Bs=>.str s) (cP (by kernel_rfl)) t0
 obtain⟨a1,s1,r1,_⟩:=aL (mk:=fun s:Bs=>.str s) (cP (by kernel_rfl)) t1
 obtain⟨a2,s2,r2,_⟩:=aL (mk:=fun l:List En=>.sl 5 (l.map En.av)) (ky (m:=5) (e:=61) En.av (by kernel_rfl) (by kernel_rfl) (by decide) (fun _=>rfl) (fun _=>rfl) fun k _=>vQ k) t2
 refine⟨⟨a0,a1,a2⟩,by rw[hcl];rfl,fun j c hj=>?_,Nat.zero_le _⟩
 match j with
 |0=>simp[Fd.av,AVal.cells]at hj;subst hj;exact⟨s0,r0⟩
 |1=>simp[Fd.av,AVal.cells]at hj;subst hj;exact⟨s1,r1⟩
 |2=>simp[Fd.av,AVal.cells]at hj;subst hj;exact⟨s2,r2⟩
 |j+3=>simp[Fd.av,AVal.cells]at hj
theorem eT{v:Value}{d:DataW H}{ps:List MemPlace}(h:DataW.Trod enc Tryz.prog W 0 (fun _=>true) true 25 v d ps):∃e:Fd,Rep W (lies0 W) [] e.av v:=by
 obtain⟨n,hn⟩:=h
 obtain⟨e,h1,h2,_⟩:=vR n _ _ hn
 change e.av.cells.length=_ at h1
 refine⟨e,?_⟩
 have hc:e.av.cells=[.str e.title,.str e.link,.sl 5 (e.es.map En.av)]:=rfl
 have hl:v.cells.size=3:=by rw[hc]at h1;simpa using h1.symm
 have hv:∃a,v=.agg a:=by
  cases v with
  |agg a=>exact⟨a,rfl⟩
  |_=>simp[Value.cells]at hl
 obtain⟨a,rfl⟩:=hv
 have:=kz (vs:=a.toList) (x:=e.av) (cs:=[.str e.title,.str e.link,.sl 5 (e.es.map En.av)]) rfl (by simpa [Value.cells]using hl.symm) (fun j c hj=>by have:=h2 j c (by show e.av.cells[j]? =some c;rw[hc];exact hj);simpa [Value.cells]using this)
 simpa using this
end
end Go.Av
namespace Go.Av
open Go Go.Proofs Go.RowKit Go.ChangeShapes Go.WideShapes
section
variable {H:Type} {enc:TypeId×Value→H} {W:World}
theorem vS(n:Nat):Rd H enc Tryz.prog W n 57 (fun e:Ev=>e.av.cells) (fun _=>0):=fun cs x h=>by
 obtain⟨ds,n',rfl,hx,hcl,hdl,hf⟩:=fz (fs:=[3,3,3,3,9,9,9]) (by kernel_rfl) h
 obtain⟨y0,d0,t0⟩:=hf 0 _ rfl
 obtain⟨y1,d1,t1⟩:=hf 1 _ rfl
 obtain⟨y2,d2,t2⟩:=hf 2 _ rfl
 obtain⟨y3,d3,t3⟩:=hf 3 _ rfl
 obtain⟨y4,d4,t4⟩:=hf 4 _ rfl
 obtain⟨y5,d5,t5⟩:=hf 5 _ rfl
 obtain⟨y6,d6,t6⟩:=hf 6 _ rfl
 obtain⟨a0,s0,r0,_⟩:=aL (mk:=fun i: {i:Int//(Lit.int .i64 i).wf=true}=>.int .i64 i.1) (ef (by kernel_rfl)) t0
 obtain⟨a1,s1,r1,_⟩:=aL (mk:=fun i: {i:Int//(Lit.int .i64 i).wf=true}=>.int .i64 i.1) (ef (by kernel_rfl)) t1
 obtain⟨a2,s2,r2,_⟩:=aL (mk:=fun i: {i:Int//(Lit.int .i64 i).wf=true}=>.int .i64 i.1) (ef (by kernel_rfl)) t2
 obtain⟨a3,s3,r3,_⟩:=aL (mk:=fun i: {i:Int//(Lit.int .i64 i).wf=true}=>.int .i64 i.1) (ef (by kernel_rfl)) t3
 obtain⟨a4,s4,r4,_⟩:=aL (mk:=fun s:Bs=>.str s) (cP (by kernel_rfl)) t4
 obtain⟨a5,s5,r5,_⟩:=aL (mk:=fun s:Bs=>.str s) (cP (by kernel_rfl)) t5
 obtain⟨a6,s6,r6,_⟩:=aL (mk:=fun s:Bs=>.str s) (cP (by kernel_rfl)) t6
 refine⟨⟨a0.1,a1.1,a2.1,a3.1,a4,a5,a6⟩,by rw[hcl];rfl,fun j c hj=>?_,Nat.zero_le _⟩
 match j with
 |0=>simp[Ev.av,AVal.cells]at hj;subst hj;exact⟨s0,r0⟩
 |1=>simp[Ev.av,AVal.cells]at hj;subst hj;exact⟨s1,r1⟩
 |2=>simp[Ev.av,AVal.cells]at hj;subst hj;exact⟨s2,r2⟩
 |3=>simp[Ev.av,AVal.cells]at hj;subst hj;exact⟨s3,r3⟩
 |4=>simp[Ev.av,AVal.cells]at hj;subst hj;exact⟨s4,r4⟩
 |5=>simp[Ev.av,AVal.cells]at hj;subst hj;exact⟨s5,r5⟩
 |6=>simp[Ev.av,AVal.cells]at hj;subst hj;exact⟨s6,r6⟩
 |j+7=>simp[Ev.av,AVal.cells]at hj
theorem gK{v:Value}{d:DataW H}{ps:List MemPlace}{r:Reach}{b0:Nat}(hval:Value.okWide Tryz.prog W r b0 33 v)(h:DataW.Trod enc Tryz.prog W 0 (fun _=>true) true 33 v d ps):∃es:List Ev,Rep W (lies0 W) [] (.sl 7 (es.map Ev.av)) v:=by
 obtain⟨n,hn⟩:=h
 obtain⟨l,h1,h2,_⟩:=ky (m:=7) (e:=57) Ev.av (by kernel_rfl) (by kernel_rfl) (by decide) (fun _=>rfl) (fun _=>rfl) (fun k _=>vS k) _ _ hn
 refine⟨l,?_⟩
 have h4:=(h2 0 _ rfl).2
 have hcs:v.cells.toList=[v]:=by
  have hu:Tryz.prog.underlying 33=some (.slice 57):=by kernel_rfl
  cases v with
  |agg a=>simp[Value.okWide,hu,Cell.okWide,Cell.ok]at hval
  |_=>rfl
 rw[hcs]at h4
 simpa using h4
theorem dY{v:Value}{d:DataW H}{ps:List MemPlace}{r:Reach}{b0:Nat}(hval:Value.okWide Tryz.prog W r b0 3 v)(h:DataW.Trod enc Tryz.prog W 0 (fun _=>true) true 3 v d ps):∃i:Int,Rep W (lies0 W) [] (.int .i64 i) v:=by
 obtain⟨n,hn⟩:=h
 have hcs:v.cells.toList=[v]:=by
  have hu:Tryz.prog.underlying 3=some (.int .i64):=by kernel_rfl
  cases v with
  |agg a=>simp[Value.okWide,hu,Cell.okWide,Cell.ok]at hval
  |_=>rfl
 rw[hcs]at hn
 obtain⟨a,_,ra,_⟩:=aL (mk:=fun i: {i:Int//(Lit.int .i64 i).wf=true}=>.int .i64 i.1) (ef (by kernel_rfl)) hn
 exact⟨a.1,ra⟩
end
end Go.Av
