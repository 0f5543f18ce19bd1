/- The order of any fold, the rank of any item; a nil view, and a nil state: for every list of events, item, place and number the call returns true, and its arguments read as before. -/
import Derived.Test.YtanjiiailjilbaaGreatMeXv
set_option linter.unusedSimpArgs false
set_option linter.unusedVariables false
set_option linter.unusedSectionVars false
set_option linter.unnecessarySimpa false
set_option maxRecDepth 100000
set_option maxHeartbeats 4000000
namespace Go.Proofs.YtanjiiailjilbaaGreat.viewTells
open Go Go.Av Go.RowKit Go.ChangeShapes Go.WideShapes Go.ChangeAt
theorem iG{H:Type}{enc:TypeId×Value→H}{W:World}{v:Value}{d:DataW H}{ps:List MemPlace}{r:Reach}{b0:Nat}(hval:Value.okWide Tryz.prog W r b0 3 v)(h:DataW.Trod enc Tryz.prog W 0 (fun _=>true) true 3 v d ps):∃i:Int,Rep W (lies0 W) [] (.int .i64 i) v:=by
 obtain⟨n,hn⟩:=h
 have hcs:v.cells.toList=[v]:=by
  have hu:Tryz.prog.underlying 3=some (.int .i64):=by kernel_rfl
  cases v with
  |agg a=>simp[Value.okWide,hu,Cell.okWide,Cell.ok]at hval
  |_=>rfl
 rw[hcs]at hn
 obtain⟨a,_,ra,_⟩:=bE (mk:=fun i: {i:Int//(Lit.int .i64 i).wf=true}=>.int .i64 i.1) (eE (by kernel_rfl)) hn
 exact⟨a.1,ra⟩
theorem o4{H:Type}{enc:TypeId×Value→H}{W:World}{v:Value}{d:DataW H}{ps:List MemPlace}{r:Reach}{b0:Nat}(hval:Value.okWide Tryz.prog W r b0 55 v)(h:DataW.Trod enc Tryz.prog W 0 (fun _=>true) true 55 v d ps):∃c:Cu,Rep W (lies0 W) [] c.av v:=by
 obtain⟨n,hn⟩:=h
 obtain⟨gs,hu,_⟩:=gw (P:=Tryz.prog) (t:=55) (fs:=[3,3,4]) (by kernel_rfl)
 obtain⟨cs,rfl⟩:∃cs,v=.agg cs:=by
  cases v with
  |agg cs=>exact⟨cs,rfl⟩
  |_=>simp[Value.okWide,hu]at hval
 obtain⟨ds,n',rfl,hx,hcl,hdl,hf⟩:=kU (fs:=[3,3,4]) (by kernel_rfl) hn
 obtain⟨y0,d0,t0⟩:=hf 0 _ rfl
 obtain⟨y1,d1,t1⟩:=hf 1 _ rfl
 obtain⟨y2,d2,t2⟩:=hf 2 _ rfl
 obtain⟨a0,s0,r0,_⟩:=bE (mk:=fun i: {i:Int//(Lit.int .i64 i).wf=true}=>.int .i64 i.1) (eE (by kernel_rfl)) t0
 obtain⟨a1,s1,r1,_⟩:=bE (mk:=fun i: {i:Int//(Lit.int .i64 i).wf=true}=>.int .i64 i.1) (eE (by kernel_rfl)) t1
 obtain⟨a2,s2,r2,_⟩:=bE (mk:=fun b:Bool=>.bool b) (uY (by kernel_rfl)) t2
 have:=Rep.agg (w:=W) (S:=lies0 W) (μ:=[]) [.int .i64 a0.1,.int .i64 a1.1,.bool a2] cs.toList (by simpa [Value.cells]using hcl) (fun i x hx=>by
  match i with
  |0=>simp at hx;subst hx;rfl
  |1=>simp at hx;subst hx;rfl
  |2=>simp at hx;subst hx;rfl
  |i+3=>simp at hx) fun i x hx=>by
  match i with
  |0=>simp at hx;subst hx;exact r0
  |1=>simp at hx;subst hx;exact r1
  |2=>simp at hx;subst hx;exact r2
  |i+3=>simp at hx
 exact⟨⟨a0.1,a1.1,a2⟩,by simpa [Cu.av]using this⟩
def none':Nat→Option (List AVal):=fun _=>none
theorem contract(H:Type)(enc:TypeId×Value→H)(W:World)(base:Nat)(args:Array Value)(ds gs:List (DataW H))(before:List MemPlace)
  (hval:∀(j:Nat) t v,Tryz.f6.params[j]? =some t→args[j]? =some v→Value.okWide Tryz.prog W .any base t v)
  (hW:DataW.Whole enc Tryz.prog Tryz.f6.params.toList Rows.viewTellsSpec.vars false W args.toList ds gs before):
  Calls Tryz.prog 6 args W fun e W'=>∃v,e=.returned v∧Rows.viewTellsSpec.post enc Tryz.prog Tryz.f6 false true false false W args v W':=by
 have hW':=hW
 obtain⟨p,q,hA0,hV,rfl,hfz,hnd⟩:=hW
 have hA:DataW.TrodAll enc Tryz.prog W 0 (fun _=>true) true Tryz.f6.params.toList args.toList ds p:=hA0
 rw[Tryz.params6]at hA hval
 obtain⟨v0,vs0,d0,ds0,p0,q0,hargs,rfl,rfl,h0,r0⟩:=trodAll_cons hA
 obtain⟨v1,vs1,d1,ds1,p1,q1,rfl,rfl,rfl,h1,r1⟩:=trodAll_cons r0
 obtain⟨v2,vs2,d2,ds2,p2,q2,rfl,rfl,rfl,h2,r2⟩:=trodAll_cons r1
 obtain⟨v3,vs3,d3,ds3,p3,q3,rfl,rfl,rfl,h3,r3⟩:=trodAll_cons r2
 obtain⟨rfl,rfl,rfl⟩:=trodAll_nil r3
 obtain⟨rfl,rfl⟩:=trodVars_none hV
 obtain rfl:args= #[v0,v1,v2,v3]:=by cases args;simp_all
 obtain⟨e0,re0⟩:=ny (hval 0 22 v0 rfl rfl) h0
 obtain⟨e1,re1⟩:=iG (hval 1 3 v1 rfl rfl) h1
 obtain⟨e2,re2⟩:=o4 (hval 2 55 v2 rfl rfl) h2
 obtain⟨e3,re3⟩:=iG (hval 3 3 v3 rfl rfl) h3
 refine jh (C:=CT none') Tryz.func6 rfl rfl qP qQ (fun t ht=>?_) rfl rfl rfl Tryz.underlying4 hW' (fun g cs hg=>by simp only[wP,none']at hg;cases hg) (xs:=[.sl 7 (e0.map Ev.av),.int .i64 e1,e2.av,.int .i64 e3]) ⟨rfl,fun i x hi=>?_⟩ (lA none' (fun g cs hg=>by simp only[wP,none']at hg;cases hg) e0 e1 e2 e3 [])
 ·rw[Tryz.params6]at ht
  change t∈ [_,_,_,_]at ht
  simp only[List.mem_cons,List.mem_nil_iff,or_false,or_self]at ht
  rcases ht with rfl|rfl|rfl|rfl<;>exact of_decide_eq_true (by kernel_rfl)
 ·match i with
  |0=>simp at hi;subst hi;exact re0
  |1=>simp at hi;subst hi;exact re1
  |2=>simp at hi;subst hi;exact re2
  |3=>simp at hi;subst hi;exact re3
  |i+4=>simp at hi
def wit:Array Value:= #[.slice none 0 0,.int .i64 0,.agg #[.int .i64 0,.int .i64 0,.bool false],.int .i64 0]
noncomputable def witW(os:Os):World:=World.holding Tryz.prog os ⟨#[],wit,[]⟩
theorem laid_met(os:Os):laidMet Tryz.prog Rows.viewTellsRow.laid ((witW os).forCall (fun _ _=>0) ⟨#[],wit,[]⟩).memory:=
 laidMet_of_run' 8 (by kernel_rfl) (by kernel_rfl)
theorem reads(os:Os){H:Type}(enc:TypeId×Value→H):∃places,DataW.whole enc Tryz.prog ((witW os).forCall (fun _ _=>0) ⟨#[],wit,[]⟩).memory Tryz.f6.params.toList Rows.viewTellsSpec.vars false wit.toList 8=
  some ([.nil,.lit (.int .i64 0),.agg [.lit (.int .i64 0),.lit (.int .i64 0),.lit (.bool false)],.lit (.int .i64 0)],[],places):=
 ⟨[],by kernel_rfl⟩
theorem lifted(os:Os)(started:os.Started)(H:Type)(enc:TypeId×Value→H)(F:Stop.Interp):
  ReturnsInHanded {} Tryz.checked os 6 .any ((OpenSpec.ofChange Rows.viewTellsSpec).preRow enc Tryz.prog Tryz.f6 Rows.viewTellsRow.domain false Rows.viewTellsRow.laid) (((OpenSpec.ofChange Rows.viewTellsSpec).at F).post enc Tryz.prog Tryz.f6 false true false false):=by
 obtain⟨places,hx⟩:=reads os enc
 refine returnsInHanded_of_row (C:=Tryz.checked) (s:=OpenSpec.ofChange Rows.viewTellsSpec) tn started (by kernel_rfl) Tryz.func6
  (witness_row_at (enc:=enc) (C:=Tryz.checked) false (witW os) wit rfl (by kernel_rfl) (by kernel_rfl) (by kernel_rfl)
   (OpenSpec.preRow_of_cond 8 hx (by kernel_rfl) (fun k hk=>by cases hk<;>kernel_rfl) (by kernel_rfl) (laid_met os))) ?_
 intro W base args ds gs before hval hW _ _ _ _ hsh _
 exact contract H enc W base args ds gs before hval hW
theorem said:Rows.ViewTellsSaid:=
 OpenClaim.holds_of_cond 6 Tryz.f6 rfl rfl rfl rfl rfl rfl rfl ⟨rfl,rfl,rfl,rfl,rfl⟩ rfl rfl rfl rfl rfl (by kernel_rfl) Tryz.func6 (by kernel_rfl)
  (of_decide_eq_true (by kernel_rfl)) (by unfold Func.isWrapper;first| (rw[if_pos (by decide+kernel)];kernel_rfl)| (rw[if_neg (by decide+kernel)];exact⟨rfl,rfl⟩))
  (fun os started H enc _ F=>by rw[OpenClaim.pre_eq_preRow];exact lifted os started H enc F)
end Go.Proofs.YtanjiiailjilbaaGreat.viewTells
