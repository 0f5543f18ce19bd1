/- Parts. -/
import Derived.Test.YtllhfnepgcbjnaaGreatMnXy
set_option linter.unusedSimpArgs false
set_option linter.unusedVariables false
set_option linter.unusedSectionVars false
set_option linter.unnecessarySimpa false
set_option maxRecDepth 100000
set_option maxHeartbeats 16000000
namespace Go.Proofs.YtllhfnepgcbjnaaGreat.viewAsks
open Go Go.Av Go.RowKit Go.ChangeShapes Go.WideShapes Go.ChangeAt
theorem oX{H:Type}{enc:TypeId×Value→H}{W:World}{v:Value}{d:DataW H}{ps:List MemPlace}{r:Reach}{b0:Nat}(hval:Value.okWide Tryz.prog W r b0 27 v)(h:DataW.Trod enc Tryz.prog W 0 (fun _=>true) true 27 v d ps):∃c:Cu,Rep W (lies0 W) [] c.av v:=by
 obtain⟨n,hn⟩:=h;obtain⟨gs,hu,_⟩:=gP (P:=Tryz.prog) (t:=27) (fs:=[3,3,4]) (by kernel_rfl);obtain⟨cs,rfl⟩:∃cs,v=.agg cs:=by
  cases v with
  |agg cs=>exact⟨cs,rfl⟩
  |_=>simp[Value.okWide,hu]at hval
 obtain⟨ds,n',rfl,hx,hcl,hdl,hf⟩:=il (fs:=[3,3,4]) (by kernel_rfl) hn;obtain⟨y0,d0,t0⟩:=hf 0 _ rfl;obtain⟨y1,d1,t1⟩:=hf 1 _ rfl;obtain⟨y2,d2,t2⟩:=hf 2 _ rfl;obtain⟨a0,s0,r0,_⟩:=bq (mk:=fun i: {i:Int//(Lit.int .i64 i).wf=true}=>.int .i64 i.1) (d8 (by kernel_rfl)) t0;obtain⟨a1,s1,r1,_⟩:=bq (mk:=fun i: {i:Int//(Lit.int .i64 i).wf=true}=>.int .i64 i.1) (d8 (by kernel_rfl)) t1;obtain⟨a2,s2,r2,_⟩:=bq (mk:=fun b:Bool=>.bool b) (xi (by kernel_rfl)) t2;have:=Rep.agg (w:=W) (S:=lies0 W) (μ:=[]) [.int .i64 a0.1,.int .i64 a1.1,.bool a2] cs.toList (by simpa [Value.cells]using hcl) (fun i x hx=>by
  match i with
  |0=>simp at hx;subst hx;rfl
  |1=>simp at hx;subst hx;rfl
  |2=>simp at hx;subst hx;rfl
  |i+3=>simp at hx) fun i x hx=>by
  match i with
  |0=>simp at hx;subst hx;exact r0
  |1=>simp at hx;subst hx;exact r1
  |2=>simp at hx;subst hx;exact r2
  |i+3=>simp at hx
 exact⟨⟨a0.1,a1.1,a2⟩,by simpa [Cu.av]using this⟩
theorem contract(H:Type)(enc:TypeId×Value→H)(W:World)(base:Nat)(args:Array Value)(ds gs:List (DataW H))(before:List MemPlace)
  (hval:∀(j:Nat) t v,Tryz.f3.params[j]? =some t→args[j]? =some v→Value.okWide Tryz.prog W .any base t v)
  (hW:DataW.Whole enc Tryz.prog Tryz.f3.params.toList Rows.viewAsksSpec.vars false W args.toList ds gs before):
  Calls Tryz.prog 3 args W fun e W'=>∃v,e=.returned v∧Rows.viewAsksSpec.post enc Tryz.prog Tryz.f3 false true false false W args v W':=by
 have hW':=hW;obtain⟨p,q,hA0,hV,rfl,hfz,hnd⟩:=hW;have hA:DataW.TrodAll enc Tryz.prog W 0 (fun _=>true) true Tryz.f3.params.toList args.toList ds p:=hA0;rw[Tryz.params3]at hA hval;obtain⟨v0,vs0,d0,ds0,p0,q0,hargs,rfl,rfl,h0,r0⟩:=trodAll_cons hA;obtain⟨v1,vs1,d1,ds1,p1,q1,rfl,rfl,rfl,h1,r1⟩:=trodAll_cons r0;obtain⟨v2,vs2,d2,ds2,p2,q2,rfl,rfl,rfl,h2,r2⟩:=trodAll_cons r1;obtain⟨v3,vs3,d3,ds3,p3,q3,rfl,rfl,rfl,h3,r3⟩:=trodAll_cons r2;obtain⟨v4,vs4,d4,ds4,p4,q4,rfl,rfl,rfl,h4,r4⟩:=trodAll_cons r3;obtain⟨rfl,rfl,rfl⟩:=trodAll_nil r4;obtain⟨rfl,rfl⟩:=trodVars_none hV;obtain rfl:args= #[v0,v1,v2,v3,v4]:=by cases args;simp_all
 obtain⟨e0,re0⟩:=o8 (hval 0 22 v0 rfl rfl) h0;obtain⟨e1,m1,re1⟩:=qE h1;obtain⟨e2,re2⟩:=oX (hval 2 27 v2 rfl rfl) h2;obtain⟨e3,re3⟩:=j3 (hval 3 3 v3 rfl rfl) h3;obtain⟨e4,re4⟩:=j3 (hval 4 3 v4 rfl rfl) h4;refine jP (C:=CT none') Tryz.func3 rfl rfl sO sP (fun t ht=>?_) rfl rfl rfl Tryz.underlying4 hW' (fun g cs hg=>by simp only[yY,none']at hg;cases hg) (xs:=[.sl 7 (e0.map Ev.av),e1.av,e2.av,.int .i64 e3,.int .i64 e4]) ⟨rfl,fun i x hi=>?_⟩ (nQ none' (fun g cs hg=>by simp only[yY,none']at hg;cases hg) e0 e1 m1 e2 e3 e4 [])
 ·rw[Tryz.params3]at ht
  change t∈ [_,_,_,_,_]at ht
  simp only[N2,X0,or_false,or_self]at ht;rcases ht with rfl|rfl|rfl|rfl|rfl<;>exact zd1 (by kernel_rfl)
 ·match i with
  |0=>simp at hi;subst hi;exact re0
  |1=>simp at hi;subst hi;exact re1
  |2=>simp at hi;subst hi;exact re2
  |3=>simp at hi;subst hi;exact re3
  |4=>simp at hi;subst hi;exact re4
  |i+5=>simp at hi
def wit:Array Value:= #[.slice none 0 0,.agg #[.int .i64 0,.int .i64 0,.string ⟨#[]⟩,.slice none 0 0],.agg #[.int .i64 0,.int .i64 0,.bool false],.int .i64 0,.int .i64 0]
noncomputable def witW(os:Os):World:=World.holding Tryz.prog os ⟨#[],wit,[]⟩
theorem laid_met(os:Os):laidMet Tryz.prog Rows.viewAsksRow.laid ((witW os).forCall (fun _ _=>0) ⟨#[],wit,[]⟩).memory:=
 laidMet_of_run' 8 (by kernel_rfl) (by kernel_rfl)
theorem reads(os:Os){H:Type}(enc:TypeId×Value→H):∃places,DataW.whole enc Tryz.prog ((witW os).forCall (fun _ _=>0) ⟨#[],wit,[]⟩).memory Tryz.f3.params.toList Rows.viewAsksSpec.vars false wit.toList 8=
  some ([.nil,.agg [.lit (.int .i64 0),.lit (.int .i64 0),.lit (.string []),.nil],.agg [.lit (.int .i64 0),.lit (.int .i64 0),.lit (.bool false)],.lit (.int .i64 0),.lit (.int .i64 0)],[],places):=
 ⟨[],by kernel_rfl⟩
theorem lifted(os:Os)(started:os.Started)(H:Type)(enc:TypeId×Value→H)(F:Stop.Interp):
  ReturnsInHanded {} Tryz.checked os 3 .any ((OpenSpec.ofChange Rows.viewAsksSpec).preRow enc Tryz.prog Tryz.f3 Rows.viewAsksRow.domain false Rows.viewAsksRow.laid) (((OpenSpec.ofChange Rows.viewAsksSpec).at F).post enc Tryz.prog Tryz.f3 false true false false):=by
 obtain⟨places,hx⟩:=reads os enc;refine returnsInHanded_of_row (C:=Tryz.checked) (s:=OpenSpec.ofChange Rows.viewAsksSpec) vp started (by kernel_rfl) Tryz.func3
  (witness_row_at (enc:=enc) (C:=Tryz.checked) false (witW os) wit rfl (by kernel_rfl) (by kernel_rfl) (by kernel_rfl)
   (OpenSpec.preRow_of_cond 8 hx (by kernel_rfl) (fun k hk=>by cases hk<;>kernel_rfl) (by kernel_rfl) (laid_met os))) ?_
 intro W base args ds gs before hval hW _ _ _ _ hsh _;exact contract H enc W base args ds gs before hval hW
theorem said:Rows.ViewAsksSaid:=
 OpenClaim.holds_of_cond 3 Tryz.f3 rfl rfl rfl rfl rfl rfl rfl ⟨rfl,rfl,rfl,rfl,rfl⟩ rfl rfl rfl rfl rfl (by kernel_rfl) Tryz.func3 (by kernel_rfl)
  (zd1 (by kernel_rfl)) (by unfold Func.isWrapper;first| (rw[M1 (by decide+kernel)];kernel_rfl)| (rw[L5 (by decide+kernel)];exact⟨rfl,rfl⟩))
  (fun os started H enc _ F=>by rw[OpenClaim.pre_eq_preRow];exact lifted os started H enc F)
end Go.Proofs.YtllhfnepgcbjnaaGreat.viewAsks
