/- The feeds under a folder: cmd.Under. -/
import Derived.Test.YtmfhelaoeaifeaaGreatDoorMkQc
set_option linter.unusedSimpArgs false
set_option linter.unusedVariables false
set_option linter.unusedSectionVars false
set_option linter.unnecessarySimpa false
set_option maxRecDepth 100000
set_option maxHeartbeats 16000000
namespace Go.Av
open Go.RowKit
section
variable {C:Ctx} {B n m:Nat} {S:Addr→Prop} {μ:Map} {h:Heap} {w:World} {t:Env} {a:Act} {ds:List Deferred}
theorem ij{ops:Array Oper}{i:Nat}{o:Oper}(hi:ops.toList.drop i=o::ops.toList.drop (i+1)):ops[i]? =some o:=by
 have:(ops.toList.drop i)[0]? =some o:=by rw[hi];rfl
 rw[List.getElem?_drop]at this
 simpa using this
theorem aZ{P:Program}{ops:Array Oper}{Q:Exit→Act→List Frame→World→Prop}{cs:List Frame}{i:Nat}{l:List Nat}{o:Oper}{v:Value}(hi:ops.toList.drop i=o::ops.toList.drop (i+1))(hg:o.guard=none)
  (hr:(execOp a.eval o).run P w=.ok (.value v) w)(k:wpOpsS P ops Q l (a.put o.dst v) cs w):wpOpsS P ops Q (i::l) a cs w:=by
 have hi:=ij hi
 unfold wpOpsS
 simp only[hi]
 rw[if_pos (by simp[Region.wanted,hg])]
 simp only[hr]
 exact k
theorem qi{P:Program}{ops:Array Oper}{Q:Exit→Act→List Frame→World→Prop}{c:Frame}{cs:List Frame}{i:Nat}{l:List Nat}{o:Oper}{v:Value}(hi:ops.toList.drop i=o::ops.toList.drop (i+1))(hg:o.guard=none)
  (hr:(execOp a.eval o).run P w=.ok .recover w)(hc:c.mode=.panicking [thrown v])(k:wpOpsS P ops Q l (a.put o.dst v) ({c with mode:=.panicking [{v,recovered:=true}]}::cs) w):wpOpsS P ops Q (i::l) a (c::cs) w:=by
 have hi:=ij hi
 unfold wpOpsS
 simp only[hi]
 rw[if_pos (by simp[Region.wanted,hg])]
 simp only[hr,recoverD,hc,thrown]
 exact k
theorem oz{P:Program}{ops:Array Oper}{Q:Exit→Act→List Frame→World→Prop}{c:Frame}{cs:List Frame}{i:Nat}{l:List Nat}{o:Oper}(hi:ops.toList.drop i=o::ops.toList.drop (i+1))(hg:o.guard=none)
  (hr:(execOp a.eval o).run P w=.ok .recover w)(hc:c.mode=.returning)(k:wpOpsS P ops Q l (a.put o.dst .nilIface) (c::cs) w):wpOpsS P ops Q (i::l) a (c::cs) w:=by
 have hi:=ij hi
 unfold wpOpsS
 simp only[hi]
 rw[if_pos (by simp[Region.wanted,hg])]
 simp only[hr,recoverD,hc]
 exact k
def SatR(C:Ctx)(g:FuncId)(args:List AVal)(h:Heap)(x:Option AVal)(R:Heap→Prop):Prop:=
 ∀B S μ w vs u,Fits C B S μ h w→RepL w S μ args vs→(match x with|none=>u=.returning|some x=>∃xv,Rep w S μ x xv∧u=.panicking [thrown xv])→
  CallsD C.P g vs.toArray u w fun e u' w'=>∃v,e=.returned v∧settle u'=.returning∧∃h' S' μ',R h'∧Step B S μ w S' μ' w'∧Fits C B S' μ' h' w'
theorem SatR.mono{g:FuncId}{args:List AVal}{x:Option AVal}{R R':Heap→Prop}(s:SatR C g args h x R)(k:∀h',R h'→R' h'):SatR C g args h x R':=fun B S μ w vs u f r hx=>
 (s B S μ w vs u f r hx).mono fun _ _ _ ⟨v,he,hs,h',S',μ',hr,q⟩=>⟨v,he,hs,h',S',μ',k _ hr,q⟩
theorem Sat.deferred{f g:FuncId}{fn gn:Func}{c0 c1 gc:Code}{id d:Nat}{ops:Array Oper}{caps:List Operand}{args:List AVal}{R:AVal→Heap→Prop}
  (hf:C.P.funcs[f]? =some fn)(hb:fn.body=some (.seq c0 (.seq (.region id ops false) c1)))(hname:(fn.name== "runtime.NumGoroutine")=false)
  (hgf:C.P.funcs[g]? =some gn)(hgb:gn.body=some gc)(hgn:(gn.name== "runtime.NumGoroutine")=false)
  (hops:∃T1 T2 p1 p2 a1 a2,ops.toList=[⟨some d,.makeFunc (.func g) #[] caps.toArray,T1,p1,a1,none⟩,⟨none,.defer ⟨.value (.tmp d), #[], #[]⟩,T2,p2,a2,none⟩])
  (ho0:okCode fn.ntmps c0=true)(ho1:okCode fn.ntmps c1=true)(hoc:caps.all (okOpd fn.ntmps)=true)(hd:d<fn.ntmps)
  (hres:fn.results.toList.all (okRes fn.ntmps)=true)(hlen:args.length≤fn.ntmps)
  (hw:∀KK:Env→Heap→Prop,(∀t1 h1,
    ((∃Q:AVal→Env→Heap→Prop,DJ C fn.ntmps Q c1 (upd t1 d (.fn (.func g) [] (caps.map (aev C.G t1)))) h1∧
     ∀x t2 h2,Q x t2 h2→SatR C g (caps.map (aev C.G t1)) h2 (some x) fun h3=>need (resA C t2 h3 fn.results.toList) (Fin h h3 R))∨
    (∃Q:Env→Heap→Prop,WP C c1 (fun e t h=>(e=.normal∨e=.ret)∧Q t h) (upd t1 d (.fn (.func g) [] (caps.map (aev C.G t1)))) h1∧
     ∀t2 h2,Q t2 h2→SatR C g (caps.map (aev C.G t1)) h2 none fun h3=>need (resA C t2 h3 fn.results.toList) (Fin h h3 R)))→KK t1 h1)→
   WP C c0 (fun e t h=>e=.normal∧KK t h) (env0 args) h):Sat C f args h R:=by
 intro B S μ w vs fit rl
 have hcall:(callFunc f vs.toArray).run C.P w=.ok (.enter f vs.toArray) w:=by
  have hne:fn.name≠ "runtime.NumGoroutine" :=by simpa using hname
  simp[callFunc,hf,hne,hb]
 rw[hcall]
 show Calls C.P f vs.toArray w _
 refine calls_of_wp_defers hf hb ?_
 have hres':=List.all_eq_true.1 hres
 refine wpIn_wide.1 (wpIn_seq (wpIn_mono (dm (ρ:=none) (m:=0) (B:=B) (n:=fn.ntmps) (ds:=[]) c0 ho0 (.inl rfl) (Step.refl B S μ w) fit (dK rl hlen) (hw _ fun _ _ g=>g)) ?_))
 rintro e a1 w1 ⟨t1,h1,S1,μ1,⟨rfl,hk⟩,st1,f1,r1⟩
 have hcg:∀(az:Array Value) (w:World),(callFunc g az).run C.P w=.ok (.enter g az) w:=fun az w=>by
  have hne:gn.name≠ "runtime.NumGoroutine" :=by simpa using hgn
  simp[callFunc,hgf,hne,hgb]
 obtain⟨T1,T2,p1,p2,x1,x2,hops⟩:=hops
 have hcr:RepL w1 S1 μ1 (caps.map (aev C.G t1)) (caps.map a1.eval):=RepL.of_map (fun x hx=>bY f1 r1 x hx) caps (List.all_eq_true.1 hoc)
 let cv:Array Value:=caps.toArray.map a1.eval
 have hcv:cv.toList=caps.map a1.eval:=by simp[cv]
 have rfn:Rep w1 S1 μ1 (.fn (.func g) [] (caps.map (aev C.G t1))) (.func (.func g) #[] cv):=by
  have:=Rep.fn (w:=w1) (S:=S1) (μ:=μ1) (.func g) [] (caps.map (aev C.G t1)) [] cv.toList rfl (by rw[hcv];simp) (fun i x hx=>by cases hx) (fun i x hx=>by rw[hcv];exact hcr.2 i x hx)
  simpa using this
 let D:Deferred:= {target:=.fn (.func g) cv,args:= #[]}
 let a2:Act:= {a1.put (some d) (.func (.func g) #[] cv)with defers:=D::(a1.put (some d) (.func (.func g) #[] cv)).defers}
 have r2:REnv fn.ntmps w1 S1 μ1 (upd t1 d (.fn (.func g) [] (caps.map (aev C.G t1)))) a2 [D]:=by
  have:=r1.put (some d) rfn
  exact⟨this.1,congrArg (D:: ·) this.2.1,this.2.2⟩
 have leave:∀(a3:Act) (w3:World) (t3:Env) (h3:Heap) (S3:Addr→Prop) (μ3:Map) (x:Option AVal) (u:FrameMode),u≠ .run→Step B S μ w S1 μ1 w1→Step B S1 μ1 w1 S3 μ3 w3→Fits C B S3 μ3 h3 w3→REnv fn.ntmps w3 S3 μ3 t3 a3 [D]→
   (match x with|none=>u=.returning|some x=>∃xv,Rep w3 S3 μ3 x xv∧u=.panicking [thrown xv])→
   SatR C g (caps.map (aev C.G t1)) h3 x (fun h4=>need (resA C t3 h4 fn.results.toList) (Fin h h4 R))→
   Leaves C.P fn a3.tmps (fun e w'=>∃v,e=.returned v∧OpPost C B S μ w R v w') a3.defers u w3:=fun a3 w3 t3 h3 S3 μ3 x u hu s01 s13 f3 r3 hx hg=>by
  rw[r3.2.1]
  refine leaves_cons (f:=g) (args:=(caps.map a1.eval).toArray) hu ?_ ?_
  ·simp only[invoke]
   rw[show(#[]++cv:Array Value)=(caps.map a1.eval).toArray by simp[cv],hcg]
  ·refine(hg B S3 μ3 w3 (caps.map a1.eval) u f3 ⟨hcr.1,fun i x hx=>(hcr.2 i x hx).mono s13⟩ hx).mono ?_
   rintro e u' w4 ⟨v,rfl,hs,h4,S4,μ4,hn,s34,f4⟩
   show Leaves C.P fn a3.tmps _ [] (settle u') w4
   rw[hs]
   obtain⟨r0,hr0,hF⟩:=ac hn
   obtain⟨v,hv,hrep⟩:=i6 (ds:=[D]) f4 (r3.mono s34) hres' hr0
   exact⟨v,hv,v,rfl,hF.post fit ((s01.trans s13).trans s34) f4 hrep⟩
 refine wpIn_seq (wpIn_region_list ?_)
 rw[hops]
 unfold wpListIn
 rw[if_pos (by simp[Region.wanted])]
 refine⟨fun _ _=>trivial,?_⟩
 rw[Oper.semAt_eq _ _ _ fun c e=>by cases e]
 rw[show(execOp a1.eval ⟨some d,.makeFunc (.func g) #[] caps.toArray,T1,p1,x1,none⟩).run C.P w1=.ok (.value (.func (.func g) #[] cv)) w1 from aN (by simp[Instr.makeFunc,cv]),Oper.uponIn_value]
 unfold wpListIn
 rw[if_pos (by simp[Region.wanted])]
 refine⟨fun _ _=>trivial,?_⟩
 have hev:(a1.put (some d) (.func (.func g) #[] cv)).eval (.tmp d)=.func (.func g) #[] cv:=by
  have hs:d<a1.tmps.size:=by rw[r1.1];exact hd
  simp[Act.put,Act.eval,hs]
 have hde:(Oper.semAt Fence.wide.round (a1.put (some d) (.func (.func g) #[] cv)).eval ⟨none,.defer ⟨.value (.tmp d), #[], #[]⟩,T2,p2,x2,none⟩).run C.P w1=.ok (.defer D) w1:=by
  show(do pure (.defer (← resolve (a1.put (some d) (.func (.func g) #[] cv)).eval ⟨.value (.tmp d), #[], #[]⟩ T2)):Sem Next).run C.P w1=_
  simp only[resolve,hev,Deferred.ofValue,Sem.run_bind,Sem.run_pure,Result.andThen_ok]
  simp[D]
 change Oper.uponIn Fence.wide 0 C.P _ (a1.put (some d) (.func (.func g) #[] cv)) _ _ (Sem.run C.P (Oper.semAt Fence.wide.round (a1.put (some d) (.func (.func g) #[] cv)).eval _) w1)
 rw[hde,Oper.uponIn_defer]
 unfold wpListIn
 show c1.wpIn (WF none) 0 C.P _ a2 w1
 obtain⟨Q,hj,hg⟩| ⟨Q,hj,hg⟩:=hk
 ·refine wpIn_mono (hj 0 B S1 μ1 w1 S1 μ1 w1 a2 [D] (Step.refl ..) f1 r2) ?_
  rintro e a3 w3 ⟨v,x,t3,h3,S3,μ3,rfl,hq,st3,f3,r3,rr⟩
  exact leave a3 w3 t3 h3 S3 μ3 (some x) _ (by simp) st1 st3 f3 r3 ⟨v,rr,rfl⟩ (hg x t3 h3 hq)
 ·refine wpIn_mono (dm (ρ:=none) (ds:=[D]) c1 ho1 (.inl rfl) (Step.refl B S1 μ1 w1) f1 r2 hj) ?_
  rintro e a3 w3 ⟨t3,h3,S3,μ3,⟨he,hq⟩,st3,f3,r3⟩
  have:=leave a3 w3 t3 h3 S3 μ3 none .returning (by simp) st1 st3 f3 r3 rfl (hg t3 h3 hq)
  rcases he with rfl|rfl<;>exact this
end
end Go.Av
namespace Go.Av
open Go Go.Proofs Go.RowKit
attribute [local irreducible] WP WPl WPix Sat
def tUn:Bs:=[117,110,114,101,97,100]
def tOr:Bs:=[111,114]
abbrev qZ(op:Int):AVal:=.agg [.int .i64 op,.int .i64 0,.str [],.nil (.slice none 0 0)]
abbrev ptA(s:Bs):AVal:=.agg [.str s,.int .i64 0]
abbrev psr(l:List AVal)(e:Int):Blk:=.row 141 2 0 [.agg [.sl 2 l,.int .i64 e]]
def orcC(f:FuncId)(args:List AVal):Option AVal:=match args with
 | [.str s,.str p]=>if f=260 then(if s.length≤1048576 then some (.tup [.str (Lib.cut s p).1,.str (Lib.cut s p).2.1,.bool (Lib.cut s p).2.2])else none)else none
 |_=>none
variable (G:Nat→Option (List AVal))
theorem jx{G:Nat→Option (List AVal)}(hG:GOk G):OrcOk (CT G) orcC:=by
 intro f args r g h
 unfold orcC at g
 split at g
 ·rename_i s p
  split at g
  ·rename_i e;subst e
   split at g
   ·rename_i hs;cases g;exact uo G hG s p (by omega) h
   ·cases g
  ·cases g
 ·cases g
theorem sw:isV (.sl 2 [ptA tUn]) (callX (CT G) orcC 1000 100 92 [.str tUn] [])=true:=by kernel_rfl
theorem sx:isV (.sl 2 [ptA tOr]) (callX (CT G) orcC 1000 100 92 [.str tOr] [])=true:=by kernel_rfl
theorem uu:isV (.tup [qZ 9,.bool true]) (callX (CT G) orcC 1000 100 250 [.str tUn] [])=true:=by kernel_rfl
theorem vW{G:Nat→Option (List AVal)}(hG:GOk G)(hc:GClo (CT G))(h:Heap):Sat (CT G) 92 [.str tUn] h (fun r h'=>r=.sl 2 [ptA tUn]∧h'=h):=Sat.closedV hc (jx hG) 1000 100 rfl rfl (sw G) h
theorem vX{G:Nat→Option (List AVal)}(hG:GOk G)(hc:GClo (CT G))(h:Heap):Sat (CT G) 92 [.str tOr] h (fun r h'=>r=.sl 2 [ptA tOr]∧h'=h):=Sat.closedV hc (jx hG) 1000 100 rfl rfl (sx G) h
theorem yG{G:Nat→Option (List AVal)}(hG:GOk G)(hc:GClo (CT G))(h:Heap):Sat (CT G) 250 [.str tUn] h (fun r h'=>r=.tup [qZ 9,.bool true]∧h'=h):=Sat.closedV hc (jx hG) 1000 100 rfl rfl (uu G) h
theorem jy(N:Nat)(op:Int):Clo N (qZ op):=.agg _ fun c hc=>by
 simp only[List.mem_cons,List.not_mem_nil,or_false]at hc
 rcases hc with rfl|rfl|rfl|rfl<;>constructor
theorem FI:(tUn==tUn)=true:=rfl
theorem FJ:(([]:Bs)==tOr)=false:=rfl
theorem eU:(tUn==([]:Bs))=false∧(tUn==[111,114])=false∧(tUn==[97,110,100])=false∧(tUn==[41])=false∧(tUn==[110,111,116])=false∧(tUn==[40])=false:=⟨rfl,rfl,rfl,rfl,rfl,rfl⟩
theorem eO:(tOr==([]:Bs))=false∧(tOr==[111,114])=true:=⟨rfl,rfl⟩
section
variable (X j:Heap) (e:Int)
theorem fK(s:Bs):Sat (CT G) 234 [.hp X.length 0 0 0] (X++(psr [ptA s] e::j)) (fun r h'=>r=.str s∧h'=X++(psr [ptA s] e::j)):=by
 have F:= @ap
 refine sb [.tmp 2] (fn:=Tryz.f234) Tryz.func234 ?_
 intro Q hQ
 refine wk F ?_
 refine ee hQ F ?_
 exact Fin.same (.str _) ⟨rfl,rfl⟩
theorem jY:Sat (CT G) 234 [.hp X.length 0 0 0] (X++(psr [] e::j)) (fun r h'=>r=.str []∧h'=X++(psr [] e::j)):=by
 have F:= @ap
 refine sb [.tmp 2] (fn:=Tryz.f234) Tryz.func234 ?_
 intro Q hQ
 refine wk F ?_
 refine ee hQ F ?_
 exact Fin.same (.str _) ⟨rfl,rfl⟩
theorem qj:Sat (CT G) 190 [.hp X.length 0 0 0,.str tUn] (X++(psr [ptA tUn] e::j)) (fun r h'=>r=.bool true∧h'=X++(psr [] e::j)):=by
 have hsl:∀h,aslice Tryz.prog h 138 (.sl 2 [ptA tUn]) (some (.int .i64 1)) none none=some (.sl 2 []):=fun h=>rfl
 have F:=F3 @FI hsl @ap
 refine sb [.tmp 4] (fn:=Tryz.f190) Tryz.func190 ?_
 intro Q hQ
 refine wk F ?_
 refine kq F (fK G _ _ _ _) ?_
 refine ee hQ F ?_
 exact Fin.whole (by simp) (.bool _) ⟨rfl,rfl⟩
theorem ql:Sat (CT G) 190 [.hp X.length 0 0 0,.str tOr] (X++(psr [] e::j)) (fun r h'=>r=.bool false∧h'=X++(psr [] e::j)):=by
 have F:=F2 @FJ @ap
 refine sb [.tmp 4] (fn:=Tryz.f190) Tryz.func190 ?_
 intro Q hQ
 refine wk F ?_
 refine kq F (jY G _ _ _) ?_
 refine ee hQ F ?_
 exact Fin.same (.bool _) ⟨rfl,rfl⟩
theorem gQ(op:Int)(h:Heap):Sat (CT G) 191 [.int .i64 op,.sl 4 [qZ 9]] h (fun r h'=>r=qZ 9∧h'=h):=by
 have F:= @ap
 refine sb [.cell 4 25] (fn:=Tryz.f191) Tryz.func191 ?_
 intro Q hQ
 refine wk F ?_
 refine ye hQ F ?_
 exact Fin.plain (jy _ _) ⟨rfl,rfl⟩
theorem uv(hG:GOk G)(hc:GClo (CT G)):Sat (CT G) 233 [.hp X.length 0 0 0] (X++(psr [ptA tUn] e::j)) (fun r h'=>r=qZ 9∧∃k,h'=X++(psr [] e::(j++k))):=by
 have F:=F2 @eU @ap
 refine sb [.cell 2 25] (fn:=Tryz.f233) Tryz.func233 ?_
 intro Q hQ
 refine wk F ?_
 refine kq F (fK G _ _ _ _) ?_
 refine kq F (yG hG hc _) ?_
 refine kq F (qj G _ _ _) ?_
 refine ye hQ F ?_
 exact Fin.whole (by simp) (jy _ _) ⟨rfl,_,rfl⟩
theorem uw(hG:GOk G)(hc:GClo (CT G)):Sat (CT G) 189 [.hp X.length 0 0 0] (X++(psr [ptA tUn] e::j)) (fun r h'=>r=qZ 9∧∃k,h'=X++(psr [] e::(j++k))):=by
 have e0:(([]:Bs)==[])=true:=rfl
 have F:=F2 e0 @ap
 refine sb [.cell 2 25] (fn:=Tryz.f189) Tryz.func189 ?_
 intro Q hQ
 refine wk F ?_
 refine(uv G _ _ _ hG hc).mono ?_
 rintro r h' ⟨rfl,k,rfl⟩
 try refine sq F ?_
 refine wk F ?_
 refine lm (fun nL tL hL=>0=nL∧X++(psr [] e::(j++(Blk.row 25 4 0 [qZ 0]::k)))=hL∧tL 3=.sl 4 [qZ 9]) (0) ?_ ?_
 ·refine Wkn.refl ⟨rfl,by simp,?_⟩
  all_goals first|exact zq F|rfl|omega|trivial|skip
 rintro _ s2 h' ⟨rfl,rfl,e3⟩ K2 hK2
 simp only[aj,ao,Nat.reduceEqDiff, ↓reduceIte]at e3
 have F:=F2 F e3
 refine wk F ?_
 refine kq F (jY G _ _ _) ?_
 refine kq F (gQ G _ _) ?_
 refine ye hQ F ?_
 exact Fin.whole (by simp) (jy _ _) ⟨rfl,_,rfl⟩
theorem qm(hG:GOk G)(hc:GClo (CT G)):Sat (CT G) 145 [.hp X.length 0 0 0] (X++(psr [ptA tUn] e::j)) (fun r h'=>r=qZ 9∧∃k,h'=X++(psr [] e::(j++k))):=by
 have F:= @ap
 refine sb [.cell 2 25] (fn:=Tryz.f145) Tryz.func145 ?_
 intro Q hQ
 refine wk F ?_
 refine(uw G _ _ _ hG hc).mono ?_
 rintro r h' ⟨rfl,k,rfl⟩
 try refine sq F ?_
 refine wk F ?_
 refine lm (fun nL tL hL=>0=nL∧X++(psr [] e::(j++(Blk.row 25 4 0 [qZ 0]::k)))=hL∧tL 3=.sl 4 [qZ 9]) (0) ?_ ?_
 ·refine Wkn.refl ⟨rfl,by simp,?_⟩
  all_goals first|exact zq F|rfl|omega|trivial|skip
 rintro _ s2 h' ⟨rfl,rfl,e3⟩ K2 hK2
 simp only[aj,ao,Nat.reduceEqDiff, ↓reduceIte]at e3
 have F:=F2 F e3
 refine wk F ?_
 refine kq F (ql G _ _ _) ?_
 refine kq F (gQ G _ _) ?_
 refine ye hQ F ?_
 exact Fin.whole (by simp) (jy _ _) ⟨rfl,_,rfl⟩
abbrev brk:AVal:=.ifc 179 (.int .i64 0)
theorem qp(s:Bs):SatD (CT G) 146 [.hp X.length 0 0 0] (X++(psr [ptA s] e::j)) (fun r h'=>r=brk∧h'=X++(psr [ptA s] e::j)):=by
 skip
 have F:= @ap
 refine SatD.of_body (fn:=Tryz.f146) Tryz.func146 rfl (by kernel_rfl) (by rw[List.length_singleton];exact of_decide_eq_true (by kernel_rfl)) ?_
 refine DJ.seq1 (by kernel_rfl) fun KK kK=>?_
 refine wk F ?_
 refine kK _ _ (w0 ?_)
 clear kK KK
 refine DJ.region 8 (by kernel_rfl) rfl rfl ?_
 simp only[List.take_succ_cons,List.take_zero]
 simp(disch:=first|omega| (simp only[go_sem, ↓reduceIte,seval];first|done|omega)|fail) only[go_sem, ↓reduceIte,seval,F]
 exact DOp.pan (by exact zq F) ⟨rfl,rfl⟩
theorem sy:SatD (CT G) 233 [.hp X.length 0 0 0] (X++(psr [ptA tOr] e::j)) (fun r h'=>r=brk∧∃k,h'=X++(psr [ptA tOr] e::(j++k))):=by
 skip
 have F:=F2 @eO @ap
 refine SatD.of_body (fn:=Tryz.f233) Tryz.func233 rfl (by kernel_rfl) (by rw[List.length_singleton];exact of_decide_eq_true (by kernel_rfl)) ?_
 refine DJ.seq1 (by kernel_rfl) fun KK kK=>?_
 refine wk F ?_
 refine kK _ _ (w0 ?_)
 clear kK KK
 refine DJ.seq0 ?_
 refine DJ.seq1 (by kernel_rfl) fun KK kK=>?_
 refine wk F ?_
 refine kq F (fK G _ _ _ _) ?_
 refine kK _ _ (w0 ?_)
 clear kK KK
 refine DJ.seq1 (by kernel_rfl) fun KK kK=>?_
 refine wk F ?_
 refine kK _ _ (w0 ?_)
 clear kK KK
 refine DJ.block ?_
 refine DJ.seq1 (by kernel_rfl) fun KK kK=>?_
 refine wk F ?_
 refine kK _ _ (w0 ?_)
 clear kK KK
 refine DJ.cond (q:=true) (by kernel_rfl) (by exact zq F) (fun _=>?_) (fun h=>by cases h)
 refine DJ.region 1 (by kernel_rfl) rfl rfl ?_
 simp only[List.take_succ_cons,List.take_zero]
 simp(disch:=first|omega| (simp only[go_sem, ↓reduceIte,seval];first|done|omega)|fail) only[go_sem, ↓reduceIte,seval,F]
 exact DOp.call (xs:=[.hp X.length 0 0 0]) (by exact zq F) ((qp G X _ e tOr).mono fun r h' ⟨h1,h2⟩=>⟨h1,_,h2⟩)
theorem sA:SatD (CT G) 189 [.hp X.length 0 0 0] (X++(psr [ptA tOr] e::j)) (fun r h'=>r=brk∧∃k,h'=X++(psr [ptA tOr] e::(j++k))):=by
 skip
 have F:= @ap
 refine SatD.of_body (fn:=Tryz.f189) Tryz.func189 rfl (by kernel_rfl) (by rw[List.length_singleton];exact of_decide_eq_true (by kernel_rfl)) ?_
 refine DJ.seq1 (by kernel_rfl) fun KK kK=>?_
 refine wk F ?_
 refine kK _ _ (w0 ?_)
 clear kK KK
 refine DJ.seq0 ?_
 refine DJ.region 1 (by kernel_rfl) rfl rfl ?_
 simp only[List.take_succ_cons,List.take_zero]
 simp(disch:=first|omega| (simp only[go_sem, ↓reduceIte,seval];first|done|omega)|fail) only[go_sem, ↓reduceIte,seval,F]
 exact DOp.call (xs:=[.hp X.length 0 0 0]) (by exact zq F) ((sy G X _ e).mono fun r h' h=>by
  obtain⟨h1,k,rfl⟩:=h
  exact⟨h1,Blk.row 25 4 0 [qZ 0]::k,by rw[List.append_assoc];rfl⟩)
theorem oA:SatD (CT G) 145 [.hp X.length 0 0 0] (X++(psr [ptA tOr] e::j)) (fun r h'=>r=brk∧∃k,h'=X++(psr [ptA tOr] e::(j++k))):=by
 skip
 have F:= @ap
 refine SatD.of_body (fn:=Tryz.f145) Tryz.func145 rfl (by kernel_rfl) (by rw[List.length_singleton];exact of_decide_eq_true (by kernel_rfl)) ?_
 refine DJ.seq1 (by kernel_rfl) fun KK kK=>?_
 refine wk F ?_
 refine kK _ _ (w0 ?_)
 clear kK KK
 refine DJ.seq0 ?_
 refine DJ.region 1 (by kernel_rfl) rfl rfl ?_
 simp only[List.take_succ_cons,List.take_zero]
 simp(disch:=first|omega| (simp only[go_sem, ↓reduceIte,seval];first|done|omega)|fail) only[go_sem, ↓reduceIte,seval,F]
 exact DOp.call (xs:=[.hp X.length 0 0 0]) (by exact zq F) ((sA G X _ e).mono fun r h' h=>by
  obtain⟨h1,k,rfl⟩:=h
  exact⟨h1,Blk.row 25 4 0 [qZ 0]::k,by rw[List.append_assoc];rfl⟩)
end
end Go.Av
namespace Go.Av
open Go Go.Proofs Go.RowKit
attribute [local irreducible] WP WPl WPix Sat
variable (G:Nat→Option (List AVal))
theorem sF(pl:Qy→Bool)(B:Nat)(hB:B≤1048576)(hp:∀q h,q.sz≤B→Sat (CT G) 82 [q.av] h (fun r h'=>r=.bool (pl q)∧h'=h)):
  ∀(q:Qy) (h:Heap),q.sz≤B→Sat (CT G) 42 [q.av] h (fun r h'=>r=.bool (q.all pl)∧h'=h):=by
 refine Qy.ind fun op num s ks ih=>?_
 intro h hz
 have hpl:=fun h=>hp (.mk op num s ks) h hz
 have hkl:=Qy.szL_len ks
 have hkm:∀k∈ks,k.sz≤Qy.szL ks:=fun k hk=>Qy.szL_mem hk
 rw[Qy.sz]at hz
 have hml:(ks.map Qy.av).length=ks.length:=List.length_map ..
 rw[Qy.all]
 generalize pl (.mk op num s ks)=pq at*
 rw[Qy.av_eq]at*
 have F:=hml
 refine sb [.tmp 2] (fn:=Tryz.f42) Tryz.func42 ?_
 intro Q hQ
 refine wk F ?_
 refine lm (fun nL tL hL=>∃(k:Nat),ks.length-k=nL∧h++[.row 25 4 0 [.agg [.int .i64 op,.int .i64 num,.str s,.sl 4 (ks.map Qy.av)]]]=hL∧tL 3=.int .i64 k∧k≤ks.length∧Qy.allL pl ks=Qy.allL pl (ks.drop k)) ((fun(k:Nat)=>(ks.length-k:Nat)) (0)) ?_ ?_
 ·refine Wkn.refl ⟨0,rfl,aD,?_,by omega,rfl⟩
  all_goals first|exact zq F|rfl|omega|trivial|skip
 rintro _ s2 h' ⟨k,rfl,rfl,e3,hk,hm⟩ K2 hK2
 simp only[aj,ao,Nat.reduceEqDiff, ↓reduceIte]at e3
 have F:=F2 F e3
 refine wk F ?_
 refine cq F (fun c1=>?_) (fun c1=>?_)<;>(try exact c1.elim)<;>(refine wk F ?_)
 ·have c2:k<ks.length:=by omega
  obtain⟨y,hy,hym⟩:=af c2
  have hc:=fun h=>ih y hym h (by have:=hkm y hym;omega)
  rw[au hy,Qy.allL]at hm
  cases he:y.all pl with
  |true=>
   rw[he,Bool.true_and]at hm
   rw[he]at hc
   clear he
   obtain⟨yo,yn,ys,yl⟩:=y
   rw[Qy.av_eq]at hc
   have F:=F3 F hy c2
   try refine sq F ?_
   refine wk F ?_
   refine kq F (hc _) ?_
   refine hK2 _ _ _ (Wkn.refl ⟨k+1,rfl,aD,?_,by omega,hm⟩) (by omega)
   all_goals first|exact zq F|rfl|omega|trivial|skip
  |false=>
   rw[he,Bool.false_and]at hm
   rw[he]at hc
   clear he
   obtain⟨yo,yn,ys,yl⟩:=y
   rw[Qy.av_eq]at hc
   have F:=F3 F hy c2
   try refine sq F ?_
   refine wk F ?_
   refine kq F (hc _) ?_
   refine ee hQ F ?_
   exact Fin.plain (.bool _) ⟨by rw[hm];rfl,rfl⟩
 ·rw[aC c1,Qy.allL]at hm
  refine wk F ?_
  refine kq F (hpl _) ?_
  refine ee hQ F ?_
  exact Fin.plain (.bool _) ⟨by rw[hm];rfl,rfl⟩
def ixQ{α:Type}(p:α→Bool)(l:List α):Int:=match l.findIdx? p with
 |some k=>(k:Int)
 |none=> -1
theorem gg{α:Type}(p:α→Bool)(l:List α):decide (ixQ p l≥0)=l.any p:=by
 unfold ixQ
 cases h:l.findIdx? p with
 |none=>
  rw[List.findIdx?_eq_none_iff]at h
  have:l.any p=false:=by rw[List.any_eq_false];intro x hx;rw[h x hx];simp
  rw[this];rfl
 |some k=>
  obtain⟨hk,hp,_⟩:=List.findIdx?_eq_some_iff_getElem.1 h
  have:l.any p=true:=List.any_eq_true.2 ⟨l[k],List.getElem_mem hk,hp⟩
  rw[this];simp
theorem fL{α:Type}{p:α→Bool}{l:List α}{k:Nat}{y:α}(hy:l[k]? =some y)(he:p y=true)(hp:∀a∈l.take k,p a=false):ixQ p l=k:=by
 obtain⟨c2,hk⟩:=List.getElem?_eq_some_iff.1 hy
 unfold ixQ
 have:l.findIdx? p=some k:=by
  rw[List.findIdx?_eq_some_iff_getElem]
  refine⟨c2,by rw[hk];exact he,fun i hi=>?_⟩
  rw[hp _ (by rw[List.mem_take_iff_getElem];exact⟨i,by omega,rfl⟩)];simp
 rw[this]
theorem fM{α:Type}{p:α→Bool}{l:List α}(hp:∀a∈l,p a=false):ixQ p l= -1:=by
 unfold ixQ
 rw[List.findIdx?_eq_none_iff.2 hp]
theorem iW{α:Type}{p:α→Bool}{l:List α}{k:Nat}{y:α}(hy:l[k]? =some y)(he:p y=false)(hp:∀a∈l.take k,p a=false):∀a∈l.take (k+1),p a=false:=by
 rw[List.take_add_one,hy]
 intro a ha
 simp at ha
 rcases ha with ha|rfl
 ·exact hp a ha
 ·exact he
def FinW{σ:Type}(Hp:σ→Heap):Prop:=∀(x y:σ) (r:AVal) (R:AVal→Heap→Prop),(∀N,Clo N r)→R r (Hp y)→Fin (Hp x) (Hp y) R r
theorem mw{σ:Type}{Hp:σ→Heap}{P:σ→Prop}(hF:FinW Hp)(p:Qy→Bool)(g:FuncId)(cap:List AVal)(l:List Qy)(hl:l.length≤1048576)
  (hg:∀a∈l,∀x,P x→Sat (CT G) g ([]++[a.av]++cap) (Hp x) (fun r h'=>r=.bool (p a)∧∃y,P y∧h'=Hp y))(x:σ)(hx:P x):
  Sat (CT G) 122 [.sl 4 (l.map Qy.av),.fn (.func g) [] cap] (Hp x) (fun r h'=>r=.int .i64 (ixQ p l)∧∃y,P y∧h'=Hp y):=by
 have hml:(l.map Qy.av).length=l.length:=List.length_map ..
 have F:=hml
 refine sb [.tmp 4] (fn:=Tryz.f122) Tryz.func122 ?_
 intro Q hQ
 refine wk F ?_
 refine lm (fun nL tL hL=>∃(k:Nat) (z:σ),l.length-k=nL∧Hp z=hL∧tL 8=.int .i64 k∧k≤l.length∧P z∧(∀a∈l.take k,p a=false)) ((fun(k:Nat) (z:σ)=>(l.length-k:Nat)) (0) (x)) ?_ ?_
 ·refine Wkn.refl ⟨0,x,rfl,aD,?_,Nat.zero_le _,hx,by simp⟩
  all_goals first|exact zq F|rfl|omega|trivial|skip
 rintro _ s2 h' ⟨k,z,rfl,rfl,e8,hk,hz,hp⟩ K2 hK2
 simp only[aj,ao,Nat.reduceEqDiff, ↓reduceIte]at e8
 have F:=F2 F e8
 refine wk F ?_
 refine cq F (fun c1=>?_) (fun c1=>?_)<;>(try exact c1.elim)<;>(refine wk F ?_)
 ·have c2:k<l.length:=by omega
  obtain⟨y,hy,hym⟩:=af c2
  have hc:=hg y hym z hz
  cases he:p y with
  |true=>
   have e:=fL hy he hp
   rw[he]at hc
   clear he
   obtain⟨yo,yn,ys,yl⟩:=y
   rw[Qy.av_eq]at hc
   have F:=F3 F hy c2
   try refine sq F ?_
   refine wk F ?_
   refine hc.mono ?_
   rintro r h' ⟨rfl,u,hu,rfl⟩
   try refine sq F ?_
   refine wk F ?_
   refine ee hQ F ?_
   exact hF _ _ _ _ (fun N=>.int _ _) ⟨by rw[e],u,hu,rfl⟩
  |false=>
   have hp1:=iW hy he hp
   rw[he]at hc
   clear he
   obtain⟨yo,yn,ys,yl⟩:=y
   rw[Qy.av_eq]at hc
   have F:=F3 F hy c2
   try refine sq F ?_
   refine wk F ?_
   refine hc.mono ?_
   rintro r h' ⟨rfl,u,hu,rfl⟩
   try refine sq F ?_
   refine wk F ?_
   refine hK2 _ _ _ (Wkn.refl ⟨k+1,u,rfl,aD,?_,by omega,hu,hp1⟩) (by omega)
   all_goals first|exact zq F|rfl|omega|trivial|skip
 ·have e:=fM (p:=p) (l:=l) fun a ha=>hp a (by rwa [List.take_of_length_le (by omega)])
  refine ee hQ F ?_
  exact hF _ _ _ _ (fun N=>.int _ _) ⟨by rw[e],z,hz,rfl⟩
theorem fN{σ:Type}{Hp:σ→Heap}{P:σ→Prop}(hF:FinW Hp)(p:Qy→Bool)(g:FuncId)(cap:List AVal)(l:List Qy)(hl:l.length≤1048576)
  (hg:∀a∈l,∀x,P x→Sat (CT G) g ([]++[a.av]++cap) (Hp x) (fun r h'=>r=.bool (p a)∧∃y,P y∧h'=Hp y))(x:σ)(hx:P x):
  Sat (CT G) 71 [.sl 4 (l.map Qy.av),.fn (.func g) [] cap] (Hp x) (fun r h'=>r=.bool (l.any p)∧∃y,P y∧h'=Hp y):=by
 have hc:=mw G hF p g cap l hl hg x hx
 rw[← gg]
 refine sb [.tmp 4] (fn:=Tryz.f71) Tryz.func71 ?_
 intro Q hQ
 refine wk trivial ?_
 refine hc.mono ?_
 rintro r h' ⟨rfl,u,hu,rfl⟩
 try refine sq trivial ?_
 refine wk trivial ?_
 refine ee hQ trivial ?_
 exact hF _ _ _ _ (fun N=>.bool _) ⟨rfl,u,hu,rfl⟩
theorem sG(p:Qy→Bool)(g:FuncId)(cap:List AVal)(h:Heap)(l:List Qy)(hl:l.length≤1048576)(hg:∀a∈l,Sat (CT G) g ([]++[a.av]++cap) h (fun r h'=>r=.bool (p a)∧h'=h)):
  Sat (CT G) 71 [.sl 4 (l.map Qy.av),.fn (.func g) [] cap] h (fun r h'=>r=.bool (l.any p)∧h'=h):=
 (fN G (Hp:=fun _:Unit=>h) (P:=fun _=>True) (fun _ _ _ _ hc hR=>Fin.same (hc _) hR) p g cap l hl (fun a ha _ _=>(hg a ha).mono fun r h' ⟨h1,h2⟩=>⟨h1,(),trivial,h2⟩) () trivial).mono fun r h' ⟨h1,_,_,h2⟩=>⟨h1,h2⟩
def plP(nm tx kd:Qy→Bool)(q:Qy):Bool:= !(decide (q.op<1)||(decide (q.op>15)||(!nm q||(!tx q|| !kd q))))
theorem oE(nm tx kd:Qy→Bool)(B:Nat)(hB:B≤1048576)(h1:∀q h,q.sz≤B→Sat (CT G) 115 [q.av] h (fun r h'=>r=.bool (nm q)∧h'=h))(h2:∀q h,q.sz≤B→Sat (CT G) 116 [q.av] h (fun r h'=>r=.bool (tx q)∧h'=h))
  (h3:∀q h,q.sz≤B→Sat (CT G) 117 [q.av] h (fun r h'=>r=.bool (kd q)∧h'=h)):
  ∀(q:Qy) (h:Heap),q.sz≤B→Sat (CT G) 66 [q.av] h (fun r h'=>r=.bool (q.all (plP nm tx kd))∧h'=h):=by
 refine Qy.ind fun op num s ks ih=>?_
 intro h hz
 have k1:=fun h=>h1 (.mk op num s ks) h hz
 have k2:=fun h=>h2 (.mk op num s ks) h hz
 have k3:=fun h=>h3 (.mk op num s ks) h hz
 have hkl:=Qy.szL_len ks
 have hkm:∀k∈ks,k.sz≤Qy.szL ks:=fun k hk=>Qy.szL_mem hk
 rw[Qy.sz]at hz
 have hcl:∀a∈ks,∀h,Sat (CT G) 118 ([]++[a.av]++[]) h (fun r h'=>r=.bool (!a.all (plP nm tx kd))∧h'=h):=fun a ha h=>by
  have hc:=fun h=>ih a ha h (by have:=hkm a ha;omega)
  generalize a.all (plP nm tx kd)=e at*
  obtain⟨yo,yn,ys,yl⟩:=a
  rw[Qy.av_eq]at*
  refine sb [.tmp 2] (fn:=Tryz.f118) Tryz.func118 ?_
  intro Q hQ
  refine wk trivial ?_
  refine kq trivial (hc _) ?_
  refine ee hQ trivial ?_
  exact Fin.plain (.bool _) ⟨rfl,rfl⟩
 have hany:=fun h=>sG G (fun a=> !a.all (plP nm tx kd)) 118 [] h ks (by omega) (fun a ha=>hcl a ha h)
 have hfin:(!ks.any fun a=> !a.all (plP nm tx kd))=Qy.allL (plP nm tx kd) ks:=by
  rw[Qy.allL_eq,List.all_eq_not_any_not]
 rw[Qy.all, ← hfin]
 generalize (ks.any fun a=> !a.all (plP nm tx kd))=ay at*
 unfold plP
 show Sat _ _ _ _ (fun r h'=>r=.bool (!ay&& !(decide (op<1)||(decide (op>15)||(!nm (.mk op num s ks)||(!tx (.mk op num s ks)|| !kd (.mk op num s ks))))))∧h'=h)
 generalize nm (.mk op num s ks)=e1 at*
 generalize tx (.mk op num s ks)=e2 at*
 generalize kd (.mk op num s ks)=e3 at*
 rw[Qy.av_eq]at*
 have dt:∀i:Decidable True, @decide True i=true:=fun i=>by simp
 have df:∀i:Decidable False, @decide False i=false:=fun i=>by simp
 cases b1:decide (op<1)with
 |true=>
  have F:=b1
  refine sb [.tmp 2] (fn:=Tryz.f66) Tryz.func66 ?_
  intro Q hQ
  refine wk F ?_
  refine ee hQ F ?_
  exact Fin.plain (.bool _) ⟨by simp,rfl⟩
 |false=>
 cases b2:decide (op>15)with
 |true=>
  have F:=F2 b1 b2
  refine sb [.tmp 2] (fn:=Tryz.f66) Tryz.func66 ?_
  intro Q hQ
  refine wk F ?_
  refine ee hQ F ?_
  exact Fin.plain (.bool _) ⟨by simp,rfl⟩
 |false=>
 have F:=F2 b1 b2
 cases e1 with
 |false=>
  refine sb [.tmp 2] (fn:=Tryz.f66) Tryz.func66 ?_
  intro Q hQ
  refine wk F ?_
  refine kq F (k1 _) ?_
  refine ee hQ F ?_
  exact Fin.plain (.bool _) ⟨by simp,rfl⟩
 |true=>
 cases e2 with
 |false=>
  refine sb [.tmp 2] (fn:=Tryz.f66) Tryz.func66 ?_
  intro Q hQ
  refine wk F ?_
  refine kq F (k1 _) ?_
  refine kq F (k2 _) ?_
  refine ee hQ F ?_
  exact Fin.plain (.bool _) ⟨by simp,rfl⟩
 |true=>
 cases e3 with
 |false=>
  refine sb [.tmp 2] (fn:=Tryz.f66) Tryz.func66 ?_
  intro Q hQ
  refine wk F ?_
  refine kq F (k1 _) ?_
  refine kq F (k2 _) ?_
  refine kq F (k3 _) ?_
  refine ee hQ F ?_
  exact Fin.plain (.bool _) ⟨by simp,rfl⟩
 |true=>
  refine sb [.tmp 2] (fn:=Tryz.f66) Tryz.func66 ?_
  intro Q hQ
  refine wk F ?_
  refine kq F (k1 _) ?_
  refine kq F (k2 _) ?_
  refine kq F (k3 _) ?_
  refine kq F (hany _) ?_
  refine ee hQ F ?_
  exact Fin.plain (.bool _) ⟨by simp,rfl⟩
end Go.Av
namespace Go.Av
open Go Go.Proofs Go.RowKit
attribute [local irreducible] WP WPl WPix Sat
variable (G:Nat→Option (List AVal))
def kdF(q:Qy):Bool:=if q.op=3∨q.op=4 then decide (2≤q.kds.length)&&decide (q.kds.length≤16)else if q.op=5 then decide (q.kds.length=1)else decide (q.kds.length=0)
theorem qK(q:Qy)(h:Heap)(_hz:q.sz≤1048576):Sat (CT G) 117 [q.av] h (fun r h'=>r=.bool (kdF q)∧h'=h):=by
 obtain⟨op,num,s,ks⟩:=q
 have hml:(ks.map Qy.av).length=ks.length:=List.length_map ..
 rw[Qy.av_eq]
 show Sat _ _ _ _ (fun r h'=>r=.bool (if op=3∨op=4 then decide (2≤ks.length)&&decide (ks.length≤16)else if op=5 then decide (ks.length=1)else decide (ks.length=0))∧h'=h)
 by_cases k1:op=3∨op=4
 ·rw[if_pos k1]
  rcases k1 with k1|k1
  ·subst k1
   have F:=hml
   refine sb [.tmp 2] (fn:=Tryz.f117) Tryz.func117 ?_
   intro Q hQ
   refine wk F ?_
   repeat' (first
    | (exfalso;omega)
    | (refine cq F (fun hx=>?_) (fun hx=>?_)<;>(try exact hx.elim)<;>(refine wk F ?_))
    | ((first|refine gq F (fun hx=>?_) (fun hx=>?_)|refine pq F (fun hx=>?_) (fun hx=>?_))<;>(try exact hx.elim)<;>(try refine sq F ?_)<;>(refine wk F ?_)))
   all_goals (
    refine ee hQ F ?_
    exact Fin.plain (.bool _) ⟨by congr 1;rw[Bool.eq_iff_iff];simp;try omega,rfl⟩)
  ·subst k1
   have F:=hml
   refine sb [.tmp 2] (fn:=Tryz.f117) Tryz.func117 ?_
   intro Q hQ
   refine wk F ?_
   repeat' (first
    | (exfalso;omega)
    | (refine cq F (fun hx=>?_) (fun hx=>?_)<;>(try exact hx.elim)<;>(refine wk F ?_))
    | ((first|refine gq F (fun hx=>?_) (fun hx=>?_)|refine pq F (fun hx=>?_) (fun hx=>?_))<;>(try exact hx.elim)<;>(try refine sq F ?_)<;>(refine wk F ?_)))
   all_goals (
    refine ee hQ F ?_
    exact Fin.plain (.bool _) ⟨by congr 1;rw[Bool.eq_iff_iff];simp;try omega,rfl⟩)
 rw[if_neg k1]
 have d1:(op==3)=false:=by simp;omega
 have d2:(op==4)=false:=by simp;omega
 by_cases k2:op=5
 ·subst k2
  rw[if_pos rfl]
  have F:=F3 hml d1 d2
  refine sb [.tmp 2] (fn:=Tryz.f117) Tryz.func117 ?_
  intro Q hQ
  refine wk F ?_
  repeat' (first
   | (exfalso;omega)
   | (refine cq F (fun hx=>?_) (fun hx=>?_)<;>(try exact hx.elim)<;>(refine wk F ?_))
   | ((first|refine gq F (fun hx=>?_) (fun hx=>?_)|refine pq F (fun hx=>?_) (fun hx=>?_))<;>(try exact hx.elim)<;>(try refine sq F ?_)<;>(refine wk F ?_)))
  all_goals (
   refine ee hQ F ?_
   exact Fin.plain (.bool _) ⟨by congr 1;rw[Bool.eq_iff_iff];simp;try omega,rfl⟩)
 rw[if_neg k2]
 have d3:(op==5)=false:=by simp[k2]
 have F:=F4 hml d1 d2 d3
 refine sb [.tmp 2] (fn:=Tryz.f117) Tryz.func117 ?_
 intro Q hQ
 refine wk F ?_
 repeat' (first
  | (exfalso;omega)
  | (refine cq F (fun hx=>?_) (fun hx=>?_)<;>(try exact hx.elim)<;>(refine wk F ?_))
  | ((first|refine gq F (fun hx=>?_) (fun hx=>?_)|refine pq F (fun hx=>?_) (fun hx=>?_))<;>(try exact hx.elim)<;>(try refine sq F ?_)<;>(refine wk F ?_)))
 all_goals (
  refine ee hQ F ?_
  exact Fin.plain (.bool _) ⟨by congr 1;rw[Bool.eq_iff_iff];simp;try omega,rfl⟩)
def txF(q:Qy):Bool:=if q.op=8 then L0.tag q.txt else if q.op=11∨q.op=12 then isF q.txt else decide (q.txt=[])
theorem qL(q:Qy)(h:Heap)(hz:q.sz≤100000):Sat (CT G) 116 [q.av] h (fun r h'=>r=.bool (txF q)∧h'=h):=by
 obtain⟨op,num,s,ks⟩:=q
 rw[Qy.sz]at hz
 have hT:=fun h=>lJ G s h
 have hW:=fun h=>nu G s (by omega) h
 rw[Qy.av_eq]
 show Sat _ _ _ _ (fun r h'=>r=.bool (if op=8 then L0.tag s else if op=11∨op=12 then isF s else decide (s=[]))∧h'=h)
 generalize L0.tag s=e1 at*
 generalize isF s=e2 at*
 by_cases k1:op=8
 ·rw[if_pos k1]
  subst k1
  refine sb [.tmp 2] (fn:=Tryz.f116) Tryz.func116 ?_
  intro Q hQ
  refine wk trivial ?_
  refine kq trivial (hT _) ?_
  refine ee hQ trivial ?_
  exact Fin.plain (.bool _) ⟨rfl,rfl⟩
 rw[if_neg k1]
 have d1:(op==8)=false:=by simp[k1]
 by_cases k2:op=11
 ·subst k2
  refine sb [.tmp 2] (fn:=Tryz.f116) Tryz.func116 ?_
  intro Q hQ
  refine wk trivial ?_
  refine kq trivial (hW _) ?_
  refine ee hQ trivial ?_
  exact Fin.plain (.bool _) ⟨rfl,rfl⟩
 by_cases k3:op=12
 ·subst k3
  refine sb [.tmp 2] (fn:=Tryz.f116) Tryz.func116 ?_
  intro Q hQ
  refine wk trivial ?_
  refine kq trivial (hW _) ?_
  refine ee hQ trivial ?_
  exact Fin.plain (.bool _) ⟨rfl,rfl⟩
 rw[if_neg (by omega)]
 have d2:(op==11)=false:=by simp[k2]
 have d3:(op==12)=false:=by simp[k3]
 have F:=F3 d1 d2 d3
 refine sb [.tmp 2] (fn:=Tryz.f116) Tryz.func116 ?_
 intro Q hQ
 refine wk F ?_
 refine ee hQ F ?_
 exact Fin.plain (.bool _) ⟨by congr 1;rw[Bool.eq_iff_iff];simp,rfl⟩
end Go.Av
namespace Go.Av
open Go Go.Proofs Go.RowKit
attribute [local irreducible] WP WPl WPix Sat
variable (G:Nat→Option (List AVal))
def nuF(op n:Int):Bool:=if op=6 then decide (1≤n)&&decide (n≤1048576)else if op=7 then decide (0≤n)&&decide (n≤1048576)else if op=13∨op=14 then momF n else if op=15 then decide (1≤n)&&decide (n≤36500)else decide (n=0)
theorem mL(q:Qy)(h:Heap):Sat (CT G) 115 [q.av] h (fun r h'=>r=.bool (nuF q.op q.num)∧h'=h):=by
 obtain⟨op,num,s,ks⟩:=q
 rw[Qy.av_eq]
 show Sat _ _ _ _ (fun r h'=>r=.bool (nuF op num)∧h'=h)
 unfold nuF
 by_cases k1:op=6
 ·rw[if_pos k1]
  subst k1
  refine sb [.tmp 2] (fn:=Tryz.f115) Tryz.func115 ?_
  intro Q hQ
  refine wk trivial ?_
  repeat' (first
   | (exfalso;omega)
   | (refine cq trivial (fun hx=>?_) (fun hx=>?_)<;>(try exact hx.elim)<;>(refine wk trivial ?_))
   | ((first|refine gq trivial (fun hx=>?_) (fun hx=>?_)|refine pq trivial (fun hx=>?_) (fun hx=>?_))<;>(try exact hx.elim)<;>(try refine sq trivial ?_)<;>(refine wk trivial ?_)))
  all_goals (
   refine ee hQ trivial ?_
   exact Fin.plain (.bool _) ⟨by congr 1;rw[Bool.eq_iff_iff];simp;try omega,rfl⟩)
 rw[if_neg k1]
 have d1:(op==6)=false:=by simp[k1]
 by_cases k2:op=7
 ·rw[if_pos k2]
  subst k2
  refine sb [.tmp 2] (fn:=Tryz.f115) Tryz.func115 ?_
  intro Q hQ
  refine wk trivial ?_
  repeat' (first
   | (exfalso;omega)
   | (refine cq trivial (fun hx=>?_) (fun hx=>?_)<;>(try exact hx.elim)<;>(refine wk trivial ?_))
   | ((first|refine gq trivial (fun hx=>?_) (fun hx=>?_)|refine pq trivial (fun hx=>?_) (fun hx=>?_))<;>(try exact hx.elim)<;>(try refine sq trivial ?_)<;>(refine wk trivial ?_)))
  all_goals (
   refine ee hQ trivial ?_
   exact Fin.plain (.bool _) ⟨by congr 1;rw[Bool.eq_iff_iff];simp;try omega,rfl⟩)
 rw[if_neg k2]
 have d2:(op==7)=false:=by simp[k2]
 by_cases k3:op=13∨op=14
 ·rw[if_pos k3]
  have hd:=nv G num
  rcases k3 with k3|k3
  ·subst k3
   refine sb [.tmp 2] (fn:=Tryz.f115) Tryz.func115 ?_
   intro Q hQ
   refine wk trivial ?_
   refine(hd _).mono ?_
   rintro r h' ⟨⟨_,_,_,_,_,_,rfl⟩,rfl⟩
   cases hm:momF num
   ·have F:=hm
    try refine sq F ?_
    refine wk F ?_
    refine ee hQ F ?_
    exact Fin.plain (.bool _) ⟨rfl,rfl⟩
   ·have F:=hm
    try refine sq F ?_
    refine wk F ?_
    refine ee hQ F ?_
    exact Fin.plain (.bool _) ⟨rfl,rfl⟩
  ·subst k3
   refine sb [.tmp 2] (fn:=Tryz.f115) Tryz.func115 ?_
   intro Q hQ
   refine wk trivial ?_
   refine(hd _).mono ?_
   rintro r h' ⟨⟨_,_,_,_,_,_,rfl⟩,rfl⟩
   cases hm:momF num
   ·have F:=hm
    try refine sq F ?_
    refine wk F ?_
    refine ee hQ F ?_
    exact Fin.plain (.bool _) ⟨rfl,rfl⟩
   ·have F:=hm
    try refine sq F ?_
    refine wk F ?_
    refine ee hQ F ?_
    exact Fin.plain (.bool _) ⟨rfl,rfl⟩
 rw[if_neg k3]
 have d3:(op==13)=false:=by simp;omega
 have d4:(op==14)=false:=by simp;omega
 by_cases k4:op=15
 ·rw[if_pos k4]
  subst k4
  refine sb [.tmp 2] (fn:=Tryz.f115) Tryz.func115 ?_
  intro Q hQ
  refine wk trivial ?_
  repeat' (first
   | (exfalso;omega)
   | (refine cq trivial (fun hx=>?_) (fun hx=>?_)<;>(try exact hx.elim)<;>(refine wk trivial ?_))
   | ((first|refine gq trivial (fun hx=>?_) (fun hx=>?_)|refine pq trivial (fun hx=>?_) (fun hx=>?_))<;>(try exact hx.elim)<;>(try refine sq trivial ?_)<;>(refine wk trivial ?_)))
  all_goals (
   refine ee hQ trivial ?_
   exact Fin.plain (.bool _) ⟨by congr 1;rw[Bool.eq_iff_iff];simp;try omega,rfl⟩)
 rw[if_neg k4]
 have d5:(op==15)=false:=by simp[k4]
 have F:=F5 d1 d2 d3 d4 d5
 refine sb [.tmp 2] (fn:=Tryz.f115) Tryz.func115 ?_
 intro Q hQ
 refine wk F ?_
 refine ee hQ F ?_
 exact Fin.plain (.bool _) ⟨by congr 1,rfl⟩
end Go.Av
namespace Go.Av
open Go Go.Proofs Go.RowKit
attribute [local irreducible] WP WPl WPix Sat
variable (G:Nat→Option (List AVal))
theorem qS(t:Bs)(ht:t.length≤20000)(h:Heap):Sat (CT G) 132 [.str t] h (fun r h'=>r=.bool (isF t)∧h'=h):=by
 have hwl:(wordsF t).length≤1000000:=by
  have h1:=eZ (runesF (foldS t)) [] []
  have h2:=bQ (foldS t).length (foldS t) (Nat.le_refl _)
  have h3:=d8 t
  rw[← eX]at h1
  simp only[List.length_nil]at h1
  omega
 have hS:=kj G (wordsF t) [t] hwl (by simp)
 refine sb [.tmp 2] (fn:=Tryz.f132) Tryz.func132 ?_
 intro Q hQ
 refine wk trivial ?_
 refine kq trivial (j6 G t (by omega) _) ?_
 refine kq trivial (hS _) ?_
 refine ee hQ trivial ?_
 exact Fin.same (.bool _) ⟨by simp[isF],rfl⟩
def kdG(op:Int)(n:Nat):Bool:=if op=3∨op=4 then decide (2≤n)&&decide (n≤16)else if op=5 then decide (n=1)else decide (n=0)
def txG(op:Int)(t:Bs):Bool:=if op=8 then L0.tag t else if op=11∨op=12 then isF t else decide (t=[])
def pnG(op num:Int)(t:Bs)(n:Nat):Bool:=decide (1≤op)&&decide (op≤15)&&nuF op num&&txG op t&&kdG op n
theorem Cz(op num:Int)(s:Bs)(ks:List AVal)(h:Heap)(ho:op=1∨op=2∨op=3∨op=4∨op=5∨op=6∨op=7∨op=9∨op=10∨op=15):Sat (CT G) 82 [.agg [.int .i64 op,.int .i64 num,.str s,.sl 4 ks]] h (fun r h'=>r=.bool (pnG op num s ks.length)∧h'=h):=by
 rcases ho with rfl|rfl|rfl|rfl|rfl|rfl|rfl|rfl|rfl|rfl
 all_goals (
  refine sb [.tmp 2] (fn:=Tryz.f82) Tryz.func82 ?_
  intro Q hQ
  refine wk trivial ?_
  repeat' (first
   | (exfalso;omega)
   | (refine cq trivial (fun hx=>?_) (fun hx=>?_)<;>(try exact hx.elim)<;>(refine wk trivial ?_))
   | ((first|refine gq trivial (fun hx=>?_) (fun hx=>?_)|refine pq trivial (fun hx=>?_) (fun hx=>?_))<;>(try exact hx.elim)<;>(try refine sq trivial ?_)<;>(refine wk trivial ?_)))
  all_goals (
   refine ee hQ trivial ?_
   exact Fin.plain (.bool _) ⟨by congr 1;rw[Bool.eq_iff_iff];simp[pnG,nuF,txG,kdG, *];try omega,rfl⟩))
end Go.Av
namespace Go.Av
open Go Go.Proofs Go.RowKit
attribute [local irreducible] WP WPl WPix Sat
variable (G:Nat→Option (List AVal))
theorem CA(num:Int)(s:Bs)(ks:List AVal)(h:Heap):Sat (CT G) 82 [.agg [.int .i64 8,.int .i64 num,.str s,.sl 4 ks]] h (fun r h'=>r=.bool (pnG 8 num s ks.length)∧h'=h):=by
 have hT:=fun h=>tC G s h
 have hp:pnG 8 num s ks.length=(decide (num=0)&&(L0.tag s&&decide (ks.length=0))):=by
  unfold pnG nuF txG kdG;simp[Bool.and_assoc]
 rw[hp]
 generalize L0.tag s=e at*
 by_cases hn:num=0
 ·subst hn
  cases e
  all_goals (
   refine sb [.tmp 2] (fn:=Tryz.f82) Tryz.func82 ?_
   intro Q hQ
   refine wk trivial ?_
   repeat' (first
    | (exfalso;omega)
    | (refine kq trivial (hT _) ?_)
    | (refine cq trivial (fun hx=>?_) (fun hx=>?_)<;>(try exact hx.elim)<;>(refine wk trivial ?_))
    | ((first|refine gq trivial (fun hx=>?_) (fun hx=>?_)|refine pq trivial (fun hx=>?_) (fun hx=>?_))<;>(try exact hx.elim)<;>(try refine sq trivial ?_)<;>(refine wk trivial ?_)))
   all_goals (
    refine ee hQ trivial ?_
    exact Fin.plain (.bool _) ⟨by first|rfl| (congr 1;rw[Bool.eq_iff_iff];simp),rfl⟩))
 ·have b2:(num==0)=false:=by simpa using hn
  rw[show decide (num=0)=false by simpa using hn,Bool.false_and]
  have F:=b2
  refine sb [.tmp 2] (fn:=Tryz.f82) Tryz.func82 ?_
  intro Q hQ
  refine wk F ?_
  repeat' (first
   | (exfalso;omega)
   | (refine cq F (fun hx=>?_) (fun hx=>?_)<;>(try exact hx.elim)<;>(refine wk F ?_))
   | ((first|refine gq F (fun hx=>?_) (fun hx=>?_)|refine pq F (fun hx=>?_) (fun hx=>?_))<;>(try exact hx.elim)<;>(try refine sq F ?_)<;>(refine wk F ?_)))
  all_goals (
   refine ee hQ F ?_
   exact Fin.plain (.bool _) ⟨rfl,rfl⟩)
theorem CB(op num:Int)(s:Bs)(hs:s.length≤20000)(ks:List AVal)(h:Heap)(ho:op=11∨op=12):Sat (CT G) 82 [.agg [.int .i64 op,.int .i64 num,.str s,.sl 4 ks]] h (fun r h'=>r=.bool (pnG op num s ks.length)∧h'=h):=by
 have hT:=fun h=>qS G s hs h
 have hp:pnG op num s ks.length=(decide (num=0)&&(isF s&&decide (ks.length=0))):=by
  unfold pnG nuF txG kdG;rcases ho with rfl|rfl<;>simp[Bool.and_assoc]
 rw[hp]
 generalize isF s=e at*
 by_cases hn:num=0
 ·subst hn
  rcases ho with rfl|rfl<;>cases e
  all_goals (
   refine sb [.tmp 2] (fn:=Tryz.f82) Tryz.func82 ?_
   intro Q hQ
   refine wk trivial ?_
   repeat' (first
    | (exfalso;omega)
    | (refine kq trivial (hT _) ?_)
    | (refine cq trivial (fun hx=>?_) (fun hx=>?_)<;>(try exact hx.elim)<;>(refine wk trivial ?_))
    | ((first|refine gq trivial (fun hx=>?_) (fun hx=>?_)|refine pq trivial (fun hx=>?_) (fun hx=>?_))<;>(try exact hx.elim)<;>(try refine sq trivial ?_)<;>(refine wk trivial ?_)))
   all_goals (
    refine ee hQ trivial ?_
    exact Fin.plain (.bool _) ⟨by first|rfl| (congr 1;rw[Bool.eq_iff_iff];simp),rfl⟩))
 ·have b2:(num==0)=false:=by simpa using hn
  rw[show decide (num=0)=false by simpa using hn,Bool.false_and]
  have F:=b2
  rcases ho with rfl|rfl
  all_goals (
   refine sb [.tmp 2] (fn:=Tryz.f82) Tryz.func82 ?_
   intro Q hQ
   refine wk F ?_
   repeat' (first
    | (exfalso;omega)
    | (refine cq F (fun hx=>?_) (fun hx=>?_)<;>(try exact hx.elim)<;>(refine wk F ?_))
    | ((first|refine gq F (fun hx=>?_) (fun hx=>?_)|refine pq F (fun hx=>?_) (fun hx=>?_))<;>(try exact hx.elim)<;>(try refine sq F ?_)<;>(refine wk F ?_)))
   all_goals (
    refine ee hQ F ?_
    exact Fin.plain (.bool _) ⟨rfl,rfl⟩))
theorem CC(hc:GClo (CT G))(op num:Int)(s:Bs)(ks:List AVal)(h:Heap)(ho:op=13∨op=14):Sat (CT G) 82 [.agg [.int .i64 op,.int .i64 num,.str s,.sl 4 ks]] h (fun r h'=>r=.bool (pnG op num s ks.length)∧h'=h):=by
 have hT:=fun h=>tu G hc num h
 have hp:pnG op num s ks.length=(momF num&&(decide (s=[])&&decide (ks.length=0))):=by
  unfold pnG nuF txG kdG;rcases ho with rfl|rfl<;>simp[Bool.and_assoc]
 rw[hp]
 generalize momF num=e at*
 rcases ho with rfl|rfl<;>cases e
 all_goals (
  refine sb [.tmp 2] (fn:=Tryz.f82) Tryz.func82 ?_
  intro Q hQ
  refine wk trivial ?_
  repeat' (first
   | (exfalso;omega)
   | (refine kq trivial (hT _) ?_)
   | (refine cq trivial (fun hx=>?_) (fun hx=>?_)<;>(try exact hx.elim)<;>(refine wk trivial ?_))
   | ((first|refine gq trivial (fun hx=>?_) (fun hx=>?_)|refine pq trivial (fun hx=>?_) (fun hx=>?_))<;>(try exact hx.elim)<;>(try refine sq trivial ?_)<;>(refine wk trivial ?_)))
  all_goals (
   refine ee hQ trivial ?_
   exact Fin.plain (.bool _) ⟨by first|rfl| (congr 1;rw[Bool.eq_iff_iff];simp[*];try omega),rfl⟩))
theorem CD(op num:Int)(s:Bs)(ks:List AVal)(h:Heap)(ho:¬(1≤op∧op≤15)):Sat (CT G) 82 [.agg [.int .i64 op,.int .i64 num,.str s,.sl 4 ks]] h (fun r h'=>r=.bool false∧h'=h):=by
 have q:∀k:Int,1≤k→k≤15→(op==k)=false:=fun k h1 h2=>by simp;omega
 have q1:=q 1 (by omega) (by omega)
 have q2:=q 2 (by omega) (by omega)
 have q3:=q 3 (by omega) (by omega)
 have q4:=q 4 (by omega) (by omega)
 have q5:=q 5 (by omega) (by omega)
 have q6:=q 6 (by omega) (by omega)
 have q7:=q 7 (by omega) (by omega)
 have q8:=q 8 (by omega) (by omega)
 have q9:=q 9 (by omega) (by omega)
 have q10:=q 10 (by omega) (by omega)
 have q11:=q 11 (by omega) (by omega)
 have q12:=q 12 (by omega) (by omega)
 have q13:=q 13 (by omega) (by omega)
 have q14:=q 14 (by omega) (by omega)
 have q15:=q 15 (by omega) (by omega)
 clear q
 have F:=F2 (F9 q1 q2 q3 q4 q5 q6 q7 q8 q9) (F6 q10 q11 q12 q13 q14 q15)
 refine sb [.tmp 2] (fn:=Tryz.f82) Tryz.func82 ?_
 intro Q hQ
 refine wk F ?_
 repeat' (first
  | (exfalso;omega)
  | (refine cq F (fun hx=>?_) (fun hx=>?_)<;>(try exact hx.elim)<;>(refine wk F ?_))
  | ((first|refine gq F (fun hx=>?_) (fun hx=>?_)|refine pq F (fun hx=>?_) (fun hx=>?_))<;>(try exact hx.elim)<;>(try refine sq F ?_)<;>(refine wk F ?_)))
 all_goals (
  refine ee hQ F ?_
  exact Fin.plain (.bool _) ⟨rfl,rfl⟩)
def pnF(q:Qy):Bool:=pnG q.op q.num q.txt q.kds.length
theorem uP(hc:GClo (CT G))(q:Qy)(h:Heap)(hz:q.sz≤20000):Sat (CT G) 82 [q.av] h (fun r h'=>r=.bool (pnF q)∧h'=h):=by
 obtain⟨op,num,s,ks⟩:=q
 rw[Qy.sz]at hz
 have e:pnF (.mk op num s ks)=pnG op num s (ks.map Qy.av).length:=by rw[List.length_map];rfl
 rw[e,Qy.av_eq]
 by_cases ho:1≤op∧op≤15
 ·by_cases k8:op=8
  ·subst k8;exact CA G num s _ h
  by_cases k11:op=11∨op=12
  ·exact CB G op num s (by omega) _ h k11
  by_cases k13:op=13∨op=14
  ·exact CC G hc op num s _ h k13
  exact Cz G op num s _ h (by omega)
 ·have:=CD G op num s (ks.map Qy.av) h ho
  have e2:pnG op num s (ks.map Qy.av).length=false:=by
   unfold pnG
   have:(decide (1≤op)&&decide (op≤15))=false:=by rw[Bool.and_eq_false_iff,decide_eq_false_iff_not,decide_eq_false_iff_not];omega
   rw[this];rfl
  rw[e2];exact this
def Qy.ok(q:Qy):Bool:=decide (q.dep 1≤12)&&(decide (q.nod≤64)&&q.all pnF)
theorem ww:plP (fun q=>nuF q.op q.num) txF kdF=pnF:=by
 funext ⟨op,num,s,ks⟩
 show(!(decide (op<1)||(decide (op>15)||(!nuF op num||(!txG op s|| !kdG op ks.length)))))=(decide (1≤op)&&decide (op≤15)&&nuF op num&&txG op s&&kdG op ks.length)
 generalize nuF op num=a
 generalize txG op s=b
 generalize kdG op ks.length=c
 rw[Bool.eq_iff_iff]
 simp only[Bool.not_eq_true',Bool.or_eq_false_iff,decide_eq_false_iff_not,Bool.and_eq_true,decide_eq_true_eq,Bool.not_eq_false']
 constructor
 ·rintro⟨h1,h2,h3,h4,h5⟩;exact⟨⟨⟨⟨by omega,by omega⟩,h3⟩,h4⟩,h5⟩
 ·rintro⟨⟨⟨⟨h1,h2⟩,h3⟩,h4⟩,h5⟩;exact⟨by omega,by omega,h3,h4,h5⟩
theorem uQ(q:Qy)(h:Heap)(hz:q.sz≤100000):Sat (CT G) 66 [q.av] h (fun r h'=>r=.bool (q.all pnF)∧h'=h):=by
 rw[← ww]
 exact oE G _ _ _ 100000 (by omega) (fun q h _=>mL G q h) (fun q h hz=>qL G q h hz) (fun q h hz=>qK G q h (by omega)) q h hz
theorem gX(hc:GClo (CT G))(q:Qy)(h:Heap)(hz:q.mx≤9223372036854775807)(h2:q.dep 1≤12→q.sz≤20000):Sat (CT G) 19 [q.av] h (fun r h'=>r=.bool q.ok∧h'=h):=by
 have k1:=fun h=>oC G q h hz
 have k2:=fun hq:q.sz≤20000=>fun h=>sC G q h (Nat.le_trans hq (by omega))
 have k3:=fun hq:q.sz≤20000=>fun h=>sF G pnF 20000 (by omega) (uP G hc) q h hq
 unfold Qy.ok
 generalize q.all pnF=e3 at*
 generalize q.dep 1=e1 at*
 generalize q.nod=e2 at*
 generalize q.sz=z at*
 obtain⟨yo,yn,ys,yl⟩:=q
 rw[Qy.av_eq]at*
 by_cases b1:e1≤12
 ·have d1:decide (e1≤12)=true:=by simp[b1]
  have k3:=k3 (h2 b1)
  have k2:=k2 (h2 b1)
  by_cases b2:e2≤64
  ·have d2:decide (e2≤64)=true:=by simp[b2]
   have F:=F2 d1 d2
   refine sb [.tmp 2] (fn:=Tryz.f19) Tryz.func19 ?_
   intro Q hQ
   refine wk F ?_
   refine kq F (k1 _) ?_
   refine kq F (k2 _) ?_
   refine kq F (k3 _) ?_
   refine ee hQ F ?_
   exact Fin.plain (.bool _) ⟨by simp,rfl⟩
  ·have d2:decide (e2≤64)=false:=by simp;omega
   have F:=F2 d1 d2
   refine sb [.tmp 2] (fn:=Tryz.f19) Tryz.func19 ?_
   intro Q hQ
   refine wk F ?_
   refine kq F (k1 _) ?_
   refine kq F (k2 _) ?_
   refine ee hQ F ?_
   exact Fin.plain (.bool _) ⟨by simp,rfl⟩
 ·have d1:decide (e1≤12)=false:=by simp;omega
  have F:=d1
  refine sb [.tmp 2] (fn:=Tryz.f19) Tryz.func19 ?_
  intro Q hQ
  refine wk F ?_
  refine kq F (k1 _) ?_
  refine ee hQ F ?_
  exact Fin.plain (.bool _) ⟨by simp,rfl⟩
theorem dv(q:Qy)(h:Heap)(hz:q.mx≤9223372036854775807)(h2:q.dep 1≤12→q.sz≤20000):Sat (CT G) 33 [q.av] h (fun r h'=>r=.int .i64 (if q.ok then 0 else 250)∧h'=h):=by
 have k1:=fun h=>oD G q h hz
 have k2:=fun hq:q.sz≤20000=>fun h=>sE G q h (Nat.le_trans hq (by omega))
 have k3:=fun hq:q.sz≤20000=>fun h=>uQ G q h (Nat.le_trans hq (by omega))
 unfold Qy.ok
 generalize q.all pnF=e3 at*
 generalize q.dep 1=e1 at*
 generalize q.nod=e2 at*
 generalize q.sz=z at*
 obtain⟨yo,yn,ys,yl⟩:=q
 rw[Qy.av_eq]at*
 by_cases b1:e1≤12
 ·have d0:decide (e1≤12)=true:=by simp[b1]
  have d1:decide (e1>12)=false:=by simp[b1]
  have k3:=k3 (h2 b1)
  have k2:=k2 (h2 b1)
  rw[d0,Bool.true_and]
  by_cases b2:e2≤64
  ·have d2:decide (e2>64)=false:=by simp[b2]
   have d3:decide (e2≤64)=true:=by simp[b2]
   rw[d3,Bool.true_and]
   have F:=F2 d1 d2
   cases e3 with
   |true=>
    refine sb [.tmp 2] (fn:=Tryz.f33) Tryz.func33 ?_
    intro Q hQ
    refine wk F ?_
    refine kq F (k1 _) ?_
    refine kq F (k2 _) ?_
    refine kq F (k3 _) ?_
    refine ee hQ F ?_
    exact Fin.plain (.int _ _) ⟨rfl,rfl⟩
   |false=>
    refine sb [.tmp 2] (fn:=Tryz.f33) Tryz.func33 ?_
    intro Q hQ
    refine wk F ?_
    refine kq F (k1 _) ?_
    refine kq F (k2 _) ?_
    refine kq F (k3 _) ?_
    refine ee hQ F ?_
    exact Fin.plain (.int _ _) ⟨rfl,rfl⟩
  ·have d2:decide (e2>64)=true:=by simp;omega
   have d3:decide (e2≤64)=false:=by simp;omega
   rw[d3]
   have F:=F2 d1 d2
   refine sb [.tmp 2] (fn:=Tryz.f33) Tryz.func33 ?_
   intro Q hQ
   refine wk F ?_
   refine kq F (k1 _) ?_
   refine kq F (k2 _) ?_
   refine ee hQ F ?_
   exact Fin.plain (.int _ _) ⟨rfl,rfl⟩
 ·have d1:decide (e1>12)=true:=by simp;omega
  have d0:decide (e1≤12)=false:=by simp;omega
  rw[d0]
  have F:=d1
  refine sb [.tmp 2] (fn:=Tryz.f33) Tryz.func33 ?_
  intro Q hQ
  refine wk F ?_
  refine kq F (k1 _) ?_
  refine ee hQ F ?_
  exact Fin.plain (.int _ _) ⟨rfl,rfl⟩
end Go.Av
namespace Go.Av
open Go Go.Proofs Go.RowKit
attribute [local irreducible] WP WPl WPix Sat SatD wpOpsS Code.wpS
variable (G:Nat→Option (List AVal))
abbrev wb(X:Heap)(p:Blk)(q:AVal)(n:Int)(b:Bool)(k:Heap):Heap:=X++(p:: .row 25 4 0 [q]:: .row 3 1 0 [.int .i64 n]:: .row 4 1 0 [.bool b]::k)
theorem qT(X k:Heap)(p:Blk):
  SatR (CT G) 144 [.hp (X.length+1) 0 0 0,.hp (X.length+2) 0 0 0,.hp (X.length+3) 0 0 0] (wb X p (qZ 0) 0 false k) (some brk) (fun h=>h=wb X p (qZ 0) 0 false k):=by
 intro B S μ w vs u fit rl hx
 obtain⟨xv,rx,rfl⟩:=hx
 obtain⟨v0,v1,v2,rfl⟩:∃v0 v1 v2,vs=[v0,v1,v2]:=by
  have:=rl.1
  match vs,this with
  | [a,b,c],_=>exact⟨a,b,c,rfl⟩
 have r0:Rep w S μ (.hp (X.length+1) 0 0 0) v0:=by simpa using rl.2 0 _ rfl
 have r1:Rep w S μ (.hp (X.length+2) 0 0 0) v1:=by simpa using rl.2 1 _ rfl
 have r2:Rep w S μ (.hp (X.length+3) 0 0 0) v2:=by simpa using rl.2 2 _ rfl
 obtain rfl:xv=.iface 179 (.int .i64 0):=by
  cases rx with
  |ifc _ _ u hu=>rw[hu.int_inv]
 refine callsD_of_wpS Tryz.func144 rfl fun c₀ cs hu=>?_
 refine wpS_seq (wpS_region ?_)
 have hb:Rep w S μ (.tup [.int .i64 0,.bool true]) (.tuple #[.int .i64 0,.bool true]):=.tup _ [.int .i64 0,.bool true] rfl fun i x hi=>by
  match i with
  |0=>simp at hi;subst hi;exact .int _ _
  |1=>simp at hi;subst hi;exact .bool _
  |i+2=>simp at hi
 have re:=dK (n:=13) rl (by simp)
 rw[show Tryz.f144.ntmps=13 by kernel_rfl]
 rw[show ∀x:Array Oper,x.size=7→List.range x.size=[0,1,2,3,4,5,6]from fun x hx=>by rw[hx];rfl]
 rotate_left
 ·rfl
 refine qi (o:=⟨some 6,.call ⟨.builtin .recover, #[], #[]⟩,_,_,_,none⟩) (v:=.iface 179 (.int .i64 0)) rfl (by rfl) (by simp[execOp,resolve,invoke,builtin]) hu ?_
 have re:=re.put (some 6) rx
 refine aZ (o:=⟨some 7,.typeAssert (.tmp 6) 20 179 true,_,_,_,none⟩) (v:=.tuple #[.int .i64 0,.bool true]) rfl (by rfl) (by simp[execOp,Act.put,Act.eval,Instr.typeAssert,run_underlying (show(CT G).P.underlying 179=some (.int .i64)from Tryz.underlying179)]) ?_
 have re:=re.put (some 7) hb
 refine aZ (o:=⟨some 5,.move (.tmp 7),_,_,_,none⟩) (v:=.tuple #[.int .i64 0,.bool true]) rfl (by rfl) (by simp[execOp,Act.put,Act.eval]) ?_
 have re:=re.put (some 5) hb
 refine aZ (o:=⟨some 8,.extract (.tmp 5) 0,_,_,_,none⟩) (v:=.int .i64 0) rfl (by rfl) (by simp[execOp,Act.put,Act.eval,Instr.extract]) ?_
 have re:=re.put (some 8) (.int .i64 0)
 refine aZ (o:=⟨some 9,.extract (.tmp 5) 1,_,_,_,none⟩) (v:=.bool true) rfl (by rfl) (by simp[execOp,Act.put,Act.eval,Instr.extract]) ?_
 have re:=re.put (some 9) (.bool true)
 refine aZ (o:=⟨some 3,.assign (.tmp 8),_,_,_,none⟩) (v:=.int .i64 0) rfl (by rfl) (by simp[execOp,Act.put,Act.eval]) ?_
 have re:=re.put (some 3) (.int .i64 0)
 refine aZ (o:=⟨some 4,.assign (.tmp 9),_,_,_,none⟩) (v:=.bool true) rfl (by rfl) (by simp[execOp,Act.put,Act.eval]) ?_
 have re:=re.put (some 4) (.bool true)
 unfold wpOpsS
 show Code.wpS (CT G).P _ _ _ _ _
 obtain⟨KK,hK⟩:∃KK:Heap→Prop,KK=fun h=>h=wb X p (qZ 0) 0 false k:=⟨_,rfl⟩
 refine wpS_of_wp (wp_mono (eJ (n:=13) (B:=B) (ds:=[]) (Q:=fun e _ h=>e=.normal∧KK h) _ (by kernel_rfl) (Step.refl B S μ w) fit re ?_) fun e a' w' hp=>?_)
 ·show WP (CT G) _ _ (upd (upd (upd (upd (upd (upd (upd (env0 [.hp (X.length+1) 0 0 0,.hp (X.length+2) 0 0 0,.hp (X.length+3) 0 0 0]) 6 brk) 7 (.tup [.int .i64 0,.bool true])) 5 (.tup [.int .i64 0,.bool true])) 8 (.int .i64 0)) 9 (.bool true)) 3 (.int .i64 0)) 4 (.bool true)) (wb X p (qZ 0) 0 false k)
  clear re hb hu
  skip
  have F:= @ap
  (repeat (first|refine w1 (fun K hK=>?_)|refine w2 ?_|refine w3 ?_| ((first|refine w4 ?_|refine wD ?_|refine w5 ?_|refine w6 ?_|refine w7 ?_);try refine sq F ?_)| (refine w8 ?_;refine sq F ?_;refine w9 ?_)| ((first|refine hK _ _ (w0 ?_)| (clear hK K;refine hK _ _ (w0 ?_))| (clear hK K;clear hK K;refine hK _ _ (w0 ?_)));clear hK K)))
  rw[hK]
 ·rw[hK]at hp
  obtain⟨t',h',S',μ',⟨rfl,rfl⟩,st,f',r'⟩:=hp
  exact⟨r'.2.1,_,rfl,.tuple #[],by simp[results,Tryz.results144],.tuple #[],rfl,rfl,_,S',μ',rfl,st,f'⟩
theorem pc(h:Heap)(p1 p2 p3:Nat):
  SatR (CT G) 144 [.hp p1 0 0 0,.hp p2 0 0 0,.hp p3 0 0 0] h none (fun h'=>h'=h):=by
 intro B S μ w vs u fit rl hx
 subst hx
 obtain⟨v0,v1,v2,rfl⟩:∃v0 v1 v2,vs=[v0,v1,v2]:=by
  have:=rl.1
  match vs,this with
  | [a,b,c],_=>exact⟨a,b,c,rfl⟩
 have r0:Rep w S μ (.hp p1 0 0 0) v0:=by simpa using rl.2 0 _ rfl
 have r1:Rep w S μ (.hp p2 0 0 0) v1:=by simpa using rl.2 1 _ rfl
 have r2:Rep w S μ (.hp p3 0 0 0) v2:=by simpa using rl.2 2 _ rfl
 refine callsD_of_wpS Tryz.func144 rfl fun c₀ cs hu=>?_
 refine wpS_seq (wpS_region ?_)
 have hz0:(zeroValue 179).run (CT G).P w=.ok (.int .i64 0) w:=by
  have g:((CT G).P.info? 179).bind (·.zero)=some (.int .i64 0):=by kernel_rfl
  cases hi:(CT G).P.info? 179 with
  |none=>rw[hi]at g;cases g
  |some i=>rw[hi]at g;simp[zeroValue,typeInfo,hi,show i.zero=some (.int .i64 0)from g]
 have hb:Rep w S μ (.tup [.int .i64 0,.bool false]) (.tuple #[.int .i64 0,.bool false]):=.tup _ [.int .i64 0,.bool false] rfl fun i x hi=>by
  match i with
  |0=>simp at hi;subst hi;exact .int _ _
  |1=>simp at hi;subst hi;exact .bool _
  |i+2=>simp at hi
 have re:=dK (n:=13) rl (by simp)
 rw[show Tryz.f144.ntmps=13 by kernel_rfl]
 rw[show ∀x:Array Oper,x.size=7→List.range x.size=[0,1,2,3,4,5,6]from fun x hx=>by rw[hx];rfl]
 rotate_left
 ·rfl
 refine oz (o:=⟨some 6,.call ⟨.builtin .recover, #[], #[]⟩,_,_,_,none⟩) rfl (by rfl) (by simp[execOp,resolve,invoke,builtin]) hu ?_
 have re:=re.put (some 6) (x:=.nil .nilIface) (v:=.nilIface) (.nil _ (by intro cs h;cases h))
 refine aZ (o:=⟨some 7,.typeAssert (.tmp 6) 20 179 true,_,_,_,none⟩) (v:=.tuple #[.int .i64 0,.bool false]) rfl (by rfl) (by simp[execOp,Act.put,Act.eval,Instr.typeAssert,hz0,run_underlying (show(CT G).P.underlying 179=some (.int .i64)from Tryz.underlying179)]) ?_
 have re:=re.put (some 7) hb
 refine aZ (o:=⟨some 5,.move (.tmp 7),_,_,_,none⟩) (v:=.tuple #[.int .i64 0,.bool false]) rfl (by rfl) (by simp[execOp,Act.put,Act.eval]) ?_
 have re:=re.put (some 5) hb
 refine aZ (o:=⟨some 8,.extract (.tmp 5) 0,_,_,_,none⟩) (v:=.int .i64 0) rfl (by rfl) (by simp[execOp,Act.put,Act.eval,Instr.extract]) ?_
 have re:=re.put (some 8) (.int .i64 0)
 refine aZ (o:=⟨some 9,.extract (.tmp 5) 1,_,_,_,none⟩) (v:=.bool false) rfl (by rfl) (by simp[execOp,Act.put,Act.eval,Instr.extract]) ?_
 have re:=re.put (some 9) (.bool false)
 refine aZ (o:=⟨some 3,.assign (.tmp 8),_,_,_,none⟩) (v:=.int .i64 0) rfl (by rfl) (by simp[execOp,Act.put,Act.eval]) ?_
 have re:=re.put (some 3) (.int .i64 0)
 refine aZ (o:=⟨some 4,.assign (.tmp 9),_,_,_,none⟩) (v:=.bool false) rfl (by rfl) (by simp[execOp,Act.put,Act.eval]) ?_
 have re:=re.put (some 4) (.bool false)
 unfold wpOpsS
 show Code.wpS (CT G).P _ _ _ _ _
 obtain⟨KK,hK⟩:∃KK:Heap→Prop,KK=fun h'=>h'=h:=⟨_,rfl⟩
 refine wpS_of_wp (wp_mono (eJ (n:=13) (B:=B) (ds:=[]) (Q:=fun e _ h=>e=.normal∧KK h) _ (by kernel_rfl) (Step.refl B S μ w) fit re ?_) fun e a' w' hp=>?_)
 ·show WP (CT G) _ _ (upd (upd (upd (upd (upd (upd (upd (env0 [.hp p1 0 0 0,.hp p2 0 0 0,.hp p3 0 0 0]) 6 (.nil .nilIface)) 7 (.tup [.int .i64 0,.bool false])) 5 (.tup [.int .i64 0,.bool false])) 8 (.int .i64 0)) 9 (.bool false)) 3 (.int .i64 0)) 4 (.bool false)) (h)
  clear re hb
  skip
  have F:= @ap
  (repeat (first|refine w1 (fun K hK=>?_)|refine w2 ?_|refine w3 ?_| ((first|refine w4 ?_|refine wD ?_|refine w5 ?_|refine w6 ?_|refine w7 ?_);try refine sq F ?_)| (refine w8 ?_;refine sq F ?_;refine w9 ?_)| ((first|refine hK _ _ (w0 ?_)| (clear hK K;refine hK _ _ (w0 ?_))| (clear hK K;clear hK K;refine hK _ _ (w0 ?_)));clear hK K)))
  rw[hK]
 ·rw[hK]at hp
  obtain⟨t',h',S',μ',⟨rfl,rfl⟩,st,f',r'⟩:=hp
  exact⟨r'.2.1,_,rfl,.tuple #[],by simp[results,Tryz.results144],.tuple #[],rfl,by rw[hu];rfl,_,S',μ',rfl,st,f'⟩
theorem qU(N:Nat)(op n:Int)(b:Bool):Clo N (.tup [qZ op,.int .i64 n,.bool b]):=.tup _ fun c hc=>by
 simp only[List.mem_cons,List.not_mem_nil,or_false]at hc
 rcases hc with rfl|rfl|rfl
 ·exact jy _ _
 ·exact .int _ _
 ·exact .bool _
theorem pd(X:Heap)(e:Int):Sat (CT G) 93 [.hp X.length 0 0 0] (X++[psr [ptA tOr] e]) (fun r h'=>r=.tup [qZ 0,.int .i64 0,.bool false]∧∃k,h'=X++(psr [ptA tOr] e::k)):=by
 skip
 have F:= @ap
 refine Sat.deferred (fn:=Tryz.f93) (g:=144) (gn:=Tryz.f144) (d:=5) (caps:=[.tmp 2,.tmp 3,.tmp 4]) Tryz.func93 rfl (by kernel_rfl) Tryz.func144 rfl (by kernel_rfl) ⟨_,_,_,_,_,_,rfl⟩ (by kernel_rfl) (by kernel_rfl) (by kernel_rfl) (of_decide_eq_true (by kernel_rfl)) (by kernel_rfl) (by rw[List.length_singleton];exact of_decide_eq_true (by kernel_rfl)) fun KK kK=>?_
 refine wk F ?_
 refine kK _ _ (.inl ⟨fun r t h=>r=brk∧(t 2=.hp (X.length+1) 0 0 0∧t 3=.hp (X.length+2) 0 0 0∧t 4=.hp (X.length+3) 0 0 0)∧∃k,h=wb X (psr [ptA tOr] e) (qZ 0) 0 false k,?_,?_⟩)
 ·clear kK KK
  refine DJ.seq0 ?_
  refine DJ.region 1 (by kernel_rfl) rfl rfl ?_
  simp only[List.take_succ_cons,List.take_zero]
  simp(disch:=first|omega| (simp only[go_sem, ↓reduceIte,seval];first|done|omega)|fail) only[go_sem, ↓reduceIte,seval,F]
  refine DOp.call (xs:=[.hp X.length 0 0 0]) (by exact zq F) ((oA G X [.row 25 4 0 [qZ 0],.row 3 1 0 [.int .i64 0],.row 4 1 0 [.bool false]] e).mono fun r h' h=>?_)
  obtain⟨h1,k,rfl⟩:=h
  exact⟨h1,k,rfl⟩
 ·rintro x t2 h2 ⟨rfl,⟨e2,e3,e4⟩,k,rfl⟩
  have hx:∀l,l=[.hp (X.length+1) 0 0 0,.hp (X.length+2) 0 0 0,.hp (X.length+3) 0 0 0]→SatR (CT G) 144 l (wb X (psr [ptA tOr] e) (qZ 0) 0 false k) (some brk) (fun h3=>need (resA (CT G) t2 h3 [.cell 2 25,.cell 3 3,.cell 4 4]) (Fin (X++[psr [ptA tOr] e]) h3 fun r h'=>r=.tup [qZ 0,.int .i64 0,.bool false]∧∃k,h'=X++(psr [ptA tOr] e::k))):=fun l hl=>by
   subst hl
   refine(qT G X k _).mono fun h3 hh=>?_
   subst hh
   have F:=F4 F e2 e3 e4
   simp(disch:=first|omega| (simp only[go_sem, ↓reduceIte,seval];first|done|omega)|fail) only[go_sem, ↓reduceIte,seval,F,resA,resL,resA1]
   exact Fin.whole (by simp) (qU _ _ _ _) ⟨rfl,_,rfl⟩
  exact hx _ (by exact zq F)
theorem pf(hG:GOk G)(hc:GClo (CT G))(X:Heap)(e:Int):Sat (CT G) 93 [.hp X.length 0 0 0] (X++[psr [ptA tUn] e]) (fun r h'=>r=.tup [qZ 9,.int .i64 e,.bool true]∧∃k,h'=X++(psr [] e::k)):=by
 have df:∀i:Decidable False, @decide False i=false:=fun i=>by simp
 skip
 have F:=F2 df @ap
 refine Sat.deferred (fn:=Tryz.f93) (g:=144) (gn:=Tryz.f144) (d:=5) (caps:=[.tmp 2,.tmp 3,.tmp 4]) Tryz.func93 rfl (by kernel_rfl) Tryz.func144 rfl (by kernel_rfl) ⟨_,_,_,_,_,_,rfl⟩ (by kernel_rfl) (by kernel_rfl) (by kernel_rfl) (of_decide_eq_true (by kernel_rfl)) (by kernel_rfl) (by rw[List.length_singleton];exact of_decide_eq_true (by kernel_rfl)) fun KK kK=>?_
 refine wk F ?_
 obtain⟨QQ,hQQ⟩:∃QQ:Env→Heap→Prop,QQ=fun t h=>(t 2=.hp (X.length+1) 0 0 0∧t 3=.hp (X.length+2) 0 0 0∧t 4=.hp (X.length+3) 0 0 0)∧∃k,h=wb X (psr [] e) (qZ 9) e true k:=⟨_,rfl⟩
 refine kK _ _ (.inr ⟨QQ,?_,?_⟩)
 ·clear kK KK
  skip
  refine wn F ?_
  refine(qm G X [.row 25 4 0 [qZ 0],.row 3 1 0 [.int .i64 0],.row 4 1 0 [.bool false]] e hG hc).mono ?_
  rintro r h' ⟨rfl,k,rfl⟩
  try refine sq F ?_
  refine wn F ?_
  refine aL 6 [5] [true,true,true,true,true,false] (.one 5 [false,false,true,true,true] .fin) (by decide+kernel) (by kernel_rfl) (by decide+kernel) ?_
  simp only[aU,aV,aI]
  try refine sq F ?_
  repeat' (first| (refine ax ?_;try refine sq F ?_)| (refine aA ?_;try refine sq F ?_)| (refine aB ?_ ?_<;>try refine sq F ?_))
  all_goals try refine wn F ?_
  repeat' (first| (refine ax ?_;try refine sq F ?_)| (refine aA ?_;try refine sq F ?_)| (refine aB ?_ ?_<;>try refine sq F ?_))
  all_goals try refine wn F ?_
  rw[hQQ]
  exact⟨.inr trivial,⟨by simp(disch:=first|omega| (simp only[go_sem, ↓reduceIte,seval];first|done|omega)|fail) only[go_sem, ↓reduceIte,seval,F],by simp(disch:=first|omega| (simp only[go_sem, ↓reduceIte,seval];first|done|omega)|fail) only[go_sem, ↓reduceIte,seval,F],by simp(disch:=first|omega| (simp only[go_sem, ↓reduceIte,seval];first|done|omega)|fail) only[go_sem, ↓reduceIte,seval,F]⟩,k,rfl⟩
 ·intro t2 h2 hq
  rw[hQQ]at hq
  obtain⟨⟨e2,e3,e4⟩,k,rfl⟩:=hq
  have hx:∀l,l=[.hp (X.length+1) 0 0 0,.hp (X.length+2) 0 0 0,.hp (X.length+3) 0 0 0]→SatR (CT G) 144 l (wb X (psr [] e) (qZ 9) e true k) none (fun h3=>need (resA (CT G) t2 h3 [.cell 2 25,.cell 3 3,.cell 4 4]) (Fin (X++[psr [ptA tUn] e]) h3 fun r h'=>r=.tup [qZ 9,.int .i64 e,.bool true]∧∃k,h'=X++(psr [] e::k))):=fun l hl=>by
   subst hl
   refine(pc G _ _ _ _).mono fun h3 hh=>?_
   subst hh
   have F:=F4 F e2 e3 e4
   simp(disch:=first|omega| (simp only[go_sem, ↓reduceIte,seval];first|done|omega)|fail) only[go_sem, ↓reduceIte,seval,F,resA,resL,resA1]
   exact Fin.whole (by simp) (qU _ _ _ _) ⟨rfl,_,rfl⟩
  exact hx _ (by exact zq F)
theorem j7(op num:Int)(tx:Bs):Wk (.agg [.int .i64 op,.int .i64 num,.str tx,.nil (.slice none 0 0)]) (Qy.mk op num tx []).av:=by
 rw[Qy.av_eq]
 refine Wk.agg rfl (fun y hy=>by simp only[List.mem_cons,List.not_mem_nil,or_false]at hy;rcases hy with rfl|rfl|rfl|rfl<;>rfl) fun j x y hx hy=>?_
 match j with
 |0|1|2=>simp at hx hy;subst hx;subst hy;exact Wk.refl _
 |3=>simp at hx hy;subst hx;subst hy;exact Wk.nils _
 |j+4=>simp at hx
theorem wx(N:Nat)(op n m:Int):Clo N (.tup [qZ op,.int .i64 n,.int .i64 m]):=.tup _ fun c hc=>by
 simp only[List.mem_cons,List.not_mem_nil,or_false]at hc
 rcases hc with rfl|rfl|rfl
 ·exact jy _ _
 ·exact .int _ _
 ·exact .int _ _
theorem pg(hG:GOk G)(hc:GClo (CT G))(h:Heap):Sat (CT G) 50 [.str tOr] h (fun r h'=>r=.tup [qZ 0,.int .i64 0,.int .i64 250]∧h'=h):=by
 have hl:tOr.length=2:=rfl
 have df:∀i:Decidable False, @decide False i=false:=fun i=>by simp
 have hw:=pd G (h++[.row 25 4 0 [qZ 0]]) 2
 have hh:(h++[Blk.row 25 4 0 [qZ 0]]).length=h.length+1:=by simp
 rw[hh,List.append_assoc,List.singleton_append]at hw
 have F:=F3 hl df @ap
 refine sb [.cell 2 25,.tmp 3,.tmp 4] (fn:=Tryz.f50) Tryz.func50 ?_
 intro Q hQ
 refine wn F ?_
 refine kn F (vX hG hc _) ?_
 refine hw.mono ?_
 rintro r h' ⟨rfl,k,rfl⟩
 rw[List.append_assoc,List.singleton_append]
 try refine sq F ?_
 refine wn F ?_
 refine ye hQ F ?_
 exact Fin.plain (wx _ _ _ _) ⟨rfl,rfl⟩
theorem ph(hG:GOk G)(hc:GClo (CT G))(h:Heap):Sat (CT G) 50 [.str tUn] h (fun r h'=>r=.tup [qZ 9,.int .i64 6,.int .i64 0]∧h'=h):=by
 have hl:tUn.length=6:=rfl
 have df:∀i:Decidable False, @decide False i=false:=fun i=>by simp
 have hw:=pf G hG hc (h++[.row 25 4 0 [qZ 0]]) 6
 have hh:(h++[Blk.row 25 4 0 [qZ 0]]).length=h.length+1:=by simp
 rw[hh,List.append_assoc,List.singleton_append]at hw
 have hck:=fun h=>Sat.wk (ys:=[(Qy.mk 9 0 [] []).av]) (xs:=[qZ 9]) rfl (fun i x y hx hy=>by
  match i with
  |0=>simp at hx hy;subst hx;subst hy;exact j7 9 0 []
  |i+1=>simp at hx) (dv G (.mk 9 0 [] []) h (by simp[Qy.mx,Qy.mxL]) fun _=>by simp[Qy.sz,Qy.szL])
 rw[show(Qy.mk 9 0 [] []).ok=true by kernel_rfl]at hck
 have F:=F3 hl df @ap
 refine sb [.cell 2 25,.tmp 3,.tmp 4] (fn:=Tryz.f50) Tryz.func50 ?_
 intro Q hQ
 refine wn F ?_
 refine kn F (vW hG hc _) ?_
 refine hw.mono ?_
 rintro r h' ⟨rfl,k,rfl⟩
 rw[List.append_assoc,List.singleton_append]
 try refine sq F ?_
 refine wn F ?_
 refine kn F (hck _) ?_
 refine ye hQ F ?_
 exact Fin.plain (wx _ _ _ _) ⟨rfl,rfl⟩
end Go.Av
namespace Go.Av
open Go Go.Proofs Go.RowKit
attribute [local irreducible] WP WPl WPix Sat
variable (G:Nat→Option (List AVal))
theorem fW(s:PS)(id:Int){H:Heap}{n:Nat}(hn:n+9≤H.length):Sat (CT G) 241 [.hp (n+8) 0 0 0,.int .i64 id] (so H n s) (fun r h'=>r=.tup [((lkM s.fo id).getD Fo.z).av,.bool (lkM s.fo id).isSome]∧h'=so H n s):=by
 refine sb [.cell 4 90,.tmp 5] (fn:=Tryz.f241) Tryz.func241 ?_
 intro Q hQ
 refine wk trivial ?_
 refine ye hQ trivial ?_
 exact ai hn (.tup _ (fun x hx=>by simp only[List.mem_cons,List.not_mem_nil,or_false]at hx;rcases hx with rfl|rfl;exact Fo.clo _ _;exact .bool _)) ⟨rfl,rfl⟩
theorem mP(s:PS){H:Heap}{n:Nat}(hn:n+9≤H.length):Sat (CT G) 77 [.hp (n+8) 0 0 0] (so H n s) (fun r h'=>r=.int .i64 s.clock∧h'=so H n s):=by
 refine sb [.tmp 2] (fn:=Tryz.f77) Tryz.func77 ?_
 intro Q hQ
 refine wk trivial ?_
 refine ee hQ trivial ?_
 exact cd hn (.int _ _) ⟨rfl,rfl⟩
theorem lM(s:PS)(id:Int){H:Heap}{n:Nat}(hn:n+9≤H.length):Sat (CT G) 209 [.hp (n+8) 0 0 0,.int .i64 id] (so H n s) (fun r h'=>r=.bool (s.within id)∧h'=so H n s):=by
 have hc:=fW G s id hn
 cases hi:(id==0)with
 |true=>
  have F:=hi
  refine sb [.tmp 4] (fn:=Tryz.f209) Tryz.func209 ?_
  intro Q hQ
  refine wk F ?_
  refine kq F (hc) ?_
  refine ee hQ F ?_
  exact ai hn (.bool _) ⟨by unfold PS.within;rw[show decide (id=0)=(id==0)from rfl,hi];rfl,rfl⟩
 |false=>
  have F:=hi
  refine sb [.tmp 4] (fn:=Tryz.f209) Tryz.func209 ?_
  intro Q hQ
  refine wk F ?_
  refine kq F (hc) ?_
  refine ee hQ F ?_
  exact ai hn (.bool _) ⟨by unfold PS.within;rw[show decide (id=0)=(id==0)from rfl,hi];rfl,rfl⟩
def insF(l:ML Int Fo)(u:Int):Nat→Int→Bool
 |0,id=>decide (id=u)
 |k+1,id=>if id≠u∧id≠0 then insF l u k ((lkM l id).getD Fo.z).inn else decide (id=u)
theorem tD{l:ML Int Fo}{u id:Int}(h:¬(id≠u∧id≠0)):∀k,insF l u k id=decide (id=u)
 |0=>rfl
 |k+1=>by rw[insF,if_neg h]
theorem uR{l:ML Int Fo}{u id:Int}{k:Nat}(h:id≠u∧id≠0):insF l u (k+1) id=insF l u k ((lkM l id).getD Fo.z).inn:=by rw[insF,if_pos h]
theorem mQ(s:PS)(h:s.Inv)(id u:Int){H:Heap}{n:Nat}(hn:n+9≤H.length):Sat (CT G) 210 [.hp (n+8) 0 0 0,.int .i64 id,.int .i64 u] (so H n s) (fun r h'=>r=.bool (insF s.fo u 8 id)∧h'=so H n s):=by
 obtain⟨d0,hd0,hdp⟩:=h.dp id
 have hz:lkM s.fo 0=none:=by
  cases hl:lkM s.fo 0 with
  |none=>rfl
  |some f=>have:=(h.i1 0 f hl).2.1;omega
 refine sb [.tmp 6] (fn:=Tryz.f210) Tryz.func210 ?_
 intro Q hQ
 refine wk trivial ?_
 refine lm (fun nL tL hL=>∃(k:Nat) (x:Int) (j:Heap),k=nL∧so (H++j) n s=hL∧tL 0=.hp (n+8) 0 0 0∧tL 1=.int .i64 x∧tL 2=.int .i64 u∧insF s.fo u 8 id=insF s.fo u k x∧(x=0∨∃m d,deepO s.fo m x=some d∧d+1≤k)) ((fun(k:Nat) (x:Int) (j:Heap)=>(k:Nat)) (8) (id) ([])) ?_ ?_
 ·refine Wkn.refl ⟨8,id,[],rfl,by rw[List.append_nil],?_,?_,?_,rfl,.inr ⟨7,d0,hdp,by omega⟩⟩
  all_goals first|exact zq trivial|rfl|omega|trivial|skip
 rintro _ s2 h' ⟨k,x,j,rfl,rfl,e0,e1,e2,h1,h2⟩ K2 hK2
 simp only[aj,ao,Nat.reduceEqDiff, ↓reduceIte]at e0 e1 e2
 have F:=F3 e0 e1 e2
 have hnj:n+9≤(H++j).length:=by simp;omega
 by_cases hc:x≠u∧x≠0
 ·have b1:(x !=u)=true:=by simpa using hc.1
  have b2:(x !=0)=true:=by simpa using hc.2
  obtain⟨m,d,hm,hdk⟩:=h2.resolve_left hc.2
  obtain⟨k,rfl⟩:∃k',k=k'+1:=⟨k-1,by omega⟩
  replace h1:=h1.trans (uR hc)
  have h3:((lkM s.fo x).getD Fo.z).inn=0∨∃m d,deepO s.fo m ((lkM s.fo x).getD Fo.z).inn=some d∧d+1≤k:=by
   cases hl:lkM s.fo x with
   |none=>exact .inl rfl
   |some f=>
    refine .inr ?_
    cases m with
    |zero=>rw[deepO,hl]at hm;simp at hm
    |succ m=>
     rw[deepO,hl]at hm
     simp only[Option.map_eq_some_iff]at hm
     obtain⟨d1,h4,rfl⟩:=hm
     exact⟨m,d1,h4,by omega⟩
  have hF:=fW G s x hnj
  generalize (lkM s.fo x).getD Fo.z=f at*
  have F:=F3 F b1 b2
  refine wk F ?_
  refine kq F (hF) ?_
  refine hK2 _ _ _ (Wkn.refl ⟨k,f.inn,j++[.row 90 3 0 [f.av]],rfl,rfl,?_,?_,?_,h1,h3⟩) (by omega)
  all_goals first|exact zq F|rfl|omega|trivial|skip
 ·replace h1:=h1.trans (tD hc k)
  by_cases hxu:x=u
  ·have b1:(x !=u)=false:=by simp[hxu]
   have F:=F2 F b1
   refine wk F ?_
   refine ee hQ F ?_
   exact ai hn (.bool _) ⟨by rw[h1];congr 1,rfl⟩
  ·have b1:(x !=u)=true:=by simp[hxu]
   have b2:(x !=0)=false:=by simp;exact Decidable.byContradiction fun e=>hc ⟨hxu,e⟩
   have F:=F3 F b1 b2
   refine wk F ?_
   refine ee hQ F ?_
   exact ai hn (.bool _) ⟨by rw[h1];congr 1,rfl⟩
def undF(s:PS)(id:Int):List Int:=if s.within id then(s.tell.fe.filter fun f=>decide (id=0)||insF s.fo id 8 f.inn).map (·.id)else []
def twB(Y:Heap)(n:Nat)(s:PS)(a:Nat)(b1 b2:Blk):Heap:=so (ov Y a [b1,b2]) n s
section
variable {Y:Heap} {n a:Nat} {s:PS} {b1 b2:Blk}
theorem bU(hn:n+9≤a)(hm:a+2≤Y.length):twB Y n s a b1 b2=ov (so Y n s) a [b1,b2]:=nc (bs:=s.bl n) (cs:=[b1,b2]) (by show n+9≤Y.length;omega) hm (.inl hn)
theorem bD(hm:a+2≤Y.length):(ov Y a [b1,b2]).length=Y.length:=aH hm
@[go_sem] theorem wy(hn:n+9≤a)(hm:a+2≤Y.length)(j:Heap):twB Y n s a b1 b2++j=twB (Y++j) n s a b1 b2:=by
 unfold twB;rw[aX (by rw[bD hm];omega),eB hm]
@[go_sem] theorem wz(hn:n+9≤a)(hm:a+2≤Y.length):(twB Y n s a b1 b2).length=Y.length:=by
 unfold twB;rw[aF (by rw[bD hm];omega),bD hm]
@[go_sem] theorem wA(hn:n+9≤a)(hm:a+2≤Y.length){p:Nat}(u:Nat)(hp:a+2≤p):getRow (twB Y n s a b1 b2) p u=getRow Y p u:=by
 unfold twB;rw[bq (by rw[bD hm];omega) u (by omega),gd u hm (.inr hp)]
@[go_sem] theorem wB(hn:n+9≤a)(hm:a+2≤Y.length){p:Nat}(b:Blk)(hp:a+2≤p):(twB Y n s a b1 b2).set p b=twB (Y.set p b) n s a b1 b2:=by
 unfold twB;rw[uf (by rw[bD hm];omega) b (by omega),fG b hm (.inr hp)]
@[go_sem] theorem Gh(hn:n+9≤a)(hm:a+2≤Y.length)(u:Nat):getRow (twB Y n s a b1 b2) a u=getRow [b1] 0 u:=by
 rw[bU hn hm];unfold getRow;rw[vQ (by rw[aF (by omega)];exact hm) (by simp)];rfl
@[go_sem] theorem yR(hn:n+9≤a)(hm:a+2≤Y.length)(u:Nat):getRow (twB Y n s a b1 b2) (a+1) u=getRow [b2] 0 u:=by
 rw[bU hn hm,ld u (by rw[aF (by omega)];exact hm) (by simp)];rfl
@[go_sem] theorem yS(hn:n+9≤a)(hm:a+2≤Y.length):mapAt (twB Y n s a b1 b2) a=mapAt [b1] 0:=by
 rw[bU hn hm,nf (by rw[aF (by omega)];exact hm) (by simp)];rfl
@[go_sem] theorem yT(hn:n+9≤a)(hm:a+2≤Y.length)(b:Blk):(twB Y n s a b1 b2).set a b=twB Y n s a b b2:=by
 rw[bU hn hm,bU hn hm,jr b (by rw[aF (by omega)];exact hm) (by simp)];rfl
@[go_sem] theorem Gi(hn:n+9≤a)(hm:a+2≤Y.length)(b:Blk):(twB Y n s a b1 b2).set (a+1) b=twB Y n s a b1 b:=by
 rw[bU hn hm,bU hn hm,bS b (by rw[aF (by omega)];exact hm) (by simp)];rfl
theorem j8{j:Heap}{c1 c2:Blk}{R:AVal→Heap→Prop}{r:AVal}(hn:n+9≤a)(hm:a+2≤Y.length)(h1:CloB Y.length c1)(h2:CloB Y.length c2)(hc:Clo Y.length r)(hR:R r (twB Y n s a c1 c2)):Fin (twB Y n s a b1 b2) (twB (Y++j) n s a c1 c2) R r:=by
 rw[bU hn hm,bU hn (by simp;omega), ← aX (by omega)]
 rw[bU hn hm]at hR
 have hl:(so Y n s).length=Y.length:=aF (by omega)
 exact lg (by rw[hl];exact hm) rfl (fun b hb=>by
  rw[hl]
  simp only[List.mem_cons,List.not_mem_nil,or_false]at hb
  rcases hb with rfl|rfl
  ·exact h1
  ·exact h2) (by rw[hl];exact hc) hR
theorem nD{c1 c2:Blk}{R:AVal→Heap→Prop}{r:AVal}(hn:n+9≤a)(hm:a+2≤Y.length)(h1:CloB Y.length c1)(h2:CloB Y.length c2)(hc:Clo Y.length r)(hR:R r (twB Y n s a c1 c2)):Fin (twB Y n s a b1 b2) (twB Y n s a c1 c2) R r:=by
 have:=j8 (j:=[]) (b1:=b1) (b2:=b2) hn hm h1 h2 hc hR
 rwa [List.append_nil]at this
end
def u1(q k:Nat):Blk:=.row 38 1 0 [.hs (q+1) k 0 k true]
def u2(l:List Int):Blk:=.row 3 1 l.length (l.map iA)
theorem pi(s:PS)(f:Fe)(l:List Int)(hl:l.length≤100000){Y:Heap}{n q:Nat}(hn:n+9≤q)(hm:q+2≤Y.length):Sat (CT G) 172 [f.av,.hp q 0 0 0] (twB Y n s q (u1 q l.length) (u2 l)) (fun r h'=>r=.tup []∧h'=twB Y n s q (u1 q (l.length+1)) (u2 (l++[f.id]))):=by
 have r0:getRow [u1 q l.length] 0 0=some (38,1,[.hs (q+1) l.length 0 l.length true]):=rfl
 have r1:getRow [u2 l] 0 l.length=some (3,1,l.map iA):=by simp[getRow,u2]
 have hml:(l.map iA).length=l.length:=List.length_map ..
 have e2:u2 (l++[f.id])=.row 3 1 (l.length+1) (l.map iA++[.int .i64 f.id]):=by simp[u2,iA]
 have e1:u1 q (l.length+1)=.row 38 1 0 [.hs (q+1) (l.length+1) 0 (l.length+1) true]:=rfl
 have hm1:∀j:Heap,q+2≤(Y++j).length:=fun j=>by simp;omega
 have F:=F7 r0 r1 hml hm hn hm1 @ap
 refine sb [] (fn:=Tryz.f172) Tryz.func172 ?_
 intro Q hQ
 refine wk F ?_
 refine aq F ?_
 try refine sq F ?_
 refine wk F ?_
 refine ee hQ F ?_
 rw[e1,e2]
 refine j8 hn hm ?_ ?_ (.tup _ (by simp)) ⟨rfl,rfl⟩
 ·intro c hc
  simp only[List.mem_singleton]at hc
  subst hc
  exact .hs _ _ _ _ _ (by omega)
 ·intro c hc
  rw[List.mem_append,List.mem_map,List.mem_singleton]at hc
  rcases hc with⟨y,_,rfl⟩|rfl<;>exact .int _ _
end Go.Av
