/- Parts. -/
import Derived.Test.YtmfhelaoeaifeaaGreatDoorMmQt
import Derived.Shelf.SlSortCmp.WholeK
import Derived.Ground.SlsfProg
import Derived.Test.YtmfhelaoeaifeaaGreatDoorMmZk
import Derived.Shelf.SlSortCmp.NoneTotal
set_option linter.unusedSimpArgs false
set_option linter.unusedVariables false
set_option linter.unusedSectionVars false
set_option linter.unnecessarySimpa false
set_option maxRecDepth 100000
set_option maxHeartbeats 16000000
namespace Go.Av
open Go.RowKit
section
variable {C:Ctx} {B n m:Nat} {S:Addr→Prop} {μ:Map} {h:Heap} {w:World} {t:Env} {a:Act} {ds:List Deferred}
theorem jh{ops:Array Oper}{i:Nat}{o:Oper}(hi:ops.toList.drop i=o::ops.toList.drop (i+1)):ops[i]? =some o:=by
 have:(ops.toList.drop i)[0]? =some o:=by rw[hi];rfl
 rw[P9]at this;simpa using this
theorem bn{P:Program}{ops:Array Oper}{Q:Exit→Act→List Frame→World→Prop}{cs:List Frame}{i:Nat}{l:List Nat}{o:Oper}{v:Value}(hi:ops.toList.drop i=o::ops.toList.drop (i+1))(hg:o.guard=none)
  (hr:(execOp a.eval o).run P w=.ok (.value v) w)(k:wpOpsS P ops Q l (a.put o.dst v) cs w):wpOpsS P ops Q (i::l) a cs w:=by
 have hi:=jh hi;unfold wpOpsS;simp only[hi];rw[M0 (by simp[Region.wanted,hg])];simp only[hr];exact k
theorem tt{P:Program}{ops:Array Oper}{Q:Exit→Act→List Frame→World→Prop}{c:Frame}{cs:List Frame}{i:Nat}{l:List Nat}{o:Oper}{v:Value}(hi:ops.toList.drop i=o::ops.toList.drop (i+1))(hg:o.guard=none)
  (hr:(execOp a.eval o).run P w=.ok .recover w)(hc:c.mode=.panicking [thrown v])(k:wpOpsS P ops Q l (a.put o.dst v) ({c with mode:=.panicking [{v,recovered:=true}]}::cs) w):wpOpsS P ops Q (i::l) a (c::cs) w:=by
 have hi:=jh hi;unfold wpOpsS;simp only[hi];rw[M0 (by simp[Region.wanted,hg])];simp only[hr,recoverD,hc,thrown];exact k
theorem qH{P:Program}{ops:Array Oper}{Q:Exit→Act→List Frame→World→Prop}{c:Frame}{cs:List Frame}{i:Nat}{l:List Nat}{o:Oper}(hi:ops.toList.drop i=o::ops.toList.drop (i+1))(hg:o.guard=none)
  (hr:(execOp a.eval o).run P w=.ok .recover w)(hc:c.mode=.returning)(k:wpOpsS P ops Q l (a.put o.dst .nilIface) (c::cs) w):wpOpsS P ops Q (i::l) a (c::cs) w:=by
 have hi:=jh hi;unfold wpOpsS;simp only[hi];rw[M0 (by simp[Region.wanted,hg])];simp only[hr,recoverD,hc];exact k
def SatR(C:Ctx)(g:FuncId)(args:List AVal)(h:Heap)(x:Option AVal)(R:Heap→Prop):Prop:=
 ∀B S μ w vs u,Fits C B S μ h w→RepL w S μ args vs→(match x with|none=>u=.returning|some x=>∃xv,Rep w S μ x xv∧u=.panicking [thrown xv])→
  CallsD C.P g vs.toArray u w fun e u' w'=>∃v,e=.returned v∧settle u'=.returning∧∃h' S' μ',R h'∧Step B S μ w S' μ' w'∧Fits C B S' μ' h' w'
theorem SatR.mono{g:FuncId}{args:List AVal}{x:Option AVal}{R R':Heap→Prop}(s:SatR C g args h x R)(k:∀h',R h'→R' h'):SatR C g args h x R':=fun B S μ w vs u f r hx=>
 (s B S μ w vs u f r hx).mono fun _ _ _ ⟨v,he,hs,h',S',μ',hr,q⟩=>⟨v,he,hs,h',S',μ',k _ hr,q⟩
theorem Sat.deferred{f g:FuncId}{fn gn:Func}{c0 c1 gc:Code}{id d:Nat}{ops:Array Oper}{caps:List Operand}{args:List AVal}{R:AVal→Heap→Prop}
  (hf:C.P.funcs[f]? =some fn)(hb:fn.body=some (.seq c0 (.seq (.region id ops false) c1)))(hname:(fn.name== "runtime.NumGoroutine")=false)
  (hgf:C.P.funcs[g]? =some gn)(hgb:gn.body=some gc)(hgn:(gn.name== "runtime.NumGoroutine")=false)
  (hops:∃T1 T2 p1 p2 a1 a2,ops.toList=[⟨some d,.makeFunc (.func g) #[] caps.toArray,T1,p1,a1,none⟩,⟨none,.defer ⟨.value (.tmp d), #[], #[]⟩,T2,p2,a2,none⟩])
  (ho0:okCode fn.ntmps c0=true)(ho1:okCode fn.ntmps c1=true)(hoc:caps.all (okOpd fn.ntmps)=true)(hd:d<fn.ntmps)
  (hres:fn.results.toList.all (okRes fn.ntmps)=true)(hlen:args.length≤fn.ntmps)
  (hw:∀KK:Env→Heap→Prop,(∀t1 h1,
    ((∃Q:AVal→Env→Heap→Prop,DJ C fn.ntmps Q c1 (upd t1 d (.fn (.func g) [] (caps.map (aev C.G t1)))) h1∧
     ∀x t2 h2,Q x t2 h2→SatR C g (caps.map (aev C.G t1)) h2 (some x) fun h3=>need (resA C t2 h3 fn.results.toList) (Fin h h3 R))∨
    (∃Q:Env→Heap→Prop,WP C c1 (fun e t h=>(e=.normal∨e=.ret)∧Q t h) (upd t1 d (.fn (.func g) [] (caps.map (aev C.G t1)))) h1∧
     ∀t2 h2,Q t2 h2→SatR C g (caps.map (aev C.G t1)) h2 none fun h3=>need (resA C t2 h3 fn.results.toList) (Fin h h3 R)))→KK t1 h1)→
   WP C c0 (fun e t h=>e=.normal∧KK t h) (env0 args) h):Sat C f args h R:=by
 intro B S μ w vs fit rl;have hcall:(callFunc f vs.toArray).run C.P w=.ok (.enter f vs.toArray) w:=by
  have hne:fn.name≠ "runtime.NumGoroutine" :=by simpa using hname
  simp[callFunc,hf,hne,hb]
 rw[hcall];show Calls C.P f vs.toArray w _;refine calls_of_wp_defers hf hb ?_;have hres':=O9.1 hres;refine wpIn_wide.1 (wpIn_seq (wpIn_mono (eh (ρ:=none) (m:=0) (B:=B) (n:=fn.ntmps) (ds:=[]) c0 ho0 (.inl rfl) (Step.refl B S μ w) fit (eQ rl hlen) (hw _ fun _ _ g=>g)) ?_));rintro e a1 w1 ⟨t1,h1,S1,μ1,⟨rfl,hk⟩,st1,f1,r1⟩;have hcg:∀(az:Array Value) (w:World),(callFunc g az).run C.P w=.ok (.enter g az) w:=fun az w=>by
  have hne:gn.name≠ "runtime.NumGoroutine" :=by simpa using hgn
  simp[callFunc,hgf,hne,hgb]
 obtain⟨T1,T2,p1,p2,x1,x2,hops⟩:=hops;have hcr:RepL w1 S1 μ1 (caps.map (aev C.G t1)) (caps.map a1.eval):=RepL.of_map (fun x hx=>cN f1 r1 x hx) caps (O9.1 hoc)
 let cv:Array Value:=caps.toArray.map a1.eval
 have hcv:cv.toList=caps.map a1.eval:=by simp[cv]
 have rfn:Rep w1 S1 μ1 (.fn (.func g) [] (caps.map (aev C.G t1))) (.func (.func g) #[] cv):=by
  have:=Rep.fn (w:=w1) (S:=S1) (μ:=μ1) (.func g) [] (caps.map (aev C.G t1)) [] cv.toList rfl (by rw[hcv];simp) (fun i x hx=>by cases hx) (fun i x hx=>by rw[hcv];exact hcr.2 i x hx);simpa using this
 let D:Deferred:= {target:=.fn (.func g) cv,args:= #[]}
 let a2:Act:= {a1.put (some d) (.func (.func g) #[] cv)with defers:=D::(a1.put (some d) (.func (.func g) #[] cv)).defers}
 have r2:REnv fn.ntmps w1 S1 μ1 (upd t1 d (.fn (.func g) [] (caps.map (aev C.G t1)))) a2 [D]:=by
  have:=r1.put (some d) rfn;exact⟨this.1,P0 (D:: ·) this.2.1,this.2.2⟩
 have leave:∀(a3:Act) (w3:World) (t3:Env) (h3:Heap) (S3:Addr→Prop) (μ3:Map) (x:Option AVal) (u:FrameMode),u≠ .run→Step B S μ w S1 μ1 w1→Step B S1 μ1 w1 S3 μ3 w3→Fits C B S3 μ3 h3 w3→REnv fn.ntmps w3 S3 μ3 t3 a3 [D]→
   (match x with|none=>u=.returning|some x=>∃xv,Rep w3 S3 μ3 x xv∧u=.panicking [thrown xv])→
   SatR C g (caps.map (aev C.G t1)) h3 x (fun h4=>need (resA C t3 h4 fn.results.toList) (Fin h h4 R))→
   Leaves C.P fn a3.tmps (fun e w'=>∃v,e=.returned v∧OpPost C B S μ w R v w') a3.defers u w3:=fun a3 w3 t3 h3 S3 μ3 x u hu s01 s13 f3 r3 hx hg=>by
  rw[r3.2.1];refine leaves_cons (f:=g) (args:=(caps.map a1.eval).toArray) hu ?_ ?_
  ·simp only[invoke];rw[show(#[]++cv:Array Value)=(caps.map a1.eval).toArray by simp[cv],hcg]
  ·refine(hg B S3 μ3 w3 (caps.map a1.eval) u f3 ⟨hcr.1,fun i x hx=>(hcr.2 i x hx).mono s13⟩ hx).mono ?_;rintro e u' w4 ⟨v,rfl,hs,h4,S4,μ4,hn,s34,f4⟩;show Leaves C.P fn a3.tmps _ [] (settle u') w4;rw[hs];obtain⟨r0,hr0,hF⟩:=ae hn;obtain⟨v,hv,hrep⟩:=j8 (ds:=[D]) f4 (r3.mono s34) hres' hr0;exact⟨v,hv,v,rfl,hF.post fit ((s01.trans s13).trans s34) f4 hrep⟩
 refine wpIn_seq (wpIn_region_list ?_);rw[hops];unfold wpListIn;rw[M0 (by simp[Region.wanted])];refine⟨fun _ _=>trivial,?_⟩;rw[Oper.semAt_eq _ _ _ fun c e=>by cases e];rw[show(execOp a1.eval ⟨some d,.makeFunc (.func g) #[] caps.toArray,T1,p1,x1,none⟩).run C.P w1=.ok (.value (.func (.func g) #[] cv)) w1 from aX (by simp[Instr.makeFunc,cv]),Oper.uponIn_value];unfold wpListIn;rw[M0 (by simp[Region.wanted])];refine⟨fun _ _=>trivial,?_⟩;have hev:(a1.put (some d) (.func (.func g) #[] cv)).eval (.tmp d)=.func (.func g) #[] cv:=by
  have hs:d<a1.tmps.size:=by rw[r1.1];exact hd
  simp[Act.put,Act.eval,hs]
 have hde:(Oper.semAt Fence.wide.round (a1.put (some d) (.func (.func g) #[] cv)).eval ⟨none,.defer ⟨.value (.tmp d), #[], #[]⟩,T2,p2,x2,none⟩).run C.P w1=.ok (.defer D) w1:=by
  show(do pure (.defer (← resolve (a1.put (some d) (.func (.func g) #[] cv)).eval ⟨.value (.tmp d), #[], #[]⟩ T2)):Sem Next).run C.P w1=_;simp only[resolve,hev,Deferred.ofValue,N6,O3,M3];simp[D]
 change Oper.uponIn Fence.wide 0 C.P _ (a1.put (some d) (.func (.func g) #[] cv)) _ _ (Sem.run C.P (Oper.semAt Fence.wide.round (a1.put (some d) (.func (.func g) #[] cv)).eval _) w1)
 rw[hde,Oper.uponIn_defer];unfold wpListIn;show c1.wpIn (WF none) 0 C.P _ a2 w1;obtain⟨Q,hj,hg⟩| ⟨Q,hj,hg⟩:=hk
 ·refine wpIn_mono (hj 0 B S1 μ1 w1 S1 μ1 w1 a2 [D] (Step.refl ..) f1 r2) ?_;rintro e a3 w3 ⟨v,x,t3,h3,S3,μ3,rfl,hq,st3,f3,r3,rr⟩;exact leave a3 w3 t3 h3 S3 μ3 (some x) _ (by simp) st1 st3 f3 r3 ⟨v,rr,rfl⟩ (hg x t3 h3 hq)
 ·refine wpIn_mono (eh (ρ:=none) (ds:=[D]) c1 ho1 (.inl rfl) (Step.refl B S1 μ1 w1) f1 r2 hj) ?_;rintro e a3 w3 ⟨t3,h3,S3,μ3,⟨he,hq⟩,st3,f3,r3⟩;have:=leave a3 w3 t3 h3 S3 μ3 none .returning (by simp) st1 st3 f3 r3 rfl (hg t3 h3 hq);rcases he with rfl|rfl<;>exact this
end
end Go.Av
namespace Go.Av
open Go Go.Proofs Go.RowKit
attribute [local irreducible] WP WPl WPix Sat
def tUn:Bs:=[117,110,114,101,97,100]
def tOr:Bs:=[111,114]
abbrev qZ(op:Int):AVal:=.agg [.int .i64 op,.int .i64 0,.str [],.nil (.slice none 0 0)]
abbrev ptA(s:Bs):AVal:=.agg [.str s,.int .i64 0]
abbrev psr(l:List AVal)(e:Int):Blk:=.row 141 2 0 [.agg [.sl 2 l,.int .i64 e]]
def orcC(f:FuncId)(args:List AVal):Option AVal:=match args with
 | [.str s,.str p]=>if f=260 then(if s.length≤1048576 then some (.tup [.str (Lib.cut s p).1,.str (Lib.cut s p).2.1,.bool (Lib.cut s p).2.2])else none)else none
 |_=>none
variable (G:Nat→Option (List AVal))
theorem kR{G:Nat→Option (List AVal)}(hG:GOk G):OrcOk (CT G) orcC:=by
 intro f args r g h;unfold orcC at g;split at g
 ·rename_i s p;split at g
  ·rename_i e;subst e;split at g
   ·rename_i hs;cases g;exact xF G hG s p (by omega) h
   ·cases g
  ·cases g
 ·cases g
theorem vC:isV (.sl 2 [ptA tUn]) (callX (CT G) orcC 1000 100 92 [.str tUn] [])=true:=by kernel_rfl
theorem vD:isV (.sl 2 [ptA tOr]) (callX (CT G) orcC 1000 100 92 [.str tOr] [])=true:=by kernel_rfl
theorem xJ:isV (.tup [qZ 9,.bool true]) (callX (CT G) orcC 1000 100 250 [.str tUn] [])=true:=by kernel_rfl
theorem zr{G:Nat→Option (List AVal)}(hG:GOk G)(hc:GClo (CT G))(h:Heap):Sat (CT G) 92 [.str tUn] h (fun r h'=>r=.sl 2 [ptA tUn]∧h'=h):=Sat.closedV hc (kR hG) 1000 100 rfl rfl (vC G) h
theorem zt{G:Nat→Option (List AVal)}(hG:GOk G)(hc:GClo (CT G))(h:Heap):Sat (CT G) 92 [.str tOr] h (fun r h'=>r=.sl 2 [ptA tOr]∧h'=h):=Sat.closedV hc (kR hG) 1000 100 rfl rfl (vD G) h
theorem C9{G:Nat→Option (List AVal)}(hG:GOk G)(hc:GClo (CT G))(h:Heap):Sat (CT G) 250 [.str tUn] h (fun r h'=>r=.tup [qZ 9,.bool true]∧h'=h):=Sat.closedV hc (kR hG) 1000 100 rfl rfl (xJ G) h
theorem kS(N:Nat)(op:Int):Clo N (qZ op):=.agg _ fun c hc=>by
 simp only[M6,P7,or_false]at hc;rcases hc with rfl|rfl|rfl|rfl<;>constructor
theorem Jz:(tUn==tUn)=true:=rfl
theorem JA:(([]:Bs)==tOr)=false:=rfl
theorem eU:(tUn==([]:Bs))=false∧(tUn==[111,114])=false∧(tUn==[97,110,100])=false∧(tUn==[41])=false∧(tUn==[110,111,116])=false∧(tUn==[40])=false:=⟨rfl,rfl,rfl,rfl,rfl,rfl⟩
theorem eO:(tOr==([]:Bs))=false∧(tOr==[111,114])=true:=⟨rfl,rfl⟩
section
variable (X j:Heap) (e:Int)
theorem i7(s:Bs):Sat (CT G) 234 [.hp X.length 0 0 0] (X++(psr [ptA s] e::j)) (fun r h'=>r=.str s∧h'=X++(psr [ptA s] e::j)):=by
 have F:= @aw;refine sb [.tmp 2] Tryz.func234 ?_;intro Q hQ;refine wk F ?_;refine ee hQ F ?_;exact P2 (.str _) ⟨rfl,rfl⟩
theorem lE:Sat (CT G) 234 [.hp X.length 0 0 0] (X++(psr [] e::j)) (fun r h'=>r=.str []∧h'=X++(psr [] e::j)):=by
 have F:= @aw;refine sb [.tmp 2] Tryz.func234 ?_;intro Q hQ;refine wk F ?_;refine ee hQ F ?_;exact P2 (.str _) ⟨rfl,rfl⟩
theorem tu:Sat (CT G) 190 [.hp X.length 0 0 0,.str tUn] (X++(psr [ptA tUn] e::j)) (fun r h'=>r=.bool true∧h'=X++(psr [] e::j)):=by
 have hsl:∀h,aslice Tryz.prog h 138 (.sl 2 [ptA tUn]) (some (.int .i64 1)) none none=some (.sl 2 []):=fun h=>rfl
 have F:=F3 @Jz hsl @aw;refine sb [.tmp 4] Tryz.func190 ?_;intro Q hQ;refine wk F ?_;refine kq F (i7 G _ _ _ _) ?_;refine ee hQ F ?_;exact Z2 (by simp) (.bool _) ⟨rfl,rfl⟩
theorem tv:Sat (CT G) 190 [.hp X.length 0 0 0,.str tOr] (X++(psr [] e::j)) (fun r h'=>r=.bool false∧h'=X++(psr [] e::j)):=by
 have F:=F2 @JA @aw;refine sb [.tmp 4] Tryz.func190 ?_;intro Q hQ;refine wk F ?_;refine kq F (lE G _ _ _) ?_;refine ee hQ F ?_;exact P2 (.bool _) ⟨rfl,rfl⟩
theorem iU(op:Int)(h:Heap):Sat (CT G) 191 [.int .i64 op,.sl 4 [qZ 9]] h (fun r h'=>r=qZ 9∧h'=h):=by
 have F:= @aw;refine sb [.cell 4 25] Tryz.func191 ?_;intro Q hQ;refine wk F ?_;refine ye hQ F ?_;exact L7 (kS _ _) ⟨rfl,rfl⟩
theorem xK(hG:GOk G)(hc:GClo (CT G)):Sat (CT G) 233 [.hp X.length 0 0 0] (X++(psr [ptA tUn] e::j)) (fun r h'=>r=qZ 9∧∃k,h'=X++(psr [] e::(j++k))):=by
 have F:=F2 @eU @aw;refine sb [.cell 2 25] Tryz.func233 ?_;intro Q hQ;refine wk F ?_;refine kq F (i7 G _ _ _ _) ?_;refine kq F (C9 hG hc _) ?_;refine kq F (tu G _ _ _) ?_;refine ye hQ F ?_;exact Z2 (by simp) (kS _ _) ⟨rfl,_,rfl⟩
theorem xL(hG:GOk G)(hc:GClo (CT G)):Sat (CT G) 189 [.hp X.length 0 0 0] (X++(psr [ptA tUn] e::j)) (fun r h'=>r=qZ 9∧∃k,h'=X++(psr [] e::(j++k))):=by
 have e0:(([]:Bs)==[])=true:=rfl;have F:=F2 e0 @aw;refine sb [.cell 2 25] Tryz.func189 ?_;intro Q hQ;refine wk F ?_;refine(xK G _ _ _ hG hc).mono ?_;rintro r h' ⟨rfl,k,rfl⟩;try refine sq F ?_
 refine wk F ?_;refine lm (fun nL tL hL=>0=nL∧X++(psr [] e::(j++(Blk.row 25 4 0 [qZ 0]::k)))=hL∧tL 3=.sl 4 [qZ 9]) (0) ?_ ?_
 ·refine M2 ⟨rfl,by simp,?_⟩;all_goals try exact zZz F
 rintro _ s2 h' ⟨rfl,rfl,e3⟩ K2 hK2;simp only[af,ao,Nat.reduceEqDiff, ↓reduceIte]at e3;have F:=F2 F e3;refine wk F ?_;refine kq F (lE G _ _ _) ?_;refine kq F (iU G _ _) ?_;refine ye hQ F ?_;exact Z2 (by simp) (kS _ _) ⟨rfl,_,rfl⟩
theorem tw(hG:GOk G)(hc:GClo (CT G)):Sat (CT G) 145 [.hp X.length 0 0 0] (X++(psr [ptA tUn] e::j)) (fun r h'=>r=qZ 9∧∃k,h'=X++(psr [] e::(j++k))):=by
 have F:= @aw;refine sb [.cell 2 25] Tryz.func145 ?_;intro Q hQ;refine wk F ?_;refine(xL G _ _ _ hG hc).mono ?_;rintro r h' ⟨rfl,k,rfl⟩;try refine sq F ?_
 refine wk F ?_;refine lm (fun nL tL hL=>0=nL∧X++(psr [] e::(j++(Blk.row 25 4 0 [qZ 0]::k)))=hL∧tL 3=.sl 4 [qZ 9]) (0) ?_ ?_
 ·refine M2 ⟨rfl,by simp,?_⟩;all_goals try exact zZz F
 rintro _ s2 h' ⟨rfl,rfl,e3⟩ K2 hK2;simp only[af,ao,Nat.reduceEqDiff, ↓reduceIte]at e3;have F:=F2 F e3;refine wk F ?_;refine kq F (tv G _ _ _) ?_;refine kq F (iU G _ _) ?_;refine ye hQ F ?_;exact Z2 (by simp) (kS _ _) ⟨rfl,_,rfl⟩
abbrev brk:AVal:=.ifc 179 (.int .i64 0)
theorem tz(s:Bs):SatD (CT G) 146 [.hp X.length 0 0 0] (X++(psr [ptA s] e::j)) (fun r h'=>r=brk∧h'=X++(psr [ptA s] e::j)):=by
 skip
 have F:= @aw;refine SatD.of_body (fn:=Tryz.f146) Tryz.func146 rfl (by kernel_rfl) (by rw[R2];exact T6 (by kernel_rfl)) ?_;refine DJ.seq1 (by kernel_rfl) fun KK kK=>?_
 refine wk F ?_;refine kK _ _ (w0 ?_);clear kK KK;refine DJ.region 8 (by kernel_rfl) rfl rfl ?_;simp only[P8,R3];simp(disch:=first|omega| (simp only[go_sem, ↓reduceIte,seval];first|done|omega)|fail) only[go_sem, ↓reduceIte,seval,F];exact DOp.pan (by exact zq F) ⟨rfl,rfl⟩
theorem vE:SatD (CT G) 233 [.hp X.length 0 0 0] (X++(psr [ptA tOr] e::j)) (fun r h'=>r=brk∧∃k,h'=X++(psr [ptA tOr] e::(j++k))):=by
 skip
 have F:=F2 @eO @aw;refine SatD.of_body (fn:=Tryz.f233) Tryz.func233 rfl (by kernel_rfl) (by rw[R2];exact T6 (by kernel_rfl)) ?_;refine DJ.seq1 (by kernel_rfl) fun KK kK=>?_
 refine wk F ?_;refine kK _ _ (w0 ?_);clear kK KK;refine DJ.seq0 ?_;refine DJ.seq1 (by kernel_rfl) fun KK kK=>?_
 refine wk F ?_;refine kq F (i7 G _ _ _ _) ?_;refine kK _ _ (w0 ?_);clear kK KK;refine DJ.seq1 (by kernel_rfl) fun KK kK=>?_
 refine wk F ?_;refine kK _ _ (w0 ?_);clear kK KK;refine DJ.block ?_;refine DJ.seq1 (by kernel_rfl) fun KK kK=>?_
 refine wk F ?_;refine kK _ _ (w0 ?_);clear kK KK;refine DJ.cond (q:=true) (by kernel_rfl) (by exact zq F) (fun _=>?_) (fun h=>by cases h);refine DJ.region 1 (by kernel_rfl) rfl rfl ?_;simp only[P8,R3];simp(disch:=first|omega| (simp only[go_sem, ↓reduceIte,seval];first|done|omega)|fail) only[go_sem, ↓reduceIte,seval,F];exact DOp.call (xs:=[.hp X.length 0 0 0]) (by exact zq F) ((tz G X _ e tOr).mono fun r h' ⟨h1,h2⟩=>⟨h1,_,h2⟩)
theorem vF:SatD (CT G) 189 [.hp X.length 0 0 0] (X++(psr [ptA tOr] e::j)) (fun r h'=>r=brk∧∃k,h'=X++(psr [ptA tOr] e::(j++k))):=by
 skip
 have F:= @aw;refine SatD.of_body (fn:=Tryz.f189) Tryz.func189 rfl (by kernel_rfl) (by rw[R2];exact T6 (by kernel_rfl)) ?_;refine DJ.seq1 (by kernel_rfl) fun KK kK=>?_
 refine wk F ?_;refine kK _ _ (w0 ?_);clear kK KK;refine DJ.seq0 ?_;refine DJ.region 1 (by kernel_rfl) rfl rfl ?_;simp only[P8,R3];simp(disch:=first|omega| (simp only[go_sem, ↓reduceIte,seval];first|done|omega)|fail) only[go_sem, ↓reduceIte,seval,F];exact DOp.call (xs:=[.hp X.length 0 0 0]) (by exact zq F) ((vE G X _ e).mono fun r h' h=>by
  obtain⟨h1,k,rfl⟩:=h;exact⟨h1,Blk.row 25 4 0 [qZ 0]::k,by rw[O1];rfl⟩)
theorem qI:SatD (CT G) 145 [.hp X.length 0 0 0] (X++(psr [ptA tOr] e::j)) (fun r h'=>r=brk∧∃k,h'=X++(psr [ptA tOr] e::(j++k))):=by
 skip
 have F:= @aw;refine SatD.of_body (fn:=Tryz.f145) Tryz.func145 rfl (by kernel_rfl) (by rw[R2];exact T6 (by kernel_rfl)) ?_;refine DJ.seq1 (by kernel_rfl) fun KK kK=>?_
 refine wk F ?_;refine kK _ _ (w0 ?_);clear kK KK;refine DJ.seq0 ?_;refine DJ.region 1 (by kernel_rfl) rfl rfl ?_;simp only[P8,R3];simp(disch:=first|omega| (simp only[go_sem, ↓reduceIte,seval];first|done|omega)|fail) only[go_sem, ↓reduceIte,seval,F];exact DOp.call (xs:=[.hp X.length 0 0 0]) (by exact zq F) ((vF G X _ e).mono fun r h' h=>by
  obtain⟨h1,k,rfl⟩:=h;exact⟨h1,Blk.row 25 4 0 [qZ 0]::k,by rw[O1];rfl⟩)
end
end Go.Av
namespace Go.Av
open Go Go.Proofs Go.RowKit
attribute [local irreducible] WP WPl WPix Sat
variable (G:Nat→Option (List AVal))
theorem Gl(num:Int)(s:Bs)(ks:List AVal)(h:Heap):Sat (CT G) 82 [.agg [.int .i64 8,.int .i64 num,.str s,.sl 4 ks]] h (fun r h'=>r=.bool (pnG 8 num s ks.length)∧h'=h):=by
 have hT:=fun h=>nu G s h
 have hp:pnG 8 num s ks.length=(decide (num=0)&&(L0.tag s&&decide (ks.length=0))):=by
  unfold pnG nuF txG kdG;simp[Bool.and_assoc]
 rw[hp];generalize L0.tag s=e at*;by_cases hn:num=0
 ·subst hn;cases e;all_goals (
   refine sb [.tmp 2] Tryz.func82 ?_;intro Q hQ;refine wk trivial ?_;repeat' (first
    | (exfalso;omega)
    | (refine kq trivial (hT _) ?_)
    | (refine cq trivial (fun hx=>?_) (fun hx=>?_)<;>(try exact hx.elim)<;>(refine wk trivial ?_))
    | ((first|refine gq trivial (fun hx=>?_) (fun hx=>?_)|refine pq trivial (fun hx=>?_) (fun hx=>?_))<;>(try exact hx.elim)<;>(try refine sq trivial ?_)<;>(refine wk trivial ?_)))
   all_goals (
    refine ee hQ trivial ?_;exact L7 (.bool _) ⟨by first|rfl| (congr 1;rw[P5];simp),rfl⟩))
 ·have b2:(num==0)=false:=by simpa using hn
  rw[show decide (num=0)=false by simpa using hn,zc0];have F:=b2;refine sb [.tmp 2] Tryz.func82 ?_;intro Q hQ;refine wk F ?_;repeat' (first
   | (exfalso;omega)
   | (refine cq F (fun hx=>?_) (fun hx=>?_)<;>(try exact hx.elim)<;>(refine wk F ?_))
   | ((first|refine gq F (fun hx=>?_) (fun hx=>?_)|refine pq F (fun hx=>?_) (fun hx=>?_))<;>(try exact hx.elim)<;>(try refine sq F ?_)<;>(refine wk F ?_)))
  all_goals (
   refine ee hQ F ?_;exact L7 (.bool _) ⟨rfl,rfl⟩)
theorem Gm(op num:Int)(s:Bs)(hs:s.length≤20000)(ks:List AVal)(h:Heap)(ho:op=11∨op=12):Sat (CT G) 82 [.agg [.int .i64 op,.int .i64 num,.str s,.sl 4 ks]] h (fun r h'=>r=.bool (pnG op num s ks.length)∧h'=h):=by
 have hT:=fun h=>ub G s hs h
 have hp:pnG op num s ks.length=(decide (num=0)&&(isF s&&decide (ks.length=0))):=by
  unfold pnG nuF txG kdG;rcases ho with rfl|rfl<;>simp[Bool.and_assoc]
 rw[hp];generalize isF s=e at*;by_cases hn:num=0
 ·subst hn;rcases ho with rfl|rfl<;>cases e
  all_goals (
   refine sb [.tmp 2] Tryz.func82 ?_;intro Q hQ;refine wk trivial ?_;repeat' (first
    | (exfalso;omega)
    | (refine kq trivial (hT _) ?_)
    | (refine cq trivial (fun hx=>?_) (fun hx=>?_)<;>(try exact hx.elim)<;>(refine wk trivial ?_))
    | ((first|refine gq trivial (fun hx=>?_) (fun hx=>?_)|refine pq trivial (fun hx=>?_) (fun hx=>?_))<;>(try exact hx.elim)<;>(try refine sq trivial ?_)<;>(refine wk trivial ?_)))
   all_goals (
    refine ee hQ trivial ?_;exact L7 (.bool _) ⟨by first|rfl| (congr 1;rw[P5];simp),rfl⟩))
 ·have b2:(num==0)=false:=by simpa using hn
  rw[show decide (num=0)=false by simpa using hn,zc0];have F:=b2;rcases ho with rfl|rfl;all_goals (
   refine sb [.tmp 2] Tryz.func82 ?_;intro Q hQ;refine wk F ?_;repeat' (first
    | (exfalso;omega)
    | (refine cq F (fun hx=>?_) (fun hx=>?_)<;>(try exact hx.elim)<;>(refine wk F ?_))
    | ((first|refine gq F (fun hx=>?_) (fun hx=>?_)|refine pq F (fun hx=>?_) (fun hx=>?_))<;>(try exact hx.elim)<;>(try refine sq F ?_)<;>(refine wk F ?_)))
   all_goals (
    refine ee hQ F ?_;exact L7 (.bool _) ⟨rfl,rfl⟩))
theorem Gn(hc:GClo (CT G))(op num:Int)(s:Bs)(ks:List AVal)(h:Heap)(ho:op=13∨op=14):Sat (CT G) 82 [.agg [.int .i64 op,.int .i64 num,.str s,.sl 4 ks]] h (fun r h'=>r=.bool (pnG op num s ks.length)∧h'=h):=by
 have hT:=fun h=>nr G hc num h
 have hp:pnG op num s ks.length=(momF num&&(decide (s=[])&&decide (ks.length=0))):=by
  unfold pnG nuF txG kdG;rcases ho with rfl|rfl<;>simp[Bool.and_assoc]
 rw[hp];generalize momF num=e at*;rcases ho with rfl|rfl<;>cases e
 all_goals (
  refine sb [.tmp 2] Tryz.func82 ?_;intro Q hQ;refine wk trivial ?_;repeat' (first
   | (exfalso;omega)
   | (refine kq trivial (hT _) ?_)
   | (refine cq trivial (fun hx=>?_) (fun hx=>?_)<;>(try exact hx.elim)<;>(refine wk trivial ?_))
   | ((first|refine gq trivial (fun hx=>?_) (fun hx=>?_)|refine pq trivial (fun hx=>?_) (fun hx=>?_))<;>(try exact hx.elim)<;>(try refine sq trivial ?_)<;>(refine wk trivial ?_)))
  all_goals (
   refine ee hQ trivial ?_;exact L7 (.bool _) ⟨by first|rfl| (congr 1;rw[P5];simp[*];try omega),rfl⟩))
theorem Gp(op num:Int)(s:Bs)(ks:List AVal)(h:Heap)(ho:¬(1≤op∧op≤15)):Sat (CT G) 82 [.agg [.int .i64 op,.int .i64 num,.str s,.sl 4 ks]] h (fun r h'=>r=.bool false∧h'=h):=by
 have q:∀k:Int,1≤k→k≤15→(op==k)=false:=fun k h1 h2=>by simp;omega
 have q1:=q 1 (by omega) (by omega);have q2:=q 2 (by omega) (by omega);have q3:=q 3 (by omega) (by omega);have q4:=q 4 (by omega) (by omega);have q5:=q 5 (by omega) (by omega);have q6:=q 6 (by omega) (by omega);have q7:=q 7 (by omega) (by omega);have q8:=q 8 (by omega) (by omega);have q9:=q 9 (by omega) (by omega);have q10:=q 10 (by omega) (by omega);have q11:=q 11 (by omega) (by omega);have q12:=q 12 (by omega) (by omega);have q13:=q 13 (by omega) (by omega);have q14:=q 14 (by omega) (by omega);have q15:=q 15 (by omega) (by omega);clear q;have F:=F2 (F9 q1 q2 q3 q4 q5 q6 q7 q8 q9) (F6 q10 q11 q12 q13 q14 q15);refine sb [.tmp 2] Tryz.func82 ?_;intro Q hQ;refine wk F ?_;repeat' (first
  | (exfalso;omega)
  | (refine cq F (fun hx=>?_) (fun hx=>?_)<;>(try exact hx.elim)<;>(refine wk F ?_))
  | ((first|refine gq F (fun hx=>?_) (fun hx=>?_)|refine pq F (fun hx=>?_) (fun hx=>?_))<;>(try exact hx.elim)<;>(try refine sq F ?_)<;>(refine wk F ?_)))
 all_goals (
  refine ee hQ F ?_;exact L7 (.bool _) ⟨rfl,rfl⟩)
def pnF(q:Qy):Bool:=pnG q.op q.num q.txt q.kds.length
theorem yj(hc:GClo (CT G))(q:Qy)(h:Heap)(hz:q.sz≤20000):Sat (CT G) 82 [q.av] h (fun r h'=>r=.bool (pnF q)∧h'=h):=by
 obtain⟨op,num,s,ks⟩:=q;rw[Qy.sz]at hz;have e:pnF (.mk op num s ks)=pnG op num s (ks.map Qy.av).length:=by rw[L8];rfl
 rw[e,Qy.av_eq];by_cases ho:1≤op∧op≤15
 ·by_cases k8:op=8
  ·subst k8;exact Gl G num s _ h
  by_cases k11:op=11∨op=12
  ·exact Gm G op num s (by omega) _ h k11
  by_cases k13:op=13∨op=14
  ·exact Gn G hc op num s _ h k13
  exact Gk G op num s _ h (by omega)
 ·have:=Gp G op num s (ks.map Qy.av) h ho;have e2:pnG op num s (ks.map Qy.av).length=false:=by
   unfold pnG;have:(decide (1≤op)&&decide (op≤15))=false:=by rw[Bool.and_eq_false_iff,decide_eq_false_iff_not,decide_eq_false_iff_not];omega
   rw[this];rfl
  rw[e2];exact this
def Qy.ok(q:Qy):Bool:=decide (q.dep 1≤12)&&(decide (q.nod≤64)&&q.all pnF)
theorem zJ:plP (fun q=>nuF q.op q.num) txF kdF=pnF:=by
 funext ⟨op,num,s,ks⟩
 show(!(decide (op<1)||(decide (op>15)||(!nuF op num||(!txG op s|| !kdG op ks.length)))))=(decide (1≤op)&&decide (op≤15)&&nuF op num&&txG op s&&kdG op ks.length)
 generalize nuF op num=a;generalize txG op s=b;generalize kdG op ks.length=c;rw[P5];simp only[P6,za8,decide_eq_false_iff_not,L6,M1,Bool.not_eq_false'];constructor
 ·rintro⟨h1,h2,h3,h4,h5⟩;exact⟨⟨⟨⟨by omega,by omega⟩,h3⟩,h4⟩,h5⟩
 ·rintro⟨⟨⟨⟨h1,h2⟩,h3⟩,h4⟩,h5⟩;exact⟨by omega,by omega,h3,h4,h5⟩
theorem yk(q:Qy)(h:Heap)(hz:q.sz≤100000):Sat (CT G) 66 [q.av] h (fun r h'=>r=.bool (q.all pnF)∧h'=h):=by
 rw[← zJ];exact qM G _ _ _ 100000 (by omega) (fun q h _=>oB G q h) (fun q h hz=>tT G q h hz) (fun q h hz=>tS G q h (by omega)) q h hz
theorem oF(hc:GClo (CT G))(q:Qy)(h:Heap)(hz:q.mx≤9223372036854775807)(h2:q.dep 1≤12→q.sz≤20000):Sat (CT G) 19 [q.av] h (fun r h'=>r=.bool q.ok∧h'=h):=by
 have k1:=fun h=>qK G q h hz
 have k2:=fun hq:q.sz≤20000=>fun h=>vH G q h (Q7 hq (by omega))
 have k3:=fun hq:q.sz≤20000=>fun h=>vK G pnF 20000 (by omega) (yj G hc) q h hq
 unfold Qy.ok;generalize q.all pnF=e3 at*;generalize q.dep 1=e1 at*;generalize q.nod=e2 at*;generalize q.sz=z at*;obtain⟨yo,yn,ys,yl⟩:=q;rw[Qy.av_eq]at*;by_cases b1:e1≤12
 ·have d1:decide (e1≤12)=true:=by simp[b1]
  have k3:=k3 (h2 b1);have k2:=k2 (h2 b1);by_cases b2:e2≤64
  ·have d2:decide (e2≤64)=true:=(by simp[b2]);have F:=F2 d1 d2;refine sb [.tmp 2] Tryz.func19 ?_;intro Q hQ;refine wk F ?_;refine kq F (k1 _) ?_;refine kq F (k2 _) ?_;refine kq F (k3 _) ?_;refine ee hQ F ?_;exact L7 (.bool _) ⟨by simp,rfl⟩
  ·have d2:decide (e2≤64)=false:=(by simp;omega);have F:=F2 d1 d2;refine sb [.tmp 2] Tryz.func19 ?_;intro Q hQ;refine wk F ?_;refine kq F (k1 _) ?_;refine kq F (k2 _) ?_;refine ee hQ F ?_;exact L7 (.bool _) ⟨by simp,rfl⟩
 ·have d1:decide (e1≤12)=false:=by simp;omega
  have F:=d1;refine sb [.tmp 2] Tryz.func19 ?_;intro Q hQ;refine wk F ?_;refine kq F (k1 _) ?_;refine ee hQ F ?_;exact L7 (.bool _) ⟨by simp,rfl⟩
theorem ew(q:Qy)(h:Heap)(hz:q.mx≤9223372036854775807)(h2:q.dep 1≤12→q.sz≤20000):Sat (CT G) 33 [q.av] h (fun r h'=>r=.int .i64 (if q.ok then 0 else 250)∧h'=h):=by
 have k1:=fun h=>qL G q h hz
 have k2:=fun hq:q.sz≤20000=>fun h=>vJ G q h (Q7 hq (by omega))
 have k3:=fun hq:q.sz≤20000=>fun h=>yk G q h (Q7 hq (by omega))
 unfold Qy.ok;generalize q.all pnF=e3 at*;generalize q.dep 1=e1 at*;generalize q.nod=e2 at*;generalize q.sz=z at*;obtain⟨yo,yn,ys,yl⟩:=q;rw[Qy.av_eq]at*;by_cases b1:e1≤12
 ·have d0:decide (e1≤12)=true:=by simp[b1]
  have d1:decide (e1>12)=false:=by simp[b1]
  have k3:=k3 (h2 b1);have k2:=k2 (h2 b1);rw[d0,S9];by_cases b2:e2≤64
  ·have d2:decide (e2>64)=false:=(by simp[b2]);have d3:decide (e2≤64)=true:=(by simp[b2]);rw[d3,S9];have F:=F2 d1 d2;cases e3 with
   |true=>
    refine sb [.tmp 2] Tryz.func33 ?_;intro Q hQ;refine wk F ?_;refine kq F (k1 _) ?_;refine kq F (k2 _) ?_;refine kq F (k3 _) ?_;refine ee hQ F ?_;exact L7 (.int _ _) ⟨rfl,rfl⟩
   |false=>
    refine sb [.tmp 2] Tryz.func33 ?_;intro Q hQ;refine wk F ?_;refine kq F (k1 _) ?_;refine kq F (k2 _) ?_;refine kq F (k3 _) ?_;refine ee hQ F ?_;exact L7 (.int _ _) ⟨rfl,rfl⟩
  ·have d2:decide (e2>64)=true:=(by simp;omega);have d3:decide (e2≤64)=false:=(by simp;omega);rw[d3];have F:=F2 d1 d2;refine sb [.tmp 2] Tryz.func33 ?_;intro Q hQ;refine wk F ?_;refine kq F (k1 _) ?_;refine kq F (k2 _) ?_;refine ee hQ F ?_;exact L7 (.int _ _) ⟨rfl,rfl⟩
 ·have d1:decide (e1>12)=true:=by simp;omega
  have d0:decide (e1≤12)=false:=by simp;omega
  rw[d0];have F:=d1;refine sb [.tmp 2] Tryz.func33 ?_;intro Q hQ;refine wk F ?_;refine kq F (k1 _) ?_;refine ee hQ F ?_;exact L7 (.int _ _) ⟨rfl,rfl⟩
end Go.Av
namespace Go.Av
open Go Go.Proofs Go.RowKit
attribute [local irreducible] WP WPl WPix Sat SatD wpOpsS Code.wpS
variable (G:Nat→Option (List AVal))
abbrev wb(X:Heap)(p:Blk)(q:AVal)(n:Int)(b:Bool)(k:Heap):Heap:=X++(p:: .row 25 4 0 [q]:: .row 3 1 0 [.int .i64 n]:: .row 4 1 0 [.bool b]::k)
theorem uc(X k:Heap)(p:Blk):
  SatR (CT G) 144 [.hp (X.length+1) 0 0 0,.hp (X.length+2) 0 0 0,.hp (X.length+3) 0 0 0] (wb X p (qZ 0) 0 false k) (some brk) (fun h=>h=wb X p (qZ 0) 0 false k):=by
 intro B S μ w vs u fit rl hx;obtain⟨xv,rx,rfl⟩:=hx;obtain⟨v0,v1,v2,rfl⟩:∃v0 v1 v2,vs=[v0,v1,v2]:=by
  have:=rl.1
  match vs,this with
  | [a,b,c],_=>exact⟨a,b,c,rfl⟩
 have r0:Rep w S μ (.hp (X.length+1) 0 0 0) v0:=by simpa using rl.2 0 _ rfl
 have r1:Rep w S μ (.hp (X.length+2) 0 0 0) v1:=by simpa using rl.2 1 _ rfl
 have r2:Rep w S μ (.hp (X.length+3) 0 0 0) v2:=by simpa using rl.2 2 _ rfl
 obtain rfl:xv=.iface 179 (.int .i64 0):=by
  cases rx with
  |ifc _ _ u hu=>rw[hu.int_inv]
 refine callsD_of_wpS Tryz.func144 rfl fun c₀ cs hu=>?_
 refine wpS_seq (wpS_region ?_);have hb:Rep w S μ (.tup [.int .i64 0,.bool true]) (.tuple #[.int .i64 0,.bool true]):=.tup _ [.int .i64 0,.bool true] rfl fun i x hi=>by
  match i with
  |0=>simp at hi;subst hi;exact .int _ _
  |1=>simp at hi;subst hi;exact .bool _
  |i+2=>simp at hi
 have re:=eQ (n:=13) rl (by simp);rw[show Tryz.f144.ntmps=13 by kernel_rfl];rw[show ∀x:Array Oper,x.size=7→List.range x.size=[0,1,2,3,4,5,6]from fun x hx=>by rw[hx];rfl]
 rotate_left
 ·rfl
 refine tt (o:=⟨some 6,.call ⟨.builtin .recover, #[], #[]⟩,_,_,_,none⟩) (v:=.iface 179 (.int .i64 0)) rfl (by rfl) (by simp[execOp,resolve,invoke,builtin]) hu ?_;have re:=re.put (some 6) rx;refine bn (o:=⟨some 7,.typeAssert (.tmp 6) 20 179 true,_,_,_,none⟩) (v:=.tuple #[.int .i64 0,.bool true]) rfl (by rfl) (by simp[execOp,Act.put,Act.eval,Instr.typeAssert,run_underlying (show(CT G).P.underlying 179=some (.int .i64)from Tryz.underlying179)]) ?_;have re:=re.put (some 7) hb;refine bn (o:=⟨some 5,.move (.tmp 7),_,_,_,none⟩) (v:=.tuple #[.int .i64 0,.bool true]) rfl (by rfl) (by simp[execOp,Act.put,Act.eval]) ?_;have re:=re.put (some 5) hb;refine bn (o:=⟨some 8,.extract (.tmp 5) 0,_,_,_,none⟩) (v:=.int .i64 0) rfl (by rfl) (by simp[execOp,Act.put,Act.eval,Instr.extract]) ?_;have re:=re.put (some 8) (.int .i64 0);refine bn (o:=⟨some 9,.extract (.tmp 5) 1,_,_,_,none⟩) (v:=.bool true) rfl (by rfl) (by simp[execOp,Act.put,Act.eval,Instr.extract]) ?_;have re:=re.put (some 9) (.bool true);refine bn (o:=⟨some 3,.assign (.tmp 8),_,_,_,none⟩) (v:=.int .i64 0) rfl (by rfl) (by simp[execOp,Act.put,Act.eval]) ?_;have re:=re.put (some 3) (.int .i64 0);refine bn (o:=⟨some 4,.assign (.tmp 9),_,_,_,none⟩) (v:=.bool true) rfl (by rfl) (by simp[execOp,Act.put,Act.eval]) ?_;have re:=re.put (some 4) (.bool true);unfold wpOpsS;show Code.wpS (CT G).P _ _ _ _ _;obtain⟨KK,hK⟩:∃KK:Heap→Prop,KK=fun h=>h=wb X p (qZ 0) 0 false k:=⟨_,rfl⟩
 refine wpS_of_wp (wp_mono (gd (n:=13) (B:=B) (ds:=[]) (Q:=fun e _ h=>e=.normal∧KK h) _ (by kernel_rfl) (Step.refl B S μ w) fit re ?_) fun e a' w' hp=>?_)
 ·show WP (CT G) _ _ (upd (upd (upd (upd (upd (upd (upd (env0 [.hp (X.length+1) 0 0 0,.hp (X.length+2) 0 0 0,.hp (X.length+3) 0 0 0]) 6 brk) 7 (.tup [.int .i64 0,.bool true])) 5 (.tup [.int .i64 0,.bool true])) 8 (.int .i64 0)) 9 (.bool true)) 3 (.int .i64 0)) 4 (.bool true)) (wb X p (qZ 0) 0 false k);clear re hb hu
  skip
  have F:= @aw;refine wk F ?_;rw[hK]
 ·rw[hK]at hp;obtain⟨t',h',S',μ',⟨rfl,rfl⟩,st,f',r'⟩:=hp;exact⟨r'.2.1,_,rfl,.tuple #[],by simp[results,Tryz.results144],.tuple #[],rfl,rfl,_,S',μ',rfl,st,f'⟩
theorem rH(h:Heap)(p1 p2 p3:Nat):
  SatR (CT G) 144 [.hp p1 0 0 0,.hp p2 0 0 0,.hp p3 0 0 0] h none (fun h'=>h'=h):=by
 intro B S μ w vs u fit rl hx;subst hx;obtain⟨v0,v1,v2,rfl⟩:∃v0 v1 v2,vs=[v0,v1,v2]:=by
  have:=rl.1
  match vs,this with
  | [a,b,c],_=>exact⟨a,b,c,rfl⟩
 have r0:Rep w S μ (.hp p1 0 0 0) v0:=by simpa using rl.2 0 _ rfl
 have r1:Rep w S μ (.hp p2 0 0 0) v1:=by simpa using rl.2 1 _ rfl
 have r2:Rep w S μ (.hp p3 0 0 0) v2:=by simpa using rl.2 2 _ rfl
 refine callsD_of_wpS Tryz.func144 rfl fun c₀ cs hu=>?_
 refine wpS_seq (wpS_region ?_);have hz0:(zeroValue 179).run (CT G).P w=.ok (.int .i64 0) w:=by
  have g:((CT G).P.info? 179).bind (·.zero)=some (.int .i64 0):=by kernel_rfl
  cases hi:(CT G).P.info? 179 with
  |none=>rw[hi]at g;cases g
  |some i=>rw[hi]at g;simp[zeroValue,typeInfo,hi,show i.zero=some (.int .i64 0)from g]
 have hb:Rep w S μ (.tup [.int .i64 0,.bool false]) (.tuple #[.int .i64 0,.bool false]):=.tup _ [.int .i64 0,.bool false] rfl fun i x hi=>by
  match i with
  |0=>simp at hi;subst hi;exact .int _ _
  |1=>simp at hi;subst hi;exact .bool _
  |i+2=>simp at hi
 have re:=eQ (n:=13) rl (by simp);rw[show Tryz.f144.ntmps=13 by kernel_rfl];rw[show ∀x:Array Oper,x.size=7→List.range x.size=[0,1,2,3,4,5,6]from fun x hx=>by rw[hx];rfl]
 rotate_left
 ·rfl
 refine qH (o:=⟨some 6,.call ⟨.builtin .recover, #[], #[]⟩,_,_,_,none⟩) rfl (by rfl) (by simp[execOp,resolve,invoke,builtin]) hu ?_;have re:=re.put (some 6) (x:=.nil .nilIface) (v:=.nilIface) (.nil _ (by intro cs h;cases h));refine bn (o:=⟨some 7,.typeAssert (.tmp 6) 20 179 true,_,_,_,none⟩) (v:=.tuple #[.int .i64 0,.bool false]) rfl (by rfl) (by simp[execOp,Act.put,Act.eval,Instr.typeAssert,hz0,run_underlying (show(CT G).P.underlying 179=some (.int .i64)from Tryz.underlying179)]) ?_;have re:=re.put (some 7) hb;refine bn (o:=⟨some 5,.move (.tmp 7),_,_,_,none⟩) (v:=.tuple #[.int .i64 0,.bool false]) rfl (by rfl) (by simp[execOp,Act.put,Act.eval]) ?_;have re:=re.put (some 5) hb;refine bn (o:=⟨some 8,.extract (.tmp 5) 0,_,_,_,none⟩) (v:=.int .i64 0) rfl (by rfl) (by simp[execOp,Act.put,Act.eval,Instr.extract]) ?_;have re:=re.put (some 8) (.int .i64 0);refine bn (o:=⟨some 9,.extract (.tmp 5) 1,_,_,_,none⟩) (v:=.bool false) rfl (by rfl) (by simp[execOp,Act.put,Act.eval,Instr.extract]) ?_;have re:=re.put (some 9) (.bool false);refine bn (o:=⟨some 3,.assign (.tmp 8),_,_,_,none⟩) (v:=.int .i64 0) rfl (by rfl) (by simp[execOp,Act.put,Act.eval]) ?_;have re:=re.put (some 3) (.int .i64 0);refine bn (o:=⟨some 4,.assign (.tmp 9),_,_,_,none⟩) (v:=.bool false) rfl (by rfl) (by simp[execOp,Act.put,Act.eval]) ?_;have re:=re.put (some 4) (.bool false);unfold wpOpsS;show Code.wpS (CT G).P _ _ _ _ _;obtain⟨KK,hK⟩:∃KK:Heap→Prop,KK=fun h'=>h'=h:=⟨_,rfl⟩
 refine wpS_of_wp (wp_mono (gd (n:=13) (B:=B) (ds:=[]) (Q:=fun e _ h=>e=.normal∧KK h) _ (by kernel_rfl) (Step.refl B S μ w) fit re ?_) fun e a' w' hp=>?_)
 ·show WP (CT G) _ _ (upd (upd (upd (upd (upd (upd (upd (env0 [.hp p1 0 0 0,.hp p2 0 0 0,.hp p3 0 0 0]) 6 (.nil .nilIface)) 7 (.tup [.int .i64 0,.bool false])) 5 (.tup [.int .i64 0,.bool false])) 8 (.int .i64 0)) 9 (.bool false)) 3 (.int .i64 0)) 4 (.bool false)) (h);clear re hb
  skip
  have F:= @aw;refine wk F ?_;rw[hK]
 ·rw[hK]at hp;obtain⟨t',h',S',μ',⟨rfl,rfl⟩,st,f',r'⟩:=hp;exact⟨r'.2.1,_,rfl,.tuple #[],by simp[results,Tryz.results144],.tuple #[],rfl,by rw[hu];rfl,_,S',μ',rfl,st,f'⟩
theorem ud(N:Nat)(op n:Int)(b:Bool):Clo N (.tup [qZ op,.int .i64 n,.bool b]):=.tup _ fun c hc=>by
 simp only[M6,P7,or_false]at hc;rcases hc with rfl|rfl|rfl
 ·exact kS _ _
 ·exact .int _ _
 ·exact .bool _
theorem rJ(X:Heap)(e:Int):Sat (CT G) 93 [.hp X.length 0 0 0] (X++[psr [ptA tOr] e]) (fun r h'=>r=.tup [qZ 0,.int .i64 0,.bool false]∧∃k,h'=X++(psr [ptA tOr] e::k)):=by
 skip
 have F:= @aw;refine Sat.deferred (fn:=Tryz.f93) (g:=144) (gn:=Tryz.f144) (d:=5) (caps:=[.tmp 2,.tmp 3,.tmp 4]) Tryz.func93 rfl (by kernel_rfl) Tryz.func144 rfl (by kernel_rfl) ⟨_,_,_,_,_,_,rfl⟩ (by kernel_rfl) (by kernel_rfl) (by kernel_rfl) (T6 (by kernel_rfl)) (by kernel_rfl) (by rw[R2];exact T6 (by kernel_rfl)) fun KK kK=>?_
 refine wk F ?_;refine kK _ _ (.inl ⟨fun r t h=>r=brk∧(t 2=.hp (X.length+1) 0 0 0∧t 3=.hp (X.length+2) 0 0 0∧t 4=.hp (X.length+3) 0 0 0)∧∃k,h=wb X (psr [ptA tOr] e) (qZ 0) 0 false k,?_,?_⟩)
 ·clear kK KK;refine DJ.seq0 ?_;refine DJ.region 1 (by kernel_rfl) rfl rfl ?_;simp only[P8,R3];simp(disch:=first|omega| (simp only[go_sem, ↓reduceIte,seval];first|done|omega)|fail) only[go_sem, ↓reduceIte,seval,F];refine DOp.call (xs:=[.hp X.length 0 0 0]) (by exact zq F) ((qI G X [.row 25 4 0 [qZ 0],.row 3 1 0 [.int .i64 0],.row 4 1 0 [.bool false]] e).mono fun r h' h=>?_);obtain⟨h1,k,rfl⟩:=h;exact⟨h1,k,rfl⟩
 ·rintro x t2 h2 ⟨rfl,⟨e2,e3,e4⟩,k,rfl⟩;have hx:∀l,l=[.hp (X.length+1) 0 0 0,.hp (X.length+2) 0 0 0,.hp (X.length+3) 0 0 0]→SatR (CT G) 144 l (wb X (psr [ptA tOr] e) (qZ 0) 0 false k) (some brk) (fun h3=>need (resA (CT G) t2 h3 [.cell 2 25,.cell 3 3,.cell 4 4]) (Fin (X++[psr [ptA tOr] e]) h3 fun r h'=>r=.tup [qZ 0,.int .i64 0,.bool false]∧∃k,h'=X++(psr [ptA tOr] e::k))):=fun l hl=>by
   subst hl;refine(uc G X k _).mono fun h3 hh=>?_
   subst hh;have F:=F4 F e2 e3 e4;simp(disch:=first|omega| (simp only[go_sem, ↓reduceIte,seval];first|done|omega)|fail) only[go_sem, ↓reduceIte,seval,F,resA,resL,resA1];exact Z2 (by simp) (ud _ _ _ _) ⟨rfl,_,rfl⟩
  exact hx _ (by exact zq F)
theorem rK(hG:GOk G)(hc:GClo (CT G))(X:Heap)(e:Int):Sat (CT G) 93 [.hp X.length 0 0 0] (X++[psr [ptA tUn] e]) (fun r h'=>r=.tup [qZ 9,.int .i64 e,.bool true]∧∃k,h'=X++(psr [] e::k)):=by
 have df:∀i:Decidable False, @decide False i=false:=fun i=>by simp
 skip
 have F:=F2 df @aw;refine Sat.deferred (fn:=Tryz.f93) (g:=144) (gn:=Tryz.f144) (d:=5) (caps:=[.tmp 2,.tmp 3,.tmp 4]) Tryz.func93 rfl (by kernel_rfl) Tryz.func144 rfl (by kernel_rfl) ⟨_,_,_,_,_,_,rfl⟩ (by kernel_rfl) (by kernel_rfl) (by kernel_rfl) (T6 (by kernel_rfl)) (by kernel_rfl) (by rw[R2];exact T6 (by kernel_rfl)) fun KK kK=>?_
 refine wk F ?_;obtain⟨QQ,hQQ⟩:∃QQ:Env→Heap→Prop,QQ=fun t h=>(t 2=.hp (X.length+1) 0 0 0∧t 3=.hp (X.length+2) 0 0 0∧t 4=.hp (X.length+3) 0 0 0)∧∃k,h=wb X (psr [] e) (qZ 9) e true k:=⟨_,rfl⟩
 refine kK _ _ (.inr ⟨QQ,?_,?_⟩)
 ·clear kK KK
  skip
  refine wn F ?_;refine(tw G X [.row 25 4 0 [qZ 0],.row 3 1 0 [.int .i64 0],.row 4 1 0 [.bool false]] e hG hc).mono ?_;rintro r h' ⟨rfl,k,rfl⟩;try refine sq F ?_
  refine wn F ?_;refine aC 6 [5] [true,true,true,true,true,false] (.one 5 [false,false,true,true,true] .fin) (by decide+kernel) (by kernel_rfl) (by decide+kernel) ?_;simp only[aG,aH,aD];try refine sq F ?_
  repeat' ((first|refine ai ?_|refine aj ?_|refine ak ?_ ?_)<;>try refine sq F ?_)
  all_goals try refine wn F ?_
  repeat' ((first|refine ai ?_|refine aj ?_|refine ak ?_ ?_)<;>try refine sq F ?_)
  all_goals try refine wn F ?_
  rw[hQQ];exact⟨.inr trivial,⟨by simp(disch:=first|omega| (simp only[go_sem, ↓reduceIte,seval];first|done|omega)|fail) only[go_sem, ↓reduceIte,seval,F],by simp(disch:=first|omega| (simp only[go_sem, ↓reduceIte,seval];first|done|omega)|fail) only[go_sem, ↓reduceIte,seval,F],by simp(disch:=first|omega| (simp only[go_sem, ↓reduceIte,seval];first|done|omega)|fail) only[go_sem, ↓reduceIte,seval,F]⟩,k,rfl⟩
 ·intro t2 h2 hq;rw[hQQ]at hq;obtain⟨⟨e2,e3,e4⟩,k,rfl⟩:=hq;have hx:∀l,l=[.hp (X.length+1) 0 0 0,.hp (X.length+2) 0 0 0,.hp (X.length+3) 0 0 0]→SatR (CT G) 144 l (wb X (psr [] e) (qZ 9) e true k) none (fun h3=>need (resA (CT G) t2 h3 [.cell 2 25,.cell 3 3,.cell 4 4]) (Fin (X++[psr [ptA tUn] e]) h3 fun r h'=>r=.tup [qZ 9,.int .i64 e,.bool true]∧∃k,h'=X++(psr [] e::k))):=fun l hl=>by
   subst hl;refine(rH G _ _ _ _).mono fun h3 hh=>?_
   subst hh;have F:=F4 F e2 e3 e4;simp(disch:=first|omega| (simp only[go_sem, ↓reduceIte,seval];first|done|omega)|fail) only[go_sem, ↓reduceIte,seval,F,resA,resL,resA1];exact Z2 (by simp) (ud _ _ _ _) ⟨rfl,_,rfl⟩
  exact hx _ (by exact zq F)
theorem kc(op num:Int)(tx:Bs):Wk (.agg [.int .i64 op,.int .i64 num,.str tx,.nil (.slice none 0 0)]) (Qy.mk op num tx []).av:=by
 rw[Qy.av_eq];refine Wk.agg rfl (fun y hy=>by simp only[M6,P7,or_false]at hy;rcases hy with rfl|rfl|rfl|rfl<;>rfl) fun j x y hx hy=>?_
 match j with
 |0|1|2=>simp at hx hy;subst hx;subst hy;exact Wk.refl _
 |3=>simp at hx hy;subst hx;subst hy;exact Wk.nils _
 |j+4=>simp at hx
theorem zK(N:Nat)(op n m:Int):Clo N (.tup [qZ op,.int .i64 n,.int .i64 m]):=.tup _ fun c hc=>by
 simp only[M6,P7,or_false]at hc;rcases hc with rfl|rfl|rfl
 ·exact kS _ _
 ·exact .int _ _
 ·exact .int _ _
theorem rL(hG:GOk G)(hc:GClo (CT G))(h:Heap):Sat (CT G) 50 [.str tOr] h (fun r h'=>r=.tup [qZ 0,.int .i64 0,.int .i64 250]∧h'=h):=by
 have hl:tOr.length=2:=rfl;have df:∀i:Decidable False, @decide False i=false:=fun i=>by simp
 have hw:=rJ G (h++[.row 25 4 0 [qZ 0]]) 2;have hh:(h++[Blk.row 25 4 0 [qZ 0]]).length=h.length+1:=by simp
 rw[hh,O1,U4]at hw;have F:=F3 hl df @aw;refine sb [.cell 2 25,.tmp 3,.tmp 4] Tryz.func50 ?_;intro Q hQ;refine wn F ?_;refine kn F (zt hG hc _) ?_;refine hw.mono ?_;rintro r h' ⟨rfl,k,rfl⟩;rw[O1,U4];try refine sq F ?_
 refine wn F ?_;refine ye hQ F ?_;exact L7 (zK _ _ _ _) ⟨rfl,rfl⟩
theorem rM(hG:GOk G)(hc:GClo (CT G))(h:Heap):Sat (CT G) 50 [.str tUn] h (fun r h'=>r=.tup [qZ 9,.int .i64 6,.int .i64 0]∧h'=h):=by
 have hl:tUn.length=6:=rfl;have df:∀i:Decidable False, @decide False i=false:=fun i=>by simp
 have hw:=rK G hG hc (h++[.row 25 4 0 [qZ 0]]) 6;have hh:(h++[Blk.row 25 4 0 [qZ 0]]).length=h.length+1:=by simp
 rw[hh,O1,U4]at hw;have hck:=fun h=>Sat.wk (ys:=[(Qy.mk 9 0 [] []).av]) (xs:=[qZ 9]) rfl (fun i x y hx hy=>by
  match i with
  |0=>simp at hx hy;subst hx;subst hy;exact kc 9 0 []
  |i+1=>simp at hx) (ew G (.mk 9 0 [] []) h (by simp[Qy.mx,Qy.mxL]) fun _=>by simp[Qy.sz,Qy.szL])
 rw[show(Qy.mk 9 0 [] []).ok=true by kernel_rfl]at hck;have F:=F3 hl df @aw;refine sb [.cell 2 25,.tmp 3,.tmp 4] Tryz.func50 ?_;intro Q hQ;refine wn F ?_;refine kn F (zr hG hc _) ?_;refine hw.mono ?_;rintro r h' ⟨rfl,k,rfl⟩;rw[O1,U4];try refine sq F ?_
 refine wn F ?_;refine kn F (hck _) ?_;refine ye hQ F ?_;exact L7 (zK _ _ _ _) ⟨rfl,rfl⟩
end Go.Av
namespace Go.Av
open Go Go.Proofs Go.RowKit
attribute [local irreducible] WP WPl WPix Sat
def BelR(G:Nat→Option (List AVal))(s:PS)(n a:Nat)(t:It)(q:Qy):Prop:=∀(Y:Heap) (x:ML Int (List Int)×Nat),a+2≤Y.length→Gd s x→
 Sat (CT G) 37 [.hp (a+1) 0 0 0,q.av,t.av] (sa Y n s a x) (fun r h'=>r=.bool (q.bel s t)∧∃y,Gd s y∧h'=sa Y n s a y)
variable (G:Nat→Option (List AVal))
section
variable {s:PS} {n a:Nat} {t:It}
theorem jq{k:Qy}(ih:BelR G s n a t k)(hn:n+9≤a){Y:Heap}(hm:a+2≤Y.length){p1 p2:Nat}(l1:a+2≤p1)(l2:a+2≤p2)
  (h1:getRow Y p1 0=some (70,1,[.hp (a+1) 0 0 0]))(h2:getRow Y p2 0=some (49,9,[t.av]))(x:ML Int (List Int)×Nat)(hx:Gd s x):
  Sat (CT G) 70 ([]++[k.av]++[.hp p1 0 0 0,.hp p2 0 0 0]) (sa Y n s a x) (fun r h'=>r=.bool (k.bel s t)∧∃y,Gd s y∧h'=sa Y n s a y):=by
 have q1:=ba h1;have q2:=ba h2;have hm1:∀j:Heap,a+2≤(Y++j).length:=fun j=>by simp;omega
 have hc:=fun Y hm=>ih Y x hm hx
 generalize k.bel s t=b at*;obtain⟨ko,kn,ks,kl⟩:=k;rw[Qy.av_eq]at*;have F:=gJ hm hn hm1 h1 h2 q1 q2 l1 l2 @aw;refine sb [.tmp 4] Tryz.func70 ?_;intro Q hQ;refine wk F ?_;refine(hc _ (by simp;omega)).mono ?_;rintro r h' ⟨rfl,y,hy,rfl⟩;try refine sq F ?_
 refine wk F ?_;refine ee hQ F ?_;exact bE hn hm (fun N=>.bool _) ⟨rfl,y,hy,rfl⟩
theorem wP{k:Qy}(ih:BelR G s n a t k)(hn:n+9≤a){Y:Heap}(hm:a+2≤Y.length){p1 p2 p3:Nat}(l1:a+2≤p1)(l2:a+2≤p2)(l3:a+2≤p3)
  (h1:getRow Y p1 0=some (70,1,[.hp (a+1) 0 0 0]))(h2:getRow Y p2 0=some (49,9,[t.av]))
  (h3:getRow Y p3 0=some (27,1,[.fn (.func 70) [] [.hp p1 0 0 0,.hp p2 0 0 0]]))(x:ML Int (List Int)×Nat)(hx:Gd s x):
  Sat (CT G) 72 ([]++[k.av]++[.hp p3 0 0 0]) (sa Y n s a x) (fun r h'=>r=.bool (!k.bel s t)∧∃y,Gd s y∧h'=sa Y n s a y):=by
 have q1:=ba h1;have q2:=ba h2;have q3:=ba h3;have hm1:∀j:Heap,a+2≤(Y++j).length:=fun j=>by simp;omega
 have hc:=fun j:Heap=>jq G ih hn (Y:=Y++j) (hm1 j) l1 l2 (by rw[bo _ q1];exact h1) (by rw[bo _ q2];exact h2) x hx
 generalize k.bel s t=b at*;clear ih;obtain⟨ko,kn,ks,kl⟩:=k;rw[Qy.av_eq]at*;have F:=F7 hm hn hm1 h3 q3 l3 @aw;refine sb [.tmp 3] Tryz.func72 ?_;intro Q hQ;refine wk F ?_;refine(hc _).mono ?_;rintro r h' ⟨rfl,y,hy,rfl⟩;try refine sq F ?_
 refine wk F ?_;refine ee hQ F ?_;exact bE hn hm (fun N=>.bool _) ⟨rfl,y,hy,rfl⟩
end
theorem zR{s:PS}{t:It}{op num:Int}{tx:Bs}{ks:List Qy}(h3:op≠3)(h4:op≠4)(h5:op≠5):(Qy.mk op num tx ks).bel s t=leafF s t op num tx:=by
 rw[Qy.bel,L5 h3,L5 h4,L5 h5]
theorem pB(s:PS)(hI:s.Inv)(t:It)(ht:t.title.length≤256)(htg:t.tags.length≤1048576){n a:Nat}(hn:n+9≤a):∀q:Qy,q.sz≤20000→q.all pnF=true→BelR G s n a t q:=by
 refine Qy.ind fun op num tx ks ih=>?_
 intro hz hp Y x hm hx;have hkl:=Qy.szL_len ks;have hkm:∀k∈ks,k.sz≤Qy.szL ks:=fun k hk=>Qy.szL_mem hk
 rw[Qy.sz]at hz;rw[Qy.all,L6,Qy.allL_eq,O9]at hp;obtain⟨hpk,hpn⟩:=hp;have ihk:∀k∈ks,BelR G s n a t k:=fun k hk=>ih k hk (by have:=hkm k hk;omega) (hpk k hk)
 have hpg:pnG op num tx ks.length=true:=hpn;have hml:(ks.map Qy.av).length=ks.length:=L8 ..;have hm1:∀j:Heap,a+2≤(Y++j).length:=fun j=>by simp;omega
 have hra:1≤op∧op≤15:=by
  unfold pnG at hpg;simp only[L6,M1]at hpg;exact hpg.1.1.1
 rw[Qy.av_eq];have F:=F5 hm hn hm1 hml @aw;by_cases k3:op=3
 ·subst k3;have hb:(Qy.mk 3 num tx ks).bel s t= !ks.any fun k=> !k.bel s t:=by rw[Qy.bel,M0 rfl,Qy.belA_eq]
  rw[hb];have hany:=ib G (iG (s:=s) hn (hm1 [.row 70 1 0 [.hp (a+1) 0 0 0],.row 25 4 0 [.agg [.int .i64 3,.int .i64 num,.str tx,.sl 4 (ks.map Qy.av)]],.row 49 9 0 [t.av],.row 27 1 0 [.fn (.func 70) [] [.hp Y.length 0 0 0,.hp (Y.length+2) 0 0 0]]]))
   (fun k=> !k.bel s t) 72 [.hp (Y.length+3) 0 0 0] ks (by omega) (fun k hk x hx=>wP G (ihk k hk) hn (hm1 _) (p1:=Y.length) (p2:=Y.length+2) (by omega) (by omega) (by omega) (by rw[aJ _ rfl];rfl) (by rw[bd _ rfl];rfl) (by rw[bd _ rfl];rfl) x hx) x hx
  generalize (ks.any fun k=> !k.bel s t)=b at*;refine sb [.tmp 6] Tryz.func37 ?_;intro Q hQ;refine wk F ?_;refine hany.mono ?_;rintro r h' ⟨rfl,y,hy,rfl⟩;try refine sq F ?_
  refine wk F ?_;refine ee hQ F ?_;exact bE hn hm (fun N=>.bool _) ⟨rfl,y,hy,rfl⟩
 by_cases k4:op=4
 ·subst k4;have hb:(Qy.mk 4 num tx ks).bel s t=ks.any fun k=>k.bel s t:=by rw[Qy.bel,L5 (by decide),M0 rfl,Qy.belO_eq]
  rw[hb];have hany:=ib G (iG (s:=s) hn (hm1 [.row 70 1 0 [.hp (a+1) 0 0 0],.row 25 4 0 [.agg [.int .i64 4,.int .i64 num,.str tx,.sl 4 (ks.map Qy.av)]],.row 49 9 0 [t.av],.row 27 1 0 [.fn (.func 70) [] [.hp Y.length 0 0 0,.hp (Y.length+2) 0 0 0]]]))
   (fun k=>k.bel s t) 70 [.hp Y.length 0 0 0,.hp (Y.length+2) 0 0 0] ks (by omega) (fun k hk x hx=>jq G (ihk k hk) hn (hm1 _) (p1:=Y.length) (p2:=Y.length+2) (by omega) (by omega) (by rw[aJ _ rfl];rfl) (by rw[bd _ rfl];rfl) x hx) x hx
  generalize (ks.any fun k=>k.bel s t)=b at*;refine sb [.tmp 6] Tryz.func37 ?_;intro Q hQ;refine wk F ?_;refine hany.mono ?_;rintro r h' ⟨rfl,y,hy,rfl⟩;try refine sq F ?_
  refine wk F ?_;refine ee hQ F ?_;exact bE hn hm (fun N=>.bool _) ⟨rfl,y,hy,rfl⟩
 by_cases k5:op=5
 ·subst k5;have hl1:ks.length=1:=by
   unfold pnG kdG at hpg;simp only[L6]at hpg;simpa using hpg.2
  obtain⟨k,rfl⟩:∃k,ks=[k]:=by
   match ks,hl1 with
   | [k],_=>exact⟨k,rfl⟩
  have hb:(Qy.mk 5 num tx [k]).bel s t= !k.bel s t:=by rw[Qy.bel,L5 (by decide),L5 (by decide),M0 rfl,Qy.belO,Qy.belO,Z5]
  rw[hb];have hc:=jq G (ihk k (by simp)) hn (hm1 [.row 70 1 0 [.hp (a+1) 0 0 0],.row 25 4 0 [.agg [.int .i64 5,.int .i64 num,.str tx,.sl 4 ([k].map Qy.av)]],.row 49 9 0 [t.av],.row 27 1 0 [.fn (.func 70) [] [.hp Y.length 0 0 0,.hp (Y.length+2) 0 0 0]]])
   (p1:=Y.length) (p2:=Y.length+2) (by omega) (by omega) (by rw[aJ _ rfl];rfl) (by rw[bd _ rfl];rfl) x hx
  clear ih ihk hkm hpk hb;generalize k.bel s t=b at*;obtain⟨ko,kn,kt,kl⟩:=k;simp only[N9,S6]at*;rw[Qy.av_eq]at*
  skip
  refine sb [.tmp 6] Tryz.func37 ?_;intro Q hQ;refine wn F ?_;refine aC 6 [5] [true,true,true,true,true,false] (.one 5 [] .fin) (by decide+kernel) (by kernel_rfl) (by decide+kernel) ?_;simp only[aG,aH,aD];try refine sq F ?_
  repeat' ((first|refine ai ?_|refine aj ?_|refine ak ?_ ?_)<;>try refine sq F ?_)
  all_goals try refine wn F ?_
  refine hc.mono ?_;rintro r h' ⟨rfl,y,hy,rfl⟩;repeat' ((first|refine ai ?_|refine aj ?_|refine ak ?_ ?_)<;>try refine sq F ?_)
  all_goals try refine wn F ?_
  skip
  refine ee hQ F ?_;exact bE hn hm (fun N=>.bool _) ⟨rfl,y,hy,rfl⟩
 rw[zR k3 k4 k5];by_cases k7:op=7
 ·subst k7;have hf:=fun Y hm=>oK G s hI num (Y:=Y) hn hm x hx
  have hul:(undF s num).length≤1048576:=by
   unfold undF;split
   ·rw[L8];refine Q7 (Y8 _ _) ?_;have:=aK (z:=Fe.z) s.fe;have:=hI.l2;show(valsM Fe.z s.fe).length≤_;omega
   ·simp
  have hcn:=lO G (undF s num) t.feed hul;have hb:leafF s t 7 num tx=(undF s num).any fun a=>decide (t.feed=a):=rfl
  rw[hb];generalize ((undF s num).any fun a=>decide (t.feed=a))=b at*;generalize undF s num=u at*
  skip
  refine sb [.tmp 6] Tryz.func37 ?_;intro Q hQ;refine wn F ?_;refine aC 6 [3] [true,true,true,false,true,true] (.one 3 [false,false,false,false,true,true] .fin) (by decide+kernel) (by kernel_rfl) (by decide+kernel) ?_;simp only[aG,aH,aD];try refine sq F ?_
  repeat' ((first|refine ai ?_|refine aj ?_|refine ak ?_ ?_)<;>try refine sq F ?_)
  all_goals try refine wn F ?_
  refine(hf _ (hm1 _)).mono ?_;rintro r h' ⟨rfl,y,hy,rfl⟩;refine⟨by simp(disch:=first|omega| (simp only[go_sem, ↓reduceIte,seval];first|done|omega)|fail) only[go_sem, ↓reduceIte,seval,F],?_⟩;repeat' ((first|refine ai ?_|refine aj ?_|refine ak ?_ ?_)<;>try refine sq F ?_)
  all_goals try refine wn F ?_
  refine(hcn _).mono ?_;rintro r h' ⟨rfl,rfl⟩;repeat' ((first|refine ai ?_|refine aj ?_|refine ak ?_ ?_)<;>try refine sq F ?_)
  all_goals try refine wn F ?_
  skip
  refine ee hQ F ?_;exact bE hn hm (fun N=>.bool _) ⟨rfl,y,hy,rfl⟩
 by_cases k8:op=8
 ·subst k8;have hcn:=ug G t.tags tx htg;have hb:leafF s t 8 num tx=t.tags.any fun a=>decide (tx=a):=rfl
  rw[hb];generalize (t.tags.any fun a=>decide (tx=a))=b at*;refine sb [.tmp 6] Tryz.func37 ?_;intro Q hQ;refine wk F ?_;refine kq F (hcn _) ?_;refine ee hQ F ?_;exact bE hn hm (fun N=>.bool _) ⟨rfl,x,hx,rfl⟩
 by_cases k11:op=11
 ·subst k11;have hcn:=wO G t.title tx (by omega) (by omega);have hb:leafF s t 11 num tx=hasF t.title tx:=rfl;rw[hb];generalize hasF t.title tx=b at*;refine sb [.tmp 6] Tryz.func37 ?_;intro Q hQ;refine wk F ?_;refine kq F (hcn _) ?_;refine ee hQ F ?_;exact bE hn hm (fun N=>.bool _) ⟨rfl,x,hx,rfl⟩
 by_cases k12:op=12
 ·subst k12;have hcn:=oJ G t.title tx (by omega) (by omega);have hb:leafF s t 12 num tx=bgnF t.title tx:=rfl;rw[hb];generalize bgnF t.title tx=b at*;refine sb [.tmp 6] Tryz.func37 ?_;intro Q hQ;refine wk F ?_;refine kq F (hcn _) ?_;refine ee hQ F ?_;exact bE hn hm (fun N=>.bool _) ⟨rfl,x,hx,rfl⟩
 by_cases k15:op=15
 ·subst k15;have hck:∀Y,a+2≤Y.length→Sat (CT G) 77 [.hp (n+8) 0 0 0] (sa Y n s a x) (fun r h'=>r=.int .i64 s.clock∧h'=sa Y n s a x):=fun Y hm=>oG G s (by rw[bZ hm];omega)
  have hb:leafF s t 15 num tx=decide (t.date>IntKind.i64.wrap (s.clock-IntKind.i64.wrap (num*86400))):=rfl;rw[hb];refine sb [.tmp 6] Tryz.func37 ?_;intro Q hQ;refine wk F ?_;refine aE (hck _ (hm1 _)) ?_;try refine sq F ?_
  refine wk F ?_;refine ee hQ F ?_;exact bE hn hm (fun N=>.bool _) ⟨rfl,x,hx,rfl⟩
 have ho:op=1∨op=2∨op=6∨op=9∨op=10∨op=13∨op=14:=by omega
 clear ih ihk;rcases ho with rfl|rfl|rfl|rfl|rfl|rfl|rfl;all_goals (
  refine sb [.tmp 6] Tryz.func37 ?_;intro Q hQ;refine wk F ?_;refine ee hQ F ?_;exact bE hn hm (fun N=>.bool _) ⟨by first|rfl| (congr 1;rw[P5];simp[leafF]),x,hx,rfl⟩)
end Go.Av
namespace Go.Av
open Go Go.Proofs Go.RowKit
attribute [local irreducible] WP WPl WPix Sat
def rI(v:Nat)(L:List It):Blk:=.row 49 9 v (L.map It.av)
theorem zS(v:Nat)(L:List It)(N:Nat):CloB N (rI v L):=fun c hc=>by obtain⟨y,_,rfl⟩:=M9.1 hc;exact zc2 _ y
def sI(Y:Heap)(n:Nat)(s:PS)(a:Nat)(x:ML Int (List Int)×Nat)(p v:Nat)(L:List It):Heap:=sa (ov Y p [rI v L]) n s a x
section
variable {Y:Heap} {n a p v:Nat} {s:PS} {x:ML Int (List Int)×Nat} {L:List It}
theorem im(hp:p+1≤Y.length):(ov Y p [rI v L]).length=Y.length:=aT hp
@[go_sem] theorem uk(hn:n+9≤a)(ha:a+2≤p)(hp:p+1≤Y.length)(j:Heap):sI Y n s a x p v L++j=sI (Y++j) n s a x p v L:=by
 unfold sI;rw[zP hn (by rw[im hp];omega),fM hp]
@[go_sem] theorem zT(hn:n+9≤a)(ha:a+2≤p)(hp:p+1≤Y.length):(sI Y n s a x p v L).length=Y.length:=by
 unfold sI;rw[zQ hn (by rw[im hp];omega),im hp]
theorem nw(hn:n+9≤a)(ha:a+2≤p)(hp:p+1≤Y.length){q:Nat}(u:Nat)(hq:a+2≤q)(hne:q≠p):getRow (sI Y n s a x p v L) q u=getRow Y q u:=by
 unfold sI;rw[ui hn (by rw[im hp];omega) u hq,ir u hp (by simp only[R2];omega)]
@[go_sem] theorem kX(hn:n+9≤a)(ha:a+2≤p)(hp:p+1≤Y.length):getRow (sI Y n s a x p v L) p v=some (49,9,L.map It.av):=by
 unfold sI;rw[ui hn (by rw[im hp];omega) v ha];have:=mL (H:=Y) (n:=p) (k:=0) (bs:=[rI v L]) v hp (by simp);rw[W3]at this;rw[this];simp[getRow,rI]
theorem kY(hn:n+9≤a)(ha:a+2≤p)(hp:p+1≤Y.length)(L':List It):(sI Y n s a x p v L).set p (.row 49 9 v (L'.map It.av))=sI Y n s a x p v L':=by
 unfold sI;rw[uj hn (by rw[im hp];omega) _ ha,kL _ hp (by simp)];rfl
theorem nx(hn:n+9≤a)(ha:a+2≤p)(hp:p+1≤Y.length){q:Nat}(b:Blk)(hq:a+2≤q)(hne:q≠p):(sI Y n s a x p v L).set q b=sI (Y.set q b) n s a x p v L:=by
 unfold sI;rw[uj hn (by rw[im hp];omega) b hq,hJ b hp (by simp only[R2];omega)]
theorem kj{j:Heap}{y:ML Int (List Int)×Nat}{L':List It}{R:AVal→Heap→Prop}{r:AVal}(hn:n+9≤a)(ha:a+2≤p)(hp:p+1≤Y.length)(hc:Clo Y.length r)(hR:R r (sI Y n s a y p v L')):Fin (sI Y n s a x p v L) (sI (Y++j) n s a y p v L') R r:=by
 have hm:a+2≤Y.length:=by omega
 have e:∀(Y:Heap) (x:ML Int (List Int)×Nat) (L:List It),a+2≤Y.length→p+1≤Y.length→sI Y n s a x p v L=ov (ov (so Y n s) p [rI v L]) a [am x.1 x.2,ar n a]:=fun Y x L h1 h2=>by
  unfold sI sa;rw[cK hn (by rw[im h2];exact h1)];congr 1
  exact oY (bs:=s.bl n) (cs:=[rI v L]) (by show n+9≤Y.length;omega) h2 (.inl (by show n+9≤p;omega))
 have hl:(so Y n s).length=Y.length:=aQ (by omega);rw[← uk hn ha hp];rw[e _ _ _ hm hp]at hR ⊢;rw[e _ _ _ hm hp];have hL:∀(x:ML Int (List Int)×Nat) (L:List It),(ov (ov (so Y n s) p [rI v L]) a [am x.1 x.2,ar n a]).length=Y.length:=fun x L=>by
  rw[aT (by rw[aT (by rw[hl];exact hp),hl];exact hm),aT (by rw[hl];exact hp),hl]
 refine Fin.keep (by rw[hL,hL]) (fun q k hk=>?_) (by rw[hL];exact hc) hR;rw[hL];rw[aV (by rw[aT (by rw[hl];exact hp),hl];exact hm),aV (by rw[hl];exact hp)]at hk;rw[aV (by rw[aT (by rw[hl];exact hp),hl];exact hm),aV (by rw[hl];exact hp)];simp only[M8,O7]at hk ⊢;by_cases h1:a≤q∧q<a+2
 ·rw[M0 h1]at hk;refine .inr ?_;have:=M7 hk;simp only[M6,P7,or_false]at this;rcases this with rfl|rfl
  ·exact kh _ _ _
  ·exact ki hn hm
 ·rw[L5 h1]at hk ⊢;by_cases h2:p≤q∧q<p+1
  ·rw[M0 h2]at hk;refine .inr ?_;have:=M7 hk;simp only[M6,P7,or_false]at this;subst this;exact zS _ _ _
  ·rw[L5 h2]at hk ⊢;exact .inl hk
end
variable (G:Nat→Option (List AVal))
section
variable {Y:Heap} {n a p v:Nat} {s:PS}
theorem kp(hn:n+9≤a)(ha:a+2≤p)(hp:p+1≤Y.length)(f:It→Bool)(g:FuncId)(cap:List AVal)(L:List It)(hl:L.length≤1048576)
  (hg:∀t∈L,∀x,Gd s x→Sat (CT G) g ([]++[t.av]++cap) (sI Y n s a x p v L) (fun r h'=>r=.bool (f t)∧∃y,Gd s y∧h'=sI Y n s a y p v L))(x:ML Int (List Int)×Nat)(hx:Gd s x):
  Sat (CT G) 119 [.hs p v 0 L.length true,.fn (.func g) [] cap] (sI Y n s a x p v L) (fun r h'=>r=.int .i64 (ixQ f L)∧∃y,Gd s y∧h'=sI Y n s a y p v L):=by
 have hml:(L.map It.av).length=L.length:=L8 ..;have F:=F4 hml hn ha hp;refine sb [.tmp 4] Tryz.func119 ?_;intro Q hQ;refine wk F ?_;refine lm (fun nL tL hL=>∃(k:Nat) (z:ML Int (List Int)×Nat),L.length-k=nL∧sI Y n s a z p v L=hL∧tL 8=.int .i64 k∧k≤L.length∧Gd s z∧(∀t∈L.take k,f t=false)) ((fun(k:Nat) (z:ML Int (List Int)×Nat)=>(L.length-k:Nat)) (0) (x)) ?_ ?_
 ·refine M2 ⟨0,x,rfl,aB,?_,X1 _,hx,by simp⟩;all_goals try exact zZz F
 rintro _ s2 h' ⟨k,z,rfl,rfl,e8,hk,hz,hq⟩ K2 hK2;simp only[af,ao,Nat.reduceEqDiff, ↓reduceIte]at e8;have F:=F2 F e8;refine wk F ?_;refine cq F (fun c1=>?_) (fun c1=>?_)<;>(try exact c1.elim)<;>(refine wk F ?_)
 ·have c2:k<L.length:=by omega
  obtain⟨y,hy,hym⟩:=ac c2;have hc:=hg y hym z hz;cases he:f y with
  |true=>
   have e:=i8 hy he hq;rw[he]at hc;clear he;have F:=F3 F hy c2;(try refine sq F ?_);refine wk F ?_;refine hc.mono ?_;rintro r h' ⟨rfl,u,hu,rfl⟩;(try refine sq F ?_);refine wk F ?_;refine ee hQ F ?_;have:=kj (j:=[]) (x:=x) (L:=L) (s:=s) (R:=fun r h'=>r=.int .i64 (ixQ f L)∧∃y,Gd s y∧h'=sI Y n s a y p v L) (r:=.int .i64 k) hn ha hp (.int _ _) (v:=v) (L':=L) (y:=u) ⟨by rw[e],u,hu,rfl⟩
   rwa [O8]at this
  |false=>
   have hp1:=dH hy he hq;rw[he]at hc;clear he;have F:=F3 F hy c2;(try refine sq F ?_);refine wk F ?_;refine hc.mono ?_;rintro r h' ⟨rfl,u,hu,rfl⟩;(try refine sq F ?_);refine wk F ?_;refine hK2 _ _ _ (M2 ⟨k+1,u,rfl,aB,?_,by omega,hu,hp1⟩) (by omega);all_goals try exact zZz F
 ·have e:=ia (p:=f) (l:=L) fun b hb=>hq b (by rwa [N0 (by omega)])
  refine ee hQ F ?_;have:=kj (j:=[]) (x:=x) (L:=L) (s:=s) (R:=fun r h'=>r=.int .i64 (ixQ f L)∧∃y,Gd s y∧h'=sI Y n s a y p v L) (r:=.int .i64 (-1)) hn ha hp (.int _ _) (v:=v) (L':=L) (y:=z) ⟨by rw[e],z,hz,rfl⟩
  rwa [O8]at this
theorem wQ{f:It→Bool}{L:List It}(h:ixQ f L= -1):L.filter (fun t=> !f t)=L:=by
 unfold ixQ at h;split at h
 ·omega
 ·rename_i hn;rw[List.findIdx?_eq_none_iff]at hn;exact T8.2 fun k hk=>by rw[hn k hk];rfl
theorem wR{f:It→Bool}{L:List It}(h:ixQ f L≠ -1):∃i:Nat,ixQ f L=(i:Int)∧i<L.length∧(L.take (i+1)).filter (fun t=> !f t)=L.take i:=by
 unfold ixQ at h ⊢;split at h
 ·rename_i i hi;obtain⟨h1,h2,h3⟩:=List.findIdx?_eq_some_iff_getElem.1 hi;refine⟨i,by simp,h1,?_⟩;rw[P3,L9 h1,List.filter_append];have e:(L.take i).filter (fun k=> !f k)=L.take i:=T8.2 fun k hk=>by
   obtain⟨j,hj⟩:=Q5 hk;have hlt:=(f9.1 hj).1;rw[O6]at hlt;rw[N4 (by omega)]at hj;have:=h3 j (by omega);have hjl:j<L.length:=(by omega);rw[L9 hjl]at hj;cases hj;simpa using this
  rw[e];simp[h2]
 ·exact absurd rfl h
theorem wT(hn:n+9≤a)(ha:a+2≤p)(hp:p+1≤Y.length)(f:It→Bool)(g:FuncId)(cap:List AVal)(l:List It)(hl:l.length≤1048576)
  (hg:∀t∈l,∀x,Gd s x→∀(j:Heap) (L:List It),Sat (CT G) g ([]++[t.av]++cap) (sI (Y++j) n s a x p v L) (fun r h'=>r=.bool (f t)∧∃y,Gd s y∧h'=sI (Y++j) n s a y p v L))(x:ML Int (List Int)×Nat)(hx:Gd s x):
  Sat (CT G) 67 [.hs p v 0 l.length true,.fn (.func g) [] cap] (sI Y n s a x p v l)
   (fun r h'=>r=.hs p v 0 (l.filter (fun t=> !f t)).length true∧∃y,Gd s y∧h'=sI Y n s a y p v (l.filter (fun t=> !f t))):=by
 have hg0:=fun t ht x hx=>hg t ht x hx [] l
 simp only[O8]at hg0;have hpj:∀j:Heap,p+1≤(Y++j).length:=fun j=>by simp;omega
 by_cases hi:ixQ f l= -1
 ·rw[wQ hi];have hI:=kp G hn ha hp f g cap l hl hg0 x hx;rw[hi]at hI;refine sb [.tmp 4] Tryz.func67 ?_;intro Q hQ;refine wk trivial ?_;refine hI.mono ?_;rintro r h' ⟨rfl,u,hu,rfl⟩;try refine sq trivial ?_
  refine wk trivial ?_;refine ee hQ trivial ?_;have:=kj (j:=[]) (x:=x) (L:=l) (s:=s) (R:=fun r h'=>r=.hs p v 0 l.length true∧∃y,Gd s y∧h'=sI Y n s a y p v l) (r:=.hs p v 0 l.length true) hn ha hp (.hs _ _ _ _ _ (by omega)) (v:=v) (L':=l) (y:=u) ⟨rfl,u,hu,rfl⟩
  rwa [O8]at this
 ·obtain⟨i0,hi0,hil,hf0⟩:=wR hi;have hI:=kp G hn ha hp f g cap l hl hg0 x hx;rw[hi0]at hI;have hne:(((i0:Nat):Int)== -1)=false:=by rw[beq_eq_false_iff_ne];omega
  have F:=F5 hne hn ha hp hpj;refine sb [.tmp 4] Tryz.func67 ?_;intro Q hQ;refine wk F ?_;refine hI.mono ?_;rintro r h' ⟨rfl,u,hu,rfl⟩;try refine sq F ?_
  refine wk F ?_;refine lm (fun nL tL hL=>∃(i k:Nat) (L:List It) (J:Heap) (z:ML Int (List Int)×Nat),l.length-k=nL∧sI (Y++J) n s a z p v L=hL∧tL 5=.int .i64 i∧tL 6=.int .i64 k∧Gd s z∧L.length=l.length∧i<k∧k≤l.length∧L.take i=(l.take k).filter (fun t=> !f t)∧L.drop k=l.drop k) ((fun(i k:Nat) (L:List It) (J:Heap) (z:ML Int (List Int)×Nat)=>(l.length-k:Nat)) (i0) (i0+1) (l) ([]) (u)) ?_ ?_
  ·refine M2 ⟨i0,i0+1,l,[],u,rfl,by rw[O8],?_,?_,hu,rfl,by omega,by omega,hf0.symm,rfl⟩;all_goals try exact zZz F
  rintro _ s2 h' ⟨i,k,L,J,z,rfl,rfl,e5,e6,hz,hL,hij,hk,h1,h2⟩ K2 hK2;simp only[af,ao,Nat.reduceEqDiff, ↓reduceIte]at e5 e6;have F:=F3 F e5 e6;refine wk F ?_;refine cq F (fun c1=>?_) (fun c1=>?_)<;>(try exact c1.elim)<;>(refine wk F ?_)
  ·have c2:k<L.length:=(by omega);obtain⟨y,hy,hym⟩:=ac c2;obtain⟨x1,hx1,_⟩:=ac (show i<L.length by omega);have hyl:l[k]? =some y:=by
    have:=P0 (·[0]?) h2;simp only[P9,W3]at this;rw[← this];exact hy
   have hd:L.drop (k+1)=l.drop (k+1):=by
    have:=P0 (List.drop 1) h2
    rwa [W6,W6]at this
   have ht:(l.take (k+1)).filter (fun t=> !f t)=(l.take k).filter (fun t=> !f t)++[y].filter (fun t=> !f t):=(by rw[P3,hyl,List.filter_append];rfl);have c3:i<L.length:=(by omega);have c4:i<l.length:=(by omega);have c5:k<l.length:=(by omega);have hgy:=fun j=>hg y (M7 hyl) z hz j L
   have hsp:∀(Y:Heap) (x:ML Int (List Int)×Nat),p+1≤Y.length→(sI Y n s a x p v L).set p (.row 49 9 v ((L.map It.av).set i (.agg [.int .i64 y.id,.int .i64 y.feed,.int .i64 y.date,.str y.guid,.str y.title,.str y.link,.bool y.read,.bool y.star,.sl 1 (y.tags.map .str)])))=sI Y n s a x p v (L.set i y):=fun Y x hp=>by
    rw[show AVal.agg [.int .i64 y.id,.int .i64 y.feed,.int .i64 y.date,.str y.guid,.str y.title,.str y.link,.bool y.read,.bool y.star,.sl 1 (y.tags.map .str)]=It.av y from rfl, ← zb5];exact kY hn ha hp _
   have hrr:∀(J:Heap) (x:ML Int (List Int)×Nat) (b:Blk),getRow (sI (Y++(J++[b])) n s a x p v L) (Y.length+J.length) 0=getRow [b] 0 0:=fun J x b=>by
    rw[nw hn ha (hpj _) 0 (by omega) (by omega),bd _ rfl, ← W3 J.length,bd _ rfl]
   have hst:∀(J:Heap) (x:ML Int (List Int)×Nat) (b b':Blk),(sI (Y++(J++[b])) n s a x p v L).set (Y.length+J.length) b'=sI (Y++(J++[b'])) n s a x p v L:=fun J x b b'=>by
    rw[nx hn ha (hpj _) _ (by omega) (by omega),gZ _ rfl,cR _ rfl];rfl
   have F:=gJ F hy hx1 c4 c5 hL hsp hrr hst @aw;(try refine sq F ?_);refine wk F ?_;refine(hgy _).mono ?_;rintro r h' ⟨rfl,u2,hu2,rfl⟩;(try refine sq F ?_);refine wk F ?_;refine cq F (fun c6=>?_) (fun c6=>?_)<;>(try exact c6.elim)<;>(refine wk F ?_)
   ·have hpy:f y=false:=(by simpa using c6);have e1:(L.set i y).take (i+1)=(l.take (k+1)).filter (fun t=> !f t):=by
     rw[ht, ← h1,P3,List.take_set_of_le (M4 _),Q2 c3];simp[hpy]
    have e2:(L.set i y).drop (k+1)=l.drop (k+1):=(by rw[List.drop_set_of_lt (by omega)];exact hd);refine hK2 _ _ _ (M2 ⟨i+1,k+1,L.set i y,J++[.row 49 9 0 [y.av]],u2,rfl,by rw[It.av],?_,?_,hu2,by simp[hL],by omega,by omega,e1,e2⟩) (by omega);all_goals try exact zZz F
   ·have hpy:f y=true:=(by simpa using c6);have e1:L.take i=(l.take (k+1)).filter (fun t=> !f t):=(by rw[ht, ← h1];simp[hpy]);refine hK2 _ _ _ (M2 ⟨i,k+1,L,J++[.row 49 9 0 [y.av]],u2,rfl,by rw[It.av],?_,?_,hu2,hL,by omega,by omega,e1,hd⟩) (by omega);all_goals try exact zZz F
  ·have ej:k=l.length:=(by omega);rw[ej,X8]at h1;have hil2:i<L.length:=(by omega);have hlf:(l.filter (fun t=> !f t)).length=i:=(by rw[← h1,O6];omega);have hlt:p<(sI (Y++J) n s a z p v L).length:=(by rw[zT hn ha (hpj _)];exact hpj _);have s1:=qr (P:=Tryz.prog) (h:=sI (Y++J) n s a z p v L) (T:=33) (off:=0) (len:=l.length) (i:=i) (k:=.i64) (e:=49) (by simp only[go_sem]) (by simp only[go_sem]) (kX hn ha (hpj _)) (by omega);have hcut:(sI (Y++J) n s a z p v L).set p (.row 49 9 v ((L.map It.av).take i))=sI (Y++J) n s a z p v (l.filter (fun t=> !f t)):=(by rw[← X4,h1,kY hn ha (hpj _)]);have twB':=qt (P:=Tryz.prog) (h:=sI (Y++J) n s a z p v (l.filter (fun t=> !f t))) (T:=33) (off:=0) (len:=l.length) (i:=i) (k:=.i64) (e:=49) (by simp only[go_sem]) (by simp only[go_sem]) (kX hn ha (hpj _)) (by omega);rw[R1]at s1;have hli:0<l.length-i:=(by omega);have hLl:(L.map It.av).length=i+(l.length-i):=(by rw[L8];omega);have F:=F6 F s1 @twB' hli hLl @hcut;(try refine sq F ?_);refine wk F ?_;refine ee hQ F ?_;exact kj hn ha hp (.hs _ _ _ _ _ (by omega)) ⟨by rw[hlf],z,hz,rfl⟩
end
end Go.Av
namespace Go.Proofs
open Go.Shelf
def Tryz.sortIt_ren:Go.Shelf.Ren:=⟨fun|6=>69|15=>121|14=>120|28=>169|29=>170|20=>161|21=>162|22=>163|23=>164|24=>165|25=>166|26=>167|27=>168|46=>204|47=>205|48=>206|49=>207|50=>208|57=>240|n=>n,fun|22=>33|24=>49|25=>105|3=>3|39=>164|0=>0|53=>198|55=>200|4=>4|46=>192|45=>191|50=>153|5=>5|9=>9|66=>215|70=>219|76=>240|77=>241|n=>n,fun|n=>n⟩
theorem Tryz.sortIt:Go.Proofs.SlLaysF0.n6 Tryz.prog Tryz.sortIt_ren:= {
 mixed:=by kernel_rfl
 f6:=⟨Tryz.f69.name,by decide,Tryz.func69.trans (P0 some (by kernel_rfl))⟩
 f14:=⟨Tryz.f120.name,by decide,Tryz.func120.trans (P0 some (by kernel_rfl))⟩
 f15:=Tryz.func121.trans (P0 some (by kernel_rfl))
 f20:=⟨Tryz.f161.name,by decide,Tryz.func161.trans (P0 some (by kernel_rfl))⟩
 f21:=⟨Tryz.f162.name,by decide,Tryz.func162.trans (P0 some (by kernel_rfl))⟩
 f22:=⟨Tryz.f163.name,by decide,Tryz.func163.trans (P0 some (by kernel_rfl))⟩
 f23:=⟨Tryz.f164.name,by decide,Tryz.func164.trans (P0 some (by kernel_rfl))⟩
 f24:=⟨Tryz.f165.name,by decide,Tryz.func165.trans (P0 some (by kernel_rfl))⟩
 f25:=⟨Tryz.f166.name,by decide,Tryz.func166.trans (P0 some (by kernel_rfl))⟩
 f26:=⟨Tryz.f167.name,by decide,Tryz.func167.trans (P0 some (by kernel_rfl))⟩
 f27:=⟨Tryz.f168.name,by decide,Tryz.func168.trans (P0 some (by kernel_rfl))⟩
 f28:=Tryz.func169.trans (P0 some (by kernel_rfl))
 f29:=Tryz.func170.trans (P0 some (by kernel_rfl))
 f46:=⟨Tryz.f204.name,by decide,Tryz.func204.trans (P0 some (by kernel_rfl))⟩
 f47:=Tryz.func205.trans (P0 some (by kernel_rfl))
 f48:=Tryz.func206.trans (P0 some (by kernel_rfl))
 f49:=⟨Tryz.f207.name,by decide,Tryz.func207.trans (P0 some (by kernel_rfl))⟩
 f50:=⟨Tryz.f208.name,by decide,Tryz.func208.trans (P0 some (by kernel_rfl))⟩
 f57:=⟨Tryz.f240.name,by decide,Tryz.func240.trans (P0 some (by kernel_rfl))⟩
 t0:=Tryz.underlying0
 a0:=Tryz.isAgg0
 z0:=Tryz.sizeOf0
 v0:=Tryz.zeroValue0
 t3:=Tryz.underlying3
 a3:=Tryz.isAgg3
 z3:=Tryz.sizeOf3
 v3:=Tryz.zeroValue3
 t4:=Tryz.underlying4
 a4:=Tryz.isAgg4
 z4:=Tryz.sizeOf4
 v4:=Tryz.zeroValue4
 t5:=Tryz.underlying5
 a5:=Tryz.isAgg5
 z5:=Tryz.sizeOf5
 v5:=Tryz.zeroValue5
 t9:=Tryz.underlying9
 a9:=Tryz.isAgg9
 z9:=Tryz.sizeOf9
 v9:=Tryz.zeroValue9
 t22:=Tryz.underlying33
 a22:=Tryz.isAgg33
 z22:=Tryz.sizeOf33
 v22:=Tryz.zeroValue33
 t25:=Tryz.underlying105
 a25:=Tryz.isAgg105
 z25:=Tryz.sizeOf105
 v25:=Tryz.zeroValue105
 t39:=Tryz.underlying164
 a39:=Tryz.isAgg164
 z39:=Tryz.sizeOf164
 v39:=Tryz.zeroValue164
 t45:=Tryz.underlying191
 a45:=Tryz.isAgg191
 z45:=Tryz.sizeOf191
 v45:=Tryz.zeroValue191
 t46:=Tryz.underlying192
 a46:=Tryz.isAgg192
 z46:=Tryz.sizeOf192
 v46:=Tryz.zeroValue192
 t50:=Tryz.underlying153
 a50:=Tryz.isAgg153
 z50:=Tryz.sizeOf153
 v50:=Tryz.zeroValue153
 t53:=Tryz.underlying198
 a53:=Tryz.isAgg198
 z53:=Tryz.sizeOf198
 v53:=Tryz.zeroValue198
 t55:=Tryz.underlying200
 a55:=Tryz.isAgg200
 z55:=Tryz.sizeOf200
 v55:=Tryz.zeroValue200
 t66:=Tryz.underlying215
 a66:=Tryz.isAgg215
 z66:=Tryz.sizeOf215
 v66:=Tryz.zeroValue215
 t70:=Tryz.underlying219
 a70:=Tryz.isAgg219
 z70:=Tryz.sizeOf219
 v70:=Tryz.zeroValue219
 t76:=Tryz.underlying240
 a76:=Tryz.isAgg240
 z76:=Tryz.sizeOf240
 v76:=Tryz.zeroValue240
 t77:=Tryz.underlying241
 a77:=Tryz.isAgg241
 z77:=Tryz.sizeOf241
 v77:=Tryz.zeroValue241}
end Go.Proofs
namespace Go.Av
open Go Go.Proofs Go.RowKit Go.Sort Go.Shelf
attribute [local irreducible] WP WPl WPix Sat
structure Ro where
 t:It
 v:Value
 one:v.oneCell'=true
instance:Inhabited Ro:=⟨⟨It.z,.bool false,rfl⟩⟩
def Ro.enc(x:Ro):List Value:=[.int .i64 x.t.id,.int .i64 x.t.feed,.int .i64 x.t.date,.string ⟨x.t.guid.toArray⟩,.string ⟨x.t.title.toArray⟩,.string ⟨x.t.link.toArray⟩,.bool x.t.read,.bool x.t.star,x.v]
def Ro.cf(x y:Ro):Int:=if cmpW y.t.date x.t.date=0 then cmpW x.t.id y.t.id else cmpW y.t.date x.t.date
theorem Ro.lt(x y:Ro):ltOf Ro.cf x y=ahd x.t.ky y.t.ky:=by
 unfold ltOf Ro.cf cmpW;rw[P5,eC,M1];show _↔y.t.date<x.t.date∨x.t.date=y.t.date∧x.t.id<y.t.id;split<;>split<;>(try split)<;>omega
theorem Ro.swo:SWO (ltOf Ro.cf) where
 irrefl x:=by rw[Ro.lt];exact p4 _
 trans x y z h1 h2:=by rw[Ro.lt]at *;exact i5 h1 h2
 ntrans x y z h1 h2:=by rw[Ro.lt]at *;rw[iu]at *;omega
theorem Ro.lays(blk off size:Nat)(w:World):CmpLays Tryz.prog 53 #[] Ro.enc 9 Ro.cf blk off size w:=fun _ _ _ _ x y=>xk x.t.id x.t.date y.t.id y.t.date x.t.feed y.t.feed _ _ _ _ _ _ x.t.read x.t.star y.t.read y.t.star x.v y.v _
def mkRo(t:It)(v:Value):Ro:=if h:v.oneCell'=true then⟨t,v,h⟩else⟨t,.bool false,rfl⟩
theorem ny(t:It)(v:Value):(mkRo t v).t=t:=by unfold mkRo;split<;>rfl
theorem ul{t:It}{v:Value}(h:v.oneCell'=true):(mkRo t v).v=v:=by unfold mkRo;rw[dif_pos h]
theorem nz{α:Type}{l:List α}{p:Nat}{x:α}(h:l[p]? =some x):l.set p x=l:=by
 apply R8
 intro q;rw[Y6];split
 ·rename_i e;subst e;rw[M0 (f9.1 h).1,h]
 ·rfl
section
variable {C:Ctx} {B:Nat} {S:Addr→Prop} {μ:Map} {h:Heap} {w w':World}
theorem wU(f:Fits C B S μ h w){p:Nat}{m:MB}(hm:μ[p]? =some m)(o:Only w w' m.blk){e n g:Nat}{rows:List AVal}{Z:Array Value}(hb:m.blk=some g)(hs:m.size=n)
  (hn:0<n)(hh:w'.heap[g]? =some (.cells Z e (0,0)))(hz:Z.size=m.cap*n)(hl:0<m.cap∧rows.length≤m.cap)(hx:m.cap≤maxLen)(fl:Flat w S μ n rows (Z.toList.take (rows.length*n))):
  Step B S μ w S μ w'∧Fits C B S μ (h.set p (.row e n m.ver rows)) w':=by
 have st0:=bG f hm o (MapLe.refl μ);have hset:μ.set p m=μ:=nz hm;have hrf:BlkFits w' S (μ.set p m) m (.row e n m.ver rows):=by
  rw[hset];exact cw hn rfl hs hb hh hz hl hx (fl.mono st0) rfl
 have:=f.update (m':=m) hm o (M4 _) (fun _=>rfl) (.inl rfl) hrf;rw[hset]at this;exact⟨this.2,this.1⟩
theorem Flat.it{L:List It}{xs:List Value}(fl:Flat w S μ 9 (L.map It.av) xs){i:Nat}{t:It}(hi:L[i]? =some t):
  ∃v,v.oneCell'=true∧Rep w S μ (.sl 1 (t.tags.map .str)) v∧xs[i*9+8]? =some v∧∀j,j<9→xs[i*9+j]? =(Ro.enc (mkRo t v))[j]? :=by
 have hr:(L.map It.av)[i]? =some t.av:=by rw[N8,hi];rfl
 obtain⟨v,hv,rv⟩:=fl.rep i _ 8 _ hr rfl;have h1:v.oneCell'=true:=rv.oneCell (fl.sto i _ 8 _ hr rfl);refine⟨v,h1,rv,hv,fun j hj=>?_⟩;unfold Ro.enc;rw[ny,ul h1]
 match j,hj with
 |0,_=>obtain⟨x,hx,rx⟩:=fl.rep i _ 0 _ hr rfl;rw[hx,rx.int_inv];rfl
 |1,_=>obtain⟨x,hx,rx⟩:=fl.rep i _ 1 _ hr rfl;rw[hx,rx.int_inv];rfl
 |2,_=>obtain⟨x,hx,rx⟩:=fl.rep i _ 2 _ hr rfl;rw[hx,rx.int_inv];rfl
 |3,_=>obtain⟨x,hx,rx⟩:=fl.rep i _ 3 _ hr rfl;rw[hx,rx.str_inv];rfl
 |4,_=>obtain⟨x,hx,rx⟩:=fl.rep i _ 4 _ hr rfl;rw[hx,rx.str_inv];rfl
 |5,_=>obtain⟨x,hx,rx⟩:=fl.rep i _ 5 _ hr rfl;rw[hx,rx.str_inv];rfl
 |6,_=>obtain⟨x,hx,rx⟩:=fl.rep i _ 6 _ hr rfl;rw[hx,rx.bool_inv];rfl
 |7,_=>obtain⟨x,hx,rx⟩:=fl.rep i _ 7 _ hr rfl;rw[hx,rx.bool_inv];rfl
 |8,_=>rw[hv];rfl
 |j+9,h=>omega
theorem Flat.ofRo{D:List Ro}{xs:List Value}(hx:xs.length=D.length*9)(hr:∀x∈D,Rep w S μ (.sl 1 (x.t.tags.map .str)) x.v)(hc:∀(i:Nat) (x:Ro) (j:Nat),D[i]? =some x→j<9→xs[i*9+j]? =x.enc[j]?):
  Flat w S μ 9 ((D.map (·.t)).map It.av) xs:=by
 have hg:∀{i:Nat} {r:AVal},((D.map (·.t)).map It.av)[i]? =some r→∃x,D[i]? =some x∧r=x.t.av:=fun {i r} hi=>by
  rw[W5,N8]at hi;obtain⟨x,h1,h2⟩:=N2.1 hi;exact⟨x,h1,h2.symm⟩
 refine⟨by simpa using hx,fun i r hi=>?_,fun i r j c hi hj=>?_,fun i r j c hi hj=>?_⟩
 ·obtain⟨x,_,rfl⟩:=hg hi;rfl
 ·obtain⟨x,_,rfl⟩:=hg hi;exact x.t.cells_sto c (M7 hj)
 ·obtain⟨x,hx1,rfl⟩:=hg hi;have hj9:j<9:=(f9.1 hj).1;rw[hc i x j hx1 hj9];have hm:=hr x (M7 hx1)
  match j,hj9 with
  |0,_=>cases hj;exact⟨_,rfl,.int _ _⟩
  |1,_=>cases hj;exact⟨_,rfl,.int _ _⟩
  |2,_=>cases hj;exact⟨_,rfl,.int _ _⟩
  |3,_=>cases hj;exact⟨_,rfl,.str _⟩
  |4,_=>cases hj;exact⟨_,rfl,.str _⟩
  |5,_=>cases hj;exact⟨_,rfl,.str _⟩
  |6,_=>cases hj;exact⟨_,rfl,.bool _⟩
  |7,_=>cases hj;exact⟨_,rfl,.bool _⟩
  |8,_=>cases hj;exact⟨_,rfl,hm⟩
  |j+9,h=>omega
end
theorem nB{d:Array Ro}{i j:Nat}{x:Ro}(hi:d[i]? =some x)(hj:j<9):(flatK Ro.enc 9 d)[i*9+j]? =x.enc[j]? :=by
 obtain⟨hlt,hx⟩:=O0.1 hi;have ht:i*9+j<d.size*9:=by omega
 have hs:i*9+j<(flatK Ro.enc 9 d).size:=by rw[size_flatK];exact ht
 have:=get_flatK Ro.enc 9 d (i*9+j) ht;rw[getElem!_pos (flatK Ro.enc 9 d) (i*9+j) hs]at this;rw[O2 hs,this,show(i*9+j)/9=i by omega,show(i*9+j)%9=j by omega,getElem!_pos d i hlt,hx];have hl:j<x.enc.length:=hj;rw[getElem!_pos x.enc j hl,L9 hl]
theorem oL{F cur:Array Value}{t:Nat}(ht:t<F.size)(hc:F.size≤cur.size):(putCells id 0 F cur)[t]? =F[t]? :=by
 unfold putCells;rw[Array.getElem?_mapIdx,O2 (by omega),R4,M0 ⟨by omega,by omega⟩,O2 ht,Nat.sub_zero,getElem!_pos F t ht];rfl
variable (G:Nat→Option (List AVal))
theorem um(L:List It)(hl:L.length≤100000)(h:Heap)(p v:Nat)(hp:getRow h p v=some (49,9,L.map It.av)):
  Sat (CT G) 69 [.hs p v 0 L.length true,.fn (.func 53) [] []] h
   (fun r h'=>r=.tup []∧∃L':List It,L'.Perm L∧L'.Pairwise (fun a b=>ahd b.ky a.ky=false)∧h'=h.set p (.row 49 9 v (L'.map It.av))):=by
 unfold Sat;intro B S μ w us fit rl;obtain⟨hul,hur⟩:=rl
 match us,hul,hur with
 | [u0,u1],_,hur=>
  have r0:Rep w S μ (.hs p v 0 L.length true) u0:=hur 0 _ rfl;have r1:Rep w S μ (.fn (.func 53) [] []) u1:=hur 1 _ rfl;obtain rfl:u1=.func (.func 53) #[] #[]:=by
   cases r1 with
   |fn _ _ _ xv cv h1 h2 h3 h4=>
    match xv,cv,h1,h2 with
    | [],[],_,_=>rfl
  obtain⟨m,hm,hf⟩:=fit.row hp;have hver:=hf.hver;have hsz9:=hf.hsize;have rT:∀w':World,Rep w' S μ (.tup []) (.tuple #[]):=fun w'=>by simpa using Rep.tup (w:=w') (S:=S) (μ:=μ) [] [] rfl (fun i c hi=>by simp at hi)
  change OpOk Tryz.prog _ ((callFunc 69 #[_,_]).run Tryz.prog w)
  rw[ce (f:=69) Tryz.func69 rfl rfl];rcases r0.hs_now hm hver with⟨_,_,hl0,rfl⟩| ⟨b,hb,hcap,rfl⟩
  ·have hnil:L=[]:=S8.1 hl0;subst hnil;have hcon:=AnyF.slices_SortFunc_none Tryz.sortIt none 0 (.func (.func 53) #[] #[]) w
   change Calls Tryz.prog 69 _ _ _ at hcon
   refine hcon.mono fun e w' ⟨he,hw⟩=>⟨_,he,?_⟩
   subst hw;exact⟨.tup [],h,S,μ,⟨rfl,[],.refl _,.nil,(nz (bX hp)).symm⟩,Step.refl _ _ _ _,fit,rT _⟩
  ·obtain⟨cur,hheap,hcs,hle,hmax,fl⟩:=hf.flat hb;have hlm:(L.map It.av).length=L.length:=L8 ..;rw[hlm]at fl hle;obtain⟨D,hD⟩:∃D:List Ro,D=L.mapIdx fun i t=>mkRo t ((cur.toList.take (L.length*9)).getD (i*9+8) undef):=⟨_,rfl⟩
   have hDl:D.length=L.length:=(by rw[hD];simp);have hDt:D.map (·.t)=L:=by
    rw[hD]
    apply R8
    intro i;rw[N8,List.getElem?_mapIdx];cases L[i]? with
    |none=>rfl
    |some t=>simp[ny]
   have hDi:∀i x,D[i]? =some x→Rep w S μ (.sl 1 (x.t.tags.map .str)) x.v∧∀j,j<9→cur[i*9+j]? =x.enc[j]? :=fun i x hi=>by
    rw[hD,List.getElem?_mapIdx]at hi;obtain⟨t,ht,rfl⟩:=N2.1 hi;obtain⟨u,h1,h2,h3,h4⟩:=fl.it ht;have hlt:=(f9.1 ht).1;rw[U1,h3,Q3];refine⟨by rw[ny,ul h1];exact h2,fun j hj=>?_⟩;rw[← h4 j hj,N4 (by omega)];simp
   have hDs:D.toArray.size=L.length:=(by simp[hDl]);have hc9:L.length*9≤cur.size:=(by rw[hcs];exact S7 _ hle.2);have hH:HoldsK Ro.enc 9 w b 0 D.toArray:=fun t ht=>by
    rw[size_flatK,hDs]at ht;have hi:t/9<D.length:=(by omega);have hx:D[t/9]? =some D[t/9]:=L9 hi;obtain⟨_,h2⟩:=hDi _ _ hx;have h3:=h2 (t%9) (by omega);rw[show t/9*9+t%9=t by omega]at h3;have h4:=nB (d:=D.toArray) (i:=t/9) (j:=t%9) (x:=D[t/9]) (by simp[hx]) (by omega);rw[show t/9*9+t%9=t by omega]at h4;have hs:t<(flatK Ro.enc 9 D.toArray).size:=(by rw[size_flatK,hDs];exact ht);refine⟨?_,by simp[World.frozen?,hheap]⟩;rw[getElem!_pos (flatK Ro.enc 9 D.toArray) t hs];show w.cell? ⟨b,0+t,none⟩=some _;rw[R1];have:w.cell? ⟨b,t,none⟩=cur[t]? :=by simp[World.cell?,hheap]
    rw[this,h3, ← h4,O2 hs];rfl
   have hbw:b<w.heap.size:=(O0.1 hheap).1;have hcon:=AnyQ.slices_SortFunc Tryz.sortIt 9 Tryz.isAgg49 Tryz.sizeOf49 Ro.enc (fun _=>rfl) (fun x v hv=>by
    unfold Ro.enc at hv;simp only[M6,P7,or_false]at hv;rcases hv with rfl|rfl|rfl|rfl|rfl|rfl|rfl|rfl|rfl<;>first|rfl|exact x.one) Ro.cf Ro.swo 53 #[] b 0 m.cap D.toArray w (enters_of Tryz.func53 (by kernel_rfl) rfl) (Ro.lays b 0 _ w) hH hbw (by rw[hDs];omega)
   change Calls Tryz.prog 69 _ _ _ at hcon
   rw[hDs]at hcon;simp only[if_true,Nat.sub_zero,zb4];refine hcon.mono fun e w' ⟨he,d',n,os,hpm,hst,hw⟩=>⟨_,he,?_⟩
   have hds:d'.size=L.length:=(by rw[hpm.1,hDs]);have hperm:d'.toList.Perm D:=by
    have:=hpm.2.2;have e1:d'.extract 0 L.length=d':=(by rw[← hds];simp);have e2:D.toArray.extract 0 L.length=D.toArray:=(by rw[← hDs];simp);rw[e1,e2]at this;simpa using this
   have hwh:w'.heap[b]? =some (.cells (putCells id 0 (flatK Ro.enc 9 d') cur) 49 (0,0)):=by
    rw[hw];unfold sortWorldK grow putRowK putRow mapBlock;rw[W0 (by simp[ahead];exact hbw)];simp[Array.getElem?_modify,ahead,hheap,onCells]
   have hon:Only w w' (some b):=by
    rw[hw];unfold sortWorldK grow putRowK putRow mapBlock;refine⟨rfl,rfl,rfl,by simp[ahead],fun k hk hq=>?_⟩;have hkb:b≠k:=fun e=>hq (by rw[e])
    rw[W0 (by simp[ahead];exact hk)];simp[Array.getElem?_modify,ahead,hkb]
   have hL'l:(d'.toList.map (·.t)).length=L.length:=(by simp[hds]);have hZs:(putCells id 0 (flatK Ro.enc 9 d') cur).size=cur.size:=(by unfold putCells;simp);have hFs:(flatK Ro.enc 9 d').size=L.length*9:=(by rw[size_flatK,hds]);have hzl:(putCells id 0 (flatK Ro.enc 9 d') cur).toList.length=cur.size:=(by rw[V5,hZs]);have hdl:d'.toList.length=L.length:=(by rw[V5,hds]);obtain⟨st,f'⟩:=wU (rows:=(d'.toList.map (·.t)).map It.av) fit hm (by rw[hb];exact hon) (e:=49) (n:=9) hb hsz9 (by decide) hwh (by rw[hZs];exact hcs) ⟨hle.1,by rw[L8,hL'l];exact hle.2⟩ hmax (by
    rw[L8,hL'l];refine Flat.ofRo (by rw[O6,hzl,hdl];omega) (fun x hx=>?_) (fun i x j hi hj=>?_)
    ·obtain⟨i,hi⟩:=Q5 (hperm.mem_iff.1 hx);exact(hDi i x hi).1
    ·have hlt:=(f9.1 hi).1;rw[V5,hds]at hlt;have hlt2:i*9+j<L.length*9:=(by omega);rw[N4 hlt2,Array.getElem?_toList,oL (by rw[hFs];exact hlt2) (by rw[hFs];exact hc9)];exact nB (by simpa using hi) hj)
   rw[hver]at f';refine⟨.tup [],_,S,μ,⟨rfl,d'.toList.map (·.t),?_,?_,rfl⟩,st,f',rT _⟩
   ·have:=hperm.map (·.t)
    rwa [hDt]at this
   ·rw[zb0,List.pairwise_iff_getElem];intro i j hi hj hij;have h1:=hst i j (X1 _) hij (by rw[V5,hds]at hj;exact hj);rw[V5]at hi hj;rw[getElem!_pos d' i hi,getElem!_pos d' j hj,Ro.lt]at h1;simpa using h1
end Go.Av
