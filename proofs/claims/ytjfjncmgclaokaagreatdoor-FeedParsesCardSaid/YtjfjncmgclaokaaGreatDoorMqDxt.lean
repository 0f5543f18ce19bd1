/- Parts. -/
import Derived.Test.YtjfjncmgclaokaaGreatDoorMqDxd
set_option linter.unusedSimpArgs false
set_option linter.unusedVariables false
set_option linter.unusedSectionVars false
set_option linter.unnecessarySimpa false
set_option maxRecDepth 100000
set_option maxHeartbeats 16000000
namespace Go.Av
open Go Go.Proofs Go.RowKit
section
attribute [local irreducible] WP WPl WPix Sat
def doc12:Bs:=[60,114,115,115,62,60,99,104,97,110,110,101,108,62,60,105,116,101,109,62,60,103,117,105,100,62,97,60,47,103,117,105,100,62,60,116,105,116,108,101,62,49,60,47,116,105,116,108,101,62,60,47,105,116,101,109,62,60,105,116,101,109,62,60,103,117,105,100,62,97,60,47,103,117,105,100,62,60,47,105,116,101,109,62,60,47,99,104,97,110,110,101,108,62,60,47,114,115,115,62]
def atom12:Bs:=[60,102,101,101,100,62,60,101,110,116,114,121,62,60,105,100,62,98,60,47,105,100,62,60,47,101,110,116,114,121,62,60,47,102,101,101,100,62]
def wri12:Bs:=[60,114,115,115,62,60,99,104,97,110,110,101,108,62,60,116,105,116,108,101]++([62,60,47,116,105,116,108,101,62,60,108,105,110,107,62,60,47,108,105,110]++([107,62,60,105,116,101,109,62,60,103,117,105,100,62,97,60,47,103,117,105]++([100,62,60,116,105,116,108,101,62,49,60,47,116,105,116,108,101,62,60,108]++([105,110,107,62,60,47,108,105,110,107,62,60,47,105,116,101,109,62,60,47]++([99,104,97,110,110,101,108,62,60,47,114,115,115,62])))))
def eA12:AVal:=.agg [.str [97],.str [49],.str [],.int .i64 0,.bool false]
def eB12:AVal:=.agg [.str [98],.str [],.str [],.int .i64 0,.bool false]
def eZ12:AVal:=.agg [.str [],.str [],.str [],.int .i64 0,.bool false]
def z12:AVal:=.agg [.str [],.str [],.nil (.slice none 0 0)]
def enX:AVal→Option En
 | .agg [.str g,.str t,.str l,.int .i64 n,.bool b]=>some ⟨g,t,l,n,b⟩
 |_=>none
theorem xJ{x:AVal}{e:En}(h:enX x=some e):x=e.av:=by
 unfold enX at h;split at h
 ·cases h;rfl
 ·cases h
def enL:List AVal→Option (List En)
 | []=>some []
 |x::l=>match enX x,enL l with
  |some a,some b=>some (a::b)
  |_,_=>none
theorem tz:∀{es:List AVal} {l:List En},enL es=some l→es=l.map En.av
 | [],l,h=>by cases h;rfl
 |x::es,l,h=>by
  unfold enL at h;split at h
  ·rename_i a b ha hb;cases h;rw[K4, ← xJ ha, ← tz hb]
  ·cases h
def orcO(f:FuncId)(args:List AVal):Option AVal:=match args with
 | [.sl 5 es]=>if f=35 then(match enL es with
  |some l=>if l.length≤1000 then some (.sl 5 ((onceF l).map En.av))else none
  |none=>none)else orcX f args
 |_=>orcX f args
theorem wA{G:Nat→Option (List AVal)}(hG:GOk G):OrcOk (CT G) orcO:=by
 intro f args r g h;unfold orcO at g;split at g
 ·rename_i es;split at g
  ·rename_i e;subst e;split at g
   ·rename_i l hl;split at g
    ·rename_i hn;cases g;rw[tz hl];exact dV G l (by omega) h
    ·cases g
   ·cases g
  ·exact kE hG f _ _ g h
 ·exact kE hG f _ _ g h
theorem Sat.closedD{C:Ctx}(hG:GClo C){orc:FuncId→List AVal→Option AVal}(horc:OrcOk C orc)(lf n:Nat){f:FuncId}{args:List AVal}{v:AVal}(ha:args.all (cloA 0)=true)(hv:cloA 0 v=true)
  (hrun:isV v (callX C orc lf n f args [])=true)(h:Heap):Sat C f args h fun r2 h2=>r2=v∧h2=h:=by
 unfold isV at hrun;split at hrun
 ·rename_i r h1 e;split at hrun
  ·rename_i y hy;have ey:=cG _ _ hrun;subst ey;have s:=(gb horc lf n f args [] r h1 e).letgo (v:=y) (by simp) (iv _ _ _ _ _ hy);refine(s.frame hG (fun x hx=>cj 0 _ (I1.1 ha x hx)) (fun r h' ⟨e1,e2⟩=>⟨by rw[e1];exact cj 0 _ hv,e2⟩) h).mono fun r2 h2 ⟨⟨e1,_⟩,e2⟩=>⟨e1,e2⟩
  ·cases hrun
 ·cases hrun
theorem Wk.tupD{xs ys:List AVal}(hl:xs.length=ys.length)(hw:∀(i:Nat) (x y:AVal),xs[i]? =some x→ys[i]? =some y→Wk x y):Wk (.tup xs) (.tup ys):=fun w S μ v r=>by
 cases r with
 |tup _ vs hvl hr=>
  refine .tup ys vs (by omega) (fun i d hd=>?_);have hlt:=(F1.1 hd).1;have hc:=G1 (show i<xs.length by omega);exact hw i _ d hc hd w S μ _ (hr i _ hc)
def wkL(f:AVal→AVal→Bool):List AVal→List AVal→Bool
 | [],[]=>true
 |x::xs,y::ys=>f x y&&wkL f xs ys
 |_,_=>false
def wkB:Nat→AVal→AVal→Bool
 |0,x,y=>beqA x y
 |f+1,x,y=>beqA x y||match x,y with
  | .nil (.slice none 0 0),.sl _ []=>true
  | .agg xs,.agg ys=>wkL (wkB f) xs ys&&ys.all AVal.sto
  | .tup xs,.tup ys=>wkL (wkB f) xs ys
  | .sl n xs,.sl m ys=>(n==m)&&wkL (fun r s=>wkL (wkB f) r.cells s.cells&&s.cells.all AVal.sto) xs ys
  |_,_=>false
theorem ip{f:AVal→AVal→Bool}{R:AVal→AVal→Prop}(hf:∀x y,f x y=true→R x y):∀{xs ys:List AVal},wkL f xs ys=true→xs.length=ys.length∧∀(i:Nat) (x y:AVal),xs[i]? =some x→ys[i]? =some y→R x y
 | [],[],_=>⟨rfl,fun i x y hx=>by simp at hx⟩
 |x::xs,y::ys,h=>by
  unfold wkL at h;rw[G2]at h;obtain⟨h1,h2⟩:=ip hf h.2;refine⟨by simp[h1],fun i a b ha hb=>?_⟩;cases i with
  |zero=>cases ha;cases hb;exact hf _ _ h.1
  |succ i=>exact h2 i a b ha hb
 | [],_::_,h=>by cases h
 |_::_,[],h=>by cases h
theorem xK:∀(f:Nat) (x y:AVal),wkB f x y=true→Wk x y:=by
 intro f;induction f with
 |zero=>intro x y h;rw[cG _ _ h];exact Wk.refl _
 |succ f ih=>
  intro x y h;unfold wkB at h;rw[L3]at h;rcases h with h|h
  ·rw[cG _ _ h];exact Wk.refl _
  ·split at h
   ·exact Wk.nils _
   ·rw[G2,I1]at h;obtain⟨h1,h2⟩:=ip ih h.1;exact Wk.agg h1 h.2 h2
   ·obtain⟨h1,h2⟩:=ip ih h;exact Wk.tupD h1 h2
   ·rw[G2,beq_iff_eq]at h;obtain⟨rfl,h⟩:=h;obtain⟨h1,h2⟩:=ip (R:=fun r s=>WkR r s) (fun r s hh=>by
     rw[G2,I1]at hh;obtain⟨k1,k2⟩:=ip ih hh.1;exact⟨k1,fun j c d hc hd=>⟨k2 j c d hc hd,fun _=>hh.2 d (G4 hd)⟩⟩) h
    exact Wk.slD h1 h2
   ·cases h
def isW(v:AVal):Option (AVal×Heap)→Bool
 |some (r,h1)=>match frzX h1 0 20 r with
  |some y=>wkB 20 y v&&cloA 0 y
  |none=>false
 |none=>false
theorem Sat.wkD{C:Ctx}{f:FuncId}{args:List AVal}{h h0:Heap}{a b:AVal}(hw:Wk a b)(s:Sat C f args h (fun r h'=>r=a∧h'=h0)):Sat C f args h (fun r h'=>r=b∧h'=h0):=by
 unfold Sat at*;intro B S μ w vs x y;refine(s B S μ w vs x y).mono fun v w' hp=>?_
 obtain⟨r,h',S',μ',⟨rfl,hh⟩,st,f',rp⟩:=hp;exact⟨b,h',S',μ',⟨rfl,hh⟩,st,f',hw _ _ _ _ rp⟩
theorem Sat.closedW{C:Ctx}(hG:GClo C){orc:FuncId→List AVal→Option AVal}(horc:OrcOk C orc)(lf n:Nat){f:FuncId}{args:List AVal}{v:AVal}(ha:args.all (cloA 0)=true)
  (hrun:isW v (callX C orc lf n f args [])=true)(h:Heap):Sat C f args h fun r2 h2=>r2=v∧h2=h:=by
 unfold isW at hrun;split at hrun
 ·rename_i r h1 e;split at hrun
  ·rename_i y hy;rw[G2]at hrun;refine Sat.wkD (xK _ _ _ hrun.1) ?_;have s:=(gb horc lf n f args [] r h1 e).letgo (v:=y) (by simp) (iv _ _ _ _ _ hy);refine(s.frame hG (fun x hx=>cj 0 _ (I1.1 ha x hx)) (fun r h' ⟨e1,e2⟩=>⟨by rw[e1];exact cj 0 _ hrun.2,e2⟩) h).mono fun r2 h2 ⟨⟨e1,_⟩,e2⟩=>⟨e1,e2⟩
  ·cases hrun
 ·cases hrun
section
variable (G:Nat→Option (List AVal))
def e12:Elem:=⟨[114,115,115],[],[],[⟨[99,104,97,110,110,101,108],[],[],[⟨[105,116,101,109],[],[],[⟨[103,117,105,100],[],[97],[]⟩,⟨[116,105,116,108,101],[],[49],[]⟩]⟩,⟨[105,116,101,109],[],[],[⟨[103,117,105,100],[],[97],[]⟩]⟩]⟩]⟩
theorem CA:ofE e12=some ⟨[],[],[⟨[97],[49],[],0,false⟩]⟩:=by kernel_rfl
theorem xL:isW (.tup [e12.av,.int .i64 0]) (callX (CT G) orcX 1000 100 36 [.str doc12] [])=true:=by kernel_rfl
theorem vu(hG:GOk G)(hc:GClo (CT G))(h:Heap):Sat (CT G) 9 [.str doc12] h (fun r h'=>r=.tup [.agg [.str [],.str [],.sl 5 [eA12]],.int .i64 0]∧h'=h):=by
 have hT:=Sat.closedW hc (kE hG) 1000 100 (f:=36) (args:=[.str doc12]) rfl (xL G);have hO:=nA G hG e12 (U2 (by kernel_rfl));rw[CA]at hO;have hO:∀h,Sat (CT G) 33 [e12.av] h (fun r h'=>r=.tup [.agg [.str [],.str [],.sl 5 [eA12]],.int .i64 0]∧h'=h):=hO;rw[Elem.av_eq]at hT hO;have F:= @al;refine sb [.cell 2 25,.tmp 3] Tryz.func9 ?_;intro Q hQ;refine wk F ?_;refine kq F (hT _) ?_;refine kq F (hO _) ?_;refine ye hQ F ?_;exact H3 (cj _ _ rfl) ⟨rfl,rfl⟩
theorem xM:isV (.tup [z12,.int .i64 120]) (callX (CT G) orcO 1000 100 9 [.str [60,104,116,109,108,47,62]] [])=true:=by kernel_rfl
theorem xN:isV (.tup [z12,.int .i64 90]) (callX (CT G) orcO 1000 100 9 [.str [60,104,116,109,108,62]] [])=true:=by kernel_rfl
theorem xO:isV (.tup [z12,.int .i64 80]) (callX (CT G) orcO 1000 100 9 [.str [60]] [])=true:=by kernel_rfl
theorem xP:isV (.tup [.agg [.str [],.str [],.sl 5 [eB12]],.int .i64 0]) (callX (CT G) orcO 1000 100 9 [.str atom12] [])=true:=by kernel_rfl
theorem xQ:isV (.tup [.str wri12,.int .i64 0]) (callX (CT G) orcO 1000 100 32 [.agg [.str [],.str [],.sl 5 [eA12]]] [])=true:=by kernel_rfl
theorem xR:isV (.tup [z12,.int .i64 120]) (callX (CT G) orcO 1000 100 33 [.agg [.str [],.nil (.slice none 0 0),.str [],.nil (.slice none 0 0)]] [])=true:=by kernel_rfl
theorem xS:isV (.int .i64 120) (callX (CT G) orcO 1000 100 12 [.agg [.str [],.str [],.sl 5 [eZ12]]] [])=true:=by kernel_rfl
theorem oD(hG:GOk G)(hc:GClo (CT G))(h:Heap):Sat (CT G) 8 [] h (fun r h'=>r=.bool true∧h'=h):=by
 have cl:=fun {f:FuncId} {args:List AVal} {v:AVal} (ha:args.all (cloA 0)=true) (hv:cloA 0 v=true)=>Sat.closedD hc (wA hG) 1000 100 (f:=f) (v:=v) ha hv
 have h1:=vu G hG hc;have h2:=cl rfl rfl (xM G);have h3:=cl rfl rfl (xN G);have h4:=cl rfl rfl (xO G);have h5:=cl rfl rfl (xP G);have h6:=cl rfl rfl (xQ G);have h7:=cl rfl rfl (xR G);have h8:=cl rfl rfl (xS G);have ap:∀a b:Bs,List.append a b=a++b:=fun _ _=>rfl
 have qe:∀a:Bs,(a==a)=true:=fun a=>by simp
 unfold eA12 at h1 h6;unfold wri12 at h6;unfold eB12 at h5;unfold eZ12 at h8;unfold z12 at h2 h3 h4 h7;have hS:∀h,Sat (CT G) 34 [.sl 5 [eA12],.sl 5 [eA12]] h (fun r h'=>r=.bool true∧h'=h):=fun h=>by
  have:=jW G [⟨[97],[49],[],0,false⟩] [⟨[97],[49],[],0,false⟩] (by decide) (by decide) h;rw[G8 rfl]at this;exact this
 have hO:∀h,Sat (CT G) 35 [.sl 5 [eZ12,eZ12]] h (fun r h'=>r=.sl 5 [eZ12]∧h'=h):=fun h=>dV G [⟨[],[],[],0,false⟩,⟨[],[],[],0,false⟩] (by decide) h
 unfold eA12 at hS;unfold eZ12 at hO;have F:=F5 qe ap (F3 (@N5 Blk) (@N5 AVal) (@N5 UInt8)) (F3 (@L6 Blk) (@L6 AVal) (@L6 UInt8)) @al;refine sb [.tmp 0] Tryz.func8 ?_;intro Q hQ;refine wk F ?_;refine kq F (h1 _) ?_;refine kq F (h2 _) ?_;refine kq F (h3 _) ?_;refine kq F (h4 _) ?_;refine kq F (h5 _) ?_;refine kq F (h6 _) ?_;refine kq F (h7 _) ?_;refine kq F (hS _) ?_;refine kq F (h8 _) ?_;refine kq F (hO _) ?_;refine ee hQ F ?_;exact H3 (.bool _) ⟨rfl,rfl⟩
end
end
end Go.Av
