/- Parts. -/
import Derived.Test.YtljohklbgahomaaGreatDoorMrDj
set_option linter.unusedSimpArgs false
set_option linter.unusedVariables false
set_option linter.unusedSectionVars false
set_option linter.unnecessarySimpa false
set_option maxRecDepth 100000
set_option maxHeartbeats 16000000
namespace Go.Av
open Go Go.Proofs Go.RowKit
attribute [local irreducible] WP WPl WPix Sat
variable (G:Nat→Option (List AVal))
theorem rb(s:Bs)(h:Heap):Sat (CT G) 203 [.str s] h (fun r h'=>r=.bool (decide (s∈weekL))∧h'=h):=by
 have hm:∀x:Bs,((s==x)=true∧s=x)∨((s==x)=false∧s≠x):=fun x=>by
  by_cases e:s=x
  ·exact .inl ⟨by simp[e],e⟩
  ·exact .inr ⟨by simp[e],e⟩
 by_cases hw:s∈weekL
 ·rw[G4 hw];have:s=[77,111,110,44]∨s=[84,117,101,44]∨s=[87,101,100,44]∨s=[84,104,117,44]∨s=[70,114,105,44]∨s=[83,97,116,44]∨s=[83,117,110,44]:=by simpa [weekL]using hw
  rcases this with e|e|e|e|e|e|e
  ·have F0:s=[77,111,110,44]:=e;have a0:(s==([77,111,110,44]:Bs))=true:=(by rw[F0];rfl);have a1:(s==([84,117,101,44]:Bs))=false:=(by rw[F0];rfl);have a2:(s==([87,101,100,44]:Bs))=false:=(by rw[F0];rfl);have a3:(s==([84,104,117,44]:Bs))=false:=(by rw[F0];rfl);have a4:(s==([70,114,105,44]:Bs))=false:=(by rw[F0];rfl);have a5:(s==([83,97,116,44]:Bs))=false:=(by rw[F0];rfl);have a6:(s==([83,117,110,44]:Bs))=false:=(by rw[F0];rfl);have F:=F7 a0 a1 a2 a3 a4 a5 a6;refine sb [.tmp 2] Tryz.func203 ?_;intro Q hQ;refine wk F ?_;refine ee hQ F ?_;exact J9 (.bool _) ⟨rfl,rfl⟩
  ·have F0:s=[84,117,101,44]:=e;have a0:(s==([77,111,110,44]:Bs))=false:=(by rw[F0];rfl);have a1:(s==([84,117,101,44]:Bs))=true:=(by rw[F0];rfl);have a2:(s==([87,101,100,44]:Bs))=false:=(by rw[F0];rfl);have a3:(s==([84,104,117,44]:Bs))=false:=(by rw[F0];rfl);have a4:(s==([70,114,105,44]:Bs))=false:=(by rw[F0];rfl);have a5:(s==([83,97,116,44]:Bs))=false:=(by rw[F0];rfl);have a6:(s==([83,117,110,44]:Bs))=false:=(by rw[F0];rfl);have F:=F7 a0 a1 a2 a3 a4 a5 a6;refine sb [.tmp 2] Tryz.func203 ?_;intro Q hQ;refine wk F ?_;refine ee hQ F ?_;exact J9 (.bool _) ⟨rfl,rfl⟩
  ·have F0:s=[87,101,100,44]:=e;have a0:(s==([77,111,110,44]:Bs))=false:=(by rw[F0];rfl);have a1:(s==([84,117,101,44]:Bs))=false:=(by rw[F0];rfl);have a2:(s==([87,101,100,44]:Bs))=true:=(by rw[F0];rfl);have a3:(s==([84,104,117,44]:Bs))=false:=(by rw[F0];rfl);have a4:(s==([70,114,105,44]:Bs))=false:=(by rw[F0];rfl);have a5:(s==([83,97,116,44]:Bs))=false:=(by rw[F0];rfl);have a6:(s==([83,117,110,44]:Bs))=false:=(by rw[F0];rfl);have F:=F7 a0 a1 a2 a3 a4 a5 a6;refine sb [.tmp 2] Tryz.func203 ?_;intro Q hQ;refine wk F ?_;refine ee hQ F ?_;exact J9 (.bool _) ⟨rfl,rfl⟩
  ·have F0:s=[84,104,117,44]:=e;have a0:(s==([77,111,110,44]:Bs))=false:=(by rw[F0];rfl);have a1:(s==([84,117,101,44]:Bs))=false:=(by rw[F0];rfl);have a2:(s==([87,101,100,44]:Bs))=false:=(by rw[F0];rfl);have a3:(s==([84,104,117,44]:Bs))=true:=(by rw[F0];rfl);have a4:(s==([70,114,105,44]:Bs))=false:=(by rw[F0];rfl);have a5:(s==([83,97,116,44]:Bs))=false:=(by rw[F0];rfl);have a6:(s==([83,117,110,44]:Bs))=false:=(by rw[F0];rfl);have F:=F7 a0 a1 a2 a3 a4 a5 a6;refine sb [.tmp 2] Tryz.func203 ?_;intro Q hQ;refine wk F ?_;refine ee hQ F ?_;exact J9 (.bool _) ⟨rfl,rfl⟩
  ·have F0:s=[70,114,105,44]:=e;have a0:(s==([77,111,110,44]:Bs))=false:=(by rw[F0];rfl);have a1:(s==([84,117,101,44]:Bs))=false:=(by rw[F0];rfl);have a2:(s==([87,101,100,44]:Bs))=false:=(by rw[F0];rfl);have a3:(s==([84,104,117,44]:Bs))=false:=(by rw[F0];rfl);have a4:(s==([70,114,105,44]:Bs))=true:=(by rw[F0];rfl);have a5:(s==([83,97,116,44]:Bs))=false:=(by rw[F0];rfl);have a6:(s==([83,117,110,44]:Bs))=false:=(by rw[F0];rfl);have F:=F7 a0 a1 a2 a3 a4 a5 a6;refine sb [.tmp 2] Tryz.func203 ?_;intro Q hQ;refine wk F ?_;refine ee hQ F ?_;exact J9 (.bool _) ⟨rfl,rfl⟩
  ·have F0:s=[83,97,116,44]:=e;have a0:(s==([77,111,110,44]:Bs))=false:=(by rw[F0];rfl);have a1:(s==([84,117,101,44]:Bs))=false:=(by rw[F0];rfl);have a2:(s==([87,101,100,44]:Bs))=false:=(by rw[F0];rfl);have a3:(s==([84,104,117,44]:Bs))=false:=(by rw[F0];rfl);have a4:(s==([70,114,105,44]:Bs))=false:=(by rw[F0];rfl);have a5:(s==([83,97,116,44]:Bs))=true:=(by rw[F0];rfl);have a6:(s==([83,117,110,44]:Bs))=false:=(by rw[F0];rfl);have F:=F7 a0 a1 a2 a3 a4 a5 a6;refine sb [.tmp 2] Tryz.func203 ?_;intro Q hQ;refine wk F ?_;refine ee hQ F ?_;exact J9 (.bool _) ⟨rfl,rfl⟩
  ·have F0:s=[83,117,110,44]:=e;have a0:(s==([77,111,110,44]:Bs))=false:=(by rw[F0];rfl);have a1:(s==([84,117,101,44]:Bs))=false:=(by rw[F0];rfl);have a2:(s==([87,101,100,44]:Bs))=false:=(by rw[F0];rfl);have a3:(s==([84,104,117,44]:Bs))=false:=(by rw[F0];rfl);have a4:(s==([70,114,105,44]:Bs))=false:=(by rw[F0];rfl);have a5:(s==([83,97,116,44]:Bs))=false:=(by rw[F0];rfl);have a6:(s==([83,117,110,44]:Bs))=true:=(by rw[F0];rfl);have F:=F7 a0 a1 a2 a3 a4 a5 a6;refine sb [.tmp 2] Tryz.func203 ?_;intro Q hQ;refine wk F ?_;refine ee hQ F ?_;exact J9 (.bool _) ⟨rfl,rfl⟩
 ·rw[H2 hw];have:s≠ [77,111,110,44]∧s≠ [84,117,101,44]∧s≠ [87,101,100,44]∧s≠ [84,104,117,44]∧s≠ [70,114,105,44]∧s≠ [83,97,116,44]∧s≠ [83,117,110,44]:=by simpa [weekL]using hw
  obtain⟨a1,a2,a3,a4,a5,a6,a7⟩:=this;have f:∀{x:Bs},s≠x→(s==x)=false:=fun {x} e=>by simpa using e
  have a1:=f a1;have a2:=f a2;have a3:=f a3;have a4:=f a4;have a5:=f a5;have a6:=f a6;have a7:=f a7;have F:=F7 a1 a2 a3 a4 a5 a6 a7;refine sb [.tmp 2] Tryz.func203 ?_;intro Q hQ;refine wk F ?_;refine ee hQ F ?_;exact J9 (.bool _) ⟨rfl,rfl⟩
theorem pD(s:Bs)(h:Heap):Sat (CT G) 209 [.str s] h (fun r h'=>r=.tup [.int .i64 ((namF s).getD 0),.bool (namF s).isSome]∧h'=h):=by
 by_cases hw:s∈zonL
 ·have:s=[71,77,84]∨s=[85,84]∨s=[85,84,67]∨s=[90]∨s=[69,83,84]∨s=[69,68,84]∨s=[67,83,84]∨s=[67,68,84]∨s=[77,83,84]∨s=[77,68,84]∨s=[80,83,84]∨s=[80,68,84]:=by simpa [zonL]using hw
  rcases this with e|e|e|e|e|e|e|e|e|e|e|e
  ·have F0:s=[71,77,84]:=e;have a0:(s==([71,77,84]:Bs))=true:=(by rw[F0];rfl);have a1:(s==([85,84]:Bs))=false:=(by rw[F0];rfl);have a2:(s==([85,84,67]:Bs))=false:=(by rw[F0];rfl);have a3:(s==([90]:Bs))=false:=(by rw[F0];rfl);have a4:(s==([69,68,84]:Bs))=false:=(by rw[F0];rfl);have a5:(s==([69,83,84]:Bs))=false:=(by rw[F0];rfl);have a6:(s==([67,68,84]:Bs))=false:=(by rw[F0];rfl);have a7:(s==([67,83,84]:Bs))=false:=(by rw[F0];rfl);have a8:(s==([77,68,84]:Bs))=false:=(by rw[F0];rfl);have a9:(s==([77,83,84]:Bs))=false:=(by rw[F0];rfl);have a10:(s==([80,68,84]:Bs))=false:=(by rw[F0];rfl);have a11:(s==([80,83,84]:Bs))=false:=(by rw[F0];rfl);have F:=F2 (F9 a0 a1 a2 a3 a4 a5 a6 a7 a8) (F3 a9 a10 a11);refine sb [.tmp 2,.tmp 3] Tryz.func209 ?_;intro Q hQ;refine wk F ?_;refine ee hQ F ?_;exact J9 (bN _ _ _) ⟨by rw[F0];rfl,rfl⟩
  ·have F0:s=[85,84]:=e;have a0:(s==([71,77,84]:Bs))=false:=(by rw[F0];rfl);have a1:(s==([85,84]:Bs))=true:=(by rw[F0];rfl);have a2:(s==([85,84,67]:Bs))=false:=(by rw[F0];rfl);have a3:(s==([90]:Bs))=false:=(by rw[F0];rfl);have a4:(s==([69,68,84]:Bs))=false:=(by rw[F0];rfl);have a5:(s==([69,83,84]:Bs))=false:=(by rw[F0];rfl);have a6:(s==([67,68,84]:Bs))=false:=(by rw[F0];rfl);have a7:(s==([67,83,84]:Bs))=false:=(by rw[F0];rfl);have a8:(s==([77,68,84]:Bs))=false:=(by rw[F0];rfl);have a9:(s==([77,83,84]:Bs))=false:=(by rw[F0];rfl);have a10:(s==([80,68,84]:Bs))=false:=(by rw[F0];rfl);have a11:(s==([80,83,84]:Bs))=false:=(by rw[F0];rfl);have F:=F2 (F9 a0 a1 a2 a3 a4 a5 a6 a7 a8) (F3 a9 a10 a11);refine sb [.tmp 2,.tmp 3] Tryz.func209 ?_;intro Q hQ;refine wk F ?_;refine ee hQ F ?_;exact J9 (bN _ _ _) ⟨by rw[F0];rfl,rfl⟩
  ·have F0:s=[85,84,67]:=e;have a0:(s==([71,77,84]:Bs))=false:=(by rw[F0];rfl);have a1:(s==([85,84]:Bs))=false:=(by rw[F0];rfl);have a2:(s==([85,84,67]:Bs))=true:=(by rw[F0];rfl);have a3:(s==([90]:Bs))=false:=(by rw[F0];rfl);have a4:(s==([69,68,84]:Bs))=false:=(by rw[F0];rfl);have a5:(s==([69,83,84]:Bs))=false:=(by rw[F0];rfl);have a6:(s==([67,68,84]:Bs))=false:=(by rw[F0];rfl);have a7:(s==([67,83,84]:Bs))=false:=(by rw[F0];rfl);have a8:(s==([77,68,84]:Bs))=false:=(by rw[F0];rfl);have a9:(s==([77,83,84]:Bs))=false:=(by rw[F0];rfl);have a10:(s==([80,68,84]:Bs))=false:=(by rw[F0];rfl);have a11:(s==([80,83,84]:Bs))=false:=(by rw[F0];rfl);have F:=F2 (F9 a0 a1 a2 a3 a4 a5 a6 a7 a8) (F3 a9 a10 a11);refine sb [.tmp 2,.tmp 3] Tryz.func209 ?_;intro Q hQ;refine wk F ?_;refine ee hQ F ?_;exact J9 (bN _ _ _) ⟨by rw[F0];rfl,rfl⟩
  ·have F0:s=[90]:=e;have a0:(s==([71,77,84]:Bs))=false:=(by rw[F0];rfl);have a1:(s==([85,84]:Bs))=false:=(by rw[F0];rfl);have a2:(s==([85,84,67]:Bs))=false:=(by rw[F0];rfl);have a3:(s==([90]:Bs))=true:=(by rw[F0];rfl);have a4:(s==([69,68,84]:Bs))=false:=(by rw[F0];rfl);have a5:(s==([69,83,84]:Bs))=false:=(by rw[F0];rfl);have a6:(s==([67,68,84]:Bs))=false:=(by rw[F0];rfl);have a7:(s==([67,83,84]:Bs))=false:=(by rw[F0];rfl);have a8:(s==([77,68,84]:Bs))=false:=(by rw[F0];rfl);have a9:(s==([77,83,84]:Bs))=false:=(by rw[F0];rfl);have a10:(s==([80,68,84]:Bs))=false:=(by rw[F0];rfl);have a11:(s==([80,83,84]:Bs))=false:=(by rw[F0];rfl);have F:=F2 (F9 a0 a1 a2 a3 a4 a5 a6 a7 a8) (F3 a9 a10 a11);refine sb [.tmp 2,.tmp 3] Tryz.func209 ?_;intro Q hQ;refine wk F ?_;refine ee hQ F ?_;exact J9 (bN _ _ _) ⟨by rw[F0];rfl,rfl⟩
  ·have F0:s=[69,83,84]:=e;have a0:(s==([71,77,84]:Bs))=false:=(by rw[F0];rfl);have a1:(s==([85,84]:Bs))=false:=(by rw[F0];rfl);have a2:(s==([85,84,67]:Bs))=false:=(by rw[F0];rfl);have a3:(s==([90]:Bs))=false:=(by rw[F0];rfl);have a4:(s==([69,68,84]:Bs))=false:=(by rw[F0];rfl);have a5:(s==([69,83,84]:Bs))=true:=(by rw[F0];rfl);have a6:(s==([67,68,84]:Bs))=false:=(by rw[F0];rfl);have a7:(s==([67,83,84]:Bs))=false:=(by rw[F0];rfl);have a8:(s==([77,68,84]:Bs))=false:=(by rw[F0];rfl);have a9:(s==([77,83,84]:Bs))=false:=(by rw[F0];rfl);have a10:(s==([80,68,84]:Bs))=false:=(by rw[F0];rfl);have a11:(s==([80,83,84]:Bs))=false:=(by rw[F0];rfl);have F:=F2 (F9 a0 a1 a2 a3 a4 a5 a6 a7 a8) (F3 a9 a10 a11);refine sb [.tmp 2,.tmp 3] Tryz.func209 ?_;intro Q hQ;refine wk F ?_;refine ee hQ F ?_;exact J9 (bN _ _ _) ⟨by rw[F0];rfl,rfl⟩
  ·have F0:s=[69,68,84]:=e;have a0:(s==([71,77,84]:Bs))=false:=(by rw[F0];rfl);have a1:(s==([85,84]:Bs))=false:=(by rw[F0];rfl);have a2:(s==([85,84,67]:Bs))=false:=(by rw[F0];rfl);have a3:(s==([90]:Bs))=false:=(by rw[F0];rfl);have a4:(s==([69,68,84]:Bs))=true:=(by rw[F0];rfl);have a5:(s==([69,83,84]:Bs))=false:=(by rw[F0];rfl);have a6:(s==([67,68,84]:Bs))=false:=(by rw[F0];rfl);have a7:(s==([67,83,84]:Bs))=false:=(by rw[F0];rfl);have a8:(s==([77,68,84]:Bs))=false:=(by rw[F0];rfl);have a9:(s==([77,83,84]:Bs))=false:=(by rw[F0];rfl);have a10:(s==([80,68,84]:Bs))=false:=(by rw[F0];rfl);have a11:(s==([80,83,84]:Bs))=false:=(by rw[F0];rfl);have F:=F2 (F9 a0 a1 a2 a3 a4 a5 a6 a7 a8) (F3 a9 a10 a11);refine sb [.tmp 2,.tmp 3] Tryz.func209 ?_;intro Q hQ;refine wk F ?_;refine ee hQ F ?_;exact J9 (bN _ _ _) ⟨by rw[F0];rfl,rfl⟩
  ·have F0:s=[67,83,84]:=e;have a0:(s==([71,77,84]:Bs))=false:=(by rw[F0];rfl);have a1:(s==([85,84]:Bs))=false:=(by rw[F0];rfl);have a2:(s==([85,84,67]:Bs))=false:=(by rw[F0];rfl);have a3:(s==([90]:Bs))=false:=(by rw[F0];rfl);have a4:(s==([69,68,84]:Bs))=false:=(by rw[F0];rfl);have a5:(s==([69,83,84]:Bs))=false:=(by rw[F0];rfl);have a6:(s==([67,68,84]:Bs))=false:=(by rw[F0];rfl);have a7:(s==([67,83,84]:Bs))=true:=(by rw[F0];rfl);have a8:(s==([77,68,84]:Bs))=false:=(by rw[F0];rfl);have a9:(s==([77,83,84]:Bs))=false:=(by rw[F0];rfl);have a10:(s==([80,68,84]:Bs))=false:=(by rw[F0];rfl);have a11:(s==([80,83,84]:Bs))=false:=(by rw[F0];rfl);have F:=F2 (F9 a0 a1 a2 a3 a4 a5 a6 a7 a8) (F3 a9 a10 a11);refine sb [.tmp 2,.tmp 3] Tryz.func209 ?_;intro Q hQ;refine wk F ?_;refine ee hQ F ?_;exact J9 (bN _ _ _) ⟨by rw[F0];rfl,rfl⟩
  ·have F0:s=[67,68,84]:=e;have a0:(s==([71,77,84]:Bs))=false:=(by rw[F0];rfl);have a1:(s==([85,84]:Bs))=false:=(by rw[F0];rfl);have a2:(s==([85,84,67]:Bs))=false:=(by rw[F0];rfl);have a3:(s==([90]:Bs))=false:=(by rw[F0];rfl);have a4:(s==([69,68,84]:Bs))=false:=(by rw[F0];rfl);have a5:(s==([69,83,84]:Bs))=false:=(by rw[F0];rfl);have a6:(s==([67,68,84]:Bs))=true:=(by rw[F0];rfl);have a7:(s==([67,83,84]:Bs))=false:=(by rw[F0];rfl);have a8:(s==([77,68,84]:Bs))=false:=(by rw[F0];rfl);have a9:(s==([77,83,84]:Bs))=false:=(by rw[F0];rfl);have a10:(s==([80,68,84]:Bs))=false:=(by rw[F0];rfl);have a11:(s==([80,83,84]:Bs))=false:=(by rw[F0];rfl);have F:=F2 (F9 a0 a1 a2 a3 a4 a5 a6 a7 a8) (F3 a9 a10 a11);refine sb [.tmp 2,.tmp 3] Tryz.func209 ?_;intro Q hQ;refine wk F ?_;refine ee hQ F ?_;exact J9 (bN _ _ _) ⟨by rw[F0];rfl,rfl⟩
  ·have F0:s=[77,83,84]:=e;have a0:(s==([71,77,84]:Bs))=false:=(by rw[F0];rfl);have a1:(s==([85,84]:Bs))=false:=(by rw[F0];rfl);have a2:(s==([85,84,67]:Bs))=false:=(by rw[F0];rfl);have a3:(s==([90]:Bs))=false:=(by rw[F0];rfl);have a4:(s==([69,68,84]:Bs))=false:=(by rw[F0];rfl);have a5:(s==([69,83,84]:Bs))=false:=(by rw[F0];rfl);have a6:(s==([67,68,84]:Bs))=false:=(by rw[F0];rfl);have a7:(s==([67,83,84]:Bs))=false:=(by rw[F0];rfl);have a8:(s==([77,68,84]:Bs))=false:=(by rw[F0];rfl);have a9:(s==([77,83,84]:Bs))=true:=(by rw[F0];rfl);have a10:(s==([80,68,84]:Bs))=false:=(by rw[F0];rfl);have a11:(s==([80,83,84]:Bs))=false:=(by rw[F0];rfl);have F:=F2 (F9 a0 a1 a2 a3 a4 a5 a6 a7 a8) (F3 a9 a10 a11);refine sb [.tmp 2,.tmp 3] Tryz.func209 ?_;intro Q hQ;refine wk F ?_;refine ee hQ F ?_;exact J9 (bN _ _ _) ⟨by rw[F0];rfl,rfl⟩
  ·have F0:s=[77,68,84]:=e;have a0:(s==([71,77,84]:Bs))=false:=(by rw[F0];rfl);have a1:(s==([85,84]:Bs))=false:=(by rw[F0];rfl);have a2:(s==([85,84,67]:Bs))=false:=(by rw[F0];rfl);have a3:(s==([90]:Bs))=false:=(by rw[F0];rfl);have a4:(s==([69,68,84]:Bs))=false:=(by rw[F0];rfl);have a5:(s==([69,83,84]:Bs))=false:=(by rw[F0];rfl);have a6:(s==([67,68,84]:Bs))=false:=(by rw[F0];rfl);have a7:(s==([67,83,84]:Bs))=false:=(by rw[F0];rfl);have a8:(s==([77,68,84]:Bs))=true:=(by rw[F0];rfl);have a9:(s==([77,83,84]:Bs))=false:=(by rw[F0];rfl);have a10:(s==([80,68,84]:Bs))=false:=(by rw[F0];rfl);have a11:(s==([80,83,84]:Bs))=false:=(by rw[F0];rfl);have F:=F2 (F9 a0 a1 a2 a3 a4 a5 a6 a7 a8) (F3 a9 a10 a11);refine sb [.tmp 2,.tmp 3] Tryz.func209 ?_;intro Q hQ;refine wk F ?_;refine ee hQ F ?_;exact J9 (bN _ _ _) ⟨by rw[F0];rfl,rfl⟩
  ·have F0:s=[80,83,84]:=e;have a0:(s==([71,77,84]:Bs))=false:=(by rw[F0];rfl);have a1:(s==([85,84]:Bs))=false:=(by rw[F0];rfl);have a2:(s==([85,84,67]:Bs))=false:=(by rw[F0];rfl);have a3:(s==([90]:Bs))=false:=(by rw[F0];rfl);have a4:(s==([69,68,84]:Bs))=false:=(by rw[F0];rfl);have a5:(s==([69,83,84]:Bs))=false:=(by rw[F0];rfl);have a6:(s==([67,68,84]:Bs))=false:=(by rw[F0];rfl);have a7:(s==([67,83,84]:Bs))=false:=(by rw[F0];rfl);have a8:(s==([77,68,84]:Bs))=false:=(by rw[F0];rfl);have a9:(s==([77,83,84]:Bs))=false:=(by rw[F0];rfl);have a10:(s==([80,68,84]:Bs))=false:=(by rw[F0];rfl);have a11:(s==([80,83,84]:Bs))=true:=(by rw[F0];rfl);have F:=F2 (F9 a0 a1 a2 a3 a4 a5 a6 a7 a8) (F3 a9 a10 a11);refine sb [.tmp 2,.tmp 3] Tryz.func209 ?_;intro Q hQ;refine wk F ?_;refine ee hQ F ?_;exact J9 (bN _ _ _) ⟨by rw[F0];rfl,rfl⟩
  ·have F0:s=[80,68,84]:=e;have a0:(s==([71,77,84]:Bs))=false:=(by rw[F0];rfl);have a1:(s==([85,84]:Bs))=false:=(by rw[F0];rfl);have a2:(s==([85,84,67]:Bs))=false:=(by rw[F0];rfl);have a3:(s==([90]:Bs))=false:=(by rw[F0];rfl);have a4:(s==([69,68,84]:Bs))=false:=(by rw[F0];rfl);have a5:(s==([69,83,84]:Bs))=false:=(by rw[F0];rfl);have a6:(s==([67,68,84]:Bs))=false:=(by rw[F0];rfl);have a7:(s==([67,83,84]:Bs))=false:=(by rw[F0];rfl);have a8:(s==([77,68,84]:Bs))=false:=(by rw[F0];rfl);have a9:(s==([77,83,84]:Bs))=false:=(by rw[F0];rfl);have a10:(s==([80,68,84]:Bs))=true:=(by rw[F0];rfl);have a11:(s==([80,83,84]:Bs))=false:=(by rw[F0];rfl);have F:=F2 (F9 a0 a1 a2 a3 a4 a5 a6 a7 a8) (F3 a9 a10 a11);refine sb [.tmp 2,.tmp 3] Tryz.func209 ?_;intro Q hQ;refine wk F ?_;refine ee hQ F ?_;exact J9 (bN _ _ _) ⟨by rw[F0];rfl,rfl⟩
 ·have e:namF s=none:=by
   unfold namF;have:zonL.findIdx? (fun x=>decide (x=s))=none:=by
    rw[R2];intro x hx;have:x≠s:=fun k=>hw (k▸hx)
    simpa using this
   rw[this]
  rw[e];have:s≠ [71,77,84]∧s≠ [85,84]∧s≠ [85,84,67]∧s≠ [90]∧s≠ [69,83,84]∧s≠ [69,68,84]∧s≠ [67,83,84]∧s≠ [67,68,84]∧s≠ [77,83,84]∧s≠ [77,68,84]∧s≠ [80,83,84]∧s≠ [80,68,84]:=by simpa [zonL]using hw
  obtain⟨a1,a2,a3,a4,a5,a6,a7,a8,a9,b1,b2,b3⟩:=this;have f:∀{x:Bs},s≠x→(s==x)=false:=fun {x} e=>by simpa using e
  have a1:=f a1;have a2:=f a2;have a3:=f a3;have a4:=f a4;have a5:=f a5;have a6:=f a6;have a7:=f a7;have a8:=f a8;have a9:=f a9;have b1:=f b1;have b2:=f b2;have b3:=f b3;have F:=F2 (F9 a1 a2 a3 a4 a5 a6 a7 a8 a9) (F3 b1 b2 b3);refine sb [.tmp 2,.tmp 3] Tryz.func209 ?_;intro Q hQ;refine wk F ?_;refine ee hQ F ?_;exact J9 (bN _ _ _) ⟨rfl,rfl⟩
theorem tD{s s':Bs}{b b':Bool}{n:Int}(e:(Rdr.mk s b).all=(n,⟨s',b'⟩))(hs:s.length≤9){H:Heap}{p:Nat}(hg:getRow H p 0=some (188,2,[.agg [.str s,.bool b]])):
  Sat (CT G) 205 [.hp p 0 0 0] H (fun r h'=>r=.int .i64 n∧h'=H.set p (dR s' b')):=by
 have hp:=al hg;have S:=aP G (w:=s.length) e hs (by omega) hg;have F:=hg;refine sb [.tmp 2] Tryz.func205 ?_;intro Q hQ;refine wk F ?_;refine kq F (S) ?_;refine ee hQ F ?_;exact aR (fun _=>.int _ _)
theorem tE{s s':Bs}{b b':Bool}{n:Int}(e:(Rdr.mk s b).off false=(n,⟨s',b'⟩))(hs:s.length≤1073741824){H:Heap}{p:Nat}(hg:getRow H p 0=some (188,2,[.agg [.str s,.bool b]])):
  Sat (CT G) 210 [.hp p 0 0 0] H (fun r h'=>r=.int .i64 n∧h'=H.set p (dR s' b')):=by
 have hp:=al hg;have S:=lZ G e hs hg;have F:=hg;refine sb [.tmp 2] Tryz.func210 ?_;intro Q hQ;refine wk F ?_;refine kq F (S) ?_;refine ee hQ F ?_;exact aR (fun _=>.int _ _)
theorem rc{s s':Bs}{b b':Bool}{n:Int}(e:(Rdr.mk s b).year=(n,⟨s',b'⟩))(hs:s.length≤1073741824){H:Heap}{p:Nat}(hg:getRow H p 0=some (188,2,[.agg [.str s,.bool b]])):
  Sat (CT G) 207 [.hp p 0 0 0] H (fun r h'=>r=.int .i64 n∧h'=H.set p (dR s' b')):=by
 have hp:=al hg;unfold Rdr.year at e;by_cases h2:s.length=2
 ·have q:((s.length:Int) !=2)=false:=by rw[h2];rfl
  rcases e1:(Rdr.mk s b).digits 2 with⟨m,s1,b1⟩;have e:(if 50≤m then 1900+m else 2000+m,Rdr.mk s1 b1)=(n,⟨s',b'⟩):=by
   rw[← e];simp only[h2,if_true,e1]
  have hb:=ba e1;have h10:(10:Int)^2=100:=rfl;rw[h10]at hb;have S:=aP G e1 (by omega) hs hg;by_cases c:50≤m
  ·rw[E8 c]at e;cases e;have d:decide (m≥50)=true:=G4 c;have F:=F3 hg q d;refine sb [.tmp 2] Tryz.func207 ?_;intro Q hQ;refine wk F ?_;refine kq F (S) ?_;refine ee hQ F ?_;exact aR (fun _=>.int _ _)
  ·rw[E4 c]at e;cases e;have d:decide (m≥50)=false:=H2 c;have F:=F3 hg q d;refine sb [.tmp 2] Tryz.func207 ?_;intro Q hQ;refine wk F ?_;refine kq F (S) ?_;refine ee hQ F ?_;exact aR (fun _=>.int _ _)
 ·have q:((s.length:Int) !=2)=true:=by simp only[bne_iff_ne,ne_eq];omega
  have e:(Rdr.mk s b).digits 4=(n,⟨s',b'⟩):=by
   rw[← e];exact(E4 h2).symm
  have S:=aP G e (by omega) hs hg;have F:=F2 hg q;refine sb [.tmp 2] Tryz.func207 ?_;intro Q hQ;refine wk F ?_;refine kq F (S) ?_;refine ee hQ F ?_;exact aR (fun _=>.int _ _)
theorem pE{s s':Bs}{b b':Bool}{n:Int}(e:(Rdr.mk s b).clock=(n,⟨s',b'⟩))(hs:s.length≤1073741824){H:Heap}{p:Nat}(hg:getRow H p 0=some (188,2,[.agg [.str s,.bool b]])):
  Sat (CT G) 208 [.hp p 0 0 0] H (fun r h'=>r=.int .i64 n∧h'=H.set p (dR s' b')):=by
 have hp:=al hg;have hgs:∀s b,getRow (H.set p (dR s b)) p 0=some (188,2,[.agg [.str s,.bool b]]):=fun s b=>by rw[bE _ _ _ _ _ hp];rfl
 rcases e1:(Rdr.mk s b).digits 2 with⟨hh,s1,b1⟩;rcases e2:(Rdr.mk s1 b1).sign [58]with⟨x2,s2,b2⟩;rcases e3:(Rdr.mk s2 b2).digits 2 with⟨m,s3,b3⟩;have l1:s1.length≤s.length:=by
  have:=Rdr.digits_le (r:=⟨s,b⟩) (w:=2);rw[e1]at this;exact this
 have l2:s2.length≤s1.length:=by
  have:=Rdr.sign_le (r:=⟨s1,b1⟩) (l:=[58]);rw[e2]at this;exact this
 have l3:s3.length≤s2.length:=by
  have:=Rdr.digits_le (r:=⟨s2,b2⟩) (w:=2);rw[e3]at this;exact this
 have hb1:=ba e1;have hb3:=ba e3;have h10:(10:Int)^2=100:=rfl;rw[h10]at hb1 hb3;have S1:=aP G e1 (by omega) hs hg;have S2:=dp G e2 (hgs s1 b1);have S3:=aP G e3 (by omega) (by omega) (hgs s2 b2);rw[Q9]at S2 S3;have fin:∀x:Int,Fin H (H.set p (dR s' b')) (fun r h'=>r=.int .i64 x∧h'=H.set p (dR s' b')) (.int .i64 x):=fun x=>aR (fun _=>.int _ _)
 by_cases h3:s3=[]
 ·have q0:(s3==([]:Bs))=true:=by simp[h3]
  have ec:((3600*hh+60*m+0:Int),Rdr.mk s3 (b3||(decide (hh>23)||(decide (m>59)||false))))=(n,⟨s',b'⟩):=by
   rw[← e];unfold Rdr.clock;simp only[e1,e2,e3];simp[h3]
  cases ec;generalize q1:decide (hh>23)=d1 at*;generalize q2:decide (m>59)=d2 at*;have q3:decide ((0:Int)>59)=false:=rfl;have dt:∀i:Decidable True, @decide True i=true:=fun i=>by simp
  have df:∀i:Decidable False, @decide False i=false:=fun i=>by simp
  have hw:=hgs s' b3;cases b3<;>cases d1<;>cases d2<;>(
   have F:=F8 hg q0 q1 q2 dt df hw (@Q9 Blk);refine sb [.tmp 2] Tryz.func208 ?_;intro Q hQ;refine wk F ?_;refine kq F (S1) ?_;refine kq F (S2) ?_;refine kq F (S3) ?_;refine ee hQ F ?_;exact fin _)
 ·have q0:(s3==([]:Bs))=false:=by simpa using h3
  rcases e4:(Rdr.mk s3 b3).sign [58]with⟨x4,s4,b4⟩;rcases e5:(Rdr.mk s4 b4).digits 2 with⟨c,s5,b5⟩;have l4:s4.length≤s3.length:=by
   have:=Rdr.sign_le (r:=⟨s3,b3⟩) (l:=[58]);rw[e4]at this;exact this
  have hb5:=ba e5;rw[h10]at hb5;have S4:=dp G e4 (hgs s3 b3);have S5:=aP G e5 (by omega) (by omega) (hgs s4 b4);rw[Q9]at S4 S5;have ec:((3600*hh+60*m+c:Int),Rdr.mk s5 (b5||(decide (hh>23)||(decide (m>59)||decide (c>59)))))=(n,⟨s',b'⟩):=by
   rw[← e];unfold Rdr.clock;simp only[e1,e2,e3,E4 h3,e4,e5]
  cases ec;generalize q1:decide (hh>23)=d1 at*;generalize q2:decide (m>59)=d2 at*;generalize q3:decide (c>59)=d3 at*;have hw0:=hgs s3 b3;have hw:=hgs s' b5;cases b5<;>cases d1<;>cases d2<;>cases d3<;>(
   have F:=F8 hg q0 q1 q2 q3 hw0 hw (@Q9 Blk);refine sb [.tmp 2] Tryz.func208 ?_;intro Q hQ;refine wk F ?_;refine kq F (S1) ?_;refine kq F (S2) ?_;refine kq F (S3) ?_;refine kq F (S4) ?_;refine kq F (S5) ?_;refine ee hQ F ?_;exact fin _)
theorem rd(g:FuncId){s w s':Bs}{b b':Bool}{n:Int}{H:Heap}{p:Nat}(hg:getRow H p 0=some (188,2,[.agg [.str s,.bool b]]))
  (hF:Sat (CT G) g [.hp H.length 0 0 0] (H++[dR w false]) (fun r h'=>r=.int .i64 n∧h'=H++[dR s' b'])):
  Sat (CT G) 204 [.hp p 0 0 0,.str w,.fn (.func g) [] []] H (fun r h'=>r=.int .i64 n∧h'=H.set p (dR s (b||(b'||decide (s'≠ []))))):=by
 have hp:=al hg;have q:(s'==([]:Bs))=decide (s'=[]):=by rw[O3];simp
 have hx:decide (s'≠ [])= !decide (s'=[]):=by simp
 rw[hx];generalize decide (s'=[])=d at*;have hgo:∀l:Heap,getRow (H++l) p 0=some (188,2,[.agg [.str s,.bool b]]):=fun l=>by rw[bp _ hp];exact hg
 cases b<;>cases b'<;>cases d<;>(
  have F:=F4 hgo q hp @ak;refine sb [.tmp 6] Tryz.func204 ?_;intro Q hQ;refine wk F ?_;refine kq F (hF) ?_;refine ee hQ F ?_;exact j5 (fun _=>.int _ _))
theorem ie(b:UInt8):∀s:Bs,Lib.splitK [b] 0 (Lib.count s [b]) s=splF b s
 | []=>by
  have:Lib.count ([]:Bs) [b]=0:=Lib.count_miss (by simp[Lib.index]);rw[this];rfl
 |c::s=>by
  have ih:=ie b s;unfold splF;by_cases h:c=b
  ·subst h;have hix:Lib.index (c::s) [c]=((0:Nat):Int):=(by rw[Lib.index];simp[List.isPrefixOf]);have hne:¬(Lib.index (c::s) [c]== -1)=true:=(by rw[hix];decide);rw[E8 rfl,Lib.count_cons_eq,Nat.add_comm,Lib.splitK,E4 hne,hix, ← ih];rfl
  ·rw[E4 h,Lib.count_cons_ne c b s h, ← ih];have hp:([b]:Bs).isPrefixOf (c::s)=false:=(by simp[List.isPrefixOf,Ne.symm h]);have hix:Lib.index (c::s) [b]=if Lib.index s [b]== -1 then-1 else Lib.index s [b]+1:=by rw[Lib.index,hp];simp
   by_cases hm:Lib.index s [b]= -1
   ·rw[Lib.count_miss hm];rfl
   ·have hge:=Lib.index_ge s [b];obtain⟨j,hj⟩:∃j:Nat,Lib.index s [b]=j:=⟨(Lib.index s [b]).toNat,by omega⟩;have hn1:¬(Lib.index s [b]== -1)=true:=fun e=>hm (beq_iff_eq.1 e)
    have hn2:¬(Lib.index (c::s) [b]== -1)=true:=(by rw[hix,E4 hn1,hj];simp;omega);rw[Lib.count_hit (by simp) hj,Nat.add_comm,Lib.splitK,E4 hn2,Lib.splitK,E4 hn1,hix,E4 hn1,hj];have e1:((j:Int)+1).toNat=j+1:=(by omega);rw[e1];simp[Nat.add_right_comm]
theorem Sat.of_callsD{C:Ctx}{h:Heap}{f:FuncId}{fn:Func}{args:List AVal}{vs:List Value}{R:AVal→Heap→Prop}(hf:C.P.funcs[f]? =some fn)(hb:fn.body.isNone=false)(hname:(fn.name== "runtime.NumGoroutine")=false)
  (ha:plainL args=some vs)(hc:∀B S μ w,Fits C B S μ h w→Calls C.P f vs.toArray w fun e w'=>∃v,e=.returned v∧OpPost C B S μ w R v w'):Sat C f args h R:=by
 unfold Sat;intro B S μ w us fit rl;obtain rfl:=fr ha rl;have e:(callFunc f us.toArray).run C.P w=.ok (.enter f us.toArray) w:=by
  have hne:fn.name≠ "runtime.NumGoroutine" :=by simpa using hname
  obtain⟨c,hbc⟩:∃c,fn.body=some c:=by cases hq:fn.body with|none=>simp[hq]at hb|some c=>exact⟨c,rfl⟩
  simp[callFunc,hf,hne,hbc]
 rw[e];exact hc B S μ w fit
theorem rg{C:Ctx}{B:Nat}{S:Addr→Prop}{μ:Map}{h:Heap}{w:World}(f:Fits C B S μ h w)(l:List Bs)(h0:l≠ [])(hm:l.length≤maxLen)(T:TypeId):
  ∃S',Step B S μ w S' μ (w.alloc (.cells ((l.map fun s=>Value.string ⟨s.toArray⟩).toArray) T))∧Fits C B S' μ h (w.alloc (.cells ((l.map fun s=>Value.string ⟨s.toArray⟩).toArray) T))∧
   Rep (w.alloc (.cells ((l.map fun s=>Value.string ⟨s.toArray⟩).toArray) T)) S' μ (.sl 1 (l.map .str)) (.slice (some ⟨w.heap.size,0,none⟩) l.length l.length):=by
 have hB:Below w.heap.size w (w.alloc (.cells ((l.map fun s=>Value.string ⟨s.toArray⟩).toArray) T)):=Below.alloc (Q4 _ _) (G3 _) _;have hk:∀k,k<w.heap.size→(w.alloc (.cells ((l.map fun s=>Value.string ⟨s.toArray⟩).toArray) T)).heap[k]? =w.heap[k]? :=fun k hk=>hB.block k hk
 have hsz:(w.alloc (.cells ((l.map fun s=>Value.string ⟨s.toArray⟩).toArray) T)).heap.size=w.heap.size+1:=Array.size_push ..;have st:Step B S μ w (fun a=>S a∨a.block=w.heap.size) μ (w.alloc (.cells ((l.map fun s=>Value.string ⟨s.toArray⟩).toArray) T)):=
  ⟨fun _ ha=>.inl ha,fun a ha=>World.cell?_of_block (hk _ (f.lie a ha)),hB.mono f.base,MapLe.refl _,fun a ha=>ha.elim .inl fun e=>.inr (e▸f.base)⟩
 refine⟨_,st,⟨fun g cs hg=>(f.glob g cs hg).mono st,f.len,f.sep,fun p m b h1 e1=>?_,by rw[hsz];have:=f.base;omega,fun a ha=>?_,fun p m k h1 h2=>(f.blk p m k h1 h2).mono st fun q hq=>hk q (f.own p m q h1 hq).2.1⟩,?_⟩
 ·obtain⟨a1,a2,a3⟩:=f.own p m b h1 e1;refine⟨a1,by rw[hsz];omega,fun a ha=>ha.elim (a3 a) fun e=>by rw[e];omega⟩
 ·rw[hsz];rcases ha with ha|ha
  ·have:=f.lie a ha;omega
  ·rw[ha];omega
 ·have hl:(l.map AVal.str).length=l.length:=I5 ..;have hg:∀(i:Nat) (e:AVal),(l.map AVal.str)[i]? =some e→∃s,l[i]? =some s∧e=.str s:=fun i e he=>by
   rw[K8]at he;cases hs:l[i]? with
   |none=>rw[hs]at he;cases he
   |some s=>rw[hs]at he;exact⟨s,rfl,by cases he;rfl⟩
  have:=Rep.sl (w:=w.alloc (.cells ((l.map fun s=>Value.string ⟨s.toArray⟩).toArray) T)) (S:=fun a=>S a∨a.block=w.heap.size) (μ:=μ) 1 (l.map .str) w.heap.size 0 l.length (fun i _=>.string ⟨(l.getD i []).toArray⟩) (by simpa using h0) (by rw[hl];exact G3 _) hm
   (fun i e he=>by obtain⟨s,_,rfl⟩:=hg i e he;rfl)
   (fun i e j c he hj=>by
    obtain⟨s,hs,rfl⟩:=hg i e he;have hj0:j=0:=by
     have:=(E0.1 hj).1;simp[AVal.cells]at this;exact this
    subst hj0;cases hj;refine⟨.inr rfl,?_,rfl⟩;rw[World.cell?_alloc_mark];simp[hs])
   (fun i e j c he hj=>by
    obtain⟨s,hs,rfl⟩:=hg i e he;have hj0:j=0:=by
     have:=(E0.1 hj).1;simp[AVal.cells]at this;exact this
    subst hj0;cases hj;simp only[N0,hs];exact .str _)
  rw[hl]at this;exact this
theorem ri(hG:GOk G)(s:Bs)(b:UInt8)(hs:s.length≤8388608)(h:Heap):Sat (CT G) 202 [.str s,.str [b]] h (fun r h'=>r=.sl 1 ((splF b s).map .str)∧h'=h):=by
 refine Sat.of_callsD (fn:=Tryz.f202) Tryz.func202 (by kernel_rfl) (by kernel_rfl) rfl fun B S μ w f=>?_
 obtain⟨m,hm⟩:=hG.cell f;refine(Tryz.strings_Split ⟨s.toArray⟩ ⟨#[b]⟩ m w (by rw[gO];omega) hm (G3 1)).mono fun e w' ⟨h1,h2⟩=>?_
 have hd:(Lib.splitB ⟨#[b]⟩ 0 (Lib.countB ⟨s.toArray⟩ ⟨#[b]⟩) ⟨s.toArray⟩).map (·.data.toList)=splF b s:=by
  rw[Lib.splitB_data];exact ie b s
 have hl:=Lib.splitB_all ⟨#[b]⟩ (G3 1) 0 _ (⟨s.toArray⟩:ByteArray) rfl;have hv:(Lib.splitB ⟨#[b]⟩ 0 (Lib.countB ⟨s.toArray⟩ ⟨#[b]⟩) ⟨s.toArray⟩).map Value.string=(splF b s).map fun s=>Value.string ⟨s.toArray⟩:=by
  rw[← hd,List.map_map];exact Q5 fun x _=>by simp
 have hc:Lib.countB (⟨s.toArray⟩:ByteArray) ⟨#[b]⟩+1=(splF b s).length:=by rw[← hl, ← hd,I5]
 rw[hv]at h2;rw[hc]at h1;have hsl:=m4 b s;obtain⟨S',st,f',r⟩:=rg f (splF b s) (nS b s) (by unfold maxLen;omega) 9;rw[← h2]at st f' r;exact⟨_,h1,_,h,S',μ,⟨rfl,rfl⟩,st,f',r⟩
theorem rj(hG:GOk G)(s p:Bs)(hs:s.length≤1073741824)(h:Heap):
  Sat (CT G) 165 [.str s,.str p] h (fun r h'=>r=.int .i64 (Lib.index s p)∧h'=h):=by
 refine Sat.of_calls (fn:=Tryz.f165) Tryz.func165 (by kernel_rfl) (by kernel_rfl) rfl rfl fun B S μ w f=>?_
 obtain⟨m,hm⟩:=hG.cell f;refine(Tryz.strings_Index ⟨s.toArray⟩ ⟨p.toArray⟩ m w (by rw[gO];omega) hm).mono fun e w' ⟨h1,h2⟩=>⟨h1,bT h2⟩
def monB:Bs:=monL.flatten
theorem tF(w:Bs)(h3:w.length=3):(∃i:Nat,i<12∧Lib.index monB w=3*(i:Nat)∧ixS monL w=i)∨(ixS monL w= -1∧(Lib.index monB w<0∨(0≤Lib.index monB w∧Lib.index monB w<36∧Lib.index monB w%3≠0))):=by
 by_cases hm:w∈monL
 ·left;have:w=[74,97,110]∨w=[70,101,98]∨w=[77,97,114]∨w=[65,112,114]∨w=[77,97,121]∨w=[74,117,110]∨w=[74,117,108]∨w=[65,117,103]∨w=[83,101,112]∨w=[79,99,116]∨w=[78,111,118]∨w=[68,101,99]:=by simpa [monL]using hm
  rcases this with rfl|rfl|rfl|rfl|rfl|rfl|rfl|rfl|rfl|rfl|rfl|rfl
  ·exact⟨0,by decide,by decide,by decide⟩
  ·exact⟨1,by decide,by decide,by decide⟩
  ·exact⟨2,by decide,by decide,by decide⟩
  ·exact⟨3,by decide,by decide,by decide⟩
  ·exact⟨4,by decide,by decide,by decide⟩
  ·exact⟨5,by decide,by decide,by decide⟩
  ·exact⟨6,by decide,by decide,by decide⟩
  ·exact⟨7,by decide,by decide,by decide⟩
  ·exact⟨8,by decide,by decide,by decide⟩
  ·exact⟨9,by decide,by decide,by decide⟩
  ·exact⟨10,by decide,by decide,by decide⟩
  ·exact⟨11,by decide,by decide,by decide⟩
 ·right;refine⟨re (fun x hx e=>hm (e▸hx)),?_⟩;rcases Lib.index_spec monB w with⟨h,_⟩| ⟨i,h,hi,ho,_⟩
  ·left;rw[h];decide
  ·right;rw[h];have hr:=Lib.occAt_room ho;have hb:monB.length=36:=(by decide);have hi:i+3≤36:=by
    rcases hr with hr|hr
    ·omega
    ·rw[hr]at h3;cases h3
   refine⟨by omega,by omega,fun hmod=>hm ?_⟩;obtain⟨k,rfl⟩:∃k,i=3*k:=⟨i/3,by omega⟩;have hk:k<12:=(by omega);rw[Lib.occAt_iff_take monB w (3*k) (by omega),h3]at ho;have ho:(monB.drop (3*k)).take 3=w:=(by simpa using ho);rw[← ho];have:k=0∨k=1∨k=2∨k=3∨k=4∨k=5∨k=6∨k=7∨k=8∨k=9∨k=10∨k=11:=by omega
   rcases this with rfl|rfl|rfl|rfl|rfl|rfl|rfl|rfl|rfl|rfl|rfl|rfl<;>decide
theorem uW{w:Bs}(h:w.length≠3):ixS monL w= -1:=re fun x hx e=>h (by
 have:∀x∈monL,x.length=3:=by decide
 rw[← e];exact this x hx)
theorem pG(hG:GOk G)(w:Bs)(h:Heap):Sat (CT G) 206 [.str w] h (fun r h'=>r=.int .i64 (ixS monL w+1)∧h'=h):=by
 have hI:∀h,Sat (CT G) 165 [.str [74,97,110,70,101,98,77,97,114,65,112,114,77,97,121,74,117,110,74,117,108,65,117,103,83,101,112,79,99,116,78,111,118,68,101,99],.str w] h (fun r h'=>r=.int .i64 (Lib.index monB w)∧h'=h):=rj G hG monB w (by decide);by_cases h3:w.length=3
 rotate_left
 ·have q:((w.length:Int) !=3)=true:=by simp only[bne_iff_ne,ne_eq];omega
  have e:=uW h3;have F:=q;refine sb [.tmp 2] Tryz.func206 ?_;intro Q hQ;refine wk F ?_;refine kq F (hI _) ?_;refine ee hQ F ?_;exact J9 (.int _ _) ⟨by rw[e];rfl,rfl⟩
 have q:((w.length:Int) !=3)=false:=by rw[h3];rfl
 rcases tF w h3 with⟨i,h12,ei,e⟩| ⟨e,h0| ⟨h0,h36,h0m⟩⟩
 ·have q1:decide ((3*(i:Nat):Int)<0)=false:=H2 (by omega);have t1:((3*(i:Nat):Int)).tmod 3=0:=by rw[K6 (by omega)];omega
  have t2:((3*(i:Nat):Int)).tdiv 3=i:=by rw[L5 (by omega)];omega
  rw[ei]at hI;have F:=F4 q q1 t1 t2;refine sb [.tmp 2] Tryz.func206 ?_;intro Q hQ;refine wk F ?_;refine kq F (hI _) ?_;refine ee hQ F ?_;exact J9 (.int _ _) ⟨by rw[e];rfl,rfl⟩
 ·have q1:decide (Lib.index monB w<0)=true:=G4 h0;have F:=F2 q q1;refine sb [.tmp 2] Tryz.func206 ?_;intro Q hQ;refine wk F ?_;refine kq F (hI _) ?_;refine ee hQ F ?_;exact J9 (.int _ _) ⟨by rw[e];rfl,rfl⟩
 ·have q1:decide (Lib.index monB w<0)=false:=H2 (by omega);have t1:(Lib.index monB w).tmod 3=Lib.index monB w%3:=K6 h0;have q2:((Lib.index monB w%3) !=0)=true:=by simpa using h0m
  have F:=F4 q q1 t1 q2;refine sb [.tmp 2] Tryz.func206 ?_;intro Q hQ;refine wk F ?_;refine kq F (hI _) ?_;refine ee hQ F ?_;exact J9 (.int _ _) ⟨by rw[e];rfl,rfl⟩
end Go.Av
