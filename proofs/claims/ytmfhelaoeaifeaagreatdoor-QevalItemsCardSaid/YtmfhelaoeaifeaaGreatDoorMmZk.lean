/- Parts. -/
import Derived.Test.YtmfhelaoeaifeaaGreatDoorProg
import Derived.WalkKit
import Derived.Deep.RegionWith
import Derived.Sort.Grow
import Derived.Deep.Draws
set_option linter.unusedSimpArgs false
set_option linter.unusedVariables false
set_option linter.unusedSectionVars false
set_option linter.unnecessarySimpa false
set_option maxRecDepth 100000
set_option maxHeartbeats 16000000
namespace Go.Av
open Go Go.Proofs Go.RowKit
def cmpW(a b:Int):Int:=if a<b then-1 else if b<a then 1 else 0
theorem B3(a:Int)(w:World):Calls Tryz.prog 147 #[.int .i64 a] w fun e w'=>e=.returned (.bool false)∧w'=w:=by
 go_enter Tryz.func147,Tryz.ntmps147
 go_wp2
 go_ret
 exact⟨by simp,rfl⟩
theorem B4(a b:Int)(w:World):Calls Tryz.prog 96 #[.int .i64 a,.int .i64 b] w fun e w'=>e=.returned (.int .i64 (cmpW a b))∧w'=w:=by
 go_enter Tryz.func96,Tryz.ntmps96
 go_wp2_with (go_at_call 147;refine(B3 _ _).mono ?_;rintro e w' ⟨rfl,hw⟩;rw[hw])
 all_goals (
  go_ret
  refine⟨?_,rfl⟩;unfold cmpW;first| (rw[if_pos (by omega)];rfl)| (rw[if_neg (by omega),if_pos (by omega)];rfl)| (rw[if_neg (by omega),if_neg (by omega)];rfl))
theorem Ey(a b:Int)(blk:Nat)(w:World)(h0:w.cell? ⟨blk,0,none⟩=some (.int .i64 a))(h1:w.cell? ⟨blk,1,none⟩=some (.int .i64 b)):Calls Tryz.prog 95 #[.slice (some ⟨blk,0,none⟩) 2 2] w fun e w'=>e=.returned (.int .i64 (if a=0 then b else a))∧w'=w:=by
 generalize hr:(if a=0 then b else a)=r
 go_enter Tryz.func95,Tryz.ntmps95
 go_wp2
 go_loop [8] (fun i=>∃k:Nat,k≤2∧i=.int .i64 k∧(1≤k→a=0)∧(2≤k→b=0)) (fun i=>match i with| .int _ n=>2-n.toNat|_=>0)
 case atStart=>exact⟨0,by omega,rfl,fun h=>by omega,fun h=>by omega⟩
 case round=>
  obtain⟨k,hk,rfl,ha,hb⟩:=hrel;have hk3:k=0∨k=1∨k=2:=by omega
  rcases hk3 with rfl|rfl|rfl
  ·by_cases h:a=0
   ·have h2:(a !=0)=false:=by simp[h]
    go_wp2
    exact⟨⟨1,by omega,rfl,fun _=>h,fun h=>by omega⟩,by decide⟩
   ·have h2:(a !=0)=true:=(by simp[h]);rw[if_neg h]at hr;subst hr
    go_wp2
    go_ret
    exact⟨rfl,rfl⟩
  ·by_cases h:b=0
   ·have h2:(b !=0)=false:=by simp[h]
    go_wp2
    exact⟨⟨2,by omega,rfl,fun _=>ha (by omega),fun _=>h⟩,by decide⟩
   ·have h2:(b !=0)=true:=(by simp[h]);rw[if_pos (ha (by omega))]at hr;subst hr
    go_wp2
    go_ret
    exact⟨rfl,rfl⟩
  ·rw[if_pos (ha (by omega)),hb (by omega)]at hr;subst hr
   go_wp2
   go_ret
   exact⟨rfl,rfl⟩
theorem B5(W:World)(x y r:Int)(T:TypeId)(hr:(if x=0 then y else x)=r):Calls Tryz.prog 95 #[.slice (some ⟨W.heap.size,0,none⟩) 2 2] (W.alloc (.cells #[.int .i64 x,.int .i64 y] T)).drew fun e w'=>e=.returned (.int .i64 r)∧w'=(W.alloc (.cells #[.int .i64 x,.int .i64 y] T)).drew:=by
 subst hr;exact Ey x y _ _ (by rw[World.cell?_drew,World.cell?_alloc_at _ _ _ _ rfl];rfl) (by rw[World.cell?_drew,World.cell?_alloc_at _ _ _ _ rfl];rfl)
def itO(i f d:Int)(g t l:ByteArray)(r s:Bool)(v:Value):Obj:=.cells #[.int .i64 i,.int .i64 f,.int .i64 d,.string g,.string t,.string l,.bool r,.bool s,v] 49
theorem xc(w:World)(i f d:Int)(g t l:ByteArray)(r s:Bool)(v:Value)(n:Nat)(hn:n=w.heap.size):(w.alloc (itO i f d g t l r s v)).cell? ⟨n,0,none⟩=some (.int .i64 i)∧(w.alloc (itO i f d g t l r s v)).cell? ⟨n,2,none⟩=some (.int .i64 d):=by
 unfold itO;exact⟨by rw[World.cell?_alloc_at _ _ _ _ hn];rfl,by rw[World.cell?_alloc_at _ _ _ _ hn];rfl⟩
def itW(i f d:Int)(g t l:ByteArray)(r s:Bool)(v:Value):Value:=.agg #[.int .i64 i,.int .i64 f,.int .i64 d,.string g,.string t,.string l,.bool r,.bool s,v]
theorem xk(i1 d1 i2 d2 f1 f2:Int)(g1 t1 l1 g2 t2 l2:ByteArray)(r1 s1 r2 s2:Bool)(v1 v2:Value)(w:World):Calls Tryz.prog 53 #[itW i1 f1 d1 g1 t1 l1 r1 s1 v1,itW i2 f2 d2 g2 t2 l2 r2 s2 v2] w fun e w'=>e=.returned (.int .i64 (if cmpW d2 d1=0 then cmpW i1 i2 else cmpW d2 d1))∧∃q os',w'=Sort.grow (w.drewN q) os':=by
 unfold itW;generalize hr:(if cmpW d2 d1=0 then cmpW i1 i2 else cmpW d2 d1)=r
 go_enter Tryz.func53,Tryz.ntmps53
 go_wp2
 obtain⟨a0,a2⟩:=xc w i1 f1 d1 g1 t1 l1 r1 s1 v1 _ rfl;obtain⟨b0,b2⟩:=xc (w.alloc (itO i1 f1 d1 g1 t1 l1 r1 s1 v1)) i2 f2 d2 g2 t2 l2 r2 s2 v2 (w.heap.size+1) (by simp);replace a0:=(World.cell?_alloc_past (w:=w.alloc (itO i1 f1 d1 g1 t1 l1 r1 s1 v1)) (itO i2 f2 d2 g2 t2 l2 r2 s2 v2) w.heap.size 0 (by simp)).trans a0;replace a2:=(World.cell?_alloc_past (w:=w.alloc (itO i1 f1 d1 g1 t1 l1 r1 s1 v1)) (itO i2 f2 d2 g2 t2 l2 r2 s2 v2) w.heap.size 2 (by simp)).trans a2;have hg:∃os,(w.alloc (itO i1 f1 d1 g1 t1 l1 r1 s1 v1)).alloc (itO i2 f2 d2 g2 t2 l2 r2 s2 v2)=Sort.grow w os:=⟨_,by rw[Sort.alloc_eq_grow,Sort.alloc_eq_grow,Sort.grow_grow]⟩
 unfold itO at a0 a2 b0 b2 hg;generalize (w.alloc (.cells #[.int .i64 i1,.int .i64 f1,.int .i64 d1,.string g1,.string t1,.string l1,.bool r1,.bool s1,v1] 49)).alloc (.cells #[.int .i64 i2,.int .i64 f2,.int .i64 d2,.string g2,.string t2,.string l2,.bool r2,.bool s2,v2] 49)=W at a0 a2 b0 b2 hg ⊢;generalize Value.agg #[.int .i64 i1,.int .i64 f1,.int .i64 d1,.string g1,.string t1,.string l1,.bool r1,.bool s1,v1]=u1;generalize Value.agg #[.int .i64 i2,.int .i64 f2,.int .i64 d2,.string g2,.string t2,.string l2,.bool r2,.bool s2,v2]=u2;generalize w.heap.size=n at a0 a2 b0 b2 ⊢
 go_region_with (first
  | (go_at_call 96;refine(B4 _ _ _).mono ?_;rintro e w' ⟨rfl,hw⟩;rw[hw])
  | (go_at_call 95;refine(B5 _ (cmpW d2 d1) (cmpW i1 i2) r _ hr).mono ?_;rintro e w' ⟨rfl,hw⟩;rw[hw]))
 all_goals go_wp2
 all_goals go_ret
 all_goals (
  obtain⟨os,rfl⟩:=hg;refine⟨rfl,1,os++ #[.cells #[.int .i64 (cmpW d2 d1),.int .i64 (cmpW i1 i2)] 3],?_⟩;rw[← Sort.grow_grow];rfl)
end Go.Av
