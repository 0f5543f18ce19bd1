/- Parts. -/
import Derived.Test.YtljohklbgahomaaGreatDoorMsDx8
import Derived.Test.YtljohklbgahomaaGreatDoorMsDx6
import Derived.Test.YtljohklbgahomaaGreatDoorMsDxc
set_option linter.unusedSimpArgs false
set_option linter.unusedVariables false
set_option linter.unusedSectionVars false
set_option linter.unnecessarySimpa false
set_option maxRecDepth 100000
set_option maxHeartbeats 16000000
namespace Go.Av
open Go Go.Proofs Go.RowKit
section
attribute [local irreducible] WP WPl WPix Sat
variable (G:Nat→Option (List AVal))
theorem gu(g:FuncId)(f:Rdr→Int×Rdr){w s:Bs}{b:Bool}{h j:Heap}
  (hF:∀{n:Int} {s':Bs} {b':Bool},f ⟨w,false⟩=(n,⟨s',b'⟩)→∀{H:Heap} {p:Nat},getRow H p 0=some (188,2,[.agg [.str w,.bool false]])→Sat (CT G) g [.hp p 0 0 0] H (fun r h'=>r=.int .i64 n∧h'=H.set p (dR s' b'))):
  Sat (CT G) 204 [.hp h.length 0 0 0,.str w,.fn (.func g) [] []] (h++dR s b::j) (fun r h'=>r=.int .i64 (Rdr.part w f).1∧h'=h++dR s (b||(Rdr.part w f).2)::j):=by
 rcases e:f ⟨w,false⟩with⟨n,s',b'⟩;have hg:getRow (h++dR s b::j) h.length 0=some (188,2,[.agg [.str s,.bool b]]):=by rw[c9 _ rfl];rfl
 have hF':Sat (CT G) g [.hp (h++dR s b::j).length 0 0 0] ((h++dR s b::j)++[dR w false]) (fun r h'=>r=.int .i64 n∧h'=(h++dR s b::j)++[dR s' b']):=by
  have:=hF e (H:=(h++dR s b::j)++[dR w false]) (p:=(h++dR s b::j).length) (by rw[c9 _ rfl];rfl)
  rwa [eC _ rfl,T5]at this
 have S:=sv G g hg hF';rw[eC _ rfl,T5]at S;have e1:Rdr.part w f=(n,b'||decide (s'≠ [])):=by unfold Rdr.part;rw[e]
 rw[e1];exact S
theorem uZ(w:Bs):0≤(Rdr.part w Rdr.clock).1∧(Rdr.part w Rdr.clock).1≤1000000:=by
 show 0≤(Rdr.clock ⟨w,false⟩).1∧(Rdr.clock ⟨w,false⟩).1≤1000000;rcases e1:(Rdr.mk w false).digits 2 with⟨hh,s1,b1⟩;rcases e2:(Rdr.mk s1 b1).sign [58]with⟨x2,s2,b2⟩;rcases e3:(Rdr.mk s2 b2).digits 2 with⟨m,s3,b3⟩;rcases e4:(Rdr.mk s3 b3).sign [58]with⟨x4,s4,b4⟩;rcases e5:(Rdr.mk s4 b4).digits 2 with⟨c,s5,b5⟩;have h10:(10:Int)^2=100:=rfl;have k1:=bc e1;have k3:=bc e3;have k5:=bc e5;rw[h10]at k1 k3 k5;by_cases h3:s3=[]
 ·have ec:(Rdr.clock ⟨w,false⟩).1=3600*hh+60*m+0:=by
   unfold Rdr.clock;simp only[e1,e2,e3];simp[h3]
  rw[ec];omega
 ·have ec:(Rdr.clock ⟨w,false⟩).1=3600*hh+60*m+c:=by
   unfold Rdr.clock;simp only[e1,e2,e3,G2 h3,e4,e5]
  rw[ec];omega
theorem xJ(w:Bs): -400000≤(Rdr.part w fun r=>r.off false).1∧(Rdr.part w fun r=>r.off false).1≤400000:=Rdr.off_bd (r:=⟨w,false⟩) (c:=false)
theorem wx{w:Bs}{z:Int}(h:namF w=some z): -400000≤z∧z≤400000:=by
 unfold namF at h;split at h
 ·rename_i i _;cases h;have:∀i:Nat, -8≤hrsL.getD i 0∧hrsL.getD i 0≤0:=fun i=>by
   rw[O2];cases e:hrsL[i]? with
   |none=>exact⟨by decide,by decide⟩
   |some x=>
    have hm:=H2 e;have:∀x∈hrsL, -8≤x∧x≤0:=by decide
    exact this x hm
  have:=this i;omega
 ·cases h
theorem pn{w:List Bs}(h:¬(w.length=5∧1≤(w.getD 0 []).length∧(w.getD 0 []).length≤2)):wrdP w=none:=by
 unfold wrdP;exact G2 h
theorem wy{w:List Bs}(h:w.length=5∧1≤(w.getD 0 []).length∧(w.getD 0 []).length≤2){d y t z:Int}{b1 b2 b3 b4:Bool}(e1:Rdr.part (w.getD 0 []) Rdr.all=(d,b1))(e2:Rdr.part (w.getD 2 []) Rdr.year=(y,b2))(e3:Rdr.part (w.getD 3 []) Rdr.clock=(t,b3))
  (e4:(match namF (w.getD 4 [])with|some z=>(z,false)|none=>Rdr.part (w.getD 4 []) fun r=>r.off false)=(z,b4)):wrdP w=(Rdr.mk [] (b1||b2||b3||b4)).told ⟨y,ixS monL (w.getD 1 [])+1,d,t/3600,t/60%60,t%60⟩ z:=by
 unfold wrdP Rdr.told;rw[G5 h,e1,e2,e3];cases hn:namF (w.getD 4 [])with
 |some z'=>rw[hn]at e4;cases e4;simp
 |none=>
  rw[hn]at e4;have e4:(Rdr.part (w.getD 4 []) fun r=>r.off false)=(z,b4):=e4;simp only[];rw[e4];simp
theorem v6(hG:GOk G)(s:Bs)(hs:s.length≤8388608)(h:Heap):Sat (CT G) 184 [.str s] h (fun r h'=>r=.tup [.int .i64 ((mailP s).getD 0),.int .i64 (if (mailP s).isSome then 0 else 40)]∧h'=h):=by
 have dt:∀i:Decidable True, @decide True i=true:=fun i=>by simp
 have df:∀i:Decidable False, @decide False i=false:=fun i=>by simp
 have hS:=sy G hG s 32 hs;have hle:=pc 32 s;have em:mailP s=wrdP (if (splF 32 s).length=6∧(splF 32 s).getD 0 []∈weekL then(splF 32 s).drop 1 else splF 32 s):=rfl;generalize splF 32 s=w at*;have mw:(w.map AVal.str).length=w.length:=I7 ..;have hWk:=ss G (w.getD 0 []);have alt:∃W:List Bs,mailP s=wrdP W∧(∀x∈W,x.length≤8388608)∧((((w.length:Int)==6)=false∧w=W)∨(((w.length:Int)==6)=true∧decide (w.getD 0 []∈weekL)=false∧w[0]? =some (w.getD 0 [])∧w=W)∨
   (((w.length:Int)==6)=true∧decide (w.getD 0 []∈weekL)=true∧w[0]? =some (w.getD 0 [])∧∀H,aslice Tryz.prog H 120 (.sl 1 (w.map AVal.str)) (some (.int .i64 1)) none none=some (.sl 1 (W.map AVal.str)))):=by
  have hl:∀x∈w,x.length≤8388608:=fun x hx=>by have:=hle x hx;omega
  by_cases six:w.length=6
  ·have q6:((w.length:Int)==6)=true:=(by rw[six];rfl);have g:=ii (w:=w) (k:=0) (by omega);by_cases hm:w.getD 0 []∈weekL
   ·rw[em,G5 ⟨six,hm⟩];refine⟨w.drop 1,rfl,fun x hx=>hl x (List.mem_of_mem_drop hx),.inr (.inr ⟨q6,H0 hm,g,fun H=>?_⟩)⟩;rw[List.map_drop];exact qp (i:=1) (by simp only[go_sem];try rfl) (by simp only[go_sem];try rfl) (by rw[I7];omega)
   ·rw[em,G2 (fun n=>hm n.2)];exact⟨w,rfl,hl,.inr (.inl ⟨q6,H3 hm,g,rfl⟩)⟩
  ·rw[em,G2 (fun n=>six n.1)];exact⟨w,rfl,hl,.inl ⟨by simpa using(by omega:¬(w.length:Int)=6),rfl⟩⟩
 obtain⟨W,eW,hWl,alt⟩:=alt;rw[eW];have mW:(W.map AVal.str).length=W.length:=I7 ..;clear em eW hle;have start:∀{Q:AVal→Heap→Prop},True:=fun {Q}=>trivial
 by_cases l5:W.length=5
 rotate_left
 ·have q5:((W.length:Int) !=5)=true:=by simp only[bne_iff_ne,ne_eq];omega
  have hw:=pn (w:=W) (fun n=>l5 n.1);rcases alt with⟨q6,rfl⟩| ⟨q6,qm,g,rfl⟩| ⟨q6,qm,g,hsB⟩
  ·have F:=F5 mw q6 q5 dt df;refine sb [.tmp 2,.tmp 3] Tryz.func184 ?_;intro Q hQ;refine wk F ?_;refine kq F (hS _) ?_;refine ee hQ F ?_;exact J9 (bY _ _ _) ⟨by rw[hw];rfl,rfl⟩
  ·rw[qm]at hWk;have F:=F6 mw q6 q5 g dt df;refine sb [.tmp 2,.tmp 3] Tryz.func184 ?_;intro Q hQ;refine wk F ?_;refine kq F (hS _) ?_;refine kq F (hWk _) ?_;refine ee hQ F ?_;exact J9 (bY _ _ _) ⟨by rw[hw];rfl,rfl⟩
  ·rw[qm]at hWk;have F:=F8 mw q6 q5 g @hsB @mW dt df;refine sb [.tmp 2,.tmp 3] Tryz.func184 ?_;intro Q hQ;refine wk F ?_;refine kq F (hS _) ?_;refine kq F (hWk _) ?_;refine ee hQ F ?_;exact J9 (bY _ _ _) ⟨by rw[hw];rfl,rfl⟩
 have alt:(((w.length:Int)==6)=false∧w=W)∨(((w.length:Int)==6)=true∧decide (w.getD 0 []∈weekL)=true∧w[0]? =some (w.getD 0 [])∧∀H,aslice Tryz.prog H 120 (.sl 1 (w.map AVal.str)) (some (.int .i64 1)) none none=some (.sl 1 (W.map AVal.str))):=by
  rcases alt with a| ⟨q6,_,_,rfl⟩|a
  ·exact .inl a
  ·exfalso;rw[l5]at q6;revert q6;decide
  ·exact .inr a
 have q5:((W.length:Int) !=5)=false:=by rw[l5];rfl
 have g0:=ii (w:=W) (k:=0) (by omega);have g1:=ii (w:=W) (k:=1) (by omega);have g2:=ii (w:=W) (k:=2) (by omega);have g3:=ii (w:=W) (k:=3) (by omega);have g4:=ii (w:=W) (k:=4) (by omega);have b0:=hWl _ (H2 g0);have b2:=hWl _ (H2 g2);have b3:=hWl _ (H2 g3);have b4:=hWl _ (H2 g4);have hWi:=bV G ((W.getD 0 []).length:Int) 1 2;by_cases k0:1≤(W.getD 0 []).length∧(W.getD 0 []).length≤2
 rotate_left
 ·have e0:(decide ((1:Int)≤((W.getD 0 []).length:Int))&&decide (((W.getD 0 []).length:Int)≤2))=false:=by
   rw[Bool.and_eq_false_iff];by_cases a:1≤(W.getD 0 []).length
   ·exact .inr (H3 (by omega))
   ·exact .inl (H3 (by omega))
  rw[e0]at hWi;have hw:=pn (w:=W) (fun n=>k0 n.2);rcases alt with⟨q6,rfl⟩| ⟨q6,qm,g,hsB⟩
  ·have F:=F6 mw q6 q5 g0 dt df;refine sb [.tmp 2,.tmp 3] Tryz.func184 ?_;intro Q hQ;refine wk F ?_;refine kq F (hS _) ?_;refine kq F (hWi _) ?_;refine ee hQ F ?_;exact J9 (bY _ _ _) ⟨by rw[hw];rfl,rfl⟩
  ·rw[qm]at hWk;have F:=F9 mw q6 q5 g g0 @hsB @mW dt df;refine sb [.tmp 2,.tmp 3] Tryz.func184 ?_;intro Q hQ;refine wk F ?_;refine kq F (hS _) ?_;refine kq F (hWk _) ?_;refine kq F (hWi _) ?_;refine ee hQ F ?_;exact J9 (bY _ _ _) ⟨by rw[hw];rfl,rfl⟩
 have e0:(decide ((1:Int)≤((W.getD 0 []).length:Int))&&decide (((W.getD 0 []).length:Int)≤2))=true:=by
  rw[G1,G6,G6];omega
 rw[e0]at hWi;have hw:=fun {d y t z:Int} {b1 b2 b3 b4:Bool}=> @wy W ⟨l5,k0⟩ d y t z b1 b2 b3 b4
 have hM:=qq G hG (W.getD 1 []);have hN:=ql G (W.getD 4 []);have hP1:=fun j=>gu G 205 Rdr.all (w:=W.getD 0 []) (s:=[]) (b:=false) (h:=h) (j:=j) (fun e _ _ hg=>uA G e (by omega) hg)
 have hP2:=fun b j=>gu G 207 Rdr.year (w:=W.getD 2 []) (s:=[]) (b:=b) (h:=h) (j:=j) (fun e _ _ hg=>su G e (by omega) hg)
 have hP3:=fun b j=>gu G 208 Rdr.clock (w:=W.getD 3 []) (s:=[]) (b:=b) (h:=h) (j:=j) (fun e _ _ hg=>qo G e (by omega) hg)
 have hP4:=fun b j=>gu G 210 (fun r=>r.off false) (w:=W.getD 4 []) (s:=[]) (b:=b) (h:=h) (j:=j) (fun e _ _ hg=>uB G e (by omega) hg)
 have t0:=uZ (W.getD 3 []);have z0:=xJ (W.getD 4 []);have zn:= @wx (W.getD 4 []);rcases e1:Rdr.part (W.getD 0 []) Rdr.all with⟨d,v1⟩;rcases e2:Rdr.part (W.getD 2 []) Rdr.year with⟨y,v2⟩;rcases e3:Rdr.part (W.getD 3 []) Rdr.clock with⟨t,v3⟩;rcases e4:Rdr.part (W.getD 4 []) (fun r=>r.off false)with⟨z,v4⟩;rw[e1]at hP1;rw[e2]at hP2;rw[e3]at hP3 t0;rw[e4]at hP4 z0;simp only[O9]at hP1 hP2 hP3 hP4 t0 z0;have hg:∀(b:Bool) (j:Heap),getRow (h++dR [] b::j) h.length 0=some (188,2,[.agg [.str [],.bool b]]):=fun b j=>by rw[c9 _ rfl];rfl
 have hT:=fun(b:Bool) (m z:Int) (hz: -400000≤z∧z≤400000) (j:Heap)=>kL G (s:=[]) (b:=b) ⟨y,m,d,t/3600,t/60%60,t%60⟩ z hz (hg b j)
 simp only[Dt.av_eq]at hT;have hw:=fun {z:Int} {b4:Bool}=> @hw d y t z v1 v2 v3 b4 e1 e2 e3
 have a1:t.tdiv 3600=t/3600:=M0 t0.1;have a2:t.tdiv 60=t/60:=M0 t0.1;have a3:(t/60).tmod 60=t/60%60:=L6 (by omega);have a4:t.tmod 60=t%60:=L6 t0.1;generalize ixS monL (W.getD 1 [])+1=ix at*;cases hn:namF (W.getD 4 [])with
 |some z'=>
  rw[hn]at hN hw;have hw:=hw (z:=z') (b4:=false) rfl;have zk:=zn hn;have hN:∀h,Sat (CT G) 209 [.str (W.getD 4 [])] h (fun r h'=>r=.tup [.int .i64 z',.bool true]∧h'=h):=hN;rw[T6]at hw;rcases alt with⟨q6,rfl⟩| ⟨q6,qm,g,hsB⟩
  ·have F:=F2 (F9 mw q6 q5 g0 g1 g2 g3 g4 a1) (F6 a2 a3 a4 dt df @ak)
   skip
   refine sb [.tmp 2,.tmp 3] Tryz.func184 ?_;intro Q hQ;refine wn F ?_;refine kn F (hS _) ?_;refine kn F (hWi _) ?_;refine eP 16 [4,8,13,14,15] [true,true,true,true,false,true,true,true,false,true,true,true,true,false,false,false] (.two 4 [false,false,false,false,false,false,true,true,false,false,false,true,true] (.two 8 [false,false,false,false,false,false,false,false,false,false,false,true,true] (.two 13 [] (.two 14 [] (.one 15 [] .fin) 15 [] (.one 14 [] .fin)) 15 [false,false,false,false,false,false,false,false,false,false,false,true,true] (.one 13 [] (.one 14 [] .fin))) 15 [false,false,false,false,false,false,true,true,false,false,false,true,true] (.one 8 [false,false,false,false,false,false,false,false,false,false,false,true,true] (.one 13 [] (.one 14 [] .fin)))) 15 [false,false,true,true,false,false,true,true,false,false,false,true,true] (.one 4 [false,false,false,false,false,false,true,true,false,false,false,true,true] (.one 8 [false,false,false,false,false,false,false,false,false,false,false,true,true] (.one 13 [] (.one 14 [] .fin))))) (by decide+kernel) (by kernel_rfl) (by decide+kernel) ?_;simp only[fw,fy,cN];(try refine sq F ?_);repeat' ((first|refine bB ?_|refine bC ?_|refine bD ?_ ?_)<;>try refine sq F ?_)
   (all_goals try refine wn F ?_);repeat' (first
    | (refine(hP1 _).mono ?_;rintro r h' ⟨rfl,rfl⟩;try refine sq F ?_)
    | (refine(hP2 _ _).mono ?_;rintro r h' ⟨rfl,rfl⟩;try refine sq F ?_)
    | (refine(hM _).mono ?_;rintro r h' ⟨rfl,rfl⟩;try refine sq F ?_)
    | (refine bB ?_;try refine sq F ?_)| (refine bC ?_;try refine sq F ?_)| (refine bD ?_ ?_<;>try refine sq F ?_))
   (all_goals try refine wn F ?_);all_goals (
    refine kn F (hP3 _ _) ?_;refine kn F (hN _) ?_;refine kn F (hT _ _ _ zk _) ?_;refine ee hQ F ?_;exact I3 (bY _ _ _) ⟨by rw[hw],rfl⟩)
  ·rw[qm]at hWk;have F:=F2 (F9 mw q6 q5 g @hsB @mW g0 g1 g2) (F9 g3 g4 a1 a2 a3 a4 dt df @ak)
   skip
   refine sb [.tmp 2,.tmp 3] Tryz.func184 ?_;intro Q hQ;refine wn F ?_;refine kn F (hS _) ?_;refine kn F (hWk _) ?_;refine kn F (hWi _) ?_;refine eP 16 [4,8,13,14,15] [true,true,true,true,false,true,true,true,false,true,true,true,true,false,false,false] (.two 4 [false,false,false,false,false,false,true,true,false,false,false,true,true] (.two 8 [false,false,false,false,false,false,false,false,false,false,false,true,true] (.two 13 [] (.two 14 [] (.one 15 [] .fin) 15 [] (.one 14 [] .fin)) 15 [false,false,false,false,false,false,false,false,false,false,false,true,true] (.one 13 [] (.one 14 [] .fin))) 15 [false,false,false,false,false,false,true,true,false,false,false,true,true] (.one 8 [false,false,false,false,false,false,false,false,false,false,false,true,true] (.one 13 [] (.one 14 [] .fin)))) 15 [false,false,true,true,false,false,true,true,false,false,false,true,true] (.one 4 [false,false,false,false,false,false,true,true,false,false,false,true,true] (.one 8 [false,false,false,false,false,false,false,false,false,false,false,true,true] (.one 13 [] (.one 14 [] .fin))))) (by decide+kernel) (by kernel_rfl) (by decide+kernel) ?_;simp only[fw,fy,cN];(try refine sq F ?_);repeat' ((first|refine bB ?_|refine bC ?_|refine bD ?_ ?_)<;>try refine sq F ?_)
   (all_goals try refine wn F ?_);repeat' (first
    | (refine(hP1 _).mono ?_;rintro r h' ⟨rfl,rfl⟩;try refine sq F ?_)
    | (refine(hP2 _ _).mono ?_;rintro r h' ⟨rfl,rfl⟩;try refine sq F ?_)
    | (refine(hM _).mono ?_;rintro r h' ⟨rfl,rfl⟩;try refine sq F ?_)
    | (refine bB ?_;try refine sq F ?_)| (refine bC ?_;try refine sq F ?_)| (refine bD ?_ ?_<;>try refine sq F ?_))
   (all_goals try refine wn F ?_);all_goals (
    refine kn F (hP3 _ _) ?_;refine kn F (hN _) ?_;refine kn F (hT _ _ _ zk _) ?_;refine ee hQ F ?_;exact I3 (bY _ _ _) ⟨by rw[hw],rfl⟩)
 |none=>
  rw[hn]at hN hw;have hw:=hw (z:=z) (b4:=v4) e4;have hN:∀h,Sat (CT G) 209 [.str (W.getD 4 [])] h (fun r h'=>r=.tup [.int .i64 0,.bool false]∧h'=h):=hN;rcases alt with⟨q6,rfl⟩| ⟨q6,qm,g,hsB⟩
  ·have F:=F2 (F9 mw q6 q5 g0 g1 g2 g3 g4 a1) (F6 a2 a3 a4 dt df @ak)
   skip
   refine sb [.tmp 2,.tmp 3] Tryz.func184 ?_;intro Q hQ;refine wn F ?_;refine kn F (hS _) ?_;refine kn F (hWi _) ?_;refine eP 16 [4,8,13,14,15] [true,true,true,true,false,true,true,true,false,true,true,true,true,false,false,false] (.two 4 [false,false,false,false,false,false,true,true,false,false,false,true,true] (.two 8 [false,false,false,false,false,false,false,false,false,false,false,true,true] (.two 13 [] (.two 14 [] (.one 15 [] .fin) 15 [] (.one 14 [] .fin)) 15 [false,false,false,false,false,false,false,false,false,false,false,true,true] (.one 13 [] (.one 14 [] .fin))) 15 [false,false,false,false,false,false,true,true,false,false,false,true,true] (.one 8 [false,false,false,false,false,false,false,false,false,false,false,true,true] (.one 13 [] (.one 14 [] .fin)))) 15 [false,false,true,true,false,false,true,true,false,false,false,true,true] (.one 4 [false,false,false,false,false,false,true,true,false,false,false,true,true] (.one 8 [false,false,false,false,false,false,false,false,false,false,false,true,true] (.one 13 [] (.one 14 [] .fin))))) (by decide+kernel) (by kernel_rfl) (by decide+kernel) ?_;simp only[fw,fy,cN];(try refine sq F ?_);repeat' ((first|refine bB ?_|refine bC ?_|refine bD ?_ ?_)<;>try refine sq F ?_)
   (all_goals try refine wn F ?_);repeat' (first
    | (refine(hP1 _).mono ?_;rintro r h' ⟨rfl,rfl⟩;try refine sq F ?_)
    | (refine(hP2 _ _).mono ?_;rintro r h' ⟨rfl,rfl⟩;try refine sq F ?_)
    | (refine(hM _).mono ?_;rintro r h' ⟨rfl,rfl⟩;try refine sq F ?_)
    | (refine bB ?_;try refine sq F ?_)| (refine bC ?_;try refine sq F ?_)| (refine bD ?_ ?_<;>try refine sq F ?_))
   (all_goals try refine wn F ?_);all_goals (
    refine kn F (hP3 _ _) ?_;refine kn F (hN _) ?_;refine kn F (hP4 _ _) ?_;refine kn F (hT _ _ _ z0 _) ?_;refine ee hQ F ?_;exact I3 (bY _ _ _) ⟨by rw[hw],rfl⟩)
  ·rw[qm]at hWk;have F:=F2 (F9 mw q6 q5 g @hsB @mW g0 g1 g2) (F9 g3 g4 a1 a2 a3 a4 dt df @ak)
   skip
   refine sb [.tmp 2,.tmp 3] Tryz.func184 ?_;intro Q hQ;refine wn F ?_;refine kn F (hS _) ?_;refine kn F (hWk _) ?_;refine kn F (hWi _) ?_;refine eP 16 [4,8,13,14,15] [true,true,true,true,false,true,true,true,false,true,true,true,true,false,false,false] (.two 4 [false,false,false,false,false,false,true,true,false,false,false,true,true] (.two 8 [false,false,false,false,false,false,false,false,false,false,false,true,true] (.two 13 [] (.two 14 [] (.one 15 [] .fin) 15 [] (.one 14 [] .fin)) 15 [false,false,false,false,false,false,false,false,false,false,false,true,true] (.one 13 [] (.one 14 [] .fin))) 15 [false,false,false,false,false,false,true,true,false,false,false,true,true] (.one 8 [false,false,false,false,false,false,false,false,false,false,false,true,true] (.one 13 [] (.one 14 [] .fin)))) 15 [false,false,true,true,false,false,true,true,false,false,false,true,true] (.one 4 [false,false,false,false,false,false,true,true,false,false,false,true,true] (.one 8 [false,false,false,false,false,false,false,false,false,false,false,true,true] (.one 13 [] (.one 14 [] .fin))))) (by decide+kernel) (by kernel_rfl) (by decide+kernel) ?_;simp only[fw,fy,cN];(try refine sq F ?_);repeat' ((first|refine bB ?_|refine bC ?_|refine bD ?_ ?_)<;>try refine sq F ?_)
   (all_goals try refine wn F ?_);repeat' (first
    | (refine(hP1 _).mono ?_;rintro r h' ⟨rfl,rfl⟩;try refine sq F ?_)
    | (refine(hP2 _ _).mono ?_;rintro r h' ⟨rfl,rfl⟩;try refine sq F ?_)
    | (refine(hM _).mono ?_;rintro r h' ⟨rfl,rfl⟩;try refine sq F ?_)
    | (refine bB ?_;try refine sq F ?_)| (refine bC ?_;try refine sq F ?_)| (refine bD ?_ ?_<;>try refine sq F ?_))
   (all_goals try refine wn F ?_);all_goals (
    refine kn F (hP3 _ _) ?_;refine kn F (hN _) ?_;refine kn F (hP4 _ _) ?_;refine kn F (hT _ _ _ z0 _) ?_;refine ee hQ F ?_;exact I3 (bY _ _ _) ⟨by rw[hw],rfl⟩)
theorem wB(hA:DateC G 156 anyF)(hL:LinkC G 51)(e:Elem)(hs:e.sz≤1048576)(h:Heap):Sat (CT G) 13 [e.av] h (fun r h'=>r=.tup [((ofE e).getD Fd.z).av,.int .i64 (if (ofE e).isSome then 0 else 120)]∧h'=h):=
 sX G e (fun h=>sU G hA e hs h) (fun h=>qL G hL e hs h) h
theorem sZ(hG:GOk G):DateC G 156 anyF:=fun s hs h=>by
 have hW:=pf G s (by omega);have hM:=v6 G hG s hs;rw[m4]at hW;rw[vK]at hM;unfold anyF;cases e:webR s with
 |some n=>
  rw[e]at hW;have hW:∀h,Sat (CT G) 183 [.str s] h (fun r h'=>r=.tup [.int .i64 n,.int .i64 0]∧h'=h):=hW;refine sb [.tmp 2,.tmp 3] Tryz.func156 ?_;intro Q hQ;refine wk trivial ?_;refine kq trivial (hW _) ?_;refine ee hQ trivial ?_;exact J9 (bY _ _ _) ⟨rfl,rfl⟩
 |none=>
  rw[e]at hW;have hW:∀h,Sat (CT G) 183 [.str s] h (fun r h'=>r=.tup [.int .i64 0,.int .i64 40]∧h'=h):=hW;refine sb [.tmp 2,.tmp 3] Tryz.func156 ?_;intro Q hQ;refine wk trivial ?_;refine kq trivial (hW _) ?_;refine kq trivial (hM _) ?_;refine ee hQ trivial ?_;exact J9 (bY _ _ _) ⟨rfl,rfl⟩
theorem xL:LinkC G 51:=fun e hs h=>sY G e hs h
theorem mU(hG:GOk G)(e:Elem)(hs:e.sz≤1048576)(h:Heap):Sat (CT G) 13 [e.av] h (fun r h'=>r=.tup [((ofE e).getD Fd.z).av,.int .i64 (if (ofE e).isSome then 0 else 120)]∧h'=h):=
 wB G (sZ G hG) (xL G) e hs h
def fdE(e:Elem):Fd×Int:=match ofE e with
 |some d=>(d,0)
 |none=>(Fd.z,120)
def rdD(s:Bs):Fd×Int:=if prsC s=0 then(match bldF (toksF s).1 with
 |some e=>fdE e
 |none=>(Fd.z,0))else(Fd.z,prsC s)
theorem zQ{s:Bs}(h:prsC s=0):∃y,bldF (toksF s).1=some y:=by
 unfold prsC at h;by_cases c0:(toksF s).2=0
 ·rw[G5 c0]at h;cases hb:bldF (toksF s).1 with
  |none=>rw[hb]at h;exact absurd h (by decide)
  |some y=>exact⟨y,rfl⟩
 ·rw[G2 c0]at h;exact absurd h c0
theorem wC{s:Bs}(h:prsC s≠0):rdD s=(Fd.z,prsC s):=by unfold rdD;rw[G2 h]
theorem mV{s:Bs}{e:Elem}(h:prsC s=0)(he:bldF (toksF s).1=some e):rdD s=fdE e:=by unfold rdD;rw[G5 h,he]
def RdD(h:Heap)(s:Bs)(r:AVal)(h':Heap):Prop:=r=.tup [(rdD s).1.av,.int .i64 (rdD s).2]∧h'=h
theorem wE(Z:Heap)(n:Nat)(c:Int):Frz Z n (.tup [.agg [.str [],.str [],.nil (.slice none 0 0)],.int .i64 c]) (.tup [Fd.z.av,.int .i64 c]):=
 FrzL.tup (.cons (FrzL.agg (.cons (.clo _ (.str _)) (.cons (.clo _ (.str _)) (.cons (.nils 5) .nil))) rfl) (.cons (.clo _ (.int _ _)) .nil))
theorem RdD.bad{h:Heap}{s:Bs}(j:Heap)(c:Int)(e:rdD s=(Fd.z,c)):Fin h (h++j) (RdD h s) (.tup [.agg [.str [],.str [],.nil (.slice none 0 0)],.int .i64 c]):=by
 refine U9 (wE _ _ _) ⟨?_,rfl⟩;rw[e]
theorem RdD.ok{h:Heap}{s:Bs}(j:Heap)(d:Fd)(c:Int)(e:rdD s=(d,c)):Fin h (h++j) (RdD h s) (.tup [d.av,.int .i64 c]):=by
 refine I3 (mS _ d c) ⟨?_,rfl⟩;rw[e]
theorem nZ(hG:GOk G)(hC:GClo (CT G))(s:Bs)(hs:s.length≤4194304)(h:Heap):Sat (CT G) 8 [.str s] h (RdD h s):=by
 have hsz:=kT s;have F:= @ak;refine sb [.cell 2 25,.tmp 3] Tryz.func8 ?_;intro Q hQ;refine wk F ?_;refine(qQ G hG hC s (by omega) _).mono ?_;rintro r h' ⟨e,rfl,he,hez,rfl⟩;try refine sq F ?_
 refine wk F ?_;by_cases c0:prsC s=0
 ·obtain⟨y,hb⟩:=zQ c0;have hey:=he y c0 hb;subst hey;have hes:=wl hb;have hr:=mV c0 hb;have hO:=mU G hG e (by omega);have b0:(prsC s !=0)=false:=by simpa using c0
  obtain⟨e1,e2,e3,e4⟩:=e;unfold fdE at hr;cases ho:ofE ⟨e1,e2,e3,e4⟩with
  |some d=>
   rw[ho]at hr hO;obtain⟨t,k,es⟩:=d;have hO:∀h,Sat (CT G) 13 [(Elem.mk e1 e2 e3 e4).av] h (fun r h'=>r=.tup [.agg [.str t,.str k,.sl 5 (es.map En.av)],.int .i64 0]∧h'=h):=hO;have F:=F2 F b0;(try refine sq F ?_);refine wk F ?_;refine kq F (hO _) ?_;refine ye hQ F ?_;exact RdD.ok _ ⟨t,k,es⟩ _ hr
  |none=>
   rw[ho]at hr hO;have hO:∀h,Sat (CT G) 13 [(Elem.mk e1 e2 e3 e4).av] h (fun r h'=>r=.tup [.agg [.str [],.str [],.sl 5 []],.int .i64 120]∧h'=h):=hO;have F:=F2 F b0;(try refine sq F ?_);refine wk F ?_;refine kq F (hO _) ?_;refine ye hQ F ?_;exact RdD.ok _ Fd.z _ hr
 ·have b0:(prsC s !=0)=true:=by simpa using c0
  have F:=F2 F b0;try refine sq F ?_
  refine wk F ?_;refine ye hQ F ?_;exact RdD.bad _ _ (wC c0)
end
section
theorem t7:∀(f:Nat) (s:Bs) (n:Nat),s.length≤f→s.length≤n→cutN f s n=s.length:=by
 intro f;induction f with
 |zero=>intro s n hf _;rw[cutN];omega
 |succ f ih=>
  intro s n hf hn;rw[cutN];by_cases hs:s=[]
  ·subst hs;rfl
  ·have hp:=N6.2 hs;have hd:=aQ s 0 hp;rw[G2 hs,G2 (by omega),ih _ _ (by rw[L4];omega) (by rw[L4];omega),L4];omega
theorem t8{s:Bs}{n:Nat}(h:textO s n=true):shortF s n=s:=by
 unfold textO at h;simp only[G1,G6]at h;have hc:cutF s n=s:=by unfold cutF;rw[t7 _ _ _ (H6 _) h.1.1];exact List.take_length
 unfold shortF;rw[h.2,hc,h.2]
theorem mX:∀(l out:List En),(l.foldl onceS out).length=out.length+l.length→l.foldl onceS out=out++l
 | [],out,_=>by simp
 |x::l,out,h=>by
  have key:∀(l out:List En),(l.foldl onceS out).length≤out.length+l.length:=by
   intro l;induction l with
   |nil=>intro out;simp
   |cons x l ih=>
    intro out;have h1:=ih (onceS out x);have h2:(onceS out x).length≤out.length+1:=(by unfold onceS;split<;>simp);rw[List.foldl_cons,G0];omega
  rw[List.foldl_cons]at h ⊢;rw[G0]at h;have h1:=key l (onceS out x);have hs:onceS out x=out++[x]:=by
   by_cases c:(out.any fun y=>decide (y.guid=x.guid))=true
   ·exfalso;have e:onceS out x=out:=(by unfold onceS;rw[G5 c]);rw[e]at h h1;omega
   ·unfold onceS;rw[G2 c]
  rw[hs]at h ⊢;rw[mX l _ (by rw[G4,List.length_singleton];omega),J4];rfl
theorem vg{l:List En}(h:(onceF l).length=l.length):onceF l=l:=mX l [] (by rw[G8,L0];exact h)
theorem hU{e:Elem}{n s:Bs}{m:Nat}(hk:kidF e n=(onE n s,true))(h:textO s m=true):fieldF e n m=s:=by
 unfold fieldF;rw[hk];exact t8 h
theorem vh{x:En}(h:enOk x=true):entR (itmE x)=some x:=by
 unfold enOk at h;simp only[G1,G6]at h;obtain⟨h0,h1,h2,h3,h4⟩:=h;obtain⟨g,t,l,n,b⟩:=x;simp only[]at h0 h1 h2 h3;have f1:=hU (e:=itmE ⟨g,t,l,n,b⟩) (n:=bGuid) (s:=g) rfl h1;have f2:=hU (e:=itmE ⟨g,t,l,n,b⟩) (n:=bTitle) (s:=t) rfl h2;have f3:=hU (e:=itmE ⟨g,t,l,n,b⟩) (n:=bLink) (s:=l) rfl h3;unfold entR;rw[f1,f2,f3];have ho:orF g l t=g:=by unfold orF;rw[G5 h0]
 rw[ho];unfold mkE;rw[G2 h0];unfold dateOk at h4;cases b with
 |true=>
  simp only[if_true]at h4;have hk:kidF (itmE ⟨g,t,l,n,true⟩) bPub=(onE bPub (showF n),true):=rfl;have hm:momL anyF (itmE ⟨g,t,l,n,true⟩) [bPub,bDate]=some n:=by
   unfold momL momE;rw[hk];simp only[if_true];rw[show(onE bPub (showF n)).text=showF n from rfl,uR h4]
  rw[hm];rfl
 |false=>
  simp only[I4,if_false,G6]at h4;have hm:momL anyF (itmE ⟨g,t,l,n,false⟩) [bPub,bDate]=none:=rfl;rw[hm,h4];rfl
theorem vj(l:List En):(l.map itmE).filter (fun k=>decide (short k.name=bItem))=l.map itmE:=by
 refine P8.2 fun k hk=>?_
 obtain⟨x,_,rfl⟩:=K6.1 hk;rfl
theorem mY:∀l:List En,(∀x∈l,enOk x=true)→(l.map itmE).filterMap entR=l
 | [],_=>rfl
 |x::l,h=>by
  rw[J7,List.filterMap_cons,vh (h x (by simp))];simp only[];rw[mY l fun y hy=>h y (by simp[hy])]
theorem zR{d:Fd}(h:fdOk d=true):ofE (fdEl d)=some d:=by
 obtain⟨t,l,es⟩:=d;unfold fdOk at h;simp only[G1,G6]at h;obtain⟨h1,h2,h3,h4,h5⟩:=h;have hk:kidF (fdEl ⟨t,l,es⟩) bChan=(chE ⟨t,l,es⟩,true):=rfl;have f1:=hU (e:=chE ⟨t,l,es⟩) (n:=bTitle) (s:=t) rfl h2;have f2:=hU (e:=chE ⟨t,l,es⟩) (n:=bLink) (s:=l) rfl h3;have hi:kidsF (chE ⟨t,l,es⟩) bItem=es.map itmE:=vj es;have hn:decide (short (fdEl ⟨t,l,es⟩).name=bRss)=true:=rfl;have he:entsF entR (es.map itmE)=es:=by
  unfold entsF;rw[mY es (I0.1 h5),H9 h1]
 unfold ofE rssF;rw[hk,hn];simp only[Bool.and_self,if_true];rw[f1,f2,hi,he];simp only[O4,vg h4]
theorem xM{d:Fd}(h:fdOk d=true)(hl:(fdT d).length≤65536):rdD (fdT d)=(d,0):=by
 have h1:d.es.length≤256:=by
  unfold fdOk at h;simp only[G1,G6]at h;exact h.1
 have ht:toksF (fdT d)=((fdP d).map (·.2),0):=qD (ws d) hl (wu d h1);have hb:bldF (toksF (fdT d)).1=some (fdEl d):=by rw[ht];exact ww d
 have hp:prsC (fdT d)=0:=by
  unfold prsC;rw[hb,ht];rfl
 rw[mV hp hb];unfold fdE;rw[zR h]
def itmT(x:En):Bs:=opn bItem++(onF bGuid x.guid++(onF bTitle x.title++(onF bLink x.link++((if x.dated then onF bPub (showF x.date)else [])++cls bItem))))
theorem ta(x:En):(itmP x).flatMap (·.1)=itmT x:=by
 unfold itmP itmT pubP;rw[M2,P2,P2,P2,P2,dp,dp,dp];cases x.dated with
 |true=>simp only[if_true,dp];simp[opK,clK]
 |false=>simp[opK,clK]
theorem mZ(d:Fd):fdT d=opn bRss++(opn bChan++(onF bTitle d.title++(onF bLink d.link++(d.es.flatMap itmT++(cls bChan++cls bRss))))):=by
 have hi:(d.es.flatMap itmP).flatMap (·.1)=d.es.flatMap itmT:=by
  rw[List.flatMap_assoc];congr 1
  funext x
  exact ta x
 unfold fdT fdP;rw[M2,M2,P2,P2,P2,dp,dp,hi];simp[opK,clK]
end
section
attribute [local irreducible] WP WPl WPix Sat
variable (G:Nat→Option (List AVal))
def bldWR(a:AVal)(q v:Nat)(s:Bs):Blk:=.row 61 2 0 [.agg [a,.hs q v 0 s.length true]]
@[go_sem] theorem yB(a:AVal)(q v:Nat)(s:Bs)(l:Heap):getRow (bldWR a q v s::l) 0 0=some (61,2,[.agg [a,.hs q v 0 s.length true]]):=rfl
theorem o0:ptrConv Tryz.prog 56 124 61 2=true:=by kernel_rfl
theorem ln:ptrConv Tryz.prog 124 56 61 2=true:=by kernel_rfl
attribute [go_sem] o0 ln
theorem vk(n p q v:Nat)(s:Bs)(hp:p<n)(hq:q<n):CloB n (bldWR (.hp p 0 0 0) q v s):=by
 intro r hr;simp only[L8]at hr;subst hr;refine .agg _ fun c hc=>?_
 simp only[J5,P7,or_false]at hc;rcases hc with rfl|rfl
 ·exact .hp _ _ _ _ hp
 ·exact .hs _ _ _ _ _ hq
def bldW(h j:Heap)(a:AVal)(v:Nat)(s:Bs):Heap:=h++bldWR a (h.length+1) v s::bufR v s::j
theorem bj(h j:Heap)(a:AVal)(v:Nat)(s:Bs):(bldW h j a v s).length=h.length+(2+j.length):=by simp[bldW];omega
theorem ff(h j:Heap)(a:AVal)(v v':Nat)(s s':Bs):∀(p:Nat) (k:Blk),(bldW h j (.hp h.length 0 0 0) v' s')[p]? =some k→(bldW h j a v s)[p]? =some k∨CloB (bldW h j a v s).length k:=by
 rw[bj];exact vw (vk _ _ _ _ _ (by omega) (by omega)) (ib _ _ _)
theorem jQ(a:AVal)(h j:Heap)(v:Nat)(s:Bs)(ha:bldA a h.length):
  Sat (CT G) 60 [.hp h.length 0 0 0] (bldW h j a v s) (fun r h'=>r=.tup []∧h'=bldW h j (.hp h.length 0 0 0) v s):=by
 have hK:=ff h j a v v s s;have hl:=(bj h j (.hp h.length 0 0 0) v s).trans (bj h j a v s).symm;have hfin:∀t',Fin (bldW h j a v s) (bldW h j (.hp h.length 0 0 0) v s) (fun r h'=>r=.tup []∧h'=bldW h j (.hp h.length 0 0 0) v s) t'∨True:=fun _=>.inr trivial
 have end_:Fin (bldW h j a v s) (bldW h j (.hp h.length 0 0 0) v s) (fun r h'=>r=.tup []∧h'=bldW h j (.hp h.length 0 0 0) v s) (.tup []):=V0 hl hK (.tup _ (by simp)) ⟨rfl,rfl⟩;clear hfin hK hl;unfold bldW at*;refine sb [] Tryz.func60 ?_;intro Q hQ;(repeat (first|refine w1 (fun K hK=>?_)|refine w2 ?_|refine w3 ?_| ((first|refine w4 ?_|refine wD ?_|refine w5 ?_|refine w6 ?_|refine w7 ?_);try refine sq trivial ?_)| (refine w8 ?_;refine sq trivial ?_;refine w9 ?_)| ((first|refine hK _ _ (w0 ?_)| (clear hK K;refine hK _ _ (w0 ?_))| (clear hK K;clear hK K;refine hK _ _ (w0 ?_)));clear hK K)))
 rcases ha with rfl|rfl
 ·rw[jY,oK];simp(disch:=first|omega| (simp only[go_sem, ↓reduceIte,seval];first|done|omega)|fail) only[go_sem, ↓reduceIte,seval];(repeat (first|refine w1 (fun K hK=>?_)|refine w2 ?_|refine w3 ?_| ((first|refine w4 ?_|refine wD ?_|refine w5 ?_|refine w6 ?_|refine w7 ?_);try refine sq trivial ?_)| (refine w8 ?_;refine sq trivial ?_;refine w9 ?_)| ((first|refine hK _ _ (w0 ?_)| (clear hK K;refine hK _ _ (w0 ?_))| (clear hK K;clear hK K;refine hK _ _ (w0 ?_)));clear hK K)))
  try refine⟨by simp,?_⟩
  refine(eJ G _ _).mono ?_;rintro r h' ⟨rfl,rfl⟩;simp(disch:=first|omega| (simp only[go_sem, ↓reduceIte,seval];first|done|omega)|fail) only[go_sem, ↓reduceIte,seval,List.cons_ne_nil];refine(hQ _ _ ?_).2;simp(disch:=first|omega| (simp only[go_sem, ↓reduceIte,seval];first|done|omega)|fail) only[go_sem, ↓reduceIte,seval];exact end_
 ·rw[lK,kx _ _ _ (by simp(disch:=first|omega| (simp only[go_sem, ↓reduceIte,seval];first|done|omega)|fail) only[go_sem, ↓reduceIte,seval];rfl)];simp(disch:=first|omega| (simp only[go_sem, ↓reduceIte,seval];first|done|omega)|fail) only[go_sem, ↓reduceIte,seval];(repeat (first|refine w1 (fun K hK=>?_)|refine w2 ?_|refine w3 ?_| ((first|refine w4 ?_|refine wD ?_|refine w5 ?_|refine w6 ?_|refine w7 ?_);try refine sq trivial ?_)| (refine w8 ?_;refine sq trivial ?_;refine w9 ?_)| ((first|refine hK _ _ (w0 ?_)| (clear hK K;refine hK _ _ (w0 ?_))| (clear hK K;clear hK K;refine hK _ _ (w0 ?_)));clear hK K)))
  rw[m7 _ _ (by exact zq trivial)];simp(disch:=first|omega| (simp only[go_sem, ↓reduceIte,seval];first|done|omega)|fail) only[go_sem, ↓reduceIte,seval];(repeat (first|refine w1 (fun K hK=>?_)|refine w2 ?_|refine w3 ?_| ((first|refine w4 ?_|refine wD ?_|refine w5 ?_|refine w6 ?_|refine w7 ?_);try refine sq trivial ?_)| (refine w8 ?_;refine sq trivial ?_;refine w9 ?_)| ((first|refine hK _ _ (w0 ?_)| (clear hK K;refine hK _ _ (w0 ?_))| (clear hK K;clear hK K;refine hK _ _ (w0 ?_)));clear hK K)))
  refine(hQ _ _ ?_).2;simp(disch:=first|omega| (simp only[go_sem, ↓reduceIte,seval];first|done|omega)|fail) only[go_sem, ↓reduceIte,seval];exact end_
theorem cD(a:AVal)(h j:Heap)(v:Nat)(s x:Bs)(ha:bldA a h.length)(hs:s.length+x.length≤1073741824):
  Sat (CT G) 31 [.hp h.length 0 0 0,.str x] (bldW h j a v s) (fun r h'=>r=.tup [.int .i64 x.length,.nil .nilIface]∧h'=bldW h j (.hp h.length 0 0 0) (v+1) (s++x)):=by
 have end_:Fin (bldW h j a v s) (bldW h j (.hp h.length 0 0 0) (v+1) (s++x)) (fun r h'=>r=.tup [.int .i64 x.length,.nil .nilIface]∧h'=bldW h j (.hp h.length 0 0 0) (v+1) (s++x)) (.tup [.int .i64 x.length,.nil .nilIface]):=
  V0 ((bj ..).trans (bj ..).symm) (ff _ _ _ _ _ _ _) (.tup _ (by intro c hc;simp at hc;rcases hc with rfl|rfl;exact .int _ _;exact .nil _)) ⟨rfl,rfl⟩
 refine sb [.tmp 4,.tmp 5] Tryz.func31 ?_;intro Q hQ;refine wk trivial ?_;refine(jQ G a h j v s ha).mono ?_;rintro r h' ⟨rfl,rfl⟩;unfold bldW at*;try refine sq trivial ?_
 refine wk trivial ?_;refine bx (.inr (by exact zq trivial)) (by exact zq trivial) (by exact zq trivial) cd dJ (by omega) (ky _ x) (by simp(disch:=first|omega| (simp only[go_sem, ↓reduceIte,seval];first|done|omega)|fail) only[go_sem, ↓reduceIte,seval,aO];rfl) (by simp) ?_ ?_
 ·simp[maxLen];omega
 simp(disch:=first|omega| (simp only[go_sem, ↓reduceIte,seval];first|done|omega)|fail) only[go_sem, ↓reduceIte,seval];refine wk trivial ?_;refine(hQ _ _ ?_).1;simp(disch:=first|omega| (simp only[go_sem, ↓reduceIte,seval];first|done|omega)|fail) only[go_sem, ↓reduceIte,seval];simp only[bldWR,bufR,G4,M1,I7]at end_ ⊢;exact end_
theorem o8(a:AVal)(h j:Heap)(v:Nat)(s:Bs):Sat (CT G) 34 [.hp h.length 0 0 0] (bldW h j a v s) (fun r h'=>r=.str s∧∃b,h'=h++bldWR a (h.length+1) v s::b::j):=by
 unfold bldW;have F:= @aO;refine sb [.tmp 2] Tryz.func34 ?_;intro Q hQ;refine wk F ?_;have fin:∀b,Fin (h++bldWR a (h.length+1) v s::bufR v s::j) (h++bldWR a (h.length+1) v s::b::j) (fun r h'=>r=.str s∧∃b,h'=h++bldWR a (h.length+1) v s::b::j) (.str s)∨¬(b=bufR v s∨b=.dead):=fun b=>by
  by_cases hb:b=bufR v s∨b=.dead
  ·refine .inl (V0 (by simp) (fun p k hk=>?_) (.str _) ⟨rfl,b,rfl⟩);rcases P6 p h.length with h1|h1
   ·rw[G9 h1]at hk ⊢;exact .inl hk
   ·rw[H8 h1]at hk ⊢
    match p-h.length,hk with
    |0,hk=>exact .inl (by simpa using hk)
    |1,hk=>
     simp at hk;subst hk;rcases hb with rfl|rfl
     ·exact .inl (by simp)
     ·exact .inr trivial
    |i+2,hk=>exact .inl (by simpa using hk)
  ·exact .inr hb
 rcases Nat.eq_zero_or_pos s.length with h0|h0
 ·have hs:s=[]:=L3.1 h0;subst hs;simp(disch:=first|omega| (simp only[go_sem, ↓reduceIte,seval];first|done|omega)|fail) only[go_sem, ↓reduceIte,seval,F,G8,Nat.lt_irrefl,Int.natCast_zero];refine wk F ?_;refine ee hQ F ?_;rcases fin (bufR v [])with f|f
  ·exact f
  ·exact absurd (.inl rfl) f
 ·simp(disch:=first|omega| (simp only[go_sem, ↓reduceIte,seval];first|done|omega)|fail) only[go_sem, ↓reduceIte,seval,F,h0];refine lL h0 (by simp(disch:=first|omega| (simp only[go_sem, ↓reduceIte,seval];first|done|omega)|fail) only[go_sem, ↓reduceIte,seval,F];rfl) rG (by simp) (by rw[H9 (by simp)];exact fP s) ?_;try refine sq F ?_
  refine wk F ?_;refine ee hQ F ?_;rcases fin .dead with f|f
  ·exact f
  ·exact absurd (.inr rfl) f
theorem n7{s:Bs}{k:Nat}{y:UInt8}(hy:s[k]? =some y){e:Bs}(he:escB y=e):escF (s.take (k+1))=escF (s.take k)++e:=by
 rw[M8,hy, ← he];exact sM _ _
theorem n8(s:Bs)(k:Nat):(escF (s.take k)).length≤6*s.length:=by
 have h1:=(dn (s.take k)).1;have h2:(s.take k).length≤s.length:=by rw[I6];omega
 omega
theorem wF{y:UInt8}{k:Nat}(hk:k<256)(h:(y.toNat:Int)=(k:Int)):y=UInt8.ofNat k:=by
 apply UInt8.toNat_inj.1
 rw[UInt8.toNat_ofNat',Nat.mod_eq_of_lt hk];omega
theorem cu{y:UInt8}{e:Bs}(k:Nat)(hk:k<256)(h:(y.toNat:Int)=(k:Int))(he:escB (UInt8.ofNat k)=e):escB y=e:=by rw[wF hk h];exact he
theorem fC{y:UInt8}{k:Nat}(hk:k<256)(h:¬(y.toNat:Int)=(k:Int)):y≠UInt8.ofNat k:=by
 rintro rfl
 apply h
 rw[UInt8.toNat_ofNat',Nat.mod_eq_of_lt hk]
theorem td{y:UInt8}(c1:¬(y.toNat:Int)=38)(c2:¬(y.toNat:Int)=60)(c3:¬(y.toNat:Int)=62)(c4:¬(y.toNat:Int)=34)(c5:¬(y.toNat:Int)=39):escB y=[y]:=by
 have h1:y≠38:=fC (k:=38) (by omega) c1;have h2:y≠60:=fC (k:=60) (by omega) c2;have h3:y≠62:=fC (k:=62) (by omega) c3;have h4:y≠34:=fC (k:=34) (by omega) c4;have h5:y≠39:=fC (k:=39) (by omega) c5;unfold escB;rw[G2 h1,G2 h2,G2 h3,G2 h4,G2 h5]
theorem qR(s:Bs)(hs:s.length≤1048576)(h:Heap):Sat (CT G) 61 [.str s] h (fun r h'=>r=.str (escF s)∧h'=h):=by
 refine sb [.tmp 2] Tryz.func61 ?_;intro Q hQ;refine wk trivial ?_;refine lm (fun nL tL hL=>∃(k v:Nat) (a:AVal),s.length-k=nL∧bldH h [] a v (escF (s.take k))=hL∧tL 7=.int .i64 k∧bldA a h.length∧k≤s.length) ((fun(k v:Nat) (a:AVal)=>(s.length-k:Nat)) (0) (0) ((.nil (.pointer none)))) ?_ ?_
 ·refine⟨_,_,U3 (p:=h.length) (v:=0) 5 1 (by omega) (by simp(disch:=first|omega| (simp only[go_sem, ↓reduceIte,seval];first|done|omega)|fail) only[go_sem, ↓reduceIte,seval];rfl) 1 rfl,⟨0,0,(.nil (.pointer none)),rfl,aw,?_,.inl rfl,by omega⟩⟩;all_goals try exact zZz trivial
 rintro _ s2 h' ⟨k,v,a,rfl,rfl,e7,ha,hk⟩ K2 hK2;simp only[am,ar,Nat.reduceEqDiff, ↓reduceIte]at e7;have F:=e7;have hel:=n8 s k;refine wk F ?_;refine cq F (fun c0=>?_) (fun c0=>?_)<;>(try exact c0.elim)<;>(refine wk F ?_)
 ·obtain⟨y,hy,hym⟩:=aj c0;have nx:= @n7 s k y hy;have F:=F2 F hy;try refine sq F ?_
  refine wk F ?_;refine cq F (fun c1=>?_) (fun c1=>?_)<;>(try exact c1.elim)<;>(refine wk F ?_)
  ·refine kq F (bf G a h [] v (escF (s.take k)) [38,97,109,112,59] ha (by simp;omega)) ?_;refine hK2 _ _ _ (H5 ⟨k+1,v+1,(.hp h.length 0 0 0),rfl,by rw[@nx [38,97,109,112,59] (cu 38 (by omega) c1 rfl)],?_,.inr rfl,by omega⟩) (by omega);all_goals try exact zZz F
  refine cq F (fun c2=>?_) (fun c2=>?_)<;>(try exact c2.elim)<;>(refine wk F ?_)
  ·refine kq F (bf G a h [] v (escF (s.take k)) [38,108,116,59] ha (by simp;omega)) ?_;refine hK2 _ _ _ (H5 ⟨k+1,v+1,(.hp h.length 0 0 0),rfl,by rw[@nx [38,108,116,59] (cu 60 (by omega) c2 rfl)],?_,.inr rfl,by omega⟩) (by omega);all_goals try exact zZz F
  refine cq F (fun c3=>?_) (fun c3=>?_)<;>(try exact c3.elim)<;>(refine wk F ?_)
  ·refine kq F (bf G a h [] v (escF (s.take k)) [38,103,116,59] ha (by simp;omega)) ?_;refine hK2 _ _ _ (H5 ⟨k+1,v+1,(.hp h.length 0 0 0),rfl,by rw[@nx [38,103,116,59] (cu 62 (by omega) c3 rfl)],?_,.inr rfl,by omega⟩) (by omega);all_goals try exact zZz F
  refine cq F (fun c4=>?_) (fun c4=>?_)<;>(try exact c4.elim)<;>(refine wk F ?_)
  ·refine kq F (bf G a h [] v (escF (s.take k)) [38,113,117,111,116,59] ha (by simp;omega)) ?_;refine hK2 _ _ _ (H5 ⟨k+1,v+1,(.hp h.length 0 0 0),rfl,by rw[@nx [38,113,117,111,116,59] (cu 34 (by omega) c4 rfl)],?_,.inr rfl,by omega⟩) (by omega);all_goals try exact zZz F
  refine cq F (fun c5=>?_) (fun c5=>?_)<;>(try exact c5.elim)<;>(refine wk F ?_)
  ·refine kq F (bf G a h [] v (escF (s.take k)) [38,97,112,111,115,59] ha (by simp;omega)) ?_;refine hK2 _ _ _ (H5 ⟨k+1,v+1,(.hp h.length 0 0 0),rfl,by rw[@nx [38,97,112,111,115,59] (cu 39 (by omega) c5 rfl)],?_,.inr rfl,by omega⟩) (by omega);all_goals try exact zZz F
  ·have e:=td c1 c2 c3 c4 c5;refine kq F (bW G a h [] v (escF (s.take k)) y ha (by omega)) ?_;refine hK2 _ _ _ (H5 ⟨k+1,v+1,(.hp h.length 0 0 0),rfl,by rw[nx e],?_,.inr rfl,by omega⟩) (by omega);all_goals try exact zZz F
 ·have e:s.take k=s:=H9 (by omega);refine(fQ G a h [] v (escF (s.take k))).mono ?_;rintro r h' ⟨rfl,b2,rfl⟩;try refine sq F ?_
  refine wk F ?_;refine ee hQ F ?_;exact U1 (j:=[bldR a (h.length+1) v (escF (s.take k)),b2]) (by simp) (.str _) ⟨by rw[e],rfl⟩
theorem o9(s:Bs)(hs:s.length≤1048576)(h:Heap):Sat (CT G) 66 [.str s] h (fun r h'=>r=.str (escF s)∧h'=h):=by
 refine sb [.tmp 2] Tryz.func66 ?_;intro Q hQ;refine wk trivial ?_;refine lm (fun nL tL hL=>∃(k:Nat),s.length-k=nL∧h=hL∧tL 3=.str (escF (s.take k))∧tL 4=.int .i64 k∧k≤s.length) ((fun(k:Nat)=>(s.length-k:Nat)) (0)) ?_ ?_
 ·refine H5 ⟨0,rfl,aw,?_,?_,by omega⟩;all_goals try exact zZz trivial
 rintro _ s2 h' ⟨k,rfl,rfl,e3,e4,hk⟩ K2 hK2;simp only[am,ar,Nat.reduceEqDiff, ↓reduceIte]at e3 e4;have F:=F2 e3 e4;have hel:=n8 s k;refine wk F ?_;refine cq F (fun c0=>?_) (fun c0=>?_)<;>(try exact c0.elim)<;>(refine wk F ?_)
 ·obtain⟨y,hy,hym⟩:=aj c0;have nx:= @n7 s k y hy;have hsl:(s.take (k+1)).drop k=[y]:=by rw[M8,hy,List.drop_append_of_le_length (by rw[I6];omega),S6 (by rw[I6];omega)];rfl
  have F:=F2 F hy;try refine sq F ?_
  refine wk F ?_;refine cq F (fun c1=>?_) (fun c1=>?_)<;>(try exact c1.elim)<;>(refine wk F ?_)
  ·rw[← @nx [38,97,109,112,59] (cu 38 (by omega) c1 rfl)];refine hK2 _ _ _ (H5 ⟨k+1,rfl,aw,?_,?_,by omega⟩) (by omega);all_goals try exact zZz F
  refine cq F (fun c2=>?_) (fun c2=>?_)<;>(try exact c2.elim)<;>(refine wk F ?_)
  ·rw[← @nx [38,108,116,59] (cu 60 (by omega) c2 rfl)];refine hK2 _ _ _ (H5 ⟨k+1,rfl,aw,?_,?_,by omega⟩) (by omega);all_goals try exact zZz F
  refine cq F (fun c3=>?_) (fun c3=>?_)<;>(try exact c3.elim)<;>(refine wk F ?_)
  ·rw[← @nx [38,103,116,59] (cu 62 (by omega) c3 rfl)];refine hK2 _ _ _ (H5 ⟨k+1,rfl,aw,?_,?_,by omega⟩) (by omega);all_goals try exact zZz F
  refine cq F (fun c4=>?_) (fun c4=>?_)<;>(try exact c4.elim)<;>(refine wk F ?_)
  ·rw[← @nx [38,113,117,111,116,59] (cu 34 (by omega) c4 rfl)];refine hK2 _ _ _ (H5 ⟨k+1,rfl,aw,?_,?_,by omega⟩) (by omega);all_goals try exact zZz F
  refine cq F (fun c5=>?_) (fun c5=>?_)<;>(try exact c5.elim)<;>(refine wk F ?_)
  ·rw[← @nx [38,97,112,111,115,59] (cu 39 (by omega) c5 rfl)];refine hK2 _ _ _ (H5 ⟨k+1,rfl,aw,?_,?_,by omega⟩) (by omega);all_goals try exact zZz F
  ·have e:=td c1 c2 c3 c4 c5;rw[hsl,G5 (by simp only[G0,G8];omega), ← nx e];(try refine sq F ?_);refine wk F ?_;refine hK2 _ _ _ (H5 ⟨k+1,rfl,aw,?_,?_,by omega⟩) (by omega);all_goals try exact zZz F
 ·have e:s.take k=s:=H9 (by omega);rw[e];refine ee hQ F ?_;refine fR (.str _) ?_;rfl
theorem eR(n:Int)(h0:0≤n)(h1:n<100)(h:Heap):Sat (CT G) 93 [.int .i64 n,.int .i64 2] h (fun r h'=>r=.str (digsF 2 n)∧h'=h):=by
 refine Sat.of_calls (fn:=Tryz.f93) Tryz.func93 (by kernel_rfl) (by kernel_rfl) rfl rfl fun B S μ w f=>?_
 refine(sk n h0 h1 w).mono fun e w' ⟨e1,e2⟩=>⟨e1,e2⟩
theorem vl(n:Int)(h0:0≤n)(h1:n<10000)(h:Heap):Sat (CT G) 93 [.int .i64 n,.int .i64 4] h (fun r h'=>r=.str (digsF 4 n)∧h'=h):=by
 refine Sat.of_calls (fn:=Tryz.f93) Tryz.func93 (by kernel_rfl) (by kernel_rfl) rfl rfl fun B S μ w f=>?_
 refine(sm n h0 h1 w).mono fun e w' ⟨e1,e2⟩=>⟨e1,e2⟩
theorem na(l:List Bs)(sep:Bs)(hne:l≠ [])(hl:l.length≤1000)(hj:(Lib.join l sep).length≤1000000)(h:Heap):Sat (CT G) 94 [.sl 1 (l.map .str),.str sep] h (fun r h'=>r=.str (Lib.join l sep)∧h'=h):=by
 unfold Sat;intro B S μ w us fit rl;obtain⟨hul,hur⟩:=rl
 match us,hul,hur with
 | [u0,u1],_,hur=>
  have r0:Rep w S μ (.sl 1 (l.map .str)) u0:=hur 0 _ rfl;have r1:Rep w S μ (.str sep) u1:=hur 1 _ rfl;cases r1;obtain⟨es,hes⟩:∃es,es=l.map AVal.str:=⟨_,rfl⟩;rw[← hes]at r0;have hel:es.length=l.length:=by rw[hes,I7]
  have hge:∀(i:Nat) (s:Bs),l[i]? =some s→es[i]? =some (.str s):=fun i s hs=>by rw[hes,K9,hs];rfl
  cases r0 with
  |sl0=>exact absurd hel (by have:=N6.2 hne;simp only[G8];omega)
  |sl _ _ b o cap vs hne' hcap hmax hn hc hr=>
   have e:(callFunc 94 #[.slice (some ⟨b,o,none⟩) es.length cap,.string ⟨sep.toArray⟩]).run (CT G).P w=.ok (.enter 94 #[.slice (some ⟨b,o,none⟩) es.length cap,.string ⟨sep.toArray⟩]) w:=
    enters_of (P:=Tryz.prog) Tryz.func94 (by kernel_rfl) rfl _ _
   have e':(callFunc 94 [Value.slice (some ⟨b,o,none⟩) es.length cap,.string ⟨sep.toArray⟩].toArray).run (CT G).P w=.ok (.enter 94 #[.slice (some ⟨b,o,none⟩) es.length cap,.string ⟨sep.toArray⟩]) w:=e;rw[e'];have hm:((l.map fun s=>(⟨s.toArray⟩:ByteArray)).map (·.data.toList))=l:=by
    rw[List.map_map]
    conv=>rhs;rw[← List.map_id l]
    exact R8 fun x _=>rfl
   have hat:∀(i:Nat) (s:Bs),l[i]? =some s→S ⟨b,o+(i*1+0),none⟩∧w.cell? ⟨b,o+i,none⟩=some (.string ⟨s.toArray⟩):=fun i s hs=>by
    have h1:=hc i (.str s) 0 (.str s) (hge i s hs) rfl;have h2:=hr i (.str s) 0 (.str s) (hge i s hs) rfl;obtain⟨k1,k2,_⟩:=h1;generalize vs i 0=v at h2 k2;cases h2;refine⟨k1,?_⟩;have:i*1+0=i:=by omega
    rw[this]at k2;exact k2
   obtain⟨s0,hs0⟩:∃s,l[0]? =some s:=⟨_,G3 (N6.2 hne)⟩;have hb:=fit.lie _ (hat 0 s0 hs0).1;have J:=Tryz.strings_Join b o cap (l.map fun s=>⟨s.toArray⟩) ⟨sep.toArray⟩ w (fun j x hx=>by
    rw[K9]at hx;obtain⟨s,hs,rfl⟩:=I5.1 hx;exact(hat j s hs).2) hb (by rw[I7];omega) (by rw[I7];omega) (by rw[hm];show(Lib.join l sep).length≤_;omega)
   rw[hm,I7, ← hel]at J;refine J.mono fun x w' ⟨he,hw⟩=>⟨_,he,?_⟩
   obtain⟨f',st⟩:=fit.grown hw;exact⟨_,h,S,μ,⟨rfl,rfl⟩,st,f',.str _⟩
theorem vm(n:Int)(hn:inM n=true)(h:Heap):Sat (CT G) 81 [.int .i64 n] h (fun r h'=>r=.tup [(ofP n).av,.int .i64 0]∧h'=h):=by
 have hW:=bV G n (-62135596800) 253402300799;have hi:(decide (-62135596800≤n)&&decide (n≤253402300799))=true:=hn;rw[hi]at hW;simp only[G1,G6]at hi;obtain⟨m1,m2⟩:=hi;obtain⟨w,hw⟩:∃w,w=n+62135596800:=⟨_,rfl⟩;obtain⟨k,hk⟩:∃k,k=w/86400+306:=⟨_,rfl⟩;obtain⟨o,ho⟩:∃o,o=k%146097:=⟨_,rfl⟩;obtain⟨y,hy⟩:∃y,y=(o-o/1460+o/36524-o/146096)/365:=⟨_,rfl⟩;obtain⟨i,hi⟩:∃i,i=o-(365*y+y/4-y/100):=⟨_,rfl⟩;obtain⟨m,hm⟩:∃m,m=(5*i+2)/153:=⟨_,rfl⟩;have hp:ofP n=dtC y (k/146097) m i w:=by rw[hm,hi,hy,ho,hk,hw];rfl
 have hk0:306≤k∧k≤3652364:=by omega
 have ho0:0≤o∧o≤146096:=by omega
 obtain⟨y1,y2,y3,_⟩:=p7 o ho0.1 ho0.2 y hy;unfold stY at y3;have hi0:0≤i∧i≤146096:=by omega
 have hm0:0≤m∧m≤5000:=by omega
 have hd0:0≤153*m+2:=by omega
 have f0:n- -62135596800=w:=by omega
 have f2:=hk.symm;have f3:=ho.symm;have f4:=hy.symm;have f5:=hi.symm;have f6:=hm.symm;have f7:m+3-12=m-9:=by omega
 have hw0:0≤w∧w≤315537897599:=by omega
 clear hk ho hy hi hm;by_cases c:12<m+3
 ·have q:decide (m+3>12)=true:=H0 c;have F:=F2 (F9 f0 f2 f3 f4 f5 f6 f7 q @cm) (F2 @aY @ak);refine sb [.cell 2 90,.tmp 3] Tryz.func81 ?_;intro Q hQ;refine wk F ?_;refine kq F (hW _) ?_;refine ye hQ F ?_;exact I3 (jq ..) ⟨by rw[hp];unfold dtC;rw[G5 c,G5 c],rfl⟩
 ·have q:decide (m+3>12)=false:=H3 c;have F:=F2 (F9 f0 f2 f3 f4 f5 f6 f7 q @cm) (F2 @aY @ak);refine sb [.cell 2 90,.tmp 3] Tryz.func81 ?_;intro Q hQ;refine wk F ?_;refine kq F (hW _) ?_;refine ye hQ F ?_;exact I3 (jq ..) ⟨by rw[hp];unfold dtC;rw[G2 c,G2 c],rfl⟩
theorem tf(n:Int)(hn:inM n=true)(h:Heap):Sat (CT G) 62 [.int .i64 n] h (fun r h'=>r=.str (showF n)∧h'=h):=by
 have hO:=vm G n hn;obtain⟨hk,_⟩:=eO hn;obtain⟨b1,b2,b3,b4,b5,b6,b7,b8,b9,b10,b11,b12⟩:=bX hk;unfold showF;generalize ofP n=x at*;obtain⟨y,m,d,hh,i,s⟩:=x;simp only[Dt.av_eq]at*;have D1:=vl G y (by omega) (by omega);have D2:=eR G m (by omega) (by omega);have D3:=eR G d (by omega) (by omega);have D4:=eR G hh (by omega) (by omega);have D5:=eR G i (by omega) (by omega);have D6:=eR G s (by omega) (by omega);have p4:(10:Int)^4=10000:=rfl;have p2:(10:Int)^2=100:=rfl;have l1:=(au 4 y (by omega) (by omega)).1;have l2:=(au 2 m (by omega) (by omega)).1;have l3:=(au 2 d (by omega) (by omega)).1;have l4:=(au 2 hh (by omega) (by omega)).1;have l5:=(au 2 i (by omega) (by omega)).1;have l6:=(au 2 s (by omega) (by omega)).1;have es:showD ⟨y,m,d,hh,i,s⟩=Lib.join [digsF 4 y,digsF 2 m,digsF 2 d] [45]++[84]++Lib.join [digsF 2 hh,digsF 2 i,digsF 2 s] [58]++[90]:=by
  simp[showD,Lib.join,List.intercalate,List.intersperse]
 rw[es];generalize digsF 4 y=t1 at*;generalize digsF 2 m=t2 at*;generalize digsF 2 d=t3 at*;generalize digsF 2 hh=t4 at*;generalize digsF 2 i=t5 at*;generalize digsF 2 s=t6 at*;have J1:∀h,Sat (CT G) 94 [.sl 1 [.str t1,.str t2,.str t3],.str [45]] h (fun r h'=>r=.str (Lib.join [t1,t2,t3] [45])∧h'=h):=na G [t1,t2,t3] [45] (by simp) (by simp) (by simp[Lib.join,List.intercalate,List.intersperse];omega);have J2:∀h,Sat (CT G) 94 [.sl 1 [.str t4,.str t5,.str t6],.str [58]] h (fun r h'=>r=.str (Lib.join [t4,t5,t6] [58])∧h'=h):=na G [t4,t5,t6] [58] (by simp) (by simp) (by simp[Lib.join,List.intercalate,List.intersperse];omega);have lA:(Lib.join [t1,t2,t3] [45]).length≤100:=by simp[Lib.join,List.intercalate,List.intersperse];omega
 have lB:(Lib.join [t4,t5,t6] [58]).length≤100:=by simp[Lib.join,List.intercalate,List.intersperse];omega
 generalize Lib.join [t1,t2,t3] [45]=A at*;generalize Lib.join [t4,t5,t6] [58]=B at*;have F:= @ak;refine sb [.tmp 2] Tryz.func62 ?_;intro Q hQ;refine wk F ?_;refine kq F (hO _) ?_;refine ab (D1 _) ?_;try refine sq F ?_
 refine wk F ?_;refine ab (D2 _) ?_;try refine sq F ?_
 refine wk F ?_;refine ab (D3 _) ?_;try refine sq F ?_
 refine wk F ?_;refine ab (D4 _) ?_;try refine sq F ?_
 refine wk F ?_;refine ab (D5 _) ?_;try refine sq F ?_
 refine wk F ?_;refine ab (D6 _) ?_;try refine sq F ?_
 refine wk F ?_;refine kq F (J1 _) ?_;refine kq F (J2 _) ?_;refine ee hQ F ?_;exact I3 (.str _) ⟨rfl,rfl⟩
attribute [go_sem] bj
theorem dq(h j l:Heap)(a:AVal)(v:Nat)(s:Bs):bldW h j a v s++l=bldW h (j++l) a v s:=by simp[bldW]
@[go_sem] theorem xN(h j l:Heap)(a:AVal)(v u n:Nat)(s:Bs)(hn:j.length=n):getRow (bldW h j a v s++l) (h.length+(2+n)) u=getRow l 0 u:=by
 rw[← hn, ← bj h j a v s];exact du _ l u
@[go_sem] theorem Bc(h j l:Heap)(a:AVal)(v n:Nat)(s:Bs)(x:Blk)(hn:j.length=n):(bldW h j a v s++l).set (h.length+(2+n)) x=bldW h j a v s++l.set 0 x:=by
 rw[← hn, ← bj h j a v s];exact lM _ l x
@[go_sem] theorem nc(h j:Heap)(a:AVal)(v:Nat)(s:Bs):getRow (bldW h j a v s) h.length 0=some (61,2,[.agg [a,.hs (h.length+1) v 0 s.length true]]):=by
 unfold bldW;exact du _ _ _
@[go_sem] theorem xO(h j l:Heap)(a:AVal)(v:Nat)(s:Bs):getRow (bldW h j a v s++l) h.length 0=some (61,2,[.agg [a,.hs (h.length+1) v 0 s.length true]]):=by
 rw[dq];exact nc ..
theorem Bd{h j l:Heap}{a:AVal}{v:Nat}{s:Bs}(x:Bs)(ha:bldA a h.length)(hs:s.length+x.length≤1073741824):
  Sat (CT G) 31 [.hp h.length 0 0 0,.str x] (bldW h j a v s++l) (fun r h'=>r=.tup [.int .i64 x.length,.nil .nilIface]∧h'=bldW h j (.hp h.length 0 0 0) (v+1) (s++x)++l):=by
 rw[dq,dq];exact cD G a h (j++l) v s x ha hs
theorem iR(n x:Bs)(hn:n.length≤100)(hx:x.length≤1048576)(h j:Heap)(a:AVal)(v:Nat)(s:Bs)(ha:bldA a h.length)(hs:s.length≤100000000):
  Sat (CT G) 32 [.hp h.length 0 0 0,.str n,.str x] (bldW h j a v s) (fun r h'=>r=.tup []∧h'=bldW h j (.hp h.length 0 0 0) (v+1) (s++onF n x)):=by
 have he:=(dn x).1;have hE:=qR G x hx;have e1:onF n x=60::n++[62]++escF x++[60,47]++n++[62]:=by simp[onF,opn,cls]
 have hl:(onF n x).length=5+2*n.length+(escF x).length:=by rw[e1];simp;omega
 have end_:∀jj,Fin (bldW h j a v s) (bldW h j (.hp h.length 0 0 0) (v+1) (s++onF n x)++jj) (fun r h'=>r=.tup []∧h'=bldW h j (.hp h.length 0 0 0) (v+1) (s++onF n x)) (.tup []):=fun jj=>
  Fin.keep ((bj ..).trans (bj ..).symm) (ff _ _ _ _ _ _ _) (.tup _ (by simp)) ⟨rfl,rfl⟩
 have hW:=fun x hx=>cD G a h j v s x ha hx
 generalize escF x=ex at*
 skip
 refine sb [] Tryz.func32 ?_;intro Q hQ;refine wn trivial ?_;have hN:= @hW (60::(n++62::(ex++60::47::(n++[62]))));have F:=F3 (F3 (@J4 Blk) (@J4 AVal) (@J4 UInt8)) (F3 (@K5 Blk) (@K5 AVal) (@K5 UInt8)) (F3 (@J6 Blk) (@J6 AVal) (@J6 UInt8));refine oz 13 (by kernel_rfl) ?_;refine sq F ?_;refine wn F ?_;refine ab (hE _) ?_;try refine sq F ?_
 refine wn F ?_;refine(hN (by simp;omega)).mono ?_;rintro r h' ⟨rfl,rfl⟩;try refine sq F ?_
 refine wn F ?_;refine ee hQ F ?_;have e2:s++(60::(n++62::(ex++60::47::(n++[62]))))=s++onF n x:=by rw[e1];simp
 rw[e2];have:=end_ []
 rwa [J3]at this
theorem lu(n x:Bs)(hn:n.length≤100)(hx:x.length≤1048576){h j l:Heap}{a:AVal}{v:Nat}{s:Bs}(ha:bldA a h.length)(hs:s.length≤100000000):
  Sat (CT G) 32 [.hp h.length 0 0 0,.str n,.str x] (bldW h j a v s++l) (fun r h'=>r=.tup []∧h'=bldW h j (.hp h.length 0 0 0) (v+1) (s++onF n x)++l):=by
 rw[dq,dq];exact iR G n x hn hx h (j++l) a v s ha hs
theorem aN(n x:Bs):(onF n x).length≤5+2*n.length+6*x.length:=by
 have he:=(dn x).1;unfold onF opn cls;simp only[G4,G0,G8];omega
theorem oc(x:En)(hk:enOk x=true)(h j:Heap)(a:AVal)(v:Nat)(s:Bs)(ha:bldA a h.length)(hs:s.length≤90000000):
  Sat (CT G) 33 [.hp h.length 0 0 0,x.av] (bldW h j a v s) (fun r h'=>r=.tup []∧∃v',h'=bldW h j (.hp h.length 0 0 0) v' (s++itmT x)):=by
 unfold enOk at hk;simp only[G1]at hk;obtain⟨_,k1,k2,k3,k4⟩:=hk;have tl:∀{s:Bs} {m:Nat},textO s m=true→s.length≤m:=fun {s m} h=>by
  unfold textO at h;simp only[G1,G6]at h;exact h.1.1
 have l1:=tl k1;have l2:=tl k2;have l3:=tl k3;obtain⟨g,t,k,n,b⟩:=x;simp only[]at l1 l2 l3;have z1:=aN bGuid g;have z2:=aN bTitle t;have z3:=aN bLink k;have hb1:bGuid.length=4:=rfl;have hb2:bTitle.length=5:=rfl;have hb3:bLink.length=4:=rfl;rw[hb1]at z1;rw[hb2]at z2;rw[hb3]at z3;have end_:∀jj v1 s1,s1=s++itmT ⟨g,t,k,n,b⟩→Fin (bldW h j a v s) (bldW h j (.hp h.length 0 0 0) v1 s1++jj) (fun r h'=>r=.tup []∧∃v',h'=bldW h j (.hp h.length 0 0 0) v' (s++itmT ⟨g,t,k,n,b⟩)) (.tup []):=fun jj v1 s1 e=>by
  subst e;exact Fin.keep ((bj ..).trans (bj ..).symm) (ff _ _ _ _ _ _ _) (.tup _ (by simp)) ⟨rfl,v1,rfl⟩
 have oW1:∀{jj},Sat (CT G) 31 [.hp h.length 0 0 0,.str [60,105,116,101,109,62]] (bldW h j a v s++jj) _:=fun {jj}=>Bd G [60,105,116,101,109,62] ha (by simp;omega)
 have oW2:∀{v s jj},s.length≤100000000→Sat (CT G) 32 [.hp h.length 0 0 0,.str [103,117,105,100],.str g] (bldW h j (.hp h.length 0 0 0) v s++jj) _:=fun {v s jj} hs=>lu G bGuid g (by decide) (by omega) (.inr rfl) hs
 have oW3:∀{v s jj},s.length≤100000000→Sat (CT G) 32 [.hp h.length 0 0 0,.str [116,105,116,108,101],.str t] (bldW h j (.hp h.length 0 0 0) v s++jj) _:=fun {v s jj} hs=>lu G bTitle t (by decide) (by omega) (.inr rfl) hs
 have oW4:∀{v s jj},s.length≤100000000→Sat (CT G) 32 [.hp h.length 0 0 0,.str [108,105,110,107],.str k] (bldW h j (.hp h.length 0 0 0) v s++jj) _:=fun {v s jj} hs=>lu G bLink k (by decide) (by omega) (.inr rfl) hs
 have oW6:∀{v s jj},s.length≤100000000→Sat (CT G) 31 [.hp h.length 0 0 0,.str [60,47,105,116,101,109,62]] (bldW h j (.hp h.length 0 0 0) v s++jj) _:=fun {v s jj} hs=>Bd G [60,47,105,116,101,109,62] (.inr rfl) (by simp;omega)
 simp only[En.av_eq];cases b with
 |false=>
  have e:itmT ⟨g,t,k,n,false⟩=[60,105,116,101,109,62]++onF bGuid g++onF bTitle t++onF bLink k++[60,47,105,116,101,109,62]:=by
   simp[itmT,opn,cls,bItem]
  generalize hI:itmT ⟨g,t,k,n,false⟩=I at end_ e ⊢
  skip
  refine sb [] Tryz.func33 ?_;intro Q hQ;refine wk trivial ?_;refine kq trivial (oW1) ?_;refine kq trivial (oW2 (by simp only[G4,G0,G8];omega)) ?_;refine kq trivial (oW3 (by simp only[G4,G0,G8];omega)) ?_;refine kq trivial (oW4 (by simp only[G4,G0,G8];omega)) ?_;refine kq trivial (oW6 (by simp only[G4,G0,G8];omega)) ?_;refine ee hQ trivial ?_;refine end_ _ _ _ ?_;rw[e];simp
 |true=>
  have hi:inM n=true:=k4;have hS:=tf G n hi;have ls:(showF n).length≤100:=by
   obtain⟨hk,_⟩:=eO hi;obtain⟨b1,b2,b3,b4,b5,b6,b7,b8,b9,b10,b11,b12⟩:=bX hk;have p4:(10:Int)^4=10000:=rfl;have p2:(10:Int)^2=100:=rfl;unfold showF;generalize ofP n=x at*;have q1:=(au 4 x.y (by omega) (by omega)).1;have q2:=(au 2 x.m (by omega) (by omega)).1;have q3:=(au 2 x.d (by omega) (by omega)).1;have q4:=(au 2 x.h (by omega) (by omega)).1;have q5:=(au 2 x.i (by omega) (by omega)).1;have q6:=(au 2 x.s (by omega) (by omega)).1;unfold showD;simp only[G4,G0,G8];omega
  have z5:=aN bPub (showF n);have hb5:bPub.length=7:=rfl;rw[hb5]at z5;have e:itmT ⟨g,t,k,n,true⟩=[60,105,116,101,109,62]++onF bGuid g++onF bTitle t++onF bLink k++onF bPub (showF n)++[60,47,105,116,101,109,62]:=by
   simp[itmT,opn,cls,bItem]
  generalize hI:itmT ⟨g,t,k,n,true⟩=I at end_ e ⊢;generalize showF n=sh at*
  skip
  have oW5:∀{v s jj},s.length≤100000000→Sat (CT G) 32 [.hp h.length 0 0 0,.str [112,117,98,68,97,116,101],.str sh] (bldW h j (.hp h.length 0 0 0) v s++jj) _:=fun {v s jj} hs=>lu G bPub sh (by decide) (by omega) (.inr rfl) hs
  refine sb [] Tryz.func33 ?_;intro Q hQ;refine wk trivial ?_;refine kq trivial (oW1) ?_;refine kq trivial (oW2 (by simp only[G4,G0,G8];omega)) ?_;refine kq trivial (oW3 (by simp only[G4,G0,G8];omega)) ?_;refine kq trivial (oW4 (by simp only[G4,G0,G8];omega)) ?_;refine kq trivial (hS _) ?_;refine kq trivial (oW5 (by simp only[G4,G0,G8];omega)) ?_;refine kq trivial (oW6 (by simp only[G4,G0,G8];omega)) ?_;refine ee hQ trivial ?_;refine end_ _ _ _ ?_;rw[e];simp
theorem nf{x:En}(h:enOk x=true):x.guid.length≤512∧x.title.length≤256∧x.link.length≤512∧(itmT x).length≤10000:=by
 unfold enOk at h;simp only[G1]at h;obtain⟨_,k1,k2,k3,k4⟩:=h;have tl:∀{s:Bs} {m:Nat},textO s m=true→s.length≤m:=fun {s m} h=>by
  unfold textO at h;simp only[G1,G6]at h;exact h.1.1
 have l1:=tl k1;have l2:=tl k2;have l3:=tl k3;refine⟨l1,l2,l3,?_⟩;have z1:=aN bGuid x.guid;have z2:=aN bTitle x.title;have z3:=aN bLink x.link;have hb1:bGuid.length=4:=rfl;have hb2:bTitle.length=5:=rfl;have hb3:bLink.length=4:=rfl;have hb4:bItem.length=4:=rfl;have z4:(if x.dated then onF bPub (showF x.date)else []).length≤1000:=by
  cases hd:x.dated with
  |false=>simp
  |true=>
   simp only[if_true];unfold dateOk at k4;rw[hd]at k4;obtain⟨hk,_⟩:=eO (n:=x.date) k4;obtain⟨b1,b2,b3,b4,b5,b6,b7,b8,b9,b10,b11,b12⟩:=bX hk;have p4:(10:Int)^4=10000:=rfl;have p2:(10:Int)^2=100:=rfl;have z5:=aN bPub (showF x.date);have hb5:bPub.length=7:=rfl;have ls:(showF x.date).length≤100:=by
    unfold showF;generalize ofP x.date=y at*;have q1:=(au 4 y.y (by omega) (by omega)).1;have q2:=(au 2 y.m (by omega) (by omega)).1;have q3:=(au 2 y.d (by omega) (by omega)).1;have q4:=(au 2 y.h (by omega) (by omega)).1;have q5:=(au 2 y.i (by omega) (by omega)).1;have q6:=(au 2 y.s (by omega) (by omega)).1;unfold showD;simp only[G4,G0,G8];omega
   omega
 unfold itmT opn cls;simp only[G4,G0,G8];omega
theorem cQ:∀l:List En,l.all enOk=true→(l.flatMap itmT).length≤10000*l.length
 | [],_=>by simp
 |x::l,h=>by
  rw[Q5,G1]at h;have h1:=(nf h.1).2.2.2;have h2:=cQ l h.2;rw[M2,G4,G0];omega
theorem ng{C:Ctx}{c:Code}{Q:Exit→Env→Heap→Prop}{t:Env}{h h':Heap}(e:h=h')(g:WP C c Q t h'):WP C c Q t h:=e▸g
theorem og(d:Fd)(hd:FdS d)(h:Heap):Sat (CT G) 19 [d.av] h (fun r h'=>r=.tup [.str (if fdOk d then fdT d else []),.int .i64 (if fdOk d then 0 else 120)]∧h'=h):=by
 have hC:=iC G d hd;cases hok:fdOk d with
 |false=>
  rw[hok]at hC;obtain⟨t,l,es⟩:=d;have hC:∀h,Sat (CT G) 11 [.agg [.str t,.str l,.sl 5 (es.map En.av)]] h (fun r h'=>r=.int .i64 120∧h'=h):=hC;have f1:(Fd.mk t l es).av=.agg [.str t,.str l,.sl 5 (es.map En.av)]:=rfl;rw[f1];have n1:((120:Int) !=0)=true:=rfl;have F:=F2 n1 @ak;refine sb [.tmp 2,.tmp 3] Tryz.func19 ?_;intro Q hQ;(repeat (first|refine w1 (fun K hK=>?_)|refine w2 ?_|refine w3 ?_| ((first|refine w4 ?_|refine wD ?_|refine w5 ?_|refine w6 ?_|refine w7 ?_);try refine sq F ?_)| (refine w8 ?_;refine sq F ?_;refine w9 ?_)| ((first|refine hK _ _ (w0 ?_)| (clear hK K;refine hK _ _ (w0 ?_))| (clear hK K;clear hK K;refine hK _ _ (w0 ?_)));clear hK K)))
  refine(hC _).mono ?_;rintro r h' ⟨rfl,rfl⟩;try refine sq F ?_
  (repeat (first|refine w1 (fun K hK=>?_)|refine w2 ?_|refine w3 ?_| ((first|refine w4 ?_|refine wD ?_|refine w5 ?_|refine w6 ?_|refine w7 ?_);try refine sq F ?_)| (refine w8 ?_;refine sq F ?_;refine w9 ?_)| ((first|refine hK _ _ (w0 ?_)| (clear hK K;refine hK _ _ (w0 ?_))| (clear hK K;clear hK K;refine hK _ _ (w0 ?_)));clear hK K)))
  refine ye hQ F ?_;exact I3 (.tup _ (fun c hc=>by simp only[J5,O3,or_false]at hc;rcases hc with rfl|rfl<;>first|exact .str _|exact .int _ _)) ⟨rfl,rfl⟩
 |true=>
  rw[hok]at hC;have hT:=mZ d;have hok2:=hok;unfold fdOk at hok2;simp only[G1,G6]at hok2;obtain⟨k1,k2,k3,k4,k5⟩:=hok2;have tl:∀{s:Bs} {m:Nat},textO s m=true→s.length≤m:=fun {s m} h=>by
   unfold textO at h;simp only[G1,G6]at h;exact h.1.1
  have l1:=tl k2;have l2:=tl k3;obtain⟨t,l,es⟩:=d;simp only[]at k1 k5 l1 l2 hT;have hC:∀h,Sat (CT G) 11 [.agg [.str t,.str l,.sl 5 (es.map En.av)]] h (fun r h'=>r=.int .i64 0∧h'=h):=hC;have f1:(Fd.mk t l es).av=.agg [.str t,.str l,.sl 5 (es.map En.av)]:=rfl;rw[f1];have n0:((0:Int) !=0)=false:=rfl;have me:(es.map En.av).length=es.length:=I7 ..;have z2:=aN bTitle t;have z3:=aN bLink l;have hb2:bTitle.length=5:=rfl;have hb3:bLink.length=4:=rfl;rw[hb2]at z2;rw[hb3]at z3;obtain⟨X,hX⟩:∃X:Heap,X=h++[.row 25 3 0 [.agg [.str t,.str l,.sl 5 (es.map En.av)]]]:=⟨_,rfl⟩;have hXl:X.length=h.length+1:=by rw[hX];simp
  have hXd:∀(A j:Heap),getRow (X++A) h.length 0=some (25,3,[.agg [.str t,.str l,.sl 5 (es.map En.av)]]):=fun A j=>by
   rw[bt _ (by omega),hX];exact du _ _ _
  have hXw:∀(j jj:Heap) (a:AVal) (v:Nat) (s:Bs),getRow (bldW X j a v s++jj) h.length 0=some (25,3,[.agg [.str t,.str l,.sl 5 (es.map En.av)]]):=fun j jj a v s=>by
   unfold bldW;rw[J4];exact hXd _ []
  have hXv:∀(j:Heap) (a:AVal) (v:Nat) (s:Bs),getRow (bldW X j a v s) h.length 0=some (25,3,[.agg [.str t,.str l,.sl 5 (es.map En.av)]]):=fun j a v s=>by
   have:=hXw j [] a v s
   rwa [J3]at this
  have oW:∀(a:AVal) (v:Nat) (s x:Bs) (j:Heap),bldA a X.length→s.length+x.length≤1073741824→Sat (CT G) 31 [.hp X.length 0 0 0,.str x] (bldW X j a v s) _:=fun a v s x j ha hs=>cD G a X j v s x ha hs
  have oT:∀(v:Nat) (s:Bs) (j:Heap),s.length≤100000000→Sat (CT G) 32 [.hp X.length 0 0 0,.str [116,105,116,108,101],.str t] (bldW X j (.hp X.length 0 0 0) v s) _:=fun v s j hs=>iR G bTitle t (by decide) (by omega) X j _ v s (.inr rfl) hs
  have oL:∀(v:Nat) (s:Bs) (j:Heap),s.length≤100000000→Sat (CT G) 32 [.hp X.length 0 0 0,.str [108,105,110,107],.str l] (bldW X j (.hp X.length 0 0 0) v s) _:=fun v s j hs=>iR G bLink l (by decide) (by omega) X j _ v s (.inr rfl) hs
  have zi:=cQ es k5;have zt:∀i,((es.take i).flatMap itmT).length≤10000*256:=fun i=>by
   have h1:=cQ (es.take i) (by rw[I0]at k5 ⊢;exact fun x hx=>k5 x (R2 hx));have h2:(es.take i).length≤256:=(by rw[I6];omega);have:10000*(es.take i).length≤10000*256:=U4 _ h2;omega
  have F:=F4 n0 me hXw hXv;refine sb [.tmp 2,.tmp 3] Tryz.func19 ?_;intro Q hQ;(repeat (first|refine w1 (fun K hK=>?_)|refine w2 ?_|refine w3 ?_| ((first|refine w4 ?_|refine wD ?_|refine w5 ?_|refine w6 ?_|refine w7 ?_);try refine sq F ?_)| (refine w8 ?_;refine sq F ?_;refine w9 ?_)| ((first|refine hK _ _ (w0 ?_)| (clear hK K;refine hK _ _ (w0 ?_))| (clear hK K;clear hK K;refine hK _ _ (w0 ?_)));clear hK K)))
  refine(hC _).mono ?_;rintro r h' ⟨rfl,rfl⟩;try refine sq F ?_
  (repeat (first|refine w1 (fun K hK=>?_)|refine w2 ?_|refine w3 ?_| ((first|refine w4 ?_|refine wD ?_|refine w5 ?_|refine w6 ?_|refine w7 ?_);try refine sq F ?_)| (refine w8 ?_;refine sq F ?_;refine w9 ?_)))
  refine hK _ _ (H5 ?_);clear hK K;(repeat (first|refine w1 (fun K hK=>?_)|refine w2 ?_|refine w3 ?_| ((first|refine w4 ?_|refine wD ?_|refine w5 ?_|refine w6 ?_|refine w7 ?_);try refine sq F ?_)| (refine w8 ?_;refine sq F ?_;refine w9 ?_)))
  refine hK _ _ (H5 ?_);clear hK K;refine ng (h':=X) (by rw[hX]) ?_;(repeat (first|refine w1 (fun K hK=>?_)|refine w2 ?_|refine w3 ?_| ((first|refine w4 ?_|refine wD ?_|refine w5 ?_|refine w6 ?_|refine w7 ?_);try refine sq F ?_)| (refine w8 ?_;refine sq F ?_;refine w9 ?_)))
  refine hK _ _ (H5 ?_);clear hK K;(repeat (first|refine w1 (fun K hK=>?_)|refine w2 ?_|refine w3 ?_| ((first|refine w4 ?_|refine wD ?_|refine w5 ?_|refine w6 ?_|refine w7 ?_);try refine sq F ?_)| (refine w8 ?_;refine sq F ?_;refine w9 ?_)))
  refine hK _ _ ⟨_,_,U3 (p:=X.length) (v:=0) 5 1 (by omega) (by first| (simp(disch:=first|omega| (simp only[go_sem, ↓reduceIte,seval];first|done|omega)|fail) only[go_sem, ↓reduceIte,seval,F];rfl)|rfl) 1 rfl,?_⟩;clear hK K;refine ng (h':=bldW X [] (.nil (.pointer none)) 0 []) aw ?_;(repeat (first|refine w1 (fun K hK=>?_)|refine w2 ?_|refine w3 ?_| ((first|refine w4 ?_|refine wD ?_|refine w5 ?_|refine w6 ?_|refine w7 ?_);try refine sq F ?_)| (refine w8 ?_;refine sq F ?_;refine w9 ?_)| ((first|refine hK _ _ (w0 ?_)| (clear hK K;refine hK _ _ (w0 ?_))| (clear hK K;clear hK K;refine hK _ _ (w0 ?_)));clear hK K)))
  refine(oW (.nil (.pointer none)) 0 [] _ [] (.inl rfl) (by simp)).mono ?_;rintro r h' ⟨rfl,rfl⟩;try refine sq F ?_
  (repeat (first|refine w1 (fun K hK=>?_)|refine w2 ?_|refine w3 ?_| ((first|refine w4 ?_|refine wD ?_|refine w5 ?_|refine w6 ?_|refine w7 ?_);try refine sq F ?_)| (refine w8 ?_;refine sq F ?_;refine w9 ?_)| ((first|refine hK _ _ (w0 ?_)| (clear hK K;refine hK _ _ (w0 ?_))| (clear hK K;clear hK K;refine hK _ _ (w0 ?_)));clear hK K)))
  refine(oT _ _ [] (by simp only[G4,G0,G8];omega)).mono ?_;rintro r h' ⟨rfl,rfl⟩;try refine sq F ?_
  (repeat (first|refine w1 (fun K hK=>?_)|refine w2 ?_|refine w3 ?_| ((first|refine w4 ?_|refine wD ?_|refine w5 ?_|refine w6 ?_|refine w7 ?_);try refine sq F ?_)| (refine w8 ?_;refine sq F ?_;refine w9 ?_)| ((first|refine hK _ _ (w0 ?_)| (clear hK K;refine hK _ _ (w0 ?_))| (clear hK K;clear hK K;refine hK _ _ (w0 ?_)));clear hK K)))
  refine(oL _ _ [] (by simp only[G4,G0,G8];omega)).mono ?_;rintro r h' ⟨rfl,rfl⟩;try refine sq F ?_
  (repeat (first|refine w1 (fun K hK=>?_)|refine w2 ?_|refine w3 ?_| ((first|refine w4 ?_|refine wD ?_|refine w5 ?_|refine w6 ?_|refine w7 ?_);try refine sq F ?_)| (refine w8 ?_;refine sq F ?_;refine w9 ?_)| ((first|refine hK _ _ (w0 ?_)| (clear hK K;refine hK _ _ (w0 ?_))| (clear hK K;clear hK K;refine hK _ _ (w0 ?_)));clear hK K)))
  obtain⟨P,hP⟩:∃P:Bs,P=60::114::115::115::62::60::99::104::97::110::110::101::108::62::(onF bTitle t++onF bLink l):=⟨_,rfl⟩;rw[← hP];have lP:P.length≤20000:=by
   rw[hP];simp only[G4,G0];omega
  refine lm (fun nL tL hL=>∃(i u:Nat) (jj:Heap),es.length-i=nL∧bldW X jj (.hp X.length 0 0 0) u (P++(es.take i).flatMap itmT)=hL∧tL 30=.int .i64 i∧i≤es.length) ((fun(i u:Nat) (jj:Heap)=>(es.length-i:Nat)) (0) (3) ([])) ?_ ?_
  ·refine H5 ⟨0,3,[],rfl,by simp,?_,by omega⟩;all_goals try exact zZz F
  rintro _ s2 h' ⟨i,u,jj,rfl,rfl,e30,hi⟩ K2 hK2;simp only[am,ar,Nat.reduceEqDiff, ↓reduceIte]at e30;have F:=F2 F e30;have zti:=zt i;by_cases c1:i<es.length
  ·obtain⟨x,hx,hxm⟩:=aj c1;have d1:=H0 c1;have hk:=I0.1 k5 x hxm;have nx:(es.take (i+1)).flatMap itmT=(es.take i).flatMap itmT++itmT x:=(by rw[M8,hx];simp);have oE:=fun(jj:Heap) (v:Nat)=>oc G x hk X jj (.hp X.length 0 0 0) v (P++(es.take i).flatMap itmT) (.inr rfl) (by rw[G4];omega)
   rw[En.av_eq]at oE;have F:=F3 F d1 hx;(try refine sq F ?_);(repeat (first|refine w1 (fun K hK=>?_)|refine w2 ?_|refine w3 ?_| ((first|refine w4 ?_|refine wD ?_|refine w5 ?_|refine w6 ?_|refine w7 ?_);try refine sq F ?_)| (refine w8 ?_;refine sq F ?_;refine w9 ?_)| ((first|refine hK _ _ (w0 ?_)| (clear hK K;refine hK _ _ (w0 ?_))| (clear hK K;clear hK K;refine hK _ _ (w0 ?_)));clear hK K)))
   rw[dq];refine(oE _ _).mono ?_;rintro r h' ⟨rfl,v',rfl⟩;(try refine sq F ?_);(repeat (first|refine w1 (fun K hK=>?_)|refine w2 ?_|refine w3 ?_| ((first|refine w4 ?_|refine wD ?_|refine w5 ?_|refine w6 ?_|refine w7 ?_);try refine sq F ?_)| (refine w8 ?_;refine sq F ?_;refine w9 ?_)| ((first|refine hK _ _ (w0 ?_)| (clear hK K;refine hK _ _ (w0 ?_))| (clear hK K;clear hK K;refine hK _ _ (w0 ?_)));clear hK K)))
   refine hK2 _ _ _ (H5 ⟨i+1,v',jj++[.row 48 5 0 [.agg [.str x.guid,.str x.title,.str x.link,.int .i64 x.date,.bool x.dated]]],rfl,by rw[nx],?_,by omega⟩) (by omega);all_goals try exact zZz F
  ·have d1:=H3 c1;have et:es.take i=es:=H9 (by omega);rw[et]at zti ⊢;have F:=F2 F d1;(try refine sq F ?_);(repeat (first|refine w1 (fun K hK=>?_)|refine w2 ?_|refine w3 ?_| ((first|refine w4 ?_|refine wD ?_|refine w5 ?_|refine w6 ?_|refine w7 ?_);try refine sq F ?_)| (refine w8 ?_;refine sq F ?_;refine w9 ?_)| ((first|refine hK _ _ (w0 ?_)| (clear hK K;refine hK _ _ (w0 ?_))| (clear hK K;clear hK K;refine hK _ _ (w0 ?_)));clear hK K)))
   refine(oW (.hp X.length 0 0 0) u _ _ jj (.inr rfl) (by simp only[G4,G0,G8];omega)).mono ?_;rintro r h' ⟨rfl,rfl⟩;(try refine sq F ?_);(repeat (first|refine w1 (fun K hK=>?_)|refine w2 ?_|refine w3 ?_| ((first|refine w4 ?_|refine wD ?_|refine w5 ?_|refine w6 ?_|refine w7 ?_);try refine sq F ?_)| (refine w8 ?_;refine sq F ?_;refine w9 ?_)| ((first|refine hK _ _ (w0 ?_)| (clear hK K;refine hK _ _ (w0 ?_))| (clear hK K;clear hK K;refine hK _ _ (w0 ?_)));clear hK K)))
   refine(o8 G _ X jj _ _).mono ?_;rintro r h' ⟨rfl,b2,rfl⟩;(try refine sq F ?_);(repeat (first|refine w1 (fun K hK=>?_)|refine w2 ?_|refine w3 ?_| ((first|refine w4 ?_|refine wD ?_|refine w5 ?_|refine w6 ?_|refine w7 ?_);try refine sq F ?_)| (refine w8 ?_;refine sq F ?_;refine w9 ?_)| ((first|refine hK _ _ (w0 ?_)| (clear hK K;refine hK _ _ (w0 ?_))| (clear hK K;clear hK K;refine hK _ _ (w0 ?_)));clear hK K)))
   refine ye hQ F ?_;refine U1 (by rw[hX,J4]) (.tup _ (fun c hc=>by simp only[J5,O3,or_false]at hc;rcases hc with rfl|rfl<;>first|exact .str _|exact .int _ _)) ⟨?_,rfl⟩;rw[hT,hP];simp[opn,cls,bRss,bChan]
theorem cY(s:Bs)(m:Nat)(hs:s.length≤100000)(h:Heap):Sat (CT G) 35 [.str s,.int .i64 m] h (fun r h'=>r=.bool (textO s m)∧h'=h):=by
 have hR:=qI G s (by omega);have hC:=qJ G s (by omega);by_cases c1:s.length≤m
 ·have d1:=H0 c1;cases c2:rightS s with
  |true=>
   rw[c2]at hR;by_cases c3:cleanF s=s
   ·have q:(cleanF s==s)=true:=(by simpa using c3);have e:textO s m=true:=(by unfold textO;rw[c2,H0 c1,H0 c3];rfl);rw[e];have F:=F2 d1 q;refine sb [.tmp 4] Tryz.func35 ?_;intro Q hQ;refine wk F ?_;refine kq F (hR _) ?_;refine kq F (hC _) ?_;refine ee hQ F ?_;exact J9 (.bool _) ⟨rfl,rfl⟩
   ·have q:(cleanF s==s)=false:=(by simpa using c3);have e:textO s m=false:=(by unfold textO;rw[H3 c3,Bool.and_false]);rw[e];have F:=F2 d1 q;refine sb [.tmp 4] Tryz.func35 ?_;intro Q hQ;refine wk F ?_;refine kq F (hR _) ?_;refine kq F (hC _) ?_;refine ee hQ F ?_;exact J9 (.bool _) ⟨rfl,rfl⟩
  |false=>
   rw[c2]at hR;have e:textO s m=false:=(by unfold textO;rw[c2,Bool.and_false,Bool.false_and]);rw[e];have F:=d1;refine sb [.tmp 4] Tryz.func35 ?_;intro Q hQ;refine wk F ?_;refine kq F (hR _) ?_;refine ee hQ F ?_;exact J9 (.bool _) ⟨rfl,rfl⟩
 ·have d1:=H3 c1;have e:textO s m=false:=by unfold textO;rw[H3 c1];rfl
  rw[e];have F:=d1;refine sb [.tmp 4] Tryz.func35 ?_;intro Q hQ;refine wk F ?_;refine ee hQ F ?_;exact J9 (.bool _) ⟨rfl,rfl⟩
def EnT(x:En):Prop:=x.guid.length≤2000∧x.title.length≤2000∧x.link.length≤2000
theorem oh(x:En)(hx:EnT x)(h:Heap):Sat (CT G) 36 [x.av] h (fun r h'=>r=.bool (enOk x)∧h'=h):=by
 obtain⟨h1,h2,h3⟩:=hx;have T1:=cY G x.guid 512 (by omega);have T2:=cY G x.title 256 (by omega);have T3:=cY G x.link 512 (by omega);have hM:=si G x.date;unfold enOk dateOk;obtain⟨g,t,l,n,b⟩:=x;simp only[]at*;have eM:(decide (-62135596800≤n)&&decide (n≤253402300799))=inM n:=rfl;rw[eM];generalize inM n=dM at*;generalize textO g 512=d1 at*;generalize textO t 256=d2 at*;generalize textO l 512=d3 at*;simp only[En.av_eq]at*;by_cases c0:g=[]
 ·have q:(g==([]:Bs))=true:=by simp[c0]
  have e:decide (g≠ [])=false:=by simp[c0]
  rw[e];have F:=F4 q @M9 @O0 @ak;refine sb [.tmp 2] Tryz.func36 ?_;intro Q hQ;refine wk F ?_;refine ee hQ F ?_;exact I3 (.bool _) ⟨rfl,rfl⟩
 have q:(g==([]:Bs))=false:=by simpa using c0
 have e:decide (g≠ [])=true:=by simp[c0]
 rw[e];have q0:((n:Int)==0)=decide (n=0):=by rw[N8];simp
 generalize decide (n=0)=dz at*;cases d1 with
 |false=>
  have F:=F4 q @M9 @O0 @ak;refine sb [.tmp 2] Tryz.func36 ?_;intro Q hQ;refine wk F ?_;refine kq F (T1 _) ?_;refine ee hQ F ?_;exact I3 (.bool _) ⟨rfl,rfl⟩
 |true=>
  cases d2 with
  |false=>
   have F:=F4 q @M9 @O0 @ak;refine sb [.tmp 2] Tryz.func36 ?_;intro Q hQ;refine wk F ?_;refine kq F (T1 _) ?_;refine kq F (T2 _) ?_;refine ee hQ F ?_;exact I3 (.bool _) ⟨rfl,rfl⟩
  |true=>
   cases d3 with
   |false=>
    have F:=F4 q @M9 @O0 @ak;refine sb [.tmp 2] Tryz.func36 ?_;intro Q hQ;refine wk F ?_;refine kq F (T1 _) ?_;refine kq F (T2 _) ?_;refine kq F (T3 _) ?_;refine ee hQ F ?_;exact I3 (.bool _) ⟨rfl,rfl⟩
   |true=>
    cases b with
    |true=>
     cases dM with
     |true=>
      have F:=F4 q @M9 @O0 @ak;refine sb [.tmp 2] Tryz.func36 ?_;intro Q hQ;refine wk F ?_;refine kq F (T1 _) ?_;refine kq F (T2 _) ?_;refine kq F (T3 _) ?_;refine kq F (hM _) ?_;refine ee hQ F ?_;exact I3 (.bool _) ⟨rfl,rfl⟩
     |false=>
      have F:=F4 q @M9 @O0 @ak;refine sb [.tmp 2] Tryz.func36 ?_;intro Q hQ;refine wk F ?_;refine kq F (T1 _) ?_;refine kq F (T2 _) ?_;refine kq F (T3 _) ?_;refine kq F (hM _) ?_;refine ee hQ F ?_;exact I3 (.bool _) ⟨rfl,rfl⟩
    |false=>
     have F:=F5 q q0 @M9 @O0 @ak;refine sb [.tmp 2] Tryz.func36 ?_;intro Q hQ;refine wk F ?_;refine kq F (T1 _) ?_;refine kq F (T2 _) ?_;refine kq F (T3 _) ?_;refine ee hQ F ?_;exact I3 (.bool _) ⟨rfl,rfl⟩
def FdT(d:Fd):Prop:=d.title.length≤2000∧d.link.length≤2000∧d.es.length≤300∧∀x∈d.es,EnT x
theorem om(d:Fd)(hd:FdT d)(h:Heap):Sat (CT G) 20 [d.av] h (fun r h'=>r=.bool (fdOk d)∧h'=h):=by
 obtain⟨t,l,es⟩:=d;obtain⟨ht,hl,he,hx⟩:=hd;simp only[]at ht hl he hx;have T1:=cY G t 256 (by omega);have T2:=cY G l 512 (by omega);have O1:=sV G es (by omega);have me:(es.map En.av).length=es.length:=I7 ..;have mo:((onceF es).map En.av).length=(onceF es).length:=I7 ..;have f1:(Fd.mk t l es).av=.agg [.str t,.str l,.sl 5 (es.map En.av)]:=rfl;have ek:fdOk ⟨t,l,es⟩=(decide (es.length≤256)&&(textO t 256&&(textO l 512&&(decide ((onceF es).length=es.length)&&es.all enOk)))):=rfl;rw[f1,ek];generalize textO t 256=d1 at*;generalize textO l 512=d2 at*;by_cases c0:es.length≤256
 rotate_left
 ·have q0:decide ((es.length:Int)>256)=true:=H0 (by omega);rw[H3 c0];have F:=F3 me q0 @ak;refine sb [.tmp 2] Tryz.func20 ?_;intro Q hQ;refine wk F ?_;refine ee hQ F ?_;exact I3 (.bool _) ⟨rfl,rfl⟩
 have q0:decide ((es.length:Int)>256)=false:=H3 (by omega);rw[H0 c0];cases d1 with
 |false=>
  have F:=F3 me q0 @ak;refine sb [.tmp 2] Tryz.func20 ?_;intro Q hQ;refine wk F ?_;refine kq F (T1 _) ?_;refine ee hQ F ?_;exact I3 (.bool _) ⟨rfl,rfl⟩
 |true=>
  cases d2 with
  |false=>
   have F:=F3 me q0 @ak;refine sb [.tmp 2] Tryz.func20 ?_;intro Q hQ;refine wk F ?_;refine kq F (T1 _) ?_;refine kq F (T2 _) ?_;refine ee hQ F ?_;exact I3 (.bool _) ⟨rfl,rfl⟩
  |true=>
   have q1:(((onceF es).length:Int)==(es.length:Int))=decide ((onceF es).length=es.length):=by
    by_cases q:(onceF es).length=es.length
    ·rw[H0 q,q];simp
    ·rw[H3 q];simpa using(by omega:¬((onceF es).length:Int)=(es.length:Int))
   generalize decide ((onceF es).length=es.length)=dO at*;simp only[R4];have F:=F5 me mo q0 q1 @ak;refine sb [.tmp 2] Tryz.func20 ?_;intro Q hQ;refine wk F ?_;refine kq F (T1 _) ?_;refine kq F (T2 _) ?_;refine lm (fun nL tL hL=>∃(i:Nat),es.length-i=nL∧h++[.row 25 3 0 [.agg [.str t,.str l,.sl 5 (es.map En.av)]]]=hL∧tL 3=.int .i64 i∧i≤es.length∧(es.take i).all enOk=true) ((fun(i:Nat)=>(es.length-i:Nat)) (0)) ?_ ?_
   ·refine H5 ⟨0,rfl,aw,?_,by omega,rfl⟩;all_goals try exact zZz F
   rintro _ s2 h' ⟨i,rfl,rfl,e3,hi,ha⟩ K2 hK2;simp only[am,ar,Nat.reduceEqDiff, ↓reduceIte]at e3;have F:=F2 F e3;by_cases c2:i<es.length
   ·obtain⟨x,hx2,_⟩:=aj c2;have d2:=H0 c2;have E1:=oh G x (hx x (H2 hx2));cases c3:enOk x with
    |true=>
     rw[c3]at E1;have ha':(es.take (i+1)).all enOk=true:=by
      rw[M8,hx2,List.all_append,ha];simp[c3]
     have F:=F3 F d2 hx2;(try refine sq F ?_);refine wk F ?_;refine kq F (E1 _) ?_;refine hK2 _ _ _ (H5 ⟨i+1,rfl,aw,?_,by omega,ha'⟩) (by omega);all_goals try exact zZz F
    |false=>
     rw[c3]at E1;have hn:es.all enOk=false:=by
      rw[List.all_eq_false];exact⟨x,H2 hx2,by simp[c3]⟩
     have F:=F3 F d2 hx2;(try refine sq F ?_);refine wk F ?_;refine kq F (E1 _) ?_;refine ee hQ F ?_;exact I3 (.bool _) ⟨by rw[hn];simp,rfl⟩
   ·have d2:=H3 c2;rw[H9 (by omega)]at ha;have F:=F2 F d2;(try refine sq F ?_);refine wk F ?_;refine ab (O1 _) ?_;(try refine sq F ?_);refine wk F ?_;refine ee hQ F ?_;exact I3 (.bool _) ⟨by rw[ha];simp,rfl⟩
theorem vn{n:Int}(h:inM n=true):(showF n).length≤100:=by
 obtain⟨hk,_⟩:=eO h;obtain⟨b1,b2,b3,b4,b5,b6,b7,b8,b9,b10,b11,b12⟩:=bX hk;have p4:(10:Int)^4=10000:=rfl;have p2:(10:Int)^2=100:=rfl;unfold showF;generalize ofP n=x at*;have q1:=(au 4 x.y (by omega) (by omega)).1;have q2:=(au 2 x.m (by omega) (by omega)).1;have q3:=(au 2 x.d (by omega) (by omega)).1;have q4:=(au 2 x.h (by omega) (by omega)).1;have q5:=(au 2 x.i (by omega) (by omega)).1;have q6:=(au 2 x.s (by omega) (by omega)).1;unfold showD;simp only[G4,G0,G8];omega
theorem dr(n s:Bs)(hn:n.length≤100)(hs:s.length≤10000)(h:Heap):Sat (CT G) 37 [.str n,.str s] h (fun r h'=>r=.str (onF n s)∧h'=h):=by
 have hE:=o9 G s (by omega);have he:=(dn s).1;have e1:onF n s=60::(n++62::(escF s++60::47::(n++[62]))):=by simp[onF,opn,cls]
 rw[e1];generalize escF s=ex at*;have F:=F3 (F3 (@J4 Blk) (@J4 AVal) (@J4 UInt8)) (F3 (@K5 Blk) (@K5 AVal) (@K5 UInt8)) (F3 (@J6 Blk) (@J6 AVal) (@J6 UInt8));refine sb [.tmp 4] Tryz.func37 ?_;intro Q hQ;refine wk F ?_;refine kq F (hE _) ?_;refine ee hQ F ?_;exact J9 (.str _) ⟨by simp,rfl⟩
theorem oo(d:Fd)(hok:fdOk d=true)(h:Heap):Sat (CT G) 21 [d.av] h (fun r h'=>r=.str (fdT d)∧h'=h):=by
 have hT:=mZ d;have hok2:=hok;unfold fdOk at hok2;simp only[G1,G6]at hok2;obtain⟨k1,k2,k3,k4,k5⟩:=hok2;have tl:∀{s:Bs} {m:Nat},textO s m=true→s.length≤m:=fun {s m} h=>by
  unfold textO at h;simp only[G1,G6]at h;exact h.1.1
 have l1:=tl k2;have l2:=tl k3;obtain⟨t,l,es⟩:=d;simp only[]at k1 k5 l1 l2 hT;have f1:(Fd.mk t l es).av=.agg [.str t,.str l,.sl 5 (es.map En.av)]:=rfl;rw[f1,hT];have me:(es.map En.av).length=es.length:=I7 ..;have zi:=cQ es k5;have zt:∀i,((es.take i).flatMap itmT).length≤10000*256:=fun i=>by
  have h1:=cQ (es.take i) (by rw[I0]at k5 ⊢;exact fun x hx=>k5 x (R2 hx));have h2:(es.take i).length≤256:=by rw[I6];omega
  have:10000*(es.take i).length≤10000*256:=U4 _ h2;omega
 have z2:=aN bTitle t;have z3:=aN bLink l;have hb2:bTitle.length=5:=rfl;have hb3:bLink.length=4:=rfl;rw[hb2]at z2;rw[hb3]at z3;have oT:∀h,Sat (CT G) 37 [.str [116,105,116,108,101],.str t] h (fun r h'=>r=.str (onF bTitle t)∧h'=h):=dr G bTitle t (by decide) (by omega);have oL:∀h,Sat (CT G) 37 [.str [108,105,110,107],.str l] h (fun r h'=>r=.str (onF bLink l)∧h'=h):=dr G bLink l (by decide) (by omega);generalize onF bTitle t=oTt at*;generalize onF bLink l=oLl at*;obtain⟨P,hP⟩:∃P:Bs,P=60::114::115::115::62::60::99::104::97::110::110::101::108::62::(oTt++oLl):=⟨_,rfl⟩;have hR:opn bRss++(opn bChan++(oTt++(oLl++(es.flatMap itmT++(cls bChan++cls bRss)))))=P++es.flatMap itmT++[60,47,99,104,97,110,110,101,108,62,60,47,114,115,115,62]:=by
  rw[hP];simp[opn,cls,bRss,bChan]
 rw[hR];have lP:P.length≤20000:=by
  rw[hP];simp only[G4,G0];omega
 generalize hS:es.flatMap itmT=S at*;have F:=F5 me (F3 (@J4 Blk) (@J4 AVal) (@J4 UInt8)) (F3 (@K5 Blk) (@K5 AVal) (@K5 UInt8)) (F3 (@J6 Blk) (@J6 AVal) (@J6 UInt8)) @ak;refine sb [.tmp 2] Tryz.func21 ?_;intro Q hQ;refine wk F ?_;refine ab (oT _) ?_;try refine sq F ?_
 refine wk F ?_;refine ab (oL _) ?_;try refine sq F ?_
 refine wk F ?_;refine lm (fun nL tL hL=>∃(i:Nat) (s:Bs) (j:Heap),es.length-i=nL∧h++(.row 25 3 0 [.agg [.str t,.str l,.sl 5 (es.map En.av)]]::j)=hL∧tL 3=.str s∧tL 4=.int .i64 i∧i≤es.length∧s=P++(es.take i).flatMap itmT∧s.length≤20000+20000*i) ((fun(i:Nat) (s:Bs) (j:Heap)=>(es.length-i:Nat)) (0) (60::114::115::115::62::60::99::104::97::110::110::101::108::62::(oTt++oLl)) ([])) ?_ ?_
 ·refine H5 ⟨0,60::114::115::115::62::60::99::104::97::110::110::101::108::62::(oTt++oLl),[],rfl,aw,?_,?_,by omega,by simp[hP],by rw[← hP];omega⟩;all_goals try exact zZz F
 rintro _ s2 h' ⟨i,s,j,rfl,rfl,e3,e4,hi,hs,hl⟩ K2 hK2;simp only[am,ar,Nat.reduceEqDiff, ↓reduceIte]at e3 e4;have F:=F3 F e3 e4;have zti:=zt i;by_cases c1:i<es.length
 ·obtain⟨x,hx,hxm⟩:=aj c1;have d1:=H0 c1;have hk:=I0.1 k5 x hxm;have nx:(es.take (i+1)).flatMap itmT=(es.take i).flatMap itmT++itmT x:=by rw[M8,hx];simp
  obtain⟨g1,g2,g3,g4⟩:=nf hk;obtain⟨g,tt,ll,n,b⟩:=x;simp only[]at g1 g2 g3;have oA:∀h,Sat (CT G) 37 [.str [103,117,105,100],.str g] h (fun r h'=>r=.str (onF bGuid g)∧h'=h):=dr G bGuid g (by decide) (by omega);have oB:∀h,Sat (CT G) 37 [.str [116,105,116,108,101],.str tt] h (fun r h'=>r=.str (onF bTitle tt)∧h'=h):=dr G bTitle tt (by decide) (by omega);have oC:∀h,Sat (CT G) 37 [.str [108,105,110,107],.str ll] h (fun r h'=>r=.str (onF bLink ll)∧h'=h):=dr G bLink ll (by decide) (by omega);have y1:=aN bGuid g;have y2:=aN bTitle tt;have y3:=aN bLink ll;have hb1:bGuid.length=4:=rfl;rw[hb1]at y1;rw[hb2]at y2;rw[hb3]at y3;cases b with
  |false=>
   have hs':s++60::105::116::101::109::62::(onF bGuid g++(onF bTitle tt++(onF bLink ll++[60,47,105,116,101,109,62])))=P++(es.take (i+1)).flatMap itmT:=by
    rw[nx,hs];simp[itmT,opn,cls,bItem]
   generalize onF bGuid g=A1 at*;generalize onF bTitle tt=A2 at*;generalize onF bLink ll=A3 at*;have F:=F3 F d1 hx;(try refine sq F ?_);refine wk F ?_;refine ab (oA _) ?_;(try refine sq F ?_);refine wk F ?_;refine ab (oB _) ?_;(try refine sq F ?_);refine wk F ?_;refine ab (oC _) ?_;(try refine sq F ?_);refine wk F ?_;refine hK2 _ _ _ (H5 ⟨i+1,s++60::105::116::101::109::62::(A1++(A2++(A3++[60,47,105,116,101,109,62]))),_,rfl,aw,?_,?_,by omega,hs',by simp only[G4,G0,G8];omega⟩) (by omega);all_goals try exact zZz F
  |true=>
   unfold enOk dateOk at hk;simp only[G1,if_true]at hk;have hin:inM n=true:=by
    unfold inM;rw[G1];exact hk.2.2.2.2
   have hS:=sL G n hin;have ls:=vn hin;have y4:=aN bPub (showF n);have hb5:bPub.length=7:=rfl;rw[hb5]at y4;have oD:∀h,Sat (CT G) 37 [.str [112,117,98,68,97,116,101],.str (showF n)] h (fun r h'=>r=.str (onF bPub (showF n))∧h'=h):=dr G bPub (showF n) (by decide) (by omega);have hs':s++60::105::116::101::109::62::(onF bGuid g++(onF bTitle tt++(onF bLink ll++(onF bPub (showF n)++[60,47,105,116,101,109,62]))))=P++(es.take (i+1)).flatMap itmT:=by
    rw[nx,hs];simp[itmT,opn,cls,bItem]
   generalize onF bGuid g=A1 at*;generalize onF bTitle tt=A2 at*;generalize onF bLink ll=A3 at*;generalize onF bPub (showF n)=A4 at*;generalize showF n=sh at*;have F:=F3 F d1 hx;(try refine sq F ?_);refine wk F ?_;refine ab (oA _) ?_;(try refine sq F ?_);refine wk F ?_;refine ab (oB _) ?_;(try refine sq F ?_);refine wk F ?_;refine ab (oC _) ?_;(try refine sq F ?_);refine wk F ?_;refine kq F (hS _) ?_;refine kq F (oD _) ?_;refine hK2 _ _ _ (H5 ⟨i+1,s++60::105::116::101::109::62::(A1++(A2++(A3++(A4++[60,47,105,116,101,109,62])))),_,rfl,aw,?_,?_,by omega,hs',by simp only[G4,G0,G8];omega⟩) (by omega);all_goals try exact zZz F
 ·have d1:=H3 c1;rw[H9 (by omega),hS]at hs;have F:=F2 F d1;try refine sq F ?_
  refine wk F ?_;refine ee hQ F ?_;exact I3 (.str _) ⟨by rw[hs];simp,rfl⟩
end
section
attribute [local irreducible] WP WPl WPix Sat
def doc12:Bs:=[60,114,115,115,62,60,99,104,97,110,110,101,108,62,60,105,116,101,109,62,60,103,117,105,100,62,97,60,47,103,117,105,100,62,60,116,105,116,108,101,62,49,60,47,116,105,116,108,101,62,60,47,105,116,101,109,62,60,105,116,101,109,62,60,103,117,105,100,62,97,60,47,103,117,105,100,62,60,47,105,116,101,109,62,60,47,99,104,97,110,110,101,108,62,60,47,114,115,115,62]
def atom12:Bs:=[60,102,101,101,100,62,60,101,110,116,114,121,62,60,105,100,62,98,60,47,105,100,62,60,47,101,110,116,114,121,62,60,47,102,101,101,100,62]
def wri12:Bs:=[60,114,115,115,62,60,99,104,97,110,110,101,108,62,60,116,105,116,108,101]++([62,60,47,116,105,116,108,101,62,60,108,105,110,107,62,60,47,108,105,110]++([107,62,60,105,116,101,109,62,60,103,117,105,100,62,97,60,47,103,117,105]++([100,62,60,116,105,116,108,101,62,49,60,47,116,105,116,108,101,62,60,108]++([105,110,107,62,60,47,108,105,110,107,62,60,47,105,116,101,109,62,60,47]++([99,104,97,110,110,101,108,62,60,47,114,115,115,62])))))
def eA12:AVal:=.agg [.str [97],.str [49],.str [],.int .i64 0,.bool false]
def eB12:AVal:=.agg [.str [98],.str [],.str [],.int .i64 0,.bool false]
def eZ12:AVal:=.agg [.str [],.str [],.str [],.int .i64 0,.bool false]
def z12:AVal:=.agg [.str [],.str [],.nil (.slice none 0 0)]
def enX:AVal→Option En
 | .agg [.str g,.str t,.str l,.int .i64 n,.bool b]=>some ⟨g,t,l,n,b⟩
 |_=>none
theorem xP{x:AVal}{e:En}(h:enX x=some e):x=e.av:=by
 unfold enX at h;split at h
 ·cases h;rfl
 ·cases h
def enL:List AVal→Option (List En)
 | []=>some []
 |x::l=>match enX x,enL l with
  |some a,some b=>some (a::b)
  |_,_=>none
theorem tg:∀{es:List AVal} {l:List En},enL es=some l→es=l.map En.av
 | [],l,h=>by cases h;rfl
 |x::es,l,h=>by
  unfold enL at h;split at h
  ·rename_i a b ha hb;cases h;rw[J7, ← xP ha, ← tg hb]
  ·cases h
def orcO(f:FuncId)(args:List AVal):Option AVal:=match args with
 | [.sl 5 es]=>if f=16 then(match enL es with
  |some l=>if l.length≤1000 then some (.sl 5 ((onceF l).map En.av))else none
  |none=>none)else orcX f args
 |_=>orcX f args
theorem wH{G:Nat→Option (List AVal)}(hG:GOk G):OrcOk (CT G) orcO:=by
 intro f args r g h;unfold orcO at g;split at g
 ·rename_i es;split at g
  ·rename_i e;subst e;split at g
   ·rename_i l hl;split at g
    ·rename_i hn;cases g;rw[tg hl];exact dN G l (by omega) h
    ·cases g
   ·cases g
  ·exact jO hG f _ _ g h
 ·exact jO hG f _ _ g h
theorem Sat.closedD{C:Ctx}(hG:GClo C){orc:FuncId→List AVal→Option AVal}(horc:OrcOk C orc)(lf n:Nat){f:FuncId}{args:List AVal}{v:AVal}(ha:args.all (cloA 0)=true)(hv:cloA 0 v=true)
  (hrun:isV v (callX C orc lf n f args [])=true)(h:Heap):Sat C f args h fun r2 h2=>r2=v∧h2=h:=by
 unfold isV at hrun;split at hrun
 ·rename_i r h1 e;split at hrun
  ·rename_i y hy;have ey:=ch _ _ hrun;subst ey;have s:=(iH horc lf n f args [] r h1 e).letgo (v:=y) (by simp) (i8 _ _ _ _ _ hy);refine(s.frame hG (fun x hx=>c8 0 _ (I0.1 ha x hx)) (fun r h' ⟨e1,e2⟩=>⟨by rw[e1];exact c8 0 _ hv,e2⟩) h).mono fun r2 h2 ⟨⟨e1,_⟩,e2⟩=>⟨e1,e2⟩
  ·cases hrun
 ·cases hrun
theorem Wk.tupD{xs ys:List AVal}(hl:xs.length=ys.length)(hw:∀(i:Nat) (x y:AVal),xs[i]? =some x→ys[i]? =some y→Wk x y):Wk (.tup xs) (.tup ys):=fun w S μ v r=>by
 cases r with
 |tup _ vs hvl hr=>
  refine .tup ys vs (by omega) (fun i d hd=>?_);have hlt:=(F1.1 hd).1;have hc:=G3 (show i<xs.length by omega);exact hw i _ d hc hd w S μ _ (hr i _ hc)
def wkL(f:AVal→AVal→Bool):List AVal→List AVal→Bool
 | [],[]=>true
 |x::xs,y::ys=>f x y&&wkL f xs ys
 |_,_=>false
def wkB:Nat→AVal→AVal→Bool
 |0,x,y=>beqA x y
 |f+1,x,y=>beqA x y||match x,y with
  | .nil (.slice none 0 0),.sl _ []=>true
  | .agg xs,.agg ys=>wkL (wkB f) xs ys&&ys.all AVal.sto
  | .tup xs,.tup ys=>wkL (wkB f) xs ys
  | .sl n xs,.sl m ys=>(n==m)&&wkL (fun r s=>wkL (wkB f) r.cells s.cells&&s.cells.all AVal.sto) xs ys
  |_,_=>false
theorem hY{f:AVal→AVal→Bool}{R:AVal→AVal→Prop}(hf:∀x y,f x y=true→R x y):∀{xs ys:List AVal},wkL f xs ys=true→xs.length=ys.length∧∀(i:Nat) (x y:AVal),xs[i]? =some x→ys[i]? =some y→R x y
 | [],[],_=>⟨rfl,fun i x y hx=>by simp at hx⟩
 |x::xs,y::ys,h=>by
  unfold wkL at h;rw[G1]at h;obtain⟨h1,h2⟩:=hY hf h.2;refine⟨by simp[h1],fun i a b ha hb=>?_⟩;cases i with
  |zero=>cases ha;cases hb;exact hf _ _ h.1
  |succ i=>exact h2 i a b ha hb
 | [],_::_,h=>by cases h
 |_::_,[],h=>by cases h
theorem xQ:∀(f:Nat) (x y:AVal),wkB f x y=true→Wk x y:=by
 intro f;induction f with
 |zero=>intro x y h;rw[ch _ _ h];exact Wk.refl _
 |succ f ih=>
  intro x y h;unfold wkB at h;rw[L7]at h;rcases h with h|h
  ·rw[ch _ _ h];exact Wk.refl _
  ·split at h
   ·exact Wk.nils _
   ·rw[G1,I0]at h;obtain⟨h1,h2⟩:=hY ih h.1;exact Wk.agg h1 h.2 h2
   ·obtain⟨h1,h2⟩:=hY ih h;exact Wk.tupD h1 h2
   ·rw[G1,beq_iff_eq]at h;obtain⟨rfl,h⟩:=h;obtain⟨h1,h2⟩:=hY (R:=fun r s=>WkR r s) (fun r s hh=>by
     rw[G1,I0]at hh;obtain⟨k1,k2⟩:=hY ih hh.1;exact⟨k1,fun j c d hc hd=>⟨k2 j c d hc hd,fun _=>hh.2 d (H2 hd)⟩⟩) h
    exact Wk.slD h1 h2
   ·cases h
def isW(v:AVal):Option (AVal×Heap)→Bool
 |some (r,h1)=>match frzX h1 0 20 r with
  |some y=>wkB 20 y v&&cloA 0 y
  |none=>false
 |none=>false
theorem Sat.wkD{C:Ctx}{f:FuncId}{args:List AVal}{h h0:Heap}{a b:AVal}(hw:Wk a b)(s:Sat C f args h (fun r h'=>r=a∧h'=h0)):Sat C f args h (fun r h'=>r=b∧h'=h0):=by
 unfold Sat at*;intro B S μ w vs x y;refine(s B S μ w vs x y).mono fun v w' hp=>?_
 obtain⟨r,h',S',μ',⟨rfl,hh⟩,st,f',rp⟩:=hp;exact⟨b,h',S',μ',⟨rfl,hh⟩,st,f',hw _ _ _ _ rp⟩
theorem Sat.closedW{C:Ctx}(hG:GClo C){orc:FuncId→List AVal→Option AVal}(horc:OrcOk C orc)(lf n:Nat){f:FuncId}{args:List AVal}{v:AVal}(ha:args.all (cloA 0)=true)
  (hrun:isW v (callX C orc lf n f args [])=true)(h:Heap):Sat C f args h fun r2 h2=>r2=v∧h2=h:=by
 unfold isW at hrun;split at hrun
 ·rename_i r h1 e;split at hrun
  ·rename_i y hy;rw[G1]at hrun;refine Sat.wkD (xQ _ _ _ hrun.1) ?_;have s:=(iH horc lf n f args [] r h1 e).letgo (v:=y) (by simp) (i8 _ _ _ _ _ hy);refine(s.frame hG (fun x hx=>c8 0 _ (I0.1 ha x hx)) (fun r h' ⟨e1,e2⟩=>⟨by rw[e1];exact c8 0 _ hrun.2,e2⟩) h).mono fun r2 h2 ⟨⟨e1,_⟩,e2⟩=>⟨e1,e2⟩
  ·cases hrun
 ·cases hrun
section
variable (G:Nat→Option (List AVal))
def e12:Elem:=⟨[114,115,115],[],[],[⟨[99,104,97,110,110,101,108],[],[],[⟨[105,116,101,109],[],[],[⟨[103,117,105,100],[],[97],[]⟩,⟨[116,105,116,108,101],[],[49],[]⟩]⟩,⟨[105,116,101,109],[],[],[⟨[103,117,105,100],[],[97],[]⟩]⟩]⟩]⟩
theorem Cp:ofE e12=some ⟨[],[],[⟨[97],[49],[],0,false⟩]⟩:=by kernel_rfl
theorem xR:isW (.tup [e12.av,.int .i64 0]) (callX (CT G) orcX 1000 100 22 [.str doc12] [])=true:=by kernel_rfl
theorem vp(hG:GOk G)(hc:GClo (CT G))(h:Heap):Sat (CT G) 8 [.str doc12] h (fun r h'=>r=.tup [.agg [.str [],.str [],.sl 5 [eA12]],.int .i64 0]∧h'=h):=by
 have hT:=Sat.closedW hc (jO hG) 1000 100 (f:=22) (args:=[.str doc12]) rfl (xR G);have hO:=mU G hG e12 (T8 (by kernel_rfl));rw[Cp]at hO;have hO:∀h,Sat (CT G) 13 [e12.av] h (fun r h'=>r=.tup [.agg [.str [],.str [],.sl 5 [eA12]],.int .i64 0]∧h'=h):=hO;rw[Elem.av_eq]at hT hO;have F:= @ak;refine sb [.cell 2 25,.tmp 3] Tryz.func8 ?_;intro Q hQ;refine wk F ?_;refine kq F (hT _) ?_;refine kq F (hO _) ?_;refine ye hQ F ?_;exact I3 (c8 _ _ rfl) ⟨rfl,rfl⟩
theorem xS:isV (.tup [z12,.int .i64 120]) (callX (CT G) orcO 1000 100 8 [.str [60,104,116,109,108,47,62]] [])=true:=by kernel_rfl
theorem xT:isV (.tup [z12,.int .i64 90]) (callX (CT G) orcO 1000 100 8 [.str [60,104,116,109,108,62]] [])=true:=by kernel_rfl
theorem xU:isV (.tup [z12,.int .i64 80]) (callX (CT G) orcO 1000 100 8 [.str [60]] [])=true:=by kernel_rfl
theorem xV:isV (.tup [.agg [.str [],.str [],.sl 5 [eB12]],.int .i64 0]) (callX (CT G) orcO 1000 100 8 [.str atom12] [])=true:=by kernel_rfl
theorem xW:isV (.tup [.str wri12,.int .i64 0]) (callX (CT G) orcO 1000 100 19 [.agg [.str [],.str [],.sl 5 [eA12]]] [])=true:=by kernel_rfl
theorem xX:isV (.tup [z12,.int .i64 120]) (callX (CT G) orcO 1000 100 13 [.agg [.str [],.nil (.slice none 0 0),.str [],.nil (.slice none 0 0)]] [])=true:=by kernel_rfl
theorem xY:isV (.int .i64 120) (callX (CT G) orcO 1000 100 11 [.agg [.str [],.str [],.sl 5 [eZ12]]] [])=true:=by kernel_rfl
theorem ot(hG:GOk G)(hc:GClo (CT G))(h:Heap):Sat (CT G) 7 [] h (fun r h'=>r=.bool true∧h'=h):=by
 have cl:=fun {f:FuncId} {args:List AVal} {v:AVal} (ha:args.all (cloA 0)=true) (hv:cloA 0 v=true)=>Sat.closedD hc (wH hG) 1000 100 (f:=f) (v:=v) ha hv
 have h1:=vp G hG hc;have h2:=cl rfl rfl (xS G);have h3:=cl rfl rfl (xT G);have h4:=cl rfl rfl (xU G);have h5:=cl rfl rfl (xV G);have h6:=cl rfl rfl (xW G);have h7:=cl rfl rfl (xX G);have h8:=cl rfl rfl (xY G);have ap:∀a b:Bs,List.append a b=a++b:=fun _ _=>rfl
 have qe:∀a:Bs,(a==a)=true:=fun a=>by simp
 unfold eA12 at h1 h6;unfold wri12 at h6;unfold eB12 at h5;unfold eZ12 at h8;unfold z12 at h2 h3 h4 h7;have hS:∀h,Sat (CT G) 15 [.sl 5 [eA12],.sl 5 [eA12]] h (fun r h'=>r=.bool true∧h'=h):=fun h=>by
  have:=ju G [⟨[97],[49],[],0,false⟩] [⟨[97],[49],[],0,false⟩] (by decide) (by decide) h;rw[H0 rfl]at this;exact this
 have hO:∀h,Sat (CT G) 16 [.sl 5 [eZ12,eZ12]] h (fun r h'=>r=.sl 5 [eZ12]∧h'=h):=fun h=>dN G [⟨[],[],[],0,false⟩,⟨[],[],[],0,false⟩] (by decide) h
 unfold eA12 at hS;unfold eZ12 at hO;have F:=F5 qe ap (F3 (@K5 Blk) (@K5 AVal) (@K5 UInt8)) (F3 (@J6 Blk) (@J6 AVal) (@J6 UInt8)) @ak;refine sb [.tmp 0] Tryz.func7 ?_;intro Q hQ;refine wk F ?_;refine kq F (h1 _) ?_;refine kq F (h2 _) ?_;refine kq F (h3 _) ?_;refine kq F (h4 _) ?_;refine kq F (h5 _) ?_;refine kq F (h6 _) ?_;refine kq F (h7 _) ?_;refine kq F (hS _) ?_;refine kq F (h8 _) ?_;refine kq F (hO _) ?_;refine ee hQ F ?_;exact I3 (.bool _) ⟨rfl,rfl⟩
end
end
section
attribute [local irreducible] WP WPl WPix Sat
variable (G:Nat→Option (List AVal))
theorem ou(d:Fd)(h:Heap):Sat (CT G) 18 [d.av] h (fun r h'=>(∃b,r=.bool b∧(b=false→FdT d))∧h'=h):=by
 obtain⟨t,l,es⟩:=d;have me:(es.map En.av).length=es.length:=I7 ..;have f1:(Fd.mk t l es).av=.agg [.str t,.str l,.sl 5 (es.map En.av)]:=rfl;rw[f1];have yes:∀j,Fin h (h++j) (fun r h'=>(∃b,r=.bool b∧(b=false→FdT ⟨t,l,es⟩))∧h'=h) (.bool true):=fun j=>I3 (.bool _) ⟨⟨true,rfl,fun k=>by cases k⟩,rfl⟩
 by_cases c0:es.length≤300
 rotate_left
 ·have q0:decide ((es.length:Int)>300)=true:=H0 (by omega);have F:=F3 me q0 @ak;refine sb [.tmp 2] Tryz.func18 ?_;intro Q hQ;refine wk F ?_;refine ee hQ F ?_;exact yes _
 have q0:decide ((es.length:Int)>300)=false:=H3 (by omega);by_cases ct:t.length≤2000
 rotate_left
 ·have q1:decide ((t.length:Int)>2000)=true:=H0 (by omega);have F:=F4 me q0 q1 @ak;refine sb [.tmp 2] Tryz.func18 ?_;intro Q hQ;refine wk F ?_;refine ee hQ F ?_;exact yes _
 have q1:decide ((t.length:Int)>2000)=false:=H3 (by omega);by_cases cl:l.length≤2000
 rotate_left
 ·have q2:decide ((l.length:Int)>2000)=true:=H0 (by omega);have F:=F5 me q0 q1 q2 @ak;refine sb [.tmp 2] Tryz.func18 ?_;intro Q hQ;refine wk F ?_;refine ee hQ F ?_;exact yes _
 have q2:decide ((l.length:Int)>2000)=false:=H3 (by omega);have F:=F5 me q0 q1 q2 @ak;refine sb [.tmp 2] Tryz.func18 ?_;intro Q hQ;refine wk F ?_;refine lm (fun nL tL hL=>∃(i:Nat) (m:Int) (j:Heap),es.length-i=nL∧h++(.row 25 3 0 [.agg [.str t,.str l,.sl 5 (es.map En.av)]]::j)=hL∧tL 3=.int .i64 m∧tL 4=.int .i64 i∧i≤es.length∧(0≤m∧m≤6000*i)∧(∀x∈es.take i,EnT x)) ((fun(i:Nat) (m:Int) (j:Heap)=>(es.length-i:Nat)) (0) (0) ([])) ?_ ?_
 ·refine H5 ⟨0,0,[],rfl,aw,?_,?_,by omega,by omega,by simp⟩;all_goals try exact zZz F
 rintro _ s2 h' ⟨i,m,j,rfl,rfl,e3,e4,hi,hm,hx⟩ K2 hK2;simp only[am,ar,Nat.reduceEqDiff, ↓reduceIte]at e3 e4;have F:=F3 F e3 e4;by_cases c1:i<es.length
 ·obtain⟨x,hxi,hxm⟩:=aj c1;have d1:=H0 c1;obtain⟨g,tt,ll,n,b⟩:=x;by_cases u1:g.length≤2000
  rotate_left
  ·have r1:decide ((g.length:Int)>2000)=true:=H0 (by omega);have F:=F4 F d1 hxi r1;(try refine sq F ?_);refine wk F ?_;refine ee hQ F ?_;exact yes _
  have r1:decide ((g.length:Int)>2000)=false:=H3 (by omega);by_cases u2:tt.length≤2000
  rotate_left
  ·have r2:decide ((tt.length:Int)>2000)=true:=H0 (by omega);have F:=F5 F d1 hxi r1 r2;(try refine sq F ?_);refine wk F ?_;refine ee hQ F ?_;exact yes _
  have r2:decide ((tt.length:Int)>2000)=false:=H3 (by omega);by_cases u3:ll.length≤2000
  rotate_left
  ·have r3:decide ((ll.length:Int)>2000)=true:=H0 (by omega);have F:=F6 F d1 hxi r1 r2 r3;(try refine sq F ?_);refine wk F ?_;refine ee hQ F ?_;exact yes _
  have r3:decide ((ll.length:Int)>2000)=false:=H3 (by omega);have hx':∀y∈es.take (i+1),EnT y:=fun y hy=>by
   rw[M8,hxi]at hy;rcases U0.1 hy with hy|hy
   ·exact hx y hy
   ·have:y=⟨g,tt,ll,n,b⟩:=by simpa using hy
    rw[this];exact⟨u1,u2,u3⟩
  have F:=F6 F d1 hxi r1 r2 r3;try refine sq F ?_
  refine wk F ?_;refine hK2 _ _ _ (H5 ⟨i+1,m+(g.length:Int)+(tt.length:Int)+(ll.length:Int),_,rfl,aw,?_,?_,by omega,by omega,hx'⟩) (by omega);all_goals try exact zZz F
 ·have d1:=H3 c1;rw[H9 (by omega)]at hx;have fin:∀(b:Bool) (j:Heap),Fin h (h++j) (fun r h'=>(∃b,r=.bool b∧(b=false→FdT ⟨t,l,es⟩))∧h'=h) (.bool b):=fun b j=>I3 (.bool _) ⟨⟨b,rfl,fun _=>⟨ct,cl,c0,hx⟩⟩,rfl⟩
  generalize hb:decide (m>20000)=bb at*;have F:=F3 F d1 hb;try refine sq F ?_
  refine wk F ?_;refine ee hQ F ?_;exact fin _ _
theorem FdT.S{d:Fd}(h:FdT d):FdS d:=by
 obtain⟨h1,h2,h3,h4⟩:=h;refine⟨by omega,by omega,by omega,fun x hx=>?_⟩;obtain⟨k1,k2,k3⟩:=h4 x hx;exact⟨by omega,by omega,by omega⟩
theorem wI{d:Fd}(ok:fdOk d=true):(fdT d).length≤4000000:=by
 obtain⟨t,k,es⟩:=d;rw[mZ];unfold fdOk at ok;simp only[G1,G6]at ok;obtain⟨k1,k2,k3,k4,k5⟩:=ok;have tl:∀{s:Bs} {m:Nat},textO s m=true→s.length≤m:=fun {s m} h=>by
  unfold textO at h;simp only[G1,G6]at h;exact h.1.1
 have l1:=tl k2;have l2:=tl k3;have z2:=aN bTitle t;have z3:=aN bLink k;have z4:=cQ es k5;have hb2:bTitle.length=5:=rfl;have hb3:bLink.length=4:=rfl;have hb4:bRss.length=3:=rfl;have hb5:bChan.length=7:=rfl;have:10000*es.length≤10000*256:=U4 _ k1;unfold opn cls;simp only[G4,G0,G8];omega
theorem jR(hG:GOk G)(hC:GClo (CT G))(d:Fd)(h:Heap):Sat (CT G) 5 [d.av] h (fun r h'=>r=.bool true∧h'=h):=by
 have hL:=ot G hG hC;have hLg:=ou G d;have f1:d.av=.agg [.str d.title,.str d.link,.sl 5 (d.es.map En.av)]:=rfl;have hS0:= @FdT.S d;have hWr:=og G d;have hCk:=iC G d;have hRc:=om G d;have hRw:=oo G d;have hTl:= @wI d;have hRd:= @xM d;have hD:d.es.length≤1048576→∀h,Sat (CT G) 10 [d.av,d.av] h (fun r h'=>r=.bool true∧h'=h):=fun hk h=>by
  have:=qM G d d hk hk h
  rwa [H0 ⟨rfl,rfl,rfl⟩]at this
 have nn:((0:Int) !=0)=false:=rfl;have ap:∀a b:Bs,List.append a b=a++b:=fun _ _=>rfl
 have qe:∀a:Bs,(a==a)=true:=fun a=>by simp
 have qn:∀a:Bs,(a !=a)=false:=fun a=>by simp
 rw[f1]at*;obtain⟨t,k,es⟩:=d;simp only[]at*;have F:=F6 nn qe qn @M9 @O0 @ak;refine sb [.tmp 2] Tryz.func5 ?_;intro Q hQ;refine wk F ?_;refine(hLg _).mono ?_;rintro r h' ⟨⟨b,rfl,hb⟩,rfl⟩;cases b with
 |true=>
  try refine sq F ?_
  refine wk F ?_;refine kq F (hL _) ?_;refine ee hQ F ?_;exact I3 (.bool _) ⟨rfl,rfl⟩
 |false=>
  have hT:=hb rfl;have hS:=hS0 hT;have hWr:=hWr hS;have hCk:=hCk hS;have hRc:=hRc hT;have hD:=hD hS.2.2.1;cases ok:fdOk ⟨t,k,es⟩with
  |false=>
   rw[ok]at hWr hCk hRc;have hWr:∀h,Sat (CT G) 19 [.agg [.str t,.str k,.sl 5 (es.map En.av)]] h (fun r h'=>r=.tup [.str [],.int .i64 120]∧h'=h):=hWr;have hCk:∀h,Sat (CT G) 11 [.agg [.str t,.str k,.sl 5 (es.map En.av)]] h (fun r h'=>r=.int .i64 120∧h'=h):=hCk;(try refine sq F ?_);refine wk F ?_;refine kq F (hWr _) ?_;refine kq F (hL _) ?_;refine kq F (hRc _) ?_;refine kq F (hCk _) ?_;refine ee hQ F ?_;exact I3 (.bool _) ⟨rfl,rfl⟩
  |true=>
   have hTl:=hTl ok;have hRd:=hRd ok;have hRw:=hRw ok;rw[ok]at hWr hCk hRc;have hP2:=nZ G hG hC (fdT ⟨t,k,es⟩) (by omega);unfold RdD at hP2;generalize fdT ⟨t,k,es⟩=T at*;have hWr:∀h,Sat (CT G) 19 [.agg [.str t,.str k,.sl 5 (es.map En.av)]] h (fun r h'=>r=.tup [.str T,.int .i64 0]∧h'=h):=hWr;have hCk:∀h,Sat (CT G) 11 [.agg [.str t,.str k,.sl 5 (es.map En.av)]] h (fun r h'=>r=.int .i64 0∧h'=h):=hCk;by_cases hl:T.length≤65536
   ·have q3:decide ((T.length:Int)>65536)=false:=H3 (by omega);rw[hRd hl]at hP2;have hP2:∀h,Sat (CT G) 8 [.str T] h (fun r h'=>r=.tup [.agg [.str t,.str k,.sl 5 (es.map En.av)],.int .i64 0]∧h'=h):=hP2;have F:=F2 F q3;(try refine sq F ?_);refine wk F ?_;refine kq F (hWr _) ?_;refine kq F (hL _) ?_;refine kq F (hRc _) ?_;refine kq F (hCk _) ?_;refine kq F (hRw _) ?_;refine kq F (hP2 _) ?_;refine kq F (hD _) ?_;refine ee hQ F ?_;exact I3 (.bool _) ⟨rfl,rfl⟩
   ·have q3:decide ((T.length:Int)>65536)=true:=H0 (by omega);generalize rdD T=y at*;obtain⟨⟨t',k',es'⟩,c'⟩:=y;have hP2:∀h,Sat (CT G) 8 [.str T] h (fun r h'=>r=.tup [.agg [.str t',.str k',.sl 5 (es'.map En.av)],.int .i64 c']∧h'=h):=hP2;have F:=F2 F q3;(try refine sq F ?_);refine wk F ?_;refine kq F (hWr _) ?_;refine kq F (hL _) ?_;refine kq F (hRc _) ?_;refine kq F (hCk _) ?_;refine kq F (hRw _) ?_;refine kq F (hP2 _) ?_;refine ee hQ F ?_;exact I3 (.bool _) ⟨rfl,rfl⟩
end
end Go.Av
