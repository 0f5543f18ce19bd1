/- Parts. -/
import Derived.Test.YtjfjncmgclaokaaGreatDoorMqDj
import Derived.Test.YtjfjncmgclaokaaGreatDoorMqDx8
import Derived.Test.YtjfjncmgclaokaaGreatDoorMqDxe
import Derived.Test.YtjfjncmgclaokaaGreatDoorMqTi
set_option linter.unusedSimpArgs false
set_option linter.unusedVariables false
set_option linter.unusedSectionVars false
set_option linter.unnecessarySimpa false
set_option maxRecDepth 100000
set_option maxHeartbeats 16000000
namespace Go.Av
open Go Go.Proofs Go.RowKit
section
attribute [local irreducible] WP WPl WPix Sat
variable (G:Nat→Option (List AVal))
theorem gJ(g:FuncId)(f:Rdr→Int×Rdr){w s:Bs}{b:Bool}{h j:Heap}
  (hF:∀{n:Int} {s':Bs} {b':Bool},f ⟨w,false⟩=(n,⟨s',b'⟩)→∀{H:Heap} {p:Nat},getRow H p 0=some (309,2,[.agg [.str w,.bool false]])→Sat (CT G) g [.hp p 0 0 0] H (fun r h'=>r=.int .i64 n∧h'=H.set p (dR s' b'))):
  Sat (CT G) 329 [.hp h.length 0 0 0,.str w,.fn (.func g) [] []] (h++dR s b::j) (fun r h'=>r=.int .i64 (Rdr.part w f).1∧h'=h++dR s (b||(Rdr.part w f).2)::j):=by
 rcases e:f ⟨w,false⟩with⟨n,s',b'⟩;have hg:getRow (h++dR s b::j) h.length 0=some (309,2,[.agg [.str s,.bool b]]):=by rw[bL _ rfl];rfl
 have hF':Sat (CT G) g [.hp (h++dR s b::j).length 0 0 0] ((h++dR s b::j)++[dR w false]) (fun r h'=>r=.int .i64 n∧h'=(h++dR s b::j)++[dR s' b']):=by
  have:=hF e (H:=(h++dR s b::j)++[dR w false]) (p:=(h++dR s b::j).length) (by rw[bL _ rfl];rfl)
  rwa [eO _ rfl,Q5]at this
 have S:=sE G g hg hF';rw[eO _ rfl,Q5]at S;have e1:Rdr.part w f=(n,b'||decide (s'≠ [])):=by unfold Rdr.part;rw[e]
 rw[e1];exact S
theorem ve(w:Bs):0≤(Rdr.part w Rdr.clock).1∧(Rdr.part w Rdr.clock).1≤1000000:=by
 show 0≤(Rdr.clock ⟨w,false⟩).1∧(Rdr.clock ⟨w,false⟩).1≤1000000;rcases e1:(Rdr.mk w false).digits 2 with⟨hh,s1,b1⟩;rcases e2:(Rdr.mk s1 b1).sign [58]with⟨x2,s2,b2⟩;rcases e3:(Rdr.mk s2 b2).digits 2 with⟨m,s3,b3⟩;rcases e4:(Rdr.mk s3 b3).sign [58]with⟨x4,s4,b4⟩;rcases e5:(Rdr.mk s4 b4).digits 2 with⟨c,s5,b5⟩;have h10:(10:Int)^2=100:=rfl;have k1:=bw e1;have k3:=bw e3;have k5:=bw e5;rw[h10]at k1 k3 k5;by_cases h3:s3=[]
 ·have ec:(Rdr.clock ⟨w,false⟩).1=3600*hh+60*m+0:=by
   unfold Rdr.clock;simp only[e1,e2,e3];simp[h3]
  rw[ec];omega
 ·have ec:(Rdr.clock ⟨w,false⟩).1=3600*hh+60*m+c:=by
   unfold Rdr.clock;simp only[e1,e2,e3,G0 h3,e4,e5]
  rw[ec];omega
theorem xF(w:Bs): -400000≤(Rdr.part w fun r=>r.off false).1∧(Rdr.part w fun r=>r.off false).1≤400000:=Rdr.off_bd (r:=⟨w,false⟩) (c:=false)
theorem wq{w:Bs}{z:Int}(h:namF w=some z): -400000≤z∧z≤400000:=by
 unfold namF at h;split at h
 ·rename_i i _;cases h;have:∀i:Nat, -8≤hrsL.getD i 0∧hrsL.getD i 0≤0:=fun i=>by
   rw[L9];cases e:hrsL[i]? with
   |none=>exact⟨by decide,by decide⟩
   |some x=>
    have hm:=G4 e;have:∀x∈hrsL, -8≤x∧x≤0:=by decide
    exact this x hm
  have:=this i;omega
 ·cases h
theorem ph{w:List Bs}(h:¬(w.length=5∧1≤(w.getD 0 []).length∧(w.getD 0 []).length≤2)):wrdP w=none:=by
 unfold wrdP;exact G0 h
theorem ws{w:List Bs}(h:w.length=5∧1≤(w.getD 0 []).length∧(w.getD 0 []).length≤2){d y t z:Int}{b1 b2 b3 b4:Bool}(e1:Rdr.part (w.getD 0 []) Rdr.all=(d,b1))(e2:Rdr.part (w.getD 2 []) Rdr.year=(y,b2))(e3:Rdr.part (w.getD 3 []) Rdr.clock=(t,b3))
  (e4:(match namF (w.getD 4 [])with|some z=>(z,false)|none=>Rdr.part (w.getD 4 []) fun r=>r.off false)=(z,b4)):wrdP w=(Rdr.mk [] (b1||b2||b3||b4)).told ⟨y,ixS monL (w.getD 1 [])+1,d,t/3600,t/60%60,t%60⟩ z:=by
 unfold wrdP Rdr.told;rw[G3 h,e1,e2,e3];cases hn:namF (w.getD 4 [])with
 |some z'=>rw[hn]at e4;cases e4;simp
 |none=>
  rw[hn]at e4;have e4:(Rdr.part (w.getD 4 []) fun r=>r.off false)=(z,b4):=e4;simp only[];rw[e4];simp
theorem vf(hG:GOk G)(s:Bs)(hs:s.length≤8388608)(h:Heap):Sat (CT G) 302 [.str s] h (fun r h'=>r=.tup [.int .i64 ((mailP s).getD 0),.int .i64 (if (mailP s).isSome then 0 else 40)]∧h'=h):=by
 have dt:∀i:Decidable True, @decide True i=true:=fun i=>by simp
 have df:∀i:Decidable False, @decide False i=false:=fun i=>by simp
 have hS:=sJ G hG s 32 hs;have hle:=fO 32 s;have em:mailP s=wrdP (if (splF 32 s).length=6∧(splF 32 s).getD 0 []∈weekL then(splF 32 s).drop 1 else splF 32 s):=rfl;generalize splF 32 s=w at*;have mw:(w.map AVal.str).length=w.length:=I9 ..;have hWk:=sC G (w.getD 0 []);have alt:∃W:List Bs,mailP s=wrdP W∧(∀x∈W,x.length≤8388608)∧((((w.length:Int)==6)=false∧w=W)∨(((w.length:Int)==6)=true∧decide (w.getD 0 []∈weekL)=false∧w[0]? =some (w.getD 0 [])∧w=W)∨
   (((w.length:Int)==6)=true∧decide (w.getD 0 []∈weekL)=true∧w[0]? =some (w.getD 0 [])∧∀H,aslice Tryz.prog H 62 (.sl 1 (w.map AVal.str)) (some (.int .i64 1)) none none=some (.sl 1 (W.map AVal.str)))):=by
  have hl:∀x∈w,x.length≤8388608:=fun x hx=>by have:=hle x hx;omega
  by_cases six:w.length=6
  ·have q6:((w.length:Int)==6)=true:=(by rw[six];rfl);have g:=aU (w:=w) (k:=0) (by omega);by_cases hm:w.getD 0 []∈weekL
   ·rw[em,G3 ⟨six,hm⟩];refine⟨w.drop 1,rfl,fun x hx=>hl x (List.mem_of_mem_drop hx),.inr (.inr ⟨q6,G8 hm,g,fun H=>?_⟩)⟩;rw[List.map_drop];exact jM (i:=1) (by simp only[go_sem];try rfl) (by simp only[go_sem];try rfl) (by rw[I9];omega)
   ·rw[em,G0 (fun n=>hm n.2)];exact⟨w,rfl,hl,.inr (.inl ⟨q6,G7 hm,g,rfl⟩)⟩
  ·rw[em,G0 (fun n=>six n.1)];exact⟨w,rfl,hl,.inl ⟨by simpa using(by omega:¬(w.length:Int)=6),rfl⟩⟩
 obtain⟨W,eW,hWl,alt⟩:=alt;rw[eW];have mW:(W.map AVal.str).length=W.length:=I9 ..;clear em eW hle;have start:∀{Q:AVal→Heap→Prop},True:=fun {Q}=>trivial
 by_cases l5:W.length=5
 rotate_left
 ·have q5:((W.length:Int) !=5)=true:=by simp only[bne_iff_ne,ne_eq];omega
  have hw:=ph (w:=W) (fun n=>l5 n.1);rcases alt with⟨q6,rfl⟩| ⟨q6,qm,g,rfl⟩| ⟨q6,qm,g,hsB⟩
  ·have F:=F5 mw q6 q5 dt df;refine sb [.tmp 2,.tmp 3] Tryz.func302 ?_;intro Q hQ;refine wk F ?_;refine kq F (hS _) ?_;refine ee hQ F ?_;exact I8 (ch _ _ _) ⟨by rw[hw];rfl,rfl⟩
  ·rw[qm]at hWk;have F:=F6 mw q6 q5 g dt df;refine sb [.tmp 2,.tmp 3] Tryz.func302 ?_;intro Q hQ;refine wk F ?_;refine kq F (hS _) ?_;refine kq F (hWk _) ?_;refine ee hQ F ?_;exact I8 (ch _ _ _) ⟨by rw[hw];rfl,rfl⟩
  ·rw[qm]at hWk;have F:=F8 mw q6 q5 g @hsB @mW dt df;refine sb [.tmp 2,.tmp 3] Tryz.func302 ?_;intro Q hQ;refine wk F ?_;refine kq F (hS _) ?_;refine kq F (hWk _) ?_;refine ee hQ F ?_;exact I8 (ch _ _ _) ⟨by rw[hw];rfl,rfl⟩
 have alt:(((w.length:Int)==6)=false∧w=W)∨(((w.length:Int)==6)=true∧decide (w.getD 0 []∈weekL)=true∧w[0]? =some (w.getD 0 [])∧∀H,aslice Tryz.prog H 62 (.sl 1 (w.map AVal.str)) (some (.int .i64 1)) none none=some (.sl 1 (W.map AVal.str))):=by
  rcases alt with a| ⟨q6,_,_,rfl⟩|a
  ·exact .inl a
  ·exfalso;rw[l5]at q6;revert q6;decide
  ·exact .inr a
 have q5:((W.length:Int) !=5)=false:=by rw[l5];rfl
 have g0:=aU (w:=W) (k:=0) (by omega);have g1:=aU (w:=W) (k:=1) (by omega);have g2:=aU (w:=W) (k:=2) (by omega);have g3:=aU (w:=W) (k:=3) (by omega);have g4:=aU (w:=W) (k:=4) (by omega);have b0:=hWl _ (G4 g0);have b2:=hWl _ (G4 g2);have b3:=hWl _ (G4 g3);have b4:=hWl _ (G4 g4);have hWi:=cC G ((W.getD 0 []).length:Int) 1 2;by_cases k0:1≤(W.getD 0 []).length∧(W.getD 0 []).length≤2
 rotate_left
 ·have e0:(decide ((1:Int)≤((W.getD 0 []).length:Int))&&decide (((W.getD 0 []).length:Int)≤2))=false:=by
   rw[U1];by_cases a:1≤(W.getD 0 []).length
   ·exact .inr (G7 (by omega))
   ·exact .inl (G7 (by omega))
  rw[e0]at hWi;have hw:=ph (w:=W) (fun n=>k0 n.2);rcases alt with⟨q6,rfl⟩| ⟨q6,qm,g,hsB⟩
  ·have F:=F6 mw q6 q5 g0 dt df;refine sb [.tmp 2,.tmp 3] Tryz.func302 ?_;intro Q hQ;refine wk F ?_;refine kq F (hS _) ?_;refine kq F (hWi _) ?_;refine ee hQ F ?_;exact I8 (ch _ _ _) ⟨by rw[hw];rfl,rfl⟩
  ·rw[qm]at hWk;have F:=F9 mw q6 q5 g g0 @hsB @mW dt df;refine sb [.tmp 2,.tmp 3] Tryz.func302 ?_;intro Q hQ;refine wk F ?_;refine kq F (hS _) ?_;refine kq F (hWk _) ?_;refine kq F (hWi _) ?_;refine ee hQ F ?_;exact I8 (ch _ _ _) ⟨by rw[hw];rfl,rfl⟩
 have e0:(decide ((1:Int)≤((W.getD 0 []).length:Int))&&decide (((W.getD 0 []).length:Int)≤2))=true:=by
  rw[G2,H2,H2];omega
 rw[e0]at hWi;have hw:=fun {d y t z:Int} {b1 b2 b3 b4:Bool}=> @ws W ⟨l5,k0⟩ d y t z b1 b2 b3 b4
 have hM:=qz G hG (W.getD 1 []);have hN:=qx G (W.getD 4 []);have hP1:=fun j=>gJ G 330 Rdr.all (w:=W.getD 0 []) (s:=[]) (b:=false) (h:=h) (j:=j) (fun e _ _ hg=>uM G e (by omega) hg)
 have hP2:=fun b j=>gJ G 332 Rdr.year (w:=W.getD 2 []) (s:=[]) (b:=b) (h:=h) (j:=j) (fun e _ _ hg=>sD G e (by omega) hg)
 have hP3:=fun b j=>gJ G 333 Rdr.clock (w:=W.getD 3 []) (s:=[]) (b:=b) (h:=h) (j:=j) (fun e _ _ hg=>qy G e (by omega) hg)
 have hP4:=fun b j=>gJ G 335 (fun r=>r.off false) (w:=W.getD 4 []) (s:=[]) (b:=b) (h:=h) (j:=j) (fun e _ _ hg=>uN G e (by omega) hg)
 have t0:=ve (W.getD 3 []);have z0:=xF (W.getD 4 []);have zn:= @wq (W.getD 4 []);rcases e1:Rdr.part (W.getD 0 []) Rdr.all with⟨d,v1⟩;rcases e2:Rdr.part (W.getD 2 []) Rdr.year with⟨y,v2⟩;rcases e3:Rdr.part (W.getD 3 []) Rdr.clock with⟨t,v3⟩;rcases e4:Rdr.part (W.getD 4 []) (fun r=>r.off false)with⟨z,v4⟩;rw[e1]at hP1;rw[e2]at hP2;rw[e3]at hP3 t0;rw[e4]at hP4 z0;simp only[O0]at hP1 hP2 hP3 hP4 t0 z0;have hg:∀(b:Bool) (j:Heap),getRow (h++dR [] b::j) h.length 0=some (309,2,[.agg [.str [],.bool b]]):=fun b j=>by rw[bL _ rfl];rfl
 have hT:=fun(b:Bool) (m z:Int) (hz: -400000≤z∧z≤400000) (j:Heap)=>lz G (s:=[]) (b:=b) ⟨y,m,d,t/3600,t/60%60,t%60⟩ z hz (hg b j)
 simp only[Dt.av_eq]at hT;have hw:=fun {z:Int} {b4:Bool}=> @hw d y t z v1 v2 v3 b4 e1 e2 e3
 have a1:t.tdiv 3600=t/3600:=R1 t0.1;have a2:t.tdiv 60=t/60:=R1 t0.1;have a3:(t/60).tmod 60=t/60%60:=P5 (by omega);have a4:t.tmod 60=t%60:=P5 t0.1;generalize ixS monL (W.getD 1 [])+1=ix at*;cases hn:namF (W.getD 4 [])with
 |some z'=>
  rw[hn]at hN hw;have hw:=hw (z:=z') (b4:=false) rfl;have zk:=zn hn;have hN:∀h,Sat (CT G) 334 [.str (W.getD 4 [])] h (fun r h'=>r=.tup [.int .i64 z',.bool true]∧h'=h):=hN;rw[Q1]at hw;rcases alt with⟨q6,rfl⟩| ⟨q6,qm,g,hsB⟩
  ·have F:=F2 (F9 mw q6 q5 g0 g1 g2 g3 g4 a1) (F6 a2 a3 a4 dt df @al)
   skip
   refine sb [.tmp 2,.tmp 3] Tryz.func302 ?_;intro Q hQ;refine wn F ?_;refine kn F (hS _) ?_;refine kn F (hWi _) ?_;refine bJ 16 [4,8,13,14,15] [true,true,true,true,false,true,true,true,false,true,true,true,true,false,false,false] (.two 4 [false,false,false,false,false,false,true,true,false,false,false,true,true] (.two 8 [false,false,false,false,false,false,false,false,false,false,false,true,true] (.two 13 [] (.two 14 [] (.one 15 [] .fin) 15 [] (.one 14 [] .fin)) 15 [false,false,false,false,false,false,false,false,false,false,false,true,true] (.one 13 [] (.one 14 [] .fin))) 15 [false,false,false,false,false,false,true,true,false,false,false,true,true] (.one 8 [false,false,false,false,false,false,false,false,false,false,false,true,true] (.one 13 [] (.one 14 [] .fin)))) 15 [false,false,true,true,false,false,true,true,false,false,false,true,true] (.one 4 [false,false,false,false,false,false,true,true,false,false,false,true,true] (.one 8 [false,false,false,false,false,false,false,false,false,false,false,true,true] (.one 13 [] (.one 14 [] .fin))))) (by decide+kernel) (by kernel_rfl) (by decide+kernel) ?_;simp only[bX,bY,bz];(try refine sq F ?_);repeat' ((first|refine az ?_|refine aA ?_|refine aB ?_ ?_)<;>try refine sq F ?_)
   (all_goals try refine wn F ?_);repeat' (first
    | (refine(hP1 _).mono ?_;rintro r h' ⟨rfl,rfl⟩;try refine sq F ?_)
    | (refine(hP2 _ _).mono ?_;rintro r h' ⟨rfl,rfl⟩;try refine sq F ?_)
    | (refine(hM _).mono ?_;rintro r h' ⟨rfl,rfl⟩;try refine sq F ?_)
    | (refine az ?_;try refine sq F ?_)| (refine aA ?_;try refine sq F ?_)| (refine aB ?_ ?_<;>try refine sq F ?_))
   (all_goals try refine wn F ?_);all_goals (
    refine kn F (hP3 _ _) ?_;refine kn F (hN _) ?_;refine kn F (hT _ _ _ zk _) ?_;refine ee hQ F ?_;exact H3 (ch _ _ _) ⟨by rw[hw],rfl⟩)
  ·rw[qm]at hWk;have F:=F2 (F9 mw q6 q5 g @hsB @mW g0 g1 g2) (F9 g3 g4 a1 a2 a3 a4 dt df @al)
   skip
   refine sb [.tmp 2,.tmp 3] Tryz.func302 ?_;intro Q hQ;refine wn F ?_;refine kn F (hS _) ?_;refine kn F (hWk _) ?_;refine kn F (hWi _) ?_;refine bJ 16 [4,8,13,14,15] [true,true,true,true,false,true,true,true,false,true,true,true,true,false,false,false] (.two 4 [false,false,false,false,false,false,true,true,false,false,false,true,true] (.two 8 [false,false,false,false,false,false,false,false,false,false,false,true,true] (.two 13 [] (.two 14 [] (.one 15 [] .fin) 15 [] (.one 14 [] .fin)) 15 [false,false,false,false,false,false,false,false,false,false,false,true,true] (.one 13 [] (.one 14 [] .fin))) 15 [false,false,false,false,false,false,true,true,false,false,false,true,true] (.one 8 [false,false,false,false,false,false,false,false,false,false,false,true,true] (.one 13 [] (.one 14 [] .fin)))) 15 [false,false,true,true,false,false,true,true,false,false,false,true,true] (.one 4 [false,false,false,false,false,false,true,true,false,false,false,true,true] (.one 8 [false,false,false,false,false,false,false,false,false,false,false,true,true] (.one 13 [] (.one 14 [] .fin))))) (by decide+kernel) (by kernel_rfl) (by decide+kernel) ?_;simp only[bX,bY,bz];(try refine sq F ?_);repeat' ((first|refine az ?_|refine aA ?_|refine aB ?_ ?_)<;>try refine sq F ?_)
   (all_goals try refine wn F ?_);repeat' (first
    | (refine(hP1 _).mono ?_;rintro r h' ⟨rfl,rfl⟩;try refine sq F ?_)
    | (refine(hP2 _ _).mono ?_;rintro r h' ⟨rfl,rfl⟩;try refine sq F ?_)
    | (refine(hM _).mono ?_;rintro r h' ⟨rfl,rfl⟩;try refine sq F ?_)
    | (refine az ?_;try refine sq F ?_)| (refine aA ?_;try refine sq F ?_)| (refine aB ?_ ?_<;>try refine sq F ?_))
   (all_goals try refine wn F ?_);all_goals (
    refine kn F (hP3 _ _) ?_;refine kn F (hN _) ?_;refine kn F (hT _ _ _ zk _) ?_;refine ee hQ F ?_;exact H3 (ch _ _ _) ⟨by rw[hw],rfl⟩)
 |none=>
  rw[hn]at hN hw;have hw:=hw (z:=z) (b4:=v4) e4;have hN:∀h,Sat (CT G) 334 [.str (W.getD 4 [])] h (fun r h'=>r=.tup [.int .i64 0,.bool false]∧h'=h):=hN;rcases alt with⟨q6,rfl⟩| ⟨q6,qm,g,hsB⟩
  ·have F:=F2 (F9 mw q6 q5 g0 g1 g2 g3 g4 a1) (F6 a2 a3 a4 dt df @al)
   skip
   refine sb [.tmp 2,.tmp 3] Tryz.func302 ?_;intro Q hQ;refine wn F ?_;refine kn F (hS _) ?_;refine kn F (hWi _) ?_;refine bJ 16 [4,8,13,14,15] [true,true,true,true,false,true,true,true,false,true,true,true,true,false,false,false] (.two 4 [false,false,false,false,false,false,true,true,false,false,false,true,true] (.two 8 [false,false,false,false,false,false,false,false,false,false,false,true,true] (.two 13 [] (.two 14 [] (.one 15 [] .fin) 15 [] (.one 14 [] .fin)) 15 [false,false,false,false,false,false,false,false,false,false,false,true,true] (.one 13 [] (.one 14 [] .fin))) 15 [false,false,false,false,false,false,true,true,false,false,false,true,true] (.one 8 [false,false,false,false,false,false,false,false,false,false,false,true,true] (.one 13 [] (.one 14 [] .fin)))) 15 [false,false,true,true,false,false,true,true,false,false,false,true,true] (.one 4 [false,false,false,false,false,false,true,true,false,false,false,true,true] (.one 8 [false,false,false,false,false,false,false,false,false,false,false,true,true] (.one 13 [] (.one 14 [] .fin))))) (by decide+kernel) (by kernel_rfl) (by decide+kernel) ?_;simp only[bX,bY,bz];(try refine sq F ?_);repeat' ((first|refine az ?_|refine aA ?_|refine aB ?_ ?_)<;>try refine sq F ?_)
   (all_goals try refine wn F ?_);repeat' (first
    | (refine(hP1 _).mono ?_;rintro r h' ⟨rfl,rfl⟩;try refine sq F ?_)
    | (refine(hP2 _ _).mono ?_;rintro r h' ⟨rfl,rfl⟩;try refine sq F ?_)
    | (refine(hM _).mono ?_;rintro r h' ⟨rfl,rfl⟩;try refine sq F ?_)
    | (refine az ?_;try refine sq F ?_)| (refine aA ?_;try refine sq F ?_)| (refine aB ?_ ?_<;>try refine sq F ?_))
   (all_goals try refine wn F ?_);all_goals (
    refine kn F (hP3 _ _) ?_;refine kn F (hN _) ?_;refine kn F (hP4 _ _) ?_;refine kn F (hT _ _ _ z0 _) ?_;refine ee hQ F ?_;exact H3 (ch _ _ _) ⟨by rw[hw],rfl⟩)
  ·rw[qm]at hWk;have F:=F2 (F9 mw q6 q5 g @hsB @mW g0 g1 g2) (F9 g3 g4 a1 a2 a3 a4 dt df @al)
   skip
   refine sb [.tmp 2,.tmp 3] Tryz.func302 ?_;intro Q hQ;refine wn F ?_;refine kn F (hS _) ?_;refine kn F (hWk _) ?_;refine kn F (hWi _) ?_;refine bJ 16 [4,8,13,14,15] [true,true,true,true,false,true,true,true,false,true,true,true,true,false,false,false] (.two 4 [false,false,false,false,false,false,true,true,false,false,false,true,true] (.two 8 [false,false,false,false,false,false,false,false,false,false,false,true,true] (.two 13 [] (.two 14 [] (.one 15 [] .fin) 15 [] (.one 14 [] .fin)) 15 [false,false,false,false,false,false,false,false,false,false,false,true,true] (.one 13 [] (.one 14 [] .fin))) 15 [false,false,false,false,false,false,true,true,false,false,false,true,true] (.one 8 [false,false,false,false,false,false,false,false,false,false,false,true,true] (.one 13 [] (.one 14 [] .fin)))) 15 [false,false,true,true,false,false,true,true,false,false,false,true,true] (.one 4 [false,false,false,false,false,false,true,true,false,false,false,true,true] (.one 8 [false,false,false,false,false,false,false,false,false,false,false,true,true] (.one 13 [] (.one 14 [] .fin))))) (by decide+kernel) (by kernel_rfl) (by decide+kernel) ?_;simp only[bX,bY,bz];(try refine sq F ?_);repeat' ((first|refine az ?_|refine aA ?_|refine aB ?_ ?_)<;>try refine sq F ?_)
   (all_goals try refine wn F ?_);repeat' (first
    | (refine(hP1 _).mono ?_;rintro r h' ⟨rfl,rfl⟩;try refine sq F ?_)
    | (refine(hP2 _ _).mono ?_;rintro r h' ⟨rfl,rfl⟩;try refine sq F ?_)
    | (refine(hM _).mono ?_;rintro r h' ⟨rfl,rfl⟩;try refine sq F ?_)
    | (refine az ?_;try refine sq F ?_)| (refine aA ?_;try refine sq F ?_)| (refine aB ?_ ?_<;>try refine sq F ?_))
   (all_goals try refine wn F ?_);all_goals (
    refine kn F (hP3 _ _) ?_;refine kn F (hN _) ?_;refine kn F (hP4 _ _) ?_;refine kn F (hT _ _ _ z0 _) ?_;refine ee hQ F ?_;exact H3 (ch _ _ _) ⟨by rw[hw],rfl⟩)
theorem lL(f:Elem→Option En)(l:List Elem):(entsF f l).length≤256:=by unfold entsF;rw[I2];omega
theorem nv{e:Elem}{d:Fd}(h:rssF e=some d):d.es.length≤256:=by
 unfold rssF at h;split at h
 ·cases h;exact lL _ _
 ·cases h
theorem lM{e:Elem}{d:Fd}(h:atomF e=some d):d.es.length≤256:=by
 unfold atomF at h;split at h
 ·cases h;exact lL _ _
 ·cases h
def ReadC(F:FuncId)(e:Elem)(f:Elem→Option Fd):Prop:=∀h,Sat (CT G) F [e.av] h (fun r h'=>r=oFd (f e)∧h'=h)
theorem nw(N:Nat)(x:Fd)(n:Int):Clo N (.tup [x.av,.int .i64 n]):=.tup _ (fun c hc=>by simp only[J6,O7,or_false]at hc;rcases hc with rfl|rfl<;>first|exact x.clo _|exact .int _ _)
theorem wt(Z:Heap)(n:Nat):Frz Z n (.tup [.agg [.str [],.str [],.nil (.slice none 0 0)],.int .i64 120]) (.tup [Fd.z.av,.int .i64 120]):=
 U0 (.cons (FrzL.agg (.cons (.clo _ (.str _)) (.cons (.clo _ (.str _)) (.cons (.nils 5) .nil))) rfl) (.cons (.clo _ (.int _ _)) .nil))
theorem tg(e:Elem)(hR:ReadC G 67 e rssF)(hB:ReadC G 68 e atomF)(h:Heap):Sat (CT G) 33 [e.av] h (fun r h'=>r=.tup [((ofE e).getD Fd.z).av,.int .i64 (if (ofE e).isSome then 0 else 120)]∧h'=h):=by
 have hE:ofE e=(match rssF e with
  |some d=>some d
  |none=>atomF e).map fun d:Fd=>⟨d.title,d.link,onceF d.es⟩:=rfl
 unfold ReadC at hR hB;have l1:= @nv e;have l2:= @lM e;rw[hE];clear hE;generalize rssF e=o1 at*;generalize atomF e=o2 at*;obtain⟨e1,e2,e3,e4⟩:=e;cases o1 with
 |some d=>
  obtain⟨t,l,es⟩:=d;have hO:=dV G es (by have:=l1 rfl;simp only[]at this;omega);have hR:∀h,Sat (CT G) 67 [(Elem.mk e1 e2 e3 e4).av] h (fun r h'=>r=.tup [.agg [.str t,.str l,.sl 5 (es.map En.av)],.bool true]∧h'=h):=hR;have F:= @al;refine sb [.cell 2 25,.tmp 3] Tryz.func33 ?_;intro Q hQ;refine wk F ?_;refine kq F (hR _) ?_;refine kq F (hO _) ?_;refine ye hQ F ?_;exact H3 (nw _ (⟨t,l,onceF es⟩:Fd) _) ⟨rfl,rfl⟩
 |none=>
  have hR:∀h,Sat (CT G) 67 [(Elem.mk e1 e2 e3 e4).av] h (fun r h'=>r=.tup [.agg [.str [],.str [],.sl 5 []],.bool false]∧h'=h):=hR;cases o2 with
  |some d=>
   obtain⟨t,l,es⟩:=d;have hO:=dV G es (by have:=l2 rfl;simp only[]at this;omega);have hB:∀h,Sat (CT G) 68 [(Elem.mk e1 e2 e3 e4).av] h (fun r h'=>r=.tup [.agg [.str t,.str l,.sl 5 (es.map En.av)],.bool true]∧h'=h):=hB;have F:= @al;refine sb [.cell 2 25,.tmp 3] Tryz.func33 ?_;intro Q hQ;refine wk F ?_;refine kq F (hR _) ?_;refine kq F (hB _) ?_;refine kq F (hO _) ?_;refine ye hQ F ?_;exact H3 (nw _ (⟨t,l,onceF es⟩:Fd) _) ⟨rfl,rfl⟩
  |none=>
   have hB:∀h,Sat (CT G) 68 [(Elem.mk e1 e2 e3 e4).av] h (fun r h'=>r=.tup [.agg [.str [],.str [],.sl 5 []],.bool false]∧h'=h):=hB;have F:= @al;refine sb [.cell 2 25,.tmp 3] Tryz.func33 ?_;intro Q hQ;refine wk F ?_;refine kq F (hR _) ?_;refine kq F (hB _) ?_;refine ye hQ F ?_;exact P3 (wt _ _) ⟨rfl,rfl⟩
theorem th(e:Elem)(hR:ReadC G 73 e rssF)(hB:ReadC G 74 e atomF)(h:Heap):Sat (CT G) 38 [e.av] h (fun r h'=>r=oFd (ofE e)∧h'=h):=by
 have hE:ofE e=(match rssF e with
  |some d=>some d
  |none=>atomF e).map fun d:Fd=>⟨d.title,d.link,onceF d.es⟩:=rfl
 unfold ReadC at hR hB;have l1:= @nv e;have l2:= @lM e;rw[hE];clear hE;generalize rssF e=o1 at*;generalize atomF e=o2 at*;obtain⟨e1,e2,e3,e4⟩:=e;cases o1 with
 |some d=>
  obtain⟨t,l,es⟩:=d;have hO:=im G es (by have:=l1 rfl;simp only[]at this;omega);have hR:∀h,Sat (CT G) 73 [(Elem.mk e1 e2 e3 e4).av] h (fun r h'=>r=.tup [.agg [.str t,.str l,.sl 5 (es.map En.av)],.bool true]∧h'=h):=hR;have F:= @al;refine sb [.cell 2 25,.tmp 3] Tryz.func38 ?_;intro Q hQ;refine wk F ?_;refine kq F (hR _) ?_;refine kq F (hO _) ?_;refine ye hQ F ?_;exact H3 (iI _ (⟨t,l,onceF es⟩:Fd) _) ⟨rfl,rfl⟩
 |none=>
  have hR:∀h,Sat (CT G) 73 [(Elem.mk e1 e2 e3 e4).av] h (fun r h'=>r=.tup [.agg [.str [],.str [],.sl 5 []],.bool false]∧h'=h):=hR;cases o2 with
  |some d=>
   obtain⟨t,l,es⟩:=d;have hO:=im G es (by have:=l2 rfl;simp only[]at this;omega);have hB:∀h,Sat (CT G) 74 [(Elem.mk e1 e2 e3 e4).av] h (fun r h'=>r=.tup [.agg [.str t,.str l,.sl 5 (es.map En.av)],.bool true]∧h'=h):=hB;have F:= @al;refine sb [.cell 2 25,.tmp 3] Tryz.func38 ?_;intro Q hQ;refine wk F ?_;refine kq F (hR _) ?_;refine kq F (hB _) ?_;refine kq F (hO _) ?_;refine ye hQ F ?_;exact H3 (iI _ (⟨t,l,onceF es⟩:Fd) _) ⟨rfl,rfl⟩
  |none=>
   have hB:∀h,Sat (CT G) 74 [(Elem.mk e1 e2 e3 e4).av] h (fun r h'=>r=.tup [.agg [.str [],.str [],.sl 5 []],.bool false]∧h'=h):=hB;have hO:∀h,Sat (CT G) 49 [.sl 5 []] h (fun r h'=>r=.sl 5 []∧h'=h):=im G [] (by simp);have F:= @al;refine sb [.cell 2 25,.tmp 3] Tryz.func38 ?_;intro Q hQ;refine wk F ?_;refine kq F (hR _) ?_;refine kq F (hB _) ?_;refine kq F (hO _) ?_;refine ye hQ F ?_;exact H3 (iI _ Fd.z _) ⟨rfl,rfl⟩
theorem qR(a b:Fd)(ha:a.es.length≤1048576)(hb:b.es.length≤1048576)(h:Heap):Sat (CT G) 11 [a.av,b.av] h (fun r h'=>r=.bool (decide (a.title=b.title∧a.link=b.link∧a.es=b.es))∧h'=h):=by
 obtain⟨t1,l1,e1⟩:=a;obtain⟨t2,l2,e2⟩:=b;have hS:=jW G e1 e2 ha hb;simp only[];have f1:(Fd.mk t1 l1 e1).av=.agg [.str t1,.str l1,.sl 5 (e1.map En.av)]:=rfl;have f2:(Fd.mk t2 l2 e2).av=.agg [.str t2,.str l2,.sl 5 (e2.map En.av)]:=rfl;rw[f1,f2];by_cases c1:t1=t2
 rotate_left
 ·have q:(t1==t2)=false:=by simpa using c1
  have n:decide (t1=t2∧l1=l2∧e1=e2)=false:=G7 fun k=>c1 k.1
  rw[n];have F:=F2 q @al;refine sb [.tmp 4] Tryz.func11 ?_;intro Q hQ;refine wk F ?_;refine ee hQ F ?_;exact H3 (.bool _) ⟨rfl,rfl⟩
 have q1:(t1==t2)=true:=by simpa using c1
 by_cases c2:l1=l2
 rotate_left
 ·have q:(l1==l2)=false:=by simpa using c2
  have n:decide (t1=t2∧l1=l2∧e1=e2)=false:=G7 fun k=>c2 k.2.1
  rw[n];have F:=F3 q1 q @al;refine sb [.tmp 4] Tryz.func11 ?_;intro Q hQ;refine wk F ?_;refine ee hQ F ?_;exact H3 (.bool _) ⟨rfl,rfl⟩
 have q2:(l1==l2)=true:=by simpa using c2
 have n:decide (t1=t2∧l1=l2∧e1=e2)=decide (e1=e2):=by simp[c1,c2]
 rw[n];have F:=F3 q1 q2 @al;refine sb [.tmp 4] Tryz.func11 ?_;intro Q hQ;refine wk F ?_;refine kq F (hS _) ?_;refine ee hQ F ?_;exact H3 (.bool _) ⟨rfl,rfl⟩
theorem tj(hA:DateR G 240 anyF)(e:Elem)(hs:e.sz≤1048576)(hu:∀n,(kidF (kidF e bChan).1 n).1.text.length≤100000)(hti:∀x∈kidsF (kidF e bChan).1 bItem,∀n,(kidF x n).1.text.length≤100000)(h:Heap):Sat (CT G) 73 [e.av] h (fun r h'=>r=oFd (rssF e)∧h'=h):=by
 have hKd:=iE G e bChan hs;have hSh:=hU G e.name (by have:=V5 e;omega);have hc:(kidF e bChan).1.sz≤1048576:=by
  unfold kidF;split
  ·show 1≤_;omega
  ·rename_i k l hk;exact cD hs (by rw[hk];simp)
 have hR:rssF e=if (kidF e bChan).2&&decide (short e.name=bRss)then some ⟨fieldF (kidF e bChan).1 bTitle 256,fieldF (kidF e bChan).1 bLink 512,entsF entR (kidsF (kidF e bChan).1 bItem)⟩else none:=rfl
 rw[hR];clear hR;generalize short e.name=sn at*;generalize kidF e bChan=kk at*;obtain⟨c,is⟩:=kk;simp only[]at hc hu hti;have fT:=bR G c bTitle 256 hc (hu _) (by omega);have fL:=bR G c bLink 512 hc (hu _) (by omega);have hKs:=gu G c bItem hc;have hsz:∀k∈kidsF c bItem,k.sz≤1048576:=fun k hk=>cD hc hk
 have hln:=dg c bItem hc;generalize fieldF c bTitle 256=t at*;generalize fieldF c bLink 512=l at*;generalize kidsF c bItem=ks at*;have mk:(ks.map Elem.av).length=ks.length:=I9 ..;obtain⟨e1,e2,e3,e4⟩:=e;cases is with
 |false=>
  have d:(false&&decide (sn=bRss))=false:=rfl;simp only[d];cases hq:(sn==bRss)with
  |true=>
   have q:(sn==bRss)=true:=hq;unfold bRss at q;have F:=F2 q @al;refine sb [.cell 2 25,.tmp 3] Tryz.func73 ?_;intro Q hQ;refine wk F ?_;refine kq F (hKd _) ?_;refine kq F (hSh _) ?_;refine ye hQ F ?_;exact P3 (dF _ _) ⟨rfl,rfl⟩
  |false=>
   have q:(sn==bRss)=false:=hq;unfold bRss at q;have F:=F2 q @al;refine sb [.cell 2 25,.tmp 3] Tryz.func73 ?_;intro Q hQ;refine wk F ?_;refine kq F (hKd _) ?_;refine kq F (hSh _) ?_;refine ye hQ F ?_;exact P3 (dF _ _) ⟨rfl,rfl⟩
 |true=>
  by_cases hn:sn=bRss
  rotate_left
  ·have q:(sn==bRss)=false:=(by simpa using hn);unfold bRss at q;have d:(true&&decide (sn=bRss))=false:=(by simp[hn]);simp only[d];have F:=F2 q @al;refine sb [.cell 2 25,.tmp 3] Tryz.func73 ?_;intro Q hQ;refine wk F ?_;refine kq F (hKd _) ?_;refine kq F (hSh _) ?_;refine ye hQ F ?_;exact P3 (dF _ _) ⟨rfl,rfl⟩
  have q:(sn==bRss)=true:=by simpa using hn
  unfold bRss at q;have d:(true&&decide (sn=bRss))=true:=by simp[hn]
  simp only[d];clear d;have hz:ofVal (.agg #[.string ⟨#[]⟩,.string ⟨#[]⟩,.slice none 0 0])=.agg [.str [],.str [],.nil (.slice none 0 0)]:=rfl;have F:=F4 q hz mk @al
  skip
  refine sb [.cell 2 25,.tmp 3] Tryz.func73 ?_;intro Q hQ;refine wn F ?_;refine kn F (hKd _) ?_;refine kn F (hSh _) ?_;refine aG 5 5 _ (by rfl) (by decide+kernel) (by kernel_rfl) (by decide+kernel) (by decide+kernel) (by decide+kernel) ?_;simp only[H8,J1];refine sq F ?_;refine wn F ?_;refine aa (fT _) ?_;try refine sq F ?_
  refine wn F ?_;refine aa (fL _) ?_;try refine sq F ?_
  refine wn F ?_;refine⟨?_,?_⟩
  ·refine aa (fT _) ?_;(try refine sq F ?_);refine wn F ?_;refine aa (fL _) ?_;(try refine sq F ?_);refine wn F ?_;all_goals first|exact zq F|trivial| (refine sq F ?_;trivial)
  skip
  try refine sq F ?_
  refine wk F ?_;refine kq F (hKs _) ?_;refine lm (fun nL tL hL=>∃(k v:Nat) (es:List En) (j:Heap),ks.length-k=nL∧h++ .row 76 4 0 [Elem.av ⟨e1,e2,e3,e4⟩]:: .row 25 3 0 [.agg [.str [],.str [],.nil (.slice none 0 0)]]:: .row 76 4 0 [c.av]:: .row 25 3 0 [.agg [.str t,.str l,.hs (h.length+4) v 0 es.length true]]:: .row 61 5 v (es.map En.av)::j=hL∧tL 8=.int .i64 k∧k≤ks.length∧es=entsF entR (ks.take k)) ((fun(k v:Nat) (es:List En) (j:Heap)=>(ks.length-k:Nat)) (0) (0) ([]) ([])) ?_ ?_
  ·refine⟨_,_,S7 (p:=h.length+3) (v:=0) 61 5 (by omega) (by simp(disch:=first|omega| (simp only[go_sem, ↓reduceIte,seval];first|done|omega)|fail) only[go_sem, ↓reduceIte,seval,F];rfl) 2 rfl,⟨0,0,[],[],rfl,(by simp),?_,by omega,rfl⟩⟩;all_goals try exact zZz F
  rintro _ s2 h' ⟨k,v,es,j,rfl,rfl,e8,hk,ho⟩ K2 hK2;simp only[ai,ak,Nat.reduceEqDiff, ↓reduceIte]at e8;have F:=F2 F e8;have hel:es.length≤256:=by rw[ho];unfold entsF;rw[I2];omega
  have me:(es.map En.av).length=es.length:=I9 ..;by_cases c1:k<ks.length
  ·obtain⟨x,hx,hxm⟩:=ae c1;have d1:=G8 c1;have hE:=qS G x (hsz x hxm) (hti x hxm) (oy G hA x [bPub,bDate] (hsz x hxm) (by decide) (hti x hxm));have hst:=gK entR hx;rw[← ho]at hst;cases hv:entR x with
   |none=>
    rw[hv]at hE hst;have hE:∀h,Sat (CT G) 122 [x.av] h (fun r h'=>r=.tup [En.z.av,.bool false]∧h'=h):=hE;have F:=F4 F hx d1 me;(try refine sq F ?_);refine wk F ?_;have hst:entsF entR (ks.take (k+1))=es:=hst;refine kq F (hE _) ?_;refine hK2 _ _ _ (G9 ⟨k+1,v,es,j++[.row 61 5 0 [En.z.av]],rfl,by simp[En.av,En.z],?_,by omega,hst.symm⟩) (by omega);all_goals try exact zZz F
   |some y=>
    rw[hv]at hE hst;have hE:∀h,Sat (CT G) 122 [x.av] h (fun r h'=>r=.tup [y.av,.bool true]∧h'=h):=hE;have hst:entsF entR (ks.take (k+1))=if es.length<256 then es++[y]else es:=hst
    by_cases c2:es.length<256
    ·have d2:decide ((es.length:Int)<256)=true:=G8 (by omega);rw[G3 c2]at hst;have F:=F5 F hx d1 d2 me;(try refine sq F ?_);refine wk F ?_;refine kq F (hE _) ?_;refine aq F ?_;(try refine sq F ?_);refine wk F ?_;refine hK2 _ _ _ (G9 ⟨k+1,v+1,es++[y],j++[.row 61 5 0 [y.av]],rfl,by simp[En.av],?_,by omega,hst.symm⟩) (by omega);all_goals try exact zZz F
    ·have d2:decide ((es.length:Int)<256)=false:=G7 (by omega);rw[G0 c2]at hst;have F:=F5 F hx d1 d2 me;(try refine sq F ?_);refine wk F ?_;refine kq F (hE _) ?_;refine hK2 _ _ _ (G9 ⟨k+1,v,es,j++[.row 61 5 0 [y.av]],rfl,by simp[En.av],?_,by omega,hst.symm⟩) (by omega);all_goals try exact zZz F
  ·have d1:=G7 c1;rw[H9 (by omega)]at ho;have F:=F3 F d1 me;(try refine sq F ?_);refine wk F ?_;refine ye hQ F ?_;rw[← ho];exact P3 (nu t l es true (by omega) (by rw[eZ _ rfl];show(if v=v then _ else _)=_;rw[G3 rfl])) ⟨rfl,rfl⟩
theorem ny(hA:DateR G 241 webR)(e:Elem)(hs:e.sz≤1048576)(ht:∀n,(kidF e n).1.text.length≤100000)(h:Heap):Sat (CT G) 190 [e.av] h (fun r h'=>r=.tup [.int .i64 ((momL webR e updL).getD 0),.bool (momL webR e updL).isSome]∧h'=h):=by
 obtain⟨l,hl⟩:∃l,l=updL:=⟨_,rfl⟩;have hll:l.length=3:=by rw[hl];rfl
 have hg:∀(k:Nat) (x:Bs),l[k]? =some x→([.str [117,112,100,97,116,101,100],.str [112,117,98,108,105,115,104,101,100],.str [105,115,115,117,101,100]]:List AVal)[k]? =some (.str x):=fun k x hx=>by
  have:(l.map AVal.str)[k]? =some (.str x):=by rw[L4,hx];rfl
  rw[hl]at this;exact this
 rw[← hl];have F:= @al;refine sb [.tmp 2,.tmp 3] Tryz.func190 ?_;intro Q hQ;refine wk F ?_;refine lm (fun nL tL hL=>∃(k:Nat) (j:Heap),l.length-k=nL∧h++ .row 76 4 0 [e.av]::j=hL∧tL 5=.int .i64 k∧k≤l.length∧momL webR e (l.drop k)=momL webR e l) ((fun(k:Nat) (j:Heap)=>(l.length-k:Nat)) (0) ([])) ?_ ?_
 ·refine G9 ⟨0,[],rfl,ar,?_,by omega,rfl⟩;all_goals try exact zZz F
 rintro _ s2 h' ⟨k,j,rfl,rfl,e5,hk,hp⟩ K2 hK2;simp only[ai,ak,Nat.reduceEqDiff, ↓reduceIte]at e5;have F:=F2 F e5;by_cases c1:k<l.length
 ·obtain⟨x,hx,_⟩:=ae c1;have d1:decide ((k:Int)<3)=true:=G8 (by omega);have hgx:=hg k x hx;have hKd:=iE G e x hs;have htx:=ht x;rw[fu webR e hx]at hp;have hm:momE webR e x=if (kidF e x).2 then webR (cleanF (kidF e x).1.text)else none:=rfl
  rw[hm]at hp;generalize kidF e x=kk at*;obtain⟨⟨k1,k2,k3,k4⟩,is⟩:=kk;have htx:k3.length≤100000:=htx;have hC:=eK G k3 htx;have hcl:=cI k3;have hD:=hA (cleanF k3) (by omega);have hp:(match (if is then webR (cleanF k3)else none)with|some v=>some v|none=>momL webR e (l.drop (k+1)))=momL webR e l:=hp;generalize webR (cleanF k3)=o at hp hD;have alt:(∃v,is=true∧o=some v)∨(is=false∧True)∨(is=true∧o=none):=by
   cases is<;>cases o<;>simp
  rcases alt with⟨v,rfl,rfl⟩| ⟨rfl,_⟩| ⟨rfl,rfl⟩
  ·have hp:some v=momL webR e l:=hp;have hD:∀h,Sat (CT G) 241 [.str (cleanF k3)] h (fun r h'=>r=.tup [.int .i64 v,.bool true]∧h'=h):=hD;have F:=F3 F hgx d1
   skip
   (try refine sq F ?_);refine wn F ?_;refine bJ 11 [9,10] [true,true,true,true,true,true,true,true,true,false,false] (.one 9 [true,false,false,true,true,true] (.one 10 [] .fin)) (by decide+kernel) (by kernel_rfl) (by decide+kernel) ?_;simp only[bX,bY,bz];(try refine sq F ?_);repeat' ((first|refine az ?_|refine aA ?_|refine aB ?_ ?_)<;>try refine sq F ?_)
   (all_goals try refine wn F ?_);refine aa (hKd _) ?_;(try refine sq F ?_);refine wn F ?_;repeat' ((first|refine az ?_|refine aA ?_|refine aB ?_ ?_)<;>try refine sq F ?_)
   (all_goals try refine wn F ?_);refine⟨aa (hKd _) ?_,?_⟩
   ·first|exact zq F|trivial| (refine sq F ?_;trivial)
   repeat' ((first|refine az ?_|refine aA ?_|refine aB ?_ ?_)<;>try refine sq F ?_)
   all_goals try refine wn F ?_
   skip
   refine kq F (hC _) ?_;refine kq F (hD _) ?_;refine ee hQ F ?_;exact H3 (bQ _ _ _) ⟨by rw[← hp];rfl,rfl⟩
  ·have hp:momL webR e (l.drop (k+1))=momL webR e l:=hp;have F:=F3 F hgx d1
   skip
   (try refine sq F ?_);refine wn F ?_;refine bJ 11 [9,10] [true,true,true,true,true,true,true,true,true,false,false] (.one 9 [true,false,false,true,true,true] (.one 10 [] .fin)) (by decide+kernel) (by kernel_rfl) (by decide+kernel) ?_;simp only[bX,bY,bz];(try refine sq F ?_);repeat' ((first|refine az ?_|refine aA ?_|refine aB ?_ ?_)<;>try refine sq F ?_)
   (all_goals try refine wn F ?_);refine aa (hKd _) ?_;(try refine sq F ?_);refine wn F ?_;repeat' ((first|refine az ?_|refine aA ?_|refine aB ?_ ?_)<;>try refine sq F ?_)
   (all_goals try refine wn F ?_);refine⟨aa (hKd _) ?_,?_⟩
   ·first|exact zq F|trivial| (refine sq F ?_;trivial)
   repeat' ((first|refine az ?_|refine aA ?_|refine aB ?_ ?_)<;>try refine sq F ?_)
   all_goals try refine wn F ?_
   skip
   refine kq F (hC _) ?_;refine kq F (hD _) ?_;refine hK2 _ _ _ (G9 ⟨k+1,j++[.row 76 4 0 [Elem.av ⟨k1,k2,k3,k4⟩]],rfl,by simp,?_,by omega,hp⟩) (by omega);all_goals try exact zZz F
  ·have hp:momL webR e (l.drop (k+1))=momL webR e l:=hp;have hD:∀h,Sat (CT G) 241 [.str (cleanF k3)] h (fun r h'=>r=.tup [.int .i64 0,.bool false]∧h'=h):=hD;have F:=F3 F hgx d1
   skip
   (try refine sq F ?_);refine wn F ?_;refine bJ 11 [9,10] [true,true,true,true,true,true,true,true,true,false,false] (.one 9 [true,false,false,true,true,true] (.one 10 [] .fin)) (by decide+kernel) (by kernel_rfl) (by decide+kernel) ?_;simp only[bX,bY,bz];(try refine sq F ?_);repeat' ((first|refine az ?_|refine aA ?_|refine aB ?_ ?_)<;>try refine sq F ?_)
   (all_goals try refine wn F ?_);refine aa (hKd _) ?_;(try refine sq F ?_);refine wn F ?_;repeat' ((first|refine az ?_|refine aA ?_|refine aB ?_ ?_)<;>try refine sq F ?_)
   (all_goals try refine wn F ?_);refine⟨aa (hKd _) ?_,?_⟩
   ·first|exact zq F|trivial| (refine sq F ?_;trivial)
   repeat' ((first|refine az ?_|refine aA ?_|refine aB ?_ ?_)<;>try refine sq F ?_)
   all_goals try refine wn F ?_
   skip
   refine kq F (hC _) ?_;refine kq F (hD _) ?_;refine hK2 _ _ _ (G9 ⟨k+1,j++[.row 76 4 0 [Elem.av ⟨k1,k2,k3,k4⟩]],rfl,by simp,?_,by omega,hp⟩) (by omega);all_goals try exact zZz F
 ·have d1:decide ((k:Int)<3)=false:=G7 (by omega);have hp:momL webR e l=none:=by
   rw[← hp,M0 (by omega)];rfl
  have F:=F2 F d1;try refine sq F ?_
  refine wk F ?_;refine ee hQ F ?_;exact H3 (bQ _ _ _) ⟨by rw[hp];rfl,rfl⟩
theorem lN(e:Elem)(hs:e.sz≤1048576)(ht:∀k∈kidsF e bLink,(attrF k.attrs bHref).1.length≤100000)(h:Heap):Sat (CT G) 123 [e.av] h (fun r h'=>r=.str (linkA e)∧h'=h):=by
 have hKs:=gu G e bLink hs;have hsz:∀k∈kidsF e bLink,k.sz≤1048576:=fun k hk=>cD hs hk
 have hln:=dg e bLink hs;have hE:linkA e=match (kidsF e bLink).find? linkP with
  |some k=>shortF (attrF k.attrs bHref).1 512
  |none=>[]:=rfl
 rw[hE];clear hE;generalize kidsF e bLink=ks at*;have mk:(ks.map Elem.av).length=ks.length:=I9 ..;have F:=F2 mk @al;refine sb [.tmp 2] Tryz.func123 ?_;intro Q hQ;refine wk F ?_;refine kq F (hKs _) ?_;refine lm (fun nL tL hL=>∃(k:Nat),ks.length-k=nL∧h++[.row 76 4 0 [e.av]]=hL∧tL 4=.int .i64 k∧k≤ks.length∧(ks.drop k).find? linkP=ks.find? linkP) ((fun(k:Nat)=>(ks.length-k:Nat)) (0)) ?_ ?_
 ·refine G9 ⟨0,rfl,ar,?_,by omega,rfl⟩;all_goals try exact zZz F
 rintro _ s2 h' ⟨k,rfl,rfl,e4,hk,hp⟩ K2 hK2;simp only[ai,ak,Nat.reduceEqDiff, ↓reduceIte]at e4;have F:=F2 F e4;by_cases c1:k<ks.length
 ·obtain⟨x,hx,hxm⟩:=ae c1;have d1:=G8 c1;have hR:=mM G x bRel (hsz x hxm);have hH:=mM G x bHref (hsz x hxm);have htx:=ht x hxm;have hSh:=ij G (attrF x.attrs bHref).1 512 htx (by omega);rw[aF hx,List.find?_cons]at hp;have hl:linkP x=((attrF x.attrs bHref).2&&(!(attrF x.attrs bRel).2||decide ((attrF x.attrs bRel).1=bAlt))):=rfl;have hyes:linkP x=true→(match ks.find? linkP with|some k=>shortF (attrF k.attrs bHref).1 512|none=>[])=shortF (attrF x.attrs bHref).1 512:=fun hy=>by
   rw[hy]at hp;rw[← hp]
  have hno:linkP x=false→(ks.drop (k+1)).find? linkP=ks.find? linkP:=fun hy=>by
   rw[hy]at hp;exact hp
  rw[hl]at hyes hno;clear hp hl;generalize attrF x.attrs bRel=ra at*;generalize attrF x.attrs bHref=ha at*;obtain⟨r1,r2⟩:=ra;obtain⟨a1,a2⟩:=ha;have bA:bAlt=[97,108,116,101,114,110,97,116,101]:=rfl;cases a2 with
  |false=>
   have hno:=hno rfl;have F:=F3 F hx d1;(try refine sq F ?_);refine wk F ?_;refine kq F (hR _) ?_;refine kq F (hH _) ?_;refine hK2 _ _ _ (G9 ⟨k+1,rfl,ar,?_,by omega,hno⟩) (by omega);all_goals try exact zZz F
  |true=>
   cases r2 with
   |false=>
    have hyes:=hyes rfl;have F:=F3 F hx d1;(try refine sq F ?_);refine wk F ?_;refine kq F (hR _) ?_;refine kq F (hH _) ?_;refine kq F (hSh _) ?_;refine ee hQ F ?_;exact H3 (.str _) ⟨by rw[hyes],rfl⟩
   |true=>
    by_cases hr:r1=bAlt
    ·have q:(r1==bAlt)=true:=(by simpa using hr);have hyes:=hyes (by simp[hr]);rw[bA]at q;have F:=F4 F hx d1 q;(try refine sq F ?_);refine wk F ?_;refine kq F (hR _) ?_;refine kq F (hH _) ?_;refine kq F (hSh _) ?_;refine ee hQ F ?_;exact H3 (.str _) ⟨by rw[hyes],rfl⟩
    ·have q:(r1==bAlt)=false:=(by simpa using hr);have hno:=hno (by simp[hr]);rw[bA]at q;have F:=F4 F hx d1 q;(try refine sq F ?_);refine wk F ?_;refine kq F (hR _) ?_;refine kq F (hH _) ?_;refine hK2 _ _ _ (G9 ⟨k+1,rfl,ar,?_,by omega,hno⟩) (by omega);all_goals try exact zZz F
 ·have d1:=G7 c1;have hp:ks.find? linkP=none:=by
   rw[← hp,M0 (by omega)];rfl
  have F:=F2 F d1;try refine sq F ?_
  refine wk F ?_;refine ee hQ F ?_;exact H3 (.str _) ⟨by rw[hp],rfl⟩
theorem oz(e:Elem)(hs:e.sz≤1048576)(ht:∀n,(kidF e n).1.text.length≤100000)(hk:∀k∈kidsF e bLink,(attrF k.attrs bHref).1.length≤100000)(hA:DateR G 241 webR)(h:Heap):Sat (CT G) 124 [e.av] h (fun r h'=>r=oEn (entA e)∧h'=h):=by
 have fT:=bR G e bTitle 256 hs (ht _) (by omega);have fL:=lN G e hs hk;have fG:=bR G e bId 512 hs (ht _) (by omega);have hM:=ny G hA e hs ht;have hE:entA e=mkE (orF (fieldF e bId 512) (linkA e) (fieldF e bTitle 256)) (fieldF e bTitle 256) (linkA e) (momL webR e updL):=rfl;rw[hE];generalize fieldF e bTitle 256=t at*;generalize linkA e=l at*;generalize fieldF e bId 512=g at*;generalize momL webR e updL=m at*;clear hE;have hz:ofVal (.agg #[.string ⟨#[]⟩,.string ⟨#[]⟩,.string ⟨#[]⟩,.int .i64 0,.bool false])=.agg [.str [],.str [],.str [],.int .i64 0,.bool false]:=rfl;have alt:(((g==([]:Bs))=false∧True)∨((g==([]:Bs))=true∧(l==([]:Bs))=false)∨((g==([]:Bs))=true∧(l==([]:Bs))=true∧(t==([]:Bs))=false))∨((g==([]:Bs))=true∧(l==([]:Bs))=true∧(t==([]:Bs))=true):=by
  by_cases a:g=[]<;>by_cases b:l=[]<;>by_cases c:t=[]<;>simp[a,b,c]
 rcases alt with alt|alt
 rotate_left
 ·have eo:oEn (mkE (orF g l t) t l m)=.tup [En.z.av,.bool false]:=by
   have a:g=[]:=(by simpa using alt.1);have b:l=[]:=(by simpa using alt.2.1);have c:t=[]:=(by simpa using alt.2.2);subst a b c;rfl
  rw[eo];have nn:(([]:Bs)==([]:Bs))=true:=rfl;have F:=F4 @alt nn hz @al
  skip
  refine sb [.cell 2 61,.tmp 3] Tryz.func124 ?_;intro Q hQ;refine wn F ?_;refine aG 7 7 _ (by rfl) (by decide+kernel) (by kernel_rfl) (by decide+kernel) (by decide+kernel) (by decide+kernel) ?_;simp only[H8,J1];refine sq F ?_;refine wn F ?_;refine aa (fG _) ?_;try refine sq F ?_
  refine wn F ?_;refine aa (fT _) ?_;try refine sq F ?_
  refine wn F ?_;refine aa (fL _) ?_;try refine sq F ?_
  refine wn F ?_;refine⟨?_,?_⟩
  ·refine aa (fG _) ?_;(try refine sq F ?_);refine wn F ?_;refine aa (fT _) ?_;(try refine sq F ?_);refine wn F ?_;refine aa (fL _) ?_;(try refine sq F ?_);refine wn F ?_;all_goals first|exact zq F|trivial| (refine sq F ?_;trivial)
  skip
  try refine sq F ?_
  refine wk F ?_;refine ye hQ F ?_;exact H3 (bM _ En.z _) ⟨rfl,rfl⟩
 ·obtain⟨u,hu⟩:∃u,u=orF g l t:=⟨_,rfl⟩;rw[← hu];have un:u≠ []∧(((g==([]:Bs))=false∧u=g)∨((g==([]:Bs))=true∧(l==([]:Bs))=false∧u=l)∨((g==([]:Bs))=true∧(l==([]:Bs))=true∧(t==([]:Bs))=false∧u=t)):=by
   rw[hu];unfold orF;rcases alt with⟨a,_⟩| ⟨a,b⟩| ⟨a,b,c⟩
   ·have a':g≠ []:=(by simpa using a);simp[a']
   ·have a':g=[]:=(by simpa using a);have b':l≠ []:=(by simpa using b);simp[a',b']
   ·have a':g=[]:=(by simpa using a);have b':l=[]:=(by simpa using b);have c':t≠ []:=(by simpa using c);simp[a',b',c']
  obtain⟨hu0,un⟩:=un;have eo:oEn (mkE u t l m)=.tup [(⟨u,t,l,m.getD 0,m.isSome⟩:En).av,.bool true]:=by unfold mkE;rw[G0 hu0];rfl
  rw[eo];clear hu alt eo;rcases un with⟨a,rfl⟩| ⟨a,b,rfl⟩| ⟨a,b,c,rfl⟩
  ·have F:=F3 a hz @al
   skip
   refine sb [.cell 2 61,.tmp 3] Tryz.func124 ?_;intro Q hQ;refine wn F ?_;refine aG 7 7 _ (by rfl) (by decide+kernel) (by kernel_rfl) (by decide+kernel) (by decide+kernel) (by decide+kernel) ?_;simp only[H8,J1];refine sq F ?_;refine wn F ?_;refine aa (fG _) ?_;(try refine sq F ?_);refine wn F ?_;refine aa (fT _) ?_;(try refine sq F ?_);refine wn F ?_;refine aa (fL _) ?_;(try refine sq F ?_);refine wn F ?_;refine⟨?_,?_⟩
   ·refine aa (fG _) ?_;(try refine sq F ?_);refine wn F ?_;refine aa (fT _) ?_;(try refine sq F ?_);refine wn F ?_;refine aa (fL _) ?_;(try refine sq F ?_);refine wn F ?_;all_goals first|exact zq F|trivial| (refine sq F ?_;trivial)
   skip
   (try refine sq F ?_);refine wk F ?_;refine kq F (hM _) ?_;refine ye hQ F ?_;exact H3 (bM _ (⟨_,_,_,m.getD 0,m.isSome⟩:En) _) ⟨rfl,rfl⟩
  ·have F:=F4 a b hz @al
   skip
   refine sb [.cell 2 61,.tmp 3] Tryz.func124 ?_;intro Q hQ;refine wn F ?_;refine aG 7 7 _ (by rfl) (by decide+kernel) (by kernel_rfl) (by decide+kernel) (by decide+kernel) (by decide+kernel) ?_;simp only[H8,J1];refine sq F ?_;refine wn F ?_;refine aa (fG _) ?_;(try refine sq F ?_);refine wn F ?_;refine aa (fT _) ?_;(try refine sq F ?_);refine wn F ?_;refine aa (fL _) ?_;(try refine sq F ?_);refine wn F ?_;refine⟨?_,?_⟩
   ·refine aa (fG _) ?_;(try refine sq F ?_);refine wn F ?_;refine aa (fT _) ?_;(try refine sq F ?_);refine wn F ?_;refine aa (fL _) ?_;(try refine sq F ?_);refine wn F ?_;all_goals first|exact zq F|trivial| (refine sq F ?_;trivial)
   skip
   (try refine sq F ?_);refine wk F ?_;refine kq F (hM _) ?_;refine ye hQ F ?_;exact H3 (bM _ (⟨_,_,_,m.getD 0,m.isSome⟩:En) _) ⟨rfl,rfl⟩
  ·have F:=F5 a b c hz @al
   skip
   refine sb [.cell 2 61,.tmp 3] Tryz.func124 ?_;intro Q hQ;refine wn F ?_;refine aG 7 7 _ (by rfl) (by decide+kernel) (by kernel_rfl) (by decide+kernel) (by decide+kernel) (by decide+kernel) ?_;simp only[H8,J1];refine sq F ?_;refine wn F ?_;refine aa (fG _) ?_;(try refine sq F ?_);refine wn F ?_;refine aa (fT _) ?_;(try refine sq F ?_);refine wn F ?_;refine aa (fL _) ?_;(try refine sq F ?_);refine wn F ?_;refine⟨?_,?_⟩
   ·refine aa (fG _) ?_;(try refine sq F ?_);refine wn F ?_;refine aa (fT _) ?_;(try refine sq F ?_);refine wn F ?_;refine aa (fL _) ?_;(try refine sq F ?_);refine wn F ?_;all_goals first|exact zq F|trivial| (refine sq F ?_;trivial)
   skip
   (try refine sq F ?_);refine wk F ?_;refine kq F (hM _) ?_;refine ye hQ F ?_;exact H3 (bM _ (⟨_,_,_,m.getD 0,m.isSome⟩:En) _) ⟨rfl,rfl⟩
theorem qT(hA:DateR G 241 webR)(e:Elem)(hs:e.sz≤1048576)(hu:∀n,(kidF e n).1.text.length≤100000)(hk:∀k∈kidsF e bLink,(attrF k.attrs bHref).1.length≤100000)(hti:∀x∈kidsF e bEntry,∀n,(kidF x n).1.text.length≤100000)(htl:∀x∈kidsF e bEntry,∀k∈kidsF x bLink,(attrF k.attrs bHref).1.length≤100000)(h:Heap):Sat (CT G) 74 [e.av] h (fun r h'=>r=oFd (atomF e)∧h'=h):=by
 have hSh:=hU G e.name (by have:=V5 e;omega);have fT:=bR G e bTitle 256 hs (hu _) (by omega);have fL:=lN G e hs hk;have hKs:=gu G e bEntry hs;have hsz:∀k∈kidsF e bEntry,k.sz≤1048576:=fun k hk=>cD hs hk
 have hln:=dg e bEntry hs;have hR:atomF e=if short e.name=bFeed then some ⟨fieldF e bTitle 256,linkA e,entsF entA (kidsF e bEntry)⟩else none:=rfl
 rw[hR];clear hR hu hk;generalize fieldF e bTitle 256=t at*;generalize linkA e=l at*;generalize kidsF e bEntry=ks at*;generalize short e.name=sn at*;have mk:(ks.map Elem.av).length=ks.length:=I9 ..;obtain⟨e1,e2,e3,e4⟩:=e;by_cases hn:sn=bFeed
 rotate_left
 ·have q:(sn==bFeed)=false:=by simpa using hn
  unfold bFeed at q;rw[G0 hn];have F:=F2 q @al;refine sb [.cell 2 25,.tmp 3] Tryz.func74 ?_;intro Q hQ;refine wk F ?_;refine kq F (hSh _) ?_;refine ye hQ F ?_;exact P3 (dF _ _) ⟨rfl,rfl⟩
 ·have q:(sn==bFeed)=true:=by simpa using hn
  unfold bFeed at q;rw[G3 hn];have F:=F3 q mk @al
  skip
  refine sb [.cell 2 25,.tmp 3] Tryz.func74 ?_;intro Q hQ;refine wn F ?_;refine kn F (hSh _) ?_;refine aG 5 5 _ (by rfl) (by decide+kernel) (by kernel_rfl) (by decide+kernel) (by decide+kernel) (by decide+kernel) ?_;simp only[H8,J1];refine sq F ?_;refine wn F ?_;refine aa (fT _) ?_;try refine sq F ?_
  refine wn F ?_;refine aa (fL _) ?_;try refine sq F ?_
  refine wn F ?_;refine⟨?_,?_⟩
  ·refine aa (fT _) ?_;(try refine sq F ?_);refine wn F ?_;refine aa (fL _) ?_;(try refine sq F ?_);refine wn F ?_;all_goals first|exact zq F|trivial| (refine sq F ?_;trivial)
  skip
  try refine sq F ?_
  refine wk F ?_;refine kq F (hKs _) ?_;refine lm (fun nL tL hL=>∃(k v:Nat) (es:List En) (j:Heap),ks.length-k=nL∧h++ .row 76 4 0 [Elem.av ⟨e1,e2,e3,e4⟩]:: .row 25 3 0 [.agg [.str [],.str [],.nil (.slice none 0 0)]]:: .row 25 3 0 [.agg [.str t,.str l,.hs (h.length+3) v 0 es.length true]]:: .row 61 5 v (es.map En.av)::j=hL∧tL 6=.int .i64 k∧k≤ks.length∧es=entsF entA (ks.take k)) ((fun(k v:Nat) (es:List En) (j:Heap)=>(ks.length-k:Nat)) (0) (0) ([]) ([])) ?_ ?_
  ·refine⟨_,_,S7 (p:=h.length+2) (v:=0) 61 5 (by omega) (by simp(disch:=first|omega| (simp only[go_sem, ↓reduceIte,seval];first|done|omega)|fail) only[go_sem, ↓reduceIte,seval,F];rfl) 2 rfl,⟨0,0,[],[],rfl,(by simp),?_,by omega,rfl⟩⟩;all_goals try exact zZz F
  rintro _ s2 h' ⟨k,v,es,j,rfl,rfl,e6,hk,ho⟩ K2 hK2;simp only[ai,ak,Nat.reduceEqDiff, ↓reduceIte]at e6;have F:=F2 F e6;have hel:es.length≤256:=by rw[ho];unfold entsF;rw[I2];omega
  have me:(es.map En.av).length=es.length:=I9 ..;by_cases c1:k<ks.length
  ·obtain⟨x,hx,hxm⟩:=ae c1;have d1:=G8 c1;have hE:=oz G x (hsz x hxm) (hti x hxm) (htl x hxm) hA;have hst:=gK entA hx;rw[← ho]at hst;cases hv:entA x with
   |none=>
    rw[hv]at hE hst;have hE:∀h,Sat (CT G) 124 [x.av] h (fun r h'=>r=.tup [En.z.av,.bool false]∧h'=h):=hE;have F:=F4 F hx d1 me;(try refine sq F ?_);refine wk F ?_;have hst:entsF entA (ks.take (k+1))=es:=hst;refine kq F (hE _) ?_;refine hK2 _ _ _ (G9 ⟨k+1,v,es,j++[.row 61 5 0 [En.z.av]],rfl,by simp[En.av,En.z],?_,by omega,hst.symm⟩) (by omega);all_goals try exact zZz F
   |some y=>
    rw[hv]at hE hst;have hE:∀h,Sat (CT G) 124 [x.av] h (fun r h'=>r=.tup [y.av,.bool true]∧h'=h):=hE;have hst:entsF entA (ks.take (k+1))=if es.length<256 then es++[y]else es:=hst
    by_cases c2:es.length<256
    ·have d2:decide ((es.length:Int)<256)=true:=G8 (by omega);rw[G3 c2]at hst;have F:=F5 F hx d1 d2 me;(try refine sq F ?_);refine wk F ?_;refine kq F (hE _) ?_;refine aq F ?_;(try refine sq F ?_);refine wk F ?_;refine hK2 _ _ _ (G9 ⟨k+1,v+1,es++[y],j++[.row 61 5 0 [y.av]],rfl,by simp[En.av],?_,by omega,hst.symm⟩) (by omega);all_goals try exact zZz F
    ·have d2:decide ((es.length:Int)<256)=false:=G7 (by omega);rw[G0 c2]at hst;have F:=F5 F hx d1 d2 me;(try refine sq F ?_);refine wk F ?_;refine kq F (hE _) ?_;refine hK2 _ _ _ (G9 ⟨k+1,v,es,j++[.row 61 5 0 [y.av]],rfl,by simp[En.av],?_,by omega,hst.symm⟩) (by omega);all_goals try exact zZz F
  ·have d1:=G7 c1;rw[H9 (by omega)]at ho;have F:=F3 F d1 me;(try refine sq F ?_);refine wk F ?_;refine ye hQ F ?_;rw[← ho];exact P3 (nu t l es true (by omega) (by rw[eZ _ rfl];show(if v=v then _ else _)=_;rw[G3 rfl])) ⟨rfl,rfl⟩
theorem pi{s:Bs}(h:((splF 58 s).length≠2∧(splF 58 s).length≠3)∨∃x∈splF 58 s,x.length≠2):clkR s=none:=by
 unfold clkR;refine G3 ?_;rcases h with h| ⟨x,hx,h⟩
 ·exact .inl h
 ·right;rw[List.all_eq_false];exact⟨x,hx,by simpa using h⟩
theorem pj{s:Bs}(h1:(splF 58 s).length=2∨(splF 58 s).length=3)(h2:∀x∈splF 58 s,x.length=2):clkR s=some (num9 ((splF 58 s).getD 0 []),num9 ((splF 58 s).getD 1 []),if (splF 58 s).length=3 then num9 ((splF 58 s).getD 2 [])else 0):=by
 unfold clkR;refine G0 ?_;rintro(h|h)
 ·omega
 ·rw[List.all_eq_false]at h;obtain⟨x,hx,h⟩:=h;exact h (by simpa using h2 x hx)
theorem eQ{w:List Bs}(h:w.length≠5∨2<(w.getD 0 []).length∨((w.getD 2 []).length≠4∧(w.getD 2 []).length≠2)):wrdR w=none:=by
 unfold wrdR;exact G3 h
theorem pk{w:List Bs}(h1:w.length=5)(h2:¬2<(w.getD 0 []).length)(h3:(w.getD 2 []).length=4∨(w.getD 2 []).length=2):wrdR w=match clkR (w.getD 3 [])with
 |none=>none
 |some p=>zonT (zonR (w.getD 4 [])) ⟨yearR (w.getD 2 []),1+ixS monL (w.getD 1 []),num9 (w.getD 0 []),p.1,p.2.1,p.2.2⟩:=by
 unfold wrdR;rw[G0 (by omega)];rcases clkR (w.getD 3 [])with _| ⟨a,b,c⟩<;>rfl
theorem tm(s:Bs): -1≤num9 s∧num9 s≤1000000000:=kD s
theorem qU(s:Bs)(hs:s.length≤1048576)(h:Heap):Sat (CT G) 285 [.str s] h (fun r h'=>r=.tup [.int .i64 ((mailR s).getD 0),.bool (mailR s).isSome]∧h'=h):=by
 have dt:∀i:Decidable True, @decide True i=true:=fun i=>by simp
 have df:∀i:Decidable False, @decide False i=false:=fun i=>by simp
 have hS:∀h,Sat (CT G) 310 [.str s,.int .u8 32] h (fun r h'=>r=.sl 1 ((splF 32 s).map .str)∧h'=h):=gB G s 32 hs;have hle:=fO 32 s;have em:mailR s=if (splF 32 s).length=6 then(if (splF 32 s).getD 0 []∈weekL then wrdR ((splF 32 s).drop 1)else none)else wrdR (splF 32 s):=rfl
 generalize splF 32 s=w at hS hle em;have mw:(w.map AVal.str).length=w.length:=I9 ..;by_cases six:w.length=6
 rotate_left
 ·rw[em,G0 six];have q6:((w.length:Int)==6)=false:=by simpa using(by omega:¬(w.length:Int)=6)
  have hWl:∀x∈w,x.length≤1048576:=fun x hx=>by have:=hle x hx;omega
  have F:=F2 mw q6
  skip
  refine sb [.tmp 2,.tmp 3] Tryz.func285 ?_;intro Q hQ;refine wn F ?_;refine kn F (hS _) ?_;generalize hWW:w=W at*;have mW:(W.map AVal.str).length=W.length:=I9 ..;by_cases l5:W.length=5
  rotate_left
  ·have q5:((W.length:Int) !=5)=true:=(by simp only[bne_iff_ne,ne_eq];omega);have hw:=eQ (w:=W) (.inl l5);have F:=F3 F @mW q5;(try refine sq F ?_);refine wn F ?_;refine ee hQ F ?_;exact I8 (ao _ _ _) ⟨by rw[hw];rfl,rfl⟩
  have q5:((W.length:Int) !=5)=false:=by rw[l5];rfl
  have g0:=aU (w:=W) (k:=0) (by omega);have g1:=aU (w:=W) (k:=1) (by omega);have g2:=aU (w:=W) (k:=2) (by omega);have g3:=aU (w:=W) (k:=3) (by omega);have g4:=aU (w:=W) (k:=4) (by omega);have b0:=hWl _ (G4 g0);have b1:=hWl _ (G4 g1);have b2:=hWl _ (G4 g2);have b3:=hWl _ (G4 g3);have b4:=hWl _ (G4 g4);by_cases k0:2<(W.getD 0 []).length
  ·have q0:decide (((W.getD 0 []).length:Int)>2)=true:=G8 (by omega);have hw:=eQ (w:=W) (.inr (.inl k0));have F:=F6 F @mW q5 q0 g0 g2;(try refine sq F ?_);refine wn F ?_;refine ee hQ F ?_;exact I8 (ao _ _ _) ⟨by rw[hw];rfl,rfl⟩
  have q0:decide (((W.getD 0 []).length:Int)>2)=false:=G7 (by omega);by_cases k2:(W.getD 2 []).length≠4∧(W.getD 2 []).length≠2
  ·have q1:(((W.getD 2 []).length:Int) !=4)=true:=(by simp only[bne_iff_ne,ne_eq];omega);have q2:(((W.getD 2 []).length:Int) !=2)=true:=(by simp only[bne_iff_ne,ne_eq];omega);have hw:=eQ (w:=W) (.inr (.inr k2));have F:=F8 F @mW q5 q0 q1 q2 g0 g2;(try refine sq F ?_);refine wn F ?_;refine ee hQ F ?_;exact I8 (ao _ _ _) ⟨by rw[hw];rfl,rfl⟩
  have k2:(W.getD 2 []).length=4∨(W.getD 2 []).length=2:=by omega
  have hw:=pk l5 k0 k2;have nD:=aM G (W.getD 0 []) (by omega);have nY:=aM G (W.getD 2 []) (by omega);have hM:∀h,Sat (CT G) 311 [.sl 1 [.str [74,97,110],.str [70,101,98],.str [77,97,114],.str [65,112,114],.str [77,97,121],.str [74,117,110],.str [74,117,108],.str [65,117,103],.str [83,101,112],.str [79,99,116],.str [78,111,118],.str [68,101,99]],.str (W.getD 1 [])] h (fun r h'=>r=.int .i64 (ixS monL (W.getD 1 []))∧h'=h):=eI G monL (W.getD 1 []) (by decide);have hN:=jO G (W.getD 4 []) (by omega);have hz0:= @p7 (W.getD 4 []);have ixb:=sF monL (W.getD 1 []);have ixb: -1≤ixS monL (W.getD 1 [])∧ixS monL (W.getD 1 [])≤12:=ixb;have ub:=tm (W.getD 2 []);have hCt:∀h,Sat (CT G) 310 [.str (W.getD 3 []),.int .u8 58] h (fun r h'=>r=.sl 1 ((splF 58 (W.getD 3 [])).map .str)∧h'=h):=gB G (W.getD 3 []) 58 (by omega);have htl:=fO 58 (W.getD 3 []);have cn:= @pi (W.getD 3 []);have ca:= @pj (W.getD 3 []);have alt:(((((W.getD 2 []).length:Int) !=4)=true∧(((W.getD 2 []).length:Int) !=2)=false)∧((((W.getD 2 []).length:Int)==2)=true∧((decide (num9 (W.getD 2 [])≥50)=true∧num9 (W.getD 2 [])+1900=yearR (W.getD 2 []))∨(decide (num9 (W.getD 2 [])≥50)=false∧decide (num9 (W.getD 2 [])≥0)=true∧num9 (W.getD 2 [])+2000=yearR (W.getD 2 []))∨(num9 (W.getD 2 [])=yearR (W.getD 2 [])∧decide (yearR (W.getD 2 [])≥50)=false∧decide (yearR (W.getD 2 [])≥0)=false))))∨
    ((((W.getD 2 []).length:Int) !=4)=false∧(((W.getD 2 []).length:Int)==2)=false∧num9 (W.getD 2 [])=yearR (W.getD 2 [])):=by
   unfold yearR;by_cases e:(W.getD 2 []).length=2
   ·left;refine⟨⟨by rw[e];rfl,by rw[e];rfl⟩,by rw[e];rfl,?_⟩;by_cases a:50≤num9 (W.getD 2 [])
    ·exact .inl ⟨G8 a,by rw[G3 ⟨e,a⟩]⟩
    ·by_cases b:0≤num9 (W.getD 2 [])
     ·exact .inr (.inl ⟨G7 a,G8 b,by rw[G0 (fun n=>a n.2),G3 ⟨e,b⟩]⟩)
     ·rw[G0 (fun n=>a n.2),G0 (fun n=>b n.2)];exact .inr (.inr ⟨rfl,G7 a,G7 b⟩)
   ·right;have e4:(W.getD 2 []).length=4:=(by omega);exact⟨by rw[e4];rfl,by rw[e4];rfl,by rw[G0 (fun n=>e n.1),G0 (fun n=>e n.1)]⟩
  generalize zonR (W.getD 4 [])=zo at*;generalize yearR (W.getD 2 [])=Y at*;generalize num9 (W.getD 2 [])=u at*;generalize num9 (W.getD 0 [])=nd at*;generalize ixS monL (W.getD 1 [])=ix at*;generalize splF 58 (W.getD 3 [])=t at*;have mt:(t.map AVal.str).length=t.length:=I9 ..;have hT:=fun(a b c:Int) z (hz: -400000≤z∧z≤400000) h=>ib G ⟨Y,1+ix,nd,a,b,c⟩ z hz h
  simp only[Dt.av_eq]at hT;have F:=F2 (F9 F @mW mt q5 q0 g0 g1 g2 g3) (F4 g4 dt df @al);rcases alt with⟨alt0,alt1,alt|alt|alt⟩| ⟨alt0,alt1,alt⟩;all_goals (
   have F:=F4 F @alt0 @alt1 @alt;(try refine sq F ?_);refine wn F ?_;refine aG 15 15 _ (by rfl) (by decide+kernel) (by kernel_rfl) (by decide+kernel) (by decide+kernel) (by decide+kernel) ?_;simp only[H8,J1];refine sq F ?_;refine wn F ?_;refine aa (nD _) ?_;(try refine sq F ?_);refine wn F ?_;refine aa (nY _) ?_;(try refine sq F ?_);refine wn F ?_;refine aa (hM _) ?_;(try refine sq F ?_);refine wn F ?_;refine⟨?_,?_⟩
   ·refine aa (nD _) ?_;(try refine sq F ?_);refine wn F ?_;refine aa (nY _) ?_;(try refine sq F ?_);refine wn F ?_;refine aa (hM _) ?_;(try refine sq F ?_);refine wn F ?_;all_goals first|exact zq F|trivial| (refine sq F ?_;trivial)
   skip
   (try refine sq F ?_);refine wk F ?_;refine kq F (hCt _) ?_;by_cases l23:t.length≠2∧t.length≠3
   ·have w2:((t.length:Int) !=2)=true:=(by simp only[bne_iff_ne,ne_eq];omega);have w3:((t.length:Int) !=3)=true:=(by simp only[bne_iff_ne,ne_eq];omega);have hc:=cn (.inl l23);have F:=F3 F w2 w3;(try refine sq F ?_);refine wk F ?_;refine ee hQ F ?_;exact H3 (ao _ _ _) ⟨by rw[hw,hc];rfl,rfl⟩
   have w23:(((t.length:Int) !=2)=false∧((t.length:Int)==3)=false∧(if t.length=3 then num9 (t.getD 2 [])else 0)=0)∨(t.length=3∧((t.length:Int) !=2)=true∧((t.length:Int) !=3)=false∧((t.length:Int)==3)=true∧t[2]? =some (t.getD 2 [])∧(if t.length=3 then num9 (t.getD 2 [])else 0)=num9 (t.getD 2 [])):=by
    by_cases e:t.length=2
    ·left;rw[e];exact⟨rfl,rfl,rfl⟩
    ·right;have e3:t.length=3:=(by omega);have:=aU (w:=t) (k:=2) (by omega);refine⟨e3,?_⟩;rw[e3];exact⟨rfl,rfl,rfl,this,rfl⟩
   have t0:=aU (w:=t) (k:=0) (by omega);have t1:=aU (w:=t) (k:=1) (by omega);have bt0:=htl _ (G4 t0);have bt1:=htl _ (G4 t1);have n0:=aM G (t.getD 0 []) (by omega);have n1:=aM G (t.getD 1 []) (by omega);have n2:3=t.length→∀h,Sat (CT G) 286 [.str (t.getD 2 [])] h (fun r h'=>r=.int .i64 (num9 (t.getD 2 []))∧h'=h):=fun e=>aM G (t.getD 2 []) (by have:=htl _ (G4 (aU (w:=t) (k:=2) (by omega)));omega)
   rcases w23 with w23| ⟨h3,w23⟩;all_goals (
    have F:=F4 F w23 t0 t1;(try refine sq F ?_);refine wk F ?_;refine lm (fun nL tL hL=>∃(k:Nat),t.length-k=nL∧h++[.row 197 6 0 [.agg [.int .i64 Y,.int .i64 (1+ix),.int .i64 nd,.int .i64 0,.int .i64 0,.int .i64 0]]]=hL∧tL 7=.int .i64 k∧k≤t.length∧(∀x∈t.take k,x.length=2)) ((fun(k:Nat)=>(t.length-k:Nat)) (0)) ?_ ?_
    ·refine G9 ⟨0,rfl,ar,?_,by omega,by simp⟩;all_goals try exact zZz F
    rintro _ s2 h' ⟨k,rfl,rfl,e7,hk,hq⟩ K2 hK2;simp only[ai,ak,Nat.reduceEqDiff, ↓reduceIte]at e7;have F:=F2 F e7;by_cases c1:k<t.length
    ·have hx:=aU c1;have d1:=G8 c1;by_cases e:(t.getD k []).length=2
     ·have q:(((t.getD k []).length:Int) !=2)=false:=(by rw[e];rfl);have hq':∀y∈t.take (k+1),y.length=2:=fun y hy=>by
       rw[M2,hx]at hy;rcases R6.1 hy with hy|hy
       ·exact hq y hy
       ·have:y=t.getD k []:=by simpa using hy
        rw[this];exact e
      have F:=F4 F hx d1 q;(try refine sq F ?_);refine wk F ?_;refine hK2 _ _ _ (G9 ⟨k+1,rfl,ar,?_,by omega,hq'⟩) (by omega);all_goals try exact zZz F
     ·have q:(((t.getD k []).length:Int) !=2)=true:=(by simp only[bne_iff_ne,ne_eq];omega);have hc:=cn (.inr ⟨_,G4 hx,e⟩);have F:=F4 F hx d1 q;(try refine sq F ?_);refine wk F ?_;refine ee hQ F ?_;exact H3 (ao _ _ _) ⟨by rw[hw,hc];rfl,rfl⟩
    ·have d1:=G7 c1;rw[H9 (by omega)]at hq;have hc:=ca (by omega) hq;rw[hc]at hw;have F:=F2 F d1;(try refine sq F ?_);refine wk F ?_;refine aa (n0 _) ?_;(try refine sq F ?_);refine wk F ?_;refine aa (n1 _) ?_;(try refine sq F ?_);refine wk F ?_;have hw':wrdR W=zonT zo ⟨Y,1+ix,nd,num9 (t.getD 0 []),num9 (t.getD 1 []),if t.length=3 then num9 (t.getD 2 [])else 0⟩:=hw;try (
      refine kq F (n2 (by omega) _) ?_)
     cases zo with
     |none=>
      have hN:∀h,Sat (CT G) 312 [.str (W.getD 4 [])] h (fun r h'=>r=.tup [.int .i64 0,.bool false]∧h'=h):=hN;refine kq F (hN _) ?_;refine ee hQ F ?_;exact H3 (ao _ _ _) ⟨by rw[hw'];rfl,rfl⟩
     |some z=>
      have hN:∀h,Sat (CT G) 312 [.str (W.getD 4 [])] h (fun r h'=>r=.tup [.int .i64 z,.bool true]∧h'=h):=hN;refine kq F (hN _) ?_;refine kq F (hT _ _ _ z (hz0 rfl) _) ?_;refine ee hQ F ?_;exact H3 (ao _ _ _) ⟨by rw[hw'];(first|rw[w23.2.2]|rw[w23.2.2.2.2]);rfl,rfl⟩))
 rw[em,G3 six];have q6:((w.length:Int)==6)=true:=by rw[six];rfl
 have g:=aU (w:=w) (k:=0) (by omega);have hWk:∀h,Sat (CT G) 311 [.sl 1 [.str [77,111,110,44],.str [84,117,101,44],.str [87,101,100,44],.str [84,104,117,44],.str [70,114,105,44],.str [83,97,116,44],.str [83,117,110,44]],.str (w.getD 0 [])] h (fun r h'=>r=.int .i64 (ixS weekL (w.getD 0 []))∧h'=h):=eI G weekL (w.getD 0 []) (by decide);by_cases hm:w.getD 0 []∈weekL
 rotate_left
 ·rw[G0 hm];have e:=jN (l:=weekL) (s:=w.getD 0 []) (fun x hx k=>hm (k▸hx));rw[e]at hWk;have F:=F5 mw q6 g dt df;refine sb [.tmp 2,.tmp 3] Tryz.func285 ?_;intro Q hQ;refine wk F ?_;refine kq F (hS _) ?_;refine kq F (hWk _) ?_;refine ee hQ F ?_;exact I8 (ao _ _ _) ⟨rfl,rfl⟩
 rw[G3 hm];obtain⟨i,hi⟩:=wf hm;rw[hi]at hWk;have qi:decide ((i:Int)<0)=false:=G7 (by omega);have hWl:∀x∈w.drop 1,x.length≤1048576:=fun x hx=>by have:=hle x (List.mem_of_mem_drop hx);omega
 have md:(w.map AVal.str).drop 1=(w.drop 1).map AVal.str:=by rw[List.map_drop]
 have o1:1≤w.length:=by omega
 have hsB:∀H,aslice Tryz.prog H 62 (.sl 1 (w.map AVal.str)) (some (.int .i64 1)) none none=some (.sl 1 ((w.drop 1).map AVal.str)):=fun H=>by
  rw[← md];exact jM (i:=1) (by simp only[go_sem];try rfl) (by simp only[go_sem];try rfl) (by omega)
 clear md;generalize w.drop 1=W at*;have F:=F7 mw q6 g dt df @hsB qi
 skip
 refine sb [.tmp 2,.tmp 3] Tryz.func285 ?_;intro Q hQ;refine wn F ?_;refine kn F (hS _) ?_;refine kn F (hWk _) ?_;have mW:(W.map AVal.str).length=W.length:=I9 ..;by_cases l5:W.length=5
 rotate_left
 ·have q5:((W.length:Int) !=5)=true:=by simp only[bne_iff_ne,ne_eq];omega
  have hw:=eQ (w:=W) (.inl l5);have F:=F3 F @mW q5;try refine sq F ?_
  refine wn F ?_;refine ee hQ F ?_;exact I8 (ao _ _ _) ⟨by rw[hw];rfl,rfl⟩
 have q5:((W.length:Int) !=5)=false:=by rw[l5];rfl
 have g0:=aU (w:=W) (k:=0) (by omega);have g1:=aU (w:=W) (k:=1) (by omega);have g2:=aU (w:=W) (k:=2) (by omega);have g3:=aU (w:=W) (k:=3) (by omega);have g4:=aU (w:=W) (k:=4) (by omega);have b0:=hWl _ (G4 g0);have b1:=hWl _ (G4 g1);have b2:=hWl _ (G4 g2);have b3:=hWl _ (G4 g3);have b4:=hWl _ (G4 g4);by_cases k0:2<(W.getD 0 []).length
 ·have q0:decide (((W.getD 0 []).length:Int)>2)=true:=G8 (by omega);have hw:=eQ (w:=W) (.inr (.inl k0));have F:=F6 F @mW q5 q0 g0 g2;try refine sq F ?_
  refine wn F ?_;refine ee hQ F ?_;exact I8 (ao _ _ _) ⟨by rw[hw];rfl,rfl⟩
 have q0:decide (((W.getD 0 []).length:Int)>2)=false:=G7 (by omega);by_cases k2:(W.getD 2 []).length≠4∧(W.getD 2 []).length≠2
 ·have q1:(((W.getD 2 []).length:Int) !=4)=true:=by simp only[bne_iff_ne,ne_eq];omega
  have q2:(((W.getD 2 []).length:Int) !=2)=true:=by simp only[bne_iff_ne,ne_eq];omega
  have hw:=eQ (w:=W) (.inr (.inr k2));have F:=F8 F @mW q5 q0 q1 q2 g0 g2;try refine sq F ?_
  refine wn F ?_;refine ee hQ F ?_;exact I8 (ao _ _ _) ⟨by rw[hw];rfl,rfl⟩
 have k2:(W.getD 2 []).length=4∨(W.getD 2 []).length=2:=by omega
 have hw:=pk l5 k0 k2;have nD:=aM G (W.getD 0 []) (by omega);have nY:=aM G (W.getD 2 []) (by omega);have hM:∀h,Sat (CT G) 311 [.sl 1 [.str [74,97,110],.str [70,101,98],.str [77,97,114],.str [65,112,114],.str [77,97,121],.str [74,117,110],.str [74,117,108],.str [65,117,103],.str [83,101,112],.str [79,99,116],.str [78,111,118],.str [68,101,99]],.str (W.getD 1 [])] h (fun r h'=>r=.int .i64 (ixS monL (W.getD 1 []))∧h'=h):=eI G monL (W.getD 1 []) (by decide);have hN:=jO G (W.getD 4 []) (by omega);have hz0:= @p7 (W.getD 4 []);have ixb:=sF monL (W.getD 1 []);have ixb: -1≤ixS monL (W.getD 1 [])∧ixS monL (W.getD 1 [])≤12:=ixb;have ub:=tm (W.getD 2 []);have hCt:∀h,Sat (CT G) 310 [.str (W.getD 3 []),.int .u8 58] h (fun r h'=>r=.sl 1 ((splF 58 (W.getD 3 [])).map .str)∧h'=h):=gB G (W.getD 3 []) 58 (by omega);have htl:=fO 58 (W.getD 3 []);have cn:= @pi (W.getD 3 []);have ca:= @pj (W.getD 3 []);have alt:(((((W.getD 2 []).length:Int) !=4)=true∧(((W.getD 2 []).length:Int) !=2)=false)∧((((W.getD 2 []).length:Int)==2)=true∧((decide (num9 (W.getD 2 [])≥50)=true∧num9 (W.getD 2 [])+1900=yearR (W.getD 2 []))∨(decide (num9 (W.getD 2 [])≥50)=false∧decide (num9 (W.getD 2 [])≥0)=true∧num9 (W.getD 2 [])+2000=yearR (W.getD 2 []))∨(num9 (W.getD 2 [])=yearR (W.getD 2 [])∧decide (yearR (W.getD 2 [])≥50)=false∧decide (yearR (W.getD 2 [])≥0)=false))))∨
   ((((W.getD 2 []).length:Int) !=4)=false∧(((W.getD 2 []).length:Int)==2)=false∧num9 (W.getD 2 [])=yearR (W.getD 2 [])):=by
  unfold yearR;by_cases e:(W.getD 2 []).length=2
  ·left;refine⟨⟨by rw[e];rfl,by rw[e];rfl⟩,by rw[e];rfl,?_⟩;by_cases a:50≤num9 (W.getD 2 [])
   ·exact .inl ⟨G8 a,by rw[G3 ⟨e,a⟩]⟩
   ·by_cases b:0≤num9 (W.getD 2 [])
    ·exact .inr (.inl ⟨G7 a,G8 b,by rw[G0 (fun n=>a n.2),G3 ⟨e,b⟩]⟩)
    ·rw[G0 (fun n=>a n.2),G0 (fun n=>b n.2)];exact .inr (.inr ⟨rfl,G7 a,G7 b⟩)
  ·right;have e4:(W.getD 2 []).length=4:=(by omega);exact⟨by rw[e4];rfl,by rw[e4];rfl,by rw[G0 (fun n=>e n.1),G0 (fun n=>e n.1)]⟩
 generalize zonR (W.getD 4 [])=zo at*;generalize yearR (W.getD 2 [])=Y at*;generalize num9 (W.getD 2 [])=u at*;generalize num9 (W.getD 0 [])=nd at*;generalize ixS monL (W.getD 1 [])=ix at*;generalize splF 58 (W.getD 3 [])=t at*;have mt:(t.map AVal.str).length=t.length:=I9 ..;have hT:=fun(a b c:Int) z (hz: -400000≤z∧z≤400000) h=>ib G ⟨Y,1+ix,nd,a,b,c⟩ z hz h
 simp only[Dt.av_eq]at hT;have F:=F2 (F9 F @mW mt q5 q0 g0 g1 g2 g3) (F4 g4 dt df @al);rcases alt with⟨alt0,alt1,alt|alt|alt⟩| ⟨alt0,alt1,alt⟩;all_goals (
  have F:=F4 F @alt0 @alt1 @alt;try refine sq F ?_
  refine wn F ?_;refine aG 15 15 _ (by rfl) (by decide+kernel) (by kernel_rfl) (by decide+kernel) (by decide+kernel) (by decide+kernel) ?_;simp only[H8,J1];refine sq F ?_;refine wn F ?_;refine aa (nD _) ?_;try refine sq F ?_
  refine wn F ?_;refine aa (nY _) ?_;try refine sq F ?_
  refine wn F ?_;refine aa (hM _) ?_;try refine sq F ?_
  refine wn F ?_;refine⟨?_,?_⟩
  ·refine aa (nD _) ?_;(try refine sq F ?_);refine wn F ?_;refine aa (nY _) ?_;(try refine sq F ?_);refine wn F ?_;refine aa (hM _) ?_;(try refine sq F ?_);refine wn F ?_;all_goals first|exact zq F|trivial| (refine sq F ?_;trivial)
  skip
  try refine sq F ?_
  refine wk F ?_;refine kq F (hCt _) ?_;by_cases l23:t.length≠2∧t.length≠3
  ·have w2:((t.length:Int) !=2)=true:=(by simp only[bne_iff_ne,ne_eq];omega);have w3:((t.length:Int) !=3)=true:=(by simp only[bne_iff_ne,ne_eq];omega);have hc:=cn (.inl l23);have F:=F3 F w2 w3;(try refine sq F ?_);refine wk F ?_;refine ee hQ F ?_;exact H3 (ao _ _ _) ⟨by rw[hw,hc];rfl,rfl⟩
  have w23:(((t.length:Int) !=2)=false∧((t.length:Int)==3)=false∧(if t.length=3 then num9 (t.getD 2 [])else 0)=0)∨(t.length=3∧((t.length:Int) !=2)=true∧((t.length:Int) !=3)=false∧((t.length:Int)==3)=true∧t[2]? =some (t.getD 2 [])∧(if t.length=3 then num9 (t.getD 2 [])else 0)=num9 (t.getD 2 [])):=by
   by_cases e:t.length=2
   ·left;rw[e];exact⟨rfl,rfl,rfl⟩
   ·right;have e3:t.length=3:=(by omega);have:=aU (w:=t) (k:=2) (by omega);refine⟨e3,?_⟩;rw[e3];exact⟨rfl,rfl,rfl,this,rfl⟩
  have t0:=aU (w:=t) (k:=0) (by omega);have t1:=aU (w:=t) (k:=1) (by omega);have bt0:=htl _ (G4 t0);have bt1:=htl _ (G4 t1);have n0:=aM G (t.getD 0 []) (by omega);have n1:=aM G (t.getD 1 []) (by omega);have n2:3=t.length→∀h,Sat (CT G) 286 [.str (t.getD 2 [])] h (fun r h'=>r=.int .i64 (num9 (t.getD 2 []))∧h'=h):=fun e=>aM G (t.getD 2 []) (by have:=htl _ (G4 (aU (w:=t) (k:=2) (by omega)));omega)
  rcases w23 with w23| ⟨h3,w23⟩;all_goals (
   have F:=F4 F w23 t0 t1;(try refine sq F ?_);refine wk F ?_;refine lm (fun nL tL hL=>∃(k:Nat),t.length-k=nL∧h++[.row 197 6 0 [.agg [.int .i64 Y,.int .i64 (1+ix),.int .i64 nd,.int .i64 0,.int .i64 0,.int .i64 0]]]=hL∧tL 7=.int .i64 k∧k≤t.length∧(∀x∈t.take k,x.length=2)) ((fun(k:Nat)=>(t.length-k:Nat)) (0)) ?_ ?_
   ·refine G9 ⟨0,rfl,ar,?_,by omega,by simp⟩;all_goals try exact zZz F
   rintro _ s2 h' ⟨k,rfl,rfl,e7,hk,hq⟩ K2 hK2;simp only[ai,ak,Nat.reduceEqDiff, ↓reduceIte]at e7;have F:=F2 F e7;by_cases c1:k<t.length
   ·have hx:=aU c1;have d1:=G8 c1;by_cases e:(t.getD k []).length=2
    ·have q:(((t.getD k []).length:Int) !=2)=false:=(by rw[e];rfl);have hq':∀y∈t.take (k+1),y.length=2:=fun y hy=>by
      rw[M2,hx]at hy;rcases R6.1 hy with hy|hy
      ·exact hq y hy
      ·have:y=t.getD k []:=by simpa using hy
       rw[this];exact e
     have F:=F4 F hx d1 q;(try refine sq F ?_);refine wk F ?_;refine hK2 _ _ _ (G9 ⟨k+1,rfl,ar,?_,by omega,hq'⟩) (by omega);all_goals try exact zZz F
    ·have q:(((t.getD k []).length:Int) !=2)=true:=(by simp only[bne_iff_ne,ne_eq];omega);have hc:=cn (.inr ⟨_,G4 hx,e⟩);have F:=F4 F hx d1 q;(try refine sq F ?_);refine wk F ?_;refine ee hQ F ?_;exact H3 (ao _ _ _) ⟨by rw[hw,hc];rfl,rfl⟩
   ·have d1:=G7 c1;rw[H9 (by omega)]at hq;have hc:=ca (by omega) hq;rw[hc]at hw;have F:=F2 F d1;(try refine sq F ?_);refine wk F ?_;refine aa (n0 _) ?_;(try refine sq F ?_);refine wk F ?_;refine aa (n1 _) ?_;(try refine sq F ?_);refine wk F ?_;have hw':wrdR W=zonT zo ⟨Y,1+ix,nd,num9 (t.getD 0 []),num9 (t.getD 1 []),if t.length=3 then num9 (t.getD 2 [])else 0⟩:=hw;try (
     refine kq F (n2 (by omega) _) ?_)
    cases zo with
    |none=>
     have hN:∀h,Sat (CT G) 312 [.str (W.getD 4 [])] h (fun r h'=>r=.tup [.int .i64 0,.bool false]∧h'=h):=hN;refine kq F (hN _) ?_;refine ee hQ F ?_;exact H3 (ao _ _ _) ⟨by rw[hw'];rfl,rfl⟩
    |some z=>
     have hN:∀h,Sat (CT G) 312 [.str (W.getD 4 [])] h (fun r h'=>r=.tup [.int .i64 z,.bool true]∧h'=h):=hN;refine kq F (hN _) ?_;refine kq F (hT _ _ _ z (hz0 rfl) _) ?_;refine ee hQ F ?_;exact H3 (ao _ _ _) ⟨by rw[hw'];(first|rw[w23.2.2]|rw[w23.2.2.2.2]);rfl,rfl⟩))
theorem tn(s:Bs)(hs:s.length≤1048576)(h:Heap):Sat (CT G) 240 [.str s] h (fun r h'=>r=.tup [.int .i64 ((anyF s).getD 0),.bool (anyF s).isSome]∧h'=h):=by
 have hW:=lD G s hs;have hM:=qU G s hs;unfold anyF;cases e:webR s with
 |some n=>
  rw[e]at hW;have hW:∀h,Sat (CT G) 241 [.str s] h (fun r h'=>r=.tup [.int .i64 n,.bool true]∧h'=h):=hW;refine sb [.tmp 2,.tmp 3] Tryz.func240 ?_;intro Q hQ;refine wk trivial ?_;refine kq trivial (hW _) ?_;refine ee hQ trivial ?_;exact I8 (ao _ _ _) ⟨rfl,rfl⟩
 |none=>
  rw[e]at hW;have hW:∀h,Sat (CT G) 241 [.str s] h (fun r h'=>r=.tup [.int .i64 0,.bool false]∧h'=h):=hW;refine sb [.tmp 2,.tmp 3] Tryz.func240 ?_;intro Q hQ;refine wk trivial ?_;refine kq trivial (hW _) ?_;refine kq trivial (hM _) ?_;refine ee hQ trivial ?_;exact I8 (ao _ _ _) ⟨rfl,rfl⟩
theorem zV:DateR G 241 webR:=fun s hs h=>lD G s hs h
theorem zW:DateR G 240 anyF:=fun s hs h=>tn G s hs h
theorem wu(hA:DateC G 263 anyF)(hL:LinkC G 110)(e:Elem)(hs:e.sz≤1048576)(h:Heap):Sat (CT G) 33 [e.av] h (fun r h'=>r=.tup [((ofE e).getD Fd.z).av,.int .i64 (if (ofE e).isSome then 0 else 120)]∧h'=h):=
 tg G e (fun h=>tf G hA e hs h) (fun h=>qQ G hL e hs h) h
theorem tt(hG:GOk G):DateC G 263 anyF:=fun s hs h=>by
 have hW:=p8 G s (by omega);have hM:=vf G hG s hs;rw[mK]at hW;rw[oO]at hM;unfold anyF;cases e:webR s with
 |some n=>
  rw[e]at hW;have hW:∀h,Sat (CT G) 301 [.str s] h (fun r h'=>r=.tup [.int .i64 n,.int .i64 0]∧h'=h):=hW;refine sb [.tmp 2,.tmp 3] Tryz.func263 ?_;intro Q hQ;refine wk trivial ?_;refine kq trivial (hW _) ?_;refine ee hQ trivial ?_;exact I8 (ch _ _ _) ⟨rfl,rfl⟩
 |none=>
  rw[e]at hW;have hW:∀h,Sat (CT G) 301 [.str s] h (fun r h'=>r=.tup [.int .i64 0,.int .i64 40]∧h'=h):=hW;refine sb [.tmp 2,.tmp 3] Tryz.func263 ?_;intro Q hQ;refine wk trivial ?_;refine kq trivial (hW _) ?_;refine kq trivial (hM _) ?_;refine ee hQ trivial ?_;exact I8 (ch _ _ _) ⟨rfl,rfl⟩
theorem xG:LinkC G 110:=fun e hs h=>tq G e hs h
theorem nA(hG:GOk G)(e:Elem)(hs:e.sz≤1048576)(h:Heap):Sat (CT G) 33 [e.av] h (fun r h'=>r=.tup [((ofE e).getD Fd.z).av,.int .i64 (if (ofE e).isSome then 0 else 120)]∧h'=h):=
 wu G (tt G hG) (xG G) e hs h
theorem FrN.split{h H:Heap}(g:FrN h.length h H)(hl:h.length≤H.length):∃j,H=h++j:=by
 refine⟨H.drop h.length,List.ext_getElem? fun i=>?_⟩;by_cases hi:i<h.length
 ·rw[H0 hi];exact g i hi
 ·rw[I3 (by omega),K8];congr 1;omega
def PBldR(h:Heap)(l:List Tok)(r:AVal)(h':Heap):Prop:=
 ∃e:Elem,r=.tup [e.av,.int .i64 (if (bldF l).isSome then 0 else 90)]∧(∀x,bldF l=some x→e=x)∧(bldF l=none→e=⟨[],[],[],[]⟩)∧h'=h
theorem PBldR.bad{h H:Heap}{l:List Tok}(g:FrN h.length h H)(hl:h.length≤H.length)(e:bldF l=none):Fin h H (PBldR h l) (.tup [.agg [.str [],.nil (.slice none 0 0),.str [],.nil (.slice none 0 0)],.int .i64 90]):=by
 obtain⟨j,rfl⟩:=g.split hl;have z:Frz (h++j) h.length (.agg [.str [],.nil (.slice none 0 0),.str [],.nil (.slice none 0 0)]) (Elem.av ⟨[],[],[],[]⟩):=by
  rw[Elem.av_eq];exact FrzL.agg (.cons (.clo _ (.str _)) (.cons (.nils 2) (.cons (.clo _ (.str _)) (.cons (.nils 4) .nil)))) rfl
 exact P3 (U0 (.cons z (.cons (.clo _ (.int _ _)) .nil))) ⟨_,by rw[e];rfl,(fun x hx=>by rw[e]at hx;cases hx),fun _=>rfl,rfl⟩
theorem vm(l:List OE):∀o∈l,o.k.length≤szs Elem.sz (l.map OE.el)∧o.t.length≤szs Elem.sz (l.map OE.el):=by
 intro o ho;have h1:=iq Elem.sz (List.mem_map_of_mem (f:=OE.el) ho);have h2:=eJ o.n o.a o.t o.k;have h3:=bF Elem.sz Elem.sz_pos o.k;have h4:(OE.el o).sz=(Elem.mk o.n o.a o.t o.k).sz:=rfl;omega
theorem qV{l:List Tok}{k:Nat}{t:Tok}{q:List Elem×List Elem}(hy:l[k]? =some t)(hq:foldB [] [] (l.take k)=some q):foldB [] [] (l.take (k+1))=stepB q.1 q.2 t:=by
 have e:l.take (k+1)=l.take k++[t]:=by rw[M2,hy];rfl
 rw[e,ii,hq,L7];show(stepB q.1 q.2 t).bind _=_;cases stepB q.1 q.2 t<;>rfl
theorem qW{l:List Tok}{k:Nat}(h:foldB [] [] (l.take k)=none):bldF l=none:=by
 rw[← gI];have:l=l.take k++l.drop k:=(R5 k l).symm;rw[this,ii,h];rfl
theorem qX(hG:GOk G)(hC:GClo (CT G))(l:List Tok)(hs:szs Tok.sz l≤1048576)(h:Heap):Sat (CT G) 70 [.sl 4 (l.map Tok.av)] h (PBldR h l):=by
 have hll:=bF Tok.sz V0 l;refine sb [.cell 2 76,.tmp 3] Tryz.func70 ?_;intro Q hQ;refine wk trivial ?_;have g0:getRow (h++[.row 76 4 0 [.agg [.str [],.nil (.slice none 0 0),.str [],.nil (.slice none 0 0)]],.row 186 2 0 [.agg [.nil (.slice none 0 0),.nil (.slice none 0 0)]]]) (h.length+1) 0=some (186,2,[.agg [.nil (.slice none 0 0),.nil (.slice none 0 0)]]):=by
  rw[eZ _ rfl];rfl
 obtain⟨H1,hw,hfr,po,pd,hb⟩:=BH.start (C:=CT G) (n0:=h.length+1) g0 (H5 _);have keep:∀hh:Heap,FrN (h.length+1) (h++[.row 76 4 0 [.agg [.str [],.nil (.slice none 0 0),.str [],.nil (.slice none 0 0)]]]) hh→getRow hh h.length 0=some (76,4,[.agg [.str [],.nil (.slice none 0 0),.str [],.nil (.slice none 0 0)]]):=fun hh g=>by
  unfold getRow;rw[g h.length (by omega)];simp
 have hf0:FrN (h.length+1) (h++[.row 76 4 0 [.agg [.str [],.nil (.slice none 0 0),.str [],.nil (.slice none 0 0)]]]) H1∧h.length+1<H1.length:=by
  refine⟨fun p hp=>?_,by have:=hfr.2;simp at this;omega⟩;rw[hfr.1 p hp];rw[show ∀A B:Blk,h++[A,B]=(h++[A])++[B]from fun A B=>by simp,H0 (by simp;omega)]
 have base:∀H:Heap,FrN (h.length+1) (h++[.row 76 4 0 [.agg [.str [],.nil (.slice none 0 0),.str [],.nil (.slice none 0 0)]]]) H→FrN h.length h H:=fun H g p hp=>by
  rw[g p (by omega),H0 hp]
 refine lm (fun nL tL hL=>∃(k:Nat) (hh:Heap) (os:List OE) (ds:List Elem),l.length-k=nL∧hh=hL∧tL 11=.int .i64 k∧k≤l.length∧foldB [] [] (l.take k)=some (os.map OE.el,ds)∧(FrN (h.length+1) (h++[.row 76 4 0 [.agg [.str [],.nil (.slice none 0 0),.str [],.nil (.slice none 0 0)]]]) hh∧h.length+1<hh.length)∧(∃po vo room pd vd,BH hh (h.length+1) (h.length+1) po vo room os pd vd ds)) ((fun(k:Nat) (hh:Heap) (os:List OE) (ds:List Elem)=>(l.length-k:Nat)) (0) (H1) ([]) ([])) ?_ ?_
 ·refine⟨_,_,(hw _ _),⟨0,H1,[],[],rfl,ar,?_,by omega,rfl,hf0,⟨po,0,true,pd,0,hb⟩⟩⟩;all_goals try exact zZz trivial
 rintro _ s2 h' ⟨k,hh,os,ds,rfl,rfl,e11,hk,hq,hf,hb⟩ K2 hK2;simp only[ai,ak,Nat.reduceEqDiff, ↓reduceIte]at e11;have F:=e11;refine wk F ?_;obtain⟨po,vo,room,pd,vd,hb⟩:=hb;obtain⟨hf,hfl⟩:=hf;have hcell:=keep hh hf;have hsz:=jf _ _ _ _ hq;have hkd:=vm os;have hln:=hsz.2 (by simp);have htk:szs Tok.sz (l.take k)≤szs Tok.sz l:=by
  conv=>rhs;rw[← R5 k l,ck]
  omega
 have hdl:=bF Elem.sz Elem.sz_pos ds;simp only[szs,I9]at hsz hln;refine cq F (fun c2=>?_) (fun c2=>?_)<;>(try exact c2.elim)<;>(refine wk F ?_)
 ·obtain⟨y,hy,hym⟩:=ae c2;have hys:=iq Tok.sz hym;have F:=F2 F hy;try refine sq F ?_
  refine wk F ?_;refine(uW G hG hC y (by omega) (hb.app _) (by omega) (by omega) (fun o ho=>by have:=(hkd o ho).1;omega) (fun o ho=>by have:=(hkd o ho).2;omega)).mono ?_;intro r h' gp;have hs:=qV hy hq;simp only[]at hs;rw[← hs]at gp;obtain⟨⟨gf,gl⟩,gp⟩:=gp;have hf2:FrN (h.length+1) (h++[.row 76 4 0 [.agg [.str [],.nil (.slice none 0 0),.str [],.nil (.slice none 0 0)]]]) h':=hf.trans (fun p hp=>by rw[gf p hp,H0 (by omega)]);rw[H7]at gl;have hcell2:=keep h' hf2;cases hc:foldB [] [] (l.take (k+1))with
  |none=>
   rw[hc]at gp;subst gp;have F:=F2 F @hcell2;(try refine sq F ?_);refine wk F ?_;refine ye hQ (F3 F @bV (aw hcell2)) ?_;exact PBldR.bad ((base _ hf2).trans (fun p hp=>K6 (by omega))) (by simp;omega) (qW hc)
  |some q=>
   rw[hc]at gp;obtain⟨rfl,po2,vo2,room2,os2,pd2,vd2,hb2,ho2⟩:=gp;obtain⟨q1,q2⟩:=q;simp only[]at hb2 ho2;subst ho2;(try refine sq F ?_);refine wk F ?_;refine hK2 _ _ _ (G9 ⟨k+1,h',os2,q2,rfl,ar,?_,by omega,hc,⟨hf2,by omega⟩,⟨po2,vo2,room2,pd2,vd2,hb2⟩⟩) (by omega);all_goals try exact zZz F
 ·rw[H9 (by omega)]at hq;have hB:=gI l;rw[hq]at hB;have hbb:=hb.b;have hbd:=hb.d;have hbo:=hb.o;have F:=F6 F hbb hbd hbo @hcell (@Option.isSome_some (TypeId×Nat×List AVal));try refine sq F ?_
  have hfin:∀x:Elem,ds=[x]→bldF l=some x→Fin h (hh.set h.length (.row 76 4 0 [x.av])) (PBldR h l) (.tup [x.av,.int .i64 0]):=fun x e1 e2=>by
   obtain⟨j,hj⟩:=FrN.split (H:=hh.set h.length (.row 76 4 0 [x.av])) ((base _ hf).trans (fun p hp=>K6 (by omega))) (by simp;omega);rw[hj];exact H3 (.tup _ (by intro c hc;simp at hc;rcases hc with rfl|rfl;exact Elem.clo _ _;exact .int _ _)) ⟨x,by rw[e2];rfl,(fun y hy=>by rw[e2]at hy;exact Option.some.inj hy),(fun hn=>by rw[e2]at hn;cases hn),rfl⟩
  have hbad:bldF l=none→Fin h (hh.set h.length (.row 76 4 0 [.agg [.str [],.nil (.slice none 0 0),.str [],.nil (.slice none 0 0)]])) (PBldR h l) (.tup [.agg [.str [],.nil (.slice none 0 0),.str [],.nil (.slice none 0 0)],.int .i64 90]):=fun e=>PBldR.bad ((base _ hf).trans (fun p hp=>K6 (by omega))) (by simp;omega) e
  (first|refine gq F (fun g1=>?_) (fun g1=>?_)|refine pq F (fun g1=>?_) (fun g1=>?_))<;>(try exact g1.elim)<;>(try refine sq F ?_)<;>(refine wk F ?_)
  ·refine ye hQ (F3 F @bV (aw hcell)) ?_;refine hbad ?_;rw[← hB]
   match os,ds,g1 with
   | [],[],_=>rfl
   | [],[x],g1=>exact absurd rfl g1
   | [],x::y::z,_=>rfl
   |o::z,_,_=>rfl
  ·obtain⟨x,rfl⟩:∃x,ds=[x]:=List.length_eq_one_iff.1 (by omega);have hdx:([x].map Elem.av)[0]? =some x.av:=rfl;have F:=F2 F hdx;(try refine sq F ?_);refine cq F (fun g2=>?_) (fun g2=>?_)<;>(try exact g2.elim)<;>(refine wk F ?_)
   ·refine ye hQ (F3 F @bV (aw hcell)) ?_;refine hbad ?_;rw[← hB]
    match os,g2 with
    | [],g2=>simp at g2
    |o::z,_=>rfl
   ·refine ye hQ (F3 F @bV (aw hcell)) ?_;have ho:os=[]:=K5.1 (by omega);subst ho;exact hfin x rfl hB.symm
theorem qY(hG:GOk G)(hC:GClo (CT G))(s:Bs)(hs:s.length≤4194304)(h:Heap):Sat (CT G) 36 [.str s] h (PrsR h s):=by
 have hsz:szs Tok.sz (toksF s).1≤1048576:=by have:=lJ s;omega
 refine sb [.cell 2 76,.tmp 3] Tryz.func36 ?_;intro Q hQ;refine wk trivial ?_;refine(o7 G hG s (by omega) _).mono ?_;rintro r h' ⟨a,rfl,rfl⟩;try refine sq trivial ?_
 refine wk trivial ?_;by_cases c0:(toksF s).2=0
 ·have b0:((toksF s).2 !=0)=false:=by simpa using c0
  have F:=b0;try refine sq F ?_
  refine wk F ?_;refine(qX G hG hC (toksF s).1 hsz _).mono ?_;rintro r h' ⟨e,rfl,he,hz,rfl⟩;try refine sq F ?_
  refine wk F ?_;refine ye hQ F ?_;have hp:prsC s=if (bldF (toksF s).1).isSome then 0 else 90:=by unfold prsC;rw[G3 c0]
  exact H3 (.tup _ (by intro c hc;simp at hc;rcases hc with rfl|rfl;exact Elem.clo _ _;exact .int _ _)) ⟨e,by rw[hp],(fun y _ hy=>he y hy),(fun hne=>hz (by cases hb:bldF (toksF s).1 with|none=>rfl|some x=>rw[hp,hb]at hne;exact absurd rfl hne)),rfl⟩
 ·have b0:((toksF s).2 !=0)=true:=by simpa using c0
  have F:=b0;try refine sq F ?_
  refine wk F ?_;refine ye hQ F ?_;exact PrsR.bad _ _ (by unfold prsC;rw[G0 c0]) c0
def fdE(e:Elem):Fd×Int:=match ofE e with
 |some d=>(d,0)
 |none=>(Fd.z,120)
def rdD(s:Bs):Fd×Int:=if prsC s=0 then(match bldF (toksF s).1 with
 |some e=>fdE e
 |none=>(Fd.z,0))else(Fd.z,prsC s)
theorem qZ{s:Bs}(h:prsC s=0):∃y,bldF (toksF s).1=some y:=by
 unfold prsC at h;by_cases c0:(toksF s).2=0
 ·rw[G3 c0]at h;cases hb:bldF (toksF s).1 with
  |none=>rw[hb]at h;exact absurd h (by decide)
  |some y=>exact⟨y,rfl⟩
 ·rw[G0 c0]at h;exact absurd h c0
theorem pl{s:Bs}(h:prsC s≠0):rdD s=(Fd.z,prsC s):=by unfold rdD;rw[G0 h]
theorem nB{s:Bs}{e:Elem}(h:prsC s=0)(he:bldF (toksF s).1=some e):rdD s=fdE e:=by unfold rdD;rw[G3 h,he]
def RdD(h:Heap)(s:Bs)(r:AVal)(h':Heap):Prop:=r=.tup [(rdD s).1.av,.int .i64 (rdD s).2]∧h'=h
theorem wv(Z:Heap)(n:Nat)(c:Int):Frz Z n (.tup [.agg [.str [],.str [],.nil (.slice none 0 0)],.int .i64 c]) (.tup [Fd.z.av,.int .i64 c]):=
 U0 (.cons (FrzL.agg (.cons (.clo _ (.str _)) (.cons (.clo _ (.str _)) (.cons (.nils 5) .nil))) rfl) (.cons (.clo _ (.int _ _)) .nil))
theorem RdD.bad{h:Heap}{s:Bs}(j:Heap)(c:Int)(e:rdD s=(Fd.z,c)):Fin h (h++j) (RdD h s) (.tup [.agg [.str [],.str [],.nil (.slice none 0 0)],.int .i64 c]):=by
 refine P3 (wv _ _ _) ⟨?_,rfl⟩;rw[e]
theorem RdD.ok{h:Heap}{s:Bs}(j:Heap)(d:Fd)(c:Int)(e:rdD s=(d,c)):Fin h (h++j) (RdD h s) (.tup [d.av,.int .i64 c]):=by
 refine H3 (nw _ d c) ⟨?_,rfl⟩;rw[e]
theorem oB(hG:GOk G)(hC:GClo (CT G))(s:Bs)(hs:s.length≤4194304)(h:Heap):Sat (CT G) 9 [.str s] h (RdD h s):=by
 have hsz:=lJ s;have F:= @al;refine sb [.cell 2 25,.tmp 3] Tryz.func9 ?_;intro Q hQ;refine wk F ?_;refine(qY G hG hC s (by omega) _).mono ?_;rintro r h' ⟨e,rfl,he,hez,rfl⟩;try refine sq F ?_
 refine wk F ?_;by_cases c0:prsC s=0
 ·obtain⟨y,hb⟩:=qZ c0;have hey:=he y c0 hb;subst hey;have hes:=pc hb;have hr:=nB c0 hb;have hO:=nA G hG e (by omega);have b0:(prsC s !=0)=false:=by simpa using c0
  obtain⟨e1,e2,e3,e4⟩:=e;unfold fdE at hr;cases ho:ofE ⟨e1,e2,e3,e4⟩with
  |some d=>
   rw[ho]at hr hO;obtain⟨t,k,es⟩:=d;have hO:∀h,Sat (CT G) 33 [(Elem.mk e1 e2 e3 e4).av] h (fun r h'=>r=.tup [.agg [.str t,.str k,.sl 5 (es.map En.av)],.int .i64 0]∧h'=h):=hO;have F:=F2 F b0;(try refine sq F ?_);refine wk F ?_;refine kq F (hO _) ?_;refine ye hQ F ?_;exact RdD.ok _ ⟨t,k,es⟩ _ hr
  |none=>
   rw[ho]at hr hO;have hO:∀h,Sat (CT G) 33 [(Elem.mk e1 e2 e3 e4).av] h (fun r h'=>r=.tup [.agg [.str [],.str [],.sl 5 []],.int .i64 120]∧h'=h):=hO;have F:=F2 F b0;(try refine sq F ?_);refine wk F ?_;refine kq F (hO _) ?_;refine ye hQ F ?_;exact RdD.ok _ Fd.z _ hr
 ·have b0:(prsC s !=0)=true:=by simpa using c0
  have F:=F2 F b0;try refine sq F ?_
  refine wk F ?_;refine ye hQ F ?_;exact RdD.bad _ _ (pl c0)
theorem nC(e:Elem)(n:Bs):(kidF e n).1.sz≤e.sz:=by
 have hp:=e.sz_pos;unfold kidF;split
 ·exact hp
 ·rename_i k l hk;have:=Elem.kid_sz (List.mem_filter.1 (show k∈kidsF e n by rw[hk];simp)).1;simp only[];omega
theorem vn{e k:Elem}{n:Bs}(h:k∈kidsF e n):k.sz≤e.sz:=by
 have:=Elem.kid_sz (List.mem_filter.1 h).1;omega
theorem vp(e:Elem)(n:Bs):(attrF e.attrs n).1.length≤e.sz:=by
 have key:∀l:List At,(attrF l n).1.length≤szs At.sz l:=fun l=>by
  induction l with
  |nil=>simp[attrF]
  |cons a l ih=>
   have h2:At.sz a=1+a.1.length+a.2.length:=rfl;rw[attrF,szs];split
   ·simp only[];omega
   ·omega
 have:=key e.attrs;have:=e.sz_eq;omega
theorem vr(e:Elem):e.text.length≤e.sz:=by have:=e.sz_eq;omega
theorem vt(e:Elem)(hs:e.sz≤100000)(h:Heap):Sat (CT G) 38 [e.av] h (fun r h'=>r=oFd (ofE e)∧h'=h):=by
 have tx:∀(x:Elem),x.sz≤100000→∀n,(kidF x n).1.text.length≤100000:=fun x hx n=>by
  have:=vr (kidF x n).1;have:=nC x n;omega
 have hc:=nC e bChan;have kd:∀(x:Elem),x.sz≤100000→∀n,∀k∈kidsF x n,k.sz≤100000:=fun x hx n k hk=>by have:=vn hk;omega
 have hr:∀(x:Elem),x.sz≤100000→∀k∈kidsF x bLink,(attrF k.attrs bHref).1.length≤100000:=fun x hx k hk=>by
  have:=vp k bHref;have:=kd x hx _ k hk;omega
 exact th G e
  (fun h=>tj G (zW G) e (by omega) (fun n=>tx _ (by omega) n) (fun x hx n=>tx _ (kd _ (by omega) _ x hx) n) h)
  (fun h=>qT G (zV G) e (by omega) (fun n=>tx _ hs n) (fun k hk=>hr _ hs k hk) (fun x hx n=>tx _ (kd _ hs _ x hx) n) (fun x hx k hk=>hr _ (kd _ hs _ x hx) k hk) h) h
theorem oC(hG:GOk G)(hC:GClo (CT G))(s:Bs)(hs:s.length≤9000)(h:Heap):Sat (CT G) 10 [.str s] h (RdD h s):=by
 have hsz:=jh s;have F:= @al;refine sb [.cell 2 25,.tmp 3] Tryz.func10 ?_;intro Q hQ;refine wk F ?_;refine(qM hG hC s (by omega) _).mono ?_;rintro r h' ⟨e,rfl,he,hez,rfl⟩;try refine sq F ?_
 refine wk F ?_;by_cases c0:prsC s=0
 ·obtain⟨y,hb⟩:=qZ c0;have hey:=he y c0 hb;subst hey;have hes:=pc hb;have hr:=nB c0 hb;have hO:=vt G e (by omega);have b0:(prsC s !=0)=false:=by simpa using c0
  obtain⟨e1,e2,e3,e4⟩:=e;unfold fdE at hr;cases ho:ofE ⟨e1,e2,e3,e4⟩with
  |some d=>
   rw[ho]at hr hO;obtain⟨t,k,es⟩:=d;have hO:∀h,Sat (CT G) 38 [(Elem.mk e1 e2 e3 e4).av] h (fun r h'=>r=.tup [.agg [.str t,.str k,.sl 5 (es.map En.av)],.bool true]∧h'=h):=hO;have F:=F2 F b0;(try refine sq F ?_);refine wk F ?_;refine kq F (hO _) ?_;refine ye hQ F ?_;exact RdD.ok _ ⟨t,k,es⟩ _ hr
  |none=>
   rw[ho]at hr hO;have hO:∀h,Sat (CT G) 38 [(Elem.mk e1 e2 e3 e4).av] h (fun r h'=>r=.tup [.agg [.str [],.str [],.sl 5 []],.bool false]∧h'=h):=hO;have F:=F2 F b0;(try refine sq F ?_);refine wk F ?_;refine kq F (hO _) ?_;refine ye hQ F ?_;exact RdD.bad _ _ hr
 ·have b0:(prsC s !=0)=true:=by simpa using c0
  have F:=F2 F b0;try refine sq F ?_
  refine wk F ?_;refine ye hQ F ?_;exact RdD.bad _ _ (pl c0)
end
end Go.Av
