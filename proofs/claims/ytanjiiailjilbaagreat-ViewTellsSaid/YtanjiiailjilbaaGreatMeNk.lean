/- The document's answer for the state: what is there; how deep. -/
import Derived.Test.YtanjiiailjilbaaGreatMeQd
set_option linter.unusedSimpArgs false
set_option linter.unusedVariables false
set_option linter.unusedSectionVars false
set_option linter.unnecessarySimpa false
set_option maxRecDepth 100000
set_option maxHeartbeats 4000000
namespace Go.Av
open Go Go.Proofs Go.RowKit
attribute [local irreducible] WP WPl WPix Sat
@[go_sem] theorem C7(h:Heap)(k a b n k' a' b' n':Int)(s t u s' t' u':Bs):abin Tryz.prog h .eql 45 (.agg [.int .i64 k,.int .i64 a,.int .i64 b,.int .i64 n,.str s,.str t,.str u]) (.agg [.int .i64 k',.int .i64 a',.int .i64 b',.int .i64 n',.str s',.str t',.str u'])=
  some (.bool (decide (Ev.mk k a b n s t u=Ev.mk k' a' b' n' s' t' u'))):=by
 simp only[abin,go_sem,aeqL,aeq1, ↓reduceIte,Option.map_some,Option.some.injEq,AVal.bool.injEq,Ev.mk.injEq]
 rw[Bool.eq_iff_iff]
 simp
variable (G:Nat→Option (List AVal))
section
theorem R5(t:Bs)(ht:t.length≤1000)(h:Heap):Sat (CT G) 256 [.str t] h (fun r h'=>r=.bool (rightS t)∧h'=h):=jA G t (by omega) h
theorem C5(t:Bs)(ht:t.length≤1000)(h:Heap):Sat (CT G) 257 [.str t] h (fun r h'=>r=.str (cleanF t)∧h'=h):=jB G t (by omega) h
theorem xd(t:Bs)(h:Heap):Sat (CT G) 175 [.str t] h (fun r h'=>r=.bool (L0.label t)∧h'=h):=iz G rightS cleanF (R5 G) (C5 G) t h
theorem ut(t:Bs)(h:Heap):Sat (CT G) 177 [.str t] h (fun r h'=>r=.bool (L0.title t)∧h'=h):=nO G rightS cleanF (R5 G) (C5 G) t h
theorem uu(t:Bs)(h:Heap):Sat (CT G) 176 [.str t] h (fun r h'=>r=.bool (L0.link t)∧h'=h):=pO G rightS cleanF (R5 G) (C5 G) t h
theorem E9(t:Bs)(h:Heap):Sat (CT G) 178 [.str t] h (fun r h'=>r=.bool (L0.query t)∧h'=h):=nP G rightS cleanF (R5 G) (C5 G) t h
theorem xe(hc:GClo (CT G))(n:Int)(h:Heap):Sat (CT G) 165 [.int .i64 n] h (fun r h'=>r=.bool (L0.moment n)∧h'=h):=uq G hc n h
end
theorem GZ(a b c d e:Bool):a=false∨(a=true∧b=false)∨(a=true∧b=true∧c=false)∨(a=true∧b=true∧c=true∧d=false)∨(a=true∧b=true∧c=true∧d=true∧e=false)∨(a=true∧b=true∧c=true∧d=true∧e=true):=by cases a<;>cases b<;>cases c<;>cases d<;>cases e<;>simp
theorem two(x:Bool):x=true∨x=false:=by cases x<;>simp
theorem HC(x y:Bool):x=true∨(x=false∧y=true)∨(x=false∧y=false):=by cases x<;>cases y<;>simp
theorem mP(a:Bool):a=false∨a=true:=by cases a<;>simp
theorem uN(a b:Bool):a=false∨(a=true∧b=false)∨(a=true∧b=true):=by cases a<;>cases b<;>simp
theorem rQ(a b c:Bool):a=false∨(a=true∧b=false)∨(a=true∧b=true∧c=false)∨(a=true∧b=true∧c=true):=by cases a<;>cases b<;>cases c<;>simp
theorem H1(a b c d:Bool):a=false∨(a=true∧b=false)∨(a=true∧b=true∧c=false)∨(a=true∧b=true∧c=true∧d=false)∨(a=true∧b=true∧c=true∧d=true):=by cases a<;>cases b<;>cases c<;>cases d<;>simp
theorem H2(a b c d e f g:Bool):a=false∨(a=true∧b=false)∨(a=true∧b=true∧c=false)∨(a=true∧b=true∧c=true∧d=false)∨(a=true∧b=true∧c=true∧d=true∧e=false)∨(a=true∧b=true∧c=true∧d=true∧e=true∧f=false)∨
  (a=true∧b=true∧c=true∧d=true∧e=true∧f=true∧g=false)∨(a=true∧b=true∧c=true∧d=true∧e=true∧f=true∧g=true):=by cases a<;>cases b<;>cases c<;>cases d<;>cases e<;>cases f<;>cases g<;>simp
theorem q9(hc:GClo (CT G))(e:Ev)(h:Heap):Sat (CT G) 126 [e.av] h (fun r h'=>r=.bool (L0.ck e)∧h'=h):=by
 obtain⟨k,a,b,n,s,t,u⟩:=e
 refine sb [.tmp 2] (fn:=Tryz.f126) Tryz.func126 ?_
 intro Q hQ
 (repeat (first|refine w1 (fun K hK=>?_)|refine w2 ?_|refine w3 ?_| ((first|refine w4 ?_|refine wD ?_|refine w5 ?_|refine w6 ?_|refine w7 ?_);try refine sq trivial ?_)| (refine w8 ?_;refine sq trivial ?_;refine w9 ?_)))
 refine hK _ _ (Wkn.refl ?_)
 clear hK K
 (repeat (first|refine w1 (fun K hK=>?_)|refine w2 ?_|refine w3 ?_| ((first|refine w4 ?_|refine wD ?_|refine w5 ?_|refine w6 ?_|refine w7 ?_);try refine sq trivial ?_)| (refine w8 ?_;refine sq trivial ?_;refine w9 ?_)))
 refine hK _ _ (Wkn.refl ?_)
 clear hK K
 (repeat (first|refine w1 (fun K hK=>?_)|refine w2 ?_|refine w3 ?_| ((first|refine w4 ?_|refine wD ?_|refine w5 ?_|refine w6 ?_|refine w7 ?_);try refine sq trivial ?_)| (refine w8 ?_;refine sq trivial ?_;refine w9 ?_)))
 refine(kp G a _).mono ?_
 rintro r h' ⟨rfl,rfl⟩
 try refine sq trivial ?_
 (repeat (first|refine w1 (fun K hK=>?_)|refine w2 ?_|refine w3 ?_| ((first|refine w4 ?_|refine wD ?_|refine w5 ?_|refine w6 ?_|refine w7 ?_);try refine sq trivial ?_)| (refine w8 ?_;refine sq trivial ?_;refine w9 ?_)| ((first|refine hK _ _ (w0 ?_)| (clear hK K;refine hK _ _ (w0 ?_))| (clear hK K;clear hK K;refine hK _ _ (w0 ?_)));clear hK K)))
 generalize hH:h++[.row 45 7 0 [.agg [.int .i64 k,.int .i64 a,.int .i64 b,.int .i64 n,.str s,.str t,.str u]],.row 45 7 0 [.agg [.int .i64 k,.int .i64 a,.int .i64 0,.int .i64 0,.str [],.str [],.str []]]]=H
 have key:∀(T:Env) (x:Bool),T 1=.hp h.length 0 0 0→T 3=.hp (h.length+1) 0 0 0→T 4=.bool (idF a)→T 5=.bool x→x=(n==0||n==1)→K T H:=by
  subst hH
  intro T x e1 e3 e4 e5 hx
  subst hx
  have F:=F4 e1 e3 e4 e5
  refine hK _ _ (Wkn.refl ?_)
  clear hK K
  (repeat (first|refine w1 (fun K hK=>?_)|refine w2 ?_|refine w3 ?_| ((first|refine w4 ?_|refine wD ?_|refine w5 ?_|refine w6 ?_|refine w7 ?_);try refine sq F ?_)| (refine w8 ?_;refine sq F ?_;refine w9 ?_)))
  generalize hH:h++[.row 45 7 0 [.agg [.int .i64 k,.int .i64 a,.int .i64 b,.int .i64 n,.str s,.str t,.str u]],.row 45 7 0 [.agg [.int .i64 k,.int .i64 a,.int .i64 0,.int .i64 0,.str [],.str [],.str []]]]=H
  have key:∀(T:Env) (x:Bool),T 1=.hp h.length 0 0 0→T 3=.hp (h.length+1) 0 0 0→T 4=.bool (idF a)→T 5=.bool (n==0||n==1)→T 6=.bool x→x=(b==0||idF b)→K T H:=by
   subst hH
   intro T x e1 e3 e4 e5 e6 hx
   subst hx
   by_cases k1:k=1
   ·subst k1
    have ht:=rQ (idF a) (b==0||idF b) (L0.label s)
    rcases ht with ht|ht|ht|ht
    all_goals (
     have F:=F7 F e1 e3 e4 e5 e6 ht
     refine hK _ _ (Wkn.refl ?_)
     clear hK K
     refine wn F ?_
     skip
     refine aw 6 [5] [true,true,true,true,true,false] (.one 5 [false,false,true,true] .fin) (by decide+kernel) (by kernel_rfl) (by decide+kernel) ?_
     simp only[aB,aC,az]
     try refine sq F ?_
     repeat' (first| (refine ah ?_;try refine sq F ?_)| (refine ai ?_;try refine sq F ?_)| (refine aj ?_ ?_<;>try refine sq F ?_))
     all_goals try (repeat (first|refine w1 (fun K hK=>?_)|refine w2 ?_|refine w3 ?_| ((first|refine w4 ?_|refine w5 ?_|refine w6 ?_|refine w7 ?_);try refine sq F ?_)| (refine w8 ?_;refine sq F ?_;refine w9 ?_)| ((first|refine hK _ _ (w0 ?_)| (clear hK K;refine hK _ _ (w0 ?_))| (clear hK K;clear hK K;refine hK _ _ (w0 ?_)));clear hK K)))
     skip
     try refine wk F ?_
     repeat (first|refine kq F (xd G s _) ?_)
     refine ee hQ F ?_
     refine Fin.plain (.bool _) ⟨?_,rfl⟩
     simp[Leaf.ck,Leaf.right,Leaf.place,usedE,ht])
   by_cases k2:k=2
   ·subst k2
    have ht:=mP (idF a)
    rcases ht with ht|ht
    all_goals (
     have F:=F7 F e1 e3 e4 e5 e6 ht
     refine hK _ _ (Wkn.refl ?_)
     clear hK K
     refine wk F ?_
     refine ee hQ F ?_
     refine Fin.plain (.bool _) ⟨?_,rfl⟩
     simp[Leaf.ck,Leaf.right,Leaf.place,usedE,ht])
   by_cases k3:k=3
   ·subst k3
    have ht:=GZ (idF a) (b==0||idF b) (!(s==[])) (L0.link s) (L0.title t)
    rcases ht with ht|ht|ht|ht|ht|ht
    all_goals (
     have F:=F7 F e1 e3 e4 e5 e6 ht
     refine hK _ _ (Wkn.refl ?_)
     clear hK K
     refine wn F ?_
     skip
     refine aw 10 [7,9] [true,true,true,true,true,true,true,false,true,false] (.one 7 [false,false,true,true,true,true,false,false,true] (.one 9 [false,false,false,false,true,true] .fin)) (by decide+kernel) (by kernel_rfl) (by decide+kernel) ?_
     simp only[aB,aC,az]
     try refine sq F ?_
     repeat' (first| (refine ah ?_;try refine sq F ?_)| (refine ai ?_;try refine sq F ?_)| (refine aj ?_ ?_<;>try refine sq F ?_))
     all_goals try (repeat (first|refine w1 (fun K hK=>?_)|refine w2 ?_|refine w3 ?_| ((first|refine w4 ?_|refine w5 ?_|refine w6 ?_|refine w7 ?_);try refine sq F ?_)| (refine w8 ?_;refine sq F ?_;refine w9 ?_)| ((first|refine hK _ _ (w0 ?_)| (clear hK K;refine hK _ _ (w0 ?_))| (clear hK K;clear hK K;refine hK _ _ (w0 ?_)));clear hK K)))
     skip
     try refine wk F ?_
     repeat (first|refine kq F (uu G s _) ?_|refine kq F (ut G t _) ?_)
     refine ee hQ F ?_
     refine Fin.plain (.bool _) ⟨?_,rfl⟩
     first| (simp[Leaf.ck,Leaf.right,Leaf.place,usedE,ht];done)| (simp at ht;simp[Leaf.ck,Leaf.right,Leaf.place,usedE,ht]))
   by_cases k4:k=4
   ·subst k4
    have ht:=mP (idF a)
    rcases ht with ht|ht
    all_goals (
     have F:=F7 F e1 e3 e4 e5 e6 ht
     refine hK _ _ (Wkn.refl ?_)
     clear hK K
     refine wk F ?_
     refine ee hQ F ?_
     refine Fin.plain (.bool _) ⟨?_,rfl⟩
     simp[Leaf.ck,Leaf.right,Leaf.place,usedE,ht])
   by_cases k5:k=5
   ·subst k5
    have ht:=uN (idF a) (L0.title t)
    rcases ht with ht|ht|ht
    all_goals (
     have F:=F7 F e1 e3 e4 e5 e6 ht
     refine hK _ _ (Wkn.refl ?_)
     clear hK K
     refine wk F ?_
     repeat (first|refine kq F (ut G t _) ?_)
     refine ee hQ F ?_
     refine Fin.plain (.bool _) ⟨?_,rfl⟩
     simp[Leaf.ck,Leaf.right,Leaf.place,usedE,ht])
   by_cases k6:k=6
   ·subst k6
    have ht:=uN (idF a) (b==0||idF b)
    rcases ht with ht|ht|ht
    all_goals (
     have F:=F7 F e1 e3 e4 e5 e6 ht
     refine hK _ _ (Wkn.refl ?_)
     clear hK K
     refine wk F ?_
     refine ee hQ F ?_
     refine Fin.plain (.bool _) ⟨?_,rfl⟩
     simp[Leaf.ck,Leaf.right,Leaf.place,usedE,ht])
   by_cases k7:k=7
   ·subst k7
    have ht:=H2 (idF a) (idF b) (L0.moment n) (!(s==[])) (L0.link s) (L0.title t) (L0.link u)
    rcases ht with ht|ht|ht|ht|ht|ht|ht|ht
    all_goals (
     have F:=F7 F e1 e3 e4 e5 e6 ht
     refine hK _ _ (Wkn.refl ?_)
     clear hK K
     refine wk F ?_
     repeat (first|refine kq F (kp G b _) ?_|refine kq F (xe G hc n _) ?_|refine kq F (uu G s _) ?_|refine kq F (ut G t _) ?_|refine kq F (uu G u _) ?_)
     refine ee hQ F ?_
     refine Fin.plain (.bool _) ⟨?_,rfl⟩
     first| (simp[Leaf.ck,Leaf.right,Leaf.place,usedE,ht];done)| (simp at ht;simp[Leaf.ck,Leaf.right,Leaf.place,usedE,ht]))
   by_cases k8:k=8
   ·subst k8
    have ht:=uN (idF a) (n==0||n==1)
    rcases ht with ht|ht|ht
    all_goals (
     have F:=F7 F e1 e3 e4 e5 e6 ht
     refine hK _ _ (Wkn.refl ?_)
     clear hK K
     refine wk F ?_
     refine ee hQ F ?_
     refine Fin.plain (.bool _) ⟨?_,rfl⟩
     simp[Leaf.ck,Leaf.right,Leaf.place,usedE,ht])
   by_cases k9:k=9
   ·subst k9
    have ht:=uN (idF a) (n==0||n==1)
    rcases ht with ht|ht|ht
    all_goals (
     have F:=F7 F e1 e3 e4 e5 e6 ht
     refine hK _ _ (Wkn.refl ?_)
     clear hK K
     refine wk F ?_
     refine ee hQ F ?_
     refine Fin.plain (.bool _) ⟨?_,rfl⟩
     simp[Leaf.ck,Leaf.right,Leaf.place,usedE,ht])
   by_cases k10:k=10
   ·subst k10
    have ht:=rQ (idF a) (n==0||n==1) (L0.tag s)
    rcases ht with ht|ht|ht|ht
    all_goals (
     have F:=F7 F e1 e3 e4 e5 e6 ht
     refine hK _ _ (Wkn.refl ?_)
     clear hK K
     refine wn F ?_
     skip
     refine aw 6 [5] [true,true,true,true,true,false] (.one 5 [false,false,true,true] .fin) (by decide+kernel) (by kernel_rfl) (by decide+kernel) ?_
     simp only[aB,aC,az]
     try refine sq F ?_
     repeat' (first| (refine ah ?_;try refine sq F ?_)| (refine ai ?_;try refine sq F ?_)| (refine aj ?_ ?_<;>try refine sq F ?_))
     all_goals try (repeat (first|refine w1 (fun K hK=>?_)|refine w2 ?_|refine w3 ?_| ((first|refine w4 ?_|refine w5 ?_|refine w6 ?_|refine w7 ?_);try refine sq F ?_)| (refine w8 ?_;refine sq F ?_;refine w9 ?_)| ((first|refine hK _ _ (w0 ?_)| (clear hK K;refine hK _ _ (w0 ?_))| (clear hK K;clear hK K;refine hK _ _ (w0 ?_)));clear hK K)))
     skip
     try refine wk F ?_
     repeat (first|refine kq F (ur G s _) ?_)
     refine ee hQ F ?_
     refine Fin.plain (.bool _) ⟨?_,rfl⟩
     simp[Leaf.ck,Leaf.right,Leaf.place,usedE,ht])
   by_cases k11:k=11
   ·subst k11
    have ht:=rQ (idF a) (L0.label s) (L0.query t)
    rcases ht with ht|ht|ht|ht
    all_goals (
     have F:=F7 F e1 e3 e4 e5 e6 ht
     refine hK _ _ (Wkn.refl ?_)
     clear hK K
     refine wn F ?_
     skip
     refine aw 6 [5] [true,true,true,true,true,false] (.one 5 [false,false,true,true] .fin) (by decide+kernel) (by kernel_rfl) (by decide+kernel) ?_
     simp only[aB,aC,az]
     try refine sq F ?_
     repeat' (first| (refine ah ?_;try refine sq F ?_)| (refine ai ?_;try refine sq F ?_)| (refine aj ?_ ?_<;>try refine sq F ?_))
     all_goals try (repeat (first|refine w1 (fun K hK=>?_)|refine w2 ?_|refine w3 ?_| ((first|refine w4 ?_|refine w5 ?_|refine w6 ?_|refine w7 ?_);try refine sq F ?_)| (refine w8 ?_;refine sq F ?_;refine w9 ?_)| ((first|refine hK _ _ (w0 ?_)| (clear hK K;refine hK _ _ (w0 ?_))| (clear hK K;clear hK K;refine hK _ _ (w0 ?_)));clear hK K)))
     skip
     try refine wk F ?_
     repeat (first|refine kq F (xd G s _) ?_|refine kq F (E9 G t _) ?_)
     refine ee hQ F ?_
     refine Fin.plain (.bool _) ⟨?_,rfl⟩
     simp[Leaf.ck,Leaf.right,Leaf.place,usedE,ht])
   by_cases k12:k=12
   ·subst k12
    have ht:=mP (idF a)
    rcases ht with ht|ht
    all_goals (
     have F:=F7 F e1 e3 e4 e5 e6 ht
     refine hK _ _ (Wkn.refl ?_)
     clear hK K
     refine wk F ?_
     refine ee hQ F ?_
     refine Fin.plain (.bool _) ⟨?_,rfl⟩
     simp[Leaf.ck,Leaf.right,Leaf.place,usedE,ht])
   by_cases k13:k=13
   ·subst k13
    have ht:=mP (L0.moment n)
    rcases ht with ht|ht
    all_goals (
     have F:=F7 F e1 e3 e4 e5 e6 ht
     refine hK _ _ (Wkn.refl ?_)
     clear hK K
     refine wn F ?_
     skip
     refine aw 4 [3] [true,true,true,false] (.one 3 [true,true] .fin) (by decide+kernel) (by kernel_rfl) (by decide+kernel) ?_
     simp only[aB,aC,az]
     try refine sq F ?_
     repeat' (first| (refine ah ?_;try refine sq F ?_)| (refine ai ?_;try refine sq F ?_)| (refine aj ?_ ?_<;>try refine sq F ?_))
     all_goals try (repeat (first|refine w1 (fun K hK=>?_)|refine w2 ?_|refine w3 ?_| ((first|refine w4 ?_|refine w5 ?_|refine w6 ?_|refine w7 ?_);try refine sq F ?_)| (refine w8 ?_;refine sq F ?_;refine w9 ?_)| ((first|refine hK _ _ (w0 ?_)| (clear hK K;refine hK _ _ (w0 ?_))| (clear hK K;clear hK K;refine hK _ _ (w0 ?_)));clear hK K)))
     skip
     try refine wk F ?_
     repeat (first|refine kq F (xe G hc n _) ?_)
     refine ee hQ F ?_
     refine Fin.plain (.bool _) ⟨?_,rfl⟩
     simp[Leaf.ck,Leaf.right,Leaf.place,usedE,ht])
   have n1:(k==1)=false:=by simp[k1]
   have n2:(k==2)=false:=by simp[k2]
   have n3:(k==3)=false:=by simp[k3]
   have n4:(k==4)=false:=by simp[k4]
   have n5:(k==5)=false:=by simp[k5]
   have n6:(k==6)=false:=by simp[k6]
   have n7:(k==7)=false:=by simp[k7]
   have n8:(k==8)=false:=by simp[k8]
   have n9:(k==9)=false:=by simp[k9]
   have n10:(k==10)=false:=by simp[k10]
   have n11:(k==11)=false:=by simp[k11]
   have n12:(k==12)=false:=by simp[k12]
   have n13:(k==13)=false:=by simp[k13]
   have F:=F2 (F9 F e1 e3 e4 e5 e6 n1 n2 n3) (jg n4 n5 n6 n7 n8 n9 n10 n11 n12 n13)
   refine hK _ _ (Wkn.refl ?_)
   clear hK K
   refine wk F ?_
   refine ee hQ F ?_
   refine Fin.plain (.bool _) ⟨?_,rfl⟩
   simp[Leaf.ck,Leaf.right,k1,k2,k3,k4,k5,k6,k7,k8,k9,k10,k11,k12,k13]
  subst hH
  (first|refine gq F (fun g=>?_) (fun g=>?_)|refine pq F (fun g=>?_) (fun g=>?_))<;>(try exact g.elim)<;>(try refine sq F ?_)<;>((repeat (first|refine w1 (fun K hK=>?_)|refine w2 ?_|refine w3 ?_| ((first|refine w4 ?_|refine wD ?_|refine w5 ?_|refine w6 ?_|refine w7 ?_);try refine sq F ?_)| (refine w8 ?_;refine sq F ?_;refine w9 ?_)| ((first|refine hK _ _ (w0 ?_)| (clear hK K;refine hK _ _ (w0 ?_))| (clear hK K;clear hK K;refine hK _ _ (w0 ?_)));clear hK K))))
  ·exact key _ true (by exact zq F) (by exact zq F) (by exact zq F) (by exact zq F) rfl (by simp[g])
  ·refine(kp G b _).mono ?_
   rintro r h' ⟨rfl,rfl⟩
   try refine sq F ?_
   (repeat (first|refine w1 (fun K hK=>?_)|refine w2 ?_|refine w3 ?_| ((first|refine w4 ?_|refine wD ?_|refine w5 ?_|refine w6 ?_|refine w7 ?_);try refine sq F ?_)| (refine w8 ?_;refine sq F ?_;refine w9 ?_)| ((first|refine hK _ _ (w0 ?_)| (clear hK K;refine hK _ _ (w0 ?_))| (clear hK K;clear hK K;refine hK _ _ (w0 ?_)));clear hK K)))
   exact key _ (idF b) (by exact zq F) (by exact zq F) (by exact zq F) (by exact zq F) rfl (by simp[g])
 subst hH
 (first|refine gq trivial (fun g=>?_) (fun g=>?_)|refine pq trivial (fun g=>?_) (fun g=>?_))<;>(try exact g.elim)<;>(try refine sq trivial ?_)<;>((repeat (first|refine w1 (fun K hK=>?_)|refine w2 ?_|refine w3 ?_| ((first|refine w4 ?_|refine wD ?_|refine w5 ?_|refine w6 ?_|refine w7 ?_);try refine sq trivial ?_)| (refine w8 ?_;refine sq trivial ?_;refine w9 ?_)| ((first|refine hK _ _ (w0 ?_)| (clear hK K;refine hK _ _ (w0 ?_))| (clear hK K;clear hK K;refine hK _ _ (w0 ?_)));clear hK K))))
 ·exact key _ true (by exact zq trivial) (by exact zq trivial) (by exact zq trivial) rfl (by simp[g])
 ·exact key _ (n==1) (by exact zq trivial) (by exact zq trivial) (by exact zq trivial) rfl (by simp[g])
end Go.Av
namespace Go.Av
open Go Go.Proofs Go.RowKit
attribute [local irreducible] WP WPl WPix Sat
variable (G:Nat→Option (List AVal))
section
variable {α:Type}
theorem oF{p:α→Bool}{l:List α}{k:Nat}{a:α}(h:l[k]? =some a)(ha:p a=true)(hf:∀b∈l.take k,p b=false):l.find? p=some a:=by
 induction l generalizing k with
 |nil=>simp at h
 |cons b l ih=>
  cases k with
  |zero=>simp at h;subst h;rw[List.find?_cons,ha]
  |succ k=>
   rw[List.find?_cons,hf b (by simp)]
   exact ih (by simpa using h) fun c hc=>hf c (by simp[hc])
theorem oG{p:α→Bool}{l:List α}(hf:∀b∈l,p b=false):l.find? p=none:=List.find?_eq_none.2 fun b hb=>by rw[hf b hb];simp
theorem mQ{p:α→Bool}{l:List α}{k:Nat}{a:α}(h:l[k]? =some a)(ha:p a=true):l.any p=true:=List.any_eq_true.2 ⟨a,List.mem_of_getElem? h,ha⟩
theorem mR{p:α→Bool}{l:List α}(hf:∀b∈l,p b=false):l.any p=false:=by rw[List.any_eq_false];intro b hb;rw[hf b hb];simp
theorem dh{p:α→Bool}{l:List α}{k:Nat}{a:α}(h:l[k]? =some a)(ha:p a=false)(hf:∀b∈l.take k,p b=false):∀b∈l.take (k+1),p b=false:=by
 rw[List.take_add_one,h]
 intro b hb
 simp at hb
 rcases hb with hb|rfl
 ·exact hf b hb
 ·exact ha
end
def St.plc(x:St)(u:Bs):Int:=((x.fe.find? fun f=>decide (f.url=u)).map (·.id)).getD 0
theorem qa(x:St)(u:Bs)(hl:x.fe.length≤100000)(h:Heap):Sat (CT G) 131 [x.av,.str u] h (fun r h'=>r=.int .i64 (x.plc u)∧h'=h):=by
 have hel:(x.fe.map Fe.av).length=x.fe.length:=List.length_map ..
 have F:=hel
 refine sb [.tmp 4] (fn:=Tryz.f131) Tryz.func131 ?_
 intro Q hQ
 refine wk F ?_
 refine lm (fun nL tL hL=>∃(k:Nat),x.fe.length-k=nL∧h++[.row 34 9 0 [x.av]]=hL∧tL 1=.str u∧tL 2=.hp h.length 0 0 0∧tL 5=.int .i64 k∧k≤x.fe.length∧(∀f∈x.fe.take k,decide (f.url=u)=false)) ((fun(k:Nat)=>(x.fe.length-k:Nat)) (0)) ?_ ?_
 ·refine Wkn.refl ⟨0,rfl,ay,?_,?_,?_,by omega,by simp⟩
  all_goals first|exact zq F|rfl|omega|trivial|skip
 rintro _ s2 h' ⟨k,rfl,rfl,e1,e2,e5,hk,hp⟩ K2 hK2
 simp only[ak,ao,Nat.reduceEqDiff, ↓reduceIte]at e1 e2 e5
 have F:=F4 F e1 e2 e5
 refine wk F ?_
 refine cq F (fun c1=>?_) (fun c1=>?_)<;>(try exact c1.elim)<;>(refine wk F ?_)
 ·have c2:k<x.fe.length:=by omega
  obtain⟨f,hf,hfm⟩:=ac c2
  have F:=F3 F c2 hf
  try refine sq F ?_
  refine wk F ?_
  refine cq F (fun c3=>?_) (fun c3=>?_)<;>(try exact c3.elim)<;>(refine wk F ?_)
  ·refine ee hQ F ?_
   exact Fin.plain (.int _ _) ⟨by rw[St.plc,oF hf (decide_eq_true c3) hp];rfl,rfl⟩
  ·refine hK2 _ _ _ (Wkn.refl ⟨k+1,rfl,ay,?_,?_,?_,by omega,dh hf (decide_eq_false c3) hp⟩) (by omega)
   all_goals first|exact zq F|rfl|omega|trivial|skip
 ·rw[List.take_of_length_le (by omega)]at hp
  refine ee hQ F ?_
  exact Fin.plain (.int _ _) ⟨by rw[St.plc,oG hp];rfl,rfl⟩
def St.gid(x:St)(feed:Int)(g:Bs):Int:=((x.it.find? fun t=>decide (t.feed=feed∧t.guid=g)).map (·.id)).getD 0
theorem rR(x:St)(feed:Int)(g:Bs)(hl:x.it.length≤100000)(h:Heap):Sat (CT G) 132 [x.av,.int .i64 feed,.str g] h (fun r h'=>r=.int .i64 (x.gid feed g)∧h'=h):=by
 have hel:(x.it.map It.av).length=x.it.length:=List.length_map ..
 have F:=hel
 refine sb [.tmp 6] (fn:=Tryz.f132) Tryz.func132 ?_
 intro Q hQ
 refine wk F ?_
 refine lm (fun nL tL hL=>∃(k:Nat),x.it.length-k=nL∧h++[.row 34 9 0 [x.av]]=hL∧tL 1=.int .i64 feed∧tL 2=.str g∧tL 3=.hp h.length 0 0 0∧tL 7=.int .i64 k∧k≤x.it.length∧(∀f∈x.it.take k,decide (f.feed=feed∧f.guid=g)=false)) ((fun(k:Nat)=>(x.it.length-k:Nat)) (0)) ?_ ?_
 ·refine Wkn.refl ⟨0,rfl,ay,?_,?_,?_,?_,by omega,by simp⟩
  all_goals first|exact zq F|rfl|omega|trivial|skip
 rintro _ s2 h' ⟨k,rfl,rfl,e1,e2,e3,e7,hk,hp⟩ K2 hK2
 simp only[ak,ao,Nat.reduceEqDiff, ↓reduceIte]at e1 e2 e3 e7
 have F:=F5 F e1 e2 e3 e7
 refine wk F ?_
 refine cq F (fun c1=>?_) (fun c1=>?_)<;>(try exact c1.elim)<;>(refine wk F ?_)
 ·have c2:k<x.it.length:=by omega
  obtain⟨f,hf,hfm⟩:=ac c2
  have F:=F3 F c2 hf
  try refine sq F ?_
  refine wk F ?_
  (first|refine gq F (fun g1=>?_) (fun g1=>?_)|refine pq F (fun g1=>?_) (fun g1=>?_))<;>(try exact g1.elim)<;>(try refine sq F ?_)<;>(refine wk F ?_)
  ·refine cq F (fun c3=>?_) (fun c3=>?_)<;>(try exact c3.elim)<;>(refine wk F ?_)
   ·refine ee hQ F ?_
    exact Fin.plain (.int _ _) ⟨by rw[St.gid,oF hf (decide_eq_true ⟨g1,c3⟩) hp];rfl,rfl⟩
   ·refine hK2 _ _ _ (Wkn.refl ⟨k+1,rfl,ay,?_,?_,?_,?_,by omega,dh hf (decide_eq_false fun q=>c3 q.2) hp⟩) (by omega)
    all_goals first|exact zq F|rfl|omega|trivial|skip
  ·refine hK2 _ _ _ (Wkn.refl ⟨k+1,rfl,ay,?_,?_,?_,?_,by omega,dh hf (decide_eq_false fun q=>g1 q.1) hp⟩) (by omega)
   all_goals first|exact zq F|rfl|omega|trivial|skip
 ·rw[List.take_of_length_le (by omega)]at hp
  refine ee hQ F ?_
  exact Fin.plain (.int _ _) ⟨by rw[St.gid,oG hp];rfl,rfl⟩
def St.nmd(x:St)(i:Int)(g:Bs):Bool:=x.fo.any fun f=>decide (f.inn=i∧f.name=g)
theorem qb(x:St)(i:Int)(g:Bs)(hl:x.fo.length≤100000)(h:Heap):Sat (CT G) 129 [x.av,.int .i64 i,.str g] h (fun r h'=>r=.bool (x.nmd i g)∧h'=h):=by
 have hel:(x.fo.map Fo.av).length=x.fo.length:=List.length_map ..
 have F:=hel
 refine sb [.tmp 6] (fn:=Tryz.f129) Tryz.func129 ?_
 intro Q hQ
 refine wk F ?_
 refine lm (fun nL tL hL=>∃(k:Nat),x.fo.length-k=nL∧h++[.row 34 9 0 [x.av]]=hL∧tL 1=.int .i64 i∧tL 2=.str g∧tL 3=.hp h.length 0 0 0∧tL 7=.int .i64 k∧k≤x.fo.length∧(∀f∈x.fo.take k,decide (f.inn=i∧f.name=g)=false)) ((fun(k:Nat)=>(x.fo.length-k:Nat)) (0)) ?_ ?_
 ·refine Wkn.refl ⟨0,rfl,ay,?_,?_,?_,?_,by omega,by simp⟩
  all_goals first|exact zq F|rfl|omega|trivial|skip
 rintro _ s2 h' ⟨k,rfl,rfl,e1,e2,e3,e7,hk,hp⟩ K2 hK2
 simp only[ak,ao,Nat.reduceEqDiff, ↓reduceIte]at e1 e2 e3 e7
 have F:=F5 F e1 e2 e3 e7
 refine wk F ?_
 refine cq F (fun c1=>?_) (fun c1=>?_)<;>(try exact c1.elim)<;>(refine wk F ?_)
 ·have c2:k<x.fo.length:=by omega
  obtain⟨f,hf,hfm⟩:=ac c2
  have F:=F3 F c2 hf
  try refine sq F ?_
  refine wk F ?_
  (first|refine gq F (fun g1=>?_) (fun g1=>?_)|refine pq F (fun g1=>?_) (fun g1=>?_))<;>(try exact g1.elim)<;>(try refine sq F ?_)<;>(refine wk F ?_)
  ·refine cq F (fun c3=>?_) (fun c3=>?_)<;>(try exact c3.elim)<;>(refine wk F ?_)
   ·refine ee hQ F ?_
    exact Fin.plain (.bool _) ⟨by rw[St.nmd,mQ hf (decide_eq_true ⟨g1,c3⟩)],rfl⟩
   ·refine hK2 _ _ _ (Wkn.refl ⟨k+1,rfl,ay,?_,?_,?_,?_,by omega,dh hf (decide_eq_false fun q=>c3 q.2) hp⟩) (by omega)
    all_goals first|exact zq F|rfl|omega|trivial|skip
  ·refine hK2 _ _ _ (Wkn.refl ⟨k+1,rfl,ay,?_,?_,?_,?_,by omega,dh hf (decide_eq_false fun q=>g1 q.1) hp⟩) (by omega)
   all_goals first|exact zq F|rfl|omega|trivial|skip
 ·rw[List.take_of_length_le (by omega)]at hp
  refine ee hQ F ?_
  exact Fin.plain (.bool _) ⟨by rw[St.nmd,mR hp],rfl⟩
def St.emp(x:St)(i:Int):Bool:= !(x.fo.any fun f=>decide (f.inn=i))&& !(x.fe.any fun f=>decide (f.inn=i))
theorem qc(x:St)(i:Int)(hl:x.fo.length≤100000)(hl2:x.fe.length≤100000)(h:Heap):Sat (CT G) 130 [x.av,.int .i64 i] h (fun r h'=>r=.bool (x.emp i)∧h'=h):=by
 have hel:(x.fo.map Fo.av).length=x.fo.length:=List.length_map ..
 have hel2:(x.fe.map Fe.av).length=x.fe.length:=List.length_map ..
 have F:=F2 hel hel2
 refine sb [.tmp 4] (fn:=Tryz.f130) Tryz.func130 ?_
 intro Q hQ
 refine wk F ?_
 refine lm (fun nL tL hL=>∃(k:Nat),x.fo.length-k=nL∧h++[.row 34 9 0 [x.av]]=hL∧tL 1=.int .i64 i∧tL 2=.hp h.length 0 0 0∧tL 5=.int .i64 k∧k≤x.fo.length∧(∀f∈x.fo.take k,decide (f.inn=i)=false)) ((fun(k:Nat)=>(x.fo.length-k:Nat)) (0)) ?_ ?_
 ·refine Wkn.refl ⟨0,rfl,ay,?_,?_,?_,by omega,by simp⟩
  all_goals first|exact zq F|rfl|omega|trivial|skip
 rintro _ s2 h' ⟨k,rfl,rfl,e1,e2,e5,hk,hp⟩ K2 hK2
 simp only[ak,ao,Nat.reduceEqDiff, ↓reduceIte]at e1 e2 e5
 have F:=F4 F e1 e2 e5
 refine wk F ?_
 refine cq F (fun c1=>?_) (fun c1=>?_)<;>(try exact c1.elim)<;>(refine wk F ?_)
 ·have c2:k<x.fo.length:=by omega
  obtain⟨f,hf,hfm⟩:=ac c2
  have F:=F3 F c2 hf
  try refine sq F ?_
  refine wk F ?_
  refine cq F (fun c3=>?_) (fun c3=>?_)<;>(try exact c3.elim)<;>(refine wk F ?_)
  ·refine ee hQ F ?_
   exact Fin.plain (.bool _) ⟨by rw[St.emp,mQ hf (decide_eq_true c3)];rfl,rfl⟩
  ·refine hK2 _ _ _ (Wkn.refl ⟨k+1,rfl,ay,?_,?_,?_,by omega,dh hf (decide_eq_false c3) hp⟩) (by omega)
   all_goals first|exact zq F|rfl|omega|trivial|skip
 rw[List.take_of_length_le (by omega)]at hp
 try refine sq F ?_
 refine wk F ?_
 refine lm (fun nL tL hL=>∃(k:Nat),x.fe.length-k=nL∧h++[.row 34 9 0 [x.av]]=hL∧tL 1=.int .i64 i∧tL 2=.hp h.length 0 0 0∧tL 6=.int .i64 k∧k≤x.fe.length∧(∀f∈x.fe.take k,decide (f.inn=i)=false)) ((fun(k:Nat)=>(x.fe.length-k:Nat)) (0)) ?_ ?_
 ·refine Wkn.refl ⟨0,rfl,ay,?_,?_,?_,by omega,by simp⟩
  all_goals first|exact zq F|rfl|omega|trivial|skip
 rintro _ s3 h' ⟨k,rfl,rfl,e1,e2,e6,hk,hp2⟩ K3 hK3
 simp only[ak,ao,Nat.reduceEqDiff, ↓reduceIte]at e1 e2 e6
 have F:=F4 F e1 e2 e6
 refine wk F ?_
 refine cq F (fun c2=>?_) (fun c2=>?_)<;>(try exact c2.elim)<;>(refine wk F ?_)
 ·have c3:k<x.fe.length:=by omega
  obtain⟨f,hf,hfm⟩:=ac c3
  have F:=F3 F c3 hf
  try refine sq F ?_
  refine wk F ?_
  refine cq F (fun c4=>?_) (fun c4=>?_)<;>(try exact c4.elim)<;>(refine wk F ?_)
  ·refine ee hQ F ?_
   exact Fin.plain (.bool _) ⟨by rw[St.emp,mQ hf (decide_eq_true c4)];simp,rfl⟩
  ·refine hK3 _ _ _ (Wkn.refl ⟨k+1,rfl,ay,?_,?_,?_,by omega,dh hf (decide_eq_false c4) hp2⟩) (by omega)
   all_goals first|exact zq F|rfl|omega|trivial|skip
 rw[List.take_of_length_le (by omega)]at hp2
 refine ee hQ F ?_
 exact Fin.plain (.bool _) ⟨by rw[St.emp,mR hp,mR hp2];rfl,rfl⟩
theorem rS(l:List Bs)(g:Bs)(hl:l.length≤100000)(h:Heap):Sat (CT G) 133 [.sl 1 (l.map .str),.str g] h (fun r h'=>r=.bool (decide (g∈l))∧h'=h):=by
 have hel:(l.map AVal.str).length=l.length:=List.length_map ..
 have F:=hel
 refine sb [.tmp 4] (fn:=Tryz.f133) Tryz.func133 ?_
 intro Q hQ
 refine wk F ?_
 refine lm (fun nL tL hL=>∃(k:Nat),l.length-k=nL∧[]++h=hL∧tL 0=.sl 1 (l.map .str)∧tL 1=.str g∧tL 5=.int .i64 k∧k≤l.length∧g ∉ l.take k) ((fun(k:Nat)=>(l.length-k:Nat)) (0)) ?_ ?_
 ·refine Wkn.refl ⟨0,rfl,rfl,?_,?_,?_,by omega,by simp⟩
  all_goals first|exact zq F|rfl|omega|trivial|skip
 rintro _ s2 h' ⟨k,rfl,rfl,e0,e1,e5,hk,hp⟩ K2 hK2
 simp only[ak,ao,Nat.reduceEqDiff, ↓reduceIte]at e0 e1 e5
 have F:=F4 F e0 e1 e5
 refine wk F ?_
 refine cq F (fun c1=>?_) (fun c1=>?_)<;>(try exact c1.elim)<;>(refine wk F ?_)
 ·have c2:k<l.length:=by omega
  obtain⟨f,hf,hfm⟩:=ac c2
  have F:=F3 F c2 hf
  try refine sq F ?_
  refine wk F ?_
  refine cq F (fun c3=>?_) (fun c3=>?_)<;>(try exact c3.elim)<;>(refine wk F ?_)
  ·refine ee hQ F ?_
   exact Fin.same (.bool _) ⟨by rw[decide_eq_true (by rw[← c3];exact hfm)],rfl⟩
  ·have hp1:g ∉ l.take (k+1):=by
    rw[List.take_add_one,hf]
    intro q
    simp at q
    rcases q with q|q
    ·exact hp q
    ·exact c3 q.symm
   refine hK2 _ _ _ (Wkn.refl ⟨k+1,rfl,rfl,?_,?_,?_,by omega,hp1⟩) (by omega)
   all_goals first|exact zq F|rfl|omega|trivial|skip
 ·rw[List.take_of_length_le (by omega)]at hp
  refine ee hQ F ?_
  exact Fin.same (.bool _) ⟨by rw[decide_eq_false hp],rfl⟩
def topI(a b:Int):Int:=if a>b then a else b
theorem cf(a b:Int)(h:Heap):Sat (CT G) 135 [.int .i64 a,.int .i64 b] h (fun r h'=>r=.int .i64 (topI a b)∧h'=h):=by
 refine sb [.tmp 4] (fn:=Tryz.f135) Tryz.func135 ?_
 intro Q hQ
 refine wk trivial ?_
 refine cq trivial (fun c=>?_) (fun c=>?_)<;>(try exact c.elim)<;>(refine wk trivial ?_)
 ·refine ee hQ trivial ?_
  exact Fin.same (.int _ _) ⟨by rw[topI,if_pos (by omega)],rfl⟩
 ·refine ee hQ trivial ?_
  exact Fin.same (.int _ _) ⟨by rw[topI,if_neg (by omega)],rfl⟩
def St.dpW(x:St):Nat→Int→Nat→Nat
 |0,id,n=>if id=0 then n else 8
 |k+1,id,n=>if id=0 then n else match fnd (·.id) x.fo id with
  |none=>8
  |some f=>x.dpW k f.inn (n+1)
def St.deep(x:St)(id:Int):Nat:=match fnd (·.id) x.fo id with
 |none=>0
 |some _=>x.dpW 7 id 0
theorem rU(x:St)(id:Int)(hl:x.fo.length≤100000)(h:Heap):Sat (CT G) 128 [x.av,.int .i64 id] h (fun r h'=>r=.int .i64 (x.deep id)∧h'=h):=by
 have hel:(x.fo.map Fo.av).length=x.fo.length:=List.length_map ..
 have hF:=fun i=>cA G x i hl
 cases hf0:fnd (·.id) x.fo id with
 |none=>
  have h0:=hF id
  rw[fH hf0]at h0
  have dm:∀i:Decidable True, @decide True i=true:=fun i=>decide_eq_true trivial
  have F:=dm
  refine sb [.tmp 4] (fn:=Tryz.f128) Tryz.func128 ?_
  intro Q hQ
  refine wk F ?_
  refine kq F (h0 _) ?_
  refine ee hQ F ?_
  exact Fin.plain (.int _ _) ⟨by rw[St.deep,hf0];rfl,rfl⟩
 |some f0=>
  obtain⟨k0,q1,q2,q3⟩:=bq hf0
  have h0:=hF id
  rw[q2]at h0
  have hdp:x.deep id=x.dpW 7 id 0:=by rw[St.deep,hf0]
  rw[hdp]
  have F:=hel
  refine sb [.tmp 4] (fn:=Tryz.f128) Tryz.func128 ?_
  intro Q hQ
  refine wk F ?_
  refine kq F (h0 _) ?_
  have ck:decide ((k0:Int)<0)=false:=by simp
  have F:=F2 F ck
  try refine sq F ?_
  refine wk F ?_
  refine lm (fun nL tL hL=>∃(n:Nat) (i:Int),8-n=nL∧h++[.row 34 9 0 [x.av]]=hL∧tL 1=.int .i64 i∧tL 2=.hp h.length 0 0 0∧tL 5=.int .i64 n∧n≤7∧x.dpW (7-n) i n=x.dpW 7 id 0) ((fun(n:Nat) (i:Int)=>(8-n:Nat)) (0) (id)) ?_ ?_
  ·refine Wkn.refl ⟨0,id,rfl,ay,?_,?_,?_,by omega,rfl⟩
   all_goals first|exact zq F|rfl|omega|trivial|skip
  rintro _ s2 h' ⟨n,i,rfl,rfl,e1,e2,e5,hn,hv⟩ K2 hK2
  simp only[ak,ao,Nat.reduceEqDiff, ↓reduceIte]at e1 e2 e5
  have F:=F4 F e1 e2 e5
  refine wk F ?_
  refine cq F (fun c1=>?_) (fun c1=>?_)<;>(try exact c1.elim)<;>(refine wk F ?_)
  ·have hi0:¬i=0:=by first|exact c1|omega
   cases hf:fnd (·.id) x.fo i with
   |none=>
    have h1:=hF i
    rw[fH hf]at h1
    have h8:x.dpW (7-n) i n=8:=by
     cases hk:7-n with
     |zero=>rw[St.dpW,if_neg hi0]
     |succ k=>rw[St.dpW,if_neg hi0,hf]
    have dm:∀i:Decidable True, @decide True i=true:=fun i=>decide_eq_true trivial
    have F:=F2 F dm
    try refine sq F ?_
    refine wk F ?_
    refine kq F (h1 _) ?_
    refine ee hQ F ?_
    exact Fin.plain (.int _ _) ⟨by rw[← hv,h8];rfl,rfl⟩
   |some f=>
    obtain⟨k1,p1,p2,p3⟩:=bq hf
    have h1:=hF i
    rw[p2]at h1
    have hkl:k1<x.fo.length:=(List.getElem?_eq_some_iff.1 p1).1
    have d1:decide ((k1:Int)<0)=false:=by simp
    by_cases c7:n=7
    ·have d7:((n:Int)==7)=true:=by simp;omega
     have h8:x.dpW (7-n) i n=8:=by
      rw[c7];rw[St.dpW,if_neg hi0]
     have F:=F3 F d1 d7
     try refine sq F ?_
     refine wk F ?_
     refine kq F (h1 _) ?_
     refine ee hQ F ?_
     exact Fin.plain (.int _ _) ⟨by rw[← hv,h8];rfl,rfl⟩
    ·have d7:((n:Int)==7)=false:=by simp;omega
     have hst:x.dpW (7-(n+1)) f.inn (n+1)=x.dpW 7 id 0:=by
      rw[← hv,show 7-n=(7-(n+1))+1 by omega,St.dpW,if_neg hi0,hf]
     have F:=F5 F d1 d7 p1 hkl
     try refine sq F ?_
     refine wk F ?_
     refine kq F (h1 _) ?_
     refine hK2 _ _ _ (Wkn.refl ⟨n+1,f.inn,rfl,ay,?_,?_,?_,by omega,hst⟩) (by omega)
     all_goals first|exact zq F|rfl|omega|trivial|skip
  ·have hi0:i=0:=by first|exact c1|omega
   have h8:x.dpW (7-n) i n=n:=by
    cases hk:7-n with
    |zero=>rw[St.dpW,if_pos hi0]
    |succ k=>rw[St.dpW,if_pos hi0]
   refine ee hQ F ?_
   exact Fin.plain (.int _ _) ⟨by rw[← hv,h8],rfl⟩
end Go.Av
