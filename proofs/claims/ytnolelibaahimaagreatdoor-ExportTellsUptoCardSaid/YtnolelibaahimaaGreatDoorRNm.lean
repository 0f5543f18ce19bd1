/- Parts. -/
import Derived.Test.YtnolelibaahimaaGreatDoorRKf
set_option linter.unusedSimpArgs false
set_option linter.unusedVariables false
set_option linter.unusedSectionVars false
set_option linter.unnecessarySimpa false
set_option maxRecDepth 100000
set_option maxHeartbeats 16000000
namespace Go.Av
open Go Go.Proofs Go.RowKit
section
attribute [local irreducible] WP WPl WPix Sat
@[go_sem] theorem Eb(h:Heap)(k a b n k' a' b' n':Int)(s t u s' t' u':Bs):abin Tryz.prog h .eql 34 (.agg [.int .i64 k,.int .i64 a,.int .i64 b,.int .i64 n,.str s,.str t,.str u]) (.agg [.int .i64 k',.int .i64 a',.int .i64 b',.int .i64 n',.str s',.str t',.str u'])=
  some (.bool (decide (Ev.mk k a b n s t u=Ev.mk k' a' b' n' s' t' u'))):=by
 simp only[abin,go_sem,aeqL,aeq1, ↓reduceIte,Q3,N2,AVal.bool.injEq,Ev.mk.injEq];rw[P6];simp
variable (G:Nat→Option (List AVal))
section
theorem R5(t:Bs)(ht:t.length≤1000)(h:Heap):Sat (CT G) 146 [.str t] h (fun r h'=>r=.bool (rightS t)∧h'=h):=jf G t (by omega) h
theorem C5(t:Bs)(ht:t.length≤1000)(h:Heap):Sat (CT G) 135 [.str t] h (fun r h'=>r=.str (cleanF t)∧h'=h):=jg G t (by omega) h
theorem zw(t:Bs)(h:Heap):Sat (CT G) 168 [.str t] h (fun r h'=>r=.bool (L0.label t)∧h'=h):=jc G rightS cleanF (R5 G) (C5 G) t h
theorem wO(t:Bs)(h:Heap):Sat (CT G) 170 [.str t] h (fun r h'=>r=.bool (L0.title t)∧h'=h):=pr G rightS cleanF (R5 G) (C5 G) t h
theorem wP(t:Bs)(h:Heap):Sat (CT G) 169 [.str t] h (fun r h'=>r=.bool (L0.link t)∧h'=h):=sa G rightS cleanF (R5 G) (C5 G) t h
theorem FV(t:Bs)(h:Heap):Sat (CT G) 173 [.str t] h (fun r h'=>r=.bool (L0.query t)∧h'=h):=pt G rightS cleanF (R5 G) (C5 G) t h
theorem zx(hc:GClo (CT G))(n:Int)(h:Heap):Sat (CT G) 171 [.int .i64 n] h (fun r h'=>r=.bool (L0.moment n)∧h'=h):=wM G hc n h
end
theorem IY(a b c d e:Bool):a=false∨(a=true∧b=false)∨(a=true∧b=true∧c=false)∨(a=true∧b=true∧c=true∧d=false)∨(a=true∧b=true∧c=true∧d=true∧e=false)∨(a=true∧b=true∧c=true∧d=true∧e=true):=by cases a<;>cases b<;>cases c<;>cases d<;>cases e<;>simp
theorem two(x:Bool):x=true∨x=false:=by cases x<;>simp
theorem Jx(x y:Bool):x=true∨(x=false∧y=true)∨(x=false∧y=false):=by cases x<;>cases y<;>simp
theorem om(a:Bool):a=false∨a=true:=by cases a<;>simp
theorem xm(a b:Bool):a=false∨(a=true∧b=false)∨(a=true∧b=true):=by cases a<;>cases b<;>simp
theorem uo(a b c:Bool):a=false∨(a=true∧b=false)∨(a=true∧b=true∧c=false)∨(a=true∧b=true∧c=true):=by cases a<;>cases b<;>cases c<;>simp
theorem IZ(a b c d:Bool):a=false∨(a=true∧b=false)∨(a=true∧b=true∧c=false)∨(a=true∧b=true∧c=true∧d=false)∨(a=true∧b=true∧c=true∧d=true):=by cases a<;>cases b<;>cases c<;>cases d<;>simp
theorem J0(a b c d e f g:Bool):a=false∨(a=true∧b=false)∨(a=true∧b=true∧c=false)∨(a=true∧b=true∧c=true∧d=false)∨(a=true∧b=true∧c=true∧d=true∧e=false)∨(a=true∧b=true∧c=true∧d=true∧e=true∧f=false)∨
  (a=true∧b=true∧c=true∧d=true∧e=true∧f=true∧g=false)∨(a=true∧b=true∧c=true∧d=true∧e=true∧f=true∧g=true):=by cases a<;>cases b<;>cases c<;>cases d<;>cases e<;>cases f<;>cases g<;>simp
theorem sD(hc:GClo (CT G))(e:Ev)(h:Heap):Sat (CT G) 125 [e.av] h (fun r h'=>r=.bool (L0.ck e)∧h'=h):=by
 obtain⟨k,a,b,n,s,t,u⟩:=e;refine sb [.tmp 2] Tryz.func125 ?_;intro Q hQ;(repeat (first|refine w1 (fun K hK=>?_)|refine w2 ?_|refine w3 ?_| ((first|refine w4 ?_|refine wD ?_|refine w5 ?_|refine w6 ?_|refine w7 ?_);try refine sq trivial ?_)| (refine w8 ?_;refine sq trivial ?_;refine w9 ?_)))
 refine hK _ _ (L8 ?_);clear hK K;(repeat (first|refine w1 (fun K hK=>?_)|refine w2 ?_|refine w3 ?_| ((first|refine w4 ?_|refine wD ?_|refine w5 ?_|refine w6 ?_|refine w7 ?_);try refine sq trivial ?_)| (refine w8 ?_;refine sq trivial ?_;refine w9 ?_)))
 refine hK _ _ (L8 ?_);clear hK K;(repeat (first|refine w1 (fun K hK=>?_)|refine w2 ?_|refine w3 ?_| ((first|refine w4 ?_|refine wD ?_|refine w5 ?_|refine w6 ?_|refine w7 ?_);try refine sq trivial ?_)| (refine w8 ?_;refine sq trivial ?_;refine w9 ?_)))
 refine(lA G a _).mono ?_;rintro r h' ⟨rfl,rfl⟩;try refine sq trivial ?_
 (repeat (first|refine w1 (fun K hK=>?_)|refine w2 ?_|refine w3 ?_| ((first|refine w4 ?_|refine wD ?_|refine w5 ?_|refine w6 ?_|refine w7 ?_);try refine sq trivial ?_)| (refine w8 ?_;refine sq trivial ?_;refine w9 ?_)| ((first|refine hK _ _ (w0 ?_)| (clear hK K;refine hK _ _ (w0 ?_))| (clear hK K;clear hK K;refine hK _ _ (w0 ?_)));clear hK K)))
 generalize hH:h++[.row 34 7 0 [.agg [.int .i64 k,.int .i64 a,.int .i64 b,.int .i64 n,.str s,.str t,.str u]],.row 34 7 0 [.agg [.int .i64 k,.int .i64 a,.int .i64 0,.int .i64 0,.str [],.str [],.str []]]]=H;have key:∀(T:Env) (x:Bool),T 1=.hp h.length 0 0 0→T 3=.hp (h.length+1) 0 0 0→T 4=.bool (idF a)→T 5=.bool x→x=(n==0||n==1)→K T H:=by
  subst hH;intro T x e1 e3 e4 e5 hx;subst hx;have F:=F4 e1 e3 e4 e5;refine hK _ _ (L8 ?_);clear hK K;(repeat (first|refine w1 (fun K hK=>?_)|refine w2 ?_|refine w3 ?_| ((first|refine w4 ?_|refine wD ?_|refine w5 ?_|refine w6 ?_|refine w7 ?_);try refine sq F ?_)| (refine w8 ?_;refine sq F ?_;refine w9 ?_)))
  generalize hH:h++[.row 34 7 0 [.agg [.int .i64 k,.int .i64 a,.int .i64 b,.int .i64 n,.str s,.str t,.str u]],.row 34 7 0 [.agg [.int .i64 k,.int .i64 a,.int .i64 0,.int .i64 0,.str [],.str [],.str []]]]=H;have key:∀(T:Env) (x:Bool),T 1=.hp h.length 0 0 0→T 3=.hp (h.length+1) 0 0 0→T 4=.bool (idF a)→T 5=.bool (n==0||n==1)→T 6=.bool x→x=(b==0||idF b)→K T H:=by
   subst hH;intro T x e1 e3 e4 e5 e6 hx;subst hx;by_cases k1:k=1
   ·subst k1;have ht:=uo (idF a) (b==0||idF b) (L0.label s);rcases ht with ht|ht|ht|ht;all_goals (
     have F:=F7 F e1 e3 e4 e5 e6 ht;refine hK _ _ (L8 ?_);clear hK K;refine wn F ?_
     skip
     refine ay 6 [5] [true,true,true,true,true,false] (.one 5 [false,false,true,true] .fin) (by decide+kernel) (by kernel_rfl) (by decide+kernel) ?_;simp only[aC,aD,az];(try refine sq F ?_);repeat' ((first|refine ai ?_|refine aj ?_|refine am ?_ ?_)<;>try refine sq F ?_)
     all_goals try (repeat (first|refine w1 (fun K hK=>?_)|refine w2 ?_|refine w3 ?_| ((first|refine w4 ?_|refine w5 ?_|refine w6 ?_|refine w7 ?_);try refine sq F ?_)| (refine w8 ?_;refine sq F ?_;refine w9 ?_)| ((first|refine hK _ _ (w0 ?_)| (clear hK K;refine hK _ _ (w0 ?_))| (clear hK K;clear hK K;refine hK _ _ (w0 ?_)));clear hK K)))
     skip
     (try refine wk F ?_);repeat (first|refine kq F (zw G s _) ?_)
     refine ee hQ F ?_;refine K9 (.bool _) ⟨?_,rfl⟩;simp[Leaf.ck,Leaf.right,Leaf.place,usedE,ht])
   by_cases k2:k=2
   ·subst k2;have ht:=om (idF a);rcases ht with ht|ht;all_goals (
     have F:=F7 F e1 e3 e4 e5 e6 ht;refine hK _ _ (L8 ?_);clear hK K;refine wk F ?_;refine ee hQ F ?_;refine K9 (.bool _) ⟨?_,rfl⟩;simp[Leaf.ck,Leaf.right,Leaf.place,usedE,ht])
   by_cases k3:k=3
   ·subst k3;have ht:=IY (idF a) (b==0||idF b) (!(s==[])) (L0.link s) (L0.title t);rcases ht with ht|ht|ht|ht|ht|ht;all_goals (
     have F:=F7 F e1 e3 e4 e5 e6 ht;refine hK _ _ (L8 ?_);clear hK K;refine wn F ?_
     skip
     refine ay 10 [7,9] [true,true,true,true,true,true,true,false,true,false] (.one 7 [false,false,true,true,true,true,false,false,true] (.one 9 [false,false,false,false,true,true] .fin)) (by decide+kernel) (by kernel_rfl) (by decide+kernel) ?_;simp only[aC,aD,az];(try refine sq F ?_);repeat' ((first|refine ai ?_|refine aj ?_|refine am ?_ ?_)<;>try refine sq F ?_)
     all_goals try (repeat (first|refine w1 (fun K hK=>?_)|refine w2 ?_|refine w3 ?_| ((first|refine w4 ?_|refine w5 ?_|refine w6 ?_|refine w7 ?_);try refine sq F ?_)| (refine w8 ?_;refine sq F ?_;refine w9 ?_)| ((first|refine hK _ _ (w0 ?_)| (clear hK K;refine hK _ _ (w0 ?_))| (clear hK K;clear hK K;refine hK _ _ (w0 ?_)));clear hK K)))
     skip
     (try refine wk F ?_);repeat (first|refine kq F (wP G s _) ?_|refine kq F (wO G t _) ?_)
     refine ee hQ F ?_;refine K9 (.bool _) ⟨?_,rfl⟩;first| (simp[Leaf.ck,Leaf.right,Leaf.place,usedE,ht];done)| (simp at ht;simp[Leaf.ck,Leaf.right,Leaf.place,usedE,ht]))
   by_cases k4:k=4
   ·subst k4;have ht:=om (idF a);rcases ht with ht|ht;all_goals (
     have F:=F7 F e1 e3 e4 e5 e6 ht;refine hK _ _ (L8 ?_);clear hK K;refine wk F ?_;refine ee hQ F ?_;refine K9 (.bool _) ⟨?_,rfl⟩;simp[Leaf.ck,Leaf.right,Leaf.place,usedE,ht])
   by_cases k5:k=5
   ·subst k5;have ht:=xm (idF a) (L0.title t);rcases ht with ht|ht|ht;all_goals (
     have F:=F7 F e1 e3 e4 e5 e6 ht;refine hK _ _ (L8 ?_);clear hK K;refine wk F ?_;repeat (first|refine kq F (wO G t _) ?_)
     refine ee hQ F ?_;refine K9 (.bool _) ⟨?_,rfl⟩;simp[Leaf.ck,Leaf.right,Leaf.place,usedE,ht])
   by_cases k6:k=6
   ·subst k6;have ht:=xm (idF a) (b==0||idF b);rcases ht with ht|ht|ht;all_goals (
     have F:=F7 F e1 e3 e4 e5 e6 ht;refine hK _ _ (L8 ?_);clear hK K;refine wk F ?_;refine ee hQ F ?_;refine K9 (.bool _) ⟨?_,rfl⟩;simp[Leaf.ck,Leaf.right,Leaf.place,usedE,ht])
   by_cases k7:k=7
   ·subst k7;have ht:=J0 (idF a) (idF b) (L0.moment n) (!(s==[])) (L0.link s) (L0.title t) (L0.link u);rcases ht with ht|ht|ht|ht|ht|ht|ht|ht;all_goals (
     have F:=F7 F e1 e3 e4 e5 e6 ht;refine hK _ _ (L8 ?_);clear hK K;refine wk F ?_;repeat (first|refine kq F (lA G b _) ?_|refine kq F (zx G hc n _) ?_|refine kq F (wP G s _) ?_|refine kq F (wO G t _) ?_|refine kq F (wP G u _) ?_)
     refine ee hQ F ?_;refine K9 (.bool _) ⟨?_,rfl⟩;first| (simp[Leaf.ck,Leaf.right,Leaf.place,usedE,ht];done)| (simp at ht;simp[Leaf.ck,Leaf.right,Leaf.place,usedE,ht]))
   by_cases k8:k=8
   ·subst k8;have ht:=xm (idF a) (n==0||n==1);rcases ht with ht|ht|ht;all_goals (
     have F:=F7 F e1 e3 e4 e5 e6 ht;refine hK _ _ (L8 ?_);clear hK K;refine wk F ?_;refine ee hQ F ?_;refine K9 (.bool _) ⟨?_,rfl⟩;simp[Leaf.ck,Leaf.right,Leaf.place,usedE,ht])
   by_cases k9:k=9
   ·subst k9;have ht:=xm (idF a) (n==0||n==1);rcases ht with ht|ht|ht;all_goals (
     have F:=F7 F e1 e3 e4 e5 e6 ht;refine hK _ _ (L8 ?_);clear hK K;refine wk F ?_;refine ee hQ F ?_;refine K9 (.bool _) ⟨?_,rfl⟩;simp[Leaf.ck,Leaf.right,Leaf.place,usedE,ht])
   by_cases k10:k=10
   ·subst k10;have ht:=uo (idF a) (n==0||n==1) (L0.tag s);rcases ht with ht|ht|ht|ht;all_goals (
     have F:=F7 F e1 e3 e4 e5 e6 ht;refine hK _ _ (L8 ?_);clear hK K;refine wn F ?_
     skip
     refine ay 6 [5] [true,true,true,true,true,false] (.one 5 [false,false,true,true] .fin) (by decide+kernel) (by kernel_rfl) (by decide+kernel) ?_;simp only[aC,aD,az];(try refine sq F ?_);repeat' ((first|refine ai ?_|refine aj ?_|refine am ?_ ?_)<;>try refine sq F ?_)
     all_goals try (repeat (first|refine w1 (fun K hK=>?_)|refine w2 ?_|refine w3 ?_| ((first|refine w4 ?_|refine w5 ?_|refine w6 ?_|refine w7 ?_);try refine sq F ?_)| (refine w8 ?_;refine sq F ?_;refine w9 ?_)| ((first|refine hK _ _ (w0 ?_)| (clear hK K;refine hK _ _ (w0 ?_))| (clear hK K;clear hK K;refine hK _ _ (w0 ?_)));clear hK K)))
     skip
     (try refine wk F ?_);repeat (first|refine kq F (wN G s _) ?_)
     refine ee hQ F ?_;refine K9 (.bool _) ⟨?_,rfl⟩;simp[Leaf.ck,Leaf.right,Leaf.place,usedE,ht])
   by_cases k11:k=11
   ·subst k11;have ht:=uo (idF a) (L0.label s) (L0.query t);rcases ht with ht|ht|ht|ht;all_goals (
     have F:=F7 F e1 e3 e4 e5 e6 ht;refine hK _ _ (L8 ?_);clear hK K;refine wn F ?_
     skip
     refine ay 6 [5] [true,true,true,true,true,false] (.one 5 [false,false,true,true] .fin) (by decide+kernel) (by kernel_rfl) (by decide+kernel) ?_;simp only[aC,aD,az];(try refine sq F ?_);repeat' ((first|refine ai ?_|refine aj ?_|refine am ?_ ?_)<;>try refine sq F ?_)
     all_goals try (repeat (first|refine w1 (fun K hK=>?_)|refine w2 ?_|refine w3 ?_| ((first|refine w4 ?_|refine w5 ?_|refine w6 ?_|refine w7 ?_);try refine sq F ?_)| (refine w8 ?_;refine sq F ?_;refine w9 ?_)| ((first|refine hK _ _ (w0 ?_)| (clear hK K;refine hK _ _ (w0 ?_))| (clear hK K;clear hK K;refine hK _ _ (w0 ?_)));clear hK K)))
     skip
     (try refine wk F ?_);repeat (first|refine kq F (zw G s _) ?_|refine kq F (FV G t _) ?_)
     refine ee hQ F ?_;refine K9 (.bool _) ⟨?_,rfl⟩;simp[Leaf.ck,Leaf.right,Leaf.place,usedE,ht])
   by_cases k12:k=12
   ·subst k12;have ht:=om (idF a);rcases ht with ht|ht;all_goals (
     have F:=F7 F e1 e3 e4 e5 e6 ht;refine hK _ _ (L8 ?_);clear hK K;refine wk F ?_;refine ee hQ F ?_;refine K9 (.bool _) ⟨?_,rfl⟩;simp[Leaf.ck,Leaf.right,Leaf.place,usedE,ht])
   by_cases k13:k=13
   ·subst k13;have ht:=om (L0.moment n);rcases ht with ht|ht;all_goals (
     have F:=F7 F e1 e3 e4 e5 e6 ht;refine hK _ _ (L8 ?_);clear hK K;refine wn F ?_
     skip
     refine ay 4 [3] [true,true,true,false] (.one 3 [true,true] .fin) (by decide+kernel) (by kernel_rfl) (by decide+kernel) ?_;simp only[aC,aD,az];(try refine sq F ?_);repeat' ((first|refine ai ?_|refine aj ?_|refine am ?_ ?_)<;>try refine sq F ?_)
     all_goals try (repeat (first|refine w1 (fun K hK=>?_)|refine w2 ?_|refine w3 ?_| ((first|refine w4 ?_|refine w5 ?_|refine w6 ?_|refine w7 ?_);try refine sq F ?_)| (refine w8 ?_;refine sq F ?_;refine w9 ?_)| ((first|refine hK _ _ (w0 ?_)| (clear hK K;refine hK _ _ (w0 ?_))| (clear hK K;clear hK K;refine hK _ _ (w0 ?_)));clear hK K)))
     skip
     (try refine wk F ?_);repeat (first|refine kq F (zx G hc n _) ?_)
     refine ee hQ F ?_;refine K9 (.bool _) ⟨?_,rfl⟩;simp[Leaf.ck,Leaf.right,Leaf.place,usedE,ht])
   have n1:(k==1)=false:=(by simp[k1]);have n2:(k==2)=false:=(by simp[k2]);have n3:(k==3)=false:=(by simp[k3]);have n4:(k==4)=false:=(by simp[k4]);have n5:(k==5)=false:=(by simp[k5]);have n6:(k==6)=false:=(by simp[k6]);have n7:(k==7)=false:=(by simp[k7]);have n8:(k==8)=false:=(by simp[k8]);have n9:(k==9)=false:=(by simp[k9]);have n10:(k==10)=false:=(by simp[k10]);have n11:(k==11)=false:=(by simp[k11]);have n12:(k==12)=false:=(by simp[k12]);have n13:(k==13)=false:=(by simp[k13]);have F:=F2 (F9 F e1 e3 e4 e5 e6 n1 n2 n3) (j8 n4 n5 n6 n7 n8 n9 n10 n11 n12 n13);refine hK _ _ (L8 ?_);clear hK K;refine wk F ?_;refine ee hQ F ?_;refine K9 (.bool _) ⟨?_,rfl⟩;simp[Leaf.ck,Leaf.right,k1,k2,k3,k4,k5,k6,k7,k8,k9,k10,k11,k12,k13]
  subst hH;(first|refine gq F (fun g=>?_) (fun g=>?_)|refine pq F (fun g=>?_) (fun g=>?_))<;>(try exact g.elim)<;>(try refine sq F ?_)<;>((repeat (first|refine w1 (fun K hK=>?_)|refine w2 ?_|refine w3 ?_| ((first|refine w4 ?_|refine wD ?_|refine w5 ?_|refine w6 ?_|refine w7 ?_);try refine sq F ?_)| (refine w8 ?_;refine sq F ?_;refine w9 ?_)| ((first|refine hK _ _ (w0 ?_)| (clear hK K;refine hK _ _ (w0 ?_))| (clear hK K;clear hK K;refine hK _ _ (w0 ?_)));clear hK K))))
  ·exact key _ true (by exact zq F) (by exact zq F) (by exact zq F) (by exact zq F) rfl (by simp[g])
  ·refine(lA G b _).mono ?_;rintro r h' ⟨rfl,rfl⟩;(try refine sq F ?_);(repeat (first|refine w1 (fun K hK=>?_)|refine w2 ?_|refine w3 ?_| ((first|refine w4 ?_|refine wD ?_|refine w5 ?_|refine w6 ?_|refine w7 ?_);try refine sq F ?_)| (refine w8 ?_;refine sq F ?_;refine w9 ?_)| ((first|refine hK _ _ (w0 ?_)| (clear hK K;refine hK _ _ (w0 ?_))| (clear hK K;clear hK K;refine hK _ _ (w0 ?_)));clear hK K)))
   exact key _ (idF b) (by exact zq F) (by exact zq F) (by exact zq F) (by exact zq F) rfl (by simp[g])
 subst hH;(first|refine gq trivial (fun g=>?_) (fun g=>?_)|refine pq trivial (fun g=>?_) (fun g=>?_))<;>(try exact g.elim)<;>(try refine sq trivial ?_)<;>((repeat (first|refine w1 (fun K hK=>?_)|refine w2 ?_|refine w3 ?_| ((first|refine w4 ?_|refine wD ?_|refine w5 ?_|refine w6 ?_|refine w7 ?_);try refine sq trivial ?_)| (refine w8 ?_;refine sq trivial ?_;refine w9 ?_)| ((first|refine hK _ _ (w0 ?_)| (clear hK K;refine hK _ _ (w0 ?_))| (clear hK K;clear hK K;refine hK _ _ (w0 ?_)));clear hK K))))
 ·exact key _ true (by exact zq trivial) (by exact zq trivial) (by exact zq trivial) rfl (by simp[g])
 ·exact key _ (n==1) (by exact zq trivial) (by exact zq trivial) (by exact zq trivial) rfl (by simp[g])
end
section
attribute [local irreducible] WP WPl WPix Sat
variable (G:Nat→Option (List AVal))
section
variable {α:Type}
theorem qz{p:α→Bool}{l:List α}{k:Nat}{a:α}(h:l[k]? =some a)(ha:p a=true)(hf:∀b∈l.take k,p b=false):l.find? p=some a:=by
 induction l generalizing k with
 |nil=>simp at h
 |cons b l ih=>
  cases k with
  |zero=>simp at h;subst h;rw[List.find?_cons,ha]
  |succ k=>
   rw[List.find?_cons,hf b (by simp)];exact ih (by simpa using h) fun c hc=>hf c (by simp[hc])
theorem qA{p:α→Bool}{l:List α}(hf:∀b∈l,p b=false):l.find? p=none:=Y9.2 fun b hb=>by rw[hf b hb];simp
theorem oo{p:α→Bool}{l:List α}{k:Nat}{a:α}(h:l[k]? =some a)(ha:p a=true):l.any p=true:=Y4.2 ⟨a,M3 h,ha⟩
theorem ow{p:α→Bool}{l:List α}(hf:∀b∈l,p b=false):l.any p=false:=by rw[W2];intro b hb;rw[hf b hb];simp
theorem eb{p:α→Bool}{l:List α}{k:Nat}{a:α}(h:l[k]? =some a)(ha:p a=false)(hf:∀b∈l.take k,p b=false):∀b∈l.take (k+1),p b=false:=by
 rw[O7,h];intro b hb;simp at hb;rcases hb with hb|rfl
 ·exact hf b hb
 ·exact ha
end
def St.plc(x:St)(u:Bs):Int:=((x.fe.find? fun f=>decide (f.url=u)).map (·.id)).getD 0
theorem sE(x:St)(u:Bs)(hl:x.fe.length≤100000)(h:Heap):Sat (CT G) 130 [x.av,.str u] h (fun r h'=>r=.int .i64 (x.plc u)∧h'=h):=by
 have hel:(x.fe.map Fe.av).length=x.fe.length:=L5 ..;have F:=hel;refine sb [.tmp 4] Tryz.func130 ?_;intro Q hQ;refine wk F ?_;refine lm (fun nL tL hL=>∃(k:Nat),x.fe.length-k=nL∧h++[.row 41 9 0 [x.av]]=hL∧tL 1=.str u∧tL 2=.hp h.length 0 0 0∧tL 5=.int .i64 k∧k≤x.fe.length∧(∀f∈x.fe.take k,decide (f.url=u)=false)) ((fun(k:Nat)=>(x.fe.length-k:Nat)) (0)) ?_ ?_
 ·refine L8 ⟨0,rfl,aw,?_,?_,?_,by omega,by simp⟩;all_goals try exact zZz F
 rintro _ s2 h' ⟨k,rfl,rfl,e1,e2,e5,hk,hp⟩ K2 hK2;simp only[ah,ao,Nat.reduceEqDiff, ↓reduceIte]at e1 e2 e5;have F:=F4 F e1 e2 e5;refine wk F ?_;refine cq F (fun c1=>?_) (fun c1=>?_)<;>(try exact c1.elim)<;>(refine wk F ?_)
 ·have c2:k<x.fe.length:=by omega
  obtain⟨f,hf,hfm⟩:=ac c2;have F:=F3 F c2 hf;try refine sq F ?_
  refine wk F ?_;refine cq F (fun c3=>?_) (fun c3=>?_)<;>(try exact c3.elim)<;>(refine wk F ?_)
  ·refine ee hQ F ?_;exact K9 (.int _ _) ⟨by rw[St.plc,qz hf (N7 c3) hp];rfl,rfl⟩
  ·refine hK2 _ _ _ (L8 ⟨k+1,rfl,aw,?_,?_,?_,by omega,eb hf (N8 c3) hp⟩) (by omega);all_goals try exact zZz F
 ·rw[M4 (by omega)]at hp;refine ee hQ F ?_;exact K9 (.int _ _) ⟨by rw[St.plc,qA hp];rfl,rfl⟩
def St.gid(x:St)(feed:Int)(g:Bs):Int:=((x.it.find? fun t=>decide (t.feed=feed∧t.guid=g)).map (·.id)).getD 0
theorem uq(x:St)(feed:Int)(g:Bs)(hl:x.it.length≤100000)(h:Heap):Sat (CT G) 131 [x.av,.int .i64 feed,.str g] h (fun r h'=>r=.int .i64 (x.gid feed g)∧h'=h):=by
 have hel:(x.it.map It.av).length=x.it.length:=L5 ..;have F:=hel;refine sb [.tmp 6] Tryz.func131 ?_;intro Q hQ;refine wk F ?_;refine lm (fun nL tL hL=>∃(k:Nat),x.it.length-k=nL∧h++[.row 41 9 0 [x.av]]=hL∧tL 1=.int .i64 feed∧tL 2=.str g∧tL 3=.hp h.length 0 0 0∧tL 7=.int .i64 k∧k≤x.it.length∧(∀f∈x.it.take k,decide (f.feed=feed∧f.guid=g)=false)) ((fun(k:Nat)=>(x.it.length-k:Nat)) (0)) ?_ ?_
 ·refine L8 ⟨0,rfl,aw,?_,?_,?_,?_,by omega,by simp⟩;all_goals try exact zZz F
 rintro _ s2 h' ⟨k,rfl,rfl,e1,e2,e3,e7,hk,hp⟩ K2 hK2;simp only[ah,ao,Nat.reduceEqDiff, ↓reduceIte]at e1 e2 e3 e7;have F:=F5 F e1 e2 e3 e7;refine wk F ?_;refine cq F (fun c1=>?_) (fun c1=>?_)<;>(try exact c1.elim)<;>(refine wk F ?_)
 ·have c2:k<x.it.length:=by omega
  obtain⟨f,hf,hfm⟩:=ac c2;have F:=F3 F c2 hf;try refine sq F ?_
  refine wk F ?_;(first|refine gq F (fun g1=>?_) (fun g1=>?_)|refine pq F (fun g1=>?_) (fun g1=>?_))<;>(try exact g1.elim)<;>(try refine sq F ?_)<;>(refine wk F ?_)
  ·refine cq F (fun c3=>?_) (fun c3=>?_)<;>(try exact c3.elim)<;>(refine wk F ?_)
   ·refine ee hQ F ?_;exact K9 (.int _ _) ⟨by rw[St.gid,qz hf (N7 ⟨g1,c3⟩) hp];rfl,rfl⟩
   ·refine hK2 _ _ _ (L8 ⟨k+1,rfl,aw,?_,?_,?_,?_,by omega,eb hf (N8 fun q=>c3 q.2) hp⟩) (by omega);all_goals try exact zZz F
  ·refine hK2 _ _ _ (L8 ⟨k+1,rfl,aw,?_,?_,?_,?_,by omega,eb hf (N8 fun q=>g1 q.1) hp⟩) (by omega);all_goals try exact zZz F
 ·rw[M4 (by omega)]at hp;refine ee hQ F ?_;exact K9 (.int _ _) ⟨by rw[St.gid,qA hp];rfl,rfl⟩
def St.nmd(x:St)(i:Int)(g:Bs):Bool:=x.fo.any fun f=>decide (f.inn=i∧f.name=g)
theorem sF(x:St)(i:Int)(g:Bs)(hl:x.fo.length≤100000)(h:Heap):Sat (CT G) 128 [x.av,.int .i64 i,.str g] h (fun r h'=>r=.bool (x.nmd i g)∧h'=h):=by
 have hel:(x.fo.map Fo.av).length=x.fo.length:=L5 ..;have F:=hel;refine sb [.tmp 6] Tryz.func128 ?_;intro Q hQ;refine wk F ?_;refine lm (fun nL tL hL=>∃(k:Nat),x.fo.length-k=nL∧h++[.row 41 9 0 [x.av]]=hL∧tL 1=.int .i64 i∧tL 2=.str g∧tL 3=.hp h.length 0 0 0∧tL 7=.int .i64 k∧k≤x.fo.length∧(∀f∈x.fo.take k,decide (f.inn=i∧f.name=g)=false)) ((fun(k:Nat)=>(x.fo.length-k:Nat)) (0)) ?_ ?_
 ·refine L8 ⟨0,rfl,aw,?_,?_,?_,?_,by omega,by simp⟩;all_goals try exact zZz F
 rintro _ s2 h' ⟨k,rfl,rfl,e1,e2,e3,e7,hk,hp⟩ K2 hK2;simp only[ah,ao,Nat.reduceEqDiff, ↓reduceIte]at e1 e2 e3 e7;have F:=F5 F e1 e2 e3 e7;refine wk F ?_;refine cq F (fun c1=>?_) (fun c1=>?_)<;>(try exact c1.elim)<;>(refine wk F ?_)
 ·have c2:k<x.fo.length:=by omega
  obtain⟨f,hf,hfm⟩:=ac c2;have F:=F3 F c2 hf;try refine sq F ?_
  refine wk F ?_;(first|refine gq F (fun g1=>?_) (fun g1=>?_)|refine pq F (fun g1=>?_) (fun g1=>?_))<;>(try exact g1.elim)<;>(try refine sq F ?_)<;>(refine wk F ?_)
  ·refine cq F (fun c3=>?_) (fun c3=>?_)<;>(try exact c3.elim)<;>(refine wk F ?_)
   ·refine ee hQ F ?_;exact K9 (.bool _) ⟨by rw[St.nmd,oo hf (N7 ⟨g1,c3⟩)],rfl⟩
   ·refine hK2 _ _ _ (L8 ⟨k+1,rfl,aw,?_,?_,?_,?_,by omega,eb hf (N8 fun q=>c3 q.2) hp⟩) (by omega);all_goals try exact zZz F
  ·refine hK2 _ _ _ (L8 ⟨k+1,rfl,aw,?_,?_,?_,?_,by omega,eb hf (N8 fun q=>g1 q.1) hp⟩) (by omega);all_goals try exact zZz F
 ·rw[M4 (by omega)]at hp;refine ee hQ F ?_;exact K9 (.bool _) ⟨by rw[St.nmd,ow hp],rfl⟩
def St.emp(x:St)(i:Int):Bool:= !(x.fo.any fun f=>decide (f.inn=i))&& !(x.fe.any fun f=>decide (f.inn=i))
theorem sG(x:St)(i:Int)(hl:x.fo.length≤100000)(hl2:x.fe.length≤100000)(h:Heap):Sat (CT G) 129 [x.av,.int .i64 i] h (fun r h'=>r=.bool (x.emp i)∧h'=h):=by
 have hel:(x.fo.map Fo.av).length=x.fo.length:=L5 ..;have hel2:(x.fe.map Fe.av).length=x.fe.length:=L5 ..;have F:=F2 hel hel2;refine sb [.tmp 4] Tryz.func129 ?_;intro Q hQ;refine wk F ?_;refine lm (fun nL tL hL=>∃(k:Nat),x.fo.length-k=nL∧h++[.row 41 9 0 [x.av]]=hL∧tL 1=.int .i64 i∧tL 2=.hp h.length 0 0 0∧tL 5=.int .i64 k∧k≤x.fo.length∧(∀f∈x.fo.take k,decide (f.inn=i)=false)) ((fun(k:Nat)=>(x.fo.length-k:Nat)) (0)) ?_ ?_
 ·refine L8 ⟨0,rfl,aw,?_,?_,?_,by omega,by simp⟩;all_goals try exact zZz F
 rintro _ s2 h' ⟨k,rfl,rfl,e1,e2,e5,hk,hp⟩ K2 hK2;simp only[ah,ao,Nat.reduceEqDiff, ↓reduceIte]at e1 e2 e5;have F:=F4 F e1 e2 e5;refine wk F ?_;refine cq F (fun c1=>?_) (fun c1=>?_)<;>(try exact c1.elim)<;>(refine wk F ?_)
 ·have c2:k<x.fo.length:=by omega
  obtain⟨f,hf,hfm⟩:=ac c2;have F:=F3 F c2 hf;try refine sq F ?_
  refine wk F ?_;refine cq F (fun c3=>?_) (fun c3=>?_)<;>(try exact c3.elim)<;>(refine wk F ?_)
  ·refine ee hQ F ?_;exact K9 (.bool _) ⟨by rw[St.emp,oo hf (N7 c3)];rfl,rfl⟩
  ·refine hK2 _ _ _ (L8 ⟨k+1,rfl,aw,?_,?_,?_,by omega,eb hf (N8 c3) hp⟩) (by omega);all_goals try exact zZz F
 rw[M4 (by omega)]at hp;try refine sq F ?_
 refine wk F ?_;refine lm (fun nL tL hL=>∃(k:Nat),x.fe.length-k=nL∧h++[.row 41 9 0 [x.av]]=hL∧tL 1=.int .i64 i∧tL 2=.hp h.length 0 0 0∧tL 6=.int .i64 k∧k≤x.fe.length∧(∀f∈x.fe.take k,decide (f.inn=i)=false)) ((fun(k:Nat)=>(x.fe.length-k:Nat)) (0)) ?_ ?_
 ·refine L8 ⟨0,rfl,aw,?_,?_,?_,by omega,by simp⟩;all_goals try exact zZz F
 rintro _ s3 h' ⟨k,rfl,rfl,e1,e2,e6,hk,hp2⟩ K3 hK3;simp only[ah,ao,Nat.reduceEqDiff, ↓reduceIte]at e1 e2 e6;have F:=F4 F e1 e2 e6;refine wk F ?_;refine cq F (fun c2=>?_) (fun c2=>?_)<;>(try exact c2.elim)<;>(refine wk F ?_)
 ·have c3:k<x.fe.length:=by omega
  obtain⟨f,hf,hfm⟩:=ac c3;have F:=F3 F c3 hf;try refine sq F ?_
  refine wk F ?_;refine cq F (fun c4=>?_) (fun c4=>?_)<;>(try exact c4.elim)<;>(refine wk F ?_)
  ·refine ee hQ F ?_;exact K9 (.bool _) ⟨by rw[St.emp,oo hf (N7 c4)];simp,rfl⟩
  ·refine hK3 _ _ _ (L8 ⟨k+1,rfl,aw,?_,?_,?_,by omega,eb hf (N8 c4) hp2⟩) (by omega);all_goals try exact zZz F
 rw[M4 (by omega)]at hp2;refine ee hQ F ?_;exact K9 (.bool _) ⟨by rw[St.emp,ow hp,ow hp2];rfl,rfl⟩
theorem ur(l:List Bs)(g:Bs)(hl:l.length≤100000)(h:Heap):Sat (CT G) 132 [.sl 1 (l.map .str),.str g] h (fun r h'=>r=.bool (decide (g∈l))∧h'=h):=by
 have hel:(l.map AVal.str).length=l.length:=L5 ..;have F:=hel;refine sb [.tmp 4] Tryz.func132 ?_;intro Q hQ;refine wk F ?_;refine lm (fun nL tL hL=>∃(k:Nat),l.length-k=nL∧[]++h=hL∧tL 0=.sl 1 (l.map .str)∧tL 1=.str g∧tL 5=.int .i64 k∧k≤l.length∧g ∉ l.take k) ((fun(k:Nat)=>(l.length-k:Nat)) (0)) ?_ ?_
 ·refine L8 ⟨0,rfl,rfl,?_,?_,?_,by omega,by simp⟩;all_goals try exact zZz F
 rintro _ s2 h' ⟨k,rfl,rfl,e0,e1,e5,hk,hp⟩ K2 hK2;simp only[ah,ao,Nat.reduceEqDiff, ↓reduceIte]at e0 e1 e5;have F:=F4 F e0 e1 e5;refine wk F ?_;refine cq F (fun c1=>?_) (fun c1=>?_)<;>(try exact c1.elim)<;>(refine wk F ?_)
 ·have c2:k<l.length:=by omega
  obtain⟨f,hf,hfm⟩:=ac c2;have F:=F3 F c2 hf;try refine sq F ?_
  refine wk F ?_;refine cq F (fun c3=>?_) (fun c3=>?_)<;>(try exact c3.elim)<;>(refine wk F ?_)
  ·refine ee hQ F ?_;exact O9 (.bool _) ⟨by rw[N7 (by rw[← c3];exact hfm)],rfl⟩
  ·have hp1:g ∉ l.take (k+1):=by
    rw[O7,hf];intro q;simp at q;rcases q with q|q
    ·exact hp q
    ·exact c3 q.symm
   refine hK2 _ _ _ (L8 ⟨k+1,rfl,rfl,?_,?_,?_,by omega,hp1⟩) (by omega);all_goals try exact zZz F
 ·rw[M4 (by omega)]at hp;refine ee hQ F ?_;exact O9 (.bool _) ⟨by rw[N8 hp],rfl⟩
def topI(a b:Int):Int:=if a>b then a else b
theorem cH(a b:Int)(h:Heap):Sat (CT G) 134 [.int .i64 a,.int .i64 b] h (fun r h'=>r=.int .i64 (topI a b)∧h'=h):=by
 refine sb [.tmp 4] Tryz.func134 ?_;intro Q hQ;refine wk trivial ?_;refine cq trivial (fun c=>?_) (fun c=>?_)<;>(try exact c.elim)<;>(refine wk trivial ?_)
 ·refine ee hQ trivial ?_;exact O9 (.int _ _) ⟨by rw[topI,L7 (by omega)],rfl⟩
 ·refine ee hQ trivial ?_;exact O9 (.int _ _) ⟨by rw[topI,K4 (by omega)],rfl⟩
def St.dpW(x:St):Nat→Int→Nat→Nat
 |0,id,n=>if id=0 then n else 8
 |k+1,id,n=>if id=0 then n else match fnd (·.id) x.fo id with
  |none=>8
  |some f=>x.dpW k f.inn (n+1)
def St.deep(x:St)(id:Int):Nat:=match fnd (·.id) x.fo id with
 |none=>0
 |some _=>x.dpW 7 id 0
theorem ut(x:St)(id:Int)(hl:x.fo.length≤100000)(h:Heap):Sat (CT G) 127 [x.av,.int .i64 id] h (fun r h'=>r=.int .i64 (x.deep id)∧h'=h):=by
 have hel:(x.fo.map Fo.av).length=x.fo.length:=L5 ..;have hF:=fun i=>cT G x i hl
 cases hf0:fnd (·.id) x.fo id with
 |none=>
  have h0:=hF id;rw[gA hf0]at h0;have dm:∀i:Decidable True, @decide True i=true:=fun i=>N7 trivial
  have F:=dm;refine sb [.tmp 4] Tryz.func127 ?_;intro Q hQ;refine wk F ?_;refine kq F (h0 _) ?_;refine ee hQ F ?_;exact K9 (.int _ _) ⟨by rw[St.deep,hf0];rfl,rfl⟩
 |some f0=>
  obtain⟨k0,q1,q2,q3⟩:=bn hf0;have h0:=hF id;rw[q2]at h0;have hdp:x.deep id=x.dpW 7 id 0:=by rw[St.deep,hf0]
  rw[hdp];have F:=hel;refine sb [.tmp 4] Tryz.func127 ?_;intro Q hQ;refine wk F ?_;refine kq F (h0 _) ?_;have ck:decide ((k0:Int)<0)=false:=by simp
  have F:=F2 F ck;try refine sq F ?_
  refine wk F ?_;refine lm (fun nL tL hL=>∃(n:Nat) (i:Int),8-n=nL∧h++[.row 41 9 0 [x.av]]=hL∧tL 1=.int .i64 i∧tL 2=.hp h.length 0 0 0∧tL 5=.int .i64 n∧n≤7∧x.dpW (7-n) i n=x.dpW 7 id 0) ((fun(n:Nat) (i:Int)=>(8-n:Nat)) (0) (id)) ?_ ?_
  ·refine L8 ⟨0,id,rfl,aw,?_,?_,?_,by omega,rfl⟩;all_goals try exact zZz F
  rintro _ s2 h' ⟨n,i,rfl,rfl,e1,e2,e5,hn,hv⟩ K2 hK2;simp only[ah,ao,Nat.reduceEqDiff, ↓reduceIte]at e1 e2 e5;have F:=F4 F e1 e2 e5;refine wk F ?_;refine cq F (fun c1=>?_) (fun c1=>?_)<;>(try exact c1.elim)<;>(refine wk F ?_)
  ·have hi0:¬i=0:=(by first|exact c1|omega);cases hf:fnd (·.id) x.fo i with
   |none=>
    have h1:=hF i;rw[gA hf]at h1;have h8:x.dpW (7-n) i n=8:=by
     cases hk:7-n with
     |zero=>rw[St.dpW,K4 hi0]
     |succ k=>rw[St.dpW,K4 hi0,hf]
    have dm:∀i:Decidable True, @decide True i=true:=fun i=>N7 trivial
    have F:=F2 F dm;(try refine sq F ?_);refine wk F ?_;refine kq F (h1 _) ?_;refine ee hQ F ?_;exact K9 (.int _ _) ⟨by rw[← hv,h8];rfl,rfl⟩
   |some f=>
    obtain⟨k1,p1,p2,p3⟩:=bn hf;have h1:=hF i;rw[p2]at h1;have hkl:k1<x.fo.length:=(f9.1 p1).1;have d1:decide ((k1:Int)<0)=false:=(by simp);by_cases c7:n=7
    ·have d7:((n:Int)==7)=true:=(by simp;omega);have h8:x.dpW (7-n) i n=8:=by
      rw[c7];rw[St.dpW,K4 hi0]
     have F:=F3 F d1 d7;(try refine sq F ?_);refine wk F ?_;refine kq F (h1 _) ?_;refine ee hQ F ?_;exact K9 (.int _ _) ⟨by rw[← hv,h8];rfl,rfl⟩
    ·have d7:((n:Int)==7)=false:=(by simp;omega);have hst:x.dpW (7-(n+1)) f.inn (n+1)=x.dpW 7 id 0:=by
      rw[← hv,show 7-n=(7-(n+1))+1 by omega,St.dpW,K4 hi0,hf]
     have F:=F5 F d1 d7 p1 hkl;(try refine sq F ?_);refine wk F ?_;refine kq F (h1 _) ?_;refine hK2 _ _ _ (L8 ⟨n+1,f.inn,rfl,aw,?_,?_,?_,by omega,hst⟩) (by omega);all_goals try exact zZz F
  ·have hi0:i=0:=(by first|exact c1|omega);have h8:x.dpW (7-n) i n=n:=by
    cases hk:7-n with
    |zero=>rw[St.dpW,L7 hi0]
    |succ k=>rw[St.dpW,L7 hi0]
   refine ee hQ F ?_;exact K9 (.int _ _) ⟨by rw[← hv,h8],rfl⟩
end
section
attribute [local irreducible] WP WPl WPix Sat
def tgR(g:Bs):List Bs→Bool→List Bs
 | [],d=>if d then []else [g]
 |a::l,d=>if !d&&Op.bytesLess g a then g::((if a=g then []else [a])++tgR g l true)else(if a=g then []else [a])++tgR g l d
theorem mY(g:Bs)(l:List Bs):tgR g l true=l.filter fun a=>decide (a≠g):=by
 induction l with
 |nil=>rfl
 |cons a l ih=>
  rw[tgR,ih,V8];by_cases h:a=g<;>simp[h]
theorem zy{g:Bs}{l:List Bs}(h:∀b∈l,Op.bytesLess g b=true):tgR g l false=g::l:=by
 cases l with
 |nil=>rfl
 |cons b l=>
  have hb:=h b (by simp);have hne:¬b=g:=fun e=>by rw[e,cF]at hb;cases hb
  rw[tgR,hb,mY];simp only[Bool.not_false,Bool.and_self,if_true,hne,if_false,Y5,Z7,true_and];rw[T7];intro c hc;have hc2:=h c (by simp[hc]);simp only[K8];intro e;rw[e,cF]at hc2;cases hc2
theorem lB{g:Bs}{l:List Bs}(h:g ∉ l):(l.filter fun a=>decide (a≠g))=l:=by
 rw[T7];intro c hc;simp only[K8];rintro rfl;exact h hc
theorem uu{g:Bs}:∀{l:List Bs},Srt l→tgR g l false=if g∈l then l else l.take (lbF l g)++g::l.drop (lbF l g)
 | [],_=>by simp[tgR]
 |a::l,hs=>by
  have hs':=hs;unfold Srt at hs';rw[V0]at hs';rw[fA];cases hag:Op.bytesLess a g with
  |true=>
   have hne:¬a=g:=fun e=>by rw[e,cF]at hag;cases hag
   have hga:Op.bytesLess g a=false:=by
    cases hq:Op.bytesLess g a with
    |false=>rfl
    |true=>have:=fy hag hq;rw[cF]at this;cases this
   have hm:(g∈a::l)=(g∈l):=(by rw[N0];exact propext ⟨fun q=>q.resolve_left fun e=>hne e.symm,.inr⟩);rw[tgR,hga,uu hs'.2];simp only[Bool.and_false,O0,if_false,hne,if_true,hm,Y5];split<;>simp
  |false=>
   simp only[O0,if_false,Q8,W3,O5];by_cases he:a=g
   ·subst he;rw[tgR,hag,zy hs'.1];simp
   ·have hga:Op.bytesLess g a=true:=by
     cases hq:Op.bytesLess g a with
     |true=>rfl
     |false=>exact(he (o0 a g hag hq)).elim
    have hgl:g ∉ a::l:=by
     intro q;rcases N0.1 q with q|q
     ·exact he q.symm
     ·have:=fy hga (hs'.1 g q);rw[cF]at this;cases this
    rw[K4 hgl,tgR,hga,mY,lB (fun q=>hgl (Q1 _ q))];simp[he]
theorem qB{g:Bs}:∀{l:List Bs},Srt l→tgR g l true=if g∈l then l.take (lbF l g)++l.drop (lbF l g+1)else l
 | [],_=>by simp[tgR]
 |a::l,hs=>by
  have hs':=hs;unfold Srt at hs';rw[V0]at hs';by_cases hm:g∈a::l
  ·rw[L7 hm,fA];cases hag:Op.bytesLess a g with
   |true=>
    have hne:¬a=g:=fun e=>by rw[e,cF]at hag;cases hag
    have hl:g∈l:=(N0.1 hm).resolve_left fun e=>hne e.symm
    have ih:=qB (g:=g) hs'.2;rw[L7 hl]at ih;rw[tgR,ih];simp[hne]
   |false=>
    have he:a=g:=by
     rcases N0.1 hm with q|q
     ·exact q.symm
     ·have:=hs'.1 g q;rw[hag]at this;cases this
    subst he;have hl:a ∉ l:=fun q=>by have:=hs'.1 a q;rw[cF]at this;cases this
    rw[mY,V8,lB hl];simp
  ·rw[K4 hm,mY,lB hm]
theorem zz{l:List Bs}(hs:Srt l)(g:Bs){n:Int}(hn:n=0∨n=1):tgR g l (!(n==1))=tgF l g n:=by
 unfold tgF;rcases hn with rfl|rfl
 ·rw[show(!((0:Int)==1))=true from rfl,qB hs];by_cases h:g∈l
  ·rw[L7 h,K4 (fun q=>absurd q.1 (by decide)),L7 ⟨rfl,h⟩]
  ·rw[K4 h,K4 (fun q=>absurd q.1 (by decide)),K4 (fun q=>h q.2)]
 ·rw[show(!((1:Int)==1))=false from rfl,uu hs];by_cases h:g∈l
  ·rw[L7 h,K4 (fun q=>q.2 h),K4 (fun q=>absurd q.1 (by decide))]
  ·rw[K4 h,L7 ⟨rfl,h⟩]
variable (G:Nat→Option (List AVal))
theorem uv(l:List Bs)(g:Bs)(w:Bool)(hl:l.length≤100000)(h:Heap):Sat (CT G) 97 [.sl 1 (l.map .str),.str g,.bool w] h (fun r h'=>r=.sl 1 ((tgR g l (!w)).map .str)∧h'=h):=by
 have hel:(l.map AVal.str).length=l.length:=L5 ..;have F:=hel;refine sb [.tmp 6] Tryz.func97 ?_;intro Q hQ;refine wk F ?_;refine lm (fun nL tL hL=>∃(i v:Nat) (acc:List Bs) (d:Bool),l.length-i=nL∧h++[.row 9 1 v (acc.map .str)]=hL∧tL 0=.sl 1 (l.map .str)∧tL 1=.str g∧tL 7=.hs h.length v 0 acc.length true∧tL 8=.bool d∧tL 9=.int .i64 i∧i≤l.length∧acc.length≤2*i∧acc++tgR g (l.drop i) d=tgR g l (!w)) ((fun(i v:Nat) (acc:List Bs) (d:Bool)=>(l.length-i:Nat)) (0) (0) ([]) (!w)) ?_ ?_
 ·refine⟨_,_,W9 7 9 1 (by simp) (by omega) (by exact zq F),⟨0,0,[], !w,rfl,aw,?_,?_,?_,?_,?_,by omega,by simp,rfl⟩⟩;all_goals try exact zZz F
 rintro _ s2 h' ⟨i,v,acc,d,rfl,rfl,e0,e1,e7,e8,e9,hi,hac,hp⟩ K2 hK2;simp only[ah,ao,Nat.reduceEqDiff, ↓reduceIte]at e0 e1 e7 e8 e9;have F:=F6 F e0 e1 e7 e8 e9;refine wk F ?_;refine cq F (fun c1=>?_) (fun c1=>?_)<;>(try exact c1.elim)<;>(refine wk F ?_)
 ·have c2:i<l.length:=by omega
  obtain⟨y,hy,_⟩:=ac c2;rw[aB hy,tgR]at hp;have hd:=two d;have he:=two (y==g);rcases hd with hd|hd<;>subst hd
  ·simp only[za1,Bool.false_and,O0,if_false]at hp;rcases he with he|he
   ·have he2:y=g:=(by simpa using he);rw[L7 he2,O5]at hp;have F:=F4 F c2 hy he;(try refine sq F ?_);refine wk F ?_;refine hK2 _ _ _ (L8 ⟨i+1,v,acc,true,rfl,rfl,?_,?_,?_,?_,?_,by omega,by omega,hp⟩) (by omega);all_goals try exact zZz F
   ·have he2:¬y=g:=(by simpa using he);rw[K4 he2,Y5]at hp;have F:=F4 F c2 hy he;(try refine sq F ?_);refine wk F ?_;refine aq F ?_;(try refine sq F ?_);refine wk F ?_;refine hK2 _ _ _ (L8 ⟨i+1,v+1,acc++[y],true,rfl,by simp,?_,?_,?_,?_,?_,by omega,by simp;omega,by rw[← hp];simp⟩) (by omega);all_goals try exact zZz F
  ·have hb:=two (Op.bytesLess g y);rcases hb with hb|hb<;>rcases he with he|he
   ·have he2:y=g:=(by simpa using he);rw[he2,cF]at hb;cases hb
   ·have he2:¬y=g:=(by simpa using he);rw[hb,L7 (by simp),K4 he2,Y5]at hp;have F:=F5 F c2 hy hb he;(try refine sq F ?_);refine wk F ?_;refine aq F ?_;(try refine sq F ?_);refine wk F ?_;refine aq F ?_;(try refine sq F ?_);refine wk F ?_;refine hK2 _ _ _ (L8 ⟨i+1,v+1+1,acc++[g]++[y],true,rfl,by simp,?_,?_,?_,?_,?_,by omega,by simp;omega,by rw[← hp];simp⟩) (by omega);all_goals try exact zZz F
   ·have he2:y=g:=(by simpa using he);rw[hb,K4 (by simp),L7 he2,O5]at hp;have F:=F5 F c2 hy hb he;(try refine sq F ?_);refine wk F ?_;refine hK2 _ _ _ (L8 ⟨i+1,v,acc,false,rfl,rfl,?_,?_,?_,?_,?_,by omega,by omega,hp⟩) (by omega);all_goals try exact zZz F
   ·have he2:¬y=g:=(by simpa using he);rw[hb,K4 (by simp),K4 he2,Y5]at hp;have F:=F5 F c2 hy hb he;(try refine sq F ?_);refine wk F ?_;refine aq F ?_;(try refine sq F ?_);refine wk F ?_;refine hK2 _ _ _ (L8 ⟨i+1,v+1,acc++[y],false,rfl,by simp,?_,?_,?_,?_,?_,by omega,by simp;omega,by rw[← hp];simp⟩) (by omega);all_goals try exact zZz F
 ·rw[aF (by omega),tgR]at hp;have hd:=two d;rcases hd with hd|hd
  ·subst hd;(try refine sq F ?_);refine wk F ?_;refine ee hQ F ?_;simp only[if_true,O1]at hp;rw[← hp];have hg:getRow (h++[.row 9 1 v (acc.map .str)]) h.length v=some (9,1,acc.map .str):=(by rw[aS _ rfl];simp[getRow]);exact za6 (jx (M0 _) hg) ⟨rfl,rfl⟩
  ·subst hd;(try refine sq F ?_);refine wk F ?_;refine aq F ?_;(try refine sq F ?_);refine wk F ?_;refine ee hQ F ?_;simp only[O0,if_false]at hp;rw[← hp];have hg:getRow (h++[.row 9 1 (v+1) ((acc++[g]).map .str)]) h.length (v+1)=some (9,1,(acc++[g]).map .str):=(by rw[aS _ rfl];simp[getRow]);have hz:=za6 (R:=fun r h'=>r=.sl 1 ((acc++[g]).map AVal.str)∧h'=h) (jx (M0 _) hg) ⟨rfl,rfl⟩;simpa using hz
end
section
attribute [local irreducible] WP WPl WPix Sat
section
theorem mZ{α:Type}{key:α→Int}{l:List α}{id:Int}{o:Option α}(h:fnd key l id=o):decide (posF key l id<0)= !o.isSome:=by
 subst h;cases hf:fnd key l id with
 |none=>rw[gA hf];rfl
 |some a=>obtain⟨k,_,h2,_⟩:=bn hf;rw[h2];simp
theorem fa{α:Type}{key:α→Int}{l:List α}{id:Int}{o:Option α}(h:fnd key l id=o):decide (posF key l id≥0)=o.isSome:=by
 subst h;cases hf:fnd key l id with
 |none=>rw[gA hf];rfl
 |some a=>obtain⟨k,_,h2,_⟩:=bn hf;rw[h2];simp
variable {s:PS} {e:Ev}
theorem zA(hI:s.Inv):∀{k:Nat} {id:Int} {d n:Nat},(id=0∨(lkM s.fo id).isSome=true)→deepO s.fo k id=some d→s.tell.dpW k id n=n+d:=by
 intro k;induction k with
 |zero=>
  intro id d n hv hd;rw[deepO]at hd;split at hd
  ·cases hd
  ·rename_i hs;cases hd;rcases hv with hv|hv
   ·rw[St.dpW,L7 hv];rfl
   ·exact(hs hv).elim
 |succ k ih=>
  intro id d n hv hd;by_cases h0:id=0
  ·subst h0;rw[deepO,hI.no0]at hd;cases hd;rw[St.dpW,L7 rfl];rfl
  ·obtain⟨f,hf⟩:=M8.1 (hv.resolve_left h0);rw[deepO,hf]at hd;simp only[N3]at hd;obtain⟨j,hj,rfl⟩:=hd;rw[St.dpW,K4 h0,hI.fndFo,hf];simp only;rw[ih (hI.u1 _ _ hf) hj];omega
theorem wQ(hI:s.Inv)(id:Int):s.tell.deep id=s.dpt id:=by
 unfold St.deep;rw[hI.fndFo];obtain⟨h1,_⟩:=hI.deep id;cases hf:lkM s.fo id with
 |none=>
  rw[deepO,hf]at h1;simp only[N2]at h1;exact h1
 |some f=>
  simp only;rw[zA hI (.inr (by rw[hf];rfl)) h1];omega
theorem zB(hI:s.Inv)(hN:s.Nam)(i:Int)(g:Bs):(!s.tell.nmd i g)=((lkM s.nm (i,g)).getD 0==0):=by
 have h1:s.tell.nmd i g=(lkM s.nm (i,g)).isSome:=by
  unfold St.nmd;rw[P6,Y4];constructor
  ·rintro⟨f,hf,hp⟩;obtain⟨k,hk⟩:=aK hf;have:=hN.n2 k f hk;simp only[K8]at hp;rw[hp.1,hp.2]at this;rw[this];rfl
  ·intro hs;obtain⟨k,hk⟩:=M8.1 hs;obtain⟨f,hf,hp⟩:=hN.n1 _ _ hk;refine⟨f,bG hf,?_⟩;simp only[K8];cases hp;exact⟨rfl,rfl⟩
 rw[h1];cases hl:lkM s.nm (i,g)with
 |none=>rfl
 |some j=>
  have:=hN.nm1 hI hl;rw[P6];simp;omega
theorem zC(hI:s.Inv)(hN:s.Nam)(u:Bs):s.tell.plc u=(lkM s.pl u).getD 0:=by
 unfold St.plc;cases hf:s.tell.fe.find? fun f=>decide (f.url=u)with
 |none=>
  cases hl:lkM s.pl u with
  |none=>rfl
  |some k=>
   obtain⟨f,hk,hu⟩:=hN.p1 _ _ hl;have:=Y9.1 hf f (bG hk);simp[hu]at this
 |some f=>
  have h1:=List.find?_some hf;obtain⟨k,hk⟩:=aK (Z2 hf);simp only[K8]at h1;have:=hN.p2 k f hk;rw[h1]at this;rw[this];simp only[Q3,Q0];exact(hI.i2 _ _ hk).1
theorem zD(hI:s.Inv)(hN:s.Nam)(i:Int)(g:Bs):s.tell.gid i g=(lkM s.gu (i,g)).getD 0:=by
 unfold St.gid;cases hf:s.tell.it.find? fun t=>decide (t.feed=i∧t.guid=g)with
 |none=>
  cases hl:lkM s.gu (i,g)with
  |none=>rfl
  |some k=>
   obtain⟨t,hk,hu⟩:=hN.g1 _ _ hl;have:=Y9.1 hf t (bG hk);cases hu;simp at this
 |some t=>
  have h1:=List.find?_some hf;obtain⟨k,hk⟩:=aK (Z2 hf);simp only[K8]at h1;have:=hN.g2 k t hk;rw[h1.1,h1.2]at this;rw[this];simp only[Q3,Q0];exact(hI.i3 _ _ hk).1
theorem zE(hI:s.Inv){a:Int}(ha:a≠0):s.tell.emp a=((lkM s.he a).getD 0==0):=by
 have h1:=hI.hd a ha;have hz:∀{α:Type} (z:α) (w:α→Int) (p:α→Bool) (l:ML Int α),(∀x,w x=if p x then 1 else 0)→(l.map (·.1)).Nodup→(((valsM z l).any p)=false↔sumM w l=0):=fun {α} z w p l hw hn=>by
  have hnn:∀x,0≤w x:=fun x=>by rw[hw];split<;>omega
  constructor
  ·intro h;have:∀e∈l,w e.2.1=0:=fun e he=>by
    have hm:e.2.1∈valsM z l:=bG (bT hn (b:=e.2.2) he);have:=W2.1 h _ hm;rw[hw];simp[this]
   clear h hn;induction l with
   |nil=>rfl
   |cons e l ih=>rw[sumM,this e (by simp),ih fun x hx=>this x (by simp[hx])];rfl
  ·intro h;rw[W2];intro x hx;obtain⟨k,hk⟩:=aK hx;have:=o3 hnn (by omega:sumM w l≤0) hk;rw[hw]at this;intro hp;rw[L7 hp]at this;cases this
 have hz1:=hz Fo.z (inFo a) (fun f=>decide (f.inn=a)) s.fo (fun x=>by unfold inFo;simp) hI.w1.keys;have hz2:=hz Fe.z (inFe a) (fun f=>decide (f.inn=a)) s.fe (fun x=>by unfold inFe;simp) hI.w2.keys;have n1:=cN (gw a) s.fo;have n2:=cN (gx a) s.fe;rw[h1];unfold St.emp
 change (!((valsM Fo.z s.fo).any fun f=>decide (f.inn=a))&& !((valsM Fe.z s.fe).any fun f=>decide (f.inn=a)))=_
 rw[P6];simp only[K5,O6,beq_iff_eq];rw[hz1,hz2];omega
theorem sH(s:PS):s.tell.fo.length=s.fo.length∧s.tell.fe.length=s.fe.length∧s.tell.it.length=s.it.length∧s.tell.se.length=s.se.length:=⟨aM _,aM _,aM _,aM _⟩
theorem gB(n m:Nat):decide ((n:Int)<(m:Int))=decide (n<m):=by rw[decide_eq_decide];omega
theorem FW(hI:s.Inv)(hN:s.Nam)(hck:L0.ck e=true)(k:e.kind=1):s.ok L0 e=((decide (posF (·.id) s.tell.fo e.a<0))&&(decide ((s.tell.fo.length:Int)<64))&&(s.within e.b)&&(decide ((s.tell.deep e.b:Int)<7))&&(!s.tell.nmd e.b e.s)):=by
 have q1:decide ((s.fo.length:Int)<64)=decide (s.fo.length<64):=gB _ _;have q2:decide (((s.dpt e.b):Int)<7)=decide ((s.dpt e.b)<7):=gB _ _;unfold PS.ok PS.fits;rw[hck,L7 k,mZ (hI.fndFo e.a),zB hI hN,wQ hI,(sH s).1,S3,q1,q2]
theorem FX(hI:s.Inv)(hN:s.Nam)(hck:L0.ck e=true)(k:e.kind=2):s.ok L0 e=((decide (posF (·.id) s.tell.fo e.a≥0))&&(s.tell.emp e.a)):=by
 have ha:1≤e.a:=by
  unfold Leaf.ck at hck;simp only[K5]at hck;exact(fC hck.1 (by omega)).1
 unfold PS.ok PS.fits;rw[hck,K4 (by omega),L7 k,fa (hI.fndFo e.a),zE hI (by omega),S3]
theorem FY(hI:s.Inv)(hN:s.Nam)(hck:L0.ck e=true)(k:e.kind=3):s.ok L0 e=((decide (posF (·.id) s.tell.fe e.a<0))&&(decide ((s.tell.fe.length:Int)<64))&&(s.within e.b)&&(s.tell.plc e.s==0)):=by
 have q1:decide ((s.fe.length:Int)<64)=decide (s.fe.length<64):=gB _ _;unfold PS.ok PS.fits;rw[hck,K4 (by omega),K4 (by omega),L7 k,mZ (hI.fndFe e.a),zC hI hN,(sH s).2.1,S3,q1]
theorem FZ(hI:s.Inv)(hN:s.Nam)(hck:L0.ck e=true)(k:e.kind=4):s.ok L0 e=((decide (posF (·.id) s.tell.fe e.a≥0))):=by
 unfold PS.ok PS.fits;rw[hck,K4 (by omega),K4 (by omega),K4 (by omega),L7 (.inl k),fa (hI.fndFe e.a),S3]
theorem G0(hI:s.Inv)(hN:s.Nam)(hck:L0.ck e=true)(k:e.kind=5):s.ok L0 e=((decide (posF (·.id) s.tell.fe e.a≥0))):=by
 unfold PS.ok PS.fits;rw[hck,K4 (by omega),K4 (by omega),K4 (by omega),L7 (.inr k),fa (hI.fndFe e.a),S3]
theorem G1(hI:s.Inv)(hN:s.Nam)(hck:L0.ck e=true)(k:e.kind=6):s.ok L0 e=((decide (posF (·.id) s.tell.fe e.a≥0))&&(s.within e.b)):=by
 unfold PS.ok PS.fits;rw[hck,K4 (by omega),K4 (by omega),K4 (by omega),K4 (by omega),L7 k,fa (hI.fndFe e.a),S3]
theorem G2(hI:s.Inv)(hN:s.Nam)(hck:L0.ck e=true)(k:e.kind=7):s.ok L0 e=((decide (posF (·.id) s.tell.it e.a<0))&&(decide ((s.tell.it.length:Int)<1024))&&(decide (posF (·.id) s.tell.fe e.b≥0))&&(s.tell.gid e.b e.s==0)):=by
 have q1:decide ((s.it.length:Int)<1024)=decide (s.it.length<1024):=gB _ _;unfold PS.ok PS.fits;rw[hck,K4 (by omega),K4 (by omega),K4 (by omega),K4 (by omega),K4 (by omega),L7 k,mZ (hI.fndIt e.a),fa (hI.fndFe e.b),zD hI hN,(sH s).2.2.1,S3,q1]
theorem G3(hI:s.Inv)(hN:s.Nam)(hck:L0.ck e=true)(k:e.kind=8):s.ok L0 e=((decide (posF (·.id) s.tell.it e.a≥0))):=by
 unfold PS.ok PS.fits;rw[hck,K4 (by omega),K4 (by omega),K4 (by omega),K4 (by omega),K4 (by omega),K4 (by omega),L7 (.inl k),fa (hI.fndIt e.a),S3]
theorem G4(hI:s.Inv)(hN:s.Nam)(hck:L0.ck e=true)(k:e.kind=9):s.ok L0 e=((decide (posF (·.id) s.tell.it e.a≥0))):=by
 unfold PS.ok PS.fits;rw[hck,K4 (by omega),K4 (by omega),K4 (by omega),K4 (by omega),K4 (by omega),K4 (by omega),L7 (.inr k),fa (hI.fndIt e.a),S3]
theorem C2(hI:s.Inv)(hN:s.Nam)(hck:L0.ck e=true)(k:e.kind=11):s.ok L0 e=((decide (posF (·.id) s.tell.se e.a<0))&&(decide ((s.tell.se.length:Int)<32))):=by
 have q1:decide ((s.se.length:Int)<32)=decide (s.se.length<32):=gB _ _;unfold PS.ok PS.fits;rw[hck,K4 (by omega),K4 (by omega),K4 (by omega),K4 (by omega),K4 (by omega),K4 (by omega),K4 (by omega),K4 (by omega),L7 k,mZ (hI.fndSe e.a),(sH s).2.2.2,S3,q1]
theorem C3(hI:s.Inv)(hN:s.Nam)(hck:L0.ck e=true)(k:e.kind=12):s.ok L0 e=((decide (posF (·.id) s.tell.se e.a≥0))):=by
 unfold PS.ok PS.fits;rw[hck,K4 (by omega),K4 (by omega),K4 (by omega),K4 (by omega),K4 (by omega),K4 (by omega),K4 (by omega),K4 (by omega),K4 (by omega),L7 k,fa (hI.fndSe e.a),S3]
theorem G5(hI:s.Inv)(hN:s.Nam)(hck:L0.ck e=true)(k1:¬e.kind=1)(k2:¬e.kind=2)(k3:¬e.kind=3)(k4:¬e.kind=4)(k5:¬e.kind=5)(k6:¬e.kind=6)(k7:¬e.kind=7)(k8:¬e.kind=8)(k9:¬e.kind=9)(k11:¬e.kind=11)(k12:¬e.kind=12)(k10:¬e.kind=10):s.ok L0 e=decide (e.n≥s.clock):=by
 unfold PS.ok PS.fits;rw[hck,K4 k1,K4 k2,K4 k3,K4 (by omega),K4 k6,K4 k7,K4 (by omega),K4 k10,K4 k11,K4 k12,S3]
end
variable (G:Nat→Option (List AVal))
theorem aX(hc:GClo (CT G)){s:PS}(hI:s.Inv)(hN:s.Nam)(e:Ev)(h:Heap):Sat (CT G) 92 [s.tell.av,e.av] h (fun r h'=>r=.bool (s.ok L0 e)∧h'=h):=by
 have hl1:s.tell.fo.length≤100000:=by have:=hI.up.l1;omega
 have hl2:s.tell.fe.length≤100000:=by have:=hI.up.l2;omega
 have hl3:s.tell.it.length≤100000:=by have:=hI.up.l3;omega
 have hl4:s.tell.se.length≤100000:=by have:=aM (z:=Se.z) s.se;have:=hI.l4;show(valsM Se.z s.se).length≤_;omega
 have hm1:(s.tell.fo.map Fo.av).length=s.tell.fo.length:=L5 ..;have hm2:(s.tell.fe.map Fe.av).length=s.tell.fe.length:=L5 ..;have hm3:(s.tell.it.map It.av).length=s.tell.it.length:=L5 ..;have hm4:(s.tell.se.map Se.av).length=s.tell.se.length:=L5 ..;have hcl:s.tell.clock=s.clock:=rfl;have hB:=cT G s.tell e.b hl1;have hw:=fa (hI.fndFo e.b);have hC:=sD G hc e;cases hck:L0.ck e with
 |false=>
  rw[hck]at hC;refine sb [.tmp 4] Tryz.func92 ?_;intro Q hQ;(repeat (first|refine w1 (fun K hK=>?_)|refine w2 ?_|refine w3 ?_| ((first|refine w4 ?_|refine wD ?_|refine w5 ?_|refine w6 ?_|refine w7 ?_);try refine sq trivial ?_)| (refine w8 ?_;refine sq trivial ?_;refine w9 ?_)| ((first|refine hK _ _ (w0 ?_)| (clear hK K;refine hK _ _ (w0 ?_))| (clear hK K;clear hK K;refine hK _ _ (w0 ?_)));clear hK K)))
  refine(hC _).mono ?_;rintro r h' ⟨rfl,rfl⟩;try refine sq trivial ?_
  (repeat (first|refine w1 (fun K hK=>?_)|refine w2 ?_|refine w3 ?_| ((first|refine w4 ?_|refine wD ?_|refine w5 ?_|refine w6 ?_|refine w7 ?_);try refine sq trivial ?_)| (refine w8 ?_;refine sq trivial ?_;refine w9 ?_)| ((first|refine hK _ _ (w0 ?_)| (clear hK K;refine hK _ _ (w0 ?_))| (clear hK K;clear hK K;refine hK _ _ (w0 ?_)));clear hK K)))
  refine ee hQ trivial ?_;exact K9 (.bool _) ⟨by simp[PS.ok,PS.fits,hck],rfl⟩
 |true=>
  rw[hck]at hC;refine sb [.tmp 4] Tryz.func92 ?_;intro Q hQ;(repeat (first|refine w1 (fun K hK=>?_)|refine w2 ?_|refine w3 ?_| ((first|refine w4 ?_|refine wD ?_|refine w5 ?_|refine w6 ?_|refine w7 ?_);try refine sq trivial ?_)| (refine w8 ?_;refine sq trivial ?_;refine w9 ?_)))
  refine hK _ _ (L8 ?_);clear hK K;(repeat (first|refine w1 (fun K hK=>?_)|refine w2 ?_|refine w3 ?_| ((first|refine w4 ?_|refine wD ?_|refine w5 ?_|refine w6 ?_|refine w7 ?_);try refine sq trivial ?_)| (refine w8 ?_;refine sq trivial ?_;refine w9 ?_)))
  refine(hC _).mono ?_;rintro r h' ⟨rfl,rfl⟩;try refine sq trivial ?_
  (repeat (first|refine w1 (fun K hK=>?_)|refine w2 ?_|refine w3 ?_| ((first|refine w4 ?_|refine wD ?_|refine w5 ?_|refine w6 ?_|refine w7 ?_);try refine sq trivial ?_)| (refine w8 ?_;refine sq trivial ?_;refine w9 ?_)| ((first|refine hK _ _ (w0 ?_)| (clear hK K;refine hK _ _ (w0 ?_))| (clear hK K;clear hK K;refine hK _ _ (w0 ?_)));clear hK K)))
  generalize hH:h++[.row 41 9 0 [s.tell.av],.row 34 7 0 [e.av]]=H;have key:∀(T:Env) (y:Bool),T 2=.hp h.length 0 0 0→T 3=.hp (h.length+1) 0 0 0→T 5=.bool y→y=s.within e.b→K T H:=by
   subst hH;intro T y e2 e3 e5 hy;by_cases k1:e.kind=1
   ·have hres:s.ok L0 e=((decide (posF (·.id) s.tell.fo e.a<0))&&(decide ((s.tell.fo.length:Int)<64))&&(y)&&(decide ((s.tell.deep e.b:Int)<7))&&(!s.tell.nmd e.b e.s)):=(by subst hy;exact FW hI hN hck k1);have ht:=IZ (decide (posF (·.id) s.tell.fo e.a<0)) (decide ((s.tell.fo.length:Int)<64)) (y) (decide ((s.tell.deep e.b:Int)<7));rcases ht with ht|ht|ht|ht|ht;all_goals (
     have F:=j8 e2 e3 e5 hm1 hm2 hm3 hm4 hcl k1 ht;refine hK _ _ (L8 ?_);clear hK K;refine wk F ?_;repeat (first|refine kq F (cT G s.tell e.a hl1 _) ?_|refine kq F (ut G s.tell e.b hl1 _) ?_|refine kq F (sF G s.tell e.b e.s hl1 _) ?_)
     refine ee hQ F ?_;refine K9 (.bool _) ⟨?_,rfl⟩;rw[hres];simp[ht])
   by_cases k2:e.kind=2
   ·have hres:s.ok L0 e=((decide (posF (·.id) s.tell.fo e.a≥0))&&(s.tell.emp e.a)):=(by subst hy;exact FX hI hN hck k2);have ht:=om (decide (posF (·.id) s.tell.fo e.a≥0));rcases ht with ht|ht;all_goals (
     have F:=j8 e2 e3 e5 hm1 hm2 hm3 hm4 hcl k2 ht;refine hK _ _ (L8 ?_);clear hK K;refine wk F ?_;repeat (first|refine kq F (cT G s.tell e.a hl1 _) ?_|refine kq F (sG G s.tell e.a hl1 hl2 _) ?_)
     refine ee hQ F ?_;refine K9 (.bool _) ⟨?_,rfl⟩;rw[hres];simp[ht])
   by_cases k3:e.kind=3
   ·have hres:s.ok L0 e=((decide (posF (·.id) s.tell.fe e.a<0))&&(decide ((s.tell.fe.length:Int)<64))&&(y)&&(s.tell.plc e.s==0)):=(by subst hy;exact FY hI hN hck k3);have ht:=uo (decide (posF (·.id) s.tell.fe e.a<0)) (decide ((s.tell.fe.length:Int)<64)) (y);rcases ht with ht|ht|ht|ht;all_goals (
     have F:=j8 e2 e3 e5 hm1 hm2 hm3 hm4 hcl k3 ht;refine hK _ _ (L8 ?_);clear hK K;refine wk F ?_;repeat (first|refine kq F (dq G s.tell e.a hl2 _) ?_|refine kq F (sE G s.tell e.s hl2 _) ?_)
     refine ee hQ F ?_;refine K9 (.bool _) ⟨?_,rfl⟩;rw[hres];simp[ht])
   by_cases k4:e.kind=4
   ·have hres:s.ok L0 e=((decide (posF (·.id) s.tell.fe e.a≥0))):=(by subst hy;exact FZ hI hN hck k4);all_goals (
     have F:=F9 e2 e3 e5 hm1 hm2 hm3 hm4 hcl k4;refine hK _ _ (L8 ?_);clear hK K;refine wk F ?_;repeat (first|refine kq F (dq G s.tell e.a hl2 _) ?_)
     refine ee hQ F ?_;refine K9 (.bool _) ⟨?_,rfl⟩;rw[hres];try rfl)
   by_cases k5:e.kind=5
   ·have hres:s.ok L0 e=((decide (posF (·.id) s.tell.fe e.a≥0))):=(by subst hy;exact G0 hI hN hck k5);all_goals (
     have F:=F9 e2 e3 e5 hm1 hm2 hm3 hm4 hcl k5;refine hK _ _ (L8 ?_);clear hK K;refine wk F ?_;repeat (first|refine kq F (dq G s.tell e.a hl2 _) ?_)
     refine ee hQ F ?_;refine K9 (.bool _) ⟨?_,rfl⟩;rw[hres];try rfl)
   by_cases k6:e.kind=6
   ·have hres:s.ok L0 e=((decide (posF (·.id) s.tell.fe e.a≥0))&&(y)):=(by subst hy;exact G1 hI hN hck k6);have ht:=om (decide (posF (·.id) s.tell.fe e.a≥0));rcases ht with ht|ht;all_goals (
     have F:=j8 e2 e3 e5 hm1 hm2 hm3 hm4 hcl k6 ht;refine hK _ _ (L8 ?_);clear hK K;refine wk F ?_;repeat (first|refine kq F (dq G s.tell e.a hl2 _) ?_)
     refine ee hQ F ?_;refine K9 (.bool _) ⟨?_,rfl⟩;rw[hres];simp[ht])
   by_cases k7:e.kind=7
   ·have hres:s.ok L0 e=((decide (posF (·.id) s.tell.it e.a<0))&&(decide ((s.tell.it.length:Int)<1024))&&(decide (posF (·.id) s.tell.fe e.b≥0))&&(s.tell.gid e.b e.s==0)):=(by subst hy;exact G2 hI hN hck k7);have ht:=uo (decide (posF (·.id) s.tell.it e.a<0)) (decide ((s.tell.it.length:Int)<1024)) (decide (posF (·.id) s.tell.fe e.b≥0));rcases ht with ht|ht|ht|ht;all_goals (
     have F:=j8 e2 e3 e5 hm1 hm2 hm3 hm4 hcl k7 ht;refine hK _ _ (L8 ?_);clear hK K;refine wk F ?_;repeat (first|refine kq F (fN G s.tell e.a hl3 _) ?_|refine kq F (dq G s.tell e.b hl2 _) ?_|refine kq F (uq G s.tell e.b e.s hl3 _) ?_)
     refine ee hQ F ?_;refine K9 (.bool _) ⟨?_,rfl⟩;rw[hres];simp[ht])
   by_cases k8:e.kind=8
   ·have hres:s.ok L0 e=((decide (posF (·.id) s.tell.it e.a≥0))):=(by subst hy;exact G3 hI hN hck k8);all_goals (
     have F:=F9 e2 e3 e5 hm1 hm2 hm3 hm4 hcl k8;refine hK _ _ (L8 ?_);clear hK K;refine wk F ?_;repeat (first|refine kq F (fN G s.tell e.a hl3 _) ?_)
     refine ee hQ F ?_;refine K9 (.bool _) ⟨?_,rfl⟩;rw[hres];try rfl)
   by_cases k9:e.kind=9
   ·have hres:s.ok L0 e=((decide (posF (·.id) s.tell.it e.a≥0))):=(by subst hy;exact G4 hI hN hck k9);all_goals (
     have F:=F9 e2 e3 e5 hm1 hm2 hm3 hm4 hcl k9;refine hK _ _ (L8 ?_);clear hK K;refine wk F ?_;repeat (first|refine kq F (fN G s.tell e.a hl3 _) ?_)
     refine ee hQ F ?_;refine K9 (.bool _) ⟨?_,rfl⟩;rw[hres];try rfl)
   by_cases k11:e.kind=11
   ·have hres:s.ok L0 e=((decide (posF (·.id) s.tell.se e.a<0))&&(decide ((s.tell.se.length:Int)<32))):=(by subst hy;exact C2 hI hN hck k11);have ht:=om (decide (posF (·.id) s.tell.se e.a<0));rcases ht with ht|ht;all_goals (
     have F:=j8 e2 e3 e5 hm1 hm2 hm3 hm4 hcl k11 ht;refine hK _ _ (L8 ?_);clear hK K;refine wk F ?_;repeat (first|refine kq F (fZ G s.tell e.a hl4 _) ?_)
     refine ee hQ F ?_;refine K9 (.bool _) ⟨?_,rfl⟩;rw[hres];simp[ht])
   by_cases k12:e.kind=12
   ·have hres:s.ok L0 e=((decide (posF (·.id) s.tell.se e.a≥0))):=(by subst hy;exact C3 hI hN hck k12);all_goals (
     have F:=F9 e2 e3 e5 hm1 hm2 hm3 hm4 hcl k12;refine hK _ _ (L8 ?_);clear hK K;refine wk F ?_;repeat (first|refine kq F (fZ G s.tell e.a hl4 _) ?_)
     refine ee hQ F ?_;refine K9 (.bool _) ⟨?_,rfl⟩;rw[hres];try rfl)
   by_cases k10:e.kind=10
   ·have hIt:=fN G s.tell e.a hl3;have dt:∀i:Decidable True, @decide True i=true:=fun i=>N7 trivial
    have df:∀i:Decidable False, @decide False i=false:=fun i=>N8 id
    cases hit:lkM s.it e.a with
    |none=>
     have hfi:fnd (·.id) s.tell.it e.a=none:=(by rw[hI.fndIt,hit]);rw[gA hfi]at hIt;have dm:decide ((-1:Int)≥0)=false:=rfl;have F:=F7 e2 e3 e5 hm3 k10 dm df;refine hK _ _ (L8 ?_);clear hK K;refine wk F ?_;refine kq F (hIt _) ?_;(try refine wk F ?_);refine ee hQ F ?_;exact K9 (.bool _) ⟨by simp[PS.ok,PS.fits,hck,k10,hit],rfl⟩
    |some t=>
     have hfi:fnd (·.id) s.tell.it e.a=some t:=(by rw[hI.fndIt,hit]);obtain⟨q,p1,p2,p3⟩:=bn hfi;rw[p2]at hIt;have hql:q<s.tell.it.length:=(f9.1 p1).1;have hqg:decide ((q:Int)≥0)=true:=(by simp);have htl:=(hI.tg _ _ hit).2;have htm:(t.tags.map AVal.str).length=t.tags.length:=L5 ..;have hG:=ur G t.tags e.s (by omega);have hn:=two (e.n==0);rcases hn with hn|hn
     ·have F:=j8 e2 e3 e5 hm3 k10 p1 hql hqg dt hn;refine hK _ _ (L8 ?_);clear hK K;refine wk F ?_;refine kq F (hIt _) ?_;(try refine wk F ?_);refine ee hQ F ?_;refine K9 (.bool _) ⟨?_,rfl⟩;simp at hn;simp[PS.ok,PS.fits,hck,k10,hit,hn]
     ·have hg:=two (decide (e.s∈t.tags));rcases hg with hg|hg
      ·rw[hg]at hG;have F:=F2 (F9 e2 e3 e5 hm3 k10 p1 hql hqg dt) (F2 hn hg);refine hK _ _ (L8 ?_);clear hK K;refine wk F ?_;refine kq F (hIt _) ?_;(try refine wk F ?_);refine aG (hG _) ?_;refine sq F ?_;refine wk F ?_;refine ee hQ F ?_;refine K9 (.bool _) ⟨?_,rfl⟩;simp at hg;simp[PS.ok,PS.fits,hck,k10,hit,hg]
      ·rw[hg]at hG;have F:=F2 (F9 e2 e3 e5 hm3 htm k10 p1 hql hqg) (F3 dt hn hg);refine hK _ _ (L8 ?_);clear hK K;refine wk F ?_;refine kq F (hIt _) ?_;(try refine wk F ?_);refine aG (hG _) ?_;refine sq F ?_;refine wk F ?_;refine ee hQ F ?_;refine K9 (.bool _) ⟨?_,rfl⟩;simp at hn hg;have q8:decide ((t.tags.length:Int)<8)=decide (t.tags.length<8):=gB _ _;simp[PS.ok,PS.fits,hck,k10,hit,hg,hn];try omega
   have hres:=G5 hI hN hck k1 k2 k3 k4 k5 k6 k7 k8 k9 k11 k12 k10;have n1:(e.kind==1)=false:=(by simp[k1]);have n2:(e.kind==2)=false:=(by simp[k2]);have n3:(e.kind==3)=false:=(by simp[k3]);have n4:(e.kind==4)=false:=(by simp[k4]);have n5:(e.kind==5)=false:=(by simp[k5]);have n6:(e.kind==6)=false:=(by simp[k6]);have n7:(e.kind==7)=false:=(by simp[k7]);have n8:(e.kind==8)=false:=(by simp[k8]);have n9:(e.kind==9)=false:=(by simp[k9]);have n11:(e.kind==11)=false:=(by simp[k11]);have n12:(e.kind==12)=false:=(by simp[k12]);have n10:(e.kind==10)=false:=(by simp[k10]);have F:=F2 (F9 e2 e3 e5 hcl n1 n2 n3 n4 n5) (F7 n6 n7 n8 n9 n11 n12 n10);refine hK _ _ (L8 ?_);clear hK K;refine wk F ?_;refine ee hQ F ?_;exact K9 (.bool _) ⟨by rw[hres],rfl⟩
  subst hH;(first|refine gq trivial (fun g=>?_) (fun g=>?_)|refine pq trivial (fun g=>?_) (fun g=>?_))<;>(try exact g.elim)<;>(try refine sq trivial ?_)<;>((repeat (first|refine w1 (fun K hK=>?_)|refine w2 ?_|refine w3 ?_| ((first|refine w4 ?_|refine wD ?_|refine w5 ?_|refine w6 ?_|refine w7 ?_);try refine sq trivial ?_)| (refine w8 ?_;refine sq trivial ?_;refine w9 ?_)| ((first|refine hK _ _ (w0 ?_)| (clear hK K;refine hK _ _ (w0 ?_))| (clear hK K;clear hK K;refine hK _ _ (w0 ?_)));clear hK K))))
  ·exact key _ true (by exact zq trivial) (by exact zq trivial) (by exact zq trivial) (by simp[PS.within,g])
  ·refine(hB _).mono ?_;rintro r h' ⟨rfl,rfl⟩;(try refine sq trivial ?_);(repeat (first|refine w1 (fun K hK=>?_)|refine w2 ?_|refine w3 ?_| ((first|refine w4 ?_|refine wD ?_|refine w5 ?_|refine w6 ?_|refine w7 ?_);try refine sq trivial ?_)| (refine w8 ?_;refine sq trivial ?_;refine w9 ?_)| ((first|refine hK _ _ (w0 ?_)| (clear hK K;refine hK _ _ (w0 ?_))| (clear hK K;clear hK K;refine hK _ _ (w0 ?_)));clear hK K)))
   exact key _ (decide (posF (·.id) s.tell.fo e.b≥0)) (by exact zq trivial) (by exact zq trivial) (by exact zq trivial) (by rw[hw];simp[PS.within,g])
end
end Go.Av
