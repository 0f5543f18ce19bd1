/- Parts. -/
import Derived.Test.YtllhfnepgcbjnaaGreatMnQc
set_option linter.unusedSimpArgs false
set_option linter.unusedVariables false
set_option linter.unusedSectionVars false
set_option linter.unnecessarySimpa false
set_option maxRecDepth 100000
set_option maxHeartbeats 16000000
namespace Go.Av
open Go Go.Proofs Go.RowKit
section
attribute [local irreducible] WP WPl WPix Sat
@[go_sem] theorem En(h:Heap)(k a b n k' a' b' n':Int)(s t u s' t' u':Bs):abin Tryz.prog h .eql 56 (.agg [.int .i64 k,.int .i64 a,.int .i64 b,.int .i64 n,.str s,.str t,.str u]) (.agg [.int .i64 k',.int .i64 a',.int .i64 b',.int .i64 n',.str s',.str t',.str u'])=
  some (.bool (decide (Ev.mk k a b n s t u=Ev.mk k' a' b' n' s' t' u'))):=by
 simp only[abin,go_sem,aeqL,aeq1, ↓reduceIte,R4,P1,AVal.bool.injEq,Ev.mk.injEq];rw[O9];simp
variable (G:Nat→Option (List AVal))
section
theorem R5(t:Bs)(ht:t.length≤1000)(h:Heap):Sat (CT G) 197 [.str t] h (fun r h'=>r=.bool (rightS t)∧h'=h):=kr G t (by omega) h
theorem C5(t:Bs)(ht:t.length≤1000)(h:Heap):Sat (CT G) 198 [.str t] h (fun r h'=>r=.str (cleanF t)∧h'=h):=ku G t (by omega) h
theorem zF(t:Bs)(h:Heap):Sat (CT G) 128 [.str t] h (fun r h'=>r=.bool (L0.label t)∧h'=h):=j6 G rightS cleanF (R5 G) (C5 G) t h
theorem wJ(t:Bs)(h:Heap):Sat (CT G) 130 [.str t] h (fun r h'=>r=.bool (L0.title t)∧h'=h):=oA G rightS cleanF (R5 G) (C5 G) t h
theorem wK(t:Bs)(h:Heap):Sat (CT G) 129 [.str t] h (fun r h'=>r=.bool (L0.link t)∧h'=h):=qV G rightS cleanF (R5 G) (C5 G) t h
theorem Gg(t:Bs)(h:Heap):Sat (CT G) 131 [.str t] h (fun r h'=>r=.bool (L0.query t)∧h'=h):=oB G rightS cleanF (R5 G) (C5 G) t h
theorem zG(hc:GClo (CT G))(n:Int)(h:Heap):Sat (CT G) 112 [.int .i64 n] h (fun r h'=>r=.bool (L0.moment n)∧h'=h):=nB G hc n h
end
theorem JD(a b c d e:Bool):a=false∨(a=true∧b=false)∨(a=true∧b=true∧c=false)∨(a=true∧b=true∧c=true∧d=false)∨(a=true∧b=true∧c=true∧d=true∧e=false)∨(a=true∧b=true∧c=true∧d=true∧e=true):=by cases a<;>cases b<;>cases c<;>cases d<;>cases e<;>simp
theorem two(x:Bool):x=true∨x=false:=by cases x<;>simp
theorem Kr(x y:Bool):x=true∨(x=false∧y=true)∨(x=false∧y=false):=by cases x<;>cases y<;>simp
theorem nG(a:Bool):a=false∨a=true:=by cases a<;>simp
theorem x8(a b:Bool):a=false∨(a=true∧b=false)∨(a=true∧b=true):=by cases a<;>cases b<;>simp
theorem u5(a b c:Bool):a=false∨(a=true∧b=false)∨(a=true∧b=true∧c=false)∨(a=true∧b=true∧c=true):=by cases a<;>cases b<;>cases c<;>simp
theorem JE(a b c d:Bool):a=false∨(a=true∧b=false)∨(a=true∧b=true∧c=false)∨(a=true∧b=true∧c=true∧d=false)∨(a=true∧b=true∧c=true∧d=true):=by cases a<;>cases b<;>cases c<;>cases d<;>simp
theorem JF(a b c d e f g:Bool):a=false∨(a=true∧b=false)∨(a=true∧b=true∧c=false)∨(a=true∧b=true∧c=true∧d=false)∨(a=true∧b=true∧c=true∧d=true∧e=false)∨(a=true∧b=true∧c=true∧d=true∧e=true∧f=false)∨
  (a=true∧b=true∧c=true∧d=true∧e=true∧f=true∧g=false)∨(a=true∧b=true∧c=true∧d=true∧e=true∧f=true∧g=true):=by cases a<;>cases b<;>cases c<;>cases d<;>cases e<;>cases f<;>cases g<;>simp
theorem rO(hc:GClo (CT G))(e:Ev)(h:Heap):Sat (CT G) 86 [e.av] h (fun r h'=>r=.bool (L0.ck e)∧h'=h):=by
 obtain⟨k,a,b,n,s,t,u⟩:=e;refine sb [.tmp 2] Tryz.func86 ?_;intro Q hQ;(repeat (first|refine w1 (fun K hK=>?_)|refine w2 ?_|refine w3 ?_| ((first|refine w4 ?_|refine wD ?_|refine w5 ?_|refine w6 ?_|refine w7 ?_);try refine sq trivial ?_)| (refine w8 ?_;refine sq trivial ?_;refine w9 ?_)))
 refine hK _ _ (M0 ?_);clear hK K;(repeat (first|refine w1 (fun K hK=>?_)|refine w2 ?_|refine w3 ?_| ((first|refine w4 ?_|refine wD ?_|refine w5 ?_|refine w6 ?_|refine w7 ?_);try refine sq trivial ?_)| (refine w8 ?_;refine sq trivial ?_;refine w9 ?_)))
 refine hK _ _ (M0 ?_);clear hK K;(repeat (first|refine w1 (fun K hK=>?_)|refine w2 ?_|refine w3 ?_| ((first|refine w4 ?_|refine wD ?_|refine w5 ?_|refine w6 ?_|refine w7 ?_);try refine sq trivial ?_)| (refine w8 ?_;refine sq trivial ?_;refine w9 ?_)))
 refine(lh G a _).mono ?_;rintro r h' ⟨rfl,rfl⟩;try refine sq trivial ?_
 (repeat (first|refine w1 (fun K hK=>?_)|refine w2 ?_|refine w3 ?_| ((first|refine w4 ?_|refine wD ?_|refine w5 ?_|refine w6 ?_|refine w7 ?_);try refine sq trivial ?_)| (refine w8 ?_;refine sq trivial ?_;refine w9 ?_)| ((first|refine hK _ _ (w0 ?_)| (clear hK K;refine hK _ _ (w0 ?_))| (clear hK K;clear hK K;refine hK _ _ (w0 ?_)));clear hK K)))
 generalize hH:h++[.row 56 7 0 [.agg [.int .i64 k,.int .i64 a,.int .i64 b,.int .i64 n,.str s,.str t,.str u]],.row 56 7 0 [.agg [.int .i64 k,.int .i64 a,.int .i64 0,.int .i64 0,.str [],.str [],.str []]]]=H;have key:∀(T:Env) (x:Bool),T 1=.hp h.length 0 0 0→T 3=.hp (h.length+1) 0 0 0→T 4=.bool (idF a)→T 5=.bool x→x=(n==0||n==1)→K T H:=by
  subst hH;intro T x e1 e3 e4 e5 hx;subst hx;have F:=F4 e1 e3 e4 e5;refine hK _ _ (M0 ?_);clear hK K;(repeat (first|refine w1 (fun K hK=>?_)|refine w2 ?_|refine w3 ?_| ((first|refine w4 ?_|refine wD ?_|refine w5 ?_|refine w6 ?_|refine w7 ?_);try refine sq F ?_)| (refine w8 ?_;refine sq F ?_;refine w9 ?_)))
  generalize hH:h++[.row 56 7 0 [.agg [.int .i64 k,.int .i64 a,.int .i64 b,.int .i64 n,.str s,.str t,.str u]],.row 56 7 0 [.agg [.int .i64 k,.int .i64 a,.int .i64 0,.int .i64 0,.str [],.str [],.str []]]]=H;have key:∀(T:Env) (x:Bool),T 1=.hp h.length 0 0 0→T 3=.hp (h.length+1) 0 0 0→T 4=.bool (idF a)→T 5=.bool (n==0||n==1)→T 6=.bool x→x=(b==0||idF b)→K T H:=by
   subst hH;intro T x e1 e3 e4 e5 e6 hx;subst hx;by_cases k1:k=1
   ·subst k1;have ht:=u5 (idF a) (b==0||idF b) (L0.label s);rcases ht with ht|ht|ht|ht;all_goals (
     have F:=F7 F e1 e3 e4 e5 e6 ht;refine hK _ _ (M0 ?_);clear hK K;refine wn F ?_
     skip
     refine aA 6 [5] [true,true,true,true,true,false] (.one 5 [false,false,true,true] .fin) (by decide+kernel) (by kernel_rfl) (by decide+kernel) ?_;simp only[aD,aE,aC];(try refine sq F ?_);repeat' ((first|refine ae ?_|refine af ?_|refine ah ?_ ?_)<;>try refine sq F ?_)
     all_goals try (repeat (first|refine w1 (fun K hK=>?_)|refine w2 ?_|refine w3 ?_| ((first|refine w4 ?_|refine w5 ?_|refine w6 ?_|refine w7 ?_);try refine sq F ?_)| (refine w8 ?_;refine sq F ?_;refine w9 ?_)| ((first|refine hK _ _ (w0 ?_)| (clear hK K;refine hK _ _ (w0 ?_))| (clear hK K;clear hK K;refine hK _ _ (w0 ?_)));clear hK K)))
     skip
     (try refine wk F ?_);repeat (first|refine kq F (zF G s _) ?_)
     refine ee hQ F ?_;refine L6 (.bool _) ⟨?_,rfl⟩;simp[Leaf.ck,Leaf.right,Leaf.place,usedE,ht])
   by_cases k2:k=2
   ·subst k2;have ht:=nG (idF a);rcases ht with ht|ht;all_goals (
     have F:=F7 F e1 e3 e4 e5 e6 ht;refine hK _ _ (M0 ?_);clear hK K;refine wk F ?_;refine ee hQ F ?_;refine L6 (.bool _) ⟨?_,rfl⟩;simp[Leaf.ck,Leaf.right,Leaf.place,usedE,ht])
   by_cases k3:k=3
   ·subst k3;have ht:=JD (idF a) (b==0||idF b) (!(s==[])) (L0.link s) (L0.title t);rcases ht with ht|ht|ht|ht|ht|ht;all_goals (
     have F:=F7 F e1 e3 e4 e5 e6 ht;refine hK _ _ (M0 ?_);clear hK K;refine wn F ?_
     skip
     refine aA 10 [7,9] [true,true,true,true,true,true,true,false,true,false] (.one 7 [false,false,true,true,true,true,false,false,true] (.one 9 [false,false,false,false,true,true] .fin)) (by decide+kernel) (by kernel_rfl) (by decide+kernel) ?_;simp only[aD,aE,aC];(try refine sq F ?_);repeat' ((first|refine ae ?_|refine af ?_|refine ah ?_ ?_)<;>try refine sq F ?_)
     all_goals try (repeat (first|refine w1 (fun K hK=>?_)|refine w2 ?_|refine w3 ?_| ((first|refine w4 ?_|refine w5 ?_|refine w6 ?_|refine w7 ?_);try refine sq F ?_)| (refine w8 ?_;refine sq F ?_;refine w9 ?_)| ((first|refine hK _ _ (w0 ?_)| (clear hK K;refine hK _ _ (w0 ?_))| (clear hK K;clear hK K;refine hK _ _ (w0 ?_)));clear hK K)))
     skip
     (try refine wk F ?_);repeat (first|refine kq F (wK G s _) ?_|refine kq F (wJ G t _) ?_)
     refine ee hQ F ?_;refine L6 (.bool _) ⟨?_,rfl⟩;first| (simp[Leaf.ck,Leaf.right,Leaf.place,usedE,ht];done)| (simp at ht;simp[Leaf.ck,Leaf.right,Leaf.place,usedE,ht]))
   by_cases k4:k=4
   ·subst k4;have ht:=nG (idF a);rcases ht with ht|ht;all_goals (
     have F:=F7 F e1 e3 e4 e5 e6 ht;refine hK _ _ (M0 ?_);clear hK K;refine wk F ?_;refine ee hQ F ?_;refine L6 (.bool _) ⟨?_,rfl⟩;simp[Leaf.ck,Leaf.right,Leaf.place,usedE,ht])
   by_cases k5:k=5
   ·subst k5;have ht:=x8 (idF a) (L0.title t);rcases ht with ht|ht|ht;all_goals (
     have F:=F7 F e1 e3 e4 e5 e6 ht;refine hK _ _ (M0 ?_);clear hK K;refine wk F ?_;repeat (first|refine kq F (wJ G t _) ?_)
     refine ee hQ F ?_;refine L6 (.bool _) ⟨?_,rfl⟩;simp[Leaf.ck,Leaf.right,Leaf.place,usedE,ht])
   by_cases k6:k=6
   ·subst k6;have ht:=x8 (idF a) (b==0||idF b);rcases ht with ht|ht|ht;all_goals (
     have F:=F7 F e1 e3 e4 e5 e6 ht;refine hK _ _ (M0 ?_);clear hK K;refine wk F ?_;refine ee hQ F ?_;refine L6 (.bool _) ⟨?_,rfl⟩;simp[Leaf.ck,Leaf.right,Leaf.place,usedE,ht])
   by_cases k7:k=7
   ·subst k7;have ht:=JF (idF a) (idF b) (L0.moment n) (!(s==[])) (L0.link s) (L0.title t) (L0.link u);rcases ht with ht|ht|ht|ht|ht|ht|ht|ht;all_goals (
     have F:=F7 F e1 e3 e4 e5 e6 ht;refine hK _ _ (M0 ?_);clear hK K;refine wk F ?_;repeat (first|refine kq F (lh G b _) ?_|refine kq F (zG G hc n _) ?_|refine kq F (wK G s _) ?_|refine kq F (wJ G t _) ?_|refine kq F (wK G u _) ?_)
     refine ee hQ F ?_;refine L6 (.bool _) ⟨?_,rfl⟩;first| (simp[Leaf.ck,Leaf.right,Leaf.place,usedE,ht];done)| (simp at ht;simp[Leaf.ck,Leaf.right,Leaf.place,usedE,ht]))
   by_cases k8:k=8
   ·subst k8;have ht:=x8 (idF a) (n==0||n==1);rcases ht with ht|ht|ht;all_goals (
     have F:=F7 F e1 e3 e4 e5 e6 ht;refine hK _ _ (M0 ?_);clear hK K;refine wk F ?_;refine ee hQ F ?_;refine L6 (.bool _) ⟨?_,rfl⟩;simp[Leaf.ck,Leaf.right,Leaf.place,usedE,ht])
   by_cases k9:k=9
   ·subst k9;have ht:=x8 (idF a) (n==0||n==1);rcases ht with ht|ht|ht;all_goals (
     have F:=F7 F e1 e3 e4 e5 e6 ht;refine hK _ _ (M0 ?_);clear hK K;refine wk F ?_;refine ee hQ F ?_;refine L6 (.bool _) ⟨?_,rfl⟩;simp[Leaf.ck,Leaf.right,Leaf.place,usedE,ht])
   by_cases k10:k=10
   ·subst k10;have ht:=u5 (idF a) (n==0||n==1) (L0.tag s);rcases ht with ht|ht|ht|ht;all_goals (
     have F:=F7 F e1 e3 e4 e5 e6 ht;refine hK _ _ (M0 ?_);clear hK K;refine wn F ?_
     skip
     refine aA 6 [5] [true,true,true,true,true,false] (.one 5 [false,false,true,true] .fin) (by decide+kernel) (by kernel_rfl) (by decide+kernel) ?_;simp only[aD,aE,aC];(try refine sq F ?_);repeat' ((first|refine ae ?_|refine af ?_|refine ah ?_ ?_)<;>try refine sq F ?_)
     all_goals try (repeat (first|refine w1 (fun K hK=>?_)|refine w2 ?_|refine w3 ?_| ((first|refine w4 ?_|refine w5 ?_|refine w6 ?_|refine w7 ?_);try refine sq F ?_)| (refine w8 ?_;refine sq F ?_;refine w9 ?_)| ((first|refine hK _ _ (w0 ?_)| (clear hK K;refine hK _ _ (w0 ?_))| (clear hK K;clear hK K;refine hK _ _ (w0 ?_)));clear hK K)))
     skip
     (try refine wk F ?_);repeat (first|refine kq F (nC G s _) ?_)
     refine ee hQ F ?_;refine L6 (.bool _) ⟨?_,rfl⟩;simp[Leaf.ck,Leaf.right,Leaf.place,usedE,ht])
   by_cases k11:k=11
   ·subst k11;have ht:=u5 (idF a) (L0.label s) (L0.query t);rcases ht with ht|ht|ht|ht;all_goals (
     have F:=F7 F e1 e3 e4 e5 e6 ht;refine hK _ _ (M0 ?_);clear hK K;refine wn F ?_
     skip
     refine aA 6 [5] [true,true,true,true,true,false] (.one 5 [false,false,true,true] .fin) (by decide+kernel) (by kernel_rfl) (by decide+kernel) ?_;simp only[aD,aE,aC];(try refine sq F ?_);repeat' ((first|refine ae ?_|refine af ?_|refine ah ?_ ?_)<;>try refine sq F ?_)
     all_goals try (repeat (first|refine w1 (fun K hK=>?_)|refine w2 ?_|refine w3 ?_| ((first|refine w4 ?_|refine w5 ?_|refine w6 ?_|refine w7 ?_);try refine sq F ?_)| (refine w8 ?_;refine sq F ?_;refine w9 ?_)| ((first|refine hK _ _ (w0 ?_)| (clear hK K;refine hK _ _ (w0 ?_))| (clear hK K;clear hK K;refine hK _ _ (w0 ?_)));clear hK K)))
     skip
     (try refine wk F ?_);repeat (first|refine kq F (zF G s _) ?_|refine kq F (Gg G t _) ?_)
     refine ee hQ F ?_;refine L6 (.bool _) ⟨?_,rfl⟩;simp[Leaf.ck,Leaf.right,Leaf.place,usedE,ht])
   by_cases k12:k=12
   ·subst k12;have ht:=nG (idF a);rcases ht with ht|ht;all_goals (
     have F:=F7 F e1 e3 e4 e5 e6 ht;refine hK _ _ (M0 ?_);clear hK K;refine wk F ?_;refine ee hQ F ?_;refine L6 (.bool _) ⟨?_,rfl⟩;simp[Leaf.ck,Leaf.right,Leaf.place,usedE,ht])
   by_cases k13:k=13
   ·subst k13;have ht:=nG (L0.moment n);rcases ht with ht|ht;all_goals (
     have F:=F7 F e1 e3 e4 e5 e6 ht;refine hK _ _ (M0 ?_);clear hK K;refine wn F ?_
     skip
     refine aA 4 [3] [true,true,true,false] (.one 3 [true,true] .fin) (by decide+kernel) (by kernel_rfl) (by decide+kernel) ?_;simp only[aD,aE,aC];(try refine sq F ?_);repeat' ((first|refine ae ?_|refine af ?_|refine ah ?_ ?_)<;>try refine sq F ?_)
     all_goals try (repeat (first|refine w1 (fun K hK=>?_)|refine w2 ?_|refine w3 ?_| ((first|refine w4 ?_|refine w5 ?_|refine w6 ?_|refine w7 ?_);try refine sq F ?_)| (refine w8 ?_;refine sq F ?_;refine w9 ?_)| ((first|refine hK _ _ (w0 ?_)| (clear hK K;refine hK _ _ (w0 ?_))| (clear hK K;clear hK K;refine hK _ _ (w0 ?_)));clear hK K)))
     skip
     (try refine wk F ?_);repeat (first|refine kq F (zG G hc n _) ?_)
     refine ee hQ F ?_;refine L6 (.bool _) ⟨?_,rfl⟩;simp[Leaf.ck,Leaf.right,Leaf.place,usedE,ht])
   have n1:(k==1)=false:=(by simp[k1]);have n2:(k==2)=false:=(by simp[k2]);have n3:(k==3)=false:=(by simp[k3]);have n4:(k==4)=false:=(by simp[k4]);have n5:(k==5)=false:=(by simp[k5]);have n6:(k==6)=false:=(by simp[k6]);have n7:(k==7)=false:=(by simp[k7]);have n8:(k==8)=false:=(by simp[k8]);have n9:(k==9)=false:=(by simp[k9]);have n10:(k==10)=false:=(by simp[k10]);have n11:(k==11)=false:=(by simp[k11]);have n12:(k==12)=false:=(by simp[k12]);have n13:(k==13)=false:=(by simp[k13]);have F:=F2 (F9 F e1 e3 e4 e5 e6 n1 n2 n3) (iZ n4 n5 n6 n7 n8 n9 n10 n11 n12 n13);refine hK _ _ (M0 ?_);clear hK K;refine wk F ?_;refine ee hQ F ?_;refine L6 (.bool _) ⟨?_,rfl⟩;simp[Leaf.ck,Leaf.right,k1,k2,k3,k4,k5,k6,k7,k8,k9,k10,k11,k12,k13]
  subst hH;(first|refine gq F (fun g=>?_) (fun g=>?_)|refine pq F (fun g=>?_) (fun g=>?_))<;>(try exact g.elim)<;>(try refine sq F ?_)<;>((repeat (first|refine w1 (fun K hK=>?_)|refine w2 ?_|refine w3 ?_| ((first|refine w4 ?_|refine wD ?_|refine w5 ?_|refine w6 ?_|refine w7 ?_);try refine sq F ?_)| (refine w8 ?_;refine sq F ?_;refine w9 ?_)| ((first|refine hK _ _ (w0 ?_)| (clear hK K;refine hK _ _ (w0 ?_))| (clear hK K;clear hK K;refine hK _ _ (w0 ?_)));clear hK K))))
  ·exact key _ true (by exact zq F) (by exact zq F) (by exact zq F) (by exact zq F) rfl (by simp[g])
  ·refine(lh G b _).mono ?_;rintro r h' ⟨rfl,rfl⟩;(try refine sq F ?_);(repeat (first|refine w1 (fun K hK=>?_)|refine w2 ?_|refine w3 ?_| ((first|refine w4 ?_|refine wD ?_|refine w5 ?_|refine w6 ?_|refine w7 ?_);try refine sq F ?_)| (refine w8 ?_;refine sq F ?_;refine w9 ?_)| ((first|refine hK _ _ (w0 ?_)| (clear hK K;refine hK _ _ (w0 ?_))| (clear hK K;clear hK K;refine hK _ _ (w0 ?_)));clear hK K)))
   exact key _ (idF b) (by exact zq F) (by exact zq F) (by exact zq F) (by exact zq F) rfl (by simp[g])
 subst hH;(first|refine gq trivial (fun g=>?_) (fun g=>?_)|refine pq trivial (fun g=>?_) (fun g=>?_))<;>(try exact g.elim)<;>(try refine sq trivial ?_)<;>((repeat (first|refine w1 (fun K hK=>?_)|refine w2 ?_|refine w3 ?_| ((first|refine w4 ?_|refine wD ?_|refine w5 ?_|refine w6 ?_|refine w7 ?_);try refine sq trivial ?_)| (refine w8 ?_;refine sq trivial ?_;refine w9 ?_)| ((first|refine hK _ _ (w0 ?_)| (clear hK K;refine hK _ _ (w0 ?_))| (clear hK K;clear hK K;refine hK _ _ (w0 ?_)));clear hK K))))
 ·exact key _ true (by exact zq trivial) (by exact zq trivial) (by exact zq trivial) rfl (by simp[g])
 ·exact key _ (n==1) (by exact zq trivial) (by exact zq trivial) (by exact zq trivial) rfl (by simp[g])
end
section
attribute [local irreducible] WP WPl WPix Sat
variable (G:Nat→Option (List AVal))
section
variable {α:Type}
theorem pG{p:α→Bool}{l:List α}{k:Nat}{a:α}(h:l[k]? =some a)(ha:p a=true)(hf:∀b∈l.take k,p b=false):l.find? p=some a:=by
 induction l generalizing k with
 |nil=>simp at h
 |cons b l ih=>
  cases k with
  |zero=>simp at h;subst h;rw[za9,ha]
  |succ k=>
   rw[za9,hf b (by simp)];exact ih (by simpa using h) fun c hc=>hf c (by simp[hc])
theorem pH{p:α→Bool}{l:List α}(hf:∀b∈l,p b=false):l.find? p=none:=Y7.2 fun b hb=>by rw[hf b hb];simp
theorem any_at{p:α→Bool}{l:List α}{k:Nat}{a:α}(h:l[k]? =some a)(ha:p a=true):l.any p=true:=Z8.2 ⟨a,N4 h,ha⟩
theorem any_no{p:α→Bool}{l:List α}(hf:∀b∈l,p b=false):l.any p=false:=by rw[W6];intro b hb;rw[hf b hb];simp
theorem dB{p:α→Bool}{l:List α}{k:Nat}{a:α}(h:l[k]? =some a)(ha:p a=false)(hf:∀b∈l.take k,p b=false):∀b∈l.take (k+1),p b=false:=by
 rw[O3,h];intro b hb;simp at hb;rcases hb with hb|rfl
 ·exact hf b hb
 ·exact ha
end
def St.plc(x:St)(u:Bs):Int:=((x.fe.find? fun f=>decide (f.url=u)).map (·.id)).getD 0
theorem rP(x:St)(u:Bs)(hl:x.fe.length≤100000)(h:Heap):Sat (CT G) 91 [x.av,.str u] h (fun r h'=>r=.int .i64 (x.plc u)∧h'=h):=by
 have hel:(x.fe.map Fe.av).length=x.fe.length:=L8 ..;have F:=hel;refine sb [.tmp 4] Tryz.func91 ?_;intro Q hQ;refine wk F ?_;refine lm (fun nL tL hL=>∃(k:Nat),x.fe.length-k=nL∧h++[.row 40 9 0 [x.av]]=hL∧tL 1=.str u∧tL 2=.hp h.length 0 0 0∧tL 5=.int .i64 k∧k≤x.fe.length∧(∀f∈x.fe.take k,decide (f.url=u)=false)) ((fun(k:Nat)=>(x.fe.length-k:Nat)) (0)) ?_ ?_
 ·refine M0 ⟨0,rfl,aw,?_,?_,?_,by omega,by simp⟩;all_goals try exact zZz F
 rintro _ s2 h' ⟨k,rfl,rfl,e1,e2,e5,hk,hp⟩ K2 hK2;simp only[ai,ak,Nat.reduceEqDiff, ↓reduceIte]at e1 e2 e5;have F:=F4 F e1 e2 e5;refine wk F ?_;refine cq F (fun c1=>?_) (fun c1=>?_)<;>(try exact c1.elim)<;>(refine wk F ?_)
 ·have c2:k<x.fe.length:=by omega
  obtain⟨f,hf,hfm⟩:=ac c2;have F:=F3 F c2 hf;try refine sq F ?_
  refine wk F ?_;refine cq F (fun c3=>?_) (fun c3=>?_)<;>(try exact c3.elim)<;>(refine wk F ?_)
  ·refine ee hQ F ?_;exact L6 (.int _ _) ⟨by rw[St.plc,pG hf (O4 c3) hp];rfl,rfl⟩
  ·refine hK2 _ _ _ (M0 ⟨k+1,rfl,aw,?_,?_,?_,by omega,dB hf (O0 c3) hp⟩) (by omega);all_goals try exact zZz F
 ·rw[M4 (by omega)]at hp;refine ee hQ F ?_;exact L6 (.int _ _) ⟨by rw[St.plc,pH hp];rfl,rfl⟩
def St.gid(x:St)(feed:Int)(g:Bs):Int:=((x.it.find? fun t=>decide (t.feed=feed∧t.guid=g)).map (·.id)).getD 0
theorem u6(x:St)(feed:Int)(g:Bs)(hl:x.it.length≤100000)(h:Heap):Sat (CT G) 92 [x.av,.int .i64 feed,.str g] h (fun r h'=>r=.int .i64 (x.gid feed g)∧h'=h):=by
 have hel:(x.it.map It.av).length=x.it.length:=L8 ..;have F:=hel;refine sb [.tmp 6] Tryz.func92 ?_;intro Q hQ;refine wk F ?_;refine lm (fun nL tL hL=>∃(k:Nat),x.it.length-k=nL∧h++[.row 40 9 0 [x.av]]=hL∧tL 1=.int .i64 feed∧tL 2=.str g∧tL 3=.hp h.length 0 0 0∧tL 7=.int .i64 k∧k≤x.it.length∧(∀f∈x.it.take k,decide (f.feed=feed∧f.guid=g)=false)) ((fun(k:Nat)=>(x.it.length-k:Nat)) (0)) ?_ ?_
 ·refine M0 ⟨0,rfl,aw,?_,?_,?_,?_,by omega,by simp⟩;all_goals try exact zZz F
 rintro _ s2 h' ⟨k,rfl,rfl,e1,e2,e3,e7,hk,hp⟩ K2 hK2;simp only[ai,ak,Nat.reduceEqDiff, ↓reduceIte]at e1 e2 e3 e7;have F:=F5 F e1 e2 e3 e7;refine wk F ?_;refine cq F (fun c1=>?_) (fun c1=>?_)<;>(try exact c1.elim)<;>(refine wk F ?_)
 ·have c2:k<x.it.length:=by omega
  obtain⟨f,hf,hfm⟩:=ac c2;have F:=F3 F c2 hf;try refine sq F ?_
  refine wk F ?_;(first|refine gq F (fun g1=>?_) (fun g1=>?_)|refine pq F (fun g1=>?_) (fun g1=>?_))<;>(try exact g1.elim)<;>(try refine sq F ?_)<;>(refine wk F ?_)
  ·refine cq F (fun c3=>?_) (fun c3=>?_)<;>(try exact c3.elim)<;>(refine wk F ?_)
   ·refine ee hQ F ?_;exact L6 (.int _ _) ⟨by rw[St.gid,pG hf (O4 ⟨g1,c3⟩) hp];rfl,rfl⟩
   ·refine hK2 _ _ _ (M0 ⟨k+1,rfl,aw,?_,?_,?_,?_,by omega,dB hf (O0 fun q=>c3 q.2) hp⟩) (by omega);all_goals try exact zZz F
  ·refine hK2 _ _ _ (M0 ⟨k+1,rfl,aw,?_,?_,?_,?_,by omega,dB hf (O0 fun q=>g1 q.1) hp⟩) (by omega);all_goals try exact zZz F
 ·rw[M4 (by omega)]at hp;refine ee hQ F ?_;exact L6 (.int _ _) ⟨by rw[St.gid,pH hp];rfl,rfl⟩
def St.nmd(x:St)(i:Int)(g:Bs):Bool:=x.fo.any fun f=>decide (f.inn=i∧f.name=g)
theorem rR(x:St)(i:Int)(g:Bs)(hl:x.fo.length≤100000)(h:Heap):Sat (CT G) 89 [x.av,.int .i64 i,.str g] h (fun r h'=>r=.bool (x.nmd i g)∧h'=h):=by
 have hel:(x.fo.map Fo.av).length=x.fo.length:=L8 ..;have F:=hel;refine sb [.tmp 6] Tryz.func89 ?_;intro Q hQ;refine wk F ?_;refine lm (fun nL tL hL=>∃(k:Nat),x.fo.length-k=nL∧h++[.row 40 9 0 [x.av]]=hL∧tL 1=.int .i64 i∧tL 2=.str g∧tL 3=.hp h.length 0 0 0∧tL 7=.int .i64 k∧k≤x.fo.length∧(∀f∈x.fo.take k,decide (f.inn=i∧f.name=g)=false)) ((fun(k:Nat)=>(x.fo.length-k:Nat)) (0)) ?_ ?_
 ·refine M0 ⟨0,rfl,aw,?_,?_,?_,?_,by omega,by simp⟩;all_goals try exact zZz F
 rintro _ s2 h' ⟨k,rfl,rfl,e1,e2,e3,e7,hk,hp⟩ K2 hK2;simp only[ai,ak,Nat.reduceEqDiff, ↓reduceIte]at e1 e2 e3 e7;have F:=F5 F e1 e2 e3 e7;refine wk F ?_;refine cq F (fun c1=>?_) (fun c1=>?_)<;>(try exact c1.elim)<;>(refine wk F ?_)
 ·have c2:k<x.fo.length:=by omega
  obtain⟨f,hf,hfm⟩:=ac c2;have F:=F3 F c2 hf;try refine sq F ?_
  refine wk F ?_;(first|refine gq F (fun g1=>?_) (fun g1=>?_)|refine pq F (fun g1=>?_) (fun g1=>?_))<;>(try exact g1.elim)<;>(try refine sq F ?_)<;>(refine wk F ?_)
  ·refine cq F (fun c3=>?_) (fun c3=>?_)<;>(try exact c3.elim)<;>(refine wk F ?_)
   ·refine ee hQ F ?_;exact L6 (.bool _) ⟨by rw[St.nmd,any_at hf (O4 ⟨g1,c3⟩)],rfl⟩
   ·refine hK2 _ _ _ (M0 ⟨k+1,rfl,aw,?_,?_,?_,?_,by omega,dB hf (O0 fun q=>c3 q.2) hp⟩) (by omega);all_goals try exact zZz F
  ·refine hK2 _ _ _ (M0 ⟨k+1,rfl,aw,?_,?_,?_,?_,by omega,dB hf (O0 fun q=>g1 q.1) hp⟩) (by omega);all_goals try exact zZz F
 ·rw[M4 (by omega)]at hp;refine ee hQ F ?_;exact L6 (.bool _) ⟨by rw[St.nmd,any_no hp],rfl⟩
def St.emp(x:St)(i:Int):Bool:= !(x.fo.any fun f=>decide (f.inn=i))&& !(x.fe.any fun f=>decide (f.inn=i))
theorem rS(x:St)(i:Int)(hl:x.fo.length≤100000)(hl2:x.fe.length≤100000)(h:Heap):Sat (CT G) 90 [x.av,.int .i64 i] h (fun r h'=>r=.bool (x.emp i)∧h'=h):=by
 have hel:(x.fo.map Fo.av).length=x.fo.length:=L8 ..;have hel2:(x.fe.map Fe.av).length=x.fe.length:=L8 ..;have F:=F2 hel hel2;refine sb [.tmp 4] Tryz.func90 ?_;intro Q hQ;refine wk F ?_;refine lm (fun nL tL hL=>∃(k:Nat),x.fo.length-k=nL∧h++[.row 40 9 0 [x.av]]=hL∧tL 1=.int .i64 i∧tL 2=.hp h.length 0 0 0∧tL 5=.int .i64 k∧k≤x.fo.length∧(∀f∈x.fo.take k,decide (f.inn=i)=false)) ((fun(k:Nat)=>(x.fo.length-k:Nat)) (0)) ?_ ?_
 ·refine M0 ⟨0,rfl,aw,?_,?_,?_,by omega,by simp⟩;all_goals try exact zZz F
 rintro _ s2 h' ⟨k,rfl,rfl,e1,e2,e5,hk,hp⟩ K2 hK2;simp only[ai,ak,Nat.reduceEqDiff, ↓reduceIte]at e1 e2 e5;have F:=F4 F e1 e2 e5;refine wk F ?_;refine cq F (fun c1=>?_) (fun c1=>?_)<;>(try exact c1.elim)<;>(refine wk F ?_)
 ·have c2:k<x.fo.length:=by omega
  obtain⟨f,hf,hfm⟩:=ac c2;have F:=F3 F c2 hf;try refine sq F ?_
  refine wk F ?_;refine cq F (fun c3=>?_) (fun c3=>?_)<;>(try exact c3.elim)<;>(refine wk F ?_)
  ·refine ee hQ F ?_;exact L6 (.bool _) ⟨by rw[St.emp,any_at hf (O4 c3)];rfl,rfl⟩
  ·refine hK2 _ _ _ (M0 ⟨k+1,rfl,aw,?_,?_,?_,by omega,dB hf (O0 c3) hp⟩) (by omega);all_goals try exact zZz F
 rw[M4 (by omega)]at hp;try refine sq F ?_
 refine wk F ?_;refine lm (fun nL tL hL=>∃(k:Nat),x.fe.length-k=nL∧h++[.row 40 9 0 [x.av]]=hL∧tL 1=.int .i64 i∧tL 2=.hp h.length 0 0 0∧tL 6=.int .i64 k∧k≤x.fe.length∧(∀f∈x.fe.take k,decide (f.inn=i)=false)) ((fun(k:Nat)=>(x.fe.length-k:Nat)) (0)) ?_ ?_
 ·refine M0 ⟨0,rfl,aw,?_,?_,?_,by omega,by simp⟩;all_goals try exact zZz F
 rintro _ s3 h' ⟨k,rfl,rfl,e1,e2,e6,hk,hp2⟩ K3 hK3;simp only[ai,ak,Nat.reduceEqDiff, ↓reduceIte]at e1 e2 e6;have F:=F4 F e1 e2 e6;refine wk F ?_;refine cq F (fun c2=>?_) (fun c2=>?_)<;>(try exact c2.elim)<;>(refine wk F ?_)
 ·have c3:k<x.fe.length:=by omega
  obtain⟨f,hf,hfm⟩:=ac c3;have F:=F3 F c3 hf;try refine sq F ?_
  refine wk F ?_;refine cq F (fun c4=>?_) (fun c4=>?_)<;>(try exact c4.elim)<;>(refine wk F ?_)
  ·refine ee hQ F ?_;exact L6 (.bool _) ⟨by rw[St.emp,any_at hf (O4 c4)];simp,rfl⟩
  ·refine hK3 _ _ _ (M0 ⟨k+1,rfl,aw,?_,?_,?_,by omega,dB hf (O0 c4) hp2⟩) (by omega);all_goals try exact zZz F
 rw[M4 (by omega)]at hp2;refine ee hQ F ?_;exact L6 (.bool _) ⟨by rw[St.emp,any_no hp,any_no hp2];rfl,rfl⟩
theorem u7(l:List Bs)(g:Bs)(hl:l.length≤100000)(h:Heap):Sat (CT G) 93 [.sl 1 (l.map .str),.str g] h (fun r h'=>r=.bool (decide (g∈l))∧h'=h):=by
 have hel:(l.map AVal.str).length=l.length:=L8 ..;have F:=hel;refine sb [.tmp 4] Tryz.func93 ?_;intro Q hQ;refine wk F ?_;refine lm (fun nL tL hL=>∃(k:Nat),l.length-k=nL∧[]++h=hL∧tL 0=.sl 1 (l.map .str)∧tL 1=.str g∧tL 5=.int .i64 k∧k≤l.length∧g ∉ l.take k) ((fun(k:Nat)=>(l.length-k:Nat)) (0)) ?_ ?_
 ·refine M0 ⟨0,rfl,rfl,?_,?_,?_,by omega,by simp⟩;all_goals try exact zZz F
 rintro _ s2 h' ⟨k,rfl,rfl,e0,e1,e5,hk,hp⟩ K2 hK2;simp only[ai,ak,Nat.reduceEqDiff, ↓reduceIte]at e0 e1 e5;have F:=F4 F e0 e1 e5;refine wk F ?_;refine cq F (fun c1=>?_) (fun c1=>?_)<;>(try exact c1.elim)<;>(refine wk F ?_)
 ·have c2:k<l.length:=by omega
  obtain⟨f,hf,hfm⟩:=ac c2;have F:=F3 F c2 hf;try refine sq F ?_
  refine wk F ?_;refine cq F (fun c3=>?_) (fun c3=>?_)<;>(try exact c3.elim)<;>(refine wk F ?_)
  ·refine ee hQ F ?_;exact O5 (.bool _) ⟨by rw[O4 (by rw[← c3];exact hfm)],rfl⟩
  ·have hp1:g ∉ l.take (k+1):=by
    rw[O3,hf];intro q;simp at q;rcases q with q|q
    ·exact hp q
    ·exact c3 q.symm
   refine hK2 _ _ _ (M0 ⟨k+1,rfl,rfl,?_,?_,?_,by omega,hp1⟩) (by omega);all_goals try exact zZz F
 ·rw[M4 (by omega)]at hp;refine ee hQ F ?_;exact O5 (.bool _) ⟨by rw[O0 hp],rfl⟩
def topI(a b:Int):Int:=if a>b then a else b
theorem cy(a b:Int)(h:Heap):Sat (CT G) 95 [.int .i64 a,.int .i64 b] h (fun r h'=>r=.int .i64 (topI a b)∧h'=h):=by
 refine sb [.tmp 4] Tryz.func95 ?_;intro Q hQ;refine wk trivial ?_;refine cq trivial (fun c=>?_) (fun c=>?_)<;>(try exact c.elim)<;>(refine wk trivial ?_)
 ·refine ee hQ trivial ?_;exact O5 (.int _ _) ⟨by rw[topI,M1 (by omega)],rfl⟩
 ·refine ee hQ trivial ?_;exact O5 (.int _ _) ⟨by rw[topI,L5 (by omega)],rfl⟩
def St.dpW(x:St):Nat→Int→Nat→Nat
 |0,id,n=>if id=0 then n else 8
 |k+1,id,n=>if id=0 then n else match fnd (·.id) x.fo id with
  |none=>8
  |some f=>x.dpW k f.inn (n+1)
def St.deep(x:St)(id:Int):Nat:=match fnd (·.id) x.fo id with
 |none=>0
 |some _=>x.dpW 7 id 0
theorem ua(x:St)(id:Int)(hl:x.fo.length≤100000)(h:Heap):Sat (CT G) 88 [x.av,.int .i64 id] h (fun r h'=>r=.int .i64 (x.deep id)∧h'=h):=by
 have hel:(x.fo.map Fo.av).length=x.fo.length:=L8 ..;have hF:=fun i=>bK G x i hl
 cases hf0:fnd (·.id) x.fo id with
 |none=>
  have h0:=hF id;rw[dr hf0]at h0;have dm:∀i:Decidable True, @decide True i=true:=fun i=>O4 trivial
  have F:=dm;refine sb [.tmp 4] Tryz.func88 ?_;intro Q hQ;refine wk F ?_;refine kq F (h0 _) ?_;refine ee hQ F ?_;exact L6 (.int _ _) ⟨by rw[St.deep,hf0];rfl,rfl⟩
 |some f0=>
  obtain⟨k0,q1,q2,q3⟩:=bd hf0;have h0:=hF id;rw[q2]at h0;have hdp:x.deep id=x.dpW 7 id 0:=by rw[St.deep,hf0]
  rw[hdp];have F:=hel;refine sb [.tmp 4] Tryz.func88 ?_;intro Q hQ;refine wk F ?_;refine kq F (h0 _) ?_;have ck:decide ((k0:Int)<0)=false:=by simp
  have F:=F2 F ck;try refine sq F ?_
  refine wk F ?_;refine lm (fun nL tL hL=>∃(n:Nat) (i:Int),8-n=nL∧h++[.row 40 9 0 [x.av]]=hL∧tL 1=.int .i64 i∧tL 2=.hp h.length 0 0 0∧tL 5=.int .i64 n∧n≤7∧x.dpW (7-n) i n=x.dpW 7 id 0) ((fun(n:Nat) (i:Int)=>(8-n:Nat)) (0) (id)) ?_ ?_
  ·refine M0 ⟨0,id,rfl,aw,?_,?_,?_,by omega,rfl⟩;all_goals try exact zZz F
  rintro _ s2 h' ⟨n,i,rfl,rfl,e1,e2,e5,hn,hv⟩ K2 hK2;simp only[ai,ak,Nat.reduceEqDiff, ↓reduceIte]at e1 e2 e5;have F:=F4 F e1 e2 e5;refine wk F ?_;refine cq F (fun c1=>?_) (fun c1=>?_)<;>(try exact c1.elim)<;>(refine wk F ?_)
  ·have hi0:¬i=0:=(by first|exact c1|omega);cases hf:fnd (·.id) x.fo i with
   |none=>
    have h1:=hF i;rw[dr hf]at h1;have h8:x.dpW (7-n) i n=8:=by
     cases hk:7-n with
     |zero=>rw[St.dpW,L5 hi0]
     |succ k=>rw[St.dpW,L5 hi0,hf]
    have dm:∀i:Decidable True, @decide True i=true:=fun i=>O4 trivial
    have F:=F2 F dm;(try refine sq F ?_);refine wk F ?_;refine kq F (h1 _) ?_;refine ee hQ F ?_;exact L6 (.int _ _) ⟨by rw[← hv,h8];rfl,rfl⟩
   |some f=>
    obtain⟨k1,p1,p2,p3⟩:=bd hf;have h1:=hF i;rw[p2]at h1;have hkl:k1<x.fo.length:=(f9.1 p1).1;have d1:decide ((k1:Int)<0)=false:=(by simp);by_cases c7:n=7
    ·have d7:((n:Int)==7)=true:=(by simp;omega);have h8:x.dpW (7-n) i n=8:=by
      rw[c7];rw[St.dpW,L5 hi0]
     have F:=F3 F d1 d7;(try refine sq F ?_);refine wk F ?_;refine kq F (h1 _) ?_;refine ee hQ F ?_;exact L6 (.int _ _) ⟨by rw[← hv,h8];rfl,rfl⟩
    ·have d7:((n:Int)==7)=false:=(by simp;omega);have hst:x.dpW (7-(n+1)) f.inn (n+1)=x.dpW 7 id 0:=by
      rw[← hv,show 7-n=(7-(n+1))+1 by omega,St.dpW,L5 hi0,hf]
     have F:=F5 F d1 d7 p1 hkl;(try refine sq F ?_);refine wk F ?_;refine kq F (h1 _) ?_;refine hK2 _ _ _ (M0 ⟨n+1,f.inn,rfl,aw,?_,?_,?_,by omega,hst⟩) (by omega);all_goals try exact zZz F
  ·have hi0:i=0:=(by first|exact c1|omega);have h8:x.dpW (7-n) i n=n:=by
    cases hk:7-n with
    |zero=>rw[St.dpW,M1 hi0]
    |succ k=>rw[St.dpW,M1 hi0]
   refine ee hQ F ?_;exact L6 (.int _ _) ⟨by rw[← hv,h8],rfl⟩
end
section
attribute [local irreducible] WP WPl WPix Sat
def tgR(g:Bs):List Bs→Bool→List Bs
 | [],d=>if d then []else [g]
 |a::l,d=>if !d&&Op.bytesLess g a then g::((if a=g then []else [a])++tgR g l true)else(if a=g then []else [a])++tgR g l d
theorem mn(g:Bs)(l:List Bs):tgR g l true=l.filter fun a=>decide (a≠g):=by
 induction l with
 |nil=>rfl
 |cons a l ih=>
  rw[tgR,ih,S8];by_cases h:a=g<;>simp[h]
theorem zH{g:Bs}{l:List Bs}(h:∀b∈l,Op.bytesLess g b=true):tgR g l false=g::l:=by
 cases l with
 |nil=>rfl
 |cons b l=>
  have hb:=h b (by simp);have hne:¬b=g:=fun e=>by rw[e,bV]at hb;cases hb
  rw[tgR,hb,mn];simp only[zc8,Bool.and_self,if_true,hne,if_false,zb3,zc1,true_and];rw[R8];intro c hc;have hc2:=h c (by simp[hc]);simp only[M7];intro e;rw[e,bV]at hc2;cases hc2
theorem li{g:Bs}{l:List Bs}(h:g ∉ l):(l.filter fun a=>decide (a≠g))=l:=by
 rw[R8];intro c hc;simp only[M7];rintro rfl;exact h hc
theorem ub{g:Bs}:∀{l:List Bs},Srt l→tgR g l false=if g∈l then l else l.take (lbF l g)++g::l.drop (lbF l g)
 | [],_=>by simp[tgR]
 |a::l,hs=>by
  have hs':=hs;unfold Srt at hs';rw[U1]at hs';rw[eW];cases hag:Op.bytesLess a g with
  |true=>
   have hne:¬a=g:=fun e=>by rw[e,bV]at hag;cases hag
   have hga:Op.bytesLess g a=false:=by
    cases hq:Op.bytesLess g a with
    |false=>rfl
    |true=>have:=eV hag hq;rw[bV]at this;cases this
   have hm:(g∈a::l)=(g∈l):=(by rw[N2];exact propext ⟨fun q=>q.resolve_left fun e=>hne e.symm,.inr⟩);rw[tgR,hga,ub hs'.2];simp only[Bool.and_false,Q3,if_false,hne,if_true,hm,zb3];split<;>simp
  |false=>
   simp only[Q3,if_false,S9,Y3,P3];by_cases he:a=g
   ·subst he;rw[tgR,hag,zH hs'.1];simp
   ·have hga:Op.bytesLess g a=true:=by
     cases hq:Op.bytesLess g a with
     |true=>rfl
     |false=>exact(he (nq a g hag hq)).elim
    have hgl:g ∉ a::l:=by
     intro q;rcases N2.1 q with q|q
     ·exact he q.symm
     ·have:=eV hga (hs'.1 g q);rw[bV]at this;cases this
    rw[L5 hgl,tgR,hga,mn,li (fun q=>hgl (V7 _ q))];simp[he]
theorem pI{g:Bs}:∀{l:List Bs},Srt l→tgR g l true=if g∈l then l.take (lbF l g)++l.drop (lbF l g+1)else l
 | [],_=>by simp[tgR]
 |a::l,hs=>by
  have hs':=hs;unfold Srt at hs';rw[U1]at hs';by_cases hm:g∈a::l
  ·rw[M1 hm,eW];cases hag:Op.bytesLess a g with
   |true=>
    have hne:¬a=g:=fun e=>by rw[e,bV]at hag;cases hag
    have hl:g∈l:=(N2.1 hm).resolve_left fun e=>hne e.symm
    have ih:=pI (g:=g) hs'.2;rw[M1 hl]at ih;rw[tgR,ih];simp[hne]
   |false=>
    have he:a=g:=by
     rcases N2.1 hm with q|q
     ·exact q.symm
     ·have:=hs'.1 g q;rw[hag]at this;cases this
    subst he;have hl:a ∉ l:=fun q=>by have:=hs'.1 a q;rw[bV]at this;cases this
    rw[mn,S8,li hl];simp
  ·rw[L5 hm,mn,li hm]
theorem zI{l:List Bs}(hs:Srt l)(g:Bs){n:Int}(hn:n=0∨n=1):tgR g l (!(n==1))=tgF l g n:=by
 unfold tgF;rcases hn with rfl|rfl
 ·rw[show(!((0:Int)==1))=true from rfl,pI hs];by_cases h:g∈l
  ·rw[M1 h,L5 (fun q=>absurd q.1 (by decide)),M1 ⟨rfl,h⟩]
  ·rw[L5 h,L5 (fun q=>absurd q.1 (by decide)),L5 (fun q=>h q.2)]
 ·rw[show(!((1:Int)==1))=false from rfl,ub hs];by_cases h:g∈l
  ·rw[M1 h,L5 (fun q=>q.2 h),L5 (fun q=>absurd q.1 (by decide))]
  ·rw[L5 h,M1 ⟨rfl,h⟩]
variable (G:Nat→Option (List AVal))
theorem uc(l:List Bs)(g:Bs)(w:Bool)(hl:l.length≤100000)(h:Heap):Sat (CT G) 57 [.sl 1 (l.map .str),.str g,.bool w] h (fun r h'=>r=.sl 1 ((tgR g l (!w)).map .str)∧h'=h):=by
 have hel:(l.map AVal.str).length=l.length:=L8 ..;have F:=hel;refine sb [.tmp 6] Tryz.func57 ?_;intro Q hQ;refine wk F ?_;refine lm (fun nL tL hL=>∃(i v:Nat) (acc:List Bs) (d:Bool),l.length-i=nL∧h++[.row 9 1 v (acc.map .str)]=hL∧tL 0=.sl 1 (l.map .str)∧tL 1=.str g∧tL 7=.hs h.length v 0 acc.length true∧tL 8=.bool d∧tL 9=.int .i64 i∧i≤l.length∧acc.length≤2*i∧acc++tgR g (l.drop i) d=tgR g l (!w)) ((fun(i v:Nat) (acc:List Bs) (d:Bool)=>(l.length-i:Nat)) (0) (0) ([]) (!w)) ?_ ?_
 ·refine⟨_,_,Z2 7 9 1 (by simp) (by omega) (by exact zq F),⟨0,0,[], !w,rfl,aw,?_,?_,?_,?_,?_,by omega,by simp,rfl⟩⟩;all_goals try exact zZz F
 rintro _ s2 h' ⟨i,v,acc,d,rfl,rfl,e0,e1,e7,e8,e9,hi,hac,hp⟩ K2 hK2;simp only[ai,ak,Nat.reduceEqDiff, ↓reduceIte]at e0 e1 e7 e8 e9;have F:=F6 F e0 e1 e7 e8 e9;refine wk F ?_;refine cq F (fun c1=>?_) (fun c1=>?_)<;>(try exact c1.elim)<;>(refine wk F ?_)
 ·have c2:i<l.length:=by omega
  obtain⟨y,hy,_⟩:=ac c2;rw[aF hy,tgR]at hp;have hd:=two d;have he:=two (y==g);rcases hd with hd|hd<;>subst hd
  ·simp only[Bool.not_true,zc9,Q3,if_false]at hp;rcases he with he|he
   ·have he2:y=g:=(by simpa using he);rw[M1 he2,P3]at hp;have F:=F4 F c2 hy he;(try refine sq F ?_);refine wk F ?_;refine hK2 _ _ _ (M0 ⟨i+1,v,acc,true,rfl,rfl,?_,?_,?_,?_,?_,by omega,by omega,hp⟩) (by omega);all_goals try exact zZz F
   ·have he2:¬y=g:=(by simpa using he);rw[L5 he2,zb3]at hp;have F:=F4 F c2 hy he;(try refine sq F ?_);refine wk F ?_;refine aq F ?_;(try refine sq F ?_);refine wk F ?_;refine hK2 _ _ _ (M0 ⟨i+1,v+1,acc++[y],true,rfl,by simp,?_,?_,?_,?_,?_,by omega,by simp;omega,by rw[← hp];simp⟩) (by omega);all_goals try exact zZz F
  ·have hb:=two (Op.bytesLess g y);rcases hb with hb|hb<;>rcases he with he|he
   ·have he2:y=g:=(by simpa using he);rw[he2,bV]at hb;cases hb
   ·have he2:¬y=g:=(by simpa using he);rw[hb,M1 (by simp),L5 he2,zb3]at hp;have F:=F5 F c2 hy hb he;(try refine sq F ?_);refine wk F ?_;refine aq F ?_;(try refine sq F ?_);refine wk F ?_;refine aq F ?_;(try refine sq F ?_);refine wk F ?_;refine hK2 _ _ _ (M0 ⟨i+1,v+1+1,acc++[g]++[y],true,rfl,by simp,?_,?_,?_,?_,?_,by omega,by simp;omega,by rw[← hp];simp⟩) (by omega);all_goals try exact zZz F
   ·have he2:y=g:=(by simpa using he);rw[hb,L5 (by simp),M1 he2,P3]at hp;have F:=F5 F c2 hy hb he;(try refine sq F ?_);refine wk F ?_;refine hK2 _ _ _ (M0 ⟨i+1,v,acc,false,rfl,rfl,?_,?_,?_,?_,?_,by omega,by omega,hp⟩) (by omega);all_goals try exact zZz F
   ·have he2:¬y=g:=(by simpa using he);rw[hb,L5 (by simp),L5 he2,zb3]at hp;have F:=F5 F c2 hy hb he;(try refine sq F ?_);refine wk F ?_;refine aq F ?_;(try refine sq F ?_);refine wk F ?_;refine hK2 _ _ _ (M0 ⟨i+1,v+1,acc++[y],false,rfl,by simp,?_,?_,?_,?_,?_,by omega,by simp;omega,by rw[← hp];simp⟩) (by omega);all_goals try exact zZz F
 ·rw[aG (by omega),tgR]at hp;have hd:=two d;rcases hd with hd|hd
  ·subst hd;(try refine sq F ?_);refine wk F ?_;refine ee hQ F ?_;simp only[if_true,O2]at hp;rw[← hp];have hg:getRow (h++[.row 9 1 v (acc.map .str)]) h.length v=some (9,1,acc.map .str):=(by rw[aH _ rfl];simp[getRow]);exact Fin.frz (jw (M2 _) hg) ⟨rfl,rfl⟩
  ·subst hd;(try refine sq F ?_);refine wk F ?_;refine aq F ?_;(try refine sq F ?_);refine wk F ?_;refine ee hQ F ?_;simp only[Q3,if_false]at hp;rw[← hp];have hg:getRow (h++[.row 9 1 (v+1) ((acc++[g]).map .str)]) h.length (v+1)=some (9,1,(acc++[g]).map .str):=(by rw[aH _ rfl];simp[getRow]);have hz:=Fin.frz (R:=fun r h'=>r=.sl 1 ((acc++[g]).map AVal.str)∧h'=h) (jw (M2 _) hg) ⟨rfl,rfl⟩;simpa using hz
end
end Go.Av
