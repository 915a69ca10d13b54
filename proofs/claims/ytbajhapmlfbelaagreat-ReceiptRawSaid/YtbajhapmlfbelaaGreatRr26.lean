/- Part 26 of the proof: the law, for every input, and its row -/
import Derived.Test.YtbajhapmlfbelaaGreatRr25
import Derived.ChangeSlices
import Derived.ChangeArms
import Derived.Test.YtbajhapmlfbelaaGreatRows
import Derived.ProofKit
import Derived.JoinedOf
import Derived.KernelRfl
import Derived.WalkKit
import Derived.OpenShut
import Derived.ShutString
import Derived.ChangeOld
import Derived.Below
import Derived.SizedLaws
set_option maxRecDepth 100000
set_option linter.unusedVariables false
set_option linter.unusedSimpArgs false
namespace Go.Proofs.YtbajhapmlfbelaaGreat
open Go Go.Ab
attribute [local irreducible] upd del
theorem L0 (x m:Int) (st:St):S P 121 [eI x,eI m] st fun v st'=>v=.bool (J9 0 m x)∧st'=st:=by
 refine D6 [] Tryz.func121 ?_
 unfold J9
 refine B6 (fun h=>?_) (fun h=>?_)<;>rw [h]<;>(conv=>whnf)<;>exact ⟨rfl,rfl⟩
theorem A6A (l:List T5) (hl:l.length≤100000) (st:St):S P 123 [A6 3 U9 l] st fun v st'=>v=.bool (l.all D5&&decide ((l.length:Int)≤6))∧st'=st:=by
 refine D6 [] Tryz.func123 ?_
 refine lp l.length [0,3] (fun i vs s=>(∀ k,k<i→D5 (l.getD k default)=true)∧vs=[A6 3 U9 l,eI i]∧s=st) ?_ ?_
 ·conv=>whnf
  exact ⟨fun k hk=>absurd hk (by omega),rfl,rfl⟩
 rintro i vs s hi ⟨hok,rfl,rfl⟩
 conv=>whnf
 cases h:decide ((i:Int)<(l.length:Int))
 ·obtain rfl:=G2 h hi
  rw [A5g hok,Bool.true_and];conv=>whnf
  exact ⟨rfl,rfl⟩
 have hi':=N3 h
 have n1:=fun s=>L0 (l.getD (i:Int).toNat default).taken 100000000000000 s
 have n2:=fun s=>L0 (l.getD (i:Int).toNat default).given (l.getD (i:Int).toNat default).taken s
 have hx:D5 (l.getD (i:Int).toNat default)=((decide ((l.getD (i:Int).toNat default).kind≥1)&&decide ((l.getD (i:Int).toNat default).kind≤9))&&J9 0 100000000000000 (l.getD (i:Int).toNat default).taken&&J9 0 (l.getD (i:Int).toNat default).taken (l.getD (i:Int).toNat default).given):=rfl
 have yes:D5 (l.getD (i:Int).toNat default)=true→∀ k,k<i+1→D5 (l.getD k default)=true:=fun hm=>I1 hok hm
 have no:D5 (l.getD (i:Int).toNat default)=false→l.all D5=false:=fun hm=>A6U hi' hm
 generalize D5 (l.getD (i:Int).toNat default)=t at hx yes no
 clear hok
 conv=>whnf
 refine ⟨[],[],List.range 37,by kernel_rfl,?_⟩
 generalize J9 0 100000000000000 (l.getD (i:Int).toNat default).taken=b1 at *
 generalize J9 0 (l.getD (i:Int).toNat default).taken (l.getD (i:Int).toNat default).given=b2 at *
 cases t with
 | true =>
  have hx:=hx.symm
  simp only [Bool.and_eq_true,decide_eq_true_eq] at hx
  obtain ⟨⟨⟨e3,e4⟩,rfl⟩,rfl⟩:=hx
  have g1:decide ((l.getD (i:Int).toNat default).kind<1)=false:=decide_eq_false (by omega)
  have g2:decide ((l.getD (i:Int).toNat default).kind>9)=false:=decide_eq_false (by omega)
  repeat' ((conv=>whnf);first | refine ⟨rfl,⟨by omega,by omega⟩,?_⟩ | refine ⟨_,L9 (n1 _),?_⟩ | refine ⟨_,L9 (n2 _),?_⟩ | rw [g1] | rw [g2])
  refine H4 ?_
  exact nx hi' ⟨yes rfl,by rw [B7 (by omega)],rfl⟩
 | false =>
  repeat' ((conv=>whnf);first | refine ⟨rfl,⟨by omega,by omega⟩,?_⟩ | refine ⟨_,L9 (n1 _),?_⟩ | refine ⟨_,L9 (n2 _),?_⟩ | (refine B6 (fun h=>?_) (fun h=>?_)<;>rw [h]))
  all_goals first
   | (exfalso
      simp only [Bool.not_eq_true',Bool.not_eq_false',decide_eq_true_eq,decide_eq_false_iff_not] at *
      have e:((decide ((l.getD (i:Int).toNat default).kind≥1)&&decide ((l.getD (i:Int).toNat default).kind≤9))&&b1&&b2)=true:=by
       simp only [Bool.and_eq_true,decide_eq_true_eq]
       exact ⟨⟨⟨by omega,by omega⟩,by assumption⟩,by assumption⟩
      rw [←hx] at e;cases e;done)
   | (conv=>whnf
      rw [no rfl]
      exact ⟨rfl,rfl⟩)
def A9V (l:List T5):Int:=if (l.all D5&&decide ((l.length:Int)≤6))=true then N6 l else 0
theorem B7L (l:List T5) (hl:l.length≤100000) (st:St):S P 124 [A6 3 U9 l] st fun v st'=>v=eI (A9V l)∧st'=st:=by
 have n1:=fun s=>A6A l hl s
 have hL:A9V l=if (l.all D5&&decide ((l.length:Int)≤6))=true then N6 l else 0:=rfl
 have hok:(l.all D5&&decide ((l.length:Int)≤6))=true→l.length≤6∧∀ x∈l,D5 x=true:=fun h=>by
  simp only [Bool.and_eq_true,decide_eq_true_eq,List.all_eq_true] at h
  exact ⟨by omega,h.1⟩
 generalize (l.all D5&&decide ((l.length:Int)≤6))=b at *
 refine D6 [] Tryz.func124 ?_
 refine B3 (n1 _) ?_
 cases b
 ·rw [hL];conv=>whnf
  exact ⟨rfl,rfl⟩
 rw [if_pos rfl] at hL
 obtain ⟨h6,hok⟩:=hok rfl
 rw [hL]
 clear hL n1
 conv=>whnf
 refine lp l.length [0,3,4] (fun i vs s=>vs=[A6 3 U9 l,eI (N6 (l.take i)),eI i]∧s=st) ?_ ?_
 ·conv=>whnf
  exact ⟨rfl,rfl⟩
 rintro i vs s hi ⟨rfl,rfl⟩
 conv=>whnf
 cases h:decide ((i:Int)<(l.length:Int))
 ·obtain rfl:=G2 h hi
  rw [List.take_length];conv=>whnf
  exact ⟨rfl,rfl⟩
 have hi':=N3 h
 have hb:=A8I (l:=l) i hi (fun k hk=>hok _ (A7 (by omega)))
 have hx:=A4P (hok _ (A7 (show (i:Int).toNat<l.length from hi')))
 have hs:N6 (l.take (i+1))=N6 (l.take i)+((l.getD (i:Int).toNat default).taken - (l.getD (i:Int).toNat default).given):=A4D hi'
 have hw:IntKind.i64.wrap (IntKind.i64.wrap (N6 (l.take i)+(l.getD (i:Int).toNat default).taken) - (l.getD (i:Int).toNat default).given)=N6 (l.take (i+1)):=by
  rw [hs,A5 (x:=N6 (l.take i)+(l.getD (i:Int).toNat default).taken) (by omega) (by omega),A5 (by omega) (by omega)];omega
 conv=>whnf
 refine ⟨[],[],List.range 14,by kernel_rfl,?_⟩;conv=>whnf
 refine I3 ?_
 refine I3 ?_
 rw [hw]
 refine H4 ?_
 exact nx hi' ⟨by rw [B7 (by omega)],rfl⟩
theorem B0h (b:A0X) (st:St):S P 53 [Y9 b] st fun v st'=>v=eI (J8 b)∧st'=st:=by
 refine D6 [1] Tryz.func53 ?_
 refine lp 5 [3,4,5] (fun i vs s=>(∀ k,k<i→E6 (gI (F0 b) k)=true)∧(∃ F:Nat→AV,(∀ k,k<5→F k=eI (gI (F0 b) k))∧vs=[.arr 1 5 F,eI (A2 ((F0 b).take i)),eI i])∧s=st) ?_ ?_
 ·conv=>whnf
  exact ⟨fun k hk=>absurd hk (by omega),⟨_,fun k hk=>by
   rcases (by omega:k=0∨k=1∨k=2∨k=3∨k=4) with rfl | rfl | rfl | rfl | rfl<;>rfl,rfl⟩,rfl⟩
 rintro i vs s hi ⟨hok,⟨F,hF,rfl⟩,rfl⟩
 conv=>whnf
 cases h:decide ((i:Int)<5)
 ·obtain rfl:i=5:=by have:=of_decide_eq_false h;omega
  have e:J8 b=A2 (F0 b):=by unfold J8;rw [if_pos (A4r hok)]
  rw [e];conv=>whnf
  exact ⟨rfl,rfl⟩
 have hi':i<5:=by have:=of_decide_eq_true h;omega
 have hr:=fun s=>L0 (gI (F0 b) i) 100000000000000 s
 have hFi:F (i:Int).toNat=eI (gI (F0 b) i):=hF i hi'
 have hb:=A3u (l:=F0 b) i (by show i≤5;omega) hok
 have hn:=H8 (l:=F0 b) (i:=i) hi'
 have hw:E6 (gI (F0 b) i)=true→IntKind.i64.wrap (A2 ((F0 b).take i)+gI (F0 b) i)=A2 ((F0 b).take (i+1)):=fun hm=>by
  have hx:=J4.1 hm
  rw [hn];exact A5 (by omega) (by omega)
 have yes:E6 (gI (F0 b) i)=true→∀ k,k<i+1→E6 (gI (F0 b) k)=true:=fun hm=>I1 hok hm
 have no:E6 (gI (F0 b) i)=false→J8 b=0:=fun hm=>by unfold J8;rw [A4s hi' hm];rfl
 rw [show J9 0 100000000000000 (gI (F0 b) i)=E6 (gI (F0 b) i) from rfl] at hr
 generalize E6 (gI (F0 b) i)=m at hr hw yes no
 conv=>whnf
 refine ⟨rfl,⟨by omega,by omega⟩,?_⟩
 rw [hFi];conv=>whnf
 refine B3 (hr _) ?_
 cases m
 ·conv=>whnf
  rw [no rfl]
  exact ⟨rfl,rfl⟩
 ·conv=>whnf
  refine ⟨rfl,⟨by omega,by omega⟩,?_⟩
  rw [hFi];conv=>whnf
  rw [hw rfl]
  refine H4 ?_
  exact nx hi' ⟨yes rfl,⟨F,hF,by rw [B7 (by omega)]⟩,rfl⟩
theorem B3D (b:A0X) (st:St):S P 122 [Y9 b] st fun v st'=>v=.bool (A1h b)∧st'=st:=by
 have n1:=L0 b.goods 100000000000000 st
 have n2:=L0 b.tax 100000000000000 st
 have n3:=L0 b.ship 100000000000000 st
 have n4:=L0 b.shipTax 100000000000000 st
 have n5:=L0 b.fee 100000000000000 st
 have e:A1h b=(J9 0 100000000000000 b.goods&&(J9 0 100000000000000 b.tax&&(J9 0 100000000000000 b.ship&&(J9 0 100000000000000 b.shipTax&&(J9 0 100000000000000 b.fee&&true))))):=rfl
 rw [e]
 clear e
 generalize J9 0 100000000000000 b.goods=b1 at *
 generalize J9 0 100000000000000 b.tax=b2 at *
 generalize J9 0 100000000000000 b.ship=b3 at *
 generalize J9 0 100000000000000 b.shipTax=b4 at *
 generalize J9 0 100000000000000 b.fee=b5 at *
 refine SyW [1] Tryz.func122 ?_
 repeat' ((conv=>whnf);first | refine B3 n1 ?_ | refine B3 n2 ?_ | refine B3 n3 ?_ | refine B3 n4 ?_ | refine B3 n5 ?_ | (refine B6 (fun h=>?_) (fun h=>?_)<;>rw [h]))
 all_goals (conv=>whnf)
 all_goals (refine ⟨?_,rfl⟩;show AV.bool _=AV.bool _;clear n1 n2 n3 n4 n5)
 all_goals (simp only [*,Bool.true_and,Bool.false_and,Bool.and_true,Bool.and_false])
theorem B3m {l:List Y0} (h:∀ k,k<l.length→M7 (l.getD k default)=true):l.all M7=true:=List.all_eq_true.2 fun x hx=>by
 obtain ⟨k,hk,rfl⟩:=D3 hx;exact h k hk
theorem B5l {l:List Y0} {k:Nat} (hk:k<l.length) (h:M7 (l.getD k default)=false):l.all M7=false:=by
 rw [Bool.eq_false_iff];intro e
 rw [List.all_eq_true.1 e _ (A7 hk)] at h;cases h
def A7K (o:I6):Bool:=D0 o.id&&D0 o.zone&&(decide (o.rules≥1)&&decide (o.rules≤40))&&N0 o.codes&&J9 0 100000 o.day&&(decide ((o.lines.length:Int)≥1)&&decide ((o.lines.length:Int)≤1000))
theorem A4H (o:I6):Q7 o=(A7K o&&o.lines.all M7&&P6 o&&(A1h o.book&&(J8 o.book==o.net)&&(o.tenders.all D5&&decide ((o.tenders.length:Int)≤6))&&(A9V o.tenders==o.net))):=by
 have e:Q7 o=(decide ((o.tenders.length:Int)≤6)&&A6c o&&A1Z o&&P6 o&&A2V o&&P7 o):=rfl
 have h1:A6c o=(D0 o.id&&D0 o.zone&&(decide (o.rules≥1)&&decide (o.rules≤40))&&N0 o.codes&&J9 0 100000 o.day):=rfl
 rw [e,h1]
 unfold A1Z A2V P7 A7K A9V
 generalize decide ((o.tenders.length:Int)≤6)=a1
 generalize o.tenders.all D5=a2
 generalize o.lines.all M7=a3
 generalize P6 o=a4
 generalize A1h o.book=a5
 generalize (J8 o.book==o.net)=a6
 generalize decide ((o.lines.length:Int)≥1)=a7
 generalize decide ((o.lines.length:Int)≤1000)=a8
 generalize (D0 o.id&&D0 o.zone&&(decide (o.rules≥1)&&decide (o.rules≤40))&&N0 o.codes&&J9 0 100000 o.day)=a9
 cases a1<;>cases a2<;>simp only [Bool.and_true,Bool.and_false,Bool.true_and,Bool.false_and,if_true]<;>generalize (N6 o.tenders==o.net)=b<;>cases a3<;>cases a4<;>cases a5<;>cases a6<;>cases a7<;>cases a8<;>cases a9<;>cases b<;>rfl
set_option maxHeartbeats 4000000 in
theorem A6y (o:I6) (hs:A4R o) (st:St):S P 50 [H1 o] st fun v st'=>v=.bool (Q7 o)∧st'=st:=by
 have n1:=fun s=>A5G o.id hs.id s
 have n2:=fun s=>A5G o.zone hs.zone s
 have n3:=fun s=>B5I o.codes hs.codes hs.scodes s
 have n4:=fun s=>L0 o.day 100000 s
 have n5:=fun s=>L0 o.ship 10000000000000 s
 have n6:=fun s=>L0 o.shipTax 10000000000000 s
 have n7:=fun s=>L0 o.fee 100000000000000 s
 have n8:=fun s=>L0 o.net 100000000000000 s
 have m1:=fun s=>B3D o.book s
 have m2:=fun s=>B0h o.book s
 have m3:=fun s=>A6A o.tenders hs.tenders s
 have m4:=fun s=>B7L o.tenders hs.tenders s
 have hB:=A4H o
 have hA:P6 o=(J9 0 10000000000000 o.ship&&J9 0 10000000000000 o.shipTax&&J9 0 100000000000000 o.fee&&J9 0 100000000000000 o.net):=rfl
 have hH:A7K o=(D0 o.id&&D0 o.zone&&(decide (o.rules≥1)&&decide (o.rules≤40))&&N0 o.codes&&J9 0 100000 o.day&&(decide ((o.lines.length:Int)≥1)&&decide ((o.lines.length:Int)≤1000))):=rfl
 generalize D0 o.id=b1 at *
 generalize D0 o.zone=b2 at *
 generalize N0 o.codes=b3 at *
 generalize J9 0 100000 o.day=b4 at *
 generalize J9 0 10000000000000 o.ship=b5 at *
 generalize J9 0 10000000000000 o.shipTax=b6 at *
 generalize J9 0 100000000000000 o.fee=b7 at *
 generalize J9 0 100000000000000 o.net=b8 at *
 generalize A1h o.book=c1 at *
 generalize (o.tenders.all D5&&decide ((o.tenders.length:Int)≤6))=c3 at *
 generalize J8 o.book=z1 at *
 generalize A9V o.tenders=z2 at *
 generalize A7K o=H at *
 generalize P6 o=M at *
 have hlines:=hs.lines
 refine SyW [1,4] Tryz.func50 ?_
 cases H
 ·rw [hB]
  repeat' ((conv=>whnf);first | refine B3 (n1 _) ?_ | refine B3 (n2 _) ?_ | refine B3 (n3 _) ?_ | refine B3 (n4 _) ?_ | (refine B6 (fun h=>?_) (fun h=>?_)<;>rw [h]))
  all_goals first
   | (exfalso
      simp only [Bool.not_eq_true',Bool.not_eq_false',decide_eq_true_eq,decide_eq_false_iff_not] at *
      have e:(b1&&b2&&(decide (o.rules≥1)&&decide (o.rules≤40))&&b3&&b4&&(decide ((o.lines.length:Int)≥1)&&decide ((o.lines.length:Int)≤1000)))=true:=by
       simp only [Bool.and_eq_true,decide_eq_true_eq]
       exact ⟨⟨⟨⟨⟨by assumption,by assumption⟩,by omega,by omega⟩,by assumption⟩,by assumption⟩,by omega,by omega⟩
      rw [←hH] at e;cases e;done)
   | (conv=>whnf
      exact ⟨rfl,rfl⟩)
 have hH:=hH.symm
 simp only [Bool.and_eq_true,decide_eq_true_eq] at hH
 obtain ⟨⟨⟨⟨⟨rfl,rfl⟩,e3,e4⟩,rfl⟩,rfl⟩,e5,e6⟩:=hH
 have g1:decide (o.rules<1)=false:=decide_eq_false (by omega)
 have g2:decide (o.rules>40)=false:=decide_eq_false (by omega)
 have g3:decide ((o.lines.length:Int)<1)=false:=decide_eq_false (by omega)
 have g4:decide ((o.lines.length:Int)>1000)=false:=decide_eq_false (by omega)
 rw [Bool.true_and] at hB
 repeat' ((conv=>whnf);first | refine B3 (n1 _) ?_ | refine B3 (n2 _) ?_ | refine B3 (n3 _) ?_ | refine B3 (n4 _) ?_ | rw [g1] | rw [g2] | rw [g3] | rw [g4])
 clear n1 n2 n3 n4 g1 g2 g3 g4
 refine lp o.lines.length [1,3] (fun i vs s=>(∀ k,k<i→M7 (o.lines.getD k default)=true)∧vs=[.fptr (H1 o) 0,eI i]∧s=st) ?_ ?_
 ·conv=>whnf
  exact ⟨fun k hk=>absurd hk (by omega),rfl,rfl⟩
 rintro i vs s hi ⟨hok,rfl,rfl⟩
 conv=>whnf
 cases h:decide ((i:Int)<(o.lines.length:Int))
 ·obtain rfl:=G2 h hi
  rw [B3m hok,Bool.true_and] at hB
  rw [hB]
  cases M
  ·repeat' ((conv=>whnf);first | refine B3 (n5 _) ?_ | refine B3 (n6 _) ?_ | refine B3 (n7 _) ?_ | refine B3 (n8 _) ?_ | (refine B6 (fun h=>?_) (fun h=>?_)<;>rw [h]))
   all_goals first
    | (exfalso
       simp only [Bool.not_eq_true',Bool.not_eq_false',decide_eq_true_eq,decide_eq_false_iff_not] at *
       have e:(b5&&b6&&b7&&b8)=true:=by
        simp only [Bool.and_eq_true]
        exact ⟨⟨⟨by assumption,by assumption⟩,by assumption⟩,by assumption⟩
       rw [←hA] at e;cases e;done)
    | (conv=>whnf
       exact ⟨rfl,rfl⟩)
  have hA:=hA.symm
  simp only [Bool.and_eq_true] at hA
  obtain ⟨⟨⟨rfl,rfl⟩,rfl⟩,rfl⟩:=hA
  rw [Bool.true_and]
  repeat' ((conv=>whnf);first | refine B3 (n5 _) ?_ | refine B3 (n6 _) ?_ | refine B3 (n7 _) ?_ | refine B3 (n8 _) ?_)
  refine ⟨[],[],List.range 25,by kernel_rfl,?_⟩
  repeat' ((conv=>whnf);first | refine ⟨_,L9 (m1 _),?_⟩ | refine ⟨_,L9 (m2 _),?_⟩ | refine ⟨_,L9 (m3 _),?_⟩ | refine ⟨_,L9 (m4 _),?_⟩ | (refine B6 (fun h=>?_) (fun h=>?_)<;>rw [h]))
  all_goals (conv=>whnf)
  all_goals (refine ⟨?_,rfl⟩;show AV.bool _=AV.bool _;clear n5 n6 n7 n8 m1 m2 m3 m4)
  all_goals first | rfl | (simp only [Bool.true_and,Bool.false_and,Bool.and_true,Bool.and_false])
 have hi':=N3 h
 have hm:o.lines.getD (i:Int).toNat default∈o.lines:=A7 hi'
 have k1:=fun s=>A5G (o.lines.getD (i:Int).toNat default).sku (hs.slines _ hm) s
 have k2:=fun s=>L0 (o.lines.getD (i:Int).toNat default).price 1000000000 s
 have k3:=fun s=>L0 (o.lines.getD (i:Int).toNat default).goods 10000000000000 s
 have k4:=fun s=>L0 (o.lines.getD (i:Int).toNat default).tax 10000000000000 s
 have hx:M7 (o.lines.getD (i:Int).toNat default)=(D0 (o.lines.getD (i:Int).toNat default).sku&&J9 0 1000000000 (o.lines.getD (i:Int).toNat default).price&&(decide ((o.lines.getD (i:Int).toNat default).sold≥1)&&decide ((o.lines.getD (i:Int).toNat default).sold≤100000))&&(decide ((o.lines.getD (i:Int).toNat default).left≥0)&&decide ((o.lines.getD (i:Int).toNat default).left≤(o.lines.getD (i:Int).toNat default).sold))&&J9 0 10000000000000 (o.lines.getD (i:Int).toNat default).goods&&J9 0 10000000000000 (o.lines.getD (i:Int).toNat default).tax):=rfl
 have yes:M7 (o.lines.getD (i:Int).toNat default)=true→∀ k,k<i+1→M7 (o.lines.getD k default)=true:=fun hm=>I1 hok hm
 have no:M7 (o.lines.getD (i:Int).toNat default)=false→Q7 o=false:=fun hm=>by rw [hB,B5l hi' hm];rfl
 generalize M7 (o.lines.getD (i:Int).toNat default)=t at hx yes no
 clear hok n5 n6 n7 n8 m1 m2 m3 m4 hB hA
 conv=>whnf
 refine ⟨rfl,⟨by omega,by omega⟩,?_⟩
 generalize D0 (o.lines.getD (i:Int).toNat default).sku=d1 at *
 generalize J9 0 1000000000 (o.lines.getD (i:Int).toNat default).price=d2 at *
 generalize J9 0 10000000000000 (o.lines.getD (i:Int).toNat default).goods=d3 at *
 generalize J9 0 10000000000000 (o.lines.getD (i:Int).toNat default).tax=d4 at *
 cases t with
 | true =>
  have hx:=hx.symm
  simp only [Bool.and_eq_true,decide_eq_true_eq] at hx
  obtain ⟨⟨⟨⟨⟨rfl,rfl⟩,f1,f2⟩,f3,f4⟩,rfl⟩,rfl⟩:=hx
  have g1:decide ((o.lines.getD (i:Int).toNat default).sold<1)=false:=decide_eq_false (by omega)
  have g2:decide ((o.lines.getD (i:Int).toNat default).sold>100000)=false:=decide_eq_false (by omega)
  have g3:decide ((o.lines.getD (i:Int).toNat default).left<0)=false:=decide_eq_false (by omega)
  have g4:decide ((o.lines.getD (i:Int).toNat default).left>(o.lines.getD (i:Int).toNat default).sold)=false:=decide_eq_false (by omega)
  repeat' ((conv=>whnf);first | refine B3 (k1 _) ?_ | refine B3 (k2 _) ?_ | refine B3 (k3 _) ?_ | refine B3 (k4 _) ?_ | rw [g1] | rw [g2] | rw [g3] | rw [g4])
  refine H4 ?_
  exact nx hi' ⟨yes rfl,by rw [B7 (by omega)],rfl⟩
 | false =>
  repeat' ((conv=>whnf);first | refine B3 (k1 _) ?_ | refine B3 (k2 _) ?_ | refine B3 (k3 _) ?_ | refine B3 (k4 _) ?_ | (refine B6 (fun h=>?_) (fun h=>?_)<;>rw [h]))
  all_goals first
   | (exfalso
      simp only [Bool.not_eq_true',Bool.not_eq_false',decide_eq_true_eq,decide_eq_false_iff_not] at *
      have e:(d1&&d2&&(decide ((o.lines.getD (i:Int).toNat default).sold≥1)&&decide ((o.lines.getD (i:Int).toNat default).sold≤100000))&&(decide ((o.lines.getD (i:Int).toNat default).left≥0)&&decide ((o.lines.getD (i:Int).toNat default).left≤(o.lines.getD (i:Int).toNat default).sold))&&d3&&d4)=true:=by
       simp only [Bool.and_eq_true,decide_eq_true_eq]
       exact ⟨⟨⟨⟨⟨by assumption,by assumption⟩,by omega,by omega⟩,by omega,by omega⟩,by assumption⟩,by assumption⟩
      rw [←hx] at e;cases e;done)
   | (conv=>whnf
      rw [no rfl]
      exact ⟨rfl,rfl⟩)
theorem B3p {t k:Int} (ht:0≤t∧t≤10000000000000) (hk:0≤k∧k≤100000):0≤t * k∧t * k≤1000000000000000000:=by
 refine ⟨Int.mul_nonneg ht.1 hk.1,?_⟩
 have h1:t * k≤10000000000000 * k:=Int.mul_le_mul_of_nonneg_right ht.2 hk.1
 omega
theorem B6n (t n k:Int) (ht:0≤t∧t≤10000000000000) (hn:1≤n∧n≤100000) (hk:0≤k∧k≤n) (st:St):S P 132 [eI t,eI n,eI k] st fun v st'=>v=.tuple [eI (K6 t n k),eI 0]∧st'=st:=by
 have n1:=A1q t st
 rw [show E6 t=true from J4.2 ⟨by omega,by omega⟩] at n1
 have g1:decide (n<1)=false:=decide_eq_false (by omega)
 have g2:decide (n>100000)=false:=decide_eq_false (by omega)
 have g3:decide (k<0)=false:=decide_eq_false (by omega)
 have g4:decide (k>n)=false:=decide_eq_false (by omega)
 have w1:IntKind.u64.wrap t=t:=B0 (by omega) (by omega)
 have w2:IntKind.u64.wrap k=k:=B0 (by omega) (by omega)
 have w3:IntKind.u64.wrap n=n:=B0 (by omega) (by omega)
 have hm:=B3p ht (k:=k) ⟨hk.1,by omega⟩
 have w4:IntKind.u64.wrap (t * k)=t * k:=B0 hm.1 (by omega)
 have hu:=A0s ht.1 hn.1 hk.1 hk.2
 have w5:IntKind.u64.wrap ((t * k).tdiv n)=K6 t n k:=by rw [Int.tdiv_eq_ediv_of_nonneg hm.1];exact B0 (x:=K6 t n k) hu.1 (by omega)
 have w6:IntKind.i64.wrap (K6 t n k)=K6 t n k:=A5 (by omega) (by omega)
 refine SyW [] Tryz.func132 ?_
 repeat' ((conv=>whnf);first | refine B3 n1 ?_ | rw [g1] | rw [g2] | rw [g3] | rw [g4])
 conv=>whnf
 rw [w3,decide_eq_false (show ¬ n=0 by omega)];conv=>whnf
 rw [w1,w2,w4,w5,w6]
 exact ⟨rfl,rfl⟩
theorem B1J (t n k:Int) (ht:0≤t∧t≤10000000000000) (hn:1≤n∧n≤100000) (hk:0≤k∧k≤n):O7 t k n 0=(K6 t n k,0):=by
 have h1:(H7 t&&H7 k&&H7 n&&n != 0&&decide ((0:Int)≤0)&&decide ((0:Int)<3))=true:=by
  simp only [Bool.and_eq_true,U6,bne_iff_ne,decide_eq_true_eq]
  exact ⟨⟨⟨⟨⟨⟨by omega,by omega⟩,by omega,by omega⟩,by omega,by omega⟩,by omega⟩,by omega⟩,by omega⟩
 have hu:=A0s ht.1 hn.1 hk.1 hk.2
 unfold O7
 rw [h1,if_neg (by simp),if_neg (show ¬ t * k / n>100000000000000 by show ¬ K6 t n k>_;omega)]
 have e:J3 (t * k / n) (t * k % n) n 0=K6 t n k:=rfl
 rw [e,if_neg (by omega)]
theorem B2y (t n k:Int) (ht:0≤t∧t≤10000000000000) (hn:1≤n∧n≤100000) (hk:0≤k∧k≤n) (st:St):S P 133 [eI t,eI n,eI k] st fun v st'=>v=.tuple [eI (K6 t n k),eI 0]∧st'=st:=by
 have n1:=Z5 t st
 rw [show H7 t=true from (U6 t).2 ⟨by omega,by omega⟩] at n1
 have n2:=B5N t k n 0 st
 rw [B1J t n k ht hn hk] at n2
 have g1:decide (n<1)=false:=decide_eq_false (by omega)
 have g2:decide (n>100000)=false:=decide_eq_false (by omega)
 have g3:decide (k<0)=false:=decide_eq_false (by omega)
 have g4:decide (k>n)=false:=decide_eq_false (by omega)
 generalize K6 t n k=Y at *
 refine SyW [] Tryz.func133 ?_
 repeat' ((conv=>whnf);first | refine B3 n1 ?_ | refine B3 n2 ?_ | rw [g1] | rw [g2] | rw [g3] | rw [g4])
 exact ⟨rfl,rfl⟩
def S5 (x:Y0):F6:=⟨x.sku,x.left,x.price⟩
theorem B0k (o:I6) (hl:o.lines.length≤100000) (st:St):S P 54 [H1 o] st fun v st'=>v=A6 3 G3 (A0L o)∧st'=st:=by
 refine A4m (ty:=51) ?_
 refine D6 [1,5] Tryz.func54 ?_
 refine lp o.lines.length [3,7,8,9] (fun i vs s=>∃ sv,vs=[sv,A6 6 V3 o.lines,eI o.lines.length,eI i]∧M5 51 3 G3 ((o.lines.take i).map S5) st sv s) ?_ ?_
 ·conv=>whnf
  exact ⟨.emp,rfl,M5.start _ _ _ _⟩
 rintro i vs s hi ⟨sv,rfl,hc⟩
 conv=>whnf
 cases h:decide ((i:Int)<(o.lines.length:Int))
 ·obtain rfl:=G2 h hi
  rw [List.take_length] at hc;conv=>whnf
  exact hc
 have hi':=N3 h
 have hln:((o.lines.take i).map S5).length=i:=by rw [List.length_map,List.length_take];omega
 have htk:(o.lines.take (i+1)).map S5=(o.lines.take i).map S5++[S5 (o.lines.getD (i:Int).toNat default)]:=B0z hi' S5
 conv=>whnf
 refine I3 ?_
 refine M5.app (q:=r51) (y:=S5 (o.lines.getD (i:Int).toNat default)) rfl rfl rfl rfl rfl rfl (by rw [hln];show (i+1) * 32≤140737488355328;omega) hc (fun sv' s' hc'=>?_);conv=>whnf
 refine H4 ?_
 exact nx hi' ⟨sv',by rw [B7 (by omega)],by rw [htk];exact hc'⟩
theorem B1u (o:I6) (hl:o.lines.length≤100000) (st:St):S P 55 [H1 o] st fun v st'=>v=A6 3 G3 (A0L o)∧st'=st:=by
 refine A4m (ty:=51) ?_
 refine D6 [1] Tryz.func55 ?_
 refine lp o.lines.length [1,3,4] (fun i vs s=>∃ sv,vs=[.fptr (H1 o) 0,sv,eI i]∧M5 51 3 G3 ((o.lines.take i).map S5) st sv s) ?_ ?_
 ·conv=>whnf
  exact ⟨.emp,rfl,M5.start _ _ _ _⟩
 rintro i vs s hi ⟨sv,rfl,hc⟩
 conv=>whnf
 cases h:decide ((i:Int)<(o.lines.length:Int))
 ·obtain rfl:=G2 h hi
  rw [List.take_length] at hc;conv=>whnf
  exact hc
 have hi':=N3 h
 have hln:((o.lines.take i).map S5).length=i:=by rw [List.length_map,List.length_take];omega
 have htk:(o.lines.take (i+1)).map S5=(o.lines.take i).map S5++[S5 (o.lines.getD (i:Int).toNat default)]:=B0z hi' S5
 conv=>whnf
 refine ⟨[20,21],[],List.range 23,by kernel_rfl,?_⟩;conv=>whnf
 refine I3 ?_
 refine I3 ?_
 refine I3 ?_
 refine M5.app (q:=r51) (y:=S5 (o.lines.getD (i:Int).toNat default)) rfl rfl rfl rfl rfl rfl (by rw [hln];show (i+1) * 32≤140737488355328;omega) hc (fun sv' s' hc'=>?_);conv=>whnf
 refine H4 ?_
 exact nx hi' ⟨sv',by rw [B7 (by omega)],by rw [htk];exact hc'⟩
def W1 (o:I6) (i:Nat):A0X:=⟨shG (o.lines.take i),shT (o.lines.take i),if I0 (o.lines.take i)=true then o.ship else 0,if I0 (o.lines.take i)=true then o.shipTax else 0,0⟩
theorem A3L {l:List Y0} {i:Nat} (hi:i<l.length):I0 (l.take (i+1))=(I0 (l.take i)||decide ((l.getD i default).left>0)):=by
 unfold I0;rw [L7 hi,List.any_append];simp
theorem A8a {l:List Y0} (hl:l.length≤1000) (hk:∀ x∈l,M7 x=true) (i:Nat):(0≤shG (l.take i)∧shG (l.take i)≤10000000000000000)∧(0≤shT (l.take i)∧shT (l.take i)≤10000000000000000):=by
 have hln:(l.take i).length≤1000:=by rw [List.length_take];omega
 have a:=A6s (f:=fun x:Y0=>K6 x.goods x.sold x.left) (M:=10000000000000) (by decide) (l.take i) (fun x hx=>by
  obtain ⟨_,_,h1,h2,h3,_⟩:=A3W (hk x (List.take_subset _ _ hx))
  have:=A0s h3.1 h1.1 h2.1 h2.2
  exact ⟨this.1,by omega⟩) 0
 have b:=A6s (f:=fun x:Y0=>K6 x.tax x.sold x.left) (M:=10000000000000) (by decide) (l.take i) (fun x hx=>by
  obtain ⟨_,_,h1,h2,_,h3⟩:=A3W (hk x (List.take_subset _ _ hx))
  have:=A0s h3.1 h1.1 h2.1 h2.2
  exact ⟨this.1,by omega⟩) 0
 unfold shG shT
 exact ⟨⟨by omega,by omega⟩,by omega,by omega⟩
set_option maxHeartbeats 2000000 in
theorem A7X (o:I6) (hs:A4R o) (st:St):S P 56 [H1 o] st fun v st'=>v=Y9 (A0p o)∧st'=st:=by
 have n1:=fun s=>A6z o hs s
 have hB:A0p o=if Q7 o=true then W1 o o.lines.length else ⟨0,0,0,0,0⟩:=by
  unfold A0p W1;rw [List.take_length]
 have hO:Q7 o=true→o.lines.length≤1000∧∀ x∈o.lines,M7 x=true:=fun h=>by
  rw [A4H] at h
  unfold A7K at h
  simp only [Bool.and_eq_true,decide_eq_true_eq,List.all_eq_true] at h
  exact ⟨by omega,h.1.1.2⟩
 generalize Q7 o=b at *
 refine A1R ?_
 refine B4r [1,5] B7k mixed Tryz.func56 (by rfl) rfl rfl rfl ?_;conv=>whnf
 intro b2 hb2;conv=>whnf
 intro b3 hb3
 have h23:b2≠b3:=fun e=>by subst e;rw [A0] at hb3;cases hb3
 have hs2:E7 st (upd st b2 ⟨97,5,1,fun _=>H3 r97.zero⟩):=(E7.refl st).upd hb2
 have hb3':st b3=none:=hs2.none hb3
 conv=>whnf
 refine B3 (n1 _) ?_
 cases b
 ·rw [if_neg (by simp)] at hB
  rw [hB];conv=>whnf
  refine J5 (A0 ..) rfl ?_
  refine stW (by rw [A3 h23];exact A0 ..) rfl ?_
  refine J5 (A0 ..) (A9 ..) ?_
  exact ⟨rfl,((hs2.upd hb3).over hb2)⟩
 rw [if_pos rfl] at hB
 obtain ⟨hl,hk⟩:=hO rfl
 rw [hB]
 clear hB n1 hO
 conv=>whnf
 refine lp o.lines.length [1,2,3,15,16,17] (fun i vs s=>vs=[.fptr (H1 o) 0,.optr 5 b2 0 0,.optr 5 b3 0 0,A6 6 V3 o.lines,eI o.lines.length,eI i]∧∃ f3,s=upd (upd st b2 ⟨97,5,1,fun _=>H3 r97.zero⟩) b3 ⟨97,5,1,f3⟩∧f3 0=Y9 (W1 o i)) ?_ ?_
 ·conv=>whnf
  exact ⟨rfl,_,rfl,rfl⟩
 rintro i vs s hi ⟨rfl,f3,rfl,hf3⟩
 conv=>whnf
 cases h:decide ((i:Int)<(o.lines.length:Int))
 ·obtain rfl:=G2 h hi
  generalize W1 o o.lines.length=Z at *
  conv=>whnf
  refine J5 (A0 ..) hf3 ?_
  refine stW (by rw [A3 h23];exact A0 ..) rfl ?_
  refine J5 (A0 ..) (A9 ..) ?_
  exact ⟨rfl,((hs2.upd hb3).over hb2)⟩
 have hi':=N3 h
 have hkx:=A3W (hk (o.lines.getD (i:Int).toNat default) (A7 hi'))
 obtain ⟨-,-,k1,k2,k3,k4⟩:=hkx
 have c1:=fun s=>B6n (o.lines.getD (i:Int).toNat default).goods (o.lines.getD (i:Int).toNat default).sold (o.lines.getD (i:Int).toNat default).left k3 k1 k2 s
 have c2:=fun s=>B6n (o.lines.getD (i:Int).toNat default).tax (o.lines.getD (i:Int).toNat default).sold (o.lines.getD (i:Int).toNat default).left k4 k1 k2 s
 have hin:=A8a hl hk i
 have u1:=A0s k3.1 k1.1 k2.1 k2.2
 have u2:=A0s k4.1 k1.1 k2.1 k2.2
 have sg:shG (o.lines.take (i+1))=shG (o.lines.take i)+K6 (o.lines.getD (i:Int).toNat default).goods (o.lines.getD (i:Int).toNat default).sold (o.lines.getD (i:Int).toNat default).left:=H5 hi' _ _
 have stt:shT (o.lines.take (i+1))=shT (o.lines.take i)+K6 (o.lines.getD (i:Int).toNat default).tax (o.lines.getD (i:Int).toNat default).sold (o.lines.getD (i:Int).toNat default).left:=H5 hi' _ _
 have sa:I0 (o.lines.take (i+1))=(I0 (o.lines.take i)||decide ((o.lines.getD (i:Int).toNat default).left>0)):=A3L hi'
 have w1:IntKind.i64.wrap (shG (o.lines.take i)+K6 (o.lines.getD (i:Int).toNat default).goods (o.lines.getD (i:Int).toNat default).sold (o.lines.getD (i:Int).toNat default).left)=shG (o.lines.take (i+1)):=by rw [sg];exact A5 (by omega) (by omega)
 have w2:IntKind.i64.wrap (shT (o.lines.take i)+K6 (o.lines.getD (i:Int).toNat default).tax (o.lines.getD (i:Int).toNat default).sold (o.lines.getD (i:Int).toNat default).left)=shT (o.lines.take (i+1)):=by rw [stt];exact A5 (by omega) (by omega)
 have hN:W1 o (i+1)=⟨shG (o.lines.take (i+1)),shT (o.lines.take (i+1)),if I0 (o.lines.take (i+1))=true then o.ship else 0,if I0 (o.lines.take (i+1))=true then o.shipTax else 0,0⟩:=rfl
 have hZ:W1 o i=⟨shG (o.lines.take i),shT (o.lines.take i),if I0 (o.lines.take i)=true then o.ship else 0,if I0 (o.lines.take i)=true then o.shipTax else 0,0⟩:=rfl
 rw [sa] at hN
 rw [hZ] at hf3
 generalize shG (o.lines.take (i+1))=G1 at *
 generalize shT (o.lines.take (i+1))=T1 at *
 generalize shG (o.lines.take i)=G0 at *
 generalize shT (o.lines.take i)=T0 at *
 generalize I0 (o.lines.take i)=a0 at *
 generalize K6 (o.lines.getD (i:Int).toNat default).goods (o.lines.getD (i:Int).toNat default).sold (o.lines.getD (i:Int).toNat default).left=Y1 at *
 generalize K6 (o.lines.getD (i:Int).toNat default).tax (o.lines.getD (i:Int).toNat default).sold (o.lines.getD (i:Int).toNat default).left=Y2 at *
 clear hin u1 u2 sg stt sa hZ
 conv=>whnf
 refine I3 ?_
 refine I7 (c1 _) ?_
 refine I7 (c2 _) ?_
 refine J5 (A0 ..) hf3 ?_
 rw [w1]
 refine stU (A0 ..) hf3 ?_
 rw [E4];conv=>whnf
 refine J5 (A0 ..) (A9 ..) ?_
 rw [w2]
 refine stU (A0 ..) (A9 ..) ?_
 rw [E4];conv=>whnf
 refine B6 (fun h5=>?_) (fun h5=>?_)<;>rw [h5] at hN ⊢
 ·rw [Bool.or_true] at hN;conv=>whnf
  refine .inr ⟨[5,7],.qui 0 (.qui 1 (.qui 2 (.qui 3 (.qui 4 (.eff 5 [3] (.qui 6 (.eff 7 [] (.done)))))))),by kernel_rfl,?_⟩;conv=>whnf
  refine ⟨_,fun _=>True,trivial,fun s _=>⟨rfl,rfl⟩,?_⟩;conv=>whnf
  refine ⟨_,fun _=>True,trivial,fun s _=>⟨rfl,rfl⟩,?_⟩;conv=>whnf
  refine stU (A0 ..) (A9 ..) ?_
  rw [E4];conv=>whnf
  refine ⟨fun _=>trivial,?_⟩;conv=>whnf
  refine stU (A0 ..) (A9 ..) ?_
  rw [E4];conv=>whnf
  refine H4 ?_
  exact nx hi' ⟨by rw [B7 (by omega)],_,rfl,by rw [A9,hN];rfl⟩
 ·rw [Bool.or_false] at hN;conv=>whnf
  refine H4 ?_
  exact nx hi' ⟨by rw [B7 (by omega)],_,rfl,by rw [A9,hN];rfl⟩
set_option maxHeartbeats 2000000 in
theorem B0l (o:I6) (hs:A4R o) (st:St):S P 57 [H1 o] st fun v st'=>v=Y9 (A0p o)∧st'=st:=by
 have n1:=fun s=>A6y o hs s
 have hB:A0p o=if Q7 o=true then W1 o o.lines.length else ⟨0,0,0,0,0⟩:=by
  unfold A0p W1;rw [List.take_length]
 have hO:Q7 o=true→o.lines.length≤1000∧∀ x∈o.lines,M7 x=true:=fun h=>by
  rw [A4H] at h
  unfold A7K at h
  simp only [Bool.and_eq_true,decide_eq_true_eq,List.all_eq_true] at h
  exact ⟨by omega,h.1.1.2⟩
 generalize Q7 o=b at *
 refine A1R ?_
 refine B4r [1,5] B7k mixed Tryz.func57 (by rfl) rfl rfl rfl ?_;conv=>whnf
 intro b2 hb2;conv=>whnf
 intro b3 hb3
 have h23:b2≠b3:=fun e=>by subst e;rw [A0] at hb3;cases hb3
 have hs2:E7 st (upd st b2 ⟨97,5,1,fun _=>H3 r97.zero⟩):=(E7.refl st).upd hb2
 have hb3':st b3=none:=hs2.none hb3
 conv=>whnf
 refine stU (A0 ..) rfl ?_
 rw [E4];conv=>whnf
 refine B3 (n1 _) ?_
 cases b
 ·rw [if_neg (by simp)] at hB
  rw [hB];conv=>whnf
  refine J5 (A0 ..) (A9 ..) ?_
  refine stW (by rw [A3 h23];exact A0 ..) rfl ?_
  refine J5 (A0 ..) (A9 ..) ?_
  exact ⟨rfl,((hs2.upd hb3).over hb2)⟩
 rw [if_pos rfl] at hB
 obtain ⟨hl,hk⟩:=hO rfl
 rw [hB]
 clear hB n1 hO
 conv=>whnf
 refine lp o.lines.length [1,2,3,4] (fun i vs s=>vs=[.fptr (H1 o) 0,.optr 5 b2 0 0,.optr 5 b3 0 0,eI i]∧∃ f3,s=upd (upd st b2 ⟨97,5,1,fun _=>H3 r97.zero⟩) b3 ⟨97,5,1,f3⟩∧f3 0=Y9 (W1 o i)) ?_ ?_
 ·conv=>whnf
  exact ⟨rfl,_,rfl,A9 ..⟩
 rintro i vs s hi ⟨rfl,f3,rfl,hf3⟩
 conv=>whnf
 cases h:decide ((i:Int)<(o.lines.length:Int))
 ·obtain rfl:=G2 h hi
  generalize W1 o o.lines.length=Z at *
  conv=>whnf
  refine J5 (A0 ..) hf3 ?_
  refine stW (by rw [A3 h23];exact A0 ..) rfl ?_
  refine J5 (A0 ..) (A9 ..) ?_
  exact ⟨rfl,((hs2.upd hb3).over hb2)⟩
 have hi':=N3 h
 have hkx:=A3W (hk (o.lines.getD (i:Int).toNat default) (A7 hi'))
 obtain ⟨-,-,k1,k2,k3,k4⟩:=hkx
 have c1:=fun s=>B2y (o.lines.getD (i:Int).toNat default).goods (o.lines.getD (i:Int).toNat default).sold (o.lines.getD (i:Int).toNat default).left k3 k1 k2 s
 have c2:=fun s=>B2y (o.lines.getD (i:Int).toNat default).tax (o.lines.getD (i:Int).toNat default).sold (o.lines.getD (i:Int).toNat default).left k4 k1 k2 s
 have hin:=A8a hl hk i
 have u1:=A0s k3.1 k1.1 k2.1 k2.2
 have u2:=A0s k4.1 k1.1 k2.1 k2.2
 have sg:shG (o.lines.take (i+1))=shG (o.lines.take i)+K6 (o.lines.getD (i:Int).toNat default).goods (o.lines.getD (i:Int).toNat default).sold (o.lines.getD (i:Int).toNat default).left:=H5 hi' _ _
 have stt:shT (o.lines.take (i+1))=shT (o.lines.take i)+K6 (o.lines.getD (i:Int).toNat default).tax (o.lines.getD (i:Int).toNat default).sold (o.lines.getD (i:Int).toNat default).left:=H5 hi' _ _
 have sa:I0 (o.lines.take (i+1))=(I0 (o.lines.take i)||decide ((o.lines.getD (i:Int).toNat default).left>0)):=A3L hi'
 have w1:IntKind.i64.wrap (shG (o.lines.take i)+K6 (o.lines.getD (i:Int).toNat default).goods (o.lines.getD (i:Int).toNat default).sold (o.lines.getD (i:Int).toNat default).left)=shG (o.lines.take (i+1)):=by rw [sg];exact A5 (by omega) (by omega)
 have w2:IntKind.i64.wrap (shT (o.lines.take i)+K6 (o.lines.getD (i:Int).toNat default).tax (o.lines.getD (i:Int).toNat default).sold (o.lines.getD (i:Int).toNat default).left)=shT (o.lines.take (i+1)):=by rw [stt];exact A5 (by omega) (by omega)
 have hN:W1 o (i+1)=⟨shG (o.lines.take (i+1)),shT (o.lines.take (i+1)),if I0 (o.lines.take (i+1))=true then o.ship else 0,if I0 (o.lines.take (i+1))=true then o.shipTax else 0,0⟩:=rfl
 have hZ:W1 o i=⟨shG (o.lines.take i),shT (o.lines.take i),if I0 (o.lines.take i)=true then o.ship else 0,if I0 (o.lines.take i)=true then o.shipTax else 0,0⟩:=rfl
 rw [sa] at hN
 rw [hZ] at hf3
 generalize shG (o.lines.take (i+1))=G1 at *
 generalize shT (o.lines.take (i+1))=T1 at *
 generalize shG (o.lines.take i)=G0 at *
 generalize shT (o.lines.take i)=T0 at *
 generalize I0 (o.lines.take i)=a0 at *
 generalize K6 (o.lines.getD (i:Int).toNat default).goods (o.lines.getD (i:Int).toNat default).sold (o.lines.getD (i:Int).toNat default).left=Y1 at *
 generalize K6 (o.lines.getD (i:Int).toNat default).tax (o.lines.getD (i:Int).toNat default).sold (o.lines.getD (i:Int).toNat default).left=Y2 at *
 clear hin u1 u2 sg stt sa hZ
 conv=>whnf
 refine I3 ?_
 refine I7 (c1 _) ?_
 refine I7 (c2 _) ?_
 refine J5 (A0 ..) hf3 ?_
 refine J5 (A0 ..) hf3 ?_
 rw [w1]
 refine stU (A0 ..) hf3 ?_
 rw [E4];conv=>whnf
 rw [w2]
 refine stU (A0 ..) (A9 ..) ?_
 rw [E4];conv=>whnf
 refine B6 (fun h5=>?_) (fun h5=>?_)<;>rw [h5] at hN ⊢
 ·rw [Bool.or_true] at hN;conv=>whnf
  refine .inr ⟨[5,7],.qui 0 (.qui 1 (.qui 2 (.qui 3 (.qui 4 (.eff 5 [3] (.qui 6 (.eff 7 [] (.done)))))))),by kernel_rfl,?_⟩;conv=>whnf
  refine ⟨_,fun _=>True,trivial,fun s _=>⟨rfl,rfl⟩,?_⟩;conv=>whnf
  refine ⟨_,fun _=>True,trivial,fun s _=>⟨rfl,rfl⟩,?_⟩;conv=>whnf
  refine stU (A0 ..) (A9 ..) ?_
  rw [E4];conv=>whnf
  refine ⟨fun _=>trivial,?_⟩;conv=>whnf
  refine stU (A0 ..) (A9 ..) ?_
  rw [E4];conv=>whnf
  refine H4 ?_
  exact nx hi' ⟨by rw [B7 (by omega)],_,rfl,by rw [A9,hN];rfl⟩
 ·rw [Bool.or_false] at hN;conv=>whnf
  refine H4 ?_
  exact nx hi' ⟨by rw [B7 (by omega)],_,rfl,by rw [A9,hN];rfl⟩
def aqZ:N4:=⟨⟨#[122]⟩,[],1000,0⟩
def aqI:List Ab.Item:=[⟨⟨#[97]⟩,⟨#[120]⟩,50,false⟩]
def aqR:O6:=⟨aqI,[],⟨false,false,0,[aqZ]⟩,⟨0,0⟩,⟨0,0,1,0,[],[]⟩⟩
def aqL:List F6:=[⟨⟨#[97]⟩,2,50⟩]
def aqA:List Add:=[⟨⟨#[97]⟩,2⟩]
def aqQ:A2U:=⟨[100],[10],0,0,110,[]⟩
theorem B4F:A2a aqI aqA=(aqL,0):=by kernel_rfl
theorem B4D:G6 aqR [] aqL=0:=by kernel_rfl
theorem B4G:U4 aqR aqL [] []=⟨[100],100,0,[]⟩:=by kernel_rfl
theorem B4E:A3D aqR:=⟨Nat.zero_le _,fun p hp=>absurd hp List.not_mem_nil,by show 0<_;decide,by show 0<_;decide⟩
theorem B0j {codes:List D9} {o:List Int} (ho:A5p [] codes o):H0 [] o=[]:=List.perm_nil.1 ((B3F [] o).trans ho.1)
theorem B2Q (st:St):S P 18 [Q1 aqR,D8 [],A6 3 G3 aqL] st fun v st'=>v=.tuple [A3S ⟨[100],100,0,[]⟩,eI 0]∧st'=st :=
 (B7G B6c aqR [] aqL B4E (by decide) (by decide) (by decide) st).mono fun v s hv=>by
  obtain ⟨hv,rfl⟩:=hv
  refine ⟨?_,rfl⟩
  rcases hv with ⟨h,_⟩ | ⟨_,o1,o2,h1,h2,h3⟩
  ·exact absurd B4D h
  ·rw [show aqR.promos=[] from rfl] at h1 h2 h3
   rw [B0j h1,B0j h2,B4G] at h3
   exact h3
theorem A8q:A3c aqR.tax aqZ (M6 aqR aqL) [100] 0:=by
 refine ⟨by kernel_rfl,by kernel_rfl,by kernel_rfl,⟨by decide,fun x hx=>?_,by decide⟩,by decide⟩
 rw [List.mem_singleton.1 hx];decide
theorem B2R (st:St):S P 45 [Q1 aqR,eS ⟨#[122]⟩,eB false,D8 [],A6 3 G3 aqL] st fun v st'=>v=.tuple [A3j aqQ,eI 0]∧st'=st:=by
 have hI:∀ st,S P 75 [A6 4 E9 aqR.items,A6 3 G3 aqL] st fun v s=>v=A6 4 E9 (C2 aqR.items aqL)∧s=st:=fun st=>A7M _ _ (by decide) (by decide) (fun x hx=>by rw [List.mem_singleton.1 hx];kernel_rfl) st
 have h:=B7I (r:=aqR) (codes:=[]) (l:=aqL) (Pr:=⟨[100],100,0,[]⟩) (z:=aqZ) (zone:=⟨#[122]⟩) false B2Q hI (by decide) A8q (by kernel_rfl) (fun st=>B4P aqR.tax _ _ (by decide) (by kernel_rfl) (fun x hx=>(A3Z A8q).2 x hx) st) (B3o A8q false) st
 rw [show B1r aqR aqZ false aqL ⟨[100],100,0,[]⟩=aqQ by kernel_rfl] at h
 exact h
theorem B8m (l:List Ab.Item) (hl:l.length≤100000) (st:St):S P 183 [A6 4 E9 l] st fun v st'=>M5 64 4 E9 l st v st':=by
 refine SyW [] Tryz.func183 ?_
 cases l with
 | nil =>
  conv=>whnf
  refine ⟨?_,?_⟩
  ·conv=>whnf
   exact I2.start _ _ _ _
  ·conv=>whnf
   refine apE rfl rfl rfl rfl rfl (by show 0 * 48≤_;omega) (fun _=>?_) (fun h=>absurd h (by show ¬ 0<0;omega));conv=>whnf
   exact I2.start _ _ _ _
 | cons u us =>
  conv=>whnf
  refine I2.apps (n:=0) (m:=us.length+1) (q:=r64) (f:=fun k=>E9 ((u::us).getD k default)) rfl rfl rfl rfl rfl (fun i hi=>by rw [Nat.zero_add]) (by show (0+(us.length+1)) * 48≤140737488355328;simp only [List.length_cons] at hl;omega) (I2.start _ _ _ _) (fun sv' st'' hc'=>?_);conv=>whnf
  rw [Nat.zero_add] at hc'
  exact hc'
theorem B0N (l:List D9) (hl:l.length≤100000) (st:St):S P 98 [A6 1 eS l] st fun v st'=>M5 9 1 eS l st v st':=by
 refine SyW [] Tryz.func98 ?_
 cases l with
 | nil =>
  conv=>whnf
  refine ⟨?_,?_⟩
  ·conv=>whnf
   exact I2.start _ _ _ _
  ·conv=>whnf
   refine apE rfl rfl rfl rfl rfl (by show 0 * 16≤_;omega) (fun _=>?_) (fun h=>absurd h (by show ¬ 0<0;omega));conv=>whnf
   exact I2.start _ _ _ _
 | cons u us =>
  conv=>whnf
  refine I2.apps (n:=0) (m:=us.length+1) (q:=r9) (f:=fun k=>eS ((u::us).getD k default)) rfl rfl rfl rfl rfl (fun i hi=>by rw [Nat.zero_add]) (by show (0+(us.length+1)) * 16≤140737488355328;simp only [List.length_cons] at hl;omega) (I2.start _ _ _ _) (fun sv' st'' hc'=>?_);conv=>whnf
  rw [Nat.zero_add] at hc'
  exact hc'
theorem A9I (l:List D9) (hl:l.length≤100000) (st:St):S P 98 [A6 1 eS l] st fun v st'=>v=A6 1 eS l∧st'=st:=A4m (B0N l hl st)
structure Pay where
 kind:Int
 amount:Int
 deriving Inhabited
def B6Z (x:Pay):AV:=.agg [eI x.kind,eI x.amount]
def A3r (x:Pay):Bool:=J9 1 9 x.kind&&decide (x.amount≥1)&&E6 x.amount
def S6 (l:List Pay):Int:=l.foldl (fun a x=>a+x.amount) 0
def B2u (l:List Pay) (total:Int):Bool:=decide ((l.length:Int)≤6)&&l.all A3r&&(S6 l==total)
theorem B5C {l:List Pay}:∀ i,i≤l.length→(∀ k,k<i→A3r (l.getD k default)=true)→0≤S6 (l.take i)∧S6 (l.take i)≤100000000000000 * (i:Int)
 | 0,_,_=>⟨by rw [List.take_zero];exact Int.le_refl _,by rw [List.take_zero];exact Int.le_refl _⟩
 | i+1,hi,h=>by
  have ih:=B5C i (by omega) fun k hk=>h k (by omega)
  have hx:=h i (by omega)
  unfold A3r E6 at hx
  simp only [Bool.and_eq_true,J4,decide_eq_true_eq] at hx
  have e:S6 (l.take (i+1))=S6 (l.take i)+(l.getD i default).amount:=H5 (by omega) _ _
  rw [e]
  omega
theorem B9t (l:List Pay) (total:Int) (hl:l.length≤100000) (st:St):S P 137 [A6 2 B6Z l,eI total] st fun v st'=>v=.bool (B2u l total)∧st'=st:=by
 have hP:B2u l total=(decide ((l.length:Int)≤6)&&l.all A3r&&(S6 l==total)):=rfl
 refine D6 [7] Tryz.func137 ?_
 refine B6 (fun h=>?_) (fun h=>?_)<;>rw [h]<;>simp only [decide_eq_true_eq,decide_eq_false_iff_not] at h
 ·rw [decide_eq_false (by omega)] at hP
  rw [hP];conv=>whnf
  exact ⟨rfl,rfl⟩
 rw [decide_eq_true (by omega),Bool.true_and] at hP;conv=>whnf
 refine lp l.length [1,5,11,12,13] (fun i vs s=>(∀ k,k<i→A3r (l.getD k default)=true)∧vs=[eI total,eI (S6 (l.take i)),A6 2 B6Z l,eI l.length,eI i]∧s=st) ?_ ?_
 ·conv=>whnf
  exact ⟨fun k hk=>absurd hk (by omega),rfl,rfl⟩
 rintro i vs s hi ⟨hok,rfl,rfl⟩
 conv=>whnf
 cases h1:decide ((i:Int)<(l.length:Int))
 ·obtain rfl:=G2 h1 hi
  rw [show l.all A3r=true from List.all_eq_true.2 fun x hx=>by obtain ⟨k,hk,rfl⟩:=D3 hx;exact hok k hk,Bool.true_and] at hP
  rw [hP,List.take_length]
  generalize S6 l=Z
  conv=>whnf
  exact ⟨rfl,rfl⟩
 have hi':=N3 h1
 have n1:=fun s=>B1e (l.getD (i:Int).toNat default).kind s
 have n2:=fun s=>A1q (l.getD (i:Int).toNat default).amount s
 have hx:A3r (l.getD (i:Int).toNat default)=(J9 1 9 (l.getD (i:Int).toNat default).kind&&decide ((l.getD (i:Int).toNat default).amount≥1)&&E6 (l.getD (i:Int).toNat default).amount):=rfl
 have hb:=B5C i hi hok
 have hs:S6 (l.take (i+1))=S6 (l.take i)+(l.getD (i:Int).toNat default).amount:=H5 hi' _ _
 have hm:A3r (l.getD (i:Int).toNat default)=true→0≤(l.getD (i:Int).toNat default).amount∧(l.getD (i:Int).toNat default).amount≤100000000000000:=fun hm=>by
  rw [hx] at hm
  unfold E6 at hm
  simp only [Bool.and_eq_true,J4,decide_eq_true_eq] at hm
  omega
 have hw:A3r (l.getD (i:Int).toNat default)=true→IntKind.i64.wrap (S6 (l.take i)+(l.getD (i:Int).toNat default).amount)=S6 (l.take (i+1)):=fun h2=>by
  have:=hm h2
  rw [hs];exact A5 (by omega) (by omega)
 have yes:A3r (l.getD (i:Int).toNat default)=true→∀ k,k<i+1→A3r (l.getD k default)=true:=fun hm=>I1 hok hm
 have no:A3r (l.getD (i:Int).toNat default)=false→B2u l total=false:=fun hm=>by
  rw [hP,show l.all A3r=false by
   have hm:A3r (l.getD i default)=false:=hm
   rw [Bool.eq_false_iff];intro e
   rw [List.all_eq_true.1 e _ (A7 hi')] at hm;cases hm]
  rfl
 generalize A3r (l.getD (i:Int).toNat default)=t at hx hw yes no
 generalize hY:S6 (l.take (i+1))=Y at hw
 generalize S6 (l.take i)=Z at hw ⊢
 clear hok hb hs hm hP
 conv=>whnf
 refine ⟨rfl,⟨by omega,by omega⟩,?_⟩
 generalize J9 1 9 (l.getD (i:Int).toNat default).kind=b1 at *
 generalize E6 (l.getD (i:Int).toNat default).amount=b2 at *
 cases t with
 | true =>
  have hx:=hx.symm
  simp only [Bool.and_eq_true,decide_eq_true_eq] at hx
  obtain ⟨⟨rfl,e3⟩,rfl⟩:=hx
  have g1:decide ((l.getD (i:Int).toNat default).amount<1)=false:=decide_eq_false (by omega)
  repeat' ((conv=>whnf);first | refine B3 (n1 _) ?_ | refine B3 (n2 _) ?_ | rw [g1])
  refine H4 ?_
  exact nx hi' ⟨yes rfl,by rw [hY,←hw rfl,B7 (by omega)],rfl⟩
 | false =>
  repeat' ((conv=>whnf);first | refine B3 (n1 _) ?_ | refine B3 (n2 _) ?_ | (refine B6 (fun h=>?_) (fun h=>?_)<;>rw [h]))
  all_goals first
   | (exfalso
      simp only [Bool.not_eq_true',Bool.not_eq_false',decide_eq_true_eq,decide_eq_false_iff_not] at *
      have e:(b1&&decide ((l.getD (i:Int).toNat default).amount≥1)&&b2)=true:=by
       simp only [Bool.and_eq_true,decide_eq_true_eq]
       exact ⟨⟨by assumption,by omega⟩,by assumption⟩
      rw [←hx] at e;cases e;done)
   | (conv=>whnf
      rw [no rfl]
      exact ⟨rfl,rfl⟩)
def A3l (l:List F6) (q:A2U) (i:Nat):Y0:=⟨(l.getD i default).sku,(l.getD i default).price,(l.getD i default).qty,(l.getD i default).qty,gI q.goods i,gI q.taxes i⟩
def B5k (l:List F6) (q:A2U):List Y0:=(List.range l.length).map (A3l l q)
theorem B9h (l:List F6) (q:A2U) (hl:l.length≤1000) (h1:q.goods.length=l.length) (h2:q.taxes.length=l.length) (st:St):S P 138 [A6 3 G3 l,A3j q] st fun v st'=>v=A6 6 V3 (B5k l q)∧st'=st:=by
 refine A4m (ty:=122) ?_
 refine D6 [3,7] Tryz.func138 ?_
 refine lp l.length [3,5,8,9,10] (fun i vs s=>∃ sv,vs=[.fptr (A3j q) 0,sv,A6 3 G3 l,eI l.length,eI i]∧M5 122 6 V3 ((List.range i).map (A3l l q)) st sv s) ?_ ?_
 ·conv=>whnf
  exact ⟨.emp,rfl,M5.start _ _ _ _⟩
 rintro i vs s hi ⟨sv,rfl,hc⟩
 conv=>whnf
 cases h:decide ((i:Int)<(l.length:Int))
 ·obtain rfl:=G2 h hi
  conv=>whnf
  exact hc
 have hi':=N3 h
 have hln:((List.range i).map (A3l l q)).length=i:=by rw [List.length_map,List.length_range]
 have htk:(List.range (i+1)).map (A3l l q)=(List.range i).map (A3l l q)++[A3l l q i]:=by rw [List.range_succ,List.map_append];rfl
 conv=>whnf
 refine I3 ?_
 refine ⟨[20,21],[],List.range 23,by kernel_rfl,?_⟩;conv=>whnf
 refine ⟨rfl,⟨by omega,by rw [h1];omega⟩,?_⟩;conv=>whnf
 refine ⟨rfl,⟨by omega,by rw [h2];omega⟩,?_⟩;conv=>whnf
 refine M5.app (q:=B9w) (y:=A3l l q i) rfl rfl rfl rfl rfl rfl (by rw [hln];show (i+1) * 56≤140737488355328;omega) hc (fun sv' s' hc'=>?_);conv=>whnf
 refine H4 ?_
 exact nx hi' ⟨sv',by rw [B7 (by omega)],by rw [htk];exact hc'⟩
def aqP:List Pay:=[⟨1,110⟩]
def aqK:List Y0:=[⟨⟨#[97]⟩,50,2,2,100,10⟩]
def aqO:I6:=⟨⟨#[111]⟩,1,⟨#[122]⟩,false,[],3,aqK,0,0,0,110,⟨100,10,0,0,0⟩,[⟨1,110,0⟩]⟩
def aqC:AV:=.agg [eI 0,eS ⟨#[]⟩,.emp,.emp,eB false,eB false,eI 0,.emp,eI 0,eI 0,eI 0,eI 0,eI 0,eI 0,.emp,.emp,eI 0,eS ⟨#[111]⟩,eS ⟨#[122]⟩,eB false,.emp,A6 2 B4Y aqA,A6 2 B6Z aqP,.emp,eI 0,eI 0,eI 0]
theorem B2P (st:St):S P 136 [Q1 aqR,eI 1,aqC,eI 3] st fun v st'=>v=eI 0∧st'=st:=by
 have n1:=B4S 3 st
 rw [show J9 0 100000 3=true by kernel_rfl] at n1
 have n2:=W4 ⟨#[111]⟩ st
 rw [show D0 ⟨#[111]⟩=true by kernel_rfl] at n2
 have n3:=W4 ⟨#[122]⟩ st
 rw [show D0 ⟨#[122]⟩=true by kernel_rfl] at n3
 have n4:=B2x aqR B4E st
 rw [show A1w aqR=true by kernel_rfl] at n4
 have n5:S P 96 [.emp] st fun v st'=>v=.bool true∧st'=st:=(by
  have h:=A8x [] (by decide) st
  rw [show N0 []=true by kernel_rfl] at h
  exact h.pre (F9 1 _))
 refine SyW [4,6] Tryz.func136 ?_
 repeat' ((conv=>whnf);first | refine B3 n1 ?_ | refine B3 n2 ?_ | refine B3 n3 ?_ | refine B3 n4 ?_ | refine B3 n5 ?_)
 exact ⟨rfl,rfl⟩
set_option maxHeartbeats 2000000 in
theorem B4C (st:St):S P 61 [Q1 aqR,eI 1,aqC,eI 3] st fun v st'=>v=.tuple [H1 aqO,eI 0]∧st'=st:=by
 have n1:=fun s=>B2P s
 have n2:=fun s=>B5H aqI aqA (by decide) s
 rw [B4F] at n2
 have n3:∀ s,S P 45 [Q1 aqR,eS ⟨#[122]⟩,eB false,.emp,A6 3 G3 aqL] s fun v s'=>v=.tuple [A3j aqQ,eI 0]∧s'=s:=fun s =>
  (B2R s).pre (A4.cons (A4.keep [Q1 aqR] _) (A4.cons (A4.keep [eS ⟨#[122]⟩] _) (A4.cons (A4.keep [eB false] _) (A4.cons (F9 1 _) (A4.keep _ _)))))
 have n4:=fun s=>B9t aqP 110 (by decide) s
 rw [show B2u aqP 110=true by kernel_rfl] at n4
 have n5:∀ s,S P 98 [.emp] s fun v s'=>v=A6 1 eS []∧s'=s:=fun s=>(A9I [] (by decide) s).pre (F9 1 _)
 have n6:=fun s=>B9h aqL aqQ (by decide) rfl rfl s
 rw [show B5k aqL aqQ=aqK by kernel_rfl] at n6
 have n7:=fun s=>B8R aqQ ⟨by decide,fun x hx=>by rw [List.mem_singleton.1 hx];decide⟩ ⟨by decide,fun x hx=>by rw [List.mem_singleton.1 hx];decide⟩ s
 rw [show B4M aqQ=⟨100,10,0,0,0⟩ by kernel_rfl] at n7
 refine S.post (post:=fun v s'=>∃ b g,st b=none∧s' b=some ⟨131,3,1,g⟩∧g 0=U9 ⟨1,110,0⟩∧E7 st s' ∧
  v=.tuple [.agg [eS ⟨#[111]⟩,eI 1,eS ⟨#[122]⟩,eB false,A6 1 eS [],eI 3,A6 6 V3 aqK,eI 0,eI 0,eI 0,eI 110,eI 100,eI 10,eI 0,eI 0,eI 0,.own 3 b 0 1],eI 0]) ?_ (fun v s' ⟨b,g,hb,hg,hg0,hs,hv⟩=>⟨_,st,⟨rfl,rfl⟩,by
   rw [hv]
   have h1:=L5 (st:=s') (f:=fun k=>U9 ((⟨1,110,0⟩::[]:List T5).getD k default)) hg rfl (Nat.le_refl _) (fun i hi=>by
    have hi:i<1:=hi
    have:i=0:=by omega
    subst this;exact hg0)
   have hA:A4 [.tuple [.agg [eS ⟨#[111]⟩,eI 1,eS ⟨#[122]⟩,eB false,A6 1 eS [],eI 3,A6 6 V3 aqK,eI 0,eI 0,eI 0,eI 110,eI 100,eI 10,eI 0,eI 0,eI 0,.own 3 b 0 1],eI 0]] s' [.tuple [H1 aqO,eI 0]] (del s' b):=by
    refine A4.tuple (A4.cons (A4.agg ?_) (A4.keep _ _)) rfl
    iterate 16 refine A4.cons (A4.keep [_] _) ?_
    exact h1
   exact hA.trans ((hs.del hb).shift _)⟩)
 refine D6 [4,6,16] Tryz.func61 ?_
 intro b8 hb8;conv=>whnf
 refine I7 (n1 _) ?_
 refine I7 (n2 _) ?_
 refine I7 (n3 _) ?_
 intro b13 hb13
 have h813:b8≠b13:=fun e=>by subst e;rw [A0] at hb13;cases hb13
 conv=>whnf
 refine stU (A0 ..) rfl ?_
 rw [E4];conv=>whnf
 generalize hst:(upd (upd st b8 _) b13 _:St)=S0
 obtain ⟨f13,at13,hf13⟩:∃ f13:Nat→AV,S0 b13=some ⟨90,6,1,f13⟩∧f13 0=A3j aqQ:=by rw [←hst];exact ⟨_,A0 ..,by rw [A9];rfl⟩
 obtain ⟨f8,at8,hf8⟩:∃ f8:Nat→AV,S0 b8=some ⟨100,17,1,f8⟩∧f8 0=H3 B9v.zero:=by rw [←hst,A3 h813];exact ⟨_,A0 ..,rfl⟩
 have hs0:E7 st S0:=by rw [←hst];exact ((E7.refl st).upd hb8).upd hb13
 clear hst hb13
 refine J5 at13 hf13 ?_
 refine I7 (n4 _) ?_
 refine ⟨[23,24],[1,4,6,8,9,12,13,15,17,19,20,21],List.range 25,by kernel_rfl,?_⟩
 repeat' ((conv=>whnf);first | refine ⟨_,fun s _=>⟨rfl,rfl⟩,?_⟩ | refine ⟨_,fun s _=>L9 (n5 s),?_⟩ | refine ⟨_,fun s _=>L9 (n6 s),?_⟩ | refine ⟨_,fun s _=>L9 (n7 s),?_⟩ | refine ⟨_,fun s hs=>ldV (hs _ _ at13) rfl (by omega) hf13 ⟨rfl,rfl⟩,?_⟩ | fail)
 intro b14 hb14
 have h814:b8≠b14:=fun e=>by subst e;rw [at8] at hb14;cases hb14
 conv=>whnf
 refine stU (A0 ..) rfl ?_
 rw [E4];conv=>whnf
 generalize hst:(upd S0 b14 _:St)=S1
 obtain ⟨f14,at14,hf14⟩:∃ f14:Nat→AV,S1 b14=some ⟨100,17,1,f14⟩∧f14 0=.agg [eS ⟨#[111]⟩,eI 1,eS ⟨#[122]⟩,eB false,A6 1 eS [],eI 3,A6 6 V3 aqK,eI 0,eI 0,eI 0,eI 110,eI 100,eI 10,eI 0,eI 0,eI 0,.emp]:=by rw [←hst];exact ⟨_,A0 ..,by rw [A9];rfl⟩
 have at8:S1 b8=some ⟨100,17,1,f8⟩:=by rw [←hst,A3 h814];exact at8
 have hs1:E7 st S1:=by rw [←hst];exact hs0.upd hb14
 have hn14:st b14=none:=hs0.none hb14
 clear hst hb14 at13
 refine ⟨[8,14,85,86,87],fun m vs s=>∃ i:Nat,m=1 - i∧vs=[.optr 17 b8 0 0,.optr 17 b14 0 0,A6 2 B6Z aqP,eI 1,eI i]∧((i=0∧s=S1)∨(i=1∧∃ b g f,S1 b=none∧s=upd (upd S1 b ⟨131,3,1,g⟩) b14 ⟨100,17,1,f⟩∧g 0=U9 ⟨1,110,0⟩∧f 0=.agg [eS ⟨#[111]⟩,eI 1,eS ⟨#[122]⟩,eB false,A6 1 eS [],eI 3,A6 6 V3 aqK,eI 0,eI 0,eI 0,eI 110,eI 100,eI 10,eI 0,eI 0,eI 0,.own 3 b 0 1])),?_,?_⟩
 ·conv=>whnf
  exact ⟨1,0,rfl,rfl,.inl ⟨rfl,rfl⟩⟩
 rintro m vs s ⟨i,rfl,rfl,⟨rfl,rfl⟩ | ⟨rfl,bT,g,f,hbT,rfl,hg,hf⟩⟩
 ·conv=>whnf
  refine ⟨rfl,⟨by decide,by decide⟩,?_⟩;conv=>whnf
  refine J5 at14 hf14 ?_
  refine apE rfl rfl rfl rfl (A4O ..) (by show 1 * 24≤_;omega) (fun h=>absurd h (by omega)) (fun _ bT hbT=>?_)
  have hne:b14≠bT:=fun e=>by subst e;rw [at14] at hbT;cases hbT
  conv=>whnf
  refine stW (by rw [A3 hne];exact at14) hf14 ?_
  refine H4 ?_
  exact ⟨0,by decide,1,rfl,rfl,.inr ⟨rfl,bT,_,_,hbT,rfl,rfl,by rw [A9];rfl⟩⟩
 ·have hne:b14≠bT:=fun e=>by subst e;rw [at14] at hbT;cases hbT
  have hne8:b8≠bT:=fun e=>by subst e;rw [at8] at hbT;cases hbT
  conv=>whnf
  refine J5 (A0 ..) hf ?_
  refine stW (by rw [A3 h814,A3 hne8];exact at8) hf8 ?_
  refine J5 (A0 ..) (A9 ..) ?_
  exact ⟨bT,g,hs1.none hbT,by rw [A3 hne8.symm,A3 hne.symm];exact A0 ..,hg,((hs1.upd hbT).over hn14).over hb8,rfl⟩
theorem B3d (x:F6) (st:St):S P 106 [G3 x,G3 x] st fun v st'=>v=.bool true∧st'=st:=by
 refine D6 [2,3] Tryz.func106 ?_
 refine ⟨?_,rfl⟩
 show AV.bool ((x.sku.toList==x.sku.toList)&&((x.qty==x.qty)&&((x.price==x.price)&&true)))=AV.bool true
 simp only [beq_self_eq_true,Bool.and_true]
theorem B0p (l:List F6) (hl:Sm l.length) (st:St):S P 105 [A6 3 (G3) l,A6 3 (G3) l,.fn (.func 106) [] []] st fun v st'=>v=.bool true∧st'=st:=by
 refine D6 [] Tryz.func105 ?_
 rw [show ((l.length:Int) != (l.length:Int))=false from bne_self_eq_false _];conv=>whnf
 refine lp l.length [0,1,2,7] (fun i vs s=>vs=[A6 3 (G3) l,A6 3 (G3) l,.fn (.func 106) [] [],eI i]∧s=st) ?_ ?_
 ·conv=>whnf
  exact ⟨rfl,rfl⟩
 ·rintro i vs s hi ⟨rfl,rfl⟩
  conv=>whnf
  cases h:decide ((i:Int)<(l.length:Int))
  ·obtain rfl:=G2 h hi
   conv=>whnf
   exact ⟨rfl,rfl⟩
  ·have hi':=N3 h
   conv=>whnf
   refine ⟨[],[],List.range 11,by kernel_rfl,?_⟩;conv=>whnf
   refine I3 ?_
   refine I3 ?_
   refine cqW (B3d _ _) ?_
   refine H4 ?_
   exact nx hi' ⟨by rw [B7 (by omega)],rfl⟩
theorem A8S (l:List F6) (hl:Sm l.length) (st:St):S P 34 [A6 3 G3 l,A6 3 G3 l] st fun v st'=>v=.bool true∧st'=st:=by
 refine D6 [] Tryz.func34 ?_
 refine I7 (B0p l hl _) ?_
 exact ⟨rfl,rfl⟩
theorem B4B:A4R aqO:=⟨by decide,by decide,by decide,fun s hs=>(by cases hs),by decide,fun x hx=>by rw [List.mem_singleton.1 hx];decide,by decide⟩
set_option maxHeartbeats 2000000 in
theorem B2S (st:St):S P 49 [] st fun v st'=>v=.bool true∧st'=st:=by
 have n1:=fun s=>A6z aqO B4B s
 rw [show Q7 aqO=true by kernel_rfl] at n1
 have n2:=fun s=>A7X aqO B4B s
 rw [show A0p aqO=⟨100,10,0,0,0⟩ by kernel_rfl] at n2
 have n3:=fun s=>A9p ⟨100,10,0,0,0⟩ s
 rw [show J8 ⟨100,10,0,0,0⟩=110 by kernel_rfl] at n3
 have n4:=fun s=>B0k aqO (by decide) s
 refine A1R ?_
 refine D6 [1] Tryz.func49 ?_
 refine F7 ?_ (B3 (B4C st) ?_)
 ·refine A4.cons (Le.shift (Le.agg ?_) _) (A4.cons (A4.keep [eI 1] _) (A4.cons (Le.shift (Le.agg ?_) _) (A4.keep _ _)))
  all_goals repeat' first | exact H9.nil | refine H9.cons ?_ ?_ | exact Le.refl _ | exact Le.emp _ _ | refine Le.arr1 ?_ rfl
 conv=>whnf
 intro b hb;conv=>whnf
 refine stU (A0 ..) rfl ?_
 rw [E4]
 repeat' ((conv=>whnf);first | refine ldV (A0 ..) rfl (by omega) (A9 ..) ?_ | refine B3 (n1 _) ?_ | refine B3 (n2 _) ?_ | refine B3 (n3 _) ?_ | refine B3 (n4 _) ?_)
 exact ⟨rfl,(E7.refl st).upd hb⟩
theorem B7e (o:I6) (st:St):S P 48 [H1 o] st fun v st'=>v=.bool (decide ((o.lines.length:Int)<40)&&decide ((o.tenders.length:Int)<30)&&decide ((o.codes.length:Int)<30))∧st'=st:=by
 refine SyW [1] Tryz.func48 ?_
 repeat' ((conv=>whnf);first | (refine B6 (fun h=>?_) (fun h=>?_)<;>rw [h]))
 all_goals (conv=>whnf)
 all_goals exact ⟨rfl,rfl⟩
set_option maxHeartbeats 2000000 in
theorem A8Z (o:I6) (b:A0X) (h1:Sm o.id.size) (h2:Sm o.zone.size) (h3:∀ s∈o.codes,Sm s.size) (h4:∀ x∈o.lines,Sm x.sku.size) (st:St) :
  S P 8 [H1 o,Y9 b] st fun v st'=>v=.bool true:=by
 have n0:=fun s=>B7e o s
 have hF:(decide ((o.lines.length:Int)<40)&&decide ((o.tenders.length:Int)<30)&&decide ((o.codes.length:Int)<30))=true→A4R o:=fun h=>by
  simp only [Bool.and_eq_true,decide_eq_true_eq] at h
  exact ⟨h1,h2,by show _≤_;omega,h3,by omega,h4,by omega⟩
 generalize (decide ((o.lines.length:Int)<40)&&decide ((o.tenders.length:Int)<30)&&decide ((o.codes.length:Int)<30))=F at *
 have nA:=fun s=>B2S s
 refine D6 [2,3] Tryz.func8 ?_
 refine B3 (n0 _) ?_
 cases F
 ·conv=>whnf
  refine I7 (nA _) ?_
  exact rfl
 have hs:=hF rfl
 have c1:=fun s=>A6y o hs s
 have c2:=fun s=>A6z o hs s
 have c3:=fun s=>A9p b s
 have c4:=fun s=>B0h b s
 have c5:=fun s=>B0k o hs.lines s
 have c6:=fun s=>B1u o hs.lines s
 have hll:(A0L o).length=o.lines.length:=List.length_map ..
 have c7:=fun s=>A8S (A0L o) (by have:=hs.lines;show _≤_;omega) s
 have c8:=fun s=>A7X o hs s
 have c9:=fun s=>B0l o hs s
 have e1:∀ B:Bool,(B==B)=true:=fun B=>by cases B<;>rfl
 have e3:∀ z:Int,(z==z)=true:=fun z=>beq_self_eq_true z
 have e2:∀ z:Int,(z != z)=false:=fun z=>bne_self_eq_false z
 generalize Q7 o=B at *
 generalize J8 b=Z at *
 generalize A0L o=L at *
 generalize A0p o=H at *
 conv=>whnf
 refine I7 (c1 _) ?_
 refine ⟨[],[],List.range 23,by kernel_rfl,?_⟩
 repeat' ((conv=>whnf);first | refine ⟨_,L9 (nA _),?_⟩ | refine ⟨_,L9 (c2 _),?_⟩ | refine ⟨_,L9 (c3 _),?_⟩ | refine ⟨_,L9 (c4 _),?_⟩ | refine ⟨_,L9 (c5 _),?_⟩ | refine ⟨_,L9 (c6 _),?_⟩ | refine ⟨_,L9 (c7 _),?_⟩ | rw [e1] | rw [e2] | rw [e3] | refine ⟨[],[],List.range 6,by kernel_rfl,?_⟩ | refine ⟨_,L9 (c8 _),?_⟩ | refine ⟨_,L9 (c9 _),?_⟩ | fail)
 conv=>whnf
 exact rfl
end Go.Proofs.YtbajhapmlfbelaaGreat
namespace Go.Ab
open Go Go.ChangeShapes
inductive LK where
 | bool
 | int (k:IntKind)
 | str
 | sl (ks:List LK)
def A7A (l:List AV):AV:=match l with | [v]=>v | l=>.agg l
inductive K8:LK→AV→Prop
 | bool (b:Bool):K8 .bool (.bool b)
 | int (k:IntKind) (n:Int) (h:(Lit.int k n).wf=true):K8 (.int k) (.int k n)
 | str (s:ByteArray) (h:s.size≤maxLen):K8 .str (.str s)
 | sl (ks:List LK) (n:Nat) (L:Nat→List AV) (hn:n≤maxLen) (hl:∀ i,i<n→(L i).length=ks.length) (hf:∀ (i j:Nat) (y:AV) (k:LK),i<n→(L i)[j]?=some y→ks[j]?=some k→K8 k y):K8 (.sl ks) (.arr ks.length n fun i=>A7A (L i))
theorem K8.one {k:LK} {v:AV} (h:K8 k v):v.one=true:=by cases h<;>rfl
theorem B2U {v:AV} (h:v.one=true):cellsOf v=[v]:=by cases v<;>first | rfl | cases h
theorem A7F {l:List AV} (h:∀ v∈l,v.one=true):cellsOf (A7A l)=l:=by
 unfold A7A
 split
 ·exact B2U (h _ (List.mem_singleton.2 rfl))
 ·rfl
theorem B4w (a:Addr) (n m:Nat):a.add (n+m)=(a.add n).add m:=by
 unfold Addr.add
 by_cases h:n=0
 ·subst h;simp
 ·by_cases k:m=0
  ·subst k;simp [h]
  ·simp [h,k,Nat.add_assoc]
def A5v (P:Program) (r:TypeId→Option (List LK)):List Field→Nat→Option (List LK)
 | [],_=>some []
 | f::fs,o=>match Nat.beq f.offset o,r f.type with
  | true,some ks=>(match Nat.beq (P.cellsOf f.type) ks.length,A5v P r fs (o+ks.length) with
   | true,some l=>some (ks++l)
   | _,_=>none)
  | _,_=>none
def A2D (P:Program):Nat→TypeId→Option (List LK)
 | 0,_=>none
 | n+1,t=>match P.underlying t with
  | some .bool=>some [.bool]
  | some (.int k)=>some [.int k]
  | some .string=>some [.str]
  | some (.slice e)=>(match A2D P n e with
   | some ks=>(match Nat.beq (P.cellsOf e) ks.length with | true=>some [.sl ks] | false=>none)
   | none=>none)
  | some (.struct fs)=>(match A5v P (A2D P n) fs.toList 0 with
   | some ks=>(match Nat.beq (P.cellsOf t) ks.length with | true=>some ks | false=>none)
   | none=>none)
  | _=>none
structure FitL (w:World) (ks:List LK) (l:List AV) (cs:List Value):Prop where
 len:l.length=ks.length
 clen:cs.length=ks.length
 fit:∀ (j:Nat) (y:AV) (k:LK),l[j]?=some y→ks[j]?=some k→K8 k y
 rep:∀ (j:Nat) (y:AV) (c:Value),l[j]?=some y→cs[j]?=some c→E8 w st0 y c
theorem FitL.one {w:World} {ks:List LK} {l:List AV} {cs:List Value} (h:FitL w ks l cs):∀ v∈l,v.one=true:=fun v hv=>by
 obtain ⟨j,hj,rfl⟩:=List.getElem_of_mem hv
 exact (h.fit j _ (ks[j]'(by rw [←h.len];exact hj)) (List.getElem?_eq_getElem hj) (List.getElem?_eq_getElem (by rw [←h.len];exact hj))).one
theorem FitL.nil (w:World):FitL w [] [] []:=⟨rfl,rfl,fun j y k h=>by simp at h,fun j y c h=>by simp at h⟩
theorem FitL.app {w:World} {ks ks':List LK} {l l':List AV} {cs cs':List Value} (h:FitL w ks l cs) (h':FitL w ks' l' cs'):FitL w (ks++ks') (l++l') (cs++cs'):=by
 have h1:=h.len;have h2:=h.clen;have h3:=h'.len;have h4:=h'.clen
 refine ⟨by simp [h1,h3],by simp [h2,h4],fun j y k hy hk=>?_,fun j y c hy hc=>?_⟩
 ·by_cases hj:j<l.length
  ·rw [List.getElem?_append_left hj] at hy;rw [List.getElem?_append_left (by omega)] at hk;exact h.fit j y k hy hk
  ·rw [List.getElem?_append_right (by omega)] at hy;rw [List.getElem?_append_right (by omega)] at hk
   rw [show j - l.length=j - ks.length by omega] at hy;exact h'.fit _ y k hy hk
 ·by_cases hj:j<l.length
  ·rw [List.getElem?_append_left hj] at hy;rw [List.getElem?_append_left (by omega)] at hc;exact h.rep j y c hy hc
  ·rw [List.getElem?_append_right (by omega)] at hy;rw [List.getElem?_append_right (by omega)] at hc
   rw [show j - l.length=j - cs.length by omega] at hy;exact h'.rep _ y c hy hc
theorem FitL.single {w:World} {k:LK} {v:AV} {c:Value} (h:K8 k v) (hr:E8 w st0 v c):FitL w [k] [v] [c] :=
 ⟨rfl,rfl,fun j y k' hy hk=>by cases j<;>simp at hy hk;subst hy;subst hk;exact h,fun j y c' hy hc=>by cases j<;>simp at hy hc;subst hy;subst hc;exact hr⟩
section
variable {H:Type} {enc:TypeId×Value→H} {P:Program} {w:World} {base:Nat} {spare:Nat→Bool} {held:Bool}
theorem A4X {n m:Nat} (ih:∀ (t:TypeId) (ks:List LK) (cs:List Value) (x:DataW H×List MemPlace),A2D P n t=some ks→DataW.trod enc P w base spare held m t cs=some x→∃ l,FitL w ks l cs) {cs:List Value} :
  ∀ (fs:List Field) (o:Nat) (ks:List LK),A5v P (A2D P n) fs o=some ks→(∀ f∈fs,∃ x,DataW.trod enc P w base spare held m f.type ((cs.drop f.offset).take (P.cellsOf f.type))=some x)→∃ l,FitL w ks l ((cs.drop o).take ks.length)
 | [],o,ks,h,_=>by cases h;exact ⟨[],by simpa using FitL.nil w⟩
 | f::fs,o,ks,h,hx=>by
  unfold A5v at h
  split at h
  ·rename_i k1 ho hk1
   split at h
   ·rename_i k2 hc hk2
    cases h
    have ho:=Nat.eq_of_beq_eq_true ho
    have hc:=Nat.eq_of_beq_eq_true hc
    obtain ⟨x,h1⟩:=hx f (List.mem_cons_self ..)
    rw [ho,hc] at h1
    obtain ⟨l1,g1⟩:=ih f.type k1 _ x hk1 h1
    obtain ⟨l2,g2⟩:=A4X ih fs (o+k1.length) k2 hk2 fun f' hf=>hx f' (List.mem_cons_of_mem _ hf)
    refine ⟨l1++l2,?_⟩
    have e:(cs.drop o).take (k1++k2).length=(cs.drop o).take k1.length++(cs.drop (o+k1.length)).take k2.length:=by
     rw [List.length_append,List.take_add,List.drop_drop]
    rw [e];exact g1.app g2
   ·cases h
  ·cases h
theorem open_kinds:∀ (n m:Nat) (t:TypeId) (ks:List LK) (cs:List Value) (x:DataW H×List MemPlace),A2D P n t=some ks→DataW.trod enc P w base spare held m t cs=some x→∃ l,FitL w ks l cs
 | 0,m,t,ks,cs,x,h,_=>by cases h
 | n+1,m,t,ks,cs,x,h,hx=>by
  unfold A2D at h
  split at h
  ·rename_i ht;cases h;obtain ⟨b,rfl,_⟩:=DataW.trod_bool ht hx;exact ⟨[.bool b],.single (.bool b) (.bool b)⟩
  ·rename_i k ht;cases h;obtain ⟨i,rfl,_,hw⟩:=DataW.trod_int ht hx;exact ⟨[.int k i],.single (.int k i hw) (.int k i)⟩
  ·rename_i ht;cases h;obtain ⟨s,rfl,_,hs⟩:=DataW.trod_string ht hx;exact ⟨[.str s],.single (.str s hs) (.str s)⟩
  ·rename_i e ht
   split at h
   case h_2=>cases h
   rename_i ks' hk
   split at h
   case h_2=>cases h
   rename_i hb
   cases h
   have hb:=Nat.eq_of_beq_eq_true hb
   rcases DataW.trod_slice ht hx with ⟨rfl,_⟩ | ⟨a,len,cap,elems,rest,m',rfl,rfl,_,hba,hl,hm,hlen,hel,_,_⟩
   ·exact ⟨[.arr ks'.length 0 (fun _=>A7A [])],.single (.sl ks' 0 (fun _=>[]) (Nat.zero_le _) (fun i hi=>absurd hi (by omega)) (fun i j y k hi=>absurd hi (by omega))) (.arr _ 0 _ none 0 (fun _ _=>undef) (Nat.le_refl _) (fun h=>absurd h (by omega)) (fun i hi=>absurd hi (by omega)) (fun i hi=>absurd hi (by omega)) (fun a ha=>by cases ha) (fun i j y hi=>absurd hi (by omega)))⟩
   ·have hall:∀ i,∃ p:List AV×List Value,i<len→w.cells? base (a.add (i * P.cellsOf e)) (P.cellsOf e)=some p.2∧FitL w ks' p.1 p.2:=fun i=>by
     by_cases hi:i<len
     ·have h1:=hel i hi
      rw [List.getElem?_eq_getElem (by omega),Option.bind_eq_some_iff] at h1
      obtain ⟨c1,h2,h3⟩:=h1
      obtain ⟨l,h4⟩:=open_kinds n m' e ks' c1 _ hk h3
      exact ⟨(l,c1),fun _=>⟨h2,h4⟩⟩
     ·exact ⟨([],[]),fun h=>absurd h hi⟩
    obtain ⟨p,hp⟩:=Classical.axiomOfChoice hall
    refine ⟨[.arr ks'.length len (fun i=>A7A (p i).1)],.single (.sl ks' len (fun i=>(p i).1) (by omega) (fun i hi=>(hp i hi).2.len) (fun i j y k hi=>(hp i hi).2.fit j y k)) ?_⟩
    have hc:∀ i,i<len→cellsOf (A7A (p i).1)=(p i).1:=fun i hi=>A7F (hp i hi).2.one
    refine .arr _ len _ (some a) cap (fun i j=>(p i).2.getD j undef) hl (fun _=>⟨a,rfl⟩) (fun i hi=>by rw [hc i hi];exact (hp i hi).2.len) (fun i hi=>by rw [hc i hi];exact List.all_eq_true.2 (hp i hi).2.one) (fun b hb' i j hi hj=>?_) (fun i j y hi hy=>?_)
    ·cases hb'
     have h5:=(World.cells?_some (hp i hi).1)
     have h6:=h5.2.2 j (by omega)
     have hj2:j<(p i).2.length:=by rw [(hp i hi).2.clen];exact hj
     show w.cell? _=_
     rw [List.getD_eq_getElem?_getD,List.getElem?_eq_getElem hj2,Option.getD_some]
     rw [List.getElem?_eq_getElem hj2] at h6
     rw [←h6,hb];show w.cell? _=w.cell? _;rw [B4w]
    ·rw [hc i hi] at hy
     have hj:j<(p i).1.length:=(List.getElem?_eq_some_iff.1 hy).1
     have hj2:j<(p i).2.length:=by rw [(hp i hi).2.clen,←(hp i hi).2.len];exact hj
     rw [List.getD_eq_getElem?_getD,List.getElem?_eq_getElem hj2,Option.getD_some]
     exact (hp i hi).2.rep j y _ hy (List.getElem?_eq_getElem hj2)
  ·rename_i fs ht
   split at h
   case h_2=>cases h
   rename_i ks' hk
   split at h
   case h_2=>cases h
   rename_i hb
   cases h
   have hb:=Nat.eq_of_beq_eq_true hb
   obtain ⟨xs,m',rfl,_,hlen,hxl,hf⟩:=DataW.trod_struct ht hx
   obtain ⟨l,hl⟩:=A4X (fun t ks cs x=>open_kinds n m' t ks cs x) (cs:=cs) fs.toList 0 ks hk fun f hfm=>by
    obtain ⟨i,hi,rfl⟩:=List.getElem_of_mem hfm
    have:=hf i fs[i] (by simp at hi;simp [hi])
    rw [List.getElem?_eq_getElem (by simp at hi;omega)] at this
    exact ⟨_,by simpa using this⟩
   refine ⟨l,?_⟩
   rw [List.drop_zero,List.take_of_length_le (by omega)] at hl
   exact hl
  ·cases h
end
end Go.Ab
namespace Go.Ab
open Go
abbrev A0u (ks:List LK) (L:List AV):Prop:=L.length=ks.length∧∀ (j:Nat) (y:AV) (k:LK),L[j]?=some y→ks[j]?=some k→K8 k y
abbrev A2N {α : Type} (ks:List LK) (enc : α→AV) (Q : α→Prop):Prop:=∀ L:List AV,A0u ks L→∃ x,H9 L (cellsOf (enc x))∧(cellsOf (enc x)).all AV.one=true∧Q x
theorem K8.inv_str {y:AV} (h:K8 .str y):∃ s:D9,y=eS s∧s.size≤maxLen:=by cases h with | str s hs=>exact ⟨s,rfl,hs⟩
theorem K8.inv_int {y:AV} (h:K8 (.int .i64) y):∃ n:Int,y=eI n∧(Lit.int .i64 n).wf=true:=by cases h with | int k n hn=>exact ⟨n,rfl,hn⟩
theorem K8.inv_bool {y:AV} (h:K8 .bool y):∃ b:Bool,y=eB b:=by cases h with | bool b=>exact ⟨b,rfl⟩
theorem K8.inv_sl {α : Type} [Inhabited α] {ks:List LK} {y:AV} {enc : α→AV} {Q : α→Prop} (hd:A2N ks enc Q) (h:K8 (.sl ks) y) :
  ∃ l:List α,Le y (A6 ks.length enc l)∧l.length≤maxLen∧∀ x∈l,Q x:=by
 cases h with
 | sl ks n L hn hl hf =>
  have h1:∀ i,∃ x,i<n→H9 (L i) (cellsOf (enc x))∧(cellsOf (enc x)).all AV.one=true∧Q x:=fun i=>by
   by_cases hi:i<n
   ·obtain ⟨x,hx⟩:=hd (L i) ⟨hl i hi,fun j y k=>hf i j y k hi⟩
    exact ⟨x,fun _=>hx⟩
   ·exact ⟨default,fun h=>absurd h hi⟩
  obtain ⟨g,hg⟩:=Classical.axiomOfChoice h1
  have hlen:((List.range n).map g).length=n:=by rw [List.length_map,List.length_range]
  refine ⟨(List.range n).map g,?_,by rw [hlen];exact hn,fun x hx=>?_⟩
  ·unfold A6
   rw [hlen]
   refine Le.arr fun i hi=>?_
   have e:((List.range n).map g).getD i default=g i:=by
    rw [List.getD_eq_getElem?_getD,List.getElem?_map,List.getElem?_range hi];rfl
   have one:∀ v∈L i,v.one=true:=fun v hv=>by
    obtain ⟨j,hj,rfl⟩:=List.getElem_of_mem hv
    exact (hf i j _ (ks[j]'(by rw [←hl i hi];exact hj)) hi (List.getElem?_eq_getElem hj) (List.getElem?_eq_getElem (by rw [←hl i hi];exact hj))).one
   rw [e,A7F one]
   exact ⟨(hg i hi).1,(hg i hi).2.1⟩
  ·obtain ⟨i,hi,rfl⟩:=List.mem_map.1 hx
   exact (hg i (List.mem_range.1 hi)).2.2
theorem FitL.slice {α : Type} [Inhabited α] {w:World} {ks:List LK} {l:List AV} {c:Value} {enc : α→AV} {Q : α→Prop} (hd:A2N ks enc Q) (h:FitL w [.sl ks] l [c]) :
  ∃ x:List α,E8 w st0 (A6 ks.length enc x) c∧x.length≤maxLen∧∀ y∈x,Q y:=by
 obtain ⟨y,rfl⟩:=List.length_eq_one_iff.1 h.len
 obtain ⟨x,h1,h2,h3⟩:=(h.fit 0 y (.sl ks) rfl rfl).inv_sl hd
 exact ⟨x,h1 _ _ _ (h.rep 0 y c rfl rfl),h2,h3⟩
theorem B5c {k0:LK} {L:List AV} (h:A0u [k0] L):∃ x0,L=[x0]∧K8 k0 x0:=by
 obtain ⟨h1,h2⟩:=h
 match L,h1 with
 | [x0],_=>exact ⟨x0,rfl,h2 0 _ _ rfl rfl⟩
theorem C0m {k0 k1:LK} {L:List AV} (h:A0u [k0,k1] L):∃ x0 x1,L=[x0,x1]∧K8 k0 x0∧K8 k1 x1:=by
 obtain ⟨h1,h2⟩:=h
 match L,h1 with
 | [x0,x1],_=>exact ⟨x0,x1,rfl,h2 0 _ _ rfl rfl,h2 1 _ _ rfl rfl⟩
theorem B5d {k0 k1 k2:LK} {L:List AV} (h:A0u [k0,k1,k2] L):∃ x0 x1 x2,L=[x0,x1,x2]∧K8 k0 x0∧K8 k1 x1∧K8 k2 x2:=by
 obtain ⟨h1,h2⟩:=h
 match L,h1 with
 | [x0,x1,x2],_=>exact ⟨x0,x1,x2,rfl,h2 0 _ _ rfl rfl,h2 1 _ _ rfl rfl,h2 2 _ _ rfl rfl⟩
theorem B8p {k0 k1 k2 k3:LK} {L:List AV} (h:A0u [k0,k1,k2,k3] L):∃ x0 x1 x2 x3,L=[x0,x1,x2,x3]∧K8 k0 x0∧K8 k1 x1∧K8 k2 x2∧K8 k3 x3:=by
 obtain ⟨h1,h2⟩:=h
 match L,h1 with
 | [x0,x1,x2,x3],_=>exact ⟨x0,x1,x2,x3,rfl,h2 0 _ _ rfl rfl,h2 1 _ _ rfl rfl,h2 2 _ _ rfl rfl,h2 3 _ _ rfl rfl⟩
theorem B8Z {k0 k1 k2 k3 k4 k5 k6 k7 k8 k9 k10 k11 k12 k13:LK} {L:List AV} (h:A0u [k0,k1,k2,k3,k4,k5,k6,k7,k8,k9,k10,k11,k12,k13] L):∃ x0 x1 x2 x3 x4 x5 x6 x7 x8 x9 x10 x11 x12 x13,L=[x0,x1,x2,x3,x4,x5,x6,x7,x8,x9,x10,x11,x12,x13]∧K8 k0 x0∧K8 k1 x1∧K8 k2 x2∧K8 k3 x3∧K8 k4 x4∧K8 k5 x5∧K8 k6 x6∧K8 k7 x7∧K8 k8 x8∧K8 k9 x9∧K8 k10 x10∧K8 k11 x11∧K8 k12 x12∧K8 k13 x13:=by
 obtain ⟨h1,h2⟩:=h
 match L,h1 with
 | [x0,x1,x2,x3,x4,x5,x6,x7,x8,x9,x10,x11,x12,x13],_=>exact ⟨x0,x1,x2,x3,x4,x5,x6,x7,x8,x9,x10,x11,x12,x13,rfl,h2 0 _ _ rfl rfl,h2 1 _ _ rfl rfl,h2 2 _ _ rfl rfl,h2 3 _ _ rfl rfl,h2 4 _ _ rfl rfl,h2 5 _ _ rfl rfl,h2 6 _ _ rfl rfl,h2 7 _ _ rfl rfl,h2 8 _ _ rfl rfl,h2 9 _ _ rfl rfl,h2 10 _ _ rfl rfl,h2 11 _ _ rfl rfl,h2 12 _ _ rfl rfl,h2 13 _ _ rfl rfl⟩
theorem B9a {k0 k1 k2 k3 k4 k5 k6 k7 k8 k9 k10 k11 k12 k13 k14:LK} {L:List AV} (h:A0u [k0,k1,k2,k3,k4,k5,k6,k7,k8,k9,k10,k11,k12,k13,k14] L):∃ x0 x1 x2 x3 x4 x5 x6 x7 x8 x9 x10 x11 x12 x13 x14,L=[x0,x1,x2,x3,x4,x5,x6,x7,x8,x9,x10,x11,x12,x13,x14]∧K8 k0 x0∧K8 k1 x1∧K8 k2 x2∧K8 k3 x3∧K8 k4 x4∧K8 k5 x5∧K8 k6 x6∧K8 k7 x7∧K8 k8 x8∧K8 k9 x9∧K8 k10 x10∧K8 k11 x11∧K8 k12 x12∧K8 k13 x13∧K8 k14 x14:=by
 obtain ⟨h1,h2⟩:=h
 match L,h1 with
 | [x0,x1,x2,x3,x4,x5,x6,x7,x8,x9,x10,x11,x12,x13,x14],_=>exact ⟨x0,x1,x2,x3,x4,x5,x6,x7,x8,x9,x10,x11,x12,x13,x14,rfl,h2 0 _ _ rfl rfl,h2 1 _ _ rfl rfl,h2 2 _ _ rfl rfl,h2 3 _ _ rfl rfl,h2 4 _ _ rfl rfl,h2 5 _ _ rfl rfl,h2 6 _ _ rfl rfl,h2 7 _ _ rfl rfl,h2 8 _ _ rfl rfl,h2 9 _ _ rfl rfl,h2 10 _ _ rfl rfl,h2 11 _ _ rfl rfl,h2 12 _ _ rfl rfl,h2 13 _ _ rfl rfl,h2 14 _ _ rfl rfl⟩
abbrev QT {α : Type} (_ : α):Prop:=True
abbrev B1c:List LK:=[.str]
theorem A8y:A2N B1c eS QT:=fun L h=>by
 obtain ⟨a,rfl,ha⟩:=B5c h
 obtain ⟨a,rfl,_⟩:=ha.inv_str
 exact ⟨a,H9.refl _,rfl,trivial⟩
abbrev B9g:List LK:=[.int .i64]
theorem B4T:A2N B9g eI QT:=fun L h=>by
 obtain ⟨a,rfl,ha⟩:=B5c h
 obtain ⟨a,rfl,_⟩:=ha.inv_int
 exact ⟨a,H9.refl _,rfl,trivial⟩
abbrev B8t:List LK:=[.int .i64,.int .i64,.int .i64]
theorem B6W:A2N B8t A0J QT:=fun L h=>by
 obtain ⟨a0,a1,a2,rfl,h0,h1,h2⟩:=B5d h
 obtain ⟨a0,rfl,_⟩:=h0.inv_int
 obtain ⟨a1,rfl,_⟩:=h1.inv_int
 obtain ⟨a2,rfl,_⟩:=h2.inv_int
 exact ⟨⟨a0,a1,a2⟩,H9.cons (Le.refl _) (H9.cons (Le.refl _) (H9.cons (Le.refl _) (H9.nil))),rfl,trivial⟩
abbrev B8s:List LK:=[.sl B1c,.sl B1c,.int .i64]
theorem B6U:A2N B8s A0I QT:=fun L h=>by
 obtain ⟨a0,a1,a2,rfl,h0,h1,h2⟩:=B5d h
 obtain ⟨b0,e0,_,_⟩:=h0.inv_sl A8y
 obtain ⟨b1,e1,_,_⟩:=h1.inv_sl A8y
 obtain ⟨a2,rfl,_⟩:=h2.inv_int
 exact ⟨⟨⟨b0,b1⟩,a2⟩,H9.cons (e0) (H9.cons (e1) (H9.cons (Le.refl _) (H9.nil))),rfl,trivial⟩
abbrev B8q:List LK:=[.str,.str,.int .i64,.bool]
theorem B6T:A2N B8q E9 QT:=fun L h=>by
 obtain ⟨a0,a1,a2,a3,rfl,h0,h1,h2,h3⟩:=B8p h
 obtain ⟨a0,rfl,_⟩:=h0.inv_str
 obtain ⟨a1,rfl,_⟩:=h1.inv_str
 obtain ⟨a2,rfl,_⟩:=h2.inv_int
 obtain ⟨a3,rfl⟩:=h3.inv_bool
 exact ⟨⟨a0,a1,a2,a3⟩,H9.cons (Le.refl _) (H9.cons (Le.refl _) (H9.cons (Le.refl _) (H9.cons (Le.refl _) (H9.nil)))),rfl,trivial⟩
abbrev A9U:List LK:=[.str,.int .i64]
theorem B0T:A2N A9U Z0 QT:=fun L h=>by
 obtain ⟨a0,a1,rfl,h0,h1⟩:=C0m h
 obtain ⟨a0,rfl,_⟩:=h0.inv_str
 obtain ⟨a1,rfl,_⟩:=h1.inv_int
 exact ⟨⟨a0,a1⟩,H9.cons (Le.refl _) (H9.cons (Le.refl _) (H9.nil)),rfl,trivial⟩
abbrev B8u:List LK:=[.str,.sl A9U,.int .i64,.int .i64]
theorem B6X:A2N B8u Z1 QT:=fun L h=>by
 obtain ⟨a0,a1,a2,a3,rfl,h0,h1,h2,h3⟩:=B8p h
 obtain ⟨a0,rfl,_⟩:=h0.inv_str
 obtain ⟨b1,e1,_,_⟩:=h1.inv_sl B0T
 obtain ⟨a2,rfl,_⟩:=h2.inv_int
 obtain ⟨a3,rfl,_⟩:=h3.inv_int
 exact ⟨⟨a0,b1,a2,a3⟩,H9.cons (Le.refl _) (H9.cons (e1) (H9.cons (Le.refl _) (H9.cons (Le.refl _) (H9.nil)))),rfl,trivial⟩
abbrev B5i:List LK:=[.str,.int .i64,.int .i64,.str,.str,.bool,.sl B1c,.sl B1c,.int .i64,.int .i64,.int .i64,.int .i64,.int .i64,.sl B8s,.sl B8t]
theorem B4V:A2N B5i B8 QT:=fun L h=>by
 obtain ⟨a0,a1,a2,a3,a4,a5,a6,a7,a8,a9,a10,a11,a12,a13,a14,rfl,h0,h1,h2,h3,h4,h5,h6,h7,h8,h9,h10,h11,h12,h13,h14⟩:=B9a h
 obtain ⟨a0,rfl,_⟩:=h0.inv_str
 obtain ⟨a1,rfl,_⟩:=h1.inv_int
 obtain ⟨a2,rfl,_⟩:=h2.inv_int
 obtain ⟨a3,rfl,_⟩:=h3.inv_str
 obtain ⟨a4,rfl,_⟩:=h4.inv_str
 obtain ⟨a5,rfl⟩:=h5.inv_bool
 obtain ⟨b6,e6,_,_⟩:=h6.inv_sl A8y
 obtain ⟨b7,e7,_,_⟩:=h7.inv_sl A8y
 obtain ⟨a8,rfl,_⟩:=h8.inv_int
 obtain ⟨a9,rfl,_⟩:=h9.inv_int
 obtain ⟨a10,rfl,_⟩:=h10.inv_int
 obtain ⟨a11,rfl,_⟩:=h11.inv_int
 obtain ⟨a12,rfl,_⟩:=h12.inv_int
 obtain ⟨b13,e13,_,_⟩:=h13.inv_sl B6U
 obtain ⟨b14,e14,_,_⟩:=h14.inv_sl B6W
 exact ⟨⟨a0,a1,a2,a3,a4,a5,⟨b6,b7⟩,a8,a9,a10,a11,a12,b13,b14⟩,H9.cons (Le.refl _) (H9.cons (Le.refl _) (H9.cons (Le.refl _) (H9.cons (Le.refl _) (H9.cons (Le.refl _) (H9.cons (Le.refl _) (H9.cons (e6) (H9.cons (e7) (H9.cons (Le.refl _) (H9.cons (Le.refl _) (H9.cons (Le.refl _) (H9.cons (Le.refl _) (H9.cons (Le.refl _) (H9.cons (e13) (H9.cons (e14) (H9.nil))))))))))))))),rfl,trivial⟩
abbrev B5j:List LK:=[.sl B8q,.sl B5i,.bool,.bool,.int .i64,.sl B8u,.int .i64,.int .i64,.int .i64,.int .i64,.int .i64,.int .i64,.sl B9g,.sl B9g]
theorem B4W:A2N B5j Q1 QT:=fun L h=>by
 obtain ⟨a0,a1,a2,a3,a4,a5,a6,a7,a8,a9,a10,a11,a12,a13,rfl,h0,h1,h2,h3,h4,h5,h6,h7,h8,h9,h10,h11,h12,h13⟩:=B8Z h
 obtain ⟨b0,e0,_,_⟩:=h0.inv_sl B6T
 obtain ⟨b1,e1,_,_⟩:=h1.inv_sl B4V
 obtain ⟨a2,rfl⟩:=h2.inv_bool
 obtain ⟨a3,rfl⟩:=h3.inv_bool
 obtain ⟨a4,rfl,_⟩:=h4.inv_int
 obtain ⟨b5,e5,_,_⟩:=h5.inv_sl B6X
 obtain ⟨a6,rfl,_⟩:=h6.inv_int
 obtain ⟨a7,rfl,_⟩:=h7.inv_int
 obtain ⟨a8,rfl,_⟩:=h8.inv_int
 obtain ⟨a9,rfl,_⟩:=h9.inv_int
 obtain ⟨a10,rfl,_⟩:=h10.inv_int
 obtain ⟨a11,rfl,_⟩:=h11.inv_int
 obtain ⟨b12,e12,_,_⟩:=h12.inv_sl B4T
 obtain ⟨b13,e13,_,_⟩:=h13.inv_sl B4T
 exact ⟨⟨b0,b1,⟨a2,a3,a4,b5⟩,⟨a6,a7⟩,⟨a8,a9,a10,a11,b12,b13⟩⟩,H9.cons (e0) (H9.cons (e1) (H9.cons (Le.refl _) (H9.cons (Le.refl _) (H9.cons (Le.refl _) (H9.cons (e5) (H9.cons (Le.refl _) (H9.cons (Le.refl _) (H9.cons (Le.refl _) (H9.cons (Le.refl _) (H9.cons (Le.refl _) (H9.cons (Le.refl _) (H9.cons (e12) (H9.cons (e13) (H9.nil)))))))))))))),rfl,trivial⟩
theorem FitL.rules {w:World} {l:List AV} {cs:List Value} (h:FitL w B5j l cs):∃ r:O6,E8 w st0 (Q1 r) (.agg cs.toArray):=by
 obtain ⟨r,h1,_,_⟩:=B4W l ⟨h.len,h.fit⟩
 refine ⟨r,?_⟩
 have h0:E8 w st0 (.agg l) (.agg cs.toArray):=.agg _ _ (by rw [h.len,←h.clen];simp) fun j y c hy hc=>h.rep j y c hy (by simpa using hc)
 exact (Le.agg h1) _ _ _ h0
end Go.Ab
namespace Go.Ab
open Go Go.Proofs.YtbajhapmlfbelaaGreat
theorem B6V:A2N B1c eS (fun s=>Sm s.size):=fun L h=>by
 obtain ⟨a,rfl,ha⟩:=B5c h
 obtain ⟨a,rfl,hs⟩:=ha.inv_str
 exact ⟨a,H9.refl _,rfl,Nat.le_trans hs (by decide)⟩
theorem C0n {k0 k1 k2 k3 k4:LK} {L:List AV} (h:A0u [k0,k1,k2,k3,k4] L):∃ x0 x1 x2 x3 x4,L=[x0,x1,x2,x3,x4]∧K8 k0 x0∧K8 k1 x1∧K8 k2 x2∧K8 k3 x3∧K8 k4 x4:=by
 obtain ⟨h1,h2⟩:=h
 match L,h1 with
 | [x0,x1,x2,x3,x4],_=>exact ⟨x0,x1,x2,x3,x4,rfl,h2 0 _ _ rfl rfl,h2 1 _ _ rfl rfl,h2 2 _ _ rfl rfl,h2 3 _ _ rfl rfl,h2 4 _ _ rfl rfl⟩
theorem C0o {k0 k1 k2 k3 k4 k5:LK} {L:List AV} (h:A0u [k0,k1,k2,k3,k4,k5] L):∃ x0 x1 x2 x3 x4 x5,L=[x0,x1,x2,x3,x4,x5]∧K8 k0 x0∧K8 k1 x1∧K8 k2 x2∧K8 k3 x3∧K8 k4 x4∧K8 k5 x5:=by
 obtain ⟨h1,h2⟩:=h
 match L,h1 with
 | [x0,x1,x2,x3,x4,x5],_=>exact ⟨x0,x1,x2,x3,x4,x5,rfl,h2 0 _ _ rfl rfl,h2 1 _ _ rfl rfl,h2 2 _ _ rfl rfl,h2 3 _ _ rfl rfl,h2 4 _ _ rfl rfl,h2 5 _ _ rfl rfl⟩
theorem B9b {k0 k1 k2 k3 k4 k5 k6 k7 k8 k9 k10 k11 k12 k13 k14 k15 k16:LK} {L:List AV} (h:A0u [k0,k1,k2,k3,k4,k5,k6,k7,k8,k9,k10,k11,k12,k13,k14,k15,k16] L):∃ x0 x1 x2 x3 x4 x5 x6 x7 x8 x9 x10 x11 x12 x13 x14 x15 x16,L=[x0,x1,x2,x3,x4,x5,x6,x7,x8,x9,x10,x11,x12,x13,x14,x15,x16]∧K8 k0 x0∧K8 k1 x1∧K8 k2 x2∧K8 k3 x3∧K8 k4 x4∧K8 k5 x5∧K8 k6 x6∧K8 k7 x7∧K8 k8 x8∧K8 k9 x9∧K8 k10 x10∧K8 k11 x11∧K8 k12 x12∧K8 k13 x13∧K8 k14 x14∧K8 k15 x15∧K8 k16 x16:=by
 obtain ⟨h1,h2⟩:=h
 match L,h1 with
 | [x0,x1,x2,x3,x4,x5,x6,x7,x8,x9,x10,x11,x12,x13,x14,x15,x16],_=>exact ⟨x0,x1,x2,x3,x4,x5,x6,x7,x8,x9,x10,x11,x12,x13,x14,x15,x16,rfl,h2 0 _ _ rfl rfl,h2 1 _ _ rfl rfl,h2 2 _ _ rfl rfl,h2 3 _ _ rfl rfl,h2 4 _ _ rfl rfl,h2 5 _ _ rfl rfl,h2 6 _ _ rfl rfl,h2 7 _ _ rfl rfl,h2 8 _ _ rfl rfl,h2 9 _ _ rfl rfl,h2 10 _ _ rfl rfl,h2 11 _ _ rfl rfl,h2 12 _ _ rfl rfl,h2 13 _ _ rfl rfl,h2 14 _ _ rfl rfl,h2 15 _ _ rfl rfl,h2 16 _ _ rfl rfl⟩
abbrev B8r:List LK:=[.str,.int .i64,.int .i64,.int .i64,.int .i64,.int .i64]
abbrev B2h:List LK:=[.int .i64,.int .i64,.int .i64]
abbrev kBook:List LK:=[.int .i64,.int .i64,.int .i64,.int .i64,.int .i64]
abbrev kOrder:List LK:=[.str,.int .i64,.str,.bool,.sl B1c,.int .i64,.sl B8r,.int .i64,.int .i64,.int .i64,.int .i64,.int .i64,.int .i64,.int .i64,.int .i64,.int .i64,.sl B2h]
theorem B4U:A2N B8r V3 (fun x=>Sm x.sku.size):=fun L h=>by
 obtain ⟨a0,a1,a2,a3,a4,a5,rfl,h0,h1,h2,h3,h4,h5⟩:=C0o h
 obtain ⟨a0,rfl,q0⟩:=h0.inv_str
 obtain ⟨a1,rfl,_⟩:=h1.inv_int
 obtain ⟨a2,rfl,_⟩:=h2.inv_int
 obtain ⟨a3,rfl,_⟩:=h3.inv_int
 obtain ⟨a4,rfl,_⟩:=h4.inv_int
 obtain ⟨a5,rfl,_⟩:=h5.inv_int
 exact ⟨⟨a0,a1,a2,a3,a4,a5⟩,H9.cons (Le.refl _) (H9.cons (Le.refl _) (H9.cons (Le.refl _) (H9.cons (Le.refl _) (H9.cons (Le.refl _) (H9.cons (Le.refl _) (H9.nil)))))),rfl,Nat.le_trans q0 (by decide)⟩
theorem B3b:A2N B2h U9 QT:=fun L h=>by
 obtain ⟨a0,a1,a2,rfl,h0,h1,h2⟩:=B5d h
 obtain ⟨a0,rfl,_⟩:=h0.inv_int
 obtain ⟨a1,rfl,_⟩:=h1.inv_int
 obtain ⟨a2,rfl,_⟩:=h2.inv_int
 exact ⟨⟨a0,a1,a2⟩,H9.cons (Le.refl _) (H9.cons (Le.refl _) (H9.cons (Le.refl _) (H9.nil))),rfl,trivial⟩
theorem B6S:A2N kBook Y9 QT:=fun L h=>by
 obtain ⟨a0,a1,a2,a3,a4,rfl,h0,h1,h2,h3,h4⟩:=C0n h
 obtain ⟨a0,rfl,_⟩:=h0.inv_int
 obtain ⟨a1,rfl,_⟩:=h1.inv_int
 obtain ⟨a2,rfl,_⟩:=h2.inv_int
 obtain ⟨a3,rfl,_⟩:=h3.inv_int
 obtain ⟨a4,rfl,_⟩:=h4.inv_int
 exact ⟨⟨a0,a1,a2,a3,a4⟩,H9.cons (Le.refl _) (H9.cons (Le.refl _) (H9.cons (Le.refl _) (H9.cons (Le.refl _) (H9.cons (Le.refl _) (H9.nil))))),rfl,trivial⟩
theorem B3a:A2N kOrder H1 (fun o=>Sm o.id.size∧Sm o.zone.size∧(∀ s∈o.codes,Sm s.size)∧∀ x∈o.lines,Sm x.sku.size):=fun L h=>by
 obtain ⟨a0,a1,a2,a3,a4,a5,a6,a7,a8,a9,a10,a11,a12,a13,a14,a15,a16,rfl,h0,h1,h2,h3,h4,h5,h6,h7,h8,h9,h10,h11,h12,h13,h14,h15,h16⟩:=B9b h
 obtain ⟨a0,rfl,q0⟩:=h0.inv_str
 obtain ⟨a1,rfl,_⟩:=h1.inv_int
 obtain ⟨a2,rfl,q2⟩:=h2.inv_str
 obtain ⟨a3,rfl⟩:=h3.inv_bool
 obtain ⟨a4,e4,n4,q4⟩:=h4.inv_sl B6V
 obtain ⟨a5,rfl,_⟩:=h5.inv_int
 obtain ⟨a6,e6,n6,q6⟩:=h6.inv_sl B4U
 obtain ⟨a7,rfl,_⟩:=h7.inv_int
 obtain ⟨a8,rfl,_⟩:=h8.inv_int
 obtain ⟨a9,rfl,_⟩:=h9.inv_int
 obtain ⟨a10,rfl,_⟩:=h10.inv_int
 obtain ⟨a11,rfl,_⟩:=h11.inv_int
 obtain ⟨a12,rfl,_⟩:=h12.inv_int
 obtain ⟨a13,rfl,_⟩:=h13.inv_int
 obtain ⟨a14,rfl,_⟩:=h14.inv_int
 obtain ⟨a15,rfl,_⟩:=h15.inv_int
 obtain ⟨a16,e16,n16,q16⟩:=h16.inv_sl B3b
 exact ⟨⟨a0,a1,a2,a3,a4,a5,a6,a7,a8,a9,a10,⟨a11,a12,a13,a14,a15⟩,a16⟩,H9.cons (Le.refl _) (H9.cons (Le.refl _) (H9.cons (Le.refl _) (H9.cons (Le.refl _) (H9.cons (e4) (H9.cons (Le.refl _) (H9.cons (e6) (H9.cons (Le.refl _) (H9.cons (Le.refl _) (H9.cons (Le.refl _) (H9.cons (Le.refl _) (H9.cons (Le.refl _) (H9.cons (Le.refl _) (H9.cons (Le.refl _) (H9.cons (Le.refl _) (H9.cons (Le.refl _) (H9.cons (e16) (H9.nil))))))))))))))))),rfl,Nat.le_trans q0 (by decide),Nat.le_trans q2 (by decide),q4,q6⟩
theorem FitL.order {w:World} {l:List AV} {cs:List Value} (h:FitL w kOrder l cs):∃ x:I6,E8 w st0 (H1 x) (.agg cs.toArray)∧(Sm x.id.size∧Sm x.zone.size∧(∀ s∈x.codes,Sm s.size)∧∀ y∈x.lines,Sm y.sku.size):=by
 obtain ⟨x,h1,_,hq⟩:=B3a l ⟨h.len,h.fit⟩
 refine ⟨x,?_,hq⟩
 have h0:E8 w st0 (.agg l) (.agg cs.toArray):=.agg _ _ (by rw [h.len,←h.clen];simp) fun j y c hy hc=>h.rep j y c hy (by simpa using hc)
 exact (Le.agg h1) _ _ _ h0
theorem FitL.book {w:World} {l:List AV} {cs:List Value} (h:FitL w kBook l cs):∃ x:A0X,E8 w st0 (Y9 x) (.agg cs.toArray):=by
 obtain ⟨x,h1,_,hq⟩:=B6S l ⟨h.len,h.fit⟩
 refine ⟨x,?_⟩
 have h0:E8 w st0 (.agg l) (.agg cs.toArray):=.agg _ _ (by rw [h.len,←h.clen];simp) fun j y c hy hc=>h.rep j y c hy (by simpa using hc)
 exact (Le.agg h1) _ _ _ h0
end Go.Ab
namespace Go.Ab
open Go
theorem an {a b:Bool} (h:a=true) (k:b=true):(a&&b)=true:=by rw [h,k];rfl
def kindsFit (P:Program) (fn:Func) (c:OpenClaim):Bool:=(c.kinds==(if c.domain.isEmpty then [] else fn.params.toList.map fun t=>match P.underlying t with | some (.int k)=>some k | _=>none))
theorem joined_of {P:Program} {f:FuncId} {fn:Func} {s:ChangeSpec} {c:OpenClaim} (h1:(c.wf (OpenSpec.ofChange s))=true) (h2:(laidOutB P)=true) (h3:(mapsRowed P)=true) (h4:(fn.params.all (P.readableRec ·))=true) (h5:(namedTie P c.named s.vars)=true) (h6:(c.stops==[])=true) (h7:(P.stops==[])=true) (h8:(c.knobs==[])=true) (h9:(P.stopKnobs==[])=true) (h10:(c.inPlace==P.inPlace f)=true) (h11:(c.unfollowed==P.unfollowed f)=true) (h12:(c.recurses==P.recurses f)=true) (h13:(c.named==P.varsNamed f)=true) (h14:(c.maps==(fn.params.toList++s.plain.varTypes P).any (P.mapsRec ·))=true) (h15:(c.ifaces==(fn.params.toList++s.plain.varTypes P).any (P.ifacesRec ·))=true) (h16:(c.mapsOut==P.mapsAmong fn.resultTypes.toList)=true) (h17:(c.loops==(fn.params.toList++s.plain.varTypes P).any (P.loopsFrom ·))=true) (h18:(c.wideKeys==(fn.params.toList++s.plain.varTypes P++fn.resultTypes.toList).any (P.wideKeysFrom ·))=true) (h19:(s.vars.all (P.varReadable ·))=true) (h20:(fn.resultTypes.all (fun t=>P.readableRec t&&decide (t<P.types.size)))=true) (h21:(c.ifacesOut==fn.resultTypes.toList.any (P.ifacesRec ·))=true) (h22:(c.loopsOut==fn.resultTypes.toList.any (P.loopsFrom ·))=true) (h23:(c.plainKeys==P.plainKeys)=true) (h24:c.shortTexts.isNone=true) (h25:P.stopsHeard=true) (h26:P.mayEnter=true) (h27:(c.lifted==P.liftsFinal)=true) (h28:(P.make==some c.make)=true) (h29:kindsFit P fn c=true) (h30:(c.pinned==c.pinnedBy)=true) (h31:(c.veiled==(fn.params.toList++s.plain.varTypes P++fn.resultTypes.toList).any (P.veiledRec ·))=true) (h32:(c.veiledFits P fn.params.toList (fn.params.toList++s.plain.varTypes P++fn.resultTypes.toList))=true):joinedFacts P f fn s c=true:=an (an (an (an (an (an (an (an (an (an (an (an (an (an (an (an (an (an (an (an (an (an (an (an (an (an (an (an (an (an (an (h1) h2) h3) h4) h5) h6) h7) h8) h9) h10) h11) h12) h13) h14) h15) h16) h17) h18) h19) h20) h21) h22) h23) h24) h25) h26) h27) h28) h29) h30) h31) h32
end Go.Ab
namespace Go.Proofs.YtbajhapmlfbelaaGreat.closed
open Go
theorem p2:(laidOutB Tryz.prog)=true:=by kernel_rfl
theorem p3:(mapsRowed Tryz.prog)=true:=by kernel_rfl
theorem p7:(Tryz.prog.stops==[])=true:=by kernel_rfl
theorem p9:(Tryz.prog.stopKnobs==[])=true:=by kernel_rfl
theorem p25:(Tryz.prog.stopsHeard)=true:=by kernel_rfl
theorem p26:(Tryz.prog.mayEnter)=true:=by kernel_rfl
end Go.Proofs.YtbajhapmlfbelaaGreat.closed
namespace Go.Proofs.YtbajhapmlfbelaaGreat.receiptRaw
open Go.ChangeShapes Go.WideShapes Go.ChangeAt Go.RowKit
open Go.ChangeMaps (open_string shut_string)
theorem c1:(Rows.receiptRawRow.wf (OpenSpec.ofChange Rows.receiptRawSpec))=true:=by kernel_rfl
theorem c4:(Tryz.f8.params.all (Tryz.prog.readableRec ·))=true:=by kernel_rfl
theorem c5:(namedTie Tryz.prog Rows.receiptRawRow.named Rows.receiptRawSpec.vars)=true:=by kernel_rfl
theorem c6:((Rows.receiptRawRow.stops==[]))=true:=by kernel_rfl
theorem c8:((Rows.receiptRawRow.knobs==[]))=true:=by kernel_rfl
theorem c10:((Rows.receiptRawRow.inPlace==Tryz.prog.inPlace 8))=true:=by kernel_rfl
theorem c11:((Rows.receiptRawRow.unfollowed==Tryz.prog.unfollowed 8))=true:=by kernel_rfl
theorem c12:((Rows.receiptRawRow.recurses==Tryz.prog.recurses 8))=true:=by kernel_rfl
theorem c13:((Rows.receiptRawRow.named==Tryz.prog.varsNamed 8))=true:=by kernel_rfl
theorem c14:((Rows.receiptRawRow.maps==(Tryz.f8.params.toList++Rows.receiptRawSpec.plain.varTypes Tryz.prog).any (Tryz.prog.mapsRec ·)))=true:=by kernel_rfl
theorem c15:((Rows.receiptRawRow.ifaces==(Tryz.f8.params.toList++Rows.receiptRawSpec.plain.varTypes Tryz.prog).any (Tryz.prog.ifacesRec ·)))=true:=by kernel_rfl
theorem c16:((Rows.receiptRawRow.mapsOut==Tryz.prog.mapsAmong Tryz.f8.resultTypes.toList))=true:=by kernel_rfl
theorem c17:((Rows.receiptRawRow.loops==(Tryz.f8.params.toList++Rows.receiptRawSpec.plain.varTypes Tryz.prog).any (Tryz.prog.loopsFrom ·)))=true:=by kernel_rfl
theorem c18:((Rows.receiptRawRow.wideKeys==(Tryz.f8.params.toList++Rows.receiptRawSpec.plain.varTypes Tryz.prog++Tryz.f8.resultTypes.toList).any (Tryz.prog.wideKeysFrom ·)))=true:=by kernel_rfl
theorem c19:(Rows.receiptRawSpec.vars.all (Tryz.prog.varReadable ·))=true:=by kernel_rfl
theorem c20:(Tryz.f8.resultTypes.all (fun t=>Tryz.prog.readableRec t&&decide (t<Tryz.prog.types.size)))=true:=by kernel_rfl
theorem c21:((Rows.receiptRawRow.ifacesOut==Tryz.f8.resultTypes.toList.any (Tryz.prog.ifacesRec ·)))=true:=by kernel_rfl
theorem c22:((Rows.receiptRawRow.loopsOut==Tryz.f8.resultTypes.toList.any (Tryz.prog.loopsFrom ·)))=true:=by kernel_rfl
theorem c23:((Rows.receiptRawRow.plainKeys==Tryz.prog.plainKeys))=true:=by kernel_rfl
theorem c24:(Rows.receiptRawRow.shortTexts.isNone)=true:=by kernel_rfl
theorem c27:((Rows.receiptRawRow.lifted==Tryz.prog.liftsFinal))=true:=by kernel_rfl
theorem c28:((Tryz.prog.make==some Rows.receiptRawRow.make))=true:=by kernel_rfl
theorem c29:Ab.kindsFit Tryz.prog Tryz.f8 Rows.receiptRawRow=true:=by kernel_rfl
theorem c30:((Rows.receiptRawRow.pinned==Rows.receiptRawRow.pinnedBy))=true:=by kernel_rfl
theorem c31:((Rows.receiptRawRow.veiled==(Tryz.f8.params.toList++Rows.receiptRawSpec.plain.varTypes Tryz.prog++Tryz.f8.resultTypes.toList).any (Tryz.prog.veiledRec ·)))=true:=by kernel_rfl
theorem c32:(Rows.receiptRawRow.veiledFits Tryz.prog Tryz.f8.params.toList (Tryz.f8.params.toList++Rows.receiptRawSpec.plain.varTypes Tryz.prog++Tryz.f8.resultTypes.toList))=true:=by kernel_rfl
theorem B2V:joinedFacts Tryz.prog 8 Tryz.f8 Rows.receiptRawSpec Rows.receiptRawRow=true:=Ab.joined_of c1 closed.p2 closed.p3 c4 c5 c6 closed.p7 c8 closed.p9 c10 c11 c12 c13 c14 c15 c16 c17 c18 c19 c20 c21 c22 c23 c24 closed.p25 closed.p26 c27 c28 c29 c30 c31 c32
theorem own:ownKnob Tryz.prog.godebug=none:=by kernel_rfl
theorem B2k:laidOutB Tryz.prog=true:=closed.p2
theorem C5k (c0:Array Value) (c1:Array Value) (w:World) (l0 l1:List Ab.AV) (h0:Ab.FitL w Ab.kOrder l0 c0.toList) (h1:Ab.FitL w Ab.kBook l1 c1.toList) :
  Calls Tryz.prog 8 #[.agg c0,.agg c1] w fun e w'=>e=.returned (.bool true)∧Below w.heap.size w w':=by
 obtain ⟨x0,r0,q0⟩:=h0.order
 obtain ⟨x1,r1⟩:=h1.book
 refine Ab.law_of_S (A8Z x0 x1 q0.1 q0.2.1 q0.2.2.1 q0.2.2.2 Ab.st0) ⟨rfl,fun j y c hy hc=>?_⟩
 match j with
 | 0=>cases hy;cases hc;exact r0
 | 1=>cases hy;cases hc;exact r1
 | j+2=>cases hy
set_option maxRecDepth 100000 in
theorem lifted (os:Os) (started:os.Started) (H:Type) (enc:TypeId×Value→H) :
  ReturnsInHanded {} Tryz.checked os 8 .any (Rows.receiptRawSpec.pre6 enc Tryz.prog Tryz.f8 Rows.receiptRawRow.domain false) (Rows.receiptRawSpec.post enc Tryz.prog Tryz.f8 false true false false):=by
 refine returnsInHanded_of_change_sized (C:=Tryz.checked) own started (by kernel_rfl) Tryz.func8
  (ChangeSpec.witness6 (enc:=enc) (C:=Tryz.checked) false ⟨#[],#[.agg #[.string ByteArray.empty,.int .i64 0,.string ByteArray.empty,.bool false,.slice none 0 0,.int .i64 0,.slice none 0 0,.int .i64 0,.int .i64 0,.int .i64 0,.int .i64 0,.int .i64 0,.int .i64 0,.int .i64 0,.int .i64 0,.int .i64 0,.slice none 0 0],.agg #[.int .i64 0,.int .i64 0,.int .i64 0,.int .i64 0,.int .i64 0]],[]⟩ 12 (by kernel_rfl) (by kernel_rfl) (by kernel_rfl) (by kernel_rfl)) ?_
 intro W base args ds gs before hval0 hW hcnd hsz0 _
 have hval:∀ (j:Nat) t v,Tryz.f8.params[j]?=some t→args[j]?=some v→Value.okWide Tryz.prog W .any base t v:=hval0
 have hW':=hW
 obtain ⟨p,q,hA0,hV,rfl,hfz,hnd⟩:=hW
 have hA:DataW.TrodAll enc Tryz.prog W 0 (fun _=>true) true Tryz.f8.params.toList args.toList ds p:=hA0
 rw [Tryz.params8] at hA hval
 obtain ⟨v0,vs0,d0,ds0,p0,q0,hargs,rfl,rfl,h0,r0⟩:=trodAll_cons hA
 obtain ⟨v1,vs1,d1,ds1,p1,q1,rfl,rfl,rfl,h1,r1⟩:=trodAll_cons r0
 obtain ⟨rfl,rfl,rfl⟩:=trodAll_nil r1
 obtain rfl:args=#[v0,v1]:=by cases args;simp_all
 obtain ⟨rfl,rfl⟩:=trodVars_none hV
 obtain ⟨a0,rfl,_⟩:=okWide_struct Tryz.underlying100 (hval 0 100 v0 rfl rfl)
 obtain ⟨a1,rfl,_⟩:=okWide_struct Tryz.underlying97 (hval 1 97 v1 rfl rfl)
 have k0:=h0
 have lt0:∀ x∈p0,x.block<W.heap.size:=by obtain ⟨m,hm⟩:=k0;exact DataW.trod_lt m _ _ _ hm
 have k1:=h1
 have lt1:∀ x∈p1,x.block<W.heap.size:=by obtain ⟨m,hm⟩:=k1;exact DataW.trod_lt m _ _ _ hm
 obtain ⟨l0,hl0⟩:∃ l,Ab.FitL W Ab.kOrder l a0.toList:=by
  obtain ⟨fuel,hf⟩:=h0
  exact Ab.open_kinds 10 fuel 100 Ab.kOrder _ _ (by kernel_rfl) hf
 obtain ⟨l1,hl1⟩:∃ l,Ab.FitL W Ab.kBook l a1.toList:=by
  obtain ⟨fuel,hf⟩:=h1
  exact Ab.open_kinds 4 fuel 97 Ab.kBook _ _ (by kernel_rfl) hf
 clear hA0 hval0 hsz0
 refine (C5k a0 a1 W l0 l1 hl0 hl1).mono fun e W' ⟨he,bel⟩=>?_
 subst he
 exact ⟨_,rfl,_,_,_,[],_,[],hW',trodAll_mk1 (shut_bool Tryz.underlying4 _),trodAll_cons_mk (Below.trod B2k (by kernel_rfl) (of_decide_eq_true (by kernel_rfl)) k0 bel lt0) (trodAll_cons_mk (Below.trod B2k (by kernel_rfl) (of_decide_eq_true (by kernel_rfl)) k1 bel lt1) trodAll_mk0),rfl,bel.frame _,fun h=>by cases h⟩
theorem over:Rows.receiptRawRow.holds Tryz.pinned (OpenSpec.ofChange Rows.receiptRawSpec) :=
 OpenClaim.holds_of_wide 8 Tryz.f8 rfl rfl rfl rfl rfl rfl rfl ⟨rfl,rfl,rfl,rfl,rfl⟩ rfl rfl rfl rfl rfl (by kernel_rfl) Tryz.func8 B2V
  (of_decide_eq_true (by kernel_rfl)) (by unfold Func.isWrapper;first | (rw [if_pos (by decide +kernel)];kernel_rfl) | (rw [if_neg (by decide +kernel)];exact ⟨rfl,rfl⟩))
  (fun os started H enc _=>lifted os started H enc)
theorem proved:Rows.ReceiptRawSaid:=over
#print axioms proved
end Go.Proofs.YtbajhapmlfbelaaGreat.receiptRaw
namespace Go.Proofs.YtbajhapmlfbelaaGreat
theorem receiptRaw_holds:Rows.ReceiptRawSaid:=receiptRaw.proved
end Go.Proofs.YtbajhapmlfbelaaGreat
