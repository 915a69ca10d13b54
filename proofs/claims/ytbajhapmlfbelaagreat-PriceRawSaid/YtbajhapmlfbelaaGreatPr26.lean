/- Part 26 of the proof: contracts of the functions that the law reaches -/
import Derived.Test.YtbajhapmlfbelaaGreatPr25
set_option maxRecDepth 100000
set_option linter.unusedVariables false
set_option linter.unusedSimpArgs false
namespace Go.Proofs.YtbajhapmlfbelaaGreat
open Go Go.Ab
attribute [local irreducible] upd del
def B4f (n:Int):D7:=(⟨#[103]⟩:D7)++S8 (48+C3 n 2)
def T2 (k:Int):D7:=(⟨#[122]⟩:D7)++S8 (48+k)
def T1 (x:P3):P3:=⟨N3 x.scope,1+C3 x.count 2⟩
def L7 (l:List P3):List P3:=if l.length=0 then [⟨⟨[],[]⟩,2⟩] else (l.take 3).map T1
def A1R (p:A9):Int:=1+C3 (IntKind.i64.wrap (p.kind - 1)) 7
def A0L (p:A9):D7:=if C3 (A2h p.group) 3=1 then B4f p.group.size else ⟨#[]⟩
def A1Q (p:A9):D7:=if C3 (A2h p.code) 3=1 then A3y p.code.size else ⟨#[]⟩
def A1B (p:A9):Int:=if C3 p.least 3=1 then C3 p.least 9000 else 0
def L2 (p:A9) (id K:Int):A9 :=
 ⟨idN id,K,C3 p.prio 5,A0L p,A1Q p,if K=7 then false else p.closes,if K=4∨K=7 then ⟨[],[]⟩ else N3 p.scope,A1B p,
 if K=1∨K=3∨K=7 then 1+C3 p.rate 10000 else 0,if K=2 then 1+C3 p.amount 900 else if K=4 then C3 p.amount 3000 else 0,
 if K=3 then 1+C3 p.buy 3 else 0,if K=3 then 1+C3 p.get 2 else 0,if K=4 then L7 p.parts else [],if K=5 then L8 p.tiers 5000 else if K=6 then L8 p.tiers 5 else []⟩
def A0M (p:A9) (id:Int):A9:=L2 p id (A1R p)
def B6r (i:Nat):Int:=((i:Int) * 7+3) % 10
def S3 (l:List A9) (i:Nat):A9:=A0M (l.getD i default) (B6r i)
def J1 (l:List A9):List A9:=(List.range (min l.length 6)).map (S3 l)
def A6o (l:List G0) (c:Nat):G0:=⟨A3J c,C3 (l.getD c default).rate 3000⟩
def P2 (l:List G0):List G0:=(List.range (min 3 l.length)).map (A6o l)
def E5 (l:List T7) (k:Nat):T7 :=
 if k<l.length then ⟨T2 k,P2 (l.getD k default).rates,C3 (l.getD k default).rest 3000,C3 (l.getD k default).ship 3000⟩ else ⟨T2 k,[],1000 * k,500 * k⟩
def J3 (t:Tax):Tax:=⟨t.incl,t.byOrder,C3 t.round 3,(List.range 3).map (E5 t.zones)⟩
def A8P (s:Ab.Ship):Ab.Ship:=⟨C3 s.fee 900,C3 s.free 3 * 4000⟩
def A5x (p:A3Q):A3Q:=⟨20+C3 p.window 60,C3 p.grace 40,1+C3 p.mode 3,C3 p.restock 3 * C3 p.restock 2500,K1 p.order,K1 p.credit⟩
def X1 (r:I6):I6:=⟨L6 r.items,J1 r.promos,J3 r.tax,A8P r.ship,A5x r.policy⟩
theorem C3M (n:Int):C3 n 2=0∨C3 n 2=1:=by
 have:=E3 n (n:=2) (by decide);omega
theorem C1S (n:Int):C3 n 3=0∨C3 n 3=1∨C3 n 3=2:=by
 have:=E3 n (n:=3) (by decide);omega
theorem C2B (n:Int):C3 n 10=0∨C3 n 10=1∨C3 n 10=2∨C3 n 10=3∨C3 n 10=4∨C3 n 10=5∨C3 n 10=6∨C3 n 10=7∨C3 n 10=8∨C3 n 10=9:=by
 have:=E3 n (n:=10) (by decide);omega
theorem le3 {n:Nat} (h:n≤3):n=0∨n=1∨n=2∨n=3:=by omega
theorem lt3 {n:Nat} (h:n<3):n=0∨n=1∨n=2:=by omega
theorem U9 {s:D7} (h:E7 s=true):s.size≤12:=by
 unfold E7 at h
 simp only [Bool.and_eq_true,decide_eq_true_eq] at h
 exact h.1.2
theorem B0A (n:Int):E7 (A0y n)=true:=by
 unfold A0y
 rcases C3L n with h | h | h | h | h | h | h | h<;>rw [h]<;>kernel_rfl
theorem A4G (n:Int):E7 (A3J n)=true:=by
 unfold A3J
 rcases C1S n with h | h | h<;>rw [h]<;>kernel_rfl
theorem A8m (n:Int):E7 (A3y n)=true:=by
 unfold A3y
 rcases C1S n with h | h | h<;>rw [h]<;>kernel_rfl
theorem A7p (n:Int):E7 (B4f n)=true:=by
 unfold B4f
 rcases C3M n with h | h<;>rw [h]<;>kernel_rfl
theorem B2w (n:Int):E7 (idN n)=true:=by
 unfold idN
 rcases C2B n with h | h | h | h | h | h | h | h | h | h<;>rw [h]<;>kernel_rfl
theorem B0p:A1i ⟨#[]⟩=true:=by kernel_rfl
theorem B2F {s:D7} (h:E7 s=true):A1i s=true:=by unfold A1i;rw [h,Bool.or_true]
theorem A7q (p:A9):A1i (A0L p)=true∧(A0L p).size≤12:=by
 unfold A0L;split
 ·exact ⟨B2F (A7p _),U9 (A7p _)⟩
 ·exact ⟨B0p,by decide⟩
theorem A8n (p:A9):A1i (A1Q p)=true∧(A1Q p).size≤12:=by
 unfold A1Q;split
 ·exact ⟨B2F (A8m _),U9 (A8m _)⟩
 ·exact ⟨B0p,by decide⟩
theorem B8y (p:A9):0≤A1B p∧A1B p<9000:=by
 have:=E3 p.least (n:=9000) (by decide)
 unfold A1B;split<;>omega
theorem A3V:V8 ⟨[],[]⟩=true∧A0l ⟨[],[]⟩:=⟨by kernel_rfl,⟨by decide,by decide,fun x hx=>(by cases hx),fun x hx=>(by cases hx)⟩⟩
theorem A3p (l:List P3):(1≤(L7 l).length∧(L7 l).length≤3)∧∀ x∈L7 l,Y3 x=true∧A0l x.scope:=by
 unfold L7
 split
 ·refine ⟨⟨Nat.le_refl _,by show 1≤3;decide⟩,fun x hx=>?_⟩
  rw [List.mem_singleton.1 hx]
  exact ⟨by kernel_rfl,A3V.2⟩
 ·rename_i h
  refine ⟨by rw [List.length_map,List.length_take];omega,fun x hx=>?_⟩
  obtain ⟨y,_,rfl⟩:=List.mem_map.1 hx
  obtain ⟨h1,h2⟩:=A1s y.scope
  have:=E3 y.count (n:=2) (by decide)
  refine ⟨?_,h2⟩
  unfold Y3
  rw [show (T1 y).scope=N3 y.scope from rfl,h1,show (T1 y).count=1+C3 y.count 2 from rfl,decide_eq_false (by omega),decide_eq_false (by omega)];rfl
theorem A9w (l:List Y0) (step:Int) (i k:Nat) (hk:k<i):(N5 l step i).1.getD k default=A8Q (l.getD k default) ((N5 l step k).2+C3 (l.getD k default).least step):=by
 induction i with
 | zero=>omega
 | succ i ih =>
  have hl:=A5I l step i
  show ((N5 l step i).1++[_]).getD k default=_
  by_cases e:k=i
  ·subst e
   rw [List.getD_eq_getElem?_getD,List.getElem?_append_right (by omega),hl,Nat.sub_self];rfl
  ·rw [List.getD_eq_getElem?_getD,List.getElem?_append_left (by omega),←List.getD_eq_getElem?_getD]
   exact ih (by omega)
theorem A1t (l:List Y0) (step:Int) (h:step=5000∨step=5):U0 (L8 l step)=true∧(L8 l step).length≤3:=by
 unfold L8
 split
 ·rcases h with rfl | rfl
  ·exact ⟨by kernel_rfl,by show 1≤3;decide⟩
  ·exact ⟨by kernel_rfl,by show 1≤3;decide⟩
 ·rename_i h0
  have hs:0<step∧step≤5000:=by omega
  have hl:=A5I l step (min l.length 3)
  refine ⟨?_,by omega⟩
  unfold U0
  rw [hl,decide_eq_false (by omega),decide_eq_false (by omega)]
  show I2 _ _=true
  refine I0 fun k hk=>?_
  rw [hl] at hk
  have hg:=A9w l step (min l.length 3) k hk
  have hm:=E3 (l.getD k default).least hs.1
  have hr:=E3 (l.getD k default).rate (n:=4000) (by decide)
  have ha:=E3 (l.getD k default).amount (n:=300) (by decide)
  have hlo:=A6D l hs.1 k
  have hip:(k:Int) * step≤3 * 5000:=Int.mul_le_mul (by omega) hs.2 (by omega) (by omega)
  unfold A2v
  rw [hg]
  have hprev:(if k=0 then -1 else ((N5 l step (min l.length 3)).1.getD (k - 1) default).least)<(N5 l step k).2+C3 (l.getD k default).least step:=by
   by_cases e:k=0
   ·rw [if_pos e];omega
   ·rw [if_neg e,A9w l step (min l.length 3) (k - 1) (by omega)]
    obtain ⟨j,rfl⟩:∃ j,k=j+1:=⟨k - 1,by omega⟩
    rw [Nat.add_sub_cancel]
    show (N5 l step j).2+C3 (l.getD j default).least step<(N5 l step j).2+C3 (l.getD j default).least step+1+C3 (l.getD (j+1) default).least step
    omega
  show (!(decide ((N5 l step k).2+C3 (l.getD k default).least step≤_)||decide ((N5 l step k).2+C3 (l.getD k default).least step>10000000000000)||decide (C3 (l.getD k default).rate 4000<0)||decide (C3 (l.getD k default).rate 4000>10000)||decide (1+C3 (l.getD k default).amount 300<0)||decide (1+C3 (l.getD k default).amount 300>10000000000000)||(C3 (l.getD k default).rate 4000==0&&1+C3 (l.getD k default).amount 300==0)))=true
  rw [decide_eq_false (by omega),decide_eq_false (by omega),decide_eq_false (by omega),decide_eq_false (by omega),decide_eq_false (by omega),decide_eq_false (by omega),show (1+C3 (l.getD k default).amount 300==0)=false from by rw [beq_eq_false_iff_ne];omega,Bool.and_false];rfl
theorem B6u (l:List Int) (n:Nat):(∀ x∈N6 l n,1≤x∧x≤5)∧(N6 l n).Nodup:=by
 induction n with
 | zero=>exact ⟨fun x hx=>absurd hx List.not_mem_nil,List.nodup_nil⟩
 | succ n ih =>
  rw [A4b];unfold A4a
  split
  ·exact ih
  ·rename_i h
   have hm:=E3 (gI l n) (n:=5) (by decide)
   have hno:1+C3 (gI l n) 5∉N6 l n:=fun hx=>h (List.any_eq_true.2 ⟨_,hx,beq_self_eq_true _⟩)
   refine ⟨fun x hx=>?_,List.nodup_append.2 ⟨ih.2,List.nodup_cons.2 ⟨List.not_mem_nil,List.nodup_nil⟩,fun a ha b hb=>?_⟩⟩
   ·rcases List.mem_append.1 hx with h' | h'
    ·exact ih.1 x h'
    ·rw [List.mem_singleton.1 h'];omega
   ·rw [List.mem_singleton.1 hb];intro e;exact hno (e▸ha)
theorem B2A {l:List Int} (h1:∀ x∈l,1≤x∧x≤5) (h2:l.Nodup):Z3 l=true:=by
 refine I0 fun k hk=>?_
 have hx:=h1 _ (B4 hk)
 unfold A1h
 rw [show P7 1 9 (l.getD k default)=true from K4.2 (by omega)]
 have:((l.take k).any fun y=>l.getD k default==y)=false:=by
  rw [List.any_eq_false]
  intro y hy
  obtain ⟨j,hj,rfl⟩:=List.getElem_of_mem hy
  rw [List.length_take] at hj
  rw [beq_iff_eq,List.getD_eq_getElem?_getD,List.getElem?_eq_getElem hk,Option.getD_some,List.getElem_take]
  intro e
  have:=(List.nodup_iff_pairwise_ne.1 h2)
  exact absurd e.symm (List.pairwise_iff_getElem.1 this j k (by omega) hk (by omega))
 rw [this];rfl
theorem X0 (l:List Int):Z3 (K1 l)=true∧(K1 l).length≤6:=by
 have h:=B6u l (min l.length 6)
 have:=A8w l (min l.length 6)
 exact ⟨B2A h.1 h.2,by show (N6 l _).length≤6;omega⟩
theorem A0N (q:A9) (h1:1≤q.kind∧q.kind<8) (hh:A5e q=true) (hp:A7a q=true) (hk:A5f q=true):F6 q=true:=by
 unfold F6;rw [decide_eq_true (show q.kind≥1 from h1.1),decide_eq_true h1.2,hh,hp,hk];rfl
theorem A1P (q:A9) (h1:E7 q.id=true) (h2:0≤q.prio∧q.prio≤1000) (h3:A1i q.group=true) (h4:A1i q.code=true) (h5:V8 q.scope=true) (h6:0≤q.least∧q.least≤10000000000000):A5e q=true:=by
 unfold A5e;rw [h1,K4.2 h2,h3,h4,h5,K4.2 h6];rfl
theorem A4j (p:A9):1≤A1R p∧A1R p≤7:=by
 have:=E3 (IntKind.i64.wrap (p.kind - 1)) (n:=7) (by decide)
 unfold A1R;omega
theorem A7c (p:A9) (id K:Int) (hK:1≤K∧K≤7):F6 (L2 p id K)=true:=by
 have h1:=B2w id
 have h2:=E3 p.prio (n:=5) (by decide)
 have h3:=(A7q p).1
 have h4:=(A8n p).1
 have h5:=(A1s p.scope).1
 have h6:=B8y p
 have r:=E3 p.rate (n:=10000) (by decide)
 have a9:=E3 p.amount (n:=900) (by decide)
 have a3:=E3 p.amount (n:=3000) (by decide)
 have b3:=E3 p.buy (n:=3) (by decide)
 have g2:=E3 p.get (n:=2) (by decide)
 have hpt:=A3p p.parts
 have ht5:=(A1t p.tiers 5000 (.inl rfl)).1
 have ht6:=(A1t p.tiers 5 (.inr rfl)).1
 unfold L2
 generalize idN id=I at h1 ⊢
 generalize C3 p.prio 5=pr at h2 ⊢
 generalize A0L p=G at h3 ⊢
 generalize A1Q p=C at h4 ⊢
 generalize N3 p.scope=S at h5 ⊢
 generalize A1B p=L at h6 ⊢
 generalize C3 p.rate 10000=R at r ⊢
 generalize C3 p.amount 900=A at a9 ⊢
 generalize C3 p.amount 3000=A3 at a3 ⊢
 generalize C3 p.buy 3=B at b3 ⊢
 generalize C3 p.get 2=Gt at g2 ⊢
 generalize L7 p.parts=PT at hpt ⊢
 generalize L8 p.tiers 5000=T5 at ht5 ⊢
 generalize L8 p.tiers 5=T6 at ht6 ⊢
 generalize p.closes=cl
 rcases (by omega:K=1∨K=2∨K=3∨K=4∨K=5∨K=6∨K=7) with rfl | rfl | rfl | rfl | rfl | rfl | rfl
 ·exact A0N ⟨I,1,pr,G,C,cl,S,L,1+R,0,0,0,[],[]⟩ ⟨(by decide:(1:Int)≤1),(by decide:(1:Int)<8)⟩ (A1P _ h1 ⟨h2.1,by show pr≤1000;omega⟩ h3 h4 h5 ⟨h6.1,by show L≤_;omega⟩) rfl (show P7 1 10000 (1+R)=true from K4.2 (by omega))
 ·exact A0N ⟨I,2,pr,G,C,cl,S,L,0,1+A,0,0,[],[]⟩ ⟨(by decide:(1:Int)≤2),(by decide:(2:Int)<8)⟩ (A1P _ h1 ⟨h2.1,by show pr≤1000;omega⟩ h3 h4 h5 ⟨h6.1,by show L≤_;omega⟩) rfl (show P7 1 1000000000 (1+A)=true from K4.2 (by omega))
 ·refine A0N ⟨I,3,pr,G,C,cl,S,L,1+R,0,1+B,1+Gt,[],[]⟩ ⟨(by decide:(1:Int)≤3),(by decide:(3:Int)<8)⟩ (A1P _ h1 ⟨h2.1,by show pr≤1000;omega⟩ h3 h4 h5 ⟨h6.1,by show L≤_;omega⟩) rfl ?_
  show (P7 1 10000 (1+R)&&(P7 1 100 (1+B)&&P7 1 100 (1+Gt)))=true
  rw [K4.2 (show 1≤1+R∧1+R≤10000 by omega),K4.2 (show 1≤1+B∧1+B≤100 by omega),K4.2 (show 1≤1+Gt∧1+Gt≤100 by omega)];rfl
 ·refine A0N ⟨I,4,pr,G,C,cl,⟨[],[]⟩,L,0,A3,0,0,PT,[]⟩ ⟨(by decide:(1:Int)≤4),(by decide:(4:Int)<8)⟩ (A1P _ h1 ⟨h2.1,by show pr≤1000;omega⟩ h3 h4 A3V.1 ⟨h6.1,by show L≤_;omega⟩) rfl ?_
  show (!(decide ((PT.length:Int)<1)||decide ((PT.length:Int)>3)||decide (A3<0)||decide (A3>10000000000000))&&!(PT.any fun x=>!Y3 x))=true
  rw [decide_eq_false (by omega),decide_eq_false (by omega),decide_eq_false (by omega),decide_eq_false (by omega),show (PT.any fun x=>!Y3 x)=false from by
   rw [List.any_eq_false];intro x hx;rw [(hpt.2 x hx).1];simp];rfl
 ·exact A0N ⟨I,5,pr,G,C,cl,S,L,0,0,0,0,[],T5⟩ ⟨(by decide:(1:Int)≤5),(by decide:(5:Int)<8)⟩ (A1P _ h1 ⟨h2.1,by show pr≤1000;omega⟩ h3 h4 h5 ⟨h6.1,by show L≤_;omega⟩) rfl ht5
 ·exact A0N ⟨I,6,pr,G,C,cl,S,L,0,0,0,0,[],T6⟩ ⟨(by decide:(1:Int)≤6),(by decide:(6:Int)<8)⟩ (A1P _ h1 ⟨h2.1,by show pr≤1000;omega⟩ h3 h4 h5 ⟨h6.1,by show L≤_;omega⟩) rfl ht6
 ·exact A0N ⟨I,7,pr,G,C,false,⟨[],[]⟩,L,1+R,0,0,0,[],[]⟩ ⟨(by decide:(1:Int)≤7),(by decide:(7:Int)<8)⟩ (A1P _ h1 ⟨h2.1,by show pr≤1000;omega⟩ h3 h4 A3V.1 ⟨h6.1,by show L≤_;omega⟩) rfl (show P7 1 10000 (1+R)=true from K4.2 (by omega))
theorem A0l.fit {s:Q8} (h:A0l s):A5P s:=⟨by have:=h.n1;show _≤9223372036854775807;omega,by have:=h.n2;show _≤9223372036854775807;omega⟩
theorem A8O (p:A9) (id K:Int):M9 (L2 p id K):=by
 have hs:=(A1s p.scope).2
 have hp:=A3p p.parts
 refine ⟨?_,?_,?_⟩
 ·show A5P (if K=4∨K=7 then ⟨[],[]⟩ else N3 p.scope)
  split
  ·exact A3V.2.fit
  ·exact hs.fit
 ·show (if K=4 then L7 p.parts else []).length≤9223372036854775807
  split
  ·omega
  ·exact Nat.zero_le _
 ·show ∀ x∈(if K=4 then L7 p.parts else []),_
  split
  ·exact fun x hx=>⟨(hp.2 x hx).2.fit.skus,(hp.2 x hx).2.fit.cats⟩
  ·exact fun x hx=>absurd hx List.not_mem_nil
theorem A0v (l:List A9):(J1 l).length=min l.length 6:=by unfold J1;rw [List.length_map,List.length_range]
theorem A4k {l:List A9} {k:Nat} (hk:k<(J1 l).length):(J1 l).getD k default=S3 l k:=by
 rw [A0v] at hk
 unfold J1
 rw [List.getD_eq_getElem?_getD,List.getElem?_map,List.getElem?_range hk];rfl
theorem A4l {l:List A9} {p:A9} (h:p∈J1 l):∃ (q:A9) (id K:Int),(1≤K∧K≤7)∧p=L2 q id K:=by
 obtain ⟨k,hk,rfl⟩:=List.mem_map.1 h
 exact ⟨_,_,_,A4j _,rfl⟩
theorem B4g:((List.range 6).all fun j=>(List.range j).all fun i=>!((idN (B6r i)).toList==(idN (B6r j)).toList))=true:=by kernel_rfl
theorem A7d (l:List A9):promosC (J1 l)=true:=by
 have hl:=A0v l
 unfold promosC
 rw [decide_eq_true (by omega),Bool.true_and]
 refine I0 fun k hk=>?_
 unfold R3
 rw [A4k hk,show F6 (S3 l k)=true from A7c _ _ _ (A4j _),Bool.true_and,Bool.not_eq_true',List.any_eq_false]
 intro x hx
 obtain ⟨j,hj,rfl⟩:=F0 hx
 rw [List.length_take] at hj
 rw [show ((J1 l).take k).getD j default=S3 l j by rw [List.getD_eq_getElem?_getD,List.getElem?_take_of_lt (by omega),←List.getD_eq_getElem?_getD,A4k (by omega)]]
 have:=List.all_eq_true.1 (List.all_eq_true.1 B4g k (List.mem_range.2 (by omega))) j (List.mem_range.2 (by omega))
 rw [Bool.not_eq_true'] at this
 show ¬((idN (B6r j)).toList==(idN (B6r k)).toList)=true
 rw [this];simp
theorem B6a (n:Nat) (h:n≤3):V7 ((List.range n).map fun c:Nat=>A3J c)=true:=by
 rcases le3 h with rfl | rfl | rfl | rfl<;>kernel_rfl
theorem A6p (l:List G0):(P2 l).length≤3∧(∀ x∈P2 l,A3C x=true∧x.cat.size≤12)∧V7 ((P2 l).map G0.cat)=true:=by
 unfold P2
 refine ⟨by rw [List.length_map,List.length_range];omega,fun x hx=>?_,?_⟩
 ·obtain ⟨c,_,rfl⟩:=List.mem_map.1 hx
  have:=E3 (l.getD c default).rate (n:=3000) (by decide)
  refine ⟨?_,U9 (A4G _)⟩
  unfold A3C
  rw [show (A6o l c).cat=A3J c from rfl,A4G,show P7 0 10000 (A6o l c).rate=true from K4.2 ⟨this.1,by show C3 _ 3000≤_;omega⟩];rfl
 ·rw [List.map_map]
  exact B6a _ (by omega)
theorem A9G:((List.range 3).all fun k:Nat=>E7 (T2 k))=true:=by kernel_rfl
theorem B2W (l:List T7) (k:Nat) (hk:k<3):Y6 (E5 l k)=true:=by
 have hn:=List.all_eq_true.1 A9G k (List.mem_range.2 hk)
 have hz:=U9 hn
 unfold E5
 split
 ·obtain ⟨h1,h2,h3⟩:=A6p (l.getD k default).rates
  have m1:=E3 (l.getD k default).rest (n:=3000) (by decide)
  have m2:=E3 (l.getD k default).ship (n:=3000) (by decide)
  generalize P2 (l.getD k default).rates=R at h1 h2 h3 ⊢
  unfold Y6
  show (!(!E7 (T2 k)||!P7 0 10000 (C3 _ 3000)||!P7 0 10000 (C3 _ 3000)||decide ((R.length:Int)>40))&&(I2 R (fun _ x=>A3C x)&&V7 (R.map G0.cat)))=true
  rw [hn,K4.2 (show 0≤C3 (l.getD k default).rest 3000∧_≤10000 by omega),K4.2 (show 0≤C3 (l.getD k default).ship 3000∧_≤10000 by omega),decide_eq_false (by omega),h3,show I2 R (fun _ x=>A3C x)=true from I0 fun j hj=>(h2 _ (B4 hj)).1];rfl
 ·rcases lt3 hk with rfl | rfl | rfl
  ·exact (by kernel_rfl:Y6 ⟨T2 (0:Nat),[],1000 * ((0:Nat):Int),500 * ((0:Nat):Int)⟩=true)
  ·exact (by kernel_rfl:Y6 ⟨T2 (1:Nat),[],1000 * ((1:Nat):Int),500 * ((1:Nat):Int)⟩=true)
  ·exact (by kernel_rfl:Y6 ⟨T2 (2:Nat),[],1000 * ((2:Nat):Int),500 * ((2:Nat):Int)⟩=true)
theorem B7w (l:List T7):(((List.range 3).map (E5 l)).map T7.name)=[T2 0,T2 1,T2 2]:=by
 have e:∀ k,(E5 l k).name=T2 k:=fun k=>by unfold E5;split<;>rfl
 show [(E5 l 0).name,(E5 l 1).name,(E5 l 2).name]=_
 rw [e,e,e];rfl
theorem B4s (t:Tax):A6C (J3 t)=true:=by
 have hr:=E3 t.round (n:=3) (by decide)
 have hz:∀ z∈(J3 t).zones,Y6 z=true:=fun z hz=>by
  obtain ⟨k,hk,rfl⟩:=List.mem_map.1 hz
  exact B2W _ k (List.mem_range.1 hk)
 have hn:(J3 t).zones.length=3:=by show ((List.range 3).map _).length=3;rw [List.length_map,List.length_range]
 unfold A6C
 rw [show (J3 t).round=C3 t.round 3 from rfl,hn,decide_eq_false (show ¬ C3 t.round 3<0 by omega),decide_eq_false (show ¬ C3 t.round 3>2 by omega),show (J3 t).zones.map T7.name=[T2 0,T2 1,T2 2] from B7w _,
  show V7 [T2 0,T2 1,T2 2]=true by kernel_rfl,show I2 (J3 t).zones (fun _ z=>Y6 z)=true from I0 fun j hj=>hz _ (B4 hj)];rfl
theorem B2P (l:List Ab.Item) (k:Nat):A2J (N0 l k)=true∧(N0 l k).sku.size≤12∧(N0 l k).cat.size≤12∨8≤k:=by
 by_cases h8:8≤k
 ·exact .inr h8
 refine .inl ?_
 have e:∀ (c:D7) (pr:Int) (f:Bool),E7 c=true→0≤pr∧pr≤1000000000→A2J ⟨A0y k,c,pr,f⟩=true∧(A0y k).size≤12∧c.size≤12:=fun c pr f hc hp=>by
  refine ⟨?_,U9 (B0A _),U9 hc⟩
  unfold A2J
  rw [show E7 (Ab.Item.mk (A0y k) c pr f).sku=true from B0A _,show E7 (Ab.Item.mk (A0y k) c pr f).cat=true from hc,decide_eq_false (show ¬(Ab.Item.mk (A0y k) c pr f).price<0 from by show ¬ pr<0;omega),decide_eq_false (show ¬(Ab.Item.mk (A0y k) c pr f).price>1000000000 from by show ¬ pr>_;omega)];rfl
 have hm:=E3 (l.getD k default).price (n:=4000) (by decide)
 unfold N0
 split
 ·exact e _ _ _ (A4G _) (by omega)
 ·exact e _ _ _ (A4G _) (by omega)
theorem A5g {l:List Ab.Item} {x:Ab.Item} (h:x∈L6 l):A2J x=true∧x.sku.size≤12∧x.cat.size≤12:=by
 obtain ⟨k,hk,rfl⟩:=List.mem_map.1 h
 have:=List.mem_range.1 hk
 rcases B2P l k with h | h
 ·exact h
 ·omega
theorem A7I (l:List Ab.Item):A0p (L6 l)=true:=by
 unfold A0p
 rw [A2r,B0B,show V7 [S8 97,S8 98,S8 99,S8 100,S8 101,S8 102,S8 103,S8 104]=true by kernel_rfl,show I2 (L6 l) (fun _ x=>A2J x)=true from I0 fun j hj=>(A5g (B4 hj)).1];rfl
theorem A7J (r:I6):P6 (X1 r)=true:=by
 have h1:=E3 r.ship.fee (n:=900) (by decide)
 have h2:=E3 r.ship.free (n:=3) (by decide)
 have h3:=E3 r.policy.window (n:=60) (by decide)
 have h4:=E3 r.policy.grace (n:=40) (by decide)
 have h5:=E3 r.policy.mode (n:=3) (by decide)
 have h6:=E3 r.policy.restock (n:=3) (by decide)
 have h7:=E3 r.policy.restock (n:=2500) (by decide)
 have h8:C3 r.policy.restock 3 * C3 r.policy.restock 2500≤2 * 2499:=Int.mul_le_mul (by omega) (by omega) (by omega) (by omega)
 have h9:0≤C3 r.policy.restock 3 * C3 r.policy.restock 2500:=Int.mul_nonneg h6.1 h7.1
 show (A0p (L6 r.items)&&promosC (J1 r.promos)&&A6C (J3 r.tax)&&A7w (A8P r.ship)&&A4N (A5x r.policy))=true
 rw [A7I,A7d,B4s r.tax]
 have e1:A7w (A8P r.ship)=true:=by
  show (P7 0 1000000000 (C3 r.ship.fee 900)&&P7 0 10000000000000 (C3 r.ship.free 3 * 4000))=true
  rw [K4.2 (by omega),K4.2 (by omega)];rfl
 have e2:A4N (A5x r.policy)=true:=by
  show (P7 0 100000 (20+C3 r.policy.window 60)&&P7 0 100000 (C3 r.policy.grace 40)&&decide (1+C3 r.policy.mode 3≥1)&&decide (1+C3 r.policy.mode 3≤3)&&P7 0 10000 (C3 r.policy.restock 3 * C3 r.policy.restock 2500)&&Z3 (K1 r.policy.order)&&Z3 (K1 r.policy.credit))=true
  rw [K4.2 (by omega),K4.2 (by omega),decide_eq_true (by omega),decide_eq_true (by omega),K4.2 (by omega),(X0 _).1,(X0 _).1];rfl
 rw [e1,e2];rfl
theorem A9P (r:I6):U3 (X1 r):=by
 have h1:=A0v r.promos
 have h2:=(X0 r.policy.order).2
 have h3:=(X0 r.policy.credit).2
 refine ⟨by show (J1 r.promos).length≤9223372036854775807;omega,fun p hp=>?_,by show (K1 r.policy.order).length<_;omega,by show (K1 r.policy.credit).length<_;omega⟩
 obtain ⟨q,id,K,_,rfl⟩:=A4l hp
 exact A8O q id K
theorem B9j (l:List P3) (hl:Sm l.length) (hs:∀ x∈l,A0l x.scope) (st:St):S P 304 [B2 3 Q4 l] st fun v st'=>v=.bool (I2 l (fun _ x=>Y3 x)&&(decide ((l.length:Int)≥1)&&decide ((l.length:Int)≤3)))∧st'=st:=by
 refine A8 [] B9 mixed Tryz.func304 (by rfl) rfl rfl rfl ?_;conv=>whnf
 refine lp l.length [0,3] (fun i vs st'=>(∀ k,k<i→Y3 (l.getD k default)=true)∧vs=[B2 3 Q4 l,eI i]∧st'=st) ?_ ?_
 ·conv=>whnf
  exact ⟨fun k hk=>absurd hk (by omega),rfl,rfl⟩
 ·rintro i vs st' hi ⟨hok,rfl,rfl⟩
  conv=>whnf
  cases h:decide ((i:Int)<(l.length:Int))
  ·obtain rfl:=E0 h hi
   rw [I0 hok,Bool.true_and];conv=>whnf
   refine C0 (fun h=>?_) (fun h=>?_)<;>rw [h]<;>(conv=>whnf)<;>exact ⟨rfl,rfl⟩
  ·have hi':=G7 h
   have yes:Y3 (l.getD (i:Int).toNat default)=true→∀ k,k<i+1→Y3 (l.getD k default)=true:=fun h=>K9 hok h
   have no:Y3 (l.getD (i:Int).toNat default)=false→I2 l (fun _ x=>Y3 x)=false:=fun h=>R4 (p:=fun _ x=>Y3 x) hi' h
   have n1:=B3g (l.getD (i:Int).toNat default).scope (hs _ (B4 hi')) st'
   rw [show Y3 (l.getD (i:Int).toNat default)=(V8 (l.getD (i:Int).toNat default).scope&&!(decide ((l.getD (i:Int).toNat default).count<1)||decide ((l.getD (i:Int).toNat default).count>100))) from rfl] at yes no
   generalize V8 (l.getD (i:Int).toNat default).scope=b1 at n1 yes no
   repeat' ((conv=>whnf);first | refine ⟨rfl,⟨by omega,by omega⟩,?_⟩ | refine B0 n1 ?_ | cases b1 | (refine C0 (fun h=>?_) (fun h=>?_)<;>rw [h]))
   all_goals (conv=>whnf)
   all_goals first
    | (rw [no (by simp only [*,Bool.true_or,Bool.or_true,Bool.not_true,Bool.and_false,Bool.false_and])];exact ⟨rfl,rfl⟩)
    | (refine ⟨rfl,?_⟩;conv=>whnf
       exact nx hi' ⟨yes (by simp only [*,Bool.or_false,Bool.not_false,Bool.and_true]),by rw [C2 (by omega)],rfl⟩)
theorem B3i (l:List Int) (hl:Sm l.length) (st:St):S P 159 [B6 l] st fun v st'=>v=.bool (Z3 l)∧st'=st:=by
 refine A8 [] B9 mixed Tryz.func159 (by rfl) rfl rfl rfl ?_;conv=>whnf
 refine lp l.length [0,3] (fun i vs st'=>(∀ k,k<i→A1h l k (l.getD k default)=true)∧vs=[B6 l,eI i]∧st'=st) ?_ ?_
 ·conv=>whnf
  exact ⟨fun k hk=>absurd hk (by omega),rfl,rfl⟩
 ·rintro i vs st' hi ⟨hok,rfl,rfl⟩
  conv=>whnf
  cases h:decide ((i:Int)<(l.length:Int))
  ·obtain rfl:=E0 h hi
   conv=>whnf
   exact ⟨by rw [show Z3 l=true from I0 hok];rfl,rfl⟩
  ·have hi':=G7 h
   have yes:A1h l i (l.getD (i:Int).toNat default)=true→∀ k,k<i+1→A1h l k (l.getD k default)=true:=fun h=>K9 hok h
   have no:A1h l i (l.getD (i:Int).toNat default)=false→Z3 l=false:=fun h=>R4 hi' h
   rw [show A1h l i (l.getD (i:Int).toNat default)=!(!(decide ((l.getD (i:Int).toNat default)≥1)&&decide ((l.getD (i:Int).toNat default)≤9))||(l.take i).any fun y=>l.getD (i:Int).toNat default==y) from rfl] at yes no
   have no':(decide ((l.getD (i:Int).toNat default)≥1)&&decide ((l.getD (i:Int).toNat default)≤9))=false→Z3 l=false:=fun h=>no (by rw [h];rfl)
   repeat' ((conv=>whnf);first | refine ⟨rfl,⟨by omega,by omega⟩,?_⟩ | (refine C0 (fun h=>?_) (fun h=>?_)<;>rw [h]))
   all_goals (conv=>whnf)
   ·rw [no' (by rw [Bool.and_eq_false_iff,decide_eq_false_iff_not,decide_eq_false_iff_not];simp only [decide_eq_true_eq,decide_eq_false_iff_not] at *;omega)];exact ⟨rfl,rfl⟩
   ·rw [no' (by rw [Bool.and_eq_false_iff,decide_eq_false_iff_not,decide_eq_false_iff_not];simp only [decide_eq_true_eq,decide_eq_false_iff_not] at *;omega)];exact ⟨rfl,rfl⟩
   have hk:(decide ((l.getD (i:Int).toNat default)≥1)&&decide ((l.getD (i:Int).toNat default)≤9))=true:=by rw [Bool.and_eq_true,decide_eq_true_eq,decide_eq_true_eq];simp only [decide_eq_true_eq,decide_eq_false_iff_not] at *;omega
   rw [hk] at yes no
   refine lp i [0,3,4] (fun j vs s=>(∀ k,k<j→(l.getD k default==l.getD i default)=false)∧vs=[B6 l,eI i,eI j]∧s=st') ?_ ?_
   ·conv=>whnf
    exact ⟨fun k hk=>absurd hk (by omega),rfl,rfl⟩
   ·rintro j vs s hj ⟨hokj,rfl,rfl⟩
    conv=>whnf
    cases h:decide ((j:Int)<(i:Int))
    ·obtain rfl:=E0 h hj
     conv=>whnf
     refine ⟨rfl,?_⟩;conv=>whnf
     refine nx hi' ⟨yes ?_,by rw [C2 (by omega)],rfl⟩
     rw [List.any_eq_false.2 fun x hx=>?_];rfl
     obtain ⟨k,hk2,rfl⟩:=F0 hx
     rw [List.length_take] at hk2
     have h4:=hokj k (by omega)
     rw [Int.toNat_natCast,show (l.take j).getD k default=l.getD k default by rw [List.getD_eq_getElem?_getD,List.getD_eq_getElem?_getD,List.getElem?_take_of_lt (by omega)],Bool.beq_comm,h4];simp
    ·have hj':=G7 h
     conv=>whnf
     refine ⟨[],[],List.range 9,by kernel_rfl,?_⟩;conv=>whnf
     refine ⟨rfl,⟨by omega,by omega⟩,?_⟩;conv=>whnf
     refine ⟨rfl,⟨by omega,by omega⟩,?_⟩;conv=>whnf
     refine C0 (fun h1=>?_) (fun h1=>?_)<;>rw [h1]
     ·conv=>whnf
      refine ⟨?_,rfl⟩
      rw [no ?_];rfl
      rw [List.any_eq_true.2 ⟨l.getD j default,?_,?_⟩];rfl
      ·rw [List.mem_take_iff_getElem]
       exact ⟨j,by omega,by simp [show j<l.length by omega]⟩
      ·rw [Bool.beq_comm];exact h1
     ·conv=>whnf
      refine ⟨rfl,?_⟩;conv=>whnf
      exact nx hj' ⟨K9 hokj h1,by rw [C2 (by omega)],rfl⟩
structure B0O (z:T7):Prop where
 n:Sm z.rates.length
 s:Sm z.name.size
 r:∀ x∈z.rates,Sm x.cat.size
def A2s (l:List G0) (k:Nat) (x:G0):Bool:=E7 x.cat&&P7 0 10000 x.rate&&K7 (l.map G0.cat) k
def A9E (z:T7):Bool:=I2 z.rates (A2s z.rates)&&(decide ((z.rates.length:Int)≤40)&&P7 0 10000 z.rest&&P7 0 10000 z.ship)
theorem B9k (z:T7) (hz:B0O z) (st:St):S P 247 [A1L z] st fun v st'=>v=.bool (A9E z)∧st'=st:=by
 rw [show A9E z=(I2 z.rates (A2s z.rates)&&(decide ((z.rates.length:Int)≤40)&&P7 0 10000 z.rest&&P7 0 10000 z.ship)) from rfl]
 refine A8 [1] B9 mixed Tryz.func247 (by rfl) rfl rfl rfl ?_;conv=>whnf
 refine lp z.rates.length [1,3] (fun i vs st'=>(∀ k,k<i→A2s z.rates k (z.rates.getD k default)=true)∧vs=[.fptr (A1L z) 0,eI i]∧st'=st) ?_ ?_
 ·conv=>whnf
  exact ⟨fun k hk=>absurd hk (by omega),rfl,rfl⟩
 ·rintro i vs st' hi ⟨hok,rfl,rfl⟩
  conv=>whnf
  cases h:decide ((i:Int)<(z.rates.length:Int))
  ·obtain rfl:=E0 h hi
   rw [show I2 z.rates (A2s z.rates)=true from I0 hok,Bool.true_and];conv=>whnf
   cases hd:decide ((z.rates.length:Int)≤40)
   ·conv=>whnf
    exact ⟨rfl,rfl⟩
   ·conv=>whnf
    refine B0 (A1m z.rest 10000 _) ?_;conv=>whnf
    cases P7 0 10000 z.rest
    ·conv=>whnf
     exact ⟨rfl,rfl⟩
    ·conv=>whnf
     refine B0 (A1m z.ship 10000 _) ?_;conv=>whnf
     exact ⟨rfl,rfl⟩
  ·have hi':=G7 h
   have yes:A2s z.rates i (z.rates.getD (i:Int).toNat default)=true→∀ k,k<i+1→A2s z.rates k (z.rates.getD k default)=true:=fun h=>K9 hok h
   have no:A2s z.rates i (z.rates.getD (i:Int).toNat default)=false→I2 z.rates (A2s z.rates)=false:=fun h=>R4 hi' h
   have hl:=hz.n
   have hm:=hz.r _ (B4 hi')
   have n1:=A2j (z.rates.getD (i:Int).toNat default).cat hm st'
   have n2:=A1m (z.rates.getD (i:Int).toNat default).rate 10000 st'
   have e:0<i→K7 (z.rates.map G0.cat) i=!(Op.bytesLess (z.rates.getD i default).cat.toList (z.rates.getD (i - 1) default).cat.toList||(z.rates.getD i default).cat.toList==(z.rates.getD (i - 1) default).cat.toList):=fun hp=>by
    rw [B1B hp]
    have e1:(z.rates.map G0.cat).getD i default=(z.rates.getD i default).cat:=E1 G0.cat z.rates hi'
    have e2:(z.rates.map G0.cat).getD (i - 1) default=(z.rates.getD (i - 1) default).cat:=E1 G0.cat z.rates (by omega)
    rw [e1,e2]
   have e0:i=0→K7 (z.rates.map G0.cat) i=true:=fun h=>by rw [h];rfl
   rw [show A2s z.rates i (z.rates.getD (i:Int).toNat default)=(E7 (z.rates.getD (i:Int).toNat default).cat&&P7 0 10000 (z.rates.getD (i:Int).toNat default).rate&&K7 (z.rates.map G0.cat) i) from rfl] at yes no
   generalize E7 (z.rates.getD (i:Int).toNat default).cat=b1 at n1 yes no
   generalize P7 0 10000 (z.rates.getD (i:Int).toNat default).rate=b2 at n2 yes no
   conv=>whnf
   refine ⟨[],[],List.range 38,by kernel_rfl,?_⟩
   cases h0:decide ((i:Int)>0)
   ·replace e:=e0 (by have:=of_decide_eq_false h0;omega)
    repeat' ((conv=>whnf);first | refine ⟨rfl,⟨by omega,by omega⟩,?_⟩ | refine ⟨_,D3 n1,?_⟩ | refine ⟨_,D3 n2,?_⟩ | rw [h0] | cases b1 | cases b2)
    all_goals (conv=>whnf)
    all_goals first
     | (rw [no (by rfl)];exact ⟨rfl,rfl⟩)
     | (refine ⟨rfl,?_⟩;conv=>whnf
        exact nx hi' ⟨yes (by rw [e];rfl),by rw [C2 (by omega)],rfl⟩)
   ·have h0':0<i:=by have:=of_decide_eq_true h0;omega
    replace e:=e h0'
    have hw:=A5j h0' (by omega)
    repeat' ((conv=>whnf);first | refine ⟨rfl,⟨by omega,by omega⟩,?_⟩ | refine ⟨rfl,⟨by rw [hw];omega,by rw [hw];omega⟩,?_⟩ | refine ⟨_,D3 n1,?_⟩ | refine ⟨_,D3 n2,?_⟩ | rw [h0] | cases b1 | cases b2 | refine C0 (fun h=>?_) (fun h=>?_))
    all_goals (conv=>whnf)
    all_goals first
     | (rw [no (by rfl)];exact ⟨rfl,rfl⟩)
     | (rw [hw] at h;rw [no (by rw [e];exact congrArg not h)];exact ⟨rfl,rfl⟩)
     | (rw [hw] at h;refine ⟨rfl,?_⟩;conv=>whnf
        exact nx hi' ⟨yes (by rw [e];exact congrArg not h),by rw [C2 (by omega)],rfl⟩)
def A2w (l:List T7) (k:Nat) (x:T7):Bool:=E7 x.name&&A9E x&&K7 (l.map T7.name) k
structure B5b (x:Tax):Prop where
 n:Sm x.zones.length
 z:∀ z∈x.zones,B0O z
def C1w (x:Tax):Bool:=I2 x.zones (A2w x.zones)&&(decide ((x.zones.length:Int)≤20)&&decide (x.round≥0)&&decide (x.round≤2))
theorem C1g (x:Tax) (hx:B5b x) (st:St):S P 157 [A9M x] st fun v st'=>v=.bool (C1w x)∧st'=st:=by
 rw [show C1w x=(I2 x.zones (A2w x.zones)&&(decide ((x.zones.length:Int)≤20)&&decide (x.round≥0)&&decide (x.round≤2))) from rfl]
 refine A8 [1] B9 mixed Tryz.func157 (by rfl) rfl rfl rfl ?_;conv=>whnf
 refine lp x.zones.length [1,3] (fun i vs st'=>(∀ k,k<i→A2w x.zones k (x.zones.getD k default)=true)∧vs=[.fptr (A9M x) 0,eI i]∧st'=st) ?_ ?_
 ·conv=>whnf
  exact ⟨fun k hk=>absurd hk (by omega),rfl,rfl⟩
 ·rintro i vs st' hi ⟨hok,rfl,rfl⟩
  conv=>whnf
  cases h:decide ((i:Int)<(x.zones.length:Int))
  ·obtain rfl:=E0 h hi
   rw [show I2 x.zones (A2w x.zones)=true from I0 hok,Bool.true_and];conv=>whnf
   refine C0 (fun h=>?_) (fun h=>?_)<;>rw [h]
   ·conv=>whnf
    refine C0 (fun h=>?_) (fun h=>?_)<;>rw [h]<;>(conv=>whnf)<;>exact ⟨rfl,rfl⟩
   ·conv=>whnf
    exact ⟨rfl,rfl⟩
  ·have hi':=G7 h
   have yes:A2w x.zones i (x.zones.getD (i:Int).toNat default)=true→∀ k,k<i+1→A2w x.zones k (x.zones.getD k default)=true:=fun h=>K9 hok h
   have no:A2w x.zones i (x.zones.getD (i:Int).toNat default)=false→I2 x.zones (A2w x.zones)=false:=fun h=>R4 hi' h
   have hl:=hx.n
   have hm:=hx.z _ (B4 hi')
   have n1:=A2j (x.zones.getD (i:Int).toNat default).name hm.s st'
   have n2:=B9k (x.zones.getD (i:Int).toNat default) hm st'
   have e:0<i→K7 (x.zones.map T7.name) i=!(Op.bytesLess (x.zones.getD i default).name.toList (x.zones.getD (i - 1) default).name.toList||(x.zones.getD i default).name.toList==(x.zones.getD (i - 1) default).name.toList):=fun hp=>by
    rw [B1B hp]
    have e1:(x.zones.map T7.name).getD i default=(x.zones.getD i default).name:=E1 T7.name x.zones hi'
    have e2:(x.zones.map T7.name).getD (i - 1) default=(x.zones.getD (i - 1) default).name:=E1 T7.name x.zones (by omega)
    rw [e1,e2]
   have e0:i=0→K7 (x.zones.map T7.name) i=true:=fun h=>by rw [h];rfl
   rw [show A2w x.zones i (x.zones.getD (i:Int).toNat default)=(E7 (x.zones.getD (i:Int).toNat default).name&&A9E (x.zones.getD (i:Int).toNat default)&&K7 (x.zones.map T7.name) i) from rfl] at yes no
   generalize E7 (x.zones.getD (i:Int).toNat default).name=b1 at n1 yes no
   generalize A9E (x.zones.getD (i:Int).toNat default)=b2 at n2 yes no
   conv=>whnf
   refine ⟨[],[],List.range 37,by kernel_rfl,?_⟩
   cases h0:decide ((i:Int)>0)
   ·replace e:=e0 (by have:=of_decide_eq_false h0;omega)
    repeat' ((conv=>whnf);first | refine ⟨rfl,⟨by omega,by omega⟩,?_⟩ | refine ⟨_,D3 n1,?_⟩ | refine ⟨_,D3 n2,?_⟩ | rw [h0] | cases b1 | cases b2)
    all_goals (conv=>whnf)
    all_goals first
     | (rw [no (by rfl)];exact ⟨rfl,rfl⟩)
     | (refine ⟨rfl,?_⟩;conv=>whnf
        exact nx hi' ⟨yes (by rw [e];rfl),by rw [C2 (by omega)],rfl⟩)
   ·have h0':0<i:=by have:=of_decide_eq_true h0;omega
    replace e:=e h0'
    have hw:=A5j h0' (by omega)
    repeat' ((conv=>whnf);first | refine ⟨rfl,⟨by omega,by omega⟩,?_⟩ | refine ⟨rfl,⟨by rw [hw];omega,by rw [hw];omega⟩,?_⟩ | refine ⟨_,D3 n1,?_⟩ | refine ⟨_,D3 n2,?_⟩ | rw [h0] | cases b1 | cases b2 | refine C0 (fun h=>?_) (fun h=>?_))
    all_goals (conv=>whnf)
    all_goals first
     | (rw [no (by rfl)];exact ⟨rfl,rfl⟩)
     | (rw [hw] at h;rw [no (by rw [e];exact congrArg not h)];exact ⟨rfl,rfl⟩)
     | (rw [hw] at h;refine ⟨rfl,?_⟩;conv=>whnf
        exact nx hi' ⟨yes (by rw [e];exact congrArg not h),by rw [C2 (by omega)],rfl⟩)
theorem B9W (z:T7):(E7 z.name&&A9E z)=Y6 z:=by
 unfold A9E Y6 I2 V7 A2s A3C P7
 rw [List.length_map,←Bool.coe_iff_coe]
 simp only [Bool.and_eq_true,List.all_eq_true,List.mem_range,Bool.not_eq_true',Bool.or_eq_false_iff,Bool.not_eq_false',decide_eq_true_eq,decide_eq_false_iff_not]
 constructor
 ·rintro ⟨h0,h1,⟨h2,h3⟩,h4⟩
  exact ⟨⟨⟨⟨h0,h3⟩,h4⟩,by omega⟩,fun k hk=>(h1 k hk).1,fun k hk=>(h1 k hk).2⟩
 ·rintro ⟨⟨⟨⟨h0,h3⟩,h4⟩,h2⟩,h1,h5⟩
  exact ⟨h0,fun k hk=>⟨h1 k hk,h5 k hk⟩,⟨by omega,h3⟩,h4⟩
theorem C1x (x:Tax):C1w x=A6C x:=by
 unfold C1w A6C
 rw [←Bool.coe_iff_coe]
 unfold I2 V7 A2w
 rw [List.length_map]
 simp only [B9W,Bool.and_eq_true,List.all_eq_true,List.mem_range,Bool.not_eq_true',Bool.or_eq_false_iff,Bool.not_eq_false',decide_eq_true_eq,decide_eq_false_iff_not]
 constructor
 ·rintro ⟨h1,⟨h2,h3⟩,h4⟩
  exact ⟨⟨⟨by omega,by omega⟩,by omega⟩,fun k hk=>(h1 k hk).1,fun k hk=>(h1 k hk).2⟩
 ·rintro ⟨⟨⟨h3,h4⟩,h2⟩,h1,h5⟩
  exact ⟨fun k hk=>⟨h1 k hk,h5 k hk⟩,⟨by omega,by omega⟩,by omega⟩
theorem C2S (x:Tax) (hx:B5b x) (st:St):S P 157 [A9M x] st fun v st'=>v=.bool (A6C x)∧st'=st:=by
 rw [←C1x];exact C1g x hx st
def A1v (l:List Y0) (k:Nat) (x:Y0):Bool:=P7 0 10000000000000 x.least&&P7 0 10000 x.rate&&P7 0 10000000000000 x.amount&&!(x.rate==0&&x.amount==0)&&(k==0||!decide (x.least≤(l.getD (k - 1) default).least))
theorem B9l (l:List Y0) (hl:Sm l.length) (st:St):S P 305 [B2 3 O5 l] st fun v st'=>v=.bool (I2 l (A1v l)&&(decide ((l.length:Int)≥1)&&decide ((l.length:Int)≤6)))∧st'=st:=by
 refine A8 [4] B9 mixed Tryz.func305 (by rfl) rfl rfl rfl ?_;conv=>whnf
 refine lp l.length [0,3] (fun i vs st'=>(∀ k,k<i→A1v l k (l.getD k default)=true)∧vs=[B2 3 O5 l,eI i]∧st'=st) ?_ ?_
 ·conv=>whnf
  exact ⟨fun k hk=>absurd hk (by omega),rfl,rfl⟩
 ·rintro i vs st' hi ⟨hok,rfl,rfl⟩
  conv=>whnf
  cases h:decide ((i:Int)<(l.length:Int))
  ·obtain rfl:=E0 h hi
   rw [I0 hok,Bool.true_and];conv=>whnf
   refine C0 (fun h=>?_) (fun h=>?_)<;>rw [h]<;>(conv=>whnf)<;>exact ⟨rfl,rfl⟩
  ·have hi':=G7 h
   have yes:A1v l i (l.getD (i:Int).toNat default)=true→∀ k,k<i+1→A1v l k (l.getD k default)=true:=fun h=>K9 hok h
   have no:A1v l i (l.getD (i:Int).toNat default)=false→I2 l (A1v l)=false:=fun h=>R4 hi' h
   have n1:=A1m (l.getD (i:Int).toNat default).least 10000000000000 st'
   have n2:=A1m (l.getD (i:Int).toNat default).rate 10000 st'
   have n3:=A1m (l.getD (i:Int).toNat default).amount 10000000000000 st'
   have hw:=fun h=>A5j (i:=i) h (by omega)
   rw [show A1v l i (l.getD (i:Int).toNat default)=(P7 0 10000000000000 (l.getD (i:Int).toNat default).least&&P7 0 10000 (l.getD (i:Int).toNat default).rate&&P7 0 10000000000000 (l.getD (i:Int).toNat default).amount&&!((l.getD (i:Int).toNat default).rate==0&&(l.getD (i:Int).toNat default).amount==0)&&(i==0||!decide ((l.getD (i:Int).toNat default).least≤(l.getD (i - 1) default).least))) from rfl] at yes no
   generalize P7 0 10000000000000 (l.getD (i:Int).toNat default).least=b1 at n1 yes no
   generalize P7 0 10000 (l.getD (i:Int).toNat default).rate=b2 at n2 yes no
   generalize P7 0 10000000000000 (l.getD (i:Int).toNat default).amount=b3 at n3 yes no
   conv=>whnf
   refine ⟨rfl,⟨by omega,by omega⟩,?_⟩;conv=>whnf
   refine ⟨[],[],List.range 41,by kernel_rfl,?_⟩
   have step:∀ b4:Bool,b4=((l.getD (i:Int).toNat default).rate==0&&(l.getD (i:Int).toNat default).amount==0)→True:=fun _ _=>trivial
   rcases Nat.eq_zero_or_pos i with h0 | h0
   ·have h1:decide ((i:Int)>0)=false:=decide_eq_false (by omega)
    rw [show (i==0)=true from by rw [h0];rfl,Bool.true_or,Bool.and_true] at yes no
    repeat' ((conv=>whnf);first | refine ⟨rfl,⟨by omega,by omega⟩,?_⟩ | refine ⟨_,D3 n1,?_⟩ | refine ⟨_,D3 n2,?_⟩ | refine ⟨_,D3 n3,?_⟩ | rw [h1] | cases b1 | cases b2 | cases b3 | (refine C0 (fun h=>?_) (fun h=>?_)<;>rw [h] at yes no ⊢))
    all_goals (conv=>whnf)
    all_goals first
     | (rw [no (by rfl)];exact ⟨rfl,rfl⟩)
     | (refine ⟨rfl,?_⟩;conv=>whnf
        exact nx hi' ⟨yes (by rfl),by rw [C2 (by omega)],rfl⟩)
   ·have h1:decide ((i:Int)>0)=true:=decide_eq_true (by omega)
    rw [show (i==0)=false from beq_false_of_ne (by omega),Bool.false_or] at yes no
    have hw:=hw h0
    repeat' ((conv=>whnf);first | refine ⟨rfl,⟨by omega,by omega⟩,?_⟩ | refine ⟨rfl,⟨by rw [hw];omega,by rw [hw];omega⟩,?_⟩ | refine ⟨_,D3 n1,?_⟩ | refine ⟨_,D3 n2,?_⟩ | refine ⟨_,D3 n3,?_⟩ | rw [h1] | cases b1 | cases b2 | cases b3 | (refine C0 (fun h=>?_) (fun h=>?_)<;>rw [h] at yes no ⊢) | (rw [hw];refine C0 (fun h=>?_) (fun h=>?_)))
    all_goals (conv=>whnf)
    all_goals first
     | (rw [no (by rfl)];exact ⟨rfl,rfl⟩)
     | (rw [no (congrArg not h)];exact ⟨rfl,rfl⟩)
     | (refine ⟨rfl,?_⟩;conv=>whnf
        exact nx hi' ⟨yes (congrArg not h),by rw [C2 (by omega)],rfl⟩)
theorem B7o (l:List Y0):(I2 l (A1v l)&&(decide ((l.length:Int)≥1)&&decide ((l.length:Int)≤6)))=U0 l:=by
 unfold U0
 rw [Bool.and_comm]
 congr 1
 ·rw [Bool.not_or];congr 1<;>(rw [←decide_not];exact decide_eq_decide.2 (by omega))
 ·rw [←Bool.coe_iff_coe]
  unfold I2 A1v A2v P7
  simp only [Bool.and_eq_true,List.all_eq_true,List.mem_range,Bool.not_eq_true',Bool.or_eq_false_iff,Bool.not_eq_false',decide_eq_true_eq,decide_eq_false_iff_not,Bool.or_eq_true,beq_iff_eq]
  constructor
  ·intro h k hk
   obtain ⟨⟨⟨⟨h1,h2⟩,h3⟩,h4⟩,h5⟩:=h k hk
   refine ⟨⟨⟨⟨⟨⟨?_,by omega⟩,by omega⟩,by omega⟩,by omega⟩,by omega⟩,h4⟩
   split
   ·omega
   ·rcases h5 with h5 | h5<;>omega
  ·intro h
   have pos:∀ k,k<l.length→0≤(l.getD k default).least:=fun k=>by
    induction k with
    | zero=>intro hk;have:=(h 0 hk).1.1.1.1.1.1;rw [if_pos rfl] at this;omega
    | succ k ih=>intro hk;have:=(h (k+1) hk).1.1.1.1.1.1;rw [if_neg (by omega),Nat.add_sub_cancel] at this;have:=ih (by omega);omega
   intro k hk
   obtain ⟨⟨⟨⟨⟨⟨h1,h2⟩,h3⟩,h4⟩,h5⟩,h6⟩,h7⟩:=h k hk
   have:=pos k hk
   refine ⟨⟨⟨⟨⟨by omega,by omega⟩,by omega,by omega⟩,by omega,by omega⟩,h7⟩,?_⟩
   by_cases h0:k=0
   ·exact .inl h0
   ·rw [if_neg h0] at h1;exact .inr h1
structure A0k (p:A9):Prop where
 id:Sm p.id.size
 group:Sm p.group.size
 code:Sm p.code.size
 scope:A0l p.scope
 parts:Sm p.parts.length
 part:∀ x∈p.parts,A0l x.scope
 tiers:Sm p.tiers.length
def A4h (l:List P3):Bool:=I2 l (fun _ x=>Y3 x)&&(decide ((l.length:Int)≥1)&&decide ((l.length:Int)≤3))
def A8S (p:A9):Bool :=
 if p.kind=1 then (decide (p.rate≥1)&&decide (p.rate≤10000))&&p.amount==0&&(p.buy==0&&p.get==0)&&(p.parts.length:Int)==0&&(p.tiers.length:Int)==0
 else if p.kind=2 then p.rate==0&&decide (p.amount≥1)&&decide (p.amount≤1000000000)&&(p.buy==0&&p.get==0)&&(p.parts.length:Int)==0&&(p.tiers.length:Int)==0
 else if p.kind=3 then (decide (p.rate≥1)&&decide (p.rate≤10000))&&p.amount==0&&decide (p.buy≥1)&&decide (p.buy≤100)&&decide (p.get≥1)&&decide (p.get≤100)&&(p.parts.length:Int)==0&&(p.tiers.length:Int)==0
 else if p.kind=4 then p.rate==0&&P7 0 10000000000000 p.amount&&(p.buy==0&&p.get==0)&&A4h p.parts&&(p.tiers.length:Int)==0&&((p.scope.skus.length:Int)==0&&(p.scope.cats.length:Int)==0)
 else if p.kind=7 then (decide (p.rate≥1)&&decide (p.rate≤10000))&&p.amount==0&&(p.buy==0&&p.get==0)&&(p.parts.length:Int)==0&&(p.tiers.length:Int)==0&&((p.scope.skus.length:Int)==0&&(p.scope.cats.length:Int)==0)&&!p.closes
 else p.rate==0&&p.amount==0&&(p.buy==0&&p.get==0)&&(p.parts.length:Int)==0&&U0 p.tiers
theorem B6H (p:A9):(A4h p.parts&&P7 0 10000000000000 p.amount)=A4M p:=by
 unfold A4h A4M I2 P7
 rw [←Bool.coe_iff_coe]
 simp only [Bool.and_eq_true,List.all_eq_true,List.mem_range,Bool.not_eq_true',Bool.or_eq_false_iff,decide_eq_true_eq,decide_eq_false_iff_not,List.any_eq_false,Bool.not_eq_false']
 constructor
 ·rintro ⟨⟨h1,h2⟩,h3⟩
  exact ⟨⟨⟨⟨by omega,by omega⟩,by omega⟩,by omega⟩,fun x hx=>by obtain ⟨k,hk,rfl⟩:=F0 hx;rw [h1 k hk];simp⟩
 ·rintro ⟨h1,h2⟩
  exact ⟨⟨fun k hk=>by have:=h2 _ (B4 hk);simpa using this,by omega⟩,by omega⟩
theorem B6M (p:A9) (hk:1≤p.kind∧p.kind≤7):A8S p=(A7a p&&A5f p):=by
 have hb:=B6H p
 unfold A8S A7a A5f A6k A6l A6m
 rw [←hb]
 rw [A2g,A2g,A2g,A2g]
 have e:(p.scope.skus.length+p.scope.cats.length==0)=(p.scope.skus.length==0&&p.scope.cats.length==0):=by
  rw [←Bool.coe_iff_coe];simp only [Bool.and_eq_true,beq_iff_eq];omega
 have u:∀ m x,P7 1 m x=true→(x==0)=false:=fun m x h=>by simp only [P7,Bool.and_eq_true,decide_eq_true_eq] at h;exact beq_false_of_ne (by omega)
 have e4:A4h p.parts=true→(p.parts.length==0)=false:=fun h=>by
  simp only [A4h,Bool.and_eq_true,decide_eq_true_eq] at h;exact beq_false_of_ne (by omega)
 have e5:U0 p.tiers=true→(p.tiers.length==0)=false:=fun h=>by
  simp only [U0,Bool.and_eq_true,Bool.not_eq_true',Bool.or_eq_false_iff,decide_eq_false_iff_not] at h;exact beq_false_of_ne (by omega)
 rw [e]
 rcases (by omega:p.kind=1∨p.kind=2∨p.kind=3∨p.kind=4∨p.kind=5∨p.kind=6∨p.kind=7) with h | h | h | h | h | h | h
 all_goals (rw [h];simp only [show ∀ a b:Int,(if a=b then _ else _)=_ from fun _ _=>rfl,P7,if_true,if_false,Int.reduceEq,Int.reduceBEq,Bool.true_or,Bool.or_true,Bool.true_and,Bool.and_true,Bool.false_or,Bool.or_false,bne,Bool.not_true,Bool.not_false])
 all_goals (generalize U0 p.tiers=b1 at *;generalize A4h p.parts=b2 at *;generalize (p.parts.length==0)=b3 at *;generalize (p.tiers.length==0)=b4 at *;generalize (p.scope.skus.length==0&&p.scope.cats.length==0)=b5;generalize (p.buy==0&&p.get==0)=b6;generalize (p.rate==0)=b7;generalize (p.amount==0)=b8;generalize decide (p.rate≥1)=b9;generalize decide (p.rate≤10000)=b10)
 all_goals first | done | ac_rfl
theorem B6L (p:A9):F6 p=(E7 p.id&&!decide (p.kind<1)&&!decide (p.kind>7)&&!decide (p.prio<0)&&!decide (p.prio>1000)&&((p.group.toList==(⟨#[]⟩:D7).toList)||E7 p.group)&&((p.code.toList==(⟨#[]⟩:D7).toList)||E7 p.code)&&V8 p.scope&&P7 0 10000000000000 p.least&&A8S p):=by
 by_cases hk:1≤p.kind∧p.kind≤7
 ·have e:P7 0 1000 p.prio=(!decide (p.prio<0)&&!decide (p.prio>1000)):=by
   unfold P7;congr 1<;>(rw [←decide_not];exact decide_eq_decide.2 (by omega))
  unfold F6 A5e A1i J0
  rw [B6M p hk,e,decide_eq_true (show p.kind≥1 from hk.1),decide_eq_true (show p.kind<8 by omega),decide_eq_false (show ¬ p.kind<1 by omega),decide_eq_false (show ¬ p.kind>7 by omega)]
  simp only [Bool.true_and,Bool.and_true,Bool.not_false,Bool.and_assoc]
 ·have:F6 p=false:=by
   unfold F6
   rw [show (decide (p.kind≥1)&&decide (p.kind<8))=false from by rw [Bool.and_eq_false_iff,decide_eq_false_iff_not,decide_eq_false_iff_not];omega];rfl
  rw [this]
  by_cases h:p.kind<1
  ·rw [decide_eq_true h];simp
  ·rw [decide_eq_true (show p.kind>7 by omega)];simp
set_option maxHeartbeats 8000000 in
theorem B3e (p:A9) (hp:A0k p) (st:St):S P 246 [B7 p] st fun v st'=>v=.bool (F6 p)∧st'=st:=by
 have n1:=A2j p.id hp.id st
 have n2:=A2j p.group hp.group st
 have n3:=A2j p.code hp.code st
 have n4:=B3g p.scope hp.scope st
 have n5:=A1m p.least 10000000000000 st
 have n6:=A1m p.amount 10000000000000 st
 have n7:=B9j p.parts hp.parts hp.part st
 have n8:=B9l p.tiers hp.tiers st
 rw [B7o] at n8
 rw [show (I2 p.parts (fun _ x=>Y3 x)&&(decide ((p.parts.length:Int)≥1)&&decide ((p.parts.length:Int)≤3)))=A4h p.parts from rfl] at n7
 have hC:=B6L p
 generalize hb5:P7 0 10000000000000 p.least=b5 at *
 generalize hb6:P7 0 10000000000000 p.amount=b6 at *
 generalize hb7:A4h p.parts=b7 at *
 generalize hb8:U0 p.tiers=b8 at *
 generalize F6 p=R at *
 clear hp hb5
 obtain ⟨id,kind,prio,group,code,closes,scope,least,rate,amount,buy,get,parts,tiers⟩:=p
 simp only at *
 generalize E7 id=b1 at *
 generalize E7 group=b2 at *
 generalize E7 code=b3 at *
 generalize V8 scope=b4 at *
 obtain ⟨H,hH⟩:∃ H:Bool,H=(b1&&!decide (kind<1)&&!decide (kind>7)&&!decide (prio<0)&&!decide (prio>1000)&&((group.toList==(⟨#[]⟩:D7).toList)||b2)&&((code.toList==(⟨#[]⟩:D7).toList)||b3)&&b4&&b5):=⟨_,rfl⟩
 rw [←hH] at hC
 obtain ⟨q,hq⟩:∃ q:A9,q=⟨id,kind,prio,group,code,closes,scope,least,rate,amount,buy,get,parts,tiers⟩:=⟨_,rfl⟩
 have hB:∀ h:buy=q.buy,True:=fun _=>trivial
 refine C2g [1] [(1,[1,67]),(3,[1,3,4,5,6,7]),(4,[1,3,4,5,6,7,8]),(5,[1,3,4,5,6,7,8,9])] B9 mixed Tryz.func246 (by rfl) rfl rfl rfl ?_;conv=>whnf
 refine ⟨fun us s=>us=[.fptr (B7 ⟨id,kind,prio,group,code,closes,scope,least,rate,amount,buy,get,parts,tiers⟩) 0,.bool (!H)]∧s=st,?_,?_⟩
 ·repeat' ((conv=>whnf);first | refine B0 n1 ?_ | refine B0 n2 ?_ | refine B0 n3 ?_ | refine B0 n4 ?_ | refine B0 n5 ?_ | refine ⟨rfl,?_⟩ | (refine C0 (fun h=>?_) (fun h=>?_)<;>rw [h]))
  all_goals (refine ⟨?_,rfl⟩;refine congrArg (fun b=>[_,AV.bool b]) ?_;rw [hH];clear hH hC n1 n2 n3 n4 n5 n6 n7 n8)
  all_goals (simp only [Bool.not_eq_true',Bool.not_eq_false'] at *;simp only [*,Bool.true_and,Bool.false_and,Bool.and_true,Bool.and_false,Bool.or_true,Bool.or_false,Bool.true_or,Bool.false_or,Bool.not_true,Bool.not_false,Bool.not_not])
 rintro vs s ⟨rfl,rfl⟩
 conv=>whnf
 refine C0 (fun h=>?_) (fun h=>?_)<;>rw [h]
 ·conv=>whnf
  exact ⟨by rw [hC,show H=false by simpa using h];rfl,rfl⟩
 have hT:R=A8S q:=by rw [hC,show H=true by simpa using h,hq];rfl
 clear hC h n1 n2 n3 n4 n5 hH
 conv=>whnf
 refine ⟨fun us s'=>us=[.fptr (B7 ⟨id,kind,prio,group,code,closes,scope,least,rate,amount,buy,get,parts,tiers⟩) 0,.bool (rate==0),.bool (amount==0),.bool (buy==0&&get==0),.bool ((parts.length:Int)==0),.bool ((tiers.length:Int)==0)]∧s'=s,?_,?_⟩
 ·refine .inl ⟨[],[],List.range 27,by kernel_rfl,?_⟩
  repeat' ((conv=>whnf);first | refine ⟨rfl,?_⟩ | (refine C0 (fun h=>?_) (fun h=>?_)<;>rw [h]))
  all_goals rfl
 rintro vs s ⟨rfl,rfl⟩
 conv=>whnf
 refine ⟨fun us s'=>us=[.fptr (B7 ⟨id,kind,prio,group,code,closes,scope,least,rate,amount,buy,get,parts,tiers⟩) 0,.bool (rate==0),.bool (amount==0),.bool (buy==0&&get==0),.bool ((parts.length:Int)==0),.bool ((tiers.length:Int)==0),.bool ((scope.skus.length:Int)==0&&(scope.cats.length:Int)==0)]∧s'=s,?_,?_⟩
 ·repeat' ((conv=>whnf);first | refine ⟨rfl,?_⟩ | (refine C0 (fun h=>?_) (fun h=>?_)<;>rw [h]))
  all_goals rfl
 rintro vs s ⟨rfl,rfl⟩
 conv=>whnf
 refine ⟨fun us s'=>us=[.fptr (B7 ⟨id,kind,prio,group,code,closes,scope,least,rate,amount,buy,get,parts,tiers⟩) 0,.bool (rate==0),.bool (amount==0),.bool (buy==0&&get==0),.bool ((parts.length:Int)==0),.bool ((tiers.length:Int)==0),.bool ((scope.skus.length:Int)==0&&(scope.cats.length:Int)==0),.bool (decide (rate≥1)&&decide (rate≤10000))]∧s'=s,?_,?_⟩
 ·repeat' ((conv=>whnf);first | refine ⟨rfl,?_⟩ | (refine C0 (fun h=>?_) (fun h=>?_)<;>rw [h]))
  all_goals rfl
 rintro vs s ⟨rfl,rfl⟩
 subst hq
 unfold A8S at hT
 simp only [hb6,hb7,hb8] at hT
 generalize (rate==0)=a1 at *
 generalize (amount==0)=a2 at *
 generalize (buy==0&&get==0)=a3 at *
 generalize ((parts.length:Int)==0)=a4 at *
 generalize ((tiers.length:Int)==0)=a5 at *
 generalize ((scope.skus.length:Int)==0&&(scope.cats.length:Int)==0)=a6 at *
 generalize (decide (rate≥1)&&decide (rate≤10000))=a7 at *
 have hk:kind=1∨kind=2∨kind=3∨kind=4∨kind=7∨(kind≠1∧kind≠2∧kind≠3∧kind≠4∧kind≠7):=by omega
 rcases hk with rfl | rfl | rfl | rfl | rfl | ⟨k1,k2,k3,k4,k7⟩
 case' inr.inr.inr.inr.inr =>
  rw [if_neg k1,if_neg k2,if_neg k3,if_neg k4,if_neg k7] at hT
  have e1:=beq_false_of_ne k1
  have e2:=beq_false_of_ne k2
  have e3:=beq_false_of_ne k3
  have e4:=beq_false_of_ne k4
  have e7:=beq_false_of_ne k7
 all_goals try simp only [if_true,if_false,Int.reduceEq] at hT
 all_goals repeat' ((conv=>whnf);first | refine B0 n6 ?_ | refine B0 n7 ?_ | refine B0 n8 ?_ | rw [e1] | rw [e2] | rw [e3] | rw [e4] | rw [e7] | (refine C0 (fun h=>?_) (fun h=>?_)<;>rw [h]))
 all_goals (conv=>whnf)
 all_goals (refine ⟨?_,rfl⟩;show AV.bool _=AV.bool _;rw [hT];clear hT n6 n7 n8;try simp only [Bool.not_eq_true',Bool.not_eq_false'] at *)
 all_goals (simp only [*,Bool.true_and,Bool.false_and,Bool.and_true,Bool.and_false,Bool.or_true,Bool.or_false,Bool.true_or,Bool.false_or,Bool.not_true,Bool.not_false,Bool.not_not])
theorem A5z (p:A9) (hp:A0k p) (hC:F6 p=true) (st:St):S P 246 [B7 p] st fun v st'=>v=.bool true∧st'=st:=by
 have h:=B3e p hp st
 rw [hC] at h;exact h
def A0d (o:List Int) (a:Nat) (x:Int):List Int:=o.take a++x::o.drop a
theorem Q1 {o:List Int} {a:Nat} {x:Int} (h:a≤o.length):(A0d o a x).length=o.length+1:=by
 unfold A0d;simp;omega
theorem A6V {o:List Int} {a:Nat} {x:Int} (h:a≤o.length) {j:Nat} (hj:j<o.length+1):gI (A0d o a x) j=if j<a then gI o j else if j=a then x else gI o (j - 1):=by
 unfold A0d gI
 simp only [List.getD_eq_getElem?_getD]
 by_cases h1:j<a
 ·rw [if_pos h1,List.getElem?_append_left (by rw [List.length_take];omega),List.getElem?_take_of_lt h1]
 ·rw [if_neg h1,List.getElem?_append_right (by rw [List.length_take];omega),List.length_take,Nat.min_eq_left h]
  by_cases h2:j=a
  ·rw [if_pos h2,h2,Nat.sub_self];rfl
  ·rw [if_neg h2,show j - a=(j - 1 - a)+1 by omega,List.getElem?_cons_succ,List.getElem?_drop,show a+(j - 1 - a)=j - 1 by omega]
theorem A5r (o:List Int) (a:Nat) (x:Int):(A0d o a x).Perm (o++[x]):=by
 unfold A0d
 refine List.perm_middle.trans ?_
 rw [List.take_append_drop]
 exact (List.perm_append_comm (l₁:=[x]) (l₂:=o))
theorem A3m {R:Int→Int→Prop} {o:List Int} {a:Nat} {x:Int} (hs:o.Pairwise R) (h1:∀ k,k<a→k<o.length→R (gI o k) x) (h2:∀ k,a≤k→k<o.length→R x (gI o k)):(A0d o a x).Pairwise R:=by
 unfold A0d
 rw [List.pairwise_append,List.pairwise_cons]
 refine ⟨hs.sublist (List.take_sublist ..),⟨fun y hy=>?_,hs.sublist (List.drop_sublist ..)⟩,fun y hy z hz=>?_⟩
 ·obtain ⟨k,hk,rfl⟩:=List.getElem_of_mem hy
  rw [List.length_drop] at hk
  have:=h2 (a+k) (by omega) (by omega)
  rw [List.getElem_drop];simpa [gI,show a+k<o.length by omega] using this
 ·obtain ⟨k,hk,rfl⟩:=List.getElem_of_mem hy
  rw [List.length_take] at hk
  rcases List.mem_cons.1 hz with rfl | hz
  ·have:=h1 k (by omega) (by omega)
   rw [List.getElem_take];simpa [gI,show k<o.length by omega] using this
  ·obtain ⟨j,hj,rfl⟩:=List.getElem_of_mem hz
   rw [List.length_drop] at hj
   rw [List.getElem_take,List.getElem_drop]
   exact List.pairwise_iff_getElem.1 hs k (a+j) (by omega) (by omega) (by omega)
theorem B0v {R:Int→Int→Prop} {o:List Int} (hs:o.Pairwise R) {i j:Nat} (hij:i<j) (hj:j<o.length):R (gI o i) (gI o j):=by
 have:=List.pairwise_iff_getElem.1 hs i j (by omega) hj hij
 simpa [gI,show i<o.length by omega,hj] using this
theorem A6n {o p:List Int} (h:o.Perm p) {P:Int→Prop} (hp:∀ x∈p,P x) {k:Nat} (hk:k<o.length):P (gI o k):=hp _ (h.subset (B4 hk))
def A9b (ranks:List Int) (x:Int):QE:=(gI ranks x.toNat,x)
def B0M (ranks:List Int) (x y:Int):Prop:=H0 (A9b ranks y) (A9b ranks x)=false
def A2K (n:Nat):List Int:=(List.range n).map Int.ofNat
theorem B4n (n:Nat):A2K (n+1)=A2K n++[(n:Int)]:=by unfold A2K;rw [List.range_succ,List.map_append];rfl
theorem A4L {n:Nat} {x:Int} (h:x∈A2K n):0≤x∧x.toNat<n:=by
 obtain ⟨k,hk,rfl⟩:=List.mem_map.1 h
 have:=List.mem_range.1 hk
 show 0≤(k:Int)∧(k:Int).toNat<n
 omega
theorem A6X (n:Nat):(A2K n).length=n:=by unfold A2K;simp
theorem B3c (ranks:List Int) (hl:ranks.length≤1000000) (st:St):S P 306 [B6 ranks] st fun v st'=>(∃ o:List Int,o.Perm (A2K ranks.length)∧o.Pairwise (B0M ranks)∧v=B6 o)∧st'=st:=by
 refine S.post (post:=fun v st'=>∃ o:List Int,o.Perm (A2K ranks.length)∧o.Pairwise (B0M ranks)∧F8 3 1 eI o st v st') ?_ (fun v st' ⟨o,h1,h2,h3⟩=>⟨_,st,⟨⟨o,h1,h2,rfl⟩,rfl⟩,h3.shift⟩)
 refine A8 [] B9 mixed Tryz.func306 (by rfl) rfl rfl rfl ?_;conv=>whnf
 refine lp ranks.length [0,3,4] (fun i vs s=>∃ o sv,o.Perm (A2K i)∧o.Pairwise (B0M ranks)∧vs=[B6 ranks,sv,eI i]∧F8 3 1 eI o st sv s) ?_ ?_
 ·conv=>whnf
  exact ⟨[],.emp,.refl _,.nil,rfl,F8.start _ _ _ _⟩
 ·rintro i vs st' hi ⟨o,sv,hp,hs,rfl,hc0⟩
  conv=>whnf
  cases h:decide ((i:Int)<(ranks.length:Int))
  ·obtain rfl:=E0 h hi
   conv=>whnf
   exact ⟨o,hp,hs,hc0⟩
  ·have hi':=G7 h
   have hol:o.length=i:=by rw [hp.length_eq,A6X]
   have hom:∀ {k:Nat},k<o.length→0≤gI o k∧(gI o k).toNat<i:=fun hk=>A6n hp (fun x hx=>A4L hx) hk
   conv=>whnf
   refine lp o.length [0,3,4,5] (fun a vs s=>(∀ k,k<a→gI ranks (gI o k).toNat≥gI ranks i)∧vs=[B6 ranks,sv,eI i,eI a]∧s=st') ?_ ?_
   ·conv=>whnf
    exact ⟨fun k hk=>absurd hk (by omega),rfl,rfl⟩
   ·rintro a vs s ha ⟨hok,rfl,rfl⟩
    conv=>whnf
    refine ⟨[],[],List.range 18,by kernel_rfl,?_⟩
    have hc1:=hc0
    have hB:(a=o.length∨gI ranks (gI o a).toNat<gI ranks i)→(A0d o a (i:Int)).Perm (A2K (i+1))∧(A0d o a (i:Int)).Pairwise (B0M ranks):=fun hB=>by
     refine ⟨by rw [B4n];exact (A5r o a i).trans (hp.append_right _),A3m hs (fun k hk hk2=>?_) (fun k hk hk2=>?_)⟩
     ·have:=hok k hk
      have:=hom hk2
      unfold B0M A9b;rw [R8];simp only [Int.toNat_natCast];omega
     ·rcases hB with hB | hB
      ·omega
      ·have h6:gI ranks (gI o k).toNat≤gI ranks (gI o a).toNat:=by
        rcases Nat.eq_or_lt_of_le hk with e | e
        ·rw [e];exact Int.le_refl _
        ·have:=B0v hs e hk2
         unfold B0M A9b at this;rw [R8] at this;simp only at this;omega
       unfold B0M A9b;rw [R8];simp only [Int.toNat_natCast];omega
    rcases hc1 with ⟨h0,rfl,hst⟩ | ⟨h0,b,g,hb,rfl,rfl,hg⟩
    case' inl =>
     have hst':=hst.symm
     subst hst'
     have hS:=hB (.inl (by omega))
     have hd:decide ((a:Int)<0)=false:=decide_eq_false (by omega)
     conv=>whnf
     rw [hd];conv=>whnf
    case' inr =>
     conv=>whnf
     cases hd:decide ((a:Int)<(o.length:Int))
     case' false =>
      have hS:=hB (.inl (by have:=of_decide_eq_false hd;omega))
      conv=>whnf
     case' true =>
      have hao:=G7 hd
      have hoa:=hom hao
      have hga:g (0+(a:Int).toNat)=eI (gI o a):=by rw [show 0+(a:Int).toNat=a by omega];exact hg a hao
      conv=>whnf
      refine ⟨rfl,⟨by omega,by omega⟩,?_⟩;conv=>whnf
      refine F7 (A0 ..) rfl (by omega) hga ?_;conv=>whnf
      refine ⟨rfl,⟨by omega,by omega⟩,?_⟩;conv=>whnf
      refine ⟨rfl,⟨by omega,by omega⟩,?_⟩;conv=>whnf
      refine C0 (fun h2=>?_) (fun h2=>?_)<;>rw [h2]
      case' refine_1 =>
       conv=>whnf
       refine ⟨rfl,?_⟩;conv=>whnf
       refine nx hao ⟨K9 hok (of_decide_eq_true h2),by rw [C2 (by omega)],rfl⟩
      case' refine_2 =>
       have hS:=hB (.inr (by have h7:=of_decide_eq_false h2;rw [Int.toNat_natCast] at h7;exact Int.not_le.1 h7))
       conv=>whnf
    all_goals
     refine F8.app (q:=r3) (y:=0) (enc:=eI) rfl rfl rfl rfl rfl rfl (by show (_+1) * 8≤140737488355328;omega) hc0 (fun sv' s' hc'=>?_)
     have hln:(o++[0]).length=o.length+1:=by simp
     rcases hc' with ⟨h1,_⟩ | ⟨h1,b',g',hb',rfl,rfl,hg'⟩
     ·omega
     generalize (o++[0]).length=N at *
     subst hln;conv=>whnf
     have hw0:IntKind.i64.wrap (((o.length+1:Nat):Int) - 1)=((o.length - 0:Nat):Int):=by rw [A7 (by omega) (by omega)];omega
     rw [hw0]
     refine lp (o.length - a) [0,3,4,5,6] (fun r vs s=>vs=[B6 ranks,.own 1 b' 0 (o.length+1),eI i,eI a,eI (o.length - r:Nat)]∧∃ f,s=upd st b' ⟨3,1,o.length+1,f⟩∧∀ j,j<o.length+1→f j=eI (if o.length - r<j then gI o (j - 1) else gI (o++[0]) j)) ?_ ?_
     ·conv=>whnf
      exact ⟨rfl,g',rfl,fun j hj=>by rw [if_neg (by omega)];exact hg' j hj⟩
     ·clear hg' hc0
      rintro r vs s hr ⟨rfl,f,rfl,hf⟩
      conv=>whnf
      cases hk:decide (((o.length - r:Nat):Int)>(a:Int))
      ·have hra:r=o.length - a:=by have:=of_decide_eq_false hk;omega
       conv=>whnf
       refine ⟨rfl,⟨by omega,by omega⟩,?_⟩;conv=>whnf
       refine K8 (A0 ..) rfl (by omega) (hf _ (by omega)) (by rfl) ?_;conv=>whnf
       refine ⟨rfl,?_⟩;conv=>whnf
       rw [A4V]
       refine nx hi' ⟨A0d o a (i:Int),.own 1 b' 0 (o.length+1),hS.1,hS.2,by rw [C2 (by omega)],?_⟩
       refine .inr ⟨by rw [Q1 ha];omega,b',_,hb',by rw [Q1 ha],by rw [Q1 ha],fun j hj=>?_⟩
       rw [Q1 ha] at hj
       show H2 f (0+(a:Int).toNat) _ j=eI (gI (A0d o a (i:Int)) j)
       rw [A6V ha hj]
       by_cases hja:j=a
       ·subst hja
        rw [show 0+((j:Nat):Int).toNat=j by omega,A6];show eI (i:Int)=_;rw [if_neg (by omega),if_pos rfl]
       ·rw [G2 (by omega),hf j hj]
        congr 1
        by_cases hj2:j<a
        ·rw [if_neg (by omega),if_pos hj2,J4 (by omega)]
        ·rw [if_pos (by omega),if_neg hj2,if_neg hja]
      ·have hra:a<o.length - r:=by have:=of_decide_eq_true hk;omega
       have hw1:=A5j (i:=o.length - r) (by omega) (by omega)
       conv=>whnf
       rw [hw1]
       refine ⟨rfl,⟨by omega,by omega⟩,?_⟩;conv=>whnf
       refine F7 (v:=eI (gI o (o.length - r - 1))) (A0 ..) rfl (by omega) (by rw [hf _ (by omega),if_neg (by omega),J4 (by omega)];congr 2;omega) ?_;conv=>whnf
       refine ⟨rfl,⟨by omega,by omega⟩,?_⟩;conv=>whnf
       refine K8 (A0 ..) rfl (by omega) (hf _ (by omega)) (by rfl) ?_;conv=>whnf
       refine ⟨rfl,?_⟩;conv=>whnf
       rw [A4V,hw1]
       refine nx (by omega) ⟨by rw [show o.length - (r+1)=o.length - r - 1 by omega],_,rfl,fun j hj=>?_⟩
       by_cases hj2:j=o.length - r
       ·subst hj2
        rw [show 0+((o.length - r:Nat):Int).toNat=o.length - r by omega,A6];show eI (gI o (o.length - r - 1))=_;rw [if_pos (by omega)]
       ·rw [G2 (by omega),hf j hj]
        congr 1
        by_cases hj3:o.length - r<j
        ·rw [if_pos hj3,if_pos (by omega)]
        ·rw [if_neg hj3,if_neg (by omega)]
def X5 (a b:A9):Bool:=if (a.prio != b.prio)=true then decide (a.prio>b.prio) else slt a.id b.id
theorem B9b (a b:A9) (st:St):S P 163 [B7 a,B7 b] st fun v st'=>v=.bool (X5 a b)∧st'=st:=by
 refine A8 [2,3] B9 mixed Tryz.func163 (by rfl) rfl rfl rfl ?_;conv=>whnf
 unfold X5
 refine C0 (fun h=>?_) (fun h=>?_)<;>rw [h]<;>(conv=>whnf)<;>exact ⟨rfl,rfl⟩
theorem A1G (a b:A9):X5 a b=true↔a.prio>b.prio∨(a.prio=b.prio∧slt a.id b.id=true):=by
 unfold X5
 split
 ·rename_i h;simp only [bne_iff_ne,ne_eq] at h;rw [decide_eq_true_eq];omega
 ·rename_i h;simp only [bne_iff_ne,ne_eq,Classical.not_not] at h;constructor
  ·exact fun h2=>.inr ⟨h,h2⟩
  ·rintro (h2 | h2)
   ·omega
   ·exact h2.2
theorem A7k {a b:A9} (h:X5 a b=true):X5 b a=false:=by
 rw [←Bool.not_eq_true,A1G]
 rw [A1G] at h
 rcases h with h | ⟨h1,h2⟩
 ·rintro (h3 | h3)<;>omega
 ·rintro (h3 | h3)
  ·omega
  ·rw [A4R h2] at h3;cases h3.2
theorem A6i {a b c:A9} (h:X5 b a=false) (k:X5 c b=false):X5 c a=false:=by
 rw [←Bool.not_eq_true,A1G] at *
 rintro (h3 | ⟨h3,h4⟩)
 ·by_cases e:b.prio>a.prio
  ·exact h (.inl e)
  ·exact k (.inl (by omega))
 ·by_cases e:b.prio=a.prio
  ·have h5:slt b.id a.id=false:=by rw [←Bool.not_eq_true];exact fun e2=>h (.inr ⟨e,e2⟩)
   have h6:slt c.id b.id=false:=by rw [←Bool.not_eq_true];exact fun e2=>k (.inr ⟨by omega,e2⟩)
   rw [A2R h5 h6] at h4;cases h4
  ·by_cases e2:b.prio>a.prio
   ·exact h (.inl e2)
   ·exact k (.inl (by omega))
def A2A (l:List A9) (x y:Int):Prop:=X5 (E6 l y) (E6 l x)=false
theorem B3u (l:List Int):(C4 l).Pairwise (·≤·):=by
 have:=List.pairwise_mergeSort (le:=fun a b:Int=>decide (a≤b)) (fun a b c h1 h2=>by simp only [decide_eq_true_eq] at *;omega) (fun a b=>by simp only [Bool.or_eq_true,decide_eq_true_eq];omega) l
 exact this.imp (fun h=>by simpa using h)
theorem B6W (l:List Int) (hl:l.length≤1000000) (st:St):S P 308 [B6 l] st fun v st'=>v=B6 (C4 l)∧st'=st:=by
 refine A1D (ty:=3) ?_
 refine A8 [] B9 mixed Tryz.func308 (by rfl) rfl rfl rfl ?_;conv=>whnf
 refine lp l.length [0,3,4] (fun i vs s=>∃ o sv,o.Perm (l.take i)∧o.Pairwise (·≤·)∧vs=[B6 l,sv,eI i]∧F8 3 1 eI o st sv s) ?_ ?_
 ·conv=>whnf
  exact ⟨[],.emp,.refl _,.nil,rfl,F8.start _ _ _ _⟩
 ·rintro i vs st' hi ⟨o,sv,hp,hs,rfl,hc0⟩
  conv=>whnf
  cases h:decide ((i:Int)<(l.length:Int))
  ·obtain rfl:=E0 h hi
   conv=>whnf
   rw [List.take_length] at hp
   have e:o=C4 l:=List.Perm.eq_of_pairwise (le:=fun a b:Int=>a≤b) (fun a b _ _ h1 h2=>Int.le_antisymm h1 h2) hs (B3u l) (hp.trans (Z7 l).symm)
   rw [←e]
   exact hc0
  ·have hi':=G7 h
   have hol:o.length=i:=by rw [hp.length_eq,List.length_take];omega
   have hom:∀ {k:Nat},k<o.length→True:=fun hk=>trivial
   have hB:∀ a,a≤o.length→(∀ k,a≤k→k<o.length→gI o k>gI l i)→(a=0∨gI o (a - 1)≤gI l i)→(A0d o a (gI l i)).Perm (l.take (i+1))∧(A0d o a (gI l i)).Pairwise (·≤·):=fun a ha hok hB=>by
    refine ⟨by rw [L9 hi'];exact (A5r o a _).trans (hp.append_right _),A3m hs (fun k hk hk2=>?_) (fun k hk hk2=>?_)⟩
    ·rcases hB with hB | hB
     ·omega
     ·rcases Nat.lt_or_ge k (a - 1) with e | e
      ·exact Int.le_trans (B0v hs e (by omega)) hB
      ·rw [show k=a - 1 by omega];exact hB
    ·have:=hok k hk hk2;omega
   have hc1:=hc0
   rcases hc1 with ⟨h0,hsv,hst⟩ | ⟨h0,b,g,hb,hsv,hst,hg⟩
   all_goals rw [hsv]
   all_goals (conv=>whnf)
   all_goals refine lp o.length [0,3,4,5] (fun r vs s=>(∀ k,o.length - r≤k→k<o.length→gI o k>gI l i)∧vs=[B6 l,sv,eI i,eI (o.length - r:Nat)]∧s=st') ?_ ?_
   all_goals first
    | (conv=>whnf
       exact ⟨fun k h1 h2=>absurd h2 (by omega),by first | (rw [hsv];rfl) | (rw [hsv,h0];rfl),rfl⟩)
    | skip
   all_goals
    rintro r vs s hr ⟨hok,rfl,rfl⟩
    conv=>whnf
    refine ⟨[],[],List.range 14,by kernel_rfl,?_⟩
    cases hd:decide (((o.length - r:Nat):Int)>0)
    case' false =>
     have ha:=Nat.sub_le o.length r
     have hS:=hB (o.length - r) ha hok (.inl (by have:=of_decide_eq_false hd;omega))
     generalize o.length - r=a at *
     conv=>whnf
     rw [hd];conv=>whnf
    case' true =>
     have hpos:0<o.length - r:=by have:=of_decide_eq_true hd;omega
     have hw2:=A5j hpos (by omega)
     have hoa:=hom (k:=o.length - r - 1) (by omega)
     first
      | (exfalso;omega)
      | (conv=>whnf
         rw [hd];conv=>whnf
         rw [hsv] at hc0
         rw [hsv,hw2]
         refine ⟨rfl,⟨by omega,by omega⟩,?_⟩;conv=>whnf
         refine F7 (v:=eI (gI o (o.length - r - 1))) (by rw [hst];exact A0 ..) rfl (by omega) (by rw [hg _ (by omega)];congr 2;omega) ?_;conv=>whnf
         refine ⟨rfl,⟨by omega,by omega⟩,?_⟩;conv=>whnf
         refine C0 (fun h2=>?_) (fun h2=>?_)<;>rw [h2]
         ·conv=>whnf
          refine ⟨rfl,?_⟩;conv=>whnf
          refine nx (by omega) ⟨fun k h3 h4=>?_,by rw [hw2,show o.length - (r+1)=o.length - r - 1 by omega],rfl⟩
          rcases Nat.eq_or_lt_of_le h3 with h5 | h5
          ·rw [←h5,show o.length - (r+1)=o.length - r - 1 by omega];exact of_decide_eq_true h2
          ·exact hok k (by omega) h4
         have ha:=Nat.sub_le o.length r
         have hS:=hB (o.length - r) ha hok (.inr (by have h7:=of_decide_eq_false h2;rw [Int.toNat_natCast] at h7;exact Int.not_lt.1 h7))
         clear hw2 hoa
         generalize o.length - r=a at *
         conv=>whnf)
    all_goals
     refine F8.app (q:=r3) (y:=0) (enc:=eI) rfl rfl rfl rfl rfl rfl (by show (_+1) * 8≤140737488355328;omega) hc0 (fun sv' s' hc'=>?_)
     have hln:(o++[0]).length=o.length+1:=by simp
     rcases hc' with ⟨h1,_⟩ | ⟨h1,b',g',hb',rfl,rfl,hg'⟩
     ·omega
     generalize (o++[0]).length=N at *
     subst hln;conv=>whnf
     have hw0:IntKind.i64.wrap (((o.length+1:Nat):Int) - 1)=((o.length - 0:Nat):Int):=by rw [A7 (by omega) (by omega)];omega
     rw [hw0]
     refine lp (o.length - a) [0,3,4,5,6] (fun r vs s=>vs=[B6 l,.own 1 b' 0 (o.length+1),eI i,eI a,eI (o.length - r:Nat)]∧∃ f,s=upd st b' ⟨3,1,o.length+1,f⟩∧∀ j,j<o.length+1→f j=eI (if o.length - r<j then gI o (j - 1) else gI (o++[0]) j)) ?_ ?_
     ·conv=>whnf
      exact ⟨rfl,g',rfl,fun j hj=>by rw [if_neg (by omega)];exact hg' j hj⟩
     ·clear hg' hc0
      rintro r vs s hr ⟨rfl,f,rfl,hf⟩
      conv=>whnf
      cases hk:decide (((o.length - r:Nat):Int)>(a:Int))
      ·have hra:r=o.length - a:=by have:=of_decide_eq_false hk;omega
       conv=>whnf
       refine ⟨rfl,⟨by omega,by omega⟩,?_⟩;conv=>whnf
       refine ⟨rfl,⟨by omega,by omega⟩,?_⟩;conv=>whnf
       refine K8 (A0 ..) rfl (by omega) (hf _ (by omega)) (by rfl) ?_;conv=>whnf
       refine ⟨rfl,?_⟩;conv=>whnf
       rw [A4V]
       refine nx hi' ⟨A0d o a (gI l i),.own 1 b' 0 (o.length+1),hS.1,hS.2,by rw [C2 (by omega)],?_⟩
       refine .inr ⟨by rw [Q1 ha];omega,b',_,hb',by rw [Q1 ha],by rw [Q1 ha],fun j hj=>?_⟩
       rw [Q1 ha] at hj
       show H2 f (0+(a:Int).toNat) _ j=eI (gI (A0d o a (gI l i)) j)
       rw [A6V ha hj]
       by_cases hja:j=a
       ·subst hja
        rw [show 0+((j:Nat):Int).toNat=j by omega,A6];show eI (gI l i)=_;rw [if_neg (by omega),if_pos rfl]
       ·rw [G2 (by omega),hf j hj]
        congr 1
        by_cases hj2:j<a
        ·rw [if_neg (by omega),if_pos hj2,J4 (by omega)]
        ·rw [if_pos (by omega),if_neg hj2,if_neg hja]
      ·have hra:a<o.length - r:=by have:=of_decide_eq_true hk;omega
       have hw1:=A5j (i:=o.length - r) (by omega) (by omega)
       conv=>whnf
       rw [hw1]
       refine ⟨rfl,⟨by omega,by omega⟩,?_⟩;conv=>whnf
       refine F7 (v:=eI (gI o (o.length - r - 1))) (A0 ..) rfl (by omega) (by rw [hf _ (by omega),if_neg (by omega),J4 (by omega)];congr 2;omega) ?_;conv=>whnf
       refine ⟨rfl,⟨by omega,by omega⟩,?_⟩;conv=>whnf
       refine K8 (A0 ..) rfl (by omega) (hf _ (by omega)) (by rfl) ?_;conv=>whnf
       refine ⟨rfl,?_⟩;conv=>whnf
       rw [A4V,hw1]
       refine nx (by omega) ⟨by rw [show o.length - (r+1)=o.length - r - 1 by omega],_,rfl,fun j hj=>?_⟩
       by_cases hj2:j=o.length - r
       ·subst hj2
        rw [show 0+((o.length - r:Nat):Int).toNat=o.length - r by omega,A6];show eI (gI o (o.length - r - 1))=_;rw [if_pos (by omega)]
       ·rw [G2 (by omega),hf j hj]
        congr 1
        by_cases hj3:o.length - r<j
        ·rw [if_pos hj3,if_pos (by omega)]
        ·rw [if_neg hj3,if_neg (by omega)]
set_option maxHeartbeats 1000000 in
theorem B9d (l:List A9) (codes:List D7) (hl:l.length≤1000) (hc:Sm codes.length) (st:St):S P 89 [B2 15 B7 l,D9 codes] st fun v st'=>(∃ o:List Int,o.Perm (places l codes l.length)∧o.Pairwise (A2A l)∧v=B6 o)∧st'=st:=by
 refine S.post (post:=fun v st'=>∃ o:List Int,o.Perm (places l codes l.length)∧o.Pairwise (A2A l)∧F8 3 1 eI o st v st') ?_ (fun v st' ⟨o,h1,h2,h3⟩=>⟨_,st,⟨⟨o,h1,h2,rfl⟩,rfl⟩,h3.shift⟩)
 refine A8 [] B9 mixed Tryz.func89 (by rfl) rfl rfl rfl ?_;conv=>whnf
 refine lp l.length [0,1,5,6] (fun i vs s=>∃ o sv,o.Perm (places l codes i)∧o.Pairwise (A2A l)∧vs=[B2 15 B7 l,D9 codes,sv,eI i]∧F8 3 1 eI o st sv s) ?_ ?_
 ·conv=>whnf
  exact ⟨[],.emp,.refl _,.nil,rfl,F8.start _ _ _ _⟩
 ·rintro i vs st' hi ⟨o,sv,hp,hs,rfl,hc0⟩
  conv=>whnf
  cases h:decide ((i:Int)<(l.length:Int))
  ·obtain rfl:=E0 h hi
   conv=>whnf
   exact ⟨o,hp,hs,hc0⟩
  ·have hi':=G7 h
   have hol:o.length≤i:=by rw [hp.length_eq];exact S7 ..
   have hom:∀ {k:Nat},k<o.length→0≤gI o k∧(gI o k).toNat<i:=fun hk=>A6n hp (fun x hx=>W8 hx) hk
   have hps:=A4i l codes i
   have n1:=B4C codes (l.getD (i:Int).toNat default).code hc st'
   have ea:U4 codes (l.getD i default)=(!(!((l.getD (i:Int).toNat default).code.toList==(⟨#[]⟩:D7).toList))||codes.any fun y=>y.toList==(l.getD (i:Int).toNat default).code.toList):=by
    rw [Bool.not_not];unfold U4 J0;congr 1;congr 1;funext c;exact Bool.beq_comm
   have skip:U4 codes (l.getD i default)=false→o.Perm (places l codes (i+1)):=fun h=>by rw [hps,if_neg (by rw [h];simp),List.append_nil];exact hp
   have hB:U4 codes (l.getD i default)=true→∀ a,a≤o.length→(∀ k,a≤k→k<o.length→X5 (E6 l i) (E6 l (gI o k))=true)→(a=0∨X5 (E6 l i) (E6 l (gI o (a - 1)))=false)→(A0d o a (i:Int)).Perm (places l codes (i+1))∧(A0d o a (i:Int)).Pairwise (A2A l):=fun hask a ha hok hB=>by
    refine ⟨by rw [hps,if_pos hask];exact (A5r o a _).trans (hp.append_right _),A3m hs (fun k hk hk2=>?_) (fun k hk hk2=>?_)⟩
    ·rcases hB with hB | hB
     ·omega
     ·rcases Nat.lt_or_ge k (a - 1) with e | e
      ·exact A6i (B0v hs e (by omega)) hB
      ·rw [show k=a - 1 by omega];exact hB
    ·exact A7k (hok k hk hk2)
   rw [ea] at hB skip
   generalize (codes.any fun y=>y.toList==(l.getD (i:Int).toNat default).code.toList)=b1 at n1 hB skip
   clear ea hps
   conv=>whnf
   refine ⟨rfl,⟨by omega,by omega⟩,?_⟩;conv=>whnf
   cases hn:(!((l.getD (i:Int).toNat default).code.toList==(⟨#[]⟩:D7).toList))
   case' true =>
    rw [hn] at hB skip;conv=>whnf
    refine ⟨rfl,⟨by omega,by omega⟩,?_⟩;conv=>whnf
    refine B0 n1 ?_
    cases b1
    ·conv=>whnf
     refine ⟨rfl,?_⟩;conv=>whnf
     exact nx hi' ⟨o,sv,skip rfl,hs,by rw [C2 (by omega)],hc0⟩
    replace hB:=hB rfl
   case' false =>
    rw [hn] at hB
    replace hB:=hB rfl
   all_goals clear skip n1
   all_goals (conv=>whnf)
   all_goals
    have hc1:=hc0
    rcases hc1 with ⟨h0,hsv,hst⟩ | ⟨h0,b,g,hb,hsv,hst,hg⟩
    all_goals rw [hsv]
    all_goals (conv=>whnf)
    all_goals refine lp o.length [0,1,5,6,7] (fun r vs s=>(∀ k,o.length - r≤k→k<o.length→X5 (E6 l i) (E6 l (gI o k))=true)∧vs=[B2 15 B7 l,D9 codes,sv,eI i,eI (o.length - r:Nat)]∧s=st') ?_ ?_
    all_goals first
     | (conv=>whnf
        exact ⟨fun k h1 h2=>absurd h2 (by omega),by first | (rw [hsv];rfl) | (rw [hsv,h0];rfl),rfl⟩)
     | skip
    all_goals
     rintro r vs s hr ⟨hok,rfl,rfl⟩
     conv=>whnf
     refine ⟨[],[],List.range 17,by kernel_rfl,?_⟩
     cases hd:decide (((o.length - r:Nat):Int)>0)
     case' false =>
      have ha:=Nat.sub_le o.length r
      have hS:=hB (o.length - r) ha hok (.inl (by have:=of_decide_eq_false hd;omega))
      generalize o.length - r=a at *
      conv=>whnf
      rw [hd];conv=>whnf
     case' true =>
      have hpos:0<o.length - r:=by have:=of_decide_eq_true hd;omega
      have hw2:=A5j hpos (by omega)
      have hoa:=hom (k:=o.length - r - 1) (by omega)
      first
       | (exfalso;omega)
       | (conv=>whnf
          rw [hd];conv=>whnf
          refine ⟨rfl,⟨by omega,by omega⟩,?_⟩;conv=>whnf
          rw [hsv] at hc0
          rw [hsv,hw2]
          refine ⟨rfl,⟨by omega,by omega⟩,?_⟩;conv=>whnf
          refine F7 (v:=eI (gI o (o.length - r - 1))) (by rw [hst];exact A0 ..) rfl (by omega) (by rw [hg _ (by omega)];congr 2;omega) ?_;conv=>whnf
          refine ⟨rfl,⟨by omega,by omega⟩,?_⟩;conv=>whnf
          refine ⟨_,D3 (B9b (E6 l i) (E6 l (gI o (o.length - r - 1))) _),?_⟩;conv=>whnf
          refine C0 (fun h2=>?_) (fun h2=>?_)<;>rw [h2]
          ·conv=>whnf
           refine ⟨rfl,?_⟩;conv=>whnf
           refine nx (by omega) ⟨fun k h3 h4=>?_,by rw [hw2,show o.length - (r+1)=o.length - r - 1 by omega],rfl⟩
           rcases Nat.eq_or_lt_of_le h3 with h5 | h5
           ·rw [←h5,show o.length - (r+1)=o.length - r - 1 by omega];exact h2
           ·exact hok k (by omega) h4
          have ha:=Nat.sub_le o.length r
          have hS:=hB (o.length - r) ha hok (.inr h2)
          clear hw2 hoa
          generalize o.length - r=a at *
          conv=>whnf)
     all_goals
      refine F8.app (q:=r3) (y:=0) (enc:=eI) rfl rfl rfl rfl rfl rfl (by show (_+1) * 8≤140737488355328;omega) hc0 (fun sv' s' hc'=>?_)
      have hln:(o++[0]).length=o.length+1:=by simp
      rcases hc' with ⟨h1,_⟩ | ⟨h1,b',g',hb',rfl,rfl,hg'⟩
      ·omega
      generalize (o++[0]).length=N at *
      subst hln;conv=>whnf
      have hw0:IntKind.i64.wrap (((o.length+1:Nat):Int) - 1)=((o.length - 0:Nat):Int):=by rw [A7 (by omega) (by omega)];omega
      rw [hw0]
      refine lp (o.length - a) [0,1,5,6,7,8] (fun r vs s=>vs=[B2 15 B7 l,D9 codes,.own 1 b' 0 (o.length+1),eI i,eI a,eI (o.length - r:Nat)]∧∃ f,s=upd st b' ⟨3,1,o.length+1,f⟩∧∀ j,j<o.length+1→f j=eI (if o.length - r<j then gI o (j - 1) else gI (o++[0]) j)) ?_ ?_
      ·conv=>whnf
       exact ⟨rfl,g',rfl,fun j hj=>by rw [if_neg (by omega)];exact hg' j hj⟩
      ·clear hg' hc0
       rintro r vs s hr ⟨rfl,f,rfl,hf⟩
       conv=>whnf
       cases hk:decide (((o.length - r:Nat):Int)>(a:Int))
       ·have hra:r=o.length - a:=by have:=of_decide_eq_false hk;omega
        conv=>whnf
        refine ⟨rfl,⟨by omega,by omega⟩,?_⟩;conv=>whnf
        refine K8 (A0 ..) rfl (by omega) (hf _ (by omega)) (by rfl) ?_;conv=>whnf
        refine ⟨rfl,?_⟩;conv=>whnf
        rw [A4V]
        refine nx hi' ⟨A0d o a (i:Int),.own 1 b' 0 (o.length+1),hS.1,hS.2,by rw [C2 (by omega)],?_⟩
        refine .inr ⟨by rw [Q1 ha];omega,b',_,hb',by rw [Q1 ha],by rw [Q1 ha],fun j hj=>?_⟩
        rw [Q1 ha] at hj
        show H2 f (0+(a:Int).toNat) _ j=eI (gI (A0d o a (i:Int)) j)
        rw [A6V ha hj]
        by_cases hja:j=a
        ·subst hja
         rw [show 0+((j:Nat):Int).toNat=j by omega,A6];show eI (i:Int)=_;rw [if_neg (by omega),if_pos rfl]
        ·rw [G2 (by omega),hf j hj]
         congr 1
         by_cases hj2:j<a
         ·rw [if_neg (by omega),if_pos hj2,J4 (by omega)]
         ·rw [if_pos (by omega),if_neg hj2,if_neg hja]
       ·have hra:a<o.length - r:=by have:=of_decide_eq_true hk;omega
        have hw1:=A5j (i:=o.length - r) (by omega) (by omega)
        conv=>whnf
        rw [hw1]
        refine ⟨rfl,⟨by omega,by omega⟩,?_⟩;conv=>whnf
        refine F7 (v:=eI (gI o (o.length - r - 1))) (A0 ..) rfl (by omega) (by rw [hf _ (by omega),if_neg (by omega),J4 (by omega)];congr 2;omega) ?_;conv=>whnf
        refine ⟨rfl,⟨by omega,by omega⟩,?_⟩;conv=>whnf
        refine K8 (A0 ..) rfl (by omega) (hf _ (by omega)) (by rfl) ?_;conv=>whnf
        refine ⟨rfl,?_⟩;conv=>whnf
        rw [A4V,hw1]
        refine nx (by omega) ⟨by rw [show o.length - (r+1)=o.length - r - 1 by omega],_,rfl,fun j hj=>?_⟩
        by_cases hj2:j=o.length - r
        ·subst hj2
         rw [show 0+((o.length - r:Nat):Int).toNat=o.length - r by omega,A6];show eI (gI o (o.length - r - 1))=_;rw [if_pos (by omega)]
        ·rw [G2 (by omega),hf j hj]
         congr 1
         by_cases hj3:o.length - r<j
         ·rw [if_pos hj3,if_pos (by omega)]
         ·rw [if_neg hj3,if_neg (by omega)]
theorem A0X (x:Int) (st:St):S P 223 [eI x] st fun v st'=>v=.bool (P5 x)∧st'=st:=by
 refine A8 [] B9 mixed Tryz.func223 (by rfl) rfl rfl rfl ?_;conv=>whnf
 unfold P5
 cases h:decide (0≤x)
 ·conv=>whnf
  exact ⟨rfl,rfl⟩
 ·conv=>whnf
  exact ⟨rfl,rfl⟩
theorem C6H {v:Int} (h0:0≤v) (h1:v≤9223372036854775807):IntKind.i64.wrap ((BitVec.ofInt IntKind.i64.bits v &&& BitVec.ofInt IntKind.i64.bits 1).toNat:Int)=v % 2:=by
 show IntKind.i64.wrap ((BitVec.ofInt 64 v &&& BitVec.ofInt 64 1).toNat:Int)=v % 2
 obtain ⟨n,rfl⟩:=Int.eq_ofNat_of_zero_le h0
 have e1:(BitVec.ofInt 64 ((n:Nat):Int)).toNat=n:=by rw [BitVec.ofInt_natCast,BitVec.toNat_ofNat,Nat.mod_eq_of_lt (by omega)]
 have e2:(BitVec.ofInt 64 1).toNat=1:=by decide
 rw [BitVec.toNat_and,e1,e2,Nat.and_one_is_mod,A7 (by omega) (by omega)];omega
theorem B1c {d q r Y:Int} (h:Y=d * q+r) (h0:0≤r) (h1:r<d):Y / d=q∧Y % d=r:=by
 have:=(Int.ediv_emod_unique (a:=Y) (b:=d) (r:=r) (q:=q) (by omega)).2 ⟨by omega,h0,h1⟩
 exact this
def W0 (num:Int) (j:Nat):Int:=num / 2 ^ (63 - j)
theorem B7p {num:Int} (h:0≤num) {j:Nat} (hj:j<63):W0 num (j+1)=2 * W0 num j+W0 num (j+1) % 2:=by
 have e:W0 num j=W0 num (j+1) / 2:=by
  unfold W0
  rw [show 63 - j=(63 - (j+1))+1 by omega,Int.pow_succ,Int.ediv_ediv_of_nonneg (Int.pow_nonneg (by omega))]
 omega
theorem A7z {num:Int} (h:0≤num) (j:Nat):0≤W0 num j:=Int.ediv_nonneg h (Int.pow_nonneg (by omega))
theorem C1z {num:Int} (h:0≤num) (j:Nat):W0 num j≤num:=Int.ediv_le_self _ h
theorem B9K {num:Int} (h:0≤num) (h1:num≤100000000000000):W0 num 0=0:=Int.ediv_eq_zero_of_lt h (by show num<2 ^ 63;omega)
theorem B5M (num:Int):W0 num 63=num:=by unfold W0;simp
def A7b (x num den:Int):AV:=if x * num / den>100000000000000 then .tuple [eI 0,eI 0,.bool false] else .tuple [eI (x * num / den),eI (x * num % den),.bool true]
set_option maxHeartbeats 1000000 in
theorem A9h (x num den:Int) (hx:0≤x) (hx1:x≤100000000000000) (hn:0≤num) (hn1:num≤100000000000000) (hd:0<den) (hd1:den≤100000000000000) (st:St) :
  S P 282 [eI x,eI num,eI den] st fun v st'=>v=A7b x num den∧st'=st:=by
 refine A8 [] B9 mixed Tryz.func282 (by rfl) rfl rfl rfl ?_;conv=>whnf
 refine lp 63 [0,1,2,9,10,11] (fun j vs s=>(x * W0 num j / den≤100000000000000)∧vs=[eI x,eI num,eI den,eI (x * W0 num j / den),eI (x * W0 num j % den),eI (62 - (j:Int))]∧s=st) ?_ ?_
 ·conv=>whnf
  refine ⟨?_,?_,rfl⟩
  ·rw [B9K hn hn1,Int.mul_zero,Int.zero_ediv];omega
  ·rw [B9K hn hn1,Int.mul_zero,Int.zero_ediv,Int.zero_emod];rfl
 ·rintro j vs s hj ⟨hq,rfl,rfl⟩
  conv=>whnf
  have hY0:0≤x * W0 num j:=Int.mul_nonneg hx (A7z hn j)
  have hA0:0≤x * W0 num j / den:=Int.ediv_nonneg hY0 (by omega)
  have hB0:=Int.emod_nonneg (x * W0 num j) (show den≠0 by omega)
  have hB1:=Int.emod_lt_of_pos (x * W0 num j) hd
  have hY:=Int.mul_ediv_add_emod (x * W0 num j) den
  cases h:decide (62 - (j:Int)≥0)
  ·have hj63:j=63:=by have:=of_decide_eq_false h;omega
   subst hj63
   rw [B5M] at hq;conv=>whnf
   refine ⟨?_,rfl⟩
   unfold A7b
   rw [if_neg (by omega),B5M];rfl
  ·have hj':j<63:=by have:=of_decide_eq_true h;omega
   have hC0:0≤x / den:=Int.ediv_nonneg hx (by omega)
   have hC1:x / den≤x:=Int.ediv_le_self _ hx
   have hD0:=Int.emod_nonneg x (show den≠0 by omega)
   have hD1:=Int.emod_lt_of_pos x hd
   have hX:=Int.mul_ediv_add_emod x den
   have hst:=B7p hn hj'
   have hN0:=A7z hn (j+1)
   have hN1:=C1z hn (j+1)
   have hbit:x * W0 num (j+1)=2 * (x * W0 num j)+x * (W0 num (j+1) % 2):=by
    conv=>lhs;rw [hst]
    rw [Int.mul_add,Int.mul_left_comm]
   have hshr:Int.fdiv num (2 ^ (min (IntKind.u64.wrap (62 - (j:Int))).toNat IntKind.i64.bits))=W0 num (j+1):=by
    show Int.fdiv num (2 ^ (min (IntKind.u64.wrap (62 - (j:Int))).toNat 64))=_
    rw [B8 (by omega) (by omega)]
    unfold W0
    rw [show min (62 - (j:Int)).toNat 64=63 - (j+1) by omega,Int.fdiv_eq_ediv_of_nonneg _ (Int.pow_nonneg (by omega))]
   have hbig:x * W0 num (j+1) / den>100000000000000→A7b x num den=.tuple [eI 0,eI 0,.bool false]:=fun hb=>by
    unfold A7b
    refine if_pos ?_
    have:x * W0 num (j+1) / den≤x * num / den:=Int.ediv_le_ediv hd (Int.mul_le_mul_of_nonneg_left hN1 hx)
    omega
   have hand:=C6H (v:=W0 num (j+1)) hN0 (by omega)
   have htd:x.tdiv den=x / den:=Int.tdiv_eq_ediv_of_nonneg hx
   have htm:x.tmod den=x % den:=Int.tmod_eq_emod_of_nonneg hx
   generalize hAe:x * W0 num j / den=A at *
   generalize hBe:x * W0 num j % den=B at *
   generalize hYe:x * W0 num j=Y at *
   generalize hCe:x / den=C at *
   generalize hDe:x % den=D at *
   have w1:IntKind.i64.wrap (2 * A)=2 * A:=A7 (by omega) (by omega)
   have w2:IntKind.i64.wrap (2 * B)=2 * B:=A7 (by omega) (by omega)
   conv=>whnf
   rw [w1,w2]
   -- doubled
   refine C0 (fun h1=>?_) (fun h1=>?_)<;>rw [h1]
   case' refine_1 =>
    have:=of_decide_eq_true h1
    have w3:IntKind.i64.wrap (2 * A+1)=2 * A+1:=A7 (by omega) (by omega)
    have w4:IntKind.i64.wrap (2 * B - den)=2 * B - den:=A7 (by omega) (by omega)
    have hq1:2 * Y=den * (2 * A+1)+(2 * B - den):=by rw [Int.mul_add,Int.mul_left_comm,Int.mul_one];omega
    have hq2:0≤2 * A+1∧2 * A+1≤200000000000001:=by omega
    have hr1:0≤2 * B - den∧2 * B - den<den:=by omega
    conv=>whnf
    rw [w3,w4]
    generalize 2 * A+1=q1 at *
    generalize 2 * B - den=r1 at *
   case' refine_2 =>
    have:=of_decide_eq_false h1
    have hq1:2 * Y=den * (2 * A)+(2 * B):=by rw [Int.mul_left_comm];omega
    have hq2:0≤2 * A∧2 * A≤200000000000001:=by omega
    have hr1:0≤2 * B∧2 * B<den:=by omega
    conv=>whnf
    generalize 2 * A=q1 at *
    generalize 2 * B=r1 at *
   all_goals clear w1 w2 hY hA0 hB0 hB1 hq hAe hBe
   all_goals (rw [decide_eq_false (show ¬ IntKind.u64.wrap (62 - (j:Int))<0 by rw [B8 (by omega) (by omega)];omega)])
   all_goals (conv=>whnf)
   all_goals rw [hshr,hand]
   all_goals refine C0 (fun h2=>?_) (fun h2=>?_)<;>rw [h2]
   -- a bit of num
   case' refine_2.true.refine_1.refine_1 | refine_2.true.refine_2.refine_1 =>
    have hb1:W0 num (j+1) % 2=1:=eq_of_beq h2
    have w5:IntKind.i64.wrap C=C:=A7 (by omega) (by omega)
    have w6:IntKind.i64.wrap (q1+C)=q1+C:=A7 (by omega) (by omega)
    have w7:IntKind.i64.wrap (r1+D)=r1+D:=A7 (by omega) (by omega)
    have hd0:decide (den=0)=false:=decide_eq_false (by omega)
    rw [hb1,Int.mul_one] at hbit;conv=>whnf
    refine ⟨[],[],List.range 12,by kernel_rfl,?_⟩;conv=>whnf
    rw [hd0];conv=>whnf
    rw [hd0];conv=>whnf
    rw [htd,htm,w5,w6,w7]
    refine C0 (fun h3=>?_) (fun h3=>?_)<;>rw [h3]
    case' refine_1 =>
     have:=of_decide_eq_true h3
     have w8:IntKind.i64.wrap (q1+C+1)=q1+C+1:=A7 (by omega) (by omega)
     have w9:IntKind.i64.wrap (r1+D - den)=r1+D - den:=A7 (by omega) (by omega)
     obtain ⟨e1,e2⟩:=B1c (Y:=x * W0 num (j+1)) (d:=den) (q:=q1+C+1) (r:=r1+D - den) (by rw [hbit,Int.mul_add,Int.mul_add,Int.mul_one];omega) (by omega) (by omega)
     conv=>whnf
     rw [w8,w9,←e1,←e2]
    case' refine_2 =>
     have:=of_decide_eq_false h3
     obtain ⟨e1,e2⟩:=B1c (Y:=x * W0 num (j+1)) (d:=den) (q:=q1+C) (r:=r1+D) (by rw [hbit,Int.mul_add];omega) (by omega) (by omega)
     conv=>whnf
     rw [←e1,←e2]
   case' refine_2.true.refine_1.refine_2 | refine_2.true.refine_2.refine_2 =>
    have hb1:W0 num (j+1) % 2=0:=by have:=ne_of_beq_false h2;omega
    rw [hb1,Int.mul_zero,Int.add_zero] at hbit
    obtain ⟨e1,e2⟩:=B1c (Y:=x * W0 num (j+1)) (d:=den) (q:=q1) (r:=r1) (by rw [hbit];omega) (by omega) (by omega)
    conv=>whnf
    rw [←e1,←e2]
   all_goals refine C0 (fun h4=>?_) (fun h4=>?_)<;>rw [h4]
   all_goals (conv=>whnf)
   all_goals first
    | exact ⟨by rw [hbig (of_decide_eq_true h4)];rfl,rfl⟩
    | (refine ⟨rfl,?_⟩;conv=>whnf
       have w10:IntKind.i64.wrap (62 - (j:Int) - 1)=62 - ((j+1:Nat):Int):=by rw [A7 (by omega) (by omega)];omega
       exact nx hj' ⟨by have:=of_decide_eq_false h4;omega,by rw [w10],rfl⟩)
theorem B9m (x num den round:Int) (st:St):S P 224 [eI x,eI num,eI den,eI round] st fun v st'=>v=.tuple [eI (A1p x num den round).1,eI (A1p x num den round).2]∧st'=st:=by
 refine A8 [] B9 mixed Tryz.func224 (by rfl) rfl rfl rfl ?_
 by_cases hok:(P5 x&&P5 num&&P5 den&&den != 0&&decide (0≤round)&&decide (round<3))=false
 ·rw [show A1p x num den round=(0,2) from if_pos hok]
  have n1:=A0X x st
  have n2:=A0X num st
  have hok':¬(P5 x=true∧P5 num=true∧1≤den∧den≤100000000000000∧0≤round∧round≤2):=fun ⟨h1,h2,h3,h4,h5,h6⟩=>by
   rw [h1,h2,(Z6 den).2 ⟨by omega,h4⟩,decide_eq_true h5,decide_eq_true (show round<3 by omega),bne_iff_ne.2 (show den≠0 by omega)] at hok;cases hok
  repeat' ((conv=>whnf);first | refine B0 n1 ?_ | refine B0 n2 ?_ | (refine C0 (fun h=>?_) (fun h=>?_)<;>rw [h]))
  all_goals (conv=>whnf)
  all_goals first
   | exact ⟨rfl,rfl⟩
   | (exfalso
      simp only [Bool.not_eq_false',decide_eq_false_iff_not] at *
      exact hok' ⟨by assumption,by assumption,by omega,by omega,by omega,by omega⟩)
 ·rw [Bool.not_eq_false] at hok
  have ht:A1p x num den round=if x * num / den>100000000000000 then (0,5) else if T9 (x * num / den) (x * num % den) den round>100000000000000 then (0,5) else (T9 (x * num / den) (x * num % den) den round,0):=if_neg (by rw [hok];simp)
  simp only [Bool.and_eq_true,bne_iff_ne,ne_eq,decide_eq_true_eq] at hok
  obtain ⟨⟨⟨⟨⟨x0,n0⟩,d0⟩,d2⟩,r0⟩,r1⟩:=hok
  have x1:=(Z6 x).1 x0
  have n1:=(Z6 num).1 n0
  have d1:=(Z6 den).1 d0
  have e1:decide (den<1)=false:=decide_eq_false (by omega)
  have e2:decide (den>100000000000000)=false:=decide_eq_false (by omega)
  have e3:decide (round<0)=false:=decide_eq_false (by omega)
  have e4:decide (round>2)=false:=decide_eq_false (by omega)
  have hp:=A9h x num den (by omega) (by omega) (by omega) (by omega) (by omega) (by omega) st
  have hN:0≤x * num:=Int.mul_nonneg x1.1 n1.1
  have hq0:0≤x * num / den:=Int.ediv_nonneg hN (by omega)
  have hm0:=Int.emod_nonneg (x * num) d2
  have hm1:=Int.emod_lt_of_pos (x * num) (show 0<den by omega)
  have m1:=A0X x st
  have m2:=A0X num st
  rw [x0] at m1
  rw [n0] at m2
  unfold A7b at hp
  rw [ht]
  clear ht
  generalize x * num / den=q at *
  generalize x * num % den=r at *
  have bq:0≤T9 q r den round:=by unfold T9;repeat' split<;>omega
  by_cases hbig:q>100000000000000
  ·rw [if_pos hbig] at hp ⊢
   repeat' ((conv=>whnf);first | refine B0 m1 ?_ | refine B0 m2 ?_ | refine B0 hp ?_ | rw [e1] | rw [e2] | rw [e3] | rw [e4])
   conv=>whnf
   exact ⟨rfl,rfl⟩
  ·rw [if_neg hbig] at hp ⊢
   have w1:IntKind.i64.wrap (2 * r)=2 * r:=A7 (by omega) (by omega)
   have w2:IntKind.i64.wrap (q+1)=q+1:=A7 (by omega) (by omega)
   have w3:q.tmod 2=q % 2:=Int.tmod_eq_emod_of_nonneg hq0
   have m3:=A0X q st
   have m4:=A0X (q+1) st
   rcases (by omega:round=0∨round=1∨round=2) with rfl | rfl | rfl
   all_goals repeat' ((conv=>whnf);first | refine B0 m1 ?_ | refine B0 m2 ?_ | refine B0 m3 ?_ | refine B0 m4 ?_ | refine B0 hp ?_ | rw [e1] | rw [e2] | rw [e3] | rw [e4] | rw [w1] | rw [w2] | rw [w3] | (refine C0 (fun h=>?_) (fun h=>?_)<;>rw [h]))
   all_goals (conv=>whnf)
   all_goals (refine ⟨?_,rfl⟩;show AV.tuple [AV.int .i64 _,AV.int .i64 _]=AV.tuple [AV.int .i64 _,AV.int .i64 _])
   all_goals (simp only [T9,Bool.not_eq_true',Bool.not_eq_false',decide_eq_true_eq,decide_eq_false_iff_not,beq_iff_eq,beq_eq_false_iff_ne,ne_eq,P5,Bool.and_eq_true,Bool.and_eq_false_iff,if_true,if_false,Int.reduceEq] at *)
   all_goals (repeat' split)
   all_goals first | rfl | (exfalso;omega)
end Go.Proofs.YtbajhapmlfbelaaGreat
