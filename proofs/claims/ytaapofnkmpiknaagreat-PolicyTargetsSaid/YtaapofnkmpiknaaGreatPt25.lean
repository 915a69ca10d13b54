/- Part 25 of the proof: contracts -/
import Derived.Test.YtaapofnkmpiknaaGreatPt24
set_option maxRecDepth 100000
set_option linter.unusedVariables false
set_option linter.unusedSimpArgs false
namespace Go.Proofs.YtaapofnkmpiknaaGreat
open Go Go.Ab
attribute [local irreducible] upd del
def Y8 (s:Z4):Z4:=⟨T9 s.skus 3 8 A1o 8,T9 s.cats 2 3 A5U 3⟩
theorem B7o (s:Z4) (st:St):S P 208 [A4h s] st fun v st'=>v=A4h (Y8 s)∧st'=st:=by
 have h1:=fun st=>B9F s.skus 3 8 A1o 36 (by decide) (by decide) C5z st
 have h2:=fun st=>B9F s.cats 2 3 A5U 155 (by decide) (by decide) A5n st
 unfold Y8
 generalize T9 s.skus 3 8 A1o 8=a at h1 ⊢
 generalize T9 s.cats 2 3 A5U 3=b at h2 ⊢
 refine A0g ?_
 refine F7 [1] Tryz.func208 ?_
 intro b2 hb;conv=>whnf
 refine ⟨[7],[],List.range 8,by kernel_rfl,?_⟩;conv=>whnf
 refine cqW (h1 _) ?_
 refine cqW (h2 _) ?_
 refine stW (A0 ..) rfl ?_
 refine L1 (A0 ..) (A6 ..) ?_
 exact ⟨rfl,((F8.refl st).upd hb).over hb⟩
def H3 (l:List C8):List C8:=T9 l 3 3 A5K 3
theorem B7e (l:List C8) (st:St):S P 53 [D5 l] st fun v st'=>v=D5 (H3 l)∧st'=st:=by
 refine F7 [] Tryz.func53 ?_
 refine I3 (B9F l 3 3 A5K 113 (by decide) (by decide) C3R _) ?_
 exact ⟨rfl,rfl⟩
def A6z (x:E6):E6:=⟨A1o (A3f x.sku),B5 x.qty 10,B5 x.price 4000⟩
def A7g (l:List E6):List E6:=(l.take 8).map A6z
def O7 (l:List Ab.Item) (k:Nat):Ab.Item :=
 if k<l.length then ⟨A1o k,A5U (A3f (l.getD k default).cat),B5 (l.getD k default).price 4000,(l.getD k default).final&&k==7⟩ else ⟨A1o k,A5U k,100+37 * k,false⟩
def G7 (l:List Ab.Item):List Ab.Item:=(List.range 8).map (O7 l)
theorem A6q {α : Type} (f:Nat→α) (k:Nat):(List.range (k+1)).map f=(List.range k).map f++[f k]:=by rw [D8G,D7M];rfl
theorem B7g (l:List Ab.Item) (st:St):S P 100 [A8 4 F2 l] st fun v st'=>v=A8 4 F2 (G7 l)∧st'=st:=by
 refine S.post (post:=fun v st'=>∃ base,F8 st base∧E8 86 4 F2 (G7 l) base v st') ?_ (fun v st' ⟨base,hs,hc⟩=>⟨_,st,⟨rfl,rfl⟩,hc.shift.trans (hs.shift _)⟩)
 refine F7 [] Tryz.func100 ?_
 refine lp 8 [0,3,4] (fun k vs s=>∃ sv base,vs=[A8 4 F2 l,sv,eI k]∧F8 st base∧E8 86 4 F2 ((List.range k).map (O7 l)) base sv s) ?_ ?_
 ·conv=>whnf
  exact ⟨.emp,st,rfl,F8.refl _,E8.start _ _ _ _⟩
 ·rintro k vs s hk ⟨sv,base,rfl,hsup,hc⟩
  conv=>whnf
  refine B7 (fun h1=>?_) (fun h1=>?_)<;>rw [h1]<;>simp only [D7d,D7e] at h1
  ·have hk':k<8:=by omega
   have hnext:=A6q (O7 l) k
   have hlen:((List.range k).map (O7 l)).length=k:=by rw [D7i,D7F]
   have w1:IntKind.i64.wrap (100+IntKind.i64.wrap (37 * (k:Int)))=100+37 * (k:Int):=by
    rw [A4 (x:=37 * (k:Int)) (by omega) (by omega),A4 (by omega) (by omega)]
   conv=>whnf
   refine I3 (C5z _ _) ?_
   refine I3 (A5n _ _) ?_
   intro b hb;conv=>whnf
   refine stU (A0 ..) rfl ?_
   rw [C5]
   have hbb:base b=none:=Col.off hc hb
   have hc1:=fun y=>Col.under (y:=y) hc hb
   have hend:∀ {t:St} {Y:L7} {x:AV} {g:Nat→AV} {K:KK},t=upd s b Y→A0v 4 t x=some (1,g)→g 0=F2 (O7 l k)→(∀ sv' t',E8 86 4 F2 ((List.range (k+1)).map (O7 l)) (upd base b Y) sv' t'→K sv' t')→A5V T 22 sv x t K:=fun {t Y x g K} e hs hg hk=>by
    subst e
    refine E8.app (q:=r86) rfl rfl rfl rfl hs hg (by rw [hlen];show (k+1) * 48≤140737488355328;omega) (hc1 Y) (fun sv' t' hc'=>hk sv' t' ?_)
    rw [hnext];exact hc'
   conv=>whnf
   refine B7 (fun h2=>?_) (fun h2=>?_)<;>rw [h2]<;>simp only [D7d,D7e] at h2
   ·have hi:k<l.length:=by omega
    have hp:O7 l k=⟨A1o k,A5U (A3f (l.getD (k:Int).toNat default).cat),B5 (l.getD (k:Int).toNat default).price 4000,(l.getD (k:Int).toNat default).final&&k==7⟩:=by unfold O7;rw [if_pos hi];rfl
    conv=>whnf
    refine ⟨[23,25,27],[],List.range 28,by kernel_rfl,?_⟩;conv=>whnf
    refine E9 ?_
    refine cqW (B2n _ _) ?_
    refine cqW (A5n _ _) ?_
    refine E9 ?_
    refine cqW (W6 _ 4000 (by decide) (by decide) _) ?_
    refine E9 ?_
    refine B7 (fun h3=>?_) (fun h3=>?_)<;>rw [h3] at hp ⊢
    all_goals
     conv=>whnf
     refine stU (A0 ..) (A6 ..) ?_
     rw [C5];conv=>whnf
     refine stU (A0 ..) (A6 ..) ?_
     rw [C5];conv=>whnf
     refine stU (A0 ..) (A6 ..) ?_
     rw [C5];conv=>whnf
     refine L1 (A0 ..) (A6 ..) ?_
     refine hend rfl rfl (by rw [hp];first | rfl | (have e7:((k:Int)==7)=(k==7):=by rw [E0g,D7Z,D7Z];omega
                                                    rw [D7u,←e7];rfl)) (fun sv' t' hc'=>?_)
     conv=>whnf
     refine G3 ?_
     exact nx hk' ⟨sv',_,by rw [B4 (by omega)],hsup.upd hbb,hc'⟩
   ·have hi:¬ k<l.length:=by omega
    have hp:O7 l k=⟨A1o k,A5U k,100+37 * k,false⟩:=by unfold O7;rw [if_neg hi]
    conv=>whnf
    refine L1 (A0 ..) (A6 ..) ?_
    refine hend rfl rfl (by rw [hp];show AV.agg _=_;rw [w1];rfl) (fun sv' t' hc'=>?_);conv=>whnf
    refine G3 ?_
    exact nx hk' ⟨sv',_,by rw [B4 (by omega)],hsup.upd hbb,hc'⟩
  ·obtain rfl:k=8:=by omega
   conv=>whnf
   exact ⟨base,hsup,hc⟩
end Go.Proofs.YtaapofnkmpiknaaGreat
namespace Go.Ab
open Go
theorem S.lend {P:Program} {f:FuncId} {args args':List AV} {st:St} {q q':AV→Prop} (h:S P f args' st0 fun v s=>q v∧s=st0) (hs:A7 args st args' st0)
  (hq:∀ v c rd sz,q v→Rep rd sz v c→∃ v',q' v'∧∀ rd' sz',Rep rd' sz' v' c):S P f args st fun v s=>q' v∧s=st :=
 ⟨h.1,fun cargs w hr hS=>by
  obtain ⟨h1,h2,h3⟩:=hs w cargs hS hr
  refine (h.2 cargs w h2 h1).mono fun e w' ⟨v,c,s,⟨hqv,hs0⟩,he,hrep,hS',hE⟩=>?_
  subst hs0
  obtain ⟨v',hq',hsol⟩:=hq v c _ _ hqv hrep
  have hE2:Evo st w st w':=⟨hE.os,hE.tape,hE.output,hE.size,fun b hb hn=>⟨(hE.blk b hb rfl).1,hn⟩,hE.szm⟩
  refine ⟨v',c,st,⟨hq',rfl⟩,he,hsol _ _,fun b x hb=>?_,hE2⟩
  obtain ⟨cs,hc⟩:=hS b x hb
  have heap:=(hE.blk b (H9.lt hS hb) rfl).1
  exact ⟨cs,by rw [heap];exact hc.heap,hc.size,hc.len,hc.one,fun i j y hi hy=>by
   obtain ⟨v,hv,hr⟩:=hc.cell i j y hi hy
   exact ⟨v,hv,hE2.rep hr⟩⟩⟩
def So (y y':AV):Prop:=∀ rd sz rd' sz' c,Rep rd sz y c→Rep rd' sz' y' c
inductive SoL:List AV→List AV→Prop
 | nil:SoL [] []
 | cons {a b:AV} {l m:List AV} (h:So a b) (k:SoL l m):SoL (a::l) (b::m)
theorem SoL.len {l m:List AV} (h:SoL l m):l.length=m.length:=by
 induction h with
 | nil=>rfl
 | cons _ _ ih=>simp [ih]
theorem SoL.get {l m:List AV} (h:SoL l m):∀ (j:Nat) (y':AV),m[j]?=some y'→∃ y,l[j]?=some y∧So y y':=by
 induction h with
 | nil=>intro j y' hj;simp at hj
 | cons h k ih =>
  intro j y' hj
  cases j with
  | zero=>simp at hj;subst hj;exact ⟨_,rfl,h⟩
  | succ j=>simp at hj;simpa using ih j y' hj
theorem So.int (k:IntKind) (n:Int):So (.int k n) (.int k n):=fun _ _ _ _ c h=>by cases h;exact .int _ _
theorem So.bool (b:Bool):So (.bool b) (.bool b):=fun _ _ _ _ c h=>by cases h;exact .bool _
theorem So.str (b:ByteArray):So (.str b) (.str b):=fun _ _ _ _ c h=>by cases h;exact .str _
theorem So.junk (y:AV):So y .junk:=fun _ _ _ _ c _=>.junk c
def noA (n:Nat):AV:=.arr 0 n fun _=>.agg []
theorem So.arr (e n:Nat) (f:Nat→AV):So (.arr e n f) (noA n):=fun _ _ _ _ c h=>by
 cases h with
 | arr e n f A c g hc hA hl ho hr hg =>
  exact .arr _ _ _ A c (fun _ _=>undef) hc hA (fun i hi=>rfl) (fun i hi=>rfl) (fun a ha i j hi hj=>absurd hj (by omega)) (fun i j y hi hy=>by simp [cellsOf] at hy)
theorem So.agg {l m:List AV} (h:SoL l m):So (.agg l) (.agg m):=fun _ _ _ _ c hr=>by
 cases hr with
 | agg cs vs hl hg =>
  refine .agg _ _ (by rw [←h.len];exact hl) fun j y c hy hc=>?_
  obtain ⟨y0,h1,h2⟩:=h.get j y hy
  exact h2 _ _ _ _ _ (hg j y0 c h1 hc)
theorem So.tuple {l m:List AV} (h:SoL l m):So (.tuple l) (.tuple m):=fun _ _ _ _ c hr=>by
 cases hr with
 | tuple cs vs hl hg =>
  refine .tuple _ _ (by rw [←h.len];exact hl) fun j y c hy hc=>?_
  obtain ⟨y0,h1,h2⟩:=h.get j y hy
  exact h2 _ _ _ _ _ (hg j y0 c h1 hc)
theorem S.lends {P:Program} {f:FuncId} {args args':List AV} {st:St} {q q':AV→Prop} (h:S P f args' st0 fun v s=>q v∧s=st0) (hs:A7 args st args' st0)
  (hq:∀ v,q v→∃ v',q' v'∧So v v'):S P f args st fun v s=>q' v∧s=st :=
 S.lend h hs fun v c rd sz hv hr=>by
  obtain ⟨v',h1,h2⟩:=hq v hv
  exact ⟨v',h1,fun rd' sz'=>h2 _ _ _ _ _ hr⟩
theorem C7Z (st:St):F8 st0 st:=fun b x h=>by cases h
def Le (y y':AV):Prop:=∀ rd sz c,Rep rd sz y c→Rep rd sz y' c
inductive T3:List AV→List AV→Prop
 | nil:T3 [] []
 | cons {a b:AV} {l m:List AV} (h:Le a b) (k:T3 l m):T3 (a::l) (b::m)
theorem Le.refl (y:AV):Le y y:=fun _ _ _ h=>h
theorem T3.refl:∀ l:List AV,T3 l l
 | []=>.nil
 | a::l=>.cons (Le.refl a) (T3.refl l)
theorem T3.len {l m:List AV} (h:T3 l m):l.length=m.length:=by
 induction h with
 | nil=>rfl
 | cons _ _ ih=>simp [ih]
theorem T3.get {l m:List AV} (h:T3 l m):∀ (j:Nat) (y':AV),m[j]?=some y'→∃ y,l[j]?=some y∧Le y y':=by
 induction h with
 | nil=>intro j y' hj;simp at hj
 | cons h k ih =>
  intro j y' hj
  cases j with
  | zero=>simp at hj;subst hj;exact ⟨_,rfl,h⟩
  | succ j=>simp at hj;simpa using ih j y' hj
theorem Le.emp (e:Nat) (f:Nat→AV):Le .emp (.arr e 0 f):=fun rd sz c h=>B4Y e f h
theorem Le.agg {l m:List AV} (h:T3 l m):Le (.agg l) (.agg m):=fun rd sz c hr=>by
 cases hr with
 | agg cs vs hl hg =>
  refine .agg _ _ (by rw [←h.len];exact hl) fun j y c hy hc=>?_
  obtain ⟨y0,h1,h2⟩:=h.get j y hy
  exact h2 _ _ _ (hg j y0 c h1 hc)
theorem Le.arr {e n:Nat} {f g:Nat→AV} (h:∀ i,i<n→T3 (cellsOf (f i)) (cellsOf (g i))∧(cellsOf (g i)).all AV.one=true):Le (.arr e n f) (.arr e n g):=fun rd sz c hr=>by
 cases hr with
 | arr e n f A c g' hc hA hl ho hrd hg =>
  refine .arr _ _ _ A c g' hc hA (fun i hi=>by rw [←(h i hi).1.len];exact hl i hi) (fun i hi=>(h i hi).2) hrd fun i j y hi hy=>?_
  obtain ⟨y0,h1,h2⟩:=(h i hi).1.get j y hy
  exact h2 _ _ _ (hg i j y0 hi h1)
theorem Le.arr1 {e:Nat} {f g:Nat→AV} (h:T3 (cellsOf (f 0)) (cellsOf (g 0))) (h1:(cellsOf (g 0)).all AV.one=true):Le (.arr e 1 f) (.arr e 1 g):=Le.arr fun i hi=>by
 obtain rfl:i=0:=by omega
 exact ⟨h,h1⟩
theorem Le.shift {v v':AV} (h:Le v v') (st:St):A7 [v] st [v'] st:=A7.one fun w c hS hr=>⟨hS,Evo.refl _ _,h _ _ _ hr⟩
end Go.Ab
namespace Go.Proofs.YtaapofnkmpiknaaGreat
open Go Go.Ab
def A9z (t:Tax) (rate:Int):Int:=10000+(if t.incl=true then rate else 0)
def O3 (t:Tax) (x rate:Int):Int:=(V7 x rate (A9z t rate) t.round).1
theorem C2y {q r den round x:Int} (h:q * den+r≤x * den) (h0:0≤r) (h1:r<den):q≤x∧T8 q r den round≤x:=by
 have hq:q≤x:=by
  rcases Int.lt_or_le x q with e | e
  ·have:(x+1) * den≤q * den:=D9b (by omega) (by omega)
   rw [D9H,Int.one_mul] at this;omega
  ·exact e
 refine ⟨hq,?_⟩
 by_cases e:q=x
 ·subst e
  have hr:r=0:=by omega
  subst hr
  unfold T8
  split
  ·omega
  ·split
   ·split<;>omega
   ·split
    ·rename_i h2;omega
    ·omega
 ·unfold T8
  split
  ·omega
  ·split<;>split<;>omega
theorem C2x {q r den round:Int} (h:0≤q):0≤T8 q r den round:=by
 unfold T8
 split
 ·omega
 ·split<;>split<;>omega
theorem B7W {x num den round:Int} (hx:0≤x) (hn:0≤num) (hd:num≤den) (h0:0<den):0≤(V7 x num den round).1∧(V7 x num den round).1≤x:=by
 have h1:0≤x * num:=D8H hx hn
 have h2:x * num≤x * den:=D7W hd hx
 have e1:=D8j (x * num) den
 have e2:=D8F (x * num) (show den≠0 by omega)
 have e3:=D8t (x * num) h0
 have e4:0≤x * num / den:=D8R h1 (by omega)
 have h3:=C2y (q:=x * num / den) (r:=x * num % den) (den:=den) (round:=round) (x:=x) (by rw [D9q (x * num / den) den];omega) e2 e3
 have h4:=C2x (q:=x * num / den) (r:=x * num % den) (den:=den) (round:=round) e4
 unfold V7
 split
 ·exact ⟨D7L _,hx⟩
 ·split
  ·exact ⟨D7L _,hx⟩
  ·split
   ·exact ⟨D7L _,hx⟩
   ·exact ⟨h4,h3.2⟩
theorem A3n {t:Tax} {x rate:Int} (hx:0≤x) (hr:0≤rate∧rate≤10000):0≤O3 t x rate∧O3 t x rate≤x:=by
 refine B7W hx hr.1 ?_ ?_
 ·unfold A9z;split<;>omega
 ·unfold A9z;split<;>omega
def Z3 (l:List K9) (s:C8):Option K9:=l.find? fun z=>z.name.toList==s.toList
def F5 (z:K9) (c:C8):Int:=match z.rates.find? (fun x=>x.cat.toList==c.toList) with
 | some x=>x.rate
 | none=>z.rest
theorem A4U {z:K9} (h:Z8 z=true):(0≤z.rest∧z.rest≤10000)∧(0≤z.ship∧z.ship≤10000)∧z.rates.length≤40∧∀ x∈z.rates,0≤x.rate∧x.rate≤10000:=by
 unfold Z8 at h
 simp only [D7f,D7v,D8n,D7e,D7J] at h
 obtain ⟨⟨⟨⟨h1,h2⟩,h3⟩,h4⟩,h5,h6⟩:=h
 refine ⟨D3.1 h2,D3.1 h3,by omega,fun x hx=>?_⟩
 obtain ⟨k,hk,rfl⟩:=D2 hx
 have:=A4y.1 h5 k hk
 unfold A4L at this
 simp only [D7v,D8n,D7J] at this
 exact D3.1 this.2
theorem B7v {z:K9} (h:Z8 z=true) (c:C8):0≤F5 z c∧F5 z c≤10000:=by
 obtain ⟨h1,h2,h3,h4⟩:=A4U h
 unfold F5
 split
 ·rename_i x hx;exact h4 x (D9A hx)
 ·exact h1
def Y6 (t:Tax) (rates nets:List Int):List Int:=(List.range nets.length).map fun i=>O3 t (gI nets i) (gI rates i)
def A8I (rates:List Int) (i:Nat):List Nat:=(List.range rates.length).filter fun k=>gI rates k==gI rates i
def J1 (rates nets:List Int) (i:Nat):List Int:=(A8I rates i).map (gI nets)
def A0R (rates:List Int) (i:Nat):Nat:=((List.range i).filter fun k=>gI rates k==gI rates i).length
def A2e (t:Tax) (rates nets:List Int) (i:Nat):Int:=gI (D1 (O3 t (A2 (J1 rates nets i)) (gI rates i)) (J1 rates nets i)) (A0R rates i)
def H6 (t:Tax) (rates nets:List Int):List Int:=(List.range nets.length).map (A2e t rates nets)
def L2 (t:Tax) (rates nets:List Int):List Int:=if t.byOrder=true then H6 t rates nets else Y6 t rates nets
structure A4Y (nets:List Int):Prop where
 len:nets.length≤1000
 pos:∀ x∈nets,0≤x
 sum:A2 nets≤10000000000000
theorem B2X {a b:List Int} (hs:a.Sublist b) (hb:∀ x∈b,0≤x):A2 a≤A2 b:=by
 induction hs with
 | slnil=>exact D7L _
 | cons x _ ih =>
  have h1:=ih fun u hu=>hb u (D7E _ hu)
  have h2:=hb x (D7G ..)
  rw [L5];omega
 | cons_cons x _ ih =>
  have h1:=ih fun u hu=>hb u (D7E _ hu)
  rw [L5,L5];omega
theorem A6C (l:List Int):(List.range l.length).map (gI l)=l:=by
 refine D9K (by rw [D7i,D7F]) fun i h1 h2=>?_
 rw [List.getElem_map,List.getElem_range];unfold gI;rw [D7c,D7k h2];rfl
theorem A6r {rates nets:List Int} (hn:A4Y nets) (hr:rates.length=nets.length) (i:Nat):(J1 rates nets i).length≤1000∧(∀ x∈J1 rates nets i,0≤x)∧0≤A2 (J1 rates nets i)∧A2 (J1 rates nets i)≤10000000000000:=by
 have hsub:(J1 rates nets i).Sublist nets:=by
  have h1:(J1 rates nets i).Sublist ((List.range nets.length).map (gI nets)):=by
   unfold J1 A8I
   rw [hr]
   exact D9f.map _
  rw [A6C] at h1;exact h1
 have hp:∀ x∈J1 rates nets i,0≤x:=fun x hx=>hn.pos x (hsub.subset hx)
 have h2:=hsub.length_le
 have h3:=hn.len
 have h4:=B2X hsub hn.pos
 have h5:=hn.sum
 exact ⟨by omega,hp,C1 hp,by omega⟩
theorem A3m {t:Tax} {rates nets:List Int} (hn:A4Y nets) (hr:rates.length=nets.length) {i:Nat} (hq:0≤gI rates i∧gI rates i≤10000):S3 (O3 t (A2 (J1 rates nets i)) (gI rates i)) (J1 rates nets i):=by
 obtain ⟨h1,h2,h3,h4⟩:=A6r hn hr i
 have hm:=A3n (t:=t) h3 hq
 exact ⟨hm.1,by omega,by omega,h2,by omega,fun e=>by rw [e] at hm;rw [e];omega⟩
theorem C2r {n i:Nat} (hi:i<n):List.range n=List.range i++(i::(List.range (n - i - 1)).map (fun k=>i+1+k)):=by
 have h1:n=i+(1+(n - i - 1)):=by omega
 conv=>lhs;rw [h1]
 rw [List.range_add,show 1+(n - i - 1)=(n - i - 1)+1 by omega,List.range_succ_eq_map]
 simp only [D8k,D9B,D9v]
 congr 2
 refine D8x fun k _=>?_
 show i+(k+1)=i+1+k
 omega
theorem A8J {rates:List Int} {i:Nat} (hi:i<rates.length):(A8I rates i)[A0R rates i]?=some i:=by
 unfold A0R A8I
 rw [C2r hi,D8Z,D7A (D7l _),Nat.sub_self,D8f (by simp)];rfl
theorem B1X {rates:List Int} {i:Nat} (hi:i<rates.length):A0R rates i<(A8I rates i).length:=by
 exact (D7w.1 (A8J hi)).1
theorem B6Y {t:Tax} {rates nets:List Int} (hn:A4Y nets) (hr:rates.length=nets.length) (hq:∀ x∈rates,0≤x∧x≤10000) {i:Nat} (hi:i<nets.length):0≤A2e t rates nets i∧A2e t rates nets i≤10000000000000:=by
 have hqi:=hq (gI rates i) (A5 (by omega))
 have hw:=A3m (t:=t) hn hr hqi
 obtain ⟨h1,h2,h3,h4⟩:=A6r hn hr i
 have hm:=A3n (t:=t) h3 hqi
 have hp:=B1X (rates:=rates) (i:=i) (by omega)
 have hml:(J1 rates nets i).length=(A8I rates i).length:=D7i ..
 obtain ⟨l1,l2,l3⟩:=U3 hw
 have hle:=A3F hw hm.2 (k:=A0R rates i) (by omega)
 have hg:gI (D1 (O3 t (A2 (J1 rates nets i)) (gI rates i)) (J1 rates nets i)) (A0R rates i)∈D1 (O3 t (A2 (J1 rates nets i)) (gI rates i)) (J1 rates nets i):=A5 (by omega)
 have h0:=l3 _ hg
 have hmem:gI (J1 rates nets i) (A0R rates i)∈J1 rates nets i:=A5 (by omega)
 have h6:=J7 h2 hmem
 unfold A2e
 omega
theorem A6L {t:Tax} {rates nets:List Int} (hn:A4Y nets) (hr:rates.length=nets.length) (hq:∀ x∈rates,0≤x∧x≤10000):(L2 t rates nets).length=nets.length∧∀ x∈L2 t rates nets,0≤x∧x≤10000000000000:=by
 unfold L2
 split
 ·refine ⟨by unfold H6;rw [D7i,D7F],fun x hx=>?_⟩
  obtain ⟨i,hi,rfl⟩:=D7y.1 hx
  exact B6Y hn hr hq (D7t.1 hi)
 ·refine ⟨by unfold Y6;rw [D7i,D7F],fun x hx=>?_⟩
  obtain ⟨i,hi,rfl⟩:=D7y.1 hx
  have hi:=D7t.1 hi
  have h1:=hn.pos _ (show gI nets i∈nets from A5 hi)
  have h2:=A3n (t:=t) h1 (hq (gI rates i) (A5 (by omega)))
  have h3:=J7 hn.pos (show gI nets i∈nets from A5 hi)
  have h4:=hn.sum
  omega
theorem B6X {t:Tax} {rates nets:List Int} (hn:A4Y nets) (hr:rates.length=nets.length) (hq:∀ x∈rates,0≤x∧x≤10000) {i:Nat} (hi:i<nets.length):A2e t rates nets i≤gI nets i:=by
 have hqi:=hq (gI rates i) (A5 (by omega))
 have hw:=A3m (t:=t) hn hr hqi
 obtain ⟨h1,h2,h3,h4⟩:=A6r hn hr i
 have hm:=A3n (t:=t) h3 hqi
 have hp:=B1X (rates:=rates) (i:=i) (by omega)
 have hml:(J1 rates nets i).length=(A8I rates i).length:=D7i ..
 have hle:=A3F hw hm.2 (k:=A0R rates i) (by omega)
 have e:gI (J1 rates nets i) (A0R rates i)=gI nets i:=by
  unfold J1 gI
  rw [D7c,D8a,A8J (by omega)];rfl
 rw [e] at hle
 exact hle
theorem B7V {t:Tax} {rates nets:List Int} (hn:A4Y nets) (hr:rates.length=nets.length) (hq:∀ x∈rates,0≤x∧x≤10000) {i:Nat} (hi:i<nets.length):gI (L2 t rates nets) i≤gI nets i:=by
 unfold L2
 split
 ·have e:gI (H6 t rates nets) i=A2e t rates nets i:=by unfold H6 gI;rw [D7c,D8a,D8C hi];rfl
  rw [e];exact B6X hn hr hq hi
 ·have e:gI (Y6 t rates nets) i=O3 t (gI nets i) (gI rates i):=by unfold Y6 gI;rw [D7c,D8a,D8C hi];rfl
  rw [e]
  exact (A3n (hn.pos _ (show gI nets i∈nets from A5 hi)) (hq (gI rates i) (A5 (by omega)))).2
theorem A6J (f g:Nat→Int):∀ n,(∀ i,i<n→f i≤g i)→A2 ((List.range n).map f)≤A2 ((List.range n).map g)
 | 0,_=>D7L _
 | n+1,h=>by
  rw [N0,N0]
  have h1:=A6J f g n fun i hi=>h i (by omega)
  have h2:=h n (by omega)
  omega
structure B8i where
 goods:List Int
 taxes:List Int
 ship:Int
 shipTax:Int
def A2V (t:Tax) (taxes nets:List Int):List Int:=(List.range nets.length).map fun i=>if t.incl=true then gI nets i - gI taxes i else gI nets i
def M8 (t:Tax) (z:K9) (exempt:Bool) (cats:List C8) (nets:List Int) (ship:Int):B8i :=
 ⟨A2V t (L2 t (cats.map (F5 z)) nets) nets,if exempt=true then List.replicate nets.length 0 else L2 t (cats.map (F5 z)) nets,
 if t.incl=true then ship - O3 t ship z.ship else ship,if exempt=true then 0 else O3 t ship z.ship⟩
structure O5 where
 goods:List Int
 taxes:List Int
 ship:Int
 shipTax:Int
 total:Int
 deals:List A2o
end Go.Proofs.YtaapofnkmpiknaaGreat
namespace Go.Proofs.YtaapofnkmpiknaaGreat
open Go Go.Ab
attribute [local irreducible] upd del
def A6n (l:List Int) (out:List Int) (i:Nat):List Int:=if (out.any fun y=>y==1+B5 (gI l i) 5)=true then out else out++[1+B5 (gI l i) 5]
def R7 (l:List Int) (n:Nat):List Int:=(List.range n).foldl (A6n l) []
theorem A6o (l:List Int) (n:Nat):R7 l (n+1)=A6n l (R7 l n) n:=by unfold R7;rw [D8G,D9g];rfl
theorem B1S (l:List Int) (n:Nat):(R7 l n).length≤n:=by
 induction n with
 | zero=>exact D7l _
 | succ n ih =>
  rw [A6o];unfold A6n
  split
  ·omega
  ·rw [D7p];show _+1≤_;omega
def O8 (l:List Int):List Int:=R7 l (min l.length 6)
theorem B3v (l:List Int) (k:Int) (j:Nat) (hj:j<l.length):((l.take (j+1)).any fun y=>y==k)=((l.take j).any (fun y=>y==k)||(gI l j==k)):=by
 rw [L6 hj,List.any_append];simp
theorem B0v (l:List Int) (st:St):S P 103 [A9 l] st fun v st'=>v=A9 (O8 l)∧st'=st:=by
 refine A0y (ty:=3) ?_
 refine F7 [] Tryz.func103 ?_
 refine lp (min l.length 6) [0,3,4] (fun i vs s=>∃ sv,vs=[A9 l,sv,eI i]∧E8 3 1 eI (R7 l i) st sv s) ?_ ?_
 ·conv=>whnf
  exact ⟨.emp,rfl,E8.start _ _ _ _⟩
 ·rintro i vs s hi ⟨sv,rfl,hc⟩
  have hlen:=B1S l i
  have hfin:i=min l.length 6→E8 3 1 eI (O8 l) st sv s:=fun e=>by unfold O8;rw [←e];exact hc
  conv=>whnf
  refine B7 (fun h1=>?_) (fun h1=>?_)<;>rw [h1]<;>simp only [D7d,D7e] at h1
  ·conv=>whnf
   refine B7 (fun h2=>?_) (fun h2=>?_)<;>rw [h2]<;>simp only [D7d,D7e] at h2
   ·have hi':i<min l.length 6:=by omega
    have hK:=A6o l i
    unfold A6n at hK
    have hm:=C7 (gI l (i:Int).toNat) (n:=5) (by decide)
    have hw:IntKind.i64.wrap (1+B5 (gI l (i:Int).toNat) 5)=1+B5 (gI l i) 5:=A4 (by omega) (by omega)
    conv=>whnf
    refine E9 ?_
    refine I3 (A1l _ 5 (by decide) (by decide) _) ?_
    rw [hw]
    generalize hkk:1+B5 (gI l i) 5=k at hK
    have hcases:(sv=.emp∧R7 l i=[])∨∃ b g,sv=.own 1 b 0 (R7 l i).length∧s b=some ⟨3,1,(R7 l i).length,g⟩∧∀ j,j<(R7 l i).length→g j=eI (gI (R7 l i) j):=by
     rcases hc with ⟨h0,h3,_⟩ | ⟨_,b,g,_,h3,h4,h5⟩
     ·exact .inl ⟨h3,D7O h0⟩
     ·exact .inr ⟨b,g,h3,by rw [h4];exact A0 ..,h5⟩
    refine lp (R7 l i).length [0,3,4,5,6,7] (fun j vs t=>vs=[A9 l,sv,eI i,eI k,eB (((R7 l i).take j).any fun y=>y==k),eI j]∧t=s) ?_ ?_
    ·conv=>whnf
     exact ⟨rfl,rfl⟩
    ·rintro j vs t hj ⟨rfl,rfl⟩
     rcases hcases with ⟨rfl,hnil⟩ | ⟨b,g,rfl,hb,hg⟩
     ·have hj0:j=0:=by rw [hnil] at hj;exact Nat.le_zero.1 hj
      subst hj0
      have hK2:R7 l (i+1)=R7 l i++[k]:=by rw [hK,if_neg (by rw [hnil];simp)]
      conv=>whnf
      refine E8.app (q:=r3) rfl rfl rfl rfl rfl (by rfl) (by show ((R7 l i).length+1) * 8≤140737488355328;omega) hc (fun sv' t' hc'=>?_);conv=>whnf
      refine G3 ?_
      exact nx hi' ⟨sv',by rw [B4 (by omega)],by rw [hK2];exact hc'⟩
     ·conv=>whnf
      cases h3:decide ((j:Int)<((R7 l i).length:Int))
      ·obtain rfl:=B9 h3 hj
       conv=>whnf
       rw [D7m]
       cases h4:(R7 l i).any fun y=>y==k
       ·rw [if_neg (by rw [h4];simp)] at hK;conv=>whnf
        refine E8.app (q:=r3) rfl rfl rfl rfl rfl (by rfl) (by show ((R7 l i).length+1) * 8≤140737488355328;omega) hc (fun sv' t' hc'=>?_);conv=>whnf
        refine G3 ?_
        exact nx hi' ⟨sv',by rw [B4 (by omega)],by rw [hK];exact hc'⟩
       ·rw [if_pos h4] at hK;conv=>whnf
        refine G3 ?_
        exact nx hi' ⟨_,by rw [B4 (by omega)],by rw [hK];exact hc⟩
      ·have hj':=D6 h3
       have hsucc:=B3v (R7 l i) k j hj'
       conv=>whnf
       cases h4:((R7 l i).take j).any fun y=>y==k
       ·rw [h4,D7R] at hsucc;conv=>whnf
        refine E9 ?_
        refine ldV hb rfl (by omega) (v:=eI (gI (R7 l i) (j:Int).toNat)) (by rw [D7o];exact hg _ (by omega)) ?_;conv=>whnf
        refine G3 ?_
        refine nx hj' ⟨?_,rfl⟩
        rw [B4 (by omega),hsucc];rfl
       ·rw [h4,D7X] at hsucc;conv=>whnf
        refine G3 ?_
        refine nx hj' ⟨?_,rfl⟩
        rw [B4 (by omega),hsucc]
   ·conv=>whnf
    exact hfin (by omega)
  ·conv=>whnf
   exact hfin (by omega)
def B2s (x:A1g) (least:Int):A1g:=⟨least,B5 x.rate 4000,1+B5 x.amount 300⟩
def R4 (l:List A1g) (step:Int):Nat→List A1g×Int
 | 0=>([],0)
 | i+1=>((R4 l step i).1++[B2s (l.getD i default) ((R4 l step i).2+B5 (l.getD i default).least step)],(R4 l step i).2+B5 (l.getD i default).least step+1)
theorem A8h (l:List A1g) (step:Int) (i:Nat):(R4 l step i).1.length=i:=by
 induction i with
 | zero=>rfl
 | succ i ih=>show (_++[_]).length=_;rw [D7p,ih];rfl
theorem A9j (l:List A1g) {step:Int} (h:0<step) (i:Nat):0≤(R4 l step i).2∧(R4 l step i).2≤i * step:=by
 induction i with
 | zero=>exact ⟨D7L _,by show (0:Int)≤((0:Nat):Int) * step;rw [Int.natCast_zero,E0i];omega⟩
 | succ i ih =>
  have hm:=C7 (l.getD i default).least h
  show 0≤(R4 l step i).2+B5 (l.getD i default).least step+1∧(R4 l step i).2+B5 (l.getD i default).least step+1≤_
  rw [show ((i+1:Nat):Int) * step=i * step+step by rw [Int.natCast_add,D9H];simp]
  omega
def S7 (l:List A1g) (step:Int):List A1g:=if l.length=0 then [⟨Int.tdiv step 2,1000,0⟩] else (R4 l step (min l.length 3)).1
theorem B0w (l:List A1g) (step:Int) (h0:0<step) (h1:step≤5000) (st:St):S P 209 [A8 3 Z6 l,eI step] st fun v st'=>v=A8 3 Z6 (S7 l step)∧st'=st:=by
 refine A0y (ty:=300) ?_
 refine F7 [] Tryz.func209 ?_
 refine lp (min l.length 3) [0,1,5,6,7] (fun i vs s=>∃ sv,vs=[A8 3 Z6 l,eI step,sv,eI (R4 l step i).2,eI i]∧E8 300 3 Z6 (R4 l step i).1 st sv s) ?_ ?_
 ·conv=>whnf
  exact ⟨.emp,rfl,E8.start _ _ _ _⟩
 ·rintro i vs s hi ⟨sv,rfl,hc⟩
  have hlen:=A8h l step i
  have hle:=A9j l h0 i
  have hip:(i:Int) * step≤3 * 5000:=D9z (by omega) h1 (by omega) (by omega)
  have hsv:(i=0∧sv=.emp)∨(0<i∧∃ b,sv=.own 3 b 0 i):=by
   rcases hc with ⟨h2,h3,_⟩ | ⟨h2,b,_,_,h3,_⟩
   ·exact .inl ⟨by omega,h3⟩
   ·exact .inr ⟨by omega,b,by rw [h3,hlen]⟩
  have hw2:IntKind.i64.wrap (Int.tdiv step 2)=Int.tdiv step 2:=by
   rw [D8L (by omega)]
   exact A4 (by omega) (by omega)
  conv=>whnf
  refine B7 (fun h2=>?_) (fun h2=>?_)<;>rw [h2]<;>simp only [D7d,D7e] at h2
  case' refine_1 =>
   conv=>whnf
   refine B7 (fun h3=>?_) (fun h3=>?_)<;>rw [h3]<;>simp only [D7d,D7e] at h3
  case refine_1.refine_1 =>
   have hi':i<min l.length 3:=by omega
   have hm:=C7 (l.getD (i:Int).toNat default).least h0
   have hm2:=C7 (l.getD (i:Int).toNat default).amount (n:=300) (by decide)
   have e1:IntKind.i64.wrap ((R4 l step i).2+B5 (l.getD (i:Int).toNat default).least step)=(R4 l step i).2+B5 (l.getD (i:Int).toNat default).least step:=A4 (by omega) (by omega)
   have e2:IntKind.i64.wrap (1+B5 (l.getD (i:Int).toNat default).amount 300)=1+B5 (l.getD (i:Int).toNat default).amount 300:=A4 (by omega) (by omega)
   have e3:IntKind.i64.wrap ((R4 l step i).2+B5 (l.getD (i:Int).toNat default).least step+1)=(R4 l step i).2+B5 (l.getD (i:Int).toNat default).least step+1:=A4 (by omega) (by omega)
   conv=>whnf
   refine E9 ?_
   refine I3 (W6 _ step h0 (by omega) _) ?_
   rw [e1]
   refine ⟨[16,17],[],List.range 19,by kernel_rfl,?_⟩;conv=>whnf
   refine E9 ?_
   refine cqW (W6 _ 4000 (by decide) (by decide) _) ?_
   refine E9 ?_
   refine cqW (W6 _ 300 (by decide) (by decide) _) ?_
   rw [e2]
   refine E8.app (y:=B2s (l.getD (i:Int).toNat default) ((R4 l step i).2+B5 (l.getD (i:Int).toNat default).least step)) (q:=C7C) rfl rfl rfl rfl rfl (by rfl) (by show ((R4 l step i).1.length+1) * 24≤140737488355328;omega) hc (fun sv' t' hc'=>?_);conv=>whnf
   rw [e3]
   refine G3 ?_
   exact nx hi' ⟨sv',by rw [B4 (by omega)];rfl,hc'⟩
  all_goals
   have hie:i=min l.length 3:=by omega
   conv=>whnf
   rcases hsv with ⟨rfl,rfl⟩ | ⟨hp,b,rfl⟩
   ·have hl0:l.length=0:=by omega
    have hT:S7 l step=[⟨Int.tdiv step 2,1000,0⟩]:=by unfold S7;rw [if_pos hl0]
    rw [hT];conv=>whnf
    refine E8.app (y:=⟨Int.tdiv step 2,1000,0⟩) (q:=C7C) rfl rfl rfl rfl rfl (by show AV.agg [eI (IntKind.i64.wrap (Int.tdiv step 2)),eI 1000,eI 0]=_;rw [hw2];rfl) (by show (0+1) * 24≤140737488355328;omega) hc (fun sv' t' hc'=>?_);conv=>whnf
    exact hc'
   ·have hT:S7 l step=(R4 l step i).1:=by unfold S7;rw [if_neg (by omega),hie]
    rw [hT];conv=>whnf
    rw [show ((i:Int)==0)=false by rw [D7P];omega];conv=>whnf
    exact hc
theorem B7L (l:List C8) (most:Nat) (kinds:Int) (name:Int→C8) (k:Nat):∃ ks:List Nat,T9 l most kinds name k=ks.map (fun x:Nat=>name x)∧ks.Pairwise (·<·)∧(∀ x∈ks,x<k)∧ks.length≤most:=by
 induction k with
 | zero=>exact ⟨[],rfl,.nil,⟨fun x hx=>absurd hx D8D,D7C _⟩⟩
 | succ k ih =>
  obtain ⟨ks,h1,h2,h3,h4⟩:=ih
  rw [A6H];unfold A6G
  split
  ·rename_i hc
   rw [D7f,D7d,h1,D7i] at hc
   refine ⟨ks++[k],by rw [h1,D7M];rfl,List.pairwise_append.2 ⟨h2,List.pairwise_singleton _ _,fun a ha b hb=>by rw [D7I] at hb;subst hb;exact h3 a ha⟩,fun x hx=>?_,by rw [D7p];show ks.length+1≤most;omega⟩
   rcases D8s.1 hx with h | h
   ·have:=h3 x h;omega
   ·rw [D7I] at h;omega
  ·exact ⟨ks,h1,h2,fun x hx=>by have:=h3 x hx;omega,h4⟩
theorem A7U {l:List C8} {most:Nat} {kinds:Int} {name:Int→C8} {k:Nat} (hn:∀ x:Nat,x<k→C6 (name x)=true) (hr:∀ x y:Nat,x<y→y<k→slt (name x) (name y)=true):A1e (T9 l most kinds name k)=true∧(T9 l most kinds name k).length≤most∧∀ s∈T9 l most kinds name k,s.size≤12:=by
 obtain ⟨ks,h1,h2,h3,h4⟩:=B7L l most kinds name k
 rw [h1]
 have hall:∀ s∈ks.map (fun x:Nat=>name x),C6 s=true:=fun s hs=>by
  obtain ⟨x,hx,rfl⟩:=D7y.1 hs;exact hn x (h3 x hx)
 refine ⟨?_,by rw [D7i];exact h4,fun s hs=>?_⟩
 ·unfold A1e
  rw [D7f,D7v,D8q]
  refine ⟨?_,fun s hs=>by rw [hall s hs];simp⟩
  unfold A0H
  rw [D7s]
  intro j hj
  have hj:=D7t.1 hj
  rw [D7i] at hj
  unfold P7
  rw [D8g,D7Z]
  by_cases e:j=0
  ·exact .inl e
  ·refine .inr ?_
   have g:∀ i,i<ks.length→(ks.map (fun x:Nat=>name x)).getD i default=name (ks.getD i 0:Nat):=fun i hi=>by
    rw [D7c,D8a,D7k hi,D7c,D7k hi];rfl
   rw [g _ (by omega),g _ hj]
   have gm:∀ i,i<ks.length→ks.getD i 0=ks[i]!:=fun i hi=>by rw [D7c,D7k hi,getElem!_pos ks i hi];rfl
   refine hr _ _ ?_ (h3 _ ?_)
   ·rw [gm _ (by omega),gm _ hj,getElem!_pos ks _ (by omega),getElem!_pos ks _ hj]
    exact D8I.1 h2 _ _ (by omega) hj (by omega)
   ·rw [gm _ hj,getElem!_pos ks _ hj];exact D8y _
 ·have:=hall s hs
  unfold C6 at this
  simp only [D7f,D7d] at this
  exact this.1.2
theorem C2F:((List.range 8).all fun x=>C6 (A1o (x:Nat)))=true:=by kernel_rfl
theorem C5A:((List.range 8).all fun y=>(List.range y).all fun x=>slt (A1o (x:Nat)) (A1o (y:Nat)))=true:=by kernel_rfl
theorem C1m:((List.range 3).all fun x=>C6 (A5U (x:Nat)))=true:=by kernel_rfl
theorem C3M:((List.range 3).all fun y=>(List.range y).all fun x=>slt (A5U (x:Nat)) (A5U (y:Nat)))=true:=by kernel_rfl
theorem B8s:((List.range 3).all fun x=>C6 (A5K (x:Nat)))=true:=by kernel_rfl
theorem C1s:((List.range 3).all fun y=>(List.range y).all fun x=>slt (A5K (x:Nat)) (A5K (y:Nat)))=true:=by kernel_rfl
theorem B5B {name:Int→C8} {k:Nat} (h:((List.range k).all fun y=>(List.range y).all fun x=>slt (name (x:Nat)) (name (y:Nat)))=true) (x y:Nat) (hxy:x<y) (hy:y<k):slt (name x) (name y)=true :=
 D7s.1 (D7s.1 h y (D7t.2 hy)) x (D7t.2 hxy)
theorem B5j {name:Int→C8} {k:Nat} (h:((List.range k).all fun x=>C6 (name (x:Nat)))=true) (x:Nat) (hx:x<k):C6 (name x)=true:=D7s.1 h x (D7t.2 hx)
theorem A3o (s:Z4):A0I (Y8 s)=true∧A2A (Y8 s):=by
 obtain ⟨a1,a2,a3⟩:=A7U (l:=s.skus) (most:=3) (kinds:=8) (name:=A1o) (k:=8) (B5j C2F) (B5B C5A)
 obtain ⟨b1,b2,b3⟩:=A7U (l:=s.cats) (most:=2) (kinds:=3) (name:=A5U) (k:=3) (B5j C1m) (B5B C3M)
 unfold Y8
 generalize T9 s.skus 3 8 A1o 8=A at a1 a2 a3 ⊢
 generalize T9 s.cats 2 3 A5U 3=B at b1 b2 b3 ⊢
 refine ⟨?_,?_⟩
 ·unfold A0I
  rw [a1,b1,D7D (show A.length≤20 by omega),D7D (show B.length≤20 by omega)];rfl
 ·exact ⟨by show A.length≤_;omega,by show B.length≤_;omega,fun x hx=>by have:=a3 x hx;show x.size≤_;omega,fun x hx=>by have:=b3 x hx;show x.size≤_;omega⟩
theorem B5s (l:List C8):R6 (H3 l)=true∧(H3 l).length≤3∧∀ s∈H3 l,s.size≤12:=by
 obtain ⟨a1,a2,a3⟩:=A7U (l:=l) (most:=3) (kinds:=3) (name:=A5K) (k:=3) (B5j B8s) (B5B C1s)
 unfold H3
 generalize T9 l 3 3 A5K 3=A at a1 a2 a3 ⊢
 refine ⟨?_,a2,a3⟩
 unfold A1e at a1
 rw [D7f] at a1
 unfold R6
 rw [a1.1,a1.2,D7D (by omega)];rfl
theorem D1a (n:Int):B5 n 8=0∨B5 n 8=1∨B5 n 8=2∨B5 n 8=3∨B5 n 8=4∨B5 n 8=5∨B5 n 8=6∨B5 n 8=7:=by
 have:=C7 n (n:=8) (by decide);omega
theorem C5y (k:Nat) (h:k<8):A1o k=A0h (97+k):=by
 unfold A1o B5;congr 2;omega
theorem B4w (l:List Ab.Item):(G7 l).map Ab.Item.sku=[A0h 97,A0h 98,A0h 99,A0h 100,A0h 101,A0h 102,A0h 103,A0h 104]:=by
 unfold G7
 rw [D9B]
 have e:∀ k,k<8→(Ab.Item.sku ∘ O7 l) k=A0h (97+(k:Int)):=fun k hk=>by
  rw [←C5y k hk]
  show (O7 l k).sku=_
  unfold O7;split<;>rfl
 have:(List.range 8).map (Ab.Item.sku ∘ O7 l)=(List.range 8).map fun k:Nat=>A0h (97+(k:Int)):=D8x fun k hk=>e k (D7t.1 hk)
 rw [this];rfl
theorem A2C (l:List Ab.Item):(G7 l).length=8:=by unfold G7;rw [D7i,D7F]
theorem C1K (items:List Ab.Item) (s:C8):known items s=(items.map Ab.Item.sku).any fun y=>y.toList==s.toList:=by
 unfold known Q7
 rw [A1U,List.any_map];rfl
theorem A7S (l:List Ab.Item) (n:Int):known (G7 l) (A1o n)=true:=by
 rw [C1K,B4w]
 unfold A1o
 rcases D1a n with h | h | h | h | h | h | h | h<;>rw [h]<;>kernel_rfl
theorem B7h (x:E6):(0≤(A6z x).qty∧(A6z x).qty≤9)∧0≤(A6z x).price∧(A6z x).price<4000:=by
 have h1:=C7 x.qty (n:=10) (by decide)
 have h2:=C7 x.price (n:=4000) (by decide)
 exact ⟨⟨h1.1,by show B5 x.qty 10≤9;omega⟩,h2.1,h2.2⟩
structure A1f (l:List E6):Prop where
 len:l.length≤8
 line:∀ x∈l,(0≤x.qty∧x.qty≤9)∧0≤x.price∧x.price<4000
 sku:∀ x∈l,∃ n,x.sku=A1o n
theorem B5t (l:List E6):A1f (A7g l):=by
 unfold A7g
 refine ⟨by rw [D7i,D7n];omega,fun x hx=>?_,fun x hx=>?_⟩
 ·obtain ⟨y,_,rfl⟩:=D7y.1 hx;exact B7h y
 ·obtain ⟨y,_,rfl⟩:=D7y.1 hx;exact ⟨A3f y.sku,rfl⟩
theorem A1f.lineC {l:List E6} (h:A1f l) {x:E6} (hx:x∈l):lineC x=true:=by
 have:=h.line x hx
 rw [A0Q];omega
theorem C0U {l:List E6} (h1:∀ x∈l,(0≤x.qty∧x.qty≤9)∧0≤x.price∧x.price<4000):(0≤N2 l∧N2 l≤9 * l.length)∧0≤K5 l∧K5 l≤36000 * l.length:=by
 have:∀ (l:List E6) (a b:Int),(∀ x∈l,(0≤x.qty∧x.qty≤9)∧0≤x.price∧x.price<4000)→(a≤l.foldl (fun s x=>s+x.qty) a∧l.foldl (fun s x=>s+x.qty) a≤a+9 * l.length)∧b≤l.foldl (fun s x=>s+x.qty * x.price) b∧l.foldl (fun s x=>s+x.qty * x.price) b≤b+36000 * l.length:=by
  intro l
  induction l with
  | nil=>intro a b _;simp
  | cons y l ih =>
   intro a b h
   have hy:=h y (D7G ..)
   have h0:0≤y.qty * y.price:=D8H hy.1.1 hy.2.1
   have h9:y.qty * y.price≤9 * 4000:=D9z hy.1.2 (by omega) hy.2.1 (by omega)
   have:=ih (a+y.qty) (b+y.qty * y.price) fun x hx=>h x (D7E _ hx)
   rw [D8o,D8o,D7N]
   omega
 have:=this l 0 0 h1
 unfold N2 K5;omega
theorem B8G {kn:C8→Bool} {l:List E6} (h:∀ x∈l,kn x.sku=true∧lineC x=true):l.find? (K2 kn)=none:=by
 rw [D9G]
 intro x hx
 unfold K2
 rw [(h x hx).1,(h x hx).2];simp
theorem A1f.check {l:List E6} (h:A1f l) {kn:C8→Bool} (hk:∀ n,kn (A1o n)=true):P5 kn l=0:=by
 unfold P5
 have hl:=h.len
 have hs:=C0U h.line
 rw [if_neg (by omega),B8G fun x hx=>⟨by obtain ⟨n,hn⟩:=h.sku x hx;rw [hn];exact hk n,h.lineC hx⟩]
 show (if _ then (5:Int) else 0)=0
 rw [if_neg]
 rw [D7j (by omega),D7j (by omega)];decide
def B8K (n:Int):C8:=(⟨#[103]⟩:C8)++A0h (48+B5 n 2)
def Q9 (k:Int):C8:=(⟨#[122]⟩:C8)++A0h (48+k)
def W8 (x:A2H):A2H:=⟨Y8 x.scope,1+B5 x.count 2⟩
def S6 (l:List A2H):List A2H:=if l.length=0 then [⟨⟨[],[]⟩,2⟩] else (l.take 3).map W8
def A3K (p:B1):Int:=1+B5 (IntKind.i64.wrap (p.kind - 1)) 7
def A0V (p:B1):C8:=if B5 (A3f p.group) 3=1 then B8K p.group.size else ⟨#[]⟩
def A2f (p:B1):C8:=if B5 (A3f p.code) 3=1 then A5K p.code.size else ⟨#[]⟩
def A1N (p:B1):Int:=if B5 p.least 3=1 then B5 p.least 9000 else 0
def X3 (p:B1) (id K:Int):B1 :=
 ⟨idN id,K,B5 p.prio 5,A0V p,A2f p,if K=7 then false else p.closes,if K=4∨K=7 then ⟨[],[]⟩ else Y8 p.scope,A1N p,
 if K=1∨K=3∨K=7 then 1+B5 p.rate 10000 else 0,if K=2 then 1+B5 p.amount 900 else if K=4 then B5 p.amount 3000 else 0,
 if K=3 then 1+B5 p.buy 3 else 0,if K=3 then 1+B5 p.get 2 else 0,if K=4 then S6 p.parts else [],if K=5 then S7 p.tiers 5000 else if K=6 then S7 p.tiers 5 else []⟩
def A3x (p:B1) (id:Int):B1:=X3 p id (A3K p)
def C1E (i:Nat):Int:=((i:Int) * 7+3) % 10
def Z7 (l:List B1) (i:Nat):B1:=A3x (l.getD i default) (C1E i)
def N9 (l:List B1):List B1:=(List.range (min l.length 6)).map (Z7 l)
def A8S (l:List H4) (c:Nat):H4:=⟨A5U c,B5 (l.getD c default).rate 3000⟩
def U4 (l:List H4):List H4:=(List.range (min 3 l.length)).map (A8S l)
def D7 (l:List K9) (k:Nat):K9 :=
 if k<l.length then ⟨Q9 k,U4 (l.getD k default).rates,B5 (l.getD k default).rest 3000,B5 (l.getD k default).ship 3000⟩ else ⟨Q9 k,[],1000 * k,500 * k⟩
def L9 (t:Tax):Tax:=⟨t.incl,t.byOrder,B5 t.round 3,(List.range 3).map (D7 t.zones)⟩
def B2r (s:Ab.Ship):Ab.Ship:=⟨B5 s.fee 900,B5 s.free 3 * 4000⟩
def A7X (p:A7I):A7I:=⟨20+B5 p.window 60,B5 p.grace 40,1+B5 p.mode 3,B5 p.restock 3 * B5 p.restock 2500,O8 p.order,O8 p.credit⟩
def F0 (r:E0):E0:=⟨G7 r.items,N9 r.promos,L9 r.tax,B2r r.ship,A7X r.policy⟩
theorem D1b (n:Int):B5 n 2=0∨B5 n 2=1:=by
 have:=C7 n (n:=2) (by decide);omega
theorem C8z (n:Int):B5 n 3=0∨B5 n 3=1∨B5 n 3=2:=by
 have:=C7 n (n:=3) (by decide);omega
theorem C9o (n:Int):B5 n 10=0∨B5 n 10=1∨B5 n 10=2∨B5 n 10=3∨B5 n 10=4∨B5 n 10=5∨B5 n 10=6∨B5 n 10=7∨B5 n 10=8∨B5 n 10=9:=by
 have:=C7 n (n:=10) (by decide);omega
theorem le3 {n:Nat} (h:n≤3):n=0∨n=1∨n=2∨n=3:=by omega
theorem lt3 {n:Nat} (h:n<3):n=0∨n=1∨n=2:=by omega
theorem U9 {s:C8} (h:C6 s=true):s.size≤12:=by
 unfold C6 at h
 simp only [D7f,D7d] at h
 exact h.1.2
theorem B0d (n:Int):C6 (A1o n)=true:=by
 unfold A1o
 rcases D1a n with h | h | h | h | h | h | h | h<;>rw [h]<;>kernel_rfl
theorem A6X (n:Int):C6 (A5U n)=true:=by
 unfold A5U
 rcases C8z n with h | h | h<;>rw [h]<;>kernel_rfl
theorem B1E (n:Int):C6 (A5K n)=true:=by
 unfold A5K
 rcases C8z n with h | h | h<;>rw [h]<;>kernel_rfl
theorem B0s (n:Int):C6 (B8K n)=true:=by
 unfold B8K
 rcases D1b n with h | h<;>rw [h]<;>kernel_rfl
theorem B6F (n:Int):C6 (idN n)=true:=by
 unfold idN
 rcases C9o n with h | h | h | h | h | h | h | h | h | h<;>rw [h]<;>kernel_rfl
theorem B4i:A2Y ⟨#[]⟩=true:=by kernel_rfl
theorem B6S {s:C8} (h:C6 s=true):A2Y s=true:=by unfold A2Y;rw [h,D7U]
theorem B0t (p:B1):A2Y (A0V p)=true∧(A0V p).size≤12:=by
 unfold A0V;split
 ·exact ⟨B6S (B0s _),U9 (B0s _)⟩
 ·exact ⟨B4i,by decide⟩
theorem B1F (p:B1):A2Y (A2f p)=true∧(A2f p).size≤12:=by
 unfold A2f;split
 ·exact ⟨B6S (B1E _),U9 (B1E _)⟩
 ·exact ⟨B4i,by decide⟩
theorem C4r (p:B1):0≤A1N p∧A1N p<9000:=by
 have:=C7 p.least (n:=9000) (by decide)
 unfold A1N;split<;>omega
theorem A6j:A0I ⟨[],[]⟩=true∧A2A ⟨[],[]⟩:=⟨by kernel_rfl,⟨by decide,by decide,fun x hx=>(by cases hx),fun x hx=>(by cases hx)⟩⟩
theorem A5y (l:List A2H):(1≤(S6 l).length∧(S6 l).length≤3)∧∀ x∈S6 l,A1m x=true∧A2A x.scope:=by
 unfold S6
 split
 ·refine ⟨⟨D7l _,by show 1≤3;decide⟩,fun x hx=>?_⟩
  rw [D7I.1 hx]
  exact ⟨by kernel_rfl,A6j.2⟩
 ·rename_i h
  refine ⟨by rw [D7i,D7n];omega,fun x hx=>?_⟩
  obtain ⟨y,_,rfl⟩:=D7y.1 hx
  obtain ⟨h1,h2⟩:=A3o y.scope
  have:=C7 y.count (n:=2) (by decide)
  refine ⟨?_,h2⟩
  unfold A1m
  rw [show (W8 y).scope=Y8 y.scope from rfl,h1,show (W8 y).count=1+B5 y.count 2 from rfl,D7j (by omega),D7j (by omega)];rfl
theorem B3c (l:List A1g) (step:Int) (i k:Nat) (hk:k<i):(R4 l step i).1.getD k default=B2s (l.getD k default) ((R4 l step k).2+B5 (l.getD k default).least step):=by
 induction i with
 | zero=>omega
 | succ i ih =>
  have hl:=A8h l step i
  show ((R4 l step i).1++[_]).getD k default=_
  by_cases e:k=i
  ·subst e
   rw [D7c,D7A (by omega),hl,Nat.sub_self];rfl
  ·rw [D7c,D7B (by omega),←D7c]
   exact ih (by omega)
theorem A3p (l:List A1g) (step:Int) (h:step=5000∨step=5):A0r (S7 l step)=true∧(S7 l step).length≤3:=by
 unfold S7
 split
 ·rcases h with rfl | rfl
  ·exact ⟨by kernel_rfl,by show 1≤3;decide⟩
  ·exact ⟨by kernel_rfl,by show 1≤3;decide⟩
 ·rename_i h0
  have hs:0<step∧step≤5000:=by omega
  have hl:=A8h l step (min l.length 3)
  refine ⟨?_,by omega⟩
  unfold A0r
  rw [hl,D7j (by omega),D7j (by omega)]
  show M0 _ _=true
  refine L3 fun k hk=>?_
  rw [hl] at hk
  have hg:=B3c l step (min l.length 3) k hk
  have hm:=C7 (l.getD k default).least hs.1
  have hr:=C7 (l.getD k default).rate (n:=4000) (by decide)
  have ha:=C7 (l.getD k default).amount (n:=300) (by decide)
  have hlo:=A9j l hs.1 k
  have hip:(k:Int) * step≤3 * 5000:=D9z (by omega) hs.2 (by omega) (by omega)
  unfold A4q
  rw [hg]
  have hprev:(if k=0 then -1 else ((R4 l step (min l.length 3)).1.getD (k - 1) default).least)<(R4 l step k).2+B5 (l.getD k default).least step:=by
   by_cases e:k=0
   ·rw [if_pos e];omega
   ·rw [if_neg e,B3c l step (min l.length 3) (k - 1) (by omega)]
    obtain ⟨j,rfl⟩:∃ j,k=j+1:=⟨k - 1,by omega⟩
    rw [Nat.add_sub_cancel]
    show (R4 l step j).2+B5 (l.getD j default).least step<(R4 l step j).2+B5 (l.getD j default).least step+1+B5 (l.getD (j+1) default).least step
    omega
  show (!(decide ((R4 l step k).2+B5 (l.getD k default).least step≤_)||decide ((R4 l step k).2+B5 (l.getD k default).least step>10000000000000)||decide (B5 (l.getD k default).rate 4000<0)||decide (B5 (l.getD k default).rate 4000>10000)||decide (1+B5 (l.getD k default).amount 300<0)||decide (1+B5 (l.getD k default).amount 300>10000000000000)||(B5 (l.getD k default).rate 4000==0&&1+B5 (l.getD k default).amount 300==0)))=true
  rw [D7j (by omega),D7j (by omega),D7j (by omega),D7j (by omega),D7j (by omega),D7j (by omega),show (1+B5 (l.getD k default).amount 300==0)=false from by rw [D7P];omega,D7H];rfl
theorem C1J (l:List Int) (n:Nat):(∀ x∈R7 l n,1≤x∧x≤5)∧(R7 l n).Nodup:=by
 induction n with
 | zero=>exact ⟨fun x hx=>absurd hx D8D,List.nodup_nil⟩
 | succ n ih =>
  rw [A6o];unfold A6n
  split
  ·exact ih
  ·rename_i h
   have hm:=C7 (gI l n) (n:=5) (by decide)
   have hno:1+B5 (gI l n) 5∉R7 l n:=fun hx=>h (D8N.2 ⟨_,hx,D9m _⟩)
   refine ⟨fun x hx=>?_,List.nodup_append.2 ⟨ih.2,List.nodup_cons.2 ⟨D8D,List.nodup_nil⟩,fun a ha b hb=>?_⟩⟩
   ·rcases D8s.1 hx with h' | h'
    ·exact ih.1 x h'
    ·rw [D7I.1 h'];omega
   ·rw [D7I.1 hb];intro e;exact hno (e▸ha)
theorem B6K {l:List Int} (h1:∀ x∈l,1≤x∧x≤5) (h2:l.Nodup):A1B l=true:=by
 refine L3 fun k hk=>?_
 have hx:=h1 _ (A5 hk)
 unfold A2W
 rw [show J8 1 9 (l.getD k default)=true from D3.2 (by omega)]
 have:((l.take k).any fun y=>l.getD k default==y)=false:=by
  rw [D8q]
  intro y hy
  obtain ⟨j,hj,rfl⟩:=D9d hy
  rw [D7n] at hj
  rw [D7Z,D7c,D7k hk,Option.getD_some,List.getElem_take]
  intro e
  have:=(List.nodup_iff_pairwise_ne.1 h2)
  exact absurd e.symm (D8I.1 this j k (by omega) hk (by omega))
 rw [this];rfl
theorem A0W (l:List Int):A1B (O8 l)=true∧(O8 l).length≤6:=by
 have h:=C1J l (min l.length 6)
 have:=B1S l (min l.length 6)
 exact ⟨B6K h.1 h.2,by show (R7 l _).length≤6;omega⟩
theorem A2y (q:B1) (h1:1≤q.kind∧q.kind<8) (hh:A7x q=true) (hp:A9R q=true) (hk:A7y q=true):I0 q=true:=by
 unfold I0;rw [D7D (show q.kind≥1 from h1.1),D7D h1.2,hh,hp,hk];rfl
theorem A3J (q:B1) (h1:C6 q.id=true) (h2:0≤q.prio∧q.prio≤1000) (h3:A2Y q.group=true) (h4:A2Y q.code=true) (h5:A0I q.scope=true) (h6:0≤q.least∧q.least≤10000000000000):A7x q=true:=by
 unfold A7x;rw [h1,D3.2 h2,h3,h4,h5,D3.2 h6];rfl
theorem A6y (p:B1):1≤A3K p∧A3K p≤7:=by
 have:=C7 (IntKind.i64.wrap (p.kind - 1)) (n:=7) (by decide)
 unfold A3K;omega
theorem A9U (p:B1) (id K:Int) (hK:1≤K∧K≤7):I0 (X3 p id K)=true:=by
 have h1:=B6F id
 have h2:=C7 p.prio (n:=5) (by decide)
 have h3:=(B0t p).1
 have h4:=(B1F p).1
 have h5:=(A3o p.scope).1
 have h6:=C4r p
 have r:=C7 p.rate (n:=10000) (by decide)
 have a9:=C7 p.amount (n:=900) (by decide)
 have a3:=C7 p.amount (n:=3000) (by decide)
 have b3:=C7 p.buy (n:=3) (by decide)
 have g2:=C7 p.get (n:=2) (by decide)
 have hpt:=A5y p.parts
 have ht5:=(A3p p.tiers 5000 (.inl rfl)).1
 have ht6:=(A3p p.tiers 5 (.inr rfl)).1
 unfold X3
 generalize idN id=I at h1 ⊢
 generalize B5 p.prio 5=pr at h2 ⊢
 generalize A0V p=G at h3 ⊢
 generalize A2f p=C at h4 ⊢
 generalize Y8 p.scope=S at h5 ⊢
 generalize A1N p=L at h6 ⊢
 generalize B5 p.rate 10000=R at r ⊢
 generalize B5 p.amount 900=A at a9 ⊢
 generalize B5 p.amount 3000=A3 at a3 ⊢
 generalize B5 p.buy 3=B at b3 ⊢
 generalize B5 p.get 2=Gt at g2 ⊢
 generalize S6 p.parts=PT at hpt ⊢
 generalize S7 p.tiers 5000=T5 at ht5 ⊢
 generalize S7 p.tiers 5=T6 at ht6 ⊢
 generalize p.closes=cl
 rcases (by omega:K=1∨K=2∨K=3∨K=4∨K=5∨K=6∨K=7) with rfl | rfl | rfl | rfl | rfl | rfl | rfl
 ·exact A2y ⟨I,1,pr,G,C,cl,S,L,1+R,0,0,0,[],[]⟩ ⟨(by decide:(1:Int)≤1),(by decide:(1:Int)<8)⟩ (A3J _ h1 ⟨h2.1,by show pr≤1000;omega⟩ h3 h4 h5 ⟨h6.1,by show L≤_;omega⟩) rfl (show J8 1 10000 (1+R)=true from D3.2 (by omega))
 ·exact A2y ⟨I,2,pr,G,C,cl,S,L,0,1+A,0,0,[],[]⟩ ⟨(by decide:(1:Int)≤2),(by decide:(2:Int)<8)⟩ (A3J _ h1 ⟨h2.1,by show pr≤1000;omega⟩ h3 h4 h5 ⟨h6.1,by show L≤_;omega⟩) rfl (show J8 1 1000000000 (1+A)=true from D3.2 (by omega))
 ·refine A2y ⟨I,3,pr,G,C,cl,S,L,1+R,0,1+B,1+Gt,[],[]⟩ ⟨(by decide:(1:Int)≤3),(by decide:(3:Int)<8)⟩ (A3J _ h1 ⟨h2.1,by show pr≤1000;omega⟩ h3 h4 h5 ⟨h6.1,by show L≤_;omega⟩) rfl ?_
  show (J8 1 10000 (1+R)&&(J8 1 100 (1+B)&&J8 1 100 (1+Gt)))=true
  rw [D3.2 (show 1≤1+R∧1+R≤10000 by omega),D3.2 (show 1≤1+B∧1+B≤100 by omega),D3.2 (show 1≤1+Gt∧1+Gt≤100 by omega)];rfl
 ·refine A2y ⟨I,4,pr,G,C,cl,⟨[],[]⟩,L,0,A3,0,0,PT,[]⟩ ⟨(by decide:(1:Int)≤4),(by decide:(4:Int)<8)⟩ (A3J _ h1 ⟨h2.1,by show pr≤1000;omega⟩ h3 h4 A6j.1 ⟨h6.1,by show L≤_;omega⟩) rfl ?_
  show (!(decide ((PT.length:Int)<1)||decide ((PT.length:Int)>3)||decide (A3<0)||decide (A3>10000000000000))&&!(PT.any fun x=>!A1m x))=true
  rw [D7j (by omega),D7j (by omega),D7j (by omega),D7j (by omega),show (PT.any fun x=>!A1m x)=false from by
   rw [D8q];intro x hx;rw [(hpt.2 x hx).1];simp];rfl
 ·exact A2y ⟨I,5,pr,G,C,cl,S,L,0,0,0,0,[],T5⟩ ⟨(by decide:(1:Int)≤5),(by decide:(5:Int)<8)⟩ (A3J _ h1 ⟨h2.1,by show pr≤1000;omega⟩ h3 h4 h5 ⟨h6.1,by show L≤_;omega⟩) rfl ht5
 ·exact A2y ⟨I,6,pr,G,C,cl,S,L,0,0,0,0,[],T6⟩ ⟨(by decide:(1:Int)≤6),(by decide:(6:Int)<8)⟩ (A3J _ h1 ⟨h2.1,by show pr≤1000;omega⟩ h3 h4 h5 ⟨h6.1,by show L≤_;omega⟩) rfl ht6
 ·exact A2y ⟨I,7,pr,G,C,false,⟨[],[]⟩,L,1+R,0,0,0,[],[]⟩ ⟨(by decide:(1:Int)≤7),(by decide:(7:Int)<8)⟩ (A3J _ h1 ⟨h2.1,by show pr≤1000;omega⟩ h3 h4 A6j.1 ⟨h6.1,by show L≤_;omega⟩) rfl (show J8 1 10000 (1+R)=true from D3.2 (by omega))
theorem A2A.fit {s:Z4} (h:A2A s):A8o s:=⟨by have:=h.n1;show _≤9223372036854775807;omega,by have:=h.n2;show _≤9223372036854775807;omega⟩
theorem B2q (p:B1) (id K:Int):R5 (X3 p id K):=by
 have hs:=(A3o p.scope).2
 have hp:=A5y p.parts
 refine ⟨?_,?_,?_⟩
 ·show A8o (if K=4∨K=7 then ⟨[],[]⟩ else Y8 p.scope)
  split
  ·exact A6j.2.fit
  ·exact hs.fit
 ·show (if K=4 then S6 p.parts else []).length≤9223372036854775807
  split
  ·omega
  ·exact D7C _
 ·show ∀ x∈(if K=4 then S6 p.parts else []),_
  split
  ·exact fun x hx=>⟨(hp.2 x hx).2.fit.skus,(hp.2 x hx).2.fit.cats⟩
  ·exact fun x hx=>absurd hx D8D
theorem A2g (l:List B1):(N9 l).length=min l.length 6:=by unfold N9;rw [D7i,D7F]
theorem A6A {l:List B1} {k:Nat} (hk:k<(N9 l).length):(N9 l).getD k default=Z7 l k:=by
 rw [A2g] at hk
 unfold N9
 rw [D7c,D8a,D8C hk];rfl
theorem A6B {l:List B1} {p:B1} (h:p∈N9 l):∃ (q:B1) (id K:Int),(1≤K∧K≤7)∧p=X3 q id K:=by
 obtain ⟨k,hk,rfl⟩:=D7y.1 h
 exact ⟨_,_,_,A6y _,rfl⟩
theorem B8L:((List.range 6).all fun j=>(List.range j).all fun i=>!((idN (C1E i)).toList==(idN (C1E j)).toList))=true:=by kernel_rfl
theorem A9V (l:List B1):promosC (N9 l)=true:=by
 have hl:=A2g l
 unfold promosC
 rw [D7D (by omega),D7u]
 refine L3 fun k hk=>?_
 unfold X8
 rw [A6A hk,show I0 (Z7 l k)=true from A9U _ _ _ (A6y _),D7u,D7v,D8q]
 intro x hx
 obtain ⟨j,hj,rfl⟩:=D2 hx
 rw [D7n] at hj
 rw [show ((N9 l).take k).getD j default=Z7 l j by rw [D7c,D7r (by omega),←D7c,A6A (by omega)]]
 have:=D7s.1 (D7s.1 B8L k (D7t.2 (by omega))) j (D7t.2 (by omega))
 rw [D7v] at this
 show ¬((idN (C1E j)).toList==(idN (C1E k)).toList)=true
 rw [this];simp
theorem C1o (n:Nat) (h:n≤3):A0H ((List.range n).map fun c:Nat=>A5U c)=true:=by
 rcases le3 h with rfl | rfl | rfl | rfl<;>kernel_rfl
theorem A8T (l:List H4):(U4 l).length≤3∧(∀ x∈U4 l,A4L x=true∧x.cat.size≤12)∧A0H ((U4 l).map H4.cat)=true:=by
 unfold U4
 refine ⟨by rw [D7i,D7F];omega,fun x hx=>?_,?_⟩
 ·obtain ⟨c,_,rfl⟩:=D7y.1 hx
  have:=C7 (l.getD c default).rate (n:=3000) (by decide)
  refine ⟨?_,U9 (A6X _)⟩
  unfold A4L
  rw [show (A8S l c).cat=A5U c from rfl,A6X,show J8 0 10000 (A8S l c).rate=true from D3.2 ⟨this.1,by show B5 _ 3000≤_;omega⟩];rfl
 ·rw [D9B]
  exact C1o _ (by omega)
theorem A8j:((List.range 3).all fun k:Nat=>C6 (Q9 k))=true:=by kernel_rfl
theorem B7l (l:List K9) (k:Nat) (hk:k<3):Z8 (D7 l k)=true:=by
 have hn:=D7s.1 A8j k (D7t.2 hk)
 have hz:=U9 hn
 unfold D7
 split
 ·obtain ⟨h1,h2,h3⟩:=A8T (l.getD k default).rates
  have m1:=C7 (l.getD k default).rest (n:=3000) (by decide)
  have m2:=C7 (l.getD k default).ship (n:=3000) (by decide)
  generalize U4 (l.getD k default).rates=R at h1 h2 h3 ⊢
  unfold Z8
  show (!(!C6 (Q9 k)||!J8 0 10000 (B5 _ 3000)||!J8 0 10000 (B5 _ 3000)||decide ((R.length:Int)>40))&&(M0 R (fun _ x=>A4L x)&&A0H (R.map H4.cat)))=true
  rw [hn,D3.2 (show 0≤B5 (l.getD k default).rest 3000∧_≤10000 by omega),D3.2 (show 0≤B5 (l.getD k default).ship 3000∧_≤10000 by omega),D7j (by omega),h3,show M0 R (fun _ x=>A4L x)=true from L3 fun j hj=>(h2 _ (A5 hj)).1];rfl
 ·rcases lt3 hk with rfl | rfl | rfl
  ·exact (by kernel_rfl:Z8 ⟨Q9 (0:Nat),[],1000 * ((0:Nat):Int),500 * ((0:Nat):Int)⟩=true)
  ·exact (by kernel_rfl:Z8 ⟨Q9 (1:Nat),[],1000 * ((1:Nat):Int),500 * ((1:Nat):Int)⟩=true)
  ·exact (by kernel_rfl:Z8 ⟨Q9 (2:Nat),[],1000 * ((2:Nat):Int),500 * ((2:Nat):Int)⟩=true)
theorem C3k (l:List K9):(((List.range 3).map (D7 l)).map K9.name)=[Q9 0,Q9 1,Q9 2]:=by
 have e:∀ k,(D7 l k).name=Q9 k:=fun k=>by unfold D7;split<;>rfl
 show [(D7 l 0).name,(D7 l 1).name,(D7 l 2).name]=_
 rw [e,e,e];rfl
theorem B9i (t:Tax):taxC (L9 t)=true:=by
 have hr:=C7 t.round (n:=3) (by decide)
 have hz:∀ z∈(L9 t).zones,Z8 z=true:=fun z hz=>by
  obtain ⟨k,hk,rfl⟩:=D7y.1 hz
  exact B7l _ k (D7t.1 hk)
 have hn:(L9 t).zones.length=3:=by show ((List.range 3).map _).length=3;rw [D7i,D7F]
 unfold taxC
 rw [show (L9 t).round=B5 t.round 3 from rfl,hn,D7j (show ¬ B5 t.round 3<0 by omega),D7j (show ¬ B5 t.round 3>2 by omega),show (L9 t).zones.map K9.name=[Q9 0,Q9 1,Q9 2] from C3k _,
  show A0H [Q9 0,Q9 1,Q9 2]=true by kernel_rfl,show M0 (L9 t).zones (fun _ z=>Z8 z)=true from L3 fun j hj=>hz _ (A5 hj)];rfl
theorem B7f (l:List Ab.Item) (k:Nat):A4E (O7 l k)=true∧(O7 l k).sku.size≤12∧(O7 l k).cat.size≤12∨8≤k:=by
 by_cases h8:8≤k
 ·exact .inr h8
 refine .inl ?_
 have e:∀ (c:C8) (pr:Int) (f:Bool),C6 c=true→0≤pr∧pr≤1000000000→A4E ⟨A1o k,c,pr,f⟩=true∧(A1o k).size≤12∧c.size≤12:=fun c pr f hc hp=>by
  refine ⟨?_,U9 (B0d _),U9 hc⟩
  unfold A4E
  rw [show C6 (Ab.Item.mk (A1o k) c pr f).sku=true from B0d _,show C6 (Ab.Item.mk (A1o k) c pr f).cat=true from hc,D7j (show ¬(Ab.Item.mk (A1o k) c pr f).price<0 from by show ¬ pr<0;omega),D7j (show ¬(Ab.Item.mk (A1o k) c pr f).price>1000000000 from by show ¬ pr>_;omega)];rfl
 have hm:=C7 (l.getD k default).price (n:=4000) (by decide)
 unfold O7
 split
 ·exact e _ _ _ (A6X _) (by omega)
 ·exact e _ _ _ (A6X _) (by omega)
theorem A7z {l:List Ab.Item} {x:Ab.Item} (h:x∈G7 l):A4E x=true∧x.sku.size≤12∧x.cat.size≤12:=by
 obtain ⟨k,hk,rfl⟩:=D7y.1 h
 have:=D7t.1 hk
 rcases B7f l k with h | h
 ·exact h
 ·omega
theorem B0Q (l:List Ab.Item):A1W (G7 l)=true:=by
 unfold A1W
 rw [A2C,B4w,show A0H [A0h 97,A0h 98,A0h 99,A0h 100,A0h 101,A0h 102,A0h 103,A0h 104]=true by kernel_rfl,show M0 (G7 l) (fun _ x=>A4E x)=true from L3 fun j hj=>(A7z (A5 hj)).1];rfl
theorem B0R (r:E0):K1 (F0 r)=true:=by
 have h1:=C7 r.ship.fee (n:=900) (by decide)
 have h2:=C7 r.ship.free (n:=3) (by decide)
 have h3:=C7 r.policy.window (n:=60) (by decide)
 have h4:=C7 r.policy.grace (n:=40) (by decide)
 have h5:=C7 r.policy.mode (n:=3) (by decide)
 have h6:=C7 r.policy.restock (n:=3) (by decide)
 have h7:=C7 r.policy.restock (n:=2500) (by decide)
 have h8:B5 r.policy.restock 3 * B5 r.policy.restock 2500≤2 * 2499:=D9z (by omega) (by omega) (by omega) (by omega)
 have h9:0≤B5 r.policy.restock 3 * B5 r.policy.restock 2500:=D8H h6.1 h7.1
 show (A1W (G7 r.items)&&promosC (N9 r.promos)&&taxC (L9 r.tax)&&B0A (B2r r.ship)&&A2D (A7X r.policy))=true
 rw [B0Q,A9V,B9i r.tax]
 have e1:B0A (B2r r.ship)=true:=by
  show (J8 0 1000000000 (B5 r.ship.fee 900)&&J8 0 10000000000000 (B5 r.ship.free 3 * 4000))=true
  rw [D3.2 (by omega),D3.2 (by omega)];rfl
 have e2:A2D (A7X r.policy)=true:=by
  show (J8 0 100000 (20+B5 r.policy.window 60)&&J8 0 100000 (B5 r.policy.grace 40)&&decide (1+B5 r.policy.mode 3≥1)&&decide (1+B5 r.policy.mode 3≤3)&&J8 0 10000 (B5 r.policy.restock 3 * B5 r.policy.restock 2500)&&A1B (O8 r.policy.order)&&A1B (O8 r.policy.credit))=true
  rw [D3.2 (by omega),D3.2 (by omega),D7D (by omega),D7D (by omega),D3.2 (by omega),(A0W _).1,(A0W _).1];rfl
 rw [e1,e2];rfl
theorem B3A (r:E0):X9 (F0 r):=by
 have h1:=A2g r.promos
 have h2:=(A0W r.policy.order).2
 have h3:=(A0W r.policy.credit).2
 refine ⟨by show (N9 r.promos).length≤9223372036854775807;omega,fun p hp=>?_,by show (O8 r.policy.order).length<_;omega,by show (O8 r.policy.credit).length<_;omega⟩
 obtain ⟨q,id,K,_,rfl⟩:=A6B hp
 exact B2q q id K
end Go.Proofs.YtaapofnkmpiknaaGreat
namespace Go.Proofs.YtaapofnkmpiknaaGreat
open Go Go.Ab
structure A2n where
 goods:Int
 tax:Int
 ship:Int
 shipTax:Int
 fee:Int
def A0B (b:A2n):AV:=.agg [eI b.goods,eI b.tax,eI b.ship,eI b.shipTax,eI b.fee]
def A1x (q:O5):AV:=.agg [A9 q.goods,A9 q.taxes,eI q.ship,eI q.shipTax,eI q.total,A8 2 C0l q.deals]
def N6 (r:E0) (l:List E6):List C8:=(C2 r.items l).map Ab.Item.cat
def B5x (v:B8i) (deals:List A2o):O5:=⟨v.goods,v.taxes,v.ship,v.shipTax,A2 v.goods+A2 v.taxes+v.ship+v.shipTax,deals⟩
def A9Z (r:E0) (z:K9) (exempt:Bool) (l:List E6) (Pr:A6c):O5:=B5x (M8 r.tax z exempt (N6 r l) Pr.nets Pr.ship) Pr.deals
def O2 (q:O5):A2n:=⟨A2 q.goods,A2 q.taxes,q.ship,q.shipTax,0⟩
theorem B9G {l:List Int} {B:Int} (hB:0≤B) (h:∀ x∈l,-B≤x∧x≤B) : -(l.length * B)≤A2 l∧A2 l≤l.length * B:=by
 induction l with
 | nil=>exact ⟨by show -(((0:Nat):Int) * B)≤0;rw [Int.natCast_zero,E0i];omega,by show (0:Int)≤((0:Nat):Int) * B;rw [Int.natCast_zero,E0i];omega⟩
 | cons x l ih =>
  have h1:=ih fun y hy=>h y (D7E _ hy)
  have h2:=h x (D7G ..)
  rw [L5,D7N,show ((l.length+1:Nat):Int) * B=l.length * B+B by rw [Int.natCast_add,D9H];simp]
  omega
structure I9 (l:List Int):Prop where
 len:l.length≤1000
 all:∀ x∈l,-10000000000000≤x∧x≤10000000000000
theorem I9.take {l:List Int} (h:I9 l) (i:Nat) : -10000000000000000≤A2 (l.take i)∧A2 (l.take i)≤10000000000000000:=by
 have h1:=B9G (l:=l.take i) (B:=10000000000000) (by decide) fun x hx=>h.all x (E0a hx)
 have h2:(l.take i).length≤1000:=by rw [D7n];have:=h.len;omega
 omega
theorem I9.sum {l:List Int} (h:I9 l) : -10000000000000000≤A2 l∧A2 l≤10000000000000000:=by
 have:=h.take l.length
 rwa [D7m] at this
theorem I9.step {l:List Int} (h:I9 l) {i:Nat} (hi:i<l.length):IntKind.i64.wrap (A2 (l.take i)+gI l i)=A2 (l.take (i+1)):=by
 have h1:=h.take (i+1)
 rw [K4 hi] at h1 ⊢
 exact A4 (by omega) (by omega)
structure A2R (t:Tax) (z:K9) (cats:List C8) (nets:List Int) (ship:Int):Prop where
 tax:taxC t=true
 zone:Z8 z=true
 cats:cats.length=nets.length
 nets:A4Y nets
 ship:0≤ship∧ship≤10000000000000
structure B9Z (q:O5) (n:Nat):Prop where
 goods:I9 q.goods
 taxes:I9 q.taxes
 ngoods:q.goods.length=n
 ntaxes:q.taxes.length=n
 pos:∀ x∈q.taxes,0≤x
 ship:0≤q.ship∧q.ship≤10000000000000
 shipTax:0≤q.shipTax∧q.shipTax≤10000000000000
 total:q.total=A2 q.goods+A2 q.taxes+q.ship+q.shipTax
theorem A3M {t:Tax} {z:K9} {cats:List C8} {nets:List Int} {ship:Int} (h:A2R t z cats nets ship):(cats.map (F5 z)).length=nets.length∧∀ x∈cats.map (F5 z),0≤x∧x≤10000:=by
 refine ⟨by rw [D7i];exact h.cats,fun x hx=>?_⟩
 obtain ⟨c,_,rfl⟩:=D7y.1 hx
 exact B7v h.zone c
theorem B1e {t:Tax} {z:K9} {cats:List C8} {nets:List Int} {ship:Int} (h:A2R t z cats nets ship) (exempt:Bool) (deals:List A2o):B9Z (B5x (M8 t z exempt cats nets ship) deals) nets.length:=by
 obtain ⟨r1,r2⟩:=A3M h
 obtain ⟨t1,t2⟩:=A6L (t:=t) h.nets r1 r2
 have hz:=(A4U h.zone).2.1
 have hm:=A3n (t:=t) h.ship.1 hz
 have hs:=h.ship
 have hn:=h.nets
 have hnx:∀ i,i<nets.length→0≤gI nets i∧gI nets i≤10000000000000:=fun i hi=>by
  have h1:=hn.pos _ (show gI nets i∈nets from A5 hi)
  have h2:=J7 hn.pos (show gI nets i∈nets from A5 hi)
  have h3:=hn.sum
  exact ⟨h1,by omega⟩
 have htx:∀ i,i<nets.length→0≤gI (L2 t (cats.map (F5 z)) nets) i∧gI (L2 t (cats.map (F5 z)) nets) i≤10000000000000:=fun i hi=>t2 _ (A5 (by omega))
 have hnl:=hn.len
 have gl:(A2V t (L2 t (cats.map (F5 z)) nets) nets).length=nets.length:=by unfold A2V;rw [D7i,D7F]
 refine ⟨⟨by show (A2V _ _ _).length≤_;omega,fun x hx=>?_⟩,⟨?_,fun x hx=>?_⟩,gl,?_,fun x hx=>?_,?_,?_,rfl⟩
 ·obtain ⟨i,hi,rfl⟩:=D7y.1 (show x∈A2V _ _ _ from hx)
  have hi:=D7t.1 hi
  have h1:=hnx i hi
  have h2:=htx i hi
  split<;>omega
 ·show (if exempt=true then List.replicate nets.length 0 else L2 t (cats.map (F5 z)) nets).length≤1000
  split
  ·rw [D8i];omega
  ·omega
 ·have hx:x∈(if exempt=true then List.replicate nets.length 0 else L2 t (cats.map (F5 z)) nets):=hx
  split at hx
  ·rw [(List.mem_replicate.1 hx).2];omega
  ·have:=t2 x hx;omega
 ·show (if exempt=true then List.replicate nets.length 0 else L2 t (cats.map (F5 z)) nets).length=nets.length
  split
  ·exact D8i
  ·exact t1
 ·have hx:x∈(if exempt=true then List.replicate nets.length 0 else L2 t (cats.map (F5 z)) nets):=hx
  split at hx
  ·rw [(List.mem_replicate.1 hx).2];exact D7L _
  ·exact (t2 x hx).1
 ·show 0≤(if t.incl=true then ship - O3 t ship z.ship else ship)∧(if t.incl=true then ship - O3 t ship z.ship else ship)≤10000000000000
  split<;>omega
 ·show 0≤(if exempt=true then 0 else O3 t ship z.ship)∧(if exempt=true then 0 else O3 t ship z.ship)≤10000000000000
  split<;>omega
theorem B4g {t:Tax} {z:K9} {cats:List C8} {nets:List Int} {ship:Int} (h:A2R t z cats nets ship) (exempt:Bool) :
  A2 (M8 t z exempt cats nets ship).goods≤10000000000000∧-10000000000000≤A2 (M8 t z exempt cats nets ship).goods∧A2 (M8 t z exempt cats nets ship).taxes≤10000000000000:=by
 obtain ⟨r1,r2⟩:=A3M h
 obtain ⟨t1,t2⟩:=A6L (t:=t) h.nets r1 r2
 have hs:=h.nets.sum
 have hle:∀ i,i<nets.length→gI (L2 t (cats.map (F5 z)) nets) i≤gI nets i:=fun i hi=>B7V h.nets r1 r2 hi
 have h0:∀ i,i<nets.length→0≤gI (L2 t (cats.map (F5 z)) nets) i:=fun i hi=>(t2 _ (A5 (by omega))).1
 have hn0:∀ i,i<nets.length→0≤gI nets i:=fun i hi=>h.nets.pos _ (A5 hi)
 have hrn:=A6C nets
 have hg:A2 (A2V t (L2 t (cats.map (F5 z)) nets) nets)≤A2 ((List.range nets.length).map (gI nets)):=by
  refine A6J _ _ _ fun i hi=>?_
  have:=h0 i hi
  split<;>omega
 have hg0:0≤A2 (A2V t (L2 t (cats.map (F5 z)) nets) nets):=C1 fun x hx=>by
  obtain ⟨i,hi,rfl⟩:=D7y.1 hx
  have hi:=D7t.1 hi
  have h1:=hle i hi
  have h2:=hn0 i hi
  split<;>omega
 have ht:A2 (L2 t (cats.map (F5 z)) nets)≤A2 ((List.range nets.length).map (gI nets)):=by
  have e:=A6C (L2 t (cats.map (F5 z)) nets)
  rw [t1] at e
  rw [←e]
  exact A6J _ _ _ fun i hi=>hle i hi
 rw [hrn] at hg ht
 refine ⟨by show A2 (A2V _ _ _)≤_;omega,by show _≤A2 (A2V _ _ _);omega,?_⟩
 show A2 (if exempt=true then List.replicate nets.length 0 else L2 t (cats.map (F5 z)) nets)≤_
 split
 ·have e:∀ n,A2 (List.replicate n (0:Int))=0:=fun n=>by
   induction n with
   | zero=>rfl
   | succ n ih=>rw [List.replicate_succ,L5,ih];rfl
  rw [e];omega
 ·omega
theorem C3j (t:Tax) {k:Nat} (hk:k<3):Z3 (L9 t).zones (Q9 k)=some (D7 t.zones k):=by
 have e:∀ j,(D7 t.zones j).name=Q9 j:=fun j=>by unfold D7;split<;>rfl
 have h:(L9 t).zones=[D7 t.zones 0,D7 t.zones 1,D7 t.zones 2]:=rfl
 have d01:((Q9 (0:Nat)).toList==(Q9 (1:Nat)).toList)=false:=by kernel_rfl
 have d02:((Q9 (0:Nat)).toList==(Q9 (2:Nat)).toList)=false:=by kernel_rfl
 have d12:((Q9 (1:Nat)).toList==(Q9 (2:Nat)).toList)=false:=by kernel_rfl
 unfold Z3
 rw [h]
 rcases lt3 hk with rfl | rfl | rfl
 ·rw [D9S (by rw [e];exact D9m _)]
 ·rw [D9T (by rw [e,d01];simp),D9S (by rw [e];exact D9m _)]
 ·rw [D9T (by rw [e,d02];simp),D9T (by rw [e,d12];simp),D9S (by rw [e];exact D9m _)]
theorem B8H {t:Tax} (h:taxC t=true) {s:C8} {z:K9} (hz:Z3 t.zones s=some z):Z8 z=true:=by
 unfold taxC at h
 simp only [D7f] at h
 obtain ⟨k,hk,rfl⟩:=D2 (D9A hz)
 exact A4y.1 h.2.1 k hk
end Go.Proofs.YtaapofnkmpiknaaGreat
namespace Go.Proofs.YtaapofnkmpiknaaGreat
open Go Go.Ab
attribute [local irreducible] upd del
theorem B1a {α : Type} [Inhabited α] {l:List α} {p : α→Bool} {i:Nat} (hi:i<l.length) (h:p (l.getD i default)=true) (hno:∀ j,j<i→p (l.getD j default)=false):l.find? p=some (l.getD i default):=by
 have g:∀ j (hj:j<l.length),l.getD j default=l[j]:=fun j hj=>by rw [D7c,D7k hj];rfl
 rw [List.find?_eq_some_iff_getElem]
 refine ⟨h,i,hi,(g i hi).symm,fun j hj=>?_⟩
 have:=hno j hj
 rw [g j (by omega)] at this
 rw [this];rfl
theorem B1b {α : Type} [Inhabited α] {l:List α} {p : α→Bool} (hno:∀ j,j<l.length→p (l.getD j default)=false):l.find? p=none:=by
 rw [D9G]
 intro x hx
 obtain ⟨j,hj,rfl⟩:=D2 hx
 rw [hno j hj];simp
theorem B9t (z:K9) (c:C8) (hl:z.rates.length≤100000) (st:St):S P 189 [S9 z,eS c] st fun v st'=>v=eI (F5 z c)∧st'=st:=by
 refine F7 [2,6] Tryz.func189 ?_
 refine lp z.rates.length [1,2,8,9,10] (fun i vs t=>(∀ j,j<i→((z.rates.getD j default).cat.toList==c.toList)=false)∧vs=[eS c,.fptr (S9 z) 0,A8 2 A1i z.rates,eI z.rates.length,eI i]∧t=st) ?_ ?_
 ·conv=>whnf
  exact ⟨fun j hj=>absurd hj (by omega),rfl,rfl⟩
 ·rintro i vs t hi ⟨hno,rfl,rfl⟩
  conv=>whnf
  cases h1:decide ((i:Int)<(z.rates.length:Int))
  ·obtain rfl:=B9 h1 hi
   have hf:F5 z c=z.rest:=by unfold F5;rw [B1b hno]
   rw [hf];conv=>whnf
   exact ⟨rfl,rfl⟩
  ·have hi':=D6 h1
   conv=>whnf
   refine E9 ?_
   refine B7 (fun h2=>?_) (fun h2=>?_)<;>rw [h2]
   ·have hf:F5 z c=(z.rates.getD (i:Int).toNat default).rate:=by unfold F5;rw [B1a (p:=fun x:H4=>x.cat.toList==c.toList) hi' h2 hno];rfl
    rw [hf];conv=>whnf
    exact ⟨rfl,rfl⟩
   ·conv=>whnf
    refine G3 ?_
    exact nx hi' ⟨G9 hno h2,by rw [B4 (by omega)],rfl⟩
theorem B4T (l:List H4) (hl:l.length≤100000) (st:St):S P 276 [A8 2 A1i l] st fun v st'=>v=A8 2 A1i l∧st'=st:=by
 refine A0y (ty:=209) ?_
 refine SyW [] Tryz.func276 ?_
 cases l with
 | nil =>
  conv=>whnf
  refine ⟨?_,?_⟩
  ·conv=>whnf
   exact Col.start _ _ _ _
  ·conv=>whnf
   refine apE rfl rfl rfl rfl rfl (by show 0 * 24≤_;omega) (fun _=>?_) (fun h=>absurd h (by show ¬ 0<0;omega));conv=>whnf
   exact Col.start _ _ _ _
 | cons u us =>
  conv=>whnf
  refine Col.apps (n:=0) (m:=us.length+1) (q:=C7z) (f:=fun k=>A1i ((u::us).getD k default)) rfl rfl rfl rfl rfl (fun i hi=>by rw [D7o]) (by show (0+(us.length+1)) * 24≤140737488355328;simp only [D7N] at hl;omega) (Col.start _ _ _ _) (fun sv' st'' hc'=>?_);conv=>whnf
  rw [D7o] at hc'
  exact hc'
theorem B6u (z:K9) (hl:z.rates.length≤100000) (st:St):S P 236 [S9 z] st fun v st'=>v=S9 z∧st'=st:=by
 have hc:=fun s=>B4T z.rates hl s
 refine A0g ?_
 refine F7 [] Tryz.func236 ?_
 intro b1 h1;conv=>whnf
 intro b2 h2
 have h12:b1≠b2:=fun e=>by subst e;rw [A0] at h2;cases h2
 conv=>whnf
 refine L1 (by rw [B0 h12];exact A0 ..) rfl ?_
 refine I3 (hc _) ?_
 refine stW (by rw [B0 h12];exact A0 ..) rfl ?_
 refine L1 (A0 ..) (A6 ..) ?_
 refine stW (by rw [B0 h12.symm];exact A0 ..) rfl ?_
 refine L1 (A0 ..) (A6 ..) ?_
 have hn2:st b2=none:=by rw [B0 h12.symm] at h2;exact h2
 exact ⟨rfl,((((F8.refl st).upd h1).upd h2).over h1).over hn2⟩
def C8J:K9:=⟨⟨#[]⟩,[],0,0⟩
theorem B9u (t:Tax) (s:C8) (hl:t.zones.length≤100000) (hr:∀ z∈t.zones,z.rates.length≤100000) (st:St) :
  S P 188 [T7 t,eS s] st fun v st'=>v=.tuple [S9 ((Z3 t.zones s).getD C8J),.bool (Z3 t.zones s).isSome]∧st'=st:=by
 refine S.post (post:=fun v s'=>F8 st s'∧((∃ z,Z3 t.zones s=some z∧v=.tuple [S9 z,.bool true])∨(Z3 t.zones s=none∧v=.tuple [.agg [eS ⟨#[]⟩,.emp,eI 0,eI 0],.bool false]))) ?_ (fun v s' ⟨hs,h⟩=>⟨_,st,⟨rfl,rfl⟩,by
  rcases h with ⟨z,h1,rfl⟩ | ⟨h1,rfl⟩
  ·rw [h1];exact hs.shift _
  ·rw [h1]
   exact (A7.tuple (A7.cons (Le.shift (Le.agg (T3.cons (Le.refl _) (T3.cons (Le.emp _ _) (T3.refl _)))) _) (A7.keep _ _)) rfl).trans (hs.shift _)⟩)
 refine F7 [2,7] Tryz.func188 ?_
 intro b4 hb4;conv=>whnf
 refine lp t.zones.length [1,4,9,10,11] (fun i vs u=>(∀ j,j<i→((t.zones.getD j default).name.toList==s.toList)=false)∧vs=[eS s,.optr 4 b4 0 0,A8 4 S9 t.zones,eI t.zones.length,eI i]∧u=upd st b4 ⟨103,4,1,fun _=>I1 C2j.zero⟩) ?_ ?_
 ·conv=>whnf
  exact ⟨fun j hj=>absurd hj (by omega),rfl,rfl⟩
 ·rintro i vs u hi ⟨hno,rfl,rfl⟩
  conv=>whnf
  cases h1:decide ((i:Int)<(t.zones.length:Int))
  ·obtain rfl:=B9 h1 hi
   have hf:Z3 t.zones s=none:=B1b hno
   conv=>whnf
   refine stW (A0 ..) rfl ?_
   refine L1 (A0 ..) (A6 ..) ?_
   exact ⟨((F8.refl st).upd hb4).over hb4,.inr ⟨hf,rfl⟩⟩
  ·have hi':=D6 h1
   conv=>whnf
   refine E9 ?_
   refine B7 (fun h2=>?_) (fun h2=>?_)<;>rw [h2]
   ·have hf:Z3 t.zones s=some (t.zones.getD (i:Int).toNat default):=B1a (p:=fun z:K9=>z.name.toList==s.toList) hi' h2 hno
    have hc:=fun u=>B6u (t.zones.getD (i:Int).toNat default) (hr _ (A5 hi')) u
    generalize t.zones.getD (i:Int).toNat default=z at hf hc
    conv=>whnf
    refine I3 (hc _) ?_
    refine stW (A0 ..) rfl ?_
    refine L1 (A0 ..) (A6 ..) ?_
    exact ⟨((F8.refl st).upd hb4).over hb4,.inl ⟨z,hf,rfl⟩⟩
   ·conv=>whnf
    refine G3 ?_
    exact nx hi' ⟨G9 hno h2,by rw [B4 (by omega)],rfl⟩
theorem A7T (x:Int) (st:St):S P 235 [eI x] st fun v st'=>v=.bool (J8 0 10000000000000 x)∧st'=st:=by
 refine SyW [] Tryz.func235 ?_
 repeat' ((conv=>whnf);first | (refine B7 (fun h=>?_) (fun h=>?_)<;>rw [h]))
 all_goals (conv=>whnf)
 all_goals (refine ⟨?_,rfl⟩;show AV.bool _=AV.bool _;congr 1)
 all_goals (simp only [J8, *,D7u,D7z];try rfl)
theorem B8V (t:Tax) (x rate:Int) (hr:0≤rate∧rate≤10000) (st:St):S P 192 [T7 t,eI x,eI rate] st fun v st'=>v=eI (O3 t x rate)∧st'=st:=by
 have hM:O3 t x rate=(V7 x rate (A9z t rate) t.round).1:=rfl
 have hw:IntKind.i64.wrap (10000+rate)=10000+rate:=A4 (by omega) (by omega)
 refine F7 [3] Tryz.func192 ?_
 cases hi:t.incl
 ·have hd:A9z t rate=10000:=by unfold A9z;rw [if_neg (by rw [hi];simp)];rfl
  conv=>whnf
  refine B2 (B5W x rate 10000 t.round st) ?_
  rw [hM,hd]
  generalize V7 x rate 10000 t.round=Y
  conv=>whnf
  exact ⟨rfl,rfl⟩
 ·have hd:A9z t rate=10000+rate:=by unfold A9z;rw [if_pos hi]
  conv=>whnf
  rw [hw]
  refine B2 (B5W x rate (10000+rate) t.round st) ?_
  rw [hM,hd]
  generalize V7 x rate (10000+rate) t.round=Y
  conv=>whnf
  exact ⟨rfl,rfl⟩
theorem B1V (t:Tax) (rates nets:List Int) (i:Nat):(List.range (i+1)).map (fun i=>O3 t (gI nets i) (gI rates i))=(List.range i).map (fun i=>O3 t (gI nets i) (gI rates i))++[O3 t (gI nets i) (gI rates i)]:=by rw [D8G,D7M];rfl
theorem B6r (t:Tax) (rates nets:List Int) (hn:nets.length≤1000) (hl:rates.length=nets.length) (hq:∀ x∈rates,0≤x∧x≤10000) (st:St):S P 190 [T7 t,A9 rates,A9 nets] st fun v st'=>v=A9 (Y6 t rates nets)∧st'=st:=by
 refine A0y (ty:=2) ?_
 have hL:Y6 t rates nets=(List.range nets.length).map fun i=>O3 t (gI nets i) (gI rates i):=rfl
 rw [hL]
 refine F7 [3] Tryz.func190 ?_
 refine lp nets.length [1,3,7,10,11,12] (fun i vs s=>∃ sv,vs=[A9 rates,.fptr (T7 t) 0,sv,A9 nets,eI nets.length,eI i]∧E8 2 1 eI ((List.range i).map fun i=>O3 t (gI nets i) (gI rates i)) st sv s) ?_ ?_
 ·conv=>whnf
  exact ⟨.emp,rfl,E8.start _ _ _ _⟩
 ·rintro i vs s hi ⟨sv,rfl,hc⟩
  conv=>whnf
  cases h1:decide ((i:Int)<(nets.length:Int))
  ·obtain rfl:=B9 h1 hi
   conv=>whnf
   exact hc
  ·have hi':=D6 h1
   have hm:=fun u=>B8V t (gI nets (i:Int).toNat) (gI rates (i:Int).toNat) (hq _ (A5 (by show i<_;omega))) u
   have hs:=B1V t rates nets i
   have hln:((List.range i).map fun i=>O3 t (gI nets i) (gI rates i)).length=i:=by rw [D7i,D7F]
   conv=>whnf
   refine E9 ?_
   refine ⟨[8,9],[],List.range 11,by kernel_rfl,?_⟩;conv=>whnf
   refine E9 ?_
   refine ⟨_,F3 (hm _),?_⟩
   have hy:O3 t (gI nets i) (gI rates i)=O3 t (gI nets (i:Int).toNat) (gI rates (i:Int).toNat):=rfl
   rw [hy] at hs
   generalize O3 t (gI nets (i:Int).toNat) (gI rates (i:Int).toNat)=Y at hs
   conv=>whnf
   refine E8.app (y:=Y) (q:=r2) rfl rfl rfl rfl rfl (by rfl) (by rw [hln];show (i+1) * 8≤140737488355328;omega) hc (fun sv' t' hc'=>?_);conv=>whnf
   refine G3 ?_
   exact nx hi' ⟨sv',by rw [B4 (by omega)],by rw [hs];exact hc'⟩
theorem C7h {t:Tax} {z:K9} {cats:List C8} {nets:List Int} {ship:Int} (h:A2R t z cats nets ship) (st:St):S P 187 [T7 t,D5 cats,A9 nets,eI ship] st fun v st'=>v=.bool true∧st'=st:=by
 have hn:=h.nets.len
 have hs:=h.nets.sum
 have hp:=h.nets.pos
 have hc:=h.cats
 have hT:=fun s=>C8G t s
 have hA:=fun s=>A7T ship s
 rw [h.tax] at hT
 rw [show J8 0 10000000000000 ship=true from D3.2 h.ship] at hA
 have htk:∀ i,0≤A2 (nets.take i)∧A2 (nets.take i)≤10000000000000:=fun i=>by
  have:=N5 hp i
  exact ⟨C1 fun x hx=>hp x (E0a hx),by omega⟩
 refine F7 [4] Tryz.func187 ?_
 refine I3 (hT _) ?_
 rw [hc,show ((nets.length:Int) != (nets.length:Int))=false from bne_self_eq_false _];conv=>whnf
 refine B7 (fun h1=>absurd (D7h h1) (by omega)) (fun h1=>?_)
 rw [h1];conv=>whnf
 refine I3 (hA _) ?_
 refine lp nets.length [9,32,33,34] (fun i vs s=>vs=[eI (A2 (nets.take i)),A9 nets,eI nets.length,eI i]∧s=st) ?_ ?_
 ·conv=>whnf
  exact ⟨rfl,rfl⟩
 ·rintro i vs s hi ⟨rfl,rfl⟩
  conv=>whnf
  cases h2:decide ((i:Int)<(nets.length:Int))
  ·obtain rfl:=B9 h2 hi
   have hB:=fun s=>A7T (A2 (nets.take nets.length)) s
   rw [show J8 0 10000000000000 (A2 (nets.take nets.length))=true from D3.2 (htk _)] at hB;conv=>whnf
   refine I3 (hB _) ?_
   exact ⟨rfl,rfl⟩
  ·have hi':=D6 h2
   have hx:0≤gI nets (i:Int).toNat:=hp _ (A5 hi')
   have hx2:gI nets (i:Int).toNat≤A2 nets:=J7 hp (A5 hi')
   have hB:=fun s=>A7T (gI nets (i:Int).toNat) s
   rw [show J8 0 10000000000000 (gI nets (i:Int).toNat)=true from D3.2 (by omega)] at hB
   have hst:A2 (nets.take (i+1))=A2 (nets.take i)+gI nets (i:Int).toNat:=K4 hi'
   have h3:=htk (i+1)
   have hw:IntKind.i64.wrap (A2 (nets.take i)+gI nets (i:Int).toNat)=A2 (nets.take (i+1)):=by rw [hst] at h3 ⊢;exact A4 (by omega) (by omega)
   conv=>whnf
   refine E9 ?_
   refine I3 (hB _) ?_
   rw [hw]
   refine G3 ?_
   exact nx hi' ⟨by rw [B4 (by omega)],rfl⟩
theorem B4E {t:Tax} (h:taxC t=true):t.zones.length≤20∧∀ z∈t.zones,z.rates.length≤40:=by
 have h':=h
 unfold taxC at h
 simp only [D7f,D7v,D8n,D7e] at h
 refine ⟨by omega,fun z hz=>?_⟩
 obtain ⟨k,hk,rfl⟩:=D2 hz
 exact (A4U (A4y.1 h.2.1 k hk)).2.2.1
def C5W (t:Tax):FuncId:=if t.byOrder=true then 191 else 190
def A0f (t:Tax) (taxes nets:List Int) (i:Nat):Int:=if t.incl=true then gI nets i - gI taxes i else gI nets i
theorem B8U (f:Nat→Int) (i:Nat):(List.range (i+1)).map f=(List.range i).map f++[f i]:=by rw [D8G,D7M];rfl
theorem B8e (n i:Nat):(List.replicate n (0:Int)).getD i default=0:=by
 rw [D7c,D9t];split<;>rfl
set_option maxHeartbeats 8000000 in
theorem C9m {t:Tax} {z:K9} {s:C8} {cats:List C8} {nets:List Int} {ship:Int} (h:A2R t z cats nets ship) (hz:Z3 t.zones s=some z) (exempt:Bool)
  (hTax:∀ st,S P (C5W t) [T7 t,A9 (cats.map (F5 z)),A9 nets] st fun v st'=>v=A9 (L2 t (cats.map (F5 z)) nets)∧st'=st) (st:St) :
  S P 124 [T7 t,eS s,eB exempt,D5 cats,A9 nets,eI ship] st fun v st' =>
   v=.tuple [A9 (M8 t z exempt cats nets ship).goods,A9 (M8 t z exempt cats nets ship).taxes,eI (M8 t z exempt cats nets ship).ship,eI (M8 t z exempt cats nets ship).shipTax,eI 0]∧st'=st:=by
 obtain ⟨hr1,hr2⟩:=A3M h
 obtain ⟨t1,t2⟩:=A6L (t:=t) h.nets hr1 hr2
 obtain ⟨l1,l2⟩:=B4E h.tax
 have hzm:z∈t.zones:=D9A hz
 have hzr:=l2 z hzm
 have hn:=h.nets.len
 have hcl:=h.cats
 have hq:=(A4U h.zone).2.1
 have hm:=A3n (t:=t) h.ship.1 hq
 have hs:=h.ship
 have hM:=fun st=>C7h h st
 have hZ:∀ st,S P 188 [T7 t,eS s] st fun v st'=>v=.tuple [S9 z,.bool true]∧st'=st:=fun st=>by
  have:=B9u t s (by omega) (fun z hz=>by have:=l2 z hz;omega) st
  rw [hz] at this;exact this
 have hR:=fun c st=>B9t z c (by omega) st
 have hU:=fun st=>B8V t ship z.ship hq st
 have hL:M8 t z exempt cats nets ship=⟨(List.range nets.length).map (A0f t (L2 t (cats.map (F5 z)) nets) nets),if exempt=true then List.replicate nets.length 0 else L2 t (cats.map (F5 z)) nets,if t.incl=true then ship - O3 t ship z.ship else ship,if exempt=true then 0 else O3 t ship z.ship⟩:=rfl
 rw [hL]
 have hnx:∀ i,i<nets.length→0≤gI nets i∧gI nets i≤10000000000000:=fun i hi=>by
  have h1:=h.nets.pos _ (show gI nets i∈nets from A5 hi)
  have h2:=J7 h.nets.pos (show gI nets i∈nets from A5 hi)
  have h3:=h.nets.sum
  exact ⟨h1,by omega⟩
 have htx:∀ i,i<nets.length→0≤gI (L2 t (cats.map (F5 z)) nets) i∧gI (L2 t (cats.map (F5 z)) nets) i≤10000000000000:=fun i hi=>t2 _ (A5 (by omega))
 generalize L2 t (cats.map (F5 z)) nets=TX at hTax t1 htx ⊢
 generalize O3 t ship z.ship=MS at hU hm ⊢
 clear hL t2
 refine S.post (post:=fun v s'=>∃ gv tv c1 c2,v=.tuple [gv,tv,eI (if t.incl=true then ship - MS else ship),eI (if exempt=true then 0 else MS),eI 0] ∧
   A7 [gv] s' [A9 ((List.range nets.length).map (A0f t TX nets))] c1∧A7 [tv] c1 [A9 (if exempt=true then List.replicate nets.length 0 else TX)] c2∧F8 st c2) ?_
  (fun v s' ⟨gv,tv,c1,c2,h1,h2,h3,h4⟩=>⟨_,st,⟨rfl,rfl⟩,by
   rw [h1]
   exact (A7.tuple (A7.cons h2 (A7.cons h3 (A7.keep _ _))) rfl).trans (h4.shift _)⟩)
 refine F7 [6] Tryz.func124 ?_
 refine I3 (hM _) ?_
 refine I3 (hZ _) ?_
 intro b17 hb17;conv=>whnf
 refine stU (A0 ..) rfl ?_
 rw [C5];conv=>whnf
 generalize hst:(upd st b17 _:St)=S0
 obtain ⟨f17,at17,hf17⟩:∃ f17:Nat→AV,S0 b17=some ⟨103,4,1,f17⟩∧f17 0=S9 z:=by rw [←hst];exact ⟨_,A0 ..,by rw [A6];rfl⟩
 have hs0:F8 st S0:=by rw [←hst];exact (F8.refl st).upd hb17
 clear hst
 refine lp cats.length [2,4,5,6,12,17,19,39,40,41] (fun i vs u=>∃ sv,vs=[eB exempt,A9 nets,eI ship,.fptr (T7 t) 0,.emp,.optr 4 b17 0 0,sv,D5 cats,eI cats.length,eI i]∧E8 2 1 eI ((cats.take i).map (F5 z)) S0 sv u) ?_ ?_
 ·conv=>whnf
  exact ⟨.emp,rfl,E8.start _ _ _ _⟩
 rintro i vs u hi ⟨sv,rfl,hc⟩
 have hcs:=hc.sup
 conv=>whnf
 cases h1:decide ((i:Int)<(cats.length:Int))
 case true =>
  have hi':=D6 h1
  have hln:((cats.take i).map (F5 z)).length=i:=by rw [D7i,D7n];omega
  have hRi:=fun st=>hR (cats.getD (i:Int).toNat default) st
  have htk:(cats.take (i+1)).map (F5 z)=(cats.take i).map (F5 z)++[F5 z (cats.getD (i:Int).toNat default)]:=by rw [L6 hi',D7M];rfl
  generalize F5 z (cats.getD (i:Int).toNat default)=RT at hRi htk
  conv=>whnf
  refine E9 ?_
  refine L1 (hcs b17 _ at17) hf17 ?_
  refine I3 (hRi _) ?_
  refine E8.app (y:=RT) (q:=r2) rfl rfl rfl rfl rfl (by rfl) (by rw [hln];show (i+1) * 8≤140737488355328;omega) hc (fun sv' t' hc'=>?_);conv=>whnf
  refine G3 ?_
  exact nx hi' ⟨sv',by rw [B4 (by omega)],by rw [htk];exact hc'⟩
 obtain rfl:=B9 h1 hi
 rw [D7m] at hc
 have hTS:A7 [AV.agg [eB t.incl,eB t.byOrder,eI t.round,A8 4 S9 t.zones],sv,A9 nets] u [T7 t,A9 (cats.map (F5 z)),A9 nets] S0:=A7.cons (A7.keep [T7 t] _) (A7.cons hc.shift (A7.keep _ _))
 clear hc hcs hM hZ hR
 generalize cats.map (F5 z)=RS at hTax hTS
 unfold C5W at hTax;conv=>whnf
 cases hbo:t.byOrder
 case' false=>rw [if_neg (by rw [hbo];simp)] at hTax
 case' true=>rw [if_pos hbo] at hTax
 all_goals
  conv=>whnf
  refine E2 hTS (B2 (hTax _) ?_);conv=>whnf
  refine L1 at17 hf17 ?_
  refine I3 (hU _) ?_
  refine lp nets.length [2,4,6,12,13,14,15,65,66,67] (fun i vs u=>∃ sv,vs=[eB exempt,A9 nets,.fptr (T7 t) 0,sv,A9 TX,eI ship,eI MS,A9 nets,eI nets.length,eI i]∧E8 2 1 eI ((List.range i).map (A0f t TX nets)) S0 sv u) ?_ ?_
  ·conv=>whnf
   exact ⟨.emp,rfl,E8.start _ _ _ _⟩
  rintro i vs u hi ⟨sv,rfl,hc⟩
  have hcs:=hc.sup
  conv=>whnf
  cases h1:decide ((i:Int)<(nets.length:Int))
  case true =>
   have hi':=D6 h1
   have hln:((List.range i).map (A0f t TX nets)).length=i:=by rw [D7i,D7F]
   have hnx1:=hnx i hi'
   have htx1:=htx i hi'
   have htk:=B8U (A0f t TX nets) i
   have hgA:A0f t TX nets i=if t.incl=true then gI nets (i:Int).toNat - gI TX (i:Int).toNat else gI nets (i:Int).toNat:=rfl
   have hgw:IntKind.i64.wrap (gI nets (i:Int).toNat - gI TX (i:Int).toNat)=gI nets (i:Int).toNat - gI TX (i:Int).toNat:=A4 (show _≤gI nets i - gI TX i by omega) (show gI nets i - gI TX i≤_ by omega)
   generalize A0f t TX nets i=GA at htk hgA
   conv=>whnf
   refine E9 ?_
   cases hin:t.incl
   case' false=>rw [if_neg (by rw [hin];simp)] at hgA
   case' true =>
    rw [if_pos hin] at hgA;conv=>whnf
    refine E9 ?_
    rw [hgw]
   all_goals
    conv=>whnf
    refine E8.app (y:=GA) (q:=r2) rfl rfl rfl rfl rfl (by rw [hgA];rfl) (by rw [hln];show (i+1) * 8≤140737488355328;omega) hc (fun sv' t' hc'=>?_);conv=>whnf
    refine G3 ?_
    exact nx hi' ⟨sv',by rw [B4 (by omega)],by rw [htk];exact hc'⟩
  obtain rfl:=B9 h1 hi
  have hwS:IntKind.i64.wrap (ship - MS)=ship - MS:=A4 (by omega) (by omega)
  conv=>whnf
  cases hin:t.incl
  case' false=>rw [if_neg (show ¬(false=true) by simp)]
  case' true =>
   rw [if_pos rfl];conv=>whnf
   rw [hwS]
  all_goals
   conv=>whnf
   cases exempt
   ·conv=>whnf
    exact ⟨sv,A9 TX,S0,S0,rfl,hc.shift,A7.keep _ _,hs0⟩
   ·conv=>whnf
    refine mkO rfl rfl rfl (by show 8 * nets.length≤_;omega) (by omega) (by rfl) (fun bz hbz=>?_);conv=>whnf
    have hb0:S0 bz=none:=Col.off hc hbz
    have hc2:=Col.under (y:=⟨2,1,nets.length,fun _=>I1 r2.zero⟩) hc hbz
    refine ⟨sv,.own 1 bz 0 nets.length,upd S0 bz ⟨2,1,nets.length,fun _=>I1 r2.zero⟩,del (upd S0 bz ⟨2,1,nets.length,fun _=>I1 r2.zero⟩) bz,rfl,Col.shift hc2,?_,F8.del (hs0.upd hb0) (hs0.none hb0)⟩
    have e:A9 (List.replicate nets.length 0)=.arr 1 nets.length (fun k=>eI ((List.replicate nets.length (0:Int)).getD k default)):=by unfold A9 A8;rw [D8i]
    rw [if_pos rfl,e]
    exact P1 (A0 ..) rfl (D7l _) (fun k hk=>by rw [B8e];rfl)
end Go.Proofs.YtaapofnkmpiknaaGreat
