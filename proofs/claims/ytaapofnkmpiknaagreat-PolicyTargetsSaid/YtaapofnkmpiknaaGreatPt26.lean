/- Part 26 of the proof: contracts -/
import Derived.Test.YtaapofnkmpiknaaGreatPt25
set_option maxRecDepth 100000
set_option linter.unusedVariables false
set_option linter.unusedSimpArgs false
namespace Go.Proofs.YtaapofnkmpiknaaGreat
open Go Go.Ab
attribute [local irreducible] upd del
structure Add where
 sku:C8
 qty:Int
 deriving Inhabited
def A8z (x:Add):AV:=.agg [eS x.sku,eI x.qty]
theorem B2z (l:List Int) (h:I9 l) (st:St):S P 125 [A9 l] st fun v st'=>v=eI (A2 l)∧st'=st:=by
 have hn:=h.len
 refine F7 [] Tryz.func125 ?_
 refine lp l.length [3,6,7,8] (fun i vs t=>vs=[eI (A2 (l.take i)),A9 l,eI l.length,eI i]∧t=st) ?_ ?_
 ·conv=>whnf
  exact ⟨rfl,rfl⟩
 ·rintro i vs t hi ⟨rfl,rfl⟩
  conv=>whnf
  cases h1:decide ((i:Int)<(l.length:Int))
  ·obtain rfl:=B9 h1 hi
   rw [D7m];conv=>whnf
   exact ⟨rfl,rfl⟩
  ·have hi':=D6 h1
   have hs:IntKind.i64.wrap (A2 (l.take i)+gI l (i:Int).toNat)=A2 (l.take (i+1)):=h.step hi'
   conv=>whnf
   refine E9 ?_
   rw [hs]
   refine G3 ?_
   exact nx hi' ⟨by rw [B4 (by omega)],rfl⟩
theorem C8W (q:O5) (h1:I9 q.goods) (h2:I9 q.taxes) (st:St):S P 64 [A1x q] st fun v st'=>v=A0B (O2 q)∧st'=st:=by
 have c1:=fun s=>B2z q.goods h1 s
 have c2:=fun s=>B2z q.taxes h2 s
 have hB:O2 q=⟨A2 q.goods,A2 q.taxes,q.ship,q.shipTax,0⟩:=rfl
 rw [hB]
 generalize A2 q.goods=G at c1 ⊢
 generalize A2 q.taxes=T' at c2 ⊢
 refine A0g ?_
 refine F7 [1] Tryz.func64 ?_
 intro b2 hb;conv=>whnf
 refine ⟨[11],[],List.range 12,by kernel_rfl,?_⟩;conv=>whnf
 refine cqW (c1 _) ?_
 refine cqW (c2 _) ?_
 refine stW (A0 ..) rfl ?_
 refine L1 (A0 ..) (A6 ..) ?_
 exact ⟨rfl,((F8.refl st).upd hb).over hb⟩
theorem C1n (r:E0) (l:List E6):(N6 r l).length=l.length:=by unfold N6 C2;rw [D7i,D7i]
theorem C6N {a b c d:Int} (ha : -10000000000000≤a∧a≤10000000000000) (hb : -10000000000000≤b∧b≤10000000000000) (hc : -10000000000000≤c∧c≤10000000000000) (hd : -10000000000000≤d∧d≤10000000000000):I9 [a,b,c,d]:=by
 refine ⟨by show 4≤1000;decide,fun x hx=>?_⟩
 simp only [D8A,D8D,or_false] at hx
 rcases hx with rfl | rfl | rfl | rfl<;>assumption
theorem B9y {a b c d:Int} {F:Nat→AV} {st:St} (h0:F 0=eI a) (h1:F 1=eI b) (h2:F 2=eI c) (h3:F 3=eI d):A7 [.arr 1 4 F] st [A9 [a,b,c,d]] st :=
 A7.arr (g:=fun i=>eI ([a,b,c,d].getD i default)) fun i hi=>by
  match i,hi with
  | 0,_=>exact h0
  | 1,_=>exact h1
  | 2,_=>exact h2
  | 3,_=>exact h3
set_option maxHeartbeats 8000000 in
theorem quote_S {r:E0} {codes:List C8} {l:List E6} {Pr:A6c} {z:K9} {zone:C8} (exempt:Bool)
  (hP:∀ st,S P 122 [F4 r,D5 codes,A8 3 I7 l] st fun v s=>v=.tuple [A1t Pr,eI 0]∧s=st)
  (hI:∀ st,S P 123 [A8 4 F2 r.items,A8 3 I7 l] st fun v s=>v=A8 4 F2 (C2 r.items l)∧s=st)
  (hln:l.length≤1000) (hV:A2R r.tax z (N6 r l) Pr.nets Pr.ship) (hz:Z3 r.tax.zones zone=some z)
  (hTax:∀ st,S P (C5W r.tax) [T7 r.tax,A9 ((N6 r l).map (F5 z)),A9 Pr.nets] st fun v st'=>v=A9 (L2 r.tax ((N6 r l).map (F5 z)) Pr.nets)∧st'=st)
  (hsm:A2 (M8 r.tax z exempt (N6 r l) Pr.nets Pr.ship).goods≤10000000000000∧-10000000000000≤A2 (M8 r.tax z exempt (N6 r l) Pr.nets Pr.ship).goods∧A2 (M8 r.tax z exempt (N6 r l) Pr.nets Pr.ship).taxes≤10000000000000) (st:St) :
  S P 60 [F4 r,eS zone,eB exempt,D5 codes,A8 3 I7 l] st fun v st'=>v=.tuple [A1x (A9Z r z exempt l Pr),eI 0]∧st'=st:=by
 have hQ:=B1e hV exempt Pr.deals
 have hlv:=fun s=>C9m hV hz exempt hTax s
 have hq:A9Z r z exempt l Pr=⟨(M8 r.tax z exempt (N6 r l) Pr.nets Pr.ship).goods,(M8 r.tax z exempt (N6 r l) Pr.nets Pr.ship).taxes,(M8 r.tax z exempt (N6 r l) Pr.nets Pr.ship).ship,(M8 r.tax z exempt (N6 r l) Pr.nets Pr.ship).shipTax,A2 (M8 r.tax z exempt (N6 r l) Pr.nets Pr.ship).goods+A2 (M8 r.tax z exempt (N6 r l) Pr.nets Pr.ship).taxes+(M8 r.tax z exempt (N6 r l) Pr.nets Pr.ship).ship+(M8 r.tax z exempt (N6 r l) Pr.nets Pr.ship).shipTax,Pr.deals⟩:=rfl
 rw [hq]
 have hpos:0≤A2 (M8 r.tax z exempt (N6 r l) Pr.nets Pr.ship).taxes:=C1 hQ.pos
 obtain ⟨q1,q2,q3,q4,q5,q6,q7,_⟩:=hQ
 have q1:I9 (M8 r.tax z exempt (N6 r l) Pr.nets Pr.ship).goods:=q1
 have q2:I9 (M8 r.tax z exempt (N6 r l) Pr.nets Pr.ship).taxes:=q2
 have q6:0≤(M8 r.tax z exempt (N6 r l) Pr.nets Pr.ship).ship∧(M8 r.tax z exempt (N6 r l) Pr.nets Pr.ship).ship≤10000000000000:=q6
 have q7:0≤(M8 r.tax z exempt (N6 r l) Pr.nets Pr.ship).shipTax∧(M8 r.tax z exempt (N6 r l) Pr.nets Pr.ship).shipTax≤10000000000000:=q7
 clear hq q3 q4 q5 hTax hV hz
 generalize M8 r.tax z exempt (N6 r l) Pr.nets Pr.ship=V at *
 have s1:=fun s=>B2z V.goods q1 s
 have s2:=fun s=>B2z V.taxes q2 s
 have s3:=fun s=>B2z [A2 V.goods,A2 V.taxes,V.ship,V.shipTax] (C6N (by omega) (by omega) (by omega) (by omega)) s
 have e3:A2 [A2 V.goods,A2 V.taxes,V.ship,V.shipTax]=A2 V.goods+A2 V.taxes+V.ship+V.shipTax:=by
  show 0+A2 V.goods+A2 V.taxes+V.ship+V.shipTax=_;omega
 rw [e3] at s3
 have hil:(C2 r.items l).length=l.length:=D7i ..
 have hcb:N6 r l=(C2 r.items l).map Ab.Item.cat:=rfl
 rw [hcb] at hlv
 generalize C2 r.items l=IT at hI hil hlv
 clear hcb
 refine A0g ?_
 refine F7 [5,16] Tryz.func60 ?_
 intro b10 hb10;conv=>whnf
 refine I3 (hP _) ?_
 intro b12 hb12
 have h02:b10≠b12:=fun e=>by subst e;rw [A0] at hb12;cases hb12
 conv=>whnf
 refine stU (A0 ..) rfl ?_
 rw [C5];conv=>whnf
 refine I3 (hI _) ?_
 generalize hst:(upd (upd st b10 _) b12 _:St)=S0
 obtain ⟨f12,at12,hf12⟩:∃ f12:Nat→AV,S0 b12=some ⟨170,4,1,f12⟩∧f12 0=A1t Pr:=by rw [←hst];exact ⟨_,A0 ..,by rw [A6];rfl⟩
 obtain ⟨f10,at10⟩:∃ f10:Nat→AV,S0 b10=some ⟨113,6,1,f10⟩∧f10 0=I1 C7x.zero:=by rw [←hst,B0 h02];exact ⟨_,A0 ..,rfl⟩
 obtain ⟨at10,hf10⟩:=at10
 have hs0:F8 st S0:=by rw [←hst];exact ((F8.refl st).upd hb10).upd hb12
 have n12:st b12=none:=by rw [B0 h02.symm] at hb12;exact hb12
 clear hst
 refine lp IT.length [1,2,5,10,12,14,35,36,37] (fun i vs u=>∃ sv,vs=[eS zone,eB exempt,.fptr (F4 r) 0,.optr 6 b10 0 0,.optr 4 b12 0 0,sv,A8 4 F2 IT,eI IT.length,eI i]∧E8 9 1 eS ((IT.take i).map Ab.Item.cat) S0 sv u) ?_ ?_
 ·conv=>whnf
  exact ⟨.emp,rfl,E8.start _ _ _ _⟩
 rintro i vs u hi ⟨sv,rfl,hc⟩
 have hcs:=hc.sup
 conv=>whnf
 cases h1:decide ((i:Int)<(IT.length:Int))
 case true =>
  have hi':=D6 h1
  have hln2:((IT.take i).map Ab.Item.cat).length=i:=by rw [D7i,D7n];omega
  have htk:(IT.take (i+1)).map Ab.Item.cat=(IT.take i).map Ab.Item.cat++[(IT.getD (i:Int).toNat default).cat]:=by rw [L6 hi',D7M];rfl
  conv=>whnf
  refine E9 ?_
  refine E8.app (y:=(IT.getD (i:Int).toNat default).cat) (q:=r9) rfl rfl rfl rfl rfl (by rfl) (by rw [hln2];show (i+1) * 16≤140737488355328;omega) hc (fun sv' t' hc'=>?_);conv=>whnf
  refine G3 ?_
  exact nx hi' ⟨sv',by rw [B4 (by omega)],by rw [htk];exact hc'⟩
 obtain rfl:=B9 h1 hi
 rw [D7m] at hc;conv=>whnf
 refine L1 (hcs b12 _ at12) hf12 ?_
 refine L1 (hcs b12 _ at12) hf12 ?_
 have hTS:A7 [T7 r.tax,eS zone,eB exempt,sv,A9 Pr.nets,eI Pr.ship] u [T7 r.tax,eS zone,eB exempt,D5 (IT.map Ab.Item.cat),A9 Pr.nets,eI Pr.ship] S0 :=
  A7.cons (A7.keep [T7 r.tax] _) (A7.cons (A7.keep [eS zone] _) (A7.cons (A7.keep [eB exempt] _) (A7.cons hc.shift (A7.keep _ _))))
 refine E2 hTS (B2 (hlv _) ?_);conv=>whnf
 refine ⟨[15],[],List.range 17,by kernel_rfl,?_⟩;conv=>whnf
 refine cqW (s1 _) ?_
 refine cqW (s2 _) ?_
 refine ⟨_,⟨rfl,rfl⟩,?_⟩;conv=>whnf
 refine ⟨_,E2 (B9y rfl rfl rfl rfl) (F3 (s3 _)),?_⟩;conv=>whnf
 refine L1 at12 hf12 ?_
 refine stW at10 hf10 ?_
 refine L1 (A0 ..) (A6 ..) ?_
 exact ⟨rfl,hs0.over hb10⟩
def A5k (x:Add):Bool:=decide (x.qty<1)||decide (x.qty>100000)
def S4 (items:List Ab.Item) (x:Add):E6:=⟨x.sku,x.qty,(items.getD (Q7 items x.sku).toNat default).price⟩
def A2X (items:List Ab.Item) (adds:List Add):List E6×Int :=
 if adds.length<1∨adds.length>1000 then ([],2) else if (adds.any A5k)=true then ([],2) else if (adds.any fun x=>decide (Q7 items x.sku<0))=true then ([],7) else (adds.map (S4 items),0)
end Go.Proofs.YtaapofnkmpiknaaGreat
namespace Go.Proofs.YtaapofnkmpiknaaGreat
open Go Go.Ab
structure U5 where
 sku:C8
 price:Int
 sold:Int
 left:Int
 goods:Int
 tax:Int
 deriving Inhabited
def Q2 (x:U5):AV:=.agg [eS x.sku,eI x.price,eI x.sold,eI x.left,eI x.goods,eI x.tax]
structure A1R where
 kind:Int
 taken:Int
 given:Int
 deriving Inhabited
def Q5 (x:A1R):AV:=.agg [eI x.kind,eI x.taken,eI x.given]
instance:Inhabited A2n:=⟨⟨0,0,0,0,0⟩⟩
structure G5 where
 id:C8
 rules:Int
 zone:C8
 exempt:Bool
 codes:List C8
 day:Int
 lines:List U5
 ship:Int
 shipTax:Int
 fee:Int
 net:Int
 book:A2n
 tenders:List A1R
 deriving Inhabited
def J4 (o:G5):AV:=.agg [eS o.id,eI o.rules,eS o.zone,eB o.exempt,D5 o.codes,eI o.day,A8 6 Q2 o.lines,eI o.ship,eI o.shipTax,eI o.fee,eI o.net,eI o.book.goods,eI o.book.tax,eI o.book.ship,eI o.book.shipTax,eI o.book.fee,A8 3 Q5 o.tenders]
def A1d (x:Int):Bool:=J8 0 10000000000000 x
def E3 (x:Int):Bool:=J8 0 100000000000000 x
def U2 (x:U5):Bool:=C6 x.sku&&J8 0 1000000000 x.price&&J8 1 100000 x.sold&&J8 0 x.sold x.left&&A1d x.goods&&A1d x.tax
def tenderB (x:A1R):Bool:=J8 1 9 x.kind&&E3 x.taken&&J8 0 x.taken x.given
def L4 (b:A2n):List Int:=[b.goods,b.tax,b.ship,b.shipTax,b.fee]
def Q4 (b:A2n):Bool:=(L4 b).all E3
def U0 (b:A2n):Int:=if Q4 b=true then A2 (L4 b) else 0
def A0t (l:List A1R):Int:=l.foldl (fun a x=>a+(x.taken - x.given)) 0
def A5M (o:G5):Bool:=C6 o.id&&C6 o.zone&&J8 1 40 o.rules&&R6 o.codes&&J8 0 100000 o.day
def A1Y (o:G5):Bool:=decide ((o.lines.length:Int)≥1)&&decide ((o.lines.length:Int)≤1000)&&o.lines.all U2
def U6 (o:G5):Bool:=A1d o.ship&&A1d o.shipTax&&E3 o.fee&&E3 o.net
def A5J (o:G5):Bool:=Q4 o.book&&(U0 o.book==o.net)
def A0k (o:G5):Bool:=o.tenders.all tenderB&&(decide ((o.tenders.length:Int)≤6)&&(A0t o.tenders==o.net))
def H0 (o:G5):Bool:=decide ((o.tenders.length:Int)≤6)&&A5M o&&A1Y o&&U6 o&&A5J o&&A0k o
def A9M (o:G5):List E6:=o.lines.map fun x=>⟨x.sku,x.left,x.price⟩
def J3 (t n k:Int):Int:=t * k / n
def shG (l:List U5):Int:=l.foldl (fun a x=>a+J3 x.goods x.sold x.left) 0
def shT (l:List U5):Int:=l.foldl (fun a x=>a+J3 x.tax x.sold x.left) 0
def K6 (l:List U5):Bool:=l.any fun x=>decide (x.left>0)
def Q6 (o:G5):A2n:=if H0 o=true then ⟨shG o.lines,shT o.lines,if K6 o.lines=true then o.ship else 0,if K6 o.lines=true then o.shipTax else 0,0⟩ else ⟨0,0,0,0,0⟩
theorem A1X {x:U5} (h:U2 x=true):C6 x.sku=true∧(0≤x.price∧x.price≤1000000000)∧(1≤x.sold∧x.sold≤100000)∧(0≤x.left∧x.left≤x.sold)∧(0≤x.goods∧x.goods≤10000000000000)∧(0≤x.tax∧x.tax≤10000000000000):=by
 unfold U2 A1d at h
 simp only [D7f,D3] at h
 obtain ⟨⟨⟨⟨⟨h1,h2⟩,h3⟩,h4⟩,h5⟩,h6⟩:=h
 exact ⟨h1,h2,h3,h4,h5,h6⟩
theorem A0w {t n k:Int} (ht:0≤t) (hn:1≤n) (hk:0≤k) (hkn:k≤n):0≤J3 t n k∧J3 t n k≤t:=by
 unfold J3
 refine ⟨D8R (D8H ht hk) (by omega),?_⟩
 have h1:t * k≤t * n:=D7W hkn ht
 have h2:t * k / n≤t * n / n:=Int.ediv_le_ediv (by omega) h1
 rwa [Int.mul_ediv_cancel _ (by omega)] at h2
theorem B2j {α : Type} [Inhabited α] {f : α→Int} {M:Int} (hM:0≤M):∀ (l:List α),(∀ x∈l,0≤f x∧f x≤M)→∀ a:Int,a≤l.foldl (fun a x=>a+f x) a∧l.foldl (fun a x=>a+f x) a≤a+M * l.length
 | [],_,a=>⟨D7L _,by simp⟩
 | x::l,h,a=>by
  have h1:=h x (D7G ..)
  have h2:=B2j hM l (fun y hy=>h y (D7E _ hy)) (a+f x)
  simp only [D8o,D7N]
  have e:M * ((l.length+1:Nat):Int)=M * (l.length:Int)+M:=by rw [show ((l.length+1:Nat):Int)=(l.length:Int)+1 from rfl,D9p,D9Z]
  rw [e]
  exact ⟨by omega,by omega⟩
end Go.Proofs.YtaapofnkmpiknaaGreat
namespace Go.Proofs.YtaapofnkmpiknaaGreat
open Go Go.Ab
attribute [local irreducible] upd del
theorem B1c (x:Int) (st:St):S P 130 [eI x] st fun v st'=>v=.bool (A1d x)∧st'=st:=by
 refine F7 [] Tryz.func130 ?_
 unfold A1d J8
 refine B7 (fun h=>?_) (fun h=>?_)<;>rw [h]<;>(conv=>whnf)<;>exact ⟨rfl,rfl⟩
theorem A5u (x:Int) (st:St):S P 72 [eI x] st fun v st'=>v=.bool (E3 x)∧st'=st:=A7i x st
theorem C7L (x:U5) (st:St):S P 129 [Q2 x] st fun v st'=>v=.bool (U2 x)∧st'=st:=by
 have n1:=A4k x.sku st
 have n2:=B1c x.goods st
 have n3:=B1c x.tax st
 unfold U2 J8
 generalize C6 x.sku=b1 at *
 generalize A1d x.goods=b2 at *
 generalize A1d x.tax=b3 at *
 refine SyW [1] Tryz.func129 ?_
 repeat' ((conv=>whnf);first | refine B2 n1 ?_ | refine B2 n2 ?_ | refine B2 n3 ?_ | refine ⟨rfl,?_⟩ | (refine B7 (fun h=>?_) (fun h=>?_)<;>rw [h]))
 all_goals (conv=>whnf)
 all_goals (refine ⟨?_,rfl⟩;show AV.bool _=AV.bool _;clear n1 n2 n3)
 all_goals (simp only [*,D7u,D7z,D7Q,D7H,D7U,D7V,D7X,D7R,D7S,D7K,D8v])
theorem C2v (x:U5) (st:St):S P 128 [Q2 x] st fun v st'=>v=.bool (!U2 x)∧st'=st:=by
 have n1:=C7L x st
 generalize U2 x=b at *
 refine F7 [1] Tryz.func128 ?_
 refine I3 n1 ?_
 exact ⟨rfl,rfl⟩
theorem B5e (l:List U5) (hl:l.length≤9223372036854775807) (g:FuncId) (cs:List AV) (p:U5→Bool) (st:St)
  (hg:∀ x,x∈l→S P g (Q2 x::cs) st fun v st'=>v=.bool (p x)∧st'=st) :
  S P 193 [A8 6 Q2 l,.fn (.func g) [] cs] st fun v st'=>v=eI (idx p l)∧st'=st:=by
 refine F7 [] Tryz.func193 ?_
 refine ⟨[0,1,7,8],fun m vs st'=>∃ i:Nat,i≤l.length∧(∀ k,k<i→p (l.getD k default)=false)∧m=l.length - i∧vs=[A8 6 Q2 l,.fn (.func g) [] cs,eI l.length,eI i]∧st'=st,?_,?_⟩
 ·conv=>whnf
  exact ⟨_,0,D7C _,fun k hk=>absurd hk (by omega),rfl,rfl,rfl⟩
 ·rintro m vs st' ⟨i,hi,hok,rfl,rfl,rfl⟩
  conv=>whnf
  cases h:decide ((i:Int)<(l.length:Int))
  ·have:=D7g h
   conv=>whnf
   refine ⟨?_,rfl⟩
   rw [U8 fun k hk=>hok k (by omega)];rfl
  ·have hi':i<l.length:=by have:=D7h h;omega
   conv=>whnf
   refine E9 ?_
   refine B2 (hg (l.getD (i:Int).toNat default) (by simp [hi'])) ?_
   rw [D7q]
   cases hp:p (l.getD i default)
   ·conv=>whnf
    refine G3 ?_
    refine ⟨l.length - (i+1),by omega,i+1,by omega,fun k hk=>?_,rfl,by rw [B4 (by omega)],rfl⟩
    rcases D7Y.1 hk with h' | h'
    ·exact hok k h'
    ·rw [h'];exact hp
   ·conv=>whnf
    refine ⟨?_,rfl⟩
    rw [A1V hi' hok hp];rfl
theorem B8M (l:List U5) (hl:l.length≤9223372036854775807) (g:FuncId) (cs:List AV) (p:U5→Bool) (st:St)
  (hg:∀ x,x∈l→S P g (Q2 x::cs) st fun v st'=>v=.bool (p x)∧st'=st) :
  S P 127 [A8 6 Q2 l,.fn (.func g) [] cs] st fun v st'=>v=.bool (l.any p)∧st'=st:=by
 refine F7 [] Tryz.func127 ?_
 refine I3 (B5e l hl g cs p st hg) ?_
 refine ⟨?_,rfl⟩
 rw [←A1U];rfl
structure A2q (o:G5):Prop where
 id:Sm o.id.size
 zone:Sm o.zone.size
 codes:Sm o.codes.length
 scodes:∀ s∈o.codes,Sm s.size
 lines:o.lines.length≤100000
 slines:∀ x∈o.lines,Sm x.sku.size
 tenders:o.tenders.length≤100000
theorem C7n (o:G5) (hs:A2q o) (st:St):S P 66 [J4 o] st fun v st'=>v=.bool (A5M o)∧st'=st:=by
 have n1:=A4k o.id st
 have n2:=A4k o.zone st
 have n3:=C0i o.codes hs.codes st
 have n4:=C3S o.day st
 have e:A5M o=(C6 o.id&&C6 o.zone&&(decide (o.rules≥1)&&decide (o.rules≤40))&&R6 o.codes&&J8 0 100000 o.day):=rfl
 rw [e]
 clear e hs
 generalize C6 o.id=b1 at *
 generalize C6 o.zone=b2 at *
 generalize R6 o.codes=b3 at *
 generalize J8 0 100000 o.day=b4 at *
 refine SyW [1] Tryz.func66 ?_
 repeat' ((conv=>whnf);first | refine B2 n1 ?_ | refine B2 n2 ?_ | refine B2 n3 ?_ | refine B2 n4 ?_ | refine ⟨rfl,?_⟩ | (refine B7 (fun h=>?_) (fun h=>?_)<;>rw [h]))
 all_goals (conv=>whnf)
 all_goals (refine ⟨?_,rfl⟩;show AV.bool _=AV.bool _;clear n1 n2 n3 n4)
 all_goals (simp only [*,D7u,D7z,D7Q,D7H,D7U,D7V,D7X,D7R,D7S,D7K,D8v])
theorem C4H (o:G5) (hs:A2q o) (st:St):S P 67 [J4 o] st fun v st'=>v=.bool (A1Y o)∧st'=st:=by
 have n1:=B8M o.lines (by have:=hs.lines;omega) 128 [] (fun x=>!U2 x) st (fun x _=>C2v x st)
 have e:A1Y o=(decide ((o.lines.length:Int)≥1)&&decide ((o.lines.length:Int)≤1000)&&!(o.lines.any fun x=>!U2 x)):=by unfold A1Y;rw [List.all_eq_not_any_not]
 rw [e]
 clear e hs
 generalize (o.lines.any fun x=>!U2 x)=b1 at *
 refine SyW [1] Tryz.func67 ?_
 repeat' ((conv=>whnf);first | refine B2 n1 ?_ | refine ⟨rfl,?_⟩ | (refine B7 (fun h=>?_) (fun h=>?_)<;>rw [h]))
 all_goals (conv=>whnf)
 all_goals (refine ⟨?_,rfl⟩;show AV.bool _=AV.bool _;clear n1)
 all_goals (simp only [*,D7u,D7z,D7Q,D7H,D7U,D7V,D7X,D7R,D7S,D7K,D8v])
theorem B9a (o:G5) (st:St):S P 68 [J4 o] st fun v st'=>v=.bool (U6 o)∧st'=st:=by
 have n1:=B1c o.ship st
 have n2:=B1c o.shipTax st
 have n3:=A5u o.fee st
 have n4:=A5u o.net st
 unfold U6
 generalize A1d o.ship=b1 at *
 generalize A1d o.shipTax=b2 at *
 generalize E3 o.fee=b3 at *
 generalize E3 o.net=b4 at *
 refine SyW [1] Tryz.func68 ?_
 repeat' ((conv=>whnf);first | refine B2 n1 ?_ | refine B2 n2 ?_ | refine B2 n3 ?_ | refine B2 n4 ?_ | refine ⟨rfl,?_⟩ | (refine B7 (fun h=>?_) (fun h=>?_)<;>rw [h]))
 all_goals (conv=>whnf)
 all_goals (refine ⟨?_,rfl⟩;show AV.bool _=AV.bool _;clear n1 n2 n3 n4)
 all_goals (simp only [*,D7u,D7z,D7Q,D7H,D7U,D7V,D7X,D7R,D7S,D7K,D8v])
theorem B4m (b:A2n) (st:St):S P 71 [A0B b] st fun v st'=>v=A0B b∧st'=st:=by
 refine A0g ?_
 refine F7 [1] Tryz.func71 ?_
 intro b2 hb;conv=>whnf
 refine stW (A0 ..) rfl ?_
 refine L1 (A0 ..) (A6 ..) ?_
 exact ⟨rfl,((F8.refl st).upd hb).over hb⟩
theorem A8d {l:List Int}:∀ i,i≤l.length→(∀ k,k<i→E3 (gI l k)=true)→0≤A2 (l.take i)∧A2 (l.take i)≤100000000000000 * (i:Int)
 | 0,_,_=>⟨by rw [D8B];exact D7L _,by rw [D8B];exact D7L _⟩
 | i+1,hi,h=>by
  have ih:=A8d i (by omega) fun k hk=>h k (by omega)
  have hx:=D3.1 (h i (by omega))
  rw [K4 (by omega)]
  omega
theorem A9u {b:A2n} (h:∀ k,k<5→E3 (gI (L4 b) k)=true):Q4 b=true:=D7s.2 fun x hx=>by
 obtain ⟨k,hk,rfl⟩:=D2 hx
 exact h k hk
theorem A9v {b:A2n} {k:Nat} (hk:k<5) (h:E3 (gI (L4 b) k)=false):Q4 b=false:=by
 rw [D8O];intro e
 rw [D7s.1 e _ (A5 (l:=L4 b) (i:=k) hk)] at h;cases h
theorem C7Y (b:A2n) (st:St):S P 20 [A0B b] st fun v st'=>v=eI (U0 b)∧st'=st:=by
 have c1:=fun s=>B4m b s
 refine F7 [1] Tryz.func20 ?_
 refine I3 (c1 _) ?_
 refine lp 5 [3,7,8] (fun i vs s=>(∀ k,k<i→E3 (gI (L4 b) k)=true)∧vs=[eI (A2 ((L4 b).take i)),A0B b,eI i]∧s=st) ?_ ?_
 ·conv=>whnf
  exact ⟨fun k hk=>absurd hk (by omega),rfl,rfl⟩
 rintro i vs s hi ⟨hok,rfl,rfl⟩
 conv=>whnf
 cases h:decide ((i:Int)<5)
 ·obtain rfl:i=5:=by have:=D7g h;omega
  have e:U0 b=A2 (L4 b):=by unfold U0;rw [if_pos (A9u hok)]
  rw [e];conv=>whnf
  exact ⟨rfl,rfl⟩
 have hi':i<5:=by have:=D7h h;omega
 have hr:=fun s=>A5u (gI (L4 b) i) s
 have hb:=A8d (l:=L4 b) i (by show i≤5;omega) hok
 have hn:=K4 (l:=L4 b) (i:=i) hi'
 have hw:E3 (gI (L4 b) i)=true→IntKind.i64.wrap (A2 ((L4 b).take i)+gI (L4 b) i)=A2 ((L4 b).take (i+1)):=fun hm=>by
  have hx:=D3.1 hm
  rw [hn];exact A4 (by omega) (by omega)
 have yes:E3 (gI (L4 b) i)=true→∀ k,k<i+1→E3 (gI (L4 b) k)=true:=fun hm=>G9 hok hm
 have no:E3 (gI (L4 b) i)=false→U0 b=0:=fun hm=>by unfold U0;rw [A9v hi' hm];rfl
 generalize A2 ((L4 b).take i)=Z at *
 generalize hY:A2 ((L4 b).take (i+1))=Y at *
 generalize E3 (gI (L4 b) i)=m at hr hw yes no
 clear hn hok hb h hi
 conv=>whnf
 rcases (by omega:i=0∨i=1∨i=2∨i=3∨i=4) with rfl | rfl | rfl | rfl | rfl
 all_goals
  refine ⟨⟨rfl,Nat.le_of_ble_eq_true rfl,by omega,by omega⟩,?_⟩;conv=>whnf
  refine B2 (hr _) ?_
  cases m
  ·conv=>whnf
   rw [no rfl]
   exact ⟨rfl,rfl⟩
  ·conv=>whnf
   refine G3 ?_
   exact nx hi' ⟨yes rfl,by rw [hY,←hw rfl,B4 (by omega)];rfl,rfl⟩
theorem C7l (o:G5) (st:St):S P 69 [J4 o] st fun v st'=>v=.bool (A5J o)∧st'=st:=by
 have c1:=fun s=>B4m o.book s
 have c2:=fun s=>C7Y o.book s
 refine F7 [1] Tryz.func69 ?_
 refine I3 (c1 _) ?_
 refine lp 5 [1,8,9] (fun i vs s=>(∀ k,k<i→E3 (gI (L4 o.book) k)=true)∧vs=[.fptr (J4 o) 0,A0B o.book,eI i]∧s=st) ?_ ?_
 ·conv=>whnf
  exact ⟨fun k hk=>absurd hk (by omega),rfl,rfl⟩
 rintro i vs s hi ⟨hok,rfl,rfl⟩
 conv=>whnf
 cases h:decide ((i:Int)<5)
 ·obtain rfl:i=5:=by have:=D7g h;omega
  have e:A5J o=(U0 o.book==o.net):=by unfold A5J;rw [A9u hok];rfl
  rw [e]
  generalize U0 o.book=Z at *
  conv=>whnf
  refine ⟨[],[],List.range 9,by kernel_rfl,?_⟩;conv=>whnf
  refine cqW (c2 _) ?_
  exact ⟨rfl,rfl⟩
 have hi':i<5:=by have:=D7h h;omega
 have hr:=fun s=>A5u (gI (L4 o.book) i) s
 have yes:E3 (gI (L4 o.book) i)=true→∀ k,k<i+1→E3 (gI (L4 o.book) k)=true:=fun hm=>G9 hok hm
 have no:E3 (gI (L4 o.book) i)=false→A5J o=false:=fun hm=>by unfold A5J;rw [A9v hi' hm];rfl
 generalize E3 (gI (L4 o.book) i)=m at hr yes no
 clear hok h hi c2
 conv=>whnf
 rcases (by omega:i=0∨i=1∨i=2∨i=3∨i=4) with rfl | rfl | rfl | rfl | rfl
 all_goals
  refine ⟨⟨rfl,Nat.le_of_ble_eq_true rfl,by omega,by omega⟩,?_⟩;conv=>whnf
  refine B2 (hr _) ?_
  cases m
  ·conv=>whnf
   rw [no rfl]
   exact ⟨rfl,rfl⟩
  ·conv=>whnf
   refine G3 ?_
   exact nx hi' ⟨yes rfl,by rw [B4 (by omega)],rfl⟩
theorem B0g {x:A1R} (h:tenderB x=true):0≤x.taken - x.given∧x.taken - x.given≤100000000000000∧0≤x.taken∧x.taken≤100000000000000∧0≤x.given:=by
 unfold tenderB E3 at h
 simp only [D7f,D3] at h
 omega
theorem A9K {l:List A1R} {i:Nat} (hi:i<l.length):A0t (l.take (i+1))=A0t (l.take i)+((l.getD i default).taken - (l.getD i default).given):=G8 hi _ _
theorem B5c {l:List A1R}:∀ i,i≤l.length→(∀ k,k<i→tenderB (l.getD k default)=true)→0≤A0t (l.take i)∧A0t (l.take i)≤100000000000000 * (i:Int)
 | 0,_,_=>⟨by rw [D8B];exact D7L _,by rw [D8B];exact D7L _⟩
 | i+1,hi,h=>by
  have ih:=B5c i (by omega) fun k hk=>h k (by omega)
  have hx:=B0g (h i (by omega))
  rw [A9K (by omega)]
  omega
theorem B0E {l:List A1R} (h:∀ k,k<l.length→tenderB (l.getD k default)=true):l.all tenderB=true:=D7s.2 fun x hx=>by
 obtain ⟨k,hk,rfl⟩:=D2 hx;exact h k hk
theorem B3b {l:List A1R} {k:Nat} (hk:k<l.length) (h:tenderB (l.getD k default)=false):l.all tenderB=false:=by
 rw [D8O];intro e
 rw [D7s.1 e _ (A5 hk)] at h;cases h
theorem B9N {b1 b2:Bool} {t g:Int} (h:b1=true∧b2=true∧0≤g∧g≤t):(b1&&b2&&(decide (g≥0)&&decide (g≤t)))=true:=by
 simp only [D7f,D7d]
 exact ⟨⟨h.1,h.2.1⟩,h.2.2⟩
theorem B9c (o:G5) (h6:o.tenders.length≤6) (st:St):S P 70 [J4 o] st fun v st'=>v=.bool (A0k o)∧st'=st:=by
 refine F7 [1,5] Tryz.func70 ?_
 refine lp o.tenders.length [1,3,8,9,10] (fun i vs s=>(∀ k,k<i→tenderB (o.tenders.getD k default)=true)∧vs=[.fptr (J4 o) 0,eI (A0t (o.tenders.take i)),A8 3 Q5 o.tenders,eI o.tenders.length,eI i]∧s=st) ?_ ?_
 ·conv=>whnf
  exact ⟨fun k hk=>absurd hk (by omega),rfl,rfl⟩
 rintro i vs s hi ⟨hok,rfl,rfl⟩
 conv=>whnf
 cases h:decide ((i:Int)<(o.tenders.length:Int))
 ·obtain rfl:=B9 h hi
  have e:A0k o=(decide ((o.tenders.length:Int)≤6)&&(A0t o.tenders==o.net)):=by unfold A0k;rw [B0E hok];rfl
  rw [e,D7m]
  generalize A0t o.tenders=Z
  conv=>whnf
  refine B7 (fun h=>?_) (fun h=>?_)<;>rw [h]
  all_goals
   conv=>whnf
   exact ⟨rfl,rfl⟩
 have hi':=D6 h
 have n1:=fun s=>C4n (o.tenders.getD (i:Int).toNat default).kind s
 have n2:=fun s=>A5u (o.tenders.getD (i:Int).toNat default).taken s
 have hx:tenderB (o.tenders.getD (i:Int).toNat default)=(J8 1 9 (o.tenders.getD (i:Int).toNat default).kind&&E3 (o.tenders.getD (i:Int).toNat default).taken&&(decide ((o.tenders.getD (i:Int).toNat default).given≥0)&&decide ((o.tenders.getD (i:Int).toNat default).given≤(o.tenders.getD (i:Int).toNat default).taken))):=rfl
 have hb:=B5c i hi hok
 have hw:tenderB (o.tenders.getD (i:Int).toNat default)=true→IntKind.i64.wrap (A0t (o.tenders.take i)+IntKind.i64.wrap ((o.tenders.getD (i:Int).toNat default).taken - (o.tenders.getD (i:Int).toNat default).given))=A0t (o.tenders.take (i+1)):=fun hm=>by
  have hx:=B0g hm
  have h4:=A9K hi'
  rw [A4 (x:=(o.tenders.getD (i:Int).toNat default).taken - (o.tenders.getD (i:Int).toNat default).given) (by omega) (by omega)]
  have e:A0t (o.tenders.take (i+1))=A0t (o.tenders.take i)+((o.tenders.getD (i:Int).toNat default).taken - (o.tenders.getD (i:Int).toNat default).given):=h4
  rw [e];exact A4 (by omega) (by omega)
 have yes:tenderB (o.tenders.getD (i:Int).toNat default)=true→∀ k,k<i+1→tenderB (o.tenders.getD k default)=true:=fun hm=>G9 hok hm
 have no:tenderB (o.tenders.getD (i:Int).toNat default)=false→A0k o=false:=fun hm=>by unfold A0k;rw [B3b hi' hm];rfl
 generalize tenderB (o.tenders.getD (i:Int).toNat default)=t at hx hw yes no
 generalize hY:A0t (o.tenders.take (i+1))=Y at hw
 generalize A0t (o.tenders.take i)=Z at hw hb ⊢
 clear hok hb
 conv=>whnf
 refine ⟨rfl,⟨by omega,by omega⟩,?_⟩
 generalize J8 1 9 (o.tenders.getD (i:Int).toNat default).kind=b1 at *
 generalize E3 (o.tenders.getD (i:Int).toNat default).taken=b2 at *
 cases t with
 | true =>
  have hx:=hx.symm
  simp only [D7f,D7d] at hx
  obtain ⟨⟨rfl,rfl⟩,e3,e4⟩:=hx
  have g1:decide ((o.tenders.getD (i:Int).toNat default).given<0)=false:=D7j (by omega)
  have g2:decide ((o.tenders.getD (i:Int).toNat default).given>(o.tenders.getD (i:Int).toNat default).taken)=false:=D7j (by omega)
  repeat' ((conv=>whnf);first | refine B2 (n1 _) ?_ | refine B2 (n2 _) ?_ | rw [g1] | rw [g2])
  refine G3 ?_
  exact nx hi' ⟨yes rfl,by rw [hY,←hw rfl,B4 (by omega)],rfl⟩
 | false =>
  repeat' ((conv=>whnf);first | refine B2 (n1 _) ?_ | refine B2 (n2 _) ?_ | (refine B7 (fun h=>?_) (fun h=>?_)<;>rw [h]))
  all_goals first
   | (exfalso
      simp only [D7v,D7J,D7d,D7e] at *
      have:=B9N (b1:=b1) (b2:=b2) (t:=(o.tenders.getD (i:Int).toNat default).taken) (g:=(o.tenders.getD (i:Int).toNat default).given) ⟨by assumption,by assumption,by omega,by omega⟩
      rw [←hx] at this;cases this;done)
   | (conv=>whnf
      rw [no rfl]
      exact ⟨rfl,rfl⟩)
theorem A8Y (o:G5) (hs:A2q o) (st:St):S P 19 [J4 o] st fun v st'=>v=.bool (H0 o)∧st'=st:=by
 have n1:=fun s=>C7n o hs s
 have n2:=fun s=>C4H o hs s
 have n3:=fun s=>B9a o s
 have n4:=fun s=>C7l o s
 have n5:=fun h6 s=>B9c o h6 s
 have hB:H0 o=(decide ((o.tenders.length:Int)≤6)&&A5M o&&A1Y o&&U6 o&&A5J o&&A0k o):=rfl
 generalize A5M o=b1 at *
 generalize A1Y o=b2 at *
 generalize U6 o=b3 at *
 generalize A5J o=b4 at *
 generalize A0k o=b5 at *
 refine F7 [1,3] Tryz.func19 ?_
 refine B7 (fun h=>?_) (fun h=>?_)<;>rw [h]<;>simp only [D7d,D7e] at h
 ·rw [D7j (by omega)] at hB
  rw [hB];conv=>whnf
  exact ⟨rfl,rfl⟩
 rw [D7D (by omega),D7u] at hB
 have n5:=n5 (by omega)
 conv=>whnf
 refine lp 5 [22,23,24] (fun i vs s=>((0<i→b1=true)∧(1<i→b2=true)∧(2<i→b3=true)∧(3<i→b4=true)∧(4<i→b5=true))∧(∃ F:Nat→AV,F 0=.fn (.func 66) [J4 o] []∧F 1=.fn (.func 67) [J4 o] []∧F 2=.fn (.func 68) [J4 o] []∧F 3=.fn (.func 69) [J4 o] []∧F 4=.fn (.func 70) [J4 o] []∧vs=[.arr 1 5 F,eI 5,eI i])∧s=st) ?_ ?_
 ·conv=>whnf
  exact ⟨⟨fun h=>absurd h (by omega),fun h=>absurd h (by omega),fun h=>absurd h (by omega),fun h=>absurd h (by omega),fun h=>absurd h (by omega)⟩,⟨_,rfl,rfl,rfl,rfl,rfl,rfl⟩,rfl⟩
 rintro i vs s hi ⟨⟨g1,g2,g3,g4,g5⟩,⟨F,f0,f1,f2,f3,f4,rfl⟩,rfl⟩
 conv=>whnf
 cases h5:decide ((i:Int)<5)
 ·have h5:=D7g h5
  rw [g1 (by omega),g2 (by omega),g3 (by omega),g4 (by omega),g5 (by omega)] at hB
  rw [hB];conv=>whnf
  exact ⟨rfl,rfl⟩
 have hi':i<5:=by have:=D7h h5;omega
 conv=>whnf
 refine ⟨rfl,⟨by omega,by omega⟩,?_⟩
 rcases (by omega:i=0∨i=1∨i=2∨i=3∨i=4) with rfl | rfl | rfl | rfl | rfl
 case' inl=>rw [show F ((0:Nat):Int).toNat=_ from f0]
 case' inr.inl=>rw [show F ((1:Nat):Int).toNat=_ from f1]
 case' inr.inr.inl=>rw [show F ((2:Nat):Int).toNat=_ from f2]
 case' inr.inr.inr.inl=>rw [show F ((3:Nat):Int).toNat=_ from f3]
 case' inr.inr.inr.inr=>rw [show F ((4:Nat):Int).toNat=_ from f4]
 all_goals
  conv=>whnf
  first | refine B2 (n1 _) ?_ | refine B2 (n2 _) ?_ | refine B2 (n3 _) ?_ | refine B2 (n4 _) ?_ | refine B2 (n5 _) ?_
  conv=>whnf
  refine B7 (fun h6=>?_) (fun h6=>?_)<;>rw [h6]
  ·rw [D7v] at h6
   rw [h6] at hB
   simp only [D7z,D7H] at hB
   rw [hB];conv=>whnf
   exact ⟨rfl,rfl⟩
  ·rw [D7J] at h6;conv=>whnf
   refine G3 ?_
   exact nx hi' ⟨⟨fun _=>by first | exact h6 | exact g1 (by omega),fun h=>by first | exact h6 | exact g2 (by omega) | omega,fun h=>by first | exact h6 | exact g3 (by omega) | omega,fun h=>by first | exact h6 | exact g4 (by omega) | omega,fun h=>by first | exact h6 | exact g5 (by omega) | omega⟩,⟨F,f0,f1,f2,f3,f4,by rw [B4 (by omega)]⟩,rfl⟩
theorem C5p (l:List A2H) (hl:Sm l.length) (hs:∀ x∈l,A2A x.scope) (st:St):S P 240 [A8 3 A1L l] st fun v st'=>v=.bool (M0 l (fun _ x=>A1m x)&&(decide ((l.length:Int)≥1)&&decide ((l.length:Int)≤3)))∧st'=st:=by
 refine F7 [] Tryz.func240 ?_
 refine lp l.length [0,3] (fun i vs st'=>(∀ k,k<i→A1m (l.getD k default)=true)∧vs=[A8 3 A1L l,eI i]∧st'=st) ?_ ?_
 ·conv=>whnf
  exact ⟨fun k hk=>absurd hk (by omega),rfl,rfl⟩
 ·rintro i vs st' hi ⟨hok,rfl,rfl⟩
  conv=>whnf
  cases h:decide ((i:Int)<(l.length:Int))
  ·obtain rfl:=B9 h hi
   rw [L3 hok,D7u];conv=>whnf
   refine B7 (fun h=>?_) (fun h=>?_)<;>rw [h]<;>(conv=>whnf)<;>exact ⟨rfl,rfl⟩
  ·have hi':=D6 h
   have yes:A1m (l.getD (i:Int).toNat default)=true→∀ k,k<i+1→A1m (l.getD k default)=true:=fun h=>G9 hok h
   have no:A1m (l.getD (i:Int).toNat default)=false→M0 l (fun _ x=>A1m x)=false:=fun h=>Y0 (p:=fun _ x=>A1m x) hi' h
   have n1:=B7u (l.getD (i:Int).toNat default).scope (hs _ (A5 hi')) st'
   rw [show A1m (l.getD (i:Int).toNat default)=(A0I (l.getD (i:Int).toNat default).scope&&!(decide ((l.getD (i:Int).toNat default).count<1)||decide ((l.getD (i:Int).toNat default).count>100))) from rfl] at yes no
   generalize A0I (l.getD (i:Int).toNat default).scope=b1 at n1 yes no
   repeat' ((conv=>whnf);first | refine ⟨rfl,⟨by omega,by omega⟩,?_⟩ | refine B2 n1 ?_ | cases b1 | (refine B7 (fun h=>?_) (fun h=>?_)<;>rw [h]))
   all_goals (conv=>whnf)
   all_goals first
    | (rw [no (by simp only [*,D7X,D7U,D7S,D7H,D7z])];exact ⟨rfl,rfl⟩)
    | (refine ⟨rfl,?_⟩;conv=>whnf
       exact nx hi' ⟨yes (by simp only [*,D7V,D7K,D7Q]),by rw [B4 (by omega)],rfl⟩)
theorem B7z (l:List Int) (hl:Sm l.length) (st:St):S P 137 [A9 l] st fun v st'=>v=.bool (A1B l)∧st'=st:=by
 refine F7 [] Tryz.func137 ?_
 refine lp l.length [0,3] (fun i vs st'=>(∀ k,k<i→A2W l k (l.getD k default)=true)∧vs=[A9 l,eI i]∧st'=st) ?_ ?_
 ·conv=>whnf
  exact ⟨fun k hk=>absurd hk (by omega),rfl,rfl⟩
 ·rintro i vs st' hi ⟨hok,rfl,rfl⟩
  conv=>whnf
  cases h:decide ((i:Int)<(l.length:Int))
  ·obtain rfl:=B9 h hi
   conv=>whnf
   exact ⟨by rw [show A1B l=true from L3 hok];rfl,rfl⟩
  ·have hi':=D6 h
   have yes:A2W l i (l.getD (i:Int).toNat default)=true→∀ k,k<i+1→A2W l k (l.getD k default)=true:=fun h=>G9 hok h
   have no:A2W l i (l.getD (i:Int).toNat default)=false→A1B l=false:=fun h=>Y0 hi' h
   rw [show A2W l i (l.getD (i:Int).toNat default)=!(!(decide ((l.getD (i:Int).toNat default)≥1)&&decide ((l.getD (i:Int).toNat default)≤9))||(l.take i).any fun y=>l.getD (i:Int).toNat default==y) from rfl] at yes no
   have no':(decide ((l.getD (i:Int).toNat default)≥1)&&decide ((l.getD (i:Int).toNat default)≤9))=false→A1B l=false:=fun h=>no (by rw [h];rfl)
   repeat' ((conv=>whnf);first | refine ⟨rfl,⟨by omega,by omega⟩,?_⟩ | (refine B7 (fun h=>?_) (fun h=>?_)<;>rw [h]))
   all_goals (conv=>whnf)
   ·rw [no' (by rw [D9k,D7e,D7e];simp only [D7d,D7e] at *;omega)];exact ⟨rfl,rfl⟩
   ·rw [no' (by rw [D9k,D7e,D7e];simp only [D7d,D7e] at *;omega)];exact ⟨rfl,rfl⟩
   have hk:(decide ((l.getD (i:Int).toNat default)≥1)&&decide ((l.getD (i:Int).toNat default)≤9))=true:=by rw [D7f,D7d,D7d];simp only [D7d,D7e] at *;omega
   rw [hk] at yes no
   refine lp i [0,3,4] (fun j vs s=>(∀ k,k<j→(l.getD k default==l.getD i default)=false)∧vs=[A9 l,eI i,eI j]∧s=st') ?_ ?_
   ·conv=>whnf
    exact ⟨fun k hk=>absurd hk (by omega),rfl,rfl⟩
   ·rintro j vs s hj ⟨hokj,rfl,rfl⟩
    conv=>whnf
    cases h:decide ((j:Int)<(i:Int))
    ·obtain rfl:=B9 h hj
     conv=>whnf
     refine G3 ?_
     refine nx hi' ⟨yes ?_,by rw [B4 (by omega)],rfl⟩
     rw [D8q.2 fun x hx=>?_];rfl
     obtain ⟨k,hk2,rfl⟩:=D2 hx
     rw [D7n] at hk2
     have h4:=hokj k (by omega)
     rw [D7q,show (l.take j).getD k default=l.getD k default by rw [D7c,D7c,D7r (by omega)],E0k,h4];simp
    ·have hj':=D6 h
     conv=>whnf
     refine ⟨[],[],List.range 9,by kernel_rfl,?_⟩;conv=>whnf
     refine E9 ?_
     refine E9 ?_
     refine B7 (fun h1=>?_) (fun h1=>?_)<;>rw [h1]
     ·conv=>whnf
      refine ⟨?_,rfl⟩
      rw [no ?_];rfl
      rw [D8N.2 ⟨l.getD j default,?_,?_⟩];rfl
      ·rw [List.mem_take_iff_getElem]
       exact ⟨j,by omega,by simp [show j<l.length by omega]⟩
      ·rw [E0k];exact h1
     ·conv=>whnf
      refine G3 ?_
      exact nx hj' ⟨G9 hokj h1,by rw [B4 (by omega)],rfl⟩
structure B8l (z:K9):Prop where
 n:Sm z.rates.length
 s:Sm z.name.size
 r:∀ x∈z.rates,Sm x.cat.size
def A4l (l:List H4) (k:Nat) (x:H4):Bool:=C6 x.cat&&J8 0 10000 x.rate&&P7 (l.map H4.cat) k
def B3m (z:K9):Bool:=M0 z.rates (A4l z.rates)&&(decide ((z.rates.length:Int)≤40)&&J8 0 10000 z.rest&&J8 0 10000 z.ship)
theorem C5q (z:K9) (hz:B8l z) (st:St):S P 195 [S9 z] st fun v st'=>v=.bool (B3m z)∧st'=st:=by
 rw [show B3m z=(M0 z.rates (A4l z.rates)&&(decide ((z.rates.length:Int)≤40)&&J8 0 10000 z.rest&&J8 0 10000 z.ship)) from rfl]
 refine F7 [1] Tryz.func195 ?_
 refine lp z.rates.length [1,3] (fun i vs st'=>(∀ k,k<i→A4l z.rates k (z.rates.getD k default)=true)∧vs=[.fptr (S9 z) 0,eI i]∧st'=st) ?_ ?_
 ·conv=>whnf
  exact ⟨fun k hk=>absurd hk (by omega),rfl,rfl⟩
 ·rintro i vs st' hi ⟨hok,rfl,rfl⟩
  conv=>whnf
  cases h:decide ((i:Int)<(z.rates.length:Int))
  ·obtain rfl:=B9 h hi
   rw [show M0 z.rates (A4l z.rates)=true from L3 hok,D7u];conv=>whnf
   cases hd:decide ((z.rates.length:Int)≤40)
   ·conv=>whnf
    exact ⟨rfl,rfl⟩
   ·conv=>whnf
    refine I3 (A3g z.rest 10000 _) ?_
    cases J8 0 10000 z.rest
    ·conv=>whnf
     exact ⟨rfl,rfl⟩
    ·conv=>whnf
     refine I3 (A3g z.ship 10000 _) ?_
     exact ⟨rfl,rfl⟩
  ·have hi':=D6 h
   have yes:A4l z.rates i (z.rates.getD (i:Int).toNat default)=true→∀ k,k<i+1→A4l z.rates k (z.rates.getD k default)=true:=fun h=>G9 hok h
   have no:A4l z.rates i (z.rates.getD (i:Int).toNat default)=false→M0 z.rates (A4l z.rates)=false:=fun h=>Y0 hi' h
   have hl:=hz.n
   have hm:=hz.r _ (A5 hi')
   have n1:=A0X (z.rates.getD (i:Int).toNat default).cat hm st'
   have n2:=A3g (z.rates.getD (i:Int).toNat default).rate 10000 st'
   have e:0<i→P7 (z.rates.map H4.cat) i=!(Op.bytesLess (z.rates.getD i default).cat.toList (z.rates.getD (i - 1) default).cat.toList||(z.rates.getD i default).cat.toList==(z.rates.getD (i - 1) default).cat.toList):=fun hp=>by
    rw [B5A hp]
    have e1:(z.rates.map H4.cat).getD i default=(z.rates.getD i default).cat:=D4 H4.cat z.rates hi'
    have e2:(z.rates.map H4.cat).getD (i - 1) default=(z.rates.getD (i - 1) default).cat:=D4 H4.cat z.rates (by omega)
    rw [e1,e2]
   have e0:i=0→P7 (z.rates.map H4.cat) i=true:=fun h=>by rw [h];rfl
   rw [show A4l z.rates i (z.rates.getD (i:Int).toNat default)=(C6 (z.rates.getD (i:Int).toNat default).cat&&J8 0 10000 (z.rates.getD (i:Int).toNat default).rate&&P7 (z.rates.map H4.cat) i) from rfl] at yes no
   generalize C6 (z.rates.getD (i:Int).toNat default).cat=b1 at n1 yes no
   generalize J8 0 10000 (z.rates.getD (i:Int).toNat default).rate=b2 at n2 yes no
   conv=>whnf
   refine ⟨[],[],List.range 38,by kernel_rfl,?_⟩
   cases h0:decide ((i:Int)>0)
   ·replace e:=e0 (by have:=D7g h0;omega)
    repeat' ((conv=>whnf);first | refine ⟨rfl,⟨by omega,by omega⟩,?_⟩ | refine ⟨_,F3 n1,?_⟩ | refine ⟨_,F3 n2,?_⟩ | rw [h0] | cases b1 | cases b2)
    all_goals (conv=>whnf)
    all_goals first
     | (rw [no (by rfl)];exact ⟨rfl,rfl⟩)
     | (refine ⟨rfl,?_⟩;conv=>whnf
        exact nx hi' ⟨yes (by rw [e];rfl),by rw [B4 (by omega)],rfl⟩)
   ·have h0':0<i:=by have:=D7h h0;omega
    replace e:=e h0'
    have hw:=A7E h0' (by omega)
    repeat' ((conv=>whnf);first | refine ⟨rfl,⟨by omega,by omega⟩,?_⟩ | refine ⟨rfl,⟨by rw [hw];omega,by rw [hw];omega⟩,?_⟩ | refine ⟨_,F3 n1,?_⟩ | refine ⟨_,F3 n2,?_⟩ | rw [h0] | cases b1 | cases b2 | refine B7 (fun h=>?_) (fun h=>?_))
    all_goals (conv=>whnf)
    all_goals first
     | (rw [no (by rfl)];exact ⟨rfl,rfl⟩)
     | (rw [hw] at h;rw [no (by rw [e];exact D9e not h)];exact ⟨rfl,rfl⟩)
     | (rw [hw] at h;refine ⟨rfl,?_⟩;conv=>whnf
        exact nx hi' ⟨yes (by rw [e];exact D9e not h),by rw [B4 (by omega)],rfl⟩)
def A4r (l:List K9) (k:Nat) (x:K9):Bool:=C6 x.name&&B3m x&&P7 (l.map K9.name) k
structure B3M (x:Tax):Prop where
 n:Sm x.zones.length
 z:∀ z∈x.zones,B8l z
def C8a (x:Tax):Bool:=M0 x.zones (A4r x.zones)&&(decide ((x.zones.length:Int)≤20)&&decide (x.round≥0)&&decide (x.round≤2))
theorem C7H (x:Tax) (hx:B3M x) (st:St):S P 135 [T7 x] st fun v st'=>v=.bool (C8a x)∧st'=st:=by
 rw [show C8a x=(M0 x.zones (A4r x.zones)&&(decide ((x.zones.length:Int)≤20)&&decide (x.round≥0)&&decide (x.round≤2))) from rfl]
 refine F7 [1] Tryz.func135 ?_
 refine lp x.zones.length [1,3] (fun i vs st'=>(∀ k,k<i→A4r x.zones k (x.zones.getD k default)=true)∧vs=[.fptr (T7 x) 0,eI i]∧st'=st) ?_ ?_
 ·conv=>whnf
  exact ⟨fun k hk=>absurd hk (by omega),rfl,rfl⟩
 ·rintro i vs st' hi ⟨hok,rfl,rfl⟩
  conv=>whnf
  cases h:decide ((i:Int)<(x.zones.length:Int))
  ·obtain rfl:=B9 h hi
   rw [show M0 x.zones (A4r x.zones)=true from L3 hok,D7u];conv=>whnf
   refine B7 (fun h=>?_) (fun h=>?_)<;>rw [h]
   ·conv=>whnf
    refine B7 (fun h=>?_) (fun h=>?_)<;>rw [h]<;>(conv=>whnf)<;>exact ⟨rfl,rfl⟩
   ·conv=>whnf
    exact ⟨rfl,rfl⟩
  ·have hi':=D6 h
   have yes:A4r x.zones i (x.zones.getD (i:Int).toNat default)=true→∀ k,k<i+1→A4r x.zones k (x.zones.getD k default)=true:=fun h=>G9 hok h
   have no:A4r x.zones i (x.zones.getD (i:Int).toNat default)=false→M0 x.zones (A4r x.zones)=false:=fun h=>Y0 hi' h
   have hl:=hx.n
   have hm:=hx.z _ (A5 hi')
   have n1:=A0X (x.zones.getD (i:Int).toNat default).name hm.s st'
   have n2:=C5q (x.zones.getD (i:Int).toNat default) hm st'
   have e:0<i→P7 (x.zones.map K9.name) i=!(Op.bytesLess (x.zones.getD i default).name.toList (x.zones.getD (i - 1) default).name.toList||(x.zones.getD i default).name.toList==(x.zones.getD (i - 1) default).name.toList):=fun hp=>by
    rw [B5A hp]
    have e1:(x.zones.map K9.name).getD i default=(x.zones.getD i default).name:=D4 K9.name x.zones hi'
    have e2:(x.zones.map K9.name).getD (i - 1) default=(x.zones.getD (i - 1) default).name:=D4 K9.name x.zones (by omega)
    rw [e1,e2]
   have e0:i=0→P7 (x.zones.map K9.name) i=true:=fun h=>by rw [h];rfl
   rw [show A4r x.zones i (x.zones.getD (i:Int).toNat default)=(C6 (x.zones.getD (i:Int).toNat default).name&&B3m (x.zones.getD (i:Int).toNat default)&&P7 (x.zones.map K9.name) i) from rfl] at yes no
   generalize C6 (x.zones.getD (i:Int).toNat default).name=b1 at n1 yes no
   generalize B3m (x.zones.getD (i:Int).toNat default)=b2 at n2 yes no
   conv=>whnf
   refine ⟨[],[],List.range 37,by kernel_rfl,?_⟩
   cases h0:decide ((i:Int)>0)
   ·replace e:=e0 (by have:=D7g h0;omega)
    repeat' ((conv=>whnf);first | refine ⟨rfl,⟨by omega,by omega⟩,?_⟩ | refine ⟨_,F3 n1,?_⟩ | refine ⟨_,F3 n2,?_⟩ | rw [h0] | cases b1 | cases b2)
    all_goals (conv=>whnf)
    all_goals first
     | (rw [no (by rfl)];exact ⟨rfl,rfl⟩)
     | (refine ⟨rfl,?_⟩;conv=>whnf
        exact nx hi' ⟨yes (by rw [e];rfl),by rw [B4 (by omega)],rfl⟩)
   ·have h0':0<i:=by have:=D7h h0;omega
    replace e:=e h0'
    have hw:=A7E h0' (by omega)
    repeat' ((conv=>whnf);first | refine ⟨rfl,⟨by omega,by omega⟩,?_⟩ | refine ⟨rfl,⟨by rw [hw];omega,by rw [hw];omega⟩,?_⟩ | refine ⟨_,F3 n1,?_⟩ | refine ⟨_,F3 n2,?_⟩ | rw [h0] | cases b1 | cases b2 | refine B7 (fun h=>?_) (fun h=>?_))
    all_goals (conv=>whnf)
    all_goals first
     | (rw [no (by rfl)];exact ⟨rfl,rfl⟩)
     | (rw [hw] at h;rw [no (by rw [e];exact D9e not h)];exact ⟨rfl,rfl⟩)
     | (rw [hw] at h;refine ⟨rfl,?_⟩;conv=>whnf
        exact nx hi' ⟨yes (by rw [e];exact D9e not h),by rw [B4 (by omega)],rfl⟩)
theorem C6g (z:K9):(C6 z.name&&B3m z)=Z8 z:=by
 unfold B3m Z8 M0 A0H A4l A4L J8
 rw [D7i,←D9l]
 simp only [D7f,D7s,D7t,D7v,D8n,D7J,D7d,D7e]
 constructor
 ·rintro ⟨h0,h1,⟨h2,h3⟩,h4⟩
  exact ⟨⟨⟨⟨h0,h3⟩,h4⟩,by omega⟩,fun k hk=>(h1 k hk).1,fun k hk=>(h1 k hk).2⟩
 ·rintro ⟨⟨⟨⟨h0,h3⟩,h4⟩,h2⟩,h1,h5⟩
  exact ⟨h0,fun k hk=>⟨h1 k hk,h5 k hk⟩,⟨by omega,h3⟩,h4⟩
theorem C8b (x:Tax):C8a x=taxC x:=by
 unfold C8a taxC
 rw [←D9l]
 unfold M0 A0H A4r
 rw [D7i]
 simp only [C6g,D7f,D7s,D7t,D7v,D8n,D7J,D7d,D7e]
 constructor
 ·rintro ⟨h1,⟨h2,h3⟩,h4⟩
  exact ⟨⟨⟨by omega,by omega⟩,by omega⟩,fun k hk=>(h1 k hk).1,fun k hk=>(h1 k hk).2⟩
 ·rintro ⟨⟨⟨h3,h4⟩,h2⟩,h1,h5⟩
  exact ⟨fun k hk=>⟨h1 k hk,h5 k hk⟩,⟨by omega,by omega⟩,by omega⟩
theorem C5i (x:Tax) (hx:B3M x) (st:St):S P 135 [T7 x] st fun v st'=>v=.bool (taxC x)∧st'=st:=by
 rw [←C8b];exact C7H x hx st
def A3r (l:List A1g) (k:Nat) (x:A1g):Bool:=J8 0 10000000000000 x.least&&J8 0 10000 x.rate&&J8 0 10000000000000 x.amount&&!(x.rate==0&&x.amount==0)&&(k==0||!decide (x.least≤(l.getD (k - 1) default).least))
theorem C5r (l:List A1g) (hl:Sm l.length) (st:St):S P 241 [A8 3 Z6 l] st fun v st'=>v=.bool (M0 l (A3r l)&&(decide ((l.length:Int)≥1)&&decide ((l.length:Int)≤6)))∧st'=st:=by
 refine F7 [4] Tryz.func241 ?_
 refine lp l.length [0,3] (fun i vs st'=>(∀ k,k<i→A3r l k (l.getD k default)=true)∧vs=[A8 3 Z6 l,eI i]∧st'=st) ?_ ?_
 ·conv=>whnf
  exact ⟨fun k hk=>absurd hk (by omega),rfl,rfl⟩
 ·rintro i vs st' hi ⟨hok,rfl,rfl⟩
  conv=>whnf
  cases h:decide ((i:Int)<(l.length:Int))
  ·obtain rfl:=B9 h hi
   rw [L3 hok,D7u];conv=>whnf
   refine B7 (fun h=>?_) (fun h=>?_)<;>rw [h]<;>(conv=>whnf)<;>exact ⟨rfl,rfl⟩
  ·have hi':=D6 h
   have yes:A3r l i (l.getD (i:Int).toNat default)=true→∀ k,k<i+1→A3r l k (l.getD k default)=true:=fun h=>G9 hok h
   have no:A3r l i (l.getD (i:Int).toNat default)=false→M0 l (A3r l)=false:=fun h=>Y0 hi' h
   have n1:=A3g (l.getD (i:Int).toNat default).least 10000000000000 st'
   have n2:=A3g (l.getD (i:Int).toNat default).rate 10000 st'
   have n3:=A3g (l.getD (i:Int).toNat default).amount 10000000000000 st'
   have hw:=fun h=>A7E (i:=i) h (by omega)
   rw [show A3r l i (l.getD (i:Int).toNat default)=(J8 0 10000000000000 (l.getD (i:Int).toNat default).least&&J8 0 10000 (l.getD (i:Int).toNat default).rate&&J8 0 10000000000000 (l.getD (i:Int).toNat default).amount&&!((l.getD (i:Int).toNat default).rate==0&&(l.getD (i:Int).toNat default).amount==0)&&(i==0||!decide ((l.getD (i:Int).toNat default).least≤(l.getD (i - 1) default).least))) from rfl] at yes no
   generalize J8 0 10000000000000 (l.getD (i:Int).toNat default).least=b1 at n1 yes no
   generalize J8 0 10000 (l.getD (i:Int).toNat default).rate=b2 at n2 yes no
   generalize J8 0 10000000000000 (l.getD (i:Int).toNat default).amount=b3 at n3 yes no
   conv=>whnf
   refine E9 ?_
   refine ⟨[],[],List.range 41,by kernel_rfl,?_⟩
   have step:∀ b4:Bool,b4=((l.getD (i:Int).toNat default).rate==0&&(l.getD (i:Int).toNat default).amount==0)→True:=fun _ _=>trivial
   rcases D8w i with h0 | h0
   ·have h1:decide ((i:Int)>0)=false:=D7j (by omega)
    rw [show (i==0)=true from by rw [h0];rfl,D7X,D7Q] at yes no
    repeat' ((conv=>whnf);first | refine ⟨rfl,⟨by omega,by omega⟩,?_⟩ | refine ⟨_,F3 n1,?_⟩ | refine ⟨_,F3 n2,?_⟩ | refine ⟨_,F3 n3,?_⟩ | rw [h1] | cases b1 | cases b2 | cases b3 | (refine B7 (fun h=>?_) (fun h=>?_)<;>rw [h] at yes no ⊢))
    all_goals (conv=>whnf)
    all_goals first
     | (rw [no (by rfl)];exact ⟨rfl,rfl⟩)
     | (refine ⟨rfl,?_⟩;conv=>whnf
        exact nx hi' ⟨yes (by rfl),by rw [B4 (by omega)],rfl⟩)
   ·have h1:decide ((i:Int)>0)=true:=D7D (by omega)
    rw [show (i==0)=false from D8Q (by omega),D7R] at yes no
    have hw:=hw h0
    repeat' ((conv=>whnf);first | refine ⟨rfl,⟨by omega,by omega⟩,?_⟩ | refine ⟨rfl,⟨by rw [hw];omega,by rw [hw];omega⟩,?_⟩ | refine ⟨_,F3 n1,?_⟩ | refine ⟨_,F3 n2,?_⟩ | refine ⟨_,F3 n3,?_⟩ | rw [h1] | cases b1 | cases b2 | cases b3 | (refine B7 (fun h=>?_) (fun h=>?_)<;>rw [h] at yes no ⊢) | (rw [hw];refine B7 (fun h=>?_) (fun h=>?_)))
    all_goals (conv=>whnf)
    all_goals first
     | (rw [no (by rfl)];exact ⟨rfl,rfl⟩)
     | (rw [no (D9e not h)];exact ⟨rfl,rfl⟩)
     | (refine ⟨rfl,?_⟩;conv=>whnf
        exact nx hi' ⟨yes (D9e not h),by rw [B4 (by omega)],rfl⟩)
theorem C2Y (l:List A1g):(M0 l (A3r l)&&(decide ((l.length:Int)≥1)&&decide ((l.length:Int)≤6)))=A0r l:=by
 unfold A0r
 rw [Bool.and_comm]
 congr 1
 ·rw [Bool.not_or];congr 1<;>(rw [←decide_not];exact D8P.2 (by omega))
 ·rw [←D9l]
  unfold M0 A3r A4q J8
  simp only [D7f,D7s,D7t,D7v,D8n,D7J,D7d,D7e,D8g,D7Z]
  constructor
  ·intro h k hk
   obtain ⟨⟨⟨⟨h1,h2⟩,h3⟩,h4⟩,h5⟩:=h k hk
   refine ⟨⟨⟨⟨⟨⟨?_,by omega⟩,by omega⟩,by omega⟩,by omega⟩,by omega⟩,h4⟩
   split
   ·omega
   ·rcases h5 with h5 | h5<;>omega
  ·intro h
   have pos:∀ k,k<l.length→0≤(l.getD k default).least:=fun k=>by
    induction k with
    | zero=>intro hk;have:=(h 0 hk).1.1.1.1.1.1;rw [if_pos rfl] at this;omega
    | succ k ih=>intro hk;have:=(h (k+1) hk).1.1.1.1.1.1;rw [if_neg (by omega),Nat.add_sub_cancel] at this;have:=ih (by omega);omega
   intro k hk
   obtain ⟨⟨⟨⟨⟨⟨h1,h2⟩,h3⟩,h4⟩,h5⟩,h6⟩,h7⟩:=h k hk
   have:=pos k hk
   refine ⟨⟨⟨⟨⟨by omega,by omega⟩,by omega,by omega⟩,by omega,by omega⟩,h7⟩,?_⟩
   by_cases h0:k=0
   ·exact .inl h0
   ·rw [if_neg h0] at h1;exact .inr h1
structure A3l (p:B1):Prop where
 id:Sm p.id.size
 group:Sm p.group.size
 code:Sm p.code.size
 scope:A2A p.scope
 parts:Sm p.parts.length
 part:∀ x∈p.parts,A2A x.scope
 tiers:Sm p.tiers.length
def A6v (l:List A2H):Bool:=M0 l (fun _ x=>A1m x)&&(decide ((l.length:Int)≥1)&&decide ((l.length:Int)≤3))
def B2t (p:B1):Bool :=
 if p.kind=1 then (decide (p.rate≥1)&&decide (p.rate≤10000))&&p.amount==0&&(p.buy==0&&p.get==0)&&(p.parts.length:Int)==0&&(p.tiers.length:Int)==0
 else if p.kind=2 then p.rate==0&&decide (p.amount≥1)&&decide (p.amount≤1000000000)&&(p.buy==0&&p.get==0)&&(p.parts.length:Int)==0&&(p.tiers.length:Int)==0
 else if p.kind=3 then (decide (p.rate≥1)&&decide (p.rate≤10000))&&p.amount==0&&decide (p.buy≥1)&&decide (p.buy≤100)&&decide (p.get≥1)&&decide (p.get≤100)&&(p.parts.length:Int)==0&&(p.tiers.length:Int)==0
 else if p.kind=4 then p.rate==0&&J8 0 10000000000000 p.amount&&(p.buy==0&&p.get==0)&&A6v p.parts&&(p.tiers.length:Int)==0&&((p.scope.skus.length:Int)==0&&(p.scope.cats.length:Int)==0)
 else if p.kind=7 then (decide (p.rate≥1)&&decide (p.rate≤10000))&&p.amount==0&&(p.buy==0&&p.get==0)&&(p.parts.length:Int)==0&&(p.tiers.length:Int)==0&&((p.scope.skus.length:Int)==0&&(p.scope.cats.length:Int)==0)&&!p.closes
 else p.rate==0&&p.amount==0&&(p.buy==0&&p.get==0)&&(p.parts.length:Int)==0&&A0r p.tiers
theorem C2b (p:B1):(A6v p.parts&&J8 0 10000000000000 p.amount)=A7f p:=by
 unfold A6v A7f M0 J8
 rw [←D9l]
 simp only [D7f,D7s,D7t,D7v,D8n,D7d,D7e,D8q,D7J]
 constructor
 ·rintro ⟨⟨h1,h2⟩,h3⟩
  exact ⟨⟨⟨⟨by omega,by omega⟩,by omega⟩,by omega⟩,fun x hx=>by obtain ⟨k,hk,rfl⟩:=D2 hx;rw [h1 k hk];simp⟩
 ·rintro ⟨h1,h2⟩
  exact ⟨⟨fun k hk=>by have:=h2 _ (A5 hk);simpa using this,by omega⟩,by omega⟩
theorem C2h (p:B1) (hk:1≤p.kind∧p.kind≤7):B2t p=(A9R p&&A7y p):=by
 have hb:=C2b p
 unfold B2t A9R A7y A8N A8O A8P
 rw [←hb]
 rw [A3Z,A3Z,A3Z,A3Z]
 have e:(p.scope.skus.length+p.scope.cats.length==0)=(p.scope.skus.length==0&&p.scope.cats.length==0):=by
  rw [←D9l];simp only [D7f,D7Z];omega
 have u:∀ m x,J8 1 m x=true→(x==0)=false:=fun m x h=>by simp only [J8,D7f,D7d] at h;exact D8Q (by omega)
 have e4:A6v p.parts=true→(p.parts.length==0)=false:=fun h=>by
  simp only [A6v,D7f,D7d] at h;exact D8Q (by omega)
 have e5:A0r p.tiers=true→(p.tiers.length==0)=false:=fun h=>by
  simp only [A0r,D7f,D7v,D8n,D7e] at h;exact D8Q (by omega)
 rw [e]
 rcases (by omega:p.kind=1∨p.kind=2∨p.kind=3∨p.kind=4∨p.kind=5∨p.kind=6∨p.kind=7) with h | h | h | h | h | h | h
 all_goals (rw [h];simp only [show ∀ a b:Int,(if a=b then _ else _)=_ from fun _ _=>rfl,J8,if_true,D9L,Int.reduceEq,Int.reduceBEq,D7X,D7U,D7u,D7Q,D7R,D7V,bne,D7S,D7K])
 all_goals (generalize A0r p.tiers=b1 at *;generalize A6v p.parts=b2 at *;generalize (p.parts.length==0)=b3 at *;generalize (p.tiers.length==0)=b4 at *;generalize (p.scope.skus.length==0&&p.scope.cats.length==0)=b5;generalize (p.buy==0&&p.get==0)=b6;generalize (p.rate==0)=b7;generalize (p.amount==0)=b8;generalize decide (p.rate≥1)=b9;generalize decide (p.rate≤10000)=b10)
 all_goals first | done | ac_rfl
theorem C2g (p:B1):I0 p=(C6 p.id&&!decide (p.kind<1)&&!decide (p.kind>7)&&!decide (p.prio<0)&&!decide (p.prio>1000)&&((p.group.toList==(⟨#[]⟩:C8).toList)||C6 p.group)&&((p.code.toList==(⟨#[]⟩:C8).toList)||C6 p.code)&&A0I p.scope&&J8 0 10000000000000 p.least&&B2t p):=by
 by_cases hk:1≤p.kind∧p.kind≤7
 ·have e:J8 0 1000 p.prio=(!decide (p.prio<0)&&!decide (p.prio>1000)):=by
   unfold J8;congr 1<;>(rw [←decide_not];exact D8P.2 (by omega))
  unfold I0 A7x A2Y N7
  rw [C2h p hk,e,D7D (show p.kind≥1 from hk.1),D7D (show p.kind<8 by omega),D7j (show ¬ p.kind<1 by omega),D7j (show ¬ p.kind>7 by omega)]
  simp only [D7u,D7Q,D7K,Bool.and_assoc]
 ·have:I0 p=false:=by
   unfold I0
   rw [show (decide (p.kind≥1)&&decide (p.kind<8))=false from by rw [D9k,D7e,D7e];omega];rfl
  rw [this]
  by_cases h:p.kind<1
  ·rw [D7D h];simp
  ·rw [D7D (show p.kind>7 by omega)];simp
set_option maxHeartbeats 8000000 in
theorem B7s (p:B1) (hp:A3l p) (st:St):S P 194 [B8 p] st fun v st'=>v=.bool (I0 p)∧st'=st:=by
 have n1:=A0X p.id hp.id st
 have n2:=A0X p.group hp.group st
 have n3:=A0X p.code hp.code st
 have n4:=B7u p.scope hp.scope st
 have n5:=A3g p.least 10000000000000 st
 have n6:=A3g p.amount 10000000000000 st
 have n7:=C5p p.parts hp.parts hp.part st
 have n8:=C5r p.tiers hp.tiers st
 rw [C2Y] at n8
 rw [show (M0 p.parts (fun _ x=>A1m x)&&(decide ((p.parts.length:Int)≥1)&&decide ((p.parts.length:Int)≤3)))=A6v p.parts from rfl] at n7
 have hC:=C2g p
 generalize hb5:J8 0 10000000000000 p.least=b5 at *
 generalize hb6:J8 0 10000000000000 p.amount=b6 at *
 generalize hb7:A6v p.parts=b7 at *
 generalize hb8:A0r p.tiers=b8 at *
 generalize I0 p=R at *
 clear hp hb5
 obtain ⟨id,kind,prio,group,code,closes,scope,least,rate,amount,buy,get,parts,tiers⟩:=p
 simp only at *
 generalize C6 id=b1 at *
 generalize C6 group=b2 at *
 generalize C6 code=b3 at *
 generalize A0I scope=b4 at *
 obtain ⟨H,hH⟩:∃ H:Bool,H=(b1&&!decide (kind<1)&&!decide (kind>7)&&!decide (prio<0)&&!decide (prio>1000)&&((group.toList==(⟨#[]⟩:C8).toList)||b2)&&((code.toList==(⟨#[]⟩:C8).toList)||b3)&&b4&&b5):=⟨_,rfl⟩
 rw [←hH] at hC
 obtain ⟨q,hq⟩:∃ q:B1,q=⟨id,kind,prio,group,code,closes,scope,least,rate,amount,buy,get,parts,tiers⟩:=⟨_,rfl⟩
 have hB:∀ h:buy=q.buy,True:=fun _=>trivial
 refine C3u [1] [(1,[1,67]),(3,[1,3,4,5,6,7]),(4,[1,3,4,5,6,7,8]),(5,[1,3,4,5,6,7,8,9])] A4i mixed Tryz.func194 (by rfl) rfl rfl rfl ?_;conv=>whnf
 refine ⟨fun us s=>us=[.fptr (B8 ⟨id,kind,prio,group,code,closes,scope,least,rate,amount,buy,get,parts,tiers⟩) 0,.bool (!H)]∧s=st,?_,?_⟩
 ·repeat' ((conv=>whnf);first | refine B2 n1 ?_ | refine B2 n2 ?_ | refine B2 n3 ?_ | refine B2 n4 ?_ | refine B2 n5 ?_ | refine ⟨rfl,?_⟩ | (refine B7 (fun h=>?_) (fun h=>?_)<;>rw [h]))
  all_goals (refine ⟨?_,rfl⟩;refine D9e (fun b=>[_,AV.bool b]) ?_;rw [hH];clear hH hC n1 n2 n3 n4 n5 n6 n7 n8)
  all_goals (simp only [D7v,D7J] at *;simp only [*,D7u,D7z,D7Q,D7H,D7U,D7V,D7X,D7R,D7S,D7K,D8v])
 rintro vs s ⟨rfl,rfl⟩
 conv=>whnf
 refine B7 (fun h=>?_) (fun h=>?_)<;>rw [h]
 ·conv=>whnf
  exact ⟨by rw [hC,show H=false by simpa using h];rfl,rfl⟩
 have hT:R=B2t q:=by rw [hC,show H=true by simpa using h,hq];rfl
 clear hC h n1 n2 n3 n4 n5 hH
 conv=>whnf
 refine ⟨fun us s'=>us=[.fptr (B8 ⟨id,kind,prio,group,code,closes,scope,least,rate,amount,buy,get,parts,tiers⟩) 0,.bool (rate==0),.bool (amount==0),.bool (buy==0&&get==0),.bool ((parts.length:Int)==0),.bool ((tiers.length:Int)==0)]∧s'=s,?_,?_⟩
 ·refine .inl ⟨[],[],List.range 27,by kernel_rfl,?_⟩
  repeat' ((conv=>whnf);first | refine ⟨rfl,?_⟩ | (refine B7 (fun h=>?_) (fun h=>?_)<;>rw [h]))
  all_goals rfl
 rintro vs s ⟨rfl,rfl⟩
 conv=>whnf
 refine ⟨fun us s'=>us=[.fptr (B8 ⟨id,kind,prio,group,code,closes,scope,least,rate,amount,buy,get,parts,tiers⟩) 0,.bool (rate==0),.bool (amount==0),.bool (buy==0&&get==0),.bool ((parts.length:Int)==0),.bool ((tiers.length:Int)==0),.bool ((scope.skus.length:Int)==0&&(scope.cats.length:Int)==0)]∧s'=s,?_,?_⟩
 ·repeat' ((conv=>whnf);first | refine ⟨rfl,?_⟩ | (refine B7 (fun h=>?_) (fun h=>?_)<;>rw [h]))
  all_goals rfl
 rintro vs s ⟨rfl,rfl⟩
 conv=>whnf
 refine ⟨fun us s'=>us=[.fptr (B8 ⟨id,kind,prio,group,code,closes,scope,least,rate,amount,buy,get,parts,tiers⟩) 0,.bool (rate==0),.bool (amount==0),.bool (buy==0&&get==0),.bool ((parts.length:Int)==0),.bool ((tiers.length:Int)==0),.bool ((scope.skus.length:Int)==0&&(scope.cats.length:Int)==0),.bool (decide (rate≥1)&&decide (rate≤10000))]∧s'=s,?_,?_⟩
 ·repeat' ((conv=>whnf);first | refine ⟨rfl,?_⟩ | (refine B7 (fun h=>?_) (fun h=>?_)<;>rw [h]))
  all_goals rfl
 rintro vs s ⟨rfl,rfl⟩
 subst hq
 unfold B2t at hT
 simp only [hb6,hb7,hb8] at hT
 generalize (rate==0)=a1 at *
 generalize (amount==0)=a2 at *
 generalize (buy==0&&get==0)=a3 at *
 generalize ((parts.length:Int)==0)=a4 at *
 generalize ((tiers.length:Int)==0)=a5 at *
 generalize ((scope.skus.length:Int)==0&&(scope.cats.length:Int)==0)=a6 at *
 generalize (decide (rate≥1)&&decide (rate≤10000))=a7 at *
 have hk:kind=1∨kind=2∨kind=3∨kind=4∨kind=7∨(kind≠1∧kind≠2∧kind≠3∧kind≠4∧kind≠7):=by omega
 rcases hk with rfl | rfl | rfl | rfl | rfl | ⟨k1,k2,k3,k4,k7⟩
 case' inr.inr.inr.inr.inr =>
  rw [if_neg k1,if_neg k2,if_neg k3,if_neg k4,if_neg k7] at hT
  have e1:=D8Q k1
  have e2:=D8Q k2
  have e3:=D8Q k3
  have e4:=D8Q k4
  have e7:=D8Q k7
 all_goals try simp only [if_true,D9L,Int.reduceEq] at hT
 all_goals repeat' ((conv=>whnf);first | refine B2 n6 ?_ | refine B2 n7 ?_ | refine B2 n8 ?_ | rw [e1] | rw [e2] | rw [e3] | rw [e4] | rw [e7] | (refine B7 (fun h=>?_) (fun h=>?_)<;>rw [h]))
 all_goals (conv=>whnf)
 all_goals (refine ⟨?_,rfl⟩;show AV.bool _=AV.bool _;rw [hT];clear hT n6 n7 n8;try simp only [D7v,D7J] at *)
 all_goals (simp only [*,D7u,D7z,D7Q,D7H,D7U,D7V,D7X,D7R,D7S,D7K,D8v])
theorem A7Y (p:B1) (hp:A3l p) (hC:I0 p=true) (st:St):S P 194 [B8 p] st fun v st'=>v=.bool true∧st'=st:=by
 have h:=B7s p hp st
 rw [hC] at h;exact h
def A1M (o:List Int) (a:Nat) (x:Int):List Int:=o.take a++x::o.drop a
theorem W4 {o:List Int} {a:Nat} {x:Int} (h:a≤o.length):(A1M o a x).length=o.length+1:=by
 unfold A1M;simp;omega
theorem A9H {o:List Int} {a:Nat} {x:Int} (h:a≤o.length) {j:Nat} (hj:j<o.length+1):gI (A1M o a x) j=if j<a then gI o j else if j=a then x else gI o (j - 1):=by
 unfold A1M gI
 simp only [D7c]
 by_cases h1:j<a
 ·rw [if_pos h1,D7B (by rw [D7n];omega),D7r h1]
 ·rw [if_neg h1,D7A (by rw [D7n];omega),D7n,E0j h]
  by_cases h2:j=a
  ·rw [if_pos h2,h2,Nat.sub_self];rfl
  ·rw [if_neg h2,show j - a=(j - 1 - a)+1 by omega,D9N,D8J,show a+(j - 1 - a)=j - 1 by omega]
theorem A7Q (o:List Int) (a:Nat) (x:Int):(A1M o a x).Perm (o++[x]):=by
 unfold A1M
 refine List.perm_middle.trans ?_
 rw [D9r]
 exact (List.perm_append_comm (l₁:=[x]) (l₂:=o))
theorem A5t {R:Int→Int→Prop} {o:List Int} {a:Nat} {x:Int} (hs:o.Pairwise R) (h1:∀ k,k<a→k<o.length→R (gI o k) x) (h2:∀ k,a≤k→k<o.length→R x (gI o k)):(A1M o a x).Pairwise R:=by
 unfold A1M
 rw [List.pairwise_append,D8K]
 refine ⟨hs.sublist (List.take_sublist ..),⟨fun y hy=>?_,hs.sublist (D9P ..)⟩,fun y hy z hz=>?_⟩
 ·obtain ⟨k,hk,rfl⟩:=D9d hy
  rw [D9I] at hk
  have:=h2 (a+k) (by omega) (by omega)
  rw [List.getElem_drop];simpa [gI,show a+k<o.length by omega] using this
 ·obtain ⟨k,hk,rfl⟩:=D9d hy
  rw [D7n] at hk
  rcases D8A.1 hz with rfl | hz
  ·have:=h1 k (by omega) (by omega)
   rw [List.getElem_take];simpa [gI,show k<o.length by omega] using this
  ·obtain ⟨j,hj,rfl⟩:=D9d hz
   rw [D9I] at hj
   rw [List.getElem_take,List.getElem_drop]
   exact D8I.1 hs k (a+j) (by omega) (by omega) (by omega)
theorem B4q {R:Int→Int→Prop} {o:List Int} (hs:o.Pairwise R) {i j:Nat} (hij:i<j) (hj:j<o.length):R (gI o i) (gI o j):=by
 have:=D8I.1 hs i j (by omega) hj hij
 simpa [gI,show i<o.length by omega,hj] using this
theorem A8R {o p:List Int} (h:o.Perm p) {P:Int→Prop} (hp:∀ x∈p,P x) {k:Nat} (hk:k<o.length):P (gI o k):=hp _ (h.subset (A5 hk))
def B2G (ranks:List Int) (x:Int):QE:=(gI ranks x.toNat,x)
def B4I (ranks:List Int) (x y:Int):Prop:=H2 (B2G ranks y) (B2G ranks x)=false
def A4F (n:Nat):List Int:=(List.range n).map Int.ofNat
theorem B8X (n:Nat):A4F (n+1)=A4F n++[(n:Int)]:=by unfold A4F;rw [D8G,D7M];rfl
theorem A7e {n:Nat} {x:Int} (h:x∈A4F n):0≤x∧x.toNat<n:=by
 obtain ⟨k,hk,rfl⟩:=D7y.1 h
 have:=D7t.1 hk
 show 0≤(k:Int)∧(k:Int).toNat<n
 omega
theorem A9N (n:Nat):(A4F n).length=n:=by unfold A4F;simp
theorem B7r (ranks:List Int) (hl:ranks.length≤1000000) (st:St):S P 258 [A9 ranks] st fun v st'=>(∃ o:List Int,o.Perm (A4F ranks.length)∧o.Pairwise (B4I ranks)∧v=A9 o)∧st'=st:=by
 refine S.post (post:=fun v st'=>∃ o:List Int,o.Perm (A4F ranks.length)∧o.Pairwise (B4I ranks)∧E8 3 1 eI o st v st') ?_ (fun v st' ⟨o,h1,h2,h3⟩=>⟨_,st,⟨⟨o,h1,h2,rfl⟩,rfl⟩,h3.shift⟩)
 refine F7 [] Tryz.func258 ?_
 refine lp ranks.length [0,3,4] (fun i vs s=>∃ o sv,o.Perm (A4F i)∧o.Pairwise (B4I ranks)∧vs=[A9 ranks,sv,eI i]∧E8 3 1 eI o st sv s) ?_ ?_
 ·conv=>whnf
  exact ⟨[],.emp,.refl _,.nil,rfl,E8.start _ _ _ _⟩
 ·rintro i vs st' hi ⟨o,sv,hp,hs,rfl,hc0⟩
  conv=>whnf
  cases h:decide ((i:Int)<(ranks.length:Int))
  ·obtain rfl:=B9 h hi
   conv=>whnf
   exact ⟨o,hp,hs,hc0⟩
  ·have hi':=D6 h
   have hol:o.length=i:=by rw [hp.length_eq,A9N]
   have hom:∀ {k:Nat},k<o.length→0≤gI o k∧(gI o k).toNat<i:=fun hk=>A8R hp (fun x hx=>A7e hx) hk
   conv=>whnf
   refine lp o.length [0,3,4,5] (fun a vs s=>(∀ k,k<a→gI ranks (gI o k).toNat≥gI ranks i)∧vs=[A9 ranks,sv,eI i,eI a]∧s=st') ?_ ?_
   ·conv=>whnf
    exact ⟨fun k hk=>absurd hk (by omega),rfl,rfl⟩
   ·rintro a vs s ha ⟨hok,rfl,rfl⟩
    conv=>whnf
    refine ⟨[],[],List.range 18,by kernel_rfl,?_⟩
    have hc1:=hc0
    have hB:(a=o.length∨gI ranks (gI o a).toNat<gI ranks i)→(A1M o a (i:Int)).Perm (A4F (i+1))∧(A1M o a (i:Int)).Pairwise (B4I ranks):=fun hB=>by
     refine ⟨by rw [B8X];exact (A7Q o a i).trans (hp.append_right _),A5t hs (fun k hk hk2=>?_) (fun k hk hk2=>?_)⟩
     ·have:=hok k hk
      have:=hom hk2
      unfold B4I B2G;rw [T2];simp only [D7q];omega
     ·rcases hB with hB | hB
      ·omega
      ·have h6:gI ranks (gI o k).toNat≤gI ranks (gI o a).toNat:=by
        rcases E0d hk with e | e
        ·rw [e];exact D7L _
        ·have:=B4q hs e hk2
         unfold B4I B2G at this;rw [T2] at this;simp only at this;omega
       unfold B4I B2G;rw [T2];simp only [D7q];omega
    rcases hc1 with ⟨h0,rfl,hst⟩ | ⟨h0,b,g,hb,rfl,rfl,hg⟩
    case' inl =>
     have hst':=hst.symm
     subst hst'
     have hS:=hB (.inl (by omega))
     have hd:decide ((a:Int)<0)=false:=D7j (by omega)
     conv=>whnf
     rw [hd];conv=>whnf
    case' inr =>
     conv=>whnf
     cases hd:decide ((a:Int)<(o.length:Int))
     case' false =>
      have hS:=hB (.inl (by have:=D7g hd;omega))
      conv=>whnf
     case' true =>
      have hao:=D6 hd
      have hoa:=hom hao
      have hga:g (0+(a:Int).toNat)=eI (gI o a):=by rw [show 0+(a:Int).toNat=a by omega];exact hg a hao
      conv=>whnf
      refine E9 ?_
      refine L1 (A0 ..) hga ?_
      refine E9 ?_
      refine E9 ?_
      refine B7 (fun h2=>?_) (fun h2=>?_)<;>rw [h2]
      case' refine_1 =>
       conv=>whnf
       refine G3 ?_
       refine nx hao ⟨G9 hok (D7h h2),by rw [B4 (by omega)],rfl⟩
      case' refine_2 =>
       have hS:=hB (.inr (by have h7:=D7g h2;rw [D7q] at h7;exact Int.not_le.1 h7))
       conv=>whnf
    all_goals
     refine E8.app (q:=r3) (y:=0) (enc:=eI) rfl rfl rfl rfl rfl rfl (by show (_+1) * 8≤140737488355328;omega) hc0 (fun sv' s' hc'=>?_)
     have hln:(o++[0]).length=o.length+1:=by simp
     rcases hc' with ⟨h1,_⟩ | ⟨h1,b',g',hb',rfl,rfl,hg'⟩
     ·omega
     generalize (o++[0]).length=N at *
     subst hln;conv=>whnf
     have hw0:IntKind.i64.wrap (((o.length+1:Nat):Int) - 1)=((o.length - 0:Nat):Int):=by rw [A4 (by omega) (by omega)];omega
     rw [hw0]
     refine lp (o.length - a) [0,3,4,5,6] (fun r vs s=>vs=[A9 ranks,.own 1 b' 0 (o.length+1),eI i,eI a,eI (o.length - r:Nat)]∧∃ f,s=upd st b' ⟨3,1,o.length+1,f⟩∧∀ j,j<o.length+1→f j=eI (if o.length - r<j then gI o (j - 1) else gI (o++[0]) j)) ?_ ?_
     ·conv=>whnf
      exact ⟨rfl,g',rfl,fun j hj=>by rw [if_neg (by omega)];exact hg' j hj⟩
     ·clear hg' hc0
      rintro r vs s hr ⟨rfl,f,rfl,hf⟩
      conv=>whnf
      cases hk:decide (((o.length - r:Nat):Int)>(a:Int))
      ·have hra:r=o.length - a:=by have:=D7g hk;omega
       conv=>whnf
       refine E9 ?_
       refine stW (A0 ..) (hf _ (by omega)) ?_
       refine G3 ?_
       rw [A7q]
       refine nx hi' ⟨A1M o a (i:Int),.own 1 b' 0 (o.length+1),hS.1,hS.2,by rw [B4 (by omega)],?_⟩
       refine .inr ⟨by rw [W4 ha];omega,b',_,hb',by rw [W4 ha],by rw [W4 ha],fun j hj=>?_⟩
       rw [W4 ha] at hj
       show I6 f (0+(a:Int).toNat) _ j=eI (gI (A1M o a (i:Int)) j)
       rw [A9H ha hj]
       by_cases hja:j=a
       ·subst hja
        rw [show 0+((j:Nat):Int).toNat=j by omega,A6];show eI (i:Int)=_;rw [if_neg (by omega),if_pos rfl]
       ·rw [H7 (by omega),hf j hj]
        congr 1
        by_cases hj2:j<a
        ·rw [if_neg (by omega),if_pos hj2,O1 (by omega)]
        ·rw [if_pos (by omega),if_neg hj2,if_neg hja]
      ·have hra:a<o.length - r:=by have:=D7h hk;omega
       have hw1:=A7E (i:=o.length - r) (by omega) (by omega)
       conv=>whnf
       rw [hw1]
       refine E9 ?_
       refine ldV (v:=eI (gI o (o.length - r - 1))) (A0 ..) rfl (by omega) (by rw [hf _ (by omega),if_neg (by omega),O1 (by omega)];congr 2;omega) ?_;conv=>whnf
       refine E9 ?_
       refine stW (A0 ..) (hf _ (by omega)) ?_
       refine G3 ?_
       rw [A7q,hw1]
       refine nx (by omega) ⟨by rw [show o.length - (r+1)=o.length - r - 1 by omega],_,rfl,fun j hj=>?_⟩
       by_cases hj2:j=o.length - r
       ·subst hj2
        rw [show 0+((o.length - r:Nat):Int).toNat=o.length - r by omega,A6];show eI (gI o (o.length - r - 1))=_;rw [if_pos (by omega)]
       ·rw [H7 (by omega),hf j hj]
        congr 1
        by_cases hj3:o.length - r<j
        ·rw [if_pos hj3,if_pos (by omega)]
        ·rw [if_neg hj3,if_neg (by omega)]
def A1c (a b:B1):Bool:=if (a.prio != b.prio)=true then decide (a.prio>b.prio) else slt a.id b.id
theorem C5k (a b:B1) (st:St):S P 214 [B8 a,B8 b] st fun v st'=>v=.bool (A1c a b)∧st'=st:=by
 refine F7 [2,3] Tryz.func214 ?_
 unfold A1c
 refine B7 (fun h=>?_) (fun h=>?_)<;>rw [h]<;>(conv=>whnf)<;>exact ⟨rfl,rfl⟩
theorem A3B (a b:B1):A1c a b=true↔a.prio>b.prio∨(a.prio=b.prio∧slt a.id b.id=true):=by
 unfold A1c
 split
 ·rename_i h;simp only [D9F,ne_eq] at h;rw [D7d];omega
 ·rename_i h;simp only [D9F,ne_eq,Classical.not_not] at h;constructor
  ·exact fun h2=>.inr ⟨h,h2⟩
  ·rintro (h2 | h2)
   ·omega
   ·exact h2.2
theorem B0k {a b:B1} (h:A1c a b=true):A1c b a=false:=by
 rw [←D8h,A3B]
 rw [A3B] at h
 rcases h with h | ⟨h1,h2⟩
 ·rintro (h3 | h3)<;>omega
 ·rintro (h3 | h3)
  ·omega
  ·rw [A7l h2] at h3;cases h3.2
theorem A8K {a b c:B1} (h:A1c b a=false) (k:A1c c b=false):A1c c a=false:=by
 rw [←D8h,A3B] at *
 rintro (h3 | ⟨h3,h4⟩)
 ·by_cases e:b.prio>a.prio
  ·exact h (.inl e)
  ·exact k (.inl (by omega))
 ·by_cases e:b.prio=a.prio
  ·have h5:slt b.id a.id=false:=by rw [←D8h];exact fun e2=>h (.inr ⟨e,e2⟩)
   have h6:slt c.id b.id=false:=by rw [←D8h];exact fun e2=>k (.inr ⟨by omega,e2⟩)
   rw [A4Q h5 h6] at h4;cases h4
  ·by_cases e2:b.prio>a.prio
   ·exact h (.inl e2)
   ·exact k (.inl (by omega))
def A4u (l:List B1) (x y:Int):Prop:=A1c (F6 l y) (F6 l x)=false
theorem B7M (l:List Int):(C3 l).Pairwise (·≤·):=by
 have:=D9u (le:=fun a b:Int=>decide (a≤b)) (fun a b c h1 h2=>by simp only [D7d] at *;omega) (fun a b=>by simp only [D8g,D7d];omega) l
 exact this.imp (fun h=>by simpa using h)
theorem C2A (l:List Int) (hl:l.length≤1000000) (st:St):S P 286 [A9 l] st fun v st'=>v=A9 (C3 l)∧st'=st:=by
 refine A0y (ty:=3) ?_
 refine F7 [] Tryz.func286 ?_
 refine lp l.length [0,3,4] (fun i vs s=>∃ o sv,o.Perm (l.take i)∧o.Pairwise (·≤·)∧vs=[A9 l,sv,eI i]∧E8 3 1 eI o st sv s) ?_ ?_
 ·conv=>whnf
  exact ⟨[],.emp,.refl _,.nil,rfl,E8.start _ _ _ _⟩
 ·rintro i vs st' hi ⟨o,sv,hp,hs,rfl,hc0⟩
  conv=>whnf
  cases h:decide ((i:Int)<(l.length:Int))
  ·obtain rfl:=B9 h hi
   conv=>whnf
   rw [D7m] at hp
   have e:o=C3 l:=List.Perm.eq_of_pairwise (le:=fun a b:Int=>a≤b) (fun a b _ _ h1 h2=>Int.le_antisymm h1 h2) hs (B7M l) (hp.trans (A1E l).symm)
   rw [←e]
   exact hc0
  ·have hi':=D6 h
   have hol:o.length=i:=by rw [hp.length_eq,D7n];omega
   have hom:∀ {k:Nat},k<o.length→True:=fun hk=>trivial
   have hB:∀ a,a≤o.length→(∀ k,a≤k→k<o.length→gI o k>gI l i)→(a=0∨gI o (a - 1)≤gI l i)→(A1M o a (gI l i)).Perm (l.take (i+1))∧(A1M o a (gI l i)).Pairwise (·≤·):=fun a ha hok hB=>by
    refine ⟨by rw [L6 hi'];exact (A7Q o a _).trans (hp.append_right _),A5t hs (fun k hk hk2=>?_) (fun k hk hk2=>?_)⟩
    ·rcases hB with hB | hB
     ·omega
     ·rcases D8E k (a - 1) with e | e
      ·exact D9X (B4q hs e (by omega)) hB
      ·rw [show k=a - 1 by omega];exact hB
    ·have:=hok k hk hk2;omega
   have hc1:=hc0
   rcases hc1 with ⟨h0,hsv,hst⟩ | ⟨h0,b,g,hb,hsv,hst,hg⟩
   all_goals rw [hsv]
   all_goals (conv=>whnf)
   all_goals refine lp o.length [0,3,4,5] (fun r vs s=>(∀ k,o.length - r≤k→k<o.length→gI o k>gI l i)∧vs=[A9 l,sv,eI i,eI (o.length - r:Nat)]∧s=st') ?_ ?_
   all_goals first
    | (conv=>whnf
       exact ⟨fun k h1 h2=>absurd h2 (by omega),by first | (rw [hsv];rfl) | (rw [hsv,h0];rfl),rfl⟩)
    | skip
   all_goals
    rintro r vs s hr ⟨hok,rfl,rfl⟩
    conv=>whnf
    refine ⟨[],[],List.range 14,by kernel_rfl,?_⟩
    cases hd:decide (((o.length - r:Nat):Int)>0)
    case' false =>
     have ha:=Nat.sub_le o.length r
     have hS:=hB (o.length - r) ha hok (.inl (by have:=D7g hd;omega))
     generalize o.length - r=a at *
     conv=>whnf
     rw [hd];conv=>whnf
    case' true =>
     have hpos:0<o.length - r:=by have:=D7h hd;omega
     have hw2:=A7E hpos (by omega)
     have hoa:=hom (k:=o.length - r - 1) (by omega)
     first
      | (exfalso;omega)
      | (conv=>whnf
         rw [hd];conv=>whnf
         rw [hsv] at hc0
         rw [hsv,hw2]
         refine E9 ?_
         refine ldV (v:=eI (gI o (o.length - r - 1))) (by rw [hst];exact A0 ..) rfl (by omega) (by rw [hg _ (by omega)];congr 2;omega) ?_;conv=>whnf
         refine E9 ?_
         refine B7 (fun h2=>?_) (fun h2=>?_)<;>rw [h2]
         ·conv=>whnf
          refine G3 ?_
          refine nx (by omega) ⟨fun k h3 h4=>?_,by rw [hw2,show o.length - (r+1)=o.length - r - 1 by omega],rfl⟩
          rcases E0d h3 with h5 | h5
          ·rw [←h5,show o.length - (r+1)=o.length - r - 1 by omega];exact D7h h2
          ·exact hok k (by omega) h4
         have ha:=Nat.sub_le o.length r
         have hS:=hB (o.length - r) ha hok (.inr (by have h7:=D7g h2;rw [D7q] at h7;exact Int.not_lt.1 h7))
         clear hw2 hoa
         generalize o.length - r=a at *
         conv=>whnf)
    all_goals
     refine E8.app (q:=r3) (y:=0) (enc:=eI) rfl rfl rfl rfl rfl rfl (by show (_+1) * 8≤140737488355328;omega) hc0 (fun sv' s' hc'=>?_)
     have hln:(o++[0]).length=o.length+1:=by simp
     rcases hc' with ⟨h1,_⟩ | ⟨h1,b',g',hb',rfl,rfl,hg'⟩
     ·omega
     generalize (o++[0]).length=N at *
     subst hln;conv=>whnf
     have hw0:IntKind.i64.wrap (((o.length+1:Nat):Int) - 1)=((o.length - 0:Nat):Int):=by rw [A4 (by omega) (by omega)];omega
     rw [hw0]
     refine lp (o.length - a) [0,3,4,5,6] (fun r vs s=>vs=[A9 l,.own 1 b' 0 (o.length+1),eI i,eI a,eI (o.length - r:Nat)]∧∃ f,s=upd st b' ⟨3,1,o.length+1,f⟩∧∀ j,j<o.length+1→f j=eI (if o.length - r<j then gI o (j - 1) else gI (o++[0]) j)) ?_ ?_
     ·conv=>whnf
      exact ⟨rfl,g',rfl,fun j hj=>by rw [if_neg (by omega)];exact hg' j hj⟩
     ·clear hg' hc0
      rintro r vs s hr ⟨rfl,f,rfl,hf⟩
      conv=>whnf
      cases hk:decide (((o.length - r:Nat):Int)>(a:Int))
      ·have hra:r=o.length - a:=by have:=D7g hk;omega
       conv=>whnf
       refine E9 ?_
       refine E9 ?_
       refine stW (A0 ..) (hf _ (by omega)) ?_
       refine G3 ?_
       rw [A7q]
       refine nx hi' ⟨A1M o a (gI l i),.own 1 b' 0 (o.length+1),hS.1,hS.2,by rw [B4 (by omega)],?_⟩
       refine .inr ⟨by rw [W4 ha];omega,b',_,hb',by rw [W4 ha],by rw [W4 ha],fun j hj=>?_⟩
       rw [W4 ha] at hj
       show I6 f (0+(a:Int).toNat) _ j=eI (gI (A1M o a (gI l i)) j)
       rw [A9H ha hj]
       by_cases hja:j=a
       ·subst hja
        rw [show 0+((j:Nat):Int).toNat=j by omega,A6];show eI (gI l i)=_;rw [if_neg (by omega),if_pos rfl]
       ·rw [H7 (by omega),hf j hj]
        congr 1
        by_cases hj2:j<a
        ·rw [if_neg (by omega),if_pos hj2,O1 (by omega)]
        ·rw [if_pos (by omega),if_neg hj2,if_neg hja]
      ·have hra:a<o.length - r:=by have:=D7h hk;omega
       have hw1:=A7E (i:=o.length - r) (by omega) (by omega)
       conv=>whnf
       rw [hw1]
       refine E9 ?_
       refine ldV (v:=eI (gI o (o.length - r - 1))) (A0 ..) rfl (by omega) (by rw [hf _ (by omega),if_neg (by omega),O1 (by omega)];congr 2;omega) ?_;conv=>whnf
       refine E9 ?_
       refine stW (A0 ..) (hf _ (by omega)) ?_
       refine G3 ?_
       rw [A7q,hw1]
       refine nx (by omega) ⟨by rw [show o.length - (r+1)=o.length - r - 1 by omega],_,rfl,fun j hj=>?_⟩
       by_cases hj2:j=o.length - r
       ·subst hj2
        rw [show 0+((o.length - r:Nat):Int).toNat=o.length - r by omega,A6];show eI (gI o (o.length - r - 1))=_;rw [if_pos (by omega)]
       ·rw [H7 (by omega),hf j hj]
        congr 1
        by_cases hj3:o.length - r<j
        ·rw [if_pos hj3,if_pos (by omega)]
        ·rw [if_neg hj3,if_neg (by omega)]
set_option maxHeartbeats 1000000 in
theorem C5n (l:List B1) (codes:List C8) (hl:l.length≤1000) (hc:Sm codes.length) (st:St):S P 162 [A8 15 B8 l,D5 codes] st fun v st'=>(∃ o:List Int,o.Perm (places l codes l.length)∧o.Pairwise (A4u l)∧v=A9 o)∧st'=st:=by
 refine S.post (post:=fun v st'=>∃ o:List Int,o.Perm (places l codes l.length)∧o.Pairwise (A4u l)∧E8 3 1 eI o st v st') ?_ (fun v st' ⟨o,h1,h2,h3⟩=>⟨_,st,⟨⟨o,h1,h2,rfl⟩,rfl⟩,h3.shift⟩)
 refine F7 [] Tryz.func162 ?_
 refine lp l.length [0,1,5,6] (fun i vs s=>∃ o sv,o.Perm (places l codes i)∧o.Pairwise (A4u l)∧vs=[A8 15 B8 l,D5 codes,sv,eI i]∧E8 3 1 eI o st sv s) ?_ ?_
 ·conv=>whnf
  exact ⟨[],.emp,.refl _,.nil,rfl,E8.start _ _ _ _⟩
 ·rintro i vs st' hi ⟨o,sv,hp,hs,rfl,hc0⟩
  conv=>whnf
  cases h:decide ((i:Int)<(l.length:Int))
  ·obtain rfl:=B9 h hi
   conv=>whnf
   exact ⟨o,hp,hs,hc0⟩
  ·have hi':=D6 h
   have hol:o.length≤i:=by rw [hp.length_eq];exact A1C ..
   have hom:∀ {k:Nat},k<o.length→0≤gI o k∧(gI o k).toNat<i:=fun hk=>A8R hp (fun x hx=>A0U hx) hk
   have hps:=A6w l codes i
   have n1:=B9p codes (l.getD (i:Int).toNat default).code hc st'
   have ea:A0z codes (l.getD i default)=(!(!((l.getD (i:Int).toNat default).code.toList==(⟨#[]⟩:C8).toList))||codes.any fun y=>y.toList==(l.getD (i:Int).toNat default).code.toList):=by
    rw [D8v];unfold A0z N7;congr 1;congr 1;funext c;exact E0k
   have skip:A0z codes (l.getD i default)=false→o.Perm (places l codes (i+1)):=fun h=>by rw [hps,if_neg (by rw [h];simp),D8X];exact hp
   have hB:A0z codes (l.getD i default)=true→∀ a,a≤o.length→(∀ k,a≤k→k<o.length→A1c (F6 l i) (F6 l (gI o k))=true)→(a=0∨A1c (F6 l i) (F6 l (gI o (a - 1)))=false)→(A1M o a (i:Int)).Perm (places l codes (i+1))∧(A1M o a (i:Int)).Pairwise (A4u l):=fun hask a ha hok hB=>by
    refine ⟨by rw [hps,if_pos hask];exact (A7Q o a _).trans (hp.append_right _),A5t hs (fun k hk hk2=>?_) (fun k hk hk2=>?_)⟩
    ·rcases hB with hB | hB
     ·omega
     ·rcases D8E k (a - 1) with e | e
      ·exact A8K (B4q hs e (by omega)) hB
      ·rw [show k=a - 1 by omega];exact hB
    ·exact B0k (hok k hk hk2)
   rw [ea] at hB skip
   generalize (codes.any fun y=>y.toList==(l.getD (i:Int).toNat default).code.toList)=b1 at n1 hB skip
   clear ea hps
   conv=>whnf
   refine E9 ?_
   cases hn:(!((l.getD (i:Int).toNat default).code.toList==(⟨#[]⟩:C8).toList))
   case' true =>
    rw [hn] at hB skip;conv=>whnf
    refine E9 ?_
    refine B2 n1 ?_
    cases b1
    ·conv=>whnf
     refine G3 ?_
     exact nx hi' ⟨o,sv,skip rfl,hs,by rw [B4 (by omega)],hc0⟩
    replace hB:=hB rfl
   case' false =>
    rw [hn] at hB
    replace hB:=hB rfl
   all_goals clear skip n1
   all_goals (conv=>whnf)
   all_goals
    have hc1:=hc0
    rcases hc1 with ⟨h0,hsv,hst⟩ | ⟨h0,b,g,hb,hsv,hst,hg⟩
    all_goals rw [hsv]
    all_goals (conv=>whnf)
    all_goals refine lp o.length [0,1,5,6,7] (fun r vs s=>(∀ k,o.length - r≤k→k<o.length→A1c (F6 l i) (F6 l (gI o k))=true)∧vs=[A8 15 B8 l,D5 codes,sv,eI i,eI (o.length - r:Nat)]∧s=st') ?_ ?_
    all_goals first
     | (conv=>whnf
        exact ⟨fun k h1 h2=>absurd h2 (by omega),by first | (rw [hsv];rfl) | (rw [hsv,h0];rfl),rfl⟩)
     | skip
    all_goals
     rintro r vs s hr ⟨hok,rfl,rfl⟩
     conv=>whnf
     refine ⟨[],[],List.range 17,by kernel_rfl,?_⟩
     cases hd:decide (((o.length - r:Nat):Int)>0)
     case' false =>
      have ha:=Nat.sub_le o.length r
      have hS:=hB (o.length - r) ha hok (.inl (by have:=D7g hd;omega))
      generalize o.length - r=a at *
      conv=>whnf
      rw [hd];conv=>whnf
     case' true =>
      have hpos:0<o.length - r:=by have:=D7h hd;omega
      have hw2:=A7E hpos (by omega)
      have hoa:=hom (k:=o.length - r - 1) (by omega)
      first
       | (exfalso;omega)
       | (conv=>whnf
          rw [hd];conv=>whnf
          refine E9 ?_
          rw [hsv] at hc0
          rw [hsv,hw2]
          refine E9 ?_
          refine ldV (v:=eI (gI o (o.length - r - 1))) (by rw [hst];exact A0 ..) rfl (by omega) (by rw [hg _ (by omega)];congr 2;omega) ?_;conv=>whnf
          refine E9 ?_
          refine cqW (C5k (F6 l i) (F6 l (gI o (o.length - r - 1))) _) ?_
          refine B7 (fun h2=>?_) (fun h2=>?_)<;>rw [h2]
          ·conv=>whnf
           refine G3 ?_
           refine nx (by omega) ⟨fun k h3 h4=>?_,by rw [hw2,show o.length - (r+1)=o.length - r - 1 by omega],rfl⟩
           rcases E0d h3 with h5 | h5
           ·rw [←h5,show o.length - (r+1)=o.length - r - 1 by omega];exact h2
           ·exact hok k (by omega) h4
          have ha:=Nat.sub_le o.length r
          have hS:=hB (o.length - r) ha hok (.inr h2)
          clear hw2 hoa
          generalize o.length - r=a at *
          conv=>whnf)
     all_goals
      refine E8.app (q:=r3) (y:=0) (enc:=eI) rfl rfl rfl rfl rfl rfl (by show (_+1) * 8≤140737488355328;omega) hc0 (fun sv' s' hc'=>?_)
      have hln:(o++[0]).length=o.length+1:=by simp
      rcases hc' with ⟨h1,_⟩ | ⟨h1,b',g',hb',rfl,rfl,hg'⟩
      ·omega
      generalize (o++[0]).length=N at *
      subst hln;conv=>whnf
      have hw0:IntKind.i64.wrap (((o.length+1:Nat):Int) - 1)=((o.length - 0:Nat):Int):=by rw [A4 (by omega) (by omega)];omega
      rw [hw0]
      refine lp (o.length - a) [0,1,5,6,7,8] (fun r vs s=>vs=[A8 15 B8 l,D5 codes,.own 1 b' 0 (o.length+1),eI i,eI a,eI (o.length - r:Nat)]∧∃ f,s=upd st b' ⟨3,1,o.length+1,f⟩∧∀ j,j<o.length+1→f j=eI (if o.length - r<j then gI o (j - 1) else gI (o++[0]) j)) ?_ ?_
      ·conv=>whnf
       exact ⟨rfl,g',rfl,fun j hj=>by rw [if_neg (by omega)];exact hg' j hj⟩
      ·clear hg' hc0
       rintro r vs s hr ⟨rfl,f,rfl,hf⟩
       conv=>whnf
       cases hk:decide (((o.length - r:Nat):Int)>(a:Int))
       ·have hra:r=o.length - a:=by have:=D7g hk;omega
        conv=>whnf
        refine E9 ?_
        refine stW (A0 ..) (hf _ (by omega)) ?_
        refine G3 ?_
        rw [A7q]
        refine nx hi' ⟨A1M o a (i:Int),.own 1 b' 0 (o.length+1),hS.1,hS.2,by rw [B4 (by omega)],?_⟩
        refine .inr ⟨by rw [W4 ha];omega,b',_,hb',by rw [W4 ha],by rw [W4 ha],fun j hj=>?_⟩
        rw [W4 ha] at hj
        show I6 f (0+(a:Int).toNat) _ j=eI (gI (A1M o a (i:Int)) j)
        rw [A9H ha hj]
        by_cases hja:j=a
        ·subst hja
         rw [show 0+((j:Nat):Int).toNat=j by omega,A6];show eI (i:Int)=_;rw [if_neg (by omega),if_pos rfl]
        ·rw [H7 (by omega),hf j hj]
         congr 1
         by_cases hj2:j<a
         ·rw [if_neg (by omega),if_pos hj2,O1 (by omega)]
         ·rw [if_pos (by omega),if_neg hj2,if_neg hja]
       ·have hra:a<o.length - r:=by have:=D7h hk;omega
        have hw1:=A7E (i:=o.length - r) (by omega) (by omega)
        conv=>whnf
        rw [hw1]
        refine E9 ?_
        refine ldV (v:=eI (gI o (o.length - r - 1))) (A0 ..) rfl (by omega) (by rw [hf _ (by omega),if_neg (by omega),O1 (by omega)];congr 2;omega) ?_;conv=>whnf
        refine E9 ?_
        refine stW (A0 ..) (hf _ (by omega)) ?_
        refine G3 ?_
        rw [A7q,hw1]
        refine nx (by omega) ⟨by rw [show o.length - (r+1)=o.length - r - 1 by omega],_,rfl,fun j hj=>?_⟩
        by_cases hj2:j=o.length - r
        ·subst hj2
         rw [show 0+((o.length - r:Nat):Int).toNat=o.length - r by omega,A6];show eI (gI o (o.length - r - 1))=_;rw [if_pos (by omega)]
        ·rw [H7 (by omega),hf j hj]
         congr 1
         by_cases hj3:o.length - r<j
         ·rw [if_pos hj3,if_pos (by omega)]
         ·rw [if_neg hj3,if_neg (by omega)]
end Go.Proofs.YtaapofnkmpiknaaGreat
