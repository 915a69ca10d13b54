/- Part 31 of the proof: contracts of the functions that the law reaches -/
import Derived.Test.YtaapofnkmpiknaaGreatRt30
set_option maxRecDepth 100000
set_option linter.unusedVariables false
set_option linter.unusedSimpArgs false
namespace Go.Proofs.YtaapofnkmpiknaaGreat
open Go Go.Ab
attribute [local irreducible] upd del
structure B2F where
 rules:H0
 zone:Int
 exempt:Bool
 codes:List C8
 adds:List Add
 pays:List Pay
 day:Int
def B1c (s:B2F):AV:=.agg [A8 4 E5 s.rules.items,A8 15 B9 s.rules.promos,eB s.rules.tax.incl,eB s.rules.tax.byOrder,eI s.rules.tax.round,A8 4 T3 s.rules.tax.zones,eI s.rules.ship.fee,eI s.rules.ship.free,eI s.rules.policy.window,eI s.rules.policy.grace,eI s.rules.policy.mode,eI s.rules.policy.restock,B0 s.rules.policy.order,B0 s.rules.policy.credit,eI s.zone,eB s.exempt,C9 s.codes,A8 2 A4U s.adds,A8 2 B1b s.pays,eI s.day]
def A6F (s:B2F):Bool:=C2W s.rules&&decide ((s.codes.length:Int)<30)&&decide ((s.adds.length:Int)<60)&&decide ((s.pays.length:Int)<30)
theorem C1x (s:B2F) (st:St):S P 14 [B1c s] st fun v st'=>v=.bool (A6F s)∧st'=st:=by
 have n1:=C9b s.rules st
 have e:A6F s=(C2W s.rules&&decide ((s.codes.length:Int)<30)&&decide ((s.adds.length:Int)<60)&&decide ((s.pays.length:Int)<30)):=rfl
 rw [e]
 clear e
 generalize C2W s.rules=b1 at *
 refine SyW [1] Tryz.func14 ?_
 repeat' ((conv=>whnf);first | refine B3 n1 ?_ | (refine B8 (fun h=>?_) (fun h=>?_)<;>rw [h]) | fail)
 all_goals (conv=>whnf)
 all_goals exact ⟨rfl,rfl⟩
def B3r (id key zone:C8) (exempt:Bool) (codes:List C8) (adds:List Add) (pays:List Pay):AV :=
 .agg [eI 3,eS key,.emp,.emp,eB false,eB false,eI 0,.emp,eI 0,eI 0,eI 0,eI 0,eI 0,eI 0,.emp,.emp,eI 0,eS id,eS zone,eB exempt,C9 codes,A8 2 A4U adds,A8 2 B1b pays,.emp,eI 0,eI 0,eI 0]
def U2 (s:B2F):C8:=Q0 (B5 s.zone 3)
set_option maxHeartbeats 4000000 in
theorem C0s (s:B2F) (id key:C8) (Q:A0S) (e:Int) (hi:Sm (H6 s.rules).items.length) (hp:s.pays.length≤100000) (hT:0≤Q.total∧Q.total≤100000000000000)
  (hQ:∀ st,S P 56 [H5 (H6 s.rules),eS (U2 s),eB s.exempt,C9 (J4 s.codes),A8 3 H7 (X2 (H6 s.rules).items (J1 s.adds)).1] st fun v st'=>v=.tuple [A0e Q,eI e]∧st'=st) (st:St) :
  S P 16 [B1c s,eS id,eS key] st fun v st'=>v=.tuple [H5 (H6 s.rules),B3r id key (U2 s) s.exempt (J4 s.codes) (J1 s.adds) (R1 Q.total s.pays)]∧st'=st:=by
 have cR:=fun u=>B6n s.rules u
 have cZ:∀ u,S P 52 [eI s.zone] u fun r st'=>r=eS (U2 s)∧st'=u:=fun u=>B8T s.zone u
 have cC:=fun u=>B6i s.codes u
 have cA:=fun u=>B8f s.adds u
 have cL:=fun u=>B2b (H6 s.rules).items (J1 s.adds) hi u
 have cP:=fun u=>B8g Q.total s.pays hT.1 hT.2 hp u
 generalize H6 s.rules=R at *
 generalize U2 s=Z at *
 generalize J4 s.codes=C at *
 generalize J1 s.adds=A at *
 generalize X2 R.items A=LL at *
 generalize R1 Q.total s.pays=PP at *
 refine A1C ?_
 refine A7o [3,8] B2K mixed Tryz.func16 (by rfl) rfl rfl rfl ?_;conv=>whnf
 intro b6 hb6;conv=>whnf
 intro b7 hb7
 have h67:b6≠b7:=fun e=>by subst e;rw [A0] at hb7;cases hb7
 conv=>whnf
 refine I2 (cR _) ?_
 generalize hst:(upd (upd st b6 _) b7 _:St)=S0
 obtain ⟨f6,at6,hf6⟩:∃ f6:Nat→AV,S0 b6=some ⟨33,14,1,f6⟩∧f6 0=H2 r33.zero:=by rw [←hst,A9 h67];exact ⟨_,A0 ..,rfl⟩
 obtain ⟨f7,at7,hf7⟩:∃ f7:Nat→AV,S0 b7=some ⟨42,27,1,f7⟩∧f7 0=H2 r42.zero:=by rw [←hst];exact ⟨_,A0 ..,rfl⟩
 have hs0:E6 st S0:=by rw [←hst];exact ((E6.refl st).upd hb6).upd hb7
 have hn7:st b7=none:=(show E6 st (upd st b6 _) from (E6.refl st).upd hb6).none hb7
 clear hst hb7
 refine .inl ⟨[14,15],[3,4,6,8,9,11,12],List.range 16,by kernel_rfl,?_⟩
 repeat' ((conv=>whnf);first | refine ⟨_,fun s _=>⟨rfl,rfl⟩,?_⟩ | refine ⟨_,fun s _=>F2 (cZ s),?_⟩ | refine ⟨_,fun s _=>F2 (cC s),?_⟩ | refine ⟨_,fun s _=>F2 (cA s),?_⟩ | fail)
 intro b9 hb9
 have h69:b6≠b9:=fun e=>by subst e;rw [at6] at hb9;cases hb9
 have h79:b7≠b9:=fun e=>by subst e;rw [at7] at hb9;cases hb9
 conv=>whnf
 refine stU (A0 ..) rfl ?_
 rw [B7];conv=>whnf
 refine I4 (A0 ..) (A4 ..) ?_
 refine I2 (cL _) ?_
 refine I4 (A0 ..) (A4 ..) ?_
 refine I4 (A0 ..) (A4 ..) ?_
 refine I4 (A0 ..) (A4 ..) ?_
 refine I2 (hQ _) ?_
 generalize hst:(upd S0 b9 _:St)=S1
 obtain ⟨f9,at9,hf9⟩:∃ f9:Nat→AV,S1 b9=some ⟨42,27,1,f9⟩∧f9 0=.agg [eI 3,eS key,.emp,.emp,eB false,eB false,eI 0,.emp,eI 0,eI 0,eI 0,eI 0,eI 0,eI 0,.emp,.emp,eI 0,eS id,eS Z,eB s.exempt,C9 C,A8 2 A4U A,.emp,.emp,eI 0,eI 0,eI 0]:=by rw [←hst];exact ⟨_,A0 ..,by rw [A4];rfl⟩
 have hs1:E6 S0 S1:=by rw [←hst];exact (E6.refl S0).upd hb9
 have hn9:st b9=none:=hs0.none hb9
 clear hst hb9
 intro b12 hb12
 have h912:b9≠b12:=fun e=>by subst e;rw [at9] at hb12;cases hb12
 have h612:b6≠b12:=fun e=>by subst e;rw [hs1 _ _ at6] at hb12;cases hb12
 have h712:b7≠b12:=fun e=>by subst e;rw [hs1 _ _ at7] at hb12;cases hb12
 conv=>whnf
 refine stU (A0 ..) rfl ?_
 rw [B7];conv=>whnf
 refine I4 (A0 ..) (A4 ..) ?_
 refine I2 (cP _) ?_
 refine X8 ((A9 h912).trans at9) hf9 ?_
 refine .inr ⟨[2,3],.qui 0 (.qui 1 (.eff 2 [1] (.eff 3 [] (.done)))),by kernel_rfl,?_⟩
 generalize hst:(upd (upd S1 b12 _) b9 _:St)=S2
 obtain ⟨g9,bt9,hg9⟩:∃ g9:Nat→AV,S2 b9=some ⟨42,27,1,g9⟩∧g9 0=B3r id key Z s.exempt C A PP:=by rw [←hst];exact ⟨_,A0 ..,by rw [A4];rfl⟩
 have bt6:S2 b6=some ⟨33,14,1,f6⟩:=by rw [←hst,A9 h69,A9 h612];exact hs1 _ _ at6
 have bt7:S2 b7=some ⟨42,27,1,f7⟩:=by rw [←hst,A9 h79,A9 h712];exact hs1 _ _ at7
 have hs2:E6 st S2:=by rw [←hst];exact ((hs0.trans hs1).upd hb12).over hn9
 clear hst
 conv=>whnf
 refine ⟨_,fun _=>True,trivial,fun s _=>⟨rfl,rfl⟩,?_⟩;conv=>whnf
 refine ⟨_,fun u=>u b9=some ⟨42,27,1,g9⟩,bt9,fun u hu=>ldV hu rfl (by omega) hg9 ⟨rfl,rfl⟩,?_⟩;conv=>whnf
 refine X8 bt6 hf6 ?_
 refine ⟨fun h=>(A9 h69.symm).trans h,?_⟩;conv=>whnf
 refine X8 ((A9 h67.symm).trans bt7) hf7 ?_
 refine I4 ((A9 h67).trans (A0 ..)) (A4 ..) ?_
 refine I4 (A0 ..) (A4 ..) ?_
 exact ⟨rfl,(hs2.over hb6).over hn7⟩
theorem ROut.own0 {R:St→St→Prop} {ty e n:Nat} {fo:Nat→AV} {s t:St} {sv:AV} (h:ROut R ty e fo n s sv t) (hn:0<n):∃ b,sv=.own e b 0 n:=by
 obtain ⟨s0,⟨h0,_⟩ | ⟨_,b,_,_,h1,_⟩,h2⟩:=h
 ·omega
 ·exact ⟨b,h1⟩
theorem ROut.one {R:St→St→Prop} {ty e n:Nat} {fo:Nat→AV} {s t:St} {sv:AV} (h:ROut R ty e fo n s sv t):sv.one=true:=by rcases h.head with rfl | ⟨b,rfl⟩<;>rfl
section
variable {R0:St→St→Prop} {ty e:Nat} {F:Nat→Nat→AV} {len:Nat→Nat}
end
theorem _root_.Go.Ab.Col.over {ty e:Nat} {f:Nat→AV} {st:St} {n:Nat} {sv:AV} {st':St} (h:Col ty e f st n sv st') {b:Nat} {y y':K8} (hb:st b=some y):Col ty e f (upd st b y') n sv (upd st' b y'):=by
 rcases h with ⟨rfl,rfl,rfl⟩ | ⟨h0,c,g,hc,rfl,rfl,hg⟩
 ·exact .inl ⟨rfl,rfl,rfl⟩
 ·have hne:c≠b:=fun e=>by subst e;rw [hb] at hc;cases hc
  exact .inr ⟨h0,c,g,(A9 hne).trans hc,rfl,R3 hne,hg⟩
def A3P (p:Pay):Y6:=⟨p.kind,p.amount,0⟩
def D0P (id zone:C8) (set:Int) (exempt:Bool) (codes:List C8) (day:Int) (l:List E7) (q:A0S) (b:A4e) (pays:List Pay):R7 :=
 ⟨id,set,zone,exempt,codes,day,A1m l q,q.ship,q.shipTax,0,q.total,b,pays.map A3P⟩
end Go.Proofs.YtaapofnkmpiknaaGreat
namespace Go.Proofs.YtaapofnkmpiknaaGreat
open Go Go.Ab
theorem A6c (l:List Add):(1≤(J1 l).length∧(J1 l).length≤6)∧∀ x∈J1 l,(1≤x.qty∧x.qty≤9)∧∃ n,x.sku=A1q n:=by
 unfold J1
 split
 ·exact ⟨⟨by decide,by decide⟩,fun x hx=>by rw [D6f.1 hx];exact ⟨⟨by decide,by decide⟩,0,by kernel_rfl⟩⟩
 ·rename_i h
  refine ⟨by rw [D5F,D5K];omega,fun x hx=>?_⟩
  obtain ⟨y,_,rfl⟩:=D5X.1 hx
  have:=C7 y.qty (n:=9) (by decide)
  exact ⟨by show 1≤1+B5 y.qty 9∧1+B5 y.qty 9≤9;omega,_,rfl⟩
theorem B6h (items:List Ab.Item) (l:List Add):X2 (G2 items) (J1 l)=((J1 l).map (K1 (G2 items)),0):=by
 obtain ⟨⟨h1,h2⟩,h3⟩:=A6c l
 unfold X2
 rw [if_neg (by omega),if_neg (by
  rw [D6B,D6F]
  intro x hx
  have:=(h3 x hx).1
  unfold A0P
  rw [D5H (by omega),D5H (by omega)];simp),if_neg (by
  rw [D6B,D6F]
  intro x hx
  obtain ⟨n,hn⟩:=(h3 x hx).2
  have:=A7w items n
  unfold known at this
  rw [hn]
  simp only [D5C] at this ⊢
  omega)]
theorem B0h (l:List Ab.Item) (j:Nat):0≤((G2 l).getD j default).price∧((G2 l).getD j default).price<4000:=by
 by_cases h:j<8
 ·unfold G2
  rw [D4 (O4 l) (List.range 8) (by rw [D6d];exact h)]
  rw [show (List.range 8).getD j default=j by simp [D5A,h]]
  have:=C7 (l.getD j default).price (n:=4000) (by decide)
  unfold O4
  split
  ·exact ⟨by show 0≤B5 _ 4000;omega,by show B5 _ 4000<4000;omega⟩
  ·exact ⟨by show (0:Int)≤100+37 * (j:Int);omega,by show (100:Int)+37 * (j:Int)<4000;omega⟩
 ·rw [D5A,D8b (by rw [A2i];omega)]
  exact ⟨by decide,by decide⟩
theorem B5u (items:List Ab.Item) (l:List Add):A2k ((J1 l).map (K1 (G2 items))):=by
 obtain ⟨⟨h1,h2⟩,h3⟩:=A6c l
 refine ⟨by rw [D5F];omega,fun x hx=>?_,fun x hx=>?_⟩<;>obtain ⟨y,hy,rfl⟩:=D5X.1 hx
 ·have:=(h3 y hy).1
  have:=B0h items (P2 (G2 items) y.sku).toNat
  unfold K1
  exact ⟨⟨by show 0≤y.qty;omega,by show y.qty≤9;omega⟩,this⟩
 ·exact (h3 y hy).2
structure B0J (Q:A0S) (n:Nat):Prop where
 goods:∀ i,i<n→0≤gI Q.goods i∧gI Q.goods i≤1000000000000
 taxes:∀ i,i<n→0≤gI Q.taxes i∧gI Q.taxes i≤1000000000000
 ngoods:Q.goods.length=n
 ntaxes:Q.taxes.length=n
 ship:0≤Q.ship∧Q.ship≤1000000000000
 shipTax:0≤Q.shipTax∧Q.shipTax≤1000000000000
 total:Q.total=A2 Q.goods+A2 Q.taxes+Q.ship+Q.shipTax
theorem C7Z (l:List Int):(List.range l.length).map (gI l)=l:=by
 refine D8i (by rw [D5F,D6d]) fun i h1 h2=>?_
 rw [List.getElem_map,List.getElem_range]
 unfold gI
 simp [D5A,h2]
theorem B0C {l:List Int} {n:Nat} (hn:l.length=n) {M:Int} (h:∀ i,i<n→0≤gI l i∧gI l i≤M):0≤A2 l∧A2 l≤M * n:=by
 subst hn
 have:∀ k,k≤l.length→0≤A2 ((List.range k).map (gI l))∧A2 ((List.range k).map (gI l))≤M * k:=by
  intro k
  induction k with
  | zero=>intro _;exact ⟨D6j 0,by show (0:Int)≤M * ((0:Nat):Int);simp⟩
  | succ k ih =>
   intro hk
   have h1:=ih (by omega)
   have h2:=h k (by omega)
   have e:A2 ((List.range (k+1)).map (gI l))=A2 ((List.range k).map (gI l))+gI l k:=by
    rw [D7i,D6i];unfold A2;rw [D7P];rfl
   have e2:M * ((k+1:Nat):Int)=M * (k:Int)+M:=by rw [show ((k+1:Nat):Int)=(k:Int)+1 from rfl,D7M,D8y]
   rw [e,e2]
   omega
 have:=this l.length (D5J _)
 rwa [C7Z] at this
end Go.Proofs.YtaapofnkmpiknaaGreat
namespace Go.Proofs.YtaapofnkmpiknaaGreat
open Go Go.Ab
attribute [local irreducible] upd del
theorem B4R (t:Tax) (x rate:Int) (hr:0≤rate∧rate≤10000) (st:St):S P 167 [S7 t,eI x,eI rate] st fun v st'=>v=eI (N8 t x rate)∧st'=st:=by
 have hM:N8 t x rate=(W5 x rate (A9c t rate) t.round).1:=rfl
 have hw:IntKind.i64.wrap (10000+rate)=10000+rate:=A5 (by omega) (by omega)
 refine F1 [3] Tryz.func167 ?_
 cases hi:t.incl
 ·have hd:A9c t rate=10000:=by unfold A9c;rw [if_neg (by rw [hi];simp)];rfl
  conv=>whnf
  refine B3 (A8G x rate 10000 t.round st) ?_
  rw [hM,hd]
  generalize W5 x rate 10000 t.round=Y
  conv=>whnf
  exact ⟨rfl,rfl⟩
 ·have hd:A9c t rate=10000+rate:=by unfold A9c;rw [if_pos hi]
  conv=>whnf
  rw [hw]
  refine B3 (A8G x rate (10000+rate) t.round st) ?_
  rw [hM,hd]
  generalize W5 x rate (10000+rate) t.round=Y
  conv=>whnf
  exact ⟨rfl,rfl⟩
theorem C1l (z:K7) (c:C8) (hl:z.rates.length≤100000) (st:St):S P 168 [T3 z,eS c] st fun v st'=>v=eI (E9 z c)∧st'=st:=by
 refine F1 [2] Tryz.func168 ?_
 refine lp z.rates.length [1,2,5] (fun i vs t=>(∀ j,j<i→((z.rates.getD j default).cat.toList==c.toList)=false)∧vs=[eS c,.fptr (T3 z) 0,eI i]∧t=st) ?_ ?_
 ·conv=>whnf
  exact ⟨fun j hj=>absurd hj (by omega),rfl,rfl⟩
 ·rintro i vs t hi ⟨hno,rfl,rfl⟩
  conv=>whnf
  cases h1:decide ((i:Int)<(z.rates.length:Int))
  ·obtain rfl:=C2 h1 hi
   have hf:E9 z c=z.rest:=by unfold E9;rw [B0s hno]
   rw [hf];conv=>whnf
   exact ⟨rfl,rfl⟩
  ·have hi':=D6 h1
   conv=>whnf
   refine E4 ?_
   refine B8 (fun h2=>?_) (fun h2=>?_)<;>rw [h2]
   ·have hf:E9 z c=(z.rates.getD (i:Int).toNat default).rate:=by unfold E9;rw [B0r (p:=fun x:G5=>x.cat.toList==c.toList) hi' h2 hno];rfl
    rw [hf];conv=>whnf
    refine E4 ?_
    exact ⟨rfl,rfl⟩
   ·conv=>whnf
    refine F6 ?_
    exact nx hi' ⟨G6 hno h2,by rw [B4 (by omega)],rfl⟩
theorem C1m (t:Tax) (s:C8) (hl:t.zones.length≤100000) (st:St) :
  S P 166 [S7 t,eS s] st fun v st'=>v=.tuple [T3 ((A0a t.zones s).getD C7s),.bool (A0a t.zones s).isSome]∧st'=st:=by
 refine S.post (post:=fun v s'=>E6 st s'∧((∃ z,A0a t.zones s=some z∧v=.tuple [T3 z,.bool true])∨(A0a t.zones s=none∧v=.tuple [.agg [eS ⟨#[]⟩,.emp,eI 0,eI 0],.bool false]))) ?_ (fun v s' ⟨hs,h⟩=>⟨_,st,⟨rfl,rfl⟩,by
  rcases h with ⟨z,h1,rfl⟩ | ⟨h1,rfl⟩
  ·rw [h1];exact hs.shift _
  ·rw [h1]
   exact (A7.tuple (A7.cons (Le.shift (Le.agg (F0.cons (Le.refl _) (F0.cons (Le.emp _ _) (F0.refl _)))) _) (A7.keep _ _)) rfl).trans (hs.shift _)⟩)
 refine F1 [2] Tryz.func166 ?_
 intro b4 hb4;conv=>whnf
 refine lp t.zones.length [1,2,4,6] (fun i vs u=>(∀ j,j<i→((t.zones.getD j default).name.toList==s.toList)=false)∧vs=[eS s,.fptr (S7 t) 0,.optr 4 b4 0 0,eI i]∧u=upd st b4 ⟨103,4,1,fun _=>H2 C1g.zero⟩) ?_ ?_
 ·conv=>whnf
  exact ⟨fun j hj=>absurd hj (by omega),rfl,rfl⟩
 ·rintro i vs u hi ⟨hno,rfl,rfl⟩
  conv=>whnf
  cases h1:decide ((i:Int)<(t.zones.length:Int))
  ·obtain rfl:=C2 h1 hi
   have hf:A0a t.zones s=none:=B0s hno
   conv=>whnf
   refine X8 (A0 ..) rfl ?_
   refine I4 (A0 ..) (A4 ..) ?_
   exact ⟨((E6.refl st).upd hb4).over hb4,.inr ⟨hf,rfl⟩⟩
  ·have hi':=D6 h1
   conv=>whnf
   refine E4 ?_
   refine B8 (fun h2=>?_) (fun h2=>?_)<;>rw [h2]
   ·have hf:A0a t.zones s=some (t.zones.getD (i:Int).toNat default):=B0r (p:=fun z:K7=>z.name.toList==s.toList) hi' h2 hno
    conv=>whnf
    refine E4 ?_
    refine X8 (A0 ..) rfl ?_
    refine I4 (A0 ..) (A4 ..) ?_
    exact ⟨((E6.refl st).upd hb4).over hb4,.inl ⟨_,hf,rfl⟩⟩
   ·conv=>whnf
    refine F6 ?_
    exact nx hi' ⟨G6 hno h2,by rw [B4 (by omega)],rfl⟩
def IsF (n:Nat) (F:Nat→Bool) (y:K8):Prop:=∃ f,y=⟨4,1,n,f⟩∧∀ k,k<n→f k=eB (F k)
theorem IsF.set {n i:Nat} {F F':Nat→Bool} {f:Nat→AV} (h:∀ k,k<n→f k=eB (F k)) (h1:F' i=true) (h2:∀ k,k≠i→F' k=F k):IsF n F' ⟨4,1,n,I1 f i (eB true)⟩:=by
 refine ⟨_,rfl,fun k hk=>?_⟩
 by_cases e:k=i
 ·subst e;rw [A4,h1]
 ·rw [H4 e,h k hk,h2 k e]
def OD (bo bd:Nat) (L:List Int) (n:Nat) (F:Nat→Bool):St→St→Prop:=Y4 bo (IsL L) (Y4 bd (IsF n F) E6)
theorem A5J (bo bd:Nat) (L:List Int) (n:Nat) (F:Nat→Bool):L3 (OD bo bd L n F):=A0y (A0y J3)
section
variable {bo bd n:Nat} {L L':List Int} {F F':Nat→Bool} {s t:St} {y:K8}
theorem OD.setL (h:OD bo bd L n F s t) (hy:IsL L' y):OD bo bd L' n F s (upd t bo y):=Y4.set (A0y J3) h hy
theorem OD.setD (h:OD bo bd L n F s t) (hy:IsF n F' y):OD bo bd L n F' s (upd t bd y):=Y4.map h fun s h=>Y4.set J3 h hy
theorem OD.atL (h:OD bo bd L n F s t):∃ y,IsL L y∧t bo=some y:=Y4.at (A0y J3) h
theorem OD.atD (h:OD bo bd L n F s t):∃ y,IsF n F y∧t bd=some y:=by
 obtain ⟨_,y,_,h⟩:=h
 exact Y4.at J3 h
theorem OD.congr (h:OD bo bd L n F s t) (hF:∀ k,k<n→F k=F' k):OD bo bd L n F' s t :=
 Y4.map h fun s h=>Y4.weak h fun y ⟨f,h1,h2⟩=>⟨f,h1,fun k hk=>by rw [h2 k hk,hF k hk]⟩
end
theorem C0u {t:Tax} {rates nets:List Int} {D:Int→Bool} {L:List Int} (h:B3p t rates nets D L) (hD:∀ i,i<nets.length→D (-(gI rates i))=true):L=G9 t rates nets:=by
 have hl:(G9 t rates nets).length=nets.length:=by unfold G9;rw [D5F,D6d]
 refine C2Z (by rw [h.1,hl]) fun i h1=>?_
 have hi:i<nets.length:=by rw [←h.1];exact h1
 have h3:=h.2 i hi
 rw [if_pos (hD i hi)] at h3
 rw [h3]
 unfold G9 gI
 rw [D5A,D6y,D7e hi];rfl
def A8c (rates:List Int) (k:Int) (m:Nat):Nat:=((List.range m).filter fun i=>-(gI rates i)==k).length
theorem C2M (rates:List Int) (k:Int) (m:Nat):A8c rates k (m+1)=A8c rates k m+(if (-(gI rates m)==k)=true then 1 else 0):=by
 unfold A8c
 rw [D7i,D7x,D5M]
 congr 1
 by_cases h:(-(gI rates m)==k)=true
 ·rw [if_pos h,D6G (p:=fun i=>-(gI rates i)==k) h];rfl
 ·rw [if_neg h,D6N (p:=fun i=>-(gI rates i)==k) h];rfl
theorem C5n (rates:List Int) (k:Int):A8c rates k rates.length=(K9 rates k).length:=rfl
theorem C7K {rates:List Int} {k:Int} {m:Nat} (hm:m≤rates.length):A8c rates k m≤(K9 rates k).length:=by
 unfold A8c K9
 exact (((List.range_sublist.2 hm).filter _).length_le)
theorem C7J {rates:List Int} {k:Int} {m:Nat} (hm:m<rates.length) (h:(-(gI rates m)==k)=true):A8c rates k m<(K9 rates k).length∧gN (K9 rates k) (A8c rates k m)=m:=by
 have hk : -(gI rates m)=k:=by simpa using h
 have hg:m∈K9 rates k:=D6D.2 ⟨D5U.2 hm,h⟩
 have e1:=A8p hm
 rw [(A0B hg).2.2] at e1
 have e2:A0D rates m=A8c rates k m:=by
  unfold A0D A8c
  congr 1
  refine List.filter_congr fun j _=>?_
  rw [D8G,D6z,D6z];omega
 rw [e2] at e1
 obtain ⟨e3,e4⟩:=D5S.1 e1
 refine ⟨e3,?_⟩
 show (((K9 rates k).getD (A8c rates k m) 0:Nat):Int)=m
 rw [D5A,e1];rfl
set_option maxHeartbeats 8000000 in
theorem B6z (t:Tax) (rates nets:List Int) (hn:A4J nets) (hr:rates.length=nets.length) (hq:∀ x∈rates,0≤x∧x≤10000) (st:St) :
  S P 169 [S7 t,B0 rates,B0 nets] st fun v s=>∃ bo,v=.own 1 bo 0 nets.length∧st bo=none∧(∃ y,IsL (G9 t rates nets) y∧s bo=some y)∧E6 st s:=by
 have hnl:=hn.len
 have hns:=hn.sum
 have hol:(G9 t rates nets).length=nets.length:=by unfold G9;rw [D5F,D6d]
 refine F1 [3] Tryz.func169 ?_
 refine mkO rfl rfl rfl (by show 8 * nets.length≤_;omega) (by omega) (by rfl) (fun bo hbo=>?_);conv=>whnf
 refine mkO rfl rfl rfl (by show 1 * nets.length≤_;omega) (by omega) (by rfl) (fun bd hbd=>?_);conv=>whnf
 refine lp nets.length [1,2,3,7,8,9] (fun i vs u=>∃ (D:Int→Bool) (L:List Int),vs=[B0 rates,B0 nets,.fptr (S7 t) 0,.own 1 bo 0 nets.length,.own 1 bd 0 nets.length,eI i]∧B3p t rates nets D L∧(∀ j,j<i→D (-(gI rates j))=true)∧OD bo bd L nets.length (fun k=>D (-(gI rates k))) st u) ?_ ?_
 ·conv=>whnf
  exact ⟨fun _=>false,List.replicate nets.length 0,rfl,⟨D6J,fun i hi=>by
   rw [if_neg (by simp)];unfold gI
   rw [D5A,D7S];split<;>rfl⟩,fun j hj=>absurd hj (by omega),hbo,_,⟨fun _=>H2 r2.zero,by rw [D6J];rfl,fun i hi=>by
   unfold gI;rw [D5A,D7S];split<;>rfl⟩,hbd,_,⟨fun _=>H2 r4.zero,rfl,fun k hk=>rfl⟩,E6.refl _⟩
 rintro i vs u hi ⟨D,L,rfl,hdone,hall,hR⟩
 conv=>whnf
 cases h1:decide ((i:Int)<(nets.length:Int))
 case false =>
  obtain rfl:=C2 h1 hi
  have hL:=C0u hdone hall
  conv=>whnf
  obtain ⟨y,hy,hb⟩:=hR.atL
  have hsup:=(A5J ..).sup hR
  exact ⟨bo,rfl,hbo,⟨y,by rw [←hL];exact hy,hb⟩,hsup⟩
 have hi':=D6 h1
 obtain ⟨yd,⟨fd,rfl,hfd⟩,hbd2⟩:=hR.atD
 conv=>whnf
 refine E4 ?_
 refine ldV hbd2 rfl (by omega) (v:=eB (D (-(gI rates i)))) (by rw [show 0+((i:Nat):Int).toNat=i by omega];exact hfd i hi') ?_;conv=>whnf
 cases hD:D (-(gI rates i))
 case true =>
  conv=>whnf
  refine F6 ?_
  exact nx hi' ⟨D,L,by rw [B4 (by omega)],hdone,fun j hj=>by
   by_cases e:j=i
   ·rw [e];exact hD
   ·exact hall j (by omega),hR⟩
 clear hbd2 hfd
 obtain ⟨key,hkey⟩:∃ key,key = -(gI rates i):=⟨_,rfl⟩
 have hil:i<rates.length:=by omega
 have hrate:0≤gI rates i∧gI rates i≤10000:=hq (gI rates i) (A6 hil)
 have him:i∈K9 rates key:=D6D.2 ⟨D5U.2 hil,by rw [hkey];exact D7O _⟩
 have hnext:=B3q (k:=key) hdone hr
 have hcl:=fun m (hm:m≤rates.length)=>C7K (k:=key) hm
 have hca:=fun m (hm:m<rates.length) h=>C7J (k:=key) hm h
 have hcn:=C2M rates key
 have hce:=C5n rates key
 have hc0:A8c rates key i=0:=by
  unfold A8c
  rw [List.length_eq_zero_iff,List.filter_eq_nil_iff]
  intro j hj hk
  have hj:=D5U.1 hj
  have h2:=hall j hj
  rw [show -(gI rates j) = -(gI rates i) by rw [←hkey];simpa using hk,hD] at h2
  cases h2
 have hparts:(A2H t rates nets key).length=(K9 rates key).length∧(∀ st,S P 220 [eI (N8 t (A2 ((K9 rates key).map (gI nets))) (gI rates i)),B0 ((K9 rates key).map (gI nets))] st fun v st'=>v=.tuple [B0 (A2H t rates nets key),eI 0]∧st'=st):=by
  have hw:=A2V (t:=t) hn hr (i:=i) hrate
  have e:I7 rates nets i=(K9 rates key).map (gI nets):=by unfold I7;rw [(A0B him).2.2]
  rw [e] at hw
  have h3:=(T4 hw).2.1
  have e2:A2H t rates nets key=D2 (N8 t (A2 ((K9 rates key).map (gI nets))) (gI rates i)) ((K9 rates key).map (gI nets)):=by unfold A2H;rw [hkey,show - -(gI rates i)=gI rates i by omega]
  rw [e2]
  refine ⟨by rw [h3,D5F],fun st=>?_⟩
  exact A7F _ _ hw st
 have hGok:=fun j=>C7c (rates:=rates) (k:=key) (j:=j)
 have hsub:((K9 rates key).map (gI nets)).Sublist nets:=by
  have h1:((K9 rates key).map (gI nets)).Sublist ((List.range nets.length).map (gI nets)):=by
   refine List.Sublist.map _ ?_
   unfold K9;rw [hr];exact D7C
  rw [A6h] at h1;exact h1
 have hw0:∀ v∈(K9 rates key).map (gI nets),0≤v:=fun v hv=>hn.pos v (hsub.subset hv)
 have hws:A2 ((K9 rates key).map (gI nets))≤10000000000000:=by have:=B2n hsub hn.pos;omega
 have hGl:(K9 rates key).length≤nets.length:=by have:=hsub.length_le;rwa [D5F] at this
 have hGp:0<(K9 rates key).length:=List.length_pos_of_mem him
 have hgm:∀ j,j<(K9 rates key).length→gI ((K9 rates key).map (gI nets)) j=gI nets (gN (K9 rates key) j).toNat:=fun j hj=>by
  show gI ((K9 rates key).map (gI nets)) j=gI nets ((((K9 rates key).getD j 0:Nat):Int)).toNat
  rw [D5N]
  unfold gI
  rw [D5A,D6y,D5A (l:=K9 rates key),D5I hj];rfl
 generalize K9 rates key=G at *
 generalize A2H t rates nets key=X at *
 generalize hCnt:A8c rates key=cnt at *
 conv=>whnf
 refine lp (nets.length - i) [1,2,3,7,8,9,10,11,12] (fun j vs u=>∃ (lv wv:AV),vs=[B0 rates,B0 nets,.fptr (S7 t) 0,.own 1 bo 0 nets.length,.own 1 bd 0 nets.length,eI i,lv,wv,eI ((i+j:Nat):Int)]∧ROut (fun s t=>ROut (OD bo bd L nets.length (fun m=>D (-(gI rates m))||(decide (m<i+j)&&(-(gI rates m)==key)))) 3 1 (fun x=>eI (gN G x)) (cnt (i+j)) s lv t) 2 1 (fun x=>eI (gI (G.map (gI nets)) x)) (cnt (i+j)) st wv u) ?_ ?_
 ·conv=>whnf
  refine ⟨.emp,.emp,rfl,?_⟩
  rw [D7U,hc0]
  refine ROut.start (show ROut _ _ _ _ 0 st .emp u from ROut.start (show OD _ _ _ _ _ st u from hR.congr fun m hm=>?_) _ _ _) _ _ _
  by_cases e:m<i
  ·rw [hall m e,D6v]
  ·rw [D5H e,D5Z,D6s]
 clear hR
 rintro j vs w hj ⟨lv,wv,rfl,hR⟩
 conv=>whnf
 cases h2:decide ((((i+j:Nat)):Int)<(nets.length:Int))
 case true =>
  have hj':i+j<nets.length:=by have:=D5D h2;omega
  have hcj:=hcn (i+j)
  conv=>whnf
  refine ⟨[],[],List.range 9,by kernel_rfl,?_⟩;conv=>whnf
  refine E4 ?_
  refine E4 ?_
  have hk3:(rates.getD (((i+j:Nat):Int)).toNat default==rates.getD ((i:Nat):Int).toNat default)=(-(gI rates (i+j))==key):=by
   rw [D5N,D5N,hkey,D8G,D6z,D6z]
   show gI rates (i+j)=gI rates i↔-(gI rates (i+j)) = -(gI rates i)
   omega
  rw [hk3]
  cases h3:(-(gI rates (i+j))==key)
  case false =>
   rw [h3,if_neg (by simp)] at hcj;conv=>whnf
   refine F6 ?_
   refine nx (n:=nets.length - i) (by omega) ⟨lv,wv,by rw [B4 (by omega)];rfl,?_⟩
   rw [show i+(j+1)=i+j+1 from rfl,hcj]
   refine ROut.map hR fun s h=>ROut.map h fun s h=>OD.congr h fun m hm=>?_
   by_cases e:m=i+j
   ·subst e;rw [h3,D6e,D6e]
   ·rw [show decide (m<i+j+1)=decide (m<i+j) from D7q.2 (by omega)]
  rw [h3,if_pos rfl] at hcj
  obtain ⟨hc1,hc2⟩:=hca (i+j) (by omega) h3
  obtain ⟨s0,hw0,s1,hl0,hOD⟩:=hR
  obtain ⟨yd,⟨fd,rfl,hfd⟩,hbd2⟩:=hOD.atD
  conv=>whnf
  refine E4 ?_
  refine stU hbd2 (hfd (0+((i+j:Nat):Int).toNat) (by omega)) ?_
  have hOD2:OD bo bd L nets.length (fun m=>D (-(gI rates m))||(decide (m<i+j+1)&&(-(gI rates m)==key))) s1 _:=hOD.setD (IsF.set (i:=0+((i+j:Nat):Int).toNat) hfd (by rw [show 0+((i+j:Nat):Int).toNat=i+j by omega,h3,D6m (by omega),D6t,D6q]) (fun k hk=>by
   rw [show decide (k<i+j+1)=decide (k<i+j) from D7q.2 (by omega)]))
  have hB1:=A5J bo bd L nets.length (fun m=>D (-(gI rates m))||(decide (m<i+j+1)&&(-(gI rates m)==key)))
  have hin:ROut (OD bo bd L nets.length (fun m=>D (-(gI rates m))||(decide (m<i+j+1)&&(-(gI rates m)==key)))) 3 1 (fun x=>eI (gN G x)) (cnt (i+j)) s0 lv _:=⟨s1,hl0,hOD2⟩
  have hout:ROut (fun s t=>ROut (OD bo bd L nets.length (fun m=>D (-(gI rates m))||(decide (m<i+j+1)&&(-(gI rates m)==key)))) 3 1 (fun x=>eI (gN G x)) (cnt (i+j)) s lv t) 2 1 (fun x=>eI (gI (G.map (gI nets)) x)) (cnt (i+j)) st wv _:=⟨s0,hw0,hin⟩
  have hwv:=ROut.head hout
  have hlv:=ROut.head hin
  have hgc:=hgm _ hc1
  rw [hc2] at hgc
  have hcl2:=hcl (i+j) (by omega)
  rcases hlv with rfl | ⟨bl,rfl⟩<;>rcases hwv with rfl | ⟨bw,rfl⟩
  all_goals
   conv=>whnf
   refine ⟨[2,3,8,9,10],[],[],.qui 0 (.qui 1 (.qui 4 (.qui 5 (.qui 6 (.qui 7 (.two 2 8 (.two 3 8 (.gen 8 (.gen 9 (.gen 10 (.qui 11 (.qui 12 .done))))) (.two 3 9 (.gen 9 (.gen 10 (.qui 11 (.qui 12 .done)))) (.gen 3 (.gen 10 (.qui 11 (.qui 12 .done)))))) (.two 2 9 (.two 3 9 (.gen 9 (.gen 10 (.qui 11 (.qui 12 .done)))) (.gen 3 (.gen 10 (.qui 11 (.qui 12 .done))))) (.gen 2 (.gen 3 (.gen 10 (.qui 11 (.qui 12 .done)))))))))))),by kernel_rfl,?_⟩;conv=>whnf
   refine E4 ?_
   repeat' (refine And.intro ?_ ?_<;>(conv=>whnf))
   all_goals
    refine ROut.app (q:=r3) hB1 rfl rfl rfl rfl rfl (f:=fun x=>eI (gN G x)) (by show _=eI _;rw [hc2];rfl) (by show (cnt (i+j)+1) * 8≤140737488355328;omega) hin (fun lv' w2 hin2=>?_)
    have hout2:ROut (fun s t=>ROut (OD bo bd L nets.length (fun m=>D (-(gI rates m))||(decide (m<i+j+1)&&(-(gI rates m)==key)))) 3 1 (fun x=>eI (gN G x)) (cnt (i+j)+1) s lv' t) 2 1 (fun x=>eI (gI (G.map (gI nets)) x)) (cnt (i+j)) st _ w2:=⟨s0,hw0,hin2⟩
    conv=>whnf
    refine ROut.app (q:=r2) (U5 hB1 _ _ _ _ _) rfl rfl rfl rfl rfl (f:=fun x=>eI (gI (G.map (gI nets)) x)) (by show _=eI _;rw [hgc];rfl) (by show (cnt (i+j)+1) * 8≤140737488355328;omega) hout2 (fun wv' w3 hout3=>?_);conv=>whnf
    refine F6 ?_
    refine nx (n:=nets.length - i) (by omega) ⟨lv',wv',by rw [B4 (by omega)];rfl,?_⟩
    rw [show i+(j+1)=i+j+1 from rfl,hcj]
    exact hout3
 have hije:i+j=rates.length:=by have:=D5E h2;omega
 rw [hije,hce] at hR
 obtain ⟨w2,hsh,hR2⟩:=ROut.shift (U5 (A5J ..) _ _ _ _ _) hR
 have e0:AV.arr 1 G.length (fun x=>eI (gI (G.map (gI nets)) x))=B0 (G.map (gI nets)):=by unfold B0 A8;rw [D5F]
 rw [e0] at hsh
 have hsm:S P 118 [wv] w fun v s=>v=eI (A2 (G.map (gI nets)))∧s=w :=
  S.lends (A9A (G.map (gI nets)) (by rw [D5F];omega) hw0 (by omega) st0) (hsh.trans ((B9P _).shift _)) fun v hv=>⟨_,rfl,by rw [hv];exact So.int _ _⟩
 have hpt:=fun s=>B4R t (A2 (G.map (gI nets))) (gI rates i) hrate s
 generalize A2 (G.map (gI nets))=W at hsm hpt hparts
 generalize N8 t W (gI rates i)=M at hpt hparts
 obtain ⟨bw,rfl⟩:∃ b,wv=.own 1 b 0 G.length:=by
  rcases ROut.head hR with rfl | h
  ·obtain ⟨s0,⟨h0,_⟩ | ⟨_,b,_,_,h1,_⟩,_⟩:=hR
   ·omega
   ·cases h1
  ·exact h
 conv=>whnf
 refine ⟨[9],[],List.range 15,by kernel_rfl,?_⟩;conv=>whnf
 refine cqW hsm ?_
 refine E4 ?_
 refine cqW (hpt _) ?_
 refine F7 (args':=[eI M,B0 (G.map (gI nets))]) (A7.cons (A7.keep _ _) hsh) (B3 (hparts.2 _) ?_);conv=>whnf
 obtain ⟨bl,rfl⟩:∃ b,lv=.own 1 b 0 G.length:=by
  rcases ROut.head hR2 with rfl | h
  ·obtain ⟨s0,⟨h0,_⟩ | ⟨_,b,_,_,h1,_⟩,_⟩:=hR2
   ·omega
   ·cases h1
  ·exact h
 refine lp G.length [1,2,3,7,8,9,10,13,15] (fun j vs u=>vs=[B0 rates,B0 nets,.fptr (S7 t) 0,.own 1 bo 0 nets.length,.own 1 bd 0 nets.length,eI i,.own 1 bl 0 G.length,B0 X,eI j]∧ROut (OD bo bd (A4w L G X j) nets.length (fun m=>D (-(gI rates m))||(decide (m<rates.length)&&(-(gI rates m)==key)))) 3 1 (fun x=>eI (gN G x)) G.length st (.own 1 bl 0 G.length) u) ?_ ?_
 ·conv=>whnf
  exact ⟨rfl,hR2⟩
 clear hR hR2 hsm hsh
 rintro j vs v hjx ⟨rfl,hR3⟩
 have hPl:=A8A L G X j
 have hdl:=hdone.1
 have hXl:=hparts.1
 conv=>whnf
 cases h5:decide ((j:Int)<(G.length:Int))
 case true =>
  have hj5:=D6 h5
  have hGj:=hGok j (by omega)
  obtain ⟨s0,hcl,hOD⟩:=hR3
  obtain ⟨g,hb3,h4⟩:∃ g,v bl=some ⟨3,1,G.length,g⟩∧∀ k,k<G.length→g k=eI (gN G k):=by
   rcases hcl with ⟨h0,_⟩ | ⟨_,b,g,h3,h4,h5,h6⟩
   ·omega
   ·injection h4 with _ h4 _ _
    subst h4
    exact ⟨g,(A5J ..).sup hOD bl _ (by rw [h5];exact A0 ..),h6⟩
  obtain ⟨yo,⟨fo,rfl,hfo⟩,hbo3⟩:=hOD.atL
  conv=>whnf
  refine ⟨[10],[],List.range 11,by kernel_rfl,?_⟩;conv=>whnf
  refine E4 ?_
  refine ldV hb3 rfl (by show 0+((j:Nat):Int).toNat<G.length;omega) (v:=eI (gN G j)) (by show g (0+((j:Nat):Int).toNat)=_;rw [show 0+((j:Nat):Int).toNat=j by omega];exact h4 j (by omega)) ?_;conv=>whnf
  refine E4 ?_
  refine E4 ?_
  refine stV hbo3 rfl (by show 0+(gN G j).toNat<(A4w L G X j).length;omega) (hfo (0+(gN G j).toNat) (by omega)) (by rfl) ?_;conv=>whnf
  refine F6 ?_
  have hset:IsL (A4w L G X (j+1)) ⟨2,1,(A4w L G X j).length,I1 fo (0+(gN G j).toNat) (eI (gI X (j:Int).toNat))⟩:=by
   have:=IsL.set (i:=(gN G j).toNat) (v:=gI X j) hfo
   rw [show 0+(gN G j).toNat=(gN G j).toNat by omega,show (j:Int).toNat=j by omega]
   exact this
  exact nx hj5 ⟨by rw [B4 (by omega)],⟨_,hcl,hOD.setL hset⟩⟩
 obtain rfl:=C2 h5 hjx
 have hfin:=ROut.dropped (A5J ..) hR3
 conv=>whnf
 refine F6 ?_
 refine nx hi' ⟨fun y=>D y||y==key,A4w L G X G.length,by rw [B4 (by omega)],hnext,fun j hj=>?_,hfin.congr fun m hm=>?_⟩
 ·show (D (-(gI rates j))||(-(gI rates j)==key))=true
  by_cases e:j=i
  ·subst e;rw [hkey,D7O,D6q]
  ·rw [hall j (by omega),D6v]
 ·rw [D6m (by omega),D5P]
end Go.Proofs.YtaapofnkmpiknaaGreat
namespace Go.Ab
open Go
inductive At {α : Type}:List α→Nat→α→Prop
 | z {a : α} {l:List α}:At (a::l) 0 a
 | s {a b : α} {l:List α} {n:Nat} (h:At l n a):At (b::l) (n+1) a
def Has (s:St) (b:Nat) (y:K8):Prop:=∃ g,s b=some ⟨y.ty,y.e,y.n,g⟩∧∀ k,k<y.n→g k=y.f k
def E0 (st:St):List (Nat×K8)→St→Prop
 | [],s=>E6 st s
 | x::L,s=>(x.2.n=0∨(st x.1=none∧Has s x.1 x.2∧∀ j p,At L j p→p.2.n=0∨p.1≠x.1))∧E0 st L s
theorem E0.sup {st:St}:∀ {L:List (Nat×K8)} {s:St},E0 st L s→E6 st s
 | [],_,h=>h
 | _::_,_,h=>E0.sup h.2
theorem E0.get {st s:St}:∀ {L:List (Nat×K8)} {j:Nat} {p:Nat×K8},E0 st L s→At L j p→p.2.n=0∨(st p.1=none∧Has s p.1 p.2)
 | _,_,_,h,.z=>h.1.imp id fun h=>⟨h.1,h.2.1⟩
 | _,_,_,h,.s k=>E0.get h.2 k
theorem E0.other {st s:St} {L:List (Nat×K8)} (h:E0 st L s) {b:Nat} (hb:s b=none) (j:Nat) (p:Nat×K8) (hp:At L j p):p.2.n=0∨p.1≠b :=
 (h.get hp).imp id fun ⟨_,g,hg,_⟩ e=>by subst e;rw [hb] at hg;cases hg
theorem E0.frame {st s s':St}:∀ {L:List (Nat×K8)},E0 st L s→E6 st s'→(∀ j p,At L j p→p.2.n=0∨s' p.1=s p.1)→E0 st L s'
 | [],_,hs,_=>hs
 | x::L,h,hs,hf=>⟨h.1.elim .inl fun ⟨h1,⟨g,h2,h3⟩,h4⟩=>(hf 0 x .z).imp id fun e=>⟨h1,⟨g,e.trans h2,h3⟩,h4⟩,E0.frame h.2 hs fun j p hp=>hf (j+1) p (.s hp)⟩
theorem E0.new {st s:St} {L:List (Nat×K8)} (h:E0 st L s) {b:Nat} (hb:s b=none) (y:K8):E0 st ((b,y)::L) (upd s b y) :=
 ⟨.inr ⟨h.sup.none hb,⟨y.f,A0 ..,fun _ _=>rfl⟩,h.other hb⟩,h.frame (h.sup.upd hb) fun j p hp=>(h.other hb j p hp).imp id A9⟩
theorem E0.new' {st s s':St} {L:List (Nat×K8)} {b:Nat} {y:K8} (hs:upd s b y=s') (h:E0 st L s) (hb:s b=none):E0 st ((b,y)::L) s':=hs▸h.new hb y
theorem E0.soft {st s:St} {L:List (Nat×K8)} (h:E0 st L s) (b ty e:Nat) (f:Nat→AV):E0 st ((b,⟨ty,e,0,f⟩)::L) s:=⟨.inl rfl,h⟩
theorem At.of_set {α : Type}:∀ {L:List α} {j i:Nat} {p q : α},At (L.set j q) i p→p=q∨∃ i,At L i p
 | _::_,0,_,_,_,.z=>.inl rfl
 | _::_,0,_,_,_,.s k=>.inr ⟨_,.s k⟩
 | _::_,_+1,_,_,_,.z=>.inr ⟨_,.z⟩
 | _::_,_+1,_,_,_,.s k=>(At.of_set k).imp id fun ⟨_,h⟩=>⟨_,.s h⟩
theorem E0.chg {st s s':St} {b b':Nat} {y y':K8} (hS:E6 st s') (hst:st b'=none) (hH:Has s' b' y') (ho:∀ c x,(y.n=0∨c≠b)→s c=some x→s' c=some x∧c≠b') :
  ∀ {L:List (Nat×K8)} {j:Nat},E0 st L s→At L j (b,y)→E0 st (L.set j (b',y')) s'
 | _::L,_,h,.z=>by
  have ho':∀ j p,At L j p→p.2.n=0∨(s' p.1=s p.1∧p.1≠b'):=fun j p hp=>by
   rcases h.2.get hp with h0 | ⟨_,g,hg,_⟩
   ·exact .inl h0
   ·rcases h.1 with h1 | h1
    ·obtain ⟨e1,e2⟩:=ho _ _ (.inl h1) hg
     exact .inr ⟨e1.trans hg.symm,e2⟩
    ·rcases h1.2.2 j p hp with h0 | h0
     ·exact .inl h0
     ·obtain ⟨e1,e2⟩:=ho _ _ (.inr h0) hg
      exact .inr ⟨e1.trans hg.symm,e2⟩
  exact ⟨.inr ⟨hst,hH,fun j p hp=>(ho' j p hp).imp id And.right⟩,h.2.frame hS fun j p hp=>(ho' j p hp).imp id And.left⟩
 | x::L,_,h,.s k=>by
  refine ⟨?_,E0.chg hS hst hH ho h.2 k⟩
  rcases h.1 with h0 | ⟨h1,⟨g,h2,h3⟩,h4⟩
  ·exact .inl h0
  ·obtain ⟨e1,e2⟩:=ho _ _ ((h4 _ _ k).imp id Ne.symm) h2
   refine .inr ⟨h1,⟨g,e1,h3⟩,fun j p hp=>?_⟩
   rcases At.of_set hp with rfl | ⟨i,hi⟩
   ·exact .inr (Ne.symm e2)
   ·exact h4 i p hi
theorem E0.put {st s:St} {L:List (Nat×K8)} {j b:Nat} {y y':K8} (h:E0 st L s) (k:At L j (b,y)) (hn:0<y.n) {g:Nat→AV} (hg:∀ k,k<y'.n→g k=y'.f k):E0 st (L.set j (b,y')) (upd s b ⟨y'.ty,y'.e,y'.n,g⟩):=by
 have h1:=((h.get k).resolve_left (by show ¬ y.n=0;omega)).1
 exact E0.chg (h.sup.over h1) h1 ⟨g,A0 ..,hg⟩ (fun c x hc hx=>by
  have hc:=hc.resolve_left (by omega)
  exact ⟨(A9 hc).trans hx,hc⟩) h k
theorem At.of_erase {α : Type}:∀ {L:List α} {j i:Nat} {p : α},At (L.eraseIdx j) i p→∃ i,At L i p
 | _::_,0,_,_,k=>⟨_,.s k⟩
 | _::_,_+1,_,_,.z=>⟨_,.z⟩
 | _::_,_+1,_,_,.s k=>let ⟨_,h⟩:=At.of_erase k;⟨_,.s h⟩
theorem E0.drop {st s:St}:∀ {L:List (Nat×K8)} (j:Nat),E0 st L s→E0 st (L.eraseIdx j) s
 | [],_,h=>h
 | _::_,0,h=>h.2
 | _::_,j+1,h=>⟨h.1.imp id fun h=>⟨h.1,h.2.1,fun i p hp=>let ⟨_,hq⟩:=At.of_erase hp;h.2.2 _ p hq⟩,E0.drop j h.2⟩
theorem E0.apart {st s:St} {b:Nat} {y:K8} (hn:0<y.n):∀ {L:List (Nat×K8)} {j:Nat},E0 st L s→At L j (b,y)→∀ i p,At (L.eraseIdx j) i p→p.2.n=0∨p.1≠b
 | _::_,_,h,.z,i,p,hp=>(h.1.resolve_left (by show ¬ y.n=0;omega)).2.2 i p hp
 | _::_,_,h,.s k,_,_,.z=>h.1.imp id fun h=>((h.2.2 _ _ k).resolve_left (by show ¬ y.n=0;omega)).symm
 | _::_,_,h,.s k,_,_,.s hp=>E0.apart hn h.2 k _ _ hp
theorem E0.zero {st s:St} {b b':Nat} {y y':K8} (hy:y'.n=0):∀ {L:List (Nat×K8)} {j:Nat},E0 st L s→At L j (b,y)→E0 st (L.set j (b',y')) s
 | _::_,_,h,.z=>⟨.inl hy,h.2⟩
 | _::_,_,h,.s k=>⟨h.1.imp id fun h=>⟨h.1,h.2.1,fun i p hp=>by
   rcases At.of_set hp with rfl | ⟨i,hi⟩
   ·exact .inl hy
   ·exact h.2.2 i p hi⟩,E0.zero hy h.2 k⟩
theorem E0.as {st s:St} {L:List (Nat×K8)} {j b ty e n:Nat} {f:Nat→AV} (f':Nat→AV) (h:E0 st L s) (k:At L j (b,⟨ty,e,n,f⟩)) (hf:∀ k,k<n→f k=f' k):E0 st (L.set j (b,⟨ty,e,n,f'⟩)) s:=by
 rcases D6Y n with h0 | h0
 ·exact E0.zero h0 h k
 ·obtain ⟨h1,g,hg,hh⟩:=(h.get k).resolve_left (by show ¬ n=0;omega)
  have:=h.put (y':=⟨ty,e,n,f'⟩) k h0 (g:=g) fun i hi=>(hh i hi).trans (hf i hi)
  rwa [upd_self' hg] at this
where
 upd_self' {st:St} {a:Nat} {x:K8} (h:st a=some x):upd st a x=st:=funext fun c=>by
  unfold upd;split
  ·rename_i e;subst e;exact h.symm
  ·rfl
def OV (e b n:Nat) (v:AV):Prop:=(n=0∧v=.emp)∨(0<n∧v=.own e b 0 n)
theorem OV.nil (e b:Nat):OV e b 0 .emp:=.inl ⟨rfl,rfl⟩
theorem OV.one {e b n:Nat} {v:AV} (h:OV e b n v):v.one=true:=by rcases h with ⟨_,rfl⟩ | ⟨_,rfl⟩<;>rfl
theorem OV.own {e b n:Nat} {v:AV} (h:OV e b n v) (hn:0<n):v=.own e b 0 n:=h.elim (fun h=>by omega) And.right
theorem own0 {rd:Addr→Option Value} {sz:Nat→Nat} {e b off:Nat} {c:Value} (f:Nat→AV) (h:Rep rd sz (.own e b off 0) c):Rep rd sz (.arr e 0 f) c:=by
 cases h with
 | own e b off n c hc hs=>exact .arr e 0 f _ c (fun _ _=>undef) (D6b _) (fun h=>absurd h (by omega)) (fun i hi=>absurd hi (by omega)) (fun i hi=>absurd hi (by omega)) (fun _ _ i j hi=>absurd hi (by omega)) (fun i j y hi=>absurd hi (by omega))
theorem E0.frzO {st s:St} {L:List (Nat×K8)} {j b ty e n:Nat} {f:Nat→AV} (h:E0 st L s) (k:At L j (b,⟨ty,e,n,f⟩)):∃ s',E0 st (L.eraseIdx j) s'∧A7 [.own e b 0 n] s [.arr e n f] s':=by
 rcases D6Y n with h0 | h0
 ·subst h0
  exact ⟨s,h.drop j,Le.shift (fun rd sz c hr=>own0 f hr) s⟩
 ·obtain ⟨h1,g,hg,hh⟩:=(h.get k).resolve_left (by show ¬ n=0;omega)
  refine ⟨del s b,(h.drop j).frame (h.sup.del h1) fun i p hp=>(h.apart h0 k i p hp).imp id fun hne=>?_,N7 hg rfl (D5J _) hh⟩
  unfold del;rw [if_neg hne]
theorem E0.frz {st s:St} {L:List (Nat×K8)} {j b ty e n:Nat} {f:Nat→AV} {v:AV} (h:E0 st L s) (k:At L j (b,⟨ty,e,n,f⟩)) (hv:OV e b n v):∃ s',E0 st (L.eraseIdx j) s'∧A7 [v] s [.arr e n f] s':=by
 rcases hv with ⟨rfl,rfl⟩ | ⟨hn,rfl⟩
 ·exact ⟨s,h.drop j,I0 e f⟩
 ·exact h.frzO k
def LV (e b n:Nat) (v:AV):Prop:=(n=0∧(v=.emp∨v=.own e b 0 0))∨(0<n∧v=.own e b 0 n)
theorem LV.own {e b n:Nat} {v:AV} (h:LV e b n v) (hn:0<n):v=.own e b 0 n:=h.elim (fun h=>by omega) And.right
theorem LV.one {e b n:Nat} {v:AV} (h:LV e b n v):v.one=true:=by rcases h with ⟨_,rfl | rfl⟩ | ⟨_,rfl⟩<;>rfl
theorem LV.of (e b n:Nat):LV e b n (.own e b 0 n):=by
 rcases D6Y n with rfl | h
 ·exact .inl ⟨rfl,.inr rfl⟩
 ·exact .inr ⟨h,rfl⟩
theorem OV.lv {e b n:Nat} {v:AV} (h:OV e b n v):LV e b n v:=h.imp (fun h=>⟨h.1,.inl h.2⟩) id
theorem E0.frzL {st s:St} {L:List (Nat×K8)} {j b ty e n:Nat} {f:Nat→AV} {v:AV} (h:E0 st L s) (k:At L j (b,⟨ty,e,n,f⟩)) (hv:LV e b n v):∃ s',E0 st (L.eraseIdx j) s'∧A7 [v] s [.arr e n f] s':=by
 rcases hv with ⟨rfl,rfl | rfl⟩ | ⟨hn,rfl⟩
 ·exact ⟨s,h.drop j,I0 e f⟩
 ·exact h.frzO k
 ·exact h.frzO k
theorem E0.fin {st s:St} {L:List (Nat×K8)} (h:E0 st L s) (vs:List AV):A7 vs s vs st:=h.sup.shift vs
def setL:List (Nat×K8)→Nat→Nat×K8→(List (Nat×K8)→Prop)→Prop
 | [],_,_,k=>k []
 | _::l,0,x,k=>k (x::l)
 | a::l,n+1,x,k=>setL l n x fun l'=>k (a::l')
theorem B0A:∀ (l:List (Nat×K8)) (n:Nat) (x:Nat×K8) (k:List (Nat×K8)→Prop),setL l n x k=k (l.set n x)
 | [],_,_,_=>rfl
 | _::_,0,_,_=>rfl
 | _::l,n+1,x,_=>B0A l n x _
def C3M (v:AV) (o:Nat) (us:List AV) (k:AV→Prop):Prop :=
 match v with
 | .agg cs=>(match Nat.ble (o+us.length) cs.length with | true=>A6U cs o us fun r=>k (.agg r) | false=>False)
 | _=>(match us with | []=>False | u::_=>k u)
theorem B9B {v:AV} {o:Nat} {us:List AV} {k:AV→Prop} (h:C3M v o us k):k (P9 v o us):=by
 unfold C3M at h
 split at h
 ·split at h
  ·rename_i hb
   rw [A7H _ _ _ _ (by simpa using hb)] at h;exact h
  ·exact h.elim
 ·rename_i hv
  split at h
  ·exact h.elim
  ·unfold P9
   split
   ·rename_i ds;exact absurd rfl (hv ds)
   ·exact h
theorem E0.has1 {st s:St} {L:List (Nat×K8)} {j b ty e:Nat} {f:Nat→AV} (h:E0 st L s) (hj:At L j (b,⟨ty,e,1,f⟩)):Has s b ⟨ty,e,1,f⟩:=((h.get hj).resolve_left (by show ¬ 1=0;omega)).2
theorem B4z {T:G7} {t:TypeId} {e b i o ty n j:Nat} {st s:St} {L:List (Nat×K8)} {k:KK} {r:C4} {f:Nat→AV} {v:AV} (h:E0 st L s) (hj:At L j (b,⟨ty,e,n,f⟩)) (hr:T t=some r) (hi:i<n) (hv:f i=v)
  (hk:A8P r (cellsOf v) o (fun y=>k y s)):C1Y T t e b i o s k:=by
 obtain ⟨_,g,hg,hh⟩:=(h.get hj).resolve_left (by show ¬ n=0;omega)
 exact ldV hg hr hi ((hh i hi).trans hv) hk
theorem C0V {T:G7} {t:TypeId} {e b i o ty n j:Nat} {st s:St} {L:List (Nat×K8)} {k:KK} {r:C4} {f:Nat→AV} {u v:AV} (h:E0 st L s) (hj:At L j (b,⟨ty,e,n,f⟩)) (hr:T t=some r) (hi:i<n) (hv:f i=v)
  (hc:(Nat.blt 0 r.size&&Nat.beq (cellsOf u).length r.size&&(cellsOf u).all AV.one&&Nat.ble (o+r.size) e)=true)
  (hk:C3M v o (cellsOf u) fun w=>setL L j (b,⟨ty,e,n,I1 f i w⟩) fun L'=>∀ s',E0 st L' s'→k (.tuple []) s'):B7f T t e b i o u s k:=by
 obtain ⟨_,g,hg,hh⟩:=(h.get hj).resolve_left (by show ¬ n=0;omega)
 have hk:=B9B hk
 rw [B0A] at hk
 refine stV hg hr hi ((hh i hi).trans hv) hc (hk _ (h.put (y':=⟨ty,e,n,I1 f i _⟩) hj (by show 0<n;omega) fun m hm=>?_))
 by_cases hm':m=i
 ·subst hm';rw [A4];exact (A4 ..).symm
 ·rw [H4 hm',hh m hm];exact (H4 hm').symm
theorem U9 {T:G7} {t:TypeId} {e b o ty j:Nat} {st s:St} {L:List (Nat×K8)} {k:KK} {r:C4} {f:Nat→AV} {u v:AV} (h:E0 st L s) (hj:At L j (b,⟨ty,e,1,f⟩)) (hr:T t=some r) (hv:f 0=v)
  (hc:(Nat.blt 0 r.size&&Nat.beq (cellsOf u).length r.size&&(cellsOf u).all AV.one&&Nat.ble (o+r.size) e)=true)
  (hk:C3M v o (cellsOf u) fun w=>setL L j (b,⟨ty,e,1,fun _=>w⟩) fun L'=>∀ s',E0 st L' s'→k (.tuple []) s'):B7f T t e b 0 o u s k:=by
 obtain ⟨_,g,hg,hh⟩:=(h.get hj).resolve_left (by show ¬ 1=0;omega)
 have hk:=B9B hk
 rw [B0A] at hk
 refine stV hg hr (by show 0<1;omega) ((hh 0 (by show 0<1;omega)).trans hv) hc (hk _ (h.put (y':=⟨ty,e,1,fun _=>_⟩) hj (by show 0<1;omega) fun m hm=>?_))
 obtain rfl:m=0:=by have:m<1:=hm;omega
 exact A4 ..
theorem A2a {u:AV} (hu:u.one=true):cellsOf u=[u]:=by cases u<;>first | rfl | cases hu
theorem B0x {u:AV} (hu:u.one=true):[u].all AV.one=true:=by simp [hu]
theorem C5Z {u:AV} (hu:u.one=true) {r:C4} {o e:Nat} (h1:r.size=1) (ho:o+1≤e):(Nat.blt 0 r.size&&Nat.beq (cellsOf u).length r.size&&(cellsOf u).all AV.one&&Nat.ble (o+r.size) e)=true:=by
 rw [A2a hu,h1]
 simp [hu,ho,Nat.blt]
theorem C0o {u:AV} {r:C4} {o e:Nat} (h1:(Nat.blt 0 r.size&&Nat.beq (cellsOf u).length r.size&&Nat.ble (o+r.size) e)=true) (h2:(cellsOf u).all AV.one=true):(Nat.blt 0 r.size&&Nat.beq (cellsOf u).length r.size&&(cellsOf u).all AV.one&&Nat.ble (o+r.size) e)=true:=by
 rw [h2,D6t];exact h1
theorem C3C {T:G7} {t:TypeId} {e b o ty j:Nat} {st s:St} {L:List (Nat×K8)} {k:KK} {r:C4} {f:Nat→AV} {u v:AV} (h:E0 st L s) (hj:At L j (b,⟨ty,e,1,f⟩)) (hr:T t=some r) (hv:f 0=v) (h1:r.size=1) (hu:u.one=true) (ho:o+1≤e)
  (hk:C3M v o [u] fun w=>setL L j (b,⟨ty,e,1,fun _=>w⟩) fun L'=>∀ s',E0 st L' s'→k (.tuple []) s'):B7f T t e b 0 o u s k :=
 U9 h hj hr hv (C5Z hu h1 ho) (by rw [A2a hu];exact hk)
theorem B2M {T:G7} {t:TypeId} {st s:St} {L:List (Nat×K8)} {k:KK} {r q:C4} {el e j b n m:Nat} {f g f':Nat→AV} {sv x:AV} (h:E0 st L s) (hv:OV e b n sv) (hj:At L j (b,⟨el,e,n,f⟩)) (hr:T t=some r) (hd:r.desc=.slice el) (hq:T el=some q) (he:q.size=e)
  (hz:(Nat.blt 0 q.size&&Nat.blt 0 q.bytes&&Nat.beq q.zero.cells.size q.size)=true) (hs:A0i e s x=some (m,g)) (hb:(n+m) * q.bytes≤140737488355328) (hf:∀ k,k<n+m→(if k<n then f k else g (k - n))=f' k)
  (hk:∀ sv' b',OV e b' (n+m) sv'→setL L j (b',⟨el,e,n+m,f'⟩) fun L'=>∀ s',E0 st L' s'→k sv' s'):A5x T t sv x s k:=by
 subst he
 have hk:∀ sv' b' s',OV q.size b' (n+m) sv'→E0 st (L.set j (b',⟨el,q.size,n+m,f'⟩)) s'→k sv' s':=fun sv' b' s' h1 h2=>by have:=hk sv' b' h1;rw [B0A] at this;exact this s' h2
 have h0:m=0→k sv s:=fun hm=>by
  subst hm
  exact hk sv b s hv (h.as f' hj fun i hi=>by have:=hf i hi;rwa [if_pos (show i<n from hi)] at this)
 rcases hv with ⟨rfl,rfl⟩ | ⟨hn,rfl⟩
 ·refine apE hr hd hq hz hs (by simpa using hb) h0 fun hm b' hb'=>?_
  refine hk _ b' _ (.inr ⟨by omega,by rw [D5R]⟩) (E0.chg (h.sup.upd hb') (h.sup.none hb') ⟨g,by rw [A0,D5R],fun i hi=>?_⟩ (fun c z _ hc=>?_) h hj)
  ·have:=hf i hi;rw [if_neg (by omega)] at this;simpa using this
  ·have hne:c≠b':=fun e=>by subst e;rw [hb'] at hc;cases hc
   exact ⟨(A9 hne).trans hc,hne⟩
 ·obtain ⟨hst,y,hy,hh⟩:=(h.get hj).resolve_left (by show ¬ n=0;omega)
  refine apO hr hd hq hz hs hy rfl rfl rfl hb h0 fun hm b' hb'=>?_
  have hst':st b'=none:=hb'.elim (fun e=>e▸hst) h.sup.none
  refine hk _ b' _ (.inr ⟨by omega,rfl⟩) (E0.chg ((h.sup.del hst).over hst') hst' ⟨_,A0 ..,fun i hi=>?_⟩ (fun c z hc hcz=>?_) h hj)
  ·show (if i<n then y i else _)=f' i
   rw [←hf i hi]
   split
   ·rename_i hin;exact hh i hin
   ·rfl
  ·have hcb:c≠b:=hc.resolve_left (by show ¬ n=0;omega)
   have hne:c≠b':=fun e=>by
    subst e
    rcases hb' with e | e
    ·exact hcb e
    ·rw [e] at hcz;cases hcz
   exact ⟨(A9 hne).trans (by unfold del;rw [if_neg hcb];exact hcz),hne⟩
theorem D2Z {T:G7} {t:TypeId} {kk kk':IntKind} {n:Nat} {st s:St} {L:List (Nat×K8)} {k:KK} {r q:C4} {el e:Nat} (h:E0 st L s) (hr:T t=some r) (hd:r.desc=.slice el) (hq:T el=some q) (he:q.size=e)
  (hb:q.bytes * n≤281474976710656) (hn:n≤281474976710656) (hz:(Nat.beq q.zero.cells.size q.size&&(cellsOf (H2 q.zero)).all AV.one)=true)
  (hk:∀ b s',E0 st ((b,⟨el,e,n,fun _=>H2 q.zero⟩)::L) s'→k (.own e b 0 n) s'):xMk T t (.int kk (n:Int)) (.int kk' (n:Int)) s k:=by
 subst he
 exact mkO hr hd hq hb hn hz fun b hb'=>hk b _ (h.new hb' _)
theorem E0.up {st s s':St} {L:List (Nat×K8)} (h:E0 st L s) (hS:E6 s s'):E0 st L s':=h.frame (h.sup.trans hS) fun j p hp=>(h.get hp).imp id fun ⟨_,g,hg,_⟩=>(hS _ _ hg).trans hg.symm
theorem E0.got {st s s':St} {L:List (Nat×K8)} {b:Nat} {y:K8} (h:E0 st L s) (hb:s b=none) (hS:E6 s s') (hH:Has s' b y):E0 st ((b,y)::L) s':=⟨.inr ⟨h.sup.none hb,hH,h.other hb⟩,h.up hS⟩
theorem At.of_append {α : Type}:∀ {L M:List α} {j:Nat} {p : α},At (L++M) j p→(∃ i,At L i p)∨∃ i,At M i p
 | [],_,_,_,h=>.inr ⟨_,h⟩
 | _::_,_,_,_,.z=>.inl ⟨_,.z⟩
 | _::_,_,_,_,.s h=>(At.of_append h).imp (fun ⟨_,h⟩=>⟨_,.s h⟩) id
theorem E0.trans {st s s':St} {L:List (Nat×K8)} (h:E0 st L s):∀ {M:List (Nat×K8)},E0 s M s'→E0 st (M++L) s'
 | [],k=>h.up k
 | x::M,k=>by
  refine ⟨k.1.imp id fun ⟨h1,h2,h3⟩=>⟨h.sup.none h1,h2,fun j p hp=>?_⟩,h.trans k.2⟩
  rcases At.of_append hp with ⟨i,hi⟩ | ⟨i,hi⟩
  ·exact h3 i p hi
  ·exact h.other h1 i p hi
theorem B4A (st:St):E0 st [] st:=E6.refl st
theorem E0.has {st s:St} {L:List (Nat×K8)} {j b:Nat} {y:K8} (h:E0 st L s) (hj:At L j (b,y)) (hn:0<y.n):Has s b y:=((h.get hj).resolve_left (by show ¬ y.n=0;omega)).2
theorem quT {v:AV} {s:St} {Q:AV→St→Prop} {K:AV→(St→Prop)→Prop} (hQ:∀ s',Q v s') (hk:K v fun _=>True):∃ (v:AV) (C:St→Prop),C s∧(∀ s',C s'→Q v s')∧K v C:=⟨v,_,trivial,fun s' _=>hQ s',hk⟩
theorem quL {v:AV} {s:St} {Q:AV→St→Prop} {K:AV→(St→Prop)→Prop} {b:Nat} {y:K8} (hC:Has s b y) (hQ:∀ s',Has s' b y→Q v s') (hk:K v fun u=>Has u b y):∃ (v:AV) (C:St→Prop),C s∧(∀ s',C s'→Q v s')∧K v C:=⟨v,_,hC,hQ,hk⟩
theorem S3 {T:G7} {t:TypeId} {e b i o ty n:Nat} {s:St} {k:KK} {r:C4} {f:Nat→AV} {x:AV} (h:Has s b ⟨ty,e,n,f⟩) (hr:T t=some r) (hi:i<n) (hv:f i=x) (hk:A8P r (cellsOf x) o (fun y=>k y s)):C1Y T t e b i o s k:=by
 obtain ⟨g,hg,hh⟩:=h
 exact ldV hg hr hi ((hh i hi).trans hv) hk
end Go.Ab
namespace Go.Proofs.YtaapofnkmpiknaaGreat
open Go Go.Ab
attribute [local irreducible] upd del
def B9i (v:B7j):AV:=.agg [B0 v.goods,B0 v.taxes,eI v.ship,eI v.shipTax]
def A0h (nets taxes:List Int) (j k:Nat):Int:=if k<j then gI nets k - gI taxes k else gI nets k
set_option maxHeartbeats 8000000 in
theorem C6p {t:Tax} {z:K7} {s:C8} {cats:List C8} {nets:List Int} {ship:Int} (h:A2z t z cats nets ship) (hsm:B3d t) (hz:A0a t.zones s=some z) (exempt:Bool) (st:St) :
  S P 117 [S7 t,eS s,eB exempt,C9 cats,B0 nets,eI ship] st fun v st' =>
   v=.tuple [B9i (L5 t z exempt cats nets ship),eI 0]∧st'=st:=by
 obtain ⟨hr1,hr2⟩:=A3y h
 obtain ⟨t1,t2⟩:=A6q (t:=t) h.nets hr1 hr2
 obtain ⟨l1,l2⟩:=B3R h.tax
 have hzm:z∈t.zones:=D7Z hz
 have hzr:=l2 z hzm
 have hn:=h.nets.len
 have hns:=h.nets.sum
 have hnp:=h.nets.pos
 have hcl:=h.cats
 have hq:=(A4F h.zone).2.1
 have hm:=A2W (t:=t) h.ship.1 hq
 have hs:=h.ship
 have hT:∀ s,S P 135 [S7 t] s fun v st'=>v=.bool true∧st'=s:=fun s=>by
  have:=C3Y t hsm s
  rw [h.tax] at this;exact this
 have hZ:∀ st,S P 166 [S7 t,eS s] st fun v st'=>v=.tuple [T3 z,.bool true]∧st'=st:=fun st=>by
  have:=C1m t s (by omega) st
  rw [hz] at this;exact this
 have hR':=fun c st=>C1l z c (by omega) st
 have hU:=fun st=>B4R t ship z.ship hq st
 have hL:L5 t z exempt cats nets ship=⟨(List.range nets.length).map (Z2 t (L0 t (cats.map (E9 z)) nets) nets),if exempt=true then List.replicate nets.length 0 else L0 t (cats.map (E9 z)) nets,if t.incl=true then ship - N8 t ship z.ship else ship,if exempt=true then 0 else N8 t ship z.ship⟩:=rfl
 rw [hL]
 have hnx:∀ i,i<nets.length→0≤gI nets i∧gI nets i≤10000000000000:=fun i hi=>by
  have h1:=h.nets.pos _ (show gI nets i∈nets from A6 hi)
  have h2:=J2 h.nets.pos (show gI nets i∈nets from A6 hi)
  exact ⟨h1,by omega⟩
 have htx:∀ i,i<nets.length→0≤gI (L0 t (cats.map (E9 z)) nets) i∧gI (L0 t (cats.map (E9 z)) nets) i≤10000000000000:=fun i hi=>t2 _ (A6 (by omega))
 obtain ⟨MS,hMS⟩:∃ MS,MS=N8 t ship z.ship:=⟨_,rfl⟩
 obtain ⟨TX,hTX⟩:∃ TX,TX=L0 t (cats.map (E9 z)) nets:=⟨_,rfl⟩
 rw [←hMS] at hm hU ⊢
 rw [←hTX] at t1 htx ⊢
 obtain ⟨SH,hSH⟩:∃ SH,SH=if t.incl=true then ship - MS else ship:=⟨_,rfl⟩
 rw [←hSH]
 clear t2 hL
 refine S.post (post:=fun v s=>∃ gv tv bg bt,v=.tuple [.agg [gv,tv,eI SH,eI (if exempt=true then 0 else MS)],eI 0]∧LV 1 bg nets.length gv∧LV 1 bt nets.length tv ∧
   E0 st [(bt,⟨2,1,nets.length,fun k=>eI (gI (if exempt=true then List.replicate nets.length 0 else TX) k)⟩),(bg,⟨2,1,nets.length,fun k=>eI (gI ((List.range nets.length).map (Z2 t TX nets)) k)⟩)] s) ?_
  (fun v s ⟨gv,tv,bg,bt,h1,h2,h3,h4⟩=>by
   obtain ⟨s1,h5,h6⟩:=h4.frzL (.s .z) h2
   obtain ⟨s2,h7,h8⟩:=h5.frzL .z h3
   rw [show AV.arr 1 nets.length _=B0 ((List.range nets.length).map (Z2 t TX nets)) by unfold B0 A8;rw [D5F,D6d]] at h6
   rw [show AV.arr 1 nets.length _=B0 (if exempt=true then List.replicate nets.length 0 else TX) by unfold B0 A8;rw [show (if exempt=true then List.replicate nets.length 0 else TX).length=nets.length by cases exempt<;>simp [t1]]] at h8
   refine ⟨_,st,⟨rfl,rfl⟩,?_⟩
   rw [h1]
   exact (A7.tuple (A7.cons (A7.agg (A7.cons h6 (A7.cons h8 (A7.keep _ _)))) (A7.keep _ _)) rfl).trans (h7.fin _))
 refine A7o [6] B2K mixed Tryz.func117 (by rfl) rfl rfl rfl ?_;conv=>whnf
 intro b12 hb12
 generalize hs:(upd st b12 _:St)=w
 have h9:=E0.new' hs (B4A st) hb12
 clear hs hb12
 have d1:((nets.length:Int) != (nets.length:Int))=false:=bne_self_eq_false _
 have d2:decide ((nets.length:Int)>1000)=false:=D5H (by omega)
 have d3:decide (ship<0)=false:=D5H (by omega)
 have d4:decide (ship>10000000000000)=false:=D5H (by omega)
 repeat' ((conv=>whnf);first | refine B3 (hT _) ?_ | rw [hcl,d1] | rw [d2] | rw [d3] | rw [d4] | fail)
 conv=>whnf
 refine lp nets.length [1,2,3,4,5,6,12,14,15] (fun i vs u=>vs=[eS s,eB exempt,C9 cats,B0 nets,eI ship,.fptr (S7 t) 0,.optr 4 b12 0 0,eI (A2 (nets.take i)),eI i]∧u=w) ?_ ?_
 ·conv=>whnf
  exact ⟨rfl,rfl⟩
 rintro i vs u hi ⟨rfl,rfl⟩
 conv=>whnf
 cases h1:decide ((i:Int)<(nets.length:Int))
 case true =>
  have hi':=D6 h1
  have hx:0≤gI nets (i:Int).toNat:=hnp _ (A6 hi')
  have hs1:=N0 hnp (i+1)
  have hs2:0≤A2 (nets.take i):=C1 fun x hx=>hnp x (D8z hx)
  have hst:A2 (nets.take (i+1))=A2 (nets.take i)+gI nets (i:Int).toNat:=K5 hi'
  have d5:decide (gI nets (i:Int).toNat<0)=false:=D5H (by omega)
  have hw1:IntKind.i64.wrap (10000000000000 - A2 (nets.take i))=10000000000000 - A2 (nets.take i):=A5 (by omega) (by omega)
  have d6:decide (gI nets (i:Int).toNat>10000000000000 - A2 (nets.take i))=false:=D5H (by omega)
  have hw2:IntKind.i64.wrap (A2 (nets.take i)+gI nets (i:Int).toNat)=A2 (nets.take (i+1)):=(A5 (by omega) (by omega)).trans hst.symm
  change decide (nets.getD (i:Int).toNat default<0)=false at d5
  change decide (nets.getD (i:Int).toNat default>10000000000000 - A2 (nets.take i))=false at d6
  repeat' ((conv=>whnf);first | refine ⟨rfl,⟨by omega,by omega⟩,?_⟩ | rw [d5] | rw [hw1,d6] | rw [hw2] | fail)
  refine F6 ?_
  exact nx hi' ⟨by rw [B4 (by omega)],rfl⟩
 obtain rfl:=C2 h1 hi
 conv=>whnf
 refine I2 (hZ _) ?_
 intro b16 hb16;conv=>whnf
 generalize hs:(upd u b16 _:St)=w
 have h9:=E0.new' hs h9 hb16
 clear hs hb16
 refine U9 h9 .z rfl rfl (by rfl) ?_;conv=>whnf
 intro w h9
 have h9:=h9.soft 0 2 1 (fun k=>eI (A0h nets TX 0 k))
 conv=>whnf
 refine .inr ⟨[2,10,11],.qui 0 (.qui 1 (.qui 3 (.qui 4 (.qui 5 (.qui 6 (.qui 7 (.two 2 10 [4,7] [0,4,7] (.qui 8 (.qui 9 (.eff 10 [0,4,7,8] (.eff 11 [] (.done))))) (.eff 2 [4,7] (.qui 8 (.qui 9 (.eff 11 [] (.done)))))))))))),by kernel_rfl,?_⟩
 have hb:=h9.has1 (.s .z)
 repeat' ((conv=>whnf);first | refine quT (fun _=>⟨rfl,rfl⟩) ?_ | refine quL hb (fun _ hs=>S3 hs rfl Nat.one_pos rfl ⟨rfl,rfl⟩) ?_ | fail)
 refine ⟨?A,?B⟩
 case' A =>
  conv=>whnf
  refine B2M (q:=r2) (m:=nets.length) (g:=fun k=>eI (gI nets k)) h9 (OV.nil 1 0) .z rfl rfl rfl rfl (by rfl) (A2K ..) (f':=fun k=>eI (A0h nets TX 0 k)) (by show (0+nets.length) * 8≤140737488355328;omega) (fun i _=>by unfold A0h;rw [if_neg (by omega),if_neg (by omega)];rfl) (fun gv bg hg=>?_);conv=>whnf
  intro w h9
  rw [D5R nets.length] at hg h9
  have hb:=h9.has1 (.s .z)
  have e1:=A2a hg.one
  have e2:=B0x hg.one
  repeat' ((conv=>whnf);first | refine ⟨fun _=>trivial,?_⟩ | refine ⟨fun _=>hb,?_⟩ | refine quT (fun s=>F2 (hU s)) ?_ | rw [e1] | rw [e2] | fail)
  conv=>whnf
  intro b18 hb18
  generalize hs:(upd w b18 _:St)=w2
  have h9:=E0.new' hs h9 hb18
  clear hs hb18
  have hb:=h9.has1 (.s (.s .z))
  repeat' ((conv=>whnf);first | refine ⟨fun _=>trivial,?_⟩ | refine ⟨fun _=>hb,?_⟩ | fail)
 case' B =>
  conv=>whnf
  intro b18 hb18
  generalize hs:(upd w b18 _:St)=w2
  have h9:=E0.new' hs h9 hb18
  clear hs hb18
  have hb:=h9.has1 (.s (.s .z))
  repeat' ((conv=>whnf);first | refine ⟨fun _=>trivial,?_⟩ | refine ⟨fun _=>hb,?_⟩ | fail)
  conv=>whnf
  refine B2M (q:=r2) (m:=nets.length) (g:=fun k=>eI (gI nets k)) h9 (OV.nil 1 0) (.s .z) rfl rfl rfl rfl (by rfl) (A2K ..) (f':=fun k=>eI (A0h nets TX 0 k)) (by show (0+nets.length) * 8≤140737488355328;omega) (fun i _=>by unfold A0h;rw [if_neg (by omega),if_neg (by omega)];rfl) (fun gv bg hg=>?_);conv=>whnf
  intro w2 h9
  rw [D5R nets.length] at hg h9
  have hb:=h9.has1 (.s (.s .z))
  have e1:=A2a hg.one
  have e2:=B0x hg.one
  repeat' ((conv=>whnf);first | refine ⟨fun _=>trivial,?_⟩ | refine ⟨fun _=>hb,?_⟩ | refine quT (fun s=>F2 (hU s)) ?_ | rw [e1] | rw [e2] | fail)
 all_goals
  conv=>whnf
  refine U9 h9 .z rfl rfl (by show (_&&_&&(gv.one&&_)&&_)=true;rw [hg.one];rfl) ?_;conv=>whnf
  intro w3 h9;conv=>whnf
  clear hb e1 e2
  refine lp nets.length [2,3,4,5,6,12,16,18,19,20] (fun i vs u=>∃ sv bs tv bt,vs=[eB exempt,C9 cats,B0 nets,eI ship,.fptr (S7 t) 0,.optr 4 b12 0 0,.optr 4 b16 0 0,.optr 4 b18 0 0,sv,eI i]∧OV 1 bs i sv∧OV 1 bt i tv ∧
   E0 st [(bs,⟨2,1,i,fun k=>eI (gI (cats.map (E9 z)) k)⟩),(bt,⟨2,1,i,fun k=>eI (gI (X1 t (cats.map (E9 z)) nets) k)⟩),(b18,⟨175,4,1,fun _=>.agg [gv,tv,eI ship,eI MS]⟩),(bg,⟨2,1,nets.length,fun k=>eI (A0h nets TX 0 k)⟩),(b16,⟨103,4,1,fun _=>T3 z⟩),(b12,⟨175,4,1,fun _=>H2 C6i.zero⟩)] u) ?_ ?_
  ·conv=>whnf
   exact ⟨_,0,_,0,rfl,OV.nil ..,OV.nil ..,(h9.soft ..).soft ..⟩
  clear h9
  rintro i vs u hi ⟨sv,bs,tv,bt,rfl,hsv,htv,h9⟩
  have hb16:=h9.has1 (.s (.s (.s (.s .z))))
  conv=>whnf
  cases h1:decide ((i:Int)<(nets.length:Int))
  case true =>
   have hi':=D6 h1
   have hRi:=fun st=>hR' (cats.getD (i:Int).toNat default) st
   have hgR:gI (cats.map (E9 z)) i=E9 z (cats.getD (i:Int).toNat default):=D4 (E9 z) cats (by omega)
   have hgL:gI (X1 t (cats.map (E9 z)) nets) i=N8 t (gI nets i) (gI (cats.map (E9 z)) i):=by
    unfold X1;unfold gI
    rw [D5A,D6y,D7e hi'];rfl
   have hrt:0≤E9 z (cats.getD (i:Int).toNat default)∧E9 z (cats.getD (i:Int).toNat default)≤10000:=B6y h.zone _
   have hU2:=fun st=>B4R t (gI nets (i:Int).toNat) (E9 z (cats.getD (i:Int).toNat default)) hrt st
   rw [hgR] at hgL
   generalize E9 z (cats.getD (i:Int).toNat default)=RT at hRi hgR hgL hU2
   conv=>whnf
   refine .inl ⟨[7,8],[],List.range 10,by kernel_rfl,?_⟩
   repeat' ((conv=>whnf);first | refine S3 hb16 rfl Nat.one_pos rfl ?_ | refine ⟨rfl,⟨by omega,by omega⟩,?_⟩ | refine ⟨_,F2 (hRi _),?_⟩ | fail)
   conv=>whnf
   refine B2M (q:=r2) (m:=1) (g:=fun j=>[eI RT].getD j AV.junk) h9 hsv .z rfl rfl rfl rfl (by rfl) rfl (f':=fun k=>eI (gI (cats.map (E9 z)) k)) (by show (i+1) * 8≤140737488355328;omega) (fun k hk=>?_) (fun sv bs hsv=>?_)
   ·split
    ·rfl
    ·rw [show k=i by omega,Nat.sub_self,hgR];rfl
   conv=>whnf
   intro w h9;conv=>whnf
   obtain rfl:=hsv.own (Nat.succ_pos i)
   have hb18:=h9.has1 (.s (.s .z))
   have hbs:=h9.has .z (Nat.succ_pos i)
   refine .inr ⟨[12,13,15],.qui 0 (.qui 1 (.qui 2 (.qui 3 (.qui 4 (.qui 5 (.qui 6 (.qui 7 (.qui 8 (.qui 9 (.qui 10 (.qui 11 (.eff 12 [1] (.eff 13 [] (.qui 14 (.eff 15 [] (.done)))))))))))))))),by kernel_rfl,?_⟩
   repeat' ((conv=>whnf);first | refine quT (fun _=>⟨rfl,rfl⟩) ?_ | refine quL hb18 (fun _ hs=>S3 hs rfl Nat.one_pos rfl ⟨rfl,rfl⟩) ?_ | refine ⟨rfl,⟨by omega,by omega⟩,?_⟩ | refine quL hbs (fun _ hs=>S3 hs rfl (show 0+(i:Int).toNat<i+1 by omega) (x:=eI RT) (by show eI (gI _ (0+(i:Int).toNat))=_;rw [show 0+(i:Int).toNat=i by omega,hgR]) ⟨rfl,rfl⟩) ?_ | refine quT (fun s=>F2 (hU2 s)) ?_ | refine ⟨fun h=>h,?_⟩ | fail)
   conv=>whnf
   refine B2M (q:=r2) (m:=1) (g:=fun j=>[eI (N8 t (gI nets i) RT)].getD j AV.junk) h9 htv (.s .z) rfl rfl rfl rfl (by rfl) rfl (f':=fun k=>eI (gI (X1 t (cats.map (E9 z)) nets) k)) (by show (i+1) * 8≤140737488355328;omega) (fun k hk=>?_) (fun tv bt htv=>?_)
   ·split
    ·rfl
    ·rw [show k=i by omega,Nat.sub_self,hgL];rfl
   conv=>whnf
   intro w h9;conv=>whnf
   refine C3C h9 (.s (.s .z)) rfl rfl rfl htv.one (by decide) ?_;conv=>whnf
   intro w h9;conv=>whnf
   refine F6 ?_
   exact nx hi' ⟨_,_,_,_,by rw [B4 (by omega)],hsv,htv,h9⟩
  obtain rfl:=C2 h1 hi
  clear hb16
  conv=>whnf
  cases hbo:t.byOrder
  case' false =>
   have e0:TX=X1 t (cats.map (E9 z)) nets:=by rw [hTX];exact if_neg (by rw [hbo];simp)
   rw [←e0] at h9
   replace htv:=htv.lv
   replace h9:=h9.drop 0
  case' true =>
   have e0:TX=G9 t (cats.map (E9 z)) nets:=by rw [hTX];exact if_pos hbo
   obtain ⟨w,h9,hsh⟩:=h9.frz .z hsv
   rw [show AV.arr 1 nets.length _=B0 (cats.map (E9 z)) by unfold B0 A8;rw [hr1]] at hsh;conv=>whnf
   refine F7 (args':=[S7 t,B0 (cats.map (E9 z)),B0 nets]) (A7.cons (A7.keep _ _) (A7.cons hsh (A7.keep _ _))) (call (B6z t _ nets h.nets hr1 hr2 _) (fun v w2 hv=>?_))
   obtain ⟨bt,rfl,hbt0,⟨y,⟨f,rfl,hf⟩,hbt1⟩,hsup⟩:=hv
   rw [←e0,t1] at hbt1 hf
   replace h9:=h9.got (y:=⟨2,1,nets.length,fun k=>eI (gI TX k)⟩) hbt0 hsup ⟨f,hbt1,hf⟩
   conv=>whnf
   refine U9 h9 (.s (.s .z)) rfl rfl (by rfl) ?_;conv=>whnf
   intro w h9
   replace h9:=h9.drop 1
   replace htv:=LV.of 1 bt nets.length
   generalize AV.own 1 bt 0 nets.length=tv at *
  all_goals
   dsimp only [List.eraseIdx] at h9
   conv=>whnf
   refine lp nets.length [2,4,5,6,12,18,21] (fun j vs u=>vs=[eB exempt,B0 nets,eI ship,.fptr (S7 t) 0,.optr 4 b12 0 0,.optr 4 b18 0 0,eI j]∧(t.incl=false→j=0) ∧
    E0 st [(bt,⟨2,1,nets.length,fun k=>eI (gI TX k)⟩),(b18,⟨175,4,1,fun _=>.agg [gv,tv,eI ship,eI MS]⟩),(bg,⟨2,1,nets.length,fun k=>eI (A0h nets TX j k)⟩),(b16,⟨103,4,1,fun _=>T3 z⟩),(b12,⟨175,4,1,fun _=>H2 C6i.zero⟩)] u) ?_ ?_
   ·conv=>whnf
    exact ⟨rfl,fun _=>rfl,h9⟩
   clear h9
   rintro j vs u hj ⟨rfl,hj0,h9⟩
   conv=>whnf
   cases h5:decide ((j:Int)<(nets.length:Int))<;>cases hin:t.incl
   case' true.true =>
    have hj5:=D6 h5
    obtain rfl:=hg.own (by omega)
    obtain rfl:=htv.own (by omega)
    have hb18:=h9.has1 (.s .z)
    have hbt:=h9.has .z (show 0<nets.length by omega)
    have hbg:=h9.has (.s (.s .z)) (show 0<nets.length by omega)
    have hx1:=hnx j hj5
    have hx2:=htx j hj5
    have hw:IntKind.i64.wrap (gI nets (j:Int).toNat - gI TX (j:Int).toNat)=gI nets j - gI TX j:=A5 (by show _≤gI nets j - gI TX j;omega) (by show gI nets j - gI TX j≤_;omega)
    conv=>whnf
    rw [hin];conv=>whnf
    refine .inl ⟨[14],[],List.range 15,by kernel_rfl,?_⟩
    repeat' ((conv=>whnf);first | refine S3 hb18 rfl Nat.one_pos rfl ?_ | refine ⟨rfl,⟨by omega,by omega⟩,?_⟩ | refine S3 hbt rfl (show 0+(j:Int).toNat<nets.length by omega) (x:=eI (gI TX (j:Int).toNat)) (by show eI (gI TX (0+(j:Int).toNat))=_;rw [D5R]) ?_ | rw [hw] | fail)
    conv=>whnf
    refine C0V h9 (.s (.s .z)) rfl (show 0+(j:Int).toNat<nets.length by omega) rfl (by rfl) ?_;conv=>whnf
    intro w h9;conv=>whnf
    refine F6 ?_
    refine nx hj5 ⟨by rw [B4 (by omega)],fun e=>(by cases e),h9.as (fun k=>eI (A0h nets TX (j+1) k)) (.s (.s .z)) fun k hk=>?_⟩
    show I1 (fun k=>eI (A0h nets TX j k)) (0+(j:Int).toNat) (eI (gI nets j - gI TX j)) k=eI (A0h nets TX (j+1) k)
    rw [show 0+(j:Int).toNat=j by omega]
    by_cases e:k=j
    ·subst e;rw [A4];unfold A0h;rw [if_pos (by omega)]
    ·rw [H4 e];unfold A0h
     by_cases hh:k<j
     ·rw [if_pos hh,if_pos (by omega)]
     ·rw [if_neg hh,if_neg (by omega)]
   all_goals
    have hx:∀ k,k<nets.length→eI (A0h nets TX j k)=eI (gI ((List.range nets.length).map (Z2 t TX nets)) k):=fun k hk=>by
     rw [show gI ((List.range nets.length).map (Z2 t TX nets)) k=Z2 t TX nets k by unfold gI;simp [D5A,hk]]
     unfold A0h Z2
     rcases (by first | exact .inl ⟨hin,C2 h5 hj⟩ | exact .inr ⟨hin,hj0 hin⟩:(t.incl=true∧j=nets.length)∨(t.incl=false∧j=0)) with ⟨e,rfl⟩ | ⟨e,rfl⟩
     ·rw [if_pos hk,if_pos e]
     ·rw [if_neg (by omega),if_neg (by rw [e];simp)]
    replace h9:=h9.as (fun k=>eI (gI ((List.range nets.length).map (Z2 t TX nets)) k)) (.s (.s .z)) hx
    dsimp only [List.set] at h9
   case' false.true =>
    have hwS:IntKind.i64.wrap (ship - MS)=SH:=by rw [hSH,if_pos hin];exact A5 (by omega) (by omega)
    repeat' ((conv=>whnf);first | rw [hin] | refine B4z h9 (.s .z) rfl Nat.one_pos rfl ?_ | fail)
    conv=>whnf
    rw [hwS]
    refine U9 h9 (.s .z) rfl rfl (by rfl) ?_;conv=>whnf
    intro w h9
   case' false.false=>obtain rfl:SH=ship:=by rw [hSH,if_neg (by rw [hin];simp)]
   case' true.false=>obtain rfl:SH=ship:=by rw [hSH,if_neg (by rw [hin];simp)]
   all_goals
    repeat' ((conv=>whnf);first | rw [hin] | fail)
    conv=>whnf
    cases exempt
    case' true =>
     conv=>whnf
     refine D2Z (e:=1) h9 rfl rfl rfl rfl (by show 8 * nets.length≤_;omega) (by omega) (by rfl) (fun bz w h9=>?_)
     replace h9:=h9.as (fun k=>eI (gI (List.replicate nets.length 0) k)) .z fun k _=>by unfold gI;rw [B7g];rfl
     conv=>whnf
     refine U9 h9 (.s (.s .z)) rfl rfl (by rfl) ?_;conv=>whnf
     intro w h9;conv=>whnf
     refine U9 h9 (.s (.s .z)) rfl rfl (by rfl) ?_;conv=>whnf
     intro w h9
     replace h9:=h9.drop 1
     replace htv:=LV.of 1 bz nets.length
     generalize AV.own 1 bz 0 nets.length=tv at *
     dsimp only [List.eraseIdx] at h9
    all_goals
     conv=>whnf
     refine B4z h9 (.s .z) rfl Nat.one_pos rfl ?_;conv=>whnf
     refine U9 h9 (.s (.s (.s (.s .z)))) rfl rfl (by show (_&&_&&(gv.one&&(tv.one&&_))&&_)=true;rw [hg.one,htv.one];rfl) ?_;conv=>whnf
     intro w h9;conv=>whnf
     refine B4z h9 (.s (.s (.s (.s .z)))) rfl Nat.one_pos rfl ?_;conv=>whnf
     exact ⟨gv,tv,bg,_,rfl,hg.lv,htv,((h9.drop 4).drop 3).drop 1⟩
theorem B0z (l:List Int) (h:K3 l) (st:St):S P 118 [B0 l] st fun v st'=>v=eI (A2 l)∧st'=st:=by
 have hn:=h.len
 refine F1 [] Tryz.func118 ?_
 refine lp l.length [0,3,4] (fun i vs t=>vs=[B0 l,eI (A2 (l.take i)),eI i]∧t=st) ?_ ?_
 ·conv=>whnf
  exact ⟨rfl,rfl⟩
 ·rintro i vs t hi ⟨rfl,rfl⟩
  conv=>whnf
  cases h1:decide ((i:Int)<(l.length:Int))
  ·obtain rfl:=C2 h1 hi
   rw [D5L];conv=>whnf
   exact ⟨rfl,rfl⟩
  ·have hi':=D6 h1
   have hs:IntKind.i64.wrap (A2 (l.take i)+gI l (i:Int).toNat)=A2 (l.take (i+1)):=h.step hi'
   conv=>whnf
   refine E4 ?_
   rw [hs]
   refine F6 ?_
   exact nx hi' ⟨by rw [B4 (by omega)],rfl⟩
theorem C6t (q:A0S) (h1:K3 q.goods) (h2:K3 q.taxes) (st:St):S P 82 [A0e q] st fun v st'=>v=A1x (A2q q)∧st'=st:=by
 have c1:=fun s=>B0z q.goods h1 s
 have c2:=fun s=>B0z q.taxes h2 s
 have hB:A2q q=⟨A2 q.goods,A2 q.taxes,q.ship,q.shipTax,0⟩:=rfl
 rw [hB]
 generalize A2 q.goods=G at c1 ⊢
 generalize A2 q.taxes=T' at c2 ⊢
 refine A1C ?_
 refine F1 [1] Tryz.func82 ?_
 intro b2 hb;conv=>whnf
 refine ⟨[11],[],List.range 12,by kernel_rfl,?_⟩;conv=>whnf
 refine cqW (c1 _) ?_
 refine cqW (c2 _) ?_
 refine X8 (A0 ..) rfl ?_
 refine I4 (A0 ..) (A4 ..) ?_
 exact ⟨rfl,((E6.refl st).upd hb).over hb⟩
theorem So.book (b:A4e):So (A1x b) (A1x b):=So.agg (.cons (So.int _ _) (.cons (So.int _ _) (.cons (So.int _ _) (.cons (So.int _ _) (.cons (So.int _ _) .nil)))))
set_option maxHeartbeats 8000000 in
theorem C3V {r:H0} {codes:List C8} {l:List E7} {Pr:A3T} {z:K7} {zone:C8} (exempt:Bool)
  (hP:∀ st,S P 115 [H5 r,C9 codes,A8 3 H7 l] st fun v s=>v=.tuple [A1f Pr,eI 0]∧s=st)
  (hI:∀ st,S P 116 [A8 4 E5 r.items,A8 3 H7 l] st fun v s=>v=A8 4 E5 (C3 r.items l)∧s=st)
  (hln:l.length≤1000) (hV:A2z r.tax z (N2 r l) Pr.nets Pr.ship) (hsm:B3d r.tax) (hz:A0a r.tax.zones zone=some z) (st:St) :
  S P 56 [H5 r,eS zone,eB exempt,C9 codes,A8 3 H7 l] st fun v st'=>v=.tuple [A0e (A9z r z exempt l Pr),eI 0]∧st'=st:=by
 have hQ:=B0v hV exempt Pr.deals
 have hlv:=fun s=>C6p hV hsm hz exempt s
 have hq:A9z r z exempt l Pr=⟨(L5 r.tax z exempt (N2 r l) Pr.nets Pr.ship).goods,(L5 r.tax z exempt (N2 r l) Pr.nets Pr.ship).taxes,(L5 r.tax z exempt (N2 r l) Pr.nets Pr.ship).ship,(L5 r.tax z exempt (N2 r l) Pr.nets Pr.ship).shipTax,A2 (L5 r.tax z exempt (N2 r l) Pr.nets Pr.ship).goods+A2 (L5 r.tax z exempt (N2 r l) Pr.nets Pr.ship).taxes+(L5 r.tax z exempt (N2 r l) Pr.nets Pr.ship).ship+(L5 r.tax z exempt (N2 r l) Pr.nets Pr.ship).shipTax,Pr.deals⟩:=rfl
 rw [hq]
 obtain ⟨q1,q2,q3,q4,q5,q6,q7,_⟩:=hQ
 have q1:K3 (L5 r.tax z exempt (N2 r l) Pr.nets Pr.ship).goods:=q1
 have q2:K3 (L5 r.tax z exempt (N2 r l) Pr.nets Pr.ship).taxes:=q2
 have q6:0≤(L5 r.tax z exempt (N2 r l) Pr.nets Pr.ship).ship∧(L5 r.tax z exempt (N2 r l) Pr.nets Pr.ship).ship≤10000000000000:=q6
 have q7:0≤(L5 r.tax z exempt (N2 r l) Pr.nets Pr.ship).shipTax∧(L5 r.tax z exempt (N2 r l) Pr.nets Pr.ship).shipTax≤10000000000000:=q7
 clear hq q3 q4 q5 hV hz
 generalize L5 r.tax z exempt (N2 r l) Pr.nets Pr.ship=V at *
 have s1:=fun s=>B0z V.goods q1 s
 have s2:=fun s=>B0z V.taxes q2 s
 have g1:=q1.sum
 have g2:=q2.sum
 have w1:IntKind.i64.wrap (A2 V.goods+A2 V.taxes)=A2 V.goods+A2 V.taxes:=A5 (by omega) (by omega)
 have w2:IntKind.i64.wrap (A2 V.goods+A2 V.taxes+V.ship)=A2 V.goods+A2 V.taxes+V.ship:=A5 (by omega) (by omega)
 have w3:IntKind.i64.wrap (A2 V.goods+A2 V.taxes+V.ship+V.shipTax)=A2 V.goods+A2 V.taxes+V.ship+V.shipTax:=A5 (by omega) (by omega)
 have hil:(C3 r.items l).length=l.length:=D5F ..
 have hcb:N2 r l=(C3 r.items l).map Ab.Item.cat:=rfl
 rw [hcb] at hlv
 generalize C3 r.items l=IT at hI hil hlv
 clear hcb
 refine A1C ?_
 refine F1 [5] Tryz.func56 ?_
 intro b10 hb10;conv=>whnf
 refine I2 (hP _) ?_
 intro b12 hb12
 have h02:b10≠b12:=fun e=>by subst e;rw [A0] at hb12;cases hb12
 conv=>whnf
 refine stU (A0 ..) rfl ?_
 rw [B7];conv=>whnf
 refine I2 (hI _) ?_
 generalize hst:(upd (upd st b10 _) b12 _:St)=S0
 obtain ⟨f12,at12,hf12⟩:∃ f12:Nat→AV,S0 b12=some ⟨170,4,1,f12⟩∧f12 0=A1f Pr:=by rw [←hst];exact ⟨_,A0 ..,by rw [A4];rfl⟩
 obtain ⟨f10,at10,hf10⟩:∃ f10:Nat→AV,S0 b10=some ⟨113,6,1,f10⟩∧f10 0=H2 C6h.zero:=by rw [←hst,A9 h02];exact ⟨_,A0 ..,rfl⟩
 have hs0:E6 st S0:=by rw [←hst];exact ((E6.refl st).upd hb10).upd hb12
 have n12:st b12=none:=by rw [A9 h02.symm] at hb12;exact hb12
 clear hst
 refine lp IT.length [1,2,5,10,12,14,15,16] (fun i vs u=>∃ sv,vs=[eS zone,eB exempt,.fptr (H5 r) 0,.optr 6 b10 0 0,.optr 4 b12 0 0,A8 4 E5 IT,sv,eI i]∧E1 9 1 eS ((IT.take i).map Ab.Item.cat) S0 sv u) ?_ ?_
 ·conv=>whnf
  exact ⟨.emp,rfl,E1.start _ _ _ _⟩
 rintro i vs u hi ⟨sv,rfl,hc⟩
 have hcs:=hc.sup
 conv=>whnf
 cases h1:decide ((i:Int)<(IT.length:Int))
 case true =>
  have hi':=D6 h1
  have hln2:((IT.take i).map Ab.Item.cat).length=i:=by rw [D5F,D5K];omega
  have htk:(IT.take (i+1)).map Ab.Item.cat=(IT.take i).map Ab.Item.cat++[(IT.getD (i:Int).toNat default).cat]:=by rw [K6 hi',D6i];rfl
  conv=>whnf
  refine E4 ?_
  refine E1.app (y:=(IT.getD (i:Int).toNat default).cat) (q:=r9) rfl rfl rfl rfl rfl (by rfl) (by rw [hln2];show (i+1) * 16≤140737488355328;omega) hc (fun sv' t' hc'=>?_);conv=>whnf
  refine F6 ?_
  exact nx hi' ⟨sv',by rw [B4 (by omega)],by rw [htk];exact hc'⟩
 obtain rfl:=C2 h1 hi
 rw [D5L] at hc;conv=>whnf
 refine I4 (hcs b12 _ at12) hf12 ?_
 refine I4 (hcs b12 _ at12) hf12 ?_
 have hTS:A7 [S7 r.tax,eS zone,eB exempt,sv,B0 Pr.nets,eI Pr.ship] u [S7 r.tax,eS zone,eB exempt,C9 (IT.map Ab.Item.cat),B0 Pr.nets,eI Pr.ship] S0 :=
  A7.cons (A7.keep [S7 r.tax] _) (A7.cons (A7.keep [eS zone] _) (A7.cons (A7.keep [eB exempt] _) (A7.cons hc.shift (A7.keep _ _))))
 refine F7 hTS (B3 (hlv _) ?_);conv=>whnf
 intro b17 hb17
 have h12n:b12≠b17:=fun e=>by subst e;rw [at12] at hb17;cases hb17
 have h10n:b10≠b17:=fun e=>by subst e;rw [at10] at hb17;cases hb17
 conv=>whnf
 refine stU (A0 ..) rfl ?_
 rw [B7];conv=>whnf
 generalize hst:(upd S0 b17 _:St)=S1
 obtain ⟨f17,at17,hf17⟩:∃ f17:Nat→AV,S1 b17=some ⟨175,4,1,f17⟩∧f17 0=B9i V:=by rw [←hst];exact ⟨_,A0 ..,by rw [A4];rfl⟩
 have at12':S1 b12=some ⟨170,4,1,f12⟩:=by rw [←hst,A9 h12n];exact at12
 have at10':S1 b10=some ⟨113,6,1,f10⟩:=by rw [←hst,A9 h10n];exact at10
 have hs1:E6 st S1:=by rw [←hst];exact hs0.upd hb17
 clear hst
 refine ⟨[24],[],List.range 26,by kernel_rfl,?_⟩
 repeat' ((conv=>whnf);first | refine ldV at17 rfl (by omega) hf17 ?_ | refine ldV at12' rfl (by omega) hf12 ?_ | refine ⟨_,F2 (s1 _),?_⟩ | refine ⟨_,F2 (s2 _),?_⟩)
 all_goals
  conv=>whnf
  rw [w1,w2,w3]
  refine X8 at10' hf10 ?_
  refine I4 (A0 ..) (A4 ..) ?_
  exact ⟨rfl,hs1.over hb10⟩
end Go.Proofs.YtaapofnkmpiknaaGreat
namespace Go.Proofs.YtaapofnkmpiknaaGreat
open Go Go.Ab
theorem C7T (f:Nat→Int) {n i:Nat} (hi:i<n):gI ((List.range n).map f) i=f i:=by
 unfold gI;simp [D5A,hi]
theorem C0L {t:Tax} {z:K7} {cats:List C8} {nets:List Int} {ship:Int} (h:A2z t z cats nets ship) (hn:∀ i,i<nets.length→0≤gI nets i∧gI nets i≤1000000000000) (hs:ship≤1000000000000) (exempt:Bool) (deals:List A1T) :
  B0J (B4M (L5 t z exempt cats nets ship) deals) nets.length:=by
 have hq:=B0v h exempt deals
 obtain ⟨r1,r2⟩:=A3y h
 obtain ⟨t1,t2⟩:=A6q (t:=t) h.nets r1 r2
 have hm:=A2W (t:=t) h.ship.1 (A4F h.zone).2.1
 have tl:=fun i (hi:i<nets.length)=>B6Y (t:=t) h.nets r1 r2 hi
 have tp:∀ i,i<nets.length→0≤gI (L0 t (cats.map (E9 z)) nets) i:=fun i hi=>(t2 _ (A6 (by omega))).1
 refine ⟨fun i hi=>?_,fun i hi=>?_,hq.ngoods,hq.ntaxes,⟨hq.ship.1,?_⟩,⟨hq.shipTax.1,?_⟩,hq.total⟩
 ·show 0≤gI (A2D _ _ _) i∧gI (A2D _ _ _) i≤_
  unfold A2D
  rw [C7T _ hi]
  have h1:=hn i hi
  have h2:=tl i hi
  have h3:=tp i hi
  split<;>omega
 ·show 0≤gI (if exempt=true then List.replicate nets.length 0 else _) i∧gI (if exempt=true then List.replicate nets.length 0 else _) i≤_
  have h1:=hn i hi
  have h2:=tl i hi
  have h3:=tp i hi
  split
  ·have:gI (List.replicate nets.length 0) i=0:=by unfold gI;simp [D5A,hi]
   rw [this];omega
  ·omega
 ·show (if t.incl=true then ship - N8 t ship z.ship else ship)≤_
  split<;>omega
 ·show (if exempt=true then 0 else N8 t ship z.ship)≤_
  split<;>omega
theorem Q6.sold {R:H0} {C:List C8} {L:List E7} (h:Q6 R C L) {z:K7} {s:C8} (hz:A0a R.tax.zones s=some z) (exempt:Bool):B0J (B1P R C L z exempt) L.length:=by
 have hN:=h.nets
 have hf:=h.fee
 have hsh:=hN.ship
 have:=C0L (h.levy hz) (fun i hi=>by
  have hi:i<L.length:=by rw [←hN.len];exact hi
  have h1:=hN.at' i hi
  have h2:=h.lines.line _ (A6 hi)
  have h9:(L.getD i default).qty * (L.getD i default).price≤9 * 4000:=D7Y h2.1.2 (by omega) h2.2.1 (by omega)
  omega) (by omega) exempt (A3x R C L).deals
 rw [hN.len] at this;exact this
theorem Q6.rquote_S {R:H0} {C:List C8} {L:List E7} (h:Q6 R C L) {z:K7} {s:C8} (hz:A0a R.tax.zones s=some z) (exempt:Bool) (st:St) :
  S P 56 [H5 R,eS s,eB exempt,C9 C,A8 3 H7 L] st fun v st'=>v=.tuple [A0e (B1P R C L z exempt),eI 0]∧st'=st:=by
 have hk:=(A6D h.check).lines.known
 have hi:=h.items
 have hl:=h.lines.len
 have hRI:=fun st=>B6u R.items L (by show R.items.length≤_;omega) (by omega) hk st
 exact C3V exempt (fun st=>h.ref_S st) hRI (by omega) (h.levy hz) h.sm.tax hz st
theorem B0J.total_in {Q:A0S} {n:Nat} (h:B0J Q n) (hn:n≤8):0≤Q.total∧Q.total≤100000000000000:=by
 have g1:=B0C h.ngoods h.goods
 have g2:=B0C h.ntaxes h.taxes
 have g3:=h.ship
 have g4:=h.shipTax
 have g5:=h.total
 have hn':(n:Int)≤8:=by omega
 omega
theorem B8U (n:Int):D1 (Q0 (B5 n 3))=true:=by
 have:=C7 n (n:=3) (by decide)
 obtain ⟨k,hk⟩:∃ k:Nat,B5 n 3=k:=⟨(B5 n 3).toNat,by omega⟩
 rw [hk]
 have hk3:k<3:=by omega
 exact D5V.1 A7O k (D5U.2 hk3)
structure B7k (R:H0) (Z:C8) (exempt:Bool) (C:List C8) (A:List Add) (L:List E7) (Q:A0S) (pays:List Pay):Prop where
 lines:X2 R.items A=(L,0)
 len:1≤L.length∧L.length≤8
 same:L=A.map (K1 R.items)
 sold:B0J Q L.length
 paid:A8v pays Q.total=true
 npays:pays.length≤3
 zone:D1 Z=true
 codes:S6 C=true
 ncodes:C.length≤3
 scodes:∀ s∈C,s.size≤12
 line:∀ x∈L,D1 x.sku=true∧(0≤x.price∧x.price≤1000000000)∧1≤x.qty∧x.qty≤100000
 right:W0 R=true
 fit:A0T R
 items:R.items.length≤8
 amounts:K3 Q.goods∧K3 Q.taxes
 prog:∀ st,S P 60 [H5 R,eS Z,eB exempt,C9 C,A8 3 H7 L] st fun v st'=>v=.tuple [A0e Q,eI 0]∧st'=st
 ref:∀ st,S P 56 [H5 R,eS Z,eB exempt,C9 C,A8 3 H7 L] st fun v st'=>v=.tuple [A0e Q,eI 0]∧st'=st
theorem C8r (s:B2F):∃ L Q,B7k (H6 s.rules) (U2 s) s.exempt (J4 s.codes) (J1 s.adds) L Q (R1 Q.total s.pays):=by
 have hb:=B5u s.rules.items s.adds
 have h:=(C8l s.rules s.codes []).relines hb
 obtain ⟨z,hz⟩:=B2Q s.rules s.zone
 have hq:=h.quoteIn hz s.exempt
 have hs:=h.sold hz s.exempt
 obtain ⟨⟨a1,a2⟩,a3⟩:=A6c s.adds
 have hln:((J1 s.adds).map (K1 (G2 s.rules.items))).length≤8:=hb.len
 have hT:=hs.total_in hln
 have hp:=B2N hT.1 hT.2 s.pays
 refine ⟨_,B1P (H6 s.rules) (J4 s.codes) ((J1 s.adds).map (K1 (G2 s.rules.items))) z s.exempt,B6h s.rules.items s.adds,?_,rfl,hs,hp.1,hp.2,B8U s.zone,h.codes,h.ncodes,h.scodes,fun x hx=>?_,h.right,h.fit,h.items,⟨hq.goods,hq.taxes⟩,fun st=>h.quote_S hz s.exempt st,fun st=>h.rquote_S hz s.exempt st⟩
 ·show 1≤((J1 s.adds).map (K1 (G2 s.rules.items))).length∧((J1 s.adds).map (K1 (G2 s.rules.items))).length≤8
  rw [D5F];omega
 ·have hx:x∈(J1 s.adds).map (K1 (G2 s.rules.items)):=hx
  have l1:=hb.line x hx
  obtain ⟨n,hn⟩:=hb.sku x hx
  obtain ⟨y,hy,rfl⟩:=D5X.1 hx
  have l2:=(a3 y hy).1
  refine ⟨by rw [hn];exact A9B n,by omega,?_⟩
  show 1≤y.qty∧y.qty≤100000
  omega
end Go.Proofs.YtaapofnkmpiknaaGreat
namespace Go.Proofs.YtaapofnkmpiknaaGreat
open Go Go.Ab
attribute [local irreducible] upd del
set_option maxHeartbeats 4000000 in
theorem C6q (R:H0) (set day:Int) (id key zone:C8) (exempt:Bool) (codes:List C8) (adds:List Add) (pays:List Pay) (L:List E7) (Q:A0S) (B:A4e) (st:St)
  (hs:1≤set∧set≤40) (hc:codes.length≤100000) (hl:L.length≤1000) (hg:Q.goods.length=L.length) (ht:Q.taxes.length=L.length) (hp:A8v pays Q.total=true) (hpl:pays.length≤6)
  (n1:∀ s,S P 76 [eI day,eI 100000] s fun v st'=>v=.bool true∧st'=s)
  (n2:∀ s,S P 74 [eS id] s fun v st'=>v=.bool true∧st'=s)
  (n3:∀ s,S P 74 [eS zone] s fun v st'=>v=.bool true∧st'=s)
  (n4:∀ s,S P 81 [H5 R] s fun v st'=>v=.bool true∧st'=s)
  (n5:∀ s,S P 75 [C9 codes] s fun v st'=>v=.bool true∧st'=s)
  (nL:∀ s,S P 55 [A8 4 E5 R.items,A8 2 A4U adds] s fun v st'=>v=.tuple [A8 3 H7 L,eI 0]∧st'=s)
  (nQ:∀ s,S P 56 [H5 R,eS zone,eB exempt,C9 codes,A8 3 H7 L] s fun v st'=>v=.tuple [A0e Q,eI 0]∧st'=s)
  (nB:∀ s,S P 82 [A0e Q] s fun v st'=>v=A1x B∧st'=s) :
  S P 27 [H5 R,eI set,B3r id key zone exempt codes adds pays,eI day] st fun v st'=>∃ cv lv tv bc bl bt,E0 st [(bl,⟨55,6,L.length,fun k=>O1 ((A1m L Q).getD k default)⟩),(bt,⟨70,3,pays.length,fun k=>P8 ((pays.map A3P).getD k default)⟩),(bc,⟨9,1,codes.length,fun k=>eS (codes.getD k default)⟩)] st' ∧
   OV 1 bc codes.length cv∧OV 6 bl L.length lv∧OV 3 bt pays.length tv ∧
   v=.tuple [.agg [eS id,eI set,eS zone,eB exempt,cv,eI day,lv,eI Q.ship,eI Q.shipTax,eI 0,eI Q.total,eI B.goods,eI B.tax,eI B.ship,eI B.shipTax,eI B.fee,tv],eI 0]:=by
 have d1:decide (set<1)=false:=D5H (by omega)
 have d2:decide (set>40)=false:=D5H (by omega)
 have hpay:(∀ x∈pays,A3E x=true)∧O0 pays=Q.total:=by
  unfold A8v at hp
  simp only [D5G,D5C,D6z] at hp
  exact ⟨D5V.1 hp.1.2,hp.2⟩
 have hpi:∀ i,i<pays.length→(1≤(pays.getD i default).kind∧(pays.getD i default).kind≤9)∧1≤(pays.getD i default).amount∧(pays.getD i default).amount≤100000000000000:=fun i hi=>by
  have:=hpay.1 _ (A6 hi)
  unfold A3E I9 at this
  simp only [D5G,F4,D5C] at this
  omega
 have hpn:∀ i,i<pays.length→O0 (pays.take (i+1))=O0 (pays.take i)+(pays.getD i default).amount:=fun i hi=>G8 hi _ _
 have hpk:∀ j i,i+j=pays.length→0≤O0 (pays.take i)∧O0 (pays.take i)≤Q.total∧Q.total≤O0 (pays.take i)+100000000000000 * (j:Int):=fun j=>by
  induction j with
  | zero=>intro i hi;rw [D7t (by omega),hpay.2];exact ⟨by rw [←hpay.2];have:=(B4D pays.length (D5J _) fun k hk=>hpay.1 _ (A6 hk)).1;rwa [D5L] at this,D6j _,by omega⟩
  | succ j ih =>
   intro i hi
   have h1:=ih (i+1) (by omega)
   have h2:=hpn i (by omega)
   have h3:=hpi i (by omega)
   have h4:=(B4D i (by omega) fun k hk=>hpay.1 _ (A6 (by omega))).1
   exact ⟨h4,by omega,by rw [show ((j+1:Nat):Int)=(j:Int)+1 from rfl];omega⟩
 refine A7o [4,6,17] B2K mixed Tryz.func27 (by rfl) rfl rfl rfl ?_;conv=>whnf
 intro b8 hb8
 generalize hs:(upd st b8 _:St)=w
 have h:=E0.new' hs (B4A st) hb8
 clear hs hb8
 repeat' ((conv=>whnf);first | refine B3 (n1 _) ?_ | refine B3 (n2 _) ?_ | refine B3 (n3 _) ?_ | refine B3 (n4 _) ?_ | refine B3 (n5 _) ?_ | refine B3 (nL _) ?_ | refine B3 (nQ _) ?_ | rw [d1] | rw [d2] | fail)
 conv=>whnf
 intro b12 hb12;conv=>whnf
 generalize hs:(upd w b12 _:St)=w2
 have h:=E0.new' hs h hb12
 clear hs hb12
 refine U9 h .z rfl rfl (by rfl) ?_;conv=>whnf
 intro w h
 have h:=h.soft 0 9 1 (fun k=>eS (codes.getD k default))
 have hb:=h.has1 (.s .z)
 conv=>whnf
 refine .inr ⟨[9,20,21],.qui 0 (.qui 1 (.qui 2 (.qui 3 (.qui 4 (.qui 5 (.qui 6 (.qui 7 (.qui 8 (.qui 10 (.qui 11 (.qui 12 (.qui 13 (.qui 14 (.qui 15 (.qui 16 (.qui 17 (.two 9 20 [1,4,6,12,14,16,17] [1,4,6,8,12,14,16,17] (.qui 18 (.qui 19 (.eff 20 [1,4,6,8,12,14,16,17,18] (.eff 21 [] (.done))))) (.eff 9 [1,4,6,12,14,16,17] (.qui 18 (.qui 19 (.eff 21 [] (.done)))))))))))))))))))))),by kernel_rfl,?_⟩
 repeat' ((conv=>whnf);first | refine quT (fun _=>⟨rfl,rfl⟩) ?_ | refine quT (fun s=>F2 (nB s)) ?_ | refine quL hb (fun _ hs=>S3 hs rfl Nat.one_pos rfl ⟨rfl,rfl⟩) ?_ | fail)
 refine ⟨?A,?B⟩
 case' A =>
  conv=>whnf
  refine B2M (q:=r9) (m:=codes.length) (g:=fun k=>eS (codes.getD k default)) h (OV.nil 1 0) .z rfl rfl rfl rfl (by rfl) (A2K ..) (f':=fun k=>eS (codes.getD k default)) (by show (0+codes.length) * 16≤140737488355328;omega) (fun i _=>by rw [if_neg (by omega)];rfl) (fun cv bc hcv=>?_);conv=>whnf
  intro w h
  rw [D5R codes.length] at hcv h
  have hb:=h.has1 (.s .z)
  have e1:=A2a hcv.one
  have e2:=B0x hcv.one
  repeat' ((conv=>whnf);first | refine ⟨fun _=>trivial,?_⟩ | refine ⟨fun _=>hb,?_⟩ | refine quT (fun _=>⟨rfl,rfl⟩) ?_ | refine quT (fun s=>F2 (nB s)) ?_ | refine quL hb (fun _ hs=>S3 hs rfl Nat.one_pos rfl ⟨rfl,rfl⟩) ?_ | rw [e1] | rw [e2] | fail)
  conv=>whnf
  intro b14 hb14
  generalize hs:(upd w b14 _:St)=w2
  have h:=E0.new' hs h hb14
  clear hs hb14
  have hb:=h.has1 (.s (.s .z))
  repeat' ((conv=>whnf);first | refine ⟨fun _=>trivial,?_⟩ | refine ⟨fun _=>hb,?_⟩ | fail)
 case' B =>
  conv=>whnf
  intro b14 hb14
  generalize hs:(upd w b14 _:St)=w2
  have h:=E0.new' hs h hb14
  clear hs hb14
  have hb:=h.has1 (.s (.s .z))
  repeat' ((conv=>whnf);first | refine ⟨fun _=>trivial,?_⟩ | refine ⟨fun _=>hb,?_⟩ | fail)
  conv=>whnf
  refine B2M (q:=r9) (m:=codes.length) (g:=fun k=>eS (codes.getD k default)) h (OV.nil 1 0) (.s .z) rfl rfl rfl rfl (by rfl) (A2K ..) (f':=fun k=>eS (codes.getD k default)) (by show (0+codes.length) * 16≤140737488355328;omega) (fun i _=>by rw [if_neg (by omega)];rfl) (fun cv bc hcv=>?_);conv=>whnf
  intro w h
  rw [D5R codes.length] at hcv h
  have hb:=h.has1 (.s (.s .z))
  have e1:=A2a hcv.one
  have e2:=B0x hcv.one
  repeat' ((conv=>whnf);first | refine ⟨fun _=>trivial,?_⟩ | refine ⟨fun _=>hb,?_⟩ | refine quT (fun _=>⟨rfl,rfl⟩) ?_ | refine quT (fun s=>F2 (nB s)) ?_ | refine quL hb (fun _ hs=>S3 hs rfl Nat.one_pos rfl ⟨rfl,rfl⟩) ?_ | rw [e1] | rw [e2] | fail)
 all_goals
  conv=>whnf
  refine U9 h .z rfl rfl (C0o (by rfl) (by simp only [cellsOf,List.all_cons,hcv.one];rfl)) ?_;conv=>whnf
  intro w h
  clear hb e1 e2
  conv=>whnf
  refine B4z h (.s (.s .z)) rfl Nat.one_pos rfl ?_;conv=>whnf
  refine lp pays.length [6,8,10,12,14,15,16] (fun i vs u=>∃ tv bt,vs=[(B3r id key zone exempt codes adds pays).fptr 0,.optr 17 b8 0 0,A8 3 H7 L,.optr 6 b12 0 0,.optr 17 b14 0 0,eI (Q.total - O0 (pays.take i)),eI i]∧OV 3 bt i tv ∧
   E0 st [(bt,⟨70,3,i,fun k=>P8 ((pays.map A3P).getD k default)⟩),(b14,⟨50,17,1,fun _=>.agg [eS id,eI set,eS zone,eB exempt,cv,eI day,.emp,eI Q.ship,eI Q.shipTax,eI 0,eI Q.total,eI B.goods,eI B.tax,eI B.ship,eI B.shipTax,eI B.fee,tv]⟩),(bc,⟨9,1,codes.length,fun k=>eS (codes.getD k default)⟩),(b12,⟨113,6,1,fun _=>A0e Q⟩),(b8,⟨50,17,1,fun _=>H2 r50.zero⟩)] u) ?_ ?_
  ·conv=>whnf
   exact ⟨_,0,by rw [show O0 (pays.take 0)=0 by rw [D7o];rfl,Int.sub_zero];rfl,OV.nil ..,h.soft ..⟩
  clear h
  rintro i vs u hi ⟨tv,bt,rfl,htv,h⟩
  conv=>whnf
  cases h1:decide ((i:Int)<(pays.length:Int))
  case true =>
   have hi':=D6 h1
   have q1:=hpi i hi'
   have q2:=hpn i hi'
   have q3:=hpk (pays.length - (i+1)) (i+1) (by omega)
   have q4:=hpk (pays.length - i) i (by omega)
   rw [show pays.getD i default=pays.getD (i:Int).toNat default from rfl] at q1 q2
   have g0:decide ((i:Int)≥6)=false:=D5H (by omega)
   have g1:decide ((pays.getD (i:Int).toNat default).kind<1)=false:=D5H (by omega)
   have g2:decide ((pays.getD (i:Int).toNat default).kind>9)=false:=D5H (by omega)
   have g3:decide ((pays.getD (i:Int).toNat default).amount<1)=false:=D5H (by omega)
   have g4:decide ((pays.getD (i:Int).toNat default).amount>Q.total - O0 (pays.take i))=false:=D5H (by omega)
   repeat' ((conv=>whnf);first | refine ⟨rfl,⟨by omega,by omega⟩,?_⟩ | rw [g0] | rw [g1] | rw [g2] | rw [g3] | rw [g4] | refine B4z h (.s .z) rfl Nat.one_pos rfl ?_ | fail)
   conv=>whnf
   refine B2M (q:=r70) (m:=1) (g:=fun j=>[P8 (A3P (pays.getD (i:Int).toNat default))].getD j AV.junk) h htv .z rfl rfl rfl rfl (by rfl) rfl (f':=fun k=>P8 ((pays.map A3P).getD k default)) (by show (i+1) * 24≤140737488355328;omega) (fun k hk=>?_) (fun tv bt htv=>?_)
   ·split
    ·rfl
    ·rw [show k=i by omega,Nat.sub_self,D4 A3P pays hi'];rfl
   conv=>whnf
   intro w h;conv=>whnf
   refine C3C h (.s .z) rfl rfl rfl htv.one (by decide) ?_;conv=>whnf
   intro w h;conv=>whnf
   refine F6 ?_
   exact nx hi' ⟨_,_,by rw [B4 (by omega),A5 (by omega) (by omega),show Q.total - O0 (pays.take i) - (pays.getD (i:Int).toNat default).amount=Q.total - O0 (pays.take (i+1)) by omega],htv,h⟩
  obtain rfl:=C2 h1 hi
  rw [show Q.total - O0 (pays.take pays.length)=0 by rw [D5L,hpay.2];omega];conv=>whnf
  refine lp L.length [8,10,12,14,18] (fun i vs u=>∃ lv bl,vs=[.optr 17 b8 0 0,A8 3 H7 L,.optr 6 b12 0 0,.optr 17 b14 0 0,eI i]∧OV 6 bl i lv ∧
   E0 st [(bl,⟨55,6,i,fun k=>O1 ((A1m L Q).getD k default)⟩),(bt,⟨70,3,pays.length,fun k=>P8 ((pays.map A3P).getD k default)⟩),(b14,⟨50,17,1,fun _=>.agg [eS id,eI set,eS zone,eB exempt,cv,eI day,lv,eI Q.ship,eI Q.shipTax,eI 0,eI Q.total,eI B.goods,eI B.tax,eI B.ship,eI B.shipTax,eI B.fee,tv]⟩),(bc,⟨9,1,codes.length,fun k=>eS (codes.getD k default)⟩),(b12,⟨113,6,1,fun _=>A0e Q⟩),(b8,⟨50,17,1,fun _=>H2 r50.zero⟩)] u) ?_ ?_
  ·conv=>whnf
   exact ⟨_,0,rfl,OV.nil ..,h.soft ..⟩
  clear h
  rintro i vs u hi ⟨lv,bl,rfl,hlv,h⟩
  conv=>whnf
  cases h2:decide ((i:Int)<(L.length:Int))
  case false =>
   obtain rfl:=C2 h2 hi
   conv=>whnf
   refine B4z h (.s (.s .z)) rfl Nat.one_pos rfl ?_;conv=>whnf
   refine U9 h (.s (.s (.s (.s (.s .z))))) rfl rfl (C0o (by rfl) (by simp only [cellsOf,List.all_cons,hcv.one,hlv.one,htv.one];rfl)) ?_;conv=>whnf
   intro w h;conv=>whnf
   refine B4z h (.s (.s (.s (.s (.s .z))))) rfl Nat.one_pos rfl ?_;conv=>whnf
   exact ⟨cv,lv,tv,bc,bl,bt,((h.drop 5).drop 4).drop 2,hcv,hlv,htv,rfl⟩
  have hi':=D6 h2
  have hb14:=h.has1 (.s (.s .z))
  have hb12:=h.has1 (.s (.s (.s (.s .z))))
  conv=>whnf
  refine .inr ⟨[34,36],.qui 0 (.qui 1 (.qui 2 (.qui 3 (.qui 4 (.qui 5 (.qui 6 (.qui 7 (.qui 8 (.qui 9 (.qui 10 (.qui 11 (.qui 12 (.qui 13 (.qui 14 (.qui 15 (.qui 16 (.qui 17 (.qui 18 (.qui 19 (.qui 20 (.qui 21 (.qui 22 (.qui 23 (.qui 24 (.qui 25 (.qui 26 (.qui 27 (.qui 28 (.qui 29 (.qui 30 (.qui 31 (.qui 32 (.qui 33 (.eff 34 [] (.qui 35 (.eff 36 [] (.done))))))))))))))))))))))))))))))))))))),by kernel_rfl,?_⟩
  repeat' ((conv=>whnf);first | refine quT (fun _=>⟨rfl,rfl⟩) ?_ | refine quL hb14 (fun _ hs=>S3 hs rfl Nat.one_pos rfl ⟨rfl,rfl⟩) ?_ | refine quL hb12 (fun _ hs=>S3 hs rfl Nat.one_pos rfl ⟨rfl,rfl⟩) ?_ | refine ⟨rfl,⟨by omega,by omega⟩,?_⟩ | fail)
  conv=>whnf
  refine B2M (q:=r55) (m:=1) (g:=fun j=>[O1 (A3p L Q i)].getD j AV.junk) h hlv .z rfl rfl rfl rfl (by rfl) rfl (f':=fun k=>O1 ((A1m L Q).getD k default)) (by show (i+1) * 56≤140737488355328;omega) (fun k hk=>?_) (fun lv bl hlv=>?_)
  ·split
   ·rfl
   ·rw [show k=i by omega,Nat.sub_self]
    unfold A1m
    rw [D4 (A3p L Q) (List.range L.length) (by rw [D6d];omega)]
    show O1 (A3p L Q i)=_
    congr 2
    simp [D5A,hi']
  conv=>whnf
  intro w h;conv=>whnf
  refine C3C h (.s (.s .z)) rfl rfl rfl hlv.one (by decide) ?_;conv=>whnf
  intro w h;conv=>whnf
  refine F6 ?_
  exact nx hi' ⟨_,_,by rw [B4 (by omega)],hlv,h⟩
end Go.Proofs.YtaapofnkmpiknaaGreat
