/- Part 21 of the proof: contracts of the functions that the law reaches -/
import Derived.Test.YthdimklenlikgaaGreatDw20
import Derived.Shelf.SlicesE.Compact
set_option linter.unusedVariables false
set_option linter.unusedSimpArgs false
namespace Go.Ab
open Go
theorem B8t {w:World} {st st':St} (h:∀ b,st b=none↔st' b=none):A2y w st=A2y w st':=by
 funext a
 unfold A2y
 cases h1:st a.block with
 | none=>rw [(h _).1 h1]
 | some x =>
  cases h2:st' a.block with
  | none=>rw [(h _).2 h2] at h1;cases h1
  | some y=>rfl
theorem B2.cellG {vs:List AV} {st st2:St} {a i:Nat} {y:Q5} {sv v' w':AV} {pre post:List AV} (h:B2 [sv] st [v'] st2) (hy:st a=some y) (hy2:st2 a=some y) (hi:i<y.n)
  (hf:cellsOf (y.f i)=pre++sv::post) (hw:cellsOf w'=pre++v'::post) (h1:v'.one=true):B2 vs st vs (upd st2 a { y with f:=G5 y.f i w' }):=fun w cs hS hR=>by
 obtain ⟨ds,hok⟩:=hS a y hy
 obtain ⟨c,hc1,hc2⟩:=hok.cell i pre.length sv hi (by rw [hf];show (pre++sv::post)[pre.length]?=some sv;simp)
 obtain ⟨hS2,hR2,hE⟩:=h w #[c] hS ⟨rfl,fun k z c' hz hc'=>by
  cases k with
  | zero=>simp at hz hc';subst hz;subst hc';exact hc2
  | succ k=>simp at hz⟩
 have hv:J0 w st2 v' c:=hR2.2 0 v' c rfl rfl
 have e:A2y w (upd st2 a { y with f:=G5 y.f i w' })=A2y w st2:=B8t fun b=>by
  by_cases eb:b=a
  ·subst eb;rw [A0,hy2];constructor<;>(intro h0;cases h0)
  ·rw [A8 eb]
 have hrep:∀ v c,J0 w st2 v c→J0 w (upd st2 a { y with f:=G5 y.f i w' }) v c:=fun v c hv=>by
  show Rep (A2y w _) _ _ _
  rw [e];exact hv
 refine ⟨fun b x hb=>?_,⟨hR.1,fun k y c hy hc=>hrep _ _ (hE.rep (hR.2 k y c hy hc))⟩,⟨hE.os,hE.tape,hE.output,hE.size,fun b hb hn=>⟨(hE.blk b hb hn).1,?_⟩,hE.szm⟩⟩
 ·by_cases eb:b=a
  ·subst eb
   rw [A0] at hb;cases hb
   obtain ⟨ds2,hok2⟩:=hS2 b y hy2
   have hds:ds2=ds:=by
    have h3:=hok2.heap
    rw [hok.heap] at h3
    cases h3;rfl
   subst hds
   have hlen:=hok2.len i hi
   have hone:=hok2.one i hi
   rw [hf] at hlen hone
   refine ⟨ds2,hok2.heap,hok2.size,fun k hk=>?_,fun k hk=>?_,fun k m z hk hz=>?_⟩
   ·by_cases ek:k=i
    ·subst ek
     show (cellsOf (G5 y.f k _ k)).length=y.e
     unfold G5;rw [if_pos rfl,←hlen]
     show (cellsOf w').length=(pre++sv::post).length
     rw [hw]
     simp
    ·show (cellsOf (G5 y.f i _ k)).length=y.e
     unfold G5;rw [if_neg ek];exact hok2.len k hk
   ·by_cases ek:k=i
    ·subst ek
     show (cellsOf (G5 y.f k _ k)).all AV.one=true
     unfold G5;rw [if_pos rfl]
     have hone':(pre++sv::post).all AV.one=true:=hone
     show (cellsOf w').all AV.one=true
     rw [hw]
     simp only [List.all_append,List.all_cons,Bool.and_eq_true] at hone' ⊢
     exact ⟨hone'.1,h1,hone'.2.2⟩
    ·show (cellsOf (G5 y.f i _ k)).all AV.one=true
     unfold G5;rw [if_neg ek];exact hok2.one k hk
   ·have hz:(cellsOf (G5 y.f i w' k))[m]?=some z:=hz
    unfold G5 at hz
    by_cases ek:k=i
    ·subst ek
     rw [if_pos rfl] at hz
     have hz:(pre++v'::post)[m]?=some z:=by rw [←hw];exact hz
     by_cases em:m=pre.length
     ·subst em
      simp at hz
      subst hz
      exact ⟨c,hc1,hrep _ _ hv⟩
     ·have e3:(pre++sv::post)[m]?=some z:=by
       rw [←hz]
       by_cases hm:m<pre.length
       ·rw [List.getElem?_append_left hm,List.getElem?_append_left hm]
       ·rw [List.getElem?_append_right (by omega),List.getElem?_append_right (by omega)]
        obtain ⟨q,hq⟩:∃ q,m - pre.length=q+1:=⟨m - pre.length - 1,by omega⟩
        rw [hq];rfl
      obtain ⟨c',k1,k2⟩:=hok2.cell k m z hk (by rw [hf];exact e3)
      exact ⟨c',k1,hrep _ _ k2⟩
    ·rw [if_neg ek] at hz
     obtain ⟨c',k1,k2⟩:=hok2.cell k m z hk hz
     exact ⟨c',k1,hrep _ _ k2⟩
  ·rw [A8 eb] at hb
   obtain ⟨ds2,hok2⟩:=hS2 b x hb
   exact ⟨ds2,hok2.heap,hok2.size,hok2.len,hok2.one,fun k m z hk hz=>by
    obtain ⟨c',k1,k2⟩:=hok2.cell k m z hk hz
    exact ⟨c',k1,hrep _ _ k2⟩⟩
 ·have:=(hE.blk b hb hn).2
  have eb:b≠a:=fun h=>by rw [h,hy] at hn;cases hn
  rw [A8 eb];exact this
theorem B2.cell {vs:List AV} {st st2:St} {a i:Nat} {y:Q5} {sv v':AV} {pre post:List AV} (h:B2 [sv] st [v'] st2) (hy:st a=some y) (hy2:st2 a=some y) (hi:i<y.n)
  (hf:y.f i=.agg (pre++sv::post)) (h1:v'.one=true):B2 vs st vs (upd st2 a { y with f:=G5 y.f i (.agg (pre++v'::post)) }) :=
 B2.cellG h hy hy2 hi (by rw [hf];rfl) rfl h1
theorem B2.elem {vs:List AV} {st st2:St} {a i:Nat} {y:Q5} {sv v':AV} (h:B2 [sv] st [v'] st2) (hy:st a=some y) (hy2:st2 a=some y) (hi:i<y.n)
  (hf:y.f i=sv) (h0:sv.one=true) (h1:v'.one=true):B2 vs st vs (upd st2 a { y with f:=G5 y.f i v' }) :=
 B2.cellG (pre:=[]) (post:=[]) h hy hy2 hi (by rw [hf];cases sv<;>first | rfl | cases h0) (by cases v'<;>first | rfl | cases h1) h1
end Go.Ab
set_option maxRecDepth 100000
namespace Go.Proofs.YthdimklenlikgaaGreat
open Go Go.Ab
attribute [local irreducible] upd del
theorem ROut.ofCol {R:St→St→Prop} (hR:G7 R) {ty e n:Nat} {f:Nat→AV} {s t t':St} {v:AV} (h:R s t) (hc:H7 ty e f t n v t'):ROut R ty e f n s v t':=by
 rcases hc with ⟨rfl,rfl,rfl⟩ | ⟨h0,b,g,h1,rfl,rfl,h3⟩
 ·exact ⟨s,H7.start _ _ _ _,h⟩
 ·exact ⟨upd s b ⟨ty,e,n,g⟩,.inr ⟨h0,b,g,(hR.sup h).none h1,rfl,rfl,h3⟩,hR.begin h h1⟩
theorem ROut.cell {R:St→St→Prop} (hR:G7 R) {ty e n b:Nat} {fo:Nat→AV} {s t:St} (h:ROut R ty e fo n s (.own e b 0 n) t) (hn:0<n) :
  ∃ g,t b=some ⟨ty,e,n,g⟩∧(∀ k,k<n→g k=fo k)∧∀ (g' fo':Nat→AV),(∀ k,k<n→g' k=fo' k)→ROut R ty e fo' n s (.own e b 0 n) (upd t b ⟨ty,e,n,g'⟩):=by
 obtain ⟨s0,hc,hr⟩:=h
 rcases hc with ⟨h0,_⟩ | ⟨_,b',g,h1,h2,rfl,h3⟩
 ·omega
 ·injection h2 with _ h2 _ _
  subst h2
  refine ⟨g,hR.sup hr b _ (A0 ..),h3,fun g' fo' hg=>⟨upd s b ⟨ty,e,n,g'⟩,.inr ⟨hn,b,g',h1,rfl,rfl,hg⟩,?_⟩⟩
  have:=hR.write (y':=⟨ty,e,n,g'⟩) hr (A0 ..)
  rwa [B6] at this
theorem ROut.own0 {R:St→St→Prop} {ty e n:Nat} {fo:Nat→AV} {s t:St} {sv:AV} (h:ROut R ty e fo n s sv t) (hn:0<n):∃ b,sv=.own e b 0 n:=by
 obtain ⟨s0,⟨h0,_⟩ | ⟨_,b,_,_,h1,_⟩,h2⟩:=h
 ·omega
 ·exact ⟨b,h1⟩
theorem ROut.one {R:St→St→Prop} {ty e n:Nat} {fo:Nat→AV} {s t:St} {sv:AV} (h:ROut R ty e fo n s sv t):sv.one=true:=by rcases h.head with rfl | ⟨b,rfl⟩<;>rfl
theorem B4L {T:G4} {t:TypeId} {e b i o ty n:Nat} {u v:AV} {st:St} {k:KK} {r:D0} {f:Nat→AV} (h:st b=some ⟨ty,e,n,f⟩) (hr:T t=some r) (h1:r.size=1) (hi:i<n) (hv:f i=v) (hu:u.one=true) (ho:o+1≤e)
  (hk:k (.tuple []) (upd st b ⟨ty,e,n,G5 f i (P3 v o [u])⟩)):C3a T t e b i o u st k:=by
 have hc:cellsOf u=[u]:=by cases u<;>first | rfl | cases hu
 refine K4 h hr hi hv ?_ (by rw [hc];exact hk)
 rw [hc,h1]
 show (true&&true&&(u.one&&true)&&Nat.ble (o+1) e)=true
 rw [hu,show Nat.ble (o+1) e=true by rw [Nat.ble_eq];exact ho];rfl
def A2V (R0:St→St→Prop) (ty e:Nat) (F:Nat→Nat→AV) (len:Nat→Nat) (sv:Nat→AV):Nat→St→St→Prop
 | 0=>R0
 | k+1=>fun s t=>ROut (A2V R0 ty e F len sv k) ty e (F k) (len k) s (sv k) t
section
variable {R0:St→St→Prop} {ty e:Nat} {F:Nat→Nat→AV} {len:Nat→Nat}
theorem A1v (hR:G7 R0) (sv:Nat→AV):∀ k,G7 (A2V R0 ty e F len sv k)
 | 0=>hR
 | k+1=>M9 (A1v hR sv k) _ _ _ _ _
theorem A6O {sv sv':Nat→AV}:∀ (k:Nat) {s t:St},(∀ j,j<k→sv j=sv' j)→A2V R0 ty e F len sv k s t→A2V R0 ty e F len sv' k s t
 | 0,s,t,_,h=>h
 | k+1,s,t,he,h=>by
  obtain ⟨s0,h1,h2⟩:=h
  rw [he k (Nat.lt_succ_self k)] at h1
  exact ⟨s0,h1,A6O k (fun j hj=>he j (Nat.lt_succ_of_lt hj)) h2⟩
theorem B3x (hR:G7 R0) {sv:Nat→AV} {k:Nat} {s t t':St} {v:AV} (h:A2V R0 ty e F len sv k s t) (hc:H7 ty e (F k) t (len k) v t'):A2V R0 ty e F len (fun j=>if j=k then v else sv j) (k+1) s t':=by
 have h':=A6O (sv':=fun j=>if j=k then v else sv j) k (fun j hj=>by rw [if_neg (by omega)]) h
 have e:(fun j=>if j=k then v else sv j) k=v:=if_pos rfl
 show ROut _ _ _ _ _ _ ((fun j=>if j=k then v else sv j) k) _
 rw [e]
 exact ROut.ofCol (A1v hR _ k) h' hc
theorem A6P {sv:Nat→AV}:∀ (k:Nat) {s t:St},A2V R0 ty e F len sv k s t→∃ s',R0 s' t∧∀ t',R0 s' t'→A2V R0 ty e F len sv k s t'
 | 0,s,t,h=>⟨s,h,fun _ h'=>h'⟩
 | k+1,s,t,h=>by
  obtain ⟨s0,h1,h2⟩:=h
  obtain ⟨s',h3,h4⟩:=A6P k h2
  exact ⟨s',h3,fun t' h'=>⟨s0,h1,h4 t' h'⟩⟩
theorem B6N (hR:G7 R0) {bz n tz eo:Nat} {sv:Nat→AV} {pre post:Nat→List AV}:∀ (k:Nat) (s t:St) (g:Nat→AV),k≤n→A2V R0 ty e F len sv k s t→s bz=some ⟨tz,eo,n,g⟩→(∀ j,j<k→g j=.agg (pre j++sv j::post j)) →
  ∃ t' g',(∀ vs,B2 vs t vs t')∧R0 (upd s bz ⟨tz,eo,n,g'⟩) t'∧(∀ j,j<k→g' j=.agg (pre j++.arr e (len j) (F j)::post j))∧∀ j,k≤j→g' j=g j
 | 0,s,t,g,hk,h,hs,hg=>by
  refine ⟨t,g,fun vs=>B2.refl _ _,?_,fun j hj=>absurd hj (by omega),fun j _=>rfl⟩
  rw [B0u hs];exact h
 | k+1,s,t,g,hk,h,hs,hg=>by
  have hB:=A1v (ty:=ty) (e:=e) (F:=F) (len:=len) hR sv k
  have ht:t bz=some ⟨tz,eo,n,g⟩:=(A1v hR sv (k+1)).sup h _ _ hs
  obtain ⟨t1,hsh,hc⟩:=ROut.shift hB h
  have ht1:t1 bz=some ⟨tz,eo,n,g⟩:=hB.sup hc _ _ hs
  have hcell:=fun vs=>B2.cell (vs:=vs) (pre:=pre k) (post:=post k) hsh ht ht1 (show k<n by omega) (hg k (by omega)) rfl
  have hc':=hB.write (y':=⟨tz,eo,n,G5 g k (.agg (pre k++AV.arr e (len k) (F k)::post k))⟩) hc hs
  obtain ⟨t',g',k1,k2,k3,k4⟩:=B6N hR (pre:=pre) (post:=post) k _ _ _ (by omega) hc' (A0 ..) (fun j hj=>by rw [G2 (by omega)];exact hg j (by omega))
  rw [B6] at k2
  refine ⟨t',g',fun vs=>(hcell vs).trans (k1 vs),k2,fun j hj=>?_,fun j hj=>?_⟩
  ·by_cases e':j=k
   ·subst e';rw [k4 j (Nat.le_refl _),A2]
   ·exact k3 j (by omega)
  ·rw [k4 j (by omega),G2 (by omega)]
end
abbrev Sm (n:Nat):Prop:=n≤4611686018427387904
theorem A2N (s:D7) (hs:Sm s.size) (st:St):S P 126 [eS s] st fun v st'=>v=.bool (F1 s)∧st'=st:=by
 refine A5 [] B7 mixed Tryz.func126 (by rfl) rfl rfl rfl ?_;conv=>whnf
 refine lp s.size [0,3] (fun i vs st'=>(∀ k,k<i→okc (chr s k)=true)∧vs=[eS s,eI i]∧st'=st) ?_ ?_
 ·conv=>whnf
  exact ⟨fun k hk=>absurd hk (by omega),rfl,rfl⟩
 ·rintro i vs st' hi ⟨hok,rfl,rfl⟩
  conv=>whnf
  cases h:decide ((i:Int)<(s.size:Int))
  ·obtain rfl:=D1 h hi
   have e:F1 s=(decide ((s.size:Int)≥1)&&decide ((s.size:Int)≤12)):=by
    unfold F1
    rw [A5s hok,Bool.and_true]
    congr 1<;>exact decide_eq_decide.2 (by omega)
   rw [e];conv=>whnf
   refine C3 (fun h1=>?_) (fun h1=>?_)<;>rw [h1]<;>(conv=>whnf)<;>exact ⟨rfl,rfl⟩
  ·have hi':=F7 h
   have no:okc (chr s i)=false→F1 s=false:=fun h=>by unfold F1;rw [A3p hi' h,Bool.and_false]
   have yes:okc (chr s i)=true→∀ k,k<i+1→okc (chr s k)=true:=fun h=>L7 hok h
   conv=>whnf
   refine C2c (i:=i) rfl hi' ?_
   generalize chr s i=c at *
   repeat' ((conv=>whnf);refine C3 (fun h=>?_) (fun h=>?_)<;>rw [h])
   all_goals (conv=>whnf)
   all_goals first
    | (refine ⟨?_,rfl⟩
       rw [no (by rw [←Bool.not_eq_true,A8R];simp only [Bool.not_eq_true',Bool.not_eq_false',beq_iff_eq,beq_eq_false_iff_ne,ne_eq,decide_eq_true_eq,decide_eq_false_iff_not] at *;omega)]
       rfl)
    | (refine ⟨rfl,?_⟩
       conv=>whnf
       exact nx hi' ⟨yes ((A8R c).2 (by simp only [Bool.not_eq_true',Bool.not_eq_false',beq_iff_eq,beq_eq_false_iff_ne,ne_eq,decide_eq_true_eq,decide_eq_false_iff_not] at *;omega)),by rw [C0 (by omega)],rfl⟩)
theorem A1N (x m:Int) (st:St):S P 162 [eI x,eI m] st fun v st'=>v=.bool (R7 0 m x)∧st'=st:=by
 refine A5 [] B7 mixed Tryz.func162 (by rfl) rfl rfl rfl ?_;conv=>whnf
 unfold R7
 refine C3 (fun h=>?_) (fun h=>?_)<;>rw [h]<;>(conv=>whnf)<;>exact ⟨rfl,rfl⟩
theorem B5W (l:List D7) (s:D7) (hl:Sm l.length) (st:St):S P 166 [D3 l,eS s] st fun v st'=>v=.bool (l.any fun y=>y.toList==s.toList)∧st'=st:=by
 refine A5 [] B7 mixed Tryz.func166 (by rfl) rfl rfl rfl ?_;conv=>whnf
 refine lp l.length [0,1,5] (fun i vs st'=>(∀ k,k<i→((l.getD k default).toList==s.toList)=false)∧vs=[D3 l,eS s,eI i]∧st'=st) ?_ ?_
 ·conv=>whnf
  exact ⟨fun k hk=>absurd hk (by omega),rfl,rfl⟩
 ·rintro i vs st' hi ⟨hok,rfl,rfl⟩
  conv=>whnf
  cases h:decide ((i:Int)<(l.length:Int))
  ·obtain rfl:=D1 h hi
   conv=>whnf
   refine ⟨?_,rfl⟩
   rw [List.any_eq_false.2 fun x hx=>by obtain ⟨k,hk,rfl⟩:=F4 hx;rw [hok k hk];simp];rfl
  ·have hi':=F7 h
   conv=>whnf
   refine ⟨rfl,⟨by omega,by omega⟩,?_⟩;conv=>whnf
   cases h1:((l.getD (i:Int).toNat default).toList==s.toList)
   ·conv=>whnf
    refine ⟨rfl,?_⟩;conv=>whnf
    exact nx hi' ⟨L7 hok h1,by rw [C0 (by omega)],rfl⟩
   ·conv=>whnf
    refine ⟨?_,rfl⟩
    rw [List.any_eq_true.2 ⟨_,B4 hi',h1⟩];rfl
theorem B7i (a b:D7):(Op.bytesLess a.toList b.toList||a.toList==b.toList)=!slt b a:=by
 show (slt a b||_)=_
 cases h:slt a b with
 | true=>rw [A5D h];rfl
 | false =>
  cases h2:slt b a with
  | true =>
   rw [Bool.false_or,Bool.not_true,beq_eq_false_iff_ne]
   intro e
   rw [B1G e.symm e,h] at h2;cases h2
  | false=>rw [Bool.false_or,beq_iff_eq.2 (A5E h h2)];rfl
theorem B0d (l:List D7) (m:Int) (hl:Sm l.length) (hs:∀ s∈l,Sm s.size) (st:St):S P 164 [D3 l,eI m] st fun v st'=>v=.bool (Z8 l&&decide ((l.length:Int)≤m))∧st'=st:=by
 have hN:Z8 l=I6 l fun k x=>F1 x&&L3 l k:=by
  unfold Z8 Y1 I6
  rw [←Bool.coe_iff_coe]
  simp only [Bool.and_eq_true,List.all_eq_true,List.mem_range,Bool.not_eq_true',List.any_eq_false,Bool.not_eq_true,Bool.not_eq_false']
  exact ⟨fun ⟨a,b⟩ k hk=>⟨Bool.not_eq_false _▸b _ (B4 hk),a k hk⟩,fun h=>⟨fun k hk=>(h k hk).2,fun x hx=>by obtain ⟨k,hk,rfl⟩:=F4 hx;rw [(h k hk).1];simp⟩⟩
 rw [hN]
 refine A5 [] B7 mixed Tryz.func164 (by rfl) rfl rfl rfl ?_;conv=>whnf
 refine lp l.length [0,1,5] (fun i vs st'=>(∀ k,k<i→(F1 (l.getD k default)&&L3 l k)=true)∧vs=[D3 l,eI m,eI i]∧st'=st) ?_ ?_
 ·conv=>whnf
  exact ⟨fun k hk=>absurd hk (by omega),rfl,rfl⟩
 ·rintro i vs st' hi ⟨hok,rfl,rfl⟩
  conv=>whnf
  cases h:decide ((i:Int)<(l.length:Int))
  ·obtain rfl:=D1 h hi
   conv=>whnf
   rw [J1 hok]
   exact ⟨rfl,rfl⟩
  ·have hi':=F7 h
   have yes:(F1 (l.getD (i:Int).toNat default)&&L3 l i)=true→∀ k,k<i+1→(F1 (l.getD k default)&&L3 l k)=true:=fun h=>L7 hok h
   have no:(F1 (l.getD (i:Int).toNat default)&&L3 l i)=false→(I6 l fun k x=>F1 x&&L3 l k)=false:=fun h=>S1 hi' h
   conv=>whnf
   refine ⟨[],[],List.range 22,by kernel_rfl,?_⟩;conv=>whnf
   refine ⟨rfl,⟨by omega,by omega⟩,?_⟩;conv=>whnf
   have n1:=A2N (l.getD (i:Int).toNat default) (hs _ (B4 hi')) st'
   generalize F1 (l.getD (i:Int).toNat default)=b1 at n1 no yes
   refine ⟨_,C9 n1,?_⟩;conv=>whnf
   cases b1
   ·conv=>whnf
    rw [no rfl]
    exact ⟨rfl,rfl⟩
   ·rw [Bool.true_and] at no yes;conv=>whnf
    cases h2:decide ((i:Int)>0)
    ·have h0:i=0:=by have:=of_decide_eq_false h2;omega
     conv=>whnf
     refine ⟨rfl,?_⟩;conv=>whnf
     exact nx hi' ⟨yes (by rw [h0];rfl),by rw [C0 (by omega)],rfl⟩
    ·have hp:0<i:=by have:=of_decide_eq_true h2;omega
     have hw:IntKind.i64.wrap ((i:Int) - 1)=((i - 1:Nat):Int):=by rw [A9 (by omega) (by omega)];omega
     have e:L3 l i=!(Op.bytesLess (l.getD (i:Int).toNat default).toList (l.getD ((i - 1:Nat):Int).toNat default).toList||(l.getD (i:Int).toNat default).toList==(l.getD ((i - 1:Nat):Int).toNat default).toList):=by
      rw [B7i,Bool.not_not]
      unfold L3
      rw [Int.toNat_natCast,Int.toNat_natCast,beq_false_of_ne (by omega),Bool.false_or]
     rw [e] at yes no;conv=>whnf
     refine ⟨rfl,⟨by omega,by omega⟩,?_⟩;conv=>whnf
     rw [hw]
     refine ⟨rfl,⟨by omega,by omega⟩,?_⟩;conv=>whnf
     generalize (Op.bytesLess (l.getD (i:Int).toNat default).toList (l.getD ((i - 1:Nat):Int).toNat default).toList||(l.getD (i:Int).toNat default).toList==(l.getD ((i - 1:Nat):Int).toNat default).toList)=b at *
     cases b
     ·conv=>whnf
      refine ⟨rfl,?_⟩;conv=>whnf
      exact nx hi' ⟨yes rfl,by rw [C0 (by omega)],rfl⟩
     ·conv=>whnf
      rw [no rfl]
      exact ⟨rfl,rfl⟩
structure A1q (s:O4):Prop where
 n1:Sm s.skus.length
 n2:Sm s.cats.length
 s1:∀ x∈s.skus,Sm x.size
 s2:∀ x∈s.cats,Sm x.size
theorem B4t (s:O4) (h:A1q s) (st:St):S P 307 [J3 s] st fun v st'=>v=.bool (A0o s)∧st'=st:=by
 refine A5 [1] B7 mixed Tryz.func307 (by rfl) rfl rfl rfl ?_;conv=>whnf
 refine A4 (B0d s.skus 20 h.n1 h.s1 st) ?_
 have e:A0o s=((Z8 s.skus&&decide ((s.skus.length:Int)≤20))&&(Z8 s.cats&&decide ((s.cats.length:Int)≤20))):=by
  unfold A0o
  rw [Bool.and_comm (decide _),Bool.and_comm (decide (s.cats.length≤20))]
  rw [show decide ((s.skus.length:Int)≤20)=decide (s.skus.length≤20) from decide_eq_decide.2 (by omega),show decide ((s.cats.length:Int)≤20)=decide (s.cats.length≤20) from decide_eq_decide.2 (by omega)]
 rw [e]
 cases (Z8 s.skus&&decide ((s.skus.length:Int)≤20))
 ·conv=>whnf
  exact ⟨rfl,rfl⟩
 ·conv=>whnf
  refine A4 (B0d s.cats 20 h.n2 h.s2 st) ?_;conv=>whnf
  exact ⟨rfl,rfl⟩
theorem B7d (l:List Ab.Item) (s:D7) (hl:Sm l.length) (st:St):S P 116 [A7 4 E3 l,eS s] st fun v st'=>v=eI (V8 l s)∧st'=st:=by
 refine A5 [] B7 mixed Tryz.func116 (by rfl) rfl rfl rfl ?_;conv=>whnf
 refine lp l.length [0,1,5] (fun i vs st'=>(∀ k,k<i→((l.getD k default).sku.toList==s.toList)=false)∧vs=[A7 4 E3 l,eS s,eI i]∧st'=st) ?_ ?_
 ·conv=>whnf
  exact ⟨fun k hk=>absurd hk (by omega),rfl,rfl⟩
 ·rintro i vs st' hi ⟨hok,rfl,rfl⟩
  conv=>whnf
  cases h:decide ((i:Int)<(l.length:Int))
  ·obtain rfl:=D1 h hi
   conv=>whnf
   exact ⟨by rw [show V8 l s = -1 from R3 fun k hk=>hok k hk];rfl,rfl⟩
  ·have hi':=F7 h
   conv=>whnf
   refine ⟨rfl,⟨by omega,by omega⟩,?_⟩;conv=>whnf
   refine C3 (fun h1=>?_) (fun h1=>?_)<;>rw [h1]
   ·conv=>whnf
    exact ⟨by rw [show V8 l s=i from A1i hi' hok h1];rfl,rfl⟩
   ·conv=>whnf
    refine ⟨rfl,?_⟩;conv=>whnf
    exact nx hi' ⟨L7 hok h1,by rw [C0 (by omega)],rfl⟩
theorem B2K {L:List D7} {i:Nat} (hp:0<i):L3 L i=!(Op.bytesLess (L.getD i default).toList (L.getD (i - 1) default).toList||(L.getD i default).toList==(L.getD (i - 1) default).toList):=by
 rw [B7i,Bool.not_not]
 unfold L3
 rw [beq_false_of_ne (by omega),Bool.false_or]
theorem A5Z {i:Nat} (h:0<i) (h2:i<9223372036854775807):IntKind.i64.wrap ((i:Int) - 1)=((i - 1:Nat):Int):=by rw [A9 (by omega) (by omega)];omega
def A4K (l:List Ab.Item) (k:Nat) (x:Ab.Item):Bool:=F1 x.sku&&F1 x.cat&&R7 0 1000000000 x.price&&L3 (l.map Ab.Item.sku) k
theorem C0t (l:List Ab.Item) (hl:Sm l.length) (hs:∀ x∈l,Sm x.sku.size∧Sm x.cat.size) (st:St):S P 159 [A7 4 E3 l] st fun v st'=>v=.bool (A0M l)∧st'=st:=by
 have hN:A0M l=(I6 l (A4K l)&&decide ((l.length:Int)≤500)):=by
  unfold A0M I6 Y1 A4K A3n R7
  rw [List.length_map,←Bool.coe_iff_coe]
  simp only [Bool.and_eq_true,List.all_eq_true,List.mem_range,Bool.not_eq_true',Bool.or_eq_false_iff,Bool.not_eq_false',decide_eq_true_eq,decide_eq_false_iff_not]
  constructor
  ·rintro ⟨h1,h2,h3⟩
   exact ⟨fun k hk=>⟨⟨⟨(h2 k hk).1.1.1,(h2 k hk).1.1.2⟩,by have:=(h2 k hk).1.2;have:=(h2 k hk).2;omega⟩,h3 k hk⟩,by omega⟩
  ·rintro ⟨h1,h2⟩
   exact ⟨by omega,fun k hk=>⟨⟨⟨(h1 k hk).1.1.1,(h1 k hk).1.1.2⟩,by have:=(h1 k hk).1.2;omega⟩,by have:=(h1 k hk).1.2;omega⟩,fun k hk=>(h1 k hk).2⟩
 rw [hN]
 refine A5 [] B7 mixed Tryz.func159 (by rfl) rfl rfl rfl ?_;conv=>whnf
 refine lp l.length [0,3] (fun i vs st'=>(∀ k,k<i→A4K l k (l.getD k default)=true)∧vs=[A7 4 E3 l,eI i]∧st'=st) ?_ ?_
 ·conv=>whnf
  exact ⟨fun k hk=>absurd hk (by omega),rfl,rfl⟩
 ·rintro i vs st' hi ⟨hok,rfl,rfl⟩
  conv=>whnf
  cases h:decide ((i:Int)<(l.length:Int))
  ·obtain rfl:=D1 h hi
   conv=>whnf
   rw [J1 hok]
   exact ⟨rfl,rfl⟩
  ·have hi':=F7 h
   have yes:A4K l i (l.getD (i:Int).toNat default)=true→∀ k,k<i+1→A4K l k (l.getD k default)=true:=fun h=>L7 hok h
   have no:A4K l i (l.getD (i:Int).toNat default)=false→I6 l (A4K l)=false:=fun h=>S1 hi' h
   have hm:=hs _ (B4 hi')
   have n1:=A2N (l.getD (i:Int).toNat default).sku hm.1 st'
   have n2:=A2N (l.getD (i:Int).toNat default).cat hm.2 st'
   have n3:=A1N (l.getD (i:Int).toNat default).price 1000000000 st'
   have e:0<i→L3 (l.map Ab.Item.sku) i=!(Op.bytesLess (l.getD i default).sku.toList (l.getD (i - 1) default).sku.toList||(l.getD i default).sku.toList==(l.getD (i - 1) default).sku.toList):=fun hp=>by
    rw [B2K hp]
    have e1:(l.map Ab.Item.sku).getD i default=(l.getD i default).sku:=D8 Ab.Item.sku l hi'
    have e2:(l.map Ab.Item.sku).getD (i - 1) default=(l.getD (i - 1) default).sku:=D8 Ab.Item.sku l (by omega)
    rw [e1,e2]
   have e0:i=0→L3 (l.map Ab.Item.sku) i=true:=fun h=>by rw [h];rfl
   rw [show A4K l i (l.getD (i:Int).toNat default)=(F1 (l.getD (i:Int).toNat default).sku&&F1 (l.getD (i:Int).toNat default).cat&&R7 0 1000000000 (l.getD (i:Int).toNat default).price&&L3 (l.map Ab.Item.sku) i) from rfl] at yes no
   generalize F1 (l.getD (i:Int).toNat default).sku=b1 at n1 yes no
   generalize F1 (l.getD (i:Int).toNat default).cat=b2 at n2 yes no
   generalize R7 0 1000000000 (l.getD (i:Int).toNat default).price=b3 at n3 yes no
   conv=>whnf
   refine ⟨[],[],List.range 43,by kernel_rfl,?_⟩
   cases h0:decide ((i:Int)>0)
   ·have h0':i=0:=by have:=of_decide_eq_false h0;omega
    replace e:=e0 h0'
    repeat' ((conv=>whnf);first | refine ⟨rfl,⟨by omega,by omega⟩,?_⟩ | refine ⟨_,C9 n1,?_⟩ | refine ⟨_,C9 n2,?_⟩ | refine ⟨_,C9 n3,?_⟩ | rw [h0] | cases b1 | cases b2 | cases b3)
    all_goals (conv=>whnf)
    all_goals first
     | (rw [no (by rfl)];exact ⟨rfl,rfl⟩)
     | (refine ⟨rfl,?_⟩;conv=>whnf
        exact nx hi' ⟨yes (by rw [e];rfl),by rw [C0 (by omega)],rfl⟩)
   ·have h0':0<i:=by have:=of_decide_eq_true h0;omega
    replace e:=e h0'
    have hw:=A5Z h0' (by omega)
    repeat' ((conv=>whnf);first | refine ⟨rfl,⟨by omega,by omega⟩,?_⟩ | refine ⟨rfl,⟨by rw [hw];omega,by rw [hw];omega⟩,?_⟩ | refine ⟨_,C9 n1,?_⟩ | refine ⟨_,C9 n2,?_⟩ | refine ⟨_,C9 n3,?_⟩ | rw [h0] | cases b1 | cases b2 | cases b3 | refine C3 (fun h=>?_) (fun h=>?_))
    all_goals (conv=>whnf)
    all_goals first
     | (rw [no (by rfl)];exact ⟨rfl,rfl⟩)
     | (rw [hw] at h;rw [no (by rw [e];exact congrArg not h)];exact ⟨rfl,rfl⟩)
     | (rw [hw] at h;refine ⟨rfl,?_⟩;conv=>whnf
        exact nx hi' ⟨yes (by rw [e];exact congrArg not h),by rw [C0 (by omega)],rfl⟩)
end Go.Proofs.YthdimklenlikgaaGreat
namespace Go.Proofs.YthdimklenlikgaaGreat
open Go Go.Ab Go.Proofs Go.Sort Go.Lib
attribute [local irreducible] upd del
def scF (x:Nat):Nat:=match x with
 | 43=>247
 | n=>n
def scT (x:Nat):Nat:=match x with
 | 22=>29
 | 23=>3
 | 0=>0
 | 3=>3
 | 4=>4
 | n=>n
def C6y:Go.Shelf.Ren:={ f:=scF,t:=scT,g:=fun n=>n }
theorem C3s:SlLaysE.n43 Tryz.prog C6y where
 mixed:=by kernel_rfl
 f43 := ⟨"slices.Compact[[]int,int]", by decide, Tryz.func247.trans (congrArg some (by kernel_rfl))⟩
 t0:=Tryz.underlying0
 a0:=Tryz.isAgg0
 z0:=Tryz.sizeOf0
 v0:=Tryz.zeroValue0
 t3:=Tryz.underlying3
 a3:=Tryz.isAgg3
 z3:=Tryz.sizeOf3
 v3:=Tryz.zeroValue3
 t4:=Tryz.underlying4
 a4:=Tryz.isAgg4
 z4:=Tryz.sizeOf4
 v4:=Tryz.zeroValue4
 t22:=Tryz.underlying29
 a22:=Tryz.isAgg29
 z22:=Tryz.sizeOf29
 v22:=Tryz.zeroValue29
 a23:=Tryz.isAgg3
 z23:=Tryz.sizeOf3
def U0 (l:List Int):List Int:=compactUpTo l.toArray l.length
def A6R (l:List Int):List Int:=U0 l++List.replicate (l.length - (U0 l).length) 0
theorem A7E (l:List Int):(U0 l).length≤l.length:=by
 unfold U0 compactUpTo
 rw [List.length_map]
 exact Nat.le_trans (List.length_filter_le ..) (by simp)
theorem B1i (l:List Int):(A6R l).length=l.length:=by
 have:=A7E l
 unfold A6R;rw [List.length_append,List.length_replicate];omega
def A5a (l':List Int):Q5:=⟨3,1,l'.length,fun k=>eI (gI l' k)⟩
theorem C2B {st:St} {w:World} {b n:Nat} {l l':List Int} (hl:l'.length=l.length) (hb:A4u st b l) (hS:H2 st w) :
  Z3 st w (upd st b (A5a l')) (putRow (Value.int .i64) (Sort.ahead w n) b 0 l'.toArray)∧H2 (upd st b (A5a l')) (putRow (Value.int .i64) (Sort.ahead w n) b 0 l'.toArray):=by
 obtain ⟨f,hst,hf⟩:=hb
 obtain ⟨cs,hok⟩:=hS b _ hst
 have hbl:b<w.heap.size:=(Array.getElem?_eq_some_iff.1 hok.heap).1
 have hsz:l.length * 1≤cs.size:=hok.size
 have hheap:∀ c,c<w.heap.size→(putRow (Value.int .i64) (Sort.ahead w n) b 0 l'.toArray).heap[c]?=if b=c then some (.cells (putCells (Value.int .i64) 0 l'.toArray cs) 3 (0,0)) else w.heap[c]?:=fun c hc=>by
  show (w.heap.modify b (onCells (putCells (Value.int .i64) 0 l'.toArray)))[c]?=_
  rw [Array.getElem?_modify]
  split
  ·rename_i e;subst e;rw [hok.heap];rfl
  ·rfl
 have hev:Z3 st w (upd st b (A5a l')) (putRow (Value.int .i64) (Sort.ahead w n) b 0 l'.toArray):=by
  refine ⟨rfl,rfl,rfl,?_,fun c hc hs=>?_,fun c=>?_⟩
  ·show w.heap.size≤(w.heap.modify b _).size
   simp
  ·have hne:b≠c:=fun e=>by subst e;rw [hst] at hs;cases hs
   rw [hheap c hc,if_neg hne]
   exact ⟨rfl,by rw [A8 hne.symm];exact hs⟩
  ·by_cases hc:c<w.heap.size
   ·unfold A1o
    rw [hheap c hc]
    by_cases e:b=c
    ·subst e
     rw [hok.heap,if_pos rfl]
     simp [putCells]
    ·rw [if_neg e];exact Nat.le_refl _
   ·unfold A1o
    rw [Array.getElem?_eq_none (by omega)]
    exact Nat.zero_le _
 refine ⟨hev,fun c x hx=>?_⟩
 by_cases e:c=b
 ·subst e
  rw [A0] at hx
  cases hx
  refine ⟨putCells (Value.int .i64) 0 l'.toArray cs,?_,?_,fun i hi=>rfl,fun i hi=>rfl,fun i j y hi hy=>?_⟩
  ·rw [hheap c hbl,if_pos rfl];rfl
  ·show l'.length * 1≤_
   rw [hl]
   simpa [putCells] using hsz
  ·have hi':i<l'.length:=hi
   cases j with
   | succ j=>simp [A5a,cellsOf] at hy
   | zero =>
    have hy':y=eI (gI l' i):=by simpa [A5a,cellsOf] using hy.symm
    subst hy'
    refine ⟨.int .i64 (gI l' i),?_,.int _ _⟩
    show (putCells (Value.int .i64) 0 l'.toArray cs)[i * 1+0]?=_
    unfold putCells
    rw [Array.getElem?_mapIdx,Nat.mul_one,Nat.add_zero,Array.getElem?_eq_getElem (by omega),Option.map_some]
    rw [if_pos ⟨by omega,by simp;omega⟩,Nat.sub_zero]
    have:l'.toArray[i]! = gI l' i:=by
     rw [getElem!_pos _ i (by simp;omega)]
     simp [gI,hi']
    rw [this]
 ·rw [A8 e] at hx
  obtain ⟨ds,hd⟩:=hS c x hx
  have hcl:c<w.heap.size:=(Array.getElem?_eq_some_iff.1 hd.heap).1
  exact ⟨ds,hd.evo hev (by rw [hheap c hcl,if_neg (fun e'=>e e'.symm)])⟩
theorem C4h:OneCell (Value.int .i64):=fun x=>rfl
theorem B7I (b:Nat) (l:List Int) (hl:l.length≤4611686018427387904) (st:St) (hb:A4u st b l) :
  S P 247 [.own 1 b 0 l.length] st fun v st'=>v=.own 1 b 0 (U0 l).length∧st'=upd st b (A5a (A6R l)):=by
 refine ⟨C3s.f43.enters rfl,fun cargs w hr hS=>?_⟩
 obtain ⟨hlen,hr⟩:=hr
 have hb':=hb
 obtain ⟨f,hst,hf⟩:=hb'
 obtain ⟨cs,hok⟩:=hS b _ hst
 have h0:0<cargs.size:=by rw [←hlen];exact Nat.one_pos
 have ha:=hr 0 _ cargs[0] rfl (Array.getElem?_eq_getElem h0)
 have hc:∃ c,l.length≤c∧c≤A1o w b∧cargs=#[.slice (some ⟨b,0,none⟩) l.length c]:=by
  generalize hv:cargs[0]=v at ha
  cases ha with
  | own e b off n c hc hs =>
   refine ⟨c,hc,by simpa using hs,Array.ext (by rw [←hlen];rfl) fun i h1 h2=>?_⟩
   have:i=0:=by simp at h2;exact h2
   subst this;rw [hv];rfl
 obtain ⟨c,hlc,hcs,rfl⟩:=hc
 have hH:Holds (Value.int .i64) w b 0 l.toArray:=fun j hj=>by
  have hj':j<l.length:=by simpa using hj
  obtain ⟨x,hx,hrep⟩:=hok.cell j 0 (eI (gI l j)) hj' (by show (cellsOf (f j))[0]?=_;rw [hf j hj'];rfl)
  have hxx:x=.int .i64 (gI l j):=by cases hrep;rfl
  subst hxx
  have hg:l.toArray[j]! = gI l j:=by rw [getElem!_pos _ j (by simpa using hj')];simp [gI,hj']
  refine ⟨?_,?_⟩
  ·unfold World.cell?
   rw [hok.heap,hg]
   have:cs[j * 1+0]?=some (.int .i64 (gI l j)):=hx
   simpa using this
  ·unfold World.frozen?
   rw [hok.heap]
   simp
 have hcl:=A7E l
 have hK:=AnyE.slices_Compact C3s (Value.int .i64) C4h (EqlAt.intD P _ .i64) (NeqAt.intD P _ .i64) 0 Tryz.zeroValue3 b 0 c l.toArray w hH (by simp;omega) (by simpa using hlc)
 rw [show l.toArray.size=l.length from by simp] at hK
 refine hK.mono ?_
 rintro e w' ⟨rfl,n,rfl⟩
 obtain ⟨h1,h2⟩:=C2B (n:=n) (B1i l) hb hS
 refine ⟨.own 1 b 0 (U0 l).length,_,_,⟨rfl,rfl⟩,rfl,?_,h2,h1⟩
 have hr2:J0 w st (.own 1 b 0 (U0 l).length) (.slice (some ⟨b,0 * 1,none⟩) (U0 l).length c):=.own 1 b 0 _ c (Nat.le_trans hcl hlc) (by simpa using hcs)
 exact h1.rep hr2
theorem B5l (st:St):S P 247 [.emp] st fun v st'=>v=.emp∧st'=st:=by
 refine A5 [] B7 mixed Tryz.func247 (by rfl) rfl rfl rfl ?_;conv=>whnf
 exact ⟨rfl,rfl⟩
theorem C1U {l:List Int} {k:Nat} (h:k<(U0 l).length):gI (A6R l) k=gI (U0 l) k:=by
 unfold A6R;exact K0 h
end Go.Proofs.YthdimklenlikgaaGreat
namespace Go.Proofs.YthdimklenlikgaaGreat
open Go Go.Ab
attribute [local irreducible] upd del
def A0X (us:List B5) (l:List Int):Int:=A6 (l.map fun i=>(gU us i.toNat).net)
theorem B1t {us:List B5} (hu:E5 us) {l:List Int} (hl:∀ k,k<l.length→0≤gI l k∧(gI l k).toNat<us.length) (hn:l.length≤800000) {i:Nat} (hi:i<l.length) :
  IntKind.i64.wrap (A0X us (l.take i)+(gU us (gI l i).toNat).net)=A0X us (l.take (i+1)):=by
 have hc:=A0r hu (l.take i) (fun x hx=>by obtain ⟨k,hk,rfl⟩:=F4 (List.take_subset _ _ hx);exact hl k hk)
 have h3:0≤(gU us (gI l i).toNat).net:=hu.pos _ (B4 (hl i hi).2)
 have h4:(gU us (gI l i).toNat).net≤10000000000000:=hu.le (B4 (hl i hi).2)
 have e:A0X us (l.take (i+1))=A0X us (l.take i)+(gU us (gI l i).toNat).net:=by
  unfold A0X;rw [K2 hi,List.map_append,G1];simp [A6]
 have hcl:(l.take i).length≤800000:=by rw [List.length_take];omega
 have e2:G8 us (l.take i)=A0X us (l.take i):=rfl
 rw [e]
 exact A9 (by omega) (by omega)
theorem C5i (bx:Nat) (items:List Ab.Item) (p:PSt) (hu:E5 p.us) (l:List Int) (hn:l.length≤800000) (hl:∀ k,k<l.length→0≤gI l k∧(gI l k).toNat<p.us.length) (s t:St) (h:PxR bx items p s t) :
  S P 244 [.optr 4 bx 0 0,B3 l] t fun v t'=>v=eI (A0X p.us l)∧t'=t:=by
 obtain ⟨dv,gv,fx,hx,hx0,hdv,hgv⟩:=h.at
 refine A5 [] B7 mixed Tryz.func244 (by rfl) rfl rfl rfl ?_;conv=>whnf
 refine ⟨[0,5,8,9,10],fun m vs t'=>∃ i:Nat,i≤l.length∧m=l.length - i∧vs=[.optr 4 bx 0 0,eI (A0X p.us (l.take i)),B3 l,eI l.length,eI i]∧t'=t,?_,?_⟩
 ·conv=>whnf
  exact ⟨_,0,Nat.zero_le _,rfl,rfl,rfl⟩
 ·rintro m vs t' ⟨i,hi,rfl,rfl,rfl⟩
  conv=>whnf
  cases h2:decide ((i:Int)<(l.length:Int))
  ·have:=of_decide_eq_false h2
   obtain rfl:i=l.length:=by omega
   rw [List.take_length];conv=>whnf
   exact ⟨rfl,rfl⟩
  ·have hi':i<l.length:=by have:=of_decide_eq_true h2;omega
   have hr:=hl i hi'
   conv=>whnf
   refine ⟨rfl,⟨by omega,by omega⟩,?_⟩;conv=>whnf
   refine E9 hx rfl (by omega) hx0 ?_;conv=>whnf
   refine ⟨rfl,⟨by show 0≤gI l i;exact hr.1,by show gI l i<(p.us.length:Int);have:=hr.2;have:=hr.1;omega⟩,?_⟩;conv=>whnf
   refine ⟨rfl,?_⟩;conv=>whnf
   exact ⟨l.length - (i+1),by omega,i+1,by omega,rfl,by rw [C0 (by omega),←B1t hu hl hn hi'];rfl,rfl⟩
theorem C4d (bx:Nat) (items:List Ab.Item) (p:PSt) (hu:E5 p.us) (l:List Int) (hn:l.length≤800000) (hl:∀ k,k<l.length→0≤gI l k∧(gI l k).toNat<p.us.length) (s t:St) (h:PxR bx items p s t)
  (b:Nat) (m0:Nat) (f:Nat→AV) (hm0:l.length≤m0) (hb:t b=some ⟨3,1,m0,f⟩) (hf:∀ k,k<l.length→f k=eI (gI l k)) :
  S P 244 [.optr 4 bx 0 0,.own 1 b 0 l.length] t fun v t'=>v=eI (A0X p.us l)∧t'=t:=by
 obtain ⟨dv,gv,fx,hx,hx0,hdv,hgv⟩:=h.at
 refine A5 [] B7 mixed Tryz.func244 (by rfl) rfl rfl rfl ?_;conv=>whnf
 refine ⟨[0,5,8,9,10],fun m vs t'=>∃ i:Nat,i≤l.length∧m=l.length - i∧vs=[.optr 4 bx 0 0,eI (A0X p.us (l.take i)),.own 1 b 0 l.length,eI l.length,eI i]∧t'=t,?_,?_⟩
 ·conv=>whnf
  exact ⟨_,0,Nat.zero_le _,rfl,rfl,rfl⟩
 ·rintro m vs t' ⟨i,hi,rfl,rfl,rfl⟩
  conv=>whnf
  cases h2:decide ((i:Int)<(l.length:Int))
  ·have:=of_decide_eq_false h2
   obtain rfl:i=l.length:=by omega
   rw [List.take_length];conv=>whnf
   exact ⟨rfl,rfl⟩
  ·have hi':i<l.length:=by have:=of_decide_eq_true h2;omega
   have hr:=hl i hi'
   conv=>whnf
   refine ⟨rfl,⟨by omega,by omega⟩,?_⟩;conv=>whnf
   refine E9 hb rfl (by omega) (v:=eI (gI l i)) (by rw [show 0+(i:Int).toNat=i by omega];exact hf i hi') ?_;conv=>whnf
   refine E9 hx rfl (by omega) hx0 ?_;conv=>whnf
   refine ⟨rfl,⟨by show 0≤gI l i;exact hr.1,by show gI l i<(p.us.length:Int);have:=hr.2;have:=hr.1;omega⟩,?_⟩;conv=>whnf
   refine ⟨rfl,?_⟩;conv=>whnf
   exact ⟨l.length - (i+1),by omega,i+1,by omega,rfl,by rw [C0 (by omega),←B1t hu hl hn hi'],rfl⟩
def A0O (p:PSt) (pr:B1) (off:Int):PSt:=⟨p.us,p.deals++[⟨pr.id,off⟩],p.groups++(if J6 pr.group=true then [] else [pr.group])⟩
theorem A0c {α : Type} [Inhabited α] {a b:List α} {k:Nat} (h:k<a.length):(a++b).getD k default=a.getD k default:=by
 rw [List.getD_eq_getElem?_getD,List.getD_eq_getElem?_getD,List.getElem?_append_left h]
theorem A6X {α : Type} [Inhabited α] (a:List α) (x : α):(a++[x]).getD a.length default=x:=by
 simp [List.getD_eq_getElem?_getD]
theorem RD.at {bx:Nat} {dl:List A1a} {gr:List D7} {dv gv:AV} {s t:St} {f:Nat→AV} (h:RD dl gr dv gv (upd s bx ⟨153,4,1,f⟩) t):t bx=some ⟨153,4,1,f⟩:=(A2G _ _ _ _).sup h bx _ (A0 ..)
theorem RD.put {bx:Nat} {dl:List A1a} {gr:List D7} {dv gv:AV} {s t:St} {f f':Nat→AV} (h:RD dl gr dv gv (upd s bx ⟨153,4,1,f⟩) t):RD dl gr dv gv (upd s bx ⟨153,4,1,f'⟩) (upd t bx ⟨153,4,1,f'⟩):=by
 have:=(A2G dl gr dv gv).write (y':=⟨153,4,1,f'⟩) h (A0 ..)
 rw [B6] at this;exact this
theorem RD.of {dl:List A1a} {gr:List D7} {dv gv:AV} {s t:St} {d:A1a} (h:ROut (RG gr gv) 140 2 (A0K (dl++[d])) (dl.length+1) s dv t):RD (dl++[d]) gr dv gv s t:=by
 unfold RD;rw [List.length_append];exact h
theorem RD.grp {K:KK} {X:Prop} {dl:List A1a} {gr:List D7} {dv gv:AV} {s t:St} (h:RD dl gr dv gv s t) (g:D7)
  (happ:∀ {s1:St},ROut F2 9 1 (A5T (gr++[g])) gr.length s1 gv t→(∀ gv' t',ROut F2 9 1 (A5T (gr++[g])) (gr.length+1) s1 gv' t'→K gv' t')→X)
  (hk:∀ gv' t',RD dl (gr++[g]) dv gv' s t'→(gv'=.emp∨∃ b,gv'=.own 1 b 0 (gr++[g]).length)→K gv' t'):X:=by
 obtain ⟨s1,hc,hg⟩:=h
 refine happ (s1:=s1) (hg.congr fun k hk=>by simp only [A5T];rw [A0c hk]) (fun gv' t' hg'=>?_)
 have hg2:RG (gr++[g]) gv' s1 t':=by unfold RG;rw [List.length_append];exact hg'
 exact hk gv' t' ⟨s1,hc,hg2⟩ (ROut.head hg2)
theorem PxR.mk' {bx:Nat} {items:List Ab.Item} {p:PSt} {dv gv:AV} {s t:St} {f:Nat→AV} (hbx:s bx=none) (hf:f 0=.agg [A7 4 E3 items,C6 p.us,dv,gv]) (h:RD p.deals p.groups dv gv (upd s bx ⟨153,4,1,f⟩) t):PxR bx items p s t :=
 ⟨(dv,gv),hbx,_,⟨f,rfl,hf⟩,h⟩
theorem PxR.fin {bx:Nat} {items:List Ab.Item} {us:List B5} {dl:List A1a} {gr:List D7} {dv gv:AV} {s t:St} {f:Nat→AV} (hbx:s bx=none) (h:RD dl gr dv gv (upd s bx ⟨153,4,1,f⟩) t) (f':Nat→AV) (hf:f' 0=.agg [A7 4 E3 items,C6 us,dv,gv]) :
  PxR bx items ⟨us,dl,gr⟩ s (upd t bx ⟨153,4,1,f'⟩):=PxR.mk' hbx hf (RD.put h)
theorem B5J (bx:Nat) (items:List Ab.Item) (p:PSt) (pr:B1) (off:Int) (hd:p.deals.length≤1000) (hg:p.groups.length≤1000) (s t:St) (h:PxR bx items p s t) :
  S P 157 [.optr 4 bx 0 0,B8 pr,eI off] t fun v t'=>v=.tuple []∧PxR bx items (A0O p pr off) s t':=by
 obtain ⟨⟨dv,gv⟩,hbx,y,⟨f,rfl,hf⟩,hRD⟩:=h
 simp only at hf hRD
 refine A5 [4] B7 mixed Tryz.func157 (by rfl) rfl rfl rfl ?_;conv=>whnf
 refine ⟨[10,13],[],[0,1,2,3,4,5,6,7,8,9,10,11,12,13],by kernel_rfl,?_⟩
 have hdv:dv=.emp∨∃ b,dv=.own 2 b 0 p.deals.length:=ROut.head hRD
 have hgv:gv=.emp∨∃ b,gv=.own 1 b 0 p.groups.length:=by obtain ⟨s0,hc,hgg⟩:=hRD;exact ROut.head hgg
 rcases hdv with rfl | ⟨bd,rfl⟩<;>rcases hgv with rfl | ⟨bg,rfl⟩
 all_goals
  conv=>whnf
  refine E9 hRD.at rfl (by omega) hf ?_;conv=>whnf
  refine ⟨_,⟨rfl,rfl⟩,?_⟩;conv=>whnf
  refine ROut.app (q:=C2s) (A6M _ _) rfl rfl rfl rfl rfl (f:=A0K (p.deals++[⟨pr.id,off⟩])) (by simp only [A0K,A6X];rfl) (by show (p.deals.length+1) * 24≤140737488355328;omega) (hRD.congr fun k hk=>by simp only [A0K];rw [A0c hk]) (fun dv' t2 hRD2=>?_)
  have hRD2':=RD.of hRD2
  rcases ROut.head hRD2' with rfl | ⟨bd',rfl⟩
  all_goals
   conv=>whnf
   refine K4 hRD2'.at rfl (by omega) hf (by rfl) ?_;conv=>whnf
   have hnil:(ByteArray.toList pr.group==ByteArray.toList ⟨#[]⟩)=J6 pr.group:=rfl
   rw [hnil]
   cases hgr:J6 pr.group
   ·conv=>whnf
    refine ⟨[8,11],[],[0,1,2,3,4,5,6,7,8,9,10,11],by kernel_rfl,?_⟩;conv=>whnf
    refine E9 (RD.put hRD2').at rfl (by omega) (by rw [A2]) ?_;conv=>whnf
    refine ⟨_,⟨rfl,rfl⟩,?_⟩;conv=>whnf
    refine RD.grp (RD.put hRD2') pr.group (fun happ=>ROut.app (q:=r9) C5 rfl rfl rfl rfl rfl (by simp only [A5T,A6X];rfl) (by show (p.groups.length+1) * 16≤140737488355328;omega) happ) (fun gv' t4 hRD4 hh=>?_)
    rcases hh with rfl | ⟨bg',rfl⟩
    all_goals
     conv=>whnf
     refine K4 hRD4.at rfl (by omega) (by rw [A2]) (by rfl) ?_;conv=>whnf
     refine ⟨rfl,?_⟩
     unfold A0O
     rw [hgr]
     exact PxR.fin hbx hRD4 _ (by rw [A2];rfl)
   ·conv=>whnf
    refine ⟨rfl,?_⟩
    unfold A0O
    rw [hgr]
    simp only [if_true,List.append_nil]
    exact PxR.fin hbx hRD2' _ (by rw [A2];rfl)
end Go.Proofs.YthdimklenlikgaaGreat
namespace Go.Proofs.YthdimklenlikgaaGreat
open Go Go.Ab
theorem L1 {lo hi x:Int}:R7 lo hi x=true↔lo≤x∧x≤hi:=by
 unfold R7;simp only [Bool.and_eq_true,decide_eq_true_eq,ge_iff_le]
theorem B1c {α : Type} [Inhabited α] {l:List α} {p:Nat→α→Bool}:I6 l p=true↔∀ k,k<l.length→p k (l.getD k default)=true:=by
 unfold I6
 rw [List.all_eq_true]
 exact ⟨fun h k hk=>h k (List.mem_range.2 hk),fun h k hk=>h k (List.mem_range.1 hk)⟩
structure C1y (p:B1):Prop where
 kind:1≤p.kind∧p.kind<8
 skus:p.scope.skus.length≤20
 cats:p.scope.cats.length≤20
 least:0≤p.least∧p.least≤10000000000000
 buy:p.kind=3→A8X p
 bun:p.kind=4→A3e p∧∀ x∈p.parts,x.scope.skus.length≤20∧x.scope.cats.length≤20
 ask:O3 p→p.kind=1∨p.kind=2∨p.kind=5∨p.kind=6→A4s p
 ship:p.kind=7→1≤p.rate∧p.rate≤10000
theorem B8N {l:List Y6} (h:U9 l=true):A6G l:=by
 unfold U9 at h
 simp only [Bool.and_eq_true,Bool.not_eq_true',Bool.or_eq_false_iff,decide_eq_false_iff_not] at h
 refine ⟨by omega,fun t ht=>?_⟩
 obtain ⟨k,hk,rfl⟩:=F4 ht
 have h2:=B1c.1 h.2 k hk
 unfold A3c at h2
 simp only [Bool.not_eq_true',Bool.or_eq_false_iff,decide_eq_false_iff_not] at h2
 omega
theorem A0T {p:B1} (h:H4 p=true):C1y p:=by
 have h0:=h
 unfold H4 at h
 simp only [Bool.and_eq_true,decide_eq_true_eq] at h
 obtain ⟨⟨⟨⟨hk1,hk2⟩,hh⟩,hp⟩,hkd⟩:=h
 have hl:=B1u hh
 simp only [A5V,Bool.and_eq_true,L1] at hh
 unfold A4Q at hkd
 refine ⟨⟨hk1,hk2⟩,hl.1,hl.2,hh.2,fun e=>?_,fun e=>?_,fun hf e=>?_,fun e=>?_⟩
 ·rw [e] at hkd
  simp [A7d,A7e,L1] at hkd
  exact ⟨hkd.2.1,hkd.2.2,⟨by omega,hkd.1.2⟩⟩
 ·rw [e] at hkd
  simp only [show ¬(4:Int)=1 by decide,show ¬(4:Int)=2 by decide,show ¬(4:Int)=3 by decide,if_false,if_true] at hkd
  unfold A3R at hkd
  simp only [Bool.and_eq_true,Bool.not_eq_true',Bool.or_eq_false_iff,decide_eq_false_iff_not,List.any_eq_false] at hkd
  obtain ⟨⟨⟨⟨a1,a2⟩,a3⟩,a4⟩,a5⟩:=hkd
  have hpt:∀ x∈p.parts,A0e x=true:=fun x hx=>by simpa using a5 x hx
  refine ⟨⟨by omega,by omega,fun x hx=>?_,by omega,by omega⟩,fun x hx=>?_⟩
  ·have:=hpt x hx
   unfold A0e at this
   simp only [Bool.and_eq_true,Bool.not_eq_true',Bool.or_eq_false_iff,decide_eq_false_iff_not] at this
   omega
  ·have:=hpt x hx
   unfold A0e at this
   simp only [Bool.and_eq_true] at this
   exact B0g this.1
 ·refine ⟨hf,h0,e,fun e2=>?_,fun e2=>?_⟩
  ·rcases e2 with e2 | e2<;>rw [e2] at hkd<;>simp at hkd<;>exact B8N hkd
  ·rw [e2] at hkd
   simp [A7c,L1] at hkd
   omega
 ·rw [e] at hkd
  simp [A7e,L1] at hkd
  exact hkd
theorem B7a {p:B1} (hp:A4s p) {nets:List Int} (h0:∀ x∈nets,0≤x) (hs:A6 nets≤10000000000000) (hl:nets.length≤100000):∀ k,k<(L2 p nets).length→gI (L2 p nets) k≤gI nets k:=fun k hk=>by
 have hn:=C7 h0
 have hlen:=(A3Q hp h0 hs hl).2.1
 have hx:0≤gI nets k:=h0 _ (B4 (by omega))
 have hkn:k<nets.length:=by omega
 unfold L2 at hk ⊢
 have hmap:∀ (r a:Int),0≤a→gI (nets.map fun x=>N8 x r a) k≤gI nets k:=fun r a ha=>by
  rw [show gI (nets.map fun x=>N8 x r a) k=N8 (gI nets k) r a from D8 (fun x=>N8 x r a) nets hkn]
  exact (X9 hx ha).2
 rcases hp.kind with e | e | e | e
 ·rw [if_pos e] at hk ⊢;exact hmap _ _ (Int.le_refl _)
 ·rw [if_neg (by omega),if_pos e] at hk ⊢;exact hmap _ _ (hp.amount e).1
 ·rw [if_neg (by omega),if_neg (by omega),if_pos e] at hk ⊢
  have hok:=Y0 (hp.tiers (.inl e)) (A6 nets)
  unfold A4i at hk ⊢
  split at hk
  ·simp at hk
  ·rename_i t hr
   rw [hr] at hok
   have hob:0≤N8 (A6 nets) t.rate t.amount∧N8 (A6 nets) t.rate t.amount≤A6 nets:=X9 hn hok.1
   have hW:P4 (N8 (A6 nets) t.rate t.amount) nets:=⟨hob.1,by omega,hl,h0,by omega,fun e=>by omega⟩
   have hll:=(X7 hW).2.1
   exact A6k hW hob.2 (by omega)
 ·rw [if_neg (by omega),if_neg (by omega),if_neg (by omega)] at hk ⊢
  have hok:=Y0 (hp.tiers (.inr e)) nets.length
  unfold A4h at hk ⊢
  split at hk
  ·simp at hk
  ·rename_i t hr
   rw [hr] at hok
   exact hmap _ _ hok.1
theorem A7b (us:List B5) (mine:List Int):E6 us mine=H6 us mine:=rfl
theorem B5e {p:B1} (hp:A4s p) {us:List B5} (hu:E5 us) {mine:List Int} (hm:K5 us mine):Off us (W8 p us mine).1 (W8 p us mine).2:=by
 have hnl:(E6 us mine).length=mine.length:=List.length_map ..
 have hml:=hm.len
 have hul:=hu.len
 have hn0:∀ x∈E6 us mine,0≤x:=fun x hx=>by
  obtain ⟨i,hi,rfl⟩:=List.mem_map.1 hx
  exact hu.at0 _
 have hwl:=B0v hu hm.places
 have hus:=hu.sum
 have hns:A6 (E6 us mine)≤10000000000000:=by rw [A7b];omega
 obtain ⟨ob1,ob2,ob3⟩:=A3Q hp hn0 hns (by omega)
 have hle:=B7a hp hn0 hns (by omega)
 have h1:=A1A hu hm.places (offs:=L2 p (E6 us mine)) (by omega) (fun k hk=>⟨ob3 _ (B4 hk),by
  have:=hle k hk
  rw [show gI (E6 us mine) k=(gU us (gI mine k).toNat).net from D8 (fun i:Int=>(gU us i.toNat).net) mine (by omega)] at this
  exact this⟩) (L2 p (E6 us mine)).length (Nat.le_refl _)
 rw [List.take_length] at h1
 unfold W8
 simp only
 split
 ·have h2:=Off.closeB (h1.ok hu) mine (fun x hx=>by
   obtain ⟨k,hk,rfl⟩:=F4 hx
   rw [h1.len];exact (hm.rng k hk).2)
  have h3:=h1.trans h2
  rw [Int.add_zero] at h3;exact h3
 ·exact h1
end Go.Proofs.YthdimklenlikgaaGreat
namespace Go.Proofs.YthdimklenlikgaaGreat
open Go Go.Ab
attribute [local irreducible] upd del
theorem PxR.more {bx:Nat} {items:List Ab.Item} {p:PSt} {s t t':St} (h:PxR bx items p s t) (hs:F2 t t'):PxR bx items p s t':=by
 obtain ⟨v,h1,y,h2,s1,h3,s2,h4,h5⟩:=h
 exact ⟨v,h1,y,h2,s1,h3,s2,h4,h5.trans hs⟩
structure A5L (items:List Ab.Item) (us:List B5):Prop where
 ok:E5 us
 few:items.length≤100000
 line:∀ u∈us,0≤u.line∧u.line.toNat<items.length
theorem A5L.off {items:List Ab.Item} {us us':List B5} {x:Int} (h:A5L items us) (ho:Off us us' x):A5L items us' :=
 ⟨ho.ok h.ok,h.few,fun u hu=>by
  obtain ⟨k,hk,rfl⟩:=F4 hu
  have h1:=ho.line k
  have h2:=h.line (gU us k) (B4 (by rw [←ho.len];exact hk))
  show 0≤(gU us' k).line∧(gU us' k).line.toNat<items.length
  rw [h1];exact h2⟩
def A1t (items:List Ab.Item) (us:List B5) (pr:B1):List B5×Int :=
 if A0X us (I1 pr.scope items us us.length)<pr.least then ([],0)
 else if pr.kind=3 then R9 pr us (I1 pr.scope items us us.length) else W8 pr us (I1 pr.scope items us us.length)
theorem C3M {P:Program} {f:FuncId} {args:List AV} {st st1:St} {v:AV} {K:KK} (h:S P f args st fun v' st'=>v'=v∧st'=st1) (hK:K v st1):A1C P f args st K:=call h fun v' st' ⟨e1,e2⟩=>by rw [e1,e2];exact hK
theorem C0J (bx:Nat) (items:List Ab.Item) (p:PSt) (pr:B1) (hfit:O3 pr) (hright:H4 pr=true) (hk:pr.kind≠4∧pr.kind≠7) (hu:A5L items p.us) (s t:St) (h:PxR bx items p s t) :
  S P 155 [.optr 4 bx 0 0,B8 pr] t fun v t'=>v=.tuple [C6 (A1t items p.us pr).1,eI (A1t items p.us pr).2]∧t'=t:=by
 have hok:=A0T hright
 have hm:=A0N pr.scope items p.us
 have hml:=hm.len
 have hul:=hu.ok.len
 refine S.post (post:=fun v t'=>(v=.tuple [C6 (A1t items p.us pr).1,eI (A1t items p.us pr).2]∨(A1t items p.us pr=([],0)∧v=.tuple [.emp,eI 0]))∧t'=t) ?_ (fun v t' ⟨hv,ht⟩=>by
  subst ht
  rcases hv with rfl | ⟨h1,rfl⟩
  ·exact ⟨_,_,⟨rfl,rfl⟩,B2.refl _ _⟩
  ·exact ⟨_,_,⟨rfl,rfl⟩,by rw [h1];exact B2.tuple (B2.cons (K1 3 _) (B2.keep _ _)) rfl⟩)
 obtain ⟨dv,gv,fx,hx,hx0,hdv,hgv⟩:=h.at
 refine A5 [3] B7 mixed Tryz.func155 (by rfl) rfl rfl rfl ?_;conv=>whnf
 refine A4 (B9Z bx items p pr.scope hok.skus hok.cats hul hu.few hu.line s t h) ?_;conv=>whnf
 refine ⟨[],[],[0,1,2,3,4,5],by kernel_rfl,?_⟩;conv=>whnf
 refine ⟨_,C9 (C5i bx items p hu.ok _ (by omega) hm.rng s t h),?_⟩
 have hS:A1t items p.us pr=if A0X p.us (I1 pr.scope items p.us p.us.length)<pr.least then ([],0) else if pr.kind=3 then R9 pr p.us (I1 pr.scope items p.us p.us.length) else W8 pr p.us (I1 pr.scope items p.us p.us.length):=rfl
 conv=>whnf
 refine C3 (fun h1=>?_) (fun h1=>?_)<;>rw [h1]<;>simp only [decide_eq_true_eq,decide_eq_false_iff_not] at h1
 ·rw [if_pos h1] at hS;conv=>whnf
  exact ⟨.inr ⟨hS,rfl⟩,rfl⟩
 rw [if_neg h1] at hS;conv=>whnf
 refine C3 (fun h2=>?_) (fun h2=>?_)<;>rw [h2]<;>simp only [beq_iff_eq,beq_eq_false_iff_ne] at h2
 ·rw [if_pos h2] at hS;conv=>whnf
  refine ⟨[],[],[0,1,2,3,4,5,6,7,8,9,10],by kernel_rfl,?_⟩;conv=>whnf
  refine E9 hx rfl (by omega) hx0 ?_;conv=>whnf
  refine ⟨_,C9 (B9u pr p.us _ hfit hright h2 (hok.buy h2) hu.ok hm t),?_⟩;conv=>whnf
  exact ⟨.inl (by rw [hS];rfl),rfl⟩
 ·rw [if_neg h2] at hS
  have hask:A4s pr:=hok.ask hfit (by have:=hok.kind;have:=hk.1;have:=hk.2;omega)
  conv=>whnf
  refine ⟨[],[],[0,1,2,3,4,5,6,7,8,9,10],by kernel_rfl,?_⟩;conv=>whnf
  refine E9 hx rfl (by omega) hx0 ?_;conv=>whnf
  refine ⟨_,C9 (C1E pr p.us _ hask hu.ok hm t),?_⟩;conv=>whnf
  exact ⟨.inl (by rw [hS];rfl),rfl⟩
theorem B9K (a b:List Int) (j:Nat):gI (a++b) (a.length+j)=gI b j:=by
 unfold gI
 rw [List.getD_eq_getElem?_getD,List.getD_eq_getElem?_getD,List.getElem?_append_right (by omega),Nat.add_sub_cancel_left]
theorem C4c (bx:Nat) (t:St):S P 244 [.optr 4 bx 0 0,.emp] t fun v t'=>v=eI 0∧t'=t:=by
 refine A5 [] B7 mixed Tryz.func244 (by rfl) rfl rfl rfl ?_;conv=>whnf
 refine A5N [0,5,8,9,10] ?_;conv=>whnf
 intro I;conv=>whnf
 exact ⟨rfl,rfl⟩
def O6 (items:List Ab.Item) (us:List B5) (pr:B1):List (List Int):=pr.parts.map fun x=>I1 x.scope items us us.length
def Y7 (items:List Ab.Item) (us:List B5) (pr:B1) (i:Nat):List Int:=((O6 items us pr).take i).flatten
def A0h (items:List Ab.Item) (us:List B5) (pr:B1):List B5×Int :=
 if A0X us (U0 (C2 (Y7 items us pr pr.parts.length)))<pr.least then ([],0) else O7 pr us (O6 items us pr)
theorem A7C (items:List Ab.Item) (us:List B5) (pr:B1) {i:Nat} (hi:i<pr.parts.length):Y7 items us pr (i+1)=Y7 items us pr i++I1 (pr.parts.getD i default).scope items us us.length:=by
 unfold Y7
 have hl:(O6 items us pr).length=pr.parts.length:=List.length_map ..
 rw [K2 (by omega),List.flatten_append]
 congr 1
 have:(O6 items us pr).getD i default=I1 (pr.parts.getD i default).scope items us us.length:=D8 (fun x:A1b=>I1 x.scope items us us.length) pr.parts hi
 rw [this];simp
theorem A9e (items:List Ab.Item) (us:List B5) (pr:B1):∀ i,i≤pr.parts.length→(Y7 items us pr i).length≤i * us.length
 | 0,_=>by simp [Y7]
 | i+1,h=>by
  have ih:=A9e items us pr i (by omega)
  rw [A7C items us pr (by omega),List.length_append]
  have:=A2f (pr.parts.getD i default).scope items us us.length
  have e:(i+1) * us.length=i * us.length+us.length:=Nat.succ_mul i us.length
  omega
theorem B1h {l:List Int} {x:Int} (h:x∈U0 l):x∈l:=by
 unfold U0 Go.Lib.compactUpTo at h
 obtain ⟨k,hk,rfl⟩:=List.mem_map.1 h
 have hk2:k<l.length:=List.mem_range.1 (List.mem_filter.1 hk).1
 have:l.toArray[k]! = l[k]:=by rw [getElem!_pos _ k (by simpa using hk2)];simp
 rw [this];exact List.getElem_mem hk2
theorem A9f {items:List Ab.Item} {us:List B5} {pr:B1} {i:Nat} {x:Int} (h:x∈Y7 items us pr i):0≤x∧x.toNat<us.length:=by
 unfold Y7 at h
 obtain ⟨l,hl,hx⟩:=List.mem_flatten.1 h
 obtain ⟨q,hq,rfl⟩:=List.mem_map.1 (List.take_subset _ _ hl)
 obtain ⟨k,hk,rfl⟩:=F4 hx
 exact (A0N q.scope items us).rng k hk
theorem B8l (bx:Nat) (items:List Ab.Item) (p:PSt) (pr:B1) (hfit:O3 pr) (hright:H4 pr=true) (hk:pr.kind=4) (hu:A5L items p.us) (s t:St) (h:PxR bx items p s t) :
  S P 156 [.optr 4 bx 0 0,B8 pr] t fun v t'=>v=.tuple [C6 (A0h items p.us pr).1,eI (A0h items p.us pr).2]∧t'=t:=by
 have hok:=A0T hright
 obtain ⟨hbun,hsc⟩:=hok.bun hk
 have hn8:=hbun.n8
 have hul:=hu.ok.len
 have hpl:(O6 items p.us pr).length=pr.parts.length:=List.length_map ..
 have hpm:∀ x∈O6 items p.us pr,K5 p.us x:=fun x hx=>by
  obtain ⟨q,hq,rfl⟩:=List.mem_map.1 hx
  exact A0N _ _ _
 refine S.post (post:=fun v t'=>(v=.tuple [C6 (A0h items p.us pr).1,eI (A0h items p.us pr).2]∨(A0h items p.us pr=([],0)∧v=.tuple [.emp,eI 0]))∧F2 t t') ?_ (fun v t' ⟨hv,ht⟩=>by
  rcases hv with rfl | ⟨h1,rfl⟩
  ·exact ⟨_,_,⟨rfl,rfl⟩,ht.shift _⟩
  ·exact ⟨_,_,⟨rfl,rfl⟩,by rw [h1];exact (ht.shift _).trans (B2.tuple (B2.cons (K1 3 _) (B2.keep _ _)) rfl)⟩)
 have hBi:=fun (n:Nat) (sv:AV) (fo:Nat→AV)=>M9 C5 3 1 fo n sv
 refine A5 [3,9] B7 mixed Tryz.func156 (by rfl) rfl rfl rfl ?_;conv=>whnf
 refine ⟨[0,3,6,7,12,13,14],fun m vs t'=>∃ (i:Nat) (sv1 sv2:AV),i≤pr.parts.length∧m=pr.parts.length - i∧vs=[.optr 4 bx 0 0,.fptr (B8 pr) 0,sv1,sv2,A7 3 O9 pr.parts,eI pr.parts.length,eI i] ∧
  ROut (fun s t'=>ROut F2 3 1 (fun k=>eI (gI (Y7 items p.us pr i) k)) (Y7 items p.us pr i).length s sv2 t') 29 1 (fun k=>B3 ((O6 items p.us pr).getD k default)) i t sv1 t',?_,?_⟩
 ·conv=>whnf
  exact ⟨_,0,.emp,.emp,Nat.zero_le _,rfl,rfl,ROut.start (ROut.start (F2.refl _) _ _ _) _ _ _⟩
 ·rintro m vs t' ⟨i,sv1,sv2,hi,rfl,rfl,hout⟩
  have hal:=A9e items p.us pr i hi
  have hal2:i * p.us.length≤8 * 100000:=Nat.mul_le_mul (by omega) hul
  have hsup:F2 t t':=hout.sup (hBi _ _ _)
  conv=>whnf
  cases hd:decide ((i:Int)<(pr.parts.length:Int))
  ·have:=of_decide_eq_false hd
   obtain rfl:i=pr.parts.length:=by omega
   obtain ⟨s1,hc1,hout2⟩:=hout
   generalize hA:Y7 items p.us pr pr.parts.length=A at *
   have hAm:∀ x∈A,0≤x∧x.toNat<p.us.length:=fun x hx=>A9f (by rw [hA];exact hx)
   have hSl:(C2 A).length=A.length:=Q1 A
   have hCl:=A7E (C2 A)
   have hCm:∀ k,k<(U0 (C2 A)).length→0≤gI (U0 (C2 A)) k∧(gI (U0 (C2 A)) k).toNat<p.us.length:=fun k hk=>hAm _ (R1.1 (B1h (B4 hk)))
   conv=>whnf
   refine call (A5F C5 (by omega) hout2) (fun v t2 hv=>?_)
   obtain ⟨rfl,hout3⟩:=hv
   have hsup2:F2 s1 t2:=hout3.sup C5
   have hB:A0h items p.us pr=if A0X p.us (U0 (C2 A))<pr.least then ([],0) else O7 pr p.us (O6 items p.us pr):=by unfold A0h;rw [hA]
   -- what is behind the two,with the store as it is then
   have fin:∀ t3,F2 s1 t3→∀ K:KK,(∀ v,v=.tuple [C6 (O7 pr p.us (O6 items p.us pr)).1,eI (O7 pr p.us (O6 items p.us pr)).2]→K v t)→A1C P 248 [B8 pr,C6 p.us,sv1] t3 K:=fun t3 h3 K hK=>by
    have hsh:B2 [B8 pr,C6 p.us,sv1] t3 [B8 pr,C6 p.us,A7 1 B3 (O6 items p.us pr)] t:=by
     refine B2.cons (B2.keep _ _) (B2.cons (B2.keep _ _) ?_)
     have e:A7 1 B3 (O6 items p.us pr)=.arr 1 pr.parts.length (fun k=>B3 ((O6 items p.us pr).getD k default)):=by unfold A7;rw [hpl]
     rw [e]
     exact (h3.shift _).trans hc1.shift
    refine I5 hsh (call (B9t pr p.us (O6 items p.us pr) hfit hright hk hbun hu.ok hpl hpm t) (fun v t4 hv=>?_))
    rw [hv.2];exact hK v hv.1
   have hpx:∀ t3,F2 s1 t3→PxR bx items p s t3:=fun t3 h3=>h.more (hc1.sup.trans h3)
   conv=>whnf
   refine ⟨[2,5],[],[],.qui 0 (.qui 1 (.qui 4 (.two 2 5 (.qui 5 (.qui 3 (.qui 6 .done))) (.gen 2 (.qui 3 (.qui 6 .done)))))),by kernel_rfl,?_⟩
   obtain ⟨s2,hc2,hs2⟩:=hout3
   rcases hc2 with ⟨h0,rfl,rfl⟩ | ⟨h0,b2,g2,hb2,rfl,rfl,hg2⟩
   ·have hA0:A=[]:=List.eq_nil_of_length_eq_zero h0
    have hnet:A0X p.us (U0 (C2 A))=0:=by
     have:U0 (C2 A)=[]:=List.eq_nil_of_length_eq_zero (by omega)
     rw [this];rfl
    rw [hnet] at hB;conv=>whnf
    constructor
    all_goals conv=>whnf
    all_goals refine A4 (B5l _) ?_
    all_goals conv=>whnf
    all_goals refine ⟨_,C9 (C4c bx _),?_⟩
    all_goals conv=>whnf
    all_goals refine C3 (fun h1=>?_) (fun h1=>?_)<;>rw [h1]<;>simp only [decide_eq_true_eq,decide_eq_false_iff_not] at h1
    all_goals first
     | (rw [if_pos h1] at hB
        conv=>whnf
        exact ⟨.inr ⟨hB,rfl⟩,hc1.sup.trans hs2⟩)
     | (rw [if_neg h1] at hB
        obtain ⟨dv,gv,fx,hx,hx0,_,_⟩:=(hpx _ hs2).at
        conv=>whnf
        refine ⟨[6],[],[0,1,2,3,4,5,6,7,8,9,10],by kernel_rfl,?_⟩;conv=>whnf
        refine E9 hx rfl (by omega) hx0 ?_;conv=>whnf
        refine fin _ hs2 _ (fun v hv=>?_)
        subst hv;conv=>whnf
        exact ⟨.inl (by rw [hB];rfl),F2.refl _⟩)
   ·have hb2t:=hs2 b2 _ (A0 ..)
    have hC:=B7I b2 (C2 A) (by omega) t2 ⟨g2,by rw [hb2t,hSl],fun k hk=>hg2 k (by omega)⟩
    rw [hSl] at hC
    have hs3:∀ y,F2 s1 (upd t2 b2 y):=fun y=>hsup2.over hb2
    have hN:=fun t3 (h3:F2 s1 t3) (e3:t3=upd t2 b2 (A5a (A6R (C2 A))))=>C4d bx items p hu.ok (U0 (C2 A)) (by omega) hCm s t3 (hpx t3 h3) b2 (A6R (C2 A)).length (fun k=>eI (gI (A6R (C2 A)) k)) (by rw [B1i];omega) (by rw [e3,A0];rfl) (fun k hk=>by rw [C1U hk])
    conv=>whnf
    constructor
    all_goals conv=>whnf
    all_goals refine C3M hC ?_
    all_goals conv=>whnf
    all_goals refine ⟨_,C9 (hN _ (hs3 _) rfl),?_⟩
    all_goals conv=>whnf
    all_goals refine C3 (fun h1=>?_) (fun h1=>?_)<;>rw [h1]<;>simp only [decide_eq_true_eq,decide_eq_false_iff_not] at h1
    all_goals first
     | (rw [if_pos h1] at hB
        conv=>whnf
        exact ⟨.inr ⟨hB,rfl⟩,hc1.sup.trans (hs3 _)⟩)
     | (rw [if_neg h1] at hB
        obtain ⟨dv,gv,fx,hx,hx0,_,_⟩:=(hpx _ (hs3 (A5a (A6R (C2 A))))).at
        conv=>whnf
        refine ⟨[6],[],[0,1,2,3,4,5,6,7,8,9,10],by kernel_rfl,?_⟩;conv=>whnf
        refine E9 hx rfl (by omega) hx0 ?_;conv=>whnf
        refine fin _ (hs3 _) _ (fun v hv=>?_)
        subst hv;conv=>whnf
        exact ⟨.inl (by rw [hB];rfl),F2.refl _⟩)
  ·have hi':i<pr.parts.length:=by have:=of_decide_eq_true hd;omega
   have hq:=hsc (pr.parts.getD i default) (B4 hi')
   have hpk:(O6 items p.us pr).getD i default=I1 (pr.parts.getD i default).scope items p.us p.us.length:=D8 (fun x:A1b=>I1 x.scope items p.us p.us.length) pr.parts hi'
   have hls:=A7C items p.us pr hi'
   have hml:=A2f (pr.parts.getD i default).scope items p.us p.us.length
   conv=>whnf
   refine ⟨rfl,⟨by omega,by omega⟩,?_⟩;conv=>whnf
   refine A4 (B9Z bx items p (pr.parts.getD i default).scope hq.1 hq.2 hul hu.few hu.line s t' (h.more hsup)) ?_;conv=>whnf
   refine ROut.app (q:=r29) (hBi _ _ _) rfl rfl rfl rfl rfl (by simp only [hpk];rfl) (by show (i+1) * 24≤140737488355328;omega) hout (fun sv1' t2 hout2=>?_);conv=>whnf
   obtain ⟨s1,hc1,hin⟩:=hout2
   refine ROut.apps (q:=r3) (n:=(Y7 items p.us pr i).length) (m:=(I1 (pr.parts.getD i default).scope items p.us p.us.length).length) C5 rfl rfl rfl rfl (B2Z rfl _) (f:=fun k=>eI (gI (Y7 items p.us pr (i+1)) k)) (fun j hj=>?_) (by show ((Y7 items p.us pr i).length+(I1 (pr.parts.getD i default).scope items p.us p.us.length).length) * 8≤140737488355328;omega) (hin.congr fun k hk=>by rw [hls,K0 hk]) (fun sv2' t3 hout3=>?_)
   ·rw [hls]
    show eI (gI (I1 (pr.parts.getD i default).scope items p.us p.us.length) j)=eI (gI _ _)
    rw [B9K]
   conv=>whnf
   refine ⟨rfl,?_⟩;conv=>whnf
   refine ⟨pr.parts.length - (i+1),by omega,i+1,sv1',sv2',by omega,rfl,by rw [C0 (by omega)],s1,hc1,?_⟩
   rw [hls,List.length_append,←hls];exact hout3
def X1 (items:List Ab.Item) (us:List B5) (pr:B1):List B5×Int:=if pr.kind=4 then A0h items us pr else A1t items us pr
def A3G (items:List Ab.Item) (p:PSt) (pr:B1):PSt :=
 if (X1 items p.us pr).2>0 then A0O ⟨(X1 items p.us pr).1,p.deals,p.groups⟩ pr (X1 items p.us pr).2 else p
theorem B7t {items:List Ab.Item} {us:List B5} (hu:A5L items us) {pr:B1} (hfit:O3 pr) (hright:H4 pr=true) (hk:pr.kind≠7):X1 items us pr=([],0)∨Off us (X1 items us pr).1 (X1 items us pr).2:=by
 have hok:=A0T hright
 unfold X1
 split
 ·rename_i h4
  unfold A0h
  split
  ·exact .inl rfl
  ·right
   have hpl:(O6 items us pr).length=pr.parts.length:=List.length_map ..
   exact B3v (hok.bun h4).1 hu.ok hpl fun k hk=>by
    have hm:=B4 (l:=O6 items us pr) hk
    obtain ⟨q,hq,he⟩:=List.mem_map.1 hm
    rw [show (O6 items us pr).getD k []=(O6 items us pr).getD k default from rfl,←he]
    exact A0N _ _ _
 ·rename_i h4
  unfold A1t
  split
  ·exact .inl rfl
  ·right
   split
   ·rename_i h3
    exact B3w (hok.buy h3) hu.ok (A0N _ _ _)
   ·rename_i h3
    exact B5e (hok.ask hfit (by have:=hok.kind;omega)) hu.ok (A0N _ _ _)
theorem B3s {items:List Ab.Item} {p:PSt} (hu:A5L items p.us) {pr:B1} (hfit:O3 pr) (hright:H4 pr=true) (hk:pr.kind≠7):∃ x,Off p.us (A3G items p pr).us x:=by
 unfold A3G
 split
 ·rename_i h0
  rcases B7t hu hfit hright hk with e | e
  ·rw [e] at h0;exact absurd h0 (by decide)
  ·exact ⟨_,e⟩
 ·exact ⟨0,Off.refl hu.ok⟩
theorem C4S (bx:Nat) (items:List Ab.Item) (p:PSt) (pr:B1) (hfit:O3 pr) (hright:H4 pr=true) (hk:pr.kind≠7) (hu:A5L items p.us) (hd:p.deals.length≤1000) (hg:p.groups.length≤1000) (s t:St) (h:PxR bx items p s t) :
  S P 87 [.optr 4 bx 0 0,B8 pr] t fun v t'=>v=.tuple []∧PxR bx items (A3G items p pr) s t':=by
 have key:∀ K:KK,(∀ v,v=.tuple [C6 (X1 items p.us pr).1,eI (X1 items p.us pr).2]→K v t)→A1C P (if pr.kind=4 then 156 else 155) [.optr 4 bx 0 0,B8 pr] t K:=fun K hK=>by
  unfold X1 at hK
  split
  ·rename_i h4
   rw [if_pos h4] at hK
   exact call (B8l bx items p pr hfit hright h4 hu s t h) (fun v t' hv=>by rw [hv.2];exact hK v hv.1)
  ·rename_i h4
   rw [if_neg h4] at hK
   exact call (C0J bx items p pr hfit hright ⟨h4,hk⟩ hu s t h) (fun v t' hv=>by rw [hv.2];exact hK v hv.1)
 obtain ⟨⟨dv,gv⟩,hbx,y,⟨f,rfl,hf⟩,hRD⟩:=h
 simp only at hf hRD
 have hA:A3G items p pr=if (X1 items p.us pr).2>0 then A0O ⟨(X1 items p.us pr).1,p.deals,p.groups⟩ pr (X1 items p.us pr).2 else p:=rfl
 have h0:PxR bx items p s t:=⟨(dv,gv),hbx,_,⟨f,rfl,hf⟩,hRD⟩
 refine A5 [3] B7 mixed Tryz.func87 (by rfl) rfl rfl rfl ?_;conv=>whnf
 refine C3 (fun h4=>?_) (fun h4=>?_)<;>rw [h4]<;>simp only [beq_iff_eq,beq_eq_false_iff_ne] at h4
 ·rw [if_pos h4] at key;conv=>whnf
  refine key _ (fun v hv=>?_)
  subst hv;conv=>whnf
  refine C3 (fun h5=>?_) (fun h5=>?_)<;>rw [h5]<;>simp only [decide_eq_true_eq,decide_eq_false_iff_not] at h5
  ·rw [if_pos h5] at hA
   rw [hA];conv=>whnf
   refine K4 hRD.at rfl (by omega) hf (by rfl) ?_;conv=>whnf
   refine call (B5J bx items ⟨(X1 items p.us pr).1,p.deals,p.groups⟩ pr _ hd hg s _ (PxR.fin hbx hRD _ (by rw [A2];rfl))) (fun v t' hv=>?_)
   obtain ⟨rfl,h6⟩:=hv
   conv=>whnf
   exact ⟨rfl,h6⟩
  ·rw [if_neg h5] at hA
   rw [hA];conv=>whnf
   exact ⟨rfl,h0⟩
 ·rw [if_neg h4] at key;conv=>whnf
  refine key _ (fun v hv=>?_)
  subst hv;conv=>whnf
  refine C3 (fun h5=>?_) (fun h5=>?_)<;>rw [h5]<;>simp only [decide_eq_true_eq,decide_eq_false_iff_not] at h5
  ·rw [if_pos h5] at hA
   rw [hA];conv=>whnf
   refine K4 hRD.at rfl (by omega) hf (by rfl) ?_;conv=>whnf
   refine call (B5J bx items ⟨(X1 items p.us pr).1,p.deals,p.groups⟩ pr _ hd hg s _ (PxR.fin hbx hRD _ (by rw [A2];rfl))) (fun v t' hv=>?_)
   obtain ⟨rfl,h6⟩:=hv
   conv=>whnf
   exact ⟨rfl,h6⟩
  ·rw [if_neg h5] at hA
   rw [hA];conv=>whnf
   exact ⟨rfl,h0⟩
def A5Y (p:PSt) (pr:B1) (net ship:Int):Int×PSt :=
 if net<pr.least then (ship,p) else (ship - H9 ship pr.rate,if H9 ship pr.rate>0 then A0O p pr (H9 ship pr.rate) else p)
theorem B6c (bx:Nat) (items:List Ab.Item) (p:PSt) (pr:B1) (net ship:Int) (h0:0≤ship) (h1:ship≤10000000000000) (hd:p.deals.length≤1000) (hg:p.groups.length≤1000) (s t:St) (h:PxR bx items p s t) :
  S P 90 [.optr 4 bx 0 0,B8 pr,eI net,eI ship] t fun v t'=>v=eI (A5Y p pr net ship).1∧PxR bx items (A5Y p pr net ship).2 s t':=by
 have hS:A5Y p pr net ship=if net<pr.least then (ship,p) else (ship - H9 ship pr.rate,if H9 ship pr.rate>0 then A0O p pr (H9 ship pr.rate) else p):=rfl
 have hb:=Q2 ship pr.rate
 have w:IntKind.i64.wrap (ship - H9 ship pr.rate)=ship - H9 ship pr.rate:=A9 (by omega) (by omega)
 refine A5 [5] B7 mixed Tryz.func90 (by rfl) rfl rfl rfl ?_;conv=>whnf
 refine C3 (fun h2=>?_) (fun h2=>?_)<;>rw [h2]<;>simp only [decide_eq_true_eq,decide_eq_false_iff_not] at h2
 ·rw [if_pos h2] at hS
  rw [hS];conv=>whnf
  exact ⟨rfl,h⟩
 rw [if_neg h2] at hS
 rw [hS];conv=>whnf
 refine A4 (B5U ship pr.rate 1 t) ?_;conv=>whnf
 refine C3 (fun h3=>?_) (fun h3=>?_)<;>rw [h3]<;>simp only [decide_eq_true_eq,decide_eq_false_iff_not] at h3
 ·conv=>whnf
  refine call (B5J bx items p pr _ hd hg s t h) (fun v t' hv=>?_)
  obtain ⟨rfl,h4⟩:=hv
  conv=>whnf
  have h3':H9 ship pr.rate>0:=h3
  rw [if_pos h3']
  refine ⟨?_,h4⟩
  show AV.int .i64 (IntKind.i64.wrap (ship - H9 ship pr.rate))=_
  rw [w]
 ·conv=>whnf
  have h3':¬ H9 ship pr.rate>0:=h3
  rw [if_neg h3']
  refine ⟨?_,h⟩
  show AV.int .i64 (IntKind.i64.wrap (ship - H9 ship pr.rate))=_
  rw [w]
def Z7 (s:Ab.Ship) (units net:Int):Int:=if units=0∨(s.free>0∧net≥s.free) then 0 else s.fee
theorem C4X (s:Ab.Ship) (units net:Int) (t:St):S P 88 [C3f s,eI units,eI net] t fun v t'=>v=eI (Z7 s units net)∧t'=t:=by
 refine A5 [3] B7 mixed Tryz.func88 (by rfl) rfl rfl rfl ?_;conv=>whnf
 refine C3 (fun h1=>?_) (fun h1=>?_)<;>rw [h1]<;>simp only [beq_iff_eq,beq_eq_false_iff_ne] at h1
 ·conv=>whnf
  exact ⟨by unfold Z7;rw [if_pos (.inl h1)];rfl,rfl⟩
 conv=>whnf
 refine C3 (fun h2=>?_) (fun h2=>?_)<;>rw [h2]<;>simp only [decide_eq_true_eq,decide_eq_false_iff_not] at h2
 ·conv=>whnf
  refine C3 (fun h3=>?_) (fun h3=>?_)<;>rw [h3]<;>simp only [decide_eq_true_eq,decide_eq_false_iff_not] at h3
  ·conv=>whnf
   exact ⟨by unfold Z7;rw [if_pos (.inr ⟨h2,h3⟩)];rfl,rfl⟩
  ·conv=>whnf
   exact ⟨by unfold Z7;rw [if_neg (by rintro (e | ⟨_,e⟩)<;>contradiction)];rfl,rfl⟩
 ·conv=>whnf
  exact ⟨by unfold Z7;rw [if_neg (by rintro (e | ⟨e,_⟩)<;>contradiction)];rfl,rfl⟩
theorem B3P (pr:B1) (t:St):S P 84 [B8 pr] t fun v t'=>v=.bool (pr.kind==7)∧t'=t:=by
 refine A5 [1] B7 mixed Tryz.func84 (by rfl) rfl rfl rfl ?_;conv=>whnf
 exact ⟨rfl,rfl⟩
theorem C0d (pr:B1) (t:St):S P 86 [B8 pr,.fptr (.fn (.func 84) [] []) 0] t fun v t'=>v=.bool (!(pr.kind==7))∧t'=t:=by
 refine A5 [2] B7 mixed Tryz.func86 (by rfl) rfl rfl rfl ?_;conv=>whnf
 refine A4 (B3P pr t) ?_;conv=>whnf
 exact ⟨rfl,rfl⟩
theorem B4q {R R':St→St→Prop} (hR:G7 R) (hm:∀ s t t',R s t→F2 t t'→R s t') (hR':G7 R') {f:FuncId} {args:List AV} {w:AV} {s t0 t:St} {q:Nat} {fl:Bool} {es:List QE} (h:R s t0) (hq:QSt t0 q fl es t)
  (hS:∀ u,R u t→S P f args t fun v t'=>v=w∧R' u t'):S P f args t fun v t'=>v=w∧∃ t0',R' s t0'∧QSt t0' q fl es t':=by
 obtain ⟨bo,hF,hn⟩:=hq.foot
 obtain ⟨y1,hy1⟩:=hF.some (.inl rfl)
 have hq0:=hn q (.inl rfl)
 have hsq:s q=none:=(hR.sup h).none hq0
 cases bo with
 | none =>
  have h1:R (upd s q y1) t:=hm _ _ _ (hR.begin (y:=y1) h hq0) (fun c x hc=>by
   by_cases e:c=q
   ·subst e;rw [A0] at hc;rw [hy1];exact hc
   ·rw [A8 e] at hc;exact hq.sup c x hc)
  refine (hS _ h1).mono fun v t' hv=>⟨hv.1,del t' q,hR'.forget hv.2 hsq,?_⟩
  have hF':QF q none fl es t':=hF.frame fun c hc=>by
   rcases hc with rfl | hc
   ·rw [hR'.sup hv.2 c y1 (A0 ..),hy1]
   ·cases hc
  exact hF'.qst (fun c x hc=>by
   by_cases e:c=q
   ·subst e;rw [A0I] at hc;cases hc
   ·rw [Z6 e] at hc;exact hc) (fun c hc=>by
    rcases hc with rfl | hc
    ·exact A0I ..
    ·cases hc)
 | some b =>
  obtain ⟨y2,hy2⟩:=hF.some (c:=b) (.inr rfl)
  have hb0:=hn b (.inr rfl)
  have hqb:q≠b:=by
   obtain ⟨sv,_,h3⟩:=hF.has
   rcases h3 with ⟨_,_,e⟩ | ⟨b',l,n,e,hne,_⟩
   ·cases e
   ·cases e;exact hne
  have hsb:s b=none:=(hR.sup h).none hb0
  have h1:R (upd (upd s b y2) q y1) t:=hm _ _ _ (hR.begin (y:=y1) (hR.begin (y:=y2) h hb0) (by rw [A8 hqb];exact hq0)) (fun c x hc=>by
   by_cases e:c=q
   ·subst e;rw [A0] at hc;rw [hy1];exact hc
   ·rw [A8 e] at hc
    by_cases e2:c=b
    ·subst e2;rw [A0] at hc;rw [hy2];exact hc
    ·rw [A8 e2] at hc;exact hq.sup c x hc)
  refine (hS _ h1).mono fun v t' hv=>⟨hv.1,del (del t' q) b,hR'.forget (hR'.forget hv.2 (by rw [A8 hqb];exact hsq)) hsb,?_⟩
  have hs':=hR'.sup hv.2
  have hF':QF q (some b) fl es t':=hF.frame fun c hc=>by
   rcases hc with rfl | hc
   ·rw [hs' c y1 (A0 ..),hy1]
   ·cases hc
    rw [hs' b y2 (by rw [A8 hqb.symm,A0]),hy2]
  exact hF'.qst (fun c x hc=>by
   by_cases e:c=b
   ·subst e;rw [A0I] at hc;cases hc
   ·rw [Z6 e] at hc
    by_cases e2:c=q
    ·subst e2;rw [A0I] at hc;cases hc
    ·rw [Z6 e2] at hc;exact hc) (fun c hc=>by
    rcases hc with rfl | hc
    ·rw [Z6 hqb];exact A0I ..
    ·cases hc;exact A0I ..)
theorem B3b (l:List D7) (hl:l.length≤100000) (v:D7) (st:St) (b:Nat) (f:Nat→AV) (hb:st b=some ⟨9,1,l.length,f⟩) (hf:∀ k,k<l.length→f k=A5T l k) :
  S P 242 [.own 1 b 0 l.length,eS v] st fun r st'=>r=eI (idx (fun y:D7=>v.toList==y.toList) l)∧st'=st:=by
 refine A5 [] B7 mixed Tryz.func242 (by rfl) rfl rfl rfl ?_;conv=>whnf
 refine ⟨[0,1,7,8],fun m vs st'=>∃ i:Nat,i≤l.length∧(∀ k,k<i→(v.toList==(l.getD k default).toList)=false)∧m=l.length - i∧vs=[.own 1 b 0 l.length,eS v,eI l.length,eI i]∧st'=st,?_,?_⟩
 ·conv=>whnf
  exact ⟨_,0,Nat.zero_le _,fun k hk=>absurd hk (by omega),rfl,rfl,rfl⟩
 ·rintro m vs st' ⟨i,hi,hok,rfl,rfl,rfl⟩
  conv=>whnf
  cases h:decide ((i:Int)<(l.length:Int))
  ·have:=of_decide_eq_false h
   conv=>whnf
   refine ⟨?_,rfl⟩
   rw [R3 (p:=fun y:D7=>v.toList==y.toList) fun k hk=>hok k (by omega)];rfl
  ·have hi':i<l.length:=by have:=of_decide_eq_true h;omega
   conv=>whnf
   refine ⟨rfl,⟨by omega,by omega⟩,?_⟩;conv=>whnf
   refine E9 hb rfl (by omega) (v:=eS (l.getD i default)) (by rw [show 0+(i:Int).toNat=i by omega];exact hf i hi') ?_;conv=>whnf
   cases hp:(v.toList==(l.getD i default).toList)
   ·conv=>whnf
    refine ⟨rfl,?_⟩;conv=>whnf
    refine ⟨l.length - (i+1),by omega,i+1,by omega,fun k hk=>?_,rfl,by rw [C0 (by omega)],rfl⟩
    rcases Nat.lt_succ_iff_lt_or_eq.1 hk with h' | h'
    ·exact hok k h'
    ·rw [h'];exact hp
   ·conv=>whnf
    refine ⟨?_,rfl⟩
    rw [A1i (p:=fun y:D7=>v.toList==y.toList) hi' hok hp];rfl
theorem B8H (l:List D7) (hl:l.length≤100000) (v:D7) (st:St) (b:Nat) (f:Nat→AV) (hb:st b=some ⟨9,1,l.length,f⟩) (hf:∀ k,k<l.length→f k=A5T l k) :
  S P 154 [.own 1 b 0 l.length,eS v] st fun r st'=>r=.bool (inB l v)∧st'=st:=by
 refine A5 [] B7 mixed Tryz.func154 (by rfl) rfl rfl rfl ?_;conv=>whnf
 refine A4 (B3b l hl v st b f hb hf) ?_;conv=>whnf
 refine ⟨?_,rfl⟩
 unfold inB
 rw [←A1s];rfl
theorem B3a (v:D7) (st:St):S P 242 [.emp,eS v] st fun r st'=>r=eI (-1)∧st'=st:=by
 refine A5 [] B7 mixed Tryz.func242 (by rfl) rfl rfl rfl ?_;conv=>whnf
 refine A5N [0,1,7,8] ?_;conv=>whnf
 intro I;conv=>whnf
 exact ⟨rfl,rfl⟩
theorem B8G (v:D7) (st:St):S P 154 [.emp,eS v] st fun r st'=>r=.bool false∧st'=st:=by
 refine A5 [] B7 mixed Tryz.func154 (by rfl) rfl rfl rfl ?_;conv=>whnf
 refine A4 (B3a v st) ?_;conv=>whnf
 exact ⟨rfl,rfl⟩
theorem PxR.groups {bx:Nat} {items:List Ab.Item} {p:PSt} {s t:St} (h:PxR bx items p s t) (hg:p.groups.length≤1000):∃ dv gv f,t bx=some ⟨153,4,1,f⟩∧f 0=.agg [A7 4 E3 items,C6 p.us,dv,gv]∧(gv=.emp∨∃ b,gv=.own 1 b 0 p.groups.length) ∧
  ∀ (g:D7),S P 154 [gv,eS g] t fun r t'=>r=.bool (inB p.groups g)∧t'=t:=by
 obtain ⟨⟨dv,gv⟩,h⟩:=h
 obtain ⟨y,⟨f,rfl,hf⟩,hy⟩:=A0Z.at (A2G _ _ _ _) h
 obtain ⟨_,_,_,hd⟩:=h
 obtain ⟨s0,hc,hg0⟩:=hd
 refine ⟨dv,gv,f,hy,hf,hg0.head,fun g=>?_⟩
 obtain ⟨s1,hc1,hs1⟩:=hg0
 rcases hc1 with ⟨h0,h1,rfl⟩ | ⟨h0,b,g0,hb,h1,rfl,hgg⟩
 ·have:p.groups=[]:=List.eq_nil_of_length_eq_zero h0
  subst h1
  rw [this]
  exact B8G g t
 ·subst h1
  exact B8H p.groups (by omega) g t b g0 (hs1 b _ (A0 ..)) hgg
def goB {σ : Type} (px : σ→PSt) (step : σ→B1→σ) (a : σ) (pr:B1) : σ:=if J6 pr.group||!inB (px a).groups pr.group then step a pr else a
def V7 {σ : Type} (px : σ→PSt) (step : σ→B1→σ) (sm:B1→Bool) (l:List B1) (a : σ) (o:List Int) : σ:=(o.filter fun x=>sm (D5 l x)).foldl (fun a x=>goB px step a (D5 l x)) a
def A1K (sm:B1→Bool) (l:List B1) (o:List Int) (i:Nat):List QE:=((List.range i).filter fun k=>sm (D5 l (gI o k))).map fun (k:Nat)=>(-(k:Int),gI o k)
theorem A8n (sm:B1→Bool) (l:List B1) (o:List Int) (i:Nat):A1K sm l o (i+1)=A1K sm l o i++(if sm (D5 l (gI o i))=true then [(-(i:Int),gI o i)] else []):=by
 unfold A1K
 rw [List.range_succ,List.filter_append,List.map_append]
 congr 1
 by_cases h:sm (D5 l (gI o i))=true
 ·rw [if_pos h,List.filter_cons_of_pos (p:=fun k=>sm (D5 l (gI o k))) h];rfl
 ·rw [if_neg h,List.filter_cons_of_neg (p:=fun k=>sm (D5 l (gI o k))) h];rfl
theorem B5Q (sm:B1→Bool) (l:List B1) (o:List Int) (i:Nat):(A1K sm l o i).length≤i:=by
 unfold A1K
 rw [List.length_map]
 exact Nat.le_trans (List.length_filter_le ..) (by simp)
theorem A9T (sm:B1→Bool) (l:List B1) (o:List Int):∀ i,i≤o.length→(A1K sm l o i).map (·.2)=(o.take i).filter fun x=>sm (D5 l x)
 | 0,_=>by simp [A1K]
 | i+1,h=>by
  rw [A8n,List.map_append,A9T sm l o i (by omega),K2 (show i<o.length by omega),List.filter_append]
  congr 1
  show List.map (fun x=>x.2) (if sm (D5 l (gI o i))=true then [(-(i:Int),gI o i)] else [])=List.filter (fun x=>sm (D5 l x)) [gI o i]
  by_cases hs:sm (D5 l (gI o i))=true
  ·rw [if_pos hs,List.filter_cons_of_pos (p:=fun x=>sm (D5 l x)) hs];rfl
  ·rw [if_neg hs,List.filter_cons_of_neg (p:=fun x=>sm (D5 l x)) hs];rfl
theorem B0Q (sm:B1→Bool) (l:List B1) (o:List Int) (i:Nat):(A1K sm l o i).Pairwise fun a b=>H8 b a=false:=by
 unfold A1K
 refine List.Pairwise.map _ (fun a b h=>?_) ((List.pairwise_lt_range (n:=i)).filter _)
 rw [T7]
 show ¬(-(b:Int) > -(a:Int)∨(-(b:Int) = -(a:Int)∧_))
 omega
theorem B4u {l:List B1} {codes:List D7} {o:List Int} (ho:A8B l codes o) {x:Int} (hx:x∈L5 l o):0≤x∧x.toNat<l.length:=by
 obtain ⟨e,he,rfl⟩:=List.mem_map.1 hx
 have h:=A3W he
 exact T3 (ho.1.subset (B4 h.2))
theorem B7c {σ : Type} {N:Nat} (hN:A3h N) (bx:Nat) (items:List Ab.Item) (R : σ→St→St→Prop) (px : σ→PSt) (hR:∀ a,G7 (R a)) (hmore:∀ a s t t',R a s t→F2 t t'→R a s t') (hP:∀ a s t,R a s t→∃ s',PxR bx items (px a) s' t)
  (l:List B1) (codes:List D7) (hl:l.length≤60) (hc:codes.length≤9223372036854775807) (h20:(places l codes l.length).length≤N)
  (g:FuncId) (cs:List AV) (sm:B1→Bool) (hsome:∀ (pr:B1) (t:St),S P g (B8 pr::cs) t fun v t'=>v=.bool (sm pr)∧t'=t)
  (f:FuncId) (fs ds:List AV) (step : σ→B1→σ) (Inv : σ→Nat→Prop) (hgr:∀ a n,Inv a n→(px a).groups.length≤1000) (hle:∀ a n,Inv a (n+1)→Inv a n)
  (hdo:∀ (a : σ) (n:Nat) (pr:B1) (s t:St),pr∈l→sm pr=true→Inv a (n+1)→R a s t→S P f (fs++[B8 pr]++ds) t fun v t'=>v=.tuple []∧R (step a pr) s t')
  (hinv:∀ (a : σ) (n:Nat) (pr:B1),pr∈l→sm pr=true→Inv a (n+1)→Inv (step a pr) n) (a0 : σ) (hI:Inv a0 60) (s t:St) (h:R a0 s t) :
  S P 85 [.optr 4 bx 0 0,A7 15 B8 l,D3 codes,.fn (.func g) [] cs,.fn (.func f) fs ds] t fun v t'=>v=.tuple []∧∃ o,A8B l codes o∧R (V7 px step sm l a0 (L5 l o)) s t':=by
 refine A5 [] B7 mixed Tryz.func85 (by rfl) rfl rfl rfl ?_;conv=>whnf
 refine call (B2J t) (fun v t1 hv=>?_)
 obtain ⟨q,rfl,hq⟩:=hv
 conv=>whnf
 refine call (B7b hN l codes hl hc h20 t1) (fun v t2 hv=>?_)
 obtain ⟨⟨o,ho,rfl⟩,rfl⟩:=hv
 have hmem:=fun {x:Int} (hx:x∈L5 l o)=>B4u ho hx
 have hrl:(L5 l o).length≤60:=by
  rw [List.length_map,A3V,ho.1.length_eq]
  have:=Q3 l codes l.length;omega
 obtain ⟨r,hr⟩:∃ r:List Int,r=L5 l o:=⟨_,rfl⟩
 rw [←hr] at hrl
 have hmem':∀ x∈r,0≤x∧x.toNat<l.length:=fun x hx=>hmem (by rw [←hr];exact hx)
 have hInvle:∀ (a : σ) (n m:Nat),m≤n→Inv a n→Inv a m:=fun a n m hmn h=>by
  induction n with
  | zero=>have:m=0:=by omega
          subst this;exact h
  | succ n ih =>
   rcases Nat.lt_or_ge n m with h1 | h1
   ·have:m=n+1:=by omega
    subst this;exact h
   ·exact ih h1 (hle a n h)
 have hfin:∀ t',R (V7 px step sm l a0 r) s t'→∃ o,A8B l codes o∧R (V7 px step sm l a0 (L5 l o)) s t':=fun t' h=>⟨o,ho,by rw [←hr];exact h⟩
 have hv:B3 (L5 l o)=B3 r:=by rw [hr]
 rw [hv]
 clear hv
 conv=>whnf
 refine ⟨[0,1,3,4,10,19,20,21],fun m vs t'=>∃ i:Nat,i≤r.length∧m=r.length - i∧vs=[.optr 4 bx 0 0,A7 15 B8 l,.fn (.func g) [] cs,.fn (.func f) fs ds,.optr 1 q 0 0,B3 r,eI r.length,eI i]∧QSt t q true (A1K sm l r i) t',?_,?_⟩
 ·conv=>whnf
  exact ⟨_,0,Nat.zero_le _,rfl,rfl,hq⟩
 ·clear hq
  rintro m vs t' ⟨i,hi,rfl,rfl,hq⟩
  have hpl:=B5Q sm l r i
  conv=>whnf
  cases hd:decide ((i:Int)<(r.length:Int))
  ·have:=of_decide_eq_false hd
   obtain rfl:i=r.length:=by omega
   have hsnd:=A9T sm l r r.length (Nat.le_refl _)
   rw [List.take_length] at hsnd;conv=>whnf
   refine ⟨[0,1,4,10],fun m vs t'=>∃ (a : σ) (rest:List QE) (fl:Bool) (t0:St),m=rest.length∧vs=[.optr 4 bx 0 0,A7 15 B8 l,.fn (.func f) fs ds,.optr 1 q 0 0]∧(rest.map (·.2)).foldl (fun a x=>goB px step a (D5 l x)) a=V7 px step sm l a0 r∧(∀ e∈rest,(0≤e.2∧e.2.toNat<l.length)∧sm (D5 l e.2)=true)∧(rest.Pairwise fun a b=>H8 b a=false)∧Inv a rest.length∧R a s t0∧QSt t0 q fl rest t',?_,?_⟩
   ·conv=>whnf
    refine ⟨_,a0,A1K sm l r r.length,true,t,rfl,rfl,by rw [hsnd];rfl,fun e he=>?_,B0Q sm l r r.length,hInvle a0 60 _ (by omega) hI,h,hq⟩
    have:e.2∈(A1K sm l r r.length).map (·.2):=List.mem_map_of_mem he
    rw [hsnd] at this
    obtain ⟨h1,h2⟩:=List.mem_filter.1 this
    exact ⟨hmem' _ h1,h2⟩
   ·clear hq
    rintro m vs t' ⟨a,rest,fl,t0,rfl,rfl,hF,hrm,hsort,hIa,hRa,hq⟩
    conv=>whnf
    refine A4 (A9U _ _ _ _ _ hq) ?_;conv=>whnf
    cases rest with
    | nil =>
     conv=>whnf
     refine ⟨rfl,hfin t' ?_⟩
     rw [←hF]
     exact hmore _ _ _ _ hRa hq.sup
    | cons x rest =>
     rw [List.pairwise_cons] at hsort
     have hx:=hrm x (List.mem_cons_self ..)
     have hlen0:decide (((x::rest).length:Int)>0)=true:=decide_eq_true (by rw [List.length_cons];omega)
     rw [hlen0];conv=>whnf
     refine call (A9V _ _ _ _ _ _ hq hsort.1) (fun v t2 hv=>?_)
     obtain ⟨rfl,hq2⟩:=hv
     have hpr:D5 l x.2∈l:=B4 hx.1.2
     have hgl:=hgr a _ hIa
     obtain ⟨s',hpx⟩:=hP a s t2 (hmore _ _ _ _ hRa hq2.sup)
     obtain ⟨dv,gv,fx,hbx,hfx,hgv,hcont⟩:=hpx.groups hgl
     conv=>whnf
     -- what is behind the round
     have hgo:goB px step a (D5 l x.2)=if J6 (D5 l x.2).group||!inB (px a).groups (D5 l x.2).group then step a (D5 l x.2) else a:=rfl
     have hF2:(rest.map (·.2)).foldl (fun a x=>goB px step a (D5 l x)) (goB px step a (D5 l x.2))=V7 px step sm l a0 r:=by rw [←hF];rfl
     have round:∀ (b : σ) (t3:St),b=goB px step a (D5 l x.2)→Inv b rest.length→(∃ t0',R b s t0'∧QSt t0' q false rest t3)→∃ m',m'<rest.length+1∧∃ (a : σ) (rest_1:List QE) (fl:Bool) (t0:St),m'=rest_1.length∧[AV.optr 4 bx 0 0,A7 15 B8 l,.fn (.func f) fs ds,.optr 1 q 0 0]=[AV.optr 4 bx 0 0,A7 15 B8 l,.fn (.func f) fs ds,.optr 1 q 0 0]∧(rest_1.map (·.2)).foldl (fun a x=>goB px step a (D5 l x)) a=V7 px step sm l a0 r∧(∀ e∈rest_1,(0≤e.2∧e.2.toNat<l.length)∧sm (D5 l e.2)=true)∧(rest_1.Pairwise fun a b=>H8 b a=false)∧Inv a rest_1.length∧R a s t0∧QSt t0 q fl rest_1 t3 :=
      fun b t3 hb hib ⟨t0',h1,h2⟩=>⟨rest.length,Nat.lt_succ_self _,b,rest,false,t0',rfl,rfl,by rw [hb];exact hF2,fun e he=>hrm e (List.mem_cons_of_mem _ he),hsort.2,hib,h1,h2⟩
     -- the call itself
     have doit:∀ K:KK,(∀ t3,(∃ t0',R (step a (D5 l x.2)) s t0'∧QSt t0' q false rest t3)→K (.tuple []) t3)→A1C P f (fs++[B8 (D5 l x.2)]++ds) t2 K:=fun K hK=>by
      refine call (B4q (hR a) (hmore a) (hR _) hRa hq2 (fun u hu=>hdo a rest.length (D5 l x.2) u t2 hpr hx.2 (by simpa using hIa) hu)) (fun v t3 hv=>?_)
      rw [hv.1];exact hK t3 hv.2
     refine ⟨[],[],[0,1,2,3,4,5,6,7,8,9,10,11,12,13,14,15,16,17,18],by kernel_rfl,?_⟩;conv=>whnf
     refine ⟨rfl,⟨by omega,by omega⟩,?_⟩;conv=>whnf
     have hnil:(ByteArray.toList (l.getD x.2.toNat default).group==ByteArray.toList ⟨#[]⟩)=J6 (D5 l x.2).group:=rfl
     have hyes:(J6 (D5 l x.2).group||!inB (px a).groups (D5 l x.2).group)=true→∀ K:KK,(∀ t3,(∃ (b : σ),b=goB px step a (D5 l x.2)∧Inv b rest.length∧∃ t0',R b s t0'∧QSt t0' q false rest t3)→K (.tuple []) t3)→A1C P f (fs++[B8 (D5 l x.2)]++ds) t2 K:=fun hy K hK =>
      doit K fun t3 h3=>hK t3 ⟨_,by rw [hgo,if_pos hy],hinv a _ _ hpr hx.2 (by simpa using hIa),h3⟩
     rw [hnil]
     cases hg:J6 (D5 l x.2).group with
     | true =>
      conv=>whnf
      refine ⟨rfl,⟨by omega,by omega⟩,?_⟩;conv=>whnf
      rw [A3F,A3F]
      refine hyes (by rw [hg];rfl) _ (fun t3 h3=>?_);conv=>whnf
      refine ⟨rfl,?_⟩;conv=>whnf
      obtain ⟨b,h4,h5,h6⟩:=h3
      exact round b t3 h4 h5 h6
     | false =>
      rcases hgv with rfl | ⟨bg,rfl⟩
      all_goals
       conv=>whnf
       refine E9 hbx rfl (by omega) hfx ?_;conv=>whnf
       refine ⟨rfl,⟨by omega,by omega⟩,?_⟩;conv=>whnf
       refine ⟨_,C9 (hcont (D5 l x.2).group),?_⟩;conv=>whnf
       cases hi:inB (px a).groups (D5 l x.2).group with
       | false =>
        conv=>whnf
        refine ⟨rfl,⟨by omega,by omega⟩,?_⟩;conv=>whnf
        rw [A3F,A3F]
        refine hyes (by rw [hi];simp) _ (fun t3 h3=>?_);conv=>whnf
        refine ⟨rfl,?_⟩;conv=>whnf
        obtain ⟨b,h4,h5,h6⟩:=h3
        exact round b t3 h4 h5 h6
       | true =>
        conv=>whnf
        refine ⟨rfl,?_⟩;conv=>whnf
        refine round a t2 (by rw [hgo,if_neg (by rw [hg,hi];simp)]) (hle a _ (by simpa using hIa)) ⟨t0,hRa,hq2⟩
  ·have hi':i<r.length:=by have:=of_decide_eq_true hd;omega
   have hm:=hmem' _ (B4 hi')
   have es:=A8n sm l r i
   conv=>whnf
   refine ⟨rfl,⟨by omega,by omega⟩,?_⟩;conv=>whnf
   refine ⟨rfl,⟨by show 0≤gI r i;exact hm.1,by show gI r i<(l.length:Int);have h1:=hm.1;have h2:=hm.2;show gI r i<_;have:(gI r i).toNat<l.length:=h2;have:0≤gI r i:=h1;omega⟩,?_⟩;conv=>whnf
   refine A4 (hsome (D5 l (gI r i)) t') ?_;conv=>whnf
   refine C3 (fun h3=>?_) (fun h3=>?_)<;>rw [h3]
   ·rw [if_pos h3] at es
    have w:IntKind.i64.wrap (0 - (i:Int)) = -(i:Int):=by rw [show 0 - (i:Int) = -(i:Int) by omega];exact A9 (by omega) (by omega)
    conv=>whnf
    rw [w]
    refine call (A8T t q _ (-(i:Int)) (gI r i) _ hq (by omega)) (fun v t2 hv=>?_)
    obtain ⟨rfl,hq'⟩:=hv
    conv=>whnf
    refine ⟨rfl,?_⟩;conv=>whnf
    exact ⟨r.length - (i+1),by omega,i+1,by omega,rfl,by rw [C0 (by omega)],by rw [es];exact hq'⟩
   ·have h3':¬ sm (D5 l (gI r i))=true:=by rw [h3];simp
    rw [if_neg h3',List.append_nil] at es;conv=>whnf
    refine ⟨rfl,?_⟩;conv=>whnf
    exact ⟨r.length - (i+1),by omega,i+1,by omega,rfl,by rw [C0 (by omega)],by rw [es];exact hq⟩
def D6 (r:E8) (codes:List D7) (l:List F0):Int :=
 if O0 r=false then 10 else if R8 codes=false then 2 else H0 (known r.items) l
theorem C0k (r:E8) (codes:List D7) (l:List F0) (hf:A0a r) (hc:codes.length≤Big) (hi:r.items.length≤4611686018427387904) (st:St) :
  S P 81 [J2 r,D3 codes,A7 3 E4 l] st fun v st'=>v=eI (D6 r codes l)∧st'=st:=by
 refine A5 [3] B7 mixed Tryz.func81 (by rfl) rfl rfl rfl ?_;conv=>whnf
 refine A4 (B7g r hf st) ?_;conv=>whnf
 have hP:D6 r codes l=if O0 r=false then 10 else if R8 codes=false then 2 else H0 (known r.items) l:=rfl
 cases h1:O0 r
 ·rw [if_pos h1] at hP;conv=>whnf
  exact ⟨by rw [hP];rfl,rfl⟩
 ·rw [if_neg (by rw [h1];simp)] at hP;conv=>whnf
  refine A4 (B6J codes hc st) ?_;conv=>whnf
  cases h2:R8 codes
  ·rw [if_pos h2] at hP;conv=>whnf
   exact ⟨by rw [hP];rfl,rfl⟩
  ·rw [if_neg (by rw [h2];simp)] at hP;conv=>whnf
   refine A4 (B6B r.items l hi st) ?_;conv=>whnf
   exact ⟨by rw [hP];rfl,rfl⟩
abbrev R6 (l:List F0):List B5:=F9 l l.length
structure A6C (items:List Ab.Item) (l:List F0):Prop where
 len:l.length≤1000
 line:∀ x∈l,lineC x=true
 known:∀ x∈l,known items x.sku=true
 units:I9 l≤100000
 gross:I0 l≤10000000000000
theorem A8Q {items:List Ab.Item} {l:List F0} (h:H0 (known items) l=0):A6C items l:=by
 unfold H0 at h
 split at h
 ·cases h
 ·rename_i hl
  split at h
  ·rename_i x hx
   split at h<;>cases h
  ·rename_i hf
   have hall:∀ x∈l,I2 (Go.Proofs.YthdimklenlikgaaGreat.known items) x=false:=fun x hx=>Bool.eq_false_iff.2 (List.find?_eq_none.1 hf x hx)
   have hb:∀ x∈l,Go.Proofs.YthdimklenlikgaaGreat.known items x.sku=true∧lineC x=true:=fun x hx=>by
    have:=hall x hx
    unfold I2 at this
    simpa using this
   split at h
   ·cases h
   ·rename_i hg
    simp only [Bool.or_eq_true,decide_eq_true_eq,not_or] at hg
    exact ⟨by omega,fun x hx=>(hb x hx).2,fun x hx=>(hb x hx).1,by omega,by omega⟩
theorem A6C.may {items:List Ab.Item} {l:List F0} (h:A6C items l):(H0 (fun _=>true) l==0)=true:=by
 have:H0 (fun _=>true) l=0:=by
  unfold H0
  rw [if_neg (by have:=h.len;omega)]
  have hf:l.find? (I2 fun _=>true)=none:=List.find?_eq_none.2 fun x hx=>by
   unfold I2;rw [h.line x hx];simp
  rw [hf]
  simp only
  rw [if_neg]
  have:=h.units
  have:=h.gross
  simp only [Bool.or_eq_true,decide_eq_true_eq,not_or]
  omega
 rw [this];rfl
theorem A1B (l:List F0) (hl:∀ x∈l,lineC x=true):∀ k,k≤l.length→((F9 l k).length:Int)=I9 (l.take k)∧A6 (E0 (F9 l k))=I0 (l.take k)∧(∀ u∈F9 l k,0≤u.net∧0≤u.line∧u.line.toNat<k∧u.opn=true)
 | 0,_=>⟨rfl,rfl,fun u hu=>by simp [F9] at hu⟩
 | k+1,h=>by
  obtain ⟨h1,h2,h3⟩:=A1B l hl k (by omega)
  have hx:=(Y8 _).1 (hl _ (B4 (show k<l.length by omega)))
  have eN:I9 (l.take (k+1))=I9 (l.take k)+(l.getD k default).qty:=P1 (by omega) _ _
  have eG:I0 (l.take (k+1))=I0 (l.take k)+(l.getD k default).qty * (l.getD k default).price:=P1 (by omega) _ _
  have hup:F9 l (k+1)=F9 l k++List.replicate (l.getD k default).qty.toNat (lnU l k):=rfl
  have hsr:∀ (n:Nat) (c:Int),A6 (List.replicate n c)=n * c:=fun n c=>by
   induction n with
   | zero=>simp [A6]
   | succ n ih=>rw [List.replicate_succ,N3,ih,show ((n+1:Nat):Int)=(n:Int)+1 by omega,Int.add_mul,Int.one_mul];omega
  refine ⟨?_,?_,fun u hu=>?_⟩
  ·rw [hup,List.length_append,List.length_replicate,eN,←h1];omega
  ·unfold E0 at h2 ⊢
   rw [hup,List.map_append,G1,h2,List.map_replicate,hsr,eG]
   show _+((l.getD k default).qty.toNat:Int) * (l.getD k default).price=_
   rw [Int.toNat_of_nonneg hx.1.1]
  ·rw [hup] at hu
   rcases List.mem_append.1 hu with hu | hu
   ·have:=h3 u hu;exact ⟨this.1,this.2.1,by omega,this.2.2.2⟩
   ·rw [List.eq_of_mem_replicate hu]
    refine ⟨hx.2.1,?_,?_,rfl⟩
    ·show (0:Int)≤(k:Int);omega
    ·show ((k:Int)).toNat<k+1;omega
theorem B3e {items:List Ab.Item} {l:List F0} (h:A6C items l):A5L (C8 items l) (R6 l):=by
 obtain ⟨h1,h2,h3⟩:=A1B l h.line l.length (Nat.le_refl _)
 rw [List.take_length] at h1 h2
 have hN:=h.units
 have hG:=h.gross
 have hlen:(C8 items l).length=l.length:=List.length_map ..
 exact ⟨⟨by show (F9 l l.length).length≤100000;omega,fun u hu=>(h3 u hu).1,by show A6 (E0 (F9 l l.length))≤_;omega⟩,by rw [hlen];have:=h.len;omega,fun u hu=>⟨(h3 u hu).2.1,by rw [hlen];exact (h3 u hu).2.2.1⟩⟩
def C8e (bn n:Nat) (net ship:Int) (y:Q5):Prop:=∃ f,y=⟨44,4,1,f⟩∧f 0=.agg [.own 1 bn 0 n,eI net,eI ship,.emp]
def R2 (bx bp bn n:Nat) (items:List Ab.Item) (net:Int) (a:PSt×Int):St→St→Prop:=A0Z bp (C8e bn n net a.2) (PxR bx items a.1)
theorem B9r (bx bp bn n:Nat) (items:List Ab.Item) (net:Int) (a:PSt×Int):G7 (R2 bx bp bn n items net a):=A1T (A3I _ _ _)
theorem R2.more {bx bp bn n:Nat} {items:List Ab.Item} {net:Int} {a:PSt×Int} {s t t':St} (h:R2 bx bp bn n items net a s t) (hs:F2 t t'):R2 bx bp bn n items net a s t':=by
 obtain ⟨h1,y,h2,h3⟩:=h
 exact ⟨h1,y,h2,h3.more hs⟩
def R5 (net:Int) (a:PSt×Int) (pr:B1):PSt×Int:=((A5Y a.1 pr net a.2).2,(A5Y a.1 pr net a.2).1)
theorem B0j (bx bp bn n:Nat) (items:List Ab.Item) (net:Int) (a:PSt×Int) (pr:B1) (h0:0≤a.2) (h1:a.2≤10000000000000) (hd:a.1.deals.length≤1000) (hg:a.1.groups.length≤1000) (s t:St) (h:R2 bx bp bn n items net a s t) :
  S P 89 [B8 pr,.fptr (.optr 4 bx 0 0) 0,.optr 4 bp 0 0] t fun v t'=>v=.tuple []∧R2 bx bp bn n items net (R5 net a pr) s t':=by
 obtain ⟨hbp,y,⟨f,rfl,hf⟩,hP⟩:=h
 have hat:t bp=some ⟨44,4,1,f⟩:=(A3I _ _ _).sup hP bp _ (A0 ..)
 refine A5 [3] B7 mixed Tryz.func89 (by rfl) rfl rfl rfl ?_;conv=>whnf
 refine E9 hat rfl (by omega) hf ?_;conv=>whnf
 refine E9 hat rfl (by omega) hf ?_;conv=>whnf
 refine call (B6c bx items a.1 pr net a.2 h0 h1 hd hg _ t hP) (fun v t2 hv=>?_)
 obtain ⟨rfl,hP2⟩:=hv
 have hat2:t2 bp=some ⟨44,4,1,f⟩:=(A3I _ _ _).sup hP2 bp _ (A0 ..)
 conv=>whnf
 refine K4 hat2 rfl (by omega) hf (by rfl) ?_;conv=>whnf
 refine ⟨rfl,?_⟩
 exact A0Z.set (A3I _ _ _) (Q:=fun y=>y=⟨44,4,1,f⟩) ⟨hbp,_,rfl,hP2⟩ ⟨_,rfl,by rw [A2];rfl⟩
def F6 (us:List B5) (j:Nat):Int:=A6 ((us.filter fun u=>u.line.toNat==j).map B5.net)
def S9 (n:Nat) (us:List B5):List Int:=(List.range n).map (F6 us)
theorem U6 {us:List B5} {k:Nat} (hk:k<us.length) (j:Nat):F6 (us.take (k+1)) j=if (gU us k).line.toNat=j then F6 (us.take k) j+(gU us k).net else F6 (us.take k) j:=by
 unfold F6
 rw [K2 hk,List.filter_append,List.map_append,G1]
 by_cases h:(gU us k).line.toNat=j
 ·rw [if_pos h,List.filter_cons_of_pos (by show ((gU us k).line.toNat==j)=true;rw [h];simp)]
  simp [A6]
 ·rw [if_neg h,List.filter_cons_of_neg (by show ¬((gU us k).line.toNat==j)=true;simpa using h)]
  simp [A6]
theorem A0d {us:List B5} (h:E5 us) (k j:Nat):0≤F6 (us.take k) j∧F6 (us.take k) j≤A6 (E0 us):=by
 have hsub:((us.take k).filter fun u=>u.line.toNat==j).Sublist us:=List.filter_sublist.trans (List.take_sublist _ _)
 have hgen:∀ {a b:List B5},a.Sublist b→(∀ u∈b,0≤u.net)→0≤A6 (a.map B5.net)∧A6 (a.map B5.net)≤A6 (b.map B5.net):=fun {a b} hs=>by
  induction hs with
  | slnil=>intro _;exact ⟨Int.le_refl _,Int.le_refl _⟩
  | cons x _ ih =>
   intro hb
   have h1:=ih fun u hu=>hb u (List.mem_cons_of_mem _ hu)
   have h2:=hb x (List.mem_cons_self ..)
   rw [List.map_cons,N3];omega
  | cons_cons x _ ih =>
   intro hb
   have h1:=ih fun u hu=>hb u (List.mem_cons_of_mem _ hu)
   have h2:=hb x (List.mem_cons_self ..)
   rw [List.map_cons,List.map_cons,N3,N3];omega
 exact hgen hsub h.pos
end Go.Proofs.YthdimklenlikgaaGreat
