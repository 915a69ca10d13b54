/- Part 23 of the proof: contracts of the functions that the law reaches -/
import Derived.Test.YtbajhapmlfbelaaGreatDe22
import Derived.Shelf.SlicesE.Compact
set_option linter.unusedVariables false
set_option linter.unusedSimpArgs false
namespace Go.Ab
open Go
theorem B8z {w:World} {st st':St} (h:∀ b,st b=none↔st' b=none):A2w w st=A2w w st':=by
 funext a
 unfold A2w
 cases h1:st a.block with
 | none=>rw [(h _).1 h1]
 | some x =>
  cases h2:st' a.block with
  | none=>rw [(h _).2 h2] at h1;cases h1
  | some y=>rfl
theorem B4.cellG {vs:List AV} {st st2:St} {a i:Nat} {y:Q3} {sv v' w':AV} {pre post:List AV} (h:B4 [sv] st [v'] st2) (hy:st a=some y) (hy2:st2 a=some y) (hi:i<y.n)
  (hf:cellsOf (y.f i)=pre++sv::post) (hw:cellsOf w'=pre++v'::post) (h1:v'.one=true):B4 vs st vs (upd st2 a { y with f:=G6 y.f i w' }):=fun w cs hS hR=>by
 obtain ⟨ds,hok⟩:=hS a y hy
 obtain ⟨c,hc1,hc2⟩:=hok.cell i pre.length sv hi (by rw [hf];show (pre++sv::post)[pre.length]?=some sv;simp)
 obtain ⟨hS2,hR2,hE⟩:=h w #[c] hS ⟨rfl,fun k z c' hz hc'=>by
  cases k with
  | zero=>simp at hz hc';subst hz;subst hc';exact hc2
  | succ k=>simp at hz⟩
 have hv:I9 w st2 v' c:=hR2.2 0 v' c rfl rfl
 have e:A2w w (upd st2 a { y with f:=G6 y.f i w' })=A2w w st2:=B8z fun b=>by
  by_cases eb:b=a
  ·subst eb;rw [A0,hy2];constructor<;>(intro h0;cases h0)
  ·rw [A9 eb]
 have hrep:∀ v c,I9 w st2 v c→I9 w (upd st2 a { y with f:=G6 y.f i w' }) v c:=fun v c hv=>by
  show Rep (A2w w _) _ _ _
  rw [e];exact hv
 refine ⟨fun b x hb=>?_,⟨hR.1,fun k y c hy hc=>hrep _ _ (hE.rep (hR.2 k y c hy hc))⟩,⟨hE.os,hE.tape,hE.output,hE.size,fun b hb hn=>⟨(hE.blk b hb hn).1,?_⟩,hE.szm⟩⟩
 ·by_cases eb:b=a
  ·subst eb
   rw [A0] at hb;cases hb
   obtain ⟨ds2,hok2⟩:=hS2 b y hy2
   have hds:ds2=ds:=by
    have h3:=hok2.heap
    rw [hok.heap] at h3
    cases h3;rfl
   subst hds
   have hlen:=hok2.len i hi
   have hone:=hok2.one i hi
   rw [hf] at hlen hone
   refine ⟨ds2,hok2.heap,hok2.size,fun k hk=>?_,fun k hk=>?_,fun k m z hk hz=>?_⟩
   ·by_cases ek:k=i
    ·subst ek
     show (cellsOf (G6 y.f k _ k)).length=y.e
     unfold G6;rw [if_pos rfl,←hlen]
     show (cellsOf w').length=(pre++sv::post).length
     rw [hw]
     simp
    ·show (cellsOf (G6 y.f i _ k)).length=y.e
     unfold G6;rw [if_neg ek];exact hok2.len k hk
   ·by_cases ek:k=i
    ·subst ek
     show (cellsOf (G6 y.f k _ k)).all AV.one=true
     unfold G6;rw [if_pos rfl]
     have hone':(pre++sv::post).all AV.one=true:=hone
     show (cellsOf w').all AV.one=true
     rw [hw]
     simp only [List.all_append,List.all_cons,Bool.and_eq_true] at hone' ⊢
     exact ⟨hone'.1,h1,hone'.2.2⟩
    ·show (cellsOf (G6 y.f i _ k)).all AV.one=true
     unfold G6;rw [if_neg ek];exact hok2.one k hk
   ·have hz:(cellsOf (G6 y.f i w' k))[m]?=some z:=hz
    unfold G6 at hz
    by_cases ek:k=i
    ·subst ek
     rw [if_pos rfl] at hz
     have hz:(pre++v'::post)[m]?=some z:=by rw [←hw];exact hz
     by_cases em:m=pre.length
     ·subst em
      simp at hz
      subst hz
      exact ⟨c,hc1,hrep _ _ hv⟩
     ·have e3:(pre++sv::post)[m]?=some z:=by
       rw [←hz]
       by_cases hm:m<pre.length
       ·rw [List.getElem?_append_left hm,List.getElem?_append_left hm]
       ·rw [List.getElem?_append_right (by omega),List.getElem?_append_right (by omega)]
        obtain ⟨q,hq⟩:∃ q,m - pre.length=q+1:=⟨m - pre.length - 1,by omega⟩
        rw [hq];rfl
      obtain ⟨c',k1,k2⟩:=hok2.cell k m z hk (by rw [hf];exact e3)
      exact ⟨c',k1,hrep _ _ k2⟩
    ·rw [if_neg ek] at hz
     obtain ⟨c',k1,k2⟩:=hok2.cell k m z hk hz
     exact ⟨c',k1,hrep _ _ k2⟩
  ·rw [A9 eb] at hb
   obtain ⟨ds2,hok2⟩:=hS2 b x hb
   exact ⟨ds2,hok2.heap,hok2.size,hok2.len,hok2.one,fun k m z hk hz=>by
    obtain ⟨c',k1,k2⟩:=hok2.cell k m z hk hz
    exact ⟨c',k1,hrep _ _ k2⟩⟩
 ·have:=(hE.blk b hb hn).2
  have eb:b≠a:=fun h=>by rw [h,hy] at hn;cases hn
  rw [A9 eb];exact this
theorem B4.cell {vs:List AV} {st st2:St} {a i:Nat} {y:Q3} {sv v':AV} {pre post:List AV} (h:B4 [sv] st [v'] st2) (hy:st a=some y) (hy2:st2 a=some y) (hi:i<y.n)
  (hf:y.f i=.agg (pre++sv::post)) (h1:v'.one=true):B4 vs st vs (upd st2 a { y with f:=G6 y.f i (.agg (pre++v'::post)) }) :=
 B4.cellG h hy hy2 hi (by rw [hf];rfl) rfl h1
theorem B4.elem {vs:List AV} {st st2:St} {a i:Nat} {y:Q3} {sv v':AV} (h:B4 [sv] st [v'] st2) (hy:st a=some y) (hy2:st2 a=some y) (hi:i<y.n)
  (hf:y.f i=sv) (h0:sv.one=true) (h1:v'.one=true):B4 vs st vs (upd st2 a { y with f:=G6 y.f i v' }) :=
 B4.cellG (pre:=[]) (post:=[]) h hy hy2 hi (by rw [hf];cases sv<;>first | rfl | cases h0) (by cases v'<;>first | rfl | cases h1) h1
end Go.Ab
set_option maxRecDepth 100000
namespace Go.Proofs.YtbajhapmlfbelaaGreat
open Go Go.Ab
attribute [local irreducible] upd del
theorem ROut.ofCol {R:St→St→Prop} (hR:H2 R) {ty e n:Nat} {f:Nat→AV} {s t t':St} {v:AV} (h:R s t) (hc:H9 ty e f t n v t'):ROut R ty e f n s v t':=by
 rcases hc with ⟨rfl,rfl,rfl⟩ | ⟨h0,b,g,h1,rfl,rfl,h3⟩
 ·exact ⟨s,H9.start _ _ _ _,h⟩
 ·exact ⟨upd s b ⟨ty,e,n,g⟩,.inr ⟨h0,b,g,(hR.sup h).none h1,rfl,rfl,h3⟩,hR.begin h h1⟩
theorem ROut.cell {R:St→St→Prop} (hR:H2 R) {ty e n b:Nat} {fo:Nat→AV} {s t:St} (h:ROut R ty e fo n s (.own e b 0 n) t) (hn:0<n) :
  ∃ g,t b=some ⟨ty,e,n,g⟩∧(∀ k,k<n→g k=fo k)∧∀ (g' fo':Nat→AV),(∀ k,k<n→g' k=fo' k)→ROut R ty e fo' n s (.own e b 0 n) (upd t b ⟨ty,e,n,g'⟩):=by
 obtain ⟨s0,hc,hr⟩:=h
 rcases hc with ⟨h0,_⟩ | ⟨_,b',g,h1,h2,rfl,h3⟩
 ·omega
 ·injection h2 with _ h2 _ _
  subst h2
  refine ⟨g,hR.sup hr b _ (A0 ..),h3,fun g' fo' hg=>⟨upd s b ⟨ty,e,n,g'⟩,.inr ⟨hn,b,g',h1,rfl,rfl,hg⟩,?_⟩⟩
  have:=hR.write (y':=⟨ty,e,n,g'⟩) hr (A0 ..)
  rwa [B8] at this
theorem ROut.own0 {R:St→St→Prop} {ty e n:Nat} {fo:Nat→AV} {s t:St} {sv:AV} (h:ROut R ty e fo n s sv t) (hn:0<n):∃ b,sv=.own e b 0 n:=by
 obtain ⟨s0,⟨h0,_⟩ | ⟨_,b,_,_,h1,_⟩,h2⟩:=h
 ·omega
 ·exact ⟨b,h1⟩
theorem ROut.one {R:St→St→Prop} {ty e n:Nat} {fo:Nat→AV} {s t:St} {sv:AV} (h:ROut R ty e fo n s sv t):sv.one=true:=by rcases h.head with rfl | ⟨b,rfl⟩<;>rfl
theorem B4P {T:G9} {t:TypeId} {e b i o ty n:Nat} {u v:AV} {st:St} {k:KK} {r:D3} {f:Nat→AV} (h:st b=some ⟨ty,e,n,f⟩) (hr:T t=some r) (h1:r.size=1) (hi:i<n) (hv:f i=v) (hu:u.one=true) (ho:o+1≤e)
  (hk:k (.tuple []) (upd st b ⟨ty,e,n,G6 f i (M9 v o [u])⟩)):C3v T t e b i o u st k:=by
 have hc:cellsOf u=[u]:=by cases u<;>first | rfl | cases hu
 refine J7 h hr hi hv ?_ (by rw [hc];exact hk)
 rw [hc,h1]
 show (true&&true&&(u.one&&true)&&Nat.ble (o+1) e)=true
 rw [hu,show Nat.ble (o+1) e=true by rw [Nat.ble_eq];exact ho];rfl
def A2T (R0:St→St→Prop) (ty e:Nat) (F:Nat→Nat→AV) (len:Nat→Nat) (sv:Nat→AV):Nat→St→St→Prop
 | 0=>R0
 | k+1=>fun s t=>ROut (A2T R0 ty e F len sv k) ty e (F k) (len k) s (sv k) t
section
variable {R0:St→St→Prop} {ty e:Nat} {F:Nat→Nat→AV} {len:Nat→Nat}
theorem A1s (hR:H2 R0) (sv:Nat→AV):∀ k,H2 (A2T R0 ty e F len sv k)
 | 0=>hR
 | k+1=>N2 (A1s hR sv k) _ _ _ _ _
theorem A6K {sv sv':Nat→AV}:∀ (k:Nat) {s t:St},(∀ j,j<k→sv j=sv' j)→A2T R0 ty e F len sv k s t→A2T R0 ty e F len sv' k s t
 | 0,s,t,_,h=>h
 | k+1,s,t,he,h=>by
  obtain ⟨s0,h1,h2⟩:=h
  rw [he k (Nat.lt_succ_self k)] at h1
  exact ⟨s0,h1,A6K k (fun j hj=>he j (Nat.lt_succ_of_lt hj)) h2⟩
theorem B3z (hR:H2 R0) {sv:Nat→AV} {k:Nat} {s t t':St} {v:AV} (h:A2T R0 ty e F len sv k s t) (hc:H9 ty e (F k) t (len k) v t'):A2T R0 ty e F len (fun j=>if j=k then v else sv j) (k+1) s t':=by
 have h':=A6K (sv':=fun j=>if j=k then v else sv j) k (fun j hj=>by rw [if_neg (by omega)]) h
 have e:(fun j=>if j=k then v else sv j) k=v:=if_pos rfl
 show ROut _ _ _ _ _ _ ((fun j=>if j=k then v else sv j) k) _
 rw [e]
 exact ROut.ofCol (A1s hR _ k) h' hc
theorem A6L {sv:Nat→AV}:∀ (k:Nat) {s t:St},A2T R0 ty e F len sv k s t→∃ s',R0 s' t∧∀ t',R0 s' t'→A2T R0 ty e F len sv k s t'
 | 0,s,t,h=>⟨s,h,fun _ h'=>h'⟩
 | k+1,s,t,h=>by
  obtain ⟨s0,h1,h2⟩:=h
  obtain ⟨s',h3,h4⟩:=A6L k h2
  exact ⟨s',h3,fun t' h'=>⟨s0,h1,h4 t' h'⟩⟩
theorem B6W (hR:H2 R0) {bz n tz eo:Nat} {sv:Nat→AV} {pre post:Nat→List AV}:∀ (k:Nat) (s t:St) (g:Nat→AV),k≤n→A2T R0 ty e F len sv k s t→s bz=some ⟨tz,eo,n,g⟩→(∀ j,j<k→g j=.agg (pre j++sv j::post j)) →
  ∃ t' g',(∀ vs,B4 vs t vs t')∧R0 (upd s bz ⟨tz,eo,n,g'⟩) t'∧(∀ j,j<k→g' j=.agg (pre j++.arr e (len j) (F j)::post j))∧∀ j,k≤j→g' j=g j
 | 0,s,t,g,hk,h,hs,hg=>by
  refine ⟨t,g,fun vs=>B4.refl _ _,?_,fun j hj=>absurd hj (by omega),fun j _=>rfl⟩
  rw [B4Y hs];exact h
 | k+1,s,t,g,hk,h,hs,hg=>by
  have hB:=A1s (ty:=ty) (e:=e) (F:=F) (len:=len) hR sv k
  have ht:t bz=some ⟨tz,eo,n,g⟩:=(A1s hR sv (k+1)).sup h _ _ hs
  obtain ⟨t1,hsh,hc⟩:=ROut.shift hB h
  have ht1:t1 bz=some ⟨tz,eo,n,g⟩:=hB.sup hc _ _ hs
  have hcell:=fun vs=>B4.cell (vs:=vs) (pre:=pre k) (post:=post k) hsh ht ht1 (show k<n by omega) (hg k (by omega)) rfl
  have hc':=hB.write (y':=⟨tz,eo,n,G6 g k (.agg (pre k++AV.arr e (len k) (F k)::post k))⟩) hc hs
  obtain ⟨t',g',k1,k2,k3,k4⟩:=B6W hR (pre:=pre) (post:=post) k _ _ _ (by omega) hc' (A0 ..) (fun j hj=>by rw [F4 (by omega)];exact hg j (by omega))
  rw [B8] at k2
  refine ⟨t',g',fun vs=>(hcell vs).trans (k1 vs),k2,fun j hj=>?_,fun j hj=>?_⟩
  ·by_cases e':j=k
   ·subst e';rw [k4 j (Nat.le_refl _),A5]
   ·exact k3 j (by omega)
  ·rw [k4 j (by omega),F4 (by omega)]
end
abbrev Sm (n:Nat):Prop:=n≤9223372036854775807
theorem A2N (s:E0) (hs:Sm s.size) (st:St):S P 120 [eS s] st fun v st'=>v=.bool (F1 s)∧st'=st:=by
 refine A7 [] C0 mixed Tryz.func120 (by rfl) rfl rfl rfl ?_;conv=>whnf
 refine lp s.size [0,3] (fun i vs st'=>(∀ k,k<i→okc (chr s k)=true)∧vs=[eS s,eI i]∧st'=st) ?_ ?_
 ·conv=>whnf
  exact ⟨fun k hk=>absurd hk (by omega),rfl,rfl⟩
 ·rintro i vs st' hi ⟨hok,rfl,rfl⟩
  conv=>whnf
  cases h:decide ((i:Int)<(s.size:Int))
  ·obtain rfl:=D7 h hi
   have e:F1 s=(decide ((s.size:Int)≥1)&&decide ((s.size:Int)≤12)):=by
    unfold F1
    rw [A5q hok,Bool.and_true]
    congr 1<;>exact decide_eq_decide.2 (by omega)
   rw [e];conv=>whnf
   refine C4 (fun h1=>?_) (fun h1=>?_)<;>rw [h1]<;>(conv=>whnf)<;>exact ⟨rfl,rfl⟩
  ·have hi':=H0 h
   have no:okc (chr s i)=false→F1 s=false:=fun h=>by unfold F1;rw [A3n hi' h,Bool.and_false]
   have yes:okc (chr s i)=true→∀ k,k<i+1→okc (chr s k)=true:=fun h=>L9 hok h
   conv=>whnf
   refine C2v (i:=i) rfl hi' ?_
   generalize chr s i=c at *
   repeat' ((conv=>whnf);refine C4 (fun h=>?_) (fun h=>?_)<;>rw [h])
   all_goals (conv=>whnf)
   all_goals first
    | (refine ⟨?_,rfl⟩
       rw [no (by rw [←Bool.not_eq_true,A8I];simp only [Bool.not_eq_true',Bool.not_eq_false',beq_iff_eq,beq_eq_false_iff_ne,ne_eq,decide_eq_true_eq,decide_eq_false_iff_not] at *;omega)]
       rfl)
    | (refine ⟨rfl,?_⟩
       conv=>whnf
       exact nx hi' ⟨yes ((A8I c).2 (by simp only [Bool.not_eq_true',Bool.not_eq_false',beq_iff_eq,beq_eq_false_iff_ne,ne_eq,decide_eq_true_eq,decide_eq_false_iff_not] at *;omega)),by rw [C2 (by omega)],rfl⟩)
theorem A1L (x m:Int) (st:St):S P 158 [eI x,eI m] st fun v st'=>v=.bool (Q6 0 m x)∧st'=st:=by
 refine A7 [] C0 mixed Tryz.func158 (by rfl) rfl rfl rfl ?_;conv=>whnf
 unfold Q6
 refine C4 (fun h=>?_) (fun h=>?_)<;>rw [h]<;>(conv=>whnf)<;>exact ⟨rfl,rfl⟩
theorem B6e (l:List E0) (s:E0) (hl:Sm l.length) (st:St):S P 162 [D6 l,eS s] st fun v st'=>v=.bool (l.any fun y=>y.toList==s.toList)∧st'=st:=by
 refine A7 [] C0 mixed Tryz.func162 (by rfl) rfl rfl rfl ?_;conv=>whnf
 refine lp l.length [0,1,5] (fun i vs st'=>(∀ k,k<i→((l.getD k default).toList==s.toList)=false)∧vs=[D6 l,eS s,eI i]∧st'=st) ?_ ?_
 ·conv=>whnf
  exact ⟨fun k hk=>absurd hk (by omega),rfl,rfl⟩
 ·rintro i vs st' hi ⟨hok,rfl,rfl⟩
  conv=>whnf
  cases h:decide ((i:Int)<(l.length:Int))
  ·obtain rfl:=D7 h hi
   conv=>whnf
   refine ⟨?_,rfl⟩
   rw [List.any_eq_false.2 fun x hx=>by obtain ⟨k,hk,rfl⟩:=F2 hx;rw [hok k hk];simp];rfl
  ·have hi':=H0 h
   conv=>whnf
   refine ⟨rfl,⟨by omega,by omega⟩,?_⟩;conv=>whnf
   cases h1:((l.getD (i:Int).toNat default).toList==s.toList)
   ·conv=>whnf
    refine ⟨rfl,?_⟩;conv=>whnf
    exact nx hi' ⟨L9 hok h1,by rw [C2 (by omega)],rfl⟩
   ·conv=>whnf
    refine ⟨?_,rfl⟩
    rw [List.any_eq_true.2 ⟨_,B5 hi',h1⟩];rfl
theorem B7q (a b:E0):(Op.bytesLess a.toList b.toList||a.toList==b.toList)=!slt b a:=by
 show (slt a b||_)=_
 cases h:slt a b with
 | true=>rw [A5B h];rfl
 | false =>
  cases h2:slt b a with
  | true =>
   rw [Bool.false_or,Bool.not_true,beq_eq_false_iff_ne]
   intro e
   rw [B1C e.symm e,h] at h2;cases h2
  | false=>rw [Bool.false_or,beq_iff_eq.2 (A5C h h2)];rfl
theorem B0c (l:List E0) (m:Int) (hl:Sm l.length) (hs:∀ s∈l,Sm s.size) (st:St):S P 160 [D6 l,eI m] st fun v st'=>v=.bool (A0b l&&decide ((l.length:Int)≤m))∧st'=st:=by
 have hN:A0b l=J1 l fun k x=>F1 x&&L6 l k:=by
  unfold A0b Y2 J1
  rw [←Bool.coe_iff_coe]
  simp only [Bool.and_eq_true,List.all_eq_true,List.mem_range,Bool.not_eq_true',List.any_eq_false,Bool.not_eq_true,Bool.not_eq_false']
  exact ⟨fun ⟨a,b⟩ k hk=>⟨Bool.not_eq_false _▸b _ (B5 hk),a k hk⟩,fun h=>⟨fun k hk=>(h k hk).2,fun x hx=>by obtain ⟨k,hk,rfl⟩:=F2 hx;rw [(h k hk).1];simp⟩⟩
 rw [hN]
 refine A7 [] C0 mixed Tryz.func160 (by rfl) rfl rfl rfl ?_;conv=>whnf
 refine lp l.length [0,1,5] (fun i vs st'=>(∀ k,k<i→(F1 (l.getD k default)&&L6 l k)=true)∧vs=[D6 l,eI m,eI i]∧st'=st) ?_ ?_
 ·conv=>whnf
  exact ⟨fun k hk=>absurd hk (by omega),rfl,rfl⟩
 ·rintro i vs st' hi ⟨hok,rfl,rfl⟩
  conv=>whnf
  cases h:decide ((i:Int)<(l.length:Int))
  ·obtain rfl:=D7 h hi
   conv=>whnf
   rw [J2 hok]
   exact ⟨rfl,rfl⟩
  ·have hi':=H0 h
   have yes:(F1 (l.getD (i:Int).toNat default)&&L6 l i)=true→∀ k,k<i+1→(F1 (l.getD k default)&&L6 l k)=true:=fun h=>L9 hok h
   have no:(F1 (l.getD (i:Int).toNat default)&&L6 l i)=false→(J1 l fun k x=>F1 x&&L6 l k)=false:=fun h=>T3 hi' h
   conv=>whnf
   refine ⟨[],[],List.range 22,by kernel_rfl,?_⟩;conv=>whnf
   refine ⟨rfl,⟨by omega,by omega⟩,?_⟩;conv=>whnf
   have n1:=A2N (l.getD (i:Int).toNat default) (hs _ (B5 hi')) st'
   generalize F1 (l.getD (i:Int).toNat default)=b1 at n1 no yes
   refine ⟨_,D2 n1,?_⟩;conv=>whnf
   cases b1
   ·conv=>whnf
    rw [no rfl]
    exact ⟨rfl,rfl⟩
   ·rw [Bool.true_and] at no yes;conv=>whnf
    cases h2:decide ((i:Int)>0)
    ·have h0:i=0:=by have:=of_decide_eq_false h2;omega
     conv=>whnf
     refine ⟨rfl,?_⟩;conv=>whnf
     exact nx hi' ⟨yes (by rw [h0];rfl),by rw [C2 (by omega)],rfl⟩
    ·have hp:0<i:=by have:=of_decide_eq_true h2;omega
     have hw:IntKind.i64.wrap ((i:Int) - 1)=((i - 1:Nat):Int):=by rw [A8 (by omega) (by omega)];omega
     have e:L6 l i=!(Op.bytesLess (l.getD (i:Int).toNat default).toList (l.getD ((i - 1:Nat):Int).toNat default).toList||(l.getD (i:Int).toNat default).toList==(l.getD ((i - 1:Nat):Int).toNat default).toList):=by
      rw [B7q,Bool.not_not]
      unfold L6
      rw [Int.toNat_natCast,Int.toNat_natCast,beq_false_of_ne (by omega),Bool.false_or]
     rw [e] at yes no;conv=>whnf
     refine ⟨rfl,⟨by omega,by omega⟩,?_⟩;conv=>whnf
     rw [hw]
     refine ⟨rfl,⟨by omega,by omega⟩,?_⟩;conv=>whnf
     generalize (Op.bytesLess (l.getD (i:Int).toNat default).toList (l.getD ((i - 1:Nat):Int).toNat default).toList||(l.getD (i:Int).toNat default).toList==(l.getD ((i - 1:Nat):Int).toNat default).toList)=b at *
     cases b
     ·conv=>whnf
      refine ⟨rfl,?_⟩;conv=>whnf
      exact nx hi' ⟨yes rfl,by rw [C2 (by omega)],rfl⟩
     ·conv=>whnf
      rw [no rfl]
      exact ⟨rfl,rfl⟩
structure A0J (s:O5):Prop where
 n1:Sm s.skus.length
 n2:Sm s.cats.length
 s1:∀ x∈s.skus,Sm x.size
 s2:∀ x∈s.cats,Sm x.size
theorem B4z (s:O5) (h:A0J s) (st:St):S P 303 [J8 s] st fun v st'=>v=.bool (Y3 s)∧st'=st:=by
 refine A7 [1] C0 mixed Tryz.func303 (by rfl) rfl rfl rfl ?_;conv=>whnf
 refine B3 (B0c s.skus 20 h.n1 h.s1 st) ?_
 have e:Y3 s=((A0b s.skus&&decide ((s.skus.length:Int)≤20))&&(A0b s.cats&&decide ((s.cats.length:Int)≤20))):=by
  unfold Y3
  rw [Bool.and_comm (decide _),Bool.and_comm (decide (s.cats.length≤20))]
  rw [show decide ((s.skus.length:Int)≤20)=decide (s.skus.length≤20) from decide_eq_decide.2 (by omega),show decide ((s.cats.length:Int)≤20)=decide (s.cats.length≤20) from decide_eq_decide.2 (by omega)]
 rw [e]
 cases (A0b s.skus&&decide ((s.skus.length:Int)≤20))
 ·conv=>whnf
  exact ⟨rfl,rfl⟩
 ·conv=>whnf
  refine B3 (B0c s.cats 20 h.n2 h.s2 st) ?_;conv=>whnf
  exact ⟨rfl,rfl⟩
theorem B7l (l:List Ab.Item) (s:E0) (hl:Sm l.length) (st:St):S P 109 [B1 4 E5 l,eS s] st fun v st'=>v=eI (X5 l s)∧st'=st:=by
 refine A7 [] C0 mixed Tryz.func109 (by rfl) rfl rfl rfl ?_;conv=>whnf
 refine lp l.length [0,1,5] (fun i vs st'=>(∀ k,k<i→((l.getD k default).sku.toList==s.toList)=false)∧vs=[B1 4 E5 l,eS s,eI i]∧st'=st) ?_ ?_
 ·conv=>whnf
  exact ⟨fun k hk=>absurd hk (by omega),rfl,rfl⟩
 ·rintro i vs st' hi ⟨hok,rfl,rfl⟩
  conv=>whnf
  cases h:decide ((i:Int)<(l.length:Int))
  ·obtain rfl:=D7 h hi
   conv=>whnf
   exact ⟨by rw [show X5 l s = -1 from R5 fun k hk=>hok k hk];rfl,rfl⟩
  ·have hi':=H0 h
   conv=>whnf
   refine ⟨rfl,⟨by omega,by omega⟩,?_⟩;conv=>whnf
   refine C4 (fun h1=>?_) (fun h1=>?_)<;>rw [h1]
   ·conv=>whnf
    exact ⟨by rw [show X5 l s=i from A1h hi' hok h1];rfl,rfl⟩
   ·conv=>whnf
    refine ⟨rfl,?_⟩;conv=>whnf
    exact nx hi' ⟨L9 hok h1,by rw [C2 (by omega)],rfl⟩
theorem B2K {L:List E0} {i:Nat} (hp:0<i):L6 L i=!(Op.bytesLess (L.getD i default).toList (L.getD (i - 1) default).toList||(L.getD i default).toList==(L.getD (i - 1) default).toList):=by
 rw [B7q,Bool.not_not]
 unfold L6
 rw [beq_false_of_ne (by omega),Bool.false_or]
theorem A5V {i:Nat} (h:0<i) (h2:i<9223372036854775807):IntKind.i64.wrap ((i:Int) - 1)=((i - 1:Nat):Int):=by rw [A8 (by omega) (by omega)];omega
def A4D (l:List Ab.Item) (k:Nat) (x:Ab.Item):Bool:=F1 x.sku&&F1 x.cat&&Q6 0 1000000000 x.price&&L6 (l.map Ab.Item.sku) k
theorem C0L (l:List Ab.Item) (hl:Sm l.length) (hs:∀ x∈l,Sm x.sku.size∧Sm x.cat.size) (st:St):S P 155 [B1 4 E5 l] st fun v st'=>v=.bool (A0q l)∧st'=st:=by
 have hN:A0q l=(J1 l (A4D l)&&decide ((l.length:Int)≤500)):=by
  unfold A0q J1 Y2 A4D A3l Q6
  rw [List.length_map,←Bool.coe_iff_coe]
  simp only [Bool.and_eq_true,List.all_eq_true,List.mem_range,Bool.not_eq_true',Bool.or_eq_false_iff,Bool.not_eq_false',decide_eq_true_eq,decide_eq_false_iff_not]
  constructor
  ·rintro ⟨h1,h2,h3⟩
   exact ⟨fun k hk=>⟨⟨⟨(h2 k hk).1.1.1,(h2 k hk).1.1.2⟩,by have:=(h2 k hk).1.2;have:=(h2 k hk).2;omega⟩,h3 k hk⟩,by omega⟩
  ·rintro ⟨h1,h2⟩
   exact ⟨by omega,fun k hk=>⟨⟨⟨(h1 k hk).1.1.1,(h1 k hk).1.1.2⟩,by have:=(h1 k hk).1.2;omega⟩,by have:=(h1 k hk).1.2;omega⟩,fun k hk=>(h1 k hk).2⟩
 rw [hN]
 refine A7 [] C0 mixed Tryz.func155 (by rfl) rfl rfl rfl ?_;conv=>whnf
 refine lp l.length [0,3] (fun i vs st'=>(∀ k,k<i→A4D l k (l.getD k default)=true)∧vs=[B1 4 E5 l,eI i]∧st'=st) ?_ ?_
 ·conv=>whnf
  exact ⟨fun k hk=>absurd hk (by omega),rfl,rfl⟩
 ·rintro i vs st' hi ⟨hok,rfl,rfl⟩
  conv=>whnf
  cases h:decide ((i:Int)<(l.length:Int))
  ·obtain rfl:=D7 h hi
   conv=>whnf
   rw [J2 hok]
   exact ⟨rfl,rfl⟩
  ·have hi':=H0 h
   have yes:A4D l i (l.getD (i:Int).toNat default)=true→∀ k,k<i+1→A4D l k (l.getD k default)=true:=fun h=>L9 hok h
   have no:A4D l i (l.getD (i:Int).toNat default)=false→J1 l (A4D l)=false:=fun h=>T3 hi' h
   have hm:=hs _ (B5 hi')
   have n1:=A2N (l.getD (i:Int).toNat default).sku hm.1 st'
   have n2:=A2N (l.getD (i:Int).toNat default).cat hm.2 st'
   have n3:=A1L (l.getD (i:Int).toNat default).price 1000000000 st'
   have e:0<i→L6 (l.map Ab.Item.sku) i=!(Op.bytesLess (l.getD i default).sku.toList (l.getD (i - 1) default).sku.toList||(l.getD i default).sku.toList==(l.getD (i - 1) default).sku.toList):=fun hp=>by
    rw [B2K hp]
    have e1:(l.map Ab.Item.sku).getD i default=(l.getD i default).sku:=E2 Ab.Item.sku l hi'
    have e2:(l.map Ab.Item.sku).getD (i - 1) default=(l.getD (i - 1) default).sku:=E2 Ab.Item.sku l (by omega)
    rw [e1,e2]
   have e0:i=0→L6 (l.map Ab.Item.sku) i=true:=fun h=>by rw [h];rfl
   rw [show A4D l i (l.getD (i:Int).toNat default)=(F1 (l.getD (i:Int).toNat default).sku&&F1 (l.getD (i:Int).toNat default).cat&&Q6 0 1000000000 (l.getD (i:Int).toNat default).price&&L6 (l.map Ab.Item.sku) i) from rfl] at yes no
   generalize F1 (l.getD (i:Int).toNat default).sku=b1 at n1 yes no
   generalize F1 (l.getD (i:Int).toNat default).cat=b2 at n2 yes no
   generalize Q6 0 1000000000 (l.getD (i:Int).toNat default).price=b3 at n3 yes no
   conv=>whnf
   refine ⟨[],[],List.range 43,by kernel_rfl,?_⟩
   cases h0:decide ((i:Int)>0)
   ·have h0':i=0:=by have:=of_decide_eq_false h0;omega
    replace e:=e0 h0'
    repeat' ((conv=>whnf);first | refine ⟨rfl,⟨by omega,by omega⟩,?_⟩ | refine ⟨_,D2 n1,?_⟩ | refine ⟨_,D2 n2,?_⟩ | refine ⟨_,D2 n3,?_⟩ | rw [h0] | cases b1 | cases b2 | cases b3)
    all_goals (conv=>whnf)
    all_goals first
     | (rw [no (by rfl)];exact ⟨rfl,rfl⟩)
     | (refine ⟨rfl,?_⟩;conv=>whnf
        exact nx hi' ⟨yes (by rw [e];rfl),by rw [C2 (by omega)],rfl⟩)
   ·have h0':0<i:=by have:=of_decide_eq_true h0;omega
    replace e:=e h0'
    have hw:=A5V h0' (by omega)
    repeat' ((conv=>whnf);first | refine ⟨rfl,⟨by omega,by omega⟩,?_⟩ | refine ⟨rfl,⟨by rw [hw];omega,by rw [hw];omega⟩,?_⟩ | refine ⟨_,D2 n1,?_⟩ | refine ⟨_,D2 n2,?_⟩ | refine ⟨_,D2 n3,?_⟩ | rw [h0] | cases b1 | cases b2 | cases b3 | refine C4 (fun h=>?_) (fun h=>?_))
    all_goals (conv=>whnf)
    all_goals first
     | (rw [no (by rfl)];exact ⟨rfl,rfl⟩)
     | (rw [hw] at h;rw [no (by rw [e];exact congrArg not h)];exact ⟨rfl,rfl⟩)
     | (rw [hw] at h;refine ⟨rfl,?_⟩;conv=>whnf
        exact nx hi' ⟨yes (by rw [e];exact congrArg not h),by rw [C2 (by omega)],rfl⟩)
end Go.Proofs.YtbajhapmlfbelaaGreat
namespace Go.Proofs.YtbajhapmlfbelaaGreat
open Go Go.Ab Go.Proofs Go.Sort Go.Lib
attribute [local irreducible] upd del
def scF (x:Nat):Nat:=match x with
 | 43=>243
 | n=>n
def scT (x:Nat):Nat:=match x with
 | 22=>29
 | 23=>3
 | 0=>0
 | 3=>3
 | 4=>4
 | n=>n
def C6O:Go.Shelf.Ren:={ f:=scF,t:=scT,g:=fun n=>n }
theorem C3I:SlLaysE.n43 Tryz.prog C6O where
 mixed:=by kernel_rfl
 f43 := ⟨"slices.Compact[[]int,int]", by decide, Tryz.func243.trans (congrArg some (by kernel_rfl))⟩
 t0:=Tryz.underlying0
 a0:=Tryz.isAgg0
 z0:=Tryz.sizeOf0
 v0:=Tryz.zeroValue0
 t3:=Tryz.underlying3
 a3:=Tryz.isAgg3
 z3:=Tryz.sizeOf3
 v3:=Tryz.zeroValue3
 t4:=Tryz.underlying4
 a4:=Tryz.isAgg4
 z4:=Tryz.sizeOf4
 v4:=Tryz.zeroValue4
 t22:=Tryz.underlying29
 a22:=Tryz.isAgg29
 z22:=Tryz.sizeOf29
 v22:=Tryz.zeroValue29
 a23:=Tryz.isAgg3
 z23:=Tryz.sizeOf3
def U3 (l:List Int):List Int:=compactUpTo l.toArray l.length
def A6N (l:List Int):List Int:=U3 l++List.replicate (l.length - (U3 l).length) 0
theorem A7B (l:List Int):(U3 l).length≤l.length:=by
 unfold U3 compactUpTo
 rw [List.length_map]
 exact Nat.le_trans (List.length_filter_le ..) (by simp)
theorem B1g (l:List Int):(A6N l).length=l.length:=by
 have:=A7B l
 unfold A6N;rw [List.length_append,List.length_replicate];omega
def A4V (l':List Int):Q3:=⟨3,1,l'.length,fun k=>eI (gI l' k)⟩
theorem C2U {st:St} {w:World} {b n:Nat} {l l':List Int} (hl:l'.length=l.length) (hb:A0c st b l) (hS:H4 st w) :
  Z6 st w (upd st b (A4V l')) (putRow (Value.int .i64) (Sort.ahead w n) b 0 l'.toArray)∧H4 (upd st b (A4V l')) (putRow (Value.int .i64) (Sort.ahead w n) b 0 l'.toArray):=by
 obtain ⟨f,hst,hf⟩:=hb
 obtain ⟨cs,hok⟩:=hS b _ hst
 have hbl:b<w.heap.size:=(Array.getElem?_eq_some_iff.1 hok.heap).1
 have hsz:l.length * 1≤cs.size:=hok.size
 have hheap:∀ c,c<w.heap.size→(putRow (Value.int .i64) (Sort.ahead w n) b 0 l'.toArray).heap[c]?=if b=c then some (.cells (putCells (Value.int .i64) 0 l'.toArray cs) 3 (0,0)) else w.heap[c]?:=fun c hc=>by
  show (w.heap.modify b (onCells (putCells (Value.int .i64) 0 l'.toArray)))[c]?=_
  rw [Array.getElem?_modify]
  split
  ·rename_i e;subst e;rw [hok.heap];rfl
  ·rfl
 have hev:Z6 st w (upd st b (A4V l')) (putRow (Value.int .i64) (Sort.ahead w n) b 0 l'.toArray):=by
  refine ⟨rfl,rfl,rfl,?_,fun c hc hs=>?_,fun c=>?_⟩
  ·show w.heap.size≤(w.heap.modify b _).size
   simp
  ·have hne:b≠c:=fun e=>by subst e;rw [hst] at hs;cases hs
   rw [hheap c hc,if_neg hne]
   exact ⟨rfl,by rw [A9 hne.symm];exact hs⟩
  ·by_cases hc:c<w.heap.size
   ·unfold A1m
    rw [hheap c hc]
    by_cases e:b=c
    ·subst e
     rw [hok.heap,if_pos rfl]
     simp [putCells]
    ·rw [if_neg e];exact Nat.le_refl _
   ·unfold A1m
    rw [Array.getElem?_eq_none (by omega)]
    exact Nat.zero_le _
 refine ⟨hev,fun c x hx=>?_⟩
 by_cases e:c=b
 ·subst e
  rw [A0] at hx
  cases hx
  refine ⟨putCells (Value.int .i64) 0 l'.toArray cs,?_,?_,fun i hi=>rfl,fun i hi=>rfl,fun i j y hi hy=>?_⟩
  ·rw [hheap c hbl,if_pos rfl];rfl
  ·show l'.length * 1≤_
   rw [hl]
   simpa [putCells] using hsz
  ·have hi':i<l'.length:=hi
   cases j with
   | succ j=>simp [A4V,cellsOf] at hy
   | zero =>
    have hy':y=eI (gI l' i):=by simpa [A4V,cellsOf] using hy.symm
    subst hy'
    refine ⟨.int .i64 (gI l' i),?_,.int _ _⟩
    show (putCells (Value.int .i64) 0 l'.toArray cs)[i * 1+0]?=_
    unfold putCells
    rw [Array.getElem?_mapIdx,Nat.mul_one,Nat.add_zero,Array.getElem?_eq_getElem (by omega),Option.map_some]
    rw [if_pos ⟨by omega,by simp;omega⟩,Nat.sub_zero]
    have:l'.toArray[i]! = gI l' i:=by
     rw [getElem!_pos _ i (by simp;omega)]
     simp [gI,hi']
    rw [this]
 ·rw [A9 e] at hx
  obtain ⟨ds,hd⟩:=hS c x hx
  have hcl:c<w.heap.size:=(Array.getElem?_eq_some_iff.1 hd.heap).1
  exact ⟨ds,hd.evo hev (by rw [hheap c hcl,if_neg (fun e'=>e e'.symm)])⟩
theorem C4u:OneCell (Value.int .i64):=fun x=>rfl
theorem B7O (b:Nat) (l:List Int) (hl:l.length≤4611686018427387904) (st:St) (hb:A0c st b l) :
  S P 243 [.own 1 b 0 l.length] st fun v st'=>v=.own 1 b 0 (U3 l).length∧st'=upd st b (A4V (A6N l)):=by
 refine ⟨C3I.f43.enters rfl,fun cargs w hr hS=>?_⟩
 obtain ⟨hlen,hr⟩:=hr
 have hb':=hb
 obtain ⟨f,hst,hf⟩:=hb'
 obtain ⟨cs,hok⟩:=hS b _ hst
 have h0:0<cargs.size:=by rw [←hlen];exact Nat.one_pos
 have ha:=hr 0 _ cargs[0] rfl (Array.getElem?_eq_getElem h0)
 have hc:∃ c,l.length≤c∧c≤A1m w b∧cargs=#[.slice (some ⟨b,0,none⟩) l.length c]:=by
  generalize hv:cargs[0]=v at ha
  cases ha with
  | own e b off n c hc hs =>
   refine ⟨c,hc,by simpa using hs,Array.ext (by rw [←hlen];rfl) fun i h1 h2=>?_⟩
   have:i=0:=by simp at h2;exact h2
   subst this;rw [hv];rfl
 obtain ⟨c,hlc,hcs,rfl⟩:=hc
 have hH:Holds (Value.int .i64) w b 0 l.toArray:=fun j hj=>by
  have hj':j<l.length:=by simpa using hj
  obtain ⟨x,hx,hrep⟩:=hok.cell j 0 (eI (gI l j)) hj' (by show (cellsOf (f j))[0]?=_;rw [hf j hj'];rfl)
  have hxx:x=.int .i64 (gI l j):=by cases hrep;rfl
  subst hxx
  have hg:l.toArray[j]! = gI l j:=by rw [getElem!_pos _ j (by simpa using hj')];simp [gI,hj']
  refine ⟨?_,?_⟩
  ·unfold World.cell?
   rw [hok.heap,hg]
   have:cs[j * 1+0]?=some (.int .i64 (gI l j)):=hx
   simpa using this
  ·unfold World.frozen?
   rw [hok.heap]
   simp
 have hcl:=A7B l
 have hK:=AnyE.slices_Compact C3I (Value.int .i64) C4u (EqlAt.intD P _ .i64) (NeqAt.intD P _ .i64) 0 Tryz.zeroValue3 b 0 c l.toArray w hH (by simp;omega) (by simpa using hlc)
 rw [show l.toArray.size=l.length from by simp] at hK
 refine hK.mono ?_
 rintro e w' ⟨rfl,n,rfl⟩
 obtain ⟨h1,h2⟩:=C2U (n:=n) (B1g l) hb hS
 refine ⟨.own 1 b 0 (U3 l).length,_,_,⟨rfl,rfl⟩,rfl,?_,h2,h1⟩
 have hr2:I9 w st (.own 1 b 0 (U3 l).length) (.slice (some ⟨b,0 * 1,none⟩) (U3 l).length c):=.own 1 b 0 _ c (Nat.le_trans hcl hlc) (by simpa using hcs)
 exact h1.rep hr2
theorem B5q (st:St):S P 243 [.emp] st fun v st'=>v=.emp∧st'=st:=by
 refine A7 [] C0 mixed Tryz.func243 (by rfl) rfl rfl rfl ?_;conv=>whnf
 exact ⟨rfl,rfl⟩
theorem C2o {l:List Int} {k:Nat} (h:k<(U3 l).length):gI (A6N l) k=gI (U3 l) k:=by
 unfold A6N;exact K5 h
end Go.Proofs.YtbajhapmlfbelaaGreat
namespace Go.Proofs.YtbajhapmlfbelaaGreat
open Go Go.Ab
attribute [local irreducible] upd del
def A0Z (us:List B7) (l:List Int):Int:=A6 (l.map fun i=>(gU us i.toNat).net)
theorem B1q {us:List B7} (hu:E6 us) {l:List Int} (hl:∀ k,k<l.length→0≤gI l k∧(gI l k).toNat<us.length) (hn:l.length≤800000) {i:Nat} (hi:i<l.length) :
  IntKind.i64.wrap (A0Z us (l.take i)+(gU us (gI l i).toNat).net)=A0Z us (l.take (i+1)):=by
 have hc:=A0y hu (l.take i) (fun x hx=>by obtain ⟨k,hk,rfl⟩:=F2 (List.take_subset _ _ hx);exact hl k hk)
 have h3:0≤(gU us (gI l i).toNat).net:=hu.pos _ (B5 (hl i hi).2)
 have h4:(gU us (gI l i).toNat).net≤10000000000000:=hu.le (B5 (hl i hi).2)
 have e:A0Z us (l.take (i+1))=A0Z us (l.take i)+(gU us (gI l i).toNat).net:=by
  unfold A0Z;rw [L2 hi,List.map_append,G5];simp [A6]
 have hcl:(l.take i).length≤800000:=by rw [List.length_take];omega
 have e2:H1 us (l.take i)=A0Z us (l.take i):=rfl
 rw [e]
 exact A8 (by omega) (by omega)
theorem C5v (bx:Nat) (items:List Ab.Item) (p:PSt) (hu:E6 p.us) (l:List Int) (hn:l.length≤800000) (hl:∀ k,k<l.length→0≤gI l k∧(gI l k).toNat<p.us.length) (s t:St) (h:PxR bx items p s t) :
  S P 240 [.optr 4 bx 0 0,B6 l] t fun v t'=>v=eI (A0Z p.us l)∧t'=t:=by
 obtain ⟨dv,gv,fx,hx,hx0,hdv,hgv⟩:=h.at
 refine A7 [] C0 mixed Tryz.func240 (by rfl) rfl rfl rfl ?_;conv=>whnf
 refine ⟨[0,5,8,9,10],fun m vs t'=>∃ i:Nat,i≤l.length∧m=l.length - i∧vs=[.optr 4 bx 0 0,eI (A0Z p.us (l.take i)),B6 l,eI l.length,eI i]∧t'=t,?_,?_⟩
 ·conv=>whnf
  exact ⟨_,0,Nat.zero_le _,rfl,rfl,rfl⟩
 ·rintro m vs t' ⟨i,hi,rfl,rfl,rfl⟩
  conv=>whnf
  cases h2:decide ((i:Int)<(l.length:Int))
  ·have:=of_decide_eq_false h2
   obtain rfl:i=l.length:=by omega
   rw [List.take_length];conv=>whnf
   exact ⟨rfl,rfl⟩
  ·have hi':i<l.length:=by have:=of_decide_eq_true h2;omega
   have hr:=hl i hi'
   conv=>whnf
   refine ⟨rfl,⟨by omega,by omega⟩,?_⟩;conv=>whnf
   refine E9 hx rfl (by omega) hx0 ?_;conv=>whnf
   refine ⟨rfl,⟨by show 0≤gI l i;exact hr.1,by show gI l i<(p.us.length:Int);have:=hr.2;have:=hr.1;omega⟩,?_⟩;conv=>whnf
   refine ⟨rfl,?_⟩;conv=>whnf
   exact ⟨l.length - (i+1),by omega,i+1,by omega,rfl,by rw [C2 (by omega),←B1q hu hl hn hi'];rfl,rfl⟩
theorem C4q (bx:Nat) (items:List Ab.Item) (p:PSt) (hu:E6 p.us) (l:List Int) (hn:l.length≤800000) (hl:∀ k,k<l.length→0≤gI l k∧(gI l k).toNat<p.us.length) (s t:St) (h:PxR bx items p s t)
  (b:Nat) (m0:Nat) (f:Nat→AV) (hm0:l.length≤m0) (hb:t b=some ⟨3,1,m0,f⟩) (hf:∀ k,k<l.length→f k=eI (gI l k)) :
  S P 240 [.optr 4 bx 0 0,.own 1 b 0 l.length] t fun v t'=>v=eI (A0Z p.us l)∧t'=t:=by
 obtain ⟨dv,gv,fx,hx,hx0,hdv,hgv⟩:=h.at
 refine A7 [] C0 mixed Tryz.func240 (by rfl) rfl rfl rfl ?_;conv=>whnf
 refine ⟨[0,5,8,9,10],fun m vs t'=>∃ i:Nat,i≤l.length∧m=l.length - i∧vs=[.optr 4 bx 0 0,eI (A0Z p.us (l.take i)),.own 1 b 0 l.length,eI l.length,eI i]∧t'=t,?_,?_⟩
 ·conv=>whnf
  exact ⟨_,0,Nat.zero_le _,rfl,rfl,rfl⟩
 ·rintro m vs t' ⟨i,hi,rfl,rfl,rfl⟩
  conv=>whnf
  cases h2:decide ((i:Int)<(l.length:Int))
  ·have:=of_decide_eq_false h2
   obtain rfl:i=l.length:=by omega
   rw [List.take_length];conv=>whnf
   exact ⟨rfl,rfl⟩
  ·have hi':i<l.length:=by have:=of_decide_eq_true h2;omega
   have hr:=hl i hi'
   conv=>whnf
   refine ⟨rfl,⟨by omega,by omega⟩,?_⟩;conv=>whnf
   refine E9 hb rfl (by omega) (v:=eI (gI l i)) (by rw [show 0+(i:Int).toNat=i by omega];exact hf i hi') ?_;conv=>whnf
   refine E9 hx rfl (by omega) hx0 ?_;conv=>whnf
   refine ⟨rfl,⟨by show 0≤gI l i;exact hr.1,by show gI l i<(p.us.length:Int);have:=hr.2;have:=hr.1;omega⟩,?_⟩;conv=>whnf
   refine ⟨rfl,?_⟩;conv=>whnf
   exact ⟨l.length - (i+1),by omega,i+1,by omega,rfl,by rw [C2 (by omega),←B1q hu hl hn hi'],rfl⟩
def A0Q (p:PSt) (pr:B2) (off:Int):PSt:=⟨p.us,p.deals++[⟨pr.id,off⟩],p.groups++(if K1 pr.group=true then [] else [pr.group])⟩
theorem A0g {α : Type} [Inhabited α] {a b:List α} {k:Nat} (h:k<a.length):(a++b).getD k default=a.getD k default:=by
 rw [List.getD_eq_getElem?_getD,List.getD_eq_getElem?_getD,List.getElem?_append_left h]
theorem A6T {α : Type} [Inhabited α] (a:List α) (x : α):(a++[x]).getD a.length default=x:=by
 simp [List.getD_eq_getElem?_getD]
theorem RD.at {bx:Nat} {dl:List A1P} {gr:List E0} {dv gv:AV} {s t:St} {f:Nat→AV} (h:RD dl gr dv gv (upd s bx ⟨147,4,1,f⟩) t):t bx=some ⟨147,4,1,f⟩:=(A2F _ _ _ _).sup h bx _ (A0 ..)
theorem RD.put {bx:Nat} {dl:List A1P} {gr:List E0} {dv gv:AV} {s t:St} {f f':Nat→AV} (h:RD dl gr dv gv (upd s bx ⟨147,4,1,f⟩) t):RD dl gr dv gv (upd s bx ⟨147,4,1,f'⟩) (upd t bx ⟨147,4,1,f'⟩):=by
 have:=(A2F dl gr dv gv).write (y':=⟨147,4,1,f'⟩) h (A0 ..)
 rw [B8] at this;exact this
theorem RD.of {dl:List A1P} {gr:List E0} {dv gv:AV} {s t:St} {d:A1P} (h:ROut (RG gr gv) 134 2 (A0N (dl++[d])) (dl.length+1) s dv t):RD (dl++[d]) gr dv gv s t:=by
 unfold RD;rw [List.length_append];exact h
theorem RD.grp {K:KK} {X:Prop} {dl:List A1P} {gr:List E0} {dv gv:AV} {s t:St} (h:RD dl gr dv gv s t) (g:E0)
  (happ:∀ {s1:St},ROut F3 9 1 (A5Q (gr++[g])) gr.length s1 gv t→(∀ gv' t',ROut F3 9 1 (A5Q (gr++[g])) (gr.length+1) s1 gv' t'→K gv' t')→X)
  (hk:∀ gv' t',RD dl (gr++[g]) dv gv' s t'→(gv'=.emp∨∃ b,gv'=.own 1 b 0 (gr++[g]).length)→K gv' t'):X:=by
 obtain ⟨s1,hc,hg⟩:=h
 refine happ (s1:=s1) (hg.congr fun k hk=>by simp only [A5Q];rw [A0g hk]) (fun gv' t' hg'=>?_)
 have hg2:RG (gr++[g]) gv' s1 t':=by unfold RG;rw [List.length_append];exact hg'
 exact hk gv' t' ⟨s1,hc,hg2⟩ (ROut.head hg2)
theorem PxR.mk' {bx:Nat} {items:List Ab.Item} {p:PSt} {dv gv:AV} {s t:St} {f:Nat→AV} (hbx:s bx=none) (hf:f 0=.agg [B1 4 E5 items,C9 p.us,dv,gv]) (h:RD p.deals p.groups dv gv (upd s bx ⟨147,4,1,f⟩) t):PxR bx items p s t :=
 ⟨(dv,gv),hbx,_,⟨f,rfl,hf⟩,h⟩
theorem PxR.fin {bx:Nat} {items:List Ab.Item} {us:List B7} {dl:List A1P} {gr:List E0} {dv gv:AV} {s t:St} {f:Nat→AV} (hbx:s bx=none) (h:RD dl gr dv gv (upd s bx ⟨147,4,1,f⟩) t) (f':Nat→AV) (hf:f' 0=.agg [B1 4 E5 items,C9 us,dv,gv]) :
  PxR bx items ⟨us,dl,gr⟩ s (upd t bx ⟨147,4,1,f'⟩):=PxR.mk' hbx hf (RD.put h)
theorem B5R (bx:Nat) (items:List Ab.Item) (p:PSt) (pr:B2) (off:Int) (hd:p.deals.length≤1000) (hg:p.groups.length≤1000) (s t:St) (h:PxR bx items p s t) :
  S P 153 [.optr 4 bx 0 0,B9 pr,eI off] t fun v t'=>v=.tuple []∧PxR bx items (A0Q p pr off) s t':=by
 obtain ⟨⟨dv,gv⟩,hbx,y,⟨f,rfl,hf⟩,hRD⟩:=h
 simp only at hf hRD
 refine A7 [4] C0 mixed Tryz.func153 (by rfl) rfl rfl rfl ?_;conv=>whnf
 refine ⟨[10,13],[],[0,1,2,3,4,5,6,7,8,9,10,11,12,13],by kernel_rfl,?_⟩
 have hdv:dv=.emp∨∃ b,dv=.own 2 b 0 p.deals.length:=ROut.head hRD
 have hgv:gv=.emp∨∃ b,gv=.own 1 b 0 p.groups.length:=by obtain ⟨s0,hc,hgg⟩:=hRD;exact ROut.head hgg
 rcases hdv with rfl | ⟨bd,rfl⟩<;>rcases hgv with rfl | ⟨bg,rfl⟩
 all_goals
  conv=>whnf
  refine E9 hRD.at rfl (by omega) hf ?_;conv=>whnf
  refine ⟨_,⟨rfl,rfl⟩,?_⟩;conv=>whnf
  refine ROut.app (q:=C2L) (A6I _ _) rfl rfl rfl rfl rfl (f:=A0N (p.deals++[⟨pr.id,off⟩])) (by simp only [A0N,A6T];rfl) (by show (p.deals.length+1) * 24≤140737488355328;omega) (hRD.congr fun k hk=>by simp only [A0N];rw [A0g hk]) (fun dv' t2 hRD2=>?_)
  have hRD2':=RD.of hRD2
  rcases ROut.head hRD2' with rfl | ⟨bd',rfl⟩
  all_goals
   conv=>whnf
   refine J7 hRD2'.at rfl (by omega) hf (by rfl) ?_;conv=>whnf
   have hnil:(ByteArray.toList pr.group==ByteArray.toList ⟨#[]⟩)=K1 pr.group:=rfl
   rw [hnil]
   cases hgr:K1 pr.group
   ·conv=>whnf
    refine ⟨[8,11],[],[0,1,2,3,4,5,6,7,8,9,10,11],by kernel_rfl,?_⟩;conv=>whnf
    refine E9 (RD.put hRD2').at rfl (by omega) (by rw [A5]) ?_;conv=>whnf
    refine ⟨_,⟨rfl,rfl⟩,?_⟩;conv=>whnf
    refine RD.grp (RD.put hRD2') pr.group (fun happ=>ROut.app (q:=r9) C8 rfl rfl rfl rfl rfl (by simp only [A5Q,A6T];rfl) (by show (p.groups.length+1) * 16≤140737488355328;omega) happ) (fun gv' t4 hRD4 hh=>?_)
    rcases hh with rfl | ⟨bg',rfl⟩
    all_goals
     conv=>whnf
     refine J7 hRD4.at rfl (by omega) (by rw [A5]) (by rfl) ?_;conv=>whnf
     refine ⟨rfl,?_⟩
     unfold A0Q
     rw [hgr]
     exact PxR.fin hbx hRD4 _ (by rw [A5];rfl)
   ·conv=>whnf
    refine ⟨rfl,?_⟩
    unfold A0Q
    rw [hgr]
    simp only [if_true,List.append_nil]
    exact PxR.fin hbx hRD2' _ (by rw [A5];rfl)
end Go.Proofs.YtbajhapmlfbelaaGreat
namespace Go.Proofs.YtbajhapmlfbelaaGreat
open Go Go.Ab
theorem L4 {lo hi x:Int}:Q6 lo hi x=true↔lo≤x∧x≤hi:=by
 unfold Q6;simp only [Bool.and_eq_true,decide_eq_true_eq,ge_iff_le]
theorem B1a {α : Type} [Inhabited α] {l:List α} {p:Nat→α→Bool}:J1 l p=true↔∀ k,k<l.length→p k (l.getD k default)=true:=by
 unfold J1
 rw [List.all_eq_true]
 exact ⟨fun h k hk=>h k (List.mem_range.2 hk),fun h k hk=>h k (List.mem_range.1 hk)⟩
structure C1S (p:B2):Prop where
 kind:1≤p.kind∧p.kind<8
 skus:p.scope.skus.length≤20
 cats:p.scope.cats.length≤20
 least:0≤p.least∧p.least≤10000000000000
 buy:p.kind=3→A8P p
 bun:p.kind=4→A3d p∧∀ x∈p.parts,x.scope.skus.length≤20∧x.scope.cats.length≤20
 ask:O0 p→p.kind=1∨p.kind=2∨p.kind=5∨p.kind=6→A4p p
 ship:p.kind=7→1≤p.rate∧p.rate≤10000
theorem B8V {l:List Y8} (h:V0 l=true):A6D l:=by
 unfold V0 at h
 simp only [Bool.and_eq_true,Bool.not_eq_true',Bool.or_eq_false_iff,decide_eq_false_iff_not] at h
 refine ⟨by omega,fun t ht=>?_⟩
 obtain ⟨k,hk,rfl⟩:=F2 ht
 have h2:=B1a.1 h.2 k hk
 unfold A2Z at h2
 simp only [Bool.not_eq_true',Bool.or_eq_false_iff,decide_eq_false_iff_not] at h2
 omega
theorem A0U {p:B2} (h:G2 p=true):C1S p:=by
 have h0:=h
 unfold G2 at h
 simp only [Bool.and_eq_true,decide_eq_true_eq] at h
 obtain ⟨⟨⟨⟨hk1,hk2⟩,hh⟩,hp⟩,hkd⟩:=h
 have hl:=B1r hh
 simp only [A5R,Bool.and_eq_true,L4] at hh
 unfold A4K at hkd
 refine ⟨⟨hk1,hk2⟩,hl.1,hl.2,hh.2,fun e=>?_,fun e=>?_,fun hf e=>?_,fun e=>?_⟩
 ·rw [e] at hkd
  simp [A7b,A7c,L4] at hkd
  exact ⟨hkd.2.1,hkd.2.2,⟨by omega,hkd.1.2⟩⟩
 ·rw [e] at hkd
  simp only [show ¬(4:Int)=1 by decide,show ¬(4:Int)=2 by decide,show ¬(4:Int)=3 by decide,if_false,if_true] at hkd
  unfold A3R at hkd
  simp only [Bool.and_eq_true,Bool.not_eq_true',Bool.or_eq_false_iff,decide_eq_false_iff_not,List.any_eq_false] at hkd
  obtain ⟨⟨⟨⟨a1,a2⟩,a3⟩,a4⟩,a5⟩:=hkd
  have hpt:∀ x∈p.parts,A0i x=true:=fun x hx=>by simpa using a5 x hx
  refine ⟨⟨by omega,by omega,fun x hx=>?_,by omega,by omega⟩,fun x hx=>?_⟩
  ·have:=hpt x hx
   unfold A0i at this
   simp only [Bool.and_eq_true,Bool.not_eq_true',Bool.or_eq_false_iff,decide_eq_false_iff_not] at this
   omega
  ·have:=hpt x hx
   unfold A0i at this
   simp only [Bool.and_eq_true] at this
   exact B0f this.1
 ·refine ⟨hf,h0,e,fun e2=>?_,fun e2=>?_⟩
  ·rcases e2 with e2 | e2<;>rw [e2] at hkd<;>simp at hkd<;>exact B8V hkd
  ·rw [e2] at hkd
   simp [A7a,L4] at hkd
   omega
 ·rw [e] at hkd
  simp [A7c,L4] at hkd
  exact hkd
theorem B7i {p:B2} (hp:A4p p) {nets:List Int} (h0:∀ x∈nets,0≤x) (hs:A6 nets≤10000000000000) (hl:nets.length≤100000):∀ k,k<(L5 p nets).length→gI (L5 p nets) k≤gI nets k:=fun k hk=>by
 have hn:=D0 h0
 have hlen:=(A3Q hp h0 hs hl).2.1
 have hx:0≤gI nets k:=h0 _ (B5 (by omega))
 have hkn:k<nets.length:=by omega
 unfold L5 at hk ⊢
 have hmap:∀ (r a:Int),0≤a→gI (nets.map fun x=>O2 x r a) k≤gI nets k:=fun r a ha=>by
  rw [show gI (nets.map fun x=>O2 x r a) k=O2 (gI nets k) r a from E2 (fun x=>O2 x r a) nets hkn]
  exact (Y0 hx ha).2
 rcases hp.kind with e | e | e | e
 ·rw [if_pos e] at hk ⊢;exact hmap _ _ (Int.le_refl _)
 ·rw [if_neg (by omega),if_pos e] at hk ⊢;exact hmap _ _ (hp.amount e).1
 ·rw [if_neg (by omega),if_neg (by omega),if_pos e] at hk ⊢
  have hok:=Y1 (hp.tiers (.inl e)) (A6 nets)
  unfold A4f at hk ⊢
  split at hk
  ·simp at hk
  ·rename_i t hr
   rw [hr] at hok
   have hob:0≤O2 (A6 nets) t.rate t.amount∧O2 (A6 nets) t.rate t.amount≤A6 nets:=Y0 hn hok.1
   have hW:P5 (O2 (A6 nets) t.rate t.amount) nets:=⟨hob.1,by omega,hl,h0,by omega,fun e=>by omega⟩
   have hll:=(X8 hW).2.1
   exact A6g hW hob.2 (by omega)
 ·rw [if_neg (by omega),if_neg (by omega),if_neg (by omega)] at hk ⊢
  have hok:=Y1 (hp.tiers (.inr e)) nets.length
  unfold A4e at hk ⊢
  split at hk
  ·simp at hk
  ·rename_i t hr
   rw [hr] at hok
   exact hmap _ _ hok.1
theorem A6Z (us:List B7) (mine:List Int):E8 us mine=H6 us mine:=rfl
theorem B5j {p:B2} (hp:A4p p) {us:List B7} (hu:E6 us) {mine:List Int} (hm:K7 us mine):Off us (W9 p us mine).1 (W9 p us mine).2:=by
 have hnl:(E8 us mine).length=mine.length:=List.length_map ..
 have hml:=hm.len
 have hul:=hu.len
 have hn0:∀ x∈E8 us mine,0≤x:=fun x hx=>by
  obtain ⟨i,hi,rfl⟩:=List.mem_map.1 hx
  exact hu.at0 _
 have hwl:=B0t hu hm.places
 have hus:=hu.sum
 have hns:A6 (E8 us mine)≤10000000000000:=by rw [A6Z];omega
 obtain ⟨ob1,ob2,ob3⟩:=A3Q hp hn0 hns (by omega)
 have hle:=B7i hp hn0 hns (by omega)
 have h1:=A1z hu hm.places (offs:=L5 p (E8 us mine)) (by omega) (fun k hk=>⟨ob3 _ (B5 hk),by
  have:=hle k hk
  rw [show gI (E8 us mine) k=(gU us (gI mine k).toNat).net from E2 (fun i:Int=>(gU us i.toNat).net) mine (by omega)] at this
  exact this⟩) (L5 p (E8 us mine)).length (Nat.le_refl _)
 rw [List.take_length] at h1
 unfold W9
 simp only
 split
 ·have h2:=Off.closeB (h1.ok hu) mine (fun x hx=>by
   obtain ⟨k,hk,rfl⟩:=F2 hx
   rw [h1.len];exact (hm.rng k hk).2)
  have h3:=h1.trans h2
  rw [Int.add_zero] at h3;exact h3
 ·exact h1
end Go.Proofs.YtbajhapmlfbelaaGreat
namespace Go.Proofs.YtbajhapmlfbelaaGreat
open Go Go.Ab
attribute [local irreducible] upd del
theorem PxR.more {bx:Nat} {items:List Ab.Item} {p:PSt} {s t t':St} (h:PxR bx items p s t) (hs:F3 t t'):PxR bx items p s t':=by
 obtain ⟨v,h1,y,h2,s1,h3,s2,h4,h5⟩:=h
 exact ⟨v,h1,y,h2,s1,h3,s2,h4,h5.trans hs⟩
structure A5J (items:List Ab.Item) (us:List B7):Prop where
 ok:E6 us
 few:items.length≤100000
 line:∀ u∈us,0≤u.line∧u.line.toNat<items.length
theorem A5J.off {items:List Ab.Item} {us us':List B7} {x:Int} (h:A5J items us) (ho:Off us us' x):A5J items us' :=
 ⟨ho.ok h.ok,h.few,fun u hu=>by
  obtain ⟨k,hk,rfl⟩:=F2 hu
  have h1:=ho.line k
  have h2:=h.line (gU us k) (B5 (by rw [←ho.len];exact hk))
  show 0≤(gU us' k).line∧(gU us' k).line.toNat<items.length
  rw [h1];exact h2⟩
def A1q (items:List Ab.Item) (us:List B7) (pr:B2):List B7×Int :=
 if A0Z us (I3 pr.scope items us us.length)<pr.least then ([],0)
 else if pr.kind=3 then S9 pr us (I3 pr.scope items us us.length) else W9 pr us (I3 pr.scope items us us.length)
theorem C4c {P:Program} {f:FuncId} {args:List AV} {st st1:St} {v:AV} {K:KK} (h:S P f args st fun v' st'=>v'=v∧st'=st1) (hK:K v st1):A1B P f args st K:=call h fun v' st' ⟨e1,e2⟩=>by rw [e1,e2];exact hK
theorem C1e (bx:Nat) (items:List Ab.Item) (p:PSt) (pr:B2) (hfit:O0 pr) (hright:G2 pr=true) (hk:pr.kind≠4∧pr.kind≠7) (hu:A5J items p.us) (s t:St) (h:PxR bx items p s t) :
  S P 151 [.optr 4 bx 0 0,B9 pr] t fun v t'=>v=.tuple [C9 (A1q items p.us pr).1,eI (A1q items p.us pr).2]∧t'=t:=by
 have hok:=A0U hright
 have hm:=A0O pr.scope items p.us
 have hml:=hm.len
 have hul:=hu.ok.len
 refine S.post (post:=fun v t'=>(v=.tuple [C9 (A1q items p.us pr).1,eI (A1q items p.us pr).2]∨(A1q items p.us pr=([],0)∧v=.tuple [.emp,eI 0]))∧t'=t) ?_ (fun v t' ⟨hv,ht⟩=>by
  subst ht
  rcases hv with rfl | ⟨h1,rfl⟩
  ·exact ⟨_,_,⟨rfl,rfl⟩,B4.refl _ _⟩
  ·exact ⟨_,_,⟨rfl,rfl⟩,by rw [h1];exact B4.tuple (B4.cons (I6 3 _) (B4.keep _ _)) rfl⟩)
 obtain ⟨dv,gv,fx,hx,hx0,hdv,hgv⟩:=h.at
 refine A7 [3] C0 mixed Tryz.func151 (by rfl) rfl rfl rfl ?_;conv=>whnf
 refine B3 (C0q bx items p pr.scope hok.skus hok.cats hul hu.few hu.line s t h) ?_;conv=>whnf
 refine ⟨[],[],[0,1,2,3,4,5],by kernel_rfl,?_⟩;conv=>whnf
 refine ⟨_,D2 (C5v bx items p hu.ok _ (by omega) hm.rng s t h),?_⟩
 have hS:A1q items p.us pr=if A0Z p.us (I3 pr.scope items p.us p.us.length)<pr.least then ([],0) else if pr.kind=3 then S9 pr p.us (I3 pr.scope items p.us p.us.length) else W9 pr p.us (I3 pr.scope items p.us p.us.length):=rfl
 conv=>whnf
 refine C4 (fun h1=>?_) (fun h1=>?_)<;>rw [h1]<;>simp only [decide_eq_true_eq,decide_eq_false_iff_not] at h1
 ·rw [if_pos h1] at hS;conv=>whnf
  exact ⟨.inr ⟨hS,rfl⟩,rfl⟩
 rw [if_neg h1] at hS;conv=>whnf
 refine C4 (fun h2=>?_) (fun h2=>?_)<;>rw [h2]<;>simp only [beq_iff_eq,beq_eq_false_iff_ne] at h2
 ·rw [if_pos h2] at hS;conv=>whnf
  refine ⟨[],[],[0,1,2,3,4,5,6,7,8,9,10],by kernel_rfl,?_⟩;conv=>whnf
  refine E9 hx rfl (by omega) hx0 ?_;conv=>whnf
  refine ⟨_,D2 (B9F pr p.us _ hfit hright h2 (hok.buy h2) hu.ok hm t),?_⟩;conv=>whnf
  exact ⟨.inl (by rw [hS];rfl),rfl⟩
 ·rw [if_neg h2] at hS
  have hask:A4p pr:=hok.ask hfit (by have:=hok.kind;have:=hk.1;have:=hk.2;omega)
  conv=>whnf
  refine ⟨[],[],[0,1,2,3,4,5,6,7,8,9,10],by kernel_rfl,?_⟩;conv=>whnf
  refine E9 hx rfl (by omega) hx0 ?_;conv=>whnf
  refine ⟨_,D2 (C1X pr p.us _ hask hu.ok hm t),?_⟩;conv=>whnf
  exact ⟨.inl (by rw [hS];rfl),rfl⟩
theorem C0a (a b:List Int) (j:Nat):gI (a++b) (a.length+j)=gI b j:=by
 unfold gI
 rw [List.getD_eq_getElem?_getD,List.getD_eq_getElem?_getD,List.getElem?_append_right (by omega),Nat.add_sub_cancel_left]
theorem C4p (bx:Nat) (t:St):S P 240 [.optr 4 bx 0 0,.emp] t fun v t'=>v=eI 0∧t'=t:=by
 refine A7 [] C0 mixed Tryz.func240 (by rfl) rfl rfl rfl ?_;conv=>whnf
 refine A5K [0,5,8,9,10] ?_;conv=>whnf
 intro I;conv=>whnf
 exact ⟨rfl,rfl⟩
def O8 (items:List Ab.Item) (us:List B7) (pr:B2):List (List Int):=pr.parts.map fun x=>I3 x.scope items us us.length
def Y9 (items:List Ab.Item) (us:List B7) (pr:B2) (i:Nat):List Int:=((O8 items us pr).take i).flatten
def A0m (items:List Ab.Item) (us:List B7) (pr:B2):List B7×Int :=
 if A0Z us (U3 (C5 (Y9 items us pr pr.parts.length)))<pr.least then ([],0) else O9 pr us (O8 items us pr)
theorem A7z (items:List Ab.Item) (us:List B7) (pr:B2) {i:Nat} (hi:i<pr.parts.length):Y9 items us pr (i+1)=Y9 items us pr i++I3 (pr.parts.getD i default).scope items us us.length:=by
 unfold Y9
 have hl:(O8 items us pr).length=pr.parts.length:=List.length_map ..
 rw [L2 (by omega),List.flatten_append]
 congr 1
 have:(O8 items us pr).getD i default=I3 (pr.parts.getD i default).scope items us us.length:=E2 (fun x:Q0=>I3 x.scope items us us.length) pr.parts hi
 rw [this];simp
theorem A8X (items:List Ab.Item) (us:List B7) (pr:B2):∀ i,i≤pr.parts.length→(Y9 items us pr i).length≤i * us.length
 | 0,_=>by simp [Y9]
 | i+1,h=>by
  have ih:=A8X items us pr i (by omega)
  rw [A7z items us pr (by omega),List.length_append]
  have:=A2e (pr.parts.getD i default).scope items us us.length
  have e:(i+1) * us.length=i * us.length+us.length:=Nat.succ_mul i us.length
  omega
theorem B1f {l:List Int} {x:Int} (h:x∈U3 l):x∈l:=by
 unfold U3 Go.Lib.compactUpTo at h
 obtain ⟨k,hk,rfl⟩:=List.mem_map.1 h
 have hk2:k<l.length:=List.mem_range.1 (List.mem_filter.1 hk).1
 have:l.toArray[k]! = l[k]:=by rw [getElem!_pos _ k (by simpa using hk2)];simp
 rw [this];exact List.getElem_mem hk2
theorem A8Y {items:List Ab.Item} {us:List B7} {pr:B2} {i:Nat} {x:Int} (h:x∈Y9 items us pr i):0≤x∧x.toNat<us.length:=by
 unfold Y9 at h
 obtain ⟨l,hl,hx⟩:=List.mem_flatten.1 h
 obtain ⟨q,hq,rfl⟩:=List.mem_map.1 (List.take_subset _ _ hl)
 obtain ⟨k,hk,rfl⟩:=F2 hx
 exact (A0O q.scope items us).rng k hk
theorem B8q (bx:Nat) (items:List Ab.Item) (p:PSt) (pr:B2) (hfit:O0 pr) (hright:G2 pr=true) (hk:pr.kind=4) (hu:A5J items p.us) (s t:St) (h:PxR bx items p s t) :
  S P 152 [.optr 4 bx 0 0,B9 pr] t fun v t'=>v=.tuple [C9 (A0m items p.us pr).1,eI (A0m items p.us pr).2]∧t'=t:=by
 have hok:=A0U hright
 obtain ⟨hbun,hsc⟩:=hok.bun hk
 have hn8:=hbun.n8
 have hul:=hu.ok.len
 have hpl:(O8 items p.us pr).length=pr.parts.length:=List.length_map ..
 have hpm:∀ x∈O8 items p.us pr,K7 p.us x:=fun x hx=>by
  obtain ⟨q,hq,rfl⟩:=List.mem_map.1 hx
  exact A0O _ _ _
 refine S.post (post:=fun v t'=>(v=.tuple [C9 (A0m items p.us pr).1,eI (A0m items p.us pr).2]∨(A0m items p.us pr=([],0)∧v=.tuple [.emp,eI 0]))∧F3 t t') ?_ (fun v t' ⟨hv,ht⟩=>by
  rcases hv with rfl | ⟨h1,rfl⟩
  ·exact ⟨_,_,⟨rfl,rfl⟩,ht.shift _⟩
  ·exact ⟨_,_,⟨rfl,rfl⟩,by rw [h1];exact (ht.shift _).trans (B4.tuple (B4.cons (I6 3 _) (B4.keep _ _)) rfl)⟩)
 have hBi:=fun (n:Nat) (sv:AV) (fo:Nat→AV)=>N2 C8 3 1 fo n sv
 refine A7 [3,9] C0 mixed Tryz.func152 (by rfl) rfl rfl rfl ?_;conv=>whnf
 refine ⟨[0,3,6,7,12,13,14],fun m vs t'=>∃ (i:Nat) (sv1 sv2:AV),i≤pr.parts.length∧m=pr.parts.length - i∧vs=[.optr 4 bx 0 0,.fptr (B9 pr) 0,sv1,sv2,B1 3 O6 pr.parts,eI pr.parts.length,eI i] ∧
  ROut (fun s t'=>ROut F3 3 1 (fun k=>eI (gI (Y9 items p.us pr i) k)) (Y9 items p.us pr i).length s sv2 t') 29 1 (fun k=>B6 ((O8 items p.us pr).getD k default)) i t sv1 t',?_,?_⟩
 ·conv=>whnf
  exact ⟨_,0,.emp,.emp,Nat.zero_le _,rfl,rfl,ROut.start (ROut.start (F3.refl _) _ _ _) _ _ _⟩
 ·rintro m vs t' ⟨i,sv1,sv2,hi,rfl,rfl,hout⟩
  have hal:=A8X items p.us pr i hi
  have hal2:i * p.us.length≤8 * 100000:=Nat.mul_le_mul (by omega) hul
  have hsup:F3 t t':=hout.sup (hBi _ _ _)
  conv=>whnf
  cases hd:decide ((i:Int)<(pr.parts.length:Int))
  ·have:=of_decide_eq_false hd
   obtain rfl:i=pr.parts.length:=by omega
   obtain ⟨s1,hc1,hout2⟩:=hout
   generalize hA:Y9 items p.us pr pr.parts.length=A at *
   have hAm:∀ x∈A,0≤x∧x.toNat<p.us.length:=fun x hx=>A8Y (by rw [hA];exact hx)
   have hSl:(C5 A).length=A.length:=Q2 A
   have hCl:=A7B (C5 A)
   have hCm:∀ k,k<(U3 (C5 A)).length→0≤gI (U3 (C5 A)) k∧(gI (U3 (C5 A)) k).toNat<p.us.length:=fun k hk=>hAm _ (R4.1 (B1f (B5 hk)))
   conv=>whnf
   refine call (A5D C8 (by omega) hout2) (fun v t2 hv=>?_)
   obtain ⟨rfl,hout3⟩:=hv
   have hsup2:F3 s1 t2:=hout3.sup C8
   have hB:A0m items p.us pr=if A0Z p.us (U3 (C5 A))<pr.least then ([],0) else O9 pr p.us (O8 items p.us pr):=by unfold A0m;rw [hA]
   -- what is behind the two,with the store as it is then
   have fin:∀ t3,F3 s1 t3→∀ K:KK,(∀ v,v=.tuple [C9 (O9 pr p.us (O8 items p.us pr)).1,eI (O9 pr p.us (O8 items p.us pr)).2]→K v t)→A1B P 244 [B9 pr,C9 p.us,sv1] t3 K:=fun t3 h3 K hK=>by
    have hsh:B4 [B9 pr,C9 p.us,sv1] t3 [B9 pr,C9 p.us,B1 1 B6 (O8 items p.us pr)] t:=by
     refine B4.cons (B4.keep _ _) (B4.cons (B4.keep _ _) ?_)
     have e:B1 1 B6 (O8 items p.us pr)=.arr 1 pr.parts.length (fun k=>B6 ((O8 items p.us pr).getD k default)):=by unfold B1;rw [hpl]
     rw [e]
     exact (h3.shift _).trans hc1.shift
    refine I7 hsh (call (B9E pr p.us (O8 items p.us pr) hfit hright hk hbun hu.ok hpl hpm t) (fun v t4 hv=>?_))
    rw [hv.2];exact hK v hv.1
   have hpx:∀ t3,F3 s1 t3→PxR bx items p s t3:=fun t3 h3=>h.more (hc1.sup.trans h3)
   conv=>whnf
   refine ⟨[2,5],[],[],.qui 0 (.qui 1 (.qui 4 (.two 2 5 (.qui 5 (.qui 3 (.qui 6 .done))) (.gen 2 (.qui 3 (.qui 6 .done)))))),by kernel_rfl,?_⟩
   obtain ⟨s2,hc2,hs2⟩:=hout3
   rcases hc2 with ⟨h0,rfl,rfl⟩ | ⟨h0,b2,g2,hb2,rfl,rfl,hg2⟩
   ·have hA0:A=[]:=List.eq_nil_of_length_eq_zero h0
    have hnet:A0Z p.us (U3 (C5 A))=0:=by
     have:U3 (C5 A)=[]:=List.eq_nil_of_length_eq_zero (by omega)
     rw [this];rfl
    rw [hnet] at hB;conv=>whnf
    constructor
    all_goals conv=>whnf
    all_goals refine B3 (B5q _) ?_
    all_goals conv=>whnf
    all_goals refine ⟨_,D2 (C4p bx _),?_⟩
    all_goals conv=>whnf
    all_goals refine C4 (fun h1=>?_) (fun h1=>?_)<;>rw [h1]<;>simp only [decide_eq_true_eq,decide_eq_false_iff_not] at h1
    all_goals first
     | (rw [if_pos h1] at hB
        conv=>whnf
        exact ⟨.inr ⟨hB,rfl⟩,hc1.sup.trans hs2⟩)
     | (rw [if_neg h1] at hB
        obtain ⟨dv,gv,fx,hx,hx0,_,_⟩:=(hpx _ hs2).at
        conv=>whnf
        refine ⟨[6],[],[0,1,2,3,4,5,6,7,8,9,10],by kernel_rfl,?_⟩;conv=>whnf
        refine E9 hx rfl (by omega) hx0 ?_;conv=>whnf
        refine fin _ hs2 _ (fun v hv=>?_)
        subst hv;conv=>whnf
        exact ⟨.inl (by rw [hB];rfl),F3.refl _⟩)
   ·have hb2t:=hs2 b2 _ (A0 ..)
    have hC:=B7O b2 (C5 A) (by omega) t2 ⟨g2,by rw [hb2t,hSl],fun k hk=>hg2 k (by omega)⟩
    rw [hSl] at hC
    have hs3:∀ y,F3 s1 (upd t2 b2 y):=fun y=>hsup2.over hb2
    have hN:=fun t3 (h3:F3 s1 t3) (e3:t3=upd t2 b2 (A4V (A6N (C5 A))))=>C4q bx items p hu.ok (U3 (C5 A)) (by omega) hCm s t3 (hpx t3 h3) b2 (A6N (C5 A)).length (fun k=>eI (gI (A6N (C5 A)) k)) (by rw [B1g];omega) (by rw [e3,A0];rfl) (fun k hk=>by rw [C2o hk])
    conv=>whnf
    constructor
    all_goals conv=>whnf
    all_goals refine C4c hC ?_
    all_goals conv=>whnf
    all_goals refine ⟨_,D2 (hN _ (hs3 _) rfl),?_⟩
    all_goals conv=>whnf
    all_goals refine C4 (fun h1=>?_) (fun h1=>?_)<;>rw [h1]<;>simp only [decide_eq_true_eq,decide_eq_false_iff_not] at h1
    all_goals first
     | (rw [if_pos h1] at hB
        conv=>whnf
        exact ⟨.inr ⟨hB,rfl⟩,hc1.sup.trans (hs3 _)⟩)
     | (rw [if_neg h1] at hB
        obtain ⟨dv,gv,fx,hx,hx0,_,_⟩:=(hpx _ (hs3 (A4V (A6N (C5 A))))).at
        conv=>whnf
        refine ⟨[6],[],[0,1,2,3,4,5,6,7,8,9,10],by kernel_rfl,?_⟩;conv=>whnf
        refine E9 hx rfl (by omega) hx0 ?_;conv=>whnf
        refine fin _ (hs3 _) _ (fun v hv=>?_)
        subst hv;conv=>whnf
        exact ⟨.inl (by rw [hB];rfl),F3.refl _⟩)
  ·have hi':i<pr.parts.length:=by have:=of_decide_eq_true hd;omega
   have hq:=hsc (pr.parts.getD i default) (B5 hi')
   have hpk:(O8 items p.us pr).getD i default=I3 (pr.parts.getD i default).scope items p.us p.us.length:=E2 (fun x:Q0=>I3 x.scope items p.us p.us.length) pr.parts hi'
   have hls:=A7z items p.us pr hi'
   have hml:=A2e (pr.parts.getD i default).scope items p.us p.us.length
   conv=>whnf
   refine ⟨rfl,⟨by omega,by omega⟩,?_⟩;conv=>whnf
   refine B3 (C0q bx items p (pr.parts.getD i default).scope hq.1 hq.2 hul hu.few hu.line s t' (h.more hsup)) ?_;conv=>whnf
   refine ROut.app (q:=r29) (hBi _ _ _) rfl rfl rfl rfl rfl (by simp only [hpk];rfl) (by show (i+1) * 24≤140737488355328;omega) hout (fun sv1' t2 hout2=>?_);conv=>whnf
   obtain ⟨s1,hc1,hin⟩:=hout2
   refine ROut.apps (q:=r3) (n:=(Y9 items p.us pr i).length) (m:=(I3 (pr.parts.getD i default).scope items p.us p.us.length).length) C8 rfl rfl rfl rfl (B2Z rfl _) (f:=fun k=>eI (gI (Y9 items p.us pr (i+1)) k)) (fun j hj=>?_) (by show ((Y9 items p.us pr i).length+(I3 (pr.parts.getD i default).scope items p.us p.us.length).length) * 8≤140737488355328;omega) (hin.congr fun k hk=>by rw [hls,K5 hk]) (fun sv2' t3 hout3=>?_)
   ·rw [hls]
    show eI (gI (I3 (pr.parts.getD i default).scope items p.us p.us.length) j)=eI (gI _ _)
    rw [C0a]
   conv=>whnf
   refine ⟨rfl,?_⟩;conv=>whnf
   refine ⟨pr.parts.length - (i+1),by omega,i+1,sv1',sv2',by omega,rfl,by rw [C2 (by omega)],s1,hc1,?_⟩
   rw [hls,List.length_append,←hls];exact hout3
def X2 (items:List Ab.Item) (us:List B7) (pr:B2):List B7×Int:=if pr.kind=4 then A0m items us pr else A1q items us pr
def A3G (items:List Ab.Item) (p:PSt) (pr:B2):PSt :=
 if (X2 items p.us pr).2>0 then A0Q ⟨(X2 items p.us pr).1,p.deals,p.groups⟩ pr (X2 items p.us pr).2 else p
theorem B7A {items:List Ab.Item} {us:List B7} (hu:A5J items us) {pr:B2} (hfit:O0 pr) (hright:G2 pr=true) (hk:pr.kind≠7):X2 items us pr=([],0)∨Off us (X2 items us pr).1 (X2 items us pr).2:=by
 have hok:=A0U hright
 unfold X2
 split
 ·rename_i h4
  unfold A0m
  split
  ·exact .inl rfl
  ·right
   have hpl:(O8 items us pr).length=pr.parts.length:=List.length_map ..
   exact B3x (hok.bun h4).1 hu.ok hpl fun k hk=>by
    have hm:=B5 (l:=O8 items us pr) hk
    obtain ⟨q,hq,he⟩:=List.mem_map.1 hm
    rw [show (O8 items us pr).getD k []=(O8 items us pr).getD k default from rfl,←he]
    exact A0O _ _ _
 ·rename_i h4
  unfold A1q
  split
  ·exact .inl rfl
  ·right
   split
   ·rename_i h3
    exact B3y (hok.buy h3) hu.ok (A0O _ _ _)
   ·rename_i h3
    exact B5j (hok.ask hfit (by have:=hok.kind;omega)) hu.ok (A0O _ _ _)
theorem B3u {items:List Ab.Item} {p:PSt} (hu:A5J items p.us) {pr:B2} (hfit:O0 pr) (hright:G2 pr=true) (hk:pr.kind≠7):∃ x,Off p.us (A3G items p pr).us x:=by
 unfold A3G
 split
 ·rename_i h0
  rcases B7A hu hfit hright hk with e | e
  ·rw [e] at h0;exact absurd h0 (by decide)
  ·exact ⟨_,e⟩
 ·exact ⟨0,Off.refl hu.ok⟩
theorem C5f (bx:Nat) (items:List Ab.Item) (p:PSt) (pr:B2) (hfit:O0 pr) (hright:G2 pr=true) (hk:pr.kind≠7) (hu:A5J items p.us) (hd:p.deals.length≤1000) (hg:p.groups.length≤1000) (s t:St) (h:PxR bx items p s t) :
  S P 80 [.optr 4 bx 0 0,B9 pr] t fun v t'=>v=.tuple []∧PxR bx items (A3G items p pr) s t':=by
 have key:∀ K:KK,(∀ v,v=.tuple [C9 (X2 items p.us pr).1,eI (X2 items p.us pr).2]→K v t)→A1B P (if pr.kind=4 then 152 else 151) [.optr 4 bx 0 0,B9 pr] t K:=fun K hK=>by
  unfold X2 at hK
  split
  ·rename_i h4
   rw [if_pos h4] at hK
   exact call (B8q bx items p pr hfit hright h4 hu s t h) (fun v t' hv=>by rw [hv.2];exact hK v hv.1)
  ·rename_i h4
   rw [if_neg h4] at hK
   exact call (C1e bx items p pr hfit hright ⟨h4,hk⟩ hu s t h) (fun v t' hv=>by rw [hv.2];exact hK v hv.1)
 obtain ⟨⟨dv,gv⟩,hbx,y,⟨f,rfl,hf⟩,hRD⟩:=h
 simp only at hf hRD
 have hA:A3G items p pr=if (X2 items p.us pr).2>0 then A0Q ⟨(X2 items p.us pr).1,p.deals,p.groups⟩ pr (X2 items p.us pr).2 else p:=rfl
 have h0:PxR bx items p s t:=⟨(dv,gv),hbx,_,⟨f,rfl,hf⟩,hRD⟩
 refine A7 [3] C0 mixed Tryz.func80 (by rfl) rfl rfl rfl ?_;conv=>whnf
 refine C4 (fun h4=>?_) (fun h4=>?_)<;>rw [h4]<;>simp only [beq_iff_eq,beq_eq_false_iff_ne] at h4
 ·rw [if_pos h4] at key;conv=>whnf
  refine key _ (fun v hv=>?_)
  subst hv;conv=>whnf
  refine C4 (fun h5=>?_) (fun h5=>?_)<;>rw [h5]<;>simp only [decide_eq_true_eq,decide_eq_false_iff_not] at h5
  ·rw [if_pos h5] at hA
   rw [hA];conv=>whnf
   refine J7 hRD.at rfl (by omega) hf (by rfl) ?_;conv=>whnf
   refine call (B5R bx items ⟨(X2 items p.us pr).1,p.deals,p.groups⟩ pr _ hd hg s _ (PxR.fin hbx hRD _ (by rw [A5];rfl))) (fun v t' hv=>?_)
   obtain ⟨rfl,h6⟩:=hv
   conv=>whnf
   exact ⟨rfl,h6⟩
  ·rw [if_neg h5] at hA
   rw [hA];conv=>whnf
   exact ⟨rfl,h0⟩
 ·rw [if_neg h4] at key;conv=>whnf
  refine key _ (fun v hv=>?_)
  subst hv;conv=>whnf
  refine C4 (fun h5=>?_) (fun h5=>?_)<;>rw [h5]<;>simp only [decide_eq_true_eq,decide_eq_false_iff_not] at h5
  ·rw [if_pos h5] at hA
   rw [hA];conv=>whnf
   refine J7 hRD.at rfl (by omega) hf (by rfl) ?_;conv=>whnf
   refine call (B5R bx items ⟨(X2 items p.us pr).1,p.deals,p.groups⟩ pr _ hd hg s _ (PxR.fin hbx hRD _ (by rw [A5];rfl))) (fun v t' hv=>?_)
   obtain ⟨rfl,h6⟩:=hv
   conv=>whnf
   exact ⟨rfl,h6⟩
  ·rw [if_neg h5] at hA
   rw [hA];conv=>whnf
   exact ⟨rfl,h0⟩
def A5U (p:PSt) (pr:B2) (net ship:Int):Int×PSt :=
 if net<pr.least then (ship,p) else (ship - I1 ship pr.rate,if I1 ship pr.rate>0 then A0Q p pr (I1 ship pr.rate) else p)
theorem B6k (bx:Nat) (items:List Ab.Item) (p:PSt) (pr:B2) (net ship:Int) (h0:0≤ship) (h1:ship≤10000000000000) (hd:p.deals.length≤1000) (hg:p.groups.length≤1000) (s t:St) (h:PxR bx items p s t) :
  S P 83 [.optr 4 bx 0 0,B9 pr,eI net,eI ship] t fun v t'=>v=eI (A5U p pr net ship).1∧PxR bx items (A5U p pr net ship).2 s t':=by
 have hS:A5U p pr net ship=if net<pr.least then (ship,p) else (ship - I1 ship pr.rate,if I1 ship pr.rate>0 then A0Q p pr (I1 ship pr.rate) else p):=rfl
 have hb:=Q4 ship pr.rate
 have w:IntKind.i64.wrap (ship - I1 ship pr.rate)=ship - I1 ship pr.rate:=A8 (by omega) (by omega)
 refine A7 [5] C0 mixed Tryz.func83 (by rfl) rfl rfl rfl ?_;conv=>whnf
 refine C4 (fun h2=>?_) (fun h2=>?_)<;>rw [h2]<;>simp only [decide_eq_true_eq,decide_eq_false_iff_not] at h2
 ·rw [if_pos h2] at hS
  rw [hS];conv=>whnf
  exact ⟨rfl,h⟩
 rw [if_neg h2] at hS
 rw [hS];conv=>whnf
 refine B3 (B6c ship pr.rate 1 t) ?_;conv=>whnf
 refine C4 (fun h3=>?_) (fun h3=>?_)<;>rw [h3]<;>simp only [decide_eq_true_eq,decide_eq_false_iff_not] at h3
 ·conv=>whnf
  refine call (B5R bx items p pr _ hd hg s t h) (fun v t' hv=>?_)
  obtain ⟨rfl,h4⟩:=hv
  conv=>whnf
  have h3':I1 ship pr.rate>0:=h3
  rw [if_pos h3']
  refine ⟨?_,h4⟩
  show AV.int .i64 (IntKind.i64.wrap (ship - I1 ship pr.rate))=_
  rw [w]
 ·conv=>whnf
  have h3':¬ I1 ship pr.rate>0:=h3
  rw [if_neg h3']
  refine ⟨?_,h⟩
  show AV.int .i64 (IntKind.i64.wrap (ship - I1 ship pr.rate))=_
  rw [w]
def A0a (s:Ab.Ship) (units net:Int):Int:=if units=0∨(s.free>0∧net≥s.free) then 0 else s.fee
theorem C5l (s:Ab.Ship) (units net:Int) (t:St):S P 81 [C3A s,eI units,eI net] t fun v t'=>v=eI (A0a s units net)∧t'=t:=by
 refine A7 [3] C0 mixed Tryz.func81 (by rfl) rfl rfl rfl ?_;conv=>whnf
 refine C4 (fun h1=>?_) (fun h1=>?_)<;>rw [h1]<;>simp only [beq_iff_eq,beq_eq_false_iff_ne] at h1
 ·conv=>whnf
  exact ⟨by unfold A0a;rw [if_pos (.inl h1)];rfl,rfl⟩
 conv=>whnf
 refine C4 (fun h2=>?_) (fun h2=>?_)<;>rw [h2]<;>simp only [decide_eq_true_eq,decide_eq_false_iff_not] at h2
 ·conv=>whnf
  refine C4 (fun h3=>?_) (fun h3=>?_)<;>rw [h3]<;>simp only [decide_eq_true_eq,decide_eq_false_iff_not] at h3
  ·conv=>whnf
   exact ⟨by unfold A0a;rw [if_pos (.inr ⟨h2,h3⟩)];rfl,rfl⟩
  ·conv=>whnf
   exact ⟨by unfold A0a;rw [if_neg (by rintro (e | ⟨_,e⟩)<;>contradiction)];rfl,rfl⟩
 ·conv=>whnf
  exact ⟨by unfold A0a;rw [if_neg (by rintro (e | ⟨e,_⟩)<;>contradiction)];rfl,rfl⟩
theorem B3U (pr:B2) (t:St):S P 77 [B9 pr] t fun v t'=>v=.bool (pr.kind==7)∧t'=t:=by
 refine A7 [1] C0 mixed Tryz.func77 (by rfl) rfl rfl rfl ?_;conv=>whnf
 exact ⟨rfl,rfl⟩
theorem C0u (pr:B2) (t:St):S P 79 [B9 pr,.fptr (.fn (.func 77) [] []) 0] t fun v t'=>v=.bool (!(pr.kind==7))∧t'=t:=by
 refine A7 [2] C0 mixed Tryz.func79 (by rfl) rfl rfl rfl ?_;conv=>whnf
 refine B3 (B3U pr t) ?_;conv=>whnf
 exact ⟨rfl,rfl⟩
theorem B4u {R R':St→St→Prop} (hR:H2 R) (hm:∀ s t t',R s t→F3 t t'→R s t') (hR':H2 R') {f:FuncId} {args:List AV} {w:AV} {s t0 t:St} {q:Nat} {fl:Bool} {es:List QE} (h:R s t0) (hq:QSt t0 q fl es t)
  (hS:∀ u,R u t→S P f args t fun v t'=>v=w∧R' u t'):S P f args t fun v t'=>v=w∧∃ t0',R' s t0'∧QSt t0' q fl es t':=by
 obtain ⟨bo,hF,hn⟩:=hq.foot
 obtain ⟨y1,hy1⟩:=hF.some (.inl rfl)
 have hq0:=hn q (.inl rfl)
 have hsq:s q=none:=(hR.sup h).none hq0
 cases bo with
 | none =>
  have h1:R (upd s q y1) t:=hm _ _ _ (hR.begin (y:=y1) h hq0) (fun c x hc=>by
   by_cases e:c=q
   ·subst e;rw [A0] at hc;rw [hy1];exact hc
   ·rw [A9 e] at hc;exact hq.sup c x hc)
  refine (hS _ h1).mono fun v t' hv=>⟨hv.1,del t' q,hR'.forget hv.2 hsq,?_⟩
  have hF':QF q none fl es t':=hF.frame fun c hc=>by
   rcases hc with rfl | hc
   ·rw [hR'.sup hv.2 c y1 (A0 ..),hy1]
   ·cases hc
  exact hF'.qst (fun c x hc=>by
   by_cases e:c=q
   ·subst e;rw [A3j] at hc;cases hc
   ·rw [A0M e] at hc;exact hc) (fun c hc=>by
    rcases hc with rfl | hc
    ·exact A3j ..
    ·cases hc)
 | some b =>
  obtain ⟨y2,hy2⟩:=hF.some (c:=b) (.inr rfl)
  have hb0:=hn b (.inr rfl)
  have hqb:q≠b:=by
   obtain ⟨sv,_,h3⟩:=hF.has
   rcases h3 with ⟨_,_,e⟩ | ⟨b',l,n,e,hne,_⟩
   ·cases e
   ·cases e;exact hne
  have hsb:s b=none:=(hR.sup h).none hb0
  have h1:R (upd (upd s b y2) q y1) t:=hm _ _ _ (hR.begin (y:=y1) (hR.begin (y:=y2) h hb0) (by rw [A9 hqb];exact hq0)) (fun c x hc=>by
   by_cases e:c=q
   ·subst e;rw [A0] at hc;rw [hy1];exact hc
   ·rw [A9 e] at hc
    by_cases e2:c=b
    ·subst e2;rw [A0] at hc;rw [hy2];exact hc
    ·rw [A9 e2] at hc;exact hq.sup c x hc)
  refine (hS _ h1).mono fun v t' hv=>⟨hv.1,del (del t' q) b,hR'.forget (hR'.forget hv.2 (by rw [A9 hqb];exact hsq)) hsb,?_⟩
  have hs':=hR'.sup hv.2
  have hF':QF q (some b) fl es t':=hF.frame fun c hc=>by
   rcases hc with rfl | hc
   ·rw [hs' c y1 (A0 ..),hy1]
   ·cases hc
    rw [hs' b y2 (by rw [A9 hqb.symm,A0]),hy2]
  exact hF'.qst (fun c x hc=>by
   by_cases e:c=b
   ·subst e;rw [A3j] at hc;cases hc
   ·rw [A0M e] at hc
    by_cases e2:c=q
    ·subst e2;rw [A3j] at hc;cases hc
    ·rw [A0M e2] at hc;exact hc) (fun c hc=>by
    rcases hc with rfl | hc
    ·rw [A0M hqb];exact A3j ..
    ·cases hc;exact A3j ..)
theorem B3b (l:List E0) (hl:l.length≤100000) (v:E0) (st:St) (b:Nat) (f:Nat→AV) (hb:st b=some ⟨9,1,l.length,f⟩) (hf:∀ k,k<l.length→f k=A5Q l k) :
  S P 238 [.own 1 b 0 l.length,eS v] st fun r st'=>r=eI (idx (fun y:E0=>v.toList==y.toList) l)∧st'=st:=by
 refine A7 [] C0 mixed Tryz.func238 (by rfl) rfl rfl rfl ?_;conv=>whnf
 refine ⟨[0,1,7,8],fun m vs st'=>∃ i:Nat,i≤l.length∧(∀ k,k<i→(v.toList==(l.getD k default).toList)=false)∧m=l.length - i∧vs=[.own 1 b 0 l.length,eS v,eI l.length,eI i]∧st'=st,?_,?_⟩
 ·conv=>whnf
  exact ⟨_,0,Nat.zero_le _,fun k hk=>absurd hk (by omega),rfl,rfl,rfl⟩
 ·rintro m vs st' ⟨i,hi,hok,rfl,rfl,rfl⟩
  conv=>whnf
  cases h:decide ((i:Int)<(l.length:Int))
  ·have:=of_decide_eq_false h
   conv=>whnf
   refine ⟨?_,rfl⟩
   rw [R5 (p:=fun y:E0=>v.toList==y.toList) fun k hk=>hok k (by omega)];rfl
  ·have hi':i<l.length:=by have:=of_decide_eq_true h;omega
   conv=>whnf
   refine ⟨rfl,⟨by omega,by omega⟩,?_⟩;conv=>whnf
   refine E9 hb rfl (by omega) (v:=eS (l.getD i default)) (by rw [show 0+(i:Int).toNat=i by omega];exact hf i hi') ?_;conv=>whnf
   cases hp:(v.toList==(l.getD i default).toList)
   ·conv=>whnf
    refine ⟨rfl,?_⟩;conv=>whnf
    refine ⟨l.length - (i+1),by omega,i+1,by omega,fun k hk=>?_,rfl,by rw [C2 (by omega)],rfl⟩
    rcases Nat.lt_succ_iff_lt_or_eq.1 hk with h' | h'
    ·exact hok k h'
    ·rw [h'];exact hp
   ·conv=>whnf
    refine ⟨?_,rfl⟩
    rw [A1h (p:=fun y:E0=>v.toList==y.toList) hi' hok hp];rfl
theorem B8O (l:List E0) (hl:l.length≤100000) (v:E0) (st:St) (b:Nat) (f:Nat→AV) (hb:st b=some ⟨9,1,l.length,f⟩) (hf:∀ k,k<l.length→f k=A5Q l k) :
  S P 150 [.own 1 b 0 l.length,eS v] st fun r st'=>r=.bool (inB l v)∧st'=st:=by
 refine A7 [] C0 mixed Tryz.func150 (by rfl) rfl rfl rfl ?_;conv=>whnf
 refine B3 (B3b l hl v st b f hb hf) ?_;conv=>whnf
 refine ⟨?_,rfl⟩
 unfold inB
 rw [←A1p];rfl
theorem B3a (v:E0) (st:St):S P 238 [.emp,eS v] st fun r st'=>r=eI (-1)∧st'=st:=by
 refine A7 [] C0 mixed Tryz.func238 (by rfl) rfl rfl rfl ?_;conv=>whnf
 refine A5K [0,1,7,8] ?_;conv=>whnf
 intro I;conv=>whnf
 exact ⟨rfl,rfl⟩
theorem B8N (v:E0) (st:St):S P 150 [.emp,eS v] st fun r st'=>r=.bool false∧st'=st:=by
 refine A7 [] C0 mixed Tryz.func150 (by rfl) rfl rfl rfl ?_;conv=>whnf
 refine B3 (B3a v st) ?_;conv=>whnf
 exact ⟨rfl,rfl⟩
theorem PxR.groups {bx:Nat} {items:List Ab.Item} {p:PSt} {s t:St} (h:PxR bx items p s t) (hg:p.groups.length≤1000):∃ dv gv f,t bx=some ⟨147,4,1,f⟩∧f 0=.agg [B1 4 E5 items,C9 p.us,dv,gv]∧(gv=.emp∨∃ b,gv=.own 1 b 0 p.groups.length) ∧
  ∀ (g:E0),S P 150 [gv,eS g] t fun r t'=>r=.bool (inB p.groups g)∧t'=t:=by
 obtain ⟨⟨dv,gv⟩,h⟩:=h
 obtain ⟨y,⟨f,rfl,hf⟩,hy⟩:=A1a.at (A2F _ _ _ _) h
 obtain ⟨_,_,_,hd⟩:=h
 obtain ⟨s0,hc,hg0⟩:=hd
 refine ⟨dv,gv,f,hy,hf,hg0.head,fun g=>?_⟩
 obtain ⟨s1,hc1,hs1⟩:=hg0
 rcases hc1 with ⟨h0,h1,rfl⟩ | ⟨h0,b,g0,hb,h1,rfl,hgg⟩
 ·have:p.groups=[]:=List.eq_nil_of_length_eq_zero h0
  subst h1
  rw [this]
  exact B8N g t
 ·subst h1
  exact B8O p.groups (by omega) g t b g0 (hs1 b _ (A0 ..)) hgg
def goB {σ : Type} (px : σ→PSt) (step : σ→B2→σ) (a : σ) (pr:B2) : σ:=if K1 pr.group||!inB (px a).groups pr.group then step a pr else a
def V9 {σ : Type} (px : σ→PSt) (step : σ→B2→σ) (sm:B2→Bool) (l:List B2) (a : σ) (o:List Int) : σ:=(o.filter fun x=>sm (D9 l x)).foldl (fun a x=>goB px step a (D9 l x)) a
def A1I (sm:B2→Bool) (l:List B2) (o:List Int) (i:Nat):List QE:=((List.range i).filter fun k=>sm (D9 l (gI o k))).map fun (k:Nat)=>(-(k:Int),gI o k)
theorem A8k (sm:B2→Bool) (l:List B2) (o:List Int) (i:Nat):A1I sm l o (i+1)=A1I sm l o i++(if sm (D9 l (gI o i))=true then [(-(i:Int),gI o i)] else []):=by
 unfold A1I
 rw [List.range_succ,List.filter_append,List.map_append]
 congr 1
 by_cases h:sm (D9 l (gI o i))=true
 ·rw [if_pos h,List.filter_cons_of_pos (p:=fun k=>sm (D9 l (gI o k))) h];rfl
 ·rw [if_neg h,List.filter_cons_of_neg (p:=fun k=>sm (D9 l (gI o k))) h];rfl
theorem B5Y (sm:B2→Bool) (l:List B2) (o:List Int) (i:Nat):(A1I sm l o i).length≤i:=by
 unfold A1I
 rw [List.length_map]
 exact Nat.le_trans (List.length_filter_le ..) (by simp)
theorem A9S (sm:B2→Bool) (l:List B2) (o:List Int):∀ i,i≤o.length→(A1I sm l o i).map (·.2)=(o.take i).filter fun x=>sm (D9 l x)
 | 0,_=>by simp [A1I]
 | i+1,h=>by
  rw [A8k,List.map_append,A9S sm l o i (by omega),L2 (show i<o.length by omega),List.filter_append]
  congr 1
  show List.map (fun x=>x.2) (if sm (D9 l (gI o i))=true then [(-(i:Int),gI o i)] else [])=List.filter (fun x=>sm (D9 l x)) [gI o i]
  by_cases hs:sm (D9 l (gI o i))=true
  ·rw [if_pos hs,List.filter_cons_of_pos (p:=fun x=>sm (D9 l x)) hs];rfl
  ·rw [if_neg hs,List.filter_cons_of_neg (p:=fun x=>sm (D9 l x)) hs];rfl
theorem B0O (sm:B2→Bool) (l:List B2) (o:List Int) (i:Nat):(A1I sm l o i).Pairwise fun a b=>H7 b a=false:=by
 unfold A1I
 refine List.Pairwise.map _ (fun a b h=>?_) ((List.pairwise_lt_range (n:=i)).filter _)
 rw [U1]
 show ¬(-(b:Int) > -(a:Int)∨(-(b:Int) = -(a:Int)∧_))
 omega
theorem B4A {l:List B2} {codes:List E0} {o:List Int} (ho:A8w l codes o) {x:Int} (hx:x∈L8 l o):0≤x∧x.toNat<l.length:=by
 obtain ⟨e,he,rfl⟩:=List.mem_map.1 hx
 have h:=A3U he
 exact T9 (ho.1.subset (B5 h.2))
theorem B7k {σ : Type} {N:Nat} (hN:A2h N) (bx:Nat) (items:List Ab.Item) (R : σ→St→St→Prop) (px : σ→PSt) (hR:∀ a,H2 (R a)) (hmore:∀ a s t t',R a s t→F3 t t'→R a s t') (hP:∀ a s t,R a s t→∃ s',PxR bx items (px a) s' t)
  (l:List B2) (codes:List E0) (hl:l.length≤60) (hc:codes.length≤9223372036854775807) (h20:(places l codes l.length).length≤N)
  (g:FuncId) (cs:List AV) (sm:B2→Bool) (hsome:∀ (pr:B2) (t:St),S P g (B9 pr::cs) t fun v t'=>v=.bool (sm pr)∧t'=t)
  (f:FuncId) (fs ds:List AV) (step : σ→B2→σ) (Inv : σ→Nat→Prop) (hgr:∀ a n,Inv a n→(px a).groups.length≤1000) (hle:∀ a n,Inv a (n+1)→Inv a n)
  (hdo:∀ (a : σ) (n:Nat) (pr:B2) (s t:St),pr∈l→sm pr=true→Inv a (n+1)→R a s t→S P f (fs++[B9 pr]++ds) t fun v t'=>v=.tuple []∧R (step a pr) s t')
  (hinv:∀ (a : σ) (n:Nat) (pr:B2),pr∈l→sm pr=true→Inv a (n+1)→Inv (step a pr) n) (a0 : σ) (hI:Inv a0 60) (s t:St) (h:R a0 s t) :
  S P 78 [.optr 4 bx 0 0,B1 15 B9 l,D6 codes,.fn (.func g) [] cs,.fn (.func f) fs ds] t fun v t'=>v=.tuple []∧∃ o,A8w l codes o∧R (V9 px step sm l a0 (L8 l o)) s t':=by
 refine A7 [] C0 mixed Tryz.func78 (by rfl) rfl rfl rfl ?_;conv=>whnf
 refine call (B2J t) (fun v t1 hv=>?_)
 obtain ⟨q,rfl,hq⟩:=hv
 conv=>whnf
 refine call (B7j hN l codes hl hc h20 t1) (fun v t2 hv=>?_)
 obtain ⟨⟨o,ho,rfl⟩,rfl⟩:=hv
 have hmem:=fun {x:Int} (hx:x∈L8 l o)=>B4A ho hx
 have hrl:(L8 l o).length≤60:=by
  rw [List.length_map,A3T,ho.1.length_eq]
  have:=P3 l codes l.length;omega
 obtain ⟨r,hr⟩:∃ r:List Int,r=L8 l o:=⟨_,rfl⟩
 rw [←hr] at hrl
 have hmem':∀ x∈r,0≤x∧x.toNat<l.length:=fun x hx=>hmem (by rw [←hr];exact hx)
 have hInvle:∀ (a : σ) (n m:Nat),m≤n→Inv a n→Inv a m:=fun a n m hmn h=>by
  induction n with
  | zero=>have:m=0:=by omega
          subst this;exact h
  | succ n ih =>
   rcases Nat.lt_or_ge n m with h1 | h1
   ·have:m=n+1:=by omega
    subst this;exact h
   ·exact ih h1 (hle a n h)
 have hfin:∀ t',R (V9 px step sm l a0 r) s t'→∃ o,A8w l codes o∧R (V9 px step sm l a0 (L8 l o)) s t':=fun t' h=>⟨o,ho,by rw [←hr];exact h⟩
 have hv:B6 (L8 l o)=B6 r:=by rw [hr]
 rw [hv]
 clear hv
 conv=>whnf
 refine ⟨[0,1,3,4,10,19,20,21],fun m vs t'=>∃ i:Nat,i≤r.length∧m=r.length - i∧vs=[.optr 4 bx 0 0,B1 15 B9 l,.fn (.func g) [] cs,.fn (.func f) fs ds,.optr 1 q 0 0,B6 r,eI r.length,eI i]∧QSt t q true (A1I sm l r i) t',?_,?_⟩
 ·conv=>whnf
  exact ⟨_,0,Nat.zero_le _,rfl,rfl,hq⟩
 ·clear hq
  rintro m vs t' ⟨i,hi,rfl,rfl,hq⟩
  have hpl:=B5Y sm l r i
  conv=>whnf
  cases hd:decide ((i:Int)<(r.length:Int))
  ·have:=of_decide_eq_false hd
   obtain rfl:i=r.length:=by omega
   have hsnd:=A9S sm l r r.length (Nat.le_refl _)
   rw [List.take_length] at hsnd;conv=>whnf
   refine ⟨[0,1,4,10],fun m vs t'=>∃ (a : σ) (rest:List QE) (fl:Bool) (t0:St),m=rest.length∧vs=[.optr 4 bx 0 0,B1 15 B9 l,.fn (.func f) fs ds,.optr 1 q 0 0]∧(rest.map (·.2)).foldl (fun a x=>goB px step a (D9 l x)) a=V9 px step sm l a0 r∧(∀ e∈rest,(0≤e.2∧e.2.toNat<l.length)∧sm (D9 l e.2)=true)∧(rest.Pairwise fun a b=>H7 b a=false)∧Inv a rest.length∧R a s t0∧QSt t0 q fl rest t',?_,?_⟩
   ·conv=>whnf
    refine ⟨_,a0,A1I sm l r r.length,true,t,rfl,rfl,by rw [hsnd];rfl,fun e he=>?_,B0O sm l r r.length,hInvle a0 60 _ (by omega) hI,h,hq⟩
    have:e.2∈(A1I sm l r r.length).map (·.2):=List.mem_map_of_mem he
    rw [hsnd] at this
    obtain ⟨h1,h2⟩:=List.mem_filter.1 this
    exact ⟨hmem' _ h1,h2⟩
   ·clear hq
    rintro m vs t' ⟨a,rest,fl,t0,rfl,rfl,hF,hrm,hsort,hIa,hRa,hq⟩
    conv=>whnf
    refine B3 (A9T _ _ _ _ _ hq) ?_;conv=>whnf
    cases rest with
    | nil =>
     conv=>whnf
     refine ⟨rfl,hfin t' ?_⟩
     rw [←hF]
     exact hmore _ _ _ _ hRa hq.sup
    | cons x rest =>
     rw [List.pairwise_cons] at hsort
     have hx:=hrm x (List.mem_cons_self ..)
     have hlen0:decide (((x::rest).length:Int)>0)=true:=decide_eq_true (by rw [List.length_cons];omega)
     rw [hlen0];conv=>whnf
     refine call (A9U _ _ _ _ _ _ hq hsort.1) (fun v t2 hv=>?_)
     obtain ⟨rfl,hq2⟩:=hv
     have hpr:D9 l x.2∈l:=B5 hx.1.2
     have hgl:=hgr a _ hIa
     obtain ⟨s',hpx⟩:=hP a s t2 (hmore _ _ _ _ hRa hq2.sup)
     obtain ⟨dv,gv,fx,hbx,hfx,hgv,hcont⟩:=hpx.groups hgl
     conv=>whnf
     -- what is behind the round
     have hgo:goB px step a (D9 l x.2)=if K1 (D9 l x.2).group||!inB (px a).groups (D9 l x.2).group then step a (D9 l x.2) else a:=rfl
     have hF2:(rest.map (·.2)).foldl (fun a x=>goB px step a (D9 l x)) (goB px step a (D9 l x.2))=V9 px step sm l a0 r:=by rw [←hF];rfl
     have round:∀ (b : σ) (t3:St),b=goB px step a (D9 l x.2)→Inv b rest.length→(∃ t0',R b s t0'∧QSt t0' q false rest t3)→∃ m',m'<rest.length+1∧∃ (a : σ) (rest_1:List QE) (fl:Bool) (t0:St),m'=rest_1.length∧[AV.optr 4 bx 0 0,B1 15 B9 l,.fn (.func f) fs ds,.optr 1 q 0 0]=[AV.optr 4 bx 0 0,B1 15 B9 l,.fn (.func f) fs ds,.optr 1 q 0 0]∧(rest_1.map (·.2)).foldl (fun a x=>goB px step a (D9 l x)) a=V9 px step sm l a0 r∧(∀ e∈rest_1,(0≤e.2∧e.2.toNat<l.length)∧sm (D9 l e.2)=true)∧(rest_1.Pairwise fun a b=>H7 b a=false)∧Inv a rest_1.length∧R a s t0∧QSt t0 q fl rest_1 t3 :=
      fun b t3 hb hib ⟨t0',h1,h2⟩=>⟨rest.length,Nat.lt_succ_self _,b,rest,false,t0',rfl,rfl,by rw [hb];exact hF2,fun e he=>hrm e (List.mem_cons_of_mem _ he),hsort.2,hib,h1,h2⟩
     -- the call itself
     have doit:∀ K:KK,(∀ t3,(∃ t0',R (step a (D9 l x.2)) s t0'∧QSt t0' q false rest t3)→K (.tuple []) t3)→A1B P f (fs++[B9 (D9 l x.2)]++ds) t2 K:=fun K hK=>by
      refine call (B4u (hR a) (hmore a) (hR _) hRa hq2 (fun u hu=>hdo a rest.length (D9 l x.2) u t2 hpr hx.2 (by simpa using hIa) hu)) (fun v t3 hv=>?_)
      rw [hv.1];exact hK t3 hv.2
     refine ⟨[],[],[0,1,2,3,4,5,6,7,8,9,10,11,12,13,14,15,16,17,18],by kernel_rfl,?_⟩;conv=>whnf
     refine ⟨rfl,⟨by omega,by omega⟩,?_⟩;conv=>whnf
     have hnil:(ByteArray.toList (l.getD x.2.toNat default).group==ByteArray.toList ⟨#[]⟩)=K1 (D9 l x.2).group:=rfl
     have hyes:(K1 (D9 l x.2).group||!inB (px a).groups (D9 l x.2).group)=true→∀ K:KK,(∀ t3,(∃ (b : σ),b=goB px step a (D9 l x.2)∧Inv b rest.length∧∃ t0',R b s t0'∧QSt t0' q false rest t3)→K (.tuple []) t3)→A1B P f (fs++[B9 (D9 l x.2)]++ds) t2 K:=fun hy K hK =>
      doit K fun t3 h3=>hK t3 ⟨_,by rw [hgo,if_pos hy],hinv a _ _ hpr hx.2 (by simpa using hIa),h3⟩
     rw [hnil]
     cases hg:K1 (D9 l x.2).group with
     | true =>
      conv=>whnf
      refine ⟨rfl,⟨by omega,by omega⟩,?_⟩;conv=>whnf
      rw [A3F,A3F]
      refine hyes (by rw [hg];rfl) _ (fun t3 h3=>?_);conv=>whnf
      refine ⟨rfl,?_⟩;conv=>whnf
      obtain ⟨b,h4,h5,h6⟩:=h3
      exact round b t3 h4 h5 h6
     | false =>
      rcases hgv with rfl | ⟨bg,rfl⟩
      all_goals
       conv=>whnf
       refine E9 hbx rfl (by omega) hfx ?_;conv=>whnf
       refine ⟨rfl,⟨by omega,by omega⟩,?_⟩;conv=>whnf
       refine ⟨_,D2 (hcont (D9 l x.2).group),?_⟩;conv=>whnf
       cases hi:inB (px a).groups (D9 l x.2).group with
       | false =>
        conv=>whnf
        refine ⟨rfl,⟨by omega,by omega⟩,?_⟩;conv=>whnf
        rw [A3F,A3F]
        refine hyes (by rw [hi];simp) _ (fun t3 h3=>?_);conv=>whnf
        refine ⟨rfl,?_⟩;conv=>whnf
        obtain ⟨b,h4,h5,h6⟩:=h3
        exact round b t3 h4 h5 h6
       | true =>
        conv=>whnf
        refine ⟨rfl,?_⟩;conv=>whnf
        refine round a t2 (by rw [hgo,if_neg (by rw [hg,hi];simp)]) (hle a _ (by simpa using hIa)) ⟨t0,hRa,hq2⟩
  ·have hi':i<r.length:=by have:=of_decide_eq_true hd;omega
   have hm:=hmem' _ (B5 hi')
   have es:=A8k sm l r i
   conv=>whnf
   refine ⟨rfl,⟨by omega,by omega⟩,?_⟩;conv=>whnf
   refine ⟨rfl,⟨by show 0≤gI r i;exact hm.1,by show gI r i<(l.length:Int);have h1:=hm.1;have h2:=hm.2;show gI r i<_;have:(gI r i).toNat<l.length:=h2;have:0≤gI r i:=h1;omega⟩,?_⟩;conv=>whnf
   refine B3 (hsome (D9 l (gI r i)) t') ?_;conv=>whnf
   refine C4 (fun h3=>?_) (fun h3=>?_)<;>rw [h3]
   ·rw [if_pos h3] at es
    have w:IntKind.i64.wrap (0 - (i:Int)) = -(i:Int):=by rw [show 0 - (i:Int) = -(i:Int) by omega];exact A8 (by omega) (by omega)
    conv=>whnf
    rw [w]
    refine call (A8K t q _ (-(i:Int)) (gI r i) _ hq (by omega)) (fun v t2 hv=>?_)
    obtain ⟨rfl,hq'⟩:=hv
    conv=>whnf
    refine ⟨rfl,?_⟩;conv=>whnf
    exact ⟨r.length - (i+1),by omega,i+1,by omega,rfl,by rw [C2 (by omega)],by rw [es];exact hq'⟩
   ·have h3':¬ sm (D9 l (gI r i))=true:=by rw [h3];simp
    rw [if_neg h3',List.append_nil] at es;conv=>whnf
    refine ⟨rfl,?_⟩;conv=>whnf
    exact ⟨r.length - (i+1),by omega,i+1,by omega,rfl,by rw [C2 (by omega)],by rw [es];exact hq⟩
def D4 (r:F9) (codes:List E0) (l:List F5):Int :=
 if J0 r=false then 10 else if R9 codes=false then 2 else J3 (known r.items) l
theorem C0B (r:F9) (codes:List E0) (l:List F5) (hf:V6 r) (hc:codes.length≤Big) (hi:r.items.length≤9223372036854775807) (st:St) :
  S P 74 [I8 r,D6 codes,B1 3 F7 l] st fun v st'=>v=eI (D4 r codes l)∧st'=st:=by
 refine A7 [3] C0 mixed Tryz.func74 (by rfl) rfl rfl rfl ?_;conv=>whnf
 refine B3 (B7o r hf st) ?_;conv=>whnf
 have hP:D4 r codes l=if J0 r=false then 10 else if R9 codes=false then 2 else J3 (known r.items) l:=rfl
 cases h1:J0 r
 ·rw [if_pos h1] at hP;conv=>whnf
  exact ⟨by rw [hP];rfl,rfl⟩
 ·rw [if_neg (by rw [h1];simp)] at hP;conv=>whnf
  refine B3 (B6P codes hc st) ?_;conv=>whnf
  cases h2:R9 codes
  ·rw [if_pos h2] at hP;conv=>whnf
   exact ⟨by rw [hP];rfl,rfl⟩
  ·rw [if_neg (by rw [h2];simp)] at hP;conv=>whnf
   refine B3 (B6G r.items l hi st) ?_;conv=>whnf
   exact ⟨by rw [hP];rfl,rfl⟩
abbrev R8 (l:List F5):List B7:=G3 l l.length
structure A6A (items:List Ab.Item) (l:List F5):Prop where
 len:l.length≤1000
 line:∀ x∈l,lineC x=true
 known:∀ x∈l,known items x.sku=true
 units:J6 l≤100000
 gross:I2 l≤10000000000000
theorem B2r {items:List Ab.Item} {l:List F5} (h:J3 (known items) l=0):A6A items l:=by
 unfold J3 at h
 split at h
 ·cases h
 ·rename_i hl
  split at h
  ·rename_i x hx
   split at h<;>cases h
  ·rename_i hf
   have hall:∀ x∈l,I4 (Go.Proofs.YtbajhapmlfbelaaGreat.known items) x=false:=fun x hx=>Bool.eq_false_iff.2 (List.find?_eq_none.1 hf x hx)
   have hb:∀ x∈l,Go.Proofs.YtbajhapmlfbelaaGreat.known items x.sku=true∧lineC x=true:=fun x hx=>by
    have:=hall x hx
    unfold I4 at this
    simpa using this
   split at h
   ·cases h
   ·rename_i hg
    simp only [Bool.or_eq_true,decide_eq_true_eq,not_or] at hg
    exact ⟨by omega,fun x hx=>(hb x hx).2,fun x hx=>(hb x hx).1,by omega,by omega⟩
theorem A6A.may {items:List Ab.Item} {l:List F5} (h:A6A items l):(J3 (fun _=>true) l==0)=true:=by
 have:J3 (fun _=>true) l=0:=by
  unfold J3
  rw [if_neg (by have:=h.len;omega)]
  have hf:l.find? (I4 fun _=>true)=none:=List.find?_eq_none.2 fun x hx=>by
   unfold I4;rw [h.line x hx];simp
  rw [hf]
  simp only
  rw [if_neg]
  have:=h.units
  have:=h.gross
  simp only [Bool.or_eq_true,decide_eq_true_eq,not_or]
  omega
 rw [this];rfl
theorem A1A (l:List F5) (hl:∀ x∈l,lineC x=true):∀ k,k≤l.length→((G3 l k).length:Int)=J6 (l.take k)∧A6 (E1 (G3 l k))=I2 (l.take k)∧(∀ u∈G3 l k,0≤u.net∧0≤u.line∧u.line.toNat<k∧u.opn=true)
 | 0,_=>⟨rfl,rfl,fun u hu=>by simp [G3] at hu⟩
 | k+1,h=>by
  obtain ⟨h1,h2,h3⟩:=A1A l hl k (by omega)
  have hx:=(Z1 _).1 (hl _ (B5 (show k<l.length by omega)))
  have eN:J6 (l.take (k+1))=J6 (l.take k)+(l.getD k default).qty:=P1 (by omega) _ _
  have eG:I2 (l.take (k+1))=I2 (l.take k)+(l.getD k default).qty * (l.getD k default).price:=P1 (by omega) _ _
  have hup:G3 l (k+1)=G3 l k++List.replicate (l.getD k default).qty.toNat (lnU l k):=rfl
  have hsr:∀ (n:Nat) (c:Int),A6 (List.replicate n c)=n * c:=fun n c=>by
   induction n with
   | zero=>simp [A6]
   | succ n ih=>rw [List.replicate_succ,N6,ih,show ((n+1:Nat):Int)=(n:Int)+1 by omega,Int.add_mul,Int.one_mul];omega
  refine ⟨?_,?_,fun u hu=>?_⟩
  ·rw [hup,List.length_append,List.length_replicate,eN,←h1];omega
  ·unfold E1 at h2 ⊢
   rw [hup,List.map_append,G5,h2,List.map_replicate,hsr,eG]
   show _+((l.getD k default).qty.toNat:Int) * (l.getD k default).price=_
   rw [Int.toNat_of_nonneg hx.1.1]
  ·rw [hup] at hu
   rcases List.mem_append.1 hu with hu | hu
   ·have:=h3 u hu;exact ⟨this.1,this.2.1,by omega,this.2.2.2⟩
   ·rw [List.eq_of_mem_replicate hu]
    refine ⟨hx.2.1,?_,?_,rfl⟩
    ·show (0:Int)≤(k:Int);omega
    ·show ((k:Int)).toNat<k+1;omega
theorem B3f {items:List Ab.Item} {l:List F5} (h:A6A items l):A5J (D1 items l) (R8 l):=by
 obtain ⟨h1,h2,h3⟩:=A1A l h.line l.length (Nat.le_refl _)
 rw [List.take_length] at h1 h2
 have hN:=h.units
 have hG:=h.gross
 have hlen:(D1 items l).length=l.length:=List.length_map ..
 exact ⟨⟨by show (G3 l l.length).length≤100000;omega,fun u hu=>(h3 u hu).1,by show A6 (E1 (G3 l l.length))≤_;omega⟩,by rw [hlen];have:=h.len;omega,fun u hu=>⟨(h3 u hu).2.1,by rw [hlen];exact (h3 u hu).2.2.1⟩⟩
def C8w (bn n:Nat) (net ship:Int) (y:Q3):Prop:=∃ f,y=⟨44,4,1,f⟩∧f 0=.agg [.own 1 bn 0 n,eI net,eI ship,.emp]
def R2 (bx bp bn n:Nat) (items:List Ab.Item) (net:Int) (a:PSt×Int):St→St→Prop:=A1a bp (C8w bn n net a.2) (PxR bx items a.1)
theorem B9C (bx bp bn n:Nat) (items:List Ab.Item) (net:Int) (a:PSt×Int):H2 (R2 bx bp bn n items net a):=A1S (A3I _ _ _)
theorem R2.more {bx bp bn n:Nat} {items:List Ab.Item} {net:Int} {a:PSt×Int} {s t t':St} (h:R2 bx bp bn n items net a s t) (hs:F3 t t'):R2 bx bp bn n items net a s t':=by
 obtain ⟨h1,y,h2,h3⟩:=h
 exact ⟨h1,y,h2,h3.more hs⟩
def R7 (net:Int) (a:PSt×Int) (pr:B2):PSt×Int:=((A5U a.1 pr net a.2).2,(A5U a.1 pr net a.2).1)
theorem B0i (bx bp bn n:Nat) (items:List Ab.Item) (net:Int) (a:PSt×Int) (pr:B2) (h0:0≤a.2) (h1:a.2≤10000000000000) (hd:a.1.deals.length≤1000) (hg:a.1.groups.length≤1000) (s t:St) (h:R2 bx bp bn n items net a s t) :
  S P 82 [B9 pr,.fptr (.optr 4 bx 0 0) 0,.optr 4 bp 0 0] t fun v t'=>v=.tuple []∧R2 bx bp bn n items net (R7 net a pr) s t':=by
 obtain ⟨hbp,y,⟨f,rfl,hf⟩,hP⟩:=h
 have hat:t bp=some ⟨44,4,1,f⟩:=(A3I _ _ _).sup hP bp _ (A0 ..)
 refine A7 [3] C0 mixed Tryz.func82 (by rfl) rfl rfl rfl ?_;conv=>whnf
 refine E9 hat rfl (by omega) hf ?_;conv=>whnf
 refine E9 hat rfl (by omega) hf ?_;conv=>whnf
 refine call (B6k bx items a.1 pr net a.2 h0 h1 hd hg _ t hP) (fun v t2 hv=>?_)
 obtain ⟨rfl,hP2⟩:=hv
 have hat2:t2 bp=some ⟨44,4,1,f⟩:=(A3I _ _ _).sup hP2 bp _ (A0 ..)
 conv=>whnf
 refine J7 hat2 rfl (by omega) hf (by rfl) ?_;conv=>whnf
 refine ⟨rfl,?_⟩
 exact A1a.set (A3I _ _ _) (Q:=fun y=>y=⟨44,4,1,f⟩) ⟨hbp,_,rfl,hP2⟩ ⟨_,rfl,by rw [A5];rfl⟩
def F8 (us:List B7) (j:Nat):Int:=A6 ((us.filter fun u=>u.line.toNat==j).map B7.net)
def T7 (n:Nat) (us:List B7):List Int:=(List.range n).map (F8 us)
theorem U9 {us:List B7} {k:Nat} (hk:k<us.length) (j:Nat):F8 (us.take (k+1)) j=if (gU us k).line.toNat=j then F8 (us.take k) j+(gU us k).net else F8 (us.take k) j:=by
 unfold F8
 rw [L2 hk,List.filter_append,List.map_append,G5]
 by_cases h:(gU us k).line.toNat=j
 ·rw [if_pos h,List.filter_cons_of_pos (by show ((gU us k).line.toNat==j)=true;rw [h];simp)]
  simp [A6]
 ·rw [if_neg h,List.filter_cons_of_neg (by show ¬((gU us k).line.toNat==j)=true;simpa using h)]
  simp [A6]
theorem A0h {us:List B7} (h:E6 us) (k j:Nat):0≤F8 (us.take k) j∧F8 (us.take k) j≤A6 (E1 us):=by
 have hsub:((us.take k).filter fun u=>u.line.toNat==j).Sublist us:=List.filter_sublist.trans (List.take_sublist _ _)
 have hgen:∀ {a b:List B7},a.Sublist b→(∀ u∈b,0≤u.net)→0≤A6 (a.map B7.net)∧A6 (a.map B7.net)≤A6 (b.map B7.net):=fun {a b} hs=>by
  induction hs with
  | slnil=>intro _;exact ⟨Int.le_refl _,Int.le_refl _⟩
  | cons x _ ih =>
   intro hb
   have h1:=ih fun u hu=>hb u (List.mem_cons_of_mem _ hu)
   have h2:=hb x (List.mem_cons_self ..)
   rw [List.map_cons,N6];omega
  | cons_cons x _ ih =>
   intro hb
   have h1:=ih fun u hu=>hb u (List.mem_cons_of_mem _ hu)
   have h2:=hb x (List.mem_cons_self ..)
   rw [List.map_cons,List.map_cons,N6,N6];omega
 exact hgen hsub h.pos
end Go.Proofs.YtbajhapmlfbelaaGreat
