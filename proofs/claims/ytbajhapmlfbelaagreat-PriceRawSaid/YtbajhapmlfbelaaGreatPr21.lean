/- Part 21 of the proof: contracts of the functions that the law reaches -/
import Derived.Test.YtbajhapmlfbelaaGreatPr20
set_option maxRecDepth 100000
set_option linter.unusedVariables false
set_option linter.unusedSimpArgs false
namespace Go.Proofs.YtbajhapmlfbelaaGreat
open Go Go.Ab
attribute [local irreducible] upd del
theorem A1C.frame {st st':St} {b c:Nat} {l:List QE} (h:A1C st b l) (hc:c≠b) (hf:∀ a,a≠c→st' a=st a):A1C st' b l:=by
 obtain ⟨f,h1,h2⟩:=h
 exact ⟨f,by rw [hf b (fun e=>hc e.symm)];exact h1,h2⟩
theorem C2v (q b:Nat) (l:List QE) (n:Nat) (st:St) (hq:A2X st q (.own 2 b 0 (n+1))) (hqb:q≠b) (he:A1C st b l) (hn:n<l.length) (hl:l.length<2305843009213693952) :
  S P 372 [.optr 1 q 0 0] st fun v st'=>v=.iface 293 (A6a (at_ l n))∧A2X st' q (.own 2 b 0 n)∧∀ c,c≠q→st' c=st c:=by
 obtain ⟨fq,hqs,hq0⟩:=hq
 obtain ⟨f,hst,hf⟩:=he
 refine A8 [4] B9 mixed Tryz.func372 (by rfl) rfl rfl rfl ?_;conv=>whnf
 refine F7 hqs rfl (by omega) hq0 ?_;conv=>whnf
 have w:IntKind.i64.wrap (((n+1:Nat):Int) - 1)=(n:Int):=by rw [A7 (by omega) (by omega)];omega
 rw [w]
 refine F7 hqs rfl (by omega) hq0 ?_;conv=>whnf
 refine ⟨rfl,⟨by omega,by omega⟩,?_⟩;conv=>whnf
 refine F7 hst rfl (by omega) (v:=A6a (at_ l n)) (by rw [show 0+(n:Int).toNat=n by omega];exact hf n hn) ?_;conv=>whnf
 refine F7 hqs rfl (by omega) hq0 ?_;conv=>whnf
 refine ⟨rfl,⟨by omega,by omega,by omega⟩,.inl rfl,?_⟩;conv=>whnf
 refine K8 hqs rfl (by omega) hq0 (by rfl) ?_;conv=>whnf
 refine ⟨rfl,⟨_,A0 ..,?_⟩,fun c hc=>by rw [B1 hc]⟩
 rw [A6]
 show AV.agg [AV.own 2 b _ _]=_
 congr 3<;>simp
theorem C0z (q:Nat) (sv:AV) (l:List QE) (x:QE) (st st0:St) (hq:A2X st q sv) (h0:st0 q=none) (hsup:G3 st0 st) (hl:l.length<2305843009213)
  (hs:(l=[]∧sv=.emp)∨∃ b,q≠b∧st0 b=none∧sv=.own 2 b 0 l.length∧A1C st b l) :
  S P 373 [.optr 1 q 0 0,.iface 293 (A6a x)] st fun v st'=>v=.tuple []∧∃ b,q≠b∧st0 b=none∧A2X st' q (.own 2 b 0 (l.length+1))∧A1C st' b (l++[x])∧G3 st0 st':=by
 obtain ⟨fq,hqs,hq0⟩:=hq
 refine A8 [] B9 mixed Tryz.func373 (by rfl) rfl rfl rfl ?_;conv=>whnf
 intro c hc
 have hcq:q≠c:=fun e=>by subst e;rw [hqs] at hc;cases hc
 conv=>whnf
 refine K8 (A0 ..) rfl (by omega) rfl (by rfl) ?_;conv=>whnf
 refine ⟨[6,8],[],[0,1,2,3,4,5,6,7,8],by kernel_rfl,?_⟩;conv=>whnf
 refine F7 (by rw [B1 hcq,B1 hcq];exact hqs) rfl (by omega) hq0 ?_;conv=>whnf
 have hc0:st0 c=none:=hsup.none hc
 rcases hs with ⟨rfl,rfl⟩ | ⟨b,hqb,hb0,rfl,f,hst,hf⟩
 ·conv=>whnf
  refine F7 (A0 ..) rfl (by omega) rfl ?_;conv=>whnf
  refine ⟨_,⟨rfl,rfl⟩,?_⟩;conv=>whnf
  refine apE rfl rfl rfl rfl (A5C ..) (by show 1 * 16≤_;omega) (fun h=>absurd h (by omega)) (fun _ b hb=>?_)
  have hbq:b≠q:=fun e=>by subst e;rw [B1 hcq,B1 hcq,hqs] at hb;cases hb
  have hbc:b≠c:=fun e=>by subst e;rw [A0] at hb;cases hb
  have hb':st b=none:=by rw [B1 hbc,B1 hbc] at hb;exact hb
  conv=>whnf
  refine K8 (by rw [B1 hbq.symm,B1 hcq,B1 hcq];exact hqs) rfl (by omega) hq0 (by rfl) ?_;conv=>whnf
  refine ⟨rfl,b,hbq.symm,hsup.none hb',⟨_,A0 ..,by rw [A6];rfl⟩,⟨_,by rw [B1 hbq,A0];rfl,fun k hk=>?_⟩,?_⟩
  ·have:k=0:=by simpa using hk
   subst this;rfl
  ·exact (((hsup.over hc0).over hc0).over (hsup.none hb')).over h0
 ·have hbc:b≠c:=fun e=>by subst e;rw [hst] at hc;cases hc
  conv=>whnf
  refine F7 (A0 ..) rfl (by omega) rfl ?_;conv=>whnf
  refine ⟨_,⟨rfl,rfl⟩,?_⟩;conv=>whnf
  refine apO (q:=C2O) (n:=l.length) rfl rfl rfl rfl (A5C ..) (by rw [B1 hbc,B1 hbc];exact hst) rfl rfl rfl (by show (l.length+1) * 16≤_;omega) (fun h=>absurd h (by omega)) (fun _ b' hb'=>?_)
  have hb'q:b'≠q:=fun e=>by
   subst e
   rcases hb' with e | e
   ·exact hqb e
   ·rw [B1 hcq,B1 hcq,hqs] at e;cases e
  have hb'0:st0 b'=none:=by
   rcases hb' with rfl | e
   ·exact hb0
   ·by_cases hbc':b'=c
    ·subst hbc';exact hc0
    ·rw [B1 hbc',B1 hbc'] at e;exact hsup.none e
  conv=>whnf
  refine K8 (by rw [B1 hb'q.symm];unfold del;rw [if_neg hqb,B1 hcq,B1 hcq];exact hqs) rfl (by omega) hq0 (by rfl) ?_;conv=>whnf
  refine ⟨rfl,b',hb'q.symm,hb'0,⟨_,A0 ..,by rw [A6];rfl⟩,⟨_,by rw [B1 hb'q,A0,List.length_append];rfl,fun k hk=>?_⟩,?_⟩
  ·rw [List.length_append] at hk
   simp only [List.length_cons,List.length_nil] at hk
   unfold at_
   by_cases hkl:k<l.length
   ·simp only [hkl,if_true]
    rw [hf k hkl,List.getD_eq_getElem?_getD,List.getElem?_append_left hkl,←List.getD_eq_getElem?_getD]
   ·have:k=l.length:=by omega
    subst this
    simp only [Nat.lt_irrefl,if_false,Nat.sub_self]
    rw [show (l++[x]).getD l.length default=x by simp [List.getD_eq_getElem?_getD]]
    rfl
  ·exact ((((hsup.over hc0).over hc0).del hb0).over hb'0).over h0
theorem C0I (q:Nat) (sv:AV) (l:List QE) (x:QE) (st st0:St) (hq:A2X st q sv) (h0:st0 q=none) (hsup:G3 st0 st) (hl:l.length<2305843009213) (hh:A3O l l.length)
  (hs:(l=[]∧sv=.emp)∨∃ b,q≠b∧st0 b=none∧sv=.own 2 b 0 l.length∧A1C st b l) :
  S P 236 [hI q,.iface 293 (A6a x)] st fun v st'=>v=.tuple []∧∃ b l',q≠b∧st0 b=none∧l'.Perm (l++[x])∧A3O l' l'.length∧A2X st' q (.own 2 b 0 l'.length)∧A1C st' b l'∧G3 st0 st':=by
 refine A8 [] B9 mixed Tryz.func236 (by rfl) rfl rfl rfl ?_;conv=>whnf
 refine call (C0z q sv l x st st0 hq h0 hsup hl hs) (fun v st' hv=>?_)
 obtain ⟨rfl,b,hqb,hb0,⟨fq,hqs,hq0⟩,he,hsup'⟩:=hv
 conv=>whnf
 refine F7 hqs rfl (by omega) hq0 ?_;conv=>whnf
 refine B0 (len_S b (l.length+1) _) ?_;conv=>whnf
 have w:IntKind.i64.wrap (((l.length+1:Nat):Int) - 1)=(l.length:Int):=by rw [A7 (by omega) (by omega)];omega
 rw [w]
 have e1:(l++[x]).length=l.length+1:=by simp
 have hr:Ab.Rise (l++[x]) (l++[x]).length l.length:=by rw [e1];exact hh.up x rfl
 refine call (C3F q b (l++[x]) l.length _ (by rw [e1];exact ⟨fq,hqs,hq0⟩) hqb he hr (by omega) (by omega)) (fun v st'' hv=>?_)
 obtain ⟨rfl,l',hp,hh',he',hfr⟩:=hv
 conv=>whnf
 have el:l'.length=(l++[x]).length:=hp.length_eq
 refine ⟨rfl,b,l',hqb,hb0,hp,by rw [el];exact hh',?_,he',fun c y hc=>?_⟩
 ·rw [el,e1];exact A2X.frame ⟨fq,hqs,hq0⟩ hqb hfr
 ·rw [hfr c (fun e=>by subst e;rw [hb0] at hc;cases hc)];exact hsup' c y hc
theorem B7m {l l':List QE} {m:Nat} (hm:m<l.length) (hp:l'.Perm l) (hk:∀ k,m≤k→at_ l' k=at_ (swp l 0 m) k):(at_ l 0::l'.take m).Perm (l.take (m+1)):=by
 have hlen:l'.length=l.length:=hp.length_eq
 have e1:l'.drop m=at_ l 0::l.drop (m+1):=by
  refine List.ext_getElem? fun i=>?_
  rw [List.getElem?_drop]
  have hi:=hk (m+i) (by omega)
  rw [A5G (by omega) hm] at hi
  rcases Nat.lt_or_ge (m+i) l.length with h | h
  ·have a1:l'[m+i]?=some (at_ l' (m+i)):=by
    unfold at_;rw [List.getD_eq_getElem?_getD,List.getElem?_eq_getElem (by omega)];rfl
   rw [a1,hi]
   cases i with
   | zero=>simp
   | succ i =>
    rw [if_neg (by omega),if_neg (by omega),List.getElem?_cons_succ,List.getElem?_drop]
    unfold at_
    rw [List.getD_eq_getElem?_getD,show m+(i+1)=m+1+i by omega,List.getElem?_eq_getElem (by omega)];rfl
  ·rw [List.getElem?_eq_none (by omega)]
   cases i with
   | zero=>omega
   | succ i=>rw [List.getElem?_cons_succ,List.getElem?_drop,List.getElem?_eq_none (by omega)]
 have h1:(l'.take m++(at_ l 0::l.drop (m+1))).Perm (l.take (m+1)++l.drop (m+1)):=by
  rw [←e1,List.take_append_drop,List.take_append_drop];exact hp
 have h2:((at_ l 0::l'.take m)++l.drop (m+1)).Perm (l.take (m+1)++l.drop (m+1)):=by
  refine List.Perm.trans ?_ h1
  exact List.perm_middle.symm
 exact (List.perm_append_right_iff _).1 h2
theorem C2x (q b:Nat) (l:List QE) (n:Nat) (st:St) (hq:A2X st q (.own 2 b 0 (n+1))) (hqb:q≠b) (he:A1C st b l) (hh:A3O l (n+1)) (hn:n<l.length) (hl:l.length<2305843009213693952) :
  S P 237 [hI q] st fun v st'=>v=.iface 293 (A6a (at_ l 0))∧∃ l',l'.length=l.length∧(at_ l 0::l'.take n).Perm (l.take (n+1))∧A3O l' n∧A2X st' q (.own 2 b 0 n)∧A1C st' b l'∧∀ c,c≠q→c≠b→st' c=st c:=by
 obtain ⟨fq,hqs,hq0⟩:=hq
 refine A8 [] B9 mixed Tryz.func237 (by rfl) rfl rfl rfl ?_;conv=>whnf
 refine F7 hqs rfl (by omega) hq0 ?_;conv=>whnf
 refine B0 (len_S b (n+1) _) ?_;conv=>whnf
 have w:IntKind.i64.wrap (((n+1:Nat):Int) - 1)=(n:Int):=by rw [A7 (by omega) (by omega)];omega
 rw [w]
 refine F7 hqs rfl (by omega) hq0 ?_;conv=>whnf
 refine call (B4N b l (n+1) 0 n _ he (by omega) (by omega) (by omega)) (fun v st1 hv=>?_)
 obtain ⟨rfl,he1,hfr1⟩:=hv
 have hq1:A2X st1 q (.own 2 b 0 (n+1)):=A2X.frame ⟨fq,hqs,hq0⟩ hqb hfr1
 have hd:Ab.Sink (swp l 0 n) n 0:=hh.down hn
 have hsl:(swp l 0 n).length=l.length:=B1T l 0 n
 conv=>whnf
 refine call (C0H q b (swp l 0 n) (n+1) n _ hq1 hqb he1 hd (by omega) (by omega) (by omega)) (fun v st2 hv=>?_)
 obtain ⟨⟨y,rfl⟩,l',hp,hk,hh',he2,hfr2⟩:=hv
 have hl':l'.length=l.length:=hp.length_eq.trans hsl
 have hq2:A2X st2 q (.own 2 b 0 (n+1)):=hq1.frame hqb hfr2
 have htop:at_ l' n=at_ l 0:=by rw [hk n (Nat.le_refl _),A5G (by omega) hn,if_pos rfl]
 conv=>whnf
 refine call (C2v q b l' n _ hq2 hqb he2 (by omega) (by omega)) (fun v st3 hv=>?_)
 obtain ⟨rfl,hq3,hfr3⟩:=hv
 rw [htop];conv=>whnf
 refine ⟨rfl,l',hl',B7m hn (hp.trans (A9u (by omega) hn)) hk,hh',hq3,he2.frame hqb hfr3,fun c h1 h2=>by rw [hfr3 c h1,hfr2 c h2,hfr1 c h2]⟩
structure QSt (st0:St) (q:Nat) (fresh:Bool) (es:List QE) (st:St):Prop where
 new:st0 q=none
 sup:G3 st0 st
 has:∃ sv,A2X st q sv∧((es=[]∧sv=.emp)∨∃ b l n,q≠b∧st0 b=none∧sv=.own 2 b 0 n∧n≤l.length∧l.length<2305843009213∧A3O l n∧A1C st b l∧(l.take n).Perm es∧(fresh=true→n=l.length))
theorem QSt.perm {st0 st:St} {q:Nat} {f:Bool} {es es':List QE} (h:QSt st0 q f es st) (hp:es.Perm es'):QSt st0 q f es' st:=by
 obtain ⟨h1,h2,sv,hq,h3⟩:=h
 refine ⟨h1,h2,sv,hq,?_⟩
 rcases h3 with ⟨rfl,hs⟩ | ⟨b,l,n,a1,a2,a3,a4,a5,a6,a7,a8,a9⟩
 ·exact .inl ⟨List.Perm.eq_nil hp.symm,hs⟩
 ·exact .inr ⟨b,l,n,a1,a2,a3,a4,a5,a6,a7,a8.trans hp,a9⟩
theorem B1A (st:St):S P 146 [] st fun v st'=>∃ q,v=.optr 1 q 0 0∧QSt st q true [] st':=by
 refine A8 [] B9 mixed Tryz.func146 (by rfl) rfl rfl rfl ?_;conv=>whnf
 intro q hq;conv=>whnf
 exact ⟨q,rfl,hq,(G3.refl st).upd hq,.emp,⟨_,A0 ..,rfl⟩,.inl ⟨rfl,rfl⟩⟩
theorem A7U (st0:St) (q:Nat) (es:List QE) (r k:Int) (st:St) (h:QSt st0 q true es st) (hl:es.length<2305843009212):S P 147 [.optr 1 q 0 0,eI r,eI k] st fun v st'=>v=.tuple []∧QSt st0 q true (es++[(r,k)]) st':=by
 obtain ⟨h1,h2,sv,hq,h3⟩:=h
 refine A8 [] B9 mixed Tryz.func147 (by rfl) rfl rfl rfl ?_;conv=>whnf
 have hex:∃ l:List QE,l.Perm es∧A3O l l.length∧((l=[]∧sv=.emp)∨∃ b,q≠b∧st0 b=none∧sv=.own 2 b 0 l.length∧A1C st b l):=by
  rcases h3 with ⟨rfl,hs⟩ | ⟨b,l,n,a1,a2,a3,a4,a5,a6,a7,a8,a9⟩
  ·exact ⟨[],List.Perm.refl _,fun c h0 hc=>absurd hc (by simp),.inl ⟨rfl,hs⟩⟩
  ·have e:=a9 rfl
   subst e
   rw [List.take_length] at a8
   exact ⟨l,a8,a6,.inr ⟨b,a1,a2,a3,a7⟩⟩
 obtain ⟨l,hp,hh,hs⟩:=hex
 have hll:l.length=es.length:=hp.length_eq
 refine call (C0I q sv l (r,k) st st0 hq h1 h2 (by omega) hh hs) (fun v st' hv=>?_)
 obtain ⟨rfl,b,l',hqb,hb0,hp',hh',hq',he',hsup'⟩:=hv
 have hl':l'.length=l.length+1:=by rw [hp'.length_eq];simp
 conv=>whnf
 exact ⟨rfl,h1,hsup',_,hq',.inr ⟨b,l',l'.length,hqb,hb0,rfl,Nat.le_refl _,by omega,hh',he',by rw [List.take_length];exact hp'.trans (hp.append_right _),fun _=>rfl⟩⟩
theorem A8X (st0:St) (q:Nat) (f:Bool) (es:List QE) (st:St) (h:QSt st0 q f es st):S P 148 [.optr 1 q 0 0] st fun v st'=>v=eI es.length∧st'=st:=by
 obtain ⟨h1,h2,sv,⟨fq,hqs,hq0⟩,h3⟩:=h
 refine A8 [] B9 mixed Tryz.func148 (by rfl) rfl rfl rfl ?_;conv=>whnf
 rcases h3 with ⟨rfl,rfl⟩ | ⟨b,l,n,a1,a2,rfl,a4,a5,a6,a7,a8,a9⟩
 ·refine F7 hqs rfl (by omega) hq0 ?_;conv=>whnf
  exact ⟨rfl,rfl⟩
 ·refine F7 hqs rfl (by omega) hq0 ?_;conv=>whnf
  refine ⟨?_,rfl⟩
  have:es.length=n:=by rw [←a8.length_eq,List.length_take];omega
  rw [this];rfl
theorem C1a (st0:St) (q:Nat) (f:Bool) (st:St) (h:QSt st0 q f [] st):S P 149 [.optr 1 q 0 0] st fun v st'=>v=.tuple [eI 0,eI 0,.bool false]∧st'=st:=by
 obtain ⟨h1,h2,sv,⟨fq,hqs,hq0⟩,h3⟩:=h
 refine A8 [] B9 mixed Tryz.func149 (by rfl) rfl rfl rfl ?_;conv=>whnf
 rcases h3 with ⟨_,rfl⟩ | ⟨b,l,n,a1,a2,rfl,a4,a5,a6,a7,a8,a9⟩
 ·refine F7 hqs rfl (by omega) hq0 ?_;conv=>whnf
  exact ⟨rfl,rfl⟩
 ·have e:n=0:=by
   have:=a8.length_eq
   rw [List.length_take,List.length_nil] at this;omega
  subst e
  refine F7 hqs rfl (by omega) hq0 ?_;conv=>whnf
  exact ⟨rfl,rfl⟩
theorem A8Y (st0:St) (q:Nat) (f:Bool) (x:QE) (es:List QE) (st:St) (h:QSt st0 q f (x::es) st) (htop:∀ y∈es,H0 y x=false):S P 149 [.optr 1 q 0 0] st fun v st'=>v=.tuple [eI x.1,eI x.2,.bool true]∧QSt st0 q false es st':=by
 obtain ⟨h1,h2,sv,hq,h3⟩:=h
 rcases h3 with ⟨h,_⟩ | ⟨b,l,n,a1,a2,rfl,a4,a5,a6,a7,a8,a9⟩
 ·cases h
 have hn:n=es.length+1:=by
  have:=a8.length_eq
  rw [List.length_take,List.length_cons] at this;omega
 subst hn
 have hx:at_ l 0=x:=by
  have m0:at_ l 0∈x::es:=by
   refine a8.subset ?_
   have:(l.take (es.length+1)).getD 0 default=at_ l 0:=by
    unfold at_;rw [List.getD_eq_getElem?_getD,List.getD_eq_getElem?_getD,List.getElem?_take_of_lt (by omega)]
   rw [←this];exact B4 (by rw [List.length_take];omega)
  have hmem:x∈l.take (es.length+1):=a8.symm.subset (List.mem_cons_self ..)
  obtain ⟨k,hk,he⟩:=F0 hmem
  rw [List.length_take] at hk
  have hxk:x=at_ l k:=by
   rw [he];unfold at_;rw [List.getD_eq_getElem?_getD,List.getD_eq_getElem?_getD,List.getElem?_take_of_lt (by omega)]
  have t1:H0 x (at_ l 0)=false:=by rw [hxk];exact a6.top k (by omega)
  rcases List.mem_cons.1 m0 with e | e
  ·exact e
  ·exact A7f (htop _ e) t1
 have hq':=hq
 obtain ⟨fq,hqs,hq0⟩:=hq
 refine A8 [] B9 mixed Tryz.func149 (by rfl) rfl rfl rfl ?_;conv=>whnf
 refine F7 hqs rfl (by omega) hq0 ?_;conv=>whnf
 refine call (C2x q b l es.length st hq' a1 a7 a6 (by omega) (by omega)) (fun v st' hv=>?_)
 obtain ⟨rfl,l',hl',hp',hh',hq3,he3,hfr⟩:=hv
 rw [hx] at hp' ⊢
 have hsup':G3 st0 st':=fun c y hc=>by
  rw [hfr c (fun e=>by subst e;rw [h1] at hc;cases hc) (fun e=>by subst e;rw [a2] at hc;cases hc)];exact h2 c y hc
 conv=>whnf
 intro c hc;conv=>whnf
 refine K8 (A0 ..) rfl (by omega) rfl (by rfl) ?_;conv=>whnf
 refine ⟨[],[],[0,1,2,3,4,5,6],by kernel_rfl,?_⟩;conv=>whnf
 refine F7 (A0 ..) rfl (by omega) rfl ?_;conv=>whnf
 refine F7 (A0 ..) rfl (by omega) rfl ?_;conv=>whnf
 obtain ⟨fq',hqs',hq0'⟩:=hq3
 obtain ⟨fe,hes,hef⟩:=he3
 have hcq:q≠c:=fun e=>by subst e;rw [hqs'] at hc;cases hc
 have hcb:b≠c:=fun e=>by subst e;rw [hes] at hc;cases hc
 have hc0:st0 c=none:=hsup'.none hc
 refine ⟨rfl,h1,(hsup'.over hc0).over hc0,_,⟨fq',by rw [B1 hcq,B1 hcq];exact hqs',hq0'⟩,.inr ⟨b,l',es.length,a1,a2,rfl,by omega,by omega,hh',⟨fe,by rw [B1 hcb,B1 hcb];exact hes,hef⟩,?_,fun e=>by cases e⟩⟩
 exact (List.perm_cons x).1 (hp'.trans a8)
abbrev gI (l:List Int) (k:Nat):Int:=l.getD k default
def swI (l:List Int) (i j:Nat):List Int:=(l.set i (gI l j)).set j (gI l i)
theorem A4U (l:List Int) (i j:Nat):(swI l i j).length=l.length:=by simp [swI]
theorem A5F {l:List Int} {i j:Nat} (hi:i<l.length) (hj:j<l.length) (k:Nat):gI (swI l i j) k=if k=j then gI l i else if k=i then gI l j else gI l k:=by
 unfold swI gI
 simp only [List.getD_eq_getElem?_getD,List.getElem?_set,List.length_set]
 by_cases h1:k=j
 ·subst h1;simp [hj]
 ·rw [if_neg (fun e=>h1 e.symm),if_neg h1]
  by_cases h2:k=i
  ·subst h2;simp [hi]
  ·rw [if_neg (fun e=>h2 e.symm),if_neg h2]
theorem A6A {l:List Int} {i j:Nat} (hi:i<l.length) (hj:j<l.length):(swI l i j).Perm l:=by
 have e1:gI l j=l[j]:=by simp [gI,hj]
 have e2:gI l i=l[i]:=by simp [gI,hi]
 unfold swI
 rw [e1,e2]
 exact List.set_set_perm hi hj
def X8 (st:St) (b:Nat) (l:List Int):Prop:=∃ f,st b=some ⟨3,1,l.length,f⟩∧∀ k,k<l.length→f k=eI (gI l k)
structure Ord (lt:Int→Int→Bool):Prop where
 asymm:∀ x y,lt x y=true→lt y x=false
 le:∀ x y z,lt y x=false→lt z y=false→lt z x=false
theorem Ord.irrefl {lt:Int→Int→Bool} (h:Ord lt) (x:Int):lt x x=false:=by
 cases e:lt x x with
 | false=>rfl
 | true=>have:=h.asymm x x e;rw [e] at this;cases this
def Srt (lt:Int→Int→Bool) (l:List Int) (a e:Nat):Prop:=∀ x y,a≤x→x<y→y<e→lt (gI l y) (gI l x)=false
structure Ins (lt:Int→Int→Bool) (l:List Int) (a e j:Nat):Prop where
 rest:∀ x y,a≤x→x<y→y<e→x≠j→y≠j→lt (gI l y) (gI l x)=false
 up:∀ y,j<y→y<e→lt (gI l y) (gI l j)=false
theorem Srt.ins {lt:Int→Int→Bool} {l:List Int} {a i:Nat} (h:Srt lt l a i):Ins lt l a (i+1) i :=
 ⟨fun x y hx hxy hy h1 h2=>h x y hx hxy (by omega),fun y h1 h2=>by omega⟩
theorem Ins.done {lt:Int→Int→Bool} (ho:Ord lt) {l:List Int} {a e j:Nat} (h:Ins lt l a e j) (hj:j≤a∨lt (gI l j) (gI l (j - 1))=false):Srt lt l a e:=fun x y hx hxy hy=>by
 by_cases h1:x=j
 ·subst h1;exact h.up y hxy hy
 ·by_cases h2:y=j
  ·subst h2
   rcases hj with hj | hj
   ·omega
   ·by_cases h3:x=y - 1
    ·subst h3;exact hj
    ·exact ho.le _ _ _ (h.rest x (y - 1) hx (by omega) (by omega) h1 (by omega)) hj
  ·exact h.rest x y hx hxy hy h1 h2
theorem Ins.step {lt:Int→Int→Bool} (ho:Ord lt) {l:List Int} {a e j:Nat} (h:Ins lt l a e j) (hj:a<j) (hje:j<e) (he:e≤l.length) (hlt:lt (gI l j) (gI l (j - 1))=true):Ins lt (swI l j (j - 1)) a e (j - 1):=by
 have sw:=A5F (l:=l) (i:=j) (j:=j - 1) (by omega) (by omega)
 refine ⟨fun x y hx hxy hy h1 h2=>?_,fun y h1 h2=>?_⟩
 ·rw [sw x,sw y,if_neg h1,if_neg h2]
  by_cases hxj:x=j
  ·rw [if_pos hxj,if_neg (by omega)]
   exact h.rest (j - 1) y (by omega) (by omega) hy (by omega) (by omega)
  ·rw [if_neg hxj]
   by_cases hyj:y=j
   ·rw [if_pos hyj]
    exact h.rest x (j - 1) hx (by omega) (by omega) hxj (by omega)
   ·rw [if_neg hyj];exact h.rest x y hx hxy hy hxj hyj
 ·rw [sw y,sw (j - 1),if_neg (by omega),if_pos rfl]
  by_cases hyj:y=j
  ·rw [if_pos hyj];exact ho.asymm _ _ hlt
  ·rw [if_neg hyj];exact h.up y (by omega) h2
theorem A6f (b:Nat) (l:List Int) (n a e:Nat) (g:FuncId) (cs:List AV) (cf:Int→Int→Int) (lt:Int→Int→Bool) (hlt:∀ x y,decide (cf x y<0)=lt x y) (ho:Ord lt) (st:St) (hb:X8 st b l) (hae:a≤e) (he:e≤n) (hn:n≤l.length) (hl:l.length<4611686018427387904)
  (hg:∀ x∈l,∀ y∈l,∀ st',S P g (eI x::eI y::cs) st' fun v s=>v=eI (cf x y)∧s=st') :
  S P 318 [.own 1 b 0 n,eI a,eI e,.fn (.func g) [] cs] st fun v st'=>v=.tuple []∧∃ l',l'.Perm l∧Srt lt l' a e∧(∀ k,k<a∨e≤k→gI l' k=gI l k)∧X8 st' b l'∧∀ c,c≠b→st' c=st c:=by
 refine A8 [] B9 mixed Tryz.func318 (by rfl) rfl rfl rfl ?_;conv=>whnf
 refine ⟨[0,1,2,3,8],fun m vs st'=>∃ (i:Nat) (l':List Int),a<i∧(i≤e∨i=a+1)∧l'.Perm l∧Srt lt l' a i∧(∀ k,k<a∨e≤k→gI l' k=gI l k)∧X8 st' b l'∧(∀ c,c≠b→st' c=st c)∧m=e - i∧vs=[.own 1 b 0 n,eI a,eI e,.fn (.func g) [] cs,eI i],?_,?_⟩
 ·conv=>whnf
  exact ⟨_,a+1,l,by omega,.inr rfl,List.Perm.refl _,fun x y h1 h2 h3=>by omega,fun _ _=>rfl,hb,fun _ _=>rfl,rfl,by rw [C2 (by omega)]⟩
 ·rintro m vs st' ⟨i,l',hai,hie,hp,hs,hout,hb',hfr,rfl,rfl⟩
  have hlen:l'.length=l.length:=hp.length_eq
  conv=>whnf
  cases h:decide ((i:Int)<(e:Int))
  ·have:=of_decide_eq_false h
   conv=>whnf
   refine ⟨rfl,l',hp,fun x y h1 h2 h3=>hs x y h1 h2 (by omega),hout,hb',hfr⟩
  ·have hi:i<e:=by have:=of_decide_eq_true h;omega
   conv=>whnf
   refine ⟨[0,1,2,3,8,9],fun m vs st''=>∃ (j:Nat) (l'':List Int),a≤j∧j≤i∧l''.Perm l∧Ins lt l'' a (i+1) j∧(∀ k,k<a∨e≤k→gI l'' k=gI l k)∧X8 st'' b l''∧(∀ c,c≠b→st'' c=st c)∧m=j∧vs=[.own 1 b 0 n,eI a,eI e,.fn (.func g) [] cs,eI i,eI j],?_,?_⟩
   ·conv=>whnf
    exact ⟨_,i,l',by omega,Nat.le_refl _,hp,hs.ins,hout,hb',hfr,rfl,rfl⟩
   ·clear hp hs hout hb' hfr hlen
    rintro j vs st'' ⟨_,l'',haj,hji,hp,hs,hout,⟨f,hst,hf⟩,hfr,rfl,rfl⟩
    have hlen:l''.length=l.length:=hp.length_eq
    have next:Srt lt l'' a (i+1)→∃ m',m'<e - i∧∃ (i_1:Nat) (l':List Int),a<i_1∧(i_1≤e∨i_1=a+1)∧l'.Perm l∧Srt lt l' a i_1∧(∀ k,k<a∨e≤k→gI l' k=gI l k)∧X8 st'' b l'∧(∀ c,c≠b→st'' c=st c)∧m'=e - i_1∧[AV.own 1 b 0 n,eI a,eI e,.fn (.func g) [] cs,eI (IntKind.i64.wrap ((i:Int)+1))]=[.own 1 b 0 n,eI a,eI e,.fn (.func g) [] cs,eI i_1] :=
     fun hsrt=>⟨e - (i+1),by omega,i+1,l'',by omega,.inl (by omega),hp,hsrt,hout,⟨f,hst,hf⟩,hfr,rfl,by rw [C2 (by omega)]⟩
    conv=>whnf
    refine ⟨[],[],[0,1,2,3,4,5,6,7,8,9,10,11,12,13,14,15,16],by kernel_rfl,?_⟩;conv=>whnf
    refine C0 (fun h1=>?_) (fun h1=>?_)<;>rw [h1]<;>simp only [decide_eq_true_eq,decide_eq_false_iff_not] at h1
    ·have w:IntKind.i64.wrap ((j:Int) - 1)=((j - 1:Nat):Int):=by rw [A7 (by omega) (by omega)];omega
     have fj:f (0+(j:Int).toNat)=eI (gI l'' j):=by rw [show 0+(j:Int).toNat=j by omega];exact hf j (by omega)
     have fj1:f (0+((j - 1:Nat):Int).toNat)=eI (gI l'' (j - 1)):=by rw [show 0+((j - 1:Nat):Int).toNat=j - 1 by omega];exact hf (j - 1) (by omega)
     conv=>whnf
     refine ⟨rfl,⟨by omega,by omega⟩,?_⟩;conv=>whnf
     refine F7 hst rfl (by omega) fj ?_;conv=>whnf
     rw [w]
     refine ⟨rfl,⟨by omega,by omega⟩,?_⟩;conv=>whnf
     refine F7 hst rfl (by omega) fj1 ?_;conv=>whnf
     refine ⟨_,D3 (hg (gI l'' j) (hp.subset (B4 (by omega))) (gI l'' (j - 1)) (hp.subset (B4 (by omega))) _),?_⟩;conv=>whnf
     rw [hlt]
     refine C0 (fun h2=>?_) (fun h2=>?_)<;>rw [h2]
     ·have hfj1:H2 f (0+(j:Int).toNat) (N8 (eI (gI l'' j)) 0 (cellsOf (eI (gI l'' (j - 1))))) (0+((j - 1:Nat):Int).toNat)=eI (gI l'' (j - 1)):=(G2 (by omega)).trans fj1
      conv=>whnf
      refine ⟨[15,17],[],[0,1,2,3,4,5,6,7,8,9,10,11,12,13,14,15,16,17],by kernel_rfl,?_⟩;conv=>whnf
      rw [w]
      refine ⟨rfl,⟨by omega,by omega⟩,?_⟩;conv=>whnf
      refine F7 hst rfl (by omega) fj1 ?_;conv=>whnf
      refine ⟨rfl,⟨by omega,by omega⟩,?_⟩;conv=>whnf
      refine F7 hst rfl (by omega) fj ?_;conv=>whnf
      refine ⟨rfl,⟨by omega,by omega⟩,?_⟩;conv=>whnf
      refine K8 hst rfl (by omega) fj (by rfl) ?_;conv=>whnf
      refine ⟨rfl,⟨by omega,by omega⟩,?_⟩;conv=>whnf
      refine K8 (A0 ..) rfl (by omega) hfj1 (by rfl) ?_;conv=>whnf
      refine ⟨rfl,?_⟩;conv=>whnf
      have hjl:j<l''.length:=by omega
      refine ⟨j - 1,by omega,j - 1,swI l'' j (j - 1),by omega,by omega,(A6A hjl (by omega)).trans hp,hs.step ho (by omega) (by omega) (by omega) h2,fun k hk=>?_,⟨_,by rw [A0,A4U],fun k hk=>?_⟩,fun c hc=>by rw [B1 hc,B1 hc];exact hfr c hc,rfl,by rw [w]⟩
      ·rw [A5F hjl (by omega),if_neg (by omega),if_neg (by omega)];exact hout k hk
      ·rw [A4U] at hk
       rw [A5F hjl (by omega)]
       by_cases e1:k=j - 1
       ·subst e1
        rw [if_pos rfl,show 0+((j - 1:Nat):Int).toNat=j - 1 by omega,A6];rfl
       ·rw [if_neg e1,G2 (by omega)]
        by_cases e2:k=j
        ·subst e2
         rw [if_pos rfl,show 0+(k:Int).toNat=k by omega,A6];rfl
        ·rw [if_neg e2,G2 (by omega)];exact hf k hk
     ·conv=>whnf
      refine ⟨rfl,?_⟩;conv=>whnf
      exact next (hs.done ho (.inr h2))
    ·conv=>whnf
     refine ⟨rfl,?_⟩;conv=>whnf
     exact next (hs.done ho (.inl (by omega)))
theorem Srt.congr {lt:Int→Int→Bool} {l l':List Int} {a e:Nat} (h:Srt lt l a e) (hk:∀ k,a≤k→k<e→gI l' k=gI l k):Srt lt l' a e:=fun x y h1 h2 h3=>by
 rw [hk x h1 (by omega),hk y (by omega) h3];exact h x y h1 h2 h3
theorem B9F (b:Nat) (l:List Int) (g:FuncId) (cs:List AV) (cf:Int→Int→Int) (lt:Int→Int→Bool) (hlt:∀ x y,decide (cf x y<0)=lt x y) (ho:Ord lt) (st:St) (hb:X8 st b l) (hl:l.length≤20)
  (hg:∀ x∈l,∀ y∈l,∀ st',S P g (eI x::eI y::cs) st' fun v s=>v=eI (cf x y)∧s=st') :
  S P 262 [.own 1 b 0 l.length,eI l.length,.fn (.func g) [] cs] st fun v st'=>v=.tuple []∧∃ l',l'.Perm l∧Srt lt l' 0 l.length∧X8 st' b l'∧∀ c,c≠b→st' c=st c:=by
 refine A8 [] B9 mixed Tryz.func262 (by rfl) rfl rfl rfl ?_;conv=>whnf
 refine ⟨[0,1,2,6,7,8],fun m vs st'=>(m=1∧st'=st∧vs=[.own 1 b 0 l.length,eI l.length,.fn (.func g) [] cs,eI 20,eI 0,eI 20]) ∨
  (m=0∧l.length=20∧(∃ l',l'.Perm l∧Srt lt l' 0 l.length∧X8 st' b l'∧∀ c,c≠b→st' c=st c)∧vs=[.own 1 b 0 l.length,eI l.length,.fn (.func g) [] cs,eI 20,eI 20,eI 40]),?_,?_⟩
 ·conv=>whnf
  exact ⟨1,.inl ⟨rfl,rfl,rfl⟩⟩
 ·rintro m vs st' (⟨rfl,rfl,rfl⟩ | ⟨rfl,h20,⟨l',hp,hs,hb',hfr⟩,rfl⟩)
  ·conv=>whnf
   refine C0 (fun h1=>?_) (fun h1=>?_)<;>rw [h1]<;>simp only [decide_eq_true_eq,decide_eq_false_iff_not] at h1
   ·have h20:l.length=20:=by omega
    conv=>whnf
    refine call (A6f b l l.length 0 20 g cs cf lt hlt ho _ hb (by omega) (by omega) (by omega) (by omega) hg) (fun v st1 hv=>?_)
    obtain ⟨rfl,l',hp,hs,hout,hb',hfr⟩:=hv
    conv=>whnf
    refine ⟨rfl,?_⟩;conv=>whnf
    exact ⟨0,by omega,.inr ⟨rfl,h20,⟨l',hp,by rw [h20];exact hs,hb',hfr⟩,rfl⟩⟩
   ·conv=>whnf
    refine call (A6f b l l.length 0 l.length g cs cf lt hlt ho _ hb (by omega) (by omega) (by omega) (by omega) hg) (fun v st1 hv=>?_)
    obtain ⟨rfl,l',hp,hs,hout,hb',hfr⟩:=hv
    conv=>whnf
    refine A7G [0,1,2,6] ?_;conv=>whnf
    intro I
    refine C0 (fun h2=>?_) (fun h2=>?_)<;>rw [h2]<;>simp only [decide_eq_true_eq,decide_eq_false_iff_not] at h2
    ·exact absurd h2 (by omega)
    ·conv=>whnf
     exact ⟨rfl,l',hp,hs,hb',hfr⟩
  ·have hlen:l'.length=l.length:=hp.length_eq
   conv=>whnf
   refine C0 (fun h1=>?_) (fun h1=>?_)<;>rw [h1]<;>simp only [decide_eq_true_eq,decide_eq_false_iff_not] at h1
   ·exact absurd h1 (by omega)
   ·conv=>whnf
    refine call (A6f b l' l.length 20 l.length g cs cf lt hlt ho _ hb' (by omega) (by omega) (by omega) (by omega) (fun x hx y hy=>hg x (hp.subset hx) y (hp.subset hy))) (fun v st1 hv=>?_)
    obtain ⟨rfl,l2,hp2,hs2,hout,hb2,hfr2⟩:=hv
    conv=>whnf
    refine A7G [0,1,2,6] ?_;conv=>whnf
    intro I
    refine C0 (fun h2=>?_) (fun h2=>?_)<;>rw [h2]<;>simp only [decide_eq_true_eq,decide_eq_false_iff_not] at h2
    ·exact absurd h2 (by omega)
    ·conv=>whnf
     exact ⟨rfl,l2,hp2.trans hp,hs.congr (fun k _ hk=>hout k (by omega)),hb2,fun c hc=>(hfr2 c hc).trans (hfr c hc)⟩
def A2C (N:Nat):Prop:=∀ (b:Nat) (l:List Int) (g:FuncId) (cs:List AV) (cf:Int→Int→Int) (lt:Int→Int→Bool) (hlt:∀ x y,decide (cf x y<0)=lt x y) (ho:Ord lt) (st:St) (hb:X8 st b l) (hl:l.length≤N)
  (hg:∀ x∈l,∀ y∈l,∀ st',S P g (eI x::eI y::cs) st' fun v s=>v=eI (cf x y)∧s=st'),
  S P 262 [.own 1 b 0 l.length,eI l.length,.fn (.func g) [] cs] st fun v st'=>v=.tuple []∧∃ l',l'.Perm l∧Srt lt l' 0 l.length∧X8 st' b l'∧∀ c,c≠b→st' c=st c
theorem A9s:A2C 20:=fun b l g cs cf lt hlt ho st hb hl hg=>B9F b l g cs cf lt hlt ho st hb hl hg
theorem B1N {N:Nat} (hN:A2C N) (b:Nat) (l:List Int) (g:FuncId) (cs:List AV) (cf:Int→Int→Int) (lt:Int→Int→Bool) (hlt:∀ x y,decide (cf x y<0)=lt x y) (ho:Ord lt) (st:St) (hb:X8 st b l) (hl:l.length≤N)
  (hg:∀ x∈l,∀ y∈l,∀ st',S P g (eI x::eI y::cs) st' fun v s=>v=eI (cf x y)∧s=st') :
  S P 190 [.own 1 b 0 l.length,.fn (.func g) [] cs] st fun v st'=>v=.tuple []∧∃ l',l'.Perm l∧Srt lt l' 0 l.length∧X8 st' b l'∧∀ c,c≠b→st' c=st c:=by
 refine A8 [] B9 mixed Tryz.func190 (by rfl) rfl rfl rfl ?_;conv=>whnf
 refine call (hN b l g cs cf lt hlt ho st hb hl hg) (fun v st' hv=>?_)
 obtain ⟨rfl,h⟩:=hv
 conv=>whnf
 exact ⟨rfl,h⟩
theorem B8s (f:AV) (st:St):S P 318 [.emp,eI 0,eI 0,f] st fun v st'=>v=.tuple []∧st'=st:=by
 refine A8 [] B9 mixed Tryz.func318 (by rfl) rfl rfl rfl ?_;conv=>whnf
 refine A7G [0,1,2,3,8] ?_;conv=>whnf
 intro I
 exact ⟨rfl,rfl⟩
theorem B7d (f:AV) (st:St):S P 262 [.emp,eI 0,f] st fun v st'=>v=.tuple []∧st'=st:=by
 refine A8 [] B9 mixed Tryz.func262 (by rfl) rfl rfl rfl ?_;conv=>whnf
 refine A7G [0,1,2,6,7,8] ?_;conv=>whnf
 intro I
 refine B0 (B8s f st) ?_;conv=>whnf
 refine A7G [0,1,2,6] ?_;conv=>whnf
 intro I
 exact ⟨rfl,rfl⟩
theorem A9U (f:AV) (st:St):S P 190 [.emp,f] st fun v st'=>v=.tuple []∧st'=st:=by
 refine A8 [] B9 mixed Tryz.func190 (by rfl) rfl rfl rfl ?_;conv=>whnf
 refine B0 (B7d f st) ?_;conv=>whnf
 exact ⟨rfl,rfl⟩
theorem QSt.grow {st0 st:St} {q bo bo':Nat} {f:Bool} {es:List QE} {y y':Q3} (h:QSt (upd st0 bo y) q f es st) (h0:st0 bo=none) (hb:bo'=bo∨st bo'=none):st0 bo'=none∧QSt (upd st0 bo' y') q f es (upd (del st bo) bo' y'):=by
 obtain ⟨h1,h2,sv,⟨fq,hqs,hq0⟩,h3⟩:=h
 have hqo:q≠bo:=fun e=>by subst e;rw [A0] at h1;cases h1
 have hq1:st0 q=none:=by rw [B1 hqo] at h1;exact h1
 have hqb:q≠bo':=fun e=>by
  subst e
  rcases hb with e | e
  ·exact hqo e
  ·rw [hqs] at e;cases e
 have hsub:∀ c x,st0 c=some x→c≠bo∧st c=some x:=fun c x hc=>by
  have hne:c≠bo:=fun e=>by subst e;rw [h0] at hc;cases hc
  exact ⟨hne,h2 c x (by rw [B1 hne];exact hc)⟩
 have hbo':st0 bo'=none:=by
  rcases hb with e | e
  ·rw [e];exact h0
  ·cases hx:st0 bo' with
   | none=>rfl
   | some x=>rw [(hsub _ _ hx).2] at e;cases e
 refine ⟨hbo',by rw [B1 hqb];exact hq1,fun c x hc=>?_,sv,⟨fq,by rw [B1 hqb];unfold del;rw [if_neg hqo];exact hqs,hq0⟩,?_⟩
 ·by_cases hcb:c=bo'
  ·subst hcb;rw [A0] at hc ⊢;exact hc
  ·rw [B1 hcb] at hc ⊢
   obtain ⟨a,b⟩:=hsub c x hc
   unfold del;rw [if_neg a];exact b
 ·rcases h3 with h3 | ⟨b,l,n,a1,a2,a3,a4,a5,a6,⟨fe,hes,hef⟩,a8,a9⟩
  ·exact .inl h3
  ·have hbo:b≠bo:=fun e=>by subst e;rw [A0] at a2;cases a2
   have hb0:st0 b=none:=by rw [B1 hbo] at a2;exact a2
   have hbb:b≠bo':=fun e=>by
    subst e
    rcases hb with e | e
    ·exact hbo e
    ·rw [hes] at e;cases e
   exact .inr ⟨b,l,n,a1,by rw [B1 hbb];exact hb0,a3,a4,a5,a6,⟨fe,by rw [B1 hbb];unfold del;rw [if_neg hbo];exact hes,hef⟩,a8,a9⟩
theorem QSt.begin {st0 st:St} {q bo:Nat} {f:Bool} {es:List QE} {y:Q3} (h:QSt st0 q f es st) (hb:st bo=none):st0 bo=none∧QSt (upd st0 bo y) q f es (upd st bo y):=by
 obtain ⟨h1,h2,sv,⟨fq,hqs,hq0⟩,h3⟩:=h
 have hqb:q≠bo:=fun e=>by subst e;rw [hqs] at hb;cases hb
 refine ⟨h2.none hb,by rw [B1 hqb];exact h1,fun c x hc=>?_,sv,⟨fq,by rw [B1 hqb];exact hqs,hq0⟩,?_⟩
 ·by_cases hcb:c=bo
  ·subst hcb;rw [A0] at hc ⊢;exact hc
  ·rw [B1 hcb] at hc ⊢;exact h2 c x hc
 ·rcases h3 with h3 | ⟨b,l,n,a1,a2,a3,a4,a5,a6,⟨fe,hes,hef⟩,a8,a9⟩
  ·exact .inl h3
  ·have hbb:b≠bo:=fun e=>by subst e;rw [hes] at hb;cases hb
   exact .inr ⟨b,l,n,a1,by rw [B1 hbb];exact a2,a3,a4,a5,a6,⟨fe,by rw [B1 hbb];exact hes,hef⟩,a8,a9⟩
def X4 (ty e:Nat) (fo:Nat→AV) (n:Nat) (st1:St) (q:Nat) (f:Bool) (es:List QE) (sv:AV) (st':St):Prop :=
 (n=0∧sv=.emp∧QSt st1 q f es st')∨(0<n∧∃ bo g,st1 bo=none∧sv=.own e bo 0 n∧(∀ k,k<n→g k=fo k)∧QSt (upd st1 bo ⟨ty,e,n,g⟩) q f es st')
theorem X4.len_S {ty e:Nat} {fo:Nat→AV} {n:Nat} {st1:St} {q:Nat} {f:Bool} {es:List QE} {sv:AV} {st':St} (h:X4 ty e fo n st1 q f es sv st') :
  S P 148 [.optr 1 q 0 0] st' fun v st''=>v=eI es.length∧st''=st':=by
 rcases h with ⟨_,_,h⟩ | ⟨_,bo,g,_,_,_,h⟩
 ·exact A8X _ _ _ _ _ h
 ·exact A8X _ _ _ _ _ h
theorem X4.pop_S {ty e:Nat} {fo:Nat→AV} {n:Nat} {st1:St} {q:Nat} {f:Bool} {x:QE} {es:List QE} {sv:AV} {st':St} (h:X4 ty e fo n st1 q f (x::es) sv st') (htop:∀ y∈es,H0 y x=false) :
  S P 149 [.optr 1 q 0 0] st' fun v st''=>v=.tuple [eI x.1,eI x.2,.bool true]∧X4 ty e fo n st1 q false es sv st'':=by
 rcases h with ⟨h1,h2,h⟩ | ⟨h0,bo,g,h1,h2,h3,h⟩
 ·exact (A8Y _ _ _ _ _ _ h htop).mono fun v s hv=>⟨hv.1,.inl ⟨h1,h2,hv.2⟩⟩
 ·exact (A8Y _ _ _ _ _ _ h htop).mono fun v s hv=>⟨hv.1,.inr ⟨h0,bo,g,h1,h2,h3,hv.2⟩⟩
theorem X4.app {T:F9} {t:TypeId} {x sv:AV} {st1 st':St} {k:KK} {r q:D2} {el n qq:Nat} {fl:Bool} {es:List QE} {f g:Nat→AV} (hr:T t=some r) (hd:r.desc=.slice el) (hq:T el=some q)
  (hz:(Nat.blt 0 q.size&&Nat.blt 0 q.bytes&&Nat.beq q.zero.cells.size q.size)=true) (hs:V9 q.size st' x=some (1,g)) (hg:g 0=f n) (hb:(n+1) * q.bytes≤140737488355328)
  (hc:X4 el q.size f n st1 qq fl es sv st') (hk:∀ sv' st'',X4 el q.size f (n+1) st1 qq fl es sv' st''→k sv' st''):A4w T t sv x st' k:=by
 rcases hc with ⟨rfl,rfl,h⟩ | ⟨h0,bo,y,h1,rfl,h4,h⟩
 ·refine apE hr hd hq hz hs (by omega) (fun h=>by omega) (fun _ b hb=>?_)
  obtain ⟨hb0,hn⟩:=h.begin (y:=⟨el,q.size,1,g⟩) hb
  have e0:∀ k,k<0+1→g k=f k:=fun k hk=>by
   have:k=0:=by omega
   rw [this];exact hg
  exact hk _ _ (.inr ⟨by omega,b,g,hb0,rfl,e0,hn⟩)
 ·have hby:st' bo=some ⟨el,q.size,n,y⟩:=h.sup bo _ (A0 ..)
  refine apO hr hd hq hz hs hby rfl rfl rfl hb (fun h=>by omega) (fun _ b' hb'=>?_)
  obtain ⟨hb0,hn⟩:=h.grow (y':=⟨el,q.size,n+1,fun i=>if i<n then y i else g (i - n)⟩) h1 hb'
  refine hk _ _ (.inr ⟨by omega,b',_,hb0,rfl,fun k hk=>?_,hn⟩)
  by_cases hkn:k<n
  ·simp only [hkn,if_true];exact h4 k hkn
  ·have:k=n:=by omega
   subst this
   simp only [hkn,if_false,Nat.sub_self];exact hg
theorem X4.shift {ty e:Nat} {fo:Nat→AV} {n:Nat} {st1:St} {q:Nat} {f:Bool} {es:List QE} {sv:AV} {st':St} (h:X4 ty e fo n st1 q f es sv st'):B3 [sv] st' [.arr e n fo] st1:=by
 rcases h with ⟨rfl,rfl,h⟩ | ⟨h0,bo,g,h1,rfl,h3,h⟩
 ·exact (h.sup.shift [.emp]).trans (I8 e fo)
 ·have h2:=O0 (st:=upd st1 bo ⟨ty,e,n,g⟩) (e:=e) (b:=bo) (n:=n) (f:=fo) (A0 ..) rfl (Nat.le_refl _) h3
  rw [A2b h1] at h2
  exact (h.sup.shift [.own e bo 0 n]).trans h2
def U4 (codes:List D7) (p:A9):Bool:=J0 p.code||codes.any fun c=>p.code.toList==c.toList
abbrev E6 (l:List A9) (x:Int):A9:=l.getD x.toNat default
def places (l:List A9) (codes:List D7) (i:Nat):List Int:=((List.range i).filter fun k=>U4 codes (l.getD k default)).map Int.ofNat
theorem A4i (l:List A9) (codes:List D7) (i:Nat):places l codes (i+1)=places l codes i++(if U4 codes (l.getD i default)=true then [(i:Int)] else []):=by
 unfold places
 rw [List.range_succ,List.filter_append,List.map_append]
 congr 1
 by_cases h:U4 codes (l.getD i default)=true
 ·rw [if_pos h,List.filter_cons_of_pos (p:=fun k=>U4 codes (l.getD k default)) h];rfl
 ·rw [if_neg h,List.filter_cons_of_neg (p:=fun k=>U4 codes (l.getD k default)) h];rfl
theorem W8 {l:List A9} {codes:List D7} {i:Nat} {x:Int} (h:x∈places l codes i):0≤x∧x.toNat<i:=by
 unfold places at h
 obtain ⟨k,hk,rfl⟩:=List.mem_map.1 h
 have:=List.mem_range.1 (List.mem_filter.1 hk).1
 show 0≤(k:Int)∧(k:Int).toNat<i
 omega
theorem S7 (l:List A9) (codes:List D7) (i:Nat):(places l codes i).length≤i:=by
 unfold places
 rw [List.length_map]
 exact Nat.le_trans (List.length_filter_le ..) (by simp)
def C0K (l:List A9) (x y:Int):Bool:=slt (E6 l x).id (E6 l y).id
theorem C3G (l:List A9):Ord (C0K l):=⟨fun x y h=>A4R h,fun x y z h1 h2=>A2R h1 h2⟩
theorem C2p (l:List A9) (x y:Int) (hx:0≤x∧x.toNat<l.length) (hy:0≤y∧y.toNat<l.length) (st:St) :
  S P 191 [eI x,eI y,.fptr (B2 15 B7 l) 0] st fun v st'=>v=eI (A6N (E6 l x).id (E6 l y).id)∧st'=st:=by
 refine A8 [] B9 mixed Tryz.func191 (by rfl) rfl rfl rfl ?_;conv=>whnf
 refine ⟨[],[],[0,1,2,3,4,5,6,7,8,9,10,11],by kernel_rfl,?_⟩;conv=>whnf
 refine ⟨rfl,⟨by omega,by omega⟩,?_⟩;conv=>whnf
 refine ⟨rfl,⟨by omega,by omega⟩,?_⟩;conv=>whnf
 refine ⟨_,D3 (C1M (E6 l x).id (E6 l y).id _),?_⟩;conv=>whnf
 exact ⟨rfl,rfl⟩
theorem J4 {a b:List Int} {k:Nat} (h:k<a.length):gI (a++b) k=gI a k:=by
 unfold gI;rw [List.getD_eq_getElem?_getD,List.getD_eq_getElem?_getD,List.getElem?_append_left h]
theorem A6c (a:List Int) (x:Int):gI (a++[x]) a.length=x:=by
 unfold gI;simp [List.getD_eq_getElem?_getD]
def A6G (l:List A9) (codes:List D7) (o:List Int):Prop:=o.Perm (places l codes l.length)∧Srt (C0K l) o 0 o.length
def A9a (l:List A9) (o:List Int) (k:Nat):QE:=((E6 l (gI o k)).prio,(k:Int))
def Z5 (l:List A9) (o:List Int):List QE:=((List.range o.length).map (A9a l o)).mergeSort fun a b=>!H0 b a
theorem A0g (l:List A9) (o:List Int):(Z5 l o).Perm ((List.range o.length).map (A9a l o)):=List.mergeSort_perm ..
theorem A5h (l:List A9) (o:List Int):(Z5 l o).Pairwise fun a b=>H0 b a=false:=by
 have:=List.pairwise_mergeSort (le:=fun a b:QE=>!H0 b a) (fun a b c h1 h2=>by simp only [Bool.not_eq_true'] at *;exact A0e h2 h1) (fun a b=>by
  cases h:H0 b a with
  | false=>rfl
  | true=>rw [A0f h];rfl) ((List.range o.length).map (A9a l o))
 exact this.imp (fun h=>by simpa using h)
theorem A3r {l:List A9} {o:List Int} {e:QE} (h:e∈Z5 l o):0≤e.2∧e.2.toNat<o.length:=by
 obtain ⟨k,hk,rfl⟩:=List.mem_map.1 ((A0g l o).subset h)
 have:=List.mem_range.1 hk
 simp only [A9a];omega
theorem A3q (l:List A9) (o:List Int):(Z5 l o).length=o.length:=by
 rw [(A0g l o).length_eq];simp
abbrev L3 (l:List A9) (o:List Int):List Int:=(Z5 l o).map fun e=>gI o e.2.toNat
theorem X4.sup {ty e:Nat} {fo:Nat→AV} {n:Nat} {st1:St} {q:Nat} {f:Bool} {es:List QE} {sv:AV} {st':St} (h:X4 ty e fo n st1 q f es sv st'):G3 st1 st':=by
 rcases h with ⟨_,_,h⟩ | ⟨_,bo,g,h1,_,_,h⟩
 ·exact h.sup
 ·exact ((G3.refl st1).upd h1).trans h.sup
theorem C0X {N:Nat} (hN:A2C N) (l:List A9) (codes:List D7) (hl:l.length≤60) (hc:codes.length≤9223372036854775807) (h20:(places l codes l.length).length≤N) (st:St) :
  S P 99 [B2 15 B7 l,D9 codes] st fun v st'=>(∃ o:List Int,A6G l codes o∧v=B6 (L3 l o))∧st'=st:=by
 refine S.post (post:=fun v st'=>∃ (o:List Int) (st1:St) (q:Nat) (fl:Bool),A6G l codes o∧G3 st st1∧X4 3 1 (fun k=>eI (gI (L3 l o) k)) (L3 l o).length st1 q fl [] v st') ?_
  (fun v st' ⟨o,st1,q,fl,ho,hs,hq⟩=>⟨B6 (L3 l o),st,⟨⟨o,ho,rfl⟩,rfl⟩,hq.shift.trans (hs.shift _)⟩)
 refine A8 [2,7] B9 mixed Tryz.func99 (by rfl) rfl rfl rfl ?_;conv=>whnf
 refine ⟨[1,2,5,15,16,17],fun m vs st'=>∃ (i:Nat) (sv:AV),i≤l.length∧m=l.length - i∧vs=[D9 codes,.fptr (B2 15 B7 l) 0,sv,B2 15 B7 l,eI l.length,eI i]∧N1 3 1 (fun k=>eI (gI (places l codes i) k)) st (places l codes i).length sv st',?_,?_⟩
 ·conv=>whnf
  exact ⟨_,0,.emp,Nat.zero_le _,rfl,rfl,N1.start _ _ _ _⟩
 ·rintro m vs st' ⟨i,sv,hi,rfl,rfl,hcol⟩
  conv=>whnf
  cases h:decide ((i:Int)<(l.length:Int))
  ·have:=of_decide_eq_false h
   obtain rfl:i=l.length:=by omega
   conv=>whnf
   have key:∀ K:KK,(∀ v st1 o,v=.tuple []→A6G l codes o→G3 st st1→((o=[]∧sv=.emp)∨∃ b,sv=.own 1 b 0 o.length∧X8 st1 b o∧0<o.length)→K v st1)→A1c P 190 [sv,.fn (.func 191) [] [.fptr (B2 15 B7 l) 0]] st' K:=fun K hK=>by
    rcases hcol with ⟨h0,rfl,rfl⟩ | ⟨h0,b,g,hb,rfl,rfl,hg⟩
    ·have hP:places l codes l.length=[]:=List.eq_nil_of_length_eq_zero h0
     refine call (A9U _ _) (fun v st1 hv=>?_)
     obtain ⟨rfl,rfl⟩:=hv
     exact hK _ _ [] rfl ⟨by rw [hP],fun x y _ _ h=>by simp at h⟩ (G3.refl _) (.inl ⟨rfl,rfl⟩)
    ·refine call (B1N hN b (places l codes l.length) _ _ (fun x y=>A6N (E6 l x).id (E6 l y).id) (C0K l) (fun x y=>A8l _ _) (C3G l) _ ⟨g,A0 ..,hg⟩ h20 (fun x hx y hy s=>C2p l x y (W8 hx) (W8 hy) s)) (fun v st1 hv=>?_)
     obtain ⟨rfl,l',hp,hs,hb',hfr⟩:=hv
     have hll:l'.length=(places l codes l.length).length:=hp.length_eq
     refine hK _ st1 l' rfl ⟨hp,by rw [hll];exact hs⟩ (fun c x hc=>?_) (.inr ⟨b,by rw [hll],hb',by omega⟩)
     have hne:c≠b:=fun e=>by subst e;rw [hb] at hc;cases hc
     rw [hfr c hne,B1 hne];exact hc
   refine key _ (fun v st1 o hv ho hsup hsv=>?_)
   subst hv
   clear key hcol
   have hmem:∀ k,k<o.length→0≤gI o k∧(gI o k).toNat<l.length:=fun k hk=>W8 (ho.1.subset (B4 hk))
   conv=>whnf
   refine call (B1A st1) (fun v st2 hv=>?_)
   obtain ⟨q,rfl,hq⟩:=hv
   conv=>whnf
   rcases hsv with ⟨rfl,rfl⟩ | ⟨b,rfl,⟨fb,hst,hfb⟩,hpos⟩
   ·conv=>whnf
    refine A7G [2,5,8,40,41,42] ?_;conv=>whnf
    intro I
    refine A7G [5,8,11] ?_;conv=>whnf
    intro I
    refine B0 (A8X _ _ _ _ _ hq) ?_;conv=>whnf
    exact ⟨[],st1,q,true,ho,hsup,.inl ⟨by rw [List.length_map,A3q];rfl,rfl,hq⟩⟩
   ·have hol:o.length≤60:=by rw [ho.1.length_eq];have:=S7 l codes l.length;omega
    conv=>whnf
    refine ⟨[2,5,8,40,41,42],fun m vs st'=>∃ i:Nat,i≤o.length∧m=o.length - i∧vs=[.fptr (B2 15 B7 l) 0,.own 1 b 0 o.length,.optr 1 q 0 0,.own 1 b 0 o.length,eI o.length,eI i]∧QSt st1 q true ((List.range i).map (A9a l o)) st',?_,?_⟩
    ·conv=>whnf
     exact ⟨_,0,Nat.zero_le _,rfl,rfl,hq⟩
    ·clear hq
     rintro m vs st' ⟨i,hi,rfl,rfl,hq⟩
     have hst':=hq.sup b _ hst
     conv=>whnf
     cases h:decide ((i:Int)<(o.length:Int))
     ·have:=of_decide_eq_false h
      obtain rfl:i=o.length:=by omega
      conv=>whnf
      refine ⟨[5,8,11],fun m vs st'=>∃ (t:Nat) (sv:AV) (fl:Bool),t≤o.length∧m=o.length - t∧vs=[.own 1 b 0 o.length,.optr 1 q 0 0,sv]∧X4 3 1 (fun k=>eI (gI (L3 l o) k)) t st1 q fl ((Z5 l o).drop t) sv st',?_,?_⟩
      ·conv=>whnf
       exact ⟨_,0,.emp,true,Nat.zero_le _,rfl,rfl,.inl ⟨rfl,rfl,hq.perm (A0g l o).symm⟩⟩
      ·rintro m vs st' ⟨t,sv,fl,ht,rfl,rfl,hout⟩
       have hst':=hout.sup b _ hst
       have hrl:=A3q l o
       conv=>whnf
       refine B0 (hout.len_S) ?_;conv=>whnf
       refine C0 (fun h1=>?_) (fun h1=>?_)<;>rw [h1]<;>simp only [decide_eq_true_eq,decide_eq_false_iff_not,List.length_drop] at h1
       ·have htl:t<(Z5 l o).length:=by omega
        have hsplit:(Z5 l o).drop t=(Z5 l o)[t]::(Z5 l o).drop (t+1):=List.drop_eq_getElem_cons htl
        have hsort:=A5h l o
        have htop:∀ y∈(Z5 l o).drop (t+1),H0 y (Z5 l o)[t]=false:=fun y hy=>by
         have:=hsort.sublist (List.drop_sublist t _)
         rw [hsplit,List.pairwise_cons] at this
         exact this.1 y hy
        have hx:=A3r (List.getElem_mem htl)
        have hres:gI (L3 l o) t=gI o ((Z5 l o)[t]).2.toNat:=by
         unfold gI L3
         rw [List.getD_eq_getElem?_getD,List.getElem?_map,List.getElem?_eq_getElem htl];rfl
        rw [hsplit] at hout
        generalize (Z5 l o)[t]=x at *
        conv=>whnf
        refine call (hout.pop_S htop) (fun v st'' hv=>?_)
        obtain ⟨rfl,hout'⟩:=hv
        have hst'':=hout'.sup b _ hst
        conv=>whnf
        refine ⟨rfl,⟨by omega,by omega⟩,?_⟩;conv=>whnf
        refine F7 hst'' rfl (by omega) (v:=eI (gI o x.2.toNat)) (by rw [Nat.zero_add];exact hfb _ hx.2) ?_;conv=>whnf
        refine X4.app (q:=r3) rfl rfl rfl rfl rfl (by simp only [hres];rfl) (by show (t+1) * 8≤140737488355328;omega) hout' (fun sv' st3 hout3=>?_);conv=>whnf
        refine ⟨rfl,?_⟩;conv=>whnf
        exact ⟨o.length - (t+1),by omega,t+1,sv',false,by omega,rfl,rfl,hout3⟩
       ·have hte:t=o.length:=by omega
        subst hte;conv=>whnf
        refine ⟨o,st1,q,fl,ho,hsup,?_⟩
        rw [show (L3 l o).length=o.length by rw [List.length_map,hrl]]
        rw [show (Z5 l o).drop o.length=[] by rw [←hrl,List.drop_length]] at hout
        exact hout
     ·have hi':i<o.length:=by have:=of_decide_eq_true h;omega
      have hm:=hmem i hi'
      conv=>whnf
      refine ⟨rfl,⟨by omega,by omega⟩,?_⟩;conv=>whnf
      refine F7 hst' rfl (by omega) (v:=eI (gI o i)) (by rw [show 0+(i:Int).toNat=i by omega];exact hfb i hi') ?_;conv=>whnf
      refine ⟨rfl,⟨by omega,by omega⟩,?_⟩;conv=>whnf
      refine call (A7U st1 q _ (E6 l (gI o i)).prio i _ hq (by rw [List.length_map,List.length_range];omega)) (fun v st'' hv=>?_)
      obtain ⟨rfl,hq'⟩:=hv
      conv=>whnf
      refine ⟨rfl,?_⟩;conv=>whnf
      refine ⟨o.length - (i+1),by omega,i+1,by omega,rfl,by rw [C2 (by omega)],?_⟩
      rw [List.range_succ,List.map_append];exact hq'
  ·have hi':i<l.length:=by have:=of_decide_eq_true h;omega
   have hpl:=S7 l codes i
   conv=>whnf
   refine ⟨rfl,⟨by omega,by omega⟩,?_⟩;conv=>whnf
   have yes:U4 codes (l.getD (i:Int).toNat default)=true→∀ (K:KK),(∀ sv' st'',N1 3 1 (fun k=>eI (gI (places l codes (i+1)) k)) st (places l codes (i+1)).length sv' st''→K sv' st'')→A4w T 29 sv (.arr 1 1 fun k=>[AV.int .i64 (i:Int)].getD k .junk) st' K:=fun ha K hK=>by
    have es:=A4i l codes i
    rw [if_pos (show U4 codes (l.getD i default)=true from ha)] at es
    have el:(places l codes (i+1)).length=(places l codes i).length+1:=by rw [es];simp
    refine N1.app (q:=r3) rfl rfl rfl rfl rfl ?_ (by show ((places l codes i).length+1) * 8≤140737488355328;omega) (hcol.congr (f':=fun k=>eI (gI (places l codes (i+1)) k)) fun k hk=>by rw [es,J4 hk]) (fun sv' st'' hc'=>hK sv' st'' (by rw [el];exact hc'))
    rw [es,A6c];rfl
   have no:U4 codes (l.getD (i:Int).toNat default)=false→places l codes (i+1)=places l codes i:=fun ha=>by
    have es:=A4i l codes i
    rw [if_neg (show ¬ U4 codes (l.getD i default)=true by rw [show U4 codes (l.getD i default)=false from ha];simp),List.append_nil] at es
    exact es
   have fin:∀ sv' st'',N1 3 1 (fun k=>eI (gI (places l codes (i+1)) k)) st (places l codes (i+1)).length sv' st''→∃ m',m'<l.length - i∧∃ (i_1:Nat) (sv:AV),i_1≤l.length∧m'=l.length - i_1∧[D9 codes,AV.fptr (B2 15 B7 l) 0,sv',B2 15 B7 l,eI l.length,eI (IntKind.i64.wrap ((i:Int)+1))]=[D9 codes,.fptr (B2 15 B7 l) 0,sv,B2 15 B7 l,eI l.length,eI i_1]∧N1 3 1 (fun k=>eI (gI (places l codes i_1) k)) st (places l codes i_1).length sv st'' :=
    fun sv' st'' hc'=>⟨l.length - (i+1),by omega,i+1,sv',by omega,rfl,by rw [C2 (by omega)],hc'⟩
   refine C0 (fun h1=>?_) (fun h1=>?_)
   ·have ha:U4 codes (l.getD (i:Int).toNat default)=true:=by unfold U4;rw [show J0 (l.getD (i:Int).toNat default).code=true from h1,Bool.true_or]
    rw [h1];conv=>whnf
    refine yes ha _ (fun sv' st'' hc'=>?_);conv=>whnf
    refine ⟨rfl,?_⟩;conv=>whnf
    exact fin _ _ hc'
   ·rw [h1];conv=>whnf
    refine B0 (B9G codes hc (l.getD (i:Int).toNat default).code _) ?_;conv=>whnf
    refine C0 (fun h2=>?_) (fun h2=>?_)
    ·have ha:U4 codes (l.getD (i:Int).toNat default)=true:=by unfold U4;rw [h2,Bool.or_true]
     rw [h2];conv=>whnf
     refine yes ha _ (fun sv' st'' hc'=>?_);conv=>whnf
     refine ⟨rfl,?_⟩;conv=>whnf
     exact fin _ _ hc'
    ·have ha:U4 codes (l.getD (i:Int).toNat default)=false:=by unfold U4;rw [show J0 (l.getD (i:Int).toNat default).code=false from h1,h2];rfl
     rw [h2];conv=>whnf
     refine ⟨rfl,?_⟩;conv=>whnf
     exact fin _ _ (by rw [no ha];exact hcol)
theorem C3w (a b:Int) (ha:0≤a) (hb:0≤b) (hab:a+b≤100000000000000) (st:St):S P 345 [eI a,eI b] st fun v st'=>v=.tuple [eI (a+b),eI 0]∧st'=st:=by
 have ra:(decide (0≤a)&&decide (a≤100000000000000))=true:=by simp;omega
 have rb:(decide (0≤b)&&decide (b≤100000000000000))=true:=by simp;omega
 have w1:IntKind.i64.wrap (100000000000000 - b)=100000000000000 - b:=A7 (by omega) (by omega)
 have w2:IntKind.i64.wrap (a+b)=a+b:=A7 (by omega) (by omega)
 refine A8 [] B9 mixed Tryz.func345 (by rfl) rfl rfl rfl ?_;conv=>whnf
 refine B0 (A6u a st) ?_
 rw [ra];conv=>whnf
 refine B0 (A6u b st) ?_
 rw [rb];conv=>whnf
 rw [w1]
 refine C0 (fun h=>?_) (fun h=>?_)<;>rw [h]<;>simp only [decide_eq_true_eq,decide_eq_false_iff_not] at h
 ·exact absurd h (by omega)
 ·conv=>whnf
  rw [w2]
  exact ⟨rfl,rfl⟩
def A5 (l:List Int):Int:=l.foldl (fun s x=>s+x) 0
theorem N4 {l:List Int} {i:Nat} (h:i<l.length):A5 (l.take (i+1))=A5 (l.take i)+gI l i:=O3 h _ _
theorem F3 (a b:List Int):A5 (a++b)=A5 a+A5 b:=by
 have:∀ (b:List Int) (s:Int),b.foldl (fun s x=>s+x) s=s+b.foldl (fun s x=>s+x) 0:=by
  intro b
  induction b with
  | nil=>intro s;simp
  | cons x b ih=>intro s;simp only [List.foldl_cons];rw [ih (s+x),ih (0+x)];omega
 unfold A5
 rw [List.foldl_append,this b]
theorem C9 {l:List Int} (h:∀ x∈l,0≤x):0≤A5 l:=by
 induction l with
 | nil=>exact Int.le_refl _
 | cons x l ih =>
  have:=F3 [x] l
  rw [List.singleton_append] at this
  have e:A5 [x]=x:=by simp [A5]
  rw [this,e]
  have:=ih (fun y hy=>h y (List.mem_cons_of_mem _ hy))
  have:=h x (List.mem_cons_self ..)
  omega
theorem L4 {l:List Int} (h:∀ x∈l,0≤x) (i:Nat):A5 (l.take i)≤A5 l:=by
 have e:=F3 (l.take i) (l.drop i)
 rw [List.take_append_drop] at e
 have:=C9 (l:=l.drop i) (fun x hx=>h x (List.drop_subset _ _ hx))
 omega
theorem P1 {l:List Int} (h:∀ x∈l,0≤x) {x:Int} (hx:x∈l):x≤A5 l:=by
 obtain ⟨i,hi,rfl⟩:=F0 hx
 have h1:=N4 hi
 have h2:=L4 h (i+1)
 have h3:=C9 (l:=l.take i) (fun x hx=>h x (List.take_subset _ _ hx))
 have e:gI l i=l.getD i default:=rfl
 omega
structure O7 (total:Int) (ws:List Int):Prop where
 t0:0≤total
 t1:total≤100000000000000
 len:ws.length≤100000
 w0:∀ w∈ws,0≤w
 sum:A5 ws≤100000000000000
 none:A5 ws=0→total=0
theorem C3g (total:Int) (ws:List Int) (hW:O7 total ws) (st:St):S P 327 [eI total,B6 ws] st fun v st'=>v=.tuple [eI (A5 ws),eI 0]∧st'=st:=by
 have rt:(decide (0≤total)&&decide (total≤100000000000000))=true:=by simp;exact ⟨hW.t0,hW.t1⟩
 have hw:∀ w∈ws,w≤100000000000000:=fun w hw=>Int.le_trans (P1 hW.w0 hw) hW.sum
 have hl:=hW.len
 refine A8 [] B9 mixed Tryz.func327 (by rfl) rfl rfl rfl ?_;conv=>whnf
 refine B0 (A6u total st) ?_
 rw [rt];conv=>whnf
 refine C0 (fun h=>?_) (fun h=>?_)<;>rw [h]<;>simp only [decide_eq_true_eq,decide_eq_false_iff_not] at h
 ·exact absurd h (by omega)
 conv=>whnf
 refine ⟨[0,1,20,21,22],fun m vs st'=>∃ i:Nat,i≤ws.length∧m=ws.length - i∧vs=[eI total,B6 ws,B6 ws,eI ws.length,eI i]∧st'=st,?_,?_⟩
 ·conv=>whnf
  exact ⟨_,0,Nat.zero_le _,rfl,rfl,rfl⟩
 ·rintro m vs st' ⟨i,hi,rfl,rfl,rfl⟩
  conv=>whnf
  cases h1:decide ((i:Int)<(ws.length:Int))
  ·conv=>whnf
   refine ⟨[0,8,30,31,32],fun m vs st''=>∃ i:Nat,i≤ws.length∧m=ws.length - i∧vs=[eI total,eI (A5 (ws.take i)),B6 ws,eI ws.length,eI i]∧st''=st',?_,?_⟩
   ·conv=>whnf
    exact ⟨_,0,Nat.zero_le _,rfl,rfl,rfl⟩
   ·rintro m vs st'' ⟨i,hi,rfl,rfl,rfl⟩
    conv=>whnf
    cases h2:decide ((i:Int)<(ws.length:Int))
    ·have:=of_decide_eq_false h2
     obtain rfl:i=ws.length:=by omega
     rw [List.take_length];conv=>whnf
     refine C0 (fun h3=>?_) (fun h3=>?_)<;>rw [h3]
     ·conv=>whnf
      have:total=0:=hW.none (by simpa using h3)
      rw [this];conv=>whnf
      exact ⟨rfl,rfl⟩
     ·conv=>whnf
      exact ⟨rfl,rfl⟩
    ·have hi':i<ws.length:=by have:=of_decide_eq_true h2;omega
     have h3:=N4 hi'
     have h4:=L4 hW.w0 (i+1)
     have h5:=C9 (l:=ws.take i) (fun x hx=>hW.w0 x (List.take_subset _ _ hx))
     have h6:=hW.w0 _ (B4 hi')
     have h7:=hW.sum
     conv=>whnf
     refine ⟨rfl,⟨by omega,by omega⟩,?_⟩;conv=>whnf
     refine B0 (C3w (A5 (ws.take i)) (gI ws i) h5 h6 (by omega) _) ?_;conv=>whnf
     refine ⟨rfl,?_⟩;conv=>whnf
     exact ⟨ws.length - (i+1),by omega,i+1,by omega,rfl,by rw [C2 (by omega),h3],rfl⟩
  ·have hi':i<ws.length:=by have:=of_decide_eq_true h1;omega
   have hm:gI ws i∈ws:=B4 hi'
   have rw':(decide (0≤gI ws i)&&decide (gI ws i≤100000000000000))=true:=by simp only [Bool.and_eq_true,decide_eq_true_eq];exact ⟨hW.w0 _ hm,hw _ hm⟩
   conv=>whnf
   refine ⟨rfl,⟨by omega,by omega⟩,?_⟩;conv=>whnf
   refine B0 (A6u (gI ws i) _) ?_
   rw [rw'];conv=>whnf
   refine ⟨rfl,?_⟩;conv=>whnf
   exact ⟨ws.length - (i+1),by omega,i+1,by omega,rfl,by rw [C2 (by omega)],rfl⟩
theorem C2K (total w all:Int) (h0:0≤total) (h1:total≤100000000000000) (hw:0≤w) (hwa:w≤all) (ha:0<all) (ha':all≤100000000000000) (st:St):S P 328 [eI total,eI w,eI all] st fun v st'=>v=.tuple [eI (total * w / all),eI (total * w % all)]∧st'=st:=by
 have e1:IntKind.u64.wrap total=total:=B8 (by omega) (by omega)
 have e2:IntKind.u64.wrap w=w:=B8 (by omega) (by omega)
 have e3:IntKind.u64.wrap all=all:=B8 (by omega) (by omega)
 have hN:0≤total * w:=Int.mul_nonneg h0 hw
 have hN':total * w≤100000000000000 * all:=Int.mul_le_mul h1 hwa hw (by omega)
 have hq0:0≤total * w / all:=Int.ediv_nonneg hN (by omega)
 have hq1:total * w / all≤100000000000000:=by
  have:total * w / all<100000000000000+1:=(Int.ediv_lt_iff_lt_mul ha).2 (by omega)
  omega
 have hr0:=Int.emod_nonneg (total * w) (show all≠0 by omega)
 have hr1:=Int.emod_lt_of_pos (total * w) ha
 refine A8 [] B9 mixed Tryz.func328 (by rfl) rfl rfl rfl ?_;conv=>whnf
 rw [e1,e2]
 refine B0 (B5v total w ⟨by omega,by omega⟩ ⟨by omega,by omega⟩ st) ?_;conv=>whnf
 rw [e3]
 have hN2:100000000000000 * all≤100000000000000 * 100000000000000:=by omega
 refine B0 (B5l _ _ all (by omega) (by omega) (by omega) (by omega) (by omega) st) ?_
 rw [show total * w / 18446744073709551616 * 18446744073709551616+total * w % 18446744073709551616=total * w by omega];conv=>whnf
 rw [A7 (x:=total * w / all) (by omega) (by omega),A7 (x:=total * w % all) (by omega) (by omega)]
 exact ⟨rfl,rfl⟩
def shQ (total S:Int) (ws:List Int) (k:Nat):Int:=total * gI ws k / S
def shE (total S:Int) (ws:List Int) (k:Nat):QE:=(total * gI ws k % S,(k:Int))
def shR (total S:Int) (ws:List Int):List QE:=((List.range ws.length).map (shE total S ws)).mergeSort fun a b=>!H0 b a
def O8 (qs:List Int) (R:List QE):List Int:=R.foldl (fun acc e=>acc.set e.2.toNat (gI acc e.2.toNat+1)) qs
def F1 (total S:Int) (ws:List Int) (i:Nat):Int:=total - A5 ((List.range i).map (shQ total S ws))
def D4 (total:Int) (ws:List Int):List Int :=
 if A5 ws=0 then ws.map fun _=>0
 else O8 ((List.range ws.length).map (shQ total (A5 ws) ws)) ((shR total (A5 ws) ws).take (F1 total (A5 ws) ws ws.length).toNat)
theorem A0Y (total S:Int) (ws:List Int):(shR total S ws).Perm ((List.range ws.length).map (shE total S ws)):=List.mergeSort_perm ..
theorem A5B (total S:Int) (ws:List Int):(shR total S ws).Pairwise fun a b=>H0 b a=false:=by
 have:=List.pairwise_mergeSort (le:=fun a b:QE=>!H0 b a) (fun a b c h1 h2=>by simp only [Bool.not_eq_true'] at *;exact A0e h2 h1) (fun a b=>by
  cases h:H0 b a with
  | false=>rfl
  | true=>rw [A0f h];rfl) ((List.range ws.length).map (shE total S ws))
 exact this.imp (fun h=>by simpa using h)
theorem A4Q (total S:Int) (ws:List Int):(shR total S ws).length=ws.length:=by
 rw [(A0Y total S ws).length_eq];simp
theorem A7V {total S:Int} {ws:List Int} {e:QE} (h:e∈shR total S ws):0≤e.2∧e.2.toNat<ws.length:=by
 obtain ⟨k,hk,rfl⟩:=List.mem_map.1 ((A0Y total S ws).subset h)
 have:=List.mem_range.1 hk
 simp only [shE];omega
theorem A0E (qs:List Int) (R:List QE):(O8 qs R).length=qs.length:=by
 unfold O8
 induction R generalizing qs with
 | nil=>rfl
 | cons e R ih=>simp only [List.foldl_cons];rw [ih];simp
theorem A7l (qs:List Int) (R:List QE) (e:QE):O8 qs (R++[e])=(O8 qs R).set e.2.toNat (gI (O8 qs R) e.2.toNat+1):=by
 unfold O8;rw [List.foldl_append];rfl
theorem L5 (f:Nat→Int) (n:Nat):A5 ((List.range (n+1)).map f)=A5 ((List.range n).map f)+f n:=by
 rw [List.range_succ,List.map_append,F3];simp [A5]
theorem A7R (total S:Int) (hS:0<S) (ws:List Int):∀ i,i≤ws.length→S * A5 ((List.range i).map (shQ total S ws))+A5 ((List.range i).map fun k=>total * gI ws k % S)=total * A5 (ws.take i)
 | 0,_=>by simp [A5]
 | i+1,h=>by
  have ih:=A7R total S hS ws i (by omega)
  rw [L5,L5,N4 (by omega),Int.mul_add,Int.mul_add,←ih]
  have:=Int.mul_ediv_add_emod (total * gI ws i) S
  unfold shQ
  omega
theorem A5A (total S:Int) (hS:0<S) (ws:List Int):∀ i,0≤A5 ((List.range i).map fun k=>total * gI ws k % S)∧A5 ((List.range i).map fun k=>total * gI ws k % S)≤i * (S - 1)
 | 0=>by simp [A5]
 | i+1=>by
  have ih:=A5A total S hS ws i
  rw [L5]
  have h1:=Int.emod_nonneg (total * gI ws i) (show S≠0 by omega)
  have h2:=Int.emod_lt_of_pos (total * gI ws i) hS
  have h3:((i+1:Nat):Int) * (S - 1)=(i:Int) * (S - 1)+(S - 1):=by
   rw [show ((i+1:Nat):Int)=(i:Int)+1 by omega,Int.add_mul,Int.one_mul]
  omega
theorem A1M {total:Int} {ws:List Int} (h:O7 total ws) (hS:0<A5 ws):0≤F1 total (A5 ws) ws ws.length∧F1 total (A5 ws) ws ws.length≤ws.length:=by
 have e:=A7R total (A5 ws) hS ws ws.length (Nat.le_refl _)
 have b:=A5A total (A5 ws) hS ws ws.length
 rw [List.take_length] at e
 have hk:A5 ws * F1 total (A5 ws) ws ws.length=A5 ((List.range ws.length).map fun k=>total * gI ws k % A5 ws):=by
  unfold F1
  rw [Int.mul_sub,Int.mul_comm (A5 ws) total];omega
 constructor
 ·refine Int.le_of_not_gt fun hlt=>?_
  have:A5 ws * F1 total (A5 ws) ws ws.length<0:=Int.mul_neg_of_pos_of_neg hS hlt
  omega
 ·refine Int.le_of_not_gt fun hgt=>?_
  have h1:A5 ws * ((ws.length:Int)+1)≤A5 ws * F1 total (A5 ws) ws ws.length:=Int.mul_le_mul_of_nonneg_left (by omega) (by omega)
  have h2:(ws.length:Int) * (A5 ws - 1)≤A5 ws * (ws.length:Int):=by
   rw [Int.mul_sub,Int.mul_one,Int.mul_comm];omega
  rw [Int.mul_add,Int.mul_one] at h1
  omega
theorem A2Q {total:Int} {ws:List Int} (h:O7 total ws) (hS:0<A5 ws) {k:Nat} (hk:k<ws.length):0≤shQ total (A5 ws) ws k∧shQ total (A5 ws) ws k≤total:=by
 have hw:=h.w0 _ (B4 hk)
 have hle:=P1 h.w0 (B4 hk)
 refine ⟨Int.ediv_nonneg (Int.mul_nonneg h.t0 hw) (by omega),?_⟩
 have h1:total * gI ws k≤total * A5 ws:=Int.mul_le_mul_of_nonneg_left hle h.t0
 have:shQ total (A5 ws) ws k<total+1:=(Int.ediv_lt_iff_lt_mul hS).2 (by rw [Int.add_mul,Int.one_mul];omega)
 omega
theorem A3v {total:Int} {ws:List Int} (h:O7 total ws) (hS:0<A5 ws) {i:Nat} (hi:i≤ws.length):0≤A5 ((List.range i).map (shQ total (A5 ws) ws))∧A5 ((List.range i).map (shQ total (A5 ws) ws))≤total:=by
 have e:=A7R total (A5 ws) hS ws i hi
 have b:=A5A total (A5 ws) hS ws i
 have t:=L4 h.w0 i
 constructor
 ·exact C9 fun x hx=>by
   obtain ⟨k,hk,rfl⟩:=List.mem_map.1 hx
   exact (A2Q h hS (by have:=List.mem_range.1 hk;omega)).1
 ·have h1:total * A5 (ws.take i)≤total * A5 ws:=Int.mul_le_mul_of_nonneg_left t h.t0
  refine Int.le_of_not_gt fun hgt=>?_
  have:A5 ws * (total+1)≤A5 ws * A5 ((List.range i).map (shQ total (A5 ws) ws)):=Int.mul_le_mul_of_nonneg_left (by omega) (by omega)
  rw [Int.mul_add,Int.mul_one,Int.mul_comm] at this
  omega
theorem A3h (qs:List Int) (R:List QE) (k:Nat):gI qs k≤gI (O8 qs R) k∧gI (O8 qs R) k≤gI qs k+R.length:=by
 unfold O8
 induction R generalizing qs with
 | nil=>simp
 | cons e R ih =>
  simp only [List.foldl_cons,List.length_cons]
  have h:=ih (qs.set e.2.toNat (gI qs e.2.toNat+1))
  have hs:gI qs k≤gI (qs.set e.2.toNat (gI qs e.2.toNat+1)) k∧gI (qs.set e.2.toNat (gI qs e.2.toNat+1)) k≤gI qs k+1:=by
   unfold gI
   simp only [List.getD_eq_getElem?_getD,List.getElem?_set]
   by_cases e1:e.2.toNat=k
   ·subst e1
    by_cases e2:e.2.toNat<qs.length
    ·simp [e2];omega
    ·simp [e2]
   ·rw [if_neg e1];omega
  omega
theorem I7 (f:Nat→Int) {n k:Nat} (hk:k<n):gI ((List.range n).map f) k=f k:=by
 unfold gI;simp [List.getD_eq_getElem?_getD,hk]
theorem B8p {l:List Int} {j:Nat} (hj:j<l.length) (x:Int) (k:Nat):gI (l.set j x) k=if k=j then x else gI l k:=by
 unfold gI
 simp only [List.getD_eq_getElem?_getD,List.getElem?_set]
 by_cases h:k=j
 ·subst h;simp [hj]
 ·rw [if_neg (fun e=>h e.symm),if_neg h]
theorem B0n (total:Int) (ws:List Int) (h:O7 total ws) (st:St):S P 280 [eI total,B6 ws] st fun v st'=>v=.tuple [B6 (D4 total ws),eI 0]∧st'=st:=by
 have hlen:=h.len
 refine S.post (post:=fun v st'=>∃ (bo:Nat) (f:Nat→AV),st bo=none∧v=.tuple [.own 1 bo 0 ws.length,eI 0]∧G3 (upd st bo ⟨2,1,ws.length,f⟩) st'∧(D4 total ws).length=ws.length∧∀ k,k<ws.length→f k=eI (gI (D4 total ws) k)) ?_
  (fun v st' ⟨bo,f,h0,hv,hs,hl,hf⟩=>⟨_,st,⟨rfl,rfl⟩,by
   rw [hv]
   refine B3.tuple (B3.cons ((hs.shift _).trans ?_) (B3.keep _ _)) rfl
   have h2:=O0 (st:=upd st bo ⟨2,1,ws.length,f⟩) (e:=1) (b:=bo) (n:=ws.length) (f:=fun k=>eI (gI (D4 total ws) k)) (A0 ..) rfl (Nat.le_refl _) hf
   rw [A2b h0] at h2
   have e:B6 (D4 total ws)=.arr 1 ws.length (fun k=>eI (gI (D4 total ws) k)):=by unfold B6 B2;rw [hl]
   rw [e];exact h2⟩)
 refine A8 [] B9 mixed Tryz.func280 (by rfl) rfl rfl rfl ?_;conv=>whnf
 refine B0 (C3g total ws h st) ?_;conv=>whnf
 refine mkO rfl rfl rfl (by show 8 * ws.length≤_;omega) (by omega) (by rfl) (fun bo hbo=>?_);conv=>whnf
 refine C0 (fun h1=>?_) (fun h1=>?_)<;>rw [h1]
 ·have h0:A5 ws=0:=by simpa using h1
  have hB:D4 total ws=ws.map fun _=>0:=if_pos h0
  conv=>whnf
  refine ⟨bo,_,hbo,rfl,G3.refl _,by rw [hB,List.length_map],fun k hk=>?_⟩
  rw [hB]
  show AV.int .i64 0=_
  rw [show gI (ws.map fun _=>(0:Int)) k=0 from E1 (fun _=>(0:Int)) ws hk]
 have hS:0<A5 ws:=by
  have h2:=C9 h.w0
  have h3:A5 ws≠0:=by simpa using h1
  omega
 have hB:D4 total ws=O8 ((List.range ws.length).map (shQ total (A5 ws) ws)) ((shR total (A5 ws) ws).take (F1 total (A5 ws) ws ws.length).toNat):=if_neg (by omega)
 have hsum:=h.sum
 have ht0:=h.t0
 have ht1:=h.t1
 conv=>whnf
 refine call (B1A _) (fun v st2 hv=>?_)
 obtain ⟨q,rfl,hq⟩:=hv
 conv=>whnf
 refine ⟨[0,6,8,9,10,35,36,37],fun m vs st'=>∃ (i:Nat) (f:Nat→AV),i≤ws.length∧m=ws.length - i∧vs=[eI total,eI (A5 ws),.own 1 bo 0 ws.length,eI (F1 total (A5 ws) ws i),.optr 1 q 0 0,B6 ws,eI ws.length,eI i] ∧
  (∀ k,k<i→f k=eI (shQ total (A5 ws) ws k))∧(∀ k,i≤k→f k=.int .i64 0)∧QSt (upd st bo ⟨2,1,ws.length,f⟩) q true ((List.range i).map (shE total (A5 ws) ws)) st',?_,?_⟩
 ·conv=>whnf
  exact ⟨_,0,fun _=>.int .i64 0,Nat.zero_le _,rfl,(by simp [F1,A5];rfl),fun k hk=>absurd hk (by omega),fun _ _=>rfl,hq⟩
 ·clear hq
  rintro m vs st' ⟨i,f,hi,rfl,rfl,hf1,hf2,hq⟩
  conv=>whnf
  cases h2:decide ((i:Int)<(ws.length:Int))
  ·have:=of_decide_eq_false h2
   obtain rfl:i=ws.length:=by omega
   obtain ⟨l0,l1⟩:=A1M h hS
   conv=>whnf
   refine ⟨[8,10,61,62],fun m vs st'=>∃ (t:Nat) (f:Nat→AV) (fl:Bool),(t:Int)≤F1 total (A5 ws) ws ws.length∧m=(F1 total (A5 ws) ws ws.length).toNat - t∧vs=[.own 1 bo 0 ws.length,.optr 1 q 0 0,eI (F1 total (A5 ws) ws ws.length),eI t] ∧
    (∀ k,k<ws.length→f k=eI (gI (O8 ((List.range ws.length).map (shQ total (A5 ws) ws)) ((shR total (A5 ws) ws).take t)) k))∧QSt (upd st bo ⟨2,1,ws.length,f⟩) q fl ((shR total (A5 ws) ws).drop t) st',?_,?_⟩
   ·conv=>whnf
    exact ⟨_,0,f,true,by omega,rfl,rfl,fun k hk=>by rw [hf1 k hk,List.take_zero];show _=eI (gI ((List.range ws.length).map _) k);rw [I7 _ hk],hq.perm (A0Y total (A5 ws) ws).symm⟩
   ·clear hf1 hf2 hq f
    rintro m vs st' ⟨t,f,fl,ht,rfl,rfl,hf,hq⟩
    have hrl:=A4Q total (A5 ws) ws
    have hby:st' bo=some ⟨2,1,ws.length,f⟩:=hq.sup bo _ (A0 ..)
    conv=>whnf
    cases h3:decide ((t:Int)<F1 total (A5 ws) ws ws.length)
    ·have h3':=of_decide_eq_false h3
     have hte:(F1 total (A5 ws) ws ws.length).toNat=t:=by omega
     conv=>whnf
     refine ⟨bo,f,hbo,rfl,hq.sup,by rw [hB,A0E];simp,fun k hk=>by rw [hB,hte];exact hf k hk⟩
    ·have h3':=of_decide_eq_true h3
     have htl:t<(shR total (A5 ws) ws).length:=by omega
     have hsplit:(shR total (A5 ws) ws).drop t=(shR total (A5 ws) ws)[t]::(shR total (A5 ws) ws).drop (t+1):=List.drop_eq_getElem_cons htl
     have htop:∀ y∈(shR total (A5 ws) ws).drop (t+1),H0 y (shR total (A5 ws) ws)[t]=false:=fun y hy=>by
      have:=(A5B total (A5 ws) ws).sublist (List.drop_sublist t _)
      rw [hsplit,List.pairwise_cons] at this
      exact this.1 y hy
     have hx:=A7V (List.getElem_mem htl)
     have htake:(shR total (A5 ws) ws).take (t+1)=(shR total (A5 ws) ws).take t++[(shR total (A5 ws) ws)[t]]:=List.take_succ_eq_append_getElem htl
     rw [hsplit] at hq
     generalize (shR total (A5 ws) ws)[t]=x at *
     have hb1:=A3h ((List.range ws.length).map (shQ total (A5 ws) ws)) ((shR total (A5 ws) ws).take t) x.2.toNat
     have hb2:=A2Q h hS hx.2
     rw [I7 _ hx.2,List.length_take] at hb1;conv=>whnf
     refine call (A8Y _ _ _ _ _ _ hq htop) (fun v st'' hv=>?_)
     obtain ⟨rfl,hq'⟩:=hv
     have hby':st'' bo=some ⟨2,1,ws.length,f⟩:=hq'.sup bo _ (A0 ..)
     conv=>whnf
     refine ⟨rfl,⟨by omega,by omega⟩,?_⟩;conv=>whnf
     refine F7 hby' rfl (by omega) (v:=eI (gI (O8 ((List.range ws.length).map (shQ total (A5 ws) ws)) ((shR total (A5 ws) ws).take t)) x.2.toNat)) (by rw [Nat.zero_add];exact hf _ hx.2) ?_;conv=>whnf
     refine ⟨rfl,⟨by omega,by omega⟩,?_⟩;conv=>whnf
     refine K8 hby' rfl (by omega) (v:=eI (gI (O8 ((List.range ws.length).map (shQ total (A5 ws) ws)) ((shR total (A5 ws) ws).take t)) x.2.toNat)) (by rw [Nat.zero_add];exact hf _ hx.2) (by rfl) ?_;conv=>whnf
     refine ⟨rfl,?_⟩;conv=>whnf
     have hg:=hq'.grow (bo':=bo) (y':=⟨2,1,ws.length,H2 f (0+x.2.toNat) (eI (IntKind.i64.wrap (gI (O8 ((List.range ws.length).map (shQ total (A5 ws) ws)) ((shR total (A5 ws) ws).take t)) x.2.toNat+1)))⟩) hbo (.inl rfl)
     rw [A7W] at hg
     refine ⟨(F1 total (A5 ws) ws ws.length).toNat - (t+1),by omega,t+1,_,false,by omega,rfl,by rw [C2 (by omega)],fun k hk=>?_,hg.2⟩
     rw [htake,A7l,B8p (by rw [A0E];simpa using hx.2),Nat.zero_add]
     by_cases e1:k=x.2.toNat
     ·rw [if_pos e1,e1,A6,A7 (by omega) (by omega)]
     ·rw [if_neg e1,G2 e1];exact hf k hk
  ·have hi':i<ws.length:=by have:=of_decide_eq_true h2;omega
   have hm:gI ws i∈ws:=B4 hi'
   have hby:st' bo=some ⟨2,1,ws.length,f⟩:=hq.sup bo _ (A0 ..)
   have hqb:=A3v h hS (show i≤ws.length by omega)
   have hqb':=A3v h hS (show i+1≤ws.length by omega)
   have hsr:=L5 (shQ total (A5 ws) ws) i
   conv=>whnf
   refine ⟨rfl,⟨by omega,by omega⟩,?_⟩;conv=>whnf
   refine B0 (C2K total (gI ws i) (A5 ws) h.t0 h.t1 (h.w0 _ hm) (P1 h.w0 hm) hS h.sum _) ?_;conv=>whnf
   refine ⟨rfl,⟨by omega,by omega⟩,?_⟩;conv=>whnf
   refine K8 hby rfl (by omega) (v:=.int .i64 0) (by rw [show 0+(i:Int).toNat=i by omega];exact hf2 i (Nat.le_refl _)) (by rfl) ?_
   conv=>whnf
   have hg:=hq.grow (bo':=bo) (y':=⟨2,1,ws.length,H2 f (0+(i:Int).toNat) (eI (shQ total (A5 ws) ws i))⟩) hbo (.inl rfl)
   rw [A7W] at hg
   refine call (A7U _ q _ (total * gI ws i % A5 ws) i _ hg.2 (by rw [List.length_map,List.length_range];omega)) (fun v st'' hv=>?_)
   obtain ⟨rfl,hq'⟩:=hv
   conv=>whnf
   refine ⟨rfl,?_⟩;conv=>whnf
   refine ⟨ws.length - (i+1),by omega,i+1,H2 f (0+(i:Int).toNat) (eI (shQ total (A5 ws) ws i)),by omega,rfl,?_,fun k hk=>?_,fun k hk=>?_,?_⟩
   ·rw [C2 (by omega)]
    have e:IntKind.i64.wrap (F1 total (A5 ws) ws i - total * gI ws i / A5 ws)=F1 total (A5 ws) ws (i+1):=by
     unfold F1
     have:total * gI ws i / A5 ws=shQ total (A5 ws) ws i:=rfl
     rw [this,A7 (by omega) (by omega)];omega
    rw [e]
   ·by_cases e1:k=i
    ·subst e1;rw [show 0+(k:Int).toNat=k by omega,A6]
    ·rw [G2 (by omega)];exact hf1 k (by omega)
   ·rw [G2 (by omega)];exact hf2 k (by omega)
   ·rw [List.range_succ,List.map_append];exact hq'
abbrev C6 (l:List B5):AV:=B2 3 S9 l
abbrev gU (l:List B5) (k:Nat):B5:=l.getD k default
abbrev D5 (us:List B5):List Int:=us.map B5.net
structure E2 (us:List B5):Prop where
 len:us.length≤100000
 pos:∀ u∈us,0≤u.net
 sum:A5 (D5 us)≤10000000000000
structure J8 (us:List B5) (mine:List Int):Prop where
 rng:∀ k,k<mine.length→0≤gI mine k∧(gI mine k).toNat<us.length
 opn:∀ k,k<mine.length→(gU us (gI mine k).toNat).opn=true
 inc:∀ k,k+1<mine.length→gI mine k<gI mine (k+1)
theorem E2.nets0 {us:List B5} (h:E2 us):∀ x∈D5 us,0≤x:=fun x hx=>by
 obtain ⟨u,hu,rfl⟩:=List.mem_map.1 hx
 exact h.pos u hu
theorem E2.le {us:List B5} (h:E2 us) {u:B5} (hu:u∈us):u.net≤10000000000000:=by
 have:=P1 h.nets0 (List.mem_map_of_mem (f:=B5.net) hu)
 have:=h.sum
 omega
theorem J8.lt {us:List B5} {mine:List Int} (h:J8 us mine):∀ j k,j<k→k<mine.length→gI mine j<gI mine k:=fun j k hjk hk=>by
 induction k with
 | zero=>omega
 | succ k ih =>
  rcases Nat.lt_or_ge j k with hlt | hge
  ·exact Int.lt_trans (ih hlt (by omega)) (h.inc k hk)
  ·have:j=k:=by omega
   subst this;exact h.inc j hk
theorem J8.len {us:List B5} {mine:List Int} (h:J8 us mine):mine.length≤us.length:=by
 have:∀ k,k<mine.length→(k:Int)≤gI mine k:=fun k=>by
  induction k with
  | zero=>intro hk;exact (h.rng 0 hk).1
  | succ k ih=>intro hk;have:=ih (by omega);have:=h.inc k hk;omega
 rcases Nat.eq_zero_or_pos mine.length with e | e
 ·omega
 ·have h1:=this (mine.length - 1) (by omega)
  have h2:=(h.rng (mine.length - 1) (by omega)).2
  omega
theorem C2F (us:List B5) (h:E2 us) (st:St):S P 329 [C6 us] st fun v st'=>v=.bool true∧st'=st:=by
 have hlen:=h.len
 refine A8 [5] B9 mixed Tryz.func329 (by rfl) rfl rfl rfl ?_;conv=>whnf
 refine C0 (fun h1=>?_) (fun h1=>?_)<;>rw [h1]<;>simp only [decide_eq_true_eq,decide_eq_false_iff_not] at h1
 ·exact absurd h1 (by omega)
 conv=>whnf
 refine ⟨[3,9,10,11],fun m vs st'=>∃ i:Nat,i≤us.length∧m=us.length - i∧vs=[eI (A5 ((D5 us).take i)),C6 us,eI us.length,eI i]∧st'=st,?_,?_⟩
 ·conv=>whnf
  exact ⟨_,0,Nat.zero_le _,rfl,rfl,rfl⟩
 ·rintro m vs st' ⟨i,hi,rfl,rfl,rfl⟩
  conv=>whnf
  cases h2:decide ((i:Int)<(us.length:Int))
  ·have:=of_decide_eq_false h2
   obtain rfl:i=us.length:=by omega
   have hs:=h.sum
   rw [show (D5 us).take us.length=D5 us from by rw [←List.length_map (f:=B5.net),List.take_length]];conv=>whnf
   refine ⟨?_,rfl⟩
   show AV.bool (decide _)=_
   rw [decide_eq_true hs]
  ·have hi':i<us.length:=by have:=of_decide_eq_true h2;omega
   have hu:gU us i∈us:=B4 hi'
   have p0:=h.pos _ hu
   have p1:=h.le hu
   have hsum:=h.sum
   have e1:=N4 (l:=D5 us) (i:=i) (by rw [List.length_map];exact hi')
   have e2:=L4 h.nets0 (i+1)
   have e3:=C9 (l:=(D5 us).take i) (fun x hx=>h.nets0 x (List.take_subset _ _ hx))
   have e4:gI (D5 us) i=(gU us i).net:=E1 B5.net us hi'
   have w:IntKind.i64.wrap (A5 ((D5 us).take i)+(gU us i).net)=A5 ((D5 us).take (i+1)):=by rw [e1,e4];exact A7 (by omega) (by omega)
   conv=>whnf
   refine ⟨rfl,⟨by omega,by omega⟩,?_⟩;conv=>whnf
   refine C0 (fun h3=>?_) (fun h3=>?_)<;>rw [h3]
   ·exact absurd (of_decide_eq_true h3) (by show ¬(gU us i).net<0;omega)
   conv=>whnf
   refine C0 (fun h4=>?_) (fun h4=>?_)<;>rw [h4]
   ·exact absurd (of_decide_eq_true h4) (by show ¬(gU us i).net>10000000000000;omega)
   conv=>whnf
   refine ⟨rfl,?_⟩;conv=>whnf
   exact ⟨us.length - (i+1),by omega,i+1,by omega,rfl,by rw [C2 (by omega),←w];rfl,rfl⟩
theorem A8o (us:List B5) (mine:List Int) (h:E2 us) (hm:J8 us mine) (st:St):S P 287 [C6 us,B6 mine] st fun v st'=>v=.bool true∧st'=st:=by
 have hlen:=h.len
 have hml:=hm.len
 refine A8 [] B9 mixed Tryz.func287 (by rfl) rfl rfl rfl ?_;conv=>whnf
 refine B0 (C2F us h st) ?_;conv=>whnf
 refine ⟨[0,5,11,12,13],fun m vs st'=>∃ i:Nat,i≤mine.length∧m=mine.length - i∧vs=[C6 us,eI (if i=0 then -1 else gI mine (i - 1)),B6 mine,eI mine.length,eI i]∧st'=st,?_,?_⟩
 ·conv=>whnf
  exact ⟨_,0,Nat.zero_le _,rfl,rfl,rfl⟩
 ·rintro m vs st' ⟨i,hi,rfl,rfl,rfl⟩
  conv=>whnf
  cases h2:decide ((i:Int)<(mine.length:Int))
  ·conv=>whnf
   exact ⟨rfl,rfl⟩
  ·have hi':i<mine.length:=by have:=of_decide_eq_true h2;omega
   have hr:=hm.rng i hi'
   have ho:=hm.opn i hi'
   have hlast:(if i=0 then -1 else gI mine (i - 1))<gI mine i:=by
    split
    ·omega
    ·exact hm.lt (i - 1) i (by omega) hi'
   conv=>whnf
   refine ⟨rfl,⟨by omega,by omega⟩,?_⟩;conv=>whnf
   refine C0 (fun h3=>?_) (fun h3=>?_)<;>rw [h3]
   ·exact absurd (of_decide_eq_true h3) (by show ¬ gI mine i≤_;omega)
   conv=>whnf
   refine C0 (fun h4=>?_) (fun h4=>?_)<;>rw [h4]
   ·exact absurd (of_decide_eq_true h4) (by show ¬ gI mine i≥(us.length:Int);omega)
   conv=>whnf
   refine ⟨rfl,⟨by show 0≤gI mine i;omega,by show gI mine i<(us.length:Int);omega⟩,?_⟩;conv=>whnf
   rw [show (us.getD (mine.getD (i:Int).toNat default).toNat default).opn=true from ho];conv=>whnf
   refine ⟨rfl,?_⟩;conv=>whnf
   exact ⟨mine.length - (i+1),by omega,i+1,by omega,rfl,by rw [C2 (by omega),if_neg (show ¬ i+1=0 by omega)];rfl,rfl⟩
def H4 (x rate:Int):Int:=(if 0≤rate∧rate≤10000 then A1p x rate 10000 1 else (0,2)).1
theorem P4 (x rate:Int):0≤H4 x rate∧H4 x rate≤100000000000000:=by
 unfold H4
 split
 ·unfold A1p
  split
  ·exact ⟨Int.le_refl _,by decide⟩
  ·rename_i hb
   rw [Bool.not_eq_false] at hb
   simp only [P5,Bool.and_eq_true,decide_eq_true_eq,bne_iff_ne,ne_eq] at hb
   have hq:0≤x * rate / 10000:=Int.ediv_nonneg (Int.mul_nonneg hb.1.1.1.1.1.1 hb.1.1.1.1.2.1) (by omega)
   split
   ·exact ⟨Int.le_refl _,by decide⟩
   ·split
    ·exact ⟨Int.le_refl _,by decide⟩
    ·rename_i h1 h2
     refine ⟨?_,Int.le_of_not_gt h2⟩
     show 0≤T9 (x * rate / 10000) (x * rate % 10000) 10000 1
     unfold T9
     repeat' split
     all_goals omega
 ·exact ⟨Int.le_refl _,by decide⟩
def N2 (x rate amount:Int):Int:=if x<H4 x rate+amount then x else H4 x rate+amount
theorem C1U (x rate amount:Int) (h0:0≤amount) (h1:amount≤10000000000000) (st:St):S P 332 [eI x,eI rate,eI amount] st fun v st'=>v=eI (N2 x rate amount)∧st'=st:=by
 refine A8 [] B9 mixed Tryz.func332 (by rfl) rfl rfl rfl ?_;conv=>whnf
 refine B0 (B4A x rate 1 st) ?_
 have hb:=P4 x rate
 have w:IntKind.i64.wrap (H4 x rate+amount)=H4 x rate+amount:=A7 (by omega) (by omega)
 conv=>whnf
 refine ⟨?_,rfl⟩
 show AV.int .i64 (if x<IntKind.i64.wrap (H4 x rate+amount) then x else IntKind.i64.wrap (H4 x rate+amount))=_
 rw [w];rfl
theorem V0 {x rate amount:Int} (hx:0≤x) (h0:0≤amount):0≤N2 x rate amount∧N2 x rate amount≤x:=by
 have:=P4 x rate
 unfold N2
 split<;>omega
def B2r (p:A9) (nets:List Int):AV:=.agg [eS p.id,eI p.kind,eI p.prio,eS p.group,eS p.code,eB p.closes,D9 p.scope.skus,D9 p.scope.cats,eI p.least,eI p.rate,eI p.amount,eI p.buy,eI p.get,B2 3 Q4 p.parts,B2 3 O5 p.tiers,B6 nets]
theorem B3Y (p:A9) (nets:List Int) (rate amount:Int) (h0:0≤amount) (h1:amount≤10000000000000) (hl:nets.length≤100000) (st:St):S P 330 [B2r p nets,eI rate,eI amount] st fun v st'=>v=B6 (nets.map fun x=>N2 x rate amount)∧st'=st:=by
 have he:B6 (nets.map fun x=>N2 x rate amount)=.arr 1 nets.length (fun k=>eI (gI (nets.map fun x=>N2 x rate amount) k)):=by unfold B6 B2;rw [List.length_map]
 rw [he]
 refine B7B (ty:=2) ?_
 refine A8 [3] B9 mixed Tryz.func330 (by rfl) rfl rfl rfl ?_;conv=>whnf
 refine ⟨[1,2,7,11,12,13],fun m vs st'=>∃ (i:Nat) (sv:AV),i≤nets.length∧m=nets.length - i∧vs=[eI rate,eI amount,sv,B6 nets,eI nets.length,eI i]∧N1 2 1 (fun k=>eI (gI (nets.map fun x=>N2 x rate amount) k)) st i sv st',?_,?_⟩
 ·conv=>whnf
  exact ⟨_,0,.emp,Nat.zero_le _,rfl,rfl,N1.start _ _ _ _⟩
 ·rintro m vs st' ⟨i,sv,hi,rfl,rfl,hc⟩
  conv=>whnf
  cases h:decide ((i:Int)<(nets.length:Int))
  ·have:=of_decide_eq_false h
   obtain rfl:i=nets.length:=by omega
   conv=>whnf
   exact hc
  ·have hi':i<nets.length:=by have:=of_decide_eq_true h;omega
   conv=>whnf
   refine ⟨rfl,⟨by omega,by omega⟩,?_⟩;conv=>whnf
   refine B0 (C1U (gI nets i) rate amount h0 h1 _) ?_;conv=>whnf
   refine N1.app (q:=r2) rfl rfl rfl rfl rfl ?_ (by show (i+1) * 8≤140737488355328;omega) hc (fun sv' st'' hc'=>?_)
   ·rw [show gI (nets.map fun x=>N2 x rate amount) i=N2 (gI nets i) rate amount from E1 (fun x=>N2 x rate amount) nets hi'];rfl
   conv=>whnf
   refine ⟨rfl,?_⟩;conv=>whnf
   exact ⟨nets.length - (i+1),by omega,i+1,sv',by omega,rfl,by rw [C2 (by omega)],hc'⟩
def B2I (p:A9) (nets:List Int):List Int:=nets.map fun x=>N2 x p.rate 0
def B2H (p:A9) (nets:List Int):List Int:=nets.map fun x=>N2 x 0 p.amount
theorem B6J (p:A9) (nets:List Int) (hl:nets.length≤100000) (st:St):S P 291 [B2r p nets] st fun v st'=>v=B6 (B2I p nets)∧st'=st:=by
 refine A8 [1] B9 mixed Tryz.func291 (by rfl) rfl rfl rfl ?_;conv=>whnf
 refine B0 (B3Y p nets p.rate 0 (by omega) (by omega) hl st) ?_;conv=>whnf
 exact ⟨rfl,rfl⟩
theorem B7I (p:A9) (nets:List Int) (h0:0≤p.amount) (h1:p.amount≤10000000000000) (hl:nets.length≤100000) (st:St):S P 292 [B2r p nets] st fun v st'=>v=B6 (B2H p nets)∧st'=st:=by
 refine A8 [1] B9 mixed Tryz.func292 (by rfl) rfl rfl rfl ?_;conv=>whnf
 refine B0 (B3Y p nets 0 p.amount h0 h1 hl st) ?_;conv=>whnf
 exact ⟨rfl,rfl⟩
def K2 (l:List Y0) (x:Int):Option Y0:=l.reverse.find? fun t=>decide (t.least≤x)
theorem A3k {α : Type} [Inhabited α] {l:List α} {k:Nat} (hk:k<l.length):l.reverse.getD k default=l.getD (l.length - 1 - k) default:=by
 rw [List.getD_eq_getElem?_getD,List.getD_eq_getElem?_getD,List.getElem?_reverse hk]
theorem A6r {l:List Y0} {x:Int} {i:Nat} (hi:i<l.length) (h:∀ k,i<k→k<l.length→decide ((l.getD k default).least≤x)=false) (hp:decide ((l.getD i default).least≤x)=true):K2 l x=some (l.getD i default):=by
 have e:l.getD i default=l.reverse.getD (l.length - 1 - i) default:=by
  rw [A3k (by omega),show l.length - 1 - (l.length - 1 - i)=i by omega]
 rw [e] at hp ⊢
 exact A2H (by rw [List.length_reverse];omega) (fun k hk=>by rw [A3k (by omega)];exact h _ (by omega) (by omega)) hp
theorem A6q {l:List Y0} {x:Int} (h:∀ k,k<l.length→decide ((l.getD k default).least≤x)=false):K2 l x=none :=
 A6Q fun k hk=>by rw [List.length_reverse] at hk;rw [A3k hk];exact h _ (by omega)
theorem B0w (l:List Y0) (x:Int) (hl:l.length≤100000) (st:St):S P 331 [B2 3 O5 l,eI x] st fun v st'=>v=.tuple [O5 ((K2 l x).getD default),.bool (K2 l x).isSome]∧st'=st:=by
 refine A5c ?_
 refine A8 [] B9 mixed Tryz.func331 (by rfl) rfl rfl rfl ?_;conv=>whnf
 intro b hb;conv=>whnf
 have w0:IntKind.i64.wrap ((l.length:Int) - 1)=(l.length:Int) - 1:=A7 (by omega) (by omega)
 refine ⟨[0,1,4,6],fun m vs st'=>∃ (i:Int) (f:Nat→AV) (u:Y0),-1≤i∧i<l.length∧(∀ k:Nat,i<k→k<l.length→decide ((l.getD k default).least≤x)=false)∧m=(i+1).toNat∧vs=[B2 3 O5 l,eI x,.optr 3 b 0 0,eI i]∧st'=upd st b ⟨250,3,1,f⟩∧f 0=O5 u,?_,?_⟩
 ·conv=>whnf
  exact ⟨_,(l.length:Int) - 1,_,default,by omega,by omega,fun k h1 h2=>by omega,rfl,by rw [w0],rfl,rfl⟩
 ·rintro m vs st' ⟨i,f,u,h0,hi,hno,rfl,rfl,rfl,hf⟩
  conv=>whnf
  cases h:decide (i≥0)
  ·have:=of_decide_eq_false h
   have hr:K2 l x=none:=A6q fun k hk=>hno k (by omega) hk
   conv=>whnf
   refine K8 (A0 ..) rfl (by omega) hf (by rfl) ?_;conv=>whnf
   refine F7 (A0 ..) rfl (by omega) (A6 ..) ?_;conv=>whnf
   refine ⟨by rw [hr];rfl,((G3.refl st).upd hb).over hb⟩
  ·have hi0:=of_decide_eq_true h
   conv=>whnf
   refine ⟨rfl,⟨by omega,by omega⟩,?_⟩;conv=>whnf
   refine C0 (fun h1=>?_) (fun h1=>?_)
   ·have hr:K2 l x=some (l.getD i.toNat default):=A6r (by omega) (fun k h2 h3=>hno k (by omega) h3) h1
    rw [h1];conv=>whnf
    refine ⟨rfl,⟨by omega,by omega⟩,?_⟩;conv=>whnf
    refine K8 (A0 ..) rfl (by omega) hf (by rfl) ?_;conv=>whnf
    refine F7 (A0 ..) rfl (by omega) (A6 ..) ?_;conv=>whnf
    refine ⟨by rw [hr];rfl,((G3.refl st).upd hb).over hb⟩
   ·have w:IntKind.i64.wrap (i - 1)=i - 1:=A7 (by omega) (by omega)
    rw [h1];conv=>whnf
    refine ⟨rfl,?_⟩;conv=>whnf
    refine ⟨i.toNat,by omega,i - 1,f,u,by omega,by omega,fun k h2 h3=>?_,by omega,by rw [w],rfl,hf⟩
    rcases (by omega:k=i.toNat∨i<k) with e | e
    ·rw [e];exact h1
    ·exact hno k e h3
def A5Q (l:List Y0):Prop:=l.length≤6∧∀ t∈l,0≤t.amount∧t.amount≤10000000000000
theorem V6 {l:List Y0} (h:A5Q l) (x:Int):0≤((K2 l x).getD default).amount∧((K2 l x).getD default).amount≤10000000000000:=by
 cases hr:K2 l x with
 | none=>exact ⟨Int.le_refl _,by decide⟩
 | some t =>
  have:t∈l:=List.mem_reverse.1 (List.mem_of_find?_eq_some hr)
  exact h.2 t this
def A3A (p:A9) (nets:List Int):List Int:=match K2 p.tiers nets.length with
 | none=>[]
 | some t=>nets.map fun x=>N2 x t.rate t.amount
def A3B (p:A9) (nets:List Int):List Int:=match K2 p.tiers (A5 nets) with
 | none=>[]
 | some t=>D4 (N2 (A5 nets) t.rate t.amount) nets
theorem C0q (p:A9) (nets:List Int) (ht:A5Q p.tiers) (hl:nets.length≤100000) (st:St):S P 294 [B2r p nets] st fun v st'=>v=B6 (A3A p nets)∧st'=st:=by
 refine S.post (post:=fun v st'=>(v=B6 (A3A p nets)∨(A3A p nets=[]∧v=.emp))∧G3 st st') ?_ (fun v st' ⟨h,hs⟩=>⟨_,st,⟨rfl,rfl⟩,(hs.shift _).trans (by
  rcases h with rfl | ⟨h0,rfl⟩
  ·exact B3.keep _ _
  ·rw [h0];exact I8 1 _)⟩)
 have htl:=ht.1
 refine A8 [1] B9 mixed Tryz.func294 (by rfl) rfl rfl rfl ?_;conv=>whnf
 refine B0 (B0w p.tiers nets.length (by omega) st) ?_;conv=>whnf
 intro b hb;conv=>whnf
 refine K8 (A0 ..) rfl (by omega) rfl (by rfl) ?_;conv=>whnf
 have hsup:∀ x y:Q3,G3 st (upd (upd st b x) b y):=fun x y=>((G3.refl st).upd hb).over hb
 have hok:=V6 ht nets.length
 cases hr:K2 p.tiers nets.length with
 | none =>
  have hB:A3A p nets=[]:=by unfold A3A;rw [hr]
  conv=>whnf
  exact ⟨.inr ⟨hB,rfl⟩,hsup _ _⟩
 | some t =>
  have hB:A3A p nets=nets.map fun x=>N2 x t.rate t.amount:=by unfold A3A;rw [hr]
  rw [hr] at hok;conv=>whnf
  refine F7 (A0 ..) rfl (by omega) (v:=O5 t) (by rw [A6];rfl) ?_;conv=>whnf
  refine F7 (A0 ..) rfl (by omega) (v:=O5 t) (by rw [A6];rfl) ?_;conv=>whnf
  refine B0 (B3Y p nets t.rate t.amount hok.1 hok.2 hl _) ?_;conv=>whnf
  exact ⟨.inl (by rw [hB];rfl),hsup _ _⟩
theorem C1t (p:A9) (nets:List Int) (ht:A5Q p.tiers) (hl:nets.length≤100000) (h0:∀ x∈nets,0≤x) (hs:A5 nets≤10000000000000) (st:St):S P 293 [B2r p nets] st fun v st'=>v=B6 (A3B p nets)∧st'=st:=by
 refine S.post (post:=fun v st'=>(v=B6 (A3B p nets)∨(A3B p nets=[]∧v=.emp))∧G3 st st') ?_ (fun v st' ⟨h,hs⟩=>⟨_,st,⟨rfl,rfl⟩,(hs.shift _).trans (by
  rcases h with rfl | ⟨h0,rfl⟩
  ·exact B3.keep _ _
  ·rw [h0];exact I8 1 _)⟩)
 have htl:=ht.1
 have hsn:=C9 h0
 refine A8 [1] B9 mixed Tryz.func293 (by rfl) rfl rfl rfl ?_;conv=>whnf
 refine ⟨[1,3,11,12,13],fun m vs st'=>∃ i:Nat,i≤nets.length∧m=nets.length - i∧vs=[.fptr (B2r p nets) 0,eI (A5 (nets.take i)),B6 nets,eI nets.length,eI i]∧st'=st,?_,?_⟩
 ·conv=>whnf
  exact ⟨_,0,Nat.zero_le _,rfl,rfl,rfl⟩
 ·rintro m vs st' ⟨i,hi,rfl,rfl,rfl⟩
  conv=>whnf
  cases h:decide ((i:Int)<(nets.length:Int))
  ·have:=of_decide_eq_false h
   obtain rfl:i=nets.length:=by omega
   rw [List.take_length];conv=>whnf
   refine B0 (B0w p.tiers (A5 nets) (by omega) _) ?_;conv=>whnf
   intro b hb;conv=>whnf
   refine K8 (A0 ..) rfl (by omega) rfl (by rfl) ?_;conv=>whnf
   have hsup:∀ x y:Q3,G3 st' (upd (upd st' b x) b y):=fun x y=>((G3.refl st').upd hb).over hb
   have hok:=V6 ht (A5 nets)
   cases hr:K2 p.tiers (A5 nets) with
   | none =>
    have hB:A3B p nets=[]:=by unfold A3B;rw [hr]
    conv=>whnf
    exact ⟨.inr ⟨hB,rfl⟩,hsup _ _⟩
   | some t =>
    have hB:A3B p nets=D4 (N2 (A5 nets) t.rate t.amount) nets:=by unfold A3B;rw [hr]
    rw [hr] at hok
    have hob:0≤N2 (A5 nets) t.rate t.amount∧N2 (A5 nets) t.rate t.amount≤A5 nets:=V0 hsn hok.1
    have hW:O7 (N2 (A5 nets) t.rate t.amount) nets:=⟨hob.1,by omega,hl,h0,by omega,fun e=>by omega⟩
    conv=>whnf
    refine ⟨[],[],[0,1,2,3,4,5,6,7,8,9,10,11,12,13],by kernel_rfl,?_⟩;conv=>whnf
    refine F7 (A0 ..) rfl (by omega) (v:=O5 t) (by rw [A6];rfl) ?_;conv=>whnf
    refine F7 (A0 ..) rfl (by omega) (v:=O5 t) (by rw [A6];rfl) ?_;conv=>whnf
    refine ⟨_,D3 (C1U (A5 nets) t.rate t.amount hok.1 hok.2 _),?_⟩;conv=>whnf
    refine ⟨_,D3 (B0n _ nets hW _),?_⟩;conv=>whnf
    exact ⟨.inl (by rw [hB];rfl),hsup _ _⟩
  ·have hi':i<nets.length:=by have:=of_decide_eq_true h;omega
   have e1:=N4 hi'
   have e2:=L4 h0 (i+1)
   have e3:=C9 (l:=nets.take i) (fun x hx=>h0 x (List.take_subset _ _ hx))
   have e4:0≤gI nets i:=h0 _ (B4 hi')
   have w:IntKind.i64.wrap (A5 (nets.take i)+gI nets i)=A5 (nets.take (i+1)):=by rw [e1];exact A7 (by omega) (by omega)
   conv=>whnf
   refine ⟨rfl,⟨by omega,by omega⟩,?_⟩;conv=>whnf
   refine ⟨rfl,?_⟩;conv=>whnf
   exact ⟨nets.length - (i+1),by omega,i+1,by omega,rfl,by rw [C2 (by omega),←w];rfl,rfl⟩
def A3N (st:St) (b:Nat) (us:List B5):Prop:=∃ f,st b=some ⟨152,3,us.length,f⟩∧∀ k,k<us.length→f k=S9 (gU us k)
theorem A3W {us:List B5} {j:Nat} (hj:j<us.length) (x:B5) (k:Nat):gU (us.set j x) k=if k=j then x else gU us k:=by
 unfold gU
 simp only [List.getD_eq_getElem?_getD,List.getElem?_set]
 by_cases h:k=j
 ·subst h;simp [hj]
 ·rw [if_neg (fun e=>h e.symm),if_neg h]
def close1 (us:List B5) (i:Nat):List B5:=us.set i { gU us i with opn:=false }
def closeB (us:List B5) (mine:List Int):List B5:=mine.foldl (fun us i=>close1 us i.toNat) us
theorem A0G (us:List B5) (mine:List Int):(closeB us mine).length=us.length:=by
 unfold closeB
 induction mine generalizing us with
 | nil=>rfl
 | cons x l ih=>simp only [List.foldl_cons];rw [ih];simp [close1]
theorem A3N.set {st':St} {b:Nat} {us:List B5} {f:Nat→AV} (hf:∀ k,k<us.length→f k=S9 (gU us k)) {j:Nat} (hj:j<us.length) (x:B5) (h:st' b=some ⟨152,3,us.length,H2 f j (S9 x)⟩):A3N st' b (us.set j x):=by
 refine ⟨_,by rw [h,List.length_set],fun k hk=>?_⟩
 rw [List.length_set] at hk
 rw [A3W hj]
 by_cases e:k=j
 ·rw [if_pos e,e,A6]
 ·rw [if_neg e,G2 e];exact hf k hk
theorem B0X (b:Nat) (us:List B5) (mine:List Int) (hm:∀ x∈mine,0≤x∧x.toNat<us.length) (hl:mine.length≤1000000) (st:St) (hb:A3N st b us) :
  S P 290 [.own 3 b 0 us.length,B6 mine] st fun v st'=>v=.tuple []∧A3N st' b (closeB us mine)∧∀ c,c≠b→st' c=st c:=by
 refine A8 [] B9 mixed Tryz.func290 (by rfl) rfl rfl rfl ?_;conv=>whnf
 refine ⟨[0,6,7,8],fun m vs st'=>∃ i:Nat,i≤mine.length∧m=mine.length - i∧vs=[.own 3 b 0 us.length,B6 mine,eI mine.length,eI i]∧A3N st' b (closeB us (mine.take i))∧∀ c,c≠b→st' c=st c,?_,?_⟩
 ·conv=>whnf
  exact ⟨_,0,Nat.zero_le _,rfl,rfl,hb,fun _ _=>rfl⟩
 ·rintro m vs st' ⟨i,hi,rfl,rfl,⟨f,hst,hf⟩,hfr⟩
  have hlen:=A0G us (mine.take i)
  conv=>whnf
  cases h:decide ((i:Int)<(mine.length:Int))
  ·have:=of_decide_eq_false h
   obtain rfl:i=mine.length:=by omega
   rw [List.take_length] at hst hf;conv=>whnf
   exact ⟨rfl,⟨f,hst,hf⟩,hfr⟩
  ·have hi':i<mine.length:=by have:=of_decide_eq_true h;omega
   have hx:0≤gI mine i∧(gI mine i).toNat<us.length:=hm _ (B4 hi')
   conv=>whnf
   refine ⟨rfl,⟨by omega,by omega⟩,?_⟩;conv=>whnf
   refine ⟨rfl,⟨by show 0≤gI mine i;exact hx.1,by show gI mine i<(us.length:Int);have:=hx.2;have:=hx.1;omega⟩,?_⟩;conv=>whnf
   refine K8 hst rfl (by show 0+(gI mine i).toNat<_;have:=hx.2;omega) (v:=S9 (gU (closeB us (mine.take i)) (gI mine i).toNat)) (by rw [Nat.zero_add];exact hf _ (show (gI mine i).toNat<(closeB us (mine.take i)).length by have:=hx.2;omega)) (by rfl) ?_;conv=>whnf
   refine ⟨rfl,?_⟩;conv=>whnf
   refine ⟨mine.length - (i+1),by omega,i+1,by omega,rfl,by rw [C2 (by omega)],?_,fun c hc=>by rw [B1 hc];exact hfr c hc⟩
   have e:closeB us (mine.take (i+1))=close1 (closeB us (mine.take i)) (gI mine i).toNat:=O3 hi' _ _
   rw [e]
   refine A3N.set hf (by have:=hx.2;omega) _ ?_
   rw [A0,Nat.zero_add];rfl
theorem A8k (us:List B5) (hl:us.length≤100000) (st:St):S P 286 [C6 us] st fun v st'=>N1 152 3 (fun k=>S9 (gU us k)) st us.length v st':=by
 refine A8 [] B9 mixed Tryz.func286 (by rfl) rfl rfl rfl ?_
 cases us with
 | nil =>
  conv=>whnf
  refine ⟨?_,?_⟩
  ·conv=>whnf
   exact N1.start _ _ _ _
  ·conv=>whnf
   refine apE rfl rfl rfl rfl rfl (by show 0 * 24≤_;omega) (fun _=>?_) (fun h=>absurd h (by show ¬ 0<0;omega));conv=>whnf
   exact N1.start _ _ _ _
 | cons u us =>
  conv=>whnf
  refine N1.apps (n:=0) (m:=us.length+1) (q:=B6N) (f:=fun k=>S9 (gU (u::us) k)) rfl rfl rfl rfl rfl (fun i hi=>by rw [Nat.zero_add]) (by show (0+(us.length+1)) * 24≤140737488355328;simp only [List.length_cons] at hl;omega) (N1.start _ _ _ _) (fun sv' st'' hc'=>?_);conv=>whnf
  rw [Nat.zero_add] at hc'
  exact hc'
end Go.Proofs.YtbajhapmlfbelaaGreat
