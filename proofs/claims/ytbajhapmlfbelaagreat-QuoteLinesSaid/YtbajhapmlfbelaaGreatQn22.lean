/- Part 22 of the proof: contracts of the functions that the law reaches -/
import Derived.Test.YtbajhapmlfbelaaGreatQn21
set_option maxRecDepth 100000
set_option linter.unusedVariables false
set_option linter.unusedSimpArgs false
namespace Go.Proofs.YtbajhapmlfbelaaGreat
open Go Go.Ab
attribute [local irreducible] upd del
theorem T5.grow {st0 st:St} {q bo bo':Nat} {f:Bool} {es:List QE} {y y':M6} (h:T5 (upd st0 bo y) q f es st) (h0:st0 bo=none) (hb:bo'=bo∨st bo'=none):st0 bo'=none∧T5 (upd st0 bo' y') q f es (upd (del st bo) bo' y'):=by
 obtain ⟨h1,h2,sv,⟨fq,hqs,hq0⟩,h3⟩:=h
 have hqo:q≠bo:=fun e=>by subst e;rw [A0] at h1;cases h1
 have hq1:st0 q=none:=by rw [A3 hqo] at h1;exact h1
 have hqb:q≠bo':=fun e=>by
  subst e
  rcases hb with e | e
  ·exact hqo e
  ·rw [hqs] at e;cases e
 have hsub:∀ c x,st0 c=some x→c≠bo∧st c=some x:=fun c x hc=>by
  have hne:c≠bo:=fun e=>by subst e;rw [h0] at hc;cases hc
  exact ⟨hne,h2 c x (by rw [A3 hne];exact hc)⟩
 have hbo':st0 bo'=none:=by
  rcases hb with e | e
  ·rw [e];exact h0
  ·cases hx:st0 bo' with
   | none=>rfl
   | some x=>rw [(hsub _ _ hx).2] at e;cases e
 refine ⟨hbo',by rw [A3 hqb];exact hq1,fun c x hc=>?_,sv,⟨fq,by rw [A3 hqb];unfold del;rw [if_neg hqo];exact hqs,hq0⟩,?_⟩
 ·by_cases hcb:c=bo'
  ·subst hcb;rw [A0] at hc ⊢;exact hc
  ·rw [A3 hcb] at hc ⊢
   obtain ⟨a,b⟩:=hsub c x hc
   unfold del;rw [if_neg a];exact b
 ·rcases h3 with h3 | ⟨b,l,n,a1,a2,a3,a4,a5,a6,⟨fe,hes,hef⟩,a8,a9⟩
  ·exact .inl h3
  ·have hbo:b≠bo:=fun e=>by subst e;rw [A0] at a2;cases a2
   have hb0:st0 b=none:=by rw [A3 hbo] at a2;exact a2
   have hbb:b≠bo':=fun e=>by
    subst e
    rcases hb with e | e
    ·exact hbo e
    ·rw [hes] at e;cases e
   exact .inr ⟨b,l,n,a1,by rw [A3 hbb];exact hb0,a3,a4,a5,a6,⟨fe,by rw [A3 hbb];unfold del;rw [if_neg hbo];exact hes,hef⟩,a8,a9⟩
theorem T5.begin {st0 st:St} {q bo:Nat} {f:Bool} {es:List QE} {y:M6} (h:T5 st0 q f es st) (hb:st bo=none):st0 bo=none∧T5 (upd st0 bo y) q f es (upd st bo y):=by
 obtain ⟨h1,h2,sv,⟨fq,hqs,hq0⟩,h3⟩:=h
 have hqb:q≠bo:=fun e=>by subst e;rw [hqs] at hb;cases hb
 refine ⟨h2.none hb,by rw [A3 hqb];exact h1,fun c x hc=>?_,sv,⟨fq,by rw [A3 hqb];exact hqs,hq0⟩,?_⟩
 ·by_cases hcb:c=bo
  ·subst hcb;rw [A0] at hc ⊢;exact hc
  ·rw [A3 hcb] at hc ⊢;exact h2 c x hc
 ·rcases h3 with h3 | ⟨b,l,n,a1,a2,a3,a4,a5,a6,⟨fe,hes,hef⟩,a8,a9⟩
  ·exact .inl h3
  ·have hbb:b≠bo:=fun e=>by subst e;rw [hes] at hb;cases hb
   exact .inr ⟨b,l,n,a1,by rw [A3 hbb];exact a2,a3,a4,a5,a6,⟨fe,by rw [A3 hbb];exact hes,hef⟩,a8,a9⟩
def N7 (ty e:Nat) (fo:Nat→AV) (n:Nat) (st1:St) (q:Nat) (f:Bool) (es:List QE) (sv:AV) (st':St):Prop :=
 (n=0∧sv=.emp∧T5 st1 q f es st')∨(0<n∧∃ bo g,st1 bo=none∧sv=.own e bo 0 n∧(∀ k,k<n→g k=fo k)∧T5 (upd st1 bo ⟨ty,e,n,g⟩) q f es st')
theorem N7.len_S {ty e:Nat} {fo:Nat→AV} {n:Nat} {st1:St} {q:Nat} {f:Bool} {es:List QE} {sv:AV} {st':St} (h:N7 ty e fo n st1 q f es sv st') :
  S P 148 [.optr 1 q 0 0] st' fun v st''=>v=eI es.length∧st''=st':=by
 rcases h with ⟨_,_,h⟩ | ⟨_,bo,g,_,_,_,h⟩
 ·exact A5w _ _ _ _ _ h
 ·exact A5w _ _ _ _ _ h
theorem N7.pop_S {ty e:Nat} {fo:Nat→AV} {n:Nat} {st1:St} {q:Nat} {f:Bool} {x:QE} {es:List QE} {sv:AV} {st':St} (h:N7 ty e fo n st1 q f (x::es) sv st') (htop:∀ y∈es,D6 y x=false) :
  S P 149 [.optr 1 q 0 0] st' fun v st''=>v=.tuple [eI x.1,eI x.2,.bool true]∧N7 ty e fo n st1 q false es sv st'':=by
 rcases h with ⟨h1,h2,h⟩ | ⟨h0,bo,g,h1,h2,h3,h⟩
 ·exact (A5x _ _ _ _ _ _ h htop).mono fun v s hv=>⟨hv.1,.inl ⟨h1,h2,hv.2⟩⟩
 ·exact (A5x _ _ _ _ _ _ h htop).mono fun v s hv=>⟨hv.1,.inr ⟨h0,bo,g,h1,h2,h3,hv.2⟩⟩
theorem N7.app {T:C9} {t:TypeId} {x sv:AV} {st1 st':St} {k:KK} {r q:B4} {el n qq:Nat} {fl:Bool} {es:List QE} {f g:Nat→AV} (hr:T t=some r) (hd:r.desc=.slice el) (hq:T el=some q)
  (hz:(Nat.blt 0 q.size&&Nat.blt 0 q.bytes&&Nat.beq q.zero.cells.size q.size)=true) (hs:T2 q.size st' x=some (1,g)) (hg:g 0=f n) (hb:(n+1) * q.bytes≤140737488355328)
  (hc:N7 el q.size f n st1 qq fl es sv st') (hk:∀ sv' st'',N7 el q.size f (n+1) st1 qq fl es sv' st''→k sv' st''):A3N T t sv x st' k:=by
 rcases hc with ⟨rfl,rfl,h⟩ | ⟨h0,bo,y,h1,rfl,h4,h⟩
 ·refine apE hr hd hq hz hs (by omega) (fun h=>by omega) (fun _ b hb=>?_)
  obtain ⟨hb0,hn⟩:=h.begin (y:=⟨el,q.size,1,g⟩) hb
  have e0:∀ k,k<0+1→g k=f k:=fun k hk=>by
   have:k=0:=by omega
   rw [this];exact hg
  exact hk _ _ (.inr ⟨by omega,b,g,hb0,rfl,e0,hn⟩)
 ·have hby:st' bo=some ⟨el,q.size,n,y⟩:=h.sup bo _ (A0 ..)
  refine apO hr hd hq hz hs hby rfl rfl rfl hb (fun h=>by omega) (fun _ b' hb'=>?_)
  obtain ⟨hb0,hn⟩:=h.grow (y':=⟨el,q.size,n+1,fun i=>if i<n then y i else g (i - n)⟩) h1 hb'
  refine hk _ _ (.inr ⟨by omega,b',_,hb0,rfl,fun k hk=>?_,hn⟩)
  by_cases hkn:k<n
  ·simp only [hkn,if_true];exact h4 k hkn
  ·have:k=n:=by omega
   subst this
   simp only [hkn,if_false,Nat.sub_self];exact hg
theorem N7.shift {ty e:Nat} {fo:Nat→AV} {n:Nat} {st1:St} {q:Nat} {f:Bool} {es:List QE} {sv:AV} {st':St} (h:N7 ty e fo n st1 q f es sv st'):A4 [sv] st' [.arr e n fo] st1:=by
 rcases h with ⟨rfl,rfl,h⟩ | ⟨h0,bo,g,h1,rfl,h3,h⟩
 ·exact (h.sup.shift [.emp]).trans (G5 e fo)
 ·have h2:=M1 (st:=upd st1 bo ⟨ty,e,n,g⟩) (e:=e) (b:=bo) (n:=n) (f:=fo) (A0 ..) rfl (Nat.le_refl _) h3
  rw [A1F h1] at h2
  exact (h.sup.shift [.own e bo 0 n]).trans h2
def U0 (codes:List D8) (p:A8):Bool:=Z8 p.code||codes.any fun c=>p.code.toList==c.toList
abbrev H2 (l:List A8) (x:Int):A8:=l.getD x.toNat default
def places (l:List A8) (codes:List D8) (i:Nat):List Int:=((List.range i).filter fun k=>U0 codes (l.getD k default)).map Int.ofNat
theorem A4a (l:List A8) (codes:List D8) (i:Nat):places l codes (i+1)=places l codes i++(if U0 codes (l.getD i default)=true then [(i:Int)] else []):=by
 unfold places
 rw [List.range_succ,List.filter_append,List.map_append]
 congr 1
 by_cases h:U0 codes (l.getD i default)=true
 ·rw [if_pos h,List.filter_cons_of_pos (p:=fun k=>U0 codes (l.getD k default)) h];rfl
 ·rw [if_neg h,List.filter_cons_of_neg (p:=fun k=>U0 codes (l.getD k default)) h];rfl
theorem A1M {l:List A8} {codes:List D8} {i:Nat} {x:Int} (h:x∈places l codes i):0≤x∧x.toNat<i:=by
 unfold places at h
 obtain ⟨k,hk,rfl⟩:=List.mem_map.1 h
 have:=List.mem_range.1 (List.mem_filter.1 hk).1
 show 0≤(k:Int)∧(k:Int).toNat<i
 omega
theorem A0C (l:List A8) (codes:List D8) (i:Nat):(places l codes i).length≤i:=by
 unfold places
 rw [List.length_map]
 exact Nat.le_trans (List.length_filter_le ..) (by simp)
def B6W (l:List A8) (x y:Int):Bool:=W9 (H2 l x).id (H2 l y).id
theorem B8g (l:List A8):Ord (B6W l):=⟨fun x y h=>A6T h,fun x y z h1 h2=>A1P h1 h2⟩
theorem B6N (l:List A8) (x y:Int) (hx:0≤x∧x.toNat<l.length) (hy:0≤y∧y.toNat<l.length) (st:St) :
  S P 191 [eI x,eI y,.fptr (A5 15 B6 l) 0] st fun v st'=>v=eI (A3s (H2 l x).id (H2 l y).id)∧st'=st:=by
 refine E3 [] Tryz.func191 ?_
 refine ⟨[],[],[0,1,2,3,4,5,6,7,8,9,10,11],by kernel_rfl,?_⟩;conv=>whnf
 refine G9 ?_
 refine G9 ?_
 refine cqW (B6l (H2 l x).id (H2 l y).id _) ?_
 exact ⟨rfl,rfl⟩
theorem V2 {a b:List Int} {k:Nat} (h:k<a.length):gI (a++b) k=gI a k:=by
 unfold gI;rw [List.getD_eq_getElem?_getD,List.getD_eq_getElem?_getD,List.getElem?_append_left h]
theorem A7q (a:List Int) (x:Int):gI (a++[x]) a.length=x:=by
 unfold gI;simp [List.getD_eq_getElem?_getD]
def A4p (l:List A8) (codes:List D8) (o:List Int):Prop:=o.Perm (places l codes l.length)∧Srt (B6W l) o 0 o.length
def A6O (l:List A8) (o:List Int) (k:Nat):QE:=((H2 l (gI o k)).prio,(k:Int))
def P2 (l:List A8) (o:List Int):List QE:=((List.range o.length).map (A6O l o)).mergeSort fun a b=>!D6 b a
theorem Y0 (l:List A8) (o:List Int):(P2 l o).Perm ((List.range o.length).map (A6O l o)):=List.mergeSort_perm ..
theorem A6j (l:List A8) (o:List Int):(P2 l o).Pairwise fun a b=>D6 b a=false:=by
 have:=List.pairwise_mergeSort (le:=fun a b:QE=>!D6 b a) (fun a b c h1 h2=>by simp only [Bool.not_eq_true'] at *;exact Q0 h2 h1) (fun a b=>by
  cases h:D6 b a with
  | false=>rfl
  | true=>rw [Q1 h];rfl) ((List.range o.length).map (A6O l o))
 exact this.imp (fun h=>by simpa using h)
theorem A5A {l:List A8} {o:List Int} {e:QE} (h:e∈P2 l o):0≤e.2∧e.2.toNat<o.length:=by
 obtain ⟨k,hk,rfl⟩:=List.mem_map.1 ((Y0 l o).subset h)
 have:=List.mem_range.1 hk
 simp only [A6O];omega
theorem A0D (l:List A8) (o:List Int):(P2 l o).length=o.length:=by
 rw [(Y0 l o).length_eq];simp
abbrev G8 (l:List A8) (o:List Int):List Int:=(P2 l o).map fun e=>gI o e.2.toNat
theorem N7.sup {ty e:Nat} {fo:Nat→AV} {n:Nat} {st1:St} {q:Nat} {f:Bool} {es:List QE} {sv:AV} {st':St} (h:N7 ty e fo n st1 q f es sv st'):E2 st1 st':=by
 rcases h with ⟨_,_,h⟩ | ⟨_,bo,g,h1,_,_,h⟩
 ·exact h.sup
 ·exact ((E2.refl st1).upd h1).trans h.sup
theorem B5C {N:Nat} (hN:A0Y N) (l:List A8) (codes:List D8) (hl:l.length≤60) (hc:codes.length≤9223372036854775807) (h20:(places l codes l.length).length≤N) (st:St) :
  S P 99 [A5 15 B6 l,E6 codes] st fun v st'=>(∃ o:List Int,A4p l codes o∧v=B2 (G8 l o))∧st'=st:=by
 refine S.post (post:=fun v st'=>∃ (o:List Int) (st1:St) (q:Nat) (fl:Bool),A4p l codes o∧E2 st st1∧N7 3 1 (fun k=>eI (gI (G8 l o) k)) (G8 l o).length st1 q fl [] v st') ?_
  (fun v st' ⟨o,st1,q,fl,ho,hs,hq⟩=>⟨B2 (G8 l o),st,⟨⟨o,ho,rfl⟩,rfl⟩,hq.shift.trans (hs.shift _)⟩)
 refine E3 [2,7] Tryz.func99 ?_
 refine ⟨[1,2,5,15,16,17],fun m vs st'=>∃ (i:Nat) (sv:AV),i≤l.length∧m=l.length - i∧vs=[E6 codes,.fptr (A5 15 B6 l) 0,sv,A5 15 B6 l,eI l.length,eI i]∧H6 3 1 (fun k=>eI (gI (places l codes i) k)) st (places l codes i).length sv st',?_,?_⟩
 ·conv=>whnf
  exact ⟨_,0,.emp,Nat.zero_le _,rfl,rfl,H6.start _ _ _ _⟩
 ·rintro m vs st' ⟨i,sv,hi,rfl,rfl,hcol⟩
  conv=>whnf
  cases h:decide ((i:Int)<(l.length:Int))
  ·have:=of_decide_eq_false h
   obtain rfl:i=l.length:=by omega
   conv=>whnf
   have key:∀ K:KK,(∀ v st1 o,v=.tuple []→A4p l codes o→E2 st st1→((o=[]∧sv=.emp)∨∃ b,sv=.own 1 b 0 o.length∧A0U st1 b o∧0<o.length)→K v st1)→Q7 P 190 [sv,.fn (.func 191) [] [.fptr (A5 15 B6 l) 0]] st' K:=fun K hK=>by
    rcases hcol with ⟨h0,rfl,rfl⟩ | ⟨h0,b,g,hb,rfl,rfl,hg⟩
    ·have hP:places l codes l.length=[]:=List.eq_nil_of_length_eq_zero h0
     refine call (A6m _ _) (fun v st1 hv=>?_)
     obtain ⟨rfl,rfl⟩:=hv
     exact hK _ _ [] rfl ⟨by rw [hP],fun x y _ _ h=>by simp at h⟩ (E2.refl _) (.inl ⟨rfl,rfl⟩)
    ·refine call (A7V hN b (places l codes l.length) _ _ (fun x y=>A3s (H2 l x).id (H2 l y).id) (B6W l) (fun x y=>A4X _ _) (B8g l) _ ⟨g,A0 ..,hg⟩ h20 (fun x hx y hy s=>B6N l x y (A1M hx) (A1M hy) s)) (fun v st1 hv=>?_)
     obtain ⟨rfl,l',hp,hs,hb',hfr⟩:=hv
     have hll:l'.length=(places l codes l.length).length:=hp.length_eq
     refine hK _ st1 l' rfl ⟨hp,by rw [hll];exact hs⟩ (fun c x hc=>?_) (.inr ⟨b,by rw [hll],hb',by omega⟩)
     have hne:c≠b:=fun e=>by subst e;rw [hb] at hc;cases hc
     rw [hfr c hne,A3 hne];exact hc
   refine key _ (fun v st1 o hv ho hsup hsv=>?_)
   subst hv
   clear key hcol
   have hmem:∀ k,k<o.length→0≤gI o k∧(gI o k).toNat<l.length:=fun k hk=>A1M (ho.1.subset (A7 hk))
   conv=>whnf
   refine call (A7G st1) (fun v st2 hv=>?_)
   obtain ⟨q,rfl,hq⟩:=hv
   conv=>whnf
   rcases hsv with ⟨rfl,rfl⟩ | ⟨b,rfl,⟨fb,hst,hfb⟩,hpos⟩
   ·conv=>whnf
    refine A6g [2,5,8,40,41,42] ?_;conv=>whnf
    intro I
    refine A6g [5,8,11] ?_;conv=>whnf
    intro I
    refine H9 (A5w _ _ _ _ _ hq) ?_
    exact ⟨[],st1,q,true,ho,hsup,.inl ⟨by rw [List.length_map,A0D];rfl,rfl,hq⟩⟩
   ·have hol:o.length≤60:=by rw [ho.1.length_eq];have:=A0C l codes l.length;omega
    conv=>whnf
    refine ⟨[2,5,8,40,41,42],fun m vs st'=>∃ i:Nat,i≤o.length∧m=o.length - i∧vs=[.fptr (A5 15 B6 l) 0,.own 1 b 0 o.length,.optr 1 q 0 0,.own 1 b 0 o.length,eI o.length,eI i]∧T5 st1 q true ((List.range i).map (A6O l o)) st',?_,?_⟩
    ·conv=>whnf
     exact ⟨_,0,Nat.zero_le _,rfl,rfl,hq⟩
    ·clear hq
     rintro m vs st' ⟨i,hi,rfl,rfl,hq⟩
     have hst':=hq.sup b _ hst
     conv=>whnf
     cases h:decide ((i:Int)<(o.length:Int))
     ·have:=of_decide_eq_false h
      obtain rfl:i=o.length:=by omega
      conv=>whnf
      refine ⟨[5,8,11],fun m vs st'=>∃ (t:Nat) (sv:AV) (fl:Bool),t≤o.length∧m=o.length - t∧vs=[.own 1 b 0 o.length,.optr 1 q 0 0,sv]∧N7 3 1 (fun k=>eI (gI (G8 l o) k)) t st1 q fl ((P2 l o).drop t) sv st',?_,?_⟩
      ·conv=>whnf
       exact ⟨_,0,.emp,true,Nat.zero_le _,rfl,rfl,.inl ⟨rfl,rfl,hq.perm (Y0 l o).symm⟩⟩
      ·rintro m vs st' ⟨t,sv,fl,ht,rfl,rfl,hout⟩
       have hst':=hout.sup b _ hst
       have hrl:=A0D l o
       conv=>whnf
       refine H9 (hout.len_S) ?_
       refine B5 (fun h1=>?_) (fun h1=>?_)<;>rw [h1]<;>simp only [decide_eq_true_eq,decide_eq_false_iff_not,List.length_drop] at h1
       ·have htl:t<(P2 l o).length:=by omega
        have hsplit:(P2 l o).drop t=(P2 l o)[t]::(P2 l o).drop (t+1):=List.drop_eq_getElem_cons htl
        have hsort:=A6j l o
        have htop:∀ y∈(P2 l o).drop (t+1),D6 y (P2 l o)[t]=false:=fun y hy=>by
         have:=hsort.sublist (List.drop_sublist t _)
         rw [hsplit,List.pairwise_cons] at this
         exact this.1 y hy
        have hx:=A5A (List.getElem_mem htl)
        have hres:gI (G8 l o) t=gI o ((P2 l o)[t]).2.toNat:=by
         unfold gI G8
         rw [List.getD_eq_getElem?_getD,List.getElem?_map,List.getElem?_eq_getElem htl];rfl
        rw [hsplit] at hout
        generalize (P2 l o)[t]=x at *
        conv=>whnf
        refine call (hout.pop_S htop) (fun v st'' hv=>?_)
        obtain ⟨rfl,hout'⟩:=hv
        have hst'':=hout'.sup b _ hst
        conv=>whnf
        refine G9 ?_
        refine ldV hst'' rfl (by omega) (v:=eI (gI o x.2.toNat)) (by rw [Nat.zero_add];exact hfb _ hx.2) ?_;conv=>whnf
        refine N7.app (q:=r3) rfl rfl rfl rfl rfl (by simp only [hres];rfl) (by show (t+1) * 8≤140737488355328;omega) hout' (fun sv' st3 hout3=>?_);conv=>whnf
        refine H4 ?_
        exact ⟨o.length - (t+1),by omega,t+1,sv',false,by omega,rfl,rfl,hout3⟩
       ·have hte:t=o.length:=by omega
        subst hte;conv=>whnf
        refine ⟨o,st1,q,fl,ho,hsup,?_⟩
        rw [show (G8 l o).length=o.length by rw [List.length_map,hrl]]
        rw [show (P2 l o).drop o.length=[] by rw [←hrl,List.drop_length]] at hout
        exact hout
     ·have hi':i<o.length:=by have:=of_decide_eq_true h;omega
      have hm:=hmem i hi'
      conv=>whnf
      refine G9 ?_
      refine ldV hst' rfl (by omega) (v:=eI (gI o i)) (by rw [show 0+(i:Int).toNat=i by omega];exact hfb i hi') ?_;conv=>whnf
      refine G9 ?_
      refine call (A4H st1 q _ (H2 l (gI o i)).prio i _ hq (by rw [List.length_map,List.length_range];omega)) (fun v st'' hv=>?_)
      obtain ⟨rfl,hq'⟩:=hv
      conv=>whnf
      refine H4 ?_
      refine ⟨o.length - (i+1),by omega,i+1,by omega,rfl,by rw [B7 (by omega)],?_⟩
      rw [List.range_succ,List.map_append];exact hq'
  ·have hi':i<l.length:=by have:=of_decide_eq_true h;omega
   have hpl:=A0C l codes i
   conv=>whnf
   refine G9 ?_
   have yes:U0 codes (l.getD (i:Int).toNat default)=true→∀ (K:KK),(∀ sv' st'',H6 3 1 (fun k=>eI (gI (places l codes (i+1)) k)) st (places l codes (i+1)).length sv' st''→K sv' st'')→A3N T 29 sv (.arr 1 1 fun k=>[AV.int .i64 (i:Int)].getD k .junk) st' K:=fun ha K hK=>by
    have es:=A4a l codes i
    rw [if_pos (show U0 codes (l.getD i default)=true from ha)] at es
    have el:(places l codes (i+1)).length=(places l codes i).length+1:=by rw [es];simp
    refine H6.app (q:=r3) rfl rfl rfl rfl rfl ?_ (by show ((places l codes i).length+1) * 8≤140737488355328;omega) (hcol.congr (f':=fun k=>eI (gI (places l codes (i+1)) k)) fun k hk=>by rw [es,V2 hk]) (fun sv' st'' hc'=>hK sv' st'' (by rw [el];exact hc'))
    rw [es,A7q];rfl
   have no:U0 codes (l.getD (i:Int).toNat default)=false→places l codes (i+1)=places l codes i:=fun ha=>by
    have es:=A4a l codes i
    rw [if_neg (show ¬ U0 codes (l.getD i default)=true by rw [show U0 codes (l.getD i default)=false from ha];simp),List.append_nil] at es
    exact es
   have fin:∀ sv' st'',H6 3 1 (fun k=>eI (gI (places l codes (i+1)) k)) st (places l codes (i+1)).length sv' st''→∃ m',m'<l.length - i∧∃ (i_1:Nat) (sv:AV),i_1≤l.length∧m'=l.length - i_1∧[E6 codes,AV.fptr (A5 15 B6 l) 0,sv',A5 15 B6 l,eI l.length,eI (IntKind.i64.wrap ((i:Int)+1))]=[E6 codes,.fptr (A5 15 B6 l) 0,sv,A5 15 B6 l,eI l.length,eI i_1]∧H6 3 1 (fun k=>eI (gI (places l codes i_1) k)) st (places l codes i_1).length sv st'' :=
    fun sv' st'' hc'=>⟨l.length - (i+1),by omega,i+1,sv',by omega,rfl,by rw [B7 (by omega)],hc'⟩
   refine B5 (fun h1=>?_) (fun h1=>?_)
   ·have ha:U0 codes (l.getD (i:Int).toNat default)=true:=by unfold U0;rw [show Z8 (l.getD (i:Int).toNat default).code=true from h1,Bool.true_or]
    rw [h1];conv=>whnf
    refine yes ha _ (fun sv' st'' hc'=>?_);conv=>whnf
    refine H4 ?_
    exact fin _ _ hc'
   ·rw [h1];conv=>whnf
    refine H9 (B4n codes hc (l.getD (i:Int).toNat default).code _) ?_
    refine B5 (fun h2=>?_) (fun h2=>?_)
    ·have ha:U0 codes (l.getD (i:Int).toNat default)=true:=by unfold U0;rw [h2,Bool.or_true]
     rw [h2];conv=>whnf
     refine yes ha _ (fun sv' st'' hc'=>?_);conv=>whnf
     refine H4 ?_
     exact fin _ _ hc'
    ·have ha:U0 codes (l.getD (i:Int).toNat default)=false:=by unfold U0;rw [show Z8 (l.getD (i:Int).toNat default).code=false from h1,h2];rfl
     rw [h2];conv=>whnf
     refine H4 ?_
     exact fin _ _ (by rw [no ha];exact hcol)
theorem B7T (a b:Int) (ha:0≤a) (hb:0≤b) (hab:a+b≤100000000000000) (st:St):S P 345 [eI a,eI b] st fun v st'=>v=.tuple [eI (a+b),eI 0]∧st'=st:=by
 have ra:(decide (0≤a)&&decide (a≤100000000000000))=true:=by simp;omega
 have rb:(decide (0≤b)&&decide (b≤100000000000000))=true:=by simp;omega
 have w1:IntKind.i64.wrap (100000000000000 - b)=100000000000000 - b:=B0 (by omega) (by omega)
 have w2:IntKind.i64.wrap (a+b)=a+b:=B0 (by omega) (by omega)
 refine E3 [] Tryz.func345 ?_
 refine C1 (A2Y a st) ?_
 rw [ra];conv=>whnf
 refine C1 (A2Y b st) ?_
 rw [rb];conv=>whnf
 rw [w1]
 refine B5 (fun h=>?_) (fun h=>?_)<;>rw [h]<;>simp only [decide_eq_true_eq,decide_eq_false_iff_not] at h
 ·exact absurd h (by omega)
 ·conv=>whnf
  rw [w2]
  exact ⟨rfl,rfl⟩
def A2 (l:List Int):Int:=l.foldl (fun s x=>s+x) 0
theorem I8 {l:List Int} {i:Nat} (h:i<l.length):A2 (l.take (i+1))=A2 (l.take i)+gI l i:=R4 h _ _
theorem E0 (a b:List Int):A2 (a++b)=A2 a+A2 b:=by
 have:∀ (b:List Int) (s:Int),b.foldl (fun s x=>s+x) s=s+b.foldl (fun s x=>s+x) 0:=by
  intro b
  induction b with
  | nil=>intro s;simp
  | cons x b ih=>intro s;simp only [List.foldl_cons];rw [ih (s+x),ih (0+x)];omega
 unfold A2
 rw [List.foldl_append,this b]
theorem B8 {l:List Int} (h:∀ x∈l,0≤x):0≤A2 l:=by
 induction l with
 | nil=>exact Int.le_refl _
 | cons x l ih =>
  have:=E0 [x] l
  rw [List.singleton_append] at this
  have e:A2 [x]=x:=by simp [A2]
  rw [this,e]
  have:=ih (fun y hy=>h y (List.mem_cons_of_mem _ hy))
  have:=h x (List.mem_cons_self ..)
  omega
theorem J4 {l:List Int} (h:∀ x∈l,0≤x) (i:Nat):A2 (l.take i)≤A2 l:=by
 have e:=E0 (l.take i) (l.drop i)
 rw [List.take_append_drop] at e
 have:=B8 (l:=l.drop i) (fun x hx=>h x (List.drop_subset _ _ hx))
 omega
theorem I3 {l:List Int} (h:∀ x∈l,0≤x) {x:Int} (hx:x∈l):x≤A2 l:=by
 obtain ⟨i,hi,rfl⟩:=E4 hx
 have h1:=I8 hi
 have h2:=J4 h (i+1)
 have h3:=B8 (l:=l.take i) (fun x hx=>h x (List.take_subset _ _ hx))
 have e:gI l i=l.getD i default:=rfl
 omega
structure J8 (total:Int) (ws:List Int):Prop where
 t0:0≤total
 t1:total≤100000000000000
 len:ws.length≤100000
 w0:∀ w∈ws,0≤w
 sum:A2 ws≤100000000000000
 none:A2 ws=0→total=0
theorem B7C (total:Int) (ws:List Int) (hW:J8 total ws) (st:St):S P 327 [eI total,B2 ws] st fun v st'=>v=.tuple [eI (A2 ws),eI 0]∧st'=st:=by
 have rt:(decide (0≤total)&&decide (total≤100000000000000))=true:=by simp;exact ⟨hW.t0,hW.t1⟩
 have hw:∀ w∈ws,w≤100000000000000:=fun w hw=>Int.le_trans (I3 hW.w0 hw) hW.sum
 have hl:=hW.len
 refine E3 [] Tryz.func327 ?_
 refine C1 (A2Y total st) ?_
 rw [rt];conv=>whnf
 refine B5 (fun h=>?_) (fun h=>?_)<;>rw [h]<;>simp only [decide_eq_true_eq,decide_eq_false_iff_not] at h
 ·exact absurd h (by omega)
 conv=>whnf
 refine ⟨[0,1,20,21,22],fun m vs st'=>∃ i:Nat,i≤ws.length∧m=ws.length - i∧vs=[eI total,B2 ws,B2 ws,eI ws.length,eI i]∧st'=st,?_,?_⟩
 ·conv=>whnf
  exact ⟨_,0,Nat.zero_le _,rfl,rfl,rfl⟩
 ·rintro m vs st' ⟨i,hi,rfl,rfl,rfl⟩
  conv=>whnf
  cases h1:decide ((i:Int)<(ws.length:Int))
  ·conv=>whnf
   refine ⟨[0,8,30,31,32],fun m vs st''=>∃ i:Nat,i≤ws.length∧m=ws.length - i∧vs=[eI total,eI (A2 (ws.take i)),B2 ws,eI ws.length,eI i]∧st''=st',?_,?_⟩
   ·conv=>whnf
    exact ⟨_,0,Nat.zero_le _,rfl,rfl,rfl⟩
   ·rintro m vs st'' ⟨i,hi,rfl,rfl,rfl⟩
    conv=>whnf
    cases h2:decide ((i:Int)<(ws.length:Int))
    ·have:=of_decide_eq_false h2
     obtain rfl:i=ws.length:=by omega
     rw [List.take_length];conv=>whnf
     refine B5 (fun h3=>?_) (fun h3=>?_)<;>rw [h3]
     ·conv=>whnf
      have:total=0:=hW.none (by simpa using h3)
      rw [this];conv=>whnf
      exact ⟨rfl,rfl⟩
     ·conv=>whnf
      exact ⟨rfl,rfl⟩
    ·have hi':i<ws.length:=by have:=of_decide_eq_true h2;omega
     have h3:=I8 hi'
     have h4:=J4 hW.w0 (i+1)
     have h5:=B8 (l:=ws.take i) (fun x hx=>hW.w0 x (List.take_subset _ _ hx))
     have h6:=hW.w0 _ (A7 hi')
     have h7:=hW.sum
     conv=>whnf
     refine G9 ?_
     refine H9 (B7T (A2 (ws.take i)) (gI ws i) h5 h6 (by omega) _) ?_
     refine H4 ?_
     exact ⟨ws.length - (i+1),by omega,i+1,by omega,rfl,by rw [B7 (by omega),h3],rfl⟩
  ·have hi':i<ws.length:=by have:=of_decide_eq_true h1;omega
   have hm:gI ws i∈ws:=A7 hi'
   have rw':(decide (0≤gI ws i)&&decide (gI ws i≤100000000000000))=true:=by simp only [Bool.and_eq_true,decide_eq_true_eq];exact ⟨hW.w0 _ hm,hw _ hm⟩
   conv=>whnf
   refine G9 ?_
   refine C1 (A2Y (gI ws i) _) ?_
   rw [rw'];conv=>whnf
   refine H4 ?_
   exact ⟨ws.length - (i+1),by omega,i+1,by omega,rfl,by rw [B7 (by omega)],rfl⟩
theorem B7k (total w all:Int) (h0:0≤total) (h1:total≤100000000000000) (hw:0≤w) (hwa:w≤all) (ha:0<all) (ha':all≤100000000000000) (st:St):S P 328 [eI total,eI w,eI all] st fun v st'=>v=.tuple [eI (total * w / all),eI (total * w % all)]∧st'=st:=by
 have e1:IntKind.u64.wrap total=total:=A9 (by omega) (by omega)
 have e2:IntKind.u64.wrap w=w:=A9 (by omega) (by omega)
 have e3:IntKind.u64.wrap all=all:=A9 (by omega) (by omega)
 have hN:0≤total * w:=Int.mul_nonneg h0 hw
 have hN':total * w≤100000000000000 * all:=Int.mul_le_mul h1 hwa hw (by omega)
 have hq0:0≤total * w / all:=Int.ediv_nonneg hN (by omega)
 have hq1:total * w / all≤100000000000000:=by
  have:total * w / all<100000000000000+1:=(Int.ediv_lt_iff_lt_mul ha).2 (by omega)
  omega
 have hr0:=Int.emod_nonneg (total * w) (show all≠0 by omega)
 have hr1:=Int.emod_lt_of_pos (total * w) ha
 refine E3 [] Tryz.func328 ?_
 rw [e1,e2]
 refine H9 (B0R total w ⟨by omega,by omega⟩ ⟨by omega,by omega⟩ st) ?_
 rw [e3]
 have hN2:100000000000000 * all≤100000000000000 * 100000000000000:=by omega
 refine C1 (B0E _ _ all (by omega) (by omega) (by omega) (by omega) (by omega) st) ?_
 rw [show total * w / 18446744073709551616 * 18446744073709551616+total * w % 18446744073709551616=total * w by omega];conv=>whnf
 rw [B0 (x:=total * w / all) (by omega) (by omega),B0 (x:=total * w % all) (by omega) (by omega)]
 exact ⟨rfl,rfl⟩
def shQ (total S:Int) (ws:List Int) (k:Nat):Int:=total * gI ws k / S
def shE (total S:Int) (ws:List Int) (k:Nat):QE:=(total * gI ws k % S,(k:Int))
def shR (total S:Int) (ws:List Int):List QE:=((List.range ws.length).map (shE total S ws)).mergeSort fun a b=>!D6 b a
def L3 (qs:List Int) (R:List QE):List Int:=R.foldl (fun acc e=>acc.set e.2.toNat (gI acc e.2.toNat+1)) qs
def G4 (total S:Int) (ws:List Int) (i:Nat):Int:=total - A2 ((List.range i).map (shQ total S ws))
def C3 (total:Int) (ws:List Int):List Int :=
 if A2 ws=0 then ws.map fun _=>0
 else L3 ((List.range ws.length).map (shQ total (A2 ws) ws)) ((shR total (A2 ws) ws).take (G4 total (A2 ws) ws ws.length).toNat)
theorem W6 (total S:Int) (ws:List Int):(shR total S ws).Perm ((List.range ws.length).map (shE total S ws)):=List.mergeSort_perm ..
theorem A5G (total S:Int) (ws:List Int):(shR total S ws).Pairwise fun a b=>D6 b a=false:=by
 have:=List.pairwise_mergeSort (le:=fun a b:QE=>!D6 b a) (fun a b c h1 h2=>by simp only [Bool.not_eq_true'] at *;exact Q0 h2 h1) (fun a b=>by
  cases h:D6 b a with
  | false=>rfl
  | true=>rw [Q1 h];rfl) ((List.range ws.length).map (shE total S ws))
 exact this.imp (fun h=>by simpa using h)
theorem A7O (total S:Int) (ws:List Int):(shR total S ws).length=ws.length:=by
 rw [(W6 total S ws).length_eq];simp
theorem A7P {total S:Int} {ws:List Int} {e:QE} (h:e∈shR total S ws):0≤e.2∧e.2.toNat<ws.length:=by
 obtain ⟨k,hk,rfl⟩:=List.mem_map.1 ((W6 total S ws).subset h)
 have:=List.mem_range.1 hk
 simp only [shE];omega
theorem A0q (qs:List Int) (R:List QE):(L3 qs R).length=qs.length:=by
 unfold L3
 induction R generalizing qs with
 | nil=>rfl
 | cons e R ih=>simp only [List.foldl_cons];rw [ih];simp
theorem A8n (qs:List Int) (R:List QE) (e:QE):L3 qs (R++[e])=(L3 qs R).set e.2.toNat (gI (L3 qs R) e.2.toNat+1):=by
 unfold L3;rw [List.foldl_append];rfl
theorem K9 (f:Nat→Int) (n:Nat):A2 ((List.range (n+1)).map f)=A2 ((List.range n).map f)+f n:=by
 rw [List.range_succ,List.map_append,E0];simp [A2]
theorem A4A (total S:Int) (hS:0<S) (ws:List Int):∀ i,i≤ws.length→S * A2 ((List.range i).map (shQ total S ws))+A2 ((List.range i).map fun k=>total * gI ws k % S)=total * A2 (ws.take i)
 | 0,_=>by simp [A2]
 | i+1,h=>by
  have ih:=A4A total S hS ws i (by omega)
  rw [K9,K9,I8 (by omega),Int.mul_add,Int.mul_add,←ih]
  have:=Int.mul_ediv_add_emod (total * gI ws i) S
  unfold shQ
  omega
theorem A2t (total S:Int) (hS:0<S) (ws:List Int):∀ i,0≤A2 ((List.range i).map fun k=>total * gI ws k % S)∧A2 ((List.range i).map fun k=>total * gI ws k % S)≤i * (S - 1)
 | 0=>by simp [A2]
 | i+1=>by
  have ih:=A2t total S hS ws i
  rw [K9]
  have h1:=Int.emod_nonneg (total * gI ws i) (show S≠0 by omega)
  have h2:=Int.emod_lt_of_pos (total * gI ws i) hS
  have h3:((i+1:Nat):Int) * (S - 1)=(i:Int) * (S - 1)+(S - 1):=by
   rw [show ((i+1:Nat):Int)=(i:Int)+1 by omega,Int.add_mul,Int.one_mul]
  omega
theorem A0y {total:Int} {ws:List Int} (h:J8 total ws) (hS:0<A2 ws):0≤G4 total (A2 ws) ws ws.length∧G4 total (A2 ws) ws ws.length≤ws.length:=by
 have e:=A4A total (A2 ws) hS ws ws.length (Nat.le_refl _)
 have b:=A2t total (A2 ws) hS ws ws.length
 rw [List.take_length] at e
 have hk:A2 ws * G4 total (A2 ws) ws ws.length=A2 ((List.range ws.length).map fun k=>total * gI ws k % A2 ws):=by
  unfold G4
  rw [Int.mul_sub,Int.mul_comm (A2 ws) total];omega
 constructor
 ·refine Int.le_of_not_gt fun hlt=>?_
  have:A2 ws * G4 total (A2 ws) ws ws.length<0:=Int.mul_neg_of_pos_of_neg hS hlt
  omega
 ·refine Int.le_of_not_gt fun hgt=>?_
  have h1:A2 ws * ((ws.length:Int)+1)≤A2 ws * G4 total (A2 ws) ws ws.length:=Int.mul_le_mul_of_nonneg_left (by omega) (by omega)
  have h2:(ws.length:Int) * (A2 ws - 1)≤A2 ws * (ws.length:Int):=by
   rw [Int.mul_sub,Int.mul_one,Int.mul_comm];omega
  rw [Int.mul_add,Int.mul_one] at h1
  omega
theorem A3J {total:Int} {ws:List Int} (h:J8 total ws) (hS:0<A2 ws) {k:Nat} (hk:k<ws.length):0≤shQ total (A2 ws) ws k∧shQ total (A2 ws) ws k≤total:=by
 have hw:=h.w0 _ (A7 hk)
 have hle:=I3 h.w0 (A7 hk)
 refine ⟨Int.ediv_nonneg (Int.mul_nonneg h.t0 hw) (by omega),?_⟩
 have h1:total * gI ws k≤total * A2 ws:=Int.mul_le_mul_of_nonneg_left hle h.t0
 have:shQ total (A2 ws) ws k<total+1:=(Int.ediv_lt_iff_lt_mul hS).2 (by rw [Int.add_mul,Int.one_mul];omega)
 omega
theorem A5O {total:Int} {ws:List Int} (h:J8 total ws) (hS:0<A2 ws) {i:Nat} (hi:i≤ws.length):0≤A2 ((List.range i).map (shQ total (A2 ws) ws))∧A2 ((List.range i).map (shQ total (A2 ws) ws))≤total:=by
 have e:=A4A total (A2 ws) hS ws i hi
 have b:=A2t total (A2 ws) hS ws i
 have t:=J4 h.w0 i
 constructor
 ·exact B8 fun x hx=>by
   obtain ⟨k,hk,rfl⟩:=List.mem_map.1 hx
   exact (A3J h hS (by have:=List.mem_range.1 hk;omega)).1
 ·have h1:total * A2 (ws.take i)≤total * A2 ws:=Int.mul_le_mul_of_nonneg_left t h.t0
  refine Int.le_of_not_gt fun hgt=>?_
  have:A2 ws * (total+1)≤A2 ws * A2 ((List.range i).map (shQ total (A2 ws) ws)):=Int.mul_le_mul_of_nonneg_left (by omega) (by omega)
  rw [Int.mul_add,Int.mul_one,Int.mul_comm] at this
  omega
theorem A2M (qs:List Int) (R:List QE) (k:Nat):gI qs k≤gI (L3 qs R) k∧gI (L3 qs R) k≤gI qs k+R.length:=by
 unfold L3
 induction R generalizing qs with
 | nil=>simp
 | cons e R ih =>
  simp only [List.foldl_cons,List.length_cons]
  have h:=ih (qs.set e.2.toNat (gI qs e.2.toNat+1))
  have hs:gI qs k≤gI (qs.set e.2.toNat (gI qs e.2.toNat+1)) k∧gI (qs.set e.2.toNat (gI qs e.2.toNat+1)) k≤gI qs k+1:=by
   unfold gI
   simp only [List.getD_eq_getElem?_getD,List.getElem?_set]
   by_cases e1:e.2.toNat=k
   ·subst e1
    by_cases e2:e.2.toNat<qs.length
    ·simp [e2];omega
    ·simp [e2]
   ·rw [if_neg e1];omega
  omega
theorem N4 (f:Nat→Int) {n k:Nat} (hk:k<n):gI ((List.range n).map f) k=f k:=by
 unfold gI;simp [List.getD_eq_getElem?_getD,hk]
theorem B6U {l:List Int} {j:Nat} (hj:j<l.length) (x:Int) (k:Nat):gI (l.set j x) k=if k=j then x else gI l k:=by
 unfold gI
 simp only [List.getD_eq_getElem?_getD,List.getElem?_set]
 by_cases h:k=j
 ·subst h;simp [hj]
 ·rw [if_neg (fun e=>h e.symm),if_neg h]
theorem A6G (total:Int) (ws:List Int) (h:J8 total ws) (st:St):S P 280 [eI total,B2 ws] st fun v st'=>v=.tuple [B2 (C3 total ws),eI 0]∧st'=st:=by
 have hlen:=h.len
 refine S.post (post:=fun v st'=>∃ (bo:Nat) (f:Nat→AV),st bo=none∧v=.tuple [.own 1 bo 0 ws.length,eI 0]∧E2 (upd st bo ⟨2,1,ws.length,f⟩) st'∧(C3 total ws).length=ws.length∧∀ k,k<ws.length→f k=eI (gI (C3 total ws) k)) ?_
  (fun v st' ⟨bo,f,h0,hv,hs,hl,hf⟩=>⟨_,st,⟨rfl,rfl⟩,by
   rw [hv]
   refine A4.tuple (A4.cons ((hs.shift _).trans ?_) (A4.keep _ _)) rfl
   have h2:=M1 (st:=upd st bo ⟨2,1,ws.length,f⟩) (e:=1) (b:=bo) (n:=ws.length) (f:=fun k=>eI (gI (C3 total ws) k)) (A0 ..) rfl (Nat.le_refl _) hf
   rw [A1F h0] at h2
   have e:B2 (C3 total ws)=.arr 1 ws.length (fun k=>eI (gI (C3 total ws) k)):=by unfold B2 A5;rw [hl]
   rw [e];exact h2⟩)
 refine E3 [] Tryz.func280 ?_
 refine H9 (B7C total ws h st) ?_
 refine mkO rfl rfl rfl (by show 8 * ws.length≤_;omega) (by omega) (by rfl) (fun bo hbo=>?_);conv=>whnf
 refine B5 (fun h1=>?_) (fun h1=>?_)<;>rw [h1]
 ·have h0:A2 ws=0:=by simpa using h1
  have hB:C3 total ws=ws.map fun _=>0:=if_pos h0
  conv=>whnf
  refine ⟨bo,_,hbo,rfl,E2.refl _,by rw [hB,List.length_map],fun k hk=>?_⟩
  rw [hB]
  show AV.int .i64 0=_
  rw [show gI (ws.map fun _=>(0:Int)) k=0 from E7 (fun _=>(0:Int)) ws hk]
 have hS:0<A2 ws:=by
  have h2:=B8 h.w0
  have h3:A2 ws≠0:=by simpa using h1
  omega
 have hB:C3 total ws=L3 ((List.range ws.length).map (shQ total (A2 ws) ws)) ((shR total (A2 ws) ws).take (G4 total (A2 ws) ws ws.length).toNat):=if_neg (by omega)
 have hsum:=h.sum
 have ht0:=h.t0
 have ht1:=h.t1
 conv=>whnf
 refine call (A7G _) (fun v st2 hv=>?_)
 obtain ⟨q,rfl,hq⟩:=hv
 conv=>whnf
 refine ⟨[0,6,8,9,10,35,36,37],fun m vs st'=>∃ (i:Nat) (f:Nat→AV),i≤ws.length∧m=ws.length - i∧vs=[eI total,eI (A2 ws),.own 1 bo 0 ws.length,eI (G4 total (A2 ws) ws i),.optr 1 q 0 0,B2 ws,eI ws.length,eI i] ∧
  (∀ k,k<i→f k=eI (shQ total (A2 ws) ws k))∧(∀ k,i≤k→f k=.int .i64 0)∧T5 (upd st bo ⟨2,1,ws.length,f⟩) q true ((List.range i).map (shE total (A2 ws) ws)) st',?_,?_⟩
 ·conv=>whnf
  exact ⟨_,0,fun _=>.int .i64 0,Nat.zero_le _,rfl,(by simp [G4,A2];rfl),fun k hk=>absurd hk (by omega),fun _ _=>rfl,hq⟩
 ·clear hq
  rintro m vs st' ⟨i,f,hi,rfl,rfl,hf1,hf2,hq⟩
  conv=>whnf
  cases h2:decide ((i:Int)<(ws.length:Int))
  ·have:=of_decide_eq_false h2
   obtain rfl:i=ws.length:=by omega
   obtain ⟨l0,l1⟩:=A0y h hS
   conv=>whnf
   refine ⟨[8,10,61,62],fun m vs st'=>∃ (t:Nat) (f:Nat→AV) (fl:Bool),(t:Int)≤G4 total (A2 ws) ws ws.length∧m=(G4 total (A2 ws) ws ws.length).toNat - t∧vs=[.own 1 bo 0 ws.length,.optr 1 q 0 0,eI (G4 total (A2 ws) ws ws.length),eI t] ∧
    (∀ k,k<ws.length→f k=eI (gI (L3 ((List.range ws.length).map (shQ total (A2 ws) ws)) ((shR total (A2 ws) ws).take t)) k))∧T5 (upd st bo ⟨2,1,ws.length,f⟩) q fl ((shR total (A2 ws) ws).drop t) st',?_,?_⟩
   ·conv=>whnf
    exact ⟨_,0,f,true,by omega,rfl,rfl,fun k hk=>by rw [hf1 k hk,List.take_zero];show _=eI (gI ((List.range ws.length).map _) k);rw [N4 _ hk],hq.perm (W6 total (A2 ws) ws).symm⟩
   ·clear hf1 hf2 hq f
    rintro m vs st' ⟨t,f,fl,ht,rfl,rfl,hf,hq⟩
    have hrl:=A7O total (A2 ws) ws
    have hby:st' bo=some ⟨2,1,ws.length,f⟩:=hq.sup bo _ (A0 ..)
    conv=>whnf
    cases h3:decide ((t:Int)<G4 total (A2 ws) ws ws.length)
    ·have h3':=of_decide_eq_false h3
     have hte:(G4 total (A2 ws) ws ws.length).toNat=t:=by omega
     conv=>whnf
     refine ⟨bo,f,hbo,rfl,hq.sup,by rw [hB,A0q];simp,fun k hk=>by rw [hB,hte];exact hf k hk⟩
    ·have h3':=of_decide_eq_true h3
     have htl:t<(shR total (A2 ws) ws).length:=by omega
     have hsplit:(shR total (A2 ws) ws).drop t=(shR total (A2 ws) ws)[t]::(shR total (A2 ws) ws).drop (t+1):=List.drop_eq_getElem_cons htl
     have htop:∀ y∈(shR total (A2 ws) ws).drop (t+1),D6 y (shR total (A2 ws) ws)[t]=false:=fun y hy=>by
      have:=(A5G total (A2 ws) ws).sublist (List.drop_sublist t _)
      rw [hsplit,List.pairwise_cons] at this
      exact this.1 y hy
     have hx:=A7P (List.getElem_mem htl)
     have htake:(shR total (A2 ws) ws).take (t+1)=(shR total (A2 ws) ws).take t++[(shR total (A2 ws) ws)[t]]:=List.take_succ_eq_append_getElem htl
     rw [hsplit] at hq
     generalize (shR total (A2 ws) ws)[t]=x at *
     have hb1:=A2M ((List.range ws.length).map (shQ total (A2 ws) ws)) ((shR total (A2 ws) ws).take t) x.2.toNat
     have hb2:=A3J h hS hx.2
     rw [N4 _ hx.2,List.length_take] at hb1;conv=>whnf
     refine call (A5x _ _ _ _ _ _ hq htop) (fun v st'' hv=>?_)
     obtain ⟨rfl,hq'⟩:=hv
     have hby':st'' bo=some ⟨2,1,ws.length,f⟩:=hq'.sup bo _ (A0 ..)
     conv=>whnf
     refine G9 ?_
     refine ldV hby' rfl (by omega) (v:=eI (gI (L3 ((List.range ws.length).map (shQ total (A2 ws) ws)) ((shR total (A2 ws) ws).take t)) x.2.toNat)) (by rw [Nat.zero_add];exact hf _ hx.2) ?_;conv=>whnf
     refine G9 ?_
     refine stV hby' rfl (by omega) (v:=eI (gI (L3 ((List.range ws.length).map (shQ total (A2 ws) ws)) ((shR total (A2 ws) ws).take t)) x.2.toNat)) (by rw [Nat.zero_add];exact hf _ hx.2) (by rfl) ?_;conv=>whnf
     refine H4 ?_
     have hg:=hq'.grow (bo':=bo) (y':=⟨2,1,ws.length,L4 f (0+x.2.toNat) (eI (IntKind.i64.wrap (gI (L3 ((List.range ws.length).map (shQ total (A2 ws) ws)) ((shR total (A2 ws) ws).take t)) x.2.toNat+1)))⟩) hbo (.inl rfl)
     rw [A4J] at hg
     refine ⟨(G4 total (A2 ws) ws ws.length).toNat - (t+1),by omega,t+1,_,false,by omega,rfl,by rw [B7 (by omega)],fun k hk=>?_,hg.2⟩
     rw [htake,A8n,B6U (by rw [A0q];simpa using hx.2),Nat.zero_add]
     by_cases e1:k=x.2.toNat
     ·rw [if_pos e1,e1,B3,B0 (by omega) (by omega)]
     ·rw [if_neg e1,J9 e1];exact hf k hk
  ·have hi':i<ws.length:=by have:=of_decide_eq_true h2;omega
   have hm:gI ws i∈ws:=A7 hi'
   have hby:st' bo=some ⟨2,1,ws.length,f⟩:=hq.sup bo _ (A0 ..)
   have hqb:=A5O h hS (show i≤ws.length by omega)
   have hqb':=A5O h hS (show i+1≤ws.length by omega)
   have hsr:=K9 (shQ total (A2 ws) ws) i
   conv=>whnf
   refine G9 ?_
   refine H9 (B7k total (gI ws i) (A2 ws) h.t0 h.t1 (h.w0 _ hm) (I3 h.w0 hm) hS h.sum _) ?_
   refine G9 ?_
   refine stV hby rfl (by omega) (v:=.int .i64 0) (by rw [show 0+(i:Int).toNat=i by omega];exact hf2 i (Nat.le_refl _)) (by rfl) ?_
   conv=>whnf
   have hg:=hq.grow (bo':=bo) (y':=⟨2,1,ws.length,L4 f (0+(i:Int).toNat) (eI (shQ total (A2 ws) ws i))⟩) hbo (.inl rfl)
   rw [A4J] at hg
   refine call (A4H _ q _ (total * gI ws i % A2 ws) i _ hg.2 (by rw [List.length_map,List.length_range];omega)) (fun v st'' hv=>?_)
   obtain ⟨rfl,hq'⟩:=hv
   conv=>whnf
   refine H4 ?_
   refine ⟨ws.length - (i+1),by omega,i+1,L4 f (0+(i:Int).toNat) (eI (shQ total (A2 ws) ws i)),by omega,rfl,?_,fun k hk=>?_,fun k hk=>?_,?_⟩
   ·rw [B7 (by omega)]
    have e:IntKind.i64.wrap (G4 total (A2 ws) ws i - total * gI ws i / A2 ws)=G4 total (A2 ws) ws (i+1):=by
     unfold G4
     have:total * gI ws i / A2 ws=shQ total (A2 ws) ws i:=rfl
     rw [this,B0 (by omega) (by omega)];omega
    rw [e]
   ·by_cases e1:k=i
    ·subst e1;rw [show 0+(k:Int).toNat=k by omega,B3]
    ·rw [J9 (by omega)];exact hf1 k (by omega)
   ·rw [J9 (by omega)];exact hf2 k (by omega)
   ·rw [List.range_succ,List.map_append];exact hq'
abbrev B9 (l:List A6):AV:=A5 3 U1 l
abbrev gU (l:List A6) (k:Nat):A6:=l.getD k default
abbrev C8 (us:List A6):List Int:=us.map A6.net
structure C0 (us:List A6):Prop where
 len:us.length≤100000
 pos:∀ u∈us,0≤u.net
 sum:A2 (C8 us)≤10000000000000
structure I7 (us:List A6) (mine:List Int):Prop where
 rng:∀ k,k<mine.length→0≤gI mine k∧(gI mine k).toNat<us.length
 opn:∀ k,k<mine.length→(gU us (gI mine k).toNat).opn=true
 inc:∀ k,k+1<mine.length→gI mine k<gI mine (k+1)
theorem C0.nets0 {us:List A6} (h:C0 us):∀ x∈C8 us,0≤x:=fun x hx=>by
 obtain ⟨u,hu,rfl⟩:=List.mem_map.1 hx
 exact h.pos u hu
theorem C0.le {us:List A6} (h:C0 us) {u:A6} (hu:u∈us):u.net≤10000000000000:=by
 have:=I3 h.nets0 (List.mem_map_of_mem (f:=A6.net) hu)
 have:=h.sum
 omega
theorem I7.lt {us:List A6} {mine:List Int} (h:I7 us mine):∀ j k,j<k→k<mine.length→gI mine j<gI mine k:=fun j k hjk hk=>by
 induction k with
 | zero=>omega
 | succ k ih =>
  rcases Nat.lt_or_ge j k with hlt | hge
  ·exact Int.lt_trans (ih hlt (by omega)) (h.inc k hk)
  ·have:j=k:=by omega
   subst this;exact h.inc j hk
theorem I7.len {us:List A6} {mine:List Int} (h:I7 us mine):mine.length≤us.length:=by
 have:∀ k,k<mine.length→(k:Int)≤gI mine k:=fun k=>by
  induction k with
  | zero=>intro hk;exact (h.rng 0 hk).1
  | succ k ih=>intro hk;have:=ih (by omega);have:=h.inc k hk;omega
 rcases Nat.eq_zero_or_pos mine.length with e | e
 ·omega
 ·have h1:=this (mine.length - 1) (by omega)
  have h2:=(h.rng (mine.length - 1) (by omega)).2
  omega
theorem B7e (us:List A6) (h:C0 us) (st:St):S P 329 [B9 us] st fun v st'=>v=.bool true∧st'=st:=by
 have hlen:=h.len
 refine E3 [5] Tryz.func329 ?_
 refine B5 (fun h1=>?_) (fun h1=>?_)<;>rw [h1]<;>simp only [decide_eq_true_eq,decide_eq_false_iff_not] at h1
 ·exact absurd h1 (by omega)
 conv=>whnf
 refine ⟨[3,9,10,11],fun m vs st'=>∃ i:Nat,i≤us.length∧m=us.length - i∧vs=[eI (A2 ((C8 us).take i)),B9 us,eI us.length,eI i]∧st'=st,?_,?_⟩
 ·conv=>whnf
  exact ⟨_,0,Nat.zero_le _,rfl,rfl,rfl⟩
 ·rintro m vs st' ⟨i,hi,rfl,rfl,rfl⟩
  conv=>whnf
  cases h2:decide ((i:Int)<(us.length:Int))
  ·have:=of_decide_eq_false h2
   obtain rfl:i=us.length:=by omega
   have hs:=h.sum
   rw [show (C8 us).take us.length=C8 us from by rw [←List.length_map (f:=A6.net),List.take_length]];conv=>whnf
   refine ⟨?_,rfl⟩
   show AV.bool (decide _)=_
   rw [decide_eq_true hs]
  ·have hi':i<us.length:=by have:=of_decide_eq_true h2;omega
   have hu:gU us i∈us:=A7 hi'
   have p0:=h.pos _ hu
   have p1:=h.le hu
   have hsum:=h.sum
   have e1:=I8 (l:=C8 us) (i:=i) (by rw [List.length_map];exact hi')
   have e2:=J4 h.nets0 (i+1)
   have e3:=B8 (l:=(C8 us).take i) (fun x hx=>h.nets0 x (List.take_subset _ _ hx))
   have e4:gI (C8 us) i=(gU us i).net:=E7 A6.net us hi'
   have w:IntKind.i64.wrap (A2 ((C8 us).take i)+(gU us i).net)=A2 ((C8 us).take (i+1)):=by rw [e1,e4];exact B0 (by omega) (by omega)
   conv=>whnf
   refine G9 ?_
   refine B5 (fun h3=>?_) (fun h3=>?_)<;>rw [h3]
   ·exact absurd (of_decide_eq_true h3) (by show ¬(gU us i).net<0;omega)
   conv=>whnf
   refine B5 (fun h4=>?_) (fun h4=>?_)<;>rw [h4]
   ·exact absurd (of_decide_eq_true h4) (by show ¬(gU us i).net>10000000000000;omega)
   conv=>whnf
   refine H4 ?_
   exact ⟨us.length - (i+1),by omega,i+1,by omega,rfl,by rw [B7 (by omega),←w];rfl,rfl⟩
theorem A4Y (us:List A6) (mine:List Int) (h:C0 us) (hm:I7 us mine) (st:St):S P 287 [B9 us,B2 mine] st fun v st'=>v=.bool true∧st'=st:=by
 have hlen:=h.len
 have hml:=hm.len
 refine E3 [] Tryz.func287 ?_
 refine H9 (B7e us h st) ?_
 refine ⟨[0,5,11,12,13],fun m vs st'=>∃ i:Nat,i≤mine.length∧m=mine.length - i∧vs=[B9 us,eI (if i=0 then -1 else gI mine (i - 1)),B2 mine,eI mine.length,eI i]∧st'=st,?_,?_⟩
 ·conv=>whnf
  exact ⟨_,0,Nat.zero_le _,rfl,rfl,rfl⟩
 ·rintro m vs st' ⟨i,hi,rfl,rfl,rfl⟩
  conv=>whnf
  cases h2:decide ((i:Int)<(mine.length:Int))
  ·conv=>whnf
   exact ⟨rfl,rfl⟩
  ·have hi':i<mine.length:=by have:=of_decide_eq_true h2;omega
   have hr:=hm.rng i hi'
   have ho:=hm.opn i hi'
   have hlast:(if i=0 then -1 else gI mine (i - 1))<gI mine i:=by
    split
    ·omega
    ·exact hm.lt (i - 1) i (by omega) hi'
   conv=>whnf
   refine G9 ?_
   refine B5 (fun h3=>?_) (fun h3=>?_)<;>rw [h3]
   ·exact absurd (of_decide_eq_true h3) (by show ¬ gI mine i≤_;omega)
   conv=>whnf
   refine B5 (fun h4=>?_) (fun h4=>?_)<;>rw [h4]
   ·exact absurd (of_decide_eq_true h4) (by show ¬ gI mine i≥(us.length:Int);omega)
   conv=>whnf
   refine ⟨rfl,⟨by show 0≤gI mine i;omega,by show gI mine i<(us.length:Int);omega⟩,?_⟩;conv=>whnf
   rw [show (us.getD (mine.getD (i:Int).toNat default).toNat default).opn=true from ho];conv=>whnf
   refine H4 ?_
   exact ⟨mine.length - (i+1),by omega,i+1,by omega,rfl,by rw [B7 (by omega),if_neg (show ¬ i+1=0 by omega)];rfl,rfl⟩
def L6 (x rate:Int):Int:=(if 0≤rate∧rate≤10000 then U4 x rate 10000 1 else (0,2)).1
theorem R5 (x rate:Int):0≤L6 x rate∧L6 x rate≤100000000000000:=by
 unfold L6
 split
 ·unfold U4
  split
  ·exact ⟨Int.le_refl _,by decide⟩
  ·rename_i hb
   rw [Bool.not_eq_false] at hb
   simp only [S1,Bool.and_eq_true,decide_eq_true_eq,bne_iff_ne,ne_eq] at hb
   have hq:0≤x * rate / 10000:=Int.ediv_nonneg (Int.mul_nonneg hb.1.1.1.1.1.1 hb.1.1.1.1.2.1) (by omega)
   split
   ·exact ⟨Int.le_refl _,by decide⟩
   ·split
    ·exact ⟨Int.le_refl _,by decide⟩
    ·rename_i h1 h2
     refine ⟨?_,Int.le_of_not_gt h2⟩
     show 0≤M3 (x * rate / 10000) (x * rate % 10000) 10000 1
     unfold M3
     repeat' split
     all_goals omega
 ·exact ⟨Int.le_refl _,by decide⟩
def O0 (x rate amount:Int):Int:=if x<L6 x rate+amount then x else L6 x rate+amount
theorem B6o (x rate amount:Int) (h0:0≤amount) (h1:amount≤10000000000000) (st:St):S P 332 [eI x,eI rate,eI amount] st fun v st'=>v=eI (O0 x rate amount)∧st'=st:=by
 refine E3 [] Tryz.func332 ?_
 refine C1 (A9W x rate 1 st) ?_
 have hb:=R5 x rate
 have w:IntKind.i64.wrap (L6 x rate+amount)=L6 x rate+amount:=B0 (by omega) (by omega)
 conv=>whnf
 refine ⟨?_,rfl⟩
 show AV.int .i64 (if x<IntKind.i64.wrap (L6 x rate+amount) then x else IntKind.i64.wrap (L6 x rate+amount))=_
 rw [w];rfl
theorem P1 {x rate amount:Int} (hx:0≤x) (h0:0≤amount):0≤O0 x rate amount∧O0 x rate amount≤x:=by
 have:=R5 x rate
 unfold O0
 split<;>omega
def A8t (p:A8) (nets:List Int):AV:=.agg [eS p.id,eI p.kind,eI p.prio,eS p.group,eS p.code,eB p.closes,E6 p.scope.skus,E6 p.scope.cats,eI p.least,eI p.rate,eI p.amount,eI p.buy,eI p.get,A5 3 A0K p.parts,A5 3 A0L p.tiers,B2 nets]
theorem A9B (p:A8) (nets:List Int) (rate amount:Int) (h0:0≤amount) (h1:amount≤10000000000000) (hl:nets.length≤100000) (st:St):S P 330 [A8t p nets,eI rate,eI amount] st fun v st'=>v=B2 (nets.map fun x=>O0 x rate amount)∧st'=st:=by
 have he:B2 (nets.map fun x=>O0 x rate amount)=.arr 1 nets.length (fun k=>eI (gI (nets.map fun x=>O0 x rate amount) k)):=by unfold B2 A5;rw [List.length_map]
 rw [he]
 refine B2N (ty:=2) ?_
 refine E3 [3] Tryz.func330 ?_
 refine ⟨[1,2,7,11,12,13],fun m vs st'=>∃ (i:Nat) (sv:AV),i≤nets.length∧m=nets.length - i∧vs=[eI rate,eI amount,sv,B2 nets,eI nets.length,eI i]∧H6 2 1 (fun k=>eI (gI (nets.map fun x=>O0 x rate amount) k)) st i sv st',?_,?_⟩
 ·conv=>whnf
  exact ⟨_,0,.emp,Nat.zero_le _,rfl,rfl,H6.start _ _ _ _⟩
 ·rintro m vs st' ⟨i,sv,hi,rfl,rfl,hc⟩
  conv=>whnf
  cases h:decide ((i:Int)<(nets.length:Int))
  ·have:=of_decide_eq_false h
   obtain rfl:i=nets.length:=by omega
   conv=>whnf
   exact hc
  ·have hi':i<nets.length:=by have:=of_decide_eq_true h;omega
   conv=>whnf
   refine G9 ?_
   refine H9 (B6o (gI nets i) rate amount h0 h1 _) ?_
   refine H6.app (q:=r2) rfl rfl rfl rfl rfl ?_ (by show (i+1) * 8≤140737488355328;omega) hc (fun sv' st'' hc'=>?_)
   ·rw [show gI (nets.map fun x=>O0 x rate amount) i=O0 (gI nets i) rate amount from E7 (fun x=>O0 x rate amount) nets hi'];rfl
   conv=>whnf
   refine H4 ?_
   exact ⟨nets.length - (i+1),by omega,i+1,sv',by omega,rfl,by rw [B7 (by omega)],hc'⟩
def B0Y (p:A8) (nets:List Int):List Int:=nets.map fun x=>O0 x p.rate 0
def B0X (p:A8) (nets:List Int):List Int:=nets.map fun x=>O0 x 0 p.amount
theorem B1Z (p:A8) (nets:List Int) (hl:nets.length≤100000) (st:St):S P 291 [A8t p nets] st fun v st'=>v=B2 (B0Y p nets)∧st'=st:=by
 refine E3 [1] Tryz.func291 ?_
 refine H9 (A9B p nets p.rate 0 (by omega) (by omega) hl st) ?_
 exact ⟨rfl,rfl⟩
theorem B2W (p:A8) (nets:List Int) (h0:0≤p.amount) (h1:p.amount≤10000000000000) (hl:nets.length≤100000) (st:St):S P 292 [A8t p nets] st fun v st'=>v=B2 (B0X p nets)∧st'=st:=by
 refine E3 [1] Tryz.func292 ?_
 refine H9 (A9B p nets 0 p.amount h0 h1 hl st) ?_
 exact ⟨rfl,rfl⟩
def K5 (l:List A2F) (x:Int):Option A2F:=l.reverse.find? fun t=>decide (t.least≤x)
theorem A0u {α : Type} [Inhabited α] {l:List α} {k:Nat} (hk:k<l.length):l.reverse.getD k default=l.getD (l.length - 1 - k) default:=by
 rw [List.getD_eq_getElem?_getD,List.getD_eq_getElem?_getD,List.getElem?_reverse hk]
theorem A7K {l:List A2F} {x:Int} {i:Nat} (hi:i<l.length) (h:∀ k,i<k→k<l.length→decide ((l.getD k default).least≤x)=false) (hp:decide ((l.getD i default).least≤x)=true):K5 l x=some (l.getD i default):=by
 have e:l.getD i default=l.reverse.getD (l.length - 1 - i) default:=by
  rw [A0u (by omega),show l.length - 1 - (l.length - 1 - i)=i by omega]
 rw [e] at hp ⊢
 exact A3x (by rw [List.length_reverse];omega) (fun k hk=>by rw [A0u (by omega)];exact h _ (by omega) (by omega)) hp
theorem A7J {l:List A2F} {x:Int} (h:∀ k,k<l.length→decide ((l.getD k default).least≤x)=false):K5 l x=none :=
 A6D fun k hk=>by rw [List.length_reverse] at hk;rw [A0u hk];exact h _ (by omega)
theorem A6P (l:List A2F) (x:Int) (hl:l.length≤100000) (st:St):S P 331 [A5 3 A0L l,eI x] st fun v st'=>v=.tuple [A0L ((K5 l x).getD default),.bool (K5 l x).isSome]∧st'=st:=by
 refine A3P ?_
 refine E3 [] Tryz.func331 ?_
 intro b hb;conv=>whnf
 have w0:IntKind.i64.wrap ((l.length:Int) - 1)=(l.length:Int) - 1:=B0 (by omega) (by omega)
 refine ⟨[0,1,4,6],fun m vs st'=>∃ (i:Int) (f:Nat→AV) (u:A2F),-1≤i∧i<l.length∧(∀ k:Nat,i<k→k<l.length→decide ((l.getD k default).least≤x)=false)∧m=(i+1).toNat∧vs=[A5 3 A0L l,eI x,.optr 3 b 0 0,eI i]∧st'=upd st b ⟨250,3,1,f⟩∧f 0=A0L u,?_,?_⟩
 ·conv=>whnf
  exact ⟨_,(l.length:Int) - 1,_,default,by omega,by omega,fun k h1 h2=>by omega,rfl,by rw [w0],rfl,rfl⟩
 ·rintro m vs st' ⟨i,f,u,h0,hi,hno,rfl,rfl,rfl,hf⟩
  conv=>whnf
  cases h:decide (i≥0)
  ·have:=of_decide_eq_false h
   have hr:K5 l x=none:=A7J fun k hk=>hno k (by omega) hk
   conv=>whnf
   refine stW (A0 ..) hf ?_
   refine J7 (A0 ..) (B3 ..) ?_
   refine ⟨by rw [hr];rfl,((E2.refl st).upd hb).over hb⟩
  ·have hi0:=of_decide_eq_true h
   conv=>whnf
   refine G9 ?_
   refine B5 (fun h1=>?_) (fun h1=>?_)
   ·have hr:K5 l x=some (l.getD i.toNat default):=A7K (by omega) (fun k h2 h3=>hno k (by omega) h3) h1
    rw [h1];conv=>whnf
    refine G9 ?_
    refine stW (A0 ..) hf ?_
    refine J7 (A0 ..) (B3 ..) ?_
    refine ⟨by rw [hr];rfl,((E2.refl st).upd hb).over hb⟩
   ·have w:IntKind.i64.wrap (i - 1)=i - 1:=B0 (by omega) (by omega)
    rw [h1];conv=>whnf
    refine H4 ?_
    refine ⟨i.toNat,by omega,i - 1,f,u,by omega,by omega,fun k h2 h3=>?_,by omega,by rw [w],rfl,hf⟩
    rcases (by omega:k=i.toNat∨i<k) with e | e
    ·rw [e];exact h1
    ·exact hno k e h3
def A2G (l:List A2F):Prop:=l.length≤6∧∀ t∈l,0≤t.amount∧t.amount≤10000000000000
theorem R9 {l:List A2F} (h:A2G l) (x:Int):0≤((K5 l x).getD default).amount∧((K5 l x).getD default).amount≤10000000000000:=by
 cases hr:K5 l x with
 | none=>exact ⟨Int.le_refl _,by decide⟩
 | some t =>
  have:t∈l:=List.mem_reverse.1 (List.mem_of_find?_eq_some hr)
  exact h.2 t this
def A1e (p:A8) (nets:List Int):List Int:=match K5 p.tiers nets.length with
 | none=>[]
 | some t=>nets.map fun x=>O0 x t.rate t.amount
def A1f (p:A8) (nets:List Int):List Int:=match K5 p.tiers (A2 nets) with
 | none=>[]
 | some t=>C3 (O0 (A2 nets) t.rate t.amount) nets
theorem B4Z (p:A8) (nets:List Int) (ht:A2G p.tiers) (hl:nets.length≤100000) (st:St):S P 294 [A8t p nets] st fun v st'=>v=B2 (A1e p nets)∧st'=st:=by
 refine S.post (post:=fun v st'=>(v=B2 (A1e p nets)∨(A1e p nets=[]∧v=.emp))∧E2 st st') ?_ (fun v st' ⟨h,hs⟩=>⟨_,st,⟨rfl,rfl⟩,(hs.shift _).trans (by
  rcases h with rfl | ⟨h0,rfl⟩
  ·exact A4.keep _ _
  ·rw [h0];exact G5 1 _)⟩)
 have htl:=ht.1
 refine E3 [1] Tryz.func294 ?_
 refine H9 (A6P p.tiers nets.length (by omega) st) ?_
 intro b hb;conv=>whnf
 refine stW (A0 ..) rfl ?_
 have hsup:∀ x y:M6,E2 st (upd (upd st b x) b y):=fun x y=>((E2.refl st).upd hb).over hb
 have hok:=R9 ht nets.length
 cases hr:K5 p.tiers nets.length with
 | none =>
  have hB:A1e p nets=[]:=by unfold A1e;rw [hr]
  conv=>whnf
  exact ⟨.inr ⟨hB,rfl⟩,hsup _ _⟩
 | some t =>
  have hB:A1e p nets=nets.map fun x=>O0 x t.rate t.amount:=by unfold A1e;rw [hr]
  rw [hr] at hok;conv=>whnf
  refine ldV (A0 ..) rfl (by omega) (v:=A0L t) (by rw [B3];rfl) ?_;conv=>whnf
  refine ldV (A0 ..) rfl (by omega) (v:=A0L t) (by rw [B3];rfl) ?_;conv=>whnf
  refine H9 (A9B p nets t.rate t.amount hok.1 hok.2 hl _) ?_
  exact ⟨.inl (by rw [hB];rfl),hsup _ _⟩
theorem B5V (p:A8) (nets:List Int) (ht:A2G p.tiers) (hl:nets.length≤100000) (h0:∀ x∈nets,0≤x) (hs:A2 nets≤10000000000000) (st:St):S P 293 [A8t p nets] st fun v st'=>v=B2 (A1f p nets)∧st'=st:=by
 refine S.post (post:=fun v st'=>(v=B2 (A1f p nets)∨(A1f p nets=[]∧v=.emp))∧E2 st st') ?_ (fun v st' ⟨h,hs⟩=>⟨_,st,⟨rfl,rfl⟩,(hs.shift _).trans (by
  rcases h with rfl | ⟨h0,rfl⟩
  ·exact A4.keep _ _
  ·rw [h0];exact G5 1 _)⟩)
 have htl:=ht.1
 have hsn:=B8 h0
 refine E3 [1] Tryz.func293 ?_
 refine ⟨[1,3,11,12,13],fun m vs st'=>∃ i:Nat,i≤nets.length∧m=nets.length - i∧vs=[.fptr (A8t p nets) 0,eI (A2 (nets.take i)),B2 nets,eI nets.length,eI i]∧st'=st,?_,?_⟩
 ·conv=>whnf
  exact ⟨_,0,Nat.zero_le _,rfl,rfl,rfl⟩
 ·rintro m vs st' ⟨i,hi,rfl,rfl,rfl⟩
  conv=>whnf
  cases h:decide ((i:Int)<(nets.length:Int))
  ·have:=of_decide_eq_false h
   obtain rfl:i=nets.length:=by omega
   rw [List.take_length];conv=>whnf
   refine H9 (A6P p.tiers (A2 nets) (by omega) _) ?_
   intro b hb;conv=>whnf
   refine stW (A0 ..) rfl ?_
   have hsup:∀ x y:M6,E2 st' (upd (upd st' b x) b y):=fun x y=>((E2.refl st').upd hb).over hb
   have hok:=R9 ht (A2 nets)
   cases hr:K5 p.tiers (A2 nets) with
   | none =>
    have hB:A1f p nets=[]:=by unfold A1f;rw [hr]
    conv=>whnf
    exact ⟨.inr ⟨hB,rfl⟩,hsup _ _⟩
   | some t =>
    have hB:A1f p nets=C3 (O0 (A2 nets) t.rate t.amount) nets:=by unfold A1f;rw [hr]
    rw [hr] at hok
    have hob:0≤O0 (A2 nets) t.rate t.amount∧O0 (A2 nets) t.rate t.amount≤A2 nets:=P1 hsn hok.1
    have hW:J8 (O0 (A2 nets) t.rate t.amount) nets:=⟨hob.1,by omega,hl,h0,by omega,fun e=>by omega⟩
    conv=>whnf
    refine ⟨[],[],[0,1,2,3,4,5,6,7,8,9,10,11,12,13],by kernel_rfl,?_⟩;conv=>whnf
    refine ldV (A0 ..) rfl (by omega) (v:=A0L t) (by rw [B3];rfl) ?_;conv=>whnf
    refine ldV (A0 ..) rfl (by omega) (v:=A0L t) (by rw [B3];rfl) ?_;conv=>whnf
    refine cqW (B6o (A2 nets) t.rate t.amount hok.1 hok.2 _) ?_
    refine cqW (A6G _ nets hW _) ?_
    exact ⟨.inl (by rw [hB];rfl),hsup _ _⟩
  ·have hi':i<nets.length:=by have:=of_decide_eq_true h;omega
   have e1:=I8 hi'
   have e2:=J4 h0 (i+1)
   have e3:=B8 (l:=nets.take i) (fun x hx=>h0 x (List.take_subset _ _ hx))
   have e4:0≤gI nets i:=h0 _ (A7 hi')
   have w:IntKind.i64.wrap (A2 (nets.take i)+gI nets i)=A2 (nets.take (i+1)):=by rw [e1];exact B0 (by omega) (by omega)
   conv=>whnf
   refine G9 ?_
   refine H4 ?_
   exact ⟨nets.length - (i+1),by omega,i+1,by omega,rfl,by rw [B7 (by omega),←w];rfl,rfl⟩
def A0V (st:St) (b:Nat) (us:List A6):Prop:=∃ f,st b=some ⟨152,3,us.length,f⟩∧∀ k,k<us.length→f k=U1 (gU us k)
theorem A3y {us:List A6} {j:Nat} (hj:j<us.length) (x:A6) (k:Nat):gU (us.set j x) k=if k=j then x else gU us k:=by
 unfold gU
 simp only [List.getD_eq_getElem?_getD,List.getElem?_set]
 by_cases h:k=j
 ·subst h;simp [hj]
 ·rw [if_neg (fun e=>h e.symm),if_neg h]
def close1 (us:List A6) (i:Nat):List A6:=us.set i { gU us i with opn:=false }
def closeB (us:List A6) (mine:List Int):List A6:=mine.foldl (fun us i=>close1 us i.toNat) us
theorem A0r (us:List A6) (mine:List Int):(closeB us mine).length=us.length:=by
 unfold closeB
 induction mine generalizing us with
 | nil=>rfl
 | cons x l ih=>simp only [List.foldl_cons];rw [ih];simp [close1]
theorem A0V.set {st':St} {b:Nat} {us:List A6} {f:Nat→AV} (hf:∀ k,k<us.length→f k=U1 (gU us k)) {j:Nat} (hj:j<us.length) (x:A6) (h:st' b=some ⟨152,3,us.length,L4 f j (U1 x)⟩):A0V st' b (us.set j x):=by
 refine ⟨_,by rw [h,List.length_set],fun k hk=>?_⟩
 rw [List.length_set] at hk
 rw [A3y hj]
 by_cases e:k=j
 ·rw [if_pos e,e,B3]
 ·rw [if_neg e,J9 e];exact hf k hk
theorem A7m (b:Nat) (us:List A6) (mine:List Int) (hm:∀ x∈mine,0≤x∧x.toNat<us.length) (hl:mine.length≤1000000) (st:St) (hb:A0V st b us) :
  S P 290 [.own 3 b 0 us.length,B2 mine] st fun v st'=>v=.tuple []∧A0V st' b (closeB us mine)∧∀ c,c≠b→st' c=st c:=by
 refine E3 [] Tryz.func290 ?_
 refine ⟨[0,6,7,8],fun m vs st'=>∃ i:Nat,i≤mine.length∧m=mine.length - i∧vs=[.own 3 b 0 us.length,B2 mine,eI mine.length,eI i]∧A0V st' b (closeB us (mine.take i))∧∀ c,c≠b→st' c=st c,?_,?_⟩
 ·conv=>whnf
  exact ⟨_,0,Nat.zero_le _,rfl,rfl,hb,fun _ _=>rfl⟩
 ·rintro m vs st' ⟨i,hi,rfl,rfl,⟨f,hst,hf⟩,hfr⟩
  have hlen:=A0r us (mine.take i)
  conv=>whnf
  cases h:decide ((i:Int)<(mine.length:Int))
  ·have:=of_decide_eq_false h
   obtain rfl:i=mine.length:=by omega
   rw [List.take_length] at hst hf;conv=>whnf
   exact ⟨rfl,⟨f,hst,hf⟩,hfr⟩
  ·have hi':i<mine.length:=by have:=of_decide_eq_true h;omega
   have hx:0≤gI mine i∧(gI mine i).toNat<us.length:=hm _ (A7 hi')
   conv=>whnf
   refine G9 ?_
   refine ⟨rfl,⟨by show 0≤gI mine i;exact hx.1,by show gI mine i<(us.length:Int);have:=hx.2;have:=hx.1;omega⟩,?_⟩;conv=>whnf
   refine stV hst rfl (by show 0+(gI mine i).toNat<_;have:=hx.2;omega) (v:=U1 (gU (closeB us (mine.take i)) (gI mine i).toNat)) (by rw [Nat.zero_add];exact hf _ (show (gI mine i).toNat<(closeB us (mine.take i)).length by have:=hx.2;omega)) (by rfl) ?_;conv=>whnf
   refine H4 ?_
   refine ⟨mine.length - (i+1),by omega,i+1,by omega,rfl,by rw [B7 (by omega)],?_,fun c hc=>by rw [A3 hc];exact hfr c hc⟩
   have e:closeB us (mine.take (i+1))=close1 (closeB us (mine.take i)) (gI mine i).toNat:=R4 hi' _ _
   rw [e]
   refine A0V.set hf (by have:=hx.2;omega) _ ?_
   rw [A0,Nat.zero_add];rfl
theorem A4W (us:List A6) (hl:us.length≤100000) (st:St):S P 286 [B9 us] st fun v st'=>H6 152 3 (fun k=>U1 (gU us k)) st us.length v st':=by
 refine SyW [] Tryz.func286 ?_
 cases us with
 | nil =>
  conv=>whnf
  refine ⟨?_,?_⟩
  ·conv=>whnf
   exact H6.start _ _ _ _
  ·conv=>whnf
   refine apE rfl rfl rfl rfl rfl (by show 0 * 24≤_;omega) (fun _=>?_) (fun h=>absurd h (by show ¬ 0<0;omega));conv=>whnf
   exact H6.start _ _ _ _
 | cons u us =>
  conv=>whnf
  refine H6.apps (n:=0) (m:=us.length+1) (q:=B7m) (f:=fun k=>U1 (gU (u::us) k)) rfl rfl rfl rfl rfl (fun i hi=>by rw [Nat.zero_add]) (by show (0+(us.length+1)) * 24≤140737488355328;simp only [List.length_cons] at hl;omega) (H6.start _ _ _ _) (fun sv' st'' hc'=>?_);conv=>whnf
  rw [Nat.zero_add] at hc'
  exact hc'
theorem A4.agg {a b:List AV} {st st':St} (h:A4 a st b st'):A4 [.agg a] st [.agg b] st':=A4.one fun w c hS hr=>by
 cases hr with
 | agg cs vs hlen hg =>
  obtain ⟨h1,h2,h3⟩:=h w vs hS ⟨hlen,hg⟩
  exact ⟨h1,h3,.agg _ _ h2.1 h2.2⟩
theorem A4.last {v v':AV} {s t:St} (h:A4 [v] s [v'] t):∀ cs:List AV,A4 (cs++[v]) s (cs++[v']) t
 | []=>h
 | x::cs=>A4.cons (A4.keep [x] s) (A4.last h cs)
def A0X (st:St) (us:List A6) (sv:AV) (st':St):Prop:=E2 st st'∧((us=[]∧sv=.emp)∨∃ b,st b=none∧sv=.own 3 b 0 us.length∧A0V st' b us)
theorem A0X.shift {st:St} {us:List A6} {sv:AV} {st':St} (h:A0X st us sv st'):A4 [sv] st' [B9 us] st:=by
 obtain ⟨hs,⟨rfl,rfl⟩ | ⟨b,hb,rfl,f,hst,hf⟩⟩:=h
 ·exact (hs.shift _).trans (G5 3 _)
 ·have hsup:E2 (upd st b ⟨152,3,us.length,f⟩) st':=fun c x hc=>by
   by_cases e:c=b
   ·subst e;rw [A0] at hc;rw [hst];exact hc
   ·rw [A3 e] at hc;exact hs c x hc
  have h2:=M1 (st:=upd st b ⟨152,3,us.length,f⟩) (e:=3) (b:=b) (n:=us.length) (f:=fun k=>U1 (gU us k)) (A0 ..) rfl (Nat.le_refl _) hf
  rw [A1F hb] at h2
  exact (hsup.shift _).trans h2
theorem A0X.ofCol {st:St} {us:List A6} {sv:AV} {st':St} (h:H6 152 3 (fun k=>U1 (gU us k)) st us.length sv st'):A0X st us sv st':=by
 rcases h with ⟨h0,rfl,rfl⟩ | ⟨h0,b,g,hb,rfl,rfl,hg⟩
 ·exact ⟨E2.refl _,.inl ⟨List.eq_nil_of_length_eq_zero h0,rfl⟩⟩
 ·exact ⟨(E2.refl st).upd hb,.inr ⟨b,hb,rfl,g,A0 ..,hg⟩⟩
def K2 (us:List A6) (mine:List Int):List Int:=mine.map fun i=>(gU us i.toNat).net
def K3 (p:A8) (nets:List Int):List Int:=if p.kind=1 then B0Y p nets else if p.kind=2 then B0X p nets else if p.kind=5 then A1f p nets else A1e p nets
def less1 (us:List A6) (i:Nat) (x:Int):List A6:=us.set i { gU us i with net:=(gU us i).net - x }
def F5 (us:List A6) (mine offs:List Int):Nat→List A6
 | 0=>us
 | k+1=>less1 (F5 us mine offs k) (gI mine k).toNat (gI offs k)
def V8 (p:A8) (us:List A6) (mine:List Int):List A6×Int :=
 let offs:=K3 p (K2 us mine)
 let us1:=F5 us mine offs offs.length
 (if (decide (A2 offs>0)&&p.closes)=true then closeB us1 mine else us1,A2 offs)
theorem J5 (us:List A6) (mine offs:List Int) (k:Nat):(F5 us mine offs k).length=us.length:=by
 induction k with
 | zero=>rfl
 | succ k ih=>unfold F5 less1;rw [List.length_set,ih]
theorem A4f {us:List A6} {mine offs:List Int} (hm:I7 us mine):∀ k,k≤mine.length→∀ j,j<us.length→(∀ i,i<k→j≠(gI mine i).toNat)→gU (F5 us mine offs k) j=gU us j
 | 0,_,j,hj,_=>rfl
 | k+1,hk,j,hj,hne=>by
  have ih:=A4f (offs:=offs) hm k (by omega) j hj (fun i hi=>hne i (by omega))
  unfold F5 less1
  rw [A3y (by rw [J5];exact (hm.rng k (by omega)).2),if_neg (hne k (by omega))]
  exact ih
theorem B0m {us:List A6} {mine offs:List Int} (hm:I7 us mine) {k:Nat} (hk:k<mine.length):gU (F5 us mine offs k) (gI mine k).toNat=gU us (gI mine k).toNat :=
 A4f hm k (by omega) _ (hm.rng k hk).2 fun i hi=>by
  have h1:=hm.lt i k hi hk
  have h2:=(hm.rng i (by omega)).1
  omega
theorem A9h {l:List Int} {j:Nat} (hj:j<l.length) (x:Int):A2 (l.set j x)=A2 l - gI l j+x:=by
 have e1:l.set j x=l.take j++x::l.drop (j+1):=List.set_eq_take_append_cons_drop (l:=l) (i:=j) (a:=x) |>.trans (by rw [if_pos hj])
 have e2:l=l.take j++gI l j::l.drop (j+1):=by
  have:gI l j=l[j]:=by simp [gI,hj]
  rw [this,←List.drop_eq_getElem_cons hj,List.take_append_drop]
 have c1:∀ (y:Int) (r:List Int),A2 (y::r)=y+A2 r:=fun y r=>by
  have:=E0 [y] r
  rw [List.singleton_append] at this
  rw [this];simp [A2]
 have h2:A2 l=A2 (l.take j)+(gI l j+A2 (l.drop (j+1))):=by
  conv=>lhs;rw [e2]
  rw [E0,c1]
 rw [e1,E0,c1,h2];omega
theorem A9v {qs:List Int} {R:List QE} (h:∀ e∈R,e.2.toNat<qs.length):A2 (L3 qs R)=A2 qs+R.length:=by
 unfold L3
 induction R generalizing qs with
 | nil=>simp
 | cons e R ih =>
  simp only [List.foldl_cons,List.length_cons]
  have he:=h e (List.mem_cons_self ..)
  rw [ih (fun x hx=>by rw [List.length_set];exact h x (List.mem_cons_of_mem _ hx)),A9h he]
  omega
theorem S9 {total:Int} {ws:List Int} (h:J8 total ws):A2 (C3 total ws)=total∧(C3 total ws).length=ws.length∧∀ x∈C3 total ws,0≤x:=by
 unfold C3
 split
 ·rename_i h0
  have ht:=h.none h0
  refine ⟨?_,by simp,fun x hx=>?_⟩
  ·rw [ht]
   have:∀ l:List Int,A2 (l.map fun _=>(0:Int))=0:=fun l=>by
    induction l with
    | nil=>rfl
    | cons x l ih =>
     have:=E0 [(0:Int)] (l.map fun _=>(0:Int))
     rw [List.singleton_append] at this
     rw [List.map_cons,this,ih];rfl
   exact this ws
  ·obtain ⟨_,_,rfl⟩:=List.mem_map.1 hx;exact Int.le_refl _
 ·rename_i h0
  have hS:0<A2 ws:=by have:=B8 h.w0;omega
  obtain ⟨l0,l1⟩:=A0y h hS
  have hR:=A7O total (A2 ws) ws
  have hmem:∀ e∈(shR total (A2 ws) ws).take (G4 total (A2 ws) ws ws.length).toNat,e.2.toNat<((List.range ws.length).map (shQ total (A2 ws) ws)).length:=fun e he=>by
   rw [List.length_map,List.length_range];exact (A7P (List.take_subset _ _ he)).2
  refine ⟨?_,by rw [A0q];simp,fun x hx=>?_⟩
  ·rw [A9v hmem,List.length_take]
   unfold G4 at *
   omega
  ·obtain ⟨k,hk,rfl⟩:=E4 hx
   rw [A0q,List.length_map,List.length_range] at hk
   have hb:=(A2M ((List.range ws.length).map (shQ total (A2 ws) ws)) ((shR total (A2 ws) ws).take (G4 total (A2 ws) ws ws.length).toNat) k).1
   have hq:=(A3J h hS hk).1
   rw [N4 _ hk] at hb
   show 0≤gI _ k
   omega
theorem A2w {l:List Int} {f:Int→Int} (h:∀ x∈l,0≤f x∧f x≤x):A2 (l.map f)≤A2 l∧∀ y∈l.map f,0≤y:=by
 have c1:∀ (y:Int) (r:List Int),A2 (y::r)=y+A2 r:=fun y r=>by
  have:=E0 [y] r
  rw [List.singleton_append] at this
  rw [this];simp [A2]
 refine ⟨?_,fun y hy=>by obtain ⟨x,hx,rfl⟩:=List.mem_map.1 hy;exact (h x hx).1⟩
 induction l with
 | nil=>exact Int.le_refl _
 | cons x l ih =>
  rw [List.map_cons,c1,c1]
  have:=ih (fun y hy=>h y (List.mem_cons_of_mem _ hy))
  have:=(h x (List.mem_cons_self ..)).2
  omega
structure A3O (p:A8):Prop where
 fit:I9 p
 right:I2 p=true
 kind:p.kind=1∨p.kind=2∨p.kind=5∨p.kind=6
 tiers:p.kind=5∨p.kind=6→A2G p.tiers
 amount:p.kind=2→0≤p.amount∧p.amount≤10000000000000
theorem A2r {p:A8} (hp:A3O p) {nets:List Int} (h0:∀ x∈nets,0≤x) (hs:A2 nets≤10000000000000) (hl:nets.length≤100000) :
  A2 (K3 p nets)≤A2 nets∧(K3 p nets).length≤nets.length∧∀ y∈K3 p nets,0≤y:=by
 have hn:=B8 h0
 rcases hp.kind with e | e | e | e
 ·have:K3 p nets=B0Y p nets:=by unfold K3;rw [if_pos e]
  rw [this]
  have h:=A2w (l:=nets) (f:=fun x=>O0 x p.rate 0) (fun x hx=>P1 (h0 x hx) (by omega))
  exact ⟨h.1,by simp [B0Y],h.2⟩
 ·have:K3 p nets=B0X p nets:=by unfold K3;rw [if_neg (by omega),if_pos e]
  rw [this]
  have h:=A2w (l:=nets) (f:=fun x=>O0 x 0 p.amount) (fun x hx=>P1 (h0 x hx) (hp.amount e).1)
  exact ⟨h.1,by simp [B0X],h.2⟩
 ·have:K3 p nets=A1f p nets:=by unfold K3;rw [if_neg (by omega),if_neg (by omega),if_pos e]
  rw [this]
  have hok:=R9 (hp.tiers (.inl e)) (A2 nets)
  unfold A1f
  split
  ·exact ⟨hn,by simp,fun y hy=>by cases hy⟩
  ·rename_i t hr
   rw [hr] at hok
   have hob:0≤O0 (A2 nets) t.rate t.amount∧O0 (A2 nets) t.rate t.amount≤A2 nets:=P1 hn hok.1
   have hW:J8 (O0 (A2 nets) t.rate t.amount) nets:=⟨hob.1,by omega,hl,h0,by omega,fun e=>by omega⟩
   obtain ⟨a,b,c⟩:=S9 hW
   exact ⟨by rw [a];exact hob.2,by omega,c⟩
 ·have:K3 p nets=A1e p nets:=by unfold K3;rw [if_neg (by omega),if_neg (by omega),if_neg (by omega)]
  rw [this]
  have hok:=R9 (hp.tiers (.inr e)) nets.length
  unfold A1e
  split
  ·exact ⟨hn,by simp,fun y hy=>by cases hy⟩
  ·rename_i t hr
   rw [hr] at hok
   have h:=A2w (l:=nets) (f:=fun x=>O0 x t.rate t.amount) (fun x hx=>P1 (h0 x hx) hok.1)
   exact ⟨h.1,by simp,h.2⟩
end Go.Proofs.YtbajhapmlfbelaaGreat
