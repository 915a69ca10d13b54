/- Part 21 of the proof: contracts -/
import Derived.Test.YtaapofnkmpiknaaGreatPt20
set_option maxRecDepth 100000
set_option linter.unusedVariables false
set_option linter.unusedSimpArgs false
namespace Go.Proofs.YtaapofnkmpiknaaGreat
open Go Go.Ab
attribute [local irreducible] upd del
theorem Srt.congr {lt:Int→Int→Bool} {l l':List Int} {a e:Nat} (h:Srt lt l a e) (hk:∀ k,a≤k→k<e→gI l' k=gI l k):Srt lt l' a e:=fun x y h1 h2 h3=>by
 rw [hk x h1 (by omega),hk y (by omega) h3];exact h x y h1 h2 h3
theorem C5M (b:Nat) (l:List Int) (g:FuncId) (cs:List AV) (cf:Int→Int→Int) (lt:Int→Int→Bool) (hlt:∀ x y,decide (cf x y<0)=lt x y) (ho:Ord lt) (st:St) (hb:A5Y st b l) (hl:l.length≤20)
  (hg:∀ x∈l,∀ y∈l,∀ st',S P g (eI x::eI y::cs) st' fun v s=>v=eI (cf x y)∧s=st') :
  S P 289 [.own 1 b 0 l.length,eI l.length,.fn (.func g) [] cs] st fun v st'=>v=.tuple []∧∃ l',l'.Perm l∧Srt lt l' 0 l.length∧A5Y st' b l'∧∀ c,c≠b→st' c=st c:=by
 refine F7 [] Tryz.func289 ?_
 refine ⟨[0,1,2,6,7,8],fun m vs st'=>(m=1∧st'=st∧vs=[.own 1 b 0 l.length,eI l.length,.fn (.func g) [] cs,eI 20,eI 0,eI 20]) ∨
  (m=0∧l.length=20∧(∃ l',l'.Perm l∧Srt lt l' 0 l.length∧A5Y st' b l'∧∀ c,c≠b→st' c=st c)∧vs=[.own 1 b 0 l.length,eI l.length,.fn (.func g) [] cs,eI 20,eI 20,eI 40]),?_,?_⟩
 ·conv=>whnf
  exact ⟨1,.inl ⟨rfl,rfl,rfl⟩⟩
 ·rintro m vs st' (⟨rfl,rfl,rfl⟩ | ⟨rfl,h20,⟨l',hp,hs,hb',hfr⟩,rfl⟩)
  ·conv=>whnf
   refine B7 (fun h1=>?_) (fun h1=>?_)<;>rw [h1]<;>simp only [D7d,D7e] at h1
   ·have h20:l.length=20:=by omega
    conv=>whnf
    refine call (B5a b l l.length 0 20 g cs cf lt hlt ho _ hb (by omega) (by omega) (by omega) (by omega) hg) (fun v st1 hv=>?_)
    obtain ⟨rfl,l',hp,hs,hout,hb',hfr⟩:=hv
    conv=>whnf
    refine G3 ?_
    exact ⟨0,by omega,.inr ⟨rfl,h20,⟨l',hp,by rw [h20];exact hs,hb',hfr⟩,rfl⟩⟩
   ·conv=>whnf
    refine call (B5a b l l.length 0 l.length g cs cf lt hlt ho _ hb (by omega) (by omega) (by omega) (by omega) hg) (fun v st1 hv=>?_)
    obtain ⟨rfl,l',hp,hs,hout,hb',hfr⟩:=hv
    conv=>whnf
    refine B2g [0,1,2,6] ?_;conv=>whnf
    intro I
    refine B7 (fun h2=>?_) (fun h2=>?_)<;>rw [h2]<;>simp only [D7d,D7e] at h2
    ·exact absurd h2 (by omega)
    ·conv=>whnf
     exact ⟨rfl,l',hp,hs,hb',hfr⟩
  ·have hlen:l'.length=l.length:=hp.length_eq
   conv=>whnf
   refine B7 (fun h1=>?_) (fun h1=>?_)<;>rw [h1]<;>simp only [D7d,D7e] at h1
   ·exact absurd h1 (by omega)
   ·conv=>whnf
    refine call (B5a b l' l.length 20 l.length g cs cf lt hlt ho _ hb' (by omega) (by omega) (by omega) (by omega) (fun x hx y hy=>hg x (hp.subset hx) y (hp.subset hy))) (fun v st1 hv=>?_)
    obtain ⟨rfl,l2,hp2,hs2,hout,hb2,hfr2⟩:=hv
    conv=>whnf
    refine B2g [0,1,2,6] ?_;conv=>whnf
    intro I
    refine B7 (fun h2=>?_) (fun h2=>?_)<;>rw [h2]<;>simp only [D7d,D7e] at h2
    ·exact absurd h2 (by omega)
    ·conv=>whnf
     exact ⟨rfl,l2,hp2.trans hp,hs.congr (fun k _ hk=>hout k (by omega)),hb2,fun c hc=>(hfr2 c hc).trans (hfr c hc)⟩
def A6e (N:Nat):Prop:=∀ (b:Nat) (l:List Int) (g:FuncId) (cs:List AV) (cf:Int→Int→Int) (lt:Int→Int→Bool) (hlt:∀ x y,decide (cf x y<0)=lt x y) (ho:Ord lt) (st:St) (hb:A5Y st b l) (hl:l.length≤N)
  (hg:∀ x∈l,∀ y∈l,∀ st',S P g (eI x::eI y::cs) st' fun v s=>v=eI (cf x y)∧s=st'),
  S P 289 [.own 1 b 0 l.length,eI l.length,.fn (.func g) [] cs] st fun v st'=>v=.tuple []∧∃ l',l'.Perm l∧Srt lt l' 0 l.length∧A5Y st' b l'∧∀ c,c≠b→st' c=st c
theorem B7O:A6e 20:=fun b l g cs cf lt hlt ho st hb hl hg=>C5M b l g cs cf lt hlt ho st hb hl hg
theorem B5N {N:Nat} (hN:A6e N) (b:Nat) (l:List Int) (g:FuncId) (cs:List AV) (cf:Int→Int→Int) (lt:Int→Int→Bool) (hlt:∀ x y,decide (cf x y<0)=lt x y) (ho:Ord lt) (st:St) (hb:A5Y st b l) (hl:l.length≤N)
  (hg:∀ x∈l,∀ y∈l,∀ st',S P g (eI x::eI y::cs) st' fun v s=>v=eI (cf x y)∧s=st') :
  S P 264 [.own 1 b 0 l.length,.fn (.func g) [] cs] st fun v st'=>v=.tuple []∧∃ l',l'.Perm l∧Srt lt l' 0 l.length∧A5Y st' b l'∧∀ c,c≠b→st' c=st c:=by
 refine F7 [] Tryz.func264 ?_
 refine call (hN b l g cs cf lt hlt ho st hb hl hg) (fun v st' hv=>?_)
 obtain ⟨rfl,h⟩:=hv
 conv=>whnf
 exact ⟨rfl,h⟩
theorem C4k (f:AV) (st:St):S P 310 [.emp,eI 0,eI 0,f] st fun v st'=>v=.tuple []∧st'=st:=by
 refine F7 [] Tryz.func310 ?_
 refine B2g [0,1,2,3,8] ?_;conv=>whnf
 intro I
 exact ⟨rfl,rfl⟩
theorem C2O (f:AV) (st:St):S P 289 [.emp,eI 0,f] st fun v st'=>v=.tuple []∧st'=st:=by
 refine F7 [] Tryz.func289 ?_
 refine B2g [0,1,2,6,7,8] ?_;conv=>whnf
 intro I
 refine I3 (C4k f st) ?_
 refine B2g [0,1,2,6] ?_;conv=>whnf
 intro I
 exact ⟨rfl,rfl⟩
theorem B3H (f:AV) (st:St):S P 264 [.emp,f] st fun v st'=>v=.tuple []∧st'=st:=by
 refine F7 [] Tryz.func264 ?_
 refine I3 (C2O f st) ?_
 exact ⟨rfl,rfl⟩
theorem QSt.grow {st0 st:St} {q bo bo':Nat} {f:Bool} {es:List QE} {y y':L7} (h:QSt (upd st0 bo y) q f es st) (h0:st0 bo=none) (hb:bo'=bo∨st bo'=none):st0 bo'=none∧QSt (upd st0 bo' y') q f es (upd (del st bo) bo' y'):=by
 obtain ⟨h1,h2,sv,⟨fq,hqs,hq0⟩,h3⟩:=h
 have hqo:q≠bo:=fun e=>by subst e;rw [A0] at h1;cases h1
 have hq1:st0 q=none:=by rw [B0 hqo] at h1;exact h1
 have hqb:q≠bo':=fun e=>by
  subst e
  rcases hb with e | e
  ·exact hqo e
  ·rw [hqs] at e;cases e
 have hsub:∀ c x,st0 c=some x→c≠bo∧st c=some x:=fun c x hc=>by
  have hne:c≠bo:=fun e=>by subst e;rw [h0] at hc;cases hc
  exact ⟨hne,h2 c x (by rw [B0 hne];exact hc)⟩
 have hbo':st0 bo'=none:=by
  rcases hb with e | e
  ·rw [e];exact h0
  ·cases hx:st0 bo' with
   | none=>rfl
   | some x=>rw [(hsub _ _ hx).2] at e;cases e
 refine ⟨hbo',by rw [B0 hqb];exact hq1,fun c x hc=>?_,sv,⟨fq,by rw [B0 hqb];unfold del;rw [if_neg hqo];exact hqs,hq0⟩,?_⟩
 ·by_cases hcb:c=bo'
  ·subst hcb;rw [A0] at hc ⊢;exact hc
  ·rw [B0 hcb] at hc ⊢
   obtain ⟨a,b⟩:=hsub c x hc
   unfold del;rw [if_neg a];exact b
 ·rcases h3 with h3 | ⟨b,l,n,a1,a2,a3,a4,a5,a6,⟨fe,hes,hef⟩,a8,a9⟩
  ·exact .inl h3
  ·have hbo:b≠bo:=fun e=>by subst e;rw [A0] at a2;cases a2
   have hb0:st0 b=none:=by rw [B0 hbo] at a2;exact a2
   have hbb:b≠bo':=fun e=>by
    subst e
    rcases hb with e | e
    ·exact hbo e
    ·rw [hes] at e;cases e
   exact .inr ⟨b,l,n,a1,by rw [B0 hbb];exact hb0,a3,a4,a5,a6,⟨fe,by rw [B0 hbb];unfold del;rw [if_neg hbo];exact hes,hef⟩,a8,a9⟩
theorem QSt.begin {st0 st:St} {q bo:Nat} {f:Bool} {es:List QE} {y:L7} (h:QSt st0 q f es st) (hb:st bo=none):st0 bo=none∧QSt (upd st0 bo y) q f es (upd st bo y):=by
 obtain ⟨h1,h2,sv,⟨fq,hqs,hq0⟩,h3⟩:=h
 have hqb:q≠bo:=fun e=>by subst e;rw [hqs] at hb;cases hb
 refine ⟨h2.none hb,by rw [B0 hqb];exact h1,fun c x hc=>?_,sv,⟨fq,by rw [B0 hqb];exact hqs,hq0⟩,?_⟩
 ·by_cases hcb:c=bo
  ·subst hcb;rw [A0] at hc ⊢;exact hc
  ·rw [B0 hcb] at hc ⊢;exact h2 c x hc
 ·rcases h3 with h3 | ⟨b,l,n,a1,a2,a3,a4,a5,a6,⟨fe,hes,hef⟩,a8,a9⟩
  ·exact .inl h3
  ·have hbb:b≠bo:=fun e=>by subst e;rw [hes] at hb;cases hb
   exact .inr ⟨b,l,n,a1,by rw [B0 hbb];exact a2,a3,a4,a5,a6,⟨fe,by rw [B0 hbb];exact hes,hef⟩,a8,a9⟩
def A1a (ty e:Nat) (fo:Nat→AV) (n:Nat) (st1:St) (q:Nat) (f:Bool) (es:List QE) (sv:AV) (st':St):Prop :=
 (n=0∧sv=.emp∧QSt st1 q f es st')∨(0<n∧∃ bo g,st1 bo=none∧sv=.own e bo 0 n∧(∀ k,k<n→g k=fo k)∧QSt (upd st1 bo ⟨ty,e,n,g⟩) q f es st')
theorem A1a.len_S {ty e:Nat} {fo:Nat→AV} {n:Nat} {st1:St} {q:Nat} {f:Bool} {es:List QE} {sv:AV} {st':St} (h:A1a ty e fo n st1 q f es sv st') :
  S P 229 [.optr 1 q 0 0] st' fun v st''=>v=eI es.length∧st''=st':=by
 rcases h with ⟨_,_,h⟩ | ⟨_,bo,g,_,_,_,h⟩
 ·exact A9X _ _ _ _ _ h
 ·exact A9X _ _ _ _ _ h
theorem A1a.pop_S {ty e:Nat} {fo:Nat→AV} {n:Nat} {st1:St} {q:Nat} {f:Bool} {x:QE} {es:List QE} {sv:AV} {st':St} (h:A1a ty e fo n st1 q f (x::es) sv st') (htop:∀ y∈es,H2 y x=false) :
  S P 230 [.optr 1 q 0 0] st' fun v st''=>v=.tuple [eI x.1,eI x.2,.bool true]∧A1a ty e fo n st1 q false es sv st'':=by
 rcases h with ⟨h1,h2,h⟩ | ⟨h0,bo,g,h1,h2,h3,h⟩
 ·exact (A9Y _ _ _ _ _ _ h htop).mono fun v s hv=>⟨hv.1,.inl ⟨h1,h2,hv.2⟩⟩
 ·exact (A9Y _ _ _ _ _ _ h htop).mono fun v s hv=>⟨hv.1,.inr ⟨h0,bo,g,h1,h2,h3,hv.2⟩⟩
theorem A1a.app {T:H5} {t:TypeId} {x sv:AV} {st1 st':St} {k:KK} {r q:C0} {el n qq:Nat} {fl:Bool} {es:List QE} {f g:Nat→AV} (hr:T t=some r) (hd:r.desc=.slice el) (hq:T el=some q)
  (hz:(Nat.blt 0 q.size&&Nat.blt 0 q.bytes&&Nat.beq q.zero.cells.size q.size)=true) (hs:A0v q.size st' x=some (1,g)) (hg:g 0=f n) (hb:(n+1) * q.bytes≤140737488355328)
  (hc:A1a el q.size f n st1 qq fl es sv st') (hk:∀ sv' st'',A1a el q.size f (n+1) st1 qq fl es sv' st''→k sv' st''):A5V T t sv x st' k:=by
 rcases hc with ⟨rfl,rfl,h⟩ | ⟨h0,bo,y,h1,rfl,h4,h⟩
 ·refine apE hr hd hq hz hs (by omega) (fun h=>by omega) (fun _ b hb=>?_)
  obtain ⟨hb0,hn⟩:=h.begin (y:=⟨el,q.size,1,g⟩) hb
  have e0:∀ k,k<0+1→g k=f k:=fun k hk=>by
   have:k=0:=by omega
   rw [this];exact hg
  exact hk _ _ (.inr ⟨by omega,b,g,hb0,rfl,e0,hn⟩)
 ·have hby:st' bo=some ⟨el,q.size,n,y⟩:=h.sup bo _ (A0 ..)
  refine apO hr hd hq hz hs hby rfl rfl rfl hb (fun h=>by omega) (fun _ b' hb'=>?_)
  obtain ⟨hb0,hn⟩:=h.grow (y':=⟨el,q.size,n+1,fun i=>if i<n then y i else g (i - n)⟩) h1 hb'
  refine hk _ _ (.inr ⟨by omega,b',_,hb0,rfl,fun k hk=>?_,hn⟩)
  by_cases hkn:k<n
  ·simp only [hkn,if_true];exact h4 k hkn
  ·have:k=n:=by omega
   subst this
   simp only [hkn,D9L,Nat.sub_self];exact hg
theorem A1a.shift {ty e:Nat} {fo:Nat→AV} {n:Nat} {st1:St} {q:Nat} {f:Bool} {es:List QE} {sv:AV} {st':St} (h:A1a ty e fo n st1 q f es sv st'):A7 [sv] st' [.arr e n fo] st1:=by
 rcases h with ⟨rfl,rfl,h⟩ | ⟨h0,bo,g,h1,rfl,h3,h⟩
 ·exact (h.sup.shift [.emp]).trans (I5 e fo)
 ·have h2:=P1 (st:=upd st1 bo ⟨ty,e,n,g⟩) (e:=e) (b:=bo) (n:=n) (f:=fo) (A0 ..) rfl (D7l _) h3
  rw [A3W h1] at h2
  exact (h.sup.shift [.own e bo 0 n]).trans h2
def A0z (codes:List C8) (p:B1):Bool:=N7 p.code||codes.any fun c=>p.code.toList==c.toList
abbrev F6 (l:List B1) (x:Int):B1:=l.getD x.toNat default
def places (l:List B1) (codes:List C8) (i:Nat):List Int:=((List.range i).filter fun k=>A0z codes (l.getD k default)).map Int.ofNat
theorem A6w (l:List B1) (codes:List C8) (i:Nat):places l codes (i+1)=places l codes i++(if A0z codes (l.getD i default)=true then [(i:Int)] else []):=by
 unfold places
 rw [D8G,D8Z,D7M]
 congr 1
 by_cases h:A0z codes (l.getD i default)=true
 ·rw [if_pos h,D8f (p:=fun k=>A0z codes (l.getD k default)) h];rfl
 ·rw [if_neg h,D8l (p:=fun k=>A0z codes (l.getD k default)) h];rfl
theorem A0U {l:List B1} {codes:List C8} {i:Nat} {x:Int} (h:x∈places l codes i):0≤x∧x.toNat<i:=by
 unfold places at h
 obtain ⟨k,hk,rfl⟩:=D7y.1 h
 have:=D7t.1 (D8d.1 hk).1
 show 0≤(k:Int)∧(k:Int).toNat<i
 omega
theorem A1C (l:List B1) (codes:List C8) (i:Nat):(places l codes i).length≤i:=by
 unfold places
 rw [D7i]
 exact D8r (D9D ..) (by simp)
def C6Z (l:List B1) (x y:Int):Bool:=slt (F6 l x).id (F6 l y).id
theorem D0S (l:List B1):Ord (C6Z l):=⟨fun x y h=>A7l h,fun x y z h1 h2=>A4Q h1 h2⟩
theorem C8X (l:List B1) (x y:Int) (hx:0≤x∧x.toNat<l.length) (hy:0≤y∧y.toNat<l.length) (st:St) :
  S P 265 [eI x,eI y,.fptr (A8 15 B8 l) 0] st fun v st'=>v=eI (A9w (F6 l x).id (F6 l y).id)∧st'=st:=by
 refine F7 [] Tryz.func265 ?_
 refine ⟨[],[],[0,1,2,3,4,5,6,7,8,9,10,11],by kernel_rfl,?_⟩;conv=>whnf
 refine E9 ?_
 refine E9 ?_
 refine cqW (C8o (F6 l x).id (F6 l y).id _) ?_
 exact ⟨rfl,rfl⟩
theorem O1 {a b:List Int} {k:Nat} (h:k<a.length):gI (a++b) k=gI a k:=by
 unfold gI;rw [D7c,D7c,D7B h]
theorem A8C (a:List Int) (x:Int):gI (a++[x]) a.length=x:=by
 unfold gI;simp [D7c]
def B0L (l:List B1) (codes:List C8) (o:List Int):Prop:=o.Perm (places l codes l.length)∧Srt (C6Z l) o 0 o.length
def B2F (l:List B1) (o:List Int) (k:Nat):QE:=((F6 l (gI o k)).prio,(k:Int))
def A1D (l:List B1) (o:List Int):List QE:=((List.range o.length).map (B2F l o)).mergeSort fun a b=>!H2 b a
theorem A1O (l:List B1) (o:List Int):(A1D l o).Perm ((List.range o.length).map (B2F l o)):=D9Q ..
theorem A7A (l:List B1) (o:List Int):(A1D l o).Pairwise fun a b=>H2 b a=false:=by
 have:=D9u (le:=fun a b:QE=>!H2 b a) (fun a b c h1 h2=>by simp only [D7v] at *;exact A0T h2 h1) (fun a b=>by
  cases h:H2 b a with
  | false=>rfl
  | true=>rw [A0F h];rfl) ((List.range o.length).map (B2F l o))
 exact this.imp (fun h=>by simpa using h)
theorem A5A {l:List B1} {o:List Int} {e:QE} (h:e∈A1D l o):0≤e.2∧e.2.toNat<o.length:=by
 obtain ⟨k,hk,rfl⟩:=D7y.1 ((A1O l o).subset h)
 have:=D7t.1 hk
 simp only [B2F];omega
theorem A5z (l:List B1) (o:List Int):(A1D l o).length=o.length:=by
 rw [(A1O l o).length_eq];simp
abbrev P9 (l:List B1) (o:List Int):List Int:=(A1D l o).map fun e=>gI o e.2.toNat
theorem A1a.sup {ty e:Nat} {fo:Nat→AV} {n:Nat} {st1:St} {q:Nat} {f:Bool} {es:List QE} {sv:AV} {st':St} (h:A1a ty e fo n st1 q f es sv st'):F8 st1 st':=by
 rcases h with ⟨_,_,h⟩ | ⟨_,bo,g,h1,_,_,h⟩
 ·exact h.sup
 ·exact ((F8.refl st1).upd h1).trans h.sup
theorem C7s {N:Nat} (hN:A6e N) (l:List B1) (codes:List C8) (hl:l.length≤60) (hc:codes.length≤9223372036854775807) (h20:(places l codes l.length).length≤N) (st:St) :
  S P 227 [A8 15 B8 l,D5 codes] st fun v st'=>(∃ o:List Int,B0L l codes o∧v=A9 (P9 l o))∧st'=st:=by
 refine S.post (post:=fun v st'=>∃ (o:List Int) (st1:St) (q:Nat) (fl:Bool),B0L l codes o∧F8 st st1∧A1a 3 1 (fun k=>eI (gI (P9 l o) k)) (P9 l o).length st1 q fl [] v st') ?_
  (fun v st' ⟨o,st1,q,fl,ho,hs,hq⟩=>⟨A9 (P9 l o),st,⟨⟨o,ho,rfl⟩,rfl⟩,hq.shift.trans (hs.shift _)⟩)
 refine F7 [2,7] Tryz.func227 ?_
 refine ⟨[1,2,5,15,16,17],fun m vs st'=>∃ (i:Nat) (sv:AV),i≤l.length∧m=l.length - i∧vs=[D5 codes,.fptr (A8 15 B8 l) 0,sv,A8 15 B8 l,eI l.length,eI i]∧Col 3 1 (fun k=>eI (gI (places l codes i) k)) st (places l codes i).length sv st',?_,?_⟩
 ·conv=>whnf
  exact ⟨_,0,.emp,D7C _,rfl,rfl,Col.start _ _ _ _⟩
 ·rintro m vs st' ⟨i,sv,hi,rfl,rfl,hcol⟩
  conv=>whnf
  cases h:decide ((i:Int)<(l.length:Int))
  ·have:=D7g h
   obtain rfl:i=l.length:=by omega
   conv=>whnf
   have key:∀ K:KK,(∀ v st1 o,v=.tuple []→B0L l codes o→F8 st st1→((o=[]∧sv=.emp)∨∃ b,sv=.own 1 b 0 o.length∧A5Y st1 b o∧0<o.length)→K v st1)→A2l P 264 [sv,.fn (.func 265) [] [.fptr (A8 15 B8 l) 0]] st' K:=fun K hK=>by
    rcases hcol with ⟨h0,rfl,rfl⟩ | ⟨h0,b,g,hb,rfl,rfl,hg⟩
    ·have hP:places l codes l.length=[]:=D7O h0
     refine call (B3H _ _) (fun v st1 hv=>?_)
     obtain ⟨rfl,rfl⟩:=hv
     exact hK _ _ [] rfl ⟨by rw [hP],fun x y _ _ h=>by simp at h⟩ (F8.refl _) (.inl ⟨rfl,rfl⟩)
    ·refine call (B5N hN b (places l codes l.length) _ _ (fun x y=>A9w (F6 l x).id (F6 l y).id) (C6Z l) (fun x y=>B1D _ _) (D0S l) _ ⟨g,A0 ..,hg⟩ h20 (fun x hx y hy s=>C8X l x y (A0U hx) (A0U hy) s)) (fun v st1 hv=>?_)
     obtain ⟨rfl,l',hp,hs,hb',hfr⟩:=hv
     have hll:l'.length=(places l codes l.length).length:=hp.length_eq
     refine hK _ st1 l' rfl ⟨hp,by rw [hll];exact hs⟩ (fun c x hc=>?_) (.inr ⟨b,by rw [hll],hb',by omega⟩)
     have hne:c≠b:=fun e=>by subst e;rw [hb] at hc;cases hc
     rw [hfr c hne,B0 hne];exact hc
   refine key _ (fun v st1 o hv ho hsup hsv=>?_)
   subst hv
   clear key hcol
   have hmem:∀ k,k<o.length→0≤gI o k∧(gI o k).toNat<l.length:=fun k hk=>A0U (ho.1.subset (A5 hk))
   conv=>whnf
   refine call (B2y st1) (fun v st2 hv=>?_)
   obtain ⟨q,rfl,hq⟩:=hv
   conv=>whnf
   rcases hsv with ⟨rfl,rfl⟩ | ⟨b,rfl,⟨fb,hst,hfb⟩,hpos⟩
   ·conv=>whnf
    refine B2g [2,5,8,40,41,42] ?_;conv=>whnf
    intro I
    refine B2g [5,8,11] ?_;conv=>whnf
    intro I
    refine I3 (A9X _ _ _ _ _ hq) ?_
    exact ⟨[],st1,q,true,ho,hsup,.inl ⟨by rw [D7i,A5z];rfl,rfl,hq⟩⟩
   ·have hol:o.length≤60:=by rw [ho.1.length_eq];have:=A1C l codes l.length;omega
    conv=>whnf
    refine ⟨[2,5,8,40,41,42],fun m vs st'=>∃ i:Nat,i≤o.length∧m=o.length - i∧vs=[.fptr (A8 15 B8 l) 0,.own 1 b 0 o.length,.optr 1 q 0 0,.own 1 b 0 o.length,eI o.length,eI i]∧QSt st1 q true ((List.range i).map (B2F l o)) st',?_,?_⟩
    ·conv=>whnf
     exact ⟨_,0,D7C _,rfl,rfl,hq⟩
    ·clear hq
     rintro m vs st' ⟨i,hi,rfl,rfl,hq⟩
     have hst':=hq.sup b _ hst
     conv=>whnf
     cases h:decide ((i:Int)<(o.length:Int))
     ·have:=D7g h
      obtain rfl:i=o.length:=by omega
      conv=>whnf
      refine ⟨[5,8,11],fun m vs st'=>∃ (t:Nat) (sv:AV) (fl:Bool),t≤o.length∧m=o.length - t∧vs=[.own 1 b 0 o.length,.optr 1 q 0 0,sv]∧A1a 3 1 (fun k=>eI (gI (P9 l o) k)) t st1 q fl ((A1D l o).drop t) sv st',?_,?_⟩
      ·conv=>whnf
       exact ⟨_,0,.emp,true,D7C _,rfl,rfl,.inl ⟨rfl,rfl,hq.perm (A1O l o).symm⟩⟩
      ·rintro m vs st' ⟨t,sv,fl,ht,rfl,rfl,hout⟩
       have hst':=hout.sup b _ hst
       have hrl:=A5z l o
       conv=>whnf
       refine I3 (hout.len_S) ?_
       refine B7 (fun h1=>?_) (fun h1=>?_)<;>rw [h1]<;>simp only [D7d,D7e,D9I] at h1
       ·have htl:t<(A1D l o).length:=by omega
        have hsplit:(A1D l o).drop t=(A1D l o)[t]::(A1D l o).drop (t+1):=D9h htl
        have hsort:=A7A l o
        have htop:∀ y∈(A1D l o).drop (t+1),H2 y (A1D l o)[t]=false:=fun y hy=>by
         have:=hsort.sublist (D9P t _)
         rw [hsplit,D8K] at this
         exact this.1 y hy
        have hx:=A5A (D8y htl)
        have hres:gI (P9 l o) t=gI o ((A1D l o)[t]).2.toNat:=by
         unfold gI P9
         rw [D7c,D8a,D7k htl];rfl
        rw [hsplit] at hout
        generalize (A1D l o)[t]=x at *
        conv=>whnf
        refine call (hout.pop_S htop) (fun v st'' hv=>?_)
        obtain ⟨rfl,hout'⟩:=hv
        have hst'':=hout'.sup b _ hst
        conv=>whnf
        refine E9 ?_
        refine ldV hst'' rfl (by omega) (v:=eI (gI o x.2.toNat)) (by rw [D7o];exact hfb _ hx.2) ?_;conv=>whnf
        refine A1a.app (q:=r3) rfl rfl rfl rfl rfl (by simp only [hres];rfl) (by show (t+1) * 8≤140737488355328;omega) hout' (fun sv' st3 hout3=>?_);conv=>whnf
        refine G3 ?_
        exact ⟨o.length - (t+1),by omega,t+1,sv',false,by omega,rfl,rfl,hout3⟩
       ·have hte:t=o.length:=by omega
        subst hte;conv=>whnf
        refine ⟨o,st1,q,fl,ho,hsup,?_⟩
        rw [show (P9 l o).length=o.length by rw [D7i,hrl]]
        rw [show (A1D l o).drop o.length=[] by rw [←hrl,List.drop_length]] at hout
        exact hout
     ·have hi':i<o.length:=by have:=D7h h;omega
      have hm:=hmem i hi'
      conv=>whnf
      refine E9 ?_
      refine ldV hst' rfl (by omega) (v:=eI (gI o i)) (by rw [show 0+(i:Int).toNat=i by omega];exact hfb i hi') ?_;conv=>whnf
      refine E9 ?_
      refine call (A8W st1 q _ (F6 l (gI o i)).prio i _ hq (by rw [D7i,D7F];omega)) (fun v st'' hv=>?_)
      obtain ⟨rfl,hq'⟩:=hv
      conv=>whnf
      refine G3 ?_
      refine ⟨o.length - (i+1),by omega,i+1,by omega,rfl,by rw [B4 (by omega)],?_⟩
      rw [D8G,D7M];exact hq'
  ·have hi':i<l.length:=by have:=D7h h;omega
   have hpl:=A1C l codes i
   conv=>whnf
   refine E9 ?_
   have yes:A0z codes (l.getD (i:Int).toNat default)=true→∀ (K:KK),(∀ sv' st'',Col 3 1 (fun k=>eI (gI (places l codes (i+1)) k)) st (places l codes (i+1)).length sv' st''→K sv' st'')→A5V T 29 sv (.arr 1 1 fun k=>[AV.int .i64 (i:Int)].getD k .junk) st' K:=fun ha K hK=>by
    have es:=A6w l codes i
    rw [if_pos (show A0z codes (l.getD i default)=true from ha)] at es
    have el:(places l codes (i+1)).length=(places l codes i).length+1:=by rw [es];simp
    refine Col.app (q:=r3) rfl rfl rfl rfl rfl ?_ (by show ((places l codes i).length+1) * 8≤140737488355328;omega) (hcol.congr (f':=fun k=>eI (gI (places l codes (i+1)) k)) fun k hk=>by rw [es,O1 hk]) (fun sv' st'' hc'=>hK sv' st'' (by rw [el];exact hc'))
    rw [es,A8C];rfl
   have no:A0z codes (l.getD (i:Int).toNat default)=false→places l codes (i+1)=places l codes i:=fun ha=>by
    have es:=A6w l codes i
    rw [if_neg (show ¬ A0z codes (l.getD i default)=true by rw [show A0z codes (l.getD i default)=false from ha];simp),D8X] at es
    exact es
   have fin:∀ sv' st'',Col 3 1 (fun k=>eI (gI (places l codes (i+1)) k)) st (places l codes (i+1)).length sv' st''→∃ m',m'<l.length - i∧∃ (i_1:Nat) (sv:AV),i_1≤l.length∧m'=l.length - i_1∧[D5 codes,AV.fptr (A8 15 B8 l) 0,sv',A8 15 B8 l,eI l.length,eI (IntKind.i64.wrap ((i:Int)+1))]=[D5 codes,.fptr (A8 15 B8 l) 0,sv,A8 15 B8 l,eI l.length,eI i_1]∧Col 3 1 (fun k=>eI (gI (places l codes i_1) k)) st (places l codes i_1).length sv st'' :=
    fun sv' st'' hc'=>⟨l.length - (i+1),by omega,i+1,sv',by omega,rfl,by rw [B4 (by omega)],hc'⟩
   refine B7 (fun h1=>?_) (fun h1=>?_)
   ·have ha:A0z codes (l.getD (i:Int).toNat default)=true:=by unfold A0z;rw [show N7 (l.getD (i:Int).toNat default).code=true from h1,D7X]
    rw [h1];conv=>whnf
    refine yes ha _ (fun sv' st'' hc'=>?_);conv=>whnf
    refine G3 ?_
    exact fin _ _ hc'
   ·rw [h1];conv=>whnf
    refine I3 (C5N codes hc (l.getD (i:Int).toNat default).code _) ?_
    refine B7 (fun h2=>?_) (fun h2=>?_)
    ·have ha:A0z codes (l.getD (i:Int).toNat default)=true:=by unfold A0z;rw [h2,D7U]
     rw [h2];conv=>whnf
     refine yes ha _ (fun sv' st'' hc'=>?_);conv=>whnf
     refine G3 ?_
     exact fin _ _ hc'
    ·have ha:A0z codes (l.getD (i:Int).toNat default)=false:=by unfold A0z;rw [show N7 (l.getD (i:Int).toNat default).code=false from h1,h2];rfl
     rw [h2];conv=>whnf
     refine G3 ?_
     exact fin _ _ (by rw [no ha];exact hcol)
theorem D0I (a b:Int) (ha:0≤a) (hb:0≤b) (hab:a+b≤100000000000000) (st:St):S P 307 [eI a,eI b] st fun v st'=>v=.tuple [eI (a+b),eI 0]∧st'=st:=by
 have ra:(decide (0≤a)&&decide (a≤100000000000000))=true:=by simp;omega
 have rb:(decide (0≤b)&&decide (b≤100000000000000))=true:=by simp;omega
 have w1:IntKind.i64.wrap (100000000000000 - b)=100000000000000 - b:=A4 (by omega) (by omega)
 have w2:IntKind.i64.wrap (a+b)=a+b:=A4 (by omega) (by omega)
 refine F7 [] Tryz.func307 ?_
 refine B2 (A7i a st) ?_
 rw [ra];conv=>whnf
 refine B2 (A7i b st) ?_
 rw [rb];conv=>whnf
 rw [w1]
 refine B7 (fun h=>?_) (fun h=>?_)<;>rw [h]<;>simp only [D7d,D7e] at h
 ·exact absurd h (by omega)
 ·conv=>whnf
  rw [w2]
  exact ⟨rfl,rfl⟩
def A2 (l:List Int):Int:=l.foldl (fun s x=>s+x) 0
theorem K4 {l:List Int} {i:Nat} (h:i<l.length):A2 (l.take (i+1))=A2 (l.take i)+gI l i:=G8 h _ _
theorem G2 (a b:List Int):A2 (a++b)=A2 a+A2 b:=by
 have:∀ (b:List Int) (s:Int),b.foldl (fun s x=>s+x) s=s+b.foldl (fun s x=>s+x) 0:=by
  intro b
  induction b with
  | nil=>intro s;simp
  | cons x b ih=>intro s;simp only [D8o];rw [ih (s+x),ih (0+x)];omega
 unfold A2
 rw [D9g,this b]
theorem C1 {l:List Int} (h:∀ x∈l,0≤x):0≤A2 l:=by
 induction l with
 | nil=>exact D7L _
 | cons x l ih =>
  have:=G2 [x] l
  rw [D9E] at this
  have e:A2 [x]=x:=by simp [A2]
  rw [this,e]
  have:=ih (fun y hy=>h y (D7E _ hy))
  have:=h x (D7G ..)
  omega
theorem N5 {l:List Int} (h:∀ x∈l,0≤x) (i:Nat):A2 (l.take i)≤A2 l:=by
 have e:=G2 (l.take i) (l.drop i)
 rw [D9r] at e
 have:=C1 (l:=l.drop i) (fun x hx=>h x (List.drop_subset _ _ hx))
 omega
theorem J7 {l:List Int} (h:∀ x∈l,0≤x) {x:Int} (hx:x∈l):x≤A2 l:=by
 obtain ⟨i,hi,rfl⟩:=D2 hx
 have h1:=K4 hi
 have h2:=N5 h (i+1)
 have h3:=C1 (l:=l.take i) (fun x hx=>h x (D8e _ _ hx))
 have e:gI l i=l.getD i default:=rfl
 omega
structure S3 (total:Int) (ws:List Int):Prop where
 t0:0≤total
 t1:total≤100000000000000
 len:ws.length≤100000
 w0:∀ w∈ws,0≤w
 sum:A2 ws≤100000000000000
 none:A2 ws=0→total=0
theorem D0s (total:Int) (ws:List Int) (hW:S3 total ws) (st:St):S P 277 [eI total,A9 ws] st fun v st'=>v=.tuple [eI (A2 ws),eI 0]∧st'=st:=by
 have rt:(decide (0≤total)&&decide (total≤100000000000000))=true:=by simp;exact ⟨hW.t0,hW.t1⟩
 have hw:∀ w∈ws,w≤100000000000000:=fun w hw=>D9X (J7 hW.w0 hw) hW.sum
 have hl:=hW.len
 refine F7 [] Tryz.func277 ?_
 refine B2 (A7i total st) ?_
 rw [rt];conv=>whnf
 refine B7 (fun h=>?_) (fun h=>?_)<;>rw [h]<;>simp only [D7d,D7e] at h
 ·exact absurd h (by omega)
 conv=>whnf
 refine ⟨[0,1,20,21,22],fun m vs st'=>∃ i:Nat,i≤ws.length∧m=ws.length - i∧vs=[eI total,A9 ws,A9 ws,eI ws.length,eI i]∧st'=st,?_,?_⟩
 ·conv=>whnf
  exact ⟨_,0,D7C _,rfl,rfl,rfl⟩
 ·rintro m vs st' ⟨i,hi,rfl,rfl,rfl⟩
  conv=>whnf
  cases h1:decide ((i:Int)<(ws.length:Int))
  ·conv=>whnf
   refine ⟨[0,8,30,31,32],fun m vs st''=>∃ i:Nat,i≤ws.length∧m=ws.length - i∧vs=[eI total,eI (A2 (ws.take i)),A9 ws,eI ws.length,eI i]∧st''=st',?_,?_⟩
   ·conv=>whnf
    exact ⟨_,0,D7C _,rfl,rfl,rfl⟩
   ·rintro m vs st'' ⟨i,hi,rfl,rfl,rfl⟩
    conv=>whnf
    cases h2:decide ((i:Int)<(ws.length:Int))
    ·have:=D7g h2
     obtain rfl:i=ws.length:=by omega
     rw [D7m];conv=>whnf
     refine B7 (fun h3=>?_) (fun h3=>?_)<;>rw [h3]
     ·conv=>whnf
      have:total=0:=hW.none (by simpa using h3)
      rw [this];conv=>whnf
      exact ⟨rfl,rfl⟩
     ·conv=>whnf
      exact ⟨rfl,rfl⟩
    ·have hi':i<ws.length:=by have:=D7h h2;omega
     have h3:=K4 hi'
     have h4:=N5 hW.w0 (i+1)
     have h5:=C1 (l:=ws.take i) (fun x hx=>hW.w0 x (D8e _ _ hx))
     have h6:=hW.w0 _ (A5 hi')
     have h7:=hW.sum
     conv=>whnf
     refine E9 ?_
     refine I3 (D0I (A2 (ws.take i)) (gI ws i) h5 h6 (by omega) _) ?_
     refine G3 ?_
     exact ⟨ws.length - (i+1),by omega,i+1,by omega,rfl,by rw [B4 (by omega),h3],rfl⟩
  ·have hi':i<ws.length:=by have:=D7h h1;omega
   have hm:gI ws i∈ws:=A5 hi'
   have rw':(decide (0≤gI ws i)&&decide (gI ws i≤100000000000000))=true:=by simp only [D7f,D7d];exact ⟨hW.w0 _ hm,hw _ hm⟩
   conv=>whnf
   refine E9 ?_
   refine B2 (A7i (gI ws i) _) ?_
   rw [rw'];conv=>whnf
   refine G3 ?_
   exact ⟨ws.length - (i+1),by omega,i+1,by omega,rfl,by rw [B4 (by omega)],rfl⟩
theorem C9y (total w all:Int) (h0:0≤total) (h1:total≤100000000000000) (hw:0≤w) (hwa:w≤all) (ha:0<all) (ha':all≤100000000000000) (st:St):S P 278 [eI total,eI w,eI all] st fun v st'=>v=.tuple [eI (total * w / all),eI (total * w % all)]∧st'=st:=by
 have e1:IntKind.u64.wrap total=total:=E4 (by omega) (by omega)
 have e2:IntKind.u64.wrap w=w:=E4 (by omega) (by omega)
 have e3:IntKind.u64.wrap all=all:=E4 (by omega) (by omega)
 have hN:0≤total * w:=D8H h0 hw
 have hN':total * w≤100000000000000 * all:=D9z h1 hwa hw (by omega)
 have hq0:0≤total * w / all:=D8R hN (by omega)
 have hq1:total * w / all≤100000000000000:=by
  have:total * w / all<100000000000000+1:=(D8U ha).2 (by omega)
  omega
 have hr0:=D8F (total * w) (show all≠0 by omega)
 have hr1:=D8t (total * w) ha
 refine F7 [] Tryz.func278 ?_
 rw [e1,e2]
 refine I3 (C0x total w ⟨by omega,by omega⟩ ⟨by omega,by omega⟩ st) ?_
 rw [e3]
 have hN2:100000000000000 * all≤100000000000000 * 100000000000000:=by omega
 refine B2 (C0k _ _ all (by omega) (by omega) (by omega) (by omega) (by omega) st) ?_
 rw [show total * w / 18446744073709551616 * 18446744073709551616+total * w % 18446744073709551616=total * w by omega];conv=>whnf
 rw [A4 (x:=total * w / all) (by omega) (by omega),A4 (x:=total * w % all) (by omega) (by omega)]
 exact ⟨rfl,rfl⟩
def shQ (total S:Int) (ws:List Int) (k:Nat):Int:=total * gI ws k / S
def shE (total S:Int) (ws:List Int) (k:Nat):QE:=(total * gI ws k % S,(k:Int))
def shR (total S:Int) (ws:List Int):List QE:=((List.range ws.length).map (shE total S ws)).mergeSort fun a b=>!H2 b a
def T4 (qs:List Int) (R:List QE):List Int:=R.foldl (fun acc e=>acc.set e.2.toNat (gI acc e.2.toNat+1)) qs
def G6 (total S:Int) (ws:List Int) (i:Nat):Int:=total - A2 ((List.range i).map (shQ total S ws))
def D1 (total:Int) (ws:List Int):List Int :=
 if A2 ws=0 then ws.map fun _=>0
 else T4 ((List.range ws.length).map (shQ total (A2 ws) ws)) ((shR total (A2 ws) ws).take (G6 total (A2 ws) ws ws.length).toNat)
theorem A2M (total S:Int) (ws:List Int):(shR total S ws).Perm ((List.range ws.length).map (shE total S ws)):=D9Q ..
theorem A8b (total S:Int) (ws:List Int):(shR total S ws).Pairwise fun a b=>H2 b a=false:=by
 have:=D9u (le:=fun a b:QE=>!H2 b a) (fun a b c h1 h2=>by simp only [D7v] at *;exact A0T h2 h1) (fun a b=>by
  cases h:H2 b a with
  | false=>rfl
  | true=>rw [A0F h];rfl) ((List.range ws.length).map (shE total S ws))
 exact this.imp (fun h=>by simpa using h)
theorem A7k (total S:Int) (ws:List Int):(shR total S ws).length=ws.length:=by
 rw [(A2M total S ws).length_eq];simp
theorem B1k {total S:Int} {ws:List Int} {e:QE} (h:e∈shR total S ws):0≤e.2∧e.2.toNat<ws.length:=by
 obtain ⟨k,hk,rfl⟩:=D7y.1 ((A2M total S ws).subset h)
 have:=D7t.1 hk
 simp only [shE];omega
theorem A2s (qs:List Int) (R:List QE):(T4 qs R).length=qs.length:=by
 unfold T4
 induction R generalizing qs with
 | nil=>rfl
 | cons e R ih=>simp only [D8o];rw [ih];simp
theorem B0l (qs:List Int) (R:List QE) (e:QE):T4 qs (R++[e])=(T4 qs R).set e.2.toNat (gI (T4 qs R) e.2.toNat+1):=by
 unfold T4;rw [D9g];rfl
theorem N0 (f:Nat→Int) (n:Nat):A2 ((List.range (n+1)).map f)=A2 ((List.range n).map f)+f n:=by
 rw [D8G,D7M,G2];simp [A2]
theorem B1d (total S:Int) (hS:0<S) (ws:List Int):∀ i,i≤ws.length→S * A2 ((List.range i).map (shQ total S ws))+A2 ((List.range i).map fun k=>total * gI ws k % S)=total * A2 (ws.take i)
 | 0,_=>by simp [A2]
 | i+1,h=>by
  have ih:=B1d total S hS ws i (by omega)
  rw [N0,N0,K4 (by omega),D9p,D9p,←ih]
  have:=D8j (total * gI ws i) S
  unfold shQ
  omega
theorem A7Z (total S:Int) (hS:0<S) (ws:List Int):∀ i,0≤A2 ((List.range i).map fun k=>total * gI ws k % S)∧A2 ((List.range i).map fun k=>total * gI ws k % S)≤i * (S - 1)
 | 0=>by simp [A2]
 | i+1=>by
  have ih:=A7Z total S hS ws i
  rw [N0]
  have h1:=D8F (total * gI ws i) (show S≠0 by omega)
  have h2:=D8t (total * gI ws i) hS
  have h3:((i+1:Nat):Int) * (S - 1)=(i:Int) * (S - 1)+(S - 1):=by
   rw [show ((i+1:Nat):Int)=(i:Int)+1 by omega,D9H,Int.one_mul]
  omega
theorem A3G {total:Int} {ws:List Int} (h:S3 total ws) (hS:0<A2 ws):0≤G6 total (A2 ws) ws ws.length∧G6 total (A2 ws) ws ws.length≤ws.length:=by
 have e:=B1d total (A2 ws) hS ws ws.length (D7l _)
 have b:=A7Z total (A2 ws) hS ws ws.length
 rw [D7m] at e
 have hk:A2 ws * G6 total (A2 ws) ws ws.length=A2 ((List.range ws.length).map fun k=>total * gI ws k % A2 ws):=by
  unfold G6
  rw [Int.mul_sub,D9q (A2 ws) total];omega
 constructor
 ·refine Int.le_of_not_gt fun hlt=>?_
  have:A2 ws * G6 total (A2 ws) ws ws.length<0:=Int.mul_neg_of_pos_of_neg hS hlt
  omega
 ·refine Int.le_of_not_gt fun hgt=>?_
  have h1:A2 ws * ((ws.length:Int)+1)≤A2 ws * G6 total (A2 ws) ws ws.length:=D7W (by omega) (by omega)
  have h2:(ws.length:Int) * (A2 ws - 1)≤A2 ws * (ws.length:Int):=by
   rw [Int.mul_sub,D9Z,D9q];omega
  rw [D9p,D9Z] at h1
  omega
theorem A4P {total:Int} {ws:List Int} (h:S3 total ws) (hS:0<A2 ws) {k:Nat} (hk:k<ws.length):0≤shQ total (A2 ws) ws k∧shQ total (A2 ws) ws k≤total:=by
 have hw:=h.w0 _ (A5 hk)
 have hle:=J7 h.w0 (A5 hk)
 refine ⟨D8R (D8H h.t0 hw) (by omega),?_⟩
 have h1:total * gI ws k≤total * A2 ws:=D7W hle h.t0
 have:shQ total (A2 ws) ws k<total+1:=(D8U hS).2 (by rw [D9H,Int.one_mul];omega)
 omega
theorem A5F {total:Int} {ws:List Int} (h:S3 total ws) (hS:0<A2 ws) {i:Nat} (hi:i≤ws.length):0≤A2 ((List.range i).map (shQ total (A2 ws) ws))∧A2 ((List.range i).map (shQ total (A2 ws) ws))≤total:=by
 have e:=B1d total (A2 ws) hS ws i hi
 have b:=A7Z total (A2 ws) hS ws i
 have t:=N5 h.w0 i
 constructor
 ·exact C1 fun x hx=>by
   obtain ⟨k,hk,rfl⟩:=D7y.1 hx
   exact (A4P h hS (by have:=D7t.1 hk;omega)).1
 ·have h1:total * A2 (ws.take i)≤total * A2 ws:=D7W t h.t0
  refine Int.le_of_not_gt fun hgt=>?_
  have:A2 ws * (total+1)≤A2 ws * A2 ((List.range i).map (shQ total (A2 ws) ws)):=D7W (by omega) (by omega)
  rw [D9p,D9Z,D9q] at this
  omega
theorem A5m (qs:List Int) (R:List QE) (k:Nat):gI qs k≤gI (T4 qs R) k∧gI (T4 qs R) k≤gI qs k+R.length:=by
 unfold T4
 induction R generalizing qs with
 | nil=>simp
 | cons e R ih =>
  simp only [D8o,D7N]
  have h:=ih (qs.set e.2.toNat (gI qs e.2.toNat+1))
  have hs:gI qs k≤gI (qs.set e.2.toNat (gI qs e.2.toNat+1)) k∧gI (qs.set e.2.toNat (gI qs e.2.toNat+1)) k≤gI qs k+1:=by
   unfold gI
   simp only [D7c,D8W]
   by_cases e1:e.2.toNat=k
   ·subst e1
    by_cases e2:e.2.toNat<qs.length
    ·simp [e2];omega
    ·simp [e2]
   ·rw [if_neg e1];omega
  omega
theorem N3 (f:Nat→Int) {n k:Nat} (hk:k<n):gI ((List.range n).map f) k=f k:=by
 unfold gI;simp [D7c,hk]
theorem C4g {l:List Int} {j:Nat} (hj:j<l.length) (x:Int) (k:Nat):gI (l.set j x) k=if k=j then x else gI l k:=by
 unfold gI
 simp only [D7c,D8W]
 by_cases h:k=j
 ·subst h;simp [hj]
 ·rw [if_neg (fun e=>h e.symm),if_neg h]
theorem A9L (total:Int) (ws:List Int) (h:S3 total ws) (st:St):S P 238 [eI total,A9 ws] st fun v st'=>v=.tuple [A9 (D1 total ws),eI 0]∧st'=st:=by
 have hlen:=h.len
 refine S.post (post:=fun v st'=>∃ (bo:Nat) (f:Nat→AV),st bo=none∧v=.tuple [.own 1 bo 0 ws.length,eI 0]∧F8 (upd st bo ⟨2,1,ws.length,f⟩) st'∧(D1 total ws).length=ws.length∧∀ k,k<ws.length→f k=eI (gI (D1 total ws) k)) ?_
  (fun v st' ⟨bo,f,h0,hv,hs,hl,hf⟩=>⟨_,st,⟨rfl,rfl⟩,by
   rw [hv]
   refine A7.tuple (A7.cons ((hs.shift _).trans ?_) (A7.keep _ _)) rfl
   have h2:=P1 (st:=upd st bo ⟨2,1,ws.length,f⟩) (e:=1) (b:=bo) (n:=ws.length) (f:=fun k=>eI (gI (D1 total ws) k)) (A0 ..) rfl (D7l _) hf
   rw [A3W h0] at h2
   have e:A9 (D1 total ws)=.arr 1 ws.length (fun k=>eI (gI (D1 total ws) k)):=by unfold A9 A8;rw [hl]
   rw [e];exact h2⟩)
 refine F7 [] Tryz.func238 ?_
 refine I3 (D0s total ws h st) ?_
 refine mkO rfl rfl rfl (by show 8 * ws.length≤_;omega) (by omega) (by rfl) (fun bo hbo=>?_);conv=>whnf
 refine B7 (fun h1=>?_) (fun h1=>?_)<;>rw [h1]
 ·have h0:A2 ws=0:=by simpa using h1
  have hB:D1 total ws=ws.map fun _=>0:=if_pos h0
  conv=>whnf
  refine ⟨bo,_,hbo,rfl,F8.refl _,by rw [hB,D7i],fun k hk=>?_⟩
  rw [hB]
  show AV.int .i64 0=_
  rw [show gI (ws.map fun _=>(0:Int)) k=0 from D4 (fun _=>(0:Int)) ws hk]
 have hS:0<A2 ws:=by
  have h2:=C1 h.w0
  have h3:A2 ws≠0:=by simpa using h1
  omega
 have hB:D1 total ws=T4 ((List.range ws.length).map (shQ total (A2 ws) ws)) ((shR total (A2 ws) ws).take (G6 total (A2 ws) ws ws.length).toNat):=if_neg (by omega)
 have hsum:=h.sum
 have ht0:=h.t0
 have ht1:=h.t1
 conv=>whnf
 refine call (B2y _) (fun v st2 hv=>?_)
 obtain ⟨q,rfl,hq⟩:=hv
 conv=>whnf
 refine ⟨[0,6,8,9,10,35,36,37],fun m vs st'=>∃ (i:Nat) (f:Nat→AV),i≤ws.length∧m=ws.length - i∧vs=[eI total,eI (A2 ws),.own 1 bo 0 ws.length,eI (G6 total (A2 ws) ws i),.optr 1 q 0 0,A9 ws,eI ws.length,eI i] ∧
  (∀ k,k<i→f k=eI (shQ total (A2 ws) ws k))∧(∀ k,i≤k→f k=.int .i64 0)∧QSt (upd st bo ⟨2,1,ws.length,f⟩) q true ((List.range i).map (shE total (A2 ws) ws)) st',?_,?_⟩
 ·conv=>whnf
  exact ⟨_,0,fun _=>.int .i64 0,D7C _,rfl,(by simp [G6,A2];rfl),fun k hk=>absurd hk (by omega),fun _ _=>rfl,hq⟩
 ·clear hq
  rintro m vs st' ⟨i,f,hi,rfl,rfl,hf1,hf2,hq⟩
  conv=>whnf
  cases h2:decide ((i:Int)<(ws.length:Int))
  ·have:=D7g h2
   obtain rfl:i=ws.length:=by omega
   obtain ⟨l0,l1⟩:=A3G h hS
   conv=>whnf
   refine ⟨[8,10,61,62],fun m vs st'=>∃ (t:Nat) (f:Nat→AV) (fl:Bool),(t:Int)≤G6 total (A2 ws) ws ws.length∧m=(G6 total (A2 ws) ws ws.length).toNat - t∧vs=[.own 1 bo 0 ws.length,.optr 1 q 0 0,eI (G6 total (A2 ws) ws ws.length),eI t] ∧
    (∀ k,k<ws.length→f k=eI (gI (T4 ((List.range ws.length).map (shQ total (A2 ws) ws)) ((shR total (A2 ws) ws).take t)) k))∧QSt (upd st bo ⟨2,1,ws.length,f⟩) q fl ((shR total (A2 ws) ws).drop t) st',?_,?_⟩
   ·conv=>whnf
    exact ⟨_,0,f,true,by omega,rfl,rfl,fun k hk=>by rw [hf1 k hk,D8B];show _=eI (gI ((List.range ws.length).map _) k);rw [N3 _ hk],hq.perm (A2M total (A2 ws) ws).symm⟩
   ·clear hf1 hf2 hq f
    rintro m vs st' ⟨t,f,fl,ht,rfl,rfl,hf,hq⟩
    have hrl:=A7k total (A2 ws) ws
    have hby:st' bo=some ⟨2,1,ws.length,f⟩:=hq.sup bo _ (A0 ..)
    conv=>whnf
    cases h3:decide ((t:Int)<G6 total (A2 ws) ws ws.length)
    ·have h3':=D7g h3
     have hte:(G6 total (A2 ws) ws ws.length).toNat=t:=by omega
     conv=>whnf
     refine ⟨bo,f,hbo,rfl,hq.sup,by rw [hB,A2s];simp,fun k hk=>by rw [hB,hte];exact hf k hk⟩
    ·have h3':=D7h h3
     have htl:t<(shR total (A2 ws) ws).length:=by omega
     have hsplit:(shR total (A2 ws) ws).drop t=(shR total (A2 ws) ws)[t]::(shR total (A2 ws) ws).drop (t+1):=D9h htl
     have htop:∀ y∈(shR total (A2 ws) ws).drop (t+1),H2 y (shR total (A2 ws) ws)[t]=false:=fun y hy=>by
      have:=(A8b total (A2 ws) ws).sublist (D9P t _)
      rw [hsplit,D8K] at this
      exact this.1 y hy
     have hx:=B1k (D8y htl)
     have htake:(shR total (A2 ws) ws).take (t+1)=(shR total (A2 ws) ws).take t++[(shR total (A2 ws) ws)[t]]:=D9i htl
     rw [hsplit] at hq
     generalize (shR total (A2 ws) ws)[t]=x at *
     have hb1:=A5m ((List.range ws.length).map (shQ total (A2 ws) ws)) ((shR total (A2 ws) ws).take t) x.2.toNat
     have hb2:=A4P h hS hx.2
     rw [N3 _ hx.2,D7n] at hb1;conv=>whnf
     refine call (A9Y _ _ _ _ _ _ hq htop) (fun v st'' hv=>?_)
     obtain ⟨rfl,hq'⟩:=hv
     have hby':st'' bo=some ⟨2,1,ws.length,f⟩:=hq'.sup bo _ (A0 ..)
     conv=>whnf
     refine E9 ?_
     refine ldV hby' rfl (by omega) (v:=eI (gI (T4 ((List.range ws.length).map (shQ total (A2 ws) ws)) ((shR total (A2 ws) ws).take t)) x.2.toNat)) (by rw [D7o];exact hf _ hx.2) ?_;conv=>whnf
     refine E9 ?_
     refine stV hby' rfl (by omega) (v:=eI (gI (T4 ((List.range ws.length).map (shQ total (A2 ws) ws)) ((shR total (A2 ws) ws).take t)) x.2.toNat)) (by rw [D7o];exact hf _ hx.2) (by rfl) ?_;conv=>whnf
     refine G3 ?_
     have hg:=hq'.grow (bo':=bo) (y':=⟨2,1,ws.length,I6 f (0+x.2.toNat) (eI (IntKind.i64.wrap (gI (T4 ((List.range ws.length).map (shQ total (A2 ws) ws)) ((shR total (A2 ws) ws).take t)) x.2.toNat+1)))⟩) hbo (.inl rfl)
     rw [B1l] at hg
     refine ⟨(G6 total (A2 ws) ws ws.length).toNat - (t+1),by omega,t+1,_,false,by omega,rfl,by rw [B4 (by omega)],fun k hk=>?_,hg.2⟩
     rw [htake,B0l,C4g (by rw [A2s];simpa using hx.2),D7o]
     by_cases e1:k=x.2.toNat
     ·rw [if_pos e1,e1,A6,A4 (by omega) (by omega)]
     ·rw [if_neg e1,H7 e1];exact hf k hk
  ·have hi':i<ws.length:=by have:=D7h h2;omega
   have hm:gI ws i∈ws:=A5 hi'
   have hby:st' bo=some ⟨2,1,ws.length,f⟩:=hq.sup bo _ (A0 ..)
   have hqb:=A5F h hS (show i≤ws.length by omega)
   have hqb':=A5F h hS (show i+1≤ws.length by omega)
   have hsr:=N0 (shQ total (A2 ws) ws) i
   conv=>whnf
   refine E9 ?_
   refine I3 (C9y total (gI ws i) (A2 ws) h.t0 h.t1 (h.w0 _ hm) (J7 h.w0 hm) hS h.sum _) ?_
   refine E9 ?_
   refine stV hby rfl (by omega) (v:=.int .i64 0) (by rw [show 0+(i:Int).toNat=i by omega];exact hf2 i (D7l _)) (by rfl) ?_
   conv=>whnf
   have hg:=hq.grow (bo':=bo) (y':=⟨2,1,ws.length,I6 f (0+(i:Int).toNat) (eI (shQ total (A2 ws) ws i))⟩) hbo (.inl rfl)
   rw [B1l] at hg
   refine call (A8W _ q _ (total * gI ws i % A2 ws) i _ hg.2 (by rw [D7i,D7F];omega)) (fun v st'' hv=>?_)
   obtain ⟨rfl,hq'⟩:=hv
   conv=>whnf
   refine G3 ?_
   refine ⟨ws.length - (i+1),by omega,i+1,I6 f (0+(i:Int).toNat) (eI (shQ total (A2 ws) ws i)),by omega,rfl,?_,fun k hk=>?_,fun k hk=>?_,?_⟩
   ·rw [B4 (by omega)]
    have e:IntKind.i64.wrap (G6 total (A2 ws) ws i - total * gI ws i / A2 ws)=G6 total (A2 ws) ws (i+1):=by
     unfold G6
     have:total * gI ws i / A2 ws=shQ total (A2 ws) ws i:=rfl
     rw [this,A4 (by omega) (by omega)];omega
    rw [e]
   ·by_cases e1:k=i
    ·subst e1;rw [show 0+(k:Int).toNat=k by omega,A6]
    ·rw [H7 (by omega)];exact hf1 k (by omega)
   ·rw [H7 (by omega)];exact hf2 k (by omega)
   ·rw [D8G,D7M];exact hq'
abbrev C4 (l:List B3):AV:=A8 3 A0i l
abbrev gU (l:List B3) (k:Nat):B3:=l.getD k default
abbrev D9 (us:List B3):List Int:=us.map B3.net
structure E5 (us:List B3):Prop where
 len:us.length≤100000
 pos:∀ u∈us,0≤u.net
 sum:A2 (D9 us)≤10000000000000
structure O4 (us:List B3) (mine:List Int):Prop where
 rng:∀ k,k<mine.length→0≤gI mine k∧(gI mine k).toNat<us.length
 opn:∀ k,k<mine.length→(gU us (gI mine k).toNat).opn=true
 inc:∀ k,k+1<mine.length→gI mine k<gI mine (k+1)
theorem E5.nets0 {us:List B3} (h:E5 us):∀ x∈D9 us,0≤x:=fun x hx=>by
 obtain ⟨u,hu,rfl⟩:=D7y.1 hx
 exact h.pos u hu
theorem E5.le {us:List B3} (h:E5 us) {u:B3} (hu:u∈us):u.net≤10000000000000:=by
 have:=J7 h.nets0 (D9R (f:=B3.net) hu)
 have:=h.sum
 omega
theorem O4.lt {us:List B3} {mine:List Int} (h:O4 us mine):∀ j k,j<k→k<mine.length→gI mine j<gI mine k:=fun j k hjk hk=>by
 induction k with
 | zero=>omega
 | succ k ih =>
  rcases D8E j k with hlt | hge
  ·exact Int.lt_trans (ih hlt (by omega)) (h.inc k hk)
  ·have:j=k:=by omega
   subst this;exact h.inc j hk
theorem O4.len {us:List B3} {mine:List Int} (h:O4 us mine):mine.length≤us.length:=by
 have:∀ k,k<mine.length→(k:Int)≤gI mine k:=fun k=>by
  induction k with
  | zero=>intro hk;exact (h.rng 0 hk).1
  | succ k ih=>intro hk;have:=ih (by omega);have:=h.inc k hk;omega
 rcases D8w mine.length with e | e
 ·omega
 ·have h1:=this (mine.length - 1) (by omega)
  have h2:=(h.rng (mine.length - 1) (by omega)).2
  omega
theorem C9s (us:List B3) (h:E5 us) (st:St):S P 313 [C4 us] st fun v st'=>v=.bool true∧st'=st:=by
 have hlen:=h.len
 refine F7 [5] Tryz.func313 ?_
 refine B7 (fun h1=>?_) (fun h1=>?_)<;>rw [h1]<;>simp only [D7d,D7e] at h1
 ·exact absurd h1 (by omega)
 conv=>whnf
 refine ⟨[3,9,10,11],fun m vs st'=>∃ i:Nat,i≤us.length∧m=us.length - i∧vs=[eI (A2 ((D9 us).take i)),C4 us,eI us.length,eI i]∧st'=st,?_,?_⟩
 ·conv=>whnf
  exact ⟨_,0,D7C _,rfl,rfl,rfl⟩
 ·rintro m vs st' ⟨i,hi,rfl,rfl,rfl⟩
  conv=>whnf
  cases h2:decide ((i:Int)<(us.length:Int))
  ·have:=D7g h2
   obtain rfl:i=us.length:=by omega
   have hs:=h.sum
   rw [show (D9 us).take us.length=D9 us from by rw [←D7i (f:=B3.net),D7m]];conv=>whnf
   refine ⟨?_,rfl⟩
   show AV.bool (decide _)=_
   rw [D7D hs]
  ·have hi':i<us.length:=by have:=D7h h2;omega
   have hu:gU us i∈us:=A5 hi'
   have p0:=h.pos _ hu
   have p1:=h.le hu
   have hsum:=h.sum
   have e1:=K4 (l:=D9 us) (i:=i) (by rw [D7i];exact hi')
   have e2:=N5 h.nets0 (i+1)
   have e3:=C1 (l:=(D9 us).take i) (fun x hx=>h.nets0 x (D8e _ _ hx))
   have e4:gI (D9 us) i=(gU us i).net:=D4 B3.net us hi'
   have w:IntKind.i64.wrap (A2 ((D9 us).take i)+(gU us i).net)=A2 ((D9 us).take (i+1)):=by rw [e1,e4];exact A4 (by omega) (by omega)
   conv=>whnf
   refine E9 ?_
   refine B7 (fun h3=>?_) (fun h3=>?_)<;>rw [h3]
   ·exact absurd (D7h h3) (by show ¬(gU us i).net<0;omega)
   conv=>whnf
   refine B7 (fun h4=>?_) (fun h4=>?_)<;>rw [h4]
   ·exact absurd (D7h h4) (by show ¬(gU us i).net>10000000000000;omega)
   conv=>whnf
   refine G3 ?_
   exact ⟨us.length - (i+1),by omega,i+1,by omega,rfl,by rw [B4 (by omega),←w];rfl,rfl⟩
theorem B1G (us:List B3) (mine:List Int) (h:E5 us) (hm:O4 us mine) (st:St):S P 294 [C4 us,A9 mine] st fun v st'=>v=.bool true∧st'=st:=by
 have hlen:=h.len
 have hml:=hm.len
 refine F7 [] Tryz.func294 ?_
 refine I3 (C9s us h st) ?_
 refine ⟨[0,5,11,12,13],fun m vs st'=>∃ i:Nat,i≤mine.length∧m=mine.length - i∧vs=[C4 us,eI (if i=0 then -1 else gI mine (i - 1)),A9 mine,eI mine.length,eI i]∧st'=st,?_,?_⟩
 ·conv=>whnf
  exact ⟨_,0,D7C _,rfl,rfl,rfl⟩
 ·rintro m vs st' ⟨i,hi,rfl,rfl,rfl⟩
  conv=>whnf
  cases h2:decide ((i:Int)<(mine.length:Int))
  ·conv=>whnf
   exact ⟨rfl,rfl⟩
  ·have hi':i<mine.length:=by have:=D7h h2;omega
   have hr:=hm.rng i hi'
   have ho:=hm.opn i hi'
   have hlast:(if i=0 then -1 else gI mine (i - 1))<gI mine i:=by
    split
    ·omega
    ·exact hm.lt (i - 1) i (by omega) hi'
   conv=>whnf
   refine E9 ?_
   refine B7 (fun h3=>?_) (fun h3=>?_)<;>rw [h3]
   ·exact absurd (D7h h3) (by show ¬ gI mine i≤_;omega)
   conv=>whnf
   refine B7 (fun h4=>?_) (fun h4=>?_)<;>rw [h4]
   ·exact absurd (D7h h4) (by show ¬ gI mine i≥(us.length:Int);omega)
   conv=>whnf
   refine ⟨rfl,⟨by show 0≤gI mine i;omega,by show gI mine i<(us.length:Int);omega⟩,?_⟩;conv=>whnf
   rw [show (us.getD (mine.getD (i:Int).toNat default).toNat default).opn=true from ho];conv=>whnf
   refine G3 ?_
   exact ⟨mine.length - (i+1),by omega,i+1,by omega,rfl,by rw [B4 (by omega),if_neg (show ¬ i+1=0 by omega)];rfl,rfl⟩
def J9 (x rate:Int):Int:=(if 0≤rate∧rate≤10000 then V7 x rate 10000 1 else (0,2)).1
theorem U7 (x rate:Int):0≤J9 x rate∧J9 x rate≤100000000000000:=by
 unfold J9
 split
 ·unfold V7
  split
  ·exact ⟨D7L _,by decide⟩
  ·rename_i hb
   rw [D9y] at hb
   simp only [R3,D7f,D7d,D9F,ne_eq] at hb
   have hq:0≤x * rate / 10000:=D8R (D8H hb.1.1.1.1.1.1 hb.1.1.1.1.2.1) (by omega)
   split
   ·exact ⟨D7L _,by decide⟩
   ·split
    ·exact ⟨D7L _,by decide⟩
    ·rename_i h1 h2
     refine ⟨?_,Int.le_of_not_gt h2⟩
     show 0≤T8 (x * rate / 10000) (x * rate % 10000) 10000 1
     unfold T8
     repeat' split
     all_goals omega
 ·exact ⟨D7L _,by decide⟩
def R1 (x rate amount:Int):Int:=if x<J9 x rate+amount then x else J9 x rate+amount
theorem C8B (x rate amount:Int) (h0:0≤amount) (h1:amount≤10000000000000) (st:St):S P 316 [eI x,eI rate,eI amount] st fun v st'=>v=eI (R1 x rate amount)∧st'=st:=by
 refine F7 [] Tryz.func316 ?_
 refine B2 (B5z x rate 1 st) ?_
 have hb:=U7 x rate
 have w:IntKind.i64.wrap (J9 x rate+amount)=J9 x rate+amount:=A4 (by omega) (by omega)
 conv=>whnf
 refine ⟨?_,rfl⟩
 show AV.int .i64 (if x<IntKind.i64.wrap (J9 x rate+amount) then x else IntKind.i64.wrap (J9 x rate+amount))=_
 rw [w];rfl
theorem A0E {x rate amount:Int} (hx:0≤x) (h0:0≤amount):0≤R1 x rate amount∧R1 x rate amount≤x:=by
 have:=U7 x rate
 unfold R1
 split<;>omega
def B6z (p:B1) (nets:List Int):AV:=.agg [eS p.id,eI p.kind,eI p.prio,eS p.group,eS p.code,eB p.closes,D5 p.scope.skus,D5 p.scope.cats,eI p.least,eI p.rate,eI p.amount,eI p.buy,eI p.get,A8 3 A1L p.parts,A8 3 Z6 p.tiers,A9 nets]
theorem B8B (p:B1) (nets:List Int) (rate amount:Int) (h0:0≤amount) (h1:amount≤10000000000000) (hl:nets.length≤100000) (st:St):S P 314 [B6z p nets,eI rate,eI amount] st fun v st'=>v=A9 (nets.map fun x=>R1 x rate amount)∧st'=st:=by
 have he:A9 (nets.map fun x=>R1 x rate amount)=.arr 1 nets.length (fun k=>eI (gI (nets.map fun x=>R1 x rate amount) k)):=by unfold A9 A8;rw [D7i]
 rw [he]
 refine C3t (ty:=2) ?_
 refine F7 [3] Tryz.func314 ?_
 refine ⟨[1,2,7,11,12,13],fun m vs st'=>∃ (i:Nat) (sv:AV),i≤nets.length∧m=nets.length - i∧vs=[eI rate,eI amount,sv,A9 nets,eI nets.length,eI i]∧Col 2 1 (fun k=>eI (gI (nets.map fun x=>R1 x rate amount) k)) st i sv st',?_,?_⟩
 ·conv=>whnf
  exact ⟨_,0,.emp,D7C _,rfl,rfl,Col.start _ _ _ _⟩
 ·rintro m vs st' ⟨i,sv,hi,rfl,rfl,hc⟩
  conv=>whnf
  cases h:decide ((i:Int)<(nets.length:Int))
  ·have:=D7g h
   obtain rfl:i=nets.length:=by omega
   conv=>whnf
   exact hc
  ·have hi':i<nets.length:=by have:=D7h h;omega
   conv=>whnf
   refine E9 ?_
   refine I3 (C8B (gI nets i) rate amount h0 h1 _) ?_
   refine Col.app (q:=r2) rfl rfl rfl rfl rfl ?_ (by show (i+1) * 8≤140737488355328;omega) hc (fun sv' st'' hc'=>?_)
   ·rw [show gI (nets.map fun x=>R1 x rate amount) i=R1 (gI nets i) rate amount from D4 (fun x=>R1 x rate amount) nets hi'];rfl
   conv=>whnf
   refine G3 ?_
   exact ⟨nets.length - (i+1),by omega,i+1,sv',by omega,rfl,by rw [B4 (by omega)],hc'⟩
def B6V (p:B1) (nets:List Int):List Int:=nets.map fun x=>R1 x p.rate 0
def B6U (p:B1) (nets:List Int):List Int:=nets.map fun x=>R1 x 0 p.amount
theorem C2d (p:B1) (nets:List Int) (hl:nets.length≤100000) (st:St):S P 298 [B6z p nets] st fun v st'=>v=A9 (B6V p nets)∧st'=st:=by
 refine F7 [1] Tryz.func298 ?_
 refine I3 (B8B p nets p.rate 0 (by omega) (by omega) hl st) ?_
 exact ⟨rfl,rfl⟩
theorem C3C (p:B1) (nets:List Int) (h0:0≤p.amount) (h1:p.amount≤10000000000000) (hl:nets.length≤100000) (st:St):S P 299 [B6z p nets] st fun v st'=>v=A9 (B6U p nets)∧st'=st:=by
 refine F7 [1] Tryz.func299 ?_
 refine I3 (B8B p nets 0 p.amount h0 h1 hl st) ?_
 exact ⟨rfl,rfl⟩
def O9 (l:List A1g) (x:Int):Option A1g:=l.reverse.find? fun t=>decide (t.least≤x)
theorem A5q {α : Type} [Inhabited α] {l:List α} {k:Nat} (hk:k<l.length):l.reverse.getD k default=l.getD (l.length - 1 - k) default:=by
 rw [D7c,D7c,List.getElem?_reverse hk]
theorem A9a {l:List A1g} {x:Int} {i:Nat} (hi:i<l.length) (h:∀ k,i<k→k<l.length→decide ((l.getD k default).least≤x)=false) (hp:decide ((l.getD i default).least≤x)=true):O9 l x=some (l.getD i default):=by
 have e:l.getD i default=l.reverse.getD (l.length - 1 - i) default:=by
  rw [A5q (by omega),show l.length - 1 - (l.length - 1 - i)=i by omega]
 rw [e] at hp ⊢
 exact A4C (by rw [List.length_reverse];omega) (fun k hk=>by rw [A5q (by omega)];exact h _ (by omega) (by omega)) hp
theorem A8Z {l:List A1g} {x:Int} (h:∀ k,k<l.length→decide ((l.getD k default).least≤x)=false):O9 l x=none :=
 A9B fun k hk=>by rw [List.length_reverse] at hk;rw [A5q hk];exact h _ (by omega)
theorem B4s (l:List A1g) (x:Int) (hl:l.length≤100000) (st:St):S P 315 [A8 3 Z6 l,eI x] st fun v st'=>v=.tuple [Z6 ((O9 l x).getD default),.bool (O9 l x).isSome]∧st'=st:=by
 refine A0g ?_
 refine F7 [] Tryz.func315 ?_
 intro b hb;conv=>whnf
 have w0:IntKind.i64.wrap ((l.length:Int) - 1)=(l.length:Int) - 1:=A4 (by omega) (by omega)
 refine ⟨[0,1,4,6],fun m vs st'=>∃ (i:Int) (f:Nat→AV) (u:A1g),-1≤i∧i<l.length∧(∀ k:Nat,i<k→k<l.length→decide ((l.getD k default).least≤x)=false)∧m=(i+1).toNat∧vs=[A8 3 Z6 l,eI x,.optr 3 b 0 0,eI i]∧st'=upd st b ⟨300,3,1,f⟩∧f 0=Z6 u,?_,?_⟩
 ·conv=>whnf
  exact ⟨_,(l.length:Int) - 1,_,default,by omega,by omega,fun k h1 h2=>by omega,rfl,by rw [w0],rfl,rfl⟩
 ·rintro m vs st' ⟨i,f,u,h0,hi,hno,rfl,rfl,rfl,hf⟩
  conv=>whnf
  cases h:decide (i≥0)
  ·have:=D7g h
   have hr:O9 l x=none:=A8Z fun k hk=>hno k (by omega) hk
   conv=>whnf
   refine stW (A0 ..) hf ?_
   refine L1 (A0 ..) (A6 ..) ?_
   refine ⟨by rw [hr];rfl,((F8.refl st).upd hb).over hb⟩
  ·have hi0:=D7h h
   conv=>whnf
   refine E9 ?_
   refine B7 (fun h1=>?_) (fun h1=>?_)
   ·have hr:O9 l x=some (l.getD i.toNat default):=A9a (by omega) (fun k h2 h3=>hno k (by omega) h3) h1
    rw [h1];conv=>whnf
    refine E9 ?_
    refine stW (A0 ..) hf ?_
    refine L1 (A0 ..) (A6 ..) ?_
    refine ⟨by rw [hr];rfl,((F8.refl st).upd hb).over hb⟩
   ·have w:IntKind.i64.wrap (i - 1)=i - 1:=A4 (by omega) (by omega)
    rw [h1];conv=>whnf
    refine G3 ?_
    refine ⟨i.toNat,by omega,i - 1,f,u,by omega,by omega,fun k h2 h3=>?_,by omega,by rw [w],rfl,hf⟩
    rcases (by omega:k=i.toNat∨i<k) with e | e
    ·rw [e];exact h1
    ·exact hno k e h3
def A8p (l:List A1g):Prop:=l.length≤6∧∀ t∈l,0≤t.amount∧t.amount≤10000000000000
theorem A0G {l:List A1g} (h:A8p l) (x:Int):0≤((O9 l x).getD default).amount∧((O9 l x).getD default).amount≤10000000000000:=by
 cases hr:O9 l x with
 | none=>exact ⟨D7L _,by decide⟩
 | some t =>
  have:t∈l:=List.mem_reverse.1 (D9A hr)
  exact h.2 t this
def A5N (p:B1) (nets:List Int):List Int:=match O9 p.tiers nets.length with
 | none=>[]
 | some t=>nets.map fun x=>R1 x t.rate t.amount
def A5O (p:B1) (nets:List Int):List Int:=match O9 p.tiers (A2 nets) with
 | none=>[]
 | some t=>D1 (R1 (A2 nets) t.rate t.amount) nets
theorem C6B (p:B1) (nets:List Int) (ht:A8p p.tiers) (hl:nets.length≤100000) (st:St):S P 301 [B6z p nets] st fun v st'=>v=A9 (A5N p nets)∧st'=st:=by
 refine S.post (post:=fun v st'=>(v=A9 (A5N p nets)∨(A5N p nets=[]∧v=.emp))∧F8 st st') ?_ (fun v st' ⟨h,hs⟩=>⟨_,st,⟨rfl,rfl⟩,(hs.shift _).trans (by
  rcases h with rfl | ⟨h0,rfl⟩
  ·exact A7.keep _ _
  ·rw [h0];exact I5 1 _)⟩)
 have htl:=ht.1
 refine F7 [1] Tryz.func301 ?_
 refine I3 (B4s p.tiers nets.length (by omega) st) ?_
 intro b hb;conv=>whnf
 refine stW (A0 ..) rfl ?_
 have hsup:∀ x y:L7,F8 st (upd (upd st b x) b y):=fun x y=>((F8.refl st).upd hb).over hb
 have hok:=A0G ht nets.length
 cases hr:O9 p.tiers nets.length with
 | none =>
  have hB:A5N p nets=[]:=by unfold A5N;rw [hr]
  conv=>whnf
  exact ⟨.inr ⟨hB,rfl⟩,hsup _ _⟩
 | some t =>
  have hB:A5N p nets=nets.map fun x=>R1 x t.rate t.amount:=by unfold A5N;rw [hr]
  rw [hr] at hok;conv=>whnf
  refine ldV (A0 ..) rfl (by omega) (v:=Z6 t) (by rw [A6];rfl) ?_;conv=>whnf
  refine ldV (A0 ..) rfl (by omega) (v:=Z6 t) (by rw [A6];rfl) ?_;conv=>whnf
  refine I3 (B8B p nets t.rate t.amount hok.1 hok.2 hl _) ?_
  exact ⟨.inl (by rw [hB];rfl),hsup _ _⟩
theorem C7W (p:B1) (nets:List Int) (ht:A8p p.tiers) (hl:nets.length≤100000) (h0:∀ x∈nets,0≤x) (hs:A2 nets≤10000000000000) (st:St):S P 300 [B6z p nets] st fun v st'=>v=A9 (A5O p nets)∧st'=st:=by
 refine S.post (post:=fun v st'=>(v=A9 (A5O p nets)∨(A5O p nets=[]∧v=.emp))∧F8 st st') ?_ (fun v st' ⟨h,hs⟩=>⟨_,st,⟨rfl,rfl⟩,(hs.shift _).trans (by
  rcases h with rfl | ⟨h0,rfl⟩
  ·exact A7.keep _ _
  ·rw [h0];exact I5 1 _)⟩)
 have htl:=ht.1
 have hsn:=C1 h0
 refine F7 [1] Tryz.func300 ?_
 refine ⟨[1,3,11,12,13],fun m vs st'=>∃ i:Nat,i≤nets.length∧m=nets.length - i∧vs=[.fptr (B6z p nets) 0,eI (A2 (nets.take i)),A9 nets,eI nets.length,eI i]∧st'=st,?_,?_⟩
 ·conv=>whnf
  exact ⟨_,0,D7C _,rfl,rfl,rfl⟩
 ·rintro m vs st' ⟨i,hi,rfl,rfl,rfl⟩
  conv=>whnf
  cases h:decide ((i:Int)<(nets.length:Int))
  ·have:=D7g h
   obtain rfl:i=nets.length:=by omega
   rw [D7m];conv=>whnf
   refine I3 (B4s p.tiers (A2 nets) (by omega) _) ?_
   intro b hb;conv=>whnf
   refine stW (A0 ..) rfl ?_
   have hsup:∀ x y:L7,F8 st' (upd (upd st' b x) b y):=fun x y=>((F8.refl st').upd hb).over hb
   have hok:=A0G ht (A2 nets)
   cases hr:O9 p.tiers (A2 nets) with
   | none =>
    have hB:A5O p nets=[]:=by unfold A5O;rw [hr]
    conv=>whnf
    exact ⟨.inr ⟨hB,rfl⟩,hsup _ _⟩
   | some t =>
    have hB:A5O p nets=D1 (R1 (A2 nets) t.rate t.amount) nets:=by unfold A5O;rw [hr]
    rw [hr] at hok
    have hob:0≤R1 (A2 nets) t.rate t.amount∧R1 (A2 nets) t.rate t.amount≤A2 nets:=A0E hsn hok.1
    have hW:S3 (R1 (A2 nets) t.rate t.amount) nets:=⟨hob.1,by omega,hl,h0,by omega,fun e=>by omega⟩
    conv=>whnf
    refine ⟨[],[],[0,1,2,3,4,5,6,7,8,9,10,11,12,13],by kernel_rfl,?_⟩;conv=>whnf
    refine ldV (A0 ..) rfl (by omega) (v:=Z6 t) (by rw [A6];rfl) ?_;conv=>whnf
    refine ldV (A0 ..) rfl (by omega) (v:=Z6 t) (by rw [A6];rfl) ?_;conv=>whnf
    refine cqW (C8B (A2 nets) t.rate t.amount hok.1 hok.2 _) ?_
    refine cqW (A9L _ nets hW _) ?_
    exact ⟨.inl (by rw [hB];rfl),hsup _ _⟩
  ·have hi':i<nets.length:=by have:=D7h h;omega
   have e1:=K4 hi'
   have e2:=N5 h0 (i+1)
   have e3:=C1 (l:=nets.take i) (fun x hx=>h0 x (D8e _ _ hx))
   have e4:0≤gI nets i:=h0 _ (A5 hi')
   have w:IntKind.i64.wrap (A2 (nets.take i)+gI nets i)=A2 (nets.take (i+1)):=by rw [e1];exact A4 (by omega) (by omega)
   conv=>whnf
   refine E9 ?_
   refine G3 ?_
   exact ⟨nets.length - (i+1),by omega,i+1,by omega,rfl,by rw [B4 (by omega),←w];rfl,rfl⟩
def A5Z (st:St) (b:Nat) (us:List B3):Prop:=∃ f,st b=some ⟨223,3,us.length,f⟩∧∀ k,k<us.length→f k=A0i (gU us k)
theorem A6k {us:List B3} {j:Nat} (hj:j<us.length) (x:B3) (k:Nat):gU (us.set j x) k=if k=j then x else gU us k:=by
 unfold gU
 simp only [D7c,D8W]
 by_cases h:k=j
 ·subst h;simp [hj]
 ·rw [if_neg (fun e=>h e.symm),if_neg h]
def close1 (us:List B3) (i:Nat):List B3:=us.set i { gU us i with opn:=false }
def closeB (us:List B3) (mine:List Int):List B3:=mine.foldl (fun us i=>close1 us i.toNat) us
theorem A2u (us:List B3) (mine:List Int):(closeB us mine).length=us.length:=by
 unfold closeB
 induction mine generalizing us with
 | nil=>rfl
 | cons x l ih=>simp only [D8o];rw [ih];simp [close1]
theorem A5Z.set {st':St} {b:Nat} {us:List B3} {f:Nat→AV} (hf:∀ k,k<us.length→f k=A0i (gU us k)) {j:Nat} (hj:j<us.length) (x:B3) (h:st' b=some ⟨223,3,us.length,I6 f j (A0i x)⟩):A5Z st' b (us.set j x):=by
 refine ⟨_,by rw [h,D8p],fun k hk=>?_⟩
 rw [D8p] at hk
 rw [A6k hj]
 by_cases e:k=j
 ·rw [if_pos e,e,A6]
 ·rw [if_neg e,H7 e];exact hf k hk
theorem B4U (b:Nat) (us:List B3) (mine:List Int) (hm:∀ x∈mine,0≤x∧x.toNat<us.length) (hl:mine.length≤1000000) (st:St) (hb:A5Z st b us) :
  S P 297 [.own 3 b 0 us.length,A9 mine] st fun v st'=>v=.tuple []∧A5Z st' b (closeB us mine)∧∀ c,c≠b→st' c=st c:=by
 refine F7 [] Tryz.func297 ?_
 refine ⟨[0,6,7,8],fun m vs st'=>∃ i:Nat,i≤mine.length∧m=mine.length - i∧vs=[.own 3 b 0 us.length,A9 mine,eI mine.length,eI i]∧A5Z st' b (closeB us (mine.take i))∧∀ c,c≠b→st' c=st c,?_,?_⟩
 ·conv=>whnf
  exact ⟨_,0,D7C _,rfl,rfl,hb,fun _ _=>rfl⟩
 ·rintro m vs st' ⟨i,hi,rfl,rfl,⟨f,hst,hf⟩,hfr⟩
  have hlen:=A2u us (mine.take i)
  conv=>whnf
  cases h:decide ((i:Int)<(mine.length:Int))
  ·have:=D7g h
   obtain rfl:i=mine.length:=by omega
   rw [D7m] at hst hf;conv=>whnf
   exact ⟨rfl,⟨f,hst,hf⟩,hfr⟩
  ·have hi':i<mine.length:=by have:=D7h h;omega
   have hx:0≤gI mine i∧(gI mine i).toNat<us.length:=hm _ (A5 hi')
   conv=>whnf
   refine E9 ?_
   refine ⟨rfl,⟨by show 0≤gI mine i;exact hx.1,by show gI mine i<(us.length:Int);have:=hx.2;have:=hx.1;omega⟩,?_⟩;conv=>whnf
   refine stV hst rfl (by show 0+(gI mine i).toNat<_;have:=hx.2;omega) (v:=A0i (gU (closeB us (mine.take i)) (gI mine i).toNat)) (by rw [D7o];exact hf _ (show (gI mine i).toNat<(closeB us (mine.take i)).length by have:=hx.2;omega)) (by rfl) ?_;conv=>whnf
   refine G3 ?_
   refine ⟨mine.length - (i+1),by omega,i+1,by omega,rfl,by rw [B4 (by omega)],?_,fun c hc=>by rw [B0 hc];exact hfr c hc⟩
   have e:closeB us (mine.take (i+1))=close1 (closeB us (mine.take i)) (gI mine i).toNat:=G8 hi' _ _
   rw [e]
   refine A5Z.set hf (by have:=hx.2;omega) _ ?_
   rw [A0,D7o];rfl
theorem B1C (us:List B3) (hl:us.length≤100000) (st:St):S P 293 [C4 us] st fun v st'=>Col 223 3 (fun k=>A0i (gU us k)) st us.length v st':=by
 refine SyW [] Tryz.func293 ?_
 cases us with
 | nil =>
  conv=>whnf
  refine ⟨?_,?_⟩
  ·conv=>whnf
   exact Col.start _ _ _ _
  ·conv=>whnf
   refine apE rfl rfl rfl rfl rfl (by show 0 * 24≤_;omega) (fun _=>?_) (fun h=>absurd h (by show ¬ 0<0;omega));conv=>whnf
   exact Col.start _ _ _ _
 | cons u us =>
  conv=>whnf
  refine Col.apps (n:=0) (m:=us.length+1) (q:=C2k) (f:=fun k=>A0i (gU (u::us) k)) rfl rfl rfl rfl rfl (fun i hi=>by rw [D7o]) (by show (0+(us.length+1)) * 24≤140737488355328;simp only [D7N] at hl;omega) (Col.start _ _ _ _) (fun sv' st'' hc'=>?_);conv=>whnf
  rw [D7o] at hc'
  exact hc'
theorem A7.agg {a b:List AV} {st st':St} (h:A7 a st b st'):A7 [.agg a] st [.agg b] st':=A7.one fun w c hS hr=>by
 cases hr with
 | agg cs vs hlen hg =>
  obtain ⟨h1,h2,h3⟩:=h w vs hS ⟨hlen,hg⟩
  exact ⟨h1,h3,.agg _ _ h2.1 h2.2⟩
theorem A7.last {v v':AV} {s t:St} (h:A7 [v] s [v'] t):∀ cs:List AV,A7 (cs++[v]) s (cs++[v']) t
 | []=>h
 | x::cs=>A7.cons (A7.keep [x] s) (A7.last h cs)
def A5S (st:St) (us:List B3) (sv:AV) (st':St):Prop:=F8 st st'∧((us=[]∧sv=.emp)∨∃ b,st b=none∧sv=.own 3 b 0 us.length∧A5Z st' b us)
theorem A5S.shift {st:St} {us:List B3} {sv:AV} {st':St} (h:A5S st us sv st'):A7 [sv] st' [C4 us] st:=by
 obtain ⟨hs,⟨rfl,rfl⟩ | ⟨b,hb,rfl,f,hst,hf⟩⟩:=h
 ·exact (hs.shift _).trans (I5 3 _)
 ·have hsup:F8 (upd st b ⟨223,3,us.length,f⟩) st':=fun c x hc=>by
   by_cases e:c=b
   ·subst e;rw [A0] at hc;rw [hst];exact hc
   ·rw [B0 e] at hc;exact hs c x hc
  have h2:=P1 (st:=upd st b ⟨223,3,us.length,f⟩) (e:=3) (b:=b) (n:=us.length) (f:=fun k=>A0i (gU us k)) (A0 ..) rfl (D7l _) hf
  rw [A3W hb] at h2
  exact (hsup.shift _).trans h2
theorem A5S.ofCol {st:St} {us:List B3} {sv:AV} {st':St} (h:Col 223 3 (fun k=>A0i (gU us k)) st us.length sv st'):A5S st us sv st':=by
 rcases h with ⟨h0,rfl,rfl⟩ | ⟨h0,b,g,hb,rfl,rfl,hg⟩
 ·exact ⟨F8.refl _,.inl ⟨D7O h0,rfl⟩⟩
 ·exact ⟨(F8.refl st).upd hb,.inr ⟨b,hb,rfl,g,A0 ..,hg⟩⟩
def E7 (us:List B3) (mine:List Int):List Int:=mine.map fun i=>(gU us i.toNat).net
def P6 (p:B1) (nets:List Int):List Int:=if p.kind=1 then B6V p nets else if p.kind=2 then B6U p nets else if p.kind=5 then A5O p nets else A5N p nets
def less1 (us:List B3) (i:Nat) (x:Int):List B3:=us.set i { gU us i with net:=(gU us i).net - x }
def D0 (us:List B3) (mine offs:List Int):Nat→List B3
 | 0=>us
 | k+1=>less1 (D0 us mine offs k) (gI mine k).toNat (gI offs k)
def A0p (p:B1) (us:List B3) (mine:List Int):List B3×Int :=
 let offs:=P6 p (E7 us mine)
 let us1:=D0 us mine offs offs.length
 (if (decide (A2 offs>0)&&p.closes)=true then closeB us1 mine else us1,A2 offs)
theorem Q3 (us:List B3) (mine offs:List Int) (k:Nat):(D0 us mine offs k).length=us.length:=by
 induction k with
 | zero=>rfl
 | succ k ih=>unfold D0 less1;rw [D8p,ih]
theorem B0D {us:List B3} {mine offs:List Int} (hm:O4 us mine):∀ k,k≤mine.length→∀ j,j<us.length→(∀ i,i<k→j≠(gI mine i).toNat)→gU (D0 us mine offs k) j=gU us j
 | 0,_,j,hj,_=>rfl
 | k+1,hk,j,hj,hne=>by
  have ih:=B0D (offs:=offs) hm k (by omega) j hj (fun i hi=>hne i (by omega))
  unfold D0 less1
  rw [A6k (by rw [Q3];exact (hm.rng k (by omega)).2),if_neg (hne k (by omega))]
  exact ih
theorem B9K {us:List B3} {mine offs:List Int} (hm:O4 us mine) {k:Nat} (hk:k<mine.length):gU (D0 us mine offs k) (gI mine k).toNat=gU us (gI mine k).toNat :=
 B0D hm k (by omega) _ (hm.rng k hk).2 fun i hi=>by
  have h1:=hm.lt i k hi hk
  have h2:=(hm.rng i (by omega)).1
  omega
theorem B7S {l:List Int} {j:Nat} (hj:j<l.length) (x:Int):A2 (l.set j x)=A2 l - gI l j+x:=by
 have e1:l.set j x=l.take j++x::l.drop (j+1):=List.set_eq_take_append_cons_drop (l:=l) (i:=j) (a:=x) |>.trans (by rw [if_pos hj])
 have e2:l=l.take j++gI l j::l.drop (j+1):=by
  have:gI l j=l[j]:=by simp [gI,hj]
  rw [this,←D9h hj,D9r]
 have c1:∀ (y:Int) (r:List Int),A2 (y::r)=y+A2 r:=fun y r=>by
  have:=G2 [y] r
  rw [D9E] at this
  rw [this];simp [A2]
 have h2:A2 l=A2 (l.take j)+(gI l j+A2 (l.drop (j+1))):=by
  conv=>lhs;rw [e2]
  rw [G2,c1]
 rw [e1,G2,c1,h2];omega
theorem B8o {qs:List Int} {R:List QE} (h:∀ e∈R,e.2.toNat<qs.length):A2 (T4 qs R)=A2 qs+R.length:=by
 unfold T4
 induction R generalizing qs with
 | nil=>simp
 | cons e R ih =>
  simp only [D8o,D7N]
  have he:=h e (D7G ..)
  rw [ih (fun x hx=>by rw [D8p];exact h x (D7E _ hx)),B7S he]
  omega
theorem U3 {total:Int} {ws:List Int} (h:S3 total ws):A2 (D1 total ws)=total∧(D1 total ws).length=ws.length∧∀ x∈D1 total ws,0≤x:=by
 unfold D1
 split
 ·rename_i h0
  have ht:=h.none h0
  refine ⟨?_,by simp,fun x hx=>?_⟩
  ·rw [ht]
   have:∀ l:List Int,A2 (l.map fun _=>(0:Int))=0:=fun l=>by
    induction l with
    | nil=>rfl
    | cons x l ih =>
     have:=G2 [(0:Int)] (l.map fun _=>(0:Int))
     rw [D9E] at this
     rw [D8k,this,ih];rfl
   exact this ws
  ·obtain ⟨_,_,rfl⟩:=D7y.1 hx;exact D7L _
 ·rename_i h0
  have hS:0<A2 ws:=by have:=C1 h.w0;omega
  obtain ⟨l0,l1⟩:=A3G h hS
  have hR:=A7k total (A2 ws) ws
  have hmem:∀ e∈(shR total (A2 ws) ws).take (G6 total (A2 ws) ws ws.length).toNat,e.2.toNat<((List.range ws.length).map (shQ total (A2 ws) ws)).length:=fun e he=>by
   rw [D7i,D7F];exact (B1k (D8e _ _ he)).2
  refine ⟨?_,by rw [A2s];simp,fun x hx=>?_⟩
  ·rw [B8o hmem,D7n]
   unfold G6 at *
   omega
  ·obtain ⟨k,hk,rfl⟩:=D2 hx
   rw [A2s,D7i,D7F] at hk
   have hb:=(A5m ((List.range ws.length).map (shQ total (A2 ws) ws)) ((shR total (A2 ws) ws).take (G6 total (A2 ws) ws ws.length).toNat) k).1
   have hq:=(A4P h hS hk).1
   rw [N3 _ hk] at hb
   show 0≤gI _ k
   omega
theorem A8e {l:List Int} {f:Int→Int} (h:∀ x∈l,0≤f x∧f x≤x):A2 (l.map f)≤A2 l∧∀ y∈l.map f,0≤y:=by
 have c1:∀ (y:Int) (r:List Int),A2 (y::r)=y+A2 r:=fun y r=>by
  have:=G2 [y] r
  rw [D9E] at this
  rw [this];simp [A2]
 refine ⟨?_,fun y hy=>by obtain ⟨x,hx,rfl⟩:=D7y.1 hy;exact (h x hx).1⟩
 induction l with
 | nil=>exact D7L _
 | cons x l ih =>
  rw [D8k,c1,c1]
  have:=ih (fun y hy=>h y (D7E _ hy))
  have:=(h x (D7G ..)).2
  omega
structure A5X (p:B1):Prop where
 fit:R5 p
 right:I0 p=true
 kind:p.kind=1∨p.kind=2∨p.kind=5∨p.kind=6
 tiers:p.kind=5∨p.kind=6→A8p p.tiers
 amount:p.kind=2→0≤p.amount∧p.amount≤10000000000000
theorem A5w {p:B1} (hp:A5X p) {nets:List Int} (h0:∀ x∈nets,0≤x) (hs:A2 nets≤10000000000000) (hl:nets.length≤100000) :
  A2 (P6 p nets)≤A2 nets∧(P6 p nets).length≤nets.length∧∀ y∈P6 p nets,0≤y:=by
 have hn:=C1 h0
 rcases hp.kind with e | e | e | e
 ·have:P6 p nets=B6V p nets:=by unfold P6;rw [if_pos e]
  rw [this]
  have h:=A8e (l:=nets) (f:=fun x=>R1 x p.rate 0) (fun x hx=>A0E (h0 x hx) (by omega))
  exact ⟨h.1,by simp [B6V],h.2⟩
 ·have:P6 p nets=B6U p nets:=by unfold P6;rw [if_neg (by omega),if_pos e]
  rw [this]
  have h:=A8e (l:=nets) (f:=fun x=>R1 x 0 p.amount) (fun x hx=>A0E (h0 x hx) (hp.amount e).1)
  exact ⟨h.1,by simp [B6U],h.2⟩
 ·have:P6 p nets=A5O p nets:=by unfold P6;rw [if_neg (by omega),if_neg (by omega),if_pos e]
  rw [this]
  have hok:=A0G (hp.tiers (.inl e)) (A2 nets)
  unfold A5O
  split
  ·exact ⟨hn,by simp,fun y hy=>by cases hy⟩
  ·rename_i t hr
   rw [hr] at hok
   have hob:0≤R1 (A2 nets) t.rate t.amount∧R1 (A2 nets) t.rate t.amount≤A2 nets:=A0E hn hok.1
   have hW:S3 (R1 (A2 nets) t.rate t.amount) nets:=⟨hob.1,by omega,hl,h0,by omega,fun e=>by omega⟩
   obtain ⟨a,b,c⟩:=U3 hW
   exact ⟨by rw [a];exact hob.2,by omega,c⟩
 ·have:P6 p nets=A5N p nets:=by unfold P6;rw [if_neg (by omega),if_neg (by omega),if_neg (by omega)]
  rw [this]
  have hok:=A0G (hp.tiers (.inr e)) nets.length
  unfold A5N
  split
  ·exact ⟨hn,by simp,fun y hy=>by cases hy⟩
  ·rename_i t hr
   rw [hr] at hok
   have h:=A8e (l:=nets) (f:=fun x=>R1 x t.rate t.amount) (fun x hx=>A0E (h0 x hx) hok.1)
   exact ⟨h.1,by simp,h.2⟩
abbrev A2t (p:B1):List AV:=[eS p.id,eI p.kind,eI p.prio,eS p.group,eS p.code,eB p.closes,D5 p.scope.skus,D5 p.scope.cats,eI p.least,eI p.rate,eI p.amount,eI p.buy,eI p.get,A8 3 A1L p.parts,A8 3 Z6 p.tiers]
structure C6p (st1:St) (p:B1) (bc:Nat) (nets:List Int) (i:Nat) (svN:AV) (st':St):Prop where
 sup:F8 st1 st'
 new:st1 bc=none
 var:∃ f,st' bc=some ⟨355,16,1,f⟩∧f 0=.agg (A2t p++[svN])
 nets:(i=0∧svN=.emp)∨(0<i∧∃ bn g,bn≠bc∧st1 bn=none∧svN=.own 1 bn 0 i∧st' bn=some ⟨2,1,i,g⟩∧∀ k,k<i→g k=eI (gI nets k))
theorem C6p.shift {st1:St} {p:B1} {bc:Nat} {nets:List Int} {svN:AV} {st':St} (h:C6p st1 p bc nets nets.length svN st'):∃ st'',F8 st1 st''∧A7 [.agg (A2t p++[svN])] st' [B6z p nets] st'':=by
 obtain ⟨h1,h2,h3,⟨h0,rfl⟩ | ⟨h0,bn,g,h4,h5,rfl,h6,h7⟩⟩:=h
 ·refine ⟨st',h1,A7.agg (A7.last (v':=A9 nets) ?_ (A2t p))⟩
  have:A9 nets=.arr 1 0 (fun k=>eI (gI nets k)):=by unfold A9 A8;rw [h0]
  rw [this]
  exact I5 1 _
 ·refine ⟨del st' bn,h1.del h5,A7.agg (A7.last (v':=A9 nets) ?_ (A2t p))⟩
  exact P1 h6 rfl (D7l _) h7
theorem C0S {us:List B3} {mine:List Int} (hu:E5 us) (hm:O4 us mine):∀ k,k≤mine.length→∀ B,B≤us.length→(∀ i,i<k→(gI mine i).toNat<B)→A2 ((E7 us mine).take k)≤A2 ((D9 us).take B)
 | 0,_,B,_,_=>by
  rw [D8B]
  exact C1 (fun x hx=>hu.nets0 x (D8e _ _ hx))
 | k+1,hk,B,hB,h=>by
  have hj:=h k (by omega)
  have ih:=C0S hu hm k (by omega) (gI mine k).toNat (by omega) (fun i hi=>by
   have h1:=hm.lt i k hi (by omega)
   have h2:=(hm.rng i (by omega)).1
   omega)
  have e1:=K4 (l:=E7 us mine) (i:=k) (by unfold E7;rw [D7i];omega)
  have e2:gI (E7 us mine) k=(gU us (gI mine k).toNat).net:=D4 (fun i:Int=>(gU us i.toNat).net) mine (by omega)
  have e3:=K4 (l:=D9 us) (i:=(gI mine k).toNat) (by rw [D7i];omega)
  have e4:gI (D9 us) (gI mine k).toNat=(gU us (gI mine k).toNat).net:=D4 B3.net us (by omega)
  have e5:=G2 (((D9 us).take B).take ((gI mine k).toNat+1)) (((D9 us).take B).drop ((gI mine k).toNat+1))
  rw [D9r,List.take_take,E0j (by omega)] at e5
  have e6:=C1 (l:=((D9 us).take B).drop ((gI mine k).toNat+1)) (fun x hx=>hu.nets0 x (D8e _ _ (List.drop_subset _ _ hx)))
  omega
def kf (p:B1):FuncId:=if p.kind=1 then 298 else if p.kind=2 then 299 else if p.kind=5 then 300 else 301
theorem D4z {p:B1} (hp:A5X p) (nets:List Int) (hl:nets.length≤100000) (h0:∀ x∈nets,0≤x) (hs:A2 nets≤10000000000000) (st:St):S P (kf p) [B6z p nets] st fun v st'=>v=A9 (P6 p nets)∧st'=st:=by
 unfold kf P6
 rcases hp.kind with e | e | e | e
 ·rw [if_pos e,if_pos e];exact C2d p nets hl st
 ·rw [if_neg (by omega),if_pos e,if_neg (by omega),if_pos e];exact C3C p nets (hp.amount e).1 (hp.amount e).2 hl st
 ·rw [if_neg (by omega),if_neg (by omega),if_pos e,if_neg (by omega),if_neg (by omega),if_pos e];exact C7W p nets (hp.tiers (.inl e)) hl h0 hs st
 ·rw [if_neg (by omega),if_neg (by omega),if_neg (by omega),if_neg (by omega),if_neg (by omega),if_neg (by omega)];exact C6B p nets (hp.tiers (.inr e)) hl st
theorem C0t {p:B1} (hp:A5X p) (K:AV→Prop) (h:K (.fn (.func (kf p)) [] [])):C4h [.nilf,.fn (.func 298) [] [],.fn (.func 299) [] [],.nilf,.nilf,.fn (.func 300) [] [],.fn (.func 301) [] []] (0+p.kind.toNat * 1) K:=by
 unfold kf at h
 rcases hp.kind with e | e | e | e
 ·rw [if_pos e] at h;rw [e];exact h
 ·rw [if_neg (by omega),if_pos e] at h;rw [e];exact h
 ·rw [if_neg (by omega),if_neg (by omega),if_pos e] at h;rw [e];exact h
 ·rw [if_neg (by omega),if_neg (by omega),if_neg (by omega)] at h;rw [e];exact h
theorem C6y (p:B1) (us:List B3) (mine:List Int) (hp:A5X p) (hu:E5 us) (hm:O4 us mine) (st:St) :
  S P 272 [B8 p,C4 us,A9 mine] st fun v st'=>v=.tuple [C4 (A0p p us mine).1,eI (A0p p us mine).2]∧st'=st:=by
 refine S.post (post:=fun v st'=>∃ sv,v=.tuple [sv,eI (A0p p us mine).2]∧A5S st (A0p p us mine).1 sv st') ?_
  (fun v st' ⟨sv,hv,hr⟩=>⟨_,st,⟨rfl,rfl⟩,by rw [hv];exact A7.tuple (A7.cons hr.shift (A7.keep _ _)) rfl⟩)
 have hul:=hu.len
 have hml:=hm.len
 have hnl:(E7 us mine).length=mine.length:=D7i ..
 have hn0:∀ x∈E7 us mine,0≤x:=fun x hx=>by
  obtain ⟨i,hi,rfl⟩:=D7y.1 hx
  obtain ⟨k,hk,rfl⟩:=D2 hi
  exact hu.pos _ (A5 (hm.rng k hk).2)
 have hns:A2 (E7 us mine)≤10000000000000:=by
  have:=C0S hu hm mine.length (D7l _) us.length (D7l _) (fun i hi=>(hm.rng i hi).2)
  rw [←hnl,D7m,show (D9 us).take us.length=D9 us from by rw [←D7i (f:=B3.net),D7m]] at this
  have:=hu.sum
  omega
 obtain ⟨ob1,ob2,ob3⟩:=A5w hp hn0 hns (by omega)
 refine F7 [3,8] Tryz.func272 ?_
 refine call (B1C us hul st) (fun sv st1 hcol=>?_)
 have hres:=A5S.ofCol hcol
 conv=>whnf
 refine B2 (B1h p hp.fit _) ?_
 rw [hp.right];conv=>whnf
 refine B7 (fun h1=>?_) (fun h1=>?_)<;>rw [h1]<;>simp only [D7d,D7e] at h1
 ·exact absurd h1 (by rcases hp.kind with e | e | e | e<;>omega)
 conv=>whnf
 refine ⟨⟨by rcases hp.kind with e | e | e | e<;>omega,by rcases hp.kind with e | e | e | e<;>(rw [e];decide)⟩,?_⟩;conv=>whnf
 refine C0t hp _ ?_;conv=>whnf
 refine I3 (B1G us mine hu hm _) ?_
 intro bc hbc;conv=>whnf
 refine stW (A0 ..) rfl ?_
 have hc0:C6p st1 p bc (E7 us mine) 0 .emp (upd (upd st1 bc ⟨355,16,1,fun _=>I1 C7D.zero⟩) bc ⟨355,16,1,I6 (fun _=>I1 C7D.zero) 0 (.agg (A2t p++[.emp]))⟩) :=
  ⟨((F8.refl st1).upd hbc).over hbc,hbc,⟨_,A0 ..,A6 ..⟩,.inl ⟨rfl,rfl⟩⟩
 refine ⟨[1,2,3,8,9,10,43,44,45],fun m vs st'=>∃ (i:Nat) (svN:AV),i≤mine.length∧m=mine.length - i∧vs=[C4 us,A9 mine,.fptr (B8 p) 0,.fptr (.agg [.nilf,.fn (.func 298) [] [],.fn (.func 299) [] [],.nilf,.nilf,.fn (.func 300) [] [],.fn (.func 301) [] []]) 0,sv,.optr 16 bc 0 0,A9 mine,eI mine.length,eI i]∧C6p st1 p bc (E7 us mine) i svN st',?_,?_⟩
 ·conv=>whnf
  exact ⟨_,0,.emp,D7C _,rfl,rfl,hc0⟩
 ·clear hc0
  rintro m vs st' ⟨i,svN,hi,rfl,rfl,hcuts⟩
  obtain ⟨fc,hvc,hfc⟩:=hcuts.var
  conv=>whnf
  cases h:decide ((i:Int)<(mine.length:Int))
  ·have:=D7g h
   obtain rfl:i=mine.length:=by omega
   rw [←hnl] at hcuts
   obtain ⟨st2,hs2,hsh⟩:=hcuts.shift
   conv=>whnf
   refine ⟨[5],[],[0,1,2,3,4,7,5,6],by kernel_rfl,?_⟩;conv=>whnf
   refine ⟨⟨by rcases hp.kind with e | e | e | e<;>omega,by rcases hp.kind with e | e | e | e<;>(rw [e];decide)⟩,?_⟩;conv=>whnf
   refine C0t hp _ ?_;conv=>whnf
   refine L1 hvc hfc ?_
   refine E2 hsh (B2 (D4z hp (E7 us mine) (by omega) hn0 hns _) ?_);conv=>whnf
   generalize ho:P6 p (E7 us mine)=offs at *
   have hol:offs.length≤mine.length:=by omega
   have hsum0:∀ k,0≤A2 (offs.take k)∧A2 (offs.take k)≤10000000000000:=fun k=>by
    have h1:=N5 ob3 k
    have h2:=C1 (l:=offs.take k) (fun x hx=>ob3 x (D8e _ _ hx))
    omega
   refine ⟨[2,3,9,13,65,66,67],fun m vs st'=>∃ k:Nat,k≤offs.length∧m=offs.length - k∧vs=[A9 mine,.fptr (B8 p) 0,sv,eI (A2 (offs.take k)),A9 offs,eI offs.length,eI k]∧F8 st st' ∧
    ((us=[]∧sv=.emp)∨∃ b,st b=none∧sv=.own 3 b 0 us.length∧A5Z st' b (D0 us mine offs k)),?_,?_⟩
   ·conv=>whnf
    refine ⟨_,0,D7C _,rfl,rfl,hres.1.trans hs2,?_⟩
    rcases hres.2 with h2 | ⟨b,h3,h4,f,h5,h6⟩
    ·exact .inl h2
    ·exact .inr ⟨b,h3,h4,f,hs2 b _ h5,h6⟩
   ·rintro m vs st' ⟨k,hk,rfl,rfl,hsup,hus⟩
    conv=>whnf
    cases h2:decide ((k:Int)<(offs.length:Int))
    ·have:=D7g h2
     obtain rfl:k=offs.length:=by omega
     rw [D7m];conv=>whnf
     have hA:∀ (b:Bool),(decide (A2 offs>0)&&p.closes)=b→A0p p us mine=(if b=true then closeB (D0 us mine offs offs.length) mine else D0 us mine offs offs.length,A2 offs):=fun b hb=>by
      unfold A0p;rw [ho];simp only [hb]
     have fin:∀ us':List B3,us'.length=us.length→(us=[]∧sv=.emp∨∃ b,st b=none∧sv=.own 3 b 0 us.length∧A5Z st' b us')→A5S st us' sv st':=fun us' hl hh=>by
      refine ⟨hsup,?_⟩
      rcases hh with ⟨h3,h4⟩ | ⟨b,h3,h4,h5⟩
      ·exact .inl ⟨D7O (by rw [hl,h3];rfl),h4⟩
      ·exact .inr ⟨b,h3,by rw [hl];exact h4,h5⟩
     refine B7 (fun h3=>?_) (fun h3=>?_)<;>rw [h3]
     ·conv=>whnf
      refine B7 (fun h4=>?_) (fun h4=>?_)<;>rw [h4]
      ·have hne:offs≠[]:=fun e=>by rw [e] at h3;simp [A2] at h3
       have hml0:0<mine.length:=by have:=List.length_pos_iff.2 hne;omega
       have hu0:=(hm.rng 0 hml0).2
       conv=>whnf
       rcases hus with ⟨rfl,rfl⟩ | ⟨b,hb0,rfl,hHas⟩
       ·exact absurd hu0 (by simp)
       rw [←Q3 us mine offs offs.length]
       refine call (B4U b (D0 us mine offs offs.length) mine (fun x hx=>by
        obtain ⟨j,hj,rfl⟩:=D2 hx
        rw [Q3];exact hm.rng j hj) (by omega) st' hHas) (fun v st3 hv=>?_)
       obtain ⟨rfl,hH3,hfr⟩:=hv
       conv=>whnf
       refine ⟨_,by rw [hA true (by rw [h3,h4];rfl)];rfl,?_⟩
       rw [hA true (by rw [h3,h4];rfl),if_pos rfl]
       refine ⟨fun c x hc=>?_,.inr ⟨b,hb0,by rw [A2u],hH3⟩⟩
       rw [hfr c (fun e=>by subst e;rw [hb0] at hc;cases hc)];exact hsup c x hc
      ·conv=>whnf
       refine ⟨_,by rw [hA false (by rw [h3,h4];rfl)];rfl,?_⟩
       rw [hA false (by rw [h3,h4];rfl),if_neg (by simp)]
       exact fin _ (Q3 ..) hus
     ·conv=>whnf
      refine ⟨_,by rw [hA false (by rw [h3];rfl)];rfl,?_⟩
      rw [hA false (by rw [h3];rfl),if_neg (by simp)]
      exact fin _ (Q3 ..) hus
    ·have hk':k<offs.length:=by have:=D7h h2;omega
     have hr:=hm.rng k (by omega)
     have hat:=B9K (offs:=offs) hm (show k<mine.length by omega)
     have hlen:=Q3 us mine offs k
     have hnet0:0≤(gU us (gI mine k).toNat).net:=hu.pos _ (A5 hr.2)
     have hnet1:(gU us (gI mine k).toNat).net≤10000000000000:=hu.le (A5 hr.2)
     have hx0:0≤gI offs k:=ob3 _ (A5 hk')
     have hx1:=K4 hk'
     have hb1:=hsum0 k
     have hb2:=hsum0 (k+1)
     have hoff1:gI offs k≤10000000000000:=by omega
     conv=>whnf
     refine E9 ?_
     rcases hus with ⟨rfl,rfl⟩ | ⟨b,hb0,rfl,f,hst,hf⟩
     ·exact absurd hr.2 (by simp)
     refine E9 ?_
     refine ⟨rfl,⟨by show 0≤gI mine k;exact hr.1,by show gI mine k<(us.length:Int);have:=hr.2;have:=hr.1;omega⟩,?_⟩;conv=>whnf
     have hfm:f (0+(gI mine k).toNat)=A0i (gU (D0 us mine offs k) (gI mine k).toNat):=by rw [D7o];exact hf _ (by rw [hlen];exact hr.2)
     refine ldV hst rfl (by show 0+(gI mine k).toNat<_;rw [hlen];have:=hr.2;omega) hfm ?_;conv=>whnf
     refine ⟨rfl,⟨by show 0≤gI mine k;exact hr.1,by show gI mine k<(us.length:Int);have:=hr.2;have:=hr.1;omega⟩,?_⟩;conv=>whnf
     refine stV hst rfl (by show 0+(gI mine k).toNat<_;rw [hlen];have:=hr.2;omega) hfm (by rfl) ?_;conv=>whnf
     refine G3 ?_
     refine ⟨offs.length - (k+1),by omega,k+1,by omega,rfl,?_,hsup.over hb0,.inr ⟨b,hb0,rfl,?_⟩⟩
     ·rw [B4 (by omega),hx1]
      have:IntKind.i64.wrap (A2 (offs.take k)+gI offs k)=A2 (offs.take k)+gI offs k:=A4 (by omega) (by omega)
      rw [←this];rfl
     ·refine A5Z.set hf (by rw [hlen];exact hr.2) _ ?_
      rw [A0,D7o]
      have w:IntKind.i64.wrap ((gU (D0 us mine offs k) (gI mine k).toNat).net - gI offs k)=(gU (D0 us mine offs k) (gI mine k).toNat).net - gI offs k:=by
       rw [hat];exact A4 (by omega) (by omega)
      rw [←w];rfl
  ·have hi':i<mine.length:=by have:=D7h h;omega
   have hr:=hm.rng i hi'
   have hgn:gI (E7 us mine) i=(gU us (gI mine i).toNat).net:=D4 (fun i:Int=>(gU us i.toNat).net) mine hi'
   conv=>whnf
   refine E9 ?_
   refine ⟨[8,10],[],[0,1,2,3,4,5,6,7,8,9,10],by kernel_rfl,?_⟩;conv=>whnf
   obtain ⟨c1,c2,c3,⟨rfl,rfl⟩ | ⟨hpos,bn,g,hbn,hb1,rfl,hst,hg⟩⟩:=hcuts
   ·refine L1 hvc hfc ?_
    refine ⟨rfl,⟨by show 0≤gI mine 0;exact hr.1,by show gI mine 0<(us.length:Int);have:=hr.2;have:=hr.1;omega⟩,?_⟩;conv=>whnf
    refine ⟨_,⟨rfl,rfl⟩,?_⟩;conv=>whnf
    refine apE rfl rfl rfl rfl (A3P ..) (by show 1 * 8≤_;omega) (fun h=>absurd h (by omega)) (fun _ bn hbn=>?_)
    have hne:bn≠bc:=fun e=>by subst e;rw [hvc] at hbn;cases hbn
    have hbn1:st1 bn=none:=c1.none hbn
    conv=>whnf
    refine stW (by rw [B0 hne.symm];exact hvc) hfc ?_
    refine G3 ?_
    refine ⟨mine.length - 1,by omega,1,.own 1 bn 0 1,by omega,rfl,rfl,⟨(c1.over hbn1).over c2,c2,⟨_,A0 ..,by rw [A6];rfl⟩,.inr ⟨by omega,bn,_,hne,hbn1,rfl,by rw [B0 hne,A0];rfl,fun k hk=>?_⟩⟩⟩
    have:k=0:=by omega
    subst this
    rw [hgn];rfl
   ·refine L1 hvc hfc ?_
    refine ⟨rfl,⟨by show 0≤gI mine i;exact hr.1,by show gI mine i<(us.length:Int);have:=hr.2;have:=hr.1;omega⟩,?_⟩;conv=>whnf
    refine ⟨_,⟨rfl,rfl⟩,?_⟩;conv=>whnf
    refine apO (q:=r2) (n:=i) rfl rfl rfl rfl (A3P ..) hst rfl rfl rfl (by show (i+1) * 8≤_;omega) (fun h=>absurd h (by omega)) (fun _ b' hb'=>?_)
    have hne:b'≠bc:=fun e=>by
     subst e
     rcases hb' with e | e
     ·exact hbn e.symm
     ·rw [hvc] at e;cases e
    have hb1':st1 b'=none:=by
     rcases hb' with rfl | e
     ·exact hb1
     ·exact c1.none e
    conv=>whnf
    refine stW (by rw [B0 hne.symm];unfold del;rw [if_neg hbn.symm];exact hvc) hfc ?_
    refine G3 ?_
    refine ⟨mine.length - (i+1),by omega,i+1,.own 1 b' 0 (i+1),by omega,rfl,by rw [B4 (by omega)],⟨((c1.del hb1).over hb1').over c2,c2,⟨_,A0 ..,by rw [A6];rfl⟩,.inr ⟨by omega,b',_,hne,hb1',rfl,by rw [B0 hne,A0];rfl,fun k hk=>?_⟩⟩⟩
    by_cases hki:k<i
    ·simp only [hki,if_true];exact hg k hki
    ·have:k=i:=by omega
     subst this
     simp only [hki,D9L,Nat.sub_self]
     rw [hgn];rfl
end Go.Proofs.YtaapofnkmpiknaaGreat
