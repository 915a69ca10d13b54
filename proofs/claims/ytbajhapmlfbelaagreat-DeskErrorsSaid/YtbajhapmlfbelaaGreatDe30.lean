/- Part 30 of the proof: the law, for every input, and its row -/
import Derived.Test.YtbajhapmlfbelaaGreatDe29
import Derived.ChangeSlices
import Derived.ChangeArms
import Derived.Test.YtbajhapmlfbelaaGreatRows
import Derived.ProofKit
import Derived.JoinedOf
import Derived.KernelRfl
import Derived.WalkKit
import Derived.OpenShut
import Derived.ShutString
import Derived.ChangeOld
import Derived.Below
import Derived.SizedLaws
set_option maxRecDepth 100000
set_option linter.unusedVariables false
set_option linter.unusedSimpArgs false
namespace Go.Proofs.YtbajhapmlfbelaaGreat
open Go Go.Ab
attribute [local irreducible] upd del
theorem B4r {p:B2} (h:A0I p):O0 p :=
 ⟨⟨Nat.le_trans h.scope.n1 (by decide),Nat.le_trans h.scope.n2 (by decide)⟩,⟨Nat.le_trans h.parts (by decide),fun x hx=>⟨Nat.le_trans (h.part x hx).n1 (by decide),Nat.le_trans (h.part x hx).n2 (by decide)⟩⟩⟩
structure B6H (R:F9) (C:List E0) (L:List F5):Prop where
 fit:V6 R
 sm:A0l R
 promos:R.promos.length≤39
 codes:Sm C.length
 scodes:∀ s∈C,Sm s.size
 lines:L.length≤1000
theorem C6M {r:F9} {codes:List E0} {l:List F5} (h:A0l r) (hf:B5A r=true) (hc:Sm codes.length) (hs:∀ s∈codes,Sm s.size) (hl:l.length≤1000):B6H r codes l:=by
 unfold B5A at hf
 simp only [Bool.and_eq_true,decide_eq_true_eq] at hf
 obtain ⟨⟨⟨⟨h1,h2⟩,h3⟩,h4⟩,h5⟩:=hf
 exact ⟨⟨by show r.promos.length≤9223372036854775807;omega,fun p hp=>B4r (h.promos p hp),by omega,by omega⟩,h,by omega,hc,hs,hl⟩
theorem A9O {R:F9} {C:List E0} {L:List F5} (hck:D4 R C L=0):J0 R=true:=by
 unfold D4 at hck
 cases h:J0 R
 ·rw [if_pos h] at hck;cases hck
 ·rfl
theorem B6H.both {R:F9} {C:List E0} {L:List F5} (h:B6H R C L):∃ (X:A4v) (e:Int),e=D4 R C L∧(e=0→X=A6l R C L)∧X.nets.length≤1000∧X.deals.length≤78 ∧
  (∀ s,S P 18 [I8 R,D6 C,B1 3 F7 L] s fun v s'=>v=.tuple [X1 X,eI e]∧s'=s) ∧
  (∀ s,S P 19 [I8 R,D6 C,B1 3 F7 L] s fun v s'=>v=.tuple [X1 X,eI e]∧s'=s):=by
 have hp:=h.promos
 have hsn:=h.sm.n
 have hcn:=h.codes
 have hL:=h.lines
 have a1:=fun s=>price_S B4Q R C L h.fit (by show C.length≤9223372036854775807;omega) hsn (by have:=P3 R.promos C R.promos.length;omega) s
 have a2:=fun s=>B4w R C L h.fit h.sm (by omega) hcn h.scodes (by show L.length≤9223372036854775807;omega) s
 by_cases hck:D4 R C L=0
 ·have hR:=A9O hck
  have hC:promosC R.promos=true:=by
   unfold J0 at hR
   simp only [Bool.and_eq_true] at hR
   exact hR.1.1.1.2
  obtain ⟨xs,ys,hl⟩:=B1u h.fit hck
  refine ⟨A6l R C L,0,hck.symm,fun _=>rfl,?_,?_,fun s=>(a1 s).mono fun v s' ⟨hv,hs⟩=>⟨?_,hs⟩,fun s=>(a2 s).mono fun v s' ⟨hv,hs⟩=>⟨?_,hs⟩⟩
  ·show (S1 _ _ _ _).nets.length≤_
   rw [hl.len];exact hL
  ·show (S1 _ _ _ _).deals.length≤_
   rw [hl.deals,List.length_map,List.length_append]
   have h1:=hl.sx.length_le
   have h2:=hl.sy.length_le
   rw [List.length_map,(W5 R.promos C).length_eq] at h1 h2
   have:=P3 R.promos C R.promos.length
   omega
  ·rcases hv with ⟨h1,_⟩ | ⟨_,o1,o2,h1,h2,h3⟩
   ·exact absurd hck h1
   ·rw [A4U hC h1,A4U hC h2] at h3;exact h3
  ·rw [if_pos hck] at hv;exact hv
 ·refine ⟨⟨[],0,0,[]⟩,D4 R C L,rfl,fun e=>absurd e hck,Nat.zero_le _,Nat.zero_le _,fun s=>(a1 s).mono fun v s' ⟨hv,hs⟩=>⟨?_,hs⟩,fun s=>(a2 s).mono fun v s' ⟨hv,hs⟩=>⟨?_,hs⟩⟩
  ·rcases hv with ⟨_,h1⟩ | ⟨h1,_⟩
   ·exact h1
   ·exact absurd h1 hck
  ·rw [if_neg hck] at hv;exact hv
set_option maxHeartbeats 4000000 in
theorem B2g (r:F9) (codes:List E0) (near i:Int) (x:F5) (hr:A0l r) (hcn:Sm codes.length) (hcs:∀ s∈codes,Sm s.size) (st:St) :
  S P 4 [I8 r,D6 codes,eI near,eI i,F7 x] st fun v st'=>v=.bool true:=by
 have cR:=fun s=>B4n r s
 have cC:=fun s=>B4i codes s
 have hOk:=C4x r codes []
 have hord:(U0 r).policy.order.length≤100000∧(U0 r).policy.credit.length≤100000:=by
  have h1:=(R6 r.policy.order).2
  have h2:=(R6 r.policy.credit).2
  exact ⟨by show (K0 _).length≤_;omega,by show (K0 _).length≤_;omega⟩
 have fw:=fun s=>C5m r s
 have raw:∀ {R C},B5A r=true→(R=r∨R=U0 r)→(C=codes∨C=W7 codes)→B6H R C []∧(J0 R=true→A4w R):=by
  intro R C hf h1 h2
  have hf1:=hf
  unfold B5A at hf1
  simp only [Bool.and_eq_true,decide_eq_true_eq] at hf1
  obtain ⟨⟨⟨⟨k1,k2⟩,k3⟩,k4⟩,k5⟩:=hf1
  have q2:Sm C.length∧∀ s∈C,Sm s.size:=by
   rcases h2 with rfl | rfl
   ·exact ⟨hcn,hcs⟩
   ·exact ⟨by have:=hOk.ncodes;show (W7 codes).length≤9223372036854775807;omega,fun s hs=>by have:=hOk.scodes s hs;show s.size≤9223372036854775807;omega⟩
  rcases h1 with rfl | rfl
  ·exact ⟨C6M hr hf q2.1 q2.2 (Nat.zero_le _),fun h=>A8l h (by omega) (by omega)⟩
  ·exact ⟨⟨hOk.fit,hOk.sm,by have:=hOk.few;omega,q2.1,q2.2,Nat.zero_le _⟩,fun h=>A8l h hord.1 hord.2⟩
 clear hOk hord
 generalize U0 r=R1 at cR raw
 generalize W7 codes=C1 at cC raw
 generalize B5A r=FW at fw raw
 refine A7 [9] C0 mixed Tryz.func4 (by rfl) rfl rfl rfl ?_;conv=>whnf
 intro b5 hb5;conv=>whnf
 refine E9 (A0 ..) rfl (by omega) rfl ?_;conv=>whnf
 refine B3 (fw _) ?_;conv=>whnf
 cases FW
 case' true =>
  conv=>whnf
  refine C4 (fun h2=>?_) (fun h2=>?_)<;>rw [h2]
 case' false | true.refine_1 =>
  conv=>whnf
  refine B3 (B1c _) ?_;conv=>whnf
  exact rfl
 conv=>whnf
 refine C4 (fun g1=>?_) (fun g1=>?_)<;>rw [g1]
 case' refine_1 =>
  conv=>whnf
  refine E9 (A0 ..) rfl (by omega) rfl ?_;conv=>whnf
  refine B3 (cR _) ?_;conv=>whnf
  refine J7 (A0 ..) rfl (by omega) rfl (by rfl) ?_
  rw [B8]
  have hR2:R1=r∨R1=R1:=.inr rfl
 case' refine_2 =>
  have hR2:r=r∨r=R1:=.inl rfl
 all_goals
  conv=>whnf
  refine C4 (fun g2=>?_) (fun g2=>?_)<;>rw [g2]
 case' refine_1.refine_1 | refine_2.refine_1 =>
  conv=>whnf
  refine B3 (cC _) ?_
  have hC2:C1=codes∨C1=C1:=.inr rfl
 case' refine_1.refine_2 | refine_2.refine_2 =>
  have hC2:codes=codes∨codes=C1:=.inl rfl
 all_goals
  obtain ⟨hraw,hfew⟩:=raw rfl hR2 hC2
  obtain ⟨X,e,he,-,x1,x2,p1,p2⟩:=hraw.both
  have hrc:=hraw.codes
  have hrp:=hraw.promos
  have hnew:=fun u=>B1i B4Q _ _ hraw.fit (Nat.le_trans hrc (by decide)) (Nat.le_trans (P3 _ _ _) hrp) hfew u
  conv=>whnf
  generalize hst:(upd st b5 _:St)=S0
  obtain ⟨f3,at3,hf3⟩:∃ f3:Nat→AV,S0 b5=some ⟨33,14,1,f3⟩∧f3 0=_:=by
   rw [←hst];exact ⟨_,A0 ..,by first | rfl | (rw [A5];rfl)⟩
  clear hst
  refine E9 at3 rfl (by omega) hf3 ?_;conv=>whnf
  refine call (hnew S0) (fun v u hv=>?_)
  obtain ⟨dv,rfl,hd⟩:∃ dv,v=.tuple [dv,eI e]∧((dv=.nilp∧e≠0∧F3 S0 u)∨(∃ bd,dv=.optr 19 bd 0 0∧e=0∧F3 S0 u)):=by
   unfold D4 at he
   rcases hv with ⟨h,h1,h2⟩ | ⟨h,h0,h1,h2⟩ | ⟨h,h0,bd,h1,h2⟩
   ·rw [if_pos h] at he
    exact ⟨_,by rw [h1,he],.inl ⟨rfl,by rw [he];decide,by rw [h2];exact F3.refl _⟩⟩
   ·rw [if_neg (by rw [h];simp),if_pos h0] at he
    exact ⟨_,by rw [h1,he],.inl ⟨rfl,by rw [he];decide,by rw [h2];exact F3.refl _⟩⟩
   ·rw [if_neg (by rw [h];simp),if_neg (by rw [h0];simp)] at he
    exact ⟨_,by rw [h1,he];rfl,.inr ⟨bd,rfl,by rw [he];rfl,(A6c ..).sup h2⟩⟩
  clear hv
  rcases hd with ⟨rfl,h0,hS⟩ | ⟨bd,rfl,h0,hS⟩
  all_goals
   have at3u:=hS b5 _ at3
   have hee:(e==e)=true:=beq_self_eq_true e
   first
    | (have hne:(e != 0)=true:=by simpa using h0)
    | (have hne:(e != 0)=false:=by rw [h0];rfl)
   conv=>whnf
   refine E9 at3u rfl (by omega) hf3 ?_;conv=>whnf
   refine B3 ((p2 _).pre (B4.cons (B4.keep [_] _) (B4.cons (B4.keep [_] _) (I6 3 _)))) ?_;conv=>whnf
   intro b13 hb13;conv=>whnf
   refine J7 (A0 ..) rfl (by omega) rfl (by rfl) ?_
   rw [B8];conv=>whnf
   refine B3 (B0H _) ?_;conv=>whnf
   intro b16 hb16;conv=>whnf
   refine J7 (A0 ..) rfl (by omega) rfl (by rfl) ?_
   rw [B8];conv=>whnf
   refine B3 (B1c _) ?_;conv=>whnf
   rw [hee];conv=>whnf
   rw [hne];conv=>whnf
   refine B3 (B5w i x _) ?_;conv=>whnf
   refine B3 (B2h _) ?_;conv=>whnf
   refine E9 (A0 ..) rfl (by omega) (A5 ..) ?_;conv=>whnf
   refine E9 (A0 ..) rfl (by omega) (A5 ..) ?_;conv=>whnf
   refine B3 (B3K _) ?_;conv=>whnf
   exact rfl
end Go.Proofs.YtbajhapmlfbelaaGreat
namespace Go.Ab
open Go Go.ChangeShapes
inductive LK where
 | bool
 | int (k:IntKind)
 | str
 | sl (ks:List LK)
def B0Z (l:List AV):AV:=match l with | [v]=>v | l=>.agg l
inductive Fit:LK→AV→Prop
 | bool (b:Bool):Fit .bool (.bool b)
 | int (k:IntKind) (n:Int) (h:(Lit.int k n).wf=true):Fit (.int k) (.int k n)
 | str (s:ByteArray) (h:s.size≤maxLen):Fit .str (.str s)
 | sl (ks:List LK) (n:Nat) (L:Nat→List AV) (hn:n≤maxLen) (hl:∀ i,i<n→(L i).length=ks.length) (hf:∀ (i j:Nat) (y:AV) (k:LK),i<n→(L i)[j]?=some y→ks[j]?=some k→Fit k y):Fit (.sl ks) (.arr ks.length n fun i=>B0Z (L i))
theorem Fit.one {k:LK} {v:AV} (h:Fit k v):v.one=true:=by cases h<;>rfl
theorem B7K {v:AV} (h:v.one=true):cellsOf v=[v]:=by cases v<;>first | rfl | cases h
theorem B1e {l:List AV} (h:∀ v∈l,v.one=true):cellsOf (B0Z l)=l:=by
 unfold B0Z
 split
 ·exact B7K (h _ (List.mem_singleton.2 rfl))
 ·rfl
theorem B9q (a:Addr) (n m:Nat):a.add (n+m)=(a.add n).add m:=by
 unfold Addr.add
 by_cases h:n=0
 ·subst h;simp
 ·by_cases k:m=0
  ·subst k;simp [h]
  ·simp [h,k,Nat.add_assoc]
def A8F (P:Program) (r:TypeId→Option (List LK)):List Field→Nat→Option (List LK)
 | [],_=>some []
 | f::fs,o=>match Nat.beq f.offset o,r f.type with
  | true,some ks=>(match Nat.beq (P.cellsOf f.type) ks.length,A8F P r fs (o+ks.length) with
   | true,some l=>some (ks++l)
   | _,_=>none)
  | _,_=>none
def A5u (P:Program):Nat→TypeId→Option (List LK)
 | 0,_=>none
 | n+1,t=>match P.underlying t with
  | some .bool=>some [.bool]
  | some (.int k)=>some [.int k]
  | some .string=>some [.str]
  | some (.slice e)=>(match A5u P n e with
   | some ks=>(match Nat.beq (P.cellsOf e) ks.length with | true=>some [.sl ks] | false=>none)
   | none=>none)
  | some (.struct fs)=>(match A8F P (A5u P n) fs.toList 0 with
   | some ks=>(match Nat.beq (P.cellsOf t) ks.length with | true=>some ks | false=>none)
   | none=>none)
  | _=>none
structure FitL (w:World) (ks:List LK) (l:List AV) (cs:List Value):Prop where
 len:l.length=ks.length
 clen:cs.length=ks.length
 fit:∀ (j:Nat) (y:AV) (k:LK),l[j]?=some y→ks[j]?=some k→Fit k y
 rep:∀ (j:Nat) (y:AV) (c:Value),l[j]?=some y→cs[j]?=some c→I9 w st0 y c
theorem FitL.one {w:World} {ks:List LK} {l:List AV} {cs:List Value} (h:FitL w ks l cs):∀ v∈l,v.one=true:=fun v hv=>by
 obtain ⟨j,hj,rfl⟩:=List.getElem_of_mem hv
 exact (h.fit j _ (ks[j]'(by rw [←h.len];exact hj)) (List.getElem?_eq_getElem hj) (List.getElem?_eq_getElem (by rw [←h.len];exact hj))).one
theorem FitL.nil (w:World):FitL w [] [] []:=⟨rfl,rfl,fun j y k h=>by simp at h,fun j y c h=>by simp at h⟩
theorem FitL.app {w:World} {ks ks':List LK} {l l':List AV} {cs cs':List Value} (h:FitL w ks l cs) (h':FitL w ks' l' cs'):FitL w (ks++ks') (l++l') (cs++cs'):=by
 have h1:=h.len;have h2:=h.clen;have h3:=h'.len;have h4:=h'.clen
 refine ⟨by simp [h1,h3],by simp [h2,h4],fun j y k hy hk=>?_,fun j y c hy hc=>?_⟩
 ·by_cases hj:j<l.length
  ·rw [List.getElem?_append_left hj] at hy;rw [List.getElem?_append_left (by omega)] at hk;exact h.fit j y k hy hk
  ·rw [List.getElem?_append_right (by omega)] at hy;rw [List.getElem?_append_right (by omega)] at hk
   rw [show j - l.length=j - ks.length by omega] at hy;exact h'.fit _ y k hy hk
 ·by_cases hj:j<l.length
  ·rw [List.getElem?_append_left hj] at hy;rw [List.getElem?_append_left (by omega)] at hc;exact h.rep j y c hy hc
  ·rw [List.getElem?_append_right (by omega)] at hy;rw [List.getElem?_append_right (by omega)] at hc
   rw [show j - l.length=j - cs.length by omega] at hy;exact h'.rep _ y c hy hc
theorem FitL.single {w:World} {k:LK} {v:AV} {c:Value} (h:Fit k v) (hr:I9 w st0 v c):FitL w [k] [v] [c] :=
 ⟨rfl,rfl,fun j y k' hy hk=>by cases j<;>simp at hy hk;subst hy;subst hk;exact h,fun j y c' hy hc=>by cases j<;>simp at hy hc;subst hy;subst hc;exact hr⟩
section
variable {H:Type} {enc:TypeId×Value→H} {P:Program} {w:World} {base:Nat} {spare:Nat→Bool} {held:Bool}
theorem A8h {n m:Nat} (ih:∀ (t:TypeId) (ks:List LK) (cs:List Value) (x:DataW H×List MemPlace),A5u P n t=some ks→DataW.trod enc P w base spare held m t cs=some x→∃ l,FitL w ks l cs) {cs:List Value} :
  ∀ (fs:List Field) (o:Nat) (ks:List LK),A8F P (A5u P n) fs o=some ks→(∀ f∈fs,∃ x,DataW.trod enc P w base spare held m f.type ((cs.drop f.offset).take (P.cellsOf f.type))=some x)→∃ l,FitL w ks l ((cs.drop o).take ks.length)
 | [],o,ks,h,_=>by cases h;exact ⟨[],by simpa using FitL.nil w⟩
 | f::fs,o,ks,h,hx=>by
  unfold A8F at h
  split at h
  ·rename_i k1 ho hk1
   split at h
   ·rename_i k2 hc hk2
    cases h
    have ho:=Nat.eq_of_beq_eq_true ho
    have hc:=Nat.eq_of_beq_eq_true hc
    obtain ⟨x,h1⟩:=hx f (List.mem_cons_self ..)
    rw [ho,hc] at h1
    obtain ⟨l1,g1⟩:=ih f.type k1 _ x hk1 h1
    obtain ⟨l2,g2⟩:=A8h ih fs (o+k1.length) k2 hk2 fun f' hf=>hx f' (List.mem_cons_of_mem _ hf)
    refine ⟨l1++l2,?_⟩
    have e:(cs.drop o).take (k1++k2).length=(cs.drop o).take k1.length++(cs.drop (o+k1.length)).take k2.length:=by
     rw [List.length_append,List.take_add,List.drop_drop]
    rw [e];exact g1.app g2
   ·cases h
  ·cases h
theorem open_kinds:∀ (n m:Nat) (t:TypeId) (ks:List LK) (cs:List Value) (x:DataW H×List MemPlace),A5u P n t=some ks→DataW.trod enc P w base spare held m t cs=some x→∃ l,FitL w ks l cs
 | 0,m,t,ks,cs,x,h,_=>by cases h
 | n+1,m,t,ks,cs,x,h,hx=>by
  unfold A5u at h
  split at h
  ·rename_i ht;cases h;obtain ⟨b,rfl,_⟩:=DataW.trod_bool ht hx;exact ⟨[.bool b],.single (.bool b) (.bool b)⟩
  ·rename_i k ht;cases h;obtain ⟨i,rfl,_,hw⟩:=DataW.trod_int ht hx;exact ⟨[.int k i],.single (.int k i hw) (.int k i)⟩
  ·rename_i ht;cases h;obtain ⟨s,rfl,_,hs⟩:=DataW.trod_string ht hx;exact ⟨[.str s],.single (.str s hs) (.str s)⟩
  ·rename_i e ht
   split at h
   case h_2=>cases h
   rename_i ks' hk
   split at h
   case h_2=>cases h
   rename_i hb
   cases h
   have hb:=Nat.eq_of_beq_eq_true hb
   rcases DataW.trod_slice ht hx with ⟨rfl,_⟩ | ⟨a,len,cap,elems,rest,m',rfl,rfl,_,hba,hl,hm,hlen,hel,_,_⟩
   ·exact ⟨[.arr ks'.length 0 (fun _=>B0Z [])],.single (.sl ks' 0 (fun _=>[]) (Nat.zero_le _) (fun i hi=>absurd hi (by omega)) (fun i j y k hi=>absurd hi (by omega))) (.arr _ 0 _ none 0 (fun _ _=>undef) (Nat.le_refl _) (fun h=>absurd h (by omega)) (fun i hi=>absurd hi (by omega)) (fun i hi=>absurd hi (by omega)) (fun a ha=>by cases ha) (fun i j y hi=>absurd hi (by omega)))⟩
   ·have hall:∀ i,∃ p:List AV×List Value,i<len→w.cells? base (a.add (i * P.cellsOf e)) (P.cellsOf e)=some p.2∧FitL w ks' p.1 p.2:=fun i=>by
     by_cases hi:i<len
     ·have h1:=hel i hi
      rw [List.getElem?_eq_getElem (by omega),Option.bind_eq_some_iff] at h1
      obtain ⟨c1,h2,h3⟩:=h1
      obtain ⟨l,h4⟩:=open_kinds n m' e ks' c1 _ hk h3
      exact ⟨(l,c1),fun _=>⟨h2,h4⟩⟩
     ·exact ⟨([],[]),fun h=>absurd h hi⟩
    obtain ⟨p,hp⟩:=Classical.axiomOfChoice hall
    refine ⟨[.arr ks'.length len (fun i=>B0Z (p i).1)],.single (.sl ks' len (fun i=>(p i).1) (by omega) (fun i hi=>(hp i hi).2.len) (fun i j y k hi=>(hp i hi).2.fit j y k)) ?_⟩
    have hc:∀ i,i<len→cellsOf (B0Z (p i).1)=(p i).1:=fun i hi=>B1e (hp i hi).2.one
    refine .arr _ len _ (some a) cap (fun i j=>(p i).2.getD j undef) hl (fun _=>⟨a,rfl⟩) (fun i hi=>by rw [hc i hi];exact (hp i hi).2.len) (fun i hi=>by rw [hc i hi];exact List.all_eq_true.2 (hp i hi).2.one) (fun b hb' i j hi hj=>?_) (fun i j y hi hy=>?_)
    ·cases hb'
     have h5:=(World.cells?_some (hp i hi).1)
     have h6:=h5.2.2 j (by omega)
     have hj2:j<(p i).2.length:=by rw [(hp i hi).2.clen];exact hj
     show w.cell? _=_
     rw [List.getD_eq_getElem?_getD,List.getElem?_eq_getElem hj2,Option.getD_some]
     rw [List.getElem?_eq_getElem hj2] at h6
     rw [←h6,hb];show w.cell? _=w.cell? _;rw [B9q]
    ·rw [hc i hi] at hy
     have hj:j<(p i).1.length:=(List.getElem?_eq_some_iff.1 hy).1
     have hj2:j<(p i).2.length:=by rw [(hp i hi).2.clen,←(hp i hi).2.len];exact hj
     rw [List.getD_eq_getElem?_getD,List.getElem?_eq_getElem hj2,Option.getD_some]
     exact (hp i hi).2.rep j y _ hy (List.getElem?_eq_getElem hj2)
  ·rename_i fs ht
   split at h
   case h_2=>cases h
   rename_i ks' hk
   split at h
   case h_2=>cases h
   rename_i hb
   cases h
   have hb:=Nat.eq_of_beq_eq_true hb
   obtain ⟨xs,m',rfl,_,hlen,hxl,hf⟩:=DataW.trod_struct ht hx
   obtain ⟨l,hl⟩:=A8h (fun t ks cs x=>open_kinds n m' t ks cs x) (cs:=cs) fs.toList 0 ks hk fun f hfm=>by
    obtain ⟨i,hi,rfl⟩:=List.getElem_of_mem hfm
    have:=hf i fs[i] (by simp at hi;simp [hi])
    rw [List.getElem?_eq_getElem (by simp at hi;omega)] at this
    exact ⟨_,by simpa using this⟩
   refine ⟨l,?_⟩
   rw [List.drop_zero,List.take_of_length_le (by omega)] at hl
   exact hl
  ·cases h
end
end Go.Ab
namespace Go.Ab
open Go
abbrev A4q (ks:List LK) (L:List AV):Prop:=L.length=ks.length∧∀ (j:Nat) (y:AV) (k:LK),L[j]?=some y→ks[j]?=some k→Fit k y
abbrev A3y {α : Type} (ks:List LK) (enc : α→AV) (Q : α→Prop):Prop:=∀ L:List AV,A4q ks L→∃ x,E3 L (cellsOf (enc x))∧(cellsOf (enc x)).all AV.one=true∧Q x
theorem Fit.inv_str {y:AV} (h:Fit .str y):∃ s:E0,y=eS s∧s.size≤maxLen:=by cases h with | str s hs=>exact ⟨s,rfl,hs⟩
theorem Fit.inv_int {y:AV} (h:Fit (.int .i64) y):∃ n:Int,y=eI n∧(Lit.int .i64 n).wf=true:=by cases h with | int k n hn=>exact ⟨n,rfl,hn⟩
theorem Fit.inv_bool {y:AV} (h:Fit .bool y):∃ b:Bool,y=eB b:=by cases h with | bool b=>exact ⟨b,rfl⟩
theorem Fit.inv_sl {α : Type} [Inhabited α] {ks:List LK} {y:AV} {enc : α→AV} {Q : α→Prop} (hd:A3y ks enc Q) (h:Fit (.sl ks) y) :
  ∃ l:List α,Le y (B1 ks.length enc l)∧l.length≤maxLen∧∀ x∈l,Q x:=by
 cases h with
 | sl ks n L hn hl hf =>
  have h1:∀ i,∃ x,i<n→E3 (L i) (cellsOf (enc x))∧(cellsOf (enc x)).all AV.one=true∧Q x:=fun i=>by
   by_cases hi:i<n
   ·obtain ⟨x,hx⟩:=hd (L i) ⟨hl i hi,fun j y k=>hf i j y k hi⟩
    exact ⟨x,fun _=>hx⟩
   ·exact ⟨default,fun h=>absurd h hi⟩
  obtain ⟨g,hg⟩:=Classical.axiomOfChoice h1
  have hlen:((List.range n).map g).length=n:=by rw [List.length_map,List.length_range]
  refine ⟨(List.range n).map g,?_,by rw [hlen];exact hn,fun x hx=>?_⟩
  ·unfold B1
   rw [hlen]
   refine Le.arr fun i hi=>?_
   have e:((List.range n).map g).getD i default=g i:=by
    rw [List.getD_eq_getElem?_getD,List.getElem?_map,List.getElem?_range hi];rfl
   have one:∀ v∈L i,v.one=true:=fun v hv=>by
    obtain ⟨j,hj,rfl⟩:=List.getElem_of_mem hv
    exact (hf i j _ (ks[j]'(by rw [←hl i hi];exact hj)) hi (List.getElem?_eq_getElem hj) (List.getElem?_eq_getElem (by rw [←hl i hi];exact hj))).one
   rw [e,B1e one]
   exact ⟨(hg i hi).1,(hg i hi).2.1⟩
  ·obtain ⟨i,hi,rfl⟩:=List.mem_map.1 hx
   exact (hg i (List.mem_range.1 hi)).2.2
theorem FitL.slice {α : Type} [Inhabited α] {w:World} {ks:List LK} {l:List AV} {c:Value} {enc : α→AV} {Q : α→Prop} (hd:A3y ks enc Q) (h:FitL w [.sl ks] l [c]) :
  ∃ x:List α,I9 w st0 (B1 ks.length enc x) c∧x.length≤maxLen∧∀ y∈x,Q y:=by
 obtain ⟨y,rfl⟩:=List.length_eq_one_iff.1 h.len
 obtain ⟨x,h1,h2,h3⟩:=(h.fit 0 y (.sl ks) rfl rfl).inv_sl hd
 exact ⟨x,h1 _ _ _ (h.rep 0 y c rfl rfl),h2,h3⟩
theorem C8C {k0 k1 k2:LK} {L:List AV} (h:A4q [k0,k1,k2] L):∃ a b c,L=[a,b,c]∧Fit k0 a∧Fit k1 b∧Fit k2 c:=by
 obtain ⟨h1,h2⟩:=h
 match L,h1 with
 | [a,b,c],_=>exact ⟨a,b,c,rfl,h2 0 _ _ rfl rfl,h2 1 _ _ rfl rfl,h2 2 _ _ rfl rfl⟩
abbrev kLine:List LK:=[.str,.int .i64,.int .i64]
theorem C2e:A3y kLine F7 fun _=>True:=fun L h=>by
 obtain ⟨a,b,c,rfl,ha,hb,hc⟩:=C8C h
 obtain ⟨a,rfl,_⟩:=ha.inv_str
 obtain ⟨b,rfl,_⟩:=hb.inv_int
 obtain ⟨c,rfl,_⟩:=hc.inv_int
 exact ⟨⟨a,b,c⟩,E3.refl _,rfl,trivial⟩
theorem B9V {k0:LK} {L:List AV} (h:A4q [k0] L):∃ x0,L=[x0]∧Fit k0 x0:=by
 obtain ⟨h1,h2⟩:=h
 match L,h1 with
 | [x0],_=>exact ⟨x0,rfl,h2 0 _ _ rfl rfl⟩
theorem C3B {k0 k1:LK} {L:List AV} (h:A4q [k0,k1] L):∃ x0 x1,L=[x0,x1]∧Fit k0 x0∧Fit k1 x1:=by
 obtain ⟨h1,h2⟩:=h
 match L,h1 with
 | [x0,x1],_=>exact ⟨x0,x1,rfl,h2 0 _ _ rfl rfl,h2 1 _ _ rfl rfl⟩
theorem B9Y {k0 k1 k2:LK} {L:List AV} (h:A4q [k0,k1,k2] L):∃ x0 x1 x2,L=[x0,x1,x2]∧Fit k0 x0∧Fit k1 x1∧Fit k2 x2:=by
 obtain ⟨h1,h2⟩:=h
 match L,h1 with
 | [x0,x1,x2],_=>exact ⟨x0,x1,x2,rfl,h2 0 _ _ rfl rfl,h2 1 _ _ rfl rfl,h2 2 _ _ rfl rfl⟩
theorem B6V {k0 k1 k2 k3:LK} {L:List AV} (h:A4q [k0,k1,k2,k3] L):∃ x0 x1 x2 x3,L=[x0,x1,x2,x3]∧Fit k0 x0∧Fit k1 x1∧Fit k2 x2∧Fit k3 x3:=by
 obtain ⟨h1,h2⟩:=h
 match L,h1 with
 | [x0,x1,x2,x3],_=>exact ⟨x0,x1,x2,x3,rfl,h2 0 _ _ rfl rfl,h2 1 _ _ rfl rfl,h2 2 _ _ rfl rfl,h2 3 _ _ rfl rfl⟩
theorem B9W {k0 k1 k2 k3 k4 k5 k6 k7 k8 k9 k10 k11 k12 k13:LK} {L:List AV} (h:A4q [k0,k1,k2,k3,k4,k5,k6,k7,k8,k9,k10,k11,k12,k13] L):∃ x0 x1 x2 x3 x4 x5 x6 x7 x8 x9 x10 x11 x12 x13,L=[x0,x1,x2,x3,x4,x5,x6,x7,x8,x9,x10,x11,x12,x13]∧Fit k0 x0∧Fit k1 x1∧Fit k2 x2∧Fit k3 x3∧Fit k4 x4∧Fit k5 x5∧Fit k6 x6∧Fit k7 x7∧Fit k8 x8∧Fit k9 x9∧Fit k10 x10∧Fit k11 x11∧Fit k12 x12∧Fit k13 x13:=by
 obtain ⟨h1,h2⟩:=h
 match L,h1 with
 | [x0,x1,x2,x3,x4,x5,x6,x7,x8,x9,x10,x11,x12,x13],_=>exact ⟨x0,x1,x2,x3,x4,x5,x6,x7,x8,x9,x10,x11,x12,x13,rfl,h2 0 _ _ rfl rfl,h2 1 _ _ rfl rfl,h2 2 _ _ rfl rfl,h2 3 _ _ rfl rfl,h2 4 _ _ rfl rfl,h2 5 _ _ rfl rfl,h2 6 _ _ rfl rfl,h2 7 _ _ rfl rfl,h2 8 _ _ rfl rfl,h2 9 _ _ rfl rfl,h2 10 _ _ rfl rfl,h2 11 _ _ rfl rfl,h2 12 _ _ rfl rfl,h2 13 _ _ rfl rfl⟩
theorem B9X {k0 k1 k2 k3 k4 k5 k6 k7 k8 k9 k10 k11 k12 k13 k14:LK} {L:List AV} (h:A4q [k0,k1,k2,k3,k4,k5,k6,k7,k8,k9,k10,k11,k12,k13,k14] L):∃ x0 x1 x2 x3 x4 x5 x6 x7 x8 x9 x10 x11 x12 x13 x14,L=[x0,x1,x2,x3,x4,x5,x6,x7,x8,x9,x10,x11,x12,x13,x14]∧Fit k0 x0∧Fit k1 x1∧Fit k2 x2∧Fit k3 x3∧Fit k4 x4∧Fit k5 x5∧Fit k6 x6∧Fit k7 x7∧Fit k8 x8∧Fit k9 x9∧Fit k10 x10∧Fit k11 x11∧Fit k12 x12∧Fit k13 x13∧Fit k14 x14:=by
 obtain ⟨h1,h2⟩:=h
 match L,h1 with
 | [x0,x1,x2,x3,x4,x5,x6,x7,x8,x9,x10,x11,x12,x13,x14],_=>exact ⟨x0,x1,x2,x3,x4,x5,x6,x7,x8,x9,x10,x11,x12,x13,x14,rfl,h2 0 _ _ rfl rfl,h2 1 _ _ rfl rfl,h2 2 _ _ rfl rfl,h2 3 _ _ rfl rfl,h2 4 _ _ rfl rfl,h2 5 _ _ rfl rfl,h2 6 _ _ rfl rfl,h2 7 _ _ rfl rfl,h2 8 _ _ rfl rfl,h2 9 _ _ rfl rfl,h2 10 _ _ rfl rfl,h2 11 _ _ rfl rfl,h2 12 _ _ rfl rfl,h2 13 _ _ rfl rfl,h2 14 _ _ rfl rfl⟩
abbrev QT {α : Type} (_ : α):Prop:=True
abbrev kStr:List LK:=[.str]
theorem B2f:A3y kStr eS QT:=fun L h=>by
 obtain ⟨a,rfl,ha⟩:=B9V h
 obtain ⟨a,rfl,_⟩:=ha.inv_str
 exact ⟨a,E3.refl _,rfl,trivial⟩
abbrev C4k:List LK:=[.int .i64]
theorem B2e:A3y C4k eI QT:=fun L h=>by
 obtain ⟨a,rfl,ha⟩:=B9V h
 obtain ⟨a,rfl,_⟩:=ha.inv_int
 exact ⟨a,E3.refl _,rfl,trivial⟩
abbrev C3D:List LK:=[.int .i64,.int .i64,.int .i64]
theorem B6R:A3y C3D L7 QT:=fun L h=>by
 obtain ⟨a0,a1,a2,rfl,h0,h1,h2⟩:=B9Y h
 obtain ⟨a0,rfl,_⟩:=h0.inv_int
 obtain ⟨a1,rfl,_⟩:=h1.inv_int
 obtain ⟨a2,rfl,_⟩:=h2.inv_int
 exact ⟨⟨a0,a1,a2⟩,E3.cons (Le.refl _) (E3.cons (Le.refl _) (E3.cons (Le.refl _) (E3.nil))),rfl,trivial⟩
abbrev C0h:List LK:=[.sl kStr,.sl kStr,.int .i64]
theorem C2f:A3y C0h O6 QT:=fun L h=>by
 obtain ⟨a0,a1,a2,rfl,h0,h1,h2⟩:=B9Y h
 obtain ⟨b0,e0,_,_⟩:=h0.inv_sl B2f
 obtain ⟨b1,e1,_,_⟩:=h1.inv_sl B2f
 obtain ⟨a2,rfl,_⟩:=h2.inv_int
 exact ⟨⟨⟨b0,b1⟩,a2⟩,E3.cons (e0) (E3.cons (e1) (E3.cons (Le.refl _) (E3.nil))),rfl,trivial⟩
abbrev C0g:List LK:=[.str,.str,.int .i64,.bool]
theorem C2d:A3y C0g E5 QT:=fun L h=>by
 obtain ⟨a0,a1,a2,a3,rfl,h0,h1,h2,h3⟩:=B6V h
 obtain ⟨a0,rfl,_⟩:=h0.inv_str
 obtain ⟨a1,rfl,_⟩:=h1.inv_str
 obtain ⟨a2,rfl,_⟩:=h2.inv_int
 obtain ⟨a3,rfl⟩:=h3.inv_bool
 exact ⟨⟨a0,a1,a2,a3⟩,E3.cons (Le.refl _) (E3.cons (Le.refl _) (E3.cons (Le.refl _) (E3.cons (Le.refl _) (E3.nil)))),rfl,trivial⟩
abbrev A9p:List LK:=[.str,.int .i64]
theorem B5v:A3y A9p A0f QT:=fun L h=>by
 obtain ⟨a0,a1,rfl,h0,h1⟩:=C3B h
 obtain ⟨a0,rfl,_⟩:=h0.inv_str
 obtain ⟨a1,rfl,_⟩:=h1.inv_int
 exact ⟨⟨a0,a1⟩,E3.cons (Le.refl _) (E3.cons (Le.refl _) (E3.nil)),rfl,trivial⟩
abbrev C0i:List LK:=[.str,.sl A9p,.int .i64,.int .i64]
theorem C2g:A3y C0i S8 QT:=fun L h=>by
 obtain ⟨a0,a1,a2,a3,rfl,h0,h1,h2,h3⟩:=B6V h
 obtain ⟨a0,rfl,_⟩:=h0.inv_str
 obtain ⟨b1,e1,_,_⟩:=h1.inv_sl B5v
 obtain ⟨a2,rfl,_⟩:=h2.inv_int
 obtain ⟨a3,rfl,_⟩:=h3.inv_int
 exact ⟨⟨a0,b1,a2,a3⟩,E3.cons (Le.refl _) (E3.cons (e1) (E3.cons (Le.refl _) (E3.cons (Le.refl _) (E3.nil)))),rfl,trivial⟩
abbrev B5J:List LK:=[.str,.int .i64,.int .i64,.str,.str,.bool,.sl kStr,.sl kStr,.int .i64,.int .i64,.int .i64,.int .i64,.int .i64,.sl C0h,.sl C3D]
theorem B9N:A3y B5J B9 QT:=fun L h=>by
 obtain ⟨a0,a1,a2,a3,a4,a5,a6,a7,a8,a9,a10,a11,a12,a13,a14,rfl,h0,h1,h2,h3,h4,h5,h6,h7,h8,h9,h10,h11,h12,h13,h14⟩:=B9X h
 obtain ⟨a0,rfl,_⟩:=h0.inv_str
 obtain ⟨a1,rfl,_⟩:=h1.inv_int
 obtain ⟨a2,rfl,_⟩:=h2.inv_int
 obtain ⟨a3,rfl,_⟩:=h3.inv_str
 obtain ⟨a4,rfl,_⟩:=h4.inv_str
 obtain ⟨a5,rfl⟩:=h5.inv_bool
 obtain ⟨b6,e6,_,_⟩:=h6.inv_sl B2f
 obtain ⟨b7,e7,_,_⟩:=h7.inv_sl B2f
 obtain ⟨a8,rfl,_⟩:=h8.inv_int
 obtain ⟨a9,rfl,_⟩:=h9.inv_int
 obtain ⟨a10,rfl,_⟩:=h10.inv_int
 obtain ⟨a11,rfl,_⟩:=h11.inv_int
 obtain ⟨a12,rfl,_⟩:=h12.inv_int
 obtain ⟨b13,e13,_,_⟩:=h13.inv_sl C2f
 obtain ⟨b14,e14,_,_⟩:=h14.inv_sl B6R
 exact ⟨⟨a0,a1,a2,a3,a4,a5,⟨b6,b7⟩,a8,a9,a10,a11,a12,b13,b14⟩,E3.cons (Le.refl _) (E3.cons (Le.refl _) (E3.cons (Le.refl _) (E3.cons (Le.refl _) (E3.cons (Le.refl _) (E3.cons (Le.refl _) (E3.cons (e6) (E3.cons (e7) (E3.cons (Le.refl _) (E3.cons (Le.refl _) (E3.cons (Le.refl _) (E3.cons (Le.refl _) (E3.cons (Le.refl _) (E3.cons (e13) (E3.cons (e14) (E3.nil))))))))))))))),rfl,trivial⟩
abbrev kRules:List LK:=[.sl C0g,.sl B5J,.bool,.bool,.int .i64,.sl C0i,.int .i64,.int .i64,.int .i64,.int .i64,.int .i64,.int .i64,.sl C4k,.sl C4k]
theorem B9O:A3y kRules I8 QT:=fun L h=>by
 obtain ⟨a0,a1,a2,a3,a4,a5,a6,a7,a8,a9,a10,a11,a12,a13,rfl,h0,h1,h2,h3,h4,h5,h6,h7,h8,h9,h10,h11,h12,h13⟩:=B9W h
 obtain ⟨b0,e0,_,_⟩:=h0.inv_sl C2d
 obtain ⟨b1,e1,_,_⟩:=h1.inv_sl B9N
 obtain ⟨a2,rfl⟩:=h2.inv_bool
 obtain ⟨a3,rfl⟩:=h3.inv_bool
 obtain ⟨a4,rfl,_⟩:=h4.inv_int
 obtain ⟨b5,e5,_,_⟩:=h5.inv_sl C2g
 obtain ⟨a6,rfl,_⟩:=h6.inv_int
 obtain ⟨a7,rfl,_⟩:=h7.inv_int
 obtain ⟨a8,rfl,_⟩:=h8.inv_int
 obtain ⟨a9,rfl,_⟩:=h9.inv_int
 obtain ⟨a10,rfl,_⟩:=h10.inv_int
 obtain ⟨a11,rfl,_⟩:=h11.inv_int
 obtain ⟨b12,e12,_,_⟩:=h12.inv_sl B2e
 obtain ⟨b13,e13,_,_⟩:=h13.inv_sl B2e
 exact ⟨⟨b0,b1,⟨a2,a3,a4,b5⟩,⟨a6,a7⟩,⟨a8,a9,a10,a11,b12,b13⟩⟩,E3.cons (e0) (E3.cons (e1) (E3.cons (Le.refl _) (E3.cons (Le.refl _) (E3.cons (Le.refl _) (E3.cons (e5) (E3.cons (Le.refl _) (E3.cons (Le.refl _) (E3.cons (Le.refl _) (E3.cons (Le.refl _) (E3.cons (Le.refl _) (E3.cons (Le.refl _) (E3.cons (e12) (E3.cons (e13) (E3.nil)))))))))))))),rfl,trivial⟩
theorem FitL.rules {w:World} {l:List AV} {cs:List Value} (h:FitL w kRules l cs):∃ r:F9,I9 w st0 (I8 r) (.agg cs.toArray):=by
 obtain ⟨r,h1,_,_⟩:=B9O l ⟨h.len,h.fit⟩
 refine ⟨r,?_⟩
 have h0:I9 w st0 (.agg l) (.agg cs.toArray):=.agg _ _ (by rw [h.len,←h.clen];simp) fun j y c hy hc=>h.rep j y c hy (by simpa using hc)
 exact (Le.agg h1) _ _ _ h0
end Go.Ab
namespace Go.Ab
open Go Go.Proofs.YtbajhapmlfbelaaGreat
theorem decStrQ:A3y kStr eS (fun s=>Sm s.size):=fun L h=>by
 obtain ⟨a,rfl,ha⟩:=B9V h
 obtain ⟨a,rfl,hs⟩:=ha.inv_str
 exact ⟨a,E3.refl _,rfl,Nat.le_trans hs (by decide)⟩
theorem B9M:A3y C0h O6 (fun x=>A0J x.scope):=fun L h=>by
 obtain ⟨a0,a1,a2,rfl,h0,h1,h2⟩:=B9Y h
 obtain ⟨b0,e0,n0,q0⟩:=h0.inv_sl decStrQ
 obtain ⟨b1,e1,n1,q1⟩:=h1.inv_sl decStrQ
 obtain ⟨a2,rfl,_⟩:=h2.inv_int
 exact ⟨⟨⟨b0,b1⟩,a2⟩,E3.cons (e0) (E3.cons (e1) (E3.cons (Le.refl _) (E3.nil))),rfl,⟨(Nat.le_trans n0 (by decide)),(Nat.le_trans n1 (by decide)),q0,q1⟩⟩
theorem B9L:A3y C0g E5 (fun x=>Sm x.sku.size∧Sm x.cat.size):=fun L h=>by
 obtain ⟨a0,a1,a2,a3,rfl,h0,h1,h2,h3⟩:=B6V h
 obtain ⟨a0,rfl,q0⟩:=h0.inv_str
 obtain ⟨a1,rfl,q1⟩:=h1.inv_str
 obtain ⟨a2,rfl,_⟩:=h2.inv_int
 obtain ⟨a3,rfl⟩:=h3.inv_bool
 exact ⟨⟨a0,a1,a2,a3⟩,E3.cons (Le.refl _) (E3.cons (Le.refl _) (E3.cons (Le.refl _) (E3.cons (Le.refl _) (E3.nil)))),rfl,(Nat.le_trans q0 (by decide)),(Nat.le_trans q1 (by decide))⟩
theorem B3I:A3y A9p A0f (fun x=>Sm x.cat.size):=fun L h=>by
 obtain ⟨a0,a1,rfl,h0,h1⟩:=C3B h
 obtain ⟨a0,rfl,q0⟩:=h0.inv_str
 obtain ⟨a1,rfl,_⟩:=h1.inv_int
 exact ⟨⟨a0,a1⟩,E3.cons (Le.refl _) (E3.cons (Le.refl _) (E3.nil)),rfl,(Nat.le_trans q0 (by decide))⟩
theorem B9P:A3y C0i S8 (fun z=>B1O z):=fun L h=>by
 obtain ⟨a0,a1,a2,a3,rfl,h0,h1,h2,h3⟩:=B6V h
 obtain ⟨a0,rfl,q0⟩:=h0.inv_str
 obtain ⟨b1,e1,n1,q1⟩:=h1.inv_sl B3I
 obtain ⟨a2,rfl,_⟩:=h2.inv_int
 obtain ⟨a3,rfl,_⟩:=h3.inv_int
 exact ⟨⟨a0,b1,a2,a3⟩,E3.cons (Le.refl _) (E3.cons (e1) (E3.cons (Le.refl _) (E3.cons (Le.refl _) (E3.nil)))),rfl,⟨(Nat.le_trans n1 (by decide)),(Nat.le_trans q0 (by decide)),q1⟩⟩
theorem B7P:A3y B5J B9 (fun p=>A0I p):=fun L h=>by
 obtain ⟨a0,a1,a2,a3,a4,a5,a6,a7,a8,a9,a10,a11,a12,a13,a14,rfl,h0,h1,h2,h3,h4,h5,h6,h7,h8,h9,h10,h11,h12,h13,h14⟩:=B9X h
 obtain ⟨a0,rfl,q0⟩:=h0.inv_str
 obtain ⟨a1,rfl,_⟩:=h1.inv_int
 obtain ⟨a2,rfl,_⟩:=h2.inv_int
 obtain ⟨a3,rfl,q3⟩:=h3.inv_str
 obtain ⟨a4,rfl,q4⟩:=h4.inv_str
 obtain ⟨a5,rfl⟩:=h5.inv_bool
 obtain ⟨b6,e6,n6,q6⟩:=h6.inv_sl decStrQ
 obtain ⟨b7,e7,n7,q7⟩:=h7.inv_sl decStrQ
 obtain ⟨a8,rfl,_⟩:=h8.inv_int
 obtain ⟨a9,rfl,_⟩:=h9.inv_int
 obtain ⟨a10,rfl,_⟩:=h10.inv_int
 obtain ⟨a11,rfl,_⟩:=h11.inv_int
 obtain ⟨a12,rfl,_⟩:=h12.inv_int
 obtain ⟨b13,e13,n13,q13⟩:=h13.inv_sl B9M
 obtain ⟨b14,e14,n14,_⟩:=h14.inv_sl B6R
 exact ⟨⟨a0,a1,a2,a3,a4,a5,⟨b6,b7⟩,a8,a9,a10,a11,a12,b13,b14⟩,E3.cons (Le.refl _) (E3.cons (Le.refl _) (E3.cons (Le.refl _) (E3.cons (Le.refl _) (E3.cons (Le.refl _) (E3.cons (Le.refl _) (E3.cons (e6) (E3.cons (e7) (E3.cons (Le.refl _) (E3.cons (Le.refl _) (E3.cons (Le.refl _) (E3.cons (Le.refl _) (E3.cons (Le.refl _) (E3.cons (e13) (E3.cons (e14) (E3.nil))))))))))))))),rfl,⟨(Nat.le_trans q0 (by decide)),(Nat.le_trans q3 (by decide)),(Nat.le_trans q4 (by decide)),⟨(Nat.le_trans n6 (by decide)),(Nat.le_trans n7 (by decide)),q6,q7⟩,(Nat.le_trans n13 (by decide)),q13,(Nat.le_trans n14 (by decide))⟩⟩
theorem B7Q:A3y kRules I8 (fun r=>A0l r):=fun L h=>by
 obtain ⟨a0,a1,a2,a3,a4,a5,a6,a7,a8,a9,a10,a11,a12,a13,rfl,h0,h1,h2,h3,h4,h5,h6,h7,h8,h9,h10,h11,h12,h13⟩:=B9W h
 obtain ⟨b0,e0,n0,q0⟩:=h0.inv_sl B9L
 obtain ⟨b1,e1,n1,q1⟩:=h1.inv_sl B7P
 obtain ⟨a2,rfl⟩:=h2.inv_bool
 obtain ⟨a3,rfl⟩:=h3.inv_bool
 obtain ⟨a4,rfl,_⟩:=h4.inv_int
 obtain ⟨b5,e5,n5,q5⟩:=h5.inv_sl B9P
 obtain ⟨a6,rfl,_⟩:=h6.inv_int
 obtain ⟨a7,rfl,_⟩:=h7.inv_int
 obtain ⟨a8,rfl,_⟩:=h8.inv_int
 obtain ⟨a9,rfl,_⟩:=h9.inv_int
 obtain ⟨a10,rfl,_⟩:=h10.inv_int
 obtain ⟨a11,rfl,_⟩:=h11.inv_int
 obtain ⟨b12,e12,n12,_⟩:=h12.inv_sl B2e
 obtain ⟨b13,e13,n13,_⟩:=h13.inv_sl B2e
 exact ⟨⟨b0,b1,⟨a2,a3,a4,b5⟩,⟨a6,a7⟩,⟨a8,a9,a10,a11,b12,b13⟩⟩,E3.cons (e0) (E3.cons (e1) (E3.cons (Le.refl _) (E3.cons (Le.refl _) (E3.cons (Le.refl _) (E3.cons (e5) (E3.cons (Le.refl _) (E3.cons (Le.refl _) (E3.cons (Le.refl _) (E3.cons (Le.refl _) (E3.cons (Le.refl _) (E3.cons (Le.refl _) (E3.cons (e12) (E3.cons (e13) (E3.nil)))))))))))))),rfl,⟨(Nat.le_trans n0 (by decide)),q0,q1,⟨(Nat.le_trans n5 (by decide)),q5⟩,(Nat.le_trans n12 (by decide)),(Nat.le_trans n13 (by decide))⟩⟩
theorem FitL.rulesQ {w:World} {l:List AV} {cs:List Value} (h:FitL w kRules l cs):∃ r:F9,I9 w st0 (I8 r) (.agg cs.toArray)∧A0l r:=by
 obtain ⟨r,h1,_,hq⟩:=B7Q l ⟨h.len,h.fit⟩
 refine ⟨r,?_,hq⟩
 have h0:I9 w st0 (.agg l) (.agg cs.toArray):=.agg _ _ (by rw [h.len,←h.clen];simp) fun j y c hy hc=>h.rep j y c hy (by simpa using hc)
 exact (Le.agg h1) _ _ _ h0
theorem FitL.line {w:World} {l:List AV} {cs:List Value} (h:FitL w kLine l cs):∃ x:F5,I9 w st0 (F7 x) (.agg cs.toArray):=by
 obtain ⟨x,h1,_,_⟩:=C2e l ⟨h.len,h.fit⟩
 refine ⟨x,?_⟩
 have h0:I9 w st0 (.agg l) (.agg cs.toArray):=.agg _ _ (by rw [h.len,←h.clen];simp) fun j y c hy hc=>h.rep j y c hy (by simpa using hc)
 exact (Le.agg h1) _ _ _ h0
end Go.Ab
namespace Go.Ab
open Go
theorem an {a b:Bool} (h:a=true) (k:b=true):(a&&b)=true:=by rw [h,k];rfl
def kindsFit (P:Program) (fn:Func) (c:OpenClaim):Bool:=(c.kinds==(if c.domain.isEmpty then [] else fn.params.toList.map fun t=>match P.underlying t with | some (.int k)=>some k | _=>none))
theorem joined_of {P:Program} {f:FuncId} {fn:Func} {s:ChangeSpec} {c:OpenClaim} (h1:(c.wf (OpenSpec.ofChange s))=true) (h2:(laidOutB P)=true) (h3:(mapsRowed P)=true) (h4:(fn.params.all (P.readableRec ·))=true) (h5:(namedTie P c.named s.vars)=true) (h6:(c.stops==[])=true) (h7:(P.stops==[])=true) (h8:(c.knobs==[])=true) (h9:(P.stopKnobs==[])=true) (h10:(c.inPlace==P.inPlace f)=true) (h11:(c.unfollowed==P.unfollowed f)=true) (h12:(c.recurses==P.recurses f)=true) (h13:(c.named==P.varsNamed f)=true) (h14:(c.maps==(fn.params.toList++s.plain.varTypes P).any (P.mapsRec ·))=true) (h15:(c.ifaces==(fn.params.toList++s.plain.varTypes P).any (P.ifacesRec ·))=true) (h16:(c.mapsOut==P.mapsAmong fn.resultTypes.toList)=true) (h17:(c.loops==(fn.params.toList++s.plain.varTypes P).any (P.loopsFrom ·))=true) (h18:(c.wideKeys==(fn.params.toList++s.plain.varTypes P++fn.resultTypes.toList).any (P.wideKeysFrom ·))=true) (h19:(s.vars.all (P.varReadable ·))=true) (h20:(fn.resultTypes.all (fun t=>P.readableRec t&&decide (t<P.types.size)))=true) (h21:(c.ifacesOut==fn.resultTypes.toList.any (P.ifacesRec ·))=true) (h22:(c.loopsOut==fn.resultTypes.toList.any (P.loopsFrom ·))=true) (h23:(c.plainKeys==P.plainKeys)=true) (h24:c.shortTexts.isNone=true) (h25:P.stopsHeard=true) (h26:P.mayEnter=true) (h27:(c.lifted==P.liftsFinal)=true) (h28:(P.make==some c.make)=true) (h29:kindsFit P fn c=true) (h30:(c.pinned==c.pinnedBy)=true) (h31:(c.veiled==(fn.params.toList++s.plain.varTypes P++fn.resultTypes.toList).any (P.veiledRec ·))=true) (h32:(c.veiledFits P fn.params.toList (fn.params.toList++s.plain.varTypes P++fn.resultTypes.toList))=true):joinedFacts P f fn s c=true:=an (an (an (an (an (an (an (an (an (an (an (an (an (an (an (an (an (an (an (an (an (an (an (an (an (an (an (an (an (an (an (h1) h2) h3) h4) h5) h6) h7) h8) h9) h10) h11) h12) h13) h14) h15) h16) h17) h18) h19) h20) h21) h22) h23) h24) h25) h26) h27) h28) h29) h30) h31) h32
end Go.Ab
namespace Go.Proofs.YtbajhapmlfbelaaGreat.closed
open Go
theorem p2:(laidOutB Tryz.prog)=true:=by kernel_rfl
theorem p3:(mapsRowed Tryz.prog)=true:=by kernel_rfl
theorem p7:(Tryz.prog.stops==[])=true:=by kernel_rfl
theorem p9:(Tryz.prog.stopKnobs==[])=true:=by kernel_rfl
theorem p25:(Tryz.prog.stopsHeard)=true:=by kernel_rfl
theorem p26:(Tryz.prog.mayEnter)=true:=by kernel_rfl
end Go.Proofs.YtbajhapmlfbelaaGreat.closed
namespace Go.Proofs.YtbajhapmlfbelaaGreat.deskErrors
open Go.ChangeShapes Go.WideShapes Go.ChangeAt Go.RowKit
open Go.ChangeMaps (open_string shut_string)
theorem c1:(Rows.deskErrorsRow.wf (OpenSpec.ofChange Rows.deskErrorsSpec))=true:=by kernel_rfl
theorem c4:(Tryz.f4.params.all (Tryz.prog.readableRec ·))=true:=by kernel_rfl
theorem c5:(namedTie Tryz.prog Rows.deskErrorsRow.named Rows.deskErrorsSpec.vars)=true:=by kernel_rfl
theorem c6:((Rows.deskErrorsRow.stops==[]))=true:=by kernel_rfl
theorem c8:((Rows.deskErrorsRow.knobs==[]))=true:=by kernel_rfl
theorem c10:((Rows.deskErrorsRow.inPlace==Tryz.prog.inPlace 4))=true:=by kernel_rfl
theorem c11:((Rows.deskErrorsRow.unfollowed==Tryz.prog.unfollowed 4))=true:=by kernel_rfl
theorem c12:((Rows.deskErrorsRow.recurses==Tryz.prog.recurses 4))=true:=by kernel_rfl
theorem c13:((Rows.deskErrorsRow.named==Tryz.prog.varsNamed 4))=true:=by kernel_rfl
theorem c14:((Rows.deskErrorsRow.maps==(Tryz.f4.params.toList++Rows.deskErrorsSpec.plain.varTypes Tryz.prog).any (Tryz.prog.mapsRec ·)))=true:=by kernel_rfl
theorem c15:((Rows.deskErrorsRow.ifaces==(Tryz.f4.params.toList++Rows.deskErrorsSpec.plain.varTypes Tryz.prog).any (Tryz.prog.ifacesRec ·)))=true:=by kernel_rfl
theorem c16:((Rows.deskErrorsRow.mapsOut==Tryz.prog.mapsAmong Tryz.f4.resultTypes.toList))=true:=by kernel_rfl
theorem c17:((Rows.deskErrorsRow.loops==(Tryz.f4.params.toList++Rows.deskErrorsSpec.plain.varTypes Tryz.prog).any (Tryz.prog.loopsFrom ·)))=true:=by kernel_rfl
theorem c18:((Rows.deskErrorsRow.wideKeys==(Tryz.f4.params.toList++Rows.deskErrorsSpec.plain.varTypes Tryz.prog++Tryz.f4.resultTypes.toList).any (Tryz.prog.wideKeysFrom ·)))=true:=by kernel_rfl
theorem c19:(Rows.deskErrorsSpec.vars.all (Tryz.prog.varReadable ·))=true:=by kernel_rfl
theorem c20:(Tryz.f4.resultTypes.all (fun t=>Tryz.prog.readableRec t&&decide (t<Tryz.prog.types.size)))=true:=by kernel_rfl
theorem c21:((Rows.deskErrorsRow.ifacesOut==Tryz.f4.resultTypes.toList.any (Tryz.prog.ifacesRec ·)))=true:=by kernel_rfl
theorem c22:((Rows.deskErrorsRow.loopsOut==Tryz.f4.resultTypes.toList.any (Tryz.prog.loopsFrom ·)))=true:=by kernel_rfl
theorem c23:((Rows.deskErrorsRow.plainKeys==Tryz.prog.plainKeys))=true:=by kernel_rfl
theorem c24:(Rows.deskErrorsRow.shortTexts.isNone)=true:=by kernel_rfl
theorem c27:((Rows.deskErrorsRow.lifted==Tryz.prog.liftsFinal))=true:=by kernel_rfl
theorem c28:((Tryz.prog.make==some Rows.deskErrorsRow.make))=true:=by kernel_rfl
theorem c29:Ab.kindsFit Tryz.prog Tryz.f4 Rows.deskErrorsRow=true:=by kernel_rfl
theorem c30:((Rows.deskErrorsRow.pinned==Rows.deskErrorsRow.pinnedBy))=true:=by kernel_rfl
theorem c31:((Rows.deskErrorsRow.veiled==(Tryz.f4.params.toList++Rows.deskErrorsSpec.plain.varTypes Tryz.prog++Tryz.f4.resultTypes.toList).any (Tryz.prog.veiledRec ·)))=true:=by kernel_rfl
theorem c32:(Rows.deskErrorsRow.veiledFits Tryz.prog Tryz.f4.params.toList (Tryz.f4.params.toList++Rows.deskErrorsSpec.plain.varTypes Tryz.prog++Tryz.f4.resultTypes.toList))=true:=by kernel_rfl
theorem B7L:joinedFacts Tryz.prog 4 Tryz.f4 Rows.deskErrorsSpec Rows.deskErrorsRow=true:=Ab.joined_of c1 closed.p2 closed.p3 c4 c5 c6 closed.p7 c8 closed.p9 c10 c11 c12 c13 c14 c15 c16 c17 c18 c19 c20 c21 c22 c23 c24 closed.p25 closed.p26 c27 c28 c29 c30 c31 c32
theorem own:ownKnob Tryz.prog.godebug=none:=by kernel_rfl
theorem B2p:laidOutB Tryz.prog=true:=closed.p2
theorem C9t (c0:Array Value) (c1:Value) (a2:Int) (a3:Int) (c4:Array Value) (w:World) (l0 l1 l4:List Ab.AV) (h0:Ab.FitL w Ab.kRules l0 c0.toList) (h1:Ab.FitL w [.sl Ab.kStr] l1 [c1]) (h4:Ab.FitL w Ab.kLine l4 c4.toList) :
  Calls Tryz.prog 4 #[.agg c0,c1,.int .i64 a2,.int .i64 a3,.agg c4] w fun e w'=>e=.returned (.bool true)∧Below w.heap.size w w':=by
 obtain ⟨x0,r0,q0⟩:=h0.rulesQ
 obtain ⟨x1,r1,n1,q1⟩:=h1.slice Ab.decStrQ
 obtain ⟨x4,r4⟩:=h4.line
 refine Ab.law_of_S (B2g x0 x1 a2 a3 x4 q0 (Nat.le_trans n1 (by decide)) q1 Ab.st0) ⟨rfl,fun j y c hy hc=>?_⟩
 match j with
 | 0=>cases hy;cases hc;exact r0
 | 1=>cases hy;cases hc;exact r1
 | 2=>cases hy;cases hc;exact .int _ _
 | 3=>cases hy;cases hc;exact .int _ _
 | 4=>cases hy;cases hc;exact r4
 | j+5=>cases hy
set_option maxRecDepth 100000 in
theorem lifted (os:Os) (started:os.Started) (H:Type) (enc:TypeId×Value→H) :
  ReturnsInHanded {} Tryz.checked os 4 .any (Rows.deskErrorsSpec.pre6 enc Tryz.prog Tryz.f4 Rows.deskErrorsRow.domain false) (Rows.deskErrorsSpec.post enc Tryz.prog Tryz.f4 false true false false):=by
 refine returnsInHanded_of_change_sized (C:=Tryz.checked) own started (by kernel_rfl) Tryz.func4
  (ChangeSpec.witness6 (enc:=enc) (C:=Tryz.checked) false ⟨#[],#[.agg #[.slice none 0 0,.slice none 0 0,.bool false,.bool false,.int .i64 0,.slice none 0 0,.int .i64 0,.int .i64 0,.int .i64 0,.int .i64 0,.int .i64 0,.int .i64 0,.slice none 0 0,.slice none 0 0],.slice none 0 0,.int .i64 0,.int .i64 0,.agg #[.string ByteArray.empty,.int .i64 0,.int .i64 0]],[]⟩ 12 (by kernel_rfl) (by kernel_rfl) (by kernel_rfl) (by kernel_rfl)) ?_
 intro W base args ds gs before hval0 hW hcnd hsz0 _
 have hval:∀ (j:Nat) t v,Tryz.f4.params[j]?=some t→args[j]?=some v→Value.okWide Tryz.prog W .any base t v:=hval0
 have hW':=hW
 obtain ⟨p,q,hA0,hV,rfl,hfz,hnd⟩:=hW
 have hA:DataW.TrodAll enc Tryz.prog W 0 (fun _=>true) true Tryz.f4.params.toList args.toList ds p:=hA0
 rw [Tryz.params4] at hA hval
 obtain ⟨v0,vs0,d0,ds0,p0,q0,hargs,rfl,rfl,h0,r0⟩:=trodAll_cons hA
 obtain ⟨v1,vs1,d1,ds1,p1,q1,rfl,rfl,rfl,h1,r1⟩:=trodAll_cons r0
 obtain ⟨v2,vs2,d2,ds2,p2,q2,rfl,rfl,rfl,h2,r2⟩:=trodAll_cons r1
 obtain ⟨v3,vs3,d3,ds3,p3,q3,rfl,rfl,rfl,h3,r3⟩:=trodAll_cons r2
 obtain ⟨v4,vs4,d4,ds4,p4,q4,rfl,rfl,rfl,h4,r4⟩:=trodAll_cons r3
 obtain ⟨rfl,rfl,rfl⟩:=trodAll_nil r4
 obtain rfl:args=#[v0,v1,v2,v3,v4]:=by cases args;simp_all
 obtain ⟨rfl,rfl⟩:=trodVars_none hV
 obtain ⟨a0,rfl,_⟩:=okWide_struct Tryz.underlying33 (hval 0 33 v0 rfl rfl)
 obtain ⟨a1,len1,cap1,rfl⟩:=okWide_slice Tryz.underlying34 (hval 1 34 v1 rfl rfl)
 obtain ⟨a2,rfl,rfl,rfl,w2⟩:=open_int Tryz.underlying3 (hval 2 3 v2 rfl rfl) h2
 obtain ⟨a3,rfl,rfl,rfl,w3⟩:=open_int Tryz.underlying3 (hval 3 3 v3 rfl rfl) h3
 obtain ⟨a4,rfl,_⟩:=okWide_struct Tryz.underlying51 (hval 4 51 v4 rfl rfl)
 have k0:=h0
 have lt0:∀ x∈p0,x.block<W.heap.size:=by obtain ⟨m,hm⟩:=k0;exact DataW.trod_lt m _ _ _ hm
 have k1:=h1
 have lt1:∀ x∈p1,x.block<W.heap.size:=by obtain ⟨m,hm⟩:=k1;exact DataW.trod_lt m _ _ _ hm
 have k4:=h4
 have lt4:∀ x∈p4,x.block<W.heap.size:=by obtain ⟨m,hm⟩:=k4;exact DataW.trod_lt m _ _ _ hm
 obtain ⟨l0,hl0⟩:∃ l,Ab.FitL W Ab.kRules l a0.toList:=by
  obtain ⟨fuel,hf⟩:=h0
  exact Ab.open_kinds 10 fuel 33 Ab.kRules _ _ (by kernel_rfl) hf
 obtain ⟨l1,hl1⟩:∃ l,Ab.FitL W [.sl Ab.kStr] l [.slice a1 len1 cap1]:=by
  obtain ⟨fuel,hf⟩:=h1
  exact Ab.open_kinds 3 fuel 34 [.sl Ab.kStr] _ _ (by kernel_rfl) hf
 obtain ⟨l4,hl4⟩:∃ l,Ab.FitL W Ab.kLine l a4.toList:=by
  obtain ⟨fuel,hf⟩:=h4
  exact Ab.open_kinds 4 fuel 51 Ab.kLine _ _ (by kernel_rfl) hf
 clear hA0 hval0 hsz0
 refine (C9t a0 _ a2 a3 a4 W l0 l1 l4 hl0 hl1 hl4).mono fun e W' ⟨he,bel⟩=>?_
 subst he
 exact ⟨_,rfl,_,_,_,[],_,[],hW',trodAll_mk1 (shut_bool Tryz.underlying4 _),trodAll_cons_mk (Below.trod B2p (by kernel_rfl) (of_decide_eq_true (by kernel_rfl)) k0 bel lt0) (trodAll_cons_mk (Below.trod B2p (by kernel_rfl) (of_decide_eq_true (by kernel_rfl)) k1 bel lt1) (trodAll_cons_mk (shut_int Tryz.underlying3 w2) (trodAll_cons_mk (shut_int Tryz.underlying3 w3) (trodAll_cons_mk (Below.trod B2p (by kernel_rfl) (of_decide_eq_true (by kernel_rfl)) k4 bel lt4) trodAll_mk0)))),rfl,bel.frame _,fun h=>by cases h⟩
theorem over:Rows.deskErrorsRow.holds Tryz.pinned (OpenSpec.ofChange Rows.deskErrorsSpec) :=
 OpenClaim.holds_of_wide 4 Tryz.f4 rfl rfl rfl rfl rfl rfl rfl ⟨rfl,rfl,rfl,rfl,rfl⟩ rfl rfl rfl rfl rfl (by kernel_rfl) Tryz.func4 B7L
  (of_decide_eq_true (by kernel_rfl)) (by unfold Func.isWrapper;first | (rw [if_pos (by decide +kernel)];kernel_rfl) | (rw [if_neg (by decide +kernel)];exact ⟨rfl,rfl⟩))
  (fun os started H enc _=>lifted os started H enc)
theorem proved:Rows.DeskErrorsSaid:=over
#print axioms proved
end Go.Proofs.YtbajhapmlfbelaaGreat.deskErrors
namespace Go.Proofs.YtbajhapmlfbelaaGreat
theorem deskErrors_holds:Rows.DeskErrorsSaid:=deskErrors.proved
end Go.Proofs.YtbajhapmlfbelaaGreat
