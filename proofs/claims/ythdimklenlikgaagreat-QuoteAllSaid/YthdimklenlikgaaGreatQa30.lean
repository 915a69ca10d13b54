/- Part 30 of the proof: the law, for every input, and its row -/
import Derived.Test.YthdimklenlikgaaGreatQa29
import Derived.ChangeSlices
import Derived.ChangeArms
import Derived.Test.YthdimklenlikgaaGreatRows
import Derived.ProofKit
import Derived.JoinedOf
import Derived.KernelRfl
import Derived.WalkKit
import Derived.OpenShut
import Derived.ShutString
import Derived.ChangeOld
import Derived.Below
import Derived.SizedLaws
set_option maxRecDepth 100000
set_option linter.unusedVariables false
set_option linter.unusedSimpArgs false
namespace Go.Proofs.YthdimklenlikgaaGreat
open Go Go.Ab
attribute [local irreducible] upd del
theorem C4D (r:I4) (codes:List D6) (l:List G4) (st:St):S P 49 [H6 r,D3 codes,B2 3 H2 l] st fun v st'=>v=.bool (B9Z r&&(decide ((codes.length:Int)<30)&&decide ((l.length:Int)<40)))∧st'=st:=by
 refine A8 [3] B8 mixed Tryz.func49 (by rfl) rfl rfl rfl ?_;conv=>whnf
 refine A7 (C5N r _) ?_;conv=>whnf
 generalize B9Z r=a
 cases a
 ·conv=>whnf
  exact ⟨rfl,rfl⟩
 ·conv=>whnf
  refine C3 (fun h=>?_) (fun h=>?_)<;>rw [h]<;>(conv=>whnf)<;>exact ⟨rfl,rfl⟩
theorem S5.quotes {R:I4} {C:List D6} {L:List G4} (h:S5 R C L) {z0:K3} {s0:D6} (hz0:S4 R.tax.zones s0=some z0) (exempt:Bool) (s:D6) :
  ∃ (Q:A4f) (e:Int),(∀ st,S P 51 [H6 R,eS s,eB exempt,D3 C,B2 3 H2 L] st fun v st'=>v=.tuple [A0l Q,eI e]∧st'=st) ∧
   (∀ st,S P 52 [H6 R,eS s,eB exempt,D3 C,B2 3 H2 L] st fun v st'=>v=.tuple [A0l Q,eI e]∧st'=st) ∧
   J3 Q.goods∧J3 Q.taxes∧Sm Q.goods.length∧Sm Q.taxes.length∧Sm Q.deals.length:=by
 have hk:=(A5v h.check).lines.known
 have hi:=h.items
 have hl:=h.lines.len
 have hv0:=h.levy hz0
 have hRI:=fun st=>B4k R.items L (by show R.items.length≤_;omega) (by omega) hk st
 cases hz:S4 R.tax.zones s with
 | none =>
  exact ⟨A8X,7,fun st=>C0M exempt (fun st=>h.price_S st) (fun st=>A5y _ _ (by omega) (by omega) hk st) (by omega) hv0 hz st,
   fun st=>B8w exempt (fun st=>h.ref_S st) hRI (by omega) hv0 h.sm.tax hz st,
   ⟨Nat.zero_le _,fun x hx=>absurd hx List.not_mem_nil⟩,⟨Nat.zero_le _,fun x hx=>absurd hx List.not_mem_nil⟩,Nat.zero_le _,Nat.zero_le _,Nat.zero_le _⟩
 | some z =>
  have hv:=h.levy hz
  have hq:=h.quoteIn hz exempt
  obtain ⟨xs,ys,hL⟩:=h.law
  have h1:=C2M hL h.few
  have n1:=hq.ngoods
  have n2:=hq.ntaxes
  exact ⟨B5M R C L z exempt,0,fun st=>h.quote_S hz exempt st,fun st=>C0T exempt (fun st=>h.ref_S st) hRI (by omega) hv h.sm.tax hz st,hq.goods,hq.taxes,
   by show _≤_;omega,by show _≤_;omega,by show (A2s R C L).deals.length≤4611686018427387904;omega⟩
set_option maxHeartbeats 8000000 in
theorem B5L (r:I4) (zone:Int) (none:D6) (exempt:Bool) (codes:List D6) (l:List G4) (st:St):S P 9 [H6 r,eI zone,eS none,eB exempt,D3 codes,B2 3 H2 l] st fun v st'=>v=.bool true:=by
 have hOk:=C4V r codes l
 obtain ⟨z,hz⟩:=B0S r zone
 have cR:=fun s=>B4d r s
 have cC:=fun s=>B3X codes s
 have cL:=fun s=>B4b l s
 have cZ:=fun s=>B6w zone s
 generalize Z1 r=R at hOk cR hz
 generalize A0z codes=C at hOk cC
 generalize V9 l=L at hOk cL
 have hln:=hOk.lines.len
 have hq:=hOk.quotes hz exempt
 generalize O9 (C5 zone 3)=Z at cZ hz
 have fw:=fun s=>C4D r codes l s
 generalize (B9Z r&&(decide ((codes.length:Int)<30)&&decide ((l.length:Int)<40)))=FW at fw
 refine A8 [] B8 mixed Tryz.func9 (by rfl) rfl rfl rfl ?_;conv=>whnf
 intro b6 hb6;conv=>whnf
 refine D9 (A0 ..) rfl (by omega) rfl ?_;conv=>whnf
 refine A7 (fw _) ?_;conv=>whnf
 cases FW
 case' true =>
  conv=>whnf
  refine C3 (fun h2=>?_) (fun h2=>?_)<;>rw [h2]
 case true.refine_2 =>
  conv=>whnf
  refine D9 (A0 ..) rfl (by omega) rfl ?_;conv=>whnf
  refine A7 (cR _) ?_;conv=>whnf
  refine A7 (cC _) ?_;conv=>whnf
  refine A7 (cL _) ?_;conv=>whnf
  refine G6 (A0 ..) rfl (by omega) rfl (by rfl) ?_
  rw [B7];conv=>whnf
  refine A7 (cZ _) ?_;conv=>whnf
  generalize hst:(upd st b6 _:St)=S0
  obtain ⟨f6,at6,hf6⟩:∃ f6:Nat→AV,S0 b6=some ⟨33,14,1,f6⟩∧f6 0=H6 R:=by
   rw [←hst];exact ⟨_,A0 ..,by rw [A2];rfl⟩
  clear hst
  cases (zone.tmod 5==4)
  case' true =>
   obtain ⟨Q,e,p1,p2,q1,q2,m1,m2,m3⟩:=hq none
  case' false =>
   obtain ⟨Q,e,p1,p2,q1,q2,m1,m2,m3⟩:=hq Z
  all_goals
   have sq:=fun s=>B4z Q m1 m2 m3 s
   have k1:=fun s=>B9G Q q1 q2 s
   have k2:=fun s=>C3j Q q1 q2 s
   have w8:∀ x:Int,(x==x)=true:=fun x=>beq_self_eq_true x
   generalize B3r Q=BK at k1 k2
   clear q1 q2 m1 m2 m3
   conv=>whnf
   refine D9 at6 rfl (by omega) hf6 ?_;conv=>whnf
   refine A7 (p1 _) ?_;conv=>whnf
   intro b14 hb14
   have h614:b6≠b14:=fun e=>by subst e;rw [at6] at hb14;cases hb14
   conv=>whnf
   refine G6 (A0 ..) rfl (by omega) rfl (by rfl) ?_
   rw [B7];conv=>whnf
   generalize hst:(upd S0 b14 _:St)=S1
   obtain ⟨f14,at14,hf14⟩:∃ f14:Nat→AV,S1 b14=some ⟨99,6,1,f14⟩∧f14 0=A0l Q:=by
    rw [←hst];exact ⟨_,A0 ..,by rw [A2];rfl⟩
   have at6b:S1 b6=some ⟨33,14,1,f6⟩:=by rw [←hst,A4 h614];exact at6
   clear hst
   refine D9 at6b rfl (by omega) hf6 ?_;conv=>whnf
   refine A7 (p2 _) ?_;conv=>whnf
   intro b16 hb16
   have h1416:b14≠b16:=fun e=>by subst e;rw [at14] at hb16;cases hb16
   conv=>whnf
   refine G6 (A0 ..) rfl (by omega) rfl (by rfl) ?_
   rw [B7];conv=>whnf
   generalize hst:(upd S1 b16 _:St)=S2
   obtain ⟨f16,at16,hf16⟩:∃ f16:Nat→AV,S2 b16=some ⟨99,6,1,f16⟩∧f16 0=A0l Q:=by
    rw [←hst];exact ⟨_,A0 ..,by rw [A2];rfl⟩
   have at14b:S2 b14=some ⟨99,6,1,f14⟩:=by rw [←hst,A4 h1416];exact at14
   clear hst
   refine ⟨[],[],List.range 19,by kernel_rfl,?_⟩;conv=>whnf
   refine ⟨_,D1 (B1f _),?_⟩;conv=>whnf
   refine D9 at14b rfl (by omega) hf14 ?_;conv=>whnf
   refine D9 at16 rfl (by omega) hf16 ?_;conv=>whnf
   refine ⟨_,D1 (sq _),?_⟩;conv=>whnf
   rw [w8];conv=>whnf
   refine D9 at14b rfl (by omega) hf14 ?_;conv=>whnf
   refine ⟨_,D1 (k1 _),?_⟩;conv=>whnf
   refine D9 at16 rfl (by omega) hf16 ?_;conv=>whnf
   refine ⟨_,D1 (k2 _),?_⟩;conv=>whnf
   exact congrArg AV.bool (C2j BK)
 all_goals
  conv=>whnf
  refine A7 (B1f _) ?_;conv=>whnf
  exact rfl
end Go.Proofs.YthdimklenlikgaaGreat
namespace Go.Ab
open Go Go.ChangeShapes
inductive LK where
 | bool
 | int (k:IntKind)
 | str
 | sl (ks:List LK)
def B1d (l:List AV):AV:=match l with | [v]=>v | l=>.agg l
inductive Fit:LK→AV→Prop
 | bool (b:Bool):Fit .bool (.bool b)
 | int (k:IntKind) (n:Int) (h:(Lit.int k n).wf=true):Fit (.int k) (.int k n)
 | str (s:ByteArray) (h:s.size≤maxLen):Fit .str (.str s)
 | sl (ks:List LK) (n:Nat) (L:Nat→List AV) (hn:n≤maxLen) (hl:∀ i,i<n→(L i).length=ks.length) (hf:∀ (i j:Nat) (y:AV) (k:LK),i<n→(L i)[j]?=some y→ks[j]?=some k→Fit k y):Fit (.sl ks) (.arr ks.length n fun i=>B1d (L i))
theorem Fit.one {k:LK} {v:AV} (h:Fit k v):v.one=true:=by cases h<;>rfl
theorem B7I {v:AV} (h:v.one=true):cellsOf v=[v]:=by cases v<;>first | rfl | cases h
theorem B1h {l:List AV} (h:∀ v∈l,v.one=true):cellsOf (B1d l)=l:=by
 unfold B1d
 split
 ·exact B7I (h _ (List.mem_singleton.2 rfl))
 ·rfl
theorem B9t (a:Addr) (n m:Nat):a.add (n+m)=(a.add n).add m:=by
 unfold Addr.add
 by_cases h:n=0
 ·subst h;simp
 ·by_cases k:m=0
  ·subst k;simp [h]
  ·simp [h,k,Nat.add_assoc]
def A8P (P:Program) (r:TypeId→Option (List LK)):List Field→Nat→Option (List LK)
 | [],_=>some []
 | f::fs,o=>match Nat.beq f.offset o,r f.type with
  | true,some ks=>(match Nat.beq (P.cellsOf f.type) ks.length,A8P P r fs (o+ks.length) with
   | true,some l=>some (ks++l)
   | _,_=>none)
  | _,_=>none
def A5z (P:Program):Nat→TypeId→Option (List LK)
 | 0,_=>none
 | n+1,t=>match P.underlying t with
  | some .bool=>some [.bool]
  | some (.int k)=>some [.int k]
  | some .string=>some [.str]
  | some (.slice e)=>(match A5z P n e with
   | some ks=>(match Nat.beq (P.cellsOf e) ks.length with | true=>some [.sl ks] | false=>none)
   | none=>none)
  | some (.struct fs)=>(match A8P P (A5z P n) fs.toList 0 with
   | some ks=>(match Nat.beq (P.cellsOf t) ks.length with | true=>some ks | false=>none)
   | none=>none)
  | _=>none
structure FitL (w:World) (ks:List LK) (l:List AV) (cs:List Value):Prop where
 len:l.length=ks.length
 clen:cs.length=ks.length
 fit:∀ (j:Nat) (y:AV) (k:LK),l[j]?=some y→ks[j]?=some k→Fit k y
 rep:∀ (j:Nat) (y:AV) (c:Value),l[j]?=some y→cs[j]?=some c→L0 w st0 y c
theorem FitL.one {w:World} {ks:List LK} {l:List AV} {cs:List Value} (h:FitL w ks l cs):∀ v∈l,v.one=true:=fun v hv=>by
 obtain ⟨j,hj,rfl⟩:=List.getElem_of_mem hv
 exact (h.fit j _ (ks[j]'(by rw [←h.len];exact hj)) (List.getElem?_eq_getElem hj) (List.getElem?_eq_getElem (by rw [←h.len];exact hj))).one
theorem FitL.nil (w:World):FitL w [] [] []:=⟨rfl,rfl,fun j y k h=>by simp at h,fun j y c h=>by simp at h⟩
theorem FitL.app {w:World} {ks ks':List LK} {l l':List AV} {cs cs':List Value} (h:FitL w ks l cs) (h':FitL w ks' l' cs'):FitL w (ks++ks') (l++l') (cs++cs'):=by
 have h1:=h.len;have h2:=h.clen;have h3:=h'.len;have h4:=h'.clen
 refine ⟨by simp [h1,h3],by simp [h2,h4],fun j y k hy hk=>?_,fun j y c hy hc=>?_⟩
 ·by_cases hj:j<l.length
  ·rw [List.getElem?_append_left hj] at hy;rw [List.getElem?_append_left (by omega)] at hk;exact h.fit j y k hy hk
  ·rw [List.getElem?_append_right (by omega)] at hy;rw [List.getElem?_append_right (by omega)] at hk
   rw [show j - l.length=j - ks.length by omega] at hy;exact h'.fit _ y k hy hk
 ·by_cases hj:j<l.length
  ·rw [List.getElem?_append_left hj] at hy;rw [List.getElem?_append_left (by omega)] at hc;exact h.rep j y c hy hc
  ·rw [List.getElem?_append_right (by omega)] at hy;rw [List.getElem?_append_right (by omega)] at hc
   rw [show j - l.length=j - cs.length by omega] at hy;exact h'.rep _ y c hy hc
theorem FitL.single {w:World} {k:LK} {v:AV} {c:Value} (h:Fit k v) (hr:L0 w st0 v c):FitL w [k] [v] [c] :=
 ⟨rfl,rfl,fun j y k' hy hk=>by cases j<;>simp at hy hk;subst hy;subst hk;exact h,fun j y c' hy hc=>by cases j<;>simp at hy hc;subst hy;subst hc;exact hr⟩
section
variable {H:Type} {enc:TypeId×Value→H} {P:Program} {w:World} {base:Nat} {spare:Nat→Bool} {held:Bool}
theorem A8o {n m:Nat} (ih:∀ (t:TypeId) (ks:List LK) (cs:List Value) (x:DataW H×List MemPlace),A5z P n t=some ks→DataW.trod enc P w base spare held m t cs=some x→∃ l,FitL w ks l cs) {cs:List Value} :
  ∀ (fs:List Field) (o:Nat) (ks:List LK),A8P P (A5z P n) fs o=some ks→(∀ f∈fs,∃ x,DataW.trod enc P w base spare held m f.type ((cs.drop f.offset).take (P.cellsOf f.type))=some x)→∃ l,FitL w ks l ((cs.drop o).take ks.length)
 | [],o,ks,h,_=>by cases h;exact ⟨[],by simpa using FitL.nil w⟩
 | f::fs,o,ks,h,hx=>by
  unfold A8P at h
  split at h
  ·rename_i k1 ho hk1
   split at h
   ·rename_i k2 hc hk2
    cases h
    have ho:=Nat.eq_of_beq_eq_true ho
    have hc:=Nat.eq_of_beq_eq_true hc
    obtain ⟨x,h1⟩:=hx f (List.mem_cons_self ..)
    rw [ho,hc] at h1
    obtain ⟨l1,g1⟩:=ih f.type k1 _ x hk1 h1
    obtain ⟨l2,g2⟩:=A8o ih fs (o+k1.length) k2 hk2 fun f' hf=>hx f' (List.mem_cons_of_mem _ hf)
    refine ⟨l1++l2,?_⟩
    have e:(cs.drop o).take (k1++k2).length=(cs.drop o).take k1.length++(cs.drop (o+k1.length)).take k2.length:=by
     rw [List.length_append,List.take_add,List.drop_drop]
    rw [e];exact g1.app g2
   ·cases h
  ·cases h
theorem open_kinds:∀ (n m:Nat) (t:TypeId) (ks:List LK) (cs:List Value) (x:DataW H×List MemPlace),A5z P n t=some ks→DataW.trod enc P w base spare held m t cs=some x→∃ l,FitL w ks l cs
 | 0,m,t,ks,cs,x,h,_=>by cases h
 | n+1,m,t,ks,cs,x,h,hx=>by
  unfold A5z at h
  split at h
  ·rename_i ht;cases h;obtain ⟨b,rfl,_⟩:=DataW.trod_bool ht hx;exact ⟨[.bool b],.single (.bool b) (.bool b)⟩
  ·rename_i k ht;cases h;obtain ⟨i,rfl,_,hw⟩:=DataW.trod_int ht hx;exact ⟨[.int k i],.single (.int k i hw) (.int k i)⟩
  ·rename_i ht;cases h;obtain ⟨s,rfl,_,hs⟩:=DataW.trod_string ht hx;exact ⟨[.str s],.single (.str s hs) (.str s)⟩
  ·rename_i e ht
   split at h
   case h_2=>cases h
   rename_i ks' hk
   split at h
   case h_2=>cases h
   rename_i hb
   cases h
   have hb:=Nat.eq_of_beq_eq_true hb
   rcases DataW.trod_slice ht hx with ⟨rfl,_⟩ | ⟨a,len,cap,elems,rest,m',rfl,rfl,_,hba,hl,hm,hlen,hel,_,_⟩
   ·exact ⟨[.arr ks'.length 0 (fun _=>B1d [])],.single (.sl ks' 0 (fun _=>[]) (Nat.zero_le _) (fun i hi=>absurd hi (by omega)) (fun i j y k hi=>absurd hi (by omega))) (.arr _ 0 _ none 0 (fun _ _=>undef) (Nat.le_refl _) (fun h=>absurd h (by omega)) (fun i hi=>absurd hi (by omega)) (fun i hi=>absurd hi (by omega)) (fun a ha=>by cases ha) (fun i j y hi=>absurd hi (by omega)))⟩
   ·have hall:∀ i,∃ p:List AV×List Value,i<len→w.cells? base (a.add (i * P.cellsOf e)) (P.cellsOf e)=some p.2∧FitL w ks' p.1 p.2:=fun i=>by
     by_cases hi:i<len
     ·have h1:=hel i hi
      rw [List.getElem?_eq_getElem (by omega),Option.bind_eq_some_iff] at h1
      obtain ⟨c1,h2,h3⟩:=h1
      obtain ⟨l,h4⟩:=open_kinds n m' e ks' c1 _ hk h3
      exact ⟨(l,c1),fun _=>⟨h2,h4⟩⟩
     ·exact ⟨([],[]),fun h=>absurd h hi⟩
    obtain ⟨p,hp⟩:=Classical.axiomOfChoice hall
    refine ⟨[.arr ks'.length len (fun i=>B1d (p i).1)],.single (.sl ks' len (fun i=>(p i).1) (by omega) (fun i hi=>(hp i hi).2.len) (fun i j y k hi=>(hp i hi).2.fit j y k)) ?_⟩
    have hc:∀ i,i<len→cellsOf (B1d (p i).1)=(p i).1:=fun i hi=>B1h (hp i hi).2.one
    refine .arr _ len _ (some a) cap (fun i j=>(p i).2.getD j undef) hl (fun _=>⟨a,rfl⟩) (fun i hi=>by rw [hc i hi];exact (hp i hi).2.len) (fun i hi=>by rw [hc i hi];exact List.all_eq_true.2 (hp i hi).2.one) (fun b hb' i j hi hj=>?_) (fun i j y hi hy=>?_)
    ·cases hb'
     have h5:=(World.cells?_some (hp i hi).1)
     have h6:=h5.2.2 j (by omega)
     have hj2:j<(p i).2.length:=by rw [(hp i hi).2.clen];exact hj
     show w.cell? _=_
     rw [List.getD_eq_getElem?_getD,List.getElem?_eq_getElem hj2,Option.getD_some]
     rw [List.getElem?_eq_getElem hj2] at h6
     rw [←h6,hb];show w.cell? _=w.cell? _;rw [B9t]
    ·rw [hc i hi] at hy
     have hj:j<(p i).1.length:=(List.getElem?_eq_some_iff.1 hy).1
     have hj2:j<(p i).2.length:=by rw [(hp i hi).2.clen,←(hp i hi).2.len];exact hj
     rw [List.getD_eq_getElem?_getD,List.getElem?_eq_getElem hj2,Option.getD_some]
     exact (hp i hi).2.rep j y _ hy (List.getElem?_eq_getElem hj2)
  ·rename_i fs ht
   split at h
   case h_2=>cases h
   rename_i ks' hk
   split at h
   case h_2=>cases h
   rename_i hb
   cases h
   have hb:=Nat.eq_of_beq_eq_true hb
   obtain ⟨xs,m',rfl,_,hlen,hxl,hf⟩:=DataW.trod_struct ht hx
   obtain ⟨l,hl⟩:=A8o (fun t ks cs x=>open_kinds n m' t ks cs x) (cs:=cs) fs.toList 0 ks hk fun f hfm=>by
    obtain ⟨i,hi,rfl⟩:=List.getElem_of_mem hfm
    have:=hf i fs[i] (by simp at hi;simp [hi])
    rw [List.getElem?_eq_getElem (by simp at hi;omega)] at this
    exact ⟨_,by simpa using this⟩
   refine ⟨l,?_⟩
   rw [List.drop_zero,List.take_of_length_le (by omega)] at hl
   exact hl
  ·cases h
end
end Go.Ab
namespace Go.Ab
open Go
abbrev A4t (ks:List LK) (L:List AV):Prop:=L.length=ks.length∧∀ (j:Nat) (y:AV) (k:LK),L[j]?=some y→ks[j]?=some k→Fit k y
abbrev A8C {α : Type} (ks:List LK) (enc : α→AV) (Q : α→Prop):Prop:=∀ L:List AV,A4t ks L→∃ x,F7 L (cellsOf (enc x))∧(cellsOf (enc x)).all AV.one=true∧Q x
theorem Fit.inv_str {y:AV} (h:Fit .str y):∃ s:D6,y=eS s∧s.size≤maxLen:=by cases h with | str s hs=>exact ⟨s,rfl,hs⟩
theorem Fit.inv_int {y:AV} (h:Fit (.int .i64) y):∃ n:Int,y=eI n∧(Lit.int .i64 n).wf=true:=by cases h with | int k n hn=>exact ⟨n,rfl,hn⟩
theorem Fit.inv_bool {y:AV} (h:Fit .bool y):∃ b:Bool,y=eB b:=by cases h with | bool b=>exact ⟨b,rfl⟩
theorem Fit.inv_sl {α : Type} [Inhabited α] {ks:List LK} {y:AV} {enc : α→AV} {Q : α→Prop} (hd:A8C ks enc Q) (h:Fit (.sl ks) y) :
  ∃ l:List α,Le y (B2 ks.length enc l)∧l.length≤maxLen∧∀ x∈l,Q x:=by
 cases h with
 | sl ks n L hn hl hf =>
  have h1:∀ i,∃ x,i<n→F7 (L i) (cellsOf (enc x))∧(cellsOf (enc x)).all AV.one=true∧Q x:=fun i=>by
   by_cases hi:i<n
   ·obtain ⟨x,hx⟩:=hd (L i) ⟨hl i hi,fun j y k=>hf i j y k hi⟩
    exact ⟨x,fun _=>hx⟩
   ·exact ⟨default,fun h=>absurd h hi⟩
  obtain ⟨g,hg⟩:=Classical.axiomOfChoice h1
  have hlen:((List.range n).map g).length=n:=by rw [List.length_map,List.length_range]
  refine ⟨(List.range n).map g,?_,by rw [hlen];exact hn,fun x hx=>?_⟩
  ·unfold B2
   rw [hlen]
   refine Le.arr fun i hi=>?_
   have e:((List.range n).map g).getD i default=g i:=by
    rw [List.getD_eq_getElem?_getD,List.getElem?_map,List.getElem?_range hi];rfl
   have one:∀ v∈L i,v.one=true:=fun v hv=>by
    obtain ⟨j,hj,rfl⟩:=List.getElem_of_mem hv
    exact (hf i j _ (ks[j]'(by rw [←hl i hi];exact hj)) hi (List.getElem?_eq_getElem hj) (List.getElem?_eq_getElem (by rw [←hl i hi];exact hj))).one
   rw [e,B1h one]
   exact ⟨(hg i hi).1,(hg i hi).2.1⟩
  ·obtain ⟨i,hi,rfl⟩:=List.mem_map.1 hx
   exact (hg i (List.mem_range.1 hi)).2.2
theorem FitL.slice {α : Type} [Inhabited α] {w:World} {ks:List LK} {l:List AV} {c:Value} {enc : α→AV} {Q : α→Prop} (hd:A8C ks enc Q) (h:FitL w [.sl ks] l [c]) :
  ∃ x:List α,L0 w st0 (B2 ks.length enc x) c∧x.length≤maxLen∧∀ y∈x,Q y:=by
 obtain ⟨y,rfl⟩:=List.length_eq_one_iff.1 h.len
 obtain ⟨x,h1,h2,h3⟩:=(h.fit 0 y (.sl ks) rfl rfl).inv_sl hd
 exact ⟨x,h1 _ _ _ (h.rep 0 y c rfl rfl),h2,h3⟩
theorem C9c {k0 k1 k2:LK} {L:List AV} (h:A4t [k0,k1,k2] L):∃ a b c,L=[a,b,c]∧Fit k0 a∧Fit k1 b∧Fit k2 c:=by
 obtain ⟨h1,h2⟩:=h
 match L,h1 with
 | [a,b,c],_=>exact ⟨a,b,c,rfl,h2 0 _ _ rfl rfl,h2 1 _ _ rfl rfl,h2 2 _ _ rfl rfl⟩
abbrev kLine:List LK:=[.str,.int .i64,.int .i64]
theorem decLine:A8C kLine H2 fun _=>True:=fun L h=>by
 obtain ⟨a,b,c,rfl,ha,hb,hc⟩:=C9c h
 obtain ⟨a,rfl,_⟩:=ha.inv_str
 obtain ⟨b,rfl,_⟩:=hb.inv_int
 obtain ⟨c,rfl,_⟩:=hc.inv_int
 exact ⟨⟨a,b,c⟩,F7.refl _,rfl,trivial⟩
theorem C3P {k0:LK} {L:List AV} (h:A4t [k0] L):∃ x0,L=[x0]∧Fit k0 x0:=by
 obtain ⟨h1,h2⟩:=h
 match L,h1 with
 | [x0],_=>exact ⟨x0,rfl,h2 0 _ _ rfl rfl⟩
theorem C5O {k0 k1:LK} {L:List AV} (h:A4t [k0,k1] L):∃ x0 x1,L=[x0,x1]∧Fit k0 x0∧Fit k1 x1:=by
 obtain ⟨h1,h2⟩:=h
 match L,h1 with
 | [x0,x1],_=>exact ⟨x0,x1,rfl,h2 0 _ _ rfl rfl,h2 1 _ _ rfl rfl⟩
theorem C3Q {k0 k1 k2:LK} {L:List AV} (h:A4t [k0,k1,k2] L):∃ x0 x1 x2,L=[x0,x1,x2]∧Fit k0 x0∧Fit k1 x1∧Fit k2 x2:=by
 obtain ⟨h1,h2⟩:=h
 match L,h1 with
 | [x0,x1,x2],_=>exact ⟨x0,x1,x2,rfl,h2 0 _ _ rfl rfl,h2 1 _ _ rfl rfl,h2 2 _ _ rfl rfl⟩
theorem C3R {k0 k1 k2 k3:LK} {L:List AV} (h:A4t [k0,k1,k2,k3] L):∃ x0 x1 x2 x3,L=[x0,x1,x2,x3]∧Fit k0 x0∧Fit k1 x1∧Fit k2 x2∧Fit k3 x3:=by
 obtain ⟨h1,h2⟩:=h
 match L,h1 with
 | [x0,x1,x2,x3],_=>exact ⟨x0,x1,x2,x3,rfl,h2 0 _ _ rfl rfl,h2 1 _ _ rfl rfl,h2 2 _ _ rfl rfl,h2 3 _ _ rfl rfl⟩
theorem C4E {k0 k1 k2 k3 k4 k5 k6 k7 k8 k9 k10 k11 k12 k13:LK} {L:List AV} (h:A4t [k0,k1,k2,k3,k4,k5,k6,k7,k8,k9,k10,k11,k12,k13] L):∃ x0 x1 x2 x3 x4 x5 x6 x7 x8 x9 x10 x11 x12 x13,L=[x0,x1,x2,x3,x4,x5,x6,x7,x8,x9,x10,x11,x12,x13]∧Fit k0 x0∧Fit k1 x1∧Fit k2 x2∧Fit k3 x3∧Fit k4 x4∧Fit k5 x5∧Fit k6 x6∧Fit k7 x7∧Fit k8 x8∧Fit k9 x9∧Fit k10 x10∧Fit k11 x11∧Fit k12 x12∧Fit k13 x13:=by
 obtain ⟨h1,h2⟩:=h
 match L,h1 with
 | [x0,x1,x2,x3,x4,x5,x6,x7,x8,x9,x10,x11,x12,x13],_=>exact ⟨x0,x1,x2,x3,x4,x5,x6,x7,x8,x9,x10,x11,x12,x13,rfl,h2 0 _ _ rfl rfl,h2 1 _ _ rfl rfl,h2 2 _ _ rfl rfl,h2 3 _ _ rfl rfl,h2 4 _ _ rfl rfl,h2 5 _ _ rfl rfl,h2 6 _ _ rfl rfl,h2 7 _ _ rfl rfl,h2 8 _ _ rfl rfl,h2 9 _ _ rfl rfl,h2 10 _ _ rfl rfl,h2 11 _ _ rfl rfl,h2 12 _ _ rfl rfl,h2 13 _ _ rfl rfl⟩
theorem C4F {k0 k1 k2 k3 k4 k5 k6 k7 k8 k9 k10 k11 k12 k13 k14:LK} {L:List AV} (h:A4t [k0,k1,k2,k3,k4,k5,k6,k7,k8,k9,k10,k11,k12,k13,k14] L):∃ x0 x1 x2 x3 x4 x5 x6 x7 x8 x9 x10 x11 x12 x13 x14,L=[x0,x1,x2,x3,x4,x5,x6,x7,x8,x9,x10,x11,x12,x13,x14]∧Fit k0 x0∧Fit k1 x1∧Fit k2 x2∧Fit k3 x3∧Fit k4 x4∧Fit k5 x5∧Fit k6 x6∧Fit k7 x7∧Fit k8 x8∧Fit k9 x9∧Fit k10 x10∧Fit k11 x11∧Fit k12 x12∧Fit k13 x13∧Fit k14 x14:=by
 obtain ⟨h1,h2⟩:=h
 match L,h1 with
 | [x0,x1,x2,x3,x4,x5,x6,x7,x8,x9,x10,x11,x12,x13,x14],_=>exact ⟨x0,x1,x2,x3,x4,x5,x6,x7,x8,x9,x10,x11,x12,x13,x14,rfl,h2 0 _ _ rfl rfl,h2 1 _ _ rfl rfl,h2 2 _ _ rfl rfl,h2 3 _ _ rfl rfl,h2 4 _ _ rfl rfl,h2 5 _ _ rfl rfl,h2 6 _ _ rfl rfl,h2 7 _ _ rfl rfl,h2 8 _ _ rfl rfl,h2 9 _ _ rfl rfl,h2 10 _ _ rfl rfl,h2 11 _ _ rfl rfl,h2 12 _ _ rfl rfl,h2 13 _ _ rfl rfl,h2 14 _ _ rfl rfl⟩
abbrev QT {α : Type} (_ : α):Prop:=True
abbrev kStr:List LK:=[.str]
theorem decStr:A8C kStr eS QT:=fun L h=>by
 obtain ⟨a,rfl,ha⟩:=C3P h
 obtain ⟨a,rfl,_⟩:=ha.inv_str
 exact ⟨a,F7.refl _,rfl,trivial⟩
abbrev C4H:List LK:=[.int .i64]
theorem B9Q:A8C C4H eI QT:=fun L h=>by
 obtain ⟨a,rfl,ha⟩:=C3P h
 obtain ⟨a,rfl,_⟩:=ha.inv_int
 exact ⟨a,F7.refl _,rfl,trivial⟩
abbrev C3W:List LK:=[.int .i64,.int .i64,.int .i64]
theorem C2p:A8C C3W P7 QT:=fun L h=>by
 obtain ⟨a0,a1,a2,rfl,h0,h1,h2⟩:=C3Q h
 obtain ⟨a0,rfl,_⟩:=h0.inv_int
 obtain ⟨a1,rfl,_⟩:=h1.inv_int
 obtain ⟨a2,rfl,_⟩:=h2.inv_int
 exact ⟨⟨a0,a1,a2⟩,F7.cons (Le.refl _) (F7.cons (Le.refl _) (F7.cons (Le.refl _) (F7.nil))),rfl,trivial⟩
abbrev C3V:List LK:=[.sl kStr,.sl kStr,.int .i64]
theorem C2o:A8C C3V S7 QT:=fun L h=>by
 obtain ⟨a0,a1,a2,rfl,h0,h1,h2⟩:=C3Q h
 obtain ⟨b0,e0,_,_⟩:=h0.inv_sl decStr
 obtain ⟨b1,e1,_,_⟩:=h1.inv_sl decStr
 obtain ⟨a2,rfl,_⟩:=h2.inv_int
 exact ⟨⟨⟨b0,b1⟩,a2⟩,F7.cons (e0) (F7.cons (e1) (F7.cons (Le.refl _) (F7.nil))),rfl,trivial⟩
abbrev C3U:List LK:=[.str,.str,.int .i64,.bool]
theorem C2n:A8C C3U F1 QT:=fun L h=>by
 obtain ⟨a0,a1,a2,a3,rfl,h0,h1,h2,h3⟩:=C3R h
 obtain ⟨a0,rfl,_⟩:=h0.inv_str
 obtain ⟨a1,rfl,_⟩:=h1.inv_str
 obtain ⟨a2,rfl,_⟩:=h2.inv_int
 obtain ⟨a3,rfl⟩:=h3.inv_bool
 exact ⟨⟨a0,a1,a2,a3⟩,F7.cons (Le.refl _) (F7.cons (Le.refl _) (F7.cons (Le.refl _) (F7.cons (Le.refl _) (F7.nil)))),rfl,trivial⟩
abbrev B3H:List LK:=[.str,.int .i64]
theorem B5h:A8C B3H A0c QT:=fun L h=>by
 obtain ⟨a0,a1,rfl,h0,h1⟩:=C5O h
 obtain ⟨a0,rfl,_⟩:=h0.inv_str
 obtain ⟨a1,rfl,_⟩:=h1.inv_int
 exact ⟨⟨a0,a1⟩,F7.cons (Le.refl _) (F7.cons (Le.refl _) (F7.nil)),rfl,trivial⟩
abbrev C3X:List LK:=[.str,.sl B3H,.int .i64,.int .i64]
theorem C2q:A8C C3X Q3 QT:=fun L h=>by
 obtain ⟨a0,a1,a2,a3,rfl,h0,h1,h2,h3⟩:=C3R h
 obtain ⟨a0,rfl,_⟩:=h0.inv_str
 obtain ⟨b1,e1,_,_⟩:=h1.inv_sl B5h
 obtain ⟨a2,rfl,_⟩:=h2.inv_int
 obtain ⟨a3,rfl,_⟩:=h3.inv_int
 exact ⟨⟨a0,b1,a2,a3⟩,F7.cons (Le.refl _) (F7.cons (e1) (F7.cons (Le.refl _) (F7.cons (Le.refl _) (F7.nil)))),rfl,trivial⟩
abbrev C0i:List LK:=[.str,.int .i64,.int .i64,.str,.str,.bool,.sl kStr,.sl kStr,.int .i64,.int .i64,.int .i64,.int .i64,.int .i64,.sl C3V,.sl C3W]
theorem B9R:A8C C0i C1 QT:=fun L h=>by
 obtain ⟨a0,a1,a2,a3,a4,a5,a6,a7,a8,a9,a10,a11,a12,a13,a14,rfl,h0,h1,h2,h3,h4,h5,h6,h7,h8,h9,h10,h11,h12,h13,h14⟩:=C4F h
 obtain ⟨a0,rfl,_⟩:=h0.inv_str
 obtain ⟨a1,rfl,_⟩:=h1.inv_int
 obtain ⟨a2,rfl,_⟩:=h2.inv_int
 obtain ⟨a3,rfl,_⟩:=h3.inv_str
 obtain ⟨a4,rfl,_⟩:=h4.inv_str
 obtain ⟨a5,rfl⟩:=h5.inv_bool
 obtain ⟨b6,e6,_,_⟩:=h6.inv_sl decStr
 obtain ⟨b7,e7,_,_⟩:=h7.inv_sl decStr
 obtain ⟨a8,rfl,_⟩:=h8.inv_int
 obtain ⟨a9,rfl,_⟩:=h9.inv_int
 obtain ⟨a10,rfl,_⟩:=h10.inv_int
 obtain ⟨a11,rfl,_⟩:=h11.inv_int
 obtain ⟨a12,rfl,_⟩:=h12.inv_int
 obtain ⟨b13,e13,_,_⟩:=h13.inv_sl C2o
 obtain ⟨b14,e14,_,_⟩:=h14.inv_sl C2p
 exact ⟨⟨a0,a1,a2,a3,a4,a5,⟨b6,b7⟩,a8,a9,a10,a11,a12,b13,b14⟩,F7.cons (Le.refl _) (F7.cons (Le.refl _) (F7.cons (Le.refl _) (F7.cons (Le.refl _) (F7.cons (Le.refl _) (F7.cons (Le.refl _) (F7.cons (e6) (F7.cons (e7) (F7.cons (Le.refl _) (F7.cons (Le.refl _) (F7.cons (Le.refl _) (F7.cons (Le.refl _) (F7.cons (Le.refl _) (F7.cons (e13) (F7.cons (e14) (F7.nil))))))))))))))),rfl,trivial⟩
abbrev kRules:List LK:=[.sl C3U,.sl C0i,.bool,.bool,.int .i64,.sl C3X,.int .i64,.int .i64,.int .i64,.int .i64,.int .i64,.int .i64,.sl C4H,.sl C4H]
theorem B9S:A8C kRules H6 QT:=fun L h=>by
 obtain ⟨a0,a1,a2,a3,a4,a5,a6,a7,a8,a9,a10,a11,a12,a13,rfl,h0,h1,h2,h3,h4,h5,h6,h7,h8,h9,h10,h11,h12,h13⟩:=C4E h
 obtain ⟨b0,e0,_,_⟩:=h0.inv_sl C2n
 obtain ⟨b1,e1,_,_⟩:=h1.inv_sl B9R
 obtain ⟨a2,rfl⟩:=h2.inv_bool
 obtain ⟨a3,rfl⟩:=h3.inv_bool
 obtain ⟨a4,rfl,_⟩:=h4.inv_int
 obtain ⟨b5,e5,_,_⟩:=h5.inv_sl C2q
 obtain ⟨a6,rfl,_⟩:=h6.inv_int
 obtain ⟨a7,rfl,_⟩:=h7.inv_int
 obtain ⟨a8,rfl,_⟩:=h8.inv_int
 obtain ⟨a9,rfl,_⟩:=h9.inv_int
 obtain ⟨a10,rfl,_⟩:=h10.inv_int
 obtain ⟨a11,rfl,_⟩:=h11.inv_int
 obtain ⟨b12,e12,_,_⟩:=h12.inv_sl B9Q
 obtain ⟨b13,e13,_,_⟩:=h13.inv_sl B9Q
 exact ⟨⟨b0,b1,⟨a2,a3,a4,b5⟩,⟨a6,a7⟩,⟨a8,a9,a10,a11,b12,b13⟩⟩,F7.cons (e0) (F7.cons (e1) (F7.cons (Le.refl _) (F7.cons (Le.refl _) (F7.cons (Le.refl _) (F7.cons (e5) (F7.cons (Le.refl _) (F7.cons (Le.refl _) (F7.cons (Le.refl _) (F7.cons (Le.refl _) (F7.cons (Le.refl _) (F7.cons (Le.refl _) (F7.cons (e12) (F7.cons (e13) (F7.nil)))))))))))))),rfl,trivial⟩
theorem FitL.rules {w:World} {l:List AV} {cs:List Value} (h:FitL w kRules l cs):∃ r:I4,L0 w st0 (H6 r) (.agg cs.toArray):=by
 obtain ⟨r,h1,_,_⟩:=B9S l ⟨h.len,h.fit⟩
 refine ⟨r,?_⟩
 have h0:L0 w st0 (.agg l) (.agg cs.toArray):=.agg _ _ (by rw [h.len,←h.clen];simp) fun j y c hy hc=>h.rep j y c hy (by simpa using hc)
 exact (Le.agg h1) _ _ _ h0
end Go.Ab
namespace Go.Ab
open Go
theorem an {a b:Bool} (h:a=true) (k:b=true):(a&&b)=true:=by rw [h,k];rfl
def kindsFit (P:Program) (fn:Func) (c:OpenClaim):Bool:=(c.kinds==(if c.domain.isEmpty then [] else fn.params.toList.map fun t=>match P.underlying t with | some (.int k)=>some k | _=>none))
theorem joined_of {P:Program} {f:FuncId} {fn:Func} {s:ChangeSpec} {c:OpenClaim} (h1:(c.wf (OpenSpec.ofChange s))=true) (h2:(laidOutB P)=true) (h3:(mapsRowed P)=true) (h4:(fn.params.all (P.readableRec ·))=true) (h5:(namedTie P c.named s.vars)=true) (h6:(c.stops==[])=true) (h7:(P.stops==[])=true) (h8:(c.knobs==[])=true) (h9:(P.stopKnobs==[])=true) (h10:(c.inPlace==P.inPlace f)=true) (h11:(c.unfollowed==P.unfollowed f)=true) (h12:(c.recurses==P.recurses f)=true) (h13:(c.named==P.varsNamed f)=true) (h14:(c.maps==(fn.params.toList++s.plain.varTypes P).any (P.mapsRec ·))=true) (h15:(c.ifaces==(fn.params.toList++s.plain.varTypes P).any (P.ifacesRec ·))=true) (h16:(c.mapsOut==P.mapsAmong fn.resultTypes.toList)=true) (h17:(c.loops==(fn.params.toList++s.plain.varTypes P).any (P.loopsFrom ·))=true) (h18:(c.wideKeys==(fn.params.toList++s.plain.varTypes P++fn.resultTypes.toList).any (P.wideKeysFrom ·))=true) (h19:(s.vars.all (P.varReadable ·))=true) (h20:(fn.resultTypes.all (fun t=>P.readableRec t&&decide (t<P.types.size)))=true) (h21:(c.ifacesOut==fn.resultTypes.toList.any (P.ifacesRec ·))=true) (h22:(c.loopsOut==fn.resultTypes.toList.any (P.loopsFrom ·))=true) (h23:(c.plainKeys==P.plainKeys)=true) (h24:c.shortTexts.isNone=true) (h25:P.stopsHeard=true) (h26:P.mayEnter=true) (h27:(c.lifted==P.liftsFinal)=true) (h28:(P.make==some c.make)=true) (h29:kindsFit P fn c=true) (h30:(c.pinned==c.pinnedBy)=true) (h31:(c.veiled==(fn.params.toList++s.plain.varTypes P++fn.resultTypes.toList).any (P.veiledRec ·))=true) (h32:(c.veiledFits P fn.params.toList (fn.params.toList++s.plain.varTypes P++fn.resultTypes.toList))=true):joinedFacts P f fn s c=true:=an (an (an (an (an (an (an (an (an (an (an (an (an (an (an (an (an (an (an (an (an (an (an (an (an (an (an (an (an (an (an (h1) h2) h3) h4) h5) h6) h7) h8) h9) h10) h11) h12) h13) h14) h15) h16) h17) h18) h19) h20) h21) h22) h23) h24) h25) h26) h27) h28) h29) h30) h31) h32
end Go.Ab
namespace Go.Proofs.YthdimklenlikgaaGreat.closed
open Go
theorem p2:(laidOutB Tryz.prog)=true:=by kernel_rfl
theorem p3:(mapsRowed Tryz.prog)=true:=by kernel_rfl
theorem p7:(Tryz.prog.stops==[])=true:=by kernel_rfl
theorem p9:(Tryz.prog.stopKnobs==[])=true:=by kernel_rfl
theorem p25:(Tryz.prog.stopsHeard)=true:=by kernel_rfl
theorem p26:(Tryz.prog.mayEnter)=true:=by kernel_rfl
end Go.Proofs.YthdimklenlikgaaGreat.closed
namespace Go.Proofs.YthdimklenlikgaaGreat.quoteAll
open Go.ChangeShapes Go.WideShapes Go.ChangeAt Go.RowKit
open Go.ChangeMaps (open_string shut_string)
theorem c1:(Rows.quoteAllRow.wf (OpenSpec.ofChange Rows.quoteAllSpec))=true:=by kernel_rfl
theorem c4:(Tryz.f9.params.all (Tryz.prog.readableRec ·))=true:=by kernel_rfl
theorem c5:(namedTie Tryz.prog Rows.quoteAllRow.named Rows.quoteAllSpec.vars)=true:=by kernel_rfl
theorem c6:((Rows.quoteAllRow.stops==[]))=true:=by kernel_rfl
theorem c8:((Rows.quoteAllRow.knobs==[]))=true:=by kernel_rfl
theorem c10:((Rows.quoteAllRow.inPlace==Tryz.prog.inPlace 9))=true:=by kernel_rfl
theorem c11:((Rows.quoteAllRow.unfollowed==Tryz.prog.unfollowed 9))=true:=by kernel_rfl
theorem c12:((Rows.quoteAllRow.recurses==Tryz.prog.recurses 9))=true:=by kernel_rfl
theorem c13:((Rows.quoteAllRow.named==Tryz.prog.varsNamed 9))=true:=by kernel_rfl
theorem c14:((Rows.quoteAllRow.maps==(Tryz.f9.params.toList++Rows.quoteAllSpec.plain.varTypes Tryz.prog).any (Tryz.prog.mapsRec ·)))=true:=by kernel_rfl
theorem c15:((Rows.quoteAllRow.ifaces==(Tryz.f9.params.toList++Rows.quoteAllSpec.plain.varTypes Tryz.prog).any (Tryz.prog.ifacesRec ·)))=true:=by kernel_rfl
theorem c16:((Rows.quoteAllRow.mapsOut==Tryz.prog.mapsAmong Tryz.f9.resultTypes.toList))=true:=by kernel_rfl
theorem c17:((Rows.quoteAllRow.loops==(Tryz.f9.params.toList++Rows.quoteAllSpec.plain.varTypes Tryz.prog).any (Tryz.prog.loopsFrom ·)))=true:=by kernel_rfl
theorem c18:((Rows.quoteAllRow.wideKeys==(Tryz.f9.params.toList++Rows.quoteAllSpec.plain.varTypes Tryz.prog++Tryz.f9.resultTypes.toList).any (Tryz.prog.wideKeysFrom ·)))=true:=by kernel_rfl
theorem c19:(Rows.quoteAllSpec.vars.all (Tryz.prog.varReadable ·))=true:=by kernel_rfl
theorem c20:(Tryz.f9.resultTypes.all (fun t=>Tryz.prog.readableRec t&&decide (t<Tryz.prog.types.size)))=true:=by kernel_rfl
theorem c21:((Rows.quoteAllRow.ifacesOut==Tryz.f9.resultTypes.toList.any (Tryz.prog.ifacesRec ·)))=true:=by kernel_rfl
theorem c22:((Rows.quoteAllRow.loopsOut==Tryz.f9.resultTypes.toList.any (Tryz.prog.loopsFrom ·)))=true:=by kernel_rfl
theorem c23:((Rows.quoteAllRow.plainKeys==Tryz.prog.plainKeys))=true:=by kernel_rfl
theorem c24:(Rows.quoteAllRow.shortTexts.isNone)=true:=by kernel_rfl
theorem c27:((Rows.quoteAllRow.lifted==Tryz.prog.liftsFinal))=true:=by kernel_rfl
theorem c28:((Tryz.prog.make==some Rows.quoteAllRow.make))=true:=by kernel_rfl
theorem c29:Ab.kindsFit Tryz.prog Tryz.f9 Rows.quoteAllRow=true:=by kernel_rfl
theorem c30:((Rows.quoteAllRow.pinned==Rows.quoteAllRow.pinnedBy))=true:=by kernel_rfl
theorem c31:((Rows.quoteAllRow.veiled==(Tryz.f9.params.toList++Rows.quoteAllSpec.plain.varTypes Tryz.prog++Tryz.f9.resultTypes.toList).any (Tryz.prog.veiledRec ·)))=true:=by kernel_rfl
theorem c32:(Rows.quoteAllRow.veiledFits Tryz.prog Tryz.f9.params.toList (Tryz.f9.params.toList++Rows.quoteAllSpec.plain.varTypes Tryz.prog++Tryz.f9.resultTypes.toList))=true:=by kernel_rfl
theorem B7J:joinedFacts Tryz.prog 9 Tryz.f9 Rows.quoteAllSpec Rows.quoteAllRow=true:=Ab.joined_of c1 closed.p2 closed.p3 c4 c5 c6 closed.p7 c8 closed.p9 c10 c11 c12 c13 c14 c15 c16 c17 c18 c19 c20 c21 c22 c23 c24 closed.p25 closed.p26 c27 c28 c29 c30 c31 c32
theorem own:ownKnob Tryz.prog.godebug=none:=by kernel_rfl
theorem B2l:laidOutB Tryz.prog=true:=closed.p2
theorem C9W (c0:Array Value) (a1:Int) (a2:ByteArray) (a3:Bool) (c4:Value) (c5:Value) (w:World) (l0 l4 l5:List Ab.AV) (h0:Ab.FitL w Ab.kRules l0 c0.toList) (h4:Ab.FitL w [.sl Ab.kStr] l4 [c4]) (h5:Ab.FitL w [.sl Ab.kLine] l5 [c5]) :
  Calls Tryz.prog 9 #[.agg c0,.int .i64 a1,.string a2,.bool a3,c4,c5] w fun e w'=>e=.returned (.bool true)∧Below w.heap.size w w':=by
 obtain ⟨x0,r0⟩:=h0.rules
 obtain ⟨x4,r4,_,_⟩:=h4.slice Ab.decStr
 obtain ⟨x5,r5,_,_⟩:=h5.slice Ab.decLine
 refine Ab.law_of_S (B5L x0 a1 a2 a3 x4 x5 Ab.st0) ⟨rfl,fun j y c hy hc=>?_⟩
 match j with
 | 0=>cases hy;cases hc;exact r0
 | 1=>cases hy;cases hc;exact .int _ _
 | 2=>cases hy;cases hc;exact .str _
 | 3=>cases hy;cases hc;exact .bool _
 | 4=>cases hy;cases hc;exact r4
 | 5=>cases hy;cases hc;exact r5
 | j+6=>cases hy
set_option maxRecDepth 100000 in
theorem lifted (os:Os) (started:os.Started) (H:Type) (enc:TypeId×Value→H) :
  ReturnsInHanded {} Tryz.checked os 9 .any (Rows.quoteAllSpec.pre6 enc Tryz.prog Tryz.f9 Rows.quoteAllRow.domain false) (Rows.quoteAllSpec.post enc Tryz.prog Tryz.f9 false true false false):=by
 refine returnsInHanded_of_change_sized (C:=Tryz.checked) own started (by kernel_rfl) Tryz.func9
  (ChangeSpec.witness6 (enc:=enc) (C:=Tryz.checked) false ⟨#[],#[.agg #[.slice none 0 0,.slice none 0 0,.bool false,.bool false,.int .i64 0,.slice none 0 0,.int .i64 0,.int .i64 0,.int .i64 0,.int .i64 0,.int .i64 0,.int .i64 0,.slice none 0 0,.slice none 0 0],.int .i64 0,.string ByteArray.empty,.bool false,.slice none 0 0,.slice none 0 0],[]⟩ 12 (by kernel_rfl) (by kernel_rfl) (by kernel_rfl) (by kernel_rfl)) ?_
 intro W base args ds gs before hval0 hW hcnd hsz0 _
 have hval:∀ (j:Nat) t v,Tryz.f9.params[j]?=some t→args[j]?=some v→Value.okWide Tryz.prog W .any base t v:=hval0
 have hW':=hW
 obtain ⟨p,q,hA0,hV,rfl,hfz,hnd⟩:=hW
 have hA:DataW.TrodAll enc Tryz.prog W 0 (fun _=>true) true Tryz.f9.params.toList args.toList ds p:=hA0
 rw [Tryz.params9] at hA hval
 obtain ⟨v0,vs0,d0,ds0,p0,q0,hargs,rfl,rfl,h0,r0⟩:=trodAll_cons hA
 obtain ⟨v1,vs1,d1,ds1,p1,q1,rfl,rfl,rfl,h1,r1⟩:=trodAll_cons r0
 obtain ⟨v2,vs2,d2,ds2,p2,q2,rfl,rfl,rfl,h2,r2⟩:=trodAll_cons r1
 obtain ⟨v3,vs3,d3,ds3,p3,q3,rfl,rfl,rfl,h3,r3⟩:=trodAll_cons r2
 obtain ⟨v4,vs4,d4,ds4,p4,q4,rfl,rfl,rfl,h4,r4⟩:=trodAll_cons r3
 obtain ⟨v5,vs5,d5,ds5,p5,q5,rfl,rfl,rfl,h5,r5⟩:=trodAll_cons r4
 obtain ⟨rfl,rfl,rfl⟩:=trodAll_nil r5
 obtain rfl:args=#[v0,v1,v2,v3,v4,v5]:=by cases args;simp_all
 obtain ⟨rfl,rfl⟩:=trodVars_none hV
 obtain ⟨a0,rfl,_⟩:=okWide_struct Tryz.underlying33 (hval 0 33 v0 rfl rfl)
 obtain ⟨a1,rfl,rfl,rfl,w1⟩:=open_int Tryz.underlying3 (hval 1 3 v1 rfl rfl) h1
 obtain ⟨a2,rfl,rfl,rfl,w2⟩:=open_string Tryz.underlying9 (hval 2 9 v2 rfl rfl) h2
 obtain ⟨a3,rfl,rfl,rfl⟩:=open_bool Tryz.underlying4 (hval 3 4 v3 rfl rfl) h3
 obtain ⟨a4,len4,cap4,rfl⟩:=okWide_slice Tryz.underlying34 (hval 4 34 v4 rfl rfl)
 obtain ⟨a5,len5,cap5,rfl⟩:=okWide_slice Tryz.underlying35 (hval 5 35 v5 rfl rfl)
 have k0:=h0
 have lt0:∀ x∈p0,x.block<W.heap.size:=by obtain ⟨m,hm⟩:=k0;exact DataW.trod_lt m _ _ _ hm
 have k4:=h4
 have lt4:∀ x∈p4,x.block<W.heap.size:=by obtain ⟨m,hm⟩:=k4;exact DataW.trod_lt m _ _ _ hm
 have k5:=h5
 have lt5:∀ x∈p5,x.block<W.heap.size:=by obtain ⟨m,hm⟩:=k5;exact DataW.trod_lt m _ _ _ hm
 obtain ⟨l0,hl0⟩:∃ l,Ab.FitL W Ab.kRules l a0.toList:=by
  obtain ⟨fuel,hf⟩:=h0
  exact Ab.open_kinds 10 fuel 33 Ab.kRules _ _ (by kernel_rfl) hf
 obtain ⟨l4,hl4⟩:∃ l,Ab.FitL W [.sl Ab.kStr] l [.slice a4 len4 cap4]:=by
  obtain ⟨fuel,hf⟩:=h4
  exact Ab.open_kinds 3 fuel 34 [.sl Ab.kStr] _ _ (by kernel_rfl) hf
 obtain ⟨l5,hl5⟩:∃ l,Ab.FitL W [.sl Ab.kLine] l [.slice a5 len5 cap5]:=by
  obtain ⟨fuel,hf⟩:=h5
  exact Ab.open_kinds 4 fuel 35 [.sl Ab.kLine] _ _ (by kernel_rfl) hf
 clear hA0 hval0 hsz0
 refine (C9W a0 a1 a2 a3 _ _ W l0 l4 l5 hl0 hl4 hl5).mono fun e W' ⟨he,bel⟩=>?_
 subst he
 exact ⟨_,rfl,_,_,_,[],_,[],hW',trodAll_mk1 (shut_bool Tryz.underlying4 _),trodAll_cons_mk (Below.trod B2l (by kernel_rfl) (of_decide_eq_true (by kernel_rfl)) k0 bel lt0) (trodAll_cons_mk (shut_int Tryz.underlying3 w1) (trodAll_cons_mk (shut_string Tryz.underlying9 w2) (trodAll_cons_mk (shut_bool Tryz.underlying4 _) (trodAll_cons_mk (Below.trod B2l (by kernel_rfl) (of_decide_eq_true (by kernel_rfl)) k4 bel lt4) (trodAll_cons_mk (Below.trod B2l (by kernel_rfl) (of_decide_eq_true (by kernel_rfl)) k5 bel lt5) trodAll_mk0))))),rfl,bel.frame _,fun h=>by cases h⟩
theorem over:Rows.quoteAllRow.holds Tryz.pinned (OpenSpec.ofChange Rows.quoteAllSpec) :=
 OpenClaim.holds_of_wide 9 Tryz.f9 rfl rfl rfl rfl rfl rfl rfl ⟨rfl,rfl,rfl,rfl,rfl⟩ rfl rfl rfl rfl rfl (by kernel_rfl) Tryz.func9 B7J
  (of_decide_eq_true (by kernel_rfl)) (by unfold Func.isWrapper;first | (rw [if_pos (by decide +kernel)];kernel_rfl) | (rw [if_neg (by decide +kernel)];exact ⟨rfl,rfl⟩))
  (fun os started H enc _=>lifted os started H enc)
theorem proved:Rows.QuoteAllSaid:=over
#print axioms proved
end Go.Proofs.YthdimklenlikgaaGreat.quoteAll
namespace Go.Proofs.YthdimklenlikgaaGreat
theorem quoteAll_holds:Rows.QuoteAllSaid:=quoteAll.proved
end Go.Proofs.YthdimklenlikgaaGreat
