/- Part 12 of the proof: contracts -/
import Derived.Test.YtaapofnkmpiknaaGreatPt11
set_option linter.unusedVariables false
set_option linter.unusedSimpArgs false
namespace Go.Ab
open Go
inductive PT where
 | done
 | qui (i:Nat) (t:PT)
 | eff (i:Nat) (keep:List Nat) (t:PT)
 | two (i j:Nat) (ki kj:List Nat) (t u:PT)
def okP (ops:Array Oper) (eff:List Nat):PT→List Nat→Nat→Array Bool→Bool
 | .done,pd,n,listed=>n==0&&(Region.ready .any ops listed).isEmpty
 | .qui i t,pd,n,listed=>(match ops[i]? with
   | none=>false
   | some o=>(Region.ready .any ops listed).contains i&&Region.free .any ops listed i)&&Nat.blt 0 n&&okP ops eff t (match ops[i]? with | none=>pd | some o=>(match A1A o.op with | true=>pd | false=>i::pd)) (n - 1) (listed.setIfInBounds i true)
 | .eff i keep t,pd,n,listed=>eff.contains i&&(Region.ready .any ops listed==[i])&&(pd.all fun p=>keep.contains p||waitsC ops eff p i)&&Nat.blt 0 n&&okP ops eff t pd (n - 1) (listed.setIfInBounds i true)
 | .two i j ki kj t u,pd,n,listed=>eff.contains i&&eff.contains j&&(Region.ready .any ops listed==[i,j])&&(pd.all fun p=>ki.contains p||waitsC ops eff p i)&&(pd.all fun p=>kj.contains p||waitsC ops eff p j)&&Nat.blt 0 n&&okP ops eff t pd (n - 1) (listed.setIfInBounds i true)&&okP ops eff u pd (n - 1) (listed.setIfInBounds j true)
abbrev A6b:=List (Nat×(St→Prop))
def A8F (keep:List Nat) (st st':St) (k:Prop):A6b→Prop
 | []=>k
 | (i,C)::l=>match keep.contains i with
  | true=>(C st→C st')∧A8F keep st st' k l
  | false=>A8F keep st st' k l
theorem A9J {keep:List Nat} {st st':St} {k:Prop}:∀ {pd:A6b},A8F keep st st' k pd→k∧∀ p∈pd,keep.contains p.1=true→p.2 st→p.2 st'
 | [],h=>⟨h,fun p hp=>absurd hp D8D⟩
 | (i,C)::l,h=>by
  unfold A8F at h
  split at h
  ·rename_i hk
   obtain ⟨h1,h2⟩:=A9J h.2
   refine ⟨h1,fun p hp=>?_⟩
   rcases D8A.1 hp with rfl | hp
   ·exact fun _=>h.1
   ·exact h2 p hp
  ·rename_i hk
   obtain ⟨h1,h2⟩:=A9J h
   refine ⟨h1,fun p hp hk2=>?_⟩
   rcases D8A.1 hp with rfl | hp
   ·rw [hk] at hk2;cases hk2
   ·exact h2 p hp hk2
def B8v (P:Program) (T:H5) (M:J5) (ops:List Oper) (i:Nat) (keep:List Nat) (pd:A6b) (K:KA) (A:List AV) (st:St):Prop :=
 match ops[i]? with
 | none=>False
 | some o=>match A1h ops o A with
  | none=>False
  | some b=>(b=true→aOp P T M o A st fun v st'=>A8F keep st st' (K (K3 A o.dst v) st') pd)∧(b=false→K (K3 A o.dst (.tuple [])) st)
def A6h (P:Program) (T:H5) (M:J5) (ops:List Oper):PT→A6b→List AV→St→KA→Prop
 | .done,_,A,st,k=>k A st
 | .qui i t,pd,A,st,k=>match ops[i]? with
  | none=>False
  | some o=>match A1h ops o A with
   | none=>False
   | some b=>(b=true→match A1A o.op with
     | true=>∃ v,(aOp P T M o A st fun v' s=>v'=v∧s=st)∧A6h P T M ops t pd (K3 A o.dst v) st k
     | false=>∃ (v:AV) (C:St→Prop),C st∧(∀ s,C s→aOp P T M o A s fun v' s'=>v'=v∧s'=s)∧A6h P T M ops t ((i,C)::pd) (K3 A o.dst v) st k) ∧
    (b=false→A6h P T M ops t pd (K3 A o.dst (.tuple [])) st k)
 | .eff i keep t,pd,A,st,k=>B8v P T M ops i keep pd (fun A' st'=>A6h P T M ops t pd A' st' k) A st
 | .two i j ki kj t u,pd,A,st,k=>B8v P T M ops i ki pd (fun A' st'=>A6h P T M ops t pd A' st' k) A st∧B8v P T M ops j kj pd (fun A' st'=>A6h P T M ops u pd A' st' k) A st
def B2c (P:Program) (T:H5) (M:J5) (ops:Array Oper) (eff:Nat→Bool) (wait:Nat→Nat→Bool) (Q:KA) (pd:A6b):Nat→Array Bool→KA
 | 0,listed,A,st=>Region.ready .any ops listed=[]∧Q A st
 | fuel+1,listed,A,st=>(Region.ready .any ops listed=[]→Q A st)∧∀ j∈Region.ready .any ops listed,
   nOp P T M ops eff j (fun A' st'=>B2c P T M ops eff wait Q pd fuel (listed.setIfInBounds j true) A' st'∧∀ p∈pd,wait p.1 j=false→p.2 st→p.2 st') A st
section
variable {P:Program} {T:H5} {M:J5} {ops:Array Oper} {eff:Nat→Bool} {wait:Nat→Nat→Bool} {Q:KA}
theorem A3I {pd pd':A6b} (hp:∀ p∈pd',p∈pd∨∀ s,p.2 s):∀ (fuel:Nat) (listed:Array Bool) (A:List AV) (st:St),B2c P T M ops eff wait Q pd fuel listed A st→B2c P T M ops eff wait Q pd' fuel listed A st
 | 0,listed,A,st,h=>h
 | fuel+1,listed,A,st,h=>⟨h.1,fun j hj=>A0S (fun A' st' hk=>⟨A3I hp fuel _ _ _ hk.1,fun p hpp hw hs=>by
   rcases hp p hpp with h1 | h1
   ·exact hk.2 p h1 hw hs
   ·exact h1 _⟩) (h.2 j hj)⟩
theorem B4h {pd:A6b}:∀ (fuel:Nat) (listed:Array Bool) (A:List AV) (st:St),B2c P T M ops eff wait Q pd fuel listed A st→B5i P T M ops eff Q fuel listed A st
 | 0,listed,A,st,h=>h
 | fuel+1,listed,A,st,h=>⟨h.1,fun j hj=>A0S (fun A' st' hk=>B4h fuel _ _ _ hk.1) (h.2 j hj)⟩
theorem B6R {C:St→Prop} {i:Nat} {oi:Oper} {v:AV} {pd:A6b} (hi:ops[i]?=some oi)
  (hW:∀ j,wait i j=true→∃ oj,ops[j]?=some oj∧∃ e∈oj.after,Region.binds .any e=true∧(e.on=i∨wait i e.on=true)) :
  ∀ (fuel:Nat) (listed:Array Bool) (A:List AV) (st:St),
   (∀ j oj,ops[j]?=some oj→j≠i→listed.getD j true=false→(∀ e∈oj.after,Region.binds .any e=true→e.on≠i)→oi.apart ops oj=true) →
   (∀ j,wait i j=true→listed.getD j false=false) →
   i∈Region.ready .any ops listed→C st→(∀ st',C st'→Yq P T M ops oi v A st') →
   B2c P T M ops eff wait Q ((i,C)::pd) fuel (listed.setIfInBounds i true) (K3 A oi.dst v) st→B2c P T M ops eff wait Q pd (fuel+1) listed A st:=by
 intro fuel
 induction fuel with
 | zero =>
  intro listed A st _ hWl hr hC hy H
  refine ⟨fun h=>(by rw [h] at hr;cases hr),fun j hj=>?_⟩
  by_cases hji:j=i
  ·subst hji
   exact A7d hi (hy st hC) ⟨H,fun _ _ _ h=>h⟩
  ·have:=ready_mono hj hji
   rw [H.1] at this
   cases this
 | succ fuel ih =>
  intro listed A st hfree hWl hr hC hy H
  refine ⟨fun h=>(by rw [h] at hr;cases hr),fun j hj=>?_⟩
  by_cases hji:j=i
  ·subst hji
   exact A7d hi (hy st hC) ⟨A3I (fun p hp=>.inl (D7E _ hp)) _ _ _ _ H,fun _ _ _ h=>h⟩
  ·have h1:=H.2 j (ready_mono hj hji)
   obtain ⟨hjun,oj,hoj,hall⟩:=mem_ready.1 hj
   have hiun:=(mem_ready.1 hr).1
   have hii:listed.getD i false=false:=A0b hiun
   have hnot:∀ e∈oj.after,Region.binds .any e=true→e.on≠i:=fun e he hb heq=>by
    have h1:=hall e he hb
    rw [heq,hii] at h1
    cases h1
   have hnW:wait i j=false:=by
    cases hw:wait i j with
    | false=>rfl
    | true =>
     obtain ⟨oj',hoj',e,he,hb,hon⟩:=hW j hw
     rw [hoj] at hoj'
     cases hoj'
     have h2:=hall e he hb
     rcases hon with hon | hon
     ·rw [hon,hii] at h2;cases h2
     ·rw [hWl _ hon] at h2;cases h2
   have h2:=C0y hoj (hfree j oj hoj hji hjun hnot) hy h1
   have hfree':∀ k ok,ops[k]?=some ok→k≠i→(listed.setIfInBounds j true).getD k true=false →
     (∀ e∈ok.after,Region.binds .any e=true→e.on≠i)→oi.apart ops ok=true:=fun k ok hk hki hun hno=>by
    refine hfree k ok hk hki ?_ hno
    by_cases hjk:j=k
    ·subst hjk;exact hjun
    ·rw [getD_set_ne true hjk] at hun;exact hun
   have hWl':∀ k,wait i k=true→(listed.setIfInBounds j true).getD k false=false:=fun k hk=>by
    rw [getD_set_ne false (fun (e:j=k)=>by rw [e,hk] at hnW;cases hnW)];exact hWl k hk
   refine A0S (fun A' st' h3=>⟨?_,fun p hp hw hs=>h3.2.2 p (D7E _ hp) hw hs⟩) h2
   refine ih (listed.setIfInBounds j true) A' st' hfree' hWl' (ready_mono hr (Ne.symm hji)) (h3.2.2 _ (D7G ..) hnW hC) h3.1 ?_
   rw [Array.setIfInBounds_comm _ _ hji]
   exact h3.2.1
end
section
variable {P:Program} {T:H5} {M:J5} {ops:Array Oper}
theorem B8w {eff:List Nat} {i:Nat} {keep:List Nat} {pd:A6b} {pdI:List Nat} {K K':KA} {A:List AV} {st:St} (hc:eff.contains i=true) (hin:∀ p∈pd,p.1∈pdI)
  (hall:(pdI.all fun p=>keep.contains p||waitsC ops eff p i)=true) (hK:∀ A st,K A st→K' A st) (h:B8v P T M ops.toList i keep pd K A st) :
  nOp P T M ops (fun j=>eff.contains j) i (fun A' st'=>K' A' st'∧∀ p∈pd,waitsC ops eff p.1 i=false→p.2 st→p.2 st') A st:=by
 unfold B8v at h
 rw [D7T] at h
 unfold nOp
 cases ho:ops[i]? with
 | none=>rw [ho] at h;exact h.elim
 | some o =>
  rw [ho] at h
  simp only [hc,if_true] at h ⊢
  split at h
  ·exact h.elim
  ·rename_i b hb
   rw [hb]
   refine ⟨fun e=>S8 (fun v st' hk=>?_) (h.1 e),fun e=>⟨hK _ _ (h.2 e),fun p _ _ hs=>hs⟩⟩
   obtain ⟨h1,h2⟩:=A9J hk
   refine ⟨hK _ _ h1,fun p hp hw hs=>h2 p hp ?_ hs⟩
   have:=D7s.1 hall p.1 (hin p hp)
   rw [hw,D7V] at this
   exact this
theorem A1K {eff:List Nat} {Q:KA}:∀ (t:PT) (pdI:List Nat) (pd:A6b) (n:Nat) (listed:Array Bool) (A:List AV) (st:St),(∀ p∈pd,p.1∈pdI)→A8m ops listed→okP ops eff t pdI n listed=true→A6h P T M ops.toList t pd A st Q →
  B2c P T M ops (fun j=>eff.contains j) (waitsC ops eff) Q pd n listed A st
 | .done,pdI,pd,n,listed,A,st,hin,hD,hO,h=>by
  unfold okP at hO
  simp only [D7f,D7Z] at hO
  obtain ⟨rfl,hO⟩:=hO
  exact ⟨by simpa using hO,h⟩
 | .eff i keep t,pdI,pd,n,listed,A,st,hin,hD,hO,h=>by
  unfold okP at hO
  simp only [D7f,D9O] at hO
  obtain ⟨⟨⟨⟨hc,hr⟩,hall⟩,hn⟩,hO'⟩:=hO
  have hr:=eq_of_beq hr
  obtain ⟨n,rfl⟩:∃ m,n=m+1:=⟨n - 1,by omega⟩
  have hr':i∈Region.ready .any ops listed:=by rw [hr];simp
  refine ⟨fun h0=>(by rw [hr] at h0;cases h0),fun j hj=>?_⟩
  rw [hr] at hj
  simp only [D7I] at hj
  subst hj
  exact B8w hc hin hall (fun A' st' hk=>A1K t pdI pd n _ A' st' hin (hD.set hr') hO' hk) h
 | .two i j ki kj t u,pdI,pd,n,listed,A,st,hin,hD,hO,h=>by
  unfold okP at hO
  simp only [D7f,D9O] at hO
  obtain ⟨⟨⟨⟨⟨⟨⟨hc1,hc2⟩,hr⟩,ha1⟩,ha2⟩,hn⟩,hO1⟩,hO2⟩:=hO
  have hr:=eq_of_beq hr
  obtain ⟨n,rfl⟩:∃ m,n=m+1:=⟨n - 1,by omega⟩
  have hri:i∈Region.ready .any ops listed:=by rw [hr];simp
  have hrj:j∈Region.ready .any ops listed:=by rw [hr];simp
  obtain ⟨h1,h2⟩:=h
  refine ⟨fun h0=>(by rw [hr] at h0;cases h0),fun k hk=>?_⟩
  rw [hr] at hk
  simp only [D8A,D8D,or_false] at hk
  rcases hk with rfl | rfl
  ·exact B8w hc1 hin ha1 (fun A' st' hk=>A1K t pdI pd n _ A' st' hin (hD.set hri) hO1 hk) h1
  ·exact B8w hc2 hin ha2 (fun A' st' hk=>A1K u pdI pd n _ A' st' hin (hD.set hrj) hO2 hk) h2
 | .qui i t,pdI,pd,n,listed,A,st,hin,hD,hO,h=>by
  unfold okP at hO
  simp only [D7f,D9O] at hO
  obtain ⟨⟨hO,hn⟩,hO'⟩:=hO
  obtain ⟨n,rfl⟩:∃ m,n=m+1:=⟨n - 1,by omega⟩
  unfold A6h at h
  rw [D7T] at h
  cases ho:ops[i]? with
  | none=>rw [ho] at hO;cases hO
  | some o =>
   rw [ho] at hO h hO'
   simp only [D7f] at hO h hO'
   obtain ⟨hr,hf⟩:=hO
   have hr':i∈Region.ready .any ops listed:=by simpa using hr
   have hiun:=A0b (mem_ready.1 hr').1
   have hfree:=Region.free_spec ho hf
   split at h
   ·exact h.elim
   rename_i b hb
   have first:=fun (v:AV) (C:St→Prop)=>B6R (P:=P) (T:=T) (M:=M) (eff:=fun j=>eff.contains j) (wait:=waitsC ops eff) (Q:=Q) (C:=C) (v:=v) (pd:=pd) ho (fun j hj=>A6M hj) n listed A st hfree (fun j hj=>hD.waitsC hiun hj) hr'
   cases b with
   | false =>
    refine first (.tuple []) (fun _=>True) trivial (fun st' _=>.inr ⟨hb,rfl⟩) ?_
    have h2:=h.2 rfl
    cases hp:A1A o.op with
    | true =>
     rw [hp] at hO'
     exact A3I (fun p hp=>by
      rcases D8A.1 hp with rfl | hp
      ·exact .inr fun _=>trivial
      ·exact .inl hp) _ _ _ _ (A1K t pdI pd n _ _ _ hin (hD.set hr') hO' h2)
    | false =>
     rw [hp] at hO'
     exact A3I (fun p hp=>by
      rcases D8A.1 hp with rfl | hp
      ·exact .inr fun _=>trivial
      ·exact .inl hp) _ _ _ _ (A1K t (i::pdI) pd n _ _ _ (fun p hp=>D7E _ (hin p hp)) (hD.set hr') hO' h2)
   | true =>
    have h1:=h.1 rfl
    cases hp:A1A o.op with
    | true =>
     rw [hp] at h1 hO'
     obtain ⟨v,hv,hrest⟩:=h1
     refine first v (fun _=>True) trivial (fun st' _=>.inl ⟨hb,B2w hp hv⟩) ?_
     exact A3I (fun p hp=>by
      rcases D8A.1 hp with rfl | hp
      ·exact .inr fun _=>trivial
      ·exact .inl hp) _ _ _ _ (A1K t pdI pd n _ _ _ hin (hD.set hr') hO' hrest)
    | false =>
     rw [hp] at h1 hO'
     obtain ⟨v,C,hC,hv,hrest⟩:=h1
     refine first v C hC (fun st' hc=>.inl ⟨hb,hv st' hc⟩) ?_
     exact A1K t (i::pdI) ((i,C)::pd) n _ _ _ (fun p hp=>by
      rcases D8A.1 hp with rfl | hp
      ·exact D7G ..
      ·exact D7E _ (hin p hp)) (hD.set hr') hO' hrest
def Dp (P:Program) (T:H5) (M:J5) (ops:List Oper) (A:List AV) (st:St) (k:KA):Prop :=
 ∃ k':KA,(∀ A st,k' A st→k A st)∧(Dr P T M ops A st k'∨∃ (eff:List Nat) (t:PT),(Region.noSelect ops.toArray&&okP ops.toArray eff t [] ops.length (Array.replicate ops.length false))=true∧A6h P T M ops t [] A st k')
theorem D0K (hG:A7H P T M) (hm:P.follows .mixedOrders=true):C6q P (Dp P T M):=fun id ops K st0 w0 A a st w hA hS he ⟨k',hk,h⟩=>by
 have hmono:∀ {e:Exit} {a:Act} {w:World},B0J (fun e=>match e with | .normal=>k' | e=>K e) st0 w0 e a w→B0J K st0 w0 e a w:=fun {e a w} hl=>by
  cases e<;>first | exact hl | (obtain ⟨A',st',h1,h2⟩:=hl;exact ⟨A',st',hk _ _ h1,h2⟩)
 rcases h with h | ⟨eff,t,hok,hrun⟩
 ·exact wp_mono (D0L hG hm id ops (fun e=>match e with | .normal=>k' | e=>K e) st0 w0 A a st w hA hS he h) fun e a w hl=>hmono hl
 ·refine wp_mono (?_:(Code.region id ops true).wp P (B0J (fun e=>match e with | .normal=>k' | e=>K e) st0 w0) a w) fun e a w hl=>hmono hl
  have hD:A8m ops (Array.replicate ops.toList.length false):=fun j o hj ho=>by
   simp [Array.getElem?_replicate] at hj
   split at hj<;>simp at hj
  simp only [D7f] at hok
  have hany:B5i P T M ops (fun j=>eff.contains j) k' ops.toList.length (Array.replicate ops.toList.length false) A st :=
   B4h _ _ _ _ (A1K t [] [] _ (Array.replicate ops.toList.length false) A st (fun p hp=>absurd hp D8D) hD (by simpa using hok.2) hrun)
  refine wp_region_any hm ?_
  have hA':Q0 { w with drawn:=w.drawn+1 } st A a:=⟨hA.len,fun i v hv=>hA.at_ i v hv,hA.defers⟩
  have hS':H9 st { w with drawn:=w.drawn+1 }:=fun b x hx=>by
   obtain ⟨cs,h1⟩:=hS b x hx
   exact ⟨cs,⟨h1.heap,h1.size,h1.len,h1.one,h1.cell⟩⟩
  have he':Evo st0 w0 st { w with drawn:=w.drawn+1 }:=⟨he.os,he.tape,he.output,he.size,he.blk,he.szm⟩
  have:=B5M hG (fun e=>match e with | .normal=>k' | e=>K e) st0 w0 ops.toList.length (Array.replicate ops.toList.length false) A a st { w with drawn:=w.drawn+1 } hA' hS' he' hany
  simpa using this
end
end Go.Ab
