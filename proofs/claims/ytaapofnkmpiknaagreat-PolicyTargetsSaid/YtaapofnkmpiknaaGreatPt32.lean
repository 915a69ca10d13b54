/- Part 32 of the proof: contracts -/
import Derived.Test.YtaapofnkmpiknaaGreatPt31
import Derived.ChangeSlices
import Derived.ChangeArms
import Derived.Test.YtaapofnkmpiknaaGreatRows
import Derived.ProofKit
import Derived.JoinedOf
import Derived.KernelRfl
set_option maxRecDepth 100000
set_option linter.unusedVariables false
set_option linter.unusedSimpArgs false
namespace Go.Proofs.YtaapofnkmpiknaaGreat
open Go Go.Ab
attribute [local irreducible] upd del
def C9B (x:U5) (n:Int):U5:=⟨x.sku,x.price,x.sold,n,x.goods,x.tax⟩
structure A9o (L:List E6) (Q:O5) (K:List U5):Prop where
 len:K.length=L.length
 at_:∀ i,i<L.length→∃ n,(0≤n∧n≤(L.getD i default).qty)∧K.getD i default=C9B (Y4 L Q i) n
def A1j (id zone:C8) (set:Int) (exempt:Bool) (C:List C8) (day:Int) (L:List E6) (Q:O5) (pays:List Pay) (K:List U5) (f:Int):G5 :=
 ⟨id,set,zone,exempt,C,day,K,Q.ship,Q.shipTax,f,Q.total,O2 Q,pays.map A2k⟩
theorem B9x (v:U5→Int):∀ l:List U5,(∀ x∈l,(0≤J3 (v x) x.sold x.left∧J3 (v x) x.sold x.left≤10000000000000))→∀ a,a≤l.foldl (fun a x=>a+J3 (v x) x.sold x.left) a∧l.foldl (fun a x=>a+J3 (v x) x.sold x.left) a≤a+10000000000000 * l.length
 | [],_,a=>⟨D7L _,by show a≤a+10000000000000 * ((0:Nat):Int);omega⟩
 | x::l,h,a=>by
  have h1:=h x (D7G ..)
  have h2:=B9x v l (fun y hy=>h y (D7E _ hy)) (a+J3 (v x) x.sold x.left)
  simp only [D8o,D7N]
  omega
theorem B8O {L:List E6} {Q:O5} {K:List U5} (hK:A9o L Q K) (h:A5c Q L.length) (h1:1≤L.length∧L.length≤8) (hL:∀ x∈L,C6 x.sku=true∧(0≤x.price∧x.price≤1000000000)∧1≤x.qty∧x.qty≤100000)
  {id zone:C8} {set day:Int} {C:List C8} {pays:List Pay} (exempt:Bool) (hi:C6 id=true) (hz:C6 zone=true) (hs:1≤set∧set≤40) (hd:0≤day∧day≤100000) (hc:R6 C=true) (hp:A8Q pays Q.total=true) {f:Int} (hf:0≤f∧f≤1099511627776) :
  H0 (A1j id zone set exempt C day L Q pays K f)=true∧Q4 (P3 (Q6 (A1j id zone set exempt C day L Q pays K f)) f)=true:=by
 have hO:=(B9D h h1 hL exempt hi hz hs hd hc hp).1
 have hk:∀ x∈K,U2 x=true:=fun x hx=>by
  obtain ⟨i,hi,rfl⟩:=D2 hx
  rw [hK.len] at hi
  obtain ⟨n,hn,e⟩:=hK.at_ i hi
  have a1:=hL _ (A5 hi)
  have a2:=h.goods i hi
  have a3:=h.taxes i hi
  rw [e]
  unfold U2 A1d C9B Y4
  simp only [D7f,D3]
  exact ⟨⟨⟨⟨⟨a1.1,a1.2.1⟩,a1.2.2⟩,hn⟩,by omega⟩,by omega⟩
 have hks:A1Y (A1j id zone set exempt C day L Q pays K f)=true:=by
  unfold A1Y
  show (decide ((K.length:Int)≥1)&&decide ((K.length:Int)≤1000)&&K.all U2)=true
  rw [hK.len]
  simp only [D7f,D7d]
  exact ⟨⟨by omega,by omega⟩,D7s.2 hk⟩
 have hr:H0 (A1j id zone set exempt C day L Q pays K f)=true:=by
  unfold H0 U6 at hO ⊢
  simp only [D7f] at hO ⊢
  exact ⟨⟨⟨⟨⟨hO.1.1.1.1.1,hO.1.1.1.1.2⟩,hks⟩,⟨hO.1.1.2.1.1,by show E3 f=true;unfold E3;rw [D3];omega⟩,hO.1.1.2.2⟩,hO.1.2⟩,hO.2⟩
 refine ⟨hr,?_⟩
 unfold Q6
 rw [if_pos hr]
 have b1:=B9x (fun x=>x.goods) K (fun x hx=>by
  have k:=A1X (hk x hx)
  have:=A0w (t:=x.goods) (n:=x.sold) (k:=x.left) k.2.2.2.2.1.1 k.2.2.1.1 k.2.2.2.1.1 k.2.2.2.1.2
  show 0≤J3 x.goods x.sold x.left∧J3 x.goods x.sold x.left≤_
  omega) 0
 have b2:=B9x (fun x=>x.tax) K (fun x hx=>by
  have k:=A1X (hk x hx)
  have:=A0w (t:=x.tax) (n:=x.sold) (k:=x.left) k.2.2.2.2.2.1 k.2.2.1.1 k.2.2.2.1.1 k.2.2.2.1.2
  show 0≤J3 x.tax x.sold x.left∧J3 x.tax x.sold x.left≤_
  omega) 0
 have hl:(K.length:Int)≤8:=by rw [hK.len];omega
 have h3:=h.ship
 have h4:=h.shipTax
 have hs1:∀ (c:Bool) (x:Int),0≤x∧x≤1000000000000→0≤(if c=true then x else 0)∧(if c=true then x else 0)≤1000000000000:=fun c x hx=>by cases c<;>simp<;>omega
 have h5:=hs1 (K6 K) Q.ship h3
 have h6:=hs1 (K6 K) Q.shipTax h4
 show Q4 ⟨shG K,shT K,if K6 K=true then Q.ship else 0,if K6 K=true then Q.shipTax else 0,f⟩=true
 change 0≤shG K∧shG K≤0+10000000000000 * (K.length:Int) at b1
 change 0≤shT K∧shT K≤0+10000000000000 * (K.length:Int) at b2
 unfold Q4 L4 E3
 simp only [List.all_cons,List.all_nil,D7Q,D7f,D3]
 omega
theorem C7d {id zone:C8} {set day:Int} {C:List C8} {L:List E6} {Q:O5} {K:List U5} {f:Int} {pays:List Pay} (exempt:Bool) (hK:A9o L Q K) (hi:Sm id.size) (hz:C6 zone=true) (hC:C.length≤3) (hs:∀ s∈C,s.size≤12) (hl:L.length≤8) (hL:∀ x∈L,C6 x.sku=true) (hp:pays.length≤3):A2q (A1j id zone set exempt C day L Q pays K f):=by
 have hz:=U9 hz
 have hk:=hK.len
 refine ⟨hi,by show zone.size≤9223372036854775807;omega,by show C.length≤9223372036854775807;omega,fun c hc=>by have:=hs c hc;show c.size≤9223372036854775807;omega,by show K.length≤_;omega,fun x hx=>?_,by show (pays.map A2k).length≤_;rw [D7i];omega⟩
 obtain ⟨i,hi,rfl⟩:=D2 (show x∈K from hx)
 rw [hk] at hi
 obtain ⟨n,hn,e⟩:=hK.at_ i hi
 have:=U9 (hL _ (A5 hi))
 rw [e]
 show (L.getD i default).sku.size≤9223372036854775807
 omega
theorem B6N {L:List E6} {Q:O5} {K:List U5} (hK:A9o L Q K) (h:A1f L):A1f (K.map fun x=>⟨x.sku,x.left,x.price⟩):=by
 refine ⟨by rw [D7i,hK.len];exact h.len,fun x hx=>?_,fun x hx=>?_⟩<;>obtain ⟨y,hy,rfl⟩:=D7y.1 hx<;>obtain ⟨i,hi,rfl⟩:=D2 hy<;>rw [hK.len] at hi<;>obtain ⟨n,hn,e⟩:=hK.at_ i hi<;>rw [e]
 ·have:=h.line _ (A5 hi)
  show (0≤n∧n≤9)∧0≤(L.getD i default).price∧(L.getD i default).price<4000
  omega
 ·exact show ∃ n,(L.getD i default).sku=A1o n from h.sku _ (A5 hi)
theorem C5X {Q:O5} {n:Nat} (h:A5c Q n) (hn:n≤8) {f:Int} (hf:0≤f∧f≤1099511627776):Q4 (P3 (O2 Q) f)=true:=by
 have g1:=A7o h.ngoods h.goods
 have g2:=A7o h.ntaxes h.taxes
 have g3:=h.ship
 have g4:=h.shipTax
 show Q4 ⟨A2 Q.goods,A2 Q.taxes,Q.ship,Q.shipTax,f⟩=true
 unfold Q4 L4 E3
 simp only [List.all_cons,List.all_nil,D7Q,D7f,D3]
 omega
theorem C1L {R:E0} {C:List C8} {L:List E6} {z:K9} {Z:C8} {Q:O5} {pays:List Pay} (exempt:Bool) (h:P4 R C L) (hz:Z3 R.tax.zones Z=some z) (hs:A5c Q L.length) (hl1:1≤L.length∧L.length≤8)
  (hlx:∀ x∈L,C6 x.sku=true∧(0≤x.price∧x.price≤1000000000)∧1≤x.qty∧x.qty≤100000) (hzn:C6 Z=true) (hp:A8Q pays Q.total=true) (hnp:pays.length≤3) {m:Int} (hm:1≤m∧m≤3) {K:List U5} (hK:A9o L Q K) {f:Int} (hf:0≤f∧f≤1099511627776) {day:Int} (hd:0≤day∧day≤100000) :
  ∃ q b,A5a 60 (A3e R m) (A1j ⟨#[111]⟩ Z 1 exempt C day L Q pays K f) q 0∧A5a 56 (A3e R m) (A1j ⟨#[111]⟩ Z 1 exempt C day L Q pays K f) q 0 ∧
   A2q (A1j ⟨#[111]⟩ Z 1 exempt C day L Q pays K f)∧H0 (A1j ⟨#[111]⟩ Z 1 exempt C day L Q pays K f)=true∧A2F (A3e R m) (A1j ⟨#[111]⟩ Z 1 exempt C day L Q pays K f) q 0=(P3 b f,0):=by
 have h2:=(h.mode hm).relines (B6N hK h.lines)
 have hz2:Z3 (A3e R m).tax.zones Z=some z:=hz
 have hq2:=h2.quoteIn hz2 exempt
 have hs2:=h2.sold hz2 exempt
 have c1:=fun st=>h2.quote_S hz2 exempt st
 have c2:=fun st=>h2.rquote_S hz2 exempt st
 have hn2:(K.map fun x=>(⟨x.sku,x.left,x.price⟩:E6)).length≤8:=by rw [D7i,hK.len];exact hl1.2
 obtain ⟨r1,r2⟩:=B8O hK hs hl1 hlx (id:=⟨#[111]⟩) (zone:=Z) (set:=1) (day:=day) exempt (by kernel_rfl) hzn ⟨by decide,by decide⟩ hd h.codes hp hf
 have hsm:=C7d (set:=1) (day:=day) (f:=f) exempt hK (by decide:Sm (ByteArray.size ⟨#[111]⟩)) hzn h.ncodes h.scodes hl1.2 (fun x hx=>(hlx x hx).1) hnp
 generalize B0a (A3e R m) C (K.map fun x=>(⟨x.sku,x.left,x.price⟩:E6)) z exempt=q at *
 have hw:=C5X hs2 hn2 hf
 refine ⟨q,if m=3 then Q6 (A1j ⟨#[111]⟩ Z 1 exempt C day L Q pays K f) else O2 q,⟨c1,hq2.goods,hq2.taxes⟩,⟨c2,hq2.goods,hq2.taxes⟩,hsm,r1,?_⟩
 have e:P8 (A3e R m) (A1j ⟨#[111]⟩ Z 1 exempt C day L Q pays K f) q 0=(if m=3 then Q6 (A1j ⟨#[111]⟩ Z 1 exempt C day L Q pays K f) else O2 q,0):=by
  unfold P8 B3f
  rw [if_neg (show ¬(0:Int)≠0 by decide)]
  show (if m=3 then _ else _)=_
  split<;>rfl
 have e2:Q4 (P3 (if m=3 then Q6 (A1j ⟨#[111]⟩ Z 1 exempt C day L Q pays K f) else O2 q) f)=true:=by
  split
  ·exact r2
  ·exact hw
 unfold A2F
 rw [B2b h.right hm,r1,e,if_neg (by simp),if_neg (by simp),if_neg (by simp),if_neg (by show ¬ Q4 (P3 _ f)=false;rw [e2];simp)]
 rfl
theorem C5t (s:B3s):∃ L Q,B8j (F0 s.rules) (P0 s) s.exempt (H3 s.codes) (J6 s.adds) L Q (N8 Q.total s.pays)∧A5b (F0 s.rules)∧(F0 s.rules).promos.length≤6 ∧
  ∀ m,1≤m∧m≤3→∀ K,A9o L Q K→∀ f,0≤f∧f≤1099511627776→∀ day,0≤day∧day≤100000→∃ q b,A5a 60 (A3e (F0 s.rules) m) (A1j ⟨#[111]⟩ (P0 s) 1 s.exempt (H3 s.codes) day L Q (N8 Q.total s.pays) K f) q 0 ∧
   A5a 56 (A3e (F0 s.rules) m) (A1j ⟨#[111]⟩ (P0 s) 1 s.exempt (H3 s.codes) day L Q (N8 Q.total s.pays) K f) q 0 ∧
   A2q (A1j ⟨#[111]⟩ (P0 s) 1 s.exempt (H3 s.codes) day L Q (N8 Q.total s.pays) K f)∧H0 (A1j ⟨#[111]⟩ (P0 s) 1 s.exempt (H3 s.codes) day L Q (N8 Q.total s.pays) K f)=true ∧
   A2F (A3e (F0 s.rules) m) (A1j ⟨#[111]⟩ (P0 s) 1 s.exempt (H3 s.codes) day L Q (N8 Q.total s.pays) K f) q 0=(P3 b f,0):=by
 have hb:=B6l s.rules.items s.adds
 have h:=(C9A s.rules s.codes []).relines hb
 obtain ⟨z,hz⟩:=B3B s.rules s.zone
 have hq:=h.quoteIn hz s.exempt
 have hs:=h.sold hz s.exempt
 obtain ⟨⟨a1,a2⟩,a3⟩:=A6x s.adds
 have hln:((J6 s.adds).map (S4 (G7 s.rules.items))).length≤8:=hb.len
 have hT:=hs.total_in hln
 have hp:=B3y hT.1 hT.2 s.pays
 have hl1:1≤((J6 s.adds).map (S4 (G7 s.rules.items))).length∧((J6 s.adds).map (S4 (G7 s.rules.items))).length≤8:=by
  rw [D7i];omega
 have hlx:∀ x∈(J6 s.adds).map (S4 (G7 s.rules.items)),C6 x.sku=true∧(0≤x.price∧x.price≤1000000000)∧1≤x.qty∧x.qty≤100000:=fun x hx=>by
  have l1:=hb.line x hx
  obtain ⟨n,hn⟩:=hb.sku x hx
  obtain ⟨y,hy,rfl⟩:=D7y.1 hx
  have l2:=(a3 y hy).1
  refine ⟨by rw [hn];exact B0d n,by omega,?_⟩
  show 1≤y.qty∧y.qty≤100000
  omega
 refine ⟨_,B0a (F0 s.rules) (H3 s.codes) ((J6 s.adds).map (S4 (G7 s.rules.items))) z s.exempt,⟨B7d s.rules.items s.adds,hl1,rfl,hs,hp.1,hp.2,B3o s.zone,h.codes,h.ncodes,h.scodes,hlx,h.right,h.fit,h.items,⟨hq.goods,hq.taxes⟩,fun st=>h.quote_S hz s.exempt st,fun st=>h.rquote_S hz s.exempt st⟩,h.sm,h.few,fun m hm K hK f hf day hd=>?_⟩
 exact C1L s.exempt h hz hs hl1 hlx (B3o s.zone) hp.1 hp.2 hm hK hf hd
end Go.Proofs.YtaapofnkmpiknaaGreat
namespace Go.Ab
open Go
theorem C4i {s t:St} {b0 ty e0 p:Nat} {g:Nat→AV} {cs:List AV} {u v:AV} (hts:∀ w,H9 s w→H9 t w∧Evo s w t w) (h0:s b0=some ⟨ty,e0,1,g⟩) (ht:t b0=some ⟨ty,e0,1,g⟩) (hg:g 0=.agg cs) (hp:cs[p]?=some v) (hu:u.one=true)
  (hr:∀ w c,H9 s w→K8 w s v c→K8 w t u c) (w:World) (hS:H9 s w):H9 (upd t b0 ⟨ty,e0,1,fun _=>.agg (cs.set p u)⟩) w∧Evo s w (upd t b0 ⟨ty,e0,1,fun _=>.agg (cs.set p u)⟩) w:=by
 obtain ⟨hT,hE⟩:=hts w hS
 have hE1:Evo t w (upd t b0 ⟨ty,e0,1,fun _=>.agg (cs.set p u)⟩) w:=⟨rfl,rfl,rfl,D7l _,fun c _ hc=>⟨rfl,by rw [B0 (fun e=>by subst e;rw [ht] at hc;cases hc)];exact hc⟩,fun _=>D7l _⟩
 have hE2:=hE.trans hE1
 refine ⟨fun c z hz=>?_,hE2⟩
 by_cases hc:c=b0
 ·subst hc
  rw [A0] at hz
  cases hz
  obtain ⟨ds,hd⟩:=hS c _ h0
  have hl:=hd.len 0 Nat.one_pos
  have ho:=hd.one 0 Nat.one_pos
  have hcl:=hd.cell 0
  simp only [hg] at hl ho hcl
  change cs.length=e0 at hl
  refine ⟨ds,hd.heap,hd.size,fun i hi=>?_,fun i hi=>?_,fun i j y hi hy=>?_⟩
  ·show (cs.set p u).length=e0
   rw [D8p];exact hl
  ·show (cs.set p u).all AV.one=true
   rw [D7s] at ho ⊢
   intro x hx
   rcases List.mem_or_eq_of_mem_set hx with hx | rfl
   ·exact ho x hx
   ·exact hu
  ·obtain rfl:i=0:=by have:i<1:=hi;omega
   change (cs.set p u)[j]?=some y at hy
   rw [D8W] at hy
   split at hy
   ·rename_i hpj
    subst hpj
    split at hy
    ·cases hy
     obtain ⟨c',h1,h2⟩:=hcl p v Nat.one_pos hp
     exact ⟨c',h1,hE1.rep (hr w c' hS h2)⟩
    ·cases hy
   ·obtain ⟨c',h1,h2⟩:=hcl j y Nat.one_pos hy
    exact ⟨c',h1,hE2.rep h2⟩
 ·rw [B0 hc] at hz
  obtain ⟨ds,hd⟩:=hT c z hz
  exact ⟨ds,hd.evo hE1 rfl⟩
theorem C9.hold {st s:St} {M:List (Nat×L7)} {j jb b b0 ty tb e e0 n:Nat} {f:Nat→AV} {cs:List AV} {v:AV} (p:Nat) (h:C9 st M s) (k:At M j (b,⟨tb,e,n,f⟩)) (hv:OV e b n v) (kb:At (M.eraseIdx j) jb (b0,⟨ty,e0,1,fun _=>.agg cs⟩)) (hp:cs[p]?=some v) :
  ∃ s',C9 st ((M.eraseIdx j).set jb (b0,⟨ty,e0,1,fun _=>.agg (cs.set p (.arr e n f))⟩)) s'∧∀ vs,A7 vs s vs s':=by
 have fin:∀ t:St,C9 st (M.eraseIdx j) t→(∀ w,H9 s w→H9 t w∧Evo s w t w)→t b0=s b0→(∀ w c,H9 s w→K8 w s v c→K8 w t (.arr e n f) c) →
   ∃ s',C9 st ((M.eraseIdx j).set jb (b0,⟨ty,e0,1,fun _=>.agg (cs.set p (.arr e n f))⟩)) s'∧∀ vs,A7 vs s vs s':=fun t hB hts hb hr=>by
  obtain ⟨g,hg,hh⟩:=hB.has kb Nat.one_pos
  have hL:=C4i hts (hb▸hg) hg (hh 0 Nat.one_pos) hp (show (AV.arr e n f).one=true from rfl) hr
  exact ⟨_,hB.put (y':=⟨ty,e0,1,fun _=>.agg (cs.set p (.arr e n f))⟩) kb Nat.one_pos (g:=fun _=>.agg (cs.set p (.arr e n f))) (fun _ _=>rfl),fun vs w ds hS hR=>⟨(hL w hS).1,hR.evo (hL w hS).2,(hL w hS).2⟩⟩
 rcases hv with ⟨rfl,rfl⟩ | ⟨hn,rfl⟩
 ·exact fin s (h.drop j) (fun w hS=>⟨hS,Evo.refl _ _⟩) rfl fun w c _ hr=>B4Y e f hr
 ·obtain ⟨h1,g,hg,hh⟩:=(h.get k).resolve_left (by show ¬ n=0;omega)
  have hB:C9 st (M.eraseIdx j) (del s b):=(h.drop j).frame (h.sup.del h1) fun i q hq=>(h.apart hn k i q hq).imp id fun hne=>by unfold del;rw [if_neg hne]
  obtain ⟨g0,hg0,_⟩:=hB.has kb Nat.one_pos
  have hne:b0≠b:=fun e=>by subst e;unfold del at hg0;rw [if_pos rfl] at hg0;cases hg0
  refine fin (del s b) hB (fun w hS=>?_) (by unfold del;rw [if_neg hne]) fun w c hS hr=>?_
  ·have hev:Evo s w (del s b) w:=⟨rfl,rfl,rfl,D7l _,fun c _ hs=>⟨rfl,by unfold del;split;rfl;exact hs⟩,fun _=>D7l _⟩
   refine ⟨fun c z hz=>?_,hev⟩
   unfold del at hz
   split at hz
   ·cases hz
   ·obtain ⟨ds,hd⟩:=hS c z hz
    exact ⟨ds,hd.evo hev rfl⟩
  ·obtain ⟨_,_,h3⟩:=B1N hS hg rfl (show 0+n≤n by omega) hr
   exact Rep.arr_congr (fun i hi=>by rw [D7o];exact hh i hi) h3
end Go.Ab
namespace Go.Proofs.YtaapofnkmpiknaaGreat
open Go Go.Ab
attribute [local irreducible] upd del
def spZ:K9:=⟨⟨#[122]⟩,[],1000,0⟩
def spI:List Ab.Item:=[⟨⟨#[97]⟩,⟨#[120]⟩,50,false⟩]
def spR (w g c:Int):E0:=⟨spI,[],⟨false,false,0,[spZ]⟩,⟨0,0⟩,⟨w,g,1,c,[],[]⟩⟩
def spO (n:Int):G5:=⟨⟨#[111]⟩,1,⟨#[122]⟩,false,[],5,[⟨⟨#[97]⟩,50,2,n,100,10⟩],0,0,0,110,⟨100,10,0,0,0⟩,[⟨1,110,0⟩]⟩
theorem D0i (st:St):S P 29 [] st fun v st'=>v=.tuple [F4 (spR 30 0 1000),J4 (spO 2)]∧st'=st:=by
 refine S.post (post:=fun v w=>F8 st w∧A7 [v] w [.tuple [F4 (spR 30 0 1000),J4 (spO 2)]] w) ?_ (fun v w hv=>⟨_,st,⟨rfl,rfl⟩,hv.2.trans (hv.1.shift _)⟩)
 refine A0o [2,3] A4i mixed Tryz.func29 (by rfl) rfl rfl rfl ?_;conv=>whnf
 intro b0 hb0
 generalize hs:(upd st b0 _:St)=w
 have h:=C9.new' hs (A0u st) hb0
 clear hs hb0
 conv=>whnf
 intro b1 hb1
 generalize hs:(upd w b1 _:St)=w2
 have h:=C9.new' hs h hb1
 clear hs hb1
 conv=>whnf
 refine .inr ⟨[2,3],.qui 0 (.qui 1 (.eff 2 [1] (.eff 3 [] (.done)))),by kernel_rfl,?_⟩
 repeat' ((conv=>whnf);first | refine quT (fun _=>⟨rfl,rfl⟩) ?_ | fail)
 conv=>whnf
 refine F1 h (.s .z) rfl rfl (by rfl) ?_;conv=>whnf
 intro w h
 repeat' ((conv=>whnf);first | refine ⟨fun _=>⟨rfl,rfl⟩,?_⟩ | refine ⟨fun _=>trivial,?_⟩ | fail)
 conv=>whnf
 refine F1 h .z rfl rfl (by rfl) ?_;conv=>whnf
 intro w h;conv=>whnf
 refine L8 h (.s .z) rfl Nat.one_pos rfl ?_;conv=>whnf
 refine L8 h .z rfl Nat.one_pos rfl ?_;conv=>whnf
 refine ⟨h.sup,A7.tuple (A7.cons (Le.shift (Le.agg ?_) _) (Le.shift (Le.agg ?_) _)) rfl⟩
 all_goals repeat' first | exact T3.nil | refine T3.cons ?_ ?_ | exact Le.refl _ | exact Le.emp _ _ | refine Le.arr1 ?_ rfl
structure X5 where
 line:Int
 qty:Int
 deriving Inhabited
def A8A (x:X5):AV:=.agg [eI x.line,eI x.qty]
def B4f (l:List X5) (i:Nat):Int:=if i=0 then -1 else (l.getD (i - 1) default).line
def A3Q (l:List X5) (i:Nat):Bool:=decide (B4f l i<(l.getD i default).line)&&decide (1≤(l.getD i default).qty)
def V9 (l:List X5):Bool:=decide ((l.length:Int)≤1000)&&(List.range l.length).all (A3Q l)
theorem B4D {l:List X5} {i:Nat} (hi:i<l.length) (h:A3Q l i=false):V9 l=false:=by
 unfold V9
 rw [show (List.range l.length).all (A3Q l)=false from List.all_eq_false.2 ⟨i,D7t.2 hi,by rw [h];simp⟩,D7H]
theorem B9M {l:List X5} (h:∀ k,k<l.length→A3Q l k=true):V9 l=decide ((l.length:Int)≤1000):=by
 unfold V9;rw [B1w h,D7Q]
theorem C4p {l:List X5} {i:Nat} (h:∀ k,k<i→A3Q l k=true) : -1≤B4f l i:=by
 induction i with
 | zero=>exact D7L _
 | succ i ih =>
  have h1:=ih fun k hk=>h k (by omega)
  have h2:=h i (by omega)
  unfold A3Q at h2
  simp only [D7f,D7d] at h2
  show -1≤(l.getD (i+1 - 1) default).line
  rw [Nat.add_sub_cancel];omega
theorem C0W (l:List X5) (hl:l.length≤9223372036854775806) (st:St):S P 88 [A8 2 A8A l] st fun v st'=>v=.bool (V9 l)∧st'=st:=by
 refine F7 [5] Tryz.func88 ?_
 cases h0:decide ((l.length:Int)>1000)
 case true =>
  conv=>whnf
  exact ⟨by unfold V9;rw [D7j (by have:=D7h h0;omega)];rfl,rfl⟩
 have h0:=D7g h0
 conv=>whnf
 refine lp l.length [3,9,10,11] (fun i vs s=>(∀ k,k<i→A3Q l k=true)∧vs=[eI (B4f l i),A8 2 A8A l,eI l.length,eI i]∧s=st) ?_ ?_
 ·conv=>whnf
  exact ⟨fun k hk=>absurd hk (by omega),rfl,rfl⟩
 rintro i vs s hi ⟨hok,rfl,rfl⟩
 conv=>whnf
 cases h:decide ((i:Int)<(l.length:Int))
 ·obtain rfl:=B9 h hi
  conv=>whnf
  exact ⟨by rw [B9M hok,D7D (by omega)];rfl,rfl⟩
 have hi':=D6 h
 have hx:A3Q l i=(decide (B4f l i<(l.getD (i:Int).toNat default).line)&&decide (1≤(l.getD (i:Int).toNat default).qty)):=rfl
 conv=>whnf
 refine E9 ?_
 cases h1:decide ((l.getD (i:Int).toNat default).line≤B4f l i)
 ·conv=>whnf
  cases h2:decide ((l.getD (i:Int).toNat default).qty<1)
  ·conv=>whnf
   have h1:=D7g h1
   have h2:=D7g h2
   refine G3 ?_
   exact nx hi' ⟨G9 hok (by rw [hx,D7D (by omega),D7D (by omega)];rfl),by rw [B4 (by omega)];rfl,rfl⟩
  ·conv=>whnf
   have h2:=D7h h2
   exact ⟨by rw [B4D hi' (by rw [hx,D7j (p:=1≤_) (by omega),D7H])];rfl,rfl⟩
 ·conv=>whnf
  have h1:=D7h h1
  exact ⟨by rw [B4D hi' (by rw [hx,D7j (p:=_<_) (by omega),D7z])];rfl,rfl⟩
def A5Q (items:List Ab.Item) (o:G5) (x:X5):Int :=
 if x.line≥o.lines.length then 7 else if Q7 items (o.lines.getD x.line.toNat default).sku<0 then 7 else if x.qty>(o.lines.getD x.line.toNat default).left then 12
  else if (items.getD (Q7 items (o.lines.getD x.line.toNat default).sku).toNat default).final=true then 14 else 0
def A1T (f:X5→Int):List X5→Int
 | []=>0
 | x::l=>if f x=0 then A1T f l else f x
theorem A7P {f:X5→Int}:∀ {l:List X5},(∀ k,k<l.length→f (l.getD k default)=0)→A1T f l=0
 | [],_=>rfl
 | x::l,h=>by
  unfold A1T
  rw [if_pos (show f x=0 from h 0 (Nat.zero_lt_succ _))]
  exact A7P fun k hk=>h (k+1) (Nat.succ_lt_succ hk)
theorem A9C {f:X5→Int}:∀ {l:List X5} {i:Nat},i<l.length→(∀ k,k<i→f (l.getD k default)=0)→f (l.getD i default)≠0→A1T f l=f (l.getD i default)
 | x::l,0,_,_,h=>by unfold A1T;rw [if_neg (show ¬ f x=0 from h)];rfl
 | x::l,i+1,hi,h0,h=>by
  unfold A1T
  rw [if_pos (show f x=0 from h0 0 (Nat.zero_lt_succ _))]
  exact A9C (Nat.lt_of_succ_lt_succ hi) (fun k hk=>h0 (k+1) (Nat.succ_lt_succ hk)) h
def B1Y (r:E0) (o:G5) (day:Int) (l:List X5):Int :=
 if K1 r=false then 10 else if H0 o=false then 2 else if day<o.day then 2 else if J8 0 100000 day=false then 2 else if V9 l=false then 2 else if day - o.day>r.policy.window then 13 else A1T (A5Q r.items o) l
theorem A4S {l:List X5} (h:V9 l=true) {i:Nat} (hi:i<l.length):0≤(l.getD i default).line∧1≤(l.getD i default).qty:=by
 unfold V9 at h
 rw [D7f,D7s] at h
 have h1:=C4p (l:=l) (i:=i) fun k hk=>h.2 k (D7t.2 (by omega))
 have h2:=h.2 i (D7t.2 hi)
 unfold A3Q at h2
 simp only [D7f,D7d] at h2
 omega
theorem C7v (r:E0) (o:G5) (x:X5) (hr:r.items.length≤9223372036854775807) (h0:0≤x.line) (st:St):S P 89 [F4 r,J4 o,A8A x] st fun v st'=>v=eI (A5Q r.items o x)∧st'=st:=by
 have n1:=B8F r.items (o.lines.getD x.line.toNat default).sku hr st
 have hf:Q7 r.items (o.lines.getD x.line.toNat default).sku<r.items.length:=(A9G _ _).2
 have hE:A5Q r.items o x=if x.line≥o.lines.length then 7 else if Q7 r.items (o.lines.getD x.line.toNat default).sku<0 then 7 else if x.qty>(o.lines.getD x.line.toNat default).left then 12
  else if (r.items.getD (Q7 r.items (o.lines.getD x.line.toNat default).sku).toNat default).final=true then 14 else 0:=rfl
 rw [hE]
 clear hE
 generalize Q7 r.items (o.lines.getD x.line.toNat default).sku=F at *
 refine F7 [3,4,5,7] Tryz.func89 ?_
 cases h1:decide (x.line≥(o.lines.length:Int))
 case true =>
  rw [if_pos (D7h h1)];conv=>whnf
  exact ⟨rfl,rfl⟩
 rw [if_neg (D7g h1)]
 have h1:=D7g h1
 conv=>whnf
 refine E9 ?_
 refine I3 n1 ?_
 cases h2:decide (F<0)
 case true =>
  rw [if_pos (D7h h2)];conv=>whnf
  exact ⟨rfl,rfl⟩
 rw [if_neg (D7g h2)]
 have h2:=D7g h2
 conv=>whnf
 cases h3:decide (x.qty>(o.lines.getD x.line.toNat default).left)
 case true =>
  rw [if_pos (D7h h3)];conv=>whnf
  exact ⟨rfl,rfl⟩
 rw [if_neg (D7g h3)];conv=>whnf
 refine E9 ?_
 cases h4:(r.items.getD F.toNat default).final
 all_goals
  conv=>whnf
  exact ⟨rfl,rfl⟩
set_option maxHeartbeats 1000000 in
theorem C4S (r:E0) (o:G5) (day:Int) (l:List X5) (hf:X9 r) (hr:r.items.length≤9223372036854775807) (hs:A2q o) (hl:l.length≤9223372036854775806) (st:St) :
  S P 30 [F4 r,J4 o,eI day,A8 2 A8A l] st fun v st'=>v=eI (B1Y r o day l)∧st'=st:=by
 have n1:=fun s=>B5F r hf s
 have n2:=fun s=>A8Y o hs s
 have n3:=fun s=>C3S day s
 have n4:=fun s=>C0W l hl s
 have hE:B1Y r o day l=if K1 r=false then 10 else if H0 o=false then 2 else if day<o.day then 2 else if J8 0 100000 day=false then 2 else if V9 l=false then 2 else if day - o.day>r.policy.window then 13 else A1T (A5Q r.items o) l:=rfl
 have hod:H0 o=true→0≤o.day∧o.day≤100000:=fun h=>by
  unfold H0 A5M at h
  simp only [D7f,D3] at h
  exact h.1.1.1.1.2.2
 have hta:=fun (h:V9 l=true) i (hi:i<l.length)=>A4S h hi
 have hub:J8 0 100000 day=true→0≤day∧day≤100000:=fun h=>(D3 ..).1 h
 rw [hE]
 clear hE
 generalize K1 r=b1 at *
 generalize H0 o=b2 at *
 generalize J8 0 100000 day=b3 at *
 generalize V9 l=b4 at *
 refine F7 [4,5,10] Tryz.func30 ?_
 refine B2 (n1 _) ?_
 cases b1
 ·conv=>whnf
  exact ⟨rfl,rfl⟩
 rw [if_neg (by simp)];conv=>whnf
 refine B2 (n2 _) ?_
 cases b2
 ·conv=>whnf
  exact ⟨rfl,rfl⟩
 rw [if_neg (by simp)];conv=>whnf
 cases h3:decide (day<o.day)
 case true =>
  rw [if_pos (D7h h3)];conv=>whnf
  exact ⟨rfl,rfl⟩
 rw [if_neg (D7g h3)];conv=>whnf
 refine B2 (n3 _) ?_
 cases b3
 ·conv=>whnf
  exact ⟨rfl,rfl⟩
 rw [if_neg (by simp)];conv=>whnf
 refine B2 (n4 _) ?_
 cases b4
 ·conv=>whnf
  exact ⟨rfl,rfl⟩
 rw [if_neg (by simp)]
 have h5:=hod rfl
 have h6:=hub rfl
 have hw:IntKind.i64.wrap (day - o.day)=day - o.day:=A4 (by omega) (by omega)
 conv=>whnf
 rw [hw]
 cases h7:decide (day - o.day>r.policy.window)
 case true =>
  rw [if_pos (D7h h7)];conv=>whnf
  exact ⟨rfl,rfl⟩
 rw [if_neg (D7g h7)];conv=>whnf
 refine lp l.length [4,5,45,46,47] (fun i vs s=>(∀ k,k<i→A5Q r.items o (l.getD k default)=0)∧vs=[.fptr (F4 r) 0,.fptr (J4 o) 0,A8 2 A8A l,eI l.length,eI i]∧s=st) ?_ ?_
 ·conv=>whnf
  exact ⟨fun k hk=>absurd hk (by omega),rfl,rfl⟩
 rintro i vs s hi ⟨hok,rfl,rfl⟩
 conv=>whnf
 cases h:decide ((i:Int)<(l.length:Int))
 ·obtain rfl:=B9 h hi
  rw [A7P hok];conv=>whnf
  exact ⟨rfl,rfl⟩
 have hi':=D6 h
 have n5:=fun s=>C7v r o (l.getD (i:Int).toNat default) hr (hta rfl i hi').1 s
 have hat:A5Q r.items o (l.getD (i:Int).toNat default)≠0→A1T (A5Q r.items o) l=A5Q r.items o (l.getD (i:Int).toNat default):=fun h=>A9C hi' hok h
 have hnx:A5Q r.items o (l.getD (i:Int).toNat default)=0→∀ k,k<i+1→A5Q r.items o (l.getD k default)=0:=fun h=>G9 hok h
 conv=>whnf
 refine E9 ?_
 refine B2 (n5 _) ?_
 generalize A5Q r.items o (l.getD (i:Int).toNat default)=E at *
 conv=>whnf
 cases h8:(E != 0)
 ·conv=>whnf
  refine G3 ?_
  exact nx hi' ⟨hnx (by simpa using h8),by rw [B4 (by omega)],rfl⟩
 ·rw [hat (by simpa using h8)];conv=>whnf
  exact ⟨rfl,rfl⟩
theorem C5L (t n a b:Int) (ht:0≤t∧t≤10000000000000) (hn:1≤n∧n≤100000) (ha:0≤a) (hab:a≤b) (hb:b≤n) (st:St) :
  S P 90 [eI t,eI n,eI a,eI b] st fun v st'=>v=.tuple [eI (J3 t n b - J3 t n a),eI 0]∧st'=st:=by
 have n1:=B5X t n b ht hn ⟨by omega,hb⟩ st
 have n2:=B5X t n a ht hn ⟨ha,by omega⟩ st
 have b1:=A0w (k:=b) ht.1 hn.1 (by omega) hb
 have b2:=A0w (k:=a) ht.1 hn.1 ha (by omega)
 have g2:decide (a>b)=false:=D7j (by omega)
 have hw:IntKind.i64.wrap (J3 t n b - J3 t n a)=J3 t n b - J3 t n a:=A4 (by omega) (by omega)
 refine SyW [] Tryz.func90 ?_
 repeat' ((conv=>whnf);first | refine B2 n1 ?_ | refine B2 n2 ?_ | rw [g2] | rw [hw])
 exact ⟨rfl,rfl⟩
theorem C3c {t n a b:Int} (ht:0≤t) (hn:1≤n) (hab:a≤b):J3 t n a≤J3 t n b:=by
 unfold J3
 exact Int.ediv_le_ediv (by omega) (D7W hab ht)
def A5x (o:G5) (x:X5):Int:=J3 (o.lines.getD x.line.toNat default).goods (o.lines.getD x.line.toNat default).sold (o.lines.getD x.line.toNat default).left - J3 (o.lines.getD x.line.toNat default).goods (o.lines.getD x.line.toNat default).sold ((o.lines.getD x.line.toNat default).left - x.qty)
def B8E (r:E0) (o:G5) (x:X5):Int:=(V7 (A5x o x) r.policy.restock 10000 1).1
def A5p (r:E0) (o:G5) (l:List X5):Int:=l.foldl (fun a x=>a+B8E r o x) 0
def C3Z (r:E0) (o:G5) (day:Int) (l:List X5):Int:=if B1Y r o day l≠0 then 0 else if day - o.day<r.policy.grace then 0 else A5p r o l
theorem B0q {f:X5→Int}:∀ {l:List X5} {i:Nat},A1T f l=0→i<l.length→f (l.getD i default)=0
 | x::l,i,h,hi=>by
  unfold A1T at h
  by_cases e:f x=0
  ·rw [if_pos e] at h
   cases i with
   | zero=>exact e
   | succ i=>exact B0q (l:=l) (i:=i) h (Nat.lt_of_succ_lt_succ hi)
  ·rw [if_neg e] at h;exact absurd h e
structure C3q (r:E0) (o:G5) (day:Int) (l:List X5):Prop where
 right:K1 r=true
 order:H0 o=true
 day:o.day≤day∧day≤100000
 oday:0≤o.day
 len:l.length≤1000
 at_:∀ i,i<l.length→0≤(l.getD i default).line∧(l.getD i default).line.toNat<o.lines.length∧1≤(l.getD i default).qty∧(l.getD i default).qty≤(o.lines.getD (l.getD i default).line.toNat default).left
theorem D0Y {r:E0} {o:G5} {day:Int} {l:List X5} (h:B1Y r o day l=0):C3q r o day l:=by
 unfold B1Y at h
 split at h
 ·cases h
 rename_i h1
 split at h
 ·cases h
 rename_i h2
 split at h
 ·cases h
 rename_i h3
 split at h
 ·cases h
 rename_i h4
 split at h
 ·cases h
 rename_i h5
 split at h
 ·cases h
 have h4:=(D3 ..).1 (by simpa using h4:J8 0 100000 day=true)
 have h5:V9 l=true:=by simpa using h5
 have h2:H0 o=true:=by simpa using h2
 have h6:=h2
 unfold H0 A5M at h6
 simp only [D7f,D3] at h6
 have h7:=h5
 unfold V9 at h7
 simp only [D7f,D7d] at h7
 refine ⟨by simpa using h1,h2,⟨by omega,h4.2⟩,h6.1.1.1.1.2.2.1,by omega,fun i hi=>?_⟩
 have a1:=A4S h5 hi
 have a2:=B0q h hi
 unfold A5Q at a2
 split at a2
 ·cases a2
 split at a2
 ·cases a2
 split at a2
 ·cases a2
 omega
theorem B5d {o:G5} (h:H0 o=true) {x:U5} (hx:x∈o.lines):U2 x=true:=by
 unfold H0 A1Y at h
 simp only [D7f,D7s] at h
 exact h.1.1.1.2.2 x hx
theorem C4a {r:E0} {o:G5} {day:Int} {l:List X5} (h:C3q r o day l) {i:Nat} (hi:i<l.length):(0≤A5x o (l.getD i default)∧A5x o (l.getD i default)≤10000000000000)∧0≤B8E r o (l.getD i default)∧B8E r o (l.getD i default)≤10000000000000:=by
 obtain ⟨a1,a2,a3,a4⟩:=h.at_ i hi
 have k:=A1X (B5d h.order (A5 a2))
 have hr:=h.right
 unfold K1 A2D at hr
 simp only [D7f,D3] at hr
 have b1:=A0w (t:=(o.lines.getD (l.getD i default).line.toNat default).goods) (n:=(o.lines.getD (l.getD i default).line.toNat default).sold) (k:=(o.lines.getD (l.getD i default).line.toNat default).left) k.2.2.2.2.1.1 k.2.2.1.1 (by omega) k.2.2.2.1.2
 have b2:=A0w (t:=(o.lines.getD (l.getD i default).line.toNat default).goods) (n:=(o.lines.getD (l.getD i default).line.toNat default).sold) (k:=(o.lines.getD (l.getD i default).line.toNat default).left - (l.getD i default).qty) k.2.2.2.2.1.1 k.2.2.1.1 (by omega) (by omega)
 have b3:=C3c (t:=(o.lines.getD (l.getD i default).line.toNat default).goods) (n:=(o.lines.getD (l.getD i default).line.toNat default).sold) k.2.2.2.2.1.1 k.2.2.1.1 (show (o.lines.getD (l.getD i default).line.toNat default).left - (l.getD i default).qty≤(o.lines.getD (l.getD i default).line.toNat default).left by omega)
 have hp:0≤A5x o (l.getD i default)∧A5x o (l.getD i default)≤10000000000000:=by unfold A5x;omega
 have ht:=B7W (x:=A5x o (l.getD i default)) (num:=r.policy.restock) (den:=10000) (round:=1) hp.1 hr.2.1.1.2.1 hr.2.1.1.2.2 (by decide)
 exact ⟨hp,ht.1,by unfold B8E;omega⟩
theorem B0p {r:E0} {o:G5} {l:List X5} {i:Nat} (hi:i<l.length):A5p r o (l.take (i+1))=A5p r o (l.take i)+B8E r o (l.getD i default):=G8 hi _ _
theorem B4a {r:E0} {o:G5} {day:Int} {l:List X5} (h:C3q r o day l):∀ i:Nat,i≤l.length→0≤A5p r o (l.take i)∧A5p r o (l.take i)≤10000000000000 * (i:Int)
 | 0,_=>by rw [D8B];exact ⟨D7L 0,by show (0:Int)≤_;omega⟩
 | i+1,hi=>by
  have h1:=B4a h i (by omega)
  have h2:=(C4a h (show i<l.length by omega)).2
  rw [B0p (by omega)]
  omega
set_option maxHeartbeats 1000000 in
theorem C9z (r:E0) (o:G5) (day:Int) (l:List X5) (hf:X9 r) (hr:r.items.length≤9223372036854775807) (hs:A2q o) (hl:l.length≤9223372036854775806) (st:St) :
  S P 31 [F4 r,J4 o,eI day,A8 2 A8A l] st fun v st'=>v=.tuple [eI (C3Z r o day l),eI (B1Y r o day l)]∧st'=st:=by
 have n1:=fun s=>C4S r o day l hf hr hs hl s
 have hok:=@D0Y r o day l
 have hE:C3Z r o day l=if B1Y r o day l≠0 then 0 else if day - o.day<r.policy.grace then 0 else A5p r o l:=rfl
 rw [hE]
 clear hE
 generalize B1Y r o day l=E at *
 refine F7 [4,5,13,14] Tryz.func31 ?_
 refine I3 (n1 _) ?_
 cases h0:(E != 0)
 case true =>
  rw [if_pos (show E≠0 by simpa using h0)];conv=>whnf
  exact ⟨rfl,rfl⟩
 obtain rfl:E=0:=by simpa using h0
 have hO:=hok rfl
 have hd:=hO.day
 have ho:=hO.oday
 have hw:IntKind.i64.wrap (day - o.day)=day - o.day:=A4 (by omega) (by omega)
 rw [if_neg (by simp)];conv=>whnf
 rw [hw]
 cases h7:decide (day - o.day<r.policy.grace)
 case true =>
  rw [if_pos (D7h h7)];conv=>whnf
  exact ⟨rfl,rfl⟩
 rw [if_neg (D7g h7)];conv=>whnf
 refine lp l.length [4,5,11,35,36,37] (fun i vs s=>vs=[.fptr (F4 r) 0,.fptr (J4 o) 0,eI (A5p r o (l.take i)),A8 2 A8A l,eI l.length,eI i]∧s=st) ?_ ?_
 ·conv=>whnf
  exact ⟨rfl,rfl⟩
 rintro i vs s hi ⟨rfl,rfl⟩
 conv=>whnf
 cases h:decide ((i:Int)<(l.length:Int))
 ·obtain rfl:=B9 h hi
  rw [D7m];conv=>whnf
  exact ⟨rfl,rfl⟩
 have hi':=D6 h
 obtain ⟨a1,a2,a3,a4⟩:=hO.at_ i hi'
 have k:=A1X (B5d hO.order (A5 a2))
 have f1:=C4a hO hi'
 have f2:=B4a hO i hi
 have f3:=B0p (r:=r) (o:=o) hi'
 have hlen:=hO.len
 have hR:=hO.right
 unfold K1 A2D at hR
 simp only [D7f,D3] at hR
 have hw1:IntKind.i64.wrap ((o.lines.getD (l.getD (i:Int).toNat default).line.toNat default).left - (l.getD (i:Int).toNat default).qty)=(o.lines.getD (l.getD (i:Int).toNat default).line.toNat default).left - (l.getD (i:Int).toNat default).qty:=(A4 (by omega) (by omega):IntKind.i64.wrap ((o.lines.getD (l.getD i default).line.toNat default).left - (l.getD i default).qty)=_)
 have n2:=fun s=>C5L (o.lines.getD (l.getD i default).line.toNat default).goods (o.lines.getD (l.getD i default).line.toNat default).sold ((o.lines.getD (l.getD i default).line.toNat default).left - (l.getD i default).qty) (o.lines.getD (l.getD i default).line.toNat default).left k.2.2.2.2.1 k.2.2.1 (by omega) (by omega) k.2.2.2.1.2 s
 have n3:=fun s=>B5z (A5x o (l.getD i default)) r.policy.restock 1 s
 rw [if_pos hR.2.1.1.2] at n3
 have hw2:IntKind.i64.wrap (A5p r o (l.take i)+(V7 (A5x o (l.getD i default)) r.policy.restock 10000 1).1)=A5p r o (l.take (i+1)):=(A4 (by show _≤_+B8E r o _;omega) (by show _+B8E r o _≤_;omega)).trans f3.symm
 have a2':(l.getD (i:Int).toNat default).line<(o.lines.length:Int):=by show (l.getD i default).line<_;omega
 have a1':0≤(l.getD (i:Int).toNat default).line:=a1
 repeat' ((conv=>whnf);first | refine ⟨rfl,⟨by omega,by omega⟩,?_⟩ | rw [hw1] | refine B2 (n2 _) ?_ | refine B2 (n3 _) ?_ | rw [hw2] | fail)
 refine G3 ?_
 exact nx hi' ⟨by rw [B4 (by omega)],rfl⟩
theorem _root_.Go.Ab.Col.blks {ty e n:Nat} {f:Nat→AV} {st w w':St} {v:AV} {L:List (Nat×L7)} (hc:Col ty e f w n v w') (h:C9 st L w):∃ b,OV e b n v∧C9 st ((b,⟨ty,e,n,f⟩)::L) w':=by
 rcases hc with ⟨rfl,rfl,rfl⟩ | ⟨h0,b,g,h1,rfl,rfl,h4⟩
 ·exact ⟨0,OV.nil e 0,h.soft 0 ty e f⟩
 ·exact ⟨b,.inr ⟨h0,rfl⟩,h.got h1 ((F8.refl w).upd h1) ⟨g,A0 ..,h4⟩⟩
theorem B6s (l:List U5) (hl:l.length≤100000) (st:St):S P 153 [A8 6 Q2 l] st fun v st'=>E8 55 6 Q2 l st v st':=by
 refine SyW [] Tryz.func153 ?_
 cases l with
 | nil =>
  conv=>whnf
  refine ⟨?_,?_⟩
  ·conv=>whnf
   exact Col.start _ _ _ _
  ·conv=>whnf
   refine apE rfl rfl rfl rfl rfl (by show 0 * 56≤_;omega) (fun _=>?_) (fun h=>absurd h (by show ¬ 0<0;omega));conv=>whnf
   exact Col.start _ _ _ _
 | cons u us =>
  conv=>whnf
  refine Col.apps (n:=0) (m:=us.length+1) (q:=r55) (f:=fun k=>Q2 ((u::us).getD k default)) rfl rfl rfl rfl rfl (fun i hi=>by rw [D7o]) (by show (0+(us.length+1)) * 56≤140737488355328;simp only [D7N] at hl;omega) (Col.start _ _ _ _) (fun sv s' hc'=>?_);conv=>whnf
  rw [D7o] at hc'
  exact hc'
theorem B1B (l:List A1R) (hl:l.length≤100000) (st:St):S P 154 [A8 3 Q5 l] st fun v st'=>v=A8 3 Q5 l∧st'=st:=by
 refine A0y (ty:=70) ?_
 refine SyW [] Tryz.func154 ?_
 cases l with
 | nil =>
  conv=>whnf
  refine ⟨?_,?_⟩
  ·conv=>whnf
   exact Col.start _ _ _ _
  ·conv=>whnf
   refine apE rfl rfl rfl rfl rfl (by show 0 * 24≤_;omega) (fun _=>?_) (fun h=>absurd h (by show ¬ 0<0;omega));conv=>whnf
   exact Col.start _ _ _ _
 | cons u us =>
  conv=>whnf
  refine Col.apps (n:=0) (m:=us.length+1) (q:=r70) (f:=fun k=>Q5 ((u::us).getD k default)) rfl rfl rfl rfl rfl (fun i hi=>by rw [D7o]) (by show (0+(us.length+1)) * 24≤140737488355328;simp only [D7N] at hl;omega) (Col.start _ _ _ _) (fun sv s' hc'=>?_);conv=>whnf
  rw [D7o] at hc'
  exact hc'
def D0G (o:G5) (st:St) (v:AV) (st':St):Prop:=∃ lv bl,C9 st [(bl,⟨55,6,o.lines.length,fun k=>Q2 (o.lines.getD k default)⟩)] st'∧OV 6 bl o.lines.length lv ∧
 v=.agg [eS o.id,eI o.rules,eS o.zone,eB o.exempt,D5 o.codes,eI o.day,lv,eI o.ship,eI o.shipTax,eI o.fee,eI o.net,eI o.book.goods,eI o.book.tax,eI o.book.ship,eI o.book.shipTax,eI o.book.fee,A8 3 Q5 o.tenders]
theorem C4Q (o:G5) (hc:o.codes.length≤100000) (hl:o.lines.length≤100000) (ht:o.tenders.length≤100000) (st:St):S P 98 [J4 o] st fun v st'=>D0G o st v st':=by
 have n1:=fun s=>B6t o.codes hc s
 have n2:=fun s=>B6s o.lines hl s
 have n3:=fun s=>B1B o.tenders ht s
 refine A0o [] A4i mixed Tryz.func98 (by rfl) rfl rfl rfl ?_;conv=>whnf
 intro b1 hb1
 generalize hs:(upd st b1 _:St)=w
 have h:=C9.new' hs (A0u st) hb1
 clear hs hb1
 conv=>whnf
 intro b2 hb2
 generalize hs:(upd w b2 _:St)=w2
 have h:=C9.new' hs h hb2
 clear hs hb2
 have hb:=h.has1 (.s .z)
 conv=>whnf
 refine .inr ⟨[5,10,12,14],.qui 0 (.qui 1 (.qui 2 (.qui 3 (.qui 4 (.qui 6 (.qui 7 (.qui 9 (.eff 5 [7] (.qui 8 (.eff 10 [] (.qui 11 (.eff 12 [] (.qui 13 (.eff 14 [] (.done))))))))))))))),by kernel_rfl,?_⟩
 repeat' ((conv=>whnf);first | refine quL hb (fun _ hs=>X4 hs rfl Nat.one_pos rfl ⟨rfl,rfl⟩) ?_ | refine quT (fun s=>F3 (n1 s)) ?_ | fail)
 conv=>whnf
 refine call (n2 _) (fun lv w3 hv=>?_)
 obtain ⟨bl,hlv,h⟩:=hv.blks h
 have hb:=h.has1 (.s (.s .z))
 repeat' ((conv=>whnf);first | refine ⟨fun _=>hb,?_⟩ | refine quT (fun s=>F3 (n3 s)) ?_ | fail)
 conv=>whnf
 refine F1 h (.s (.s .z)) rfl rfl (by rfl) ?_;conv=>whnf
 intro w h;conv=>whnf
 refine C4K h (.s (.s .z)) rfl rfl rfl hlv.one (by decide) ?_;conv=>whnf
 intro w h;conv=>whnf
 refine F1 h (.s (.s .z)) rfl rfl (by rfl) ?_;conv=>whnf
 intro w h;conv=>whnf
 refine L8 h (.s (.s .z)) rfl Nat.one_pos rfl ?_;conv=>whnf
 refine F1 h (.s .z) rfl rfl (B8q (by rfl) (by simp only [cellsOf,List.all_cons,hlv.one];rfl)) ?_;conv=>whnf
 intro w h;conv=>whnf
 refine L8 h (.s .z) rfl Nat.one_pos rfl ?_;conv=>whnf
 exact ⟨lv,bl,(h.drop 2).drop 1,hlv,rfl⟩
def A5g (o:G5) (x:X5):Int:=if x.line≥o.lines.length then 7 else if x.qty>(o.lines.getD x.line.toNat default).left then 12 else 0
def A7N (o:G5) (l:List X5):Int:=if H0 o=false then 2 else if V9 l=false then 2 else A1T (A5g o) l
def D1d (x:U5) (n:Int):U5:=⟨x.sku,x.price,x.sold,x.left - n,x.goods,x.tax⟩
def C7m (ls:List U5) (x:X5):List U5:=ls.set x.line.toNat (D1d (ls.getD x.line.toNat default) x.qty)
def offs (ls:List U5) (l:List X5):List U5:=l.foldl C7m ls
def C0B:G5:=⟨.empty,0,.empty,false,[],0,[],0,0,0,0,⟨0,0,0,0,0⟩,[]⟩
def B4O (o:G5) (l:List X5):G5:=if A7N o l≠0 then C0B else ⟨o.id,o.rules,o.zone,o.exempt,o.codes,o.day,offs o.lines l,o.ship,o.shipTax,o.fee,o.net,o.book,o.tenders⟩
theorem setD {α : Type} [Inhabited α] (l:List α) (x : α) {k:Nat} (hk:k<l.length) (j:Nat):(l.set k x).getD j default=if j=k then x else l.getD j default:=by
 simp only [D7c,D8W]
 by_cases h:k=j
 ·subst h;simp [hk]
 ·rw [if_neg h,if_neg (Ne.symm h)]
theorem A8M:∀ (l:List X5) (ls:List U5),(offs ls l).length=ls.length
 | [],_=>rfl
 | x::l,ls=>(A8M l _).trans (D8p ..)
theorem B4k {l:List X5} {i:Nat} (hi:i<l.length) (ls:List U5):offs ls (l.take (i+1))=C7m (offs ls (l.take i)) (l.getD i default):=G8 hi _ _
theorem C0D {l:List X5} (h:V9 l=true) (ls:List U5):∀ (i:Nat),i≤l.length→(∀ k,k<i→¬(l.getD k default).line≥ls.length)→∀ j:Nat,B4f l i<j→(offs ls (l.take i)).getD j default=ls.getD j default
 | 0,_,_,_,_=>by rw [D8B];rfl
 | i+1,hi,hE,j,hj=>by
  have h1:=h
  unfold V9 at h1
  rw [D7f,D7s] at h1
  have h2:=h1.2 i (D7t.2 (by omega))
  unfold A3Q at h2
  simp only [D7f,D7d] at h2
  have h3:(l.getD i default).line<j:=hj
  have h4:=hE i (by omega)
  have h5:=(A4S h (show i<l.length by omega)).1
  rw [B4k (by omega),C7m,setD _ _ (by rw [A8M];omega),if_neg (by omega)]
  exact C0D h ls i (by omega) (fun k hk=>hE k (by omega)) j (by omega)
theorem C4F {o:G5} {l:List X5} (h:V9 l=true) {i:Nat} (hok:∀ k,k<i→A5g o (l.getD k default)=0) (hi:i<l.length):(offs o.lines (l.take i)).getD (l.getD i default).line.toNat default=o.lines.getD (l.getD i default).line.toNat default:=by
 have h1:=h
 unfold V9 at h1
 rw [D7f,D7s] at h1
 have h2:=h1.2 i (D7t.2 hi)
 unfold A3Q at h2
 simp only [D7f,D7d] at h2
 have h3:=(A4S h hi).1
 exact C0D h o.lines i (by omega) (fun k hk hh=>by
  have:=hok k hk
  rw [A5g,if_pos hh] at this;cases this) _ (by omega)
theorem D0M {st w:St} (h:F8 st w) (e:Int):A7 [.tuple [.agg [eS .empty,eI 0,eS .empty,eB false,.emp,eI 0,.emp,eI 0,eI 0,eI 0,eI 0,eI 0,eI 0,eI 0,eI 0,eI 0,.emp],eI e]] w [.tuple [J4 C0B,eI e]] st:=by
 refine A7.trans (t:=w) ?_ (h.shift _)
 refine A7.tuple (A7.cons (A7.agg ?_) (A7.keep _ _)) rfl
 iterate 4 refine A7.cons (A7.keep [_] _) ?_
 refine A7.cons (I5 1 _) ?_
 refine A7.cons (A7.keep [_] _) ?_
 refine A7.cons (I5 6 _) ?_
 iterate 9 refine A7.cons (A7.keep [_] _) ?_
 exact I5 3 _
set_option maxHeartbeats 1000000 in
theorem C4M (o:G5) (l:List X5) (hs:A2q o) (hl:l.length≤9223372036854775806) (st:St) :
  S P 40 [J4 o,A8 2 A8A l] st fun v st'=>v=.tuple [J4 (B4O o l),eI (A7N o l)]∧st'=st:=by
 have n2:=fun s=>A8Y o hs s
 have n4:=fun s=>C0W l hl s
 have hta:=fun (h:V9 l=true) i (hi:i<l.length)=>A4S h hi
 refine S.post (post:=fun v w=>((A7N o l≠0∧F8 st w)∧v=.tuple [.agg [eS .empty,eI 0,eS .empty,eB false,.emp,eI 0,.emp,eI 0,eI 0,eI 0,eI 0,eI 0,eI 0,eI 0,eI 0,eI 0,.emp],eI (A7N o l)]) ∨
   (A7N o l=0∧∃ bl,C9 st [(bl,⟨55,6,o.lines.length,fun k=>Q2 ((offs o.lines l).getD k default)⟩)] w ∧
    v=.tuple [.agg [eS o.id,eI o.rules,eS o.zone,eB o.exempt,D5 o.codes,eI o.day,.own 6 bl 0 o.lines.length,eI o.ship,eI o.shipTax,eI o.fee,eI o.net,eI o.book.goods,eI o.book.tax,eI o.book.ship,eI o.book.shipTax,eI o.book.fee,A8 3 Q5 o.tenders],eI 0])) ?_
  (fun v w hv=>by
   rcases hv with ⟨⟨h1,h2⟩,rfl⟩ | ⟨h1,bl,h2,rfl⟩
   ·refine ⟨_,_,⟨rfl,rfl⟩,?_⟩
    rw [B4O,if_pos h1]
    exact D0M h2 _
   ·obtain ⟨s1,h3,k1⟩:=h2.frzO .z
    refine ⟨_,_,⟨rfl,rfl⟩,?_⟩
    rw [B4O,if_neg (by rw [h1];exact fun h=>h rfl),h1]
    refine A7.trans (t:=s1) ?_ (h3.fin _)
    refine A7.tuple (A7.cons (A7.agg ?_) (A7.keep _ _)) rfl
    iterate 6 refine A7.cons (A7.keep [_] _) ?_
    rw [show AV.arr 6 o.lines.length _=A8 6 Q2 (offs o.lines l) by unfold A8;rw [A8M]] at k1
    refine A7.cons k1 ?_
    exact A7.keep _ _)
 have hE:A7N o l=if H0 o=false then 2 else if V9 l=false then 2 else A1T (A5g o) l:=rfl
 rw [hE]
 clear hE
 have hO:H0 o=true→(1≤o.lines.length∧∀ x∈o.lines,U2 x=true)∧o.codes.length≤100000:=fun h=>by
  refine ⟨⟨?_,fun x=>B5d h⟩,?_⟩<;>(unfold H0 A1Y A5M R6 at h;simp only [D7f,D7d] at h;omega)
 generalize H0 o=b2 at *
 generalize hb4:V9 l=b4 at *
 refine A0o [2,8] A4i mixed Tryz.func40 (by rfl) rfl rfl rfl ?_;conv=>whnf
 intro b1 hb1
 generalize hs1:(upd st b1 _:St)=w
 have h:=C9.new' hs1 (A0u st) hb1
 clear hs1 hb1
 conv=>whnf
 refine B2 (n2 _) ?_
 cases b2
 ·conv=>whnf
  refine F1 h .z rfl rfl (by rfl) ?_;conv=>whnf
  intro w h;conv=>whnf
  refine L8 h .z rfl Nat.one_pos rfl ?_;conv=>whnf
  exact .inl ⟨⟨by simp,h.sup⟩,rfl⟩
 rw [if_neg (by simp)];conv=>whnf
 refine B2 (n4 _) ?_
 cases b4
 ·conv=>whnf
  refine F1 h .z rfl rfl (by rfl) ?_;conv=>whnf
  intro w h;conv=>whnf
  refine L8 h .z rfl Nat.one_pos rfl ?_;conv=>whnf
  exact .inl ⟨⟨by simp,h.sup⟩,rfl⟩
 rw [if_neg (by simp)]
 obtain ⟨⟨hl1,hkb⟩,hcl⟩:=hO rfl
 conv=>whnf
 refine call (C4Q o hcl hs.lines hs.tenders _) (fun v w2 hv=>?_)
 obtain ⟨lv,bl,hB,hlv,rfl⟩:=hv
 obtain rfl:=hlv.own hl1
 have h:=h.trans hB
 conv=>whnf
 intro b6 hb6
 generalize hs1:(upd w2 b6 _:St)=w3
 have h:=C9.new' hs1 h hb6
 clear hs1 hb6
 conv=>whnf
 refine F1 h .z rfl rfl (by rfl) ?_;conv=>whnf
 intro w h;conv=>whnf
 refine lp l.length [4,6,21,22,23] (fun i vs s=>vs=[.optr 17 b1 0 0,.optr 17 b6 0 0,A8 2 A8A l,eI l.length,eI i]∧(∀ k,k<i→A5g o (l.getD k default)=0) ∧
   C9 st [(b6,⟨50,17,1,fun _=>.agg [eS o.id,eI o.rules,eS o.zone,eB o.exempt,D5 o.codes,eI o.day,.own 6 bl 0 o.lines.length,eI o.ship,eI o.shipTax,eI o.fee,eI o.net,eI o.book.goods,eI o.book.tax,eI o.book.ship,eI o.book.shipTax,eI o.book.fee,A8 3 Q5 o.tenders]⟩),
    (bl,⟨55,6,o.lines.length,fun k=>Q2 ((offs o.lines (l.take i)).getD k default)⟩),(b1,⟨50,17,1,fun _=>.agg [eS .empty,eI 0,eS .empty,eB false,.emp,eI 0,.emp,eI 0,eI 0,eI 0,eI 0,eI 0,eI 0,eI 0,eI 0,eI 0,.emp]⟩)] s) ?_ ?_
 ·conv=>whnf
  exact ⟨rfl,fun k hk=>absurd hk (by omega),h⟩
 clear h
 rintro i vs s hi ⟨rfl,hok,h⟩
 conv=>whnf
 cases h1:decide ((i:Int)<(l.length:Int))
 ·obtain rfl:=B9 h1 hi
  rw [A7P hok]
  rw [D7m] at h;conv=>whnf
  refine L8 h .z rfl Nat.one_pos rfl ?_;conv=>whnf
  refine F1 h (.s (.s .z)) rfl rfl (by rfl) ?_;conv=>whnf
  intro w h;conv=>whnf
  refine L8 h (.s (.s .z)) rfl Nat.one_pos rfl ?_;conv=>whnf
  exact .inr ⟨rfl,bl,(h.drop 0).drop 1,rfl⟩
 have hi':=D6 h1
 have ht0:=hta rfl i hi'
 have hat:A5g o (l.getD (i:Int).toNat default)≠0→A1T (A5g o) l=A5g o (l.getD (i:Int).toNat default):=fun h=>A9C hi' hok h
 have hE:A5g o (l.getD (i:Int).toNat default)=if (l.getD (i:Int).toNat default).line≥o.lines.length then 7 else if (l.getD (i:Int).toNat default).qty>(o.lines.getD (l.getD (i:Int).toNat default).line.toNat default).left then 12 else 0:=rfl
 change 0≤(l.getD (i:Int).toNat default).line∧1≤(l.getD (i:Int).toNat default).qty at ht0
 conv=>whnf
 refine E9 ?_
 refine L8 h .z rfl Nat.one_pos rfl ?_;conv=>whnf
 cases h2:decide ((l.getD (i:Int).toNat default).line≥(o.lines.length:Int))
 case true =>
  rw [if_pos (D7h h2)] at hE
  rw [hat (by rw [hE];decide),hE];conv=>whnf
  refine F1 h (.s (.s .z)) rfl rfl (by rfl) ?_;conv=>whnf
  intro w h;conv=>whnf
  refine L8 h (.s (.s .z)) rfl Nat.one_pos rfl ?_;conv=>whnf
  exact .inl ⟨⟨by simp,h.sup⟩,rfl⟩
 rw [if_neg (D7g h2)] at hE
 have h2:=D7g h2
 have hx:=C4F hb4 hok hi'
 change (offs o.lines (l.take i)).getD (l.getD (i:Int).toNat default).line.toNat default=o.lines.getD (l.getD (i:Int).toNat default).line.toNat default at hx
 have hk:=A1X (hkb _ (A5 (show (l.getD (i:Int).toNat default).line.toNat<o.lines.length by omega)))
 conv=>whnf
 refine L8 h .z rfl Nat.one_pos rfl ?_;conv=>whnf
 refine E9 ?_
 rw [D7o ((l.getD (i:Int).toNat default).line.toNat)]
 have hb:=h.has (.s .z) (by show 0<o.lines.length;omega)
 refine .inr ⟨[],.qui 0 (.qui 1 (.qui 2 (.qui 3 (.qui 4 (.qui 5 (.qui 6 (.done))))))),by kernel_rfl,?_⟩
 repeat' ((conv=>whnf);first | refine quT (fun _=>⟨rfl,rfl⟩) ?_ | refine quL hb (fun _ hs=>X4 hs rfl (by show (l.getD (i:Int).toNat default).line.toNat<o.lines.length;omega) rfl ⟨rfl,rfl⟩) ?_ | fail)
 conv=>whnf
 rw [hx]
 cases h3:decide ((l.getD (i:Int).toNat default).qty>(o.lines.getD (l.getD (i:Int).toNat default).line.toNat default).left)
 case true =>
  rw [if_pos (D7h h3)] at hE
  rw [hat (by rw [hE];decide),hE];conv=>whnf
  refine F1 h (.s (.s .z)) rfl rfl (by rfl) ?_;conv=>whnf
  intro w h;conv=>whnf
  refine L8 h (.s (.s .z)) rfl Nat.one_pos rfl ?_;conv=>whnf
  exact .inl ⟨⟨by simp,h.sup⟩,rfl⟩
 rw [if_neg (D7g h3)] at hE
 have h3:=D7g h3
 conv=>whnf
 refine .inr ⟨[9],.qui 0 (.qui 1 (.qui 2 (.qui 3 (.qui 4 (.qui 5 (.qui 6 (.qui 7 (.qui 8 (.eff 9 [] (.done)))))))))),by kernel_rfl,?_⟩
 repeat' ((conv=>whnf);first | refine quT (fun _=>⟨rfl,rfl⟩) ?_ | refine quL hb (fun _ hs=>X4 hs rfl (by show (l.getD (i:Int).toNat default).line.toNat<o.lines.length;omega) rfl ⟨rfl,rfl⟩) ?_ | fail)
 conv=>whnf
 refine C9x h (.s .z) rfl (by show (l.getD (i:Int).toNat default).line.toNat<o.lines.length;omega) rfl (by rfl) ?_;conv=>whnf
 intro w h
 rw [hx] at h;conv=>whnf
 have hw:IntKind.i64.wrap ((o.lines.getD (l.getD (i:Int).toNat default).line.toNat default).left - (l.getD (i:Int).toNat default).qty)=(o.lines.getD (l.getD (i:Int).toNat default).line.toNat default).left - (l.getD (i:Int).toNat default).qty:=A4 (by omega) (by omega)
 rw [hw] at h
 refine G3 ?_
 refine nx hi' ⟨by rw [B4 (by omega)],G9 hok hE,h.as (fun k=>Q2 ((offs o.lines (l.take (i+1))).getD k default)) (.s .z) fun k hk=>?_⟩
 rw [B4k hi',C7m,setD _ _ (by rw [A8M];show (l.getD (i:Int).toNat default).line.toNat<_;omega)]
 show I6 _ _ _ k=Q2 (if k=(l.getD (i:Int).toNat default).line.toNat then _ else _)
 by_cases hkk:k=(l.getD (i:Int).toNat default).line.toNat
 ·rw [hkk,A6,if_pos rfl]
  show _=Q2 (D1d ((offs o.lines (l.take i)).getD (l.getD (i:Int).toNat default).line.toNat default) _)
  rw [hx];rfl
 ·rw [H7 hkk,if_neg hkk]
def spW:E0:=spR 30 0 1000
def spL:List E6:=[⟨⟨#[97]⟩,1,50⟩]
def spQ:O5:=⟨[50],[5],0,0,55,[]⟩
def spT (n:Int):List X5:=[⟨0,n⟩]
theorem B5O (w g c:Int):X9 (spR w g c):=⟨D7C _,fun p hp=>absurd hp D8D,by show 0<_;decide,by show 0<_;decide⟩
theorem C0R (n:Int):A2q (spO n):=⟨(by decide:Sm 1),(by decide:Sm 1),(by decide:Sm 0),fun s hs=>(by cases hs),(by decide:1≤100000),fun x hx=>by rw [D7I.1 hx];exact (by decide:Sm 1),(by decide:1≤100000)⟩
theorem C2J (st:St):S P 122 [F4 spW,D5 [],A8 3 I7 spL] st fun v st'=>v=.tuple [A1t ⟨[50],50,0,[]⟩,eI 0]∧st'=st :=
 (price_S B7O spW [] spL (B5O ..) (by decide) (by decide) (by decide) st).mono fun v s hv=>by
  obtain ⟨hv,rfl⟩:=hv
  refine ⟨?_,rfl⟩
  rcases hv with ⟨h,_⟩ | ⟨_,o1,o2,h1,h2,h3⟩
  ·exact absurd (show D8 spW [] spL=0 by kernel_rfl) h
  ·rw [show spW.promos=[] from rfl] at h1 h2 h3
   rw [show P9 [] o1=[] from List.perm_nil.1 ((B0b [] o1).trans h1.1),show P9 [] o2=[] from List.perm_nil.1 ((B0b [] o2).trans h2.1),show A0q spW spL [] []=⟨[50],50,0,[]⟩ by kernel_rfl] at h3
   exact h3
theorem B5P:A2R spW.tax spZ (N6 spW spL) [50] 0:=by
 refine ⟨by kernel_rfl,by kernel_rfl,by kernel_rfl,⟨by decide,fun x hx=>?_,by decide⟩,by decide⟩
 rw [D7I.1 hx];decide
theorem C2K (st:St):S P 60 [F4 spW,eS ⟨#[122]⟩,eB false,D5 [],A8 3 I7 spL] st fun v st'=>v=.tuple [A1x spQ,eI 0]∧st'=st:=by
 have hI:∀ st,S P 123 [A8 4 F2 spW.items,A8 3 I7 spL] st fun v s=>v=A8 4 F2 (C2 spW.items spL)∧s=st:=fun st=>A9I _ _ (by decide) (by decide) (fun x hx=>by rw [D7I.1 hx];kernel_rfl) st
 have h:=quote_S (r:=spW) (codes:=[]) (l:=spL) (Pr:=⟨[50],50,0,[]⟩) (z:=spZ) (zone:=⟨#[122]⟩) false C2J hI (by decide) B5P (by kernel_rfl) (fun st=>B6r spW.tax _ _ (by decide) (by kernel_rfl) (fun x hx=>(A3M B5P).2 x hx) st) (B4g B5P false) st
 rw [show A9Z spW spZ false spL ⟨[50],50,0,[]⟩=spQ by kernel_rfl] at h
 exact h
theorem C2L:A5a 60 spW (spO 1) spQ 0:=⟨C2K,⟨by decide,fun x hx=>by rw [D7I.1 hx];decide⟩,⟨by decide,fun x hx=>by rw [D7I.1 hx];decide⟩⟩
set_option maxHeartbeats 2000000 in
theorem C1j (st:St):S P 32 [] st fun v st'=>v=.bool true∧st'=st:=by
 have n1:=fun s=>C9z spW (spO 2) 6 (spT 1) (B5O ..) (by decide) (C0R 2) (by decide) s
 have n2:=fun s=>C4M (spO 2) (spT 1) (C0R 2) (by decide) s
 have n3:=fun s=>B4p spW (spO 1) spQ 0 (B5O ..) (C0R 1) (fun _ _ _=>C2L) s
 have n4:=fun d s=>C4S spW (spO 2) d (spT 1) (B5O ..) (by decide) (C0R 2) (by decide) s
 rw [show B1Y spW (spO 2) 6 (spT 1)=0 by kernel_rfl,show C3Z spW (spO 2) 6 (spT 1)=5 by kernel_rfl] at n1
 rw [show A7N (spO 2) (spT 1)=0 by kernel_rfl,show B4O (spO 2) (spT 1)=spO 1 by kernel_rfl] at n2
 rw [show A2F spW (spO 1) spQ 0=(⟨50,5,0,0,0⟩,0) by kernel_rfl] at n3
 have n5:=n4 35
 have n6:=n4 36
 rw [show B1Y spW (spO 2) 35 (spT 1)=0 by kernel_rfl] at n5
 rw [show B1Y spW (spO 2) 36 (spT 1)=13 by kernel_rfl] at n6
 refine A0g ?_
 refine A0o [] A4i mixed Tryz.func32 (by rfl) rfl rfl rfl ?_;conv=>whnf
 refine I3 (D0i _) ?_
 intro b1 hb1
 generalize hs:(upd st b1 _:St)=w
 have h:=C9.new' hs (A0u st) hb1
 clear hs hb1
 conv=>whnf
 intro b2 hb2
 generalize hs:(upd w b2 _:St)=w2
 have h:=C9.new' hs h hb2
 clear hs hb2
 conv=>whnf
 refine F1 h (.s .z) rfl rfl (by rfl) ?_;conv=>whnf
 intro w h;conv=>whnf
 refine F1 h .z rfl rfl (by rfl) ?_;conv=>whnf
 intro w h;conv=>whnf
 refine L8 h (.s .z) rfl Nat.one_pos rfl ?_;conv=>whnf
 refine L8 h .z rfl Nat.one_pos rfl ?_;conv=>whnf
 refine E2 (st':=w) ?_ (B2 (n1 w) ?_)
 ·refine A7.cons (A7.keep [_] _) (A7.cons (A7.keep [_] _) (A7.cons (A7.keep [_] _) (Le.shift (Le.arr1 ?_ rfl) _)))
  repeat' first | exact T3.nil | refine T3.cons ?_ ?_ | exact Le.refl _
 conv=>whnf
 refine L8 h .z rfl Nat.one_pos rfl ?_;conv=>whnf
 refine E2 (st':=w) ?_ (B2 (n2 w) ?_)
 ·refine A7.cons (A7.keep [_] _) (Le.shift (Le.arr1 ?_ rfl) _)
  repeat' first | exact T3.nil | refine T3.cons ?_ ?_ | exact Le.refl _
 conv=>whnf
 intro b6 hb6
 generalize hs:(upd w b6 _:St)=w6
 have h:=C9.new' hs h hb6
 clear hs hb6
 conv=>whnf
 refine F1 h .z rfl rfl (by rfl) ?_;conv=>whnf
 intro w h;conv=>whnf
 refine L8 h (.s (.s .z)) rfl Nat.one_pos rfl ?_;conv=>whnf
 refine L8 h .z rfl Nat.one_pos rfl ?_;conv=>whnf
 refine I3 (n3 _) ?_
 intro b8 hb8
 generalize hs:(upd w b8 _:St)=w8
 have h:=C9.new' hs h hb8
 clear hs hb8
 conv=>whnf
 refine F1 h .z rfl rfl (by rfl) ?_;conv=>whnf
 intro w h;conv=>whnf
 repeat' ((conv=>whnf);first | refine L8 h .z rfl Nat.one_pos rfl ?_ | refine L8 h (.s .z) rfl Nat.one_pos rfl ?_ | refine L8 h (.s (.s .z)) rfl Nat.one_pos rfl ?_ | refine L8 h (.s (.s (.s .z))) rfl Nat.one_pos rfl ?_ | refine E2 (st':=w) (A7.cons (A7.keep [_] _) (A7.cons (A7.keep [_] _) (A7.cons (A7.keep [_] _) (Le.shift (Le.arr1 (by repeat' first | exact T3.nil | refine T3.cons ?_ ?_ | exact Le.refl _) rfl) _)))) (B2 (n5 w) ?_) | refine E2 (st':=w) (A7.cons (A7.keep [_] _) (A7.cons (A7.keep [_] _) (A7.cons (A7.keep [_] _) (Le.shift (Le.arr1 (by repeat' first | exact T3.nil | refine T3.cons ?_ ?_ | exact Le.refl _) rfl) _)))) (B2 (n6 w) ?_) | refine ⟨rfl,⟨by decide,by decide⟩,?_⟩ | fail)
 conv=>whnf
 exact ⟨rfl,h.sup⟩
def A7C (L:List E6) (Q:O5) (left:List Int) (k:Nat):U5:=if k<left.length then C9B (Y4 L Q k) (B5 (gI left k) ((L.getD k default).qty+1)) else Y4 L Q k
def A4o (L:List E6) (Q:O5) (left:List Int):List U5:=(List.range L.length).map (A7C L Q left)
theorem B2T (L:List E6) (Q:O5) (left:List Int):(A4o L Q left).length=L.length:=by unfold A4o;rw [D7i,D7F]
theorem B4z {L:List E6} {Q:O5} {left:List Int} {k:Nat} (hk:k<L.length):(A4o L Q left).getD k default=A7C L Q left k:=by
 unfold A4o
 rw [D4 (A7C L Q left) (List.range L.length) (by rw [D7F];exact hk)]
 congr 1
 simp [D7c,hk]
theorem B7K {L:List E6} {Q:O5} {left:List Int} (hq:∀ i,i<L.length→1≤(L.getD i default).qty):A9o L Q (A4o L Q left):=by
 refine ⟨B2T ..,fun i hi=>?_⟩
 rw [B4z hi,A7C]
 have h1:=hq i hi
 have h2:=C7 (gI left i) (n:=(L.getD i default).qty+1) (by omega)
 split
 ·exact ⟨_,by omega,rfl⟩
 ·exact ⟨(L.getD i default).qty,by omega,rfl⟩
set_option maxHeartbeats 8000000 in
theorem B0S (s:B3s) (left:List Int) (fee mode:Int) (st:St):S P 10 [B1L s,A9 left,eI fee,eI mode] st fun v st'=>v=.bool true:=by
 obtain ⟨L,Q,hO,hRm,hpr,hQ⟩:=C5t s
 have hD:=C7 s.day (n:=20) (by decide)
 have hM:=C7 mode (n:=3) (by decide)
 have hF':=C7 fee (n:=1099511627776) (by decide)
 have nF:=fun u=>C2C s u
 have nA:=fun u=>C1j u
 have cO:=fun hF u=>C4J s hO hF u
 have cM:=fun u=>A1l mode 3 (by decide) (by decide) u
 have cG:=fun u=>W6 fee 1099511627776 (by decide) (by decide) u
 have hmm:1≤1+B5 mode 3∧1+B5 mode 3≤3:=by omega
 have hl:=hO.len
 have hq:∀ i,i<L.length→1≤(L.getD i default).qty∧(L.getD i default).qty≤100000:=fun i hi=>(hO.line _ (A5 hi)).2.2
 obtain ⟨q,B,q1,q2,q3,q4,q5⟩:=hQ _ hmm _ (B7K (left:=left) fun i hi=>(hq i hi).1) (B5 fee 1099511627776) (by omega) (10+B5 s.day 20) (by omega)
 have cT:=fun u=>B4p (A3e (F0 s.rules) (1+B5 mode 3)) _ q 0 ⟨hO.fit.promos,hO.fit.fit,hO.fit.order,hO.fit.credit⟩ q3 (fun _ _ _=>q1) u
 have cU:=fun u=>C2p (A3e (F0 s.rules) (1+B5 mode 3)) _ q 0 (by show (F0 s.rules).promos.length<_;omega) ⟨hRm.n,hRm.items,hRm.promos,hRm.tax,hRm.order,hRm.credit⟩ q3 (fun _ _ _=>q2) u
 rw [q5] at cT cU
 have hw:IntKind.i64.wrap (1+B5 mode 3)=1+B5 mode 3:=A4 (by omega) (by omega)
 have hw2:∀ i,i<L.length→IntKind.i64.wrap ((L.getD i default).qty+1)=(L.getD i default).qty+1:=fun i hi=>by have:=hq i hi;exact A4 (by omega) (by omega)
 clear hQ hO q1 q2 q3 q4 q5 hpr hRm
 generalize F0 s.rules=R at *
 generalize P0 s=Z at *
 generalize H3 s.codes=C at *
 generalize N8 Q.total s.pays=PP at *
 generalize 10+B5 s.day 20=D at *
 generalize B5 mode 3=M at *
 generalize B5 fee 1099511627776=F at *
 have hE:J4 (A1j ⟨#[111]⟩ Z 1 s.exempt C D L Q PP (A4o L Q left) F)=.agg [eS ⟨#[111]⟩,eI 1,eS Z,eB s.exempt,.arr 1 C.length (fun k=>eS (C.getD k default)),eI D,.arr 6 L.length (fun k=>Q2 ((A4o L Q left).getD k default)),eI Q.ship,eI Q.shipTax,eI F,eI Q.total,eI (O2 Q).goods,eI (O2 Q).tax,eI (O2 Q).ship,eI (O2 Q).shipTax,eI (O2 Q).fee,.arr 3 PP.length (fun k=>Q5 ((PP.map A2k).getD k default))]:=by
  unfold J4 A8 A1j
  simp only [B2T,D7i]
  rfl
 rw [hE] at cT cU
 clear hE
 refine A0o [4] A4i mixed Tryz.func10 (by rfl) rfl rfl rfl ?_;conv=>whnf
 refine I3 (nF _) ?_
 cases hF:A7a s
 ·conv=>whnf
  refine I3 (nA _) ?_
  exact rfl
 conv=>whnf
 cases h60:decide ((left.length:Int)>60)
 case true =>
  conv=>whnf
  refine I3 (nA _) ?_
  exact rfl
 have h60:=D7g h60
 conv=>whnf
 refine call (cO hF _) (fun v w hv=>?_)
 obtain ⟨o,rfl,cv,lv,tv,bc,bl,bt,h,hcv,hlv,htv,rfl⟩:=hv
 obtain rfl:=hlv.own (by omega)
 conv=>whnf
 intro b5 hb5
 generalize hs:(upd w b5 _:St)=w2
 have h:=C9.new' hs h hb5
 clear hs hb5
 conv=>whnf
 intro b6 hb6
 generalize hs:(upd w2 b6 _:St)=w
 have h:=C9.new' hs h hb6
 clear hs hb6
 conv=>whnf
 refine F1 h (.s .z) rfl rfl (by rfl) ?_;conv=>whnf
 intro w h;conv=>whnf
 refine F1 h .z rfl rfl (B8q (by rfl) (by simp only [cellsOf,List.all_cons,hcv.one,htv.one];rfl)) ?_;conv=>whnf
 intro w h;conv=>whnf
 refine I3 (cM _) ?_
 rw [hw]
 refine F1 h (.s .z) rfl rfl (by rfl) ?_;conv=>whnf
 intro w h;conv=>whnf
 have cK:=fun i (hi:i<L.length) u=>A1l (gI left i) ((L.getD i default).qty+1) (by have:=hq i hi;omega) (by have:=hq i hi;omega) u
 obtain ⟨n,hn⟩:∃ n,n=min L.length left.length:=⟨_,rfl⟩
 obtain ⟨RA,hRA⟩:∃ RA:AV,RA=F4 (A3e R (1+M)):=⟨_,rfl⟩
 refine lp n [1,2,9,10,11] (fun i vs u=>vs=[A9 left,eI fee,.optr 14 b5 0 0,.optr 17 b6 0 0,eI i] ∧
  C9 st [(b6,⟨50,17,1,fun _=>.agg [eS ⟨#[111]⟩,eI 1,eS Z,eB s.exempt,cv,eI D,.own 6 bl 0 L.length,eI Q.ship,eI Q.shipTax,eI 0,eI Q.total,eI (O2 Q).goods,eI (O2 Q).tax,eI (O2 Q).ship,eI (O2 Q).shipTax,eI (O2 Q).fee,tv]⟩),
   (b5,⟨33,14,1,fun _=>F4 (A3e R (1+M))⟩),
   (bl,⟨55,6,L.length,fun k=>Q2 (if k<i then A7C L Q left k else Y4 L Q k)⟩),(bt,⟨70,3,PP.length,fun k=>Q5 ((PP.map A2k).getD k default)⟩),(bc,⟨9,1,C.length,fun k=>eS (C.getD k default)⟩)] u) ?_ ?_
 ·conv=>whnf
  refine ⟨rfl,h.as _ (.s (.s .z)) fun k hk=>?_⟩
  show Q2 ((X1 L Q).getD k default)=Q2 (if k<0 then A7C L Q left k else Y4 L Q k)
  rw [if_neg (Nat.not_lt_zero k)]
  unfold X1
  rw [D4 (Y4 L Q) (List.range L.length) (by rw [D7F];omega)]
  congr 2
  simp [D7c,hk]
 clear h
 rintro i vs u hi ⟨rfl,h⟩
 conv=>whnf
 refine L8 h .z rfl Nat.one_pos rfl ?_;conv=>whnf
 have hend:i=n→∀ k,k<L.length→Q2 (if k<i then A7C L Q left k else Y4 L Q k)=Q2 ((A4o L Q left).getD k default):=fun e k hk=>by
  rw [B4z hk]
  by_cases h:k<i
  ·rw [if_pos h]
  ·rw [if_neg h,A7C,if_neg (by omega)]
 by_cases hi':i<n
 case pos =>
  have hiL:i<L.length:=by omega
  have hi2:i<left.length:=by omega
  rw [show decide ((i:Int)<(L.length:Int))=true from D7D (by omega)];conv=>whnf
  rw [show decide ((i:Int)<(left.length:Int))=true from D7D (by omega)];conv=>whnf
  have ho:=h.has1 .z
  have hb:=h.has (.s (.s .z)) (show 0<L.length by omega)
  have eL:∀ f:Nat→AV,f=(fun k=>Q2 (if k<i then A7C L Q left k else Y4 L Q k))→f (0+(i:Int).toNat)=Q2 (Y4 L Q i):=fun f hf=>by rw [hf,show 0+(i:Int).toNat=i by omega];show Q2 (if i<i then _ else _)=_;rw [if_neg (Nat.lt_irrefl i)]
  have cKi:=cK i hiL
  change ∀ u,S P 22 [eI (gI left (i:Int).toNat),eI ((L.getD i default).qty+1)] u _ at cKi
  have hw0:IntKind.i64.wrap ((Y4 L Q i).sold+1)=(L.getD i default).qty+1:=hw2 i hiL
  refine .inr ⟨[17],.qui 0 (.qui 1 (.qui 2 (.qui 3 (.qui 4 (.qui 5 (.qui 6 (.qui 7 (.qui 8 (.qui 9 (.qui 10 (.qui 11 (.qui 12 (.qui 13 (.qui 14 (.qui 15 (.qui 16 (.eff 17 [] (.done)))))))))))))))))),by kernel_rfl,?_⟩
  repeat' ((conv=>whnf);first | refine quT (fun _=>⟨rfl,rfl⟩) ?_ | refine ⟨rfl,⟨by omega,by omega⟩,?_⟩ | refine quL ho (fun _ hs=>X4 hs rfl Nat.one_pos rfl ⟨rfl,rfl⟩) ?_ | refine quL hb (fun _ hs=>X4 hs rfl (show 0+(i:Int).toNat<L.length by omega) (eL _ rfl) ⟨rfl,rfl⟩) ?_ | rw [hw0] | refine quT (fun s=>F3 (cKi s)) ?_ | fail)
  conv=>whnf
  refine C9x h (.s (.s .z)) rfl (show 0+(i:Int).toNat<L.length by omega) (eL _ rfl) (by rfl) ?_;conv=>whnf
  intro w h;conv=>whnf
  refine G3 ?_
  refine nx hi' ⟨by rw [B4 (by omega)],h.as _ (.s (.s .z)) fun m hm=>?_⟩
  rw [show 0+(i:Int).toNat=i by omega]
  by_cases e:m=i
  ·subst e;rw [A6,if_pos (D9J m),A7C,if_pos hi2];rfl
  ·rw [H7 e]
   by_cases hh:m<i
   ·rw [if_pos hh,if_pos (by omega)]
   ·rw [if_neg hh,if_neg (by omega)]
 obtain hin:i=n:=by omega
 have h:=h.as (fun k=>Q2 ((A4o L Q left).getD k default)) (.s (.s .z)) (hend hin)
 have hx:decide ((i:Int)<(L.length:Int))=false∨(decide ((i:Int)<(L.length:Int))=true∧decide ((i:Int)<(left.length:Int))=false):=by
  by_cases h1:(i:Int)<(L.length:Int)
  ·exact .inr ⟨D7D h1,D7j (by omega)⟩
  ·exact .inl (D7j h1)
 obtain ⟨w1,g1,k1⟩:=h.hold 6 (.s (.s .z)) (OV.mk (by omega)) .z rfl
 obtain ⟨w2,g2,k2⟩:=g1.hold 16 (.s (.s .z)) htv .z rfl
 obtain ⟨w3,g3,k3⟩:=g2.hold 4 (.s (.s .z)) hcv .z rfl
 replace h:C9 st [(b6,⟨50,17,1,fun _=>.agg [eS ⟨#[111]⟩,eI 1,eS Z,eB s.exempt,.arr 1 C.length (fun k=>eS (C.getD k default)),eI D,.arr 6 L.length (fun k=>Q2 ((A4o L Q left).getD k default)),eI Q.ship,eI Q.shipTax,eI 0,eI Q.total,eI (O2 Q).goods,eI (O2 Q).tax,eI (O2 Q).ship,eI (O2 Q).shipTax,eI (O2 Q).fee,.arr 3 PP.length (fun k=>Q5 ((PP.map A2k).getD k default))]⟩),
   (b5,⟨33,14,1,fun _=>F4 (A3e R (1+M))⟩)] w3:=g3
 have hsh:=fun vs=>(k1 vs).trans ((k2 vs).trans (k3 vs))
 clear g1 g2 g3 k1 k2 k3 hend hcv htv
 have hbe:∀ x:Int,(x==x)=true:=fun x=>D9m x
 rcases hx with h1 | ⟨h1,h2⟩<;>rw [h1]<;>(conv=>whnf)
 case' inr=>rw [h2];conv=>whnf
 all_goals
  refine E2 (hsh _) (B2 (cG _) ?_);conv=>whnf
  refine F1 h .z rfl rfl (by rfl) ?_;conv=>whnf
  intro w h;conv=>whnf
  refine L8 h (.s .z) rfl Nat.one_pos rfl ?_;conv=>whnf
  refine L8 h .z rfl Nat.one_pos rfl ?_;conv=>whnf
  refine I3 (cT _) ?_
  intro b7 hb7
  generalize hs:(upd w b7 _:St)=w7
  have h:=C9.new' hs h hb7
  clear hs hb7
  conv=>whnf
  refine F1 h .z rfl rfl (by rfl) ?_;conv=>whnf
  intro w h;conv=>whnf
  refine L8 h (.s (.s .z)) rfl Nat.one_pos rfl ?_;conv=>whnf
  refine L8 h (.s .z) rfl Nat.one_pos rfl ?_;conv=>whnf
  refine I3 (cU _) ?_
  intro b8 hb8
  generalize hs:(upd w b8 _:St)=w8
  have h:=C9.new' hs h hb8
  clear hs hb8
  conv=>whnf
  refine F1 h .z rfl rfl (by rfl) ?_;conv=>whnf
  intro w h;conv=>whnf
  refine B2 (nA _) ?_
  repeat' ((conv=>whnf);first | refine L8 h .z rfl Nat.one_pos rfl ?_ | refine L8 h (.s .z) rfl Nat.one_pos rfl ?_ | refine L8 h (.s (.s .z)) rfl Nat.one_pos rfl ?_ | rw [hbe] | fail)
  conv=>whnf
  simp only [D9m,D7Q]
  rw [show ((P3 B F).fee==F)=true from hbe F]
  exact rfl
end Go.Proofs.YtaapofnkmpiknaaGreat
namespace Go.Ab
open Go Go.ChangeShapes
inductive LK where
 | bool
 | int (k:IntKind)
 | str
 | sl (ks:List LK)
def B3P (l:List AV):AV:=match l with | [v]=>v | l=>.agg l
inductive Fit:LK→AV→Prop
 | bool (b:Bool):Fit .bool (.bool b)
 | int (k:IntKind) (n:Int) (h:(Lit.int k n).wf=true):Fit (.int k) (.int k n)
 | str (s:ByteArray) (h:s.size≤maxLen):Fit .str (.str s)
 | sl (ks:List LK) (n:Nat) (L:Nat→List AV) (hn:n≤maxLen) (hl:∀ i,i<n→(L i).length=ks.length) (hf:∀ (i j:Nat) (y:AV) (k:LK),i<n→(L i)[j]?=some y→ks[j]?=some k→Fit k y):Fit (.sl ks) (.arr ks.length n fun i=>B3P (L i))
theorem Fit.one {k:LK} {v:AV} (h:Fit k v):v.one=true:=by cases h<;>rfl
theorem C1p {v:AV} (h:v.one=true):cellsOf v=[v]:=by cases v<;>first | rfl | cases h
theorem B3S {l:List AV} (h:∀ v∈l,v.one=true):cellsOf (B3P l)=l:=by
 unfold B3P
 split
 ·exact C1p (h _ (D7I.2 rfl))
 ·rfl
theorem C3B (a:Addr) (n m:Nat):a.add (n+m)=(a.add n).add m:=by
 unfold Addr.add
 by_cases h:n=0
 ·subst h;simp
 ·by_cases k:m=0
  ·subst k;simp [h]
  ·simp [h,k,D9M]
def B0Y (P:Program) (r:TypeId→Option (List LK)):List Field→Nat→Option (List LK)
 | [],_=>some []
 | f::fs,o=>match Nat.beq f.offset o,r f.type with
  | true,some ks=>(match Nat.beq (P.cellsOf f.type) ks.length,B0Y P r fs (o+ks.length) with
   | true,some l=>some (ks++l)
   | _,_=>none)
  | _,_=>none
def A7c (P:Program):Nat→TypeId→Option (List LK)
 | 0,_=>none
 | n+1,t=>match P.underlying t with
  | some .bool=>some [.bool]
  | some (.int k)=>some [.int k]
  | some .string=>some [.str]
  | some (.slice e)=>(match A7c P n e with
   | some ks=>(match Nat.beq (P.cellsOf e) ks.length with | true=>some [.sl ks] | false=>none)
   | none=>none)
  | some (.struct fs)=>(match B0Y P (A7c P n) fs.toList 0 with
   | some ks=>(match Nat.beq (P.cellsOf t) ks.length with | true=>some ks | false=>none)
   | none=>none)
  | _=>none
structure FitL (w:World) (ks:List LK) (l:List AV) (cs:List Value):Prop where
 len:l.length=ks.length
 clen:cs.length=ks.length
 fit:∀ (j:Nat) (y:AV) (k:LK),l[j]?=some y→ks[j]?=some k→Fit k y
 rep:∀ (j:Nat) (y:AV) (c:Value),l[j]?=some y→cs[j]?=some c→K8 w st0 y c
theorem FitL.one {w:World} {ks:List LK} {l:List AV} {cs:List Value} (h:FitL w ks l cs):∀ v∈l,v.one=true:=fun v hv=>by
 obtain ⟨j,hj,rfl⟩:=D9d hv
 exact (h.fit j _ (ks[j]'(by rw [←h.len];exact hj)) (D7k hj) (D7k (by rw [←h.len];exact hj))).one
theorem FitL.nil (w:World):FitL w [] [] []:=⟨rfl,rfl,fun j y k h=>by simp at h,fun j y c h=>by simp at h⟩
theorem FitL.app {w:World} {ks ks':List LK} {l l':List AV} {cs cs':List Value} (h:FitL w ks l cs) (h':FitL w ks' l' cs'):FitL w (ks++ks') (l++l') (cs++cs'):=by
 have h1:=h.len;have h2:=h.clen;have h3:=h'.len;have h4:=h'.clen
 refine ⟨by simp [h1,h3],by simp [h2,h4],fun j y k hy hk=>?_,fun j y c hy hc=>?_⟩
 ·by_cases hj:j<l.length
  ·rw [D7B hj] at hy;rw [D7B (by omega)] at hk;exact h.fit j y k hy hk
  ·rw [D7A (by omega)] at hy;rw [D7A (by omega)] at hk
   rw [show j - l.length=j - ks.length by omega] at hy;exact h'.fit _ y k hy hk
 ·by_cases hj:j<l.length
  ·rw [D7B hj] at hy;rw [D7B (by omega)] at hc;exact h.rep j y c hy hc
  ·rw [D7A (by omega)] at hy;rw [D7A (by omega)] at hc
   rw [show j - l.length=j - cs.length by omega] at hy;exact h'.rep _ y c hy hc
theorem FitL.single {w:World} {k:LK} {v:AV} {c:Value} (h:Fit k v) (hr:K8 w st0 v c):FitL w [k] [v] [c] :=
 ⟨rfl,rfl,fun j y k' hy hk=>by cases j<;>simp at hy hk;subst hy;subst hk;exact h,fun j y c' hy hc=>by cases j<;>simp at hy hc;subst hy;subst hc;exact hr⟩
section
variable {H:Type} {enc:TypeId×Value→H} {P:Program} {w:World} {base:Nat} {spare:Nat→Bool} {held:Bool}
theorem B0u {n m:Nat} (ih:∀ (t:TypeId) (ks:List LK) (cs:List Value) (x:DataW H×List MemPlace),A7c P n t=some ks→DataW.trod enc P w base spare held m t cs=some x→∃ l,FitL w ks l cs) {cs:List Value} :
  ∀ (fs:List Field) (o:Nat) (ks:List LK),B0Y P (A7c P n) fs o=some ks→(∀ f∈fs,∃ x,DataW.trod enc P w base spare held m f.type ((cs.drop f.offset).take (P.cellsOf f.type))=some x)→∃ l,FitL w ks l ((cs.drop o).take ks.length)
 | [],o,ks,h,_=>by cases h;exact ⟨[],by simpa using FitL.nil w⟩
 | f::fs,o,ks,h,hx=>by
  unfold B0Y at h
  split at h
  ·rename_i k1 ho hk1
   split at h
   ·rename_i k2 hc hk2
    cases h
    have ho:=D9a ho
    have hc:=D9a hc
    obtain ⟨x,h1⟩:=hx f (D7G ..)
    rw [ho,hc] at h1
    obtain ⟨l1,g1⟩:=ih f.type k1 _ x hk1 h1
    obtain ⟨l2,g2⟩:=B0u ih fs (o+k1.length) k2 hk2 fun f' hf=>hx f' (D7E _ hf)
    refine ⟨l1++l2,?_⟩
    have e:(cs.drop o).take (k1++k2).length=(cs.drop o).take k1.length++(cs.drop (o+k1.length)).take k2.length:=by
     rw [D7p,List.take_add,List.drop_drop]
    rw [e];exact g1.app g2
   ·cases h
  ·cases h
theorem open_kinds:∀ (n m:Nat) (t:TypeId) (ks:List LK) (cs:List Value) (x:DataW H×List MemPlace),A7c P n t=some ks→DataW.trod enc P w base spare held m t cs=some x→∃ l,FitL w ks l cs
 | 0,m,t,ks,cs,x,h,_=>by cases h
 | n+1,m,t,ks,cs,x,h,hx=>by
  unfold A7c at h
  split at h
  ·rename_i ht;cases h;obtain ⟨b,rfl,_⟩:=DataW.trod_bool ht hx;exact ⟨[.bool b],.single (.bool b) (.bool b)⟩
  ·rename_i k ht;cases h;obtain ⟨i,rfl,_,hw⟩:=DataW.trod_int ht hx;exact ⟨[.int k i],.single (.int k i hw) (.int k i)⟩
  ·rename_i ht;cases h;obtain ⟨s,rfl,_,hs⟩:=DataW.trod_string ht hx;exact ⟨[.str s],.single (.str s hs) (.str s)⟩
  ·rename_i e ht
   split at h
   case h_2=>cases h
   rename_i ks' hk
   split at h
   case h_2=>cases h
   rename_i hb
   cases h
   have hb:=D9a hb
   rcases DataW.trod_slice ht hx with ⟨rfl,_⟩ | ⟨a,len,cap,elems,rest,m',rfl,rfl,_,hba,hl,hm,hlen,hel,_,_⟩
   ·exact ⟨[.arr ks'.length 0 (fun _=>B3P [])],.single (.sl ks' 0 (fun _=>[]) (D7C _) (fun i hi=>absurd hi (by omega)) (fun i j y k hi=>absurd hi (by omega))) (.arr _ 0 _ none 0 (fun _ _=>undef) (D7l _) (fun h=>absurd h (by omega)) (fun i hi=>absurd hi (by omega)) (fun i hi=>absurd hi (by omega)) (fun a ha=>by cases ha) (fun i j y hi=>absurd hi (by omega)))⟩
   ·have hall:∀ i,∃ p:List AV×List Value,i<len→w.cells? base (a.add (i * P.cellsOf e)) (P.cellsOf e)=some p.2∧FitL w ks' p.1 p.2:=fun i=>by
     by_cases hi:i<len
     ·have h1:=hel i hi
      rw [D7k (by omega),D8m] at h1
      obtain ⟨c1,h2,h3⟩:=h1
      obtain ⟨l,h4⟩:=open_kinds n m' e ks' c1 _ hk h3
      exact ⟨(l,c1),fun _=>⟨h2,h4⟩⟩
     ·exact ⟨([],[]),fun h=>absurd h hi⟩
    obtain ⟨p,hp⟩:=Classical.axiomOfChoice hall
    refine ⟨[.arr ks'.length len (fun i=>B3P (p i).1)],.single (.sl ks' len (fun i=>(p i).1) (by omega) (fun i hi=>(hp i hi).2.len) (fun i j y k hi=>(hp i hi).2.fit j y k)) ?_⟩
    have hc:∀ i,i<len→cellsOf (B3P (p i).1)=(p i).1:=fun i hi=>B3S (hp i hi).2.one
    refine .arr _ len _ (some a) cap (fun i j=>(p i).2.getD j undef) hl (fun _=>⟨a,rfl⟩) (fun i hi=>by rw [hc i hi];exact (hp i hi).2.len) (fun i hi=>by rw [hc i hi];exact D7s.2 (hp i hi).2.one) (fun b hb' i j hi hj=>?_) (fun i j y hi hy=>?_)
    ·cases hb'
     have h5:=(World.cells?_some (hp i hi).1)
     have h6:=h5.2.2 j (by omega)
     have hj2:j<(p i).2.length:=by rw [(hp i hi).2.clen];exact hj
     show w.cell? _=_
     rw [D7c,D7k hj2,Option.getD_some]
     rw [D7k hj2] at h6
     rw [←h6,hb];show w.cell? _=w.cell? _;rw [C3B]
    ·rw [hc i hi] at hy
     have hj:j<(p i).1.length:=(D7w.1 hy).1
     have hj2:j<(p i).2.length:=by rw [(hp i hi).2.clen,←(hp i hi).2.len];exact hj
     rw [D7c,D7k hj2,Option.getD_some]
     exact (hp i hi).2.rep j y _ hy (D7k hj2)
  ·rename_i fs ht
   split at h
   case h_2=>cases h
   rename_i ks' hk
   split at h
   case h_2=>cases h
   rename_i hb
   cases h
   have hb:=D9a hb
   obtain ⟨xs,m',rfl,_,hlen,hxl,hf⟩:=DataW.trod_struct ht hx
   obtain ⟨l,hl⟩:=B0u (fun t ks cs x=>open_kinds n m' t ks cs x) (cs:=cs) fs.toList 0 ks hk fun f hfm=>by
    obtain ⟨i,hi,rfl⟩:=D9d hfm
    have:=hf i fs[i] (by simp at hi;simp [hi])
    rw [D7k (by simp at hi;omega)] at this
    exact ⟨_,by simpa using this⟩
   refine ⟨l,?_⟩
   rw [List.drop_zero,D8T (by omega)] at hl
   exact hl
  ·cases h
end
end Go.Ab
namespace Go.Ab
open Go
abbrev A7G (ks:List LK) (L:List AV):Prop:=L.length=ks.length∧∀ (j:Nat) (y:AV) (k:LK),L[j]?=some y→ks[j]?=some k→Fit k y
abbrev A9n {α : Type} (ks:List LK) (enc : α→AV) (Q : α→Prop):Prop:=∀ L:List AV,A7G ks L→∃ x,T3 L (cellsOf (enc x))∧(cellsOf (enc x)).all AV.one=true∧Q x
theorem Fit.inv_str {y:AV} (h:Fit .str y):∃ s:C8,y=eS s∧s.size≤maxLen:=by cases h with | str s hs=>exact ⟨s,rfl,hs⟩
theorem Fit.inv_int {y:AV} (h:Fit (.int .i64) y):∃ n:Int,y=eI n∧(Lit.int .i64 n).wf=true:=by cases h with | int k n hn=>exact ⟨n,rfl,hn⟩
theorem Fit.inv_bool {y:AV} (h:Fit .bool y):∃ b:Bool,y=eB b:=by cases h with | bool b=>exact ⟨b,rfl⟩
theorem Fit.inv_sl {α : Type} [Inhabited α] {ks:List LK} {y:AV} {enc : α→AV} {Q : α→Prop} (hd:A9n ks enc Q) (h:Fit (.sl ks) y) :
  ∃ l:List α,Le y (A8 ks.length enc l)∧l.length≤maxLen∧∀ x∈l,Q x:=by
 cases h with
 | sl ks n L hn hl hf =>
  have h1:∀ i,∃ x,i<n→T3 (L i) (cellsOf (enc x))∧(cellsOf (enc x)).all AV.one=true∧Q x:=fun i=>by
   by_cases hi:i<n
   ·obtain ⟨x,hx⟩:=hd (L i) ⟨hl i hi,fun j y k=>hf i j y k hi⟩
    exact ⟨x,fun _=>hx⟩
   ·exact ⟨default,fun h=>absurd h hi⟩
  obtain ⟨g,hg⟩:=Classical.axiomOfChoice h1
  have hlen:((List.range n).map g).length=n:=by rw [D7i,D7F]
  refine ⟨(List.range n).map g,?_,by rw [hlen];exact hn,fun x hx=>?_⟩
  ·unfold A8
   rw [hlen]
   refine Le.arr fun i hi=>?_
   have e:((List.range n).map g).getD i default=g i:=by
    rw [D7c,D8a,D8C hi];rfl
   have one:∀ v∈L i,v.one=true:=fun v hv=>by
    obtain ⟨j,hj,rfl⟩:=D9d hv
    exact (hf i j _ (ks[j]'(by rw [←hl i hi];exact hj)) hi (D7k hj) (D7k (by rw [←hl i hi];exact hj))).one
   rw [e,B3S one]
   exact ⟨(hg i hi).1,(hg i hi).2.1⟩
  ·obtain ⟨i,hi,rfl⟩:=D7y.1 hx
   exact (hg i (D7t.1 hi)).2.2
theorem FitL.slice {α : Type} [Inhabited α] {w:World} {ks:List LK} {l:List AV} {c:Value} {enc : α→AV} {Q : α→Prop} (hd:A9n ks enc Q) (h:FitL w [.sl ks] l [c]) :
  ∃ x:List α,K8 w st0 (A8 ks.length enc x) c∧x.length≤maxLen∧∀ y∈x,Q y:=by
 obtain ⟨y,rfl⟩:=List.length_eq_one_iff.1 h.len
 obtain ⟨x,h1,h2,h3⟩:=(h.fit 0 y (.sl ks) rfl rfl).inv_sl hd
 exact ⟨x,h1 _ _ _ (h.rep 0 y c rfl rfl),h2,h3⟩
theorem C8q {k0:LK} {L:List AV} (h:A7G [k0] L):∃ x0,L=[x0]∧Fit k0 x0:=by
 obtain ⟨h1,h2⟩:=h
 match L,h1 with
 | [x0],_=>exact ⟨x0,rfl,h2 0 _ _ rfl rfl⟩
theorem C4c {k0 k1:LK} {L:List AV} (h:A7G [k0,k1] L):∃ x0 x1,L=[x0,x1]∧Fit k0 x0∧Fit k1 x1:=by
 obtain ⟨h1,h2⟩:=h
 match L,h1 with
 | [x0,x1],_=>exact ⟨x0,x1,rfl,h2 0 _ _ rfl rfl,h2 1 _ _ rfl rfl⟩
theorem C8r {k0 k1 k2:LK} {L:List AV} (h:A7G [k0,k1,k2] L):∃ x0 x1 x2,L=[x0,x1,x2]∧Fit k0 x0∧Fit k1 x1∧Fit k2 x2:=by
 obtain ⟨h1,h2⟩:=h
 match L,h1 with
 | [x0,x1,x2],_=>exact ⟨x0,x1,x2,rfl,h2 0 _ _ rfl rfl,h2 1 _ _ rfl rfl,h2 2 _ _ rfl rfl⟩
theorem C8s {k0 k1 k2 k3:LK} {L:List AV} (h:A7G [k0,k1,k2,k3] L):∃ x0 x1 x2 x3,L=[x0,x1,x2,x3]∧Fit k0 x0∧Fit k1 x1∧Fit k2 x2∧Fit k3 x3:=by
 obtain ⟨h1,h2⟩:=h
 match L,h1 with
 | [x0,x1,x2,x3],_=>exact ⟨x0,x1,x2,x3,rfl,h2 0 _ _ rfl rfl,h2 1 _ _ rfl rfl,h2 2 _ _ rfl rfl,h2 3 _ _ rfl rfl⟩
theorem C9i {k0 k1 k2 k3 k4 k5 k6 k7 k8 k9 k10 k11 k12 k13 k14:LK} {L:List AV} (h:A7G [k0,k1,k2,k3,k4,k5,k6,k7,k8,k9,k10,k11,k12,k13,k14] L):∃ x0 x1 x2 x3 x4 x5 x6 x7 x8 x9 x10 x11 x12 x13 x14,L=[x0,x1,x2,x3,x4,x5,x6,x7,x8,x9,x10,x11,x12,x13,x14]∧Fit k0 x0∧Fit k1 x1∧Fit k2 x2∧Fit k3 x3∧Fit k4 x4∧Fit k5 x5∧Fit k6 x6∧Fit k7 x7∧Fit k8 x8∧Fit k9 x9∧Fit k10 x10∧Fit k11 x11∧Fit k12 x12∧Fit k13 x13∧Fit k14 x14:=by
 obtain ⟨h1,h2⟩:=h
 match L,h1 with
 | [x0,x1,x2,x3,x4,x5,x6,x7,x8,x9,x10,x11,x12,x13,x14],_=>exact ⟨x0,x1,x2,x3,x4,x5,x6,x7,x8,x9,x10,x11,x12,x13,x14,rfl,h2 0 _ _ rfl rfl,h2 1 _ _ rfl rfl,h2 2 _ _ rfl rfl,h2 3 _ _ rfl rfl,h2 4 _ _ rfl rfl,h2 5 _ _ rfl rfl,h2 6 _ _ rfl rfl,h2 7 _ _ rfl rfl,h2 8 _ _ rfl rfl,h2 9 _ _ rfl rfl,h2 10 _ _ rfl rfl,h2 11 _ _ rfl rfl,h2 12 _ _ rfl rfl,h2 13 _ _ rfl rfl,h2 14 _ _ rfl rfl⟩
abbrev QT {α : Type} (_ : α):Prop:=True
abbrev C1G:List LK:=[.str]
theorem B1J:A9n C1G eS QT:=fun L h=>by
 obtain ⟨a,rfl,ha⟩:=C8q h
 obtain ⟨a,rfl,_⟩:=ha.inv_str
 exact ⟨a,T3.refl _,rfl,trivial⟩
abbrev kInt:List LK:=[.int .i64]
theorem decInt:A9n kInt eI QT:=fun L h=>by
 obtain ⟨a,rfl,ha⟩:=C8q h
 obtain ⟨a,rfl,_⟩:=ha.inv_int
 exact ⟨a,T3.refl _,rfl,trivial⟩
abbrev C8x:List LK:=[.int .i64,.int .i64,.int .i64]
theorem C6G:A9n C8x Z6 QT:=fun L h=>by
 obtain ⟨a0,a1,a2,rfl,h0,h1,h2⟩:=C8r h
 obtain ⟨a0,rfl,_⟩:=h0.inv_int
 obtain ⟨a1,rfl,_⟩:=h1.inv_int
 obtain ⟨a2,rfl,_⟩:=h2.inv_int
 exact ⟨⟨a0,a1,a2⟩,T3.cons (Le.refl _) (T3.cons (Le.refl _) (T3.cons (Le.refl _) (T3.nil))),rfl,trivial⟩
abbrev C8w:List LK:=[.sl C1G,.sl C1G,.int .i64]
theorem C6E:A9n C8w A1L QT:=fun L h=>by
 obtain ⟨a0,a1,a2,rfl,h0,h1,h2⟩:=C8r h
 obtain ⟨b0,e0,_,_⟩:=h0.inv_sl B1J
 obtain ⟨b1,e1,_,_⟩:=h1.inv_sl B1J
 obtain ⟨a2,rfl,_⟩:=h2.inv_int
 exact ⟨⟨⟨b0,b1⟩,a2⟩,T3.cons (e0) (T3.cons (e1) (T3.cons (Le.refl _) (T3.nil))),rfl,trivial⟩
abbrev C8v:List LK:=[.str,.str,.int .i64,.bool]
theorem C6D:A9n C8v F2 QT:=fun L h=>by
 obtain ⟨a0,a1,a2,a3,rfl,h0,h1,h2,h3⟩:=C8s h
 obtain ⟨a0,rfl,_⟩:=h0.inv_str
 obtain ⟨a1,rfl,_⟩:=h1.inv_str
 obtain ⟨a2,rfl,_⟩:=h2.inv_int
 obtain ⟨a3,rfl⟩:=h3.inv_bool
 exact ⟨⟨a0,a1,a2,a3⟩,T3.cons (Le.refl _) (T3.cons (Le.refl _) (T3.cons (Le.refl _) (T3.cons (Le.refl _) (T3.nil)))),rfl,trivial⟩
abbrev B6J:List LK:=[.str,.int .i64]
theorem B8z:A9n B6J A1i QT:=fun L h=>by
 obtain ⟨a0,a1,rfl,h0,h1⟩:=C4c h
 obtain ⟨a0,rfl,_⟩:=h0.inv_str
 obtain ⟨a1,rfl,_⟩:=h1.inv_int
 exact ⟨⟨a0,a1⟩,T3.cons (Le.refl _) (T3.cons (Le.refl _) (T3.nil)),rfl,trivial⟩
abbrev C8y:List LK:=[.str,.sl B6J,.int .i64,.int .i64]
theorem C6H:A9n C8y S9 QT:=fun L h=>by
 obtain ⟨a0,a1,a2,a3,rfl,h0,h1,h2,h3⟩:=C8s h
 obtain ⟨a0,rfl,_⟩:=h0.inv_str
 obtain ⟨b1,e1,_,_⟩:=h1.inv_sl B8z
 obtain ⟨a2,rfl,_⟩:=h2.inv_int
 obtain ⟨a3,rfl,_⟩:=h3.inv_int
 exact ⟨⟨a0,b1,a2,a3⟩,T3.cons (Le.refl _) (T3.cons (e1) (T3.cons (Le.refl _) (T3.cons (Le.refl _) (T3.nil)))),rfl,trivial⟩
abbrev C4l:List LK:=[.str,.int .i64,.int .i64,.str,.str,.bool,.sl C1G,.sl C1G,.int .i64,.int .i64,.int .i64,.int .i64,.int .i64,.sl C8w,.sl C8x]
theorem C3T:A9n C4l B8 QT:=fun L h=>by
 obtain ⟨a0,a1,a2,a3,a4,a5,a6,a7,a8,a9,a10,a11,a12,a13,a14,rfl,h0,h1,h2,h3,h4,h5,h6,h7,h8,h9,h10,h11,h12,h13,h14⟩:=C9i h
 obtain ⟨a0,rfl,_⟩:=h0.inv_str
 obtain ⟨a1,rfl,_⟩:=h1.inv_int
 obtain ⟨a2,rfl,_⟩:=h2.inv_int
 obtain ⟨a3,rfl,_⟩:=h3.inv_str
 obtain ⟨a4,rfl,_⟩:=h4.inv_str
 obtain ⟨a5,rfl⟩:=h5.inv_bool
 obtain ⟨b6,e6,_,_⟩:=h6.inv_sl B1J
 obtain ⟨b7,e7,_,_⟩:=h7.inv_sl B1J
 obtain ⟨a8,rfl,_⟩:=h8.inv_int
 obtain ⟨a9,rfl,_⟩:=h9.inv_int
 obtain ⟨a10,rfl,_⟩:=h10.inv_int
 obtain ⟨a11,rfl,_⟩:=h11.inv_int
 obtain ⟨a12,rfl,_⟩:=h12.inv_int
 obtain ⟨b13,e13,_,_⟩:=h13.inv_sl C6E
 obtain ⟨b14,e14,_,_⟩:=h14.inv_sl C6G
 exact ⟨⟨a0,a1,a2,a3,a4,a5,⟨b6,b7⟩,a8,a9,a10,a11,a12,b13,b14⟩,T3.cons (Le.refl _) (T3.cons (Le.refl _) (T3.cons (Le.refl _) (T3.cons (Le.refl _) (T3.cons (Le.refl _) (T3.cons (Le.refl _) (T3.cons (e6) (T3.cons (e7) (T3.cons (Le.refl _) (T3.cons (Le.refl _) (T3.cons (Le.refl _) (T3.cons (Le.refl _) (T3.cons (Le.refl _) (T3.cons (e13) (T3.cons (e14) (T3.nil))))))))))))))),rfl,trivial⟩
end Go.Ab
namespace Go.Ab
open Go Go.Proofs.YtaapofnkmpiknaaGreat
abbrev D0T:List LK:=[.str,.int .i64]
theorem C9c:A9n D0T A8z QT:=fun L h=>by
 obtain ⟨a0,a1,rfl,h0,h1⟩:=C4c h
 obtain ⟨a0,rfl,_⟩:=h0.inv_str
 obtain ⟨a1,rfl,_⟩:=h1.inv_int
 exact ⟨⟨a0,a1⟩,T3.refl _,rfl,trivial⟩
theorem C9j {k0 k1 k2 k3 k4 k5 k6 k7 k8 k9 k10 k11 k12 k13 k14 k15 k16 k17 k18 k19:LK} {L:List AV} (h:A7G [k0,k1,k2,k3,k4,k5,k6,k7,k8,k9,k10,k11,k12,k13,k14,k15,k16,k17,k18,k19] L):∃ x0 x1 x2 x3 x4 x5 x6 x7 x8 x9 x10 x11 x12 x13 x14 x15 x16 x17 x18 x19,L=[x0,x1,x2,x3,x4,x5,x6,x7,x8,x9,x10,x11,x12,x13,x14,x15,x16,x17,x18,x19]∧Fit k0 x0∧Fit k1 x1∧Fit k2 x2∧Fit k3 x3∧Fit k4 x4∧Fit k5 x5∧Fit k6 x6∧Fit k7 x7∧Fit k8 x8∧Fit k9 x9∧Fit k10 x10∧Fit k11 x11∧Fit k12 x12∧Fit k13 x13∧Fit k14 x14∧Fit k15 x15∧Fit k16 x16∧Fit k17 x17∧Fit k18 x18∧Fit k19 x19:=by
 obtain ⟨h1,h2⟩:=h
 match L,h1 with
 | [x0,x1,x2,x3,x4,x5,x6,x7,x8,x9,x10,x11,x12,x13,x14,x15,x16,x17,x18,x19],_=>exact ⟨x0,x1,x2,x3,x4,x5,x6,x7,x8,x9,x10,x11,x12,x13,x14,x15,x16,x17,x18,x19,rfl,h2 0 _ _ rfl rfl,h2 1 _ _ rfl rfl,h2 2 _ _ rfl rfl,h2 3 _ _ rfl rfl,h2 4 _ _ rfl rfl,h2 5 _ _ rfl rfl,h2 6 _ _ rfl rfl,h2 7 _ _ rfl rfl,h2 8 _ _ rfl rfl,h2 9 _ _ rfl rfl,h2 10 _ _ rfl rfl,h2 11 _ _ rfl rfl,h2 12 _ _ rfl rfl,h2 13 _ _ rfl rfl,h2 14 _ _ rfl rfl,h2 15 _ _ rfl rfl,h2 16 _ _ rfl rfl,h2 17 _ _ rfl rfl,h2 18 _ _ rfl rfl,h2 19 _ _ rfl rfl⟩
abbrev D0U:List LK:=[.int .i64,.int .i64]
theorem C9d:A9n D0U B8A QT:=fun L h=>by
 obtain ⟨a0,a1,rfl,h0,h1⟩:=C4c h
 obtain ⟨a0,rfl,_⟩:=h0.inv_int
 obtain ⟨a1,rfl,_⟩:=h1.inv_int
 exact ⟨⟨a0,a1⟩,T3.refl _,rfl,trivial⟩
abbrev kSale:List LK:=[.sl C8v,.sl C4l,.bool,.bool,.int .i64,.sl C8y,.int .i64,.int .i64,.int .i64,.int .i64,.int .i64,.int .i64,.sl kInt,.sl kInt,.int .i64,.bool,.sl C1G,.sl D0T,.sl D0U,.int .i64]
theorem C6F:A9n kSale B1L QT:=fun L h=>by
 obtain ⟨a0,a1,a2,a3,a4,a5,a6,a7,a8,a9,a10,a11,a12,a13,a14,a15,a16,a17,a18,a19,rfl,h0,h1,h2,h3,h4,h5,h6,h7,h8,h9,h10,h11,h12,h13,h14,h15,h16,h17,h18,h19⟩:=C9j h
 obtain ⟨b0,e0,_,_⟩:=h0.inv_sl C6D
 obtain ⟨b1,e1,_,_⟩:=h1.inv_sl C3T
 obtain ⟨a2,rfl⟩:=h2.inv_bool
 obtain ⟨a3,rfl⟩:=h3.inv_bool
 obtain ⟨a4,rfl,_⟩:=h4.inv_int
 obtain ⟨b5,e5,_,_⟩:=h5.inv_sl C6H
 obtain ⟨a6,rfl,_⟩:=h6.inv_int
 obtain ⟨a7,rfl,_⟩:=h7.inv_int
 obtain ⟨a8,rfl,_⟩:=h8.inv_int
 obtain ⟨a9,rfl,_⟩:=h9.inv_int
 obtain ⟨a10,rfl,_⟩:=h10.inv_int
 obtain ⟨a11,rfl,_⟩:=h11.inv_int
 obtain ⟨b12,e12,_,_⟩:=h12.inv_sl decInt
 obtain ⟨b13,e13,_,_⟩:=h13.inv_sl decInt
 obtain ⟨a14,rfl,_⟩:=h14.inv_int
 obtain ⟨a15,rfl⟩:=h15.inv_bool
 obtain ⟨b16,e16,_,_⟩:=h16.inv_sl B1J
 obtain ⟨b17,e17,_,_⟩:=h17.inv_sl C9c
 obtain ⟨b18,e18,_,_⟩:=h18.inv_sl C9d
 obtain ⟨a19,rfl,_⟩:=h19.inv_int
 exact ⟨⟨⟨b0,b1,⟨a2,a3,a4,b5⟩,⟨a6,a7⟩,⟨a8,a9,a10,a11,b12,b13⟩⟩,a14,a15,b16,b17,b18,a19⟩,T3.cons (e0) (T3.cons (e1) (T3.cons (Le.refl _) (T3.cons (Le.refl _) (T3.cons (Le.refl _) (T3.cons (e5) (T3.cons (Le.refl _) (T3.cons (Le.refl _) (T3.cons (Le.refl _) (T3.cons (Le.refl _) (T3.cons (Le.refl _) (T3.cons (Le.refl _) (T3.cons (e12) (T3.cons (e13) (T3.cons (Le.refl _) (T3.cons (Le.refl _) (T3.cons (e16) (T3.cons (e17) (T3.cons (e18) (T3.cons (Le.refl _) (T3.nil)))))))))))))))))))),rfl,trivial⟩
theorem FitL.sale {w:World} {l:List AV} {cs:List Value} (h:FitL w kSale l cs):∃ x:B3s,K8 w st0 (B1L x) (.agg cs.toArray):=by
 obtain ⟨x,h1,_,_⟩:=C6F l ⟨h.len,h.fit⟩
 refine ⟨x,?_⟩
 have h0:K8 w st0 (.agg l) (.agg cs.toArray):=.agg _ _ (by rw [h.len,←h.clen];simp) fun j y c hy hc=>h.rep j y c hy (by simpa using hc)
 exact (Le.agg h1) _ _ _ h0
end Go.Ab
namespace Go.Ab
open Go
theorem an {a b:Bool} (h:a=true) (k:b=true):(a&&b)=true:=by rw [h,k];rfl
def kindsFit (P:Program) (fn:Func) (c:OpenClaim):Bool:=(c.kinds==(if c.domain.isEmpty then [] else fn.params.toList.map fun t=>match P.underlying t with | some (.int k)=>some k | _=>none))
theorem joined_of {P:Program} {f:FuncId} {fn:Func} {s:ChangeSpec} {c:OpenClaim} (h1:(c.wf (OpenSpec.ofChange s))=true) (h2:(laidOutB P)=true) (h3:(mapsRowed P)=true) (h4:(fn.params.all (P.readableRec ·))=true) (h5:(namedTie P c.named s.vars)=true) (h6:(c.stops==[])=true) (h7:(P.stops==[])=true) (h8:(c.knobs==[])=true) (h9:(P.stopKnobs==[])=true) (h10:(c.inPlace==P.inPlace f)=true) (h11:(c.unfollowed==P.unfollowed f)=true) (h12:(c.recurses==P.recurses f)=true) (h13:(c.named==P.varsNamed f)=true) (h14:(c.maps==(fn.params.toList++s.plain.varTypes P).any (P.mapsRec ·))=true) (h15:(c.ifaces==(fn.params.toList++s.plain.varTypes P).any (P.ifacesRec ·))=true) (h16:(c.mapsOut==P.mapsAmong fn.resultTypes.toList)=true) (h17:(c.loops==(fn.params.toList++s.plain.varTypes P).any (P.loopsFrom ·))=true) (h18:(c.wideKeys==(fn.params.toList++s.plain.varTypes P++fn.resultTypes.toList).any (P.wideKeysFrom ·))=true) (h19:(s.vars.all (P.varReadable ·))=true) (h20:(fn.resultTypes.all (fun t=>P.readableRec t&&decide (t<P.types.size)))=true) (h21:(c.ifacesOut==fn.resultTypes.toList.any (P.ifacesRec ·))=true) (h22:(c.loopsOut==fn.resultTypes.toList.any (P.loopsFrom ·))=true) (h23:(c.plainKeys==P.plainKeys)=true) (h24:c.shortTexts.isNone=true) (h25:P.stopsHeard=true) (h26:P.mayEnter=true) (h27:(c.lifted==P.liftsFinal)=true) (h28:(P.make==some c.make)=true) (h29:kindsFit P fn c=true) (h30:(c.pinned==c.pinnedBy)=true) (h31:(c.veiled==(fn.params.toList++s.plain.varTypes P++fn.resultTypes.toList).any (P.veiledRec ·))=true) (h32:(c.veiledFits P fn.params.toList (fn.params.toList++s.plain.varTypes P++fn.resultTypes.toList))=true):joinedFacts P f fn s c=true:=an (an (an (an (an (an (an (an (an (an (an (an (an (an (an (an (an (an (an (an (an (an (an (an (an (an (an (an (an (an (an (h1) h2) h3) h4) h5) h6) h7) h8) h9) h10) h11) h12) h13) h14) h15) h16) h17) h18) h19) h20) h21) h22) h23) h24) h25) h26) h27) h28) h29) h30) h31) h32
end Go.Ab
namespace Go.Proofs.YtaapofnkmpiknaaGreat.closed
open Go
theorem p2:(laidOutB Tryz.prog)=true:=by kernel_rfl
theorem p3:(mapsRowed Tryz.prog)=true:=by kernel_rfl
theorem p7:(Tryz.prog.stops==[])=true:=by kernel_rfl
theorem p9:(Tryz.prog.stopKnobs==[])=true:=by kernel_rfl
theorem p25:(Tryz.prog.stopsHeard)=true:=by kernel_rfl
theorem p26:(Tryz.prog.mayEnter)=true:=by kernel_rfl
end Go.Proofs.YtaapofnkmpiknaaGreat.closed
