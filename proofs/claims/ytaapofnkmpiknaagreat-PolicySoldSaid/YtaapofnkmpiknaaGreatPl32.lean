/- Part 32 of the proof: the law, for every input, and its row -/
import Derived.Test.YtaapofnkmpiknaaGreatPl31
import Derived.ChangeSlices
import Derived.ChangeArms
import Derived.Test.YtaapofnkmpiknaaGreatRows
import Derived.ProofKit
import Derived.JoinedOf
import Derived.KernelRfl
import Derived.WalkKit
import Derived.OpenShut
import Derived.ShutString
import Derived.ChangeOld
import Derived.Below
import Derived.SizedLaws
set_option maxRecDepth 100000
set_option linter.unusedVariables false
set_option linter.unusedSimpArgs false
namespace Go.Proofs.YtaapofnkmpiknaaGreat
open Go Go.Ab
attribute [local irreducible] upd del
set_option maxHeartbeats 4000000 in
theorem C7f (R:D6) (set day:Int) (id key zone:C8) (exempt:Bool) (codes:List C8) (adds:List Add) (pays:List Pay) (L:List E8) (Q:U5) (B:A1v) (st:St)
  (hs:1≤set∧set≤40) (hc:codes.length≤100000) (hl:L.length≤1000) (hg:Q.goods.length=L.length) (ht:Q.taxes.length=L.length) (hp:B0e pays Q.total=true) (hpl:pays.length≤6)
  (n1:∀ s,S P 76 [eI day,eI 100000] s fun v st'=>v=.bool true∧st'=s)
  (n2:∀ s,S P 74 [eS id] s fun v st'=>v=.bool true∧st'=s)
  (n3:∀ s,S P 74 [eS zone] s fun v st'=>v=.bool true∧st'=s)
  (n4:∀ s,S P 81 [F7 R] s fun v st'=>v=.bool true∧st'=s)
  (n5:∀ s,S P 75 [C7 codes] s fun v st'=>v=.bool true∧st'=s)
  (nL:∀ s,S P 55 [A8 4 E9 R.items,A8 2 A8s adds] s fun v st'=>v=.tuple [A8 3 J1 L,eI 0]∧st'=s)
  (nQ:∀ s,S P 56 [F7 R,eS zone,eB exempt,C7 codes,A8 3 J1 L] s fun v st'=>v=.tuple [A1e Q,eI 0]∧st'=s)
  (nB:∀ s,S P 82 [A1e Q] s fun v st'=>v=A2O B∧st'=s) :
  S P 27 [F7 R,eI set,B3F id key zone exempt codes adds pays,eI day] st fun v st'=>∃ cv lv tv bc bl bt,D3 st [(bl,⟨55,6,L.length,fun k=>V7 ((P3 L Q).getD k default)⟩),(bt,⟨70,3,pays.length,fun k=>V8 ((pays.map A1R).getD k default)⟩),(bc,⟨9,1,codes.length,fun k=>eS (codes.getD k default)⟩)] st' ∧
   OV 1 bc codes.length cv∧OV 6 bl L.length lv∧OV 3 bt pays.length tv ∧
   v=.tuple [.agg [eS id,eI set,eS zone,eB exempt,cv,eI day,lv,eI Q.ship,eI Q.shipTax,eI 0,eI Q.total,eI B.goods,eI B.tax,eI B.ship,eI B.shipTax,eI B.fee,tv],eI 0]:=by
 have d1:decide (set<1)=false:=D6L (by omega)
 have d2:decide (set>40)=false:=D6L (by omega)
 have hpay:(∀ x∈pays,B1R x=true)∧U7 pays=Q.total:=by
  unfold B0e at hp
  simp only [D6I,D6F,D7B] at hp
  exact ⟨D6W.1 hp.1.2,hp.2⟩
 have hpi:∀ i,i<pays.length→(1≤(pays.getD i default).kind∧(pays.getD i default).kind≤9)∧1≤(pays.getD i default).amount∧(pays.getD i default).amount≤100000000000000:=fun i hi=>by
  have:=hpay.1 _ (A7 hi)
  unfold B1R G7 at this
  simp only [D6I,E0,D6F] at this
  omega
 have hpn:∀ i,i<pays.length→U7 (pays.take (i+1))=U7 (pays.take i)+(pays.getD i default).amount:=fun i hi=>H6 hi _ _
 have hpk:∀ j i,i+j=pays.length→0≤U7 (pays.take i)∧U7 (pays.take i)≤Q.total∧Q.total≤U7 (pays.take i)+100000000000000 * (j:Int):=fun j=>by
  induction j with
  | zero=>intro i hi;rw [D8v (by omega),hpay.2];exact ⟨by rw [←hpay.2];have:=(B8G pays.length (D6M _) fun k hk=>hpay.1 _ (A7 hk)).1;rwa [D6O] at this,D7l _,by omega⟩
  | succ j ih =>
   intro i hi
   have h1:=ih (i+1) (by omega)
   have h2:=hpn i (by omega)
   have h3:=hpi i (by omega)
   have h4:=(B8G i (by omega) fun k hk=>hpay.1 _ (A7 (by omega))).1
   exact ⟨h4,by omega,by rw [show ((j+1:Nat):Int)=(j:Int)+1 from rfl];omega⟩
 refine A1S [4,6,17] A7o mixed Tryz.func27 (by rfl) rfl rfl rfl ?_;conv=>whnf
 intro b8 hb8
 generalize hs:(upd st b8 _:St)=w
 have h:=D3.new' hs (A2j st) hb8
 clear hs hb8
 repeat' ((conv=>whnf);first | refine B3 (n1 _) ?_ | refine B3 (n2 _) ?_ | refine B3 (n3 _) ?_ | refine B3 (n4 _) ?_ | refine B3 (n5 _) ?_ | refine B3 (nL _) ?_ | refine B3 (nQ _) ?_ | rw [d1] | rw [d2] | fail)
 conv=>whnf
 intro b12 hb12;conv=>whnf
 generalize hs:(upd w b12 _:St)=w2
 have h:=D3.new' hs h hb12
 clear hs hb12
 refine L5 h .z rfl rfl (by rfl) ?_;conv=>whnf
 intro w h
 have h:=h.soft 0 9 1 (fun k=>eS (codes.getD k default))
 have hb:=h.has1 (.s .z)
 conv=>whnf
 refine .inr ⟨[9,20,21],.qui 0 (.qui 1 (.qui 2 (.qui 3 (.qui 4 (.qui 5 (.qui 6 (.qui 7 (.qui 8 (.qui 10 (.qui 11 (.qui 12 (.qui 13 (.qui 14 (.qui 15 (.qui 16 (.qui 17 (.two 9 20 [1,4,6,12,14,16,17] [1,4,6,8,12,14,16,17] (.qui 18 (.qui 19 (.eff 20 [1,4,6,8,12,14,16,17,18] (.eff 21 [] (.done))))) (.eff 9 [1,4,6,12,14,16,17] (.qui 18 (.qui 19 (.eff 21 [] (.done)))))))))))))))))))))),by kernel_rfl,?_⟩
 repeat' ((conv=>whnf);first | refine quT (fun _=>⟨rfl,rfl⟩) ?_ | refine quT (fun s=>H8 (nB s)) ?_ | refine quL hb (fun _ hs=>Y4 hs rfl Nat.one_pos rfl ⟨rfl,rfl⟩) ?_ | fail)
 refine ⟨?A,?B⟩
 case' A =>
  conv=>whnf
  refine B6B (q:=r9) (m:=codes.length) (g:=fun k=>eS (codes.getD k default)) h (OV.nil 1 0) .z rfl rfl rfl rfl (by rfl) (A3F ..) (f':=fun k=>eS (codes.getD k default)) (by show (0+codes.length) * 16≤140737488355328;omega) (fun i _=>by rw [if_neg (by omega)];rfl) (fun cv bc hcv=>?_);conv=>whnf
  intro w h
  rw [D6Q codes.length] at hcv h
  have hb:=h.has1 (.s .z)
  have e1:=A2a hcv.one
  have e2:=B0M hcv.one
  repeat' ((conv=>whnf);first | refine ⟨fun _=>trivial,?_⟩ | refine ⟨fun _=>hb,?_⟩ | refine quT (fun _=>⟨rfl,rfl⟩) ?_ | refine quT (fun s=>H8 (nB s)) ?_ | refine quL hb (fun _ hs=>Y4 hs rfl Nat.one_pos rfl ⟨rfl,rfl⟩) ?_ | rw [e1] | rw [e2] | fail)
  conv=>whnf
  intro b14 hb14
  generalize hs:(upd w b14 _:St)=w2
  have h:=D3.new' hs h hb14
  clear hs hb14
  have hb:=h.has1 (.s (.s .z))
  repeat' ((conv=>whnf);first | refine ⟨fun _=>trivial,?_⟩ | refine ⟨fun _=>hb,?_⟩ | fail)
 case' B =>
  conv=>whnf
  intro b14 hb14
  generalize hs:(upd w b14 _:St)=w2
  have h:=D3.new' hs h hb14
  clear hs hb14
  have hb:=h.has1 (.s (.s .z))
  repeat' ((conv=>whnf);first | refine ⟨fun _=>trivial,?_⟩ | refine ⟨fun _=>hb,?_⟩ | fail)
  conv=>whnf
  refine B6B (q:=r9) (m:=codes.length) (g:=fun k=>eS (codes.getD k default)) h (OV.nil 1 0) (.s .z) rfl rfl rfl rfl (by rfl) (A3F ..) (f':=fun k=>eS (codes.getD k default)) (by show (0+codes.length) * 16≤140737488355328;omega) (fun i _=>by rw [if_neg (by omega)];rfl) (fun cv bc hcv=>?_);conv=>whnf
  intro w h
  rw [D6Q codes.length] at hcv h
  have hb:=h.has1 (.s (.s .z))
  have e1:=A2a hcv.one
  have e2:=B0M hcv.one
  repeat' ((conv=>whnf);first | refine ⟨fun _=>trivial,?_⟩ | refine ⟨fun _=>hb,?_⟩ | refine quT (fun _=>⟨rfl,rfl⟩) ?_ | refine quT (fun s=>H8 (nB s)) ?_ | refine quL hb (fun _ hs=>Y4 hs rfl Nat.one_pos rfl ⟨rfl,rfl⟩) ?_ | rw [e1] | rw [e2] | fail)
 all_goals
  conv=>whnf
  refine L5 h .z rfl rfl (B7R (by rfl) (by simp only [cellsOf,List.all_cons,hcv.one];rfl)) ?_;conv=>whnf
  intro w h
  clear hb e1 e2
  conv=>whnf
  refine U6 h (.s (.s .z)) rfl Nat.one_pos rfl ?_;conv=>whnf
  refine lp pays.length [6,8,10,12,14,15,16] (fun i vs u=>∃ tv bt,vs=[(B3F id key zone exempt codes adds pays).fptr 0,.optr 17 b8 0 0,A8 3 J1 L,.optr 6 b12 0 0,.optr 17 b14 0 0,eI (Q.total - U7 (pays.take i)),eI i]∧OV 3 bt i tv ∧
   D3 st [(bt,⟨70,3,i,fun k=>V8 ((pays.map A1R).getD k default)⟩),(b14,⟨50,17,1,fun _=>.agg [eS id,eI set,eS zone,eB exempt,cv,eI day,.emp,eI Q.ship,eI Q.shipTax,eI 0,eI Q.total,eI B.goods,eI B.tax,eI B.ship,eI B.shipTax,eI B.fee,tv]⟩),(bc,⟨9,1,codes.length,fun k=>eS (codes.getD k default)⟩),(b12,⟨113,6,1,fun _=>A1e Q⟩),(b8,⟨50,17,1,fun _=>H7 r50.zero⟩)] u) ?_ ?_
  ·conv=>whnf
   exact ⟨_,0,by rw [show U7 (pays.take 0)=0 by rw [D8h];rfl,Int.sub_zero];rfl,OV.nil ..,h.soft ..⟩
  clear h
  rintro i vs u hi ⟨tv,bt,rfl,htv,h⟩
  conv=>whnf
  cases h1:decide ((i:Int)<(pays.length:Int))
  case true =>
   have hi':=E2 h1
   have q1:=hpi i hi'
   have q2:=hpn i hi'
   have q3:=hpk (pays.length - (i+1)) (i+1) (by omega)
   have q4:=hpk (pays.length - i) i (by omega)
   rw [show pays.getD i default=pays.getD (i:Int).toNat default from rfl] at q1 q2
   have g0:decide ((i:Int)≥6)=false:=D6L (by omega)
   have g1:decide ((pays.getD (i:Int).toNat default).kind<1)=false:=D6L (by omega)
   have g2:decide ((pays.getD (i:Int).toNat default).kind>9)=false:=D6L (by omega)
   have g3:decide ((pays.getD (i:Int).toNat default).amount<1)=false:=D6L (by omega)
   have g4:decide ((pays.getD (i:Int).toNat default).amount>Q.total - U7 (pays.take i))=false:=D6L (by omega)
   repeat' ((conv=>whnf);first | refine ⟨rfl,⟨by omega,by omega⟩,?_⟩ | rw [g0] | rw [g1] | rw [g2] | rw [g3] | rw [g4] | refine U6 h (.s .z) rfl Nat.one_pos rfl ?_ | fail)
   conv=>whnf
   refine B6B (q:=r70) (m:=1) (g:=fun j=>[V8 (A1R (pays.getD (i:Int).toNat default))].getD j AV.junk) h htv .z rfl rfl rfl rfl (by rfl) rfl (f':=fun k=>V8 ((pays.map A1R).getD k default)) (by show (i+1) * 24≤140737488355328;omega) (fun k hk=>?_) (fun tv bt htv=>?_)
   ·split
    ·rfl
    ·rw [show k=i by omega,Nat.sub_self,D4 A1R pays hi'];rfl
   conv=>whnf
   intro w h;conv=>whnf
   refine C6R h (.s .z) rfl rfl rfl htv.one (by decide) ?_;conv=>whnf
   intro w h;conv=>whnf
   refine G2 ?_
   exact nx hi' ⟨_,_,by rw [B4 (by omega),A5 (by omega) (by omega),show Q.total - U7 (pays.take i) - (pays.getD (i:Int).toNat default).amount=Q.total - U7 (pays.take (i+1)) by omega],htv,h⟩
  obtain rfl:=C5 h1 hi
  rw [show Q.total - U7 (pays.take pays.length)=0 by rw [D6O,hpay.2];omega];conv=>whnf
  refine lp L.length [8,10,12,14,18] (fun i vs u=>∃ lv bl,vs=[.optr 17 b8 0 0,A8 3 J1 L,.optr 6 b12 0 0,.optr 17 b14 0 0,eI i]∧OV 6 bl i lv ∧
   D3 st [(bl,⟨55,6,i,fun k=>V7 ((P3 L Q).getD k default)⟩),(bt,⟨70,3,pays.length,fun k=>V8 ((pays.map A1R).getD k default)⟩),(b14,⟨50,17,1,fun _=>.agg [eS id,eI set,eS zone,eB exempt,cv,eI day,lv,eI Q.ship,eI Q.shipTax,eI 0,eI Q.total,eI B.goods,eI B.tax,eI B.ship,eI B.shipTax,eI B.fee,tv]⟩),(bc,⟨9,1,codes.length,fun k=>eS (codes.getD k default)⟩),(b12,⟨113,6,1,fun _=>A1e Q⟩),(b8,⟨50,17,1,fun _=>H7 r50.zero⟩)] u) ?_ ?_
  ·conv=>whnf
   exact ⟨_,0,rfl,OV.nil ..,h.soft ..⟩
  clear h
  rintro i vs u hi ⟨lv,bl,rfl,hlv,h⟩
  conv=>whnf
  cases h2:decide ((i:Int)<(L.length:Int))
  case false =>
   obtain rfl:=C5 h2 hi
   conv=>whnf
   refine U6 h (.s (.s .z)) rfl Nat.one_pos rfl ?_;conv=>whnf
   refine L5 h (.s (.s (.s (.s (.s .z))))) rfl rfl (B7R (by rfl) (by simp only [cellsOf,List.all_cons,hcv.one,hlv.one,htv.one];rfl)) ?_;conv=>whnf
   intro w h;conv=>whnf
   refine U6 h (.s (.s (.s (.s (.s .z))))) rfl Nat.one_pos rfl ?_;conv=>whnf
   exact ⟨cv,lv,tv,bc,bl,bt,((h.drop 5).drop 4).drop 2,hcv,hlv,htv,rfl⟩
  have hi':=E2 h2
  have hb14:=h.has1 (.s (.s .z))
  have hb12:=h.has1 (.s (.s (.s (.s .z))))
  conv=>whnf
  refine .inr ⟨[34,36],.qui 0 (.qui 1 (.qui 2 (.qui 3 (.qui 4 (.qui 5 (.qui 6 (.qui 7 (.qui 8 (.qui 9 (.qui 10 (.qui 11 (.qui 12 (.qui 13 (.qui 14 (.qui 15 (.qui 16 (.qui 17 (.qui 18 (.qui 19 (.qui 20 (.qui 21 (.qui 22 (.qui 23 (.qui 24 (.qui 25 (.qui 26 (.qui 27 (.qui 28 (.qui 29 (.qui 30 (.qui 31 (.qui 32 (.qui 33 (.eff 34 [] (.qui 35 (.eff 36 [] (.done))))))))))))))))))))))))))))))))))))),by kernel_rfl,?_⟩
  repeat' ((conv=>whnf);first | refine quT (fun _=>⟨rfl,rfl⟩) ?_ | refine quL hb14 (fun _ hs=>Y4 hs rfl Nat.one_pos rfl ⟨rfl,rfl⟩) ?_ | refine quL hb12 (fun _ hs=>Y4 hs rfl Nat.one_pos rfl ⟨rfl,rfl⟩) ?_ | refine ⟨rfl,⟨by omega,by omega⟩,?_⟩ | fail)
  conv=>whnf
  refine B6B (q:=r55) (m:=1) (g:=fun j=>[V7 (A3s L Q i)].getD j AV.junk) h hlv .z rfl rfl rfl rfl (by rfl) rfl (f':=fun k=>V7 ((P3 L Q).getD k default)) (by show (i+1) * 56≤140737488355328;omega) (fun k hk=>?_) (fun lv bl hlv=>?_)
  ·split
   ·rfl
   ·rw [show k=i by omega,Nat.sub_self]
    unfold P3
    rw [D4 (A3s L Q) (List.range L.length) (by rw [D7g];omega)]
    show V7 (A3s L Q i)=_
    congr 2
    simp [D6D,hi']
  conv=>whnf
  intro w h;conv=>whnf
  refine C6R h (.s (.s .z)) rfl rfl rfl hlv.one (by decide) ?_;conv=>whnf
  intro w h;conv=>whnf
  refine G2 ?_
  exact nx hi' ⟨_,_,by rw [B4 (by omega)],hlv,h⟩
end Go.Proofs.YtaapofnkmpiknaaGreat
namespace Go.Ab
open Go
theorem At.mem {α : Type} {L:List α} {j:Nat} {p : α} (h:At L j p):p∈L:=by
 induction h with
 | z=>exact D7f ..
 | s _ ih=>exact D7d _ ih
theorem At.of_mem {α : Type} {p : α}:∀ {L:List α},p∈L→∃ j,At L j p
 | a::L,h=>by
  rcases D8f.1 h with rfl | h
  ·exact ⟨_,.z⟩
  ·obtain ⟨j,hj⟩:=At.of_mem h;exact ⟨_,.s hj⟩
theorem D3.perm {st s:St} {L M:List (Nat×K4)} (hp:L.Perm M) (h:D3 st L s):D3 st M s:=by
 induction hp with
 | nil=>exact h
 | cons x hp ih=>exact ⟨h.1.imp id fun ⟨h1,h2,h3⟩=>⟨h1,h2,fun j p hj=>by
   obtain ⟨i,hi⟩:=At.of_mem (hp.mem_iff.2 hj.mem)
   exact h3 i p hi⟩,ih h.2⟩
 | swap x y L =>
  obtain ⟨hy,hx,hL⟩:=h
  refine ⟨?_,?_,hL⟩
  ·rcases D8b x.2.n with hn | hn
   ·exact .inl hn
   ·obtain ⟨h1,h2,h3⟩:=hx.resolve_left (by omega)
    refine .inr ⟨h1,h2,fun j p hj=>?_⟩
    cases hj with
    | z=>exact hy.imp id fun ⟨_,_,h4⟩=>((h4 0 x .z).resolve_left (by omega)).symm
    | s hj=>exact h3 _ p hj
  ·exact hy.imp id fun ⟨h1,h2,h3⟩=>⟨h1,h2,fun j p hj=>h3 _ p (.s hj)⟩
 | trans _ _ ih1 ih2=>exact ih2 (ih1 h)
theorem D3.mid {st s:St} (l1:List (Nat×K4)) {a:Nat×K4} {l2:List (Nat×K4)} (h:D3 st (l1++a::l2) s):D3 st (a::(l1++l2)) s:=h.perm List.perm_middle
end Go.Ab
namespace Go.Proofs.YtaapofnkmpiknaaGreat
open Go Go.Ab
attribute [local irreducible] upd del
theorem B3i (s:B2W) {L:List E8} {Q:U5} (hO:B7K (G4 s.rules) (Q1 s) s.exempt (I1 s.codes) (J3 s.adds) L Q (Q0 Q.total s.pays)) (hF:A6T s=true) (id key:C8) (u:St) :
  S P 16 [B1r s,eS id,eS key] u fun v st'=>v=.tuple [F7 (G4 s.rules),B3F id key (Q1 s) s.exempt (I1 s.codes) (J3 s.adds) (Q0 Q.total s.pays)]∧st'=u:=by
 have hi:=hO.items
 refine C0V s _ _ Q 0 (by show _≤_;omega) ?_ (hO.sold.total_in hO.len.2) (fun w=>?_) u
 ·unfold A6T at hF
  simp only [D6I,D6F] at hF
  omega
 ·have:=hO.ref w
  rw [hO.lines];exact this
def C2T (st:St) (id zone:C8) (set:Int) (exempt:Bool) (codes:List C8) (day:Int) (L:List E8) (Q:U5) (pays:List Pay) (v:AV) (st':St):Prop :=
 ∃ cv lv tv bc bl bt,D3 st [(bl,⟨55,6,L.length,fun k=>V7 ((P3 L Q).getD k default)⟩),(bt,⟨70,3,pays.length,fun k=>V8 ((pays.map A1R).getD k default)⟩),(bc,⟨9,1,codes.length,fun k=>eS (codes.getD k default)⟩)] st' ∧
  OV 1 bc codes.length cv∧OV 6 bl L.length lv∧OV 3 bt pays.length tv ∧
  v=.agg [eS id,eI set,eS zone,eB exempt,cv,eI day,lv,eI Q.ship,eI Q.shipTax,eI 0,eI Q.total,eI (T4 Q).goods,eI (T4 Q).tax,eI (T4 Q).ship,eI (T4 Q).shipTax,eI (T4 Q).fee,tv]
set_option maxHeartbeats 4000000 in
theorem C4m (s:B2W) {L:List E8} {Q:U5} (hO:B7K (G4 s.rules) (Q1 s) s.exempt (I1 s.codes) (J3 s.adds) L Q (Q0 Q.total s.pays)) (hF:A6T s=true) (st:St) :
  S P 21 [B1r s] st fun v st'=>∃ o,v=.tuple [F7 (G4 s.rules),o]∧C2T st ⟨#[111]⟩ (Q1 s) 1 s.exempt (I1 s.codes) (10+B5 s.day 20) L Q (Q0 Q.total s.pays) o st':=by
 have cC:=fun u=>B3i s hO hF ⟨#[111]⟩ ⟨#[107]⟩ u
 have cM:=fun u=>A0f s.day 20 (by decide) (by decide) u
 have hm:=C9 s.day (n:=20) (by decide)
 have hid:D1 ⟨#[111]⟩=true:=by kernel_rfl
 have hz:=T9 hO.zone
 have hw:IntKind.i64.wrap (10+B5 s.day 20)=10+B5 s.day 20:=A5 (by omega) (by omega)
 have cS:∀ u,S P 27 [F7 (G4 s.rules),eI 1,B3F ⟨#[111]⟩ ⟨#[107]⟩ (Q1 s) s.exempt (I1 s.codes) (J3 s.adds) (Q0 Q.total s.pays),eI (10+B5 s.day 20)] u fun v st'=>∃ o,v=.tuple [o,eI 0]∧C2T u ⟨#[111]⟩ (Q1 s) 1 s.exempt (I1 s.codes) (10+B5 s.day 20) L Q (Q0 Q.total s.pays) o st':=fun u=>by
  refine (C7f (G4 s.rules) 1 (10+B5 s.day 20) ⟨#[111]⟩ ⟨#[107]⟩ (Q1 s) s.exempt (I1 s.codes) (J3 s.adds) (Q0 Q.total s.pays) L Q (T4 Q) u ⟨by decide,by decide⟩ (by have:=hO.ncodes;omega) (by have:=hO.len;omega) hO.sold.ngoods hO.sold.ntaxes hO.paid (by have:=hO.npays;omega)
   (fun u=>?_) (fun u=>?_) (fun u=>?_) (fun u=>B2j _ (A8M s.rules) hO.right u) (fun u=>?_) (fun u=>?_) hO.ref (fun u=>C7i Q hO.amounts.1 hO.amounts.2 u)).mono fun v st' ⟨cv,lv,tv,bc,bl,bt,h1,h2,h3,h4,h5⟩=>⟨_,h5,cv,lv,tv,bc,bl,bt,h1,h2,h3,h4,rfl⟩
  ·have:=C7k (10+B5 s.day 20) 100000 u
   rwa [show N9 0 100000 (10+B5 s.day 20)=true by rw [E0];omega] at this
  ·have:=A2m ⟨#[111]⟩ (by decide) u
   rwa [hid] at this
  ·have:=A2m (Q1 s) (by show _≤_;omega) u
   rwa [hO.zone] at this
  ·have:=B6R (I1 s.codes) (by have:=hO.ncodes;show _≤_;omega) (fun c hc=>by have:=hO.scodes c hc;show _≤_;omega) u
   rwa [hO.codes] at this
  ·have:=B2p (G4 s.rules).items (J3 s.adds) (by have:=hO.items;show _≤_;omega) u
   rw [hO.lines] at this;exact this
 generalize G4 s.rules=R at *
 generalize Q1 s=Z at *
 generalize I1 s.codes=C at *
 generalize J3 s.adds=A at *
 generalize Q0 Q.total s.pays=PP at *
 obtain ⟨D,hD⟩:∃ D,D=10+B5 s.day 20:=⟨_,rfl⟩
 rw [←hD] at hw cS ⊢
 refine A1S [1] A7o mixed Tryz.func21 (by rfl) rfl rfl rfl ?_;conv=>whnf
 intro b2 hb2
 generalize hs:(upd st b2 _:St)=w
 have h:=D3.new' hs (A2j st) hb2
 clear hs hb2
 conv=>whnf
 intro b3 hb3
 generalize hs:(upd w b3 _:St)=w2
 have h:=D3.new' hs h hb3
 clear hs hb3
 conv=>whnf
 refine I2 (cC _) ?_
 intro b4 hb4
 generalize hs:(upd w2 b4 _:St)=w
 have h:=D3.new' hs h hb4
 clear hs hb4
 conv=>whnf
 intro b5 hb5
 generalize hs:(upd w b5 _:St)=w2
 have h:=D3.new' hs h hb5
 clear hs hb5
 conv=>whnf
 refine L5 h (.s .z) rfl rfl (by rfl) ?_;conv=>whnf
 intro w h;conv=>whnf
 refine L5 h .z rfl rfl (by rfl) ?_;conv=>whnf
 intro w h
 have hb4:=h.has1 (.s .z)
 have hb5:=h.has1 .z
 conv=>whnf
 refine .inr ⟨[6,10,11],.qui 0 (.qui 1 (.qui 2 (.qui 3 (.qui 4 (.qui 5 (.two 6 10 [] [0,1,3,4] (.qui 7 (.qui 8 (.qui 9 (.eff 10 [0,1,3,4] (.eff 11 [] (.qui 12 (.done))))))) (.eff 6 [] (.qui 7 (.qui 8 (.qui 9 (.eff 11 [] (.qui 12 (.done))))))))))))),by kernel_rfl,?_⟩
 repeat' ((conv=>whnf);first | refine quT (fun _=>⟨rfl,rfl⟩) ?_ | refine quT (fun s=>H8 (cM s)) ?_ | refine quL hb4 (fun _ hs=>Y4 hs rfl Nat.one_pos rfl ⟨rfl,rfl⟩) ?_ | refine quL hb5 (fun _ hs=>Y4 hs rfl Nat.one_pos rfl ⟨rfl,rfl⟩) ?_ | rw [←hD,hw] | refine ⟨fun _=>trivial,?_⟩ | refine ⟨fun _=>hb4,?_⟩ | refine ⟨fun _=>hb5,?_⟩ | fail)
 refine ⟨?A,?B⟩
 case' A =>
  conv=>whnf
  refine call (cS _) (fun v w2 hv=>?_)
  obtain ⟨o,rfl,cv,lv,tv,bc,bl,bt,k,hcv,hlv,htv,rfl⟩:=hv
  have h:=h.trans k
  have hb4:=h.has1 (.s (.s (.s (.s .z))))
  have hb5:=h.has1 (.s (.s (.s .z)))
  repeat' ((conv=>whnf);first | refine quT (fun _=>⟨rfl,rfl⟩) ?_ | refine quT (fun s=>H8 (cM s)) ?_ | refine quL hb4 (fun _ hs=>Y4 hs rfl Nat.one_pos rfl ⟨rfl,rfl⟩) ?_ | refine quL hb5 (fun _ hs=>Y4 hs rfl Nat.one_pos rfl ⟨rfl,rfl⟩) ?_ | rw [←hD,hw] | refine ⟨fun _=>trivial,?_⟩ | refine ⟨fun _=>hb4,?_⟩ | refine ⟨fun _=>hb5,?_⟩ | fail)
  conv=>whnf
  intro b6 hb6
  generalize hs:(upd w2 b6 _:St)=w3
  have h:=D3.new' hs h hb6
  clear hs hb6
  have hb4:=h.has1 (.s (.s (.s (.s (.s .z)))))
  have hb5:=h.has1 (.s (.s (.s (.s .z))))
  repeat' ((conv=>whnf);first | refine quT (fun _=>⟨rfl,rfl⟩) ?_ | refine quT (fun s=>H8 (cM s)) ?_ | refine quL hb4 (fun _ hs=>Y4 hs rfl Nat.one_pos rfl ⟨rfl,rfl⟩) ?_ | refine quL hb5 (fun _ hs=>Y4 hs rfl Nat.one_pos rfl ⟨rfl,rfl⟩) ?_ | rw [←hD,hw] | refine ⟨fun _=>trivial,?_⟩ | refine ⟨fun _=>hb4,?_⟩ | refine ⟨fun _=>hb5,?_⟩ | fail)
  conv=>whnf
  refine L5 h .z rfl rfl (B7R (by rfl) (by simp only [cellsOf,List.all_cons,hcv.one,hlv.one,htv.one];rfl)) ?_;conv=>whnf
  intro w4 h
 case' B =>
  conv=>whnf
  intro b6 hb6
  generalize hs:(upd w b6 _:St)=w3
  have h:=D3.new' hs h hb6
  clear hs hb6
  have hb4:=h.has1 (.s (.s .z))
  have hb5:=h.has1 (.s .z)
  repeat' ((conv=>whnf);first | refine quT (fun _=>⟨rfl,rfl⟩) ?_ | refine quT (fun s=>H8 (cM s)) ?_ | refine quL hb4 (fun _ hs=>Y4 hs rfl Nat.one_pos rfl ⟨rfl,rfl⟩) ?_ | refine quL hb5 (fun _ hs=>Y4 hs rfl Nat.one_pos rfl ⟨rfl,rfl⟩) ?_ | rw [←hD,hw] | refine ⟨fun _=>trivial,?_⟩ | refine ⟨fun _=>hb4,?_⟩ | refine ⟨fun _=>hb5,?_⟩ | fail)
  conv=>whnf
  refine call (cS _) (fun v w2 hv=>?_)
  obtain ⟨o,rfl,cv,lv,tv,bc,bl,bt,k,hcv,hlv,htv,rfl⟩:=hv
  have h:=(h.trans k).mid [_,_,_]
  have hb4:=h.has1 (.s (.s (.s (.s (.s .z)))))
  have hb5:=h.has1 (.s (.s (.s (.s .z))))
  repeat' ((conv=>whnf);first | refine quT (fun _=>⟨rfl,rfl⟩) ?_ | refine quT (fun s=>H8 (cM s)) ?_ | refine quL hb4 (fun _ hs=>Y4 hs rfl Nat.one_pos rfl ⟨rfl,rfl⟩) ?_ | refine quL hb5 (fun _ hs=>Y4 hs rfl Nat.one_pos rfl ⟨rfl,rfl⟩) ?_ | rw [←hD,hw] | refine ⟨fun _=>trivial,?_⟩ | refine ⟨fun _=>hb4,?_⟩ | refine ⟨fun _=>hb5,?_⟩ | fail)
  conv=>whnf
  refine L5 h .z rfl rfl (B7R (by rfl) (by simp only [cellsOf,List.all_cons,hcv.one,hlv.one,htv.one];rfl)) ?_;conv=>whnf
  intro w4 h
 all_goals
  have hb4:=h.has1 (.s (.s (.s (.s (.s .z)))))
  have hb6:=h.has1 .z
  conv=>whnf
  refine .inr ⟨[2,3],.qui 0 (.qui 1 (.eff 2 [1] (.eff 3 [] (.done)))),by kernel_rfl,?_⟩
  repeat' ((conv=>whnf);first | refine quL hb4 (fun _ hs=>Y4 hs rfl Nat.one_pos rfl ⟨rfl,rfl⟩) ?_ | refine quL hb6 (fun _ hs=>Y4 hs rfl Nat.one_pos rfl ⟨rfl,rfl⟩) ?_ | fail)
  conv=>whnf
  refine L5 h (.s (.s (.s (.s (.s (.s (.s .z))))))) rfl rfl (by rfl) ?_;conv=>whnf
  intro w5 h
  have hb6:=h.has1 .z
  conv=>whnf
  refine ⟨fun _=>hb6,?_⟩;conv=>whnf
  refine L5 h (.s (.s (.s (.s (.s (.s .z)))))) rfl rfl (B7R (by rfl) (by simp only [cellsOf,List.all_cons,hcv.one,hlv.one,htv.one];rfl)) ?_;conv=>whnf
  intro w6 h;conv=>whnf
  refine U6 h (.s (.s (.s (.s (.s (.s (.s .z))))))) rfl Nat.one_pos rfl ?_;conv=>whnf
  refine U6 h (.s (.s (.s (.s (.s (.s .z)))))) rfl Nat.one_pos rfl ?_;conv=>whnf
  exact ⟨_,rfl,cv,lv,tv,bc,bl,bt,((((h.drop 7).drop 6).drop 5).drop 4).drop 0,hcv,hlv,htv,rfl⟩
theorem C5k (t n a b:Int) (ht:0≤t∧t≤10000000000000) (hn:1≤n∧n≤100000) (ha:0≤a) (hab:a≤b) (hb:b≤n) (st:St) :
  S P 90 [eI t,eI n,eI a,eI b] st fun v st'=>v=.tuple [eI (R6 t n b - R6 t n a),eI 0]∧st'=st:=by
 have n1:=B5C t n b ht hn ⟨by omega,hb⟩ st
 have n2:=B5C t n a ht hn ⟨ha,by omega⟩ st
 have b1:=A3g (k:=b) ht.1 hn.1 (by omega) hb
 have b2:=A3g (k:=a) ht.1 hn.1 ha (by omega)
 have g2:decide (a>b)=false:=D6L (by omega)
 have hw:IntKind.i64.wrap (R6 t n b - R6 t n a)=R6 t n b - R6 t n a:=A5 (by omega) (by omega)
 refine SyW [] Tryz.func90 ?_
 repeat' ((conv=>whnf);first | refine B3 n1 ?_ | refine B3 n2 ?_ | rw [g2] | rw [hw])
 exact ⟨rfl,rfl⟩
theorem C2E {t n a b:Int} (ht:0≤t) (hn:1≤n) (hab:a≤b):R6 t n a≤R6 t n b:=by
 unfold R6
 exact Int.ediv_le_ediv (by omega) (D7y hab ht)
def A5l (o:H3) (x:W8):Int:=R6 (o.lines.getD x.line.toNat default).goods (o.lines.getD x.line.toNat default).sold (o.lines.getD x.line.toNat default).left - R6 (o.lines.getD x.line.toNat default).goods (o.lines.getD x.line.toNat default).sold ((o.lines.getD x.line.toNat default).left - x.qty)
def B8f (r:D6) (o:H3) (x:W8):Int:=(W7 (A5l o x) r.policy.restock 10000 1).1
def A5d (r:D6) (o:H3) (l:List W8):Int:=l.foldl (fun a x=>a+B8f r o x) 0
def C3C (r:D6) (o:H3) (day:Int) (l:List W8):Int:=if B1D r o day l≠0 then 0 else if day - o.day<r.policy.grace then 0 else A5d r o l
theorem A9Z {f:W8→Int}:∀ {l:List W8} {i:Nat},A1z f l=0→i<l.length→f (l.getD i default)=0
 | x::l,i,h,hi=>by
  unfold A1z at h
  by_cases e:f x=0
  ·rw [if_pos e] at h
   cases i with
   | zero=>exact e
   | succ i=>exact A9Z (l:=l) (i:=i) h (Nat.lt_of_succ_lt_succ hi)
  ·rw [if_neg e] at h;exact absurd h e
structure C2S (r:D6) (o:H3) (day:Int) (l:List W8):Prop where
 right:K6 r=true
 order:N8 o=true
 day:o.day≤day∧day≤100000
 oday:0≤o.day
 len:l.length≤1000
 at_:∀ i,i<l.length→0≤(l.getD i default).line∧(l.getD i default).line.toNat<o.lines.length∧1≤(l.getD i default).qty∧(l.getD i default).qty≤(o.lines.getD (l.getD i default).line.toNat default).left
theorem D0a {r:D6} {o:H3} {day:Int} {l:List W8} (h:B1D r o day l=0):C2S r o day l:=by
 unfold B1D at h
 split at h
 ·cases h
 rename_i h1
 split at h
 ·cases h
 rename_i h2
 split at h
 ·cases h
 rename_i h3
 split at h
 ·cases h
 rename_i h4
 split at h
 ·cases h
 rename_i h5
 split at h
 ·cases h
 have h4:=(E0 ..).1 (by simpa using h4:N9 0 100000 day=true)
 have h5:U8 l=true:=by simpa using h5
 have h2:N8 o=true:=by simpa using h2
 have h6:=h2
 unfold N8 A6d at h6
 simp only [D6I,E0] at h6
 have h7:=h5
 unfold U8 at h7
 simp only [D6I,D6F] at h7
 refine ⟨by simpa using h1,h2,⟨by omega,h4.2⟩,h6.1.1.1.1.2.2.1,by omega,fun i hi=>?_⟩
 have a1:=A4K h5 hi
 have a2:=A9Z h hi
 unfold A5G at a2
 split at a2
 ·cases a2
 split at a2
 ·cases a2
 split at a2
 ·cases a2
 omega
theorem B4I {o:H3} (h:N8 o=true) {x:A0J} (hx:x∈o.lines):A1Q x=true:=by
 unfold N8 A3t at h
 simp only [D6I,D6W] at h
 exact h.1.1.1.2.2 x hx
theorem C3D {r:D6} {o:H3} {day:Int} {l:List W8} (h:C2S r o day l) {i:Nat} (hi:i<l.length):(0≤A5l o (l.getD i default)∧A5l o (l.getD i default)≤10000000000000)∧0≤B8f r o (l.getD i default)∧B8f r o (l.getD i default)≤10000000000000:=by
 obtain ⟨a1,a2,a3,a4⟩:=h.at_ i hi
 have k:=A4w (B4I h.order (A7 a2))
 have hr:=h.right
 unfold K6 A2l at hr
 simp only [D6I,E0] at hr
 have b1:=A3g (t:=(o.lines.getD (l.getD i default).line.toNat default).goods) (n:=(o.lines.getD (l.getD i default).line.toNat default).sold) (k:=(o.lines.getD (l.getD i default).line.toNat default).left) k.2.2.2.2.1.1 k.2.2.1.1 (by omega) k.2.2.2.1.2
 have b2:=A3g (t:=(o.lines.getD (l.getD i default).line.toNat default).goods) (n:=(o.lines.getD (l.getD i default).line.toNat default).sold) (k:=(o.lines.getD (l.getD i default).line.toNat default).left - (l.getD i default).qty) k.2.2.2.2.1.1 k.2.2.1.1 (by omega) (by omega)
 have b3:=C2E (t:=(o.lines.getD (l.getD i default).line.toNat default).goods) (n:=(o.lines.getD (l.getD i default).line.toNat default).sold) k.2.2.2.2.1.1 k.2.2.1.1 (show (o.lines.getD (l.getD i default).line.toNat default).left - (l.getD i default).qty≤(o.lines.getD (l.getD i default).line.toNat default).left by omega)
 have hp:0≤A5l o (l.getD i default)∧A5l o (l.getD i default)≤10000000000000:=by unfold A5l;omega
 have ht:=B7x (x:=A5l o (l.getD i default)) (num:=r.policy.restock) (den:=10000) (round:=1) hp.1 hr.2.1.1.2.1 hr.2.1.1.2.2 (by decide)
 exact ⟨hp,ht.1,by unfold B8f;omega⟩
theorem A9Y {r:D6} {o:H3} {l:List W8} {i:Nat} (hi:i<l.length):A5d r o (l.take (i+1))=A5d r o (l.take i)+B8f r o (l.getD i default):=H6 hi _ _
theorem B3G {r:D6} {o:H3} {day:Int} {l:List W8} (h:C2S r o day l):∀ i:Nat,i≤l.length→0≤A5d r o (l.take i)∧A5d r o (l.take i)≤10000000000000 * (i:Int)
 | 0,_=>by rw [D8h];exact ⟨D7l 0,by show (0:Int)≤_;omega⟩
 | i+1,hi=>by
  have h1:=B3G h i (by omega)
  have h2:=(C3D h (show i<l.length by omega)).2
  rw [A9Y (by omega)]
  omega
set_option maxHeartbeats 1000000 in
theorem C9b (r:D6) (o:H3) (day:Int) (l:List W8) (hf:X1 r) (hr:r.items.length≤9223372036854775807) (hs:A5R o) (hl:l.length≤9223372036854775806) (st:St) :
  S P 31 [F7 r,O7 o,eI day,A8 2 A8t l] st fun v st'=>v=.tuple [eI (C3C r o day l),eI (B1D r o day l)]∧st'=st:=by
 have n1:=fun s=>C4u r o day l hf hr hs hl s
 have hok:=@D0a r o day l
 have hE:C3C r o day l=if B1D r o day l≠0 then 0 else if day - o.day<r.policy.grace then 0 else A5d r o l:=rfl
 rw [hE]
 clear hE
 generalize B1D r o day l=E at *
 refine F4 [4,5,13,14] Tryz.func31 ?_
 refine I2 (n1 _) ?_
 cases h0:(E != 0)
 case true =>
  rw [if_pos (show E≠0 by simpa using h0)];conv=>whnf
  exact ⟨rfl,rfl⟩
 obtain rfl:E=0:=by simpa using h0
 have hO:=hok rfl
 have hd:=hO.day
 have ho:=hO.oday
 have hw:IntKind.i64.wrap (day - o.day)=day - o.day:=A5 (by omega) (by omega)
 rw [if_neg (by simp)];conv=>whnf
 rw [hw]
 cases h7:decide (day - o.day<r.policy.grace)
 case true =>
  rw [if_pos (D6H h7)];conv=>whnf
  exact ⟨rfl,rfl⟩
 rw [if_neg (D6G h7)];conv=>whnf
 refine lp l.length [4,5,11,35,36,37] (fun i vs s=>vs=[.fptr (F7 r) 0,.fptr (O7 o) 0,eI (A5d r o (l.take i)),A8 2 A8t l,eI l.length,eI i]∧s=st) ?_ ?_
 ·conv=>whnf
  exact ⟨rfl,rfl⟩
 rintro i vs s hi ⟨rfl,rfl⟩
 conv=>whnf
 cases h:decide ((i:Int)<(l.length:Int))
 ·obtain rfl:=C5 h hi
  rw [D6O];conv=>whnf
  exact ⟨rfl,rfl⟩
 have hi':=E2 h
 obtain ⟨a1,a2,a3,a4⟩:=hO.at_ i hi'
 have k:=A4w (B4I hO.order (A7 a2))
 have f1:=C3D hO hi'
 have f2:=B3G hO i hi
 have f3:=A9Y (r:=r) (o:=o) hi'
 have hlen:=hO.len
 have hR:=hO.right
 unfold K6 A2l at hR
 simp only [D6I,E0] at hR
 have hw1:IntKind.i64.wrap ((o.lines.getD (l.getD (i:Int).toNat default).line.toNat default).left - (l.getD (i:Int).toNat default).qty)=(o.lines.getD (l.getD (i:Int).toNat default).line.toNat default).left - (l.getD (i:Int).toNat default).qty:=(A5 (by omega) (by omega):IntKind.i64.wrap ((o.lines.getD (l.getD i default).line.toNat default).left - (l.getD i default).qty)=_)
 have n2:=fun s=>C5k (o.lines.getD (l.getD i default).line.toNat default).goods (o.lines.getD (l.getD i default).line.toNat default).sold ((o.lines.getD (l.getD i default).line.toNat default).left - (l.getD i default).qty) (o.lines.getD (l.getD i default).line.toNat default).left k.2.2.2.2.1 k.2.2.1 (by omega) (by omega) k.2.2.2.1.2 s
 have n3:=fun s=>B5e (A5l o (l.getD i default)) r.policy.restock 1 s
 rw [if_pos hR.2.1.1.2] at n3
 have hw2:IntKind.i64.wrap (A5d r o (l.take i)+(W7 (A5l o (l.getD i default)) r.policy.restock 10000 1).1)=A5d r o (l.take (i+1)):=(A5 (by show _≤_+B8f r o _;omega) (by show _+B8f r o _≤_;omega)).trans f3.symm
 have a2':(l.getD (i:Int).toNat default).line<(o.lines.length:Int):=by show (l.getD i default).line<_;omega
 have a1':0≤(l.getD (i:Int).toNat default).line:=a1
 repeat' ((conv=>whnf);first | refine ⟨rfl,⟨by omega,by omega⟩,?_⟩ | rw [hw1] | refine B3 (n2 _) ?_ | refine B3 (n3 _) ?_ | rw [hw2] | fail)
 refine G2 ?_
 exact nx hi' ⟨by rw [B4 (by omega)],rfl⟩
theorem _root_.Go.Ab.Col.blks {ty e n:Nat} {f:Nat→AV} {st w w':St} {v:AV} {L:List (Nat×K4)} (hc:Col ty e f w n v w') (h:D3 st L w):∃ b,OV e b n v∧D3 st ((b,⟨ty,e,n,f⟩)::L) w':=by
 rcases hc with ⟨rfl,rfl,rfl⟩ | ⟨h0,b,g,h1,rfl,rfl,h4⟩
 ·exact ⟨0,OV.nil e 0,h.soft 0 ty e f⟩
 ·exact ⟨b,.inr ⟨h0,rfl⟩,h.got h1 ((F1.refl w).upd h1) ⟨g,A0 ..,h4⟩⟩
theorem B5V (l:List A0J) (hl:l.length≤100000) (st:St):S P 153 [A8 6 V7 l] st fun v st'=>E6 55 6 V7 l st v st':=by
 refine SyW [] Tryz.func153 ?_
 cases l with
 | nil =>
  conv=>whnf
  refine ⟨?_,?_⟩
  ·conv=>whnf
   exact Col.start _ _ _ _
  ·conv=>whnf
   refine apE rfl rfl rfl rfl rfl (by show 0 * 56≤_;omega) (fun _=>?_) (fun h=>absurd h (by show ¬ 0<0;omega));conv=>whnf
   exact Col.start _ _ _ _
 | cons u us =>
  conv=>whnf
  refine Col.apps (n:=0) (m:=us.length+1) (q:=r55) (f:=fun k=>V7 ((u::us).getD k default)) rfl rfl rfl rfl rfl (fun i hi=>by rw [D6Q]) (by show (0+(us.length+1)) * 56≤140737488355328;simp only [D7o] at hl;omega) (Col.start _ _ _ _) (fun sv s' hc'=>?_);conv=>whnf
  rw [D6Q] at hc'
  exact hc'
theorem B1i (l:List A2D) (hl:l.length≤100000) (st:St):S P 154 [A8 3 V8 l] st fun v st'=>v=A8 3 V8 l∧st'=st:=by
 refine A0L (ty:=70) ?_
 refine SyW [] Tryz.func154 ?_
 cases l with
 | nil =>
  conv=>whnf
  refine ⟨?_,?_⟩
  ·conv=>whnf
   exact Col.start _ _ _ _
  ·conv=>whnf
   refine apE rfl rfl rfl rfl rfl (by show 0 * 24≤_;omega) (fun _=>?_) (fun h=>absurd h (by show ¬ 0<0;omega));conv=>whnf
   exact Col.start _ _ _ _
 | cons u us =>
  conv=>whnf
  refine Col.apps (n:=0) (m:=us.length+1) (q:=r70) (f:=fun k=>V8 ((u::us).getD k default)) rfl rfl rfl rfl rfl (fun i hi=>by rw [D6Q]) (by show (0+(us.length+1)) * 24≤140737488355328;simp only [D7o] at hl;omega) (Col.start _ _ _ _) (fun sv s' hc'=>?_);conv=>whnf
  rw [D6Q] at hc'
  exact hc'
def C9I (o:H3) (st:St) (v:AV) (st':St):Prop:=∃ lv bl,D3 st [(bl,⟨55,6,o.lines.length,fun k=>V7 (o.lines.getD k default)⟩)] st'∧OV 6 bl o.lines.length lv ∧
 v=.agg [eS o.id,eI o.rules,eS o.zone,eB o.exempt,C7 o.codes,eI o.day,lv,eI o.ship,eI o.shipTax,eI o.fee,eI o.net,eI o.book.goods,eI o.book.tax,eI o.book.ship,eI o.book.shipTax,eI o.book.fee,A8 3 V8 o.tenders]
theorem C4s (o:H3) (hc:o.codes.length≤100000) (hl:o.lines.length≤100000) (ht:o.tenders.length≤100000) (st:St):S P 98 [O7 o] st fun v st'=>C9I o st v st':=by
 have n1:=fun s=>B5W o.codes hc s
 have n2:=fun s=>B5V o.lines hl s
 have n3:=fun s=>B1i o.tenders ht s
 refine A1S [] A7o mixed Tryz.func98 (by rfl) rfl rfl rfl ?_;conv=>whnf
 intro b1 hb1
 generalize hs:(upd st b1 _:St)=w
 have h:=D3.new' hs (A2j st) hb1
 clear hs hb1
 conv=>whnf
 intro b2 hb2
 generalize hs:(upd w b2 _:St)=w2
 have h:=D3.new' hs h hb2
 clear hs hb2
 have hb:=h.has1 (.s .z)
 conv=>whnf
 refine .inr ⟨[5,10,12,14],.qui 0 (.qui 1 (.qui 2 (.qui 3 (.qui 4 (.qui 6 (.qui 7 (.qui 9 (.eff 5 [7] (.qui 8 (.eff 10 [] (.qui 11 (.eff 12 [] (.qui 13 (.eff 14 [] (.done))))))))))))))),by kernel_rfl,?_⟩
 repeat' ((conv=>whnf);first | refine quL hb (fun _ hs=>Y4 hs rfl Nat.one_pos rfl ⟨rfl,rfl⟩) ?_ | refine quT (fun s=>H8 (n1 s)) ?_ | fail)
 conv=>whnf
 refine call (n2 _) (fun lv w3 hv=>?_)
 obtain ⟨bl,hlv,h⟩:=hv.blks h
 have hb:=h.has1 (.s (.s .z))
 repeat' ((conv=>whnf);first | refine ⟨fun _=>hb,?_⟩ | refine quT (fun s=>H8 (n3 s)) ?_ | fail)
 conv=>whnf
 refine L5 h (.s (.s .z)) rfl rfl (by rfl) ?_;conv=>whnf
 intro w h;conv=>whnf
 refine C6R h (.s (.s .z)) rfl rfl rfl hlv.one (by decide) ?_;conv=>whnf
 intro w h;conv=>whnf
 refine L5 h (.s (.s .z)) rfl rfl (by rfl) ?_;conv=>whnf
 intro w h;conv=>whnf
 refine U6 h (.s (.s .z)) rfl Nat.one_pos rfl ?_;conv=>whnf
 refine L5 h (.s .z) rfl rfl (B7R (by rfl) (by simp only [cellsOf,List.all_cons,hlv.one];rfl)) ?_;conv=>whnf
 intro w h;conv=>whnf
 refine U6 h (.s .z) rfl Nat.one_pos rfl ?_;conv=>whnf
 exact ⟨lv,bl,(h.drop 2).drop 1,hlv,rfl⟩
def A4U (o:H3) (x:W8):Int:=if x.line≥o.lines.length then 7 else if x.qty>(o.lines.getD x.line.toNat default).left then 12 else 0
def A7G (o:H3) (l:List W8):Int:=if N8 o=false then 2 else if U8 l=false then 2 else A1z (A4U o) l
def D0f (x:A0J) (n:Int):A0J:=⟨x.sku,x.price,x.sold,x.left - n,x.goods,x.tax⟩
def C6K (ls:List A0J) (x:W8):List A0J:=ls.set x.line.toNat (D0f (ls.getD x.line.toNat default) x.qty)
def offs (ls:List A0J) (l:List W8):List A0J:=l.foldl C6K ls
def C0f:H3:=⟨.empty,0,.empty,false,[],0,[],0,0,0,0,⟨0,0,0,0,0⟩,[]⟩
def B4t (o:H3) (l:List W8):H3:=if A7G o l≠0 then C0f else ⟨o.id,o.rules,o.zone,o.exempt,o.codes,o.day,offs o.lines l,o.ship,o.shipTax,o.fee,o.net,o.book,o.tenders⟩
theorem setD {α : Type} [Inhabited α] (l:List α) (x : α) {k:Nat} (hk:k<l.length) (j:Nat):(l.set k x).getD j default=if j=k then x else l.getD j default:=by
 simp only [D6D,D8G]
 by_cases h:k=j
 ·subst h;simp [hk]
 ·rw [if_neg h,if_neg (Ne.symm h)]
theorem A8F:∀ (l:List W8) (ls:List A0J),(offs ls l).length=ls.length
 | [],_=>rfl
 | x::l,ls=>(A8F l _).trans (D7W ..)
theorem B3Q {l:List W8} {i:Nat} (hi:i<l.length) (ls:List A0J):offs ls (l.take (i+1))=C6K (offs ls (l.take i)) (l.getD i default):=H6 hi _ _
theorem C0i {l:List W8} (h:U8 l=true) (ls:List A0J):∀ (i:Nat),i≤l.length→(∀ k,k<i→¬(l.getD k default).line≥ls.length)→∀ j:Nat,B3L l i<j→(offs ls (l.take i)).getD j default=ls.getD j default
 | 0,_,_,_,_=>by rw [D8h];rfl
 | i+1,hi,hE,j,hj=>by
  have h1:=h
  unfold U8 at h1
  rw [D6I,D6W] at h1
  have h2:=h1.2 i (D6T.2 (by omega))
  unfold A3G at h2
  simp only [D6I,D6F] at h2
  have h3:(l.getD i default).line<j:=hj
  have h4:=hE i (by omega)
  have h5:=(A4K h (show i<l.length by omega)).1
  rw [B3Q (by omega),C6K,setD _ _ (by rw [A8F];omega),if_neg (by omega)]
  exact C0i h ls i (by omega) (fun k hk=>hE k (by omega)) j (by omega)
theorem C4i {o:H3} {l:List W8} (h:U8 l=true) {i:Nat} (hok:∀ k,k<i→A4U o (l.getD k default)=0) (hi:i<l.length):(offs o.lines (l.take i)).getD (l.getD i default).line.toNat default=o.lines.getD (l.getD i default).line.toNat default:=by
 have h1:=h
 unfold U8 at h1
 rw [D6I,D6W] at h1
 have h2:=h1.2 i (D6T.2 hi)
 unfold A3G at h2
 simp only [D6I,D6F] at h2
 have h3:=(A4K h hi).1
 exact C0i h o.lines i (by omega) (fun k hk hh=>by
  have:=hok k hk
  rw [A4U,if_pos hh] at this;cases this) _ (by omega)
theorem C9O {st w:St} (h:F1 st w) (e:Int):A6 [.tuple [.agg [eS .empty,eI 0,eS .empty,eB false,.emp,eI 0,.emp,eI 0,eI 0,eI 0,eI 0,eI 0,eI 0,eI 0,eI 0,eI 0,.emp],eI e]] w [.tuple [O7 C0f,eI e]] st:=by
 refine A6.trans (t:=w) ?_ (h.shift _)
 refine A6.tuple (A6.cons (A6.agg ?_) (A6.keep _ _)) rfl
 iterate 4 refine A6.cons (A6.keep [_] _) ?_
 refine A6.cons (I9 1 _) ?_
 refine A6.cons (A6.keep [_] _) ?_
 refine A6.cons (I9 6 _) ?_
 iterate 9 refine A6.cons (A6.keep [_] _) ?_
 exact I9 3 _
set_option maxHeartbeats 1000000 in
theorem C4o (o:H3) (l:List W8) (hs:A5R o) (hl:l.length≤9223372036854775806) (st:St) :
  S P 40 [O7 o,A8 2 A8t l] st fun v st'=>v=.tuple [O7 (B4t o l),eI (A7G o l)]∧st'=st:=by
 have n2:=fun s=>A8P o hs s
 have n4:=fun s=>C0y l hl s
 have hta:=fun (h:U8 l=true) i (hi:i<l.length)=>A4K h hi
 refine S.post (post:=fun v w=>((A7G o l≠0∧F1 st w)∧v=.tuple [.agg [eS .empty,eI 0,eS .empty,eB false,.emp,eI 0,.emp,eI 0,eI 0,eI 0,eI 0,eI 0,eI 0,eI 0,eI 0,eI 0,.emp],eI (A7G o l)]) ∨
   (A7G o l=0∧∃ bl,D3 st [(bl,⟨55,6,o.lines.length,fun k=>V7 ((offs o.lines l).getD k default)⟩)] w ∧
    v=.tuple [.agg [eS o.id,eI o.rules,eS o.zone,eB o.exempt,C7 o.codes,eI o.day,.own 6 bl 0 o.lines.length,eI o.ship,eI o.shipTax,eI o.fee,eI o.net,eI o.book.goods,eI o.book.tax,eI o.book.ship,eI o.book.shipTax,eI o.book.fee,A8 3 V8 o.tenders],eI 0])) ?_
  (fun v w hv=>by
   rcases hv with ⟨⟨h1,h2⟩,rfl⟩ | ⟨h1,bl,h2,rfl⟩
   ·refine ⟨_,_,⟨rfl,rfl⟩,?_⟩
    rw [B4t,if_pos h1]
    exact C9O h2 _
   ·obtain ⟨s1,h3,k1⟩:=h2.frzO .z
    refine ⟨_,_,⟨rfl,rfl⟩,?_⟩
    rw [B4t,if_neg (by rw [h1];exact fun h=>h rfl),h1]
    refine A6.trans (t:=s1) ?_ (h3.fin _)
    refine A6.tuple (A6.cons (A6.agg ?_) (A6.keep _ _)) rfl
    iterate 6 refine A6.cons (A6.keep [_] _) ?_
    rw [show AV.arr 6 o.lines.length _=A8 6 V7 (offs o.lines l) by unfold A8;rw [A8F]] at k1
    refine A6.cons k1 ?_
    exact A6.keep _ _)
 have hE:A7G o l=if N8 o=false then 2 else if U8 l=false then 2 else A1z (A4U o) l:=rfl
 rw [hE]
 clear hE
 have hO:N8 o=true→(1≤o.lines.length∧∀ x∈o.lines,A1Q x=true)∧o.codes.length≤100000:=fun h=>by
  refine ⟨⟨?_,fun x=>B4I h⟩,?_⟩<;>(unfold N8 A3t A6d S6 at h;simp only [D6I,D6F] at h;omega)
 generalize N8 o=b2 at *
 generalize hb4:U8 l=b4 at *
 refine A1S [2,8] A7o mixed Tryz.func40 (by rfl) rfl rfl rfl ?_;conv=>whnf
 intro b1 hb1
 generalize hs1:(upd st b1 _:St)=w
 have h:=D3.new' hs1 (A2j st) hb1
 clear hs1 hb1
 conv=>whnf
 refine B3 (n2 _) ?_
 cases b2
 ·conv=>whnf
  refine L5 h .z rfl rfl (by rfl) ?_;conv=>whnf
  intro w h;conv=>whnf
  refine U6 h .z rfl Nat.one_pos rfl ?_;conv=>whnf
  exact .inl ⟨⟨by simp,h.sup⟩,rfl⟩
 rw [if_neg (by simp)];conv=>whnf
 refine B3 (n4 _) ?_
 cases b4
 ·conv=>whnf
  refine L5 h .z rfl rfl (by rfl) ?_;conv=>whnf
  intro w h;conv=>whnf
  refine U6 h .z rfl Nat.one_pos rfl ?_;conv=>whnf
  exact .inl ⟨⟨by simp,h.sup⟩,rfl⟩
 rw [if_neg (by simp)]
 obtain ⟨⟨hl1,hkb⟩,hcl⟩:=hO rfl
 conv=>whnf
 refine call (C4s o hcl hs.lines hs.tenders _) (fun v w2 hv=>?_)
 obtain ⟨lv,bl,hB,hlv,rfl⟩:=hv
 obtain rfl:=hlv.own hl1
 have h:=h.trans hB
 conv=>whnf
 intro b6 hb6
 generalize hs1:(upd w2 b6 _:St)=w3
 have h:=D3.new' hs1 h hb6
 clear hs1 hb6
 conv=>whnf
 refine L5 h .z rfl rfl (by rfl) ?_;conv=>whnf
 intro w h;conv=>whnf
 refine lp l.length [4,6,21,22,23] (fun i vs s=>vs=[.optr 17 b1 0 0,.optr 17 b6 0 0,A8 2 A8t l,eI l.length,eI i]∧(∀ k,k<i→A4U o (l.getD k default)=0) ∧
   D3 st [(b6,⟨50,17,1,fun _=>.agg [eS o.id,eI o.rules,eS o.zone,eB o.exempt,C7 o.codes,eI o.day,.own 6 bl 0 o.lines.length,eI o.ship,eI o.shipTax,eI o.fee,eI o.net,eI o.book.goods,eI o.book.tax,eI o.book.ship,eI o.book.shipTax,eI o.book.fee,A8 3 V8 o.tenders]⟩),
    (bl,⟨55,6,o.lines.length,fun k=>V7 ((offs o.lines (l.take i)).getD k default)⟩),(b1,⟨50,17,1,fun _=>.agg [eS .empty,eI 0,eS .empty,eB false,.emp,eI 0,.emp,eI 0,eI 0,eI 0,eI 0,eI 0,eI 0,eI 0,eI 0,eI 0,.emp]⟩)] s) ?_ ?_
 ·conv=>whnf
  exact ⟨rfl,fun k hk=>absurd hk (by omega),h⟩
 clear h
 rintro i vs s hi ⟨rfl,hok,h⟩
 conv=>whnf
 cases h1:decide ((i:Int)<(l.length:Int))
 ·obtain rfl:=C5 h1 hi
  rw [A7I hok]
  rw [D6O] at h;conv=>whnf
  refine U6 h .z rfl Nat.one_pos rfl ?_;conv=>whnf
  refine L5 h (.s (.s .z)) rfl rfl (by rfl) ?_;conv=>whnf
  intro w h;conv=>whnf
  refine U6 h (.s (.s .z)) rfl Nat.one_pos rfl ?_;conv=>whnf
  exact .inr ⟨rfl,bl,(h.drop 0).drop 1,rfl⟩
 have hi':=E2 h1
 have ht0:=hta rfl i hi'
 have hat:A4U o (l.getD (i:Int).toNat default)≠0→A1z (A4U o) l=A4U o (l.getD (i:Int).toNat default):=fun h=>A9q hi' hok h
 have hE:A4U o (l.getD (i:Int).toNat default)=if (l.getD (i:Int).toNat default).line≥o.lines.length then 7 else if (l.getD (i:Int).toNat default).qty>(o.lines.getD (l.getD (i:Int).toNat default).line.toNat default).left then 12 else 0:=rfl
 change 0≤(l.getD (i:Int).toNat default).line∧1≤(l.getD (i:Int).toNat default).qty at ht0
 conv=>whnf
 refine E7 ?_
 refine U6 h .z rfl Nat.one_pos rfl ?_;conv=>whnf
 cases h2:decide ((l.getD (i:Int).toNat default).line≥(o.lines.length:Int))
 case true =>
  rw [if_pos (D6H h2)] at hE
  rw [hat (by rw [hE];decide),hE];conv=>whnf
  refine L5 h (.s (.s .z)) rfl rfl (by rfl) ?_;conv=>whnf
  intro w h;conv=>whnf
  refine U6 h (.s (.s .z)) rfl Nat.one_pos rfl ?_;conv=>whnf
  exact .inl ⟨⟨by simp,h.sup⟩,rfl⟩
 rw [if_neg (D6G h2)] at hE
 have h2:=D6G h2
 have hx:=C4i hb4 hok hi'
 change (offs o.lines (l.take i)).getD (l.getD (i:Int).toNat default).line.toNat default=o.lines.getD (l.getD (i:Int).toNat default).line.toNat default at hx
 have hk:=A4w (hkb _ (A7 (show (l.getD (i:Int).toNat default).line.toNat<o.lines.length by omega)))
 conv=>whnf
 refine U6 h .z rfl Nat.one_pos rfl ?_;conv=>whnf
 refine E7 ?_
 rw [D6Q ((l.getD (i:Int).toNat default).line.toNat)]
 have hb:=h.has (.s .z) (by show 0<o.lines.length;omega)
 refine .inr ⟨[],.qui 0 (.qui 1 (.qui 2 (.qui 3 (.qui 4 (.qui 5 (.qui 6 (.done))))))),by kernel_rfl,?_⟩
 repeat' ((conv=>whnf);first | refine quT (fun _=>⟨rfl,rfl⟩) ?_ | refine quL hb (fun _ hs=>Y4 hs rfl (by show (l.getD (i:Int).toNat default).line.toNat<o.lines.length;omega) rfl ⟨rfl,rfl⟩) ?_ | fail)
 conv=>whnf
 rw [hx]
 cases h3:decide ((l.getD (i:Int).toNat default).qty>(o.lines.getD (l.getD (i:Int).toNat default).line.toNat default).left)
 case true =>
  rw [if_pos (D6H h3)] at hE
  rw [hat (by rw [hE];decide),hE];conv=>whnf
  refine L5 h (.s (.s .z)) rfl rfl (by rfl) ?_;conv=>whnf
  intro w h;conv=>whnf
  refine U6 h (.s (.s .z)) rfl Nat.one_pos rfl ?_;conv=>whnf
  exact .inl ⟨⟨by simp,h.sup⟩,rfl⟩
 rw [if_neg (D6G h3)] at hE
 have h3:=D6G h3
 conv=>whnf
 refine .inr ⟨[9],.qui 0 (.qui 1 (.qui 2 (.qui 3 (.qui 4 (.qui 5 (.qui 6 (.qui 7 (.qui 8 (.eff 9 [] (.done)))))))))),by kernel_rfl,?_⟩
 repeat' ((conv=>whnf);first | refine quT (fun _=>⟨rfl,rfl⟩) ?_ | refine quL hb (fun _ hs=>Y4 hs rfl (by show (l.getD (i:Int).toNat default).line.toNat<o.lines.length;omega) rfl ⟨rfl,rfl⟩) ?_ | fail)
 conv=>whnf
 refine D0g h (.s .z) rfl (by show (l.getD (i:Int).toNat default).line.toNat<o.lines.length;omega) rfl (by rfl) ?_;conv=>whnf
 intro w h
 rw [hx] at h;conv=>whnf
 have hw:IntKind.i64.wrap ((o.lines.getD (l.getD (i:Int).toNat default).line.toNat default).left - (l.getD (i:Int).toNat default).qty)=(o.lines.getD (l.getD (i:Int).toNat default).line.toNat default).left - (l.getD (i:Int).toNat default).qty:=A5 (by omega) (by omega)
 rw [hw] at h
 refine G2 ?_
 refine nx hi' ⟨by rw [B4 (by omega)],H5 hok hE,h.as (fun k=>V7 ((offs o.lines (l.take (i+1))).getD k default)) (.s .z) fun k hk=>?_⟩
 rw [B3Q hi',C6K,setD _ _ (by rw [A8F];show (l.getD (i:Int).toNat default).line.toNat<_;omega)]
 show I4 _ _ _ k=V7 (if k=(l.getD (i:Int).toNat default).line.toNat then _ else _)
 by_cases hkk:k=(l.getD (i:Int).toNat default).line.toNat
 ·rw [hkk,A4,if_pos rfl]
  show _=V7 (D0f ((offs o.lines (l.take i)).getD (l.getD (i:Int).toNat default).line.toNat default) _)
  rw [hx];rfl
 ·rw [H4 hkk,if_neg hkk]
def spW:D6:=spR 30 0 1000
def spL:List E8:=[⟨⟨#[97]⟩,1,50⟩]
def spQ:U5:=⟨[50],[5],0,0,55,[]⟩
def spT (n:Int):List W8:=[⟨0,n⟩]
theorem B5t (w g c:Int):X1 (spR w g c):=⟨D7e _,fun p hp=>absurd hp D8j,by show 0<_;decide,by show 0<_;decide⟩
theorem C0t (n:Int):A5R (spO n):=⟨(by decide:Sm 1),(by decide:Sm 1),(by decide:Sm 0),fun s hs=>(by cases hs),(by decide:1≤100000),fun x hx=>by rw [D7i.1 hx];exact (by decide:Sm 1),(by decide:1≤100000)⟩
theorem C2l (st:St):S P 122 [F7 spW,C7 [],A8 3 J1 spL] st fun v st'=>v=.tuple [A1a ⟨[50],50,0,[]⟩,eI 0]∧st'=st :=
 (price_S B7o spW [] spL (B5t ..) (by decide) (by decide) (by decide) st).mono fun v s hv=>by
  obtain ⟨hv,rfl⟩:=hv
  refine ⟨?_,rfl⟩
  rcases hv with ⟨h,_⟩ | ⟨_,o1,o2,h1,h2,h3⟩
  ·exact absurd (show D8 spW [] spL=0 by kernel_rfl) h
  ·rw [show spW.promos=[] from rfl] at h1 h2 h3
   rw [show P0 [] o1=[] from List.perm_nil.1 ((A9N [] o1).trans h1.1),show P0 [] o2=[] from List.perm_nil.1 ((A9N [] o2).trans h2.1),show A0c spW spL [] []=⟨[50],50,0,[]⟩ by kernel_rfl] at h3
   exact h3
theorem B5u:A2C spW.tax spZ (N1 spW spL) [50] 0:=by
 refine ⟨by kernel_rfl,by kernel_rfl,by kernel_rfl,⟨by decide,fun x hx=>?_,by decide⟩,by decide⟩
 rw [D7i.1 hx];decide
theorem C2m (st:St):S P 60 [F7 spW,eS ⟨#[122]⟩,eB false,C7 [],A8 3 J1 spL] st fun v st'=>v=.tuple [A1e spQ,eI 0]∧st'=st:=by
 have hI:∀ st,S P 123 [A8 4 E9 spW.items,A8 3 J1 spL] st fun v s=>v=A8 4 E9 (C3 spW.items spL)∧s=st:=fun st=>A9w _ _ (by decide) (by decide) (fun x hx=>by rw [D7i.1 hx];kernel_rfl) st
 have h:=quote_S (r:=spW) (codes:=[]) (l:=spL) (Pr:=⟨[50],50,0,[]⟩) (z:=spZ) (zone:=⟨#[122]⟩) false C2l hI (by decide) B5u (by kernel_rfl) (fun st=>B5U spW.tax _ _ (by decide) (by kernel_rfl) (fun x hx=>(A3C B5u).2 x hx) st) (B3M B5u false) st
 rw [show A9M spW spZ false spL ⟨[50],50,0,[]⟩=spQ by kernel_rfl] at h
 exact h
theorem C2n:B4m 60 spW (spO 1) spQ 0:=⟨C2m,⟨by decide,fun x hx=>by rw [D7i.1 hx];decide⟩,⟨by decide,fun x hx=>by rw [D7i.1 hx];decide⟩⟩
set_option maxHeartbeats 2000000 in
theorem C0L (st:St):S P 32 [] st fun v st'=>v=.bool true∧st'=st:=by
 have n1:=fun s=>C9b spW (spO 2) 6 (spT 1) (B5t ..) (by decide) (C0t 2) (by decide) s
 have n2:=fun s=>C4o (spO 2) (spT 1) (C0t 2) (by decide) s
 have n3:=fun s=>B3V spW (spO 1) spQ 0 (B5t ..) (C0t 1) (fun _ _ _=>C2n) s
 have n4:=fun d s=>C4u spW (spO 2) d (spT 1) (B5t ..) (by decide) (C0t 2) (by decide) s
 rw [show B1D spW (spO 2) 6 (spT 1)=0 by kernel_rfl,show C3C spW (spO 2) 6 (spT 1)=5 by kernel_rfl] at n1
 rw [show A7G (spO 2) (spT 1)=0 by kernel_rfl,show B4t (spO 2) (spT 1)=spO 1 by kernel_rfl] at n2
 rw [show A7i spW (spO 1) spQ 0=(⟨50,5,0,0,0⟩,0) by kernel_rfl] at n3
 have n5:=n4 35
 have n6:=n4 36
 rw [show B1D spW (spO 2) 35 (spT 1)=0 by kernel_rfl] at n5
 rw [show B1D spW (spO 2) 36 (spT 1)=13 by kernel_rfl] at n6
 refine A0Q ?_
 refine A1S [] A7o mixed Tryz.func32 (by rfl) rfl rfl rfl ?_;conv=>whnf
 refine I2 (C9l _) ?_
 intro b1 hb1
 generalize hs:(upd st b1 _:St)=w
 have h:=D3.new' hs (A2j st) hb1
 clear hs hb1
 conv=>whnf
 intro b2 hb2
 generalize hs:(upd w b2 _:St)=w2
 have h:=D3.new' hs h hb2
 clear hs hb2
 conv=>whnf
 refine L5 h (.s .z) rfl rfl (by rfl) ?_;conv=>whnf
 intro w h;conv=>whnf
 refine L5 h .z rfl rfl (by rfl) ?_;conv=>whnf
 intro w h;conv=>whnf
 refine U6 h (.s .z) rfl Nat.one_pos rfl ?_;conv=>whnf
 refine U6 h .z rfl Nat.one_pos rfl ?_;conv=>whnf
 refine E5 (st':=w) ?_ (B3 (n1 w) ?_)
 ·refine A6.cons (A6.keep [_] _) (A6.cons (A6.keep [_] _) (A6.cons (A6.keep [_] _) (Le.shift (Le.arr1 ?_ rfl) _)))
  repeat' first | exact F0.nil | refine F0.cons ?_ ?_ | exact Le.refl _
 conv=>whnf
 refine U6 h .z rfl Nat.one_pos rfl ?_;conv=>whnf
 refine E5 (st':=w) ?_ (B3 (n2 w) ?_)
 ·refine A6.cons (A6.keep [_] _) (Le.shift (Le.arr1 ?_ rfl) _)
  repeat' first | exact F0.nil | refine F0.cons ?_ ?_ | exact Le.refl _
 conv=>whnf
 intro b6 hb6
 generalize hs:(upd w b6 _:St)=w6
 have h:=D3.new' hs h hb6
 clear hs hb6
 conv=>whnf
 refine L5 h .z rfl rfl (by rfl) ?_;conv=>whnf
 intro w h;conv=>whnf
 refine U6 h (.s (.s .z)) rfl Nat.one_pos rfl ?_;conv=>whnf
 refine U6 h .z rfl Nat.one_pos rfl ?_;conv=>whnf
 refine I2 (n3 _) ?_
 intro b8 hb8
 generalize hs:(upd w b8 _:St)=w8
 have h:=D3.new' hs h hb8
 clear hs hb8
 conv=>whnf
 refine L5 h .z rfl rfl (by rfl) ?_;conv=>whnf
 intro w h;conv=>whnf
 repeat' ((conv=>whnf);first | refine U6 h .z rfl Nat.one_pos rfl ?_ | refine U6 h (.s .z) rfl Nat.one_pos rfl ?_ | refine U6 h (.s (.s .z)) rfl Nat.one_pos rfl ?_ | refine U6 h (.s (.s (.s .z))) rfl Nat.one_pos rfl ?_ | refine E5 (st':=w) (A6.cons (A6.keep [_] _) (A6.cons (A6.keep [_] _) (A6.cons (A6.keep [_] _) (Le.shift (Le.arr1 (by repeat' first | exact F0.nil | refine F0.cons ?_ ?_ | exact Le.refl _) rfl) _)))) (B3 (n5 w) ?_) | refine E5 (st':=w) (A6.cons (A6.keep [_] _) (A6.cons (A6.keep [_] _) (A6.cons (A6.keep [_] _) (Le.shift (Le.arr1 (by repeat' first | exact F0.nil | refine F0.cons ?_ ?_ | exact Le.refl _) rfl) _)))) (B3 (n6 w) ?_) | refine ⟨rfl,⟨by decide,by decide⟩,?_⟩ | fail)
 conv=>whnf
 exact ⟨rfl,h.sup⟩
theorem B8D {st s:St} {M:List (Nat×K4)} {o:H3} {cv lv tv:AV} {bc bl bt jc jl jt:Nat} {fc fl ft:Nat→AV} (h:D3 st M s) (hcv:OV 1 bc o.codes.length cv) (hlv:OV 6 bl o.lines.length lv) (htv:OV 3 bt o.tenders.length tv)
  (kc:At M jc (bc,⟨9,1,o.codes.length,fc⟩)) (kl:At (M.eraseIdx jc) jl (bl,⟨55,6,o.lines.length,fl⟩)) (kt:At ((M.eraseIdx jc).eraseIdx jl) jt (bt,⟨70,3,o.tenders.length,ft⟩))
  (hc:∀ k,k<o.codes.length→fc k=eS (o.codes.getD k default)) (hl:∀ k,k<o.lines.length→fl k=V7 (o.lines.getD k default)) (ht:∀ k,k<o.tenders.length→ft k=V8 (o.tenders.getD k default)) :
  ∃ s',D3 st (((M.eraseIdx jc).eraseIdx jl).eraseIdx jt) s'∧A6 [.agg [eS o.id,eI o.rules,eS o.zone,eB o.exempt,cv,eI o.day,lv,eI o.ship,eI o.shipTax,eI o.fee,eI o.net,eI o.book.goods,eI o.book.tax,eI o.book.ship,eI o.book.shipTax,eI o.book.fee,tv]] s [O7 o] s':=by
 obtain ⟨s1,h,k1⟩:=h.frz kc hcv
 obtain ⟨s2,h,k2⟩:=h.frz kl hlv
 obtain ⟨s3,h,k3⟩:=h.frz kt htv
 refine ⟨s3,h,A6.agg ?_⟩
 iterate 4 refine A6.cons (A6.keep [_] _) ?_
 refine A6.cons (k1.trans (A6.arr hc)) (A6.cons (A6.keep [_] _) (A6.cons (k2.trans (A6.arr hl)) ?_))
 iterate 9 refine A6.cons (A6.keep [_] _) ?_
 exact k3.trans (A6.arr ht)
theorem C7u {id zone:C8} {set day:Int} {C:List C8} {L:List E8} {Q:U5} {b:A1v} {pays:List Pay} (exempt:Bool) (hi:Sm id.size) (hz:D1 zone=true) (hC:C.length≤3) (hs:∀ s∈C,s.size≤12) (hl:L.length≤8) (hL:∀ x∈L,D1 x.sku=true) (hp:pays.length≤3):A5R (A5F id zone set exempt C day L Q b pays):=by
 have hz:=T9 hz
 refine ⟨hi,by show zone.size≤9223372036854775807;omega,by show C.length≤9223372036854775807;omega,fun c hc=>by have:=hs c hc;show c.size≤9223372036854775807;omega,by show (P3 L Q).length≤_;unfold P3;rw [D6J,D7g];omega,fun x hx=>?_,by show (pays.map A1R).length≤_;rw [D6J];omega⟩
 obtain ⟨i,hi,rfl⟩:=D6Z.1 (show x∈(List.range L.length).map (A3s L Q) from hx)
 have:=T9 (hL _ (A7 (D6T.1 hi)))
 show (L.getD i default).sku.size≤9223372036854775807
 omega
set_option maxHeartbeats 4000000 in
theorem B5a (s:B2W) (mode:Int) (st:St):S P 8 [B1r s,eI mode] st fun v st'=>v=.bool true:=by
 obtain ⟨L,Q,hO,hRm,hQ⟩:=C2d s
 have hid:D1 ⟨#[111]⟩=true:=by kernel_rfl
 have hD:=C9 s.day (n:=20) (by decide)
 have hM:=C9 mode (n:=3) (by decide)
 have nF:=fun u=>C2c s u
 have nA:=fun u=>C0L u
 have cO:=fun hF u=>C4m s hO hF u
 have cM:=fun u=>A0f mode 3 (by decide) (by decide) u
 have hmm:1≤1+B5 mode 3∧1+B5 mode 3≤3:=by omega
 have hT:=B7k hO.right hmm hO.sold hO.len hO.line (id:=⟨#[111]⟩) (zone:=Q1 s) (set:=1) (day:=10+B5 s.day 20) s.exempt hid hO.zone ⟨by decide,by decide⟩ ⟨by omega,by omega⟩ hO.codes hO.paid
 have hsm:=C7u (id:=⟨#[111]⟩) (set:=1) (day:=10+B5 s.day 20) (Q:=Q) (b:=T4 Q) s.exempt (by decide:Sm 1) hO.zone hO.ncodes hO.scodes hO.len.2 (fun x hx=>(hO.line x hx).1) hO.npays
 have cT:=fun u=>B3V (B1G (G4 s.rules) (1+B5 mode 3)) (A5F ⟨#[111]⟩ (Q1 s) 1 s.exempt (I1 s.codes) (10+B5 s.day 20) L Q (T4 Q) (Q0 Q.total s.pays)) Q 0 ⟨hO.fit.promos,hO.fit.fit,hO.fit.order,hO.fit.credit⟩ hsm (fun _ _ _=>hQ _ hmm _ _ _ _) u
 rw [hT] at cT
 have hl:=hO.len
 have hw:IntKind.i64.wrap (1+B5 mode 3)=1+B5 mode 3:=A5 (by omega) (by omega)
 clear hT hsm hQ hO
 generalize G4 s.rules=R at *
 generalize Q1 s=Z at *
 generalize I1 s.codes=C at *
 generalize Q0 Q.total s.pays=PP at *
 generalize 10+B5 s.day 20=D at *
 generalize B5 mode 3=M at *
 refine A1S [2] A7o mixed Tryz.func8 (by rfl) rfl rfl rfl ?_;conv=>whnf
 refine I2 (nF _) ?_
 cases hF:A6T s
 ·conv=>whnf
  refine I2 (nA _) ?_
  exact rfl
 conv=>whnf
 refine call (cO hF _) (fun v w hv=>?_)
 obtain ⟨o,rfl,cv,lv,tv,bc,bl,bt,h,hcv,hlv,htv,rfl⟩:=hv
 conv=>whnf
 intro b5 hb5
 generalize hs:(upd w b5 _:St)=w2
 have h:=D3.new' hs h hb5
 clear hs hb5
 conv=>whnf
 intro b6 hb6
 generalize hs:(upd w2 b6 _:St)=w
 have h:=D3.new' hs h hb6
 clear hs hb6
 conv=>whnf
 refine L5 h (.s .z) rfl rfl (by rfl) ?_;conv=>whnf
 intro w h;conv=>whnf
 refine L5 h .z rfl rfl (B7R (by rfl) (by simp only [cellsOf,List.all_cons,hcv.one,hlv.one,htv.one];rfl)) ?_;conv=>whnf
 intro w h;conv=>whnf
 refine I2 (cM _) ?_
 rw [hw]
 refine L5 h (.s .z) rfl rfl (by rfl) ?_;conv=>whnf
 intro w h;conv=>whnf
 refine U6 h (.s .z) rfl Nat.one_pos rfl ?_;conv=>whnf
 refine U6 h .z rfl Nat.one_pos rfl ?_;conv=>whnf
 obtain ⟨w3,h3,hsh⟩:=B8D (o:=A5F ⟨#[111]⟩ Z 1 s.exempt C D L Q (T4 Q) PP) (jc:=4) (jl:=2) (jt:=2) (fl:=fun k=>V7 ((P3 L Q).getD k default)) (ft:=fun k=>V8 ((PP.map A1R).getD k default)) (fc:=fun k=>eS (C.getD k default)) h hcv (by show OV 6 bl (P3 L Q).length lv;unfold P3;rw [D6J,D7g];exact hlv)
  (by show OV 3 bt (PP.map A1R).length tv;rw [D6J];exact htv) (.s (.s (.s (.s .z)))) (by show At _ _ (bl,(⟨55,6,(P3 L Q).length,_⟩:K4));rw [show (P3 L Q).length=L.length by unfold P3;rw [D6J,D7g]];exact .s (.s .z)) (by show At _ _ (bt,(⟨70,3,(PP.map A1R).length,_⟩:K4));rw [D6J];exact .s (.s .z)) (fun k hk=>rfl) (fun k hk=>rfl) (fun k hk=>rfl)
 clear h hcv hlv htv
 refine E5 (args':=[F7 (B1G R (1+M)),O7 (A5F ⟨#[111]⟩ Z 1 s.exempt C D L Q (T4 Q) PP)]) (st':=w3) (A6.cons (A6.keep [_] _) hsh) (B3 (cT _) ?_);conv=>whnf
 intro b7 hb7
 generalize hs:(upd w3 b7 _:St)=w4
 have h:=D3.new' hs h3 hb7
 clear hs hb7
 conv=>whnf
 refine L5 h .z rfl rfl (by rfl) ?_;conv=>whnf
 intro w h;conv=>whnf
 refine I2 (nA _) ?_
 refine U6 h .z rfl Nat.one_pos rfl ?_;conv=>whnf
 refine U6 h (.s .z) rfl Nat.one_pos rfl ?_;conv=>whnf
 simp only [D8S,D7u]
 exact rfl
end Go.Proofs.YtaapofnkmpiknaaGreat
namespace Go.Ab
open Go Go.ChangeShapes
inductive LK where
 | bool
 | int (k:IntKind)
 | str
 | sl (ks:List LK)
def B3t (l:List AV):AV:=match l with | [v]=>v | l=>.agg l
inductive Fit:LK→AV→Prop
 | bool (b:Bool):Fit .bool (.bool b)
 | int (k:IntKind) (n:Int) (h:(Lit.int k n).wf=true):Fit (.int k) (.int k n)
 | str (s:ByteArray) (h:s.size≤maxLen):Fit .str (.str s)
 | sl (ks:List LK) (n:Nat) (L:Nat→List AV) (hn:n≤maxLen) (hl:∀ i,i<n→(L i).length=ks.length) (hf:∀ (i j:Nat) (y:AV) (k:LK),i<n→(L i)[j]?=some y→ks[j]?=some k→Fit k y):Fit (.sl ks) (.arr ks.length n fun i=>B3t (L i))
theorem Fit.one {k:LK} {v:AV} (h:Fit k v):v.one=true:=by cases h<;>rfl
theorem C0R {v:AV} (h:v.one=true):cellsOf v=[v]:=by cases v<;>first | rfl | cases h
theorem B3y {l:List AV} (h:∀ v∈l,v.one=true):cellsOf (B3t l)=l:=by
 unfold B3t
 split
 ·exact C0R (h _ (D7i.2 rfl))
 ·rfl
theorem C3d (a:Addr) (n m:Nat):a.add (n+m)=(a.add n).add m:=by
 unfold Addr.add
 by_cases h:n=0
 ·subst h;simp
 ·by_cases k:m=0
  ·subst k;simp [h]
  ·simp [h,k,D9m]
def B0E (P:Program) (r:TypeId→Option (List LK)):List Field→Nat→Option (List LK)
 | [],_=>some []
 | f::fs,o=>match Nat.beq f.offset o,r f.type with
  | true,some ks=>(match Nat.beq (P.cellsOf f.type) ks.length,B0E P r fs (o+ks.length) with
   | true,some l=>some (ks++l)
   | _,_=>none)
  | _,_=>none
def A6V (P:Program):Nat→TypeId→Option (List LK)
 | 0,_=>none
 | n+1,t=>match P.underlying t with
  | some .bool=>some [.bool]
  | some (.int k)=>some [.int k]
  | some .string=>some [.str]
  | some (.slice e)=>(match A6V P n e with
   | some ks=>(match Nat.beq (P.cellsOf e) ks.length with | true=>some [.sl ks] | false=>none)
   | none=>none)
  | some (.struct fs)=>(match B0E P (A6V P n) fs.toList 0 with
   | some ks=>(match Nat.beq (P.cellsOf t) ks.length with | true=>some ks | false=>none)
   | none=>none)
  | _=>none
structure FitL (w:World) (ks:List LK) (l:List AV) (cs:List Value):Prop where
 len:l.length=ks.length
 clen:cs.length=ks.length
 fit:∀ (j:Nat) (y:AV) (k:LK),l[j]?=some y→ks[j]?=some k→Fit k y
 rep:∀ (j:Nat) (y:AV) (c:Value),l[j]?=some y→cs[j]?=some c→M0 w st0 y c
theorem FitL.one {w:World} {ks:List LK} {l:List AV} {cs:List Value} (h:FitL w ks l cs):∀ v∈l,v.one=true:=fun v hv=>by
 obtain ⟨j,hj,rfl⟩:=D8D hv
 exact (h.fit j _ (ks[j]'(by rw [←h.len];exact hj)) (D6K hj) (D6K (by rw [←h.len];exact hj))).one
theorem FitL.nil (w:World):FitL w [] [] []:=⟨rfl,rfl,fun j y k h=>by simp at h,fun j y c h=>by simp at h⟩
theorem FitL.app {w:World} {ks ks':List LK} {l l':List AV} {cs cs':List Value} (h:FitL w ks l cs) (h':FitL w ks' l' cs'):FitL w (ks++ks') (l++l') (cs++cs'):=by
 have h1:=h.len;have h2:=h.clen;have h3:=h'.len;have h4:=h'.clen
 refine ⟨by simp [h1,h3],by simp [h2,h4],fun j y k hy hk=>?_,fun j y c hy hc=>?_⟩
 ·by_cases hj:j<l.length
  ·rw [D7b hj] at hy;rw [D7b (by omega)] at hk;exact h.fit j y k hy hk
  ·rw [D7a (by omega)] at hy;rw [D7a (by omega)] at hk
   rw [show j - l.length=j - ks.length by omega] at hy;exact h'.fit _ y k hy hk
 ·by_cases hj:j<l.length
  ·rw [D7b hj] at hy;rw [D7b (by omega)] at hc;exact h.rep j y c hy hc
  ·rw [D7a (by omega)] at hy;rw [D7a (by omega)] at hc
   rw [show j - l.length=j - cs.length by omega] at hy;exact h'.rep _ y c hy hc
theorem FitL.single {w:World} {k:LK} {v:AV} {c:Value} (h:Fit k v) (hr:M0 w st0 v c):FitL w [k] [v] [c] :=
 ⟨rfl,rfl,fun j y k' hy hk=>by cases j<;>simp at hy hk;subst hy;subst hk;exact h,fun j y c' hy hc=>by cases j<;>simp at hy hc;subst hy;subst hc;exact hr⟩
section
variable {H:Type} {enc:TypeId×Value→H} {P:Program} {w:World} {base:Nat} {spare:Nat→Bool} {held:Bool}
theorem B0d {n m:Nat} (ih:∀ (t:TypeId) (ks:List LK) (cs:List Value) (x:DataW H×List MemPlace),A6V P n t=some ks→DataW.trod enc P w base spare held m t cs=some x→∃ l,FitL w ks l cs) {cs:List Value} :
  ∀ (fs:List Field) (o:Nat) (ks:List LK),B0E P (A6V P n) fs o=some ks→(∀ f∈fs,∃ x,DataW.trod enc P w base spare held m f.type ((cs.drop f.offset).take (P.cellsOf f.type))=some x)→∃ l,FitL w ks l ((cs.drop o).take ks.length)
 | [],o,ks,h,_=>by cases h;exact ⟨[],by simpa using FitL.nil w⟩
 | f::fs,o,ks,h,hx=>by
  unfold B0E at h
  split at h
  ·rename_i k1 ho hk1
   split at h
   ·rename_i k2 hc hk2
    cases h
    have ho:=D8B ho
    have hc:=D8B hc
    obtain ⟨x,h1⟩:=hx f (D7f ..)
    rw [ho,hc] at h1
    obtain ⟨l1,g1⟩:=ih f.type k1 _ x hk1 h1
    obtain ⟨l2,g2⟩:=B0d ih fs (o+k1.length) k2 hk2 fun f' hf=>hx f' (D7d _ hf)
    refine ⟨l1++l2,?_⟩
    have e:(cs.drop o).take (k1++k2).length=(cs.drop o).take k1.length++(cs.drop (o+k1.length)).take k2.length:=by
     rw [D6P,List.take_add,List.drop_drop]
    rw [e];exact g1.app g2
   ·cases h
  ·cases h
theorem open_kinds:∀ (n m:Nat) (t:TypeId) (ks:List LK) (cs:List Value) (x:DataW H×List MemPlace),A6V P n t=some ks→DataW.trod enc P w base spare held m t cs=some x→∃ l,FitL w ks l cs
 | 0,m,t,ks,cs,x,h,_=>by cases h
 | n+1,m,t,ks,cs,x,h,hx=>by
  unfold A6V at h
  split at h
  ·rename_i ht;cases h;obtain ⟨b,rfl,_⟩:=DataW.trod_bool ht hx;exact ⟨[.bool b],.single (.bool b) (.bool b)⟩
  ·rename_i k ht;cases h;obtain ⟨i,rfl,_,hw⟩:=DataW.trod_int ht hx;exact ⟨[.int k i],.single (.int k i hw) (.int k i)⟩
  ·rename_i ht;cases h;obtain ⟨s,rfl,_,hs⟩:=DataW.trod_string ht hx;exact ⟨[.str s],.single (.str s hs) (.str s)⟩
  ·rename_i e ht
   split at h
   case h_2=>cases h
   rename_i ks' hk
   split at h
   case h_2=>cases h
   rename_i hb
   cases h
   have hb:=D8B hb
   rcases DataW.trod_slice ht hx with ⟨rfl,_⟩ | ⟨a,len,cap,elems,rest,m',rfl,rfl,_,hba,hl,hm,hlen,hel,_,_⟩
   ·exact ⟨[.arr ks'.length 0 (fun _=>B3t [])],.single (.sl ks' 0 (fun _=>[]) (D7e _) (fun i hi=>absurd hi (by omega)) (fun i j y k hi=>absurd hi (by omega))) (.arr _ 0 _ none 0 (fun _ _=>undef) (D6M _) (fun h=>absurd h (by omega)) (fun i hi=>absurd hi (by omega)) (fun i hi=>absurd hi (by omega)) (fun a ha=>by cases ha) (fun i j y hi=>absurd hi (by omega)))⟩
   ·have hall:∀ i,∃ p:List AV×List Value,i<len→w.cells? base (a.add (i * P.cellsOf e)) (P.cellsOf e)=some p.2∧FitL w ks' p.1 p.2:=fun i=>by
     by_cases hi:i<len
     ·have h1:=hel i hi
      rw [D6K (by omega),D7P] at h1
      obtain ⟨c1,h2,h3⟩:=h1
      obtain ⟨l,h4⟩:=open_kinds n m' e ks' c1 _ hk h3
      exact ⟨(l,c1),fun _=>⟨h2,h4⟩⟩
     ·exact ⟨([],[]),fun h=>absurd h hi⟩
    obtain ⟨p,hp⟩:=Classical.axiomOfChoice hall
    refine ⟨[.arr ks'.length len (fun i=>B3t (p i).1)],.single (.sl ks' len (fun i=>(p i).1) (by omega) (fun i hi=>(hp i hi).2.len) (fun i j y k hi=>(hp i hi).2.fit j y k)) ?_⟩
    have hc:∀ i,i<len→cellsOf (B3t (p i).1)=(p i).1:=fun i hi=>B3y (hp i hi).2.one
    refine .arr _ len _ (some a) cap (fun i j=>(p i).2.getD j undef) hl (fun _=>⟨a,rfl⟩) (fun i hi=>by rw [hc i hi];exact (hp i hi).2.len) (fun i hi=>by rw [hc i hi];exact D6W.2 (hp i hi).2.one) (fun b hb' i j hi hj=>?_) (fun i j y hi hy=>?_)
    ·cases hb'
     have h5:=(World.cells?_some (hp i hi).1)
     have h6:=h5.2.2 j (by omega)
     have hj2:j<(p i).2.length:=by rw [(hp i hi).2.clen];exact hj
     show w.cell? _=_
     rw [D6D,D6K hj2,Option.getD_some]
     rw [D6K hj2] at h6
     rw [←h6,hb];show w.cell? _=w.cell? _;rw [C3d]
    ·rw [hc i hi] at hy
     have hj:j<(p i).1.length:=(D6U.1 hy).1
     have hj2:j<(p i).2.length:=by rw [(hp i hi).2.clen,←(hp i hi).2.len];exact hj
     rw [D6D,D6K hj2,Option.getD_some]
     exact (hp i hi).2.rep j y _ hy (D6K hj2)
  ·rename_i fs ht
   split at h
   case h_2=>cases h
   rename_i ks' hk
   split at h
   case h_2=>cases h
   rename_i hb
   cases h
   have hb:=D8B hb
   obtain ⟨xs,m',rfl,_,hlen,hxl,hf⟩:=DataW.trod_struct ht hx
   obtain ⟨l,hl⟩:=B0d (fun t ks cs x=>open_kinds n m' t ks cs x) (cs:=cs) fs.toList 0 ks hk fun f hfm=>by
    obtain ⟨i,hi,rfl⟩:=D8D hfm
    have:=hf i fs[i] (by simp at hi;simp [hi])
    rw [D6K (by simp at hi;omega)] at this
    exact ⟨_,by simpa using this⟩
   refine ⟨l,?_⟩
   rw [List.drop_zero,D8v (by omega)] at hl
   exact hl
  ·cases h
end
end Go.Ab
namespace Go.Ab
open Go
abbrev A7z (ks:List LK) (L:List AV):Prop:=L.length=ks.length∧∀ (j:Nat) (y:AV) (k:LK),L[j]?=some y→ks[j]?=some k→Fit k y
abbrev A9e {α : Type} (ks:List LK) (enc : α→AV) (Q : α→Prop):Prop:=∀ L:List AV,A7z ks L→∃ x,F0 L (cellsOf (enc x))∧(cellsOf (enc x)).all AV.one=true∧Q x
theorem Fit.inv_str {y:AV} (h:Fit .str y):∃ s:C8,y=eS s∧s.size≤maxLen:=by cases h with | str s hs=>exact ⟨s,rfl,hs⟩
theorem Fit.inv_int {y:AV} (h:Fit (.int .i64) y):∃ n:Int,y=eI n∧(Lit.int .i64 n).wf=true:=by cases h with | int k n hn=>exact ⟨n,rfl,hn⟩
theorem Fit.inv_bool {y:AV} (h:Fit .bool y):∃ b:Bool,y=eB b:=by cases h with | bool b=>exact ⟨b,rfl⟩
theorem Fit.inv_sl {α : Type} [Inhabited α] {ks:List LK} {y:AV} {enc : α→AV} {Q : α→Prop} (hd:A9e ks enc Q) (h:Fit (.sl ks) y) :
  ∃ l:List α,Le y (A8 ks.length enc l)∧l.length≤maxLen∧∀ x∈l,Q x:=by
 cases h with
 | sl ks n L hn hl hf =>
  have h1:∀ i,∃ x,i<n→F0 (L i) (cellsOf (enc x))∧(cellsOf (enc x)).all AV.one=true∧Q x:=fun i=>by
   by_cases hi:i<n
   ·obtain ⟨x,hx⟩:=hd (L i) ⟨hl i hi,fun j y k=>hf i j y k hi⟩
    exact ⟨x,fun _=>hx⟩
   ·exact ⟨default,fun h=>absurd h hi⟩
  obtain ⟨g,hg⟩:=Classical.axiomOfChoice h1
  have hlen:((List.range n).map g).length=n:=by rw [D6J,D7g]
  refine ⟨(List.range n).map g,?_,by rw [hlen];exact hn,fun x hx=>?_⟩
  ·unfold A8
   rw [hlen]
   refine Le.arr fun i hi=>?_
   have e:((List.range n).map g).getD i default=g i:=by
    rw [D6D,D7C,D8i hi];rfl
   have one:∀ v∈L i,v.one=true:=fun v hv=>by
    obtain ⟨j,hj,rfl⟩:=D8D hv
    exact (hf i j _ (ks[j]'(by rw [←hl i hi];exact hj)) hi (D6K hj) (D6K (by rw [←hl i hi];exact hj))).one
   rw [e,B3y one]
   exact ⟨(hg i hi).1,(hg i hi).2.1⟩
  ·obtain ⟨i,hi,rfl⟩:=D6Z.1 hx
   exact (hg i (D6T.1 hi)).2.2
theorem FitL.slice {α : Type} [Inhabited α] {w:World} {ks:List LK} {l:List AV} {c:Value} {enc : α→AV} {Q : α→Prop} (hd:A9e ks enc Q) (h:FitL w [.sl ks] l [c]) :
  ∃ x:List α,M0 w st0 (A8 ks.length enc x) c∧x.length≤maxLen∧∀ y∈x,Q y:=by
 obtain ⟨y,rfl⟩:=List.length_eq_one_iff.1 h.len
 obtain ⟨x,h1,h2,h3⟩:=(h.fit 0 y (.sl ks) rfl rfl).inv_sl hd
 exact ⟨x,h1 _ _ _ (h.rep 0 y c rfl rfl),h2,h3⟩
theorem C7R {k0:LK} {L:List AV} (h:A7z [k0] L):∃ x0,L=[x0]∧Fit k0 x0:=by
 obtain ⟨h1,h2⟩:=h
 match L,h1 with
 | [x0],_=>exact ⟨x0,rfl,h2 0 _ _ rfl rfl⟩
theorem C3F {k0 k1:LK} {L:List AV} (h:A7z [k0,k1] L):∃ x0 x1,L=[x0,x1]∧Fit k0 x0∧Fit k1 x1:=by
 obtain ⟨h1,h2⟩:=h
 match L,h1 with
 | [x0,x1],_=>exact ⟨x0,x1,rfl,h2 0 _ _ rfl rfl,h2 1 _ _ rfl rfl⟩
theorem C7S {k0 k1 k2:LK} {L:List AV} (h:A7z [k0,k1,k2] L):∃ x0 x1 x2,L=[x0,x1,x2]∧Fit k0 x0∧Fit k1 x1∧Fit k2 x2:=by
 obtain ⟨h1,h2⟩:=h
 match L,h1 with
 | [x0,x1,x2],_=>exact ⟨x0,x1,x2,rfl,h2 0 _ _ rfl rfl,h2 1 _ _ rfl rfl,h2 2 _ _ rfl rfl⟩
theorem C7T {k0 k1 k2 k3:LK} {L:List AV} (h:A7z [k0,k1,k2,k3] L):∃ x0 x1 x2 x3,L=[x0,x1,x2,x3]∧Fit k0 x0∧Fit k1 x1∧Fit k2 x2∧Fit k3 x3:=by
 obtain ⟨h1,h2⟩:=h
 match L,h1 with
 | [x0,x1,x2,x3],_=>exact ⟨x0,x1,x2,x3,rfl,h2 0 _ _ rfl rfl,h2 1 _ _ rfl rfl,h2 2 _ _ rfl rfl,h2 3 _ _ rfl rfl⟩
theorem C8K {k0 k1 k2 k3 k4 k5 k6 k7 k8 k9 k10 k11 k12 k13 k14:LK} {L:List AV} (h:A7z [k0,k1,k2,k3,k4,k5,k6,k7,k8,k9,k10,k11,k12,k13,k14] L):∃ x0 x1 x2 x3 x4 x5 x6 x7 x8 x9 x10 x11 x12 x13 x14,L=[x0,x1,x2,x3,x4,x5,x6,x7,x8,x9,x10,x11,x12,x13,x14]∧Fit k0 x0∧Fit k1 x1∧Fit k2 x2∧Fit k3 x3∧Fit k4 x4∧Fit k5 x5∧Fit k6 x6∧Fit k7 x7∧Fit k8 x8∧Fit k9 x9∧Fit k10 x10∧Fit k11 x11∧Fit k12 x12∧Fit k13 x13∧Fit k14 x14:=by
 obtain ⟨h1,h2⟩:=h
 match L,h1 with
 | [x0,x1,x2,x3,x4,x5,x6,x7,x8,x9,x10,x11,x12,x13,x14],_=>exact ⟨x0,x1,x2,x3,x4,x5,x6,x7,x8,x9,x10,x11,x12,x13,x14,rfl,h2 0 _ _ rfl rfl,h2 1 _ _ rfl rfl,h2 2 _ _ rfl rfl,h2 3 _ _ rfl rfl,h2 4 _ _ rfl rfl,h2 5 _ _ rfl rfl,h2 6 _ _ rfl rfl,h2 7 _ _ rfl rfl,h2 8 _ _ rfl rfl,h2 9 _ _ rfl rfl,h2 10 _ _ rfl rfl,h2 11 _ _ rfl rfl,h2 12 _ _ rfl rfl,h2 13 _ _ rfl rfl,h2 14 _ _ rfl rfl⟩
abbrev QT {α : Type} (_ : α):Prop:=True
abbrev C1h:List LK:=[.str]
theorem B1q:A9e C1h eS QT:=fun L h=>by
 obtain ⟨a,rfl,ha⟩:=C7R h
 obtain ⟨a,rfl,_⟩:=ha.inv_str
 exact ⟨a,F0.refl _,rfl,trivial⟩
abbrev C8O:List LK:=[.int .i64]
theorem C3v:A9e C8O eI QT:=fun L h=>by
 obtain ⟨a,rfl,ha⟩:=C7R h
 obtain ⟨a,rfl,_⟩:=ha.inv_int
 exact ⟨a,F0.refl _,rfl,trivial⟩
abbrev C7Y:List LK:=[.int .i64,.int .i64,.int .i64]
theorem C6e:A9e C7Y R9 QT:=fun L h=>by
 obtain ⟨a0,a1,a2,rfl,h0,h1,h2⟩:=C7S h
 obtain ⟨a0,rfl,_⟩:=h0.inv_int
 obtain ⟨a1,rfl,_⟩:=h1.inv_int
 obtain ⟨a2,rfl,_⟩:=h2.inv_int
 exact ⟨⟨a0,a1,a2⟩,F0.cons (Le.refl _) (F0.cons (Le.refl _) (F0.cons (Le.refl _) (F0.nil))),rfl,trivial⟩
abbrev C7X:List LK:=[.sl C1h,.sl C1h,.int .i64]
theorem C6c:A9e C7X W6 QT:=fun L h=>by
 obtain ⟨a0,a1,a2,rfl,h0,h1,h2⟩:=C7S h
 obtain ⟨b0,e0,_,_⟩:=h0.inv_sl B1q
 obtain ⟨b1,e1,_,_⟩:=h1.inv_sl B1q
 obtain ⟨a2,rfl,_⟩:=h2.inv_int
 exact ⟨⟨⟨b0,b1⟩,a2⟩,F0.cons (e0) (F0.cons (e1) (F0.cons (Le.refl _) (F0.nil))),rfl,trivial⟩
abbrev C7W:List LK:=[.str,.str,.int .i64,.bool]
theorem C6b:A9e C7W E9 QT:=fun L h=>by
 obtain ⟨a0,a1,a2,a3,rfl,h0,h1,h2,h3⟩:=C7T h
 obtain ⟨a0,rfl,_⟩:=h0.inv_str
 obtain ⟨a1,rfl,_⟩:=h1.inv_str
 obtain ⟨a2,rfl,_⟩:=h2.inv_int
 obtain ⟨a3,rfl⟩:=h3.inv_bool
 exact ⟨⟨a0,a1,a2,a3⟩,F0.cons (Le.refl _) (F0.cons (Le.refl _) (F0.cons (Le.refl _) (F0.cons (Le.refl _) (F0.nil)))),rfl,trivial⟩
abbrev B6l:List LK:=[.str,.int .i64]
theorem B8a:A9e B6l A0U QT:=fun L h=>by
 obtain ⟨a0,a1,rfl,h0,h1⟩:=C3F h
 obtain ⟨a0,rfl,_⟩:=h0.inv_str
 obtain ⟨a1,rfl,_⟩:=h1.inv_int
 exact ⟨⟨a0,a1⟩,F0.cons (Le.refl _) (F0.cons (Le.refl _) (F0.nil)),rfl,trivial⟩
abbrev C7Z:List LK:=[.str,.sl B6l,.int .i64,.int .i64]
theorem C6f:A9e C7Z S3 QT:=fun L h=>by
 obtain ⟨a0,a1,a2,a3,rfl,h0,h1,h2,h3⟩:=C7T h
 obtain ⟨a0,rfl,_⟩:=h0.inv_str
 obtain ⟨b1,e1,_,_⟩:=h1.inv_sl B8a
 obtain ⟨a2,rfl,_⟩:=h2.inv_int
 obtain ⟨a3,rfl,_⟩:=h3.inv_int
 exact ⟨⟨a0,b1,a2,a3⟩,F0.cons (Le.refl _) (F0.cons (e1) (F0.cons (Le.refl _) (F0.cons (Le.refl _) (F0.nil)))),rfl,trivial⟩
abbrev C3P:List LK:=[.str,.int .i64,.int .i64,.str,.str,.bool,.sl C1h,.sl C1h,.int .i64,.int .i64,.int .i64,.int .i64,.int .i64,.sl C7X,.sl C7Y]
theorem C3w:A9e C3P B7 QT:=fun L h=>by
 obtain ⟨a0,a1,a2,a3,a4,a5,a6,a7,a8,a9,a10,a11,a12,a13,a14,rfl,h0,h1,h2,h3,h4,h5,h6,h7,h8,h9,h10,h11,h12,h13,h14⟩:=C8K h
 obtain ⟨a0,rfl,_⟩:=h0.inv_str
 obtain ⟨a1,rfl,_⟩:=h1.inv_int
 obtain ⟨a2,rfl,_⟩:=h2.inv_int
 obtain ⟨a3,rfl,_⟩:=h3.inv_str
 obtain ⟨a4,rfl,_⟩:=h4.inv_str
 obtain ⟨a5,rfl⟩:=h5.inv_bool
 obtain ⟨b6,e6,_,_⟩:=h6.inv_sl B1q
 obtain ⟨b7,e7,_,_⟩:=h7.inv_sl B1q
 obtain ⟨a8,rfl,_⟩:=h8.inv_int
 obtain ⟨a9,rfl,_⟩:=h9.inv_int
 obtain ⟨a10,rfl,_⟩:=h10.inv_int
 obtain ⟨a11,rfl,_⟩:=h11.inv_int
 obtain ⟨a12,rfl,_⟩:=h12.inv_int
 obtain ⟨b13,e13,_,_⟩:=h13.inv_sl C6c
 obtain ⟨b14,e14,_,_⟩:=h14.inv_sl C6e
 exact ⟨⟨a0,a1,a2,a3,a4,a5,⟨b6,b7⟩,a8,a9,a10,a11,a12,b13,b14⟩,F0.cons (Le.refl _) (F0.cons (Le.refl _) (F0.cons (Le.refl _) (F0.cons (Le.refl _) (F0.cons (Le.refl _) (F0.cons (Le.refl _) (F0.cons (e6) (F0.cons (e7) (F0.cons (Le.refl _) (F0.cons (Le.refl _) (F0.cons (Le.refl _) (F0.cons (Le.refl _) (F0.cons (Le.refl _) (F0.cons (e13) (F0.cons (e14) (F0.nil))))))))))))))),rfl,trivial⟩
end Go.Ab
namespace Go.Ab
open Go Go.Proofs.YtaapofnkmpiknaaGreat
abbrev C9V:List LK:=[.str,.int .i64]
theorem C8E:A9e C9V A8s QT:=fun L h=>by
 obtain ⟨a0,a1,rfl,h0,h1⟩:=C3F h
 obtain ⟨a0,rfl,_⟩:=h0.inv_str
 obtain ⟨a1,rfl,_⟩:=h1.inv_int
 exact ⟨⟨a0,a1⟩,F0.refl _,rfl,trivial⟩
theorem C8L {k0 k1 k2 k3 k4 k5 k6 k7 k8 k9 k10 k11 k12 k13 k14 k15 k16 k17 k18 k19:LK} {L:List AV} (h:A7z [k0,k1,k2,k3,k4,k5,k6,k7,k8,k9,k10,k11,k12,k13,k14,k15,k16,k17,k18,k19] L):∃ x0 x1 x2 x3 x4 x5 x6 x7 x8 x9 x10 x11 x12 x13 x14 x15 x16 x17 x18 x19,L=[x0,x1,x2,x3,x4,x5,x6,x7,x8,x9,x10,x11,x12,x13,x14,x15,x16,x17,x18,x19]∧Fit k0 x0∧Fit k1 x1∧Fit k2 x2∧Fit k3 x3∧Fit k4 x4∧Fit k5 x5∧Fit k6 x6∧Fit k7 x7∧Fit k8 x8∧Fit k9 x9∧Fit k10 x10∧Fit k11 x11∧Fit k12 x12∧Fit k13 x13∧Fit k14 x14∧Fit k15 x15∧Fit k16 x16∧Fit k17 x17∧Fit k18 x18∧Fit k19 x19:=by
 obtain ⟨h1,h2⟩:=h
 match L,h1 with
 | [x0,x1,x2,x3,x4,x5,x6,x7,x8,x9,x10,x11,x12,x13,x14,x15,x16,x17,x18,x19],_=>exact ⟨x0,x1,x2,x3,x4,x5,x6,x7,x8,x9,x10,x11,x12,x13,x14,x15,x16,x17,x18,x19,rfl,h2 0 _ _ rfl rfl,h2 1 _ _ rfl rfl,h2 2 _ _ rfl rfl,h2 3 _ _ rfl rfl,h2 4 _ _ rfl rfl,h2 5 _ _ rfl rfl,h2 6 _ _ rfl rfl,h2 7 _ _ rfl rfl,h2 8 _ _ rfl rfl,h2 9 _ _ rfl rfl,h2 10 _ _ rfl rfl,h2 11 _ _ rfl rfl,h2 12 _ _ rfl rfl,h2 13 _ _ rfl rfl,h2 14 _ _ rfl rfl,h2 15 _ _ rfl rfl,h2 16 _ _ rfl rfl,h2 17 _ _ rfl rfl,h2 18 _ _ rfl rfl,h2 19 _ _ rfl rfl⟩
abbrev C9W:List LK:=[.int .i64,.int .i64]
theorem C8F:A9e C9W B8b QT:=fun L h=>by
 obtain ⟨a0,a1,rfl,h0,h1⟩:=C3F h
 obtain ⟨a0,rfl,_⟩:=h0.inv_int
 obtain ⟨a1,rfl,_⟩:=h1.inv_int
 exact ⟨⟨a0,a1⟩,F0.refl _,rfl,trivial⟩
abbrev kSale:List LK:=[.sl C7W,.sl C3P,.bool,.bool,.int .i64,.sl C7Z,.int .i64,.int .i64,.int .i64,.int .i64,.int .i64,.int .i64,.sl C8O,.sl C8O,.int .i64,.bool,.sl C1h,.sl C9V,.sl C9W,.int .i64]
theorem C6d:A9e kSale B1r QT:=fun L h=>by
 obtain ⟨a0,a1,a2,a3,a4,a5,a6,a7,a8,a9,a10,a11,a12,a13,a14,a15,a16,a17,a18,a19,rfl,h0,h1,h2,h3,h4,h5,h6,h7,h8,h9,h10,h11,h12,h13,h14,h15,h16,h17,h18,h19⟩:=C8L h
 obtain ⟨b0,e0,_,_⟩:=h0.inv_sl C6b
 obtain ⟨b1,e1,_,_⟩:=h1.inv_sl C3w
 obtain ⟨a2,rfl⟩:=h2.inv_bool
 obtain ⟨a3,rfl⟩:=h3.inv_bool
 obtain ⟨a4,rfl,_⟩:=h4.inv_int
 obtain ⟨b5,e5,_,_⟩:=h5.inv_sl C6f
 obtain ⟨a6,rfl,_⟩:=h6.inv_int
 obtain ⟨a7,rfl,_⟩:=h7.inv_int
 obtain ⟨a8,rfl,_⟩:=h8.inv_int
 obtain ⟨a9,rfl,_⟩:=h9.inv_int
 obtain ⟨a10,rfl,_⟩:=h10.inv_int
 obtain ⟨a11,rfl,_⟩:=h11.inv_int
 obtain ⟨b12,e12,_,_⟩:=h12.inv_sl C3v
 obtain ⟨b13,e13,_,_⟩:=h13.inv_sl C3v
 obtain ⟨a14,rfl,_⟩:=h14.inv_int
 obtain ⟨a15,rfl⟩:=h15.inv_bool
 obtain ⟨b16,e16,_,_⟩:=h16.inv_sl B1q
 obtain ⟨b17,e17,_,_⟩:=h17.inv_sl C8E
 obtain ⟨b18,e18,_,_⟩:=h18.inv_sl C8F
 obtain ⟨a19,rfl,_⟩:=h19.inv_int
 exact ⟨⟨⟨b0,b1,⟨a2,a3,a4,b5⟩,⟨a6,a7⟩,⟨a8,a9,a10,a11,b12,b13⟩⟩,a14,a15,b16,b17,b18,a19⟩,F0.cons (e0) (F0.cons (e1) (F0.cons (Le.refl _) (F0.cons (Le.refl _) (F0.cons (Le.refl _) (F0.cons (e5) (F0.cons (Le.refl _) (F0.cons (Le.refl _) (F0.cons (Le.refl _) (F0.cons (Le.refl _) (F0.cons (Le.refl _) (F0.cons (Le.refl _) (F0.cons (e12) (F0.cons (e13) (F0.cons (Le.refl _) (F0.cons (Le.refl _) (F0.cons (e16) (F0.cons (e17) (F0.cons (e18) (F0.cons (Le.refl _) (F0.nil)))))))))))))))))))),rfl,trivial⟩
theorem FitL.sale {w:World} {l:List AV} {cs:List Value} (h:FitL w kSale l cs):∃ x:B2W,M0 w st0 (B1r x) (.agg cs.toArray):=by
 obtain ⟨x,h1,_,_⟩:=C6d l ⟨h.len,h.fit⟩
 refine ⟨x,?_⟩
 have h0:M0 w st0 (.agg l) (.agg cs.toArray):=.agg _ _ (by rw [h.len,←h.clen];simp) fun j y c hy hc=>h.rep j y c hy (by simpa using hc)
 exact (Le.agg h1) _ _ _ h0
end Go.Ab
namespace Go.Ab
open Go
theorem an {a b:Bool} (h:a=true) (k:b=true):(a&&b)=true:=by rw [h,k];rfl
def kindsFit (P:Program) (fn:Func) (c:OpenClaim):Bool:=(c.kinds==(if c.domain.isEmpty then [] else fn.params.toList.map fun t=>match P.underlying t with | some (.int k)=>some k | _=>none))
theorem joined_of {P:Program} {f:FuncId} {fn:Func} {s:ChangeSpec} {c:OpenClaim} (h1:(c.wf (OpenSpec.ofChange s))=true) (h2:(laidOutB P)=true) (h3:(mapsRowed P)=true) (h4:(fn.params.all (P.readableRec ·))=true) (h5:(namedTie P c.named s.vars)=true) (h6:(c.stops==[])=true) (h7:(P.stops==[])=true) (h8:(c.knobs==[])=true) (h9:(P.stopKnobs==[])=true) (h10:(c.inPlace==P.inPlace f)=true) (h11:(c.unfollowed==P.unfollowed f)=true) (h12:(c.recurses==P.recurses f)=true) (h13:(c.named==P.varsNamed f)=true) (h14:(c.maps==(fn.params.toList++s.plain.varTypes P).any (P.mapsRec ·))=true) (h15:(c.ifaces==(fn.params.toList++s.plain.varTypes P).any (P.ifacesRec ·))=true) (h16:(c.mapsOut==P.mapsAmong fn.resultTypes.toList)=true) (h17:(c.loops==(fn.params.toList++s.plain.varTypes P).any (P.loopsFrom ·))=true) (h18:(c.wideKeys==(fn.params.toList++s.plain.varTypes P++fn.resultTypes.toList).any (P.wideKeysFrom ·))=true) (h19:(s.vars.all (P.varReadable ·))=true) (h20:(fn.resultTypes.all (fun t=>P.readableRec t&&decide (t<P.types.size)))=true) (h21:(c.ifacesOut==fn.resultTypes.toList.any (P.ifacesRec ·))=true) (h22:(c.loopsOut==fn.resultTypes.toList.any (P.loopsFrom ·))=true) (h23:(c.plainKeys==P.plainKeys)=true) (h24:c.shortTexts.isNone=true) (h25:P.stopsHeard=true) (h26:P.mayEnter=true) (h27:(c.lifted==P.liftsFinal)=true) (h28:(P.make==some c.make)=true) (h29:kindsFit P fn c=true) (h30:(c.pinned==c.pinnedBy)=true) (h31:(c.veiled==(fn.params.toList++s.plain.varTypes P++fn.resultTypes.toList).any (P.veiledRec ·))=true) (h32:(c.veiledFits P fn.params.toList (fn.params.toList++s.plain.varTypes P++fn.resultTypes.toList))=true):joinedFacts P f fn s c=true:=an (an (an (an (an (an (an (an (an (an (an (an (an (an (an (an (an (an (an (an (an (an (an (an (an (an (an (an (an (an (an (h1) h2) h3) h4) h5) h6) h7) h8) h9) h10) h11) h12) h13) h14) h15) h16) h17) h18) h19) h20) h21) h22) h23) h24) h25) h26) h27) h28) h29) h30) h31) h32
end Go.Ab
namespace Go.Proofs.YtaapofnkmpiknaaGreat.closed
open Go
theorem p2:(laidOutB Tryz.prog)=true:=by kernel_rfl
theorem p3:(mapsRowed Tryz.prog)=true:=by kernel_rfl
theorem p7:(Tryz.prog.stops==[])=true:=by kernel_rfl
theorem p9:(Tryz.prog.stopKnobs==[])=true:=by kernel_rfl
theorem p25:(Tryz.prog.stopsHeard)=true:=by kernel_rfl
theorem p26:(Tryz.prog.mayEnter)=true:=by kernel_rfl
end Go.Proofs.YtaapofnkmpiknaaGreat.closed
namespace Go.Proofs.YtaapofnkmpiknaaGreat.policySold
open Go.ChangeShapes Go.WideShapes Go.ChangeAt Go.RowKit
open Go.ChangeMaps (open_string shut_string)
theorem c1:(Rows.policySoldRow.wf (OpenSpec.ofChange Rows.policySoldSpec))=true:=by kernel_rfl
theorem c4:(Tryz.f8.params.all (Tryz.prog.readableRec ·))=true:=by kernel_rfl
theorem c5:(namedTie Tryz.prog Rows.policySoldRow.named Rows.policySoldSpec.vars)=true:=by kernel_rfl
theorem c6:((Rows.policySoldRow.stops==[]))=true:=by kernel_rfl
theorem c8:((Rows.policySoldRow.knobs==[]))=true:=by kernel_rfl
theorem c10:((Rows.policySoldRow.inPlace==Tryz.prog.inPlace 8))=true:=by kernel_rfl
theorem c11:((Rows.policySoldRow.unfollowed==Tryz.prog.unfollowed 8))=true:=by kernel_rfl
theorem c12:((Rows.policySoldRow.recurses==Tryz.prog.recurses 8))=true:=by kernel_rfl
theorem c13:((Rows.policySoldRow.named==Tryz.prog.varsNamed 8))=true:=by kernel_rfl
theorem c14:((Rows.policySoldRow.maps==(Tryz.f8.params.toList++Rows.policySoldSpec.plain.varTypes Tryz.prog).any (Tryz.prog.mapsRec ·)))=true:=by kernel_rfl
theorem c15:((Rows.policySoldRow.ifaces==(Tryz.f8.params.toList++Rows.policySoldSpec.plain.varTypes Tryz.prog).any (Tryz.prog.ifacesRec ·)))=true:=by kernel_rfl
theorem c16:((Rows.policySoldRow.mapsOut==Tryz.prog.mapsAmong Tryz.f8.resultTypes.toList))=true:=by kernel_rfl
theorem c17:((Rows.policySoldRow.loops==(Tryz.f8.params.toList++Rows.policySoldSpec.plain.varTypes Tryz.prog).any (Tryz.prog.loopsFrom ·)))=true:=by kernel_rfl
theorem c18:((Rows.policySoldRow.wideKeys==(Tryz.f8.params.toList++Rows.policySoldSpec.plain.varTypes Tryz.prog++Tryz.f8.resultTypes.toList).any (Tryz.prog.wideKeysFrom ·)))=true:=by kernel_rfl
theorem c19:(Rows.policySoldSpec.vars.all (Tryz.prog.varReadable ·))=true:=by kernel_rfl
theorem c20:(Tryz.f8.resultTypes.all (fun t=>Tryz.prog.readableRec t&&decide (t<Tryz.prog.types.size)))=true:=by kernel_rfl
theorem c21:((Rows.policySoldRow.ifacesOut==Tryz.f8.resultTypes.toList.any (Tryz.prog.ifacesRec ·)))=true:=by kernel_rfl
theorem c22:((Rows.policySoldRow.loopsOut==Tryz.f8.resultTypes.toList.any (Tryz.prog.loopsFrom ·)))=true:=by kernel_rfl
theorem c23:((Rows.policySoldRow.plainKeys==Tryz.prog.plainKeys))=true:=by kernel_rfl
theorem c24:(Rows.policySoldRow.shortTexts.isNone)=true:=by kernel_rfl
theorem c27:((Rows.policySoldRow.lifted==Tryz.prog.liftsFinal))=true:=by kernel_rfl
theorem c28:((Tryz.prog.make==some Rows.policySoldRow.make))=true:=by kernel_rfl
theorem c29:Ab.kindsFit Tryz.prog Tryz.f8 Rows.policySoldRow=true:=by kernel_rfl
theorem c30:((Rows.policySoldRow.pinned==Rows.policySoldRow.pinnedBy))=true:=by kernel_rfl
theorem c31:((Rows.policySoldRow.veiled==(Tryz.f8.params.toList++Rows.policySoldSpec.plain.varTypes Tryz.prog++Tryz.f8.resultTypes.toList).any (Tryz.prog.veiledRec ·)))=true:=by kernel_rfl
theorem c32:(Rows.policySoldRow.veiledFits Tryz.prog Tryz.f8.params.toList (Tryz.f8.params.toList++Rows.policySoldSpec.plain.varTypes Tryz.prog++Tryz.f8.resultTypes.toList))=true:=by kernel_rfl
theorem C0S:joinedFacts Tryz.prog 8 Tryz.f8 Rows.policySoldSpec Rows.policySoldRow=true:=Ab.joined_of c1 closed.p2 closed.p3 c4 c5 c6 closed.p7 c8 closed.p9 c10 c11 c12 c13 c14 c15 c16 c17 c18 c19 c20 c21 c22 c23 c24 closed.p25 closed.p26 c27 c28 c29 c30 c31 c32
theorem own:ownKnob Tryz.prog.godebug=none:=by kernel_rfl
theorem C6B:laidOutB Tryz.prog=true:=closed.p2
theorem D5b (c0:Array Value) (a1:Int) (w:World) (l0:List Ab.AV) (h0:Ab.FitL w Ab.kSale l0 c0.toList) :
  Calls Tryz.prog 8 #[.agg c0,.int .i64 a1] w fun e w'=>e=.returned (.bool true)∧Below w.heap.size w w':=by
 obtain ⟨x0,r0⟩:=h0.sale
 refine Ab.law_of_S (B5a x0 a1 Ab.st0) ⟨rfl,fun j y c hy hc=>?_⟩
 match j with
 | 0=>cases hy;cases hc;exact r0
 | 1=>cases hy;cases hc;exact .int _ _
 | j+2=>cases hy
set_option maxRecDepth 100000 in
theorem lifted (os:Os) (started:os.Started) (H:Type) (enc:TypeId×Value→H) :
  ReturnsInHanded {} Tryz.checked os 8 .any (Rows.policySoldSpec.pre6 enc Tryz.prog Tryz.f8 Rows.policySoldRow.domain false) (Rows.policySoldSpec.post enc Tryz.prog Tryz.f8 false true false false):=by
 refine returnsInHanded_of_change_sized (C:=Tryz.checked) own started (by kernel_rfl) Tryz.func8
  (ChangeSpec.witness6 (enc:=enc) (C:=Tryz.checked) false ⟨#[],#[.agg #[.slice none 0 0,.slice none 0 0,.bool false,.bool false,.int .i64 0,.slice none 0 0,.int .i64 0,.int .i64 0,.int .i64 0,.int .i64 0,.int .i64 0,.int .i64 0,.slice none 0 0,.slice none 0 0,.int .i64 0,.bool false,.slice none 0 0,.slice none 0 0,.slice none 0 0,.int .i64 0],.int .i64 0],[]⟩ 12 (by kernel_rfl) (by kernel_rfl) (by kernel_rfl) (by kernel_rfl)) ?_
 intro W base args ds gs before hval0 hW hcnd hsz0 _
 have hval:∀ (j:Nat) t v,Tryz.f8.params[j]?=some t→args[j]?=some v→Value.okWide Tryz.prog W .any base t v:=hval0
 have hW':=hW
 obtain ⟨p,q,hA0,hV,rfl,hfz,hnd⟩:=hW
 have hA:DataW.TrodAll enc Tryz.prog W 0 (fun _=>true) true Tryz.f8.params.toList args.toList ds p:=hA0
 rw [Tryz.params8] at hA hval
 obtain ⟨v0,vs0,d0,ds0,p0,q0,hargs,rfl,rfl,h0,r0⟩:=trodAll_cons hA
 obtain ⟨v1,vs1,d1,ds1,p1,q1,rfl,rfl,rfl,h1,r1⟩:=trodAll_cons r0
 obtain ⟨rfl,rfl,rfl⟩:=trodAll_nil r1
 obtain rfl:args=#[v0,v1]:=by cases args;simp_all
 obtain ⟨rfl,rfl⟩:=trodVars_none hV
 obtain ⟨a0,rfl,_⟩:=okWide_struct Tryz.underlying38 (hval 0 38 v0 rfl rfl)
 obtain ⟨a1,rfl,rfl,rfl,w1⟩:=open_int Tryz.underlying3 (hval 1 3 v1 rfl rfl) h1
 have k0:=h0
 have lt0:∀ x∈p0,x.block<W.heap.size:=by obtain ⟨m,hm⟩:=k0;exact DataW.trod_lt m _ _ _ hm
 obtain ⟨l0,hl0⟩:∃ l,Ab.FitL W Ab.kSale l a0.toList:=by
  obtain ⟨fuel,hf⟩:=h0
  exact Ab.open_kinds 10 fuel 38 Ab.kSale _ _ (by kernel_rfl) hf
 clear hA0 hval0 hsz0
 refine (D5b a0 a1 W l0 hl0).mono fun e W' ⟨he,bel⟩=>?_
 subst he
 exact ⟨_,rfl,_,_,_,[],_,[],hW',trodAll_mk1 (shut_bool Tryz.underlying4 _),trodAll_cons_mk (Below.trod C6B (by kernel_rfl) (D6H (by kernel_rfl)) k0 bel lt0) (trodAll_cons_mk (shut_int Tryz.underlying3 w1) trodAll_mk0),rfl,bel.frame _,fun h=>by cases h⟩
theorem over:Rows.policySoldRow.holds Tryz.pinned (OpenSpec.ofChange Rows.policySoldSpec) :=
 OpenClaim.holds_of_wide 8 Tryz.f8 rfl rfl rfl rfl rfl rfl rfl ⟨rfl,rfl,rfl,rfl,rfl⟩ rfl rfl rfl rfl rfl (by kernel_rfl) Tryz.func8 C0S
  (D6H (by kernel_rfl)) (by unfold Func.isWrapper;first | (rw [if_pos (by decide +kernel)];kernel_rfl) | (rw [if_neg (by decide +kernel)];exact ⟨rfl,rfl⟩))
  (fun os started H enc _=>lifted os started H enc)
theorem proved:Rows.PolicySoldSaid:=over
#print axioms proved
end Go.Proofs.YtaapofnkmpiknaaGreat.policySold
namespace Go.Proofs.YtaapofnkmpiknaaGreat
theorem policySold_holds:Rows.PolicySoldSaid:=policySold.proved
end Go.Proofs.YtaapofnkmpiknaaGreat
