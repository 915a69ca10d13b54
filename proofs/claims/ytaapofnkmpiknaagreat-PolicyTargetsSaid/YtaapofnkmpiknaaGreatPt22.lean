/- Part 22 of the proof: contracts -/
import Derived.Test.YtaapofnkmpiknaaGreatPt21
import Derived.RangeFuncBox
import Derived.RangeFuncLeaves
import Derived.Shelf.Abstract
import Derived.WalkKit
import Derived.OwnWalkIn
import Derived.TacticsInMore
import Derived.LoopNIn
import Derived.LoopIn
import Derived.Maps.AppendAt
import Derived.RangeFuncNested
import Derived.RangeFuncBound
import Derived.RangeFuncCalls
import Derived.Shelf.SortM.Plain
import Derived.Shelf.SortM.SortNone
set_option linter.unusedVariables false
set_option linter.unusedSimpArgs false
namespace Go.Proofs.YtaapofnkmpiknaaGreat
open Go Go.Ab Go.Proofs Go.RowKit Go.Shelf
attribute [local go_sem] Oper.semAt_some
def C1b (u:B3):Value:=.agg #[.int .i64 u.line,.int .i64 u.net,.bool u.opn]
def lnU (l:List E6) (i:Nat):B3:=⟨i,(l.getD i default).price,true⟩
def H1 (l:List E6):Nat→List B3
 | 0=>[]
 | k+1=>H1 l k++List.replicate (l.getD k default).qty.toNat (lnU l k)
structure KpL (n₀ : Nat) (W W':World):Prop where
 below:Below n₀ W W'
 lines:∀ (k:Nat) (cs:Array Value) (fr:Nat×Nat),W.heap[k]?=some (.cells cs 137 fr)→W'.heap[k]?=some (.cells cs 137 fr)
theorem KpL.trans {n₀ : Nat} {A B C:World} (h:KpL n₀ A B) (k:KpL n₀ B C):KpL n₀ A C:=⟨h.below.trans k.below,fun i cs fr hi=>k.lines i cs fr (h.lines i cs fr hi)⟩
theorem A7b {W:World} {b:Nat} {cs:Array Value} {t:TypeId} {fr:Nat×Nat} (h:W.heap[b]?=some (.cells cs t fr)) (o:Nat):W.cell? ⟨b,o,none⟩=cs[o]?:=by
 unfold World.cell?;rw [h];rfl
theorem B4N {B:Nat} {J:List B3→World→Prop} (h:AbidesFrom B J) {s:List B3} {W:World} (o:Obj) (hs:J s W):J s (W.alloc o) :=
 h s W _ none hs (World.grownBy_alloc W o none) (fun r e=>by cases e)
theorem B9R {l:List E6} {k m:Nat} (h:k≤m):(H1 l k).length≤(H1 l m).length:=by
 induction m with
 | zero=>have:k=0:=by omega
         subst this;exact D7l _
 | succ m ih =>
  rcases D8E m k with h1 | h1
  ·have:k=m+1:=by omega
   subst this;exact D7l _
  ·have:=ih h1
   unfold H1;rw [D7p]
   exact D8r (by cases k<;>first | exact this | exact this) (Nat.le_add_right _ _)
theorem B3d {l:List E6} {k j:Nat} (hk:k<l.length) (hj:j<(l.getD k default).qty.toNat):(H1 l k++List.replicate j (lnU l k)).length<(H1 l l.length).length:=by
 have h1:=B9R (l:=l) (show k+1≤l.length from hk)
 have h2:(H1 l (k+1)).length=(H1 l k).length+(l.getD k default).qty.toNat:=by
  show (H1 l k++List.replicate (l.getD k default).qty.toNat (lnU l k)).length=_
  rw [D7p,D8i]
 rw [D7p,D8i]
 omega
theorem A9D {l:List E6} {k:Nat} (h:k<l.length):l[k]=l.getD k default:=by simp [h]
set_option maxRecDepth 100000 in
set_option maxHeartbeats 2000000 in
theorem C3W (F:Fence) (n:Nat) (hf:F.fn 263) (hro:F.round=none) (hn:1≤n) (lp Bs n₀ b off cap:Nat) (l:List E6) (hlen:l.length≤1000) (hb:b<n₀) (hq:∀ x∈l,0≤x.qty∧x.qty≤100000)
  (J Jx:List B3→World→Prop)
  (hY:∀ pre x W,J pre W→pre.length<(H1 l l.length).length→YieldAt F (n - 1) Tryz.prog lp #[C1b x] W fun e W' =>
   (e=.returned (.bool true)∧J (pre++[x]) W'∧KpL n₀ W W')∨(e=.returned (.bool false)∧Jx (pre++[x]) W'))
  (W:World) (hJ:AbidesFrom W.heap.size J) (hn₀ : n₀≤W.heap.size) (hBs:W.cell? ⟨Bs,0,none⟩=some (.slice (some ⟨b,off,none⟩) l.length cap))
  (hc:∀ j,j<l.length→W.cell? ⟨b,off+j * 3,none⟩=some (.string (l[j]?.getD default).sku)∧W.cell? ⟨b,off+j * 3+1,none⟩=some (.int .i64 (l[j]?.getD default).qty)∧W.cell? ⟨b,off+j * 3+2,none⟩=some (.int .i64 (l[j]?.getD default).price)) (h0:J [] W) :
  CallsIn F n Tryz.prog 263 #[.func (.yield lp) #[] #[],.pointer (some ⟨Bs,0,none⟩)] W fun e W'=>(∃ v,e=.returned v) ∧
   ((∃ ys,ys=H1 l l.length∧J ys W')∨(∃ pre,True∧Jx pre W')):=by
 refine callsIn_of_wp Tryz.func263 rfl hf ?_ hro
 simp only [Tryz.ntmps263,List.size_toArray,D7N,D8u,Nat.reduceAdd,Nat.reduceSub,Array.replicate_succ,Array.replicate_zero,List.push_toArray,List.append_toArray,E0f,D9w]
 gi_wp2
 gi_loopw [7] (fun i wr=>∃ k:Nat,k≤l.length∧i=.int .i64 k∧J (H1 l k) wr∧Below n₀ W wr∧W.heap.size≤wr.heap.size)
  (fun i _=>l.length - (intOf i).toNat)
 case atStart=>exact ⟨0,D7C _,rfl,h0,Below.refl _ _,D7l _⟩
 case round =>
  obtain ⟨k,hk,rfl,hJs,hnx,hsz⟩:=hrel
  by_cases hlt:k<l.length
  ·have hc1:=(hnx.cell (p:=⟨b,off+k * 3,none⟩) hb).trans (hc k hlt).1
   have hc2:=(hnx.cell (p:=⟨b,off+k * 3+1,none⟩) hb).trans (hc k hlt).2.1
   have hc3:=(hnx.cell (p:=⟨b,off+k * 3+2,none⟩) hb).trans (hc k hlt).2.2
   gi_wp2
   have hqk:=hq _ (D8y hlt)
   have hnew:(wr.alloc (Obj.cells #[Value.string l[k].sku,Value.int IntKind.i64 l[k].qty,Value.int IntKind.i64 l[k].price] 137)).heap[wr.heap.size]?=some (.cells #[Value.string l[k].sku,Value.int IntKind.i64 l[k].qty,Value.int IntKind.i64 l[k].price] 137 (0,0)):=World.alloc_heap_new wr _
   have hJa:=B4N hJ (Obj.cells #[Value.string l[k].sku,Value.int IntKind.i64 l[k].qty,Value.int IntKind.i64 l[k].price] 137) hJs
   have hB1:Below n₀ W (wr.alloc (Obj.cells #[Value.string l[k].sku,Value.int IntKind.i64 l[k].qty,Value.int IntKind.i64 l[k].price] 137)):=hnx.alloc (by omega) _
   have hsz1:W.heap.size≤(wr.alloc (Obj.cells #[Value.string l[k].sku,Value.int IntKind.i64 l[k].qty,Value.int IntKind.i64 l[k].price] 137)).heap.size:=by simp;omega
   have hU:lnU l k=⟨k,l[k].price,true⟩:=by unfold lnU;rw [A9D hlt]
   have hup:H1 l (k+1)=H1 l k++List.replicate l[k].qty.toNat (lnU l k):=by
    show H1 l k++List.replicate (l.getD k default).qty.toNat (lnU l k)=_
    rw [A9D hlt]
   generalize hW2:wr.alloc (Obj.cells #[Value.string l[k].sku,Value.int IntKind.i64 l[k].qty,Value.int IntKind.i64 l[k].price] 137)=W2 at *
   generalize hsw:wr.heap.size=bl at *
   gi_loopw [14] (fun i wi=>∃ j:Nat,(j:Int)≤l[k].qty∧i=.int .i64 j∧J (H1 l k++List.replicate j (lnU l k)) wi∧Below n₀ W wi∧W.heap.size≤wi.heap.size∧wi.heap[bl]?=some (.cells #[Value.string l[k].sku,Value.int IntKind.i64 l[k].qty,Value.int IntKind.i64 l[k].price] 137 (0,0)))
    (fun i _=>l[k].qty.toNat - (intOf i).toNat)
   case atStart=>exact ⟨0,by omega,rfl,by simpa using hJa,hB1,hsz1,hnew⟩
   case round =>
    obtain ⟨j,hj,rfl,hJi,hBi,hsi,hli⟩:=hrel
    by_cases hlt2:(j:Int)<l[k].qty
    ·obtain ⟨fn,tmps,assign,body,hy,hR⟩:=hY _ (lnU l k) wr hJi (B3d hlt (by rw [←A9D hlt];omega))
     rw [hU] at hy
     simp only [C1b] at hy
     have hp:=A7b hli 2
     simp only [List.getElem?_toArray,D9N,List.getElem?_cons_zero] at hp
     gi_wp2
     refine hR.mono ?_
     rintro e W3 (⟨rfl,hJ3,hk3⟩ | ⟨rfl,hJx3⟩)
     ·gi_wp2
      go_roundw
      case rel=>exact ⟨j+1,by omega,by simp,by rw [List.replicate_succ',←D8z];exact hJ3,hBi.trans hk3.below,D8r hsi hk3.below.size,hk3.lines _ _ _ hli⟩
      case measure=>simp [intOf];omega
     ·gi_wp2
      refine bodyPost_ret (results_none rfl _ _ _) rfl ?_
      exact ⟨⟨_,rfl⟩,.inr ⟨_,trivial,hJx3⟩⟩
    ·have hje:j=l[k].qty.toNat:=by omega
     subst hje
     gi_wp2
     go_roundw
     case rel=>exact ⟨k+1,by omega,by simp,by rw [hup];exact hJi,hBi,hsi⟩
     case measure=>simp [intOf];omega
  ·obtain rfl:k=l.length:=by omega
   gi_wp2
   go_end0
   exact ⟨⟨_,rfl⟩,.inl ⟨_,rfl,hJs⟩⟩
set_option maxRecDepth 100000 in
set_option maxHeartbeats 1000000 in
theorem B4W (F:Fence) (n:Nat) (hf:F.fn 263) (hro:F.round=none) (lp Bs cap:Nat) (A:Option Addr) (J:List B3→World→Prop) (W:World) (hBs:W.cell? ⟨Bs,0,none⟩=some (.slice A 0 cap)) (h0:J [] W) :
  CallsIn F n Tryz.prog 263 #[.func (.yield lp) #[] #[],.pointer (some ⟨Bs,0,none⟩)] W fun e W'=>(∃ v,e=.returned v)∧J [] W':=by
 refine callsIn_of_wp Tryz.func263 rfl hf ?_ hro
 simp only [Tryz.ntmps263,List.size_toArray,D7N,D8u,Nat.reduceAdd,Nat.reduceSub,Array.replicate_succ,Array.replicate_zero,List.push_toArray,List.append_toArray,E0f,D9w]
 gi_wp2
 gi_loopw [7] (fun i wr=>i=.int .i64 0∧J [] wr) (fun _ _=>0)
 case atStart=>exact ⟨rfl,h0⟩
 case round =>
  obtain ⟨rfl,hJs⟩:=hrel
  gi_wp2
  go_end0
  exact ⟨⟨_,rfl⟩,hJs⟩
set_option maxHeartbeats 1000000 in
theorem C6K (F:Fence) (n:Nat) (hf:F.fn 225) (hro:F.round=none) (a:Option Addr) (len cap:Nat) (w:World) :
  CallsIn F n Tryz.prog 225 #[.slice a len cap] w fun e w'=>e=.returned (.func (.func 263) #[] #[.pointer (some ⟨w.heap.size,0,none⟩)])∧w'=w.alloc (.cells #[.slice a len cap] 104):=by
 refine callsIn_of_wp Tryz.func225 rfl hf ?_ hro
 simp only [Tryz.ntmps225,List.size_toArray,D7N,D8u,Nat.reduceAdd,Nat.reduceSub,Array.replicate_succ,Array.replicate_zero,List.push_toArray,List.append_toArray,E0f,D9w]
 gi_wp2
 go_ret
 exact ⟨rfl,rfl⟩
def A4X (n₀ : Nat) (W:World) (A:Option Addr) (l:List E6):Prop :=
 l=[]∨∃ b off,A=some ⟨b,off,none⟩∧b<n₀∧∀ j,j<l.length→W.cell? ⟨b,off+j * 3,none⟩=some (.string (l[j]?.getD default).sku)∧W.cell? ⟨b,off+j * 3+1,none⟩=some (.int .i64 (l[j]?.getD default).qty)∧W.cell? ⟨b,off+j * 3+2,none⟩=some (.int .i64 (l[j]?.getD default).price)
theorem A4X.below {n₀ : Nat} {X Y:World} {A:Option Addr} {l:List E6} (h:Below n₀ X Y):A4X n₀ X A l→A4X n₀ Y A l
 | .inl e=>.inl e
 | .inr ⟨b,off,e,hb,hc⟩=>.inr ⟨b,off,e,hb,fun j hj=>⟨(h.cell (p:=⟨b,off+j * 3,none⟩) hb).trans (hc j hj).1,(h.cell (p:=⟨b,off+j * 3+1,none⟩) hb).trans (hc j hj).2.1,(h.cell (p:=⟨b,off+j * 3+2,none⟩) hb).trans (hc j hj).2.2⟩⟩
theorem B8C (F:Fence) (n:Nat) (hf:F.fn 263) (hro:F.round=none) (hn:1≤n) (Bs n₀ cap:Nat) (A:Option Addr) (l:List E6) (hlen:l.length≤1000) (hq:∀ x∈l,0≤x.qty∧x.qty≤100000) (w:World) (hBs:Bs<w.heap.size) (hn₀ : n₀≤w.heap.size)
  (hc:w.cell? ⟨Bs,0,none⟩=some (.slice A l.length cap)) (hI:A4X n₀ w A l) :
  SeqStopsK F n Tryz.prog 263 #[.pointer (some ⟨Bs,0,none⟩)] (fun x:B3=>#[C1b x]) (KpL n₀) (fun ys=>ys=H1 l l.length) (fun _=>True) (H1 l l.length).length w:=fun lp J Jx W hW hJ _ hY h0=>by
 have hc':=(hW.cell (p:=⟨Bs,0,none⟩) hBs).trans hc
 rcases hI.below (hW.mono hn₀) with rfl | ⟨b,off,rfl,hb,hcs⟩
 ·exact (B4W F n hf hro lp Bs cap A J W hc' h0).mono fun e W' ⟨he,hj⟩=>⟨he,.inl ⟨_,rfl,hj⟩⟩
 ·refine (C3W F n hf hro hn lp Bs n₀ b off cap l hlen hb hq J Jx hY W hJ (D8r hn₀ hW.size) hc' hcs h0).mono ?_
  rintro e W' ⟨he,h⟩
  exact ⟨he,h⟩
theorem D0V {n₀ lo:Nat} {W:World} {o o':Obj} (hlo:n₀≤lo) (ho:W.heap[lo]?=some o) (hc:o.isCells=false):KpL n₀ W (W.putObj lo o') :=
 ⟨(Below.refl n₀ W).grown (grownBy_putObj' W lo o') (by have:=(D8b.1 ho).1;omega) (fun k e=>by cases e;exact hlo),fun k cs fr hk=>(World.putObj_heap_other (fun e=>by subst e;rw [ho] at hk;cases hk;cases hc)).trans hk⟩
def A0K (u:B3):List Value:=[.int .i64 u.line,.int .i64 u.net,.bool u.opn]
theorem C3b (W:World) (x:B3):∀ (j:Nat) (u:Value),(A0K x)[j]?=some u→(W.alloc (.cells #[.int .i64 x.line,.int .i64 x.net,.bool x.opn] 223)).cell? ((⟨W.heap.size,0,none⟩:Addr).add j)=some u:=fun j u h=>by
 have hn:=World.alloc_heap_new W (.cells #[.int .i64 x.line,.int .i64 x.net,.bool x.opn] 223)
 have:((⟨W.heap.size,0,none⟩:Addr).add j)=⟨W.heap.size,j,none⟩:=by simp [Addr.add];intro h;omega
 rw [this,A7b hn]
 rw [←h]
 simp [A0K]
theorem B9Q (x:B3):∀ u∈A0K x,u.oneCell'=true:=fun u hu=>by
 simp only [A0K,D8A,D8D,or_false] at hu
 rcases hu with rfl | rfl | rfl<;>rfl
theorem B8R {W w2:World} {n₀ B:Nat} {v:Value} {k:Nat} {xs:List Value} {tmp:Obj} (hv:Boxed W B 214 v) (hrow:W.ownsRow n₀ 223 3 v k xs) (hgrow:(W.alloc tmp).grownBy w2 v.ownBlock) (v':Value) :
  ∀ (k:Nat) (cs:Array Value) (fr:Nat×Nat),W.heap[k]?=some (.cells cs 137 fr)→(w2.setCell ⟨B,0,none⟩ v').heap[k]?=some (.cells cs 137 fr):=fun k cs fr hk=>by
 have hlt:=(D8b.1 hk).1
 have h1:k≠B:=fun e=>by
  subst e
  have:=(show W.heap[k]?=_ from hv).symm.trans hk
  simp at this
 rw [Below.heap_setCell _ _ _ _ h1,hgrow.block k (by simp;omega) (fun e=>?_),Below.heap_alloc _ _ _ hlt]
 ·exact hk
 ·rcases hrow.2 with ⟨rfl,_⟩ | ⟨g,cap,cur,rfl,_,hgb,_⟩
  ·simp [Value.ownBlock] at e
  ·obtain rfl:k=g:=by simpa [Value.ownBlock] using e
   rw [hgb] at hk;simp at hk
theorem D4f:(Tryz.prog.info? 223).map (fun i=>(i.zero,i.size,i.bytes))=some (some (.agg #[.int .i64 0,.int .i64 0,.bool false]),3,24):=by kernel_rfl
set_option maxRecDepth 100000 in
set_option maxHeartbeats 4000000 in
theorem C3x (l:List E6) (hlen:l.length≤1000) (hq:∀ x∈l,0≤x.qty∧x.qty≤100000) (hN:(H1 l l.length).length≤100000) (A:Option Addr) (cap:Nat) (w:World)
  (R:World→Prop) (hmay:Calls Tryz.prog 224 #[.slice A l.length cap] w fun e w1=>e=.returned (.bool true)∧A4X w1.heap.size w1 A l∧R w1) :
  CallsIn Fence.wide 3 Tryz.prog 179 #[.slice A l.length cap] w fun e W'=>∃ v w1,R w1∧e=.returned v∧W'.ownsRow w1.heap.size 223 3 v (H1 l l.length).length ((H1 l l.length).flatMap A0K)∧Below w1.heap.size w1 W':=by
 obtain ⟨i0,hi,hz0,hz1,hz2⟩:=info_parts D4f
 refine callsIn_of_wp_marks Tryz.func179 rfl trivial ?_ rfl
 simp only [Tryz.ntmps179,List.size_toArray,D7N,D8u,Nat.reduceAdd,Nat.reduceSub,Array.replicate_succ,Array.replicate_zero,List.push_toArray,List.append_toArray,E0f,D9w]
 gi_wp2_with first
  | (refine ⟨trivial,?_⟩;gi_at_call 224;refine (callsIn_wide.2 hmay).mono ?_;rintro e w1 ⟨rfl,hL,hR⟩)
  | (refine ⟨trivial,?_⟩;gi_at_call 225;refine (C6K Fence.wide _ trivial rfl _ _ _ _).mono ?_;rintro e w' ⟨rfl,rfl⟩)
 have bO:=Boxed.new w1 214 (.slice none 0 0)
 have bN:=Boxed.new (w1.alloc (.cells #[.slice none 0 0] 214)) 104 (.slice A l.length cap)
 rw [World.size_alloc] at bN
 have hB0:Below w1.heap.size w1 ((w1.alloc (.cells #[.slice none 0 0] 214)).alloc (.cells #[.slice A l.length cap] 104)):=((Below.refl _ w1).alloc (D7l _) _).alloc (by simp) _
 refine wpIn_rangeFunc_ownH rfl (by omega) (gf:=263) (lb:=#[.pointer (some ⟨w1.heap.size+1,0,none⟩)]) rfl trivial (enters_of Tryz.func263 (by kernel_rfl) rfl)
  (B8C Fence.wide 2 trivial rfl (by omega) (w1.heap.size+1) w1.heap.size cap A l hlen hq _ (by simp) (by simp;omega) bN.cell (hL.below hB0)) (fun h k=>h.trans k)
  (fun W lo o o' hlo ho hc hw=>D0V (by simp at hlo;omega) ho hc) (Below.refl _ _) (fun _=>rfl)
  (fun pre W=>(∃ v,Boxed W w1.heap.size 214 v∧W.ownsRow w1.heap.size 223 3 v pre.length (pre.flatMap A0K)∧True)∧Below w1.heap.size w1 W)
  (fun _ _ _=>False)
  (OwnFrom.and (Own.from (holdsRow_own w1.heap.size w1.heap.size 214 223 3 (fun pre:List B3=>pre.length) (fun pre=>pre.flatMap A0K) (fun _ _=>True)) _) (ownFrom_below (D7l _) (by simp;omega)))
  (fun _ _ _ _ _ hs _ _=>hs)
  ⟨⟨_,bO.alloc _,World.ownsRow_nil _ _ _ _,trivial⟩,hB0⟩
  (fun x a' W=>∃ Bx:Nat,W.heap[Bx]?=some (.cells #[.int .i64 x.line,.int .i64 x.net,.bool x.opn] 223 (0,0))∧a'={ tmps:=#[.slice A l.length cap,undef,.slice none 0 0,.pointer (some ⟨w1.heap.size,0,none⟩),.pointer (some ⟨Bx,0,none⟩),.slice A l.length cap,.bool true,.bool false,.slice A l.length cap,.func (.func 263) #[] #[.pointer (some ⟨w1.heap.size+1,0,none⟩)],.agg #[.int .i64 x.line,.int .i64 x.net,.bool x.opn],undef,undef,undef,undef,undef],defers:=[] })
  (fun x a'=>fun _ X Y row ⟨Bx,h1,h2⟩ hg hr=>⟨Bx,(hg.block Bx (D8b.1 h1).1 (fun e=>by
   obtain ⟨_,o,ho,hc⟩:=hr Bx e.symm
   rw [h1] at ho;cases ho;cases hc)).trans h1,h2⟩) ?assign ?body ?done ?stop
 case assign =>
  rintro lp pre x W K ⟨⟨v,hv,hrow,_⟩,hB⟩ hK
  have hBs:=hB.size
  simp only [C1b]
  gi_wp2
  refine hK _ _ ((KeepsOthers.alloc _ _).from _) ⟨(Below.refl _ W).alloc hBs _,fun k cs fr hk=>(Below.heap_alloc W _ k (D8b.1 hk).1).trans hk⟩ ⟨⟨v,hv.alloc _,hrow.alloc _,trivial⟩,hB.alloc hBs _⟩ ⟨W.heap.size,World.alloc_heap_new W _,rfl⟩
 case body =>
  rintro lp pre x a' W hl ⟨r,hr⟩ ⟨⟨v,hv,hrow,_⟩,hB⟩ ⟨Bx,hBx,rfl⟩ hlt
  have hc:=hv.cell
  have hx0:=A7b hBx 0
  have hx1:=A7b hBx 1
  have hx2:=A7b hBx 2
  simp only [List.getElem?_toArray,D9N,List.getElem?_cons_zero] at hx0 hx1 hx2
  have hBs:=hB.size
  have hml:pre.length+1≤maxLen:=D8r (show pre.length+1≤200000 by omega) (by decide)
  have hmb:(pre.length+1) * 24≤140737488355328:=by omega
  have hms:w1.heap.size≤(W.alloc (Obj.cells #[Value.int IntKind.i64 x.line,Value.int IntKind.i64 x.net,Value.bool x.opn] 223)).heap.size:=by simp;omega
  have hat:=C3b W x
  have hone:=B9Q x
  have hra:=hrow.alloc (Obj.cells #[Value.int IntKind.i64 x.line,Value.int IntKind.i64 x.net,Value.bool x.opn] 223)
  gi_wp2_with (gi_at_builtin;refine wpListIn_append_own _ rfl _ _ 214 rfl w1.heap.size 223 i0 (.agg #[.int .i64 0,.int .i64 0,.bool false]) 3 24 Tryz.underlying214 hi hz0 hz1 hz2 rfl (by decide) _ _ _ rfl hra ⟨W.heap.size,0,none⟩ 1 1 (A0K x) rfl rfl hat hone hml hmb hms ?_;intro v' w2 hown' hgrow _;obtain ⟨g',cap',rfl⟩:=ownsRow_succ hown';obtain ⟨hv1,hv2,hr2,hk2,hb2⟩:=hv.appended (by decide) hrow hB.size (D7l _) hown' hgrow;have hln:=B8R hv hrow hgrow (Value.slice (some { block:=g',off:=0 }) (pre.length+1) cap');have hc1:=hv1.cell;have hf1:=hv1.frozen)
  exact ⟨hk2.from _,⟨hb2,hln⟩,⟨⟨_,hv2,by simpa using hr2,trivial⟩,hB.trans hb2⟩⟩
 case done =>
  rintro D ys W hD rfl ⟨⟨v,hv,hrow,_⟩,hB⟩ hK
  have hc:=hv.cell
  gi_wp2
  refine ⟨by simp,.inl ⟨_,_,rfl,run_takeDeferred hK,?_⟩⟩
  exact ⟨_,results_tmp rfl _ _ _,v,w1,hR,rfl,ownsRow_putObj hrow _ hK rfl,hB.trans (belowK_b (w:=w1) (D7l _) W D _ _ (by simp at hD;omega) hK rfl rfl)⟩
 case stop =>
  rintro D c pre W _ _ h _
  exact h.elim
end Go.Proofs.YtaapofnkmpiknaaGreat
set_option maxRecDepth 100000
namespace Go.Proofs.YtaapofnkmpiknaaGreat
open Go Go.Ab Go.Proofs
attribute [local irreducible] upd del
theorem C4d (us:List B3):∀ (i j:Nat),i<us.length→j<3→(us.flatMap A0K)[i * 3+j]?=(A0K (gU us i))[j]?:=by
 induction us with
 | nil=>intro i j hi;simp at hi
 | cons u us ih =>
  intro i j hi hj
  rw [List.flatMap_cons]
  cases i with
  | zero =>
   rw [Nat.zero_mul,D7o,D7B (by simp [A0K];omega)];rfl
  | succ i =>
   have e:(i+1) * 3+j=3+(i * 3+j):=by omega
   rw [e,D7A (by simp [A0K])]
   have:3+(i * 3+j) - (A0K u).length=i * 3+j:=by simp [A0K]
   rw [this,ih i j (by simpa using hi) hj];rfl
theorem C2t {W:World} {st:St} {base:Nat} {v:Value} {us:List B3} (hn:∀ b,base≤b→st b=none) (h:W.ownsRow base 223 3 v us.length (us.flatMap A0K)):K8 W st (C4 us) v:=by
 obtain ⟨hl,h | ⟨g,cap,cur,rfl,hg,hheap,hcap,hcm,hcs,htake⟩⟩:=h
 ·obtain ⟨rfl,h0⟩:=h
  have:us=[]:=D7O h0
  subst this
  exact .arr 3 0 _ none 0 (fun _ _=>undef) (D7l _) (fun h=>absurd h (by omega)) (fun i hi=>absurd hi (by omega)) (fun i hi=>absurd hi (by omega)) (fun _ _ i j hi=>absurd hi (by omega)) (fun i j y hi=>absurd hi (by omega))
 ·refine .arr 3 us.length _ (some ⟨g,0,none⟩) cap (fun i j=>((A0K (gU us i))[j]?).getD undef) hcap (fun _=>⟨_,rfl⟩) (fun i hi=>rfl) (fun i hi=>rfl) (fun a ha i j hi hj=>?_) (fun i j y hi hy=>?_)
  ·cases ha
   have hadd:((⟨g,0,none⟩:Addr).add (i * 3+j))=⟨g,i * 3+j,none⟩:=by
    unfold Addr.add;split
    ·rename_i e;rw [e]
    ·simp
   rw [hadd]
   unfold A3N
   rw [show st (Addr.mk g (i * 3+j) none).block=none from hn g hg]
   show W.cell? ⟨g,i * 3+j,none⟩=_
   rw [A7b hheap]
   have h1:=C4d us i j hi hj
   rw [←htake,D7r (by omega)] at h1
   rw [D7T] at h1
   rw [h1]
   have:j<(A0K (gU us i)).length:=hj
   rw [D7k this];rfl
  ·have hy':[eI (gU us i).line,eI (gU us i).net,eB (gU us i).opn][j]?=some y:=hy
   match j,hy' with
   | 0,hy'=>cases hy';exact .int _ _
   | 1,hy'=>cases hy';exact .int _ _
   | 2,hy'=>cases hy';exact .bool _
theorem C4t {w:World} {st:St} {l:List E6} {A:Option Addr} {c:Nat} (h:K8 w st (A8 3 I7 l) (.slice A l.length c)):A4X w.heap.size w A l:=by
 cases l with
 | nil=>exact .inl rfl
 | cons x0 l0 =>
  generalize hl:x0::l0=l at *
  have hpos:0<l.length:=by rw [←hl];simp
  right
  have hh:Rep (A3N w st) (A1F w) (.arr 3 l.length (fun i=>I7 (l.getD i default))) (.slice A l.length c):=h
  cases hh with
  | arr e n f A c g hc hA hle ho hr hg =>
   obtain ⟨a,rfl⟩:=hA hpos
   have hread:∀ i j,i<l.length→j<3→w.cell? (a.add (i * 3+j))=some (g i j)∧(a.add (i * 3+j)).spot=none:=fun i j hi hj=>by
    have h1:=hr a rfl i j hi hj
    unfold A3N at h1
    split at h1
    ·refine ⟨h1,?_⟩
     unfold World.cell? at h1
     split at h1
     ·split at h1
      ·cases h1
      ·rename_i hs;simpa using hs
     ·cases h1
    ·cases h1
   have h00:=hread 0 0 hpos (by omega)
   have ha0:a.add (0 * 3+0)=a:=by unfold Addr.add;simp
   rw [ha0] at h00
   have hsp:a=⟨a.block,a.off,none⟩:=by
    have:=h00.2
    cases a;simp at this;subst this;rfl
   have hadd:∀ k,a.add k=⟨a.block,a.off+k,none⟩:=fun k=>by
    unfold Addr.add
    split
    ·rename_i e;rw [e];exact hsp
    ·rfl
   have hval:∀ i,i<l.length→g i 0=.string (l[i]?.getD default).sku∧g i 1=.int .i64 (l[i]?.getD default).qty∧g i 2=.int .i64 (l[i]?.getD default).price:=fun i hi=>by
    have e:l.getD i default=l[i]?.getD default:=D7c
    have r0:=hg i 0 (eS (l.getD i default).sku) hi rfl
    have r1:=hg i 1 (eI (l.getD i default).qty) hi rfl
    have r2:=hg i 2 (eI (l.getD i default).price) hi rfl
    rw [e] at r0 r1 r2
    refine ⟨?_,?_,?_⟩
    ·generalize g i 0=u at r0;cases r0;rfl
    ·generalize g i 1=u at r1;cases r1;rfl
    ·generalize g i 2=u at r2;cases r2;rfl
   refine ⟨a.block,a.off,by rw [←hsp],?_,fun j hj=>?_⟩
   ·have:=h00.1
    unfold World.cell? at this
    split at this
    ·rename_i hb;exact (D8b.1 hb).1
    ·cases this
   ·obtain ⟨v0,v1,v2⟩:=hval j hj
    have a0:=(hread j 0 hj (by omega)).1
    have a1:=(hread j 1 hj (by omega)).1
    have a2:=(hread j 2 hj (by omega)).1
    rw [hadd] at a0 a1 a2
    rw [v0] at a0;rw [v1] at a1;rw [v2] at a2
    exact ⟨a0,a1,a2⟩
theorem C8g (l:List E6) (hlen:l.length≤1000) (hq:∀ x∈l,0≤x.qty∧x.qty≤100000) (hN:(H1 l l.length).length≤100000) (hmay:(P5 (fun _=>true) l==0)=true) (st:St) :
  S P 179 [A8 3 I7 l] st fun v st'=>v=C4 (H1 l l.length)∧st'=st:=by
 refine ⟨enters_of Tryz.func179 (by kernel_rfl) rfl,fun cargs w hr hS=>?_⟩
 have hrr:=hr
 obtain ⟨hlenA,hr⟩:=hr
 have h0:0<cargs.size:=by rw [←hlenA];exact Nat.one_pos
 have ha:=hr 0 _ cargs[0] rfl (D7x h0)
 have hc:∃ A c,cargs=#[.slice A l.length c]:=by
  have hh:Rep (A3N w st) (A1F w) (.arr 3 l.length (fun i=>I7 (l.getD i default))) cargs[0]:=ha
  generalize hv:cargs[0]=v at hh
  cases hh with
  | arr e n f A c g hc hA hle ho hr hg =>
   refine ⟨A,c,Array.ext (by rw [←hlenA];rfl) fun i h1 h2=>?_⟩
   have:i=0:=by simp at h2;exact h2
   subst this;rw [hv];rfl
 obtain ⟨A,c,rfl⟩:=hc
 have hm:Calls Tryz.prog 224 #[.slice A l.length c] w fun e w1=>e=.returned (.bool true)∧A4X w1.heap.size w1 A l∧(H9 st w1∧Evo st w st w1):=by
  refine ((D0Z l st).2 _ w hrr hS).mono ?_
  rintro e w1 ⟨v,cv,st',⟨rfl,rfl⟩,rfl,h3,h4,h5⟩
  rw [hmay] at h3
  cases h3
  exact ⟨rfl,C4t (h5.rep ha),h4,h5⟩
 refine (callsIn_wide.1 (C3x l hlen hq hN A c w _ hm)).mono ?_
 rintro e W' ⟨v,w1,⟨h4,h5⟩,rfl,hrow,hB⟩
 have hadds:A4f w1 W':=⟨hB.os,hB.tape,hB.output,hB.size,hB.block⟩
 exact ⟨_,v,st,⟨rfl,rfl⟩,rfl,C2t (fun b hb=>by
  cases hs:st b with
  | none=>rfl
  | some x =>
   obtain ⟨cs,hk⟩:=h4 b x hs
   have:=(D8b.1 hk.heap).1
   omega) hrow,h4.adds hadds,h5.trans (hadds.evo st)⟩
end Go.Proofs.YtaapofnkmpiknaaGreat
namespace Go.Proofs.YtaapofnkmpiknaaGreat
open Go Go.Proofs
def soF (x:Nat):Nat:=match x with
 | 5=>273
 | 8=>303
 | 7=>302
 | 19=>326
 | 20=>284
 | 10=>317
 | 11=>318
 | 12=>319
 | 13=>320
 | 14=>321
 | 15=>322
 | 16=>323
 | 17=>324
 | 18=>325
 | 30=>334
 | 31=>335
 | 32=>336
 | 33=>337
 | 34=>338
 | 35=>339
 | 40=>344
 | n=>n
def soT (x:Nat):Nat:=match x with
 | 23=>29
 | 25=>3
 | 3=>3
 | 32=>128
 | 22=>29
 | 0=>0
 | 44=>384
 | 46=>129
 | 4=>4
 | 36=>378
 | 35=>377
 | 41=>234
 | 5=>5
 | 9=>9
 | 53=>389
 | 57=>392
 | 63=>397
 | 64=>398
 | n=>n
def D2m:Go.Shelf.Ren:={ f:=soF,t:=soT,g:=fun n=>n }
theorem C0O:SlLaysM.n5 Tryz.prog D2m where
 mixed:=by kernel_rfl
 f5 := ⟨"slices.Sort[[]int,int]", by decide, Tryz.func273.trans (D9e some (by kernel_rfl))⟩
 f7 := ⟨"slices.pdqsortOrdered[int]", by decide, Tryz.func302.trans (D9e some (by kernel_rfl))⟩
 f8:=Tryz.func303.trans (D9e some (by kernel_rfl))
 f10 := ⟨"slices.insertionSortOrdered[int]", by decide, Tryz.func317.trans (D9e some (by kernel_rfl))⟩
 f11 := ⟨"slices.heapSortOrdered[int]", by decide, Tryz.func318.trans (D9e some (by kernel_rfl))⟩
 f12 := ⟨"slices.breakPatternsOrdered[int]", by decide, Tryz.func319.trans (D9e some (by kernel_rfl))⟩
 f13 := ⟨"slices.choosePivotOrdered[int]", by decide, Tryz.func320.trans (D9e some (by kernel_rfl))⟩
 f14 := ⟨"slices.reverseRangeOrdered[int]", by decide, Tryz.func321.trans (D9e some (by kernel_rfl))⟩
 f15 := ⟨"slices.partialInsertionSortOrdered[int]", by decide, Tryz.func322.trans (D9e some (by kernel_rfl))⟩
 f16 := ⟨"cmp.Less[int]", by decide, Tryz.func323.trans (D9e some (by kernel_rfl))⟩
 f17 := ⟨"slices.partitionEqualOrdered[int]", by decide, Tryz.func324.trans (D9e some (by kernel_rfl))⟩
 f18 := ⟨"slices.partitionOrdered[int]", by decide, Tryz.func325.trans (D9e some (by kernel_rfl))⟩
 f19:=Tryz.func326.trans (D9e some (by kernel_rfl))
 f20:=Tryz.func284.trans (D9e some (by kernel_rfl))
 f30 := ⟨"slices.siftDownOrdered[int]", by decide, Tryz.func334.trans (D9e some (by kernel_rfl))⟩
 f31:=Tryz.func335.trans (D9e some (by kernel_rfl))
 f32:=Tryz.func336.trans (D9e some (by kernel_rfl))
 f33 := ⟨"slices.medianAdjacentOrdered[int]", by decide, Tryz.func337.trans (D9e some (by kernel_rfl))⟩
 f34 := ⟨"slices.medianOrdered[int]", by decide, Tryz.func338.trans (D9e some (by kernel_rfl))⟩
 f35 := ⟨"cmp.isNaN[int]", by decide, Tryz.func339.trans (D9e some (by kernel_rfl))⟩
 f40 := ⟨"slices.order2Ordered[int]", by decide, Tryz.func344.trans (D9e some (by kernel_rfl))⟩
 t0:=Tryz.underlying0
 a0:=Tryz.isAgg0
 z0:=Tryz.sizeOf0
 v0:=Tryz.zeroValue0
 t3:=Tryz.underlying3
 a3:=Tryz.isAgg3
 z3:=Tryz.sizeOf3
 v3:=Tryz.zeroValue3
 t4:=Tryz.underlying4
 a4:=Tryz.isAgg4
 z4:=Tryz.sizeOf4
 v4:=Tryz.zeroValue4
 t5:=Tryz.underlying5
 a5:=Tryz.isAgg5
 z5:=Tryz.sizeOf5
 v5:=Tryz.zeroValue5
 t9:=Tryz.underlying9
 a9:=Tryz.isAgg9
 z9:=Tryz.sizeOf9
 v9:=Tryz.zeroValue9
 t22:=Tryz.underlying29
 a22:=Tryz.isAgg29
 z22:=Tryz.sizeOf29
 v22:=Tryz.zeroValue29
 t23:=Tryz.underlying29
 a23:=Tryz.isAgg29
 z23:=Tryz.sizeOf29
 v23:=Tryz.zeroValue29
 t25:=Tryz.underlying3
 a25:=Tryz.isAgg3
 z25:=Tryz.sizeOf3
 v25:=Tryz.zeroValue3
 t32:=Tryz.underlying128
 a32:=Tryz.isAgg128
 z32:=Tryz.sizeOf128
 v32:=Tryz.zeroValue128
 t35:=Tryz.underlying377
 a35:=Tryz.isAgg377
 z35:=Tryz.sizeOf377
 v35:=Tryz.zeroValue377
 t36:=Tryz.underlying378
 a36:=Tryz.isAgg378
 z36:=Tryz.sizeOf378
 v36:=Tryz.zeroValue378
 t41:=Tryz.underlying234
 a41:=Tryz.isAgg234
 z41:=Tryz.sizeOf234
 v41:=Tryz.zeroValue234
 t44:=Tryz.underlying384
 a44:=Tryz.isAgg384
 z44:=Tryz.sizeOf384
 v44:=Tryz.zeroValue384
 t46:=Tryz.underlying129
 a46:=Tryz.isAgg129
 z46:=Tryz.sizeOf129
 v46:=Tryz.zeroValue129
 t53:=Tryz.underlying389
 a53:=Tryz.isAgg389
 z53:=Tryz.sizeOf389
 v53:=Tryz.zeroValue389
 t57:=Tryz.underlying392
 a57:=Tryz.isAgg392
 z57:=Tryz.sizeOf392
 v57:=Tryz.zeroValue392
 t63:=Tryz.underlying397
 a63:=Tryz.isAgg397
 z63:=Tryz.sizeOf397
 v63:=Tryz.zeroValue397
 t64:=Tryz.underlying398
 a64:=Tryz.isAgg398
 z64:=Tryz.sizeOf398
 v64:=Tryz.zeroValue398
end Go.Proofs.YtaapofnkmpiknaaGreat
namespace Go.Proofs.YtaapofnkmpiknaaGreat
open Go Go.Ab
attribute [local irreducible] upd del
theorem A5B {x rate:Int} (hx:0≤x) (h0:0≤rate) (h1:rate≤10000):J9 x rate≤x:=by
 unfold J9 V7
 rw [if_pos ⟨h0,h1⟩]
 split
 ·exact hx
 ·split
  ·exact hx
  ·split
   ·exact hx
   ·show T8 (x * rate / 10000) (x * rate % 10000) 10000 1≤x
    have e1:=D8j (x * rate) 10000
    have e2:=D8F (x * rate) (show (10000:Int)≠0 by decide)
    have e3:=D8t (x * rate) (show (0:Int)<10000 by decide)
    have e4:x * rate≤x * 10000:=D7W h1 hx
    unfold T8
    rw [if_neg (by decide),if_pos rfl]
    split<;>omega
structure Off (us us':List B3) (x:Int):Prop where
 len:us'.length=us.length
 line:∀ k,(gU us' k).line=(gU us k).line
 net:∀ k,0≤(gU us' k).net∧(gU us' k).net≤(gU us k).net
 opn:∀ k,(gU us' k).opn=true→(gU us k).opn=true
 sum:A2 (D9 us')+x=A2 (D9 us)
 pos:0≤x
theorem E5.at0 {us:List B3} (h:E5 us) (k:Nat):0≤(gU us k).net:=by
 by_cases hk:k<us.length
 ·exact h.pos _ (A5 hk)
 ·have:gU us k=default:=by unfold gU;rw [D7c,D9C (by omega)];rfl
  rw [this];exact D7L _
theorem Off.refl {us:List B3} (h:E5 us):Off us us 0:=⟨rfl,fun _=>rfl,fun k=>⟨h.at0 k,D7L _⟩,fun _ h=>h,by omega,D7L _⟩
theorem Off.trans {a b c:List B3} {x y:Int} (h:Off a b x) (k:Off b c y):Off a c (x+y) :=
 ⟨k.len.trans h.len,fun i=>(k.line i).trans (h.line i),fun i=>⟨(k.net i).1,D9X (k.net i).2 (h.net i).2⟩,fun i hi=>h.opn i (k.opn i hi),by have:=h.sum;have:=k.sum;omega,by have:=h.pos;have:=k.pos;omega⟩
theorem Off.ok {us us':List B3} {x:Int} (h:Off us us' x) (hu:E5 us):E5 us' :=
 ⟨by rw [h.len];exact hu.len,fun u hm=>by obtain ⟨k,hk,rfl⟩:=D2 hm;exact (h.net k).1,by have:=h.sum;have:=h.pos;have:=hu.sum;omega⟩
theorem B4C {l:List Int} {j:Nat} (hj:j<l.length) (x:Int):A2 (l.set j x)+(gI l j - x)=A2 l:=by rw [B7S hj];omega
theorem Off.less1 {us:List B3} (h:E5 us) {i:Nat} {x:Int} (hi:i<us.length) (h0:0≤x) (h1:x≤(gU us i).net):Off us (less1 us i x) x:=by
 have hl:(Go.Proofs.YtaapofnkmpiknaaGreat.less1 us i x).length=us.length:=by unfold Go.Proofs.YtaapofnkmpiknaaGreat.less1;rw [D8p]
 have hg:∀ k,gU (Go.Proofs.YtaapofnkmpiknaaGreat.less1 us i x) k=if k=i then { gU us i with net:=(gU us i).net - x } else gU us k:=fun k=>by
  unfold Go.Proofs.YtaapofnkmpiknaaGreat.less1;exact A6k hi _ k
 refine ⟨hl,fun k=>?_,fun k=>?_,fun k hk=>?_,?_,h0⟩
 ·rw [hg];split
  ·rename_i e;subst e;rfl
  ·rfl
 ·rw [hg];split
  ·rename_i e;subst e
   show 0≤(gU us k).net - x∧(gU us k).net - x≤(gU us k).net
   omega
  ·exact ⟨h.at0 k,D7L _⟩
 ·rw [hg] at hk;split at hk
  ·rename_i e;subst e;exact hk
  ·exact hk
 ·have e1:D9 (Go.Proofs.YtaapofnkmpiknaaGreat.less1 us i x)=(D9 us).set i ((gU us i).net - x):=by
   unfold Go.Proofs.YtaapofnkmpiknaaGreat.less1 D9;rw [List.map_set]
  have e2:=B4C (l:=D9 us) (j:=i) (by rw [D7i];exact hi) ((gU us i).net - x)
  have e3:gI (D9 us) i=(gU us i).net:=D4 B3.net us hi
  rw [e1];omega
theorem Off.close1 {us:List B3} (h:E5 us) {i:Nat} (hi:i<us.length):Off us (close1 us i) 0:=by
 have hl:(Go.Proofs.YtaapofnkmpiknaaGreat.close1 us i).length=us.length:=by unfold Go.Proofs.YtaapofnkmpiknaaGreat.close1;rw [D8p]
 have hg:∀ k,gU (Go.Proofs.YtaapofnkmpiknaaGreat.close1 us i) k=if k=i then { gU us i with opn:=false } else gU us k:=fun k=>by
  unfold Go.Proofs.YtaapofnkmpiknaaGreat.close1;exact A6k hi _ k
 have hnet:∀ k,(gU (Go.Proofs.YtaapofnkmpiknaaGreat.close1 us i) k).net=(gU us k).net:=fun k=>by
  rw [hg];split
  ·rename_i e;subst e;rfl
  ·rfl
 refine ⟨hl,fun k=>?_,fun k=>?_,fun k hk=>?_,?_,D7L _⟩
 ·rw [hg];split
  ·rename_i e;subst e;rfl
  ·rfl
 ·rw [hnet];exact ⟨h.at0 k,D7L _⟩
 ·rw [hg] at hk;split at hk
  ·rename_i e;subst e;cases hk
  ·exact hk
 ·have e1:D9 (Go.Proofs.YtaapofnkmpiknaaGreat.close1 us i)=(D9 us).set i (gU us i).net:=by
   unfold Go.Proofs.YtaapofnkmpiknaaGreat.close1 D9;rw [List.map_set]
  have e2:=B4C (l:=D9 us) (j:=i) (by rw [D7i];exact hi) (gU us i).net
  have e3:gI (D9 us) i=(gU us i).net:=D4 B3.net us hi
  rw [e1];omega
theorem Off.closeB {us:List B3} (h:E5 us):∀ mine:List Int,(∀ x∈mine,x.toNat<us.length)→Off us (closeB us mine) 0:=by
 intro mine
 induction mine generalizing us with
 | nil=>intro _;exact Off.refl h
 | cons x l ih =>
  intro hx
  have h1:=Off.close1 h (hx x (D7G ..))
  have h2:=ih (h1.ok h) (fun y hy=>by rw [h1.len];exact hx y (D7E _ hy))
  have:=h1.trans h2
  rw [D9s] at this
  exact this
theorem R9 {st:St} {a b:Nat} {x y:L7} (h:a≠b):upd (upd st a x) b y=upd (upd st b y) a x:=by
 funext c
 by_cases h1:c=a
 ·subst h1;rw [B0 h,A0,A0]
 ·by_cases h2:c=b
  ·subst h2;rw [A0,B0 h1,A0]
  ·rw [B0 h2,B0 h1,B0 h1,B0 h2]
theorem C5 {st:St} {a:Nat} {x y:L7}:upd (upd st a x) a y=upd st a y:=by
 funext c
 by_cases h:c=a
 ·subst h;rw [A0,A0]
 ·rw [B0 h,B0 h,B0 h]
theorem C5V {st:St} {a:Nat} {x:L7} (h:st a=some x):upd st a x=st:=by
 funext c
 by_cases e:c=a
 ·subst e;rw [A0,h]
 ·rw [B0 e]
theorem D0w {st st':St} {a:Nat} {x:L7} (h:st' a=some x) (hf:∀ c,c≠a→st' c=st c):st'=upd st a x:=by
 funext c
 by_cases e:c=a
 ·subst e;rw [A0,h]
 ·rw [B0 e,hf c e]
theorem F8.write {st0 st:St} {b:Nat} {y y':L7} (h:F8 st0 st):F8 (upd st0 b y') (upd st b y'):=fun c x hc=>by
 by_cases e:c=b
 ·subst e;rw [A0] at hc ⊢;exact hc
 ·rw [B0 e] at hc ⊢;exact h c x hc
theorem QSt.write {st0 st:St} {q b:Nat} {f:Bool} {es:List QE} {y y':L7} (h:QSt st0 q f es st) (hb:st0 b=some y):QSt (upd st0 b y') q f es (upd st b y'):=by
 obtain ⟨h1,h2,sv,⟨fq,hqs,hq0⟩,h3⟩:=h
 have hqb:q≠b:=fun e=>by subst e;rw [h1] at hb;cases hb
 refine ⟨by rw [B0 hqb];exact h1,F8.write (y:=y) h2,sv,⟨fq,by rw [B0 hqb];exact hqs,hq0⟩,?_⟩
 rcases h3 with h3 | ⟨c,l,n,a1,a2,a3,a4,a5,a6,⟨fe,hes,hef⟩,a8,a9⟩
 ·exact .inl h3
 ·have hcb:c≠b:=fun e=>by subst e;rw [a2] at hb;cases hb
  exact .inr ⟨c,l,n,a1,by rw [B0 hcb];exact a2,a3,a4,a5,a6,⟨fe,by rw [B0 hcb];exact hes,hef⟩,a8,a9⟩
theorem QSt.forget {st0 st:St} {q b:Nat} {f:Bool} {es:List QE} {y:L7} (h:QSt (upd st0 b y) q f es st) (hb:st0 b=none):QSt st0 q f es (del st b):=by
 obtain ⟨h1,h2,sv,⟨fq,hqs,hq0⟩,h3⟩:=h
 have hqb:q≠b:=fun e=>by subst e;rw [A0] at h1;cases h1
 have hd:∀ c,c≠b→del st b c=st c:=fun c hc=>by unfold del;rw [if_neg hc]
 refine ⟨by rw [B0 hqb] at h1;exact h1,fun c x hc=>?_,sv,⟨fq,by rw [hd q hqb];exact hqs,hq0⟩,?_⟩
 ·have hcb:c≠b:=fun e=>by subst e;rw [hb] at hc;cases hc
  rw [hd c hcb];exact h2 c x (by rw [B0 hcb];exact hc)
 ·rcases h3 with h3 | ⟨c,l,n,a1,a2,a3,a4,a5,a6,⟨fe,hes,hef⟩,a8,a9⟩
  ·exact .inl h3
  ·have hcb:c≠b:=fun e=>by subst e;rw [A0] at a2;cases a2
   rw [B0 hcb] at a2
   exact .inr ⟨c,l,n,a1,a2,a3,a4,a5,a6,⟨fe,by rw [hd c hcb];exact hes,hef⟩,a8,a9⟩
theorem A1a.write {ty e:Nat} {fo:Nat→AV} {n:Nat} {st1:St} {q:Nat} {f:Bool} {es:List QE} {sv:AV} {st':St} {b:Nat} {y y':L7} (h:A1a ty e fo n st1 q f es sv st') (hb:st1 b=some y):A1a ty e fo n (upd st1 b y') q f es sv (upd st' b y'):=by
 rcases h with ⟨h1,h2,h⟩ | ⟨h0,bo,g,h1,h2,h3,h⟩
 ·exact .inl ⟨h1,h2,h.write hb⟩
 ·have hne:bo≠b:=fun e=>by subst e;rw [h1] at hb;cases hb
  refine .inr ⟨h0,bo,g,by rw [B0 hne];exact h1,h2,h3,?_⟩
  rw [←R9 hne]
  exact h.write (y:=y) (by rw [B0 hne.symm];exact hb)
theorem A1a.shiftQ {ty e:Nat} {fo:Nat→AV} {n:Nat} {st1:St} {q:Nat} {f:Bool} {es:List QE} {sv:AV} {st':St} (h:A1a ty e fo n st1 q f es sv st'):∃ st'',A7 [sv] st' [.arr e n fo] st''∧QSt st1 q f es st'':=by
 rcases h with ⟨rfl,rfl,h⟩ | ⟨h0,bo,g,h1,rfl,h3,h⟩
 ·exact ⟨st',I5 e fo,h⟩
 ·exact ⟨del st' bo,P1 (h.sup bo _ (A0 ..)) rfl (D7l _) h3,h.forget h1⟩
theorem A1a.col {ty e:Nat} {fo:Nat→AV} {n:Nat} {st1:St} {q:Nat} {f:Bool} {es:List QE} {sv:AV} {st':St} (h:A1a ty e fo n st1 q f es sv st'):∃ st0,Col ty e fo st1 n sv st0∧QSt st0 q f es st':=by
 rcases h with ⟨rfl,rfl,h⟩ | ⟨h0,bo,g,h1,rfl,h3,h⟩
 ·exact ⟨st1,Col.start _ _ _ _,h⟩
 ·exact ⟨_,.inr ⟨h0,bo,g,h1,rfl,rfl,h3⟩,h⟩
theorem A1a.of {ty e:Nat} {fo:Nat→AV} {n:Nat} {st1 st0:St} {q:Nat} {f:Bool} {es:List QE} {sv:AV} {st':St} (h:Col ty e fo st1 n sv st0) (hq:QSt st0 q f es st'):A1a ty e fo n st1 q f es sv st':=by
 rcases h with ⟨rfl,rfl,rfl⟩ | ⟨h0,bo,g,h1,rfl,rfl,h3⟩
 ·exact .inl ⟨rfl,rfl,hq⟩
 ·exact .inr ⟨h0,bo,g,h1,rfl,h3,hq⟩
theorem Col.write {ty e:Nat} {fo:Nat→AV} {n:Nat} {base st0:St} {sv:AV} {b:Nat} {y y':L7} (h:Col ty e fo base n sv st0) (hb:base b=some y):Col ty e fo (upd base b y') n sv (upd st0 b y'):=by
 rcases h with ⟨rfl,rfl,rfl⟩ | ⟨h0,bo,g,h1,rfl,rfl,h3⟩
 ·exact Col.start _ _ _ _
 ·have hne:bo≠b:=fun e=>by subst e;rw [h1] at hb;cases hb
  exact .inr ⟨h0,bo,g,by rw [B0 hne];exact h1,rfl,R9 hne,h3⟩
theorem A1a.apps {T:H5} {t:TypeId} {x sv:AV} {st1 st':St} {k:KK} {r q:C0} {el n m qq:Nat} {fl:Bool} {es:List QE} {f g:Nat→AV} (hr:T t=some r) (hd:r.desc=.slice el) (hq:T el=some q)
  (hz:(Nat.blt 0 q.size&&Nat.blt 0 q.bytes&&Nat.beq q.zero.cells.size q.size)=true) (hs:A0v q.size st' x=some (m,g)) (hg:∀ i,i<m→g i=f (n+i)) (hb:(n+m) * q.bytes≤140737488355328)
  (hc:A1a el q.size f n st1 qq fl es sv st') (hk:∀ sv' st'',A1a el q.size f (n+m) st1 qq fl es sv' st''→k sv' st''):A5V T t sv x st' k:=by
 rcases hc with ⟨rfl,rfl,h⟩ | ⟨h0,bo,y,h1,rfl,h4,h⟩
 ·refine apE hr hd hq hz hs (by simpa using hb) (fun h0=>hk _ _ (.inl ⟨by omega,rfl,h⟩)) (fun hm b hb=>?_)
  obtain ⟨hb0,hn⟩:=h.begin (y:=⟨el,q.size,m,g⟩) hb
  refine hk _ _ ?_
  rw [D7o]
  exact .inr ⟨hm,b,g,hb0,rfl,fun k hk=>by have:=hg k hk;rwa [D7o] at this,hn⟩
 ·have hby:st' bo=some ⟨el,q.size,n,y⟩:=h.sup bo _ (A0 ..)
  refine apO hr hd hq hz hs hby rfl rfl rfl hb (fun h0'=>hk _ _ ?_) (fun _ b' hb'=>?_)
  ·subst h0';exact .inr ⟨h0,bo,y,h1,rfl,h4,h⟩
  obtain ⟨hb0,hn⟩:=h.grow (y':=⟨el,q.size,n+m,fun i=>if i<n then y i else g (i - n)⟩) h1 hb'
  refine hk _ _ (.inr ⟨by omega,b',_,hb0,rfl,fun k hk=>?_,hn⟩)
  by_cases hkn:k<n
  ·simp only [hkn,if_true];exact h4 k hkn
  ·simp only [hkn,D9L]
   rw [hg (k - n) (by omega)];congr 1;omega
def C1x (us:List B3) (i:Int):QE:=((gU us i.toNat).net,i)
def E1 (us:List B3) (mine:List Int):List QE:=(mine.map (C1x us)).mergeSort fun a b=>!H2 b a
theorem A3E (us:List B3) (mine:List Int):(E1 us mine).Perm (mine.map (C1x us)):=D9Q ..
theorem A2v (us:List B3) (mine:List Int):(E1 us mine).length=mine.length:=by rw [(A3E us mine).length_eq,D7i]
theorem A5D (l:List QE):(l.mergeSort fun a b=>!H2 b a).Pairwise fun a b=>H2 b a=false:=by
 have:=D9u (le:=fun a b:QE=>!H2 b a) (fun a b c h1 h2=>by simp only [D7v] at *;exact A0T h2 h1) (fun a b=>by
  cases h:H2 b a with
  | false=>rfl
  | true=>rw [A0F h];rfl) l
 exact this.imp (fun h=>by simpa using h)
theorem A6Z {us:List B3} {mine:List Int} (hm:∀ k,k<mine.length→0≤gI mine k∧(gI mine k).toNat<us.length) {e:QE} (h:e∈E1 us mine):0≤e.2∧e.2.toNat<us.length:=by
 obtain ⟨k,hk,rfl⟩:=D7y.1 ((A3E us mine).subset h)
 obtain ⟨j,hj,rfl⟩:=D2 hk
 exact hm j hj
theorem A9y (us:List B3) (mine:List Int) (hl:us.length≤100000) (hml:mine.length≤100000) (hm:∀ k,k<mine.length→0≤gI mine k∧(gI mine k).toNat<us.length) (st:St) :
  S P 295 [C4 us,A9 mine] st fun v st'=>∃ q,v=.optr 1 q 0 0∧QSt st q true (E1 us mine) st':=by
 refine F7 [] Tryz.func295 ?_
 refine call (B2y st) (fun v st1 hv=>?_)
 obtain ⟨q,rfl,hq⟩:=hv
 conv=>whnf
 refine ⟨[0,5,9,10,11],fun m vs st'=>∃ i:Nat,i≤mine.length∧m=mine.length - i∧vs=[C4 us,.optr 1 q 0 0,A9 mine,eI mine.length,eI i]∧QSt st q true ((mine.take i).map (C1x us)) st',?_,?_⟩
 ·conv=>whnf
  exact ⟨_,0,D7C _,rfl,rfl,hq⟩
 ·clear hq
  rintro m vs st' ⟨i,hi,rfl,rfl,hq⟩
  conv=>whnf
  cases h:decide ((i:Int)<(mine.length:Int))
  ·have:=D7g h
   obtain rfl:i=mine.length:=by omega
   rw [D7m] at hq;conv=>whnf
   exact ⟨q,rfl,hq.perm (A3E us mine).symm⟩
  ·have hi':i<mine.length:=by have:=D7h h;omega
   have hr:=hm i hi'
   conv=>whnf
   refine E9 ?_
   refine ⟨rfl,⟨by show 0≤gI mine i;omega,by show gI mine i<(us.length:Int);omega⟩,?_⟩;conv=>whnf
   refine call (A8W st q _ (gU us (gI mine i).toNat).net (gI mine i) _ hq (by rw [D7i,D7n];omega)) (fun v st'' hv=>?_)
   obtain ⟨rfl,hq'⟩:=hv
   conv=>whnf
   refine G3 ?_
   refine ⟨mine.length - (i+1),by omega,i+1,by omega,rfl,by rw [B4 (by omega)],?_⟩
   rw [L6 hi',D7M];exact hq'
def A1n (p:B1) (us:List B3) (es:List QE):Nat→List B3×Int
 | 0=>(us,0)
 | k+1=>if (k:Int)<p.buy then A1n p us es k else
  (less1 (A1n p us es k).1 (at_ es k).2.toNat (J9 (gU (A1n p us es k).1 (at_ es k).2.toNat).net p.rate),(A1n p us es k).2+J9 (gU (A1n p us es k).1 (at_ es k).2.toNat).net p.rate)
structure B1o (p:B1):Prop where
 buy:1≤p.buy∧p.buy≤100
 get:1≤p.get∧p.get≤100
 rate:0≤p.rate∧p.rate≤10000
theorem A9c {p:B1} (hp:B1o p) {us:List B3} (hu:E5 us) {es:List QE} (hr:∀ e∈es,0≤e.2∧e.2.toNat<us.length):∀ k,k≤es.length→Off us (A1n p us es k).1 (A1n p us es k).2
 | 0,_=>Off.refl hu
 | k+1,hk=>by
  have ih:=A9c hp hu hr k (by omega)
  have hx:=hr (at_ es k) (A5 (by omega))
  unfold A1n
  split
  ·exact ih
  ·refine ih.trans (Off.less1 (ih.ok hu) (by rw [ih.len];exact hx.2) (U7 _ _).1 (A5B (ih.net _).1 hp.rate.1 hp.rate.2))
theorem D2k (p:B1) (hp:B1o p) (us:List B3) (hu:E5 us) (es:List QE) (hr:∀ e∈es,0≤e.2∧e.2.toNat<us.length) (hs:es.Pairwise fun a b=>H2 b a=false) (m:Nat) (hm:(m:Int)=p.buy+p.get) (hme:m≤es.length)
  (st0 st:St) (bo q:Nat) (fl:Bool) (ho:A5Z st0 bo us) (hq:QSt st0 q fl es st) :
  S P 296 [B8 p,.own 3 bo 0 us.length,.optr 1 q 0 0] st fun v st'=>v=.tuple [A9 ((es.take m).map (·.2)),eI (A1n p us es m).2]∧∃ st1 fl',A5Z st1 bo (A1n p us es m).1∧(∀ c,c≠bo→st1 c=st0 c)∧QSt st1 q fl' (es.drop m) st':=by
 have hB:=hp.buy
 have hG:=hp.get
 have hul:=hu.len
 refine S.post (post:=fun v st'=>∃ sv st1 fl',v=.tuple [sv,eI (A1n p us es m).2]∧A5Z st1 bo (A1n p us es m).1∧(∀ c,c≠bo→st1 c=st0 c)∧A1a 3 1 (fun k=>eI (at_ es k).2) m st1 q fl' (es.drop m) sv st') ?_
  (fun v st' ⟨sv,st1,fl',hv,h1,h2,h3⟩=>by
   obtain ⟨st'',h4,h5⟩:=h3.shiftQ
   have e:A9 ((es.take m).map (·.2))=.arr 1 m (fun k=>eI (gI ((es.take m).map (·.2)) k)):=by unfold A9 A8;rw [D7i,D7n,E0j hme]
   have e2:A7 [.arr 1 m (fun k=>eI (at_ es k).2)] st'' [A9 ((es.take m).map (·.2))] st'':=by
    rw [e]
    exact A7.arr fun i hi=>by
     have:gI ((es.take m).map (·.2)) i=(at_ es i).2:=by
      have h6:=D4 (fun e:QE=>e.2) (es.take m) (i:=i) (by rw [D7n];omega)
      rw [show gI ((es.take m).map (·.2)) i=((es.take m).map fun e:QE=>e.2).getD i default from rfl,h6]
      unfold at_
      rw [D7c,D7c,D7r hi]
     rw [this]
   exact ⟨_,st'',⟨rfl,st1,fl',h1,h2,h5⟩,by rw [hv];exact A7.tuple (A7.cons (h4.trans e2) (A7.keep _ _)) rfl⟩)
 refine F7 [3] Tryz.func296 ?_
 have w0:IntKind.i64.wrap (p.buy+p.get)=(m:Int):=by rw [A4 (by omega) (by omega)];omega
 rw [w0]
 refine ⟨[1,2,3,8,9,20,21],fun mm vs st'=>∃ (k:Nat) (sv:AV) (st1:St) (fl':Bool),k≤m∧mm=m - k∧vs=[.own 3 bo 0 us.length,.optr 1 q 0 0,.fptr (B8 p) 0,sv,eI (A1n p us es k).2,eI m,eI k]∧A5Z st1 bo (A1n p us es k).1∧(∀ c,c≠bo→st1 c=st0 c)∧A1a 3 1 (fun k=>eI (at_ es k).2) k st1 q fl' (es.drop k) sv st',?_,?_⟩
 ·conv=>whnf
  exact ⟨_,0,.emp,st0,fl,D7C _,rfl,rfl,ho,fun _ _=>rfl,.inl ⟨rfl,rfl,hq⟩⟩
 ·clear ho hq
  rintro mm vs st' ⟨k,sv,st1,fl',hk,rfl,rfl,ho,hfr,hout⟩
  conv=>whnf
  cases h:decide ((k:Int)<(m:Int))
  ·have:=D7g h
   obtain rfl:k=m:=by omega
   conv=>whnf
   exact ⟨sv,st1,fl',rfl,ho,hfr,hout⟩
  ·have hk':k<m:=by have:=D7h h;omega
   have hsplit:es.drop k=at_ es k::es.drop (k+1):=by
    have:at_ es k=es[k]:=by unfold at_;simp [show k<es.length by omega]
    rw [this];exact D9h (by omega)
   have htop:∀ y∈es.drop (k+1),H2 y (at_ es k)=false:=fun y hy=>by
    have:=hs.sublist (D9P k _)
    rw [hsplit,D8K] at this
    exact this.1 y hy
   have hoff:=A9c hp hu hr k (by omega)
   have hx:=hr (at_ es k) (A5 (by omega))
   have hF:A1n p us es (k+1)=if (k:Int)<p.buy then A1n p us es k else
    (less1 (A1n p us es k).1 (at_ es k).2.toNat (J9 (gU (A1n p us es k).1 (at_ es k).2.toNat).net p.rate),(A1n p us es k).2+J9 (gU (A1n p us es k).1 (at_ es k).2.toNat).net p.rate):=rfl
   rw [hsplit] at hout
   generalize hFk:A1n p us es k=F at *
   conv=>whnf
   refine call (hout.pop_S htop) (fun v st'' hv=>?_)
   obtain ⟨rfl,hout'⟩:=hv
   conv=>whnf
   refine A1a.app (q:=r3) rfl rfl rfl rfl rfl rfl (by show (k+1) * 8≤140737488355328;omega) hout' (fun sv' st3 hout3=>?_);conv=>whnf
   refine B7 (fun h1=>?_) (fun h1=>?_)<;>rw [h1]<;>simp only [D7d,D7e] at h1
   ·conv=>whnf
    refine G3 ?_
    refine ⟨m - (k+1),by omega,k+1,sv',st1,false,by omega,rfl,?_,?_,hfr,hout3⟩
    ·rw [B4 (by omega),hF,if_pos h1]
    ·rw [hF,if_pos h1];exact ho
   ·obtain ⟨f,hst,hf⟩:=ho
    have hst3:=hout3.sup bo _ hst
    have hlen:=hoff.len
    have hfm:f (0+(at_ es k).2.toNat)=A0i (gU F.1 (at_ es k).2.toNat):=by rw [D7o];exact hf _ (by omega)
    have hn0:=hoff.net (at_ es k).2.toNat
    have hn1:(gU us (at_ es k).2.toNat).net≤10000000000000:=hu.le (A5 hx.2)
    have hb:=U7 (gU F.1 (at_ es k).2.toNat).net p.rate
    have hle:J9 (gU F.1 (at_ es k).2.toNat).net p.rate≤(gU F.1 (at_ es k).2.toNat).net:=A5B hn0.1 hp.rate.1 hp.rate.2
    have hp0:=hoff.pos
    have hps:=hoff.sum
    have hps2:=C1 (hoff.ok hu).nets0
    have hps3:=hu.sum
    conv=>whnf
    refine ⟨[],[],[0,1,2,3,4,5,6,7,8,9,10,11,12],by kernel_rfl,?_⟩;conv=>whnf
    refine E9 ?_
    refine L1 hst3 hfm ?_
    refine cqW (B5z _ _ _ _) ?_
    refine E9 ?_
    refine L1 hst3 hfm ?_
    refine E9 ?_
    refine stW hst3 hfm ?_
    refine G3 ?_
    refine ⟨m - (k+1),by omega,k+1,sv',_,false,by omega,rfl,?_,?_,?_,hout3.write hst⟩
    ·rw [B4 (by omega),hF,if_neg h1]
     have w:IntKind.i64.wrap (F.2+J9 (gU F.1 (at_ es k).2.toNat).net p.rate)=F.2+J9 (gU F.1 (at_ es k).2.toNat).net p.rate:=A4 (by omega) (by omega)
     show _=[AV.own 3 bo 0 us.length,AV.optr 1 q 0 0,AV.fptr (B8 p) 0,sv',eI (F.2+J9 (gU F.1 (at_ es k).2.toNat).net p.rate),eI m,eI (k+1:Nat)]
     rw [←w];rfl
    ·rw [hF,if_neg h1]
     refine A5Z.set hf (by omega) _ ?_
     rw [A0,D7o]
     have w:IntKind.i64.wrap ((gU F.1 (at_ es k).2.toNat).net - J9 (gU F.1 (at_ es k).2.toNat).net p.rate)=(gU F.1 (at_ es k).2.toNat).net - J9 (gU F.1 (at_ es k).2.toNat).net p.rate:=A4 (by omega) (by omega)
     rw [←w];rfl
    ·intro c hc
     rw [B0 hc];exact hfr c hc
def bgF (p:B1) (us:List B3) (d:List QE) (m:Nat):Nat→List B3×Int
 | 0=>(us,0)
 | r+1=>((A1n p (bgF p us d m r).1 (d.drop (r * m)) m).1,(bgF p us d m r).2+(A1n p (bgF p us d m r).1 (d.drop (r * m)) m).2)
theorem B0W {p:B1} (hp:B1o p) {us:List B3} (hu:E5 us) {d:List QE} {m:Nat} (hr:∀ e∈d,0≤e.2∧e.2.toNat<us.length):∀ r,r * m≤d.length→Off us (bgF p us d m r).1 (bgF p us d m r).2
 | 0,_=>Off.refl hu
 | r+1,h=>by
  have e:(r+1) * m=r * m+m:=Nat.succ_mul r m
  have ih:=B0W hp hu (m:=m) hr r (by omega)
  unfold bgF
  exact ih.trans (A9c hp (ih.ok hu) (fun x hx=>by rw [ih.len];exact hr x (List.drop_subset _ _ hx)) m (by rw [D9I];omega))
def X7 (p:B1) (us:List B3) (mine:List Int):List B3×Int :=
 let d:=E1 us mine
 let m:=(p.buy+p.get).toNat
 let F:=bgF p us d m (d.length / m)
 (if (decide (F.2>0)&&p.closes)=true then closeB F.1 ((d.take (d.length / m * m)).map (·.2)) else F.1,F.2)
theorem B6q {p:B1} (hp:B1o p) {us:List B3} (hu:E5 us) {mine:List Int} (hm:O4 us mine):Off us (X7 p us mine).1 (X7 p us mine).2:=by
 have hr:∀ e∈E1 us mine,0≤e.2∧e.2.toNat<us.length:=fun e he=>A6Z hm.rng he
 have h1:=B0W hp hu (m:=(p.buy+p.get).toNat) hr ((E1 us mine).length / (p.buy+p.get).toNat) (Nat.div_mul_le_self ..)
 unfold X7
 simp only
 split
 ·have h2:=Off.closeB (h1.ok hu) (((E1 us mine).take ((E1 us mine).length / (p.buy+p.get).toNat * (p.buy+p.get).toNat)).map (·.2)) (fun x hx=>by
   obtain ⟨e,he,rfl⟩:=D7y.1 hx
   rw [h1.len];exact (hr e (D8e _ _ he)).2)
  have h3:=h1.trans h2
  rw [D9s] at h3;exact h3
 ·exact h1
theorem B6C (d:List QE) {n k:Nat} (hn:n≤d.length) (hk:k<n):gI ((d.take n).map (·.2)) k=(at_ d k).2:=by
 have h6:=D4 (fun e:QE=>e.2) (d.take n) (i:=k) (by rw [D7n];omega)
 rw [show gI ((d.take n).map (·.2)) k=((d.take n).map fun e:QE=>e.2).getD k default from rfl,h6]
 unfold at_
 rw [D7c,D7c,D7r hk]
theorem B7H (d:List QE) {n:Nat} (hn:n≤d.length) (st:St):A7 [.arr 1 n (fun k=>eI (at_ d k).2)] st [A9 ((d.take n).map (·.2))] st:=by
 have e:A9 ((d.take n).map (·.2))=.arr 1 n (fun k=>eI (gI ((d.take n).map (·.2)) k)):=by unfold A9 A8;rw [D7i,D7n,E0j hn]
 rw [e]
 exact A7.arr fun i hi=>by rw [B6C d hn hi]
theorem B5R {L:List Int} {m:Nat} (h:L.length=m) (s:St):A0v 1 s (A9 L)=some (m,fun k=>eI (gI L k)):=by
 subst h;exact A3P ..
theorem C3L (p:B1) (us:List B3) (mine:List Int) (hfit:R5 p) (hright:I0 p=true) (hk:p.kind=3) (hp:B1o p) (hu:E5 us) (hm:O4 us mine) (st:St) :
  S P 271 [B8 p,C4 us,A9 mine] st fun v st'=>v=.tuple [C4 (X7 p us mine).1,eI (X7 p us mine).2]∧st'=st:=by
 refine S.post (post:=fun v st'=>∃ sv,v=.tuple [sv,eI (X7 p us mine).2]∧A5S st (X7 p us mine).1 sv st') ?_
  (fun v st' ⟨sv,hv,hr⟩=>⟨_,st,⟨rfl,rfl⟩,by rw [hv];exact A7.tuple (A7.cons hr.shift (A7.keep _ _)) rfl⟩)
 have hul:=hu.len
 have hml:=hm.len
 have hB:=hp.buy
 have hG:=hp.get
 have hdl:=A2v us mine
 have hdr:∀ e∈E1 us mine,0≤e.2∧e.2.toNat<us.length:=fun e he=>A6Z hm.rng he
 have hds:=A5D (mine.map (C1x us))
 have hM:X7 p us mine=(if (decide ((bgF p us (E1 us mine) (p.buy+p.get).toNat ((E1 us mine).length / (p.buy+p.get).toNat)).2>0)&&p.closes)=true then closeB (bgF p us (E1 us mine) (p.buy+p.get).toNat ((E1 us mine).length / (p.buy+p.get).toNat)).1 (((E1 us mine).take ((E1 us mine).length / (p.buy+p.get).toNat * (p.buy+p.get).toNat)).map (·.2)) else (bgF p us (E1 us mine) (p.buy+p.get).toNat ((E1 us mine).length / (p.buy+p.get).toNat)).1,(bgF p us (E1 us mine) (p.buy+p.get).toNat ((E1 us mine).length / (p.buy+p.get).toNat)).2):=rfl
 generalize hmm:(p.buy+p.get).toNat=m at *
 have hmI:(m:Int)=p.buy+p.get:=by omega
 have hm0:0<m:=by omega
 generalize hdd:(E1 us mine).length / m=c at *
 have hcm:c * m≤(E1 us mine).length:=by rw [←hdd];exact Nat.div_mul_le_self ..
 have hcl:c≤100000:=by rw [←hdd];exact D8r (Nat.div_le_self ..) (by omega)
 refine F7 [3] Tryz.func271 ?_
 refine call (B1C us hul st) (fun sv st1 hcol=>?_)
 have hres:=A5S.ofCol hcol
 conv=>whnf
 refine B7 (fun h1=>?_) (fun h1=>?_)<;>rw [h1]<;>simp only [hk] at h1
 ·simp at h1
 conv=>whnf
 refine B2 (B1h p hfit _) ?_
 rw [hright];conv=>whnf
 refine I3 (B1G us mine hu hm _) ?_
 refine call (A9y us mine hul (by omega) hm.rng _) (fun v st2 hv=>?_)
 obtain ⟨q,rfl,hq⟩:=hv
 conv=>whnf
 refine ⟨[],[],[0,1,2,3,4,5,6,7,8],by kernel_rfl,?_⟩;conv=>whnf
 refine cqW (A9X _ _ _ _ _ hq) ?_
 have w0:IntKind.i64.wrap (p.buy+p.get)=(m:Int):=by rw [A4 (by omega) (by omega)];omega
 rw [w0]
 refine B7 (fun h2=>absurd (D7h h2) (by omega)) (fun h2=>?_);conv=>whnf
 have w1:IntKind.i64.wrap (((E1 us mine).length:Int).tdiv (m:Int))=(c:Int):=by
  rw [D8L (by omega),←Int.natCast_ediv,hdd];exact A4 (by omega) (by omega)
 rw [w1]
 refine ⟨[3,8,9,10,11,41,42],fun mm vs st'=>∃ (r:Nat) (svT:AV) (base:St) (fl:Bool),r≤c∧mm=c - r∧vs=[.fptr (B8 p) 0,sv,.optr 1 q 0 0,svT,eI (bgF p us (E1 us mine) m r).2,eI c,eI r]∧A5S st (bgF p us (E1 us mine) m r).1 sv base∧A1a 3 1 (fun k=>eI (at_ (E1 us mine) k).2) (r * m) base q fl ((E1 us mine).drop (r * m)) svT st',?_,?_⟩
 ·conv=>whnf
  exact ⟨_,0,.emp,st1,true,D7C _,rfl,rfl,hres,.inl ⟨Nat.zero_mul _,rfl,by rw [Nat.zero_mul];exact hq⟩⟩
 ·clear hq hcol hres
  rintro mm vs st' ⟨r,svT,base,fl,hr,rfl,rfl,hres,hout⟩
  have hrm:r * m≤c * m:=D8c m hr
  have hoff:=B0W hp hu (m:=m) hdr r (by omega)
  conv=>whnf
  cases h:decide ((r:Int)<(c:Int))
  ·have:=D7g h
   obtain rfl:r=c:=by omega
   generalize bgF p us (E1 us mine) m r=F at *
   rw [hM]
   have hsup:F8 base st':=hout.sup
   have fin:A5S st F.1 sv st':=by
    refine ⟨hres.1.trans hsup,?_⟩
    rcases hres.2 with h3 | ⟨b,h3,h4,f,h5,h6⟩
    ·exact .inl h3
    ·exact .inr ⟨b,h3,h4,f,hsup b _ h5,h6⟩
   conv=>whnf
   refine B7 (fun h3=>?_) (fun h3=>?_)<;>rw [h3]
   ·conv=>whnf
    refine B7 (fun h4=>?_) (fun h4=>?_)<;>rw [h4]
    ·conv=>whnf
     rcases hres.2 with ⟨h5,rfl⟩ | ⟨b,hb0,rfl,hHas⟩
     ·exfalso
      have h6:=hoff.len
      rw [h5] at h6
      have h7:=D7h h3
      have h8:=hoff.sum
      have h9:us=[]:=D7O h6.symm
      rw [h5,h9] at h8
      simp [A2] at h8
      omega
     ·have hcl2:∀ x∈((E1 us mine).take (r * m)).map (·.2),0≤x∧x.toNat<F.1.length:=fun x hx=>by
       obtain ⟨e,he,rfl⟩:=D7y.1 hx
       rw [hoff.len];exact hdr e (D8e _ _ he)
      refine E2 (args':=[.own 3 b 0 F.1.length,A9 (((E1 us mine).take (r * m)).map (·.2))]) (A7.cons (A7.keep _ _) (hout.shift.trans (B7H _ hcm base))) (call (B4U b F.1 (((E1 us mine).take (r * m)).map (·.2)) hcl2 (by rw [D7i,D7n];omega) base hHas) (fun v st3 hv=>?_))
      obtain ⟨rfl,hH3,hfr⟩:=hv
      conv=>whnf
      refine ⟨_,rfl,?_⟩
      show A5S st (closeB F.1 (((E1 us mine).take (r * m)).map (·.2))) _ st3
      refine ⟨fun x y hx=>?_,.inr ⟨b,hb0,by rw [A2u],hH3⟩⟩
      rw [hfr x (fun e=>by subst e;rw [hb0] at hx;cases hx)];exact hres.1 x y hx
    ·conv=>whnf
     refine ⟨_,rfl,?_⟩
     exact fin
   ·conv=>whnf
    refine ⟨_,rfl,?_⟩
    exact fin
  ·have hr':r<c:=by have:=D7h h;omega
   have e1:(r+1) * m=r * m+m:=Nat.succ_mul r m
   have hrm2:(r+1) * m≤c * m:=D8c m hr'
   have hoff2:=B0W hp hu (m:=m) hdr (r+1) (by omega)
   have hF2:bgF p us (E1 us mine) m (r+1)=((A1n p (bgF p us (E1 us mine) m r).1 ((E1 us mine).drop (r * m)) m).1,(bgF p us (E1 us mine) m r).2+(A1n p (bgF p us (E1 us mine) m r).1 ((E1 us mine).drop (r * m)) m).2):=rfl
   rw [hF2] at hoff2
   have hrr:∀ e∈(E1 us mine).drop (r * m),0≤e.2∧e.2.toNat<(bgF p us (E1 us mine) m r).1.length:=fun e he=>by rw [hoff.len];exact hdr e (List.drop_subset _ _ he)
   have hss:((E1 us mine).drop (r * m)).Pairwise fun a b=>H2 b a=false:=hds.sublist (D9P _ _)
   generalize bgF p us (E1 us mine) m r=F at *
   have hoffR:=A9c hp (hoff.ok hu) hrr m (by rw [D9I];omega)
   conv=>whnf
   obtain ⟨st0,hcolT,hq⟩:=hout.col
   rcases hres.2 with ⟨h5,rfl⟩ | ⟨b,hb0,rfl,f,hst,hf⟩
   ·exfalso
    have h6:=hoff.len
    rw [h5,D8u] at h6
    omega
   have hHas0:A5Z st0 b F.1:=⟨f,hcolT.sup b _ hst,hf⟩
   refine call (D2k p hp F.1 (hoff.ok hu) _ hrr hss m hmI (by rw [D9I];omega) st0 st' b q fl hHas0 hq) (fun v st3 hv=>?_)
   obtain ⟨rfl,st4,fl',⟨f4,hst4,hf4⟩,hfr4,hq4⟩:=hv
   have e4:st4=upd st0 b _:=D0w hst4 hfr4
   have hcol4:=Col.write (y':=⟨223,3,(A1n p F.1 ((E1 us mine).drop (r * m)) m).1.length,f4⟩) hcolT hst
   rw [←e4] at hcol4
   have hout4:=A1a.of hcol4 hq4
   rw [List.drop_drop] at hout4
   have hX1:=hoffR.pos
   have hX2:=hoff.pos
   have hX3:=hoff2.sum
   have hX4:=C1 (hoff2.ok hu).nets0
   have hX5:=hu.sum
   have hX6:=hoffR.len
   have etl:(((E1 us mine).drop (r * m)).take m |>.map (·.2)).length=m:=by rw [D7i,D7n,D9I];omega
   conv=>whnf
   refine A1a.apps (q:=r3) (m:=m) (n:=r * m) rfl rfl rfl rfl (B5R etl st3) (fun i hi=>?_) (by show (r * m+m) * 8≤140737488355328;omega) hout4 (fun sv' st5 hout5=>?_)
   ·show eI (gI (((E1 us mine).drop (r * m)).take m |>.map (·.2)) i)=_
    rw [B6C _ (by rw [D9I];omega) hi]
    unfold at_
    rw [D7c,D8J,←D7c]
   conv=>whnf
   refine G3 ?_
   refine ⟨c - (r+1),by omega,r+1,sv',upd base b ⟨223,3,(A1n p F.1 ((E1 us mine).drop (r * m)) m).1.length,f4⟩,fl',by omega,rfl,?_,?_,?_⟩
   ·have w:IntKind.i64.wrap (F.2+(A1n p F.1 ((E1 us mine).drop (r * m)) m).2)=F.2+(A1n p F.1 ((E1 us mine).drop (r * m)) m).2:=A4 (by omega) (by omega)
    rw [B4 (by omega),hF2,w]
   ·rw [hF2]
    exact ⟨hres.1.over hb0,.inr ⟨b,hb0,by show AV.own 3 b 0 F.1.length=_;rw [hX6],f4,A0 ..,hf4⟩⟩
   ·rw [e1];exact hout5
theorem A2U {st:St} {b c:Nat} (h:c≠b):del st b c=st c:=by unfold del;rw [if_neg h]
theorem A4B (st:St) (b:Nat):del st b b=none:=by unfold del;rw [if_pos rfl]
theorem F8.drop {s t:St} {b:Nat} {y:L7} (h:F8 (upd s b y) t) (hb:s b=none):F8 s t:=fun c x hc=>by
 have hne:c≠b:=fun e=>by subst e;rw [hb] at hc;cases hc
 exact h c x (by rw [B0 hne];exact hc)
structure K7 (R:St→St→Prop):Prop where
 sup:∀ {s t:St},R s t→F8 s t
 begin:∀ {s t:St} {b:Nat} {y:L7},R s t→t b=none→R (upd s b y) (upd t b y)
 grow:∀ {s t:St} {b b':Nat} {y y':L7},R (upd s b y) t→s b=none→(b'=b∨t b'=none)→s b'=none∧R (upd s b' y') (upd (del t b) b' y')
 write:∀ {s t:St} {b:Nat} {y y':L7},R s t→s b=some y→R (upd s b y') (upd t b y')
 forget:∀ {s t:St} {b:Nat} {y:L7},R (upd s b y) t→s b=none→R s (del t b)
 drop:∀ {s t:St} {b:Nat} {y:L7},R (upd s b y) t→s b=none→R s t
theorem QSt.drop {st0 st:St} {q b:Nat} {f:Bool} {es:List QE} {y:L7} (h:QSt (upd st0 b y) q f es st) (hb:st0 b=none):QSt st0 q f es st:=by
 obtain ⟨h1,h2,sv,hq,h3⟩:=h
 have hqb:q≠b:=fun e=>by subst e;rw [A0] at h1;cases h1
 refine ⟨by rw [B0 hqb] at h1;exact h1,F8.drop h2 hb,sv,hq,?_⟩
 rcases h3 with h3 | ⟨c,l,n,a1,a2,a3,a4,a5,a6,a7,a8,a9⟩
 ·exact .inl h3
 ·have hcb:c≠b:=fun e=>by subst e;rw [A0] at a2;cases a2
  rw [B0 hcb] at a2
  exact .inr ⟨c,l,n,a1,a2,a3,a4,a5,a6,a7,a8,a9⟩
theorem C0d (q:Nat) (f:Bool) (es:List QE):K7 fun s t=>QSt s q f es t :=
 ⟨fun h=>h.sup,fun h hb=>(h.begin hb).2,fun h h0 hb=>h.grow h0 hb,fun h hb=>h.write hb,fun h hb=>h.forget hb,fun h hb=>h.drop hb⟩
def Z9 (b:Nat) (Q:L7→Prop) (R:St→St→Prop) (s t:St):Prop:=s b=none∧∃ y,Q y∧R (upd s b y) t
theorem A0M {b:Nat} {Q:L7→Prop} {R:St→St→Prop} (hR:K7 R):K7 (Z9 b Q R) where
 sup:=fun ⟨h1,y,h2,h3⟩=>F8.drop (hR.sup h3) h1
 begin:=fun {s t c z} ⟨h1,y,h2,h3⟩ hc=>by
  have hbc:b≠c:=fun e=>by subst e;rw [hR.sup h3 b y (A0 ..)] at hc;cases hc
  refine ⟨by rw [B0 hbc];exact h1,y,h2,?_⟩
  rw [R9 hbc.symm];exact hR.begin h3 hc
 grow:=fun {s t c c' z z'} ⟨h1,y,h2,h3⟩ h0 hc=>by
  have hbc:b≠c:=fun e=>by subst e;rw [A0] at h1;cases h1
  rw [B0 hbc] at h1
  have hty:t b=some y:=hR.sup h3 b y (A0 ..)
  have hbc':b≠c':=fun e=>by
   subst e
   rcases hc with e | e
   ·exact hbc e
   ·rw [hty] at e;cases e
  rw [R9 hbc.symm] at h3
  obtain ⟨g1,g2⟩:=hR.grow (y':=z') h3 (by rw [B0 hbc.symm];exact h0) hc
  rw [B0 hbc'.symm] at g1
  exact ⟨g1,by rw [B0 hbc'];exact h1,y,h2,by rw [R9 hbc'.symm];exact g2⟩
 write:=fun {s t c z z'} ⟨h1,y,h2,h3⟩ hc=>by
  have hbc:b≠c:=fun e=>by subst e;rw [h1] at hc;cases hc
  refine ⟨by rw [B0 hbc];exact h1,y,h2,?_⟩
  rw [R9 hbc.symm];exact hR.write h3 (by rw [B0 hbc.symm];exact hc)
 forget:=fun {s t c z} ⟨h1,y,h2,h3⟩ h0=>by
  have hbc:b≠c:=fun e=>by subst e;rw [A0] at h1;cases h1
  rw [B0 hbc] at h1
  rw [R9 hbc.symm] at h3
  exact ⟨h1,y,h2,hR.forget h3 (by rw [B0 hbc.symm];exact h0)⟩
 drop:=fun {s t c z} ⟨h1,y,h2,h3⟩ h0=>by
  have hbc:b≠c:=fun e=>by subst e;rw [A0] at h1;cases h1
  rw [B0 hbc] at h1
  rw [R9 hbc.symm] at h3
  exact ⟨h1,y,h2,hR.drop h3 (by rw [B0 hbc.symm];exact h0)⟩
theorem Z9.at {b:Nat} {Q:L7→Prop} {R:St→St→Prop} (hR:K7 R) {s t:St} (h:Z9 b Q R s t):∃ y,Q y∧t b=some y:=by
 obtain ⟨h1,y,h2,h3⟩:=h
 exact ⟨y,h2,hR.sup h3 b y (A0 ..)⟩
theorem Z9.map {b:Nat} {Q:L7→Prop} {R R':St→St→Prop} {s t t':St} (h:Z9 b Q R s t) (hm:∀ s,R s t→R' s t'):Z9 b Q R' s t':=by
 obtain ⟨h1,y,h2,h3⟩:=h
 exact ⟨h1,y,h2,hm _ h3⟩
theorem Z9.set {b:Nat} {Q Q':L7→Prop} {R:St→St→Prop} (hR:K7 R) {s t:St} (h:Z9 b Q R s t) {y':L7} (hy:Q' y'):Z9 b Q' R s (upd t b y'):=by
 obtain ⟨h1,y,h2,h3⟩:=h
 have:=hR.write (y':=y') h3 (A0 ..)
 rw [C5] at this
 exact ⟨h1,y',hy,this⟩
theorem Z9.weak {b:Nat} {Q Q':L7→Prop} {R:St→St→Prop} {s t:St} (h:Z9 b Q R s t) (hw:∀ y,Q y→Q' y):Z9 b Q' R s t:=by
 obtain ⟨h1,y,h2,h3⟩:=h
 exact ⟨h1,y,hw _ h2,h3⟩
def A2Q (q:Nat) (bo:Option Nat) (c:Nat):Prop:=c=q∨bo=some c
structure QF (q:Nat) (bo:Option Nat) (f:Bool) (es:List QE) (st:St):Prop where
 has:∃ sv,A4W st q sv∧((es=[]∧sv=.emp∧bo=none)∨∃ b l n,bo=some b∧q≠b∧sv=.own 2 b 0 n∧n≤l.length∧l.length<2305843009213∧A6a l n∧A3y st b l∧(l.take n).Perm es∧(f=true→n=l.length))
theorem QF.frame {q:Nat} {bo:Option Nat} {f:Bool} {es:List QE} {st st':St} (h:QF q bo f es st) (hf:∀ c,A2Q q bo c→st' c=st c):QF q bo f es st':=by
 obtain ⟨sv,⟨fq,hqs,hq0⟩,h3⟩:=h.has
 refine ⟨sv,⟨fq,by rw [hf q (.inl rfl)];exact hqs,hq0⟩,?_⟩
 rcases h3 with h3 | ⟨b,l,n,a0,a1,a3,a4,a5,a6,⟨fe,hes,hef⟩,a8,a9⟩
 ·exact .inl h3
 ·exact .inr ⟨b,l,n,a0,a1,a3,a4,a5,a6,⟨fe,by rw [hf b (.inr a0)];exact hes,hef⟩,a8,a9⟩
theorem QF.some {q:Nat} {bo:Option Nat} {f:Bool} {es:List QE} {st:St} (h:QF q bo f es st) {c:Nat} (hc:A2Q q bo c):∃ x,st c=.some x:=by
 obtain ⟨sv,⟨fq,hqs,hq0⟩,h3⟩:=h.has
 rcases hc with rfl | hc
 ·exact ⟨_,hqs⟩
 ·rcases h3 with ⟨_,_,h4⟩ | ⟨b,l,n,a0,a1,a3,a4,a5,a6,⟨fe,hes,hef⟩,a8,a9⟩
  ·rw [h4] at hc;cases hc
  ·rw [a0] at hc;cases hc;exact ⟨_,hes⟩
theorem QSt.foot {s t:St} {q:Nat} {f:Bool} {es:List QE} (h:QSt s q f es t):∃ bo,QF q bo f es t∧∀ c,A2Q q bo c→s c=none:=by
 obtain ⟨h1,h2,sv,hq,h3⟩:=h
 rcases h3 with ⟨h3,h4⟩ | ⟨b,l,n,a1,a2,a3,a4,a5,a6,a7,a8,a9⟩
 ·exact ⟨none,⟨sv,hq,.inl ⟨h3,h4,rfl⟩⟩,fun c hc=>by
   rcases hc with rfl | hc
   ·exact h1
   ·cases hc⟩
 ·exact ⟨.some b,⟨sv,hq,.inr ⟨b,l,n,rfl,a1,a3,a4,a5,a6,a7,a8,a9⟩⟩,fun c hc=>by
   rcases hc with rfl | hc
   ·exact h1
   ·cases hc;exact a2⟩
theorem QF.qst {s t:St} {q:Nat} {bo:Option Nat} {f:Bool} {es:List QE} (h:QF q bo f es t) (hs:F8 s t) (hn:∀ c,A2Q q bo c→s c=none):QSt s q f es t:=by
 obtain ⟨sv,hq,h3⟩:=h.has
 refine ⟨hn q (.inl rfl),hs,sv,hq,?_⟩
 rcases h3 with ⟨h3,h4,_⟩ | ⟨b,l,n,a0,a1,a3,a4,a5,a6,a7,a8,a9⟩
 ·exact .inl ⟨h3,h4⟩
 ·exact .inr ⟨b,l,n,a1,hn b (.inr a0),a3,a4,a5,a6,a7,a8,a9⟩
structure QsA (s:St) (n:Nat) (q:Nat→Nat) (bo:Nat→Option Nat) (f:Nat→Bool) (es:Nat→List QE) (t:St):Prop where
 sup:F8 s t
 new:∀ i,i<n→∀ c,A2Q (q i) (bo i) c→s c=none
 has:∀ i,i<n→QF (q i) (bo i) (f i) (es i) t
 dis:∀ i j,i<n→j<n→i≠j→∀ c,A2Q (q i) (bo i) c→¬ A2Q (q j) (bo j) c
def Qs (n:Nat) (q:Nat→Nat) (es:Nat→List QE) (s t:St):Prop:=∃ bo f,QsA s n q bo f es t
theorem QsA.off {s t:St} {n:Nat} {q:Nat→Nat} {bo:Nat→Option Nat} {f:Nat→Bool} {es:Nat→List QE} (h:QsA s n q bo f es t) {b:Nat} {y:L7} (hb:s b=some y) {i:Nat} (hi:i<n) {c:Nat} (hc:A2Q (q i) (bo i) c):c≠b:=fun e=>by
 subst e;rw [h.new i hi c hc] at hb;cases hb
theorem A3C (n:Nat) (q:Nat→Nat) (es:Nat→List QE):K7 (Qs n q es) where
 sup:=fun ⟨bo,f,h⟩=>h.sup
 begin:=fun {s t b y} ⟨bo,f,h⟩ hb=>by
  have hne:∀ i,i<n→∀ c,A2Q (q i) (bo i) c→c≠b:=fun i hi c hc e=>by
   subst e
   obtain ⟨x,hx⟩:=(h.has i hi).some hc
   rw [hx] at hb;cases hb
  exact ⟨bo,f,fun c x hc=>by
    by_cases e:c=b
    ·subst e;rw [A0] at hc ⊢;exact hc
    ·rw [B0 e] at hc ⊢;exact h.sup c x hc,
   fun i hi c hc=>by rw [B0 (hne i hi c hc)];exact h.new i hi c hc,
   fun i hi=>(h.has i hi).frame fun c hc=>B0 (hne i hi c hc),h.dis⟩
 grow:=fun {s t b b' y y'} ⟨bo,f,h⟩ h0 hb=>by
  have hne:∀ i,i<n→∀ c,A2Q (q i) (bo i) c→c≠b:=fun i hi c hc=>h.off (A0 ..) hi hc
  have hne':∀ i,i<n→∀ c,A2Q (q i) (bo i) c→c≠b':=fun i hi c hc e=>by
   subst e
   rcases hb with e | e
   ·exact hne i hi c hc e
   ·obtain ⟨x,hx⟩:=(h.has i hi).some hc
    rw [hx] at e;cases e
  have hsub:∀ c x,s c=some x→c≠b∧t c=some x:=fun c x hc=>by
   have hne:c≠b:=fun e=>by subst e;rw [h0] at hc;cases hc
   exact ⟨hne,h.sup c x (by rw [B0 hne];exact hc)⟩
  have hb':s b'=none:=by
   rcases hb with e | e
   ·rw [e];exact h0
   ·cases hx:s b' with
    | none=>rfl
    | some x=>rw [(hsub _ _ hx).2] at e;cases e
  refine ⟨hb',bo,f,fun c x hc=>?_,fun i hi c hc=>?_,fun i hi=>(h.has i hi).frame fun c hc=>?_,h.dis⟩
  ·by_cases e:c=b'
   ·subst e;rw [A0] at hc ⊢;exact hc
   ·rw [B0 e] at hc ⊢
    rw [A2U (hsub c x hc).1];exact (hsub c x hc).2
  ·have:=h.new i hi c hc
   rw [B0 (hne i hi c hc)] at this
   rw [B0 (hne' i hi c hc)];exact this
  ·rw [B0 (hne' i hi c hc),A2U (hne i hi c hc)]
 write:=fun {s t b y y'} ⟨bo,f,h⟩ hb=>by
  have hne:∀ i,i<n→∀ c,A2Q (q i) (bo i) c→c≠b:=fun i hi c hc=>h.off hb hi hc
  exact ⟨bo,f,F8.write (y:=y) h.sup,fun i hi c hc=>by rw [B0 (hne i hi c hc)];exact h.new i hi c hc,
   fun i hi=>(h.has i hi).frame fun c hc=>B0 (hne i hi c hc),h.dis⟩
 forget:=fun {s t b y} ⟨bo,f,h⟩ h0=>by
  have hne:∀ i,i<n→∀ c,A2Q (q i) (bo i) c→c≠b:=fun i hi c hc=>h.off (A0 ..) hi hc
  refine ⟨bo,f,fun c x hc=>?_,fun i hi c hc=>?_,fun i hi=>(h.has i hi).frame fun c hc=>?_,h.dis⟩
  ·have e:c≠b:=fun e=>by subst e;rw [h0] at hc;cases hc
   rw [A2U e];exact h.sup c x (by rw [B0 e];exact hc)
  ·have:=h.new i hi c hc
   rw [B0 (hne i hi c hc)] at this;exact this
  ·exact A2U (hne i hi c hc)
 drop:=fun {s t b y} ⟨bo,f,h⟩ h0=>by
  have hne:∀ i,i<n→∀ c,A2Q (q i) (bo i) c→c≠b:=fun i hi c hc=>h.off (A0 ..) hi hc
  refine ⟨bo,f,F8.drop h.sup h0,fun i hi c hc=>?_,h.has,h.dis⟩
  have:=h.new i hi c hc
  rw [B0 (hne i hi c hc)] at this;exact this
theorem Qs.nil {s t:St} (h:F8 s t) {q:Nat→Nat} {es:Nat→List QE}:Qs 0 q es s t:=⟨fun _=>none,fun _=>true,h,fun i hi=>by omega,fun i hi=>by omega,fun i j hi=>by omega⟩
theorem Qs.congr {n:Nat} {q q':Nat→Nat} {es es':Nat→List QE} {s t:St} (h:Qs n q es s t) (hq:∀ i,i<n→q' i=q i) (he:∀ i,i<n→es' i=es i):Qs n q' es' s t:=by
 obtain ⟨bo,f,h⟩:=h
 exact ⟨bo,f,h.sup,fun i hi=>by rw [hq i hi];exact h.new i hi,fun i hi=>by rw [hq i hi,he i hi];exact h.has i hi,fun i j hi hj=>by rw [hq i hi,hq j hj];exact h.dis i j hi hj⟩
def A0C {α : Type} (f:Nat→α) (i:Nat) (v : α) (k:Nat) : α:=if k=i then v else f k
theorem H8 {α : Type} (f:Nat→α) (i:Nat) (v : α):A0C f i v i=v:=by simp [A0C]
theorem O0 {α : Type} {f:Nat→α} {i k:Nat} {v : α} (h:k≠i):A0C f i v k=f k:=by simp [A0C,h]
theorem Qs.add {n:Nat} {q:Nat→Nat} {es:Nat→List QE} {s t t':St} {q':Nat} {f':Bool} {es':List QE} (h:Qs n q es s t) (h':QSt t q' f' es' t'):Qs (n+1) (A0C q n q') (A0C es n es') s t':=by
 obtain ⟨bo,f,h⟩:=h
 obtain ⟨bo',g1,g2⟩:=h'.foot
 have hne:∀ i,i<n→∀ c,A2Q (q i) (bo i) c→¬ A2Q q' bo' c:=fun i hi c hc hc'=>by
  obtain ⟨x,hx⟩:=(h.has i hi).some hc
  rw [g2 c hc'] at hx;cases hx
 refine ⟨A0C bo n bo',A0C f n f',h.sup.trans h'.sup,fun i hi c hc=>?_,fun i hi=>?_,fun i j hi hj hij c hc=>?_⟩
 ·by_cases e:i=n
  ·subst e;rw [H8,H8] at hc;exact h.sup.none (g2 c hc)
  ·rw [O0 e,O0 e] at hc;exact h.new i (by omega) c hc
 ·by_cases e:i=n
  ·subst e;rw [H8,H8,H8,H8];exact g1
  ·rw [O0 e,O0 e,O0 e,O0 e]
   refine (h.has i (by omega)).frame fun c hc=>?_
   obtain ⟨x,hx⟩:=(h.has i (by omega)).some hc
   rw [hx,h'.sup c x hx]
 ·by_cases e:i=n
  ·subst e
   rw [H8,H8] at hc
   rw [O0 hij.symm,O0 hij.symm]
   exact fun hc'=>hne j (by omega) c hc' hc
  ·rw [O0 e,O0 e] at hc
   by_cases e2:j=n
   ·subst e2;rw [H8,H8];exact hne i (by omega) c hc
   ·rw [O0 e2,O0 e2];exact h.dis i j (by omega) (by omega) hij c hc
theorem Qs.turn {n:Nat} {q:Nat→Nat} {es:Nat→List QE} {s t:St} (h:Qs n q es s t) {k:Nat} (hk:k<n) :
  ∃ s1 f,F8 s s1∧QSt s1 (q k) f (es k) t∧∀ f' es' t',QSt s1 (q k) f' es' t'→Qs n q (A0C es k es') s t':=by
 obtain ⟨bo,f,h⟩:=h
 have hdec:∀ c,Decidable (A2Q (q k) (bo k) c):=fun c=>inferInstanceAs (Decidable (_∨_))
 let s1:St:=fun c=>match hdec c with | isTrue _=>none | isFalse _=>t c
 have s1t:∀ c,A2Q (q k) (bo k) c→s1 c=none:=fun c hc=>by
  show (match hdec c with | isTrue _=>none | isFalse _=>t c)=none
  cases hdec c with
  | isTrue _=>rfl
  | isFalse hn=>exact absurd hc hn
 have s1f:∀ c,¬ A2Q (q k) (bo k) c→s1 c=t c:=fun c hc=>by
  show (match hdec c with | isTrue _=>none | isFalse _=>t c)=t c
  cases hdec c with
  | isTrue hn=>exact absurd hn hc
  | isFalse _=>rfl
 have s1s:F8 s1 t:=fun c x hc=>by
  by_cases e:A2Q (q k) (bo k) c
  ·rw [s1t c e] at hc;cases hc
  ·rw [s1f c e] at hc;exact hc
 refine ⟨s1,f k,fun c x hc=>?_,(h.has k hk).qst s1s s1t,fun f' es' t' hq=>?_⟩
 ·have:¬ A2Q (q k) (bo k) c:=fun e=>by rw [h.new k hk c e] at hc;cases hc
  rw [s1f c this];exact h.sup c x hc
 obtain ⟨bo',g1,g2⟩:=hq.foot
 have hfr:∀ c x,¬ A2Q (q k) (bo k) c→t c=some x→t' c=some x:=fun c x hc hx=>hq.sup c x (by rw [s1f c hc];exact hx)
 have hne:∀ i,i<n→i≠k→∀ c,A2Q (q i) (bo i) c→¬ A2Q (q k) bo' c:=fun i hi hik c hc hc'=>by
  obtain ⟨x,hx⟩:=(h.has i hi).some hc
  have:=g2 c hc'
  rw [s1f c (h.dis i k hi hk hik c hc),hx] at this;cases this
 refine ⟨A0C bo k bo',A0C f k f',fun c x hc=>?_,fun i hi c hc=>?_,fun i hi=>?_,fun i j hi hj hij c hc=>?_⟩
 ·exact hfr c x (fun e=>by rw [h.new k hk c e] at hc;cases hc) (h.sup c x hc)
 ·by_cases e:i=k
  ·subst e
   rw [H8] at hc
   by_cases e2:A2Q (q i) (bo i) c
   ·exact h.new i hi c e2
   ·have:=g2 c hc
    rw [s1f c e2] at this;exact h.sup.none this
  ·rw [O0 e] at hc;exact h.new i hi c hc
 ·by_cases e:i=k
  ·subst e;rw [H8,H8,H8];exact g1
  ·rw [O0 e,O0 e,O0 e]
   refine (h.has i hi).frame fun c hc=>?_
   obtain ⟨x,hx⟩:=(h.has i hi).some hc
   rw [hx,hfr c x (h.dis i k hi hk e c hc) hx]
 ·by_cases e:i=k
  ·subst e
   rw [H8] at hc
   rw [O0 hij.symm]
   exact fun hc'=>hne j hj hij.symm c hc' hc
  ·rw [O0 e] at hc
   by_cases e2:j=k
   ·subst e2;rw [H8];exact hne i hi hij c hc
   ·rw [O0 e2];exact h.dis i j hi hj hij c hc
theorem Qs.pop_S {n:Nat} {q:Nat→Nat} {es:Nat→List QE} {s t:St} (h:Qs n q es s t) {k:Nat} (hk:k<n) {x:QE} {rest:List QE} (he:es k=x::rest) (htop:∀ y∈rest,H2 y x=false) :
  S P 230 [.optr 1 (q k) 0 0] t fun v t'=>v=.tuple [eI x.1,eI x.2,.bool true]∧Qs n q (A0C es k rest) s t':=by
 obtain ⟨s1,f,_,hq,hb⟩:=h.turn hk
 rw [he] at hq
 exact (A9Y s1 (q k) f x rest t hq htop).mono fun v t' hv=>⟨hv.1,hb _ _ _ hv.2⟩
theorem Qs.pop0_S {n:Nat} {q:Nat→Nat} {es:Nat→List QE} {s t:St} (h:Qs n q es s t) {k:Nat} (hk:k<n) (he:es k=[]) :
  S P 230 [.optr 1 (q k) 0 0] t fun v t'=>v=.tuple [eI 0,eI 0,.bool false]∧t'=t:=by
 obtain ⟨s1,f,_,hq,hb⟩:=h.turn hk
 rw [he] at hq
 exact C7w s1 (q k) f t hq
def ROut (R:St→St→Prop) (ty e:Nat) (fo:Nat→AV) (n:Nat) (s:St) (sv:AV) (t:St):Prop:=∃ s0,Col ty e fo s n sv s0∧R s0 t
section
variable {R:St→St→Prop} {ty e n:Nat} {fo:Nat→AV} {s t:St} {sv:AV}
theorem ROut.start (h:R s t) (ty e:Nat) (fo:Nat→AV):ROut R ty e fo 0 s .emp t:=⟨s,Col.start _ _ _ _,h⟩
theorem ROut.map {R':St→St→Prop} {t':St} (h:ROut R ty e fo n s sv t) (hm:∀ s,R s t→R' s t'):ROut R' ty e fo n s sv t':=by
 obtain ⟨s0,h1,h2⟩:=h
 exact ⟨s0,h1,hm _ h2⟩
theorem ROut.congr {fo':Nat→AV} (h:ROut R ty e fo n s sv t) (hf:∀ k,k<n→fo k=fo' k):ROut R ty e fo' n s sv t:=by
 obtain ⟨s0,h1,h2⟩:=h
 exact ⟨s0,Col.congr h1 hf,h2⟩
theorem ROut.head (h:ROut R ty e fo n s sv t):sv=.emp∨∃ b,sv=.own e b 0 n:=by
 obtain ⟨s0,⟨_,h1,_⟩ | ⟨_,b,_,_,h1,_⟩,h2⟩:=h
 ·exact .inl h1
 ·exact .inr ⟨b,h1⟩
theorem ROut.apps {T:H5} {tt:TypeId} {x:AV} {k:KK} {r q:C0} {el m:Nat} {f g:Nat→AV} (hR:K7 R) (hr:T tt=some r) (hd:r.desc=.slice el) (hq:T el=some q)
  (hz:(Nat.blt 0 q.size&&Nat.blt 0 q.bytes&&Nat.beq q.zero.cells.size q.size)=true) (hs:A0v q.size t x=some (m,g)) (hg:∀ i,i<m→g i=f (n+i)) (hb:(n+m) * q.bytes≤140737488355328)
  (hc:ROut R el q.size f n s sv t) (hk:∀ sv' t',ROut R el q.size f (n+m) s sv' t'→k sv' t'):A5V T tt sv x t k:=by
 obtain ⟨s0,hc,h⟩:=hc
 rcases hc with ⟨rfl,rfl,rfl⟩ | ⟨h0,bo,y,h1,rfl,rfl,h4⟩
 ·refine apE hr hd hq hz hs (by simpa using hb) (fun h0=>hk _ _ ⟨s0,.inl ⟨by omega,rfl,rfl⟩,h⟩) (fun hm b hb=>?_)
  refine hk _ _ ⟨_,?_,hR.begin (y:=⟨el,q.size,m,g⟩) h hb⟩
  rw [D7o]
  exact .inr ⟨hm,b,g,(hR.sup h).none hb,rfl,rfl,fun k hk=>by have:=hg k hk;rwa [D7o] at this⟩
 ·have hby:t bo=some ⟨el,q.size,n,y⟩:=hR.sup h bo _ (A0 ..)
  refine apO hr hd hq hz hs hby rfl rfl rfl hb (fun h0'=>hk _ _ ?_) (fun _ b' hb'=>?_)
  ·subst h0';exact ⟨_,.inr ⟨h0,bo,y,h1,rfl,rfl,h4⟩,h⟩
  obtain ⟨hb0,hn⟩:=hR.grow (y':=⟨el,q.size,n+m,fun i=>if i<n then y i else g (i - n)⟩) h h1 hb'
  refine hk _ _ ⟨_,.inr ⟨by omega,b',_,hb0,rfl,rfl,fun k hk=>?_⟩,hn⟩
  by_cases hkn:k<n
  ·simp only [hkn,if_true];exact h4 k hkn
  ·simp only [hkn,D9L]
   rw [hg (k - n) (by omega)];congr 1;omega
theorem ROut.app {T:H5} {tt:TypeId} {x:AV} {k:KK} {r q:C0} {el:Nat} {f g:Nat→AV} (hR:K7 R) (hr:T tt=some r) (hd:r.desc=.slice el) (hq:T el=some q)
  (hz:(Nat.blt 0 q.size&&Nat.blt 0 q.bytes&&Nat.beq q.zero.cells.size q.size)=true) (hs:A0v q.size t x=some (1,g)) (hg:g 0=f n) (hb:(n+1) * q.bytes≤140737488355328)
  (hc:ROut R el q.size f n s sv t) (hk:∀ sv' t',ROut R el q.size f (n+1) s sv' t'→k sv' t'):A5V T tt sv x t k :=
 ROut.apps hR hr hd hq hz hs (fun i hi=>by
  have:i=0:=by omega
  subst this;exact hg) hb hc hk
theorem ROut.write (hR:K7 R) {b:Nat} {y y':L7} (h:ROut R ty e fo n s sv t) (hb:s b=some y):ROut R ty e fo n (upd s b y') sv (upd t b y'):=by
 obtain ⟨s0,hc,h⟩:=h
 exact ⟨_,Col.write hc hb,hR.write h (hc.sup b y hb)⟩
theorem ROut.shift (hR:K7 R) (h:ROut R ty e fo n s sv t):∃ t',A7 [sv] t [.arr e n fo] t'∧R s t':=by
 obtain ⟨s0,hc,h⟩:=h
 rcases hc with ⟨rfl,rfl,rfl⟩ | ⟨h0,bo,g,h1,rfl,rfl,h3⟩
 ·exact ⟨t,I5 e fo,h⟩
 ·exact ⟨del t bo,P1 (hR.sup h bo _ (A0 ..)) rfl (D7l _) h3,hR.forget h h1⟩
theorem ROut.dropped (hR:K7 R) (h:ROut R ty e fo n s sv t):R s t:=by
 obtain ⟨s0,hc,h⟩:=h
 rcases hc with ⟨rfl,rfl,rfl⟩ | ⟨h0,bo,g,h1,rfl,rfl,h3⟩
 ·exact h
 ·exact hR.drop h h1
theorem ROut.sup (hR:K7 R) (h:ROut R ty e fo n s sv t):F8 s t:=hR.sup (h.dropped hR)
end
structure MkD where
 p:B1
 us:List B3
 bm:Nat
 bu:Nat
 br:Nat
 n:Nat
 q:Nat→Nat
def IsM (d:MkD) (len:Nat) (y:L7):Prop:=∃ f,y=⟨363,18,1,f⟩∧f 0=.agg (A2t d.p++[C4 d.us,.own 1 d.bu 0 len,.own 1 d.br 0 d.n])
def C3p (used:List Bool) (y:L7):Prop:=∃ g,y=⟨4,1,used.length,g⟩∧∀ k,k<used.length→g k=eB (used.getD k default)
def B4H (d:MkD) (y:L7):Prop:=∃ g,y=⟨278,1,d.n,g⟩∧∀ k,k<d.n→g k=.optr 1 (d.q k) 0 0
def MkR (d:MkD) (used:List Bool) (es:Nat→List QE):St→St→Prop:=Z9 d.bm (IsM d used.length) (Z9 d.bu (C3p used) (Z9 d.br (B4H d) (Qs d.n d.q es)))
theorem C0c (d:MkD) (used:List Bool) (es:Nat→List QE):K7 (MkR d used es):=A0M (A0M (A0M (A3C _ _ _)))
theorem MkR.facts {d:MkD} {used:List Bool} {es:Nat→List QE} {s t:St} (h:MkR d used es s t) :
  (∃ f,t d.bm=some ⟨363,18,1,f⟩∧f 0=.agg (A2t d.p++[C4 d.us,.own 1 d.bu 0 used.length,.own 1 d.br 0 d.n])) ∧
  (∃ g,t d.bu=some ⟨4,1,used.length,g⟩∧∀ k,k<used.length→g k=eB (used.getD k default)) ∧
  (∃ g,t d.br=some ⟨278,1,d.n,g⟩∧∀ k,k<d.n→g k=.optr 1 (d.q k) 0 0):=by
 have b1:=A3C d.n d.q es
 have b2:K7 (Z9 d.br (B4H d) (Qs d.n d.q es)):=A0M b1
 have b3:K7 (Z9 d.bu (C3p used) (Z9 d.br (B4H d) (Qs d.n d.q es))):=A0M b2
 obtain ⟨y1,⟨f,rfl,hf⟩,h1⟩:=Z9.at b3 h
 obtain ⟨_,_,_,h⟩:=h
 obtain ⟨y2,⟨g,rfl,hg⟩,h2⟩:=Z9.at b2 h
 obtain ⟨_,_,_,h⟩:=h
 obtain ⟨y3,⟨k,rfl,hk⟩,h3⟩:=Z9.at b1 h
 exact ⟨⟨f,h1,hf⟩,⟨g,h2,hg⟩,⟨k,h3,hk⟩⟩
theorem MkR.pop_S {d:MkD} {used:List Bool} {es:Nat→List QE} {s t:St} (h:MkR d used es s t) {k:Nat} (hk:k<d.n) {x:QE} {rest:List QE} (he:es k=x::rest) (htop:∀ y∈rest,H2 y x=false) :
  S P 230 [.optr 1 (d.q k) 0 0] t fun v t'=>v=.tuple [eI x.1,eI x.2,.bool true]∧MkR d used (A0C es k rest) s t':=by
 obtain ⟨h1,y1,e1,h2,y2,e2,h3,y3,e3,hq⟩:=h
 exact (hq.pop_S hk he htop).mono fun v t' hv=>⟨hv.1,h1,y1,e1,h2,y2,e2,h3,y3,e3,hv.2⟩
theorem MkR.pop0_S {d:MkD} {used:List Bool} {es:Nat→List QE} {s t:St} (h:MkR d used es s t) {k:Nat} (hk:k<d.n) (he:es k=[]) :
  S P 230 [.optr 1 (d.q k) 0 0] t fun v t'=>v=.tuple [eI 0,eI 0,.bool false]∧t'=t:=by
 obtain ⟨h1,y1,e1,h2,y2,e2,h3,y3,e3,hq⟩:=h
 exact hq.pop0_S hk he
theorem MkR.use {d:MkD} {used:List Bool} {es:Nat→List QE} {s t:St} (h:MkR d used es s t) {i:Nat} (hi:i<used.length) {g:Nat→AV} (hb:t d.bu=some ⟨4,1,used.length,g⟩) (hg:∀ k,k<used.length→g k=eB (used.getD k default)) :
  MkR d (used.set i true) es s (upd t d.bu ⟨4,1,used.length,I6 g i (eB true)⟩):=by
 have b1:=A3C d.n d.q es
 have b2:K7 (Z9 d.br (B4H d) (Qs d.n d.q es)):=A0M b1
 unfold MkR at h ⊢
 rw [D8p]
 refine h.map fun s h=>Z9.set b2 h ⟨I6 g i (eB true),by rw [D8p],fun k hk=>?_⟩
 rw [D8p] at hk
 by_cases e:k=i
 ·subst e;rw [A6];simp [hi]
 ·rw [H7 e,hg k hk]
  congr 1
  simp only [D7c]
  rw [D8V (fun e'=>e e'.symm)]
def P2 (used:List Bool):List QE→Option Int×List QE
 | []=>(none,[])
 | e::es=>if used.getD e.2.toNat default=true then P2 used es else (some e.2,es)
def D5P (used:List Bool):Option Int→List Bool
 | none=>used
 | some i=>used.set i.toNat true
def D2o:Option Int→AV
 | none=>.tuple [eI 0,eB false]
 | some i=>.tuple [eI i,eB true]
theorem B8J {α : Type} (f:Nat→α) (i:Nat) (u v : α):A0C (A0C f i u) i v=A0C f i v:=by
 funext k;unfold A0C;split<;>rfl
theorem C1C {α : Type} (f:Nat→α) (i:Nat):A0C f i (f i)=f:=by
 funext k;unfold A0C;split
 ·rename_i e;rw [e]
 ·rfl
theorem D0u (d:MkD) (used:List Bool) (es:Nat→List QE) (s t:St) (h:MkR d used es s t) (k:Nat) (hk:k<d.n) (hr:∀ e∈es k,0≤e.2∧e.2.toNat<used.length) (hs:(es k).Pairwise fun a b=>H2 b a=false) :
  S P 329 [.optr 18 d.bm 0 0,eI k] t fun v t'=>v=D2o (P2 used (es k)).1∧MkR d (D5P used (P2 used (es k)).1) (A0C es k (P2 used (es k)).2) s t':=by
 refine F7 [] Tryz.func329 ?_
 refine ⟨[0,1],fun m vs t'=>∃ l:List QE,m=l.length∧vs=[.optr 18 d.bm 0 0,eI k]∧P2 used l=P2 used (es k)∧(∀ e∈l,0≤e.2∧e.2.toNat<used.length)∧(l.Pairwise fun a b=>H2 b a=false)∧MkR d used (A0C es k l) s t',?_,?_⟩
 ·conv=>whnf
  exact ⟨_,es k,rfl,rfl,rfl,hr,hs,by rw [C1C];exact h⟩
 ·clear h hr hs
  rintro m vs t' ⟨l,rfl,rfl,hF,hr,hs,h⟩
  rw [←hF]
  obtain ⟨⟨fm,hm,hm0⟩,⟨fu,hu,huf⟩,⟨fr,hb,hbf⟩⟩:=h.facts
  conv=>whnf
  refine L1 hm hm0 ?_
  refine E9 ?_
  refine ldV hb rfl (by omega) (v:=.optr 1 (d.q k) 0 0) (by rw [show 0+(k:Int).toNat=k by omega];exact hbf k hk) ?_;conv=>whnf
  cases l with
  | nil =>
   refine I3 (h.pop0_S hk (H8 ..)) ?_
   exact ⟨rfl,h⟩
  | cons x l =>
   rw [D8K] at hs
   refine call (h.pop_S hk (H8 ..) hs.1) (fun v t2 hv=>?_)
   obtain ⟨rfl,h'⟩:=hv
   rw [B8J] at h'
   obtain ⟨⟨fm',hm',hm0'⟩,⟨fu',hu',huf'⟩,_⟩:=h'.facts
   have hx:=hr x (D7G ..)
   have hux:fu' (0+x.2.toNat)=eB (used.getD x.2.toNat default):=by rw [D7o];exact huf' _ hx.2
   conv=>whnf
   refine L1 hm' hm0' ?_
   refine E9 ?_
   refine L1 hu' hux ?_
   cases hx1:used.getD x.2.toNat default with
   | true =>
    conv=>whnf
    refine G3 ?_
    refine ⟨l.length,D9J _,l,rfl,rfl,?_,fun e he=>hr e (D7E _ he),hs.2,h'⟩
    show _=if used.getD x.2.toNat default=true then P2 used l else (some x.2,l)
    rw [hx1,if_pos rfl]
   | false =>
    have hT:P2 used (x::l)=(some x.2,l):=by
     show (if used.getD x.2.toNat default=true then P2 used l else (some x.2,l))=_
     rw [hx1,if_neg (by simp)]
    rw [hT];conv=>whnf
    refine L1 hm' hm0' ?_
    refine E9 ?_
    refine stW hu' hux ?_
    refine ⟨rfl,?_⟩
    rw [D7o]
    exact h'.use hx.2 hu' huf'
end Go.Proofs.YtaapofnkmpiknaaGreat
namespace Go.Proofs.YtaapofnkmpiknaaGreat
open Go Go.Ab Go.Proofs Go.Sort
attribute [local irreducible] upd del
def C3 (l:List Int):List Int:=l.mergeSort fun x y=>decide (x≤y)
theorem A1E (l:List Int):(C3 l).Perm l:=D9Q ..
theorem Z2 (l:List Int):(C3 l).length=l.length:=(A1E l).length_eq
def B2R (l:List Int):L7:=⟨3,1,l.length,fun k=>eI (gI (C3 l) k)⟩
theorem C5J {st:St} {w:World} {b n:Nat} {l:List Int} {os:Array Obj} (hb:A5Y st b l) (hS:H9 st w) :
  Evo st w (upd st b (B2R l)) (grow (putRow (Value.int .i64) (Sort.ahead w n) b 0 (C3 l).toArray) os)∧H9 (upd st b (B2R l)) (grow (putRow (Value.int .i64) (Sort.ahead w n) b 0 (C3 l).toArray) os):=by
 obtain ⟨f,hst,hf⟩:=hb
 obtain ⟨cs,hok⟩:=hS b _ hst
 have hbl:b<w.heap.size:=(D8b.1 hok.heap).1
 have hsz:l.length * 1≤cs.size:=hok.size
 have hheap:∀ c,c<w.heap.size→(grow (putRow (Value.int .i64) (Sort.ahead w n) b 0 (C3 l).toArray) os).heap[c]?=if b=c then some (.cells (putCells (Value.int .i64) 0 (C3 l).toArray cs) 3 (0,0)) else w.heap[c]?:=fun c hc=>by
  show ((w.heap.modify b (onCells (putCells (Value.int .i64) 0 (C3 l).toArray)))++os)[c]?=_
  rw [D9U (by simpa using hc),D9V]
  split
  ·rename_i e;subst e;rw [hok.heap];rfl
  ·rfl
 have hev:Evo st w (upd st b (B2R l)) (grow (putRow (Value.int .i64) (Sort.ahead w n) b 0 (C3 l).toArray) os):=by
  refine ⟨rfl,rfl,rfl,?_,fun c hc hs=>?_,fun c=>?_⟩
  ·show w.heap.size≤((w.heap.modify b _)++os).size
   simp
  ·have hne:b≠c:=fun e=>by subst e;rw [hst] at hs;cases hs
   rw [hheap c hc,if_neg hne]
   exact ⟨rfl,by rw [B0 hne.symm];exact hs⟩
  ·by_cases hc:c<w.heap.size
   ·unfold A1F
    rw [hheap c hc]
    by_cases e:b=c
    ·subst e
     rw [hok.heap,if_pos rfl]
     simp [putCells]
    ·rw [if_neg e];exact D7l _
   ·unfold A1F
    rw [D9x (by omega)]
    exact D7C _
 refine ⟨hev,fun c x hx=>?_⟩
 by_cases e:c=b
 ·subst e
  rw [A0] at hx
  cases hx
  refine ⟨putCells (Value.int .i64) 0 (C3 l).toArray cs,?_,?_,fun i hi=>rfl,fun i hi=>rfl,fun i j y hi hy=>?_⟩
  ·rw [hheap c hbl,if_pos rfl];rfl
  ·show l.length * 1≤_
   simpa [putCells] using hsz
  ·have hi':i<l.length:=hi
   cases j with
   | succ j=>simp [B2R,cellsOf] at hy
   | zero =>
    have hy':y=eI (gI (C3 l) i):=by simpa [B2R,cellsOf] using hy.symm
    subst hy'
    refine ⟨.int .i64 (gI (C3 l) i),?_,.int _ _⟩
    show (putCells (Value.int .i64) 0 (C3 l).toArray cs)[i * 1+0]?=_
    unfold putCells
    rw [Array.getElem?_mapIdx,Nat.mul_one,D9v,D7x (by omega),D9j]
    rw [if_pos ⟨by omega,by simp [Z2];omega⟩,Nat.sub_zero]
    have:(C3 l).toArray[i]! = gI (C3 l) i:=by
     have hl:=Z2 l
     rw [getElem!_pos _ i (by simp [hl];omega)]
     simp [gI,show i<(C3 l).length by omega]
    rw [this]
 ·rw [B0 e] at hx
  obtain ⟨ds,hd⟩:=hS c x hx
  have hcl:c<w.heap.size:=(D8b.1 hd.heap).1
  exact ⟨ds,hd.evo hev (by rw [hheap c hcl,if_neg (fun e'=>e e'.symm)])⟩
theorem D0q (b:Nat) (l:List Int) (hl:l.length<4611686018427387904) (st:St) (hb:A5Y st b l) :
  S P 273 [.own 1 b 0 l.length] st fun v st'=>v=.tuple []∧st'=upd st b (B2R l):=by
 refine ⟨C0O.f5.enters rfl,fun cargs w hr hS=>?_⟩
 obtain ⟨hlen,hr⟩:=hr
 have hb':=hb
 obtain ⟨f,hst,hf⟩:=hb'
 obtain ⟨cs,hok⟩:=hS b _ hst
 have h0:0<cargs.size:=by rw [←hlen];exact Nat.one_pos
 have ha:=hr 0 _ cargs[0] rfl (D7x h0)
 have hc:∃ c,cargs=#[.slice (some ⟨b,0,none⟩) l.length c]:=by
  generalize hv:cargs[0]=v at ha
  cases ha with
  | own e b off n c hc hs =>
   refine ⟨c,Array.ext (by rw [←hlen];rfl) fun i h1 h2=>?_⟩
   have:i=0:=by simp at h2;exact h2
   subst this;rw [hv];rfl
 obtain ⟨c,rfl⟩:=hc
 have hH:Holds (Value.int .i64) w b 0 l.toArray:=fun j hj=>by
  have hj':j<l.length:=by simpa using hj
  obtain ⟨x,hx,hrep⟩:=hok.cell j 0 (eI (gI l j)) hj' (by show (cellsOf (f j))[0]?=_;rw [hf j hj'];rfl)
  have hxx:x=.int .i64 (gI l j):=by cases hrep;rfl
  subst hxx
  have hg:l.toArray[j]! = gI l j:=by rw [getElem!_pos _ j (by simpa using hj')];simp [gI,hj']
  refine ⟨?_,?_⟩
  ·unfold World.cell?
   rw [hok.heap,hg]
   have:cs[j * 1+0]?=some (.int .i64 (gI l j)):=hx
   simpa using this
  ·unfold World.frozen?
   rw [hok.heap]
   simp
 have hbl:b<w.heap.size:=(D8b.1 hok.heap).1
 refine (AnyM.slices_Sort_int C0O b 0 c l w hH hbl hl).mono ?_
 rintro e w' ⟨rfl,n,os,rfl⟩
 obtain ⟨h1,h2⟩:=C5J (n:=n) (os:=os) hb hS
 exact ⟨.tuple [],.tuple #[],_,⟨rfl,rfl⟩,rfl,.tuple [] #[] rfl (fun j y c hy=>by simp at hy),h2,h1⟩
theorem C7U (st:St):S P 273 [.emp] st fun v st'=>v=.tuple []∧st'=st:=by
 refine ⟨C0O.f5.enters rfl,fun cargs w hr hS=>?_⟩
 obtain ⟨hlen,hr⟩:=hr
 have h0:0<cargs.size:=by rw [←hlen];exact Nat.one_pos
 have ha:=hr 0 _ cargs[0] rfl (D7x h0)
 have hc:∃ A,cargs=#[.slice A 0 0]:=by
  generalize hv:cargs[0]=v at ha
  cases ha with
  | emp A =>
   refine ⟨A,Array.ext (by rw [←hlen];rfl) fun i h1 h2=>?_⟩
   have:i=0:=by simp at h2;exact h2
   subst this;rw [hv];rfl
 obtain ⟨A,rfl⟩:=hc
 refine (AnyM.slices_Sort_int_none C0O A 0 w).mono ?_
 rintro e w' ⟨rfl,rfl⟩
 exact ⟨.tuple [],.tuple #[],_,⟨rfl,rfl⟩,rfl,.tuple [] #[] rfl (fun j y c hy=>by simp at hy),hS,Evo.refl _ _⟩
theorem B4A {R:St→St→Prop} (hR:K7 R) {l:List Int} {s t:St} {sv:AV} (hl:l.length<4611686018427387904) (h:ROut R 3 1 (fun k=>eI (gI l k)) l.length s sv t) :
  S P 273 [sv] t fun v t'=>v=.tuple []∧ROut R 3 1 (fun k=>eI (gI (C3 l) k)) l.length s sv t':=by
 obtain ⟨s0,hc,h⟩:=h
 rcases hc with ⟨h0,rfl,rfl⟩ | ⟨h0,bo,g,h1,rfl,rfl,h3⟩
 ·exact (C7U t).mono fun v t' hv=>⟨hv.1,by rw [h0];exact ⟨s0,Col.start _ _ _ _,by rw [hv.2];exact h⟩⟩
 ·have hby:=hR.sup h bo _ (A0 ..)
  refine (D0q bo l hl t ⟨g,hby,h3⟩).mono fun v t' hv=>⟨hv.1,_,.inr ⟨h0,bo,fun k=>eI (gI (C3 l) k),h1,rfl,rfl,fun k hk=>rfl⟩,?_⟩
  rw [hv.2]
  have:=hR.write (y':=B2R l) h (A0 ..)
  rw [C5] at this;exact this
end Go.Proofs.YtaapofnkmpiknaaGreat
