/- Part 27 of the proof: contracts of the functions that the law reaches -/
import Derived.Test.YtbajhapmlfbelaaGreatPr26
set_option maxRecDepth 100000
set_option linter.unusedVariables false
set_option linter.unusedSimpArgs false
namespace Go.Proofs.YtbajhapmlfbelaaGreat
open Go Go.Ab
attribute [local irreducible] upd del
theorem B6V (x rate round:Int) (st:St):S P 169 [eI x,eI rate,eI round] st fun v st'=>v=.tuple [eI (if 0≤rate∧rate≤10000 then A1p x rate 10000 round else (0,2)).1,eI (if 0≤rate∧rate≤10000 then A1p x rate 10000 round else (0,2)).2]∧st'=st:=by
 refine A8 [] B9 mixed Tryz.func169 (by rfl) rfl rfl rfl ?_
 repeat' ((conv=>whnf);first | refine B0 (B9m _ _ _ _ st) ?_ | (refine C0 (fun h=>?_) (fun h=>?_)<;>rw [h]))
 all_goals (conv=>whnf)
 all_goals (refine ⟨?_,rfl⟩;simp only [decide_eq_true_eq,decide_eq_false_iff_not] at *)
 ·rw [if_neg (by omega)];rfl
 ·rw [if_neg (by omega)];rfl
 ·rw [if_pos (by omega)];rfl
theorem A6t (x rate:Int) (st:St):S P 92 [eI x,eI rate] st fun v st'=>v=eI (H4 x rate)∧st'=st:=by
 refine A8 [] B9 mixed Tryz.func92 (by rfl) rfl rfl rfl ?_;conv=>whnf
 refine B0 (B6V x rate 1 st) ?_;conv=>whnf
 exact ⟨rfl,rfl⟩
theorem A9i (l:List Int) (hl:l.length≤1000000) (h0:∀ x∈l,0≤x) (hs:A5 l≤100000000000000000) (st:St):S P 119 [B6 l] st fun v st'=>v=eI (A5 l)∧st'=st:=by
 refine A8 [] B9 mixed Tryz.func119 (by rfl) rfl rfl rfl ?_;conv=>whnf
 refine lp l.length [0,3,4] (fun i vs s=>vs=[B6 l,eI (A5 (l.take i)),eI i]∧s=st) ?_ ?_
 ·conv=>whnf
  exact ⟨rfl,rfl⟩
 ·rintro i vs st' hi ⟨rfl,rfl⟩
  conv=>whnf
  cases h:decide ((i:Int)<(l.length:Int))
  ·obtain rfl:=E0 h hi
   conv=>whnf
   exact ⟨by rw [List.take_length];rfl,rfl⟩
  ·have hi':=G7 h
   have e:=N4 hi'
   have h1:=C9 (l:=l.take i) (fun x hx=>h0 x (List.take_subset _ _ hx))
   have h2:=L4 h0 (i+1)
   have h3:=h0 _ (B4 hi')
   have h4:gI l i=l.getD i default:=rfl
   have w:IntKind.i64.wrap (A5 (l.take i)+l.getD (i:Int).toNat default)=A5 (l.take (i+1)):=by rw [e];exact A7 (by rw [Int.toNat_natCast];omega) (by rw [Int.toNat_natCast];omega)
   conv=>whnf
   refine ⟨rfl,⟨by omega,by omega⟩,?_⟩;conv=>whnf
   rw [w]
   refine ⟨rfl,?_⟩;conv=>whnf
   exact nx hi' ⟨by rw [C2 (by omega)],rfl⟩
theorem A4P (us:List B5) (mine:List Int) (hl:mine.length≤1000000) (hm:∀ k,k<mine.length→0≤gI mine k∧(gI mine k).toNat<us.length) (st:St):S P 165 [C6 us,B6 mine] st fun v st'=>v=B6 (E4 us mine)∧st'=st:=by
 refine A1D (ty:=2) ?_
 refine A8 [] B9 mixed Tryz.func165 (by rfl) rfl rfl rfl ?_;conv=>whnf
 refine lp mine.length [0,1,5,6] (fun i vs s=>∃ sv,vs=[C6 us,B6 mine,sv,eI i]∧F8 2 1 eI (E4 us (mine.take i)) st sv s) ?_ ?_
 ·conv=>whnf
  exact ⟨.emp,rfl,F8.start _ _ _ _⟩
 ·rintro i vs st' hi ⟨sv,rfl,hc⟩
  conv=>whnf
  cases h:decide ((i:Int)<(mine.length:Int))
  ·obtain rfl:=E0 h hi
   rw [List.take_length] at hc;conv=>whnf
   exact hc
  ·have hi':=G7 h
   have hx:=hm i hi'
   have hlen:(E4 us (mine.take i)).length=i:=by unfold E4;rw [List.length_map,List.length_take];omega
   conv=>whnf
   refine ⟨rfl,⟨by omega,by omega⟩,?_⟩;conv=>whnf
   refine ⟨rfl,⟨by show 0≤gI mine i;omega,by show gI mine i<(us.length:Int);omega⟩,?_⟩;conv=>whnf
   refine F8.app (q:=r2) (y:=(gU us (gI mine i).toNat).net) rfl rfl rfl rfl rfl rfl (by show (_+1) * 8≤140737488355328;omega) hc (fun sv' s' hc'=>?_);conv=>whnf
   refine ⟨rfl,?_⟩;conv=>whnf
   refine nx hi' ⟨sv',by rw [C2 (by omega)],?_⟩
   unfold E4 at hc' ⊢
   rw [A1W hi'];exact hc'
def A2P (total:Int) (ws:List Int):List Int:=(List.range ws.length).map fun k=>total * gI ws k % A5 ws
theorem C0W {total:Int} {ws:List Int} {o:List Int} (hp:o.Perm (A2K ws.length)) (hs:o.Pairwise (B0M (A2P total ws))):o=(shR total (A5 ws) ws).map (·.2):=by
 have e:o.map (A9b (A2P total ws))=shR total (A5 ws) ws:=by
  refine List.Perm.eq_of_pairwise (le:=fun a b=>H0 b a=false) (fun a b _ _ h1 h2=>A7f h2 h1) (List.pairwise_map.2 hs) (A5B ..) (((hp.map _).trans ?_).trans (A0Y ..).symm)
  unfold A2K
  rw [List.map_map]
  refine List.Perm.of_eq (List.map_congr_left fun k hk=>?_)
  have:=List.mem_range.1 hk
  show (gI (A2P total ws) ((k:Int).toNat),(k:Int))=shE total (A5 ws) ws k
  unfold A2P
  rw [Int.toNat_natCast,I7 _ this];rfl
 rw [←e,List.map_map]
 conv=>lhs;rw [←List.map_id o]
 rfl
theorem B8w {total:Int} {ws:List Int} (h:O7 total ws):D4 total ws=O8 ((List.range ws.length).map (shQ total (A5 ws) ws)) ((shR total (A5 ws) ws).take (F1 total (A5 ws) ws ws.length).toNat)∧0≤F1 total (A5 ws) ws ws.length∧F1 total (A5 ws) ws ws.length≤ws.length:=by
 by_cases hS:A5 ws=0
 ·have ht:=h.none hS
  have hq:∀ k,shQ total (A5 ws) ws k=0:=fun k=>by unfold shQ;rw [ht,Int.zero_mul,Int.zero_ediv]
  have hl:F1 total (A5 ws) ws ws.length=0:=by
   unfold F1
   rw [show (List.range ws.length).map (shQ total (A5 ws) ws)=List.replicate ws.length 0 from by
    rw [List.eq_replicate_iff]
    exact ⟨by simp,fun b hb=>by obtain ⟨k,_,rfl⟩:=List.mem_map.1 hb;exact hq k⟩,ht]
   have:∀ n,A5 (List.replicate n 0)=0:=fun n=>by
    induction n with
    | zero=>rfl
    | succ n ih=>rw [List.replicate_succ',F3,ih];rfl
   rw [this];rfl
  refine ⟨?_,by omega,by omega⟩
  rw [hl]
  unfold D4
  rw [if_pos hS]
  show ws.map (fun _=>0)=O8 _ []
  unfold O8
  refine List.ext_getElem (by simp) fun k h1 h2=>?_
  simp [hq]
 ·have hS':0<A5 ws:=by have:=C9 h.w0;omega
  refine ⟨?_,A1M h hS'⟩
  unfold D4;rw [if_neg hS]
set_option maxHeartbeats 1000000 in
theorem A9f (total:Int) (ws:List Int) (h:O7 total ws) (st:St):S P 253 [eI total,B6 ws] st fun v st'=>v=.tuple [B6 (D4 total ws),eI 0]∧st'=st:=by
 obtain ⟨hR,hl0,hl1⟩:=B8w h
 have hlen:=h.len
 have hS0:=C9 h.w0
 have hSm:=h.sum
 have ht0:=h.t0
 have ht1:=h.t1
 refine S.post (post:=fun v st'=>∃ (bo:Nat) (f:Nat→AV),st bo=none∧v=.tuple [.own 1 bo 0 ws.length,eI 0]∧st'=upd st bo ⟨2,1,ws.length,f⟩∧∀ k,k<ws.length→f k=eI (gI (D4 total ws) k)) ?_
  (fun v st' ⟨bo,f,hb,hv,hs,hf⟩=>⟨_,st,⟨rfl,rfl⟩,by
   subst hv;subst hs
   have hL:(D4 total ws).length=ws.length:=by rw [hR,A0E];simp
   have e:B6 (D4 total ws)=.arr 1 ws.length (fun k=>eI (gI (D4 total ws) k)):=by unfold B6 B2;rw [hL]
   rw [e]
   have h2:=O0 (st:=upd st bo ⟨2,1,ws.length,f⟩) (e:=1) (b:=bo) (n:=ws.length) (f:=fun k=>eI (gI (D4 total ws) k)) (A0 ..) rfl (Nat.le_refl _) hf
   rw [A2b hb] at h2
   exact B3.tuple (B3.cons h2 (B3.keep _ _)) rfl⟩)
 refine A8 [] B9 mixed Tryz.func253 (by rfl) rfl rfl rfl ?_;conv=>whnf
 refine B0 (A0X total st) ?_
 rw [(Z6 total).2 ⟨ht0,ht1⟩];conv=>whnf
 rw [decide_eq_false (show ¬(ws.length:Int)>100000 by omega)];conv=>whnf
 refine lp ws.length [0,1,6] (fun i vs s=>vs=[eI total,B6 ws,eI i]∧s=st) ?_ ?_
 ·conv=>whnf
  exact ⟨rfl,rfl⟩
 ·rintro i vs st' hi ⟨rfl,rfl⟩
  conv=>whnf
  cases hd:decide ((i:Int)<(ws.length:Int))
  case true =>
   have hi':=G7 hd
   have hm:=B4 hi'
   conv=>whnf
   refine ⟨rfl,⟨by omega,by omega⟩,?_⟩;conv=>whnf
   refine B0 (A0X _ _) ?_
   rw [(Z6 (ws.getD (i:Int).toNat default)).2 ⟨h.w0 _ hm,Int.le_trans (P1 h.w0 hm) hSm⟩];conv=>whnf
   refine ⟨rfl,?_⟩;conv=>whnf
   exact nx hi' ⟨by rw [C2 (by omega)],rfl⟩
  clear hd
  conv=>whnf
  refine lp ws.length [0,1,7,8] (fun i vs s=>vs=[eI total,B6 ws,eI (A5 (ws.take i)),eI i]∧s=st') ?_ ?_
  ·conv=>whnf
   exact ⟨rfl,rfl⟩
  ·clear hi
   rintro i vs st hi ⟨rfl,rfl⟩
   conv=>whnf
   cases hd:decide ((i:Int)<(ws.length:Int))
   case true =>
    have hi':=G7 hd
    have e:=N4 hi'
    have h1:=C9 (l:=ws.take i) (fun x hx=>h.w0 x (List.take_subset _ _ hx))
    have h2:=L4 h.w0 (i+1)
    have h3:=h.w0 _ (B4 hi')
    have w:IntKind.i64.wrap (A5 (ws.take i)+ws.getD (i:Int).toNat default)=A5 (ws.take (i+1)):=by rw [e];exact A7 (by rw [Int.toNat_natCast];omega) (by rw [Int.toNat_natCast];show A5 (ws.take i)+gI ws i≤_;omega)
    conv=>whnf
    refine ⟨rfl,⟨by omega,by omega⟩,?_⟩;conv=>whnf
    rw [w,decide_eq_false (show ¬ A5 (ws.take (i+1))>100000000000000 by omega)];conv=>whnf
    refine ⟨rfl,?_⟩;conv=>whnf
    exact nx hi' ⟨by rw [C2 (by omega)],rfl⟩
   obtain rfl:=E0 hd hi
   rw [List.take_length]
   have hz:(A5 ws==0)=true→(total != 0)=false:=fun e=>by rw [h.none (eq_of_beq e)];rfl
   cases h0:(A5 ws==0)
   case' true =>
    conv=>whnf
    rw [h0];conv=>whnf
    rw [hz h0]
   case' false =>
    conv=>whnf
    rw [h0]
   all_goals (conv=>whnf)
   all_goals refine mkO rfl rfl rfl (by show 8 * ws.length≤_;omega) (by omega) (by rfl) (fun b1 hb1=>?_)
   all_goals (conv=>whnf)
   all_goals refine mkO rfl rfl rfl (by show 8 * ws.length≤_;omega) (by omega) (by rfl) (fun b2 hb2=>?_)
   all_goals (conv=>whnf)
   all_goals
    have hne:b1≠b2:=fun e=>by subst e;rw [A0] at hb2;cases hb2
    have hb2':st b2=none:=by rw [B1 hne.symm] at hb2;exact hb2
    refine lp ws.length [0,1,7,9,10,11,12] (fun i vs s=>vs=[eI total,B6 ws,eI (A5 ws),.own 1 b1 0 ws.length,.own 1 b2 0 ws.length,eI (F1 total (A5 ws) ws i),eI i]∧(A5 ws=0→i=0)∧∃ f1 f2,s=upd (upd st b1 ⟨2,1,ws.length,f1⟩) b2 ⟨2,1,ws.length,f2⟩∧∀ k,k<ws.length→f1 k=eI (if k<i then shQ total (A5 ws) ws k else 0)∧f2 k=eI (if k<i then total * gI ws k % A5 ws else 0)) ?_ ?_
    ·conv=>whnf
     exact ⟨by rw [show F1 total (A5 ws) ws 0=total from by unfold F1;simp [A5]];rfl,fun _=>rfl,_,_,rfl,fun k hk=>⟨by rw [if_neg (by omega)];rfl,by rw [if_neg (by omega)];rfl⟩⟩
    ·rintro i vs s hi ⟨rfl,hSi,f1,f2,rfl,hf⟩
     conv=>whnf
     have fin:(∀ k,k<ws.length→f1 k=eI (shQ total (A5 ws) ws k)∧f2 k=eI (total * gI ws k % A5 ws))→F1 total (A5 ws) ws i=F1 total (A5 ws) ws ws.length→True:=fun _ _=>trivial
     have hend:(i=ws.length∨A5 ws=0)→(∀ k,k<ws.length→f1 k=eI (shQ total (A5 ws) ws k)∧f2 k=eI (total * gI ws k % A5 ws))∧F1 total (A5 ws) ws i=F1 total (A5 ws) ws ws.length:=fun hE=>by
      rcases hE with hE | hE
      ·subst hE
       exact ⟨fun k hk=>by have:=hf k hk;rwa [if_pos hk,if_pos hk] at this,rfl⟩
      ·have hi0:=hSi hE
       have ht:=h.none hE
       have hq:∀ k,shQ total (A5 ws) ws k=0:=fun k=>by unfold shQ;rw [ht,Int.zero_mul,Int.zero_ediv]
       have hz:∀ n,A5 ((List.range n).map (shQ total (A5 ws) ws))=0:=fun n=>by
        induction n with
        | zero=>rfl
        | succ n ih=>rw [L5,ih,hq];rfl
       refine ⟨fun k hk=>?_,?_⟩
       ·have:=hf k hk
        rw [if_neg (by omega),if_neg (by omega)] at this
        rw [hq,ht,Int.zero_mul,Int.zero_emod];exact this
       ·unfold F1;rw [hz,hz]
     cases hd:decide ((i:Int)<(ws.length:Int))
     case' false =>
      have hE:=hend (.inl (E0 hd hi))
      conv=>whnf
     case' true =>
      have hi':=G7 hd
      conv=>whnf
      cases hp:decide (A5 ws>0)
      case' false =>
       have hE:=hend (.inr (by have:=of_decide_eq_false hp;omega))
       conv=>whnf
      case' true =>
       have hS:0<A5 ws:=of_decide_eq_true hp
       have hm:gI ws i∈ws:=B4 hi'
       have hqb:=A3v h hS (show i≤ws.length by omega)
       have hqb':=A3v h hS (show i+1≤ws.length by omega)
       have hsr:=L5 (shQ total (A5 ws) ws) i
       have hq:=A2Q h hS hi'
       have hpt:=A9h total (gI ws i) (A5 ws) ht0 ht1 (h.w0 _ hm) (Int.le_trans (P1 h.w0 hm) hSm) hS hSm (upd (upd st b1 ⟨2,1,ws.length,f1⟩) b2 ⟨2,1,ws.length,f2⟩)
       unfold A7b at hpt
       rw [if_neg (by have:total * gI ws i / A5 ws≤total:=hq.2;omega)] at hpt;conv=>whnf
       refine ⟨rfl,⟨by omega,by omega⟩,?_⟩;conv=>whnf
       refine B0 hpt ?_;conv=>whnf
       refine ⟨rfl,⟨by omega,by omega⟩,?_⟩;conv=>whnf
       refine K8 (by rw [B1 hne];exact A0 ..) rfl (by omega) (hf _ (by omega)).1 (by rfl) ?_
       rw [O6 hne.symm,C5];conv=>whnf
       refine ⟨rfl,⟨by omega,by omega⟩,?_⟩;conv=>whnf
       refine K8 (A0 ..) rfl (by omega) (hf _ (by omega)).2 (by rfl) ?_
       rw [C5];conv=>whnf
       refine ⟨rfl,⟨by omega,by omega⟩,?_⟩;conv=>whnf
       refine F7 (by rw [B1 hne];exact A0 ..) rfl (by omega) (A6 ..) ?_;conv=>whnf
       refine ⟨rfl,?_⟩;conv=>whnf
       have e:IntKind.i64.wrap (F1 total (A5 ws) ws i - total * gI ws i / A5 ws)=F1 total (A5 ws) ws (i+1):=by
        unfold F1
        have:total * gI ws i / A5 ws=shQ total (A5 ws) ws i:=rfl
        rw [this,A7 (by omega) (by omega)];omega
       refine nx hi' ⟨by rw [C2 (by omega),e],fun e=>by omega,_,_,rfl,fun k hk=>?_⟩
       rw [show 0+(i:Int).toNat=i by omega]
       by_cases e1:k=i
       ·subst e1;rw [A6,A6]
        refine ⟨?_,?_⟩
        ·show eI (shQ total (A5 ws) ws k)=_;rw [if_pos (by omega)]
        ·show eI (total * gI ws k % A5 ws)=_;rw [if_pos (by omega)]
       ·have h7:=hf k hk
        rw [G2 e1,G2 e1]
        by_cases h8:k<i
        ·rw [if_pos h8,if_pos h8] at h7;rw [if_pos (by omega),if_pos (by omega)];exact h7
        ·rw [if_neg h8,if_neg h8] at h7;rw [if_neg (by omega),if_neg (by omega)];exact h7
     all_goals
      obtain ⟨hE1,hE2⟩:=hE
      clear hend hf fin hSi
      rw [hE2]
      have hres:A2P total ws=A2P total ws:=rfl
      have hrl:(A2P total ws).length=ws.length:=by unfold A2P;simp
      have eA:B6 (A2P total ws)=.arr 1 ws.length (fun k=>eI (gI (A2P total ws) k)):=by unfold B6 B2;rw [hrl]
      refine H8 (args':=[B6 (A2P total ws)]) (by
       rw [eA]
       exact O0 (A0 ..) rfl (Nat.le_refl _) (fun k hk=>by show f2 k=_;rw [(hE1 k hk).2];unfold A2P;rw [I7 _ hk])) (call (B3c (A2P total ws) (by omega) _) (fun v s2 hv=>?_))
      obtain ⟨⟨o,ho1,ho2,rfl⟩,rfl⟩:=hv
      rw [hrl] at ho1
      have hoS:=C0W ho1 ho2
      have hol:o.length=ws.length:=by rw [ho1.length_eq,A6X]
      have hog:∀ k,k<ws.length→gI o k=(at_ (shR total (A5 ws) ws) k).2:=fun k hk=>by
       rw [hoS];exact E1 (fun e:QE=>e.2) _ (by rw [A4Q];exact hk)
      have hdl:del (upd (upd st b1 ⟨2,1,ws.length,f1⟩) b2 ⟨2,1,ws.length,f2⟩) b2=upd st b1 ⟨2,1,ws.length,f1⟩:=A2b (by rw [B1 hne.symm];exact hb2') _
      rw [hdl];conv=>whnf
      refine lp (F1 total (A5 ws) ws ws.length).toNat [9,11,13,14] (fun i vs s=>vs=[.own 1 b1 0 ws.length,eI (F1 total (A5 ws) ws ws.length),B6 o,eI i]∧∃ f,s=upd st b1 ⟨2,1,ws.length,f⟩∧∀ k,k<ws.length→f k=eI (gI (O8 ((List.range ws.length).map (shQ total (A5 ws) ws)) ((shR total (A5 ws) ws).take i)) k)) ?_ ?_
      ·conv=>whnf
       exact ⟨rfl,f1,rfl,fun k hk=>by rw [(hE1 k hk).1];show _=eI (gI ((List.range ws.length).map _) k);rw [I7 _ hk]⟩
      ·rintro t vs s ht ⟨rfl,f,rfl,hf⟩
       conv=>whnf
       cases hd2:decide ((t:Int)<F1 total (A5 ws) ws ws.length)
       ·have:t=(F1 total (A5 ws) ws ws.length).toNat:=by have:=of_decide_eq_false hd2;omega
        subst this;conv=>whnf
        exact ⟨b1,f,hb1,rfl,rfl,by rw [hR];exact hf⟩
       ·have ht':(t:Int)<F1 total (A5 ws) ws ws.length:=of_decide_eq_true hd2
        have hx:0≤(at_ (shR total (A5 ws) ws) t).2∧(at_ (shR total (A5 ws) ws) t).2.toNat<ws.length:=A7V (total:=total) (S:=A5 ws) (ws:=ws) (B4 (l:=shR total (A5 ws) ws) (i:=t) (by rw [A4Q];omega))
        have hgo:=hog t (by omega)
        have htk:=L9 (l:=shR total (A5 ws) ws) (i:=t) (by rw [A4Q];omega)
        have hb1:=A3h ((List.range ws.length).map (shQ total (A5 ws) ws)) ((shR total (A5 ws) ws).take t) (at_ (shR total (A5 ws) ws) t).2.toNat
        rw [I7 _ hx.2,List.length_take] at hb1
        have hqq:0≤shQ total (A5 ws) ws (at_ (shR total (A5 ws) ws) t).2.toNat∧shQ total (A5 ws) ws (at_ (shR total (A5 ws) ws) t).2.toNat≤100000000000000:=by
         by_cases hS:A5 ws=0
         ·unfold shQ;rw [h.none hS,Int.zero_mul,Int.zero_ediv];omega
         ·have:=A2Q h (show 0<A5 ws by omega) hx.2;omega
        have hx2:0≤gI o t∧(gI o t).toNat<ws.length:=by rw [hgo];exact hx
        conv=>whnf
        refine ⟨rfl,⟨by omega,by omega⟩,?_⟩;conv=>whnf
        refine ⟨rfl,⟨by show 0≤gI o t;omega,by show gI o t<(ws.length:Int);omega⟩,?_⟩;conv=>whnf
        refine F7 (A0 ..) rfl (by show 0+(gI o t).toNat<_;omega) (hf _ (by show 0+(gI o t).toNat<_;omega)) ?_;conv=>whnf
        refine ⟨rfl,⟨by show 0≤gI o t;omega,by show gI o t<(ws.length:Int);omega⟩,?_⟩;conv=>whnf
        refine K8 (A0 ..) rfl (by show 0+(gI o t).toNat<_;omega) (hf _ (by show 0+(gI o t).toNat<_;omega)) (by rfl) ?_
        rw [C5];conv=>whnf
        refine ⟨rfl,?_⟩;conv=>whnf
        refine nx (by omega) ⟨by rw [C2 (by omega)],_,rfl,fun k hk=>?_⟩
        rw [htk,A7l,B8p (by rw [A0E];simpa using hx.2)]
        show H2 f (0+(gI o t).toNat) (eI (IntKind.i64.wrap (gI (O8 _ _) (0+(gI o t).toNat)+1))) k=_
        rw [Nat.zero_add,hgo]
        by_cases e1:k=(at_ (shR total (A5 ws) ws) t).2.toNat
        ·rw [if_pos e1,e1,A6,A7 (by omega) (by omega)]
        ·rw [if_neg e1,G2 e1];exact hf k hk
theorem B4x (us:List B5) (mine:List Int) (h:E2 us) (hm:J8 us mine) (st:St):S P 248 [C6 us,B6 mine] st fun v st'=>v=.bool true∧st'=st:=by
 have hlen:=h.len
 have hml:=hm.len
 refine A8 [] B9 mixed Tryz.func248 (by rfl) rfl rfl rfl ?_;conv=>whnf
 rw [decide_eq_false (show ¬(us.length:Int)>100000 by omega)];conv=>whnf
 refine lp us.length [0,1,5,6] (fun i vs s=>vs=[C6 us,B6 mine,eI (A5 ((D5 us).take i)),eI i]∧s=st) ?_ ?_
 ·conv=>whnf
  exact ⟨rfl,rfl⟩
 ·rintro i vs st' hi ⟨rfl,rfl⟩
  conv=>whnf
  cases hd:decide ((i:Int)<(us.length:Int))
  case true =>
   have hi':=G7 hd
   have e:=N4 (l:=D5 us) (i:=i) (by rw [List.length_map];exact hi')
   have e4:gI (D5 us) i=(gU us i).net:=E1 B5.net us hi'
   have h1:=C9 (l:=(D5 us).take i) (fun x hx=>h.nets0 x (List.take_subset _ _ hx))
   have h2:=L4 h.nets0 (i+1)
   have h3:=h.sum
   have h4:=h.at0 i
   have h5:=h.le (B4 hi')
   have w:IntKind.i64.wrap (A5 ((D5 us).take i)+(us.getD (i:Int).toNat default).net)=A5 ((D5 us).take (i+1)):=by rw [e,e4];exact A7 (by rw [Int.toNat_natCast];show _≤A5 ((D5 us).take i)+(gU us i).net;omega) (by rw [Int.toNat_natCast];show A5 ((D5 us).take i)+(gU us i).net≤_;omega)
   have f1:decide ((us.getD (i:Int).toNat default).net<0)=false:=decide_eq_false (by rw [Int.toNat_natCast];show ¬(gU us i).net<0;omega)
   have f2:decide ((us.getD (i:Int).toNat default).net>10000000000000)=false:=decide_eq_false (by rw [Int.toNat_natCast];omega)
   have f3:decide (A5 ((D5 us).take (i+1))>10000000000000)=false:=decide_eq_false (by omega)
   repeat' ((conv=>whnf);first | refine ⟨rfl,⟨by omega,by omega⟩,?_⟩ | rw [f1] | rw [f2] | rw [w,f3])
   conv=>whnf
   refine ⟨rfl,?_⟩;conv=>whnf
   exact nx hi' ⟨by rw [C2 (by omega)],rfl⟩
  conv=>whnf
  refine lp mine.length [0,1,7] (fun i vs s=>vs=[C6 us,B6 mine,eI i]∧s=st') ?_ ?_
  ·conv=>whnf
   exact ⟨rfl,rfl⟩
  ·rintro k vs st hk ⟨rfl,rfl⟩
   conv=>whnf
   cases hd2:decide ((k:Int)<(mine.length:Int))
   ·conv=>whnf
    exact ⟨rfl,rfl⟩
   ·have hk':=G7 hd2
    have hr:0≤mine.getD (k:Int).toNat default∧(mine.getD (k:Int).toNat default).toNat<us.length:=hm.rng k hk'
    have f1:decide (mine.getD (k:Int).toNat default<0)=false:=decide_eq_false (by omega)
    have f2:decide (mine.getD (k:Int).toNat default≥(us.length:Int))=false:=decide_eq_false (by omega)
    have f3:(!(us.getD (mine.getD (k:Int).toNat default).toNat default).opn)=false:=by
     have:=hm.opn k hk'
     rw [Bool.not_eq_false'];exact this
    conv=>whnf
    refine ⟨[],[],List.range 41,by kernel_rfl,?_⟩
    rcases Nat.eq_zero_or_pos k with h0 | h0
    ·have f4:decide ((k:Int)>0)=false:=decide_eq_false (by omega)
     repeat' ((conv=>whnf);first | refine ⟨rfl,⟨by omega,by omega⟩,?_⟩ | rw [f1] | rw [f2] | rw [f3] | rw [f4])
     conv=>whnf
     refine ⟨rfl,?_⟩;conv=>whnf
     exact nx hk' ⟨by rw [C2 (by omega)],rfl⟩
    ·have f4:decide ((k:Int)>0)=true:=decide_eq_true (by omega)
     have hw:=A5j h0 (by omega)
     have f5:decide (mine.getD (k:Int).toNat default≤mine.getD (IntKind.i64.wrap ((k:Int) - 1)).toNat default)=false:=decide_eq_false (by
      rw [hw,Int.toNat_natCast,Int.toNat_natCast]
      have:=hm.lt (k - 1) k (by omega) hk'
      exact Int.not_le.2 this)
     repeat' ((conv=>whnf);first | refine ⟨rfl,⟨by omega,by omega⟩,?_⟩ | refine ⟨rfl,⟨by rw [hw];omega,by rw [hw];omega⟩,?_⟩ | rw [f1] | rw [f2] | rw [f3] | rw [f4] | rw [f5])
     conv=>whnf
     refine ⟨rfl,?_⟩;conv=>whnf
     exact nx hk' ⟨by rw [C2 (by omega)],rfl⟩
theorem B5D (us:List B5) (mine:List Int) (h:E2 us) (hm:J8 us mine) (st:St):S P 249 [C6 us,B6 mine] st fun v st'=>v=B6 ((D8 us mine).map (·.2))∧st'=st:=by
 have hml:=hm.len
 have hul:=h.len
 have hnl:(E4 us mine).length=mine.length:=by unfold E4;rw [List.length_map]
 refine A1D (ty:=3) ?_
 refine A8 [] B9 mixed Tryz.func249 (by rfl) rfl rfl rfl ?_;conv=>whnf
 refine B0 (A4P us mine (by omega) hm.rng st) ?_;conv=>whnf
 refine call (B3c (E4 us mine) (by omega) _) (fun v s hv=>?_)
 obtain ⟨⟨o,ho1,ho2,rfl⟩,rfl⟩:=hv
 rw [hnl] at ho1
 have hol:o.length=mine.length:=by rw [ho1.length_eq,A6X]
 have hom:∀ {k:Nat},k<o.length→0≤gI o k∧(gI o k).toNat<mine.length:=fun hk=>A6n ho1 (fun x hx=>A4L hx) hk
 have he:(D8 us mine).map (·.2)=o.map fun x=>gI mine x.toNat:=by
  have e:o.map (fun x=>B6j us (gI mine x.toNat))=D8 us mine:=by
   refine List.Perm.eq_of_pairwise (le:=fun a b=>H0 b a=false) (fun a b _ _ h1 h2=>A7f h2 h1) (List.pairwise_map.2 ?_) (A3u _) (((ho1.map _).trans ?_).trans (A1J ..).symm)
   ·refine List.Pairwise.imp_of_mem ?_ ho2
    intro a b ha hb hab
    obtain ⟨a0,a1⟩:=A4L (ho1.subset ha)
    obtain ⟨b0,b1⟩:=A4L (ho1.subset hb)
    unfold B0M A9b at hab
    have ea:gI (E4 us mine) a.toNat=(gU us (gI mine a.toNat).toNat).net:=E1 (fun i:Int=>(gU us i.toNat).net) mine a1
    have eb:gI (E4 us mine) b.toNat=(gU us (gI mine b.toNat).toNat).net:=E1 (fun i:Int=>(gU us i.toNat).net) mine b1
    rw [ea,eb,R8] at hab
    unfold B6j
    rw [R8]
    simp only at hab ⊢
    rintro (h1 | ⟨h1,h2⟩)
    ·exact hab (.inl h1)
    ·refine hab (.inr ⟨h1,?_⟩)
     refine Int.lt_of_not_ge fun hge=>?_
     rcases Nat.eq_or_lt_of_le (show a.toNat≤b.toNat by omega) with e1 | e1
     ·rw [e1] at h2;omega
     ·have:=hm.lt a.toNat b.toNat e1 b1;omega
   ·unfold A2K
    rw [List.map_map]
    refine List.Perm.of_eq (List.ext_getElem (by simp) fun k h1 h2=>?_)
    have:k<mine.length:=by simpa using h1
    simp [gI,this]
  rw [←e,List.map_map];rfl
 rw [he];conv=>whnf
 refine lp o.length [1,5,6,7] (fun i vs s'=>∃ sv,vs=[B6 mine,B6 o,sv,eI i]∧F8 3 1 eI ((o.take i).map fun x=>gI mine x.toNat) s sv s') ?_ ?_
 ·conv=>whnf
  exact ⟨.emp,rfl,F8.start _ _ _ _⟩
 ·rintro i vs st' hi ⟨sv,rfl,hc⟩
  conv=>whnf
  cases hd:decide ((i:Int)<(o.length:Int))
  ·obtain rfl:=E0 hd hi
   rw [List.take_length] at hc;conv=>whnf
   exact hc
  ·have hi':=G7 hd
   have hx:=hom hi'
   conv=>whnf
   refine ⟨rfl,⟨by omega,by omega⟩,?_⟩;conv=>whnf
   refine ⟨rfl,⟨by show 0≤gI o i;omega,by show gI o i<(mine.length:Int);omega⟩,?_⟩;conv=>whnf
   refine F8.app (q:=r3) (y:=gI mine (gI o i).toNat) rfl rfl rfl rfl rfl rfl (by show (_+1) * 8≤140737488355328;rw [List.length_map,List.length_take];omega) hc (fun sv' s' hc'=>?_);conv=>whnf
   refine ⟨rfl,?_⟩;conv=>whnf
   refine nx hi' ⟨sv',by rw [C2 (by omega)],?_⟩
   rw [A1W hi'];exact hc'
theorem B5E (us:List B5) (items:List Ab.Item) (sc:Q8) (h1:Sm sc.skus.length) (h2:Sm sc.cats.length) (hu:us.length≤100000) (hl:∀ u∈us,0≤u.line∧u.line.toNat<items.length) (st:St) :
  S P 164 [C6 us,B2 4 F4 items,A2p sc] st fun v st'=>v=B6 (H5 sc items us us.length)∧st'=st:=by
 refine A1D (ty:=3) ?_
 refine A8 [5] B9 mixed Tryz.func164 (by rfl) rfl rfl rfl ?_;conv=>whnf
 refine lp us.length [0,1,5,7,8] (fun i vs s=>∃ sv,vs=[C6 us,B2 4 F4 items,.fptr (A2p sc) 0,sv,eI i]∧F8 3 1 eI (H5 sc items us i) st sv s) ?_ ?_
 ·conv=>whnf
  exact ⟨.emp,rfl,F8.start _ _ _ _⟩
 ·rintro i vs st' hi ⟨sv,rfl,hc⟩
  conv=>whnf
  cases hd:decide ((i:Int)<(us.length:Int))
  ·obtain rfl:=E0 hd hi
   conv=>whnf
   exact hc
  ·have hi':=G7 hd
   have hlk:0≤(us.getD (i:Int).toNat default).line∧(us.getD (i:Int).toNat default).line.toNat<items.length:=hl _ (B4 hi')
   have es:=A8C sc items us i
   have hpl:=A1z sc items us i
   have eo:A0t sc items (gU us i)=((us.getD (i:Int).toNat default).opn&&A7F sc (items.getD (us.getD (i:Int).toNat default).line.toNat default)):=rfl
   rw [eo] at es
   have n1:=C2R sc (items.getD (us.getD (i:Int).toNat default).line.toNat default) h1 h2 st'
   generalize A7F sc (items.getD (us.getD (i:Int).toNat default).line.toNat default)=b1 at n1 es
   conv=>whnf
   refine ⟨[],[],List.range 17,by kernel_rfl,?_⟩;conv=>whnf
   refine ⟨rfl,⟨by omega,by omega⟩,?_⟩;conv=>whnf
   cases ho:(us.getD (i:Int).toNat default).opn
   case' true =>
    rw [ho,Bool.true_and] at es;conv=>whnf
    refine ⟨rfl,⟨by omega,by omega⟩,?_⟩;conv=>whnf
    refine ⟨rfl,⟨by omega,by omega⟩,?_⟩;conv=>whnf
    refine ⟨_,D3 n1,?_⟩
    cases b1
    case true =>
     rw [if_pos rfl] at es;conv=>whnf
     refine F8.app (q:=r3) (y:=(i:Int)) rfl rfl rfl rfl rfl rfl (by show (_+1) * 8≤140737488355328;omega) hc (fun sv' s' hc'=>?_);conv=>whnf
     refine ⟨rfl,?_⟩;conv=>whnf
     exact nx hi' ⟨sv',by rw [C2 (by omega)],by rw [es];exact hc'⟩
    rw [if_neg (by simp),List.append_nil] at es
   case' false =>
    rw [ho,Bool.false_and,if_neg (by simp),List.append_nil] at es
   all_goals (conv=>whnf)
   all_goals refine ⟨rfl,?_⟩
   all_goals (conv=>whnf)
   all_goals exact nx hi' ⟨sv,by rw [C2 (by omega)],by rw [es];exact hc⟩
theorem A8Z (l:List Y0) (x:Int) (hl:l.length≤100000) (st:St):S P 307 [B2 3 O5 l,eI x] st fun v st'=>v=.tuple [O5 ((K2 l x).getD default),.bool (K2 l x).isSome]∧st'=st:=by
 refine A5c ?_
 refine A8 [] B9 mixed Tryz.func307 (by rfl) rfl rfl rfl ?_;conv=>whnf
 intro b hb;conv=>whnf
 have w0:IntKind.i64.wrap ((l.length:Int) - 1)=(l.length:Int) - 1:=A7 (by omega) (by omega)
 refine ⟨[0,1,4,6],fun m vs st'=>∃ (i:Int) (f:Nat→AV) (u:Y0),-1≤i∧i<l.length∧(∀ k:Nat,i<k→k<l.length→decide ((l.getD k default).least≤x)=false)∧m=(i+1).toNat∧vs=[B2 3 O5 l,eI x,.optr 3 b 0 0,eI i]∧st'=upd st b ⟨250,3,1,f⟩∧f 0=O5 u,?_,?_⟩
 ·conv=>whnf
  exact ⟨_,(l.length:Int) - 1,_,default,by omega,by omega,fun k h1 h2=>by omega,rfl,by rw [w0],rfl,rfl⟩
 ·rintro m vs st' ⟨i,f,u,h0,hi,hno,rfl,rfl,rfl,hf⟩
  conv=>whnf
  cases h:decide (i≥0)
  ·have:=of_decide_eq_false h
   have hr:K2 l x=none:=A6q fun k hk=>hno k (by omega) hk
   conv=>whnf
   refine K8 (A0 ..) rfl (by omega) hf (by rfl) ?_;conv=>whnf
   refine F7 (A0 ..) rfl (by omega) (A6 ..) ?_;conv=>whnf
   refine ⟨by rw [hr];rfl,((G3.refl st).upd hb).over hb⟩
  ·have hi0:=of_decide_eq_true h
   conv=>whnf
   refine ⟨rfl,⟨by omega,by omega⟩,?_⟩;conv=>whnf
   refine C0 (fun h1=>?_) (fun h1=>?_)
   ·have hr:K2 l x=some (l.getD i.toNat default):=A6r (by omega) (fun k h2 h3=>hno k (by omega) h3) h1
    rw [h1];conv=>whnf
    refine ⟨rfl,⟨by omega,by omega⟩,?_⟩;conv=>whnf
    refine K8 (A0 ..) rfl (by omega) hf (by rfl) ?_;conv=>whnf
    refine F7 (A0 ..) rfl (by omega) (A6 ..) ?_;conv=>whnf
    refine ⟨by rw [hr];rfl,((G3.refl st).upd hb).over hb⟩
   ·have w:IntKind.i64.wrap (i - 1)=i - 1:=A7 (by omega) (by omega)
    rw [h1];conv=>whnf
    refine ⟨rfl,?_⟩;conv=>whnf
    refine ⟨i.toNat,by omega,i - 1,f,u,by omega,by omega,fun k h2 h3=>?_,by omega,by rw [w],rfl,hf⟩
    rcases (by omega:k=i.toNat∨i<k) with e | e
    ·rw [e];exact h1
    ·exact hno k e h3
def A1l (us:List B5) (mine offs:List Int) (closes:Bool):List B5×Int :=
 if A5 offs=0 then (us,0) else (if closes=true then closeB (D1 us mine offs offs.length) mine else D1 us mine offs offs.length,A5 offs)
theorem A1x {us:List B5} {mine offs:List Int} (h:∀ k,k<offs.length→gI offs k=0):∀ k,k≤offs.length→D1 us mine offs k=us
 | 0,_=>rfl
 | k+1,hk=>by
  unfold D1
  rw [A1x h k (by omega),h k (by omega)]
  unfold less1
  refine List.ext_getElem (by simp) fun j h1 h2=>?_
  rw [List.getElem_set]
  split
  ·rename_i e;subst e
   have e:gU us (gI mine k).toNat=us[(gI mine k).toNat]:=by unfold gU;rw [List.getD_eq_getElem?_getD,List.getElem?_eq_getElem h2];rfl
   rw [e,Int.sub_zero]
  ·rfl
theorem A2n {l:List Int} (h0:∀ x∈l,0≤x) (hs:A5 l=0):∀ k,k<l.length→gI l k=0:=fun k hk=>by
 have h1:=h0 _ (B4 hk)
 have h2:=P1 h0 (B4 hk)
 show l.getD k default=0
 omega
theorem B1D (us:List B5) (mine offs:List Int) (closes:Bool) (hu:E2 us) (hm:T4 us mine) (hml:mine.length≤1000000) (hol:offs.length≤mine.length) (ho:∀ k,k<offs.length→0≤gI offs k∧gI offs k≤(gU us (gI mine k).toNat).net) (hs:A5 offs≤1000000000000000) (st:St) :
  S P 250 [C6 us,B6 mine,B6 offs,eB closes] st fun v st'=>v=.tuple [C6 (A1l us mine offs closes).1,eI (A1l us mine offs closes).2]∧st'=st:=by
 have hul:=hu.len
 have ho0:∀ x∈offs,0≤x:=fun x hx=>by obtain ⟨k,hk,rfl⟩:=F0 hx;exact (ho k hk).1
 refine S.post (post:=fun v st'=>∃ sv,v=.tuple [sv,eI (A1l us mine offs closes).2]∧A3H st (A1l us mine offs closes).1 sv st') ?_
  (fun v st' ⟨sv,hv,h⟩=>⟨_,st,⟨rfl,rfl⟩,by rw [hv];exact B3.tuple (B3.cons h.shift (B3.keep _ _)) rfl⟩)
 refine A8 [] B9 mixed Tryz.func250 (by rfl) rfl rfl rfl ?_
 have nsum:=fun s=>A9i offs (by omega) ho0 (by omega) s
 have hS:A1l us mine offs closes=if A5 offs=0 then (us,0) else (if closes=true then closeB (D1 us mine offs offs.length) mine else D1 us mine offs offs.length,A5 offs):=rfl
 conv=>whnf
 refine apE (q:=B6N) rfl rfl rfl rfl (A5C _ _ _ _) (by show us.length * 24≤_;omega) (fun h0=>?_) (fun h0 b hb=>?_)
 ·have hus:us=[]:=List.eq_nil_of_length_eq_zero h0
  have hmi:mine.length=0:=by
   rcases Nat.eq_zero_or_pos mine.length with e | e
   ·exact e
   ·have:=(hm.rng 0 e).2;omega
  have hof:offs=[]:=List.eq_nil_of_length_eq_zero (by omega)
  have hz:A5 offs=0:=by rw [hof];rfl
  rw [if_pos hz] at hS;conv=>whnf
  refine B0 (nsum _) ?_
  rw [hz];conv=>whnf
  exact ⟨_,by rw [hS];rfl,by rw [hS];exact ⟨G3.refl _,.inl ⟨hus,rfl⟩⟩⟩
 ·conv=>whnf
  refine B0 (nsum _) ?_;conv=>whnf
  cases hz:(A5 offs==0)
  case true =>
   rw [if_pos (eq_of_beq hz)] at hS;conv=>whnf
   exact ⟨_,by rw [hS];rfl,by rw [hS];exact ⟨(G3.refl _).upd hb,.inr ⟨b,hb,rfl,_,A0 ..,fun k hk=>rfl⟩⟩⟩
  rw [if_neg (ne_of_beq_false hz)] at hS;conv=>whnf
  refine lp offs.length [1,2,3,10,11] (fun i vs s=>vs=[B6 mine,B6 offs,eB closes,.own 3 b 0 us.length,eI i]∧∃ f,s=upd st b ⟨152,3,us.length,f⟩∧∀ j,j<us.length→f j=S9 (gU (D1 us mine offs i) j)) ?_ ?_
  ·conv=>whnf
   exact ⟨rfl,_,rfl,fun j hj=>rfl⟩
  ·rintro i vs s hi ⟨rfl,f,rfl,hf⟩
   conv=>whnf
   cases hd:decide ((i:Int)<(offs.length:Int))
   ·obtain rfl:=E0 hd hi
    have hlt:=M8 us mine offs offs.length
    conv=>whnf
    refine lp mine.length [1,2,3,10,12] (fun i vs s=>(closes=false→i=0)∧vs=[B6 mine,B6 offs,eB closes,.own 3 b 0 us.length,eI i]∧∃ f,s=upd st b ⟨152,3,us.length,f⟩∧∀ j,j<us.length→f j=S9 (gU (closeB (D1 us mine offs offs.length) (mine.take i)) j)) ?_ ?_
    ·conv=>whnf
     exact ⟨fun _=>rfl,rfl,_,rfl,hf⟩
    ·clear hf
     rintro i vs s hi ⟨hci,rfl,f,rfl,hf⟩
     conv=>whnf
     have hend:(i=mine.length∨closes=false)→∀ j,j<us.length→f j=S9 (gU (A1l us mine offs closes).1 j):=fun hE=>by
      intro j hj
      have h7:=hf j hj
      have e1:(A1l us mine offs closes).1=if closes=true then closeB (D1 us mine offs offs.length) mine else D1 us mine offs offs.length:=by rw [hS]
      rw [e1]
      cases hc:closes
      ·rw [hci hc,List.take_zero] at h7;rw [if_neg (by simp)];exact h7
      ·rcases hE with hE | hE
       ·rw [hE,List.take_length] at h7;rw [if_pos rfl];exact h7
       ·rw [hE] at hc;cases hc
     have hlen:(A1l us mine offs closes).1.length=us.length:=by
      rw [hS];show (if closes=true then _ else _:List B5).length=_
      split
      ·rw [A0G,hlt]
      ·exact hlt
     cases hd:decide ((i:Int)<(mine.length:Int))
     case' false =>
      have hE:=hend (.inl (E0 hd hi))
      conv=>whnf
     case' true =>
      have hi':=G7 hd
      conv=>whnf
      cases hc:closes
      case' false =>
       have hE:=hend (.inr hc)
       rw [hc] at hS hlen hE;conv=>whnf
      case' true =>
       have hr:=hm.rng i hi'
       conv=>whnf
       refine ⟨rfl,⟨by omega,by omega⟩,?_⟩;conv=>whnf
       refine ⟨rfl,⟨by show 0≤gI mine i;omega,by show gI mine i<(us.length:Int);omega⟩,?_⟩;conv=>whnf
       refine K8 (A0 ..) rfl (by show 0+(gI mine i).toNat<_;omega) (v:=S9 (gU (closeB (D1 us mine offs offs.length) (mine.take i)) (gI mine i).toNat)) (by rw [Nat.zero_add];exact hf _ hr.2) (by rfl) ?_
       rw [C5];conv=>whnf
       refine ⟨rfl,?_⟩;conv=>whnf
       have e:closeB (D1 us mine offs offs.length) (mine.take (i+1))=close1 (closeB (D1 us mine offs offs.length) (mine.take i)) (gI mine i).toNat:=O3 hi' _ _
       refine ⟨mine.length - (i+1),by omega,i+1,by omega,rfl,fun e=>Bool.noConfusion e,by rw [C2 (by omega)],_,rfl,fun j hj=>?_⟩
       rw [e,Nat.zero_add,show (mine.getD (i:Int).toNat default).toNat=(gI mine i).toNat from rfl]
       unfold close1
       rw [A3W (by rw [A0G,hlt];exact hr.2)]
       by_cases hj2:j=(gI mine i).toNat
       ·rw [if_pos hj2,hj2,A6];rfl
       ·rw [if_neg hj2,G2 hj2];exact hf j hj
     all_goals
      refine B0 (nsum _) ?_;conv=>whnf
      refine ⟨.own 3 b 0 us.length,by rw [hS];rfl,(G3.refl st).upd hb,.inr ⟨b,hb,by rw [hlen],f,by rw [hlen];exact A0 ..,fun k hk=>?_⟩⟩
      rw [hlen] at hk
      exact hE k hk
   ·have hi':=G7 hd
    have hr:=hm.rng i (by omega)
    have hat:=A2m (offs:=offs) hm (show i<mine.length by omega)
    have hx:=ho i hi'
    have hnet1:(gU us (gI mine i).toNat).net≤10000000000000:=hu.le (B4 hr.2)
    have hfm:f (0+(gI mine i).toNat)=S9 (gU (D1 us mine offs i) (gI mine i).toNat):=by rw [Nat.zero_add];exact hf _ hr.2
    conv=>whnf
    refine ⟨[20],[],List.range 21,by kernel_rfl,?_⟩;conv=>whnf
    refine ⟨rfl,⟨by omega,by omega⟩,?_⟩;conv=>whnf
    refine ⟨rfl,⟨by omega,by omega⟩,?_⟩;conv=>whnf
    refine ⟨rfl,⟨by show 0≤gI mine i;omega,by show gI mine i<(us.length:Int);omega⟩,?_⟩;conv=>whnf
    refine F7 (A0 ..) rfl (by show 0+(gI mine i).toNat<_;omega) hfm ?_;conv=>whnf
    refine ⟨rfl,⟨by omega,by omega⟩,?_⟩;conv=>whnf
    refine ⟨rfl,⟨by show 0≤gI mine i;omega,by show gI mine i<(us.length:Int);omega⟩,?_⟩;conv=>whnf
    refine K8 (A0 ..) rfl (by show 0+(gI mine i).toNat<_;omega) hfm (by rfl) ?_
    rw [C5];conv=>whnf
    refine ⟨rfl,?_⟩;conv=>whnf
    have w:IntKind.i64.wrap ((gU (D1 us mine offs i) (gI mine i).toNat).net - gI offs i)=(gU (D1 us mine offs i) (gI mine i).toNat).net - gI offs i:=by
     rw [hat];exact A7 (by omega) (by omega)
    refine nx hi' ⟨by rw [C2 (by omega)],_,rfl,fun j hj=>?_⟩
    show _=S9 (gU (less1 (D1 us mine offs i) (gI mine i).toNat (gI offs i)) j)
    unfold less1
    rw [A3W (by rw [M8];exact hr.2)]
    by_cases hj2:j=(gI mine i).toNat
    ·rw [if_pos hj2,hj2,←w]
     show H2 f (0+(gI mine i).toNat) _ _=_
     rw [Nat.zero_add,A6];rfl
    ·rw [if_neg hj2]
     show H2 f (0+(gI mine i).toNat) _ _=_
     rw [Nat.zero_add,G2 hj2];exact hf j hj
def I4 (p:A9) (x:Int):Y0:=(K2 p.tiers x).getD default
def R6 (p:A9) (nets:List Int):List Int :=
 if p.kind=1 then nets.map fun x=>H4 x p.rate else if p.kind=2 then nets.map fun x=>N2 x 0 p.amount
 else if p.kind=6 then nets.map fun x=>N2 x (I4 p nets.length).rate (I4 p nets.length).amount
 else D4 (N2 (A5 nets) (I4 p (A5 nets)).rate (I4 p (A5 nets)).amount) nets
theorem A6U {x:Int} (h0:0≤x) (h1:x≤100000000000000):H4 x 0=0:=by
 unfold H4
 rw [if_pos ⟨by omega,by omega⟩]
 unfold A1p
 rw [if_neg (by rw [(Z6 x).2 ⟨h0,h1⟩];decide),Int.mul_zero]
 rfl
theorem A8B {x rate amount:Int}:(if H4 x rate+amount<x then H4 x rate+amount else x)=N2 x rate amount:=by
 unfold N2;split<;>split<;>omega
theorem C1j (p:A9) (nets:List Int) (hp:A3L p) (hl:nets.length≤100000) (h0:∀ x∈nets,0≤x) (hs:A5 nets≤10000000000000) (st:St) :
  S P 251 [B7 p,B6 nets] st fun v st'=>v=B6 (R6 p nets)∧st'=st:=by
 refine S.post (post:=fun v st'=>(∃ st1,G3 st st1∧F8 2 1 eI (R6 p nets) st1 v st')∨(v=B6 (R6 p nets)∧G3 st st')) ?_
  (fun v st' h=>⟨_,st,⟨rfl,rfl⟩,by
   rcases h with ⟨st1,h1,h2⟩ | ⟨rfl,h1⟩
   ·exact h2.shift.trans (h1.shift _)
   ·exact h1.shift _⟩)
 have hx1:∀ x∈nets,x≤10000000000000:=fun x hx=>Int.le_trans (P1 h0 hx) hs
 have hsn:=C9 h0
 refine A8 [2] B9 mixed Tryz.func251 (by rfl) rfl rfl rfl ?_;conv=>whnf
 rcases hp.kind with hk | hk | hk | hk
 ·have hL:R6 p nets=nets.map fun x=>H4 x p.rate:=by unfold R6;rw [if_pos hk]
  rw [show (p.kind==1)=true from by rw [hk];rfl,hL];conv=>whnf
  refine lp nets.length [1,2,5,6] (fun i vs s=>∃ sv,vs=[B6 nets,.fptr (B7 p) 0,sv,eI i]∧F8 2 1 eI ((nets.take i).map fun x=>H4 x p.rate) st sv s) ?_ ?_
  ·conv=>whnf
   exact ⟨.emp,rfl,F8.start _ _ _ _⟩
  ·rintro i vs s hi ⟨sv,rfl,hc⟩
   conv=>whnf
   cases hd:decide ((i:Int)<(nets.length:Int))
   ·obtain rfl:=E0 hd hi
    rw [List.take_length] at hc;conv=>whnf
    exact .inl ⟨st,G3.refl _,hc⟩
   ·have hi':=G7 hd
    conv=>whnf
    refine ⟨[8,9],[],List.range 11,by kernel_rfl,?_⟩;conv=>whnf
    refine ⟨rfl,⟨by omega,by omega⟩,?_⟩;conv=>whnf
    refine ⟨_,D3 (A6t (nets.getD (i:Int).toNat default) p.rate _),?_⟩;conv=>whnf
    refine F8.app (q:=r2) (y:=H4 (nets.getD (i:Int).toNat default) p.rate) rfl rfl rfl rfl rfl rfl (by show (_+1) * 8≤140737488355328;rw [List.length_map,List.length_take];omega) hc (fun sv' s' hc'=>?_);conv=>whnf
    refine ⟨rfl,?_⟩;conv=>whnf
    exact nx hi' ⟨sv',by rw [C2 (by omega)],by rw [A1W hi'];exact hc'⟩
 ·have hL:R6 p nets=nets.map fun x=>N2 x 0 p.amount:=by unfold R6;rw [if_neg (by omega),if_pos hk]
  have ha:=hp.amount hk
  rw [show (p.kind==1)=false from by rw [hk];rfl,hL];conv=>whnf
  rw [show (p.kind==2)=true from by rw [hk];rfl];conv=>whnf
  refine lp nets.length [1,2,5,7] (fun i vs s=>∃ sv,vs=[B6 nets,.fptr (B7 p) 0,sv,eI i]∧F8 2 1 eI ((nets.take i).map fun x=>N2 x 0 p.amount) st sv s) ?_ ?_
  ·conv=>whnf
   exact ⟨.emp,rfl,F8.start _ _ _ _⟩
  ·rintro i vs s hi ⟨sv,rfl,hc⟩
   conv=>whnf
   cases hd:decide ((i:Int)<(nets.length:Int))
   ·obtain rfl:=E0 hd hi
    rw [List.take_length] at hc;conv=>whnf
    exact .inl ⟨st,G3.refl _,hc⟩
   ·have hi':=G7 hd
    have hz:H4 (nets.getD (i:Int).toNat default) 0=0:=A6U (h0 _ (B4 hi')) (Int.le_trans (hx1 _ (B4 hi')) (by decide))
    have hm:=A8B (x:=nets.getD (i:Int).toNat default) (rate:=0) (amount:=p.amount)
    rw [hz,Int.zero_add] at hm;conv=>whnf
    refine ⟨[8,9],[],List.range 11,by kernel_rfl,?_⟩;conv=>whnf
    refine ⟨rfl,⟨by omega,by omega⟩,?_⟩;conv=>whnf
    refine F8.app (q:=r2) (y:=N2 (nets.getD (i:Int).toNat default) 0 p.amount) rfl rfl rfl rfl rfl (by rw [←hm];rfl) (by show (_+1) * 8≤140737488355328;rw [List.length_map,List.length_take];omega) hc (fun sv' s' hc'=>?_);conv=>whnf
    refine ⟨rfl,?_⟩;conv=>whnf
    exact nx hi' ⟨sv',by rw [C2 (by omega)],by rw [A1W hi'];exact hc'⟩
 ·have hL:R6 p nets=D4 (N2 (A5 nets) (I4 p (A5 nets)).rate (I4 p (A5 nets)).amount) nets:=by unfold R6;rw [if_neg (by omega),if_neg (by omega),if_neg (by omega)]
  have ht:=hp.tiers (.inl hk)
  have hok:0≤(I4 p (A5 nets)).amount∧(I4 p (A5 nets)).amount≤10000000000000:=V6 ht (A5 nets)
  have hob:0≤N2 (A5 nets) (I4 p (A5 nets)).rate (I4 p (A5 nets)).amount∧N2 (A5 nets) (I4 p (A5 nets)).rate (I4 p (A5 nets)).amount≤A5 nets:=V0 hsn hok.1
  have hW:O7 (N2 (A5 nets) (I4 p (A5 nets)).rate (I4 p (A5 nets)).amount) nets:=⟨hob.1,by omega,hl,h0,by omega,fun e=>by omega⟩
  have hb:=P4 (A5 nets) (I4 p (A5 nets)).rate
  have w:IntKind.i64.wrap (H4 (A5 nets) (I4 p (A5 nets)).rate+(I4 p (A5 nets)).amount)=H4 (A5 nets) (I4 p (A5 nets)).rate+(I4 p (A5 nets)).amount:=A7 (by omega) (by omega)
  rw [show (p.kind==1)=false from by rw [hk];rfl,hL];conv=>whnf
  rw [show (p.kind==2)=false from by rw [hk];rfl];conv=>whnf
  rw [show (p.kind==6)=false from by rw [hk];rfl];conv=>whnf
  rw [show (p.kind==5)=true from by rw [hk];rfl];conv=>whnf
  refine B0 (A9i nets (by omega) h0 (by omega) _) ?_;conv=>whnf
  refine B0 (A8Z p.tiers (A5 nets) (by have:=ht.1;omega) _) ?_;conv=>whnf
  intro b hbn;conv=>whnf
  refine K8 (A0 ..) rfl (by omega) rfl (by rfl) ?_;conv=>whnf
  refine ⟨[],[],List.range 15,by kernel_rfl,?_⟩;conv=>whnf
  refine F7 (A0 ..) rfl (by omega) (v:=O5 (I4 p (A5 nets))) (by rw [A6];rfl) ?_;conv=>whnf
  refine ⟨_,D3 (A6t (A5 nets) (I4 p (A5 nets)).rate _),?_⟩;conv=>whnf
  refine F7 (A0 ..) rfl (by omega) (v:=O5 (I4 p (A5 nets))) (by rw [A6];rfl) ?_;conv=>whnf
  rw [w,A8B]
  refine ⟨_,D3 (A9f _ nets hW _),?_⟩;conv=>whnf
  exact .inr ⟨rfl,((G3.refl st).upd hbn).over hbn⟩
 ·have hL:R6 p nets=nets.map fun x=>N2 x (I4 p nets.length).rate (I4 p nets.length).amount:=by unfold R6;rw [if_neg (by omega),if_neg (by omega),if_pos hk]
  have ht:=hp.tiers (.inr hk)
  have hok:0≤(I4 p nets.length).amount∧(I4 p nets.length).amount≤10000000000000:=V6 ht nets.length
  rw [show (p.kind==1)=false from by rw [hk];rfl,hL];conv=>whnf
  rw [show (p.kind==2)=false from by rw [hk];rfl];conv=>whnf
  rw [show (p.kind==6)=true from by rw [hk];rfl];conv=>whnf
  refine B0 (A8Z p.tiers nets.length (by have:=ht.1;omega) _) ?_;conv=>whnf
  intro b hbn;conv=>whnf
  refine K8 (A0 ..) rfl (by omega) rfl (by rfl) ?_
  rw [C5];conv=>whnf
  generalize hst1:upd st b _=st1
  obtain ⟨f1,hs1,hf1⟩:∃ f,st1 b=some ⟨250,3,1,f⟩∧f 0=O5 (I4 p nets.length):=⟨_,by rw [←hst1];exact A0 ..,by rw [A6];rfl⟩
  have hsup:G3 st st1:=by rw [←hst1];exact (G3.refl st).upd hbn
  clear hst1
  refine lp nets.length [1,5,8,10] (fun i vs s=>∃ sv,vs=[B6 nets,sv,.optr 3 b 0 0,eI i]∧F8 2 1 eI ((nets.take i).map fun x=>N2 x (I4 p nets.length).rate (I4 p nets.length).amount) st1 sv s) ?_ ?_
  ·conv=>whnf
   exact ⟨.emp,rfl,F8.start _ _ _ _⟩
  ·rintro i vs s hi ⟨sv,rfl,hc⟩
   have hb2:=hc.sup b _ hs1
   conv=>whnf
   cases hd:decide ((i:Int)<(nets.length:Int))
   ·obtain rfl:=E0 hd hi
    rw [List.take_length] at hc;conv=>whnf
    exact .inl ⟨st1,hsup,hc⟩
   ·have hi':=G7 hd
    have hb:=P4 (nets.getD (i:Int).toNat default) (I4 p nets.length).rate
    have w:IntKind.i64.wrap (H4 (nets.getD (i:Int).toNat default) (I4 p nets.length).rate+(I4 p nets.length).amount)=H4 (nets.getD (i:Int).toNat default) (I4 p nets.length).rate+(I4 p nets.length).amount:=A7 (by omega) (by omega)
    have hm:=A8B (x:=nets.getD (i:Int).toNat default) (rate:=(I4 p nets.length).rate) (amount:=(I4 p nets.length).amount)
    rw [←w] at hm;conv=>whnf
    refine ⟨[16,17],[],List.range 19,by kernel_rfl,?_⟩;conv=>whnf
    refine ⟨rfl,⟨by omega,by omega⟩,?_⟩;conv=>whnf
    refine ⟨rfl,⟨by omega,by omega⟩,?_⟩;conv=>whnf
    refine F7 hb2 rfl (by omega) hf1 ?_;conv=>whnf
    refine ⟨_,D3 (A6t (nets.getD (i:Int).toNat default) (I4 p nets.length).rate _),?_⟩;conv=>whnf
    refine F7 hb2 rfl (by omega) hf1 ?_;conv=>whnf
    refine F8.app (q:=r2) (y:=N2 (nets.getD (i:Int).toNat default) (I4 p nets.length).rate (I4 p nets.length).amount) rfl rfl rfl rfl rfl (by rw [←hm];rfl) (by show (_+1) * 8≤140737488355328;rw [List.length_map,List.length_take];omega) hc (fun sv' s' hc'=>?_);conv=>whnf
    refine ⟨rfl,?_⟩;conv=>whnf
    exact nx hi' ⟨sv',by rw [C2 (by omega)],by rw [A1W hi'];exact hc'⟩
theorem B9H {α : Type} (l:List α):A5 (l.map fun _=>(0:Int))=0:=by
 induction l with
 | nil=>rfl
 | cons x l ih=>rw [List.map_cons,show (0:Int)::l.map (fun _=>(0:Int))=[0]++l.map (fun _=>(0:Int)) from rfl,F3,ih];rfl
theorem B8L {p:A9} (hp:A3L p) {nets:List Int} (h0:∀ x∈nets,0≤x) (hs:A5 nets≤10000000000000) (hl:nets.length≤100000) :
  R6 p nets=K6 p nets∨(K6 p nets=[]∧A5 (R6 p nets)=0∧(R6 p nets).length=nets.length∧∀ k,k<(R6 p nets).length→gI (R6 p nets) k=0):=by
 have hx1:∀ x∈nets,x≤10000000000000:=fun x hx=>Int.le_trans (P1 h0 hx) hs
 have ok:=A2i hp.right
 rcases hp.kind with hk | hk | hk | hk
 ·refine .inl ?_
  unfold R6 K6 B2I
  rw [if_pos hk,if_pos hk]
  refine List.map_congr_left fun x hx=>?_
  have hr:1≤p.rate∧p.rate≤10000:=by
   have:=hp.right
   unfold F6 A5f A6m at this
   rw [if_pos hk] at this
   simp only [Bool.and_eq_true,K4] at this
   exact this.2
  have:=A3s (h0 x hx) (show 0≤p.rate by omega) hr.2
  unfold N2
  rw [Int.add_zero];split<;>omega
 ·refine .inl ?_
  unfold R6 K6 B2H
  rw [if_neg (by omega),if_pos hk,if_neg (by omega),if_pos hk]
 ·unfold R6 K6 A3B
  rw [if_neg (by omega),if_neg (by omega),if_neg (by omega),if_neg (by omega),if_neg (by omega),if_pos hk]
  cases hr:K2 p.tiers (A5 nets) with
  | some t=>refine .inl ?_;unfold I4;rw [hr];rfl
  | none =>
   have hsn:=C9 h0
   have e:N2 (A5 nets) (I4 p (A5 nets)).rate (I4 p (A5 nets)).amount=0:=by
    unfold I4;rw [hr]
    show N2 (A5 nets) 0 0=0
    unfold N2
    rw [A6U hsn (by omega),Int.add_zero];split<;>omega
   rw [e]
   have hW:O7 0 nets:=⟨by omega,by omega,hl,h0,by omega,fun _=>rfl⟩
   obtain ⟨a,b,c⟩:=U8 hW
   exact .inr ⟨rfl,a,b,A2n c a⟩
 ·unfold R6 K6 A3A
  rw [if_neg (by omega),if_neg (by omega),if_pos hk,if_neg (by omega),if_neg (by omega),if_neg (by omega)]
  cases hr:K2 p.tiers nets.length with
  | some t=>refine .inl ?_;unfold I4;rw [hr];rfl
  | none =>
   have e:(nets.map fun x=>N2 x (I4 p nets.length).rate (I4 p nets.length).amount)=nets.map fun _=>(0:Int):=by
    refine List.map_congr_left fun x hx=>?_
    unfold I4;rw [hr]
    show N2 x 0 0=0
    unfold N2
    rw [A6U (h0 x hx) (Int.le_trans (hx1 x hx) (by decide)),Int.add_zero]
    have:=h0 x hx
    split<;>omega
   rw [e]
   exact .inr ⟨rfl,B9H nets,by simp,fun k hk=>by rw [List.length_map] at hk;exact E1 (fun _:Int=>(0:Int)) nets hk⟩
theorem A3n (us:List B5) (mine:List Int):(E4 us mine).length=mine.length:=List.length_map ..
theorem A8I {us:List B5} (hu:E2 us) {mine:List Int} (hm:J8 us mine):(∀ x∈E4 us mine,0≤x)∧A5 (E4 us mine)≤10000000000000:=by
 have hwl:=A9y hu hm.places
 have hus:=hu.sum
 exact ⟨fun x hx=>by obtain ⟨i,hi,rfl⟩:=List.mem_map.1 hx;exact hu.at0 _,by rw [A6j];omega⟩
theorem B2B {p:A9} {us:List B5} {mine:List Int} (h0:∀ x∈K6 p (E4 us mine),0≤x):A1l us mine (K6 p (E4 us mine)) p.closes=T8 p us mine:=by
 have hn:=C9 h0
 unfold A1l T8
 by_cases hz:A5 (K6 p (E4 us mine))=0
 ·rw [if_pos hz]
  simp only
  rw [hz,A1x (A2n h0 hz) _ (Nat.le_refl _)];rfl
 ·rw [if_neg hz]
  simp only
  rw [decide_eq_true (show A5 (K6 p (E4 us mine))>0 by omega),Bool.true_and]
theorem B8U (p:A9) (us:List B5) (mine:List Int) (hp:A3L p) (hps:A0k p) (hu:E2 us) (hm:J8 us mine) (st:St) :
  S P 167 [B7 p,C6 us,B6 mine] st fun v st'=>v=.tuple [C6 (T8 p us mine).1,eI (T8 p us mine).2]∧st'=st:=by
 have hml:=hm.len
 have hul:=hu.len
 obtain ⟨hn0,hns⟩:=A8I hu hm
 have hnl:=A3n us mine
 have hob:=A3o hp hn0 hns (by omega)
 obtain ⟨ob1,ob2,ob3⟩:=hob
 have hle:=B5A hp hn0 hns (by omega)
 have hcz:=B8L hp hn0 hns (by omega)
 have hlen:(R6 p (E4 us mine)).length≤mine.length:=by
  rcases hcz with e | ⟨_,_,e,_⟩
  ·rw [e];omega
  ·omega
 have hc:∀ k,k<(R6 p (E4 us mine)).length→0≤gI (R6 p (E4 us mine)) k∧gI (R6 p (E4 us mine)) k≤(gU us (gI mine k).toNat).net:=fun k hk=>by
  rcases hcz with e | ⟨_,_,_,e⟩
  ·rw [e] at hk ⊢
   have h1:=hle k hk
   rw [show gI (E4 us mine) k=(gU us (gI mine k).toNat).net from E1 (fun i:Int=>(gU us i.toNat).net) mine (by omega)] at h1
   exact ⟨ob3 _ (B4 hk),h1⟩
  ·rw [e k hk];exact ⟨Int.le_refl _,hu.at0 _⟩
 have hsum:A5 (R6 p (E4 us mine))≤1000000000000000:=by
  rcases hcz with e | ⟨_,e,_⟩<;>rw [e]<;>omega
 have hE:A1l us mine (R6 p (E4 us mine)) p.closes=T8 p us mine:=by
  rcases hcz with e | ⟨e1,e2,_⟩
  ·rw [e];exact B2B ob3
  ·unfold A1l T8
   rw [if_pos e2,e1];rfl
 rw [←hE]
 refine A8 [3] B9 mixed Tryz.func167 (by rfl) rfl rfl rfl ?_;conv=>whnf
 refine B0 (A5z p hps hp.right st) ?_;conv=>whnf
 refine B0 (B4x us mine hu hm st) ?_;conv=>whnf
 refine ⟨[],[],List.range 14,by kernel_rfl,?_⟩;conv=>whnf
 refine ⟨_,D3 (A4P us mine (by omega) hm.rng st),?_⟩;conv=>whnf
 refine ⟨_,D3 (C1j p (E4 us mine) hp (by omega) hn0 hns st),?_⟩;conv=>whnf
 refine ⟨_,D3 (B1D us mine (R6 p (E4 us mine)) p.closes hu hm.places (by omega) hlen hc hsum st),?_⟩;conv=>whnf
 exact ⟨rfl,rfl⟩
def B0f (p:A9) (us:List B5) (D:List Int) (m i:Nat):Int:=if ((i % m:Nat):Int)≥p.buy then H4 (gU us (gI D i).toNat).net p.rate else 0
def G6 (p:A9) (us:List B5) (D:List Int) (m n:Nat):List Int:=(List.range n).map (B0f p us D m)
theorem B4i {us:List B5} {i:Nat} (h:i<us.length):less1 us i 0=us:=by
 unfold less1
 refine List.ext_getElem (by simp) fun j h1 h2=>?_
 rw [List.getElem_set]
 split
 ·rename_i e;subst e
  have e:gU us i=us[i]:=by unfold gU;rw [List.getD_eq_getElem?_getD,List.getElem?_eq_getElem h];rfl
  rw [e,Int.sub_zero]
 ·rfl
theorem C0F (d:List QE) {k:Nat} (h:k<d.length):gI (d.map (·.2)) k=(at_ d k).2:=E1 (fun e:QE=>e.2) d h
theorem B3k {p:A9} {us:List B5} {d:List QE} {m:Nat} (hP:T4 us (d.map (·.2))) {n:Nat} (hn:n≤d.length) {s:Nat} (hs:s % m=0) (hsm:s+m≤n):∀ k,k≤m →
  Y4 p (D1 us (d.map (·.2)) (G6 p us (d.map (·.2)) m n) s) (d.drop s) k=(D1 us (d.map (·.2)) (G6 p us (d.map (·.2)) m n) (s+k),A5 ((G6 p us (d.map (·.2)) m n).take (s+k)) - A5 ((G6 p us (d.map (·.2)) m n).take s))
 | 0,_=>by unfold Y4;rw [Nat.add_zero,Int.sub_self]
 | k+1,hk=>by
  have ih:=B3k (p:=p) hP hn hs hsm k (by omega)
  have hln:(G6 p us (d.map (·.2)) m n).length=n:=by unfold G6;simp
  have hml:(d.map (·.2)).length=d.length:=List.length_map ..
  have hrg:=hP.rng (s+k) (by omega)
  have hat:=A2m (offs:=G6 p us (d.map (·.2)) m n) hP (show s+k<(d.map (·.2)).length by omega)
  have he:gI (G6 p us (d.map (·.2)) m n) (s+k)=if (k:Int)<p.buy then 0 else H4 (gU us (gI (d.map (·.2)) (s+k)).toNat).net p.rate:=by
   unfold G6
   rw [I7 _ (by omega)]
   unfold B0f
   rw [show (s+k) % m=k by rw [Nat.add_mod,hs,Nat.zero_add,Nat.mod_mod,Nat.mod_eq_of_lt (by omega)]]
   split<;>split<;>first | rfl | omega
  have hdr:at_ (d.drop s) k=at_ d (s+k):=by unfold at_;rw [List.getD_eq_getElem?_getD,List.getD_eq_getElem?_getD,List.getElem?_drop]
  have hts:=N4 (l:=G6 p us (d.map (·.2)) m n) (i:=s+k) (by omega)
  rw [←Nat.add_assoc]
  unfold Y4
  rw [ih,hts,he,hdr,←C0F d (by omega)]
  split
  ·rw [Int.add_zero]
   show _=(less1 _ _ _,_)
   rw [he,if_pos (by assumption),B4i (by rw [M8];exact hrg.2)]
  ·show _=(less1 _ _ _,_)
   rw [he,if_neg (by assumption),hat]
   congr 1
   show _ - _+_=_
   omega
theorem B5f {p:A9} {us:List B5} {d:List QE} {m:Nat} (hP:T4 us (d.map (·.2))) {q:Nat} (hn:q * m≤d.length):∀ r,r≤q →
  bgF p us d m r=(D1 us (d.map (·.2)) (G6 p us (d.map (·.2)) m (q * m)) (r * m),A5 ((G6 p us (d.map (·.2)) m (q * m)).take (r * m)))
 | 0,_=>by rw [Nat.zero_mul];rfl
 | r+1,hr=>by
  have ih:=B5f (p:=p) hP hn r (by omega)
  have e:(r+1) * m=r * m+m:=Nat.succ_mul r m
  have h1:r * m+m≤q * m:=by rw [←e];exact Nat.mul_le_mul_right m hr
  have h2:=B3k (p:=p) hP hn (s:=r * m) (Nat.mul_mod_left ..) h1 m (Nat.le_refl _)
  unfold bgF
  rw [ih]
  simp only
  rw [h2,e]
  congr 1
  show _+(_ - _)=_
  omega
theorem B2p {us:List B5} {mine:List Int} (hm:J8 us mine):T4 us ((D8 us mine).map (·.2)):=by
 have hp:((D8 us mine).map (·.2)).Perm mine:=by
  refine ((A1J us mine).map _).trans (List.Perm.of_eq ?_)
  rw [List.map_map]
  exact (List.map_congr_left fun x _=>rfl).trans (List.map_id mine)
 have hnd:mine.Pairwise (·≠·):=by
  rw [List.pairwise_iff_getElem]
  intro i j hi hj hij
  have:=hm.lt i j hij hj
  simp only [gI,List.getD_eq_getElem?_getD,List.getElem?_eq_getElem hi,List.getElem?_eq_getElem hj,Option.getD_some] at this
  omega
 have hr:∀ k,k<((D8 us mine).map (·.2)).length→0≤gI ((D8 us mine).map (·.2)) k∧(gI ((D8 us mine).map (·.2)) k).toNat<us.length:=fun k hk=>A6n (P:=fun x=>0≤x∧x.toNat<us.length) hp (fun x hx=>by obtain ⟨j,hj,rfl⟩:=F0 hx;exact hm.rng j hj) hk
 refine ⟨hr,fun i k hik hk=>?_⟩
 have h1:=(hp.symm.pairwise hnd (fun h=>h.symm))
 have:=B0v h1 hik hk
 have:=hr i (by omega)
 have:=hr k hk
 omega
theorem T4.take {us:List B5} {l:List Int} (h:T4 us l) (n:Nat):T4 us (l.take n):=by
 have e:∀ k,k<(l.take n).length→gI (l.take n) k=gI l k∧k<l.length:=fun k hk=>by
  rw [List.length_take] at hk
  unfold gI
  rw [List.getD_eq_getElem?_getD,List.getD_eq_getElem?_getD,List.getElem?_take_of_lt (by omega)]
  exact ⟨rfl,by omega⟩
 exact ⟨fun k hk=>by rw [(e k hk).1];exact h.rng k (e k hk).2,fun i k hik hk=>by rw [(e k hk).1,(e i (by omega)).1];exact h.ne i k hik (e k hk).2⟩
theorem A6B {us:List B5} {l offs:List Int} {n:Nat}:∀ k,k≤n→D1 us (l.take n) offs k=D1 us l offs k
 | 0,_=>rfl
 | k+1,hk=>by
  unfold D1
  rw [A6B k (by omega)]
  congr 1
  unfold gI;rw [List.getD_eq_getElem?_getD,List.getD_eq_getElem?_getD,List.getElem?_take_of_lt (by omega)]
set_option maxHeartbeats 400000 in
theorem B6P (p:A9) (us:List B5) (mine:List Int) (hps:A0k p) (hright:F6 p=true) (hk:p.kind=3) (hp:A7Z p) (hu:E2 us) (hm:J8 us mine) (st:St) :
  S P 166 [B7 p,C6 us,B6 mine] st fun v st'=>v=.tuple [C6 (R0 p us mine).1,eI (R0 p us mine).2]∧st'=st:=by
 have hB:=hp.buy
 have hG:=hp.get
 have hml:=hm.len
 have hul:=hu.len
 have hdl:((D8 us mine).map (·.2)).length=mine.length:=by rw [List.length_map,A0H]
 have hP:=B2p hm
 obtain ⟨m,hm1⟩:∃ m:Nat,(m:Int)=p.buy+p.get:=⟨(p.buy+p.get).toNat,by omega⟩
 have w1:IntKind.i64.wrap (p.buy+p.get)=(m:Int):=by rw [A7 (by omega) (by omega)];omega
 have hq0:mine.length / m * m≤mine.length:=Nat.div_mul_le_self ..
 have hbg:=B5f (p:=p) (m:=m) hP (q:=mine.length / m) (by rw [A0H];exact hq0) _ (Nat.le_refl _)
 have hout:R0 p us mine=(if (decide (A5 (G6 p us ((D8 us mine).map (·.2)) m (mine.length / m * m))>0)&&p.closes)=true then closeB (D1 us ((D8 us mine).map (·.2)) (G6 p us ((D8 us mine).map (·.2)) m (mine.length / m * m)) (mine.length / m * m)) (((D8 us mine).map (·.2)).take (mine.length / m * m)) else D1 us ((D8 us mine).map (·.2)) (G6 p us ((D8 us mine).map (·.2)) m (mine.length / m * m)) (mine.length / m * m),A5 (G6 p us ((D8 us mine).map (·.2)) m (mine.length / m * m))):=by
  have hl:(G6 p us ((D8 us mine).map (·.2)) m (mine.length / m * m)).length=mine.length / m * m:=by unfold G6;simp
  unfold R0
  simp only
  rw [show (p.buy+p.get).toNat=m by omega,A0H,hbg]
  simp only
  rw [show (G6 p us ((D8 us mine).map (·.2)) m (mine.length / m * m)).take (mine.length / m * m)=G6 p us ((D8 us mine).map (·.2)) m (mine.length / m * m) from List.take_of_length_le (by omega),List.map_take]
 refine A8 [3] B9 mixed Tryz.func166 (by rfl) rfl rfl rfl ?_;conv=>whnf
 refine B0 (A5z p hps hright st) ?_;conv=>whnf
 rw [show (p.kind != 3)=false from by rw [hk];rfl];conv=>whnf
 refine B0 (B4x us mine hu hm st) ?_;conv=>whnf
 refine B0 (B5D us mine hu hm st) ?_
 clear hbg
 generalize (D8 us mine).map (·.2)=D at *
 conv=>whnf
 rw [w1,decide_eq_false (show ¬(m:Int)=0 by omega)];conv=>whnf
 have hN:IntKind.i64.wrap ((D.length:Int) - (D.length:Int).tmod (m:Int))=((mine.length / m * m:Nat):Int):=by
  rw [hdl,Int.tmod_eq_emod_of_nonneg (by omega),←Int.natCast_emod]
  have:=Nat.div_add_mod mine.length m
  rw [Nat.mul_comm] at this
  rw [A7 (by omega) (by omega)];omega
 rw [hN]
 generalize hNe:mine.length / m * m=N at *
 refine ⟨rfl,⟨by omega,by omega,by omega⟩,?_⟩;conv=>whnf
 refine lp N [1,3,8,9,10,11] (fun i vs s=>∃ sv,vs=[C6 us,.fptr (B7 p) 0,.arr 1 N (fun i=>eI (D.getD ((0:Int).toNat+i) default)),eI m,sv,eI i]∧F8 2 1 eI (G6 p us D m i) st sv s) ?_ ?_
 ·conv=>whnf
  exact ⟨.emp,rfl,F8.start _ _ _ _⟩
 ·rintro i vs s hi ⟨sv,rfl,hc⟩
  conv=>whnf
  cases hd:decide ((i:Int)<(N:Int))
  ·obtain rfl:=E0 hd hi
   have hln:(G6 p us D m i).length=i:=by unfold G6;simp
   have hb0:∀ k,k<(G6 p us D m i).length→0≤gI (G6 p us D m i) k∧gI (G6 p us D m i) k≤(gU us (gI (D.take i) k).toNat).net:=fun k hk=>by
    have e:gI (D.take i) k=gI D k:=by unfold gI;rw [List.getD_eq_getElem?_getD,List.getD_eq_getElem?_getD,List.getElem?_take_of_lt (by omega)]
    rw [e]
    unfold G6
    rw [I7 _ (by omega)]
    unfold B0f
    have h9:=hu.at0 (gI D k).toNat
    split
    ·exact ⟨(P4 _ _).1,A3s h9 hp.rate.1 hp.rate.2⟩
    ·exact ⟨Int.le_refl _,h9⟩
   have h0s:∀ x∈G6 p us D m i,0≤x:=fun x hx=>by obtain ⟨k,hk,rfl⟩:=F0 hx;exact (hb0 k hk).1
   have hsum:A5 (G6 p us D m i)≤1000000000000000:=by
    have h5:=A1a hu (hP.take i) (offs:=G6 p us D m i) (by rw [hln,List.length_take];omega) hb0 (G6 p us D m i).length (Nat.le_refl _)
    rw [List.take_length] at h5
    have:=h5.sum
    have:=hu.sum
    have:=C9 (h5.ok hu).nets0
    omega
   have hE:A1l us (D.take i) (G6 p us D m i) p.closes=R0 p us mine:=by
    rw [hout]
    unfold A1l
    rw [hln,A6B i (Nat.le_refl _)]
    have hn:=C9 h0s
    by_cases hz:A5 (G6 p us D m i)=0
    ·rw [if_pos hz,hz,A1x (A2n h0s hz) i (by omega)];rfl
    ·rw [if_neg hz,decide_eq_true (show A5 (G6 p us D m i)>0 by omega),Bool.true_and]
   rw [←hE];conv=>whnf
   have hsh:B3 [C6 us,.arr 1 i (fun i=>eI (D.getD ((0:Int).toNat+i) default)),sv,eB p.closes] s [C6 us,B6 (D.take i),B6 (G6 p us D m i),eB p.closes] st:=by
    refine B3.cons (t:=s) (B3.keep _ _) (B3.cons (t:=s) ?_ (B3.cons hc.shift (B3.keep _ _)))
    have e:B6 (D.take i)=.arr 1 i (fun k=>eI (gI (D.take i) k)):=by unfold B6 B2;rw [List.length_take,Nat.min_eq_left (by omega)]
    rw [e]
    refine B3.arr fun k hk=>?_
    show eI (D.getD ((0:Int).toNat+k) default)=eI ((D.take i).getD k default)
    rw [show (0:Int).toNat+k=k by simp,List.getD_eq_getElem?_getD,List.getD_eq_getElem?_getD,List.getElem?_take_of_lt hk]
   refine H8 hsh (B0 (B1D us (D.take i) (G6 p us D m i) p.closes hu (hP.take i) (by rw [List.length_take];omega) (by rw [hln,List.length_take];omega) hb0 hsum st) ?_);conv=>whnf
   exact ⟨rfl,rfl⟩
  ·have hi':=G7 hd
   have hr:=hP.rng i (by omega)
   have hrem:(i:Int).tmod (m:Int)=((i % m:Nat):Int):=by rw [Int.tmod_eq_emod_of_nonneg (by omega),Int.natCast_emod]
   have hln:(G6 p us D m i).length=i:=by unfold G6;simp
   have hsn:G6 p us D m (i+1)=G6 p us D m i++[B0f p us D m i]:=by unfold G6;rw [List.range_succ,List.map_append];rfl
   have hbo:B0f p us D m i=if ((i % m:Nat):Int)≥p.buy then H4 (gU us (gI D i).toNat).net p.rate else 0:=rfl
   conv=>whnf
   refine ⟨[],[],List.range 6,by kernel_rfl,?_⟩;conv=>whnf
   rw [decide_eq_false (show ¬(m:Int)=0 by omega)];conv=>whnf
   rw [hrem]
   refine C0 (fun h1=>?_) (fun h1=>?_)<;>rw [h1]
   case' refine_1 =>
    rw [if_pos (of_decide_eq_true h1)] at hbo;conv=>whnf
    refine ⟨[],[],List.range 12,by kernel_rfl,?_⟩;conv=>whnf
    refine ⟨rfl,⟨by omega,by omega⟩,?_⟩;conv=>whnf
    rw [show (0:Int).toNat+(i:Int).toNat=i by simp]
    refine ⟨rfl,⟨by show 0≤gI D i;omega,by show gI D i<(us.length:Int);omega⟩,?_⟩;conv=>whnf
    refine ⟨_,D3 (A6t (gU us (gI D i).toNat).net p.rate _),?_⟩
    rw [←hbo]
   case' refine_2 =>
    rw [if_neg (of_decide_eq_false h1)] at hbo
   all_goals (conv=>whnf)
   all_goals refine F8.app (q:=r2) (y:=B0f p us D m i) rfl rfl rfl rfl rfl (by first | rfl | (rw [hbo];rfl)) (by show (_+1) * 8≤140737488355328;omega) hc (fun sv' s' hc'=>?_)
   all_goals (conv=>whnf)
   all_goals refine ⟨rfl,?_⟩
   all_goals (conv=>whnf)
   all_goals exact nx hi' ⟨sv',by rw [C2 (by omega)],by rw [hsn];exact hc'⟩
theorem B7l (used:List Bool) (l:List QE):∃ pre,l=pre++(K3 used l).2∧∀ e∈pre,used.getD e.2.toNat default=true∨(K3 used l).1=some e.2:=by
 induction l with
 | nil=>exact ⟨[],rfl,fun e h=>by cases h⟩
 | cons e l ih =>
  by_cases hu:used.getD e.2.toNat default=true
  ·have ht:K3 used (e::l)=K3 used l:=by
    show (if used.getD e.2.toNat default=true then K3 used l else (some e.2,l))=_
    rw [if_pos hu]
   obtain ⟨pre,h1,h2⟩:=ih
   rw [ht]
   exact ⟨e::pre,by rw [List.cons_append,←h1],fun x hx=>by
    rcases List.mem_cons.1 hx with rfl | hx
    ·exact .inl hu
    ·exact h2 x hx⟩
  ·have ht:K3 used (e::l)=(some e.2,l):=by
    show (if used.getD e.2.toNat default=true then K3 used l else (some e.2,l))=_
    rw [if_neg hu]
   rw [ht]
   exact ⟨[e],rfl,fun x hx=>by rw [List.mem_singleton] at hx;subst hx;exact .inr rfl⟩
theorem B4R {used:List Bool} {pre:List QE} (h:∀ e∈pre,used.getD e.2.toNat default=true) (l:List QE):K3 used (pre++l)=K3 used l:=by
 induction pre with
 | nil=>rfl
 | cons e pre ih =>
  show (if used.getD e.2.toNat default=true then K3 used (pre++l) else (some e.2,pre++l))=_
  rw [if_pos (h e (List.mem_cons_self ..))]
  exact ih fun x hx=>h x (List.mem_cons_of_mem _ hx)
def A2B (E:Nat→List QE) (n:Nat) (s:MSt):Prop:=∀ k,k<n→∃ pre,E k=pre++s.es k∧∀ e∈pre,s.used.getD e.2.toNat default=true
theorem A4o {used:List Bool} {i:Nat} (hi:i<used.length) (j:Nat):(used.set i true).getD j default=if j=i then true else used.getD j default:=by
 simp only [List.getD_eq_getElem?_getD,List.getElem?_set]
 by_cases h:j=i
 ·subst h;simp [hi]
 ·rw [if_neg (fun e=>h e.symm),if_neg h]
theorem A2B.take {E:Nat→List QE} {us:List B5} {n:Nat} {s s':MSt} (h:A2B E n s) (hok:MOk us n s) {k:Nat} (hk:k<n) (ht:Y5 k s=some s'):A2B E n s':=by
 obtain ⟨pre0,p1,p2⟩:=B7l s.used (s.es k)
 obtain ⟨_,t2,_,_⟩:=A1V s.used (s.es k)
 unfold Y5 at ht
 split at ht
 ·cases ht
 ·rename_i i hi
  cases ht
  obtain ⟨e0,he0,rfl,_⟩:=t2 i hi
  have hlt:e0.2.toNat<s.used.length:=by rw [hok.len];exact (hok.rng k hk e0 he0).2
  intro j hj
  obtain ⟨pre,h1,h2⟩:=h j hj
  have hmono:∀ e:QE,s.used.getD e.2.toNat default=true→(s.used.set e0.2.toNat true).getD e.2.toNat default=true:=fun e he=>by
   rw [A4o hlt];split
   ·rfl
   ·exact he
  by_cases ej:j=k
  ·subst ej
   refine ⟨pre++pre0,?_,fun e he=>?_⟩
   ·show E j=_++U6 s.es j _ j
    rw [F5,List.append_assoc,←p1];exact h1
   ·rcases List.mem_append.1 he with he | he
    ·exact hmono e (h2 e he)
    ·rcases p2 e he with he | he
     ·exact hmono e he
     ·rw [hi] at he
      have he:=Option.some.inj he
      show (s.used.set _ true).getD _ default=true
      rw [A4o hlt,if_pos (by rw [he])]
  ·refine ⟨pre,?_,fun e he=>hmono e (h2 e he)⟩
   show E j=_++U6 s.es k _ j
   rw [J2 ej];exact h1
theorem A2B.takes {E:Nat→List QE} {us:List B5} {n:Nat} {s:MSt} (h:A2B E n s) (hok:MOk us n s) {k:Nat} (hk:k<n):∀ {c:Nat} {s':MSt},P0 k c s=some s'→A2B E n s'
 | 0,s',e=>by cases e;exact h
 | c+1,s',e=>by
  unfold P0 at e
  obtain ⟨s1,h1,h2⟩:=Option.bind_eq_some_iff.1 e
  exact (A2B.takes h hok hk h1).take (hok.takes hk h1) hk h2
theorem A2B.parts {E:Nat→List QE} {us:List B5} {p:A9} {s:MSt} (h:A2B E p.parts.length s) (hok:MOk us p.parts.length s):∀ {k:Nat} {s':MSt},k≤p.parts.length→I3 p.parts k s=some s'→A2B E p.parts.length s'
 | 0,s',_,e=>by cases e;exact h
 | k+1,s',hk,e=>by
  unfold I3 at e
  obtain ⟨s1,h1,h2⟩:=Option.bind_eq_some_iff.1 e
  exact (A2B.parts h hok (by omega) h1).takes (MOk.parts hok (by omega) h1) (by omega) h2
def A6Y (p:A9) (ms:MSt):List Int:=match I3 p.parts p.parts.length ms with | none=>[] | some s=>C4 s.l
theorem C2U (p:A9) (hp:A2z p) (us:List B5) (hul:us.length≤100000) (E:Nat→List QE) (L:List (List Int)) (hL:L.length=p.parts.length) (hLE:∀ k,k<p.parts.length→L.getD k default=(E k).map (·.2)) (hE:∀ k,k<p.parts.length→(E k).length≤100000∧∀ e∈E k,0≤e.2∧e.2.toNat<us.length)
  (ms:MSt) (hl0:ms.l=[]) (hm:MOk us p.parts.length ms) (hpre:A2B E p.parts.length ms) (bu:Nat) (gu:Nat→AV) (st:St) (bl:Nat) (gl:Nat→AV) (hbl:st bl=some ⟨29,1,L.length,gl⟩) (hgl:∀ k,k<L.length→gl k=B6 (L.getD k default)) (hbu:st bu=some ⟨4,1,us.length,gu⟩) (hgu:∀ k,k<us.length→gu k=eB (ms.used.getD k default)) :
  S P 252 [B7 p,C6 us,.own 1 bl 0 L.length,.own 1 bu 0 us.length] st fun v st'=>v=B6 (A6Y p ms)∧st'=st:=by
 refine S.post (post:=fun v st'=>((v=.emp∧A6Y p ms=[])∨v=B6 (A6Y p ms))∧G3 st st') ?_
  (fun v st' ⟨h,hs⟩=>⟨_,st,⟨rfl,rfl⟩,by
   rcases h with ⟨rfl,h⟩ | rfl
   ·rw [h];exact (hs.shift _).trans (I8 1 _)
   ·exact hs.shift _⟩)
 have hn8:=hp.n8
 refine A8 [4] B9 mixed Tryz.func252 (by rfl) rfl rfl rfl ?_
 have main:∀ (tv:AV) (s0:St) ,N1 4 1 (fun k=>eB (ms.used.getD k default)) st us.length tv s0→True:=fun _ _ _=>trivial
 conv=>whnf
 refine N1.apps (q:=r4) (f:=fun k=>eB (ms.used.getD k default)) rfl rfl rfl rfl (C3f hbu rfl (by show 0+us.length≤us.length;omega)) (fun i hi=>by show gu (0+i)=eB (ms.used.getD (0+i) default);rw [Nat.zero_add];exact hgu i hi) (by show (0+us.length) * 1≤_;omega) (N1.start _ _ _ st) (fun tv s0 hc0=>?_)
 rw [Nat.zero_add] at hc0
 clear main
 conv=>whnf
 refine lp p.parts.length [2,4,9,10,11] (fun i vs s=>∃ sv tv s0 si,vs=[.own 1 bl 0 L.length,.fptr (B7 p) 0,sv,tv,eI i]∧I3 p.parts i ms=some si∧N1 4 1 (fun k=>eB (si.used.getD k default)) st us.length tv s0∧F8 3 1 eI si.l s0 sv s) ?_ ?_
 ·conv=>whnf
  exact ⟨.emp,tv,s0,ms,rfl,rfl,hc0,by rw [hl0];exact F8.start _ _ _ _⟩
 ·clear hc0
  rintro i vs s hi ⟨sv,tv,s0,si,rfl,hsi,hc0,hc1⟩
  have hmi:=MOk.parts hm hi hsi
  have hpi:=hpre.parts hm hi hsi
  have hleni:=A0K hp hi hsi
  rw [hl0,List.length_nil] at hleni;conv=>whnf
  cases hd:decide ((i:Int)<(p.parts.length:Int))
  ·obtain rfl:=E0 hd hi
   have hone:A6Y p ms=C4 si.l:=by unfold A6Y;rw [hsi]
   conv=>whnf
   refine H8 hc1.shift (B0 (B6W si.l (by omega) _) ?_);conv=>whnf
   exact ⟨.inr (by rw [hone];rfl),hc0.sup⟩
  ·have hi':=G7 hd
   have hLi:L.getD (i:Int).toNat default=(E i).map (·.2):=by rw [Int.toNat_natCast];exact hLE i hi'
   obtain ⟨hEl,hEr⟩:=hE i hi'
   have hct:=hp.at hi'
   obtain ⟨pre,hpr1,hpr2⟩:=hpi i hi'
   have hcn:(p.parts.getD (i:Int).toNat default).count=(((p.parts.getD i default).count.toNat:Nat):Int):=by rw [Int.toNat_natCast];omega
   have hfin:I3 p.parts (i+1) ms=P0 i (p.parts.getD i default).count.toNat si:=by
    conv=>lhs;unfold I3
    rw [hsi];rfl
   have hnone:∀ n,n≤(p.parts.getD i default).count.toNat→P0 i n si=none→A6Y p ms=[]:=fun n hn hnn=>by
    have h1:=A4t hnn hn
    rw [←hfin] at h1
    unfold A6Y;rw [A4f h1 hi']
   have hC100:(p.parts.getD i default).count.toNat≤100:=by omega
   generalize (p.parts.getD i default).count.toNat=C at *
   conv=>whnf
   refine lp (E i).length [2,4,9,10,11,12,13] (fun k vs s=>∃ (sv tv:AV) (s0:St) (n:Nat) (si2:MSt),vs=[.own 1 bl 0 L.length,.fptr (B7 p) 0,sv,tv,eI i,eI n,eI k]∧n≤C∧P0 i n si=some si2∧K3 si2.used (si2.es i)=K3 si2.used ((E i).drop k)∧N1 4 1 (fun k=>eB (si2.used.getD k default)) st us.length tv s0∧F8 3 1 eI si2.l s0 sv s) ?_ ?_
   ·conv=>whnf
    exact ⟨sv,tv,s0,0,si,rfl,Nat.zero_le _,rfl,by rw [List.drop_zero,hpr1,B4R hpr2],hc0,hc1⟩
   ·clear hc0 hc1
    rintro k vs s hk ⟨sv,tv,s0,n,si2,rfl,hn,hs2,htk,hc0,hc1⟩
    have hm2:=hmi.takes hi' hs2
    have hlen2:=A0P hs2
    have hlv:=hc1.sup bl _ (hc0.sup bl _ hbl)
    have hgi:gl (0+(i:Int).toNat)=B6 (L.getD (i:Int).toNat default):=by rw [Nat.zero_add];exact hgl _ (by omega)
    conv=>whnf
    refine ⟨rfl,⟨by omega,by omega⟩,?_⟩;conv=>whnf
    refine F7 hlv rfl (by omega) hgi ?_;conv=>whnf
    rw [hLi]
    have hml:((E i).map (·.2)).length=(E i).length:=List.length_map ..
    generalize hMe:(E i).map (·.2)=Mi at *
    rw [hml]
    cases hd1:decide ((k:Int)<((E i).length:Int))
    case' false =>
     have hbad:n<C→A6Y p ms=[]:=fun hlt=>by
      obtain rfl:=E0 hd1 hk
      refine hnone (n+1) hlt ?_
      unfold P0
      rw [hs2]
      show Y5 i si2=none
      unfold Y5
      rw [htk,List.drop_length];rfl
     conv=>whnf
    case' true =>
     have hk':=G7 hd1
     conv=>whnf
     refine ⟨rfl,⟨by omega,by omega⟩,?_⟩;conv=>whnf
     rw [hcn]
     cases hd2:decide ((n:Int)<(C:Int))
     case' false =>
      have hbad:n<C→A6Y p ms=[]:=fun hlt=>absurd hd2 (by rw [decide_eq_true (by omega)];simp)
      conv=>whnf
     case' true =>
      have hnC:=G7 hd2
      have hMk:Mi.getD (k:Int).toNat default=(at_ (E i) k).2:=by rw [←hMe,Int.toNat_natCast];exact E1 (fun e:QE=>e.2) _ hk'
      have hu:0≤(at_ (E i) k).2∧(at_ (E i) k).2.toNat<us.length:=hEr _ (B4 hk')
      have hdrop:(E i).drop k=at_ (E i) k::(E i).drop (k+1):=by
       rw [List.drop_eq_getElem_cons hk'];simp [at_,hk']
      have hul2:us.length=si2.used.length:=hm2.len.symm
      rcases hc0 with ⟨h0,rfl,rfl⟩ | ⟨h0,bt,g,hbt,rfl,rfl,hg⟩
      ·omega
      have hbs:=hc1.sup bt _ (A0 ..)
      conv=>whnf
      refine ⟨rfl,⟨by omega,by omega⟩,?_⟩;conv=>whnf
      refine F7 hlv rfl (by omega) hgi ?_;conv=>whnf
      rw [hLi]
      refine ⟨rfl,⟨by omega,by omega⟩,?_⟩;conv=>whnf
      rw [←hMk] at hu
      refine ⟨rfl,⟨by omega,by omega⟩,?_⟩;conv=>whnf
      refine F7 hbs rfl (by omega) (v:=eB (si2.used.getD (Mi.getD (k:Int).toNat default).toNat default)) (by rw [Nat.zero_add];exact hg _ hu.2) ?_;conv=>whnf
      refine C0 (fun h5=>?_) (fun h5=>?_)<;>rw [h5]
      ·have hfr:si2.used.getD (Mi.getD (k:Int).toNat default).toNat default=false:=by simpa using h5
       have htk2:K3 si2.used (si2.es i)=(some (Mi.getD (k:Int).toNat default),(E i).drop (k+1)):=by
        rw [htk,hdrop,hMk]
        show (if si2.used.getD (at_ (E i) k).2.toNat default=true then _ else _)=_
        rw [if_neg (by rw [←hMk,hfr];simp)]
       have hs3:P0 i (n+1) si=some ⟨si2.used.set (Mi.getD (k:Int).toNat default).toNat true,U6 si2.es i ((E i).drop (k+1)),si2.l++[(Mi.getD (k:Int).toNat default)]⟩:=by
        unfold P0
        rw [hs2]
        show Y5 i si2=_
        unfold Y5
        rw [htk2]
       conv=>whnf
       refine ⟨rfl,⟨by omega,by omega⟩,?_⟩;conv=>whnf
       refine K8 hbs rfl (by omega) (v:=eB (si2.used.getD (Mi.getD (k:Int).toNat default).toNat default)) (by rw [Nat.zero_add];exact hg _ hu.2) (by rfl) ?_
       have hc2:=N1.write hc1 (y':=⟨4,1,us.length,H2 g (0+(Mi.getD (k:Int).toNat default).toNat) (eB true)⟩) (A0 ..)
       rw [C5] at hc2;conv=>whnf
       refine F8.app (q:=r3) (y:=(Mi.getD (k:Int).toNat default)) (L:=si2.l) rfl rfl rfl rfl rfl rfl (by show (_+1) * 8≤140737488355328;omega) hc2 (fun sv' s' hc'=>?_);conv=>whnf
       refine ⟨rfl,?_⟩;conv=>whnf
       refine nx hk' ⟨sv',.own 1 bt 0 us.length,_,n+1,_,by rw [C2 (by omega),C2 (by omega)],hnC,hs3,?_,.inr ⟨h0,bt,_,hbt,rfl,rfl,fun j hj=>?_⟩,hc'⟩
       ·show K3 _ (U6 si2.es i _ i)=_
        rw [F5]
       ·show H2 g (0+(Mi.getD (k:Int).toNat default).toNat) (eB true) j=eB ((si2.used.set (Mi.getD (k:Int).toNat default).toNat true).getD j default)
        rw [Nat.zero_add,A4o (by omega)]
        by_cases ej:j=(Mi.getD (k:Int).toNat default).toNat
        ·rw [if_pos ej,ej,A6]
        ·rw [if_neg ej,G2 ej];exact hg j hj
      ·have hfr:si2.used.getD (Mi.getD (k:Int).toNat default).toNat default=true:=by simpa using h5
       conv=>whnf
       refine ⟨rfl,?_⟩;conv=>whnf
       refine nx hk' ⟨sv,.own 1 bt 0 us.length,_,n,si2,by rw [C2 (by omega)],hn,hs2,?_,.inr ⟨h0,bt,g,hbt,rfl,rfl,hg⟩,hc1⟩
       rw [htk,hdrop]
       show (if si2.used.getD (at_ (E i) k).2.toNat default=true then K3 si2.used ((E i).drop (k+1)) else _)=_
       rw [if_pos (by rw [←hMk];exact hfr)]
    all_goals
     refine ⟨rfl,⟨by omega,by omega⟩,?_⟩;conv=>whnf
     rw [hcn]
     cases hd3:decide ((n:Int)<(C:Int))
     ·obtain rfl:n=C:=by have:=of_decide_eq_false hd3;omega
      conv=>whnf
      refine ⟨rfl,?_⟩;conv=>whnf
      exact nx hi' ⟨sv,tv,s0,si2,by rw [C2 (by omega)],by rw [hfin];exact hs2,hc0,hc1⟩
     ·have hb:=hbad (G7 hd3)
      conv=>whnf
      exact ⟨.inl ⟨rfl,hb⟩,hc0.sup.trans hc1.sup⟩
end Go.Proofs.YtbajhapmlfbelaaGreat
