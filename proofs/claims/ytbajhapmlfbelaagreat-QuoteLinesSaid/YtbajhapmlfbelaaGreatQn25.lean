/- Part 25 of the proof: contracts of the functions that the law reaches -/
import Derived.Test.YtbajhapmlfbelaaGreatQn24
import Derived.Shelf.SlicesE.Compact
set_option maxRecDepth 100000
set_option linter.unusedVariables false
set_option linter.unusedSimpArgs false
namespace Go.Proofs.YtbajhapmlfbelaaGreat
open Go Go.Ab
attribute [local irreducible] upd del
theorem A9j {s:St} {a b:Nat} {y:M6} (h:a≠b) (hs:s a=none):upd s b y a=none:=by rw [A3 h];exact hs
theorem B7G {n B:Nat} {es:Nat→List QE} (h:∀ i,i<n→(es i).length≤B):tot n es≤n * B:=by
 induction n with
 | zero=>exact Nat.zero_le _
 | succ n ih =>
  unfold tot
  have h1:=ih fun i hi=>h i (by omega)
  have h2:=h n (by omega)
  have h3:(n+1) * B=n * B+B:=Nat.succ_mul n B
  omega
structure Lay (p:A8) (us:List A6) (E:Nat→List QE) (base:St) (bm bu:Nat) (i:Nat) (q:Nat→Nat) (rv:AV) (t:St):Prop where
 nbm:base bm=none
 nbu:base bu=none
 ne:bu≠bm
 has:∃ f g,f 0=.agg (R1 p++[B9 us,.own 1 bu 0 us.length,rv])∧(∀ k,k<us.length→g k=eB false) ∧
  ROut (Qs i q E) 216 1 (fun k=>.optr 1 (q k) 0 0) i (upd (upd base bm ⟨349,18,1,f⟩) bu ⟨4,1,us.length,g⟩) rv t
theorem Lay.mk' {p:A8} {us:List A6} {E:Nat→List QE} {base:St} {bm bu i:Nat} {q:Nat→Nat} {rv:AV} {t:St} (h:Lay p us E base bm bu i q rv t) (hi:0<i) :
  ∃ br,rv=.own 1 br 0 i∧MkR ⟨p,us,bm,bu,br,i,q⟩ (List.replicate us.length false) E base t:=by
 obtain ⟨h1,h2,h3,f,g,hf,hg,s0,hc,hq⟩:=h
 rcases hc with ⟨e,_,_⟩ | ⟨_,br,y,hb,rfl,rfl,hy⟩
 ·omega
 refine ⟨br,rfl,h1,_,⟨f,rfl,by rw [List.length_replicate];exact hf⟩,A9j h3 h2,_,⟨g,by rw [List.length_replicate],fun k hk=>?_⟩,hb,_,⟨y,rfl,hy⟩,hq⟩
 rw [List.length_replicate] at hk
 rw [hg k hk];simp [hk]
theorem B3o (uv:AV) (st:St):S P 290 [uv,B2 []] st fun v st'=>v=.tuple []∧st'=st:=by
 refine E3 [] Tryz.func290 ?_
 refine A6g [0,6,7,8] ?_;conv=>whnf
 intro I;conv=>whnf
 exact ⟨rfl,rfl⟩
theorem B3i (p:A8) (us:List A6) (parts:List (List Int)) (hfit:I9 p) (hright:I2 p=true) (hk:p.kind=4) (hp:A1W p) (hu:C0 us) (hl:parts.length=p.parts.length) (hm:∀ x∈parts,I7 us x) (st:St) :
  S P 244 [B6 p,B9 us,A5 1 B2 parts] st fun v st'=>v=.tuple [B9 (N2 p us parts).1,eI (N2 p us parts).2]∧st'=st:=by
 refine S.post (post:=fun v st'=>∃ sv,v=.tuple [sv,eI (N2 p us parts).2]∧A0X st (N2 p us parts).1 sv st') ?_
  (fun v st' ⟨sv,hv,hr⟩=>⟨_,st,⟨rfl,rfl⟩,by rw [hv];exact A4.tuple (A4.cons hr.shift (A4.keep _ _)) rfl⟩)
 have hul:=hu.len
 have hn1:=hp.n1
 have hn8:=hp.n8
 have hme:∀ k,k<parts.length→I7 us (parts.getD k default):=fun k hk=>hm _ (A7 hk)
 have hst0:=A3U hu hl (fun k hk=>hme k hk)
 generalize hE:(fun k=>D4 us (parts.getD k default))=E at *
 have hEk:∀ k,E k=D4 us (parts.getD k default):=fun k=>by rw [←hE]
 have hbs:D5 us parts=⟨us,⟨List.replicate us.length false,E,[]⟩,[],0⟩:=by rw [←hE];rfl
 have hD:tot p.parts.length (D5 us parts).ms.es≤800000:=by
  have:=B7G (n:=p.parts.length) (B:=100000) (es:=(D5 us parts).ms.es) (fun i hi=>by
   rw [hbs]
   show (E i).length≤100000
   rw [hEk,A6B]
   exact Nat.le_trans (hme i (by omega)).len hul)
  have h2:p.parts.length * 100000≤8 * 100000:=Nat.mul_le_mul_right _ hn8
  omega
 have hB:N2 p us parts=(if p.closes=true then closeB (A1U p us (tot p.parts.length (D5 us parts).ms.es+1) (D5 us parts)).out (A1U p us (tot p.parts.length (D5 us parts).ms.es+1) (D5 us parts)).taken else (A1U p us (tot p.parts.length (D5 us parts).ms.es+1) (D5 us parts)).out,(A1U p us (tot p.parts.length (D5 us parts).ms.es+1) (D5 us parts)).all):=rfl
 refine E3 [3] Tryz.func244 ?_
 refine call (A4W us hul st) (fun sv base hcol=>?_)
 have hres:=A0X.ofCol hcol
 conv=>whnf
 refine H9 (B6Q p us parts hfit hright hk hu hl (by omega) hm _) ?_
 refine ⟨[4,6],[0],[0,1,2,3,4,5,6,7],by kernel_rfl,?_⟩;conv=>whnf
 refine ⟨_,fun s _=>⟨rfl,rfl⟩,?_⟩;conv=>whnf
 refine mkO rfl rfl rfl (by show 1 * us.length≤_;omega) (by omega) (by rfl) (fun bu hbu=>?_);conv=>whnf
 intro bm hbm
 have hne:bu≠bm:=fun e=>by subst e;rw [A0] at hbm;cases hbm
 rw [A3 hne.symm] at hbm;conv=>whnf
 have hlay0:Lay p us E base bm bu 0 (fun _=>0) .emp (upd (upd base bu ⟨4,r4.size,us.length,fun _=>F9 r4.zero⟩) bm ⟨349,18,1,fun _=>.agg (R1 p++[B9 us,.own 1 bu 0 us.length,.emp])⟩) :=
  ⟨hbm,hbu,hne,fun _=>.agg (R1 p++[B9 us,.own 1 bu 0 us.length,.emp]),fun _=>eB false,rfl,fun _ _=>rfl,by
   rw [L0 hne.symm]
   exact ROut.start (Qs.nil (E2.refl _)) _ _ _⟩
 refine ⟨[1,3,8,9,32,33,34],fun m vs t=>∃ (i:Nat) (q:Nat→Nat) (rv:AV),i≤parts.length∧m=parts.length - i∧vs=[B9 us,.fptr (B6 p) 0,sv,.optr 18 bm 0 0,A5 1 B2 parts,eI parts.length,eI i]∧Lay p us E base bm bu i q rv t,?_,?_⟩
 ·conv=>whnf
  exact ⟨_,0,_,.emp,Nat.zero_le _,rfl,rfl,hlay0⟩
 ·clear hlay0
  rintro m vs t ⟨i,q,rv,hi,rfl,rfl,hlay⟩
  conv=>whnf
  cases h:decide ((i:Int)<(parts.length:Int))
  ·have:=of_decide_eq_false h
   have hin:i=p.parts.length:=by omega
   subst hin
   obtain ⟨br,rfl,hMk⟩:=hlay.mk' (by omega)
   clear hlay
   conv=>whnf
   refine ⟨[3,8,9,12,13],fun m vs t=>∃ (b:BSt) (svT:AV) (ba:St),BOk p us (tot p.parts.length (D5 us parts).ms.es) b∧tot p.parts.length b.ms.es<m∧A1U p us m b=A1U p us (tot p.parts.length (D5 us parts).ms.es+1) (D5 us parts)∧vs=[.fptr (B6 p) 0,sv,.optr 18 bm 0 0,svT,eI b.all]∧A0X st b.out sv ba∧ROut (MkR ⟨p,us,bm,bu,br,p.parts.length,q⟩ b.ms.used b.ms.es) 3 1 (fun k=>eI (gI b.taken k)) b.taken.length ba svT t,?_,?_⟩
   ·conv=>whnf
    refine ⟨_,D5 us parts,.emp,base,hst0,Nat.lt_succ_self _,rfl,rfl,hres,?_⟩
    rw [hbs]
    exact ROut.start hMk _ _ _
   ·clear hMk hres
    rintro m vs t' ⟨b,svT,ba,hb,hlt,hF,rfl,hres,hout⟩
    obtain ⟨s0,hcol0,hMk⟩:=hout
    obtain ⟨m,rfl⟩:∃ n,m=n+1:=⟨m - 1,by omega⟩
    have hbl:=hb.len
    -- the end: what is closed
    have fin:∀ t2,E2 s0 t2→A1E p us b=none→(p.closes=true→∃ v3 t3,(∀ K:KK,(∀ t3,A0X st (closeB b.out b.taken) sv t3→K (.tuple []) t3)→Q7 P 290 [sv,svT] t2 K)∧v3=AV.emp∧t3=t2)∧A0X st b.out sv t2∧N2 p us parts=(if p.closes=true then closeB b.out b.taken else b.out,b.all):=fun t2 hs2 hstep=>by
     have hbf:A1U p us (m+1) b=b:=by unfold A1U;rw [hstep]
     rw [hbf] at hF
     refine ⟨fun hc=>⟨.emp,t2,fun K hK=>?_,rfl,rfl⟩,?_,by rw [hB,←hF]⟩
     ·have hsh:A4 [svT] t2 [B2 b.taken] ba:=(hs2.shift _).trans hcol0.shift
      rcases hres.2 with ⟨h5,h6⟩ | ⟨bo,hb0,rfl,hHas⟩
      ·subst h6
       have hnil:b.taken=[]:=by
        cases hbt:b.taken with
        | nil=>rfl
        | cons x l =>
         have:=(hb.mem x (by rw [hbt];exact List.mem_cons_self ..)).2
         have h7:=hb.off.len
         rw [h5,List.length_nil] at h7
         omega
       rw [hnil] at hsh
       refine F0 (args':=[.emp,B2 []]) (A4.cons (A4.keep _ _) hsh) (call (B3o _ ba) (fun v t3 hv=>?_))
       obtain ⟨rfl,rfl⟩:=hv
       refine hK _ ?_
       rw [h5,hnil]
       exact ⟨hres.1,.inl ⟨rfl,rfl⟩⟩
      ·refine F0 (args':=[.own 3 bo 0 b.out.length,B2 b.taken]) (A4.cons (A4.keep _ _) hsh) (call (A7m bo b.out b.taken (fun x hx=>by rw [hb.off.len];exact hb.mem x hx) (by omega) ba hHas) (fun v t3 hv=>?_))
       obtain ⟨rfl,hH3,hfr⟩:=hv
       refine hK _ ⟨fun x y hx=>?_,.inr ⟨bo,hb0,by rw [A0r],hH3⟩⟩
       rw [hfr x (fun e=>by subst e;rw [hb0] at hx;cases hx)];exact hres.1 x y hx
     ·have hsup:E2 ba t2:=hcol0.sup.trans hs2
      refine ⟨hres.1.trans hsup,?_⟩
      rcases hres.2 with h3 | ⟨bo,h3,h4,f,h5,h6⟩
      ·exact .inl h3
      ·exact .inr ⟨bo,h3,h4,f,hsup bo _ h5,h6⟩
    have hok0:MOk us p.parts.length ⟨b.ms.used,b.ms.es,[]⟩:=⟨hb.ok.len,hb.ok.rng,hb.ok.srt,fun x hx=>by simp at hx⟩
    conv=>whnf
    refine call (B7f ⟨p,us,bm,bu,br,p.parts.length,q⟩ rfl hp hu ⟨b.ms.used,b.ms.es,[]⟩ rfl hok0 s0 t' hMk) (fun v t2 hv=>?_)
    simp only at hv
    cases hs:H1 p.parts p.parts.length ⟨b.ms.used,b.ms.es,[]⟩ with
    | none =>
     rw [hs] at hv
     obtain ⟨rfl,hs2⟩:=hv
     obtain ⟨g1,g2,g3⟩:=fin t2 hs2 (by unfold A1E;rw [hs])
     rw [g3];conv=>whnf
     cases hc:p.closes with
     | true =>
      obtain ⟨_,_,g4,_,_⟩:=g1 hc
      conv=>whnf
      refine g4 _ (fun t3 h3=>?_);conv=>whnf
      exact ⟨_,rfl,h3⟩
     | false =>
      conv=>whnf
      exact ⟨_,rfl,g2⟩
    | some s =>
     rw [hs] at hv
     obtain ⟨rfl,hMk2⟩:=hv
     have hBs:=B0y ⟨p,us,bm,bu,br,p.parts.length,q⟩ s.used s.es
     by_cases hcost:F6 us s.l>p.amount
     ·obtain ⟨k1,k2,k3⟩:=hb.step hp hu hs hcost
      have hcost':decide (F6 us s.l>p.amount)=true:=decide_eq_true hcost
      have hstep:A1U p us (m+1) b=A1U p us m ⟨A1Y b.out (C4 s.l) (F6 us s.l - p.amount),s,b.taken++C4 s.l,b.all+(F6 us s.l - p.amount)⟩:=by
       conv=>lhs;unfold A1U A1E
       rw [hs];simp only;rw [if_pos hcost]
      rw [hcost']
      have hlen:=A0B hp (Nat.le_refl _) hs
      have htot:=A2s (n:=p.parts.length) (Nat.le_refl _) hs
      have hpos:=A3Z hp hs
      simp only [List.length_nil] at hlen htot hpos
      rcases hres.2 with ⟨h5,h6⟩ | ⟨bo,hb0,rfl,f,hstb,hf⟩
      ·exfalso
       have:=(k1.places.rng 0 (by rw [M2];omega)).2
       rw [h5,List.length_nil] at this
       omega
      have hou:=hb.off.ok hu
      have hout2:ROut (MkR ⟨p,us,bm,bu,br,p.parts.length,q⟩ s.used s.es) 3 1 (fun k=>eI (gI b.taken k)) b.taken.length ba svT t2:=⟨s0,hcol0,hMk2⟩
      conv=>whnf
      refine call (B5b bo b.out hou (C4 s.l) (by rw [M2];omega) k1.places _ k1.weights t2 ⟨f,hout2.sup hBs bo _ hstb,hf⟩) (fun v t3 hv=>?_)
      obtain ⟨rfl,f3,rfl,hf3⟩:=hv
      have hout3:=hout2.write hBs (y':=⟨152,3,b.out.length,f3⟩) hstb
      have hll:(A1Y b.out (C4 s.l) (F6 us s.l - p.amount)).length=b.out.length:=by rw [k2.off.len,hb.off.len]
      conv=>whnf
      refine ROut.apps (q:=r3) (m:=s.l.length) (n:=b.taken.length) hBs rfl rfl rfl rfl (A7X (M2 s.l) _) (f:=fun k=>eI (gI (b.taken++C4 s.l) k)) (fun i hi=>?_) (by show (b.taken.length+s.l.length) * 8≤140737488355328;omega) (hout3.congr fun k hk=>by rw [V2 hk]) (fun sv' t4 hout4=>?_)
      ·show eI (gI (C4 s.l) i)=eI (gI (b.taken++C4 s.l) (b.taken.length+i))
       unfold gI
       rw [List.getD_eq_getElem?_getD,List.getD_eq_getElem?_getD,List.getElem?_append_right (by omega),Nat.add_sub_cancel_left]
      have hX1:=hb.off.pos
      have hX3:=k2.off.sum
      have hX4:=B8 (k2.off.ok hu).nets0
      have hX5:=hu.sum
      have hX6:=k1.weights.t0
      simp only at hX3 hX4
      conv=>whnf
      refine H4 ?_
      refine ⟨m,Nat.lt_succ_self _,⟨A1Y b.out (C4 s.l) (F6 us s.l - p.amount),s,b.taken++C4 s.l,b.all+(F6 us s.l - p.amount)⟩,sv',upd ba bo ⟨152,3,b.out.length,f3⟩,k2,by show tot p.parts.length s.es<m;omega,by rw [←hstep];exact hF,?_,?_,?_⟩
      ·have w:IntKind.i64.wrap (b.all+(F6 us s.l - p.amount))=b.all+(F6 us s.l - p.amount):=B0 (by omega) (by omega)
       show [AV.fptr (B6 p) 0,AV.own 3 bo 0 b.out.length,AV.optr 18 bm 0 0,sv',eI (IntKind.i64.wrap (b.all+(F6 us s.l - p.amount)))]=_
       rw [w]
      ·exact ⟨hres.1.over hb0,.inr ⟨bo,hb0,by show AV.own 3 bo 0 b.out.length=_;rw [hll],f3,by rw [A0,hll],by rw [hll];exact hf3⟩⟩
      ·show ROut _ _ _ _ (b.taken++C4 s.l).length _ _ _
       rw [List.length_append,M2];exact hout4
     ·have hcost':decide (F6 us s.l>p.amount)=false:=decide_eq_false hcost
      obtain ⟨g1,g2,g3⟩:=fin t2 (hBs.sup hMk2) (by unfold A1E;rw [hs];simp only;rw [if_neg hcost])
      rw [g3,hcost'];conv=>whnf
      cases hc:p.closes with
      | true =>
       obtain ⟨_,_,g4,_,_⟩:=g1 hc
       conv=>whnf
       refine g4 _ (fun t3 h3=>?_);conv=>whnf
       exact ⟨_,rfl,h3⟩
      | false =>
       conv=>whnf
       exact ⟨_,rfl,g2⟩
  ·have hi':i<parts.length:=by have:=of_decide_eq_true h;omega
   have hmi:=hme i hi'
   have hml:=hmi.len
   obtain ⟨l1,l2,l3,f,g,hf,hg,hout⟩:=hlay
   have hbmS:∀ {n:Nat} {q:Nat→Nat} {E:Nat→List QE} {rv:AV} {fo:Nat→AV} {n':Nat} {t:St},ROut (Qs n q E) 216 1 fo n' (upd (upd base bm ⟨349,18,1,f⟩) bu ⟨4,1,us.length,g⟩) rv t→t bm=some ⟨349,18,1,f⟩:=fun h =>
    h.sup (V9 _ _ _) bm _ (by rw [A3 l3.symm,A0])
   -- what is behind the call and the append
   have after:∀ (q':Nat) (t2:St),T5 t q' true (D4 us (parts.getD i default)) t2→ROut (Qs (i+1) (N9 q i q') E) 216 1 (fun k=>.optr 1 (N9 q i q' k) 0 0) i (upd (upd base bm ⟨349,18,1,f⟩) bu ⟨4,1,us.length,g⟩) rv t2:=fun q' t2 hq'=>by
    obtain ⟨s0,hc,hqs⟩:=hout
    refine ⟨s0,H6.congr hc fun k hk=>by rw [F3 (by omega)],?_⟩
    refine (hqs.add hq').congr (fun _ _=>rfl) fun k hk=>?_
    by_cases e:k=i
    ·subst e;rw [C5,hEk]
    ·rw [F3 e]
   conv=>whnf
   refine G9 ?_
   refine ⟨[4,7,9,12],[],[],.qui 0 (.qui 1 (.qui 2 (.qui 3 (.qui 5 (.qui 6 (.two 4 7 (.gen 7 (.qui 8 (.gen 9 (.qui 10 (.qui 11 (.gen 12 .done)))))) (.qui 4 (.qui 8 (.gen 9 (.qui 10 (.qui 11 (.gen 12 .done)))))))))))),by kernel_rfl,?_⟩;conv=>whnf
   have stored:∀ (q':Nat) (rv':AV) (t4:St),ROut (Qs (i+1) (N9 q i q') E) 216 1 (fun k=>.optr 1 (N9 q i q' k) 0 0) (i+1) (upd (upd base bm ⟨349,18,1,f⟩) bu ⟨4,1,us.length,g⟩) rv' t4→Lay p us E base bm bu (i+1) (N9 q i q') rv' (upd t4 bm ⟨349,18,1,L4 f 0 (.agg (R1 p++[B9 us,.own 1 bu 0 us.length,rv']))⟩):=fun q' rv' t4 h4=>by
    refine ⟨l1,l2,l3,L4 f 0 (.agg (R1 p++[B9 us,.own 1 bu 0 us.length,rv'])),g,B3 ..,hg,?_⟩
    have h5:=h4.write (V9 _ _ _) (b:=bm) (y':=⟨349,18,1,L4 f 0 (.agg (R1 p++[B9 us,.own 1 bu 0 us.length,rv']))⟩) (by rw [A3 l3.symm,A0])
    rw [L0 l3,G7] at h5
    exact h5
   have fin3:∀ (q':Nat) (rv':AV) (t5:St),Lay p us E base bm bu (i+1) (N9 q i q') rv' t5→∃ m',m'<parts.length - i∧∃ (i_1:Nat) (q:Nat→Nat) (rv:AV),i_1≤parts.length∧m'=parts.length - i_1∧[B9 us,AV.fptr (B6 p) 0,sv,AV.optr 18 bm 0 0,A5 1 B2 parts,eI parts.length,eI (IntKind.i64.wrap ((i:Int)+1))]=[B9 us,.fptr (B6 p) 0,sv,.optr 18 bm 0 0,A5 1 B2 parts,eI parts.length,eI i_1]∧Lay p us E base bm bu i_1 q rv t5 :=
    fun q' rv' t5 h5=>⟨parts.length - (i+1),by omega,i+1,_,rv',by omega,rfl,by rw [B7 (by omega)],h5⟩
   rcases hout.head with rfl | ⟨br,rfl⟩<;>conv=>whnf
   all_goals constructor
   all_goals conv=>whnf
   case inl.left | inr.left =>
    refine J7 (hbmS hout) hf ?_
    refine call (A3w us (parts.getD i default) hul (by omega) hmi.rng t) (fun v t2 hv=>?_)
    obtain ⟨q',rfl,hq'⟩:=hv
    have hout2:=after q' t2 hq'
    conv=>whnf
    refine ⟨_,⟨rfl,rfl⟩,?_⟩;conv=>whnf
    refine ROut.app (q:=B5I) (V9 _ _ _) rfl rfl rfl rfl rfl (by simp only [C5];rfl) (by show (i+1) * 8≤140737488355328;omega) hout2 (fun rv' t4 hout4=>?_)
    rcases hout4.head with e | ⟨br',e⟩<;>subst e
    all_goals conv=>whnf
    all_goals refine stV (hbmS hout4) rfl (by omega) hf (by rfl) ?_
    all_goals conv=>whnf
    all_goals refine ⟨rfl,?_⟩
    all_goals conv=>whnf
    all_goals exact fin3 _ _ _ (stored q' _ _ hout4)
   case inl.right | inr.right =>
    refine call (A3w us (parts.getD i default) hul (by omega) hmi.rng t) (fun v t2 hv=>?_)
    obtain ⟨q',rfl,hq'⟩:=hv
    have hout2:=after q' t2 hq'
    conv=>whnf
    refine J7 (hbmS hout2) hf ?_
    refine ⟨_,⟨rfl,rfl⟩,?_⟩;conv=>whnf
    refine ROut.app (q:=B5I) (V9 _ _ _) rfl rfl rfl rfl rfl (by simp only [C5];rfl) (by show (i+1) * 8≤140737488355328;omega) hout2 (fun rv' t4 hout4=>?_)
    rcases hout4.head with e | ⟨br',e⟩<;>subst e
    all_goals conv=>whnf
    all_goals refine stV (hbmS hout4) rfl (by omega) hf (by rfl) ?_
    all_goals conv=>whnf
    all_goals refine ⟨rfl,?_⟩
    all_goals conv=>whnf
    all_goals exact fin3 _ _ _ (stored q' _ _ hout4)
def inB (l:List D8) (s:D8):Bool:=l.any fun y=>s.toList==y.toList
theorem B3J (l:List D8) (s:D8) (hl:l.length≤9223372036854775807) (st:St):S P 277 [E6 l,eS s] st fun v st'=>v=.bool (inB l s)∧st'=st:=by
 refine E3 [] Tryz.func277 ?_
 refine H9 (B1P l hl s st) ?_
 exact ⟨rfl,rfl⟩
def A9G (s:O2) (x:Ab.Item):Bool:=(s.skus.length+s.cats.length==0)||inB s.skus x.sku||inB s.cats x.cat
theorem B7s (s:O2) (x:Ab.Item) (h1:s.skus.length≤20) (h2:s.cats.length≤20) (st:St):S P 285 [A7n s,C6 x] st fun v st'=>v=.bool (A9G s x)∧st'=st:=by
 refine E3 [2,3] Tryz.func285 ?_
 have w:IntKind.i64.wrap ((s.skus.length:Int)+(s.cats.length:Int))=((s.skus.length+s.cats.length:Nat):Int):=by rw [B0 (by omega) (by omega)];omega
 rw [w,B0V]
 refine B5 (fun h=>?_) (fun h=>?_)<;>rw [h]
 ·conv=>whnf
  refine ⟨?_,rfl⟩
  unfold A9G;rw [h];rfl
 ·conv=>whnf
  refine H9 (B3J s.skus x.sku (by omega) st) ?_
  refine B5 (fun h3=>?_) (fun h3=>?_)<;>rw [h3]
  ·conv=>whnf
   refine ⟨?_,rfl⟩
   unfold A9G;rw [h,h3];rfl
  ·conv=>whnf
   refine H9 (B3J s.cats x.cat (by omega) st) ?_
   refine ⟨?_,rfl⟩
   unfold A9G;rw [h,h3];rfl
theorem P7:G0 E2 where
 sup:=fun h=>h
 begin:=fun {s t b y} h hb=>fun c x hc=>by
  by_cases e:c=b
  ·subst e;rw [A0] at hc ⊢;exact hc
  ·rw [A3 e] at hc ⊢;exact h c x hc
 grow:=fun {s t b b' y y'} h h0 hb=>by
  have hsub:∀ c x,s c=some x→c≠b∧t c=some x:=fun c x hc=>by
   have hne:c≠b:=fun e=>by subst e;rw [h0] at hc;cases hc
   exact ⟨hne,h c x (by rw [A3 hne];exact hc)⟩
  have hb':s b'=none:=by
   rcases hb with e | e
   ·rw [e];exact h0
   ·cases hx:s b' with
    | none=>rfl
    | some x=>rw [(hsub _ _ hx).2] at e;cases e
  refine ⟨hb',fun c x hc=>?_⟩
  by_cases e:c=b'
  ·subst e;rw [A0] at hc ⊢;exact hc
  ·rw [A3 e] at hc ⊢
   rw [W0 (hsub c x hc).1];exact (hsub c x hc).2
 write:=fun {s t b y y'} h hb=>E2.write (y:=y) h
 forget:=fun {s t b y} h h0=>fun c x hc=>by
  have hne:c≠b:=fun e=>by subst e;rw [h0] at hc;cases hc
  rw [W0 hne];exact h c x (by rw [A3 hne];exact hc)
 drop:=fun {s t b y} h h0=>E2.drop h h0
theorem B3f {ι : Type} {R : ι→St→St→Prop} (h:∀ i,G0 (R i)):G0 fun s t=>∃ i,R i s t where
 sup:=fun ⟨i,hi⟩=>(h i).sup hi
 begin:=fun ⟨i,hi⟩ hb=>⟨i,(h i).begin hi hb⟩
 grow:=fun ⟨i,hi⟩ h0 hb=>⟨((h i).grow (y':=⟨0,0,0,fun _=>.junk⟩) hi h0 hb).1,i,((h i).grow hi h0 hb).2⟩
 write:=fun ⟨i,hi⟩ hb=>⟨i,(h i).write hi hb⟩
 forget:=fun ⟨i,hi⟩ h0=>⟨i,(h i).forget hi h0⟩
 drop:=fun ⟨i,hi⟩ h0=>⟨i,(h i).drop hi h0⟩
theorem H6.off {ty e n:Nat} {fo:Nat→AV} {s s0:St} {sv:AV} (h:H6 ty e fo s n sv s0) {b:Nat} (hb:s0 b=none):s b=none:=by
 rcases h with ⟨_,_,rfl⟩ | ⟨_,bo,g,h1,_,rfl,_⟩
 ·exact hb
 ·by_cases e:b=bo
  ·subst e;exact h1
  ·rw [A3 e] at hb;exact hb
theorem H6.under {ty e n:Nat} {fo:Nat→AV} {s s0:St} {sv:AV} (h:H6 ty e fo s n sv s0) {b:Nat} {y:M6} (hb:s0 b=none):H6 ty e fo (upd s b y) n sv (upd s0 b y):=by
 rcases h with ⟨rfl,rfl,rfl⟩ | ⟨h0,bo,g,h1,rfl,rfl,h3⟩
 ·exact H6.start _ _ _ _
 ·have hne:bo≠b:=fun e=>by subst e;rw [A0] at hb;cases hb
  exact .inr ⟨h0,bo,g,by rw [A3 hne];exact h1,rfl,L0 hne,h3⟩
theorem H6.split {ty e n:Nat} {fo:Nat→AV} {s s0:St} {sv:AV} {b:Nat} {y:M6} (h:H6 ty e fo (upd s b y) n sv s0) (hb:s b=none):∃ s1,s1 b=none∧s0=upd s1 b y∧H6 ty e fo s n sv s1:=by
 rcases h with ⟨rfl,rfl,rfl⟩ | ⟨h0,bo,g,h1,rfl,rfl,h3⟩
 ·exact ⟨s,hb,rfl,H6.start _ _ _ _⟩
 ·have hne:bo≠b:=fun e=>by subst e;rw [A0] at h1;cases h1
  rw [A3 hne] at h1
  exact ⟨upd s bo ⟨ty,e,n,g⟩,by rw [A3 hne.symm];exact hb,L0 hne.symm,.inr ⟨h0,bo,g,h1,rfl,rfl,h3⟩⟩
theorem A1D {R:St→St→Prop} (hR:G0 R) (ty e:Nat) (fo:Nat→AV) (n:Nat) (sv:AV):G0 fun s t=>ROut R ty e fo n s sv t where
 sup:=fun h=>h.sup hR
 begin:=fun {s t b y} ⟨s0,hc,h⟩ hb=>⟨upd s0 b y,H6.under hc ((hR.sup h).none hb),hR.begin h hb⟩
 grow:=fun {s t b b' y y'} ⟨s0,hc,h⟩ h0 hb=>by
  obtain ⟨s1,h1,rfl,hc1⟩:=H6.split hc h0
  obtain ⟨g1,g2⟩:=hR.grow (y':=y') h h1 hb
  exact ⟨H6.off hc1 g1,_,H6.under hc1 g1,g2⟩
 write:=fun {s t b y y'} ⟨s0,hc,h⟩ hb=>⟨_,H6.write hc hb,hR.write h (hc.sup b y hb)⟩
 forget:=fun {s t b y} ⟨s0,hc,h⟩ h0=>by
  obtain ⟨s1,h1,rfl,hc1⟩:=H6.split hc h0
  exact ⟨s1,hc1,hR.forget h h1⟩
 drop:=fun {s t b y} ⟨s0,hc,h⟩ h0=>by
  obtain ⟨s1,h1,rfl,hc1⟩:=H6.split hc h0
  exact ⟨s1,hc1,hR.drop h h1⟩
structure Y4 where
 us:List A6
 deals:List A2c
 groups:List D8
abbrev A1a (l:List A2c):Nat→AV:=fun k=>B3r (l.getD k default)
abbrev A5b (l:List D8):Nat→AV:=fun k=>eS (l.getD k default)
def IsP (items:List Ab.Item) (us:List A6) (dv gv:AV) (y:M6):Prop:=∃ f,y=⟨147,4,1,f⟩∧f 0=.agg [A5 4 C6 items,B9 us,dv,gv]
def RG (groups:List D8) (gv:AV):St→St→Prop:=fun s t=>ROut E2 9 1 (A5b groups) groups.length s gv t
def RD (deals:List A2c) (groups:List D8) (dv gv:AV):St→St→Prop:=fun s t=>ROut (RG groups gv) 134 2 (A1a deals) deals.length s dv t
def Y5 (bx:Nat) (items:List Ab.Item) (p:Y4):St→St→Prop:=fun s t=>∃ v:AV×AV,S4 bx (IsP items p.us v.1 v.2) (RD p.deals p.groups v.1 v.2) s t
theorem A7i (groups:List D8) (gv:AV):G0 (RG groups gv):=A1D P7 _ _ _ _ _
theorem A1C (deals:List A2c) (groups:List D8) (dv gv:AV):G0 (RD deals groups dv gv):=A1D (A7i groups gv) _ _ _ _ _
theorem A0p (bx:Nat) (items:List Ab.Item) (p:Y4):G0 (Y5 bx items p):=B3f fun _=>X1 (A1C _ _ _ _)
theorem Y5.at {bx:Nat} {items:List Ab.Item} {p:Y4} {s t:St} (h:Y5 bx items p s t):∃ dv gv f,t bx=some ⟨147,4,1,f⟩∧f 0=.agg [A5 4 C6 items,B9 p.us,dv,gv]∧(dv=.emp∨∃ b,dv=.own 2 b 0 p.deals.length)∧(gv=.emp∨∃ b,gv=.own 1 b 0 p.groups.length):=by
 obtain ⟨⟨dv,gv⟩,h⟩:=h
 obtain ⟨y,⟨f,rfl,hf⟩,hy⟩:=S4.at (A1C _ _ _ _) h
 obtain ⟨_,_,_,hd⟩:=h
 obtain ⟨s0,hc,hg⟩:=hd
 refine ⟨dv,gv,f,hy,hf,?_,?_⟩
 ·exact (show ROut (RG p.groups gv) _ _ _ _ _ dv t from ⟨s0,hc,hg⟩).head
 ·exact hg.head
def R7 (sc:O2) (items:List Ab.Item) (u:A6):Bool:=u.opn&&A9G sc (items.getD u.line.toNat default)
def F8 (sc:O2) (items:List Ab.Item) (us:List A6) (i:Nat):List Int:=((List.range i).filter fun k=>R7 sc items (gU us k)).map Int.ofNat
theorem A9M (sc:O2) (items:List Ab.Item) (us:List A6) (i:Nat):F8 sc items us (i+1)=F8 sc items us i++(if R7 sc items (gU us i)=true then [(i:Int)] else []):=by
 unfold F8
 rw [List.range_succ,List.filter_append,List.map_append]
 congr 1
 by_cases h:R7 sc items (gU us i)=true
 ·rw [if_pos h,List.filter_cons_of_pos (p:=fun k=>R7 sc items (gU us k)) h];rfl
 ·rw [if_neg h,List.filter_cons_of_neg (p:=fun k=>R7 sc items (gU us k)) h];rfl
theorem A3F (sc:O2) (items:List Ab.Item) (us:List A6) (i:Nat):(F8 sc items us i).length≤i:=by
 unfold F8
 rw [List.length_map]
 exact Nat.le_trans (List.length_filter_le ..) (by simp)
theorem A0a (sc:O2) (items:List Ab.Item) (us:List A6):I7 us (F8 sc items us us.length):=by
 have hmem:∀ k,k<(F8 sc items us us.length).length→∃ j:Nat,gI (F8 sc items us us.length) k=(j:Int)∧j<us.length∧R7 sc items (gU us j)=true:=fun k hk=>by
  have h:=A7 (l:=F8 sc items us us.length) hk
  obtain ⟨j,hj,he⟩:=List.mem_map.1 h
  obtain ⟨h1,h2⟩:=List.mem_filter.1 hj
  exact ⟨j,he.symm,List.mem_range.1 h1,h2⟩
 refine ⟨fun k hk=>?_,fun k hk=>?_,fun k hk=>?_⟩
 ·obtain ⟨j,e,h1,h2⟩:=hmem k hk
  rw [e];omega
 ·obtain ⟨j,e,h1,h2⟩:=hmem k hk
  rw [e]
  unfold R7 at h2
  rw [Bool.and_eq_true] at h2
  exact h2.1
 ·have hs:(F8 sc items us us.length).Pairwise (·<·):=by
   unfold F8
   refine List.Pairwise.map _ (fun a b h=>?_) ((List.pairwise_lt_range (n:=us.length)).filter _)
   show (a:Int)<(b:Int)
   omega
  have:=List.pairwise_iff_getElem.1 hs k (k+1) (by omega) hk (by omega)
  simpa [gI,hk,show k<(F8 sc items us us.length).length by omega] using this
theorem B3F (bx:Nat) (items:List Ab.Item) (p:Y4) (sc:O2) (h1:sc.skus.length≤20) (h2:sc.cats.length≤20) (hu:p.us.length≤100000) (hi:items.length≤100000) (hl:∀ u∈p.us,0≤u.line∧u.line.toNat<items.length) (s t:St) (h:Y5 bx items p s t) :
  S P 239 [.optr 4 bx 0 0,A7n sc] t fun v t'=>v=B2 (F8 sc items p.us p.us.length)∧t'=t:=by
 refine S.post (post:=fun v t'=>∃ t1,E2 t t1∧H6 3 1 (fun k=>eI (gI (F8 sc items p.us p.us.length) k)) t1 (F8 sc items p.us p.us.length).length v t') ?_
  (fun v t' ⟨t1,hs,hc⟩=>⟨_,t,⟨rfl,rfl⟩,hc.shift.trans (hs.shift _)⟩)
 obtain ⟨dv,gv,fx,hx,hx0,hdv,hgv⟩:=h.at
 refine E3 [3,7,10] Tryz.func239 ?_
 refine J7 hx hx0 ?_
 refine ⟨[0,3,5,14,15,16],fun m vs t'=>∃ (i:Nat) (sv:AV),i≤items.length∧m=items.length - i∧vs=[.optr 4 bx 0 0,.fptr (A7n sc) 0,sv,A5 4 C6 items,eI items.length,eI i]∧H6 4 1 (fun k=>eB (A9G sc (items.getD k default))) t i sv t',?_,?_⟩
 ·conv=>whnf
  exact ⟨_,0,.emp,Nat.zero_le _,rfl,rfl,H6.start _ _ _ _⟩
 ·rintro m vs t' ⟨i,sv,hi2,rfl,rfl,hcol⟩
  conv=>whnf
  cases hd:decide ((i:Int)<(items.length:Int))
  ·have:=of_decide_eq_false hd
   obtain rfl:i=items.length:=by omega
   have hx':=hcol.sup bx _ hx
   conv=>whnf
   refine J7 hx' hx0 ?_
   refine ⟨[5,8,30,31,32],fun m vs t2=>∃ (k:Nat) (sv2:AV),k≤p.us.length∧m=p.us.length - k∧vs=[sv,sv2,B9 p.us,eI p.us.length,eI k]∧H6 3 1 (fun j=>eI (gI (F8 sc items p.us k) j)) t' (F8 sc items p.us k).length sv2 t2,?_,?_⟩
   ·conv=>whnf
    exact ⟨_,0,.emp,Nat.zero_le _,rfl,rfl,H6.start _ _ _ _⟩
   ·rintro m vs t2 ⟨k,sv2,hk,rfl,rfl,hcol2⟩
    have hpl:=A3F sc items p.us k
    conv=>whnf
    cases hd2:decide ((k:Int)<(p.us.length:Int))
    ·have:=of_decide_eq_false hd2
     obtain rfl:k=p.us.length:=by omega
     conv=>whnf
     exact ⟨t',hcol.sup,hcol2⟩
    ·have hk':k<p.us.length:=by have:=of_decide_eq_true hd2;omega
     have hlk:0≤(gU p.us k).line∧(gU p.us k).line.toNat<items.length:=hl _ (A7 (l:=p.us) hk')
     have es:=A9M sc items p.us k
     conv=>whnf
     refine G9 ?_
     have fin:∀ (sv3:AV) (t3:St),H6 3 1 (fun j=>eI (gI (F8 sc items p.us (k+1)) j)) t' (F8 sc items p.us (k+1)).length sv3 t3→∃ m',m'<p.us.length - k∧∃ (k_1:Nat) (sv2:AV),k_1≤p.us.length∧m'=p.us.length - k_1∧[sv,sv3,B9 p.us,eI p.us.length,eI (IntKind.i64.wrap ((k:Int)+1))]=[sv,sv2,B9 p.us,eI p.us.length,eI k_1]∧H6 3 1 (fun j=>eI (gI (F8 sc items p.us k_1) j)) t' (F8 sc items p.us k_1).length sv2 t3 :=
      fun sv3 t3 hc=>⟨p.us.length - (k+1),by omega,k+1,sv3,by omega,rfl,by rw [B7 (by omega)],hc⟩
     refine B5 (fun h3=>?_) (fun h3=>?_)<;>rw [h3]
     ·rcases hcol with ⟨h0,rfl,rfl⟩ | ⟨h0,b,g,hb,rfl,rfl,hg⟩
      ·exfalso;omega
      have hbt:=hcol2.sup b _ (A0 ..)
      have hgk:g (0+(gU p.us k).line.toNat)=eB (A9G sc (items.getD (gU p.us k).line.toNat default)):=by rw [Nat.zero_add];exact hg _ hlk.2
      conv=>whnf
      refine ⟨rfl,⟨by show 0≤(gU p.us k).line;exact hlk.1,by show (gU p.us k).line<(items.length:Int);have:=hlk.2;have:=hlk.1;omega⟩,?_⟩;conv=>whnf
      refine ldV hbt rfl (by show 0+(gU p.us k).line.toNat<_;have:=hlk.2;omega) hgk ?_;conv=>whnf
      refine B5 (fun h4=>?_) (fun h4=>?_)<;>rw [h4]
      ·have ho:R7 sc items (gU p.us k)=true:=by
        unfold R7;rw [show (gU p.us k).opn=true from h3,h4];rfl
       rw [if_pos ho] at es
       have el:(F8 sc items p.us (k+1)).length=(F8 sc items p.us k).length+1:=by rw [es];simp
       conv=>whnf
       refine H6.app (q:=r3) rfl rfl rfl rfl rfl (f:=fun j=>eI (gI (F8 sc items p.us (k+1)) j)) (by simp only [es,A7q];rfl) (by show ((F8 sc items p.us k).length+1) * 8≤140737488355328;omega) (hcol2.congr fun j hj=>by rw [es,V2 hj]) (fun sv3 t3 hc3=>?_);conv=>whnf
       refine H4 ?_
       exact fin sv3 t3 (by rw [el];exact hc3)
      ·have ho:¬ R7 sc items (gU p.us k)=true:=by
        unfold R7;rw [h4];simp
       rw [if_neg ho,List.append_nil] at es;conv=>whnf
       refine H4 ?_
       exact fin sv2 t2 (by rw [es];exact hcol2)
     ·have ho:¬ R7 sc items (gU p.us k)=true:=by
       unfold R7;rw [show (gU p.us k).opn=false from h3];simp
      rw [if_neg ho,List.append_nil] at es;conv=>whnf
      refine H4 ?_
      exact fin sv2 t2 (by rw [es];exact hcol2)
  ·have hi':i<items.length:=by have:=of_decide_eq_true hd;omega
   conv=>whnf
   refine G9 ?_
   refine H9 (B7s sc (items.getD i default) h1 h2 _) ?_
   refine H6.app (q:=r4) rfl rfl rfl rfl rfl rfl (by show (i+1) * 1≤140737488355328;omega) hcol (fun sv' t2 hcol'=>?_);conv=>whnf
   refine H4 ?_
   exact ⟨items.length - (i+1),by omega,i+1,sv',by omega,rfl,by rw [B7 (by omega)],hcol'⟩
end Go.Proofs.YtbajhapmlfbelaaGreat
namespace Go.Proofs.YtbajhapmlfbelaaGreat
open Go Go.Ab Go.Proofs Go.Sort Go.Lib
attribute [local irreducible] upd del
def scF (x:Nat):Nat:=match x with
 | 43=>243
 | n=>n
def scT (x:Nat):Nat:=match x with
 | 22=>29
 | 23=>3
 | 0=>0
 | 3=>3
 | 4=>4
 | n=>n
def B9N:Go.Shelf.Ren:={ f:=scF,t:=scT,g:=fun n=>n }
theorem B6r:SlLaysE.n43 Tryz.prog B9N where
 mixed:=by kernel_rfl
 f43 := ⟨"slices.Compact[[]int,int]", by decide, Tryz.func243.trans (congrArg some (by kernel_rfl))⟩
 t0:=Tryz.underlying0
 a0:=Tryz.isAgg0
 z0:=Tryz.sizeOf0
 v0:=Tryz.zeroValue0
 t3:=Tryz.underlying3
 a3:=Tryz.isAgg3
 z3:=Tryz.sizeOf3
 v3:=Tryz.zeroValue3
 t4:=Tryz.underlying4
 a4:=Tryz.isAgg4
 z4:=Tryz.sizeOf4
 v4:=Tryz.zeroValue4
 t22:=Tryz.underlying29
 a22:=Tryz.isAgg29
 z22:=Tryz.sizeOf29
 v22:=Tryz.zeroValue29
 a23:=Tryz.isAgg3
 z23:=Tryz.sizeOf3
def P8 (l:List Int):List Int:=compactUpTo l.toArray l.length
def A2N (l:List Int):List Int:=P8 l++List.replicate (l.length - (P8 l).length) 0
theorem A3u (l:List Int):(P8 l).length≤l.length:=by
 unfold P8 compactUpTo
 rw [List.length_map]
 exact Nat.le_trans (List.length_filter_le ..) (by simp)
theorem A6A (l:List Int):(A2N l).length=l.length:=by
 have:=A3u l
 unfold A2N;rw [List.length_append,List.length_replicate];omega
def A1j (l':List Int):M6:=⟨3,1,l'.length,fun k=>eI (gI l' k)⟩
theorem B5M {st:St} {w:World} {b n:Nat} {l l':List Int} (hl:l'.length=l.length) (hb:A0U st b l) (hS:D0 st w) :
  M7 st w (upd st b (A1j l')) (putRow (Value.int .i64) (Sort.ahead w n) b 0 l'.toArray)∧D0 (upd st b (A1j l')) (putRow (Value.int .i64) (Sort.ahead w n) b 0 l'.toArray):=by
 obtain ⟨f,hst,hf⟩:=hb
 obtain ⟨cs,hok⟩:=hS b _ hst
 have hbl:b<w.heap.size:=(Array.getElem?_eq_some_iff.1 hok.heap).1
 have hsz:l.length * 1≤cs.size:=hok.size
 have hheap:∀ c,c<w.heap.size→(putRow (Value.int .i64) (Sort.ahead w n) b 0 l'.toArray).heap[c]?=if b=c then some (.cells (putCells (Value.int .i64) 0 l'.toArray cs) 3 (0,0)) else w.heap[c]?:=fun c hc=>by
  show (w.heap.modify b (onCells (putCells (Value.int .i64) 0 l'.toArray)))[c]?=_
  rw [Array.getElem?_modify]
  split
  ·rename_i e;subst e;rw [hok.heap];rfl
  ·rfl
 have hev:M7 st w (upd st b (A1j l')) (putRow (Value.int .i64) (Sort.ahead w n) b 0 l'.toArray):=by
  refine ⟨rfl,rfl,rfl,?_,fun c hc hs=>?_,fun c=>?_⟩
  ·show w.heap.size≤(w.heap.modify b _).size
   simp
  ·have hne:b≠c:=fun e=>by subst e;rw [hst] at hs;cases hs
   rw [hheap c hc,if_neg hne]
   exact ⟨rfl,by rw [A3 hne.symm];exact hs⟩
  ·by_cases hc:c<w.heap.size
   ·unfold P3
    rw [hheap c hc]
    by_cases e:b=c
    ·subst e
     rw [hok.heap,if_pos rfl]
     simp [putCells]
    ·rw [if_neg e];exact Nat.le_refl _
   ·unfold P3
    rw [Array.getElem?_eq_none (by omega)]
    exact Nat.zero_le _
 refine ⟨hev,fun c x hx=>?_⟩
 by_cases e:c=b
 ·subst e
  rw [A0] at hx
  cases hx
  refine ⟨putCells (Value.int .i64) 0 l'.toArray cs,?_,?_,fun i hi=>rfl,fun i hi=>rfl,fun i j y hi hy=>?_⟩
  ·rw [hheap c hbl,if_pos rfl];rfl
  ·show l'.length * 1≤_
   rw [hl]
   simpa [putCells] using hsz
  ·have hi':i<l'.length:=hi
   cases j with
   | succ j=>simp [A1j,cellsOf] at hy
   | zero =>
    have hy':y=eI (gI l' i):=by simpa [A1j,cellsOf] using hy.symm
    subst hy'
    refine ⟨.int .i64 (gI l' i),?_,.int _ _⟩
    show (putCells (Value.int .i64) 0 l'.toArray cs)[i * 1+0]?=_
    unfold putCells
    rw [Array.getElem?_mapIdx,Nat.mul_one,Nat.add_zero,Array.getElem?_eq_getElem (by omega),Option.map_some]
    rw [if_pos ⟨by omega,by simp;omega⟩,Nat.sub_zero]
    have:l'.toArray[i]! = gI l' i:=by
     rw [getElem!_pos _ i (by simp;omega)]
     simp [gI,hi']
    rw [this]
 ·rw [A3 e] at hx
  obtain ⟨ds,hd⟩:=hS c x hx
  have hcl:c<w.heap.size:=(Array.getElem?_eq_some_iff.1 hd.heap).1
  exact ⟨ds,hd.evo hev (by rw [hheap c hcl,if_neg (fun e'=>e e'.symm)])⟩
theorem B7h:OneCell (Value.int .i64):=fun x=>rfl
theorem B1z (b:Nat) (l:List Int) (hl:l.length≤4611686018427387904) (st:St) (hb:A0U st b l) :
  S P 243 [.own 1 b 0 l.length] st fun v st'=>v=.own 1 b 0 (P8 l).length∧st'=upd st b (A1j (A2N l)):=by
 refine ⟨B6r.f43.enters rfl,fun cargs w hr hS=>?_⟩
 obtain ⟨hlen,hr⟩:=hr
 have hb':=hb
 obtain ⟨f,hst,hf⟩:=hb'
 obtain ⟨cs,hok⟩:=hS b _ hst
 have h0:0<cargs.size:=by rw [←hlen];exact Nat.one_pos
 have ha:=hr 0 _ cargs[0] rfl (Array.getElem?_eq_getElem h0)
 have hc:∃ c,l.length≤c∧c≤P3 w b∧cargs=#[.slice (some ⟨b,0,none⟩) l.length c]:=by
  generalize hv:cargs[0]=v at ha
  cases ha with
  | own e b off n c hc hs =>
   refine ⟨c,hc,by simpa using hs,Array.ext (by rw [←hlen];rfl) fun i h1 h2=>?_⟩
   have:i=0:=by simp at h2;exact h2
   subst this;rw [hv];rfl
 obtain ⟨c,hlc,hcs,rfl⟩:=hc
 have hH:Holds (Value.int .i64) w b 0 l.toArray:=fun j hj=>by
  have hj':j<l.length:=by simpa using hj
  obtain ⟨x,hx,hrep⟩:=hok.cell j 0 (eI (gI l j)) hj' (by show (cellsOf (f j))[0]?=_;rw [hf j hj'];rfl)
  have hxx:x=.int .i64 (gI l j):=by cases hrep;rfl
  subst hxx
  have hg:l.toArray[j]! = gI l j:=by rw [getElem!_pos _ j (by simpa using hj')];simp [gI,hj']
  refine ⟨?_,?_⟩
  ·unfold World.cell?
   rw [hok.heap,hg]
   have:cs[j * 1+0]?=some (.int .i64 (gI l j)):=hx
   simpa using this
  ·unfold World.frozen?
   rw [hok.heap]
   simp
 have hcl:=A3u l
 have hK:=AnyE.slices_Compact B6r (Value.int .i64) B7h (EqlAt.intD P _ .i64) (NeqAt.intD P _ .i64) 0 Tryz.zeroValue3 b 0 c l.toArray w hH (by simp;omega) (by simpa using hlc)
 rw [show l.toArray.size=l.length from by simp] at hK
 refine hK.mono ?_
 rintro e w' ⟨rfl,n,rfl⟩
 obtain ⟨h1,h2⟩:=B5M (n:=n) (A6A l) hb hS
 refine ⟨.own 1 b 0 (P8 l).length,_,_,⟨rfl,rfl⟩,rfl,?_,h2,h1⟩
 have hr2:E9 w st (.own 1 b 0 (P8 l).length) (.slice (some ⟨b,0 * 1,none⟩) (P8 l).length c):=.own 1 b 0 _ c (Nat.le_trans hcl hlc) (by simpa using hcs)
 exact h1.rep hr2
theorem A9w (st:St):S P 243 [.emp] st fun v st'=>v=.emp∧st'=st:=by
 refine E3 [] Tryz.func243 ?_
 exact ⟨rfl,rfl⟩
theorem B5j {l:List Int} {k:Nat} (h:k<(P8 l).length):gI (A2N l) k=gI (P8 l) k:=by
 unfold A2N;exact V2 h
end Go.Proofs.YtbajhapmlfbelaaGreat
namespace Go.Proofs.YtbajhapmlfbelaaGreat
open Go Go.Ab
attribute [local irreducible] upd del
def A2q (us:List A6) (l:List Int):Int:=A2 (l.map fun i=>(gU us i.toNat).net)
theorem A6I {us:List A6} (hu:C0 us) {l:List Int} (hl:∀ k,k<l.length→0≤gI l k∧(gI l k).toNat<us.length) (hn:l.length≤800000) {i:Nat} (hi:i<l.length) :
  IntKind.i64.wrap (A2q us (l.take i)+(gU us (gI l i).toNat).net)=A2q us (l.take (i+1)):=by
 have hc:=X2 hu (l.take i) (fun x hx=>by obtain ⟨k,hk,rfl⟩:=E4 (List.take_subset _ _ hx);exact hl k hk)
 have h3:0≤(gU us (gI l i).toNat).net:=hu.pos _ (A7 (hl i hi).2)
 have h4:(gU us (gI l i).toNat).net≤10000000000000:=hu.le (A7 (hl i hi).2)
 have e:A2q us (l.take (i+1))=A2q us (l.take i)+(gU us (gI l i).toNat).net:=by
  unfold A2q;rw [I4 hi,List.map_append,E0];simp [A2]
 have hcl:(l.take i).length≤800000:=by rw [List.length_take];omega
 have e2:F6 us (l.take i)=A2q us (l.take i):=rfl
 rw [e]
 exact B0 (by omega) (by omega)
theorem B8l (bx:Nat) (items:List Ab.Item) (p:Y4) (hu:C0 p.us) (l:List Int) (hn:l.length≤800000) (hl:∀ k,k<l.length→0≤gI l k∧(gI l k).toNat<p.us.length) (s t:St) (h:Y5 bx items p s t) :
  S P 240 [.optr 4 bx 0 0,B2 l] t fun v t'=>v=eI (A2q p.us l)∧t'=t:=by
 obtain ⟨dv,gv,fx,hx,hx0,hdv,hgv⟩:=h.at
 refine E3 [] Tryz.func240 ?_
 refine ⟨[0,5,8,9,10],fun m vs t'=>∃ i:Nat,i≤l.length∧m=l.length - i∧vs=[.optr 4 bx 0 0,eI (A2q p.us (l.take i)),B2 l,eI l.length,eI i]∧t'=t,?_,?_⟩
 ·conv=>whnf
  exact ⟨_,0,Nat.zero_le _,rfl,rfl,rfl⟩
 ·rintro m vs t' ⟨i,hi,rfl,rfl,rfl⟩
  conv=>whnf
  cases h2:decide ((i:Int)<(l.length:Int))
  ·have:=of_decide_eq_false h2
   obtain rfl:i=l.length:=by omega
   rw [List.take_length];conv=>whnf
   exact ⟨rfl,rfl⟩
  ·have hi':i<l.length:=by have:=of_decide_eq_true h2;omega
   have hr:=hl i hi'
   conv=>whnf
   refine G9 ?_
   refine J7 hx hx0 ?_
   refine ⟨rfl,⟨by show 0≤gI l i;exact hr.1,by show gI l i<(p.us.length:Int);have:=hr.2;have:=hr.1;omega⟩,?_⟩;conv=>whnf
   refine H4 ?_
   exact ⟨l.length - (i+1),by omega,i+1,by omega,rfl,by rw [B7 (by omega),←A6I hu hl hn hi'];rfl,rfl⟩
theorem B7d (bx:Nat) (items:List Ab.Item) (p:Y4) (hu:C0 p.us) (l:List Int) (hn:l.length≤800000) (hl:∀ k,k<l.length→0≤gI l k∧(gI l k).toNat<p.us.length) (s t:St) (h:Y5 bx items p s t)
  (b:Nat) (m0:Nat) (f:Nat→AV) (hm0:l.length≤m0) (hb:t b=some ⟨3,1,m0,f⟩) (hf:∀ k,k<l.length→f k=eI (gI l k)) :
  S P 240 [.optr 4 bx 0 0,.own 1 b 0 l.length] t fun v t'=>v=eI (A2q p.us l)∧t'=t:=by
 obtain ⟨dv,gv,fx,hx,hx0,hdv,hgv⟩:=h.at
 refine E3 [] Tryz.func240 ?_
 refine ⟨[0,5,8,9,10],fun m vs t'=>∃ i:Nat,i≤l.length∧m=l.length - i∧vs=[.optr 4 bx 0 0,eI (A2q p.us (l.take i)),.own 1 b 0 l.length,eI l.length,eI i]∧t'=t,?_,?_⟩
 ·conv=>whnf
  exact ⟨_,0,Nat.zero_le _,rfl,rfl,rfl⟩
 ·rintro m vs t' ⟨i,hi,rfl,rfl,rfl⟩
  conv=>whnf
  cases h2:decide ((i:Int)<(l.length:Int))
  ·have:=of_decide_eq_false h2
   obtain rfl:i=l.length:=by omega
   rw [List.take_length];conv=>whnf
   exact ⟨rfl,rfl⟩
  ·have hi':i<l.length:=by have:=of_decide_eq_true h2;omega
   have hr:=hl i hi'
   conv=>whnf
   refine G9 ?_
   refine ldV hb rfl (by omega) (v:=eI (gI l i)) (by rw [show 0+(i:Int).toNat=i by omega];exact hf i hi') ?_;conv=>whnf
   refine J7 hx hx0 ?_
   refine ⟨rfl,⟨by show 0≤gI l i;exact hr.1,by show gI l i<(p.us.length:Int);have:=hr.2;have:=hr.1;omega⟩,?_⟩;conv=>whnf
   refine H4 ?_
   exact ⟨l.length - (i+1),by omega,i+1,by omega,rfl,by rw [B7 (by omega),←A6I hu hl hn hi'],rfl⟩
def A0b (p:Y4) (pr:A8) (off:Int):Y4:=⟨p.us,p.deals++[⟨pr.id,off⟩],p.groups++(if Z8 pr.group=true then [] else [pr.group])⟩
theorem A2T {α : Type} [Inhabited α] {a b:List α} {k:Nat} (h:k<a.length):(a++b).getD k default=a.getD k default:=by
 rw [List.getD_eq_getElem?_getD,List.getD_eq_getElem?_getD,List.getElem?_append_left h]
theorem A8x {α : Type} [Inhabited α] (a:List α) (x : α):(a++[x]).getD a.length default=x:=by
 simp [List.getD_eq_getElem?_getD]
theorem RD.at {bx:Nat} {dl:List A2c} {gr:List D8} {dv gv:AV} {s t:St} {f:Nat→AV} (h:RD dl gr dv gv (upd s bx ⟨147,4,1,f⟩) t):t bx=some ⟨147,4,1,f⟩:=(A1C _ _ _ _).sup h bx _ (A0 ..)
theorem RD.put {bx:Nat} {dl:List A2c} {gr:List D8} {dv gv:AV} {s t:St} {f f':Nat→AV} (h:RD dl gr dv gv (upd s bx ⟨147,4,1,f⟩) t):RD dl gr dv gv (upd s bx ⟨147,4,1,f'⟩) (upd t bx ⟨147,4,1,f'⟩):=by
 have:=(A1C dl gr dv gv).write (y':=⟨147,4,1,f'⟩) h (A0 ..)
 rw [G7] at this;exact this
theorem RD.of {dl:List A2c} {gr:List D8} {dv gv:AV} {s t:St} {d:A2c} (h:ROut (RG gr gv) 134 2 (A1a (dl++[d])) (dl.length+1) s dv t):RD (dl++[d]) gr dv gv s t:=by
 unfold RD;rw [List.length_append];exact h
theorem RD.grp {K:KK} {X:Prop} {dl:List A2c} {gr:List D8} {dv gv:AV} {s t:St} (h:RD dl gr dv gv s t) (g:D8)
  (happ:∀ {s1:St},ROut E2 9 1 (A5b (gr++[g])) gr.length s1 gv t→(∀ gv' t',ROut E2 9 1 (A5b (gr++[g])) (gr.length+1) s1 gv' t'→K gv' t')→X)
  (hk:∀ gv' t',RD dl (gr++[g]) dv gv' s t'→(gv'=.emp∨∃ b,gv'=.own 1 b 0 (gr++[g]).length)→K gv' t'):X:=by
 obtain ⟨s1,hc,hg⟩:=h
 refine happ (s1:=s1) (hg.congr fun k hk=>by simp only [A5b];rw [A2T hk]) (fun gv' t' hg'=>?_)
 have hg2:RG (gr++[g]) gv' s1 t':=by unfold RG;rw [List.length_append];exact hg'
 exact hk gv' t' ⟨s1,hc,hg2⟩ (ROut.head hg2)
theorem Y5.mk' {bx:Nat} {items:List Ab.Item} {p:Y4} {dv gv:AV} {s t:St} {f:Nat→AV} (hbx:s bx=none) (hf:f 0=.agg [A5 4 C6 items,B9 p.us,dv,gv]) (h:RD p.deals p.groups dv gv (upd s bx ⟨147,4,1,f⟩) t):Y5 bx items p s t :=
 ⟨(dv,gv),hbx,_,⟨f,rfl,hf⟩,h⟩
theorem Y5.fin {bx:Nat} {items:List Ab.Item} {us:List A6} {dl:List A2c} {gr:List D8} {dv gv:AV} {s t:St} {f:Nat→AV} (hbx:s bx=none) (h:RD dl gr dv gv (upd s bx ⟨147,4,1,f⟩) t) (f':Nat→AV) (hf:f' 0=.agg [A5 4 C6 items,B9 us,dv,gv]) :
  Y5 bx items ⟨us,dl,gr⟩ s (upd t bx ⟨147,4,1,f'⟩):=Y5.mk' hbx hf (RD.put h)
theorem A9P (bx:Nat) (items:List Ab.Item) (p:Y4) (pr:A8) (off:Int) (hd:p.deals.length≤1000) (hg:p.groups.length≤1000) (s t:St) (h:Y5 bx items p s t) :
  S P 153 [.optr 4 bx 0 0,B6 pr,eI off] t fun v t'=>v=.tuple []∧Y5 bx items (A0b p pr off) s t':=by
 obtain ⟨⟨dv,gv⟩,hbx,y,⟨f,rfl,hf⟩,hRD⟩:=h
 simp only at hf hRD
 refine E3 [4] Tryz.func153 ?_
 refine ⟨[10,13],[],[0,1,2,3,4,5,6,7,8,9,10,11,12,13],by kernel_rfl,?_⟩
 have hdv:dv=.emp∨∃ b,dv=.own 2 b 0 p.deals.length:=ROut.head hRD
 have hgv:gv=.emp∨∃ b,gv=.own 1 b 0 p.groups.length:=by obtain ⟨s0,hc,hgg⟩:=hRD;exact ROut.head hgg
 rcases hdv with rfl | ⟨bd,rfl⟩<;>rcases hgv with rfl | ⟨bg,rfl⟩
 all_goals
  conv=>whnf
  refine J7 hRD.at hf ?_
  refine ⟨_,⟨rfl,rfl⟩,?_⟩;conv=>whnf
  refine ROut.app (q:=B7l) (A7i _ _) rfl rfl rfl rfl rfl (f:=A1a (p.deals++[⟨pr.id,off⟩])) (by simp only [A1a,A8x];rfl) (by show (p.deals.length+1) * 24≤140737488355328;omega) (hRD.congr fun k hk=>by simp only [A1a];rw [A2T hk]) (fun dv' t2 hRD2=>?_)
  have hRD2':=RD.of hRD2
  rcases ROut.head hRD2' with rfl | ⟨bd',rfl⟩
  all_goals
   conv=>whnf
   refine stW hRD2'.at hf ?_
   have hnil:(ByteArray.toList pr.group==ByteArray.toList ⟨#[]⟩)=Z8 pr.group:=rfl
   rw [hnil]
   cases hgr:Z8 pr.group
   ·conv=>whnf
    refine ⟨[8,11],[],[0,1,2,3,4,5,6,7,8,9,10,11],by kernel_rfl,?_⟩;conv=>whnf
    refine J7 (RD.put hRD2').at (by rw [B3]) ?_
    refine ⟨_,⟨rfl,rfl⟩,?_⟩;conv=>whnf
    refine RD.grp (RD.put hRD2') pr.group (fun happ=>ROut.app (q:=r9) P7 rfl rfl rfl rfl rfl (by simp only [A5b,A8x];rfl) (by show (p.groups.length+1) * 16≤140737488355328;omega) happ) (fun gv' t4 hRD4 hh=>?_)
    rcases hh with rfl | ⟨bg',rfl⟩
    all_goals
     conv=>whnf
     refine stW hRD4.at (by rw [B3]) ?_
     refine ⟨rfl,?_⟩
     unfold A0b
     rw [hgr]
     exact Y5.fin hbx hRD4 _ (by rw [B3];rfl)
   ·conv=>whnf
    refine ⟨rfl,?_⟩
    unfold A0b
    rw [hgr]
    simp only [if_true,List.append_nil]
    exact Y5.fin hbx hRD2' _ (by rw [B3];rfl)
end Go.Proofs.YtbajhapmlfbelaaGreat
namespace Go.Proofs.YtbajhapmlfbelaaGreat
open Go Go.Ab
theorem Q6 {lo hi x:Int}:upB lo hi x=true↔lo≤x∧x≤hi:=by
 unfold upB;simp only [Bool.and_eq_true,decide_eq_true_eq,ge_iff_le]
theorem A1B {α : Type} [Inhabited α] {l:List α} {p:Nat→α→Bool}:V7 l p=true↔∀ k,k<l.length→p k (l.getD k default)=true:=by
 unfold V7
 rw [List.all_eq_true]
 exact ⟨fun h k hk=>h k (List.mem_range.2 hk),fun h k hk=>h k (List.mem_range.1 hk)⟩
structure B4P (p:A8):Prop where
 kind:1≤p.kind∧p.kind<8
 skus:p.scope.skus.length≤20
 cats:p.scope.cats.length≤20
 least:0≤p.least∧p.least≤10000000000000
 buy:p.kind=3→A6r p
 bun:p.kind=4→A1W p∧∀ x∈p.parts,x.scope.skus.length≤20∧x.scope.cats.length≤20
 ask:I9 p→p.kind=1∨p.kind=2∨p.kind=5∨p.kind=6→A3O p
 ship:p.kind=7→1≤p.rate∧p.rate≤10000
theorem B2A {l:List A2F} (h:A0H l=true):A2G l:=by
 unfold A0H at h
 simp only [Bool.and_eq_true,Bool.not_eq_true',Bool.or_eq_false_iff,decide_eq_false_iff_not] at h
 refine ⟨by omega,fun t ht=>?_⟩
 obtain ⟨k,hk,rfl⟩:=E4 ht
 have h2:=A1B.1 h.2 k hk
 unfold A1q at h2
 simp only [Bool.not_eq_true',Bool.or_eq_false_iff,decide_eq_false_iff_not] at h2
 omega
theorem A4F {p:A8} (h:I2 p=true):B4P p:=by
 have h0:=h
 unfold I2 at h
 simp only [Bool.and_eq_true,decide_eq_true_eq] at h
 obtain ⟨⟨⟨⟨hk1,hk2⟩,hh⟩,hp⟩,hkd⟩:=h
 have hl:=A6K hh
 simp only [A6J,Bool.and_eq_true,Q6] at hh
 unfold A6L at hkd
 refine ⟨⟨hk1,hk2⟩,hl.1,hl.2,hh.2,fun e=>?_,fun e=>?_,fun hf e=>?_,fun e=>?_⟩
 ·rw [e] at hkd
  simp [A4E,A5r,Q6] at hkd
  exact ⟨hkd.2.1,hkd.2.2,⟨by omega,hkd.1.2⟩⟩
 ·rw [e] at hkd
  simp only [show ¬(4:Int)=1 by decide,show ¬(4:Int)=2 by decide,show ¬(4:Int)=3 by decide,if_false,if_true] at hkd
  unfold A4D at hkd
  simp only [Bool.and_eq_true,Bool.not_eq_true',Bool.or_eq_false_iff,decide_eq_false_iff_not,List.any_eq_false] at hkd
  obtain ⟨⟨⟨⟨a1,a2⟩,a3⟩,a4⟩,a5⟩:=hkd
  have hpt:∀ x∈p.parts,A5t x=true:=fun x hx=>by simpa using a5 x hx
  refine ⟨⟨by omega,by omega,fun x hx=>?_,by omega,by omega⟩,fun x hx=>?_⟩
  ·have:=hpt x hx
   unfold A5t at this
   simp only [Bool.and_eq_true,Bool.not_eq_true',Bool.or_eq_false_iff,decide_eq_false_iff_not] at this
   omega
  ·have:=hpt x hx
   unfold A5t at this
   simp only [Bool.and_eq_true] at this
   exact A5E this.1
 ·refine ⟨hf,h0,e,fun e2=>?_,fun e2=>?_⟩
  ·rcases e2 with e2 | e2<;>rw [e2] at hkd<;>simp at hkd<;>exact B2A hkd
  ·rw [e2] at hkd
   simp [A4C,Q6] at hkd
   omega
 ·rw [e] at hkd
  simp [A5r,Q6] at hkd
  exact hkd
theorem B5z {p:A8} (hp:A3O p) {nets:List Int} (h0:∀ x∈nets,0≤x) (hs:A2 nets≤10000000000000) (hl:nets.length≤100000):∀ k,k<(K3 p nets).length→gI (K3 p nets) k≤gI nets k:=fun k hk=>by
 have hn:=B8 h0
 have hlen:=(A2r hp h0 hs hl).2.1
 have hx:0≤gI nets k:=h0 _ (A7 (by omega))
 have hkn:k<nets.length:=by omega
 unfold K3 at hk ⊢
 have hmap:∀ (r a:Int),0≤a→gI (nets.map fun x=>O0 x r a) k≤gI nets k:=fun r a ha=>by
  rw [show gI (nets.map fun x=>O0 x r a) k=O0 (gI nets k) r a from E7 (fun x=>O0 x r a) nets hkn]
  exact (P1 hx ha).2
 rcases hp.kind with e | e | e | e
 ·rw [if_pos e] at hk ⊢;exact hmap _ _ (Int.le_refl _)
 ·rw [if_neg (by omega),if_pos e] at hk ⊢;exact hmap _ _ (hp.amount e).1
 ·rw [if_neg (by omega),if_neg (by omega),if_pos e] at hk ⊢
  have hok:=R9 (hp.tiers (.inl e)) (A2 nets)
  unfold A1f at hk ⊢
  split at hk
  ·simp at hk
  ·rename_i t hr
   rw [hr] at hok
   have hob:0≤O0 (A2 nets) t.rate t.amount∧O0 (A2 nets) t.rate t.amount≤A2 nets:=P1 hn hok.1
   have hW:J8 (O0 (A2 nets) t.rate t.amount) nets:=⟨hob.1,by omega,hl,h0,by omega,fun e=>by omega⟩
   have hll:=(S9 hW).2.1
   exact A0x hW hob.2 (by omega)
 ·rw [if_neg (by omega),if_neg (by omega),if_neg (by omega)] at hk ⊢
  have hok:=R9 (hp.tiers (.inr e)) nets.length
  unfold A1e at hk ⊢
  split at hk
  ·simp at hk
  ·rename_i t hr
   rw [hr] at hok
   exact hmap _ _ hok.1
theorem A7z (us:List A6) (mine:List Int):K2 us mine=D7 us mine:=rfl
theorem A9u {p:A8} (hp:A3O p) {us:List A6} (hu:C0 us) {mine:List Int} (hm:I7 us mine):Y8 us (V8 p us mine).1 (V8 p us mine).2:=by
 have hnl:(K2 us mine).length=mine.length:=List.length_map ..
 have hml:=hm.len
 have hul:=hu.len
 have hn0:∀ x∈K2 us mine,0≤x:=fun x hx=>by
  obtain ⟨i,hi,rfl⟩:=List.mem_map.1 hx
  exact hu.at0 _
 have hwl:=A9k hu hm.places
 have hus:=hu.sum
 have hns:A2 (K2 us mine)≤10000000000000:=by rw [A7z];omega
 obtain ⟨ob1,ob2,ob3⟩:=A2r hp hn0 hns (by omega)
 have hle:=B5z hp hn0 hns (by omega)
 have h1:=Y3 hu hm.places (offs:=K3 p (K2 us mine)) (by omega) (fun k hk=>⟨ob3 _ (A7 hk),by
  have:=hle k hk
  rw [show gI (K2 us mine) k=(gU us (gI mine k).toNat).net from E7 (fun i:Int=>(gU us i.toNat).net) mine (by omega)] at this
  exact this⟩) (K3 p (K2 us mine)).length (Nat.le_refl _)
 rw [List.take_length] at h1
 unfold V8
 simp only
 split
 ·have h2:=Y8.closeB (h1.ok hu) mine (fun x hx=>by
   obtain ⟨k,hk,rfl⟩:=E4 hx
   rw [h1.len];exact (hm.rng k hk).2)
  have h3:=h1.trans h2
  rw [Int.add_zero] at h3;exact h3
 ·exact h1
end Go.Proofs.YtbajhapmlfbelaaGreat
namespace Go.Proofs.YtbajhapmlfbelaaGreat
open Go Go.Ab
attribute [local irreducible] upd del
theorem Y5.more {bx:Nat} {items:List Ab.Item} {p:Y4} {s t t':St} (h:Y5 bx items p s t) (hs:E2 t t'):Y5 bx items p s t':=by
 obtain ⟨v,h1,y,h2,s1,h3,s2,h4,h5⟩:=h
 exact ⟨v,h1,y,h2,s1,h3,s2,h4,h5.trans hs⟩
structure A6a (items:List Ab.Item) (us:List A6):Prop where
 ok:C0 us
 few:items.length≤100000
 line:∀ u∈us,0≤u.line∧u.line.toNat<items.length
theorem A6a.off {items:List Ab.Item} {us us':List A6} {x:Int} (h:A6a items us) (ho:Y8 us us' x):A6a items us' :=
 ⟨ho.ok h.ok,h.few,fun u hu=>by
  obtain ⟨k,hk,rfl⟩:=E4 hu
  have h1:=ho.line k
  have h2:=h.line (gU us k) (A7 (by rw [←ho.len];exact hk))
  show 0≤(gU us' k).line∧(gU us' k).line.toNat<items.length
  rw [h1];exact h2⟩
def Y2 (items:List Ab.Item) (us:List A6) (pr:A8):List A6×Int :=
 if A2q us (F8 pr.scope items us us.length)<pr.least then ([],0)
 else if pr.kind=3 then S2 pr us (F8 pr.scope items us us.length) else V8 pr us (F8 pr.scope items us us.length)
theorem B6O {P:Program} {f:FuncId} {args:List AV} {st st1:St} {v:AV} {K:KK} (h:S P f args st fun v' st'=>v'=v∧st'=st1) (hK:K v st1):Q7 P f args st K:=call h fun v' st' ⟨e1,e2⟩=>by rw [e1,e2];exact hK
theorem B3Y (bx:Nat) (items:List Ab.Item) (p:Y4) (pr:A8) (hfit:I9 pr) (hright:I2 pr=true) (hk:pr.kind≠4∧pr.kind≠7) (hu:A6a items p.us) (s t:St) (h:Y5 bx items p s t) :
  S P 151 [.optr 4 bx 0 0,B6 pr] t fun v t'=>v=.tuple [B9 (Y2 items p.us pr).1,eI (Y2 items p.us pr).2]∧t'=t:=by
 have hok:=A4F hright
 have hm:=A0a pr.scope items p.us
 have hml:=hm.len
 have hul:=hu.ok.len
 refine S.post (post:=fun v t'=>(v=.tuple [B9 (Y2 items p.us pr).1,eI (Y2 items p.us pr).2]∨(Y2 items p.us pr=([],0)∧v=.tuple [.emp,eI 0]))∧t'=t) ?_ (fun v t' ⟨hv,ht⟩=>by
  subst ht
  rcases hv with rfl | ⟨h1,rfl⟩
  ·exact ⟨_,_,⟨rfl,rfl⟩,A4.refl _ _⟩
  ·exact ⟨_,_,⟨rfl,rfl⟩,by rw [h1];exact A4.tuple (A4.cons (G5 3 _) (A4.keep _ _)) rfl⟩)
 obtain ⟨dv,gv,fx,hx,hx0,hdv,hgv⟩:=h.at
 refine E3 [3] Tryz.func151 ?_
 refine H9 (B3F bx items p pr.scope hok.skus hok.cats hul hu.few hu.line s t h) ?_
 refine ⟨[],[],[0,1,2,3,4,5],by kernel_rfl,?_⟩;conv=>whnf
 refine ⟨_,A6y (B8l bx items p hu.ok _ (by omega) hm.rng s t h),?_⟩
 have hS:Y2 items p.us pr=if A2q p.us (F8 pr.scope items p.us p.us.length)<pr.least then ([],0) else if pr.kind=3 then S2 pr p.us (F8 pr.scope items p.us p.us.length) else V8 pr p.us (F8 pr.scope items p.us p.us.length):=rfl
 conv=>whnf
 refine B5 (fun h1=>?_) (fun h1=>?_)<;>rw [h1]<;>simp only [decide_eq_true_eq,decide_eq_false_iff_not] at h1
 ·rw [if_pos h1] at hS;conv=>whnf
  exact ⟨.inr ⟨hS,rfl⟩,rfl⟩
 rw [if_neg h1] at hS;conv=>whnf
 refine B5 (fun h2=>?_) (fun h2=>?_)<;>rw [h2]<;>simp only [beq_iff_eq,beq_eq_false_iff_ne] at h2
 ·rw [if_pos h2] at hS;conv=>whnf
  refine ⟨[],[],[0,1,2,3,4,5,6,7,8,9,10],by kernel_rfl,?_⟩;conv=>whnf
  refine J7 hx hx0 ?_
  refine cqW (B3j pr p.us _ hfit hright h2 (hok.buy h2) hu.ok hm t) ?_
  exact ⟨.inl (by rw [hS];rfl),rfl⟩
 ·rw [if_neg h2] at hS
  have hask:A3O pr:=hok.ask hfit (by have:=hok.kind;have:=hk.1;have:=hk.2;omega)
  conv=>whnf
  refine ⟨[],[],[0,1,2,3,4,5,6,7,8,9,10],by kernel_rfl,?_⟩;conv=>whnf
  refine J7 hx hx0 ?_
  refine cqW (B4V pr p.us _ hask hu.ok hm t) ?_
  exact ⟨.inl (by rw [hS];rfl),rfl⟩
theorem B3w (a b:List Int) (j:Nat):gI (a++b) (a.length+j)=gI b j:=by
 unfold gI
 rw [List.getD_eq_getElem?_getD,List.getD_eq_getElem?_getD,List.getElem?_append_right (by omega),Nat.add_sub_cancel_left]
theorem B7c (bx:Nat) (t:St):S P 240 [.optr 4 bx 0 0,.emp] t fun v t'=>v=eI 0∧t'=t:=by
 refine E3 [] Tryz.func240 ?_
 refine A6g [0,5,8,9,10] ?_;conv=>whnf
 intro I;conv=>whnf
 exact ⟨rfl,rfl⟩
def L8 (items:List Ab.Item) (us:List A6) (pr:A8):List (List Int):=pr.parts.map fun x=>F8 x.scope items us us.length
def A2L (items:List Ab.Item) (us:List A6) (pr:A8) (i:Nat):List Int:=((L8 items us pr).take i).flatten
def U6 (items:List Ab.Item) (us:List A6) (pr:A8):List A6×Int :=
 if A2q us (P8 (C4 (A2L items us pr pr.parts.length)))<pr.least then ([],0) else N2 pr us (L8 items us pr)
theorem A6v (items:List Ab.Item) (us:List A6) (pr:A8) {i:Nat} (hi:i<pr.parts.length):A2L items us pr (i+1)=A2L items us pr i++F8 (pr.parts.getD i default).scope items us us.length:=by
 unfold A2L
 have hl:(L8 items us pr).length=pr.parts.length:=List.length_map ..
 rw [I4 (by omega),List.flatten_append]
 congr 1
 have:(L8 items us pr).getD i default=F8 (pr.parts.getD i default).scope items us us.length:=E7 (fun x:A2D=>F8 x.scope items us us.length) pr.parts hi
 rw [this];simp
theorem A8l (items:List Ab.Item) (us:List A6) (pr:A8):∀ i,i≤pr.parts.length→(A2L items us pr i).length≤i * us.length
 | 0,_=>by simp [A2L]
 | i+1,h=>by
  have ih:=A8l items us pr i (by omega)
  rw [A6v items us pr (by omega),List.length_append]
  have:=A3F (pr.parts.getD i default).scope items us us.length
  have e:(i+1) * us.length=i * us.length+us.length:=Nat.succ_mul i us.length
  omega
theorem B1y {l:List Int} {x:Int} (h:x∈P8 l):x∈l:=by
 unfold P8 Go.Lib.compactUpTo at h
 obtain ⟨k,hk,rfl⟩:=List.mem_map.1 h
 have hk2:k<l.length:=List.mem_range.1 (List.mem_filter.1 hk).1
 have:l.toArray[k]! = l[k]:=by rw [getElem!_pos _ k (by simpa using hk2)];simp
 rw [this];exact List.getElem_mem hk2
theorem B2V {items:List Ab.Item} {us:List A6} {pr:A8} {i:Nat} {x:Int} (h:x∈A2L items us pr i):0≤x∧x.toNat<us.length:=by
 unfold A2L at h
 obtain ⟨l,hl,hx⟩:=List.mem_flatten.1 h
 obtain ⟨q,hq,rfl⟩:=List.mem_map.1 (List.take_subset _ _ hl)
 obtain ⟨k,hk,rfl⟩:=E4 hx
 exact (A0a q.scope items us).rng k hk
theorem B1Y (bx:Nat) (items:List Ab.Item) (p:Y4) (pr:A8) (hfit:I9 pr) (hright:I2 pr=true) (hk:pr.kind=4) (hu:A6a items p.us) (s t:St) (h:Y5 bx items p s t) :
  S P 152 [.optr 4 bx 0 0,B6 pr] t fun v t'=>v=.tuple [B9 (U6 items p.us pr).1,eI (U6 items p.us pr).2]∧t'=t:=by
 have hok:=A4F hright
 obtain ⟨hbun,hsc⟩:=hok.bun hk
 have hn8:=hbun.n8
 have hul:=hu.ok.len
 have hpl:(L8 items p.us pr).length=pr.parts.length:=List.length_map ..
 have hpm:∀ x∈L8 items p.us pr,I7 p.us x:=fun x hx=>by
  obtain ⟨q,hq,rfl⟩:=List.mem_map.1 hx
  exact A0a _ _ _
 refine S.post (post:=fun v t'=>(v=.tuple [B9 (U6 items p.us pr).1,eI (U6 items p.us pr).2]∨(U6 items p.us pr=([],0)∧v=.tuple [.emp,eI 0]))∧E2 t t') ?_ (fun v t' ⟨hv,ht⟩=>by
  rcases hv with rfl | ⟨h1,rfl⟩
  ·exact ⟨_,_,⟨rfl,rfl⟩,ht.shift _⟩
  ·exact ⟨_,_,⟨rfl,rfl⟩,by rw [h1];exact (ht.shift _).trans (A4.tuple (A4.cons (G5 3 _) (A4.keep _ _)) rfl)⟩)
 have hBi:=fun (n:Nat) (sv:AV) (fo:Nat→AV)=>A1D P7 3 1 fo n sv
 refine E3 [3,9] Tryz.func152 ?_
 refine ⟨[0,3,6,7,12,13,14],fun m vs t'=>∃ (i:Nat) (sv1 sv2:AV),i≤pr.parts.length∧m=pr.parts.length - i∧vs=[.optr 4 bx 0 0,.fptr (B6 pr) 0,sv1,sv2,A5 3 A0K pr.parts,eI pr.parts.length,eI i] ∧
  ROut (fun s t'=>ROut E2 3 1 (fun k=>eI (gI (A2L items p.us pr i) k)) (A2L items p.us pr i).length s sv2 t') 29 1 (fun k=>B2 ((L8 items p.us pr).getD k default)) i t sv1 t',?_,?_⟩
 ·conv=>whnf
  exact ⟨_,0,.emp,.emp,Nat.zero_le _,rfl,rfl,ROut.start (ROut.start (E2.refl _) _ _ _) _ _ _⟩
 ·rintro m vs t' ⟨i,sv1,sv2,hi,rfl,rfl,hout⟩
  have hal:=A8l items p.us pr i hi
  have hal2:i * p.us.length≤8 * 100000:=Nat.mul_le_mul (by omega) hul
  have hsup:E2 t t':=hout.sup (hBi _ _ _)
  conv=>whnf
  cases hd:decide ((i:Int)<(pr.parts.length:Int))
  ·have:=of_decide_eq_false hd
   obtain rfl:i=pr.parts.length:=by omega
   obtain ⟨s1,hc1,hout2⟩:=hout
   generalize hA:A2L items p.us pr pr.parts.length=A at *
   have hAm:∀ x∈A,0≤x∧x.toNat<p.us.length:=fun x hx=>B2V (by rw [hA];exact hx)
   have hSl:(C4 A).length=A.length:=M2 A
   have hCl:=A3u (C4 A)
   have hCm:∀ k,k<(P8 (C4 A)).length→0≤gI (P8 (C4 A)) k∧(gI (P8 (C4 A)) k).toNat<p.us.length:=fun k hk=>hAm _ (A1Q.1 (B1y (A7 hk)))
   conv=>whnf
   refine call (A6V P7 (by omega) hout2) (fun v t2 hv=>?_)
   obtain ⟨rfl,hout3⟩:=hv
   have hsup2:E2 s1 t2:=hout3.sup P7
   have hB:U6 items p.us pr=if A2q p.us (P8 (C4 A))<pr.least then ([],0) else N2 pr p.us (L8 items p.us pr):=by unfold U6;rw [hA]
   -- what is behind the two,with the store as it is then
   have fin:∀ t3,E2 s1 t3→∀ K:KK,(∀ v,v=.tuple [B9 (N2 pr p.us (L8 items p.us pr)).1,eI (N2 pr p.us (L8 items p.us pr)).2]→K v t)→Q7 P 244 [B6 pr,B9 p.us,sv1] t3 K:=fun t3 h3 K hK=>by
    have hsh:A4 [B6 pr,B9 p.us,sv1] t3 [B6 pr,B9 p.us,A5 1 B2 (L8 items p.us pr)] t:=by
     refine A4.cons (A4.keep _ _) (A4.cons (A4.keep _ _) ?_)
     have e:A5 1 B2 (L8 items p.us pr)=.arr 1 pr.parts.length (fun k=>B2 ((L8 items p.us pr).getD k default)):=by unfold A5;rw [hpl]
     rw [e]
     exact (h3.shift _).trans hc1.shift
    refine F0 hsh (call (B3i pr p.us (L8 items p.us pr) hfit hright hk hbun hu.ok hpl hpm t) (fun v t4 hv=>?_))
    rw [hv.2];exact hK v hv.1
   have hpx:∀ t3,E2 s1 t3→Y5 bx items p s t3:=fun t3 h3=>h.more (hc1.sup.trans h3)
   conv=>whnf
   refine ⟨[2,5],[],[],.qui 0 (.qui 1 (.qui 4 (.two 2 5 (.qui 5 (.qui 3 (.qui 6 .done))) (.gen 2 (.qui 3 (.qui 6 .done)))))),by kernel_rfl,?_⟩
   obtain ⟨s2,hc2,hs2⟩:=hout3
   rcases hc2 with ⟨h0,rfl,rfl⟩ | ⟨h0,b2,g2,hb2,rfl,rfl,hg2⟩
   ·have hA0:A=[]:=List.eq_nil_of_length_eq_zero h0
    have hnet:A2q p.us (P8 (C4 A))=0:=by
     have:P8 (C4 A)=[]:=List.eq_nil_of_length_eq_zero (by omega)
     rw [this];rfl
    rw [hnet] at hB;conv=>whnf
    constructor
    all_goals conv=>whnf
    all_goals refine C1 (A9w _) ?_
    all_goals conv=>whnf
    all_goals refine ⟨_,A6y (B7c bx _),?_⟩
    all_goals conv=>whnf
    all_goals refine B5 (fun h1=>?_) (fun h1=>?_)<;>rw [h1]<;>simp only [decide_eq_true_eq,decide_eq_false_iff_not] at h1
    all_goals first
     | (rw [if_pos h1] at hB
        conv=>whnf
        exact ⟨.inr ⟨hB,rfl⟩,hc1.sup.trans hs2⟩)
     | (rw [if_neg h1] at hB
        obtain ⟨dv,gv,fx,hx,hx0,_,_⟩:=(hpx _ hs2).at
        conv=>whnf
        refine ⟨[6],[],[0,1,2,3,4,5,6,7,8,9,10],by kernel_rfl,?_⟩;conv=>whnf
        refine J7 hx hx0 ?_
        refine fin _ hs2 _ (fun v hv=>?_)
        subst hv;conv=>whnf
        exact ⟨.inl (by rw [hB];rfl),E2.refl _⟩)
   ·have hb2t:=hs2 b2 _ (A0 ..)
    have hC:=B1z b2 (C4 A) (by omega) t2 ⟨g2,by rw [hb2t,hSl],fun k hk=>hg2 k (by omega)⟩
    rw [hSl] at hC
    have hs3:∀ y,E2 s1 (upd t2 b2 y):=fun y=>hsup2.over hb2
    have hN:=fun t3 (h3:E2 s1 t3) (e3:t3=upd t2 b2 (A1j (A2N (C4 A))))=>B7d bx items p hu.ok (P8 (C4 A)) (by omega) hCm s t3 (hpx t3 h3) b2 (A2N (C4 A)).length (fun k=>eI (gI (A2N (C4 A)) k)) (by rw [A6A];omega) (by rw [e3,A0];rfl) (fun k hk=>by rw [B5j hk])
    conv=>whnf
    constructor
    all_goals conv=>whnf
    all_goals refine B6O hC ?_
    all_goals conv=>whnf
    all_goals refine ⟨_,A6y (hN _ (hs3 _) rfl),?_⟩
    all_goals conv=>whnf
    all_goals refine B5 (fun h1=>?_) (fun h1=>?_)<;>rw [h1]<;>simp only [decide_eq_true_eq,decide_eq_false_iff_not] at h1
    all_goals first
     | (rw [if_pos h1] at hB
        conv=>whnf
        exact ⟨.inr ⟨hB,rfl⟩,hc1.sup.trans (hs3 _)⟩)
     | (rw [if_neg h1] at hB
        obtain ⟨dv,gv,fx,hx,hx0,_,_⟩:=(hpx _ (hs3 (A1j (A2N (C4 A))))).at
        conv=>whnf
        refine ⟨[6],[],[0,1,2,3,4,5,6,7,8,9,10],by kernel_rfl,?_⟩;conv=>whnf
        refine J7 hx hx0 ?_
        refine fin _ (hs3 _) _ (fun v hv=>?_)
        subst hv;conv=>whnf
        exact ⟨.inl (by rw [hB];rfl),E2.refl _⟩)
  ·have hi':i<pr.parts.length:=by have:=of_decide_eq_true hd;omega
   have hq:=hsc (pr.parts.getD i default) (A7 hi')
   have hpk:(L8 items p.us pr).getD i default=F8 (pr.parts.getD i default).scope items p.us p.us.length:=E7 (fun x:A2D=>F8 x.scope items p.us p.us.length) pr.parts hi'
   have hls:=A6v items p.us pr hi'
   have hml:=A3F (pr.parts.getD i default).scope items p.us p.us.length
   conv=>whnf
   refine G9 ?_
   refine H9 (B3F bx items p (pr.parts.getD i default).scope hq.1 hq.2 hul hu.few hu.line s t' (h.more hsup)) ?_
   refine ROut.app (q:=r29) (hBi _ _ _) rfl rfl rfl rfl rfl (by simp only [hpk];rfl) (by show (i+1) * 24≤140737488355328;omega) hout (fun sv1' t2 hout2=>?_);conv=>whnf
   obtain ⟨s1,hc1,hin⟩:=hout2
   refine ROut.apps (q:=r3) (n:=(A2L items p.us pr i).length) (m:=(F8 (pr.parts.getD i default).scope items p.us p.us.length).length) P7 rfl rfl rfl rfl (A7X rfl _) (f:=fun k=>eI (gI (A2L items p.us pr (i+1)) k)) (fun j hj=>?_) (by show ((A2L items p.us pr i).length+(F8 (pr.parts.getD i default).scope items p.us p.us.length).length) * 8≤140737488355328;omega) (hin.congr fun k hk=>by rw [hls,V2 hk]) (fun sv2' t3 hout3=>?_)
   ·rw [hls]
    show eI (gI (F8 (pr.parts.getD i default).scope items p.us p.us.length) j)=eI (gI _ _)
    rw [B3w]
   conv=>whnf
   refine H4 ?_
   refine ⟨pr.parts.length - (i+1),by omega,i+1,sv1',sv2',by omega,rfl,by rw [B7 (by omega)],s1,hc1,?_⟩
   rw [hls,List.length_append,←hls];exact hout3
def A2z (items:List Ab.Item) (us:List A6) (pr:A8):List A6×Int:=if pr.kind=4 then U6 items us pr else Y2 items us pr
def A6d (items:List Ab.Item) (p:Y4) (pr:A8):Y4 :=
 if (A2z items p.us pr).2>0 then A0b ⟨(A2z items p.us pr).1,p.deals,p.groups⟩ pr (A2z items p.us pr).2 else p
theorem B6b {items:List Ab.Item} {us:List A6} (hu:A6a items us) {pr:A8} (hfit:I9 pr) (hright:I2 pr=true) (hk:pr.kind≠7):A2z items us pr=([],0)∨Y8 us (A2z items us pr).1 (A2z items us pr).2:=by
 have hok:=A4F hright
 unfold A2z
 split
 ·rename_i h4
  unfold U6
  split
  ·exact .inl rfl
  ·right
   have hpl:(L8 items us pr).length=pr.parts.length:=List.length_map ..
   exact A8o (hok.bun h4).1 hu.ok hpl fun k hk=>by
    have hm:=A7 (l:=L8 items us pr) hk
    obtain ⟨q,hq,he⟩:=List.mem_map.1 hm
    rw [show (L8 items us pr).getD k []=(L8 items us pr).getD k default from rfl,←he]
    exact A0a _ _ _
 ·rename_i h4
  unfold Y2
  split
  ·exact .inl rfl
  ·right
   split
   ·rename_i h3
    exact A8p (hok.buy h3) hu.ok (A0a _ _ _)
   ·rename_i h3
    exact A9u (hok.ask hfit (by have:=hok.kind;omega)) hu.ok (A0a _ _ _)
theorem B3d {items:List Ab.Item} {p:Y4} (hu:A6a items p.us) {pr:A8} (hfit:I9 pr) (hright:I2 pr=true) (hk:pr.kind≠7):∃ x,Y8 p.us (A6d items p pr).us x:=by
 unfold A6d
 split
 ·rename_i h0
  rcases B6b hu hfit hright hk with e | e
  ·rw [e] at h0;exact absurd h0 (by decide)
  ·exact ⟨_,e⟩
 ·exact ⟨0,Y8.refl hu.ok⟩
theorem B7U (bx:Nat) (items:List Ab.Item) (p:Y4) (pr:A8) (hfit:I9 pr) (hright:I2 pr=true) (hk:pr.kind≠7) (hu:A6a items p.us) (hd:p.deals.length≤1000) (hg:p.groups.length≤1000) (s t:St) (h:Y5 bx items p s t) :
  S P 80 [.optr 4 bx 0 0,B6 pr] t fun v t'=>v=.tuple []∧Y5 bx items (A6d items p pr) s t':=by
 have key:∀ K:KK,(∀ v,v=.tuple [B9 (A2z items p.us pr).1,eI (A2z items p.us pr).2]→K v t)→Q7 P (if pr.kind=4 then 152 else 151) [.optr 4 bx 0 0,B6 pr] t K:=fun K hK=>by
  unfold A2z at hK
  split
  ·rename_i h4
   rw [if_pos h4] at hK
   exact call (B1Y bx items p pr hfit hright h4 hu s t h) (fun v t' hv=>by rw [hv.2];exact hK v hv.1)
  ·rename_i h4
   rw [if_neg h4] at hK
   exact call (B3Y bx items p pr hfit hright ⟨h4,hk⟩ hu s t h) (fun v t' hv=>by rw [hv.2];exact hK v hv.1)
 obtain ⟨⟨dv,gv⟩,hbx,y,⟨f,rfl,hf⟩,hRD⟩:=h
 simp only at hf hRD
 have hA:A6d items p pr=if (A2z items p.us pr).2>0 then A0b ⟨(A2z items p.us pr).1,p.deals,p.groups⟩ pr (A2z items p.us pr).2 else p:=rfl
 have h0:Y5 bx items p s t:=⟨(dv,gv),hbx,_,⟨f,rfl,hf⟩,hRD⟩
 refine E3 [3] Tryz.func80 ?_
 refine B5 (fun h4=>?_) (fun h4=>?_)<;>rw [h4]<;>simp only [beq_iff_eq,beq_eq_false_iff_ne] at h4
 ·rw [if_pos h4] at key;conv=>whnf
  refine key _ (fun v hv=>?_)
  subst hv;conv=>whnf
  refine B5 (fun h5=>?_) (fun h5=>?_)<;>rw [h5]<;>simp only [decide_eq_true_eq,decide_eq_false_iff_not] at h5
  ·rw [if_pos h5] at hA
   rw [hA];conv=>whnf
   refine stW hRD.at hf ?_
   refine call (A9P bx items ⟨(A2z items p.us pr).1,p.deals,p.groups⟩ pr _ hd hg s _ (Y5.fin hbx hRD _ (by rw [B3];rfl))) (fun v t' hv=>?_)
   obtain ⟨rfl,h6⟩:=hv
   conv=>whnf
   exact ⟨rfl,h6⟩
  ·rw [if_neg h5] at hA
   rw [hA];conv=>whnf
   exact ⟨rfl,h0⟩
 ·rw [if_neg h4] at key;conv=>whnf
  refine key _ (fun v hv=>?_)
  subst hv;conv=>whnf
  refine B5 (fun h5=>?_) (fun h5=>?_)<;>rw [h5]<;>simp only [decide_eq_true_eq,decide_eq_false_iff_not] at h5
  ·rw [if_pos h5] at hA
   rw [hA];conv=>whnf
   refine stW hRD.at hf ?_
   refine call (A9P bx items ⟨(A2z items p.us pr).1,p.deals,p.groups⟩ pr _ hd hg s _ (Y5.fin hbx hRD _ (by rw [B3];rfl))) (fun v t' hv=>?_)
   obtain ⟨rfl,h6⟩:=hv
   conv=>whnf
   exact ⟨rfl,h6⟩
  ·rw [if_neg h5] at hA
   rw [hA];conv=>whnf
   exact ⟨rfl,h0⟩
def A6S (p:Y4) (pr:A8) (net ship:Int):Int×Y4 :=
 if net<pr.least then (ship,p) else (ship - L6 ship pr.rate,if L6 ship pr.rate>0 then A0b p pr (L6 ship pr.rate) else p)
theorem B0e (bx:Nat) (items:List Ab.Item) (p:Y4) (pr:A8) (net ship:Int) (h0:0≤ship) (h1:ship≤10000000000000) (hd:p.deals.length≤1000) (hg:p.groups.length≤1000) (s t:St) (h:Y5 bx items p s t) :
  S P 83 [.optr 4 bx 0 0,B6 pr,eI net,eI ship] t fun v t'=>v=eI (A6S p pr net ship).1∧Y5 bx items (A6S p pr net ship).2 s t':=by
 have hS:A6S p pr net ship=if net<pr.least then (ship,p) else (ship - L6 ship pr.rate,if L6 ship pr.rate>0 then A0b p pr (L6 ship pr.rate) else p):=rfl
 have hb:=R5 ship pr.rate
 have w:IntKind.i64.wrap (ship - L6 ship pr.rate)=ship - L6 ship pr.rate:=B0 (by omega) (by omega)
 refine E3 [5] Tryz.func83 ?_
 refine B5 (fun h2=>?_) (fun h2=>?_)<;>rw [h2]<;>simp only [decide_eq_true_eq,decide_eq_false_iff_not] at h2
 ·rw [if_pos h2] at hS
  rw [hS];conv=>whnf
  exact ⟨rfl,h⟩
 rw [if_neg h2] at hS
 rw [hS];conv=>whnf
 refine H9 (A9W ship pr.rate 1 t) ?_
 refine B5 (fun h3=>?_) (fun h3=>?_)<;>rw [h3]<;>simp only [decide_eq_true_eq,decide_eq_false_iff_not] at h3
 ·conv=>whnf
  refine call (A9P bx items p pr _ hd hg s t h) (fun v t' hv=>?_)
  obtain ⟨rfl,h4⟩:=hv
  conv=>whnf
  have h3':L6 ship pr.rate>0:=h3
  rw [if_pos h3']
  refine ⟨?_,h4⟩
  show AV.int .i64 (IntKind.i64.wrap (ship - L6 ship pr.rate))=_
  rw [w]
 ·conv=>whnf
  have h3':¬ L6 ship pr.rate>0:=h3
  rw [if_neg h3']
  refine ⟨?_,h⟩
  show AV.int .i64 (IntKind.i64.wrap (ship - L6 ship pr.rate))=_
  rw [w]
def A5c (s:Ab.Ship) (units net:Int):Int:=if units=0∨(s.free>0∧net≥s.free) then 0 else s.fee
theorem B8b (s:Ab.Ship) (units net:Int) (t:St):S P 81 [B6m s,eI units,eI net] t fun v t'=>v=eI (A5c s units net)∧t'=t:=by
 refine E3 [3] Tryz.func81 ?_
 refine B5 (fun h1=>?_) (fun h1=>?_)<;>rw [h1]<;>simp only [beq_iff_eq,beq_eq_false_iff_ne] at h1
 ·conv=>whnf
  exact ⟨by unfold A5c;rw [if_pos (.inl h1)];rfl,rfl⟩
 conv=>whnf
 refine B5 (fun h2=>?_) (fun h2=>?_)<;>rw [h2]<;>simp only [decide_eq_true_eq,decide_eq_false_iff_not] at h2
 ·conv=>whnf
  refine B5 (fun h3=>?_) (fun h3=>?_)<;>rw [h3]<;>simp only [decide_eq_true_eq,decide_eq_false_iff_not] at h3
  ·conv=>whnf
   exact ⟨by unfold A5c;rw [if_pos (.inr ⟨h2,h3⟩)];rfl,rfl⟩
  ·conv=>whnf
   exact ⟨by unfold A5c;rw [if_neg (by rintro (e | ⟨_,e⟩)<;>contradiction)];rfl,rfl⟩
 ·conv=>whnf
  exact ⟨by unfold A5c;rw [if_neg (by rintro (e | ⟨e,_⟩)<;>contradiction)];rfl,rfl⟩
theorem A8C (pr:A8) (t:St):S P 77 [B6 pr] t fun v t'=>v=.bool (pr.kind==7)∧t'=t:=by
 refine E3 [1] Tryz.func77 ?_
 exact ⟨rfl,rfl⟩
theorem B3K (pr:A8) (t:St):S P 79 [B6 pr,.fptr (.fn (.func 77) [] []) 0] t fun v t'=>v=.bool (!(pr.kind==7))∧t'=t:=by
 refine E3 [2] Tryz.func79 ?_
 refine H9 (A8C pr t) ?_
 exact ⟨rfl,rfl⟩
theorem A8S {R R':St→St→Prop} (hR:G0 R) (hm:∀ s t t',R s t→E2 t t'→R s t') (hR':G0 R') {f:FuncId} {args:List AV} {w:AV} {s t0 t:St} {q:Nat} {fl:Bool} {es:List QE} (h:R s t0) (hq:T5 t0 q fl es t)
  (hS:∀ u,R u t→S P f args t fun v t'=>v=w∧R' u t'):S P f args t fun v t'=>v=w∧∃ t0',R' s t0'∧T5 t0' q fl es t':=by
 obtain ⟨bo,hF,hn⟩:=hq.foot
 obtain ⟨y1,hy1⟩:=hF.some (.inl rfl)
 have hq0:=hn q (.inl rfl)
 have hsq:s q=none:=(hR.sup h).none hq0
 cases bo with
 | none =>
  have h1:R (upd s q y1) t:=hm _ _ _ (hR.begin (y:=y1) h hq0) (fun c x hc=>by
   by_cases e:c=q
   ·subst e;rw [A0] at hc;rw [hy1];exact hc
   ·rw [A3 e] at hc;exact hq.sup c x hc)
  refine (hS _ h1).mono fun v t' hv=>⟨hv.1,del t' q,hR'.forget hv.2 hsq,?_⟩
  have hF':QF q none fl es t':=hF.frame fun c hc=>by
   rcases hc with rfl | hc
   ·rw [hR'.sup hv.2 c y1 (A0 ..),hy1]
   ·cases hc
  exact hF'.qst (fun c x hc=>by
   by_cases e:c=q
   ·subst e;rw [Z6] at hc;cases hc
   ·rw [W0 e] at hc;exact hc) (fun c hc=>by
    rcases hc with rfl | hc
    ·exact Z6 ..
    ·cases hc)
 | some b =>
  obtain ⟨y2,hy2⟩:=hF.some (c:=b) (.inr rfl)
  have hb0:=hn b (.inr rfl)
  have hqb:q≠b:=by
   obtain ⟨sv,_,h3⟩:=hF.has
   rcases h3 with ⟨_,_,e⟩ | ⟨b',l,n,e,hne,_⟩
   ·cases e
   ·cases e;exact hne
  have hsb:s b=none:=(hR.sup h).none hb0
  have h1:R (upd (upd s b y2) q y1) t:=hm _ _ _ (hR.begin (y:=y1) (hR.begin (y:=y2) h hb0) (by rw [A3 hqb];exact hq0)) (fun c x hc=>by
   by_cases e:c=q
   ·subst e;rw [A0] at hc;rw [hy1];exact hc
   ·rw [A3 e] at hc
    by_cases e2:c=b
    ·subst e2;rw [A0] at hc;rw [hy2];exact hc
    ·rw [A3 e2] at hc;exact hq.sup c x hc)
  refine (hS _ h1).mono fun v t' hv=>⟨hv.1,del (del t' q) b,hR'.forget (hR'.forget hv.2 (by rw [A3 hqb];exact hsq)) hsb,?_⟩
  have hs':=hR'.sup hv.2
  have hF':QF q (some b) fl es t':=hF.frame fun c hc=>by
   rcases hc with rfl | hc
   ·rw [hs' c y1 (A0 ..),hy1]
   ·cases hc
    rw [hs' b y2 (by rw [A3 hqb.symm,A0]),hy2]
  exact hF'.qst (fun c x hc=>by
   by_cases e:c=b
   ·subst e;rw [Z6] at hc;cases hc
   ·rw [W0 e] at hc
    by_cases e2:c=q
    ·subst e2;rw [Z6] at hc;cases hc
    ·rw [W0 e2] at hc;exact hc) (fun c hc=>by
    rcases hc with rfl | hc
    ·rw [W0 hqb];exact Z6 ..
    ·cases hc;exact Z6 ..)
theorem A7Z (l:List D8) (hl:l.length≤100000) (v:D8) (st:St) (b:Nat) (f:Nat→AV) (hb:st b=some ⟨9,1,l.length,f⟩) (hf:∀ k,k<l.length→f k=A5b l k) :
  S P 238 [.own 1 b 0 l.length,eS v] st fun r st'=>r=eI (idx (fun y:D8=>v.toList==y.toList) l)∧st'=st:=by
 refine E3 [] Tryz.func238 ?_
 refine ⟨[0,1,7,8],fun m vs st'=>∃ i:Nat,i≤l.length∧(∀ k,k<i→(v.toList==(l.getD k default).toList)=false)∧m=l.length - i∧vs=[.own 1 b 0 l.length,eS v,eI l.length,eI i]∧st'=st,?_,?_⟩
 ·conv=>whnf
  exact ⟨_,0,Nat.zero_le _,fun k hk=>absurd hk (by omega),rfl,rfl,rfl⟩
 ·rintro m vs st' ⟨i,hi,hok,rfl,rfl,rfl⟩
  conv=>whnf
  cases h:decide ((i:Int)<(l.length:Int))
  ·have:=of_decide_eq_false h
   conv=>whnf
   refine ⟨?_,rfl⟩
   rw [J0 (p:=fun y:D8=>v.toList==y.toList) fun k hk=>hok k (by omega)];rfl
  ·have hi':i<l.length:=by have:=of_decide_eq_true h;omega
   conv=>whnf
   refine G9 ?_
   refine ldV hb rfl (by omega) (v:=eS (l.getD i default)) (by rw [show 0+(i:Int).toNat=i by omega];exact hf i hi') ?_;conv=>whnf
   cases hp:(v.toList==(l.getD i default).toList)
   ·conv=>whnf
    refine H4 ?_
    refine ⟨l.length - (i+1),by omega,i+1,by omega,fun k hk=>?_,rfl,by rw [B7 (by omega)],rfl⟩
    rcases Nat.lt_succ_iff_lt_or_eq.1 hk with h' | h'
    ·exact hok k h'
    ·rw [h'];exact hp
   ·conv=>whnf
    refine ⟨?_,rfl⟩
    rw [R6 (p:=fun y:D8=>v.toList==y.toList) hi' hok hp];rfl
theorem B2t (l:List D8) (hl:l.length≤100000) (v:D8) (st:St) (b:Nat) (f:Nat→AV) (hb:st b=some ⟨9,1,l.length,f⟩) (hf:∀ k,k<l.length→f k=A5b l k) :
  S P 150 [.own 1 b 0 l.length,eS v] st fun r st'=>r=.bool (inB l v)∧st'=st:=by
 refine E3 [] Tryz.func150 ?_
 refine H9 (A7Z l hl v st b f hb hf) ?_
 refine ⟨?_,rfl⟩
 unfold inB
 rw [←S3];rfl
theorem A7Y (v:D8) (st:St):S P 238 [.emp,eS v] st fun r st'=>r=eI (-1)∧st'=st:=by
 refine E3 [] Tryz.func238 ?_
 refine A6g [0,1,7,8] ?_;conv=>whnf
 intro I;conv=>whnf
 exact ⟨rfl,rfl⟩
theorem B2s (v:D8) (st:St):S P 150 [.emp,eS v] st fun r st'=>r=.bool false∧st'=st:=by
 refine E3 [] Tryz.func150 ?_
 refine H9 (A7Y v st) ?_
 exact ⟨rfl,rfl⟩
theorem Y5.groups {bx:Nat} {items:List Ab.Item} {p:Y4} {s t:St} (h:Y5 bx items p s t) (hg:p.groups.length≤1000):∃ dv gv f,t bx=some ⟨147,4,1,f⟩∧f 0=.agg [A5 4 C6 items,B9 p.us,dv,gv]∧(gv=.emp∨∃ b,gv=.own 1 b 0 p.groups.length) ∧
  ∀ (g:D8),S P 150 [gv,eS g] t fun r t'=>r=.bool (inB p.groups g)∧t'=t:=by
 obtain ⟨⟨dv,gv⟩,h⟩:=h
 obtain ⟨y,⟨f,rfl,hf⟩,hy⟩:=S4.at (A1C _ _ _ _) h
 obtain ⟨_,_,_,hd⟩:=h
 obtain ⟨s0,hc,hg0⟩:=hd
 refine ⟨dv,gv,f,hy,hf,hg0.head,fun g=>?_⟩
 obtain ⟨s1,hc1,hs1⟩:=hg0
 rcases hc1 with ⟨h0,h1,rfl⟩ | ⟨h0,b,g0,hb,h1,rfl,hgg⟩
 ·have:p.groups=[]:=List.eq_nil_of_length_eq_zero h0
  subst h1
  rw [this]
  exact B2s g t
 ·subst h1
  exact B2t p.groups (by omega) g t b g0 (hs1 b _ (A0 ..)) hgg
end Go.Proofs.YtbajhapmlfbelaaGreat
