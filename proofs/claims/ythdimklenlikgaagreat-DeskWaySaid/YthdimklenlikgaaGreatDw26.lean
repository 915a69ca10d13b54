/- Part 26 of the proof: contracts of the functions that the law reaches -/
import Derived.Test.YthdimklenlikgaaGreatDw25
set_option maxRecDepth 100000
set_option linter.unusedVariables false
set_option linter.unusedSimpArgs false
namespace Go.Proofs.YthdimklenlikgaaGreat
open Go Go.Ab
attribute [local irreducible] upd del
abbrev RL (ls:List Int) (svl:AV):St→St→Prop:=fun s t=>ROut F2 2 1 (fun k=>eI (gI ls k)) ls.length s svl t
abbrev RA (all ls:List Int) (sva svl:AV):St→St→Prop:=fun s t=>ROut (RL ls svl) 3 1 (fun k=>eI (gI all k)) all.length s sva t
theorem B1W (ls:List Int) (svl:AV):G7 (RL ls svl):=M9 C5 _ _ _ _ _
theorem B6D (all ls:List Int) (sva svl:AV):G7 (RA all ls sva svl):=M9 (B1W ls svl) _ _ _ _ _
theorem RA.appA {all ls:List Int} {sva svl:AV} {s t:St} {y:Int} {x:AV} {k:KK} {g:Nat→AV} (h:RA all ls sva svl s t) (hs:Y3 1 t x=some (1,g)) (hg:g 0=eI y) (hb:(all.length+1) * 8≤140737488355328)
  (hk:∀ sva' t',RA (all++[y]) ls sva' svl s t'→k sva' t'):A5j T 29 sva x t k :=
 ROut.app (q:=r3) (f:=fun k=>eI (gI (all++[y]) k)) (B1W ls svl) rfl rfl rfl rfl hs (by rw [hg];show eI y=eI (gI _ _);rw [A6W]) hb (ROut.congr h fun k hk=>by show eI _=eI _;rw [K0 hk]) (fun sv' t' h'=>hk sv' t' (by
  show ROut _ _ _ _ (all++[y]).length _ _ _
  rw [List.length_append];exact h'))
theorem RA.appL {all ls:List Int} {sva svl:AV} {s t:St} {y:Int} {x:AV} {k:KK} {g:Nat→AV} (h:RA all ls sva svl s t) (hs:Y3 1 t x=some (1,g)) (hg:g 0=eI y) (hb:(ls.length+1) * 8≤140737488355328)
  (hk:∀ svl' t',RA all (ls++[y]) sva svl' s t'→k svl' t'):A5j T 41 svl x t k:=by
 obtain ⟨s0,hc,h⟩:=h
 refine ROut.app (q:=r2) (f:=fun k=>eI (gI (ls++[y]) k)) C5 rfl rfl rfl rfl hs (by rw [hg];show eI y=eI (gI _ _);rw [A6W]) hb (ROut.congr h fun k hk=>by show eI _=eI _;rw [K0 hk]) (fun sv' t' h'=>hk sv' t' ⟨s0,hc,?_⟩)
 show ROut _ _ _ _ (ls++[y]).length _ _ _
 rw [List.length_append];exact h'
theorem RA.start (s:St):RA [] [] .emp .emp s s:=ROut.start (ROut.start (F2.refl s) _ _ _) _ _ _
theorem RA.shift {all ls:List Int} {sva svl:AV} {s t:St} (h:RA all ls sva svl s t) (a b:AV):∃ t2,B2 [a,sva,svl,b] t [a,B3 all,B3 ls,b] t2∧F2 s t2:=by
 obtain ⟨t1,h1,h2⟩:=ROut.shift (B1W ls svl) h
 obtain ⟨t2,h3,h4⟩:=ROut.shift C5 h2
 exact ⟨t2,B2.cons (B2.keep _ _) (B2.cons h1 (B2.cons h3 (B2.keep _ _))),h4⟩
def A3a (u:List Bool) (l:List Int):List Bool:=l.foldl (fun u x=>u.set x.toNat true) u
theorem B6b (u:List Bool) (l:List Int):(A3a u l).length=u.length:=by
 unfold A3a
 induction l generalizing u with
 | nil=>rfl
 | cons x l ih=>rw [List.foldl_cons,ih,List.length_set]
theorem B6a {u:List Bool} {l:List Int} (hl:∀ x∈l,x.toNat<u.length) (j:Nat):(A3a u l).getD j default=true↔u.getD j default=true∨j∈l.map Int.toNat:=by
 unfold A3a
 induction l generalizing u with
 | nil=>simp
 | cons x l ih =>
  rw [List.foldl_cons,ih (fun y hy=>by rw [List.length_set];exact hl y (List.mem_cons_of_mem _ hy)),A5c (hl x (List.mem_cons_self ..)),List.map_cons,List.mem_cons]
  by_cases h:j=x.toNat
  ·simp [h]
  ·rw [if_neg h];simp [h]
theorem A8s {us:List B5} {l offs l' offs':List Int} (h:l.length=offs.length):∀ k,k≤offs'.length→k≤l'.length→D2 us (l++l') (offs++offs') (offs.length+k)=D2 (D2 us l offs offs.length) l' offs' k
 | 0,_,_=>by
  rw [Nat.add_zero]
  have:∀ n,n≤offs.length→D2 us (l++l') (offs++offs') n=D2 us l offs n:=fun n=>by
   induction n with
   | zero=>intro _;rfl
   | succ n ih =>
    intro hn
    unfold D2
    rw [ih (by omega),K0 (by omega),K0 (by omega)]
  exact this _ (Nat.le_refl _)
 | k+1,h1,h2=>by
  have ih:=A8s (us:=us) (l':=l') (offs':=offs') h k (by omega) (by omega)
  have e:∀ (a b:List Int),a.length=offs.length→gI (a++b) (offs.length+k)=gI b k:=fun a b ha=>by
   unfold gI
   rw [List.getD_eq_getElem?_getD,List.getD_eq_getElem?_getD,List.getElem?_append_right (by omega),ha,Nat.add_sub_cancel_left]
  rw [←Nat.add_assoc]
  unfold D2
  rw [ih,e l l' h,e offs offs' rfl]
structure C1z (p:B1) (us:List B5) (E:Nat→List QE) (D:Nat) (b:BSt) (ls:List Int):Prop where
 ok:BOk p us D b
 pre:A3g E p.parts.length ⟨b.ms.used,b.ms.es,[]⟩
 len:ls.length=b.taken.length
 out:b.out=D2 us b.taken ls ls.length
 sum:A6 ls=b.all
 pos:b.taken=[]∨0<b.all
 bnd:∀ k,k<ls.length→0≤gI ls k∧gI ls k≤(gU us (gI b.taken k).toNat).net
 nd:(b.taken.map Int.toNat).Nodup
 used:∀ x∈b.taken,b.ms.used.getD x.toNat default=true
theorem C1z.step {p:B1} (hp:A3e p) {us:List B5} (hu:E5 us) {E:Nat→List QE} {D:Nat} {b:BSt} {ls:List Int} (h:C1z p us E D b ls) {s:MSt} (hs:I7 p.parts p.parts.length ⟨b.ms.used,b.ms.es,[]⟩=some s) (hc:G8 us s.l>p.amount) :
  E6 us (C2 s.l)=H6 b.out (C2 s.l)∧C1z p us E D ⟨A2s b.out (C2 s.l) (G8 us s.l - p.amount),s,b.taken++C2 s.l,b.all+(G8 us s.l - p.amount)⟩ (ls++D9 (G8 us s.l - p.amount) (E6 us (C2 s.l))):=by
 obtain ⟨k1,k2,k3⟩:=h.ok.step hp hu hs hc
 have hok0:MOk us p.parts.length ⟨b.ms.used,b.ms.es,[]⟩:=⟨h.ok.ok.len,h.ok.ok.rng,h.ok.ok.srt,fun x hx=>by simp at hx⟩
 have hok:=MOk.parts hok0 (Nat.le_refl _) hs
 have htr:=U2.parts (U2.start b.ms.used b.ms.es) hok0 (Nat.le_refl _) hs
 have hpre:=h.pre.parts hok0 (Nat.le_refl _) hs
 have hN:E6 us (C2 s.l)=H6 b.out (C2 s.l):=by
  unfold E6 H6
  exact List.map_congr_left fun x hx=>by rw [h.ok.same _ (htr.free x (R1.1 hx))]
 have hW:=k1.weights
 rw [←hN] at hW
 obtain ⟨a1,a2,a3⟩:=X7 hW
 have hle:=fun {k} (hk:k<(E6 us (C2 s.l)).length)=>A6k hW (by have:=k1.le;rw [←hN] at this;exact this) hk
 have hnl:=A3P us (C2 s.l)
 have hlf:A2s b.out (C2 s.l) (G8 us s.l - p.amount)=D2 b.out (C2 s.l) (D9 (G8 us s.l - p.amount) (E6 us (C2 s.l))) (D9 (G8 us s.l - p.amount) (E6 us (C2 s.l))).length:=by
  unfold A2s;rw [←hN,a2,hnl]
 have hlen:=h.len
 generalize D9 (G8 us s.l - p.amount) (E6 us (C2 s.l))=X at *
 refine ⟨hN,⟨k2,hpre,?_,?_,?_,?_,?_,?_,?_⟩⟩
 ·show (ls++X).length=(b.taken++C2 s.l).length
  rw [List.length_append,List.length_append];omega
 ·show A2s _ _ _=D2 us (b.taken++C2 s.l) (ls++X) (ls++X).length
  rw [hlf,h.out,List.length_append,A8s h.len.symm X.length (Nat.le_refl _) (by omega)]
 ·show A6 (ls++X)=_
  rw [G1,h.sum,a1]
 ·refine .inr ?_
  show 0<b.all+(G8 us s.l - p.amount)
  have:=h.ok.off.pos
  omega
 ·intro k hk
  show 0≤gI (ls++X) k∧gI (ls++X) k≤(gU us (gI (b.taken++C2 s.l) k).toNat).net
  by_cases hkl:k<ls.length
  ·rw [K0 hkl,K0 (by omega)];exact h.bnd k hkl
  ·have e:∀ (a b:List Int),a.length=ls.length→gI (a++b) k=gI b (k - ls.length):=fun a b ha=>by
    unfold gI
    rw [List.getD_eq_getElem?_getD,List.getD_eq_getElem?_getD,List.getElem?_append_right (by omega),ha]
   rw [List.length_append] at hk
   rw [e ls X rfl,e b.taken _ hlen.symm]
   refine ⟨a3 _ (B4 (by omega)),?_⟩
   have h9:=hle (k:=k - ls.length) (by omega)
   rw [show gI (E6 us (C2 s.l)) (k - ls.length)=(gU us (gI (C2 s.l) (k - ls.length)).toNat).net from D8 (fun i:Int=>(gU us i.toNat).net) _ (by omega)] at h9
   exact h9
 ·show ((b.taken++C2 s.l).map Int.toNat).Nodup
  rw [List.map_append]
  refine List.nodup_append.2 ⟨h.nd,((U8 s.l).map Int.toNat).nodup_iff.2 htr.nd,fun x hx y hy e=>?_⟩
  subst e
  obtain ⟨u,hu1,rfl⟩:=List.mem_map.1 hx
  obtain ⟨w,hw1,hw2⟩:=List.mem_map.1 hy
  have f1:=h.used u hu1
  have f2:=htr.free w (R1.1 hw1)
  rw [hw2,f1] at f2;cases f2
 ·intro x hx
  show s.used.getD x.toNat default=true
  rw [htr.used]
  rcases List.mem_append.1 hx with hx | hx
  ·exact .inl (h.used x hx)
  ·exact .inr (List.mem_map_of_mem (R1.1 hx))
set_option maxHeartbeats 1000000 in
theorem B8r (p:B1) (us:List B5) (parts:List (List Int)) (hps:A2E p) (hright:H4 p=true) (hk:p.kind=4) (hp:A3e p) (hu:E5 us) (hl:parts.length=p.parts.length) (hm:∀ x∈parts,K5 us x) (st:St) :
  S P 172 [B8 p,C6 us,A7 1 B3 parts] st fun v st'=>v=.tuple [C6 (O7 p us parts).1,eI (O7 p us parts).2]∧st'=st:=by
 have hul:=hu.len
 have hn1:=hp.n1
 have hn8:=hp.n8
 have ha:=hp.amt
 have hme:∀ k,k<parts.length→K5 us (parts.getD k default):=fun k hk=>hm _ (B4 hk)
 have hst0:=A4C hu hl (fun k hk=>hme k hk)
 have hD:tot p.parts.length (F3 us parts).ms.es≤800000:=by
  have:=C1f (n:=p.parts.length) (B:=100000) (es:=(F3 us parts).ms.es) (fun i hi=>by
   show (E2 us (parts.getD i [])).length≤100000
   rw [A1g]
   exact Nat.le_trans (hme i (by omega)).len hul)
  have h8:p.parts.length * 100000≤8 * 100000:=Nat.mul_le_mul_right _ hn8
  omega
 refine A2F ?_
 refine A5 [3] B7 mixed Tryz.func172 (by rfl) rfl rfl rfl ?_;conv=>whnf
 refine H7.apps (q:=B8q) (f:=fun k=>V6 (gU us k)) rfl rfl rfl rfl (A6r _ _ _ _) (fun i hi=>by rw [Nat.zero_add]) (by show (0+us.length) * 24≤_;omega) (H7.start _ _ _ st) (fun svS st1 hcS=>?_)
 have hsupS:=hcS.sup
 clear hcS
 conv=>whnf
 refine A4 (A3U p hps hright _) ?_;conv=>whnf
 rw [show (p.kind != 4)=false from by rw [hk];rfl];conv=>whnf
 rw [show ((parts.length:Int) != (p.parts.length:Int))=false from by rw [hl];simp];conv=>whnf
 refine lp parts.length [1,2,3,8,9,10] (fun i vs s=>∃ sv,vs=[C6 us,A7 1 B3 parts,.fptr (B8 p) 0,svS,sv,eI i]∧G0 29 1 B3 ((parts.take i).map fun m=>(E2 us m).map (·.2)) st1 sv s) ?_ ?_
 ·conv=>whnf
  exact ⟨.emp,rfl,G0.start _ _ _ _⟩
 ·rintro i vs s hi ⟨sv,rfl,hc⟩
  conv=>whnf
  cases hd:decide ((i:Int)<(parts.length:Int))
  case true =>
   have hi':=F7 hd
   have hmi:K5 us (parts.getD (i:Int).toNat default):=by rw [Int.toNat_natCast];exact hme i hi'
   conv=>whnf
   refine ⟨rfl,⟨by omega,by omega⟩,?_⟩;conv=>whnf
   refine A4 (B5R us _ hu hmi _) ?_;conv=>whnf
   refine ⟨rfl,⟨by omega,by omega⟩,?_⟩;conv=>whnf
   refine A4 (B7e us _ hu hmi _) ?_;conv=>whnf
   refine G0.app (q:=r29) (y:=(E2 us (parts.getD (i:Int).toNat default)).map (·.2)) rfl rfl rfl rfl rfl rfl (by show (_+1) * 24≤140737488355328;rw [List.length_map,List.length_take];omega) hc (fun sv' s' hc'=>?_);conv=>whnf
   refine ⟨rfl,?_⟩;conv=>whnf
   exact nx hi' ⟨sv',by rw [C0 (by omega)],by rw [A2B hi'];exact hc'⟩
  obtain rfl:=D1 hd hi
  rw [List.take_length] at hc
  have hLl:(parts.map fun m=>(E2 us m).map (·.2)).length=parts.length:=List.length_map ..
  have hLg:∀ k,k<parts.length→(parts.map fun m=>(E2 us m).map (·.2)).getD k default=(E2 us (parts.getD k default)).map (·.2):=fun k hk=>D8 (fun m=>(E2 us m).map (·.2)) parts hk
  generalize (parts.map fun m=>(E2 us m).map (·.2))=L at *
  rcases hc with ⟨h0,_⟩ | ⟨h0,bl,gl,hbl,rfl,rfl,hgl⟩
  ·omega
  conv=>whnf
  refine mkO rfl rfl rfl (by show 1 * us.length≤_;omega) (by omega) (by rfl) (fun bu hbu=>?_)
  have hnlu:bl≠bu:=fun e=>by subst e;rw [A0] at hbu;cases hbu
  have hblS:(upd st1 bl ⟨29,1,L.length,gl⟩) bl=some ⟨29,1,L.length,gl⟩:=A0 ..
  have hsup2:F2 st (upd st1 bl ⟨29,1,L.length,gl⟩):=hsupS.upd hbl
  generalize upd st1 bl ⟨29,1,L.length,gl⟩=st2 at *
  conv=>whnf
  have hwb:∀ Y:Q5,(upd st2 bu Y) bl=some ⟨29,1,L.length,gl⟩:=fun Y=>by rw [A8 hnlu];exact hblS
  refine ⟨[1,3,9,11,12,13],fun m vs s=>∃ (b:BSt) (ls:List Int) (sva svl:AV) (gu:Nat→AV) (f:Nat),m=tot p.parts.length b.ms.es∧vs=[C6 us,.fptr (B8 p) 0,.own 1 bl 0 L.length,.own 1 bu 0 us.length,sva,svl] ∧
   C1z p us (fun k=>E2 us (parts.getD k default)) (tot p.parts.length (F3 us parts).ms.es) b ls∧(tot p.parts.length b.ms.es<f∧A2p p us (tot p.parts.length (F3 us parts).ms.es+1) (F3 us parts)=A2p p us f b) ∧
   RA b.taken ls sva svl (upd st2 bu ⟨4,1,us.length,gu⟩) s∧∀ k,k<us.length→gu k=eB (b.ms.used.getD k default),?_,?_⟩
  ·conv=>whnf
   refine ⟨_,F3 us parts,[],.emp,.emp,_,_,rfl,rfl,?_,⟨Nat.lt_succ_self _,rfl⟩,RA.start _,fun k hk=>?_⟩
   ·refine ⟨hst0,fun k hk=>⟨[],rfl,fun e he=>by cases he⟩,rfl,rfl,rfl,.inl rfl,fun k hk=>absurd hk (by simp),List.nodup_nil,fun x hx=>by simp [F3] at hx⟩
   ·show eB false=eB ((List.replicate us.length false).getD k default)
    simp [List.getD_eq_getElem?_getD,hk]
  ·rintro m vs s ⟨b,ls,sva,svl,gu,f,rfl,rfl,hI,⟨hf1,hF⟩,hR,hgu⟩
   have hok0:MOk us p.parts.length ⟨b.ms.used,b.ms.es,[]⟩:=⟨hI.ok.ok.len,hI.ok.ok.rng,hI.ok.ok.srt,fun x hx=>by simp at hx⟩
   have hBA:=B6D b.taken ls sva svl
   have hsu:=hBA.sup hR
   have hsu1:=hsu bu _ (A0 ..)
   have hsl1:=hsu bl _ (hwb _)
   have hbl2:=hI.ok.len
   obtain ⟨f,rfl⟩:∃ g,f=g+1:=⟨f - 1,by omega⟩
   conv=>whnf
   refine A4 (C4r p hp us hul (fun k=>E2 us (parts.getD k default)) L (by omega) (fun k hk=>hLg k (by omega)) (fun k hk=>⟨by show (E2 _ _).length≤_;rw [A1g];exact Nat.le_trans (hme k (by omega)).len hul,fun e he=>A5u (hme k (by omega)).rng he⟩) ⟨b.ms.used,b.ms.es,[]⟩ rfl hok0 hI.pre bu gu s bl gl hsl1 hgl hsu1 hgu) ?_
   have fin:A1r p us b=none→∀ t,RA b.taken ls sva svl (upd st2 bu ⟨4,1,us.length,gu⟩) t→∃ t2,B2 [C6 us,sva,svl,eB p.closes] t [C6 us,B3 b.taken,B3 ls,eB p.closes] t2∧F2 st t2 ∧
     S P 254 [C6 us,B3 b.taken,B3 ls,eB p.closes] t2 fun v st'=>v=.tuple [C6 (O7 p us parts).1,eI (O7 p us parts).2]∧st'=t2:=fun hno t ht=>by
    obtain ⟨t2,h1,h2⟩:=ht.shift (C6 us) (eB p.closes)
    have hPl:W6 us b.taken:=B1v hI.ok.mem hI.nd
    have hout:A2p p us (tot p.parts.length (F3 us parts).ms.es+1) (F3 us parts)=b:=by
     rw [hF];unfold A2p;rw [hno]
    have h0s:∀ x∈ls,0≤x:=fun x hx=>by obtain ⟨k,hk,rfl⟩:=F4 hx;exact (hI.bnd k hk).1
    have hE:A1M us b.taken ls p.closes=O7 p us parts:=by
     unfold O7 A1M
     simp only
     rw [hout,←hI.sum,hI.out]
     by_cases hz:A6 ls=0
     ·have ht0:b.taken=[]:=by
       rcases hI.pos with e | e
       ·exact e
       ·rw [←hI.sum] at e;omega
      rw [if_pos hz,A2c (A2R h0s hz) _ (Nat.le_refl _),ht0,hz]
      show (us,(0:Int))=(if p.closes=true then us else us,0)
      split<;>rfl
     ·rw [if_neg hz]
    have hsum:A6 ls≤10000000000000:=by
     have h5:=hI.ok.off.sum
     have:=hu.sum
     have:=C7 (hI.ok.off.ok hu).nets0
     rw [hI.sum];omega
    have hlen:=hI.len
    have htl:b.taken.length≤1000000:=by have:=hI.ok.len;omega
    refine ⟨t2,h1,(hsup2.upd hbu).trans h2,?_⟩
    rw [←hE]
    exact B2M us b.taken ls p.closes hu hPl htl (by omega) hI.bnd (by omega) t2
   cases hs:I7 p.parts p.parts.length ⟨b.ms.used,b.ms.es,[]⟩ with
   | none =>
    have hone:A7P p ⟨b.ms.used,b.ms.es,[]⟩=[]:=by unfold A7P;rw [hs]
    obtain ⟨t2,g1,g2,g3⟩:=fin (by unfold A1r;rw [hs]) s hR
    rw [hone];conv=>whnf
    refine A4 (A5B us [] (by simp) (fun k hk=>absurd hk (by simp)) _) ?_;conv=>whnf
    refine A4 (B0f [] (by simp) (fun x hx=>by cases hx) (by decide) _) ?_;conv=>whnf
    refine I5 g1 (A4 g3 ?_);conv=>whnf
    exact ⟨rfl,g2⟩
   | some s1 =>
    have hok:=MOk.parts hok0 (Nat.le_refl _) hs
    have htr:=U2.parts (U2.start b.ms.used b.ms.es) hok0 (Nat.le_refl _) hs
    have hlen1:=A1k hp (Nat.le_refl _) hs
    have hpos:=A4U hp hs
    simp only [List.length_nil] at hlen1 hpos
    have hone:A7P p ⟨b.ms.used,b.ms.es,[]⟩=C2 s1.l:=by unfold A7P;rw [hs]
    have hcost:A6 (E6 us (C2 s1.l))=G8 us s1.l:=A5G ((U8 s1.l).map fun i:Int=>(gU us i.toNat).net)
    have hcb:=A0r hu s1.l hok.mem
    have hSl:(C2 s1.l).length=s1.l.length:=Q1 _
    have hSr:∀ k,k<(C2 s1.l).length→0≤gI (C2 s1.l) k∧(gI (C2 s1.l) k).toNat<us.length:=fun k hk=>hok.mem _ (R1.1 (B4 hk))
    have hnl:=A3P us (C2 s1.l)
    have hn0:∀ x∈E6 us (C2 s1.l),0≤x:=fun x hx=>by obtain ⟨i,hi,rfl⟩:=List.mem_map.1 hx;exact hu.at0 _
    rw [hone];conv=>whnf
    refine A4 (A5B us (C2 s1.l) (by omega) hSr _) ?_;conv=>whnf
    refine A4 (B0f _ (by omega) hn0 (by rw [hcost];omega) _) ?_
    rw [hcost];conv=>whnf
    rw [show (((C2 s1.l).length:Int)==0)=false from beq_false_of_ne (by omega)];conv=>whnf
    refine C3 (fun hc=>?_) (fun hc=>?_)<;>rw [hc]
    ·have hc':=of_decide_eq_true hc
     obtain ⟨t2,g1,g2,g3⟩:=fin (by unfold A1r;rw [hs];simp only;rw [if_neg (by omega)]) s hR
     conv=>whnf
     refine I5 g1 (A4 g3 ?_);conv=>whnf
     exact ⟨rfl,g2⟩
    ·have hc':G8 us s1.l>p.amount:=by have:=of_decide_eq_false hc;omega
     obtain ⟨hN,hI2⟩:=hI.step hp hu hs hc'
     obtain ⟨k1,k2,k3⟩:=hI.ok.step hp hu hs hc'
     have hW:=k1.weights
     rw [←hN] at hW
     have hXl:=(X7 hW).2.1
     have hstep:A2p p us (f+1) b=A2p p us f ⟨A2s b.out (C2 s1.l) (G8 us s1.l - p.amount),s1,b.taken++C2 s1.l,b.all+(G8 us s1.l - p.amount)⟩:=by
      conv=>lhs;unfold A2p A1r
      rw [hs];simp only;rw [if_pos hc']
     have w1:IntKind.i64.wrap (G8 us s1.l - p.amount)=G8 us s1.l - p.amount:=A9 (by omega) (by omega)
     have hkl:=k2.len
     simp only at hkl k3
     rw [List.length_append] at hkl
     have hll:=hI.len
     conv=>whnf
     refine ⟨[],[],List.range 13,by kernel_rfl,?_⟩;conv=>whnf
     refine ⟨_,C9 (A5B us (C2 s1.l) (by omega) hSr _),?_⟩;conv=>whnf
     rw [w1]
     refine ⟨_,C9 (B0c _ (E6 us (C2 s1.l)) hW _),?_⟩
     generalize D9 (G8 us s1.l - p.amount) (E6 us (C2 s1.l))=X at *
     conv=>whnf
     refine lp (C2 s1.l).length [1,3,9,11,12,13,14,16,18] (fun i vs s=>∃ (sva svl:AV) (g:Nat→AV),vs=[C6 us,.fptr (B8 p) 0,.own 1 bl 0 L.length,.own 1 bu 0 us.length,sva,svl,B3 (C2 s1.l),B3 X,eI i] ∧
      RA (b.taken++(C2 s1.l).take i) (ls++X.take i) sva svl (upd st2 bu ⟨4,1,us.length,g⟩) s∧∀ k,k<us.length→g k=eB ((A3a b.ms.used ((C2 s1.l).take i)).getD k default)) ?_ ?_
     ·conv=>whnf
      exact ⟨sva,svl,gu,rfl,by rw [List.take_zero,List.take_zero,List.append_nil,List.append_nil];exact hR,hgu⟩
     ·clear hR hgu fin hsu hsu1 hsl1 hBA
      rintro i vs s hi ⟨sva,svl,g,rfl,hR,hg⟩
      have hBA:=B6D (b.taken++(C2 s1.l).take i) (ls++X.take i) sva svl
      conv=>whnf
      cases hd:decide ((i:Int)<((C2 s1.l).length:Int))
      ·obtain rfl:=D1 hd hi
       rw [List.take_length] at hR hg
       rw [List.take_of_length_le (show X.length≤(C2 s1.l).length by omega)] at hR;conv=>whnf
       refine ⟨rfl,?_⟩;conv=>whnf
       refine ⟨tot p.parts.length s1.es,k3,_,_,sva,svl,g,f,rfl,rfl,hI2,⟨by show tot p.parts.length s1.es<f;omega,by rw [←hstep];exact hF⟩,hR,fun k hk=>?_⟩
       rw [hg k hk]
       congr 1
       show (A3a b.ms.used (C2 s1.l)).getD k default=s1.used.getD k default
       rw [←Bool.coe_iff_coe,B6a (fun x hx=>by rw [hI.ok.ok.len];exact (hok.mem x (R1.1 hx)).2),htr.used]
       constructor
       ·rintro (h | h)
        ·exact .inl h
        ·obtain ⟨y,hy,rfl⟩:=List.mem_map.1 h;exact .inr (List.mem_map_of_mem (R1.1 hy))
       ·rintro (h | h)
        ·exact .inl h
        ·obtain ⟨y,hy,rfl⟩:=List.mem_map.1 h;exact .inr (List.mem_map_of_mem (R1.2 hy))
      ·have hi':=F7 hd
       have hr:=hSr i hi'
       have hg2:=hBA.sup hR bu _ (A0 ..)
       have tk:∀ (l:List Int),i<l.length→l.take (i+1)=l.take i++[gI l i]:=fun l h=>K2 h
       conv=>whnf
       refine ⟨rfl,⟨by omega,by omega⟩,?_⟩;conv=>whnf
       refine ⟨rfl,⟨by show 0≤gI (C2 s1.l) i;omega,by show gI (C2 s1.l) i<(us.length:Int);omega⟩,?_⟩;conv=>whnf
       refine K4 hg2 rfl (by show 0+(gI (C2 s1.l) i).toNat<us.length;omega) (v:=eB ((A3a b.ms.used ((C2 s1.l).take i)).getD (gI (C2 s1.l) i).toNat default)) (by show g (0+(gI (C2 s1.l) i).toNat)=_;rw [Nat.zero_add];exact hg _ hr.2) (by rfl) ?_
       have hR2:=hBA.write (y':=⟨4,1,us.length,G5 g (0+(gI (C2 s1.l) i).toNat) (eB true)⟩) hR (A0 ..)
       rw [B6] at hR2
       have hgn:∀ k,k<us.length→G5 g (0+(gI (C2 s1.l) i).toNat) (eB true) k=eB ((A3a b.ms.used ((C2 s1.l).take (i+1))).getD k default):=fun k hk=>by
        have e:A3a b.ms.used ((C2 s1.l).take (i+1))=(A3a b.ms.used ((C2 s1.l).take i)).set (gI (C2 s1.l) i).toNat true:=P1 hi' _ _
        rw [e,Nat.zero_add,A5c (by rw [B6b,hI.ok.ok.len];exact hr.2)]
        by_cases ej:k=(gI (C2 s1.l) i).toNat
        ·rw [if_pos ej,ej,A2]
        ·rw [if_neg ej,G2 ej];exact hg k hk
       conv=>whnf
       refine ⟨[4,5,6,11,12,13],[],[],.qui 0 (.qui 1 (.qui 2 (.qui 3 (.qui 7 (.qui 8 (.qui 9 (.qui 10 (.two 4 11 (.two 5 11 (.two 6 11 (.gen 11 (.gen 12 (.gen 13 (.qui 14 (.qui 15 .done))))) (.two 6 12 (.gen 12 (.gen 13 (.qui 14 (.qui 15 .done)))) (.gen 6 (.gen 13 (.qui 14 (.qui 15 .done)))))) (.two 5 12 (.two 6 12 (.gen 12 (.gen 13 (.qui 14 (.qui 15 .done)))) (.gen 6 (.gen 13 (.qui 14 (.qui 15 .done))))) (.gen 5 (.gen 6 (.gen 13 (.qui 14 (.qui 15 .done))))))) (.two 4 12 (.two 5 12 (.two 6 12 (.gen 12 (.gen 13 (.qui 14 (.qui 15 .done)))) (.gen 6 (.gen 13 (.qui 14 (.qui 15 .done))))) (.gen 5 (.gen 6 (.gen 13 (.qui 14 (.qui 15 .done)))))) (.gen 4 (.gen 5 (.gen 6 (.gen 13 (.qui 14 (.qui 15 .done))))))))))))))),by kernel_rfl,?_⟩;conv=>whnf
       refine ⟨rfl,⟨by omega,by omega⟩,?_⟩;conv=>whnf
       refine ⟨rfl,⟨by omega,by omega⟩,?_⟩;conv=>whnf
       repeat' (refine And.intro ?_ ?_<;>(conv=>whnf))
       all_goals refine RA.appA (all:=b.taken++(C2 s1.l).take i) (ls:=ls++X.take i) (y:=gI (C2 s1.l) i) hR2 rfl rfl (by rw [List.length_append,List.length_take];omega) (fun sva' t' hR3=>?_)
       all_goals (conv=>whnf)
       all_goals refine RA.appL (all:=b.taken++(C2 s1.l).take i++[gI (C2 s1.l) i]) (ls:=ls++X.take i) (y:=gI X i) hR3 rfl rfl (by rw [List.length_append,List.length_take];omega) (fun svl' t'' hR4=>?_)
       all_goals (conv=>whnf)
       all_goals refine ⟨rfl,?_⟩
       all_goals (conv=>whnf)
       all_goals exact nx hi' ⟨sva',svl',G5 g (0+(gI (C2 s1.l) i).toNat) (eB true),by rw [C0 (by omega)],by rw [tk _ hi',tk _ (by omega),←List.append_assoc,←List.append_assoc];exact hR4,hgn⟩
def Z1 (l:List Int):List Int:=l.foldl (fun a x=>if x∈a then a else a++[x]) []
theorem B5K (l:List Int) (x:Int):Z1 (l++[x])=if x∈Z1 l then Z1 l else Z1 l++[x]:=by
 unfold Z1;rw [List.foldl_append];rfl
theorem A9G (l:List Int):(Z1 l).Nodup∧∀ x,x∈Z1 l↔x∈l:=by
 have:∀ (l a:List Int),a.Nodup→(l.foldl (fun a x=>if x∈a then a else a++[x]) a).Nodup∧∀ x,x∈l.foldl (fun a x=>if x∈a then a else a++[x]) a↔x∈a∨x∈l:=by
  intro l
  induction l with
  | nil=>intro a h;exact ⟨h,fun x=>by simp⟩
  | cons y l ih =>
   intro a h
   rw [List.foldl_cons]
   split
   ·rename_i hy
    obtain ⟨h1,h2⟩:=ih a h
    refine ⟨h1,fun x=>?_⟩
    rw [h2,List.mem_cons]
    constructor
    ·rintro (h3 | h3)
     ·exact .inl h3
     ·exact .inr (.inr h3)
    ·rintro (h3 | rfl | h3)
     ·exact .inl h3
     ·exact .inl hy
     ·exact .inr h3
   ·rename_i hy
    obtain ⟨h1,h2⟩:=ih (a++[y]) (List.nodup_append.2 ⟨h,by simp,fun p hp q hq e=>by rw [List.mem_singleton] at hq;subst hq;subst e;exact hy hp⟩)
    refine ⟨h1,fun x=>?_⟩
    rw [h2,List.mem_append,List.mem_singleton,List.mem_cons,or_assoc]
 obtain ⟨h1,h2⟩:=this l [] List.nodup_nil
 exact ⟨h1,fun x=>by rw [show x∈Z1 l↔x∈([]:List Int)∨x∈l from h2 x];simp⟩
theorem B3D (l:List Int):U0 l=((List.range l.length).filter fun k=>k==0||gI l k != gI l (k - 1)).map (gI l):=by
 unfold U0 Go.Lib.compactUpTo
 have hg:∀ k,k<l.length→l.toArray[k]! = gI l k:=fun k hk=>by rw [getElem!_pos _ k (by simpa using hk)];simp [gI,hk]
 have hf:(List.range l.length).filter (Go.Lib.keeps l.toArray)=(List.range l.length).filter fun k=>k==0||gI l k != gI l (k - 1):=by
  refine List.filter_congr fun k hk=>?_
  have:=List.mem_range.1 hk
  unfold Go.Lib.keeps
  rw [hg k this,hg (k - 1) (by omega)]
  rw [←Bool.coe_iff_coe,decide_eq_true_eq,Bool.or_eq_true,beq_iff_eq,bne_iff_ne]
 rw [hf]
 exact List.map_congr_left fun k hk=>hg k (List.mem_range.1 (List.mem_filter.1 hk).1)
theorem B5k {l:List Int} (hs:l.Pairwise (·≤·)):(U0 l).Nodup∧∀ x,x∈U0 l↔x∈l:=by
 refine ⟨?_,fun x=>⟨B1h,fun hx=>?_⟩⟩
 ·rw [B3D]
  refine List.Pairwise.map _ (fun a b h=>h) ?_ 
  refine List.Pairwise.imp_of_mem (R:=(·<·)) ?_ ((List.pairwise_lt_range (n:=l.length)).filter _)
  intro a b ha hb hab
  obtain ⟨h1,h2⟩:=List.mem_filter.1 hb
  have h3:=List.mem_range.1 h1
  rw [Bool.or_eq_true,beq_iff_eq,bne_iff_ne] at h2
  have h4:gI l (b - 1)≤gI l b:=B1z hs (by omega) h3
  have h5:gI l a≤gI l (b - 1):=by
   rcases Nat.eq_or_lt_of_le (show a≤b - 1 by omega) with e | e
   ·rw [e];exact Int.le_refl _
   ·exact B1z hs e (by omega)
  show gI l a≠gI l b
  rcases h2 with h2 | h2<;>omega
 ·rw [B3D,List.mem_map]
  obtain ⟨k,hk,rfl⟩:=F4 hx
  induction k with
  | zero=>exact ⟨0,List.mem_filter.2 ⟨List.mem_range.2 hk,rfl⟩,rfl⟩
  | succ k ih =>
   by_cases e:gI l (k+1)=gI l k
   ·have:=ih (by omega) (by rw [show l.getD k default=l.getD (k+1) default from e.symm];exact hx)
    obtain ⟨j,h1,h2⟩:=this
    exact ⟨j,h1,h2.trans e.symm⟩
   ·exact ⟨k+1,List.mem_filter.2 ⟨List.mem_range.2 hk,by rw [Bool.or_eq_true,bne_iff_ne];exact .inr e⟩,rfl⟩
theorem C0b (us:List B5) (l:List Int):A0X us (U0 (C2 l))=A0X us (Z1 l):=by
 obtain ⟨h1,h2⟩:=B5k (B0m l)
 obtain ⟨h3,h4⟩:=A9G l
 have hp:(U0 (C2 l)).Perm (Z1 l):=(List.perm_ext_iff_of_nodup h1 h3).2 fun x=>by rw [h2,h4,R1]
 exact A5G (hp.map _)
theorem B8g (l:List Int):(Z1 l).length≤l.length:=by
 have:∀ (l a:List Int),(l.foldl (fun a x=>if x∈a then a else a++[x]) a).length≤a.length+l.length:=by
  intro l
  induction l with
  | nil=>intro a;simp
  | cons y l ih =>
   intro a
   rw [List.foldl_cons]
   split
   ·have:=ih a;rw [List.length_cons];omega
   ·have:=ih (a++[y]);rw [List.length_append,List.length_cons,List.length_nil] at this;rw [List.length_cons];omega
 have h:=this l []
 rw [List.length_nil,Nat.zero_add] at h;exact h
structure PSm (p:B1):Prop where
 sm:A2E p
 right:H4 p=true
 fit:O3 p
set_option maxHeartbeats 400000 in
theorem C4q (items:List Ab.Item) (us:List B5) (pr:B1) (hp:PSm pr) (hk:pr.kind≠7) (hu:A5L items us) (st:St) :
  S P 98 [B8 pr,C6 us,A7 4 E3 items] st fun v st'=>(∃ x,v=.tuple [C6 x,eI (X1 items us pr).2]∧(0<(X1 items us pr).2→x=(X1 items us pr).1))∧st'=st:=by
 have ok:=A0T hp.right
 have hul:=hu.ok.len
 have hB:=ok.bun
 by_cases h4:pr.kind=4
 ·have hW:X1 items us pr=A0h items us pr:=by unfold X1;rw [if_pos h4]
  rw [hW]
  obtain ⟨hbn,hbs⟩:=hB h4
  have hn8:=hbn.n8
  have hpl:(O6 items us pr).length=pr.parts.length:=List.length_map ..
  have hbP:A0h items us pr=if A0X us (Z1 (Y7 items us pr pr.parts.length))<pr.least then ([],0) else O7 pr us (O6 items us pr):=by unfold A0h;rw [C0b]
  refine A2F ?_
  refine A5 [3] B7 mixed Tryz.func98 (by rfl) rfl rfl rfl ?_;conv=>whnf
  rw [show (pr.kind != 4)=false from by rw [h4];rfl];conv=>whnf
  refine mkO rfl rfl rfl (by show 1 * us.length≤_;omega) (by omega) (by rfl) (fun bs hbs0=>?_);conv=>whnf
  refine lp pr.parts.length [1,2,3,9,10,11,12] (fun i vs s=>∃ sv g,vs=[C6 us,A7 4 E3 items,.fptr (B8 pr) 0,sv,.own 1 bs 0 us.length,eI (A0X us (Z1 (Y7 items us pr i))),eI i]∧G0 29 1 B3 ((O6 items us pr).take i) (upd st bs ⟨4,1,us.length,g⟩) sv s∧∀ k,k<us.length→g k=eB (decide ((k:Int)∈Y7 items us pr i))) ?_ ?_
  ·conv=>whnf
   exact ⟨.emp,_,rfl,G0.start _ _ _ _,fun k hk=>by rw [show Y7 items us pr 0=[] from rfl];simp;rfl⟩
  ·rintro i vs s hi ⟨sv,g,rfl,hc,hg⟩
   conv=>whnf
   cases hd:decide ((i:Int)<(pr.parts.length:Int))
   ·obtain rfl:=D1 hd hi
    rw [←hpl,List.take_length] at hc;conv=>whnf
    refine C3 (fun h1=>?_) (fun h1=>?_)<;>rw [h1]
    ·have:=of_decide_eq_true h1
     rw [if_pos (by omega)] at hbP;conv=>whnf
     exact ⟨⟨us,by rw [hbP];rfl,fun h=>by rw [hbP] at h;exact absurd h (by decide)⟩,((F2.refl st).upd hbs0).trans hc.sup⟩
    ·have:=of_decide_eq_false h1
     rw [if_neg (by omega)] at hbP;conv=>whnf
     refine I5 (B2.cons (t:=s) (B2.keep _ _) (B2.cons (t:=s) (B2.keep _ _) hc.shift)) (A4 (B8r pr us (O6 items us pr) hp.sm hp.right h4 hbn hu.ok hpl (fun x hx=>by obtain ⟨q,_,rfl⟩:=List.mem_map.1 hx;exact A0N _ _ _) _) ?_);conv=>whnf
     exact ⟨⟨_,by rw [hbP];rfl,fun _=>by rw [hbP]⟩,(F2.refl st).upd hbs0⟩
   ·have hi':=F7 hd
    have hsc:(pr.parts.getD (i:Int).toNat default).scope.skus.length≤20∧(pr.parts.getD (i:Int).toNat default).scope.cats.length≤20:=hbs _ (B4 hi')
    have hsu:=A7C items us pr hi'
    have hAl:=A9e items us pr i hi
    have hAm:=fun {x} (hx:x∈Y7 items us pr i)=>A9f hx
    have hml:=A2f (pr.parts.getD (i:Int).toNat default).scope items us us.length
    have hmo:=A0N (pr.parts.getD (i:Int).toNat default).scope items us
    have hpt:(O6 items us pr).take (i+1)=(O6 items us pr).take i++[I1 (pr.parts.getD (i:Int).toNat default).scope items us us.length]:=by
     rw [K2 (by omega)];congr 2
     exact D8 (fun x:A1b=>I1 x.scope items us us.length) pr.parts hi'
    rw [show I1 (pr.parts.getD i default).scope items us us.length=I1 (pr.parts.getD (i:Int).toNat default).scope items us us.length from rfl] at hsu
    have h8:i * us.length≤7 * 100000:=Nat.mul_le_mul (by omega) hul
    conv=>whnf
    refine ⟨rfl,⟨by omega,by omega⟩,?_⟩;conv=>whnf
    refine A4 (B7f us items (pr.parts.getD (i:Int).toNat default).scope (by omega) (by omega) hul hu.line _) ?_
    generalize I1 (pr.parts.getD (i:Int).toNat default).scope items us us.length=m at *
    conv=>whnf
    refine G0.app (q:=r29) (y:=m) rfl rfl rfl rfl rfl rfl (by show (_+1) * 24≤140737488355328;rw [List.length_take];omega) hc (fun sv s hc=>?_)
    rw [←hpt] at hc;conv=>whnf
    refine lp m.length [1,2,3,9,10,11,12,13,14] (fun k vs s=>∃ g,vs=[C6 us,A7 4 E3 items,.fptr (B8 pr) 0,sv,.own 1 bs 0 us.length,eI (A0X us (Z1 (Y7 items us pr i++m.take k))),eI i,B3 m,eI k]∧G0 29 1 B3 ((O6 items us pr).take (i+1)) (upd st bs ⟨4,1,us.length,g⟩) sv s∧∀ j,j<us.length→g j=eB (decide ((j:Int)∈Y7 items us pr i++m.take k))) ?_ ?_
    ·conv=>whnf
     exact ⟨g,by rw [List.take_zero,List.append_nil];rfl,hc,by rw [List.take_zero,List.append_nil];exact hg⟩
    ·clear hc hg
     rintro k vs s hk ⟨g,rfl,hc,hg⟩
     conv=>whnf
     cases hd2:decide ((k:Int)<(m.length:Int))
     ·obtain rfl:=D1 hd2 hk
      rw [List.take_length,←hsu] at hg;conv=>whnf
      refine ⟨rfl,?_⟩;conv=>whnf
      exact nx hi' ⟨sv,g,by rw [C0 (by omega),List.take_length,←hsu],hc,hg⟩
     ·have hk':=F7 hd2
      have hr:0≤m.getD (k:Int).toNat default∧(m.getD (k:Int).toNat default).toNat<us.length:=hmo.rng k hk'
      have hbk:=hc.sup bs _ (A0 ..)
      have hP:Y7 items us pr i++m.take (k+1)=(Y7 items us pr i++m.take k)++[m.getD (k:Int).toNat default]:=by rw [K2 hk',List.append_assoc];rfl
      have hgk:g (0+(m.getD (k:Int).toNat default).toNat)=eB (decide (m.getD (k:Int).toNat default∈Y7 items us pr i++m.take k)):=by
       rw [Nat.zero_add,hg _ hr.2];congr 2;rw [Int.toNat_of_nonneg hr.1]
      have hmem:∀ x∈Y7 items us pr i++m.take k,0≤x∧x.toNat<us.length:=fun x hx=>by
       rcases List.mem_append.1 hx with hx | hx
       ·exact A9f hx
       ·obtain ⟨j,hj,rfl⟩:=F4 (List.take_subset _ _ hx);exact hmo.rng j hj
      obtain ⟨o1,o2⟩:=A9G (Y7 items us pr i++m.take k)
      have hcb:=A0r hu.ok (Z1 (Y7 items us pr i++m.take k)) (fun x hx=>hmem x ((o2 x).1 hx))
      have hol:=B8g (Y7 items us pr i++m.take k)
      rw [List.length_append,List.length_take] at hol
      have hcl:A0X us (Z1 (Y7 items us pr i++m.take k))=G8 us (Z1 (Y7 items us pr i++m.take k)):=rfl
      have hsn:=B5K (Y7 items us pr i++m.take k) (m.getD (k:Int).toNat default)
      have hdm:decide (m.getD (k:Int).toNat default∈Z1 (Y7 items us pr i++m.take k))=decide (m.getD (k:Int).toNat default∈Y7 items us pr i++m.take k):=decide_eq_decide.2 (o2 _)
      have hn0:0≤(gU us (m.getD (k:Int).toNat default).toNat).net:=hu.ok.at0 _
      have hn1:(gU us (m.getD (k:Int).toNat default).toNat).net≤10000000000000:=hu.ok.le (B4 hr.2)
      generalize Y7 items us pr i++m.take k=A at *
      conv=>whnf
      refine ⟨rfl,⟨by omega,by omega⟩,?_⟩;conv=>whnf
      refine ⟨rfl,⟨by omega,by omega⟩,?_⟩;conv=>whnf
      refine E9 hbk rfl (by omega) hgk ?_;conv=>whnf
      refine C3 (fun h5=>?_) (fun h5=>?_)<;>rw [h5]
      ·have hnot:¬ m.getD (k:Int).toNat default∈A:=by simpa using h5
       rw [if_neg (fun h=>hnot ((o2 _).1 h))] at hsn
       have hadd:A0X us (Z1 (A++[m.getD (k:Int).toNat default]))=A0X us (Z1 A)+(gU us (m.getD (k:Int).toNat default).toNat).net:=by
        rw [hsn];exact B1j us _ _
       have w:IntKind.i64.wrap (A0X us (Z1 A)+(gU us (m.getD (k:Int).toNat default).toNat).net)=A0X us (Z1 (A++[m.getD (k:Int).toNat default])):=by rw [hadd];exact A9 (by omega) (by omega)
       conv=>whnf
       refine ⟨rfl,⟨by omega,by omega⟩,?_⟩;conv=>whnf
       refine ⟨rfl,⟨by omega,by omega⟩,?_⟩;conv=>whnf
       refine K4 hbk rfl (by omega) hgk (by rfl) ?_
       have hc2:=H7.write hc (y':=⟨4,1,us.length,G5 g (0+(m.getD (k:Int).toNat default).toNat) (eB true)⟩) (A0 ..)
       rw [B6] at hc2;conv=>whnf
       refine ⟨rfl,⟨by omega,by omega⟩,?_⟩;conv=>whnf
       refine ⟨rfl,⟨by omega,by omega⟩,?_⟩;conv=>whnf
       refine ⟨rfl,?_⟩;conv=>whnf
       refine nx hk' ⟨G5 g (0+(m.getD (k:Int).toNat default).toNat) (eB true),by rw [C0 (by omega),hP,←w],hc2,fun j hj=>?_⟩
       rw [hP,Nat.zero_add]
       by_cases ej:j=(m.getD (k:Int).toNat default).toNat
       ·rw [ej,A2,decide_eq_true (by rw [List.mem_append,List.mem_singleton];right;omega)]
       ·rw [G2 ej,hg j hj]
        congr 1
        refine decide_eq_decide.2 ?_
        rw [List.mem_append,List.mem_singleton]
        exact ⟨.inl,fun h=>h.resolve_right (by omega)⟩
      ·have hin:m.getD (k:Int).toNat default∈A:=by simpa using h5
       rw [if_pos ((o2 _).2 hin)] at hsn;conv=>whnf
       refine ⟨rfl,?_⟩;conv=>whnf
       refine nx hk' ⟨g,by rw [C0 (by omega),hP,hsn],hc,fun j hj=>?_⟩
       rw [hP,hg j hj]
       congr 1
       refine decide_eq_decide.2 ?_
       rw [List.mem_append,List.mem_singleton]
       exact ⟨.inl,fun h=>h.elim id (fun e=>by rw [e];exact hin)⟩
 ·have hW:X1 items us pr=A1t items us pr:=by unfold X1;rw [if_neg h4]
  have hmo:=A0N pr.scope items us
  have hml:=A2f pr.scope items us us.length
  have hS:A1t items us pr=if A0X us (I1 pr.scope items us us.length)<pr.least then ([],0) else if pr.kind=3 then R9 pr us (I1 pr.scope items us us.length) else W8 pr us (I1 pr.scope items us us.length):=rfl
  obtain ⟨hn0,hns⟩:=A9F hu.ok hmo
  rw [hW]
  refine A5 [3] B7 mixed Tryz.func98 (by rfl) rfl rfl rfl ?_;conv=>whnf
  rw [show (pr.kind != 4)=true from bne_iff_ne.2 h4];conv=>whnf
  refine A4 (B7f us items pr.scope (by have:=ok.skus;omega) (by have:=ok.cats;omega) hul hu.line _) ?_
  generalize I1 pr.scope items us us.length=m at *
  conv=>whnf
  refine ⟨[],[],List.range 7,by kernel_rfl,?_⟩;conv=>whnf
  refine ⟨_,C9 (A5B us m (by omega) hmo.rng _),?_⟩;conv=>whnf
  refine ⟨_,C9 (B0f (E6 us m) (by rw [A3P];omega) hn0 (by omega) _),?_⟩;conv=>whnf
  refine C3 (fun h1=>?_) (fun h1=>?_)<;>rw [h1]
  ·have h2:A0X us m<pr.least:=of_decide_eq_true h1
   rw [if_pos h2] at hS;conv=>whnf
   exact ⟨⟨us,by rw [hS];rfl,fun h=>by rw [hS] at h;exact absurd h (by decide)⟩,rfl⟩
  ·have h2:¬ A0X us m<pr.least:=fun h=>absurd h (Int.not_lt.2 (Int.not_lt.1 (of_decide_eq_false h1)))
   rw [if_neg h2] at hS;conv=>whnf
   by_cases h3:pr.kind=3
   ·rw [if_pos h3] at hS
    rw [show (pr.kind==3)=true from beq_iff_eq.2 h3];conv=>whnf
    refine A4 (B8s pr us m hp.sm hp.right h3 (ok.buy h3) hu.ok hmo _) ?_;conv=>whnf
    exact ⟨⟨_,by rw [hS];rfl,fun _=>by rw [hS]⟩,rfl⟩
   ·rw [if_neg h3] at hS
    rw [show (pr.kind==3)=false from beq_false_of_ne h3];conv=>whnf
    refine A4 (C0q pr us m (ok.ask hp.fit (by have:=ok.kind;omega)) hp.sm hu.ok hmo _) ?_;conv=>whnf
    exact ⟨⟨_,by rw [hS];rfl,fun _=>by rw [hS]⟩,rfl⟩
theorem B4x (L:List D7) (g:D7) (hl:L.length≤1000) (sv:AV) (st:St) (h:(sv=.emp∧L=[])∨∃ b f,sv=.own 1 b 0 L.length∧st b=some ⟨9,1,L.length,f⟩∧∀ k,k<L.length→f k=eS (L.getD k default)) :
  S P 97 [sv,eS g] st fun v st'=>v=.bool (!J6 g&&L.any fun y=>y.toList==g.toList)∧st'=st:=by
 rcases h with ⟨rfl,rfl⟩ | ⟨b,f,rfl,hb,hf⟩
 ·refine A5 [] B7 mixed Tryz.func97 (by rfl) rfl rfl rfl ?_;conv=>whnf
  refine A5N [0,1,5] ?_;conv=>whnf
  intro I;conv=>whnf
  exact ⟨by simp [A8D],rfl⟩
 ·refine A5 [] B7 mixed Tryz.func97 (by rfl) rfl rfl rfl ?_;conv=>whnf
  refine lp L.length [0,1,5] (fun i vs s=>(∀ k,k<i→(!J6 g&&((L.getD k default).toList==g.toList))=false)∧vs=[.own 1 b 0 L.length,eS g,eI i]∧s=st) ?_ ?_
  ·conv=>whnf
   exact ⟨fun k hk=>absurd hk (by omega),rfl,rfl⟩
  ·rintro i vs st' hi ⟨hok,rfl,rfl⟩
   conv=>whnf
   cases hd:decide ((i:Int)<(L.length:Int))
   ·obtain rfl:=D1 hd hi
    conv=>whnf
    refine ⟨?_,rfl⟩
    have e:(!J6 g&&L.any fun y=>y.toList==g.toList)=false:=by
     cases hn:J6 g
     ·rw [Bool.not_false,Bool.true_and]
      refine List.any_eq_false.2 fun x hx=>?_
      obtain ⟨k,hk,rfl⟩:=F4 hx
      have:=hok k hk
      rw [hn,Bool.not_false,Bool.true_and] at this
      rw [this];simp
     ·rfl
    rw [e];rfl
   ·have hi':=F7 hd
    have hfi:f (0+(i:Int).toNat)=eS (L.getD (i:Int).toNat default):=by rw [Nat.zero_add];exact hf _ (by omega)
    have yes:=fun h=>L7 hok (i:=i) h
    have nl:J6 g=(g.toList==(⟨#[]⟩:D7).toList):=rfl
    conv=>whnf
    refine C3 (fun h1=>?_) (fun h1=>?_)<;>rw [h1]
    ·have hn:J6 g=false:=by rw [nl];simpa using h1
     conv=>whnf
     refine ⟨rfl,⟨by omega,by omega⟩,?_⟩;conv=>whnf
     refine E9 hb rfl (by omega) hfi ?_;conv=>whnf
     refine C3 (fun h2=>?_) (fun h2=>?_)<;>rw [h2]
     ·conv=>whnf
      refine ⟨?_,rfl⟩
      rw [hn,List.any_eq_true.2 ⟨_,B4 hi',h2⟩];rfl
     ·conv=>whnf
      refine ⟨rfl,?_⟩;conv=>whnf
      exact nx hi' ⟨yes (by rw [hn];exact h2),by rw [C0 (by omega)],rfl⟩
    ·have hn:J6 g=true:=by rw [nl];simpa using h1
     conv=>whnf
     refine ⟨rfl,?_⟩;conv=>whnf
     exact nx hi' ⟨yes (by rw [hn];rfl),by rw [C0 (by omega)],rfl⟩
structure B3n (l:List B1):Prop where
 few:l.length≤60
 right:∀ p∈l,H4 p=true
 ids:∀ i j,i<j→j<l.length→((l.getD i default).id.toList==(l.getD j default).id.toList)=false
theorem A2x {l:List B1} (h:promosC l=true):B3n l:=by
 unfold promosC I6 at h
 simp only [Bool.and_eq_true,decide_eq_true_eq,List.all_eq_true,List.mem_range] at h
 obtain ⟨h1,h2⟩:=h
 refine ⟨by omega,fun p hp=>?_,fun i j hij hj=>?_⟩
 ·obtain ⟨k,hk,rfl⟩:=F4 hp
  have:=h2 k hk
  unfold A0S at this
  rw [Bool.and_eq_true] at this;exact this.1
 ·have:=h2 j hj
  unfold A0S at this
  rw [Bool.and_eq_true,Bool.not_eq_true',List.any_eq_false] at this
  have h3:=this.2 (l.getD i default) (by
   have:(l.take j).getD i default=l.getD i default:=by rw [List.getD_eq_getElem?_getD,List.getD_eq_getElem?_getD,List.getElem?_take_of_lt hij]
   rw [←this]
   exact B4 (by rw [List.length_take];omega))
  simpa using h3
theorem B4s (l:List B1) (hs:∀ p∈l,A2E p) (hC:promosC l=true) (st:St):S P 160 [A7 15 B8 l] st fun v st'=>v=.bool true∧st'=st:=by
 have ok:=A2x hC
 have hl:=ok.few
 refine A5 [] B7 mixed Tryz.func160 (by rfl) rfl rfl rfl ?_;conv=>whnf
 refine lp l.length [0,3] (fun i vs st'=>vs=[A7 15 B8 l,eI i]∧st'=st) ?_ ?_
 ·conv=>whnf
  exact ⟨rfl,rfl⟩
 ·rintro i vs st' hi ⟨rfl,rfl⟩
  conv=>whnf
  cases h:decide ((i:Int)<(l.length:Int))
  ·obtain rfl:=D1 h hi
   conv=>whnf
   refine ⟨?_,rfl⟩
   rw [decide_eq_true (by omega)];rfl
  ·have hi':=F7 h
   have hm:l.getD (i:Int).toNat default∈l:=B4 hi'
   conv=>whnf
   refine ⟨rfl,⟨by omega,by omega⟩,?_⟩;conv=>whnf
   refine A4 (A3U (l.getD (i:Int).toNat default) (hs _ hm) (ok.right _ hm) _) ?_;conv=>whnf
   refine lp i [0,3,4] (fun j vs s=>vs=[A7 15 B8 l,eI i,eI j]∧s=st') ?_ ?_
   ·conv=>whnf
    exact ⟨rfl,rfl⟩
   ·rintro j vs s hj ⟨rfl,rfl⟩
    conv=>whnf
    cases h2:decide ((j:Int)<(i:Int))
    ·obtain rfl:=D1 h2 hj
     conv=>whnf
     refine ⟨rfl,?_⟩;conv=>whnf
     exact nx hi' ⟨by rw [C0 (by omega)],rfl⟩
    ·have hj':=F7 h2
     have hne:((l.getD (j:Int).toNat default).id.toList==(l.getD (i:Int).toNat default).id.toList)=false:=ok.ids j i hj' hi'
     conv=>whnf
     refine ⟨[],[],List.range 11,by kernel_rfl,?_⟩;conv=>whnf
     refine ⟨rfl,⟨by omega,by omega⟩,?_⟩;conv=>whnf
     refine ⟨rfl,⟨by omega,by omega⟩,?_⟩;conv=>whnf
     rw [hne];conv=>whnf
     refine ⟨rfl,?_⟩;conv=>whnf
     exact nx hj' ⟨by rw [C0 (by omega)],rfl⟩
structure A8G (r:E8):Prop where
 n:Sm r.items.length
 items:∀ x∈r.items,Sm x.sku.size∧Sm x.cat.size
 promos:∀ p∈r.promos,A2E p
 tax:B6C r.tax
 order:Sm r.policy.order.length
 credit:Sm r.policy.credit.length
theorem B5S (r:E8) (hs:A8G r) (hC:O0 r=true) (st:St):S P 91 [J2 r] st fun v st'=>v=.bool true∧st'=st:=by
 unfold O0 A8q A5z at hC
 simp only [Bool.and_eq_true] at hC
 obtain ⟨⟨⟨⟨c1,c2⟩,c3⟩,c4,c5⟩,⟨⟨⟨⟨⟨c6,c7⟩,c8⟩,c9⟩,c10⟩,c11⟩,c12⟩:=hC
 have n1:=C0t r.items hs.n hs.items st
 have n2:=B4s r.promos hs.promos c2 st
 have n3:=C4p r.tax hs.tax st
 have n4:=A1N r.ship.fee 1000000000 st
 have n5:=A1N r.ship.free 10000000000000 st
 have n6:=A1N r.policy.window 100000 st
 have n7:=A1N r.policy.grace 100000 st
 have n8:=A1N r.policy.restock 10000 st
 have n9:=B4v r.policy.order hs.order st
 have n10:=B4v r.policy.credit hs.credit st
 rw [c1] at n1
 rw [c3] at n3
 rw [c4] at n4
 rw [c5] at n5
 rw [c6] at n6
 rw [c7] at n7
 rw [c10] at n8
 rw [c11] at n9
 rw [c12] at n10
 refine A5 [1,3] B7 mixed Tryz.func91 (by rfl) rfl rfl rfl ?_
 repeat' ((conv=>whnf);first | refine A4 n1 ?_ | refine A4 n2 ?_ | refine A4 n3 ?_ | refine A4 n4 ?_ | refine A4 n5 ?_ | refine A4 n6 ?_ | refine A4 n7 ?_ | refine A4 n8 ?_ | refine A4 n9 ?_ | refine A4 n10 ?_ | (rw [c8]) | (rw [c9]))
 all_goals (conv=>whnf)
 all_goals exact ⟨rfl,rfl⟩
theorem C0s (l:List D7) (hl:Sm l.length) (hs:∀ s∈l,Sm s.size) (st:St):S P 92 [D3 l] st fun v st'=>v=.bool (R8 l)∧st'=st:=by
 have e:R8 l=(Z8 l&&decide ((l.length:Int)≤4)):=by
  unfold R8 Z8
  generalize decide ((l.length:Int)≤4)=a
  generalize Y1 l=b
  generalize (l.any fun s=>!F1 s)=c
  cases a<;>cases b<;>cases c<;>rfl
 rw [e]
 refine A5 [] B7 mixed Tryz.func92 (by rfl) rfl rfl rfl ?_;conv=>whnf
 refine A4 (B0d l 4 hl hs st) ?_;conv=>whnf
 exact ⟨rfl,rfl⟩
def P2 (l:List B1) (codes:List D7):List Int:=(places l codes l.length).mergeSort fun x y=>!Z5 (D5 l y) (D5 l x)
theorem P9 (l:List B1) (codes:List D7):(P2 l codes).Perm (places l codes l.length):=List.mergeSort_perm ..
theorem C0i (l:List B1) (codes:List D7):(P2 l codes).Pairwise (A3f l):=by
 have:=List.pairwise_mergeSort (le:=fun x y:Int=>!Z5 (D5 l y) (D5 l x)) (fun a b c h1 h2=>by simp only [Bool.not_eq_true'] at *;exact A7a h1 h2) (fun a b=>by
  cases h:Z5 (D5 l b) (D5 l a) with
  | false=>rfl
  | true=>rw [A8b h];rfl) (places l codes l.length)
 exact this.imp (fun h=>by simpa [A3f] using h)
theorem B5P {l:List B1} (ok:B3n l) {x y:Int} (hx:0≤x∧x.toNat<l.length) (hy:0≤y∧y.toNat<l.length) (h1:A3f l x y) (h2:A3f l y x):x=y:=by
 unfold A3f at h1 h2
 rw [←Bool.not_eq_true,A2m] at h1 h2
 have e:(D5 l x).prio=(D5 l y).prio:=by
  have a:¬(D5 l y).prio>(D5 l x).prio:=fun h=>h1 (.inl h)
  have b:¬(D5 l x).prio>(D5 l y).prio:=fun h=>h2 (.inl h)
  omega
 have a:slt (D5 l y).id (D5 l x).id=false:=by rw [←Bool.not_eq_true];exact fun h=>h1 (.inr ⟨e.symm,h⟩)
 have b:slt (D5 l x).id (D5 l y).id=false:=by rw [←Bool.not_eq_true];exact fun h=>h2 (.inr ⟨e,h⟩)
 have c:=A5E a b
 rcases Nat.lt_trichotomy x.toNat y.toNat with h | h | h
 ·have:=ok.ids _ _ h hy.2
  rw [beq_eq_false_iff_ne] at this
  exact absurd c.symm this
 ·omega
 ·have:=ok.ids _ _ h hx.2
  rw [beq_eq_false_iff_ne] at this
  exact absurd c this
theorem B4a {l:List B1} (hC:promosC l=true) {codes:List D7} {o:List Int} (h1:o.Perm (places l codes l.length)) (h2:o.Pairwise (A3f l)):o=P2 l codes:=by
 refine (h1.trans (P9 l codes).symm).eq_of_pairwise (le:=A3f l) (fun a b ha hb h3 h4=>?_) h2 (C0i l codes)
 exact B5P (A2x hC) (T3 (h1.mem_iff.1 ha)) (T3 ((P9 l codes).mem_iff.1 hb)) h3 h4
theorem B8v (l:List B1) (codes:List D7) (hC:promosC l=true) (hc:Sm codes.length) (st:St):S P 96 [A7 15 B8 l,D3 codes] st fun v st'=>v=B3 (P2 l codes)∧st'=st :=
 (C0z l codes (by have:=(A2x hC).few;omega) hc st).mono fun v st' ⟨⟨o,h1,h2,h3⟩,h4⟩=>⟨by rw [h3,B4a hC h1 h2],h4⟩
theorem B0a {l:List B1} (hC:promosC l=true) {codes:List D7} {o:List Int} (ho:A8B l codes o):L5 l o=P2 l codes:=by
 refine B4a hC ((A7W l o).trans ho.1) ?_
 refine List.Pairwise.map _ (fun a b h=>h) (R:=fun a b:QE=>A3f l (gI o a.2.toNat) (gI o b.2.toNat)) ?_
 refine (A5X l o).imp_of_mem fun {a b} ha hb h=>?_
 have h1:=A3W ha
 have h2:=A3W hb
 obtain ⟨i,hi,rfl⟩:=List.mem_map.1 ((A0y l o).mem_iff.1 ha)
 obtain ⟨j,hj,rfl⟩:=List.mem_map.1 ((A0y l o).mem_iff.1 hb)
 rw [T7] at h
 simp only [A9X,Int.toNat_natCast] at h h1 h2 ⊢
 unfold A3f
 rw [←Bool.not_eq_true,A2m]
 rintro (h3 | ⟨h3,h4⟩)
 ·exact h (.inl h3)
 ·rcases Nat.lt_trichotomy i j with e | e | e
  ·have:=ho.2 i j (Nat.zero_le _) e h2.2
   unfold C2b at this
   rw [this] at h4;cases h4
  ·subst e;rw [A3Z] at h4;cases h4
  ·exact h (.inr ⟨h3,by omega⟩)
theorem ROut.own {R:St→St→Prop} {ty e n:Nat} {fo:Nat→AV} {s t:St} {sv:AV} (h:ROut R ty e fo (n+1) s sv t):∃ b,sv=.own e b 0 (n+1):=by
 obtain ⟨s0,⟨h1,_⟩ | ⟨_,b,_,_,h1,_⟩,h2⟩:=h
 ·cases h1
 ·exact ⟨b,h1⟩
theorem RD.wr {dl:List A1a} {gr:List D7} {dv gv:AV} {s t:St} {b:Nat} {y y':Q5} (h:RD dl gr dv gv s t) (hb:s b=some y):RD dl gr dv gv (upd s b y') (upd t b y'):=(A2G dl gr dv gv).write h hb
theorem RD.sup {dl:List A1a} {gr:List D7} {dv gv:AV} {s t:St} (h:RD dl gr dv gv s t):F2 s t:=(A2G dl gr dv gv).sup h
theorem RD.start (s:St):RD [] [] .emp .emp s s:=ROut.start (ROut.start (F2.refl s) _ _ _) _ _ _
theorem RD.appG {dl:List A1a} {gr:List D7} {dv gv:AV} {s t:St} {y:D7} {x:AV} {k:KK} {g:Nat→AV} (h:RD dl gr dv gv s t) (hs:Y3 1 t x=some (1,g)) (hg:g 0=eS y) (hb:gr.length≤1000)
  (hk:∀ gv' t',RD dl (gr++[y]) dv gv' s t'→k gv' t'):A5j T 34 gv x t k:=by
 obtain ⟨s0,hc,h⟩:=h
 refine ROut.app (q:=r9) (f:=A5T (gr++[y])) C5 rfl rfl rfl rfl hs (by rw [hg];simp only [A5T,A6X]) (by show (gr.length+1) * 16≤140737488355328;omega) (ROut.congr h fun k hk=>by simp only [A5T];rw [A0c hk]) (fun sv' t' h'=>hk sv' t' ⟨s0,hc,?_⟩)
 show ROut _ _ _ _ (gr++[y]).length _ _ _
 rw [List.length_append];exact h'
theorem RD.appD {dl:List A1a} {gr:List D7} {dv gv:AV} {s t:St} {y:A1a} {x:AV} {k:KK} {g:Nat→AV} (h:RD dl gr dv gv s t) (hs:Y3 2 t x=some (1,g)) (hg:g 0=A4H y) (hb:dl.length≤1000)
  (hk:∀ b t',RD (dl++[y]) gr (.own 2 b 0 (dl.length+1)) gv s t'→k (.own 2 b 0 (dl.length+1)) t'):A5j T 42 dv x t k:=by
 refine ROut.app (q:=C2s) (f:=A0K (dl++[y])) (A6M _ _) rfl rfl rfl rfl hs (by rw [hg];simp only [A0K,A6X]) (by show (dl.length+1) * 24≤140737488355328;omega) (ROut.congr h fun k hk=>by simp only [A0K];rw [A0c hk]) (fun sv' t' h'=>?_)
 obtain ⟨b,rfl⟩:=ROut.own h'
 exact hk b t' (RD.of h')
theorem RD.deals {dl:List A1a} {gr:List D7} {dv gv:AV} {s t:St} (h:RD dl gr dv gv s t):(dl=[]∧dv=.emp)∨∃ bd g,dv=.own 2 bd 0 dl.length∧s bd=none∧t bd=some ⟨140,2,dl.length,g⟩∧∀ k,k<dl.length→g k=A0K dl k:=by
 obtain ⟨s0,hc,hg0⟩:=h
 rcases hc with ⟨h0,h1,rfl⟩ | ⟨h0,b,g0,hb,h1,rfl,hgg⟩
 ·exact .inl ⟨List.eq_nil_of_length_eq_zero h0,h1⟩
 ·exact .inr ⟨b,g0,h1,hb,(A6M _ _).sup hg0 b _ (A0 ..),hgg⟩
theorem RD.groups {dl:List A1a} {gr:List D7} {dv gv:AV} {s t:St} (h:RD dl gr dv gv s t):(gv=.emp∧gr=[])∨∃ b g,gv=.own 1 b 0 gr.length∧t b=some ⟨9,1,gr.length,g⟩∧∀ k,k<gr.length→g k=eS (gr.getD k default):=by
 obtain ⟨s0,hc,s1,hc2,hs⟩:=h
 rcases hc2 with ⟨h0,h1,rfl⟩ | ⟨h0,b,g0,hb,h1,rfl,hgg⟩
 ·exact .inl ⟨h1,List.eq_nil_of_length_eq_zero h0⟩
 ·exact .inr ⟨b,g0,h1,hs b _ (A0 ..),hgg⟩
theorem A9r {σ : Type} (px : σ→PSt) (step : σ→B1→σ) (sm:B1→Bool) (l:List B1) (a : σ) (o:List Int) (x:Int):V7 px step sm l a (o++[x])=if sm (D5 l x)=true then goB px step (V7 px step sm l a o) (D5 l x) else V7 px step sm l a o:=by
 unfold V7
 rw [List.filter_append,List.foldl_append]
 by_cases h:sm (D5 l x)=true
 ·rw [if_pos h,List.filter_cons_of_pos (p:=fun x=>sm (D5 l x)) h];rfl
 ·rw [if_neg h,List.filter_cons_of_neg (p:=fun x=>sm (D5 l x)) h];rfl
def named (l:List D7):List D7:=l.filter fun g=>!J6 g
theorem A9E (l:List D7) (g:D7):named (l++[g])=named l++(if J6 g=true then [] else [g]):=by
 unfold named
 rw [List.filter_append]
 congr 1
 cases h:J6 g
 ·rw [List.filter_cons_of_pos (p:=fun g=>!J6 g) (by rw [h];rfl)];rfl
 ·rw [List.filter_cons_of_neg (p:=fun g=>!J6 g) (by rw [h];simp)];rfl
theorem C1c (l:List D7) (g:D7):(!J6 g&&l.any fun y=>y.toList==g.toList)=!(J6 g||!inB (named l) g):=by
 cases hn:J6 g
 ·rw [Bool.not_false,Bool.true_and,Bool.false_or,Bool.not_not]
  unfold inB named
  rw [←Bool.coe_iff_coe,List.any_eq_true,List.any_eq_true]
  constructor
  ·rintro ⟨y,h1,h2⟩
   refine ⟨y,List.mem_filter.2 ⟨h1,?_⟩,by rw [Bool.beq_comm];exact h2⟩
   unfold J6 at hn ⊢
   rw [eq_of_beq h2,hn];rfl
  ·rintro ⟨y,h1,h2⟩
   exact ⟨y,(List.mem_filter.1 h1).1,by rw [Bool.beq_comm];exact h2⟩
 ·rfl
theorem C3j {σ : Type} {px : σ→PSt} {step : σ→B1→σ} {a : σ} {pr:B1} {G:List D7} (hG:named G=(px a).groups) :
  goB px step a pr=if (!J6 pr.group&&G.any fun y=>y.toList==pr.group.toList)=true then a else step a pr:=by
 unfold goB
 rw [C1c,hG]
 cases (J6 pr.group||!inB (px a).groups pr.group)<;>rfl
theorem C1F {items:List Ab.Item} {p:PSt} {pr:B1} (hk:Q6 pr=true) {G:List D7} (hG:named G=p.groups) :
  goB (fun p=>p) (A3G items) p pr=if (!J6 pr.group&&G.any fun y=>y.toList==pr.group.toList)=true then p else A3G items p pr:=C3j (px:=fun p=>p) hG
theorem B8a (l:List D7):(named l).length≤l.length:=List.length_filter_le _ _
set_option maxHeartbeats 8000000 in
theorem C0v (r:E8) (codes:List D7) (l:List F0) (hf:A0a r) (hsm:A8G r) (hR:O0 r=true) (hcn:Sm codes.length) (hcs:∀ s∈codes,Sm s.size) (hln:Sm l.length) (st:St) :
  S P 21 [J2 r,D3 codes,A7 3 E4 l] st fun v st' =>
   v=(if D6 r codes l=0 then .tuple [X0 (U7 r l (P2 r.promos codes) (P2 r.promos codes)),eI 0] else .tuple [X0 ⟨[],0,0,[]⟩,eI (D6 r codes l)])∧st'=st:=by
 obtain ⟨X,hX⟩:∃ X,X=U7 r l (P2 r.promos codes) (P2 r.promos codes):=⟨_,rfl⟩
 refine S.post (post:=fun v st'=>(D6 r codes l≠0∧v=.tuple [.agg [.emp,eI 0,eI 0,.emp],eI (D6 r codes l)]∧F2 st st') ∨
   (D6 r codes l=0∧∃ bn fn dv,v=.tuple [.agg [.own 1 bn 0 l.length,eI X.net,eI X.ship,dv],eI 0] ∧
    st bn=none∧st' bn=some ⟨2,1,l.length,fn⟩∧(∀ k,k<l.length→fn k=eI (gI X.nets k))∧F2 st st' ∧
    ((X.deals=[]∧dv=.emp)∨∃ bd g,dv=.own 2 bd 0 X.deals.length∧st bd=none∧bd≠bn∧st' bd=some ⟨140,2,X.deals.length,g⟩∧∀ k,k<X.deals.length→g k=A0K X.deals k))) ?_
  (fun v st' hv=>by
   rcases hv with ⟨h1,rfl,hs⟩ | ⟨h1,bn,fn,dv,rfl,h4,h5,h6,hs,h7⟩
   ·refine ⟨_,st,⟨rfl,rfl⟩,?_⟩
    rw [if_neg h1]
    refine (hs.shift _).trans (B2.tuple (B2.cons (B2.agg ?_) (B2.keep _ _)) rfl)
    exact B2.cons (K1 1 _) (B2.cons (B2.keep [eI 0] _) (B2.cons (B2.keep [eI 0] _) (K1 2 _)))
   ·refine ⟨_,st,⟨rfl,rfl⟩,?_⟩
    rw [if_pos h1,←hX]
    refine B2.tuple (B2.cons (B2.agg ?_) (B2.keep _ _)) rfl
    have hnl:X.nets.length=l.length:=by rw [hX];show (S9 _ _).length=_;unfold S9;rw [List.length_map,List.length_range]
    clear hX
    have e1:B3 X.nets=.arr 1 l.length (fun k=>eI (gI X.nets k)):=by unfold B3 A7;rw [hnl]
    refine B2.cons (t:=del st' bn) ?_ (B2.cons (B2.keep [eI X.net] _) (B2.cons (B2.keep [eI X.ship] _) ?_))
    ·rw [e1];exact K8 h5 rfl (Nat.le_refl _) h6
    ·rcases h7 with ⟨h8,rfl⟩ | ⟨bd,g,rfl,h8,h9,h10,h11⟩
     ·rw [h8]
      exact ((F2.del hs h4).shift _).trans (K1 2 _)
     ·refine (K8 (b:=bd) (y:=⟨140,2,X.deals.length,g⟩) (f:=A0K X.deals) (by rw [Z6 h9];exact h10) rfl (Nat.le_refl _) h11).trans ?_
      exact (F2.del (F2.del hs h4) h8).shift _)
 have hC:=hR
 unfold O0 A8q at hC
 simp only [Bool.and_eq_true] at hC
 obtain ⟨⟨⟨⟨_,hpc⟩,_⟩,hfee,hfree⟩,_⟩:=hC
 rw [L1] at hfee hfree
 have hpk:D6 r codes l=if R8 codes=false then 2 else H0 (known r.items) l:=by unfold D6;rw [if_neg (by rw [hR];simp)]
 refine A5 [3,15,20] B7 mixed Tryz.func21 (by rfl) rfl rfl rfl ?_;conv=>whnf
 intro b6 hb6;conv=>whnf
 refine A4 (B5S r hsm hR _) ?_;conv=>whnf
 refine A4 (C0s codes hcn hcs _) ?_
 have h6s:∀ x:Q5,F2 st (upd st b6 x):=fun x=>(F2.refl st).upd hb6
 cases hcc:R8 codes
 ·rw [if_pos hcc] at hpk
  have hk0:D6 r codes l≠0:=by rw [hpk];decide
  conv=>whnf
  refine K4 (A0 ..) rfl (by omega) rfl (by rfl) ?_;conv=>whnf
  refine E9 (A0 ..) rfl (by omega) (A2 ..) ?_;conv=>whnf
  exact .inl ⟨hk0,by rw [hpk];rfl,(h6s _).over hb6⟩
 rw [if_neg (by rw [hcc];simp)] at hpk;conv=>whnf
 refine A4 (C0r r.items l hsm.n hln _) ?_
 rw [←hpk];conv=>whnf
 cases h1:(D6 r codes l != 0)
 case true =>
  have hk0:D6 r codes l≠0:=by simpa using h1
  conv=>whnf
  refine K4 (A0 ..) rfl (by omega) rfl (by rfl) ?_;conv=>whnf
  refine E9 (A0 ..) rfl (by omega) (A2 ..) ?_;conv=>whnf
  exact .inl ⟨hk0,rfl,(h6s _).over hb6⟩
 have hk0:D6 r codes l=0:=by simpa using h1
 have hck:=A8K hk0
 have hli:=hck.lines
 have hlen:=hli.len
 have hus0:=B3e hli
 have hitl:(C8 r.items l).length=l.length:=List.length_map ..
 obtain ⟨u1,u2,u3⟩:=A1B l hli.line l.length (Nat.le_refl _)
 conv=>whnf
 refine ⟨[],[],List.range 13,by kernel_rfl,?_⟩;conv=>whnf
 refine ⟨_,C9 (C0w l hlen hli.line (eq_of_beq hli.may) hus0.ok.len _),?_⟩;conv=>whnf
 refine ⟨_,C9 (C0u r.items l hsm.n hlen hli.known _),?_⟩;conv=>whnf
 refine ⟨_,C9 (B8v r.promos codes hpc hcn _),?_⟩;conv=>whnf
 have hol:(P2 r.promos codes).length≤60:=by
  rw [(P9 _ _).length_eq]
  have:=Q3 r.promos codes r.promos.length
  have:=hck.few;omega
 have hom:∀ x∈P2 r.promos codes,0≤x∧x.toNat<r.promos.length:=fun x hx=>T3 ((P9 _ _).mem_iff.1 hx)
 have hXd:X=⟨S9 l.length (p1B r l (P2 r.promos codes)).us,K6 (p1B r l (P2 r.promos codes)),(p2B r l (p1B r l (P2 r.promos codes)) (P2 r.promos codes)).2,(p2B r l (p1B r l (P2 r.promos codes)) (P2 r.promos codes)).1.deals⟩:=hX
 clear hX
 generalize P2 r.promos codes=o at *
 generalize hs6:(upd st b6 _)=s6 at *
 have h6:s6 b6=some ⟨44,4,1,fun _=>K3 r44.zero⟩:=by rw [←hs6];exact A0 ..
 have hst6:F2 st s6:=by rw [←hs6];exact h6s _
 clear hs6
 refine mkO rfl rfl rfl (by show 8 * l.length≤_;omega) (by omega) (by rfl) (fun bn hbn=>?_);conv=>whnf
 intro bp hbp
 have hnb:bn≠bp:=fun e=>by subst e;rw [A0] at hbp;cases hbp
 have hbp6:s6 bp=none:=by rw [A8 hnb.symm] at hbp;exact hbp
 have hb6p:b6≠bp:=fun e=>by subst e;rw [h6] at hbp6;cases hbp6
 have hb6n:b6≠bn:=fun e=>by subst e;rw [h6] at hbn;cases hbn
 have hstn:st bn=none:=hst6.none hbn
 have hstp:st bp=none:=hst6.none hbp6
 conv=>whnf
 refine K4 (A0 ..) rfl (by omega) rfl (by rfl) ?_
 rw [B6];conv=>whnf
 have hat:∀ {dl:List A1a} {gr:List D7} {dv gv:AV} {Y Z:Q5} {t:St},RD dl gr dv gv (upd (upd s6 bn Y) bp Z) t→t bn=some Y∧t bp=some Z:=fun h=>⟨h.sup bn _ (by rw [A8 hnb,A0]),h.sup bp _ (A0 ..)⟩
 have hwn:∀ {dl:List A1a} {gr:List D7} {dv gv:AV} {Y Z Y':Q5} {t:St},RD dl gr dv gv (upd (upd s6 bn Y) bp Z) t→RD dl gr dv gv (upd (upd s6 bn Y') bp Z) (upd t bn Y'):=fun {_ _ _ _ Y Z Y' t} h=>by
  have:=h.wr (b:=bn) (y':=Y') (by rw [A8 hnb,A0])
  rw [L0 hnb.symm,B6] at this;exact this
 have hwp:∀ {dl:List A1a} {gr:List D7} {dv gv:AV} {Y Z Z':Q5} {t:St},RD dl gr dv gv (upd (upd s6 bn Y) bp Z) t→RD dl gr dv gv (upd (upd s6 bn Y) bp Z') (upd t bp Z'):=fun {_ _ _ _ Y Z Z' t} h=>by
  have:=h.wr (b:=bp) (y':=Z') (A0 ..)
  rw [B6] at this;exact this
 have htk:∀ {i:Nat},i<o.length→o.take (i+1)=o.take i++[gI o i]:=fun h=>K2 h
 refine lp o.length [3,6,9,10,11,12,13,14] (fun i vs t=>∃ (p:PSt) (dv gv:AV) (G:List D7) (fp:Nat→AV),p=V7 (fun p=>p) (A3G (C8 r.items l)) Q6 r.promos ⟨R6 l,[],[]⟩ (o.take i) ∧
   vs=[.fptr (J2 r) 0,.optr 4 b6 0 0,C6 p.us,A7 4 E3 (C8 r.items l),B3 o,.optr 4 bp 0 0,gv,eI i] ∧
   RD p.deals G dv gv (upd (upd s6 bn ⟨2,1,l.length,fun _=>K3 r2.zero⟩) bp ⟨44,4,1,fp⟩) t∧fp 0=.agg [.own 1 bn 0 l.length,eI 0,eI 0,dv] ∧
   named G=p.groups∧G.length≤i∧p.deals.length≤i∧A5L (C8 r.items l) p.us∧∃ x,Off (R6 l) p.us x) ?_ ?_
 ·conv=>whnf
  exact ⟨⟨R6 l,[],[]⟩,.emp,.emp,[],_,rfl,rfl,RD.start _,A2 ..,rfl,Nat.le_refl _,Nat.le_refl _,hus0,0,Off.refl hus0.ok⟩
 ·rintro i vs t hi ⟨p,dv,gv,G,fp,hp,rfl,hR,hfp,hG,hGn,hDn,hus,x,hoff⟩
  conv=>whnf
  cases hd:decide ((i:Int)<(o.length:Int))
  case true =>
   have hi':=F7 hd
   have hx:=hom _ (B4 hi')
   have hx0:0≤gI o (i:Int).toNat:=hx.1
   have hx1:(gI o (i:Int).toNat).toNat<r.promos.length:=hx.2
   have hpm:D5 r.promos (gI o i)∈r.promos:=B4 hx.2
   have hpr:D5 r.promos (gI o i)=r.promos.getD (gI o (i:Int).toNat).toNat default:=rfl
   have hps:PSm (D5 r.promos (gI o i)):=⟨hsm.promos _ hpm,hck.promo _ hpm,hf.fit _ hpm⟩
   have hnext:=A9r (fun p=>p) (A3G (C8 r.items l)) Q6 r.promos ⟨R6 l,[],[]⟩ (o.take i) (gI o i)
   rw [←htk hi',←hp,hpr] at hnext
   rw [hpr] at hps;conv=>whnf
   refine ⟨[8,9],[1,5,7],List.range 10,by kernel_rfl,?_⟩;conv=>whnf
   refine ⟨_,fun s _=>⟨rfl,rfl⟩,?_⟩;conv=>whnf
   refine ⟨rfl,⟨by omega,by omega⟩,?_⟩;conv=>whnf
   refine ⟨_,fun s _=>⟨rfl,rfl⟩,?_⟩;conv=>whnf
   refine ⟨rfl,⟨by show 0≤gI o (i:Int).toNat;omega,by show gI o (i:Int).toNat<(r.promos.length:Int);omega⟩,?_⟩;conv=>whnf
   refine ⟨_,fun s _=>⟨rfl,rfl⟩,?_⟩;conv=>whnf
   have hend:∀ {q:PSt} {dv' gv':AV} {G':List D7} {fp':Nat→AV} {t':St},q=V7 (fun p=>p) (A3G (C8 r.items l)) Q6 r.promos ⟨R6 l,[],[]⟩ (o.take (i+1))→RD q.deals G' dv' gv' (upd (upd s6 bn ⟨2,1,l.length,fun _=>K3 r2.zero⟩) bp ⟨44,4,1,fp'⟩) t'→fp' 0=.agg [.own 1 bn 0 l.length,eI 0,eI 0,dv'] →
     named G'=q.groups→G'.length≤i+1→q.deals.length≤i+1→A5L (C8 r.items l) q.us→(∃ x,Off (R6 l) q.us x)→∃ (p:PSt) (dv gv:AV) (G:List D7) (fp:Nat→AV),p=V7 (fun p=>p) (A3G (C8 r.items l)) Q6 r.promos ⟨R6 l,[],[]⟩ (o.take (i+1)) ∧
     [.fptr (J2 r) 0,.optr 4 b6 0 0,C6 q.us,A7 4 E3 (C8 r.items l),B3 o,.optr 4 bp 0 0,gv',eI (IntKind.i64.wrap ((i:Int)+1))]=[.fptr (J2 r) 0,.optr 4 b6 0 0,C6 p.us,A7 4 E3 (C8 r.items l),B3 o,.optr 4 bp 0 0,gv,eI ((i+1:Nat):Int)] ∧
     RD p.deals G dv gv (upd (upd s6 bn ⟨2,1,l.length,fun _=>K3 r2.zero⟩) bp ⟨44,4,1,fp⟩) t'∧fp 0=.agg [.own 1 bn 0 l.length,eI 0,eI 0,dv] ∧
     named G=p.groups∧G.length≤i+1∧p.deals.length≤i+1∧A5L (C8 r.items l) p.us∧∃ x,Off (R6 l) p.us x:=fun {q dv' gv' G' fp' t'} h1 h2 h3 h4 h5 h6 h7 h8=>⟨q,dv',gv',G',fp',h1,by rw [C0 (by omega)],h2,h3,h4,h5,h6,h7,h8⟩
   cases h7:((r.promos.getD (gI o (i:Int).toNat).toNat default).kind==7)
   case true =>
    rw [if_neg (by unfold Q6;rw [h7];simp)] at hnext;conv=>whnf
    refine ⟨rfl,?_⟩;conv=>whnf
    exact nx hi' (hend hnext.symm hR hfp hG (by omega) (by omega) hus ⟨x,hoff⟩)
   case false =>
    have hns:Q6 (r.promos.getD (gI o (i:Int).toNat).toNat default)=true:=by unfold Q6;rw [h7];rfl
    rw [if_pos hns,C1F hns hG] at hnext;conv=>whnf
    refine A4 (B4x G (r.promos.getD (gI o (i:Int).toNat).toNat default).group (by omega) gv _ hR.groups) ?_
    cases htk:(!J6 (r.promos.getD (gI o (i:Int).toNat).toNat default).group&&G.any fun y=>y.toList==(r.promos.getD (gI o (i:Int).toNat).toNat default).group.toList)
    case true =>
     rw [if_pos htk] at hnext;conv=>whnf
     refine ⟨rfl,?_⟩;conv=>whnf
     exact nx hi' (hend hnext.symm hR hfp hG (by omega) (by omega) hus ⟨x,hoff⟩)
    case false =>
     rw [if_neg (by rw [htk];simp)] at hnext
     have hk7:(r.promos.getD (gI o (i:Int).toNat).toNat default).kind≠7:=by simpa using h7
     obtain ⟨y,hoy⟩:=B3s hus hps.fit hps.right hk7
     have hus2:=hus.off hoy
     have hof2:=hoff.trans hoy
     rw [←hnext] at hus2 hof2
     have hAs:A3G (C8 r.items l) p (r.promos.getD (gI o (i:Int).toNat).toNat default)=if (X1 (C8 r.items l) p.us (r.promos.getD (gI o (i:Int).toNat).toNat default)).2>0 then A0O ⟨(X1 (C8 r.items l) p.us (r.promos.getD (gI o (i:Int).toNat).toNat default)).1,p.deals,p.groups⟩ (r.promos.getD (gI o (i:Int).toNat).toNat default) (X1 (C8 r.items l) p.us (r.promos.getD (gI o (i:Int).toNat).toNat default)).2 else p:=rfl
     conv=>whnf
     refine call (C4q (C8 r.items l) p.us (r.promos.getD (gI o (i:Int).toNat).toNat default) hps hk7 hus _) (fun v t' hv=>?_)
     obtain ⟨⟨z,rfl,hz⟩,rfl⟩:=hv
     conv=>whnf
     cases hgt:decide ((X1 (C8 r.items l) p.us (r.promos.getD (gI o (i:Int).toNat).toNat default)).2>0)
     case false =>
      rw [if_neg (of_decide_eq_false hgt)] at hAs
      rw [hAs] at hnext;conv=>whnf
      refine ⟨rfl,?_⟩;conv=>whnf
      exact nx hi' (hend hnext.symm hR hfp hG (by omega) (by omega) hus ⟨x,hoff⟩)
     case true =>
      have hgt':=of_decide_eq_true hgt
      rw [if_pos hgt'] at hAs
      rw [hAs] at hnext
      obtain rfl:=hz hgt'
      conv=>whnf
      refine RD.appG (y:=(r.promos.getD (gI o (i:Int).toNat).toNat default).group) hR rfl rfl (by omega) (fun gv' t1 hR1=>?_);conv=>whnf
      have hdv:=ROut.head hR1
      rcases hdv with rfl | ⟨bo,rfl⟩
      all_goals
       refine E9 (hat hR1).2 rfl (by omega) hfp ?_;conv=>whnf
       refine RD.appD (y:=⟨(r.promos.getD (gI o (i:Int).toNat).toNat default).id,(X1 (C8 r.items l) p.us (r.promos.getD (gI o (i:Int).toNat).toNat default)).2⟩) hR1 rfl (by rfl) (by omega) (fun bd t2 hR2=>?_);conv=>whnf
       refine K4 (hat hR2).2 rfl (by omega) hfp (by rfl) ?_;conv=>whnf
       refine ⟨rfl,?_⟩;conv=>whnf
       refine nx hi' ?_
       have hD:(A0O ⟨(X1 (C8 r.items l) p.us (r.promos.getD (gI o (i:Int).toNat).toNat default)).1,p.deals,p.groups⟩ (r.promos.getD (gI o (i:Int).toNat).toNat default) (X1 (C8 r.items l) p.us (r.promos.getD (gI o (i:Int).toNat).toNat default)).2).deals=p.deals++[⟨(r.promos.getD (gI o (i:Int).toNat).toNat default).id,(X1 (C8 r.items l) p.us (r.promos.getD (gI o (i:Int).toNat).toNat default)).2⟩]:=rfl
       have hGr:(A0O ⟨(X1 (C8 r.items l) p.us (r.promos.getD (gI o (i:Int).toNat).toNat default)).1,p.deals,p.groups⟩ (r.promos.getD (gI o (i:Int).toNat).toNat default) (X1 (C8 r.items l) p.us (r.promos.getD (gI o (i:Int).toNat).toNat default)).2).groups=p.groups++(if J6 (r.promos.getD (gI o (i:Int).toNat).toNat default).group=true then [] else [(r.promos.getD (gI o (i:Int).toNat).toNat default).group]):=rfl
       have hUs:(A0O ⟨(X1 (C8 r.items l) p.us (r.promos.getD (gI o (i:Int).toNat).toNat default)).1,p.deals,p.groups⟩ (r.promos.getD (gI o (i:Int).toNat).toNat default) (X1 (C8 r.items l) p.us (r.promos.getD (gI o (i:Int).toNat).toNat default)).2).us=(X1 (C8 r.items l) p.us (r.promos.getD (gI o (i:Int).toNat).toNat default)).1:=rfl
       rw [hnext] at hus2 hof2
       exact hend (G':=G++[(r.promos.getD (gI o (i:Int).toNat).toNat default).group]) hnext.symm (hwp hR2) (A2 ..) (by rw [A9E,hG];rfl) (by rw [List.length_append];show G.length+1≤_;omega) (by rw [hD,List.length_append];show p.deals.length+1≤_;omega) hus2 ⟨_,hof2⟩
  case false =>
   obtain rfl:=D1 hd hi
   rw [List.take_length] at hp
   have hp1:p1B r l o=p:=hp.symm
   rw [hp1] at hXd
   clear hp1 hp
   have hu1:=hus.ok
   have hul:=hu1.len
   have hus1:=hu1.sum
   have hnet0:=C7 hu1.nets0
   have hline:∀ k,k<p.us.length→0≤(gU p.us k).line∧(gU p.us k).line.toNat<l.length:=fun k hk=>by
    have:=hus.line _ (B4 hk)
    rw [hitl] at this;exact this
   have hul1:p.us.length=(R6 l).length:=hoff.len
   conv=>whnf
   refine lp p.us.length [3,6,9,11,12,13,18] (fun k vs t=>∃ (fn fp:Nat→AV),vs=[.fptr (J2 r) 0,.optr 4 b6 0 0,C6 p.us,B3 o,.optr 4 bp 0 0,gv,eI k] ∧
    RD p.deals G dv gv (upd (upd s6 bn ⟨2,1,l.length,fn⟩) bp ⟨44,4,1,fp⟩) t∧fp 0=.agg [.own 1 bn 0 l.length,eI (A6 ((E0 p.us).take k)),eI 0,dv]∧∀ j,j<l.length→fn j=eI (F6 (p.us.take k) j)) ?_ ?_
   ·conv=>whnf
    exact ⟨_,fp,rfl,hR,hfp,fun j _=>rfl⟩
   ·clear hR hfp fp
    rintro k vs t hk ⟨fn,fp,rfl,hR,hfp,hfn⟩
    obtain ⟨htn,htp⟩:=hat hR
    conv=>whnf
    cases hd2:decide ((k:Int)<(p.us.length:Int))
    case true =>
     have hk':=F7 hd2
     have hlk:0≤(gU p.us (k:Int).toNat).line∧(gU p.us (k:Int).toNat).line.toNat<l.length:=hline k hk'
     have hn0:0≤(gU p.us k).net:=hu1.at0 k
     have hn1:(gU p.us k).net≤10000000000000:=hu1.le (B4 hk')
     have e1:=N4 (l:=E0 p.us) (i:=k) (by rw [List.length_map];exact hk')
     have e4:gI (E0 p.us) k=(gU p.us k).net:=D8 B5.net p.us hk'
     have e2:=M0 hu1.nets0 (k+1)
     have e3:=C7 (l:=(E0 p.us).take k) (fun x hx=>hu1.nets0 x (List.take_subset _ _ hx))
     have hlb:=A0d hu1 k (gU p.us (k:Int).toNat).line.toNat
     have hlb2:=A0d hu1 (k+1) (gU p.us (k:Int).toNat).line.toNat
     have hln1:F6 (p.us.take (k+1)) (gU p.us (k:Int).toNat).line.toNat=F6 (p.us.take k) (gU p.us (k:Int).toNat).line.toNat+(gU p.us (k:Int).toNat).net:=(U6 hk' (gU p.us k).line.toNat).trans (if_pos rfl)
     have hfl:fn (0+(gU p.us (k:Int).toNat).line.toNat)=eI (F6 (p.us.take k) (gU p.us (k:Int).toNat).line.toNat):=by rw [Nat.zero_add];exact hfn _ hlk.2
     have w1:IntKind.i64.wrap (F6 (p.us.take k) (gU p.us (k:Int).toNat).line.toNat+(gU p.us (k:Int).toNat).net)=F6 (p.us.take (k+1)) (gU p.us (k:Int).toNat).line.toNat:=by rw [hln1];exact A9 (by omega) (by omega)
     have w2:IntKind.i64.wrap (A6 ((E0 p.us).take k)+(gU p.us (k:Int).toNat).net)=A6 ((E0 p.us).take (k+1)):=by rw [e1,e4];exact A9 (by omega) (by omega)
     conv=>whnf
     refine ⟨[23],[],List.range 24,by kernel_rfl,?_⟩;conv=>whnf
     refine E9 htp rfl (by omega) hfp ?_;conv=>whnf
     refine ⟨rfl,⟨by omega,by omega⟩,?_⟩;conv=>whnf
     refine E9 htp rfl (by omega) hfp ?_;conv=>whnf
     refine ⟨rfl,⟨by omega,by omega⟩,?_⟩;conv=>whnf
     refine ⟨rfl,⟨by show 0≤(gU p.us (k:Int).toNat).line;exact hlk.1,by show (gU p.us (k:Int).toNat).line<(l.length:Int);have:=hlk.2;have:=hlk.1;omega⟩,?_⟩;conv=>whnf
     refine E9 htn rfl (by show 0+(gU p.us (k:Int).toNat).line.toNat<_;have:=hlk.2;omega) hfl ?_;conv=>whnf
     refine ⟨rfl,⟨by omega,by omega⟩,?_⟩;conv=>whnf
     refine ⟨rfl,⟨by show 0≤(gU p.us (k:Int).toNat).line;exact hlk.1,by show (gU p.us (k:Int).toNat).line<(l.length:Int);have:=hlk.2;have:=hlk.1;omega⟩,?_⟩;conv=>whnf
     refine K4 htn rfl (by show 0+(gU p.us (k:Int).toNat).line.toNat<_;have:=hlk.2;omega) hfl (by rfl) ?_
     have hP5:=hwn (Y':=⟨2,1,l.length,G5 fn (0+(gU p.us (k:Int).toNat).line.toNat) (eI (F6 (p.us.take (k+1)) (gU p.us (k:Int).toNat).line.toNat))⟩) hR
     rw [←w1] at hP5
     obtain ⟨_,htp2⟩:=hat hP5
     conv=>whnf
     refine ⟨[9],[],List.range 10,by kernel_rfl,?_⟩;conv=>whnf
     refine E9 htp2 rfl (by omega) hfp ?_;conv=>whnf
     refine ⟨rfl,⟨by omega,by omega⟩,?_⟩;conv=>whnf
     refine K4 htp2 rfl (by omega) hfp (by rfl) ?_;conv=>whnf
     refine ⟨rfl,?_⟩;conv=>whnf
     refine nx hk' ⟨_,_,by rw [C0 (by omega)],hwp hP5,?_,fun j hj=>?_⟩
     ·rw [A2,←w2];rfl
     ·show G5 fn (0+(gU p.us (k:Int).toNat).line.toNat) _ j=_
      rw [Nat.zero_add]
      by_cases hj2:j=(gU p.us (k:Int).toNat).line.toNat
      ·subst hj2
       rw [A2,w1]
      ·rw [G2 hj2,U6 hk' j,if_neg (fun e=>hj2 e.symm)];exact hfn j hj
    case false =>
     obtain rfl:=D1 hd2 hk
     rw [List.take_length] at hfn
     have htk2:(E0 p.us).take p.us.length=E0 p.us:=by rw [←List.length_map (f:=B5.net),List.take_length]
     rw [htk2] at hfp
     change fp 0=.agg [.own 1 bn 0 l.length,eI (K6 p),eI 0,dv] at hfp
     have hF:Z7 r.ship (R6 l).length (K6 p)=if ((p.us.length:Int)=0∨(r.ship.free>0∧K6 p≥r.ship.free)) then 0 else r.ship.fee:=by unfold Z7;rw [hul1]
     have hnb0:0≤K6 p:=hnet0
     conv=>whnf
     refine C3 (fun g1=>?_) (fun g1=>?_)<;>rw [g1]<;>simp only [decide_eq_true_eq,decide_eq_false_iff_not] at g1
     case' refine_1 =>
      conv=>whnf
      refine C3 (fun g2=>?_) (fun g2=>?_)<;>rw [g2]<;>simp only [beq_iff_eq,beq_eq_false_iff_ne,ne_eq] at g2
     case' refine_1.refine_1 =>
      conv=>whnf
      refine K4 htp rfl (by omega) hfp (by rfl) ?_
      have hR3:=hwp (Z':=⟨44,4,1,G5 fp 0 (.agg [.own 1 bn 0 l.length,eI (K6 p),eI r.ship.fee,dv])⟩) hR
      have hfp3:G5 fp 0 (.agg [.own 1 bn 0 l.length,eI (K6 p),eI r.ship.fee,dv]) 0=.agg [.own 1 bn 0 l.length,eI (K6 p),eI (Z7 r.ship (R6 l).length (K6 p)),dv]:=by rw [A2,hF,if_neg (by omega)]
     case' refine_1.refine_2 =>
      conv=>whnf
      refine E9 htp rfl (by omega) hfp ?_;conv=>whnf
      refine C3 (fun g3=>?_) (fun g3=>?_)<;>rw [g3]<;>simp only [decide_eq_true_eq,decide_eq_false_iff_not] at g3
     case' refine_1.refine_2.refine_1 =>
      conv=>whnf
      refine K4 htp rfl (by omega) hfp (by rfl) ?_
      have hR3:=hwp (Z':=⟨44,4,1,G5 fp 0 (.agg [.own 1 bn 0 l.length,eI (K6 p),eI r.ship.fee,dv])⟩) hR
      have hfp3:G5 fp 0 (.agg [.own 1 bn 0 l.length,eI (K6 p),eI r.ship.fee,dv]) 0=.agg [.own 1 bn 0 l.length,eI (K6 p),eI (Z7 r.ship (R6 l).length (K6 p)),dv]:=by rw [A2,hF,if_neg (by omega)]
     case' refine_1.refine_2.refine_2 =>
      have hR3:=hR
      have hfp3:fp 0=.agg [.own 1 bn 0 l.length,eI (K6 p),eI (Z7 r.ship (R6 l).length (K6 p)),dv]:=by rw [hfp,hF,if_pos (by omega)]
     case' refine_2 =>
      have hR3:=hR
      have hfp3:fp 0=.agg [.own 1 bn 0 l.length,eI (K6 p),eI (Z7 r.ship (R6 l).length (K6 p)),dv]:=by rw [hfp,hF,if_pos (by omega)]
     all_goals
      conv=>whnf
      clear hR hfp hF
      have hfeB:0≤Z7 r.ship (R6 l).length (K6 p)∧Z7 r.ship (R6 l).length (K6 p)≤10000000000000:=by
       unfold Z7;split<;>omega
      refine lp o.length [3,6,11,12,13,19] (fun i vs t=>∃ (a:PSt×Int) (dv gv:AV) (G:List D7) (fp:Nat→AV),a=V7 (fun a=>a.1) (R5 (K6 p)) X6 r.promos (p,Z7 r.ship (R6 l).length (K6 p)) (o.take i) ∧
       vs=[.fptr (J2 r) 0,.optr 4 b6 0 0,B3 o,.optr 4 bp 0 0,gv,eI i] ∧
       RD a.1.deals G dv gv (upd (upd s6 bn ⟨2,1,l.length,fn⟩) bp ⟨44,4,1,fp⟩) t∧fp 0=.agg [.own 1 bn 0 l.length,eI (K6 p),eI a.2,dv] ∧
       named G=a.1.groups∧G.length≤60+i∧a.1.deals.length≤60+i∧0≤a.2∧a.2≤10000000000000) ?_ ?_
      ·conv=>whnf
       exact ⟨(p,Z7 r.ship (R6 l).length (K6 p)),dv,gv,G,_,rfl,rfl,hR3,hfp3,hG,by omega,by show p.deals.length≤_;omega,hfeB⟩
      clear hR3 hfp3 hG hGn hDn htp htn hd hd2 hk hi
      rintro i vs t hi ⟨a,dv,gv,G,fp,ha,rfl,hR,hfp,hG,hGn,hDn,ha0,ha1⟩
      obtain ⟨htn,htp⟩:=hat hR
      conv=>whnf
      cases hd:decide ((i:Int)<(o.length:Int))
      case false =>
       obtain rfl:=D1 hd hi
       rw [List.take_length] at ha
       have hp2:p2B r l p o=a:=ha.symm
       rw [hp2] at hXd
       have h6b:t b6=some ⟨44,4,1,fun _=>K3 r44.zero⟩:=hR.sup b6 _ (by rw [A8 hb6p,A8 hb6n];exact h6)
       have h76:F2 s6 t:=fun c x hc=>hR.sup c x (by
        have e1:c≠bp:=fun e=>by subst e;rw [hbp6] at hc;cases hc
        have e2:c≠bn:=fun e=>by subst e;rw [hbn] at hc;cases hc
        rw [A8 e1,A8 e2];exact hc)
       have hS2:F2 st t:=hst6.trans h76
       have hnets:∀ k,k<l.length→fn k=eI (gI X.nets k):=fun k hk=>by
        rw [hXd,hfn k hk]
        show eI _=eI (gI (S9 l.length p.us) k)
        unfold S9
        rw [J4 _ hk]
       conv=>whnf
       rcases hR.deals with ⟨hd0,rfl⟩ | ⟨bd,gd,rfl,hbd,hbt,hgd⟩
       ·refine E9 htp rfl (by omega) hfp ?_;conv=>whnf
        refine K4 h6b rfl (by omega) rfl (by rfl) ?_;conv=>whnf
        refine E9 (A0 ..) rfl (by omega) (A2 ..) ?_;conv=>whnf
        exact .inr ⟨hk0,bn,fn,.emp,by rw [hXd];rfl,hstn,by rw [A8 hb6n.symm];exact htn,hnets,hS2.over hb6,.inl ⟨by rw [hXd];exact hd0,rfl⟩⟩
       ·have hbdp:bd≠bp:=fun e=>by subst e;rw [A0] at hbd;cases hbd
        rw [A8 hbdp] at hbd
        have hbdn:bd≠bn:=fun e=>by subst e;rw [A0] at hbd;cases hbd
        rw [A8 hbdn] at hbd
        have hbd6:bd≠b6:=fun e=>by subst e;rw [h6] at hbd;cases hbd
        refine E9 htp rfl (by omega) hfp ?_;conv=>whnf
        refine K4 h6b rfl (by omega) rfl (by rfl) ?_;conv=>whnf
        refine E9 (A0 ..) rfl (by omega) (A2 ..) ?_;conv=>whnf
        exact .inr ⟨hk0,bn,fn,.own 2 bd 0 a.1.deals.length,by rw [hXd];rfl,hstn,by rw [A8 hb6n.symm];exact htn,hnets,hS2.over hb6,.inr ⟨bd,gd,by rw [hXd],hst6.none hbd,hbdn,by rw [A8 hbd6,hXd];exact hbt,by rw [hXd];exact hgd⟩⟩
      case true =>
       have hi':=F7 hd
       have hx:=hom _ (B4 hi')
       have hx0:0≤gI o (i:Int).toNat:=hx.1
       have hx1:(gI o (i:Int).toNat).toNat<r.promos.length:=hx.2
       have hpm:(r.promos.getD (gI o (i:Int).toNat).toNat default)∈r.promos:=B4 hx.2
       have hpc1:H4 (r.promos.getD (gI o (i:Int).toNat).toNat default)=true:=hck.promo _ hpm
       have hnext:V7 (fun a=>a.1) (R5 (K6 p)) X6 r.promos (p,Z7 r.ship (R6 l).length (K6 p)) (o.take (i+1))=if X6 (r.promos.getD (gI o (i:Int).toNat).toNat default)=true then goB (fun a=>a.1) (R5 (K6 p)) a (r.promos.getD (gI o (i:Int).toNat).toNat default) else a:=by
        rw [htk hi',A9r,←ha];rfl
       have hend:∀ {q:PSt×Int} {dv' gv':AV} {G':List D7} {fp':Nat→AV} {t':St},q=V7 (fun a=>a.1) (R5 (K6 p)) X6 r.promos (p,Z7 r.ship (R6 l).length (K6 p)) (o.take (i+1))→RD q.1.deals G' dv' gv' (upd (upd s6 bn ⟨2,1,l.length,fn⟩) bp ⟨44,4,1,fp'⟩) t'→fp' 0=.agg [.own 1 bn 0 l.length,eI (K6 p),eI q.2,dv'] →
         named G'=q.1.groups→G'.length≤60+(i+1)→q.1.deals.length≤60+(i+1)→0≤q.2∧q.2≤10000000000000→∃ (a:PSt×Int) (dv gv:AV) (G:List D7) (fp:Nat→AV),a=V7 (fun a=>a.1) (R5 (K6 p)) X6 r.promos (p,Z7 r.ship (R6 l).length (K6 p)) (o.take (i+1)) ∧
         [.fptr (J2 r) 0,.optr 4 b6 0 0,B3 o,.optr 4 bp 0 0,gv',eI (IntKind.i64.wrap ((i:Int)+1))]=[.fptr (J2 r) 0,.optr 4 b6 0 0,B3 o,.optr 4 bp 0 0,gv,eI ((i+1:Nat):Int)] ∧
         RD a.1.deals G dv gv (upd (upd s6 bn ⟨2,1,l.length,fn⟩) bp ⟨44,4,1,fp⟩) t'∧fp 0=.agg [.own 1 bn 0 l.length,eI (K6 p),eI a.2,dv] ∧
         named G=a.1.groups∧G.length≤60+(i+1)∧a.1.deals.length≤60+(i+1)∧0≤a.2∧a.2≤10000000000000:=fun {q dv' gv' G' fp' t'} h1 h2 h3 h4 h5 h6 h7=>⟨q,dv',gv',G',fp',h1,by rw [C0 (by omega)],h2,h3,h4,h5,h6,h7⟩
       conv=>whnf
       refine ⟨[8,9],[1,5,7],List.range 10,by kernel_rfl,?_⟩;conv=>whnf
       refine ⟨_,fun s _=>⟨rfl,rfl⟩,?_⟩;conv=>whnf
       refine ⟨rfl,⟨by omega,by omega⟩,?_⟩;conv=>whnf
       refine ⟨_,fun s _=>⟨rfl,rfl⟩,?_⟩;conv=>whnf
       refine ⟨rfl,⟨by show 0≤gI o (i:Int).toNat;omega,by show gI o (i:Int).toNat<(r.promos.length:Int);omega⟩,?_⟩;conv=>whnf
       refine ⟨_,fun s _=>⟨rfl,rfl⟩,?_⟩;conv=>whnf
       rw [show ((r.promos.getD (gI o (i:Int).toNat).toNat default).kind != 7)=!((r.promos.getD (gI o (i:Int).toNat).toNat default).kind==7) from rfl]
       cases h7:((r.promos.getD (gI o (i:Int).toNat).toNat default).kind==7)
       case false =>
        rw [if_neg (by unfold X6;rw [h7];simp)] at hnext;conv=>whnf
        refine ⟨rfl,?_⟩;conv=>whnf
        exact nx hi' (hend hnext.symm hR hfp hG (by omega) (by omega) ⟨ha0,ha1⟩)
       case true =>
        have hns:X6 (r.promos.getD (gI o (i:Int).toNat).toNat default)=true:=by unfold X6;rw [h7]
        rw [if_pos hns,C3j hG] at hnext;conv=>whnf
        refine A4 (B4x G (r.promos.getD (gI o (i:Int).toNat).toNat default).group (by omega) gv _ hR.groups) ?_
        cases htk2:(!J6 (r.promos.getD (gI o (i:Int).toNat).toNat default).group&&G.any fun y=>y.toList==(r.promos.getD (gI o (i:Int).toNat).toNat default).group.toList)
        case true =>
         rw [if_pos htk2] at hnext;conv=>whnf
         refine ⟨rfl,?_⟩;conv=>whnf
         exact nx hi' (hend hnext.symm hR hfp hG (by omega) (by omega) ⟨ha0,ha1⟩)
        case false =>
         rw [if_neg (by rw [htk2];simp)] at hnext
         have hgl:=B8a G
         rw [hG] at hgl
         have hinv:=B1p (net:=K6 p) (n:=0) hpc1 hns (a:=a) ⟨by omega,by omega,ha0,ha1⟩
         have hS0:R5 (K6 p) a (r.promos.getD (gI o (i:Int).toNat).toNat default)=((A5Y a.1 (r.promos.getD (gI o (i:Int).toNat).toNat default) (K6 p) a.2).2,(A5Y a.1 (r.promos.getD (gI o (i:Int).toNat).toNat default) (K6 p) a.2).1):=rfl
         have hSB:A5Y a.1 (r.promos.getD (gI o (i:Int).toNat).toNat default) (K6 p) a.2=if K6 p<(r.promos.getD (gI o (i:Int).toNat).toNat default).least then (a.2,a.1) else (a.2 - H9 a.2 (r.promos.getD (gI o (i:Int).toNat).toNat default).rate,if H9 a.2 (r.promos.getD (gI o (i:Int).toNat).toNat default).rate>0 then A0O a.1 (r.promos.getD (gI o (i:Int).toNat).toNat default) (H9 a.2 (r.promos.getD (gI o (i:Int).toNat).toNat default).rate) else a.1):=rfl
         rw [hS0] at hnext hinv;conv=>whnf
         refine E9 htp rfl (by omega) hfp ?_;conv=>whnf
         cases hgt:decide ((r.promos.getD (gI o (i:Int).toNat).toNat default).least>K6 p)
         case true =>
          have hgt':=of_decide_eq_true hgt
          rw [hSB,if_pos hgt'] at hnext;conv=>whnf
          refine ⟨rfl,?_⟩;conv=>whnf
          exact nx hi' (hend (q:=a) hnext.symm hR hfp hG (by omega) (by omega) ⟨ha0,ha1⟩)
         case false =>
          have hgt':=of_decide_eq_false hgt
          rw [if_neg (by omega)] at hSB
          have hb:=Q2 a.2 (r.promos.getD (gI o (i:Int).toNat).toNat default).rate
          have hr0:=(A0T hpc1).ship (by simpa using h7)
          have hle:=A3X ha0 (show 0≤(r.promos.getD (gI o (i:Int).toNat).toNat default).rate by omega) hr0.2
          have hw:IntKind.i64.wrap (a.2 - H9 a.2 (r.promos.getD (gI o (i:Int).toNat).toNat default).rate)=a.2 - H9 a.2 (r.promos.getD (gI o (i:Int).toNat).toNat default).rate:=A9 (by omega) (by omega)
          conv=>whnf
          refine E9 htp rfl (by omega) hfp ?_;conv=>whnf
          refine A4 (A7k a.2 (r.promos.getD (gI o (i:Int).toNat).toNat default).rate _) ?_;conv=>whnf
          cases hgh:decide (H9 a.2 (r.promos.getD (gI o (i:Int).toNat).toNat default).rate>0)
          case false =>
           have hgh':=of_decide_eq_false hgh
           rw [if_neg hgh'] at hSB
           rw [hSB,show a.2 - H9 a.2 (r.promos.getD (gI o (i:Int).toNat).toNat default).rate=a.2 by omega] at hnext;conv=>whnf
           refine ⟨rfl,?_⟩;conv=>whnf
           exact nx hi' (hend (q:=a) hnext.symm hR hfp hG (by omega) (by omega) ⟨ha0,ha1⟩)
          case true =>
           have hgh':=of_decide_eq_true hgh
           rw [if_pos hgh'] at hSB
           rw [hSB] at hnext hinv;conv=>whnf
           refine ⟨[1,6,7,8,10],[],[],.qui 0 (.qui 2 (.qui 4 (.qui 5 (.two 1 6 (.qui 3 (.qui 9 (.gen 6 (.gen 7 (.gen 8 (.gen 10 (.qui 11 .done))))))) (.two 1 7 (.qui 3 (.qui 9 (.gen 7 (.gen 8 (.gen 10 (.qui 11 .done)))))) (.two 1 8 (.qui 3 (.qui 9 (.gen 8 (.gen 10 (.qui 11 .done))))) (.gen 1 (.qui 3 (.qui 9 (.gen 10 (.qui 11 .done))))))))))),by kernel_rfl,?_⟩;conv=>whnf
           repeat' (refine And.intro ?_ ?_<;>(conv=>whnf))
           all_goals first
            | (refine E9 htp rfl (by omega) hfp ?_
               conv=>whnf
               refine RD.appG (y:=(r.promos.getD (gI o (i:Int).toNat).toNat default).group) hR rfl rfl (by omega) (fun gv' t1 hR1=>?_))
            | (refine RD.appG (y:=(r.promos.getD (gI o (i:Int).toNat).toNat default).group) hR rfl rfl (by omega) (fun gv' t1 hR1=>?_)
               conv=>whnf
               refine E9 (hat hR1).2 rfl (by omega) hfp ?_)
           all_goals
            conv=>whnf
            refine K4 (hat hR1).2 rfl (by omega) hfp (by rfl) ?_
            have hR2:=hwp (Z':=⟨44,4,1,G5 fp 0 (.agg [.own 1 bn 0 l.length,eI (K6 p),eI (IntKind.i64.wrap (a.2 - H9 a.2 (r.promos.getD (gI o (i:Int).toNat).toNat default).rate)),dv])⟩) hR1
            rcases ROut.head hR2 with rfl | ⟨bo,rfl⟩
            all_goals
             conv=>whnf
             refine E9 (hat hR2).2 rfl (by omega) (A2 ..) ?_;conv=>whnf
             refine RD.appD (y:=⟨(r.promos.getD (gI o (i:Int).toNat).toNat default).id,H9 a.2 (r.promos.getD (gI o (i:Int).toNat).toNat default).rate⟩) hR2 rfl (by rfl) (by omega) (fun bd t2 hR3=>?_);conv=>whnf
             refine K4 (hat hR3).2 rfl (by omega) (A2 ..) (by rfl) ?_;conv=>whnf
             refine ⟨rfl,?_⟩;conv=>whnf
             refine nx hi' ?_
             exact hend (q:=(A0O a.1 (r.promos.getD (gI o (i:Int).toNat).toNat default) (H9 a.2 (r.promos.getD (gI o (i:Int).toNat).toNat default).rate),a.2 - H9 a.2 (r.promos.getD (gI o (i:Int).toNat).toNat default).rate)) (G':=G++[(r.promos.getD (gI o (i:Int).toNat).toNat default).group]) hnext.symm (hwp hR3) (by rw [A2,hw];rfl) (by rw [A9E,hG];rfl) (by rw [List.length_append];show G.length+1≤_;omega) (by show (a.1.deals++[_]).length≤_;rw [List.length_append];show a.1.deals.length+1≤_;omega) ⟨by show 0≤a.2 - H9 a.2 (r.promos.getD (gI o (i:Int).toNat).toNat default).rate;omega,by show a.2 - H9 a.2 (r.promos.getD (gI o (i:Int).toNat).toNat default).rate≤_;omega⟩
end Go.Proofs.YthdimklenlikgaaGreat
