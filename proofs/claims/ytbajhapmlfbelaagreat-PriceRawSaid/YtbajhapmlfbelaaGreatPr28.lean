/- Part 28 of the proof: contracts of the functions that the law reaches -/
import Derived.Test.YtbajhapmlfbelaaGreatPr27
set_option maxRecDepth 100000
set_option linter.unusedVariables false
set_option linter.unusedSimpArgs false
namespace Go.Proofs.YtbajhapmlfbelaaGreat
open Go Go.Ab
attribute [local irreducible] upd del
abbrev RL (ls:List Int) (svl:AV):St→St→Prop:=fun s t=>ROut G3 2 1 (fun k=>eI (gI ls k)) ls.length s svl t
abbrev RA (all ls:List Int) (sva svl:AV):St→St→Prop:=fun s t=>ROut (RL ls svl) 3 1 (fun k=>eI (gI all k)) all.length s sva t
theorem B0U (ls:List Int) (svl:AV):J5 (RL ls svl):=A0a J9 _ _ _ _ _
theorem B5d (all ls:List Int) (sva svl:AV):J5 (RA all ls sva svl):=A0a (B0U ls svl) _ _ _ _ _
theorem RA.appA {all ls:List Int} {sva svl:AV} {s t:St} {y:Int} {x:AV} {k:KK} {g:Nat→AV} (h:RA all ls sva svl s t) (hs:V9 1 t x=some (1,g)) (hg:g 0=eI y) (hb:(all.length+1) * 8≤140737488355328)
  (hk:∀ sva' t',RA (all++[y]) ls sva' svl s t'→k sva' t'):A4w T 29 sva x t k :=
 ROut.app (q:=r3) (f:=fun k=>eI (gI (all++[y]) k)) (B0U ls svl) rfl rfl rfl rfl hs (by rw [hg];show eI y=eI (gI _ _);rw [A6c]) hb (ROut.congr h fun k hk=>by show eI _=eI _;rw [J4 hk]) (fun sv' t' h'=>hk sv' t' (by
  show ROut _ _ _ _ (all++[y]).length _ _ _
  rw [List.length_append];exact h'))
theorem RA.appL {all ls:List Int} {sva svl:AV} {s t:St} {y:Int} {x:AV} {k:KK} {g:Nat→AV} (h:RA all ls sva svl s t) (hs:V9 1 t x=some (1,g)) (hg:g 0=eI y) (hb:(ls.length+1) * 8≤140737488355328)
  (hk:∀ svl' t',RA all (ls++[y]) sva svl' s t'→k svl' t'):A4w T 41 svl x t k:=by
 obtain ⟨s0,hc,h⟩:=h
 refine ROut.app (q:=r2) (f:=fun k=>eI (gI (ls++[y]) k)) J9 rfl rfl rfl rfl hs (by rw [hg];show eI y=eI (gI _ _);rw [A6c]) hb (ROut.congr h fun k hk=>by show eI _=eI _;rw [J4 hk]) (fun sv' t' h'=>hk sv' t' ⟨s0,hc,?_⟩)
 show ROut _ _ _ _ (ls++[y]).length _ _ _
 rw [List.length_append];exact h'
theorem RA.start (s:St):RA [] [] .emp .emp s s:=ROut.start (ROut.start (G3.refl s) _ _ _) _ _ _
theorem RA.shift {all ls:List Int} {sva svl:AV} {s t:St} (h:RA all ls sva svl s t) (a b:AV):∃ t2,B3 [a,sva,svl,b] t [a,B6 all,B6 ls,b] t2∧G3 s t2:=by
 obtain ⟨t1,h1,h2⟩:=ROut.shift (B0U ls svl) h
 obtain ⟨t2,h3,h4⟩:=ROut.shift J9 h2
 exact ⟨t2,B3.cons (B3.keep _ _) (B3.cons h1 (B3.cons h3 (B3.keep _ _))),h4⟩
def A2t (u:List Bool) (l:List Int):List Bool:=l.foldl (fun u x=>u.set x.toNat true) u
theorem B4G (u:List Bool) (l:List Int):(A2t u l).length=u.length:=by
 unfold A2t
 induction l generalizing u with
 | nil=>rfl
 | cons x l ih=>rw [List.foldl_cons,ih,List.length_set]
theorem B4F {u:List Bool} {l:List Int} (hl:∀ x∈l,x.toNat<u.length) (j:Nat):(A2t u l).getD j default=true↔u.getD j default=true∨j∈l.map Int.toNat:=by
 unfold A2t
 induction l generalizing u with
 | nil=>simp
 | cons x l ih =>
  rw [List.foldl_cons,ih (fun y hy=>by rw [List.length_set];exact hl y (List.mem_cons_of_mem _ hy)),A4o (hl x (List.mem_cons_self ..)),List.map_cons,List.mem_cons]
  by_cases h:j=x.toNat
  ·simp [h]
  ·rw [if_neg h];simp [h]
theorem A7x {us:List B5} {l offs l' offs':List Int} (h:l.length=offs.length):∀ k,k≤offs'.length→k≤l'.length→D1 us (l++l') (offs++offs') (offs.length+k)=D1 (D1 us l offs offs.length) l' offs' k
 | 0,_,_=>by
  rw [Nat.add_zero]
  have:∀ n,n≤offs.length→D1 us (l++l') (offs++offs') n=D1 us l offs n:=fun n=>by
   induction n with
   | zero=>intro _;rfl
   | succ n ih =>
    intro hn
    unfold D1
    rw [ih (by omega),J4 (by omega),J4 (by omega)]
  exact this _ (Nat.le_refl _)
 | k+1,h1,h2=>by
  have ih:=A7x (us:=us) (l':=l') (offs':=offs') h k (by omega) (by omega)
  have e:∀ (a b:List Int),a.length=offs.length→gI (a++b) (offs.length+k)=gI b k:=fun a b ha=>by
   unfold gI
   rw [List.getD_eq_getElem?_getD,List.getD_eq_getElem?_getD,List.getElem?_append_right (by omega),ha,Nat.add_sub_cancel_left]
  rw [←Nat.add_assoc]
  unfold D1
  rw [ih,e l l' h,e offs offs' rfl]
structure C0i (p:A9) (us:List B5) (E:Nat→List QE) (D:Nat) (b:BSt) (ls:List Int):Prop where
 ok:BOk p us D b
 pre:A2B E p.parts.length ⟨b.ms.used,b.ms.es,[]⟩
 len:ls.length=b.taken.length
 out:b.out=D1 us b.taken ls ls.length
 sum:A5 ls=b.all
 pos:b.taken=[]∨0<b.all
 bnd:∀ k,k<ls.length→0≤gI ls k∧gI ls k≤(gU us (gI b.taken k).toNat).net
 nd:(b.taken.map Int.toNat).Nodup
 used:∀ x∈b.taken,b.ms.used.getD x.toNat default=true
theorem C0i.step {p:A9} (hp:A2z p) {us:List B5} (hu:E2 us) {E:Nat→List QE} {D:Nat} {b:BSt} {ls:List Int} (h:C0i p us E D b ls) {s:MSt} (hs:I3 p.parts p.parts.length ⟨b.ms.used,b.ms.es,[]⟩=some s) (hc:G4 us s.l>p.amount) :
  E4 us (C4 s.l)=G8 b.out (C4 s.l)∧C0i p us E D ⟨A1N b.out (C4 s.l) (G4 us s.l - p.amount),s,b.taken++C4 s.l,b.all+(G4 us s.l - p.amount)⟩ (ls++D4 (G4 us s.l - p.amount) (E4 us (C4 s.l))):=by
 obtain ⟨k1,k2,k3⟩:=h.ok.step hp hu hs hc
 have hok0:MOk us p.parts.length ⟨b.ms.used,b.ms.es,[]⟩:=⟨h.ok.ok.len,h.ok.ok.rng,h.ok.ok.srt,fun x hx=>by simp at hx⟩
 have hok:=MOk.parts hok0 (Nat.le_refl _) hs
 have htr:=S4.parts (S4.start b.ms.used b.ms.es) hok0 (Nat.le_refl _) hs
 have hpre:=h.pre.parts hok0 (Nat.le_refl _) hs
 have hN:E4 us (C4 s.l)=G8 b.out (C4 s.l):=by
  unfold E4 G8
  exact List.map_congr_left fun x hx=>by rw [h.ok.same _ (htr.free x (Q2.1 hx))]
 have hW:=k1.weights
 rw [←hN] at hW
 obtain ⟨a1,a2,a3⟩:=U8 hW
 have hle:=fun {k} (hk:k<(E4 us (C4 s.l)).length)=>A5t hW (by have:=k1.le;rw [←hN] at this;exact this) hk
 have hnl:=A3n us (C4 s.l)
 have hlf:A1N b.out (C4 s.l) (G4 us s.l - p.amount)=D1 b.out (C4 s.l) (D4 (G4 us s.l - p.amount) (E4 us (C4 s.l))) (D4 (G4 us s.l - p.amount) (E4 us (C4 s.l))).length:=by
  unfold A1N;rw [←hN,a2,hnl]
 have hlen:=h.len
 generalize D4 (G4 us s.l - p.amount) (E4 us (C4 s.l))=X at *
 refine ⟨hN,⟨k2,hpre,?_,?_,?_,?_,?_,?_,?_⟩⟩
 ·show (ls++X).length=(b.taken++C4 s.l).length
  rw [List.length_append,List.length_append];omega
 ·show A1N _ _ _=D1 us (b.taken++C4 s.l) (ls++X) (ls++X).length
  rw [hlf,h.out,List.length_append,A7x h.len.symm X.length (Nat.le_refl _) (by omega)]
 ·show A5 (ls++X)=_
  rw [F3,h.sum,a1]
 ·refine .inr ?_
  show 0<b.all+(G4 us s.l - p.amount)
  have:=h.ok.off.pos
  omega
 ·intro k hk
  show 0≤gI (ls++X) k∧gI (ls++X) k≤(gU us (gI (b.taken++C4 s.l) k).toNat).net
  by_cases hkl:k<ls.length
  ·rw [J4 hkl,J4 (by omega)];exact h.bnd k hkl
  ·have e:∀ (a b:List Int),a.length=ls.length→gI (a++b) k=gI b (k - ls.length):=fun a b ha=>by
    unfold gI
    rw [List.getD_eq_getElem?_getD,List.getD_eq_getElem?_getD,List.getElem?_append_right (by omega),ha]
   rw [List.length_append] at hk
   rw [e ls X rfl,e b.taken _ hlen.symm]
   refine ⟨a3 _ (B4 (by omega)),?_⟩
   have h9:=hle (k:=k - ls.length) (by omega)
   rw [show gI (E4 us (C4 s.l)) (k - ls.length)=(gU us (gI (C4 s.l) (k - ls.length)).toNat).net from E1 (fun i:Int=>(gU us i.toNat).net) _ (by omega)] at h9
   exact h9
 ·show ((b.taken++C4 s.l).map Int.toNat).Nodup
  rw [List.map_append]
  refine List.nodup_append.2 ⟨h.nd,((Z7 s.l).map Int.toNat).nodup_iff.2 htr.nd,fun x hx y hy e=>?_⟩
  subst e
  obtain ⟨u,hu1,rfl⟩:=List.mem_map.1 hx
  obtain ⟨w,hw1,hw2⟩:=List.mem_map.1 hy
  have f1:=h.used u hu1
  have f2:=htr.free w (Q2.1 hw1)
  rw [hw2,f1] at f2;cases f2
 ·intro x hx
  show s.used.getD x.toNat default=true
  rw [htr.used]
  rcases List.mem_append.1 hx with hx | hx
  ·exact .inl (h.used x hx)
  ·exact .inr (List.mem_map_of_mem (Q2.1 hx))
set_option maxHeartbeats 1000000 in
theorem B6O (p:A9) (us:List B5) (parts:List (List Int)) (hps:A0k p) (hright:F6 p=true) (hk:p.kind=4) (hp:A2z p) (hu:E2 us) (hl:parts.length=p.parts.length) (hm:∀ x∈parts,J8 us x) (st:St) :
  S P 168 [B7 p,C6 us,B2 1 B6 parts] st fun v st'=>v=.tuple [C6 (N9 p us parts).1,eI (N9 p us parts).2]∧st'=st:=by
 have hul:=hu.len
 have hn1:=hp.n1
 have hn8:=hp.n8
 have ha:=hp.amt
 have hme:∀ k,k<parts.length→J8 us (parts.getD k default):=fun k hk=>hm _ (B4 hk)
 have hst0:=A3S hu hl (fun k hk=>hme k hk)
 have hD:tot p.parts.length (E8 us parts).ms.es≤800000:=by
  have:=B9M (n:=p.parts.length) (B:=100000) (es:=(E8 us parts).ms.es) (fun i hi=>by
   show (D8 us (parts.getD i [])).length≤100000
   rw [A0H]
   exact Nat.le_trans (hme i (by omega)).len hul)
  have h8:p.parts.length * 100000≤8 * 100000:=Nat.mul_le_mul_right _ hn8
  omega
 refine A5c ?_
 refine A8 [3] B9 mixed Tryz.func168 (by rfl) rfl rfl rfl ?_;conv=>whnf
 refine N1.apps (q:=B6N) (f:=fun k=>S9 (gU us k)) rfl rfl rfl rfl (A5C _ _ _ _) (fun i hi=>by rw [Nat.zero_add]) (by show (0+us.length) * 24≤_;omega) (N1.start _ _ _ st) (fun svS st1 hcS=>?_)
 have hsupS:=hcS.sup
 clear hcS
 conv=>whnf
 refine B0 (A5z p hps hright _) ?_;conv=>whnf
 rw [show (p.kind != 4)=false from by rw [hk];rfl];conv=>whnf
 rw [show ((parts.length:Int) != (p.parts.length:Int))=false from by rw [hl];simp];conv=>whnf
 refine lp parts.length [1,2,3,8,9,10] (fun i vs s=>∃ sv,vs=[C6 us,B2 1 B6 parts,.fptr (B7 p) 0,svS,sv,eI i]∧F8 29 1 B6 ((parts.take i).map fun m=>(D8 us m).map (·.2)) st1 sv s) ?_ ?_
 ·conv=>whnf
  exact ⟨.emp,rfl,F8.start _ _ _ _⟩
 ·rintro i vs s hi ⟨sv,rfl,hc⟩
  conv=>whnf
  cases hd:decide ((i:Int)<(parts.length:Int))
  case true =>
   have hi':=G7 hd
   have hmi:J8 us (parts.getD (i:Int).toNat default):=by rw [Int.toNat_natCast];exact hme i hi'
   conv=>whnf
   refine ⟨rfl,⟨by omega,by omega⟩,?_⟩;conv=>whnf
   refine B0 (B4x us _ hu hmi _) ?_;conv=>whnf
   refine ⟨rfl,⟨by omega,by omega⟩,?_⟩;conv=>whnf
   refine B0 (B5D us _ hu hmi _) ?_;conv=>whnf
   refine F8.app (q:=r29) (y:=(D8 us (parts.getD (i:Int).toNat default)).map (·.2)) rfl rfl rfl rfl rfl rfl (by show (_+1) * 24≤140737488355328;rw [List.length_map,List.length_take];omega) hc (fun sv' s' hc'=>?_);conv=>whnf
   refine ⟨rfl,?_⟩;conv=>whnf
   exact nx hi' ⟨sv',by rw [C2 (by omega)],by rw [A1W hi'];exact hc'⟩
  obtain rfl:=E0 hd hi
  rw [List.take_length] at hc
  have hLl:(parts.map fun m=>(D8 us m).map (·.2)).length=parts.length:=List.length_map ..
  have hLg:∀ k,k<parts.length→(parts.map fun m=>(D8 us m).map (·.2)).getD k default=(D8 us (parts.getD k default)).map (·.2):=fun k hk=>E1 (fun m=>(D8 us m).map (·.2)) parts hk
  generalize (parts.map fun m=>(D8 us m).map (·.2))=L at *
  rcases hc with ⟨h0,_⟩ | ⟨h0,bl,gl,hbl,rfl,rfl,hgl⟩
  ·omega
  conv=>whnf
  refine mkO rfl rfl rfl (by show 1 * us.length≤_;omega) (by omega) (by rfl) (fun bu hbu=>?_)
  have hnlu:bl≠bu:=fun e=>by subst e;rw [A0] at hbu;cases hbu
  have hblS:(upd st1 bl ⟨29,1,L.length,gl⟩) bl=some ⟨29,1,L.length,gl⟩:=A0 ..
  have hsup2:G3 st (upd st1 bl ⟨29,1,L.length,gl⟩):=hsupS.upd hbl
  generalize upd st1 bl ⟨29,1,L.length,gl⟩=st2 at *
  conv=>whnf
  have hwb:∀ Y:Q3,(upd st2 bu Y) bl=some ⟨29,1,L.length,gl⟩:=fun Y=>by rw [B1 hnlu];exact hblS
  refine ⟨[1,3,9,11,12,13],fun m vs s=>∃ (b:BSt) (ls:List Int) (sva svl:AV) (gu:Nat→AV) (f:Nat),m=tot p.parts.length b.ms.es∧vs=[C6 us,.fptr (B7 p) 0,.own 1 bl 0 L.length,.own 1 bu 0 us.length,sva,svl] ∧
   C0i p us (fun k=>D8 us (parts.getD k default)) (tot p.parts.length (E8 us parts).ms.es) b ls∧(tot p.parts.length b.ms.es<f∧A1I p us (tot p.parts.length (E8 us parts).ms.es+1) (E8 us parts)=A1I p us f b) ∧
   RA b.taken ls sva svl (upd st2 bu ⟨4,1,us.length,gu⟩) s∧∀ k,k<us.length→gu k=eB (b.ms.used.getD k default),?_,?_⟩
  ·conv=>whnf
   refine ⟨_,E8 us parts,[],.emp,.emp,_,_,rfl,rfl,?_,⟨Nat.lt_succ_self _,rfl⟩,RA.start _,fun k hk=>?_⟩
   ·refine ⟨hst0,fun k hk=>⟨[],rfl,fun e he=>by cases he⟩,rfl,rfl,rfl,.inl rfl,fun k hk=>absurd hk (by simp),List.nodup_nil,fun x hx=>by simp [E8] at hx⟩
   ·show eB false=eB ((List.replicate us.length false).getD k default)
    simp [List.getD_eq_getElem?_getD,hk]
  ·rintro m vs s ⟨b,ls,sva,svl,gu,f,rfl,rfl,hI,⟨hf1,hF⟩,hR,hgu⟩
   have hok0:MOk us p.parts.length ⟨b.ms.used,b.ms.es,[]⟩:=⟨hI.ok.ok.len,hI.ok.ok.rng,hI.ok.ok.srt,fun x hx=>by simp at hx⟩
   have hBA:=B5d b.taken ls sva svl
   have hsu:=hBA.sup hR
   have hsu1:=hsu bu _ (A0 ..)
   have hsl1:=hsu bl _ (hwb _)
   have hbl2:=hI.ok.len
   obtain ⟨f,rfl⟩:∃ g,f=g+1:=⟨f - 1,by omega⟩
   conv=>whnf
   refine B0 (C2U p hp us hul (fun k=>D8 us (parts.getD k default)) L (by omega) (fun k hk=>hLg k (by omega)) (fun k hk=>⟨by show (D8 _ _).length≤_;rw [A0H];exact Nat.le_trans (hme k (by omega)).len hul,fun e he=>A4H (hme k (by omega)).rng he⟩) ⟨b.ms.used,b.ms.es,[]⟩ rfl hok0 hI.pre bu gu s bl gl hsl1 hgl hsu1 hgu) ?_
   have fin:A0Q p us b=none→∀ t,RA b.taken ls sva svl (upd st2 bu ⟨4,1,us.length,gu⟩) t→∃ t2,B3 [C6 us,sva,svl,eB p.closes] t [C6 us,B6 b.taken,B6 ls,eB p.closes] t2∧G3 st t2 ∧
     S P 250 [C6 us,B6 b.taken,B6 ls,eB p.closes] t2 fun v st'=>v=.tuple [C6 (N9 p us parts).1,eI (N9 p us parts).2]∧st'=t2:=fun hno t ht=>by
    obtain ⟨t2,h1,h2⟩:=ht.shift (C6 us) (eB p.closes)
    have hPl:T4 us b.taken:=B0s hI.ok.mem hI.nd
    have hout:A1I p us (tot p.parts.length (E8 us parts).ms.es+1) (E8 us parts)=b:=by
     rw [hF];unfold A1I;rw [hno]
    have h0s:∀ x∈ls,0≤x:=fun x hx=>by obtain ⟨k,hk,rfl⟩:=F0 hx;exact (hI.bnd k hk).1
    have hE:A1l us b.taken ls p.closes=N9 p us parts:=by
     unfold N9 A1l
     simp only
     rw [hout,←hI.sum,hI.out]
     by_cases hz:A5 ls=0
     ·have ht0:b.taken=[]:=by
       rcases hI.pos with e | e
       ·exact e
       ·rw [←hI.sum] at e;omega
      rw [if_pos hz,A1x (A2n h0s hz) _ (Nat.le_refl _),ht0,hz]
      show (us,(0:Int))=(if p.closes=true then us else us,0)
      split<;>rfl
     ·rw [if_neg hz]
    have hsum:A5 ls≤10000000000000:=by
     have h5:=hI.ok.off.sum
     have:=hu.sum
     have:=C9 (hI.ok.off.ok hu).nets0
     rw [hI.sum];omega
    have hlen:=hI.len
    have htl:b.taken.length≤1000000:=by have:=hI.ok.len;omega
    refine ⟨t2,h1,(hsup2.upd hbu).trans h2,?_⟩
    rw [←hE]
    exact B1D us b.taken ls p.closes hu hPl htl (by omega) hI.bnd (by omega) t2
   cases hs:I3 p.parts p.parts.length ⟨b.ms.used,b.ms.es,[]⟩ with
   | none =>
    have hone:A6Y p ⟨b.ms.used,b.ms.es,[]⟩=[]:=by unfold A6Y;rw [hs]
    obtain ⟨t2,g1,g2,g3⟩:=fin (by unfold A0Q;rw [hs]) s hR
    rw [hone];conv=>whnf
    refine B0 (A4P us [] (by simp) (fun k hk=>absurd hk (by simp)) _) ?_;conv=>whnf
    refine B0 (A9i [] (by simp) (fun x hx=>by cases hx) (by decide) _) ?_;conv=>whnf
    refine H8 g1 (B0 g3 ?_);conv=>whnf
    exact ⟨rfl,g2⟩
   | some s1 =>
    have hok:=MOk.parts hok0 (Nat.le_refl _) hs
    have htr:=S4.parts (S4.start b.ms.used b.ms.es) hok0 (Nat.le_refl _) hs
    have hlen1:=A0K hp (Nat.le_refl _) hs
    have hpos:=A4g hp hs
    simp only [List.length_nil] at hlen1 hpos
    have hone:A6Y p ⟨b.ms.used,b.ms.es,[]⟩=C4 s1.l:=by unfold A6Y;rw [hs]
    have hcost:A5 (E4 us (C4 s1.l))=G4 us s1.l:=A4T ((Z7 s1.l).map fun i:Int=>(gU us i.toNat).net)
    have hcb:=A0b hu s1.l hok.mem
    have hSl:(C4 s1.l).length=s1.l.length:=S0 _
    have hSr:∀ k,k<(C4 s1.l).length→0≤gI (C4 s1.l) k∧(gI (C4 s1.l) k).toNat<us.length:=fun k hk=>hok.mem _ (Q2.1 (B4 hk))
    have hnl:=A3n us (C4 s1.l)
    have hn0:∀ x∈E4 us (C4 s1.l),0≤x:=fun x hx=>by obtain ⟨i,hi,rfl⟩:=List.mem_map.1 hx;exact hu.at0 _
    rw [hone];conv=>whnf
    refine B0 (A4P us (C4 s1.l) (by omega) hSr _) ?_;conv=>whnf
    refine B0 (A9i _ (by omega) hn0 (by rw [hcost];omega) _) ?_
    rw [hcost];conv=>whnf
    rw [show (((C4 s1.l).length:Int)==0)=false from beq_false_of_ne (by omega)];conv=>whnf
    refine C0 (fun hc=>?_) (fun hc=>?_)<;>rw [hc]
    ·have hc':=of_decide_eq_true hc
     obtain ⟨t2,g1,g2,g3⟩:=fin (by unfold A0Q;rw [hs];simp only;rw [if_neg (by omega)]) s hR
     conv=>whnf
     refine H8 g1 (B0 g3 ?_);conv=>whnf
     exact ⟨rfl,g2⟩
    ·have hc':G4 us s1.l>p.amount:=by have:=of_decide_eq_false hc;omega
     obtain ⟨hN,hI2⟩:=hI.step hp hu hs hc'
     obtain ⟨k1,k2,k3⟩:=hI.ok.step hp hu hs hc'
     have hW:=k1.weights
     rw [←hN] at hW
     have hXl:=(U8 hW).2.1
     have hstep:A1I p us (f+1) b=A1I p us f ⟨A1N b.out (C4 s1.l) (G4 us s1.l - p.amount),s1,b.taken++C4 s1.l,b.all+(G4 us s1.l - p.amount)⟩:=by
      conv=>lhs;unfold A1I A0Q
      rw [hs];simp only;rw [if_pos hc']
     have w1:IntKind.i64.wrap (G4 us s1.l - p.amount)=G4 us s1.l - p.amount:=A7 (by omega) (by omega)
     have hkl:=k2.len
     simp only at hkl k3
     rw [List.length_append] at hkl
     have hll:=hI.len
     conv=>whnf
     refine ⟨[],[],List.range 13,by kernel_rfl,?_⟩;conv=>whnf
     refine ⟨_,D3 (A4P us (C4 s1.l) (by omega) hSr _),?_⟩;conv=>whnf
     rw [w1]
     refine ⟨_,D3 (A9f _ (E4 us (C4 s1.l)) hW _),?_⟩
     generalize D4 (G4 us s1.l - p.amount) (E4 us (C4 s1.l))=X at *
     conv=>whnf
     refine lp (C4 s1.l).length [1,3,9,11,12,13,14,16,18] (fun i vs s=>∃ (sva svl:AV) (g:Nat→AV),vs=[C6 us,.fptr (B7 p) 0,.own 1 bl 0 L.length,.own 1 bu 0 us.length,sva,svl,B6 (C4 s1.l),B6 X,eI i] ∧
      RA (b.taken++(C4 s1.l).take i) (ls++X.take i) sva svl (upd st2 bu ⟨4,1,us.length,g⟩) s∧∀ k,k<us.length→g k=eB ((A2t b.ms.used ((C4 s1.l).take i)).getD k default)) ?_ ?_
     ·conv=>whnf
      exact ⟨sva,svl,gu,rfl,by rw [List.take_zero,List.take_zero,List.append_nil,List.append_nil];exact hR,hgu⟩
     ·clear hR hgu fin hsu hsu1 hsl1 hBA
      rintro i vs s hi ⟨sva,svl,g,rfl,hR,hg⟩
      have hBA:=B5d (b.taken++(C4 s1.l).take i) (ls++X.take i) sva svl
      conv=>whnf
      cases hd:decide ((i:Int)<((C4 s1.l).length:Int))
      ·obtain rfl:=E0 hd hi
       rw [List.take_length] at hR hg
       rw [List.take_of_length_le (show X.length≤(C4 s1.l).length by omega)] at hR;conv=>whnf
       refine ⟨rfl,?_⟩;conv=>whnf
       refine ⟨tot p.parts.length s1.es,k3,_,_,sva,svl,g,f,rfl,rfl,hI2,⟨by show tot p.parts.length s1.es<f;omega,by rw [←hstep];exact hF⟩,hR,fun k hk=>?_⟩
       rw [hg k hk]
       congr 1
       show (A2t b.ms.used (C4 s1.l)).getD k default=s1.used.getD k default
       rw [←Bool.coe_iff_coe,B4F (fun x hx=>by rw [hI.ok.ok.len];exact (hok.mem x (Q2.1 hx)).2),htr.used]
       constructor
       ·rintro (h | h)
        ·exact .inl h
        ·obtain ⟨y,hy,rfl⟩:=List.mem_map.1 h;exact .inr (List.mem_map_of_mem (Q2.1 hy))
       ·rintro (h | h)
        ·exact .inl h
        ·obtain ⟨y,hy,rfl⟩:=List.mem_map.1 h;exact .inr (List.mem_map_of_mem (Q2.2 hy))
      ·have hi':=G7 hd
       have hr:=hSr i hi'
       have hg2:=hBA.sup hR bu _ (A0 ..)
       have tk:∀ (l:List Int),i<l.length→l.take (i+1)=l.take i++[gI l i]:=fun l h=>L9 h
       conv=>whnf
       refine ⟨rfl,⟨by omega,by omega⟩,?_⟩;conv=>whnf
       refine ⟨rfl,⟨by show 0≤gI (C4 s1.l) i;omega,by show gI (C4 s1.l) i<(us.length:Int);omega⟩,?_⟩;conv=>whnf
       refine K8 hg2 rfl (by show 0+(gI (C4 s1.l) i).toNat<us.length;omega) (v:=eB ((A2t b.ms.used ((C4 s1.l).take i)).getD (gI (C4 s1.l) i).toNat default)) (by show g (0+(gI (C4 s1.l) i).toNat)=_;rw [Nat.zero_add];exact hg _ hr.2) (by rfl) ?_
       have hR2:=hBA.write (y':=⟨4,1,us.length,H2 g (0+(gI (C4 s1.l) i).toNat) (eB true)⟩) hR (A0 ..)
       rw [C5] at hR2
       have hgn:∀ k,k<us.length→H2 g (0+(gI (C4 s1.l) i).toNat) (eB true) k=eB ((A2t b.ms.used ((C4 s1.l).take (i+1))).getD k default):=fun k hk=>by
        have e:A2t b.ms.used ((C4 s1.l).take (i+1))=(A2t b.ms.used ((C4 s1.l).take i)).set (gI (C4 s1.l) i).toNat true:=O3 hi' _ _
        rw [e,Nat.zero_add,A4o (by rw [B4G,hI.ok.ok.len];exact hr.2)]
        by_cases ej:k=(gI (C4 s1.l) i).toNat
        ·rw [if_pos ej,ej,A6]
        ·rw [if_neg ej,G2 ej];exact hg k hk
       conv=>whnf
       refine ⟨[4,5,6,11,12,13],[],[],.qui 0 (.qui 1 (.qui 2 (.qui 3 (.qui 7 (.qui 8 (.qui 9 (.qui 10 (.two 4 11 (.two 5 11 (.two 6 11 (.gen 11 (.gen 12 (.gen 13 (.qui 14 (.qui 15 .done))))) (.two 6 12 (.gen 12 (.gen 13 (.qui 14 (.qui 15 .done)))) (.gen 6 (.gen 13 (.qui 14 (.qui 15 .done)))))) (.two 5 12 (.two 6 12 (.gen 12 (.gen 13 (.qui 14 (.qui 15 .done)))) (.gen 6 (.gen 13 (.qui 14 (.qui 15 .done))))) (.gen 5 (.gen 6 (.gen 13 (.qui 14 (.qui 15 .done))))))) (.two 4 12 (.two 5 12 (.two 6 12 (.gen 12 (.gen 13 (.qui 14 (.qui 15 .done)))) (.gen 6 (.gen 13 (.qui 14 (.qui 15 .done))))) (.gen 5 (.gen 6 (.gen 13 (.qui 14 (.qui 15 .done)))))) (.gen 4 (.gen 5 (.gen 6 (.gen 13 (.qui 14 (.qui 15 .done))))))))))))))),by kernel_rfl,?_⟩;conv=>whnf
       refine ⟨rfl,⟨by omega,by omega⟩,?_⟩;conv=>whnf
       refine ⟨rfl,⟨by omega,by omega⟩,?_⟩;conv=>whnf
       repeat' (refine And.intro ?_ ?_<;>(conv=>whnf))
       all_goals refine RA.appA (all:=b.taken++(C4 s1.l).take i) (ls:=ls++X.take i) (y:=gI (C4 s1.l) i) hR2 rfl rfl (by rw [List.length_append,List.length_take];omega) (fun sva' t' hR3=>?_)
       all_goals (conv=>whnf)
       all_goals refine RA.appL (all:=b.taken++(C4 s1.l).take i++[gI (C4 s1.l) i]) (ls:=ls++X.take i) (y:=gI X i) hR3 rfl rfl (by rw [List.length_append,List.length_take];omega) (fun svl' t'' hR4=>?_)
       all_goals (conv=>whnf)
       all_goals refine ⟨rfl,?_⟩
       all_goals (conv=>whnf)
       all_goals exact nx hi' ⟨sva',svl',H2 g (0+(gI (C4 s1.l) i).toNat) (eB true),by rw [C2 (by omega)],by rw [tk _ hi',tk _ (by omega),←List.append_assoc,←List.append_assoc];exact hR4,hgn⟩
def X3 (l:List Int):List Int:=l.foldl (fun a x=>if x∈a then a else a++[x]) []
theorem B4q (l:List Int) (x:Int):X3 (l++[x])=if x∈X3 l then X3 l else X3 l++[x]:=by
 unfold X3;rw [List.foldl_append];rfl
theorem A8J (l:List Int):(X3 l).Nodup∧∀ x,x∈X3 l↔x∈l:=by
 have:∀ (l a:List Int),a.Nodup→(l.foldl (fun a x=>if x∈a then a else a++[x]) a).Nodup∧∀ x,x∈l.foldl (fun a x=>if x∈a then a else a++[x]) a↔x∈a∨x∈l:=by
  intro l
  induction l with
  | nil=>intro a h;exact ⟨h,fun x=>by simp⟩
  | cons y l ih =>
   intro a h
   rw [List.foldl_cons]
   split
   ·rename_i hy
    obtain ⟨h1,h2⟩:=ih a h
    refine ⟨h1,fun x=>?_⟩
    rw [h2,List.mem_cons]
    constructor
    ·rintro (h3 | h3)
     ·exact .inl h3
     ·exact .inr (.inr h3)
    ·rintro (h3 | rfl | h3)
     ·exact .inl h3
     ·exact .inl hy
     ·exact .inr h3
   ·rename_i hy
    obtain ⟨h1,h2⟩:=ih (a++[y]) (List.nodup_append.2 ⟨h,by simp,fun p hp q hq e=>by rw [List.mem_singleton] at hq;subst hq;subst e;exact hy hp⟩)
    refine ⟨h1,fun x=>?_⟩
    rw [h2,List.mem_append,List.mem_singleton,List.mem_cons,or_assoc]
 obtain ⟨h1,h2⟩:=this l [] List.nodup_nil
 exact ⟨h1,fun x=>by rw [show x∈X3 l↔x∈([]:List Int)∨x∈l from h2 x];simp⟩
theorem B2n (l:List Int):S1 l=((List.range l.length).filter fun k=>k==0||gI l k != gI l (k - 1)).map (gI l):=by
 unfold S1 Go.Lib.compactUpTo
 have hg:∀ k,k<l.length→l.toArray[k]! = gI l k:=fun k hk=>by rw [getElem!_pos _ k (by simpa using hk)];simp [gI,hk]
 have hf:(List.range l.length).filter (Go.Lib.keeps l.toArray)=(List.range l.length).filter fun k=>k==0||gI l k != gI l (k - 1):=by
  refine List.filter_congr fun k hk=>?_
  have:=List.mem_range.1 hk
  unfold Go.Lib.keeps
  rw [hg k this,hg (k - 1) (by omega)]
  rw [←Bool.coe_iff_coe,decide_eq_true_eq,Bool.or_eq_true,beq_iff_eq,bne_iff_ne]
 rw [hf]
 exact List.map_congr_left fun k hk=>hg k (List.mem_range.1 (List.mem_filter.1 hk).1)
theorem B3R {l:List Int} (hs:l.Pairwise (·≤·)):(S1 l).Nodup∧∀ x,x∈S1 l↔x∈l:=by
 refine ⟨?_,fun x=>⟨B0h,fun hx=>?_⟩⟩
 ·rw [B2n]
  refine List.Pairwise.map _ (fun a b h=>h) ?_ 
  refine List.Pairwise.imp_of_mem (R:=(·<·)) ?_ ((List.pairwise_lt_range (n:=l.length)).filter _)
  intro a b ha hb hab
  obtain ⟨h1,h2⟩:=List.mem_filter.1 hb
  have h3:=List.mem_range.1 h1
  rw [Bool.or_eq_true,beq_iff_eq,bne_iff_ne] at h2
  have h4:gI l (b - 1)≤gI l b:=B0v hs (by omega) h3
  have h5:gI l a≤gI l (b - 1):=by
   rcases Nat.eq_or_lt_of_le (show a≤b - 1 by omega) with e | e
   ·rw [e];exact Int.le_refl _
   ·exact B0v hs e (by omega)
  show gI l a≠gI l b
  rcases h2 with h2 | h2<;>omega
 ·rw [B2n,List.mem_map]
  obtain ⟨k,hk,rfl⟩:=F0 hx
  induction k with
  | zero=>exact ⟨0,List.mem_filter.2 ⟨List.mem_range.2 hk,rfl⟩,rfl⟩
  | succ k ih =>
   by_cases e:gI l (k+1)=gI l k
   ·have:=ih (by omega) (by rw [show l.getD k default=l.getD (k+1) default from e.symm];exact hx)
    obtain ⟨j,h1,h2⟩:=this
    exact ⟨j,h1,h2.trans e.symm⟩
   ·exact ⟨k+1,List.mem_filter.2 ⟨List.mem_range.2 hk,by rw [Bool.or_eq_true,bne_iff_ne];exact .inr e⟩,rfl⟩
theorem B8F (us:List B5) (l:List Int):A0A us (S1 (C4 l))=A0A us (X3 l):=by
 obtain ⟨h1,h2⟩:=B3R (B3u l)
 obtain ⟨h3,h4⟩:=A8J l
 have hp:(S1 (C4 l)).Perm (X3 l):=(List.perm_ext_iff_of_nodup h1 h3).2 fun x=>by rw [h2,h4,Q2]
 exact A4T (hp.map _)
theorem B6D (l:List Int):(X3 l).length≤l.length:=by
 have:∀ (l a:List Int),(l.foldl (fun a x=>if x∈a then a else a++[x]) a).length≤a.length+l.length:=by
  intro l
  induction l with
  | nil=>intro a;simp
  | cons y l ih =>
   intro a
   rw [List.foldl_cons]
   split
   ·have:=ih a;rw [List.length_cons];omega
   ·have:=ih (a++[y]);rw [List.length_append,List.length_cons,List.length_nil] at this;rw [List.length_cons];omega
 have h:=this l []
 rw [List.length_nil,Nat.zero_add] at h;exact h
structure PSm (p:A9):Prop where
 sm:A0k p
 right:F6 p=true
 fit:M9 p
set_option maxHeartbeats 400000 in
theorem C2T (items:List Ab.Item) (us:List B5) (pr:A9) (hp:PSm pr) (hk:pr.kind≠7) (hu:A4Y items us) (st:St) :
  S P 91 [B7 pr,C6 us,B2 4 F4 items] st fun v st'=>(∃ x,v=.tuple [C6 x,eI (U2 items us pr).2]∧(0<(U2 items us pr).2→x=(U2 items us pr).1))∧st'=st:=by
 have ok:=A2i hp.right
 have hul:=hu.ok.len
 have hB:=ok.bun
 by_cases h4:pr.kind=4
 ·have hW:U2 items us pr=Y8 items us pr:=by unfold U2;rw [if_pos h4]
  rw [hW]
  obtain ⟨hbn,hbs⟩:=hB h4
  have hn8:=hbn.n8
  have hpl:(N7 items us pr).length=pr.parts.length:=List.length_map ..
  have hbP:Y8 items us pr=if A0A us (X3 (W4 items us pr pr.parts.length))<pr.least then ([],0) else N9 pr us (N7 items us pr):=by unfold Y8;rw [B8F]
  refine A5c ?_
  refine A8 [3] B9 mixed Tryz.func91 (by rfl) rfl rfl rfl ?_;conv=>whnf
  rw [show (pr.kind != 4)=false from by rw [h4];rfl];conv=>whnf
  refine mkO rfl rfl rfl (by show 1 * us.length≤_;omega) (by omega) (by rfl) (fun bs hbs0=>?_);conv=>whnf
  refine lp pr.parts.length [1,2,3,9,10,11,12] (fun i vs s=>∃ sv g,vs=[C6 us,B2 4 F4 items,.fptr (B7 pr) 0,sv,.own 1 bs 0 us.length,eI (A0A us (X3 (W4 items us pr i))),eI i]∧F8 29 1 B6 ((N7 items us pr).take i) (upd st bs ⟨4,1,us.length,g⟩) sv s∧∀ k,k<us.length→g k=eB (decide ((k:Int)∈W4 items us pr i))) ?_ ?_
  ·conv=>whnf
   exact ⟨.emp,_,rfl,F8.start _ _ _ _,fun k hk=>by rw [show W4 items us pr 0=[] from rfl];simp;rfl⟩
  ·rintro i vs s hi ⟨sv,g,rfl,hc,hg⟩
   conv=>whnf
   cases hd:decide ((i:Int)<(pr.parts.length:Int))
   ·obtain rfl:=E0 hd hi
    rw [←hpl,List.take_length] at hc;conv=>whnf
    refine C0 (fun h1=>?_) (fun h1=>?_)<;>rw [h1]
    ·have:=of_decide_eq_true h1
     rw [if_pos (by omega)] at hbP;conv=>whnf
     exact ⟨⟨us,by rw [hbP];rfl,fun h=>by rw [hbP] at h;exact absurd h (by decide)⟩,((G3.refl st).upd hbs0).trans hc.sup⟩
    ·have:=of_decide_eq_false h1
     rw [if_neg (by omega)] at hbP;conv=>whnf
     refine H8 (B3.cons (t:=s) (B3.keep _ _) (B3.cons (t:=s) (B3.keep _ _) hc.shift)) (B0 (B6O pr us (N7 items us pr) hp.sm hp.right h4 hbn hu.ok hpl (fun x hx=>by obtain ⟨q,_,rfl⟩:=List.mem_map.1 hx;exact A0q _ _ _) _) ?_);conv=>whnf
     exact ⟨⟨_,by rw [hbP];rfl,fun _=>by rw [hbP]⟩,(G3.refl st).upd hbs0⟩
   ·have hi':=G7 hd
    have hsc:(pr.parts.getD (i:Int).toNat default).scope.skus.length≤20∧(pr.parts.getD (i:Int).toNat default).scope.cats.length≤20:=hbs _ (B4 hi')
    have hsu:=A6L items us pr hi'
    have hAl:=A8f items us pr i hi
    have hAm:=fun {x} (hx:x∈W4 items us pr i)=>A8g hx
    have hml:=A1z (pr.parts.getD (i:Int).toNat default).scope items us us.length
    have hmo:=A0q (pr.parts.getD (i:Int).toNat default).scope items us
    have hpt:(N7 items us pr).take (i+1)=(N7 items us pr).take i++[H5 (pr.parts.getD (i:Int).toNat default).scope items us us.length]:=by
     rw [L9 (by omega)];congr 2
     exact E1 (fun x:P3=>H5 x.scope items us us.length) pr.parts hi'
    rw [show H5 (pr.parts.getD i default).scope items us us.length=H5 (pr.parts.getD (i:Int).toNat default).scope items us us.length from rfl] at hsu
    have h8:i * us.length≤7 * 100000:=Nat.mul_le_mul (by omega) hul
    conv=>whnf
    refine ⟨rfl,⟨by omega,by omega⟩,?_⟩;conv=>whnf
    refine B0 (B5E us items (pr.parts.getD (i:Int).toNat default).scope (by omega) (by omega) hul hu.line _) ?_
    generalize H5 (pr.parts.getD (i:Int).toNat default).scope items us us.length=m at *
    conv=>whnf
    refine F8.app (q:=r29) (y:=m) rfl rfl rfl rfl rfl rfl (by show (_+1) * 24≤140737488355328;rw [List.length_take];omega) hc (fun sv s hc=>?_)
    rw [←hpt] at hc;conv=>whnf
    refine lp m.length [1,2,3,9,10,11,12,13,14] (fun k vs s=>∃ g,vs=[C6 us,B2 4 F4 items,.fptr (B7 pr) 0,sv,.own 1 bs 0 us.length,eI (A0A us (X3 (W4 items us pr i++m.take k))),eI i,B6 m,eI k]∧F8 29 1 B6 ((N7 items us pr).take (i+1)) (upd st bs ⟨4,1,us.length,g⟩) sv s∧∀ j,j<us.length→g j=eB (decide ((j:Int)∈W4 items us pr i++m.take k))) ?_ ?_
    ·conv=>whnf
     exact ⟨g,by rw [List.take_zero,List.append_nil];rfl,hc,by rw [List.take_zero,List.append_nil];exact hg⟩
    ·clear hc hg
     rintro k vs s hk ⟨g,rfl,hc,hg⟩
     conv=>whnf
     cases hd2:decide ((k:Int)<(m.length:Int))
     ·obtain rfl:=E0 hd2 hk
      rw [List.take_length,←hsu] at hg;conv=>whnf
      refine ⟨rfl,?_⟩;conv=>whnf
      exact nx hi' ⟨sv,g,by rw [C2 (by omega),List.take_length,←hsu],hc,hg⟩
     ·have hk':=G7 hd2
      have hr:0≤m.getD (k:Int).toNat default∧(m.getD (k:Int).toNat default).toNat<us.length:=hmo.rng k hk'
      have hbk:=hc.sup bs _ (A0 ..)
      have hP:W4 items us pr i++m.take (k+1)=(W4 items us pr i++m.take k)++[m.getD (k:Int).toNat default]:=by rw [L9 hk',List.append_assoc];rfl
      have hgk:g (0+(m.getD (k:Int).toNat default).toNat)=eB (decide (m.getD (k:Int).toNat default∈W4 items us pr i++m.take k)):=by
       rw [Nat.zero_add,hg _ hr.2];congr 2;rw [Int.toNat_of_nonneg hr.1]
      have hmem:∀ x∈W4 items us pr i++m.take k,0≤x∧x.toNat<us.length:=fun x hx=>by
       rcases List.mem_append.1 hx with hx | hx
       ·exact A8g hx
       ·obtain ⟨j,hj,rfl⟩:=F0 (List.take_subset _ _ hx);exact hmo.rng j hj
      obtain ⟨o1,o2⟩:=A8J (W4 items us pr i++m.take k)
      have hcb:=A0b hu.ok (X3 (W4 items us pr i++m.take k)) (fun x hx=>hmem x ((o2 x).1 hx))
      have hol:=B6D (W4 items us pr i++m.take k)
      rw [List.length_append,List.length_take] at hol
      have hcl:A0A us (X3 (W4 items us pr i++m.take k))=G4 us (X3 (W4 items us pr i++m.take k)):=rfl
      have hsn:=B4q (W4 items us pr i++m.take k) (m.getD (k:Int).toNat default)
      have hdm:decide (m.getD (k:Int).toNat default∈X3 (W4 items us pr i++m.take k))=decide (m.getD (k:Int).toNat default∈W4 items us pr i++m.take k):=decide_eq_decide.2 (o2 _)
      have hn0:0≤(gU us (m.getD (k:Int).toNat default).toNat).net:=hu.ok.at0 _
      have hn1:(gU us (m.getD (k:Int).toNat default).toNat).net≤10000000000000:=hu.ok.le (B4 hr.2)
      generalize W4 items us pr i++m.take k=A at *
      conv=>whnf
      refine ⟨rfl,⟨by omega,by omega⟩,?_⟩;conv=>whnf
      refine ⟨rfl,⟨by omega,by omega⟩,?_⟩;conv=>whnf
      refine F7 hbk rfl (by omega) hgk ?_;conv=>whnf
      refine C0 (fun h5=>?_) (fun h5=>?_)<;>rw [h5]
      ·have hnot:¬ m.getD (k:Int).toNat default∈A:=by simpa using h5
       rw [if_neg (fun h=>hnot ((o2 _).1 h))] at hsn
       have hadd:A0A us (X3 (A++[m.getD (k:Int).toNat default]))=A0A us (X3 A)+(gU us (m.getD (k:Int).toNat default).toNat).net:=by
        rw [hsn];exact B0j us _ _
       have w:IntKind.i64.wrap (A0A us (X3 A)+(gU us (m.getD (k:Int).toNat default).toNat).net)=A0A us (X3 (A++[m.getD (k:Int).toNat default])):=by rw [hadd];exact A7 (by omega) (by omega)
       conv=>whnf
       refine ⟨rfl,⟨by omega,by omega⟩,?_⟩;conv=>whnf
       refine ⟨rfl,⟨by omega,by omega⟩,?_⟩;conv=>whnf
       refine K8 hbk rfl (by omega) hgk (by rfl) ?_
       have hc2:=N1.write hc (y':=⟨4,1,us.length,H2 g (0+(m.getD (k:Int).toNat default).toNat) (eB true)⟩) (A0 ..)
       rw [C5] at hc2;conv=>whnf
       refine ⟨rfl,⟨by omega,by omega⟩,?_⟩;conv=>whnf
       refine ⟨rfl,⟨by omega,by omega⟩,?_⟩;conv=>whnf
       refine ⟨rfl,?_⟩;conv=>whnf
       refine nx hk' ⟨H2 g (0+(m.getD (k:Int).toNat default).toNat) (eB true),by rw [C2 (by omega),hP,←w],hc2,fun j hj=>?_⟩
       rw [hP,Nat.zero_add]
       by_cases ej:j=(m.getD (k:Int).toNat default).toNat
       ·rw [ej,A6,decide_eq_true (by rw [List.mem_append,List.mem_singleton];right;omega)]
       ·rw [G2 ej,hg j hj]
        congr 1
        refine decide_eq_decide.2 ?_
        rw [List.mem_append,List.mem_singleton]
        exact ⟨.inl,fun h=>h.resolve_right (by omega)⟩
      ·have hin:m.getD (k:Int).toNat default∈A:=by simpa using h5
       rw [if_pos ((o2 _).2 hin)] at hsn;conv=>whnf
       refine ⟨rfl,?_⟩;conv=>whnf
       refine nx hk' ⟨g,by rw [C2 (by omega),hP,hsn],hc,fun j hj=>?_⟩
       rw [hP,hg j hj]
       congr 1
       refine decide_eq_decide.2 ?_
       rw [List.mem_append,List.mem_singleton]
       exact ⟨.inl,fun h=>h.elim id (fun e=>by rw [e];exact hin)⟩
 ·have hW:U2 items us pr=A0S items us pr:=by unfold U2;rw [if_neg h4]
  have hmo:=A0q pr.scope items us
  have hml:=A1z pr.scope items us us.length
  have hS:A0S items us pr=if A0A us (H5 pr.scope items us us.length)<pr.least then ([],0) else if pr.kind=3 then R0 pr us (H5 pr.scope items us us.length) else T8 pr us (H5 pr.scope items us us.length):=rfl
  obtain ⟨hn0,hns⟩:=A8I hu.ok hmo
  rw [hW]
  refine A8 [3] B9 mixed Tryz.func91 (by rfl) rfl rfl rfl ?_;conv=>whnf
  rw [show (pr.kind != 4)=true from bne_iff_ne.2 h4];conv=>whnf
  refine B0 (B5E us items pr.scope (by have:=ok.skus;omega) (by have:=ok.cats;omega) hul hu.line _) ?_
  generalize H5 pr.scope items us us.length=m at *
  conv=>whnf
  refine ⟨[],[],List.range 7,by kernel_rfl,?_⟩;conv=>whnf
  refine ⟨_,D3 (A4P us m (by omega) hmo.rng _),?_⟩;conv=>whnf
  refine ⟨_,D3 (A9i (E4 us m) (by rw [A3n];omega) hn0 (by omega) _),?_⟩;conv=>whnf
  refine C0 (fun h1=>?_) (fun h1=>?_)<;>rw [h1]
  ·have h2:A0A us m<pr.least:=of_decide_eq_true h1
   rw [if_pos h2] at hS;conv=>whnf
   exact ⟨⟨us,by rw [hS];rfl,fun h=>by rw [hS] at h;exact absurd h (by decide)⟩,rfl⟩
  ·have h2:¬ A0A us m<pr.least:=fun h=>absurd h (Int.not_lt.2 (Int.not_lt.1 (of_decide_eq_false h1)))
   rw [if_neg h2] at hS;conv=>whnf
   by_cases h3:pr.kind=3
   ·rw [if_pos h3] at hS
    rw [show (pr.kind==3)=true from beq_iff_eq.2 h3];conv=>whnf
    refine B0 (B6P pr us m hp.sm hp.right h3 (ok.buy h3) hu.ok hmo _) ?_;conv=>whnf
    exact ⟨⟨_,by rw [hS];rfl,fun _=>by rw [hS]⟩,rfl⟩
   ·rw [if_neg h3] at hS
    rw [show (pr.kind==3)=false from beq_false_of_ne h3];conv=>whnf
    refine B0 (B8U pr us m (ok.ask hp.fit (by have:=ok.kind;omega)) hp.sm hu.ok hmo _) ?_;conv=>whnf
    exact ⟨⟨_,by rw [hS];rfl,fun _=>by rw [hS]⟩,rfl⟩
theorem B3l (L:List D7) (g:D7) (hl:L.length≤1000) (sv:AV) (st:St) (h:(sv=.emp∧L=[])∨∃ b f,sv=.own 1 b 0 L.length∧st b=some ⟨9,1,L.length,f⟩∧∀ k,k<L.length→f k=eS (L.getD k default)) :
  S P 90 [sv,eS g] st fun v st'=>v=.bool (!J0 g&&L.any fun y=>y.toList==g.toList)∧st'=st:=by
 rcases h with ⟨rfl,rfl⟩ | ⟨b,f,rfl,hb,hf⟩
 ·refine A8 [] B9 mixed Tryz.func90 (by rfl) rfl rfl rfl ?_;conv=>whnf
  refine A7G [0,1,5] ?_;conv=>whnf
  intro I;conv=>whnf
  exact ⟨by simp [A7H],rfl⟩
 ·refine A8 [] B9 mixed Tryz.func90 (by rfl) rfl rfl rfl ?_;conv=>whnf
  refine lp L.length [0,1,5] (fun i vs s=>(∀ k,k<i→(!J0 g&&((L.getD k default).toList==g.toList))=false)∧vs=[.own 1 b 0 L.length,eS g,eI i]∧s=st) ?_ ?_
  ·conv=>whnf
   exact ⟨fun k hk=>absurd hk (by omega),rfl,rfl⟩
  ·rintro i vs st' hi ⟨hok,rfl,rfl⟩
   conv=>whnf
   cases hd:decide ((i:Int)<(L.length:Int))
   ·obtain rfl:=E0 hd hi
    conv=>whnf
    refine ⟨?_,rfl⟩
    have e:(!J0 g&&L.any fun y=>y.toList==g.toList)=false:=by
     cases hn:J0 g
     ·rw [Bool.not_false,Bool.true_and]
      refine List.any_eq_false.2 fun x hx=>?_
      obtain ⟨k,hk,rfl⟩:=F0 hx
      have:=hok k hk
      rw [hn,Bool.not_false,Bool.true_and] at this
      rw [this];simp
     ·rfl
    rw [e];rfl
   ·have hi':=G7 hd
    have hfi:f (0+(i:Int).toNat)=eS (L.getD (i:Int).toNat default):=by rw [Nat.zero_add];exact hf _ (by omega)
    have yes:=fun h=>K9 hok (i:=i) h
    have nl:J0 g=(g.toList==(⟨#[]⟩:D7).toList):=rfl
    conv=>whnf
    refine C0 (fun h1=>?_) (fun h1=>?_)<;>rw [h1]
    ·have hn:J0 g=false:=by rw [nl];simpa using h1
     conv=>whnf
     refine ⟨rfl,⟨by omega,by omega⟩,?_⟩;conv=>whnf
     refine F7 hb rfl (by omega) hfi ?_;conv=>whnf
     refine C0 (fun h2=>?_) (fun h2=>?_)<;>rw [h2]
     ·conv=>whnf
      refine ⟨?_,rfl⟩
      rw [hn,List.any_eq_true.2 ⟨_,B4 hi',h2⟩];rfl
     ·conv=>whnf
      refine ⟨rfl,?_⟩;conv=>whnf
      exact nx hi' ⟨yes (by rw [hn];exact h2),by rw [C2 (by omega)],rfl⟩
    ·have hn:J0 g=true:=by rw [nl];simpa using h1
     conv=>whnf
     refine ⟨rfl,?_⟩;conv=>whnf
     exact nx hi' ⟨yes (by rw [hn];rfl),by rw [C2 (by omega)],rfl⟩
structure B2e (l:List A9):Prop where
 few:l.length≤60
 right:∀ p∈l,F6 p=true
 ids:∀ i j,i<j→j<l.length→((l.getD i default).id.toList==(l.getD j default).id.toList)=false
theorem A8U {l:List A9} (h:promosC l=true):B2e l:=by
 unfold promosC I2 at h
 simp only [Bool.and_eq_true,decide_eq_true_eq,List.all_eq_true,List.mem_range] at h
 obtain ⟨h1,h2⟩:=h
 refine ⟨by omega,fun p hp=>?_,fun i j hij hj=>?_⟩
 ·obtain ⟨k,hk,rfl⟩:=F0 hp
  have:=h2 k hk
  unfold R3 at this
  rw [Bool.and_eq_true] at this;exact this.1
 ·have:=h2 j hj
  unfold R3 at this
  rw [Bool.and_eq_true,Bool.not_eq_true',List.any_eq_false] at this
  have h3:=this.2 (l.getD i default) (by
   have:(l.take j).getD i default=l.getD i default:=by rw [List.getD_eq_getElem?_getD,List.getD_eq_getElem?_getD,List.getElem?_take_of_lt hij]
   rw [←this]
   exact B4 (by rw [List.length_take];omega))
  simpa using h3
theorem A8T {l:List A9} {i:Nat} (hi:i<l.length) (h:R3 l i (l.getD i default)=false):promosC l=false:=by
 unfold promosC
 rw [Bool.and_eq_false_iff]
 refine .inr (Bool.eq_false_iff.2 fun ha=>?_)
 unfold I2 at ha
 rw [List.all_eq_true] at ha
 have:=ha i (List.mem_range.2 hi)
 rw [this] at h;cases h
theorem B6Q (l:List A9) (hn:l.length<9223372036854775807) (hs:∀ p∈l,A0k p) (st:St):S P 156 [B2 15 B7 l] st fun v st'=>v=.bool (promosC l)∧st'=st:=by
 refine A8 [] B9 mixed Tryz.func156 (by rfl) rfl rfl rfl ?_;conv=>whnf
 refine lp l.length [0,3] (fun i vs st'=>vs=[B2 15 B7 l,eI i]∧st'=st∧∀ k,k<i→R3 l k (l.getD k default)=true) ?_ ?_
 ·conv=>whnf
  exact ⟨rfl,rfl,fun k hk=>absurd hk (by omega)⟩
 ·rintro i vs st' hi ⟨rfl,rfl,hok⟩
  conv=>whnf
  cases h:decide ((i:Int)<(l.length:Int))
  ·obtain rfl:=E0 h hi
   conv=>whnf
   refine ⟨?_,rfl⟩
   show AV.bool _=AV.bool _
   unfold promosC
   rw [I0 hok,Bool.and_true]
  ·have hi':=G7 h
   have hm:l.getD (i:Int).toNat default∈l:=B4 hi'
   conv=>whnf
   refine ⟨rfl,⟨by omega,by omega⟩,?_⟩;conv=>whnf
   refine B0 (B3e (l.getD (i:Int).toNat default) (hs _ hm) _) ?_
   obtain ⟨b,hb⟩:∃ b,b=F6 (l.getD (i:Int).toNat default):=⟨_,rfl⟩
   rw [←hb];conv=>whnf
   refine C0 (fun h1=>?_) (fun h1=>?_)<;>rw [h1]
   ·conv=>whnf
    refine ⟨?_,rfl⟩
    have:promosC l=false:=A8T hi' (by
     unfold R3
     rw [show F6 (l.getD i default)=false by rw [show i=(i:Int).toNat from rfl,←hb];simpa using h1];rfl)
    rw [this];rfl
   have hp:F6 (l.getD i default)=true:=by rw [show i=(i:Int).toNat from rfl,←hb];simpa using h1
   conv=>whnf
   refine lp i [0,3,4] (fun j vs s=>vs=[B2 15 B7 l,eI i,eI j]∧s=st'∧∀ k,k<j→((l.getD k default).id.toList==(l.getD i default).id.toList)=false) ?_ ?_
   ·conv=>whnf
    exact ⟨rfl,rfl,fun k hk=>absurd hk (by omega)⟩
   ·rintro j vs s hj ⟨rfl,rfl,hne⟩
    conv=>whnf
    cases h2:decide ((j:Int)<(i:Int))
    ·obtain rfl:=E0 h2 hj
     conv=>whnf
     refine ⟨rfl,?_⟩;conv=>whnf
     refine nx hi' ⟨by rw [C2 (by omega)],rfl,fun k hk=>?_⟩
     by_cases e:k<j
     ·exact hok k e
     ·obtain rfl:k=j:=by omega
      unfold R3
      rw [hp,Bool.true_and,Bool.not_eq_true',List.any_eq_false]
      intro x hx
      obtain ⟨m,hm',rfl⟩:=F0 hx
      rw [List.length_take] at hm'
      have e2:(l.take k).getD m default=l.getD m default:=by rw [List.getD_eq_getElem?_getD,List.getD_eq_getElem?_getD,List.getElem?_take_of_lt (by omega)]
      rw [e2,hne m (by omega)];exact Bool.false_ne_true
    ·have hj':=G7 h2
     conv=>whnf
     refine ⟨[],[],List.range 11,by kernel_rfl,?_⟩;conv=>whnf
     refine ⟨rfl,⟨by omega,by omega⟩,?_⟩;conv=>whnf
     refine ⟨rfl,⟨by omega,by omega⟩,?_⟩;conv=>whnf
     refine C0 (fun h3=>?_) (fun h3=>?_)<;>rw [h3]
     ·conv=>whnf
      refine ⟨?_,rfl⟩
      have h4:((l.getD j default).id.toList==(l.getD i default).id.toList)=true:=h3
      have:promosC l=false:=A8T hi' (by
       unfold R3
       rw [hp,Bool.true_and,Bool.not_eq_false']
       refine List.any_eq_true.2 ⟨l.getD j default,?_,h4⟩
       have e2:(l.take i).getD j default=l.getD j default:=by rw [List.getD_eq_getElem?_getD,List.getD_eq_getElem?_getD,List.getElem?_take_of_lt (by omega)]
       rw [←e2]
       exact B4 (by rw [List.length_take];omega))
      rw [this];rfl
     have h4:((l.getD j default).id.toList==(l.getD i default).id.toList)=false:=h3
     conv=>whnf
     refine ⟨rfl,?_⟩;conv=>whnf
     exact nx hj' ⟨by rw [C2 (by omega)],rfl,fun k hk=>by
      by_cases e:k<j
      ·exact hne k e
      ·obtain rfl:k=j:=by omega
       exact h4⟩
structure Y7 (r:I6):Prop where
 n:Sm r.items.length
 items:∀ x∈r.items,Sm x.sku.size∧Sm x.cat.size
 promos:∀ p∈r.promos,A0k p
 tax:B5b r.tax
 order:Sm r.policy.order.length
 credit:Sm r.policy.credit.length
theorem B3f (r:I6) (hn:r.promos.length<9223372036854775807) (hs:Y7 r) (st:St):S P 84 [J6 r] st fun v st'=>v=.bool (P6 r)∧st'=st:=by
 obtain ⟨H,hH⟩:∃ H:Bool,H=P6 r:=⟨_,rfl⟩
 rw [←hH]
 unfold P6 A7w A4N at hH
 have n1:=B8X r.items hs.n hs.items st
 have n2:=B6Q r.promos hn hs.promos st
 have n3:=C2S r.tax hs.tax st
 have n4:=A1m r.ship.fee 1000000000 st
 have n5:=A1m r.ship.free 10000000000000 st
 have n6:=A1m r.policy.window 100000 st
 have n7:=A1m r.policy.grace 100000 st
 have n8:=A1m r.policy.restock 10000 st
 have n9:=B3i r.policy.order hs.order st
 have n10:=B3i r.policy.credit hs.credit st
 generalize A0p r.items=b1 at *
 generalize promosC r.promos=b2 at *
 generalize A6C r.tax=b3 at *
 generalize P7 0 1000000000 r.ship.fee=b4 at *
 generalize P7 0 10000000000000 r.ship.free=b5 at *
 generalize P7 0 100000 r.policy.window=b6 at *
 generalize P7 0 100000 r.policy.grace=b7 at *
 generalize P7 0 10000 r.policy.restock=b8 at *
 generalize Z3 r.policy.order=b9 at *
 generalize Z3 r.policy.credit=b10 at *
 refine A8 [1,3] B9 mixed Tryz.func84 (by rfl) rfl rfl rfl ?_
 repeat' ((conv=>whnf);first | refine B0 n1 ?_ | refine B0 n2 ?_ | refine B0 n3 ?_ | refine B0 n4 ?_ | refine B0 n5 ?_ | refine B0 n6 ?_ | refine B0 n7 ?_ | refine B0 n8 ?_ | refine B0 n9 ?_ | refine B0 n10 ?_ | (refine C0 (fun h=>?_) (fun h=>?_)<;>rw [h]))
 all_goals (conv=>whnf)
 all_goals (refine ⟨?_,rfl⟩;show AV.bool _=AV.bool _;congr 1;clear n1 n2 n3 n4 n5 n6 n7 n8 n9 n10)
 all_goals (simp only [*,Bool.true_and,Bool.false_and,Bool.and_true,Bool.and_false,Bool.or_true,Bool.or_false,Bool.true_or,Bool.false_or,Bool.not_true,Bool.not_false,Bool.not_not])
theorem B4z (r:I6) (hs:Y7 r) (hC:P6 r=true) (st:St):S P 84 [J6 r] st fun v st'=>v=.bool true∧st'=st:=by
 have h:=B3f r (by
  unfold P6 at hC
  simp only [Bool.and_eq_true] at hC
  have:=(A8U hC.1.1.1.2).few;omega) hs st
 rw [hC] at h;exact h
theorem B8W (l:List D7) (hl:Sm l.length) (hs:∀ s∈l,Sm s.size) (st:St):S P 85 [D9 l] st fun v st'=>v=.bool (A0n l)∧st'=st:=by
 have e:A0n l=(X6 l&&decide ((l.length:Int)≤4)):=by
  unfold A0n X6
  generalize decide ((l.length:Int)≤4)=a
  generalize V7 l=b
  generalize (l.any fun s=>!E7 s)=c
  cases a<;>cases b<;>cases c<;>rfl
 rw [e]
 refine A8 [] B9 mixed Tryz.func85 (by rfl) rfl rfl rfl ?_;conv=>whnf
 refine B0 (A9g l 4 hl hs st) ?_;conv=>whnf
 exact ⟨rfl,rfl⟩
def Q0 (l:List A9) (codes:List D7):List Int:=(places l codes l.length).mergeSort fun x y=>!X5 (E6 l y) (E6 l x)
theorem A1A (l:List A9) (codes:List D7):(Q0 l codes).Perm (places l codes l.length):=List.mergeSort_perm ..
theorem B8N (l:List A9) (codes:List D7):(Q0 l codes).Pairwise (A2A l):=by
 have:=List.pairwise_mergeSort (le:=fun x y:Int=>!X5 (E6 l y) (E6 l x)) (fun a b c h1 h2=>by simp only [Bool.not_eq_true'] at *;exact A6i h1 h2) (fun a b=>by
  cases h:X5 (E6 l b) (E6 l a) with
  | false=>rfl
  | true=>rw [A7k h];rfl) (places l codes l.length)
 exact this.imp (fun h=>by simpa [A2A] using h)
theorem B4u {l:List A9} (ok:B2e l) {x y:Int} (hx:0≤x∧x.toNat<l.length) (hy:0≤y∧y.toNat<l.length) (h1:A2A l x y) (h2:A2A l y x):x=y:=by
 unfold A2A at h1 h2
 rw [←Bool.not_eq_true,A1G] at h1 h2
 have e:(E6 l x).prio=(E6 l y).prio:=by
  have a:¬(E6 l y).prio>(E6 l x).prio:=fun h=>h1 (.inl h)
  have b:¬(E6 l x).prio>(E6 l y).prio:=fun h=>h2 (.inl h)
  omega
 have a:slt (E6 l y).id (E6 l x).id=false:=by rw [←Bool.not_eq_true];exact fun h=>h1 (.inr ⟨e.symm,h⟩)
 have b:slt (E6 l x).id (E6 l y).id=false:=by rw [←Bool.not_eq_true];exact fun h=>h2 (.inr ⟨e,h⟩)
 have c:=A4S a b
 rcases Nat.lt_trichotomy x.toNat y.toNat with h | h | h
 ·have:=ok.ids _ _ h hy.2
  rw [beq_eq_false_iff_ne] at this
  exact absurd c.symm this
 ·omega
 ·have:=ok.ids _ _ h hx.2
  rw [beq_eq_false_iff_ne] at this
  exact absurd c this
theorem B2J {l:List A9} (hC:promosC l=true) {codes:List D7} {o:List Int} (h1:o.Perm (places l codes l.length)) (h2:o.Pairwise (A2A l)):o=Q0 l codes:=by
 refine (h1.trans (A1A l codes).symm).eq_of_pairwise (le:=A2A l) (fun a b ha hb h3 h4=>?_) h2 (B8N l codes)
 exact B4u (A8U hC) (W8 (h1.mem_iff.1 ha)) (W8 ((A1A l codes).mem_iff.1 hb)) h3 h4
theorem B6T (l:List A9) (codes:List D7) (hC:promosC l=true) (hc:Sm codes.length) (st:St):S P 89 [B2 15 B7 l,D9 codes] st fun v st'=>v=B6 (Q0 l codes)∧st'=st :=
 (B9d l codes (by have:=(A8U hC).few;omega) hc st).mono fun v st' ⟨⟨o,h1,h2,h3⟩,h4⟩=>⟨by rw [h3,B2J hC h1 h2],h4⟩
theorem A6s {l:List A9} (hC:promosC l=true) {codes:List D7} {o:List Int} (ho:A6G l codes o):L3 l o=Q0 l codes:=by
 refine B2J hC ((B0x l o).trans ho.1) ?_
 refine List.Pairwise.map _ (fun a b h=>h) (R:=fun a b:QE=>A2A l (gI o a.2.toNat) (gI o b.2.toNat)) ?_
 refine (A5h l o).imp_of_mem fun {a b} ha hb h=>?_
 have h1:=A3r ha
 have h2:=A3r hb
 obtain ⟨i,hi,rfl⟩:=List.mem_map.1 ((A0g l o).mem_iff.1 ha)
 obtain ⟨j,hj,rfl⟩:=List.mem_map.1 ((A0g l o).mem_iff.1 hb)
 rw [R8] at h
 simp only [A9a,Int.toNat_natCast] at h h1 h2 ⊢
 unfold A2A
 rw [←Bool.not_eq_true,A1G]
 rintro (h3 | ⟨h3,h4⟩)
 ·exact h (.inl h3)
 ·rcases Nat.lt_trichotomy i j with e | e | e
  ·have:=ho.2 i j (Nat.zero_le _) e h2.2
   unfold C0K at this
   rw [this] at h4;cases h4
  ·subst e;rw [A3t] at h4;cases h4
  ·exact h (.inr ⟨h3,by omega⟩)
end Go.Proofs.YtbajhapmlfbelaaGreat
namespace Go.Proofs.YtbajhapmlfbelaaGreat
open Go Go.Ab
theorem A9O (p:A9) (id K:Int):A0k (L2 p id K):=by
 have hs:=(A1s p.scope).2
 have hp:=A3p p.parts
 have ht5:=(A1t p.tiers 5000 (.inl rfl)).2
 have ht6:=(A1t p.tiers 5 (.inr rfl)).2
 refine ⟨?_,?_,?_,?_,?_,?_,?_⟩
 ·have:=U9 (B2w id);show (idN id).size≤_;omega
 ·have:=(A7q p).2;show (A0L p).size≤_;omega
 ·have:=(A8n p).2;show (A1Q p).size≤_;omega
 ·show A0l (if K=4∨K=7 then ⟨[],[]⟩ else N3 p.scope)
  split
  ·exact A3V.2
  ·exact hs
 ·show (if K=4 then L7 p.parts else []).length≤_
  split
  ·omega
  ·exact Nat.zero_le _
 ·show ∀ x∈(if K=4 then L7 p.parts else []),_
  split
  ·exact fun x hx=>(hp.2 x hx).2
  ·exact fun x hx=>absurd hx List.not_mem_nil
 ·show (if K=5 then L8 p.tiers 5000 else if K=6 then L8 p.tiers 5 else []).length≤_
  split
  ·omega
  ·split
   ·omega
   ·exact Nat.zero_le _
theorem B2X (l:List T7) (k:Nat) (hk:k<3):B0O (E5 l k):=by
 have hn:=List.all_eq_true.1 A9G k (List.mem_range.2 hk)
 have hz:=U9 hn
 unfold E5
 split
 ·obtain ⟨h1,h2,h3⟩:=A6p (l.getD k default).rates
  generalize P2 (l.getD k default).rates=R at h1 h2 h3 ⊢
  exact ⟨by show R.length≤_;omega,by show (T2 k).size≤_;omega,fun x hx=>by have:=(h2 x hx).2;show x.cat.size≤_;omega⟩
 ·exact ⟨by show 0≤_;decide,by show (T2 k).size≤_;omega,fun x hx=>absurd hx List.not_mem_nil⟩
theorem B4t (t:Tax):B5b (J3 t):=by
 refine ⟨by show ((List.range 3).map _).length≤_;rw [List.length_map,List.length_range];decide,fun z hz=>?_⟩
 obtain ⟨k,hk,rfl⟩:=List.mem_map.1 hz
 exact B2X _ k (List.mem_range.1 hk)
theorem B1y (r:I6):Y7 (X1 r):=by
 have h0:=A2r r.items
 have h2:=(X0 r.policy.order).2
 have h3:=(X0 r.policy.credit).2
 refine ⟨by show (L6 r.items).length≤_;omega,fun x hx=>?_,fun p hp=>?_,B4t r.tax,by show (K1 r.policy.order).length≤_;omega,by show (K1 r.policy.credit).length≤_;omega⟩
 ·have:=A5g hx
  exact ⟨by have:=this.2.1;show x.sku.size≤_;omega,by have:=this.2.2;show x.cat.size≤_;omega⟩
 ·obtain ⟨q,id,K,_,rfl⟩:=A4l hp
  exact A9O q id K
end Go.Proofs.YtbajhapmlfbelaaGreat
namespace Go.Proofs.YtbajhapmlfbelaaGreat
open Go Go.Ab
attribute [local irreducible] upd del
theorem ROut.own {R:St→St→Prop} {ty e n:Nat} {fo:Nat→AV} {s t:St} {sv:AV} (h:ROut R ty e fo (n+1) s sv t):∃ b,sv=.own e b 0 (n+1):=by
 obtain ⟨s0,⟨h1,_⟩ | ⟨_,b,_,_,h1,_⟩,h2⟩:=h
 ·cases h1
 ·exact ⟨b,h1⟩
theorem RD.wr {dl:List A0C} {gr:List D7} {dv gv:AV} {s t:St} {b:Nat} {y y':Q3} (h:RD dl gr dv gv s t) (hb:s b=some y):RD dl gr dv gv (upd s b y') (upd t b y'):=(A2a dl gr dv gv).write h hb
theorem RD.sup {dl:List A0C} {gr:List D7} {dv gv:AV} {s t:St} (h:RD dl gr dv gv s t):G3 s t:=(A2a dl gr dv gv).sup h
theorem RD.start (s:St):RD [] [] .emp .emp s s:=ROut.start (ROut.start (G3.refl s) _ _ _) _ _ _
theorem RD.appG {dl:List A0C} {gr:List D7} {dv gv:AV} {s t:St} {y:D7} {x:AV} {k:KK} {g:Nat→AV} (h:RD dl gr dv gv s t) (hs:V9 1 t x=some (1,g)) (hg:g 0=eS y) (hb:gr.length≤1000)
  (hk:∀ gv' t',RD dl (gr++[y]) dv gv' s t'→k gv' t'):A4w T 34 gv x t k:=by
 obtain ⟨s0,hc,h⟩:=h
 refine ROut.app (q:=r9) (f:=A5d (gr++[y])) J9 rfl rfl rfl rfl hs (by rw [hg];simp only [A5d,A6d]) (by show (gr.length+1) * 16≤140737488355328;omega) (ROut.congr h fun k hk=>by simp only [A5d];rw [A2I hk]) (fun sv' t' h'=>hk sv' t' ⟨s0,hc,?_⟩)
 show ROut _ _ _ _ (gr++[y]).length _ _ _
 rw [List.length_append];exact h'
theorem RD.appD {dl:List A0C} {gr:List D7} {dv gv:AV} {s t:St} {y:A0C} {x:AV} {k:KK} {g:Nat→AV} (h:RD dl gr dv gv s t) (hs:V9 2 t x=some (1,g)) (hg:g 0=A3U y) (hb:dl.length≤1000)
  (hk:∀ b t',RD (dl++[y]) gr (.own 2 b 0 (dl.length+1)) gv s t'→k (.own 2 b 0 (dl.length+1)) t'):A4w T 42 dv x t k:=by
 refine ROut.app (q:=C1b) (f:=A0o (dl++[y])) (A5V _ _) rfl rfl rfl rfl hs (by rw [hg];simp only [A0o,A6d]) (by show (dl.length+1) * 24≤140737488355328;omega) (ROut.congr h fun k hk=>by simp only [A0o];rw [A2I hk]) (fun sv' t' h'=>?_)
 obtain ⟨b,rfl⟩:=ROut.own h'
 exact hk b t' (RD.of h')
theorem RD.deals {dl:List A0C} {gr:List D7} {dv gv:AV} {s t:St} (h:RD dl gr dv gv s t):(dl=[]∧dv=.emp)∨∃ bd g,dv=.own 2 bd 0 dl.length∧s bd=none∧t bd=some ⟨134,2,dl.length,g⟩∧∀ k,k<dl.length→g k=A0o dl k:=by
 obtain ⟨s0,hc,hg0⟩:=h
 rcases hc with ⟨h0,h1,rfl⟩ | ⟨h0,b,g0,hb,h1,rfl,hgg⟩
 ·exact .inl ⟨List.eq_nil_of_length_eq_zero h0,h1⟩
 ·exact .inr ⟨b,g0,h1,hb,(A5V _ _).sup hg0 b _ (A0 ..),hgg⟩
theorem RD.groups {dl:List A0C} {gr:List D7} {dv gv:AV} {s t:St} (h:RD dl gr dv gv s t):(gv=.emp∧gr=[])∨∃ b g,gv=.own 1 b 0 gr.length∧t b=some ⟨9,1,gr.length,g⟩∧∀ k,k<gr.length→g k=eS (gr.getD k default):=by
 obtain ⟨s0,hc,s1,hc2,hs⟩:=h
 rcases hc2 with ⟨h0,h1,rfl⟩ | ⟨h0,b,g0,hb,h1,rfl,hgg⟩
 ·exact .inl ⟨h1,List.eq_nil_of_length_eq_zero h0⟩
 ·exact .inr ⟨b,g0,h1,hs b _ (A0 ..),hgg⟩
theorem A8r {σ : Type} (px : σ→PSt) (step : σ→A9→σ) (sm:A9→Bool) (l:List A9) (a : σ) (o:List Int) (x:Int):T0 px step sm l a (o++[x])=if sm (E6 l x)=true then goB px step (T0 px step sm l a o) (E6 l x) else T0 px step sm l a o:=by
 unfold T0
 rw [List.filter_append,List.foldl_append]
 by_cases h:sm (E6 l x)=true
 ·rw [if_pos h,List.filter_cons_of_pos (p:=fun x=>sm (E6 l x)) h];rfl
 ·rw [if_neg h,List.filter_cons_of_neg (p:=fun x=>sm (E6 l x)) h];rfl
def named (l:List D7):List D7:=l.filter fun g=>!J0 g
theorem A8H (l:List D7) (g:D7):named (l++[g])=named l++(if J0 g=true then [] else [g]):=by
 unfold named
 rw [List.filter_append]
 congr 1
 cases h:J0 g
 ·rw [List.filter_cons_of_pos (p:=fun g=>!J0 g) (by rw [h];rfl)];rfl
 ·rw [List.filter_cons_of_neg (p:=fun g=>!J0 g) (by rw [h];simp)];rfl
theorem B9J (l:List D7) (g:D7):(!J0 g&&l.any fun y=>y.toList==g.toList)=!(J0 g||!inB (named l) g):=by
 cases hn:J0 g
 ·rw [Bool.not_false,Bool.true_and,Bool.false_or,Bool.not_not]
  unfold inB named
  rw [←Bool.coe_iff_coe,List.any_eq_true,List.any_eq_true]
  constructor
  ·rintro ⟨y,h1,h2⟩
   refine ⟨y,List.mem_filter.2 ⟨h1,?_⟩,by rw [Bool.beq_comm];exact h2⟩
   unfold J0 at hn ⊢
   rw [eq_of_beq h2,hn];rfl
  ·rintro ⟨y,h1,h2⟩
   exact ⟨y,(List.mem_filter.1 h1).1,by rw [Bool.beq_comm];exact h2⟩
 ·rfl
theorem C1P {σ : Type} {px : σ→PSt} {step : σ→A9→σ} {a : σ} {pr:A9} {G:List D7} (hG:named G=(px a).groups) :
  goB px step a pr=if (!J0 pr.group&&G.any fun y=>y.toList==pr.group.toList)=true then a else step a pr:=by
 unfold goB
 rw [B9J,hG]
 cases (J0 pr.group||!inB (px a).groups pr.group)<;>rfl
theorem C0o {items:List Ab.Item} {p:PSt} {pr:A9} (hk:P8 pr=true) {G:List D7} (hG:named G=p.groups) :
  goB (fun p=>p) (A3e items) p pr=if (!J0 pr.group&&G.any fun y=>y.toList==pr.group.toList)=true then p else A3e items p pr:=C1P (px:=fun p=>p) hG
theorem B6x (l:List D7):(named l).length≤l.length:=List.length_filter_le _ _
set_option maxHeartbeats 8000000 in
theorem B8Z (r:I6) (codes:List D7) (l:List G1) (hf:U3 r) (hsm:Y7 r) (hR:P6 r=true) (hcn:Sm codes.length) (hcs:∀ s∈codes,Sm s.size) (hln:Sm l.length) (st:St) :
  S P 19 [J6 r,D9 codes,B2 3 I9 l] st fun v st' =>
   v=(if D0 r codes l=0 then .tuple [U1 (Q7 r l (Q0 r.promos codes) (Q0 r.promos codes)),eI 0] else .tuple [U1 ⟨[],0,0,[]⟩,eI (D0 r codes l)])∧st'=st:=by
 obtain ⟨X,hX⟩:∃ X,X=Q7 r l (Q0 r.promos codes) (Q0 r.promos codes):=⟨_,rfl⟩
 refine S.post (post:=fun v st'=>(D0 r codes l≠0∧v=.tuple [.agg [.emp,eI 0,eI 0,.emp],eI (D0 r codes l)]∧G3 st st') ∨
   (D0 r codes l=0∧∃ bn fn dv,v=.tuple [.agg [.own 1 bn 0 l.length,eI X.net,eI X.ship,dv],eI 0] ∧
    st bn=none∧st' bn=some ⟨2,1,l.length,fn⟩∧(∀ k,k<l.length→fn k=eI (gI X.nets k))∧G3 st st' ∧
    ((X.deals=[]∧dv=.emp)∨∃ bd g,dv=.own 2 bd 0 X.deals.length∧st bd=none∧bd≠bn∧st' bd=some ⟨134,2,X.deals.length,g⟩∧∀ k,k<X.deals.length→g k=A0o X.deals k))) ?_
  (fun v st' hv=>by
   rcases hv with ⟨h1,rfl,hs⟩ | ⟨h1,bn,fn,dv,rfl,h4,h5,h6,hs,h7⟩
   ·refine ⟨_,st,⟨rfl,rfl⟩,?_⟩
    rw [if_neg h1]
    refine (hs.shift _).trans (B3.tuple (B3.cons (B3.agg ?_) (B3.keep _ _)) rfl)
    exact B3.cons (I8 1 _) (B3.cons (B3.keep [eI 0] _) (B3.cons (B3.keep [eI 0] _) (I8 2 _)))
   ·refine ⟨_,st,⟨rfl,rfl⟩,?_⟩
    rw [if_pos h1,←hX]
    refine B3.tuple (B3.cons (B3.agg ?_) (B3.keep _ _)) rfl
    have hnl:X.nets.length=l.length:=by rw [hX];show (R5 _ _).length=_;unfold R5;rw [List.length_map,List.length_range]
    clear hX
    have e1:B6 X.nets=.arr 1 l.length (fun k=>eI (gI X.nets k)):=by unfold B6 B2;rw [hnl]
    refine B3.cons (t:=del st' bn) ?_ (B3.cons (B3.keep [eI X.net] _) (B3.cons (B3.keep [eI X.ship] _) ?_))
    ·rw [e1];exact O0 h5 rfl (Nat.le_refl _) h6
    ·rcases h7 with ⟨h8,rfl⟩ | ⟨bd,g,rfl,h8,h9,h10,h11⟩
     ·rw [h8]
      exact ((G3.del hs h4).shift _).trans (I8 2 _)
     ·refine (O0 (b:=bd) (y:=⟨134,2,X.deals.length,g⟩) (f:=A0o X.deals) (by rw [A1g h9];exact h10) rfl (Nat.le_refl _) h11).trans ?_
      exact (G3.del (G3.del hs h4) h8).shift _)
 have hC:=hR
 unfold P6 A7w at hC
 simp only [Bool.and_eq_true] at hC
 obtain ⟨⟨⟨⟨_,hpc⟩,_⟩,hfee,hfree⟩,_⟩:=hC
 rw [K4] at hfee hfree
 have hpk:D0 r codes l=if A0n codes=false then 2 else K5 (known r.items) l:=by unfold D0;rw [if_neg (by rw [hR];simp)]
 refine A8 [3,15,20] B9 mixed Tryz.func19 (by rfl) rfl rfl rfl ?_;conv=>whnf
 intro b6 hb6;conv=>whnf
 refine B0 (B4z r hsm hR _) ?_;conv=>whnf
 refine B0 (B8W codes hcn hcs _) ?_
 have h6s:∀ x:Q3,G3 st (upd st b6 x):=fun x=>(G3.refl st).upd hb6
 cases hcc:A0n codes
 ·rw [if_pos hcc] at hpk
  have hk0:D0 r codes l≠0:=by rw [hpk];decide
  conv=>whnf
  refine K8 (A0 ..) rfl (by omega) rfl (by rfl) ?_;conv=>whnf
  refine F7 (A0 ..) rfl (by omega) (A6 ..) ?_;conv=>whnf
  exact .inl ⟨hk0,by rw [hpk];rfl,(h6s _).over hb6⟩
 rw [if_neg (by rw [hcc];simp)] at hpk;conv=>whnf
 refine B0 (B8V r.items l hsm.n hln _) ?_
 rw [←hpk];conv=>whnf
 cases h1:(D0 r codes l != 0)
 case true =>
  have hk0:D0 r codes l≠0:=by simpa using h1
  conv=>whnf
  refine K8 (A0 ..) rfl (by omega) rfl (by rfl) ?_;conv=>whnf
  refine F7 (A0 ..) rfl (by omega) (A6 ..) ?_;conv=>whnf
  exact .inl ⟨hk0,rfl,(h6s _).over hb6⟩
 have hk0:D0 r codes l=0:=by simpa using h1
 have hck:=A7N hk0
 have hli:=hck.lines
 have hlen:=hli.len
 have hus0:=B1V hli
 have hitl:(C8 r.items l).length=l.length:=List.length_map ..
 obtain ⟨u1,u2,u3⟩:=A1b l hli.line l.length (Nat.le_refl _)
 conv=>whnf
 refine ⟨[],[],List.range 13,by kernel_rfl,?_⟩;conv=>whnf
 refine ⟨_,D3 (B9a l hlen hli.line (eq_of_beq hli.may) hus0.ok.len _),?_⟩;conv=>whnf
 refine ⟨_,D3 (B8Y r.items l hsm.n hlen hli.known _),?_⟩;conv=>whnf
 refine ⟨_,D3 (B6T r.promos codes hpc hcn _),?_⟩;conv=>whnf
 have hol:(Q0 r.promos codes).length≤60:=by
  rw [(A1A _ _).length_eq]
  have:=S7 r.promos codes r.promos.length
  have:=hck.few;omega
 have hom:∀ x∈Q0 r.promos codes,0≤x∧x.toNat<r.promos.length:=fun x hx=>W8 ((A1A _ _).mem_iff.1 hx)
 have hXd:X=⟨R5 l.length (p1B r l (Q0 r.promos codes)).us,K0 (p1B r l (Q0 r.promos codes)),(p2B r l (p1B r l (Q0 r.promos codes)) (Q0 r.promos codes)).2,(p2B r l (p1B r l (Q0 r.promos codes)) (Q0 r.promos codes)).1.deals⟩:=hX
 clear hX
 generalize Q0 r.promos codes=o at *
 generalize hs6:(upd st b6 _)=s6 at *
 have h6:s6 b6=some ⟨44,4,1,fun _=>J7 r44.zero⟩:=by rw [←hs6];exact A0 ..
 have hst6:G3 st s6:=by rw [←hs6];exact h6s _
 clear hs6
 refine mkO rfl rfl rfl (by show 8 * l.length≤_;omega) (by omega) (by rfl) (fun bn hbn=>?_);conv=>whnf
 intro bp hbp
 have hnb:bn≠bp:=fun e=>by subst e;rw [A0] at hbp;cases hbp
 have hbp6:s6 bp=none:=by rw [B1 hnb.symm] at hbp;exact hbp
 have hb6p:b6≠bp:=fun e=>by subst e;rw [h6] at hbp6;cases hbp6
 have hb6n:b6≠bn:=fun e=>by subst e;rw [h6] at hbn;cases hbn
 have hstn:st bn=none:=hst6.none hbn
 have hstp:st bp=none:=hst6.none hbp6
 conv=>whnf
 refine K8 (A0 ..) rfl (by omega) rfl (by rfl) ?_
 rw [C5];conv=>whnf
 have hat:∀ {dl:List A0C} {gr:List D7} {dv gv:AV} {Y Z:Q3} {t:St},RD dl gr dv gv (upd (upd s6 bn Y) bp Z) t→t bn=some Y∧t bp=some Z:=fun h=>⟨h.sup bn _ (by rw [B1 hnb,A0]),h.sup bp _ (A0 ..)⟩
 have hwn:∀ {dl:List A0C} {gr:List D7} {dv gv:AV} {Y Z Y':Q3} {t:St},RD dl gr dv gv (upd (upd s6 bn Y) bp Z) t→RD dl gr dv gv (upd (upd s6 bn Y') bp Z) (upd t bn Y'):=fun {_ _ _ _ Y Z Y' t} h=>by
  have:=h.wr (b:=bn) (y':=Y') (by rw [B1 hnb,A0])
  rw [O6 hnb.symm,C5] at this;exact this
 have hwp:∀ {dl:List A0C} {gr:List D7} {dv gv:AV} {Y Z Z':Q3} {t:St},RD dl gr dv gv (upd (upd s6 bn Y) bp Z) t→RD dl gr dv gv (upd (upd s6 bn Y) bp Z') (upd t bp Z'):=fun {_ _ _ _ Y Z Z' t} h=>by
  have:=h.wr (b:=bp) (y':=Z') (A0 ..)
  rw [C5] at this;exact this
 have htk:∀ {i:Nat},i<o.length→o.take (i+1)=o.take i++[gI o i]:=fun h=>L9 h
 refine lp o.length [3,6,9,10,11,12,13,14] (fun i vs t=>∃ (p:PSt) (dv gv:AV) (G:List D7) (fp:Nat→AV),p=T0 (fun p=>p) (A3e (C8 r.items l)) P8 r.promos ⟨Q9 l,[],[]⟩ (o.take i) ∧
   vs=[.fptr (J6 r) 0,.optr 4 b6 0 0,C6 p.us,B2 4 F4 (C8 r.items l),B6 o,.optr 4 bp 0 0,gv,eI i] ∧
   RD p.deals G dv gv (upd (upd s6 bn ⟨2,1,l.length,fun _=>J7 r2.zero⟩) bp ⟨44,4,1,fp⟩) t∧fp 0=.agg [.own 1 bn 0 l.length,eI 0,eI 0,dv] ∧
   named G=p.groups∧G.length≤i∧p.deals.length≤i∧A4Y (C8 r.items l) p.us∧∃ x,Off (Q9 l) p.us x) ?_ ?_
 ·conv=>whnf
  exact ⟨⟨Q9 l,[],[]⟩,.emp,.emp,[],_,rfl,rfl,RD.start _,A6 ..,rfl,Nat.le_refl _,Nat.le_refl _,hus0,0,Off.refl hus0.ok⟩
 ·rintro i vs t hi ⟨p,dv,gv,G,fp,hp,rfl,hR,hfp,hG,hGn,hDn,hus,x,hoff⟩
  conv=>whnf
  cases hd:decide ((i:Int)<(o.length:Int))
  case true =>
   have hi':=G7 hd
   have hx:=hom _ (B4 hi')
   have hx0:0≤gI o (i:Int).toNat:=hx.1
   have hx1:(gI o (i:Int).toNat).toNat<r.promos.length:=hx.2
   have hpm:E6 r.promos (gI o i)∈r.promos:=B4 hx.2
   have hpr:E6 r.promos (gI o i)=r.promos.getD (gI o (i:Int).toNat).toNat default:=rfl
   have hps:PSm (E6 r.promos (gI o i)):=⟨hsm.promos _ hpm,hck.promo _ hpm,hf.fit _ hpm⟩
   have hnext:=A8r (fun p=>p) (A3e (C8 r.items l)) P8 r.promos ⟨Q9 l,[],[]⟩ (o.take i) (gI o i)
   rw [←htk hi',←hp,hpr] at hnext
   rw [hpr] at hps;conv=>whnf
   refine ⟨[8,9],[1,5,7],List.range 10,by kernel_rfl,?_⟩;conv=>whnf
   refine ⟨_,fun s _=>⟨rfl,rfl⟩,?_⟩;conv=>whnf
   refine ⟨rfl,⟨by omega,by omega⟩,?_⟩;conv=>whnf
   refine ⟨_,fun s _=>⟨rfl,rfl⟩,?_⟩;conv=>whnf
   refine ⟨rfl,⟨by show 0≤gI o (i:Int).toNat;omega,by show gI o (i:Int).toNat<(r.promos.length:Int);omega⟩,?_⟩;conv=>whnf
   refine ⟨_,fun s _=>⟨rfl,rfl⟩,?_⟩;conv=>whnf
   have hend:∀ {q:PSt} {dv' gv':AV} {G':List D7} {fp':Nat→AV} {t':St},q=T0 (fun p=>p) (A3e (C8 r.items l)) P8 r.promos ⟨Q9 l,[],[]⟩ (o.take (i+1))→RD q.deals G' dv' gv' (upd (upd s6 bn ⟨2,1,l.length,fun _=>J7 r2.zero⟩) bp ⟨44,4,1,fp'⟩) t'→fp' 0=.agg [.own 1 bn 0 l.length,eI 0,eI 0,dv'] →
     named G'=q.groups→G'.length≤i+1→q.deals.length≤i+1→A4Y (C8 r.items l) q.us→(∃ x,Off (Q9 l) q.us x)→∃ (p:PSt) (dv gv:AV) (G:List D7) (fp:Nat→AV),p=T0 (fun p=>p) (A3e (C8 r.items l)) P8 r.promos ⟨Q9 l,[],[]⟩ (o.take (i+1)) ∧
     [.fptr (J6 r) 0,.optr 4 b6 0 0,C6 q.us,B2 4 F4 (C8 r.items l),B6 o,.optr 4 bp 0 0,gv',eI (IntKind.i64.wrap ((i:Int)+1))]=[.fptr (J6 r) 0,.optr 4 b6 0 0,C6 p.us,B2 4 F4 (C8 r.items l),B6 o,.optr 4 bp 0 0,gv,eI ((i+1:Nat):Int)] ∧
     RD p.deals G dv gv (upd (upd s6 bn ⟨2,1,l.length,fun _=>J7 r2.zero⟩) bp ⟨44,4,1,fp⟩) t'∧fp 0=.agg [.own 1 bn 0 l.length,eI 0,eI 0,dv] ∧
     named G=p.groups∧G.length≤i+1∧p.deals.length≤i+1∧A4Y (C8 r.items l) p.us∧∃ x,Off (Q9 l) p.us x:=fun {q dv' gv' G' fp' t'} h1 h2 h3 h4 h5 h6 h7 h8=>⟨q,dv',gv',G',fp',h1,by rw [C2 (by omega)],h2,h3,h4,h5,h6,h7,h8⟩
   cases h7:((r.promos.getD (gI o (i:Int).toNat).toNat default).kind==7)
   case true =>
    rw [if_neg (by unfold P8;rw [h7];simp)] at hnext;conv=>whnf
    refine ⟨rfl,?_⟩;conv=>whnf
    exact nx hi' (hend hnext.symm hR hfp hG (by omega) (by omega) hus ⟨x,hoff⟩)
   case false =>
    have hns:P8 (r.promos.getD (gI o (i:Int).toNat).toNat default)=true:=by unfold P8;rw [h7];rfl
    rw [if_pos hns,C0o hns hG] at hnext;conv=>whnf
    refine B0 (B3l G (r.promos.getD (gI o (i:Int).toNat).toNat default).group (by omega) gv _ hR.groups) ?_
    cases htk:(!J0 (r.promos.getD (gI o (i:Int).toNat).toNat default).group&&G.any fun y=>y.toList==(r.promos.getD (gI o (i:Int).toNat).toNat default).group.toList)
    case true =>
     rw [if_pos htk] at hnext;conv=>whnf
     refine ⟨rfl,?_⟩;conv=>whnf
     exact nx hi' (hend hnext.symm hR hfp hG (by omega) (by omega) hus ⟨x,hoff⟩)
    case false =>
     rw [if_neg (by rw [htk];simp)] at hnext
     have hk7:(r.promos.getD (gI o (i:Int).toNat).toNat default).kind≠7:=by simpa using h7
     obtain ⟨y,hoy⟩:=B2j hus hps.fit hps.right hk7
     have hus2:=hus.off hoy
     have hof2:=hoff.trans hoy
     rw [←hnext] at hus2 hof2
     have hAs:A3e (C8 r.items l) p (r.promos.getD (gI o (i:Int).toNat).toNat default)=if (U2 (C8 r.items l) p.us (r.promos.getD (gI o (i:Int).toNat).toNat default)).2>0 then A0s ⟨(U2 (C8 r.items l) p.us (r.promos.getD (gI o (i:Int).toNat).toNat default)).1,p.deals,p.groups⟩ (r.promos.getD (gI o (i:Int).toNat).toNat default) (U2 (C8 r.items l) p.us (r.promos.getD (gI o (i:Int).toNat).toNat default)).2 else p:=rfl
     conv=>whnf
     refine call (C2T (C8 r.items l) p.us (r.promos.getD (gI o (i:Int).toNat).toNat default) hps hk7 hus _) (fun v t' hv=>?_)
     obtain ⟨⟨z,rfl,hz⟩,rfl⟩:=hv
     conv=>whnf
     cases hgt:decide ((U2 (C8 r.items l) p.us (r.promos.getD (gI o (i:Int).toNat).toNat default)).2>0)
     case false =>
      rw [if_neg (of_decide_eq_false hgt)] at hAs
      rw [hAs] at hnext;conv=>whnf
      refine ⟨rfl,?_⟩;conv=>whnf
      exact nx hi' (hend hnext.symm hR hfp hG (by omega) (by omega) hus ⟨x,hoff⟩)
     case true =>
      have hgt':=of_decide_eq_true hgt
      rw [if_pos hgt'] at hAs
      rw [hAs] at hnext
      obtain rfl:=hz hgt'
      conv=>whnf
      refine RD.appG (y:=(r.promos.getD (gI o (i:Int).toNat).toNat default).group) hR rfl rfl (by omega) (fun gv' t1 hR1=>?_);conv=>whnf
      have hdv:=ROut.head hR1
      rcases hdv with rfl | ⟨bo,rfl⟩
      all_goals
       refine F7 (hat hR1).2 rfl (by omega) hfp ?_;conv=>whnf
       refine RD.appD (y:=⟨(r.promos.getD (gI o (i:Int).toNat).toNat default).id,(U2 (C8 r.items l) p.us (r.promos.getD (gI o (i:Int).toNat).toNat default)).2⟩) hR1 rfl (by rfl) (by omega) (fun bd t2 hR2=>?_);conv=>whnf
       refine K8 (hat hR2).2 rfl (by omega) hfp (by rfl) ?_;conv=>whnf
       refine ⟨rfl,?_⟩;conv=>whnf
       refine nx hi' ?_
       have hD:(A0s ⟨(U2 (C8 r.items l) p.us (r.promos.getD (gI o (i:Int).toNat).toNat default)).1,p.deals,p.groups⟩ (r.promos.getD (gI o (i:Int).toNat).toNat default) (U2 (C8 r.items l) p.us (r.promos.getD (gI o (i:Int).toNat).toNat default)).2).deals=p.deals++[⟨(r.promos.getD (gI o (i:Int).toNat).toNat default).id,(U2 (C8 r.items l) p.us (r.promos.getD (gI o (i:Int).toNat).toNat default)).2⟩]:=rfl
       have hGr:(A0s ⟨(U2 (C8 r.items l) p.us (r.promos.getD (gI o (i:Int).toNat).toNat default)).1,p.deals,p.groups⟩ (r.promos.getD (gI o (i:Int).toNat).toNat default) (U2 (C8 r.items l) p.us (r.promos.getD (gI o (i:Int).toNat).toNat default)).2).groups=p.groups++(if J0 (r.promos.getD (gI o (i:Int).toNat).toNat default).group=true then [] else [(r.promos.getD (gI o (i:Int).toNat).toNat default).group]):=rfl
       have hUs:(A0s ⟨(U2 (C8 r.items l) p.us (r.promos.getD (gI o (i:Int).toNat).toNat default)).1,p.deals,p.groups⟩ (r.promos.getD (gI o (i:Int).toNat).toNat default) (U2 (C8 r.items l) p.us (r.promos.getD (gI o (i:Int).toNat).toNat default)).2).us=(U2 (C8 r.items l) p.us (r.promos.getD (gI o (i:Int).toNat).toNat default)).1:=rfl
       rw [hnext] at hus2 hof2
       exact hend (G':=G++[(r.promos.getD (gI o (i:Int).toNat).toNat default).group]) hnext.symm (hwp hR2) (A6 ..) (by rw [A8H,hG];rfl) (by rw [List.length_append];show G.length+1≤_;omega) (by rw [hD,List.length_append];show p.deals.length+1≤_;omega) hus2 ⟨_,hof2⟩
  case false =>
   obtain rfl:=E0 hd hi
   rw [List.take_length] at hp
   have hp1:p1B r l o=p:=hp.symm
   rw [hp1] at hXd
   clear hp1 hp
   have hu1:=hus.ok
   have hul:=hu1.len
   have hus1:=hu1.sum
   have hnet0:=C9 hu1.nets0
   have hline:∀ k,k<p.us.length→0≤(gU p.us k).line∧(gU p.us k).line.toNat<l.length:=fun k hk=>by
    have:=hus.line _ (B4 hk)
    rw [hitl] at this;exact this
   have hul1:p.us.length=(Q9 l).length:=hoff.len
   conv=>whnf
   refine lp p.us.length [3,6,9,11,12,13,18] (fun k vs t=>∃ (fn fp:Nat→AV),vs=[.fptr (J6 r) 0,.optr 4 b6 0 0,C6 p.us,B6 o,.optr 4 bp 0 0,gv,eI k] ∧
    RD p.deals G dv gv (upd (upd s6 bn ⟨2,1,l.length,fn⟩) bp ⟨44,4,1,fp⟩) t∧fp 0=.agg [.own 1 bn 0 l.length,eI (A5 ((D5 p.us).take k)),eI 0,dv]∧∀ j,j<l.length→fn j=eI (E9 (p.us.take k) j)) ?_ ?_
   ·conv=>whnf
    exact ⟨_,fp,rfl,hR,hfp,fun j _=>rfl⟩
   ·clear hR hfp fp
    rintro k vs t hk ⟨fn,fp,rfl,hR,hfp,hfn⟩
    obtain ⟨htn,htp⟩:=hat hR
    conv=>whnf
    cases hd2:decide ((k:Int)<(p.us.length:Int))
    case true =>
     have hk':=G7 hd2
     have hlk:0≤(gU p.us (k:Int).toNat).line∧(gU p.us (k:Int).toNat).line.toNat<l.length:=hline k hk'
     have hn0:0≤(gU p.us k).net:=hu1.at0 k
     have hn1:(gU p.us k).net≤10000000000000:=hu1.le (B4 hk')
     have e1:=N4 (l:=D5 p.us) (i:=k) (by rw [List.length_map];exact hk')
     have e4:gI (D5 p.us) k=(gU p.us k).net:=E1 B5.net p.us hk'
     have e2:=L4 hu1.nets0 (k+1)
     have e3:=C9 (l:=(D5 p.us).take k) (fun x hx=>hu1.nets0 x (List.take_subset _ _ hx))
     have hlb:=Y2 hu1 k (gU p.us (k:Int).toNat).line.toNat
     have hlb2:=Y2 hu1 (k+1) (gU p.us (k:Int).toNat).line.toNat
     have hln1:E9 (p.us.take (k+1)) (gU p.us (k:Int).toNat).line.toNat=E9 (p.us.take k) (gU p.us (k:Int).toNat).line.toNat+(gU p.us (k:Int).toNat).net:=(S6 hk' (gU p.us k).line.toNat).trans (if_pos rfl)
     have hfl:fn (0+(gU p.us (k:Int).toNat).line.toNat)=eI (E9 (p.us.take k) (gU p.us (k:Int).toNat).line.toNat):=by rw [Nat.zero_add];exact hfn _ hlk.2
     have w1:IntKind.i64.wrap (E9 (p.us.take k) (gU p.us (k:Int).toNat).line.toNat+(gU p.us (k:Int).toNat).net)=E9 (p.us.take (k+1)) (gU p.us (k:Int).toNat).line.toNat:=by rw [hln1];exact A7 (by omega) (by omega)
     have w2:IntKind.i64.wrap (A5 ((D5 p.us).take k)+(gU p.us (k:Int).toNat).net)=A5 ((D5 p.us).take (k+1)):=by rw [e1,e4];exact A7 (by omega) (by omega)
     conv=>whnf
     refine ⟨[23],[],List.range 24,by kernel_rfl,?_⟩;conv=>whnf
     refine F7 htp rfl (by omega) hfp ?_;conv=>whnf
     refine ⟨rfl,⟨by omega,by omega⟩,?_⟩;conv=>whnf
     refine F7 htp rfl (by omega) hfp ?_;conv=>whnf
     refine ⟨rfl,⟨by omega,by omega⟩,?_⟩;conv=>whnf
     refine ⟨rfl,⟨by show 0≤(gU p.us (k:Int).toNat).line;exact hlk.1,by show (gU p.us (k:Int).toNat).line<(l.length:Int);have:=hlk.2;have:=hlk.1;omega⟩,?_⟩;conv=>whnf
     refine F7 htn rfl (by show 0+(gU p.us (k:Int).toNat).line.toNat<_;have:=hlk.2;omega) hfl ?_;conv=>whnf
     refine ⟨rfl,⟨by omega,by omega⟩,?_⟩;conv=>whnf
     refine ⟨rfl,⟨by show 0≤(gU p.us (k:Int).toNat).line;exact hlk.1,by show (gU p.us (k:Int).toNat).line<(l.length:Int);have:=hlk.2;have:=hlk.1;omega⟩,?_⟩;conv=>whnf
     refine K8 htn rfl (by show 0+(gU p.us (k:Int).toNat).line.toNat<_;have:=hlk.2;omega) hfl (by rfl) ?_
     have hP5:=hwn (Y':=⟨2,1,l.length,H2 fn (0+(gU p.us (k:Int).toNat).line.toNat) (eI (E9 (p.us.take (k+1)) (gU p.us (k:Int).toNat).line.toNat))⟩) hR
     rw [←w1] at hP5
     obtain ⟨_,htp2⟩:=hat hP5
     conv=>whnf
     refine ⟨[9],[],List.range 10,by kernel_rfl,?_⟩;conv=>whnf
     refine F7 htp2 rfl (by omega) hfp ?_;conv=>whnf
     refine ⟨rfl,⟨by omega,by omega⟩,?_⟩;conv=>whnf
     refine K8 htp2 rfl (by omega) hfp (by rfl) ?_;conv=>whnf
     refine ⟨rfl,?_⟩;conv=>whnf
     refine nx hk' ⟨_,_,by rw [C2 (by omega)],hwp hP5,?_,fun j hj=>?_⟩
     ·rw [A6,←w2];rfl
     ·show H2 fn (0+(gU p.us (k:Int).toNat).line.toNat) _ j=_
      rw [Nat.zero_add]
      by_cases hj2:j=(gU p.us (k:Int).toNat).line.toNat
      ·subst hj2
       rw [A6,w1]
      ·rw [G2 hj2,S6 hk' j,if_neg (fun e=>hj2 e.symm)];exact hfn j hj
    case false =>
     obtain rfl:=E0 hd2 hk
     rw [List.take_length] at hfn
     have htk2:(D5 p.us).take p.us.length=D5 p.us:=by rw [←List.length_map (f:=B5.net),List.take_length]
     rw [htk2] at hfp
     change fp 0=.agg [.own 1 bn 0 l.length,eI (K0 p),eI 0,dv] at hfp
     have hF:Z0 r.ship (Q9 l).length (K0 p)=if ((p.us.length:Int)=0∨(r.ship.free>0∧K0 p≥r.ship.free)) then 0 else r.ship.fee:=by unfold Z0;rw [hul1]
     have hnb0:0≤K0 p:=hnet0
     conv=>whnf
     refine C0 (fun g1=>?_) (fun g1=>?_)<;>rw [g1]<;>simp only [decide_eq_true_eq,decide_eq_false_iff_not] at g1
     case' refine_1 =>
      conv=>whnf
      refine C0 (fun g2=>?_) (fun g2=>?_)<;>rw [g2]<;>simp only [beq_iff_eq,beq_eq_false_iff_ne,ne_eq] at g2
     case' refine_1.refine_1 =>
      conv=>whnf
      refine K8 htp rfl (by omega) hfp (by rfl) ?_
      have hR3:=hwp (Z':=⟨44,4,1,H2 fp 0 (.agg [.own 1 bn 0 l.length,eI (K0 p),eI r.ship.fee,dv])⟩) hR
      have hfp3:H2 fp 0 (.agg [.own 1 bn 0 l.length,eI (K0 p),eI r.ship.fee,dv]) 0=.agg [.own 1 bn 0 l.length,eI (K0 p),eI (Z0 r.ship (Q9 l).length (K0 p)),dv]:=by rw [A6,hF,if_neg (by omega)]
     case' refine_1.refine_2 =>
      conv=>whnf
      refine F7 htp rfl (by omega) hfp ?_;conv=>whnf
      refine C0 (fun g3=>?_) (fun g3=>?_)<;>rw [g3]<;>simp only [decide_eq_true_eq,decide_eq_false_iff_not] at g3
     case' refine_1.refine_2.refine_1 =>
      conv=>whnf
      refine K8 htp rfl (by omega) hfp (by rfl) ?_
      have hR3:=hwp (Z':=⟨44,4,1,H2 fp 0 (.agg [.own 1 bn 0 l.length,eI (K0 p),eI r.ship.fee,dv])⟩) hR
      have hfp3:H2 fp 0 (.agg [.own 1 bn 0 l.length,eI (K0 p),eI r.ship.fee,dv]) 0=.agg [.own 1 bn 0 l.length,eI (K0 p),eI (Z0 r.ship (Q9 l).length (K0 p)),dv]:=by rw [A6,hF,if_neg (by omega)]
     case' refine_1.refine_2.refine_2 =>
      have hR3:=hR
      have hfp3:fp 0=.agg [.own 1 bn 0 l.length,eI (K0 p),eI (Z0 r.ship (Q9 l).length (K0 p)),dv]:=by rw [hfp,hF,if_pos (by omega)]
     case' refine_2 =>
      have hR3:=hR
      have hfp3:fp 0=.agg [.own 1 bn 0 l.length,eI (K0 p),eI (Z0 r.ship (Q9 l).length (K0 p)),dv]:=by rw [hfp,hF,if_pos (by omega)]
     all_goals
      conv=>whnf
      clear hR hfp hF
      have hfeB:0≤Z0 r.ship (Q9 l).length (K0 p)∧Z0 r.ship (Q9 l).length (K0 p)≤10000000000000:=by
       unfold Z0;split<;>omega
      refine lp o.length [3,6,11,12,13,19] (fun i vs t=>∃ (a:PSt×Int) (dv gv:AV) (G:List D7) (fp:Nat→AV),a=T0 (fun a=>a.1) (Q6 (K0 p)) U7 r.promos (p,Z0 r.ship (Q9 l).length (K0 p)) (o.take i) ∧
       vs=[.fptr (J6 r) 0,.optr 4 b6 0 0,B6 o,.optr 4 bp 0 0,gv,eI i] ∧
       RD a.1.deals G dv gv (upd (upd s6 bn ⟨2,1,l.length,fn⟩) bp ⟨44,4,1,fp⟩) t∧fp 0=.agg [.own 1 bn 0 l.length,eI (K0 p),eI a.2,dv] ∧
       named G=a.1.groups∧G.length≤60+i∧a.1.deals.length≤60+i∧0≤a.2∧a.2≤10000000000000) ?_ ?_
      ·conv=>whnf
       exact ⟨(p,Z0 r.ship (Q9 l).length (K0 p)),dv,gv,G,_,rfl,rfl,hR3,hfp3,hG,by omega,by show p.deals.length≤_;omega,hfeB⟩
      clear hR3 hfp3 hG hGn hDn htp htn hd hd2 hk hi
      rintro i vs t hi ⟨a,dv,gv,G,fp,ha,rfl,hR,hfp,hG,hGn,hDn,ha0,ha1⟩
      obtain ⟨htn,htp⟩:=hat hR
      conv=>whnf
      cases hd:decide ((i:Int)<(o.length:Int))
      case false =>
       obtain rfl:=E0 hd hi
       rw [List.take_length] at ha
       have hp2:p2B r l p o=a:=ha.symm
       rw [hp2] at hXd
       have h6b:t b6=some ⟨44,4,1,fun _=>J7 r44.zero⟩:=hR.sup b6 _ (by rw [B1 hb6p,B1 hb6n];exact h6)
       have h76:G3 s6 t:=fun c x hc=>hR.sup c x (by
        have e1:c≠bp:=fun e=>by subst e;rw [hbp6] at hc;cases hc
        have e2:c≠bn:=fun e=>by subst e;rw [hbn] at hc;cases hc
        rw [B1 e1,B1 e2];exact hc)
       have hS2:G3 st t:=hst6.trans h76
       have hnets:∀ k,k<l.length→fn k=eI (gI X.nets k):=fun k hk=>by
        rw [hXd,hfn k hk]
        show eI _=eI (gI (R5 l.length p.us) k)
        unfold R5
        rw [I7 _ hk]
       conv=>whnf
       rcases hR.deals with ⟨hd0,rfl⟩ | ⟨bd,gd,rfl,hbd,hbt,hgd⟩
       ·refine F7 htp rfl (by omega) hfp ?_;conv=>whnf
        refine K8 h6b rfl (by omega) rfl (by rfl) ?_;conv=>whnf
        refine F7 (A0 ..) rfl (by omega) (A6 ..) ?_;conv=>whnf
        exact .inr ⟨hk0,bn,fn,.emp,by rw [hXd];rfl,hstn,by rw [B1 hb6n.symm];exact htn,hnets,hS2.over hb6,.inl ⟨by rw [hXd];exact hd0,rfl⟩⟩
       ·have hbdp:bd≠bp:=fun e=>by subst e;rw [A0] at hbd;cases hbd
        rw [B1 hbdp] at hbd
        have hbdn:bd≠bn:=fun e=>by subst e;rw [A0] at hbd;cases hbd
        rw [B1 hbdn] at hbd
        have hbd6:bd≠b6:=fun e=>by subst e;rw [h6] at hbd;cases hbd
        refine F7 htp rfl (by omega) hfp ?_;conv=>whnf
        refine K8 h6b rfl (by omega) rfl (by rfl) ?_;conv=>whnf
        refine F7 (A0 ..) rfl (by omega) (A6 ..) ?_;conv=>whnf
        exact .inr ⟨hk0,bn,fn,.own 2 bd 0 a.1.deals.length,by rw [hXd];rfl,hstn,by rw [B1 hb6n.symm];exact htn,hnets,hS2.over hb6,.inr ⟨bd,gd,by rw [hXd],hst6.none hbd,hbdn,by rw [B1 hbd6,hXd];exact hbt,by rw [hXd];exact hgd⟩⟩
      case true =>
       have hi':=G7 hd
       have hx:=hom _ (B4 hi')
       have hx0:0≤gI o (i:Int).toNat:=hx.1
       have hx1:(gI o (i:Int).toNat).toNat<r.promos.length:=hx.2
       have hpm:(r.promos.getD (gI o (i:Int).toNat).toNat default)∈r.promos:=B4 hx.2
       have hpc1:F6 (r.promos.getD (gI o (i:Int).toNat).toNat default)=true:=hck.promo _ hpm
       have hnext:T0 (fun a=>a.1) (Q6 (K0 p)) U7 r.promos (p,Z0 r.ship (Q9 l).length (K0 p)) (o.take (i+1))=if U7 (r.promos.getD (gI o (i:Int).toNat).toNat default)=true then goB (fun a=>a.1) (Q6 (K0 p)) a (r.promos.getD (gI o (i:Int).toNat).toNat default) else a:=by
        rw [htk hi',A8r,←ha];rfl
       have hend:∀ {q:PSt×Int} {dv' gv':AV} {G':List D7} {fp':Nat→AV} {t':St},q=T0 (fun a=>a.1) (Q6 (K0 p)) U7 r.promos (p,Z0 r.ship (Q9 l).length (K0 p)) (o.take (i+1))→RD q.1.deals G' dv' gv' (upd (upd s6 bn ⟨2,1,l.length,fn⟩) bp ⟨44,4,1,fp'⟩) t'→fp' 0=.agg [.own 1 bn 0 l.length,eI (K0 p),eI q.2,dv'] →
         named G'=q.1.groups→G'.length≤60+(i+1)→q.1.deals.length≤60+(i+1)→0≤q.2∧q.2≤10000000000000→∃ (a:PSt×Int) (dv gv:AV) (G:List D7) (fp:Nat→AV),a=T0 (fun a=>a.1) (Q6 (K0 p)) U7 r.promos (p,Z0 r.ship (Q9 l).length (K0 p)) (o.take (i+1)) ∧
         [.fptr (J6 r) 0,.optr 4 b6 0 0,B6 o,.optr 4 bp 0 0,gv',eI (IntKind.i64.wrap ((i:Int)+1))]=[.fptr (J6 r) 0,.optr 4 b6 0 0,B6 o,.optr 4 bp 0 0,gv,eI ((i+1:Nat):Int)] ∧
         RD a.1.deals G dv gv (upd (upd s6 bn ⟨2,1,l.length,fn⟩) bp ⟨44,4,1,fp⟩) t'∧fp 0=.agg [.own 1 bn 0 l.length,eI (K0 p),eI a.2,dv] ∧
         named G=a.1.groups∧G.length≤60+(i+1)∧a.1.deals.length≤60+(i+1)∧0≤a.2∧a.2≤10000000000000:=fun {q dv' gv' G' fp' t'} h1 h2 h3 h4 h5 h6 h7=>⟨q,dv',gv',G',fp',h1,by rw [C2 (by omega)],h2,h3,h4,h5,h6,h7⟩
       conv=>whnf
       refine ⟨[8,9],[1,5,7],List.range 10,by kernel_rfl,?_⟩;conv=>whnf
       refine ⟨_,fun s _=>⟨rfl,rfl⟩,?_⟩;conv=>whnf
       refine ⟨rfl,⟨by omega,by omega⟩,?_⟩;conv=>whnf
       refine ⟨_,fun s _=>⟨rfl,rfl⟩,?_⟩;conv=>whnf
       refine ⟨rfl,⟨by show 0≤gI o (i:Int).toNat;omega,by show gI o (i:Int).toNat<(r.promos.length:Int);omega⟩,?_⟩;conv=>whnf
       refine ⟨_,fun s _=>⟨rfl,rfl⟩,?_⟩;conv=>whnf
       rw [show ((r.promos.getD (gI o (i:Int).toNat).toNat default).kind != 7)=!((r.promos.getD (gI o (i:Int).toNat).toNat default).kind==7) from rfl]
       cases h7:((r.promos.getD (gI o (i:Int).toNat).toNat default).kind==7)
       case false =>
        rw [if_neg (by unfold U7;rw [h7];simp)] at hnext;conv=>whnf
        refine ⟨rfl,?_⟩;conv=>whnf
        exact nx hi' (hend hnext.symm hR hfp hG (by omega) (by omega) ⟨ha0,ha1⟩)
       case true =>
        have hns:U7 (r.promos.getD (gI o (i:Int).toNat).toNat default)=true:=by unfold U7;rw [h7]
        rw [if_pos hns,C1P hG] at hnext;conv=>whnf
        refine B0 (B3l G (r.promos.getD (gI o (i:Int).toNat).toNat default).group (by omega) gv _ hR.groups) ?_
        cases htk2:(!J0 (r.promos.getD (gI o (i:Int).toNat).toNat default).group&&G.any fun y=>y.toList==(r.promos.getD (gI o (i:Int).toNat).toNat default).group.toList)
        case true =>
         rw [if_pos htk2] at hnext;conv=>whnf
         refine ⟨rfl,?_⟩;conv=>whnf
         exact nx hi' (hend hnext.symm hR hfp hG (by omega) (by omega) ⟨ha0,ha1⟩)
        case false =>
         rw [if_neg (by rw [htk2];simp)] at hnext
         have hgl:=B6x G
         rw [hG] at hgl
         have hinv:=B0m (net:=K0 p) (n:=0) hpc1 hns (a:=a) ⟨by omega,by omega,ha0,ha1⟩
         have hS0:Q6 (K0 p) a (r.promos.getD (gI o (i:Int).toNat).toNat default)=((A5i a.1 (r.promos.getD (gI o (i:Int).toNat).toNat default) (K0 p) a.2).2,(A5i a.1 (r.promos.getD (gI o (i:Int).toNat).toNat default) (K0 p) a.2).1):=rfl
         have hSB:A5i a.1 (r.promos.getD (gI o (i:Int).toNat).toNat default) (K0 p) a.2=if K0 p<(r.promos.getD (gI o (i:Int).toNat).toNat default).least then (a.2,a.1) else (a.2 - H4 a.2 (r.promos.getD (gI o (i:Int).toNat).toNat default).rate,if H4 a.2 (r.promos.getD (gI o (i:Int).toNat).toNat default).rate>0 then A0s a.1 (r.promos.getD (gI o (i:Int).toNat).toNat default) (H4 a.2 (r.promos.getD (gI o (i:Int).toNat).toNat default).rate) else a.1):=rfl
         rw [hS0] at hnext hinv;conv=>whnf
         refine F7 htp rfl (by omega) hfp ?_;conv=>whnf
         cases hgt:decide ((r.promos.getD (gI o (i:Int).toNat).toNat default).least>K0 p)
         case true =>
          have hgt':=of_decide_eq_true hgt
          rw [hSB,if_pos hgt'] at hnext;conv=>whnf
          refine ⟨rfl,?_⟩;conv=>whnf
          exact nx hi' (hend (q:=a) hnext.symm hR hfp hG (by omega) (by omega) ⟨ha0,ha1⟩)
         case false =>
          have hgt':=of_decide_eq_false hgt
          rw [if_neg (by omega)] at hSB
          have hb:=P4 a.2 (r.promos.getD (gI o (i:Int).toNat).toNat default).rate
          have hr0:=(A2i hpc1).ship (by simpa using h7)
          have hle:=A3s ha0 (show 0≤(r.promos.getD (gI o (i:Int).toNat).toNat default).rate by omega) hr0.2
          have hw:IntKind.i64.wrap (a.2 - H4 a.2 (r.promos.getD (gI o (i:Int).toNat).toNat default).rate)=a.2 - H4 a.2 (r.promos.getD (gI o (i:Int).toNat).toNat default).rate:=A7 (by omega) (by omega)
          conv=>whnf
          refine F7 htp rfl (by omega) hfp ?_;conv=>whnf
          refine B0 (A6t a.2 (r.promos.getD (gI o (i:Int).toNat).toNat default).rate _) ?_;conv=>whnf
          cases hgh:decide (H4 a.2 (r.promos.getD (gI o (i:Int).toNat).toNat default).rate>0)
          case false =>
           have hgh':=of_decide_eq_false hgh
           rw [if_neg hgh'] at hSB
           rw [hSB,show a.2 - H4 a.2 (r.promos.getD (gI o (i:Int).toNat).toNat default).rate=a.2 by omega] at hnext;conv=>whnf
           refine ⟨rfl,?_⟩;conv=>whnf
           exact nx hi' (hend (q:=a) hnext.symm hR hfp hG (by omega) (by omega) ⟨ha0,ha1⟩)
          case true =>
           have hgh':=of_decide_eq_true hgh
           rw [if_pos hgh'] at hSB
           rw [hSB] at hnext hinv;conv=>whnf
           refine ⟨[1,6,7,8,10],[],[],.qui 0 (.qui 2 (.qui 4 (.qui 5 (.two 1 6 (.qui 3 (.qui 9 (.gen 6 (.gen 7 (.gen 8 (.gen 10 (.qui 11 .done))))))) (.two 1 7 (.qui 3 (.qui 9 (.gen 7 (.gen 8 (.gen 10 (.qui 11 .done)))))) (.two 1 8 (.qui 3 (.qui 9 (.gen 8 (.gen 10 (.qui 11 .done))))) (.gen 1 (.qui 3 (.qui 9 (.gen 10 (.qui 11 .done))))))))))),by kernel_rfl,?_⟩;conv=>whnf
           repeat' (refine And.intro ?_ ?_<;>(conv=>whnf))
           all_goals first
            | (refine F7 htp rfl (by omega) hfp ?_
               conv=>whnf
               refine RD.appG (y:=(r.promos.getD (gI o (i:Int).toNat).toNat default).group) hR rfl rfl (by omega) (fun gv' t1 hR1=>?_))
            | (refine RD.appG (y:=(r.promos.getD (gI o (i:Int).toNat).toNat default).group) hR rfl rfl (by omega) (fun gv' t1 hR1=>?_)
               conv=>whnf
               refine F7 (hat hR1).2 rfl (by omega) hfp ?_)
           all_goals
            conv=>whnf
            refine K8 (hat hR1).2 rfl (by omega) hfp (by rfl) ?_
            have hR2:=hwp (Z':=⟨44,4,1,H2 fp 0 (.agg [.own 1 bn 0 l.length,eI (K0 p),eI (IntKind.i64.wrap (a.2 - H4 a.2 (r.promos.getD (gI o (i:Int).toNat).toNat default).rate)),dv])⟩) hR1
            rcases ROut.head hR2 with rfl | ⟨bo,rfl⟩
            all_goals
             conv=>whnf
             refine F7 (hat hR2).2 rfl (by omega) (A6 ..) ?_;conv=>whnf
             refine RD.appD (y:=⟨(r.promos.getD (gI o (i:Int).toNat).toNat default).id,H4 a.2 (r.promos.getD (gI o (i:Int).toNat).toNat default).rate⟩) hR2 rfl (by rfl) (by omega) (fun bd t2 hR3=>?_);conv=>whnf
             refine K8 (hat hR3).2 rfl (by omega) (A6 ..) (by rfl) ?_;conv=>whnf
             refine ⟨rfl,?_⟩;conv=>whnf
             refine nx hi' ?_
             exact hend (q:=(A0s a.1 (r.promos.getD (gI o (i:Int).toNat).toNat default) (H4 a.2 (r.promos.getD (gI o (i:Int).toNat).toNat default).rate),a.2 - H4 a.2 (r.promos.getD (gI o (i:Int).toNat).toNat default).rate)) (G':=G++[(r.promos.getD (gI o (i:Int).toNat).toNat default).group]) hnext.symm (hwp hR3) (by rw [A6,hw];rfl) (by rw [A8H,hG];rfl) (by rw [List.length_append];show G.length+1≤_;omega) (by show (a.1.deals++[_]).length≤_;rw [List.length_append];show a.1.deals.length+1≤_;omega) ⟨by show 0≤a.2 - H4 a.2 (r.promos.getD (gI o (i:Int).toNat).toNat default).rate;omega,by show a.2 - H4 a.2 (r.promos.getD (gI o (i:Int).toNat).toNat default).rate≤_;omega⟩
end Go.Proofs.YtbajhapmlfbelaaGreat
