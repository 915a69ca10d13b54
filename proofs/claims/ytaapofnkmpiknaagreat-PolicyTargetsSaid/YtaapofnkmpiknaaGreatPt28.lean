/- Part 28 of the proof: contracts -/
import Derived.Test.YtaapofnkmpiknaaGreatPt27
set_option maxRecDepth 100000
set_option linter.unusedVariables false
set_option linter.unusedSimpArgs false
namespace Go.Proofs.YtaapofnkmpiknaaGreat
open Go Go.Ab
attribute [local irreducible] upd del
abbrev RL (ls:List Int) (svl:AV):St→St→Prop:=fun s t=>ROut F8 2 1 (fun k=>eI (gI ls k)) ls.length s svl t
abbrev RA (all ls:List Int) (sva svl:AV):St→St→Prop:=fun s t=>ROut (RL ls svl) 3 1 (fun k=>eI (gI all k)) all.length s sva t
theorem B4Q (ls:List Int) (svl:AV):K7 (RL ls svl):=W0 Q1 _ _ _ _ _
theorem C0b (all ls:List Int) (sva svl:AV):K7 (RA all ls sva svl):=W0 (B4Q ls svl) _ _ _ _ _
theorem RA.appA {all ls:List Int} {sva svl:AV} {s t:St} {y:Int} {x:AV} {k:KK} {g:Nat→AV} (h:RA all ls sva svl s t) (hs:A0v 1 t x=some (1,g)) (hg:g 0=eI y) (hb:(all.length+1) * 8≤140737488355328)
  (hk:∀ sva' t',RA (all++[y]) ls sva' svl s t'→k sva' t'):A5V T 29 sva x t k :=
 ROut.app (q:=r3) (f:=fun k=>eI (gI (all++[y]) k)) (B4Q ls svl) rfl rfl rfl rfl hs (by rw [hg];show eI y=eI (gI _ _);rw [A8C]) hb (ROut.congr h fun k hk=>by show eI _=eI _;rw [O1 hk]) (fun sv' t' h'=>hk sv' t' (by
  show ROut _ _ _ _ (all++[y]).length _ _ _
  rw [D7p];exact h'))
theorem RA.appL {all ls:List Int} {sva svl:AV} {s t:St} {y:Int} {x:AV} {k:KK} {g:Nat→AV} (h:RA all ls sva svl s t) (hs:A0v 1 t x=some (1,g)) (hg:g 0=eI y) (hb:(ls.length+1) * 8≤140737488355328)
  (hk:∀ svl' t',RA all (ls++[y]) sva svl' s t'→k svl' t'):A5V T 110 svl x t k:=by
 obtain ⟨s0,hc,h⟩:=h
 refine ROut.app (q:=r2) (f:=fun k=>eI (gI (ls++[y]) k)) Q1 rfl rfl rfl rfl hs (by rw [hg];show eI y=eI (gI _ _);rw [A8C]) hb (ROut.congr h fun k hk=>by show eI _=eI _;rw [O1 hk]) (fun sv' t' h'=>hk sv' t' ⟨s0,hc,?_⟩)
 show ROut _ _ _ _ (ls++[y]).length _ _ _
 rw [D7p];exact h'
theorem RA.start (s:St):RA [] [] .emp .emp s s:=ROut.start (ROut.start (F8.refl s) _ _ _) _ _ _
theorem RA.shift {all ls:List Int} {sva svl:AV} {s t:St} (h:RA all ls sva svl s t) (a b:AV):∃ t2,A7 [a,sva,svl,b] t [a,A9 all,A9 ls,b] t2∧F8 s t2:=by
 obtain ⟨t1,h1,h2⟩:=ROut.shift (B4Q ls svl) h
 obtain ⟨t2,h3,h4⟩:=ROut.shift Q1 h2
 exact ⟨t2,A7.cons (A7.keep _ _) (A7.cons h1 (A7.cons h3 (A7.keep _ _))),h4⟩
def A4m (u:List Bool) (l:List Int):List Bool:=l.foldl (fun u x=>u.set x.toNat true) u
theorem B9w (u:List Bool) (l:List Int):(A4m u l).length=u.length:=by
 unfold A4m
 induction l generalizing u with
 | nil=>rfl
 | cons x l ih=>rw [D8o,ih,D8p]
theorem B9v {u:List Bool} {l:List Int} (hl:∀ x∈l,x.toNat<u.length) (j:Nat):(A4m u l).getD j default=true↔u.getD j default=true∨j∈l.map Int.toNat:=by
 unfold A4m
 induction l generalizing u with
 | nil=>simp
 | cons x l ih =>
  rw [D8o,ih (fun y hy=>by rw [D8p];exact hl y (D7E _ hy)),A6F (hl x (D7G ..)),D8k,D8A]
  by_cases h:j=x.toNat
  ·simp [h]
  ·rw [if_neg h];simp [h]
theorem B0C {us:List B3} {l offs l' offs':List Int} (h:l.length=offs.length):∀ k,k≤offs'.length→k≤l'.length→D0 us (l++l') (offs++offs') (offs.length+k)=D0 (D0 us l offs offs.length) l' offs' k
 | 0,_,_=>by
  rw [D9v]
  have:∀ n,n≤offs.length→D0 us (l++l') (offs++offs') n=D0 us l offs n:=fun n=>by
   induction n with
   | zero=>intro _;rfl
   | succ n ih =>
    intro hn
    unfold D0
    rw [ih (by omega),O1 (by omega),O1 (by omega)]
  exact this _ (D7l _)
 | k+1,h1,h2=>by
  have ih:=B0C (us:=us) (l':=l') (offs':=offs') h k (by omega) (by omega)
  have e:∀ (a b:List Int),a.length=offs.length→gI (a++b) (offs.length+k)=gI b k:=fun a b ha=>by
   unfold gI
   rw [D7c,D7c,D7A (by omega),ha,Nat.add_sub_cancel_left]
  rw [←D9M]
  unfold D0
  rw [ih,e l l' h,e offs offs' rfl]
structure C6u (p:B1) (us:List B3) (E:Nat→List QE) (D:Nat) (b:BSt) (ls:List Int):Prop where
 ok:BOk p us D b
 pre:A4v E p.parts.length ⟨b.ms.used,b.ms.es,[]⟩
 len:ls.length=b.taken.length
 out:b.out=D0 us b.taken ls ls.length
 sum:A2 ls=b.all
 pos:b.taken=[]∨0<b.all
 bnd:∀ k,k<ls.length→0≤gI ls k∧gI ls k≤(gU us (gI b.taken k).toNat).net
 nd:(b.taken.map Int.toNat).Nodup
 used:∀ x∈b.taken,b.ms.used.getD x.toNat default=true
theorem C6u.step {p:B1} (hp:A4t p) {us:List B3} (hu:E5 us) {E:Nat→List QE} {D:Nat} {b:BSt} {ls:List Int} (h:C6u p us E D b ls) {s:MSt} (hs:M9 p.parts p.parts.length ⟨b.ms.used,b.ms.es,[]⟩=some s) (hc:I4 us s.l>p.amount) :
  E7 us (C3 s.l)=J2 b.out (C3 s.l)∧C6u p us E D ⟨A3H b.out (C3 s.l) (I4 us s.l - p.amount),s,b.taken++C3 s.l,b.all+(I4 us s.l - p.amount)⟩ (ls++D1 (I4 us s.l - p.amount) (E7 us (C3 s.l))):=by
 obtain ⟨k1,k2,k3⟩:=h.ok.step hp hu hs hc
 have hok0:MOk us p.parts.length ⟨b.ms.used,b.ms.es,[]⟩:=⟨h.ok.ok.len,h.ok.ok.rng,h.ok.ok.srt,fun x hx=>by simp at hx⟩
 have hok:=MOk.parts hok0 (D7l _) hs
 have htr:=A0a.parts (A0a.start b.ms.used b.ms.es) hok0 (D7l _) hs
 have hpre:=h.pre.parts hok0 (D7l _) hs
 have hN:E7 us (C3 s.l)=J2 b.out (C3 s.l):=by
  unfold E7 J2
  exact D8x fun x hx=>by rw [h.ok.same _ (htr.free x (W5.1 hx))]
 have hW:=k1.weights
 rw [←hN] at hW
 obtain ⟨a1,a2,a3⟩:=U3 hW
 have hle:=fun {k} (hk:k<(E7 us (C3 s.l)).length)=>A3F hW (by have:=k1.le;rw [←hN] at this;exact this) hk
 have hnl:=A5v us (C3 s.l)
 have hlf:A3H b.out (C3 s.l) (I4 us s.l - p.amount)=D0 b.out (C3 s.l) (D1 (I4 us s.l - p.amount) (E7 us (C3 s.l))) (D1 (I4 us s.l - p.amount) (E7 us (C3 s.l))).length:=by
  unfold A3H;rw [←hN,a2,hnl]
 have hlen:=h.len
 generalize D1 (I4 us s.l - p.amount) (E7 us (C3 s.l))=X at *
 refine ⟨hN,⟨k2,hpre,?_,?_,?_,?_,?_,?_,?_⟩⟩
 ·show (ls++X).length=(b.taken++C3 s.l).length
  rw [D7p,D7p];omega
 ·show A3H _ _ _=D0 us (b.taken++C3 s.l) (ls++X) (ls++X).length
  rw [hlf,h.out,D7p,B0C h.len.symm X.length (D7l _) (by omega)]
 ·show A2 (ls++X)=_
  rw [G2,h.sum,a1]
 ·refine .inr ?_
  show 0<b.all+(I4 us s.l - p.amount)
  have:=h.ok.off.pos
  omega
 ·intro k hk
  show 0≤gI (ls++X) k∧gI (ls++X) k≤(gU us (gI (b.taken++C3 s.l) k).toNat).net
  by_cases hkl:k<ls.length
  ·rw [O1 hkl,O1 (by omega)];exact h.bnd k hkl
  ·have e:∀ (a b:List Int),a.length=ls.length→gI (a++b) k=gI b (k - ls.length):=fun a b ha=>by
    unfold gI
    rw [D7c,D7c,D7A (by omega),ha]
   rw [D7p] at hk
   rw [e ls X rfl,e b.taken _ hlen.symm]
   refine ⟨a3 _ (A5 (by omega)),?_⟩
   have h9:=hle (k:=k - ls.length) (by omega)
   rw [show gI (E7 us (C3 s.l)) (k - ls.length)=(gU us (gI (C3 s.l) (k - ls.length)).toNat).net from D4 (fun i:Int=>(gU us i.toNat).net) _ (by omega)] at h9
   exact h9
 ·show ((b.taken++C3 s.l).map Int.toNat).Nodup
  rw [D7M]
  refine List.nodup_append.2 ⟨h.nd,((A1E s.l).map Int.toNat).nodup_iff.2 htr.nd,fun x hx y hy e=>?_⟩
  subst e
  obtain ⟨u,hu1,rfl⟩:=D7y.1 hx
  obtain ⟨w,hw1,hw2⟩:=D7y.1 hy
  have f1:=h.used u hu1
  have f2:=htr.free w (W5.1 hw1)
  rw [hw2,f1] at f2;cases f2
 ·intro x hx
  show s.used.getD x.toNat default=true
  rw [htr.used]
  rcases D8s.1 hx with hx | hx
  ·exact .inl (h.used x hx)
  ·exact .inr (D9R (W5.1 hx))
set_option maxHeartbeats 1000000 in
theorem C2l (p:B1) (us:List B3) (parts:List (List Int)) (hps:A3l p) (hright:I0 p=true) (hk:p.kind=4) (hp:A4t p) (hu:E5 us) (hl:parts.length=p.parts.length) (hm:∀ x∈parts,O4 us x) (st:St) :
  S P 219 [B8 p,C4 us,A8 1 A9 parts] st fun v st'=>v=.tuple [C4 (S5 p us parts).1,eI (S5 p us parts).2]∧st'=st:=by
 have hul:=hu.len
 have hn1:=hp.n1
 have hn8:=hp.n8
 have ha:=hp.amt
 have hme:∀ k,k<parts.length→O4 us (parts.getD k default):=fun k hk=>hm _ (A5 hk)
 have hst0:=A6g hu hl (fun k hk=>hme k hk)
 have hD:tot p.parts.length (F9 us parts).ms.es≤800000:=by
  have:=C5U (n:=p.parts.length) (B:=100000) (es:=(F9 us parts).ms.es) (fun i hi=>by
   show (E1 us (parts.getD i [])).length≤100000
   rw [A2v]
   exact D8r (hme i (by omega)).len hul)
  have h8:p.parts.length * 100000≤8 * 100000:=D8c _ hn8
  omega
 refine A0g ?_
 refine F7 [3] Tryz.func219 ?_
 refine Col.apps (q:=C2k) (f:=fun k=>A0i (gU us k)) rfl rfl rfl rfl (A3P _ _ _ _) (fun i hi=>by rw [D7o]) (by show (0+us.length) * 24≤_;omega) (Col.start _ _ _ st) (fun svS st1 hcS=>?_)
 have hsupS:=hcS.sup
 clear hcS
 conv=>whnf
 refine I3 (A7Y p hps hright _) ?_
 rw [show (p.kind != 4)=false from by rw [hk];rfl];conv=>whnf
 rw [show ((parts.length:Int) != (p.parts.length:Int))=false from by rw [hl];simp];conv=>whnf
 refine lp parts.length [1,2,3,8,9,10] (fun i vs s=>∃ sv,vs=[C4 us,A8 1 A9 parts,.fptr (B8 p) 0,svS,sv,eI i]∧E8 29 1 A9 ((parts.take i).map fun m=>(E1 us m).map (·.2)) st1 sv s) ?_ ?_
 ·conv=>whnf
  exact ⟨.emp,rfl,E8.start _ _ _ _⟩
 ·rintro i vs s hi ⟨sv,rfl,hc⟩
  conv=>whnf
  cases hd:decide ((i:Int)<(parts.length:Int))
  case true =>
   have hi':=D6 hd
   have hmi:O4 us (parts.getD (i:Int).toNat default):=by rw [D7q];exact hme i hi'
   conv=>whnf
   refine E9 ?_
   refine I3 (B9n us _ hu hmi _) ?_
   refine E9 ?_
   refine I3 (C0J us _ hu hmi _) ?_
   refine E8.app (q:=r29) (y:=(E1 us (parts.getD (i:Int).toNat default)).map (·.2)) rfl rfl rfl rfl rfl rfl (by show (_+1) * 24≤140737488355328;rw [D7i,D7n];omega) hc (fun sv' s' hc'=>?_);conv=>whnf
   refine G3 ?_
   exact nx hi' ⟨sv',by rw [B4 (by omega)],by rw [A1q hi'];exact hc'⟩
  obtain rfl:=B9 hd hi
  rw [D7m] at hc
  have hLl:(parts.map fun m=>(E1 us m).map (·.2)).length=parts.length:=D7i ..
  have hLg:∀ k,k<parts.length→(parts.map fun m=>(E1 us m).map (·.2)).getD k default=(E1 us (parts.getD k default)).map (·.2):=fun k hk=>D4 (fun m=>(E1 us m).map (·.2)) parts hk
  generalize (parts.map fun m=>(E1 us m).map (·.2))=L at *
  rcases hc with ⟨h0,_⟩ | ⟨h0,bl,gl,hbl,rfl,rfl,hgl⟩
  ·omega
  conv=>whnf
  refine mkO rfl rfl rfl (by show 1 * us.length≤_;omega) (by omega) (by rfl) (fun bu hbu=>?_)
  have hnlu:bl≠bu:=fun e=>by subst e;rw [A0] at hbu;cases hbu
  have hblS:(upd st1 bl ⟨29,1,L.length,gl⟩) bl=some ⟨29,1,L.length,gl⟩:=A0 ..
  have hsup2:F8 st (upd st1 bl ⟨29,1,L.length,gl⟩):=hsupS.upd hbl
  generalize upd st1 bl ⟨29,1,L.length,gl⟩=st2 at *
  conv=>whnf
  have hwb:∀ Y:L7,(upd st2 bu Y) bl=some ⟨29,1,L.length,gl⟩:=fun Y=>by rw [B0 hnlu];exact hblS
  refine ⟨[1,3,9,11,12,13],fun m vs s=>∃ (b:BSt) (ls:List Int) (sva svl:AV) (gu:Nat→AV) (f:Nat),m=tot p.parts.length b.ms.es∧vs=[C4 us,.fptr (B8 p) 0,.own 1 bl 0 L.length,.own 1 bu 0 us.length,sva,svl] ∧
   C6u p us (fun k=>E1 us (parts.getD k default)) (tot p.parts.length (F9 us parts).ms.es) b ls∧(tot p.parts.length b.ms.es<f∧A3D p us (tot p.parts.length (F9 us parts).ms.es+1) (F9 us parts)=A3D p us f b) ∧
   RA b.taken ls sva svl (upd st2 bu ⟨4,1,us.length,gu⟩) s∧∀ k,k<us.length→gu k=eB (b.ms.used.getD k default),?_,?_⟩
  ·conv=>whnf
   refine ⟨_,F9 us parts,[],.emp,.emp,_,_,rfl,rfl,?_,⟨D9J _,rfl⟩,RA.start _,fun k hk=>?_⟩
   ·refine ⟨hst0,fun k hk=>⟨[],rfl,fun e he=>by cases he⟩,rfl,rfl,rfl,.inl rfl,fun k hk=>absurd hk (by simp),List.nodup_nil,fun x hx=>by simp [F9] at hx⟩
   ·show eB false=eB ((List.replicate us.length false).getD k default)
    simp [D7c,hk]
  ·rintro m vs s ⟨b,ls,sva,svl,gu,f,rfl,rfl,hI,⟨hf1,hF⟩,hR,hgu⟩
   have hok0:MOk us p.parts.length ⟨b.ms.used,b.ms.es,[]⟩:=⟨hI.ok.ok.len,hI.ok.ok.rng,hI.ok.ok.srt,fun x hx=>by simp at hx⟩
   have hBA:=C0b b.taken ls sva svl
   have hsu:=hBA.sup hR
   have hsu1:=hsu bu _ (A0 ..)
   have hsl1:=hsu bl _ (hwb _)
   have hbl2:=hI.ok.len
   obtain ⟨f,rfl⟩:∃ g,f=g+1:=⟨f - 1,by omega⟩
   conv=>whnf
   refine B2 (D0e p hp us hul (fun k=>E1 us (parts.getD k default)) L (by omega) (fun k hk=>hLg k (by omega)) (fun k hk=>⟨by show (E1 _ _).length≤_;rw [A2v];exact D8r (hme k (by omega)).len hul,fun e he=>A6Z (hme k (by omega)).rng he⟩) ⟨b.ms.used,b.ms.es,[]⟩ rfl hok0 hI.pre bu gu s bl gl hsl1 hgl hsu1 hgu) ?_
   have fin:A2B p us b=none→∀ t,RA b.taken ls sva svl (upd st2 bu ⟨4,1,us.length,gu⟩) t→∃ t2,A7 [C4 us,sva,svl,eB p.closes] t [C4 us,A9 b.taken,A9 ls,eB p.closes] t2∧F8 st t2 ∧
     S P 255 [C4 us,A9 b.taken,A9 ls,eB p.closes] t2 fun v st'=>v=.tuple [C4 (S5 p us parts).1,eI (S5 p us parts).2]∧st'=t2:=fun hno t ht=>by
    obtain ⟨t2,h1,h2⟩:=ht.shift (C4 us) (eB p.closes)
    have hPl:A0n us b.taken:=B4n hI.ok.mem hI.nd
    have hout:A3D p us (tot p.parts.length (F9 us parts).ms.es+1) (F9 us parts)=b:=by
     rw [hF];unfold A3D;rw [hno]
    have h0s:∀ x∈ls,0≤x:=fun x hx=>by obtain ⟨k,hk,rfl⟩:=D2 hx;exact (hI.bnd k hk).1
    have hE:A3d us b.taken ls p.closes=S5 p us parts:=by
     unfold S5 A3d
     simp only
     rw [hout,←hI.sum,hI.out]
     by_cases hz:A2 ls=0
     ·have ht0:b.taken=[]:=by
       rcases hI.pos with e | e
       ·exact e
       ·rw [←hI.sum] at e;omega
      rw [if_pos hz,A3t (A4e h0s hz) _ (D7l _),ht0,hz]
      show (us,(0:Int))=(if p.closes=true then us else us,0)
      split<;>rfl
     ·rw [if_neg hz]
    have hsum:A2 ls≤10000000000000:=by
     have h5:=hI.ok.off.sum
     have:=hu.sum
     have:=C1 (hI.ok.off.ok hu).nets0
     rw [hI.sum];omega
    have hlen:=hI.len
    have htl:b.taken.length≤1000000:=by have:=hI.ok.len;omega
    refine ⟨t2,h1,(hsup2.upd hbu).trans h2,?_⟩
    rw [←hE]
    exact B5C us b.taken ls p.closes hu hPl htl (by omega) hI.bnd (by omega) t2
   cases hs:M9 p.parts p.parts.length ⟨b.ms.used,b.ms.es,[]⟩ with
   | none =>
    have hone:A9O p ⟨b.ms.used,b.ms.es,[]⟩=[]:=by unfold A9O;rw [hs]
    obtain ⟨t2,g1,g2,g3⟩:=fin (by unfold A2B;rw [hs]) s hR
    rw [hone];conv=>whnf
    refine I3 (A7j us [] (by simp) (fun k hk=>absurd hk (by simp)) _) ?_
    refine I3 (B0c [] (by simp) (fun x hx=>by cases hx) (by decide) _) ?_
    refine E2 g1 (B2 g3 ?_);conv=>whnf
    exact ⟨rfl,g2⟩
   | some s1 =>
    have hok:=MOk.parts hok0 (D7l _) hs
    have htr:=A0a.parts (A0a.start b.ms.used b.ms.es) hok0 (D7l _) hs
    have hlen1:=A2x hp (D7l _) hs
    have hpos:=A6u hp hs
    simp only [D8u] at hlen1 hpos
    have hone:A9O p ⟨b.ms.used,b.ms.es,[]⟩=C3 s1.l:=by unfold A9O;rw [hs]
    have hcost:A2 (E7 us (C3 s1.l))=I4 us s1.l:=A7p ((A1E s1.l).map fun i:Int=>(gU us i.toNat).net)
    have hcb:=A1J hu s1.l hok.mem
    have hSl:(C3 s1.l).length=s1.l.length:=Z2 _
    have hSr:∀ k,k<(C3 s1.l).length→0≤gI (C3 s1.l) k∧(gI (C3 s1.l) k).toNat<us.length:=fun k hk=>hok.mem _ (W5.1 (A5 hk))
    have hnl:=A5v us (C3 s1.l)
    have hn0:∀ x∈E7 us (C3 s1.l),0≤x:=fun x hx=>by obtain ⟨i,hi,rfl⟩:=D7y.1 hx;exact hu.at0 _
    rw [hone];conv=>whnf
    refine I3 (A7j us (C3 s1.l) (by omega) hSr _) ?_
    refine B2 (B0c _ (by omega) hn0 (by rw [hcost];omega) _) ?_
    rw [hcost];conv=>whnf
    rw [show (((C3 s1.l).length:Int)==0)=false from D8Q (by omega)];conv=>whnf
    refine B7 (fun hc=>?_) (fun hc=>?_)<;>rw [hc]
    ·have hc':=D7h hc
     obtain ⟨t2,g1,g2,g3⟩:=fin (by unfold A2B;rw [hs];simp only;rw [if_neg (by omega)]) s hR
     conv=>whnf
     refine E2 g1 (B2 g3 ?_);conv=>whnf
     exact ⟨rfl,g2⟩
    ·have hc':I4 us s1.l>p.amount:=by have:=D7g hc;omega
     obtain ⟨hN,hI2⟩:=hI.step hp hu hs hc'
     obtain ⟨k1,k2,k3⟩:=hI.ok.step hp hu hs hc'
     have hW:=k1.weights
     rw [←hN] at hW
     have hXl:=(U3 hW).2.1
     have hstep:A3D p us (f+1) b=A3D p us f ⟨A3H b.out (C3 s1.l) (I4 us s1.l - p.amount),s1,b.taken++C3 s1.l,b.all+(I4 us s1.l - p.amount)⟩:=by
      conv=>lhs;unfold A3D A2B
      rw [hs];simp only;rw [if_pos hc']
     have w1:IntKind.i64.wrap (I4 us s1.l - p.amount)=I4 us s1.l - p.amount:=A4 (by omega) (by omega)
     have hkl:=k2.len
     simp only at hkl k3
     rw [D7p] at hkl
     have hll:=hI.len
     conv=>whnf
     refine ⟨[],[],List.range 13,by kernel_rfl,?_⟩;conv=>whnf
     refine cqW (A7j us (C3 s1.l) (by omega) hSr _) ?_
     rw [w1]
     refine ⟨_,F3 (A8a _ (E7 us (C3 s1.l)) hW _),?_⟩
     generalize D1 (I4 us s1.l - p.amount) (E7 us (C3 s1.l))=X at *
     conv=>whnf
     refine lp (C3 s1.l).length [1,3,9,11,12,13,14,16,18] (fun i vs s=>∃ (sva svl:AV) (g:Nat→AV),vs=[C4 us,.fptr (B8 p) 0,.own 1 bl 0 L.length,.own 1 bu 0 us.length,sva,svl,A9 (C3 s1.l),A9 X,eI i] ∧
      RA (b.taken++(C3 s1.l).take i) (ls++X.take i) sva svl (upd st2 bu ⟨4,1,us.length,g⟩) s∧∀ k,k<us.length→g k=eB ((A4m b.ms.used ((C3 s1.l).take i)).getD k default)) ?_ ?_
     ·conv=>whnf
      exact ⟨sva,svl,gu,rfl,by rw [D8B,D8B,D8X,D8X];exact hR,hgu⟩
     ·clear hR hgu fin hsu hsu1 hsl1 hBA
      rintro i vs s hi ⟨sva,svl,g,rfl,hR,hg⟩
      have hBA:=C0b (b.taken++(C3 s1.l).take i) (ls++X.take i) sva svl
      conv=>whnf
      cases hd:decide ((i:Int)<((C3 s1.l).length:Int))
      ·obtain rfl:=B9 hd hi
       rw [D7m] at hR hg
       rw [D8T (show X.length≤(C3 s1.l).length by omega)] at hR;conv=>whnf
       refine G3 ?_
       refine ⟨tot p.parts.length s1.es,k3,_,_,sva,svl,g,f,rfl,rfl,hI2,⟨by show tot p.parts.length s1.es<f;omega,by rw [←hstep];exact hF⟩,hR,fun k hk=>?_⟩
       rw [hg k hk]
       congr 1
       show (A4m b.ms.used (C3 s1.l)).getD k default=s1.used.getD k default
       rw [←D9l,B9v (fun x hx=>by rw [hI.ok.ok.len];exact (hok.mem x (W5.1 hx)).2),htr.used]
       constructor
       ·rintro (h | h)
        ·exact .inl h
        ·obtain ⟨y,hy,rfl⟩:=D7y.1 h;exact .inr (D9R (W5.1 hy))
       ·rintro (h | h)
        ·exact .inl h
        ·obtain ⟨y,hy,rfl⟩:=D7y.1 h;exact .inr (D9R (W5.2 hy))
      ·have hi':=D6 hd
       have hr:=hSr i hi'
       have hg2:=hBA.sup hR bu _ (A0 ..)
       have tk:∀ (l:List Int),i<l.length→l.take (i+1)=l.take i++[gI l i]:=fun l h=>L6 h
       conv=>whnf
       refine E9 ?_
       refine ⟨rfl,⟨by show 0≤gI (C3 s1.l) i;omega,by show gI (C3 s1.l) i<(us.length:Int);omega⟩,?_⟩;conv=>whnf
       refine stV hg2 rfl (by show 0+(gI (C3 s1.l) i).toNat<us.length;omega) (v:=eB ((A4m b.ms.used ((C3 s1.l).take i)).getD (gI (C3 s1.l) i).toNat default)) (by show g (0+(gI (C3 s1.l) i).toNat)=_;rw [D7o];exact hg _ hr.2) (by rfl) ?_
       have hR2:=hBA.write (y':=⟨4,1,us.length,I6 g (0+(gI (C3 s1.l) i).toNat) (eB true)⟩) hR (A0 ..)
       rw [C5] at hR2
       have hgn:∀ k,k<us.length→I6 g (0+(gI (C3 s1.l) i).toNat) (eB true) k=eB ((A4m b.ms.used ((C3 s1.l).take (i+1))).getD k default):=fun k hk=>by
        have e:A4m b.ms.used ((C3 s1.l).take (i+1))=(A4m b.ms.used ((C3 s1.l).take i)).set (gI (C3 s1.l) i).toNat true:=G8 hi' _ _
        rw [e,D7o,A6F (by rw [B9w,hI.ok.ok.len];exact hr.2)]
        by_cases ej:k=(gI (C3 s1.l) i).toNat
        ·rw [if_pos ej,ej,A6]
        ·rw [if_neg ej,H7 ej];exact hg k hk
       conv=>whnf
       refine ⟨[4,5,6,11,12,13],[],[],.qui 0 (.qui 1 (.qui 2 (.qui 3 (.qui 7 (.qui 8 (.qui 9 (.qui 10 (.two 4 11 (.two 5 11 (.two 6 11 (.gen 11 (.gen 12 (.gen 13 (.qui 14 (.qui 15 .done))))) (.two 6 12 (.gen 12 (.gen 13 (.qui 14 (.qui 15 .done)))) (.gen 6 (.gen 13 (.qui 14 (.qui 15 .done)))))) (.two 5 12 (.two 6 12 (.gen 12 (.gen 13 (.qui 14 (.qui 15 .done)))) (.gen 6 (.gen 13 (.qui 14 (.qui 15 .done))))) (.gen 5 (.gen 6 (.gen 13 (.qui 14 (.qui 15 .done))))))) (.two 4 12 (.two 5 12 (.two 6 12 (.gen 12 (.gen 13 (.qui 14 (.qui 15 .done)))) (.gen 6 (.gen 13 (.qui 14 (.qui 15 .done))))) (.gen 5 (.gen 6 (.gen 13 (.qui 14 (.qui 15 .done)))))) (.gen 4 (.gen 5 (.gen 6 (.gen 13 (.qui 14 (.qui 15 .done))))))))))))))),by kernel_rfl,?_⟩;conv=>whnf
       refine E9 ?_
       refine E9 ?_
       repeat' (refine And.intro ?_ ?_<;>(conv=>whnf))
       all_goals refine RA.appA (all:=b.taken++(C3 s1.l).take i) (ls:=ls++X.take i) (y:=gI (C3 s1.l) i) hR2 rfl rfl (by rw [D7p,D7n];omega) (fun sva' t' hR3=>?_)
       all_goals (conv=>whnf)
       all_goals refine RA.appL (all:=b.taken++(C3 s1.l).take i++[gI (C3 s1.l) i]) (ls:=ls++X.take i) (y:=gI X i) hR3 rfl rfl (by rw [D7p,D7n];omega) (fun svl' t'' hR4=>?_)
       all_goals (conv=>whnf)
       all_goals refine ⟨rfl,?_⟩
       all_goals (conv=>whnf)
       all_goals exact nx hi' ⟨sva',svl',I6 g (0+(gI (C3 s1.l) i).toNat) (eB true),by rw [B4 (by omega)],by rw [tk _ hi',tk _ (by omega),←D8z,←D8z];exact hR4,hgn⟩
def A0Z (l:List Int):List Int:=l.foldl (fun a x=>if x∈a then a else a++[x]) []
theorem B9b (l:List Int) (x:Int):A0Z (l++[x])=if x∈A0Z l then A0Z l else A0Z l++[x]:=by
 unfold A0Z;rw [D9g];rfl
theorem B2h (l:List Int):(A0Z l).Nodup∧∀ x,x∈A0Z l↔x∈l:=by
 have:∀ (l a:List Int),a.Nodup→(l.foldl (fun a x=>if x∈a then a else a++[x]) a).Nodup∧∀ x,x∈l.foldl (fun a x=>if x∈a then a else a++[x]) a↔x∈a∨x∈l:=by
  intro l
  induction l with
  | nil=>intro a h;exact ⟨h,fun x=>by simp⟩
  | cons y l ih =>
   intro a h
   rw [D8o]
   split
   ·rename_i hy
    obtain ⟨h1,h2⟩:=ih a h
    refine ⟨h1,fun x=>?_⟩
    rw [h2,D8A]
    constructor
    ·rintro (h3 | h3)
     ·exact .inl h3
     ·exact .inr (.inr h3)
    ·rintro (h3 | rfl | h3)
     ·exact .inl h3
     ·exact .inl hy
     ·exact .inr h3
   ·rename_i hy
    obtain ⟨h1,h2⟩:=ih (a++[y]) (List.nodup_append.2 ⟨h,by simp,fun p hp q hq e=>by rw [D7I] at hq;subst hq;subst e;exact hy hp⟩)
    refine ⟨h1,fun x=>?_⟩
    rw [h2,D8s,D7I,D8A,or_assoc]
 obtain ⟨h1,h2⟩:=this l [] List.nodup_nil
 exact ⟨h1,fun x=>by rw [show x∈A0Z l↔x∈([]:List Int)∨x∈l from h2 x];simp⟩
theorem B6v (l:List Int):Z5 l=((List.range l.length).filter fun k=>k==0||gI l k != gI l (k - 1)).map (gI l):=by
 unfold Z5 Go.Lib.compactUpTo
 have hg:∀ k,k<l.length→l.toArray[k]! = gI l k:=fun k hk=>by rw [getElem!_pos _ k (by simpa using hk)];simp [gI,hk]
 have hf:(List.range l.length).filter (Go.Lib.keeps l.toArray)=(List.range l.length).filter fun k=>k==0||gI l k != gI l (k - 1):=by
  refine List.filter_congr fun k hk=>?_
  have:=D7t.1 hk
  unfold Go.Lib.keeps
  rw [hg k this,hg (k - 1) (by omega)]
  rw [←D9l,D7d,D8g,D7Z,D9F]
 rw [hf]
 exact D8x fun k hk=>hg k (D7t.1 (D8d.1 hk).1)
theorem B8t {l:List Int} (hs:l.Pairwise (·≤·)):(Z5 l).Nodup∧∀ x,x∈Z5 l↔x∈l:=by
 refine ⟨?_,fun x=>⟨B3T,fun hx=>?_⟩⟩
 ·rw [B6v]
  refine List.Pairwise.map _ (fun a b h=>h) ?_ 
  refine List.Pairwise.imp_of_mem (R:=(·<·)) ?_ ((List.pairwise_lt_range (n:=l.length)).filter _)
  intro a b ha hb hab
  obtain ⟨h1,h2⟩:=D8d.1 hb
  have h3:=D7t.1 h1
  rw [D8g,D7Z,D9F] at h2
  have h4:gI l (b - 1)≤gI l b:=B4q hs (by omega) h3
  have h5:gI l a≤gI l (b - 1):=by
   rcases E0d (show a≤b - 1 by omega) with e | e
   ·rw [e];exact D7L _
   ·exact B4q hs e (by omega)
  show gI l a≠gI l b
  rcases h2 with h2 | h2<;>omega
 ·rw [B6v,D7y]
  obtain ⟨k,hk,rfl⟩:=D2 hx
  induction k with
  | zero=>exact ⟨0,D8d.2 ⟨D7t.2 hk,rfl⟩,rfl⟩
  | succ k ih =>
   by_cases e:gI l (k+1)=gI l k
   ·have:=ih (by omega) (by rw [show l.getD k default=l.getD (k+1) default from e.symm];exact hx)
    obtain ⟨j,h1,h2⟩:=this
    exact ⟨j,h1,h2.trans e.symm⟩
   ·exact ⟨k+1,D8d.2 ⟨D7t.2 hk,by rw [D8g,D9F];exact .inr e⟩,rfl⟩
theorem C4y (us:List B3) (l:List Int):A2p us (Z5 (C3 l))=A2p us (A0Z l):=by
 obtain ⟨h1,h2⟩:=B8t (B7M l)
 obtain ⟨h3,h4⟩:=B2h l
 have hp:(Z5 (C3 l)).Perm (A0Z l):=(List.perm_ext_iff_of_nodup h1 h3).2 fun x=>by rw [h2,h4,W5]
 exact A7p (hp.map _)
theorem C1X (l:List Int):(A0Z l).length≤l.length:=by
 have:∀ (l a:List Int),(l.foldl (fun a x=>if x∈a then a else a++[x]) a).length≤a.length+l.length:=by
  intro l
  induction l with
  | nil=>intro a;simp
  | cons y l ih =>
   intro a
   rw [D8o]
   split
   ·have:=ih a;rw [D7N];omega
   ·have:=ih (a++[y]);rw [D7p,D7N,D8u] at this;rw [D7N];omega
 have h:=this l []
 rw [D8u,D7o] at h;exact h
structure PSm (p:B1):Prop where
 sm:A3l p
 right:I0 p=true
 fit:R5 p
set_option maxHeartbeats 400000 in
theorem D0d (items:List Ab.Item) (us:List B3) (pr:B1) (hp:PSm pr) (hk:pr.kind≠7) (hu:A7t items us) (st:St) :
  S P 164 [B8 pr,C4 us,A8 4 F2 items] st fun v st'=>(∃ x,v=.tuple [C4 x,eI (A0x items us pr).2]∧(0<(A0x items us pr).2→x=(A0x items us pr).1))∧st'=st:=by
 have ok:=A4b hp.right
 have hul:=hu.ok.len
 have hB:=ok.bun
 by_cases h4:pr.kind=4
 ·have hW:A0x items us pr=A1r items us pr:=by unfold A0x;rw [if_pos h4]
  rw [hW]
  obtain ⟨hbn,hbs⟩:=hB h4
  have hn8:=hbn.n8
  have hpl:(R8 items us pr).length=pr.parts.length:=D7i ..
  have hbP:A1r items us pr=if A2p us (A0Z (A0L items us pr pr.parts.length))<pr.least then ([],0) else S5 pr us (R8 items us pr):=by unfold A1r;rw [C4y]
  refine A0g ?_
  refine F7 [3] Tryz.func164 ?_
  rw [show (pr.kind != 4)=false from by rw [h4];rfl];conv=>whnf
  refine mkO rfl rfl rfl (by show 1 * us.length≤_;omega) (by omega) (by rfl) (fun bs hbs0=>?_);conv=>whnf
  refine lp pr.parts.length [1,2,3,9,10,11,12] (fun i vs s=>∃ sv g,vs=[C4 us,A8 4 F2 items,.fptr (B8 pr) 0,sv,.own 1 bs 0 us.length,eI (A2p us (A0Z (A0L items us pr i))),eI i]∧E8 29 1 A9 ((R8 items us pr).take i) (upd st bs ⟨4,1,us.length,g⟩) sv s∧∀ k,k<us.length→g k=eB (decide ((k:Int)∈A0L items us pr i))) ?_ ?_
  ·conv=>whnf
   exact ⟨.emp,_,rfl,E8.start _ _ _ _,fun k hk=>by rw [show A0L items us pr 0=[] from rfl];simp;rfl⟩
  ·rintro i vs s hi ⟨sv,g,rfl,hc,hg⟩
   conv=>whnf
   cases hd:decide ((i:Int)<(pr.parts.length:Int))
   ·obtain rfl:=B9 hd hi
    rw [←hpl,D7m] at hc;conv=>whnf
    refine B7 (fun h1=>?_) (fun h1=>?_)<;>rw [h1]
    ·have:=D7h h1
     rw [if_pos (by omega)] at hbP;conv=>whnf
     exact ⟨⟨us,by rw [hbP];rfl,fun h=>by rw [hbP] at h;exact absurd h (by decide)⟩,((F8.refl st).upd hbs0).trans hc.sup⟩
    ·have:=D7g h1
     rw [if_neg (by omega)] at hbP;conv=>whnf
     refine E2 (A7.cons (t:=s) (A7.keep _ _) (A7.cons (t:=s) (A7.keep _ _) hc.shift)) (B2 (C2l pr us (R8 items us pr) hp.sm hp.right h4 hbn hu.ok hpl (fun x hx=>by obtain ⟨q,_,rfl⟩:=D7y.1 hx;exact A2b _ _ _) _) ?_);conv=>whnf
     exact ⟨⟨_,by rw [hbP];rfl,fun _=>by rw [hbP]⟩,(F8.refl st).upd hbs0⟩
   ·have hi':=D6 hd
    have hsc:(pr.parts.getD (i:Int).toNat default).scope.skus.length≤20∧(pr.parts.getD (i:Int).toNat default).scope.cats.length≤20:=hbs _ (A5 hi')
    have hsu:=A9t items us pr hi'
    have hAl:=B1u items us pr i hi
    have hAm:=fun {x} (hx:x∈A0L items us pr i)=>B1v hx
    have hml:=A3w (pr.parts.getD (i:Int).toNat default).scope items us us.length
    have hmo:=A2b (pr.parts.getD (i:Int).toNat default).scope items us
    have hpt:(R8 items us pr).take (i+1)=(R8 items us pr).take i++[K0 (pr.parts.getD (i:Int).toNat default).scope items us us.length]:=by
     rw [L6 (by omega)];congr 2
     exact D4 (fun x:A2H=>K0 x.scope items us us.length) pr.parts hi'
    rw [show K0 (pr.parts.getD i default).scope items us us.length=K0 (pr.parts.getD (i:Int).toNat default).scope items us us.length from rfl] at hsu
    have h8:i * us.length≤7 * 100000:=Nat.mul_le_mul (by omega) hul
    conv=>whnf
    refine E9 ?_
    refine B2 (C0K us items (pr.parts.getD (i:Int).toNat default).scope (by omega) (by omega) hul hu.line _) ?_
    generalize K0 (pr.parts.getD (i:Int).toNat default).scope items us us.length=m at *
    conv=>whnf
    refine E8.app (q:=r29) (y:=m) rfl rfl rfl rfl rfl rfl (by show (_+1) * 24≤140737488355328;rw [D7n];omega) hc (fun sv s hc=>?_)
    rw [←hpt] at hc;conv=>whnf
    refine lp m.length [1,2,3,9,10,11,12,13,14] (fun k vs s=>∃ g,vs=[C4 us,A8 4 F2 items,.fptr (B8 pr) 0,sv,.own 1 bs 0 us.length,eI (A2p us (A0Z (A0L items us pr i++m.take k))),eI i,A9 m,eI k]∧E8 29 1 A9 ((R8 items us pr).take (i+1)) (upd st bs ⟨4,1,us.length,g⟩) sv s∧∀ j,j<us.length→g j=eB (decide ((j:Int)∈A0L items us pr i++m.take k))) ?_ ?_
    ·conv=>whnf
     exact ⟨g,by rw [D8B,D8X];rfl,hc,by rw [D8B,D8X];exact hg⟩
    ·clear hc hg
     rintro k vs s hk ⟨g,rfl,hc,hg⟩
     conv=>whnf
     cases hd2:decide ((k:Int)<(m.length:Int))
     ·obtain rfl:=B9 hd2 hk
      rw [D7m,←hsu] at hg;conv=>whnf
      refine G3 ?_
      exact nx hi' ⟨sv,g,by rw [B4 (by omega),D7m,←hsu],hc,hg⟩
     ·have hk':=D6 hd2
      have hr:0≤m.getD (k:Int).toNat default∧(m.getD (k:Int).toNat default).toNat<us.length:=hmo.rng k hk'
      have hbk:=hc.sup bs _ (A0 ..)
      have hP:A0L items us pr i++m.take (k+1)=(A0L items us pr i++m.take k)++[m.getD (k:Int).toNat default]:=by rw [L6 hk',D8z];rfl
      have hgk:g (0+(m.getD (k:Int).toNat default).toNat)=eB (decide (m.getD (k:Int).toNat default∈A0L items us pr i++m.take k)):=by
       rw [D7o,hg _ hr.2];congr 2;rw [D8S hr.1]
      have hmem:∀ x∈A0L items us pr i++m.take k,0≤x∧x.toNat<us.length:=fun x hx=>by
       rcases D8s.1 hx with hx | hx
       ·exact B1v hx
       ·obtain ⟨j,hj,rfl⟩:=D2 (D8e _ _ hx);exact hmo.rng j hj
      obtain ⟨o1,o2⟩:=B2h (A0L items us pr i++m.take k)
      have hcb:=A1J hu.ok (A0Z (A0L items us pr i++m.take k)) (fun x hx=>hmem x ((o2 x).1 hx))
      have hol:=C1X (A0L items us pr i++m.take k)
      rw [D7p,D7n] at hol
      have hcl:A2p us (A0Z (A0L items us pr i++m.take k))=I4 us (A0Z (A0L items us pr i++m.take k)):=rfl
      have hsn:=B9b (A0L items us pr i++m.take k) (m.getD (k:Int).toNat default)
      have hdm:decide (m.getD (k:Int).toNat default∈A0Z (A0L items us pr i++m.take k))=decide (m.getD (k:Int).toNat default∈A0L items us pr i++m.take k):=D8P.2 (o2 _)
      have hn0:0≤(gU us (m.getD (k:Int).toNat default).toNat).net:=hu.ok.at0 _
      have hn1:(gU us (m.getD (k:Int).toNat default).toNat).net≤10000000000000:=hu.ok.le (A5 hr.2)
      generalize A0L items us pr i++m.take k=A at *
      conv=>whnf
      refine E9 ?_
      refine E9 ?_
      refine L1 hbk hgk ?_
      refine B7 (fun h5=>?_) (fun h5=>?_)<;>rw [h5]
      ·have hnot:¬ m.getD (k:Int).toNat default∈A:=by simpa using h5
       rw [if_neg (fun h=>hnot ((o2 _).1 h))] at hsn
       have hadd:A2p us (A0Z (A++[m.getD (k:Int).toNat default]))=A2p us (A0Z A)+(gU us (m.getD (k:Int).toNat default).toNat).net:=by
        rw [hsn];exact B3V us _ _
       have w:IntKind.i64.wrap (A2p us (A0Z A)+(gU us (m.getD (k:Int).toNat default).toNat).net)=A2p us (A0Z (A++[m.getD (k:Int).toNat default])):=by rw [hadd];exact A4 (by omega) (by omega)
       conv=>whnf
       refine E9 ?_
       refine E9 ?_
       refine stU hbk hgk ?_
       have hc2:=Col.write hc (y':=⟨4,1,us.length,I6 g (0+(m.getD (k:Int).toNat default).toNat) (eB true)⟩) (A0 ..)
       rw [C5] at hc2;conv=>whnf
       refine E9 ?_
       refine E9 ?_
       refine G3 ?_
       refine nx hk' ⟨I6 g (0+(m.getD (k:Int).toNat default).toNat) (eB true),by rw [B4 (by omega),hP,←w],hc2,fun j hj=>?_⟩
       rw [hP,D7o]
       by_cases ej:j=(m.getD (k:Int).toNat default).toNat
       ·rw [ej,A6,D7D (by rw [D8s,D7I];right;omega)]
       ·rw [H7 ej,hg j hj]
        congr 1
        refine D8P.2 ?_
        rw [D8s,D7I]
        exact ⟨.inl,fun h=>h.resolve_right (by omega)⟩
      ·have hin:m.getD (k:Int).toNat default∈A:=by simpa using h5
       rw [if_pos ((o2 _).2 hin)] at hsn;conv=>whnf
       refine G3 ?_
       refine nx hk' ⟨g,by rw [B4 (by omega),hP,hsn],hc,fun j hj=>?_⟩
       rw [hP,hg j hj]
       congr 1
       refine D8P.2 ?_
       rw [D8s,D7I]
       exact ⟨.inl,fun h=>h.elim id (fun e=>by rw [e];exact hin)⟩
 ·have hW:A0x items us pr=A2E items us pr:=by unfold A0x;rw [if_neg h4]
  have hmo:=A2b pr.scope items us
  have hml:=A3w pr.scope items us us.length
  have hS:A2E items us pr=if A2p us (K0 pr.scope items us us.length)<pr.least then ([],0) else if pr.kind=3 then X7 pr us (K0 pr.scope items us us.length) else A0p pr us (K0 pr.scope items us us.length):=rfl
  obtain ⟨hn0,hns⟩:=B2f hu.ok hmo
  rw [hW]
  refine F7 [3] Tryz.func164 ?_
  rw [show (pr.kind != 4)=true from D9F.2 h4];conv=>whnf
  refine B2 (C0K us items pr.scope (by have:=ok.skus;omega) (by have:=ok.cats;omega) hul hu.line _) ?_
  generalize K0 pr.scope items us us.length=m at *
  conv=>whnf
  refine ⟨[],[],List.range 7,by kernel_rfl,?_⟩;conv=>whnf
  refine cqW (A7j us m (by omega) hmo.rng _) ?_
  refine cqW (B0c (E7 us m) (by rw [A5v];omega) hn0 (by omega) _) ?_
  refine B7 (fun h1=>?_) (fun h1=>?_)<;>rw [h1]
  ·have h2:A2p us m<pr.least:=D7h h1
   rw [if_pos h2] at hS;conv=>whnf
   exact ⟨⟨us,by rw [hS];rfl,fun h=>by rw [hS] at h;exact absurd h (by decide)⟩,rfl⟩
  ·have h2:¬ A2p us m<pr.least:=fun h=>absurd h (Int.not_lt.2 (Int.not_lt.1 (D7g h1)))
   rw [if_neg h2] at hS;conv=>whnf
   by_cases h3:pr.kind=3
   ·rw [if_pos h3] at hS
    rw [show (pr.kind==3)=true from D7Z.2 h3];conv=>whnf
    refine I3 (C2m pr us m hp.sm hp.right h3 (ok.buy h3) hu.ok hmo _) ?_
    exact ⟨⟨_,by rw [hS];rfl,fun _=>by rw [hS]⟩,rfl⟩
   ·rw [if_neg h3] at hS
    rw [show (pr.kind==3)=false from D8Q h3];conv=>whnf
    refine I3 (C5c pr us m (ok.ask hp.fit (by have:=ok.kind;omega)) hp.sm hu.ok hmo _) ?_
    exact ⟨⟨_,by rw [hS];rfl,fun _=>by rw [hS]⟩,rfl⟩
theorem B7C (L:List C8) (g:C8) (hl:L.length≤1000) (sv:AV) (st:St) (h:(sv=.emp∧L=[])∨∃ b f,sv=.own 1 b 0 L.length∧st b=some ⟨9,1,L.length,f⟩∧∀ k,k<L.length→f k=eS (L.getD k default)) :
  S P 163 [sv,eS g] st fun v st'=>v=.bool (!N7 g&&L.any fun y=>y.toList==g.toList)∧st'=st:=by
 rcases h with ⟨rfl,rfl⟩ | ⟨b,f,rfl,hb,hf⟩
 ·refine F7 [] Tryz.func163 ?_
  refine B2g [0,1,5] ?_;conv=>whnf
  intro I;conv=>whnf
  exact ⟨by simp [B0O],rfl⟩
 ·refine F7 [] Tryz.func163 ?_
  refine lp L.length [0,1,5] (fun i vs s=>(∀ k,k<i→(!N7 g&&((L.getD k default).toList==g.toList))=false)∧vs=[.own 1 b 0 L.length,eS g,eI i]∧s=st) ?_ ?_
  ·conv=>whnf
   exact ⟨fun k hk=>absurd hk (by omega),rfl,rfl⟩
  ·rintro i vs st' hi ⟨hok,rfl,rfl⟩
   conv=>whnf
   cases hd:decide ((i:Int)<(L.length:Int))
   ·obtain rfl:=B9 hd hi
    conv=>whnf
    refine ⟨?_,rfl⟩
    have e:(!N7 g&&L.any fun y=>y.toList==g.toList)=false:=by
     cases hn:N7 g
     ·rw [D7K,D7u]
      refine D8q.2 fun x hx=>?_
      obtain ⟨k,hk,rfl⟩:=D2 hx
      have:=hok k hk
      rw [hn,D7K,D7u] at this
      rw [this];simp
     ·rfl
    rw [e];rfl
   ·have hi':=D6 hd
    have hfi:f (0+(i:Int).toNat)=eS (L.getD (i:Int).toNat default):=by rw [D7o];exact hf _ (by omega)
    have yes:=fun h=>G9 hok (i:=i) h
    have nl:N7 g=(g.toList==(⟨#[]⟩:C8).toList):=rfl
    conv=>whnf
    refine B7 (fun h1=>?_) (fun h1=>?_)<;>rw [h1]
    ·have hn:N7 g=false:=by rw [nl];simpa using h1
     conv=>whnf
     refine E9 ?_
     refine L1 hb hfi ?_
     refine B7 (fun h2=>?_) (fun h2=>?_)<;>rw [h2]
     ·conv=>whnf
      refine ⟨?_,rfl⟩
      rw [hn,D8N.2 ⟨_,A5 hi',h2⟩];rfl
     ·conv=>whnf
      refine G3 ?_
      exact nx hi' ⟨yes (by rw [hn];exact h2),by rw [B4 (by omega)],rfl⟩
    ·have hn:N7 g=true:=by rw [nl];simpa using h1
     conv=>whnf
     refine G3 ?_
     exact nx hi' ⟨yes (by rw [hn];rfl),by rw [B4 (by omega)],rfl⟩
structure B6g (l:List B1):Prop where
 few:l.length≤60
 right:∀ p∈l,I0 p=true
 ids:∀ i j,i<j→j<l.length→((l.getD i default).id.toList==(l.getD j default).id.toList)=false
theorem B2v {l:List B1} (h:promosC l=true):B6g l:=by
 unfold promosC M0 at h
 simp only [D7f,D7d,D7s,D7t] at h
 obtain ⟨h1,h2⟩:=h
 refine ⟨by omega,fun p hp=>?_,fun i j hij hj=>?_⟩
 ·obtain ⟨k,hk,rfl⟩:=D2 hp
  have:=h2 k hk
  unfold X8 at this
  rw [D7f] at this;exact this.1
 ·have:=h2 j hj
  unfold X8 at this
  rw [D7f,D7v,D8q] at this
  have h3:=this.2 (l.getD i default) (by
   have:(l.take j).getD i default=l.getD i default:=by rw [D7c,D7c,D7r hij]
   rw [←this]
   exact A5 (by rw [D7n];omega))
  simpa using h3
theorem B2u {l:List B1} {i:Nat} (hi:i<l.length) (h:X8 l i (l.getD i default)=false):promosC l=false:=by
 unfold promosC
 rw [D9k]
 refine .inr (D8O.2 fun ha=>?_)
 unfold M0 at ha
 rw [D7s] at ha
 have:=ha i (D7t.2 hi)
 rw [this] at h;cases h
theorem C2n (l:List B1) (hn:l.length<9223372036854775807) (hs:∀ p∈l,A3l p) (st:St):S P 134 [A8 15 B8 l] st fun v st'=>v=.bool (promosC l)∧st'=st:=by
 refine F7 [] Tryz.func134 ?_
 refine lp l.length [0,3] (fun i vs st'=>vs=[A8 15 B8 l,eI i]∧st'=st∧∀ k,k<i→X8 l k (l.getD k default)=true) ?_ ?_
 ·conv=>whnf
  exact ⟨rfl,rfl,fun k hk=>absurd hk (by omega)⟩
 ·rintro i vs st' hi ⟨rfl,rfl,hok⟩
  conv=>whnf
  cases h:decide ((i:Int)<(l.length:Int))
  ·obtain rfl:=B9 h hi
   conv=>whnf
   refine ⟨?_,rfl⟩
   show AV.bool _=AV.bool _
   unfold promosC
   rw [L3 hok,D7Q]
  ·have hi':=D6 h
   have hm:l.getD (i:Int).toNat default∈l:=A5 hi'
   conv=>whnf
   refine E9 ?_
   refine B2 (B7s (l.getD (i:Int).toNat default) (hs _ hm) _) ?_
   obtain ⟨b,hb⟩:∃ b,b=I0 (l.getD (i:Int).toNat default):=⟨_,rfl⟩
   rw [←hb];conv=>whnf
   refine B7 (fun h1=>?_) (fun h1=>?_)<;>rw [h1]
   ·conv=>whnf
    refine ⟨?_,rfl⟩
    have:promosC l=false:=B2u hi' (by
     unfold X8
     rw [show I0 (l.getD i default)=false by rw [show i=(i:Int).toNat from rfl,←hb];simpa using h1];rfl)
    rw [this];rfl
   have hp:I0 (l.getD i default)=true:=by rw [show i=(i:Int).toNat from rfl,←hb];simpa using h1
   conv=>whnf
   refine lp i [0,3,4] (fun j vs s=>vs=[A8 15 B8 l,eI i,eI j]∧s=st'∧∀ k,k<j→((l.getD k default).id.toList==(l.getD i default).id.toList)=false) ?_ ?_
   ·conv=>whnf
    exact ⟨rfl,rfl,fun k hk=>absurd hk (by omega)⟩
   ·rintro j vs s hj ⟨rfl,rfl,hne⟩
    conv=>whnf
    cases h2:decide ((j:Int)<(i:Int))
    ·obtain rfl:=B9 h2 hj
     conv=>whnf
     refine G3 ?_
     refine nx hi' ⟨by rw [B4 (by omega)],rfl,fun k hk=>?_⟩
     by_cases e:k<j
     ·exact hok k e
     ·obtain rfl:k=j:=by omega
      unfold X8
      rw [hp,D7u,D7v,D8q]
      intro x hx
      obtain ⟨m,hm',rfl⟩:=D2 hx
      rw [D7n] at hm'
      have e2:(l.take k).getD m default=l.getD m default:=by rw [D7c,D7c,D7r (by omega)]
      rw [e2,hne m (by omega)];exact Bool.false_ne_true
    ·have hj':=D6 h2
     conv=>whnf
     refine ⟨[],[],List.range 11,by kernel_rfl,?_⟩;conv=>whnf
     refine E9 ?_
     refine E9 ?_
     refine B7 (fun h3=>?_) (fun h3=>?_)<;>rw [h3]
     ·conv=>whnf
      refine ⟨?_,rfl⟩
      have h4:((l.getD j default).id.toList==(l.getD i default).id.toList)=true:=h3
      have:promosC l=false:=B2u hi' (by
       unfold X8
       rw [hp,D7u,D7J]
       refine D8N.2 ⟨l.getD j default,?_,h4⟩
       have e2:(l.take i).getD j default=l.getD j default:=by rw [D7c,D7c,D7r (by omega)]
       rw [←e2]
       exact A5 (by rw [D7n];omega))
      rw [this];rfl
     have h4:((l.getD j default).id.toList==(l.getD i default).id.toList)=false:=h3
     conv=>whnf
     refine G3 ?_
     exact nx hj' ⟨by rw [B4 (by omega)],rfl,fun k hk=>by
      by_cases e:k<j
      ·exact hne k e
      ·obtain rfl:k=j:=by omega
       exact h4⟩
structure A5b (r:E0):Prop where
 n:Sm r.items.length
 items:∀ x∈r.items,Sm x.sku.size∧Sm x.cat.size
 promos:∀ p∈r.promos,A3l p
 tax:B3M r.tax
 order:Sm r.policy.order.length
 credit:Sm r.policy.credit.length
theorem B7t (r:E0) (hn:r.promos.length<9223372036854775807) (hs:A5b r) (st:St):S P 81 [F4 r] st fun v st'=>v=.bool (K1 r)∧st'=st:=by
 obtain ⟨H,hH⟩:∃ H:Bool,H=K1 r:=⟨_,rfl⟩
 rw [←hH]
 unfold K1 B0A A2D at hH
 have n1:=C5e r.items hs.n hs.items st
 have n2:=C2n r.promos hn hs.promos st
 have n3:=C5i r.tax hs.tax st
 have n4:=A3g r.ship.fee 1000000000 st
 have n5:=A3g r.ship.free 10000000000000 st
 have n6:=A3g r.policy.window 100000 st
 have n7:=A3g r.policy.grace 100000 st
 have n8:=A3g r.policy.restock 10000 st
 have n9:=B7z r.policy.order hs.order st
 have n10:=B7z r.policy.credit hs.credit st
 generalize A1W r.items=b1 at *
 generalize promosC r.promos=b2 at *
 generalize taxC r.tax=b3 at *
 generalize J8 0 1000000000 r.ship.fee=b4 at *
 generalize J8 0 10000000000000 r.ship.free=b5 at *
 generalize J8 0 100000 r.policy.window=b6 at *
 generalize J8 0 100000 r.policy.grace=b7 at *
 generalize J8 0 10000 r.policy.restock=b8 at *
 generalize A1B r.policy.order=b9 at *
 generalize A1B r.policy.credit=b10 at *
 refine SyW [1,3] Tryz.func81 ?_
 repeat' ((conv=>whnf);first | refine B2 n1 ?_ | refine B2 n2 ?_ | refine B2 n3 ?_ | refine B2 n4 ?_ | refine B2 n5 ?_ | refine B2 n6 ?_ | refine B2 n7 ?_ | refine B2 n8 ?_ | refine B2 n9 ?_ | refine B2 n10 ?_ | (refine B7 (fun h=>?_) (fun h=>?_)<;>rw [h]))
 all_goals (conv=>whnf)
 all_goals (refine ⟨?_,rfl⟩;show AV.bool _=AV.bool _;congr 1;clear n1 n2 n3 n4 n5 n6 n7 n8 n9 n10)
 all_goals (simp only [*,D7u,D7z,D7Q,D7H,D7U,D7V,D7X,D7R,D7S,D7K,D8v])
theorem B2D (r:E0) (hs:A5b r) (hC:K1 r=true) (st:St):S P 81 [F4 r] st fun v st'=>v=.bool true∧st'=st:=by
 have h:=B7t r (by
  unfold K1 at hC
  simp only [D7f] at hC
  have:=(B2v hC.1.1.1.2).few;omega) hs st
 rw [hC] at h;exact h
theorem B2A (l:List C8) (hl:Sm l.length) (hs:∀ s∈l,Sm s.size) (st:St):S P 75 [D5 l] st fun v st'=>v=.bool (R6 l)∧st'=st:=by
 have e:R6 l=(A1e l&&decide ((l.length:Int)≤4)):=by
  unfold R6 A1e
  generalize decide ((l.length:Int)≤4)=a
  generalize A0H l=b
  generalize (l.any fun s=>!C6 s)=c
  cases a<;>cases b<;>cases c<;>rfl
 rw [e]
 refine F7 [] Tryz.func75 ?_
 refine I3 (B2L l 4 hl hs st) ?_
 exact ⟨rfl,rfl⟩
def W7 (l:List B1) (codes:List C8):List Int:=(places l codes l.length).mergeSort fun x y=>!A1c (F6 l y) (F6 l x)
theorem A4H (l:List B1) (codes:List C8):(W7 l codes).Perm (places l codes l.length):=D9Q ..
theorem C4I (l:List B1) (codes:List C8):(W7 l codes).Pairwise (A4u l):=by
 have:=D9u (le:=fun x y:Int=>!A1c (F6 l y) (F6 l x)) (fun a b c h1 h2=>by simp only [D7v] at *;exact A8K h1 h2) (fun a b=>by
  cases h:A1c (F6 l b) (F6 l a) with
  | false=>rfl
  | true=>rw [B0k h];rfl) (places l codes l.length)
 exact this.imp (fun h=>by simpa [A4u] using h)
theorem B9k {l:List B1} (ok:B6g l) {x y:Int} (hx:0≤x∧x.toNat<l.length) (hy:0≤y∧y.toNat<l.length) (h1:A4u l x y) (h2:A4u l y x):x=y:=by
 unfold A4u at h1 h2
 rw [←D8h,A3B] at h1 h2
 have e:(F6 l x).prio=(F6 l y).prio:=by
  have a:¬(F6 l y).prio>(F6 l x).prio:=fun h=>h1 (.inl h)
  have b:¬(F6 l x).prio>(F6 l y).prio:=fun h=>h2 (.inl h)
  omega
 have a:slt (F6 l y).id (F6 l x).id=false:=by rw [←D8h];exact fun h=>h1 (.inr ⟨e.symm,h⟩)
 have b:slt (F6 l x).id (F6 l y).id=false:=by rw [←D8h];exact fun h=>h2 (.inr ⟨e,h⟩)
 have c:=A7m a b
 rcases Nat.lt_trichotomy x.toNat y.toNat with h | h | h
 ·have:=ok.ids _ _ h hy.2
  rw [D7P] at this
  exact absurd c.symm this
 ·omega
 ·have:=ok.ids _ _ h hx.2
  rw [D7P] at this
  exact absurd c this
theorem B6W {l:List B1} (hC:promosC l=true) {codes:List C8} {o:List Int} (h1:o.Perm (places l codes l.length)) (h2:o.Pairwise (A4u l)):o=W7 l codes:=by
 refine (h1.trans (A4H l codes).symm).eq_of_pairwise (le:=A4u l) (fun a b ha hb h3 h4=>?_) h2 (C4I l codes)
 exact B9k (B2v hC) (A0U (h1.mem_iff.1 ha)) (A0U ((A4H l codes).mem_iff.1 hb)) h3 h4
theorem C2w (l:List B1) (codes:List C8) (hC:promosC l=true) (hc:Sm codes.length) (st:St):S P 162 [A8 15 B8 l,D5 codes] st fun v st'=>v=A9 (W7 l codes)∧st'=st :=
 (C5n l codes (by have:=(B2v hC).few;omega) hc st).mono fun v st' ⟨⟨o,h1,h2,h3⟩,h4⟩=>⟨by rw [h3,B6W hC h1 h2],h4⟩
theorem B7y {l:List B1} (hC:promosC l=true) {codes:List C8} {o:List Int} (ho:B0L l codes o):P9 l o=W7 l codes:=by
 refine B6W hC ((B0b l o).trans ho.1) ?_
 refine List.Pairwise.map _ (fun a b h=>h) (R:=fun a b:QE=>A4u l (gI o a.2.toNat) (gI o b.2.toNat)) ?_
 refine (A7A l o).imp_of_mem fun {a b} ha hb h=>?_
 have h1:=A5A ha
 have h2:=A5A hb
 obtain ⟨i,hi,rfl⟩:=D7y.1 ((A1O l o).mem_iff.1 ha)
 obtain ⟨j,hj,rfl⟩:=D7y.1 ((A1O l o).mem_iff.1 hb)
 rw [T2] at h
 simp only [B2F,D7q] at h h1 h2 ⊢
 unfold A4u
 rw [←D8h,A3B]
 rintro (h3 | ⟨h3,h4⟩)
 ·exact h (.inl h3)
 ·rcases Nat.lt_trichotomy i j with e | e | e
  ·have:=ho.2 i j (D7C _) e h2.2
   unfold C6Z at this
   rw [this] at h4;cases h4
  ·subst e;rw [A5C] at h4;cases h4
  ·exact h (.inr ⟨h3,by omega⟩)
theorem W9 (x m:Int) (st:St):S P 76 [eI x,eI m] st fun v st'=>v=.bool (J8 0 m x)∧st'=st:=by
 refine F7 [] Tryz.func76 ?_
 unfold J8
 refine B7 (fun h=>?_) (fun h=>?_)<;>rw [h]<;>(conv=>whnf)<;>exact ⟨rfl,rfl⟩
theorem B2E (l:List A1R) (hl:l.length≤100000) (st:St):S P 79 [A8 3 Q5 l] st fun v st'=>v=.bool (l.all tenderB&&decide ((l.length:Int)≤6))∧st'=st:=by
 refine F7 [] Tryz.func79 ?_
 refine lp l.length [0,3] (fun i vs s=>(∀ k,k<i→tenderB (l.getD k default)=true)∧vs=[A8 3 Q5 l,eI i]∧s=st) ?_ ?_
 ·conv=>whnf
  exact ⟨fun k hk=>absurd hk (by omega),rfl,rfl⟩
 rintro i vs s hi ⟨hok,rfl,rfl⟩
 conv=>whnf
 cases h:decide ((i:Int)<(l.length:Int))
 ·obtain rfl:=B9 h hi
  rw [B0E hok,D7u];conv=>whnf
  exact ⟨rfl,rfl⟩
 have hi':=D6 h
 have n1:=fun s=>W9 (l.getD (i:Int).toNat default).taken 100000000000000 s
 have n2:=fun s=>W9 (l.getD (i:Int).toNat default).given (l.getD (i:Int).toNat default).taken s
 have hx:tenderB (l.getD (i:Int).toNat default)=((decide ((l.getD (i:Int).toNat default).kind≥1)&&decide ((l.getD (i:Int).toNat default).kind≤9))&&J8 0 100000000000000 (l.getD (i:Int).toNat default).taken&&J8 0 (l.getD (i:Int).toNat default).taken (l.getD (i:Int).toNat default).given):=rfl
 have yes:tenderB (l.getD (i:Int).toNat default)=true→∀ k,k<i+1→tenderB (l.getD k default)=true:=fun hm=>G9 hok hm
 have no:tenderB (l.getD (i:Int).toNat default)=false→l.all tenderB=false:=fun hm=>B3b hi' hm
 generalize tenderB (l.getD (i:Int).toNat default)=t at hx yes no
 clear hok
 conv=>whnf
 refine ⟨[],[],List.range 37,by kernel_rfl,?_⟩
 generalize J8 0 100000000000000 (l.getD (i:Int).toNat default).taken=b1 at *
 generalize J8 0 (l.getD (i:Int).toNat default).taken (l.getD (i:Int).toNat default).given=b2 at *
 cases t with
 | true =>
  have hx:=hx.symm
  simp only [D7f,D7d] at hx
  obtain ⟨⟨⟨e3,e4⟩,rfl⟩,rfl⟩:=hx
  have g1:decide ((l.getD (i:Int).toNat default).kind<1)=false:=D7j (by omega)
  have g2:decide ((l.getD (i:Int).toNat default).kind>9)=false:=D7j (by omega)
  repeat' ((conv=>whnf);first | refine ⟨rfl,⟨by omega,by omega⟩,?_⟩ | refine ⟨_,F3 (n1 _),?_⟩ | refine ⟨_,F3 (n2 _),?_⟩ | rw [g1] | rw [g2])
  refine G3 ?_
  exact nx hi' ⟨yes rfl,by rw [B4 (by omega)],rfl⟩
 | false =>
  repeat' ((conv=>whnf);first | refine ⟨rfl,⟨by omega,by omega⟩,?_⟩ | refine ⟨_,F3 (n1 _),?_⟩ | refine ⟨_,F3 (n2 _),?_⟩ | (refine B7 (fun h=>?_) (fun h=>?_)<;>rw [h]))
  all_goals first
   | (exfalso
      simp only [D7v,D7J,D7d,D7e] at *
      have e:((decide ((l.getD (i:Int).toNat default).kind≥1)&&decide ((l.getD (i:Int).toNat default).kind≤9))&&b1&&b2)=true:=by
       simp only [D7f,D7d]
       exact ⟨⟨⟨by omega,by omega⟩,by assumption⟩,by assumption⟩
      rw [←hx] at e;cases e;done)
   | (conv=>whnf
      rw [no rfl]
      exact ⟨rfl,rfl⟩)
def B6M (l:List A1R):Int:=if (l.all tenderB&&decide ((l.length:Int)≤6))=true then A0t l else 0
theorem C7E (l:List A1R) (hl:l.length≤100000) (st:St):S P 80 [A8 3 Q5 l] st fun v st'=>v=eI (B6M l)∧st'=st:=by
 have n1:=fun s=>B2E l hl s
 have hL:B6M l=if (l.all tenderB&&decide ((l.length:Int)≤6))=true then A0t l else 0:=rfl
 have hok:(l.all tenderB&&decide ((l.length:Int)≤6))=true→l.length≤6∧∀ x∈l,tenderB x=true:=fun h=>by
  simp only [D7f,D7d,D7s] at h
  exact ⟨by omega,h.1⟩
 generalize (l.all tenderB&&decide ((l.length:Int)≤6))=b at *
 refine F7 [] Tryz.func80 ?_
 refine B2 (n1 _) ?_
 cases b
 ·rw [hL];conv=>whnf
  exact ⟨rfl,rfl⟩
 rw [if_pos rfl] at hL
 obtain ⟨h6,hok⟩:=hok rfl
 rw [hL]
 clear hL n1
 conv=>whnf
 refine lp l.length [0,3,4] (fun i vs s=>vs=[A8 3 Q5 l,eI (A0t (l.take i)),eI i]∧s=st) ?_ ?_
 ·conv=>whnf
  exact ⟨rfl,rfl⟩
 rintro i vs s hi ⟨rfl,rfl⟩
 conv=>whnf
 cases h:decide ((i:Int)<(l.length:Int))
 ·obtain rfl:=B9 h hi
  rw [D7m];conv=>whnf
  exact ⟨rfl,rfl⟩
 have hi':=D6 h
 have hb:=B5c (l:=l) i hi (fun k hk=>hok _ (A5 (by omega)))
 have hx:=B0g (hok _ (A5 (show (i:Int).toNat<l.length from hi')))
 have hs:A0t (l.take (i+1))=A0t (l.take i)+((l.getD (i:Int).toNat default).taken - (l.getD (i:Int).toNat default).given):=A9K hi'
 have hw:IntKind.i64.wrap (IntKind.i64.wrap (A0t (l.take i)+(l.getD (i:Int).toNat default).taken) - (l.getD (i:Int).toNat default).given)=A0t (l.take (i+1)):=by
  rw [hs,A4 (x:=A0t (l.take i)+(l.getD (i:Int).toNat default).taken) (by omega) (by omega),A4 (by omega) (by omega)];omega
 conv=>whnf
 refine ⟨[],[],List.range 14,by kernel_rfl,?_⟩;conv=>whnf
 refine E9 ?_
 refine E9 ?_
 rw [hw]
 refine G3 ?_
 exact nx hi' ⟨by rw [B4 (by omega)],rfl⟩
theorem C5h (b:A2n) (st:St):S P 78 [A0B b] st fun v st'=>v=eI (U0 b)∧st'=st:=by
 refine F7 [1] Tryz.func78 ?_
 refine lp 5 [3,4,5] (fun i vs s=>(∀ k,k<i→E3 (gI (L4 b) k)=true)∧(∃ F:Nat→AV,(∀ k,k<5→F k=eI (gI (L4 b) k))∧vs=[.arr 1 5 F,eI (A2 ((L4 b).take i)),eI i])∧s=st) ?_ ?_
 ·conv=>whnf
  exact ⟨fun k hk=>absurd hk (by omega),⟨_,fun k hk=>by
   rcases (by omega:k=0∨k=1∨k=2∨k=3∨k=4) with rfl | rfl | rfl | rfl | rfl<;>rfl,rfl⟩,rfl⟩
 rintro i vs s hi ⟨hok,⟨F,hF,rfl⟩,rfl⟩
 conv=>whnf
 cases h:decide ((i:Int)<5)
 ·obtain rfl:i=5:=by have:=D7g h;omega
  have e:U0 b=A2 (L4 b):=by unfold U0;rw [if_pos (A9u hok)]
  rw [e];conv=>whnf
  exact ⟨rfl,rfl⟩
 have hi':i<5:=by have:=D7h h;omega
 have hr:=fun s=>W9 (gI (L4 b) i) 100000000000000 s
 have hFi:F (i:Int).toNat=eI (gI (L4 b) i):=hF i hi'
 have hb:=A8d (l:=L4 b) i (by show i≤5;omega) hok
 have hn:=K4 (l:=L4 b) (i:=i) hi'
 have hw:E3 (gI (L4 b) i)=true→IntKind.i64.wrap (A2 ((L4 b).take i)+gI (L4 b) i)=A2 ((L4 b).take (i+1)):=fun hm=>by
  have hx:=D3.1 hm
  rw [hn];exact A4 (by omega) (by omega)
 have yes:E3 (gI (L4 b) i)=true→∀ k,k<i+1→E3 (gI (L4 b) k)=true:=fun hm=>G9 hok hm
 have no:E3 (gI (L4 b) i)=false→U0 b=0:=fun hm=>by unfold U0;rw [A9v hi' hm];rfl
 rw [show J8 0 100000000000000 (gI (L4 b) i)=E3 (gI (L4 b) i) from rfl] at hr
 generalize E3 (gI (L4 b) i)=m at hr hw yes no
 conv=>whnf
 refine ⟨rfl,⟨by omega,by omega⟩,?_⟩
 rw [hFi];conv=>whnf
 refine B2 (hr _) ?_
 cases m
 ·conv=>whnf
  rw [no rfl]
  exact ⟨rfl,rfl⟩
 ·conv=>whnf
  refine ⟨rfl,⟨by omega,by omega⟩,?_⟩
  rw [hFi];conv=>whnf
  rw [hw rfl]
  refine G3 ?_
  exact nx hi' ⟨yes rfl,⟨F,hF,by rw [B4 (by omega)]⟩,rfl⟩
theorem B4r (b:A2n) (st:St):S P 77 [A0B b] st fun v st'=>v=.bool (Q4 b)∧st'=st:=by
 have n1:=W9 b.goods 100000000000000 st
 have n2:=W9 b.tax 100000000000000 st
 have n3:=W9 b.ship 100000000000000 st
 have n4:=W9 b.shipTax 100000000000000 st
 have n5:=W9 b.fee 100000000000000 st
 have e:Q4 b=(J8 0 100000000000000 b.goods&&(J8 0 100000000000000 b.tax&&(J8 0 100000000000000 b.ship&&(J8 0 100000000000000 b.shipTax&&(J8 0 100000000000000 b.fee&&true))))):=rfl
 rw [e]
 clear e
 generalize J8 0 100000000000000 b.goods=b1 at *
 generalize J8 0 100000000000000 b.tax=b2 at *
 generalize J8 0 100000000000000 b.ship=b3 at *
 generalize J8 0 100000000000000 b.shipTax=b4 at *
 generalize J8 0 100000000000000 b.fee=b5 at *
 refine SyW [1] Tryz.func77 ?_
 repeat' ((conv=>whnf);first | refine B2 n1 ?_ | refine B2 n2 ?_ | refine B2 n3 ?_ | refine B2 n4 ?_ | refine B2 n5 ?_ | (refine B7 (fun h=>?_) (fun h=>?_)<;>rw [h]))
 all_goals (conv=>whnf)
 all_goals (refine ⟨?_,rfl⟩;show AV.bool _=AV.bool _;clear n1 n2 n3 n4 n5)
 all_goals (simp only [*,D7u,D7z,D7Q,D7H])
theorem C1I {l:List U5} (h:∀ k,k<l.length→U2 (l.getD k default)=true):l.all U2=true:=D7s.2 fun x hx=>by
 obtain ⟨k,hk,rfl⟩:=D2 hx;exact h k hk
theorem C4m {l:List U5} {k:Nat} (hk:k<l.length) (h:U2 (l.getD k default)=false):l.all U2=false:=by
 rw [D8O];intro e
 rw [D7s.1 e _ (A5 hk)] at h;cases h
def B4c (o:G5):Bool:=C6 o.id&&C6 o.zone&&(decide (o.rules≥1)&&decide (o.rules≤40))&&R6 o.codes&&J8 0 100000 o.day&&(decide ((o.lines.length:Int)≥1)&&decide ((o.lines.length:Int)≤1000))
theorem A9Q (o:G5):H0 o=(B4c o&&o.lines.all U2&&U6 o&&(Q4 o.book&&(U0 o.book==o.net)&&(o.tenders.all tenderB&&decide ((o.tenders.length:Int)≤6))&&(B6M o.tenders==o.net))):=by
 have e:H0 o=(decide ((o.tenders.length:Int)≤6)&&A5M o&&A1Y o&&U6 o&&A5J o&&A0k o):=rfl
 have h1:A5M o=(C6 o.id&&C6 o.zone&&(decide (o.rules≥1)&&decide (o.rules≤40))&&R6 o.codes&&J8 0 100000 o.day):=rfl
 rw [e,h1]
 unfold A1Y A5J A0k B4c B6M
 generalize decide ((o.tenders.length:Int)≤6)=a1
 generalize o.tenders.all tenderB=a2
 generalize o.lines.all U2=a3
 generalize U6 o=a4
 generalize Q4 o.book=a5
 generalize (U0 o.book==o.net)=a6
 generalize decide ((o.lines.length:Int)≥1)=a7
 generalize decide ((o.lines.length:Int)≤1000)=a8
 generalize (C6 o.id&&C6 o.zone&&(decide (o.rules≥1)&&decide (o.rules≤40))&&R6 o.codes&&J8 0 100000 o.day)=a9
 cases a1<;>cases a2<;>simp only [D7Q,D7H,D7u,D7z,if_true]<;>generalize (A0t o.tenders==o.net)=b<;>cases a3<;>cases a4<;>cases a5<;>cases a6<;>cases a7<;>cases a8<;>cases a9<;>cases b<;>rfl
set_option maxHeartbeats 4000000 in
theorem B2C (o:G5) (hs:A2q o) (st:St):S P 25 [J4 o] st fun v st'=>v=.bool (H0 o)∧st'=st:=by
 have n1:=fun s=>A0X o.id hs.id s
 have n2:=fun s=>A0X o.zone hs.zone s
 have n3:=fun s=>B2A o.codes hs.codes hs.scodes s
 have n4:=fun s=>W9 o.day 100000 s
 have n5:=fun s=>W9 o.ship 10000000000000 s
 have n6:=fun s=>W9 o.shipTax 10000000000000 s
 have n7:=fun s=>W9 o.fee 100000000000000 s
 have n8:=fun s=>W9 o.net 100000000000000 s
 have m1:=fun s=>B4r o.book s
 have m2:=fun s=>C5h o.book s
 have m3:=fun s=>B2E o.tenders hs.tenders s
 have m4:=fun s=>C7E o.tenders hs.tenders s
 have hB:=A9Q o
 have hA:U6 o=(J8 0 10000000000000 o.ship&&J8 0 10000000000000 o.shipTax&&J8 0 100000000000000 o.fee&&J8 0 100000000000000 o.net):=rfl
 have hH:B4c o=(C6 o.id&&C6 o.zone&&(decide (o.rules≥1)&&decide (o.rules≤40))&&R6 o.codes&&J8 0 100000 o.day&&(decide ((o.lines.length:Int)≥1)&&decide ((o.lines.length:Int)≤1000))):=rfl
 generalize C6 o.id=b1 at *
 generalize C6 o.zone=b2 at *
 generalize R6 o.codes=b3 at *
 generalize J8 0 100000 o.day=b4 at *
 generalize J8 0 10000000000000 o.ship=b5 at *
 generalize J8 0 10000000000000 o.shipTax=b6 at *
 generalize J8 0 100000000000000 o.fee=b7 at *
 generalize J8 0 100000000000000 o.net=b8 at *
 generalize Q4 o.book=c1 at *
 generalize (o.tenders.all tenderB&&decide ((o.tenders.length:Int)≤6))=c3 at *
 generalize U0 o.book=z1 at *
 generalize B6M o.tenders=z2 at *
 generalize B4c o=H at *
 generalize U6 o=M at *
 have hlines:=hs.lines
 refine SyW [1,4] Tryz.func25 ?_
 cases H
 ·rw [hB]
  repeat' ((conv=>whnf);first | refine B2 (n1 _) ?_ | refine B2 (n2 _) ?_ | refine B2 (n3 _) ?_ | refine B2 (n4 _) ?_ | (refine B7 (fun h=>?_) (fun h=>?_)<;>rw [h]))
  all_goals first
   | (exfalso
      simp only [D7v,D7J,D7d,D7e] at *
      have e:(b1&&b2&&(decide (o.rules≥1)&&decide (o.rules≤40))&&b3&&b4&&(decide ((o.lines.length:Int)≥1)&&decide ((o.lines.length:Int)≤1000)))=true:=by
       simp only [D7f,D7d]
       exact ⟨⟨⟨⟨⟨by assumption,by assumption⟩,by omega,by omega⟩,by assumption⟩,by assumption⟩,by omega,by omega⟩
      rw [←hH] at e;cases e;done)
   | (conv=>whnf
      exact ⟨rfl,rfl⟩)
 have hH:=hH.symm
 simp only [D7f,D7d] at hH
 obtain ⟨⟨⟨⟨⟨rfl,rfl⟩,e3,e4⟩,rfl⟩,rfl⟩,e5,e6⟩:=hH
 have g1:decide (o.rules<1)=false:=D7j (by omega)
 have g2:decide (o.rules>40)=false:=D7j (by omega)
 have g3:decide ((o.lines.length:Int)<1)=false:=D7j (by omega)
 have g4:decide ((o.lines.length:Int)>1000)=false:=D7j (by omega)
 rw [D7u] at hB
 repeat' ((conv=>whnf);first | refine B2 (n1 _) ?_ | refine B2 (n2 _) ?_ | refine B2 (n3 _) ?_ | refine B2 (n4 _) ?_ | rw [g1] | rw [g2] | rw [g3] | rw [g4])
 clear n1 n2 n3 n4 g1 g2 g3 g4
 refine lp o.lines.length [1,3] (fun i vs s=>(∀ k,k<i→U2 (o.lines.getD k default)=true)∧vs=[.fptr (J4 o) 0,eI i]∧s=st) ?_ ?_
 ·conv=>whnf
  exact ⟨fun k hk=>absurd hk (by omega),rfl,rfl⟩
 rintro i vs s hi ⟨hok,rfl,rfl⟩
 conv=>whnf
 cases h:decide ((i:Int)<(o.lines.length:Int))
 ·obtain rfl:=B9 h hi
  rw [C1I hok,D7u] at hB
  rw [hB]
  cases M
  ·repeat' ((conv=>whnf);first | refine B2 (n5 _) ?_ | refine B2 (n6 _) ?_ | refine B2 (n7 _) ?_ | refine B2 (n8 _) ?_ | (refine B7 (fun h=>?_) (fun h=>?_)<;>rw [h]))
   all_goals first
    | (exfalso
       simp only [D7v,D7J,D7d,D7e] at *
       have e:(b5&&b6&&b7&&b8)=true:=by
        simp only [D7f]
        exact ⟨⟨⟨by assumption,by assumption⟩,by assumption⟩,by assumption⟩
       rw [←hA] at e;cases e;done)
    | (conv=>whnf
       exact ⟨rfl,rfl⟩)
  have hA:=hA.symm
  simp only [D7f] at hA
  obtain ⟨⟨⟨rfl,rfl⟩,rfl⟩,rfl⟩:=hA
  rw [D7u]
  repeat' ((conv=>whnf);first | refine B2 (n5 _) ?_ | refine B2 (n6 _) ?_ | refine B2 (n7 _) ?_ | refine B2 (n8 _) ?_)
  refine ⟨[],[],List.range 25,by kernel_rfl,?_⟩
  repeat' ((conv=>whnf);first | refine ⟨_,F3 (m1 _),?_⟩ | refine ⟨_,F3 (m2 _),?_⟩ | refine ⟨_,F3 (m3 _),?_⟩ | refine ⟨_,F3 (m4 _),?_⟩ | (refine B7 (fun h=>?_) (fun h=>?_)<;>rw [h]))
  all_goals (conv=>whnf)
  all_goals (refine ⟨?_,rfl⟩;show AV.bool _=AV.bool _;clear n5 n6 n7 n8 m1 m2 m3 m4)
  all_goals first | rfl | (simp only [D7u,D7z,D7Q,D7H])
 have hi':=D6 h
 have hm:o.lines.getD (i:Int).toNat default∈o.lines:=A5 hi'
 have k1:=fun s=>A0X (o.lines.getD (i:Int).toNat default).sku (hs.slines _ hm) s
 have k2:=fun s=>W9 (o.lines.getD (i:Int).toNat default).price 1000000000 s
 have k3:=fun s=>W9 (o.lines.getD (i:Int).toNat default).goods 10000000000000 s
 have k4:=fun s=>W9 (o.lines.getD (i:Int).toNat default).tax 10000000000000 s
 have hx:U2 (o.lines.getD (i:Int).toNat default)=(C6 (o.lines.getD (i:Int).toNat default).sku&&J8 0 1000000000 (o.lines.getD (i:Int).toNat default).price&&(decide ((o.lines.getD (i:Int).toNat default).sold≥1)&&decide ((o.lines.getD (i:Int).toNat default).sold≤100000))&&(decide ((o.lines.getD (i:Int).toNat default).left≥0)&&decide ((o.lines.getD (i:Int).toNat default).left≤(o.lines.getD (i:Int).toNat default).sold))&&J8 0 10000000000000 (o.lines.getD (i:Int).toNat default).goods&&J8 0 10000000000000 (o.lines.getD (i:Int).toNat default).tax):=rfl
 have yes:U2 (o.lines.getD (i:Int).toNat default)=true→∀ k,k<i+1→U2 (o.lines.getD k default)=true:=fun hm=>G9 hok hm
 have no:U2 (o.lines.getD (i:Int).toNat default)=false→H0 o=false:=fun hm=>by rw [hB,C4m hi' hm];rfl
 generalize U2 (o.lines.getD (i:Int).toNat default)=t at hx yes no
 clear hok n5 n6 n7 n8 m1 m2 m3 m4 hB hA
 conv=>whnf
 refine ⟨rfl,⟨by omega,by omega⟩,?_⟩
 generalize C6 (o.lines.getD (i:Int).toNat default).sku=d1 at *
 generalize J8 0 1000000000 (o.lines.getD (i:Int).toNat default).price=d2 at *
 generalize J8 0 10000000000000 (o.lines.getD (i:Int).toNat default).goods=d3 at *
 generalize J8 0 10000000000000 (o.lines.getD (i:Int).toNat default).tax=d4 at *
 cases t with
 | true =>
  have hx:=hx.symm
  simp only [D7f,D7d] at hx
  obtain ⟨⟨⟨⟨⟨rfl,rfl⟩,f1,f2⟩,f3,f4⟩,rfl⟩,rfl⟩:=hx
  have g1:decide ((o.lines.getD (i:Int).toNat default).sold<1)=false:=D7j (by omega)
  have g2:decide ((o.lines.getD (i:Int).toNat default).sold>100000)=false:=D7j (by omega)
  have g3:decide ((o.lines.getD (i:Int).toNat default).left<0)=false:=D7j (by omega)
  have g4:decide ((o.lines.getD (i:Int).toNat default).left>(o.lines.getD (i:Int).toNat default).sold)=false:=D7j (by omega)
  repeat' ((conv=>whnf);first | refine B2 (k1 _) ?_ | refine B2 (k2 _) ?_ | refine B2 (k3 _) ?_ | refine B2 (k4 _) ?_ | rw [g1] | rw [g2] | rw [g3] | rw [g4])
  refine G3 ?_
  exact nx hi' ⟨yes rfl,by rw [B4 (by omega)],rfl⟩
 | false =>
  repeat' ((conv=>whnf);first | refine B2 (k1 _) ?_ | refine B2 (k2 _) ?_ | refine B2 (k3 _) ?_ | refine B2 (k4 _) ?_ | (refine B7 (fun h=>?_) (fun h=>?_)<;>rw [h]))
  all_goals first
   | (exfalso
      simp only [D7v,D7J,D7d,D7e] at *
      have e:(d1&&d2&&(decide ((o.lines.getD (i:Int).toNat default).sold≥1)&&decide ((o.lines.getD (i:Int).toNat default).sold≤100000))&&(decide ((o.lines.getD (i:Int).toNat default).left≥0)&&decide ((o.lines.getD (i:Int).toNat default).left≤(o.lines.getD (i:Int).toNat default).sold))&&d3&&d4)=true:=by
       simp only [D7f,D7d]
       exact ⟨⟨⟨⟨⟨by assumption,by assumption⟩,by omega,by omega⟩,by omega,by omega⟩,by assumption⟩,by assumption⟩
      rw [←hx] at e;cases e;done)
   | (conv=>whnf
      rw [no rfl]
      exact ⟨rfl,rfl⟩)
theorem C1Q {t k:Int} (ht:0≤t∧t≤10000000000000) (hk:0≤k∧k≤100000):0≤t * k∧t * k≤1000000000000000000:=by
 refine ⟨D8H ht.1 hk.1,?_⟩
 have h1:t * k≤10000000000000 * k:=D9b ht.2 hk.1
 omega
theorem B5X (t n k:Int) (ht:0≤t∧t≤10000000000000) (hn:1≤n∧n≤100000) (hk:0≤k∧k≤n) (st:St):S P 65 [eI t,eI n,eI k] st fun v st'=>v=.tuple [eI (J3 t n k),eI 0]∧st'=st:=by
 have n1:=A5u t st
 rw [show E3 t=true from D3.2 ⟨by omega,by omega⟩] at n1
 have g1:decide (n<1)=false:=D7j (by omega)
 have g2:decide (n>100000)=false:=D7j (by omega)
 have g3:decide (k<0)=false:=D7j (by omega)
 have g4:decide (k>n)=false:=D7j (by omega)
 have w1:IntKind.u64.wrap t=t:=E4 (by omega) (by omega)
 have w2:IntKind.u64.wrap k=k:=E4 (by omega) (by omega)
 have w3:IntKind.u64.wrap n=n:=E4 (by omega) (by omega)
 have hm:=C1Q ht (k:=k) ⟨hk.1,by omega⟩
 have w4:IntKind.u64.wrap (t * k)=t * k:=E4 hm.1 (by omega)
 have hu:=A0w ht.1 hn.1 hk.1 hk.2
 have w5:IntKind.u64.wrap ((t * k).tdiv n)=J3 t n k:=by rw [D8L hm.1];exact E4 (x:=J3 t n k) hu.1 (by omega)
 have w6:IntKind.i64.wrap (J3 t n k)=J3 t n k:=A4 (by omega) (by omega)
 refine SyW [] Tryz.func65 ?_
 repeat' ((conv=>whnf);first | refine B2 n1 ?_ | rw [g1] | rw [g2] | rw [g3] | rw [g4])
 conv=>whnf
 rw [w3,D7j (show ¬ n=0 by omega)];conv=>whnf
 rw [w1,w2,w4,w5,w6]
 exact ⟨rfl,rfl⟩
theorem B9O (t n k:Int) (ht:0≤t∧t≤10000000000000) (hn:1≤n∧n≤100000) (hk:0≤k∧k≤n):V7 t k n 0=(J3 t n k,0):=by
 have h1:(R3 t&&R3 k&&R3 n&&n != 0&&decide ((0:Int)≤0)&&decide ((0:Int)<3))=true:=by
  simp only [D7f,A0e,D9F,D7d]
  exact ⟨⟨⟨⟨⟨⟨by omega,by omega⟩,by omega,by omega⟩,by omega,by omega⟩,by omega⟩,by omega⟩,by omega⟩
 have hu:=A0w ht.1 hn.1 hk.1 hk.2
 unfold V7
 rw [h1,if_neg (by simp),if_neg (show ¬ t * k / n>100000000000000 by show ¬ J3 t n k>_;omega)]
 have e:T8 (t * k / n) (t * k % n) n 0=J3 t n k:=rfl
 rw [e,if_neg (by omega)]
theorem C0L (t n k:Int) (ht:0≤t∧t≤10000000000000) (hn:1≤n∧n≤100000) (hk:0≤k∧k≤n) (st:St):S P 73 [eI t,eI n,eI k] st fun v st'=>v=.tuple [eI (J3 t n k),eI 0]∧st'=st:=by
 have n1:=A2h t st
 rw [show R3 t=true from (A0e t).2 ⟨by omega,by omega⟩] at n1
 have n2:=A9d t k n 0 st
 rw [B9O t n k ht hn hk] at n2
 have g1:decide (n<1)=false:=D7j (by omega)
 have g2:decide (n>100000)=false:=D7j (by omega)
 have g3:decide (k<0)=false:=D7j (by omega)
 have g4:decide (k>n)=false:=D7j (by omega)
 generalize J3 t n k=Y at *
 refine SyW [] Tryz.func73 ?_
 repeat' ((conv=>whnf);first | refine B2 n1 ?_ | refine B2 n2 ?_ | rw [g1] | rw [g2] | rw [g3] | rw [g4])
 exact ⟨rfl,rfl⟩
def A1Z (x:U5):E6:=⟨x.sku,x.left,x.price⟩
theorem C5m (o:G5) (hl:o.lines.length≤100000) (st:St):S P 51 [J4 o] st fun v st'=>v=A8 3 I7 (A9M o)∧st'=st:=by
 refine A0y (ty:=137) ?_
 refine F7 [1,5] Tryz.func51 ?_
 refine lp o.lines.length [3,7,8,9] (fun i vs s=>∃ sv,vs=[sv,A8 6 Q2 o.lines,eI o.lines.length,eI i]∧E8 137 3 I7 ((o.lines.take i).map A1Z) st sv s) ?_ ?_
 ·conv=>whnf
  exact ⟨.emp,rfl,E8.start _ _ _ _⟩
 rintro i vs s hi ⟨sv,rfl,hc⟩
 conv=>whnf
 cases h:decide ((i:Int)<(o.lines.length:Int))
 ·obtain rfl:=B9 h hi
  rw [D7m] at hc;conv=>whnf
  exact hc
 have hi':=D6 h
 have hln:((o.lines.take i).map A1Z).length=i:=by rw [D7i,D7n];omega
 have htk:(o.lines.take (i+1)).map A1Z=(o.lines.take i).map A1Z++[A1Z (o.lines.getD (i:Int).toNat default)]:=A1q hi' A1Z
 conv=>whnf
 refine E9 ?_
 refine E8.app (q:=C5a) (y:=A1Z (o.lines.getD (i:Int).toNat default)) rfl rfl rfl rfl rfl rfl (by rw [hln];show (i+1) * 32≤140737488355328;omega) hc (fun sv' s' hc'=>?_);conv=>whnf
 refine G3 ?_
 exact nx hi' ⟨sv',by rw [B4 (by omega)],by rw [htk];exact hc'⟩
theorem B9q (o:G5) (hl:o.lines.length≤100000) (st:St):S P 152 [J4 o] st fun v st'=>v=A8 3 I7 (A9M o)∧st'=st:=by
 refine A0y (ty:=137) ?_
 refine F7 [1] Tryz.func152 ?_
 refine lp o.lines.length [1,3,4] (fun i vs s=>∃ sv,vs=[.fptr (J4 o) 0,sv,eI i]∧E8 137 3 I7 ((o.lines.take i).map A1Z) st sv s) ?_ ?_
 ·conv=>whnf
  exact ⟨.emp,rfl,E8.start _ _ _ _⟩
 rintro i vs s hi ⟨sv,rfl,hc⟩
 conv=>whnf
 cases h:decide ((i:Int)<(o.lines.length:Int))
 ·obtain rfl:=B9 h hi
  rw [D7m] at hc;conv=>whnf
  exact hc
 have hi':=D6 h
 have hln:((o.lines.take i).map A1Z).length=i:=by rw [D7i,D7n];omega
 have htk:(o.lines.take (i+1)).map A1Z=(o.lines.take i).map A1Z++[A1Z (o.lines.getD (i:Int).toNat default)]:=A1q hi' A1Z
 conv=>whnf
 refine ⟨[20,21],[],List.range 23,by kernel_rfl,?_⟩;conv=>whnf
 refine E9 ?_
 refine E9 ?_
 refine E9 ?_
 refine E8.app (q:=C5a) (y:=A1Z (o.lines.getD (i:Int).toNat default)) rfl rfl rfl rfl rfl rfl (by rw [hln];show (i+1) * 32≤140737488355328;omega) hc (fun sv' s' hc'=>?_);conv=>whnf
 refine G3 ?_
 exact nx hi' ⟨sv',by rw [B4 (by omega)],by rw [htk];exact hc'⟩
def A2S (o:G5) (i:Nat):A2n:=⟨shG (o.lines.take i),shT (o.lines.take i),if K6 (o.lines.take i)=true then o.ship else 0,if K6 (o.lines.take i)=true then o.shipTax else 0,0⟩
theorem A8u {l:List U5} {i:Nat} (hi:i<l.length):K6 (l.take (i+1))=(K6 (l.take i)||decide ((l.getD i default).left>0)):=by
 unfold K6;rw [L6 hi,List.any_append];simp
theorem B4v {l:List U5} (hl:l.length≤1000) (hk:∀ x∈l,U2 x=true) (i:Nat):(0≤shG (l.take i)∧shG (l.take i)≤10000000000000000)∧(0≤shT (l.take i)∧shT (l.take i)≤10000000000000000):=by
 have hln:(l.take i).length≤1000:=by rw [D7n];omega
 have a:=B2j (f:=fun x:U5=>J3 x.goods x.sold x.left) (M:=10000000000000) (by decide) (l.take i) (fun x hx=>by
  obtain ⟨_,_,h1,h2,h3,_⟩:=A1X (hk x (D8e _ _ hx))
  have:=A0w h3.1 h1.1 h2.1 h2.2
  exact ⟨this.1,by omega⟩) 0
 have b:=B2j (f:=fun x:U5=>J3 x.tax x.sold x.left) (M:=10000000000000) (by decide) (l.take i) (fun x hx=>by
  obtain ⟨_,_,h1,h2,_,h3⟩:=A1X (hk x (D8e _ _ hx))
  have:=A0w h3.1 h1.1 h2.1 h2.2
  exact ⟨this.1,by omega⟩) 0
 unfold shG shT
 exact ⟨⟨by omega,by omega⟩,by omega,by omega⟩
set_option maxHeartbeats 2000000 in
theorem C2B (o:G5) (hs:A2q o) (st:St):S P 18 [J4 o] st fun v st'=>v=A0B (Q6 o)∧st'=st:=by
 have n1:=fun s=>A8Y o hs s
 have hB:Q6 o=if H0 o=true then A2S o o.lines.length else ⟨0,0,0,0,0⟩:=by
  unfold Q6 A2S;rw [D7m]
 have hO:H0 o=true→o.lines.length≤1000∧∀ x∈o.lines,U2 x=true:=fun h=>by
  rw [A9Q] at h
  unfold B4c at h
  simp only [D7f,D7d,D7s] at h
  exact ⟨by omega,h.1.1.2⟩
 generalize H0 o=b at *
 refine A0g ?_
 refine A0o [1,5] A4i mixed Tryz.func18 (by rfl) rfl rfl rfl ?_;conv=>whnf
 intro b2 hb2;conv=>whnf
 intro b3 hb3
 have h23:b2≠b3:=fun e=>by subst e;rw [A0] at hb3;cases hb3
 have hs2:F8 st (upd st b2 ⟨47,5,1,fun _=>I1 r47.zero⟩):=(F8.refl st).upd hb2
 have hb3':st b3=none:=hs2.none hb3
 conv=>whnf
 refine B2 (n1 _) ?_
 cases b
 ·rw [if_neg (by simp)] at hB
  rw [hB];conv=>whnf
  refine L1 (A0 ..) rfl ?_
  refine stW (by rw [B0 h23];exact A0 ..) rfl ?_
  refine L1 (A0 ..) (A6 ..) ?_
  exact ⟨rfl,((hs2.upd hb3).over hb2)⟩
 rw [if_pos rfl] at hB
 obtain ⟨hl,hk⟩:=hO rfl
 rw [hB]
 clear hB n1 hO
 conv=>whnf
 refine lp o.lines.length [1,2,3,15,16,17] (fun i vs s=>vs=[.fptr (J4 o) 0,.optr 5 b2 0 0,.optr 5 b3 0 0,A8 6 Q2 o.lines,eI o.lines.length,eI i]∧∃ f3,s=upd (upd st b2 ⟨47,5,1,fun _=>I1 r47.zero⟩) b3 ⟨47,5,1,f3⟩∧f3 0=A0B (A2S o i)) ?_ ?_
 ·conv=>whnf
  exact ⟨rfl,_,rfl,rfl⟩
 rintro i vs s hi ⟨rfl,f3,rfl,hf3⟩
 conv=>whnf
 cases h:decide ((i:Int)<(o.lines.length:Int))
 ·obtain rfl:=B9 h hi
  generalize A2S o o.lines.length=Z at *
  conv=>whnf
  refine L1 (A0 ..) hf3 ?_
  refine stW (by rw [B0 h23];exact A0 ..) rfl ?_
  refine L1 (A0 ..) (A6 ..) ?_
  exact ⟨rfl,((hs2.upd hb3).over hb2)⟩
 have hi':=D6 h
 have hkx:=A1X (hk (o.lines.getD (i:Int).toNat default) (A5 hi'))
 obtain ⟨-,-,k1,k2,k3,k4⟩:=hkx
 have c1:=fun s=>B5X (o.lines.getD (i:Int).toNat default).goods (o.lines.getD (i:Int).toNat default).sold (o.lines.getD (i:Int).toNat default).left k3 k1 k2 s
 have c2:=fun s=>B5X (o.lines.getD (i:Int).toNat default).tax (o.lines.getD (i:Int).toNat default).sold (o.lines.getD (i:Int).toNat default).left k4 k1 k2 s
 have hin:=B4v hl hk i
 have u1:=A0w k3.1 k1.1 k2.1 k2.2
 have u2:=A0w k4.1 k1.1 k2.1 k2.2
 have sg:shG (o.lines.take (i+1))=shG (o.lines.take i)+J3 (o.lines.getD (i:Int).toNat default).goods (o.lines.getD (i:Int).toNat default).sold (o.lines.getD (i:Int).toNat default).left:=G8 hi' _ _
 have stt:shT (o.lines.take (i+1))=shT (o.lines.take i)+J3 (o.lines.getD (i:Int).toNat default).tax (o.lines.getD (i:Int).toNat default).sold (o.lines.getD (i:Int).toNat default).left:=G8 hi' _ _
 have sa:K6 (o.lines.take (i+1))=(K6 (o.lines.take i)||decide ((o.lines.getD (i:Int).toNat default).left>0)):=A8u hi'
 have w1:IntKind.i64.wrap (shG (o.lines.take i)+J3 (o.lines.getD (i:Int).toNat default).goods (o.lines.getD (i:Int).toNat default).sold (o.lines.getD (i:Int).toNat default).left)=shG (o.lines.take (i+1)):=by rw [sg];exact A4 (by omega) (by omega)
 have w2:IntKind.i64.wrap (shT (o.lines.take i)+J3 (o.lines.getD (i:Int).toNat default).tax (o.lines.getD (i:Int).toNat default).sold (o.lines.getD (i:Int).toNat default).left)=shT (o.lines.take (i+1)):=by rw [stt];exact A4 (by omega) (by omega)
 have hN:A2S o (i+1)=⟨shG (o.lines.take (i+1)),shT (o.lines.take (i+1)),if K6 (o.lines.take (i+1))=true then o.ship else 0,if K6 (o.lines.take (i+1))=true then o.shipTax else 0,0⟩:=rfl
 have hZ:A2S o i=⟨shG (o.lines.take i),shT (o.lines.take i),if K6 (o.lines.take i)=true then o.ship else 0,if K6 (o.lines.take i)=true then o.shipTax else 0,0⟩:=rfl
 rw [sa] at hN
 rw [hZ] at hf3
 generalize shG (o.lines.take (i+1))=G1 at *
 generalize shT (o.lines.take (i+1))=T1 at *
 generalize shG (o.lines.take i)=G0 at *
 generalize shT (o.lines.take i)=T0 at *
 generalize K6 (o.lines.take i)=a0 at *
 generalize J3 (o.lines.getD (i:Int).toNat default).goods (o.lines.getD (i:Int).toNat default).sold (o.lines.getD (i:Int).toNat default).left=Y1 at *
 generalize J3 (o.lines.getD (i:Int).toNat default).tax (o.lines.getD (i:Int).toNat default).sold (o.lines.getD (i:Int).toNat default).left=Y2 at *
 clear hin u1 u2 sg stt sa hZ
 conv=>whnf
 refine E9 ?_
 refine I3 (c1 _) ?_
 refine I3 (c2 _) ?_
 refine L1 (A0 ..) hf3 ?_
 rw [w1]
 refine stU (A0 ..) hf3 ?_
 rw [C5];conv=>whnf
 refine L1 (A0 ..) (A6 ..) ?_
 rw [w2]
 refine stU (A0 ..) (A6 ..) ?_
 rw [C5];conv=>whnf
 refine B7 (fun h5=>?_) (fun h5=>?_)<;>rw [h5] at hN ⊢
 ·rw [D7U] at hN;conv=>whnf
  refine .inr ⟨[5,7],.qui 0 (.qui 1 (.qui 2 (.qui 3 (.qui 4 (.eff 5 [3] (.qui 6 (.eff 7 [] (.done)))))))),by kernel_rfl,?_⟩;conv=>whnf
  refine ⟨_,fun _=>True,trivial,fun s _=>⟨rfl,rfl⟩,?_⟩;conv=>whnf
  refine ⟨_,fun _=>True,trivial,fun s _=>⟨rfl,rfl⟩,?_⟩;conv=>whnf
  refine stU (A0 ..) (A6 ..) ?_
  rw [C5];conv=>whnf
  refine ⟨fun _=>trivial,?_⟩;conv=>whnf
  refine stU (A0 ..) (A6 ..) ?_
  rw [C5];conv=>whnf
  refine G3 ?_
  exact nx hi' ⟨by rw [B4 (by omega)],_,rfl,by rw [A6,hN];rfl⟩
 ·rw [D7V] at hN;conv=>whnf
  refine G3 ?_
  exact nx hi' ⟨by rw [B4 (by omega)],_,rfl,by rw [A6,hN];rfl⟩
set_option maxHeartbeats 2000000 in
theorem B7B (o:G5) (hs:A2q o) (st:St):S P 26 [J4 o] st fun v st'=>v=A0B (Q6 o)∧st'=st:=by
 have n1:=fun s=>B2C o hs s
 have hB:Q6 o=if H0 o=true then A2S o o.lines.length else ⟨0,0,0,0,0⟩:=by
  unfold Q6 A2S;rw [D7m]
 have hO:H0 o=true→o.lines.length≤1000∧∀ x∈o.lines,U2 x=true:=fun h=>by
  rw [A9Q] at h
  unfold B4c at h
  simp only [D7f,D7d,D7s] at h
  exact ⟨by omega,h.1.1.2⟩
 generalize H0 o=b at *
 refine A0g ?_
 refine A0o [1,5] A4i mixed Tryz.func26 (by rfl) rfl rfl rfl ?_;conv=>whnf
 intro b2 hb2;conv=>whnf
 intro b3 hb3
 have h23:b2≠b3:=fun e=>by subst e;rw [A0] at hb3;cases hb3
 have hs2:F8 st (upd st b2 ⟨47,5,1,fun _=>I1 r47.zero⟩):=(F8.refl st).upd hb2
 have hb3':st b3=none:=hs2.none hb3
 conv=>whnf
 refine stU (A0 ..) rfl ?_
 rw [C5];conv=>whnf
 refine B2 (n1 _) ?_
 cases b
 ·rw [if_neg (by simp)] at hB
  rw [hB];conv=>whnf
  refine L1 (A0 ..) (A6 ..) ?_
  refine stW (by rw [B0 h23];exact A0 ..) rfl ?_
  refine L1 (A0 ..) (A6 ..) ?_
  exact ⟨rfl,((hs2.upd hb3).over hb2)⟩
 rw [if_pos rfl] at hB
 obtain ⟨hl,hk⟩:=hO rfl
 rw [hB]
 clear hB n1 hO
 conv=>whnf
 refine lp o.lines.length [1,2,3,4] (fun i vs s=>vs=[.fptr (J4 o) 0,.optr 5 b2 0 0,.optr 5 b3 0 0,eI i]∧∃ f3,s=upd (upd st b2 ⟨47,5,1,fun _=>I1 r47.zero⟩) b3 ⟨47,5,1,f3⟩∧f3 0=A0B (A2S o i)) ?_ ?_
 ·conv=>whnf
  exact ⟨rfl,_,rfl,A6 ..⟩
 rintro i vs s hi ⟨rfl,f3,rfl,hf3⟩
 conv=>whnf
 cases h:decide ((i:Int)<(o.lines.length:Int))
 ·obtain rfl:=B9 h hi
  generalize A2S o o.lines.length=Z at *
  conv=>whnf
  refine L1 (A0 ..) hf3 ?_
  refine stW (by rw [B0 h23];exact A0 ..) rfl ?_
  refine L1 (A0 ..) (A6 ..) ?_
  exact ⟨rfl,((hs2.upd hb3).over hb2)⟩
 have hi':=D6 h
 have hkx:=A1X (hk (o.lines.getD (i:Int).toNat default) (A5 hi'))
 obtain ⟨-,-,k1,k2,k3,k4⟩:=hkx
 have c1:=fun s=>C0L (o.lines.getD (i:Int).toNat default).goods (o.lines.getD (i:Int).toNat default).sold (o.lines.getD (i:Int).toNat default).left k3 k1 k2 s
 have c2:=fun s=>C0L (o.lines.getD (i:Int).toNat default).tax (o.lines.getD (i:Int).toNat default).sold (o.lines.getD (i:Int).toNat default).left k4 k1 k2 s
 have hin:=B4v hl hk i
 have u1:=A0w k3.1 k1.1 k2.1 k2.2
 have u2:=A0w k4.1 k1.1 k2.1 k2.2
 have sg:shG (o.lines.take (i+1))=shG (o.lines.take i)+J3 (o.lines.getD (i:Int).toNat default).goods (o.lines.getD (i:Int).toNat default).sold (o.lines.getD (i:Int).toNat default).left:=G8 hi' _ _
 have stt:shT (o.lines.take (i+1))=shT (o.lines.take i)+J3 (o.lines.getD (i:Int).toNat default).tax (o.lines.getD (i:Int).toNat default).sold (o.lines.getD (i:Int).toNat default).left:=G8 hi' _ _
 have sa:K6 (o.lines.take (i+1))=(K6 (o.lines.take i)||decide ((o.lines.getD (i:Int).toNat default).left>0)):=A8u hi'
 have w1:IntKind.i64.wrap (shG (o.lines.take i)+J3 (o.lines.getD (i:Int).toNat default).goods (o.lines.getD (i:Int).toNat default).sold (o.lines.getD (i:Int).toNat default).left)=shG (o.lines.take (i+1)):=by rw [sg];exact A4 (by omega) (by omega)
 have w2:IntKind.i64.wrap (shT (o.lines.take i)+J3 (o.lines.getD (i:Int).toNat default).tax (o.lines.getD (i:Int).toNat default).sold (o.lines.getD (i:Int).toNat default).left)=shT (o.lines.take (i+1)):=by rw [stt];exact A4 (by omega) (by omega)
 have hN:A2S o (i+1)=⟨shG (o.lines.take (i+1)),shT (o.lines.take (i+1)),if K6 (o.lines.take (i+1))=true then o.ship else 0,if K6 (o.lines.take (i+1))=true then o.shipTax else 0,0⟩:=rfl
 have hZ:A2S o i=⟨shG (o.lines.take i),shT (o.lines.take i),if K6 (o.lines.take i)=true then o.ship else 0,if K6 (o.lines.take i)=true then o.shipTax else 0,0⟩:=rfl
 rw [sa] at hN
 rw [hZ] at hf3
 generalize shG (o.lines.take (i+1))=G1 at *
 generalize shT (o.lines.take (i+1))=T1 at *
 generalize shG (o.lines.take i)=G0 at *
 generalize shT (o.lines.take i)=T0 at *
 generalize K6 (o.lines.take i)=a0 at *
 generalize J3 (o.lines.getD (i:Int).toNat default).goods (o.lines.getD (i:Int).toNat default).sold (o.lines.getD (i:Int).toNat default).left=Y1 at *
 generalize J3 (o.lines.getD (i:Int).toNat default).tax (o.lines.getD (i:Int).toNat default).sold (o.lines.getD (i:Int).toNat default).left=Y2 at *
 clear hin u1 u2 sg stt sa hZ
 conv=>whnf
 refine E9 ?_
 refine I3 (c1 _) ?_
 refine I3 (c2 _) ?_
 refine L1 (A0 ..) hf3 ?_
 refine L1 (A0 ..) hf3 ?_
 rw [w1]
 refine stU (A0 ..) hf3 ?_
 rw [C5];conv=>whnf
 rw [w2]
 refine stU (A0 ..) (A6 ..) ?_
 rw [C5];conv=>whnf
 refine B7 (fun h5=>?_) (fun h5=>?_)<;>rw [h5] at hN ⊢
 ·rw [D7U] at hN;conv=>whnf
  refine .inr ⟨[5,7],.qui 0 (.qui 1 (.qui 2 (.qui 3 (.qui 4 (.eff 5 [3] (.qui 6 (.eff 7 [] (.done)))))))),by kernel_rfl,?_⟩;conv=>whnf
  refine ⟨_,fun _=>True,trivial,fun s _=>⟨rfl,rfl⟩,?_⟩;conv=>whnf
  refine ⟨_,fun _=>True,trivial,fun s _=>⟨rfl,rfl⟩,?_⟩;conv=>whnf
  refine stU (A0 ..) (A6 ..) ?_
  rw [C5];conv=>whnf
  refine ⟨fun _=>trivial,?_⟩;conv=>whnf
  refine stU (A0 ..) (A6 ..) ?_
  rw [C5];conv=>whnf
  refine G3 ?_
  exact nx hi' ⟨by rw [B4 (by omega)],_,rfl,by rw [A6,hN];rfl⟩
 ·rw [D7V] at hN;conv=>whnf
  refine G3 ?_
  exact nx hi' ⟨by rw [B4 (by omega)],_,rfl,by rw [A6,hN];rfl⟩
theorem B8r (l:List C8) (hl:l.length≤100000) (st:St):S P 62 [A8 1 eS l] st fun v st'=>E8 9 1 eS l st v st':=by
 refine SyW [] Tryz.func62 ?_
 cases l with
 | nil =>
  conv=>whnf
  refine ⟨?_,?_⟩
  ·conv=>whnf
   exact Col.start _ _ _ _
  ·conv=>whnf
   refine apE rfl rfl rfl rfl rfl (by show 0 * 16≤_;omega) (fun _=>?_) (fun h=>absurd h (by show ¬ 0<0;omega));conv=>whnf
   exact Col.start _ _ _ _
 | cons u us =>
  conv=>whnf
  refine Col.apps (n:=0) (m:=us.length+1) (q:=r9) (f:=fun k=>eS ((u::us).getD k default)) rfl rfl rfl rfl rfl (fun i hi=>by rw [D7o]) (by show (0+(us.length+1)) * 16≤140737488355328;simp only [D7N] at hl;omega) (Col.start _ _ _ _) (fun sv' st'' hc'=>?_);conv=>whnf
  rw [D7o] at hc'
  exact hc'
theorem B6t (l:List C8) (hl:l.length≤100000) (st:St):S P 62 [A8 1 eS l] st fun v st'=>v=A8 1 eS l∧st'=st:=A0y (B8r l hl st)
structure Pay where
 kind:Int
 amount:Int
 deriving Inhabited
def B8A (x:Pay):AV:=.agg [eI x.kind,eI x.amount]
def B2l (x:Pay):Bool:=J8 1 9 x.kind&&decide (x.amount≥1)&&E3 x.amount
def V8 (l:List Pay):Int:=l.foldl (fun a x=>a+x.amount) 0
def A8Q (l:List Pay) (total:Int):Bool:=decide ((l.length:Int)≤6)&&l.all B2l&&(V8 l==total)
theorem B9e {l:List Pay}:∀ i,i≤l.length→(∀ k,k<i→B2l (l.getD k default)=true)→0≤V8 (l.take i)∧V8 (l.take i)≤100000000000000 * (i:Int)
 | 0,_,_=>⟨by rw [D8B];exact D7L _,by rw [D8B];exact D7L _⟩
 | i+1,hi,h=>by
  have ih:=B9e i (by omega) fun k hk=>h k (by omega)
  have hx:=h i (by omega)
  unfold B2l E3 at hx
  simp only [D7f,D3,D7d] at hx
  have e:V8 (l.take (i+1))=V8 (l.take i)+(l.getD i default).amount:=G8 (by omega) _ _
  rw [e]
  omega
def Y4 (l:List E6) (q:O5) (i:Nat):U5:=⟨(l.getD i default).sku,(l.getD i default).price,(l.getD i default).qty,(l.getD i default).qty,gI q.goods i,gI q.taxes i⟩
def X1 (l:List E6) (q:O5):List U5:=(List.range l.length).map (Y4 l q)
def B2k (t:Int) (x:Pay):Pay:=⟨1+B5 x.kind 5,1+B5 x.amount t⟩
def A4a (s:Int×List Pay) (x:Pay):Int×List Pay :=
 if s.1>1 then (if (B2k s.1 x).amount<s.1 then (s.1 - (B2k s.1 x).amount,s.2++[B2k s.1 x]) else s) else s
def N4 (t:Int) (l:List Pay):Int×List Pay:=l.foldl A4a (t,[])
def N8 (t:Int) (l:List Pay):List Pay :=
 if (N4 t (l.take 2)).1>0 then (N4 t (l.take 2)).2++[⟨1+B5 l.length 5,(N4 t (l.take 2)).1⟩] else (N4 t (l.take 2)).2
theorem B2m (a:List Pay) (x:Pay):V8 (a++[x])=V8 a+x.amount:=by unfold V8;rw [D9g];rfl
theorem C4O {t:Int} (ht:1<t∧t≤100000000000000) (x:Pay):B2l (B2k t x)=true:=by
 have h1:=C7 x.kind (n:=5) (by decide)
 have h2:=C7 x.amount (n:=t) (by omega)
 unfold B2l E3 B2k
 simp only [D7f,D3,D7d]
 omega
structure B9Y (t:Int) (n:Nat) (s:Int×List Pay):Prop where
 left:0≤s.1∧s.1≤t
 sum:V8 s.2+s.1=t
 ok:∀ x∈s.2,B2l x=true
 len:s.2.length≤n
theorem B9Y.step {t:Int} {n:Nat} {s:Int×List Pay} (ht:t≤100000000000000) (h:B9Y t n s) (x:Pay):B9Y t (n+1) (A4a s x):=by
 obtain ⟨h1,h2,h3,h4⟩:=h
 unfold A4a
 split
 ·rename_i hs
  split
  ·rename_i ha
   have hk:=C4O (t:=s.1) ⟨hs,by omega⟩ x
   have hp:(B2k s.1 x).amount≥1:=by
    unfold B2l at hk
    simp only [D7f,D7d] at hk
    exact hk.1.2
   exact ⟨⟨by show 0≤s.1 - _;omega,by show s.1 - _≤t;omega⟩,by show V8 (s.2++[_])+(s.1 - _)=t;rw [B2m];omega,fun y hy=>by
    rcases D8s.1 hy with hy | hy
    ·exact h3 y hy
    ·rw [D7I.1 hy];exact hk,by show (s.2++[_]).length≤n+1;rw [D7p];exact Nat.succ_le_succ h4⟩
  ·exact ⟨h1,h2,h3,by omega⟩
 ·exact ⟨h1,h2,h3,by omega⟩
theorem A7W {t:Int} (h0:0≤t) (ht:t≤100000000000000) (l:List Pay):∀ i,i≤l.length→B9Y t i (N4 t (l.take i))
 | 0,_=>⟨⟨h0,D7L _⟩,by show 0+t=t;omega,fun x hx=>(by cases hx),D7l _⟩
 | i+1,hi=>by
  have:=(A7W h0 ht l i (by omega)).step ht (l.getD i default)
  rwa [show N4 t (l.take (i+1))=A4a (N4 t (l.take i)) (l.getD i default) from G8 (by omega) _ _]
theorem B3y {t:Int} (h0:0≤t) (ht:t≤100000000000000) (l:List Pay):A8Q (N8 t l) t=true∧(N8 t l).length≤3:=by
 have hlen:(l.take 2).length≤2:=by rw [D7n];omega
 have h:=A7W h0 ht (l.take 2) (l.take 2).length (D7l _)
 rw [D7m] at h
 obtain ⟨h1,h2,h3,h4⟩:=h
 have hm:=C7 (l.length:Int) (n:=5) (by decide)
 unfold N8 A8Q
 generalize N4 t (l.take 2)=s at *
 split
 ·rename_i hp
  refine ⟨?_,by rw [D7p];show s.2.length+1≤3;omega⟩
  rw [B2m]
  simp only [D7f,D7d,D7s,D7Z]
  refine ⟨⟨by rw [D7p];show ((s.2.length+1:Nat):Int)≤6;omega,fun x hx=>?_⟩,h2⟩
  rcases D8s.1 hx with hx | hx
  ·exact h3 x hx
  ·rw [D7I.1 hx]
   unfold B2l E3
   simp only [D7f,D3,D7d]
   omega
 ·rename_i hp
  simp only [D7f,D7d,D7s,D7Z]
  exact ⟨⟨⟨by omega,h3⟩,by omega⟩,by omega⟩
end Go.Proofs.YtaapofnkmpiknaaGreat
