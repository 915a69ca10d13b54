/- Part 28 of the proof: contracts of the functions that the law reaches -/
import Derived.Test.YtbajhapmlfbelaaGreatQf27
set_option maxRecDepth 100000
set_option linter.unusedVariables false
set_option linter.unusedSimpArgs false
namespace Go.Proofs.YtbajhapmlfbelaaGreat
open Go Go.Ab
attribute [local irreducible] upd del
theorem B9L (used:List Bool) (l:List QE):∃ pre,l=pre++(N8 used l).2∧∀ e∈pre,used.getD e.2.toNat default=true∨(N8 used l).1=some e.2:=by
 induction l with
 | nil=>exact ⟨[],rfl,fun e h=>by cases h⟩
 | cons e l ih =>
  by_cases hu:used.getD e.2.toNat default=true
  ·have ht:N8 used (e::l)=N8 used l:=by
    show (if used.getD e.2.toNat default=true then N8 used l else (some e.2,l))=_
    rw [if_pos hu]
   obtain ⟨pre,h1,h2⟩:=ih
   rw [ht]
   exact ⟨e::pre,by rw [List.cons_append,←h1],fun x hx=>by
    rcases List.mem_cons.1 hx with rfl | hx
    ·exact .inl hu
    ·exact h2 x hx⟩
  ·have ht:N8 used (e::l)=(some e.2,l):=by
    show (if used.getD e.2.toNat default=true then N8 used l else (some e.2,l))=_
    rw [if_neg hu]
   rw [ht]
   exact ⟨[e],rfl,fun x hx=>by rw [List.mem_singleton] at hx;subst hx;exact .inr rfl⟩
theorem B6Y {used:List Bool} {pre:List QE} (h:∀ e∈pre,used.getD e.2.toNat default=true) (l:List QE):N8 used (pre++l)=N8 used l:=by
 induction pre with
 | nil=>rfl
 | cons e pre ih =>
  show (if used.getD e.2.toNat default=true then N8 used (pre++l) else (some e.2,pre++l))=_
  rw [if_pos (h e (List.mem_cons_self ..))]
  exact ih fun x hx=>h x (List.mem_cons_of_mem _ hx)
def A3s (E:Nat→List QE) (n:Nat) (s:MSt):Prop:=∀ k,k<n→∃ pre,E k=pre++s.es k∧∀ e∈pre,s.used.getD e.2.toNat default=true
theorem A5v {used:List Bool} {i:Nat} (hi:i<used.length) (j:Nat):(used.set i true).getD j default=if j=i then true else used.getD j default:=by
 simp only [List.getD_eq_getElem?_getD,List.getElem?_set]
 by_cases h:j=i
 ·subst h;simp [hi]
 ·rw [if_neg (fun e=>h e.symm),if_neg h]
theorem A3s.take {E:Nat→List QE} {us:List B5} {n:Nat} {s s':MSt} (h:A3s E n s) (hok:MOk us n s) {k:Nat} (hk:k<n) (ht:A0v k s=some s'):A3s E n s':=by
 obtain ⟨pre0,p1,p2⟩:=B9L s.used (s.es k)
 obtain ⟨_,t2,_,_⟩:=A2J s.used (s.es k)
 unfold A0v at ht
 split at ht
 ·cases ht
 ·rename_i i hi
  cases ht
  obtain ⟨e0,he0,rfl,_⟩:=t2 i hi
  have hlt:e0.2.toNat<s.used.length:=by rw [hok.len];exact (hok.rng k hk e0 he0).2
  intro j hj
  obtain ⟨pre,h1,h2⟩:=h j hj
  have hmono:∀ e:QE,s.used.getD e.2.toNat default=true→(s.used.set e0.2.toNat true).getD e.2.toNat default=true:=fun e he=>by
   rw [A5v hlt];split
   ·rfl
   ·exact he
  by_cases ej:j=k
  ·subst ej
   refine ⟨pre++pre0,?_,fun e he=>?_⟩
   ·show E j=_++Y4 s.es j _ j
    rw [H6,List.append_assoc,←p1];exact h1
   ·rcases List.mem_append.1 he with he | he
    ·exact hmono e (h2 e he)
    ·rcases p2 e he with he | he
     ·exact hmono e he
     ·rw [hi] at he
      have he:=Option.some.inj he
      show (s.used.set _ true).getD _ default=true
      rw [A5v hlt,if_pos (by rw [he])]
  ·refine ⟨pre,?_,fun e he=>hmono e (h2 e he)⟩
   show E j=_++Y4 s.es k _ j
   rw [L9 ej];exact h1
theorem A3s.takes {E:Nat→List QE} {us:List B5} {n:Nat} {s:MSt} (h:A3s E n s) (hok:MOk us n s) {k:Nat} (hk:k<n):∀ {c:Nat} {s':MSt},R5 k c s=some s'→A3s E n s'
 | 0,s',e=>by cases e;exact h
 | c+1,s',e=>by
  unfold R5 at e
  obtain ⟨s1,h1,h2⟩:=Option.bind_eq_some_iff.1 e
  exact (A3s.takes h hok hk h1).take (hok.takes hk h1) hk h2
theorem A3s.parts {E:Nat→List QE} {us:List B5} {p:B4} {s:MSt} (h:A3s E p.parts.length s) (hok:MOk us p.parts.length s):∀ {k:Nat} {s':MSt},k≤p.parts.length→K8 p.parts k s=some s'→A3s E p.parts.length s'
 | 0,s',_,e=>by cases e;exact h
 | k+1,s',hk,e=>by
  unfold K8 at e
  obtain ⟨s1,h1,h2⟩:=Option.bind_eq_some_iff.1 e
  exact (A3s.parts h hok (by omega) h1).takes (MOk.parts hok (by omega) h1) (by omega) h2
def A8p (p:B4) (ms:MSt):List Int:=match K8 p.parts p.parts.length ms with | none=>[] | some s=>C8 s.l
theorem C6e (p:B4) (hp:A3q p) (us:List B5) (hul:us.length≤100000) (E:Nat→List QE) (L:List (List Int)) (hL:L.length=p.parts.length) (hLE:∀ k,k<p.parts.length→L.getD k default=(E k).map (·.2)) (hE:∀ k,k<p.parts.length→(E k).length≤100000∧∀ e∈E k,0≤e.2∧e.2.toNat<us.length)
  (ms:MSt) (hl0:ms.l=[]) (hm:MOk us p.parts.length ms) (hpre:A3s E p.parts.length ms) (bu:Nat) (gu:Nat→AV) (st:St) (bl:Nat) (gl:Nat→AV) (hbl:st bl=some ⟨29,1,L.length,gl⟩) (hgl:∀ k,k<L.length→gl k=A8 (L.getD k default)) (hbu:st bu=some ⟨4,1,us.length,gu⟩) (hgu:∀ k,k<us.length→gu k=eB (ms.used.getD k default)) :
  S P 252 [C0 p,D1 us,.own 1 bl 0 L.length,.own 1 bu 0 us.length] st fun v st'=>v=A8 (A8p p ms)∧st'=st:=by
 refine S.post (post:=fun v st'=>((v=.emp∧A8p p ms=[])∨v=A8 (A8p p ms))∧D8 st st') ?_
  (fun v st' ⟨h,hs⟩=>⟨_,st,⟨rfl,rfl⟩,by
   rcases h with ⟨rfl,h⟩ | rfl
   ·rw [h];exact (hs.shift _).trans (K4 1 _)
   ·exact hs.shift _⟩)
 have hn8:=hp.n8
 refine SyW [4] Tryz.func252 ?_
 have main:∀ (tv:AV) (s0:St) ,N3 4 1 (fun k=>eB (ms.used.getD k default)) st us.length tv s0→True:=fun _ _ _=>trivial
 conv=>whnf
 refine N3.apps (q:=r4) (f:=fun k=>eB (ms.used.getD k default)) rfl rfl rfl rfl (C6p hbu rfl (by show 0+us.length≤us.length;omega)) (fun i hi=>by show gu (0+i)=eB (ms.used.getD (0+i) default);rw [Nat.zero_add];exact hgu i hi) (by show (0+us.length) * 1≤_;omega) (N3.start _ _ _ st) (fun tv s0 hc0=>?_)
 rw [Nat.zero_add] at hc0
 clear main
 conv=>whnf
 refine lp p.parts.length [2,4,9,10,11] (fun i vs s=>∃ sv tv s0 si,vs=[.own 1 bl 0 L.length,.fptr (C0 p) 0,sv,tv,eI i]∧K8 p.parts i ms=some si∧N3 4 1 (fun k=>eB (si.used.getD k default)) st us.length tv s0∧F3 3 1 eI si.l s0 sv s) ?_ ?_
 ·conv=>whnf
  exact ⟨.emp,tv,s0,ms,rfl,rfl,hc0,by rw [hl0];exact F3.start _ _ _ _⟩
 ·clear hc0
  rintro i vs s hi ⟨sv,tv,s0,si,rfl,hsi,hc0,hc1⟩
  have hmi:=MOk.parts hm hi hsi
  have hpi:=hpre.parts hm hi hsi
  have hleni:=A1A hp hi hsi
  rw [hl0,List.length_nil] at hleni;conv=>whnf
  cases hd:decide ((i:Int)<(p.parts.length:Int))
  ·obtain rfl:=C6 hd hi
   have hone:A8p p ms=C8 si.l:=by unfold A8p;rw [hsi]
   conv=>whnf
   refine F4 hc1.shift (C5 (B9u si.l (by omega) _) ?_);conv=>whnf
   exact ⟨.inr (by rw [hone];rfl),hc0.sup⟩
  ·have hi':=E4 hd
   have hLi:L.getD (i:Int).toNat default=(E i).map (·.2):=by rw [Int.toNat_natCast];exact hLE i hi'
   obtain ⟨hEl,hEr⟩:=hE i hi'
   have hct:=hp.at hi'
   obtain ⟨pre,hpr1,hpr2⟩:=hpi i hi'
   have hcn:(p.parts.getD (i:Int).toNat default).count=(((p.parts.getD i default).count.toNat:Nat):Int):=by rw [Int.toNat_natCast];omega
   have hfin:K8 p.parts (i+1) ms=R5 i (p.parts.getD i default).count.toNat si:=by
    conv=>lhs;unfold K8
    rw [hsi];rfl
   have hnone:∀ n,n≤(p.parts.getD i default).count.toNat→R5 i n si=none→A8p p ms=[]:=fun n hn hnn=>by
    have h1:=A5B hnn hn
    rw [←hfin] at h1
    unfold A8p;rw [A5k h1 hi']
   have hC100:(p.parts.getD i default).count.toNat≤100:=by omega
   generalize (p.parts.getD i default).count.toNat=C at *
   conv=>whnf
   refine lp (E i).length [2,4,9,10,11,12,13] (fun k vs s=>∃ (sv tv:AV) (s0:St) (n:Nat) (si2:MSt),vs=[.own 1 bl 0 L.length,.fptr (C0 p) 0,sv,tv,eI i,eI n,eI k]∧n≤C∧R5 i n si=some si2∧N8 si2.used (si2.es i)=N8 si2.used ((E i).drop k)∧N3 4 1 (fun k=>eB (si2.used.getD k default)) st us.length tv s0∧F3 3 1 eI si2.l s0 sv s) ?_ ?_
   ·conv=>whnf
    exact ⟨sv,tv,s0,0,si,rfl,Nat.zero_le _,rfl,by rw [List.drop_zero,hpr1,B6Y hpr2],hc0,hc1⟩
   ·clear hc0 hc1
    rintro k vs s hk ⟨sv,tv,s0,n,si2,rfl,hn,hs2,htk,hc0,hc1⟩
    have hm2:=hmi.takes hi' hs2
    have hlen2:=A1F hs2
    have hlv:=hc1.sup bl _ (hc0.sup bl _ hbl)
    have hgi:gl (0+(i:Int).toNat)=A8 (L.getD (i:Int).toNat default):=by rw [Nat.zero_add];exact hgl _ (by omega)
    conv=>whnf
    refine E1 ?_
    refine F2 hlv hgi ?_
    rw [hLi]
    have hml:((E i).map (·.2)).length=(E i).length:=List.length_map ..
    generalize hMe:(E i).map (·.2)=Mi at *
    rw [hml]
    cases hd1:decide ((k:Int)<((E i).length:Int))
    case' false =>
     have hbad:n<C→A8p p ms=[]:=fun hlt=>by
      obtain rfl:=C6 hd1 hk
      refine hnone (n+1) hlt ?_
      unfold R5
      rw [hs2]
      show A0v i si2=none
      unfold A0v
      rw [htk,List.drop_length];rfl
     conv=>whnf
    case' true =>
     have hk':=E4 hd1
     conv=>whnf
     refine E1 ?_
     rw [hcn]
     cases hd2:decide ((n:Int)<(C:Int))
     case' false =>
      have hbad:n<C→A8p p ms=[]:=fun hlt=>absurd hd2 (by rw [decide_eq_true (by omega)];simp)
      conv=>whnf
     case' true =>
      have hnC:=E4 hd2
      have hMk:Mi.getD (k:Int).toNat default=(at_ (E i) k).2:=by rw [←hMe,Int.toNat_natCast];exact E6 (fun e:QE=>e.2) _ hk'
      have hu:0≤(at_ (E i) k).2∧(at_ (E i) k).2.toNat<us.length:=hEr _ (B3 hk')
      have hdrop:(E i).drop k=at_ (E i) k::(E i).drop (k+1):=by
       rw [List.drop_eq_getElem_cons hk'];simp [at_,hk']
      have hul2:us.length=si2.used.length:=hm2.len.symm
      rcases hc0 with ⟨h0,rfl,rfl⟩ | ⟨h0,bt,g,hbt,rfl,rfl,hg⟩
      ·omega
      have hbs:=hc1.sup bt _ (A0 ..)
      conv=>whnf
      refine E1 ?_
      refine F2 hlv hgi ?_
      rw [hLi]
      refine E1 ?_
      rw [←hMk] at hu
      refine E1 ?_
      refine ldV hbs rfl (by omega) (v:=eB (si2.used.getD (Mi.getD (k:Int).toNat default).toNat default)) (by rw [Nat.zero_add];exact hg _ hu.2) ?_;conv=>whnf
      refine B9 (fun h5=>?_) (fun h5=>?_)<;>rw [h5]
      ·have hfr:si2.used.getD (Mi.getD (k:Int).toNat default).toNat default=false:=by simpa using h5
       have htk2:N8 si2.used (si2.es i)=(some (Mi.getD (k:Int).toNat default),(E i).drop (k+1)):=by
        rw [htk,hdrop,hMk]
        show (if si2.used.getD (at_ (E i) k).2.toNat default=true then _ else _)=_
        rw [if_neg (by rw [←hMk,hfr];simp)]
       have hs3:R5 i (n+1) si=some ⟨si2.used.set (Mi.getD (k:Int).toNat default).toNat true,Y4 si2.es i ((E i).drop (k+1)),si2.l++[(Mi.getD (k:Int).toNat default)]⟩:=by
        unfold R5
        rw [hs2]
        show A0v i si2=_
        unfold A0v
        rw [htk2]
       conv=>whnf
       refine E1 ?_
       refine stV hbs rfl (by omega) (v:=eB (si2.used.getD (Mi.getD (k:Int).toNat default).toNat default)) (by rw [Nat.zero_add];exact hg _ hu.2) (by rfl) ?_
       have hc2:=N3.write hc1 (y':=⟨4,1,us.length,C9 g (0+(Mi.getD (k:Int).toNat default).toNat) (eB true)⟩) (A0 ..)
       rw [B7] at hc2;conv=>whnf
       refine F3.app (q:=r3) (y:=(Mi.getD (k:Int).toNat default)) (L:=si2.l) rfl rfl rfl rfl rfl rfl (by show (_+1) * 8≤140737488355328;omega) hc2 (fun sv' s' hc'=>?_);conv=>whnf
       refine G7 ?_
       refine nx hk' ⟨sv',.own 1 bt 0 us.length,_,n+1,_,by rw [B8 (by omega),B8 (by omega)],hnC,hs3,?_,.inr ⟨h0,bt,_,hbt,rfl,rfl,fun j hj=>?_⟩,hc'⟩
       ·show N8 _ (Y4 si2.es i _ i)=_
        rw [H6]
       ·show C9 g (0+(Mi.getD (k:Int).toNat default).toNat) (eB true) j=eB ((si2.used.set (Mi.getD (k:Int).toNat default).toNat true).getD j default)
        rw [Nat.zero_add,A5v (by omega)]
        by_cases ej:j=(Mi.getD (k:Int).toNat default).toNat
        ·rw [if_pos ej,ej,A5]
        ·rw [if_neg ej,H3 ej];exact hg j hj
      ·have hfr:si2.used.getD (Mi.getD (k:Int).toNat default).toNat default=true:=by simpa using h5
       conv=>whnf
       refine G7 ?_
       refine nx hk' ⟨sv,.own 1 bt 0 us.length,_,n,si2,by rw [B8 (by omega)],hn,hs2,?_,.inr ⟨h0,bt,g,hbt,rfl,rfl,hg⟩,hc1⟩
       rw [htk,hdrop]
       show (if si2.used.getD (at_ (E i) k).2.toNat default=true then N8 si2.used ((E i).drop (k+1)) else _)=_
       rw [if_pos (by rw [←hMk];exact hfr)]
    all_goals
     refine E1 ?_
     rw [hcn]
     cases hd3:decide ((n:Int)<(C:Int))
     ·obtain rfl:n=C:=by have:=of_decide_eq_false hd3;omega
      conv=>whnf
      refine G7 ?_
      exact nx hi' ⟨sv,tv,s0,si2,by rw [B8 (by omega)],by rw [hfin];exact hs2,hc0,hc1⟩
     ·have hb:=hbad (E4 hd3)
      conv=>whnf
      exact ⟨.inl ⟨rfl,hb⟩,hc0.sup.trans hc1.sup⟩
abbrev RL (ls:List Int) (svl:AV):St→St→Prop:=fun s t=>ROut D8 2 1 (fun k=>eI (gI ls k)) ls.length s svl t
abbrev RA (all ls:List Int) (sva svl:AV):St→St→Prop:=fun s t=>ROut (RL ls svl) 3 1 (fun k=>eI (gI all k)) all.length s sva t
theorem B2F (ls:List Int) (svl:AV):J8 (RL ls svl):=D9 B2 _ _ _ _ _
theorem B7j (all ls:List Int) (sva svl:AV):J8 (RA all ls sva svl):=D9 (B2F ls svl) _ _ _ _ _
theorem RA.appA {all ls:List Int} {sva svl:AV} {s t:St} {y:Int} {x:AV} {k:KK} {g:Nat→AV} (h:RA all ls sva svl s t) (hs:Z2 1 t x=some (1,g)) (hg:g 0=eI y) (hb:(all.length+1) * 8≤140737488355328)
  (hk:∀ sva' t',RA (all++[y]) ls sva' svl s t'→k sva' t'):A5E T 29 sva x t k :=
 ROut.app (q:=r3) (f:=fun k=>eI (gI (all++[y]) k)) (B2F ls svl) rfl rfl rfl rfl hs (by rw [hg];show eI y=eI (gI _ _);rw [A7k]) hb (ROut.congr h fun k hk=>by show eI _=eI _;rw [M9 hk]) (fun sv' t' h'=>hk sv' t' (by
  show ROut _ _ _ _ (all++[y]).length _ _ _
  rw [List.length_append];exact h'))
theorem RA.appL {all ls:List Int} {sva svl:AV} {s t:St} {y:Int} {x:AV} {k:KK} {g:Nat→AV} (h:RA all ls sva svl s t) (hs:Z2 1 t x=some (1,g)) (hg:g 0=eI y) (hb:(ls.length+1) * 8≤140737488355328)
  (hk:∀ svl' t',RA all (ls++[y]) sva svl' s t'→k svl' t'):A5E T 41 svl x t k:=by
 obtain ⟨s0,hc,h⟩:=h
 refine ROut.app (q:=r2) (f:=fun k=>eI (gI (ls++[y]) k)) B2 rfl rfl rfl rfl hs (by rw [hg];show eI y=eI (gI _ _);rw [A7k]) hb (ROut.congr h fun k hk=>by show eI _=eI _;rw [M9 hk]) (fun sv' t' h'=>hk sv' t' ⟨s0,hc,?_⟩)
 show ROut _ _ _ _ (ls++[y]).length _ _ _
 rw [List.length_append];exact h'
theorem RA.start (s:St):RA [] [] .emp .emp s s:=ROut.start (ROut.start (D8.refl s) _ _ _) _ _ _
theorem RA.shift {all ls:List Int} {sva svl:AV} {s t:St} (h:RA all ls sva svl s t) (a b:AV):∃ t2,B0 [a,sva,svl,b] t [a,A8 all,A8 ls,b] t2∧D8 s t2:=by
 obtain ⟨t1,h1,h2⟩:=ROut.shift (B2F ls svl) h
 obtain ⟨t2,h3,h4⟩:=ROut.shift B2 h2
 exact ⟨t2,B0.cons (B0.keep _ _) (B0.cons h1 (B0.cons h3 (B0.keep _ _))),h4⟩
def A3j (u:List Bool) (l:List Int):List Bool:=l.foldl (fun u x=>u.set x.toNat true) u
theorem B6L (u:List Bool) (l:List Int):(A3j u l).length=u.length:=by
 unfold A3j
 induction l generalizing u with
 | nil=>rfl
 | cons x l ih=>rw [List.foldl_cons,ih,List.length_set]
theorem B6K {u:List Bool} {l:List Int} (hl:∀ x∈l,x.toNat<u.length) (j:Nat):(A3j u l).getD j default=true↔u.getD j default=true∨j∈l.map Int.toNat:=by
 unfold A3j
 induction l generalizing u with
 | nil=>simp
 | cons x l ih =>
  rw [List.foldl_cons,ih (fun y hy=>by rw [List.length_set];exact hl y (List.mem_cons_of_mem _ hy)),A5v (hl x (List.mem_cons_self ..)),List.map_cons,List.mem_cons]
  by_cases h:j=x.toNat
  ·simp [h]
  ·rw [if_neg h];simp [h]
theorem A8V {us:List B5} {l offs l' offs':List Int} (h:l.length=offs.length):∀ k,k≤offs'.length→k≤l'.length→D5 us (l++l') (offs++offs') (offs.length+k)=D5 (D5 us l offs offs.length) l' offs' k
 | 0,_,_=>by
  rw [Nat.add_zero]
  have:∀ n,n≤offs.length→D5 us (l++l') (offs++offs') n=D5 us l offs n:=fun n=>by
   induction n with
   | zero=>intro _;rfl
   | succ n ih =>
    intro hn
    unfold D5
    rw [ih (by omega),M9 (by omega),M9 (by omega)]
  exact this _ (Nat.le_refl _)
 | k+1,h1,h2=>by
  have ih:=A8V (us:=us) (l':=l') (offs':=offs') h k (by omega) (by omega)
  have e:∀ (a b:List Int),a.length=offs.length→gI (a++b) (offs.length+k)=gI b k:=fun a b ha=>by
   unfold gI
   rw [List.getD_eq_getElem?_getD,List.getD_eq_getElem?_getD,List.getElem?_append_right (by omega),ha,Nat.add_sub_cancel_left]
  rw [←Nat.add_assoc]
  unfold D5
  rw [ih,e l l' h,e offs offs' rfl]
structure C3j (p:B4) (us:List B5) (E:Nat→List QE) (D:Nat) (b:BSt) (ls:List Int):Prop where
 ok:BOk p us D b
 pre:A3s E p.parts.length ⟨b.ms.used,b.ms.es,[]⟩
 len:ls.length=b.taken.length
 out:b.out=D5 us b.taken ls ls.length
 sum:A7 ls=b.all
 pos:b.taken=[]∨0<b.all
 bnd:∀ k,k<ls.length→0≤gI ls k∧gI ls k≤(gU us (gI b.taken k).toNat).net
 nd:(b.taken.map Int.toNat).Nodup
 used:∀ x∈b.taken,b.ms.used.getD x.toNat default=true
theorem C3j.step {p:B4} (hp:A3q p) {us:List B5} (hu:E8 us) {E:Nat→List QE} {D:Nat} {b:BSt} {ls:List Int} (h:C3j p us E D b ls) {s:MSt} (hs:K8 p.parts p.parts.length ⟨b.ms.used,b.ms.es,[]⟩=some s) (hc:I0 us s.l>p.amount) :
  F0 us (C8 s.l)=I7 b.out (C8 s.l)∧C3j p us E D ⟨A2B b.out (C8 s.l) (I0 us s.l - p.amount),s,b.taken++C8 s.l,b.all+(I0 us s.l - p.amount)⟩ (ls++D7 (I0 us s.l - p.amount) (F0 us (C8 s.l))):=by
 obtain ⟨k1,k2,k3⟩:=h.ok.step hp hu hs hc
 have hok0:MOk us p.parts.length ⟨b.ms.used,b.ms.es,[]⟩:=⟨h.ok.ok.len,h.ok.ok.rng,h.ok.ok.srt,fun x hx=>by simp at hx⟩
 have hok:=MOk.parts hok0 (Nat.le_refl _) hs
 have htr:=W0.parts (W0.start b.ms.used b.ms.es) hok0 (Nat.le_refl _) hs
 have hpre:=h.pre.parts hok0 (Nat.le_refl _) hs
 have hN:F0 us (C8 s.l)=I7 b.out (C8 s.l):=by
  unfold F0 I7
  exact List.map_congr_left fun x hx=>by rw [h.ok.same _ (htr.free x (T1.1 hx))]
 have hW:=k1.weights
 rw [←hN] at hW
 obtain ⟨a1,a2,a3⟩:=R6 hW
 have hle:=fun {k} (hk:k<(F0 us (C8 s.l)).length)=>A2z hW (by have:=k1.le;rw [←hN] at this;exact this) hk
 have hnl:=A4l us (C8 s.l)
 have hlf:A2B b.out (C8 s.l) (I0 us s.l - p.amount)=D5 b.out (C8 s.l) (D7 (I0 us s.l - p.amount) (F0 us (C8 s.l))) (D7 (I0 us s.l - p.amount) (F0 us (C8 s.l))).length:=by
  unfold A2B;rw [←hN,a2,hnl]
 have hlen:=h.len
 generalize D7 (I0 us s.l - p.amount) (F0 us (C8 s.l))=X at *
 refine ⟨hN,⟨k2,hpre,?_,?_,?_,?_,?_,?_,?_⟩⟩
 ·show (ls++X).length=(b.taken++C8 s.l).length
  rw [List.length_append,List.length_append];omega
 ·show A2B _ _ _=D5 us (b.taken++C8 s.l) (ls++X) (ls++X).length
  rw [hlf,h.out,List.length_append,A8V h.len.symm X.length (Nat.le_refl _) (by omega)]
 ·show A7 (ls++X)=_
  rw [G6,h.sum,a1]
 ·refine .inr ?_
  show 0<b.all+(I0 us s.l - p.amount)
  have:=h.ok.off.pos
  omega
 ·intro k hk
  show 0≤gI (ls++X) k∧gI (ls++X) k≤(gU us (gI (b.taken++C8 s.l) k).toNat).net
  by_cases hkl:k<ls.length
  ·rw [M9 hkl,M9 (by omega)];exact h.bnd k hkl
  ·have e:∀ (a b:List Int),a.length=ls.length→gI (a++b) k=gI b (k - ls.length):=fun a b ha=>by
    unfold gI
    rw [List.getD_eq_getElem?_getD,List.getD_eq_getElem?_getD,List.getElem?_append_right (by omega),ha]
   rw [List.length_append] at hk
   rw [e ls X rfl,e b.taken _ hlen.symm]
   refine ⟨a3 _ (B3 (by omega)),?_⟩
   have h9:=hle (k:=k - ls.length) (by omega)
   rw [show gI (F0 us (C8 s.l)) (k - ls.length)=(gU us (gI (C8 s.l) (k - ls.length)).toNat).net from E6 (fun i:Int=>(gU us i.toNat).net) _ (by omega)] at h9
   exact h9
 ·show ((b.taken++C8 s.l).map Int.toNat).Nodup
  rw [List.map_append]
  refine List.nodup_append.2 ⟨h.nd,((A0J s.l).map Int.toNat).nodup_iff.2 htr.nd,fun x hx y hy e=>?_⟩
  subst e
  obtain ⟨u,hu1,rfl⟩:=List.mem_map.1 hx
  obtain ⟨w,hw1,hw2⟩:=List.mem_map.1 hy
  have f1:=h.used u hu1
  have f2:=htr.free w (T1.1 hw1)
  rw [hw2,f1] at f2;cases f2
 ·intro x hx
  show s.used.getD x.toNat default=true
  rw [htr.used]
  rcases List.mem_append.1 hx with hx | hx
  ·exact .inl (h.used x hx)
  ·exact .inr (List.mem_map_of_mem (T1.1 hx))
set_option maxHeartbeats 1000000 in
theorem B9g (p:B4) (us:List B5) (parts:List (List Int)) (hps:A0V p) (hright:H7 p=true) (hk:p.kind=4) (hp:A3q p) (hu:E8 us) (hl:parts.length=p.parts.length) (hm:∀ x∈parts,N0 us x) (st:St) :
  S P 168 [C0 p,D1 us,B1 1 A8 parts] st fun v st'=>v=.tuple [D1 (Q1 p us parts).1,eI (Q1 p us parts).2]∧st'=st:=by
 have hul:=hu.len
 have hn1:=hp.n1
 have hn8:=hp.n8
 have ha:=hp.amt
 have hme:∀ k,k<parts.length→N0 us (parts.getD k default):=fun k hk=>hm _ (B3 hk)
 have hst0:=A4V hu hl (fun k hk=>hme k hk)
 have hD:tot p.parts.length (G3 us parts).ms.es≤800000:=by
  have:=C2I (n:=p.parts.length) (B:=100000) (es:=(G3 us parts).ms.es) (fun i hi=>by
   show (E5 us (parts.getD i [])).length≤100000
   rw [A1x]
   exact Nat.le_trans (hme i (by omega)).len hul)
  have h8:p.parts.length * 100000≤8 * 100000:=Nat.mul_le_mul_right _ hn8
  omega
 refine A2a ?_
 refine G0 [3] Tryz.func168 ?_
 refine N3.apps (q:=B9e) (f:=fun k=>W8 (gU us k)) rfl rfl rfl rfl (A6M _ _ _ _) (fun i hi=>by rw [Nat.zero_add]) (by show (0+us.length) * 24≤_;omega) (N3.start _ _ _ st) (fun svS st1 hcS=>?_)
 have hsupS:=hcS.sup
 clear hcS
 conv=>whnf
 refine I2 (A6I p hps hright _) ?_
 rw [show (p.kind != 4)=false from by rw [hk];rfl];conv=>whnf
 rw [show ((parts.length:Int) != (p.parts.length:Int))=false from by rw [hl];simp];conv=>whnf
 refine lp parts.length [1,2,3,8,9,10] (fun i vs s=>∃ sv,vs=[D1 us,B1 1 A8 parts,.fptr (C0 p) 0,svS,sv,eI i]∧F3 29 1 A8 ((parts.take i).map fun m=>(E5 us m).map (·.2)) st1 sv s) ?_ ?_
 ·conv=>whnf
  exact ⟨.emp,rfl,F3.start _ _ _ _⟩
 ·rintro i vs s hi ⟨sv,rfl,hc⟩
  conv=>whnf
  cases hd:decide ((i:Int)<(parts.length:Int))
  case true =>
   have hi':=E4 hd
   have hmi:N0 us (parts.getD (i:Int).toNat default):=by rw [Int.toNat_natCast];exact hme i hi'
   conv=>whnf
   refine E1 ?_
   refine I2 (B6z us _ hu hmi _) ?_
   refine E1 ?_
   refine I2 (B7P us _ hu hmi _) ?_
   refine F3.app (q:=r29) (y:=(E5 us (parts.getD (i:Int).toNat default)).map (·.2)) rfl rfl rfl rfl rfl rfl (by show (_+1) * 24≤140737488355328;rw [List.length_map,List.length_take];omega) hc (fun sv' s' hc'=>?_);conv=>whnf
   refine G7 ?_
   exact nx hi' ⟨sv',by rw [B8 (by omega)],by rw [A2K hi'];exact hc'⟩
  obtain rfl:=C6 hd hi
  rw [List.take_length] at hc
  have hLl:(parts.map fun m=>(E5 us m).map (·.2)).length=parts.length:=List.length_map ..
  have hLg:∀ k,k<parts.length→(parts.map fun m=>(E5 us m).map (·.2)).getD k default=(E5 us (parts.getD k default)).map (·.2):=fun k hk=>E6 (fun m=>(E5 us m).map (·.2)) parts hk
  generalize (parts.map fun m=>(E5 us m).map (·.2))=L at *
  rcases hc with ⟨h0,_⟩ | ⟨h0,bl,gl,hbl,rfl,rfl,hgl⟩
  ·omega
  conv=>whnf
  refine mkO rfl rfl rfl (by show 1 * us.length≤_;omega) (by omega) (by rfl) (fun bu hbu=>?_)
  have hnlu:bl≠bu:=fun e=>by subst e;rw [A0] at hbu;cases hbu
  have hblS:(upd st1 bl ⟨29,1,L.length,gl⟩) bl=some ⟨29,1,L.length,gl⟩:=A0 ..
  have hsup2:D8 st (upd st1 bl ⟨29,1,L.length,gl⟩):=hsupS.upd hbl
  generalize upd st1 bl ⟨29,1,L.length,gl⟩=st2 at *
  conv=>whnf
  have hwb:∀ Y:R9,(upd st2 bu Y) bl=some ⟨29,1,L.length,gl⟩:=fun Y=>by rw [A6 hnlu];exact hblS
  refine ⟨[1,3,9,11,12,13],fun m vs s=>∃ (b:BSt) (ls:List Int) (sva svl:AV) (gu:Nat→AV) (f:Nat),m=tot p.parts.length b.ms.es∧vs=[D1 us,.fptr (C0 p) 0,.own 1 bl 0 L.length,.own 1 bu 0 us.length,sva,svl] ∧
   C3j p us (fun k=>E5 us (parts.getD k default)) (tot p.parts.length (G3 us parts).ms.es) b ls∧(tot p.parts.length b.ms.es<f∧A2x p us (tot p.parts.length (G3 us parts).ms.es+1) (G3 us parts)=A2x p us f b) ∧
   RA b.taken ls sva svl (upd st2 bu ⟨4,1,us.length,gu⟩) s∧∀ k,k<us.length→gu k=eB (b.ms.used.getD k default),?_,?_⟩
  ·conv=>whnf
   refine ⟨_,G3 us parts,[],.emp,.emp,_,_,rfl,rfl,?_,⟨Nat.lt_succ_self _,rfl⟩,RA.start _,fun k hk=>?_⟩
   ·refine ⟨hst0,fun k hk=>⟨[],rfl,fun e he=>by cases he⟩,rfl,rfl,rfl,.inl rfl,fun k hk=>absurd hk (by simp),List.nodup_nil,fun x hx=>by simp [G3] at hx⟩
   ·show eB false=eB ((List.replicate us.length false).getD k default)
    simp [List.getD_eq_getElem?_getD,hk]
  ·rintro m vs s ⟨b,ls,sva,svl,gu,f,rfl,rfl,hI,⟨hf1,hF⟩,hR,hgu⟩
   have hok0:MOk us p.parts.length ⟨b.ms.used,b.ms.es,[]⟩:=⟨hI.ok.ok.len,hI.ok.ok.rng,hI.ok.ok.srt,fun x hx=>by simp at hx⟩
   have hBA:=B7j b.taken ls sva svl
   have hsu:=hBA.sup hR
   have hsu1:=hsu bu _ (A0 ..)
   have hsl1:=hsu bl _ (hwb _)
   have hbl2:=hI.ok.len
   obtain ⟨f,rfl⟩:∃ g,f=g+1:=⟨f - 1,by omega⟩
   conv=>whnf
   refine C5 (C6e p hp us hul (fun k=>E5 us (parts.getD k default)) L (by omega) (fun k hk=>hLg k (by omega)) (fun k hk=>⟨by show (E5 _ _).length≤_;rw [A1x];exact Nat.le_trans (hme k (by omega)).len hul,fun e he=>A5Q (hme k (by omega)).rng he⟩) ⟨b.ms.used,b.ms.es,[]⟩ rfl hok0 hI.pre bu gu s bl gl hsl1 hgl hsu1 hgu) ?_
   have fin:A1G p us b=none→∀ t,RA b.taken ls sva svl (upd st2 bu ⟨4,1,us.length,gu⟩) t→∃ t2,B0 [D1 us,sva,svl,eB p.closes] t [D1 us,A8 b.taken,A8 ls,eB p.closes] t2∧D8 st t2 ∧
     S P 250 [D1 us,A8 b.taken,A8 ls,eB p.closes] t2 fun v st'=>v=.tuple [D1 (Q1 p us parts).1,eI (Q1 p us parts).2]∧st'=t2:=fun hno t ht=>by
    obtain ⟨t2,h1,h2⟩:=ht.shift (D1 us) (eB p.closes)
    have hPl:X3 us b.taken:=B2d hI.ok.mem hI.nd
    have hout:A2x p us (tot p.parts.length (G3 us parts).ms.es+1) (G3 us parts)=b:=by
     rw [hF];unfold A2x;rw [hno]
    have h0s:∀ x∈ls,0≤x:=fun x hx=>by obtain ⟨k,hk,rfl⟩:=E3 hx;exact (hI.bnd k hk).1
    have hE:A2b us b.taken ls p.closes=Q1 p us parts:=by
     unfold Q1 A2b
     simp only
     rw [hout,←hI.sum,hI.out]
     by_cases hz:A7 ls=0
     ·have ht0:b.taken=[]:=by
       rcases hI.pos with e | e
       ·exact e
       ·rw [←hI.sum] at e;omega
      rw [if_pos hz,A2n (A3d h0s hz) _ (Nat.le_refl _),ht0,hz]
      show (us,(0:Int))=(if p.closes=true then us else us,0)
      split<;>rfl
     ·rw [if_neg hz]
    have hsum:A7 ls≤10000000000000:=by
     have h5:=hI.ok.off.sum
     have:=hu.sum
     have:=C4 (hI.ok.off.ok hu).nets0
     rw [hI.sum];omega
    have hlen:=hI.len
    have htl:b.taken.length≤1000000:=by have:=hI.ok.len;omega
    refine ⟨t2,h1,(hsup2.upd hbu).trans h2,?_⟩
    rw [←hE]
    exact B3r us b.taken ls p.closes hu hPl htl (by omega) hI.bnd (by omega) t2
   cases hs:K8 p.parts p.parts.length ⟨b.ms.used,b.ms.es,[]⟩ with
   | none =>
    have hone:A8p p ⟨b.ms.used,b.ms.es,[]⟩=[]:=by unfold A8p;rw [hs]
    obtain ⟨t2,g1,g2,g3⟩:=fin (by unfold A1G;rw [hs]) s hR
    rw [hone];conv=>whnf
    refine I2 (A5Z us [] (by simp) (fun k hk=>absurd hk (by simp)) _) ?_
    refine I2 (A8A [] (by simp) (fun x hx=>by cases hx) (by decide) _) ?_
    refine F4 g1 (C5 g3 ?_);conv=>whnf
    exact ⟨rfl,g2⟩
   | some s1 =>
    have hok:=MOk.parts hok0 (Nat.le_refl _) hs
    have htr:=W0.parts (W0.start b.ms.used b.ms.es) hok0 (Nat.le_refl _) hs
    have hlen1:=A1A hp (Nat.le_refl _) hs
    have hpos:=A5l hp hs
    simp only [List.length_nil] at hlen1 hpos
    have hone:A8p p ⟨b.ms.used,b.ms.es,[]⟩=C8 s1.l:=by unfold A8p;rw [hs]
    have hcost:A7 (F0 us (C8 s1.l))=I0 us s1.l:=A6d ((A0J s1.l).map fun i:Int=>(gU us i.toNat).net)
    have hcb:=A0M hu s1.l hok.mem
    have hSl:(C8 s1.l).length=s1.l.length:=U8 _
    have hSr:∀ k,k<(C8 s1.l).length→0≤gI (C8 s1.l) k∧(gI (C8 s1.l) k).toNat<us.length:=fun k hk=>hok.mem _ (T1.1 (B3 hk))
    have hnl:=A4l us (C8 s1.l)
    have hn0:∀ x∈F0 us (C8 s1.l),0≤x:=fun x hx=>by obtain ⟨i,hi,rfl⟩:=List.mem_map.1 hx;exact hu.at0 _
    rw [hone];conv=>whnf
    refine I2 (A5Z us (C8 s1.l) (by omega) hSr _) ?_
    refine C5 (A8A _ (by omega) hn0 (by rw [hcost];omega) _) ?_
    rw [hcost];conv=>whnf
    rw [show (((C8 s1.l).length:Int)==0)=false from beq_false_of_ne (by omega)];conv=>whnf
    refine B9 (fun hc=>?_) (fun hc=>?_)<;>rw [hc]
    ·have hc':=of_decide_eq_true hc
     obtain ⟨t2,g1,g2,g3⟩:=fin (by unfold A1G;rw [hs];simp only;rw [if_neg (by omega)]) s hR
     conv=>whnf
     refine F4 g1 (C5 g3 ?_);conv=>whnf
     exact ⟨rfl,g2⟩
    ·have hc':I0 us s1.l>p.amount:=by have:=of_decide_eq_false hc;omega
     obtain ⟨hN,hI2⟩:=hI.step hp hu hs hc'
     obtain ⟨k1,k2,k3⟩:=hI.ok.step hp hu hs hc'
     have hW:=k1.weights
     rw [←hN] at hW
     have hXl:=(R6 hW).2.1
     have hstep:A2x p us (f+1) b=A2x p us f ⟨A2B b.out (C8 s1.l) (I0 us s1.l - p.amount),s1,b.taken++C8 s1.l,b.all+(I0 us s1.l - p.amount)⟩:=by
      conv=>lhs;unfold A2x A1G
      rw [hs];simp only;rw [if_pos hc']
     have w1:IntKind.i64.wrap (I0 us s1.l - p.amount)=I0 us s1.l - p.amount:=A9 (by omega) (by omega)
     have hkl:=k2.len
     simp only at hkl k3
     rw [List.length_append] at hkl
     have hll:=hI.len
     conv=>whnf
     refine ⟨[],[],List.range 13,by kernel_rfl,?_⟩;conv=>whnf
     refine X9 (A5Z us (C8 s1.l) (by omega) hSr _) ?_
     rw [w1]
     refine ⟨_,N4 (A6K _ (F0 us (C8 s1.l)) hW _),?_⟩
     generalize D7 (I0 us s1.l - p.amount) (F0 us (C8 s1.l))=X at *
     conv=>whnf
     refine lp (C8 s1.l).length [1,3,9,11,12,13,14,16,18] (fun i vs s=>∃ (sva svl:AV) (g:Nat→AV),vs=[D1 us,.fptr (C0 p) 0,.own 1 bl 0 L.length,.own 1 bu 0 us.length,sva,svl,A8 (C8 s1.l),A8 X,eI i] ∧
      RA (b.taken++(C8 s1.l).take i) (ls++X.take i) sva svl (upd st2 bu ⟨4,1,us.length,g⟩) s∧∀ k,k<us.length→g k=eB ((A3j b.ms.used ((C8 s1.l).take i)).getD k default)) ?_ ?_
     ·conv=>whnf
      exact ⟨sva,svl,gu,rfl,by rw [List.take_zero,List.take_zero,List.append_nil,List.append_nil];exact hR,hgu⟩
     ·clear hR hgu fin hsu hsu1 hsl1 hBA
      rintro i vs s hi ⟨sva,svl,g,rfl,hR,hg⟩
      have hBA:=B7j (b.taken++(C8 s1.l).take i) (ls++X.take i) sva svl
      conv=>whnf
      cases hd:decide ((i:Int)<((C8 s1.l).length:Int))
      ·obtain rfl:=C6 hd hi
       rw [List.take_length] at hR hg
       rw [List.take_of_length_le (show X.length≤(C8 s1.l).length by omega)] at hR;conv=>whnf
       refine G7 ?_
       refine ⟨tot p.parts.length s1.es,k3,_,_,sva,svl,g,f,rfl,rfl,hI2,⟨by show tot p.parts.length s1.es<f;omega,by rw [←hstep];exact hF⟩,hR,fun k hk=>?_⟩
       rw [hg k hk]
       congr 1
       show (A3j b.ms.used (C8 s1.l)).getD k default=s1.used.getD k default
       rw [←Bool.coe_iff_coe,B6K (fun x hx=>by rw [hI.ok.ok.len];exact (hok.mem x (T1.1 hx)).2),htr.used]
       constructor
       ·rintro (h | h)
        ·exact .inl h
        ·obtain ⟨y,hy,rfl⟩:=List.mem_map.1 h;exact .inr (List.mem_map_of_mem (T1.1 hy))
       ·rintro (h | h)
        ·exact .inl h
        ·obtain ⟨y,hy,rfl⟩:=List.mem_map.1 h;exact .inr (List.mem_map_of_mem (T1.2 hy))
      ·have hi':=E4 hd
       have hr:=hSr i hi'
       have hg2:=hBA.sup hR bu _ (A0 ..)
       have tk:∀ (l:List Int),i<l.length→l.take (i+1)=l.take i++[gI l i]:=fun l h=>J0 h
       conv=>whnf
       refine E1 ?_
       refine ⟨rfl,⟨by show 0≤gI (C8 s1.l) i;omega,by show gI (C8 s1.l) i<(us.length:Int);omega⟩,?_⟩;conv=>whnf
       refine stV hg2 rfl (by show 0+(gI (C8 s1.l) i).toNat<us.length;omega) (v:=eB ((A3j b.ms.used ((C8 s1.l).take i)).getD (gI (C8 s1.l) i).toNat default)) (by show g (0+(gI (C8 s1.l) i).toNat)=_;rw [Nat.zero_add];exact hg _ hr.2) (by rfl) ?_
       have hR2:=hBA.write (y':=⟨4,1,us.length,C9 g (0+(gI (C8 s1.l) i).toNat) (eB true)⟩) hR (A0 ..)
       rw [B7] at hR2
       have hgn:∀ k,k<us.length→C9 g (0+(gI (C8 s1.l) i).toNat) (eB true) k=eB ((A3j b.ms.used ((C8 s1.l).take (i+1))).getD k default):=fun k hk=>by
        have e:A3j b.ms.used ((C8 s1.l).take (i+1))=(A3j b.ms.used ((C8 s1.l).take i)).set (gI (C8 s1.l) i).toNat true:=Q3 hi' _ _
        rw [e,Nat.zero_add,A5v (by rw [B6L,hI.ok.ok.len];exact hr.2)]
        by_cases ej:k=(gI (C8 s1.l) i).toNat
        ·rw [if_pos ej,ej,A5]
        ·rw [if_neg ej,H3 ej];exact hg k hk
       conv=>whnf
       refine ⟨[4,5,6,11,12,13],[],[],.qui 0 (.qui 1 (.qui 2 (.qui 3 (.qui 7 (.qui 8 (.qui 9 (.qui 10 (.two 4 11 (.two 5 11 (.two 6 11 (.gen 11 (.gen 12 (.gen 13 (.qui 14 (.qui 15 .done))))) (.two 6 12 (.gen 12 (.gen 13 (.qui 14 (.qui 15 .done)))) (.gen 6 (.gen 13 (.qui 14 (.qui 15 .done)))))) (.two 5 12 (.two 6 12 (.gen 12 (.gen 13 (.qui 14 (.qui 15 .done)))) (.gen 6 (.gen 13 (.qui 14 (.qui 15 .done))))) (.gen 5 (.gen 6 (.gen 13 (.qui 14 (.qui 15 .done))))))) (.two 4 12 (.two 5 12 (.two 6 12 (.gen 12 (.gen 13 (.qui 14 (.qui 15 .done)))) (.gen 6 (.gen 13 (.qui 14 (.qui 15 .done))))) (.gen 5 (.gen 6 (.gen 13 (.qui 14 (.qui 15 .done)))))) (.gen 4 (.gen 5 (.gen 6 (.gen 13 (.qui 14 (.qui 15 .done))))))))))))))),by kernel_rfl,?_⟩;conv=>whnf
       refine E1 ?_
       refine E1 ?_
       repeat' (refine And.intro ?_ ?_<;>(conv=>whnf))
       all_goals refine RA.appA (all:=b.taken++(C8 s1.l).take i) (ls:=ls++X.take i) (y:=gI (C8 s1.l) i) hR2 rfl rfl (by rw [List.length_append,List.length_take];omega) (fun sva' t' hR3=>?_)
       all_goals (conv=>whnf)
       all_goals refine RA.appL (all:=b.taken++(C8 s1.l).take i++[gI (C8 s1.l) i]) (ls:=ls++X.take i) (y:=gI X i) hR3 rfl rfl (by rw [List.length_append,List.length_take];omega) (fun svl' t'' hR4=>?_)
       all_goals (conv=>whnf)
       all_goals refine ⟨rfl,?_⟩
       all_goals (conv=>whnf)
       all_goals exact nx hi' ⟨sva',svl',C9 g (0+(gI (C8 s1.l) i).toNat) (eB true),by rw [B8 (by omega)],by rw [tk _ hi',tk _ (by omega),←List.append_assoc,←List.append_assoc];exact hR4,hgn⟩
def A0i (l:List Int):List Int:=l.foldl (fun a x=>if x∈a then a else a++[x]) []
theorem B6s (l:List Int) (x:Int):A0i (l++[x])=if x∈A0i l then A0i l else A0i l++[x]:=by
 unfold A0i;rw [List.foldl_append];rfl
theorem B0o (l:List Int):(A0i l).Nodup∧∀ x,x∈A0i l↔x∈l:=by
 have:∀ (l a:List Int),a.Nodup→(l.foldl (fun a x=>if x∈a then a else a++[x]) a).Nodup∧∀ x,x∈l.foldl (fun a x=>if x∈a then a else a++[x]) a↔x∈a∨x∈l:=by
  intro l
  induction l with
  | nil=>intro a h;exact ⟨h,fun x=>by simp⟩
  | cons y l ih =>
   intro a h
   rw [List.foldl_cons]
   split
   ·rename_i hy
    obtain ⟨h1,h2⟩:=ih a h
    refine ⟨h1,fun x=>?_⟩
    rw [h2,List.mem_cons]
    constructor
    ·rintro (h3 | h3)
     ·exact .inl h3
     ·exact .inr (.inr h3)
    ·rintro (h3 | rfl | h3)
     ·exact .inl h3
     ·exact .inl hy
     ·exact .inr h3
   ·rename_i hy
    obtain ⟨h1,h2⟩:=ih (a++[y]) (List.nodup_append.2 ⟨h,by simp,fun p hp q hq e=>by rw [List.mem_singleton] at hq;subst hq;subst e;exact hy hp⟩)
    refine ⟨h1,fun x=>?_⟩
    rw [h2,List.mem_append,List.mem_singleton,List.mem_cons,or_assoc]
 obtain ⟨h1,h2⟩:=this l [] List.nodup_nil
 exact ⟨h1,fun x=>by rw [show x∈A0i l↔x∈([]:List Int)∨x∈l from h2 x];simp⟩
theorem B4d (l:List Int):V6 l=((List.range l.length).filter fun k=>k==0||gI l k != gI l (k - 1)).map (gI l):=by
 unfold V6 Go.Lib.compactUpTo
 have hg:∀ k,k<l.length→l.toArray[k]! = gI l k:=fun k hk=>by rw [getElem!_pos _ k (by simpa using hk)];simp [gI,hk]
 have hf:(List.range l.length).filter (Go.Lib.keeps l.toArray)=(List.range l.length).filter fun k=>k==0||gI l k != gI l (k - 1):=by
  refine List.filter_congr fun k hk=>?_
  have:=List.mem_range.1 hk
  unfold Go.Lib.keeps
  rw [hg k this,hg (k - 1) (by omega)]
  rw [←Bool.coe_iff_coe,decide_eq_true_eq,Bool.or_eq_true,beq_iff_eq,bne_iff_ne]
 rw [hf]
 exact List.map_congr_left fun k hk=>hg k (List.mem_range.1 (List.mem_filter.1 hk).1)
theorem B5O {l:List Int} (hs:l.Pairwise (·≤·)):(V6 l).Nodup∧∀ x,x∈V6 l↔x∈l:=by
 refine ⟨?_,fun x=>⟨B1O,fun hx=>?_⟩⟩
 ·rw [B4d]
  refine List.Pairwise.map _ (fun a b h=>h) ?_ 
  refine List.Pairwise.imp_of_mem (R:=(·<·)) ?_ ((List.pairwise_lt_range (n:=l.length)).filter _)
  intro a b ha hb hab
  obtain ⟨h1,h2⟩:=List.mem_filter.1 hb
  have h3:=List.mem_range.1 h1
  rw [Bool.or_eq_true,beq_iff_eq,bne_iff_ne] at h2
  have h4:gI l (b - 1)≤gI l b:=B2f hs (by omega) h3
  have h5:gI l a≤gI l (b - 1):=by
   rcases Nat.eq_or_lt_of_le (show a≤b - 1 by omega) with e | e
   ·rw [e];exact Int.le_refl _
   ·exact B2f hs e (by omega)
  show gI l a≠gI l b
  rcases h2 with h2 | h2<;>omega
 ·rw [B4d,List.mem_map]
  obtain ⟨k,hk,rfl⟩:=E3 hx
  induction k with
  | zero=>exact ⟨0,List.mem_filter.2 ⟨List.mem_range.2 hk,rfl⟩,rfl⟩
  | succ k ih =>
   by_cases e:gI l (k+1)=gI l k
   ·have:=ih (by omega) (by rw [show l.getD k default=l.getD (k+1) default from e.symm];exact hx)
    obtain ⟨j,h1,h2⟩:=this
    exact ⟨j,h1,h2.trans e.symm⟩
   ·exact ⟨k+1,List.mem_filter.2 ⟨List.mem_range.2 hk,by rw [Bool.or_eq_true,bne_iff_ne];exact .inr e⟩,rfl⟩
theorem C1s (us:List B5) (l:List Int):A1q us (V6 (C8 l))=A1q us (A0i l):=by
 obtain ⟨h1,h2⟩:=B5O (B5q l)
 obtain ⟨h3,h4⟩:=B0o l
 have hp:(V6 (C8 l)).Perm (A0i l):=(List.perm_ext_iff_of_nodup h1 h3).2 fun x=>by rw [h2,h4,T1]
 exact A6d (hp.map _)
theorem B8U (l:List Int):(A0i l).length≤l.length:=by
 have:∀ (l a:List Int),(l.foldl (fun a x=>if x∈a then a else a++[x]) a).length≤a.length+l.length:=by
  intro l
  induction l with
  | nil=>intro a;simp
  | cons y l ih =>
   intro a
   rw [List.foldl_cons]
   split
   ·have:=ih a;rw [List.length_cons];omega
   ·have:=ih (a++[y]);rw [List.length_append,List.length_cons,List.length_nil] at this;rw [List.length_cons];omega
 have h:=this l []
 rw [List.length_nil,Nat.zero_add] at h;exact h
structure PSm (p:B4):Prop where
 sm:A0V p
 right:H7 p=true
 fit:P2 p
set_option maxHeartbeats 400000 in
theorem C6d (items:List Ab.Item) (us:List B5) (pr:B4) (hp:PSm pr) (hk:pr.kind≠7) (hu:A6j items us) (st:St) :
  S P 91 [C0 pr,D1 us,B1 4 F1 items] st fun v st'=>(∃ x,v=.tuple [D1 x,eI (X8 items us pr).2]∧(0<(X8 items us pr).2→x=(X8 items us pr).1))∧st'=st:=by
 have ok:=A2X hp.right
 have hul:=hu.ok.len
 have hB:=ok.bun
 by_cases h4:pr.kind=4
 ·have hW:X8 items us pr=A0y items us pr:=by unfold X8;rw [if_pos h4]
  rw [hW]
  obtain ⟨hbn,hbs⟩:=hB h4
  have hn8:=hbn.n8
  have hpl:(P8 items us pr).length=pr.parts.length:=List.length_map ..
  have hbP:A0y items us pr=if A1q us (A0i (Z5 items us pr pr.parts.length))<pr.least then ([],0) else Q1 pr us (P8 items us pr):=by unfold A0y;rw [C1s]
  refine A2a ?_
  refine G0 [3] Tryz.func91 ?_
  rw [show (pr.kind != 4)=false from by rw [h4];rfl];conv=>whnf
  refine mkO rfl rfl rfl (by show 1 * us.length≤_;omega) (by omega) (by rfl) (fun bs hbs0=>?_);conv=>whnf
  refine lp pr.parts.length [1,2,3,9,10,11,12] (fun i vs s=>∃ sv g,vs=[D1 us,B1 4 F1 items,.fptr (C0 pr) 0,sv,.own 1 bs 0 us.length,eI (A1q us (A0i (Z5 items us pr i))),eI i]∧F3 29 1 A8 ((P8 items us pr).take i) (upd st bs ⟨4,1,us.length,g⟩) sv s∧∀ k,k<us.length→g k=eB (decide ((k:Int)∈Z5 items us pr i))) ?_ ?_
  ·conv=>whnf
   exact ⟨.emp,_,rfl,F3.start _ _ _ _,fun k hk=>by rw [show Z5 items us pr 0=[] from rfl];simp;rfl⟩
  ·rintro i vs s hi ⟨sv,g,rfl,hc,hg⟩
   conv=>whnf
   cases hd:decide ((i:Int)<(pr.parts.length:Int))
   ·obtain rfl:=C6 hd hi
    rw [←hpl,List.take_length] at hc;conv=>whnf
    refine B9 (fun h1=>?_) (fun h1=>?_)<;>rw [h1]
    ·have:=of_decide_eq_true h1
     rw [if_pos (by omega)] at hbP;conv=>whnf
     exact ⟨⟨us,by rw [hbP];rfl,fun h=>by rw [hbP] at h;exact absurd h (by decide)⟩,((D8.refl st).upd hbs0).trans hc.sup⟩
    ·have:=of_decide_eq_false h1
     rw [if_neg (by omega)] at hbP;conv=>whnf
     refine F4 (B0.cons (t:=s) (B0.keep _ _) (B0.cons (t:=s) (B0.keep _ _) hc.shift)) (C5 (B9g pr us (P8 items us pr) hp.sm hp.right h4 hbn hu.ok hpl (fun x hx=>by obtain ⟨q,_,rfl⟩:=List.mem_map.1 hx;exact A1e _ _ _) _) ?_);conv=>whnf
     exact ⟨⟨_,by rw [hbP];rfl,fun _=>by rw [hbP]⟩,(D8.refl st).upd hbs0⟩
   ·have hi':=E4 hd
    have hsc:(pr.parts.getD (i:Int).toNat default).scope.skus.length≤20∧(pr.parts.getD (i:Int).toNat default).scope.cats.length≤20:=hbs _ (B3 hi')
    have hsu:=A7Z items us pr hi'
    have hAl:=A9E items us pr i hi
    have hAm:=fun {x} (hx:x∈Z5 items us pr i)=>A9F hx
    have hml:=A2p (pr.parts.getD (i:Int).toNat default).scope items us us.length
    have hmo:=A1e (pr.parts.getD (i:Int).toNat default).scope items us
    have hpt:(P8 items us pr).take (i+1)=(P8 items us pr).take i++[J3 (pr.parts.getD (i:Int).toNat default).scope items us us.length]:=by
     rw [J0 (by omega)];congr 2
     exact E6 (fun x:S3=>J3 x.scope items us us.length) pr.parts hi'
    rw [show J3 (pr.parts.getD i default).scope items us us.length=J3 (pr.parts.getD (i:Int).toNat default).scope items us us.length from rfl] at hsu
    have h8:i * us.length≤7 * 100000:=Nat.mul_le_mul (by omega) hul
    conv=>whnf
    refine E1 ?_
    refine C5 (B7Q us items (pr.parts.getD (i:Int).toNat default).scope (by omega) (by omega) hul hu.line _) ?_
    generalize J3 (pr.parts.getD (i:Int).toNat default).scope items us us.length=m at *
    conv=>whnf
    refine F3.app (q:=r29) (y:=m) rfl rfl rfl rfl rfl rfl (by show (_+1) * 24≤140737488355328;rw [List.length_take];omega) hc (fun sv s hc=>?_)
    rw [←hpt] at hc;conv=>whnf
    refine lp m.length [1,2,3,9,10,11,12,13,14] (fun k vs s=>∃ g,vs=[D1 us,B1 4 F1 items,.fptr (C0 pr) 0,sv,.own 1 bs 0 us.length,eI (A1q us (A0i (Z5 items us pr i++m.take k))),eI i,A8 m,eI k]∧F3 29 1 A8 ((P8 items us pr).take (i+1)) (upd st bs ⟨4,1,us.length,g⟩) sv s∧∀ j,j<us.length→g j=eB (decide ((j:Int)∈Z5 items us pr i++m.take k))) ?_ ?_
    ·conv=>whnf
     exact ⟨g,by rw [List.take_zero,List.append_nil];rfl,hc,by rw [List.take_zero,List.append_nil];exact hg⟩
    ·clear hc hg
     rintro k vs s hk ⟨g,rfl,hc,hg⟩
     conv=>whnf
     cases hd2:decide ((k:Int)<(m.length:Int))
     ·obtain rfl:=C6 hd2 hk
      rw [List.take_length,←hsu] at hg;conv=>whnf
      refine G7 ?_
      exact nx hi' ⟨sv,g,by rw [B8 (by omega),List.take_length,←hsu],hc,hg⟩
     ·have hk':=E4 hd2
      have hr:0≤m.getD (k:Int).toNat default∧(m.getD (k:Int).toNat default).toNat<us.length:=hmo.rng k hk'
      have hbk:=hc.sup bs _ (A0 ..)
      have hP:Z5 items us pr i++m.take (k+1)=(Z5 items us pr i++m.take k)++[m.getD (k:Int).toNat default]:=by rw [J0 hk',List.append_assoc];rfl
      have hgk:g (0+(m.getD (k:Int).toNat default).toNat)=eB (decide (m.getD (k:Int).toNat default∈Z5 items us pr i++m.take k)):=by
       rw [Nat.zero_add,hg _ hr.2];congr 2;rw [Int.toNat_of_nonneg hr.1]
      have hmem:∀ x∈Z5 items us pr i++m.take k,0≤x∧x.toNat<us.length:=fun x hx=>by
       rcases List.mem_append.1 hx with hx | hx
       ·exact A9F hx
       ·obtain ⟨j,hj,rfl⟩:=E3 (List.take_subset _ _ hx);exact hmo.rng j hj
      obtain ⟨o1,o2⟩:=B0o (Z5 items us pr i++m.take k)
      have hcb:=A0M hu.ok (A0i (Z5 items us pr i++m.take k)) (fun x hx=>hmem x ((o2 x).1 hx))
      have hol:=B8U (Z5 items us pr i++m.take k)
      rw [List.length_append,List.length_take] at hol
      have hcl:A1q us (A0i (Z5 items us pr i++m.take k))=I0 us (A0i (Z5 items us pr i++m.take k)):=rfl
      have hsn:=B6s (Z5 items us pr i++m.take k) (m.getD (k:Int).toNat default)
      have hdm:decide (m.getD (k:Int).toNat default∈A0i (Z5 items us pr i++m.take k))=decide (m.getD (k:Int).toNat default∈Z5 items us pr i++m.take k):=decide_eq_decide.2 (o2 _)
      have hn0:0≤(gU us (m.getD (k:Int).toNat default).toNat).net:=hu.ok.at0 _
      have hn1:(gU us (m.getD (k:Int).toNat default).toNat).net≤10000000000000:=hu.ok.le (B3 hr.2)
      generalize Z5 items us pr i++m.take k=A at *
      conv=>whnf
      refine E1 ?_
      refine E1 ?_
      refine F2 hbk hgk ?_
      refine B9 (fun h5=>?_) (fun h5=>?_)<;>rw [h5]
      ·have hnot:¬ m.getD (k:Int).toNat default∈A:=by simpa using h5
       rw [if_neg (fun h=>hnot ((o2 _).1 h))] at hsn
       have hadd:A1q us (A0i (A++[m.getD (k:Int).toNat default]))=A1q us (A0i A)+(gU us (m.getD (k:Int).toNat default).toNat).net:=by
        rw [hsn];exact B1Q us _ _
       have w:IntKind.i64.wrap (A1q us (A0i A)+(gU us (m.getD (k:Int).toNat default).toNat).net)=A1q us (A0i (A++[m.getD (k:Int).toNat default])):=by rw [hadd];exact A9 (by omega) (by omega)
       conv=>whnf
       refine E1 ?_
       refine E1 ?_
       refine stU hbk hgk ?_
       have hc2:=N3.write hc (y':=⟨4,1,us.length,C9 g (0+(m.getD (k:Int).toNat default).toNat) (eB true)⟩) (A0 ..)
       rw [B7] at hc2;conv=>whnf
       refine E1 ?_
       refine E1 ?_
       refine G7 ?_
       refine nx hk' ⟨C9 g (0+(m.getD (k:Int).toNat default).toNat) (eB true),by rw [B8 (by omega),hP,←w],hc2,fun j hj=>?_⟩
       rw [hP,Nat.zero_add]
       by_cases ej:j=(m.getD (k:Int).toNat default).toNat
       ·rw [ej,A5,decide_eq_true (by rw [List.mem_append,List.mem_singleton];right;omega)]
       ·rw [H3 ej,hg j hj]
        congr 1
        refine decide_eq_decide.2 ?_
        rw [List.mem_append,List.mem_singleton]
        exact ⟨.inl,fun h=>h.resolve_right (by omega)⟩
      ·have hin:m.getD (k:Int).toNat default∈A:=by simpa using h5
       rw [if_pos ((o2 _).2 hin)] at hsn;conv=>whnf
       refine G7 ?_
       refine nx hk' ⟨g,by rw [B8 (by omega),hP,hsn],hc,fun j hj=>?_⟩
       rw [hP,hg j hj]
       congr 1
       refine decide_eq_decide.2 ?_
       rw [List.mem_append,List.mem_singleton]
       exact ⟨.inl,fun h=>h.elim id (fun e=>by rw [e];exact hin)⟩
 ·have hW:X8 items us pr=A1I items us pr:=by unfold X8;rw [if_neg h4]
  have hmo:=A1e pr.scope items us
  have hml:=A2p pr.scope items us us.length
  have hS:A1I items us pr=if A1q us (J3 pr.scope items us us.length)<pr.least then ([],0) else if pr.kind=3 then U1 pr us (J3 pr.scope items us us.length) else X4 pr us (J3 pr.scope items us us.length):=rfl
  obtain ⟨hn0,hns⟩:=B0n hu.ok hmo
  rw [hW]
  refine G0 [3] Tryz.func91 ?_
  rw [show (pr.kind != 4)=true from bne_iff_ne.2 h4];conv=>whnf
  refine C5 (B7Q us items pr.scope (by have:=ok.skus;omega) (by have:=ok.cats;omega) hul hu.line _) ?_
  generalize J3 pr.scope items us us.length=m at *
  conv=>whnf
  refine ⟨[],[],List.range 7,by kernel_rfl,?_⟩;conv=>whnf
  refine X9 (A5Z us m (by omega) hmo.rng _) ?_
  refine X9 (A8A (F0 us m) (by rw [A4l];omega) hn0 (by omega) _) ?_
  refine B9 (fun h1=>?_) (fun h1=>?_)<;>rw [h1]
  ·have h2:A1q us m<pr.least:=of_decide_eq_true h1
   rw [if_pos h2] at hS;conv=>whnf
   exact ⟨⟨us,by rw [hS];rfl,fun h=>by rw [hS] at h;exact absurd h (by decide)⟩,rfl⟩
  ·have h2:¬ A1q us m<pr.least:=fun h=>absurd h (Int.not_lt.2 (Int.not_lt.1 (of_decide_eq_false h1)))
   rw [if_neg h2] at hS;conv=>whnf
   by_cases h3:pr.kind=3
   ·rw [if_pos h3] at hS
    rw [show (pr.kind==3)=true from beq_iff_eq.2 h3];conv=>whnf
    refine I2 (B9h pr us m hp.sm hp.right h3 (ok.buy h3) hu.ok hmo _) ?_
    exact ⟨⟨_,by rw [hS];rfl,fun _=>by rw [hS]⟩,rfl⟩
   ·rw [if_neg h3] at hS
    rw [show (pr.kind==3)=false from beq_false_of_ne h3];conv=>whnf
    refine I2 (C1O pr us m (ok.ask hp.fit (by have:=ok.kind;omega)) hp.sm hu.ok hmo _) ?_
    exact ⟨⟨_,by rw [hS];rfl,fun _=>by rw [hS]⟩,rfl⟩
theorem B5g (L:List D6) (g:D6) (hl:L.length≤1000) (sv:AV) (st:St) (h:(sv=.emp∧L=[])∨∃ b f,sv=.own 1 b 0 L.length∧st b=some ⟨9,1,L.length,f⟩∧∀ k,k<L.length→f k=eS (L.getD k default)) :
  S P 90 [sv,eS g] st fun v st'=>v=.bool (!L7 g&&L.any fun y=>y.toList==g.toList)∧st'=st:=by
 rcases h with ⟨rfl,rfl⟩ | ⟨b,f,rfl,hb,hf⟩
 ·refine G0 [] Tryz.func90 ?_
  refine A4I [0,1,5] ?_;conv=>whnf
  intro I;conv=>whnf
  exact ⟨by simp [A9e],rfl⟩
 ·refine G0 [] Tryz.func90 ?_
  refine lp L.length [0,1,5] (fun i vs s=>(∀ k,k<i→(!L7 g&&((L.getD k default).toList==g.toList))=false)∧vs=[.own 1 b 0 L.length,eS g,eI i]∧s=st) ?_ ?_
  ·conv=>whnf
   exact ⟨fun k hk=>absurd hk (by omega),rfl,rfl⟩
  ·rintro i vs st' hi ⟨hok,rfl,rfl⟩
   conv=>whnf
   cases hd:decide ((i:Int)<(L.length:Int))
   ·obtain rfl:=C6 hd hi
    conv=>whnf
    refine ⟨?_,rfl⟩
    have e:(!L7 g&&L.any fun y=>y.toList==g.toList)=false:=by
     cases hn:L7 g
     ·rw [Bool.not_false,Bool.true_and]
      refine List.any_eq_false.2 fun x hx=>?_
      obtain ⟨k,hk,rfl⟩:=E3 hx
      have:=hok k hk
      rw [hn,Bool.not_false,Bool.true_and] at this
      rw [this];simp
     ·rfl
    rw [e];rfl
   ·have hi':=E4 hd
    have hfi:f (0+(i:Int).toNat)=eS (L.getD (i:Int).toNat default):=by rw [Nat.zero_add];exact hf _ (by omega)
    have yes:=fun h=>K0 hok (i:=i) h
    have nl:L7 g=(g.toList==(⟨#[]⟩:D6).toList):=rfl
    conv=>whnf
    refine B9 (fun h1=>?_) (fun h1=>?_)<;>rw [h1]
    ·have hn:L7 g=false:=by rw [nl];simpa using h1
     conv=>whnf
     refine E1 ?_
     refine F2 hb hfi ?_
     refine B9 (fun h2=>?_) (fun h2=>?_)<;>rw [h2]
     ·conv=>whnf
      refine ⟨?_,rfl⟩
      rw [hn,List.any_eq_true.2 ⟨_,B3 hi',h2⟩];rfl
     ·conv=>whnf
      refine G7 ?_
      exact nx hi' ⟨yes (by rw [hn];exact h2),by rw [B8 (by omega)],rfl⟩
    ·have hn:L7 g=true:=by rw [nl];simpa using h1
     conv=>whnf
     refine G7 ?_
     exact nx hi' ⟨yes (by rw [hn];rfl),by rw [B8 (by omega)],rfl⟩
structure B3S (l:List B4):Prop where
 few:l.length≤60
 right:∀ p∈l,H7 p=true
 ids:∀ i j,i<j→j<l.length→((l.getD i default).id.toList==(l.getD j default).id.toList)=false
theorem B0z {l:List B4} (h:promosC l=true):B3S l:=by
 unfold promosC K7 at h
 simp only [Bool.and_eq_true,decide_eq_true_eq,List.all_eq_true,List.mem_range] at h
 obtain ⟨h1,h2⟩:=h
 refine ⟨by omega,fun p hp=>?_,fun i j hij hj=>?_⟩
 ·obtain ⟨k,hk,rfl⟩:=E3 hp
  have:=h2 k hk
  unfold U2 at this
  rw [Bool.and_eq_true] at this;exact this.1
 ·have:=h2 j hj
  unfold U2 at this
  rw [Bool.and_eq_true,Bool.not_eq_true',List.any_eq_false] at this
  have h3:=this.2 (l.getD i default) (by
   have:(l.take j).getD i default=l.getD i default:=by rw [List.getD_eq_getElem?_getD,List.getD_eq_getElem?_getD,List.getElem?_take_of_lt hij]
   rw [←this]
   exact B3 (by rw [List.length_take];omega))
  simpa using h3
theorem B0y {l:List B4} {i:Nat} (hi:i<l.length) (h:U2 l i (l.getD i default)=false):promosC l=false:=by
 unfold promosC
 rw [Bool.and_eq_false_iff]
 refine .inr (Bool.eq_false_iff.2 fun ha=>?_)
 unfold K7 at ha
 rw [List.all_eq_true] at ha
 have:=ha i (List.mem_range.2 hi)
 rw [this] at h;cases h
theorem B9i (l:List B4) (hn:l.length<9223372036854775807) (hs:∀ p∈l,A0V p) (st:St):S P 156 [B1 15 C0 l] st fun v st'=>v=.bool (promosC l)∧st'=st:=by
 refine G0 [] Tryz.func156 ?_
 refine lp l.length [0,3] (fun i vs st'=>vs=[B1 15 C0 l,eI i]∧st'=st∧∀ k,k<i→U2 l k (l.getD k default)=true) ?_ ?_
 ·conv=>whnf
  exact ⟨rfl,rfl,fun k hk=>absurd hk (by omega)⟩
 ·rintro i vs st' hi ⟨rfl,rfl,hok⟩
  conv=>whnf
  cases h:decide ((i:Int)<(l.length:Int))
  ·obtain rfl:=C6 h hi
   conv=>whnf
   refine ⟨?_,rfl⟩
   show AV.bool _=AV.bool _
   unfold promosC
   rw [K3 hok,Bool.and_true]
  ·have hi':=E4 h
   have hm:l.getD (i:Int).toNat default∈l:=B3 hi'
   conv=>whnf
   refine E1 ?_
   refine C5 (B4X (l.getD (i:Int).toNat default) (hs _ hm) _) ?_
   obtain ⟨b,hb⟩:∃ b,b=H7 (l.getD (i:Int).toNat default):=⟨_,rfl⟩
   rw [←hb];conv=>whnf
   refine B9 (fun h1=>?_) (fun h1=>?_)<;>rw [h1]
   ·conv=>whnf
    refine ⟨?_,rfl⟩
    have:promosC l=false:=B0y hi' (by
     unfold U2
     rw [show H7 (l.getD i default)=false by rw [show i=(i:Int).toNat from rfl,←hb];simpa using h1];rfl)
    rw [this];rfl
   have hp:H7 (l.getD i default)=true:=by rw [show i=(i:Int).toNat from rfl,←hb];simpa using h1
   conv=>whnf
   refine lp i [0,3,4] (fun j vs s=>vs=[B1 15 C0 l,eI i,eI j]∧s=st'∧∀ k,k<j→((l.getD k default).id.toList==(l.getD i default).id.toList)=false) ?_ ?_
   ·conv=>whnf
    exact ⟨rfl,rfl,fun k hk=>absurd hk (by omega)⟩
   ·rintro j vs s hj ⟨rfl,rfl,hne⟩
    conv=>whnf
    cases h2:decide ((j:Int)<(i:Int))
    ·obtain rfl:=C6 h2 hj
     conv=>whnf
     refine G7 ?_
     refine nx hi' ⟨by rw [B8 (by omega)],rfl,fun k hk=>?_⟩
     by_cases e:k<j
     ·exact hok k e
     ·obtain rfl:k=j:=by omega
      unfold U2
      rw [hp,Bool.true_and,Bool.not_eq_true',List.any_eq_false]
      intro x hx
      obtain ⟨m,hm',rfl⟩:=E3 hx
      rw [List.length_take] at hm'
      have e2:(l.take k).getD m default=l.getD m default:=by rw [List.getD_eq_getElem?_getD,List.getD_eq_getElem?_getD,List.getElem?_take_of_lt (by omega)]
      rw [e2,hne m (by omega)];exact Bool.false_ne_true
    ·have hj':=E4 h2
     conv=>whnf
     refine ⟨[],[],List.range 11,by kernel_rfl,?_⟩;conv=>whnf
     refine E1 ?_
     refine E1 ?_
     refine B9 (fun h3=>?_) (fun h3=>?_)<;>rw [h3]
     ·conv=>whnf
      refine ⟨?_,rfl⟩
      have h4:((l.getD j default).id.toList==(l.getD i default).id.toList)=true:=h3
      have:promosC l=false:=B0y hi' (by
       unfold U2
       rw [hp,Bool.true_and,Bool.not_eq_false']
       refine List.any_eq_true.2 ⟨l.getD j default,?_,h4⟩
       have e2:(l.take i).getD j default=l.getD j default:=by rw [List.getD_eq_getElem?_getD,List.getD_eq_getElem?_getD,List.getElem?_take_of_lt (by omega)]
       rw [←e2]
       exact B3 (by rw [List.length_take];omega))
      rw [this];rfl
     have h4:((l.getD j default).id.toList==(l.getD i default).id.toList)=false:=h3
     conv=>whnf
     refine G7 ?_
     exact nx hj' ⟨by rw [B8 (by omega)],rfl,fun k hk=>by
      by_cases e:k<j
      ·exact hne k e
      ·obtain rfl:k=j:=by omega
       exact h4⟩
structure A0w (r:H8):Prop where
 n:Sm r.items.length
 items:∀ x∈r.items,Sm x.sku.size∧Sm x.cat.size
 promos:∀ p∈r.promos,A0V p
 tax:A8E r.tax
 order:Sm r.policy.order.length
 credit:Sm r.policy.credit.length
theorem B4Y (r:H8) (hn:r.promos.length<9223372036854775807) (hs:A0w r) (st:St):S P 84 [G2 r] st fun v st'=>v=.bool (P9 r)∧st'=st:=by
 obtain ⟨H,hH⟩:∃ H:Bool,H=P9 r:=⟨_,rfl⟩
 rw [←hH]
 unfold P9 A8T A5X at hH
 have n1:=C1R r.items hs.n hs.items st
 have n2:=B9i r.promos hn hs.promos st
 have n3:=B6C r.tax hs.tax st
 have n4:=A2c r.ship.fee 1000000000 st
 have n5:=A2c r.ship.free 10000000000000 st
 have n6:=A2c r.policy.window 100000 st
 have n7:=A2c r.policy.grace 100000 st
 have n8:=A2c r.policy.restock 10000 st
 have n9:=B5d r.policy.order hs.order st
 have n10:=B5d r.policy.credit hs.credit st
 generalize A1c r.items=b1 at *
 generalize promosC r.promos=b2 at *
 generalize taxC r.tax=b3 at *
 generalize Q9 0 1000000000 r.ship.fee=b4 at *
 generalize Q9 0 10000000000000 r.ship.free=b5 at *
 generalize Q9 0 100000 r.policy.window=b6 at *
 generalize Q9 0 100000 r.policy.grace=b7 at *
 generalize Q9 0 10000 r.policy.restock=b8 at *
 generalize A0F r.policy.order=b9 at *
 generalize A0F r.policy.credit=b10 at *
 refine SyW [1,3] Tryz.func84 ?_
 repeat' ((conv=>whnf);first | refine C5 n1 ?_ | refine C5 n2 ?_ | refine C5 n3 ?_ | refine C5 n4 ?_ | refine C5 n5 ?_ | refine C5 n6 ?_ | refine C5 n7 ?_ | refine C5 n8 ?_ | refine C5 n9 ?_ | refine C5 n10 ?_ | (refine B9 (fun h=>?_) (fun h=>?_)<;>rw [h]))
 all_goals (conv=>whnf)
 all_goals (refine ⟨?_,rfl⟩;show AV.bool _=AV.bool _;congr 1;clear n1 n2 n3 n4 n5 n6 n7 n8 n9 n10)
 all_goals (simp only [*,Bool.true_and,Bool.false_and,Bool.and_true,Bool.and_false,Bool.or_true,Bool.or_false,Bool.true_or,Bool.false_or,Bool.not_true,Bool.not_false,Bool.not_not])
theorem B6B (r:H8) (hs:A0w r) (hC:P9 r=true) (st:St):S P 84 [G2 r] st fun v st'=>v=.bool true∧st'=st:=by
 have h:=B4Y r (by
  unfold P9 at hC
  simp only [Bool.and_eq_true] at hC
  have:=(B0z hC.1.1.1.2).few;omega) hs st
 rw [hC] at h;exact h
theorem C1Q (l:List D6) (hl:Sm l.length) (hs:∀ s∈l,Sm s.size) (st:St):S P 85 [D2 l] st fun v st'=>v=.bool (A1a l)∧st'=st:=by
 have e:A1a l=(A0n l&&decide ((l.length:Int)≤4)):=by
  unfold A1a A0n
  generalize decide ((l.length:Int)≤4)=a
  generalize Z0 l=b
  generalize (l.any fun s=>!F9 s)=c
  cases a<;>cases b<;>cases c<;>rfl
 rw [e]
 refine G0 [] Tryz.func85 ?_
 refine I2 (B0K l 4 hl hs st) ?_
 exact ⟨rfl,rfl⟩
def S9 (l:List B4) (codes:List D6):List Int:=(places l codes l.length).mergeSort fun x y=>!A0m (F8 l y) (F8 l x)
theorem A2q (l:List B4) (codes:List D6):(S9 l codes).Perm (places l codes l.length):=List.mergeSort_perm ..
theorem C1A (l:List B4) (codes:List D6):(S9 l codes).Pairwise (A3r l):=by
 have:=List.pairwise_mergeSort (le:=fun x y:Int=>!A0m (F8 l y) (F8 l x)) (fun a b c h1 h2=>by simp only [Bool.not_eq_true'] at *;exact A7t h1 h2) (fun a b=>by
  cases h:A0m (F8 l b) (F8 l a) with
  | false=>rfl
  | true=>rw [A8H h];rfl) (places l codes l.length)
 exact this.imp (fun h=>by simpa [A3r] using h)
theorem B6x {l:List B4} (ok:B3S l) {x y:Int} (hx:0≤x∧x.toNat<l.length) (hy:0≤y∧y.toNat<l.length) (h1:A3r l x y) (h2:A3r l y x):x=y:=by
 unfold A3r at h1 h2
 rw [←Bool.not_eq_true,A2v] at h1 h2
 have e:(F8 l x).prio=(F8 l y).prio:=by
  have a:¬(F8 l y).prio>(F8 l x).prio:=fun h=>h1 (.inl h)
  have b:¬(F8 l x).prio>(F8 l y).prio:=fun h=>h2 (.inl h)
  omega
 have a:slt (F8 l y).id (F8 l x).id=false:=by rw [←Bool.not_eq_true];exact fun h=>h1 (.inr ⟨e.symm,h⟩)
 have b:slt (F8 l x).id (F8 l y).id=false:=by rw [←Bool.not_eq_true];exact fun h=>h2 (.inr ⟨e,h⟩)
 have c:=A6c a b
 rcases Nat.lt_trichotomy x.toNat y.toNat with h | h | h
 ·have:=ok.ids _ _ h hy.2
  rw [beq_eq_false_iff_ne] at this
  exact absurd c.symm this
 ·omega
 ·have:=ok.ids _ _ h hx.2
  rw [beq_eq_false_iff_ne] at this
  exact absurd c this
theorem B4A {l:List B4} (hC:promosC l=true) {codes:List D6} {o:List Int} (h1:o.Perm (places l codes l.length)) (h2:o.Pairwise (A3r l)):o=S9 l codes:=by
 refine (h1.trans (A2q l codes).symm).eq_of_pairwise (le:=A3r l) (fun a b ha hb h3 h4=>?_) h2 (C1A l codes)
 exact B6x (B0z hC) (A0d (h1.mem_iff.1 ha)) (A0d ((A2q l codes).mem_iff.1 hb)) h3 h4
theorem B9p (l:List B4) (codes:List D6) (hC:promosC l=true) (hc:Sm codes.length) (st:St):S P 89 [B1 15 C0 l,D2 codes] st fun v st'=>v=A8 (S9 l codes)∧st'=st :=
 (C1Y l codes (by have:=(B0z hC).few;omega) hc st).mono fun v st' ⟨⟨o,h1,h2,h3⟩,h4⟩=>⟨by rw [h3,B4A hC h1 h2],h4⟩
theorem A7F {l:List B4} (hC:promosC l=true) {codes:List D6} {o:List Int} (ho:A7U l codes o):O4 l o=S9 l codes:=by
 refine B4A hC ((B2i l o).trans ho.1) ?_
 refine List.Pairwise.map _ (fun a b h=>h) (R:=fun a b:QE=>A3r l (gI o a.2.toNat) (gI o b.2.toNat)) ?_
 refine (A6r l o).imp_of_mem fun {a b} ha hb h=>?_
 have h1:=A4p ha
 have h2:=A4p hb
 obtain ⟨i,hi,rfl⟩:=List.mem_map.1 ((A0P l o).mem_iff.1 ha)
 obtain ⟨j,hj,rfl⟩:=List.mem_map.1 ((A0P l o).mem_iff.1 hb)
 rw [Q7] at h
 simp only [B0F,Int.toNat_natCast] at h h1 h2 ⊢
 unfold A3r
 rw [←Bool.not_eq_true,A2v]
 rintro (h3 | ⟨h3,h4⟩)
 ·exact h (.inl h3)
 ·rcases Nat.lt_trichotomy i j with e | e | e
  ·have:=ho.2 i j (Nat.zero_le _) e h2.2
   unfold C3N at this
   rw [this] at h4;cases h4
  ·subst e;rw [A4r] at h4;cases h4
  ·exact h (.inr ⟨h3,by omega⟩)
end Go.Proofs.YtbajhapmlfbelaaGreat
