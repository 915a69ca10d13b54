/- Part 27 of the proof: contracts of the functions that the law reaches -/
import Derived.Test.YthdimklenlikgaaGreatQa26
set_option maxRecDepth 100000
set_option linter.unusedVariables false
set_option linter.unusedSimpArgs false
namespace Go.Proofs.YthdimklenlikgaaGreat
open Go Go.Ab
attribute [local irreducible] upd del
theorem ROut.own {R:St→St→Prop} {ty e n:Nat} {fo:Nat→AV} {s t:St} {sv:AV} (h:ROut R ty e fo (n+1) s sv t):∃ b,sv=.own e b 0 (n+1):=by
 obtain ⟨s0,⟨h1,_⟩ | ⟨_,b,_,_,h1,_⟩,h2⟩:=h
 ·cases h1
 ·exact ⟨b,h1⟩
theorem RD.wr {dl:List A0D} {gr:List D6} {dv gv:AV} {s t:St} {b:Nat} {y y':R3} (h:RD dl gr dv gv s t) (hb:s b=some y):RD dl gr dv gv (upd s b y') (upd t b y'):=(A2A dl gr dv gv).write h hb
theorem RD.sup {dl:List A0D} {gr:List D6} {dv gv:AV} {s t:St} (h:RD dl gr dv gv s t):D7 s t:=(A2A dl gr dv gv).sup h
theorem RD.start (s:St):RD [] [] .emp .emp s s:=ROut.start (ROut.start (D7.refl s) _ _ _) _ _ _
theorem RD.appG {dl:List A0D} {gr:List D6} {dv gv:AV} {s t:St} {y:D6} {x:AV} {k:KK} {g:Nat→AV} (h:RD dl gr dv gv s t) (hs:X9 1 t x=some (1,g)) (hg:g 0=eS y) (hb:gr.length≤1000)
  (hk:∀ gv' t',RD dl (gr++[y]) dv gv' s t'→k gv' t'):A5j T 34 gv x t k:=by
 obtain ⟨s0,hc,h⟩:=h
 refine ROut.app (q:=r9) (f:=A5T (gr++[y])) B1 rfl rfl rfl rfl hs (by rw [hg];simp only [A5T,A6T]) (by show (gr.length+1) * 16≤140737488355328;omega) (ROut.congr h fun k hk=>by simp only [A5T];rw [A3k hk]) (fun sv' t' h'=>hk sv' t' ⟨s0,hc,?_⟩)
 show ROut _ _ _ _ (gr++[y]).length _ _ _
 rw [List.length_append];exact h'
theorem RD.appD {dl:List A0D} {gr:List D6} {dv gv:AV} {s t:St} {y:A0D} {x:AV} {k:KK} {g:Nat→AV} (h:RD dl gr dv gv s t) (hs:X9 2 t x=some (1,g)) (hg:g 0=A3i y) (hb:dl.length≤1000)
  (hk:∀ b t',RD (dl++[y]) gr (.own 2 b 0 (dl.length+1)) gv s t'→k (.own 2 b 0 (dl.length+1)) t'):A5j T 42 dv x t k:=by
 refine ROut.app (q:=C3b) (f:=A0K (dl++[y])) (A6L _ _) rfl rfl rfl rfl hs (by rw [hg];simp only [A0K,A6T]) (by show (dl.length+1) * 24≤140737488355328;omega) (ROut.congr h fun k hk=>by simp only [A0K];rw [A3k hk]) (fun sv' t' h'=>?_)
 obtain ⟨b,rfl⟩:=ROut.own h'
 exact hk b t' (RD.of h')
theorem RD.deals {dl:List A0D} {gr:List D6} {dv gv:AV} {s t:St} (h:RD dl gr dv gv s t):(dl=[]∧dv=.emp)∨∃ bd g,dv=.own 2 bd 0 dl.length∧s bd=none∧t bd=some ⟨140,2,dl.length,g⟩∧∀ k,k<dl.length→g k=A0K dl k:=by
 obtain ⟨s0,hc,hg0⟩:=h
 rcases hc with ⟨h0,h1,rfl⟩ | ⟨h0,b,g0,hb,h1,rfl,hgg⟩
 ·exact .inl ⟨List.eq_nil_of_length_eq_zero h0,h1⟩
 ·exact .inr ⟨b,g0,h1,hb,(A6L _ _).sup hg0 b _ (A0 ..),hgg⟩
theorem RD.groups {dl:List A0D} {gr:List D6} {dv gv:AV} {s t:St} (h:RD dl gr dv gv s t):(gv=.emp∧gr=[])∨∃ b g,gv=.own 1 b 0 gr.length∧t b=some ⟨9,1,gr.length,g⟩∧∀ k,k<gr.length→g k=eS (gr.getD k default):=by
 obtain ⟨s0,hc,s1,hc2,hs⟩:=h
 rcases hc2 with ⟨h0,h1,rfl⟩ | ⟨h0,b,g0,hb,h1,rfl,hgg⟩
 ·exact .inl ⟨h1,List.eq_nil_of_length_eq_zero h0⟩
 ·exact .inr ⟨b,g0,h1,hs b _ (A0 ..),hgg⟩
theorem A9w {σ : Type} (px : σ→PSt) (step : σ→B4→σ) (sm:B4→Bool) (l:List B4) (a : σ) (o:List Int) (x:Int):V0 px step sm l a (o++[x])=if sm (F6 l x)=true then goB px step (V0 px step sm l a o) (F6 l x) else V0 px step sm l a o:=by
 unfold V0
 rw [List.filter_append,List.foldl_append]
 by_cases h:sm (F6 l x)=true
 ·rw [if_pos h,List.filter_cons_of_pos (p:=fun x=>sm (F6 l x)) h];rfl
 ·rw [if_neg h,List.filter_cons_of_neg (p:=fun x=>sm (F6 l x)) h];rfl
def named (l:List D6):List D6:=l.filter fun g=>!L4 g
theorem A9M (l:List D6) (g:D6):named (l++[g])=named l++(if L4 g=true then [] else [g]):=by
 unfold named
 rw [List.filter_append]
 congr 1
 cases h:L4 g
 ·rw [List.filter_cons_of_pos (p:=fun g=>!L4 g) (by rw [h];rfl)];rfl
 ·rw [List.filter_cons_of_neg (p:=fun g=>!L4 g) (by rw [h];simp)];rfl
theorem C1y (l:List D6) (g:D6):(!L4 g&&l.any fun y=>y.toList==g.toList)=!(L4 g||!inB (named l) g):=by
 cases hn:L4 g
 ·rw [Bool.not_false,Bool.true_and,Bool.false_or,Bool.not_not]
  unfold inB named
  rw [←Bool.coe_iff_coe,List.any_eq_true,List.any_eq_true]
  constructor
  ·rintro ⟨y,h1,h2⟩
   refine ⟨y,List.mem_filter.2 ⟨h1,?_⟩,by rw [Bool.beq_comm];exact h2⟩
   unfold L4 at hn ⊢
   rw [eq_of_beq h2,hn];rfl
  ·rintro ⟨y,h1,h2⟩
   exact ⟨y,(List.mem_filter.1 h1).1,by rw [Bool.beq_comm];exact h2⟩
 ·rfl
theorem C3T {σ : Type} {px : σ→PSt} {step : σ→B4→σ} {a : σ} {pr:B4} {G:List D6} (hG:named G=(px a).groups) :
  goB px step a pr=if (!L4 pr.group&&G.any fun y=>y.toList==pr.group.toList)=true then a else step a pr:=by
 unfold goB
 rw [C1y,hG]
 cases (L4 pr.group||!inB (px a).groups pr.group)<;>rfl
theorem C2i {items:List Ab.Item} {p:PSt} {pr:B4} (hk:R0 pr=true) {G:List D6} (hG:named G=p.groups) :
  goB (fun p=>p) (A3J items) p pr=if (!L4 pr.group&&G.any fun y=>y.toList==pr.group.toList)=true then p else A3J items p pr:=C3T (px:=fun p=>p) hG
theorem B8c (l:List D6):(named l).length≤l.length:=List.length_filter_le _ _
set_option maxHeartbeats 8000000 in
theorem C0S (r:I4) (codes:List D6) (l:List G4) (hf:A0G r) (hsm:A8K r) (hR:Z8 r=true) (hcn:Sm codes.length) (hcs:∀ s∈codes,Sm s.size) (hln:Sm l.length) (st:St) :
  S P 21 [H6 r,D3 codes,B2 3 H2 l] st fun v st' =>
   v=(if E7 r codes l=0 then .tuple [T1 (W4 r l (R8 r.promos codes) (R8 r.promos codes)),eI 0] else .tuple [T1 ⟨[],0,0,[]⟩,eI (E7 r codes l)])∧st'=st:=by
 obtain ⟨X,hX⟩:∃ X,X=W4 r l (R8 r.promos codes) (R8 r.promos codes):=⟨_,rfl⟩
 refine S.post (post:=fun v st'=>(E7 r codes l≠0∧v=.tuple [.agg [.emp,eI 0,eI 0,.emp],eI (E7 r codes l)]∧D7 st st') ∨
   (E7 r codes l=0∧∃ bn fn dv,v=.tuple [.agg [.own 1 bn 0 l.length,eI X.net,eI X.ship,dv],eI 0] ∧
    st bn=none∧st' bn=some ⟨2,1,l.length,fn⟩∧(∀ k,k<l.length→fn k=eI (gI X.nets k))∧D7 st st' ∧
    ((X.deals=[]∧dv=.emp)∨∃ bd g,dv=.own 2 bd 0 X.deals.length∧st bd=none∧bd≠bn∧st' bd=some ⟨140,2,X.deals.length,g⟩∧∀ k,k<X.deals.length→g k=A0K X.deals k))) ?_
  (fun v st' hv=>by
   rcases hv with ⟨h1,rfl,hs⟩ | ⟨h1,bn,fn,dv,rfl,h4,h5,h6,hs,h7⟩
   ·refine ⟨_,st,⟨rfl,rfl⟩,?_⟩
    rw [if_neg h1]
    refine (hs.shift _).trans (B0.tuple (B0.cons (B0.agg ?_) (B0.keep _ _)) rfl)
    exact B0.cons (L9 1 _) (B0.cons (B0.keep [eI 0] _) (B0.cons (B0.keep [eI 0] _) (L9 2 _)))
   ·refine ⟨_,st,⟨rfl,rfl⟩,?_⟩
    rw [if_pos h1,←hX]
    refine B0.tuple (B0.cons (B0.agg ?_) (B0.keep _ _)) rfl
    have hnl:X.nets.length=l.length:=by rw [hX];show (T3 _ _).length=_;unfold T3;rw [List.length_map,List.length_range]
    clear hX
    have e1:A6 X.nets=.arr 1 l.length (fun k=>eI (gI X.nets k)):=by unfold A6 B2;rw [hnl]
    refine B0.cons (t:=del st' bn) ?_ (B0.cons (B0.keep [eI X.net] _) (B0.cons (B0.keep [eI X.ship] _) ?_))
    ·rw [e1];exact G0 h5 rfl (Nat.le_refl _) h6
    ·rcases h7 with ⟨h8,rfl⟩ | ⟨bd,g,rfl,h8,h9,h10,h11⟩
     ·rw [h8]
      exact ((D7.del hs h4).shift _).trans (L9 2 _)
     ·refine (G0 (b:=bd) (y:=⟨140,2,X.deals.length,g⟩) (f:=A0K X.deals) (by rw [A1F h9];exact h10) rfl (Nat.le_refl _) h11).trans ?_
      exact (D7.del (D7.del hs h4) h8).shift _)
 have hC:=hR
 unfold Z8 A8u at hC
 simp only [Bool.and_eq_true] at hC
 obtain ⟨⟨⟨⟨_,hpc⟩,_⟩,hfee,hfree⟩,_⟩:=hC
 rw [J2] at hfee hfree
 have hpk:E7 r codes l=if A0J codes=false then 2 else N3 (known r.items) l:=by unfold E7;rw [if_neg (by rw [hR];simp)]
 refine A8 [3,15,20] B8 mixed Tryz.func21 (by rfl) rfl rfl rfl ?_;conv=>whnf
 intro b6 hb6;conv=>whnf
 refine A7 (B5O r hsm hR _) ?_;conv=>whnf
 refine A7 (C0P codes hcn hcs _) ?_
 have h6s:∀ x:R3,D7 st (upd st b6 x):=fun x=>(D7.refl st).upd hb6
 cases hcc:A0J codes
 ·rw [if_pos hcc] at hpk
  have hk0:E7 r codes l≠0:=by rw [hpk];decide
  conv=>whnf
  refine G6 (A0 ..) rfl (by omega) rfl (by rfl) ?_;conv=>whnf
  refine D9 (A0 ..) rfl (by omega) (A2 ..) ?_;conv=>whnf
  exact .inl ⟨hk0,by rw [hpk];rfl,(h6s _).over hb6⟩
 rw [if_neg (by rw [hcc];simp)] at hpk;conv=>whnf
 refine A7 (C0O r.items l hsm.n hln _) ?_
 rw [←hpk];conv=>whnf
 cases h1:(E7 r codes l != 0)
 case true =>
  have hk0:E7 r codes l≠0:=by simpa using h1
  conv=>whnf
  refine G6 (A0 ..) rfl (by omega) rfl (by rfl) ?_;conv=>whnf
  refine D9 (A0 ..) rfl (by omega) (A2 ..) ?_;conv=>whnf
  exact .inl ⟨hk0,rfl,(h6s _).over hb6⟩
 have hk0:E7 r codes l=0:=by simpa using h1
 have hck:=A5v hk0
 have hli:=hck.lines
 have hlen:=hli.len
 have hus0:=B3d hli
 have hitl:(C2 r.items l).length=l.length:=List.length_map ..
 obtain ⟨u1,u2,u3⟩:=A1B l hli.line l.length (Nat.le_refl _)
 conv=>whnf
 refine ⟨[],[],List.range 13,by kernel_rfl,?_⟩;conv=>whnf
 refine ⟨_,D1 (C0U l hlen hli.line (eq_of_beq hli.may) hus0.ok.len _),?_⟩;conv=>whnf
 refine ⟨_,D1 (B4k r.items l hsm.n hlen hli.known _),?_⟩;conv=>whnf
 refine ⟨_,D1 (B8B r.promos codes hpc hcn _),?_⟩;conv=>whnf
 have hol:(R8 r.promos codes).length≤60:=by
  rw [(A2a _ _).length_eq]
  have:=X5 r.promos codes r.promos.length
  have:=hck.few;omega
 have hom:∀ x∈R8 r.promos codes,0≤x∧x.toNat<r.promos.length:=fun x hx=>Y9 ((A2a _ _).mem_iff.1 hx)
 have hXd:X=⟨T3 l.length (p1B r l (R8 r.promos codes)).us,M9 (p1B r l (R8 r.promos codes)),(p2B r l (p1B r l (R8 r.promos codes)) (R8 r.promos codes)).2,(p2B r l (p1B r l (R8 r.promos codes)) (R8 r.promos codes)).1.deals⟩:=hX
 clear hX
 generalize R8 r.promos codes=o at *
 generalize hs6:(upd st b6 _)=s6 at *
 have h6:s6 b6=some ⟨44,4,1,fun _=>G9 r44.zero⟩:=by rw [←hs6];exact A0 ..
 have hst6:D7 st s6:=by rw [←hs6];exact h6s _
 clear hs6
 refine mkO rfl rfl rfl (by show 8 * l.length≤_;omega) (by omega) (by rfl) (fun bn hbn=>?_);conv=>whnf
 intro bp hbp
 have hnb:bn≠bp:=fun e=>by subst e;rw [A0] at hbp;cases hbp
 have hbp6:s6 bp=none:=by rw [A4 hnb.symm] at hbp;exact hbp
 have hb6p:b6≠bp:=fun e=>by subst e;rw [h6] at hbp6;cases hbp6
 have hb6n:b6≠bn:=fun e=>by subst e;rw [h6] at hbn;cases hbn
 have hstn:st bn=none:=hst6.none hbn
 have hstp:st bp=none:=hst6.none hbp6
 conv=>whnf
 refine G6 (A0 ..) rfl (by omega) rfl (by rfl) ?_
 rw [B7];conv=>whnf
 have hat:∀ {dl:List A0D} {gr:List D6} {dv gv:AV} {Y Z:R3} {t:St},RD dl gr dv gv (upd (upd s6 bn Y) bp Z) t→t bn=some Y∧t bp=some Z:=fun h=>⟨h.sup bn _ (by rw [A4 hnb,A0]),h.sup bp _ (A0 ..)⟩
 have hwn:∀ {dl:List A0D} {gr:List D6} {dv gv:AV} {Y Z Y':R3} {t:St},RD dl gr dv gv (upd (upd s6 bn Y) bp Z) t→RD dl gr dv gv (upd (upd s6 bn Y') bp Z) (upd t bn Y'):=fun {_ _ _ _ Y Z Y' t} h=>by
  have:=h.wr (b:=bn) (y':=Y') (by rw [A4 hnb,A0])
  rw [P9 hnb.symm,B7] at this;exact this
 have hwp:∀ {dl:List A0D} {gr:List D6} {dv gv:AV} {Y Z Z':R3} {t:St},RD dl gr dv gv (upd (upd s6 bn Y) bp Z) t→RD dl gr dv gv (upd (upd s6 bn Y) bp Z') (upd t bp Z'):=fun {_ _ _ _ Y Z Z' t} h=>by
  have:=h.wr (b:=bp) (y':=Z') (A0 ..)
  rw [B7] at this;exact this
 have htk:∀ {i:Nat},i<o.length→o.take (i+1)=o.take i++[gI o i]:=fun h=>I6 h
 refine lp o.length [3,6,9,10,11,12,13,14] (fun i vs t=>∃ (p:PSt) (dv gv:AV) (G:List D6) (fp:Nat→AV),p=V0 (fun p=>p) (A3J (C2 r.items l)) R0 r.promos ⟨S9 l,[],[]⟩ (o.take i) ∧
   vs=[.fptr (H6 r) 0,.optr 4 b6 0 0,D0 p.us,B2 4 F1 (C2 r.items l),A6 o,.optr 4 bp 0 0,gv,eI i] ∧
   RD p.deals G dv gv (upd (upd s6 bn ⟨2,1,l.length,fun _=>G9 r2.zero⟩) bp ⟨44,4,1,fp⟩) t∧fp 0=.agg [.own 1 bn 0 l.length,eI 0,eI 0,dv] ∧
   named G=p.groups∧G.length≤i∧p.deals.length≤i∧A5O (C2 r.items l) p.us∧∃ x,Off (S9 l) p.us x) ?_ ?_
 ·conv=>whnf
  exact ⟨⟨S9 l,[],[]⟩,.emp,.emp,[],_,rfl,rfl,RD.start _,A2 ..,rfl,Nat.le_refl _,Nat.le_refl _,hus0,0,Off.refl hus0.ok⟩
 ·rintro i vs t hi ⟨p,dv,gv,G,fp,hp,rfl,hR,hfp,hG,hGn,hDn,hus,x,hoff⟩
  conv=>whnf
  cases hd:decide ((i:Int)<(o.length:Int))
  case true =>
   have hi':=E4 hd
   have hx:=hom _ (B3 hi')
   have hx0:0≤gI o (i:Int).toNat:=hx.1
   have hx1:(gI o (i:Int).toNat).toNat<r.promos.length:=hx.2
   have hpm:F6 r.promos (gI o i)∈r.promos:=B3 hx.2
   have hpr:F6 r.promos (gI o i)=r.promos.getD (gI o (i:Int).toNat).toNat default:=rfl
   have hps:PSm (F6 r.promos (gI o i)):=⟨hsm.promos _ hpm,hck.promo _ hpm,hf.fit _ hpm⟩
   have hnext:=A9w (fun p=>p) (A3J (C2 r.items l)) R0 r.promos ⟨S9 l,[],[]⟩ (o.take i) (gI o i)
   rw [←htk hi',←hp,hpr] at hnext
   rw [hpr] at hps;conv=>whnf
   refine ⟨[8,9],[1,5,7],List.range 10,by kernel_rfl,?_⟩;conv=>whnf
   refine ⟨_,fun s _=>⟨rfl,rfl⟩,?_⟩;conv=>whnf
   refine ⟨rfl,⟨by omega,by omega⟩,?_⟩;conv=>whnf
   refine ⟨_,fun s _=>⟨rfl,rfl⟩,?_⟩;conv=>whnf
   refine ⟨rfl,⟨by show 0≤gI o (i:Int).toNat;omega,by show gI o (i:Int).toNat<(r.promos.length:Int);omega⟩,?_⟩;conv=>whnf
   refine ⟨_,fun s _=>⟨rfl,rfl⟩,?_⟩;conv=>whnf
   have hend:∀ {q:PSt} {dv' gv':AV} {G':List D6} {fp':Nat→AV} {t':St},q=V0 (fun p=>p) (A3J (C2 r.items l)) R0 r.promos ⟨S9 l,[],[]⟩ (o.take (i+1))→RD q.deals G' dv' gv' (upd (upd s6 bn ⟨2,1,l.length,fun _=>G9 r2.zero⟩) bp ⟨44,4,1,fp'⟩) t'→fp' 0=.agg [.own 1 bn 0 l.length,eI 0,eI 0,dv'] →
     named G'=q.groups→G'.length≤i+1→q.deals.length≤i+1→A5O (C2 r.items l) q.us→(∃ x,Off (S9 l) q.us x)→∃ (p:PSt) (dv gv:AV) (G:List D6) (fp:Nat→AV),p=V0 (fun p=>p) (A3J (C2 r.items l)) R0 r.promos ⟨S9 l,[],[]⟩ (o.take (i+1)) ∧
     [.fptr (H6 r) 0,.optr 4 b6 0 0,D0 q.us,B2 4 F1 (C2 r.items l),A6 o,.optr 4 bp 0 0,gv',eI (IntKind.i64.wrap ((i:Int)+1))]=[.fptr (H6 r) 0,.optr 4 b6 0 0,D0 p.us,B2 4 F1 (C2 r.items l),A6 o,.optr 4 bp 0 0,gv,eI ((i+1:Nat):Int)] ∧
     RD p.deals G dv gv (upd (upd s6 bn ⟨2,1,l.length,fun _=>G9 r2.zero⟩) bp ⟨44,4,1,fp⟩) t'∧fp 0=.agg [.own 1 bn 0 l.length,eI 0,eI 0,dv] ∧
     named G=p.groups∧G.length≤i+1∧p.deals.length≤i+1∧A5O (C2 r.items l) p.us∧∃ x,Off (S9 l) p.us x:=fun {q dv' gv' G' fp' t'} h1 h2 h3 h4 h5 h6 h7 h8=>⟨q,dv',gv',G',fp',h1,by rw [B9 (by omega)],h2,h3,h4,h5,h6,h7,h8⟩
   cases h7:((r.promos.getD (gI o (i:Int).toNat).toNat default).kind==7)
   case true =>
    rw [if_neg (by unfold R0;rw [h7];simp)] at hnext;conv=>whnf
    refine ⟨rfl,?_⟩;conv=>whnf
    exact nx hi' (hend hnext.symm hR hfp hG (by omega) (by omega) hus ⟨x,hoff⟩)
   case false =>
    have hns:R0 (r.promos.getD (gI o (i:Int).toNat).toNat default)=true:=by unfold R0;rw [h7];rfl
    rw [if_pos hns,C2i hns hG] at hnext;conv=>whnf
    refine A7 (B4u G (r.promos.getD (gI o (i:Int).toNat).toNat default).group (by omega) gv _ hR.groups) ?_
    cases htk:(!L4 (r.promos.getD (gI o (i:Int).toNat).toNat default).group&&G.any fun y=>y.toList==(r.promos.getD (gI o (i:Int).toNat).toNat default).group.toList)
    case true =>
     rw [if_pos htk] at hnext;conv=>whnf
     refine ⟨rfl,?_⟩;conv=>whnf
     exact nx hi' (hend hnext.symm hR hfp hG (by omega) (by omega) hus ⟨x,hoff⟩)
    case false =>
     rw [if_neg (by rw [htk];simp)] at hnext
     have hk7:(r.promos.getD (gI o (i:Int).toNat).toNat default).kind≠7:=by simpa using h7
     obtain ⟨y,hoy⟩:=B3p hus hps.fit hps.right hk7
     have hus2:=hus.off hoy
     have hof2:=hoff.trans hoy
     rw [←hnext] at hus2 hof2
     have hAs:A3J (C2 r.items l) p (r.promos.getD (gI o (i:Int).toNat).toNat default)=if (W7 (C2 r.items l) p.us (r.promos.getD (gI o (i:Int).toNat).toNat default)).2>0 then A0O ⟨(W7 (C2 r.items l) p.us (r.promos.getD (gI o (i:Int).toNat).toNat default)).1,p.deals,p.groups⟩ (r.promos.getD (gI o (i:Int).toNat).toNat default) (W7 (C2 r.items l) p.us (r.promos.getD (gI o (i:Int).toNat).toNat default)).2 else p:=rfl
     conv=>whnf
     refine call (C5b (C2 r.items l) p.us (r.promos.getD (gI o (i:Int).toNat).toNat default) hps hk7 hus _) (fun v t' hv=>?_)
     obtain ⟨⟨z,rfl,hz⟩,rfl⟩:=hv
     conv=>whnf
     cases hgt:decide ((W7 (C2 r.items l) p.us (r.promos.getD (gI o (i:Int).toNat).toNat default)).2>0)
     case false =>
      rw [if_neg (of_decide_eq_false hgt)] at hAs
      rw [hAs] at hnext;conv=>whnf
      refine ⟨rfl,?_⟩;conv=>whnf
      exact nx hi' (hend hnext.symm hR hfp hG (by omega) (by omega) hus ⟨x,hoff⟩)
     case true =>
      have hgt':=of_decide_eq_true hgt
      rw [if_pos hgt'] at hAs
      rw [hAs] at hnext
      obtain rfl:=hz hgt'
      conv=>whnf
      refine RD.appG (y:=(r.promos.getD (gI o (i:Int).toNat).toNat default).group) hR rfl rfl (by omega) (fun gv' t1 hR1=>?_);conv=>whnf
      have hdv:=ROut.head hR1
      rcases hdv with rfl | ⟨bo,rfl⟩
      all_goals
       refine D9 (hat hR1).2 rfl (by omega) hfp ?_;conv=>whnf
       refine RD.appD (y:=⟨(r.promos.getD (gI o (i:Int).toNat).toNat default).id,(W7 (C2 r.items l) p.us (r.promos.getD (gI o (i:Int).toNat).toNat default)).2⟩) hR1 rfl (by rfl) (by omega) (fun bd t2 hR2=>?_);conv=>whnf
       refine G6 (hat hR2).2 rfl (by omega) hfp (by rfl) ?_;conv=>whnf
       refine ⟨rfl,?_⟩;conv=>whnf
       refine nx hi' ?_
       have hD:(A0O ⟨(W7 (C2 r.items l) p.us (r.promos.getD (gI o (i:Int).toNat).toNat default)).1,p.deals,p.groups⟩ (r.promos.getD (gI o (i:Int).toNat).toNat default) (W7 (C2 r.items l) p.us (r.promos.getD (gI o (i:Int).toNat).toNat default)).2).deals=p.deals++[⟨(r.promos.getD (gI o (i:Int).toNat).toNat default).id,(W7 (C2 r.items l) p.us (r.promos.getD (gI o (i:Int).toNat).toNat default)).2⟩]:=rfl
       have hGr:(A0O ⟨(W7 (C2 r.items l) p.us (r.promos.getD (gI o (i:Int).toNat).toNat default)).1,p.deals,p.groups⟩ (r.promos.getD (gI o (i:Int).toNat).toNat default) (W7 (C2 r.items l) p.us (r.promos.getD (gI o (i:Int).toNat).toNat default)).2).groups=p.groups++(if L4 (r.promos.getD (gI o (i:Int).toNat).toNat default).group=true then [] else [(r.promos.getD (gI o (i:Int).toNat).toNat default).group]):=rfl
       have hUs:(A0O ⟨(W7 (C2 r.items l) p.us (r.promos.getD (gI o (i:Int).toNat).toNat default)).1,p.deals,p.groups⟩ (r.promos.getD (gI o (i:Int).toNat).toNat default) (W7 (C2 r.items l) p.us (r.promos.getD (gI o (i:Int).toNat).toNat default)).2).us=(W7 (C2 r.items l) p.us (r.promos.getD (gI o (i:Int).toNat).toNat default)).1:=rfl
       rw [hnext] at hus2 hof2
       exact hend (G':=G++[(r.promos.getD (gI o (i:Int).toNat).toNat default).group]) hnext.symm (hwp hR2) (A2 ..) (by rw [A9M,hG];rfl) (by rw [List.length_append];show G.length+1≤_;omega) (by rw [hD,List.length_append];show p.deals.length+1≤_;omega) hus2 ⟨_,hof2⟩
  case false =>
   obtain rfl:=C6 hd hi
   rw [List.take_length] at hp
   have hp1:p1B r l o=p:=hp.symm
   rw [hp1] at hXd
   clear hp1 hp
   have hu1:=hus.ok
   have hul:=hu1.len
   have hus1:=hu1.sum
   have hnet0:=C4 hu1.nets0
   have hline:∀ k,k<p.us.length→0≤(gU p.us k).line∧(gU p.us k).line.toNat<l.length:=fun k hk=>by
    have:=hus.line _ (B3 hk)
    rw [hitl] at this;exact this
   have hul1:p.us.length=(S9 l).length:=hoff.len
   conv=>whnf
   refine lp p.us.length [3,6,9,11,12,13,18] (fun k vs t=>∃ (fn fp:Nat→AV),vs=[.fptr (H6 r) 0,.optr 4 b6 0 0,D0 p.us,A6 o,.optr 4 bp 0 0,gv,eI k] ∧
    RD p.deals G dv gv (upd (upd s6 bn ⟨2,1,l.length,fn⟩) bp ⟨44,4,1,fp⟩) t∧fp 0=.agg [.own 1 bn 0 l.length,eI (A5 ((E1 p.us).take k)),eI 0,dv]∧∀ j,j<l.length→fn j=eI (G2 (p.us.take k) j)) ?_ ?_
   ·conv=>whnf
    exact ⟨_,fp,rfl,hR,hfp,fun j _=>rfl⟩
   ·clear hR hfp fp
    rintro k vs t hk ⟨fn,fp,rfl,hR,hfp,hfn⟩
    obtain ⟨htn,htp⟩:=hat hR
    conv=>whnf
    cases hd2:decide ((k:Int)<(p.us.length:Int))
    case true =>
     have hk':=E4 hd2
     have hlk:0≤(gU p.us (k:Int).toNat).line∧(gU p.us (k:Int).toNat).line.toNat<l.length:=hline k hk'
     have hn0:0≤(gU p.us k).net:=hu1.at0 k
     have hn1:(gU p.us k).net≤10000000000000:=hu1.le (B3 hk')
     have e1:=L3 (l:=E1 p.us) (i:=k) (by rw [List.length_map];exact hk')
     have e4:gI (E1 p.us) k=(gU p.us k).net:=E3 B5.net p.us hk'
     have e2:=J9 hu1.nets0 (k+1)
     have e3:=C4 (l:=(E1 p.us).take k) (fun x hx=>hu1.nets0 x (List.take_subset _ _ hx))
     have hlb:=A0d hu1 k (gU p.us (k:Int).toNat).line.toNat
     have hlb2:=A0d hu1 (k+1) (gU p.us (k:Int).toNat).line.toNat
     have hln1:G2 (p.us.take (k+1)) (gU p.us (k:Int).toNat).line.toNat=G2 (p.us.take k) (gU p.us (k:Int).toNat).line.toNat+(gU p.us (k:Int).toNat).net:=(U7 hk' (gU p.us k).line.toNat).trans (if_pos rfl)
     have hfl:fn (0+(gU p.us (k:Int).toNat).line.toNat)=eI (G2 (p.us.take k) (gU p.us (k:Int).toNat).line.toNat):=by rw [Nat.zero_add];exact hfn _ hlk.2
     have w1:IntKind.i64.wrap (G2 (p.us.take k) (gU p.us (k:Int).toNat).line.toNat+(gU p.us (k:Int).toNat).net)=G2 (p.us.take (k+1)) (gU p.us (k:Int).toNat).line.toNat:=by rw [hln1];exact A9 (by omega) (by omega)
     have w2:IntKind.i64.wrap (A5 ((E1 p.us).take k)+(gU p.us (k:Int).toNat).net)=A5 ((E1 p.us).take (k+1)):=by rw [e1,e4];exact A9 (by omega) (by omega)
     conv=>whnf
     refine ⟨[23],[],List.range 24,by kernel_rfl,?_⟩;conv=>whnf
     refine D9 htp rfl (by omega) hfp ?_;conv=>whnf
     refine ⟨rfl,⟨by omega,by omega⟩,?_⟩;conv=>whnf
     refine D9 htp rfl (by omega) hfp ?_;conv=>whnf
     refine ⟨rfl,⟨by omega,by omega⟩,?_⟩;conv=>whnf
     refine ⟨rfl,⟨by show 0≤(gU p.us (k:Int).toNat).line;exact hlk.1,by show (gU p.us (k:Int).toNat).line<(l.length:Int);have:=hlk.2;have:=hlk.1;omega⟩,?_⟩;conv=>whnf
     refine D9 htn rfl (by show 0+(gU p.us (k:Int).toNat).line.toNat<_;have:=hlk.2;omega) hfl ?_;conv=>whnf
     refine ⟨rfl,⟨by omega,by omega⟩,?_⟩;conv=>whnf
     refine ⟨rfl,⟨by show 0≤(gU p.us (k:Int).toNat).line;exact hlk.1,by show (gU p.us (k:Int).toNat).line<(l.length:Int);have:=hlk.2;have:=hlk.1;omega⟩,?_⟩;conv=>whnf
     refine G6 htn rfl (by show 0+(gU p.us (k:Int).toNat).line.toNat<_;have:=hlk.2;omega) hfl (by rfl) ?_
     have hP5:=hwn (Y':=⟨2,1,l.length,C9 fn (0+(gU p.us (k:Int).toNat).line.toNat) (eI (G2 (p.us.take (k+1)) (gU p.us (k:Int).toNat).line.toNat))⟩) hR
     rw [←w1] at hP5
     obtain ⟨_,htp2⟩:=hat hP5
     conv=>whnf
     refine ⟨[9],[],List.range 10,by kernel_rfl,?_⟩;conv=>whnf
     refine D9 htp2 rfl (by omega) hfp ?_;conv=>whnf
     refine ⟨rfl,⟨by omega,by omega⟩,?_⟩;conv=>whnf
     refine G6 htp2 rfl (by omega) hfp (by rfl) ?_;conv=>whnf
     refine ⟨rfl,?_⟩;conv=>whnf
     refine nx hk' ⟨_,_,by rw [B9 (by omega)],hwp hP5,?_,fun j hj=>?_⟩
     ·rw [A2,←w2];rfl
     ·show C9 fn (0+(gU p.us (k:Int).toNat).line.toNat) _ j=_
      rw [Nat.zero_add]
      by_cases hj2:j=(gU p.us (k:Int).toNat).line.toNat
      ·subst hj2
       rw [A2,w1]
      ·rw [H7 hj2,U7 hk' j,if_neg (fun e=>hj2 e.symm)];exact hfn j hj
    case false =>
     obtain rfl:=C6 hd2 hk
     rw [List.take_length] at hfn
     have htk2:(E1 p.us).take p.us.length=E1 p.us:=by rw [←List.length_map (f:=B5.net),List.take_length]
     rw [htk2] at hfp
     change fp 0=.agg [.own 1 bn 0 l.length,eI (M9 p),eI 0,dv] at hfp
     have hF:A0m r.ship (S9 l).length (M9 p)=if ((p.us.length:Int)=0∨(r.ship.free>0∧M9 p≥r.ship.free)) then 0 else r.ship.fee:=by unfold A0m;rw [hul1]
     have hnb0:0≤M9 p:=hnet0
     conv=>whnf
     refine C3 (fun g1=>?_) (fun g1=>?_)<;>rw [g1]<;>simp only [decide_eq_true_eq,decide_eq_false_iff_not] at g1
     case' refine_1 =>
      conv=>whnf
      refine C3 (fun g2=>?_) (fun g2=>?_)<;>rw [g2]<;>simp only [beq_iff_eq,beq_eq_false_iff_ne,ne_eq] at g2
     case' refine_1.refine_1 =>
      conv=>whnf
      refine G6 htp rfl (by omega) hfp (by rfl) ?_
      have hR3:=hwp (Z':=⟨44,4,1,C9 fp 0 (.agg [.own 1 bn 0 l.length,eI (M9 p),eI r.ship.fee,dv])⟩) hR
      have hfp3:C9 fp 0 (.agg [.own 1 bn 0 l.length,eI (M9 p),eI r.ship.fee,dv]) 0=.agg [.own 1 bn 0 l.length,eI (M9 p),eI (A0m r.ship (S9 l).length (M9 p)),dv]:=by rw [A2,hF,if_neg (by omega)]
     case' refine_1.refine_2 =>
      conv=>whnf
      refine D9 htp rfl (by omega) hfp ?_;conv=>whnf
      refine C3 (fun g3=>?_) (fun g3=>?_)<;>rw [g3]<;>simp only [decide_eq_true_eq,decide_eq_false_iff_not] at g3
     case' refine_1.refine_2.refine_1 =>
      conv=>whnf
      refine G6 htp rfl (by omega) hfp (by rfl) ?_
      have hR3:=hwp (Z':=⟨44,4,1,C9 fp 0 (.agg [.own 1 bn 0 l.length,eI (M9 p),eI r.ship.fee,dv])⟩) hR
      have hfp3:C9 fp 0 (.agg [.own 1 bn 0 l.length,eI (M9 p),eI r.ship.fee,dv]) 0=.agg [.own 1 bn 0 l.length,eI (M9 p),eI (A0m r.ship (S9 l).length (M9 p)),dv]:=by rw [A2,hF,if_neg (by omega)]
     case' refine_1.refine_2.refine_2 =>
      have hR3:=hR
      have hfp3:fp 0=.agg [.own 1 bn 0 l.length,eI (M9 p),eI (A0m r.ship (S9 l).length (M9 p)),dv]:=by rw [hfp,hF,if_pos (by omega)]
     case' refine_2 =>
      have hR3:=hR
      have hfp3:fp 0=.agg [.own 1 bn 0 l.length,eI (M9 p),eI (A0m r.ship (S9 l).length (M9 p)),dv]:=by rw [hfp,hF,if_pos (by omega)]
     all_goals
      conv=>whnf
      clear hR hfp hF
      have hfeB:0≤A0m r.ship (S9 l).length (M9 p)∧A0m r.ship (S9 l).length (M9 p)≤10000000000000:=by
       unfold A0m;split<;>omega
      refine lp o.length [3,6,11,12,13,19] (fun i vs t=>∃ (a:PSt×Int) (dv gv:AV) (G:List D6) (fp:Nat→AV),a=V0 (fun a=>a.1) (S3 (M9 p)) X2 r.promos (p,A0m r.ship (S9 l).length (M9 p)) (o.take i) ∧
       vs=[.fptr (H6 r) 0,.optr 4 b6 0 0,A6 o,.optr 4 bp 0 0,gv,eI i] ∧
       RD a.1.deals G dv gv (upd (upd s6 bn ⟨2,1,l.length,fn⟩) bp ⟨44,4,1,fp⟩) t∧fp 0=.agg [.own 1 bn 0 l.length,eI (M9 p),eI a.2,dv] ∧
       named G=a.1.groups∧G.length≤60+i∧a.1.deals.length≤60+i∧0≤a.2∧a.2≤10000000000000) ?_ ?_
      ·conv=>whnf
       exact ⟨(p,A0m r.ship (S9 l).length (M9 p)),dv,gv,G,_,rfl,rfl,hR3,hfp3,hG,by omega,by show p.deals.length≤_;omega,hfeB⟩
      clear hR3 hfp3 hG hGn hDn htp htn hd hd2 hk hi
      rintro i vs t hi ⟨a,dv,gv,G,fp,ha,rfl,hR,hfp,hG,hGn,hDn,ha0,ha1⟩
      obtain ⟨htn,htp⟩:=hat hR
      conv=>whnf
      cases hd:decide ((i:Int)<(o.length:Int))
      case false =>
       obtain rfl:=C6 hd hi
       rw [List.take_length] at ha
       have hp2:p2B r l p o=a:=ha.symm
       rw [hp2] at hXd
       have h6b:t b6=some ⟨44,4,1,fun _=>G9 r44.zero⟩:=hR.sup b6 _ (by rw [A4 hb6p,A4 hb6n];exact h6)
       have h76:D7 s6 t:=fun c x hc=>hR.sup c x (by
        have e1:c≠bp:=fun e=>by subst e;rw [hbp6] at hc;cases hc
        have e2:c≠bn:=fun e=>by subst e;rw [hbn] at hc;cases hc
        rw [A4 e1,A4 e2];exact hc)
       have hS2:D7 st t:=hst6.trans h76
       have hnets:∀ k,k<l.length→fn k=eI (gI X.nets k):=fun k hk=>by
        rw [hXd,hfn k hk]
        show eI _=eI (gI (T3 l.length p.us) k)
        unfold T3
        rw [L2 _ hk]
       conv=>whnf
       rcases hR.deals with ⟨hd0,rfl⟩ | ⟨bd,gd,rfl,hbd,hbt,hgd⟩
       ·refine D9 htp rfl (by omega) hfp ?_;conv=>whnf
        refine G6 h6b rfl (by omega) rfl (by rfl) ?_;conv=>whnf
        refine D9 (A0 ..) rfl (by omega) (A2 ..) ?_;conv=>whnf
        exact .inr ⟨hk0,bn,fn,.emp,by rw [hXd];rfl,hstn,by rw [A4 hb6n.symm];exact htn,hnets,hS2.over hb6,.inl ⟨by rw [hXd];exact hd0,rfl⟩⟩
       ·have hbdp:bd≠bp:=fun e=>by subst e;rw [A0] at hbd;cases hbd
        rw [A4 hbdp] at hbd
        have hbdn:bd≠bn:=fun e=>by subst e;rw [A0] at hbd;cases hbd
        rw [A4 hbdn] at hbd
        have hbd6:bd≠b6:=fun e=>by subst e;rw [h6] at hbd;cases hbd
        refine D9 htp rfl (by omega) hfp ?_;conv=>whnf
        refine G6 h6b rfl (by omega) rfl (by rfl) ?_;conv=>whnf
        refine D9 (A0 ..) rfl (by omega) (A2 ..) ?_;conv=>whnf
        exact .inr ⟨hk0,bn,fn,.own 2 bd 0 a.1.deals.length,by rw [hXd];rfl,hstn,by rw [A4 hb6n.symm];exact htn,hnets,hS2.over hb6,.inr ⟨bd,gd,by rw [hXd],hst6.none hbd,hbdn,by rw [A4 hbd6,hXd];exact hbt,by rw [hXd];exact hgd⟩⟩
      case true =>
       have hi':=E4 hd
       have hx:=hom _ (B3 hi')
       have hx0:0≤gI o (i:Int).toNat:=hx.1
       have hx1:(gI o (i:Int).toNat).toNat<r.promos.length:=hx.2
       have hpm:(r.promos.getD (gI o (i:Int).toNat).toNat default)∈r.promos:=B3 hx.2
       have hpc1:I9 (r.promos.getD (gI o (i:Int).toNat).toNat default)=true:=hck.promo _ hpm
       have hnext:V0 (fun a=>a.1) (S3 (M9 p)) X2 r.promos (p,A0m r.ship (S9 l).length (M9 p)) (o.take (i+1))=if X2 (r.promos.getD (gI o (i:Int).toNat).toNat default)=true then goB (fun a=>a.1) (S3 (M9 p)) a (r.promos.getD (gI o (i:Int).toNat).toNat default) else a:=by
        rw [htk hi',A9w,←ha];rfl
       have hend:∀ {q:PSt×Int} {dv' gv':AV} {G':List D6} {fp':Nat→AV} {t':St},q=V0 (fun a=>a.1) (S3 (M9 p)) X2 r.promos (p,A0m r.ship (S9 l).length (M9 p)) (o.take (i+1))→RD q.1.deals G' dv' gv' (upd (upd s6 bn ⟨2,1,l.length,fn⟩) bp ⟨44,4,1,fp'⟩) t'→fp' 0=.agg [.own 1 bn 0 l.length,eI (M9 p),eI q.2,dv'] →
         named G'=q.1.groups→G'.length≤60+(i+1)→q.1.deals.length≤60+(i+1)→0≤q.2∧q.2≤10000000000000→∃ (a:PSt×Int) (dv gv:AV) (G:List D6) (fp:Nat→AV),a=V0 (fun a=>a.1) (S3 (M9 p)) X2 r.promos (p,A0m r.ship (S9 l).length (M9 p)) (o.take (i+1)) ∧
         [.fptr (H6 r) 0,.optr 4 b6 0 0,A6 o,.optr 4 bp 0 0,gv',eI (IntKind.i64.wrap ((i:Int)+1))]=[.fptr (H6 r) 0,.optr 4 b6 0 0,A6 o,.optr 4 bp 0 0,gv,eI ((i+1:Nat):Int)] ∧
         RD a.1.deals G dv gv (upd (upd s6 bn ⟨2,1,l.length,fn⟩) bp ⟨44,4,1,fp⟩) t'∧fp 0=.agg [.own 1 bn 0 l.length,eI (M9 p),eI a.2,dv] ∧
         named G=a.1.groups∧G.length≤60+(i+1)∧a.1.deals.length≤60+(i+1)∧0≤a.2∧a.2≤10000000000000:=fun {q dv' gv' G' fp' t'} h1 h2 h3 h4 h5 h6 h7=>⟨q,dv',gv',G',fp',h1,by rw [B9 (by omega)],h2,h3,h4,h5,h6,h7⟩
       conv=>whnf
       refine ⟨[8,9],[1,5,7],List.range 10,by kernel_rfl,?_⟩;conv=>whnf
       refine ⟨_,fun s _=>⟨rfl,rfl⟩,?_⟩;conv=>whnf
       refine ⟨rfl,⟨by omega,by omega⟩,?_⟩;conv=>whnf
       refine ⟨_,fun s _=>⟨rfl,rfl⟩,?_⟩;conv=>whnf
       refine ⟨rfl,⟨by show 0≤gI o (i:Int).toNat;omega,by show gI o (i:Int).toNat<(r.promos.length:Int);omega⟩,?_⟩;conv=>whnf
       refine ⟨_,fun s _=>⟨rfl,rfl⟩,?_⟩;conv=>whnf
       rw [show ((r.promos.getD (gI o (i:Int).toNat).toNat default).kind != 7)=!((r.promos.getD (gI o (i:Int).toNat).toNat default).kind==7) from rfl]
       cases h7:((r.promos.getD (gI o (i:Int).toNat).toNat default).kind==7)
       case false =>
        rw [if_neg (by unfold X2;rw [h7];simp)] at hnext;conv=>whnf
        refine ⟨rfl,?_⟩;conv=>whnf
        exact nx hi' (hend hnext.symm hR hfp hG (by omega) (by omega) ⟨ha0,ha1⟩)
       case true =>
        have hns:X2 (r.promos.getD (gI o (i:Int).toNat).toNat default)=true:=by unfold X2;rw [h7]
        rw [if_pos hns,C3T hG] at hnext;conv=>whnf
        refine A7 (B4u G (r.promos.getD (gI o (i:Int).toNat).toNat default).group (by omega) gv _ hR.groups) ?_
        cases htk2:(!L4 (r.promos.getD (gI o (i:Int).toNat).toNat default).group&&G.any fun y=>y.toList==(r.promos.getD (gI o (i:Int).toNat).toNat default).group.toList)
        case true =>
         rw [if_pos htk2] at hnext;conv=>whnf
         refine ⟨rfl,?_⟩;conv=>whnf
         exact nx hi' (hend hnext.symm hR hfp hG (by omega) (by omega) ⟨ha0,ha1⟩)
        case false =>
         rw [if_neg (by rw [htk2];simp)] at hnext
         have hgl:=B8c G
         rw [hG] at hgl
         have hinv:=B1r (net:=M9 p) (n:=0) hpc1 hns (a:=a) ⟨by omega,by omega,ha0,ha1⟩
         have hS0:S3 (M9 p) a (r.promos.getD (gI o (i:Int).toNat).toNat default)=((A5Z a.1 (r.promos.getD (gI o (i:Int).toNat).toNat default) (M9 p) a.2).2,(A5Z a.1 (r.promos.getD (gI o (i:Int).toNat).toNat default) (M9 p) a.2).1):=rfl
         have hSB:A5Z a.1 (r.promos.getD (gI o (i:Int).toNat).toNat default) (M9 p) a.2=if M9 p<(r.promos.getD (gI o (i:Int).toNat).toNat default).least then (a.2,a.1) else (a.2 - I7 a.2 (r.promos.getD (gI o (i:Int).toNat).toNat default).rate,if I7 a.2 (r.promos.getD (gI o (i:Int).toNat).toNat default).rate>0 then A0O a.1 (r.promos.getD (gI o (i:Int).toNat).toNat default) (I7 a.2 (r.promos.getD (gI o (i:Int).toNat).toNat default).rate) else a.1):=rfl
         rw [hS0] at hnext hinv;conv=>whnf
         refine D9 htp rfl (by omega) hfp ?_;conv=>whnf
         cases hgt:decide ((r.promos.getD (gI o (i:Int).toNat).toNat default).least>M9 p)
         case true =>
          have hgt':=of_decide_eq_true hgt
          rw [hSB,if_pos hgt'] at hnext;conv=>whnf
          refine ⟨rfl,?_⟩;conv=>whnf
          exact nx hi' (hend (q:=a) hnext.symm hR hfp hG (by omega) (by omega) ⟨ha0,ha1⟩)
         case false =>
          have hgt':=of_decide_eq_false hgt
          rw [if_neg (by omega)] at hSB
          have hb:=Q7 a.2 (r.promos.getD (gI o (i:Int).toNat).toNat default).rate
          have hr0:=(A2I hpc1).ship (by simpa using h7)
          have hle:=A3Z ha0 (show 0≤(r.promos.getD (gI o (i:Int).toNat).toNat default).rate by omega) hr0.2
          have hw:IntKind.i64.wrap (a.2 - I7 a.2 (r.promos.getD (gI o (i:Int).toNat).toNat default).rate)=a.2 - I7 a.2 (r.promos.getD (gI o (i:Int).toNat).toNat default).rate:=A9 (by omega) (by omega)
          conv=>whnf
          refine D9 htp rfl (by omega) hfp ?_;conv=>whnf
          refine A7 (A7l a.2 (r.promos.getD (gI o (i:Int).toNat).toNat default).rate _) ?_;conv=>whnf
          cases hgh:decide (I7 a.2 (r.promos.getD (gI o (i:Int).toNat).toNat default).rate>0)
          case false =>
           have hgh':=of_decide_eq_false hgh
           rw [if_neg hgh'] at hSB
           rw [hSB,show a.2 - I7 a.2 (r.promos.getD (gI o (i:Int).toNat).toNat default).rate=a.2 by omega] at hnext;conv=>whnf
           refine ⟨rfl,?_⟩;conv=>whnf
           exact nx hi' (hend (q:=a) hnext.symm hR hfp hG (by omega) (by omega) ⟨ha0,ha1⟩)
          case true =>
           have hgh':=of_decide_eq_true hgh
           rw [if_pos hgh'] at hSB
           rw [hSB] at hnext hinv;conv=>whnf
           refine ⟨[1,6,7,8,10],[],[],.qui 0 (.qui 2 (.qui 4 (.qui 5 (.two 1 6 (.qui 3 (.qui 9 (.gen 6 (.gen 7 (.gen 8 (.gen 10 (.qui 11 .done))))))) (.two 1 7 (.qui 3 (.qui 9 (.gen 7 (.gen 8 (.gen 10 (.qui 11 .done)))))) (.two 1 8 (.qui 3 (.qui 9 (.gen 8 (.gen 10 (.qui 11 .done))))) (.gen 1 (.qui 3 (.qui 9 (.gen 10 (.qui 11 .done))))))))))),by kernel_rfl,?_⟩;conv=>whnf
           repeat' (refine And.intro ?_ ?_<;>(conv=>whnf))
           all_goals first
            | (refine D9 htp rfl (by omega) hfp ?_
               conv=>whnf
               refine RD.appG (y:=(r.promos.getD (gI o (i:Int).toNat).toNat default).group) hR rfl rfl (by omega) (fun gv' t1 hR1=>?_))
            | (refine RD.appG (y:=(r.promos.getD (gI o (i:Int).toNat).toNat default).group) hR rfl rfl (by omega) (fun gv' t1 hR1=>?_)
               conv=>whnf
               refine D9 (hat hR1).2 rfl (by omega) hfp ?_)
           all_goals
            conv=>whnf
            refine G6 (hat hR1).2 rfl (by omega) hfp (by rfl) ?_
            have hR2:=hwp (Z':=⟨44,4,1,C9 fp 0 (.agg [.own 1 bn 0 l.length,eI (M9 p),eI (IntKind.i64.wrap (a.2 - I7 a.2 (r.promos.getD (gI o (i:Int).toNat).toNat default).rate)),dv])⟩) hR1
            rcases ROut.head hR2 with rfl | ⟨bo,rfl⟩
            all_goals
             conv=>whnf
             refine D9 (hat hR2).2 rfl (by omega) (A2 ..) ?_;conv=>whnf
             refine RD.appD (y:=⟨(r.promos.getD (gI o (i:Int).toNat).toNat default).id,I7 a.2 (r.promos.getD (gI o (i:Int).toNat).toNat default).rate⟩) hR2 rfl (by rfl) (by omega) (fun bd t2 hR3=>?_);conv=>whnf
             refine G6 (hat hR3).2 rfl (by omega) (A2 ..) (by rfl) ?_;conv=>whnf
             refine ⟨rfl,?_⟩;conv=>whnf
             refine nx hi' ?_
             exact hend (q:=(A0O a.1 (r.promos.getD (gI o (i:Int).toNat).toNat default) (I7 a.2 (r.promos.getD (gI o (i:Int).toNat).toNat default).rate),a.2 - I7 a.2 (r.promos.getD (gI o (i:Int).toNat).toNat default).rate)) (G':=G++[(r.promos.getD (gI o (i:Int).toNat).toNat default).group]) hnext.symm (hwp hR3) (by rw [A2,hw];rfl) (by rw [A9M,hG];rfl) (by rw [List.length_append];show G.length+1≤_;omega) (by show (a.1.deals++[_]).length≤_;rw [List.length_append];show a.1.deals.length+1≤_;omega) ⟨by show 0≤a.2 - I7 a.2 (r.promos.getD (gI o (i:Int).toNat).toNat default).rate;omega,by show a.2 - I7 a.2 (r.promos.getD (gI o (i:Int).toNat).toNat default).rate≤_;omega⟩
def IsF (n:Nat) (F:Nat→Bool) (y:R3):Prop:=∃ f,y=⟨4,1,n,f⟩∧∀ k,k<n→f k=eB (F k)
theorem IsF.set {n i:Nat} {F F':Nat→Bool} {f:Nat→AV} (h:∀ k,k<n→f k=eB (F k)) (h1:F' i=true) (h2:∀ k,k≠i→F' k=F k):IsF n F' ⟨4,1,n,C9 f i (eB true)⟩:=by
 refine ⟨_,rfl,fun k hk=>?_⟩
 by_cases e:k=i
 ·subst e;rw [A2,h1]
 ·rw [H7 e,h k hk,h2 k e]
def OD (bo bd:Nat) (L:List Int) (n:Nat) (F:Nat→Bool):St→St→Prop:=U4 bo (IsL L) (U4 bd (IsF n F) D7)
theorem A4B (bo bd:Nat) (L:List Int) (n:Nat) (F:Nat→Bool):J5 (OD bo bd L n F):=Y3 (Y3 B1)
section
variable {bo bd n:Nat} {L L':List Int} {F F':Nat→Bool} {s t:St} {y:R3}
theorem OD.setL (h:OD bo bd L n F s t) (hy:IsL L' y):OD bo bd L' n F s (upd t bo y):=U4.set (Y3 B1) h hy
theorem OD.setD (h:OD bo bd L n F s t) (hy:IsF n F' y):OD bo bd L n F' s (upd t bd y):=U4.map h fun s h=>U4.set B1 h hy
theorem OD.atL (h:OD bo bd L n F s t):∃ y,IsL L y∧t bo=some y:=U4.at (Y3 B1) h
theorem OD.atD (h:OD bo bd L n F s t):∃ y,IsF n F y∧t bd=some y:=by
 obtain ⟨_,y,_,h⟩:=h
 exact U4.at B1 h
theorem OD.congr (h:OD bo bd L n F s t) (hF:∀ k,k<n→F k=F' k):OD bo bd L n F' s t :=
 U4.map h fun s h=>U4.weak h fun y ⟨f,h1,h2⟩=>⟨f,h1,fun k hk=>by rw [h2 k hk,hF k hk]⟩
end
theorem B7N {t:Z9} {rates nets:List Int} {D:Int→Bool} {L:List Int} (h:B1m t rates nets D L) (hD:∀ i,i<nets.length→D (-(gI rates i))=true):L=F5 t rates nets:=by
 have hl:(F5 t rates nets).length=nets.length:=by unfold F5;rw [List.length_map,List.length_range]
 refine C0b (by rw [h.1,hl]) fun i h1=>?_
 have hi:i<nets.length:=by rw [←h.1];exact h1
 have h3:=h.2 i hi
 rw [if_pos (hD i hi)] at h3
 rw [h3]
 unfold F5 gI
 rw [List.getD_eq_getElem?_getD,List.getElem?_map,List.getElem?_range hi];rfl
def A6N (rates:List Int) (k:Int) (m:Nat):Nat:=((List.range m).filter fun i=>-(gI rates i)==k).length
theorem B9N (rates:List Int) (k:Int) (m:Nat):A6N rates k (m+1)=A6N rates k m+(if (-(gI rates m)==k)=true then 1 else 0):=by
 unfold A6N
 rw [List.range_succ,List.filter_append,List.length_append]
 congr 1
 by_cases h:(-(gI rates m)==k)=true
 ·rw [if_pos h,List.filter_cons_of_pos (p:=fun i=>-(gI rates i)==k) h];rfl
 ·rw [if_neg h,List.filter_cons_of_neg (p:=fun i=>-(gI rates i)==k) h];rfl
theorem C2k (rates:List Int) (k:Int):A6N rates k rates.length=(K0 rates k).length:=rfl
theorem C4y {rates:List Int} {k:Int} {m:Nat} (hm:m≤rates.length):A6N rates k m≤(K0 rates k).length:=by
 unfold A6N K0
 exact (((List.range_sublist.2 hm).filter _).length_le)
theorem C4x {rates:List Int} {k:Int} {m:Nat} (hm:m<rates.length) (h:(-(gI rates m)==k)=true):A6N rates k m<(K0 rates k).length∧gN (K0 rates k) (A6N rates k m)=m:=by
 have hk : -(gI rates m)=k:=by simpa using h
 have hg:m∈K0 rates k:=List.mem_filter.2 ⟨List.mem_range.2 hm,h⟩
 have e1:=A6Y hm
 rw [(Y4 hg).2.2] at e1
 have e2:Y6 rates m=A6N rates k m:=by
  unfold Y6 A6N
  congr 1
  refine List.filter_congr fun j _=>?_
  rw [Bool.eq_iff_iff,beq_iff_eq,beq_iff_eq];omega
 rw [e2] at e1
 obtain ⟨e3,e4⟩:=List.getElem?_eq_some_iff.1 e1
 refine ⟨e3,?_⟩
 show (((K0 rates k).getD (A6N rates k m) 0:Nat):Int)=m
 rw [List.getD_eq_getElem?_getD,e1];rfl
set_option maxHeartbeats 8000000 in
theorem B5R (t:Z9) (rates nets:List Int) (hn:A3E nets) (hr:rates.length=nets.length) (hq:∀ x∈rates,0≤x∧x≤10000) (st:St) :
  S P 220 [L7 t,A6 rates,A6 nets] st fun v st'=>v=A6 (F5 t rates nets)∧st'=st:=by
 have hnl:=hn.len
 have hns:=hn.sum
 have hol:(F5 t rates nets).length=nets.length:=by unfold F5;rw [List.length_map,List.length_range]
 refine S.post (post:=fun v s=>∃ bo,v=.own 1 bo 0 nets.length∧st bo=none∧(∃ y,IsL (F5 t rates nets) y∧s bo=some y)∧D7 st s) ?_ (fun v s ⟨bo,h1,h2,⟨y,⟨f,hy,hf⟩,hb⟩,h4⟩=>⟨_,st,⟨rfl,rfl⟩,by
  subst hy;rw [h1]
  have e:A6 (F5 t rates nets)=.arr 1 nets.length (fun i=>eI (gI (F5 t rates nets) i)):=by unfold A6 B2;rw [hol]
  rw [e]
  exact (G0 hb rfl (by show nets.length≤(F5 t rates nets).length;omega) (fun i hi=>hf i (by omega))).trans ((D7.del h4 h2).shift _)⟩)
 refine A8 [3] B8 mixed Tryz.func220 (by rfl) rfl rfl rfl ?_;conv=>whnf
 refine mkO rfl rfl rfl (by show 8 * nets.length≤_;omega) (by omega) (by rfl) (fun bo hbo=>?_);conv=>whnf
 refine mkO rfl rfl rfl (by show 1 * nets.length≤_;omega) (by omega) (by rfl) (fun bd hbd=>?_);conv=>whnf
 refine lp nets.length [1,2,3,7,8,9] (fun i vs u=>∃ (D:Int→Bool) (L:List Int),vs=[A6 rates,A6 nets,.fptr (L7 t) 0,.own 1 bo 0 nets.length,.own 1 bd 0 nets.length,eI i]∧B1m t rates nets D L∧(∀ j,j<i→D (-(gI rates j))=true)∧OD bo bd L nets.length (fun k=>D (-(gI rates k))) st u) ?_ ?_
 ·conv=>whnf
  exact ⟨fun _=>false,List.replicate nets.length 0,rfl,⟨List.length_replicate,fun i hi=>by
   rw [if_neg (by simp)];unfold gI
   rw [List.getD_eq_getElem?_getD,List.getElem?_replicate];split<;>rfl⟩,fun j hj=>absurd hj (by omega),hbo,_,⟨fun _=>G9 r2.zero,by rw [List.length_replicate];rfl,fun i hi=>by
   unfold gI;rw [List.getD_eq_getElem?_getD,List.getElem?_replicate];split<;>rfl⟩,hbd,_,⟨fun _=>G9 r4.zero,rfl,fun k hk=>rfl⟩,D7.refl _⟩
 rintro i vs u hi ⟨D,L,rfl,hdone,hall,hR⟩
 conv=>whnf
 cases h1:decide ((i:Int)<(nets.length:Int))
 case false =>
  obtain rfl:=C6 h1 hi
  have hL:=B7N hdone hall
  conv=>whnf
  obtain ⟨y,hy,hb⟩:=hR.atL
  have hsup:=(A4B ..).sup hR
  exact ⟨bo,rfl,hbo,⟨y,by rw [←hL];exact hy,hb⟩,hsup⟩
 have hi':=E4 h1
 obtain ⟨yd,⟨fd,rfl,hfd⟩,hbd2⟩:=hR.atD
 conv=>whnf
 refine ⟨rfl,⟨by omega,by omega⟩,?_⟩;conv=>whnf
 refine D9 hbd2 rfl (by omega) (v:=eB (D (-(gI rates i)))) (by rw [show 0+((i:Nat):Int).toNat=i by omega];exact hfd i hi') ?_;conv=>whnf
 cases hD:D (-(gI rates i))
 case true =>
  conv=>whnf
  refine ⟨rfl,?_⟩;conv=>whnf
  exact nx hi' ⟨D,L,by rw [B9 (by omega)],hdone,fun j hj=>by
   by_cases e:j=i
   ·rw [e];exact hD
   ·exact hall j (by omega),hR⟩
 clear hbd2 hfd
 obtain ⟨key,hkey⟩:∃ key,key = -(gI rates i):=⟨_,rfl⟩
 have hil:i<rates.length:=by omega
 have hrate:0≤gI rates i∧gI rates i≤10000:=hq (gI rates i) (B3 hil)
 have him:i∈K0 rates key:=List.mem_filter.2 ⟨List.mem_range.2 hil,by rw [hkey];exact beq_self_eq_true _⟩
 have hnext:=B1n (k:=key) hdone hr
 have hcl:=fun m (hm:m≤rates.length)=>C4y (k:=key) hm
 have hca:=fun m (hm:m<rates.length) h=>C4x (k:=key) hm h
 have hcn:=B9N rates key
 have hce:=C2k rates key
 have hc0:A6N rates key i=0:=by
  unfold A6N
  rw [List.length_eq_zero_iff,List.filter_eq_nil_iff]
  intro j hj hk
  have hj:=List.mem_range.1 hj
  have h2:=hall j hj
  rw [show -(gI rates j) = -(gI rates i) by rw [←hkey];simpa using hk,hD] at h2
  cases h2
 have hparts:(A1I t rates nets key).length=(K0 rates key).length∧(∀ st,S P 257 [eI (B6 t (A5 ((K0 rates key).map (gI nets))) (gI rates i)),A6 ((K0 rates key).map (gI nets))] st fun v st'=>v=.tuple [A6 (A1I t rates nets key),eI 0]∧st'=st):=by
  have hw:=A1R (t:=t) hn hr (i:=i) hrate
  have e:I1 rates nets i=(K0 rates key).map (gI nets):=by unfold I1;rw [(Y4 him).2.2]
  rw [e] at hw
  have h3:=(Q4 hw).2.1
  have e2:A1I t rates nets key=D5 (B6 t (A5 ((K0 rates key).map (gI nets))) (gI rates i)) ((K0 rates key).map (gI nets)):=by unfold A1I;rw [hkey,show - -(gI rates i)=gI rates i by omega]
  rw [e2]
  refine ⟨by rw [h3,List.length_map],fun st=>?_⟩
  exact A6q _ _ hw st
 have hGok:=fun j=>C3S (rates:=rates) (k:=key) (j:=j)
 have hsub:((K0 rates key).map (gI nets)).Sublist nets:=by
  have h1:((K0 rates key).map (gI nets)).Sublist ((List.range nets.length).map (gI nets)):=by
   refine List.Sublist.map _ ?_
   unfold K0;rw [hr];exact List.filter_sublist
  rw [A4Y] at h1;exact h1
 have hw0:∀ v∈(K0 rates key).map (gI nets),0≤v:=fun v hv=>hn.pos v (hsub.subset hv)
 have hws:A5 ((K0 rates key).map (gI nets))≤10000000000000:=by have:=B0u hsub hn.pos;omega
 have hGl:(K0 rates key).length≤nets.length:=by have:=hsub.length_le;rwa [List.length_map] at this
 have hGp:0<(K0 rates key).length:=List.length_pos_of_mem him
 have hgm:∀ j,j<(K0 rates key).length→gI ((K0 rates key).map (gI nets)) j=gI nets (gN (K0 rates key) j).toNat:=fun j hj=>by
  show gI ((K0 rates key).map (gI nets)) j=gI nets ((((K0 rates key).getD j 0:Nat):Int)).toNat
  rw [Int.toNat_natCast]
  unfold gI
  rw [List.getD_eq_getElem?_getD,List.getElem?_map,List.getD_eq_getElem?_getD (l:=K0 rates key),List.getElem?_eq_getElem hj];rfl
 generalize K0 rates key=G at *
 generalize A1I t rates nets key=X at *
 generalize hCnt:A6N rates key=cnt at *
 conv=>whnf
 refine lp (nets.length - i) [1,2,3,7,8,9,10,11,12] (fun j vs u=>∃ (lv wv:AV),vs=[A6 rates,A6 nets,.fptr (L7 t) 0,.own 1 bo 0 nets.length,.own 1 bd 0 nets.length,eI i,lv,wv,eI ((i+j:Nat):Int)]∧ROut (fun s t=>ROut (OD bo bd L nets.length (fun m=>D (-(gI rates m))||(decide (m<i+j)&&(-(gI rates m)==key)))) 3 1 (fun x=>eI (gN G x)) (cnt (i+j)) s lv t) 2 1 (fun x=>eI (gI (G.map (gI nets)) x)) (cnt (i+j)) st wv u) ?_ ?_
 ·conv=>whnf
  refine ⟨.emp,.emp,rfl,?_⟩
  rw [Nat.add_zero,hc0]
  refine ROut.start (show ROut _ _ _ _ 0 st .emp u from ROut.start (show OD _ _ _ _ _ st u from hR.congr fun m hm=>?_) _ _ _) _ _ _
  by_cases e:m<i
  ·rw [hall m e,Bool.true_or]
  ·rw [decide_eq_false e,Bool.false_and,Bool.or_false]
 clear hR
 rintro j vs w hj ⟨lv,wv,rfl,hR⟩
 conv=>whnf
 cases h2:decide ((((i+j:Nat)):Int)<(nets.length:Int))
 case true =>
  have hj':i+j<nets.length:=by have:=of_decide_eq_true h2;omega
  have hcj:=hcn (i+j)
  conv=>whnf
  refine ⟨[],[],List.range 9,by kernel_rfl,?_⟩;conv=>whnf
  refine ⟨rfl,⟨by omega,by omega⟩,?_⟩;conv=>whnf
  refine ⟨rfl,⟨by omega,by omega⟩,?_⟩;conv=>whnf
  have hk3:(rates.getD (((i+j:Nat):Int)).toNat default==rates.getD ((i:Nat):Int).toNat default)=(-(gI rates (i+j))==key):=by
   rw [Int.toNat_natCast,Int.toNat_natCast,hkey,Bool.eq_iff_iff,beq_iff_eq,beq_iff_eq]
   show gI rates (i+j)=gI rates i↔-(gI rates (i+j)) = -(gI rates i)
   omega
  rw [hk3]
  cases h3:(-(gI rates (i+j))==key)
  case false =>
   rw [h3,if_neg (by simp)] at hcj;conv=>whnf
   refine ⟨rfl,?_⟩;conv=>whnf
   refine nx (n:=nets.length - i) (by omega) ⟨lv,wv,by rw [B9 (by omega)];rfl,?_⟩
   rw [show i+(j+1)=i+j+1 from rfl,hcj]
   refine ROut.map hR fun s h=>ROut.map h fun s h=>OD.congr h fun m hm=>?_
   by_cases e:m=i+j
   ·subst e;rw [h3,Bool.and_false,Bool.and_false]
   ·rw [show decide (m<i+j+1)=decide (m<i+j) from decide_eq_decide.2 (by omega)]
  rw [h3,if_pos rfl] at hcj
  obtain ⟨hc1,hc2⟩:=hca (i+j) (by omega) h3
  obtain ⟨s0,hw0,s1,hl0,hOD⟩:=hR
  obtain ⟨yd,⟨fd,rfl,hfd⟩,hbd2⟩:=hOD.atD
  conv=>whnf
  refine ⟨rfl,⟨by omega,by omega⟩,?_⟩;conv=>whnf
  refine G6 hbd2 rfl (by omega) (hfd (0+((i+j:Nat):Int).toNat) (by omega)) (by rfl) ?_
  have hOD2:OD bo bd L nets.length (fun m=>D (-(gI rates m))||(decide (m<i+j+1)&&(-(gI rates m)==key))) s1 _:=hOD.setD (IsF.set (i:=0+((i+j:Nat):Int).toNat) hfd (by rw [show 0+((i+j:Nat):Int).toNat=i+j by omega,h3,decide_eq_true (by omega),Bool.and_true,Bool.or_true]) (fun k hk=>by
   rw [show decide (k<i+j+1)=decide (k<i+j) from decide_eq_decide.2 (by omega)]))
  have hB1:=A4B bo bd L nets.length (fun m=>D (-(gI rates m))||(decide (m<i+j+1)&&(-(gI rates m)==key)))
  have hin:ROut (OD bo bd L nets.length (fun m=>D (-(gI rates m))||(decide (m<i+j+1)&&(-(gI rates m)==key)))) 3 1 (fun x=>eI (gN G x)) (cnt (i+j)) s0 lv _:=⟨s1,hl0,hOD2⟩
  have hout:ROut (fun s t=>ROut (OD bo bd L nets.length (fun m=>D (-(gI rates m))||(decide (m<i+j+1)&&(-(gI rates m)==key)))) 3 1 (fun x=>eI (gN G x)) (cnt (i+j)) s lv t) 2 1 (fun x=>eI (gI (G.map (gI nets)) x)) (cnt (i+j)) st wv _:=⟨s0,hw0,hin⟩
  have hwv:=ROut.head hout
  have hlv:=ROut.head hin
  have hgc:=hgm _ hc1
  rw [hc2] at hgc
  have hcl2:=hcl (i+j) (by omega)
  rcases hlv with rfl | ⟨bl,rfl⟩<;>rcases hwv with rfl | ⟨bw,rfl⟩
  all_goals
   conv=>whnf
   refine ⟨[2,3,8,9,10],[],[],.qui 0 (.qui 1 (.qui 4 (.qui 5 (.qui 6 (.qui 7 (.two 2 8 (.two 3 8 (.gen 8 (.gen 9 (.gen 10 (.qui 11 (.qui 12 .done))))) (.two 3 9 (.gen 9 (.gen 10 (.qui 11 (.qui 12 .done)))) (.gen 3 (.gen 10 (.qui 11 (.qui 12 .done)))))) (.two 2 9 (.two 3 9 (.gen 9 (.gen 10 (.qui 11 (.qui 12 .done)))) (.gen 3 (.gen 10 (.qui 11 (.qui 12 .done))))) (.gen 2 (.gen 3 (.gen 10 (.qui 11 (.qui 12 .done)))))))))))),by kernel_rfl,?_⟩;conv=>whnf
   refine ⟨rfl,⟨by omega,by omega⟩,?_⟩;conv=>whnf
   repeat' (refine And.intro ?_ ?_<;>(conv=>whnf))
   all_goals
    refine ROut.app (q:=r3) hB1 rfl rfl rfl rfl rfl (f:=fun x=>eI (gN G x)) (by show _=eI _;rw [hc2];rfl) (by show (cnt (i+j)+1) * 8≤140737488355328;omega) hin (fun lv' w2 hin2=>?_)
    have hout2:ROut (fun s t=>ROut (OD bo bd L nets.length (fun m=>D (-(gI rates m))||(decide (m<i+j+1)&&(-(gI rates m)==key)))) 3 1 (fun x=>eI (gN G x)) (cnt (i+j)+1) s lv' t) 2 1 (fun x=>eI (gI (G.map (gI nets)) x)) (cnt (i+j)) st _ w2:=⟨s0,hw0,hin2⟩
    conv=>whnf
    refine ROut.app (q:=r2) (D8 hB1 _ _ _ _ _) rfl rfl rfl rfl rfl (f:=fun x=>eI (gI (G.map (gI nets)) x)) (by show _=eI _;rw [hgc];rfl) (by show (cnt (i+j)+1) * 8≤140737488355328;omega) hout2 (fun wv' w3 hout3=>?_);conv=>whnf
    refine ⟨rfl,?_⟩;conv=>whnf
    refine nx (n:=nets.length - i) (by omega) ⟨lv',wv',by rw [B9 (by omega)];rfl,?_⟩
    rw [show i+(j+1)=i+j+1 from rfl,hcj]
    exact hout3
 have hije:i+j=rates.length:=by have:=of_decide_eq_false h2;omega
 rw [hije,hce] at hR
 obtain ⟨w2,hsh,hR2⟩:=ROut.shift (D8 (A4B ..) _ _ _ _ _) hR
 have e0:AV.arr 1 G.length (fun x=>eI (gI (G.map (gI nets)) x))=A6 (G.map (gI nets)):=by unfold A6 B2;rw [List.length_map]
 rw [e0] at hsh
 have hsm:S P 125 [wv] w fun v s=>v=eI (A5 (G.map (gI nets)))∧s=w :=
  S.lends (A8b (G.map (gI nets)) (by rw [List.length_map];omega) hw0 (by omega) st0) (hsh.trans ((C3x _).shift _)) fun v hv=>⟨_,rfl,by rw [hv];exact So.int _ _⟩
 have hpt:=fun s=>B2M t (A5 (G.map (gI nets))) (gI rates i) hrate s
 generalize A5 (G.map (gI nets))=W at hsm hpt hparts
 generalize B6 t W (gI rates i)=M at hpt hparts
 obtain ⟨bw,rfl⟩:∃ b,wv=.own 1 b 0 G.length:=by
  rcases ROut.head hR with rfl | h
  ·obtain ⟨s0,⟨h0,_⟩ | ⟨_,b,_,_,h1,_⟩,_⟩:=hR
   ·omega
   ·cases h1
  ·exact h
 conv=>whnf
 refine ⟨[9],[],List.range 15,by kernel_rfl,?_⟩;conv=>whnf
 refine ⟨_,D1 hsm,?_⟩;conv=>whnf
 refine ⟨rfl,⟨by omega,by omega⟩,?_⟩;conv=>whnf
 refine ⟨_,D1 (hpt _),?_⟩;conv=>whnf
 refine F3 (args':=[eI M,A6 (G.map (gI nets))]) (B0.cons (B0.keep _ _) hsh) (A7 (hparts.2 _) ?_);conv=>whnf
 obtain ⟨bl,rfl⟩:∃ b,lv=.own 1 b 0 G.length:=by
  rcases ROut.head hR2 with rfl | h
  ·obtain ⟨s0,⟨h0,_⟩ | ⟨_,b,_,_,h1,_⟩,_⟩:=hR2
   ·omega
   ·cases h1
  ·exact h
 refine lp G.length [1,2,3,7,8,9,10,13,15] (fun j vs u=>vs=[A6 rates,A6 nets,.fptr (L7 t) 0,.own 1 bo 0 nets.length,.own 1 bd 0 nets.length,eI i,.own 1 bl 0 G.length,A6 X,eI j]∧ROut (OD bo bd (A3q L G X j) nets.length (fun m=>D (-(gI rates m))||(decide (m<rates.length)&&(-(gI rates m)==key)))) 3 1 (fun x=>eI (gN G x)) G.length st (.own 1 bl 0 G.length) u) ?_ ?_
 ·conv=>whnf
  exact ⟨rfl,hR2⟩
 clear hR hR2 hsm hsh
 rintro j vs v hjx ⟨rfl,hR3⟩
 have hPl:=A7h L G X j
 have hdl:=hdone.1
 have hXl:=hparts.1
 conv=>whnf
 cases h5:decide ((j:Int)<(G.length:Int))
 case true =>
  have hj5:=E4 h5
  have hGj:=hGok j (by omega)
  obtain ⟨s0,hcl,hOD⟩:=hR3
  obtain ⟨g,hb3,h4⟩:∃ g,v bl=some ⟨3,1,G.length,g⟩∧∀ k,k<G.length→g k=eI (gN G k):=by
   rcases hcl with ⟨h0,_⟩ | ⟨_,b,g,h3,h4,h5,h6⟩
   ·omega
   ·injection h4 with _ h4 _ _
    subst h4
    exact ⟨g,(A4B ..).sup hOD bl _ (by rw [h5];exact A0 ..),h6⟩
  obtain ⟨yo,⟨fo,rfl,hfo⟩,hbo3⟩:=hOD.atL
  conv=>whnf
  refine ⟨[10],[],List.range 11,by kernel_rfl,?_⟩;conv=>whnf
  refine ⟨rfl,⟨by omega,by omega⟩,?_⟩;conv=>whnf
  refine D9 hb3 rfl (by show 0+((j:Nat):Int).toNat<G.length;omega) (v:=eI (gN G j)) (by show g (0+((j:Nat):Int).toNat)=_;rw [show 0+((j:Nat):Int).toNat=j by omega];exact h4 j (by omega)) ?_;conv=>whnf
  refine ⟨rfl,⟨by omega,by omega⟩,?_⟩;conv=>whnf
  refine ⟨rfl,⟨by omega,by omega⟩,?_⟩;conv=>whnf
  refine G6 hbo3 rfl (by show 0+(gN G j).toNat<(A3q L G X j).length;omega) (hfo (0+(gN G j).toNat) (by omega)) (by rfl) ?_;conv=>whnf
  refine ⟨rfl,?_⟩;conv=>whnf
  have hset:IsL (A3q L G X (j+1)) ⟨2,1,(A3q L G X j).length,C9 fo (0+(gN G j).toNat) (eI (gI X (j:Int).toNat))⟩:=by
   have:=IsL.set (i:=(gN G j).toNat) (v:=gI X j) hfo
   rw [show 0+(gN G j).toNat=(gN G j).toNat by omega,show (j:Int).toNat=j by omega]
   exact this
  exact nx hj5 ⟨by rw [B9 (by omega)],⟨_,hcl,hOD.setL hset⟩⟩
 obtain rfl:=C6 h5 hjx
 have hfin:=ROut.dropped (A4B ..) hR3
 conv=>whnf
 refine ⟨rfl,?_⟩;conv=>whnf
 refine nx hi' ⟨fun y=>D y||y==key,A3q L G X G.length,by rw [B9 (by omega)],hnext,fun j hj=>?_,hfin.congr fun m hm=>?_⟩
 ·show (D (-(gI rates j))||(-(gI rates j)==key))=true
  by_cases e:j=i
  ·subst e;rw [hkey,beq_self_eq_true,Bool.or_true]
  ·rw [hall j (by omega),Bool.true_or]
 ·rw [decide_eq_true (by omega),Bool.true_and]
theorem A5K {t:Z9} (h:taxC t=true):t.zones.length≤20∧∀ z∈t.zones,z.rates.length≤40:=by
 have h':=h
 unfold taxC at h
 simp only [Bool.and_eq_true,Bool.not_eq_true',Bool.or_eq_false_iff,decide_eq_false_iff_not] at h
 refine ⟨by omega,fun z hz=>?_⟩
 obtain ⟨k,hk,rfl⟩:=E8 hz
 exact (A5p (A3f.1 h.2.1 k hk)).2.2.1
def C1F (t:Z9):FuncId:=if t.byOrder=true then 215 else 214
def W6 (t:Z9) (taxes nets:List Int) (i:Nat):Int:=if t.incl=true then gI nets i - gI taxes i else gI nets i
theorem B5y (f:Nat→Int) (i:Nat):(List.range (i+1)).map f=(List.range i).map f++[f i]:=by rw [List.range_succ,List.map_append];rfl
theorem T9 (n i:Nat):(List.replicate n (0:Int)).getD i default=0:=by
 rw [List.getD_eq_getElem?_getD,List.getElem?_replicate];split<;>rfl
set_option maxHeartbeats 8000000 in
theorem C4J {t:Z9} {z:K3} {s:D6} {cats:List D6} {nets:List Int} {ship:Int} (h:A0i t z cats nets ship) (hz:S4 t.zones s=some z) (exempt:Bool)
  (hTax:∀ st,S P (C1F t) [L7 t,A6 (cats.map (E6 z)),A6 nets] st fun v st'=>v=A6 (I2 t (cats.map (E6 z)) nets)∧st'=st) (st:St) :
  S P 122 [L7 t,eS s,eB exempt,D3 cats,A6 nets,eI ship] st fun v st' =>
   v=.tuple [A6 (K9 t z exempt cats nets ship).goods,A6 (K9 t z exempt cats nets ship).taxes,eI (K9 t z exempt cats nets ship).ship,eI (K9 t z exempt cats nets ship).shipTax,eI 0]∧st'=st:=by
 obtain ⟨hr1,hr2⟩:=A3s h
 obtain ⟨t1,t2⟩:=A7t (t:=t) h.nets hr1 hr2
 obtain ⟨l1,l2⟩:=A5K h.tax
 have hzm:z∈t.zones:=List.mem_of_find?_eq_some hz
 have hzr:=l2 z hzm
 have hn:=h.nets.len
 have hcl:=h.cats
 have hq:=(A5p h.zone).2.1
 have hm:=A2F (t:=t) h.ship.1 hq
 have hs:=h.ship
 have hM:=fun st=>B6S h st
 have hZ:∀ st,S P 212 [L7 t,eS s] st fun v st'=>v=.tuple [Q3 z,.bool true]∧st'=st:=fun st=>by
  have:=B0k t s (by omega) (fun z hz=>by have:=l2 z hz;omega) st
  rw [hz] at this;exact this
 have hR:=fun c st=>B5V z c (by omega) st
 have hU:=fun st=>B5z t ship z.ship hq st
 have hL:K9 t z exempt cats nets ship=⟨(List.range nets.length).map (W6 t (I2 t (cats.map (E6 z)) nets) nets),if exempt=true then List.replicate nets.length 0 else I2 t (cats.map (E6 z)) nets,if t.incl=true then ship - B6 t ship z.ship else ship,if exempt=true then 0 else B6 t ship z.ship⟩:=rfl
 rw [hL]
 have hnx:∀ i,i<nets.length→0≤gI nets i∧gI nets i≤10000000000000:=fun i hi=>by
  have h1:=h.nets.pos _ (show gI nets i∈nets from B3 hi)
  have h2:=I5 h.nets.pos (show gI nets i∈nets from B3 hi)
  have h3:=h.nets.sum
  exact ⟨h1,by omega⟩
 have htx:∀ i,i<nets.length→0≤gI (I2 t (cats.map (E6 z)) nets) i∧gI (I2 t (cats.map (E6 z)) nets) i≤10000000000000:=fun i hi=>t2 _ (B3 (by omega))
 generalize I2 t (cats.map (E6 z)) nets=TX at hTax t1 htx ⊢
 generalize B6 t ship z.ship=MS at hU hm ⊢
 clear hL t2
 refine S.post (post:=fun v s'=>∃ gv tv c1 c2,v=.tuple [gv,tv,eI (if t.incl=true then ship - MS else ship),eI (if exempt=true then 0 else MS),eI 0] ∧
   B0 [gv] s' [A6 ((List.range nets.length).map (W6 t TX nets))] c1∧B0 [tv] c1 [A6 (if exempt=true then List.replicate nets.length 0 else TX)] c2∧D7 st c2) ?_
  (fun v s' ⟨gv,tv,c1,c2,h1,h2,h3,h4⟩=>⟨_,st,⟨rfl,rfl⟩,by
   rw [h1]
   exact (B0.tuple (B0.cons h2 (B0.cons h3 (B0.keep _ _))) rfl).trans (h4.shift _)⟩)
 refine A8 [6] B8 mixed Tryz.func122 (by rfl) rfl rfl rfl ?_;conv=>whnf
 refine A7 (hM _) ?_;conv=>whnf
 refine A7 (hZ _) ?_;conv=>whnf
 intro b17 hb17;conv=>whnf
 refine G6 (A0 ..) rfl (by omega) rfl (by rfl) ?_
 rw [B7];conv=>whnf
 generalize hst:(upd st b17 _:St)=S0
 obtain ⟨f17,at17,hf17⟩:∃ f17:Nat→AV,S0 b17=some ⟨184,4,1,f17⟩∧f17 0=Q3 z:=by rw [←hst];exact ⟨_,A0 ..,by rw [A2];rfl⟩
 have hs0:D7 st S0:=by rw [←hst];exact (D7.refl st).upd hb17
 clear hst
 refine lp cats.length [2,4,5,6,12,17,19,39,40,41] (fun i vs u=>∃ sv,vs=[eB exempt,A6 nets,eI ship,.fptr (L7 t) 0,.emp,.optr 4 b17 0 0,sv,D3 cats,eI cats.length,eI i]∧F2 2 1 eI ((cats.take i).map (E6 z)) S0 sv u) ?_ ?_
 ·conv=>whnf
  exact ⟨.emp,rfl,F2.start _ _ _ _⟩
 rintro i vs u hi ⟨sv,rfl,hc⟩
 have hcs:=hc.sup
 conv=>whnf
 cases h1:decide ((i:Int)<(cats.length:Int))
 case true =>
  have hi':=E4 h1
  have hln:((cats.take i).map (E6 z)).length=i:=by rw [List.length_map,List.length_take];omega
  have hRi:=fun st=>hR (cats.getD (i:Int).toNat default) st
  have htk:(cats.take (i+1)).map (E6 z)=(cats.take i).map (E6 z)++[E6 z (cats.getD (i:Int).toNat default)]:=by rw [I6 hi',List.map_append];rfl
  generalize E6 z (cats.getD (i:Int).toNat default)=RT at hRi htk
  conv=>whnf
  refine ⟨rfl,⟨by omega,by omega⟩,?_⟩;conv=>whnf
  refine D9 (hcs b17 _ at17) rfl (by omega) hf17 ?_;conv=>whnf
  refine A7 (hRi _) ?_;conv=>whnf
  refine F2.app (y:=RT) (q:=r2) rfl rfl rfl rfl rfl (by rfl) (by rw [hln];show (i+1) * 8≤140737488355328;omega) hc (fun sv' t' hc'=>?_);conv=>whnf
  refine ⟨rfl,?_⟩;conv=>whnf
  exact nx hi' ⟨sv',by rw [B9 (by omega)],by rw [htk];exact hc'⟩
 obtain rfl:=C6 h1 hi
 rw [List.take_length] at hc
 have hTS:B0 [AV.agg [eB t.incl,eB t.byOrder,eI t.round,B2 4 Q3 t.zones],sv,A6 nets] u [L7 t,A6 (cats.map (E6 z)),A6 nets] S0:=B0.cons (B0.keep [L7 t] _) (B0.cons hc.shift (B0.keep _ _))
 clear hc hcs hM hZ hR
 generalize cats.map (E6 z)=RS at hTax hTS
 unfold C1F at hTax;conv=>whnf
 cases hbo:t.byOrder
 case' false=>rw [if_neg (by rw [hbo];simp)] at hTax
 case' true=>rw [if_pos hbo] at hTax
 all_goals
  conv=>whnf
  refine F3 hTS (A7 (hTax _) ?_);conv=>whnf
  refine D9 at17 rfl (by omega) hf17 ?_;conv=>whnf
  refine A7 (hU _) ?_;conv=>whnf
  refine lp nets.length [2,4,6,12,13,14,15,65,66,67] (fun i vs u=>∃ sv,vs=[eB exempt,A6 nets,.fptr (L7 t) 0,sv,A6 TX,eI ship,eI MS,A6 nets,eI nets.length,eI i]∧F2 2 1 eI ((List.range i).map (W6 t TX nets)) S0 sv u) ?_ ?_
  ·conv=>whnf
   exact ⟨.emp,rfl,F2.start _ _ _ _⟩
  rintro i vs u hi ⟨sv,rfl,hc⟩
  have hcs:=hc.sup
  conv=>whnf
  cases h1:decide ((i:Int)<(nets.length:Int))
  case true =>
   have hi':=E4 h1
   have hln:((List.range i).map (W6 t TX nets)).length=i:=by rw [List.length_map,List.length_range]
   have hnx1:=hnx i hi'
   have htx1:=htx i hi'
   have htk:=B5y (W6 t TX nets) i
   have hgA:W6 t TX nets i=if t.incl=true then gI nets (i:Int).toNat - gI TX (i:Int).toNat else gI nets (i:Int).toNat:=rfl
   have hgw:IntKind.i64.wrap (gI nets (i:Int).toNat - gI TX (i:Int).toNat)=gI nets (i:Int).toNat - gI TX (i:Int).toNat:=A9 (show _≤gI nets i - gI TX i by omega) (show gI nets i - gI TX i≤_ by omega)
   generalize W6 t TX nets i=GA at htk hgA
   conv=>whnf
   refine ⟨rfl,⟨by omega,by omega⟩,?_⟩;conv=>whnf
   cases hin:t.incl
   case' false=>rw [if_neg (by rw [hin];simp)] at hgA
   case' true =>
    rw [if_pos hin] at hgA;conv=>whnf
    refine ⟨rfl,⟨by omega,by omega⟩,?_⟩;conv=>whnf
    rw [hgw]
   all_goals
    conv=>whnf
    refine F2.app (y:=GA) (q:=r2) rfl rfl rfl rfl rfl (by rw [hgA];rfl) (by rw [hln];show (i+1) * 8≤140737488355328;omega) hc (fun sv' t' hc'=>?_);conv=>whnf
    refine ⟨rfl,?_⟩;conv=>whnf
    exact nx hi' ⟨sv',by rw [B9 (by omega)],by rw [htk];exact hc'⟩
  obtain rfl:=C6 h1 hi
  have hwS:IntKind.i64.wrap (ship - MS)=ship - MS:=A9 (by omega) (by omega)
  conv=>whnf
  cases hin:t.incl
  case' false=>rw [if_neg (show ¬(false=true) by simp)]
  case' true =>
   rw [if_pos rfl];conv=>whnf
   rw [hwS]
  all_goals
   conv=>whnf
   cases exempt
   ·conv=>whnf
    exact ⟨sv,A6 TX,S0,S0,rfl,hc.shift,B0.keep _ _,hs0⟩
   ·conv=>whnf
    refine mkO rfl rfl rfl (by show 8 * nets.length≤_;omega) (by omega) (by rfl) (fun bz hbz=>?_);conv=>whnf
    have hb0:S0 bz=none:=M8.off hc hbz
    have hc2:=M8.under (y:=⟨2,1,nets.length,fun _=>G9 r2.zero⟩) hc hbz
    refine ⟨sv,.own 1 bz 0 nets.length,upd S0 bz ⟨2,1,nets.length,fun _=>G9 r2.zero⟩,del (upd S0 bz ⟨2,1,nets.length,fun _=>G9 r2.zero⟩) bz,rfl,M8.shift hc2,?_,D7.del (hs0.upd hb0) (hs0.none hb0)⟩
    have e:A6 (List.replicate nets.length 0)=.arr 1 nets.length (fun k=>eI ((List.replicate nets.length (0:Int)).getD k default)):=by unfold A6 B2;rw [List.length_replicate]
    rw [if_pos rfl,e]
    exact G0 (A0 ..) rfl (Nat.le_refl _) (fun k hk=>by rw [T9];rfl)
end Go.Proofs.YthdimklenlikgaaGreat
namespace Go.Ab
open Go
inductive PT where
 | done
 | qui (i:Nat) (t:PT)
 | eff (i:Nat) (keep:List Nat) (t:PT)
 | two (i j:Nat) (ki kj:List Nat) (t u:PT)
def okP (ops:Array Oper) (eff:List Nat):PT→List Nat→Nat→Array Bool→Bool
 | .done,pd,n,listed=>n==0&&(Region.ready .any ops listed).isEmpty
 | .qui i t,pd,n,listed=>(match ops[i]? with
   | none=>false
   | some o=>(Region.ready .any ops listed).contains i&&Region.free .any ops listed i)&&Nat.blt 0 n&&okP ops eff t (match ops[i]? with | none=>pd | some o=>(match X1 o.op with | true=>pd | false=>i::pd)) (n - 1) (listed.setIfInBounds i true)
 | .eff i keep t,pd,n,listed=>eff.contains i&&(Region.ready .any ops listed==[i])&&(pd.all fun p=>keep.contains p||waitsC ops eff p i)&&Nat.blt 0 n&&okP ops eff t pd (n - 1) (listed.setIfInBounds i true)
 | .two i j ki kj t u,pd,n,listed=>eff.contains i&&eff.contains j&&(Region.ready .any ops listed==[i,j])&&(pd.all fun p=>ki.contains p||waitsC ops eff p i)&&(pd.all fun p=>kj.contains p||waitsC ops eff p j)&&Nat.blt 0 n&&okP ops eff t pd (n - 1) (listed.setIfInBounds i true)&&okP ops eff u pd (n - 1) (listed.setIfInBounds j true)
abbrev A4w:=List (Nat×(St→Prop))
def A6U (keep:List Nat) (st st':St) (k:Prop):A4w→Prop
 | []=>k
 | (i,C)::l=>match keep.contains i with
  | true=>(C st→C st')∧A6U keep st st' k l
  | false=>A6U keep st st' k l
theorem A7N {keep:List Nat} {st st':St} {k:Prop}:∀ {pd:A4w},A6U keep st st' k pd→k∧∀ p∈pd,keep.contains p.1=true→p.2 st→p.2 st'
 | [],h=>⟨h,fun p hp=>absurd hp List.not_mem_nil⟩
 | (i,C)::l,h=>by
  unfold A6U at h
  split at h
  ·rename_i hk
   obtain ⟨h1,h2⟩:=A7N h.2
   refine ⟨h1,fun p hp=>?_⟩
   rcases List.mem_cons.1 hp with rfl | hp
   ·exact fun _=>h.1
   ·exact h2 p hp
  ·rename_i hk
   obtain ⟨h1,h2⟩:=A7N h
   refine ⟨h1,fun p hp hk2=>?_⟩
   rcases List.mem_cons.1 hp with rfl | hp
   ·rw [hk] at hk2;cases hk2
   ·exact h2 p hp hk2
def B5e (P:Program) (T:H3) (M:H8) (ops:List Oper) (i:Nat) (keep:List Nat) (pd:A4w) (K:KA) (A:List AV) (st:St):Prop :=
 match ops[i]? with
 | none=>False
 | some o=>match A0b ops o A with
  | none=>False
  | some b=>(b=true→aOp P T M o A st fun v st'=>A6U keep st st' (K (J4 A o.dst v) st') pd)∧(b=false→K (J4 A o.dst (.tuple [])) st)
def A4D (P:Program) (T:H3) (M:H8) (ops:List Oper):PT→A4w→List AV→St→KA→Prop
 | .done,_,A,st,k=>k A st
 | .qui i t,pd,A,st,k=>match ops[i]? with
  | none=>False
  | some o=>match A0b ops o A with
   | none=>False
   | some b=>(b=true→match X1 o.op with
     | true=>∃ v,(aOp P T M o A st fun v' s=>v'=v∧s=st)∧A4D P T M ops t pd (J4 A o.dst v) st k
     | false=>∃ (v:AV) (C:St→Prop),C st∧(∀ s,C s→aOp P T M o A s fun v' s'=>v'=v∧s'=s)∧A4D P T M ops t ((i,C)::pd) (J4 A o.dst v) st k) ∧
    (b=false→A4D P T M ops t pd (J4 A o.dst (.tuple [])) st k)
 | .eff i keep t,pd,A,st,k=>B5e P T M ops i keep pd (fun A' st'=>A4D P T M ops t pd A' st' k) A st
 | .two i j ki kj t u,pd,A,st,k=>B5e P T M ops i ki pd (fun A' st'=>A4D P T M ops t pd A' st' k) A st∧B5e P T M ops j kj pd (fun A' st'=>A4D P T M ops u pd A' st' k) A st
def A9K (P:Program) (T:H3) (M:H8) (ops:Array Oper) (eff:Nat→Bool) (wait:Nat→Nat→Bool) (Q:KA) (pd:A4w):Nat→Array Bool→KA
 | 0,listed,A,st=>Region.ready .any ops listed=[]∧Q A st
 | fuel+1,listed,A,st=>(Region.ready .any ops listed=[]→Q A st)∧∀ j∈Region.ready .any ops listed,
   nOp P T M ops eff j (fun A' st'=>A9K P T M ops eff wait Q pd fuel (listed.setIfInBounds j true) A' st'∧∀ p∈pd,wait p.1 j=false→p.2 st→p.2 st') A st
section
variable {P:Program} {T:H3} {M:H8} {ops:Array Oper} {eff:Nat→Bool} {wait:Nat→Nat→Bool} {Q:KA}
theorem A2o {pd pd':A4w} (hp:∀ p∈pd',p∈pd∨∀ s,p.2 s):∀ (fuel:Nat) (listed:Array Bool) (A:List AV) (st:St),A9K P T M ops eff wait Q pd fuel listed A st→A9K P T M ops eff wait Q pd' fuel listed A st
 | 0,listed,A,st,h=>h
 | fuel+1,listed,A,st,h=>⟨h.1,fun j hj=>Y7 (fun A' st' hk=>⟨A2o hp fuel _ _ _ hk.1,fun p hpp hw hs=>by
   rcases hp p hpp with h1 | h1
   ·exact hk.2 p h1 hw hs
   ·exact h1 _⟩) (h.2 j hj)⟩
theorem B1t {pd:A4w}:∀ (fuel:Nat) (listed:Array Bool) (A:List AV) (st:St),A9K P T M ops eff wait Q pd fuel listed A st→B2q P T M ops eff Q fuel listed A st
 | 0,listed,A,st,h=>h
 | fuel+1,listed,A,st,h=>⟨h.1,fun j hj=>Y7 (fun A' st' hk=>B1t fuel _ _ _ hk.1) (h.2 j hj)⟩
theorem B3N {C:St→Prop} {i:Nat} {oi:Oper} {v:AV} {pd:A4w} (hi:ops[i]?=some oi)
  (hW:∀ j,wait i j=true→∃ oj,ops[j]?=some oj∧∃ e∈oj.after,Region.binds .any e=true∧(e.on=i∨wait i e.on=true)) :
  ∀ (fuel:Nat) (listed:Array Bool) (A:List AV) (st:St),
   (∀ j oj,ops[j]?=some oj→j≠i→listed.getD j true=false→(∀ e∈oj.after,Region.binds .any e=true→e.on≠i)→oi.apart ops oj=true) →
   (∀ j,wait i j=true→listed.getD j false=false) →
   i∈Region.ready .any ops listed→C st→(∀ st',C st'→Yq P T M ops oi v A st') →
   A9K P T M ops eff wait Q ((i,C)::pd) fuel (listed.setIfInBounds i true) (J4 A oi.dst v) st→A9K P T M ops eff wait Q pd (fuel+1) listed A st:=by
 intro fuel
 induction fuel with
 | zero =>
  intro listed A st _ hWl hr hC hy H
  refine ⟨fun h=>(by rw [h] at hr;cases hr),fun j hj=>?_⟩
  by_cases hji:j=i
  ·subst hji
   exact A5A hi (hy st hC) ⟨H,fun _ _ _ h=>h⟩
  ·have:=ready_mono hj hji
   rw [H.1] at this
   cases this
 | succ fuel ih =>
  intro listed A st hfree hWl hr hC hy H
  refine ⟨fun h=>(by rw [h] at hr;cases hr),fun j hj=>?_⟩
  by_cases hji:j=i
  ·subst hji
   exact A5A hi (hy st hC) ⟨A2o (fun p hp=>.inl (List.mem_cons_of_mem _ hp)) _ _ _ _ H,fun _ _ _ h=>h⟩
  ·have h1:=H.2 j (ready_mono hj hji)
   obtain ⟨hjun,oj,hoj,hall⟩:=mem_ready.1 hj
   have hiun:=(mem_ready.1 hr).1
   have hii:listed.getD i false=false:=U6 hiun
   have hnot:∀ e∈oj.after,Region.binds .any e=true→e.on≠i:=fun e he hb heq=>by
    have h1:=hall e he hb
    rw [heq,hii] at h1
    cases h1
   have hnW:wait i j=false:=by
    cases hw:wait i j with
    | false=>rfl
    | true =>
     obtain ⟨oj',hoj',e,he,hb,hon⟩:=hW j hw
     rw [hoj] at hoj'
     cases hoj'
     have h2:=hall e he hb
     rcases hon with hon | hon
     ·rw [hon,hii] at h2;cases h2
     ·rw [hWl _ hon] at h2;cases h2
   have h2:=B6U hoj (hfree j oj hoj hji hjun hnot) hy h1
   have hfree':∀ k ok,ops[k]?=some ok→k≠i→(listed.setIfInBounds j true).getD k true=false →
     (∀ e∈ok.after,Region.binds .any e=true→e.on≠i)→oi.apart ops ok=true:=fun k ok hk hki hun hno=>by
    refine hfree k ok hk hki ?_ hno
    by_cases hjk:j=k
    ·subst hjk;exact hjun
    ·rw [getD_set_ne true hjk] at hun;exact hun
   have hWl':∀ k,wait i k=true→(listed.setIfInBounds j true).getD k false=false:=fun k hk=>by
    rw [getD_set_ne false (fun (e:j=k)=>by rw [e,hk] at hnW;cases hnW)];exact hWl k hk
   refine Y7 (fun A' st' h3=>⟨?_,fun p hp hw hs=>h3.2.2 p (List.mem_cons_of_mem _ hp) hw hs⟩) h2
   refine ih (listed.setIfInBounds j true) A' st' hfree' hWl' (ready_mono hr (Ne.symm hji)) (h3.2.2 _ (List.mem_cons_self ..) hnW hC) h3.1 ?_
   rw [Array.setIfInBounds_comm _ _ hji]
   exact h3.2.1
end
section
variable {P:Program} {T:H3} {M:H8} {ops:Array Oper}
theorem B5f {eff:List Nat} {i:Nat} {keep:List Nat} {pd:A4w} {pdI:List Nat} {K K':KA} {A:List AV} {st:St} (hc:eff.contains i=true) (hin:∀ p∈pd,p.1∈pdI)
  (hall:(pdI.all fun p=>keep.contains p||waitsC ops eff p i)=true) (hK:∀ A st,K A st→K' A st) (h:B5e P T M ops.toList i keep pd K A st) :
  nOp P T M ops (fun j=>eff.contains j) i (fun A' st'=>K' A' st'∧∀ p∈pd,waitsC ops eff p.1 i=false→p.2 st→p.2 st') A st:=by
 unfold B5e at h
 rw [Array.getElem?_toList] at h
 unfold nOp
 cases ho:ops[i]? with
 | none=>rw [ho] at h;exact h.elim
 | some o =>
  rw [ho] at h
  simp only [hc,if_true] at h ⊢
  split at h
  ·exact h.elim
  ·rename_i b hb
   rw [hb]
   refine ⟨fun e=>N6 (fun v st' hk=>?_) (h.1 e),fun e=>⟨hK _ _ (h.2 e),fun p _ _ hs=>hs⟩⟩
   obtain ⟨h1,h2⟩:=A7N hk
   refine ⟨hK _ _ h1,fun p hp hw hs=>h2 p hp ?_ hs⟩
   have:=List.all_eq_true.1 hall p.1 (hin p hp)
   rw [hw,Bool.or_false] at this
   exact this
theorem A0w {eff:List Nat} {Q:KA}:∀ (t:PT) (pdI:List Nat) (pd:A4w) (n:Nat) (listed:Array Bool) (A:List AV) (st:St),(∀ p∈pd,p.1∈pdI)→A6B ops listed→okP ops eff t pdI n listed=true→A4D P T M ops.toList t pd A st Q →
  A9K P T M ops (fun j=>eff.contains j) (waitsC ops eff) Q pd n listed A st
 | .done,pdI,pd,n,listed,A,st,hin,hD,hO,h=>by
  unfold okP at hO
  simp only [Bool.and_eq_true,beq_iff_eq] at hO
  obtain ⟨rfl,hO⟩:=hO
  exact ⟨by simpa using hO,h⟩
 | .eff i keep t,pdI,pd,n,listed,A,st,hin,hD,hO,h=>by
  unfold okP at hO
  simp only [Bool.and_eq_true,Nat.blt_eq] at hO
  obtain ⟨⟨⟨⟨hc,hr⟩,hall⟩,hn⟩,hO'⟩:=hO
  have hr:=eq_of_beq hr
  obtain ⟨n,rfl⟩:∃ m,n=m+1:=⟨n - 1,by omega⟩
  have hr':i∈Region.ready .any ops listed:=by rw [hr];simp
  refine ⟨fun h0=>(by rw [hr] at h0;cases h0),fun j hj=>?_⟩
  rw [hr] at hj
  simp only [List.mem_singleton] at hj
  subst hj
  exact B5f hc hin hall (fun A' st' hk=>A0w t pdI pd n _ A' st' hin (hD.set hr') hO' hk) h
 | .two i j ki kj t u,pdI,pd,n,listed,A,st,hin,hD,hO,h=>by
  unfold okP at hO
  simp only [Bool.and_eq_true,Nat.blt_eq] at hO
  obtain ⟨⟨⟨⟨⟨⟨⟨hc1,hc2⟩,hr⟩,ha1⟩,ha2⟩,hn⟩,hO1⟩,hO2⟩:=hO
  have hr:=eq_of_beq hr
  obtain ⟨n,rfl⟩:∃ m,n=m+1:=⟨n - 1,by omega⟩
  have hri:i∈Region.ready .any ops listed:=by rw [hr];simp
  have hrj:j∈Region.ready .any ops listed:=by rw [hr];simp
  obtain ⟨h1,h2⟩:=h
  refine ⟨fun h0=>(by rw [hr] at h0;cases h0),fun k hk=>?_⟩
  rw [hr] at hk
  simp only [List.mem_cons,List.not_mem_nil,or_false] at hk
  rcases hk with rfl | rfl
  ·exact B5f hc1 hin ha1 (fun A' st' hk=>A0w t pdI pd n _ A' st' hin (hD.set hri) hO1 hk) h1
  ·exact B5f hc2 hin ha2 (fun A' st' hk=>A0w u pdI pd n _ A' st' hin (hD.set hrj) hO2 hk) h2
 | .qui i t,pdI,pd,n,listed,A,st,hin,hD,hO,h=>by
  unfold okP at hO
  simp only [Bool.and_eq_true,Nat.blt_eq] at hO
  obtain ⟨⟨hO,hn⟩,hO'⟩:=hO
  obtain ⟨n,rfl⟩:∃ m,n=m+1:=⟨n - 1,by omega⟩
  unfold A4D at h
  rw [Array.getElem?_toList] at h
  cases ho:ops[i]? with
  | none=>rw [ho] at hO;cases hO
  | some o =>
   rw [ho] at hO h hO'
   simp only [Bool.and_eq_true] at hO h hO'
   obtain ⟨hr,hf⟩:=hO
   have hr':i∈Region.ready .any ops listed:=by simpa using hr
   have hiun:=U6 (mem_ready.1 hr').1
   have hfree:=Region.free_spec ho hf
   split at h
   ·exact h.elim
   rename_i b hb
   have first:=fun (v:AV) (C:St→Prop)=>B3N (P:=P) (T:=T) (M:=M) (eff:=fun j=>eff.contains j) (wait:=waitsC ops eff) (Q:=Q) (C:=C) (v:=v) (pd:=pd) ho (fun j hj=>A5h hj) n listed A st hfree (fun j hj=>hD.waitsC hiun hj) hr'
   cases b with
   | false =>
    refine first (.tuple []) (fun _=>True) trivial (fun st' _=>.inr ⟨hb,rfl⟩) ?_
    have h2:=h.2 rfl
    cases hp:X1 o.op with
    | true =>
     rw [hp] at hO'
     exact A2o (fun p hp=>by
      rcases List.mem_cons.1 hp with rfl | hp
      ·exact .inr fun _=>trivial
      ·exact .inl hp) _ _ _ _ (A0w t pdI pd n _ _ _ hin (hD.set hr') hO' h2)
    | false =>
     rw [hp] at hO'
     exact A2o (fun p hp=>by
      rcases List.mem_cons.1 hp with rfl | hp
      ·exact .inr fun _=>trivial
      ·exact .inl hp) _ _ _ _ (A0w t (i::pdI) pd n _ _ _ (fun p hp=>List.mem_cons_of_mem _ (hin p hp)) (hD.set hr') hO' h2)
   | true =>
    have h1:=h.1 rfl
    cases hp:X1 o.op with
    | true =>
     rw [hp] at h1 hO'
     obtain ⟨v,hv,hrest⟩:=h1
     refine first v (fun _=>True) trivial (fun st' _=>.inl ⟨hb,A9Y hp hv⟩) ?_
     exact A2o (fun p hp=>by
      rcases List.mem_cons.1 hp with rfl | hp
      ·exact .inr fun _=>trivial
      ·exact .inl hp) _ _ _ _ (A0w t pdI pd n _ _ _ hin (hD.set hr') hO' hrest)
    | false =>
     rw [hp] at h1 hO'
     obtain ⟨v,C,hC,hv,hrest⟩:=h1
     refine first v C hC (fun st' hc=>.inl ⟨hb,hv st' hc⟩) ?_
     exact A0w t (i::pdI) ((i,C)::pd) n _ _ _ (fun p hp=>by
      rcases List.mem_cons.1 hp with rfl | hp
      ·exact List.mem_cons_self ..
      ·exact List.mem_cons_of_mem _ (hin p hp)) (hD.set hr') hO' hrest
def Dp (P:Program) (T:H3) (M:H8) (ops:List Oper) (A:List AV) (st:St) (k:KA):Prop :=
 ∃ k':KA,(∀ A st,k' A st→k A st)∧(Dr P T M ops A st k'∨∃ (eff:List Nat) (t:PT),(Region.noSelect ops.toArray&&okP ops.toArray eff t [] ops.length (Array.replicate ops.length false))=true∧A4D P T M ops t [] A st k')
theorem C5J (hG:A6C P T M) (hm:P.follows .mixedOrders=true):C1Y P (Dp P T M):=fun id ops K st0 w0 A a st w hA hS he ⟨k',hk,h⟩=>by
 have hmono:∀ {e:Exit} {a:Act} {w:World},A8D (fun e=>match e with | .normal=>k' | e=>K e) st0 w0 e a w→A8D K st0 w0 e a w:=fun {e a w} hl=>by
  cases e<;>first | exact hl | (obtain ⟨A',st',h1,h2⟩:=hl;exact ⟨A',st',hk _ _ h1,h2⟩)
 rcases h with h | ⟨eff,t,hok,hrun⟩
 ·exact wp_mono (C3M hG hm id ops (fun e=>match e with | .normal=>k' | e=>K e) st0 w0 A a st w hA hS he h) fun e a w hl=>hmono hl
 ·refine wp_mono (?_:(Code.region id ops true).wp P (A8D (fun e=>match e with | .normal=>k' | e=>K e) st0 w0) a w) fun e a w hl=>hmono hl
  have hD:A6B ops (Array.replicate ops.toList.length false):=fun j o hj ho=>by
   simp [Array.getElem?_replicate] at hj
   split at hj<;>simp at hj
  simp only [Bool.and_eq_true] at hok
  have hany:B2q P T M ops (fun j=>eff.contains j) k' ops.toList.length (Array.replicate ops.toList.length false) A st :=
   B1t _ _ _ _ (A0w t [] [] _ (Array.replicate ops.toList.length false) A st (fun p hp=>absurd hp List.not_mem_nil) hD (by simpa using hok.2) hrun)
  refine wp_region_any hm ?_
  have hA':O3 { w with drawn:=w.drawn+1 } st A a:=⟨hA.len,fun i v hv=>hA.at_ i v hv,hA.defers⟩
  have hS':H9 st { w with drawn:=w.drawn+1 }:=fun b x hx=>by
   obtain ⟨cs,h1⟩:=hS b x hx
   exact ⟨cs,⟨h1.heap,h1.size,h1.len,h1.one,h1.cell⟩⟩
  have he':Z4 st0 w0 st { w with drawn:=w.drawn+1 }:=⟨he.os,he.tape,he.output,he.size,he.blk,he.szm⟩
  have:=B2U hG (fun e=>match e with | .normal=>k' | e=>K e) st0 w0 ops.toList.length (Array.replicate ops.toList.length false) A a st { w with drawn:=w.drawn+1 } hA' hS' he' hany
  simpa using this
end
end Go.Ab
