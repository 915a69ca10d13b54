/- Part 30 of the proof: contracts of the functions that the law reaches -/
import Derived.Test.YtaapofnkmpiknaaGreatPl29
set_option maxRecDepth 100000
set_option linter.unusedVariables false
set_option linter.unusedSimpArgs false
namespace Go.Proofs.YtaapofnkmpiknaaGreat
open Go Go.Ab
attribute [local irreducible] upd del
theorem ROut.own {R:St→St→Prop} {ty e n:Nat} {fo:Nat→AV} {s t:St} {sv:AV} (h:ROut R ty e fo (n+1) s sv t):∃ b,sv=.own e b 0 (n+1):=by
 obtain ⟨s0,⟨h1,_⟩ | ⟨_,b,_,_,h1,_⟩,h2⟩:=h
 ·cases h1
 ·exact ⟨b,h1⟩
theorem RD.wr {dl:List A1O} {gr:List C8} {dv gv:AV} {s t:St} {b:Nat} {y y':K4} (h:RD dl gr dv gv s t) (hb:s b=some y):RD dl gr dv gv (upd s b y') (upd t b y'):=(A3K dl gr dv gv).write h hb
theorem RD.sup {dl:List A1O} {gr:List C8} {dv gv:AV} {s t:St} (h:RD dl gr dv gv s t):F1 s t:=(A3K dl gr dv gv).sup h
theorem RD.start (s:St):RD [] [] .emp .emp s s:=ROut.start (ROut.start (F1.refl s) _ _ _) _ _ _
theorem RD.appG {dl:List A1O} {gr:List C8} {dv gv:AV} {s t:St} {y:C8} {x:AV} {k:KK} {g:Nat→AV} (h:RD dl gr dv gv s t) (hs:A0g 1 t x=some (1,g)) (hg:g 0=eS y) (hb:gr.length≤1000)
  (hk:∀ gv' t',RD dl (gr++[y]) dv gv' s t'→k gv' t'):A5L T 34 gv x t k:=by
 obtain ⟨s0,hc,h⟩:=h
 refine ROut.app (q:=r9) (f:=A7r (gr++[y])) J5 rfl rfl rfl rfl hs (by rw [hg];simp only [A7r,A8w]) (by show (gr.length+1) * 16≤140737488355328;omega) (ROut.congr h fun k hk=>by simp only [A7r];rw [A4u hk]) (fun sv' t' h'=>hk sv' t' ⟨s0,hc,?_⟩)
 show ROut _ _ _ _ (gr++[y]).length _ _ _
 rw [D6P];exact h'
theorem RD.appD {dl:List A1O} {gr:List C8} {dv gv:AV} {s t:St} {y:A1O} {x:AV} {k:KK} {g:Nat→AV} (h:RD dl gr dv gv s t) (hs:A0g 2 t x=some (1,g)) (hg:g 0=B9O y) (hb:dl.length≤1000)
  (hk:∀ b t',RD (dl++[y]) gr (.own 2 b 0 (dl.length+1)) gv s t'→k (.own 2 b 0 (dl.length+1)) t'):A5L T 111 dv x t k:=by
 refine ROut.app (q:=C7a) (f:=A1y (dl++[y])) (A8n _ _) rfl rfl rfl rfl hs (by rw [hg];simp only [A1y,A8w]) (by show (dl.length+1) * 24≤140737488355328;omega) (ROut.congr h fun k hk=>by simp only [A1y];rw [A4u hk]) (fun sv' t' h'=>?_)
 obtain ⟨b,rfl⟩:=ROut.own h'
 exact hk b t' (RD.of h')
theorem RD.deals {dl:List A1O} {gr:List C8} {dv gv:AV} {s t:St} (h:RD dl gr dv gv s t):(dl=[]∧dv=.emp)∨∃ bd g,dv=.own 2 bd 0 dl.length∧s bd=none∧t bd=some ⟨221,2,dl.length,g⟩∧∀ k,k<dl.length→g k=A1y dl k:=by
 obtain ⟨s0,hc,hg0⟩:=h
 rcases hc with ⟨h0,h1,rfl⟩ | ⟨h0,b,g0,hb,h1,rfl,hgg⟩
 ·exact .inl ⟨D7n h0,h1⟩
 ·exact .inr ⟨b,g0,h1,hb,(A8n _ _).sup hg0 b _ (A0 ..),hgg⟩
theorem RD.groups {dl:List A1O} {gr:List C8} {dv gv:AV} {s t:St} (h:RD dl gr dv gv s t):(gv=.emp∧gr=[])∨∃ b g,gv=.own 1 b 0 gr.length∧t b=some ⟨9,1,gr.length,g⟩∧∀ k,k<gr.length→g k=eS (gr.getD k default):=by
 obtain ⟨s0,hc,s1,hc2,hs⟩:=h
 rcases hc2 with ⟨h0,h1,rfl⟩ | ⟨h0,b,g0,hb,h1,rfl,hgg⟩
 ·exact .inl ⟨h1,D7n h0⟩
 ·exact .inr ⟨b,g0,h1,hs b _ (A0 ..),hgg⟩
theorem B1s {σ : Type} (px : σ→PSt) (step : σ→B1→σ) (sm:B1→Bool) (l:List B1) (a : σ) (o:List Int) (x:Int):Z5 px step sm l a (o++[x])=if sm (F2 l x)=true then goB px step (Z5 px step sm l a o) (F2 l x) else Z5 px step sm l a o:=by
 unfold Z5
 rw [D8A,D8H]
 by_cases h:sm (F2 l x)=true
 ·rw [if_pos h,D7I (p:=fun x=>sm (F2 l x)) h];rfl
 ·rw [if_neg h,D7O (p:=fun x=>sm (F2 l x)) h];rfl
def named (l:List C8):List C8:=l.filter fun g=>!N2 g
theorem B1K (l:List C8) (g:C8):named (l++[g])=named l++(if N2 g=true then [] else [g]):=by
 unfold named
 rw [D8A]
 congr 1
 cases h:N2 g
 ·rw [D7I (p:=fun g=>!N2 g) (by rw [h];rfl)];rfl
 ·rw [D7O (p:=fun g=>!N2 g) (by rw [h];simp)];rfl
theorem C5q (l:List C8) (g:C8):(!N2 g&&l.any fun y=>y.toList==g.toList)=!(N2 g||!inB (named l) g):=by
 cases hn:N2 g
 ·rw [D7j,D6Y,D7r,D7Y]
  unfold inB named
  rw [←D8N,D8r,D8r]
  constructor
  ·rintro ⟨y,h1,h2⟩
   refine ⟨y,D7F.2 ⟨h1,?_⟩,by rw [D9L];exact h2⟩
   unfold N2 at hn ⊢
   rw [eq_of_beq h2,hn];rfl
  ·rintro ⟨y,h1,h2⟩
   exact ⟨y,(D7F.1 h1).1,by rw [D9L];exact h2⟩
 ·rfl
theorem C7V {σ : Type} {px : σ→PSt} {step : σ→B1→σ} {a : σ} {pr:B1} {G:List C8} (hG:named G=(px a).groups) :
  goB px step a pr=if (!N2 pr.group&&G.any fun y=>y.toList==pr.group.toList)=true then a else step a pr:=by
 unfold goB
 rw [C5q,hG]
 cases (N2 pr.group||!inB (px a).groups pr.group)<;>rfl
theorem C5X {items:List Ab.Item} {p:PSt} {pr:B1} (hk:U3 pr=true) {G:List C8} (hG:named G=p.groups) :
  goB (fun p=>p) (A4W items) p pr=if (!N2 pr.group&&G.any fun y=>y.toList==pr.group.toList)=true then p else A4W items p pr:=C7V (px:=fun p=>p) hG
theorem C1r (l:List C8):(named l).length≤l.length:=D9g _ _
set_option maxHeartbeats 8000000 in
theorem C4F (r:D6) (codes:List C8) (l:List E8) (hf:X1 r) (hsm:A6M r) (hR:K6 r=true) (hcn:Sm codes.length) (hcs:∀ s∈codes,Sm s.size) (hln:Sm l.length) (st:St) :
  S P 115 [F7 r,C7 codes,A8 3 J1 l] st fun v st' =>
   v=(if D8 r codes l=0 then .tuple [A1a (A0c r l (V9 r.promos codes) (V9 r.promos codes)),eI 0] else .tuple [A1a ⟨[],0,0,[]⟩,eI (D8 r codes l)])∧st'=st:=by
 obtain ⟨X,hX⟩:∃ X,X=A0c r l (V9 r.promos codes) (V9 r.promos codes):=⟨_,rfl⟩
 refine S.post (post:=fun v st'=>(D8 r codes l≠0∧v=.tuple [.agg [.emp,eI 0,eI 0,.emp],eI (D8 r codes l)]∧F1 st st') ∨
   (D8 r codes l=0∧∃ bn fn dv,v=.tuple [.agg [.own 1 bn 0 l.length,eI X.net,eI X.ship,dv],eI 0] ∧
    st bn=none∧st' bn=some ⟨2,1,l.length,fn⟩∧(∀ k,k<l.length→fn k=eI (gI X.nets k))∧F1 st st' ∧
    ((X.deals=[]∧dv=.emp)∨∃ bd g,dv=.own 2 bd 0 X.deals.length∧st bd=none∧bd≠bn∧st' bd=some ⟨221,2,X.deals.length,g⟩∧∀ k,k<X.deals.length→g k=A1y X.deals k))) ?_
  (fun v st' hv=>by
   rcases hv with ⟨h1,rfl,hs⟩ | ⟨h1,bn,fn,dv,rfl,h4,h5,h6,hs,h7⟩
   ·refine ⟨_,st,⟨rfl,rfl⟩,?_⟩
    rw [if_neg h1]
    refine (hs.shift _).trans (A6.tuple (A6.cons (A6.agg ?_) (A6.keep _ _)) rfl)
    exact A6.cons (I9 1 _) (A6.cons (A6.keep [eI 0] _) (A6.cons (A6.keep [eI 0] _) (I9 2 _)))
   ·refine ⟨_,st,⟨rfl,rfl⟩,?_⟩
    rw [if_pos h1,←hX]
    refine A6.tuple (A6.cons (A6.agg ?_) (A6.keep _ _)) rfl
    have hnl:X.nets.length=l.length:=by rw [hX];show (X4 _ _).length=_;unfold X4;rw [D6J,D7g]
    clear hX
    have e1:B0 X.nets=.arr 1 l.length (fun k=>eI (gI X.nets k)):=by unfold B0 A8;rw [hnl]
    refine A6.cons (t:=del st' bn) ?_ (A6.cons (A6.keep [eI X.net] _) (A6.cons (A6.keep [eI X.ship] _) ?_))
    ·rw [e1];exact O4 h5 rfl (D6M _) h6
    ·rcases h7 with ⟨h8,rfl⟩ | ⟨bd,g,rfl,h8,h9,h10,h11⟩
     ·rw [h8]
      exact ((F1.del hs h4).shift _).trans (I9 2 _)
     ·refine (O4 (b:=bd) (y:=⟨221,2,X.deals.length,g⟩) (f:=A1y X.deals) (by rw [A2F h9];exact h10) rfl (D6M _) h11).trans ?_
      exact (F1.del (F1.del hs h4) h8).shift _)
 have hC:=hR
 unfold K6 B0i at hC
 simp only [D6I] at hC
 obtain ⟨⟨⟨⟨_,hpc⟩,_⟩,hfee,hfree⟩,_⟩:=hC
 rw [E0] at hfee hfree
 have hpk:D8 r codes l=if S6 codes=false then 2 else O6 (known r.items) l:=by unfold D8;rw [if_neg (by rw [hR];simp)]
 refine F4 [3,15,20] Tryz.func115 ?_
 intro b6 hb6;conv=>whnf
 refine I2 (B2j r hsm hR _) ?_
 refine B3 (B6R codes hcn hcs _) ?_
 have h6s:∀ x:K4,F1 st (upd st b6 x):=fun x=>(F1.refl st).upd hb6
 cases hcc:S6 codes
 ·rw [if_pos hcc] at hpk
  have hk0:D8 r codes l≠0:=by rw [hpk];decide
  conv=>whnf
  refine Z7 (A0 ..) rfl ?_
  refine J6 (A0 ..) (A4 ..) ?_
  exact .inl ⟨hk0,by rw [hpk];rfl,(h6s _).over hb6⟩
 rw [if_neg (by rw [hcc];simp)] at hpk;conv=>whnf
 refine B3 (C4D r.items l hsm.n hln _) ?_
 rw [←hpk];conv=>whnf
 cases h1:(D8 r codes l != 0)
 case true =>
  have hk0:D8 r codes l≠0:=by simpa using h1
  conv=>whnf
  refine Z7 (A0 ..) rfl ?_
  refine J6 (A0 ..) (A4 ..) ?_
  exact .inl ⟨hk0,rfl,(h6s _).over hb6⟩
 have hk0:D8 r codes l=0:=by simpa using h1
 have hck:=A6R hk0
 have hli:=hck.lines
 have hlen:=hli.len
 have hus0:=B5D hli
 have hitl:(C3 r.items l).length=l.length:=D6J ..
 obtain ⟨u1,u2,u3⟩:=A2A l hli.line l.length (D6M _)
 conv=>whnf
 refine ⟨[],[],List.range 13,by kernel_rfl,?_⟩;conv=>whnf
 refine cqW (C4J l hlen hli.line (eq_of_beq hli.may) hus0.ok.len _) ?_
 refine cqW (B6S r.items l hsm.n hlen hli.known _) ?_
 refine cqW (C1W r.promos codes hpc hcn _) ?_
 have hol:(V9 r.promos codes).length≤60:=by
  rw [(A4z _ _).length_eq]
  have:=A1i r.promos codes r.promos.length
  have:=hck.few;omega
 have hom:∀ x∈V9 r.promos codes,0≤x∧x.toNat<r.promos.length:=fun x hx=>A0E ((A4z _ _).mem_iff.1 hx)
 have hXd:X=⟨X4 l.length (p1B r l (V9 r.promos codes)).us,O0 (p1B r l (V9 r.promos codes)),(p2B r l (p1B r l (V9 r.promos codes)) (V9 r.promos codes)).2,(p2B r l (p1B r l (V9 r.promos codes)) (V9 r.promos codes)).1.deals⟩:=hX
 clear hX
 generalize V9 r.promos codes=o at *
 generalize hs6:(upd st b6 _)=s6 at *
 have h6:s6 b6=some ⟨170,4,1,fun _=>H7 B8O.zero⟩:=by rw [←hs6];exact A0 ..
 have hst6:F1 st s6:=by rw [←hs6];exact h6s _
 clear hs6
 refine mkO rfl rfl rfl (by show 8 * l.length≤_;omega) (by omega) (by rfl) (fun bn hbn=>?_);conv=>whnf
 intro bp hbp
 have hnb:bn≠bp:=fun e=>by subst e;rw [A0] at hbp;cases hbp
 have hbp6:s6 bp=none:=by rw [A9 hnb.symm] at hbp;exact hbp
 have hb6p:b6≠bp:=fun e=>by subst e;rw [h6] at hbp6;cases hbp6
 have hb6n:b6≠bn:=fun e=>by subst e;rw [h6] at hbn;cases hbn
 have hstn:st bn=none:=hst6.none hbn
 have hstp:st bp=none:=hst6.none hbp6
 conv=>whnf
 refine stU (A0 ..) rfl ?_
 rw [C0];conv=>whnf
 have hat:∀ {dl:List A1O} {gr:List C8} {dv gv:AV} {Y Z:K4} {t:St},RD dl gr dv gv (upd (upd s6 bn Y) bp Z) t→t bn=some Y∧t bp=some Z:=fun h=>⟨h.sup bn _ (by rw [A9 hnb,A0]),h.sup bp _ (A0 ..)⟩
 have hwn:∀ {dl:List A1O} {gr:List C8} {dv gv:AV} {Y Z Y':K4} {t:St},RD dl gr dv gv (upd (upd s6 bn Y) bp Z) t→RD dl gr dv gv (upd (upd s6 bn Y') bp Z) (upd t bn Y'):=fun {_ _ _ _ Y Z Y' t} h=>by
  have:=h.wr (b:=bn) (y':=Y') (by rw [A9 hnb,A0])
  rw [R1 hnb.symm,C0] at this;exact this
 have hwp:∀ {dl:List A1O} {gr:List C8} {dv gv:AV} {Y Z Z':K4} {t:St},RD dl gr dv gv (upd (upd s6 bn Y) bp Z) t→RD dl gr dv gv (upd (upd s6 bn Y) bp Z') (upd t bp Z'):=fun {_ _ _ _ Y Z Z' t} h=>by
  have:=h.wr (b:=bp) (y':=Z') (A0 ..)
  rw [C0] at this;exact this
 have htk:∀ {i:Nat},i<o.length→o.take (i+1)=o.take i++[gI o i]:=fun h=>L0 h
 refine lp o.length [3,6,9,10,11,12,13,14] (fun i vs t=>∃ (p:PSt) (dv gv:AV) (G:List C8) (fp:Nat→AV),p=Z5 (fun p=>p) (A4W (C3 r.items l)) U3 r.promos ⟨W1 l,[],[]⟩ (o.take i) ∧
   vs=[.fptr (F7 r) 0,.optr 4 b6 0 0,C6 p.us,A8 4 E9 (C3 r.items l),B0 o,.optr 4 bp 0 0,gv,eI i] ∧
   RD p.deals G dv gv (upd (upd s6 bn ⟨2,1,l.length,fun _=>H7 r2.zero⟩) bp ⟨170,4,1,fp⟩) t∧fp 0=.agg [.own 1 bn 0 l.length,eI 0,eI 0,dv] ∧
   named G=p.groups∧G.length≤i∧p.deals.length≤i∧A7m (C3 r.items l) p.us∧∃ x,Off (W1 l) p.us x) ?_ ?_
 ·conv=>whnf
  exact ⟨⟨W1 l,[],[]⟩,.emp,.emp,[],_,rfl,rfl,RD.start _,A4 ..,rfl,D6M _,D6M _,hus0,0,Off.refl hus0.ok⟩
 ·rintro i vs t hi ⟨p,dv,gv,G,fp,hp,rfl,hR,hfp,hG,hGn,hDn,hus,x,hoff⟩
  conv=>whnf
  cases hd:decide ((i:Int)<(o.length:Int))
  case true =>
   have hi':=E2 hd
   have hx:=hom _ (A7 hi')
   have hx0:0≤gI o (i:Int).toNat:=hx.1
   have hx1:(gI o (i:Int).toNat).toNat<r.promos.length:=hx.2
   have hpm:F2 r.promos (gI o i)∈r.promos:=A7 hx.2
   have hpr:F2 r.promos (gI o i)=r.promos.getD (gI o (i:Int).toNat).toNat default:=rfl
   have hps:PSm (F2 r.promos (gI o i)):=⟨hsm.promos _ hpm,hck.promo _ hpm,hf.fit _ hpm⟩
   have hnext:=B1s (fun p=>p) (A4W (C3 r.items l)) U3 r.promos ⟨W1 l,[],[]⟩ (o.take i) (gI o i)
   rw [←htk hi',←hp,hpr] at hnext
   rw [hpr] at hps;conv=>whnf
   refine ⟨[8,9],[1,5,7],List.range 10,by kernel_rfl,?_⟩;conv=>whnf
   refine ⟨_,fun s _=>⟨rfl,rfl⟩,?_⟩;conv=>whnf
   refine E7 ?_
   refine ⟨_,fun s _=>⟨rfl,rfl⟩,?_⟩;conv=>whnf
   refine ⟨rfl,⟨by show 0≤gI o (i:Int).toNat;omega,by show gI o (i:Int).toNat<(r.promos.length:Int);omega⟩,?_⟩;conv=>whnf
   refine ⟨_,fun s _=>⟨rfl,rfl⟩,?_⟩;conv=>whnf
   have hend:∀ {q:PSt} {dv' gv':AV} {G':List C8} {fp':Nat→AV} {t':St},q=Z5 (fun p=>p) (A4W (C3 r.items l)) U3 r.promos ⟨W1 l,[],[]⟩ (o.take (i+1))→RD q.deals G' dv' gv' (upd (upd s6 bn ⟨2,1,l.length,fun _=>H7 r2.zero⟩) bp ⟨170,4,1,fp'⟩) t'→fp' 0=.agg [.own 1 bn 0 l.length,eI 0,eI 0,dv'] →
     named G'=q.groups→G'.length≤i+1→q.deals.length≤i+1→A7m (C3 r.items l) q.us→(∃ x,Off (W1 l) q.us x)→∃ (p:PSt) (dv gv:AV) (G:List C8) (fp:Nat→AV),p=Z5 (fun p=>p) (A4W (C3 r.items l)) U3 r.promos ⟨W1 l,[],[]⟩ (o.take (i+1)) ∧
     [.fptr (F7 r) 0,.optr 4 b6 0 0,C6 q.us,A8 4 E9 (C3 r.items l),B0 o,.optr 4 bp 0 0,gv',eI (IntKind.i64.wrap ((i:Int)+1))]=[.fptr (F7 r) 0,.optr 4 b6 0 0,C6 p.us,A8 4 E9 (C3 r.items l),B0 o,.optr 4 bp 0 0,gv,eI ((i+1:Nat):Int)] ∧
     RD p.deals G dv gv (upd (upd s6 bn ⟨2,1,l.length,fun _=>H7 r2.zero⟩) bp ⟨170,4,1,fp⟩) t'∧fp 0=.agg [.own 1 bn 0 l.length,eI 0,eI 0,dv] ∧
     named G=p.groups∧G.length≤i+1∧p.deals.length≤i+1∧A7m (C3 r.items l) p.us∧∃ x,Off (W1 l) p.us x:=fun {q dv' gv' G' fp' t'} h1 h2 h3 h4 h5 h6 h7 h8=>⟨q,dv',gv',G',fp',h1,by rw [B4 (by omega)],h2,h3,h4,h5,h6,h7,h8⟩
   cases h7:((r.promos.getD (gI o (i:Int).toNat).toNat default).kind==7)
   case true =>
    rw [if_neg (by unfold U3;rw [h7];simp)] at hnext;conv=>whnf
    refine G2 ?_
    exact nx hi' (hend hnext.symm hR hfp hG (by omega) (by omega) hus ⟨x,hoff⟩)
   case false =>
    have hns:U3 (r.promos.getD (gI o (i:Int).toNat).toNat default)=true:=by unfold U3;rw [h7];rfl
    rw [if_pos hns,C5X hns hG] at hnext;conv=>whnf
    refine B3 (B7c G (r.promos.getD (gI o (i:Int).toNat).toNat default).group (by omega) gv _ hR.groups) ?_
    cases htk:(!N2 (r.promos.getD (gI o (i:Int).toNat).toNat default).group&&G.any fun y=>y.toList==(r.promos.getD (gI o (i:Int).toNat).toNat default).group.toList)
    case true =>
     rw [if_pos htk] at hnext;conv=>whnf
     refine G2 ?_
     exact nx hi' (hend hnext.symm hR hfp hG (by omega) (by omega) hus ⟨x,hoff⟩)
    case false =>
     rw [if_neg (by rw [htk];simp)] at hnext
     have hk7:(r.promos.getD (gI o (i:Int).toNat).toNat default).kind≠7:=by simpa using h7
     obtain ⟨y,hoy⟩:=B5Q hus hps.fit hps.right hk7
     have hus2:=hus.off hoy
     have hof2:=hoff.trans hoy
     rw [←hnext] at hus2 hof2
     have hAs:A4W (C3 r.items l) p (r.promos.getD (gI o (i:Int).toNat).toNat default)=if (A0h (C3 r.items l) p.us (r.promos.getD (gI o (i:Int).toNat).toNat default)).2>0 then A1F ⟨(A0h (C3 r.items l) p.us (r.promos.getD (gI o (i:Int).toNat).toNat default)).1,p.deals,p.groups⟩ (r.promos.getD (gI o (i:Int).toNat).toNat default) (A0h (C3 r.items l) p.us (r.promos.getD (gI o (i:Int).toNat).toNat default)).2 else p:=rfl
     conv=>whnf
     refine call (C9g (C3 r.items l) p.us (r.promos.getD (gI o (i:Int).toNat).toNat default) hps hk7 hus _) (fun v t' hv=>?_)
     obtain ⟨⟨z,rfl,hz⟩,rfl⟩:=hv
     conv=>whnf
     cases hgt:decide ((A0h (C3 r.items l) p.us (r.promos.getD (gI o (i:Int).toNat).toNat default)).2>0)
     case false =>
      rw [if_neg (D6G hgt)] at hAs
      rw [hAs] at hnext;conv=>whnf
      refine G2 ?_
      exact nx hi' (hend hnext.symm hR hfp hG (by omega) (by omega) hus ⟨x,hoff⟩)
     case true =>
      have hgt':=D6H hgt
      rw [if_pos hgt'] at hAs
      rw [hAs] at hnext
      obtain rfl:=hz hgt'
      conv=>whnf
      refine RD.appG (y:=(r.promos.getD (gI o (i:Int).toNat).toNat default).group) hR rfl rfl (by omega) (fun gv' t1 hR1=>?_);conv=>whnf
      have hdv:=ROut.head hR1
      rcases hdv with rfl | ⟨bo,rfl⟩
      all_goals
       refine J6 (hat hR1).2 hfp ?_
       refine RD.appD (y:=⟨(r.promos.getD (gI o (i:Int).toNat).toNat default).id,(A0h (C3 r.items l) p.us (r.promos.getD (gI o (i:Int).toNat).toNat default)).2⟩) hR1 rfl (by rfl) (by omega) (fun bd t2 hR2=>?_);conv=>whnf
       refine Z7 (hat hR2).2 hfp ?_
       refine G2 ?_
       refine nx hi' ?_
       have hD:(A1F ⟨(A0h (C3 r.items l) p.us (r.promos.getD (gI o (i:Int).toNat).toNat default)).1,p.deals,p.groups⟩ (r.promos.getD (gI o (i:Int).toNat).toNat default) (A0h (C3 r.items l) p.us (r.promos.getD (gI o (i:Int).toNat).toNat default)).2).deals=p.deals++[⟨(r.promos.getD (gI o (i:Int).toNat).toNat default).id,(A0h (C3 r.items l) p.us (r.promos.getD (gI o (i:Int).toNat).toNat default)).2⟩]:=rfl
       have hGr:(A1F ⟨(A0h (C3 r.items l) p.us (r.promos.getD (gI o (i:Int).toNat).toNat default)).1,p.deals,p.groups⟩ (r.promos.getD (gI o (i:Int).toNat).toNat default) (A0h (C3 r.items l) p.us (r.promos.getD (gI o (i:Int).toNat).toNat default)).2).groups=p.groups++(if N2 (r.promos.getD (gI o (i:Int).toNat).toNat default).group=true then [] else [(r.promos.getD (gI o (i:Int).toNat).toNat default).group]):=rfl
       have hUs:(A1F ⟨(A0h (C3 r.items l) p.us (r.promos.getD (gI o (i:Int).toNat).toNat default)).1,p.deals,p.groups⟩ (r.promos.getD (gI o (i:Int).toNat).toNat default) (A0h (C3 r.items l) p.us (r.promos.getD (gI o (i:Int).toNat).toNat default)).2).us=(A0h (C3 r.items l) p.us (r.promos.getD (gI o (i:Int).toNat).toNat default)).1:=rfl
       rw [hnext] at hus2 hof2
       exact hend (G':=G++[(r.promos.getD (gI o (i:Int).toNat).toNat default).group]) hnext.symm (hwp hR2) (A4 ..) (by rw [B1K,hG];rfl) (by rw [D6P];show G.length+1≤_;omega) (by rw [hD,D6P];show p.deals.length+1≤_;omega) hus2 ⟨_,hof2⟩
  case false =>
   obtain rfl:=C5 hd hi
   rw [D6O] at hp
   have hp1:p1B r l o=p:=hp.symm
   rw [hp1] at hXd
   clear hp1 hp
   have hu1:=hus.ok
   have hul:=hu1.len
   have hus1:=hu1.sum
   have hnet0:=C1 hu1.nets0
   have hline:∀ k,k<p.us.length→0≤(gU p.us k).line∧(gU p.us k).line.toNat<l.length:=fun k hk=>by
    have:=hus.line _ (A7 hk)
    rw [hitl] at this;exact this
   have hul1:p.us.length=(W1 l).length:=hoff.len
   conv=>whnf
   refine lp p.us.length [3,6,9,11,12,13,18] (fun k vs t=>∃ (fn fp:Nat→AV),vs=[.fptr (F7 r) 0,.optr 4 b6 0 0,C6 p.us,B0 o,.optr 4 bp 0 0,gv,eI k] ∧
    RD p.deals G dv gv (upd (upd s6 bn ⟨2,1,l.length,fn⟩) bp ⟨170,4,1,fp⟩) t∧fp 0=.agg [.own 1 bn 0 l.length,eI (A2 ((D9 p.us).take k)),eI 0,dv]∧∀ j,j<l.length→fn j=eI (F8 (p.us.take k) j)) ?_ ?_
   ·conv=>whnf
    exact ⟨_,fp,rfl,hR,hfp,fun j _=>rfl⟩
   ·clear hR hfp fp
    rintro k vs t hk ⟨fn,fp,rfl,hR,hfp,hfn⟩
    obtain ⟨htn,htp⟩:=hat hR
    conv=>whnf
    cases hd2:decide ((k:Int)<(p.us.length:Int))
    case true =>
     have hk':=E2 hd2
     have hlk:0≤(gU p.us (k:Int).toNat).line∧(gU p.us (k:Int).toNat).line.toNat<l.length:=hline k hk'
     have hn0:0≤(gU p.us k).net:=hu1.at0 k
     have hn1:(gU p.us k).net≤10000000000000:=hu1.le (A7 hk')
     have e1:=K9 (l:=D9 p.us) (i:=k) (by rw [D6J];exact hk')
     have e4:gI (D9 p.us) k=(gU p.us k).net:=D4 B2.net p.us hk'
     have e2:=N0 hu1.nets0 (k+1)
     have e3:=C1 (l:=(D9 p.us).take k) (fun x hx=>hu1.nets0 x (D7G _ _ hx))
     have hlb:=A0V hu1 k (gU p.us (k:Int).toNat).line.toNat
     have hlb2:=A0V hu1 (k+1) (gU p.us (k:Int).toNat).line.toNat
     have hln1:F8 (p.us.take (k+1)) (gU p.us (k:Int).toNat).line.toNat=F8 (p.us.take k) (gU p.us (k:Int).toNat).line.toNat+(gU p.us (k:Int).toNat).net:=(Z0 hk' (gU p.us k).line.toNat).trans (if_pos rfl)
     have hfl:fn (0+(gU p.us (k:Int).toNat).line.toNat)=eI (F8 (p.us.take k) (gU p.us (k:Int).toNat).line.toNat):=by rw [D6Q];exact hfn _ hlk.2
     have w1:IntKind.i64.wrap (F8 (p.us.take k) (gU p.us (k:Int).toNat).line.toNat+(gU p.us (k:Int).toNat).net)=F8 (p.us.take (k+1)) (gU p.us (k:Int).toNat).line.toNat:=by rw [hln1];exact A5 (by omega) (by omega)
     have w2:IntKind.i64.wrap (A2 ((D9 p.us).take k)+(gU p.us (k:Int).toNat).net)=A2 ((D9 p.us).take (k+1)):=by rw [e1,e4];exact A5 (by omega) (by omega)
     conv=>whnf
     refine ⟨[23],[],List.range 24,by kernel_rfl,?_⟩;conv=>whnf
     refine J6 htp hfp ?_
     refine E7 ?_
     refine J6 htp hfp ?_
     refine E7 ?_
     refine ⟨rfl,⟨by show 0≤(gU p.us (k:Int).toNat).line;exact hlk.1,by show (gU p.us (k:Int).toNat).line<(l.length:Int);have:=hlk.2;have:=hlk.1;omega⟩,?_⟩;conv=>whnf
     refine ldV htn rfl (by show 0+(gU p.us (k:Int).toNat).line.toNat<_;have:=hlk.2;omega) hfl ?_;conv=>whnf
     refine E7 ?_
     refine ⟨rfl,⟨by show 0≤(gU p.us (k:Int).toNat).line;exact hlk.1,by show (gU p.us (k:Int).toNat).line<(l.length:Int);have:=hlk.2;have:=hlk.1;omega⟩,?_⟩;conv=>whnf
     refine stV htn rfl (by show 0+(gU p.us (k:Int).toNat).line.toNat<_;have:=hlk.2;omega) hfl (by rfl) ?_
     have hP5:=hwn (Y':=⟨2,1,l.length,I4 fn (0+(gU p.us (k:Int).toNat).line.toNat) (eI (F8 (p.us.take (k+1)) (gU p.us (k:Int).toNat).line.toNat))⟩) hR
     rw [←w1] at hP5
     obtain ⟨_,htp2⟩:=hat hP5
     conv=>whnf
     refine ⟨[9],[],List.range 10,by kernel_rfl,?_⟩;conv=>whnf
     refine J6 htp2 hfp ?_
     refine E7 ?_
     refine Z7 htp2 hfp ?_
     refine G2 ?_
     refine nx hk' ⟨_,_,by rw [B4 (by omega)],hwp hP5,?_,fun j hj=>?_⟩
     ·rw [A4,←w2];rfl
     ·show I4 fn (0+(gU p.us (k:Int).toNat).line.toNat) _ j=_
      rw [D6Q]
      by_cases hj2:j=(gU p.us (k:Int).toNat).line.toNat
      ·subst hj2
       rw [A4,w1]
      ·rw [H4 hj2,Z0 hk' j,if_neg (fun e=>hj2 e.symm)];exact hfn j hj
    case false =>
     obtain rfl:=C5 hd2 hk
     rw [D6O] at hfn
     have htk2:(D9 p.us).take p.us.length=D9 p.us:=by rw [←D6J (f:=B2.net),D6O]
     rw [htk2] at hfp
     change fp 0=.agg [.own 1 bn 0 l.length,eI (O0 p),eI 0,dv] at hfp
     have hF:A0O r.ship (W1 l).length (O0 p)=if ((p.us.length:Int)=0∨(r.ship.free>0∧O0 p≥r.ship.free)) then 0 else r.ship.fee:=by unfold A0O;rw [hul1]
     have hnb0:0≤O0 p:=hnet0
     conv=>whnf
     refine B9 (fun g1=>?_) (fun g1=>?_)<;>rw [g1]<;>simp only [D6F,D6E] at g1
     case' refine_1 =>
      conv=>whnf
      refine B9 (fun g2=>?_) (fun g2=>?_)<;>rw [g2]<;>simp only [D7B,D7p,ne_eq] at g2
     case' refine_1.refine_1 =>
      conv=>whnf
      refine stU htp hfp ?_
      have hR3:=hwp (Z':=⟨170,4,1,I4 fp 0 (.agg [.own 1 bn 0 l.length,eI (O0 p),eI r.ship.fee,dv])⟩) hR
      have hfp3:I4 fp 0 (.agg [.own 1 bn 0 l.length,eI (O0 p),eI r.ship.fee,dv]) 0=.agg [.own 1 bn 0 l.length,eI (O0 p),eI (A0O r.ship (W1 l).length (O0 p)),dv]:=by rw [A4,hF,if_neg (by omega)]
     case' refine_1.refine_2 =>
      conv=>whnf
      refine J6 htp hfp ?_
      refine B9 (fun g3=>?_) (fun g3=>?_)<;>rw [g3]<;>simp only [D6F,D6E] at g3
     case' refine_1.refine_2.refine_1 =>
      conv=>whnf
      refine stU htp hfp ?_
      have hR3:=hwp (Z':=⟨170,4,1,I4 fp 0 (.agg [.own 1 bn 0 l.length,eI (O0 p),eI r.ship.fee,dv])⟩) hR
      have hfp3:I4 fp 0 (.agg [.own 1 bn 0 l.length,eI (O0 p),eI r.ship.fee,dv]) 0=.agg [.own 1 bn 0 l.length,eI (O0 p),eI (A0O r.ship (W1 l).length (O0 p)),dv]:=by rw [A4,hF,if_neg (by omega)]
     case' refine_1.refine_2.refine_2 =>
      have hR3:=hR
      have hfp3:fp 0=.agg [.own 1 bn 0 l.length,eI (O0 p),eI (A0O r.ship (W1 l).length (O0 p)),dv]:=by rw [hfp,hF,if_pos (by omega)]
     case' refine_2 =>
      have hR3:=hR
      have hfp3:fp 0=.agg [.own 1 bn 0 l.length,eI (O0 p),eI (A0O r.ship (W1 l).length (O0 p)),dv]:=by rw [hfp,hF,if_pos (by omega)]
     all_goals
      conv=>whnf
      clear hR hfp hF
      have hfeB:0≤A0O r.ship (W1 l).length (O0 p)∧A0O r.ship (W1 l).length (O0 p)≤10000000000000:=by
       unfold A0O;split<;>omega
      refine lp o.length [3,6,11,12,13,19] (fun i vs t=>∃ (a:PSt×Int) (dv gv:AV) (G:List C8) (fp:Nat→AV),a=Z5 (fun a=>a.1) (W0 (O0 p)) A0l r.promos (p,A0O r.ship (W1 l).length (O0 p)) (o.take i) ∧
       vs=[.fptr (F7 r) 0,.optr 4 b6 0 0,B0 o,.optr 4 bp 0 0,gv,eI i] ∧
       RD a.1.deals G dv gv (upd (upd s6 bn ⟨2,1,l.length,fn⟩) bp ⟨170,4,1,fp⟩) t∧fp 0=.agg [.own 1 bn 0 l.length,eI (O0 p),eI a.2,dv] ∧
       named G=a.1.groups∧G.length≤60+i∧a.1.deals.length≤60+i∧0≤a.2∧a.2≤10000000000000) ?_ ?_
      ·conv=>whnf
       exact ⟨(p,A0O r.ship (W1 l).length (O0 p)),dv,gv,G,_,rfl,rfl,hR3,hfp3,hG,by omega,by show p.deals.length≤_;omega,hfeB⟩
      clear hR3 hfp3 hG hGn hDn htp htn hd hd2 hk hi
      rintro i vs t hi ⟨a,dv,gv,G,fp,ha,rfl,hR,hfp,hG,hGn,hDn,ha0,ha1⟩
      obtain ⟨htn,htp⟩:=hat hR
      conv=>whnf
      cases hd:decide ((i:Int)<(o.length:Int))
      case false =>
       obtain rfl:=C5 hd hi
       rw [D6O] at ha
       have hp2:p2B r l p o=a:=ha.symm
       rw [hp2] at hXd
       have h6b:t b6=some ⟨170,4,1,fun _=>H7 B8O.zero⟩:=hR.sup b6 _ (by rw [A9 hb6p,A9 hb6n];exact h6)
       have h76:F1 s6 t:=fun c x hc=>hR.sup c x (by
        have e1:c≠bp:=fun e=>by subst e;rw [hbp6] at hc;cases hc
        have e2:c≠bn:=fun e=>by subst e;rw [hbn] at hc;cases hc
        rw [A9 e1,A9 e2];exact hc)
       have hS2:F1 st t:=hst6.trans h76
       have hnets:∀ k,k<l.length→fn k=eI (gI X.nets k):=fun k hk=>by
        rw [hXd,hfn k hk]
        show eI _=eI (gI (X4 l.length p.us) k)
        unfold X4
        rw [M8 _ hk]
       conv=>whnf
       rcases hR.deals with ⟨hd0,rfl⟩ | ⟨bd,gd,rfl,hbd,hbt,hgd⟩
       ·refine J6 htp hfp ?_
        refine Z7 h6b rfl ?_
        refine J6 (A0 ..) (A4 ..) ?_
        exact .inr ⟨hk0,bn,fn,.emp,by rw [hXd];rfl,hstn,by rw [A9 hb6n.symm];exact htn,hnets,hS2.over hb6,.inl ⟨by rw [hXd];exact hd0,rfl⟩⟩
       ·have hbdp:bd≠bp:=fun e=>by subst e;rw [A0] at hbd;cases hbd
        rw [A9 hbdp] at hbd
        have hbdn:bd≠bn:=fun e=>by subst e;rw [A0] at hbd;cases hbd
        rw [A9 hbdn] at hbd
        have hbd6:bd≠b6:=fun e=>by subst e;rw [h6] at hbd;cases hbd
        refine J6 htp hfp ?_
        refine Z7 h6b rfl ?_
        refine J6 (A0 ..) (A4 ..) ?_
        exact .inr ⟨hk0,bn,fn,.own 2 bd 0 a.1.deals.length,by rw [hXd];rfl,hstn,by rw [A9 hb6n.symm];exact htn,hnets,hS2.over hb6,.inr ⟨bd,gd,by rw [hXd],hst6.none hbd,hbdn,by rw [A9 hbd6,hXd];exact hbt,by rw [hXd];exact hgd⟩⟩
      case true =>
       have hi':=E2 hd
       have hx:=hom _ (A7 hi')
       have hx0:0≤gI o (i:Int).toNat:=hx.1
       have hx1:(gI o (i:Int).toNat).toNat<r.promos.length:=hx.2
       have hpm:(r.promos.getD (gI o (i:Int).toNat).toNat default)∈r.promos:=A7 hx.2
       have hpc1:H2 (r.promos.getD (gI o (i:Int).toNat).toNat default)=true:=hck.promo _ hpm
       have hnext:Z5 (fun a=>a.1) (W0 (O0 p)) A0l r.promos (p,A0O r.ship (W1 l).length (O0 p)) (o.take (i+1))=if A0l (r.promos.getD (gI o (i:Int).toNat).toNat default)=true then goB (fun a=>a.1) (W0 (O0 p)) a (r.promos.getD (gI o (i:Int).toNat).toNat default) else a:=by
        rw [htk hi',B1s,←ha];rfl
       have hend:∀ {q:PSt×Int} {dv' gv':AV} {G':List C8} {fp':Nat→AV} {t':St},q=Z5 (fun a=>a.1) (W0 (O0 p)) A0l r.promos (p,A0O r.ship (W1 l).length (O0 p)) (o.take (i+1))→RD q.1.deals G' dv' gv' (upd (upd s6 bn ⟨2,1,l.length,fn⟩) bp ⟨170,4,1,fp'⟩) t'→fp' 0=.agg [.own 1 bn 0 l.length,eI (O0 p),eI q.2,dv'] →
         named G'=q.1.groups→G'.length≤60+(i+1)→q.1.deals.length≤60+(i+1)→0≤q.2∧q.2≤10000000000000→∃ (a:PSt×Int) (dv gv:AV) (G:List C8) (fp:Nat→AV),a=Z5 (fun a=>a.1) (W0 (O0 p)) A0l r.promos (p,A0O r.ship (W1 l).length (O0 p)) (o.take (i+1)) ∧
         [.fptr (F7 r) 0,.optr 4 b6 0 0,B0 o,.optr 4 bp 0 0,gv',eI (IntKind.i64.wrap ((i:Int)+1))]=[.fptr (F7 r) 0,.optr 4 b6 0 0,B0 o,.optr 4 bp 0 0,gv,eI ((i+1:Nat):Int)] ∧
         RD a.1.deals G dv gv (upd (upd s6 bn ⟨2,1,l.length,fn⟩) bp ⟨170,4,1,fp⟩) t'∧fp 0=.agg [.own 1 bn 0 l.length,eI (O0 p),eI a.2,dv] ∧
         named G=a.1.groups∧G.length≤60+(i+1)∧a.1.deals.length≤60+(i+1)∧0≤a.2∧a.2≤10000000000000:=fun {q dv' gv' G' fp' t'} h1 h2 h3 h4 h5 h6 h7=>⟨q,dv',gv',G',fp',h1,by rw [B4 (by omega)],h2,h3,h4,h5,h6,h7⟩
       conv=>whnf
       refine ⟨[8,9],[1,5,7],List.range 10,by kernel_rfl,?_⟩;conv=>whnf
       refine ⟨_,fun s _=>⟨rfl,rfl⟩,?_⟩;conv=>whnf
       refine E7 ?_
       refine ⟨_,fun s _=>⟨rfl,rfl⟩,?_⟩;conv=>whnf
       refine ⟨rfl,⟨by show 0≤gI o (i:Int).toNat;omega,by show gI o (i:Int).toNat<(r.promos.length:Int);omega⟩,?_⟩;conv=>whnf
       refine ⟨_,fun s _=>⟨rfl,rfl⟩,?_⟩;conv=>whnf
       rw [show ((r.promos.getD (gI o (i:Int).toNat).toNat default).kind != 7)=!((r.promos.getD (gI o (i:Int).toNat).toNat default).kind==7) from rfl]
       cases h7:((r.promos.getD (gI o (i:Int).toNat).toNat default).kind==7)
       case false =>
        rw [if_neg (by unfold A0l;rw [h7];simp)] at hnext;conv=>whnf
        refine G2 ?_
        exact nx hi' (hend hnext.symm hR hfp hG (by omega) (by omega) ⟨ha0,ha1⟩)
       case true =>
        have hns:A0l (r.promos.getD (gI o (i:Int).toNat).toNat default)=true:=by unfold A0l;rw [h7]
        rw [if_pos hns,C7V hG] at hnext;conv=>whnf
        refine B3 (B7c G (r.promos.getD (gI o (i:Int).toNat).toNat default).group (by omega) gv _ hR.groups) ?_
        cases htk2:(!N2 (r.promos.getD (gI o (i:Int).toNat).toNat default).group&&G.any fun y=>y.toList==(r.promos.getD (gI o (i:Int).toNat).toNat default).group.toList)
        case true =>
         rw [if_pos htk2] at hnext;conv=>whnf
         refine G2 ?_
         exact nx hi' (hend hnext.symm hR hfp hG (by omega) (by omega) ⟨ha0,ha1⟩)
        case false =>
         rw [if_neg (by rw [htk2];simp)] at hnext
         have hgl:=C1r G
         rw [hG] at hgl
         have hinv:=B3J (net:=O0 p) (n:=0) hpc1 hns (a:=a) ⟨by omega,by omega,ha0,ha1⟩
         have hS0:W0 (O0 p) a (r.promos.getD (gI o (i:Int).toNat).toNat default)=((A7w a.1 (r.promos.getD (gI o (i:Int).toNat).toNat default) (O0 p) a.2).2,(A7w a.1 (r.promos.getD (gI o (i:Int).toNat).toNat default) (O0 p) a.2).1):=rfl
         have hSB:A7w a.1 (r.promos.getD (gI o (i:Int).toNat).toNat default) (O0 p) a.2=if O0 p<(r.promos.getD (gI o (i:Int).toNat).toNat default).least then (a.2,a.1) else (a.2 - J9 a.2 (r.promos.getD (gI o (i:Int).toNat).toNat default).rate,if J9 a.2 (r.promos.getD (gI o (i:Int).toNat).toNat default).rate>0 then A1F a.1 (r.promos.getD (gI o (i:Int).toNat).toNat default) (J9 a.2 (r.promos.getD (gI o (i:Int).toNat).toNat default).rate) else a.1):=rfl
         rw [hS0] at hnext hinv;conv=>whnf
         refine J6 htp hfp ?_
         cases hgt:decide ((r.promos.getD (gI o (i:Int).toNat).toNat default).least>O0 p)
         case true =>
          have hgt':=D6H hgt
          rw [hSB,if_pos hgt'] at hnext;conv=>whnf
          refine G2 ?_
          exact nx hi' (hend (q:=a) hnext.symm hR hfp hG (by omega) (by omega) ⟨ha0,ha1⟩)
         case false =>
          have hgt':=D6G hgt
          rw [if_neg (by omega)] at hSB
          have hb:=T7 a.2 (r.promos.getD (gI o (i:Int).toNat).toNat default).rate
          have hr0:=(A3R hpc1).ship (by simpa using h7)
          have hle:=A5p ha0 (show 0≤(r.promos.getD (gI o (i:Int).toNat).toNat default).rate by omega) hr0.2
          have hw:IntKind.i64.wrap (a.2 - J9 a.2 (r.promos.getD (gI o (i:Int).toNat).toNat default).rate)=a.2 - J9 a.2 (r.promos.getD (gI o (i:Int).toNat).toNat default).rate:=A5 (by omega) (by omega)
          conv=>whnf
          refine J6 htp hfp ?_
          refine I2 (A8S a.2 (r.promos.getD (gI o (i:Int).toNat).toNat default).rate _) ?_
          cases hgh:decide (J9 a.2 (r.promos.getD (gI o (i:Int).toNat).toNat default).rate>0)
          case false =>
           have hgh':=D6G hgh
           rw [if_neg hgh'] at hSB
           rw [hSB,show a.2 - J9 a.2 (r.promos.getD (gI o (i:Int).toNat).toNat default).rate=a.2 by omega] at hnext;conv=>whnf
           refine G2 ?_
           exact nx hi' (hend (q:=a) hnext.symm hR hfp hG (by omega) (by omega) ⟨ha0,ha1⟩)
          case true =>
           have hgh':=D6H hgh
           rw [if_pos hgh'] at hSB
           rw [hSB] at hnext hinv;conv=>whnf
           refine ⟨[1,6,7,8,10],[],[],.qui 0 (.qui 2 (.qui 4 (.qui 5 (.two 1 6 (.qui 3 (.qui 9 (.gen 6 (.gen 7 (.gen 8 (.gen 10 (.qui 11 .done))))))) (.two 1 7 (.qui 3 (.qui 9 (.gen 7 (.gen 8 (.gen 10 (.qui 11 .done)))))) (.two 1 8 (.qui 3 (.qui 9 (.gen 8 (.gen 10 (.qui 11 .done))))) (.gen 1 (.qui 3 (.qui 9 (.gen 10 (.qui 11 .done))))))))))),by kernel_rfl,?_⟩;conv=>whnf
           repeat' (refine And.intro ?_ ?_<;>(conv=>whnf))
           all_goals first
            | (refine ldV htp rfl (by omega) hfp ?_
               conv=>whnf
               refine RD.appG (y:=(r.promos.getD (gI o (i:Int).toNat).toNat default).group) hR rfl rfl (by omega) (fun gv' t1 hR1=>?_))
            | (refine RD.appG (y:=(r.promos.getD (gI o (i:Int).toNat).toNat default).group) hR rfl rfl (by omega) (fun gv' t1 hR1=>?_)
               conv=>whnf
               refine ldV (hat hR1).2 rfl (by omega) hfp ?_)
           all_goals
            conv=>whnf
            refine stU (hat hR1).2 hfp ?_
            have hR2:=hwp (Z':=⟨170,4,1,I4 fp 0 (.agg [.own 1 bn 0 l.length,eI (O0 p),eI (IntKind.i64.wrap (a.2 - J9 a.2 (r.promos.getD (gI o (i:Int).toNat).toNat default).rate)),dv])⟩) hR1
            rcases ROut.head hR2 with rfl | ⟨bo,rfl⟩
            all_goals
             conv=>whnf
             refine J6 (hat hR2).2 (A4 ..) ?_
             refine RD.appD (y:=⟨(r.promos.getD (gI o (i:Int).toNat).toNat default).id,J9 a.2 (r.promos.getD (gI o (i:Int).toNat).toNat default).rate⟩) hR2 rfl (by rfl) (by omega) (fun bd t2 hR3=>?_);conv=>whnf
             refine Z7 (hat hR3).2 (A4 ..) ?_
             refine G2 ?_
             refine nx hi' ?_
             exact hend (q:=(A1F a.1 (r.promos.getD (gI o (i:Int).toNat).toNat default) (J9 a.2 (r.promos.getD (gI o (i:Int).toNat).toNat default).rate),a.2 - J9 a.2 (r.promos.getD (gI o (i:Int).toNat).toNat default).rate)) (G':=G++[(r.promos.getD (gI o (i:Int).toNat).toNat default).group]) hnext.symm (hwp hR3) (by rw [A4,hw];rfl) (by rw [B1K,hG];rfl) (by rw [D6P];show G.length+1≤_;omega) (by show (a.1.deals++[_]).length≤_;rw [D6P];show a.1.deals.length+1≤_;omega) ⟨by show 0≤a.2 - J9 a.2 (r.promos.getD (gI o (i:Int).toNat).toNat default).rate;omega,by show a.2 - J9 a.2 (r.promos.getD (gI o (i:Int).toNat).toNat default).rate≤_;omega⟩
end Go.Proofs.YtaapofnkmpiknaaGreat
namespace Go.Proofs.YtaapofnkmpiknaaGreat
open Go Go.Ab
abbrev C4g (l:List B1) (xs:List (Int×Int)):List A1O:=xs.map fun a=>(⟨(F2 l a.1).id,a.2⟩:A1O)
abbrev B1u (l:List B1) (xs:List (Int×Int)):List C8:=(xs.map fun a=>(F2 l a.1).group).filter fun g=>!N2 g
structure Tr (l:List B1) (p:PSt) (xs:List (Int×Int)):Prop where
 deals:p.deals=C4g l xs
 groups:p.groups=B1u l xs
 pos:∀ a∈xs,1≤a.2
 apart:p.groups.Pairwise fun x y=>(y.toList==x.toList)=false
theorem Tr.start (l:List B1) (us:List B2):Tr l ⟨us,[],[]⟩ []:=⟨rfl,rfl,fun a h=>absurd h D8j,.nil⟩
def B4o {σ : Type} (px : σ→PSt) (step : σ→B1→σ) (sm:B1→Bool) (l:List B1) (Q : σ→Int→Prop):Prop :=
 ∀ (a : σ) (s:Int) (pr:B1),pr∈l→sm pr=true→Q a s →
  ((px (step a pr)).deals=(px a).deals∧(px (step a pr)).groups=(px a).groups∧Q (step a pr) s) ∨
  ∃ off,1≤off∧(px (step a pr)).deals=(px a).deals++[⟨pr.id,off⟩]∧(px (step a pr)).groups=(px a).groups++(if N2 pr.group=true then [] else [pr.group])∧Q (step a pr) (s+off)
theorem C7F {σ : Type} {px : σ→PSt} {step : σ→B1→σ} {sm:B1→Bool} {l:List B1} {Q : σ→Int→Prop} (hstep:B4o px step sm l Q) :
  ∀ (f:List Int) (a : σ) (xs:List (Int×Int)) (s:Int),(∀ x∈f,x.toNat<l.length∧sm (F2 l x)=true)→Tr l (px a) xs→Q a s →
   ∃ ys,Tr l (px (f.foldl (fun a x=>goB px step a (F2 l x)) a)) (xs++ys)∧(ys.map Prod.fst).Sublist f∧Q (f.foldl (fun a x=>goB px step a (F2 l x)) a) (s+A2 (ys.map Prod.snd)):=by
 intro f
 induction f with
 | nil=>intro a xs s _ ht hq;exact ⟨[],by rw [D8y];exact ht,List.Sublist.slnil,by rw [show s+A2 (([]:List (Int×Int)).map Prod.snd)=s from D8R s];exact hq⟩
 | cons x f ih =>
  intro a xs s hm ht hq
  have hm':∀ y∈f,y.toNat<l.length∧sm (F2 l y)=true:=fun y hy=>hm y (D7d _ hy)
  have hx:=hm x (D7f ..)
  have hmem:F2 l x∈l:=A7 hx.1
  rw [D7U]
  unfold goB
  by_cases hg:(N2 (F2 l x).group||!inB (px a).groups (F2 l x).group)=true
  ·rw [if_pos hg]
   rcases hstep a s (F2 l x) hmem hx.2 hq with ⟨h1,h2,h3⟩ | ⟨off,h0,h1,h2,h3⟩
   ·obtain ⟨ys,k1,k2,k3⟩:=ih _ xs s hm' ⟨h1.trans ht.deals,h2.trans ht.groups,ht.pos,by rw [h2];exact ht.apart⟩ h3
    exact ⟨ys,k1,k2.cons _,k3⟩
   ·have ht':Tr l (px (step a (F2 l x))) (xs++[(x,off)]):=by
     refine ⟨?_,?_,fun b hb=>?_,?_⟩
     ·rw [h1,ht.deals];unfold C4g;rw [D7k];rfl
     ·rw [h2,ht.groups];unfold B1u
      rw [D7k,D8A]
      congr 1
      cases hn:N2 (F2 l x).group
      ·rw [if_neg (by simp)]
       show [(F2 l x).group]=List.filter (fun g=>!N2 g) [(F2 l x).group]
       rw [D7I (p:=fun g=>!N2 g) (by rw [hn];rfl)];rfl
      ·rw [if_pos rfl]
       show []=List.filter (fun g=>!N2 g) [(F2 l x).group]
       rw [D7O (p:=fun g=>!N2 g) (by rw [hn];simp)];rfl
     ·rcases D7T.1 hb with hb | hb
      ·exact ht.pos b hb
      ·rw [D7i.1 hb];exact h0
     ·rw [h2]
      refine List.pairwise_append.2 ⟨ht.apart,?_,fun y hy z hz=>?_⟩
      ·split
       ·exact .nil
       ·exact List.pairwise_singleton _ _
      ·split at hz
       ·exact absurd hz D8j
       ·rename_i hn
        rw [D7i.1 hz]
        rw [D8x.2 hn,D7r,D6X] at hg
        unfold inB at hg
        rw [D7R] at hg
        exact D8x.2 (hg y hy)
    obtain ⟨ys,k1,k2,k3⟩:=ih _ (xs++[(x,off)]) (s+off) hm' ht' h3
    refine ⟨(x,off)::ys,by rw [D8e] at k1;exact k1,k2.cons_cons x,?_⟩
    rw [D7H,J7,←Int.add_assoc];exact k3
  ·rw [if_neg hg]
   obtain ⟨ys,k1,k2,k3⟩:=ih _ xs s hm' ht hq
   exact ⟨ys,k1,k2.cons _,k3⟩
theorem C0B {σ : Type} {px : σ→PSt} {step : σ→B1→σ} {sm:B1→Bool} {l:List B1} {Q : σ→Int→Prop} (hstep:B4o px step sm l Q) {o:List Int} (ho:∀ x∈o,x.toNat<l.length) {a : σ} {xs:List (Int×Int)} {s:Int} (ht:Tr l (px a) xs) (hq:Q a s) :
  ∃ ys,Tr l (px (Z5 px step sm l a o)) (xs++ys)∧(ys.map Prod.fst).Sublist (o.filter fun x=>sm (F2 l x))∧Q (Z5 px step sm l a o) (s+A2 (ys.map Prod.snd)) :=
 C7F hstep _ a xs s (fun x hx=>⟨ho x (D7F.1 hx).1,(D7F.1 hx).2⟩) ht hq
theorem C3h {items:List Ab.Item} {us0:List B2} {l:List B1} (hf:∀ p∈l,Q7 p) (hr:∀ p∈l,H2 p=true):B4o (fun p:PSt=>p) (A4W items) U3 l (fun p s=>A7m items p.us∧Off us0 p.us s):=by
 intro a s pr hm hs hq
 have hk:pr.kind≠7:=by simpa [U3] using hs
 unfold A4W
 by_cases h:(A0h items a.us pr).2>0
 ·rw [if_pos h]
  rcases C0E hq.1 (hf _ hm) (hr _ hm) hk with e | e
  ·rw [e] at h;exact absurd h (by decide)
  ·exact .inr ⟨_,by omega,rfl,rfl,hq.1.off e,hq.2.trans e⟩
 ·rw [if_neg h]
  exact .inl ⟨rfl,rfl,hq⟩
theorem C2f {net fee fee0:Int} {l:List B1} (hr:∀ p∈l,H2 p=true):B4o (fun a:PSt×Int=>a.1) (W0 net) A0l l (fun a s=>0≤a.2∧a.2≤fee∧a.2+s=fee0):=by
 intro a s pr hm hs hq
 have hk:pr.kind=7:=by simpa [A0l] using hs
 have h7:=(A3R (hr _ hm)).ship hk
 have hb:=T7 a.2 pr.rate
 have hle:=A5p hq.1 (show 0≤pr.rate by omega) h7.2
 unfold W0 A7w
 by_cases h:net<pr.least
 ·rw [if_pos h];exact .inl ⟨rfl,rfl,hq⟩
 ·rw [if_neg h]
  by_cases h2:J9 a.2 pr.rate>0
  ·rw [if_pos h2]
   exact .inr ⟨J9 a.2 pr.rate,by omega,rfl,rfl,by show 0≤a.2 - J9 a.2 pr.rate;omega,by show a.2 - J9 a.2 pr.rate≤_;omega,by show a.2 - J9 a.2 pr.rate+(s+J9 a.2 pr.rate)=_;omega⟩
  ·rw [if_neg h2]
   exact .inl ⟨rfl,rfl,by show 0≤a.2 - J9 a.2 pr.rate;omega,by show a.2 - J9 a.2 pr.rate≤_;omega,by show a.2 - J9 a.2 pr.rate+s=_;omega⟩
theorem A6h (a b:List B2) (j:Nat):F8 (a++b) j=F8 a j+F8 b j:=by
 unfold F8;rw [D8A,D7k,F5]
theorem B6p (l:List E8) (i j n:Nat):F8 (List.replicate n (lnU l i)) j=if i=j then n * (l.getD i default).price else 0:=by
 induction n with
 | zero=>show (0:Int)=_;split<;>simp
 | succ n ih =>
  rw [show List.replicate (n+1) (lnU l i)=[lnU l i]++List.replicate n (lnU l i) from rfl,A6h,ih]
  by_cases h:i=j
  ·rw [if_pos h,if_pos h]
   have:F8 [lnU l i] j=(l.getD i default).price:=by
    unfold F8
    rw [D7I (by show (((i:Int)).toNat==j)=true;rw [D6R,h];simp)]
    show A2 [(l.getD i default).price]=_
    rw [J7];exact D8R _
   rw [this,show ((n+1:Nat):Int) * (l.getD i default).price=n * (l.getD i default).price+(l.getD i default).price by rw [Int.natCast_add,D9j];simp]
   omega
  ·rw [if_neg h,if_neg h]
   have:F8 [lnU l i] j=0:=by
    unfold F8
    rw [D7O (by show ¬(((i:Int)).toNat==j)=true;rw [D6R];simpa using h)];rfl
   rw [this];rfl
theorem B8r (l:List E8) (hl:∀ x∈l,0≤x.qty) (j k:Nat) (hk:k≤l.length):F8 (G5 l k) j=if j<k then (l.getD j default).qty * (l.getD j default).price else 0:=by
 induction k with
 | zero=>rfl
 | succ k ih =>
  show F8 (G5 l k++List.replicate (l.getD k default).qty.toNat (lnU l k)) j=_
  rw [A6h,ih (by omega),B6p]
  have hq:=hl _ (A7 (show k<l.length by omega))
  by_cases e:k=j
  ·subst e
   rw [if_neg (by omega),if_pos rfl,if_pos (by omega),D8u hq,Int.zero_add]
  ·rw [if_neg e]
   by_cases h:j<k
   ·rw [if_pos h,if_pos (by omega),D8R]
   ·rw [if_neg h,if_neg (by omega)];rfl
theorem B1z {us us':List B2} {x:Int} (h:Off us us' x) (j:Nat):∀ k,k≤us.length→F8 (us'.take k) j≤F8 (us.take k) j
 | 0,_=>D7l _
 | k+1,hk=>by
  have ih:=B1z h j k (by omega)
  have hl:=h.len
  rw [Z0 (by omega),Z0 (by omega),h.line k]
  have:=(h.net k).2
  split<;>omega
theorem B7t (f:Nat→Int) (t:Nat) (x:Int):∀ n,A2 ((List.range n).map fun j=>if t=j then f j+x else f j)=A2 ((List.range n).map f)+if t<n then x else 0
 | 0=>by rw [if_neg (by omega)];rfl
 | n+1=>by
  rw [L7,L7,B7t f t x n]
  by_cases e:t=n
  ·rw [if_pos e,if_neg (by omega),if_pos (by omega)];omega
  ·rw [if_neg e]
   by_cases h:t<n
   ·rw [if_pos h,if_pos (by omega)];omega
   ·rw [if_neg h,if_neg (by omega)];omega
theorem B2D:∀ n,A2 ((List.range n).map fun _=>(0:Int))=0
 | 0=>rfl
 | n+1=>by rw [L7,B2D n];rfl
theorem A8A {us:List B2} {n:Nat} (h:∀ k,k<us.length→(gU us k).line.toNat<n):∀ k,k≤us.length→A2 ((List.range n).map (F8 (us.take k)))=A2 (D9 (us.take k))
 | 0,_=>B2D n
 | k+1,hk=>by
  have ih:=A8A h k (by omega)
  have e1:(F8 (us.take (k+1)))=fun j=>if (gU us k).line.toNat=j then F8 (us.take k) j+(gU us k).net else F8 (us.take k) j:=funext fun j=>Z0 (by omega) j
  rw [e1,B7t,ih,if_pos (h k (by omega)),L0 (by omega)]
  unfold D9
  rw [D7k,F5]
  show _+(gU us k).net=_+A2 [(gU us k).net]
  rw [J7];show _=_+((gU us k).net+0);omega
structure A4n (r:D6) (codes:List C8) (l:List E8) (Pr:A3V) (xs ys:List (Int×Int)):Prop where
 deals:Pr.deals=C4g r.promos (xs++ys)
 mem:∀ a∈xs++ys,(0≤a.1∧a.1.toNat<r.promos.length)∧A0i codes (F2 r.promos a.1)=true∧1≤a.2
 sx:(xs.map Prod.fst).Sublist (V9 r.promos codes)
 sy:(ys.map Prod.fst).Sublist (V9 r.promos codes)
 kx:∀ a∈xs,(F2 r.promos a.1).kind≠7
 ky:∀ a∈ys,(F2 r.promos a.1).kind=7
 apart:(B1u r.promos (xs++ys)).Pairwise fun x y=>(y.toList==x.toList)=false
 sum:Pr.net+A2 (xs.map Prod.snd)=J8 l
 len:Pr.nets.length=l.length
 nets:A2 Pr.nets=Pr.net
 each:∀ i,i<l.length→0≤gI Pr.nets i∧gI Pr.nets i≤(l.getD i default).qty * (l.getD i default).price
 ship:0≤Pr.ship∧Pr.ship≤r.ship.fee
 shipSum:Pr.ship+A2 (ys.map Prod.snd)=A0O r.ship (W1 l).length Pr.net
theorem B4U {l:List B1} {codes:List C8} {i:Nat} {x:Int} (h:x∈places l codes i):A0i codes (F2 l x)=true:=by
 unfold places at h
 obtain ⟨k,hk,rfl⟩:=D6Z.1 h
 exact (D7F.1 hk).2
theorem C1G {r:D6} {codes:List C8} {l:List E8} (hf:X1 r) (hck:D8 r codes l=0):∃ xs ys,A4n r codes l (A0c r l (V9 r.promos codes) (V9 r.promos codes)) xs ys:=by
 have ck:=A6R hck
 have hok:=ck.lines
 have hu:=B5D hok
 obtain ⟨u1,u2,u3⟩:=A2A l hok.line l.length (D6M _)
 rw [D6O] at u1 u2
 have hitl:(C3 r.items l).length=l.length:=D6J ..
 have hpl:∀ x∈V9 r.promos codes,(0≤x∧x.toNat<r.promos.length)∧A0i codes (F2 r.promos x)=true:=fun x hx=>by
  have:=(A4z r.promos codes).mem_iff.1 hx
  exact ⟨A0E this,B4U this⟩
 have hlt:∀ x∈V9 r.promos codes,x.toNat<r.promos.length:=fun x hx=>(hpl x hx).1.2
 obtain ⟨xs,a1,a2,a3,a4⟩:=C0B (C3h (items:=C3 r.items l) (us0:=W1 l) hf.fit ck.promo) hlt (a:=⟨W1 l,[],[]⟩) (Tr.start r.promos (W1 l)) ⟨hu,Off.refl hu.ok⟩
 rw [D9I] at a1
 rw [Int.zero_add] at a4
 have hfee:0≤A0O r.ship (W1 l).length (O0 (p1B r l (V9 r.promos codes)))∧A0O r.ship (W1 l).length (O0 (p1B r l (V9 r.promos codes)))≤r.ship.fee:=by
  unfold A0O;have:=ck.fee;split<;>omega
 obtain ⟨ys,b1,b2,b3⟩:=C0B (C2f (net:=O0 (p1B r l (V9 r.promos codes))) (fee:=r.ship.fee) (fee0:=A0O r.ship (W1 l).length (O0 (p1B r l (V9 r.promos codes)))) ck.promo) hlt (a:=(p1B r l (V9 r.promos codes),A0O r.ship (W1 l).length (O0 (p1B r l (V9 r.promos codes))))) (s:=0) a1 ⟨hfee.1,hfee.2,D8R _⟩
 rw [Int.zero_add] at b3
 have a2':∀ a∈xs,a.1∈V9 r.promos codes∧U3 (F2 r.promos a.1)=true:=fun a ha=>D7F.1 (a2.subset (D6Z.2 ⟨a,ha,rfl⟩))
 have b2':∀ a∈ys,a.1∈V9 r.promos codes∧A0l (F2 r.promos a.1)=true:=fun a ha=>D7F.1 (b2.subset (D6Z.2 ⟨a,ha,rfl⟩))
 have hus:A7m (C3 r.items l) (p1B r l (V9 r.promos codes)).us:=a3
 have hlen:=a4.len
 have hln:∀ k,k<(p1B r l (V9 r.promos codes)).us.length→(gU (p1B r l (V9 r.promos codes)).us k).line.toNat<l.length:=fun k hk=>by
  have:=(hus.line _ (A7 hk)).2
  rw [hitl] at this;exact this
 have hsm:=A8A hln _ (D6M _)
 rw [D6O] at hsm
 refine ⟨xs,ys,b1.deals,fun a ha=>?_,a2.trans D8F,b2.trans D8F,fun a ha=>by simpa [U3] using (a2' a ha).2,fun a ha=>by simpa [A0l] using (b2' a ha).2,by rw [←b1.groups];exact b1.apart,?_,?_,hsm,fun i hi=>?_,⟨b3.1,b3.2.1⟩,b3.2.2⟩
 ·have hp:=b1.pos a ha
  rcases D7T.1 ha with h | h
  ·exact ⟨(hpl _ (a2' a h).1).1,(hpl _ (a2' a h).1).2,hp⟩
  ·exact ⟨(hpl _ (b2' a h).1).1,(hpl _ (b2' a h).1).2,hp⟩
 ·have:=a4.sum
  show A2 (D9 (p1B r l (V9 r.promos codes)).us)+_=_
  exact this.trans u2
 ·show ((List.range l.length).map _).length=_
  rw [D6J,D7g]
 ·have e:gI (A0c r l (V9 r.promos codes) (V9 r.promos codes)).nets i=F8 (p1B r l (V9 r.promos codes)).us i:=by
   show gI ((List.range l.length).map (F8 (p1B r l (V9 r.promos codes)).us)) i=_
   unfold gI
   rw [D6D,D7C,D8i hi];rfl
  rw [e]
  have h1:=(A0V hus.ok (p1B r l (V9 r.promos codes)).us.length i).1
  rw [D6O] at h1
  have h2:=B1z a4 i _ (D6M _)
  rw [D6O,D8v (Nat.le_of_eq hlen)] at h2
  have h3:=B8r l (fun x hx=>((A0A _).1 (hok.line x hx)).1.1) i l.length (D6M _)
  rw [if_pos hi] at h3
  have h2':F8 (p1B r l (V9 r.promos codes)).us i≤F8 (G5 l l.length) i:=h2
  exact ⟨h1,by omega⟩
def C0h (l:List B1) (a:Int×Int):Int:=if (F2 l a.1).kind=7 then 0 else a.2
theorem A4n.off {r:D6} {codes:List C8} {l:List E8} {Pr:A3V} {xs ys:List (Int×Int)} (h:A4n r codes l Pr xs ys):Pr.net+A2 ((xs++ys).map (C0h r.promos))=J8 l:=by
 have e1:xs.map (C0h r.promos)=xs.map Prod.snd:=D7V fun a ha=>if_neg (h.kx a ha)
 have e2:∀ zs:List (Int×Int),(∀ a∈zs,(F2 r.promos a.1).kind=7)→A2 (zs.map (C0h r.promos))=0:=fun zs=>by
  induction zs with
  | nil=>intro _;rfl
  | cons a zs ih =>
   intro hz
   rw [D7H,J7,ih fun b hb=>hz b (D7d _ hb),show C0h r.promos a=0 from if_pos (hz a (D7f ..))];rfl
 rw [D7k,F5,e1,e2 ys h.ky,D8R];exact h.sum
theorem B0k {xs:List (Int×Int)} (h:∀ a∈xs,1≤a.2) (hs:A2 (xs.map Prod.snd)≤0):xs=[]:=by
 cases xs with
 | nil=>rfl
 | cons a xs =>
  have h1:=h a (D7f ..)
  have h2:0≤A2 (xs.map Prod.snd):=C1 fun x hx=>by
   obtain ⟨b,hb,rfl⟩:=D6Z.1 hx
   have:=h b (D7d _ hb);omega
  rw [D7H,J7] at hs;omega
theorem A4n.nothing {r:D6} {codes:List C8} {l:List E8} {Pr:A3V} {xs ys:List (Int×Int)} (h:A4n r codes l Pr xs ys) (hq:∀ x∈l,x.qty=0) (hu:(W1 l).length=0) (hg:J8 l=0) :
  Pr.deals=[]∧Pr.ship=0∧(∀ x∈Pr.nets,x=0):=by
 have h0:∀ x∈Pr.nets,x=0:=fun x hx=>by
  obtain ⟨i,hi,rfl⟩:=D5 hx
  have hi':i<l.length:=by rw [←h.len];exact hi
  have h1:=h.each i hi'
  rw [hq _ (A7 hi'),D9D] at h1
  show gI Pr.nets i=0
  omega
 have hn:0≤Pr.net:=by rw [←h.nets];exact C1 fun x hx=>by rw [h0 x hx];exact D7l _
 have hx:xs=[]:=B0k (fun a ha=>(h.mem a (List.mem_append_left _ ha)).2.2) (by have:=h.sum;omega)
 have hsh:=h.shipSum
 have hfee:A0O r.ship (W1 l).length Pr.net=0:=by unfold A0O;rw [if_pos (.inl (by omega))]
 have hy:ys=[]:=B0k (fun a ha=>(h.mem a (List.mem_append_right _ ha)).2.2) (by have:=h.ship;omega)
 subst hx hy
 refine ⟨by rw [h.deals];rfl,?_,h0⟩
 rw [hfee] at hsh
 have:Pr.ship+0=0:=hsh
 omega
end Go.Proofs.YtaapofnkmpiknaaGreat
namespace Go.Proofs.YtaapofnkmpiknaaGreat
open Go Go.Ab
attribute [local irreducible] upd del
structure P1 (R:D6) (C:List C8) (L:List E8):Prop where
 right:K6 R=true
 fit:X1 R
 sm:A6M R
 codes:S6 C=true
 ncodes:C.length≤3
 scodes:∀ s∈C,s.size≤12
 lines:A2o L
 check:D8 R C L=0
 few:R.promos.length≤6
 items:R.items.length≤8
 known:∀ n,known R.items (A1l n)=true
 fee:0≤R.ship.fee∧R.ship.fee≤1000000000
theorem C9c (r:D6) (codes:List C8) (l:List E8):P1 (G4 r) (I1 codes) (A6Z l):=by
 have hc:=B4W codes
 have hl:=B4X l
 have hr:=B0z r
 have hn:=A1I r.promos
 have hck:D8 (G4 r) (I1 codes) (A6Z l)=0:=by
  unfold D8
  rw [if_neg (by rw [hr];simp),if_neg (by rw [hc.1];simp)]
  exact hl.check (A7L r.items)
 exact ⟨hr,B3e r,A8M r,hc.1,hc.2.1,hc.2.2,hl,hck,by show (N3 r.promos).length≤6;omega,by show (G3 r.items).length≤8;rw [A2k];omega,A7L r.items,(A6R hck).fee⟩
theorem P1.relines {R:D6} {C:List C8} {L L':List E8} (h:P1 R C L) (hl:A2o L'):P1 R C L' :=
 { h with
  lines:=hl
  check:=by
   unfold D8
   rw [if_neg (by rw [h.right];simp),if_neg (by rw [h.codes];simp)]
   exact hl.check h.known }
theorem P1.promosC {R:D6} {C:List C8} {L:List E8} (h:P1 R C L):promosC R.promos=true:=by
 have:=h.right
 unfold K6 at this
 simp only [D6I] at this
 exact this.1.1.1.2
def A3B (R:D6) (C:List C8) (L:List E8):A3V:=A0c R L (V9 R.promos C) (V9 R.promos C)
theorem C4w {R:D6} {C:List C8} {L:List E8} (hck:D8 R C L=0) (hf:X1 R) (hC:Go.Proofs.YtaapofnkmpiknaaGreat.promosC R.promos=true) (hn:R.promos.length≤6) (hi:R.items.length≤8) (hc:C.length≤3) (st:St) :
  S P 122 [F7 R,C7 C,A8 3 J1 L] st fun v s=>v=.tuple [A1a (A3B R C L),eI 0]∧s=st :=
 (price_S B7o R C L hf (by show C.length≤9223372036854775807;omega) (by omega) (by have:=A1i R.promos C R.promos.length;omega) st).mono fun v s ⟨hv,hs⟩=>by
  refine ⟨?_,hs⟩
  rcases hv with ⟨h1,_⟩ | ⟨_,o1,o2,h1,h2,h3⟩
  ·exact absurd hck h1
  ·rw [B6Z hC h1,B6Z hC h2] at h3;exact h3
theorem P1.price_S {R:D6} {C:List C8} {L:List E8} (h:P1 R C L) (st:St) :
  S P 122 [F7 R,C7 C,A8 3 J1 L] st fun v s=>v=.tuple [A1a (A3B R C L),eI 0]∧s=st :=
 C4w h.check h.fit h.promosC h.few h.items h.ncodes st
theorem P1.ref_S {R:D6} {C:List C8} {L:List E8} (h:P1 R C L) (st:St) :
  S P 115 [F7 R,C7 C,A8 3 J1 L] st fun v s=>v=.tuple [A1a (A3B R C L),eI 0]∧s=st :=
 (C4F R C L h.fit h.sm h.right (by have:=h.ncodes;show C.length≤9223372036854775807;omega) (fun s hs=>by have:=h.scodes s hs;show s.size≤9223372036854775807;omega) (by have:=h.lines.len;show L.length≤9223372036854775807;omega) st).mono fun v s ⟨hv,hs⟩=>by
  rw [if_pos h.check] at hv
  exact ⟨hv,hs⟩
theorem P1.law {R:D6} {C:List C8} {L:List E8} (h:P1 R C L):∃ xs ys,A4n R C L (A3B R C L) xs ys:=C1G h.fit h.check
structure C8q (L:List E8) (Pr:A3V) (g fee:Int):Prop where
 len:Pr.nets.length=L.length
 at':∀ i,i<L.length→0≤gI Pr.nets i∧gI Pr.nets i≤(L.getD i default).qty * (L.getD i default).price
 sum:A2 Pr.nets=Pr.net
 net:0≤Pr.net∧Pr.net≤g
 ship:0≤Pr.ship∧Pr.ship≤fee
theorem P1.nets {R:D6} {C:List C8} {L:List E8} (h:P1 R C L):C8q L (A3B R C L) (J8 L) R.ship.fee:=by
 obtain ⟨xs,ys,hl⟩:=h.law
 have h0:∀ x∈(A3B R C L).nets,0≤x:=fun x hx=>by
  obtain ⟨i,hi,rfl⟩:=D5 hx
  exact (hl.each i (by rw [←hl.len];exact hi)).1
 have hx:0≤A2 (xs.map Prod.snd):=C1 fun x hx=>by
  obtain ⟨a,ha,rfl⟩:=D6Z.1 hx
  have:=(hl.mem a (List.mem_append_left _ ha)).2.2
  omega
 have hs:=hl.sum
 have hn:=hl.nets
 have:=C1 h0
 exact ⟨hl.len,hl.each,hl.nets,by omega,hl.ship⟩
theorem B9z (n:Int) (st:St):S P 52 [eI n] st fun r st'=>r=eS (Q3 (B5 n 3))∧st'=st:=by
 refine F4 [] Tryz.func52 ?_
 refine I2 (A0f n 3 (by decide) (by decide) _) ?_
 refine ⟨?_,rfl⟩
 show AV.str ((⟨#[122]⟩:C8)++B2B [IntKind.u8.wrap (48+IntKind.u8.wrap (B5 n 3))])=_
 rw [B2L];rfl
theorem D3G {t:Tax} {z:K3} {cats:List C8} {nets:List Int} {ship:Int} (h:A2C t z cats nets ship) (st:St) :
  S P (C5v t) [S7 t,B0 (cats.map (F3 z)),B0 nets] st fun v st'=>v=B0 (K7 t (cats.map (F3 z)) nets)∧st'=st:=by
 obtain ⟨r1,r2⟩:=A3C h
 unfold C5v K7
 split
 ·exact C0N t _ _ h.nets r1 r2 st
 ·exact B5U t _ _ h.nets.len r1 r2 st
theorem P1.taxC {R:D6} {C:List C8} {L:List E8} (h:P1 R C L):taxC R.tax=true:=by
 have:=h.right
 unfold K6 at this
 simp only [D6I] at this
 exact this.1.1.2
theorem P1.levy {R:D6} {C:List C8} {L:List E8} (h:P1 R C L) {z:K3} {s:C8} (hz:Z8 R.tax.zones s=some z):A2C R.tax z (N1 R L) (A3B R C L).nets (A3B R C L).ship:=by
 have hN:=h.nets
 have hg:=C0w h.lines.line
 have hl:=h.lines.len
 have hf:=h.fee
 have hsh:=hN.ship
 refine ⟨h.taxC,B8i h.taxC hz,by rw [C0P,hN.len],⟨by rw [hN.len];omega,fun x hx=>?_,by rw [hN.sum];have:=hN.net;omega⟩,by omega⟩
 obtain ⟨i,hi,rfl⟩:=D5 hx
 exact (hN.at' i (by rw [←hN.len];exact hi)).1
def B2h (R:D6) (C:List C8) (L:List E8) (z:K3) (exempt:Bool):U5:=A9M R z exempt L (A3B R C L)
theorem P1.quote_S {R:D6} {C:List C8} {L:List E8} (h:P1 R C L) {z:K3} {s:C8} (hz:Z8 R.tax.zones s=some z) (exempt:Bool) (st:St) :
  S P 60 [F7 R,eS s,eB exempt,C7 C,A8 3 J1 L] st fun v st'=>v=.tuple [A1e (B2h R C L z exempt),eI 0]∧st'=st:=by
 have hv:=h.levy hz
 have hk:=(A6R h.check).lines.known
 have hi:=h.items
 have hl:=h.lines.len
 exact Go.Proofs.YtaapofnkmpiknaaGreat.quote_S exempt (fun st=>h.price_S st) (fun st=>A9w _ _ (by omega) (by omega) hk st) (by omega) hv hz (fun st=>D3G hv st) (B3M hv exempt) st
theorem P1.quoteIn {R:D6} {C:List C8} {L:List E8} (h:P1 R C L) {z:K3} {s:C8} (hz:Z8 R.tax.zones s=some z) (exempt:Bool):B9C (B2h R C L z exempt) L.length:=by
 have:=B0K (h.levy hz) exempt (A3B R C L).deals
 rw [h.nets.len] at this;exact this
theorem B3f (r:D6) (n:Int):∃ z,Z8 (G4 r).tax.zones (Q3 (B5 n 3))=some z:=by
 have:=C9 n (n:=3) (by decide)
 obtain ⟨k,hk⟩:∃ k:Nat,B5 n 3=k:=⟨(B5 n 3).toNat,by omega⟩
 rw [hk]
 exact ⟨_,C2L r.tax (by omega)⟩
structure B2W where
 rules:D6
 zone:Int
 exempt:Bool
 codes:List C8
 adds:List Add
 pays:List Pay
 day:Int
def B1r (s:B2W):AV:=.agg [A8 4 E9 s.rules.items,A8 15 B7 s.rules.promos,eB s.rules.tax.incl,eB s.rules.tax.byOrder,eI s.rules.tax.round,A8 4 S3 s.rules.tax.zones,eI s.rules.ship.fee,eI s.rules.ship.free,eI s.rules.policy.window,eI s.rules.policy.grace,eI s.rules.policy.mode,eI s.rules.policy.restock,B0 s.rules.policy.order,B0 s.rules.policy.credit,eI s.zone,eB s.exempt,C7 s.codes,A8 2 A8s s.adds,A8 2 B8b s.pays,eI s.day]
def A6T (s:B2W):Bool:=C3E s.rules&&decide ((s.codes.length:Int)<30)&&decide ((s.adds.length:Int)<60)&&decide ((s.pays.length:Int)<30)
theorem C2c (s:B2W) (st:St):S P 14 [B1r s] st fun v st'=>v=.bool (A6T s)∧st'=st:=by
 have n1:=C9S s.rules st
 have e:A6T s=(C3E s.rules&&decide ((s.codes.length:Int)<30)&&decide ((s.adds.length:Int)<60)&&decide ((s.pays.length:Int)<30)):=rfl
 rw [e]
 clear e
 generalize C3E s.rules=b1 at *
 refine SyW [1] Tryz.func14 ?_
 repeat' ((conv=>whnf);first | refine B3 n1 ?_ | (refine B9 (fun h=>?_) (fun h=>?_)<;>rw [h]) | fail)
 all_goals (conv=>whnf)
 all_goals exact ⟨rfl,rfl⟩
def B3F (id key zone:C8) (exempt:Bool) (codes:List C8) (adds:List Add) (pays:List Pay):AV :=
 .agg [eI 3,eS key,.emp,.emp,eB false,eB false,eI 0,.emp,eI 0,eI 0,eI 0,eI 0,eI 0,eI 0,.emp,.emp,eI 0,eS id,eS zone,eB exempt,C7 codes,A8 2 A8s adds,A8 2 B8b pays,.emp,eI 0,eI 0,eI 0]
def Q1 (s:B2W):C8:=Q3 (B5 s.zone 3)
set_option maxHeartbeats 4000000 in
theorem C0V (s:B2W) (id key:C8) (Q:U5) (e:Int) (hi:Sm (G4 s.rules).items.length) (hp:s.pays.length≤100000) (hT:0≤Q.total∧Q.total≤100000000000000)
  (hQ:∀ st,S P 56 [F7 (G4 s.rules),eS (Q1 s),eB s.exempt,C7 (I1 s.codes),A8 3 J1 (A2J (G4 s.rules).items (J3 s.adds)).1] st fun v st'=>v=.tuple [A1e Q,eI e]∧st'=st) (st:St) :
  S P 16 [B1r s,eS id,eS key] st fun v st'=>v=.tuple [F7 (G4 s.rules),B3F id key (Q1 s) s.exempt (I1 s.codes) (J3 s.adds) (Q0 Q.total s.pays)]∧st'=st:=by
 have cR:=fun u=>B6K s.rules u
 have cZ:∀ u,S P 52 [eI s.zone] u fun r st'=>r=eS (Q1 s)∧st'=u:=fun u=>B9z s.zone u
 have cC:=fun u=>B6F s.codes u
 have cA:=fun u=>B8I s.adds u
 have cL:=fun u=>B2p (G4 s.rules).items (J3 s.adds) hi u
 have cP:=fun u=>B8J Q.total s.pays hT.1 hT.2 hp u
 generalize G4 s.rules=R at *
 generalize Q1 s=Z at *
 generalize I1 s.codes=C at *
 generalize J3 s.adds=A at *
 generalize A2J R.items A=LL at *
 generalize Q0 Q.total s.pays=PP at *
 refine A0Q ?_
 refine A1S [3,8] A7o mixed Tryz.func16 (by rfl) rfl rfl rfl ?_;conv=>whnf
 intro b6 hb6;conv=>whnf
 intro b7 hb7
 have h67:b6≠b7:=fun e=>by subst e;rw [A0] at hb7;cases hb7
 conv=>whnf
 refine I2 (cR _) ?_
 generalize hst:(upd (upd st b6 _) b7 _:St)=S0
 obtain ⟨f6,at6,hf6⟩:∃ f6:Nat→AV,S0 b6=some ⟨33,14,1,f6⟩∧f6 0=H7 r33.zero:=by rw [←hst,A9 h67];exact ⟨_,A0 ..,rfl⟩
 obtain ⟨f7,at7,hf7⟩:∃ f7:Nat→AV,S0 b7=some ⟨42,27,1,f7⟩∧f7 0=H7 r42.zero:=by rw [←hst];exact ⟨_,A0 ..,rfl⟩
 have hs0:F1 st S0:=by rw [←hst];exact ((F1.refl st).upd hb6).upd hb7
 have hn7:st b7=none:=(show F1 st (upd st b6 _) from (F1.refl st).upd hb6).none hb7
 clear hst hb7
 refine .inl ⟨[14,15],[3,4,6,8,9,11,12],List.range 16,by kernel_rfl,?_⟩
 repeat' ((conv=>whnf);first | refine ⟨_,fun s _=>⟨rfl,rfl⟩,?_⟩ | refine ⟨_,fun s _=>H8 (cZ s),?_⟩ | refine ⟨_,fun s _=>H8 (cC s),?_⟩ | refine ⟨_,fun s _=>H8 (cA s),?_⟩ | fail)
 intro b9 hb9
 have h69:b6≠b9:=fun e=>by subst e;rw [at6] at hb9;cases hb9
 have h79:b7≠b9:=fun e=>by subst e;rw [at7] at hb9;cases hb9
 conv=>whnf
 refine stU (A0 ..) rfl ?_
 rw [C0];conv=>whnf
 refine J6 (A0 ..) (A4 ..) ?_
 refine I2 (cL _) ?_
 refine J6 (A0 ..) (A4 ..) ?_
 refine J6 (A0 ..) (A4 ..) ?_
 refine J6 (A0 ..) (A4 ..) ?_
 refine I2 (hQ _) ?_
 generalize hst:(upd S0 b9 _:St)=S1
 obtain ⟨f9,at9,hf9⟩:∃ f9:Nat→AV,S1 b9=some ⟨42,27,1,f9⟩∧f9 0=.agg [eI 3,eS key,.emp,.emp,eB false,eB false,eI 0,.emp,eI 0,eI 0,eI 0,eI 0,eI 0,eI 0,.emp,.emp,eI 0,eS id,eS Z,eB s.exempt,C7 C,A8 2 A8s A,.emp,.emp,eI 0,eI 0,eI 0]:=by rw [←hst];exact ⟨_,A0 ..,by rw [A4];rfl⟩
 have hs1:F1 S0 S1:=by rw [←hst];exact (F1.refl S0).upd hb9
 have hn9:st b9=none:=hs0.none hb9
 clear hst hb9
 intro b12 hb12
 have h912:b9≠b12:=fun e=>by subst e;rw [at9] at hb12;cases hb12
 have h612:b6≠b12:=fun e=>by subst e;rw [hs1 _ _ at6] at hb12;cases hb12
 have h712:b7≠b12:=fun e=>by subst e;rw [hs1 _ _ at7] at hb12;cases hb12
 conv=>whnf
 refine stU (A0 ..) rfl ?_
 rw [C0];conv=>whnf
 refine J6 (A0 ..) (A4 ..) ?_
 refine I2 (cP _) ?_
 refine Z7 ((A9 h912).trans at9) hf9 ?_
 refine .inr ⟨[2,3],.qui 0 (.qui 1 (.eff 2 [1] (.eff 3 [] (.done)))),by kernel_rfl,?_⟩
 generalize hst:(upd (upd S1 b12 _) b9 _:St)=S2
 obtain ⟨g9,bt9,hg9⟩:∃ g9:Nat→AV,S2 b9=some ⟨42,27,1,g9⟩∧g9 0=B3F id key Z s.exempt C A PP:=by rw [←hst];exact ⟨_,A0 ..,by rw [A4];rfl⟩
 have bt6:S2 b6=some ⟨33,14,1,f6⟩:=by rw [←hst,A9 h69,A9 h612];exact hs1 _ _ at6
 have bt7:S2 b7=some ⟨42,27,1,f7⟩:=by rw [←hst,A9 h79,A9 h712];exact hs1 _ _ at7
 have hs2:F1 st S2:=by rw [←hst];exact ((hs0.trans hs1).upd hb12).over hn9
 clear hst
 conv=>whnf
 refine ⟨_,fun _=>True,trivial,fun s _=>⟨rfl,rfl⟩,?_⟩;conv=>whnf
 refine ⟨_,fun u=>u b9=some ⟨42,27,1,g9⟩,bt9,fun u hu=>ldV hu rfl (by omega) hg9 ⟨rfl,rfl⟩,?_⟩;conv=>whnf
 refine Z7 bt6 hf6 ?_
 refine ⟨fun h=>(A9 h69.symm).trans h,?_⟩;conv=>whnf
 refine Z7 ((A9 h67.symm).trans bt7) hf7 ?_
 refine J6 ((A9 h67).trans (A0 ..)) (A4 ..) ?_
 refine J6 (A0 ..) (A4 ..) ?_
 exact ⟨rfl,(hs2.over hb6).over hn7⟩
theorem ROut.own0 {R:St→St→Prop} {ty e n:Nat} {fo:Nat→AV} {s t:St} {sv:AV} (h:ROut R ty e fo n s sv t) (hn:0<n):∃ b,sv=.own e b 0 n:=by
 obtain ⟨s0,⟨h0,_⟩ | ⟨_,b,_,_,h1,_⟩,h2⟩:=h
 ·omega
 ·exact ⟨b,h1⟩
theorem ROut.one {R:St→St→Prop} {ty e n:Nat} {fo:Nat→AV} {s t:St} {sv:AV} (h:ROut R ty e fo n s sv t):sv.one=true:=by rcases h.head with rfl | ⟨b,rfl⟩<;>rfl
section
variable {R0:St→St→Prop} {ty e:Nat} {F:Nat→Nat→AV} {len:Nat→Nat}
end
theorem _root_.Go.Ab.Col.over {ty e:Nat} {f:Nat→AV} {st:St} {n:Nat} {sv:AV} {st':St} (h:Col ty e f st n sv st') {b:Nat} {y y':K4} (hb:st b=some y):Col ty e f (upd st b y') n sv (upd st' b y'):=by
 rcases h with ⟨rfl,rfl,rfl⟩ | ⟨h0,c,g,hc,rfl,rfl,hg⟩
 ·exact .inl ⟨rfl,rfl,rfl⟩
 ·have hne:c≠b:=fun e=>by subst e;rw [hb] at hc;cases hc
  exact .inr ⟨h0,c,g,(A9 hne).trans hc,rfl,R1 hne,hg⟩
def A1R (p:Pay):A2D:=⟨p.kind,p.amount,0⟩
def A5F (id zone:C8) (set:Int) (exempt:Bool) (codes:List C8) (day:Int) (l:List E8) (q:U5) (b:A1v) (pays:List Pay):H3 :=
 ⟨id,set,zone,exempt,codes,day,P3 l q,q.ship,q.shipTax,0,q.total,b,pays.map A1R⟩
end Go.Proofs.YtaapofnkmpiknaaGreat
namespace Go.Proofs.YtaapofnkmpiknaaGreat
open Go Go.Ab
theorem A6p (l:List Add):(1≤(J3 l).length∧(J3 l).length≤6)∧∀ x∈J3 l,(1≤x.qty∧x.qty≤9)∧∃ n,x.sku=A1l n:=by
 unfold J3
 split
 ·exact ⟨⟨by decide,by decide⟩,fun x hx=>by rw [D7i.1 hx];exact ⟨⟨by decide,by decide⟩,0,by kernel_rfl⟩⟩
 ·rename_i h
  refine ⟨by rw [D6J,D6N];omega,fun x hx=>?_⟩
  obtain ⟨y,_,rfl⟩:=D6Z.1 hx
  have:=C9 y.qty (n:=9) (by decide)
  exact ⟨by show 1≤1+B5 y.qty 9∧1+B5 y.qty 9≤9;omega,_,rfl⟩
theorem B6E (items:List Ab.Item) (l:List Add):A2J (G3 items) (J3 l)=((J3 l).map (R4 (G3 items)),0):=by
 obtain ⟨⟨h1,h2⟩,h3⟩:=A6p l
 unfold A2J
 rw [if_neg (by omega),if_neg (by
  rw [D7K,D7R]
  intro x hx
  have:=(h3 x hx).1
  unfold A4Y
  rw [D6L (by omega),D6L (by omega)];simp),if_neg (by
  rw [D7K,D7R]
  intro x hx
  obtain ⟨n,hn⟩:=(h3 x hx).2
  have:=A7L items n
  unfold known at this
  rw [hn]
  simp only [D6F] at this ⊢
  omega)]
theorem B0x (l:List Ab.Item) (j:Nat):0≤((G3 l).getD j default).price∧((G3 l).getD j default).price<4000:=by
 by_cases h:j<8
 ·unfold G3
  rw [D4 (O1 l) (List.range 8) (by rw [D7g];exact h)]
  rw [show (List.range 8).getD j default=j by simp [D6D,h]]
  have:=C9 (l.getD j default).price (n:=4000) (by decide)
  unfold O1
  split
  ·exact ⟨by show 0≤B5 _ 4000;omega,by show B5 _ 4000<4000;omega⟩
  ·exact ⟨by show (0:Int)≤100+37 * (j:Int);omega,by show (100:Int)+37 * (j:Int)<4000;omega⟩
 ·rw [D6D,D9f (by rw [A2k];omega)]
  exact ⟨by decide,by decide⟩
theorem B5P (items:List Ab.Item) (l:List Add):A2o ((J3 l).map (R4 (G3 items))):=by
 obtain ⟨⟨h1,h2⟩,h3⟩:=A6p l
 refine ⟨by rw [D6J];omega,fun x hx=>?_,fun x hx=>?_⟩<;>obtain ⟨y,hy,rfl⟩:=D6Z.1 hx
 ·have:=(h3 y hy).1
  have:=B0x items (P9 (G3 items) y.sku).toNat
  unfold R4
  exact ⟨⟨by show 0≤y.qty;omega,by show y.qty≤9;omega⟩,this⟩
 ·exact (h3 y hy).2
structure A7B (Q:U5) (n:Nat):Prop where
 goods:∀ i,i<n→0≤gI Q.goods i∧gI Q.goods i≤1000000000000
 taxes:∀ i,i<n→0≤gI Q.taxes i∧gI Q.taxes i≤1000000000000
 ngoods:Q.goods.length=n
 ntaxes:Q.taxes.length=n
 ship:0≤Q.ship∧Q.ship≤1000000000000
 shipTax:0≤Q.shipTax∧Q.shipTax≤1000000000000
 total:Q.total=A2 Q.goods+A2 Q.taxes+Q.ship+Q.shipTax
theorem C4V (f:Nat→A0J) (n:Nat) (g:Nat→Int) (v:A0J→Int) (h:∀ i,i<n→R6 (v (f i)) (f i).sold (f i).left=g i):((List.range n).map f).foldl (fun a x=>a+R6 (v x) x.sold x.left) 0=A2 ((List.range n).map g):=by
 induction n with
 | zero=>rfl
 | succ n ih =>
  rw [D8m,D7k,D7k,D8H,ih fun i hi=>h i (by omega)]
  show A2 _+R6 (v (f n)) (f n).sold (f n).left=A2 (_++[g n])
  rw [h n (by omega)]
  unfold A2;rw [D8H];rfl
theorem B8u (l:List Int):(List.range l.length).map (gI l)=l:=by
 refine D9a (by rw [D6J,D7g]) fun i h1 h2=>?_
 rw [List.getElem_map,List.getElem_range]
 unfold gI
 simp [D6D,h2]
theorem B0R {l:List Int} {n:Nat} (hn:l.length=n) {M:Int} (h:∀ i,i<n→0≤gI l i∧gI l i≤M):0≤A2 l∧A2 l≤M * n:=by
 subst hn
 have:∀ k,k≤l.length→0≤A2 ((List.range k).map (gI l))∧A2 ((List.range k).map (gI l))≤M * k:=by
  intro k
  induction k with
  | zero=>intro _;exact ⟨D7l 0,by show (0:Int)≤M * ((0:Nat):Int);simp⟩
  | succ k ih =>
   intro hk
   have h1:=ih (by omega)
   have h2:=h k (by omega)
   have e:A2 ((List.range (k+1)).map (gI l))=A2 ((List.range k).map (gI l))+gI l k:=by
    rw [D8m,D7k];unfold A2;rw [D8H];rfl
   have e2:M * ((k+1:Nat):Int)=M * (k:Int)+M:=by rw [show ((k+1:Nat):Int)=(k:Int)+1 from rfl,D8Q,D9B]
   rw [e,e2]
   omega
 have:=this l.length (D6M _)
 rwa [B8u] at this
theorem B1w:∀ (l:List Pay) (a:Int),(l.map A1R).foldl (fun a x=>a+(x.taken - x.given)) a=l.foldl (fun a x=>a+x.amount) a
 | [],a=>rfl
 | x::l,a=>by
  simp only [D7H,D7U]
  rw [show a+((A1R x).taken - (A1R x).given)=a+x.amount by show a+(x.amount - 0)=_;omega]
  exact B1w l _
theorem B9f {L:List E8} {Q:U5} (h:A7B Q L.length) (h1:1≤L.length∧L.length≤8) (hL:∀ x∈L,D1 x.sku=true∧(0≤x.price∧x.price≤1000000000)∧1≤x.qty∧x.qty≤100000)
  {id zone:C8} {set day:Int} {C:List C8} {pays:List Pay} (exempt:Bool) (hi:D1 id=true) (hz:D1 zone=true) (hs:1≤set∧set≤40) (hd:0≤day∧day≤100000) (hc:S6 C=true) (hp:B0e pays Q.total=true) :
  N8 (A5F id zone set exempt C day L Q (T4 Q) pays)=true∧A5q (A5F id zone set exempt C day L Q (T4 Q) pays)=T4 Q∧A0G (T4 Q)=Q.total:=by
 have g1:=B0R h.ngoods h.goods
 have g2:=B0R h.ntaxes h.taxes
 have g3:=h.ship
 have g4:=h.shipTax
 have g5:=h.total
 have hn:(L.length:Int)≤8:=by omega
 have hbk:A1U (T4 Q)=true:=by
  unfold A1U W5 T4 G7
  simp only [List.all_cons,List.all_nil,D7u,D6I,E0]
  omega
 have hsum:A0G (T4 Q)=Q.total:=by
  unfold A0G
  rw [if_pos hbk]
  show 0+A2 Q.goods+A2 Q.taxes+Q.ship+Q.shipTax+0=Q.total
  omega
 have hkept:∀ x∈P3 L Q,A1Q x=true∧x.left=x.sold∧1≤x.sold:=by
  intro x hx
  unfold P3 at hx
  obtain ⟨i,hi,rfl⟩:=D6Z.1 hx
  have hi:=D6T.1 hi
  have hl:=hL _ (A7 hi)
  have hg:=h.goods i hi
  have ht:=h.taxes i hi
  refine ⟨?_,rfl,hl.2.2.1⟩
  unfold A1Q A1Z A3s
  simp only [D6I,E0]
  exact ⟨⟨⟨⟨⟨hl.1,hl.2.1⟩,hl.2.2⟩,by omega⟩,by omega⟩,by omega⟩
 have hten:(pays.map A1R).all Go.Proofs.YtaapofnkmpiknaaGreat.tenderB=true∧pays.length≤6∧A2u (pays.map A1R)=Q.total:=by
  unfold B0e at hp
  simp only [D6I,D6F,D7B] at hp
  obtain ⟨⟨p1,p2⟩,p3⟩:=hp
  refine ⟨?_,by omega,?_⟩
  ·rw [D6W] at p2 ⊢
   intro x hx
   obtain ⟨y,hy,rfl⟩:=D6Z.1 hx
   have:=p2 y hy
   unfold B1R G7 at this
   simp only [D6I,E0,D6F] at this
   unfold Go.Proofs.YtaapofnkmpiknaaGreat.tenderB A1R G7
   simp only [D6I,E0]
   omega
  ·rw [←p3];exact B1w pays 0
 have hlen:(P3 L Q).length=L.length:=by unfold P3;rw [D6J,D7g]
 have hright:N8 (A5F id zone set exempt C day L Q (T4 Q) pays)=true:=by
  unfold N8 A6d A3t A1x A5z A0r A5F A1Z G7
  simp only [D6I,D6F,E0,D7B,D6J,hlen]
  exact ⟨⟨⟨⟨⟨by omega,⟨⟨⟨hi,hz⟩,hs⟩,hc⟩,hd⟩,⟨by omega,by omega⟩,D6W.2 fun x hx=>(hkept x hx).1⟩,⟨⟨by omega,by omega⟩,by omega⟩,by omega⟩,hbk,hsum⟩,hten.1,by omega,hten.2.2⟩
 refine ⟨hright,?_,hsum⟩
 unfold A5q
 rw [if_pos hright]
 have e1:shG (P3 L Q)=A2 Q.goods:=by
  show ((List.range L.length).map (A3s L Q)).foldl (fun a x=>a+R6 x.goods x.sold x.left) 0=_
  rw [C4V (A3s L Q) L.length (gI Q.goods) (fun x=>x.goods) fun i hi=>by
   have hq:=(hL _ (A7 hi)).2.2.1
   show gI Q.goods i * (L.getD i default).qty / (L.getD i default).qty=_
   rw [Int.mul_ediv_cancel _ (by omega)]]
  rw [←h.ngoods,B8u]
 have e2:shT (P3 L Q)=A2 Q.taxes:=by
  show ((List.range L.length).map (A3s L Q)).foldl (fun a x=>a+R6 x.tax x.sold x.left) 0=_
  rw [C4V (A3s L Q) L.length (gI Q.taxes) (fun x=>x.tax) fun i hi=>by
   have hq:=(hL _ (A7 hi)).2.2.1
   show gI Q.taxes i * (L.getD i default).qty / (L.getD i default).qty=_
   rw [Int.mul_ediv_cancel _ (by omega)]]
  rw [←h.ntaxes,B8u]
 have e3:U2 (P3 L Q)=true:=by
  unfold U2
  rw [D8r]
  have hm:(P3 L Q).getD 0 default∈P3 L Q:=A7 (by omega)
  have:=hkept _ hm
  exact ⟨_,hm,D7m (by omega)⟩
 show (⟨shG (P3 L Q),shT (P3 L Q),if U2 (P3 L Q)=true then Q.ship else 0,if U2 (P3 L Q)=true then Q.shipTax else 0,0⟩:A1v)=_
 rw [e1,e2,e3];rfl
end Go.Proofs.YtaapofnkmpiknaaGreat
namespace Go.Proofs.YtaapofnkmpiknaaGreat
open Go Go.Ab
attribute [local irreducible] upd del
theorem B5i (t:Tax) (x rate:Int) (hr:0≤rate∧rate≤10000) (st:St):S P 167 [S7 t,eI x,eI rate] st fun v st'=>v=eI (N6 t x rate)∧st'=st:=by
 have hM:N6 t x rate=(W7 x rate (A9o t rate) t.round).1:=rfl
 have hw:IntKind.i64.wrap (10000+rate)=10000+rate:=A5 (by omega) (by omega)
 refine F4 [3] Tryz.func167 ?_
 cases hi:t.incl
 ·have hd:A9o t rate=10000:=by unfold A9o;rw [if_neg (by rw [hi];simp)];rfl
  conv=>whnf
  refine B3 (B2s x rate 10000 t.round st) ?_
  rw [hM,hd]
  generalize W7 x rate 10000 t.round=Y
  conv=>whnf
  exact ⟨rfl,rfl⟩
 ·have hd:A9o t rate=10000+rate:=by unfold A9o;rw [if_pos hi]
  conv=>whnf
  rw [hw]
  refine B3 (B2s x rate (10000+rate) t.round st) ?_
  rw [hM,hd]
  generalize W7 x rate (10000+rate) t.round=Y
  conv=>whnf
  exact ⟨rfl,rfl⟩
theorem C1P (z:K3) (c:C8) (hl:z.rates.length≤100000) (st:St):S P 168 [S3 z,eS c] st fun v st'=>v=eI (F3 z c)∧st'=st:=by
 refine F4 [2] Tryz.func168 ?_
 refine lp z.rates.length [1,2,5] (fun i vs t=>(∀ j,j<i→((z.rates.getD j default).cat.toList==c.toList)=false)∧vs=[eS c,.fptr (S3 z) 0,eI i]∧t=st) ?_ ?_
 ·conv=>whnf
  exact ⟨fun j hj=>absurd hj (by omega),rfl,rfl⟩
 ·rintro i vs t hi ⟨hno,rfl,rfl⟩
  conv=>whnf
  cases h1:decide ((i:Int)<(z.rates.length:Int))
  ·obtain rfl:=C5 h1 hi
   have hf:F3 z c=z.rest:=by unfold F3;rw [B0H hno]
   rw [hf];conv=>whnf
   exact ⟨rfl,rfl⟩
  ·have hi':=E2 h1
   conv=>whnf
   refine E7 ?_
   refine B9 (fun h2=>?_) (fun h2=>?_)<;>rw [h2]
   ·have hf:F3 z c=(z.rates.getD (i:Int).toNat default).rate:=by unfold F3;rw [B0G (p:=fun x:G8=>x.cat.toList==c.toList) hi' h2 hno];rfl
    rw [hf];conv=>whnf
    refine E7 ?_
    exact ⟨rfl,rfl⟩
   ·conv=>whnf
    refine G2 ?_
    exact nx hi' ⟨H5 hno h2,by rw [B4 (by omega)],rfl⟩
theorem C1Q (t:Tax) (s:C8) (hl:t.zones.length≤100000) (st:St) :
  S P 166 [S7 t,eS s] st fun v st'=>v=.tuple [S3 ((Z8 t.zones s).getD C8l),.bool (Z8 t.zones s).isSome]∧st'=st:=by
 refine S.post (post:=fun v s'=>F1 st s'∧((∃ z,Z8 t.zones s=some z∧v=.tuple [S3 z,.bool true])∨(Z8 t.zones s=none∧v=.tuple [.agg [eS ⟨#[]⟩,.emp,eI 0,eI 0],.bool false]))) ?_ (fun v s' ⟨hs,h⟩=>⟨_,st,⟨rfl,rfl⟩,by
  rcases h with ⟨z,h1,rfl⟩ | ⟨h1,rfl⟩
  ·rw [h1];exact hs.shift _
  ·rw [h1]
   exact (A6.tuple (A6.cons (Le.shift (Le.agg (F0.cons (Le.refl _) (F0.cons (Le.emp _ _) (F0.refl _)))) _) (A6.keep _ _)) rfl).trans (hs.shift _)⟩)
 refine F4 [2] Tryz.func166 ?_
 intro b4 hb4;conv=>whnf
 refine lp t.zones.length [1,2,4,6] (fun i vs u=>(∀ j,j<i→((t.zones.getD j default).name.toList==s.toList)=false)∧vs=[eS s,.fptr (S7 t) 0,.optr 4 b4 0 0,eI i]∧u=upd st b4 ⟨103,4,1,fun _=>H7 C1K.zero⟩) ?_ ?_
 ·conv=>whnf
  exact ⟨fun j hj=>absurd hj (by omega),rfl,rfl⟩
 ·rintro i vs u hi ⟨hno,rfl,rfl⟩
  conv=>whnf
  cases h1:decide ((i:Int)<(t.zones.length:Int))
  ·obtain rfl:=C5 h1 hi
   have hf:Z8 t.zones s=none:=B0H hno
   conv=>whnf
   refine Z7 (A0 ..) rfl ?_
   refine J6 (A0 ..) (A4 ..) ?_
   exact ⟨((F1.refl st).upd hb4).over hb4,.inr ⟨hf,rfl⟩⟩
  ·have hi':=E2 h1
   conv=>whnf
   refine E7 ?_
   refine B9 (fun h2=>?_) (fun h2=>?_)<;>rw [h2]
   ·have hf:Z8 t.zones s=some (t.zones.getD (i:Int).toNat default):=B0G (p:=fun z:K3=>z.name.toList==s.toList) hi' h2 hno
    conv=>whnf
    refine E7 ?_
    refine Z7 (A0 ..) rfl ?_
    refine J6 (A0 ..) (A4 ..) ?_
    exact ⟨((F1.refl st).upd hb4).over hb4,.inl ⟨_,hf,rfl⟩⟩
   ·conv=>whnf
    refine G2 ?_
    exact nx hi' ⟨H5 hno h2,by rw [B4 (by omega)],rfl⟩
def IsF (n:Nat) (F:Nat→Bool) (y:K4):Prop:=∃ f,y=⟨4,1,n,f⟩∧∀ k,k<n→f k=eB (F k)
theorem IsF.set {n i:Nat} {F F':Nat→Bool} {f:Nat→AV} (h:∀ k,k<n→f k=eB (F k)) (h1:F' i=true) (h2:∀ k,k≠i→F' k=F k):IsF n F' ⟨4,1,n,I4 f i (eB true)⟩:=by
 refine ⟨_,rfl,fun k hk=>?_⟩
 by_cases e:k=i
 ·subst e;rw [A4,h1]
 ·rw [H4 e,h k hk,h2 k e]
def OD (bo bd:Nat) (L:List Int) (n:Nat) (F:Nat→Bool):St→St→Prop:=Y7 bo (IsL L) (Y7 bd (IsF n F) F1)
theorem A5W (bo bd:Nat) (L:List Int) (n:Nat) (F:Nat→Bool):L2 (OD bo bd L n F):=A0w (A0w J5)
section
variable {bo bd n:Nat} {L L':List Int} {F F':Nat→Bool} {s t:St} {y:K4}
theorem OD.setL (h:OD bo bd L n F s t) (hy:IsL L' y):OD bo bd L' n F s (upd t bo y):=Y7.set (A0w J5) h hy
theorem OD.setD (h:OD bo bd L n F s t) (hy:IsF n F' y):OD bo bd L n F' s (upd t bd y):=Y7.map h fun s h=>Y7.set J5 h hy
theorem OD.atL (h:OD bo bd L n F s t):∃ y,IsL L y∧t bo=some y:=Y7.at (A0w J5) h
theorem OD.atD (h:OD bo bd L n F s t):∃ y,IsF n F y∧t bd=some y:=by
 obtain ⟨_,y,_,h⟩:=h
 exact Y7.at J5 h
theorem OD.congr (h:OD bo bd L n F s t) (hF:∀ k,k<n→F k=F' k):OD bo bd L n F' s t :=
 Y7.map h fun s h=>Y7.weak h fun y ⟨f,h1,h2⟩=>⟨f,h1,fun k hk=>by rw [h2 k hk,hF k hk]⟩
end
theorem C0X {t:Tax} {rates nets:List Int} {D:Int→Bool} {L:List Int} (h:B3D t rates nets D L) (hD:∀ i,i<nets.length→D (-(gI rates i))=true):L=H0 t rates nets:=by
 have hl:(H0 t rates nets).length=nets.length:=by unfold H0;rw [D6J,D7g]
 refine C3H (by rw [h.1,hl]) fun i h1=>?_
 have hi:i<nets.length:=by rw [←h.1];exact h1
 have h3:=h.2 i hi
 rw [if_pos (hD i hi)] at h3
 rw [h3]
 unfold H0 gI
 rw [D6D,D7C,D8i hi];rfl
def A8o (rates:List Int) (k:Int) (m:Nat):Nat:=((List.range m).filter fun i=>-(gI rates i)==k).length
theorem C3s (rates:List Int) (k:Int) (m:Nat):A8o rates k (m+1)=A8o rates k m+(if (-(gI rates m)==k)=true then 1 else 0):=by
 unfold A8o
 rw [D8m,D8A,D6P]
 congr 1
 by_cases h:(-(gI rates m)==k)=true
 ·rw [if_pos h,D7I (p:=fun i=>-(gI rates i)==k) h];rfl
 ·rw [if_neg h,D7O (p:=fun i=>-(gI rates i)==k) h];rfl
theorem C5Y (rates:List Int) (k:Int):A8o rates k rates.length=(K5 rates k).length:=rfl
theorem C8D {rates:List Int} {k:Int} {m:Nat} (hm:m≤rates.length):A8o rates k m≤(K5 rates k).length:=by
 unfold A8o K5
 exact (((List.range_sublist.2 hm).filter _).length_le)
theorem C8C {rates:List Int} {k:Int} {m:Nat} (hm:m<rates.length) (h:(-(gI rates m)==k)=true):A8o rates k m<(K5 rates k).length∧gN (K5 rates k) (A8o rates k m)=m:=by
 have hk : -(gI rates m)=k:=by simpa using h
 have hg:m∈K5 rates k:=D7F.2 ⟨D6T.2 hm,h⟩
 have e1:=A8C hm
 rw [(A0z hg).2.2] at e1
 have e2:A0B rates m=A8o rates k m:=by
  unfold A0B A8o
  congr 1
  refine List.filter_congr fun j _=>?_
  rw [D9J,D7B,D7B];omega
 rw [e2] at e1
 obtain ⟨e3,e4⟩:=D6U.1 e1
 refine ⟨e3,?_⟩
 show (((K5 rates k).getD (A8o rates k m) 0:Nat):Int)=m
 rw [D6D,e1];rfl
end Go.Proofs.YtaapofnkmpiknaaGreat
