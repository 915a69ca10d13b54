/- Part 28 of the proof: the law, for every input, and its row -/
import Derived.Test.YthdimklenlikgaaGreatDp27
import Derived.ChangeSlices
import Derived.ChangeArms
import Derived.Test.YthdimklenlikgaaGreatRows
import Derived.ProofKit
import Derived.JoinedOf
import Derived.KernelRfl
import Derived.WalkKit
import Derived.OpenShut
import Derived.ShutString
import Derived.ChangeOld
import Derived.Below
import Derived.SizedLaws
set_option maxRecDepth 100000
set_option linter.unusedVariables false
set_option linter.unusedSimpArgs false
namespace Go.Proofs.YthdimklenlikgaaGreat
open Go Go.Ab
attribute [local irreducible] upd del
theorem A9.pre {a b:List AV} {s t:St} (h:A9 a s b t):∀ l:List AV,A9 (l++a) s (l++b) t
 | []=>h
 | x::l=>A9.cons (A9.keep [x] s) (A9.pre h l)
abbrev B2m (l:List A1b):Nat→AV:=fun k=>O8 (l.getD k default)
theorem ROut.put {ty e n b:Nat} {fo:Nat→AV} {s t:St} {sv:AV} {y:Q5} (h:ROut E7 ty e fo n (upd s b y) sv t) (y':Q5):ROut E7 ty e fo n (upd s b y') sv (upd t b y'):=by
 have:=ROut.write (y':=y') C3 h (A0 ..)
 rwa [B6] at this
theorem A9O {l:List A1b} (h:l.length=0):N1 l=[⟨⟨[],[]⟩,2⟩]:=if_pos h
theorem A9P {l:List A1b} (h:l.length≠0):N1 l=(l.take 3).map W1:=if_neg h
theorem C2A {l:List A1b} {i:Nat} (hi:i<min l.length 3):((l.take 3).map W1).getD i default=W1 (l.getD i default):=by
 rw [List.getD_eq_getElem?_getD,List.getElem?_map,List.getElem?_take_of_lt (by omega),List.getElem?_eq_getElem (by omega),List.getD_eq_getElem?_getD,List.getElem?_eq_getElem (by omega)];rfl
set_option maxHeartbeats 80000000 in
theorem B4r (p:B2) (id:Int) (st:St):S P 147 [B8 p,eI id] st fun v st'=>v=B8 (A1m p id)∧st'=st:=by
 refine S.post (post:=fun v s=>(∃ W,v=.agg W∧E7 st s∧F6 W (cellsOf (B8 (A1m p id))))∨∃ (pre:List AV) (sv fin:AV) (base:St),v=.agg (pre++[sv,fin])∧A9 [sv] s [A7 3 O8 (N1 p.parts)] base∧E7 st base∧F6 (pre++[A7 3 O8 (N1 p.parts),fin]) (cellsOf (B8 (A1m p id)))) ?_ (fun v s h=>⟨_,st,⟨rfl,rfl⟩,by
   rcases h with ⟨W,h1,h3,h4⟩ | ⟨pre,sv,fin,base,h1,h2,h3,h4⟩
   ·rw [h1];exact (Le.shift (Le.agg h4) _).trans (h3.shift _)
   ·rw [h1]
    refine (A9.agg (A9.pre (A9.cons h2 (A9.keep [fin] _)) pre)).trans ?_
    exact (Le.shift (Le.agg h4) _).trans (h3.shift _)⟩)
 have hScope:=fun s=>B4y p.scope s
 obtain ⟨SC,hSC⟩:∃ SC,SC=O0 p.scope:=⟨_,rfl⟩
 rw [←hSC] at hScope
 have hId:=fun s=>C8v id s
 obtain ⟨I,hI⟩:∃ I,I=idN id:=⟨_,rfl⟩
 rw [←hI] at hId
 have hPr:=fun s=>A0z p.prio 5 (by decide) (by decide) s
 obtain ⟨PR,hPR⟩:∃ PR,PR=C4 p.prio 5:=⟨_,rfl⟩
 rw [←hPR] at hPr
 have hKd:=fun s=>A0z (IntKind.i64.wrap (p.kind - 1)) 7 (by decide) (by decide) s
 have hkm:=E5 (IntKind.i64.wrap (p.kind - 1)) (n:=7) (by decide)
 have hkw:IntKind.i64.wrap (1+C4 (IntKind.i64.wrap (p.kind - 1)) 7)=A2v p:=B1 (by omega) (by omega)
 have hK:=A4T p
 have hP:A1m p id=L9 p id (A2v p):=rfl
 rw [hP]
 generalize A2v p=K at hK hkw ⊢
 clear hP
 generalize C4 (IntKind.i64.wrap (p.kind - 1)) 7=KD at hKd hkw
 obtain ⟨G,hG⟩:∃ G,G=A1l p:=⟨_,rfl⟩
 obtain ⟨C,hC⟩:∃ C,C=A2u p:=⟨_,rfl⟩
 obtain ⟨L,hL⟩:∃ L,L=A2f p:=⟨_,rfl⟩
 have wr:IntKind.i64.wrap (1+C4 p.rate 10000)=1+C4 p.rate 10000:=by have:=E5 p.rate (n:=10000) (by decide);exact B1 (by omega) (by omega)
 have wa:IntKind.i64.wrap (1+C4 p.amount 900)=1+C4 p.amount 900:=by have:=E5 p.amount (n:=900) (by decide);exact B1 (by omega) (by omega)
 have wb:IntKind.i64.wrap (1+C4 p.buy 3)=1+C4 p.buy 3:=by have:=E5 p.buy (n:=3) (by decide);exact B1 (by omega) (by omega)
 have wg:IntKind.i64.wrap (1+C4 p.get 2)=1+C4 p.get 2:=by have:=E5 p.get (n:=2) (by decide);exact B1 (by omega) (by omega)
 have hT5:=fun s=>A8m p.tiers 5000 (by decide) (by decide) s
 obtain ⟨TS,hTS⟩:∃ TS,TS=N2 p.tiers 5000:=⟨_,rfl⟩
 rw [←hTS] at hT5
 have hT6:=fun s=>A8m p.tiers 5 (by decide) (by decide) s
 obtain ⟨TU,hTU⟩:∃ TU,TU=N2 p.tiers 5:=⟨_,rfl⟩
 rw [←hTU] at hT6
 have hA3:=fun s=>L8 p.amount 3000 (by decide) (by decide) s
 obtain ⟨A3,hA⟩:∃ A3,A3=C4 p.amount 3000:=⟨_,rfl⟩
 rw [←hA] at hA3
 refine A4 [2] B7 mixed Tryz.func147 (by rfl) rfl rfl rfl ?_;conv=>whnf
 intro b4 hb4;conv=>whnf
 refine ⟨[16,17],[1,3,5,8,9,11,13,14],List.range 18,by kernel_rfl,?_⟩;conv=>whnf
 refine ⟨_,fun s _=>C6 (hId s),?_⟩;conv=>whnf
 refine ⟨_,fun s _=>⟨rfl,rfl⟩,?_⟩;conv=>whnf
 refine ⟨_,fun s _=>C6 (hKd s),?_⟩;conv=>whnf
 refine ⟨_,fun s _=>⟨rfl,rfl⟩,?_⟩;conv=>whnf
 refine ⟨_,fun s _=>C6 (hPr s),?_⟩;conv=>whnf
 refine ⟨_,fun s _=>⟨rfl,rfl⟩,?_⟩;conv=>whnf
 refine ⟨_,fun s _=>⟨rfl,rfl⟩,?_⟩;conv=>whnf
 refine ⟨_,fun s _=>C6 (hScope s),?_⟩;conv=>whnf
 intro b5 hb5
 have hne:b4≠b5:=fun e=>by subst e;rw [A0] at hb5;cases hb5
 conv=>whnf
 refine J7 (A0 ..) rfl (by omega) rfl (by rfl) ?_
 rw [B6,hkw]
 have hst:∀ Y:Q5,E7 st (upd (upd st b4 ⟨83,15,1,fun _=>K3 r83.zero⟩) b5 Y):=fun Y=>((E7.refl st).upd hb4).upd hb5
 conv=>whnf
 refine A5 (A9M _ _) ?_;conv=>whnf
 refine A5 (A0z _ 3 (by decide) (by decide) _) ?_;conv=>whnf
 cases hg:(C4 (A2I p.group) 3==1)
 case' true =>
  have hgv:(⟨#[103]⟩:D8)++B0W ([]++[IntKind.u8.wrap (48+IntKind.u8.wrap (C4 p.group.size 2))])=G:=by rw [hG,B1N];exact (if_pos (by simpa using hg)).symm
  conv=>whnf
  refine A5 (A0z _ 2 (by decide) (by decide) _) ?_;conv=>whnf
  rw [hgv]
  refine J7 (A0 ..) rfl (by omega) (A2 ..) (by rfl) ?_
  rw [B6]
 case' false =>
  have hG0:(⟨#[]⟩:D8)=G:=by rw [hG];exact (if_neg (by simpa using hg)).symm
 all_goals
  conv=>whnf
  refine A5 (A9M _ _) ?_;conv=>whnf
  refine A5 (A0z _ 3 (by decide) (by decide) _) ?_;conv=>whnf
  cases hcd:(C4 (A2I p.code) 3==1)
  case' true =>
   have hcv:A4c p.code.size=C:=by rw [hC];exact (if_pos (by simpa using hcd)).symm
   conv=>whnf
   refine A5 (B9I _ _) ?_;conv=>whnf
   rw [hcv]
   refine J7 (A0 ..) rfl (by omega) (A2 ..) (by rfl) ?_
   rw [B6]
  case' false =>
   have hC0:(⟨#[]⟩:D8)=C:=by rw [hC];exact (if_neg (by simpa using hcd)).symm
  all_goals
   conv=>whnf
   refine A5 (L8 _ 3 (by decide) (by decide) _) ?_;conv=>whnf
   cases hl:(C4 p.least 3==1)
   case' true =>
    have hlv:C4 p.least 9000=L:=by rw [hL];exact (if_pos (by simpa using hl)).symm
    conv=>whnf
    refine A5 (L8 _ 9000 (by decide) (by decide) _) ?_;conv=>whnf
    rw [hlv]
    refine J7 (A0 ..) rfl (by omega) (A2 ..) (by rfl) ?_
    rw [B6]
   case' false =>
    have hL0:(0:Int)=L:=by rw [hL];exact (if_neg (by simpa using hl)).symm
   all_goals
    conv=>whnf
    refine E8 (A0 ..) rfl (by omega) (A2 ..) ?_
    rcases (show K=1∨K=2∨K=3∨K=4∨K=5∨K=6∨K=7 by omega) with rfl | rfl | rfl | rfl | rfl | rfl | rfl
    ·rw [show cellsOf (B8 (L9 p id 1))=[eS (I),eI 1,eI (PR),eS (G),eS (C),eB p.closes,D3 (SC).skus,D3 (SC).cats,eI (L),eI (1+C4 p.rate 10000),eI 0,eI 0,eI 0,A7 3 O8 [],A7 3 L4 []] from by rw [hI,hPR,hG,hC,hL,hSC];rfl]
     (try subst hG0);(try subst hC0);(try subst hL0)
     conv=>whnf
     refine A5 (L8 _ 10000 (by decide) (by decide) _) ?_;conv=>whnf
     rw [wr]
     refine J7 (A0 ..) rfl (by omega) (A2 ..) (by rfl) ?_
     rw [B6];conv=>whnf
     refine E8 (A0 ..) rfl (by omega) (A2 ..) ?_;conv=>whnf
     refine J7 (by rw [A8 hne];exact A0 ..) rfl (by omega) rfl (by rfl) ?_;conv=>whnf
     refine E8 (A0 ..) rfl (by omega) (A2 ..) ?_;conv=>whnf
     exact .inl ⟨_,rfl,(hst _).over hb4,F6.cons (Le.refl _) (F6.cons (Le.refl _) (F6.cons (Le.refl _) (F6.cons (Le.refl _) (F6.cons (Le.refl _) (F6.cons (Le.refl _) (F6.cons (Le.refl _) (F6.cons (Le.refl _) (F6.cons (Le.refl _) (F6.cons (Le.refl _) (F6.cons (Le.refl _) (F6.cons (Le.refl _) (F6.cons (Le.refl _) (F6.cons (Le.emp _ _) (F6.cons (Le.emp _ _) (F6.nil)))))))))))))))⟩
    ·rw [show cellsOf (B8 (L9 p id 2))=[eS (I),eI 2,eI (PR),eS (G),eS (C),eB p.closes,D3 (SC).skus,D3 (SC).cats,eI (L),eI 0,eI (1+C4 p.amount 900),eI 0,eI 0,A7 3 O8 [],A7 3 L4 []] from by rw [hI,hPR,hG,hC,hL,hSC];rfl]
     (try subst hG0);(try subst hC0);(try subst hL0)
     conv=>whnf
     refine A5 (L8 _ 900 (by decide) (by decide) _) ?_;conv=>whnf
     rw [wa]
     refine J7 (A0 ..) rfl (by omega) (A2 ..) (by rfl) ?_
     rw [B6];conv=>whnf
     refine E8 (A0 ..) rfl (by omega) (A2 ..) ?_;conv=>whnf
     refine J7 (by rw [A8 hne];exact A0 ..) rfl (by omega) rfl (by rfl) ?_;conv=>whnf
     refine E8 (A0 ..) rfl (by omega) (A2 ..) ?_;conv=>whnf
     exact .inl ⟨_,rfl,(hst _).over hb4,F6.cons (Le.refl _) (F6.cons (Le.refl _) (F6.cons (Le.refl _) (F6.cons (Le.refl _) (F6.cons (Le.refl _) (F6.cons (Le.refl _) (F6.cons (Le.refl _) (F6.cons (Le.refl _) (F6.cons (Le.refl _) (F6.cons (Le.refl _) (F6.cons (Le.refl _) (F6.cons (Le.refl _) (F6.cons (Le.refl _) (F6.cons (Le.emp _ _) (F6.cons (Le.emp _ _) (F6.nil)))))))))))))))⟩
    ·rw [show cellsOf (B8 (L9 p id 3))=[eS (I),eI 3,eI (PR),eS (G),eS (C),eB p.closes,D3 (SC).skus,D3 (SC).cats,eI (L),eI (1+C4 p.rate 10000),eI 0,eI (1+C4 p.buy 3),eI (1+C4 p.get 2),A7 3 O8 [],A7 3 L4 []] from by rw [hI,hPR,hG,hC,hL,hSC];rfl]
     (try subst hG0);(try subst hC0);(try subst hL0)
     conv=>whnf
     refine ⟨[13,15,17],[],List.range 18,by kernel_rfl,?_⟩;conv=>whnf
     refine ⟨_,C6 (L8 _ 10000 (by decide) (by decide) _),?_⟩;conv=>whnf
     rw [wr]
     refine ⟨_,C6 (A0z _ 3 (by decide) (by decide) _),?_⟩;conv=>whnf
     rw [wb]
     refine ⟨_,C6 (A0z _ 2 (by decide) (by decide) _),?_⟩;conv=>whnf
     rw [wg]
     refine J7 (A0 ..) rfl (by omega) (A2 ..) (by rfl) ?_
     rw [B6];conv=>whnf
     refine J7 (A0 ..) rfl (by omega) (A2 ..) (by rfl) ?_
     rw [B6];conv=>whnf
     refine J7 (A0 ..) rfl (by omega) (A2 ..) (by rfl) ?_
     rw [B6];conv=>whnf
     refine E8 (A0 ..) rfl (by omega) (A2 ..) ?_;conv=>whnf
     refine J7 (by rw [A8 hne];exact A0 ..) rfl (by omega) rfl (by rfl) ?_;conv=>whnf
     refine E8 (A0 ..) rfl (by omega) (A2 ..) ?_;conv=>whnf
     exact .inl ⟨_,rfl,(hst _).over hb4,F6.cons (Le.refl _) (F6.cons (Le.refl _) (F6.cons (Le.refl _) (F6.cons (Le.refl _) (F6.cons (Le.refl _) (F6.cons (Le.refl _) (F6.cons (Le.refl _) (F6.cons (Le.refl _) (F6.cons (Le.refl _) (F6.cons (Le.refl _) (F6.cons (Le.refl _) (F6.cons (Le.refl _) (F6.cons (Le.refl _) (F6.cons (Le.emp _ _) (F6.cons (Le.emp _ _) (F6.nil)))))))))))))))⟩
    ·rw [show cellsOf (B8 (L9 p id 4))=[eS (I),eI 4,eI (PR),eS (G),eS (C),eB p.closes,D3 [],D3 [],eI (L),eI 0,eI (A3),eI 0,eI 0,A7 3 O8 (N1 p.parts),A7 3 L4 []] from by rw [hI,hPR,hG,hC,hL,hA];rfl];conv=>whnf
     refine A5 (hA3 _) ?_;conv=>whnf
     refine J7 (A0 ..) rfl (by omega) (A2 ..) (by rfl) ?_
     rw [B6];conv=>whnf
     refine J7 (A0 ..) rfl (by omega) (A2 ..) (by rfl) ?_
     rw [B6];conv=>whnf
     refine lp (min p.parts.length 3) [2,4,5,6] (fun i vs s=>∃ sv f,vs=[.fptr (B8 p) 0,.optr 15 b4 0 0,.optr 15 b5 0 0,eI i]∧f 0=.agg ([eS I,eI 4,eI PR,eS G,eS C,eB p.closes,.emp,.emp,eI L,eI 0,eI A3,eI 0,eI 0]++[sv,.emp])∧ROut E7 244 3 (B2m ((p.parts.take 3).map W1)) i (upd (upd st b4 ⟨83,15,1,fun _=>K3 r83.zero⟩) b5 ⟨83,15,1,f⟩) sv s) ?_ ?_
     ·conv=>whnf
      exact ⟨.emp,_,rfl,by (try rw [←hG0]);(try rw [←hC0]);(try rw [←hL0]);first | rfl | (rw [A2];rfl),ROut.start (E7.refl _) _ _ _⟩
     ·rintro i vs s hi ⟨sv,f,rfl,hf,hR⟩
      have hsup:=ROut.sup C3 hR
      have at5:s b5=some ⟨83,15,1,f⟩:=hsup b5 _ (A0 ..)
      have at4:s b4=some ⟨83,15,1,fun _=>K3 r83.zero⟩:=hsup b4 _ (by rw [A8 hne];exact A0 ..)
      have n5:st b5=none:=by rw [A8 (Ne.symm hne)] at hb5;exact hb5
      conv=>whnf
      refine C2 (fun h1=>?_) (fun h1=>?_)<;>rw [h1]<;>simp only [decide_eq_true_eq,decide_eq_false_iff_not] at h1
      case' refine_1 =>
       conv=>whnf
       refine C2 (fun h2=>?_) (fun h2=>?_)<;>rw [h2]<;>simp only [decide_eq_true_eq,decide_eq_false_iff_not] at h2
      case refine_1.refine_1 =>
       have hi':i<min p.parts.length 3:=by omega
       have hsc2:=fun s=>B4y (p.parts.getD (i:Int).toNat default).scope s
       have hpa:=C2A hi'
       have hm2:=E5 (p.parts.getD (i:Int).toNat default).count (n:=2) (by decide)
       have wc:IntKind.i64.wrap (1+C4 (p.parts.getD (i:Int).toNat default).count 2)=1+C4 (p.parts.getD (i:Int).toNat default).count 2:=B1 (by omega) (by omega)
       have hpp:O8 (W1 (p.parts.getD i default))=.agg [D3 (O0 (p.parts.getD (i:Int).toNat default).scope).skus,D3 (O0 (p.parts.getD (i:Int).toNat default).scope).cats,eI (1+C4 (p.parts.getD (i:Int).toNat default).count 2)]:=rfl
       generalize O0 (p.parts.getD (i:Int).toNat default).scope=S2 at hsc2 hpp
       rcases ROut.head hR with rfl | ⟨bp,rfl⟩
       all_goals
        conv=>whnf
        refine ⟨[19,21],[15],List.range 22,by kernel_rfl,?_⟩;conv=>whnf
        refine E8 at5 rfl (by omega) hf ?_;conv=>whnf
        refine ⟨rfl,⟨by omega,by omega⟩,?_⟩;conv=>whnf
        refine ⟨_,C6 (hsc2 _),?_⟩;conv=>whnf
        refine ⟨rfl,⟨by omega,by omega⟩,?_⟩;conv=>whnf
        refine ⟨_,fun s _=>C6 (A0z _ 2 (by decide) (by decide) s),?_⟩;conv=>whnf
        rw [wc]
        refine ⟨_,⟨rfl,rfl⟩,?_⟩;conv=>whnf
        refine ROut.app (q:=C2F) C3 rfl rfl rfl rfl rfl (f:=B2m ((p.parts.take 3).map W1)) (by show _=O8 _;rw [hpa,hpp];rfl) (by show (i+1) * 56≤140737488355328;omega) hR (fun sv' t2 hR2=>?_)
        have at5':t2 b5=some ⟨83,15,1,f⟩:=ROut.sup C3 hR2 b5 _ (A0 ..)
        rcases ROut.head hR2 with rfl | ⟨bp',rfl⟩
        all_goals
         conv=>whnf
         refine J7 at5' rfl (by omega) hf (by rfl) ?_;conv=>whnf
         refine ⟨rfl,?_⟩;conv=>whnf
         exact nx hi' ⟨_,_,by rw [B9 (by omega)],(by rw [A2];rfl),ROut.put hR2 _⟩
      all_goals
       have hie:i=min p.parts.length 3:=by omega
       obtain ⟨s0,hcol,hss⟩:=hR
       rcases hcol with ⟨h0,rfl,rfl⟩ | ⟨h0,bp,g,hbp,rfl,rfl,hgg⟩
       ·have hPP:=A9O (l:=p.parts) (by omega)
        subst h0
        rw [hPP];conv=>whnf
        refine E8 at5 rfl (by omega) hf ?_;conv=>whnf
        refine J7 at5 rfl (by omega) hf (by rfl) ?_;conv=>whnf
        refine E8 (A0 ..) rfl (by omega) (A2 ..) ?_;conv=>whnf
        refine J7 (by rw [A8 hne];exact at4) rfl (by omega) rfl (by rfl) ?_;conv=>whnf
        refine E8 (A0 ..) rfl (by omega) (A2 ..) ?_;conv=>whnf
        exact .inl ⟨_,rfl,((((E7.refl st).upd hb4).upd hb5).trans hss |>.over n5).over hb4,F6.cons (Le.refl _) (F6.cons (Le.refl _) (F6.cons (Le.refl _) (F6.cons (Le.refl _) (F6.cons (Le.refl _) (F6.cons (Le.refl _) (F6.cons (Le.emp _ _) (F6.cons (Le.emp _ _) (F6.cons (Le.refl _) (F6.cons (Le.refl _) (F6.cons (Le.refl _) (F6.cons (Le.refl _) (F6.cons (Le.refl _) (F6.cons (Le.arr1 (F6.cons (Le.emp _ _) (F6.cons (Le.emp _ _) (F6.cons (Le.refl _) F6.nil))) rfl) (F6.cons (Le.emp _ _) (F6.nil)))))))))))))))⟩
       ·have hPP:=A9P (l:=p.parts) (by omega)
        have hAP:A7 3 O8 (N1 p.parts)=.arr 3 i (B2m ((p.parts.take 3).map W1)):=by unfold A7;rw [hPP,show ((p.parts.take 3).map W1).length=i by rw [List.length_map,List.length_take];omega]
        have hR3:ROut E7 244 3 (B2m ((p.parts.take 3).map W1)) i (upd (upd st b4 ⟨83,15,1,fun _=>K3 r83.zero⟩) b5 ⟨83,15,1,f⟩) (.own 3 bp 0 i) s:=⟨_,.inr ⟨h0,bp,g,hbp,rfl,rfl,hgg⟩,hss⟩
        conv=>whnf
        refine E8 at5 rfl (by omega) hf ?_;conv=>whnf
        rw [show ((i:Int)==0)=false by rw [beq_eq_false_iff_ne];omega];conv=>whnf
        refine E8 at5 rfl (by omega) hf ?_;conv=>whnf
        refine J7 at4 rfl (by omega) rfl (by rfl) ?_;conv=>whnf
        refine E8 (A0 ..) rfl (by omega) (A2 ..) ?_;conv=>whnf
        obtain ⟨base,hsh,hsb⟩:=ROut.shift C3 (ROut.write C3 hR3 (b:=b4) (by rw [A8 hne];exact A0 ..))
        refine .inr ⟨[eS I,eI 4,eI PR,eS G,eS C,eB p.closes,.emp,.emp,eI L,eI 0,eI A3,eI 0,eI 0],.own 3 bp 0 i,.emp,base,rfl,by rw [hAP];exact hsh,((((E7.refl st).upd hb4).upd hb5).over hb4).trans hsb,F6.cons (Le.refl _) (F6.cons (Le.refl _) (F6.cons (Le.refl _) (F6.cons (Le.refl _) (F6.cons (Le.refl _) (F6.cons (Le.refl _) (F6.cons (Le.emp _ _) (F6.cons (Le.emp _ _) (F6.cons (Le.refl _) (F6.cons (Le.refl _) (F6.cons (Le.refl _) (F6.cons (Le.refl _) (F6.cons (Le.refl _) (F6.cons (Le.refl _) (F6.cons (Le.emp _ _) (F6.nil)))))))))))))))⟩
    ·rw [show cellsOf (B8 (L9 p id 5))=[eS (I),eI 5,eI (PR),eS (G),eS (C),eB p.closes,D3 (SC).skus,D3 (SC).cats,eI (L),eI 0,eI 0,eI 0,eI 0,A7 3 O8 [],A7 3 L4 (TS)] from by rw [hI,hPR,hG,hC,hL,hSC,hTS];rfl]
     (try subst hG0);(try subst hC0);(try subst hL0)
     conv=>whnf
     refine A5 (hT5 _) ?_;conv=>whnf
     refine J7 (A0 ..) rfl (by omega) (A2 ..) (by rfl) ?_
     rw [B6];conv=>whnf
     refine E8 (A0 ..) rfl (by omega) (A2 ..) ?_;conv=>whnf
     refine J7 (by rw [A8 hne];exact A0 ..) rfl (by omega) rfl (by rfl) ?_;conv=>whnf
     refine E8 (A0 ..) rfl (by omega) (A2 ..) ?_;conv=>whnf
     exact .inl ⟨_,rfl,(hst _).over hb4,F6.cons (Le.refl _) (F6.cons (Le.refl _) (F6.cons (Le.refl _) (F6.cons (Le.refl _) (F6.cons (Le.refl _) (F6.cons (Le.refl _) (F6.cons (Le.refl _) (F6.cons (Le.refl _) (F6.cons (Le.refl _) (F6.cons (Le.refl _) (F6.cons (Le.refl _) (F6.cons (Le.refl _) (F6.cons (Le.refl _) (F6.cons (Le.emp _ _) (F6.cons (Le.refl _) (F6.nil)))))))))))))))⟩
    ·rw [show cellsOf (B8 (L9 p id 6))=[eS (I),eI 6,eI (PR),eS (G),eS (C),eB p.closes,D3 (SC).skus,D3 (SC).cats,eI (L),eI 0,eI 0,eI 0,eI 0,A7 3 O8 [],A7 3 L4 (TU)] from by rw [hI,hPR,hG,hC,hL,hSC,hTU];rfl]
     (try subst hG0);(try subst hC0);(try subst hL0)
     conv=>whnf
     refine A5 (hT6 _) ?_;conv=>whnf
     refine J7 (A0 ..) rfl (by omega) (A2 ..) (by rfl) ?_
     rw [B6];conv=>whnf
     refine E8 (A0 ..) rfl (by omega) (A2 ..) ?_;conv=>whnf
     refine J7 (by rw [A8 hne];exact A0 ..) rfl (by omega) rfl (by rfl) ?_;conv=>whnf
     refine E8 (A0 ..) rfl (by omega) (A2 ..) ?_;conv=>whnf
     exact .inl ⟨_,rfl,(hst _).over hb4,F6.cons (Le.refl _) (F6.cons (Le.refl _) (F6.cons (Le.refl _) (F6.cons (Le.refl _) (F6.cons (Le.refl _) (F6.cons (Le.refl _) (F6.cons (Le.refl _) (F6.cons (Le.refl _) (F6.cons (Le.refl _) (F6.cons (Le.refl _) (F6.cons (Le.refl _) (F6.cons (Le.refl _) (F6.cons (Le.refl _) (F6.cons (Le.emp _ _) (F6.cons (Le.refl _) (F6.nil)))))))))))))))⟩
    ·rw [show cellsOf (B8 (L9 p id 7))=[eS (I),eI 7,eI (PR),eS (G),eS (C),eB false,D3 [],D3 [],eI (L),eI (1+C4 p.rate 10000),eI 0,eI 0,eI 0,A7 3 O8 [],A7 3 L4 []] from by rw [hI,hPR,hG,hC,hL];rfl]
     (try subst hG0);(try subst hC0);(try subst hL0)
     conv=>whnf
     refine A5 (L8 _ 10000 (by decide) (by decide) _) ?_;conv=>whnf
     rw [wr]
     refine J7 (A0 ..) rfl (by omega) (A2 ..) (by rfl) ?_
     rw [B6];conv=>whnf
     refine J7 (A0 ..) rfl (by omega) (A2 ..) (by rfl) ?_
     rw [B6];conv=>whnf
     refine J7 (A0 ..) rfl (by omega) (A2 ..) (by rfl) ?_
     rw [B6];conv=>whnf
     refine E8 (A0 ..) rfl (by omega) (A2 ..) ?_;conv=>whnf
     refine J7 (by rw [A8 hne];exact A0 ..) rfl (by omega) rfl (by rfl) ?_;conv=>whnf
     refine E8 (A0 ..) rfl (by omega) (A2 ..) ?_;conv=>whnf
     exact .inl ⟨_,rfl,(hst _).over hb4,F6.cons (Le.refl _) (F6.cons (Le.refl _) (F6.cons (Le.refl _) (F6.cons (Le.refl _) (F6.cons (Le.refl _) (F6.cons (Le.refl _) (F6.cons (Le.emp _ _) (F6.cons (Le.emp _ _) (F6.cons (Le.refl _) (F6.cons (Le.refl _) (F6.cons (Le.refl _) (F6.cons (Le.refl _) (F6.cons (Le.refl _) (F6.cons (Le.emp _ _) (F6.cons (Le.emp _ _) (F6.nil)))))))))))))))⟩
theorem C2j (i:Nat) (h:i<6):Int.tmod (IntKind.i64.wrap (IntKind.i64.wrap ((i:Int) * 7)+3)) 10=B8d i:=by
 rw [B1 (x:=(i:Int) * 7) (by omega) (by omega),B1 (by omega) (by omega),Int.tmod_eq_emod_of_nonneg (by omega)];rfl
theorem B2K (l:List B2) (st:St):S P 73 [A7 15 B8 l] st fun v st'=>v=A7 15 B8 (J9 l)∧st'=st:=by
 refine W9 (ty:=83) ?_
 have hat:∀ i,i<6→U3 l i=A1m (l.getD (i:Int).toNat default) (Int.tmod (IntKind.i64.wrap (IntKind.i64.wrap ((i:Int) * 7)+3)) 10):=fun i hi=>by rw [C2j i hi];rfl
 have hPl:J9 l=(List.range (min l.length 6)).map (U3 l):=rfl
 rw [hPl]
 have hnext:=A4L (U3 l)
 have hS:=fun i=>B4r (l.getD (i:Nat) default)
 generalize U3 l=F at hat hnext ⊢
 refine A4 [] B7 mixed Tryz.func73 (by rfl) rfl rfl rfl ?_;conv=>whnf
 refine lp (min l.length 6) [0,3,4] (fun i vs s=>∃ sv,vs=[A7 15 B8 l,sv,eI i]∧F7 83 15 B8 ((List.range i).map F) st sv s) ?_ ?_
 ·conv=>whnf
  exact ⟨.emp,rfl,F7.start _ _ _ _⟩
 ·rintro i vs s hi ⟨sv,rfl,hc⟩
  have hfin:i=min l.length 6→F7 83 15 B8 ((List.range (min l.length 6)).map F) st sv s:=fun e=>by rw [←e];exact hc
  have hlen:((List.range i).map F).length=i:=by rw [List.length_map,List.length_range]
  conv=>whnf
  refine C2 (fun h1=>?_) (fun h1=>?_)<;>rw [h1]<;>simp only [decide_eq_true_eq,decide_eq_false_iff_not] at h1
  ·conv=>whnf
   refine C2 (fun h2=>?_) (fun h2=>?_)<;>rw [h2]<;>simp only [decide_eq_true_eq,decide_eq_false_iff_not] at h2
   ·have hi':i<min l.length 6:=by omega
    have hF:=hat i (by omega)
    conv=>whnf
    refine ⟨rfl,⟨by omega,by omega⟩,?_⟩;conv=>whnf
    refine A5 (hS (i:Int).toNat _ _) ?_
    generalize hid:Int.tmod (IntKind.i64.wrap (IntKind.i64.wrap ((i:Int) * 7)+3)) 10=ID at hF
    generalize A1m (l.getD (i:Int).toNat default) ID=Y at hF
    conv=>whnf
    refine F7.app (y:=Y) (q:=r83) rfl rfl rfl rfl rfl (by rfl) (by rw [hlen];show (i+1) * 208≤140737488355328;omega) hc (fun sv' t' hc'=>?_);conv=>whnf
    refine ⟨rfl,?_⟩;conv=>whnf
    refine nx hi' ⟨sv',by rw [B9 (by omega)],?_⟩
    rw [hnext,hF];exact hc'
   ·conv=>whnf
    exact hfin (by omega)
  ·conv=>whnf
   exact hfin (by omega)
set_option maxHeartbeats 8000000 in
theorem B4s (r:F1) (st:St):S P 17 [H9 r] st fun v st'=>v=H9 (W7 r)∧st'=st:=by
 have hE:H9 (W7 r)=.agg [A7 4 E2 (N0 r.items),A7 15 B8 (J9 r.promos),eB (K1 r.tax).incl,eB (K1 r.tax).byOrder,eI (K1 r.tax).round,A7 4 S8 (K1 r.tax).zones,eI (C4 r.ship.fee 900),eI (C4 r.ship.free 3 * 4000),
  eI (20+C4 r.policy.window 60),eI (C4 r.policy.grace 40),eI (1+C4 r.policy.mode 3),eI (C4 r.policy.restock 3 * C4 r.policy.restock 2500),B3 (J6 r.policy.order),B3 (J6 r.policy.credit)]:=rfl
 rw [hE]
 clear hE
 have h1:=E5 r.ship.fee (n:=900) (by decide)
 have h2:=E5 r.ship.free (n:=3) (by decide)
 have h3:=E5 r.policy.window (n:=60) (by decide)
 have h5:=E5 r.policy.mode (n:=3) (by decide)
 have h6:=E5 r.policy.restock (n:=3) (by decide)
 have h7:=E5 r.policy.restock (n:=2500) (by decide)
 have h8:C4 r.policy.restock 3 * C4 r.policy.restock 2500≤2 * 2499:=Int.mul_le_mul (by omega) (by omega) (by omega) (by omega)
 have h9:0≤C4 r.policy.restock 3 * C4 r.policy.restock 2500:=Int.mul_nonneg h6.1 h7.1
 have w1:IntKind.i64.wrap (C4 r.ship.free 3 * 4000)=C4 r.ship.free 3 * 4000:=B1 (by omega) (by omega)
 have w2:IntKind.i64.wrap (20+C4 r.policy.window 60)=20+C4 r.policy.window 60:=B1 (by omega) (by omega)
 have w3:IntKind.i64.wrap (1+C4 r.policy.mode 3)=1+C4 r.policy.mode 3:=B1 (by omega) (by omega)
 have w4:IntKind.i64.wrap (C4 r.policy.restock 3 * C4 r.policy.restock 2500)=C4 r.policy.restock 3 * C4 r.policy.restock 2500:=B1 (by omega) (by omega)
 have m1:=fun s=>L8 r.ship.fee 900 (by decide) (by decide) s
 have m2:=fun s=>L8 r.ship.free 3 (by decide) (by decide) s
 have m3:=fun s=>A0z r.policy.window 60 (by decide) (by decide) s
 have m4:=fun s=>A0z r.policy.grace 40 (by decide) (by decide) s
 have m5:=fun s=>A0z r.policy.mode 3 (by decide) (by decide) s
 have m6:=fun s=>L8 r.policy.restock 3 (by decide) (by decide) s
 have m7:=fun s=>L8 r.policy.restock 2500 (by decide) (by decide) s
 have c1:=fun s=>B4o r.items s
 have c2:=fun s=>B2K r.promos s
 have c3:∀ s,S P 74 [B0L r.tax] s fun v st'=>v=.agg [eB (K1 r.tax).incl,eB (K1 r.tax).byOrder,eI (K1 r.tax).round,A7 4 S8 (K1 r.tax).zones]∧st'=s:=fun s=>B8y r.tax s
 have c4:=fun s=>A8l r.policy.order s
 have c5:=fun s=>A8l r.policy.credit s
 clear h1 h2 h3 h5 h6 h7 h8 h9
 generalize C4 r.ship.fee 900=M1 at *
 generalize C4 r.ship.free 3=M2 at *
 generalize C4 r.policy.window 60=M3 at *
 generalize C4 r.policy.grace 40=M4 at *
 generalize C4 r.policy.mode 3=M5 at *
 generalize C4 r.policy.restock 3=M6 at *
 generalize C4 r.policy.restock 2500=M7 at *
 generalize N0 r.items=V1 at *
 generalize J9 r.promos=V2 at *
 generalize K1 r.tax=V3 at *
 generalize J6 r.policy.order=V4 at *
 generalize J6 r.policy.credit=V5 at *
 refine A2i ?_
 refine A4 [1,3] B7 mixed Tryz.func17 (by rfl) rfl rfl rfl ?_;conv=>whnf
 intro b2 hb;conv=>whnf
 refine ⟨[45],[],List.range 46,by kernel_rfl,?_⟩;conv=>whnf
 refine ⟨_,C6 (c1 _),?_⟩;conv=>whnf
 refine ⟨_,C6 (c2 _),?_⟩;conv=>whnf
 refine ⟨_,C6 (c3 _),?_⟩;conv=>whnf
 refine ⟨_,C6 (m1 _),?_⟩;conv=>whnf
 refine ⟨_,C6 (m2 _),?_⟩;conv=>whnf
 rw [w1]
 refine ⟨_,C6 (m3 _),?_⟩;conv=>whnf
 rw [w2]
 refine ⟨_,C6 (m4 _),?_⟩;conv=>whnf
 refine ⟨_,C6 (m5 _),?_⟩;conv=>whnf
 rw [w3]
 refine ⟨_,C6 (m6 _),?_⟩;conv=>whnf
 refine ⟨_,C6 (m7 _),?_⟩;conv=>whnf
 rw [w4]
 refine ⟨_,C6 (c4 _),?_⟩;conv=>whnf
 refine ⟨_,C6 (c5 _),?_⟩;conv=>whnf
 refine J7 (A0 ..) rfl (by omega) rfl (by rfl) ?_;conv=>whnf
 refine E8 (A0 ..) rfl (by omega) (A2 ..) ?_;conv=>whnf
 exact ⟨rfl,((E7.refl st).upd hb).over hb⟩
end Go.Proofs.YthdimklenlikgaaGreat
namespace Go.Proofs.YthdimklenlikgaaGreat
open Go Go.Ab
theorem B1B {p:B2} (h:H5 p=true):p.parts.length≤3∧p.tiers.length≤6:=by
 unfold H5 at h
 simp only [Bool.and_eq_true,decide_eq_true_eq] at h
 obtain ⟨⟨⟨⟨hk1,hk2⟩,hh⟩,hp⟩,hkd⟩:=h
 unfold A4N at hp
 unfold A4M A3Q V6 at hkd
 simp only [Bool.and_eq_true,Bool.or_eq_true,beq_iff_eq] at hp
 rcases (by omega:p.kind=1∨p.kind=2∨p.kind=3∨p.kind=4∨p.kind=5∨p.kind=6∨p.kind=7) with h | h | h | h | h | h | h
 all_goals (rw [h] at hkd;simp only [h] at hp;simp only [Int.reduceEq,if_true,if_false,Bool.and_eq_true,Bool.not_eq_true',Bool.or_eq_false_iff,decide_eq_false_iff_not] at hkd)
 all_goals (simp only [Int.reduceEq,false_or,true_or,or_true,or_false,and_true,true_and] at hp;omega)
theorem B4I {r:F1} (h:O1 r=true) (ho:r.policy.order.length≤100000) (hc:r.policy.credit.length≤100000):A6B r:=by
 unfold O1 at h
 simp only [Bool.and_eq_true] at h
 obtain ⟨⟨⟨⟨h1,h2⟩,h3⟩,h4⟩,h5⟩:=h
 have hp:=A0S h2
 unfold A0L at h1
 unfold A7r I8 at h3
 simp only [Bool.and_eq_true,Bool.not_eq_true',Bool.or_eq_false_iff,decide_eq_false_iff_not,List.all_eq_true,List.mem_range] at h1 h3
 refine ⟨by omega,by have:=hp.few;omega,fun p hm=>?_,fun p hm=>?_,fun p hm x hx=>?_,fun p hm=>?_,by omega,fun z hz=>?_,ho,hc⟩
 ·have:=A0j (hp.right p hm);exact ⟨by have:=this.skus;omega,by have:=this.cats;omega⟩
 ·have:=B1B (hp.right p hm);omega
 ·have hC:=hp.right p hm
  have hK:=A0j hC
  have h4:p.kind=4:=by
   unfold H5 at hC
   simp only [Bool.and_eq_true] at hC
   have hpl:=hC.1.2
   unfold A4N at hpl
   simp only [Bool.and_eq_true,Bool.or_eq_true,beq_iff_eq] at hpl
   have:p.parts.length≠0:=by intro e;rw [List.length_eq_zero_iff.1 e] at hx;cases hx
   omega
  have:=(hK.bun h4).2 x hx
  exact ⟨by omega,by omega⟩
 ·have:=B1B (hp.right p hm);omega
 ·obtain ⟨k,hk,rfl⟩:=F2 hz
  have:=h3.2.1 k hk
  unfold Z5 at this
  simp only [Bool.and_eq_true,Bool.not_eq_true',Bool.or_eq_false_iff,decide_eq_false_iff_not] at this
  omega
end Go.Proofs.YthdimklenlikgaaGreat
namespace Go.Proofs.YthdimklenlikgaaGreat
open Go Go.Ab
attribute [local irreducible] upd del
def akR:F1:=⟨[⟨⟨#[97]⟩,⟨#[120]⟩,15,false⟩],[],C8B,⟨0,0⟩,⟨0,0,1,0,[],[]⟩⟩
def akX:F0:=⟨⟨#[97]⟩,2,15⟩
theorem B9r:A0b akR:=by
 refine ⟨by decide,fun p hp=>?_,by decide,by decide⟩
 cases hp
theorem B9t:O1 akR=true:=by kernel_rfl
theorem B9q:R7 []=true:=by kernel_rfl
theorem B9u:A0s (P9 akR []) 0 akX=0:=by kernel_rfl
theorem B9p:E0 akR [] [akX]=0:=by kernel_rfl
theorem B9s:U9 akR [akX] [] []=⟨[30],30,0,[]⟩:=by kernel_rfl
theorem C3T:A6B akR:=by
 refine ⟨by decide,by decide,fun p hp=>?_,fun p hp=>?_,fun p hp=>?_,fun p hp=>?_,by decide,fun z hz=>?_,by decide,by decide⟩
 all_goals first | (cases hp) | (cases hz)
theorem B7L (st:St):S P 20 [H9 akR,D3 [],A7 3 D4 [akX]] st fun v st'=>v=.tuple [X2 ⟨[30],30,0,[]⟩,eI 0]∧st'=st :=
 (price_S A7p akR [] [akX] B9r (by decide) (by decide) (by decide) st).mono fun v s hv=>by
  obtain ⟨hv,rfl⟩:=hv
  refine ⟨?_,rfl⟩
  rcases hv with ⟨h,_⟩ | ⟨_,o1,o2,h1,h2,h3⟩
  ·exact absurd B9p h
  ·have e1:L5 akR.promos o1=[]:=List.perm_nil.1 ((A7U [] o1).trans h1.1)
   have e2:L5 akR.promos o2=[]:=List.perm_nil.1 ((A7U [] o2).trans h2.1)
   rw [e1,e2,B9s] at h3
   exact h3
theorem B1g (st:St):S P 24 [] st fun v st'=>v=.bool true∧st'=st:=by
 refine A2i ?_
 refine A4 [1] B7 mixed Tryz.func24 (by rfl) rfl rfl rfl ?_;conv=>whnf
 have hnew:=B1m A7p akR [] B9r (by decide) (by decide) (fun _=>C3T) st
 refine I5 ?_ (call hnew (fun v u hv=>?_))
 ·refine A9.cons (Le.shift (Le.agg ?_) _) (Le.shift (Le.emp _ _) _)
  repeat' first | exact F6.nil | refine F6.cons ?_ ?_ | exact Le.refl _ | exact Le.emp _ _ | refine Le.arr1 ?_ rfl
 rcases hv with ⟨h,_⟩ | ⟨_,h,_⟩ | ⟨_,_,bd,rfl,hD⟩
 ·rw [B9t] at h;cases h
 ·rw [B9q] at h;cases h
 have hok:A8X (P9 akR []):=B3L [] (by kernel_rfl) (by decide)
 have hset:=B1n bd (P9 akR []) 0 akX hok st u hD
 rw [B9u] at hset
 have e:A7V (P9 akR []) 0 akX=A4k (P9 akR []) 0 akX:=if_pos B9u
 rw [e] at hset;conv=>whnf
 refine call hset (fun v u2 hv=>?_)
 obtain ⟨rfl,hD2⟩:=hv
 conv=>whnf
 refine A5 (A6Q bd _ ⟨[30],30,0,[]⟩ 0 (fun u=>B7L u) st u2 hD2) ?_;conv=>whnf
 refine A5 (A8g bd _ (by decide) st u2 hD2) ?_;conv=>whnf
 exact ⟨rfl,(A3G ..).sup hD2⟩
theorem B7X (x:F0) (st:St):S P 112 [D4 x,D4 x] st fun v st'=>v=.bool true∧st'=st:=by
 refine A4 [2,3] B7 mixed Tryz.func112 (by rfl) rfl rfl rfl ?_;conv=>whnf
 refine ⟨?_,rfl⟩
 show AV.bool ((x.sku.toList==x.sku.toList)&&((x.qty==x.qty)&&((x.price==x.price)&&true)))=AV.bool true
 simp only [beq_self_eq_true,Bool.and_true]
theorem B4O (l:List F0) (hl:Sm l.length) (st:St):S P 111 [A7 3 (D4) l,A7 3 (D4) l,.fn (.func 112) [] []] st fun v st'=>v=.bool true∧st'=st:=by
 refine A4 [] B7 mixed Tryz.func111 (by rfl) rfl rfl rfl ?_;conv=>whnf
 rw [show ((l.length:Int) != (l.length:Int))=false from bne_self_eq_false _];conv=>whnf
 refine lp l.length [0,1,2,7] (fun i vs s=>vs=[A7 3 (D4) l,A7 3 (D4) l,.fn (.func 112) [] [],eI i]∧s=st) ?_ ?_
 ·conv=>whnf
  exact ⟨rfl,rfl⟩
 ·rintro i vs s hi ⟨rfl,rfl⟩
  conv=>whnf
  cases h:decide ((i:Int)<(l.length:Int))
  ·obtain rfl:=D1 h hi
   conv=>whnf
   exact ⟨rfl,rfl⟩
  ·have hi':=F5 h
   conv=>whnf
   refine ⟨[],[],List.range 11,by kernel_rfl,?_⟩;conv=>whnf
   refine ⟨rfl,⟨by omega,by omega⟩,?_⟩;conv=>whnf
   refine ⟨rfl,⟨by omega,by omega⟩,?_⟩;conv=>whnf
   refine ⟨_,C6 (B7X _ _),?_⟩;conv=>whnf
   refine ⟨rfl,?_⟩;conv=>whnf
   exact nx hi' ⟨by rw [B9 (by omega)],rfl⟩
theorem B2E (l:List F0) (hl:Sm l.length) (st:St):S P 30 [A7 3 D4 l,A7 3 D4 l] st fun v st'=>v=.bool true∧st'=st:=by
 refine A4 [] B7 mixed Tryz.func30 (by rfl) rfl rfl rfl ?_;conv=>whnf
 refine A5 (B4O l hl _) ?_;conv=>whnf
 exact ⟨rfl,rfl⟩
theorem B7W (x:Int) (st:St):S P 203 [eI x,eI x] st fun v st'=>v=.bool true∧st'=st:=by
 refine A4 [] B7 mixed Tryz.func203 (by rfl) rfl rfl rfl ?_;conv=>whnf
 refine ⟨?_,rfl⟩
 show AV.bool (x==x)=_
 rw [beq_self_eq_true]
theorem B4N (l:List Int) (hl:Sm l.length) (st:St):S P 202 [A7 1 (eI) l,A7 1 (eI) l,.fn (.func 203) [] []] st fun v st'=>v=.bool true∧st'=st:=by
 refine A4 [] B7 mixed Tryz.func202 (by rfl) rfl rfl rfl ?_;conv=>whnf
 rw [show ((l.length:Int) != (l.length:Int))=false from bne_self_eq_false _];conv=>whnf
 refine lp l.length [0,1,2,7] (fun i vs s=>vs=[A7 1 (eI) l,A7 1 (eI) l,.fn (.func 203) [] [],eI i]∧s=st) ?_ ?_
 ·conv=>whnf
  exact ⟨rfl,rfl⟩
 ·rintro i vs s hi ⟨rfl,rfl⟩
  conv=>whnf
  cases h:decide ((i:Int)<(l.length:Int))
  ·obtain rfl:=D1 h hi
   conv=>whnf
   exact ⟨rfl,rfl⟩
  ·have hi':=F5 h
   conv=>whnf
   refine ⟨[],[],List.range 11,by kernel_rfl,?_⟩;conv=>whnf
   refine ⟨rfl,⟨by omega,by omega⟩,?_⟩;conv=>whnf
   refine ⟨rfl,⟨by omega,by omega⟩,?_⟩;conv=>whnf
   refine ⟨_,C6 (B7W _ _),?_⟩;conv=>whnf
   refine ⟨rfl,?_⟩;conv=>whnf
   exact nx hi' ⟨by rw [B9 (by omega)],rfl⟩
theorem B2D (l:List Int) (hl:Sm l.length) (st:St):S P 114 [A7 1 eI l,A7 1 eI l] st fun v st'=>v=.bool true∧st'=st:=by
 refine A4 [] B7 mixed Tryz.func114 (by rfl) rfl rfl rfl ?_;conv=>whnf
 refine A5 (B4N l hl _) ?_;conv=>whnf
 exact ⟨rfl,rfl⟩
theorem B4P (l:List (List Int)) (hl:Sm l.length) (hs:∀ x∈l,Sm x.length) (st:St):S P 113 [A7 1 (B3) l,A7 1 (B3) l,.fn (.func 114) [] []] st fun v st'=>v=.bool true∧st'=st:=by
 refine A4 [] B7 mixed Tryz.func113 (by rfl) rfl rfl rfl ?_;conv=>whnf
 rw [show ((l.length:Int) != (l.length:Int))=false from bne_self_eq_false _];conv=>whnf
 refine lp l.length [0,1,2,7] (fun i vs s=>vs=[A7 1 (B3) l,A7 1 (B3) l,.fn (.func 114) [] [],eI i]∧s=st) ?_ ?_
 ·conv=>whnf
  exact ⟨rfl,rfl⟩
 ·rintro i vs s hi ⟨rfl,rfl⟩
  conv=>whnf
  cases h:decide ((i:Int)<(l.length:Int))
  ·obtain rfl:=D1 h hi
   conv=>whnf
   exact ⟨rfl,rfl⟩
  ·have hi':=F5 h
   conv=>whnf
   refine ⟨[],[],List.range 11,by kernel_rfl,?_⟩;conv=>whnf
   refine ⟨rfl,⟨by omega,by omega⟩,?_⟩;conv=>whnf
   refine ⟨rfl,⟨by omega,by omega⟩,?_⟩;conv=>whnf
   refine ⟨_,C6 (B2D _ (hs _ (B4 hi')) _),?_⟩;conv=>whnf
   refine ⟨rfl,?_⟩;conv=>whnf
   exact nx hi' ⟨by rw [B9 (by omega)],rfl⟩
theorem B2F (l:List (List Int)) (hl:Sm l.length) (hs:∀ x∈l,Sm x.length) (st:St):S P 33 [A7 1 B3 l,A7 1 B3 l] st fun v st'=>v=.bool true∧st'=st:=by
 refine A4 [] B7 mixed Tryz.func33 (by rfl) rfl rfl rfl ?_;conv=>whnf
 refine A5 (B4P l hl hs _) ?_;conv=>whnf
 exact ⟨rfl,rfl⟩
theorem A5Y.price {R:F1} {C:List D8} {d:V7} (hOk:A2O R C []) (h:A5Y R C d) :
  (∀ u,S P 20 [H9 R,D3 C,A7 3 D4 d.lines] u fun v s=>v=.tuple [X2 (A1H R C d.lines),eI 0]∧s=u) ∧
  (∀ u,S P 21 [H9 R,D3 C,A7 3 D4 d.lines] u fun v s=>v=.tuple [X2 (A1H R C d.lines),eI 0]∧s=u) ∧
  (A1H R C d.lines).nets.length≤1000∧(A1H R C d.lines).deals.length≤12:=by
 have hce:G7 (known R.items) d.lines=0:=by
  rcases h.lines with e | e
  ·rw [e];rfl
  ·exact e
 have hck:E0 R C d.lines=0:=by
  unfold E0
  rw [if_neg (by rw [hOk.right];simp),if_neg (by rw [hOk.codes];simp)]
  exact hce
 obtain ⟨xs,ys,hl⟩:=B1A hOk.fit hck
 have hln:=h.ok.lines
 refine ⟨fun u=>B4w hck hOk.fit hOk.promosC hOk.few hOk.items hOk.ncodes u,fun u=>?_,by show (U9 _ _ _ _).nets.length≤_;rw [hl.len];exact hln,C2p hl hOk.few⟩
 exact (C0E R C d.lines hOk.fit hOk.sm hOk.right (by have:=hOk.ncodes;show C.length≤4611686018427387904;omega) (fun s hs=>by have:=hOk.scodes s hs;show s.size≤4611686018427387904;omega) (by show d.lines.length≤4611686018427387904;omega) u).mono fun v s ⟨hv,hs⟩=>by
  rw [if_pos hck] at hv
  exact ⟨hv,hs⟩
set_option maxHeartbeats 8000000 in
theorem B3M (r:F1) (codes:List D8) (l:List C1K) (st:St):S P 4 [H9 r,D3 codes,A7 5 eTurn l] st fun v st'=>v=.bool true:=by
 have hOk:=C4u r codes []
 have hord:(W7 r).policy.order.length≤100000∧(W7 r).policy.credit.length≤100000:=by
  have h1:=(R3 r.policy.order).2
  have h2:=(R3 r.policy.credit).2
  exact ⟨by show (J6 _).length≤_;omega,by show (J6 _).length≤_;omega⟩
 have cR:=fun s=>B4s r s
 have cC:=fun s=>B4m codes s
 rw [show P0 []=[] from rfl] at hOk
 generalize W7 r=R at hOk cR hord
 generalize A0B codes=C at hOk cC
 have hRf:=B4I hOk.right hord.1 hord.2
 have hpC:=hOk.promosC
 have hit:=hOk.items
 have hpl:=hOk.few
 have hnc:=hOk.ncodes
 have fw:=fun s=>C5h r s
 generalize C4c r=FW at fw
 refine A5Z [12] B7 mixed Tryz.func4 (by rfl) rfl rfl rfl ?_;conv=>whnf
 intro b3 hb3;conv=>whnf
 refine E8 (A0 ..) rfl (by omega) rfl ?_;conv=>whnf
 refine A5 (fw _) ?_;conv=>whnf
 cases FW
 case' true =>
  conv=>whnf
  refine C2 (fun h2=>?_) (fun h2=>?_)<;>rw [h2]
 case' true.refine_2 =>
  conv=>whnf
  refine C2 (fun h3=>?_) (fun h3=>?_)<;>rw [h3]
 case true.refine_2.refine_2 =>
  have hll:l.length≤30:=by have:=of_decide_eq_false h3;omega
  conv=>whnf
  refine E8 (A0 ..) rfl (by omega) rfl ?_;conv=>whnf
  refine A5 (cR _) ?_;conv=>whnf
  refine A5 (cC _) ?_;conv=>whnf
  refine J7 (A0 ..) rfl (by omega) rfl (by rfl) ?_
  rw [B6];conv=>whnf
  generalize hst:(upd st b3 _:St)=S0
  obtain ⟨f3,at3,hf3⟩:∃ f3:Nat→AV,S0 b3=some ⟨33,14,1,f3⟩∧f3 0=H9 R:=by
   rw [←hst];exact ⟨_,A0 ..,by rw [A2];rfl⟩
  clear hst
  refine E8 at3 rfl (by omega) hf3 ?_;conv=>whnf
  refine call (B1m A7p R C hOk.fit (by show C.length≤9223372036854775807;omega) (by have:=P3 R.promos C R.promos.length;omega) (fun _=>hRf) S0) (fun v u hv=>?_)
  rcases hv with ⟨h,_⟩ | ⟨_,h,_⟩ | ⟨_,_,bd,rfl,hD⟩
  ·rw [hOk.right] at h;cases h
  ·rw [hOk.codes] at h;cases h
  conv=>whnf
  refine A5 (B1g _) ?_;conv=>whnf
  refine lp l.length [1,2,3,7,9,10] (fun i vs w=>∃ d mv,vs=[D3 C,A7 5 eTurn l,.optr 14 b3 0 0,.optr 19 bd 0 0,mv,eI i]∧A5Y R C d∧((mv=.emp∧d.lines=[])∨mv=A7 3 D4 d.lines)∧A2g bd d S0 w) ?_ ?_
  ·conv=>whnf
   exact ⟨P9 R C,.emp,rfl,B9N C hpC (by omega),.inl ⟨rfl,rfl⟩,hD⟩
  clear hD
  rintro i vs w hi ⟨d,mv,rfl,hd,hmv,hD⟩
  have hsh:∀ u,A9 [mv] u [A7 3 D4 d.lines] u:=fun u=>by
   rcases hmv with ⟨rfl,h0⟩ | rfl
   ·rw [h0];exact I6 3 _
   ·exact A9.refl _ _
  have atw:=((A3G ..).sup hD) b3 _ at3
  have hln:=hd.ok.lines
  conv=>whnf
  cases h1:decide ((i:Int)<(l.length:Int))
  case false =>
   conv=>whnf
   rfl
  have hi':=F5 h1
  obtain ⟨t,ht⟩:∃ t,t=l.getD (i:Int).toNat default:=⟨_,rfl⟩
  have cN:=fun u=>C4l t u
  conv=>whnf
  refine ⟨rfl,⟨by omega,by omega⟩,?_⟩;conv=>whnf
  refine ⟨rfl,⟨by omega,by omega⟩,?_⟩;conv=>whnf
  rw [←ht]
  rcases hmv with ⟨rfl,h0⟩ | rfl
  all_goals
   cases hraw:t.raw
  case' inl.false | inr.false =>
   conv=>whnf
   rw [B1 (by omega) (by omega)]
   refine A5 (A0z t.at' _ (by split<;>omega) (by split<;>omega) _) ?_;conv=>whnf
   generalize C4 t.at' _=A
  case' inl.true | inr.true =>
   conv=>whnf
   obtain ⟨A,hA⟩:∃ A:Int,A=t.at':=⟨_,rfl⟩
  all_goals
   refine ⟨rfl,⟨by omega,by omega⟩,?_⟩;conv=>whnf
   rw [←ht]
   refine A5 (cN _) ?_;conv=>whnf
   refine E8 atw rfl (by omega) hf3 ?_;conv=>whnf
   try rw [←hA]
   obtain ⟨hd2,he2,hl2⟩:=hd.set A (A9F t)
   refine A5 ((C0b R d.lines A (A9F t) hln (by omega) _).pre (A9.cons (A9.keep [H9 R] _) (A9.cons (hsh _) (A9.keep _ _)))) ?_
   rw [←he2,←hl2]
   have hset:=B1n bd d A (A9F t) hd.ok S0 w hD
   generalize A7V d A (A9F t)=d2 at hd2 hl2 hset ⊢
   generalize A0s d A (A9F t)=E at he2 hset ⊢
   conv=>whnf
   refine call hset (fun v w2 hv=>?_)
   obtain ⟨rfl,hD2⟩:=hv
   have hln2:=hd2.ok.lines
   have atw2:=((A3G ..).sup hD2) b3 _ at3
   have hno2:=hd2.ok.nopens
   obtain ⟨p1,p2,m1,m2⟩:=hd2.price hOk
   have hop:∀ x∈d2.opens,x.length≤60:=fun x hx=>by
    rw [hd2.opens] at hx
    obtain ⟨y,_,rfl⟩:=List.mem_map.1 hx
    exact Nat.le_trans (B1t ..) (by omega)
   conv=>whnf
   rw [show (E != E)=false from bne_self_eq_false _];conv=>whnf
   refine A5 (A8g bd d2 hln2 S0 w2 hD2) ?_;conv=>whnf
   refine A5 (B2E d2.lines (by show d2.lines.length≤4611686018427387904;omega) _) ?_;conv=>whnf
   cases h5:((i:Int).tmod 3==0)
   case' false =>
    conv=>whnf
    refine C2 (fun h6=>?_) (fun h6=>?_)<;>rw [h6]
   case refine_2 =>
    conv=>whnf
    refine ⟨rfl,?_⟩;conv=>whnf
    exact nx hi' ⟨d2,_,by rw [B9 (by omega)],hd2,.inr rfl,hD2⟩
   all_goals
    conv=>whnf
    refine E8 atw2 rfl (by omega) hf3 ?_;conv=>whnf
    refine A5 (p2 _) ?_;conv=>whnf
    intro b16 hb16
    have h16:bd≠b16:=fun e=>by
     obtain ⟨_,_,h7,_⟩:=hD2.at
     subst e;rw [h7] at hb16;cases hb16
    have h316:b3≠b16:=fun e=>by subst e;rw [atw2] at hb16;cases hb16
    conv=>whnf
    refine J7 (A0 ..) rfl (by omega) rfl (by rfl) ?_
    rw [B6];conv=>whnf
    generalize hT:(upd w2 b16 _:St)=T3
    obtain ⟨f16,at16,hf16⟩:∃ f16:Nat→AV,T3 b16=some ⟨44,4,1,f16⟩∧f16 0=X2 (A1H R C d2.lines):=by
     rw [←hT];exact ⟨_,A0 ..,by rw [A2];rfl⟩
    have hD3:A2g bd d2 S0 T3:=hD2.more (by rw [←hT];exact (E7.refl w2).upd hb16)
    have at33:T3 b3=some ⟨33,14,1,f3⟩:=by rw [←hT,A8 h316];exact atw2
    clear hT
    have q1:=A6Q bd d2 (A1H R C d2.lines) 0 (fun u=>by rw [hd2.rules,hd2.code];exact p1 u) S0 T3 hD3
    have q2:=B2V (A1H R C d2.lines) (by show _≤4611686018427387904;omega) (by show _≤4611686018427387904;omega) T3
    have q3:=B5A bd d2 (by omega) (fun x hx=>by have:=hop x hx;omega) S0 T3 hD3
    have q4:=B8i R C d2.lines hpC (by show C.length≤4611686018427387904;omega) (by omega) hln2 (fun x hx=>by
     rcases hd2.lines with e | e
     ·rw [e] at hx;cases hx
     ·exact (A6Y e).known x hx) T3
    rw [←hd2.opens] at q4
    have q5:=B2F d2.opens (by show d2.opens.length≤4611686018427387904;omega) (fun x hx=>by have:=hop x hx;show x.length≤4611686018427387904;omega) T3
    refine .inl ⟨[],[],List.range 15,by kernel_rfl,?_⟩;conv=>whnf
    refine ⟨_,C6 q1,?_⟩;conv=>whnf
    refine E8 at16 rfl (by omega) hf16 ?_;conv=>whnf
    refine ⟨_,C6 q2,?_⟩;conv=>whnf
    refine ⟨_,C6 q3,?_⟩;conv=>whnf
    refine E8 at33 rfl (by omega) hf3 ?_;conv=>whnf
    refine ⟨_,C6 q4,?_⟩;conv=>whnf
    refine ⟨_,C6 q5,?_⟩;conv=>whnf
    refine ⟨rfl,?_⟩;conv=>whnf
    exact nx hi' ⟨d2,_,by rw [B9 (by omega)],hd2,.inr rfl,hD3⟩
 all_goals
  conv=>whnf
  refine A5 (B1g _) ?_;conv=>whnf
  exact rfl
end Go.Proofs.YthdimklenlikgaaGreat
namespace Go.Ab
open Go Go.ChangeShapes
inductive LK where
 | bool
 | int (k:IntKind)
 | str
 | sl (ks:List LK)
def B1d (l:List AV):AV:=match l with | [v]=>v | l=>.agg l
inductive Fit:LK→AV→Prop
 | bool (b:Bool):Fit .bool (.bool b)
 | int (k:IntKind) (n:Int) (h:(Lit.int k n).wf=true):Fit (.int k) (.int k n)
 | str (s:ByteArray) (h:s.size≤maxLen):Fit .str (.str s)
 | sl (ks:List LK) (n:Nat) (L:Nat→List AV) (hn:n≤maxLen) (hl:∀ i,i<n→(L i).length=ks.length) (hf:∀ (i j:Nat) (y:AV) (k:LK),i<n→(L i)[j]?=some y→ks[j]?=some k→Fit k y):Fit (.sl ks) (.arr ks.length n fun i=>B1d (L i))
theorem Fit.one {k:LK} {v:AV} (h:Fit k v):v.one=true:=by cases h<;>rfl
theorem B7P {v:AV} (h:v.one=true):cellsOf v=[v]:=by cases v<;>first | rfl | cases h
theorem B1i {l:List AV} (h:∀ v∈l,v.one=true):cellsOf (B1d l)=l:=by
 unfold B1d
 split
 ·exact B7P (h _ (List.mem_singleton.2 rfl))
 ·rfl
theorem B9o (a:Addr) (n m:Nat):a.add (n+m)=(a.add n).add m:=by
 unfold Addr.add
 by_cases h:n=0
 ·subst h;simp
 ·by_cases k:m=0
  ·subst k;simp [h]
  ·simp [h,k,Nat.add_assoc]
def A8M (P:Program) (r:TypeId→Option (List LK)):List Field→Nat→Option (List LK)
 | [],_=>some []
 | f::fs,o=>match Nat.beq f.offset o,r f.type with
  | true,some ks=>(match Nat.beq (P.cellsOf f.type) ks.length,A8M P r fs (o+ks.length) with
   | true,some l=>some (ks++l)
   | _,_=>none)
  | _,_=>none
def A5t (P:Program):Nat→TypeId→Option (List LK)
 | 0,_=>none
 | n+1,t=>match P.underlying t with
  | some .bool=>some [.bool]
  | some (.int k)=>some [.int k]
  | some .string=>some [.str]
  | some (.slice e)=>(match A5t P n e with
   | some ks=>(match Nat.beq (P.cellsOf e) ks.length with | true=>some [.sl ks] | false=>none)
   | none=>none)
  | some (.struct fs)=>(match A8M P (A5t P n) fs.toList 0 with
   | some ks=>(match Nat.beq (P.cellsOf t) ks.length with | true=>some ks | false=>none)
   | none=>none)
  | _=>none
structure FitL (w:World) (ks:List LK) (l:List AV) (cs:List Value):Prop where
 len:l.length=ks.length
 clen:cs.length=ks.length
 fit:∀ (j:Nat) (y:AV) (k:LK),l[j]?=some y→ks[j]?=some k→Fit k y
 rep:∀ (j:Nat) (y:AV) (c:Value),l[j]?=some y→cs[j]?=some c→J2 w st0 y c
theorem FitL.one {w:World} {ks:List LK} {l:List AV} {cs:List Value} (h:FitL w ks l cs):∀ v∈l,v.one=true:=fun v hv=>by
 obtain ⟨j,hj,rfl⟩:=List.getElem_of_mem hv
 exact (h.fit j _ (ks[j]'(by rw [←h.len];exact hj)) (List.getElem?_eq_getElem hj) (List.getElem?_eq_getElem (by rw [←h.len];exact hj))).one
theorem FitL.nil (w:World):FitL w [] [] []:=⟨rfl,rfl,fun j y k h=>by simp at h,fun j y c h=>by simp at h⟩
theorem FitL.app {w:World} {ks ks':List LK} {l l':List AV} {cs cs':List Value} (h:FitL w ks l cs) (h':FitL w ks' l' cs'):FitL w (ks++ks') (l++l') (cs++cs'):=by
 have h1:=h.len;have h2:=h.clen;have h3:=h'.len;have h4:=h'.clen
 refine ⟨by simp [h1,h3],by simp [h2,h4],fun j y k hy hk=>?_,fun j y c hy hc=>?_⟩
 ·by_cases hj:j<l.length
  ·rw [List.getElem?_append_left hj] at hy;rw [List.getElem?_append_left (by omega)] at hk;exact h.fit j y k hy hk
  ·rw [List.getElem?_append_right (by omega)] at hy;rw [List.getElem?_append_right (by omega)] at hk
   rw [show j - l.length=j - ks.length by omega] at hy;exact h'.fit _ y k hy hk
 ·by_cases hj:j<l.length
  ·rw [List.getElem?_append_left hj] at hy;rw [List.getElem?_append_left (by omega)] at hc;exact h.rep j y c hy hc
  ·rw [List.getElem?_append_right (by omega)] at hy;rw [List.getElem?_append_right (by omega)] at hc
   rw [show j - l.length=j - cs.length by omega] at hy;exact h'.rep _ y c hy hc
theorem FitL.single {w:World} {k:LK} {v:AV} {c:Value} (h:Fit k v) (hr:J2 w st0 v c):FitL w [k] [v] [c] :=
 ⟨rfl,rfl,fun j y k' hy hk=>by cases j<;>simp at hy hk;subst hy;subst hk;exact h,fun j y c' hy hc=>by cases j<;>simp at hy hc;subst hy;subst hc;exact hr⟩
section
variable {H:Type} {enc:TypeId×Value→H} {P:Program} {w:World} {base:Nat} {spare:Nat→Bool} {held:Bool}
theorem A8k {n m:Nat} (ih:∀ (t:TypeId) (ks:List LK) (cs:List Value) (x:DataW H×List MemPlace),A5t P n t=some ks→DataW.trod enc P w base spare held m t cs=some x→∃ l,FitL w ks l cs) {cs:List Value} :
  ∀ (fs:List Field) (o:Nat) (ks:List LK),A8M P (A5t P n) fs o=some ks→(∀ f∈fs,∃ x,DataW.trod enc P w base spare held m f.type ((cs.drop f.offset).take (P.cellsOf f.type))=some x)→∃ l,FitL w ks l ((cs.drop o).take ks.length)
 | [],o,ks,h,_=>by cases h;exact ⟨[],by simpa using FitL.nil w⟩
 | f::fs,o,ks,h,hx=>by
  unfold A8M at h
  split at h
  ·rename_i k1 ho hk1
   split at h
   ·rename_i k2 hc hk2
    cases h
    have ho:=Nat.eq_of_beq_eq_true ho
    have hc:=Nat.eq_of_beq_eq_true hc
    obtain ⟨x,h1⟩:=hx f (List.mem_cons_self ..)
    rw [ho,hc] at h1
    obtain ⟨l1,g1⟩:=ih f.type k1 _ x hk1 h1
    obtain ⟨l2,g2⟩:=A8k ih fs (o+k1.length) k2 hk2 fun f' hf=>hx f' (List.mem_cons_of_mem _ hf)
    refine ⟨l1++l2,?_⟩
    have e:(cs.drop o).take (k1++k2).length=(cs.drop o).take k1.length++(cs.drop (o+k1.length)).take k2.length:=by
     rw [List.length_append,List.take_add,List.drop_drop]
    rw [e];exact g1.app g2
   ·cases h
  ·cases h
theorem open_kinds:∀ (n m:Nat) (t:TypeId) (ks:List LK) (cs:List Value) (x:DataW H×List MemPlace),A5t P n t=some ks→DataW.trod enc P w base spare held m t cs=some x→∃ l,FitL w ks l cs
 | 0,m,t,ks,cs,x,h,_=>by cases h
 | n+1,m,t,ks,cs,x,h,hx=>by
  unfold A5t at h
  split at h
  ·rename_i ht;cases h;obtain ⟨b,rfl,_⟩:=DataW.trod_bool ht hx;exact ⟨[.bool b],.single (.bool b) (.bool b)⟩
  ·rename_i k ht;cases h;obtain ⟨i,rfl,_,hw⟩:=DataW.trod_int ht hx;exact ⟨[.int k i],.single (.int k i hw) (.int k i)⟩
  ·rename_i ht;cases h;obtain ⟨s,rfl,_,hs⟩:=DataW.trod_string ht hx;exact ⟨[.str s],.single (.str s hs) (.str s)⟩
  ·rename_i e ht
   split at h
   case h_2=>cases h
   rename_i ks' hk
   split at h
   case h_2=>cases h
   rename_i hb
   cases h
   have hb:=Nat.eq_of_beq_eq_true hb
   rcases DataW.trod_slice ht hx with ⟨rfl,_⟩ | ⟨a,len,cap,elems,rest,m',rfl,rfl,_,hba,hl,hm,hlen,hel,_,_⟩
   ·exact ⟨[.arr ks'.length 0 (fun _=>B1d [])],.single (.sl ks' 0 (fun _=>[]) (Nat.zero_le _) (fun i hi=>absurd hi (by omega)) (fun i j y k hi=>absurd hi (by omega))) (.arr _ 0 _ none 0 (fun _ _=>undef) (Nat.le_refl _) (fun h=>absurd h (by omega)) (fun i hi=>absurd hi (by omega)) (fun i hi=>absurd hi (by omega)) (fun a ha=>by cases ha) (fun i j y hi=>absurd hi (by omega)))⟩
   ·have hall:∀ i,∃ p:List AV×List Value,i<len→w.cells? base (a.add (i * P.cellsOf e)) (P.cellsOf e)=some p.2∧FitL w ks' p.1 p.2:=fun i=>by
     by_cases hi:i<len
     ·have h1:=hel i hi
      rw [List.getElem?_eq_getElem (by omega),Option.bind_eq_some_iff] at h1
      obtain ⟨c1,h2,h3⟩:=h1
      obtain ⟨l,h4⟩:=open_kinds n m' e ks' c1 _ hk h3
      exact ⟨(l,c1),fun _=>⟨h2,h4⟩⟩
     ·exact ⟨([],[]),fun h=>absurd h hi⟩
    obtain ⟨p,hp⟩:=Classical.axiomOfChoice hall
    refine ⟨[.arr ks'.length len (fun i=>B1d (p i).1)],.single (.sl ks' len (fun i=>(p i).1) (by omega) (fun i hi=>(hp i hi).2.len) (fun i j y k hi=>(hp i hi).2.fit j y k)) ?_⟩
    have hc:∀ i,i<len→cellsOf (B1d (p i).1)=(p i).1:=fun i hi=>B1i (hp i hi).2.one
    refine .arr _ len _ (some a) cap (fun i j=>(p i).2.getD j undef) hl (fun _=>⟨a,rfl⟩) (fun i hi=>by rw [hc i hi];exact (hp i hi).2.len) (fun i hi=>by rw [hc i hi];exact List.all_eq_true.2 (hp i hi).2.one) (fun b hb' i j hi hj=>?_) (fun i j y hi hy=>?_)
    ·cases hb'
     have h5:=(World.cells?_some (hp i hi).1)
     have h6:=h5.2.2 j (by omega)
     have hj2:j<(p i).2.length:=by rw [(hp i hi).2.clen];exact hj
     show w.cell? _=_
     rw [List.getD_eq_getElem?_getD,List.getElem?_eq_getElem hj2,Option.getD_some]
     rw [List.getElem?_eq_getElem hj2] at h6
     rw [←h6,hb];show w.cell? _=w.cell? _;rw [B9o]
    ·rw [hc i hi] at hy
     have hj:j<(p i).1.length:=(List.getElem?_eq_some_iff.1 hy).1
     have hj2:j<(p i).2.length:=by rw [(hp i hi).2.clen,←(hp i hi).2.len];exact hj
     rw [List.getD_eq_getElem?_getD,List.getElem?_eq_getElem hj2,Option.getD_some]
     exact (hp i hi).2.rep j y _ hy (List.getElem?_eq_getElem hj2)
  ·rename_i fs ht
   split at h
   case h_2=>cases h
   rename_i ks' hk
   split at h
   case h_2=>cases h
   rename_i hb
   cases h
   have hb:=Nat.eq_of_beq_eq_true hb
   obtain ⟨xs,m',rfl,_,hlen,hxl,hf⟩:=DataW.trod_struct ht hx
   obtain ⟨l,hl⟩:=A8k (fun t ks cs x=>open_kinds n m' t ks cs x) (cs:=cs) fs.toList 0 ks hk fun f hfm=>by
    obtain ⟨i,hi,rfl⟩:=List.getElem_of_mem hfm
    have:=hf i fs[i] (by simp at hi;simp [hi])
    rw [List.getElem?_eq_getElem (by simp at hi;omega)] at this
    exact ⟨_,by simpa using this⟩
   refine ⟨l,?_⟩
   rw [List.drop_zero,List.take_of_length_le (by omega)] at hl
   exact hl
  ·cases h
end
end Go.Ab
namespace Go.Ab
open Go
abbrev A4q (ks:List LK) (L:List AV):Prop:=L.length=ks.length∧∀ (j:Nat) (y:AV) (k:LK),L[j]?=some y→ks[j]?=some k→Fit k y
abbrev A8y {α : Type} (ks:List LK) (enc : α→AV) (Q : α→Prop):Prop:=∀ L:List AV,A4q ks L→∃ x,F6 L (cellsOf (enc x))∧(cellsOf (enc x)).all AV.one=true∧Q x
theorem Fit.inv_str {y:AV} (h:Fit .str y):∃ s:D8,y=eS s∧s.size≤maxLen:=by cases h with | str s hs=>exact ⟨s,rfl,hs⟩
theorem Fit.inv_int {y:AV} (h:Fit (.int .i64) y):∃ n:Int,y=eI n∧(Lit.int .i64 n).wf=true:=by cases h with | int k n hn=>exact ⟨n,rfl,hn⟩
theorem Fit.inv_bool {y:AV} (h:Fit .bool y):∃ b:Bool,y=eB b:=by cases h with | bool b=>exact ⟨b,rfl⟩
theorem Fit.inv_sl {α : Type} [Inhabited α] {ks:List LK} {y:AV} {enc : α→AV} {Q : α→Prop} (hd:A8y ks enc Q) (h:Fit (.sl ks) y) :
  ∃ l:List α,Le y (A7 ks.length enc l)∧l.length≤maxLen∧∀ x∈l,Q x:=by
 cases h with
 | sl ks n L hn hl hf =>
  have h1:∀ i,∃ x,i<n→F6 (L i) (cellsOf (enc x))∧(cellsOf (enc x)).all AV.one=true∧Q x:=fun i=>by
   by_cases hi:i<n
   ·obtain ⟨x,hx⟩:=hd (L i) ⟨hl i hi,fun j y k=>hf i j y k hi⟩
    exact ⟨x,fun _=>hx⟩
   ·exact ⟨default,fun h=>absurd h hi⟩
  obtain ⟨g,hg⟩:=Classical.axiomOfChoice h1
  have hlen:((List.range n).map g).length=n:=by rw [List.length_map,List.length_range]
  refine ⟨(List.range n).map g,?_,by rw [hlen];exact hn,fun x hx=>?_⟩
  ·unfold A7
   rw [hlen]
   refine Le.arr fun i hi=>?_
   have e:((List.range n).map g).getD i default=g i:=by
    rw [List.getD_eq_getElem?_getD,List.getElem?_map,List.getElem?_range hi];rfl
   have one:∀ v∈L i,v.one=true:=fun v hv=>by
    obtain ⟨j,hj,rfl⟩:=List.getElem_of_mem hv
    exact (hf i j _ (ks[j]'(by rw [←hl i hi];exact hj)) hi (List.getElem?_eq_getElem hj) (List.getElem?_eq_getElem (by rw [←hl i hi];exact hj))).one
   rw [e,B1i one]
   exact ⟨(hg i hi).1,(hg i hi).2.1⟩
  ·obtain ⟨i,hi,rfl⟩:=List.mem_map.1 hx
   exact (hg i (List.mem_range.1 hi)).2.2
theorem FitL.slice {α : Type} [Inhabited α] {w:World} {ks:List LK} {l:List AV} {c:Value} {enc : α→AV} {Q : α→Prop} (hd:A8y ks enc Q) (h:FitL w [.sl ks] l [c]) :
  ∃ x:List α,J2 w st0 (A7 ks.length enc x) c∧x.length≤maxLen∧∀ y∈x,Q y:=by
 obtain ⟨y,rfl⟩:=List.length_eq_one_iff.1 h.len
 obtain ⟨x,h1,h2,h3⟩:=(h.fit 0 y (.sl ks) rfl rfl).inv_sl hd
 exact ⟨x,h1 _ _ _ (h.rep 0 y c rfl rfl),h2,h3⟩
theorem C3p {k0:LK} {L:List AV} (h:A4q [k0] L):∃ x0,L=[x0]∧Fit k0 x0:=by
 obtain ⟨h1,h2⟩:=h
 match L,h1 with
 | [x0],_=>exact ⟨x0,rfl,h2 0 _ _ rfl rfl⟩
theorem C5i {k0 k1:LK} {L:List AV} (h:A4q [k0,k1] L):∃ x0 x1,L=[x0,x1]∧Fit k0 x0∧Fit k1 x1:=by
 obtain ⟨h1,h2⟩:=h
 match L,h1 with
 | [x0,x1],_=>exact ⟨x0,x1,rfl,h2 0 _ _ rfl rfl,h2 1 _ _ rfl rfl⟩
theorem C3q {k0 k1 k2:LK} {L:List AV} (h:A4q [k0,k1,k2] L):∃ x0 x1 x2,L=[x0,x1,x2]∧Fit k0 x0∧Fit k1 x1∧Fit k2 x2:=by
 obtain ⟨h1,h2⟩:=h
 match L,h1 with
 | [x0,x1,x2],_=>exact ⟨x0,x1,x2,rfl,h2 0 _ _ rfl rfl,h2 1 _ _ rfl rfl,h2 2 _ _ rfl rfl⟩
theorem C3r {k0 k1 k2 k3:LK} {L:List AV} (h:A4q [k0,k1,k2,k3] L):∃ x0 x1 x2 x3,L=[x0,x1,x2,x3]∧Fit k0 x0∧Fit k1 x1∧Fit k2 x2∧Fit k3 x3:=by
 obtain ⟨h1,h2⟩:=h
 match L,h1 with
 | [x0,x1,x2,x3],_=>exact ⟨x0,x1,x2,x3,rfl,h2 0 _ _ rfl rfl,h2 1 _ _ rfl rfl,h2 2 _ _ rfl rfl,h2 3 _ _ rfl rfl⟩
theorem C4d {k0 k1 k2 k3 k4 k5 k6 k7 k8 k9 k10 k11 k12 k13:LK} {L:List AV} (h:A4q [k0,k1,k2,k3,k4,k5,k6,k7,k8,k9,k10,k11,k12,k13] L):∃ x0 x1 x2 x3 x4 x5 x6 x7 x8 x9 x10 x11 x12 x13,L=[x0,x1,x2,x3,x4,x5,x6,x7,x8,x9,x10,x11,x12,x13]∧Fit k0 x0∧Fit k1 x1∧Fit k2 x2∧Fit k3 x3∧Fit k4 x4∧Fit k5 x5∧Fit k6 x6∧Fit k7 x7∧Fit k8 x8∧Fit k9 x9∧Fit k10 x10∧Fit k11 x11∧Fit k12 x12∧Fit k13 x13:=by
 obtain ⟨h1,h2⟩:=h
 match L,h1 with
 | [x0,x1,x2,x3,x4,x5,x6,x7,x8,x9,x10,x11,x12,x13],_=>exact ⟨x0,x1,x2,x3,x4,x5,x6,x7,x8,x9,x10,x11,x12,x13,rfl,h2 0 _ _ rfl rfl,h2 1 _ _ rfl rfl,h2 2 _ _ rfl rfl,h2 3 _ _ rfl rfl,h2 4 _ _ rfl rfl,h2 5 _ _ rfl rfl,h2 6 _ _ rfl rfl,h2 7 _ _ rfl rfl,h2 8 _ _ rfl rfl,h2 9 _ _ rfl rfl,h2 10 _ _ rfl rfl,h2 11 _ _ rfl rfl,h2 12 _ _ rfl rfl,h2 13 _ _ rfl rfl⟩
theorem C4e {k0 k1 k2 k3 k4 k5 k6 k7 k8 k9 k10 k11 k12 k13 k14:LK} {L:List AV} (h:A4q [k0,k1,k2,k3,k4,k5,k6,k7,k8,k9,k10,k11,k12,k13,k14] L):∃ x0 x1 x2 x3 x4 x5 x6 x7 x8 x9 x10 x11 x12 x13 x14,L=[x0,x1,x2,x3,x4,x5,x6,x7,x8,x9,x10,x11,x12,x13,x14]∧Fit k0 x0∧Fit k1 x1∧Fit k2 x2∧Fit k3 x3∧Fit k4 x4∧Fit k5 x5∧Fit k6 x6∧Fit k7 x7∧Fit k8 x8∧Fit k9 x9∧Fit k10 x10∧Fit k11 x11∧Fit k12 x12∧Fit k13 x13∧Fit k14 x14:=by
 obtain ⟨h1,h2⟩:=h
 match L,h1 with
 | [x0,x1,x2,x3,x4,x5,x6,x7,x8,x9,x10,x11,x12,x13,x14],_=>exact ⟨x0,x1,x2,x3,x4,x5,x6,x7,x8,x9,x10,x11,x12,x13,x14,rfl,h2 0 _ _ rfl rfl,h2 1 _ _ rfl rfl,h2 2 _ _ rfl rfl,h2 3 _ _ rfl rfl,h2 4 _ _ rfl rfl,h2 5 _ _ rfl rfl,h2 6 _ _ rfl rfl,h2 7 _ _ rfl rfl,h2 8 _ _ rfl rfl,h2 9 _ _ rfl rfl,h2 10 _ _ rfl rfl,h2 11 _ _ rfl rfl,h2 12 _ _ rfl rfl,h2 13 _ _ rfl rfl,h2 14 _ _ rfl rfl⟩
abbrev QT {α : Type} (_ : α):Prop:=True
abbrev kStr:List LK:=[.str]
theorem decStr:A8y kStr eS QT:=fun L h=>by
 obtain ⟨a,rfl,ha⟩:=C3p h
 obtain ⟨a,rfl,_⟩:=ha.inv_str
 exact ⟨a,F6.refl _,rfl,trivial⟩
abbrev C4g:List LK:=[.int .i64]
theorem B9K:A8y C4g eI QT:=fun L h=>by
 obtain ⟨a,rfl,ha⟩:=C3p h
 obtain ⟨a,rfl,_⟩:=ha.inv_int
 exact ⟨a,F6.refl _,rfl,trivial⟩
abbrev C3v:List LK:=[.int .i64,.int .i64,.int .i64]
theorem C1U:A8y C3v L4 QT:=fun L h=>by
 obtain ⟨a0,a1,a2,rfl,h0,h1,h2⟩:=C3q h
 obtain ⟨a0,rfl,_⟩:=h0.inv_int
 obtain ⟨a1,rfl,_⟩:=h1.inv_int
 obtain ⟨a2,rfl,_⟩:=h2.inv_int
 exact ⟨⟨a0,a1,a2⟩,F6.cons (Le.refl _) (F6.cons (Le.refl _) (F6.cons (Le.refl _) (F6.nil))),rfl,trivial⟩
abbrev C3u:List LK:=[.sl kStr,.sl kStr,.int .i64]
theorem C1T:A8y C3u O8 QT:=fun L h=>by
 obtain ⟨a0,a1,a2,rfl,h0,h1,h2⟩:=C3q h
 obtain ⟨b0,e0,_,_⟩:=h0.inv_sl decStr
 obtain ⟨b1,e1,_,_⟩:=h1.inv_sl decStr
 obtain ⟨a2,rfl,_⟩:=h2.inv_int
 exact ⟨⟨⟨b0,b1⟩,a2⟩,F6.cons (e0) (F6.cons (e1) (F6.cons (Le.refl _) (F6.nil))),rfl,trivial⟩
abbrev C3t:List LK:=[.str,.str,.int .i64,.bool]
theorem C1S:A8y C3t E2 QT:=fun L h=>by
 obtain ⟨a0,a1,a2,a3,rfl,h0,h1,h2,h3⟩:=C3r h
 obtain ⟨a0,rfl,_⟩:=h0.inv_str
 obtain ⟨a1,rfl,_⟩:=h1.inv_str
 obtain ⟨a2,rfl,_⟩:=h2.inv_int
 obtain ⟨a3,rfl⟩:=h3.inv_bool
 exact ⟨⟨a0,a1,a2,a3⟩,F6.cons (Le.refl _) (F6.cons (Le.refl _) (F6.cons (Le.refl _) (F6.cons (Le.refl _) (F6.nil)))),rfl,trivial⟩
abbrev B3X:List LK:=[.str,.int .i64]
theorem B5z:A8y B3X A0I QT:=fun L h=>by
 obtain ⟨a0,a1,rfl,h0,h1⟩:=C5i h
 obtain ⟨a0,rfl,_⟩:=h0.inv_str
 obtain ⟨a1,rfl,_⟩:=h1.inv_int
 exact ⟨⟨a0,a1⟩,F6.cons (Le.refl _) (F6.cons (Le.refl _) (F6.nil)),rfl,trivial⟩
abbrev C3w:List LK:=[.str,.sl B3X,.int .i64,.int .i64]
theorem C1V:A8y C3w S8 QT:=fun L h=>by
 obtain ⟨a0,a1,a2,a3,rfl,h0,h1,h2,h3⟩:=C3r h
 obtain ⟨a0,rfl,_⟩:=h0.inv_str
 obtain ⟨b1,e1,_,_⟩:=h1.inv_sl B5z
 obtain ⟨a2,rfl,_⟩:=h2.inv_int
 obtain ⟨a3,rfl,_⟩:=h3.inv_int
 exact ⟨⟨a0,b1,a2,a3⟩,F6.cons (Le.refl _) (F6.cons (e1) (F6.cons (Le.refl _) (F6.cons (Le.refl _) (F6.nil)))),rfl,trivial⟩
abbrev B9Z:List LK:=[.str,.int .i64,.int .i64,.str,.str,.bool,.sl kStr,.sl kStr,.int .i64,.int .i64,.int .i64,.int .i64,.int .i64,.sl C3u,.sl C3v]
theorem B9L:A8y B9Z B8 QT:=fun L h=>by
 obtain ⟨a0,a1,a2,a3,a4,a5,a6,a7,a8,a9,a10,a11,a12,a13,a14,rfl,h0,h1,h2,h3,h4,h5,h6,h7,h8,h9,h10,h11,h12,h13,h14⟩:=C4e h
 obtain ⟨a0,rfl,_⟩:=h0.inv_str
 obtain ⟨a1,rfl,_⟩:=h1.inv_int
 obtain ⟨a2,rfl,_⟩:=h2.inv_int
 obtain ⟨a3,rfl,_⟩:=h3.inv_str
 obtain ⟨a4,rfl,_⟩:=h4.inv_str
 obtain ⟨a5,rfl⟩:=h5.inv_bool
 obtain ⟨b6,e6,_,_⟩:=h6.inv_sl decStr
 obtain ⟨b7,e7,_,_⟩:=h7.inv_sl decStr
 obtain ⟨a8,rfl,_⟩:=h8.inv_int
 obtain ⟨a9,rfl,_⟩:=h9.inv_int
 obtain ⟨a10,rfl,_⟩:=h10.inv_int
 obtain ⟨a11,rfl,_⟩:=h11.inv_int
 obtain ⟨a12,rfl,_⟩:=h12.inv_int
 obtain ⟨b13,e13,_,_⟩:=h13.inv_sl C1T
 obtain ⟨b14,e14,_,_⟩:=h14.inv_sl C1U
 exact ⟨⟨a0,a1,a2,a3,a4,a5,⟨b6,b7⟩,a8,a9,a10,a11,a12,b13,b14⟩,F6.cons (Le.refl _) (F6.cons (Le.refl _) (F6.cons (Le.refl _) (F6.cons (Le.refl _) (F6.cons (Le.refl _) (F6.cons (Le.refl _) (F6.cons (e6) (F6.cons (e7) (F6.cons (Le.refl _) (F6.cons (Le.refl _) (F6.cons (Le.refl _) (F6.cons (Le.refl _) (F6.cons (Le.refl _) (F6.cons (e13) (F6.cons (e14) (F6.nil))))))))))))))),rfl,trivial⟩
abbrev kRules:List LK:=[.sl C3t,.sl B9Z,.bool,.bool,.int .i64,.sl C3w,.int .i64,.int .i64,.int .i64,.int .i64,.int .i64,.int .i64,.sl C4g,.sl C4g]
theorem B9M:A8y kRules H9 QT:=fun L h=>by
 obtain ⟨a0,a1,a2,a3,a4,a5,a6,a7,a8,a9,a10,a11,a12,a13,rfl,h0,h1,h2,h3,h4,h5,h6,h7,h8,h9,h10,h11,h12,h13⟩:=C4d h
 obtain ⟨b0,e0,_,_⟩:=h0.inv_sl C1S
 obtain ⟨b1,e1,_,_⟩:=h1.inv_sl B9L
 obtain ⟨a2,rfl⟩:=h2.inv_bool
 obtain ⟨a3,rfl⟩:=h3.inv_bool
 obtain ⟨a4,rfl,_⟩:=h4.inv_int
 obtain ⟨b5,e5,_,_⟩:=h5.inv_sl C1V
 obtain ⟨a6,rfl,_⟩:=h6.inv_int
 obtain ⟨a7,rfl,_⟩:=h7.inv_int
 obtain ⟨a8,rfl,_⟩:=h8.inv_int
 obtain ⟨a9,rfl,_⟩:=h9.inv_int
 obtain ⟨a10,rfl,_⟩:=h10.inv_int
 obtain ⟨a11,rfl,_⟩:=h11.inv_int
 obtain ⟨b12,e12,_,_⟩:=h12.inv_sl B9K
 obtain ⟨b13,e13,_,_⟩:=h13.inv_sl B9K
 exact ⟨⟨b0,b1,⟨a2,a3,a4,b5⟩,⟨a6,a7⟩,⟨a8,a9,a10,a11,b12,b13⟩⟩,F6.cons (e0) (F6.cons (e1) (F6.cons (Le.refl _) (F6.cons (Le.refl _) (F6.cons (Le.refl _) (F6.cons (e5) (F6.cons (Le.refl _) (F6.cons (Le.refl _) (F6.cons (Le.refl _) (F6.cons (Le.refl _) (F6.cons (Le.refl _) (F6.cons (Le.refl _) (F6.cons (e12) (F6.cons (e13) (F6.nil)))))))))))))),rfl,trivial⟩
theorem FitL.rules {w:World} {l:List AV} {cs:List Value} (h:FitL w kRules l cs):∃ r:F1,J2 w st0 (H9 r) (.agg cs.toArray):=by
 obtain ⟨r,h1,_,_⟩:=B9M l ⟨h.len,h.fit⟩
 refine ⟨r,?_⟩
 have h0:J2 w st0 (.agg l) (.agg cs.toArray):=.agg _ _ (by rw [h.len,←h.clen];simp) fun j y c hy hc=>h.rep j y c hy (by simpa using hc)
 exact (Le.agg h1) _ _ _ h0
theorem C5j {k0 k1 k2 k3 k4:LK} {L:List AV} (h:A4q [k0,k1,k2,k3,k4] L):∃ x0 x1 x2 x3 x4,L=[x0,x1,x2,x3,x4]∧Fit k0 x0∧Fit k1 x1∧Fit k2 x2∧Fit k3 x3∧Fit k4 x4:=by
 obtain ⟨h1,h2⟩:=h
 match L,h1 with
 | [x0,x1,x2,x3,x4],_=>exact ⟨x0,x1,x2,x3,x4,rfl,h2 0 _ _ rfl rfl,h2 1 _ _ rfl rfl,h2 2 _ _ rfl rfl,h2 3 _ _ rfl rfl,h2 4 _ _ rfl rfl⟩
abbrev kTurn:List LK:=[.int .i64,.bool,.str,.int .i64,.int .i64]
theorem decTurn:A8y kTurn Go.Proofs.YthdimklenlikgaaGreat.eTurn QT:=fun L h=>by
 obtain ⟨a0,a1,a2,a3,a4,rfl,h0,h1,h2,h3,h4⟩:=C5j h
 obtain ⟨a0,rfl,_⟩:=h0.inv_int
 obtain ⟨a1,rfl⟩:=h1.inv_bool
 obtain ⟨a2,rfl,_⟩:=h2.inv_str
 obtain ⟨a3,rfl,_⟩:=h3.inv_int
 obtain ⟨a4,rfl,_⟩:=h4.inv_int
 exact ⟨⟨a0,a1,⟨a2,a3,a4⟩⟩,F6.refl _,rfl,trivial⟩
end Go.Ab
namespace Go.Ab
open Go
theorem an {a b:Bool} (h:a=true) (k:b=true):(a&&b)=true:=by rw [h,k];rfl
def kindsFit (P:Program) (fn:Func) (c:OpenClaim):Bool:=(c.kinds==(if c.domain.isEmpty then [] else fn.params.toList.map fun t=>match P.underlying t with | some (.int k)=>some k | _=>none))
theorem joined_of {P:Program} {f:FuncId} {fn:Func} {s:ChangeSpec} {c:OpenClaim} (h1:(c.wf (OpenSpec.ofChange s))=true) (h2:(laidOutB P)=true) (h3:(mapsRowed P)=true) (h4:(fn.params.all (P.readableRec ·))=true) (h5:(namedTie P c.named s.vars)=true) (h6:(c.stops==[])=true) (h7:(P.stops==[])=true) (h8:(c.knobs==[])=true) (h9:(P.stopKnobs==[])=true) (h10:(c.inPlace==P.inPlace f)=true) (h11:(c.unfollowed==P.unfollowed f)=true) (h12:(c.recurses==P.recurses f)=true) (h13:(c.named==P.varsNamed f)=true) (h14:(c.maps==(fn.params.toList++s.plain.varTypes P).any (P.mapsRec ·))=true) (h15:(c.ifaces==(fn.params.toList++s.plain.varTypes P).any (P.ifacesRec ·))=true) (h16:(c.mapsOut==P.mapsAmong fn.resultTypes.toList)=true) (h17:(c.loops==(fn.params.toList++s.plain.varTypes P).any (P.loopsFrom ·))=true) (h18:(c.wideKeys==(fn.params.toList++s.plain.varTypes P++fn.resultTypes.toList).any (P.wideKeysFrom ·))=true) (h19:(s.vars.all (P.varReadable ·))=true) (h20:(fn.resultTypes.all (fun t=>P.readableRec t&&decide (t<P.types.size)))=true) (h21:(c.ifacesOut==fn.resultTypes.toList.any (P.ifacesRec ·))=true) (h22:(c.loopsOut==fn.resultTypes.toList.any (P.loopsFrom ·))=true) (h23:(c.plainKeys==P.plainKeys)=true) (h24:c.shortTexts.isNone=true) (h25:P.stopsHeard=true) (h26:P.mayEnter=true) (h27:(c.lifted==P.liftsFinal)=true) (h28:(P.make==some c.make)=true) (h29:kindsFit P fn c=true) (h30:(c.pinned==c.pinnedBy)=true) (h31:(c.veiled==(fn.params.toList++s.plain.varTypes P++fn.resultTypes.toList).any (P.veiledRec ·))=true) (h32:(c.veiledFits P fn.params.toList (fn.params.toList++s.plain.varTypes P++fn.resultTypes.toList))=true):joinedFacts P f fn s c=true:=an (an (an (an (an (an (an (an (an (an (an (an (an (an (an (an (an (an (an (an (an (an (an (an (an (an (an (an (an (an (an (h1) h2) h3) h4) h5) h6) h7) h8) h9) h10) h11) h12) h13) h14) h15) h16) h17) h18) h19) h20) h21) h22) h23) h24) h25) h26) h27) h28) h29) h30) h31) h32
end Go.Ab
namespace Go.Proofs.YthdimklenlikgaaGreat.closed
open Go
theorem p2:(laidOutB Tryz.prog)=true:=by kernel_rfl
theorem p3:(mapsRowed Tryz.prog)=true:=by kernel_rfl
theorem p7:(Tryz.prog.stops==[])=true:=by kernel_rfl
theorem p9:(Tryz.prog.stopKnobs==[])=true:=by kernel_rfl
theorem p25:(Tryz.prog.stopsHeard)=true:=by kernel_rfl
theorem p26:(Tryz.prog.mayEnter)=true:=by kernel_rfl
end Go.Proofs.YthdimklenlikgaaGreat.closed
namespace Go.Proofs.YthdimklenlikgaaGreat.deskPlays
open Go.ChangeShapes Go.WideShapes Go.ChangeAt Go.RowKit
open Go.ChangeMaps (open_string shut_string)
theorem c1:(Rows.deskPlaysRow.wf (OpenSpec.ofChange Rows.deskPlaysSpec))=true:=by kernel_rfl
theorem c4:(Tryz.f4.params.all (Tryz.prog.readableRec ·))=true:=by kernel_rfl
theorem c5:(namedTie Tryz.prog Rows.deskPlaysRow.named Rows.deskPlaysSpec.vars)=true:=by kernel_rfl
theorem c6:((Rows.deskPlaysRow.stops==[]))=true:=by kernel_rfl
theorem c8:((Rows.deskPlaysRow.knobs==[]))=true:=by kernel_rfl
theorem c10:((Rows.deskPlaysRow.inPlace==Tryz.prog.inPlace 4))=true:=by kernel_rfl
theorem c11:((Rows.deskPlaysRow.unfollowed==Tryz.prog.unfollowed 4))=true:=by kernel_rfl
theorem c12:((Rows.deskPlaysRow.recurses==Tryz.prog.recurses 4))=true:=by kernel_rfl
theorem c13:((Rows.deskPlaysRow.named==Tryz.prog.varsNamed 4))=true:=by kernel_rfl
theorem c14:((Rows.deskPlaysRow.maps==(Tryz.f4.params.toList++Rows.deskPlaysSpec.plain.varTypes Tryz.prog).any (Tryz.prog.mapsRec ·)))=true:=by kernel_rfl
theorem c15:((Rows.deskPlaysRow.ifaces==(Tryz.f4.params.toList++Rows.deskPlaysSpec.plain.varTypes Tryz.prog).any (Tryz.prog.ifacesRec ·)))=true:=by kernel_rfl
theorem c16:((Rows.deskPlaysRow.mapsOut==Tryz.prog.mapsAmong Tryz.f4.resultTypes.toList))=true:=by kernel_rfl
theorem c17:((Rows.deskPlaysRow.loops==(Tryz.f4.params.toList++Rows.deskPlaysSpec.plain.varTypes Tryz.prog).any (Tryz.prog.loopsFrom ·)))=true:=by kernel_rfl
theorem c18:((Rows.deskPlaysRow.wideKeys==(Tryz.f4.params.toList++Rows.deskPlaysSpec.plain.varTypes Tryz.prog++Tryz.f4.resultTypes.toList).any (Tryz.prog.wideKeysFrom ·)))=true:=by kernel_rfl
theorem c19:(Rows.deskPlaysSpec.vars.all (Tryz.prog.varReadable ·))=true:=by kernel_rfl
theorem c20:(Tryz.f4.resultTypes.all (fun t=>Tryz.prog.readableRec t&&decide (t<Tryz.prog.types.size)))=true:=by kernel_rfl
theorem c21:((Rows.deskPlaysRow.ifacesOut==Tryz.f4.resultTypes.toList.any (Tryz.prog.ifacesRec ·)))=true:=by kernel_rfl
theorem c22:((Rows.deskPlaysRow.loopsOut==Tryz.f4.resultTypes.toList.any (Tryz.prog.loopsFrom ·)))=true:=by kernel_rfl
theorem c23:((Rows.deskPlaysRow.plainKeys==Tryz.prog.plainKeys))=true:=by kernel_rfl
theorem c24:(Rows.deskPlaysRow.shortTexts.isNone)=true:=by kernel_rfl
theorem c27:((Rows.deskPlaysRow.lifted==Tryz.prog.liftsFinal))=true:=by kernel_rfl
theorem c28:((Tryz.prog.make==some Rows.deskPlaysRow.make))=true:=by kernel_rfl
theorem c29:Ab.kindsFit Tryz.prog Tryz.f4 Rows.deskPlaysRow=true:=by kernel_rfl
theorem c30:((Rows.deskPlaysRow.pinned==Rows.deskPlaysRow.pinnedBy))=true:=by kernel_rfl
theorem c31:((Rows.deskPlaysRow.veiled==(Tryz.f4.params.toList++Rows.deskPlaysSpec.plain.varTypes Tryz.prog++Tryz.f4.resultTypes.toList).any (Tryz.prog.veiledRec ·)))=true:=by kernel_rfl
theorem c32:(Rows.deskPlaysRow.veiledFits Tryz.prog Tryz.f4.params.toList (Tryz.f4.params.toList++Rows.deskPlaysSpec.plain.varTypes Tryz.prog++Tryz.f4.resultTypes.toList))=true:=by kernel_rfl
theorem B7Q:joinedFacts Tryz.prog 4 Tryz.f4 Rows.deskPlaysSpec Rows.deskPlaysRow=true:=Ab.joined_of c1 closed.p2 closed.p3 c4 c5 c6 closed.p7 c8 closed.p9 c10 c11 c12 c13 c14 c15 c16 c17 c18 c19 c20 c21 c22 c23 c24 closed.p25 closed.p26 c27 c28 c29 c30 c31 c32
theorem own:ownKnob Tryz.prog.godebug=none:=by kernel_rfl
theorem B2q:laidOutB Tryz.prog=true:=closed.p2
theorem C9q (c0:Array Value) (c1:Value) (c2:Value) (w:World) (l0 l1 l2:List Ab.AV) (h0:Ab.FitL w Ab.kRules l0 c0.toList) (h1:Ab.FitL w [.sl Ab.kStr] l1 [c1]) (h2:Ab.FitL w [.sl Ab.kTurn] l2 [c2]) :
  Calls Tryz.prog 4 #[.agg c0,c1,c2] w fun e w'=>e=.returned (.bool true)∧Below w.heap.size w w':=by
 obtain ⟨x0,r0⟩:=h0.rules
 obtain ⟨x1,r1,_,_⟩:=h1.slice Ab.decStr
 obtain ⟨x2,r2,_,_⟩:=h2.slice Ab.decTurn
 refine Ab.law_of_S (B3M x0 x1 x2 Ab.st0) ⟨rfl,fun j y c hy hc=>?_⟩
 match j with
 | 0=>cases hy;cases hc;exact r0
 | 1=>cases hy;cases hc;exact r1
 | 2=>cases hy;cases hc;exact r2
 | j+3=>cases hy
set_option maxRecDepth 100000 in
theorem lifted (os:Os) (started:os.Started) (H:Type) (enc:TypeId×Value→H) :
  ReturnsInHanded {} Tryz.checked os 4 .any (Rows.deskPlaysSpec.pre6 enc Tryz.prog Tryz.f4 Rows.deskPlaysRow.domain false) (Rows.deskPlaysSpec.post enc Tryz.prog Tryz.f4 false true false false):=by
 refine returnsInHanded_of_change_sized (C:=Tryz.checked) own started (by kernel_rfl) Tryz.func4
  (ChangeSpec.witness6 (enc:=enc) (C:=Tryz.checked) false ⟨#[],#[.agg #[.slice none 0 0,.slice none 0 0,.bool false,.bool false,.int .i64 0,.slice none 0 0,.int .i64 0,.int .i64 0,.int .i64 0,.int .i64 0,.int .i64 0,.int .i64 0,.slice none 0 0,.slice none 0 0],.slice none 0 0,.slice none 0 0],[]⟩ 12 (by kernel_rfl) (by kernel_rfl) (by kernel_rfl) (by kernel_rfl)) ?_
 intro W base args ds gs before hval0 hW hcnd hsz0 _
 have hval:∀ (j:Nat) t v,Tryz.f4.params[j]?=some t→args[j]?=some v→Value.okWide Tryz.prog W .any base t v:=hval0
 have hW':=hW
 obtain ⟨p,q,hA0,hV,rfl,hfz,hnd⟩:=hW
 have hA:DataW.TrodAll enc Tryz.prog W 0 (fun _=>true) true Tryz.f4.params.toList args.toList ds p:=hA0
 rw [Tryz.params4] at hA hval
 obtain ⟨v0,vs0,d0,ds0,p0,q0,hargs,rfl,rfl,h0,r0⟩:=trodAll_cons hA
 obtain ⟨v1,vs1,d1,ds1,p1,q1,rfl,rfl,rfl,h1,r1⟩:=trodAll_cons r0
 obtain ⟨v2,vs2,d2,ds2,p2,q2,rfl,rfl,rfl,h2,r2⟩:=trodAll_cons r1
 obtain ⟨rfl,rfl,rfl⟩:=trodAll_nil r2
 obtain rfl:args=#[v0,v1,v2]:=by cases args;simp_all
 obtain ⟨rfl,rfl⟩:=trodVars_none hV
 obtain ⟨a0,rfl,_⟩:=okWide_struct Tryz.underlying33 (hval 0 33 v0 rfl rfl)
 obtain ⟨a1,len1,cap1,rfl⟩:=okWide_slice Tryz.underlying34 (hval 1 34 v1 rfl rfl)
 obtain ⟨a2,len2,cap2,rfl⟩:=okWide_slice Tryz.underlying50 (hval 2 50 v2 rfl rfl)
 have k0:=h0
 have lt0:∀ x∈p0,x.block<W.heap.size:=by obtain ⟨m,hm⟩:=k0;exact DataW.trod_lt m _ _ _ hm
 have k1:=h1
 have lt1:∀ x∈p1,x.block<W.heap.size:=by obtain ⟨m,hm⟩:=k1;exact DataW.trod_lt m _ _ _ hm
 have k2:=h2
 have lt2:∀ x∈p2,x.block<W.heap.size:=by obtain ⟨m,hm⟩:=k2;exact DataW.trod_lt m _ _ _ hm
 obtain ⟨l0,hl0⟩:∃ l,Ab.FitL W Ab.kRules l a0.toList:=by
  obtain ⟨fuel,hf⟩:=h0
  exact Ab.open_kinds 10 fuel 33 Ab.kRules _ _ (by kernel_rfl) hf
 obtain ⟨l1,hl1⟩:∃ l,Ab.FitL W [.sl Ab.kStr] l [.slice a1 len1 cap1]:=by
  obtain ⟨fuel,hf⟩:=h1
  exact Ab.open_kinds 3 fuel 34 [.sl Ab.kStr] _ _ (by kernel_rfl) hf
 obtain ⟨l2,hl2⟩:∃ l,Ab.FitL W [.sl Ab.kTurn] l [.slice a2 len2 cap2]:=by
  obtain ⟨fuel,hf⟩:=h2
  exact Ab.open_kinds 4 fuel 50 [.sl Ab.kTurn] _ _ (by kernel_rfl) hf
 clear hA0 hval0 hsz0
 refine (C9q a0 _ _ W l0 l1 l2 hl0 hl1 hl2).mono fun e W' ⟨he,bel⟩=>?_
 subst he
 exact ⟨_,rfl,_,_,_,[],_,[],hW',trodAll_mk1 (shut_bool Tryz.underlying4 _),trodAll_cons_mk (Below.trod B2q (by kernel_rfl) (of_decide_eq_true (by kernel_rfl)) k0 bel lt0) (trodAll_cons_mk (Below.trod B2q (by kernel_rfl) (of_decide_eq_true (by kernel_rfl)) k1 bel lt1) (trodAll_cons_mk (Below.trod B2q (by kernel_rfl) (of_decide_eq_true (by kernel_rfl)) k2 bel lt2) trodAll_mk0)),rfl,bel.frame _,fun h=>by cases h⟩
theorem over:Rows.deskPlaysRow.holds Tryz.pinned (OpenSpec.ofChange Rows.deskPlaysSpec) :=
 OpenClaim.holds_of_wide 4 Tryz.f4 rfl rfl rfl rfl rfl rfl rfl ⟨rfl,rfl,rfl,rfl,rfl⟩ rfl rfl rfl rfl rfl (by kernel_rfl) Tryz.func4 B7Q
  (of_decide_eq_true (by kernel_rfl)) (by unfold Func.isWrapper;first | (rw [if_pos (by decide +kernel)];kernel_rfl) | (rw [if_neg (by decide +kernel)];exact ⟨rfl,rfl⟩))
  (fun os started H enc _=>lifted os started H enc)
theorem proved:Rows.DeskPlaysSaid:=over
#print axioms proved
end Go.Proofs.YthdimklenlikgaaGreat.deskPlays
namespace Go.Proofs.YthdimklenlikgaaGreat
theorem deskPlays_holds:Rows.DeskPlaysSaid:=deskPlays.proved
end Go.Proofs.YthdimklenlikgaaGreat
