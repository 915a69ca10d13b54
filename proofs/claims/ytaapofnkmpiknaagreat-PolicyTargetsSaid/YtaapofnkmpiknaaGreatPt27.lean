/- Part 27 of the proof: contracts -/
import Derived.Test.YtaapofnkmpiknaaGreatPt26
set_option maxRecDepth 100000
set_option linter.unusedVariables false
set_option linter.unusedSimpArgs false
namespace Go.Proofs.YtaapofnkmpiknaaGreat
open Go Go.Ab
attribute [local irreducible] upd del
theorem A2h (x:Int) (st:St):S P 131 [eI x] st fun v st'=>v=.bool (R3 x)∧st'=st:=by
 refine F7 [] Tryz.func131 ?_
 unfold R3
 cases h:decide (0≤x)
 ·conv=>whnf
  exact ⟨rfl,rfl⟩
 ·conv=>whnf
  exact ⟨rfl,rfl⟩
theorem D4w {v:Int} (h0:0≤v) (h1:v≤9223372036854775807):IntKind.i64.wrap ((BitVec.ofInt IntKind.i64.bits v &&& BitVec.ofInt IntKind.i64.bits 1).toNat:Int)=v % 2:=by
 show IntKind.i64.wrap ((BitVec.ofInt 64 v &&& BitVec.ofInt 64 1).toNat:Int)=v % 2
 obtain ⟨n,rfl⟩:=Int.eq_ofNat_of_zero_le h0
 have e1:(BitVec.ofInt 64 ((n:Nat):Int)).toNat=n:=by rw [BitVec.ofInt_natCast,BitVec.toNat_ofNat,E0c (by omega)]
 have e2:(BitVec.ofInt 64 1).toNat=1:=by decide
 rw [BitVec.toNat_and,e1,e2,Nat.and_one_is_mod,A4 (by omega) (by omega)];omega
theorem B4X {d q r Y:Int} (h:Y=d * q+r) (h0:0≤r) (h1:r<d):Y / d=q∧Y % d=r:=by
 have:=(Int.ediv_emod_unique (a:=Y) (b:=d) (r:=r) (q:=q) (by omega)).2 ⟨by omega,h0,h1⟩
 exact this
def A0J (num:Int) (j:Nat):Int:=num / 2 ^ (63 - j)
theorem C2Z {num:Int} (h:0≤num) {j:Nat} (hj:j<63):A0J num (j+1)=2 * A0J num j+A0J num (j+1) % 2:=by
 have e:A0J num j=A0J num (j+1) / 2:=by
  unfold A0J
  rw [show 63 - j=(63 - (j+1))+1 by omega,Int.pow_succ,Int.ediv_ediv_of_nonneg (Int.pow_nonneg (by omega))]
 omega
theorem B0F {num:Int} (h:0≤num) (j:Nat):0≤A0J num j:=D8R h (Int.pow_nonneg (by omega))
theorem C8c {num:Int} (h:0≤num) (j:Nat):A0J num j≤num:=Int.ediv_le_self _ h
theorem C5S {num:Int} (h:0≤num) (h1:num≤100000000000000):A0J num 0=0:=Int.ediv_eq_zero_of_lt h (by show num<2 ^ 63;omega)
theorem C0Y (num:Int):A0J num 63=num:=by unfold A0J;simp
def A9S (x num den:Int):AV:=if x * num / den>100000000000000 then .tuple [eI 0,eI 0,.bool false] else .tuple [eI (x * num / den),eI (x * num % den),.bool true]
set_option maxHeartbeats 1000000 in
theorem B2M (x num den:Int) (hx:0≤x) (hx1:x≤100000000000000) (hn:0≤num) (hn1:num≤100000000000000) (hd:0<den) (hd1:den≤100000000000000) (st:St) :
  S P 150 [eI x,eI num,eI den] st fun v st'=>v=A9S x num den∧st'=st:=by
 refine F7 [] Tryz.func150 ?_
 refine lp 63 [0,1,2,9,10,11] (fun j vs s=>(x * A0J num j / den≤100000000000000)∧vs=[eI x,eI num,eI den,eI (x * A0J num j / den),eI (x * A0J num j % den),eI (62 - (j:Int))]∧s=st) ?_ ?_
 ·conv=>whnf
  refine ⟨?_,?_,rfl⟩
  ·rw [C5S hn hn1,Int.mul_zero,Int.zero_ediv];omega
  ·rw [C5S hn hn1,Int.mul_zero,Int.zero_ediv,Int.zero_emod];rfl
 ·rintro j vs s hj ⟨hq,rfl,rfl⟩
  conv=>whnf
  have hY0:0≤x * A0J num j:=D8H hx (B0F hn j)
  have hA0:0≤x * A0J num j / den:=D8R hY0 (by omega)
  have hB0:=D8F (x * A0J num j) (show den≠0 by omega)
  have hB1:=D8t (x * A0J num j) hd
  have hY:=D8j (x * A0J num j) den
  cases h:decide (62 - (j:Int)≥0)
  ·have hj63:j=63:=by have:=D7g h;omega
   subst hj63
   rw [C0Y] at hq;conv=>whnf
   refine ⟨?_,rfl⟩
   unfold A9S
   rw [if_neg (by omega),C0Y];rfl
  ·have hj':j<63:=by have:=D7h h;omega
   have hC0:0≤x / den:=D8R hx (by omega)
   have hC1:x / den≤x:=Int.ediv_le_self _ hx
   have hD0:=D8F x (show den≠0 by omega)
   have hD1:=D8t x hd
   have hX:=D8j x den
   have hst:=C2Z hn hj'
   have hN0:=B0F hn (j+1)
   have hN1:=C8c hn (j+1)
   have hbit:x * A0J num (j+1)=2 * (x * A0J num j)+x * (A0J num (j+1) % 2):=by
    conv=>lhs;rw [hst]
    rw [D9p,Int.mul_left_comm]
   have hshr:Int.fdiv num (2 ^ (min (IntKind.u64.wrap (62 - (j:Int))).toNat IntKind.i64.bits))=A0J num (j+1):=by
    show Int.fdiv num (2 ^ (min (IntKind.u64.wrap (62 - (j:Int))).toNat 64))=_
    rw [E4 (by omega) (by omega)]
    unfold A0J
    rw [show min (62 - (j:Int)).toNat 64=63 - (j+1) by omega,D9c _ (Int.pow_nonneg (by omega))]
   have hbig:x * A0J num (j+1) / den>100000000000000→A9S x num den=.tuple [eI 0,eI 0,.bool false]:=fun hb=>by
    unfold A9S
    refine if_pos ?_
    have:x * A0J num (j+1) / den≤x * num / den:=Int.ediv_le_ediv hd (D7W hN1 hx)
    omega
   have hand:=D4w (v:=A0J num (j+1)) hN0 (by omega)
   have htd:x.tdiv den=x / den:=D8L hx
   have htm:x.tmod den=x % den:=D8M hx
   generalize hAe:x * A0J num j / den=A at *
   generalize hBe:x * A0J num j % den=B at *
   generalize hYe:x * A0J num j=Y at *
   generalize hCe:x / den=C at *
   generalize hDe:x % den=D at *
   have w1:IntKind.i64.wrap (2 * A)=2 * A:=A4 (by omega) (by omega)
   have w2:IntKind.i64.wrap (2 * B)=2 * B:=A4 (by omega) (by omega)
   conv=>whnf
   rw [w1,w2]
   -- doubled
   refine B7 (fun h1=>?_) (fun h1=>?_)<;>rw [h1]
   case' refine_1 =>
    have:=D7h h1
    have w3:IntKind.i64.wrap (2 * A+1)=2 * A+1:=A4 (by omega) (by omega)
    have w4:IntKind.i64.wrap (2 * B - den)=2 * B - den:=A4 (by omega) (by omega)
    have hq1:2 * Y=den * (2 * A+1)+(2 * B - den):=by rw [D9p,Int.mul_left_comm,D9Z];omega
    have hq2:0≤2 * A+1∧2 * A+1≤200000000000001:=by omega
    have hr1:0≤2 * B - den∧2 * B - den<den:=by omega
    conv=>whnf
    rw [w3,w4]
    generalize 2 * A+1=q1 at *
    generalize 2 * B - den=r1 at *
   case' refine_2 =>
    have:=D7g h1
    have hq1:2 * Y=den * (2 * A)+(2 * B):=by rw [Int.mul_left_comm];omega
    have hq2:0≤2 * A∧2 * A≤200000000000001:=by omega
    have hr1:0≤2 * B∧2 * B<den:=by omega
    conv=>whnf
    generalize 2 * A=q1 at *
    generalize 2 * B=r1 at *
   all_goals clear w1 w2 hY hA0 hB0 hB1 hq hAe hBe
   all_goals (rw [D7j (show ¬ IntKind.u64.wrap (62 - (j:Int))<0 by rw [E4 (by omega) (by omega)];omega)])
   all_goals (conv=>whnf)
   all_goals rw [hshr,hand]
   all_goals refine B7 (fun h2=>?_) (fun h2=>?_)<;>rw [h2]
   -- a bit of num
   case' refine_2.true.refine_1.refine_1 | refine_2.true.refine_2.refine_1 =>
    have hb1:A0J num (j+1) % 2=1:=eq_of_beq h2
    have w5:IntKind.i64.wrap C=C:=A4 (by omega) (by omega)
    have w6:IntKind.i64.wrap (q1+C)=q1+C:=A4 (by omega) (by omega)
    have w7:IntKind.i64.wrap (r1+D)=r1+D:=A4 (by omega) (by omega)
    have hd0:decide (den=0)=false:=D7j (by omega)
    rw [hb1,D9Z] at hbit;conv=>whnf
    refine ⟨[],[],List.range 12,by kernel_rfl,?_⟩;conv=>whnf
    rw [hd0];conv=>whnf
    rw [hd0];conv=>whnf
    rw [htd,htm,w5,w6,w7]
    refine B7 (fun h3=>?_) (fun h3=>?_)<;>rw [h3]
    case' refine_1 =>
     have:=D7h h3
     have w8:IntKind.i64.wrap (q1+C+1)=q1+C+1:=A4 (by omega) (by omega)
     have w9:IntKind.i64.wrap (r1+D - den)=r1+D - den:=A4 (by omega) (by omega)
     obtain ⟨e1,e2⟩:=B4X (Y:=x * A0J num (j+1)) (d:=den) (q:=q1+C+1) (r:=r1+D - den) (by rw [hbit,D9p,D9p,D9Z];omega) (by omega) (by omega)
     conv=>whnf
     rw [w8,w9,←e1,←e2]
    case' refine_2 =>
     have:=D7g h3
     obtain ⟨e1,e2⟩:=B4X (Y:=x * A0J num (j+1)) (d:=den) (q:=q1+C) (r:=r1+D) (by rw [hbit,D9p];omega) (by omega) (by omega)
     conv=>whnf
     rw [←e1,←e2]
   case' refine_2.true.refine_1.refine_2 | refine_2.true.refine_2.refine_2 =>
    have hb1:A0J num (j+1) % 2=0:=by have:=ne_of_beq_false h2;omega
    rw [hb1,Int.mul_zero,D9s] at hbit
    obtain ⟨e1,e2⟩:=B4X (Y:=x * A0J num (j+1)) (d:=den) (q:=q1) (r:=r1) (by rw [hbit];omega) (by omega) (by omega)
    conv=>whnf
    rw [←e1,←e2]
   all_goals refine B7 (fun h4=>?_) (fun h4=>?_)<;>rw [h4]
   all_goals (conv=>whnf)
   all_goals first
    | exact ⟨by rw [hbig (D7h h4)];rfl,rfl⟩
    | (refine ⟨rfl,?_⟩;conv=>whnf
       have w10:IntKind.i64.wrap (62 - (j:Int) - 1)=62 - ((j+1:Nat):Int):=by rw [A4 (by omega) (by omega)];omega
       exact nx hj' ⟨by have:=D7g h4;omega,by rw [w10],rfl⟩)
theorem A9d (x num den round:Int) (st:St):S P 92 [eI x,eI num,eI den,eI round] st fun v st'=>v=.tuple [eI (V7 x num den round).1,eI (V7 x num den round).2]∧st'=st:=by
 refine SyW [] Tryz.func92 ?_
 by_cases hok:(R3 x&&R3 num&&R3 den&&den != 0&&decide (0≤round)&&decide (round<3))=false
 ·rw [show V7 x num den round=(0,2) from if_pos hok]
  have n1:=A2h x st
  have n2:=A2h num st
  have hok':¬(R3 x=true∧R3 num=true∧1≤den∧den≤100000000000000∧0≤round∧round≤2):=fun ⟨h1,h2,h3,h4,h5,h6⟩=>by
   rw [h1,h2,(A0e den).2 ⟨by omega,h4⟩,D7D h5,D7D (show round<3 by omega),D9F.2 (show den≠0 by omega)] at hok;cases hok
  repeat' ((conv=>whnf);first | refine B2 n1 ?_ | refine B2 n2 ?_ | (refine B7 (fun h=>?_) (fun h=>?_)<;>rw [h]))
  all_goals (conv=>whnf)
  all_goals first
   | exact ⟨rfl,rfl⟩
   | (exfalso
      simp only [D7J,D7e] at *
      exact hok' ⟨by assumption,by assumption,by omega,by omega,by omega,by omega⟩)
 ·rw [D9y] at hok
  have ht:V7 x num den round=if x * num / den>100000000000000 then (0,5) else if T8 (x * num / den) (x * num % den) den round>100000000000000 then (0,5) else (T8 (x * num / den) (x * num % den) den round,0):=if_neg (by rw [hok];simp)
  simp only [D7f,D9F,ne_eq,D7d] at hok
  obtain ⟨⟨⟨⟨⟨x0,n0⟩,d0⟩,d2⟩,r0⟩,r1⟩:=hok
  have x1:=(A0e x).1 x0
  have n1:=(A0e num).1 n0
  have d1:=(A0e den).1 d0
  have e1:decide (den<1)=false:=D7j (by omega)
  have e2:decide (den>100000000000000)=false:=D7j (by omega)
  have e3:decide (round<0)=false:=D7j (by omega)
  have e4:decide (round>2)=false:=D7j (by omega)
  have hp:=B2M x num den (by omega) (by omega) (by omega) (by omega) (by omega) (by omega) st
  have hN:0≤x * num:=D8H x1.1 n1.1
  have hq0:0≤x * num / den:=D8R hN (by omega)
  have hm0:=D8F (x * num) d2
  have hm1:=D8t (x * num) (show 0<den by omega)
  have m1:=A2h x st
  have m2:=A2h num st
  rw [x0] at m1
  rw [n0] at m2
  unfold A9S at hp
  rw [ht]
  clear ht
  generalize x * num / den=q at *
  generalize x * num % den=r at *
  have bq:0≤T8 q r den round:=by unfold T8;repeat' split<;>omega
  by_cases hbig:q>100000000000000
  ·rw [if_pos hbig] at hp ⊢
   repeat' ((conv=>whnf);first | refine B2 m1 ?_ | refine B2 m2 ?_ | refine B2 hp ?_ | rw [e1] | rw [e2] | rw [e3] | rw [e4])
   conv=>whnf
   exact ⟨rfl,rfl⟩
  ·rw [if_neg hbig] at hp ⊢
   have w1:IntKind.i64.wrap (2 * r)=2 * r:=A4 (by omega) (by omega)
   have w2:IntKind.i64.wrap (q+1)=q+1:=A4 (by omega) (by omega)
   have w3:q.tmod 2=q % 2:=D8M hq0
   have m3:=A2h q st
   have m4:=A2h (q+1) st
   rcases (by omega:round=0∨round=1∨round=2) with rfl | rfl | rfl
   all_goals repeat' ((conv=>whnf);first | refine B2 m1 ?_ | refine B2 m2 ?_ | refine B2 m3 ?_ | refine B2 m4 ?_ | refine B2 hp ?_ | rw [e1] | rw [e2] | rw [e3] | rw [e4] | rw [w1] | rw [w2] | rw [w3] | (refine B7 (fun h=>?_) (fun h=>?_)<;>rw [h]))
   all_goals (conv=>whnf)
   all_goals (refine ⟨?_,rfl⟩;show AV.tuple [AV.int .i64 _,AV.int .i64 _]=AV.tuple [AV.int .i64 _,AV.int .i64 _])
   all_goals (simp only [T8,D7v,D7J,D7d,D7e,D7Z,D7P,ne_eq,R3,D7f,D9k,if_true,D9L,Int.reduceEq] at *)
   all_goals (repeat' split)
   all_goals first | rfl | (exfalso;omega)
theorem C2z (x rate round:Int) (st:St):S P 33 [eI x,eI rate,eI round] st fun v st'=>v=.tuple [eI (if 0≤rate∧rate≤10000 then V7 x rate 10000 round else (0,2)).1,eI (if 0≤rate∧rate≤10000 then V7 x rate 10000 round else (0,2)).2]∧st'=st:=by
 refine SyW [] Tryz.func33 ?_
 repeat' ((conv=>whnf);first | refine B2 (A9d _ _ _ _ st) ?_ | (refine B7 (fun h=>?_) (fun h=>?_)<;>rw [h]))
 all_goals (conv=>whnf)
 all_goals (refine ⟨?_,rfl⟩;simp only [D7d,D7e] at *)
 ·rw [if_neg (by omega)];rfl
 ·rw [if_neg (by omega)];rfl
 ·rw [if_pos (by omega)];rfl
theorem A9b (x rate:Int) (st:St):S P 165 [eI x,eI rate] st fun v st'=>v=eI (J9 x rate)∧st'=st:=by
 refine F7 [] Tryz.func165 ?_
 refine I3 (C2z x rate 1 st) ?_
 exact ⟨rfl,rfl⟩
theorem B0c (l:List Int) (hl:l.length≤1000000) (h0:∀ x∈l,0≤x) (hs:A2 l≤100000000000000000) (st:St):S P 118 [A9 l] st fun v st'=>v=eI (A2 l)∧st'=st:=by
 refine F7 [] Tryz.func118 ?_
 refine lp l.length [0,3,4] (fun i vs s=>vs=[A9 l,eI (A2 (l.take i)),eI i]∧s=st) ?_ ?_
 ·conv=>whnf
  exact ⟨rfl,rfl⟩
 ·rintro i vs st' hi ⟨rfl,rfl⟩
  conv=>whnf
  cases h:decide ((i:Int)<(l.length:Int))
  ·obtain rfl:=B9 h hi
   conv=>whnf
   exact ⟨by rw [D7m];rfl,rfl⟩
  ·have hi':=D6 h
   have e:=K4 hi'
   have h1:=C1 (l:=l.take i) (fun x hx=>h0 x (D8e _ _ hx))
   have h2:=N5 h0 (i+1)
   have h3:=h0 _ (A5 hi')
   have h4:gI l i=l.getD i default:=rfl
   have w:IntKind.i64.wrap (A2 (l.take i)+l.getD (i:Int).toNat default)=A2 (l.take (i+1)):=by rw [e];exact A4 (by rw [D7q];omega) (by rw [D7q];omega)
   conv=>whnf
   refine E9 ?_
   rw [w]
   refine G3 ?_
   exact nx hi' ⟨by rw [B4 (by omega)],rfl⟩
theorem A7j (us:List B3) (mine:List Int) (hl:mine.length≤1000000) (hm:∀ k,k<mine.length→0≤gI mine k∧(gI mine k).toNat<us.length) (st:St):S P 216 [C4 us,A9 mine] st fun v st'=>v=A9 (E7 us mine)∧st'=st:=by
 refine A0y (ty:=2) ?_
 refine F7 [] Tryz.func216 ?_
 refine lp mine.length [0,1,5,6] (fun i vs s=>∃ sv,vs=[C4 us,A9 mine,sv,eI i]∧E8 2 1 eI (E7 us (mine.take i)) st sv s) ?_ ?_
 ·conv=>whnf
  exact ⟨.emp,rfl,E8.start _ _ _ _⟩
 ·rintro i vs st' hi ⟨sv,rfl,hc⟩
  conv=>whnf
  cases h:decide ((i:Int)<(mine.length:Int))
  ·obtain rfl:=B9 h hi
   rw [D7m] at hc;conv=>whnf
   exact hc
  ·have hi':=D6 h
   have hx:=hm i hi'
   have hlen:(E7 us (mine.take i)).length=i:=by unfold E7;rw [D7i,D7n];omega
   conv=>whnf
   refine E9 ?_
   refine ⟨rfl,⟨by show 0≤gI mine i;omega,by show gI mine i<(us.length:Int);omega⟩,?_⟩;conv=>whnf
   refine E8.app (q:=r2) (y:=(gU us (gI mine i).toNat).net) rfl rfl rfl rfl rfl rfl (by show (_+1) * 8≤140737488355328;omega) hc (fun sv' s' hc'=>?_);conv=>whnf
   refine G3 ?_
   refine nx hi' ⟨sv',by rw [B4 (by omega)],?_⟩
   unfold E7 at hc' ⊢
   rw [A1q hi'];exact hc'
def A4O (total:Int) (ws:List Int):List Int:=(List.range ws.length).map fun k=>total * gI ws k % A2 ws
theorem C7r {total:Int} {ws:List Int} {o:List Int} (hp:o.Perm (A4F ws.length)) (hs:o.Pairwise (B4I (A4O total ws))):o=(shR total (A2 ws) ws).map (·.2):=by
 have e:o.map (B2G (A4O total ws))=shR total (A2 ws) ws:=by
  refine List.Perm.eq_of_pairwise (le:=fun a b=>H2 b a=false) (fun a b _ _ h1 h2=>A4J h2 h1) (List.pairwise_map.2 hs) (A8b ..) (((hp.map _).trans ?_).trans (A2M ..).symm)
  unfold A4F
  rw [D9B]
  refine List.Perm.of_eq (D8x fun k hk=>?_)
  have:=D7t.1 hk
  show (gI (A4O total ws) ((k:Int).toNat),(k:Int))=shE total (A2 ws) ws k
  unfold A4O
  rw [D7q,N3 _ this];rfl
 rw [←e,D9B]
 conv=>lhs;rw [←List.map_id o]
 rfl
theorem C4o {total:Int} {ws:List Int} (h:S3 total ws):D1 total ws=T4 ((List.range ws.length).map (shQ total (A2 ws) ws)) ((shR total (A2 ws) ws).take (G6 total (A2 ws) ws ws.length).toNat)∧0≤G6 total (A2 ws) ws ws.length∧G6 total (A2 ws) ws ws.length≤ws.length:=by
 by_cases hS:A2 ws=0
 ·have ht:=h.none hS
  have hq:∀ k,shQ total (A2 ws) ws k=0:=fun k=>by unfold shQ;rw [ht,E0i,Int.zero_ediv]
  have hl:G6 total (A2 ws) ws ws.length=0:=by
   unfold G6
   rw [show (List.range ws.length).map (shQ total (A2 ws) ws)=List.replicate ws.length 0 from by
    rw [List.eq_replicate_iff]
    exact ⟨by simp,fun b hb=>by obtain ⟨k,_,rfl⟩:=D7y.1 hb;exact hq k⟩,ht]
   have:∀ n,A2 (List.replicate n 0)=0:=fun n=>by
    induction n with
    | zero=>rfl
    | succ n ih=>rw [List.replicate_succ',G2,ih];rfl
   rw [this];rfl
  refine ⟨?_,by omega,by omega⟩
  rw [hl]
  unfold D1
  rw [if_pos hS]
  show ws.map (fun _=>0)=T4 _ []
  unfold T4
  refine D9K (by simp) fun k h1 h2=>?_
  simp [hq]
 ·have hS':0<A2 ws:=by have:=C1 h.w0;omega
  refine ⟨?_,A3G h hS'⟩
  unfold D1;rw [if_neg hS]
set_option maxHeartbeats 1000000 in
theorem A8a (total:Int) (ws:List Int) (h:S3 total ws) (st:St):S P 220 [eI total,A9 ws] st fun v st'=>v=.tuple [A9 (D1 total ws),eI 0]∧st'=st:=by
 obtain ⟨hR,hl0,hl1⟩:=C4o h
 have hlen:=h.len
 have hS0:=C1 h.w0
 have hSm:=h.sum
 have ht0:=h.t0
 have ht1:=h.t1
 refine S.post (post:=fun v st'=>∃ (bo:Nat) (f:Nat→AV),st bo=none∧v=.tuple [.own 1 bo 0 ws.length,eI 0]∧st'=upd st bo ⟨2,1,ws.length,f⟩∧∀ k,k<ws.length→f k=eI (gI (D1 total ws) k)) ?_
  (fun v st' ⟨bo,f,hb,hv,hs,hf⟩=>⟨_,st,⟨rfl,rfl⟩,by
   subst hv;subst hs
   have hL:(D1 total ws).length=ws.length:=by rw [hR,A2s];simp
   have e:A9 (D1 total ws)=.arr 1 ws.length (fun k=>eI (gI (D1 total ws) k)):=by unfold A9 A8;rw [hL]
   rw [e]
   have h2:=P1 (st:=upd st bo ⟨2,1,ws.length,f⟩) (e:=1) (b:=bo) (n:=ws.length) (f:=fun k=>eI (gI (D1 total ws) k)) (A0 ..) rfl (D7l _) hf
   rw [A3W hb] at h2
   exact A7.tuple (A7.cons h2 (A7.keep _ _)) rfl⟩)
 refine F7 [] Tryz.func220 ?_
 refine B2 (A2h total st) ?_
 rw [(A0e total).2 ⟨ht0,ht1⟩];conv=>whnf
 rw [D7j (show ¬(ws.length:Int)>100000 by omega)];conv=>whnf
 refine lp ws.length [0,1,6] (fun i vs s=>vs=[eI total,A9 ws,eI i]∧s=st) ?_ ?_
 ·conv=>whnf
  exact ⟨rfl,rfl⟩
 ·rintro i vs st' hi ⟨rfl,rfl⟩
  conv=>whnf
  cases hd:decide ((i:Int)<(ws.length:Int))
  case true =>
   have hi':=D6 hd
   have hm:=A5 hi'
   conv=>whnf
   refine E9 ?_
   refine B2 (A2h _ _) ?_
   rw [(A0e (ws.getD (i:Int).toNat default)).2 ⟨h.w0 _ hm,D9X (J7 h.w0 hm) hSm⟩];conv=>whnf
   refine G3 ?_
   exact nx hi' ⟨by rw [B4 (by omega)],rfl⟩
  clear hd
  conv=>whnf
  refine lp ws.length [0,1,7,8] (fun i vs s=>vs=[eI total,A9 ws,eI (A2 (ws.take i)),eI i]∧s=st') ?_ ?_
  ·conv=>whnf
   exact ⟨rfl,rfl⟩
  ·clear hi
   rintro i vs st hi ⟨rfl,rfl⟩
   conv=>whnf
   cases hd:decide ((i:Int)<(ws.length:Int))
   case true =>
    have hi':=D6 hd
    have e:=K4 hi'
    have h1:=C1 (l:=ws.take i) (fun x hx=>h.w0 x (D8e _ _ hx))
    have h2:=N5 h.w0 (i+1)
    have h3:=h.w0 _ (A5 hi')
    have w:IntKind.i64.wrap (A2 (ws.take i)+ws.getD (i:Int).toNat default)=A2 (ws.take (i+1)):=by rw [e];exact A4 (by rw [D7q];omega) (by rw [D7q];show A2 (ws.take i)+gI ws i≤_;omega)
    conv=>whnf
    refine E9 ?_
    rw [w,D7j (show ¬ A2 (ws.take (i+1))>100000000000000 by omega)];conv=>whnf
    refine G3 ?_
    exact nx hi' ⟨by rw [B4 (by omega)],rfl⟩
   obtain rfl:=B9 hd hi
   rw [D7m]
   have hz:(A2 ws==0)=true→(total != 0)=false:=fun e=>by rw [h.none (eq_of_beq e)];rfl
   cases h0:(A2 ws==0)
   case' true =>
    conv=>whnf
    rw [h0];conv=>whnf
    rw [hz h0]
   case' false =>
    conv=>whnf
    rw [h0]
   all_goals (conv=>whnf)
   all_goals refine mkO rfl rfl rfl (by show 8 * ws.length≤_;omega) (by omega) (by rfl) (fun b1 hb1=>?_)
   all_goals (conv=>whnf)
   all_goals refine mkO rfl rfl rfl (by show 8 * ws.length≤_;omega) (by omega) (by rfl) (fun b2 hb2=>?_)
   all_goals (conv=>whnf)
   all_goals
    have hne:b1≠b2:=fun e=>by subst e;rw [A0] at hb2;cases hb2
    have hb2':st b2=none:=by rw [B0 hne.symm] at hb2;exact hb2
    refine lp ws.length [0,1,7,9,10,11,12] (fun i vs s=>vs=[eI total,A9 ws,eI (A2 ws),.own 1 b1 0 ws.length,.own 1 b2 0 ws.length,eI (G6 total (A2 ws) ws i),eI i]∧(A2 ws=0→i=0)∧∃ f1 f2,s=upd (upd st b1 ⟨2,1,ws.length,f1⟩) b2 ⟨2,1,ws.length,f2⟩∧∀ k,k<ws.length→f1 k=eI (if k<i then shQ total (A2 ws) ws k else 0)∧f2 k=eI (if k<i then total * gI ws k % A2 ws else 0)) ?_ ?_
    ·conv=>whnf
     exact ⟨by rw [show G6 total (A2 ws) ws 0=total from by unfold G6;simp [A2]];rfl,fun _=>rfl,_,_,rfl,fun k hk=>⟨by rw [if_neg (by omega)];rfl,by rw [if_neg (by omega)];rfl⟩⟩
    ·rintro i vs s hi ⟨rfl,hSi,f1,f2,rfl,hf⟩
     conv=>whnf
     have fin:(∀ k,k<ws.length→f1 k=eI (shQ total (A2 ws) ws k)∧f2 k=eI (total * gI ws k % A2 ws))→G6 total (A2 ws) ws i=G6 total (A2 ws) ws ws.length→True:=fun _ _=>trivial
     have hend:(i=ws.length∨A2 ws=0)→(∀ k,k<ws.length→f1 k=eI (shQ total (A2 ws) ws k)∧f2 k=eI (total * gI ws k % A2 ws))∧G6 total (A2 ws) ws i=G6 total (A2 ws) ws ws.length:=fun hE=>by
      rcases hE with hE | hE
      ·subst hE
       exact ⟨fun k hk=>by have:=hf k hk;rwa [if_pos hk,if_pos hk] at this,rfl⟩
      ·have hi0:=hSi hE
       have ht:=h.none hE
       have hq:∀ k,shQ total (A2 ws) ws k=0:=fun k=>by unfold shQ;rw [ht,E0i,Int.zero_ediv]
       have hz:∀ n,A2 ((List.range n).map (shQ total (A2 ws) ws))=0:=fun n=>by
        induction n with
        | zero=>rfl
        | succ n ih=>rw [N0,ih,hq];rfl
       refine ⟨fun k hk=>?_,?_⟩
       ·have:=hf k hk
        rw [if_neg (by omega),if_neg (by omega)] at this
        rw [hq,ht,E0i,Int.zero_emod];exact this
       ·unfold G6;rw [hz,hz]
     cases hd:decide ((i:Int)<(ws.length:Int))
     case' false =>
      have hE:=hend (.inl (B9 hd hi))
      conv=>whnf
     case' true =>
      have hi':=D6 hd
      conv=>whnf
      cases hp:decide (A2 ws>0)
      case' false =>
       have hE:=hend (.inr (by have:=D7g hp;omega))
       conv=>whnf
      case' true =>
       have hS:0<A2 ws:=D7h hp
       have hm:gI ws i∈ws:=A5 hi'
       have hqb:=A5F h hS (show i≤ws.length by omega)
       have hqb':=A5F h hS (show i+1≤ws.length by omega)
       have hsr:=N0 (shQ total (A2 ws) ws) i
       have hq:=A4P h hS hi'
       have hpt:=B2M total (gI ws i) (A2 ws) ht0 ht1 (h.w0 _ hm) (D9X (J7 h.w0 hm) hSm) hS hSm (upd (upd st b1 ⟨2,1,ws.length,f1⟩) b2 ⟨2,1,ws.length,f2⟩)
       unfold A9S at hpt
       rw [if_neg (by have:total * gI ws i / A2 ws≤total:=hq.2;omega)] at hpt;conv=>whnf
       refine E9 ?_
       refine I3 hpt ?_
       refine E9 ?_
       refine stU (by rw [B0 hne];exact A0 ..) (hf _ (by omega)).1 ?_
       rw [R9 hne.symm,C5];conv=>whnf
       refine E9 ?_
       refine stU (A0 ..) (hf _ (by omega)).2 ?_
       rw [C5];conv=>whnf
       refine E9 ?_
       refine L1 (by rw [B0 hne];exact A0 ..) (A6 ..) ?_
       refine G3 ?_
       have e:IntKind.i64.wrap (G6 total (A2 ws) ws i - total * gI ws i / A2 ws)=G6 total (A2 ws) ws (i+1):=by
        unfold G6
        have:total * gI ws i / A2 ws=shQ total (A2 ws) ws i:=rfl
        rw [this,A4 (by omega) (by omega)];omega
       refine nx hi' ⟨by rw [B4 (by omega),e],fun e=>by omega,_,_,rfl,fun k hk=>?_⟩
       rw [show 0+(i:Int).toNat=i by omega]
       by_cases e1:k=i
       ·subst e1;rw [A6,A6]
        refine ⟨?_,?_⟩
        ·show eI (shQ total (A2 ws) ws k)=_;rw [if_pos (by omega)]
        ·show eI (total * gI ws k % A2 ws)=_;rw [if_pos (by omega)]
       ·have h7:=hf k hk
        rw [H7 e1,H7 e1]
        by_cases h8:k<i
        ·rw [if_pos h8,if_pos h8] at h7;rw [if_pos (by omega),if_pos (by omega)];exact h7
        ·rw [if_neg h8,if_neg h8] at h7;rw [if_neg (by omega),if_neg (by omega)];exact h7
     all_goals
      obtain ⟨hE1,hE2⟩:=hE
      clear hend hf fin hSi
      rw [hE2]
      have hres:A4O total ws=A4O total ws:=rfl
      have hrl:(A4O total ws).length=ws.length:=by unfold A4O;simp
      have eA:A9 (A4O total ws)=.arr 1 ws.length (fun k=>eI (gI (A4O total ws) k)):=by unfold A9 A8;rw [hrl]
      refine E2 (args':=[A9 (A4O total ws)]) (by
       rw [eA]
       exact P1 (A0 ..) rfl (D7l _) (fun k hk=>by show f2 k=_;rw [(hE1 k hk).2];unfold A4O;rw [N3 _ hk])) (call (B7r (A4O total ws) (by omega) _) (fun v s2 hv=>?_))
      obtain ⟨⟨o,ho1,ho2,rfl⟩,rfl⟩:=hv
      rw [hrl] at ho1
      have hoS:=C7r ho1 ho2
      have hol:o.length=ws.length:=by rw [ho1.length_eq,A9N]
      have hog:∀ k,k<ws.length→gI o k=(at_ (shR total (A2 ws) ws) k).2:=fun k hk=>by
       rw [hoS];exact D4 (fun e:QE=>e.2) _ (by rw [A7k];exact hk)
      have hdl:del (upd (upd st b1 ⟨2,1,ws.length,f1⟩) b2 ⟨2,1,ws.length,f2⟩) b2=upd st b1 ⟨2,1,ws.length,f1⟩:=A3W (by rw [B0 hne.symm];exact hb2') _
      rw [hdl];conv=>whnf
      refine lp (G6 total (A2 ws) ws ws.length).toNat [9,11,13,14] (fun i vs s=>vs=[.own 1 b1 0 ws.length,eI (G6 total (A2 ws) ws ws.length),A9 o,eI i]∧∃ f,s=upd st b1 ⟨2,1,ws.length,f⟩∧∀ k,k<ws.length→f k=eI (gI (T4 ((List.range ws.length).map (shQ total (A2 ws) ws)) ((shR total (A2 ws) ws).take i)) k)) ?_ ?_
      ·conv=>whnf
       exact ⟨rfl,f1,rfl,fun k hk=>by rw [(hE1 k hk).1];show _=eI (gI ((List.range ws.length).map _) k);rw [N3 _ hk]⟩
      ·rintro t vs s ht ⟨rfl,f,rfl,hf⟩
       conv=>whnf
       cases hd2:decide ((t:Int)<G6 total (A2 ws) ws ws.length)
       ·have:t=(G6 total (A2 ws) ws ws.length).toNat:=by have:=D7g hd2;omega
        subst this;conv=>whnf
        exact ⟨b1,f,hb1,rfl,rfl,by rw [hR];exact hf⟩
       ·have ht':(t:Int)<G6 total (A2 ws) ws ws.length:=D7h hd2
        have hx:0≤(at_ (shR total (A2 ws) ws) t).2∧(at_ (shR total (A2 ws) ws) t).2.toNat<ws.length:=B1k (total:=total) (S:=A2 ws) (ws:=ws) (A5 (l:=shR total (A2 ws) ws) (i:=t) (by rw [A7k];omega))
        have hgo:=hog t (by omega)
        have htk:=L6 (l:=shR total (A2 ws) ws) (i:=t) (by rw [A7k];omega)
        have hb1:=A5m ((List.range ws.length).map (shQ total (A2 ws) ws)) ((shR total (A2 ws) ws).take t) (at_ (shR total (A2 ws) ws) t).2.toNat
        rw [N3 _ hx.2,D7n] at hb1
        have hqq:0≤shQ total (A2 ws) ws (at_ (shR total (A2 ws) ws) t).2.toNat∧shQ total (A2 ws) ws (at_ (shR total (A2 ws) ws) t).2.toNat≤100000000000000:=by
         by_cases hS:A2 ws=0
         ·unfold shQ;rw [h.none hS,E0i,Int.zero_ediv];omega
         ·have:=A4P h (show 0<A2 ws by omega) hx.2;omega
        have hx2:0≤gI o t∧(gI o t).toNat<ws.length:=by rw [hgo];exact hx
        conv=>whnf
        refine E9 ?_
        refine ⟨rfl,⟨by show 0≤gI o t;omega,by show gI o t<(ws.length:Int);omega⟩,?_⟩;conv=>whnf
        refine ldV (A0 ..) rfl (by show 0+(gI o t).toNat<_;omega) (hf _ (by show 0+(gI o t).toNat<_;omega)) ?_;conv=>whnf
        refine ⟨rfl,⟨by show 0≤gI o t;omega,by show gI o t<(ws.length:Int);omega⟩,?_⟩;conv=>whnf
        refine stV (A0 ..) rfl (by show 0+(gI o t).toNat<_;omega) (hf _ (by show 0+(gI o t).toNat<_;omega)) (by rfl) ?_
        rw [C5];conv=>whnf
        refine G3 ?_
        refine nx (by omega) ⟨by rw [B4 (by omega)],_,rfl,fun k hk=>?_⟩
        rw [htk,B0l,C4g (by rw [A2s];simpa using hx.2)]
        show I6 f (0+(gI o t).toNat) (eI (IntKind.i64.wrap (gI (T4 _ _) (0+(gI o t).toNat)+1))) k=_
        rw [D7o,hgo]
        by_cases e1:k=(at_ (shR total (A2 ws) ws) t).2.toNat
        ·rw [if_pos e1,e1,A6,A4 (by omega) (by omega)]
        ·rw [if_neg e1,H7 e1];exact hf k hk
theorem B9n (us:List B3) (mine:List Int) (h:E5 us) (hm:O4 us mine) (st:St):S P 253 [C4 us,A9 mine] st fun v st'=>v=.bool true∧st'=st:=by
 have hlen:=h.len
 have hml:=hm.len
 refine F7 [] Tryz.func253 ?_
 rw [D7j (show ¬(us.length:Int)>100000 by omega)];conv=>whnf
 refine lp us.length [0,1,5,6] (fun i vs s=>vs=[C4 us,A9 mine,eI (A2 ((D9 us).take i)),eI i]∧s=st) ?_ ?_
 ·conv=>whnf
  exact ⟨rfl,rfl⟩
 ·rintro i vs st' hi ⟨rfl,rfl⟩
  conv=>whnf
  cases hd:decide ((i:Int)<(us.length:Int))
  case true =>
   have hi':=D6 hd
   have e:=K4 (l:=D9 us) (i:=i) (by rw [D7i];exact hi')
   have e4:gI (D9 us) i=(gU us i).net:=D4 B3.net us hi'
   have h1:=C1 (l:=(D9 us).take i) (fun x hx=>h.nets0 x (D8e _ _ hx))
   have h2:=N5 h.nets0 (i+1)
   have h3:=h.sum
   have h4:=h.at0 i
   have h5:=h.le (A5 hi')
   have w:IntKind.i64.wrap (A2 ((D9 us).take i)+(us.getD (i:Int).toNat default).net)=A2 ((D9 us).take (i+1)):=by rw [e,e4];exact A4 (by rw [D7q];show _≤A2 ((D9 us).take i)+(gU us i).net;omega) (by rw [D7q];show A2 ((D9 us).take i)+(gU us i).net≤_;omega)
   have f1:decide ((us.getD (i:Int).toNat default).net<0)=false:=D7j (by rw [D7q];show ¬(gU us i).net<0;omega)
   have f2:decide ((us.getD (i:Int).toNat default).net>10000000000000)=false:=D7j (by rw [D7q];omega)
   have f3:decide (A2 ((D9 us).take (i+1))>10000000000000)=false:=D7j (by omega)
   repeat' ((conv=>whnf);first | refine ⟨rfl,⟨by omega,by omega⟩,?_⟩ | rw [f1] | rw [f2] | rw [w,f3])
   conv=>whnf
   refine G3 ?_
   exact nx hi' ⟨by rw [B4 (by omega)],rfl⟩
  conv=>whnf
  refine lp mine.length [0,1,7] (fun i vs s=>vs=[C4 us,A9 mine,eI i]∧s=st') ?_ ?_
  ·conv=>whnf
   exact ⟨rfl,rfl⟩
  ·rintro k vs st hk ⟨rfl,rfl⟩
   conv=>whnf
   cases hd2:decide ((k:Int)<(mine.length:Int))
   ·conv=>whnf
    exact ⟨rfl,rfl⟩
   ·have hk':=D6 hd2
    have hr:0≤mine.getD (k:Int).toNat default∧(mine.getD (k:Int).toNat default).toNat<us.length:=hm.rng k hk'
    have f1:decide (mine.getD (k:Int).toNat default<0)=false:=D7j (by omega)
    have f2:decide (mine.getD (k:Int).toNat default≥(us.length:Int))=false:=D7j (by omega)
    have f3:(!(us.getD (mine.getD (k:Int).toNat default).toNat default).opn)=false:=by
     have:=hm.opn k hk'
     rw [D7J];exact this
    conv=>whnf
    refine ⟨[],[],List.range 41,by kernel_rfl,?_⟩
    rcases D8w k with h0 | h0
    ·have f4:decide ((k:Int)>0)=false:=D7j (by omega)
     repeat' ((conv=>whnf);first | refine ⟨rfl,⟨by omega,by omega⟩,?_⟩ | rw [f1] | rw [f2] | rw [f3] | rw [f4])
     conv=>whnf
     refine G3 ?_
     exact nx hk' ⟨by rw [B4 (by omega)],rfl⟩
    ·have f4:decide ((k:Int)>0)=true:=D7D (by omega)
     have hw:=A7E h0 (by omega)
     have f5:decide (mine.getD (k:Int).toNat default≤mine.getD (IntKind.i64.wrap ((k:Int) - 1)).toNat default)=false:=D7j (by
      rw [hw,D7q,D7q]
      have:=hm.lt (k - 1) k (by omega) hk'
      exact Int.not_le.2 this)
     repeat' ((conv=>whnf);first | refine ⟨rfl,⟨by omega,by omega⟩,?_⟩ | refine ⟨rfl,⟨by rw [hw];omega,by rw [hw];omega⟩,?_⟩ | rw [f1] | rw [f2] | rw [f3] | rw [f4] | rw [f5])
     conv=>whnf
     refine G3 ?_
     exact nx hk' ⟨by rw [B4 (by omega)],rfl⟩
theorem C0J (us:List B3) (mine:List Int) (h:E5 us) (hm:O4 us mine) (st:St):S P 254 [C4 us,A9 mine] st fun v st'=>v=A9 ((E1 us mine).map (·.2))∧st'=st:=by
 have hml:=hm.len
 have hul:=h.len
 have hnl:(E7 us mine).length=mine.length:=by unfold E7;rw [D7i]
 refine A0y (ty:=3) ?_
 refine F7 [] Tryz.func254 ?_
 refine I3 (A7j us mine (by omega) hm.rng st) ?_
 refine call (B7r (E7 us mine) (by omega) _) (fun v s hv=>?_)
 obtain ⟨⟨o,ho1,ho2,rfl⟩,rfl⟩:=hv
 rw [hnl] at ho1
 have hol:o.length=mine.length:=by rw [ho1.length_eq,A9N]
 have hom:∀ {k:Nat},k<o.length→0≤gI o k∧(gI o k).toNat<mine.length:=fun hk=>A8R ho1 (fun x hx=>A7e hx) hk
 have he:(E1 us mine).map (·.2)=o.map fun x=>gI mine x.toNat:=by
  have e:o.map (fun x=>C1x us (gI mine x.toNat))=E1 us mine:=by
   refine List.Perm.eq_of_pairwise (le:=fun a b=>H2 b a=false) (fun a b _ _ h1 h2=>A4J h2 h1) (List.pairwise_map.2 ?_) (A5D _) (((ho1.map _).trans ?_).trans (A3E ..).symm)
   ·refine List.Pairwise.imp_of_mem ?_ ho2
    intro a b ha hb hab
    obtain ⟨a0,a1⟩:=A7e (ho1.subset ha)
    obtain ⟨b0,b1⟩:=A7e (ho1.subset hb)
    unfold B4I B2G at hab
    have ea:gI (E7 us mine) a.toNat=(gU us (gI mine a.toNat).toNat).net:=D4 (fun i:Int=>(gU us i.toNat).net) mine a1
    have eb:gI (E7 us mine) b.toNat=(gU us (gI mine b.toNat).toNat).net:=D4 (fun i:Int=>(gU us i.toNat).net) mine b1
    rw [ea,eb,T2] at hab
    unfold C1x
    rw [T2]
    simp only at hab ⊢
    rintro (h1 | ⟨h1,h2⟩)
    ·exact hab (.inl h1)
    ·refine hab (.inr ⟨h1,?_⟩)
     refine Int.lt_of_not_ge fun hge=>?_
     rcases E0d (show a.toNat≤b.toNat by omega) with e1 | e1
     ·rw [e1] at h2;omega
     ·have:=hm.lt a.toNat b.toNat e1 b1;omega
   ·unfold A4F
    rw [D9B]
    refine List.Perm.of_eq (D9K (by simp) fun k h1 h2=>?_)
    have:k<mine.length:=by simpa using h1
    simp [gI,this]
  rw [←e,D9B];rfl
 rw [he];conv=>whnf
 refine lp o.length [1,5,6,7] (fun i vs s'=>∃ sv,vs=[A9 mine,A9 o,sv,eI i]∧E8 3 1 eI ((o.take i).map fun x=>gI mine x.toNat) s sv s') ?_ ?_
 ·conv=>whnf
  exact ⟨.emp,rfl,E8.start _ _ _ _⟩
 ·rintro i vs st' hi ⟨sv,rfl,hc⟩
  conv=>whnf
  cases hd:decide ((i:Int)<(o.length:Int))
  ·obtain rfl:=B9 hd hi
   rw [D7m] at hc;conv=>whnf
   exact hc
  ·have hi':=D6 hd
   have hx:=hom hi'
   conv=>whnf
   refine E9 ?_
   refine ⟨rfl,⟨by show 0≤gI o i;omega,by show gI o i<(mine.length:Int);omega⟩,?_⟩;conv=>whnf
   refine E8.app (q:=r3) (y:=gI mine (gI o i).toNat) rfl rfl rfl rfl rfl rfl (by show (_+1) * 8≤140737488355328;rw [D7i,D7n];omega) hc (fun sv' s' hc'=>?_);conv=>whnf
   refine G3 ?_
   refine nx hi' ⟨sv',by rw [B4 (by omega)],?_⟩
   rw [A1q hi'];exact hc'
theorem C0K (us:List B3) (items:List Ab.Item) (sc:Z4) (h1:Sm sc.skus.length) (h2:Sm sc.cats.length) (hu:us.length≤100000) (hl:∀ u∈us,0≤u.line∧u.line.toNat<items.length) (st:St) :
  S P 215 [C4 us,A8 4 F2 items,A4h sc] st fun v st'=>v=A9 (K0 sc items us us.length)∧st'=st:=by
 refine A0y (ty:=3) ?_
 refine F7 [5] Tryz.func215 ?_
 refine lp us.length [0,1,5,7,8] (fun i vs s=>∃ sv,vs=[C4 us,A8 4 F2 items,.fptr (A4h sc) 0,sv,eI i]∧E8 3 1 eI (K0 sc items us i) st sv s) ?_ ?_
 ·conv=>whnf
  exact ⟨.emp,rfl,E8.start _ _ _ _⟩
 ·rintro i vs st' hi ⟨sv,rfl,hc⟩
  conv=>whnf
  cases hd:decide ((i:Int)<(us.length:Int))
  ·obtain rfl:=B9 hd hi
   conv=>whnf
   exact hc
  ·have hi':=D6 hd
   have hlk:0≤(us.getD (i:Int).toNat default).line∧(us.getD (i:Int).toNat default).line.toNat<items.length:=hl _ (A5 hi')
   have es:=B2a sc items us i
   have hpl:=A3w sc items us i
   have eo:A2d sc items (gU us i)=((us.getD (i:Int).toNat default).opn&&B0N sc (items.getD (us.getD (i:Int).toNat default).line.toNat default)):=rfl
   rw [eo] at es
   have n1:=D0c sc (items.getD (us.getD (i:Int).toNat default).line.toNat default) h1 h2 st'
   generalize B0N sc (items.getD (us.getD (i:Int).toNat default).line.toNat default)=b1 at n1 es
   conv=>whnf
   refine ⟨[],[],List.range 17,by kernel_rfl,?_⟩;conv=>whnf
   refine E9 ?_
   cases ho:(us.getD (i:Int).toNat default).opn
   case' true =>
    rw [ho,D7u] at es;conv=>whnf
    refine E9 ?_
    refine E9 ?_
    refine ⟨_,F3 n1,?_⟩
    cases b1
    case true =>
     rw [if_pos rfl] at es;conv=>whnf
     refine E8.app (q:=r3) (y:=(i:Int)) rfl rfl rfl rfl rfl rfl (by show (_+1) * 8≤140737488355328;omega) hc (fun sv' s' hc'=>?_);conv=>whnf
     refine G3 ?_
     exact nx hi' ⟨sv',by rw [B4 (by omega)],by rw [es];exact hc'⟩
    rw [if_neg (by simp),D8X] at es
   case' false =>
    rw [ho,D7z,if_neg (by simp),D8X] at es
   all_goals (conv=>whnf)
   all_goals refine ⟨rfl,?_⟩
   all_goals (conv=>whnf)
   all_goals exact nx hi' ⟨sv,by rw [B4 (by omega)],by rw [es];exact hc⟩
theorem B2B (l:List A1g) (x:Int) (hl:l.length≤100000) (st:St):S P 285 [A8 3 Z6 l,eI x] st fun v st'=>v=.tuple [Z6 ((O9 l x).getD default),.bool (O9 l x).isSome]∧st'=st:=by
 refine A0g ?_
 refine F7 [] Tryz.func285 ?_
 intro b hb;conv=>whnf
 have w0:IntKind.i64.wrap ((l.length:Int) - 1)=(l.length:Int) - 1:=A4 (by omega) (by omega)
 refine ⟨[0,1,4,6],fun m vs st'=>∃ (i:Int) (f:Nat→AV) (u:A1g),-1≤i∧i<l.length∧(∀ k:Nat,i<k→k<l.length→decide ((l.getD k default).least≤x)=false)∧m=(i+1).toNat∧vs=[A8 3 Z6 l,eI x,.optr 3 b 0 0,eI i]∧st'=upd st b ⟨300,3,1,f⟩∧f 0=Z6 u,?_,?_⟩
 ·conv=>whnf
  exact ⟨_,(l.length:Int) - 1,_,default,by omega,by omega,fun k h1 h2=>by omega,rfl,by rw [w0],rfl,rfl⟩
 ·rintro m vs st' ⟨i,f,u,h0,hi,hno,rfl,rfl,rfl,hf⟩
  conv=>whnf
  cases h:decide (i≥0)
  ·have:=D7g h
   have hr:O9 l x=none:=A8Z fun k hk=>hno k (by omega) hk
   conv=>whnf
   refine stW (A0 ..) hf ?_
   refine L1 (A0 ..) (A6 ..) ?_
   refine ⟨by rw [hr];rfl,((F8.refl st).upd hb).over hb⟩
  ·have hi0:=D7h h
   conv=>whnf
   refine E9 ?_
   refine B7 (fun h1=>?_) (fun h1=>?_)
   ·have hr:O9 l x=some (l.getD i.toNat default):=A9a (by omega) (fun k h2 h3=>hno k (by omega) h3) h1
    rw [h1];conv=>whnf
    refine E9 ?_
    refine stW (A0 ..) hf ?_
    refine L1 (A0 ..) (A6 ..) ?_
    refine ⟨by rw [hr];rfl,((F8.refl st).upd hb).over hb⟩
   ·have w:IntKind.i64.wrap (i - 1)=i - 1:=A4 (by omega) (by omega)
    rw [h1];conv=>whnf
    refine G3 ?_
    refine ⟨i.toNat,by omega,i - 1,f,u,by omega,by omega,fun k h2 h3=>?_,by omega,by rw [w],rfl,hf⟩
    rcases (by omega:k=i.toNat∨i<k) with e | e
    ·rw [e];exact h1
    ·exact hno k e h3
def A3d (us:List B3) (mine offs:List Int) (closes:Bool):List B3×Int :=
 if A2 offs=0 then (us,0) else (if closes=true then closeB (D0 us mine offs offs.length) mine else D0 us mine offs offs.length,A2 offs)
theorem A3t {us:List B3} {mine offs:List Int} (h:∀ k,k<offs.length→gI offs k=0):∀ k,k≤offs.length→D0 us mine offs k=us
 | 0,_=>rfl
 | k+1,hk=>by
  unfold D0
  rw [A3t h k (by omega),h k (by omega)]
  unfold less1
  refine D9K (by simp) fun j h1 h2=>?_
  rw [List.getElem_set]
  split
  ·rename_i e;subst e
   have e:gU us (gI mine k).toNat=us[(gI mine k).toNat]:=by unfold gU;rw [D7c,D7k h2];rfl
   rw [e,Int.sub_zero]
  ·rfl
theorem A4e {l:List Int} (h0:∀ x∈l,0≤x) (hs:A2 l=0):∀ k,k<l.length→gI l k=0:=fun k hk=>by
 have h1:=h0 _ (A5 hk)
 have h2:=J7 h0 (A5 hk)
 show l.getD k default=0
 omega
theorem B5C (us:List B3) (mine offs:List Int) (closes:Bool) (hu:E5 us) (hm:A0n us mine) (hml:mine.length≤1000000) (hol:offs.length≤mine.length) (ho:∀ k,k<offs.length→0≤gI offs k∧gI offs k≤(gU us (gI mine k).toNat).net) (hs:A2 offs≤1000000000000000) (st:St) :
  S P 255 [C4 us,A9 mine,A9 offs,eB closes] st fun v st'=>v=.tuple [C4 (A3d us mine offs closes).1,eI (A3d us mine offs closes).2]∧st'=st:=by
 have hul:=hu.len
 have ho0:∀ x∈offs,0≤x:=fun x hx=>by obtain ⟨k,hk,rfl⟩:=D2 hx;exact (ho k hk).1
 refine S.post (post:=fun v st'=>∃ sv,v=.tuple [sv,eI (A3d us mine offs closes).2]∧A5S st (A3d us mine offs closes).1 sv st') ?_
  (fun v st' ⟨sv,hv,h⟩=>⟨_,st,⟨rfl,rfl⟩,by rw [hv];exact A7.tuple (A7.cons h.shift (A7.keep _ _)) rfl⟩)
 refine SyW [] Tryz.func255 ?_
 have nsum:=fun s=>B0c offs (by omega) ho0 (by omega) s
 have hS:A3d us mine offs closes=if A2 offs=0 then (us,0) else (if closes=true then closeB (D0 us mine offs offs.length) mine else D0 us mine offs offs.length,A2 offs):=rfl
 conv=>whnf
 refine apE (q:=C2k) rfl rfl rfl rfl (A3P _ _ _ _) (by show us.length * 24≤_;omega) (fun h0=>?_) (fun h0 b hb=>?_)
 ·have hus:us=[]:=D7O h0
  have hmi:mine.length=0:=by
   rcases D8w mine.length with e | e
   ·exact e
   ·have:=(hm.rng 0 e).2;omega
  have hof:offs=[]:=D7O (by omega)
  have hz:A2 offs=0:=by rw [hof];rfl
  rw [if_pos hz] at hS;conv=>whnf
  refine B2 (nsum _) ?_
  rw [hz];conv=>whnf
  exact ⟨_,by rw [hS];rfl,by rw [hS];exact ⟨F8.refl _,.inl ⟨hus,rfl⟩⟩⟩
 ·conv=>whnf
  refine I3 (nsum _) ?_
  cases hz:(A2 offs==0)
  case true =>
   rw [if_pos (eq_of_beq hz)] at hS;conv=>whnf
   exact ⟨_,by rw [hS];rfl,by rw [hS];exact ⟨(F8.refl _).upd hb,.inr ⟨b,hb,rfl,_,A0 ..,fun k hk=>rfl⟩⟩⟩
  rw [if_neg (ne_of_beq_false hz)] at hS;conv=>whnf
  refine lp offs.length [1,2,3,10,11] (fun i vs s=>vs=[A9 mine,A9 offs,eB closes,.own 3 b 0 us.length,eI i]∧∃ f,s=upd st b ⟨223,3,us.length,f⟩∧∀ j,j<us.length→f j=A0i (gU (D0 us mine offs i) j)) ?_ ?_
  ·conv=>whnf
   exact ⟨rfl,_,rfl,fun j hj=>rfl⟩
  ·rintro i vs s hi ⟨rfl,f,rfl,hf⟩
   conv=>whnf
   cases hd:decide ((i:Int)<(offs.length:Int))
   ·obtain rfl:=B9 hd hi
    have hlt:=Q3 us mine offs offs.length
    conv=>whnf
    refine lp mine.length [1,2,3,10,12] (fun i vs s=>(closes=false→i=0)∧vs=[A9 mine,A9 offs,eB closes,.own 3 b 0 us.length,eI i]∧∃ f,s=upd st b ⟨223,3,us.length,f⟩∧∀ j,j<us.length→f j=A0i (gU (closeB (D0 us mine offs offs.length) (mine.take i)) j)) ?_ ?_
    ·conv=>whnf
     exact ⟨fun _=>rfl,rfl,_,rfl,hf⟩
    ·clear hf
     rintro i vs s hi ⟨hci,rfl,f,rfl,hf⟩
     conv=>whnf
     have hend:(i=mine.length∨closes=false)→∀ j,j<us.length→f j=A0i (gU (A3d us mine offs closes).1 j):=fun hE=>by
      intro j hj
      have h7:=hf j hj
      have e1:(A3d us mine offs closes).1=if closes=true then closeB (D0 us mine offs offs.length) mine else D0 us mine offs offs.length:=by rw [hS]
      rw [e1]
      cases hc:closes
      ·rw [hci hc,D8B] at h7;rw [if_neg (by simp)];exact h7
      ·rcases hE with hE | hE
       ·rw [hE,D7m] at h7;rw [if_pos rfl];exact h7
       ·rw [hE] at hc;cases hc
     have hlen:(A3d us mine offs closes).1.length=us.length:=by
      rw [hS];show (if closes=true then _ else _:List B3).length=_
      split
      ·rw [A2u,hlt]
      ·exact hlt
     cases hd:decide ((i:Int)<(mine.length:Int))
     case' false =>
      have hE:=hend (.inl (B9 hd hi))
      conv=>whnf
     case' true =>
      have hi':=D6 hd
      conv=>whnf
      cases hc:closes
      case' false =>
       have hE:=hend (.inr hc)
       rw [hc] at hS hlen hE;conv=>whnf
      case' true =>
       have hr:=hm.rng i hi'
       conv=>whnf
       refine E9 ?_
       refine ⟨rfl,⟨by show 0≤gI mine i;omega,by show gI mine i<(us.length:Int);omega⟩,?_⟩;conv=>whnf
       refine stV (A0 ..) rfl (by show 0+(gI mine i).toNat<_;omega) (v:=A0i (gU (closeB (D0 us mine offs offs.length) (mine.take i)) (gI mine i).toNat)) (by rw [D7o];exact hf _ hr.2) (by rfl) ?_
       rw [C5];conv=>whnf
       refine G3 ?_
       have e:closeB (D0 us mine offs offs.length) (mine.take (i+1))=close1 (closeB (D0 us mine offs offs.length) (mine.take i)) (gI mine i).toNat:=G8 hi' _ _
       refine ⟨mine.length - (i+1),by omega,i+1,by omega,rfl,fun e=>Bool.noConfusion e,by rw [B4 (by omega)],_,rfl,fun j hj=>?_⟩
       rw [e,D7o,show (mine.getD (i:Int).toNat default).toNat=(gI mine i).toNat from rfl]
       unfold close1
       rw [A6k (by rw [A2u,hlt];exact hr.2)]
       by_cases hj2:j=(gI mine i).toNat
       ·rw [if_pos hj2,hj2,A6];rfl
       ·rw [if_neg hj2,H7 hj2];exact hf j hj
     all_goals
      refine I3 (nsum _) ?_
      refine ⟨.own 3 b 0 us.length,by rw [hS];rfl,(F8.refl st).upd hb,.inr ⟨b,hb,by rw [hlen],f,by rw [hlen];exact A0 ..,fun k hk=>?_⟩⟩
      rw [hlen] at hk
      exact hE k hk
   ·have hi':=D6 hd
    have hr:=hm.rng i (by omega)
    have hat:=A4d (offs:=offs) hm (show i<mine.length by omega)
    have hx:=ho i hi'
    have hnet1:(gU us (gI mine i).toNat).net≤10000000000000:=hu.le (A5 hr.2)
    have hfm:f (0+(gI mine i).toNat)=A0i (gU (D0 us mine offs i) (gI mine i).toNat):=by rw [D7o];exact hf _ hr.2
    conv=>whnf
    refine ⟨[20],[],List.range 21,by kernel_rfl,?_⟩;conv=>whnf
    refine E9 ?_
    refine E9 ?_
    refine ⟨rfl,⟨by show 0≤gI mine i;omega,by show gI mine i<(us.length:Int);omega⟩,?_⟩;conv=>whnf
    refine ldV (A0 ..) rfl (by show 0+(gI mine i).toNat<_;omega) hfm ?_;conv=>whnf
    refine E9 ?_
    refine ⟨rfl,⟨by show 0≤gI mine i;omega,by show gI mine i<(us.length:Int);omega⟩,?_⟩;conv=>whnf
    refine stV (A0 ..) rfl (by show 0+(gI mine i).toNat<_;omega) hfm (by rfl) ?_
    rw [C5];conv=>whnf
    refine G3 ?_
    have w:IntKind.i64.wrap ((gU (D0 us mine offs i) (gI mine i).toNat).net - gI offs i)=(gU (D0 us mine offs i) (gI mine i).toNat).net - gI offs i:=by
     rw [hat];exact A4 (by omega) (by omega)
    refine nx hi' ⟨by rw [B4 (by omega)],_,rfl,fun j hj=>?_⟩
    show _=A0i (gU (less1 (D0 us mine offs i) (gI mine i).toNat (gI offs i)) j)
    unfold less1
    rw [A6k (by rw [Q3];exact hr.2)]
    by_cases hj2:j=(gI mine i).toNat
    ·rw [if_pos hj2,hj2,←w]
     show I6 f (0+(gI mine i).toNat) _ _=_
     rw [D7o,A6];rfl
    ·rw [if_neg hj2]
     show I6 f (0+(gI mine i).toNat) _ _=_
     rw [D7o,H7 hj2];exact hf j hj
def N1 (p:B1) (x:Int):A1g:=(O9 p.tiers x).getD default
def Y7 (p:B1) (nets:List Int):List Int :=
 if p.kind=1 then nets.map fun x=>J9 x p.rate else if p.kind=2 then nets.map fun x=>R1 x 0 p.amount
 else if p.kind=6 then nets.map fun x=>R1 x (N1 p nets.length).rate (N1 p nets.length).amount
 else D1 (R1 (A2 nets) (N1 p (A2 nets)).rate (N1 p (A2 nets)).amount) nets
theorem A9F {x:Int} (h0:0≤x) (h1:x≤100000000000000):J9 x 0=0:=by
 unfold J9
 rw [if_pos ⟨by omega,by omega⟩]
 unfold V7
 rw [if_neg (by rw [(A0e x).2 ⟨h0,h1⟩];decide),Int.mul_zero]
 rfl
theorem B1Z {x rate amount:Int}:(if J9 x rate+amount<x then J9 x rate+amount else x)=R1 x rate amount:=by
 unfold R1;split<;>split<;>omega
theorem C7M (p:B1) (nets:List Int) (hp:A5X p) (hl:nets.length≤100000) (h0:∀ x∈nets,0≤x) (hs:A2 nets≤10000000000000) (st:St) :
  S P 256 [B8 p,A9 nets] st fun v st'=>v=A9 (Y7 p nets)∧st'=st:=by
 refine S.post (post:=fun v st'=>(∃ st1,F8 st st1∧E8 2 1 eI (Y7 p nets) st1 v st')∨(v=A9 (Y7 p nets)∧F8 st st')) ?_
  (fun v st' h=>⟨_,st,⟨rfl,rfl⟩,by
   rcases h with ⟨st1,h1,h2⟩ | ⟨rfl,h1⟩
   ·exact h2.shift.trans (h1.shift _)
   ·exact h1.shift _⟩)
 have hx1:∀ x∈nets,x≤10000000000000:=fun x hx=>D9X (J7 h0 hx) hs
 have hsn:=C1 h0
 refine F7 [2] Tryz.func256 ?_
 rcases hp.kind with hk | hk | hk | hk
 ·have hL:Y7 p nets=nets.map fun x=>J9 x p.rate:=by unfold Y7;rw [if_pos hk]
  rw [show (p.kind==1)=true from by rw [hk];rfl,hL];conv=>whnf
  refine lp nets.length [1,2,5,6] (fun i vs s=>∃ sv,vs=[A9 nets,.fptr (B8 p) 0,sv,eI i]∧E8 2 1 eI ((nets.take i).map fun x=>J9 x p.rate) st sv s) ?_ ?_
  ·conv=>whnf
   exact ⟨.emp,rfl,E8.start _ _ _ _⟩
  ·rintro i vs s hi ⟨sv,rfl,hc⟩
   conv=>whnf
   cases hd:decide ((i:Int)<(nets.length:Int))
   ·obtain rfl:=B9 hd hi
    rw [D7m] at hc;conv=>whnf
    exact .inl ⟨st,F8.refl _,hc⟩
   ·have hi':=D6 hd
    conv=>whnf
    refine ⟨[8,9],[],List.range 11,by kernel_rfl,?_⟩;conv=>whnf
    refine E9 ?_
    refine cqW (A9b (nets.getD (i:Int).toNat default) p.rate _) ?_
    refine E8.app (q:=r2) (y:=J9 (nets.getD (i:Int).toNat default) p.rate) rfl rfl rfl rfl rfl rfl (by show (_+1) * 8≤140737488355328;rw [D7i,D7n];omega) hc (fun sv' s' hc'=>?_);conv=>whnf
    refine G3 ?_
    exact nx hi' ⟨sv',by rw [B4 (by omega)],by rw [A1q hi'];exact hc'⟩
 ·have hL:Y7 p nets=nets.map fun x=>R1 x 0 p.amount:=by unfold Y7;rw [if_neg (by omega),if_pos hk]
  have ha:=hp.amount hk
  rw [show (p.kind==1)=false from by rw [hk];rfl,hL];conv=>whnf
  rw [show (p.kind==2)=true from by rw [hk];rfl];conv=>whnf
  refine lp nets.length [1,2,5,7] (fun i vs s=>∃ sv,vs=[A9 nets,.fptr (B8 p) 0,sv,eI i]∧E8 2 1 eI ((nets.take i).map fun x=>R1 x 0 p.amount) st sv s) ?_ ?_
  ·conv=>whnf
   exact ⟨.emp,rfl,E8.start _ _ _ _⟩
  ·rintro i vs s hi ⟨sv,rfl,hc⟩
   conv=>whnf
   cases hd:decide ((i:Int)<(nets.length:Int))
   ·obtain rfl:=B9 hd hi
    rw [D7m] at hc;conv=>whnf
    exact .inl ⟨st,F8.refl _,hc⟩
   ·have hi':=D6 hd
    have hz:J9 (nets.getD (i:Int).toNat default) 0=0:=A9F (h0 _ (A5 hi')) (D9X (hx1 _ (A5 hi')) (by decide))
    have hm:=B1Z (x:=nets.getD (i:Int).toNat default) (rate:=0) (amount:=p.amount)
    rw [hz,Int.zero_add] at hm;conv=>whnf
    refine ⟨[8,9],[],List.range 11,by kernel_rfl,?_⟩;conv=>whnf
    refine E9 ?_
    refine E8.app (q:=r2) (y:=R1 (nets.getD (i:Int).toNat default) 0 p.amount) rfl rfl rfl rfl rfl (by rw [←hm];rfl) (by show (_+1) * 8≤140737488355328;rw [D7i,D7n];omega) hc (fun sv' s' hc'=>?_);conv=>whnf
    refine G3 ?_
    exact nx hi' ⟨sv',by rw [B4 (by omega)],by rw [A1q hi'];exact hc'⟩
 ·have hL:Y7 p nets=D1 (R1 (A2 nets) (N1 p (A2 nets)).rate (N1 p (A2 nets)).amount) nets:=by unfold Y7;rw [if_neg (by omega),if_neg (by omega),if_neg (by omega)]
  have ht:=hp.tiers (.inl hk)
  have hok:0≤(N1 p (A2 nets)).amount∧(N1 p (A2 nets)).amount≤10000000000000:=A0G ht (A2 nets)
  have hob:0≤R1 (A2 nets) (N1 p (A2 nets)).rate (N1 p (A2 nets)).amount∧R1 (A2 nets) (N1 p (A2 nets)).rate (N1 p (A2 nets)).amount≤A2 nets:=A0E hsn hok.1
  have hW:S3 (R1 (A2 nets) (N1 p (A2 nets)).rate (N1 p (A2 nets)).amount) nets:=⟨hob.1,by omega,hl,h0,by omega,fun e=>by omega⟩
  have hb:=U7 (A2 nets) (N1 p (A2 nets)).rate
  have w:IntKind.i64.wrap (J9 (A2 nets) (N1 p (A2 nets)).rate+(N1 p (A2 nets)).amount)=J9 (A2 nets) (N1 p (A2 nets)).rate+(N1 p (A2 nets)).amount:=A4 (by omega) (by omega)
  rw [show (p.kind==1)=false from by rw [hk];rfl,hL];conv=>whnf
  rw [show (p.kind==2)=false from by rw [hk];rfl];conv=>whnf
  rw [show (p.kind==6)=false from by rw [hk];rfl];conv=>whnf
  rw [show (p.kind==5)=true from by rw [hk];rfl];conv=>whnf
  refine I3 (B0c nets (by omega) h0 (by omega) _) ?_
  refine I3 (B2B p.tiers (A2 nets) (by have:=ht.1;omega) _) ?_
  intro b hbn;conv=>whnf
  refine stW (A0 ..) rfl ?_
  refine ⟨[],[],List.range 15,by kernel_rfl,?_⟩;conv=>whnf
  refine ldV (A0 ..) rfl (by omega) (v:=Z6 (N1 p (A2 nets))) (by rw [A6];rfl) ?_;conv=>whnf
  refine cqW (A9b (A2 nets) (N1 p (A2 nets)).rate _) ?_
  refine ldV (A0 ..) rfl (by omega) (v:=Z6 (N1 p (A2 nets))) (by rw [A6];rfl) ?_;conv=>whnf
  rw [w,B1Z]
  refine cqW (A8a _ nets hW _) ?_
  exact .inr ⟨rfl,((F8.refl st).upd hbn).over hbn⟩
 ·have hL:Y7 p nets=nets.map fun x=>R1 x (N1 p nets.length).rate (N1 p nets.length).amount:=by unfold Y7;rw [if_neg (by omega),if_neg (by omega),if_pos hk]
  have ht:=hp.tiers (.inr hk)
  have hok:0≤(N1 p nets.length).amount∧(N1 p nets.length).amount≤10000000000000:=A0G ht nets.length
  rw [show (p.kind==1)=false from by rw [hk];rfl,hL];conv=>whnf
  rw [show (p.kind==2)=false from by rw [hk];rfl];conv=>whnf
  rw [show (p.kind==6)=true from by rw [hk];rfl];conv=>whnf
  refine I3 (B2B p.tiers nets.length (by have:=ht.1;omega) _) ?_
  intro b hbn;conv=>whnf
  refine stU (A0 ..) rfl ?_
  rw [C5];conv=>whnf
  generalize hst1:upd st b _=st1
  obtain ⟨f1,hs1,hf1⟩:∃ f,st1 b=some ⟨300,3,1,f⟩∧f 0=Z6 (N1 p nets.length):=⟨_,by rw [←hst1];exact A0 ..,by rw [A6];rfl⟩
  have hsup:F8 st st1:=by rw [←hst1];exact (F8.refl st).upd hbn
  clear hst1
  refine lp nets.length [1,5,8,10] (fun i vs s=>∃ sv,vs=[A9 nets,sv,.optr 3 b 0 0,eI i]∧E8 2 1 eI ((nets.take i).map fun x=>R1 x (N1 p nets.length).rate (N1 p nets.length).amount) st1 sv s) ?_ ?_
  ·conv=>whnf
   exact ⟨.emp,rfl,E8.start _ _ _ _⟩
  ·rintro i vs s hi ⟨sv,rfl,hc⟩
   have hb2:=hc.sup b _ hs1
   conv=>whnf
   cases hd:decide ((i:Int)<(nets.length:Int))
   ·obtain rfl:=B9 hd hi
    rw [D7m] at hc;conv=>whnf
    exact .inl ⟨st1,hsup,hc⟩
   ·have hi':=D6 hd
    have hb:=U7 (nets.getD (i:Int).toNat default) (N1 p nets.length).rate
    have w:IntKind.i64.wrap (J9 (nets.getD (i:Int).toNat default) (N1 p nets.length).rate+(N1 p nets.length).amount)=J9 (nets.getD (i:Int).toNat default) (N1 p nets.length).rate+(N1 p nets.length).amount:=A4 (by omega) (by omega)
    have hm:=B1Z (x:=nets.getD (i:Int).toNat default) (rate:=(N1 p nets.length).rate) (amount:=(N1 p nets.length).amount)
    rw [←w] at hm;conv=>whnf
    refine ⟨[16,17],[],List.range 19,by kernel_rfl,?_⟩;conv=>whnf
    refine E9 ?_
    refine E9 ?_
    refine L1 hb2 hf1 ?_
    refine cqW (A9b (nets.getD (i:Int).toNat default) (N1 p nets.length).rate _) ?_
    refine L1 hb2 hf1 ?_
    refine E8.app (q:=r2) (y:=R1 (nets.getD (i:Int).toNat default) (N1 p nets.length).rate (N1 p nets.length).amount) rfl rfl rfl rfl rfl (by rw [←hm];rfl) (by show (_+1) * 8≤140737488355328;rw [D7i,D7n];omega) hc (fun sv' s' hc'=>?_);conv=>whnf
    refine G3 ?_
    exact nx hi' ⟨sv',by rw [B4 (by omega)],by rw [A1q hi'];exact hc'⟩
theorem C5O {α : Type} (l:List α):A2 (l.map fun _=>(0:Int))=0:=by
 induction l with
 | nil=>rfl
 | cons x l ih=>rw [D8k,show (0:Int)::l.map (fun _=>(0:Int))=[0]++l.map (fun _=>(0:Int)) from rfl,G2,ih];rfl
theorem C4E {p:B1} (hp:A5X p) {nets:List Int} (h0:∀ x∈nets,0≤x) (hs:A2 nets≤10000000000000) (hl:nets.length≤100000) :
  Y7 p nets=P6 p nets∨(P6 p nets=[]∧A2 (Y7 p nets)=0∧(Y7 p nets).length=nets.length∧∀ k,k<(Y7 p nets).length→gI (Y7 p nets) k=0):=by
 have hx1:∀ x∈nets,x≤10000000000000:=fun x hx=>D9X (J7 h0 hx) hs
 have ok:=A4b hp.right
 rcases hp.kind with hk | hk | hk | hk
 ·refine .inl ?_
  unfold Y7 P6 B6V
  rw [if_pos hk,if_pos hk]
  refine D8x fun x hx=>?_
  have hr:1≤p.rate∧p.rate≤10000:=by
   have:=hp.right
   unfold I0 A7y A8P at this
   rw [if_pos hk] at this
   simp only [D7f,D3] at this
   exact this.2
  have:=A5B (h0 x hx) (show 0≤p.rate by omega) hr.2
  unfold R1
  rw [D9s];split<;>omega
 ·refine .inl ?_
  unfold Y7 P6 B6U
  rw [if_neg (by omega),if_pos hk,if_neg (by omega),if_pos hk]
 ·unfold Y7 P6 A5O
  rw [if_neg (by omega),if_neg (by omega),if_neg (by omega),if_neg (by omega),if_neg (by omega),if_pos hk]
  cases hr:O9 p.tiers (A2 nets) with
  | some t=>refine .inl ?_;unfold N1;rw [hr];rfl
  | none =>
   have hsn:=C1 h0
   have e:R1 (A2 nets) (N1 p (A2 nets)).rate (N1 p (A2 nets)).amount=0:=by
    unfold N1;rw [hr]
    show R1 (A2 nets) 0 0=0
    unfold R1
    rw [A9F hsn (by omega),D9s];split<;>omega
   rw [e]
   have hW:S3 0 nets:=⟨by omega,by omega,hl,h0,by omega,fun _=>rfl⟩
   obtain ⟨a,b,c⟩:=U3 hW
   exact .inr ⟨rfl,a,b,A4e c a⟩
 ·unfold Y7 P6 A5N
  rw [if_neg (by omega),if_neg (by omega),if_pos hk,if_neg (by omega),if_neg (by omega),if_neg (by omega)]
  cases hr:O9 p.tiers nets.length with
  | some t=>refine .inl ?_;unfold N1;rw [hr];rfl
  | none =>
   have e:(nets.map fun x=>R1 x (N1 p nets.length).rate (N1 p nets.length).amount)=nets.map fun _=>(0:Int):=by
    refine D8x fun x hx=>?_
    unfold N1;rw [hr]
    show R1 x 0 0=0
    unfold R1
    rw [A9F (h0 x hx) (D9X (hx1 x hx) (by decide)),D9s]
    have:=h0 x hx
    split<;>omega
   rw [e]
   exact .inr ⟨rfl,C5O nets,by simp,fun k hk=>by rw [D7i] at hk;exact D4 (fun _:Int=>(0:Int)) nets hk⟩
theorem A5v (us:List B3) (mine:List Int):(E7 us mine).length=mine.length:=D7i ..
theorem B2f {us:List B3} (hu:E5 us) {mine:List Int} (hm:O4 us mine):(∀ x∈E7 us mine,0≤x)∧A2 (E7 us mine)≤10000000000000:=by
 have hwl:=B3e hu hm.places
 have hus:=hu.sum
 exact ⟨fun x hx=>by obtain ⟨i,hi,rfl⟩:=D7y.1 hx;exact hu.at0 _,by rw [A8L];omega⟩
theorem B6O {p:B1} {us:List B3} {mine:List Int} (h0:∀ x∈P6 p (E7 us mine),0≤x):A3d us mine (P6 p (E7 us mine)) p.closes=A0p p us mine:=by
 have hn:=C1 h0
 unfold A3d A0p
 by_cases hz:A2 (P6 p (E7 us mine))=0
 ·rw [if_pos hz]
  simp only
  rw [hz,A3t (A4e h0 hz) _ (D7l _)];rfl
 ·rw [if_neg hz]
  simp only
  rw [D7D (show A2 (P6 p (E7 us mine))>0 by omega),D7u]
theorem C5c (p:B1) (us:List B3) (mine:List Int) (hp:A5X p) (hps:A3l p) (hu:E5 us) (hm:O4 us mine) (st:St) :
  S P 218 [B8 p,C4 us,A9 mine] st fun v st'=>v=.tuple [C4 (A0p p us mine).1,eI (A0p p us mine).2]∧st'=st:=by
 have hml:=hm.len
 have hul:=hu.len
 obtain ⟨hn0,hns⟩:=B2f hu hm
 have hnl:=A5v us mine
 have hob:=A5w hp hn0 hns (by omega)
 obtain ⟨ob1,ob2,ob3⟩:=hob
 have hle:=C0E hp hn0 hns (by omega)
 have hcz:=C4E hp hn0 hns (by omega)
 have hlen:(Y7 p (E7 us mine)).length≤mine.length:=by
  rcases hcz with e | ⟨_,_,e,_⟩
  ·rw [e];omega
  ·omega
 have hc:∀ k,k<(Y7 p (E7 us mine)).length→0≤gI (Y7 p (E7 us mine)) k∧gI (Y7 p (E7 us mine)) k≤(gU us (gI mine k).toNat).net:=fun k hk=>by
  rcases hcz with e | ⟨_,_,_,e⟩
  ·rw [e] at hk ⊢
   have h1:=hle k hk
   rw [show gI (E7 us mine) k=(gU us (gI mine k).toNat).net from D4 (fun i:Int=>(gU us i.toNat).net) mine (by omega)] at h1
   exact ⟨ob3 _ (A5 hk),h1⟩
  ·rw [e k hk];exact ⟨D7L _,hu.at0 _⟩
 have hsum:A2 (Y7 p (E7 us mine))≤1000000000000000:=by
  rcases hcz with e | ⟨_,e,_⟩<;>rw [e]<;>omega
 have hE:A3d us mine (Y7 p (E7 us mine)) p.closes=A0p p us mine:=by
  rcases hcz with e | ⟨e1,e2,_⟩
  ·rw [e];exact B6O ob3
  ·unfold A3d A0p
   rw [if_pos e2,e1];rfl
 rw [←hE]
 refine F7 [3] Tryz.func218 ?_
 refine I3 (A7Y p hps hp.right st) ?_
 refine I3 (B9n us mine hu hm st) ?_
 refine ⟨[],[],List.range 14,by kernel_rfl,?_⟩;conv=>whnf
 refine cqW (A7j us mine (by omega) hm.rng st) ?_
 refine cqW (C7M p (E7 us mine) hp (by omega) hn0 hns st) ?_
 refine cqW (B5C us mine (Y7 p (E7 us mine)) p.closes hu hm.places (by omega) hlen hc hsum st) ?_
 exact ⟨rfl,rfl⟩
def B3R (p:B1) (us:List B3) (D:List Int) (m i:Nat):Int:=if ((i % m:Nat):Int)≥p.buy then J9 (gU us (gI D i).toNat).net p.rate else 0
def J0 (p:B1) (us:List B3) (D:List Int) (m n:Nat):List Int:=(List.range n).map (B3R p us D m)
theorem B8P {us:List B3} {i:Nat} (h:i<us.length):less1 us i 0=us:=by
 unfold less1
 refine D9K (by simp) fun j h1 h2=>?_
 rw [List.getElem_set]
 split
 ·rename_i e;subst e
  have e:gU us i=us[i]:=by unfold gU;rw [D7c,D7k h];rfl
  rw [e,Int.sub_zero]
 ·rfl
theorem C6Q (d:List QE) {k:Nat} (h:k<d.length):gI (d.map (·.2)) k=(at_ d k).2:=D4 (fun e:QE=>e.2) d h
theorem B7A {p:B1} {us:List B3} {d:List QE} {m:Nat} (hP:A0n us (d.map (·.2))) {n:Nat} (hn:n≤d.length) {s:Nat} (hs:s % m=0) (hsm:s+m≤n):∀ k,k≤m →
  A1n p (D0 us (d.map (·.2)) (J0 p us (d.map (·.2)) m n) s) (d.drop s) k=(D0 us (d.map (·.2)) (J0 p us (d.map (·.2)) m n) (s+k),A2 ((J0 p us (d.map (·.2)) m n).take (s+k)) - A2 ((J0 p us (d.map (·.2)) m n).take s))
 | 0,_=>by unfold A1n;rw [D9v,Int.sub_self]
 | k+1,hk=>by
  have ih:=B7A (p:=p) hP hn hs hsm k (by omega)
  have hln:(J0 p us (d.map (·.2)) m n).length=n:=by unfold J0;simp
  have hml:(d.map (·.2)).length=d.length:=D7i ..
  have hrg:=hP.rng (s+k) (by omega)
  have hat:=A4d (offs:=J0 p us (d.map (·.2)) m n) hP (show s+k<(d.map (·.2)).length by omega)
  have he:gI (J0 p us (d.map (·.2)) m n) (s+k)=if (k:Int)<p.buy then 0 else J9 (gU us (gI (d.map (·.2)) (s+k)).toNat).net p.rate:=by
   unfold J0
   rw [N3 _ (by omega)]
   unfold B3R
   rw [show (s+k) % m=k by rw [Nat.add_mod,hs,D7o,Nat.mod_mod,E0c (by omega)]]
   split<;>split<;>first | rfl | omega
  have hdr:at_ (d.drop s) k=at_ d (s+k):=by unfold at_;rw [D7c,D7c,D8J]
  have hts:=K4 (l:=J0 p us (d.map (·.2)) m n) (i:=s+k) (by omega)
  rw [←D9M]
  unfold A1n
  rw [ih,hts,he,hdr,←C6Q d (by omega)]
  split
  ·rw [D9s]
   show _=(less1 _ _ _,_)
   rw [he,if_pos (by assumption),B8P (by rw [Q3];exact hrg.2)]
  ·show _=(less1 _ _ _,_)
   rw [he,if_neg (by assumption),hat]
   congr 1
   show _ - _+_=_
   omega
theorem C0e {p:B1} {us:List B3} {d:List QE} {m:Nat} (hP:A0n us (d.map (·.2))) {q:Nat} (hn:q * m≤d.length):∀ r,r≤q →
  bgF p us d m r=(D0 us (d.map (·.2)) (J0 p us (d.map (·.2)) m (q * m)) (r * m),A2 ((J0 p us (d.map (·.2)) m (q * m)).take (r * m)))
 | 0,_=>by rw [Nat.zero_mul];rfl
 | r+1,hr=>by
  have ih:=C0e (p:=p) hP hn r (by omega)
  have e:(r+1) * m=r * m+m:=Nat.succ_mul r m
  have h1:r * m+m≤q * m:=by rw [←e];exact D8c m hr
  have h2:=B7A (p:=p) hP hn (s:=r * m) (Nat.mul_mod_left ..) h1 m (D7l _)
  unfold bgF
  rw [ih]
  simp only
  rw [h2,e]
  congr 1
  show _+(_ - _)=_
  omega
theorem B6x {us:List B3} {mine:List Int} (hm:O4 us mine):A0n us ((E1 us mine).map (·.2)):=by
 have hp:((E1 us mine).map (·.2)).Perm mine:=by
  refine ((A3E us mine).map _).trans (List.Perm.of_eq ?_)
  rw [D9B]
  exact (D8x fun x _=>rfl).trans (List.map_id mine)
 have hnd:mine.Pairwise (·≠·):=by
  rw [D8I]
  intro i j hi hj hij
  have:=hm.lt i j hij hj
  simp only [gI,D7c,D7k hi,D7k hj,Option.getD_some] at this
  omega
 have hr:∀ k,k<((E1 us mine).map (·.2)).length→0≤gI ((E1 us mine).map (·.2)) k∧(gI ((E1 us mine).map (·.2)) k).toNat<us.length:=fun k hk=>A8R (P:=fun x=>0≤x∧x.toNat<us.length) hp (fun x hx=>by obtain ⟨j,hj,rfl⟩:=D2 hx;exact hm.rng j hj) hk
 refine ⟨hr,fun i k hik hk=>?_⟩
 have h1:=(hp.symm.pairwise hnd (fun h=>h.symm))
 have:=B4q h1 hik hk
 have:=hr i (by omega)
 have:=hr k hk
 omega
theorem A0n.take {us:List B3} {l:List Int} (h:A0n us l) (n:Nat):A0n us (l.take n):=by
 have e:∀ k,k<(l.take n).length→gI (l.take n) k=gI l k∧k<l.length:=fun k hk=>by
  rw [D7n] at hk
  unfold gI
  rw [D7c,D7c,D7r (by omega)]
  exact ⟨rfl,by omega⟩
 exact ⟨fun k hk=>by rw [(e k hk).1];exact h.rng k (e k hk).2,fun i k hik hk=>by rw [(e k hk).1,(e i (by omega)).1];exact h.ne i k hik (e k hk).2⟩
theorem A9i {us:List B3} {l offs:List Int} {n:Nat}:∀ k,k≤n→D0 us (l.take n) offs k=D0 us l offs k
 | 0,_=>rfl
 | k+1,hk=>by
  unfold D0
  rw [A9i k (by omega)]
  congr 1
  unfold gI;rw [D7c,D7c,D7r (by omega)]
set_option maxHeartbeats 400000 in
theorem C2m (p:B1) (us:List B3) (mine:List Int) (hps:A3l p) (hright:I0 p=true) (hk:p.kind=3) (hp:B1o p) (hu:E5 us) (hm:O4 us mine) (st:St) :
  S P 217 [B8 p,C4 us,A9 mine] st fun v st'=>v=.tuple [C4 (X7 p us mine).1,eI (X7 p us mine).2]∧st'=st:=by
 have hB:=hp.buy
 have hG:=hp.get
 have hml:=hm.len
 have hul:=hu.len
 have hdl:((E1 us mine).map (·.2)).length=mine.length:=by rw [D7i,A2v]
 have hP:=B6x hm
 obtain ⟨m,hm1⟩:∃ m:Nat,(m:Int)=p.buy+p.get:=⟨(p.buy+p.get).toNat,by omega⟩
 have w1:IntKind.i64.wrap (p.buy+p.get)=(m:Int):=by rw [A4 (by omega) (by omega)];omega
 have hq0:mine.length / m * m≤mine.length:=Nat.div_mul_le_self ..
 have hbg:=C0e (p:=p) (m:=m) hP (q:=mine.length / m) (by rw [A2v];exact hq0) _ (D7l _)
 have hout:X7 p us mine=(if (decide (A2 (J0 p us ((E1 us mine).map (·.2)) m (mine.length / m * m))>0)&&p.closes)=true then closeB (D0 us ((E1 us mine).map (·.2)) (J0 p us ((E1 us mine).map (·.2)) m (mine.length / m * m)) (mine.length / m * m)) (((E1 us mine).map (·.2)).take (mine.length / m * m)) else D0 us ((E1 us mine).map (·.2)) (J0 p us ((E1 us mine).map (·.2)) m (mine.length / m * m)) (mine.length / m * m),A2 (J0 p us ((E1 us mine).map (·.2)) m (mine.length / m * m))):=by
  have hl:(J0 p us ((E1 us mine).map (·.2)) m (mine.length / m * m)).length=mine.length / m * m:=by unfold J0;simp
  unfold X7
  simp only
  rw [show (p.buy+p.get).toNat=m by omega,A2v,hbg]
  simp only
  rw [show (J0 p us ((E1 us mine).map (·.2)) m (mine.length / m * m)).take (mine.length / m * m)=J0 p us ((E1 us mine).map (·.2)) m (mine.length / m * m) from D8T (by omega),List.map_take]
 refine F7 [3] Tryz.func217 ?_
 refine I3 (A7Y p hps hright st) ?_
 rw [show (p.kind != 3)=false from by rw [hk];rfl];conv=>whnf
 refine I3 (B9n us mine hu hm st) ?_
 refine B2 (C0J us mine hu hm st) ?_
 clear hbg
 generalize (E1 us mine).map (·.2)=D at *
 conv=>whnf
 rw [w1,D7j (show ¬(m:Int)=0 by omega)];conv=>whnf
 have hN:IntKind.i64.wrap ((D.length:Int) - (D.length:Int).tmod (m:Int))=((mine.length / m * m:Nat):Int):=by
  rw [hdl,D8M (by omega),←Int.natCast_emod]
  have:=Nat.div_add_mod mine.length m
  rw [Nat.mul_comm] at this
  rw [A4 (by omega) (by omega)];omega
 rw [hN]
 generalize hNe:mine.length / m * m=N at *
 refine ⟨rfl,⟨by omega,by omega,by omega⟩,?_⟩;conv=>whnf
 refine lp N [1,3,8,9,10,11] (fun i vs s=>∃ sv,vs=[C4 us,.fptr (B8 p) 0,.arr 1 N (fun i=>eI (D.getD ((0:Int).toNat+i) default)),eI m,sv,eI i]∧E8 2 1 eI (J0 p us D m i) st sv s) ?_ ?_
 ·conv=>whnf
  exact ⟨.emp,rfl,E8.start _ _ _ _⟩
 ·rintro i vs s hi ⟨sv,rfl,hc⟩
  conv=>whnf
  cases hd:decide ((i:Int)<(N:Int))
  ·obtain rfl:=B9 hd hi
   have hln:(J0 p us D m i).length=i:=by unfold J0;simp
   have hb0:∀ k,k<(J0 p us D m i).length→0≤gI (J0 p us D m i) k∧gI (J0 p us D m i) k≤(gU us (gI (D.take i) k).toNat).net:=fun k hk=>by
    have e:gI (D.take i) k=gI D k:=by unfold gI;rw [D7c,D7c,D7r (by omega)]
    rw [e]
    unfold J0
    rw [N3 _ (by omega)]
    unfold B3R
    have h9:=hu.at0 (gI D k).toNat
    split
    ·exact ⟨(U7 _ _).1,A5B h9 hp.rate.1 hp.rate.2⟩
    ·exact ⟨D7L _,h9⟩
   have h0s:∀ x∈J0 p us D m i,0≤x:=fun x hx=>by obtain ⟨k,hk,rfl⟩:=D2 hx;exact (hb0 k hk).1
   have hsum:A2 (J0 p us D m i)≤1000000000000000:=by
    have h5:=A2O hu (hP.take i) (offs:=J0 p us D m i) (by rw [hln,D7n];omega) hb0 (J0 p us D m i).length (D7l _)
    rw [D7m] at h5
    have:=h5.sum
    have:=hu.sum
    have:=C1 (h5.ok hu).nets0
    omega
   have hE:A3d us (D.take i) (J0 p us D m i) p.closes=X7 p us mine:=by
    rw [hout]
    unfold A3d
    rw [hln,A9i i (D7l _)]
    have hn:=C1 h0s
    by_cases hz:A2 (J0 p us D m i)=0
    ·rw [if_pos hz,hz,A3t (A4e h0s hz) i (by omega)];rfl
    ·rw [if_neg hz,D7D (show A2 (J0 p us D m i)>0 by omega),D7u]
   rw [←hE];conv=>whnf
   have hsh:A7 [C4 us,.arr 1 i (fun i=>eI (D.getD ((0:Int).toNat+i) default)),sv,eB p.closes] s [C4 us,A9 (D.take i),A9 (J0 p us D m i),eB p.closes] st:=by
    refine A7.cons (t:=s) (A7.keep _ _) (A7.cons (t:=s) ?_ (A7.cons hc.shift (A7.keep _ _)))
    have e:A9 (D.take i)=.arr 1 i (fun k=>eI (gI (D.take i) k)):=by unfold A9 A8;rw [D7n,E0j (by omega)]
    rw [e]
    refine A7.arr fun k hk=>?_
    show eI (D.getD ((0:Int).toNat+k) default)=eI ((D.take i).getD k default)
    rw [show (0:Int).toNat+k=k by simp,D7c,D7c,D7r hk]
   refine E2 hsh (B2 (B5C us (D.take i) (J0 p us D m i) p.closes hu (hP.take i) (by rw [D7n];omega) (by rw [hln,D7n];omega) hb0 hsum st) ?_);conv=>whnf
   exact ⟨rfl,rfl⟩
  ·have hi':=D6 hd
   have hr:=hP.rng i (by omega)
   have hrem:(i:Int).tmod (m:Int)=((i % m:Nat):Int):=by rw [D8M (by omega),Int.natCast_emod]
   have hln:(J0 p us D m i).length=i:=by unfold J0;simp
   have hsn:J0 p us D m (i+1)=J0 p us D m i++[B3R p us D m i]:=by unfold J0;rw [D8G,D7M];rfl
   have hbo:B3R p us D m i=if ((i % m:Nat):Int)≥p.buy then J9 (gU us (gI D i).toNat).net p.rate else 0:=rfl
   conv=>whnf
   refine ⟨[],[],List.range 6,by kernel_rfl,?_⟩;conv=>whnf
   rw [D7j (show ¬(m:Int)=0 by omega)];conv=>whnf
   rw [hrem]
   refine B7 (fun h1=>?_) (fun h1=>?_)<;>rw [h1]
   case' refine_1 =>
    rw [if_pos (D7h h1)] at hbo;conv=>whnf
    refine ⟨[],[],List.range 12,by kernel_rfl,?_⟩;conv=>whnf
    refine E9 ?_
    rw [show (0:Int).toNat+(i:Int).toNat=i by simp]
    refine ⟨rfl,⟨by show 0≤gI D i;omega,by show gI D i<(us.length:Int);omega⟩,?_⟩;conv=>whnf
    refine ⟨_,F3 (A9b (gU us (gI D i).toNat).net p.rate _),?_⟩
    rw [←hbo]
   case' refine_2 =>
    rw [if_neg (D7g h1)] at hbo
   all_goals (conv=>whnf)
   all_goals refine E8.app (q:=r2) (y:=B3R p us D m i) rfl rfl rfl rfl rfl (by first | rfl | (rw [hbo];rfl)) (by show (_+1) * 8≤140737488355328;omega) hc (fun sv' s' hc'=>?_)
   all_goals (conv=>whnf)
   all_goals refine ⟨rfl,?_⟩
   all_goals (conv=>whnf)
   all_goals exact nx hi' ⟨sv',by rw [B4 (by omega)],by rw [hsn];exact hc'⟩
theorem C2V (used:List Bool) (l:List QE):∃ pre,l=pre++(P2 used l).2∧∀ e∈pre,used.getD e.2.toNat default=true∨(P2 used l).1=some e.2:=by
 induction l with
 | nil=>exact ⟨[],rfl,fun e h=>by cases h⟩
 | cons e l ih =>
  by_cases hu:used.getD e.2.toNat default=true
  ·have ht:P2 used (e::l)=P2 used l:=by
    show (if used.getD e.2.toNat default=true then P2 used l else (some e.2,l))=_
    rw [if_pos hu]
   obtain ⟨pre,h1,h2⟩:=ih
   rw [ht]
   exact ⟨e::pre,by rw [D9w,←h1],fun x hx=>by
    rcases D8A.1 hx with rfl | hx
    ·exact .inl hu
    ·exact h2 x hx⟩
  ·have ht:P2 used (e::l)=(some e.2,l):=by
    show (if used.getD e.2.toNat default=true then P2 used l else (some e.2,l))=_
    rw [if_neg hu]
   rw [ht]
   exact ⟨[e],rfl,fun x hx=>by rw [D7I] at hx;subst hx;exact .inr rfl⟩
theorem B9L {used:List Bool} {pre:List QE} (h:∀ e∈pre,used.getD e.2.toNat default=true) (l:List QE):P2 used (pre++l)=P2 used l:=by
 induction pre with
 | nil=>rfl
 | cons e pre ih =>
  show (if used.getD e.2.toNat default=true then P2 used (pre++l) else (some e.2,pre++l))=_
  rw [if_pos (h e (D7G ..))]
  exact ih fun x hx=>h x (D7E _ hx)
def A4v (E:Nat→List QE) (n:Nat) (s:MSt):Prop:=∀ k,k<n→∃ pre,E k=pre++s.es k∧∀ e∈pre,s.used.getD e.2.toNat default=true
theorem A6F {used:List Bool} {i:Nat} (hi:i<used.length) (j:Nat):(used.set i true).getD j default=if j=i then true else used.getD j default:=by
 simp only [D7c,D8W]
 by_cases h:j=i
 ·subst h;simp [hi]
 ·rw [if_neg (fun e=>h e.symm),if_neg h]
theorem A4v.take {E:Nat→List QE} {us:List B3} {n:Nat} {s s':MSt} (h:A4v E n s) (hok:MOk us n s) {k:Nat} (hk:k<n) (ht:A1p k s=some s'):A4v E n s':=by
 obtain ⟨pre0,p1,p2⟩:=C2V s.used (s.es k)
 obtain ⟨_,t2,_,_⟩:=A3R s.used (s.es k)
 unfold A1p at ht
 split at ht
 ·cases ht
 ·rename_i i hi
  cases ht
  obtain ⟨e0,he0,rfl,_⟩:=t2 i hi
  have hlt:e0.2.toNat<s.used.length:=by rw [hok.len];exact (hok.rng k hk e0 he0).2
  intro j hj
  obtain ⟨pre,h1,h2⟩:=h j hj
  have hmono:∀ e:QE,s.used.getD e.2.toNat default=true→(s.used.set e0.2.toNat true).getD e.2.toNat default=true:=fun e he=>by
   rw [A6F hlt];split
   ·rfl
   ·exact he
  by_cases ej:j=k
  ·subst ej
   refine ⟨pre++pre0,?_,fun e he=>?_⟩
   ·show E j=_++A0C s.es j _ j
    rw [H8,D8z,←p1];exact h1
   ·rcases D8s.1 he with he | he
    ·exact hmono e (h2 e he)
    ·rcases p2 e he with he | he
     ·exact hmono e he
     ·rw [hi] at he
      have he:=Option.some.inj he
      show (s.used.set _ true).getD _ default=true
      rw [A6F hlt,if_pos (by rw [he])]
  ·refine ⟨pre,?_,fun e he=>hmono e (h2 e he)⟩
   show E j=_++A0C s.es k _ j
   rw [O0 ej];exact h1
theorem A4v.takes {E:Nat→List QE} {us:List B3} {n:Nat} {s:MSt} (h:A4v E n s) (hok:MOk us n s) {k:Nat} (hk:k<n):∀ {c:Nat} {s':MSt},U1 k c s=some s'→A4v E n s'
 | 0,s',e=>by cases e;exact h
 | c+1,s',e=>by
  unfold U1 at e
  obtain ⟨s1,h1,h2⟩:=D8m.1 e
  exact (A4v.takes h hok hk h1).take (hok.takes hk h1) hk h2
theorem A4v.parts {E:Nat→List QE} {us:List B3} {p:B1} {s:MSt} (h:A4v E p.parts.length s) (hok:MOk us p.parts.length s):∀ {k:Nat} {s':MSt},k≤p.parts.length→M9 p.parts k s=some s'→A4v E p.parts.length s'
 | 0,s',_,e=>by cases e;exact h
 | k+1,s',hk,e=>by
  unfold M9 at e
  obtain ⟨s1,h1,h2⟩:=D8m.1 e
  exact (A4v.parts h hok (by omega) h1).takes (MOk.parts hok (by omega) h1) (by omega) h2
def A9O (p:B1) (ms:MSt):List Int:=match M9 p.parts p.parts.length ms with | none=>[] | some s=>C3 s.l
theorem D0e (p:B1) (hp:A4t p) (us:List B3) (hul:us.length≤100000) (E:Nat→List QE) (L:List (List Int)) (hL:L.length=p.parts.length) (hLE:∀ k,k<p.parts.length→L.getD k default=(E k).map (·.2)) (hE:∀ k,k<p.parts.length→(E k).length≤100000∧∀ e∈E k,0≤e.2∧e.2.toNat<us.length)
  (ms:MSt) (hl0:ms.l=[]) (hm:MOk us p.parts.length ms) (hpre:A4v E p.parts.length ms) (bu:Nat) (gu:Nat→AV) (st:St) (bl:Nat) (gl:Nat→AV) (hbl:st bl=some ⟨29,1,L.length,gl⟩) (hgl:∀ k,k<L.length→gl k=A9 (L.getD k default)) (hbu:st bu=some ⟨4,1,us.length,gu⟩) (hgu:∀ k,k<us.length→gu k=eB (ms.used.getD k default)) :
  S P 257 [B8 p,C4 us,.own 1 bl 0 L.length,.own 1 bu 0 us.length] st fun v st'=>v=A9 (A9O p ms)∧st'=st:=by
 refine S.post (post:=fun v st'=>((v=.emp∧A9O p ms=[])∨v=A9 (A9O p ms))∧F8 st st') ?_
  (fun v st' ⟨h,hs⟩=>⟨_,st,⟨rfl,rfl⟩,by
   rcases h with ⟨rfl,h⟩ | rfl
   ·rw [h];exact (hs.shift _).trans (I5 1 _)
   ·exact hs.shift _⟩)
 have hn8:=hp.n8
 refine SyW [4] Tryz.func257 ?_
 have main:∀ (tv:AV) (s0:St) ,Col 4 1 (fun k=>eB (ms.used.getD k default)) st us.length tv s0→True:=fun _ _ _=>trivial
 conv=>whnf
 refine Col.apps (q:=r4) (f:=fun k=>eB (ms.used.getD k default)) rfl rfl rfl rfl (D0r hbu rfl (by show 0+us.length≤us.length;omega)) (fun i hi=>by show gu (0+i)=eB (ms.used.getD (0+i) default);rw [D7o];exact hgu i hi) (by show (0+us.length) * 1≤_;omega) (Col.start _ _ _ st) (fun tv s0 hc0=>?_)
 rw [D7o] at hc0
 clear main
 conv=>whnf
 refine lp p.parts.length [2,4,9,10,11] (fun i vs s=>∃ sv tv s0 si,vs=[.own 1 bl 0 L.length,.fptr (B8 p) 0,sv,tv,eI i]∧M9 p.parts i ms=some si∧Col 4 1 (fun k=>eB (si.used.getD k default)) st us.length tv s0∧E8 3 1 eI si.l s0 sv s) ?_ ?_
 ·conv=>whnf
  exact ⟨.emp,tv,s0,ms,rfl,rfl,hc0,by rw [hl0];exact E8.start _ _ _ _⟩
 ·clear hc0
  rintro i vs s hi ⟨sv,tv,s0,si,rfl,hsi,hc0,hc1⟩
  have hmi:=MOk.parts hm hi hsi
  have hpi:=hpre.parts hm hi hsi
  have hleni:=A2x hp hi hsi
  rw [hl0,D8u] at hleni;conv=>whnf
  cases hd:decide ((i:Int)<(p.parts.length:Int))
  ·obtain rfl:=B9 hd hi
   have hone:A9O p ms=C3 si.l:=by unfold A9O;rw [hsi]
   conv=>whnf
   refine E2 hc1.shift (B2 (C2A si.l (by omega) _) ?_);conv=>whnf
   exact ⟨.inr (by rw [hone];rfl),hc0.sup⟩
  ·have hi':=D6 hd
   have hLi:L.getD (i:Int).toNat default=(E i).map (·.2):=by rw [D7q];exact hLE i hi'
   obtain ⟨hEl,hEr⟩:=hE i hi'
   have hct:=hp.at hi'
   obtain ⟨pre,hpr1,hpr2⟩:=hpi i hi'
   have hcn:(p.parts.getD (i:Int).toNat default).count=(((p.parts.getD i default).count.toNat:Nat):Int):=by rw [D7q];omega
   have hfin:M9 p.parts (i+1) ms=U1 i (p.parts.getD i default).count.toNat si:=by
    conv=>lhs;unfold M9
    rw [hsi];rfl
   have hnone:∀ n,n≤(p.parts.getD i default).count.toNat→U1 i n si=none→A9O p ms=[]:=fun n hn hnn=>by
    have h1:=A6K hnn hn
    rw [←hfin] at h1
    unfold A9O;rw [A6t h1 hi']
   have hC100:(p.parts.getD i default).count.toNat≤100:=by omega
   generalize (p.parts.getD i default).count.toNat=C at *
   conv=>whnf
   refine lp (E i).length [2,4,9,10,11,12,13] (fun k vs s=>∃ (sv tv:AV) (s0:St) (n:Nat) (si2:MSt),vs=[.own 1 bl 0 L.length,.fptr (B8 p) 0,sv,tv,eI i,eI n,eI k]∧n≤C∧U1 i n si=some si2∧P2 si2.used (si2.es i)=P2 si2.used ((E i).drop k)∧Col 4 1 (fun k=>eB (si2.used.getD k default)) st us.length tv s0∧E8 3 1 eI si2.l s0 sv s) ?_ ?_
   ·conv=>whnf
    exact ⟨sv,tv,s0,0,si,rfl,D7C _,rfl,by rw [List.drop_zero,hpr1,B9L hpr2],hc0,hc1⟩
   ·clear hc0 hc1
    rintro k vs s hk ⟨sv,tv,s0,n,si2,rfl,hn,hs2,htk,hc0,hc1⟩
    have hm2:=hmi.takes hi' hs2
    have hlen2:=A2z hs2
    have hlv:=hc1.sup bl _ (hc0.sup bl _ hbl)
    have hgi:gl (0+(i:Int).toNat)=A9 (L.getD (i:Int).toNat default):=by rw [D7o];exact hgl _ (by omega)
    conv=>whnf
    refine E9 ?_
    refine L1 hlv hgi ?_
    rw [hLi]
    have hml:((E i).map (·.2)).length=(E i).length:=D7i ..
    generalize hMe:(E i).map (·.2)=Mi at *
    rw [hml]
    cases hd1:decide ((k:Int)<((E i).length:Int))
    case' false =>
     have hbad:n<C→A9O p ms=[]:=fun hlt=>by
      obtain rfl:=B9 hd1 hk
      refine hnone (n+1) hlt ?_
      unfold U1
      rw [hs2]
      show A1p i si2=none
      unfold A1p
      rw [htk,List.drop_length];rfl
     conv=>whnf
    case' true =>
     have hk':=D6 hd1
     conv=>whnf
     refine E9 ?_
     rw [hcn]
     cases hd2:decide ((n:Int)<(C:Int))
     case' false =>
      have hbad:n<C→A9O p ms=[]:=fun hlt=>absurd hd2 (by rw [D7D (by omega)];simp)
      conv=>whnf
     case' true =>
      have hnC:=D6 hd2
      have hMk:Mi.getD (k:Int).toNat default=(at_ (E i) k).2:=by rw [←hMe,D7q];exact D4 (fun e:QE=>e.2) _ hk'
      have hu:0≤(at_ (E i) k).2∧(at_ (E i) k).2.toNat<us.length:=hEr _ (A5 hk')
      have hdrop:(E i).drop k=at_ (E i) k::(E i).drop (k+1):=by
       rw [D9h hk'];simp [at_,hk']
      have hul2:us.length=si2.used.length:=hm2.len.symm
      rcases hc0 with ⟨h0,rfl,rfl⟩ | ⟨h0,bt,g,hbt,rfl,rfl,hg⟩
      ·omega
      have hbs:=hc1.sup bt _ (A0 ..)
      conv=>whnf
      refine E9 ?_
      refine L1 hlv hgi ?_
      rw [hLi]
      refine E9 ?_
      rw [←hMk] at hu
      refine E9 ?_
      refine ldV hbs rfl (by omega) (v:=eB (si2.used.getD (Mi.getD (k:Int).toNat default).toNat default)) (by rw [D7o];exact hg _ hu.2) ?_;conv=>whnf
      refine B7 (fun h5=>?_) (fun h5=>?_)<;>rw [h5]
      ·have hfr:si2.used.getD (Mi.getD (k:Int).toNat default).toNat default=false:=by simpa using h5
       have htk2:P2 si2.used (si2.es i)=(some (Mi.getD (k:Int).toNat default),(E i).drop (k+1)):=by
        rw [htk,hdrop,hMk]
        show (if si2.used.getD (at_ (E i) k).2.toNat default=true then _ else _)=_
        rw [if_neg (by rw [←hMk,hfr];simp)]
       have hs3:U1 i (n+1) si=some ⟨si2.used.set (Mi.getD (k:Int).toNat default).toNat true,A0C si2.es i ((E i).drop (k+1)),si2.l++[(Mi.getD (k:Int).toNat default)]⟩:=by
        unfold U1
        rw [hs2]
        show A1p i si2=_
        unfold A1p
        rw [htk2]
       conv=>whnf
       refine E9 ?_
       refine stV hbs rfl (by omega) (v:=eB (si2.used.getD (Mi.getD (k:Int).toNat default).toNat default)) (by rw [D7o];exact hg _ hu.2) (by rfl) ?_
       have hc2:=Col.write hc1 (y':=⟨4,1,us.length,I6 g (0+(Mi.getD (k:Int).toNat default).toNat) (eB true)⟩) (A0 ..)
       rw [C5] at hc2;conv=>whnf
       refine E8.app (q:=r3) (y:=(Mi.getD (k:Int).toNat default)) (L:=si2.l) rfl rfl rfl rfl rfl rfl (by show (_+1) * 8≤140737488355328;omega) hc2 (fun sv' s' hc'=>?_);conv=>whnf
       refine G3 ?_
       refine nx hk' ⟨sv',.own 1 bt 0 us.length,_,n+1,_,by rw [B4 (by omega),B4 (by omega)],hnC,hs3,?_,.inr ⟨h0,bt,_,hbt,rfl,rfl,fun j hj=>?_⟩,hc'⟩
       ·show P2 _ (A0C si2.es i _ i)=_
        rw [H8]
       ·show I6 g (0+(Mi.getD (k:Int).toNat default).toNat) (eB true) j=eB ((si2.used.set (Mi.getD (k:Int).toNat default).toNat true).getD j default)
        rw [D7o,A6F (by omega)]
        by_cases ej:j=(Mi.getD (k:Int).toNat default).toNat
        ·rw [if_pos ej,ej,A6]
        ·rw [if_neg ej,H7 ej];exact hg j hj
      ·have hfr:si2.used.getD (Mi.getD (k:Int).toNat default).toNat default=true:=by simpa using h5
       conv=>whnf
       refine G3 ?_
       refine nx hk' ⟨sv,.own 1 bt 0 us.length,_,n,si2,by rw [B4 (by omega)],hn,hs2,?_,.inr ⟨h0,bt,g,hbt,rfl,rfl,hg⟩,hc1⟩
       rw [htk,hdrop]
       show (if si2.used.getD (at_ (E i) k).2.toNat default=true then P2 si2.used ((E i).drop (k+1)) else _)=_
       rw [if_pos (by rw [←hMk];exact hfr)]
    all_goals
     refine E9 ?_
     rw [hcn]
     cases hd3:decide ((n:Int)<(C:Int))
     ·obtain rfl:n=C:=by have:=D7g hd3;omega
      conv=>whnf
      refine G3 ?_
      exact nx hi' ⟨sv,tv,s0,si2,by rw [B4 (by omega)],by rw [hfin];exact hs2,hc0,hc1⟩
     ·have hb:=hbad (D6 hd3)
      conv=>whnf
      exact ⟨.inl ⟨rfl,hb⟩,hc0.sup.trans hc1.sup⟩
end Go.Proofs.YtaapofnkmpiknaaGreat
