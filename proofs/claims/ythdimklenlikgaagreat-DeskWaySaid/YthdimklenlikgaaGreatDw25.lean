/- Part 25 of the proof: contracts of the functions that the law reaches -/
import Derived.Test.YthdimklenlikgaaGreatDw24
set_option maxRecDepth 100000
set_option linter.unusedVariables false
set_option linter.unusedSimpArgs false
namespace Go.Proofs.YthdimklenlikgaaGreat
open Go Go.Ab
attribute [local irreducible] upd del
theorem A1x (x:Int) (st:St):S P 227 [eI x] st fun v st'=>v=.bool (Q4 x)∧st'=st:=by
 refine A5 [] B7 mixed Tryz.func227 (by rfl) rfl rfl rfl ?_;conv=>whnf
 unfold Q4
 cases h:decide (0≤x)
 ·conv=>whnf
  exact ⟨rfl,rfl⟩
 ·conv=>whnf
  exact ⟨rfl,rfl⟩
theorem C8h {v:Int} (h0:0≤v) (h1:v≤9223372036854775807):IntKind.i64.wrap ((BitVec.ofInt IntKind.i64.bits v &&& BitVec.ofInt IntKind.i64.bits 1).toNat:Int)=v % 2:=by
 show IntKind.i64.wrap ((BitVec.ofInt 64 v &&& BitVec.ofInt 64 1).toNat:Int)=v % 2
 obtain ⟨n,rfl⟩:=Int.eq_ofNat_of_zero_le h0
 have e1:(BitVec.ofInt 64 ((n:Nat):Int)).toNat=n:=by rw [BitVec.ofInt_natCast,BitVec.toNat_ofNat,Nat.mod_eq_of_lt (by omega)]
 have e2:(BitVec.ofInt 64 1).toNat=1:=by decide
 rw [BitVec.toNat_and,e1,e2,Nat.and_one_is_mod,A9 (by omega) (by omega)];omega
theorem B2h {d q r Y:Int} (h:Y=d * q+r) (h0:0≤r) (h1:r<d):Y / d=q∧Y % d=r:=by
 have:=(Int.ediv_emod_unique (a:=Y) (b:=d) (r:=r) (q:=q) (by omega)).2 ⟨by omega,h0,h1⟩
 exact this
def Y4 (num:Int) (j:Nat):Int:=num / 2 ^ (63 - j)
theorem B8P {num:Int} (h:0≤num) {j:Nat} (hj:j<63):Y4 num (j+1)=2 * Y4 num j+Y4 num (j+1) % 2:=by
 have e:Y4 num j=Y4 num (j+1) / 2:=by
  unfold Y4
  rw [show 63 - j=(63 - (j+1))+1 by omega,Int.pow_succ,Int.ediv_ediv_of_nonneg (Int.pow_nonneg (by omega))]
 omega
theorem A8u {num:Int} (h:0≤num) (j:Nat):0≤Y4 num j:=Int.ediv_nonneg h (Int.pow_nonneg (by omega))
theorem C2Q {num:Int} (h:0≤num) (j:Nat):Y4 num j≤num:=Int.ediv_le_self _ h
theorem C1d {num:Int} (h:0≤num) (h1:num≤100000000000000):Y4 num 0=0:=Int.ediv_eq_zero_of_lt h (by show num<2 ^ 63;omega)
theorem B7p (num:Int):Y4 num 63=num:=by unfold Y4;simp
def A7R (x num den:Int):AV:=if x * num / den>100000000000000 then .tuple [eI 0,eI 0,.bool false] else .tuple [eI (x * num / den),eI (x * num % den),.bool true]
set_option maxHeartbeats 1000000 in
theorem B0e (x num den:Int) (hx:0≤x) (hx1:x≤100000000000000) (hn:0≤num) (hn1:num≤100000000000000) (hd:0<den) (hd1:den≤100000000000000) (st:St) :
  S P 286 [eI x,eI num,eI den] st fun v st'=>v=A7R x num den∧st'=st:=by
 refine A5 [] B7 mixed Tryz.func286 (by rfl) rfl rfl rfl ?_;conv=>whnf
 refine lp 63 [0,1,2,9,10,11] (fun j vs s=>(x * Y4 num j / den≤100000000000000)∧vs=[eI x,eI num,eI den,eI (x * Y4 num j / den),eI (x * Y4 num j % den),eI (62 - (j:Int))]∧s=st) ?_ ?_
 ·conv=>whnf
  refine ⟨?_,?_,rfl⟩
  ·rw [C1d hn hn1,Int.mul_zero,Int.zero_ediv];omega
  ·rw [C1d hn hn1,Int.mul_zero,Int.zero_ediv,Int.zero_emod];rfl
 ·rintro j vs s hj ⟨hq,rfl,rfl⟩
  conv=>whnf
  have hY0:0≤x * Y4 num j:=Int.mul_nonneg hx (A8u hn j)
  have hA0:0≤x * Y4 num j / den:=Int.ediv_nonneg hY0 (by omega)
  have hB0:=Int.emod_nonneg (x * Y4 num j) (show den≠0 by omega)
  have hB1:=Int.emod_lt_of_pos (x * Y4 num j) hd
  have hY:=Int.mul_ediv_add_emod (x * Y4 num j) den
  cases h:decide (62 - (j:Int)≥0)
  ·have hj63:j=63:=by have:=of_decide_eq_false h;omega
   subst hj63
   rw [B7p] at hq;conv=>whnf
   refine ⟨?_,rfl⟩
   unfold A7R
   rw [if_neg (by omega),B7p];rfl
  ·have hj':j<63:=by have:=of_decide_eq_true h;omega
   have hC0:0≤x / den:=Int.ediv_nonneg hx (by omega)
   have hC1:x / den≤x:=Int.ediv_le_self _ hx
   have hD0:=Int.emod_nonneg x (show den≠0 by omega)
   have hD1:=Int.emod_lt_of_pos x hd
   have hX:=Int.mul_ediv_add_emod x den
   have hst:=B8P hn hj'
   have hN0:=A8u hn (j+1)
   have hN1:=C2Q hn (j+1)
   have hbit:x * Y4 num (j+1)=2 * (x * Y4 num j)+x * (Y4 num (j+1) % 2):=by
    conv=>lhs;rw [hst]
    rw [Int.mul_add,Int.mul_left_comm]
   have hshr:Int.fdiv num (2 ^ (min (IntKind.u64.wrap (62 - (j:Int))).toNat IntKind.i64.bits))=Y4 num (j+1):=by
    show Int.fdiv num (2 ^ (min (IntKind.u64.wrap (62 - (j:Int))).toNat 64))=_
    rw [B9 (by omega) (by omega)]
    unfold Y4
    rw [show min (62 - (j:Int)).toNat 64=63 - (j+1) by omega,Int.fdiv_eq_ediv_of_nonneg _ (Int.pow_nonneg (by omega))]
   have hbig:x * Y4 num (j+1) / den>100000000000000→A7R x num den=.tuple [eI 0,eI 0,.bool false]:=fun hb=>by
    unfold A7R
    refine if_pos ?_
    have:x * Y4 num (j+1) / den≤x * num / den:=Int.ediv_le_ediv hd (Int.mul_le_mul_of_nonneg_left hN1 hx)
    omega
   have hand:=C8h (v:=Y4 num (j+1)) hN0 (by omega)
   have htd:x.tdiv den=x / den:=Int.tdiv_eq_ediv_of_nonneg hx
   have htm:x.tmod den=x % den:=Int.tmod_eq_emod_of_nonneg hx
   generalize hAe:x * Y4 num j / den=A at *
   generalize hBe:x * Y4 num j % den=B at *
   generalize hYe:x * Y4 num j=Y at *
   generalize hCe:x / den=C at *
   generalize hDe:x % den=D at *
   have w1:IntKind.i64.wrap (2 * A)=2 * A:=A9 (by omega) (by omega)
   have w2:IntKind.i64.wrap (2 * B)=2 * B:=A9 (by omega) (by omega)
   conv=>whnf
   rw [w1,w2]
   -- doubled
   refine C3 (fun h1=>?_) (fun h1=>?_)<;>rw [h1]
   case' refine_1 =>
    have:=of_decide_eq_true h1
    have w3:IntKind.i64.wrap (2 * A+1)=2 * A+1:=A9 (by omega) (by omega)
    have w4:IntKind.i64.wrap (2 * B - den)=2 * B - den:=A9 (by omega) (by omega)
    have hq1:2 * Y=den * (2 * A+1)+(2 * B - den):=by rw [Int.mul_add,Int.mul_left_comm,Int.mul_one];omega
    have hq2:0≤2 * A+1∧2 * A+1≤200000000000001:=by omega
    have hr1:0≤2 * B - den∧2 * B - den<den:=by omega
    conv=>whnf
    rw [w3,w4]
    generalize 2 * A+1=q1 at *
    generalize 2 * B - den=r1 at *
   case' refine_2 =>
    have:=of_decide_eq_false h1
    have hq1:2 * Y=den * (2 * A)+(2 * B):=by rw [Int.mul_left_comm];omega
    have hq2:0≤2 * A∧2 * A≤200000000000001:=by omega
    have hr1:0≤2 * B∧2 * B<den:=by omega
    conv=>whnf
    generalize 2 * A=q1 at *
    generalize 2 * B=r1 at *
   all_goals clear w1 w2 hY hA0 hB0 hB1 hq hAe hBe
   all_goals (rw [decide_eq_false (show ¬ IntKind.u64.wrap (62 - (j:Int))<0 by rw [B9 (by omega) (by omega)];omega)])
   all_goals (conv=>whnf)
   all_goals rw [hshr,hand]
   all_goals refine C3 (fun h2=>?_) (fun h2=>?_)<;>rw [h2]
   -- a bit of num
   case' refine_2.true.refine_1.refine_1 | refine_2.true.refine_2.refine_1 =>
    have hb1:Y4 num (j+1) % 2=1:=eq_of_beq h2
    have w5:IntKind.i64.wrap C=C:=A9 (by omega) (by omega)
    have w6:IntKind.i64.wrap (q1+C)=q1+C:=A9 (by omega) (by omega)
    have w7:IntKind.i64.wrap (r1+D)=r1+D:=A9 (by omega) (by omega)
    have hd0:decide (den=0)=false:=decide_eq_false (by omega)
    rw [hb1,Int.mul_one] at hbit;conv=>whnf
    refine ⟨[],[],List.range 12,by kernel_rfl,?_⟩;conv=>whnf
    rw [hd0];conv=>whnf
    rw [hd0];conv=>whnf
    rw [htd,htm,w5,w6,w7]
    refine C3 (fun h3=>?_) (fun h3=>?_)<;>rw [h3]
    case' refine_1 =>
     have:=of_decide_eq_true h3
     have w8:IntKind.i64.wrap (q1+C+1)=q1+C+1:=A9 (by omega) (by omega)
     have w9:IntKind.i64.wrap (r1+D - den)=r1+D - den:=A9 (by omega) (by omega)
     obtain ⟨e1,e2⟩:=B2h (Y:=x * Y4 num (j+1)) (d:=den) (q:=q1+C+1) (r:=r1+D - den) (by rw [hbit,Int.mul_add,Int.mul_add,Int.mul_one];omega) (by omega) (by omega)
     conv=>whnf
     rw [w8,w9,←e1,←e2]
    case' refine_2 =>
     have:=of_decide_eq_false h3
     obtain ⟨e1,e2⟩:=B2h (Y:=x * Y4 num (j+1)) (d:=den) (q:=q1+C) (r:=r1+D) (by rw [hbit,Int.mul_add];omega) (by omega) (by omega)
     conv=>whnf
     rw [←e1,←e2]
   case' refine_2.true.refine_1.refine_2 | refine_2.true.refine_2.refine_2 =>
    have hb1:Y4 num (j+1) % 2=0:=by have:=ne_of_beq_false h2;omega
    rw [hb1,Int.mul_zero,Int.add_zero] at hbit
    obtain ⟨e1,e2⟩:=B2h (Y:=x * Y4 num (j+1)) (d:=den) (q:=q1) (r:=r1) (by rw [hbit];omega) (by omega) (by omega)
    conv=>whnf
    rw [←e1,←e2]
   all_goals refine C3 (fun h4=>?_) (fun h4=>?_)<;>rw [h4]
   all_goals (conv=>whnf)
   all_goals first
    | exact ⟨by rw [hbig (of_decide_eq_true h4)];rfl,rfl⟩
    | (refine ⟨rfl,?_⟩;conv=>whnf
       have w10:IntKind.i64.wrap (62 - (j:Int) - 1)=62 - ((j+1:Nat):Int):=by rw [A9 (by omega) (by omega)];omega
       exact nx hj' ⟨by have:=of_decide_eq_false h4;omega,by rw [w10],rfl⟩)
theorem C0E (x num den round:Int) (st:St):S P 228 [eI x,eI num,eI den,eI round] st fun v st'=>v=.tuple [eI (A1Q x num den round).1,eI (A1Q x num den round).2]∧st'=st:=by
 refine A5 [] B7 mixed Tryz.func228 (by rfl) rfl rfl rfl ?_
 by_cases hok:(Q4 x&&Q4 num&&Q4 den&&den != 0&&decide (0≤round)&&decide (round<3))=false
 ·rw [show A1Q x num den round=(0,2) from if_pos hok]
  have n1:=A1x x st
  have n2:=A1x num st
  have hok':¬(Q4 x=true∧Q4 num=true∧1≤den∧den≤100000000000000∧0≤round∧round≤2):=fun ⟨h1,h2,h3,h4,h5,h6⟩=>by
   rw [h1,h2,(A0n den).2 ⟨by omega,h4⟩,decide_eq_true h5,decide_eq_true (show round<3 by omega),bne_iff_ne.2 (show den≠0 by omega)] at hok;cases hok
  repeat' ((conv=>whnf);first | refine A4 n1 ?_ | refine A4 n2 ?_ | (refine C3 (fun h=>?_) (fun h=>?_)<;>rw [h]))
  all_goals (conv=>whnf)
  all_goals first
   | exact ⟨rfl,rfl⟩
   | (exfalso
      simp only [Bool.not_eq_false',decide_eq_false_iff_not] at *
      exact hok' ⟨by assumption,by assumption,by omega,by omega,by omega,by omega⟩)
 ·rw [Bool.not_eq_false] at hok
  have ht:A1Q x num den round=if x * num / den>100000000000000 then (0,5) else if W9 (x * num / den) (x * num % den) den round>100000000000000 then (0,5) else (W9 (x * num / den) (x * num % den) den round,0):=if_neg (by rw [hok];simp)
  simp only [Bool.and_eq_true,bne_iff_ne,ne_eq,decide_eq_true_eq] at hok
  obtain ⟨⟨⟨⟨⟨x0,n0⟩,d0⟩,d2⟩,r0⟩,r1⟩:=hok
  have x1:=(A0n x).1 x0
  have n1:=(A0n num).1 n0
  have d1:=(A0n den).1 d0
  have e1:decide (den<1)=false:=decide_eq_false (by omega)
  have e2:decide (den>100000000000000)=false:=decide_eq_false (by omega)
  have e3:decide (round<0)=false:=decide_eq_false (by omega)
  have e4:decide (round>2)=false:=decide_eq_false (by omega)
  have hp:=B0e x num den (by omega) (by omega) (by omega) (by omega) (by omega) (by omega) st
  have hN:0≤x * num:=Int.mul_nonneg x1.1 n1.1
  have hq0:0≤x * num / den:=Int.ediv_nonneg hN (by omega)
  have hm0:=Int.emod_nonneg (x * num) d2
  have hm1:=Int.emod_lt_of_pos (x * num) (show 0<den by omega)
  have m1:=A1x x st
  have m2:=A1x num st
  rw [x0] at m1
  rw [n0] at m2
  unfold A7R at hp
  rw [ht]
  clear ht
  generalize x * num / den=q at *
  generalize x * num % den=r at *
  have bq:0≤W9 q r den round:=by unfold W9;repeat' split<;>omega
  by_cases hbig:q>100000000000000
  ·rw [if_pos hbig] at hp ⊢
   repeat' ((conv=>whnf);first | refine A4 m1 ?_ | refine A4 m2 ?_ | refine A4 hp ?_ | rw [e1] | rw [e2] | rw [e3] | rw [e4])
   conv=>whnf
   exact ⟨rfl,rfl⟩
  ·rw [if_neg hbig] at hp ⊢
   have w1:IntKind.i64.wrap (2 * r)=2 * r:=A9 (by omega) (by omega)
   have w2:IntKind.i64.wrap (q+1)=q+1:=A9 (by omega) (by omega)
   have w3:q.tmod 2=q % 2:=Int.tmod_eq_emod_of_nonneg hq0
   have m3:=A1x q st
   have m4:=A1x (q+1) st
   rcases (by omega:round=0∨round=1∨round=2) with rfl | rfl | rfl
   all_goals repeat' ((conv=>whnf);first | refine A4 m1 ?_ | refine A4 m2 ?_ | refine A4 m3 ?_ | refine A4 m4 ?_ | refine A4 hp ?_ | rw [e1] | rw [e2] | rw [e3] | rw [e4] | rw [w1] | rw [w2] | rw [w3] | (refine C3 (fun h=>?_) (fun h=>?_)<;>rw [h]))
   all_goals (conv=>whnf)
   all_goals (refine ⟨?_,rfl⟩;show AV.tuple [AV.int .i64 _,AV.int .i64 _]=AV.tuple [AV.int .i64 _,AV.int .i64 _])
   all_goals (simp only [W9,Bool.not_eq_true',Bool.not_eq_false',decide_eq_true_eq,decide_eq_false_iff_not,beq_iff_eq,beq_eq_false_iff_ne,ne_eq,Q4,Bool.and_eq_true,Bool.and_eq_false_iff,if_true,if_false,Int.reduceEq] at *)
   all_goals (repeat' split)
   all_goals first | rfl | (exfalso;omega)
theorem B8w (x rate round:Int) (st:St):S P 173 [eI x,eI rate,eI round] st fun v st'=>v=.tuple [eI (if 0≤rate∧rate≤10000 then A1Q x rate 10000 round else (0,2)).1,eI (if 0≤rate∧rate≤10000 then A1Q x rate 10000 round else (0,2)).2]∧st'=st:=by
 refine A5 [] B7 mixed Tryz.func173 (by rfl) rfl rfl rfl ?_
 repeat' ((conv=>whnf);first | refine A4 (C0E _ _ _ _ st) ?_ | (refine C3 (fun h=>?_) (fun h=>?_)<;>rw [h]))
 all_goals (conv=>whnf)
 all_goals (refine ⟨?_,rfl⟩;simp only [decide_eq_true_eq,decide_eq_false_iff_not] at *)
 ·rw [if_neg (by omega)];rfl
 ·rw [if_neg (by omega)];rfl
 ·rw [if_pos (by omega)];rfl
theorem A7k (x rate:Int) (st:St):S P 99 [eI x,eI rate] st fun v st'=>v=eI (H9 x rate)∧st'=st:=by
 refine A5 [] B7 mixed Tryz.func99 (by rfl) rfl rfl rfl ?_;conv=>whnf
 refine A4 (B8w x rate 1 st) ?_;conv=>whnf
 exact ⟨rfl,rfl⟩
theorem B0f (l:List Int) (hl:l.length≤1000000) (h0:∀ x∈l,0≤x) (hs:A6 l≤100000000000000000) (st:St):S P 125 [B3 l] st fun v st'=>v=eI (A6 l)∧st'=st:=by
 refine A5 [] B7 mixed Tryz.func125 (by rfl) rfl rfl rfl ?_;conv=>whnf
 refine lp l.length [0,3,4] (fun i vs s=>vs=[B3 l,eI (A6 (l.take i)),eI i]∧s=st) ?_ ?_
 ·conv=>whnf
  exact ⟨rfl,rfl⟩
 ·rintro i vs st' hi ⟨rfl,rfl⟩
  conv=>whnf
  cases h:decide ((i:Int)<(l.length:Int))
  ·obtain rfl:=D1 h hi
   conv=>whnf
   exact ⟨by rw [List.take_length];rfl,rfl⟩
  ·have hi':=F7 h
   have e:=N4 hi'
   have h1:=C7 (l:=l.take i) (fun x hx=>h0 x (List.take_subset _ _ hx))
   have h2:=M0 h0 (i+1)
   have h3:=h0 _ (B4 hi')
   have h4:gI l i=l.getD i default:=rfl
   have w:IntKind.i64.wrap (A6 (l.take i)+l.getD (i:Int).toNat default)=A6 (l.take (i+1)):=by rw [e];exact A9 (by rw [Int.toNat_natCast];omega) (by rw [Int.toNat_natCast];omega)
   conv=>whnf
   refine ⟨rfl,⟨by omega,by omega⟩,?_⟩;conv=>whnf
   rw [w]
   refine ⟨rfl,?_⟩;conv=>whnf
   exact nx hi' ⟨by rw [C0 (by omega)],rfl⟩
theorem A5B (us:List B5) (mine:List Int) (hl:mine.length≤1000000) (hm:∀ k,k<mine.length→0≤gI mine k∧(gI mine k).toNat<us.length) (st:St):S P 169 [C6 us,B3 mine] st fun v st'=>v=B3 (E6 us mine)∧st'=st:=by
 refine W7 (ty:=2) ?_
 refine A5 [] B7 mixed Tryz.func169 (by rfl) rfl rfl rfl ?_;conv=>whnf
 refine lp mine.length [0,1,5,6] (fun i vs s=>∃ sv,vs=[C6 us,B3 mine,sv,eI i]∧G0 2 1 eI (E6 us (mine.take i)) st sv s) ?_ ?_
 ·conv=>whnf
  exact ⟨.emp,rfl,G0.start _ _ _ _⟩
 ·rintro i vs st' hi ⟨sv,rfl,hc⟩
  conv=>whnf
  cases h:decide ((i:Int)<(mine.length:Int))
  ·obtain rfl:=D1 h hi
   rw [List.take_length] at hc;conv=>whnf
   exact hc
  ·have hi':=F7 h
   have hx:=hm i hi'
   have hlen:(E6 us (mine.take i)).length=i:=by unfold E6;rw [List.length_map,List.length_take];omega
   conv=>whnf
   refine ⟨rfl,⟨by omega,by omega⟩,?_⟩;conv=>whnf
   refine ⟨rfl,⟨by show 0≤gI mine i;omega,by show gI mine i<(us.length:Int);omega⟩,?_⟩;conv=>whnf
   refine G0.app (q:=r2) (y:=(gU us (gI mine i).toNat).net) rfl rfl rfl rfl rfl rfl (by show (_+1) * 8≤140737488355328;omega) hc (fun sv' s' hc'=>?_);conv=>whnf
   refine ⟨rfl,?_⟩;conv=>whnf
   refine nx hi' ⟨sv',by rw [C0 (by omega)],?_⟩
   unfold E6 at hc' ⊢
   rw [A2B hi'];exact hc'
def A3s (total:Int) (ws:List Int):List Int:=(List.range ws.length).map fun k=>total * gI ws k % A6 ws
theorem C2o {total:Int} {ws:List Int} {o:List Int} (hp:o.Perm (A3o ws.length)) (hs:o.Pairwise (B1O (A3s total ws))):o=(shR total (A6 ws) ws).map (·.2):=by
 have e:o.map (A9Y (A3s total ws))=shR total (A6 ws) ws:=by
  refine List.Perm.eq_of_pairwise (le:=fun a b=>H8 b a=false) (fun a b _ _ h1 h2=>A7V h2 h1) (List.pairwise_map.2 hs) (A6q ..) (((hp.map _).trans ?_).trans (A1y ..).symm)
  unfold A3o
  rw [List.map_map]
  refine List.Perm.of_eq (List.map_congr_left fun k hk=>?_)
  have:=List.mem_range.1 hk
  show (gI (A3s total ws) ((k:Int).toNat),(k:Int))=shE total (A6 ws) ws k
  unfold A3s
  rw [Int.toNat_natCast,J4 _ this];rfl
 rw [←e,List.map_map]
 conv=>lhs;rw [←List.map_id o]
 rfl
theorem B9S {total:Int} {ws:List Int} (h:P4 total ws):D9 total ws=P5 ((List.range ws.length).map (shQ total (A6 ws) ws)) ((shR total (A6 ws) ws).take (F8 total (A6 ws) ws ws.length).toNat)∧0≤F8 total (A6 ws) ws ws.length∧F8 total (A6 ws) ws ws.length≤ws.length:=by
 by_cases hS:A6 ws=0
 ·have ht:=h.none hS
  have hq:∀ k,shQ total (A6 ws) ws k=0:=fun k=>by unfold shQ;rw [ht,Int.zero_mul,Int.zero_ediv]
  have hl:F8 total (A6 ws) ws ws.length=0:=by
   unfold F8
   rw [show (List.range ws.length).map (shQ total (A6 ws) ws)=List.replicate ws.length 0 from by
    rw [List.eq_replicate_iff]
    exact ⟨by simp,fun b hb=>by obtain ⟨k,_,rfl⟩:=List.mem_map.1 hb;exact hq k⟩,ht]
   have:∀ n,A6 (List.replicate n 0)=0:=fun n=>by
    induction n with
    | zero=>rfl
    | succ n ih=>rw [List.replicate_succ',G1,ih];rfl
   rw [this];rfl
  refine ⟨?_,by omega,by omega⟩
  rw [hl]
  unfold D9
  rw [if_pos hS]
  show ws.map (fun _=>0)=P5 _ []
  unfold P5
  refine List.ext_getElem (by simp) fun k h1 h2=>?_
  simp [hq]
 ·have hS':0<A6 ws:=by have:=C7 h.w0;omega
  refine ⟨?_,A2r h hS'⟩
  unfold D9;rw [if_neg hS]
set_option maxHeartbeats 1000000 in
theorem B0c (total:Int) (ws:List Int) (h:P4 total ws) (st:St):S P 257 [eI total,B3 ws] st fun v st'=>v=.tuple [B3 (D9 total ws),eI 0]∧st'=st:=by
 obtain ⟨hR,hl0,hl1⟩:=B9S h
 have hlen:=h.len
 have hS0:=C7 h.w0
 have hSm:=h.sum
 have ht0:=h.t0
 have ht1:=h.t1
 refine S.post (post:=fun v st'=>∃ (bo:Nat) (f:Nat→AV),st bo=none∧v=.tuple [.own 1 bo 0 ws.length,eI 0]∧st'=upd st bo ⟨2,1,ws.length,f⟩∧∀ k,k<ws.length→f k=eI (gI (D9 total ws) k)) ?_
  (fun v st' ⟨bo,f,hb,hv,hs,hf⟩=>⟨_,st,⟨rfl,rfl⟩,by
   subst hv;subst hs
   have hL:(D9 total ws).length=ws.length:=by rw [hR,A1d];simp
   have e:B3 (D9 total ws)=.arr 1 ws.length (fun k=>eI (gI (D9 total ws) k)):=by unfold B3 A7;rw [hL]
   rw [e]
   have h2:=K8 (st:=upd st bo ⟨2,1,ws.length,f⟩) (e:=1) (b:=bo) (n:=ws.length) (f:=fun k=>eI (gI (D9 total ws) k)) (A0 ..) rfl (Nat.le_refl _) hf
   rw [A2H hb] at h2
   exact B2.tuple (B2.cons h2 (B2.keep _ _)) rfl⟩)
 refine A5 [] B7 mixed Tryz.func257 (by rfl) rfl rfl rfl ?_;conv=>whnf
 refine A4 (A1x total st) ?_
 rw [(A0n total).2 ⟨ht0,ht1⟩];conv=>whnf
 rw [decide_eq_false (show ¬(ws.length:Int)>100000 by omega)];conv=>whnf
 refine lp ws.length [0,1,6] (fun i vs s=>vs=[eI total,B3 ws,eI i]∧s=st) ?_ ?_
 ·conv=>whnf
  exact ⟨rfl,rfl⟩
 ·rintro i vs st' hi ⟨rfl,rfl⟩
  conv=>whnf
  cases hd:decide ((i:Int)<(ws.length:Int))
  case true =>
   have hi':=F7 hd
   have hm:=B4 hi'
   conv=>whnf
   refine ⟨rfl,⟨by omega,by omega⟩,?_⟩;conv=>whnf
   refine A4 (A1x _ _) ?_
   rw [(A0n (ws.getD (i:Int).toNat default)).2 ⟨h.w0 _ hm,Int.le_trans (P8 h.w0 hm) hSm⟩];conv=>whnf
   refine ⟨rfl,?_⟩;conv=>whnf
   exact nx hi' ⟨by rw [C0 (by omega)],rfl⟩
  clear hd
  conv=>whnf
  refine lp ws.length [0,1,7,8] (fun i vs s=>vs=[eI total,B3 ws,eI (A6 (ws.take i)),eI i]∧s=st') ?_ ?_
  ·conv=>whnf
   exact ⟨rfl,rfl⟩
  ·clear hi
   rintro i vs st hi ⟨rfl,rfl⟩
   conv=>whnf
   cases hd:decide ((i:Int)<(ws.length:Int))
   case true =>
    have hi':=F7 hd
    have e:=N4 hi'
    have h1:=C7 (l:=ws.take i) (fun x hx=>h.w0 x (List.take_subset _ _ hx))
    have h2:=M0 h.w0 (i+1)
    have h3:=h.w0 _ (B4 hi')
    have w:IntKind.i64.wrap (A6 (ws.take i)+ws.getD (i:Int).toNat default)=A6 (ws.take (i+1)):=by rw [e];exact A9 (by rw [Int.toNat_natCast];omega) (by rw [Int.toNat_natCast];show A6 (ws.take i)+gI ws i≤_;omega)
    conv=>whnf
    refine ⟨rfl,⟨by omega,by omega⟩,?_⟩;conv=>whnf
    rw [w,decide_eq_false (show ¬ A6 (ws.take (i+1))>100000000000000 by omega)];conv=>whnf
    refine ⟨rfl,?_⟩;conv=>whnf
    exact nx hi' ⟨by rw [C0 (by omega)],rfl⟩
   obtain rfl:=D1 hd hi
   rw [List.take_length]
   have hz:(A6 ws==0)=true→(total != 0)=false:=fun e=>by rw [h.none (eq_of_beq e)];rfl
   cases h0:(A6 ws==0)
   case' true =>
    conv=>whnf
    rw [h0];conv=>whnf
    rw [hz h0]
   case' false =>
    conv=>whnf
    rw [h0]
   all_goals (conv=>whnf)
   all_goals refine mkO rfl rfl rfl (by show 8 * ws.length≤_;omega) (by omega) (by rfl) (fun b1 hb1=>?_)
   all_goals (conv=>whnf)
   all_goals refine mkO rfl rfl rfl (by show 8 * ws.length≤_;omega) (by omega) (by rfl) (fun b2 hb2=>?_)
   all_goals (conv=>whnf)
   all_goals
    have hne:b1≠b2:=fun e=>by subst e;rw [A0] at hb2;cases hb2
    have hb2':st b2=none:=by rw [A8 hne.symm] at hb2;exact hb2
    refine lp ws.length [0,1,7,9,10,11,12] (fun i vs s=>vs=[eI total,B3 ws,eI (A6 ws),.own 1 b1 0 ws.length,.own 1 b2 0 ws.length,eI (F8 total (A6 ws) ws i),eI i]∧(A6 ws=0→i=0)∧∃ f1 f2,s=upd (upd st b1 ⟨2,1,ws.length,f1⟩) b2 ⟨2,1,ws.length,f2⟩∧∀ k,k<ws.length→f1 k=eI (if k<i then shQ total (A6 ws) ws k else 0)∧f2 k=eI (if k<i then total * gI ws k % A6 ws else 0)) ?_ ?_
    ·conv=>whnf
     exact ⟨by rw [show F8 total (A6 ws) ws 0=total from by unfold F8;simp [A6]];rfl,fun _=>rfl,_,_,rfl,fun k hk=>⟨by rw [if_neg (by omega)];rfl,by rw [if_neg (by omega)];rfl⟩⟩
    ·rintro i vs s hi ⟨rfl,hSi,f1,f2,rfl,hf⟩
     conv=>whnf
     have fin:(∀ k,k<ws.length→f1 k=eI (shQ total (A6 ws) ws k)∧f2 k=eI (total * gI ws k % A6 ws))→F8 total (A6 ws) ws i=F8 total (A6 ws) ws ws.length→True:=fun _ _=>trivial
     have hend:(i=ws.length∨A6 ws=0)→(∀ k,k<ws.length→f1 k=eI (shQ total (A6 ws) ws k)∧f2 k=eI (total * gI ws k % A6 ws))∧F8 total (A6 ws) ws i=F8 total (A6 ws) ws ws.length:=fun hE=>by
      rcases hE with hE | hE
      ·subst hE
       exact ⟨fun k hk=>by have:=hf k hk;rwa [if_pos hk,if_pos hk] at this,rfl⟩
      ·have hi0:=hSi hE
       have ht:=h.none hE
       have hq:∀ k,shQ total (A6 ws) ws k=0:=fun k=>by unfold shQ;rw [ht,Int.zero_mul,Int.zero_ediv]
       have hz:∀ n,A6 ((List.range n).map (shQ total (A6 ws) ws))=0:=fun n=>by
        induction n with
        | zero=>rfl
        | succ n ih=>rw [M8,ih,hq];rfl
       refine ⟨fun k hk=>?_,?_⟩
       ·have:=hf k hk
        rw [if_neg (by omega),if_neg (by omega)] at this
        rw [hq,ht,Int.zero_mul,Int.zero_emod];exact this
       ·unfold F8;rw [hz,hz]
     cases hd:decide ((i:Int)<(ws.length:Int))
     case' false =>
      have hE:=hend (.inl (D1 hd hi))
      conv=>whnf
     case' true =>
      have hi':=F7 hd
      conv=>whnf
      cases hp:decide (A6 ws>0)
      case' false =>
       have hE:=hend (.inr (by have:=of_decide_eq_false hp;omega))
       conv=>whnf
      case' true =>
       have hS:0<A6 ws:=of_decide_eq_true hp
       have hm:gI ws i∈ws:=B4 hi'
       have hqb:=A4b h hS (show i≤ws.length by omega)
       have hqb':=A4b h hS (show i+1≤ws.length by omega)
       have hsr:=M8 (shQ total (A6 ws) ws) i
       have hq:=A3t h hS hi'
       have hpt:=B0e total (gI ws i) (A6 ws) ht0 ht1 (h.w0 _ hm) (Int.le_trans (P8 h.w0 hm) hSm) hS hSm (upd (upd st b1 ⟨2,1,ws.length,f1⟩) b2 ⟨2,1,ws.length,f2⟩)
       unfold A7R at hpt
       rw [if_neg (by have:total * gI ws i / A6 ws≤total:=hq.2;omega)] at hpt;conv=>whnf
       refine ⟨rfl,⟨by omega,by omega⟩,?_⟩;conv=>whnf
       refine A4 hpt ?_;conv=>whnf
       refine ⟨rfl,⟨by omega,by omega⟩,?_⟩;conv=>whnf
       refine K4 (by rw [A8 hne];exact A0 ..) rfl (by omega) (hf _ (by omega)).1 (by rfl) ?_
       rw [L0 hne.symm,B6];conv=>whnf
       refine ⟨rfl,⟨by omega,by omega⟩,?_⟩;conv=>whnf
       refine K4 (A0 ..) rfl (by omega) (hf _ (by omega)).2 (by rfl) ?_
       rw [B6];conv=>whnf
       refine ⟨rfl,⟨by omega,by omega⟩,?_⟩;conv=>whnf
       refine E9 (by rw [A8 hne];exact A0 ..) rfl (by omega) (A2 ..) ?_;conv=>whnf
       refine ⟨rfl,?_⟩;conv=>whnf
       have e:IntKind.i64.wrap (F8 total (A6 ws) ws i - total * gI ws i / A6 ws)=F8 total (A6 ws) ws (i+1):=by
        unfold F8
        have:total * gI ws i / A6 ws=shQ total (A6 ws) ws i:=rfl
        rw [this,A9 (by omega) (by omega)];omega
       refine nx hi' ⟨by rw [C0 (by omega),e],fun e=>by omega,_,_,rfl,fun k hk=>?_⟩
       rw [show 0+(i:Int).toNat=i by omega]
       by_cases e1:k=i
       ·subst e1;rw [A2,A2]
        refine ⟨?_,?_⟩
        ·show eI (shQ total (A6 ws) ws k)=_;rw [if_pos (by omega)]
        ·show eI (total * gI ws k % A6 ws)=_;rw [if_pos (by omega)]
       ·have h7:=hf k hk
        rw [G2 e1,G2 e1]
        by_cases h8:k<i
        ·rw [if_pos h8,if_pos h8] at h7;rw [if_pos (by omega),if_pos (by omega)];exact h7
        ·rw [if_neg h8,if_neg h8] at h7;rw [if_neg (by omega),if_neg (by omega)];exact h7
     all_goals
      obtain ⟨hE1,hE2⟩:=hE
      clear hend hf fin hSi
      rw [hE2]
      have hres:A3s total ws=A3s total ws:=rfl
      have hrl:(A3s total ws).length=ws.length:=by unfold A3s;simp
      have eA:B3 (A3s total ws)=.arr 1 ws.length (fun k=>eI (gI (A3s total ws) k)):=by unfold B3 A7;rw [hrl]
      refine I5 (args':=[B3 (A3s total ws)]) (by
       rw [eA]
       exact K8 (A0 ..) rfl (Nat.le_refl _) (fun k hk=>by show f2 k=_;rw [(hE1 k hk).2];unfold A3s;rw [J4 _ hk])) (call (B4r (A3s total ws) (by omega) _) (fun v s2 hv=>?_))
      obtain ⟨⟨o,ho1,ho2,rfl⟩,rfl⟩:=hv
      rw [hrl] at ho1
      have hoS:=C2o ho1 ho2
      have hol:o.length=ws.length:=by rw [ho1.length_eq,A7O]
      have hog:∀ k,k<ws.length→gI o k=(at_ (shR total (A6 ws) ws) k).2:=fun k hk=>by
       rw [hoS];exact D8 (fun e:QE=>e.2) _ (by rw [A5C];exact hk)
      have hdl:del (upd (upd st b1 ⟨2,1,ws.length,f1⟩) b2 ⟨2,1,ws.length,f2⟩) b2=upd st b1 ⟨2,1,ws.length,f1⟩:=A2H (by rw [A8 hne.symm];exact hb2') _
      rw [hdl];conv=>whnf
      refine lp (F8 total (A6 ws) ws ws.length).toNat [9,11,13,14] (fun i vs s=>vs=[.own 1 b1 0 ws.length,eI (F8 total (A6 ws) ws ws.length),B3 o,eI i]∧∃ f,s=upd st b1 ⟨2,1,ws.length,f⟩∧∀ k,k<ws.length→f k=eI (gI (P5 ((List.range ws.length).map (shQ total (A6 ws) ws)) ((shR total (A6 ws) ws).take i)) k)) ?_ ?_
      ·conv=>whnf
       exact ⟨rfl,f1,rfl,fun k hk=>by rw [(hE1 k hk).1];show _=eI (gI ((List.range ws.length).map _) k);rw [J4 _ hk]⟩
      ·rintro t vs s ht ⟨rfl,f,rfl,hf⟩
       conv=>whnf
       cases hd2:decide ((t:Int)<F8 total (A6 ws) ws ws.length)
       ·have:t=(F8 total (A6 ws) ws ws.length).toNat:=by have:=of_decide_eq_false hd2;omega
        subst this;conv=>whnf
        exact ⟨b1,f,hb1,rfl,rfl,by rw [hR];exact hf⟩
       ·have ht':(t:Int)<F8 total (A6 ws) ws ws.length:=of_decide_eq_true hd2
        have hx:0≤(at_ (shR total (A6 ws) ws) t).2∧(at_ (shR total (A6 ws) ws) t).2.toNat<ws.length:=A8U (total:=total) (S:=A6 ws) (ws:=ws) (B4 (l:=shR total (A6 ws) ws) (i:=t) (by rw [A5C];omega))
        have hgo:=hog t (by omega)
        have htk:=K2 (l:=shR total (A6 ws) ws) (i:=t) (by rw [A5C];omega)
        have hb1:=A3J ((List.range ws.length).map (shQ total (A6 ws) ws)) ((shR total (A6 ws) ws).take t) (at_ (shR total (A6 ws) ws) t).2.toNat
        rw [J4 _ hx.2,List.length_take] at hb1
        have hqq:0≤shQ total (A6 ws) ws (at_ (shR total (A6 ws) ws) t).2.toNat∧shQ total (A6 ws) ws (at_ (shR total (A6 ws) ws) t).2.toNat≤100000000000000:=by
         by_cases hS:A6 ws=0
         ·unfold shQ;rw [h.none hS,Int.zero_mul,Int.zero_ediv];omega
         ·have:=A3t h (show 0<A6 ws by omega) hx.2;omega
        have hx2:0≤gI o t∧(gI o t).toNat<ws.length:=by rw [hgo];exact hx
        conv=>whnf
        refine ⟨rfl,⟨by omega,by omega⟩,?_⟩;conv=>whnf
        refine ⟨rfl,⟨by show 0≤gI o t;omega,by show gI o t<(ws.length:Int);omega⟩,?_⟩;conv=>whnf
        refine E9 (A0 ..) rfl (by show 0+(gI o t).toNat<_;omega) (hf _ (by show 0+(gI o t).toNat<_;omega)) ?_;conv=>whnf
        refine ⟨rfl,⟨by show 0≤gI o t;omega,by show gI o t<(ws.length:Int);omega⟩,?_⟩;conv=>whnf
        refine K4 (A0 ..) rfl (by show 0+(gI o t).toNat<_;omega) (hf _ (by show 0+(gI o t).toNat<_;omega)) (by rfl) ?_
        rw [B6];conv=>whnf
        refine ⟨rfl,?_⟩;conv=>whnf
        refine nx (by omega) ⟨by rw [C0 (by omega)],_,rfl,fun k hk=>?_⟩
        rw [htk,A8c,B9L (by rw [A1d];simpa using hx.2)]
        show G5 f (0+(gI o t).toNat) (eI (IntKind.i64.wrap (gI (P5 _ _) (0+(gI o t).toNat)+1))) k=_
        rw [Nat.zero_add,hgo]
        by_cases e1:k=(at_ (shR total (A6 ws) ws) t).2.toNat
        ·rw [if_pos e1,e1,A2,A9 (by omega) (by omega)]
        ·rw [if_neg e1,G2 e1];exact hf k hk
theorem B5R (us:List B5) (mine:List Int) (h:E5 us) (hm:K5 us mine) (st:St):S P 252 [C6 us,B3 mine] st fun v st'=>v=.bool true∧st'=st:=by
 have hlen:=h.len
 have hml:=hm.len
 refine A5 [] B7 mixed Tryz.func252 (by rfl) rfl rfl rfl ?_;conv=>whnf
 rw [decide_eq_false (show ¬(us.length:Int)>100000 by omega)];conv=>whnf
 refine lp us.length [0,1,5,6] (fun i vs s=>vs=[C6 us,B3 mine,eI (A6 ((E0 us).take i)),eI i]∧s=st) ?_ ?_
 ·conv=>whnf
  exact ⟨rfl,rfl⟩
 ·rintro i vs st' hi ⟨rfl,rfl⟩
  conv=>whnf
  cases hd:decide ((i:Int)<(us.length:Int))
  case true =>
   have hi':=F7 hd
   have e:=N4 (l:=E0 us) (i:=i) (by rw [List.length_map];exact hi')
   have e4:gI (E0 us) i=(gU us i).net:=D8 B5.net us hi'
   have h1:=C7 (l:=(E0 us).take i) (fun x hx=>h.nets0 x (List.take_subset _ _ hx))
   have h2:=M0 h.nets0 (i+1)
   have h3:=h.sum
   have h4:=h.at0 i
   have h5:=h.le (B4 hi')
   have w:IntKind.i64.wrap (A6 ((E0 us).take i)+(us.getD (i:Int).toNat default).net)=A6 ((E0 us).take (i+1)):=by rw [e,e4];exact A9 (by rw [Int.toNat_natCast];show _≤A6 ((E0 us).take i)+(gU us i).net;omega) (by rw [Int.toNat_natCast];show A6 ((E0 us).take i)+(gU us i).net≤_;omega)
   have f1:decide ((us.getD (i:Int).toNat default).net<0)=false:=decide_eq_false (by rw [Int.toNat_natCast];show ¬(gU us i).net<0;omega)
   have f2:decide ((us.getD (i:Int).toNat default).net>10000000000000)=false:=decide_eq_false (by rw [Int.toNat_natCast];omega)
   have f3:decide (A6 ((E0 us).take (i+1))>10000000000000)=false:=decide_eq_false (by omega)
   repeat' ((conv=>whnf);first | refine ⟨rfl,⟨by omega,by omega⟩,?_⟩ | rw [f1] | rw [f2] | rw [w,f3])
   conv=>whnf
   refine ⟨rfl,?_⟩;conv=>whnf
   exact nx hi' ⟨by rw [C0 (by omega)],rfl⟩
  conv=>whnf
  refine lp mine.length [0,1,7] (fun i vs s=>vs=[C6 us,B3 mine,eI i]∧s=st') ?_ ?_
  ·conv=>whnf
   exact ⟨rfl,rfl⟩
  ·rintro k vs st hk ⟨rfl,rfl⟩
   conv=>whnf
   cases hd2:decide ((k:Int)<(mine.length:Int))
   ·conv=>whnf
    exact ⟨rfl,rfl⟩
   ·have hk':=F7 hd2
    have hr:0≤mine.getD (k:Int).toNat default∧(mine.getD (k:Int).toNat default).toNat<us.length:=hm.rng k hk'
    have f1:decide (mine.getD (k:Int).toNat default<0)=false:=decide_eq_false (by omega)
    have f2:decide (mine.getD (k:Int).toNat default≥(us.length:Int))=false:=decide_eq_false (by omega)
    have f3:(!(us.getD (mine.getD (k:Int).toNat default).toNat default).opn)=false:=by
     have:=hm.opn k hk'
     rw [Bool.not_eq_false'];exact this
    conv=>whnf
    refine ⟨[],[],List.range 41,by kernel_rfl,?_⟩
    rcases Nat.eq_zero_or_pos k with h0 | h0
    ·have f4:decide ((k:Int)>0)=false:=decide_eq_false (by omega)
     repeat' ((conv=>whnf);first | refine ⟨rfl,⟨by omega,by omega⟩,?_⟩ | rw [f1] | rw [f2] | rw [f3] | rw [f4])
     conv=>whnf
     refine ⟨rfl,?_⟩;conv=>whnf
     exact nx hk' ⟨by rw [C0 (by omega)],rfl⟩
    ·have f4:decide ((k:Int)>0)=true:=decide_eq_true (by omega)
     have hw:=A5Z h0 (by omega)
     have f5:decide (mine.getD (k:Int).toNat default≤mine.getD (IntKind.i64.wrap ((k:Int) - 1)).toNat default)=false:=decide_eq_false (by
      rw [hw,Int.toNat_natCast,Int.toNat_natCast]
      have:=hm.lt (k - 1) k (by omega) hk'
      exact Int.not_le.2 this)
     repeat' ((conv=>whnf);first | refine ⟨rfl,⟨by omega,by omega⟩,?_⟩ | refine ⟨rfl,⟨by rw [hw];omega,by rw [hw];omega⟩,?_⟩ | rw [f1] | rw [f2] | rw [f3] | rw [f4] | rw [f5])
     conv=>whnf
     refine ⟨rfl,?_⟩;conv=>whnf
     exact nx hk' ⟨by rw [C0 (by omega)],rfl⟩
theorem B7e (us:List B5) (mine:List Int) (h:E5 us) (hm:K5 us mine) (st:St):S P 253 [C6 us,B3 mine] st fun v st'=>v=B3 ((E2 us mine).map (·.2))∧st'=st:=by
 have hml:=hm.len
 have hul:=h.len
 have hnl:(E6 us mine).length=mine.length:=by unfold E6;rw [List.length_map]
 refine W7 (ty:=3) ?_
 refine A5 [] B7 mixed Tryz.func253 (by rfl) rfl rfl rfl ?_;conv=>whnf
 refine A4 (A5B us mine (by omega) hm.rng st) ?_;conv=>whnf
 refine call (B4r (E6 us mine) (by omega) _) (fun v s hv=>?_)
 obtain ⟨⟨o,ho1,ho2,rfl⟩,rfl⟩:=hv
 rw [hnl] at ho1
 have hol:o.length=mine.length:=by rw [ho1.length_eq,A7O]
 have hom:∀ {k:Nat},k<o.length→0≤gI o k∧(gI o k).toNat<mine.length:=fun hk=>A7f ho1 (fun x hx=>A5y hx) hk
 have he:(E2 us mine).map (·.2)=o.map fun x=>gI mine x.toNat:=by
  have e:o.map (fun x=>B7L us (gI mine x.toNat))=E2 us mine:=by
   refine List.Perm.eq_of_pairwise (le:=fun a b=>H8 b a=false) (fun a b _ _ h1 h2=>A7V h2 h1) (List.pairwise_map.2 ?_) (A4a _) (((ho1.map _).trans ?_).trans (A2q ..).symm)
   ·refine List.Pairwise.imp_of_mem ?_ ho2
    intro a b ha hb hab
    obtain ⟨a0,a1⟩:=A5y (ho1.subset ha)
    obtain ⟨b0,b1⟩:=A5y (ho1.subset hb)
    unfold B1O A9Y at hab
    have ea:gI (E6 us mine) a.toNat=(gU us (gI mine a.toNat).toNat).net:=D8 (fun i:Int=>(gU us i.toNat).net) mine a1
    have eb:gI (E6 us mine) b.toNat=(gU us (gI mine b.toNat).toNat).net:=D8 (fun i:Int=>(gU us i.toNat).net) mine b1
    rw [ea,eb,T7] at hab
    unfold B7L
    rw [T7]
    simp only at hab ⊢
    rintro (h1 | ⟨h1,h2⟩)
    ·exact hab (.inl h1)
    ·refine hab (.inr ⟨h1,?_⟩)
     refine Int.lt_of_not_ge fun hge=>?_
     rcases Nat.eq_or_lt_of_le (show a.toNat≤b.toNat by omega) with e1 | e1
     ·rw [e1] at h2;omega
     ·have:=hm.lt a.toNat b.toNat e1 b1;omega
   ·unfold A3o
    rw [List.map_map]
    refine List.Perm.of_eq (List.ext_getElem (by simp) fun k h1 h2=>?_)
    have:k<mine.length:=by simpa using h1
    simp [gI,this]
  rw [←e,List.map_map];rfl
 rw [he];conv=>whnf
 refine lp o.length [1,5,6,7] (fun i vs s'=>∃ sv,vs=[B3 mine,B3 o,sv,eI i]∧G0 3 1 eI ((o.take i).map fun x=>gI mine x.toNat) s sv s') ?_ ?_
 ·conv=>whnf
  exact ⟨.emp,rfl,G0.start _ _ _ _⟩
 ·rintro i vs st' hi ⟨sv,rfl,hc⟩
  conv=>whnf
  cases hd:decide ((i:Int)<(o.length:Int))
  ·obtain rfl:=D1 hd hi
   rw [List.take_length] at hc;conv=>whnf
   exact hc
  ·have hi':=F7 hd
   have hx:=hom hi'
   conv=>whnf
   refine ⟨rfl,⟨by omega,by omega⟩,?_⟩;conv=>whnf
   refine ⟨rfl,⟨by show 0≤gI o i;omega,by show gI o i<(mine.length:Int);omega⟩,?_⟩;conv=>whnf
   refine G0.app (q:=r3) (y:=gI mine (gI o i).toNat) rfl rfl rfl rfl rfl rfl (by show (_+1) * 8≤140737488355328;rw [List.length_map,List.length_take];omega) hc (fun sv' s' hc'=>?_);conv=>whnf
   refine ⟨rfl,?_⟩;conv=>whnf
   refine nx hi' ⟨sv',by rw [C0 (by omega)],?_⟩
   rw [A2B hi'];exact hc'
theorem B7f (us:List B5) (items:List Ab.Item) (sc:O4) (h1:Sm sc.skus.length) (h2:Sm sc.cats.length) (hu:us.length≤100000) (hl:∀ u∈us,0≤u.line∧u.line.toNat<items.length) (st:St) :
  S P 168 [C6 us,A7 4 E3 items,J3 sc] st fun v st'=>v=B3 (I1 sc items us us.length)∧st'=st:=by
 refine W7 (ty:=3) ?_
 refine A5 [5] B7 mixed Tryz.func168 (by rfl) rfl rfl rfl ?_;conv=>whnf
 refine lp us.length [0,1,5,7,8] (fun i vs s=>∃ sv,vs=[C6 us,A7 4 E3 items,.fptr (J3 sc) 0,sv,eI i]∧G0 3 1 eI (I1 sc items us i) st sv s) ?_ ?_
 ·conv=>whnf
  exact ⟨.emp,rfl,G0.start _ _ _ _⟩
 ·rintro i vs st' hi ⟨sv,rfl,hc⟩
  conv=>whnf
  cases hd:decide ((i:Int)<(us.length:Int))
  ·obtain rfl:=D1 hd hi
   conv=>whnf
   exact hc
  ·have hi':=F7 hd
   have hlk:0≤(us.getD (i:Int).toNat default).line∧(us.getD (i:Int).toNat default).line.toNat<items.length:=hl _ (B4 hi')
   have es:=A9B sc items us i
   have hpl:=A2f sc items us i
   have eo:A0P sc items (gU us i)=((us.getD (i:Int).toNat default).opn&&A0B sc (items.getD (us.getD (i:Int).toNat default).line.toNat default)):=rfl
   rw [eo] at es
   have n1:=C4o sc (items.getD (us.getD (i:Int).toNat default).line.toNat default) h1 h2 st'
   generalize A0B sc (items.getD (us.getD (i:Int).toNat default).line.toNat default)=b1 at n1 es
   conv=>whnf
   refine ⟨[],[],List.range 17,by kernel_rfl,?_⟩;conv=>whnf
   refine ⟨rfl,⟨by omega,by omega⟩,?_⟩;conv=>whnf
   cases ho:(us.getD (i:Int).toNat default).opn
   case' true =>
    rw [ho,Bool.true_and] at es;conv=>whnf
    refine ⟨rfl,⟨by omega,by omega⟩,?_⟩;conv=>whnf
    refine ⟨rfl,⟨by omega,by omega⟩,?_⟩;conv=>whnf
    refine ⟨_,C9 n1,?_⟩
    cases b1
    case true =>
     rw [if_pos rfl] at es;conv=>whnf
     refine G0.app (q:=r3) (y:=(i:Int)) rfl rfl rfl rfl rfl rfl (by show (_+1) * 8≤140737488355328;omega) hc (fun sv' s' hc'=>?_);conv=>whnf
     refine ⟨rfl,?_⟩;conv=>whnf
     exact nx hi' ⟨sv',by rw [C0 (by omega)],by rw [es];exact hc'⟩
    rw [if_neg (by simp),List.append_nil] at es
   case' false =>
    rw [ho,Bool.false_and,if_neg (by simp),List.append_nil] at es
   all_goals (conv=>whnf)
   all_goals refine ⟨rfl,?_⟩
   all_goals (conv=>whnf)
   all_goals exact nx hi' ⟨sv,by rw [C0 (by omega)],by rw [es];exact hc⟩
theorem A9W (l:List Y6) (x:Int) (hl:l.length≤100000) (st:St):S P 311 [A7 3 L4 l,eI x] st fun v st'=>v=.tuple [L4 ((K7 l x).getD default),.bool (K7 l x).isSome]∧st'=st:=by
 refine A2F ?_
 refine A5 [] B7 mixed Tryz.func311 (by rfl) rfl rfl rfl ?_;conv=>whnf
 intro b hb;conv=>whnf
 have w0:IntKind.i64.wrap ((l.length:Int) - 1)=(l.length:Int) - 1:=A9 (by omega) (by omega)
 refine ⟨[0,1,4,6],fun m vs st'=>∃ (i:Int) (f:Nat→AV) (u:Y6),-1≤i∧i<l.length∧(∀ k:Nat,i<k→k<l.length→decide ((l.getD k default).least≤x)=false)∧m=(i+1).toNat∧vs=[A7 3 L4 l,eI x,.optr 3 b 0 0,eI i]∧st'=upd st b ⟨257,3,1,f⟩∧f 0=L4 u,?_,?_⟩
 ·conv=>whnf
  exact ⟨_,(l.length:Int) - 1,_,default,by omega,by omega,fun k h1 h2=>by omega,rfl,by rw [w0],rfl,rfl⟩
 ·rintro m vs st' ⟨i,f,u,h0,hi,hno,rfl,rfl,rfl,hf⟩
  conv=>whnf
  cases h:decide (i≥0)
  ·have:=of_decide_eq_false h
   have hr:K7 l x=none:=A7i fun k hk=>hno k (by omega) hk
   conv=>whnf
   refine K4 (A0 ..) rfl (by omega) hf (by rfl) ?_;conv=>whnf
   refine E9 (A0 ..) rfl (by omega) (A2 ..) ?_;conv=>whnf
   refine ⟨by rw [hr];rfl,((F2.refl st).upd hb).over hb⟩
  ·have hi0:=of_decide_eq_true h
   conv=>whnf
   refine ⟨rfl,⟨by omega,by omega⟩,?_⟩;conv=>whnf
   refine C3 (fun h1=>?_) (fun h1=>?_)
   ·have hr:K7 l x=some (l.getD i.toNat default):=A7j (by omega) (fun k h2 h3=>hno k (by omega) h3) h1
    rw [h1];conv=>whnf
    refine ⟨rfl,⟨by omega,by omega⟩,?_⟩;conv=>whnf
    refine K4 (A0 ..) rfl (by omega) hf (by rfl) ?_;conv=>whnf
    refine E9 (A0 ..) rfl (by omega) (A2 ..) ?_;conv=>whnf
    refine ⟨by rw [hr];rfl,((F2.refl st).upd hb).over hb⟩
   ·have w:IntKind.i64.wrap (i - 1)=i - 1:=A9 (by omega) (by omega)
    rw [h1];conv=>whnf
    refine ⟨rfl,?_⟩;conv=>whnf
    refine ⟨i.toNat,by omega,i - 1,f,u,by omega,by omega,fun k h2 h3=>?_,by omega,by rw [w],rfl,hf⟩
    rcases (by omega:k=i.toNat∨i<k) with e | e
    ·rw [e];exact h1
    ·exact hno k e h3
def A1M (us:List B5) (mine offs:List Int) (closes:Bool):List B5×Int :=
 if A6 offs=0 then (us,0) else (if closes=true then closeB (D2 us mine offs offs.length) mine else D2 us mine offs offs.length,A6 offs)
theorem A2c {us:List B5} {mine offs:List Int} (h:∀ k,k<offs.length→gI offs k=0):∀ k,k≤offs.length→D2 us mine offs k=us
 | 0,_=>rfl
 | k+1,hk=>by
  unfold D2
  rw [A2c h k (by omega),h k (by omega)]
  unfold less1
  refine List.ext_getElem (by simp) fun j h1 h2=>?_
  rw [List.getElem_set]
  split
  ·rename_i e;subst e
   have e:gU us (gI mine k).toNat=us[(gI mine k).toNat]:=by unfold gU;rw [List.getD_eq_getElem?_getD,List.getElem?_eq_getElem h2];rfl
   rw [e,Int.sub_zero]
  ·rfl
theorem A2R {l:List Int} (h0:∀ x∈l,0≤x) (hs:A6 l=0):∀ k,k<l.length→gI l k=0:=fun k hk=>by
 have h1:=h0 _ (B4 hk)
 have h2:=P8 h0 (B4 hk)
 show l.getD k default=0
 omega
theorem B2M (us:List B5) (mine offs:List Int) (closes:Bool) (hu:E5 us) (hm:W6 us mine) (hml:mine.length≤1000000) (hol:offs.length≤mine.length) (ho:∀ k,k<offs.length→0≤gI offs k∧gI offs k≤(gU us (gI mine k).toNat).net) (hs:A6 offs≤1000000000000000) (st:St) :
  S P 254 [C6 us,B3 mine,B3 offs,eB closes] st fun v st'=>v=.tuple [C6 (A1M us mine offs closes).1,eI (A1M us mine offs closes).2]∧st'=st:=by
 have hul:=hu.len
 have ho0:∀ x∈offs,0≤x:=fun x hx=>by obtain ⟨k,hk,rfl⟩:=F4 hx;exact (ho k hk).1
 refine S.post (post:=fun v st'=>∃ sv,v=.tuple [sv,eI (A1M us mine offs closes).2]∧A4p st (A1M us mine offs closes).1 sv st') ?_
  (fun v st' ⟨sv,hv,h⟩=>⟨_,st,⟨rfl,rfl⟩,by rw [hv];exact B2.tuple (B2.cons h.shift (B2.keep _ _)) rfl⟩)
 refine A5 [] B7 mixed Tryz.func254 (by rfl) rfl rfl rfl ?_
 have nsum:=fun s=>B0f offs (by omega) ho0 (by omega) s
 have hS:A1M us mine offs closes=if A6 offs=0 then (us,0) else (if closes=true then closeB (D2 us mine offs offs.length) mine else D2 us mine offs offs.length,A6 offs):=rfl
 conv=>whnf
 refine apE (q:=B8q) rfl rfl rfl rfl (A6r _ _ _ _) (by show us.length * 24≤_;omega) (fun h0=>?_) (fun h0 b hb=>?_)
 ·have hus:us=[]:=List.eq_nil_of_length_eq_zero h0
  have hmi:mine.length=0:=by
   rcases Nat.eq_zero_or_pos mine.length with e | e
   ·exact e
   ·have:=(hm.rng 0 e).2;omega
  have hof:offs=[]:=List.eq_nil_of_length_eq_zero (by omega)
  have hz:A6 offs=0:=by rw [hof];rfl
  rw [if_pos hz] at hS;conv=>whnf
  refine A4 (nsum _) ?_
  rw [hz];conv=>whnf
  exact ⟨_,by rw [hS];rfl,by rw [hS];exact ⟨F2.refl _,.inl ⟨hus,rfl⟩⟩⟩
 ·conv=>whnf
  refine A4 (nsum _) ?_;conv=>whnf
  cases hz:(A6 offs==0)
  case true =>
   rw [if_pos (eq_of_beq hz)] at hS;conv=>whnf
   exact ⟨_,by rw [hS];rfl,by rw [hS];exact ⟨(F2.refl _).upd hb,.inr ⟨b,hb,rfl,_,A0 ..,fun k hk=>rfl⟩⟩⟩
  rw [if_neg (ne_of_beq_false hz)] at hS;conv=>whnf
  refine lp offs.length [1,2,3,10,11] (fun i vs s=>vs=[B3 mine,B3 offs,eB closes,.own 3 b 0 us.length,eI i]∧∃ f,s=upd st b ⟨158,3,us.length,f⟩∧∀ j,j<us.length→f j=V6 (gU (D2 us mine offs i) j)) ?_ ?_
  ·conv=>whnf
   exact ⟨rfl,_,rfl,fun j hj=>rfl⟩
  ·rintro i vs s hi ⟨rfl,f,rfl,hf⟩
   conv=>whnf
   cases hd:decide ((i:Int)<(offs.length:Int))
   ·obtain rfl:=D1 hd hi
    have hlt:=N6 us mine offs offs.length
    conv=>whnf
    refine lp mine.length [1,2,3,10,12] (fun i vs s=>(closes=false→i=0)∧vs=[B3 mine,B3 offs,eB closes,.own 3 b 0 us.length,eI i]∧∃ f,s=upd st b ⟨158,3,us.length,f⟩∧∀ j,j<us.length→f j=V6 (gU (closeB (D2 us mine offs offs.length) (mine.take i)) j)) ?_ ?_
    ·conv=>whnf
     exact ⟨fun _=>rfl,rfl,_,rfl,hf⟩
    ·clear hf
     rintro i vs s hi ⟨hci,rfl,f,rfl,hf⟩
     conv=>whnf
     have hend:(i=mine.length∨closes=false)→∀ j,j<us.length→f j=V6 (gU (A1M us mine offs closes).1 j):=fun hE=>by
      intro j hj
      have h7:=hf j hj
      have e1:(A1M us mine offs closes).1=if closes=true then closeB (D2 us mine offs offs.length) mine else D2 us mine offs offs.length:=by rw [hS]
      rw [e1]
      cases hc:closes
      ·rw [hci hc,List.take_zero] at h7;rw [if_neg (by simp)];exact h7
      ·rcases hE with hE | hE
       ·rw [hE,List.take_length] at h7;rw [if_pos rfl];exact h7
       ·rw [hE] at hc;cases hc
     have hlen:(A1M us mine offs closes).1.length=us.length:=by
      rw [hS];show (if closes=true then _ else _:List B5).length=_
      split
      ·rw [A1f,hlt]
      ·exact hlt
     cases hd:decide ((i:Int)<(mine.length:Int))
     case' false =>
      have hE:=hend (.inl (D1 hd hi))
      conv=>whnf
     case' true =>
      have hi':=F7 hd
      conv=>whnf
      cases hc:closes
      case' false =>
       have hE:=hend (.inr hc)
       rw [hc] at hS hlen hE;conv=>whnf
      case' true =>
       have hr:=hm.rng i hi'
       conv=>whnf
       refine ⟨rfl,⟨by omega,by omega⟩,?_⟩;conv=>whnf
       refine ⟨rfl,⟨by show 0≤gI mine i;omega,by show gI mine i<(us.length:Int);omega⟩,?_⟩;conv=>whnf
       refine K4 (A0 ..) rfl (by show 0+(gI mine i).toNat<_;omega) (v:=V6 (gU (closeB (D2 us mine offs offs.length) (mine.take i)) (gI mine i).toNat)) (by rw [Nat.zero_add];exact hf _ hr.2) (by rfl) ?_
       rw [B6];conv=>whnf
       refine ⟨rfl,?_⟩;conv=>whnf
       have e:closeB (D2 us mine offs offs.length) (mine.take (i+1))=close1 (closeB (D2 us mine offs offs.length) (mine.take i)) (gI mine i).toNat:=P1 hi' _ _
       refine ⟨mine.length - (i+1),by omega,i+1,by omega,rfl,fun e=>Bool.noConfusion e,by rw [C0 (by omega)],_,rfl,fun j hj=>?_⟩
       rw [e,Nat.zero_add,show (mine.getD (i:Int).toNat default).toNat=(gI mine i).toNat from rfl]
       unfold close1
       rw [A4J (by rw [A1f,hlt];exact hr.2)]
       by_cases hj2:j=(gI mine i).toNat
       ·rw [if_pos hj2,hj2,A2];rfl
       ·rw [if_neg hj2,G2 hj2];exact hf j hj
     all_goals
      refine A4 (nsum _) ?_;conv=>whnf
      refine ⟨.own 3 b 0 us.length,by rw [hS];rfl,(F2.refl st).upd hb,.inr ⟨b,hb,by rw [hlen],f,by rw [hlen];exact A0 ..,fun k hk=>?_⟩⟩
      rw [hlen] at hk
      exact hE k hk
   ·have hi':=F7 hd
    have hr:=hm.rng i (by omega)
    have hat:=A2Q (offs:=offs) hm (show i<mine.length by omega)
    have hx:=ho i hi'
    have hnet1:(gU us (gI mine i).toNat).net≤10000000000000:=hu.le (B4 hr.2)
    have hfm:f (0+(gI mine i).toNat)=V6 (gU (D2 us mine offs i) (gI mine i).toNat):=by rw [Nat.zero_add];exact hf _ hr.2
    conv=>whnf
    refine ⟨[20],[],List.range 21,by kernel_rfl,?_⟩;conv=>whnf
    refine ⟨rfl,⟨by omega,by omega⟩,?_⟩;conv=>whnf
    refine ⟨rfl,⟨by omega,by omega⟩,?_⟩;conv=>whnf
    refine ⟨rfl,⟨by show 0≤gI mine i;omega,by show gI mine i<(us.length:Int);omega⟩,?_⟩;conv=>whnf
    refine E9 (A0 ..) rfl (by show 0+(gI mine i).toNat<_;omega) hfm ?_;conv=>whnf
    refine ⟨rfl,⟨by omega,by omega⟩,?_⟩;conv=>whnf
    refine ⟨rfl,⟨by show 0≤gI mine i;omega,by show gI mine i<(us.length:Int);omega⟩,?_⟩;conv=>whnf
    refine K4 (A0 ..) rfl (by show 0+(gI mine i).toNat<_;omega) hfm (by rfl) ?_
    rw [B6];conv=>whnf
    refine ⟨rfl,?_⟩;conv=>whnf
    have w:IntKind.i64.wrap ((gU (D2 us mine offs i) (gI mine i).toNat).net - gI offs i)=(gU (D2 us mine offs i) (gI mine i).toNat).net - gI offs i:=by
     rw [hat];exact A9 (by omega) (by omega)
    refine nx hi' ⟨by rw [C0 (by omega)],_,rfl,fun j hj=>?_⟩
    show _=V6 (gU (less1 (D2 us mine offs i) (gI mine i).toNat (gI offs i)) j)
    unfold less1
    rw [A4J (by rw [N6];exact hr.2)]
    by_cases hj2:j=(gI mine i).toNat
    ·rw [if_pos hj2,hj2,←w]
     show G5 f (0+(gI mine i).toNat) _ _=_
     rw [Nat.zero_add,A2];rfl
    ·rw [if_neg hj2]
     show G5 f (0+(gI mine i).toNat) _ _=_
     rw [Nat.zero_add,G2 hj2];exact hf j hj
def I8 (p:B1) (x:Int):Y6:=(K7 p.tiers x).getD default
def T1 (p:B1) (nets:List Int):List Int :=
 if p.kind=1 then nets.map fun x=>H9 x p.rate else if p.kind=2 then nets.map fun x=>N8 x 0 p.amount
 else if p.kind=6 then nets.map fun x=>N8 x (I8 p nets.length).rate (I8 p nets.length).amount
 else D9 (N8 (A6 nets) (I8 p (A6 nets)).rate (I8 p (A6 nets)).amount) nets
theorem A7L {x:Int} (h0:0≤x) (h1:x≤100000000000000):H9 x 0=0:=by
 unfold H9
 rw [if_pos ⟨by omega,by omega⟩]
 unfold A1Q
 rw [if_neg (by rw [(A0n x).2 ⟨h0,h1⟩];decide),Int.mul_zero]
 rfl
theorem A9A {x rate amount:Int}:(if H9 x rate+amount<x then H9 x rate+amount else x)=N8 x rate amount:=by
 unfold N8;split<;>split<;>omega
theorem C2A (p:B1) (nets:List Int) (hp:A4s p) (hl:nets.length≤100000) (h0:∀ x∈nets,0≤x) (hs:A6 nets≤10000000000000) (st:St) :
  S P 255 [B8 p,B3 nets] st fun v st'=>v=B3 (T1 p nets)∧st'=st:=by
 refine S.post (post:=fun v st'=>(∃ st1,F2 st st1∧G0 2 1 eI (T1 p nets) st1 v st')∨(v=B3 (T1 p nets)∧F2 st st')) ?_
  (fun v st' h=>⟨_,st,⟨rfl,rfl⟩,by
   rcases h with ⟨st1,h1,h2⟩ | ⟨rfl,h1⟩
   ·exact h2.shift.trans (h1.shift _)
   ·exact h1.shift _⟩)
 have hx1:∀ x∈nets,x≤10000000000000:=fun x hx=>Int.le_trans (P8 h0 hx) hs
 have hsn:=C7 h0
 refine A5 [2] B7 mixed Tryz.func255 (by rfl) rfl rfl rfl ?_;conv=>whnf
 rcases hp.kind with hk | hk | hk | hk
 ·have hL:T1 p nets=nets.map fun x=>H9 x p.rate:=by unfold T1;rw [if_pos hk]
  rw [show (p.kind==1)=true from by rw [hk];rfl,hL];conv=>whnf
  refine lp nets.length [1,2,5,6] (fun i vs s=>∃ sv,vs=[B3 nets,.fptr (B8 p) 0,sv,eI i]∧G0 2 1 eI ((nets.take i).map fun x=>H9 x p.rate) st sv s) ?_ ?_
  ·conv=>whnf
   exact ⟨.emp,rfl,G0.start _ _ _ _⟩
  ·rintro i vs s hi ⟨sv,rfl,hc⟩
   conv=>whnf
   cases hd:decide ((i:Int)<(nets.length:Int))
   ·obtain rfl:=D1 hd hi
    rw [List.take_length] at hc;conv=>whnf
    exact .inl ⟨st,F2.refl _,hc⟩
   ·have hi':=F7 hd
    conv=>whnf
    refine ⟨[8,9],[],List.range 11,by kernel_rfl,?_⟩;conv=>whnf
    refine ⟨rfl,⟨by omega,by omega⟩,?_⟩;conv=>whnf
    refine ⟨_,C9 (A7k (nets.getD (i:Int).toNat default) p.rate _),?_⟩;conv=>whnf
    refine G0.app (q:=r2) (y:=H9 (nets.getD (i:Int).toNat default) p.rate) rfl rfl rfl rfl rfl rfl (by show (_+1) * 8≤140737488355328;rw [List.length_map,List.length_take];omega) hc (fun sv' s' hc'=>?_);conv=>whnf
    refine ⟨rfl,?_⟩;conv=>whnf
    exact nx hi' ⟨sv',by rw [C0 (by omega)],by rw [A2B hi'];exact hc'⟩
 ·have hL:T1 p nets=nets.map fun x=>N8 x 0 p.amount:=by unfold T1;rw [if_neg (by omega),if_pos hk]
  have ha:=hp.amount hk
  rw [show (p.kind==1)=false from by rw [hk];rfl,hL];conv=>whnf
  rw [show (p.kind==2)=true from by rw [hk];rfl];conv=>whnf
  refine lp nets.length [1,2,5,7] (fun i vs s=>∃ sv,vs=[B3 nets,.fptr (B8 p) 0,sv,eI i]∧G0 2 1 eI ((nets.take i).map fun x=>N8 x 0 p.amount) st sv s) ?_ ?_
  ·conv=>whnf
   exact ⟨.emp,rfl,G0.start _ _ _ _⟩
  ·rintro i vs s hi ⟨sv,rfl,hc⟩
   conv=>whnf
   cases hd:decide ((i:Int)<(nets.length:Int))
   ·obtain rfl:=D1 hd hi
    rw [List.take_length] at hc;conv=>whnf
    exact .inl ⟨st,F2.refl _,hc⟩
   ·have hi':=F7 hd
    have hz:H9 (nets.getD (i:Int).toNat default) 0=0:=A7L (h0 _ (B4 hi')) (Int.le_trans (hx1 _ (B4 hi')) (by decide))
    have hm:=A9A (x:=nets.getD (i:Int).toNat default) (rate:=0) (amount:=p.amount)
    rw [hz,Int.zero_add] at hm;conv=>whnf
    refine ⟨[8,9],[],List.range 11,by kernel_rfl,?_⟩;conv=>whnf
    refine ⟨rfl,⟨by omega,by omega⟩,?_⟩;conv=>whnf
    refine G0.app (q:=r2) (y:=N8 (nets.getD (i:Int).toNat default) 0 p.amount) rfl rfl rfl rfl rfl (by rw [←hm];rfl) (by show (_+1) * 8≤140737488355328;rw [List.length_map,List.length_take];omega) hc (fun sv' s' hc'=>?_);conv=>whnf
    refine ⟨rfl,?_⟩;conv=>whnf
    exact nx hi' ⟨sv',by rw [C0 (by omega)],by rw [A2B hi'];exact hc'⟩
 ·have hL:T1 p nets=D9 (N8 (A6 nets) (I8 p (A6 nets)).rate (I8 p (A6 nets)).amount) nets:=by unfold T1;rw [if_neg (by omega),if_neg (by omega),if_neg (by omega)]
  have ht:=hp.tiers (.inl hk)
  have hok:0≤(I8 p (A6 nets)).amount∧(I8 p (A6 nets)).amount≤10000000000000:=Y0 ht (A6 nets)
  have hob:0≤N8 (A6 nets) (I8 p (A6 nets)).rate (I8 p (A6 nets)).amount∧N8 (A6 nets) (I8 p (A6 nets)).rate (I8 p (A6 nets)).amount≤A6 nets:=X9 hsn hok.1
  have hW:P4 (N8 (A6 nets) (I8 p (A6 nets)).rate (I8 p (A6 nets)).amount) nets:=⟨hob.1,by omega,hl,h0,by omega,fun e=>by omega⟩
  have hb:=Q2 (A6 nets) (I8 p (A6 nets)).rate
  have w:IntKind.i64.wrap (H9 (A6 nets) (I8 p (A6 nets)).rate+(I8 p (A6 nets)).amount)=H9 (A6 nets) (I8 p (A6 nets)).rate+(I8 p (A6 nets)).amount:=A9 (by omega) (by omega)
  rw [show (p.kind==1)=false from by rw [hk];rfl,hL];conv=>whnf
  rw [show (p.kind==2)=false from by rw [hk];rfl];conv=>whnf
  rw [show (p.kind==6)=false from by rw [hk];rfl];conv=>whnf
  rw [show (p.kind==5)=true from by rw [hk];rfl];conv=>whnf
  refine A4 (B0f nets (by omega) h0 (by omega) _) ?_;conv=>whnf
  refine A4 (A9W p.tiers (A6 nets) (by have:=ht.1;omega) _) ?_;conv=>whnf
  intro b hbn;conv=>whnf
  refine K4 (A0 ..) rfl (by omega) rfl (by rfl) ?_;conv=>whnf
  refine ⟨[],[],List.range 15,by kernel_rfl,?_⟩;conv=>whnf
  refine E9 (A0 ..) rfl (by omega) (v:=L4 (I8 p (A6 nets))) (by rw [A2];rfl) ?_;conv=>whnf
  refine ⟨_,C9 (A7k (A6 nets) (I8 p (A6 nets)).rate _),?_⟩;conv=>whnf
  refine E9 (A0 ..) rfl (by omega) (v:=L4 (I8 p (A6 nets))) (by rw [A2];rfl) ?_;conv=>whnf
  rw [w,A9A]
  refine ⟨_,C9 (B0c _ nets hW _),?_⟩;conv=>whnf
  exact .inr ⟨rfl,((F2.refl st).upd hbn).over hbn⟩
 ·have hL:T1 p nets=nets.map fun x=>N8 x (I8 p nets.length).rate (I8 p nets.length).amount:=by unfold T1;rw [if_neg (by omega),if_neg (by omega),if_pos hk]
  have ht:=hp.tiers (.inr hk)
  have hok:0≤(I8 p nets.length).amount∧(I8 p nets.length).amount≤10000000000000:=Y0 ht nets.length
  rw [show (p.kind==1)=false from by rw [hk];rfl,hL];conv=>whnf
  rw [show (p.kind==2)=false from by rw [hk];rfl];conv=>whnf
  rw [show (p.kind==6)=true from by rw [hk];rfl];conv=>whnf
  refine A4 (A9W p.tiers nets.length (by have:=ht.1;omega) _) ?_;conv=>whnf
  intro b hbn;conv=>whnf
  refine K4 (A0 ..) rfl (by omega) rfl (by rfl) ?_
  rw [B6];conv=>whnf
  generalize hst1:upd st b _=st1
  obtain ⟨f1,hs1,hf1⟩:∃ f,st1 b=some ⟨257,3,1,f⟩∧f 0=L4 (I8 p nets.length):=⟨_,by rw [←hst1];exact A0 ..,by rw [A2];rfl⟩
  have hsup:F2 st st1:=by rw [←hst1];exact (F2.refl st).upd hbn
  clear hst1
  refine lp nets.length [1,5,8,10] (fun i vs s=>∃ sv,vs=[B3 nets,sv,.optr 3 b 0 0,eI i]∧G0 2 1 eI ((nets.take i).map fun x=>N8 x (I8 p nets.length).rate (I8 p nets.length).amount) st1 sv s) ?_ ?_
  ·conv=>whnf
   exact ⟨.emp,rfl,G0.start _ _ _ _⟩
  ·rintro i vs s hi ⟨sv,rfl,hc⟩
   have hb2:=hc.sup b _ hs1
   conv=>whnf
   cases hd:decide ((i:Int)<(nets.length:Int))
   ·obtain rfl:=D1 hd hi
    rw [List.take_length] at hc;conv=>whnf
    exact .inl ⟨st1,hsup,hc⟩
   ·have hi':=F7 hd
    have hb:=Q2 (nets.getD (i:Int).toNat default) (I8 p nets.length).rate
    have w:IntKind.i64.wrap (H9 (nets.getD (i:Int).toNat default) (I8 p nets.length).rate+(I8 p nets.length).amount)=H9 (nets.getD (i:Int).toNat default) (I8 p nets.length).rate+(I8 p nets.length).amount:=A9 (by omega) (by omega)
    have hm:=A9A (x:=nets.getD (i:Int).toNat default) (rate:=(I8 p nets.length).rate) (amount:=(I8 p nets.length).amount)
    rw [←w] at hm;conv=>whnf
    refine ⟨[16,17],[],List.range 19,by kernel_rfl,?_⟩;conv=>whnf
    refine ⟨rfl,⟨by omega,by omega⟩,?_⟩;conv=>whnf
    refine ⟨rfl,⟨by omega,by omega⟩,?_⟩;conv=>whnf
    refine E9 hb2 rfl (by omega) hf1 ?_;conv=>whnf
    refine ⟨_,C9 (A7k (nets.getD (i:Int).toNat default) (I8 p nets.length).rate _),?_⟩;conv=>whnf
    refine E9 hb2 rfl (by omega) hf1 ?_;conv=>whnf
    refine G0.app (q:=r2) (y:=N8 (nets.getD (i:Int).toNat default) (I8 p nets.length).rate (I8 p nets.length).amount) rfl rfl rfl rfl rfl (by rw [←hm];rfl) (by show (_+1) * 8≤140737488355328;rw [List.length_map,List.length_take];omega) hc (fun sv' s' hc'=>?_);conv=>whnf
    refine ⟨rfl,?_⟩;conv=>whnf
    exact nx hi' ⟨sv',by rw [C0 (by omega)],by rw [A2B hi'];exact hc'⟩
theorem C0Z {α : Type} (l:List α):A6 (l.map fun _=>(0:Int))=0:=by
 induction l with
 | nil=>rfl
 | cons x l ih=>rw [List.map_cons,show (0:Int)::l.map (fun _=>(0:Int))=[0]++l.map (fun _=>(0:Int)) from rfl,G1,ih];rfl
theorem C0g {p:B1} (hp:A4s p) {nets:List Int} (h0:∀ x∈nets,0≤x) (hs:A6 nets≤10000000000000) (hl:nets.length≤100000) :
  T1 p nets=L2 p nets∨(L2 p nets=[]∧A6 (T1 p nets)=0∧(T1 p nets).length=nets.length∧∀ k,k<(T1 p nets).length→gI (T1 p nets) k=0):=by
 have hx1:∀ x∈nets,x≤10000000000000:=fun x hx=>Int.le_trans (P8 h0 hx) hs
 have ok:=A0T hp.right
 rcases hp.kind with hk | hk | hk | hk
 ·refine .inl ?_
  unfold T1 L2 B3Z
  rw [if_pos hk,if_pos hk]
  refine List.map_congr_left fun x hx=>?_
  have hr:1≤p.rate∧p.rate≤10000:=by
   have:=hp.right
   unfold H4 A4Q A7e at this
   rw [if_pos hk] at this
   simp only [Bool.and_eq_true,L1] at this
   exact this.2
  have:=A3X (h0 x hx) (show 0≤p.rate by omega) hr.2
  unfold N8
  rw [Int.add_zero];split<;>omega
 ·refine .inl ?_
  unfold T1 L2 B3Y
  rw [if_neg (by omega),if_pos hk,if_neg (by omega),if_pos hk]
 ·unfold T1 L2 A4i
  rw [if_neg (by omega),if_neg (by omega),if_neg (by omega),if_neg (by omega),if_neg (by omega),if_pos hk]
  cases hr:K7 p.tiers (A6 nets) with
  | some t=>refine .inl ?_;unfold I8;rw [hr];rfl
  | none =>
   have hsn:=C7 h0
   have e:N8 (A6 nets) (I8 p (A6 nets)).rate (I8 p (A6 nets)).amount=0:=by
    unfold I8;rw [hr]
    show N8 (A6 nets) 0 0=0
    unfold N8
    rw [A7L hsn (by omega),Int.add_zero];split<;>omega
   rw [e]
   have hW:P4 0 nets:=⟨by omega,by omega,hl,h0,by omega,fun _=>rfl⟩
   obtain ⟨a,b,c⟩:=X7 hW
   exact .inr ⟨rfl,a,b,A2R c a⟩
 ·unfold T1 L2 A4h
  rw [if_neg (by omega),if_neg (by omega),if_pos hk,if_neg (by omega),if_neg (by omega),if_neg (by omega)]
  cases hr:K7 p.tiers nets.length with
  | some t=>refine .inl ?_;unfold I8;rw [hr];rfl
  | none =>
   have e:(nets.map fun x=>N8 x (I8 p nets.length).rate (I8 p nets.length).amount)=nets.map fun _=>(0:Int):=by
    refine List.map_congr_left fun x hx=>?_
    unfold I8;rw [hr]
    show N8 x 0 0=0
    unfold N8
    rw [A7L (h0 x hx) (Int.le_trans (hx1 x hx) (by decide)),Int.add_zero]
    have:=h0 x hx
    split<;>omega
   rw [e]
   exact .inr ⟨rfl,C0Z nets,by simp,fun k hk=>by rw [List.length_map] at hk;exact D8 (fun _:Int=>(0:Int)) nets hk⟩
theorem A3P (us:List B5) (mine:List Int):(E6 us mine).length=mine.length:=List.length_map ..
theorem A9F {us:List B5} (hu:E5 us) {mine:List Int} (hm:K5 us mine):(∀ x∈E6 us mine,0≤x)∧A6 (E6 us mine)≤10000000000000:=by
 have hwl:=B0v hu hm.places
 have hus:=hu.sum
 exact ⟨fun x hx=>by obtain ⟨i,hi,rfl⟩:=List.mem_map.1 hx;exact hu.at0 _,by rw [A7b];omega⟩
theorem B3S {p:B1} {us:List B5} {mine:List Int} (h0:∀ x∈L2 p (E6 us mine),0≤x):A1M us mine (L2 p (E6 us mine)) p.closes=W8 p us mine:=by
 have hn:=C7 h0
 unfold A1M W8
 by_cases hz:A6 (L2 p (E6 us mine))=0
 ·rw [if_pos hz]
  simp only
  rw [hz,A2c (A2R h0 hz) _ (Nat.le_refl _)];rfl
 ·rw [if_neg hz]
  simp only
  rw [decide_eq_true (show A6 (L2 p (E6 us mine))>0 by omega),Bool.true_and]
theorem C0q (p:B1) (us:List B5) (mine:List Int) (hp:A4s p) (hps:A2E p) (hu:E5 us) (hm:K5 us mine) (st:St) :
  S P 171 [B8 p,C6 us,B3 mine] st fun v st'=>v=.tuple [C6 (W8 p us mine).1,eI (W8 p us mine).2]∧st'=st:=by
 have hml:=hm.len
 have hul:=hu.len
 obtain ⟨hn0,hns⟩:=A9F hu hm
 have hnl:=A3P us mine
 have hob:=A3Q hp hn0 hns (by omega)
 obtain ⟨ob1,ob2,ob3⟩:=hob
 have hle:=B7a hp hn0 hns (by omega)
 have hcz:=C0g hp hn0 hns (by omega)
 have hlen:(T1 p (E6 us mine)).length≤mine.length:=by
  rcases hcz with e | ⟨_,_,e,_⟩
  ·rw [e];omega
  ·omega
 have hc:∀ k,k<(T1 p (E6 us mine)).length→0≤gI (T1 p (E6 us mine)) k∧gI (T1 p (E6 us mine)) k≤(gU us (gI mine k).toNat).net:=fun k hk=>by
  rcases hcz with e | ⟨_,_,_,e⟩
  ·rw [e] at hk ⊢
   have h1:=hle k hk
   rw [show gI (E6 us mine) k=(gU us (gI mine k).toNat).net from D8 (fun i:Int=>(gU us i.toNat).net) mine (by omega)] at h1
   exact ⟨ob3 _ (B4 hk),h1⟩
  ·rw [e k hk];exact ⟨Int.le_refl _,hu.at0 _⟩
 have hsum:A6 (T1 p (E6 us mine))≤1000000000000000:=by
  rcases hcz with e | ⟨_,e,_⟩<;>rw [e]<;>omega
 have hE:A1M us mine (T1 p (E6 us mine)) p.closes=W8 p us mine:=by
  rcases hcz with e | ⟨e1,e2,_⟩
  ·rw [e];exact B3S ob3
  ·unfold A1M W8
   rw [if_pos e2,e1];rfl
 rw [←hE]
 refine A5 [3] B7 mixed Tryz.func171 (by rfl) rfl rfl rfl ?_;conv=>whnf
 refine A4 (A3U p hps hp.right st) ?_;conv=>whnf
 refine A4 (B5R us mine hu hm st) ?_;conv=>whnf
 refine ⟨[],[],List.range 14,by kernel_rfl,?_⟩;conv=>whnf
 refine ⟨_,C9 (A5B us mine (by omega) hm.rng st),?_⟩;conv=>whnf
 refine ⟨_,C9 (C2A p (E6 us mine) hp (by omega) hn0 hns st),?_⟩;conv=>whnf
 refine ⟨_,C9 (B2M us mine (T1 p (E6 us mine)) p.closes hu hm.places (by omega) hlen hc hsum st),?_⟩;conv=>whnf
 exact ⟨rfl,rfl⟩
def B1f (p:B1) (us:List B5) (D:List Int) (m i:Nat):Int:=if ((i % m:Nat):Int)≥p.buy then H9 (gU us (gI D i).toNat).net p.rate else 0
def H3 (p:B1) (us:List B5) (D:List Int) (m n:Nat):List Int:=(List.range n).map (B1f p us D m)
theorem B5C {us:List B5} {i:Nat} (h:i<us.length):less1 us i 0=us:=by
 unfold less1
 refine List.ext_getElem (by simp) fun j h1 h2=>?_
 rw [List.getElem_set]
 split
 ·rename_i e;subst e
  have e:gU us i=us[i]:=by unfold gU;rw [List.getD_eq_getElem?_getD,List.getElem?_eq_getElem h];rfl
  rw [e,Int.sub_zero]
 ·rfl
theorem C1V (d:List QE) {k:Nat} (h:k<d.length):gI (d.map (·.2)) k=(at_ d k).2:=D8 (fun e:QE=>e.2) d h
theorem B4w {p:B1} {us:List B5} {d:List QE} {m:Nat} (hP:W6 us (d.map (·.2))) {n:Nat} (hn:n≤d.length) {s:Nat} (hs:s % m=0) (hsm:s+m≤n):∀ k,k≤m →
  A0f p (D2 us (d.map (·.2)) (H3 p us (d.map (·.2)) m n) s) (d.drop s) k=(D2 us (d.map (·.2)) (H3 p us (d.map (·.2)) m n) (s+k),A6 ((H3 p us (d.map (·.2)) m n).take (s+k)) - A6 ((H3 p us (d.map (·.2)) m n).take s))
 | 0,_=>by unfold A0f;rw [Nat.add_zero,Int.sub_self]
 | k+1,hk=>by
  have ih:=B4w (p:=p) hP hn hs hsm k (by omega)
  have hln:(H3 p us (d.map (·.2)) m n).length=n:=by unfold H3;simp
  have hml:(d.map (·.2)).length=d.length:=List.length_map ..
  have hrg:=hP.rng (s+k) (by omega)
  have hat:=A2Q (offs:=H3 p us (d.map (·.2)) m n) hP (show s+k<(d.map (·.2)).length by omega)
  have he:gI (H3 p us (d.map (·.2)) m n) (s+k)=if (k:Int)<p.buy then 0 else H9 (gU us (gI (d.map (·.2)) (s+k)).toNat).net p.rate:=by
   unfold H3
   rw [J4 _ (by omega)]
   unfold B1f
   rw [show (s+k) % m=k by rw [Nat.add_mod,hs,Nat.zero_add,Nat.mod_mod,Nat.mod_eq_of_lt (by omega)]]
   split<;>split<;>first | rfl | omega
  have hdr:at_ (d.drop s) k=at_ d (s+k):=by unfold at_;rw [List.getD_eq_getElem?_getD,List.getD_eq_getElem?_getD,List.getElem?_drop]
  have hts:=N4 (l:=H3 p us (d.map (·.2)) m n) (i:=s+k) (by omega)
  rw [←Nat.add_assoc]
  unfold A0f
  rw [ih,hts,he,hdr,←C1V d (by omega)]
  split
  ·rw [Int.add_zero]
   show _=(less1 _ _ _,_)
   rw [he,if_pos (by assumption),B5C (by rw [N6];exact hrg.2)]
  ·show _=(less1 _ _ _,_)
   rw [he,if_neg (by assumption),hat]
   congr 1
   show _ - _+_=_
   omega
theorem B6F {p:B1} {us:List B5} {d:List QE} {m:Nat} (hP:W6 us (d.map (·.2))) {q:Nat} (hn:q * m≤d.length):∀ r,r≤q →
  bgF p us d m r=(D2 us (d.map (·.2)) (H3 p us (d.map (·.2)) m (q * m)) (r * m),A6 ((H3 p us (d.map (·.2)) m (q * m)).take (r * m)))
 | 0,_=>by rw [Nat.zero_mul];rfl
 | r+1,hr=>by
  have ih:=B6F (p:=p) hP hn r (by omega)
  have e:(r+1) * m=r * m+m:=Nat.succ_mul r m
  have h1:r * m+m≤q * m:=by rw [←e];exact Nat.mul_le_mul_right m hr
  have h2:=B4w (p:=p) hP hn (s:=r * m) (Nat.mul_mod_left ..) h1 m (Nat.le_refl _)
  unfold bgF
  rw [ih]
  simp only
  rw [h2,e]
  congr 1
  show _+(_ - _)=_
  omega
theorem B3E {us:List B5} {mine:List Int} (hm:K5 us mine):W6 us ((E2 us mine).map (·.2)):=by
 have hp:((E2 us mine).map (·.2)).Perm mine:=by
  refine ((A2q us mine).map _).trans (List.Perm.of_eq ?_)
  rw [List.map_map]
  exact (List.map_congr_left fun x _=>rfl).trans (List.map_id mine)
 have hnd:mine.Pairwise (·≠·):=by
  rw [List.pairwise_iff_getElem]
  intro i j hi hj hij
  have:=hm.lt i j hij hj
  simp only [gI,List.getD_eq_getElem?_getD,List.getElem?_eq_getElem hi,List.getElem?_eq_getElem hj,Option.getD_some] at this
  omega
 have hr:∀ k,k<((E2 us mine).map (·.2)).length→0≤gI ((E2 us mine).map (·.2)) k∧(gI ((E2 us mine).map (·.2)) k).toNat<us.length:=fun k hk=>A7f (P:=fun x=>0≤x∧x.toNat<us.length) hp (fun x hx=>by obtain ⟨j,hj,rfl⟩:=F4 hx;exact hm.rng j hj) hk
 refine ⟨hr,fun i k hik hk=>?_⟩
 have h1:=(hp.symm.pairwise hnd (fun h=>h.symm))
 have:=B1z h1 hik hk
 have:=hr i (by omega)
 have:=hr k hk
 omega
theorem W6.take {us:List B5} {l:List Int} (h:W6 us l) (n:Nat):W6 us (l.take n):=by
 have e:∀ k,k<(l.take n).length→gI (l.take n) k=gI l k∧k<l.length:=fun k hk=>by
  rw [List.length_take] at hk
  unfold gI
  rw [List.getD_eq_getElem?_getD,List.getD_eq_getElem?_getD,List.getElem?_take_of_lt (by omega)]
  exact ⟨rfl,by omega⟩
 exact ⟨fun k hk=>by rw [(e k hk).1];exact h.rng k (e k hk).2,fun i k hik hk=>by rw [(e k hk).1,(e i (by omega)).1];exact h.ne i k hik (e k hk).2⟩
theorem A7r {us:List B5} {l offs:List Int} {n:Nat}:∀ k,k≤n→D2 us (l.take n) offs k=D2 us l offs k
 | 0,_=>rfl
 | k+1,hk=>by
  unfold D2
  rw [A7r k (by omega)]
  congr 1
  unfold gI;rw [List.getD_eq_getElem?_getD,List.getD_eq_getElem?_getD,List.getElem?_take_of_lt (by omega)]
set_option maxHeartbeats 400000 in
theorem B8s (p:B1) (us:List B5) (mine:List Int) (hps:A2E p) (hright:H4 p=true) (hk:p.kind=3) (hp:A8X p) (hu:E5 us) (hm:K5 us mine) (st:St) :
  S P 170 [B8 p,C6 us,B3 mine] st fun v st'=>v=.tuple [C6 (R9 p us mine).1,eI (R9 p us mine).2]∧st'=st:=by
 have hB:=hp.buy
 have hG:=hp.get
 have hml:=hm.len
 have hul:=hu.len
 have hdl:((E2 us mine).map (·.2)).length=mine.length:=by rw [List.length_map,A1g]
 have hP:=B3E hm
 obtain ⟨m,hm1⟩:∃ m:Nat,(m:Int)=p.buy+p.get:=⟨(p.buy+p.get).toNat,by omega⟩
 have w1:IntKind.i64.wrap (p.buy+p.get)=(m:Int):=by rw [A9 (by omega) (by omega)];omega
 have hq0:mine.length / m * m≤mine.length:=Nat.div_mul_le_self ..
 have hbg:=B6F (p:=p) (m:=m) hP (q:=mine.length / m) (by rw [A1g];exact hq0) _ (Nat.le_refl _)
 have hout:R9 p us mine=(if (decide (A6 (H3 p us ((E2 us mine).map (·.2)) m (mine.length / m * m))>0)&&p.closes)=true then closeB (D2 us ((E2 us mine).map (·.2)) (H3 p us ((E2 us mine).map (·.2)) m (mine.length / m * m)) (mine.length / m * m)) (((E2 us mine).map (·.2)).take (mine.length / m * m)) else D2 us ((E2 us mine).map (·.2)) (H3 p us ((E2 us mine).map (·.2)) m (mine.length / m * m)) (mine.length / m * m),A6 (H3 p us ((E2 us mine).map (·.2)) m (mine.length / m * m))):=by
  have hl:(H3 p us ((E2 us mine).map (·.2)) m (mine.length / m * m)).length=mine.length / m * m:=by unfold H3;simp
  unfold R9
  simp only
  rw [show (p.buy+p.get).toNat=m by omega,A1g,hbg]
  simp only
  rw [show (H3 p us ((E2 us mine).map (·.2)) m (mine.length / m * m)).take (mine.length / m * m)=H3 p us ((E2 us mine).map (·.2)) m (mine.length / m * m) from List.take_of_length_le (by omega),List.map_take]
 refine A5 [3] B7 mixed Tryz.func170 (by rfl) rfl rfl rfl ?_;conv=>whnf
 refine A4 (A3U p hps hright st) ?_;conv=>whnf
 rw [show (p.kind != 3)=false from by rw [hk];rfl];conv=>whnf
 refine A4 (B5R us mine hu hm st) ?_;conv=>whnf
 refine A4 (B7e us mine hu hm st) ?_
 clear hbg
 generalize (E2 us mine).map (·.2)=D at *
 conv=>whnf
 rw [w1,decide_eq_false (show ¬(m:Int)=0 by omega)];conv=>whnf
 have hN:IntKind.i64.wrap ((D.length:Int) - (D.length:Int).tmod (m:Int))=((mine.length / m * m:Nat):Int):=by
  rw [hdl,Int.tmod_eq_emod_of_nonneg (by omega),←Int.natCast_emod]
  have:=Nat.div_add_mod mine.length m
  rw [Nat.mul_comm] at this
  rw [A9 (by omega) (by omega)];omega
 rw [hN]
 generalize hNe:mine.length / m * m=N at *
 refine ⟨rfl,⟨by omega,by omega,by omega⟩,?_⟩;conv=>whnf
 refine lp N [1,3,8,9,10,11] (fun i vs s=>∃ sv,vs=[C6 us,.fptr (B8 p) 0,.arr 1 N (fun i=>eI (D.getD ((0:Int).toNat+i) default)),eI m,sv,eI i]∧G0 2 1 eI (H3 p us D m i) st sv s) ?_ ?_
 ·conv=>whnf
  exact ⟨.emp,rfl,G0.start _ _ _ _⟩
 ·rintro i vs s hi ⟨sv,rfl,hc⟩
  conv=>whnf
  cases hd:decide ((i:Int)<(N:Int))
  ·obtain rfl:=D1 hd hi
   have hln:(H3 p us D m i).length=i:=by unfold H3;simp
   have hb0:∀ k,k<(H3 p us D m i).length→0≤gI (H3 p us D m i) k∧gI (H3 p us D m i) k≤(gU us (gI (D.take i) k).toNat).net:=fun k hk=>by
    have e:gI (D.take i) k=gI D k:=by unfold gI;rw [List.getD_eq_getElem?_getD,List.getD_eq_getElem?_getD,List.getElem?_take_of_lt (by omega)]
    rw [e]
    unfold H3
    rw [J4 _ (by omega)]
    unfold B1f
    have h9:=hu.at0 (gI D k).toNat
    split
    ·exact ⟨(Q2 _ _).1,A3X h9 hp.rate.1 hp.rate.2⟩
    ·exact ⟨Int.le_refl _,h9⟩
   have h0s:∀ x∈H3 p us D m i,0≤x:=fun x hx=>by obtain ⟨k,hk,rfl⟩:=F4 hx;exact (hb0 k hk).1
   have hsum:A6 (H3 p us D m i)≤1000000000000000:=by
    have h5:=A1A hu (hP.take i) (offs:=H3 p us D m i) (by rw [hln,List.length_take];omega) hb0 (H3 p us D m i).length (Nat.le_refl _)
    rw [List.take_length] at h5
    have:=h5.sum
    have:=hu.sum
    have:=C7 (h5.ok hu).nets0
    omega
   have hE:A1M us (D.take i) (H3 p us D m i) p.closes=R9 p us mine:=by
    rw [hout]
    unfold A1M
    rw [hln,A7r i (Nat.le_refl _)]
    have hn:=C7 h0s
    by_cases hz:A6 (H3 p us D m i)=0
    ·rw [if_pos hz,hz,A2c (A2R h0s hz) i (by omega)];rfl
    ·rw [if_neg hz,decide_eq_true (show A6 (H3 p us D m i)>0 by omega),Bool.true_and]
   rw [←hE];conv=>whnf
   have hsh:B2 [C6 us,.arr 1 i (fun i=>eI (D.getD ((0:Int).toNat+i) default)),sv,eB p.closes] s [C6 us,B3 (D.take i),B3 (H3 p us D m i),eB p.closes] st:=by
    refine B2.cons (t:=s) (B2.keep _ _) (B2.cons (t:=s) ?_ (B2.cons hc.shift (B2.keep _ _)))
    have e:B3 (D.take i)=.arr 1 i (fun k=>eI (gI (D.take i) k)):=by unfold B3 A7;rw [List.length_take,Nat.min_eq_left (by omega)]
    rw [e]
    refine B2.arr fun k hk=>?_
    show eI (D.getD ((0:Int).toNat+k) default)=eI ((D.take i).getD k default)
    rw [show (0:Int).toNat+k=k by simp,List.getD_eq_getElem?_getD,List.getD_eq_getElem?_getD,List.getElem?_take_of_lt hk]
   refine I5 hsh (A4 (B2M us (D.take i) (H3 p us D m i) p.closes hu (hP.take i) (by rw [List.length_take];omega) (by rw [hln,List.length_take];omega) hb0 hsum st) ?_);conv=>whnf
   exact ⟨rfl,rfl⟩
  ·have hi':=F7 hd
   have hr:=hP.rng i (by omega)
   have hrem:(i:Int).tmod (m:Int)=((i % m:Nat):Int):=by rw [Int.tmod_eq_emod_of_nonneg (by omega),Int.natCast_emod]
   have hln:(H3 p us D m i).length=i:=by unfold H3;simp
   have hsn:H3 p us D m (i+1)=H3 p us D m i++[B1f p us D m i]:=by unfold H3;rw [List.range_succ,List.map_append];rfl
   have hbo:B1f p us D m i=if ((i % m:Nat):Int)≥p.buy then H9 (gU us (gI D i).toNat).net p.rate else 0:=rfl
   conv=>whnf
   refine ⟨[],[],List.range 6,by kernel_rfl,?_⟩;conv=>whnf
   rw [decide_eq_false (show ¬(m:Int)=0 by omega)];conv=>whnf
   rw [hrem]
   refine C3 (fun h1=>?_) (fun h1=>?_)<;>rw [h1]
   case' refine_1 =>
    rw [if_pos (of_decide_eq_true h1)] at hbo;conv=>whnf
    refine ⟨[],[],List.range 12,by kernel_rfl,?_⟩;conv=>whnf
    refine ⟨rfl,⟨by omega,by omega⟩,?_⟩;conv=>whnf
    rw [show (0:Int).toNat+(i:Int).toNat=i by simp]
    refine ⟨rfl,⟨by show 0≤gI D i;omega,by show gI D i<(us.length:Int);omega⟩,?_⟩;conv=>whnf
    refine ⟨_,C9 (A7k (gU us (gI D i).toNat).net p.rate _),?_⟩
    rw [←hbo]
   case' refine_2 =>
    rw [if_neg (of_decide_eq_false h1)] at hbo
   all_goals (conv=>whnf)
   all_goals refine G0.app (q:=r2) (y:=B1f p us D m i) rfl rfl rfl rfl rfl (by first | rfl | (rw [hbo];rfl)) (by show (_+1) * 8≤140737488355328;omega) hc (fun sv' s' hc'=>?_)
   all_goals (conv=>whnf)
   all_goals refine ⟨rfl,?_⟩
   all_goals (conv=>whnf)
   all_goals exact nx hi' ⟨sv',by rw [C0 (by omega)],by rw [hsn];exact hc'⟩
theorem B8L (used:List Bool) (l:List QE):∃ pre,l=pre++(K9 used l).2∧∀ e∈pre,used.getD e.2.toNat default=true∨(K9 used l).1=some e.2:=by
 induction l with
 | nil=>exact ⟨[],rfl,fun e h=>by cases h⟩
 | cons e l ih =>
  by_cases hu:used.getD e.2.toNat default=true
  ·have ht:K9 used (e::l)=K9 used l:=by
    show (if used.getD e.2.toNat default=true then K9 used l else (some e.2,l))=_
    rw [if_pos hu]
   obtain ⟨pre,h1,h2⟩:=ih
   rw [ht]
   exact ⟨e::pre,by rw [List.cons_append,←h1],fun x hx=>by
    rcases List.mem_cons.1 hx with rfl | hx
    ·exact .inl hu
    ·exact h2 x hx⟩
  ·have ht:K9 used (e::l)=(some e.2,l):=by
    show (if used.getD e.2.toNat default=true then K9 used l else (some e.2,l))=_
    rw [if_neg hu]
   rw [ht]
   exact ⟨[e],rfl,fun x hx=>by rw [List.mem_singleton] at hx;subst hx;exact .inr rfl⟩
theorem B6o {used:List Bool} {pre:List QE} (h:∀ e∈pre,used.getD e.2.toNat default=true) (l:List QE):K9 used (pre++l)=K9 used l:=by
 induction pre with
 | nil=>rfl
 | cons e pre ih =>
  show (if used.getD e.2.toNat default=true then K9 used (pre++l) else (some e.2,pre++l))=_
  rw [if_pos (h e (List.mem_cons_self ..))]
  exact ih fun x hx=>h x (List.mem_cons_of_mem _ hx)
def A3g (E:Nat→List QE) (n:Nat) (s:MSt):Prop:=∀ k,k<n→∃ pre,E k=pre++s.es k∧∀ e∈pre,s.used.getD e.2.toNat default=true
theorem A5c {used:List Bool} {i:Nat} (hi:i<used.length) (j:Nat):(used.set i true).getD j default=if j=i then true else used.getD j default:=by
 simp only [List.getD_eq_getElem?_getD,List.getElem?_set]
 by_cases h:j=i
 ·subst h;simp [hi]
 ·rw [if_neg (fun e=>h e.symm),if_neg h]
theorem A3g.take {E:Nat→List QE} {us:List B5} {n:Nat} {s s':MSt} (h:A3g E n s) (hok:MOk us n s) {k:Nat} (hk:k<n) (ht:A0g k s=some s'):A3g E n s':=by
 obtain ⟨pre0,p1,p2⟩:=B8L s.used (s.es k)
 obtain ⟨_,t2,_,_⟩:=A2A s.used (s.es k)
 unfold A0g at ht
 split at ht
 ·cases ht
 ·rename_i i hi
  cases ht
  obtain ⟨e0,he0,rfl,_⟩:=t2 i hi
  have hlt:e0.2.toNat<s.used.length:=by rw [hok.len];exact (hok.rng k hk e0 he0).2
  intro j hj
  obtain ⟨pre,h1,h2⟩:=h j hj
  have hmono:∀ e:QE,s.used.getD e.2.toNat default=true→(s.used.set e0.2.toNat true).getD e.2.toNat default=true:=fun e he=>by
   rw [A5c hlt];split
   ·rfl
   ·exact he
  by_cases ej:j=k
  ·subst ej
   refine ⟨pre++pre0,?_,fun e he=>?_⟩
   ·show E j=_++X4 s.es j _ j
    rw [G3,List.append_assoc,←p1];exact h1
   ·rcases List.mem_append.1 he with he | he
    ·exact hmono e (h2 e he)
    ·rcases p2 e he with he | he
     ·exact hmono e he
     ·rw [hi] at he
      have he:=Option.some.inj he
      show (s.used.set _ true).getD _ default=true
      rw [A5c hlt,if_pos (by rw [he])]
  ·refine ⟨pre,?_,fun e he=>hmono e (h2 e he)⟩
   show E j=_++X4 s.es k _ j
   rw [J8 ej];exact h1
theorem A3g.takes {E:Nat→List QE} {us:List B5} {n:Nat} {s:MSt} (h:A3g E n s) (hok:MOk us n s) {k:Nat} (hk:k<n):∀ {c:Nat} {s':MSt},P7 k c s=some s'→A3g E n s'
 | 0,s',e=>by cases e;exact h
 | c+1,s',e=>by
  unfold P7 at e
  obtain ⟨s1,h1,h2⟩:=Option.bind_eq_some_iff.1 e
  exact (A3g.takes h hok hk h1).take (hok.takes hk h1) hk h2
theorem A3g.parts {E:Nat→List QE} {us:List B5} {p:B1} {s:MSt} (h:A3g E p.parts.length s) (hok:MOk us p.parts.length s):∀ {k:Nat} {s':MSt},k≤p.parts.length→I7 p.parts k s=some s'→A3g E p.parts.length s'
 | 0,s',_,e=>by cases e;exact h
 | k+1,s',hk,e=>by
  unfold I7 at e
  obtain ⟨s1,h1,h2⟩:=Option.bind_eq_some_iff.1 e
  exact (A3g.parts h hok (by omega) h1).takes (MOk.parts hok (by omega) h1) (by omega) h2
def A7P (p:B1) (ms:MSt):List Int:=match I7 p.parts p.parts.length ms with | none=>[] | some s=>C2 s.l
theorem C4r (p:B1) (hp:A3e p) (us:List B5) (hul:us.length≤100000) (E:Nat→List QE) (L:List (List Int)) (hL:L.length=p.parts.length) (hLE:∀ k,k<p.parts.length→L.getD k default=(E k).map (·.2)) (hE:∀ k,k<p.parts.length→(E k).length≤100000∧∀ e∈E k,0≤e.2∧e.2.toNat<us.length)
  (ms:MSt) (hl0:ms.l=[]) (hm:MOk us p.parts.length ms) (hpre:A3g E p.parts.length ms) (bu:Nat) (gu:Nat→AV) (st:St) (bl:Nat) (gl:Nat→AV) (hbl:st bl=some ⟨29,1,L.length,gl⟩) (hgl:∀ k,k<L.length→gl k=B3 (L.getD k default)) (hbu:st bu=some ⟨4,1,us.length,gu⟩) (hgu:∀ k,k<us.length→gu k=eB (ms.used.getD k default)) :
  S P 256 [B8 p,C6 us,.own 1 bl 0 L.length,.own 1 bu 0 us.length] st fun v st'=>v=B3 (A7P p ms)∧st'=st:=by
 refine S.post (post:=fun v st'=>((v=.emp∧A7P p ms=[])∨v=B3 (A7P p ms))∧F2 st st') ?_
  (fun v st' ⟨h,hs⟩=>⟨_,st,⟨rfl,rfl⟩,by
   rcases h with ⟨rfl,h⟩ | rfl
   ·rw [h];exact (hs.shift _).trans (K1 1 _)
   ·exact hs.shift _⟩)
 have hn8:=hp.n8
 refine A5 [4] B7 mixed Tryz.func256 (by rfl) rfl rfl rfl ?_
 have main:∀ (tv:AV) (s0:St) ,H7 4 1 (fun k=>eB (ms.used.getD k default)) st us.length tv s0→True:=fun _ _ _=>trivial
 conv=>whnf
 refine H7.apps (q:=r4) (f:=fun k=>eB (ms.used.getD k default)) rfl rfl rfl rfl (C4C hbu rfl (by show 0+us.length≤us.length;omega)) (fun i hi=>by show gu (0+i)=eB (ms.used.getD (0+i) default);rw [Nat.zero_add];exact hgu i hi) (by show (0+us.length) * 1≤_;omega) (H7.start _ _ _ st) (fun tv s0 hc0=>?_)
 rw [Nat.zero_add] at hc0
 clear main
 conv=>whnf
 refine lp p.parts.length [2,4,9,10,11] (fun i vs s=>∃ sv tv s0 si,vs=[.own 1 bl 0 L.length,.fptr (B8 p) 0,sv,tv,eI i]∧I7 p.parts i ms=some si∧H7 4 1 (fun k=>eB (si.used.getD k default)) st us.length tv s0∧G0 3 1 eI si.l s0 sv s) ?_ ?_
 ·conv=>whnf
  exact ⟨.emp,tv,s0,ms,rfl,rfl,hc0,by rw [hl0];exact G0.start _ _ _ _⟩
 ·clear hc0
  rintro i vs s hi ⟨sv,tv,s0,si,rfl,hsi,hc0,hc1⟩
  have hmi:=MOk.parts hm hi hsi
  have hpi:=hpre.parts hm hi hsi
  have hleni:=A1k hp hi hsi
  rw [hl0,List.length_nil] at hleni;conv=>whnf
  cases hd:decide ((i:Int)<(p.parts.length:Int))
  ·obtain rfl:=D1 hd hi
   have hone:A7P p ms=C2 si.l:=by unfold A7P;rw [hsi]
   conv=>whnf
   refine I5 hc1.shift (A4 (B8x si.l (by omega) _) ?_);conv=>whnf
   exact ⟨.inr (by rw [hone];rfl),hc0.sup⟩
  ·have hi':=F7 hd
   have hLi:L.getD (i:Int).toNat default=(E i).map (·.2):=by rw [Int.toNat_natCast];exact hLE i hi'
   obtain ⟨hEl,hEr⟩:=hE i hi'
   have hct:=hp.at hi'
   obtain ⟨pre,hpr1,hpr2⟩:=hpi i hi'
   have hcn:(p.parts.getD (i:Int).toNat default).count=(((p.parts.getD i default).count.toNat:Nat):Int):=by rw [Int.toNat_natCast];omega
   have hfin:I7 p.parts (i+1) ms=P7 i (p.parts.getD i default).count.toNat si:=by
    conv=>lhs;unfold I7
    rw [hsi];rfl
   have hnone:∀ n,n≤(p.parts.getD i default).count.toNat→P7 i n si=none→A7P p ms=[]:=fun n hn hnn=>by
    have h1:=A5g hnn hn
    rw [←hfin] at h1
    unfold A7P;rw [A4T h1 hi']
   have hC100:(p.parts.getD i default).count.toNat≤100:=by omega
   generalize (p.parts.getD i default).count.toNat=C at *
   conv=>whnf
   refine lp (E i).length [2,4,9,10,11,12,13] (fun k vs s=>∃ (sv tv:AV) (s0:St) (n:Nat) (si2:MSt),vs=[.own 1 bl 0 L.length,.fptr (B8 p) 0,sv,tv,eI i,eI n,eI k]∧n≤C∧P7 i n si=some si2∧K9 si2.used (si2.es i)=K9 si2.used ((E i).drop k)∧H7 4 1 (fun k=>eB (si2.used.getD k default)) st us.length tv s0∧G0 3 1 eI si2.l s0 sv s) ?_ ?_
   ·conv=>whnf
    exact ⟨sv,tv,s0,0,si,rfl,Nat.zero_le _,rfl,by rw [List.drop_zero,hpr1,B6o hpr2],hc0,hc1⟩
   ·clear hc0 hc1
    rintro k vs s hk ⟨sv,tv,s0,n,si2,rfl,hn,hs2,htk,hc0,hc1⟩
    have hm2:=hmi.takes hi' hs2
    have hlen2:=A1p hs2
    have hlv:=hc1.sup bl _ (hc0.sup bl _ hbl)
    have hgi:gl (0+(i:Int).toNat)=B3 (L.getD (i:Int).toNat default):=by rw [Nat.zero_add];exact hgl _ (by omega)
    conv=>whnf
    refine ⟨rfl,⟨by omega,by omega⟩,?_⟩;conv=>whnf
    refine E9 hlv rfl (by omega) hgi ?_;conv=>whnf
    rw [hLi]
    have hml:((E i).map (·.2)).length=(E i).length:=List.length_map ..
    generalize hMe:(E i).map (·.2)=Mi at *
    rw [hml]
    cases hd1:decide ((k:Int)<((E i).length:Int))
    case' false =>
     have hbad:n<C→A7P p ms=[]:=fun hlt=>by
      obtain rfl:=D1 hd1 hk
      refine hnone (n+1) hlt ?_
      unfold P7
      rw [hs2]
      show A0g i si2=none
      unfold A0g
      rw [htk,List.drop_length];rfl
     conv=>whnf
    case' true =>
     have hk':=F7 hd1
     conv=>whnf
     refine ⟨rfl,⟨by omega,by omega⟩,?_⟩;conv=>whnf
     rw [hcn]
     cases hd2:decide ((n:Int)<(C:Int))
     case' false =>
      have hbad:n<C→A7P p ms=[]:=fun hlt=>absurd hd2 (by rw [decide_eq_true (by omega)];simp)
      conv=>whnf
     case' true =>
      have hnC:=F7 hd2
      have hMk:Mi.getD (k:Int).toNat default=(at_ (E i) k).2:=by rw [←hMe,Int.toNat_natCast];exact D8 (fun e:QE=>e.2) _ hk'
      have hu:0≤(at_ (E i) k).2∧(at_ (E i) k).2.toNat<us.length:=hEr _ (B4 hk')
      have hdrop:(E i).drop k=at_ (E i) k::(E i).drop (k+1):=by
       rw [List.drop_eq_getElem_cons hk'];simp [at_,hk']
      have hul2:us.length=si2.used.length:=hm2.len.symm
      rcases hc0 with ⟨h0,rfl,rfl⟩ | ⟨h0,bt,g,hbt,rfl,rfl,hg⟩
      ·omega
      have hbs:=hc1.sup bt _ (A0 ..)
      conv=>whnf
      refine ⟨rfl,⟨by omega,by omega⟩,?_⟩;conv=>whnf
      refine E9 hlv rfl (by omega) hgi ?_;conv=>whnf
      rw [hLi]
      refine ⟨rfl,⟨by omega,by omega⟩,?_⟩;conv=>whnf
      rw [←hMk] at hu
      refine ⟨rfl,⟨by omega,by omega⟩,?_⟩;conv=>whnf
      refine E9 hbs rfl (by omega) (v:=eB (si2.used.getD (Mi.getD (k:Int).toNat default).toNat default)) (by rw [Nat.zero_add];exact hg _ hu.2) ?_;conv=>whnf
      refine C3 (fun h5=>?_) (fun h5=>?_)<;>rw [h5]
      ·have hfr:si2.used.getD (Mi.getD (k:Int).toNat default).toNat default=false:=by simpa using h5
       have htk2:K9 si2.used (si2.es i)=(some (Mi.getD (k:Int).toNat default),(E i).drop (k+1)):=by
        rw [htk,hdrop,hMk]
        show (if si2.used.getD (at_ (E i) k).2.toNat default=true then _ else _)=_
        rw [if_neg (by rw [←hMk,hfr];simp)]
       have hs3:P7 i (n+1) si=some ⟨si2.used.set (Mi.getD (k:Int).toNat default).toNat true,X4 si2.es i ((E i).drop (k+1)),si2.l++[(Mi.getD (k:Int).toNat default)]⟩:=by
        unfold P7
        rw [hs2]
        show A0g i si2=_
        unfold A0g
        rw [htk2]
       conv=>whnf
       refine ⟨rfl,⟨by omega,by omega⟩,?_⟩;conv=>whnf
       refine K4 hbs rfl (by omega) (v:=eB (si2.used.getD (Mi.getD (k:Int).toNat default).toNat default)) (by rw [Nat.zero_add];exact hg _ hu.2) (by rfl) ?_
       have hc2:=H7.write hc1 (y':=⟨4,1,us.length,G5 g (0+(Mi.getD (k:Int).toNat default).toNat) (eB true)⟩) (A0 ..)
       rw [B6] at hc2;conv=>whnf
       refine G0.app (q:=r3) (y:=(Mi.getD (k:Int).toNat default)) (L:=si2.l) rfl rfl rfl rfl rfl rfl (by show (_+1) * 8≤140737488355328;omega) hc2 (fun sv' s' hc'=>?_);conv=>whnf
       refine ⟨rfl,?_⟩;conv=>whnf
       refine nx hk' ⟨sv',.own 1 bt 0 us.length,_,n+1,_,by rw [C0 (by omega),C0 (by omega)],hnC,hs3,?_,.inr ⟨h0,bt,_,hbt,rfl,rfl,fun j hj=>?_⟩,hc'⟩
       ·show K9 _ (X4 si2.es i _ i)=_
        rw [G3]
       ·show G5 g (0+(Mi.getD (k:Int).toNat default).toNat) (eB true) j=eB ((si2.used.set (Mi.getD (k:Int).toNat default).toNat true).getD j default)
        rw [Nat.zero_add,A5c (by omega)]
        by_cases ej:j=(Mi.getD (k:Int).toNat default).toNat
        ·rw [if_pos ej,ej,A2]
        ·rw [if_neg ej,G2 ej];exact hg j hj
      ·have hfr:si2.used.getD (Mi.getD (k:Int).toNat default).toNat default=true:=by simpa using h5
       conv=>whnf
       refine ⟨rfl,?_⟩;conv=>whnf
       refine nx hk' ⟨sv,.own 1 bt 0 us.length,_,n,si2,by rw [C0 (by omega)],hn,hs2,?_,.inr ⟨h0,bt,g,hbt,rfl,rfl,hg⟩,hc1⟩
       rw [htk,hdrop]
       show (if si2.used.getD (at_ (E i) k).2.toNat default=true then K9 si2.used ((E i).drop (k+1)) else _)=_
       rw [if_pos (by rw [←hMk];exact hfr)]
    all_goals
     refine ⟨rfl,⟨by omega,by omega⟩,?_⟩;conv=>whnf
     rw [hcn]
     cases hd3:decide ((n:Int)<(C:Int))
     ·obtain rfl:n=C:=by have:=of_decide_eq_false hd3;omega
      conv=>whnf
      refine ⟨rfl,?_⟩;conv=>whnf
      exact nx hi' ⟨sv,tv,s0,si2,by rw [C0 (by omega)],by rw [hfin];exact hs2,hc0,hc1⟩
     ·have hb:=hbad (F7 hd3)
      conv=>whnf
      exact ⟨.inl ⟨rfl,hb⟩,hc0.sup.trans hc1.sup⟩
end Go.Proofs.YthdimklenlikgaaGreat
