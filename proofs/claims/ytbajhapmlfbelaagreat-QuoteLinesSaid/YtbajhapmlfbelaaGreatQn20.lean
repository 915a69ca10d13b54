/- Part 20 of the proof: contracts of the functions that the law reaches -/
import Derived.Test.YtbajhapmlfbelaaGreatQn19
set_option maxRecDepth 100000
set_option linter.unusedVariables false
set_option linter.unusedSimpArgs false
namespace Go.Proofs.YtbajhapmlfbelaaGreat
open Go Go.Ab
attribute [local irreducible] upd del
set_option maxHeartbeats 2000000 in
theorem B0E (hi lo y:Int) (hh:0≤hi) (hl:0≤lo) (hl':lo<18446744073709551616) (hy:hi<y) (hy':y<18446744073709551616) (st:St) :
  S P 302 [.int .u64 hi,.int .u64 lo,.int .u64 y] st fun v st'=>v=.tuple [.int .u64 ((hi * 18446744073709551616+lo) / y),.int .u64 ((hi * 18446744073709551616+lo) % y)]∧st'=st:=by
 refine E3 [] Tryz.func302 ?_
 refine B5 (fun h=>?_) (fun h=>?_)
 ·simp at h;omega
 rw [h];conv=>whnf
 refine B5 (fun h=>?_) (fun h=>?_)
 ·simp at h;omega
 rw [h];conv=>whnf
 refine B5 (fun h=>?_) (fun h=>?_)
 ·rw [h];conv=>whnf
  refine ⟨[],[],[0,1,2,3,4,5,6,7],by kernel_rfl,?_⟩
  have hy0:decide (y=0)=false:=decide_eq_false (by omega)
  conv=>whnf
  rw [hy0];conv=>whnf
  rw [hy0];conv=>whnf
  have h0:hi=0:=by simpa using h
  have hq:0≤lo / y:=Int.ediv_nonneg hl (by omega)
  have hq':lo / y≤lo:=Int.ediv_le_self _ hl
  refine ⟨?_,rfl⟩
  show AV.tuple [AV.int .u64 _,AV.int .u64 _]=_
  rw [h0,Int.zero_mul,Int.zero_add,Int.tdiv_eq_ediv_of_nonneg hl,Int.tmod_eq_emod_of_nonneg hl,A9 hq (by omega)]
 ·rw [h];conv=>whnf
  refine call (B3z y ⟨by omega,hy'⟩ st) (fun v st' hv=>?_)
  obtain ⟨⟨n,rfl,hn,hb1,hb2⟩,rfl⟩:=hv
  have hn1:1≤n:=by
   rcases Nat.eq_zero_or_pos n with e | e
   ·subst e;simp at hb1;omega
   ·exact e
  have hb3:(2:Int) ^ (n - 1)≤y:=by rcases hb2 with e | e;omega;exact e
  generalize hs:64 - n=s
  have hs1:s≤63:=by omega
  have hsn:n=64 - s:=by omega
  have hp:(0:Int)<2 ^ s:=Int.pow_pos (by decide)
  have wS:IntKind.u64.wrap (s:Int)=(s:Int):=A9 (by omega) (by omega)
  have wM:min (s:Int).toNat IntKind.u64.bits=s:=by rw [Int.toNat_natCast];show min s 64=s;omega
  have hY1:y * 2 ^ s<18446744073709551616:=by
   have:y * 2 ^ s<2 ^ n * 2 ^ s:=Int.mul_lt_mul_of_pos_right hb1 hp
   rw [←Int.pow_add,show n+s=64 by omega] at this
   exact this
  have hY2:9223372036854775808≤y * 2 ^ s:=by
   have:2 ^ (n - 1) * 2 ^ s≤y * 2 ^ s:=Int.mul_le_mul_of_nonneg_right hb3 (Int.le_of_lt hp)
   rw [←Int.pow_add,show n - 1+s=63 by omega] at this
   exact this
  have wY:IntKind.u64.wrap (y * 2 ^ s)=y * 2 ^ s:=A9 (by omega) hY1
  have w64:IntKind.u64.wrap (64 - (s:Int))=((64 - s:Nat):Int):=by rw [A9 (by omega) (by omega)];omega
  have wM2:min (((64 - s:Nat):Int)).toNat IntKind.u64.bits=64 - s:=by rw [Int.toNat_natCast];show min (64 - s) 64=64 - s;omega
  have hH:hi * 2 ^ s<y * 2 ^ s:=Int.mul_lt_mul_of_pos_right hy hp
  have hH0:0≤hi * 2 ^ s:=Int.mul_nonneg hh (Int.le_of_lt hp)
  have wH:IntKind.u64.wrap (hi * 2 ^ s)=hi * 2 ^ s:=A9 hH0 (by omega)
  have hp2:(0:Int)<2 ^ (64 - s):=Int.pow_pos (by decide)
  have wF:lo.fdiv (2 ^ (64 - s))=lo / 2 ^ (64 - s):=Int.fdiv_eq_ediv_of_nonneg lo (Int.le_of_lt hp2)
  have hT0:0≤lo / 2 ^ (64 - s):=Int.ediv_nonneg hl (Int.le_of_lt hp2)
  have hT:lo / 2 ^ (64 - s)<2 ^ s:=by
   refine (Int.ediv_lt_iff_lt_mul hp2).2 ?_
   rw [←Int.pow_add,show s+(64 - s)=64 by omega];exact hl'
  have hU:hi * 2 ^ s+lo / 2 ^ (64 - s)<y * 2 ^ s:=by
   have:(hi+1) * 2 ^ s≤y * 2 ^ s:=Int.mul_le_mul_of_nonneg_right (by omega) (Int.le_of_lt hp)
   rw [Int.add_mul,Int.one_mul] at this
   omega
  have wO:=B7i (a:=hi) (b:=lo / 2 ^ (64 - s)) (s:=s) hh hT0 hT (by omega)
  conv=>whnf
  rw [wS,wM,wY,w64,decide_eq_false (show ¬((64 - s:Nat):Int)<0 by omega)];conv=>whnf
  rw [wH,wM2,wF,wO]
  rw [wM]
  have hsplit:=B2i (lo:=lo) (s:=s) (by omega)
  have wL:IntKind.u64.wrap (lo * 2 ^ s)=lo * 2 ^ s % 18446744073709551616:=rfl
  rw [wL]
  have hsc:=B7q (N:=hi * 18446744073709551616+lo) (y:=y) (s:=s) (by omega)
  have hL0:=Int.emod_nonneg (lo * 2 ^ s) (show (18446744073709551616:Int)≠0 by decide)
  have hL1:=Int.emod_lt_of_pos (lo * 2 ^ s) (show (0:Int)<18446744073709551616 by decide)
  have hN:(hi * 18446744073709551616+lo) * 2 ^ s=(hi * 2 ^ s+lo / 2 ^ (64 - s)) * 18446744073709551616+lo * 2 ^ s % 18446744073709551616:=by
   rw [Int.add_mul,Int.add_mul,Int.mul_right_comm];omega
  rw [hN] at hsc
  have hU0:0≤hi * 2 ^ s+lo / 2 ^ (64 - s):=by omega
  have h2d:=B0n (U:=hi * 2 ^ s+lo / 2 ^ (64 - s)) (L:=lo * 2 ^ s % 18446744073709551616) (Y:=y * 2 ^ s) (by omega) hL0
  rw [hsc.1] at h2d
  clear wO wL hsplit hN
  generalize hi * 2 ^ s+lo / 2 ^ (64 - s)=U at *
  generalize lo * 2 ^ s % 18446744073709551616=L at *
  have hY1':y * 2 ^ s=y * 2 ^ s:=rfl
  generalize hYY:y * 2 ^ s=Y at *
  rw [Q5 Y,B3E Y,Q5 L,B3E L]
  clear wS w64 wM2 wH wF hH hT hT0 hH0 hp2 hY1' wY
  have eY:Y=Y / 4294967296 * 4294967296+Y % 4294967296:=by omega
  have a1:2147483648≤Y / 4294967296:=by omega
  have a1':Y / 4294967296≤4294967295:=by omega
  have a0:0≤Y % 4294967296:=by omega
  have a0':Y % 4294967296<4294967296:=by omega
  have b1:0≤L / 4294967296:=by omega
  have b1':L / 4294967296<4294967296:=by omega
  have b0:0≤L % 4294967296:=by omega
  have b0':L % 4294967296<4294967296:=by omega
  generalize Y / 4294967296=y1 at *
  generalize Y % 4294967296=y0 at *
  generalize L / 4294967296=n1 at *
  generalize L % 4294967296=n0 at *
  obtain ⟨d1,d2,d3⟩:=X3 hU0 b1 b1' a1 a0 a0' (show U<y1 * 4294967296+y0 by omega)
  have g0:0≤(U * 4294967296+n1) / (y1 * 4294967296+y0):=Int.ediv_nonneg (by omega) (by omega)
  have g1:(U * 4294967296+n1) / (y1 * 4294967296+y0)<4294967296:=(Int.ediv_lt_iff_lt_mul (by omega)).2 (by omega)
  rw [decide_eq_false (show ¬ y1=0 by omega)];conv=>whnf
  have wq:IntKind.u64.wrap (U.tdiv y1)=U / y1:=by rw [Int.tdiv_eq_ediv_of_nonneg hU0];exact A9 d1.h0 (by omega)
  rw [wq]
  have hq1:=d1.hu
  have hr1:=d1.hr
  have wm:IntKind.u64.wrap (U / y1 * y1)=U / y1 * y1:=A9 (Int.mul_nonneg d1.h0 (by omega)) (by omega)
  rw [wm]
  have wr:IntKind.u64.wrap (U - U / y1 * y1)=U - U / y1 * y1:=A9 hr1 (by omega)
  rw [wr]
  generalize hqq:U / y1=q at *
  generalize hrr:U - q * y1=r at *
  have eB:∀ q':Int,0≤q'→q'≤4294967296→0≤q' * y0∧q' * y0≤4294967296 * y0:=fun q' h1 h2=>⟨Int.mul_nonneg h1 a0,Int.mul_le_mul_of_nonneg_right h2 a0⟩
  clear wq wm wr hqq hrr hq1 hr1
  refine ⟨[2,8,9,10,11,13,14,15,16],fun m vs st''=>∃ q r:Int,A1X U n1 y1 y0 q r∧r<4294967296∧q≤4294967297∧m=q.toNat∧vs=[.int .u64 Y,.int .u64 s,.int .u64 y1,.int .u64 y0,.int .u64 U,.int .u64 n1,.int .u64 n0,.int .u64 q,.int .u64 r]∧st''=st',?_,?_⟩
  ·conv=>whnf
   exact ⟨_,q,r,d1,by omega,d3,rfl,rfl,rfl⟩
  clear d1 d2 d3
  rintro m vs st'' ⟨q,r,d1A,d2A,d3A,rfl,rfl,rfl⟩
  have G0A:=g0
  have hr0A:=d1A.hr
  have hq0A:=d1A.h0
  conv=>whnf
  cases hcA:decide (q≥4294967296)
  ·have hc'A:=of_decide_eq_false hcA
   obtain ⟨e1A,e2A⟩:=eB q hq0A (by omega)
   conv=>whnf
   rw [A9 (x:=q * y0) e1A (by omega),A9 (x:=4294967296 * r) (by omega) (by omega),A9 (x:=4294967296 * r+n1) (by omega) (by omega)]
   cases hdA:decide (q * y0>4294967296 * r+n1)
   ·have hd'A:=of_decide_eq_false hdA
    have EQA:q=(U * 4294967296+n1) / Y:=by rw [eY];exact d1A.stop (by omega) (by omega)
    conv=>whnf
    have eV:=H5 (Y:=Y) (by omega) hY1 EQA
    rw [eV]
    have hV0:=Int.emod_nonneg (U * 4294967296+n1) (show Y≠0 by omega)
    have hV1:=Int.emod_lt_of_pos (U * 4294967296+n1) (show 0<Y by omega)
    clear eV
    dsimp only at h2d
    generalize (U * 4294967296+n1) % Y=V at *
    rw [decide_eq_false (show ¬ y1=0 by omega)];conv=>whnf
    obtain ⟨f1,f2,f3⟩:=X3 (u:=V) (n:=n0) hV0 b0 b0' a1 a0 a0' (by omega)
    have j0:0≤(V * 4294967296+n0) / (y1 * 4294967296+y0):=Int.ediv_nonneg (by omega) (by omega)
    have j1:(V * 4294967296+n0) / (y1 * 4294967296+y0)<4294967296:=(Int.ediv_lt_iff_lt_mul (by omega)).2 (by omega)
    have wq:IntKind.u64.wrap (V.tdiv y1)=V / y1:=by rw [Int.tdiv_eq_ediv_of_nonneg hV0];exact A9 f1.h0 (by omega)
    rw [wq]
    have hq1:=f1.hu
    have hr1:=f1.hr
    have wm:IntKind.u64.wrap (V / y1 * y1)=V / y1 * y1:=A9 (Int.mul_nonneg f1.h0 (by omega)) (by omega)
    rw [wm]
    have wr:IntKind.u64.wrap (V - V / y1 * y1)=V - V / y1 * y1:=A9 hr1 (by omega)
    rw [wr]
    generalize V / y1=qs at *
    generalize V - qs * y1=rs at *
    clear wq wm wr hq1 hr1
    conv=>whnf
    refine ⟨[2,8,9,10,11,13,14,15,16,17,18],fun m vs st3=>∃ q2 r2:Int,A1X V n0 y1 y0 q2 r2∧r2<4294967296∧q2≤4294967297∧m=q2.toNat∧vs=[.int .u64 Y,.int .u64 s,.int .u64 y1,.int .u64 y0,.int .u64 U,.int .u64 n1,.int .u64 n0,.int .u64 q,.int .u64 r2,.int .u64 V,.int .u64 q2]∧st3=st'',?_,?_⟩
    ·conv=>whnf
     exact ⟨_,qs,rs,f1,by omega,f3,rfl,rfl,rfl⟩
    clear f1 f2 f3
    rintro m vs st3 ⟨q2,r2,d1B,d2B,d3B,rfl,rfl,rfl⟩
    have G0B:=j0
    have hr0B:=d1B.hr
    have hq0B:=d1B.h0
    conv=>whnf
    cases hcB:decide (q2≥4294967296)
    ·have hc'B:=of_decide_eq_false hcB
     obtain ⟨e1B,e2B⟩:=eB q2 hq0B (by omega)
     conv=>whnf
     rw [A9 (x:=q2 * y0) e1B (by omega),A9 (x:=4294967296 * r2) (by omega) (by omega),A9 (x:=4294967296 * r2+n0) (by omega) (by omega)]
     cases hdB:decide (q2 * y0>4294967296 * r2+n0)
     ·have hd'B:=of_decide_eq_false hdB
      have EQB:q2=(V * 4294967296+n0) / Y:=by rw [eY];exact d1B.stop (by omega) (by omega)
      conv=>whnf
      have eR:=H5 (U:=V) (n:=n0) (Y:=Y) (by omega) hY1 EQB
      conv=>whnf
      try rw [decide_eq_false (show ¬(s:Int)<0 by omega)]
      conv=>whnf
      rw [wM,eR]
      obtain ⟨k1,k2⟩:=h2d
      have r1:q * 4294967296+q2=(hi * 18446744073709551616+lo) / y:=by rw [EQA,EQB];exact k1
      have r2:((V * 4294967296+n0) % Y).fdiv (2 ^ s)=(hi * 18446744073709551616+lo) % y:=by
       rw [Int.fdiv_eq_ediv_of_nonneg _ (Int.le_of_lt hp),k2];exact hsc.2
      have lq1:0≤q∧q<4294967296:=by rw [EQA,eY];exact ⟨g0,g1⟩
      have lq0:0≤q2∧q2<4294967296:=by rw [EQB,eY];exact ⟨j0,j1⟩
      refine ⟨?_,rfl⟩
      show AV.tuple [AV.int .u64 _,AV.int .u64 _]=_
      rw [A9 (x:=q * 4294967296) (by omega) (by omega),A9 (x:=q * 4294967296+q2) (by omega) (by omega),r1,r2]
     ·have hd'B:=of_decide_eq_true hdB
      have dSB:=d1B.step (by omega) (A2Q (by omega) d1B.hu (by omega)) G0B
      have hqpB:=dSB.h0
      conv=>whnf
      rw [A9 (x:=q2 - 1) (by omega) (by omega),A9 (x:=r2+y1) (by omega) (by omega)]
      cases hbB:decide (r2+y1≥4294967296)
      ·have hb'B:=of_decide_eq_false hbB
       conv=>whnf
       refine H4 ?_
       exact ⟨(q2 - 1).toNat,by omega,q2 - 1,r2+y1,dSB,by omega,by omega,rfl,rfl,rfl⟩
      ·have hb'B:=of_decide_eq_true hbB
       obtain ⟨e3B,e4B⟩:=eB (q2 - 1) (by omega) (by omega)
       have EQB:q2 - 1=(V * 4294967296+n0) / Y:=by rw [eY];exact dSB.stop (by omega) (by omega)
       conv=>whnf
       have eR:=H5 (U:=V) (n:=n0) (Y:=Y) (by omega) hY1 EQB
       conv=>whnf
       try rw [decide_eq_false (show ¬(s:Int)<0 by omega)]
       conv=>whnf
       rw [wM,eR]
       obtain ⟨k1,k2⟩:=h2d
       have r1:q * 4294967296+(q2 - 1)=(hi * 18446744073709551616+lo) / y:=by rw [EQA,EQB];exact k1
       have r2:((V * 4294967296+n0) % Y).fdiv (2 ^ s)=(hi * 18446744073709551616+lo) % y:=by
        rw [Int.fdiv_eq_ediv_of_nonneg _ (Int.le_of_lt hp),k2];exact hsc.2
       have lq1:0≤q∧q<4294967296:=by rw [EQA,eY];exact ⟨g0,g1⟩
       have lq0:0≤(q2 - 1)∧(q2 - 1)<4294967296:=by rw [EQB,eY];exact ⟨j0,j1⟩
       refine ⟨?_,rfl⟩
       show AV.tuple [AV.int .u64 _,AV.int .u64 _]=_
       rw [A9 (x:=q * 4294967296) (by omega) (by omega),A9 (x:=q * 4294967296+(q2 - 1)) (by omega) (by omega),r1,r2]
    ·have hc'B:=of_decide_eq_true hcB
     have dSB:=d1B.step (by omega) (by omega) G0B
     have hqpB:=dSB.h0
     conv=>whnf
     rw [A9 (x:=q2 - 1) (by omega) (by omega),A9 (x:=r2+y1) (by omega) (by omega)]
     cases hbB:decide (r2+y1≥4294967296)
     ·have hb'B:=of_decide_eq_false hbB
      conv=>whnf
      refine H4 ?_
      exact ⟨(q2 - 1).toNat,by omega,q2 - 1,r2+y1,dSB,by omega,by omega,rfl,rfl,rfl⟩
     ·have hb'B:=of_decide_eq_true hbB
      obtain ⟨e3B,e4B⟩:=eB (q2 - 1) (by omega) (by omega)
      have EQB:q2 - 1=(V * 4294967296+n0) / Y:=by rw [eY];exact dSB.stop (by omega) (by omega)
      conv=>whnf
      have eR:=H5 (U:=V) (n:=n0) (Y:=Y) (by omega) hY1 EQB
      conv=>whnf
      try rw [decide_eq_false (show ¬(s:Int)<0 by omega)]
      conv=>whnf
      rw [wM,eR]
      obtain ⟨k1,k2⟩:=h2d
      have r1:q * 4294967296+(q2 - 1)=(hi * 18446744073709551616+lo) / y:=by rw [EQA,EQB];exact k1
      have r2:((V * 4294967296+n0) % Y).fdiv (2 ^ s)=(hi * 18446744073709551616+lo) % y:=by
       rw [Int.fdiv_eq_ediv_of_nonneg _ (Int.le_of_lt hp),k2];exact hsc.2
      have lq1:0≤q∧q<4294967296:=by rw [EQA,eY];exact ⟨g0,g1⟩
      have lq0:0≤(q2 - 1)∧(q2 - 1)<4294967296:=by rw [EQB,eY];exact ⟨j0,j1⟩
      refine ⟨?_,rfl⟩
      show AV.tuple [AV.int .u64 _,AV.int .u64 _]=_
      rw [A9 (x:=q * 4294967296) (by omega) (by omega),A9 (x:=q * 4294967296+(q2 - 1)) (by omega) (by omega),r1,r2]
   ·have hd'A:=of_decide_eq_true hdA
    have dSA:=d1A.step (by omega) (A2Q (by omega) d1A.hu (by omega)) G0A
    have hqpA:=dSA.h0
    conv=>whnf
    rw [A9 (x:=q - 1) (by omega) (by omega),A9 (x:=r+y1) (by omega) (by omega)]
    cases hbA:decide (r+y1≥4294967296)
    ·have hb'A:=of_decide_eq_false hbA
     conv=>whnf
     refine H4 ?_
     exact ⟨(q - 1).toNat,by omega,q - 1,r+y1,dSA,by omega,by omega,rfl,rfl,rfl⟩
    ·have hb'A:=of_decide_eq_true hbA
     obtain ⟨e3A,e4A⟩:=eB (q - 1) (by omega) (by omega)
     have EQA:q - 1=(U * 4294967296+n1) / Y:=by rw [eY];exact dSA.stop (by omega) (by omega)
     conv=>whnf
     have eV:=H5 (Y:=Y) (by omega) hY1 EQA
     rw [eV]
     have hV0:=Int.emod_nonneg (U * 4294967296+n1) (show Y≠0 by omega)
     have hV1:=Int.emod_lt_of_pos (U * 4294967296+n1) (show 0<Y by omega)
     clear eV
     dsimp only at h2d
     generalize (U * 4294967296+n1) % Y=V at *
     rw [decide_eq_false (show ¬ y1=0 by omega)];conv=>whnf
     obtain ⟨f1,f2,f3⟩:=X3 (u:=V) (n:=n0) hV0 b0 b0' a1 a0 a0' (by omega)
     have j0:0≤(V * 4294967296+n0) / (y1 * 4294967296+y0):=Int.ediv_nonneg (by omega) (by omega)
     have j1:(V * 4294967296+n0) / (y1 * 4294967296+y0)<4294967296:=(Int.ediv_lt_iff_lt_mul (by omega)).2 (by omega)
     have wq:IntKind.u64.wrap (V.tdiv y1)=V / y1:=by rw [Int.tdiv_eq_ediv_of_nonneg hV0];exact A9 f1.h0 (by omega)
     rw [wq]
     have hq1:=f1.hu
     have hr1:=f1.hr
     have wm:IntKind.u64.wrap (V / y1 * y1)=V / y1 * y1:=A9 (Int.mul_nonneg f1.h0 (by omega)) (by omega)
     rw [wm]
     have wr:IntKind.u64.wrap (V - V / y1 * y1)=V - V / y1 * y1:=A9 hr1 (by omega)
     rw [wr]
     generalize V / y1=qs at *
     generalize V - qs * y1=rs at *
     clear wq wm wr hq1 hr1
     conv=>whnf
     refine ⟨[2,8,9,10,11,13,14,15,16,17,18],fun m vs st3=>∃ q2 r2:Int,A1X V n0 y1 y0 q2 r2∧r2<4294967296∧q2≤4294967297∧m=q2.toNat∧vs=[.int .u64 Y,.int .u64 s,.int .u64 y1,.int .u64 y0,.int .u64 U,.int .u64 n1,.int .u64 n0,.int .u64 (q - 1),.int .u64 r2,.int .u64 V,.int .u64 q2]∧st3=st'',?_,?_⟩
     ·conv=>whnf
      exact ⟨_,qs,rs,f1,by omega,f3,rfl,rfl,rfl⟩
     clear f1 f2 f3
     rintro m vs st3 ⟨q2,r2,d1B,d2B,d3B,rfl,rfl,rfl⟩
     have G0B:=j0
     have hr0B:=d1B.hr
     have hq0B:=d1B.h0
     conv=>whnf
     cases hcB:decide (q2≥4294967296)
     ·have hc'B:=of_decide_eq_false hcB
      obtain ⟨e1B,e2B⟩:=eB q2 hq0B (by omega)
      conv=>whnf
      rw [A9 (x:=q2 * y0) e1B (by omega),A9 (x:=4294967296 * r2) (by omega) (by omega),A9 (x:=4294967296 * r2+n0) (by omega) (by omega)]
      cases hdB:decide (q2 * y0>4294967296 * r2+n0)
      ·have hd'B:=of_decide_eq_false hdB
       have EQB:q2=(V * 4294967296+n0) / Y:=by rw [eY];exact d1B.stop (by omega) (by omega)
       conv=>whnf
       have eR:=H5 (U:=V) (n:=n0) (Y:=Y) (by omega) hY1 EQB
       conv=>whnf
       try rw [decide_eq_false (show ¬(s:Int)<0 by omega)]
       conv=>whnf
       rw [wM,eR]
       obtain ⟨k1,k2⟩:=h2d
       have r1:(q - 1) * 4294967296+q2=(hi * 18446744073709551616+lo) / y:=by rw [EQA,EQB];exact k1
       have r2:((V * 4294967296+n0) % Y).fdiv (2 ^ s)=(hi * 18446744073709551616+lo) % y:=by
        rw [Int.fdiv_eq_ediv_of_nonneg _ (Int.le_of_lt hp),k2];exact hsc.2
       have lq1:0≤(q - 1)∧(q - 1)<4294967296:=by rw [EQA,eY];exact ⟨g0,g1⟩
       have lq0:0≤q2∧q2<4294967296:=by rw [EQB,eY];exact ⟨j0,j1⟩
       refine ⟨?_,rfl⟩
       show AV.tuple [AV.int .u64 _,AV.int .u64 _]=_
       rw [A9 (x:=(q - 1) * 4294967296) (by omega) (by omega),A9 (x:=(q - 1) * 4294967296+q2) (by omega) (by omega),r1,r2]
      ·have hd'B:=of_decide_eq_true hdB
       have dSB:=d1B.step (by omega) (A2Q (by omega) d1B.hu (by omega)) G0B
       have hqpB:=dSB.h0
       conv=>whnf
       rw [A9 (x:=q2 - 1) (by omega) (by omega),A9 (x:=r2+y1) (by omega) (by omega)]
       cases hbB:decide (r2+y1≥4294967296)
       ·have hb'B:=of_decide_eq_false hbB
        conv=>whnf
        refine H4 ?_
        exact ⟨(q2 - 1).toNat,by omega,q2 - 1,r2+y1,dSB,by omega,by omega,rfl,rfl,rfl⟩
       ·have hb'B:=of_decide_eq_true hbB
        obtain ⟨e3B,e4B⟩:=eB (q2 - 1) (by omega) (by omega)
        have EQB:q2 - 1=(V * 4294967296+n0) / Y:=by rw [eY];exact dSB.stop (by omega) (by omega)
        conv=>whnf
        have eR:=H5 (U:=V) (n:=n0) (Y:=Y) (by omega) hY1 EQB
        conv=>whnf
        try rw [decide_eq_false (show ¬(s:Int)<0 by omega)]
        conv=>whnf
        rw [wM,eR]
        obtain ⟨k1,k2⟩:=h2d
        have r1:(q - 1) * 4294967296+(q2 - 1)=(hi * 18446744073709551616+lo) / y:=by rw [EQA,EQB];exact k1
        have r2:((V * 4294967296+n0) % Y).fdiv (2 ^ s)=(hi * 18446744073709551616+lo) % y:=by
         rw [Int.fdiv_eq_ediv_of_nonneg _ (Int.le_of_lt hp),k2];exact hsc.2
        have lq1:0≤(q - 1)∧(q - 1)<4294967296:=by rw [EQA,eY];exact ⟨g0,g1⟩
        have lq0:0≤(q2 - 1)∧(q2 - 1)<4294967296:=by rw [EQB,eY];exact ⟨j0,j1⟩
        refine ⟨?_,rfl⟩
        show AV.tuple [AV.int .u64 _,AV.int .u64 _]=_
        rw [A9 (x:=(q - 1) * 4294967296) (by omega) (by omega),A9 (x:=(q - 1) * 4294967296+(q2 - 1)) (by omega) (by omega),r1,r2]
     ·have hc'B:=of_decide_eq_true hcB
      have dSB:=d1B.step (by omega) (by omega) G0B
      have hqpB:=dSB.h0
      conv=>whnf
      rw [A9 (x:=q2 - 1) (by omega) (by omega),A9 (x:=r2+y1) (by omega) (by omega)]
      cases hbB:decide (r2+y1≥4294967296)
      ·have hb'B:=of_decide_eq_false hbB
       conv=>whnf
       refine H4 ?_
       exact ⟨(q2 - 1).toNat,by omega,q2 - 1,r2+y1,dSB,by omega,by omega,rfl,rfl,rfl⟩
      ·have hb'B:=of_decide_eq_true hbB
       obtain ⟨e3B,e4B⟩:=eB (q2 - 1) (by omega) (by omega)
       have EQB:q2 - 1=(V * 4294967296+n0) / Y:=by rw [eY];exact dSB.stop (by omega) (by omega)
       conv=>whnf
       have eR:=H5 (U:=V) (n:=n0) (Y:=Y) (by omega) hY1 EQB
       conv=>whnf
       try rw [decide_eq_false (show ¬(s:Int)<0 by omega)]
       conv=>whnf
       rw [wM,eR]
       obtain ⟨k1,k2⟩:=h2d
       have r1:(q - 1) * 4294967296+(q2 - 1)=(hi * 18446744073709551616+lo) / y:=by rw [EQA,EQB];exact k1
       have r2:((V * 4294967296+n0) % Y).fdiv (2 ^ s)=(hi * 18446744073709551616+lo) % y:=by
        rw [Int.fdiv_eq_ediv_of_nonneg _ (Int.le_of_lt hp),k2];exact hsc.2
       have lq1:0≤(q - 1)∧(q - 1)<4294967296:=by rw [EQA,eY];exact ⟨g0,g1⟩
       have lq0:0≤(q2 - 1)∧(q2 - 1)<4294967296:=by rw [EQB,eY];exact ⟨j0,j1⟩
       refine ⟨?_,rfl⟩
       show AV.tuple [AV.int .u64 _,AV.int .u64 _]=_
       rw [A9 (x:=(q - 1) * 4294967296) (by omega) (by omega),A9 (x:=(q - 1) * 4294967296+(q2 - 1)) (by omega) (by omega),r1,r2]
  ·have hc'A:=of_decide_eq_true hcA
   have dSA:=d1A.step (by omega) (by omega) G0A
   have hqpA:=dSA.h0
   conv=>whnf
   rw [A9 (x:=q - 1) (by omega) (by omega),A9 (x:=r+y1) (by omega) (by omega)]
   cases hbA:decide (r+y1≥4294967296)
   ·have hb'A:=of_decide_eq_false hbA
    conv=>whnf
    refine H4 ?_
    exact ⟨(q - 1).toNat,by omega,q - 1,r+y1,dSA,by omega,by omega,rfl,rfl,rfl⟩
   ·have hb'A:=of_decide_eq_true hbA
    obtain ⟨e3A,e4A⟩:=eB (q - 1) (by omega) (by omega)
    have EQA:q - 1=(U * 4294967296+n1) / Y:=by rw [eY];exact dSA.stop (by omega) (by omega)
    conv=>whnf
    have eV:=H5 (Y:=Y) (by omega) hY1 EQA
    rw [eV]
    have hV0:=Int.emod_nonneg (U * 4294967296+n1) (show Y≠0 by omega)
    have hV1:=Int.emod_lt_of_pos (U * 4294967296+n1) (show 0<Y by omega)
    clear eV
    dsimp only at h2d
    generalize (U * 4294967296+n1) % Y=V at *
    rw [decide_eq_false (show ¬ y1=0 by omega)];conv=>whnf
    obtain ⟨f1,f2,f3⟩:=X3 (u:=V) (n:=n0) hV0 b0 b0' a1 a0 a0' (by omega)
    have j0:0≤(V * 4294967296+n0) / (y1 * 4294967296+y0):=Int.ediv_nonneg (by omega) (by omega)
    have j1:(V * 4294967296+n0) / (y1 * 4294967296+y0)<4294967296:=(Int.ediv_lt_iff_lt_mul (by omega)).2 (by omega)
    have wq:IntKind.u64.wrap (V.tdiv y1)=V / y1:=by rw [Int.tdiv_eq_ediv_of_nonneg hV0];exact A9 f1.h0 (by omega)
    rw [wq]
    have hq1:=f1.hu
    have hr1:=f1.hr
    have wm:IntKind.u64.wrap (V / y1 * y1)=V / y1 * y1:=A9 (Int.mul_nonneg f1.h0 (by omega)) (by omega)
    rw [wm]
    have wr:IntKind.u64.wrap (V - V / y1 * y1)=V - V / y1 * y1:=A9 hr1 (by omega)
    rw [wr]
    generalize V / y1=qs at *
    generalize V - qs * y1=rs at *
    clear wq wm wr hq1 hr1
    conv=>whnf
    refine ⟨[2,8,9,10,11,13,14,15,16,17,18],fun m vs st3=>∃ q2 r2:Int,A1X V n0 y1 y0 q2 r2∧r2<4294967296∧q2≤4294967297∧m=q2.toNat∧vs=[.int .u64 Y,.int .u64 s,.int .u64 y1,.int .u64 y0,.int .u64 U,.int .u64 n1,.int .u64 n0,.int .u64 (q - 1),.int .u64 r2,.int .u64 V,.int .u64 q2]∧st3=st'',?_,?_⟩
    ·conv=>whnf
     exact ⟨_,qs,rs,f1,by omega,f3,rfl,rfl,rfl⟩
    clear f1 f2 f3
    rintro m vs st3 ⟨q2,r2,d1B,d2B,d3B,rfl,rfl,rfl⟩
    have G0B:=j0
    have hr0B:=d1B.hr
    have hq0B:=d1B.h0
    conv=>whnf
    cases hcB:decide (q2≥4294967296)
    ·have hc'B:=of_decide_eq_false hcB
     obtain ⟨e1B,e2B⟩:=eB q2 hq0B (by omega)
     conv=>whnf
     rw [A9 (x:=q2 * y0) e1B (by omega),A9 (x:=4294967296 * r2) (by omega) (by omega),A9 (x:=4294967296 * r2+n0) (by omega) (by omega)]
     cases hdB:decide (q2 * y0>4294967296 * r2+n0)
     ·have hd'B:=of_decide_eq_false hdB
      have EQB:q2=(V * 4294967296+n0) / Y:=by rw [eY];exact d1B.stop (by omega) (by omega)
      conv=>whnf
      have eR:=H5 (U:=V) (n:=n0) (Y:=Y) (by omega) hY1 EQB
      conv=>whnf
      try rw [decide_eq_false (show ¬(s:Int)<0 by omega)]
      conv=>whnf
      rw [wM,eR]
      obtain ⟨k1,k2⟩:=h2d
      have r1:(q - 1) * 4294967296+q2=(hi * 18446744073709551616+lo) / y:=by rw [EQA,EQB];exact k1
      have r2:((V * 4294967296+n0) % Y).fdiv (2 ^ s)=(hi * 18446744073709551616+lo) % y:=by
       rw [Int.fdiv_eq_ediv_of_nonneg _ (Int.le_of_lt hp),k2];exact hsc.2
      have lq1:0≤(q - 1)∧(q - 1)<4294967296:=by rw [EQA,eY];exact ⟨g0,g1⟩
      have lq0:0≤q2∧q2<4294967296:=by rw [EQB,eY];exact ⟨j0,j1⟩
      refine ⟨?_,rfl⟩
      show AV.tuple [AV.int .u64 _,AV.int .u64 _]=_
      rw [A9 (x:=(q - 1) * 4294967296) (by omega) (by omega),A9 (x:=(q - 1) * 4294967296+q2) (by omega) (by omega),r1,r2]
     ·have hd'B:=of_decide_eq_true hdB
      have dSB:=d1B.step (by omega) (A2Q (by omega) d1B.hu (by omega)) G0B
      have hqpB:=dSB.h0
      conv=>whnf
      rw [A9 (x:=q2 - 1) (by omega) (by omega),A9 (x:=r2+y1) (by omega) (by omega)]
      cases hbB:decide (r2+y1≥4294967296)
      ·have hb'B:=of_decide_eq_false hbB
       conv=>whnf
       refine H4 ?_
       exact ⟨(q2 - 1).toNat,by omega,q2 - 1,r2+y1,dSB,by omega,by omega,rfl,rfl,rfl⟩
      ·have hb'B:=of_decide_eq_true hbB
       obtain ⟨e3B,e4B⟩:=eB (q2 - 1) (by omega) (by omega)
       have EQB:q2 - 1=(V * 4294967296+n0) / Y:=by rw [eY];exact dSB.stop (by omega) (by omega)
       conv=>whnf
       have eR:=H5 (U:=V) (n:=n0) (Y:=Y) (by omega) hY1 EQB
       conv=>whnf
       try rw [decide_eq_false (show ¬(s:Int)<0 by omega)]
       conv=>whnf
       rw [wM,eR]
       obtain ⟨k1,k2⟩:=h2d
       have r1:(q - 1) * 4294967296+(q2 - 1)=(hi * 18446744073709551616+lo) / y:=by rw [EQA,EQB];exact k1
       have r2:((V * 4294967296+n0) % Y).fdiv (2 ^ s)=(hi * 18446744073709551616+lo) % y:=by
        rw [Int.fdiv_eq_ediv_of_nonneg _ (Int.le_of_lt hp),k2];exact hsc.2
       have lq1:0≤(q - 1)∧(q - 1)<4294967296:=by rw [EQA,eY];exact ⟨g0,g1⟩
       have lq0:0≤(q2 - 1)∧(q2 - 1)<4294967296:=by rw [EQB,eY];exact ⟨j0,j1⟩
       refine ⟨?_,rfl⟩
       show AV.tuple [AV.int .u64 _,AV.int .u64 _]=_
       rw [A9 (x:=(q - 1) * 4294967296) (by omega) (by omega),A9 (x:=(q - 1) * 4294967296+(q2 - 1)) (by omega) (by omega),r1,r2]
    ·have hc'B:=of_decide_eq_true hcB
     have dSB:=d1B.step (by omega) (by omega) G0B
     have hqpB:=dSB.h0
     conv=>whnf
     rw [A9 (x:=q2 - 1) (by omega) (by omega),A9 (x:=r2+y1) (by omega) (by omega)]
     cases hbB:decide (r2+y1≥4294967296)
     ·have hb'B:=of_decide_eq_false hbB
      conv=>whnf
      refine H4 ?_
      exact ⟨(q2 - 1).toNat,by omega,q2 - 1,r2+y1,dSB,by omega,by omega,rfl,rfl,rfl⟩
     ·have hb'B:=of_decide_eq_true hbB
      obtain ⟨e3B,e4B⟩:=eB (q2 - 1) (by omega) (by omega)
      have EQB:q2 - 1=(V * 4294967296+n0) / Y:=by rw [eY];exact dSB.stop (by omega) (by omega)
      conv=>whnf
      have eR:=H5 (U:=V) (n:=n0) (Y:=Y) (by omega) hY1 EQB
      conv=>whnf
      try rw [decide_eq_false (show ¬(s:Int)<0 by omega)]
      conv=>whnf
      rw [wM,eR]
      obtain ⟨k1,k2⟩:=h2d
      have r1:(q - 1) * 4294967296+(q2 - 1)=(hi * 18446744073709551616+lo) / y:=by rw [EQA,EQB];exact k1
      have r2:((V * 4294967296+n0) % Y).fdiv (2 ^ s)=(hi * 18446744073709551616+lo) % y:=by
       rw [Int.fdiv_eq_ediv_of_nonneg _ (Int.le_of_lt hp),k2];exact hsc.2
      have lq1:0≤(q - 1)∧(q - 1)<4294967296:=by rw [EQA,eY];exact ⟨g0,g1⟩
      have lq0:0≤(q2 - 1)∧(q2 - 1)<4294967296:=by rw [EQB,eY];exact ⟨j0,j1⟩
      refine ⟨?_,rfl⟩
      show AV.tuple [AV.int .u64 _,AV.int .u64 _]=_
      rw [A9 (x:=(q - 1) * 4294967296) (by omega) (by omega),A9 (x:=(q - 1) * 4294967296+(q2 - 1)) (by omega) (by omega),r1,r2]
def S1 (x:Int):Bool:=decide (0≤x)&&decide (x≤100000000000000)
def M3 (q r den round:Int):Int :=
 if round=0 then q
 else if round=1 then (if r≥den - r then q+1 else q)
 else (if r>den - r∨(r=den - r∧q % 2=1) then q+1 else q)
def U4 (x num den round:Int):Int×Int :=
 if (S1 x&&S1 num&&S1 den&&den != 0&&decide (0≤round)&&decide (round<3))=false then (0,2)
 else if x * num / den>100000000000000 then (0,5)
 else if M3 (x * num / den) (x * num % den) den round>100000000000000 then (0,5)
 else (M3 (x * num / den) (x * num % den) den round,0)
abbrev eU (x:Int):AV:=.int .u64 x
theorem B6R (q r d:Int) (st:St):S P 298 [.agg [eU q,eU r,eU d]] st fun v st'=>v=eU q∧st'=st:=by
 refine E3 [1] Tryz.func298 ?_
 exact ⟨rfl,rfl⟩
theorem C2K (q r d:Int) (hq:0≤q) (hq':q≤100000000000000) (hr:0≤r) (hr':r<d) (hd:d≤100000000000000) (st:St):S P 299 [.agg [eU q,eU r,eU d]] st fun v st'=>v=eU (if r≥d - r then q+1 else q)∧st'=st:=by
 refine E3 [1] Tryz.func299 ?_
 rw [A9 (x:=d - r) (by omega) (by omega)]
 refine B5 (fun h=>?_) (fun h=>?_)<;>rw [h]<;>simp only [decide_eq_true_eq,decide_eq_false_iff_not] at h
 ·conv=>whnf
  rw [A9 (x:=q+1) (by omega) (by omega)]
  exact ⟨by rw [if_pos h];rfl,rfl⟩
 ·conv=>whnf
  exact ⟨by rw [if_neg h];rfl,rfl⟩
theorem B6T (q r d:Int) (hq:0≤q) (hq':q≤100000000000000) (hr:0≤r) (hr':r<d) (hd:d≤100000000000000) (st:St):S P 300 [.agg [eU q,eU r,eU d]] st fun v st'=>v=eU (if r>d - r∨(r=d - r∧q % 2=1) then q+1 else q)∧st'=st:=by
 refine E3 [1] Tryz.func300 ?_
 have wd:IntKind.u64.wrap (d - r)=d - r:=A9 (by omega) (by omega)
 have w2:q.tmod 2=q % 2:=Int.tmod_eq_emod_of_nonneg hq
 repeat' ((conv=>whnf);refine B5 (fun h=>?_) (fun h=>?_)<;>rw [h])
 all_goals (conv=>whnf)
 all_goals (try rw [A9 (x:=q+1) (by omega) (by omega)])
 all_goals (refine ⟨?_,rfl⟩;show AV.int .u64 _=AV.int .u64 _;congr 1)
 all_goals (simp only [w2,wd,decide_eq_true_eq,decide_eq_false_iff_not,beq_iff_eq,beq_eq_false_iff_ne,ne_eq] at *)
 all_goals (split<;>omega)
theorem A8c (x num den round:Int) (st:St):S P 245 [eI x,eI num,eI den,eI round] st fun v st'=>v=.tuple [eI (U4 x num den round).1,eI (U4 x num den round).2]∧st'=st:=by
 refine SyW [10] Tryz.func245 ?_
 repeat' ((conv=>whnf);first | refine C1 (A2Y _ st) ?_ | (refine B5 (fun h=>?_) (fun h=>?_)<;>rw [h]))
 all_goals (conv=>whnf)
 all_goals first
  | (refine ⟨?_,rfl⟩
     have e:(S1 x&&S1 num&&S1 den&&den != 0&&decide (0≤round)&&decide (round<3))=false:=by
      rw [←Bool.not_eq_true]
      intro hh
      simp only [S1,Bool.and_eq_true,Bool.not_eq_true',Bool.not_eq_false',bne_iff_ne,ne_eq,decide_eq_true_eq,decide_eq_false_iff_not,beq_iff_eq,beq_eq_false_iff_ne,Bool.and_eq_false_iff] at *
      omega
     rw [show U4 x num den round=(0,2) from if_pos e];rfl)
  | skip
 have e:¬(S1 x&&S1 num&&S1 den&&den != 0&&decide (0≤round)&&decide (round<3))=false:=by
  rw [Bool.not_eq_false]
  simp only [S1,Bool.and_eq_true,Bool.not_eq_true',Bool.not_eq_false',bne_iff_ne,ne_eq,decide_eq_true_eq,decide_eq_false_iff_not,beq_iff_eq,beq_eq_false_iff_ne,Bool.and_eq_false_iff] at *
  omega
 have hb:=Bool.not_eq_false _▸e
 simp only [S1,Bool.and_eq_true,bne_iff_ne,ne_eq,decide_eq_true_eq] at hb
 obtain ⟨⟨⟨⟨⟨⟨x0,x1⟩,n0,n1⟩,d0,d1⟩,d2⟩,r0⟩,r1⟩:=hb
 have wx:IntKind.u64.wrap x=x:=A9 (by omega) (by omega)
 have wn:IntKind.u64.wrap num=num:=A9 (by omega) (by omega)
 have wd:IntKind.u64.wrap den=den:=A9 (by omega) (by omega)
 rw [wx,wn]
 have hN:0≤x * num:=Int.mul_nonneg x0 n0
 have hN':x * num≤100000000000000 * 100000000000000:=Int.mul_le_mul x1 n1 n0 (by omega)
 refine C1 (B0R x num ⟨by omega,by omega⟩ ⟨by omega,by omega⟩ st) ?_
 have et:U4 x num den round=if x * num / den>100000000000000 then (0,5) else if M3 (x * num / den) (x * num % den) den round>100000000000000 then (0,5) else (M3 (x * num / den) (x * num % den) den round,0):=if_neg e
 rw [et]
 clear et e
 generalize x * num=N at *
 have hq0:0≤N / den:=Int.ediv_nonneg hN (by omega)
 have hm0:=Int.emod_nonneg N d2
 have hm1:=Int.emod_lt_of_pos N (show 0<den by omega)
 have hme:=Int.mul_ediv_add_emod N den
 conv=>whnf
 rw [wd]
 refine B5 (fun hg=>?_) (fun hg=>?_)<;>rw [hg]<;>simp only [decide_eq_true_eq,decide_eq_false_iff_not] at hg
 ·conv=>whnf
  refine ⟨?_,rfl⟩
  have:N / den>100000000000000:=by
   refine Int.lt_of_not_ge fun hle=>?_
   have h1:N<(100000000000000+1) * den:=(Int.ediv_lt_iff_lt_mul (show 0<den by omega)).1 (by omega)
   omega
  rw [if_pos this];rfl
 ·conv=>whnf
  rw [wd]
  refine C1 (B0E _ _ den (by omega) (by omega) (by omega) (by omega) (by omega) st) ?_
  rw [show N / 18446744073709551616 * 18446744073709551616+N % 18446744073709551616=N by omega];conv=>whnf
  refine B5 (fun hq=>?_) (fun hq=>?_)<;>rw [hq]<;>simp only [decide_eq_true_eq,decide_eq_false_iff_not] at hq
  ·conv=>whnf
   exact ⟨by rw [if_pos hq];rfl,rfl⟩
  ·rw [if_neg hq]
   generalize N / den=q at *
   generalize N % den=r at *
   have bq:M3 q r den round≤100000000000001∧0≤M3 q r den round:=by unfold M3;repeat' split<;>omega
   suffices hcall:∀ f,f=(if round=0 then 298 else if round=1 then 299 else 300)→S P f [.agg [eU q,eU r,eU den]] st fun v st'=>v=eU (M3 q r den round)∧st'=st by
    have fin:∀ R:Int,R≤100000000000001→0≤R→IntKind.i64.wrap R=R:=fun R h1 h2=>B0 (by omega) (by omega)
    generalize M3 q r den round=R at *
    rcases (by omega:round=0∨round=1∨round=2) with rfl | rfl | rfl
    all_goals (conv=>whnf)
    all_goals (refine ⟨⟨by omega,by omega⟩,?_⟩;conv=>whnf)
    all_goals (rw [wd])
    all_goals (refine C1 (hcall _ rfl) ?_)
    all_goals (conv=>whnf)
    all_goals (refine B5 (fun hR=>?_) (fun hR=>?_)<;>rw [hR]<;>simp only [decide_eq_true_eq,decide_eq_false_iff_not] at hR)
    all_goals (conv=>whnf)
    all_goals (refine ⟨?_,rfl⟩)
    all_goals first
     | (rw [if_pos hR];rfl)
     | (rw [if_neg hR,fin R bq.1 bq.2];rfl)
   rintro f rfl
   rcases (by omega:round=0∨round=1∨round=2) with rfl | rfl | rfl
   ·exact (B6R q r den st).mono fun v st' h=>h
   ·exact (C2K q r den hq0 (by omega) hm0 hm1 d1 st).mono fun v st' h=>h
   ·exact (B6T q r den hq0 (by omega) hm0 hm1 d1 st).mono fun v st' h=>h
theorem A9W (x rate round:Int) (st:St):S P 154 [eI x,eI rate,eI round] st fun v st'=>v=.tuple [eI (if 0≤rate∧rate≤10000 then U4 x rate 10000 round else (0,2)).1,eI (if 0≤rate∧rate≤10000 then U4 x rate 10000 round else (0,2)).2]∧st'=st:=by
 refine SyW [] Tryz.func154 ?_
 repeat' ((conv=>whnf);first | refine C1 (A8c _ _ _ _ st) ?_ | (refine B5 (fun h=>?_) (fun h=>?_)<;>rw [h]))
 all_goals (conv=>whnf)
 all_goals (refine ⟨?_,rfl⟩;simp only [decide_eq_true_eq,decide_eq_false_iff_not] at *)
 ·rw [if_neg (by omega)];rfl
 ·rw [if_neg (by omega)];rfl
 ·rw [if_pos (by omega)];rfl
abbrev Big:Nat:=9223372036854775807
def upB (lo hi x:Int):Bool:=decide (x≥lo)&&decide (x≤hi)
def V7 {α : Type} [Inhabited α] (l:List α) (p:Nat→α→Bool):Bool:=(List.range l.length).all fun k=>p k (l.getD k default)
theorem V0 {α : Type} [Inhabited α] {l:List α} {p:Nat→α→Bool} (h:∀ k,k<l.length→p k (l.getD k default)=true):V7 l p=true:=A3r h
theorem Z3 {α : Type} [Inhabited α] {l:List α} {p:Nat→α→Bool} {k:Nat} (hk:k<l.length) (h:p k (l.getD k default)=false):V7 l p=false:=A1L hk h
theorem K0 {i:Nat} {q:Nat→Prop} (h:∀ k,k<i→q k) (hi:q i):∀ k,k<i+1→q k:=fun k hk=>by
 rcases Nat.lt_succ_iff_lt_or_eq.1 hk with h' | h'
 ·exact h k h'
 ·rw [h'];exact hi
theorem A7u {α : Type} [Inhabited α] (g : α→D8) (l:List α) (st:St):A4 [.arr 1 l.length (fun k=>eS (g (l.getD k default)))] st [E6 (l.map g)] st:=by
 have e:E6 (l.map g)=.arr 1 l.length (fun k=>eS ((l.map g).getD k default)):=by unfold E6 A5;rw [List.length_map]
 rw [e]
 exact A4.arr fun i hi=>by rw [E7 g l hi]
theorem B7V (x:Int) (st:St):S P 217 [eI x] st fun v st'=>v=.bool (upB 0 100000 x)∧st'=st:=by
 refine SyW [] Tryz.func217 ?_
 repeat' ((conv=>whnf);first  | (refine B5 (fun h=>?_) (fun h=>?_)<;>rw [h]))
 all_goals (conv=>whnf)
 all_goals (refine ⟨?_,rfl⟩;show AV.bool _=AV.bool _;congr 1)
 all_goals (simp only [upB, *,Bool.true_and,Bool.false_and,Bool.and_true,Bool.and_false,Bool.or_true,Bool.or_false,Bool.true_or,Bool.false_or,Bool.not_true,Bool.not_false,Bool.not_not];try rfl)
theorem A7L (x:Int) (st:St):S P 258 [eI x] st fun v st'=>v=.bool (upB 0 10000 x)∧st'=st:=by
 refine SyW [] Tryz.func258 ?_
 repeat' ((conv=>whnf);first  | (refine B5 (fun h=>?_) (fun h=>?_)<;>rw [h]))
 all_goals (conv=>whnf)
 all_goals (refine ⟨?_,rfl⟩;show AV.bool _=AV.bool _;congr 1)
 all_goals (simp only [upB, *,Bool.true_and,Bool.false_and,Bool.and_true,Bool.and_false,Bool.or_true,Bool.or_false,Bool.true_or,Bool.false_or,Bool.not_true,Bool.not_false,Bool.not_not];try rfl)
theorem B6Y (x:Int) (st:St):S P 222 [eI x] st fun v st'=>v=.bool (upB 1 9 x)∧st'=st:=by
 refine SyW [] Tryz.func222 ?_
 repeat' ((conv=>whnf);first  | (refine B5 (fun h=>?_) (fun h=>?_)<;>rw [h]))
 all_goals (conv=>whnf)
 all_goals (refine ⟨?_,rfl⟩;show AV.bool _=AV.bool _;congr 1)
 all_goals (simp only [upB, *,Bool.true_and,Bool.false_and,Bool.and_true,Bool.and_false,Bool.or_true,Bool.or_false,Bool.true_or,Bool.false_or,Bool.not_true,Bool.not_false,Bool.not_not];try rfl)
def Z9 (x:G1):Bool:=upB 0 100000 x.qty&&upB 0 1000000000 x.price
theorem B7a (x:G1) (st:St):S P 275 [F2 x] st fun v st'=>v=.bool (Z9 x)∧st'=st:=by
 refine SyW [1] Tryz.func275 ?_
 repeat' ((conv=>whnf);first  | (refine B5 (fun h=>?_) (fun h=>?_)<;>rw [h]))
 all_goals (conv=>whnf)
 all_goals (refine ⟨?_,rfl⟩;show AV.bool _=AV.bool _;congr 1)
 all_goals (simp only [Z9,upB, *,Bool.true_and,Bool.false_and,Bool.and_true,Bool.and_false,Bool.or_true,Bool.or_false,Bool.true_or,Bool.false_or,Bool.not_true,Bool.not_false,Bool.not_not];try rfl)
def B1d (x:Ab.Ship):Bool:=upB 0 1000000000 x.fee&&upB 0 10000000000000 x.free
theorem B7t (x:Ab.Ship) (st:St):S P 177 [B6m x] st fun v st'=>v=.bool (B1d x)∧st'=st:=by
 refine SyW [1] Tryz.func177 ?_
 repeat' ((conv=>whnf);first  | (refine B5 (fun h=>?_) (fun h=>?_)<;>rw [h]))
 all_goals (conv=>whnf)
 all_goals (refine ⟨?_,rfl⟩;show AV.bool _=AV.bool _;congr 1)
 all_goals (simp only [B1d,upB, *,Bool.true_and,Bool.false_and,Bool.and_true,Bool.and_false,Bool.or_true,Bool.or_false,Bool.true_or,Bool.false_or,Bool.not_true,Bool.not_false,Bool.not_not];try rfl)
abbrev A8u (p:A8):AV:=.agg (cellsOf (B6 p))
def A5r (p:A8):Bool:=upB 1 10000 p.rate
def A4C (p:A8):Bool:=upB 1 1000000000 p.amount
def A4E (p:A8):Bool:=A5r p&&(upB 1 100 p.buy&&upB 1 100 p.get)
def A5t (x:A2D):Bool:=A3I x.scope&&!(decide (x.count<1)||decide (x.count>100))
theorem A7A (p:A8) (st:St):S P 309 [A8u p] st fun v st'=>v=.bool (A5r p)∧st'=st:=by
 refine SyW [1] Tryz.func309 ?_
 repeat' ((conv=>whnf);first  | (refine B5 (fun h=>?_) (fun h=>?_)<;>rw [h]))
 all_goals (conv=>whnf)
 all_goals (refine ⟨?_,rfl⟩;show AV.bool _=AV.bool _;congr 1)
 all_goals (simp only [A5r,upB, *,Bool.true_and,Bool.false_and,Bool.and_true,Bool.and_false,Bool.or_true,Bool.or_false,Bool.true_or,Bool.false_or,Bool.not_true,Bool.not_false,Bool.not_not];try rfl)
theorem B1V (p:A8) (st:St):S P 310 [A8u p] st fun v st'=>v=.bool (A4C p)∧st'=st:=by
 refine SyW [1] Tryz.func310 ?_
 repeat' ((conv=>whnf);first  | (refine B5 (fun h=>?_) (fun h=>?_)<;>rw [h]))
 all_goals (conv=>whnf)
 all_goals (refine ⟨?_,rfl⟩;show AV.bool _=AV.bool _;congr 1)
 all_goals (simp only [A4C,upB, *,Bool.true_and,Bool.false_and,Bool.and_true,Bool.and_false,Bool.or_true,Bool.or_false,Bool.true_or,Bool.false_or,Bool.not_true,Bool.not_false,Bool.not_not];try rfl)
theorem B1X (p:A8) (st:St):S P 311 [A8u p] st fun v st'=>v=.bool (A4E p)∧st'=st:=by
 refine SyW [1] Tryz.func311 ?_
 repeat' ((conv=>whnf);first | refine C1 (A7A p st) ?_ | (refine B5 (fun h=>?_) (fun h=>?_)<;>rw [h]))
 all_goals (conv=>whnf)
 all_goals (refine ⟨?_,rfl⟩;show AV.bool _=AV.bool _;congr 1)
 all_goals (simp only [A4E,upB, *,Bool.true_and,Bool.false_and,Bool.and_true,Bool.and_false,Bool.or_true,Bool.or_false,Bool.true_or,Bool.false_or,Bool.not_true,Bool.not_false,Bool.not_not];try rfl)
def Z8 (s:D8):Bool:=s.toList==(⟨#[]⟩:D8).toList
def A7w (s:D8):Bool:=Z8 s||Q8 s
theorem B5x (s:D8) (st:St):S P 340 [eS s] st fun v st'=>v=.bool (A7w s)∧st'=st:=by
 refine SyW [] Tryz.func340 ?_
 repeat' ((conv=>whnf);first | refine C1 (A2p s st) ?_ | (refine B5 (fun h=>?_) (fun h=>?_)<;>rw [h]))
 all_goals (conv=>whnf)
 all_goals (refine ⟨?_,rfl⟩;show AV.bool _=AV.bool _;congr 1)
 all_goals (simp only [A7w,Z8, *,Bool.true_and,Bool.false_and,Bool.and_true,Bool.and_false,Bool.or_true,Bool.or_false,Bool.true_or,Bool.false_or,Bool.not_true,Bool.not_false,Bool.not_not];try rfl)
theorem B1S (x:A2D) (h1:x.scope.skus.length≤Big) (h2:x.scope.cats.length≤Big) (st:St):S P 338 [A0K x] st fun v st'=>v=.bool (!A5t x)∧st'=st:=by
 refine SyW [1] Tryz.func338 ?_
 repeat' ((conv=>whnf);first | refine C1 (B1c x.scope h1 h2 st) ?_ | (refine B5 (fun h=>?_) (fun h=>?_)<;>rw [h]))
 all_goals (conv=>whnf)
 all_goals (refine ⟨?_,rfl⟩;show AV.bool _=AV.bool _;congr 1)
 all_goals (simp only [A5t,Bool.not_eq_true',Bool.not_eq_false', *,Bool.true_and,Bool.false_and,Bool.and_true,Bool.and_false,Bool.or_true,Bool.or_false,Bool.true_or,Bool.false_or,Bool.not_true,Bool.not_false,Bool.not_not] at *;try simp only [*,Bool.true_and,Bool.false_and,Bool.not_true,Bool.not_false,Bool.true_or,Bool.false_or,Bool.not_not])
def A8g (l:List A2D):Prop:=l.length≤Big∧∀ x∈l,x.scope.skus.length≤Big∧x.scope.cats.length≤Big
def A4D (p:A8):Bool:=!(decide ((p.parts.length:Int)<1)||decide ((p.parts.length:Int)>3)||decide (p.amount<0)||decide (p.amount>10000000000000))&&!(p.parts.any fun x=>!A5t x)
theorem B1W (p:A8) (hp:A8g p.parts) (st:St):S P 312 [A8u p] st fun v st'=>v=.bool (A4D p)∧st'=st:=by
 refine SyW [1] Tryz.func312 ?_
 repeat' ((conv=>whnf);first | refine C1 (A9R p.parts hp.1 _ [] (fun x=>!A5t x) st fun x hx=>B1S x (hp.2 x hx).1 (hp.2 x hx).2 st) ?_ | (refine B5 (fun h=>?_) (fun h=>?_)<;>rw [h]))
 all_goals (conv=>whnf)
 all_goals (refine ⟨?_,rfl⟩;show AV.bool _=AV.bool _;congr 1)
 all_goals (simp only [A4D, *,Bool.true_and,Bool.false_and,Bool.and_true,Bool.and_false,Bool.or_true,Bool.or_false,Bool.true_or,Bool.false_or,Bool.not_true,Bool.not_false,Bool.not_not];try rfl)
def A1q (l:List A2F) (k:Nat) (x:A2F):Bool :=
 !(decide (x.least≤(if k=0 then -1 else (l.getD (k - 1) default).least))||decide (x.least>10000000000000)||decide (x.rate<0)||decide (x.rate>10000)||decide (x.amount<0)||decide (x.amount>10000000000000)||(x.rate==0&&x.amount==0))
def A0H (l:List A2F):Bool:=!(decide ((l.length:Int)<1)||decide ((l.length:Int)>6))&&V7 l (A1q l)
theorem B1j (p:A8) (st:St):S P 313 [A8u p] st fun v st'=>v=.bool (A0H p.tiers)∧st'=st:=by
 refine SyW [1,5] Tryz.func313 ?_
 repeat' ((conv=>whnf);first  | (refine B5 (fun h=>?_) (fun h=>?_)<;>rw [h]))
 all_goals (conv=>whnf)
 all_goals first
  | (refine ⟨?_,rfl⟩;show AV.bool _=AV.bool _;congr 1;simp only [A0H, *,Bool.true_or,Bool.or_true,Bool.not_true,Bool.false_and];done)
  | skip
 generalize hl:p.tiers=l at *
 have hs:l.length≤6:=by simp only [decide_eq_true_eq,decide_eq_false_iff_not] at *;omega
 have ht:A0H l=V7 l (A1q l):=by simp only [A0H, *,Bool.or_false,Bool.not_false,Bool.true_and]
 refine ⟨[3,20,21,22],fun m vs st'=>∃ i:Nat,i≤l.length∧(∀ k,k<i→A1q l k (l.getD k default)=true)∧m=l.length - i∧vs=[eI (if i=0 then -1 else (l.getD (i - 1) default).least),A5 3 A0L l,eI l.length,eI i]∧st'=st,?_,?_⟩
 ·conv=>whnf
  exact ⟨_,0,Nat.zero_le _,fun k hk=>absurd hk (by omega),rfl,rfl,rfl⟩
 ·rintro m vs st' ⟨i,hi,hok,rfl,rfl,rfl⟩
  conv=>whnf
  cases h:decide ((i:Int)<(l.length:Int))
  ·have:=of_decide_eq_false h
   conv=>whnf
   refine ⟨?_,rfl⟩
   rw [ht,V0 fun k hk=>hok k (by omega)];rfl
  ·have hi':i<l.length:=by have:=of_decide_eq_true h;omega
   conv=>whnf
   refine ⟨rfl,⟨by omega,by omega⟩,?_⟩
   have yes:A1q l i (l.getD (i:Int).toNat default)=true→∀ k,k<i+1→A1q l k (l.getD k default)=true:=fun h=>K0 hok h
   have no:A1q l i (l.getD (i:Int).toNat default)=false→A0H l=false:=fun h=>by rw [ht];exact Z3 hi' h
   unfold A1q at yes no
   repeat' ((conv=>whnf);first  | (refine B5 (fun h=>?_) (fun h=>?_)<;>rw [h]))
   all_goals (conv=>whnf)
   all_goals first
    | (refine ⟨?_,rfl⟩;rw [no (by simp only [*,Bool.true_and,Bool.and_self,Bool.or_true,Bool.true_or,Bool.not_true])];rfl)
    | (refine ⟨rfl,?_⟩
       conv=>whnf
       exact ⟨l.length - (i+1),by omega,i+1,by omega,yes (by simp only [*,Bool.false_and,Bool.and_false,Bool.or_false,Bool.not_false]),rfl,by rw [B7 (by omega),if_neg (show ¬ i+1=0 by omega)];rfl,rfl⟩)
def A6J (p:A8):Bool:=Q8 p.id&&upB 0 1000 p.prio&&A7w p.group&&A7w p.code&&A3I p.scope&&upB 0 10000000000000 p.least
structure A4P (s:O2):Prop where
 skus:s.skus.length≤Big
 cats:s.cats.length≤Big
theorem B5D (p:A8) (hsc:A4P p.scope) (st:St):S P 314 [A8u p] st fun v st'=>v=.bool (A6J p)∧st'=st:=by
 refine SyW [1] Tryz.func314 ?_
 repeat' ((conv=>whnf);first | refine C1 (A2p _ st) ?_ | refine C1 (B5x _ st) ?_ | refine C1 (B1c p.scope hsc.skus hsc.cats st) ?_ | (refine B5 (fun h=>?_) (fun h=>?_)<;>rw [h]))
 all_goals (conv=>whnf)
 all_goals (refine ⟨?_,rfl⟩;show AV.bool _=AV.bool _;congr 1)
 all_goals (simp only [A6J,upB, *,Bool.true_and,Bool.false_and,Bool.and_true,Bool.and_false,Bool.or_true,Bool.or_false,Bool.true_or,Bool.false_or,Bool.not_true,Bool.not_false,Bool.not_not];try rfl)
def A9Q (p:A8):Bool :=
 (((p.kind==1)||(p.kind==7)||(p.kind==3))||p.rate==0)&&((p.kind==2)||(p.kind==4)||p.amount==0)&&((p.kind==3)||(p.buy==0&&p.get==0))&&((p.kind==4)||p.parts.length==0)&&((p.kind==5)||(p.kind==6)||p.tiers.length==0)&&(((p.kind != 4)&&(p.kind != 7))||(p.scope.skus.length+p.scope.cats.length==0))&&((p.kind != 7)||!p.closes)
theorem B0V (n:Nat):((n:Int)==0)=(n==0):=by
 rw [Bool.eq_iff_iff,beq_iff_eq,beq_iff_eq];omega
set_option maxHeartbeats 4000000 in
theorem B3N (p:A8) (hk:1≤p.kind∧p.kind≤7) (hs1:p.scope.skus.length≤20) (hs2:p.scope.cats.length≤20) (st:St):S P 315 [A8u p] st fun v st'=>v=.bool (A9Q p)∧st'=st:=by
 refine SyW [1] Tryz.func315 ?_
 obtain ⟨id,kind,prio,group,code,closes,scope,least,rate,amount,buy,get,parts,tiers⟩:=p
 simp only at *
 have wl:IntKind.i64.wrap ((scope.skus.length:Int)+(scope.cats.length:Int))=((scope.skus.length+scope.cats.length:Nat):Int):=by rw [B0 (by omega) (by omega)];omega
 rcases (by omega:kind=1∨kind=2∨kind=3∨kind=4∨kind=5∨kind=6∨kind=7) with rfl | rfl | rfl | rfl | rfl | rfl | rfl
 all_goals repeat' ((conv=>whnf);first  | (refine B5 (fun h=>?_) (fun h=>?_)<;>rw [h]))
 all_goals (conv=>whnf)
 all_goals (refine ⟨?_,rfl⟩;show AV.bool _=AV.bool _;congr 1)
 all_goals (try rw [wl] at *)
 all_goals (simp only [B0V] at *;simp [A9Q, *])
theorem A6y {P:Program} {f:FuncId} {args:List AV} {st:St} {v:AV} (h:S P f args st fun v' st'=>v'=v∧st'=st):Q7 P f args st fun v' st'=>v'=v∧st'=st:=call h fun _ _ h=>h
structure I9 (p:A8):Prop where
 scope:A4P p.scope
 parts:A8g p.parts
def A6L (p:A8):Bool :=
 if p.kind=1 then A5r p else if p.kind=2 then A4C p else if p.kind=3 then A4E p else if p.kind=4 then A4D p else if p.kind=5 then A0H p.tiers else if p.kind=6 then A0H p.tiers else A5r p
def I2 (p:A8):Bool:=decide (p.kind≥1)&&decide (p.kind<8)&&A6J p&&A9Q p&&A6L p
theorem A5E {s:O2} (h:A3I s=true):s.skus.length≤20∧s.cats.length≤20:=by
 simp only [A3I,Bool.and_eq_true,decide_eq_true_eq] at h
 exact ⟨h.1.1,h.2.1⟩
theorem A6K {p:A8} (h:A6J p=true):p.scope.skus.length≤20∧p.scope.cats.length≤20:=by
 simp only [A6J,Bool.and_eq_true] at h
 exact A5E h.1.2
theorem A4G (p:A8) (hp:I9 p) (st:St):S P 254 [B6 p] st fun v st'=>v=.bool (I2 p)∧st'=st:=by
 refine E3 [1,3,4] Tryz.func254 ?_
 refine ⟨[],[],[0,1,2,3,4,5,6,7,8,9,10,11,12,13,14,15,16,17,18,19,20,21,22,23,24],by kernel_rfl,?_⟩;conv=>whnf
 refine B5 (fun h1=>?_) (fun h1=>?_)<;>rw [h1]
 case refine_2 =>
  conv=>whnf
  refine ⟨?_,rfl⟩
  simp only [I2,h1,Bool.false_and];rfl
 conv=>whnf
 refine B5 (fun h2=>?_) (fun h2=>?_)<;>rw [h2]
 case refine_2 =>
  conv=>whnf
  refine ⟨?_,rfl⟩
  simp only [I2,h1,h2,Bool.false_and,Bool.and_false];rfl
 have hk:1≤p.kind∧p.kind≤7:=by simp only [decide_eq_true_eq] at h1 h2;omega
 conv=>whnf
 refine cqW (B5D p hp.scope st) ?_
 refine B5 (fun h3=>?_) (fun h3=>?_)
 case refine_2 =>
  rw [h3];conv=>whnf
  refine ⟨?_,rfl⟩
  simp only [I2,h3,Bool.false_and,Bool.and_false];rfl
 rw [h3]
 have hl:=A6K h3
 conv=>whnf
 refine cqW (B3N p hk hl.1 hl.2 st) ?_
 refine B5 (fun h4=>?_) (fun h4=>?_)
 case refine_2 =>
  rw [h4];conv=>whnf
  refine ⟨?_,rfl⟩
  simp only [I2,h4,Bool.false_and,Bool.and_false];rfl
 rw [h4]
 have hspec:I2 p=A6L p:=by simp only [I2,h1,h2,h3,h4,Bool.true_and]
 rw [hspec]
 suffices hcall:∀ f,f=(if p.kind=1 then 309 else if p.kind=2 then 310 else if p.kind=3 then 311 else if p.kind=4 then 312 else if p.kind=5 then 313 else if p.kind=6 then 313 else 309)→S P f [A8u p] st fun v st'=>v=.bool (A6L p)∧st'=st by
  clear hspec h1 h2 h3 h4 hl
  generalize A6L p=B at *
  clear hp
  obtain ⟨id,kind,prio,group,code,closes,scope,least,rate,amount,buy,get,parts,tiers⟩:=p
  simp only at hk hcall
  rcases (by omega:kind=1∨kind=2∨kind=3∨kind=4∨kind=5∨kind=6∨kind=7) with rfl | rfl | rfl | rfl | rfl | rfl | rfl
  all_goals (conv=>whnf)
  all_goals (refine ⟨⟨by dsimp only;omega,by dsimp only;omega⟩,?_⟩;conv=>whnf)
  all_goals (refine ⟨_,A6y (hcall _ rfl),?_⟩;conv=>whnf)
  all_goals exact ⟨rfl,rfl⟩
 rintro f rfl
 unfold A6L
 rcases (by omega:p.kind=1∨p.kind=2∨p.kind=3∨p.kind=4∨p.kind=5∨p.kind=6∨p.kind=7) with e | e | e | e | e | e | e<;>rw [e]
 ·exact A7A p st
 ·exact B1V p st
 ·exact B1X p st
 ·exact B1W p hp.parts st
 ·exact B1j p st
 ·exact B1j p st
 ·exact A7A p st
theorem B1Q (s:D8) (st:St):S P 181 [eS s] st fun v st'=>v=.bool (!Q8 s)∧st'=st:=by
 refine E3 [] Tryz.func181 ?_
 refine H9 (A2p s st) ?_
 exact ⟨rfl,rfl⟩
def A3t (l:List D8):Bool:=decide ((l.length:Int)≤4)&&A0O l&&!(l.any fun s=>!Q8 s)
theorem B4Y (l:List D8) (hl:l.length≤Big) (st:St):S P 96 [E6 l] st fun v st'=>v=.bool (A3t l)∧st'=st:=by
 refine SyW [] Tryz.func96 ?_
 repeat' ((conv=>whnf);first | refine C1 (A5D l hl st) ?_ | refine C1 (B2r l hl _ [] (fun s=>!Q8 s) st fun x _=>B1Q x st) ?_ | (refine B5 (fun h=>?_) (fun h=>?_)<;>rw [h]))
 all_goals (conv=>whnf)
 all_goals (refine ⟨?_,rfl⟩;show AV.bool _=AV.bool _;congr 1)
 all_goals (simp only [A3t, *,Bool.true_and,Bool.false_and,Bool.and_true,Bool.and_false];try rfl)
theorem B3W (p x:A8) (st:St):S P 256 [B6 x,.fptr (B6 p) 0] st fun v st'=>v=.bool (x.id.toList==p.id.toList)∧st'=st:=by
 refine E3 [2] Tryz.func256 ?_
 exact ⟨rfl,rfl⟩
theorem A5H {α : Type} [Inhabited α] (e:Nat) (enc : α→AV) (l:List α) (i n:Nat) (f:Nat→AV) (hi:i≤l.length) (hn:n=i) (hf:∀ k,k<i→f k=enc (l.getD k default)) (st:St):A4 [.arr e n f] st [A5 e enc (l.take i)] st:=by
 subst hn
 have el:(l.take n).length=n:=by rw [List.length_take];omega
 have e2:A5 e enc (l.take n)=.arr e n (fun k=>enc ((l.take n).getD k default)):=by unfold A5;rw [el]
 rw [e2]
 refine A4.arr fun k hk=>?_
 rw [hf k hk]
 congr 1
 simp [List.getD_eq_getElem?_getD,List.getElem?_take_of_lt hk]
def X8 (l:List A8) (k:Nat) (p:A8):Bool:=I2 p&&!((l.take k).any fun x=>x.id.toList==p.id.toList)
def X9 (l:List A8):Bool:=decide ((l.length:Int)≤60)&&V7 l (X8 l)
theorem B3Q (l:List A8) (hl:l.length≤Big) (hf:∀ p∈l,I9 p) (st:St):S P 175 [A5 15 B6 l] st fun v st'=>v=.bool (X9 l)∧st'=st:=by
 refine E3 [4] Tryz.func175 ?_
 refine B5 (fun h=>?_) (fun h=>?_)<;>rw [h]<;>simp only [decide_eq_true_eq,decide_eq_false_iff_not] at h
 ·conv=>whnf
  refine ⟨?_,rfl⟩
  rw [show X9 l=false by unfold X9;rw [decide_eq_false (by omega),Bool.false_and]];rfl
 have ht:X9 l=V7 l (X8 l):=by unfold X9;rw [decide_eq_true (by omega),Bool.true_and]
 conv=>whnf
 refine ⟨[0,8,9,10],fun m vs st'=>∃ i:Nat,i≤l.length∧(∀ k,k<i→X8 l k (l.getD k default)=true)∧m=l.length - i∧vs=[A5 15 B6 l,A5 15 B6 l,eI l.length,eI i]∧st'=st,?_,?_⟩
 ·conv=>whnf
  exact ⟨_,0,Nat.zero_le _,fun k hk=>absurd hk (by omega),rfl,rfl,rfl⟩
 ·rintro m vs st' ⟨i,hi,hok,rfl,rfl,rfl⟩
  conv=>whnf
  cases h:decide ((i:Int)<(l.length:Int))
  ·have:=of_decide_eq_false h
   conv=>whnf
   refine ⟨?_,rfl⟩
   rw [ht,V0 fun k hk=>hok k (by omega)];rfl
  ·have hi':i<l.length:=by have:=of_decide_eq_true h;omega
   conv=>whnf
   refine ⟨rfl,⟨by omega,by omega⟩,?_⟩
   have yes:X8 l i (l.getD (i:Int).toNat default)=true→∀ k,k<i+1→X8 l k (l.getD k default)=true:=fun h=>K0 hok h
   have no:X8 l i (l.getD (i:Int).toNat default)=false→X9 l=false:=fun h=>by rw [ht];exact Z3 hi' h
   have hmem:l.getD (i:Int).toNat default∈l:=by
    rw [Int.toNat_natCast,List.getD_eq_getElem?_getD,List.getElem?_eq_getElem hi'];exact List.getElem_mem hi'
   unfold X8 at yes no;conv=>whnf
   refine H9 (A4G (l.getD (i:Int).toNat default) (hf _ hmem) _) ?_
   refine B5 (fun h1=>?_) (fun h1=>?_)
   ·rw [h1];conv=>whnf
    refine ⟨?_,rfl⟩
    rw [no (by rw [show I2 (l.getD (i:Int).toNat default)=false by simpa using h1,Bool.false_and])];rfl
   ·rw [h1]
    have h1':I2 (l.getD (i:Int).toNat default)=true:=by simpa using h1
    conv=>whnf
    refine ⟨rfl,⟨by omega,by omega,by omega⟩,?_⟩;conv=>whnf
    refine F0 (A4.cons (A5H 15 B6 l i _ _ hi (by omega) (fun k hk=>by simp) _) (A4.keep _ _)) (C1 (A8R (l.take i) (by rw [List.length_take];omega) _ [.fptr (B6 (l.getD (i:Int).toNat default)) 0] (fun x=>x.id.toList==(l.getD (i:Int).toNat default).id.toList) _ fun x _=>B3W _ x _) ?_);conv=>whnf
    refine B5 (fun h2=>?_) (fun h2=>?_)
    ·rw [h2];conv=>whnf
     refine ⟨?_,rfl⟩
     rw [no (by rw [h2,Bool.not_true,Bool.and_false])];rfl
    ·rw [h2];conv=>whnf
     refine H4 ?_
     exact ⟨l.length - (i+1),by omega,i+1,by omega,yes (by rw [h1',h2];rfl),rfl,by rw [B7 (by omega)],rfl⟩
def A5g (x:Ab.Item):Bool:=!(!Q8 x.sku||!Q8 x.cat||decide (x.price<0)||decide (x.price>1000000000))
def A2n (l:List Ab.Item):Bool:=!decide ((l.length:Int)>500)&&(V7 l (fun _ x=>A5g x)&&A0O (l.map Ab.Item.sku))
theorem B5p (l:List Ab.Item) (st:St):S P 174 [A5 4 C6 l] st fun v st'=>v=.bool (A2n l)∧st'=st:=by
 refine A3P ?_
 refine E3 [5] Tryz.func174 ?_
 refine B5 (fun h=>?_) (fun h=>?_)<;>rw [h]
 ·conv=>whnf
  refine ⟨?_,E2.refl _⟩
  rw [show A2n l=false by unfold A2n;rw [h];rfl];rfl
 have hs:l.length≤500:=by simp only [decide_eq_false_iff_not] at h;omega
 have ht:A2n l=(V7 l (fun _ x=>A5g x)&&A0O (l.map Ab.Item.sku)):=by unfold A2n;rw [h,Bool.not_false,Bool.true_and]
 conv=>whnf
 refine ⟨[3,9,10,11],fun m vs st'=>∃ (i:Nat) (sv:AV),i≤l.length∧(∀ k,k<i→(fun (_:Nat) (x:Ab.Item)=>A5g x) k (l.getD k default)=true)∧m=l.length - i∧vs=[sv,A5 4 C6 l,eI l.length,eI i]∧H6 9 1 (fun k=>eS (Ab.Item.sku (l.getD k default))) st i sv st',?_,?_⟩
 ·conv=>whnf
  exact ⟨_,0,.emp,Nat.zero_le _,fun k hk=>absurd hk (by omega),rfl,rfl,H6.start _ _ _ _⟩
 ·rintro m vs st' ⟨i,sv,hi,hok,rfl,rfl,hc⟩
  conv=>whnf
  cases h:decide ((i:Int)<(l.length:Int))
  ·have:=of_decide_eq_false h
   obtain rfl:i=l.length:=by omega
   conv=>whnf
   refine F0 (hc.shift.trans (A7u Ab.Item.sku l st)) (C1 (A5D (l.map Ab.Item.sku) (by rw [List.length_map];omega) st) ?_);conv=>whnf
   refine ⟨?_,E2.refl _⟩
   rw [ht,V0 fun k hk=>hok k (by omega),Bool.true_and];rfl
  ·have hi':i<l.length:=by have:=of_decide_eq_true h;omega
   conv=>whnf
   refine ⟨rfl,⟨by omega,by omega⟩,?_⟩
   have yes:(fun (_:Nat) (x:Ab.Item)=>A5g x) i (l.getD (i:Int).toNat default)=true→∀ k,k<i+1→(fun (_:Nat) (x:Ab.Item)=>A5g x) k (l.getD k default)=true:=fun h=>K0 hok h
   have no:(fun (_:Nat) (x:Ab.Item)=>A5g x) i (l.getD (i:Int).toNat default)=false→A2n l=false:=fun h=>by rw [ht,Z3 hi' h,Bool.false_and]
   have hmem:l.getD (i:Int).toNat default∈l:=by
    rw [Int.toNat_natCast,List.getD_eq_getElem?_getD,List.getElem?_eq_getElem hi'];exact List.getElem_mem hi'
   have hsup:=hc.sup
   simp only [A5g] at yes no
   repeat' ((conv=>whnf);first | refine C1 (A2p _ _) ?_ | (refine B5 (fun h=>?_) (fun h=>?_)<;>rw [h]))
   all_goals (conv=>whnf)
   all_goals first
    | (refine ⟨?_,hsup⟩;rw [no (by first | (simp only [*,Bool.true_and,Bool.and_self,Bool.or_true,Bool.true_or,Bool.not_true];done) | simpa using h)];rfl)
    | skip
   refine H6.app rfl rfl rfl rfl rfl ?_ (by show (i+1) * 16≤140737488355328;omega) hc (fun sv' st'' hc'=>?_)
   ·rfl
   conv=>whnf
   refine H4 ?_
   exact ⟨l.length - (i+1),by omega,i+1,sv',by omega,yes (by first | (simp only [*,Bool.false_and,Bool.and_false,Bool.or_false,Bool.not_false];done) | simpa using h),rfl,by rw [B7 (by omega)],hc'⟩
def A4d (x:M4):Bool:=!(!Q8 x.cat||!upB 0 10000 x.rate)
def U5 (z:N0):Bool:=!(!Q8 z.name||!upB 0 10000 z.rest||!upB 0 10000 z.ship||decide ((z.rates.length:Int)>40))&&(V7 z.rates (fun _ x=>A4d x)&&A0O (z.rates.map M4.cat))
theorem B7P (z:N0) (st:St):S P 257 [X4 z] st fun v st'=>v=.bool (U5 z)∧st'=st:=by
 refine A3P ?_
 refine SyW [1,5] Tryz.func257 ?_
 repeat' ((conv=>whnf);first | refine C1 (A2p _ _) ?_ | refine C1 (A7L _ _) ?_ | (refine B5 (fun h=>?_) (fun h=>?_)<;>rw [h]))
 all_goals (conv=>whnf)
 all_goals first
  | (refine ⟨?_,E2.refl _⟩
     rw [show U5 z=false by unfold U5;simp only [*,Bool.true_or,Bool.or_true,Bool.not_true,Bool.false_and]]
     rfl)
  | skip
 have hs:z.rates.length≤40:=by simp only [decide_eq_false_iff_not] at h;omega
 have ht:U5 z=(V7 z.rates (fun _ x=>A4d x)&&A0O (z.rates.map M4.cat)):=by unfold U5;simp only [*,Bool.or_false,Bool.not_false,Bool.true_and]
 refine ⟨[3,29,30,31],fun m vs st'=>∃ (i:Nat) (sv:AV),i≤z.rates.length∧(∀ k,k<i→(fun (_:Nat) (x:M4)=>A4d x) k (z.rates.getD k default)=true)∧m=z.rates.length - i∧vs=[sv,A5 2 Z7 z.rates,eI z.rates.length,eI i]∧H6 9 1 (fun k=>eS (M4.cat (z.rates.getD k default))) st i sv st',?_,?_⟩
 ·conv=>whnf
  exact ⟨_,0,.emp,Nat.zero_le _,fun k hk=>absurd hk (by omega),rfl,rfl,H6.start _ _ _ _⟩
 ·rintro m vs st' ⟨i,sv,hi,hok,rfl,rfl,hc⟩
  conv=>whnf
  cases h:decide ((i:Int)<(z.rates.length:Int))
  ·have:=of_decide_eq_false h
   obtain rfl:i=z.rates.length:=by omega
   conv=>whnf
   refine F0 (hc.shift.trans (A7u M4.cat z.rates st)) (C1 (A5D (z.rates.map M4.cat) (by rw [List.length_map];omega) st) ?_);conv=>whnf
   refine ⟨?_,E2.refl _⟩
   rw [ht,V0 fun k hk=>hok k (by omega),Bool.true_and];rfl
  ·have hi':i<z.rates.length:=by have:=of_decide_eq_true h;omega
   conv=>whnf
   refine ⟨rfl,⟨by omega,by omega⟩,?_⟩
   have yes:(fun (_:Nat) (x:M4)=>A4d x) i (z.rates.getD (i:Int).toNat default)=true→∀ k,k<i+1→(fun (_:Nat) (x:M4)=>A4d x) k (z.rates.getD k default)=true:=fun h=>K0 hok h
   have no:(fun (_:Nat) (x:M4)=>A4d x) i (z.rates.getD (i:Int).toNat default)=false→U5 z=false:=fun h=>by rw [ht,Z3 hi' h,Bool.false_and]
   have hmem:z.rates.getD (i:Int).toNat default∈z.rates:=by
    rw [Int.toNat_natCast,List.getD_eq_getElem?_getD,List.getElem?_eq_getElem hi'];exact List.getElem_mem hi'
   have hsup:=hc.sup
   simp only [A4d] at yes no
   repeat' ((conv=>whnf);first | refine C1 (A2p _ _) ?_ | refine C1 (A7L _ _) ?_ | (refine B5 (fun h=>?_) (fun h=>?_)<;>rw [h]))
   all_goals (conv=>whnf)
   all_goals first
    | (refine ⟨?_,hsup⟩;rw [no (by first | (simp only [*,Bool.true_and,Bool.and_self,Bool.or_true,Bool.true_or,Bool.not_true];done) | simpa using h)];rfl)
    | skip
   refine H6.app rfl rfl rfl rfl rfl ?_ (by show (i+1) * 16≤140737488355328;omega) hc (fun sv' st'' hc'=>?_)
   ·rfl
   conv=>whnf
   refine H4 ?_
   exact ⟨z.rates.length - (i+1),by omega,i+1,sv',by omega,yes (by first | (simp only [*,Bool.false_and,Bool.and_false,Bool.or_false,Bool.not_false];done) | simpa using h),rfl,by rw [B7 (by omega)],hc'⟩
def A6n (x:Tax):Bool:=!(decide (x.round<0)||decide (x.round>2)||decide ((x.zones.length:Int)>20))&&(V7 x.zones (fun _ z=>U5 z)&&A0O (x.zones.map N0.name))
theorem B6u (x:Tax) (st:St):S P 176 [A0Z x] st fun v st'=>v=.bool (A6n x)∧st'=st:=by
 refine A3P ?_
 refine SyW [1,5] Tryz.func176 ?_
 repeat' ((conv=>whnf);first  | (refine B5 (fun h=>?_) (fun h=>?_)<;>rw [h]))
 all_goals (conv=>whnf)
 all_goals first
  | (refine ⟨?_,E2.refl _⟩
     rw [show A6n x=false by unfold A6n;simp only [*,Bool.true_or,Bool.or_true,Bool.not_true,Bool.false_and]]
     rfl)
  | skip
 have hs:x.zones.length≤20:=by simp only [decide_eq_false_iff_not] at h;omega
 have ht:A6n x=(V7 x.zones (fun _ z=>U5 z)&&A0O (x.zones.map N0.name)):=by unfold A6n;simp only [*,Bool.or_false,Bool.not_false,Bool.true_and]
 refine ⟨[3,21,22,23],fun m vs st'=>∃ (i:Nat) (sv:AV),i≤x.zones.length∧(∀ k,k<i→(fun (_:Nat) (z:N0)=>U5 z) k (x.zones.getD k default)=true)∧m=x.zones.length - i∧vs=[sv,A5 4 X4 x.zones,eI x.zones.length,eI i]∧H6 9 1 (fun k=>eS (N0.name (x.zones.getD k default))) st i sv st',?_,?_⟩
 ·conv=>whnf
  exact ⟨_,0,.emp,Nat.zero_le _,fun k hk=>absurd hk (by omega),rfl,rfl,H6.start _ _ _ _⟩
 ·rintro m vs st' ⟨i,sv,hi,hok,rfl,rfl,hc⟩
  conv=>whnf
  cases h:decide ((i:Int)<(x.zones.length:Int))
  ·have:=of_decide_eq_false h
   obtain rfl:i=x.zones.length:=by omega
   conv=>whnf
   refine F0 (hc.shift.trans (A7u N0.name x.zones st)) (C1 (A5D (x.zones.map N0.name) (by rw [List.length_map];omega) st) ?_);conv=>whnf
   refine ⟨?_,E2.refl _⟩
   rw [ht,V0 fun k hk=>hok k (by omega),Bool.true_and];rfl
  ·have hi':i<x.zones.length:=by have:=of_decide_eq_true h;omega
   conv=>whnf
   refine ⟨rfl,⟨by omega,by omega⟩,?_⟩
   have yes:(fun (_:Nat) (z:N0)=>U5 z) i (x.zones.getD (i:Int).toNat default)=true→∀ k,k<i+1→(fun (_:Nat) (z:N0)=>U5 z) k (x.zones.getD k default)=true:=fun h=>K0 hok h
   have no:(fun (_:Nat) (z:N0)=>U5 z) i (x.zones.getD (i:Int).toNat default)=false→A6n x=false:=fun h=>by rw [ht,Z3 hi' h,Bool.false_and]
   have hmem:x.zones.getD (i:Int).toNat default∈x.zones:=by
    rw [Int.toNat_natCast,List.getD_eq_getElem?_getD,List.getElem?_eq_getElem hi'];exact List.getElem_mem hi'
   have hsup:=hc.sup
   simp only [not_true] at yes no
   conv=>whnf
   refine H9 (B7P (x.zones.getD (i:Int).toNat default) _) ?_
   refine B5 (fun h=>?_) (fun h=>?_)<;>rw [h]
   all_goals (conv=>whnf)
   all_goals first
    | (refine ⟨?_,hsup⟩;rw [no (by first | (simp only [*,Bool.true_and,Bool.and_self,Bool.or_true,Bool.true_or,Bool.not_true];done) | simpa using h)];rfl)
    | skip
   refine H6.app rfl rfl rfl rfl rfl ?_ (by show (i+1) * 16≤140737488355328;omega) hc (fun sv' st'' hc'=>?_)
   ·rfl
   conv=>whnf
   refine H4 ?_
   exact ⟨x.zones.length - (i+1),by omega,i+1,sv',by omega,yes (by first | (simp only [*,Bool.false_and,Bool.and_false,Bool.or_false,Bool.not_false];done) | simpa using h),rfl,by rw [B7 (by omega)],hc'⟩
def A3E (l:List Int) (i:Nat) (k:Int):Bool:=!(!upB 1 9 k||(l.take i).any fun y=>k==y)
def A5h (l:List Int):Bool:=V7 l (A3E l)
theorem B0N (l:List Int) (hl:l.length<9223372036854775807) (st:St):S P 259 [B2 l] st fun v st'=>v=.bool (A5h l)∧st'=st:=by
 refine E3 [] Tryz.func259 ?_
 refine ⟨[0,5,6,7],fun m vs st'=>∃ i:Nat,i≤l.length∧(∀ k,k<i→A3E l k (l.getD k default)=true)∧m=l.length - i∧vs=[B2 l,B2 l,eI l.length,eI i]∧st'=st,?_,?_⟩
 ·conv=>whnf
  exact ⟨_,0,Nat.zero_le _,fun k hk=>absurd hk (by omega),rfl,rfl,rfl⟩
 ·rintro m vs st' ⟨i,hi,hok,rfl,rfl,rfl⟩
  conv=>whnf
  cases h:decide ((i:Int)<(l.length:Int))
  ·have:=of_decide_eq_false h
   conv=>whnf
   refine ⟨?_,rfl⟩
   rw [show A5h l=true from V0 fun k hk=>hok k (by omega)];rfl
  ·have hi':i<l.length:=by have:=of_decide_eq_true h;omega
   conv=>whnf
   refine ⟨rfl,⟨by omega,by omega⟩,?_⟩
   have yes:A3E l i (l.getD (i:Int).toNat default)=true→∀ k,k<i+1→A3E l k (l.getD k default)=true:=fun h=>K0 hok h
   have no:A3E l i (l.getD (i:Int).toNat default)=false→A5h l=false:=fun h=>Z3 hi' h
   unfold A3E at yes no;conv=>whnf
   refine H9 (B6Y _ _) ?_
   refine B5 (fun h1=>?_) (fun h1=>?_)
   ·rw [h1];conv=>whnf
    refine ⟨?_,rfl⟩
    rw [no (by rw [h1];rfl)];rfl
   ·rw [h1];conv=>whnf
    refine ⟨rfl,⟨by omega,by omega,by omega⟩,?_⟩;conv=>whnf
    refine F0 (A4.cons (A5H 1 eI l i _ _ hi (by omega) (fun k hk=>by simp) _) (A4.keep _ _)) (C1 (B3x (l.take i) (by rw [List.length_take];omega) _ _) ?_);conv=>whnf
    refine B5 (fun h2=>?_) (fun h2=>?_)
    ·rw [h2];conv=>whnf
     refine ⟨?_,rfl⟩
     rw [no (by rw [h2,Bool.or_true,Bool.not_true])];rfl
    ·rw [h2];conv=>whnf
     refine H4 ?_
     exact ⟨l.length - (i+1),by omega,i+1,by omega,yes (by rw [h1,h2];rfl),rfl,by rw [B7 (by omega)],rfl⟩
def A7F (p:A3m):Bool:=upB 0 100000 p.window&&upB 0 100000 p.grace&&decide (p.mode≥1)&&decide (p.mode≤3)&&upB 0 10000 p.restock&&A5h p.order&&A5h p.credit
structure A2E (r:Q2):Prop where
 promos:r.promos.length≤Big
 fit:∀ p∈r.promos,I9 p
 order:r.policy.order.length<9223372036854775807
 credit:r.policy.credit.length<9223372036854775807
theorem B3P (p:A3m) (h1:p.order.length<9223372036854775807) (h2:p.credit.length<9223372036854775807) (st:St):S P 178 [B5c p] st fun v st'=>v=.bool (A7F p)∧st'=st:=by
 refine SyW [1] Tryz.func178 ?_
 repeat' ((conv=>whnf);first | refine C1 (B7V _ st) ?_ | refine C1 (A7L _ st) ?_ | refine C1 (B0N p.order h1 st) ?_ | refine C1 (B0N p.credit h2 st) ?_ | (refine B5 (fun h=>?_) (fun h=>?_)<;>rw [h]))
 all_goals (conv=>whnf)
 all_goals (refine ⟨?_,rfl⟩;show AV.bool _=AV.bool _;congr 1)
 all_goals (simp only [A7F, *,Bool.true_and,Bool.false_and,Bool.and_true,Bool.and_false,Bool.or_true,Bool.or_false,Bool.true_or,Bool.false_or,Bool.not_true,Bool.not_false,Bool.not_not];try rfl)
def A1k (r:Q2):Bool:=A2n r.items&&X9 r.promos&&A6n r.tax&&B1d r.ship&&A7F r.policy
theorem B5N (r:Q2) (hf:A2E r) (st:St):S P 95 [A0s r] st fun v st'=>v=.bool (A1k r)∧st'=st:=by
 refine SyW [1] Tryz.func95 ?_
 repeat' ((conv=>whnf);first | refine C1 (B5p r.items st) ?_ | refine C1 (B3Q r.promos hf.promos hf.fit st) ?_ | refine C1 (B6u r.tax st) ?_ | refine C1 (B7t r.ship st) ?_ | refine C1 (B3P r.policy hf.order hf.credit st) ?_ | (refine B5 (fun h=>?_) (fun h=>?_)<;>rw [h]))
 all_goals (conv=>whnf)
 all_goals (refine ⟨?_,rfl⟩;show AV.bool _=AV.bool _;congr 1)
 all_goals (simp only [A1k, *,Bool.true_and,Bool.false_and,Bool.and_true,Bool.and_false,Bool.or_true,Bool.or_false,Bool.true_or,Bool.false_or,Bool.not_true,Bool.not_false,Bool.not_not];try rfl)
end Go.Proofs.YtbajhapmlfbelaaGreat
namespace Go.Proofs.YtbajhapmlfbelaaGreat
open Go Go.Ab
theorem V1:∀ x:List UInt8,Op.bytesLess x x=false
 | []=>rfl
 | a::x=>by simp [Op.bytesLess,V1 x,UInt8.lt_irrefl]
theorem A8m:∀ x y z:List UInt8,Op.bytesLess x y=true→Op.bytesLess y z=true→Op.bytesLess x z=true
 | _,_,[],_,h=>by simp [Op.bytesLess] at h
 | _,[],_::_,h,_=>by simp [Op.bytesLess] at h
 | [],_::_,_::_,_,_=>by simp [Op.bytesLess]
 | a::x,b::y,c::z,h1,h2=>by
  simp only [Op.bytesLess,Bool.or_eq_true,Bool.and_eq_true,decide_eq_true_eq,beq_iff_eq] at *
  rcases h1 with h1 | ⟨rfl,h1⟩
  ·rcases h2 with h2 | ⟨rfl,h2⟩
   ·exact .inl (UInt8.lt_trans h1 h2)
   ·exact .inl h1
  ·rcases h2 with h2 | ⟨rfl,h2⟩
   ·exact .inl h2
   ·exact .inr ⟨rfl,A8m x y z h1 h2⟩
theorem B3h:∀ x y:List UInt8,Op.bytesLess x y=false→Op.bytesLess y x=false→x=y
 | [],[],_,_=>rfl
 | [],_::_,h,_=>by simp [Op.bytesLess] at h
 | _::_,[],_,h=>by simp [Op.bytesLess] at h
 | a::x,b::y,h1,h2=>by
  simp only [Op.bytesLess,Bool.or_eq_false_iff,Bool.and_eq_false_iff,decide_eq_false_iff_not,beq_eq_false_iff_ne] at *
  have hab:a=b:=by
   have n1:=UInt8.not_lt.1 h1.1
   have n2:=UInt8.not_lt.1 h2.1
   exact UInt8.le_antisymm n2 n1
  subst hab
  rw [B3h x y (h1.2.resolve_left (by simp)) (h2.2.resolve_left (by simp))]
theorem A2v (a:D8):W9 a a=false:=V1 _
theorem A6U {a b c:D8} (h1:W9 a b=true) (h2:W9 b c=true):W9 a c=true:=A8m _ _ _ h1 h2
theorem A4I {a b:D8} (h1:W9 a b=false) (h2:W9 b a=false):a.toList=b.toList:=B3h _ _ h1 h2
theorem A6T {a b:D8} (h:W9 a b=true):W9 b a=false:=by
 cases hb:W9 b a with
 | false=>rfl
 | true=>have:=A6U h hb;rw [A2v] at this;cases this
theorem A1P {a b c:D8} (h1:W9 b a=false) (h2:W9 c b=false):W9 c a=false:=by
 cases hca:W9 c a with
 | false=>rfl
 | true =>
  cases hab:W9 a b with
  | true=>have:=A6U hca hab;rw [this] at h2;cases h2
  | false =>
   have e:=A4I hab h1
   have:W9 c b=true:=by unfold W9 at *;rw [←e];exact hca
   rw [this] at h2;cases h2
theorem B2k {a a' b b':D8} (h1:a.toList=a'.toList) (h2:b.toList=b'.toList):W9 a b=W9 a' b':=by unfold W9;rw [h1,h2]
def A0h (l:List D8) (k:Nat):Bool:=k==0||!W9 (l.getD k default) (l.getD (k - 1) default)
theorem A9e {l:List D8} (h:∀ k,k<l.length→A0h l k=true) {a b:Nat} (hab:a≤b) (hb:b<l.length):W9 (l.getD b default) (l.getD a default)=false:=by
 induction b with
 | zero=>have:a=0:=by omega
         subst this;exact A2v _
 | succ b ih =>
  rcases Nat.lt_or_ge a (b+1) with hlt | hge
  ·have h1:=ih (by omega) (by omega)
   have h2:=h (b+1) hb
   simp only [A0h,Nat.add_one_ne_zero,beq_iff_eq,Bool.or_eq_true,Bool.not_eq_true',Nat.add_sub_cancel,false_or] at h2
   exact A1P h1 h2
  ·have:a=b+1:=by omega
   subst this;exact A2v _
end Go.Proofs.YtbajhapmlfbelaaGreat
