/- Part 32 of the proof: the law, for every input, and its row -/
import Derived.Test.YtaapofnkmpiknaaGreatRw31
import Derived.Test.YtaapofnkmpiknaaGreatRows
import Derived.ProofKit
import Derived.JoinedOf
import Derived.KernelRfl
import Derived.WalkKit
import Derived.OpenShut
import Derived.ShutString
import Derived.ChangeOld
import Derived.Below
import Derived.SizedLaws
set_option linter.unusedVariables false
set_option linter.unusedSimpArgs false
namespace Go.Ab
open Go
abbrev A7d (ks:List LK) (L:List AV):Prop:=L.length=ks.length∧∀ (j:Nat) (y:AV) (k:LK),L[j]?=some y→ks[j]?=some k→Fit k y
abbrev A8C {α : Type} (ks:List LK) (enc : α→AV) (Q : α→Prop):Prop:=∀ L:List AV,A7d ks L→∃ x,F0 L (cellsOf (enc x))∧(cellsOf (enc x)).all AV.one=true∧Q x
theorem Fit.inv_str {y:AV} (h:Fit .str y):∃ s:C8,y=eS s∧s.size≤maxLen:=by cases h with | str s hs=>exact ⟨s,rfl,hs⟩
theorem Fit.inv_int {y:AV} (h:Fit (.int .i64) y):∃ n:Int,y=eI n∧(Lit.int .i64 n).wf=true:=by cases h with | int k n hn=>exact ⟨n,rfl,hn⟩
theorem Fit.inv_bool {y:AV} (h:Fit .bool y):∃ b:Bool,y=eB b:=by cases h with | bool b=>exact ⟨b,rfl⟩
theorem Fit.inv_sl {α : Type} [Inhabited α] {ks:List LK} {y:AV} {enc : α→AV} {Q : α→Prop} (hd:A8C ks enc Q) (h:Fit (.sl ks) y) :
  ∃ l:List α,Le y (A6 ks.length enc l)∧l.length≤maxLen∧∀ x∈l,Q x:=by
 cases h with
 | sl ks n L hn hl hf =>
  have h1:∀ i,∃ x,i<n→F0 (L i) (cellsOf (enc x))∧(cellsOf (enc x)).all AV.one=true∧Q x:=fun i=>by
   by_cases hi:i<n
   ·obtain ⟨x,hx⟩:=hd (L i) ⟨hl i hi,fun j y k=>hf i j y k hi⟩
    exact ⟨x,fun _=>hx⟩
   ·exact ⟨default,fun h=>absurd h hi⟩
  obtain ⟨g,hg⟩:=Classical.axiomOfChoice h1
  have hlen:((List.range n).map g).length=n:=by rw [D5p,D5O]
  refine ⟨(List.range n).map g,?_,by rw [hlen];exact hn,fun x hx=>?_⟩
  ·unfold A6
   rw [hlen]
   refine Le.arr fun i hi=>?_
   have e:((List.range n).map g).getD i default=g i:=by
    rw [D5l,D6j,D6P hi];rfl
   have one:∀ v∈L i,v.one=true:=fun v hv=>by
    obtain ⟨j,hj,rfl⟩:=D7k hv
    exact (hf i j _ (ks[j]'(by rw [←hl i hi];exact hj)) hi (D5s hj) (D5s (by rw [←hl i hi];exact hj))).one
   rw [e,B2M one]
   exact ⟨(hg i hi).1,(hg i hi).2.1⟩
  ·obtain ⟨i,hi,rfl⟩:=D5G.1 hx
   exact (hg i (D5B.1 hi)).2.2
theorem FitL.slice {α : Type} [Inhabited α] {w:World} {ks:List LK} {l:List AV} {c:Value} {enc : α→AV} {Q : α→Prop} (hd:A8C ks enc Q) (h:FitL w [.sl ks] l [c]) :
  ∃ x:List α,L8 w st0 (A6 ks.length enc x) c∧x.length≤maxLen∧∀ y∈x,Q y:=by
 obtain ⟨y,rfl⟩:=List.length_eq_one_iff.1 h.len
 obtain ⟨x,h1,h2,h3⟩:=(h.fit 0 y (.sl ks) rfl rfl).inv_sl hd
 exact ⟨x,h1 _ _ _ (h.rep 0 y c rfl rfl),h2,h3⟩
set_option maxRecDepth 100000
theorem C6G {k0:LK} {L:List AV} (h:A7d [k0] L):∃ x0,L=[x0]∧Fit k0 x0:=by
 obtain ⟨h1,h2⟩:=h
 match L,h1 with
 | [x0],_=>exact ⟨x0,rfl,h2 0 _ _ rfl rfl⟩
theorem C2E {k0 k1:LK} {L:List AV} (h:A7d [k0,k1] L):∃ x0 x1,L=[x0,x1]∧Fit k0 x0∧Fit k1 x1:=by
 obtain ⟨h1,h2⟩:=h
 match L,h1 with
 | [x0,x1],_=>exact ⟨x0,x1,rfl,h2 0 _ _ rfl rfl,h2 1 _ _ rfl rfl⟩
theorem C6H {k0 k1 k2:LK} {L:List AV} (h:A7d [k0,k1,k2] L):∃ x0 x1 x2,L=[x0,x1,x2]∧Fit k0 x0∧Fit k1 x1∧Fit k2 x2:=by
 obtain ⟨h1,h2⟩:=h
 match L,h1 with
 | [x0,x1,x2],_=>exact ⟨x0,x1,x2,rfl,h2 0 _ _ rfl rfl,h2 1 _ _ rfl rfl,h2 2 _ _ rfl rfl⟩
theorem C6I {k0 k1 k2 k3:LK} {L:List AV} (h:A7d [k0,k1,k2,k3] L):∃ x0 x1 x2 x3,L=[x0,x1,x2,x3]∧Fit k0 x0∧Fit k1 x1∧Fit k2 x2∧Fit k3 x3:=by
 obtain ⟨h1,h2⟩:=h
 match L,h1 with
 | [x0,x1,x2,x3],_=>exact ⟨x0,x1,x2,x3,rfl,h2 0 _ _ rfl rfl,h2 1 _ _ rfl rfl,h2 2 _ _ rfl rfl,h2 3 _ _ rfl rfl⟩
theorem C7z {k0 k1 k2 k3 k4 k5 k6 k7 k8 k9 k10 k11 k12 k13 k14:LK} {L:List AV} (h:A7d [k0,k1,k2,k3,k4,k5,k6,k7,k8,k9,k10,k11,k12,k13,k14] L):∃ x0 x1 x2 x3 x4 x5 x6 x7 x8 x9 x10 x11 x12 x13 x14,L=[x0,x1,x2,x3,x4,x5,x6,x7,x8,x9,x10,x11,x12,x13,x14]∧Fit k0 x0∧Fit k1 x1∧Fit k2 x2∧Fit k3 x3∧Fit k4 x4∧Fit k5 x5∧Fit k6 x6∧Fit k7 x7∧Fit k8 x8∧Fit k9 x9∧Fit k10 x10∧Fit k11 x11∧Fit k12 x12∧Fit k13 x13∧Fit k14 x14:=by
 obtain ⟨h1,h2⟩:=h
 match L,h1 with
 | [x0,x1,x2,x3,x4,x5,x6,x7,x8,x9,x10,x11,x12,x13,x14],_=>exact ⟨x0,x1,x2,x3,x4,x5,x6,x7,x8,x9,x10,x11,x12,x13,x14,rfl,h2 0 _ _ rfl rfl,h2 1 _ _ rfl rfl,h2 2 _ _ rfl rfl,h2 3 _ _ rfl rfl,h2 4 _ _ rfl rfl,h2 5 _ _ rfl rfl,h2 6 _ _ rfl rfl,h2 7 _ _ rfl rfl,h2 8 _ _ rfl rfl,h2 9 _ _ rfl rfl,h2 10 _ _ rfl rfl,h2 11 _ _ rfl rfl,h2 12 _ _ rfl rfl,h2 13 _ _ rfl rfl,h2 14 _ _ rfl rfl⟩
abbrev QT {α : Type} (_ : α):Prop:=True
abbrev C0m:List LK:=[.str]
theorem B0M:A8C C0m eS QT:=fun L h=>by
 obtain ⟨a,rfl,ha⟩:=C6G h
 obtain ⟨a,rfl,_⟩:=ha.inv_str
 exact ⟨a,F0.refl _,rfl,trivial⟩
abbrev C7D:List LK:=[.int .i64]
theorem C2w:A8C C7D eI QT:=fun L h=>by
 obtain ⟨a,rfl,ha⟩:=C6G h
 obtain ⟨a,rfl,_⟩:=ha.inv_int
 exact ⟨a,F0.refl _,rfl,trivial⟩
abbrev C6N:List LK:=[.int .i64,.int .i64,.int .i64]
theorem C5a:A8C C6N R1 QT:=fun L h=>by
 obtain ⟨a0,a1,a2,rfl,h0,h1,h2⟩:=C6H h
 obtain ⟨a0,rfl,_⟩:=h0.inv_int
 obtain ⟨a1,rfl,_⟩:=h1.inv_int
 obtain ⟨a2,rfl,_⟩:=h2.inv_int
 exact ⟨⟨a0,a1,a2⟩,F0.cons (Le.refl _) (F0.cons (Le.refl _) (F0.cons (Le.refl _) (F0.nil))),rfl,trivial⟩
abbrev C6M:List LK:=[.sl C0m,.sl C0m,.int .i64]
theorem C4Y:A8C C6M U9 QT:=fun L h=>by
 obtain ⟨a0,a1,a2,rfl,h0,h1,h2⟩:=C6H h
 obtain ⟨b0,e0,_,_⟩:=h0.inv_sl B0M
 obtain ⟨b1,e1,_,_⟩:=h1.inv_sl B0M
 obtain ⟨a2,rfl,_⟩:=h2.inv_int
 exact ⟨⟨⟨b0,b1⟩,a2⟩,F0.cons (e0) (F0.cons (e1) (F0.cons (Le.refl _) (F0.nil))),rfl,trivial⟩
abbrev C6L:List LK:=[.str,.str,.int .i64,.bool]
theorem C4X:A8C C6L E3 QT:=fun L h=>by
 obtain ⟨a0,a1,a2,a3,rfl,h0,h1,h2,h3⟩:=C6I h
 obtain ⟨a0,rfl,_⟩:=h0.inv_str
 obtain ⟨a1,rfl,_⟩:=h1.inv_str
 obtain ⟨a2,rfl,_⟩:=h2.inv_int
 obtain ⟨a3,rfl⟩:=h3.inv_bool
 exact ⟨⟨a0,a1,a2,a3⟩,F0.cons (Le.refl _) (F0.cons (Le.refl _) (F0.cons (Le.refl _) (F0.cons (Le.refl _) (F0.nil)))),rfl,trivial⟩
abbrev B5r:List LK:=[.str,.int .i64]
theorem B7d:A8C B5r A0N QT:=fun L h=>by
 obtain ⟨a0,a1,rfl,h0,h1⟩:=C2E h
 obtain ⟨a0,rfl,_⟩:=h0.inv_str
 obtain ⟨a1,rfl,_⟩:=h1.inv_int
 exact ⟨⟨a0,a1⟩,F0.cons (Le.refl _) (F0.cons (Le.refl _) (F0.nil)),rfl,trivial⟩
abbrev C6O:List LK:=[.str,.sl B5r,.int .i64,.int .i64]
theorem C5b:A8C C6O R8 QT:=fun L h=>by
 obtain ⟨a0,a1,a2,a3,rfl,h0,h1,h2,h3⟩:=C6I h
 obtain ⟨a0,rfl,_⟩:=h0.inv_str
 obtain ⟨b1,e1,_,_⟩:=h1.inv_sl B7d
 obtain ⟨a2,rfl,_⟩:=h2.inv_int
 obtain ⟨a3,rfl,_⟩:=h3.inv_int
 exact ⟨⟨a0,b1,a2,a3⟩,F0.cons (Le.refl _) (F0.cons (e1) (F0.cons (Le.refl _) (F0.cons (Le.refl _) (F0.nil)))),rfl,trivial⟩
abbrev C2N:List LK:=[.str,.int .i64,.int .i64,.str,.str,.bool,.sl C0m,.sl C0m,.int .i64,.int .i64,.int .i64,.int .i64,.int .i64,.sl C6M,.sl C6N]
theorem C2x:A8C C2N B7 QT:=fun L h=>by
 obtain ⟨a0,a1,a2,a3,a4,a5,a6,a7,a8,a9,a10,a11,a12,a13,a14,rfl,h0,h1,h2,h3,h4,h5,h6,h7,h8,h9,h10,h11,h12,h13,h14⟩:=C7z h
 obtain ⟨a0,rfl,_⟩:=h0.inv_str
 obtain ⟨a1,rfl,_⟩:=h1.inv_int
 obtain ⟨a2,rfl,_⟩:=h2.inv_int
 obtain ⟨a3,rfl,_⟩:=h3.inv_str
 obtain ⟨a4,rfl,_⟩:=h4.inv_str
 obtain ⟨a5,rfl⟩:=h5.inv_bool
 obtain ⟨b6,e6,_,_⟩:=h6.inv_sl B0M
 obtain ⟨b7,e7,_,_⟩:=h7.inv_sl B0M
 obtain ⟨a8,rfl,_⟩:=h8.inv_int
 obtain ⟨a9,rfl,_⟩:=h9.inv_int
 obtain ⟨a10,rfl,_⟩:=h10.inv_int
 obtain ⟨a11,rfl,_⟩:=h11.inv_int
 obtain ⟨a12,rfl,_⟩:=h12.inv_int
 obtain ⟨b13,e13,_,_⟩:=h13.inv_sl C4Y
 obtain ⟨b14,e14,_,_⟩:=h14.inv_sl C5a
 exact ⟨⟨a0,a1,a2,a3,a4,a5,⟨b6,b7⟩,a8,a9,a10,a11,a12,b13,b14⟩,F0.cons (Le.refl _) (F0.cons (Le.refl _) (F0.cons (Le.refl _) (F0.cons (Le.refl _) (F0.cons (Le.refl _) (F0.cons (Le.refl _) (F0.cons (e6) (F0.cons (e7) (F0.cons (Le.refl _) (F0.cons (Le.refl _) (F0.cons (Le.refl _) (F0.cons (Le.refl _) (F0.cons (Le.refl _) (F0.cons (e13) (F0.cons (e14) (F0.nil))))))))))))))),rfl,trivial⟩
end Go.Ab
namespace Go.Ab
open Go Go.Proofs.YtaapofnkmpiknaaGreat
abbrev C8K:List LK:=[.str,.int .i64]
theorem C7t:A8C C8K A4I QT:=fun L h=>by
 obtain ⟨a0,a1,rfl,h0,h1⟩:=C2E h
 obtain ⟨a0,rfl,_⟩:=h0.inv_str
 obtain ⟨a1,rfl,_⟩:=h1.inv_int
 exact ⟨⟨a0,a1⟩,F0.refl _,rfl,trivial⟩
theorem C7A {k0 k1 k2 k3 k4 k5 k6 k7 k8 k9 k10 k11 k12 k13 k14 k15 k16 k17 k18 k19:LK} {L:List AV} (h:A7d [k0,k1,k2,k3,k4,k5,k6,k7,k8,k9,k10,k11,k12,k13,k14,k15,k16,k17,k18,k19] L):∃ x0 x1 x2 x3 x4 x5 x6 x7 x8 x9 x10 x11 x12 x13 x14 x15 x16 x17 x18 x19,L=[x0,x1,x2,x3,x4,x5,x6,x7,x8,x9,x10,x11,x12,x13,x14,x15,x16,x17,x18,x19]∧Fit k0 x0∧Fit k1 x1∧Fit k2 x2∧Fit k3 x3∧Fit k4 x4∧Fit k5 x5∧Fit k6 x6∧Fit k7 x7∧Fit k8 x8∧Fit k9 x9∧Fit k10 x10∧Fit k11 x11∧Fit k12 x12∧Fit k13 x13∧Fit k14 x14∧Fit k15 x15∧Fit k16 x16∧Fit k17 x17∧Fit k18 x18∧Fit k19 x19:=by
 obtain ⟨h1,h2⟩:=h
 match L,h1 with
 | [x0,x1,x2,x3,x4,x5,x6,x7,x8,x9,x10,x11,x12,x13,x14,x15,x16,x17,x18,x19],_=>exact ⟨x0,x1,x2,x3,x4,x5,x6,x7,x8,x9,x10,x11,x12,x13,x14,x15,x16,x17,x18,x19,rfl,h2 0 _ _ rfl rfl,h2 1 _ _ rfl rfl,h2 2 _ _ rfl rfl,h2 3 _ _ rfl rfl,h2 4 _ _ rfl rfl,h2 5 _ _ rfl rfl,h2 6 _ _ rfl rfl,h2 7 _ _ rfl rfl,h2 8 _ _ rfl rfl,h2 9 _ _ rfl rfl,h2 10 _ _ rfl rfl,h2 11 _ _ rfl rfl,h2 12 _ _ rfl rfl,h2 13 _ _ rfl rfl,h2 14 _ _ rfl rfl,h2 15 _ _ rfl rfl,h2 16 _ _ rfl rfl,h2 17 _ _ rfl rfl,h2 18 _ _ rfl rfl,h2 19 _ _ rfl rfl⟩
abbrev C8L:List LK:=[.int .i64,.int .i64]
theorem C7u:A8C C8L A9S QT:=fun L h=>by
 obtain ⟨a0,a1,rfl,h0,h1⟩:=C2E h
 obtain ⟨a0,rfl,_⟩:=h0.inv_int
 obtain ⟨a1,rfl,_⟩:=h1.inv_int
 exact ⟨⟨a0,a1⟩,F0.refl _,rfl,trivial⟩
abbrev kSale:List LK:=[.sl C6L,.sl C2N,.bool,.bool,.int .i64,.sl C6O,.int .i64,.int .i64,.int .i64,.int .i64,.int .i64,.int .i64,.sl C7D,.sl C7D,.int .i64,.bool,.sl C0m,.sl C8K,.sl C8L,.int .i64]
theorem C4Z:A8C kSale B2T QT:=fun L h=>by
 obtain ⟨a0,a1,a2,a3,a4,a5,a6,a7,a8,a9,a10,a11,a12,a13,a14,a15,a16,a17,a18,a19,rfl,h0,h1,h2,h3,h4,h5,h6,h7,h8,h9,h10,h11,h12,h13,h14,h15,h16,h17,h18,h19⟩:=C7A h
 obtain ⟨b0,e0,_,_⟩:=h0.inv_sl C4X
 obtain ⟨b1,e1,_,_⟩:=h1.inv_sl C2x
 obtain ⟨a2,rfl⟩:=h2.inv_bool
 obtain ⟨a3,rfl⟩:=h3.inv_bool
 obtain ⟨a4,rfl,_⟩:=h4.inv_int
 obtain ⟨b5,e5,_,_⟩:=h5.inv_sl C5b
 obtain ⟨a6,rfl,_⟩:=h6.inv_int
 obtain ⟨a7,rfl,_⟩:=h7.inv_int
 obtain ⟨a8,rfl,_⟩:=h8.inv_int
 obtain ⟨a9,rfl,_⟩:=h9.inv_int
 obtain ⟨a10,rfl,_⟩:=h10.inv_int
 obtain ⟨a11,rfl,_⟩:=h11.inv_int
 obtain ⟨b12,e12,_,_⟩:=h12.inv_sl C2w
 obtain ⟨b13,e13,_,_⟩:=h13.inv_sl C2w
 obtain ⟨a14,rfl,_⟩:=h14.inv_int
 obtain ⟨a15,rfl⟩:=h15.inv_bool
 obtain ⟨b16,e16,_,_⟩:=h16.inv_sl B0M
 obtain ⟨b17,e17,_,_⟩:=h17.inv_sl C7t
 obtain ⟨b18,e18,_,_⟩:=h18.inv_sl C7u
 obtain ⟨a19,rfl,_⟩:=h19.inv_int
 exact ⟨⟨⟨b0,b1,⟨a2,a3,a4,b5⟩,⟨a6,a7⟩,⟨a8,a9,a10,a11,b12,b13⟩⟩,a14,a15,b16,b17,b18,a19⟩,F0.cons (e0) (F0.cons (e1) (F0.cons (Le.refl _) (F0.cons (Le.refl _) (F0.cons (Le.refl _) (F0.cons (e5) (F0.cons (Le.refl _) (F0.cons (Le.refl _) (F0.cons (Le.refl _) (F0.cons (Le.refl _) (F0.cons (Le.refl _) (F0.cons (Le.refl _) (F0.cons (e12) (F0.cons (e13) (F0.cons (Le.refl _) (F0.cons (Le.refl _) (F0.cons (e16) (F0.cons (e17) (F0.cons (e18) (F0.cons (Le.refl _) (F0.nil)))))))))))))))))))),rfl,trivial⟩
theorem FitL.sale {w:World} {l:List AV} {cs:List Value} (h:FitL w kSale l cs):∃ x:B4T,L8 w st0 (B2T x) (.agg cs.toArray):=by
 obtain ⟨x,h1,_,_⟩:=C4Z l ⟨h.len,h.fit⟩
 refine ⟨x,?_⟩
 have h0:L8 w st0 (.agg l) (.agg cs.toArray):=.agg _ _ (by rw [h.len,←h.clen];simp) fun j y c hy hc=>h.rep j y c hy (by simpa using hc)
 exact (Le.agg h1) _ _ _ h0
end Go.Ab
namespace Go.Ab
open Go
theorem an {a b:Bool} (h:a=true) (k:b=true):(a&&b)=true:=by rw [h,k];rfl
def kindsFit (P:Program) (fn:Func) (c:OpenClaim):Bool:=(c.kinds==(if c.domain.isEmpty then [] else fn.params.toList.map fun t=>match P.underlying t with | some (.int k)=>some k | _=>none))
theorem joined_of {P:Program} {f:FuncId} {fn:Func} {s:ChangeSpec} {c:OpenClaim} (h1:(c.wf (OpenSpec.ofChange s))=true) (h2:(laidOutB P)=true) (h3:(mapsRowed P)=true) (h4:(fn.params.all (P.readableRec ·))=true) (h5:(namedTie P c.named s.vars)=true) (h6:(c.stops==[])=true) (h7:(P.stops==[])=true) (h8:(c.knobs==[])=true) (h9:(P.stopKnobs==[])=true) (h10:(c.inPlace==P.inPlace f)=true) (h11:(c.unfollowed==P.unfollowed f)=true) (h12:(c.recurses==P.recurses f)=true) (h13:(c.named==P.varsNamed f)=true) (h14:(c.maps==(fn.params.toList++s.plain.varTypes P).any (P.mapsRec ·))=true) (h15:(c.ifaces==(fn.params.toList++s.plain.varTypes P).any (P.ifacesRec ·))=true) (h16:(c.mapsOut==P.mapsAmong fn.resultTypes.toList)=true) (h17:(c.loops==(fn.params.toList++s.plain.varTypes P).any (P.loopsFrom ·))=true) (h18:(c.wideKeys==(fn.params.toList++s.plain.varTypes P++fn.resultTypes.toList).any (P.wideKeysFrom ·))=true) (h19:(s.vars.all (P.varReadable ·))=true) (h20:(fn.resultTypes.all (fun t=>P.readableRec t&&decide (t<P.types.size)))=true) (h21:(c.ifacesOut==fn.resultTypes.toList.any (P.ifacesRec ·))=true) (h22:(c.loopsOut==fn.resultTypes.toList.any (P.loopsFrom ·))=true) (h23:(c.plainKeys==P.plainKeys)=true) (h24:c.shortTexts.isNone=true) (h25:P.stopsHeard=true) (h26:P.mayEnter=true) (h27:(c.lifted==P.liftsFinal)=true) (h28:(P.make==some c.make)=true) (h29:kindsFit P fn c=true) (h30:(c.pinned==c.pinnedBy)=true) (h31:(c.veiled==(fn.params.toList++s.plain.varTypes P++fn.resultTypes.toList).any (P.veiledRec ·))=true) (h32:(c.veiledFits P fn.params.toList (fn.params.toList++s.plain.varTypes P++fn.resultTypes.toList))=true):joinedFacts P f fn s c=true:=an (an (an (an (an (an (an (an (an (an (an (an (an (an (an (an (an (an (an (an (an (an (an (an (an (an (an (an (an (an (an (h1) h2) h3) h4) h5) h6) h7) h8) h9) h10) h11) h12) h13) h14) h15) h16) h17) h18) h19) h20) h21) h22) h23) h24) h25) h26) h27) h28) h29) h30) h31) h32
end Go.Ab
namespace Go.Proofs.YtaapofnkmpiknaaGreat.closed
open Go
theorem p2:(laidOutB Tryz.prog)=true:=by kernel_rfl
theorem p3:(mapsRowed Tryz.prog)=true:=by kernel_rfl
theorem p7:(Tryz.prog.stops==[])=true:=by kernel_rfl
theorem p9:(Tryz.prog.stopKnobs==[])=true:=by kernel_rfl
theorem p25:(Tryz.prog.stopsHeard)=true:=by kernel_rfl
theorem p26:(Tryz.prog.mayEnter)=true:=by kernel_rfl
end Go.Proofs.YtaapofnkmpiknaaGreat.closed
namespace Go.Proofs.YtaapofnkmpiknaaGreat.receiptWhole
open Go.ChangeShapes Go.WideShapes Go.ChangeAt Go.RowKit
open Go.ChangeMaps (open_string shut_string)
theorem c1:(Rows.receiptWholeRow.wf (OpenSpec.ofChange Rows.receiptWholeSpec))=true:=by kernel_rfl
theorem c4:(Tryz.f3.params.all (Tryz.prog.readableRec ·))=true:=by kernel_rfl
theorem c5:(namedTie Tryz.prog Rows.receiptWholeRow.named Rows.receiptWholeSpec.vars)=true:=by kernel_rfl
theorem c6:((Rows.receiptWholeRow.stops==[]))=true:=by kernel_rfl
theorem c8:((Rows.receiptWholeRow.knobs==[]))=true:=by kernel_rfl
theorem c10:((Rows.receiptWholeRow.inPlace==Tryz.prog.inPlace 3))=true:=by kernel_rfl
theorem c11:((Rows.receiptWholeRow.unfollowed==Tryz.prog.unfollowed 3))=true:=by kernel_rfl
theorem c12:((Rows.receiptWholeRow.recurses==Tryz.prog.recurses 3))=true:=by kernel_rfl
theorem c13:((Rows.receiptWholeRow.named==Tryz.prog.varsNamed 3))=true:=by kernel_rfl
theorem c14:((Rows.receiptWholeRow.maps==(Tryz.f3.params.toList++Rows.receiptWholeSpec.plain.varTypes Tryz.prog).any (Tryz.prog.mapsRec ·)))=true:=by kernel_rfl
theorem c15:((Rows.receiptWholeRow.ifaces==(Tryz.f3.params.toList++Rows.receiptWholeSpec.plain.varTypes Tryz.prog).any (Tryz.prog.ifacesRec ·)))=true:=by kernel_rfl
theorem c16:((Rows.receiptWholeRow.mapsOut==Tryz.prog.mapsAmong Tryz.f3.resultTypes.toList))=true:=by kernel_rfl
theorem c17:((Rows.receiptWholeRow.loops==(Tryz.f3.params.toList++Rows.receiptWholeSpec.plain.varTypes Tryz.prog).any (Tryz.prog.loopsFrom ·)))=true:=by kernel_rfl
theorem c18:((Rows.receiptWholeRow.wideKeys==(Tryz.f3.params.toList++Rows.receiptWholeSpec.plain.varTypes Tryz.prog++Tryz.f3.resultTypes.toList).any (Tryz.prog.wideKeysFrom ·)))=true:=by kernel_rfl
theorem c19:(Rows.receiptWholeSpec.vars.all (Tryz.prog.varReadable ·))=true:=by kernel_rfl
theorem c20:(Tryz.f3.resultTypes.all (fun t=>Tryz.prog.readableRec t&&decide (t<Tryz.prog.types.size)))=true:=by kernel_rfl
theorem c21:((Rows.receiptWholeRow.ifacesOut==Tryz.f3.resultTypes.toList.any (Tryz.prog.ifacesRec ·)))=true:=by kernel_rfl
theorem c22:((Rows.receiptWholeRow.loopsOut==Tryz.f3.resultTypes.toList.any (Tryz.prog.loopsFrom ·)))=true:=by kernel_rfl
theorem c23:((Rows.receiptWholeRow.plainKeys==Tryz.prog.plainKeys))=true:=by kernel_rfl
theorem c24:(Rows.receiptWholeRow.shortTexts.isNone)=true:=by kernel_rfl
theorem c27:((Rows.receiptWholeRow.lifted==Tryz.prog.liftsFinal))=true:=by kernel_rfl
theorem c28:((Tryz.prog.make==some Rows.receiptWholeRow.make))=true:=by kernel_rfl
theorem c29:Ab.kindsFit Tryz.prog Tryz.f3 Rows.receiptWholeRow=true:=by kernel_rfl
theorem c30:((Rows.receiptWholeRow.pinned==Rows.receiptWholeRow.pinnedBy))=true:=by kernel_rfl
theorem c31:((Rows.receiptWholeRow.veiled==(Tryz.f3.params.toList++Rows.receiptWholeSpec.plain.varTypes Tryz.prog++Tryz.f3.resultTypes.toList).any (Tryz.prog.veiledRec ·)))=true:=by kernel_rfl
theorem c32:(Rows.receiptWholeRow.veiledFits Tryz.prog Tryz.f3.params.toList (Tryz.f3.params.toList++Rows.receiptWholeSpec.plain.varTypes Tryz.prog++Tryz.f3.resultTypes.toList))=true:=by kernel_rfl
theorem B9W:joinedFacts Tryz.prog 3 Tryz.f3 Rows.receiptWholeSpec Rows.receiptWholeRow=true:=Ab.joined_of c1 closed.p2 closed.p3 c4 c5 c6 closed.p7 c8 closed.p9 c10 c11 c12 c13 c14 c15 c16 c17 c18 c19 c20 c21 c22 c23 c24 closed.p25 closed.p26 c27 c28 c29 c30 c31 c32
theorem own:ownKnob Tryz.prog.godebug=none:=by kernel_rfl
theorem C5w:laidOutB Tryz.prog=true:=closed.p2
theorem D3J (c0:Array Value) (w:World) (l0:List Ab.AV) (h0:Ab.FitL w Ab.kSale l0 c0.toList) :
  Calls Tryz.prog 3 #[.agg c0] w fun e w'=>e=.returned (.bool true)∧Below w.heap.size w w':=by
 obtain ⟨x0,r0⟩:=h0.sale
 refine Ab.law_of_S (B1E x0 Ab.st0) ⟨rfl,fun j y c hy hc=>?_⟩
 match j with
 | 0=>cases hy;cases hc;exact r0
 | j+1=>cases hy
set_option maxRecDepth 100000 in
theorem lifted (os:Os) (started:os.Started) (H:Type) (enc:TypeId×Value→H) :
  ReturnsInHanded {} Tryz.checked os 3 .any (Rows.receiptWholeSpec.pre6 enc Tryz.prog Tryz.f3 Rows.receiptWholeRow.domain false) (Rows.receiptWholeSpec.post enc Tryz.prog Tryz.f3 false true false false):=by
 refine returnsInHanded_of_change_sized (C:=Tryz.checked) own started (by kernel_rfl) Tryz.func3
  (ChangeSpec.witness6 (enc:=enc) (C:=Tryz.checked) false ⟨#[],#[.agg #[.slice none 0 0,.slice none 0 0,.bool false,.bool false,.int .i64 0,.slice none 0 0,.int .i64 0,.int .i64 0,.int .i64 0,.int .i64 0,.int .i64 0,.int .i64 0,.slice none 0 0,.slice none 0 0,.int .i64 0,.bool false,.slice none 0 0,.slice none 0 0,.slice none 0 0,.int .i64 0]],[]⟩ 12 (by kernel_rfl) (by kernel_rfl) (by kernel_rfl) (by kernel_rfl)) ?_
 intro W base args ds gs before hval0 hW hcnd hsz0 _
 have hval:∀ (j:Nat) t v,Tryz.f3.params[j]?=some t→args[j]?=some v→Value.okWide Tryz.prog W .any base t v:=hval0
 have hW':=hW
 obtain ⟨p,q,hA0,hV,rfl,hfz,hnd⟩:=hW
 have hA:DataW.TrodAll enc Tryz.prog W 0 (fun _=>true) true Tryz.f3.params.toList args.toList ds p:=hA0
 rw [Tryz.params3] at hA hval
 obtain ⟨v0,vs0,d0,ds0,p0,q0,hargs,rfl,rfl,h0,r0⟩:=trodAll_cons hA
 obtain ⟨rfl,rfl,rfl⟩:=trodAll_nil r0
 obtain rfl:args=#[v0]:=by cases args;simp_all
 obtain ⟨rfl,rfl⟩:=trodVars_none hV
 obtain ⟨a0,rfl,_⟩:=okWide_struct Tryz.underlying38 (hval 0 38 v0 rfl rfl)
 have k0:=h0
 have lt0:∀ x∈p0,x.block<W.heap.size:=by obtain ⟨m,hm⟩:=k0;exact DataW.trod_lt m _ _ _ hm
 obtain ⟨l0,hl0⟩:∃ l,Ab.FitL W Ab.kSale l a0.toList:=by
  obtain ⟨fuel,hf⟩:=h0
  exact Ab.open_kinds 10 fuel 38 Ab.kSale _ _ (by kernel_rfl) hf
 clear hA0 hval0 hsz0
 refine (D3J a0 W l0 hl0).mono fun e W' ⟨he,bel⟩=>?_
 subst he
 exact ⟨_,rfl,_,_,_,[],_,[],hW',trodAll_mk1 (shut_bool Tryz.underlying4 _),trodAll_cons_mk (Below.trod C5w (by kernel_rfl) (D5o (by kernel_rfl)) k0 bel lt0) trodAll_mk0,rfl,bel.frame _,fun h=>by cases h⟩
theorem over:Rows.receiptWholeRow.holds Tryz.pinned (OpenSpec.ofChange Rows.receiptWholeSpec) :=
 OpenClaim.holds_of_wide 3 Tryz.f3 rfl rfl rfl rfl rfl rfl rfl ⟨rfl,rfl,rfl,rfl,rfl⟩ rfl rfl rfl rfl rfl (by kernel_rfl) Tryz.func3 B9W
  (D5o (by kernel_rfl)) (by unfold Func.isWrapper;first | (rw [if_pos (by decide +kernel)];kernel_rfl) | (rw [if_neg (by decide +kernel)];exact ⟨rfl,rfl⟩))
  (fun os started H enc _=>lifted os started H enc)
theorem proved:Rows.ReceiptWholeSaid:=over
#print axioms proved
end Go.Proofs.YtaapofnkmpiknaaGreat.receiptWhole
namespace Go.Proofs.YtaapofnkmpiknaaGreat
theorem receiptWhole_holds:Rows.ReceiptWholeSaid:=receiptWhole.proved
end Go.Proofs.YtaapofnkmpiknaaGreat
