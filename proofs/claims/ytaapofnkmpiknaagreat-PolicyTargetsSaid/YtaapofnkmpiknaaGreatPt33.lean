/- Part 33 of the proof: the law, for every input, and its row -/
import Derived.Test.YtaapofnkmpiknaaGreatPt32
import Derived.Test.YtaapofnkmpiknaaGreatRows
import Derived.WalkKit
import Derived.ProofKit
import Derived.OpenShut
import Derived.ShutString
import Derived.ChangeOld
import Derived.Below
import Derived.SizedLaws
namespace Go.Proofs.YtaapofnkmpiknaaGreat.policyTargets
open Go.ChangeShapes Go.WideShapes Go.ChangeAt Go.RowKit
open Go.ChangeMaps (open_string shut_string)
set_option linter.unusedVariables false
theorem c1:(Rows.policyTargetsRow.wf (OpenSpec.ofChange Rows.policyTargetsSpec))=true:=by kernel_rfl
theorem c4:(Tryz.f10.params.all (Tryz.prog.readableRec ·))=true:=by kernel_rfl
theorem c5:(namedTie Tryz.prog Rows.policyTargetsRow.named Rows.policyTargetsSpec.vars)=true:=by kernel_rfl
theorem c6:((Rows.policyTargetsRow.stops==[]))=true:=by kernel_rfl
theorem c8:((Rows.policyTargetsRow.knobs==[]))=true:=by kernel_rfl
theorem c10:((Rows.policyTargetsRow.inPlace==Tryz.prog.inPlace 10))=true:=by kernel_rfl
theorem c11:((Rows.policyTargetsRow.unfollowed==Tryz.prog.unfollowed 10))=true:=by kernel_rfl
theorem c12:((Rows.policyTargetsRow.recurses==Tryz.prog.recurses 10))=true:=by kernel_rfl
theorem c13:((Rows.policyTargetsRow.named==Tryz.prog.varsNamed 10))=true:=by kernel_rfl
theorem c14:((Rows.policyTargetsRow.maps==(Tryz.f10.params.toList++Rows.policyTargetsSpec.plain.varTypes Tryz.prog).any (Tryz.prog.mapsRec ·)))=true:=by kernel_rfl
theorem c15:((Rows.policyTargetsRow.ifaces==(Tryz.f10.params.toList++Rows.policyTargetsSpec.plain.varTypes Tryz.prog).any (Tryz.prog.ifacesRec ·)))=true:=by kernel_rfl
theorem c16:((Rows.policyTargetsRow.mapsOut==Tryz.prog.mapsAmong Tryz.f10.resultTypes.toList))=true:=by kernel_rfl
theorem c17:((Rows.policyTargetsRow.loops==(Tryz.f10.params.toList++Rows.policyTargetsSpec.plain.varTypes Tryz.prog).any (Tryz.prog.loopsFrom ·)))=true:=by kernel_rfl
theorem c18:((Rows.policyTargetsRow.wideKeys==(Tryz.f10.params.toList++Rows.policyTargetsSpec.plain.varTypes Tryz.prog++Tryz.f10.resultTypes.toList).any (Tryz.prog.wideKeysFrom ·)))=true:=by kernel_rfl
theorem c19:(Rows.policyTargetsSpec.vars.all (Tryz.prog.varReadable ·))=true:=by kernel_rfl
theorem c20:(Tryz.f10.resultTypes.all (fun t=>Tryz.prog.readableRec t&&decide (t<Tryz.prog.types.size)))=true:=by kernel_rfl
theorem c21:((Rows.policyTargetsRow.ifacesOut==Tryz.f10.resultTypes.toList.any (Tryz.prog.ifacesRec ·)))=true:=by kernel_rfl
theorem c22:((Rows.policyTargetsRow.loopsOut==Tryz.f10.resultTypes.toList.any (Tryz.prog.loopsFrom ·)))=true:=by kernel_rfl
theorem c23:((Rows.policyTargetsRow.plainKeys==Tryz.prog.plainKeys))=true:=by kernel_rfl
theorem c24:(Rows.policyTargetsRow.shortTexts.isNone)=true:=by kernel_rfl
theorem c27:((Rows.policyTargetsRow.lifted==Tryz.prog.liftsFinal))=true:=by kernel_rfl
theorem c28:((Tryz.prog.make==some Rows.policyTargetsRow.make))=true:=by kernel_rfl
theorem c29:Ab.kindsFit Tryz.prog Tryz.f10 Rows.policyTargetsRow=true:=by kernel_rfl
theorem c30:((Rows.policyTargetsRow.pinned==Rows.policyTargetsRow.pinnedBy))=true:=by kernel_rfl
theorem c31:((Rows.policyTargetsRow.veiled==(Tryz.f10.params.toList++Rows.policyTargetsSpec.plain.varTypes Tryz.prog++Tryz.f10.resultTypes.toList).any (Tryz.prog.veiledRec ·)))=true:=by kernel_rfl
theorem c32:(Rows.policyTargetsRow.veiledFits Tryz.prog Tryz.f10.params.toList (Tryz.f10.params.toList++Rows.policyTargetsSpec.plain.varTypes Tryz.prog++Tryz.f10.resultTypes.toList))=true:=by kernel_rfl
theorem C1q:joinedFacts Tryz.prog 10 Tryz.f10 Rows.policyTargetsSpec Rows.policyTargetsRow=true:=Ab.joined_of c1 closed.p2 closed.p3 c4 c5 c6 closed.p7 c8 closed.p9 c10 c11 c12 c13 c14 c15 c16 c17 c18 c19 c20 c21 c22 c23 c24 closed.p25 closed.p26 c27 c28 c29 c30 c31 c32
theorem own:ownKnob Tryz.prog.godebug=none:=by kernel_rfl
theorem C0v:laidOutB Tryz.prog=true:=closed.p2
theorem D5Q (c0:Array Value) (c1:Value) (a2:Int) (a3:Int) (w:World) (l0 l1:List Ab.AV) (h0:Ab.FitL w Ab.kSale l0 c0.toList) (h1:Ab.FitL w [.sl Ab.kInt] l1 [c1]) :
  Calls Tryz.prog 10 #[.agg c0,c1,.int .i64 a2,.int .i64 a3] w fun e w'=>e=.returned (.bool true)∧Below w.heap.size w w':=by
 obtain ⟨x0,r0⟩:=h0.sale
 obtain ⟨x1,r1,_,_⟩:=h1.slice Ab.decInt
 refine Ab.law_of_S (B0S x0 x1 a2 a3 Ab.st0) ⟨rfl,fun j y c hy hc=>?_⟩
 match j with
 | 0=>cases hy;cases hc;exact r0
 | 1=>cases hy;cases hc;exact r1
 | 2=>cases hy;cases hc;exact .int _ _
 | 3=>cases hy;cases hc;exact .int _ _
 | j+4=>cases hy
set_option maxRecDepth 100000 in
theorem lifted (os:Os) (started:os.Started) (H:Type) (enc:TypeId×Value→H) :
  ReturnsInHanded {} Tryz.checked os 10 .any (Rows.policyTargetsSpec.pre6 enc Tryz.prog Tryz.f10 Rows.policyTargetsRow.domain false) (Rows.policyTargetsSpec.post enc Tryz.prog Tryz.f10 false true false false):=by
 refine returnsInHanded_of_change_sized (C:=Tryz.checked) own started (by kernel_rfl) Tryz.func10
  (ChangeSpec.witness6 (enc:=enc) (C:=Tryz.checked) false ⟨#[],#[.agg #[.slice none 0 0,.slice none 0 0,.bool false,.bool false,.int .i64 0,.slice none 0 0,.int .i64 0,.int .i64 0,.int .i64 0,.int .i64 0,.int .i64 0,.int .i64 0,.slice none 0 0,.slice none 0 0,.int .i64 0,.bool false,.slice none 0 0,.slice none 0 0,.slice none 0 0,.int .i64 0],.slice none 0 0,.int .i64 0,.int .i64 0],[]⟩ 12 (by kernel_rfl) (by kernel_rfl) (by kernel_rfl) (by kernel_rfl)) ?_
 intro W base args ds gs before hval0 hW hcnd hsz0 _
 have hval:∀ (j:Nat) t v,Tryz.f10.params[j]?=some t→args[j]?=some v→Value.okWide Tryz.prog W .any base t v:=hval0
 have hW':=hW
 obtain ⟨p,q,hA0,hV,rfl,hfz,hnd⟩:=hW
 have hA:DataW.TrodAll enc Tryz.prog W 0 (fun _=>true) true Tryz.f10.params.toList args.toList ds p:=hA0
 rw [Tryz.params10] at hA hval
 obtain ⟨v0,vs0,d0,ds0,p0,q0,hargs,rfl,rfl,h0,r0⟩:=trodAll_cons hA
 obtain ⟨v1,vs1,d1,ds1,p1,q1,rfl,rfl,rfl,h1,r1⟩:=trodAll_cons r0
 obtain ⟨v2,vs2,d2,ds2,p2,q2,rfl,rfl,rfl,h2,r2⟩:=trodAll_cons r1
 obtain ⟨v3,vs3,d3,ds3,p3,q3,rfl,rfl,rfl,h3,r3⟩:=trodAll_cons r2
 obtain ⟨rfl,rfl,rfl⟩:=trodAll_nil r3
 obtain rfl:args=#[v0,v1,v2,v3]:=by cases args;simp_all
 obtain ⟨rfl,rfl⟩:=trodVars_none hV
 obtain ⟨a0,rfl,_⟩:=okWide_struct Tryz.underlying38 (hval 0 38 v0 rfl rfl)
 obtain ⟨a1,len1,cap1,rfl⟩:=okWide_slice Tryz.underlying29 (hval 1 29 v1 rfl rfl)
 obtain ⟨a2,rfl,rfl,rfl,w2⟩:=open_int Tryz.underlying2 (hval 2 2 v2 rfl rfl) h2
 obtain ⟨a3,rfl,rfl,rfl,w3⟩:=open_int Tryz.underlying3 (hval 3 3 v3 rfl rfl) h3
 have k0:=h0
 have lt0:∀ x∈p0,x.block<W.heap.size:=by obtain ⟨m,hm⟩:=k0;exact DataW.trod_lt m _ _ _ hm
 have k1:=h1
 have lt1:∀ x∈p1,x.block<W.heap.size:=by obtain ⟨m,hm⟩:=k1;exact DataW.trod_lt m _ _ _ hm
 obtain ⟨l0,hl0⟩:∃ l,Ab.FitL W Ab.kSale l a0.toList:=by
  obtain ⟨fuel,hf⟩:=h0
  exact Ab.open_kinds 10 fuel 38 Ab.kSale _ _ (by kernel_rfl) hf
 obtain ⟨l1,hl1⟩:∃ l,Ab.FitL W [.sl Ab.kInt] l [.slice a1 len1 cap1]:=by
  obtain ⟨fuel,hf⟩:=h1
  exact Ab.open_kinds 3 fuel 29 [.sl Ab.kInt] _ _ (by kernel_rfl) hf
 clear hA0 hval0 hsz0
 refine (D5Q a0 _ a2 a3 W l0 l1 hl0 hl1).mono fun e W' ⟨he,bel⟩=>?_
 subst he
 exact ⟨_,rfl,_,_,_,[],_,[],hW',trodAll_mk1 (shut_bool Tryz.underlying4 _),trodAll_cons_mk (Below.trod C0v (by kernel_rfl) (D7h (by kernel_rfl)) k0 bel lt0) (trodAll_cons_mk (Below.trod C0v (by kernel_rfl) (D7h (by kernel_rfl)) k1 bel lt1) (trodAll_cons_mk (shut_int Tryz.underlying2 w2) (trodAll_cons_mk (shut_int Tryz.underlying3 w3) trodAll_mk0))),rfl,bel.frame _,fun h=>by cases h⟩
theorem over:Rows.policyTargetsRow.holds Tryz.pinned (OpenSpec.ofChange Rows.policyTargetsSpec) :=
 OpenClaim.holds_of_wide 10 Tryz.f10 rfl rfl rfl rfl rfl rfl rfl ⟨rfl,rfl,rfl,rfl,rfl⟩ rfl rfl rfl rfl rfl (by kernel_rfl) Tryz.func10 C1q
  (D7h (by kernel_rfl)) (by unfold Func.isWrapper;first | (rw [if_pos (by decide +kernel)];kernel_rfl) | (rw [if_neg (by decide +kernel)];exact ⟨rfl,rfl⟩))
  (fun os started H enc _=>lifted os started H enc)
theorem proved:Rows.PolicyTargetsSaid:=over
#print axioms proved
end Go.Proofs.YtaapofnkmpiknaaGreat.policyTargets
namespace Go.Proofs.YtaapofnkmpiknaaGreat
theorem policyTargets_holds:Rows.PolicyTargetsSaid:=policyTargets.proved
end Go.Proofs.YtaapofnkmpiknaaGreat
