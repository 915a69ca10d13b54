/- Part 9 of the proof: contracts of the functions that the law reaches -/
import Derived.Test.YtbajhapmlfbelaaGreatPr8
import Derived.KernelRfl
namespace Go.Ab
open Go
def B1t (P : Program) (t : TypeId) (d : TypeDesc) : Bool := match d with | .struct fs => !P.stoodInHeld t && !P.eqGuardType P.depth t && fs.toList.all fun f => !(f.name == "_") | _ => false
def C7 (P:Program):F9:=fun t =>
 match P.underlying t,P.info? t with
 | some d,some i=>match i.zero with
  | some z=>match Nat.decEq (cellsOf (J7 z)).length z.cells.size with
   | .isTrue _=>some ⟨d,i.size,i.bytes,z,B1t P t d⟩
   | .isFalse _=>none
  | none=>none
 | _,_=>none
theorem A5H {P:Program} {t:TypeId} {r:D2} (h:C7 P t=some r):∃ d i z,P.underlying t=some d∧P.info? t=some i∧i.zero=some z∧r=⟨d,i.size,i.bytes,z,B1t P t d⟩∧(cellsOf (J7 z)).length=z.cells.size:=by
 unfold C7 at h
 split at h
 case h_2=>cases h
 rename_i d i hd hi
 split at h
 case h_2=>cases h
 rename_i z hz
 split at h
 case h_2=>cases h
 rename_i he _
 cases h
 exact ⟨d,i,z,hd,hi,hz,rfl,he⟩
theorem B9I (P:Program):X9 P (C7 P):=fun t r h=>by
 obtain ⟨d,i,z,h1,h2,h3,rfl,_⟩:=A5H h
 exact ⟨h1,i,h2,rfl,rfl,h3⟩
theorem B4P (P:Program) (t:TypeId) (r:D2) (h:C7 P t=some r):zOk r:=by
 obtain ⟨d,i,z,h1,h2,h3,rfl,h4⟩:=A5H h
 exact h4
theorem B7i (P:Program):B7z P (C7 P):=fun t r h hp=>by
 obtain ⟨d,i,z,h1,h2,h3,rfl,_⟩:=A5H h
 simp only [B1t] at hp
 split at hp
 ·rename_i fs
  simp only [Bool.and_eq_true,Bool.not_eq_true',List.all_eq_true] at hp
  refine ⟨hp.1.1,hp.1.2,fun gs hg f hf he=>?_⟩
  cases hg
  have:=hp.2 f hf
  rw [he] at this
  simp at this
 ·cases hp
inductive TT where
 | leaf
 | node (l:TT) (k:Nat) (r:D2) (g:TT)
def TT.find:TT→Nat→Option D2
 | .leaf,_=>none
 | .node l k r g,t=>match Nat.beq t k with
  | true=>some r
  | false=>match Nat.blt t k with
   | true=>l.find t
   | false=>g.find t
def TT.All (Q:Nat→D2→Prop):TT→Prop
 | .leaf=>True
 | .node l k r g=>l.All Q∧Q k r∧g.All Q
theorem TT.find_all {Q:Nat→D2→Prop}:∀ (x:TT) (t:Nat) (r:D2),x.All Q→x.find t=some r→Q t r
 | .leaf,t,r,_,h=>by cases h
 | .node l k r' g,t,r,ha,h=>by
  unfold TT.find at h
  split at h
  ·rename_i hb
   cases h
   rw [Nat.eq_of_beq_eq_true hb];exact ha.2.1
  ·split at h
   ·exact TT.find_all l t r ha.1 h
   ·exact TT.find_all g t r ha.2.2 h
theorem C0G {P:Program} {x:TT} {M:H1} (hx:x.All fun t r=>C7 P t=some r) (hM:MOk P M):A5N P x.find M :=
 ⟨fun t r h=>B9I P t r (TT.find_all x t r hx h),fun t r h=>B7i P t r (TT.find_all x t r hx h),fun t r h=>B4P P t r (TT.find_all x t r hx h),hM⟩
end Go.Ab
