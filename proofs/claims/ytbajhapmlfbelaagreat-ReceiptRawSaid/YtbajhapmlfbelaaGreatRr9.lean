/- Part 9 of the proof: contracts of the functions that the law reaches -/
import Derived.Test.YtbajhapmlfbelaaGreatRr8
import Derived.KernelRfl
namespace Go.Ab
open Go
def A8T (P : Program) (t : TypeId) (d : TypeDesc) : Bool := match d with | .struct fs => !P.stoodInHeld t && !P.eqGuardType P.depth t && fs.toList.all fun f => !(f.name == "_") | _ => false
def B2 (P:Program):C4:=fun t =>
 match P.underlying t,P.info? t with
 | some d,some i=>match i.zero with
  | some z=>match Nat.decEq (cellsOf (H3 z)).length z.cells.size with
   | .isTrue _=>some ⟨d,i.size,i.bytes,z,A8T P t d⟩
   | .isFalse _=>none
  | none=>none
 | _,_=>none
theorem A3x {P:Program} {t:TypeId} {r:B5} (h:B2 P t=some r):∃ d i z,P.underlying t=some d∧P.info? t=some i∧i.zero=some z∧r=⟨d,i.size,i.bytes,z,A8T P t d⟩∧(cellsOf (H3 z)).length=z.cells.size:=by
 unfold B2 at h
 split at h
 case h_2=>cases h
 rename_i d i hd hi
 split at h
 case h_2=>cases h
 rename_i z hz
 split at h
 case h_2=>cases h
 rename_i he _
 cases h
 exact ⟨d,i,z,hd,hi,hz,rfl,he⟩
theorem B6h (P:Program):P4 P (B2 P):=fun t r h=>by
 obtain ⟨d,i,z,h1,h2,h3,rfl,_⟩:=A3x h
 exact ⟨h1,i,h2,rfl,rfl,h3⟩
theorem B1G (P:Program) (t:TypeId) (r:B5) (h:B2 P t=some r):zOk r:=by
 obtain ⟨d,i,z,h1,h2,h3,rfl,h4⟩:=A3x h
 exact h4
theorem B3R (P:Program):B4k P (B2 P):=fun t r h hp=>by
 obtain ⟨d,i,z,h1,h2,h3,rfl,_⟩:=A3x h
 simp only [A8T] at hp
 split at hp
 ·rename_i fs
  simp only [Bool.and_eq_true,Bool.not_eq_true',List.all_eq_true] at hp
  refine ⟨hp.1.1,hp.1.2,fun gs hg f hf he=>?_⟩
  cases hg
  have:=hp.2 f hf
  rw [he] at this
  simp at this
 ·cases hp
inductive TT where
 | leaf
 | node (l:TT) (k:Nat) (r:B5) (g:TT)
def TT.find:TT→Nat→Option B5
 | .leaf,_=>none
 | .node l k r g,t=>match Nat.beq t k with
  | true=>some r
  | false=>match Nat.blt t k with
   | true=>l.find t
   | false=>g.find t
def TT.All (Q:Nat→B5→Prop):TT→Prop
 | .leaf=>True
 | .node l k r g=>l.All Q∧Q k r∧g.All Q
theorem TT.find_all {Q:Nat→B5→Prop}:∀ (x:TT) (t:Nat) (r:B5),x.All Q→x.find t=some r→Q t r
 | .leaf,t,r,_,h=>by cases h
 | .node l k r' g,t,r,ha,h=>by
  unfold TT.find at h
  split at h
  ·rename_i hb
   cases h
   rw [Nat.eq_of_beq_eq_true hb];exact ha.2.1
  ·split at h
   ·exact TT.find_all l t r ha.1 h
   ·exact TT.find_all g t r ha.2.2 h
theorem B7l {P:Program} {x:TT} {M:D2} (hx:x.All fun t r=>B2 P t=some r) (hM:MOk P M):A3b P x.find M :=
 ⟨fun t r h=>B6h P t r (TT.find_all x t r hx h),fun t r h=>B3R P t r (TT.find_all x t r hx h),fun t r h=>B1G P t r (TT.find_all x t r hx h),hM⟩
end Go.Ab
