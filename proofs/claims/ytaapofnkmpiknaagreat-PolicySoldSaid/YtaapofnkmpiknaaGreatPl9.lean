/- Part 9 of the proof: contracts of the functions that the law reaches -/
import Derived.Test.YtaapofnkmpiknaaGreatPl8
import Derived.KernelRfl
namespace Go.Ab
open Go
def B4V (P : Program) (t : TypeId) (d : TypeDesc) : Bool := match d with | .struct fs => !P.stoodInHeld t && !P.eqGuardType P.depth t && fs.toList.all fun f => !(f.name == "_") | _ => false
def B8 (P:Program):G9:=fun t =>
 match P.underlying t,P.info? t with
 | some d,some i=>match i.zero with
  | some z=>match Nat.decEq (cellsOf (H7 z)).length z.cells.size with
   | .isTrue _=>some ⟨d,i.size,i.bytes,z,B4V P t d⟩
   | .isFalse _=>none
  | none=>none
 | _,_=>none
theorem A7Z {P:Program} {t:TypeId} {r:C2} (h:B8 P t=some r):∃ d i z,P.underlying t=some d∧P.info? t=some i∧i.zero=some z∧r=⟨d,i.size,i.bytes,z,B4V P t d⟩∧(cellsOf (H7 z)).length=z.cells.size:=by
 unfold B8 at h
 split at h
 case h_2=>cases h
 rename_i d i hd hi
 split at h
 case h_2=>cases h
 rename_i z hz
 split at h
 case h_2=>cases h
 rename_i he _
 cases h
 exact ⟨d,i,z,hd,hi,hz,rfl,he⟩
theorem C5p (P:Program):TOk P (B8 P):=fun t r h=>by
 obtain ⟨d,i,z,h1,h2,h3,rfl,_⟩:=A7Z h
 exact ⟨h1,i,h2,rfl,rfl,h3⟩
theorem B9l (P:Program) (t:TypeId) (r:C2) (h:B8 P t=some r):zOk r:=by
 obtain ⟨d,i,z,h1,h2,h3,rfl,h4⟩:=A7Z h
 exact h4
theorem C2u (P:Program):C2Q P (B8 P):=fun t r h hp=>by
 obtain ⟨d,i,z,h1,h2,h3,rfl,_⟩:=A7Z h
 simp only [B4V] at hp
 split at hp
 ·rename_i fs
  simp only [D6I,D6X,D6W] at hp
  refine ⟨hp.1.1,hp.1.2,fun gs hg f hf he=>?_⟩
  cases hg
  have:=hp.2 f hf
  rw [he] at this
  simp at this
 ·cases hp
inductive TT where
 | leaf
 | node (l:TT) (k:Nat) (r:C2) (g:TT)
def TT.find:TT→Nat→Option C2
 | .leaf,_=>none
 | .node l k r g,t=>match Nat.beq t k with
  | true=>some r
  | false=>match Nat.blt t k with
   | true=>l.find t
   | false=>g.find t
def TT.All (Q:Nat→C2→Prop):TT→Prop
 | .leaf=>True
 | .node l k r g=>l.All Q∧Q k r∧g.All Q
theorem TT.find_all {Q:Nat→C2→Prop}:∀ (x:TT) (t:Nat) (r:C2),x.All Q→x.find t=some r→Q t r
 | .leaf,t,r,_,h=>by cases h
 | .node l k r' g,t,r,ha,h=>by
  unfold TT.find at h
  split at h
  ·rename_i hb
   cases h
   rw [D8B hb];exact ha.2.1
  ·split at h
   ·exact TT.find_all l t r ha.1 h
   ·exact TT.find_all g t r ha.2.2 h
theorem C6r {P:Program} {x:TT} {M:J2} (hx:x.All fun t r=>B8 P t=some r) (hM:MOk P M):A7A P x.find M :=
 ⟨fun t r h=>C5p P t r (TT.find_all x t r hx h),fun t r h=>C2u P t r (TT.find_all x t r hx h),fun t r h=>B9l P t r (TT.find_all x t r hx h),hM⟩
end Go.Ab
