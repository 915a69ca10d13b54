/- Part 9 of the proof: contracts of the functions that the law reaches -/
import Derived.Test.YtaapofnkmpiknaaGreatRw8
import Derived.KernelRfl
namespace Go.Ab
open Go
def B4f (P : Program) (t : TypeId) (d : TypeDesc) : Bool := match d with | .struct fs => !P.stoodInHeld t && !P.eqGuardType P.depth t && fs.toList.all fun f => !(f.name == "_") | _ => false
def C0 (P:Program):G5:=fun t =>
 match P.underlying t,P.info? t with
 | some d,some i=>match i.zero with
  | some z=>match Nat.decEq (cellsOf (H1 z)).length z.cells.size with
   | .isTrue _=>some ⟨d,i.size,i.bytes,z,B4f P t d⟩
   | .isFalse _=>none
  | none=>none
 | _,_=>none
theorem A7A {P:Program} {t:TypeId} {r:C3} (h:C0 P t=some r):∃ d i z,P.underlying t=some d∧P.info? t=some i∧i.zero=some z∧r=⟨d,i.size,i.bytes,z,B4f P t d⟩∧(cellsOf (H1 z)).length=z.cells.size:=by
 unfold C0 at h
 split at h
 case h_2=>cases h
 rename_i d i hd hi
 split at h
 case h_2=>cases h
 rename_i z hz
 split at h
 case h_2=>cases h
 rename_i he _
 cases h
 exact ⟨d,i,z,hd,hi,hz,rfl,he⟩
theorem C4k (P:Program):TOk P (C0 P):=fun t r h=>by
 obtain ⟨d,i,z,h1,h2,h3,rfl,_⟩:=A7A h
 exact ⟨h1,i,h2,rfl,rfl,h3⟩
theorem B8o (P:Program) (t:TypeId) (r:C3) (h:C0 P t=some r):zOk r:=by
 obtain ⟨d,i,z,h1,h2,h3,rfl,h4⟩:=A7A h
 exact h4
theorem C1s (P:Program):C1N P (C0 P):=fun t r h hp=>by
 obtain ⟨d,i,z,h1,h2,h3,rfl,_⟩:=A7A h
 simp only [B4f] at hp
 split at hp
 ·rename_i fs
  simp only [D5r,D5F,D5I] at hp
  refine ⟨hp.1.1,hp.1.2,fun gs hg f hf he=>?_⟩
  cases hg
  have:=hp.2 f hf
  rw [he] at this
  simp at this
 ·cases hp
inductive TT where
 | leaf
 | node (l:TT) (k:Nat) (r:C3) (g:TT)
def TT.find:TT→Nat→Option C3
 | .leaf,_=>none
 | .node l k r g,t=>match Nat.beq t k with
  | true=>some r
  | false=>match Nat.blt t k with
   | true=>l.find t
   | false=>g.find t
def TT.All (Q:Nat→C3→Prop):TT→Prop
 | .leaf=>True
 | .node l k r g=>l.All Q∧Q k r∧g.All Q
theorem TT.find_all {Q:Nat→C3→Prop}:∀ (x:TT) (t:Nat) (r:C3),x.All Q→x.find t=some r→Q t r
 | .leaf,t,r,_,h=>by cases h
 | .node l k r' g,t,r,ha,h=>by
  unfold TT.find at h
  split at h
  ·rename_i hb
   cases h
   rw [D7i hb];exact ha.2.1
  ·split at h
   ·exact TT.find_all l t r ha.1 h
   ·exact TT.find_all g t r ha.2.2 h
theorem C5m {P:Program} {x:TT} {M:I9} (hx:x.All fun t r=>C0 P t=some r) (hM:MOk P M):A7e P x.find M :=
 ⟨fun t r h=>C4k P t r (TT.find_all x t r hx h),fun t r h=>C1s P t r (TT.find_all x t r hx h),fun t r h=>B8o P t r (TT.find_all x t r hx h),hM⟩
end Go.Ab
