/- Part 9 of the proof: contracts of the functions that the law reaches -/
import Derived.Test.YtaapofnkmpiknaaGreatRt8
import Derived.KernelRfl
namespace Go.Ab
open Go
def B4G (P : Program) (t : TypeId) (d : TypeDesc) : Bool := match d with | .struct fs => !P.stoodInHeld t && !P.eqGuardType P.depth t && fs.toList.all fun f => !(f.name == "_") | _ => false
def C0 (P:Program):G7:=fun t =>
 match P.underlying t,P.info? t with
 | some d,some i=>match i.zero with
  | some z=>match Nat.decEq (cellsOf (H2 z)).length z.cells.size with
   | .isTrue _=>some ⟨d,i.size,i.bytes,z,B4G P t d⟩
   | .isFalse _=>none
  | none=>none
 | _,_=>none
theorem A7L {P:Program} {t:TypeId} {r:C4} (h:C0 P t=some r):∃ d i z,P.underlying t=some d∧P.info? t=some i∧i.zero=some z∧r=⟨d,i.size,i.bytes,z,B4G P t d⟩∧(cellsOf (H2 z)).length=z.cells.size:=by
 unfold C0 at h
 split at h
 case h_2=>cases h
 rename_i d i hd hi
 split at h
 case h_2=>cases h
 rename_i z hz
 split at h
 case h_2=>cases h
 rename_i he _
 cases h
 exact ⟨d,i,z,hd,hi,hz,rfl,he⟩
theorem C4D (P:Program):TOk P (C0 P):=fun t r h=>by
 obtain ⟨d,i,z,h1,h2,h3,rfl,_⟩:=A7L h
 exact ⟨h1,i,h2,rfl,rfl,h3⟩
theorem B8G (P:Program) (t:TypeId) (r:C4) (h:C0 P t=some r):zOk r:=by
 obtain ⟨d,i,z,h1,h2,h3,rfl,h4⟩:=A7L h
 exact h4
theorem C1K (P:Program):C2f P (C0 P):=fun t r h hp=>by
 obtain ⟨d,i,z,h1,h2,h3,rfl,_⟩:=A7L h
 simp only [B4G] at hp
 split at hp
 ·rename_i fs
  simp only [D5G,D5Q,D5V] at hp
  refine ⟨hp.1.1,hp.1.2,fun gs hg f hf he=>?_⟩
  cases hg
  have:=hp.2 f hf
  rw [he] at this
  simp at this
 ·cases hp
inductive TT where
 | leaf
 | node (l:TT) (k:Nat) (r:C4) (g:TT)
def TT.find:TT→Nat→Option C4
 | .leaf,_=>none
 | .node l k r g,t=>match Nat.beq t k with
  | true=>some r
  | false=>match Nat.blt t k with
   | true=>l.find t
   | false=>g.find t
def TT.All (Q:Nat→C4→Prop):TT→Prop
 | .leaf=>True
 | .node l k r g=>l.All Q∧Q k r∧g.All Q
theorem TT.find_all {Q:Nat→C4→Prop}:∀ (x:TT) (t:Nat) (r:C4),x.All Q→x.find t=some r→Q t r
 | .leaf,t,r,_,h=>by cases h
 | .node l k r' g,t,r,ha,h=>by
  unfold TT.find at h
  split at h
  ·rename_i hb
   cases h
   rw [D7y hb];exact ha.2.1
  ·split at h
   ·exact TT.find_all l t r ha.1 h
   ·exact TT.find_all g t r ha.2.2 h
theorem C5F {P:Program} {x:TT} {M:J0} (hx:x.All fun t r=>C0 P t=some r) (hM:MOk P M):A7n P x.find M :=
 ⟨fun t r h=>C4D P t r (TT.find_all x t r hx h),fun t r h=>C1K P t r (TT.find_all x t r hx h),fun t r h=>B8G P t r (TT.find_all x t r hx h),hM⟩
end Go.Ab
