/- Part 9 of the proof: contracts -/
import Derived.Test.YtaapofnkmpiknaaGreatPt8
import Derived.KernelRfl
namespace Go.Ab
open Go
def B5r (P : Program) (t : TypeId) (d : TypeDesc) : Bool := match d with | .struct fs => !P.stoodInHeld t && !P.eqGuardType P.depth t && fs.toList.all fun f => !(f.name == "_") | _ => false
def B6 (P:Program):H5:=fun t =>
 match P.underlying t,P.info? t with
 | some d,some i=>match i.zero with
  | some z=>match Nat.decEq (cellsOf (I1 z)).length z.cells.size with
   | .isTrue _=>some ⟨d,i.size,i.bytes,z,B5r P t d⟩
   | .isFalse _=>none
  | none=>none
 | _,_=>none
theorem A8g {P:Program} {t:TypeId} {r:C0} (h:B6 P t=some r):∃ d i z,P.underlying t=some d∧P.info? t=some i∧i.zero=some z∧r=⟨d,i.size,i.bytes,z,B5r P t d⟩∧(cellsOf (I1 z)).length=z.cells.size:=by
 unfold B6 at h
 split at h
 case h_2=>cases h
 rename_i d i hd hi
 split at h
 case h_2=>cases h
 rename_i z hz
 split at h
 case h_2=>cases h
 rename_i he _
 cases h
 exact ⟨d,i,z,hd,hi,hz,rfl,he⟩
theorem C5Q (P:Program):TOk P (B6 P):=fun t r h=>by
 obtain ⟨d,i,z,h1,h2,h3,rfl,_⟩:=A8g h
 exact ⟨h1,i,h2,rfl,rfl,h3⟩
theorem B9J (P:Program) (t:TypeId) (r:C0) (h:B6 P t=some r):zOk r:=by
 obtain ⟨d,i,z,h1,h2,h3,rfl,h4⟩:=A8g h
 exact h4
theorem C2S (P:Program):C3o P (B6 P):=fun t r h hp=>by
 obtain ⟨d,i,z,h1,h2,h3,rfl,_⟩:=A8g h
 simp only [B5r] at hp
 split at hp
 ·rename_i fs
  simp only [D7f,D7v,D7s] at hp
  refine ⟨hp.1.1,hp.1.2,fun gs hg f hf he=>?_⟩
  cases hg
  have:=hp.2 f hf
  rw [he] at this
  simp at this
 ·cases hp
inductive TT where
 | leaf
 | node (l:TT) (k:Nat) (r:C0) (g:TT)
def TT.find:TT→Nat→Option C0
 | .leaf,_=>none
 | .node l k r g,t=>match Nat.beq t k with
  | true=>some r
  | false=>match Nat.blt t k with
   | true=>l.find t
   | false=>g.find t
def TT.All (Q:Nat→C0→Prop):TT→Prop
 | .leaf=>True
 | .node l k r g=>l.All Q∧Q k r∧g.All Q
theorem TT.find_all {Q:Nat→C0→Prop}:∀ (x:TT) (t:Nat) (r:C0),x.All Q→x.find t=some r→Q t r
 | .leaf,t,r,_,h=>by cases h
 | .node l k r' g,t,r,ha,h=>by
  unfold TT.find at h
  split at h
  ·rename_i hb
   cases h
   rw [D9a hb];exact ha.2.1
  ·split at h
   ·exact TT.find_all l t r ha.1 h
   ·exact TT.find_all g t r ha.2.2 h
theorem C6T {P:Program} {x:TT} {M:J5} (hx:x.All fun t r=>B6 P t=some r) (hM:MOk P M):A7H P x.find M :=
 ⟨fun t r h=>C5Q P t r (TT.find_all x t r hx h),fun t r h=>C2S P t r (TT.find_all x t r hx h),fun t r h=>B9J P t r (TT.find_all x t r hx h),hM⟩
end Go.Ab
