/- Part 9 of the proof: contracts of the functions that the law reaches -/
import Derived.Test.YtbajhapmlfbelaaGreatDe8
import Derived.KernelRfl
namespace Go.Ab
open Go
def B2C (P : Program) (t : TypeId) (d : TypeDesc) : Bool := match d with | .struct fs => !P.stoodInHeld t && !P.eqGuardType P.depth t && fs.toList.all fun f => !(f.name == "_") | _ => false
def C7 (P:Program):G9:=fun t =>
 match P.underlying t,P.info? t with
 | some d,some i=>match i.zero with
  | some z=>match Nat.decEq (cellsOf (K6 z)).length z.cells.size with
   | .isTrue _=>some ⟨d,i.size,i.bytes,z,B2C P t d⟩
   | .isFalse _=>none
  | none=>none
 | _,_=>none
theorem A6t {P:Program} {t:TypeId} {r:D3} (h:C7 P t=some r):∃ d i z,P.underlying t=some d∧P.info? t=some i∧i.zero=some z∧r=⟨d,i.size,i.bytes,z,B2C P t d⟩∧(cellsOf (K6 z)).length=z.cells.size:=by
 unfold C7 at h
 split at h
 case h_2=>cases h
 rename_i d i hd hi
 split at h
 case h_2=>cases h
 rename_i z hz
 split at h
 case h_2=>cases h
 rename_i he _
 cases h
 exact ⟨d,i,z,hd,hi,hz,rfl,he⟩
theorem C1v (P:Program):TOk P (C7 P):=fun t r h=>by
 obtain ⟨d,i,z,h1,h2,h3,rfl,_⟩:=A6t h
 exact ⟨h1,i,h2,rfl,rfl,h3⟩
theorem B6t (P:Program) (t:TypeId) (r:D3) (h:C7 P t=some r):zOk r:=by
 obtain ⟨d,i,z,h1,h2,h3,rfl,h4⟩:=A6t h
 exact h4
theorem B8Q (P:Program):B9h P (C7 P):=fun t r h hp=>by
 obtain ⟨d,i,z,h1,h2,h3,rfl,_⟩:=A6t h
 simp only [B2C] at hp
 split at hp
 ·rename_i fs
  simp only [Bool.and_eq_true,Bool.not_eq_true',List.all_eq_true] at hp
  refine ⟨hp.1.1,hp.1.2,fun gs hg f hf he=>?_⟩
  cases hg
  have:=hp.2 f hf
  rw [he] at this
  simp at this
 ·cases hp
inductive TT where
 | leaf
 | node (l:TT) (k:Nat) (r:D3) (g:TT)
def TT.find:TT→Nat→Option D3
 | .leaf,_=>none
 | .node l k r g,t=>match Nat.beq t k with
  | true=>some r
  | false=>match Nat.blt t k with
   | true=>l.find t
   | false=>g.find t
def TT.All (Q:Nat→D3→Prop):TT→Prop
 | .leaf=>True
 | .node l k r g=>l.All Q∧Q k r∧g.All Q
theorem TT.find_all {Q:Nat→D3→Prop}:∀ (x:TT) (t:Nat) (r:D3),x.All Q→x.find t=some r→Q t r
 | .leaf,t,r,_,h=>by cases h
 | .node l k r' g,t,r,ha,h=>by
  unfold TT.find at h
  split at h
  ·rename_i hb
   cases h
   rw [Nat.eq_of_beq_eq_true hb];exact ha.2.1
  ·split at h
   ·exact TT.find_all l t r ha.1 h
   ·exact TT.find_all g t r ha.2.2 h
theorem C2q {P:Program} {x:TT} {M:H8} (hx:x.All fun t r=>C7 P t=some r) (hM:MOk P M):A5X P x.find M :=
 ⟨fun t r h=>C1v P t r (TT.find_all x t r hx h),fun t r h=>B8Q P t r (TT.find_all x t r hx h),fun t r h=>B6t P t r (TT.find_all x t r hx h),hM⟩
end Go.Ab
