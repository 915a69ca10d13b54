/- Part 9 of the proof: contracts of the functions that the law reaches -/
import Derived.Test.YtbajhapmlfbelaaGreatQn8
import Derived.KernelRfl
namespace Go.Ab
open Go
def A7E (P : Program) (t : TypeId) (d : TypeDesc) : Bool := match d with | .struct fs => !P.stoodInHeld t && !P.eqGuardType P.depth t && fs.toList.all fun f => !(f.name == "_") | _ => false
def B1 (P:Program):C9:=fun t =>
 match P.underlying t,P.info? t with
 | some d,some i=>match i.zero with
  | some z=>match Nat.decEq (cellsOf (F9 z)).length z.cells.size with
   | .isTrue _=>some ⟨d,i.size,i.bytes,z,A7E P t d⟩
   | .isFalse _=>none
  | none=>none
 | _,_=>none
theorem A2y {P:Program} {t:TypeId} {r:B4} (h:B1 P t=some r):∃ d i z,P.underlying t=some d∧P.info? t=some i∧i.zero=some z∧r=⟨d,i.size,i.bytes,z,A7E P t d⟩∧(cellsOf (F9 z)).length=z.cells.size:=by
 unfold B1 at h
 split at h
 case h_2=>cases h
 rename_i d i hd hi
 split at h
 case h_2=>cases h
 rename_i z hz
 split at h
 case h_2=>cases h
 rename_i he _
 cases h
 exact ⟨d,i,z,hd,hi,hz,rfl,he⟩
theorem B4q (P:Program):N8 P (B1 P):=fun t r h=>by
 obtain ⟨d,i,z,h1,h2,h3,rfl,_⟩:=A2y h
 exact ⟨h1,i,h2,rfl,rfl,h3⟩
theorem B0l (P:Program) (t:TypeId) (r:B4) (h:B1 P t=some r):zOk r:=by
 obtain ⟨d,i,z,h1,h2,h3,rfl,h4⟩:=A2y h
 exact h4
theorem B2u (P:Program):B2J P (B1 P):=fun t r h hp=>by
 obtain ⟨d,i,z,h1,h2,h3,rfl,_⟩:=A2y h
 simp only [A7E] at hp
 split at hp
 ·rename_i fs
  simp only [Bool.and_eq_true,Bool.not_eq_true',List.all_eq_true] at hp
  refine ⟨hp.1.1,hp.1.2,fun gs hg f hf he=>?_⟩
  cases hg
  have:=hp.2 f hf
  rw [he] at this
  simp at this
 ·cases hp
inductive TT where
 | leaf
 | node (l:TT) (k:Nat) (r:B4) (g:TT)
def TT.find:TT→Nat→Option B4
 | .leaf,_=>none
 | .node l k r g,t=>match Nat.beq t k with
  | true=>some r
  | false=>match Nat.blt t k with
   | true=>l.find t
   | false=>g.find t
def TT.All (Q:Nat→B4→Prop):TT→Prop
 | .leaf=>True
 | .node l k r g=>l.All Q∧Q k r∧g.All Q
theorem TT.find_all {Q:Nat→B4→Prop}:∀ (x:TT) (t:Nat) (r:B4),x.All Q→x.find t=some r→Q t r
 | .leaf,t,r,_,h=>by cases h
 | .node l k r' g,t,r,ha,h=>by
  unfold TT.find at h
  split at h
  ·rename_i hb
   cases h
   rw [Nat.eq_of_beq_eq_true hb];exact ha.2.1
  ·split at h
   ·exact TT.find_all l t r ha.1 h
   ·exact TT.find_all g t r ha.2.2 h
theorem B5l {P:Program} {x:TT} {M:E5} (hx:x.All fun t r=>B1 P t=some r) (hM:MOk P M):A3l P x.find M :=
 ⟨fun t r h=>B4q P t r (TT.find_all x t r hx h),fun t r h=>B2u P t r (TT.find_all x t r hx h),fun t r h=>B0l P t r (TT.find_all x t r hx h),hM⟩
end Go.Ab
