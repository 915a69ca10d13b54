/- Part 9 of the proof: contracts of the functions that the law reaches -/
import Derived.Test.YtaapofnkmpiknaaGreatPw8
import Derived.KernelRfl
namespace Go.Ab
open Go
def A9U (P : Program) (t : TypeId) (d : TypeDesc) : Bool := match d with | .struct fs => !P.stoodInHeld t && !P.eqGuardType P.depth t && fs.toList.all fun f => !(f.name == "_") | _ => false
def B3 (P:Program):C7:=fun t =>
 match P.underlying t,P.info? t with
 | some d,some i=>match i.zero with
  | some z=>match Nat.decEq (A2 (H4 z)).length z.cells.size with
   | .isTrue _=>some ⟨d,i.size,i.bytes,z,A9U P t d⟩
   | .isFalse _=>none
  | none=>none
 | _,_=>none
theorem A4m {P:Program} {t:TypeId} {r:B5} (h:B3 P t=some r):∃ d i z,P.underlying t=some d∧P.info? t=some i∧i.zero=some z∧r=⟨d,i.size,i.bytes,z,A9U P t d⟩∧(A2 (H4 z)).length=z.cells.size:=by
 unfold B3 at h
 split at h
 case h_2=>cases h
 rename_i d i hd hi
 split at h
 case h_2=>cases h
 rename_i z hz
 split at h
 case h_2=>cases h
 rename_i he _
 cases h
 exact ⟨d,i,z,hd,hi,hz,rfl,he⟩
theorem B8u (P:Program):Q6 P (B3 P):=fun t r h=>by
 obtain ⟨d,i,z,h1,h2,h3,rfl,_⟩:=A4m h
 exact ⟨h1,i,h2,rfl,rfl,h3⟩
theorem B3h (P:Program) (t:TypeId) (r:B5) (h:B3 P t=some r):zOk r:=by
 obtain ⟨d,i,z,h1,h2,h3,rfl,h4⟩:=A4m h
 exact h4
theorem B5R (P:Program):B6n P (B3 P):=fun t r h hp=>by
 obtain ⟨d,i,z,h1,h2,h3,rfl,_⟩:=A4m h
 simp only [A9U] at hp
 split at hp
 ·rename_i fs
  simp only [C9l,C9F,C9O] at hp
  refine ⟨hp.1.1,hp.1.2,fun gs hg f hf he=>?_⟩
  cases hg
  have:=hp.2 f hf
  rw [he] at this
  simp at this
 ·cases hp
inductive TT where
 | leaf
 | node (l:TT) (k:Nat) (r:B5) (g:TT)
def TT.find:TT→Nat→Option B5
 | .leaf,_=>none
 | .node l k r g,t=>match Nat.beq t k with
  | true=>some r
  | false=>match Nat.blt t k with
   | true=>l.find t
   | false=>g.find t
def TT.All (Q:Nat→B5→Prop):TT→Prop
 | .leaf=>True
 | .node l k r g=>l.All Q∧Q k r∧g.All Q
theorem TT.find_all {Q:Nat→B5→Prop}:∀ (x:TT) (t:Nat) (r:B5),x.All Q→x.find t=some r→Q t r
 | .leaf,t,r,_,h=>by cases h
 | .node l k r' g,t,r,ha,h=>by
  unfold TT.find at h
  split at h
  ·rename_i hb
   cases h
   rw [D1y hb];exact ha.2.1
  ·split at h
   ·exact TT.find_all l t r ha.1 h
   ·exact TT.find_all g t r ha.2.2 h
theorem B9o {P:Program} {x:TT} {M:E7} (hx:x.All fun t r=>B3 P t=some r) (hM:MOk P M):A3M P x.find M :=
 ⟨fun t r h=>B8u P t r (TT.find_all x t r hx h),fun t r h=>B5R P t r (TT.find_all x t r hx h),fun t r h=>B3h P t r (TT.find_all x t r hx h),hM⟩
end Go.Ab
