/- Part 17 of the proof: contracts of the functions that the law reaches -/
import Derived.Test.YtaapofnkmpiknaaGreatPw16
set_option linter.unusedVariables false
namespace Go.Ab
open Go
def So (y y':AV):Prop:=∀ rd sz rd' sz' c,Rep rd sz y c→Rep rd' sz' y' c
inductive SoL:List AV→List AV→Prop
 | nil:SoL [] []
 | cons {a b:AV} {l m:List AV} (h:So a b) (k:SoL l m):SoL (a::l) (b::m)
theorem SoL.len {l m:List AV} (h:SoL l m):l.length=m.length:=by
 induction h with
 | nil=>rfl
 | cons _ _ ih=>simp [ih]
theorem SoL.get {l m:List AV} (h:SoL l m):∀ (j:Nat) (y':AV),m[j]?=some y'→∃ y,l[j]?=some y∧So y y':=by
 induction h with
 | nil=>intro j y' hj;simp at hj
 | cons h k ih =>
  intro j y' hj
  cases j with
  | zero=>simp at hj;subst hj;exact ⟨_,rfl,h⟩
  | succ j=>simp at hj;simpa using ih j y' hj
theorem So.int (k:IntKind) (n:Int):So (.int k n) (.int k n):=fun _ _ _ _ c h=>by cases h;exact .int _ _
theorem So.bool (b:Bool):So (.bool b) (.bool b):=fun _ _ _ _ c h=>by cases h;exact .bool _
theorem So.str (b:ByteArray):So (.str b) (.str b):=fun _ _ _ _ c h=>by cases h;exact .str _
theorem So.junk (y:AV):So y .junk:=fun _ _ _ _ c _=>.junk c
def noA (n:Nat):AV:=.arr 0 n fun _=>.agg []
theorem So.arr (e n:Nat) (f:Nat→AV):So (.arr e n f) (noA n):=fun _ _ _ _ c h=>by
 cases h with
 | arr e n f A c g hc hA hl ho hr hg =>
  exact .arr _ _ _ A c (fun _ _=>undef) hc hA (fun i hi=>rfl) (fun i hi=>rfl) (fun a ha i j hi hj=>absurd hj (by omega)) (fun i j y hi hy=>by simp [A2] at hy)
theorem So.agg {l m:List AV} (h:SoL l m):So (.agg l) (.agg m):=fun _ _ _ _ c hr=>by
 cases hr with
 | agg cs vs hl hg =>
  refine .agg _ _ (by rw [←h.len];exact hl) fun j y c hy hc=>?_
  obtain ⟨y0,h1,h2⟩:=h.get j y hy
  exact h2 _ _ _ _ _ (hg j y0 c h1 hc)
theorem So.tuple {l m:List AV} (h:SoL l m):So (.tuple l) (.tuple m):=fun _ _ _ _ c hr=>by
 cases hr with
 | tuple cs vs hl hg =>
  refine .tuple _ _ (by rw [←h.len];exact hl) fun j y c hy hc=>?_
  obtain ⟨y0,h1,h2⟩:=h.get j y hy
  exact h2 _ _ _ _ _ (hg j y0 c h1 hc)
def Le (y y':AV):Prop:=∀ rd sz c,Rep rd sz y c→Rep rd sz y' c
inductive LeL:List AV→List AV→Prop
 | nil:LeL [] []
 | cons {a b:AV} {l m:List AV} (h:Le a b) (k:LeL l m):LeL (a::l) (b::m)
theorem Le.refl (y:AV):Le y y:=fun _ _ _ h=>h
theorem LeL.refl:∀ l:List AV,LeL l l
 | []=>.nil
 | a::l=>.cons (Le.refl a) (LeL.refl l)
theorem LeL.len {l m:List AV} (h:LeL l m):l.length=m.length:=by
 induction h with
 | nil=>rfl
 | cons _ _ ih=>simp [ih]
theorem LeL.get {l m:List AV} (h:LeL l m):∀ (j:Nat) (y':AV),m[j]?=some y'→∃ y,l[j]?=some y∧Le y y':=by
 induction h with
 | nil=>intro j y' hj;simp at hj
 | cons h k ih =>
  intro j y' hj
  cases j with
  | zero=>simp at hj;subst hj;exact ⟨_,rfl,h⟩
  | succ j=>simp at hj;simpa using ih j y' hj
theorem Le.emp (e:Nat) (f:Nat→AV):Le .emp (.arr e 0 f):=fun rd sz c h=>B3F e f h
theorem Le.agg {l m:List AV} (h:LeL l m):Le (.agg l) (.agg m):=fun rd sz c hr=>by
 cases hr with
 | agg cs vs hl hg =>
  refine .agg _ _ (by rw [←h.len];exact hl) fun j y c hy hc=>?_
  obtain ⟨y0,h1,h2⟩:=h.get j y hy
  exact h2 _ _ _ (hg j y0 c h1 hc)
theorem Le.arr {e n:Nat} {f g:Nat→AV} (h:∀ i,i<n→LeL (A2 (f i)) (A2 (g i))∧(A2 (g i)).all AV.one=true):Le (.arr e n f) (.arr e n g):=fun rd sz c hr=>by
 cases hr with
 | arr e n f A c g' hc hA hl ho hrd hg =>
  refine .arr _ _ _ A c g' hc hA (fun i hi=>by rw [←(h i hi).1.len];exact hl i hi) (fun i hi=>(h i hi).2) hrd fun i j y hi hy=>?_
  obtain ⟨y0,h1,h2⟩:=(h i hi).1.get j y hy
  exact h2 _ _ _ (hg i j y0 hi h1)
theorem Le.arr1 {e:Nat} {f g:Nat→AV} (h:LeL (A2 (f 0)) (A2 (g 0))) (h1:(A2 (g 0)).all AV.one=true):Le (.arr e 1 f) (.arr e 1 g):=Le.arr fun i hi=>by
 obtain rfl:i=0:=by omega
 exact ⟨h,h1⟩
theorem Le.shift {v v':AV} (h:Le v v') (st:St):A4 [v] st [v'] st:=A4.one fun w c hS hr=>⟨hS,P6.refl _ _,h _ _ _ hr⟩
end Go.Ab
