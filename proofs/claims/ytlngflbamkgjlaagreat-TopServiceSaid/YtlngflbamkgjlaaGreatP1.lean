/-
  Part 1 of the proof of TopService: Base, Eng, Eq2, Rec, Rec2, RecE, TsEq, TracePlain, Bk, TsF, Rec3, Round, TsG, Flat, Qu.
-/
import Derived.WalkKit
import Derived.WalkSpells
import Derived.WalkLawsBesides
import Derived.Lib.MinMax
import Derived.RegionTactic
import Derived.BigRegion
import Derived.ChangeAlike
import Derived.Laws.OwnMore
import Derived.Laws.Rows
import Derived.Deep.Draws
import Derived.Maps.AppendAt
import Derived.Deep.Quiet
import Derived.StillTail
import Derived.KernelRfl
import Derived.IntWalk
import Derived.LoopN
import Derived.Laws.CopyRow
import Derived.Test.YtlngflbamkgjlaaGreatProg
import Derived.RangeFuncBox
import Derived.LoopNIn
import Derived.RangeFuncLeaves
import Derived.RangeFuncNested
import Derived.Shelf.Abstract
namespace Go.Proofs.YtlngflbamkgjlaaGreat
open Go.RowKit
theorem hide {p:Prop} (h:p):Hid p:=h
theorem ret_int {k:IntKind} {a b:Int} (h:a=b):Ending.returned (.int k a)=.returned (.int k b):=by rw [h]
theorem ret_bool {a b:Bool} (h:a=b):Ending.returned (.bool a)=.returned (.bool b):=by rw [h]
def Ret (w:World) (v:Value) (e:Ending) (w':World):Prop:=e=.returned v ∧ Below w.heap.size w w'
def Blk (w:World) (g:Nat) (t:TypeId) (cs:Array Value):Prop:=w.heap[g]?=some (.cells cs t (0,0))
section
variable {w w':World} {g:Nat} {t:TypeId} {cs:Array Value}
theorem Blk.lt (h:Blk w g t cs):g < w.heap.size:=by
  rcases Nat.lt_or_ge g w.heap.size with hlt | hge
  · exact hlt
  · unfold Blk at h
    rw [Array.getElem?_eq_none hge] at h
    cases h
theorem Blk.cell (h:Blk w g t cs) (i:Nat):w.cell? ⟨g,i,none⟩=cs[i]?:=cell_of_row w g i cs t (0,0) h
theorem Blk.frozen (h:Blk w g t cs) (i:Nat):w.frozen? ⟨g,i,none⟩=false:=by
  unfold Blk at h
  simp [World.frozen?,h]
theorem Blk.new (w:World) (t:TypeId) (cs:Array Value):Blk (w.alloc (.cells cs t)) w.heap.size t cs:=heap_alloc_new w _
theorem Blk.drew (h:Blk w g t cs):Blk w.drew g t cs:=h
theorem Blk.alloc (h:Blk w g t cs) (o:Obj):Blk (w.alloc o) g t cs:=(Below.heap_alloc w o g h.lt).trans h
theorem Blk.below {B:Nat} (h:Blk w g t cs) (hb:Below B w w') (hg:g < B):Blk w' g t cs:=(hb.block g hg).trans h
theorem Blk.grown {row:Option Nat} (h:Blk w g t cs) (hb:w.grownBy w' row) (hg:some g ≠ row):Blk w' g t cs:=(hb.block g h.lt hg).trans h
end
theorem grown_refl (w:World) (g:Option Nat):w.grownBy w g:=⟨rfl,rfl,rfl,Nat.le_refl _,fun _ _ _=>rfl⟩
theorem grown_of_below {B:Nat} {a w:World} (h:Below B a w) (hB:a.heap.size ≤ B) (g:Option Nat):a.grownBy w g:=⟨h.os,h.tape,h.output,h.size,fun i hi _=>h.block i (by omega)⟩
def Arr1 (kd:IntKind) (w:World) (B:Nat) (A:Option Addr) (l:List Int):Prop :=
  ∀ k x,l[k]?=some x → ∃ b off,A=some ⟨b,off,none⟩ ∧ b < B ∧ w.cell? ⟨b,off + k,none⟩=some (.int kd x)
def Arr2 (w:World) (B:Nat) (A:Option Addr) (l:List (Int × Int)):Prop :=
  ∀ k x,l[k]?=some x → ∃ b off,A=some ⟨b,off,none⟩ ∧ b < B ∧ w.cell? ⟨b,off + k * 2,none⟩=some (.int .i64 x.1) ∧ w.cell? ⟨b,off + k * 2 + 1,none⟩=some (.int .i64 x.2)
section
variable {kd:IntKind} {w w':World} {B B':Nat} {A:Option Addr} {l:List Int} {m:List (Int × Int)}
theorem Arr1.nil:Arr1 kd w B A []:=fun k x h=>by simp at h
theorem Arr2.nil:Arr2 w B A []:=fun k x h=>by simp at h
theorem Arr1.keep (h:Arr1 kd w B A l) (hk:∀ p:Addr,p.block < B → w'.cell? p=w.cell? p):Arr1 kd w' B A l:=fun k x hx=>by
  obtain ⟨b,off,e,hb,hc⟩:=h k x hx
  exact ⟨b,off,e,hb,(hk ⟨b,off + k,none⟩ hb).trans hc⟩
theorem Arr2.keep (h:Arr2 w B A m) (hk:∀ p:Addr,p.block < B → w'.cell? p=w.cell? p):Arr2 w' B A m:=fun k x hx=>by
  obtain ⟨b,off,e,hb,hc,hd⟩:=h k x hx
  exact ⟨b,off,e,hb,(hk ⟨b,off + k * 2,none⟩ hb).trans hc,(hk ⟨b,off + k * 2 + 1,none⟩ hb).trans hd⟩
theorem Arr1.more (h:Arr1 kd w B A l) (hB:B ≤ B'):Arr1 kd w B' A l:=fun k x hx=>by
  obtain ⟨b,off,e,hb,hc⟩:=h k x hx
  exact ⟨b,off,e,by omega,hc⟩
theorem Arr2.more (h:Arr2 w B A m) (hB:B ≤ B'):Arr2 w B' A m:=fun k x hx=>by
  obtain ⟨b,off,e,hb,hc⟩:=h k x hx
  exact ⟨b,off,e,by omega,hc⟩
theorem Arr1.below {C:Nat} (h:Arr1 kd w B A l) (hb:Below C w w') (hC:B ≤ C):Arr1 kd w' B A l:=h.keep fun _ hp=>hb.cell (by omega)
theorem Arr2.below {C:Nat} (h:Arr2 w B A m) (hb:Below C w w') (hC:B ≤ C):Arr2 w' B A m:=h.keep fun _ hp=>hb.cell (by omega)
theorem Arr1.drew (h:Arr1 kd w B A l):Arr1 kd w.drew B A l:=h
theorem Arr2.drew (h:Arr2 w B A m):Arr2 w.drew B A m:=h
theorem Arr1.alloc (h:Arr1 kd w B A l) (hB:B ≤ w.heap.size) (o:Obj):Arr1 kd (w.alloc o) B A l:=h.keep fun p hp=>World.cell?_alloc_lt w o p (by omega)
theorem Arr2.alloc (h:Arr2 w B A m) (hB:B ≤ w.heap.size) (o:Obj):Arr2 (w.alloc o) B A m:=h.keep fun p hp=>World.cell?_alloc_lt w o p (by omega)
theorem Arr1.setCell (h:Arr1 kd w B A l) {p:Addr} (hB:B ≤ p.block) (u:Value):Arr1 kd (w.setCell p u) B A l :=
  h.keep fun q hq=>World.cell?_setCell_other w p q u (fun e=>by subst e; omega)
theorem Arr2.setCell (h:Arr2 w B A m) {p:Addr} (hB:B ≤ p.block) (u:Value):Arr2 (w.setCell p u) B A m :=
  h.keep fun q hq=>World.cell?_setCell_other w p q u (fun e=>by subst e; omega)
theorem Arr1.take (h:Arr1 kd w B A l) (n:Nat):Arr1 kd w B A (l.take n):=fun k x hx=>h k x (by
  rw [List.getElem?_take] at hx
  split at hx
  · exact hx
  · cases hx)
theorem Arr2.take (h:Arr2 w B A m) (n:Nat):Arr2 w B A (m.take n):=fun k x hx=>h k x (by
  rw [List.getElem?_take] at hx
  split at hx
  · exact hx
  · cases hx)
end
def flat2 (m:List (Int × Int)):List Value:=m.flatMap fun x=>[.int .i64 x.1,.int .i64 x.2]
theorem flat2_snoc (m:List (Int × Int)) (x:Int × Int):flat2 (m ++ [x])=flat2 m ++ [.int .i64 x.1,.int .i64 x.2]:=by simp [flat2]
theorem flat2_length (m:List (Int × Int)):(flat2 m).length=m.length * 2:=by
  induction m with
  | nil => rfl
  | cons x r ih =>
    have e:flat2 (x :: r)=[.int .i64 x.1,.int .i64 x.2] ++ flat2 r:=by simp [flat2]
    rw [e,List.length_append,ih]
    simp
    omega
theorem flat2_at (m:List (Int × Int)):∀ (k:Nat) (x:Int × Int),m[k]?=some x → (flat2 m)[k * 2]?=some (.int .i64 x.1) ∧ (flat2 m)[k * 2 + 1]?=some (.int .i64 x.2):=by
  induction m with
  | nil => intro k x h; simp at h
  | cons y r ih =>
    intro k x h
    have e:flat2 (y :: r)=.int .i64 y.1 :: .int .i64 y.2 :: flat2 r:=by simp [flat2]
    rw [e]
    cases k with
    | zero =>
      simp at h
      subst h
      simp
    | succ k =>
      have hk:=ih k x (by simpa using h)
      have e1:(k + 1) * 2=k * 2 + 1 + 1:=by omega
      rw [e1]
      simpa using hk
theorem own_cells {w:World} {base e size n c:Nat} {A:Option Addr} {xs:List Value} (h:w.ownsRow base e size (.slice A n c) n xs) (hn:0 < n) :
    ∃ g,A=some ⟨g,0,none⟩ ∧ base ≤ g ∧ g < w.heap.size ∧ ∀ j u,xs[j]?=some u → w.cell? ⟨g,0 + j,none⟩=some u:=by
  obtain ⟨hx,⟨_,h0⟩ | ⟨g,cap,cur,hv,hb,hh,hle,_,hsz,hcur⟩⟩:=h
  · omega
  · have hA:A=some ⟨g,0,none⟩:=by injection hv
    refine ⟨g,hA,hb,?_,fun j u hu=>?_⟩
    · rcases Nat.lt_or_ge g w.heap.size with hlt | hge
      · exact hlt
      · rw [Array.getElem?_eq_none hge] at hh
        cases hh
    · rw [cell_of_row w g (0 + j) cur e (0,0) hh,Nat.zero_add]
      rw [← hcur,List.getElem?_take] at hu
      split at hu
      · simpa using hu
      · cases hu
theorem own_form {w:World} {base e size n:Nat} {v:Value} {xs:List Value} (h:w.ownsRow base e size v n xs):∃ A cap,v=.slice A n cap ∧ n ≤ cap ∧ ∀ g,v.ownBlock=some g → base ≤ g:=by
  rcases h.2 with ⟨rfl,rfl⟩ | ⟨g,cap,cur,rfl,hb,_,hle,_⟩
  · exact ⟨none,0,rfl,Nat.le_refl _,fun g hg=>by cases hg⟩
  · exact ⟨_,cap,rfl,hle,fun g' hg=>by
      have e:g=g':=by injection hg
      omega⟩
theorem own_keep {w w':World} {base e size n C:Nat} {v:Value} {xs:List Value} (h:w.ownsRow base e size v n xs) (hb:Below C w w') (hC:w.heap.size ≤ C):w'.ownsRow base e size v n xs :=
  h.kept (grown_of_below hb hC none) (by cases hv:v.ownBlock <;> simp)
theorem own_lt {w:World} {base e size n g:Nat} {v:Value} {xs:List Value} (h:w.ownsRow base e size v n xs) (hg:v.ownBlock=some g):base ≤ g ∧ g < w.heap.size:=by
  rcases h.2 with ⟨rfl,rfl⟩ | ⟨g',cap,cur,rfl,hb,hh,_⟩
  · cases hg
  · have e:g'=g:=by injection hg
    subst e
    refine ⟨hb,?_⟩
    rcases Nat.lt_or_ge g' w.heap.size with hlt | hge
    · exact hlt
    · rw [Array.getElem?_eq_none hge] at hh
      cases hh
theorem own_base {w:World} {base base' e size n:Nat} {v:Value} {xs:List Value} (h:w.ownsRow base e size v n xs) (hb:base' ≤ base):w.ownsRow base' e size v n xs:=by
  obtain ⟨h1,h2⟩:=h
  refine ⟨h1,?_⟩
  rcases h2 with h0 | ⟨g,cap,cur,hv,hg,hr⟩
  · exact .inl h0
  · exact .inr ⟨g,cap,cur,hv,by omega,hr⟩
end Go.Proofs.YtlngflbamkgjlaaGreat
namespace Go.Proofs.YtlngflbamkgjlaaGreat
open Go.RowKit
set_option linter.unusedVariables false
set_option linter.unusedSimpArgs false
def look {α:Type} (i:Nat):List (Nat × Option α) → Option α
  | [] => none
  | (j, v) :: r => match Nat.beq j i with
    | true => v
    | false => look i r
theorem look_self {α:Type} (i:Nat) (v:Option α) (F:List (Nat × Option α)):look i ((i,v) :: F)=v:=by
  simp [look]
theorem look_other {α:Type} {i j:Nat} (h:j ≠ i) (v:Option α) (F:List (Nat × Option α)):look i ((j,v) :: F)=look i F:=by
  have e:Nat.beq j i=false:=by
    cases hb:Nat.beq j i with
    | false => rfl
    | true => exact absurd (Nat.eq_of_beq_eq_true hb) h
  simp [look,e]
structure NF where
  n:Nat
  ds:List Deferred
instance (k:Nat):OfNat NF k:=⟨⟨k,[]⟩⟩
instance:CoeOut NF Nat:=⟨NF.n⟩
structure Fr (n:NF) (F:List (Nat × Option Value)) (a:Act):Prop where
  sz:a.tmps.size=n.n
  df:a.defers=n.ds
  has:∀ i v,look i F=some v → a.tmps[i]?=some v
section
variable {n:NF} {F G:List (Nat × Option Value)} {a:Act}
theorem Fr.getD (h:Fr n F a) {i:Nat} {v:Value} (hi:look i F=some v):a.tmps.getD i undef=v:=by
  have:=h.has i v hi
  simp [Array.getD_eq_getD_getElem?,this]
theorem Fr.put (h:Fr n F a) {d:Nat} (hd:d < n) (v:Value):Fr n ((d,some v) :: F) (a.put (some d) v):=by
  refine ⟨by simp [Act.put,h.sz],by simp [Act.put,h.df],fun i u hu=>?_⟩
  by_cases e:d=i
  · subst e
    rw [look_self] at hu
    injection hu with hu
    subst hu
    simp [Act.put,h.sz,hd]
  · rw [look_other e] at hu
    have:=h.has i u hu
    simp only [Act.put,Array.getElem?_setIfInBounds,if_neg e]
    exact this
theorem Fr.nil (h:Fr n F a):Fr n [] a:=⟨h.sz,h.df,fun _ _ hv=>by simp [look] at hv⟩
theorem Fr.cons (h:Fr n F a) {i:Nat} {v v':Value} (hv:a.tmps[i]?=some v') (e:v'=v):Fr n ((i,some v) :: F) a:=by
  refine ⟨h.sz,h.df,fun j u hu=>?_⟩
  by_cases eq:i=j
  · subst eq
    rw [look_self] at hu
    injection hu with hu
    subst hu e
    exact hv
  · rw [look_other eq] at hu
    exact h.has j u hu
theorem Fr.c (h:Fr n G a) (h0:Fr n F a) {i:Nat} {v v':Value} (hv:look i F=some v') (e:v'=v):Fr n ((i,some v) :: G) a:=h.cons (h0.has i v' hv) e
end
def evF (F:List (Nat × Option Value)):Operand → Value
  | .tmp t => (look t F).getD undef
  | .const v => v
  | .global g => .pointer (some ⟨g, 0, none⟩)
  | .func f => .func (.func f) #[] #[]
def knows (F:List (Nat × Option Value)):Operand → Bool
  | .tmp t => (look t F).isSome
  | _ => true
def known (F:List (Nat × Option Value)) (o:Oper):Bool :=
  match o.op with
  | .select .. => false
  | _ => o.op.operands.toList.all (knows F)
theorem Fr.eval {n:NF} {F:List (Nat × Option Value)} {a:Act} (h:Fr n F a) {x:Operand} (hk:knows F x=true):a.eval x=evF F x:=by
  cases x with
  | tmp t =>
    simp only [knows,Option.isSome_iff_exists] at hk
    obtain ⟨v,hv⟩:=hk
    simp only [Act.eval,evF,h.getD hv,hv,Option.getD_some]
  | const v => rfl
  | global g => rfl
  | func f => rfl
theorem Fr.exec {n:NF} {F:List (Nat × Option Value)} {a:Act} (h:Fr n F a) {o:Oper} (hk:known F o=true):execOp a.eval o=execOp (evF F) o:=by
  have hs:∀ cs b,o.op ≠ .select cs b:=by
    intro cs b e
    simp [known,e] at hk
  refine execOp_congr o hs fun x hx=>h.eval ?_
  have hk':o.op.operands.toList.all (knows F)=true:=by
    unfold known at hk
    split at hk
    · cases hk
    · exact hk
  exact List.all_eq_true.1 hk' x (by simpa using hx)
def Yld (P:Program) (o:Oper) (a:Act) (C:World → Prop) (v:Value):Prop:=∀ w,C w → o.quietAt P a C w v
section
variable {P:Program} {n:NF} {F:List (Nat × Option Value)} {a:Act} {o:Oper} {C:World → Prop} {v v0:Value} {w:World} {ops:Array Oper} {rest:List Oper} {Q:Exit → Act → World → Prop} {d:Nat}
theorem yld_pure (hF:Fr n F a) (hk:known F o=true) (hr:∀ w,(execOp (evF F) o).run P w=.ok (.value v0) w) (hv:v0=v):Yld P o a C v:=by
  intro w _
  unfold Oper.quietAt
  rw [hF.exec hk,hr w]
  exact ⟨rfl,hv⟩
def wantF (ops:Array Oper) (F:List (Nat × Option Value)) (o:Oper):Option Bool :=
  match o.guard with
  | none => some true
  | some (j, want) => match (ops[j]?).bind (·.dst) with
    | none => none
    | some s => match look s F with
      | some (.bool b) => some (match b, want with | true, true => true | false, false => true | _, _ => false)
      | some (.tuple _) => some false
      | _ => none
theorem Fr.wanted (h:Fr n F a) {b:Bool} (hw:wantF ops F o=some b):Region.wanted o (yielded ops a.tmps)=b:=by
  unfold wantF at hw
  unfold Region.wanted
  split at hw
  · rename_i e
    injection hw with hw
    subst hw
    simp [e]
  · rename_i j want e
    simp only [e]
    split at hw
    · cases hw
    · rename_i s hs
      split at hw
      · rename_i c hc
        have hy:yielded ops a.tmps j=some c:=by simp [yielded,hs,h.has _ _ hc]
        rw [hy]
        injection hw with hw
        subst hw
        cases c <;> cases want <;> rfl
      · rename_i c hc
        have hy:yielded ops a.tmps j=none:=by simp [yielded,hs,h.has _ _ hc]
        injection hw with hw
        subst hw
        rw [hy]
        rfl
      · cases hw
def One (P:Program) (ops:Array Oper) (Q:Exit → Act → World → Prop) (o:Oper) (K:Act → World → Prop) (a:Act) (w:World):Prop :=
  if Region.wanted o (yielded ops a.tmps) then o.wp P a w K Q ∨ (o.asks P a w ∧ LetsOut Q) else K (a.put o.dst undef) w
theorem wl (h:One P ops Q o (wpList P ops Q rest) a w):wpList P ops Q (o :: rest) a w:=h
section
variable {K:Act → World → Prop}
theorem sL (hF:Fr n F a) (hC:C w) (hg:wantF ops F o=some true) (hd:o.dst=some d) (hn:d < n) (hy:Yld P o a C v)
    (k:∀ a' w',Fr n ((d,some v) :: F) a' → C w' → K a' w'):One P ops Q o K a w:=by
  unfold One
  rw [if_pos (hF.wanted hg)]
  refine .inl (Oper.wp_of_quiet (C:=C) (K:=fun a'=>∀ w',C w' → K a' w') hC (fun a w' hw' h=>h w' hw') ⟨v,hy,fun w' hw'=>?_⟩)
  rw [hd]
  exact k _ _ (hF.put hn v) hw'
theorem sP (hF:Fr n F a) (hg:wantF ops F o=some true) (hd:o.dst=some d) (hn:d < n) (hk:known F o=true) (hr:∀ w,(execOp (evF F) o).run P w=.ok (.value v0) w) (hv:v0=v)
    (k:∀ a',Fr n ((d,some v) :: F) a' → K a' w):One P ops Q o K a w :=
  sL (C:=fun w'=>w'=w) hF rfl hg hd hn (yld_pure hF hk hr hv) fun a' w' h e=>by subst e; exact k a' h
theorem sSkip (hF:Fr n F a) (hg:wantF ops F o=some false) (hd:o.dst=some d) (hn:d < n)
    (k:∀ a',Fr n ((d,some undef) :: F) a' → K a' w):One P ops Q o K a w:=by
  unfold One
  rw [if_neg (by rw [hF.wanted hg]; simp),hd]
  exact k _ (hF.put hn _)
theorem sW {w':World} (hF:Fr n F a) (hg:wantF ops F o=some true) (hd:o.dst=some d) (hn:d < n) (hk:known F o=true) (hr:(execOp (evF F) o).run P w=.ok (.value v) w')
    (k:∀ a',Fr n ((d,some v) :: F) a' → K a' w'):One P ops Q o K a w:=by
  unfold One
  rw [if_pos (hF.wanted hg)]
  refine .inl ?_
  unfold Oper.wp
  rw [hF.exec hk,hr,Oper.upon_value,hd]
  exact k _ (hF.put hn _)
theorem sW0 {w':World} (hF:Fr n F a) (hg:wantF ops F o=some true) (hd:o.dst=none) (hk:known F o=true) (hr:(execOp (evF F) o).run P w=.ok .skip w')
    (k:K a w'):One P ops Q o K a w:=by
  unfold One
  rw [if_pos (hF.wanted hg)]
  refine .inl ?_
  unfold Oper.wp
  rw [hF.exec hk,hr,Oper.upon_skip,hd]
  exact k
theorem sC {f:FuncId} {args:Array Value} (hF:Fr n F a) (hg:wantF ops F o=some true) (hd:o.dst=some d) (hn:d < n) (hk:known F o=true) (hr:∀ w,(execOp (evF F) o).run P w=.ok (.enter f args) w)
    (k:Calls P f args w fun e w'=>∃ v,e=.returned v ∧ ∀ a',Fr n ((d,some v) :: F) a' → K a' w'):One P ops Q o K a w:=by
  unfold One
  rw [if_pos (hF.wanted hg)]
  refine .inl ?_
  unfold Oper.wp
  rw [hF.exec hk,hr,Oper.upon_enter,hd]
  refine k.mono fun e w' ⟨v,he,h⟩=>?_
  subst he
  exact h _ (hF.put hn v)
end
theorem qL {R:Act → Prop} (hF:Fr n F a) (hg:wantF ops F o=some true) (hd:o.dst=some d) (hn:d < n) (hy:Yld P o a C v)
    (k:∀ a',Fr n ((d,some v) :: F) a' → wpQuiet P ops C R rest a'):wpQuiet P ops C R (o :: rest) a:=by
  unfold wpQuiet
  rw [if_pos (hF.wanted hg)]
  refine ⟨v,hy,?_⟩
  rw [hd]
  exact k _ (hF.put hn v)
theorem qP {R:Act → Prop} (hF:Fr n F a) (hg:wantF ops F o=some true) (hd:o.dst=some d) (hn:d < n) (hk:known F o=true) (hr:∀ w,(execOp (evF F) o).run P w=.ok (.value v0) w) (hv:v0=v)
    (k:∀ a',Fr n ((d,some v) :: F) a' → wpQuiet P ops C R rest a'):wpQuiet P ops C R (o :: rest) a :=
  qL hF hg hd hn (yld_pure hF hk hr hv) k
theorem qSkip {R:Act → Prop} (hF:Fr n F a) (hg:wantF ops F o=some false) (hd:o.dst=some d) (hn:d < n)
    (k:∀ a',Fr n ((d,some undef) :: F) a' → wpQuiet P ops C R rest a'):wpQuiet P ops C R (o :: rest) a:=by
  unfold wpQuiet
  rw [if_neg (by rw [hF.wanted hg]; simp),hd]
  exact k _ (hF.put hn _)
theorem cT {c:Operand} {x y:Code} (hF:Fr n F a) (hk:knows F c=true) (hc:evF F c=.bool true) (h:x.wp P Q a w):(Code.cond c x y).wp P Q a w:=wp_cond_true ((hF.eval hk).trans hc) h
theorem cF {c:Operand} {x y:Code} (hF:Fr n F a) (hk:knows F c=true) (hc:evF F c=.bool false) (h:y.wp P Q a w):(Code.cond c x y).wp P Q a w:=wp_cond_false ((hF.eval hk).trans hc) h
end
inductive Ent where
  | row (b : Nat) (t : TypeId) (cs : Array Value)
  | ro (A : Option Addr) (xs : List Value)
  | own (v : Value) (e size n : Nat) (xs : List Value)
  | obj (b : Nat) (o : Obj)
  | sep (S : Nat → Prop) (φ : World → Prop)
def Ent.blk:Ent → Option Nat
  | .row b _ _ => some b
  | .obj b _ => some b
  | .ro _ [] => none
  | .ro A (_ :: _) => A.map (·.block)
  | .own v _ _ _ _ => v.ownBlock
  | .sep .. => none
def Ent.sepS:Ent → Nat → Prop
  | .sep S _ => S
  | _ => fun _ => False
def Ent.has (e:Ent) (b:Nat):Prop:=e.blk=some b ∨ e.sepS b
def Ent.wr:Ent → Bool
  | .ro .. => false
  | .sep .. => false
  | _ => true
def Ro (w:World) (A:Option Addr) (xs:List Value):Prop:=∀ j u,xs[j]?=some u → ∃ b off,A=some ⟨b,off,none⟩ ∧ w.cell? ⟨b,off + j,none⟩=some u
def Ent.ok (w:World) (B:Nat):Ent → Prop
  | .row b t cs => Blk w b t cs ∧ B ≤ b
  | .ro A xs => Ro w A xs
  | .own v e size n xs => w.ownsRow B e size v n xs
  | .obj b o => w.heap[b]? = some o ∧ B ≤ b
  | .sep S φ => φ w ∧ (∀ b, S b → b < w.heap.size) ∧ ∀ w1 w2 : World, (∀ b, S b → w2.heap[b]? = w1.heap[b]?) → φ w1 → φ w2
def Ent.apart (x y:Ent):Prop:=(x.wr=true ∨ y.wr=true) → ∀ b,x.has b → ¬ y.has b
structure Mem (B:Nat) (w0:World) (L:List (Nat × Option Ent)) (w:World):Prop where
  bel:Below B w0 w
  lo:B ≤ w.heap.size
  ok:∀ k e,look k L=some e → e.ok w B
  ap:∀ k j x y,k ≠ j → look k L=some x → look j L=some y → x.apart y
theorem cell_lt {w:World} {p:Addr} {v:Value} (h:w.cell? p=some v):p.block < w.heap.size:=by
  rcases Nat.lt_or_ge p.block w.heap.size with hlt | hge
  · exact hlt
  · unfold World.cell? at h
    rw [Array.getElem?_eq_none hge] at h
    cases h
theorem Ro.keep {w w':World} {A:Option Addr} {xs:List Value} (h:Ro w A xs) (hk:∀ b off v,A.map (·.block)=some b → w.cell? ⟨b,off,none⟩=some v → w'.cell? ⟨b,off,none⟩=some v):Ro w' A xs:=fun j u hu=>by
  obtain ⟨b,off,e,hc⟩:=h j u hu
  exact ⟨b,off,e,hk b (off + j) u (by rw [e]; rfl) hc⟩
theorem Ro.below {w w':World} {A:Option Addr} {xs:List Value} (h:Ro w A xs) (hb:Below w.heap.size w w'):Ro w' A xs :=
  h.keep fun b off v _ hc=>(hb.cell (p:=⟨b,off,none⟩) (cell_lt hc)).trans hc
theorem Ro.nil {w:World} {A:Option Addr}:Ro w A []:=fun j u h=>by simp at h
theorem Ent.blk_lt {w:World} {B:Nat} {e:Ent} (h:e.ok w B) {b:Nat} (hb:e.blk=some b):b < w.heap.size:=by
  cases e with
  | row b' t cs =>
    simp only [Ent.blk,Option.some.injEq] at hb
    subst hb
    exact h.1.lt
  | ro A xs =>
    cases xs with
    | nil => cases hb
    | cons x r =>
      obtain ⟨b',off,e,hc⟩:=h 0 x rfl
      subst e
      simp only [Ent.blk,Option.map_some,Option.some.injEq] at hb
      subst hb
      exact cell_lt hc
  | own v e size n xs => exact (own_lt h hb).2
  | obj b' o =>
    simp only [Ent.blk,Option.some.injEq] at hb
    subst hb
    exact (Array.getElem?_eq_some_iff.1 h.1).1
  | sep S φ => cases hb
theorem Ent.has_lt {w:World} {B:Nat} {e:Ent} (h:e.ok w B) {b:Nat} (hb:e.has b):b < w.heap.size:=by
  rcases hb with hb | hb
  · exact Ent.blk_lt h hb
  · cases e with
    | sep S φ => exact h.2.1 b hb
    | row => cases hb
    | ro => cases hb
    | own => cases hb
    | obj => cases hb
theorem Ent.has_wr {e:Ent} (hw:e.wr=true) {b:Nat} (hb:e.has b):e.blk=some b:=by
  rcases hb with hb | hb
  · exact hb
  · cases e with
    | sep S φ => cases hw
    | row => cases hb
    | ro => cases hb
    | own => cases hb
    | obj => cases hb
theorem Ent.wr_ge {w:World} {B:Nat} {e:Ent} (h:e.ok w B) (hw:e.wr=true) {b:Nat} (hb:e.blk=some b):B ≤ b:=by
  cases e with
  | row b' t cs =>
    simp only [Ent.blk,Option.some.injEq] at hb
    subst hb
    exact h.2
  | ro A xs => cases hw
  | own v e size n xs => exact (own_lt h hb).1
  | obj b' o =>
    simp only [Ent.blk,Option.some.injEq] at hb
    subst hb
    exact h.2
  | sep S φ => cases hw
theorem Ent.below {w w':World} {B:Nat} {e:Ent} (h:e.ok w B) (hb:Below w.heap.size w w'):e.ok w' B:=by
  cases e with
  | row b t cs => exact ⟨h.1.below hb h.1.lt, h.2⟩
  | ro A xs => exact Ro.below h hb
  | own v e size n xs => exact own_keep h hb (Nat.le_refl _)
  | obj b o => exact ⟨(hb.block b (Array.getElem?_eq_some_iff.1 h.1).1).trans h.1, h.2⟩
  | sep S φ => exact ⟨h.2.2 w w' (fun b hs => hb.block b (h.2.1 b hs)) h.1, fun b hs => Nat.lt_of_lt_of_le (h.2.1 b hs) hb.size, h.2.2⟩
section
variable {B:Nat} {w0 w w':World} {L L':List (Nat × Option Ent)}
theorem Ent.apart.symm {x y:Ent} (h:x.apart y):y.apart x:=fun hw b hy hx=>h hw.symm b hx hy
theorem Mem.start (w:World):Mem w.heap.size w [] w:=⟨Below.refl _ _,Nat.le_refl _,(fun _ _ h=>by cases h),(fun _ _ _ _ _ h=>by cases h)⟩
def Sub (L' L:List (Nat × Option Ent)):Prop:=∀ k e,look k L'=some e → look k L=some e
theorem Sub.nil:Sub [] L:=fun _ _ h=>by cases h
theorem Sub.c (h:Sub L' L) {k:Nat} {e e':Ent} (hk:look k L=some e') (he:e'=e):Sub ((k,some e) :: L') L:=fun j x hx=>by
  by_cases eq:k=j
  · subst eq
    rw [look_self] at hx
    injection hx with hx
    subst hx he
    exact hk
  · rw [look_other eq] at hx
    exact h j x hx
theorem Mem.sub (h:Mem B w0 L w) (hs:Sub L' L):Mem B w0 L' w:=⟨h.bel,h.lo,fun k e he=>h.ok k e (hs k e he),fun k j x y hne hx hy=>h.ap k j x y hne (hs k x hx) (hs j y hy)⟩
theorem Mem.below (h:Mem B w0 L w) (hb:Below w.heap.size w w'):Mem B w0 L w' :=
  ⟨h.bel.trans (hb.mono h.lo),Nat.le_trans h.lo hb.size,fun k e he=>Ent.below (h.ok k e he) hb,h.ap⟩
theorem Mem.drew (h:Mem B w0 L w):Mem B w0 L { w with drawn:=w.drawn + 1 }:=h.below ⟨rfl,rfl,rfl,Nat.le_refl _,fun _ _=>rfl⟩
theorem Mem.add (h:Mem B w0 L w) (k:Nat) {e:Ent} (he:e.ok w B) (hf:∀ j x,k ≠ j → look j L=some x → e.apart x):Mem B w0 ((k,some e) :: L) w:=by
  refine ⟨h.bel,h.lo,fun j x hx=>?_,fun j1 j2 x y hne hx hy=>?_⟩
  · by_cases eq:k=j
    · subst eq
      rw [look_self] at hx
      injection hx with hx
      subst hx
      exact he
    · rw [look_other eq] at hx
      exact h.ok j x hx
  · by_cases e1:k=j1
    · subst e1
      rw [look_self] at hx
      injection hx with hx
      subst hx
      rw [look_other hne] at hy
      exact hf j2 y hne hy
    · rw [look_other e1] at hx
      by_cases e2:k=j2
      · subst e2
        rw [look_self] at hy
        injection hy with hy
        subst hy
        exact (hf j1 x e1 hx).symm
      · rw [look_other e2] at hy
        exact h.ap j1 j2 x y hne hx hy
theorem Mem.fresh (h:Mem B w0 L w) (hb:Below w.heap.size w w') (k:Nat) {e:Ent} (he:e.ok w' B) (hn:∀ b,e.blk=some b → w.heap.size ≤ b) (hns:∀ b,e.sepS b → w.heap.size ≤ b:=by intro _ h; cases h):Mem B w0 ((k,some e) :: L) w' :=
  (h.below hb).add k he fun j x _ hx _ b h1 h2=>by
    have:=Ent.has_lt (h.ok j x hx) h2
    rcases h1 with h1 | h1
    · have:=hn b h1
      omega
    · have:=hns b h1
      omega
theorem Mem.alloc (h:Mem B w0 L w) (k:Nat) (t:TypeId) (cs:Array Value):Mem B w0 ((k,some (.row w.heap.size t cs)) :: L) (w.alloc (.cells cs t)) :=
  h.fresh ((Below.refl _ _).alloc (Nat.le_refl _) _) k ⟨Blk.new w t cs,h.lo⟩ fun b hb=>by
    injection hb with hb
    omega
theorem Mem.addOld (h:Mem B w0 L w) (k:Nat) {A:Option Addr} {xs:List Value} (hr:Ro w0 A xs) (hB:w0.heap.size ≤ B):Mem B w0 ((k,some (.ro A xs)) :: L) w:=by
  have hlt:∀ b,(Ent.ro A xs).blk=some b → b < B:=fun b hb=>by
    have:=Ent.blk_lt (w:=w0) (B:=B) (e:=.ro A xs) hr hb
    omega
  refine h.add k (hr.keep fun b off v hb hc=>?_) fun j e _ he hw b hb heb=>?_
  · exact (h.bel.cell (p:=⟨b,off,none⟩) (Nat.lt_of_lt_of_le (cell_lt hc) hB)).trans hc
  · rcases hb with hb | hb
    · have:=hlt b hb
      rcases hw with hw | hw
      · cases hw
      · have:=Ent.wr_ge (h.ok j e he) hw (Ent.has_wr hw heb)
        omega
    · cases hb
theorem Ent.grown {e:Ent} {row:Option Nat} (h:e.ok w B) (hg:w.grownBy w' row) (hne':∀ b,e.has b → row ≠ some b):e.ok w' B:=by
  have hne:∀ b,e.blk=some b → row ≠ some b:=fun b hb=>hne' b (.inl hb)
  cases e with
  | row b t cs => exact ⟨h.1.grown hg (fun e => hne b rfl e.symm), h.2⟩
  | ro A xs =>
    intro j u hu
    obtain ⟨b,off,e,hc⟩:=h j u hu
    refine ⟨b,off,e,?_⟩
    have hb:(Ent.ro A xs).blk=some b:=by
      cases xs with
      | nil => simp at hu
      | cons x r => simp [Ent.blk, e]
    exact (World.cell?_of_block (a:=⟨b,off + j,none⟩) (hg.block b (cell_lt hc) (fun e=>hne b hb e.symm))).trans hc
  | own v e size n xs =>
    refine World.ownsRow.kept h hg ?_
    cases hv:v.ownBlock with
    | none => exact .inl rfl
    | some b => exact .inr fun e => hne b hv e.symm
  | obj b o => exact ⟨(hg.block b (Array.getElem?_eq_some_iff.1 h.1).1 (fun e => hne b rfl e.symm)).trans h.1, h.2⟩
  | sep S φ => exact ⟨h.2.2 w w' (fun b hs => hg.block b (h.2.1 b hs) (fun e => hne' b (.inr hs) e.symm)) h.1, fun b hs => Nat.lt_of_lt_of_le (h.2.1 b hs) hg.size, h.2.2⟩
theorem Mem.turn {k:Nat} {e e':Ent} (h:Mem B w0 L w) (hi:look k L=some e) (hw:e.wr=true) (hg:w.grownBy w' e.blk) (hok:e'.ok w' B)
    (hb:∀ b,e'.blk=some b → e.blk=some b ∨ w.heap.size ≤ b) (hs':∀ b,¬ e'.sepS b:=by intro _ h; cases h):Mem B w0 ((k,some e') :: L) w':=by
  have hwr:∀ b,e.blk=some b → B ≤ b:=fun b hb=>Ent.wr_ge (h.ok k e hi) hw hb
  refine ⟨h.bel.grown hg h.lo hwr,Nat.le_trans h.lo hg.size,fun j x hx=>?_,fun j1 j2 x y hne hx hy=>?_⟩
  · by_cases eq:k=j
    · subst eq
      rw [look_self] at hx
      injection hx with hx
      subst hx
      exact hok
    · rw [look_other eq] at hx
      exact Ent.grown (h.ok j x hx) hg fun b hb' he=>h.ap k j e x eq hi hx (.inl hw) b (.inl he) hb'
  · have hap:∀ j x,k ≠ j → look j L=some x → e'.apart x:=fun j x hne hx _ b h1 h2=>by
      rcases h1 with h1 | h1
      · rcases hb b h1 with h3 | h3
        · exact h.ap k j e x hne hi hx (.inl hw) b (.inl h3) h2
        · have:=Ent.has_lt (h.ok j x hx) h2
          omega
      · exact absurd h1 (hs' b)
    by_cases e1:k=j1
    · subst e1
      rw [look_self] at hx
      injection hx with hx
      subst hx
      rw [look_other hne] at hy
      exact hap j2 y hne hy
    · rw [look_other e1] at hx
      by_cases e2:k=j2
      · subst e2
        rw [look_self] at hy
        injection hy with hy
        subst hy
        exact (hap j1 x e1 hx).symm
      · rw [look_other e2] at hy
        exact h.ap j1 j2 x y hne hx hy
end
def aggD:TypeDesc → Bool
  | .struct _ => true
  | .array _ _ => true
  | _ => false
def aggSize (P:Program) (ty:TypeId):Option (Option Nat) :=
  match P.underlying ty with
  | some (.struct _) | some (.array _ _) => (P.info? ty).map fun i => some i.size
  | some _ => some none
  | none => none
def rdRow (P:Program) (ty:TypeId) (cs:List Value) (off:Nat):Option Value :=
  match aggSize P ty with
  | some (some m) => match Nat.ble (off + m) cs.length with
    | true => some (.agg ((cs.drop off).take m).toArray)
    | false => none
  | some none => (cs.drop off).head?
  | none => none
def wrRow (P:Program) (ty:TypeId) (cs:Array Value) (off:Nat) (v:Value):Option (Array Value) :=
  match (P.info? ty).map (·.size) with
  | some m => match Nat.beq v.cells.size m && Nat.ble (off + m) cs.size && v.cells.toList.all Value.oneCell' with
    | true => some (cs.toList.take off ++ v.cells.toList ++ cs.toList.drop (off + v.cells.toList.length)).toArray
    | false => none
  | none => none
theorem add_at (b off i:Nat):(⟨b,off,none⟩:Addr).add i=⟨b,off + i,none⟩:=by
  unfold Addr.add
  split
  · simp_all
  · simp
theorem aggSize_some {P:Program} {ty:TypeId} {m:Nat} (h:aggSize P ty=some (some m)):∃ d i,P.underlying ty=some d ∧ aggD d=true ∧ P.info? ty=some i ∧ i.size=m:=by
  unfold aggSize at h
  split at h
  · rename_i s e
    cases hi:P.info? ty with
    | none => simp [hi] at h
    | some i => exact ⟨_, i, e, rfl, rfl, by simpa [hi] using h⟩
  · rename_i s x e
    cases hi:P.info? ty with
    | none => simp [hi] at h
    | some i => exact ⟨_, i, e, rfl, rfl, by simpa [hi] using h⟩
  · cases h
  · cases h
theorem aggSize_none {P:Program} {ty:TypeId} (h:aggSize P ty=some none):∃ d,P.underlying ty=some d ∧ aggD d=false:=by
  unfold aggSize at h
  split at h
  · cases hi:P.info? ty <;> simp [hi] at h
  · cases hi:P.info? ty <;> simp [hi] at h
  · rename_i d h1 h2 e
    refine ⟨d,e,?_⟩
    cases d <;> simp_all [aggD]
  · cases h
theorem isAgg_true {P:Program} {w:World} {ty:TypeId} {d:TypeDesc} (hd:P.underlying ty=some d) (hagg:aggD d=true):(isAgg ty).run P w=.ok true w:=by
  unfold isAgg
  rw [Sem.run_bind,run_underlying hd w]
  cases d <;> simp_all [aggD]
theorem isAgg_false {P:Program} {w:World} {ty:TypeId} {d:TypeDesc} (hd:P.underlying ty=some d) (hagg:aggD d=false):(isAgg ty).run P w=.ok false w:=by
  unfold isAgg
  rw [Sem.run_bind,run_underlying hd w]
  cases d <;> simp_all [aggD]
theorem run_loadVar {P:Program} {w:World} {b off:Nat} {ty:TypeId} {cs:List Value} {v:Value} (hv:rdRow P ty cs off=some v) (hc:∀ j u,cs[j]?=some u → w.cell? ⟨b,j,none⟩=some u) :
    (loadVar ty ⟨b,off,none⟩).run P w=.ok v w:=by
  unfold rdRow at hv
  split at hv
  · rename_i m hm
    obtain ⟨d,i,hd,hagg,hi,hs⟩:=aggSize_some hm
    split at hv
    · rename_i hle
      injection hv with hv
      subst hv
      have hle':=Nat.le_of_ble_eq_true hle
      have hlen:((cs.drop off).take m).length=m:=by simp; omega
      have hl:=run_loadCells_list (P:=P) (w:=w) ⟨b,off,none⟩ ((cs.drop off).take m) fun j u hu=>by
        rw [add_at]
        rw [List.getElem?_take] at hu
        split at hu
        · exact hc _ _ (by simpa using hu)
        · cases hu
      rw [hlen] at hl
      have hag:(isAgg ty).run P w=.ok true w:=by
        unfold isAgg
        rw [Sem.run_bind,run_underlying hd w]
        cases d <;> simp_all [aggD]
      simp [loadVar,Sem.run_bind,hag,sizeOf,typeInfo,hi,hs,hl]
    · cases hv
  · rename_i hm
    obtain ⟨d,hd,hagg⟩:=aggSize_none hm
    have hag:(isAgg ty).run P w=.ok false w:=by
      unfold isAgg
      rw [Sem.run_bind,run_underlying hd w]
      cases d <;> simp_all [aggD]
    have hcell:=hc off v (by simpa using hv)
    simp [loadVar,Sem.run_bind,hag,load,Sem.run,hcell]
  · cases hv
section
variable {P:Program} {n:NF} {F:List (Nat × Option Value)} {a:Act} {o:Oper} {v:Value} {w w0:World} {ops:Array Oper} {rest:List Oper} {Q:Exit → Act → World → Prop} {B:Nat} {L:List (Nat × Option Ent)} {i:Nat} {K:Act → World → Prop}
theorem yld_row {ty t:TypeId} {x:Operand} {b off:Nat} {cs:Array Value} (hF:Fr n F a) (ho:o.op=.load ty x) (hk:known F o=true) (hx:evF F x=.pointer (some ⟨b,off,none⟩)) (hi:look i L=some (.row b t cs)) (hv:rdRow P ty cs.toList off=some v) :
    Yld P o a (Mem B w0 L) v:=by
  intro w hM
  unfold Oper.quietAt
  rw [hF.exec hk]
  have hr:(loadVar ty ⟨b,off,none⟩).run P w=.ok v w:=run_loadVar hv fun j u hu=>by
    rw [(hM.ok _ _ hi).1.cell j]
    simpa using hu
  simp only [execOp,ho,hx,Instr.loadAt,Instr.sureAddr,Sem.run_bind,Sem.run_pure,Result.andThen_ok,hr]
  exact ⟨rfl,rfl⟩
theorem sStore {ty t:TypeId} {x y:Operand} {b off:Nat} {cs cs':Array Value} (hF:Fr n F a) (hM:Mem B w0 L w) (hg:wantF ops F o=some true) (hd:o.dst=none) (ho:o.op=.store ty x y) (hk:known F o=true) (hx:evF F x=.pointer (some ⟨b,off,none⟩)) (hi:look i L=some (.row b t cs))
    (hv:wrRow P ty cs off (evF F y)=some cs')
    (k:∀ w',Mem B w0 ((i,some (.row b t cs')) :: L) w' → K a w'):One P ops Q o K a w:=by
  unfold wrRow at hv
  split at hv
  · rename_i m hm
    split at hv
    · rename_i hc
      injection hv with hv
      simp only [Bool.and_eq_true] at hc
      obtain ⟨⟨hs,hle⟩,hone⟩:=hc
      have hs':=Nat.eq_of_beq_eq_true hs
      have hle':=Nat.le_of_ble_eq_true hle
      have hrow:=(hM.ok _ _ hi).1
      have hst:=run_storeCells_at (P:=P) b off t (evF F y).cells.toList 0 cs w hrow (by simp; omega) (List.all_eq_true.1 hone)
      rw [Nat.add_zero] at hst
      rw [hv] at hst
      refine sW0 hF hg hd hk (w':=w.setRow b cs') ?_ (k _ ?_)
      · cases hq:P.info? ty with
        | none => simp [hq] at hm
        | some q =>
          have hsz:(evF F y).cells.size=q.size:=by simp [hq] at hm; omega
          simp [execOp,ho,hx,Instr.storeAt,Instr.sureAddr,storeVar,sizeOf,typeInfo,hq,hsz,hst]
      · refine hM.turn hi rfl ⟨rfl,rfl,rfl,by simp [World.setRow],fun g _ hne=>?_⟩ ⟨setRow_heap w b cs cs' t _ hrow,(hM.ok _ _ hi).2⟩ fun _ hb=>.inl hb
        simp only [World.setRow,Array.getElem?_modify]
        rw [if_neg (fun e=>hne (by rw [e]; rfl))]
    · cases hv
  · cases hv
theorem sNew {d t:Nat} (k:Nat) {f:Nat → Value} {cs:Array Value} (hF:Fr n F a) (hM:Mem B w0 L w) (hg:wantF ops F o=some true) (hd:o.dst=some d) (hn:d < n) (hk:known F o=true)
    (hr:∀ w,(execOp (evF F) o).run P w=.ok (.value (f w.heap.size)) (w.alloc (.cells cs t)))
    (kk:∀ b a' w',Fr n ((d,some (f b)) :: F) a' → Mem B w0 ((k,some (.row b t cs)) :: L) w' → K a' w'):One P ops Q o K a w :=
  sW hF hg hd hn hk (hr w) fun a' h=>kk _ a' _ h (hM.alloc k t cs)
theorem yld_call {f:FuncId} {args:Array Value} (hF:Fr n F a) (hk:known F o=true) (hr:∀ w,(execOp (evF F) o).run P w=.ok (.enter f args) w)
    (hc:∀ w,Mem B w0 L w → Calls P f args w (Ret w v)):Yld P o a (Mem B w0 L) v:=by
  intro w hM
  unfold Oper.quietAt
  rw [hF.exec hk,hr w]
  exact ⟨rfl,(hc w hM).mono fun e w' ⟨he,hb⟩=>⟨he,hM.below hb⟩⟩
theorem sM {d:Nat} (hF:Fr n F a) (hM:Mem B w0 L w) (hg:wantF ops F o=some true) (hd:o.dst=some d) (hn:d < n) (hy:Yld P o a (Mem B w0 L) v)
    (k:∀ a' w',Fr n ((d,some v) :: F) a' → Mem B w0 L w' → K a' w'):One P ops Q o K a w:=sL (C:=Mem B w0 L) hF hM hg hd hn hy k
theorem rQ {id:Nat} {l:List Oper} (hM:Mem B w0 L w) (hm:P.follows .mixedOrders=true) (hB:Region.lexB .any l.toArray=true)
    (h:wpQuiet P l.toArray (Mem B w0 L) (fun a'=>∀ w',Mem B w0 L w' → Q .normal a' w') l a):(Code.region id l.toArray true).wp P Q a w :=
  wp_region_quiet (C:=Mem B w0 L) hm hB hM.drew (by simpa using h)
theorem least_of {p:Nat → Prop}:∀ k,p k → ∃ m,p m ∧ ∀ j,p j → m ≤ j:=fun k=>by
  induction k using Nat.strongRecOn with
  | _ k ih =>
    intro hk
    by_cases h:∃ j,j < k ∧ p j
    · obtain ⟨j,hj,hp⟩:=h
      exact ih j hj hp
    · exact ⟨k,hk,fun j hp=>Nat.le_of_not_lt fun hlt=>h ⟨j,hlt,hp⟩⟩
open Classical in
theorem wp_loop_g {G:Type} {c:Code} (I:G → Act → World → Prop) (μ:G → Nat) (g0:G) (h0:I g0 a w)
    (round:∀ g a w,I g a w → c.wp P (Exit.then (fun a' w'=>∃ g',I g' a' w' ∧ μ g' < μ g) Q) a w):(Code.loop c).wp P Q a w:=by
  have hex:∀ a w,(∃ g,I g a w) → ∃ m,(∃ g,I g a w ∧ μ g=m) ∧ ∀ j,(∃ g,I g a w ∧ μ g=j) → m ≤ j:=fun a w ⟨g,hg⟩=>least_of (μ g) ⟨g,hg,rfl⟩
  refine wp_loop (fun a w=>∃ g,I g a w) (fun a w=>if h:∃ g,I g a w then (hex a w h).choose else 0) ⟨g0,h0⟩ fun a w hI=>?_
  have hs:=(hex a w hI).choose_spec
  obtain ⟨⟨g,hg,hm⟩,_⟩:=hs
  refine wp_mono (round g a w hg) fun e a' w' hq=>?_
  cases e with
  | normal =>
    obtain ⟨g',hg',hlt⟩:=hq
    refine ⟨⟨g',hg'⟩,?_⟩
    have hI':∃ g,I g a' w':=⟨g',hg'⟩
    have hle:=(hex a' w' hI').choose_spec.2 _ ⟨g',hg',rfl⟩
    simp only [dif_pos hI,dif_pos hI']
    omega
  | exit id => exact hq
  | goto l => exact hq
  | ret => exact hq
  | panic ch => exact hq
  | outgrown => exact hq
theorem wp_loop_k {G:Type} {c:Code} (I:G → Act → World → Prop) (μ:G → Nat) (g0:G) (h0:I g0 a w)
    (round:∀ g a w,I g a w → ∀ K:Act → World → Prop,(∀ a' w',(∃ g',I g' a' w' ∧ μ g' < μ g) → K a' w') → c.wp P (Exit.then K Q) a w):(Code.loop c).wp P Q a w :=
  wp_loop_g I μ g0 h0 fun g a w hI=>round g a w hI _ fun _ _ h=>h
end
def edge (l:List Oper) (j k:Nat):Bool:=match l[j]? with
  | some o => o.after.toList.any fun e => Region.binds .any e && Nat.beq e.on k
  | none => false
def fwdB (l:List Oper):Bool:=l.zipIdx.all fun (o,i)=>o.after.toList.all fun e=>!Region.binds .any e || Nat.blt e.on i
def Closed (l:List Oper) (S:List Bool):Prop:=∀ j k,edge l j k=true → S.getD j false=true → S.getD k false=true
theorem Closed.f {l:List Oper} {S:List Bool} (h:Closed l S) (j k:Nat) (he:edge l j k=true) (hk:S.getD k false=false):S.getD j false=false:=by
  cases hj:S.getD j false with
  | false => rfl
  | true => rw [h j k he hj] at hk; cases hk
def allB:Nat → (List Bool → Prop) → Prop
  | 0, p => p []
  | n + 1, p => ∀ b, allB n fun l => p (b :: l)
theorem allB_all:∀ (n:Nat) (p:List Bool → Prop),allB n p → ∀ S,S.length=n → p S
  | 0, p, h, S, hS => by
    obtain rfl:=List.length_eq_zero_iff.1 hS
    exact h
  | n + 1, p, h, [], hS => by simp at hS
  | n + 1, p, h, b :: S, hS => allB_all n _ (h b) S (by simpa using hS)
def StepAt (P:Program) (l:List Oper) (Q:Exit → Act → World → Prop) (St:List Bool → Act → World → Prop) (i:Nat) (o:Oper):Prop :=
  allB l.length fun S=>Closed l S → S.getD i false=false → (∀ j,edge l i j=true → S.getD j false=true) → ∀ a w,St S a w → One P l.toArray Q o (St (S.set i true)) a w
def StepsFrom (P:Program) (l:List Oper) (Q:Exit → Act → World → Prop) (St:List Bool → Act → World → Prop):Nat → List Oper → Prop
  | _, [] => True
  | i, o :: r => StepAt P l Q St i o ∧ StepsFrom P l Q St (i + 1) r
section
variable {P:Program} {a:Act} {w:World} {Q:Exit → Act → World → Prop} {l:List Oper} {St:List Bool → Act → World → Prop}
theorem StepsFrom.at_:∀ (r:List Oper) (k:Nat),StepsFrom P l Q St k r → ∀ i o,r[i]?=some o → StepAt P l Q St (k + i) o
  | [], _, _, i, o, h => by simp at h
  | x :: r, k, hs, 0, o, h => by
    simp at h
    subst h
    exact hs.1
  | x :: r, k, hs, i + 1, o, h => by
    have:=StepsFrom.at_ r (k + 1) hs.2 i o (by simpa using h)
    rwa [show k + (i + 1)=k + 1 + i by omega]
theorem stC {i:Nat} {o:Oper} {r:List Oper} (h:StepAt P l Q St i o) (k:StepsFrom P l Q St (i + 1) r):StepsFrom P l Q St i (o :: r):=⟨h,k⟩
theorem edge_iff {j k:Nat} {o:Oper} (hj:l[j]?=some o):edge l j k=true ↔ ∃ e ∈ o.after,Region.binds .any e=true ∧ e.on=k:=by
  simp only [edge,hj,List.any_eq_true,Bool.and_eq_true]
  constructor
  · rintro ⟨e,he,hb,hk⟩
    exact ⟨e,by simpa using he,hb,Nat.eq_of_beq_eq_true hk⟩
  · rintro ⟨e,he,hb,hk⟩
    exact ⟨e,by simpa using he,hb,by simp [hk]⟩
theorem rF {id:Nat} (hm:P.follows .mixedOrders=true) (hB:fwdB l=true) (St:List Bool → Act → World → Prop) (h0:St (List.replicate l.length false) a { w with drawn:=w.drawn + 1 })
    (steps:StepsFrom P l Q St 0 l) (fin:∀ a w,St (List.replicate l.length true) a w → Q .normal a w):(Code.region id l.toArray true).wp P Q a w:=by
  refine wp_region_any hm ?_
  have hfwd:∀ i o,l[i]?=some o → ∀ e ∈ o.after,Region.binds .any e=true → e.on < i:=fun i o ho e he hb=>by
    have h1:=List.all_eq_true.1 hB (o,i) (by rw [List.mem_iff_getElem?]; exact ⟨i,by simp [ho]⟩)
    have h2:=List.all_eq_true.1 h1 e (by simpa using he)
    simp only [hb,Bool.not_true,Bool.false_or] at h2
    exact Nat.le_of_ble_eq_true h2
  -- an operation that has not been carried out: the first such is ready
  have hready:∀ listed:Array Bool,listed.size=l.length → (∃ i,i < l.length ∧ listed.toList.getD i false=false) → Region.ready .any l.toArray listed ≠ []:=fun listed hsz ⟨i,hi,hu⟩ hnil=>by
    obtain ⟨m,⟨hm1,hm2⟩,hmin⟩:=least_of (p:=fun i=>i < l.length ∧ listed.toList.getD i false=false) i ⟨hi,hu⟩
    obtain ⟨o,ho⟩:∃ o,l[m]?=some o:=⟨l[m],List.getElem?_eq_getElem hm1⟩
    have:m ∈ Region.ready .any l.toArray listed:=by
      refine mem_ready.2 ⟨?_,o,by simpa using ho,fun e he hb=>?_⟩
      · have hlt:m < listed.size:=by omega
        simp [hlt] at hm2 ⊢
        exact hm2
      · have hlt:=hfwd m o ho e he hb
        cases hc:listed.getD e.on false with
        | true => rfl
        | false =>
          have:=hmin e.on ⟨by omega,by simpa using hc⟩
          omega
    rw [hnil] at this
    cases this
  have key:∀ (fuel:Nat) (listed:Array Bool) (a:Act) (w:World),listed.size=l.length → listed.toList.count false=fuel → Closed l listed.toList → St listed.toList a w →
      wpAny P .any l.toArray Q fuel listed a w:=by
    have hall:∀ listed:Array Bool,listed.size=l.length → Region.ready .any l.toArray listed=[] → listed.toList=List.replicate l.length true:=fun listed hsz hnil=>by
      refine List.eq_replicate_iff.2 ⟨by simpa using hsz,fun b hb=>?_⟩
      obtain ⟨i,hi⟩:=List.getElem?_of_mem hb
      cases b with
      | true => rfl
      | false =>
        refine absurd hnil (hready listed hsz ⟨i,?_,by simp [List.getD,hi]⟩)
        have:=(List.getElem?_eq_some_iff.1 hi).1
        simpa [hsz] using this
    intro fuel
    induction fuel with
    | zero =>
      intro listed a w hsz hcnt _ hst
      have hrep:listed.toList=List.replicate l.length true:=by
        refine List.eq_replicate_iff.2 ⟨by simpa using hsz,fun b hb=>?_⟩
        cases b with
        | true => rfl
        | false =>
          have:=List.count_pos_iff.2 hb
          omega
      refine ⟨?_,fin a w (hrep ▸ hst)⟩
      rcases hr:Region.ready .any l.toArray listed with _ | ⟨i,r⟩
      · rfl
      · exfalso
        have hi:i ∈ Region.ready .any l.toArray listed:=by rw [hr]; simp
        obtain ⟨hun,o,ho,_⟩:=mem_ready.1 hi
        have hlt:i < l.length:=by
          have:=(Array.getElem?_eq_some_iff.1 ho).1
          simpa using this
        have:listed.toList.getD i false=true:=by rw [hrep]; simp [hlt]
        have hlt':i < listed.size:=by omega
        simp [hlt'] at this hun
        rw [this] at hun
        cases hun
    | succ fuel ih =>
      intro listed a w hsz hcnt hcl hst
      refine ⟨fun hnil=>fin a w (hall listed hsz hnil ▸ hst),fun i hi=>?_⟩
      obtain ⟨hun,o,ho,hpre⟩:=mem_ready.1 hi
      have ho':l[i]?=some o:=by simpa using ho
      have hlt:i < l.length:=(List.getElem?_eq_some_iff.1 ho').1
      have hun':listed.toList.getD i false=false:=by
        have hlt':i < listed.size:=by omega
        simp [hlt'] at hun ⊢
        exact hun
      have hp:∀ j,edge l i j=true → listed.toList.getD j false=true:=fun j hj=>by
        obtain ⟨e,he,hb,rfl⟩:=(edge_iff ho').1 hj
        have:=hpre e he hb
        simpa using this
      have hstep:=allB_all _ _ (StepsFrom.at_ l 0 steps i o ho') listed.toList (by simpa using hsz)
      rw [Nat.zero_add] at hstep
      have hone:=hstep hcl hun' hp a w hst
      have hw:wpOp P l.toArray Q i (St (listed.toList.set i true)) a w:=by
        unfold wpOp
        rw [show l.toArray[i]?=some o from ho]
        exact hone
      refine wpOp_mono (fun a' w' hs'=>?_) hw
      have hl:(listed.setIfInBounds i true).toList=listed.toList.set i true:=by simp
      refine ih _ a' w' (by simpa using hsz) ?_ ?_ (by rw [hl]; exact hs')
      · rw [hl,List.count_set (by simpa [hsz] using hlt)]
        have hf:(listed.toList[i]'(by simpa [hsz] using hlt) == false)=true:=by
          have hlt':i < listed.size:=by omega
          simp [hlt'] at hun'
          simp [hun']
        rw [hcnt,if_pos hf,if_neg (by decide)]
        omega
      · rw [hl]
        intro j k hjk hj
        by_cases e1:i=j
        · subst e1
          have hk:=hp k hjk
          by_cases e2:i=k
          · subst e2
            rw [hun'] at hk
            cases hk
          · simpa [List.getD,List.getElem?_set,e2] using hk
        · have hj':listed.toList.getD j false=true:=by simpa [List.getD,List.getElem?_set,e1] using hj
          have hk:=hcl j k hjk hj'
          by_cases e2:i=k
          · subst e2
            rw [hun'] at hk
            cases hk
          · simpa [List.getD,List.getElem?_set,e2] using hk
  refine key l.length _ a _ (by simp) (by simp) (fun j k hjk hj=>?_) (by simpa using h0)
  simp [List.getD,List.getElem?_replicate] at hj
  split at hj <;> simp at hj
end
def argF:Nat → List Value → List (Nat × Option Value)
  | _, [] => []
  | i, v :: r => (i, some v) :: argF (i + 1) r
theorem argF_look:∀ (l:List Value) (i j:Nat) (v:Value),look j (argF i l)=some v → i ≤ j ∧ l[j - i]?=some v
  | [], _, _, _, h => by simp [argF, look] at h
  | u :: r, i, j, v, h => by
    by_cases e:i=j
    · subst e
      rw [argF,look_self] at h
      simpa using h
    · rw [argF,look_other e] at h
      obtain ⟨h1,h2⟩:=argF_look r (i + 1) j v h
      refine ⟨by omega,?_⟩
      rw [show j - i=(j - (i + 1)) + 1 by omega]
      simpa using h2
theorem enter {P:Program} {f:FuncId} {fn:Func} {c:Code} {args:Array Value} {w:World} {R:Ending → World → Prop} {n:Nat} (hf:P.funcs[f]?=some fn) (hb:fn.body=some c) (hn:fn.ntmps=n) (hle:args.size ≤ n)
    (k:∀ a,Fr ⟨n,[]⟩ (argF 0 args.toList) a → c.wp P (bodyPost P fn R) a w):Calls P f args w R:=by
  refine calls_of_wp hf hb (k _ ⟨?_,rfl,fun i v hv=>?_⟩)
  · simp
    omega
  · obtain ⟨_,h2⟩:=argF_look _ _ _ _ hv
    rw [Nat.sub_zero] at h2
    have hlt:i < args.size:=by
      have:=(List.getElem?_eq_some_iff.1 h2).1
      simpa using this
    simp only [Array.getElem?_append,if_pos hlt]
    simpa using h2
theorem enterK {P:Program} {f:FuncId} {fn:Func} {c:Code} {args:Array Value} {w:World} {R:Ending → World → Prop} (n:Nat) (hf:P.funcs[f]?=some fn) (hb:fn.body=some c) (hn:fn.ntmps=n) (hle:Nat.ble args.size n=true)
    (k:∀ a,Fr ⟨n,[]⟩ (argF 0 args.toList) a → ∀ Q:Exit → Act → World → Prop,(∀ a w,bodyPost P fn R .ret a w → Q .ret a w) → (∀ a w,bodyPost P fn R .normal a w → Q .normal a w) → c.wp P Q a w):Calls P f args w R :=
  enter hf hb hn (Nat.le_of_ble_eq_true hle) fun a ha=>k a ha _ (fun _ _ h=>h) (fun _ _ h=>h)
inductive Res (P:Program) (F:List (Nat × Option Value)) (L:List (Nat × Option Ent)):List ResultVar → List Value → Prop where
  | nil : Res P F L [] []
  | tmp {t : Nat} {v : Value} {r : List ResultVar} {vs : List Value} (h : look t F = some v) (k : Res P F L r vs) : Res P F L (.tmp t :: r) (v :: vs)
  | cell {p ty t b off i : Nat} {cs : Array Value} {v : Value} {r : List ResultVar} {vs : List Value} (h : look p F = some (.pointer (some ⟨b, off, none⟩))) (hi : look i L = some (.row b t cs)) (hv : rdRow P ty cs.toList off = some v) (k : Res P F L r vs) :
      Res P F L (.cell p ty :: r) (v :: vs)
def pack:List Value → Value
  | [v] => v
  | vs => .tuple vs.toArray
theorem run_res {P:Program} {F:List (Nat × Option Value)} {L:List (Nat × Option Ent)} {n:NF} {B:Nat} {a:Act} {w w0:World} (hF:Fr n F a) (hM:Mem B w0 L w) (g:ResultVar → Sem Value) (g1:∀ t,g (.tmp t)=pure (a.tmps.getD t undef)) (g2:∀ p t,g (.cell p t)=(do loadVar t (← asAddr (a.tmps.getD p undef))))
    {rs:List ResultVar} {vs:List Value} (h:Res P F L rs vs):(rs.mapM (m:=Sem) g).run P w=.ok vs w:=by
  induction h with
  | nil => simp
  | tmp h k ih =>
    rw [List.mapM_cons]
    simp only [Sem.run_bind,g1,hF.getD h,Sem.run_pure,Result.andThen_ok,ih]
  | @cell p ty t b off i cs v r vs h hi hv k ih =>
    rw [List.mapM_cons]
    have hr:=run_loadVar (P:=P) (w:=w) hv fun j u hu=>by
      rw [(hM.ok _ _ hi).1.cell j]
      simpa using hu
    have ha:asAddr (.pointer (some ⟨b,off,none⟩))=pure ⟨b,off,none⟩:=rfl
    simp only [Sem.run_bind,g2,hF.getD h,ha,Sem.run_pure,Result.andThen_ok,hr,ih]
theorem ret_of {P:Program} {fn:Func} {F:List (Nat × Option Value)} {L:List (Nat × Option Ent)} {n:NF} {B:Nat} {a:Act} {w w0:World} {R:Ending → World → Prop} {vs:List Value} (hF:Fr n F a) (hM:Mem B w0 L w) (h:Res P F L fn.results.toList vs) (hR:R (.returned (pack vs)) w) (hds:n.ds=[]:=by rfl):bodyPost P fn R .ret a w:=by
  refine ⟨hF.df.trans hds,pack vs,?_,hR⟩
  have hr:=fun g g1 g2=>run_res (P:=P) hF hM g g1 g2 h
  unfold results
  rw [Sem.run_bind,Array.mapM_eq_mapM_toList,map_eq_pure_bind,Sem.run_bind,hr _ (fun _=>rfl) (fun _ _=>rfl)]
  simp only [Result.andThen_ok,Sem.run_pure]
  match vs with
  | [] => simp [pack]
  | [v] => simp [pack]
  | v :: u :: r => simp [pack]
theorem ret_ofN {P:Program} {fn:Func} {F:List (Nat × Option Value)} {L:List (Nat × Option Ent)} {n:NF} {B:Nat} {a:Act} {w w0:World} {R:Ending → World → Prop} {vs:List Value} (hF:Fr n F a) (hM:Mem B w0 L w) (h:Res P F L fn.results.toList vs) (hR:R (.returned (pack vs)) w) (hds:n.ds=[]:=by rfl):bodyPost P fn R .normal a w:=ret_of hF hM h hR hds
theorem mul_le_of {a b la ha m:Int} (h1:la ≤ a) (h2:a ≤ ha) (c1:la * b ≤ m) (c2:ha * b ≤ m):a * b ≤ m:=by
  rcases Int.le_total 0 b with hb | hb
  · exact Int.le_trans (Int.mul_le_mul_of_nonneg_right h2 hb) c2
  · exact Int.le_trans (Int.mul_le_mul_of_nonpos_right h1 hb) c1
theorem le_mul_of {a b la ha m:Int} (h1:la ≤ a) (h2:a ≤ ha) (c1:m ≤ la * b) (c2:m ≤ ha * b):m ≤ a * b:=by
  rcases Int.le_total 0 b with hb | hb
  · exact Int.le_trans c1 (Int.mul_le_mul_of_nonneg_right h1 hb)
  · exact Int.le_trans c2 (Int.mul_le_mul_of_nonpos_right h2 hb)
theorem mul_bd {a b lo hi:Int} (la ha lb hb:Int) (h1:la ≤ a) (h2:a ≤ ha) (h3:lb ≤ b) (h4:b ≤ hb) (hc:(lo ≤ la * lb ∧ lo ≤ la * hb ∧ lo ≤ ha * lb ∧ lo ≤ ha * hb) ∧ la * lb ≤ hi ∧ la * hb ≤ hi ∧ ha * lb ≤ hi ∧ ha * hb ≤ hi):lo ≤ a * b ∧ a * b ≤ hi:=by
  obtain ⟨⟨c1,c2,c3,c4⟩,d1,d2,d3,d4⟩:=hc
  have f:∀ x y:Int,x * y=y * x:=Int.mul_comm
  constructor
  · refine le_mul_of h1 h2 ?_ ?_
    · rw [f]; exact le_mul_of h3 h4 (by rw [f]; exact c1) (by rw [f]; exact c2)
    · rw [f]; exact le_mul_of h3 h4 (by rw [f]; exact c3) (by rw [f]; exact c4)
  · refine mul_le_of h1 h2 ?_ ?_
    · rw [f]; exact mul_le_of h3 h4 (by rw [f]; exact d1) (by rw [f]; exact d2)
    · rw [f]; exact mul_le_of h3 h4 (by rw [f]; exact d3) (by rw [f]; exact d4)
theorem min_if (x y:Int):(if y < x then y else x)=min x y:=by omega
theorem max_if (x y:Int):(if y > x then y else x)=max x y:=by omega
theorem ret_eq {u v:Value} (h:u=v):Ending.returned u=.returned v:=by rw [h]
theorem bT {p:Prop} {_:Decidable p} (h:p):Value.bool (decide p)=.bool true:=by rw [decide_eq_true h]
theorem bF {p:Prop} {_:Decidable p} (h:¬ p):Value.bool (decide p)=.bool false:=by rw [decide_eq_false h]
theorem nT {p:Prop} {_:Decidable p} (h:p):Value.bool (!decide p)=.bool false:=by rw [decide_eq_true h]; rfl
theorem nF {p:Prop} {_:Decidable p} (h:¬ p):Value.bool (!decide p)=.bool true:=by rw [decide_eq_false h]; rfl
theorem w64 {e:Int} (h:-9223372036854775808 ≤ e ∧ e ≤ 9223372036854775807):IntKind.i64.wrap e=e:=IntWalk.i64_in e h
theorem wi {e:Int} (h:-9223372036854775808 ≤ e ∧ e ≤ 9223372036854775807):Value.int .i64 (IntKind.i64.wrap e)=.int .i64 e:=by rw [w64 h]
theorem vi {k:IntKind} {x y:Int} (h:x=y):Value.int k x=.int k y:=by rw [h]
def gA (A:Option Addr):Addr:=A.getD ⟨0,0,none⟩
def ea (A:Option Addr) (j:Nat):Addr:=⟨(gA A).block,(gA A).off + j,none⟩
def nt (l:List Int) (k:Nat):Int:=l.getD k 0
def pr (l:List (Int × Int)) (k:Nat):Int × Int:=l.getD k (0,0)
theorem nt_at {kd:IntKind} {l:List Int} {j:Nat} (h:j < l.length):(l.map (Value.int kd))[j]?=some (.int kd (nt l j)):=by
  simp [nt,List.getD,List.getElem?_eq_getElem h]
theorem nt_some {l:List Int} {j:Nat} (h:j < l.length):l[j]?=some (nt l j):=by simp [nt,List.getD,List.getElem?_eq_getElem h]
theorem pr_some {l:List (Int × Int)} {j:Nat} (h:j < l.length):l[j]?=some (pr l j):=by simp [pr,List.getD,List.getElem?_eq_getElem h]
theorem pr_fst {l:List (Int × Int)} {k j:Nat} (h:k < l.length) (e:j=k * 2):(flat2 l)[j]?=some (.int .i64 (pr l k).1):=by subst e; exact (flat2_at l k _ (pr_some h)).1
theorem pr_snd {l:List (Int × Int)} {k j:Nat} (h:k < l.length) (e:j=k * 2 + 1):(flat2 l)[j]?=some (.int .i64 (pr l k).2):=by subst e; exact (flat2_at l k _ (pr_some h)).2
theorem pr_both {l:List (Int × Int)} {k j:Nat} (h:k < l.length) (e:j=k * 2):∀ i u,[Value.int .i64 (pr l k).1,.int .i64 (pr l k).2][i]?=some u → (flat2 l)[j + i]?=some u:=by
  subst e
  intro i u hu
  match i with
  | 0 => simp at hu; subst hu; exact pr_fst h rfl
  | 1 => simp at hu; subst hu; exact pr_snd h rfl
  | i + 2 => simp at hu
theorem u64_wrap (x:Int):IntKind.u64.wrap x=x % 18446744073709551616:=by simp [IntKind.wrap,IntKind.bits,IntKind.signed]
theorem ediv_le_self_of {p q:Int} (h0:0 ≤ p) (h1:0 < q):0 ≤ p / q ∧ p / q ≤ p:=⟨Int.ediv_nonneg h0 (by omega),Int.ediv_le_self _ h0⟩
theorem emod_bd {p q:Int} (_h0:0 ≤ p) (h1:0 < q):0 ≤ p % q ∧ p % q < q:=⟨Int.emod_nonneg _ (by omega),Int.emod_lt_of_pos _ h1⟩
theorem qpos_i64 {p q:Int} (h0:0 ≤ p) (h1:0 < q) (h2:p ≤ 9223372036854775807):IntKind.i64.wrap (p.tdiv q)=p / q:=by
  have:=ediv_le_self_of h0 h1
  rw [Int.tdiv_eq_ediv_of_nonneg h0,w64 (by omega)]
theorem qpos_u64 {p q:Int} (h0:0 ≤ p) (h1:0 < q) (h2:p ≤ 18446744073709551615):IntKind.u64.wrap (p.tdiv q)=p / q:=by
  have:=ediv_le_self_of h0 h1
  rw [Int.tdiv_eq_ediv_of_nonneg h0,u64_wrap,Int.emod_eq_of_lt (by omega) (by omega)]
section
variable {P:Program} {n:NF} {F:List (Nat × Option Value)} {a:Act} {o:Oper} {v:Value} {w w0:World} {C:World → Prop} {B:Nat} {L:List (Nat × Option Ent)}
theorem yld_quo {t t':TypeId} {x y:Operand} {kd:IntKind} {r:Int} (p q:Int) (hF:Fr n F a) (ho:o.op=.binOp .quo t x y t') (hk:known F o=true) (hx:evF F x=.int kd p) (hy:evF F y=.int kd q) (hq:q ≠ 0) (hr:kd.wrap (p.tdiv q)=r):Yld P o a C (.int kd r):=by
  intro w _
  unfold Oper.quietAt
  rw [hF.exec hk]
  simp [execOp,ho,hx,hy,eqGuard,binOp,Op.intDiv,hq,hr,Oper.quietUpon]
theorem yld_rem {t t':TypeId} {x y:Operand} {kd:IntKind} {r:Int} (p q:Int) (hF:Fr n F a) (ho:o.op=.binOp .rem t x y t') (hk:known F o=true) (hx:evF F x=.int kd p) (hy:evF F y=.int kd q) (hq:q ≠ 0) (hr:p.tmod q=r):Yld P o a C (.int kd r):=by
  intro w _
  unfold Oper.quietAt
  rw [hF.exec hk]
  simp [execOp,ho,hx,hy,eqGuard,binOp,Op.intDiv,hq,hr,Oper.quietUpon]
theorem Ro.at_ {A:Option Addr} {xs:List Value} (h:Ro w A xs) {j:Nat} {u:Value} (hu:xs[j]?=some u):A=some ⟨(gA A).block,(gA A).off,none⟩ ∧ w.cell? (ea A j)=some u:=by
  obtain ⟨b,off,e,hc⟩:=h j u hu
  subst e
  exact ⟨rfl,hc⟩
theorem yld_ix {t e len cap size j:Nat} {x ix:Operand} {kd:IntKind} {i:Int} {A:Option Addr} {xs:List Value} (hF:Fr n F a) (ho:o.op=.indexAddr t x ix) (hk:known F o=true) (hx:evF F x=.slice A len cap) (hix:evF F ix=.int kd i)
    (hu:P.underlying t=some (.slice e)) (hs:(P.info? e).map (·.size)=some size) (hro:∀ w,Mem B w0 L w → Ro w A xs) (h01:0 ≤ i ∧ i < len) (hj:i.toNat * size=j) (hl:j < xs.length) :
    Yld P o a (Mem B w0 L) (.pointer (some (ea A j))):=by
  intro w hM
  unfold Oper.quietAt
  rw [hF.exec hk]
  have hr:Ro w A xs:=hro w hM
  obtain ⟨hA,_⟩:=hr.at_ (List.getElem?_eq_getElem hl)
  cases hq:P.info? e with
  | none => simp [hq] at hs
  | some q =>
    have hz:q.size=size:=by simpa [hq] using hs
    have hadd:=add_at (gA A).block (gA A).off j
    simp only [execOp,ho,hx,hix,Instr.indexAt,asIntOf,Sem.run_bind,run_underlying hu,Sem.run_pure,Result.andThen_ok]
    rw [hA]
    simp [h01,sizeOf,typeInfo,hq,hz,hj,Oper.quietUpon,ea,gA]
    exact hadd
theorem yld_ro1 {ty j:Nat} {x:Operand} {A:Option Addr} {xs:List Value} (hF:Fr n F a) (ho:o.op=.load ty x) (hk:known F o=true) (hx:evF F x=.pointer (some (ea A j))) (hro:∀ w,Mem B w0 L w → Ro w A xs) (ha:aggSize P ty=some none) (hv:xs[j]?=some v) :
    Yld P o a (Mem B w0 L) v:=by
  intro w hM
  unfold Oper.quietAt
  rw [hF.exec hk]
  have hr:Ro w A xs:=hro w hM
  obtain ⟨_,hc⟩:=hr.at_ hv
  obtain ⟨d,hd,hagg⟩:=aggSize_none ha
  have hag:(isAgg ty).run P w=.ok false w:=isAgg_false hd hagg
  simp [execOp,ho,hx,Instr.loadAt,Instr.sureAddr,loadVar,Sem.run_bind,hag,load,Sem.run,hc,Oper.quietUpon]
theorem yld_roM {ty j m:Nat} {x:Operand} {A:Option Addr} {xs us:List Value} (hF:Fr n F a) (ho:o.op=.load ty x) (hk:known F o=true) (hx:evF F x=.pointer (some (ea A j))) (hro:∀ w,Mem B w0 L w → Ro w A xs) (ha:aggSize P ty=some (some m)) (hm:us.length=m) (hv:∀ i u,us[i]?=some u → xs[j + i]?=some u) :
    Yld P o a (Mem B w0 L) (.agg us.toArray):=by
  intro w hM
  unfold Oper.quietAt
  rw [hF.exec hk]
  have hr:Ro w A xs:=hro w hM
  obtain ⟨d,q,hd,hagg,hq,hz⟩:=aggSize_some ha
  have hl:=run_loadCells_list (P:=P) (w:=w) (ea A j) us fun i u hu=>by
    have:=(hr.at_ (hv i u hu)).2
    rw [ea,add_at,Nat.add_assoc]
    exact this
  rw [hm] at hl
  have hag:(isAgg ty).run P w=.ok true w:=isAgg_true hd hagg
  simp [execOp,ho,hx,Instr.loadAt,Instr.sureAddr,loadVar,Sem.run_bind,hag,sizeOf,typeInfo,hq,hz,hl,Oper.quietUpon]
end
theorem Mem.roRow {B:Nat} {w0 w:World} {L:List (Nat × Option Ent)} {k b:Nat} {t:TypeId} {cs:Array Value} (h:Mem B w0 L w) (hk:look k L=some (.row b t cs)):Ro w (some ⟨b,0,none⟩) cs.toList:=fun j u hu=>by
  refine ⟨b,0,rfl,?_⟩
  rw [(h.ok _ _ hk).1.cell]
  simpa using hu
theorem Ro.of_arr1 {kd:IntKind} {w:World} {B:Nat} {A:Option Addr} {l:List Int} (h:Arr1 kd w B A l):Ro w A (l.map (Value.int kd)):=fun j u hu=>by
  simp only [List.getElem?_map,Option.map_eq_some_iff] at hu
  obtain ⟨x,hx,rfl⟩:=hu
  obtain ⟨b,off,e,_,hc⟩:=h j x hx
  exact ⟨b,off,e,hc⟩
theorem Ro.arr2 {w:World} {A:Option Addr} {l:List (Int × Int)} (h:Ro w A (flat2 l)):Arr2 w w.heap.size A l:=fun j x hx=>by
  obtain ⟨h1,h2⟩:=flat2_at l j x hx
  obtain ⟨b,off,e,hc⟩:=h _ _ h1
  obtain ⟨b',off',e',hc'⟩:=h _ _ h2
  have:=e.symm.trans e'
  injection this with this
  injection this with e1 e2
  subst e1 e2
  exact ⟨b,off,e,cell_lt hc,hc,by simpa [Nat.add_assoc] using hc'⟩
def flatB (P:Program):Nat → List Field → Bool
  | _, [] => true
  | i, f :: r => Nat.beq f.offset i && (f.name != "_") && (match P.underlying f.type with | some (.int _) => true | _ => false) && flatB P (i + 1) r
theorem run_eqFields {P:Program} {w:World} {d:Nat} {X Y:Array Value}:∀ (fs:List Field) (i:Nat) (ps qs:List Int),flatB P i fs=true → ps.length=fs.length → qs.length=fs.length →
    (∀ j p,ps[j]?=some p → X[i + j]?=some (.int .i64 p)) → (∀ j p,qs[j]?=some p → Y[i + j]?=some (.int .i64 p)) → (Op.eqFields (d + 1) X Y fs).run P w=.ok (decide (ps=qs)) w
  | [], i, ps, qs, _, h1, h2, _, _ => by
    obtain rfl:=List.length_eq_zero_iff.1 h1
    obtain rfl:=List.length_eq_zero_iff.1 h2
    simp [Op.eqFields]
  | f :: r, i, [], qs, _, h1, _, _, _ => by simp at h1
  | f :: r, i, _ :: _, [], _, _, h2, _, _ => by simp at h2
  | f :: r, i, x :: ps, y :: qs, hf, h1, h2, hX, hY => by
    simp only [flatB,Bool.and_eq_true,bne_iff_ne] at hf
    obtain ⟨⟨⟨ho,hn⟩,ht⟩,hr⟩:=hf
    have ho':=Nat.eq_of_beq_eq_true ho
    obtain ⟨k,hk⟩:∃ k,P.underlying f.type=some (.int k):=by
      split at ht
      · exact ⟨_,‹_›⟩
      · cases ht
    have hX0:=hX 0 x rfl
    have hY0:=hY 0 y rfl
    rw [Nat.add_zero] at hX0 hY0
    have hag:(isAgg f.type).run P w=.ok false w:=isAgg_false hk rfl
    have hpx:(part f.type X f.offset).run P w=.ok (.int .i64 x) w:=by simp [part,Sem.run_bind,hag,ho',hX0]
    have hpy:(part f.type Y f.offset).run P w=.ok (.int .i64 y) w:=by simp [part,Sem.run_bind,hag,ho',hY0]
    have ih:=run_eqFields (P:=P) (w:=w) (d:=d) (X:=X) (Y:=Y) r (i + 1) ps qs hr (by simpa using h1) (by simpa using h2)
      (fun j p hp=>by rw [show i + 1 + j=i + (j + 1) by omega]; exact hX (j + 1) p (by simpa using hp))
      (fun j p hp=>by rw [show i + 1 + j=i + (j + 1) by omega]; exact hY (j + 1) p (by simpa using hp))
    simp only [Op.eqFields,if_pos hn,Sem.run_bind,hpx,hpy,Result.andThen_ok,run_equalIn_int w d f.type .i64 k x y hk]
    by_cases e:x=y
    · subst e
      simp [ih]
    · simp [e]
section
variable {P:Program} {n:NF} {F:List (Nat × Option Value)} {a:Act} {o:Oper} {C:World → Prop}
theorem run_eqStruct {w:World} {t:TypeId} {ps qs:List Int} {fs:Array Field} (hu:P.underlying t=some (.struct fs)) (hp:P.stoodInHeld t=false) (hb:flatB P 0 fs.toList=true) (h1:ps.length=fs.toList.length) (h2:qs.length=fs.toList.length) :
    (Op.equalIn 10000 t (.agg (ps.map (Value.int .i64)).toArray) (.agg (qs.map (Value.int .i64)).toArray)).run P w=.ok (decide (ps=qs)) w:=by
  have hfs:P.fieldsOf t=fs:=by simp [Program.fieldsOf,hu]
  rw [run_equalIn_struct w 9999 t _ _ (by rw [hfs]; exact hu) hp,hfs]
  exact run_eqFields fs.toList 0 ps qs hb h1 h2 (fun j p hp=>by simp [hp]) (fun j p hp=>by simp [hp])
theorem yld_neq {t t':TypeId} {x y:Operand} {fs:Array Field} (ps qs:List Int) (hF:Fr n F a) (ho:o.op=.binOp .neq t x y t') (hk:known F o=true) (hx:evF F x=.agg (ps.map (Value.int .i64)).toArray) (hy:evF F y=.agg (qs.map (Value.int .i64)).toArray)
    (hu:P.underlying t=some (.struct fs)) (hp:P.stoodInHeld t=false) (hg:P.eqGuardType P.depth t=false) (hb:flatB P 0 fs.toList=true) (h1:ps.length=fs.toList.length) (h2:qs.length=fs.toList.length):Yld P o a C (.bool (!decide (ps=qs))):=by
  intro w _
  unfold Oper.quietAt
  rw [hF.exec hk]
  simp [execOp,ho,hx,hy,run_eqGuard_agg w _ _ _ _ _ _ hg,run_neq_struct,run_eqStruct hu hp hb h1 h2,Oper.quietUpon]
theorem Yld.to {v v':Value} (h:Yld P o a C v) (e:v=v'):Yld P o a C v':=e ▸ h
end
def keyAt {α:Type}:Nat → Nat → List (Nat × Option α) → Bool
  | _, _, [] => false
  | 0, d, (j, _) :: _ => Nat.beq j d
  | p + 1, d, (j, _) :: r => !Nat.beq j d && keyAt p d r
theorem look_set {α:Type} {c:Option α} {d i:Nat}:∀ (F:List (Nat × Option α)) (p:Nat),keyAt p d F=true → look i (F.set p (d,c))=look i ((d,c) :: F)
  | [], p, h => by cases p <;> simp [keyAt] at h
  | (j, u) :: r, 0, h => by
    have e:j=d:=Nat.eq_of_beq_eq_true h
    subst e
    by_cases eq:j=i
    · subst eq
      simp [look_self]
    · simp [look_other eq]
  | (j, u) :: r, p + 1, h => by
    simp only [keyAt,Bool.and_eq_true,Bool.not_eq_true'] at h
    have hne:j ≠ d:=fun e=>by
      have:=h.1
      simp [e] at this
    have ih:=look_set (c:=c) (i:=i) r p h.2
    by_cases eq:j=i
    · subst eq
      simp [look_self,look_other hne.symm]
    · simp only [List.set_cons_succ,look_other eq,ih]
      by_cases e2:d=i
      · subst e2
        simp [look_self]
      · simp [look_other e2,look_other eq]
section
variable {n:NF} {F F':List (Nat × Option Value)} {a:Act} {B:Nat} {w0 w:World} {L L':List (Nat × Option Ent)}
theorem Fr.repl {c:Option Value} {d:Nat} (h:Fr n ((d,c) :: F) a) (p:Nat) (hp:keyAt p d F=true):Fr n (F.set p (d,c)) a:=⟨h.sz,h.df,fun i v hv=>h.has i v ((look_set F p hp).symm.trans hv)⟩
theorem Fr.cast (h:Fr n F a) (e:F=F'):Fr n F' a:=e ▸ h
theorem Mem.repl {c:Option Ent} {d:Nat} (h:Mem B w0 ((d,c) :: L) w) (p:Nat) (hp:keyAt p d L=true):Mem B w0 (L.set p (d,c)) w:=h.sub fun i v hv=>(look_set L p hp).symm.trans hv
theorem Mem.cast (h:Mem B w0 L w) (e:L=L'):Mem B w0 L' w:=e ▸ h
end
def RetOwn (w:World) (mk:Value → Value) (e size n:Nat) (xs:List Value) (en:Ending) (w':World):Prop :=
  ∃ A cap,en=.returned (mk (.slice A n cap)) ∧ w'.ownsRow w.heap.size e size (.slice A n cap) n xs ∧ Below w.heap.size w w'
section
variable {P:Program} {n:NF} {F:List (Nat × Option Value)} {a:Act} {o:Oper} {w w0:World} {ops:Array Oper} {Q:Exit → Act → World → Prop} {B:Nat} {L:List (Nat × Option Ent)} {K:Act → World → Prop} {d f:Nat} {args:Array Value} {mk:Value → Value} {xs:List Value} {m e size:Nat}
theorem sOwn (k:Nat) (hF:Fr n F a) (hM:Mem B w0 L w) (hg:wantF ops F o=some true) (hd:o.dst=some d) (hn:d < n) (hk:known F o=true) (hr:∀ w,(execOp (evF F) o).run P w=.ok (.enter f args) w)
    (hc:Calls P f args w (RetOwn w mk e size m xs))
    (kk:∀ A cap a' w',Fr n ((d,some (mk (.slice A m cap))) :: F) a' → Mem B w0 ((k,some (.own (.slice A m cap) e size m xs)) :: L) w' → K a' w'):One P ops Q o K a w :=
  sC hF hg hd hn hk hr (hc.mono fun _ w' ⟨A,cap,he,ho,hb⟩=>⟨_,he,fun a' ha=>kk A cap a' w' ha (hM.fresh hb k (own_base ho hM.lo) fun _ hbb=>(own_lt ho hbb).1)⟩)
end
section
variable {P:Program} {Q:Exit → Act → World → Prop} {C:World → Prop}
theorem qOp_wpOp {l:List Oper} {n i:Nat} {a:Act} {w:World} {K:Act → Prop} {K':Act → World → Prop} (hi:i < n) (hg:∀ o,l[i]?=some o → ∀ j b,o.guard=some (j,b) → j < n) (hn:n ≤ l.length)
    (hC:C w) (h:∀ a w',C w' → K a → K' a w') (hh:qOp P (l.take n).toArray C i K a):wpOp P l.toArray Q i K' a w:=by
  have e:(l.take n).toArray[i]?=l.toArray[i]?:=by simp [List.getElem?_take,hi]
  unfold qOp at hh
  unfold wpOp
  rw [e] at hh
  split
  · rename_i ho
    simp only [ho] at hh
    exact h _ _ hC hh
  · rename_i o ho
    simp only [ho] at hh
    have hw:Region.wanted o (yielded (l.take n).toArray a.tmps)=Region.wanted o (yielded l.toArray a.tmps):=by
      unfold Region.wanted
      cases hgd:o.guard with
      | none => rfl
      | some p =>
        obtain ⟨j,b⟩:=p
        have hj:=hg o (by simpa using ho) j b hgd
        simp [yielded,List.getElem?_take,hj]
    rw [hw] at hh
    split
    · rename_i hwd
      rw [if_pos hwd] at hh
      exact .inl (Oper.wp_of_quiet hC h hh)
    · rename_i hwd
      rw [if_neg hwd] at hh
      exact h _ _ hC hh
def tailB (l:List Oper) (n:Nat):Bool :=
  fwdB l && Nat.blt n l.length && Region.lexB .any (l.take n).toArray && Region.sinkB .any l.toArray n && Region.chainB .any l.toArray n && (l.take n).all fun o=>match o.guard with | none=>true | some (j,_)=>Nat.blt j n
theorem wpAny_chain {l:List Oper} {n:Nat} (hfwd:∀ i o,l[i]?=some o → ∀ e ∈ o.after,Region.binds .any e=true → e.on < i) (hch:Region.chainB .any l.toArray n=true) :
    ∀ (m k:Nat) (listed:Array Bool) (a:Act) (w:World),n ≤ k → k + m=l.length → listed.size=l.length → (∀ i,i < k → listed.getD i false=true) → (∀ i,k ≤ i → i < l.length → listed.getD i true=false) →
      wpList P l.toArray Q (l.drop k) a w → wpAny P .any l.toArray Q m listed a w:=by
  intro m
  induction m with
  | zero =>
    intro k listed a w hk hm hsz h1 h2 h
    have hd:l.drop k=[]:=List.drop_eq_nil_of_le (by omega)
    rw [hd] at h
    refine ⟨?_,h⟩
    rcases hr:Region.ready .any l.toArray listed with _ | ⟨i,r⟩
    · rfl
    · exfalso
      have hi:i ∈ Region.ready .any l.toArray listed:=by rw [hr]; simp
      obtain ⟨hun,o,ho,_⟩:=mem_ready.1 hi
      have hlt:i < l.length:=by
        have:=(Array.getElem?_eq_some_iff.1 ho).1
        simpa using this
      have:=h1 i (by omega)
      have hlt':i < listed.size:=by omega
      simp [hlt'] at this hun
      rw [this] at hun
      cases hun
  | succ m ih =>
    intro k listed a w hk hm hsz h1 h2 h
    have hkl:k < l.length:=by omega
    have hd:l.drop k=l[k] :: l.drop (k + 1):=List.drop_eq_getElem_cons hkl
    rw [hd] at h
    have hk0:l[k]?=some l[k]:=List.getElem?_eq_getElem hkl
    have honly:∀ i ∈ Region.ready .any l.toArray listed,i=k:=fun i hi=>by
      obtain ⟨hun,o,ho,hpre⟩:=mem_ready.1 hi
      have hlt:i < l.length:=by
        have:=(Array.getElem?_eq_some_iff.1 ho).1
        simpa using this
      rcases Nat.lt_trichotomy i k with hik | hik | hik
      · have:=h1 i hik
        have hlt':i < listed.size:=by omega
        simp [hlt'] at this hun
        rw [this] at hun
        cases hun
      · exact hik
      · exfalso
        have hc:=List.all_eq_true.1 hch i (List.mem_range.2 (by simpa using hlt))
        simp only [Bool.or_eq_true,decide_eq_true_eq] at hc
        rcases hc with hc | hc
        · omega
        · obtain ⟨oj,hoj,e,he,hb,hon⟩:=Region.waitsFor_spec hc
          have:oj=o:=Option.some.inj (hoj.symm.trans ho)
          subst this
          have h3:=hpre e he hb
          have h4:=h2 (i - 1) (by omega) (by omega)
          have hlt':i - 1 < listed.size:=by omega
          rw [hon] at h3
          simp [hlt'] at h3 h4
          rw [h3] at h4
          cases h4
    have hrk:k ∈ Region.ready .any l.toArray listed:=mem_ready.2 ⟨h2 k (Nat.le_refl _) hkl,l[k],by simp,fun e he hb=>h1 _ (hfwd k _ hk0 e he hb)⟩
    refine ⟨fun h0=>absurd hrk (by rw [h0]; simp),fun i hi=>?_⟩
    obtain rfl:=honly i hi
    have hw:wpOp P l.toArray Q i (wpList P l.toArray Q (l.drop (i + 1))) a w:=by
      unfold wpOp
      rw [show l.toArray[i]?=some l[i] by simp]
      exact h
    refine wpOp_mono (fun a' w' h'=>ih (i + 1) _ a' w' (by omega) (by omega) (by simpa using hsz) (fun j hj=>?_) (fun j hj hj'=>?_) h') hw
    · by_cases e:i=j
      · subst e
        have:i < listed.size:=by omega
        simp [Array.getD_eq_getD_getElem?,this]
      · rw [getD_set_ne false e]
        exact h1 j (by omega)
    · rw [getD_set_ne true (by omega)]
      exact h2 j (by omega) hj'
theorem rT {id:Nat} {l:List Oper} {a:Act} {w:World} (n:Nat) (hm:P.follows .mixedOrders=true) (hB:tailB l n=true) (hC:C { w with drawn:=w.drawn + 1 })
    (h:wpQuiet P (l.take n).toArray C (fun a'=>∀ w',C w' → wpList P l.toArray Q (l.drop n) a' w') (l.take n) a):(Code.region id l.toArray true).wp P Q a w:=by
  simp only [tailB,Bool.and_eq_true] at hB
  obtain ⟨⟨⟨⟨⟨hf,hlt⟩,hlex⟩,hsink⟩,hchain⟩,hgd⟩:=hB
  have hnl:n < l.length:=Nat.le_of_ble_eq_true hlt
  have hfwd:∀ i o,l[i]?=some o → ∀ e ∈ o.after,Region.binds .any e=true → e.on < i:=fun i o ho e he hb=>by
    have h1:=List.all_eq_true.1 hf (o,i) (by rw [List.mem_iff_getElem?]; exact ⟨i,by simp [ho]⟩)
    have h2:=List.all_eq_true.1 h1 e (by simpa using he)
    simp only [hb,Bool.not_true,Bool.false_or] at h2
    exact Nat.le_of_ble_eq_true h2
  have hguard:∀ i,i < n → ∀ o,l[i]?=some o → ∀ j b,o.guard=some (j,b) → j < n:=fun i hi o ho j b hg=>by
    have h1:=List.all_eq_true.1 hgd o (List.mem_of_getElem? (i:=i) (by rw [List.getElem?_take,if_pos hi]; exact ho))
    rw [hg] at h1
    exact Nat.le_of_ble_eq_true h1
  refine wp_region_any hm ?_
  simp only [Region.lexB,Bool.and_eq_true] at hlex
  have hlen:(l.take n).length=n:=by simp; omega
  have hq:=wpAnyQ_lex (P:=P) (C:=C) (md:=.any) hlex.1 (l.take n) 0 (Array.replicate (l.take n).toArray.size false) a (by simp) (by simpa using hlex.2) h
  rw [hlen] at hq
  have key:∀ (f:Nat) (hd:Array Bool) (a:Act) (w:World),hd.size=n → hd.toList.count false=f → C w →
      (∀ j oj,l[j]?=some oj → hd.getD j false=true → ∀ e ∈ oj.after,Region.binds .any e=true → hd.getD e.on false=true) →
      wpAnyQ P .any (l.take n).toArray C (fun a'=>∀ w',C w' → wpList P l.toArray Q (l.drop n) a' w') f hd a →
      wpAny P .any l.toArray Q (f + (l.length - n)) (hd ++ Array.replicate (l.length - n) false) a w:=by
    intro f
    induction f with
    | zero =>
      intro hd a w hsz hcnt hCw _ hh
      rw [Nat.zero_add]
      have hall:∀ i,i < n → hd.getD i false=true:=fun i hi=>by
        have hi':i < hd.size:=by omega
        cases hv:hd[i] with
        | true => simp [Array.getD_eq_getD_getElem?, hi', hv]
        | false =>
          have:false ∈ hd.toList:=by rw [← hv]; simp
          have:=List.count_pos_iff.2 this
          omega
      refine wpAny_chain hfwd hchain (l.length - n) n _ a w (Nat.le_refl _) (by omega) (by simp [hsz]; omega) (fun i hi=>?_) (fun i hi hi'=>?_) (hh.2 w hCw)
      · have:=hall i hi
        have hi':i < hd.size:=by omega
        simp [Array.getD_eq_getD_getElem?,Array.getElem?_append,hi'] at this ⊢
        exact this
      · have h1:¬ i < hd.size:=by omega
        have h2:i - hd.size < l.length - n:=by omega
        simp [Array.getD_eq_getD_getElem?,Array.getElem?_append,h1,h2]
    | succ f ih =>
      intro hd a w hsz hcnt hCw hcl hh
      have hfull:∀ i,i < n → ∀ d,(hd ++ Array.replicate (l.length - n) false).getD i d=hd.getD i d:=fun i hi d=>by
        have hi':i < hd.size:=by omega
        simp [Array.getD_eq_getD_getElem?,Array.getElem?_append,hi']
      have hsz':(hd ++ Array.replicate (l.length - n) false).size=l.length:=by simp [hsz]; omega
      have inv:HeadInv .any l.toArray n (hd ++ Array.replicate (l.length - n) false):=by
        refine ⟨by simpa using hsz',fun j oj hj hl e he hb=>?_,fun t ht ht'=>?_⟩
        · have hj':l[j]?=some oj:=by simpa using hj
          have he':=hfwd j oj hj' e he hb
          rcases Nat.lt_or_ge j n with hjn | hjn
          · rw [hfull j hjn] at hl
            rw [hfull e.on (by omega)]
            exact hcl j oj hj' hl e he hb
          · exfalso
            have h1:¬ j < hd.size:=by omega
            simp [Array.getD_eq_getD_getElem?,Array.getElem?_append,h1] at hl
            rcases Nat.lt_or_ge (j - hd.size) (l.length - n) with h2 | h2
            · simp [h2] at hl
            · simp [show ¬ (j - hd.size < l.length - n) by omega] at hl
        · have h1:¬ t < hd.size:=by omega
          have h2:t - hd.size < l.length - n:=by simp at ht'; omega
          simp [Array.getD_eq_getD_getElem?,Array.getElem?_append,h1,h2]
      obtain ⟨i0,hi0,hu0⟩:∃ i,i < n ∧ hd.getD i true=false:=by
        have hpos:0 < hd.toList.count false:=by omega
        obtain ⟨i,hi⟩:=List.getElem?_of_mem (List.count_pos_iff.1 hpos)
        have hlt:=(List.getElem?_eq_some_iff.1 hi).1
        simp only [Array.length_toList] at hlt
        refine ⟨i,by omega,?_⟩
        have:hd[i]?=some false:=by simpa using hi
        simp [Array.getD_eq_getD_getElem?,this]
      have hno:∀ t,n ≤ t → t ∉ Region.ready .any l.toArray (hd ++ Array.replicate (l.length - n) false) :=
        tail_waits hsink hchain (by simpa using hnl) inv _ i0 rfl hi0 (by rw [hfull i0 hi0]; exact hu0)
      have hin:∀ i,i ∈ Region.ready .any l.toArray (hd ++ Array.replicate (l.length - n) false) ↔ i ∈ Region.ready .any (l.take n).toArray hd:=fun i=>by
        constructor
        · intro hi
          have hlt:i < n:=by
            rcases Nat.lt_or_ge i n with h1 | h1
            · exact h1
            · exact absurd hi (hno i h1)
          obtain ⟨hun,o,ho,hpre⟩:=mem_ready.1 hi
          refine mem_ready.2 ⟨by rw [hfull i hlt] at hun; exact hun,o,by simpa [List.getElem?_take,hlt] using ho,fun e he hb=>?_⟩
          have:=hpre e he hb
          rwa [hfull e.on (by have:=hfwd i o (by simpa using ho) e he hb; omega)] at this
        · intro hi
          obtain ⟨hun,o,ho,hpre⟩:=mem_ready.1 hi
          have hlt:i < n:=by
            have:=(Array.getElem?_eq_some_iff.1 ho).1
            simp at this
            omega
          have ho':l[i]?=some o:=by simpa [List.getElem?_take,hlt] using ho
          refine mem_ready.2 ⟨by rw [hfull i hlt]; exact hun,o,by simpa using ho',fun e he hb=>?_⟩
          rw [hfull e.on (by have:=hfwd i o ho' e he hb; omega)]
          exact hpre e he hb
      rw [show f + 1 + (l.length - n)=(f + (l.length - n)) + 1 by omega]
      refine ⟨fun h0=>?_,fun i hi=>?_⟩
      · exfalso
        obtain ⟨m,⟨hm1,hm2⟩,hmin⟩:=least_of (p:=fun i=>i < n ∧ hd.getD i true=false) i0 ⟨hi0,hu0⟩
        have ho:l[m]?=some (l[m]'(by omega)):=List.getElem?_eq_getElem (by omega)
        have:m ∈ Region.ready .any l.toArray (hd ++ Array.replicate (l.length - n) false):=by
          refine mem_ready.2 ⟨by rw [hfull m hm1]; exact hm2,l[m]'(by omega),by simp,fun e he hb=>?_⟩
          have hlt:=hfwd m _ ho e he hb
          rw [hfull e.on (by omega)]
          have hlt':e.on < hd.size:=by omega
          cases hv:hd[e.on] with
          | true => simp [Array.getD_eq_getD_getElem?, hlt', hv]
          | false =>
            have:=hmin e.on ⟨by omega,by simp [Array.getD_eq_getD_getElem?,hlt',hv]⟩
            omega
        rw [h0] at this
        cases this
      · have hi':=(hin i).1 hi
        have hlt:i < n:=by
          rcases Nat.lt_or_ge i n with h1 | h1
          · exact h1
          · exact absurd hi (hno i h1)
        obtain ⟨hun,o,ho,hpre⟩:=mem_ready.1 hi'
        have ho':l[i]?=some o:=by simpa [List.getElem?_take,hlt] using ho
        refine qOp_wpOp hlt (hguard i hlt) (by omega) hCw (fun a' w' hCw' hk=>?_) (hh.2 i hi')
        have hset:(hd ++ Array.replicate (l.length - n) false).setIfInBounds i true=hd.setIfInBounds i true ++ Array.replicate (l.length - n) false:=by
          rw [Array.setIfInBounds_append,if_pos (by omega)]
        rw [hset]
        refine ih _ a' w' (by simpa using hsz) ?_ hCw' (fun j oj hj hl e he hb=>?_) hk
        · have hl:(hd.setIfInBounds i true).toList=hd.toList.set i true:=by simp
          have hi2:i < hd.size:=by omega
          rw [hl,List.count_set (by simpa using hi2)]
          have hf':(hd.toList[i]'(by simpa using hi2) == false)=true:=by
            simp [hi2] at hun
            simp [hun]
          rw [hcnt,if_pos hf',if_neg (by decide)]
          omega
        · by_cases e1:i=j
          · subst e1
            obtain rfl:oj=o:=Option.some.inj (hj.symm.trans ho')
            exact getD_set_true (hpre e he hb)
          · rw [getD_set_ne false e1] at hl
            exact getD_set_true (hcl j oj hj hl e he hb)
  have hk:=key n (Array.replicate (l.take n).toArray.size false) a _ (by simp; omega) (by simp; omega) hC (fun j oj hj hl=>by
    rw [getD_replicate_false] at hl
    cases hl) hq
  have e:Array.replicate (l.take n).toArray.size false ++ Array.replicate (l.length - n) false=Array.replicate l.toArray.size false:=by
    apply Array.ext
    · simp; omega
    · intro i h1 h2
      simp
  rw [e,show n + (l.length - n)=l.toArray.size by simp; omega] at hk
  exact hk
end
def runF (P:Program) (ops:Array Oper) (n:Nat) (w:World):List Oper → List (Nat × Option Value) → Option (List (Nat × Option Value) × World)
  | [], F => some (F, w)
  | o :: r, F => match o.dst with
    | none => none
    | some d => match Nat.blt d n, wantF ops F o with
      | true, some false => runF P ops n w r ((d, some undef) :: F)
      | true, some true => match known F o, (execOp (evF F) o).run P w with
        | true, .ok (.value v) w' => runF P ops n w' r ((d, some v) :: F)
        | _, _ => none
      | _, _ => none
def pushF:List (Nat × Value) → List (Nat × Option Value) → List (Nat × Option Value)
  | [], F => F
  | (d, v) :: r, F => pushF r ((d, some v) :: F)
section
variable {P:Program} {n:NF} {F F':List (Nat × Option Value)} {a:Act} {w w':World} {ops:Array Oper} {Q:Exit → Act → World → Prop}
theorem runF_list:∀ (l:List Oper) (rest:List Oper) (F:List (Nat × Option Value)) (a:Act) (w:World),Fr n F a → runF P ops n w l F=some (F',w') → (∀ a',Fr n F' a' → wpList P ops Q rest a' w') → wpList P ops Q (l ++ rest) a w
  | [], rest, F, a, w, hF, h, k => by
    simp only [runF,Option.some.injEq,Prod.mk.injEq] at h
    obtain ⟨rfl,rfl⟩:=h
    exact k a hF
  | o :: r, rest, F, a, w, hF, h, k => by
    unfold runF at h
    split at h
    · cases h
    · rename_i d hd
      split at h
      · rename_i hn hw
        exact wl (sSkip hF hw hd (Nat.le_of_ble_eq_true hn) fun a' ha=>runF_list r rest _ a' w ha h k)
      · rename_i hn hw
        split at h
        · rename_i v w1 hk hr
          exact wl (sW hF hw hd (Nat.le_of_ble_eq_true hn) hk hr fun a' ha=>runF_list r rest _ a' _ ha h k)
        · cases h
      · cases h
theorem sB {l:List Oper} (k:Nat) (ds:List (Nat × Value)) (hF:Fr n F a) (h:runF P ops n w (l.take k) F=some (pushF ds F,w)) (kk:∀ a',Fr n (pushF ds F) a' → wpList P ops Q (l.drop k) a' w):wpList P ops Q l a w:=by
  have:=runF_list (P:=P) (ops:=ops) (Q:=Q) (l.take k) (l.drop k) F a w hF h kk
  rwa [List.take_append_drop] at this
end
def okO (n:Nat) (ops:Array Oper) (F:List (Nat × Option Value)) (o:Oper) (d:Nat):Bool :=
  (match o.dst with | some j=>Nat.beq j d | none=>false) && Nat.blt d n && (match wantF ops F o with | some true=>true | _=>false) && known F o
theorem okO_spec {n:Nat} {ops:Array Oper} {F:List (Nat × Option Value)} {o:Oper} {d:Nat} (h:okO n ops F o d=true):o.dst=some d ∧ d < n ∧ wantF ops F o=some true ∧ known F o=true:=by
  simp only [okO,Bool.and_eq_true] at h
  obtain ⟨⟨⟨h1,h2⟩,h3⟩,h4⟩:=h
  refine ⟨?_,Nat.le_of_ble_eq_true h2,?_,h4⟩
  · split at h1
    · rename_i j hj
      rw [hj,Nat.eq_of_beq_eq_true h1]
    · cases h1
  · split at h3
    · assumption
    · cases h3
section
variable {P:Program} {n:NF} {F:List (Nat × Option Value)} {a:Act} {o:Oper} {v v0:Value} {w w0:World} {ops:Array Oper} {Q:Exit → Act → World → Prop} {B:Nat} {L:List (Nat × Option Ent)} {K:Act → World → Prop} {C:World → Prop} {rest:List Oper} {R:Act → Prop}
theorem eP (d:Nat) (hF:Fr n F a) (h:okO n ops F o d=true) (hr:∀ w,(execOp (evF F) o).run P w=.ok (.value v0) w) (hv:v0=v) (k:∀ a',Fr n ((d,some v) :: F) a' → K a' w):One P ops Q o K a w :=
  have ⟨h1,h2,h3,h4⟩:=okO_spec h
  sP hF h3 h1 h2 h4 hr hv k
theorem eM (d:Nat) (hF:Fr n F a) (hM:Mem B w0 L w) (h:okO n ops F o d=true) (hy:Yld P o a (Mem B w0 L) v) (k:∀ a' w',Fr n ((d,some v) :: F) a' → Mem B w0 L w' → K a' w'):One P ops Q o K a w :=
  have ⟨h1,h2,h3,_⟩:=okO_spec h
  sM hF hM h3 h1 h2 hy k
theorem eQ (d:Nat) (hF:Fr n F a) (h:okO n ops F o d=true) (hr:∀ w,(execOp (evF F) o).run P w=.ok (.value v0) w) (hv:v0=v) (k:∀ a',Fr n ((d,some v) :: F) a' → wpQuiet P ops C R rest a'):wpQuiet P ops C R (o :: rest) a :=
  have ⟨h1,h2,h3,h4⟩:=okO_spec h
  qP hF h3 h1 h2 h4 hr hv k
theorem eQ2 (d:Nat) (hF:Fr n F a) (h:okO n ops F o d=true) (hy:Yld P o a C v) (k:∀ a',Fr n ((d,some v) :: F) a' → wpQuiet P ops C R rest a'):wpQuiet P ops C R (o :: rest) a :=
  have ⟨h1,h2,h3,_⟩:=okO_spec h
  qL hF h3 h1 h2 hy k
theorem eL (d i off:Nat) {ty t:TypeId} {x:Operand} {b:Nat} {cs:Array Value} (hF:Fr n F a) (hM:Mem B w0 L w) (h:okO n ops F o d=true) (ho:o.op=.load ty x) (hi:look i L=some (.row b t cs)) (hx:evF F x=.pointer (some ⟨b,off,none⟩)) (hv:rdRow P ty cs.toList off=some v)
    (k:∀ a' w',Fr n ((d,some v) :: F) a' → Mem B w0 L w' → K a' w'):One P ops Q o K a w:=eM d hF hM h (yld_row hF ho (okO_spec h).2.2.2 hx hi hv) k
theorem eQL (d i off:Nat) {ty t:TypeId} {x:Operand} {b:Nat} {cs:Array Value} (hF:Fr n F a) (h:okO n ops F o d=true) (ho:o.op=.load ty x) (hi:look i L=some (.row b t cs)) (hx:evF F x=.pointer (some ⟨b,off,none⟩)) (hv:rdRow P ty cs.toList off=some v)
    (k:∀ a',Fr n ((d,some v) :: F) a' → wpQuiet P ops (Mem B w0 L) R rest a'):wpQuiet P ops (Mem B w0 L) R (o :: rest) a:=eQ2 d hF h (yld_row hF ho (okO_spec h).2.2.2 hx hi hv) k
theorem eN (d k:Nat) {t:Nat} (f:Nat → Value) (cs:Array Value) (hF:Fr n F a) (hM:Mem B w0 L w) (h:okO n ops F o d=true) (hr:∀ w,(execOp (evF F) o).run P w=.ok (.value (f w.heap.size)) (w.alloc (.cells cs t)))
    (kk:∀ b a' w',Fr n ((d,some (f b)) :: F) a' → Mem B w0 ((k,some (.row b t cs)) :: L) w' → K a' w'):One P ops Q o K a w :=
  have ⟨h1,h2,h3,h4⟩:=okO_spec h
  sNew k hF hM h3 h1 h2 h4 hr kk
end
theorem ro_of_own {w:World} {B e size n cap:Nat} {A:Option Addr} {xs:List Value} (h:w.ownsRow B e size (.slice A n cap) n xs):Ro w A xs:=fun j u hu=>by
  have hn:0 < n:=by
    rcases Nat.eq_zero_or_pos n with h0 | h0
    · have h1:=h.1
      have h2:=(List.getElem?_eq_some_iff.1 hu).1
      subst h0
      omega
    · exact h0
  obtain ⟨g,hA,_,_,hc⟩:=own_cells h hn
  exact ⟨g,0,hA,hc j u hu⟩
section
variable {P:Program} {n:NF} {F:List (Nat × Option Value)} {a:Act} {o:Oper} {v:Value} {w w0:World} {ops:Array Oper} {Q:Exit → Act → World → Prop} {B:Nat} {L:List (Nat × Option Ent)} {K:Act → World → Prop}
theorem roK (k:Nat) {A:Option Addr} {xs:List Value} (h:look k L=some (.ro A xs)):∀ w,Mem B w0 L w → Ro w A xs:=fun _ hM=>hM.ok k _ h
theorem roO (k:Nat) {A:Option Addr} {xs:List Value} {e size m cap:Nat} (h:look k L=some (.own (.slice A m cap) e size m xs)):∀ w,Mem B w0 L w → Ro w A xs:=fun _ hM=>ro_of_own (hM.ok k _ h)
theorem roR (k:Nat) {b t:Nat} {cs:Array Value} (h:look k L=some (.row b t cs)):∀ w,Mem B w0 L w → Ro w (some ⟨b,0,none⟩) cs.toList:=fun _ hM=>hM.roRow h
theorem Mem.addNil (hM:Mem B w0 L w) (k e size:Nat):Mem B w0 ((k,some (.own (.slice none 0 0) e size 0 [])) :: L) w :=
  hM.add k (World.ownsRow_nil w B e size) fun _ _ _ _ _ b hb=>by rcases hb with hb | hb <;> cases hb
def tyE (P:Program) (t:TypeId):Option (TypeId × Nat × Nat × Value) :=
  match P.underlying t with
  | some (.slice e) => match P.info? e with
    | some i => match i.zero with
      | some z => some (e, i.size, i.bytes, z)
      | none => none
    | none => none
  | _ => none
theorem tyE_spec {t e size bytes:Nat} {z:Value} (h:tyE P t=some (e,size,bytes,z)):P.underlying t=some (.slice e) ∧ ∃ i,P.info? e=some i ∧ i.zero=some z ∧ i.size=size ∧ i.bytes=bytes:=by
  unfold tyE at h
  split at h
  · rename_i e' hu
    split at h
    · rename_i i hi
      split at h
      · rename_i z' hz
        injection h with h
        injection h with h1 h
        injection h with h2 h
        injection h with h3 h4
        subst h1 h2 h3 h4
        exact ⟨hu,i,hi,hz,rfl,rfl⟩
      · cases h
    · cases h
  · cases h
theorem sMake (d k m:Nat) {t e size bytes:Nat} {x y:Operand} {z:Value} (xs:List Value) (hF:Fr n F a) (hM:Mem B w0 L w) (h:okO n ops F o d=true) (ho:o.op=.makeSlice t x y) (hx:evF F x=.int .i64 (m:Int)) (hy:evF F y=.int .i64 (m:Int))
    (ht:tyE P t=some (e,size,bytes,z)) (hxs:(madeCells z.cells (m * size)).toList=xs) (hb:bytes * m ≤ 281474976710656) (hm:m ≤ maxLen)
    (kk:∀ b a' w',Fr n ((d,some (.slice (some ⟨b,0,none⟩) m m)) :: F) a' → Mem B w0 ((k,some (.own (.slice (some ⟨b,0,none⟩) m m) e size m xs)) :: L) w' → K a' w'):One P ops Q o K a w:=by
  obtain ⟨h1,h2,h3,h4⟩:=okO_spec h
  obtain ⟨hu,i,hi,hz,hs,hby⟩:=tyE_spec ht
  subst hby
  obtain ⟨w',hr,how,hg⟩:=run_make_full (P:=P) w w.heap.size t e i z size hu hi hz hs .i64 .i64 m hb hm (Nat.le_refl _)
  refine sW hF h3 h1 h2 h4 (v:=.slice (some ⟨w.heap.size,0,none⟩) m m) (w':=w') ?_ fun a' ha=>kk _ a' _ ha ?_
  · simp [execOp,ho,hx,hy,hr]
  · rw [hxs] at how
    exact hM.fresh ⟨hg.os,hg.tape,hg.output,hg.size,fun k hk=>hg.block k hk (by simp)⟩ k (own_base how hM.lo) fun b hb=>(own_lt how hb).1
theorem sMake0 (d k m:Nat) {t e size bytes:Nat} {x y:Operand} {z:Value} (hF:Fr n F a) (hM:Mem B w0 L w) (h:okO n ops F o d=true) (ho:o.op=.makeSlice t x y) (hx:evF F x=.int .i64 0) (hy:evF F y=.int .i64 (m:Int))
    (ht:tyE P t=some (e,size,bytes,z)) (hb:bytes * m ≤ 281474976710656) (hm:m ≤ maxLen)
    (kk:∀ b a' w',Fr n ((d,some (.slice (some ⟨b,0,none⟩) 0 m)) :: F) a' → Mem B w0 ((k,some (.own (.slice (some ⟨b,0,none⟩) 0 m) e size 0 [])) :: L) w' → K a' w'):One P ops Q o K a w:=by
  obtain ⟨h1,h2,h3,h4⟩:=okO_spec h
  obtain ⟨hu,i,hi,hz,hs,hby⟩:=tyE_spec ht
  subst hby
  obtain ⟨w',hr,how,hg⟩:=run_make_own (P:=P) w w.heap.size t e i z size hu hi hz hs .i64 .i64 m hb hm (Nat.le_refl _)
  refine sW hF h3 h1 h2 h4 (v:=.slice (some ⟨w.heap.size,0,none⟩) 0 m) (w':=w') ?_ fun a' ha=>kk _ a' _ ha ?_
  · simp [execOp,ho,hx,hy,hr]
  · exact hM.fresh ⟨hg.os,hg.tape,hg.output,hg.size,fun k hk=>hg.block k hk (by simp)⟩ k (own_base how hM.lo) fun b hb=>(own_lt how hb).1
theorem run_store1 {P:Program} {w:World} {p:Addr} {u v:Value} (h1:v.oneCell'=true) (hc:w.cell? p=some u) (hf:w.frozen? p=false):(store p v).run P w=.ok () (w.setCell p v):=by
  cases v <;> simp_all [store,Sem.run,Value.oneCell']
theorem sStoreO (k:Nat) {ty e size m cap j:Nat} {x y:Operand} {A:Option Addr} {xs:List Value} (xs':List Value) (hF:Fr n F a) (hM:Mem B w0 L w) (hg:wantF ops F o=some true) (hd:o.dst=none) (ho:o.op=.store ty x y) (hk:known F o=true) (hx:evF F x=.pointer (some (ea A j)))
    (hi:look k L=some (.own (.slice A m cap) e size m xs)) (hs:(P.info? ty).map (·.size)=some 1) (h1:(evF F y).oneCell'=true) (hc:(evF F y).cells=#[evF F y]) (hj:j < xs.length) (hxs:xs.set j (evF F y)=xs')
    (kk:∀ w',Mem B w0 ((k,some (.own (.slice A m cap) e size m xs')) :: L) w' → K a w'):One P ops Q o K a w:=by
  have hown:w.ownsRow B e size (.slice A m cap) m xs:=hM.ok k _ hi
  have hr:=ro_of_own hown
  obtain ⟨hA,hcell⟩:=hr.at_ (List.getElem?_eq_getElem hj)
  have hlen:=hown.1
  have hm:0 < m:=by
    rcases Nat.eq_zero_or_pos m with h0 | h0
    · subst h0
      omega
    · exact h0
  obtain ⟨g,hA',_,_,_⟩:=own_cells hown hm
  subst hA'
  have hea:ea (some ⟨g,0,none⟩) j=⟨g,j,none⟩:=by simp [ea,gA]
  rw [hea] at hcell hx
  obtain ⟨hst,hgr⟩:=hown.stored j (evF F y)
  have hfz:=hown.frozenAt j
  refine sW0 hF hg hd hk (w':=w.setCell ⟨g,j,none⟩ (evF F y)) ?_ (kk _ (hM.turn hi rfl hgr (hxs ▸ hst) fun _ hb=>.inl hb))
  cases hq:P.info? ty with
  | none => simp [hq] at hs
  | some q =>
    have hz:q.size=1:=by simpa [hq] using hs
    have hstore:(store ⟨g,j,none⟩ (evF F y)).run P w=.ok () (w.setCell ⟨g,j,none⟩ (evF F y)):=run_store1 h1 hcell hfz
    have hcs:(storeCells ⟨g,j,none⟩ [evF F y]).run P w=.ok () (w.setCell ⟨g,j,none⟩ (evF F y)):=by
      simp only [storeCells,add_at,Nat.add_zero,Sem.run_bind,hstore,Result.andThen_ok,Sem.run_pure]
    have hvar:(storeVar ty ⟨g,j,none⟩ (evF F y)).run P w=.ok () (w.setCell ⟨g,j,none⟩ (evF F y)):=by
      unfold storeVar
      rw [hc]
      simp [sizeOf,typeInfo,hq,hz,hcs]
    simp only [execOp,ho,hx,Instr.storeAt,Instr.sureAddr,Sem.run_bind,Sem.run_pure,Result.andThen_ok,hvar]
theorem sApp (d k:Nat) {t e size bytes m c l cap:Nat} {s x:Operand} {z:Value} {A:Option Addr} {ad:Addr} {xs news:List Value} (xs':List Value) (hF:Fr n F a) (hM:Mem B w0 L w) (h:okO n ops F o d=true) (ho:o.op=.call { callee:=.builtin .append,args:=#[s,x],argTypes:=#[t,t] })
    (hs:evF F s=.slice A l cap) (hx:evF F x=.slice (some ad) m c) (ht:tyE P t=some (e,size,bytes,z)) (hzs:z.cells.size=size) (hsz:Nat.blt 0 size=true) (hi:look k L=some (.own (.slice A l cap) e size l xs))
    (hl:news.length=m * size) (hro:∀ w,Mem B w0 L w → Ro w (some ad) news) (h1:∀ u ∈ news,u.oneCell'=true) (hlen:l + m ≤ 1000000) (hby:bytes ≤ 1000000) (hxs:xs ++ news=xs')
    (kk:∀ A' cap' a' w',Fr n ((d,some (.slice A' (l + m) cap')) :: F) a' → Mem B w0 ((k,some (.own (.slice A' (l + m) cap') e size (l + m) xs')) :: L) w' → K a' w'):One P ops Q o K a w:=by
  subst hxs
  obtain ⟨h1',h2,h3,h4⟩:=okO_spec h
  obtain ⟨hu,i,hinf,hz,hsize,hbytes⟩:=tyE_spec ht
  have hown:w.ownsRow B e size (.slice A l cap) l xs:=hM.ok k _ hi
  have hread:=hro w hM
  have hprod:(l + m) * bytes ≤ 1000000 * 1000000:=Nat.mul_le_mul hlen hby
  obtain ⟨v',w',hr,ho2,hg,_,hb⟩:=run_append_own_at (P:=P) w B t o.type e i z size bytes hu hinf hz hsize hbytes hzs (Nat.le_of_ble_eq_true hsz) (.slice A l cap) l xs hown ad m c news hl (fun j u hu=>by
      obtain ⟨b,off,e1,hc⟩:=hread j u hu
      injection e1 with e1
      subst e1
      rw [add_at]
      exact hc) h1 (by unfold maxLen; omega) (by omega) hM.lo
  obtain ⟨A',cap',rfl,_,_⟩:=own_form ho2
  refine sW hF h3 h1' h2 h4 (v:=.slice A' (l + m) cap') (w':=w') ?_ fun a' ha=>kk A' cap' a' w' ha (hM.turn hi rfl hg ho2 fun b hb'=>?_)
  · simp [execOp,ho,resolve,invoke,builtin,hs,hx,hr]
  · rcases hb with hb | hb
    · exact .inl (hb.symm.trans hb')
    · rw [show (Ent.own (.slice A' (l + m) cap') e size (l + m) (xs ++ news)).blk=Value.ownBlock (.slice A' (l + m) cap') from rfl,hb] at hb'
      injection hb' with hb'
      exact .inr (by omega)
theorem sAppA (d k:Nat) {t e size bytes m c l cap:Nat} {s x:Operand} {z:Value} {A A2:Option Addr} {xs news:List Value} (xs':List Value) (hF:Fr n F a) (hM:Mem B w0 L w) (h:okO n ops F o d=true) (ho:o.op=.call { callee:=.builtin .append,args:=#[s,x],argTypes:=#[t,t] })
    (hs:evF F s=.slice A l cap) (hx:evF F x=.slice A2 m c) (ht:tyE P t=some (e,size,bytes,z)) (hzs:z.cells.size=size) (hsz:Nat.blt 0 size=true) (hi:look k L=some (.own (.slice A l cap) e size l xs))
    (hl:news.length=m * size) (hro:∀ w,Mem B w0 L w → Ro w A2 news) (h1:∀ u ∈ news,u.oneCell'=true) (hlen:l + m ≤ 1000000) (hby:bytes ≤ 1000000) (hxs:xs ++ news=xs') (hnil:A2=none → m=0 ∧ c=0)
    (kk:∀ A' cap' a' w',Fr n ((d,some (.slice A' (l + m) cap')) :: F) a' → Mem B w0 ((k,some (.own (.slice A' (l + m) cap') e size (l + m) xs')) :: L) w' → K a' w'):One P ops Q o K a w:=by
  cases A2 with
  | some ad => exact sApp d k xs' hF hM h ho hs hx ht hzs hsz hi hl hro h1 hlen hby hxs kk
  | none =>
    obtain ⟨rfl,rfl⟩:=hnil rfl
    have hn:news=[]:=List.length_eq_zero_iff.1 (by rw [hl]; simp)
    subst hn
    rw [List.append_nil] at hxs
    subst hxs
    obtain ⟨h1',h2,h3,h4⟩:=okO_spec h
    obtain ⟨hu,i,hinf,_,_,_⟩:=tyE_spec ht
    have hown:w.ownsRow B e size (.slice A l cap) l xs:=hM.ok k _ hi
    have hr:=run_append_owned_none (P:=P) w B t o.type e i size hu hinf (.slice A l cap) l xs hown
    refine sW hF h3 h1' h2 h4 (v:=.slice A l cap) (w':=w) ?_ fun a' ha=>kk A cap a' w ha (hM.turn hi rfl (grown_refl w _) hown fun _ hb=>.inl hb)
    simp [execOp,ho,resolve,invoke,builtin,hs,hx,hr]
theorem Mem.rowOwn {k b t m size:Nat} {cs:Array Value} (hM:Mem B w0 L w) (h:look k L=some (.row b t cs)) (hs:cs.size=m * size) (hm:m ≤ maxLen):Mem B w0 ((k,some (.own (.slice (some ⟨b,0,none⟩) m m) t size m cs.toList)) :: L) w :=
  hM.turn h rfl (grown_refl w _) ⟨by simpa using hs,.inr ⟨b,m,cs,rfl,(hM.ok k _ h).2,(hM.ok k _ h).1,Nat.le_refl _,hm,hs,List.take_of_length_le (by simp; omega)⟩⟩ fun _ hb=>.inl hb
theorem flat2_snoc' (l:List (Int × Int)) (x y:Int):flat2 l ++ [.int .i64 x,.int .i64 y]=flat2 (l ++ [(x,y)]):=(flat2_snoc l (x,y)).symm
theorem map_set' (l:List Int) (j:Nat) (x:Int) (kd:IntKind):(l.map (Value.int kd)).set j (.int kd x)=(l.set j x).map (Value.int kd):=List.map_set.symm
end
section
variable {P:Program} {n:NF} {F:List (Nat × Option Value)} {a:Act} {o:Oper} {C:World → Prop}
end
theorem rounds_k {P:Program} {c:Code} {Q:Exit → Act → World → Prop} {n:Nat} {a:Act} {w:World} (h:∀ K:Act → World → Prop,(∀ a w,Code.rounds P c Q n a w → K a w) → c.wp P (Exit.then K Q) a w):Code.rounds P c Q (n + 1) a w:=h _ fun _ _ h=>h
section
variable {P:Program} {n:NF} {B:Nat} {F:List (Nat × Option Value)} {L:List (Nat × Option Ent)} {a:Act} {w w0:World} {o:Oper} {ops:Array Oper} {Q:Exit → Act → World → Prop} {K:Act → World → Prop} {C:World → Prop}
theorem Mem.move (h:Mem B w0 L w) (k k':Nat) {e:Ent} (hk:look k' L=some e) (hne:k ≠ k'):Mem B w0 ((k,some e) :: (k',none) :: L) w:=by
  have key:∀ i x,look i ((k,some e) :: (k',none) :: L)=some x → (i=k ∧ x=e) ∨ (i ≠ k ∧ i ≠ k' ∧ look i L=some x):=by
    intro i x hx
    by_cases h1:i=k
    · subst h1
      rw [look_self] at hx
      exact .inl ⟨rfl,(Option.some.inj hx).symm⟩
    · rw [look_other (fun q=>h1 q.symm)] at hx
      by_cases h2:i=k'
      · subst h2
        rw [look_self] at hx
        cases hx
      · rw [look_other (fun q=>h2 q.symm)] at hx
        exact .inr ⟨h1,h2,hx⟩
  refine ⟨h.bel,h.lo,fun i x hx=>?_,fun i j x y hij hx hy=>?_⟩
  · rcases key i x hx with ⟨_,rfl⟩ | ⟨_,_,hx⟩
    · exact h.ok k' _ hk
    · exact h.ok i _ hx
  · rcases key i x hx with ⟨i1,hx⟩ | ⟨i1,i2,hx⟩
    · rcases key j y hy with ⟨j1,hy⟩ | ⟨j1,j2,hy⟩
      · exact absurd (i1.trans j1.symm) hij
      · exact hx ▸ h.ap k' j _ _ (fun q=>j2 q.symm) hk hy
    · rcases key j y hy with ⟨j1,hy⟩ | ⟨j1,j2,hy⟩
      · exact hy ▸ h.ap i k' _ _ i2 hx hk
      · exact h.ap i j _ _ hij hx hy
theorem Sub.mid (k:Nat) (x y:Option Ent):Sub ((k,x) :: L) ((k,x) :: (k,y) :: L):=fun j e he=>by
  by_cases h:j=k
  · subst h
    rw [look_self] at he ⊢
    exact he
  · rw [look_other (fun q=>h q.symm)] at he ⊢
    rw [look_other (fun q=>h q.symm)]
    exact he
theorem sAppR (d k:Nat) {t e size bytes m c l b:Nat} {s x:Operand} {z:Value} {A2:Option Addr} {cs:Array Value} {news:List Value} (xs':List Value) (hF:Fr n F a) (hM:Mem B w0 L w) (h:okO n ops F o d=true) (ho:o.op=.call { callee:=.builtin .append,args:=#[s,x],argTypes:=#[t,t] })
    (hs:evF F s=.slice (some ⟨b,0,none⟩) l l) (hx:evF F x=.slice A2 m c) (ht:tyE P t=some (e,size,bytes,z)) (hzs:z.cells.size=size) (hsz:Nat.blt 0 size=true) (hi:look k L=some (.row b e cs)) (hcs:cs.size=l * size)
    (hl:news.length=m * size) (hro:∀ w,Mem B w0 ((k,some (.own (.slice (some ⟨b,0,none⟩) l l) e size l cs.toList)) :: L) w → Ro w A2 news) (h1:∀ u ∈ news,u.oneCell'=true) (hlen:l + m ≤ 1000000) (hby:bytes ≤ 1000000) (hxs:cs.toList ++ news=xs') (hnil:A2=none → m=0 ∧ c=0)
    (kk:∀ A' cap' a' w',Fr n ((d,some (.slice A' (l + m) cap')) :: F) a' → Mem B w0 ((k,some (.own (.slice A' (l + m) cap') e size (l + m) xs')) :: L) w' → K a' w'):One P ops Q o K a w :=
  sAppA d k xs' hF (hM.rowOwn hi hcs (by unfold maxLen; omega)) h ho hs hx ht hzs hsz (look_self _ _ _) hl hro h1 hlen hby hxs hnil fun A' cap' a' w' ha hm=>kk A' cap' a' w' ha (hm.sub (Sub.mid _ _ _))
theorem sAppR0 (d k:Nat) {t e size bytes m c b:Nat} {s x:Operand} {z:Value} {A2:Option Addr} {news:List Value} (xs':List Value) (hF:Fr n F a) (hM:Mem B w0 L w) (h:okO n ops F o d=true) (ho:o.op=.call { callee:=.builtin .append,args:=#[s,x],argTypes:=#[t,t] })
    (hs:evF F s=.slice (some ⟨b,0,none⟩) 0 0) (hx:evF F x=.slice A2 m c) (ht:tyE P t=some (e,size,bytes,z)) (hzs:z.cells.size=size) (hsz:Nat.blt 0 size=true) (hi:look k L=some (.row b e #[]))
    (hl:news.length=m * size) (hro:∀ w,Mem B w0 ((k,some (.own (.slice (some ⟨b,0,none⟩) 0 0) e size 0 [])) :: L) w → Ro w A2 news) (h1:∀ u ∈ news,u.oneCell'=true) (hlen:m ≤ 1000000) (hby:bytes ≤ 1000000) (hxs:news=xs') (hnil:A2=none → m=0 ∧ c=0)
    (kk:∀ A' cap' a' w',Fr n ((d,some (.slice A' m cap')) :: F) a' → Mem B w0 ((k,some (.own (.slice A' m cap') e size m xs')) :: L) w' → K a' w'):One P ops Q o K a w :=
  sAppR (l:=0) (cs:=#[]) d k xs' hF hM h ho hs hx ht hzs hsz hi (by simp) hl hro h1 (by omega) hby (by simpa using hxs) hnil fun A' cap' a' w' g1 g2=>kk A' cap' a' w' (by rwa [Nat.zero_add] at g1) (by rwa [Nat.zero_add] at g2)
end
section
variable {P:Program} {n:NF} {F:List (Nat × Option Value)} {a:Act} {o:Oper} {C:World → Prop}
theorem yld_shl {t t':TypeId} {x y:Operand} {kd yk:IntKind} {r:Int} (p q:Int) (hF:Fr n F a) (ho:o.op=.binOp .shl t x y t') (hk:known F o=true) (hx:evF F x=.int kd p) (hy:evF F y=.int yk q) (hq:0 ≤ q) (hr:kd.wrap (p * 2 ^ min q.toNat kd.bits)=r):Yld P o a C (.int kd r):=by
  intro w _
  unfold Oper.quietAt
  rw [hF.exec hk]
  have hq':¬ q < 0:=by omega
  simp [execOp,ho,hx,hy,eqGuard,binOp,Op.shift,hq',hr,Oper.quietUpon]
theorem yld_shr {t t':TypeId} {x y:Operand} {kd yk:IntKind} {r:Int} (p q:Int) (hF:Fr n F a) (ho:o.op=.binOp .shr t x y t') (hk:known F o=true) (hx:evF F x=.int kd p) (hy:evF F y=.int yk q) (hq:0 ≤ q) (hr:p.fdiv (2 ^ min q.toNat kd.bits)=r):Yld P o a C (.int kd r):=by
  intro w _
  unfold Oper.quietAt
  rw [hF.exec hk]
  have hq':¬ q < 0:=by omega
  simp [execOp,ho,hx,hy,eqGuard,binOp,Op.shift,hq',hr,Oper.quietUpon]
end
theorem shlN (x s r:Nat) {q:Int} (hq:q.toNat=s) (hs:s ≤ 64) (h:r=x * 2 ^ s) (hr:r < 18446744073709551616):IntKind.u64.wrap ((x:Int) * 2 ^ min q.toNat IntKind.u64.bits)=(r:Int):=by
  have e:min q.toNat IntKind.u64.bits=s:=by rw [hq]; exact Nat.min_eq_left hs
  have e2:(x:Int) * 2 ^ s=((x * 2 ^ s:Nat):Int):=by simp
  rw [e,e2,← h,u64_wrap]
  omega
theorem shlM (x s r:Nat) {q:Int} (hq:q.toNat=s) (hs:s ≤ 64) (h:r=x * 2 ^ s % 18446744073709551616):IntKind.u64.wrap ((x:Int) * 2 ^ min q.toNat IntKind.u64.bits)=(r:Int):=by
  have e:min q.toNat IntKind.u64.bits=s:=by rw [hq]; exact Nat.min_eq_left hs
  have e2:(x:Int) * 2 ^ s=((x * 2 ^ s:Nat):Int):=by simp
  rw [e,e2,u64_wrap,h]
  omega
theorem shrN (x s r:Nat) {q:Int} (hq:q.toNat=s) (hs:s ≤ 64) (h:r=x / 2 ^ s):(x:Int).fdiv (2 ^ min q.toNat IntKind.u64.bits)=(r:Int):=by
  have e:min q.toNat IntKind.u64.bits=s:=by rw [hq]; exact Nat.min_eq_left hs
  rw [e,Int.fdiv_eq_ediv_of_nonneg _ (Int.pow_nonneg (by decide)),h]
  simp
theorem andMask (x r:Nat) (hx:x < 18446744073709551616) (h:r=x % 4294967296):IntKind.u64.wrap ((BitVec.ofInt 64 (x:Int) &&& BitVec.ofInt 64 4294967295).toNat:Int)=(r:Int):=by
  have h1:(BitVec.ofInt 64 (x:Int)).toNat=x:=by rw [BitVec.ofInt_natCast,BitVec.toNat_ofNat]; exact Nat.mod_eq_of_lt hx
  have h2:(BitVec.ofInt 64 4294967295).toNat=4294967295:=by decide
  have e:x &&& 4294967295=x % 4294967296:=Nat.and_two_pow_sub_one_eq_mod x 32
  rw [BitVec.toNat_and,h1,h2,e,u64_wrap]
  omega
theorem orN (x y r:Nat) (hx:x < 18446744073709551616) (hy:y < 18446744073709551616) (h:x ||| y=r):IntKind.u64.wrap ((BitVec.ofInt 64 (x:Int) ||| BitVec.ofInt 64 (y:Int)).toNat:Int)=(r:Int):=by
  have hl:x ||| y < 2 ^ 64:=Nat.or_lt_two_pow hx hy
  have h1:(BitVec.ofInt 64 (x:Int)).toNat=x:=by rw [BitVec.ofInt_natCast,BitVec.toNat_ofNat]; exact Nat.mod_eq_of_lt hx
  have h2:(BitVec.ofInt 64 (y:Int)).toNat=y:=by rw [BitVec.ofInt_natCast,BitVec.toNat_ofNat]; exact Nat.mod_eq_of_lt hy
  rw [BitVec.toNat_or,h1,h2,u64_wrap]
  omega
section
variable {P:Program} {n:NF} {B:Nat} {F:List (Nat × Option Value)} {L:List (Nat × Option Ent)} {a:Act} {w w0:World} {o:Oper} {ops:Array Oper} {Q:Exit → Act → World → Prop} {K:Act → World → Prop}
theorem own_cap (hM:Mem B w0 L w) {k m c e size:Nat} {A:Option Addr} {xs:List Value} (h:look k L=some (.own (.slice A m c) e size m xs)):m ≤ c:=by
  have ho:w.ownsRow B e size (.slice A m c) m xs:=hM.ok k _ h
  rcases ho.2 with ⟨h0,_⟩ | ⟨g,cap,cur,hv,_,_,hle,_⟩
  · injection h0 with _ h1 h2
    omega
  · injection hv with _ _ h2
    omega
end
abbrev iv (x:Int):Value:=.int .i64 x
abbrev pt (b o:Nat):Value:=.pointer (some ⟨b,o,none⟩)
section
variable {P:Program} {n:NF} {F:List (Nat × Option Value)} {a:Act} {o:Oper} {v v0:Value} {w w0:World} {ops:Array Oper} {Q:Exit → Act → World → Prop} {B:Nat} {L:List (Nat × Option Ent)} {K:Act → World → Prop} {C:World → Prop} {R:Act → Prop} {rest l:List Oper}
theorem xP (d:Nat) (hF:Fr n F a) (hv:v0=v) (k:∀ a',Fr n ((d,some v) :: F) a' → K a' w) (h:okO n ops F o d=true:=by kernel_rfl) (hr:∀ w,(execOp (evF F) o).run P w=.ok (.value v0) w:=by intro _; kernel_rfl):One P ops Q o K a w:=eP d hF h hr hv k
theorem xQ (d:Nat) (hF:Fr n F a) (hv:v0=v) (k:∀ a',Fr n ((d,some v) :: F) a' → wpQuiet P ops C R rest a') (h:okO n ops F o d=true:=by kernel_rfl) (hr:∀ w,(execOp (evF F) o).run P w=.ok (.value v0) w:=by intro _; kernel_rfl):wpQuiet P ops C R (o :: rest) a:=eQ d hF h hr hv k
theorem xM (d:Nat) (hF:Fr n F a) (hM:Mem B w0 L w) (hy:Yld P o a (Mem B w0 L) v) (k:∀ a' w',Fr n ((d,some v) :: F) a' → Mem B w0 L w' → K a' w') (h:okO n ops F o d=true:=by kernel_rfl):One P ops Q o K a w:=eM d hF hM h hy k
theorem xR (d:Nat) (hF:Fr n F a) (hy:Yld P o a C v) (k:∀ a',Fr n ((d,some v) :: F) a' → wpQuiet P ops C R rest a') (h:okO n ops F o d=true:=by kernel_rfl):wpQuiet P ops C R (o :: rest) a:=eQ2 d hF h hy k
theorem xL (d i off:Nat) {ty t:TypeId} {x:Operand} {b:Nat} {cs:Array Value} (hF:Fr n F a) (hM:Mem B w0 L w) (k:∀ a' w',Fr n ((d,some v) :: F) a' → Mem B w0 L w' → K a' w') (ho:o.op=.load ty x:=by rfl) (hi:look i L=some (.row b t cs):=by rfl) (h:okO n ops F o d=true:=by kernel_rfl) (hx:evF F x=.pointer (some ⟨b,off,none⟩):=by kernel_rfl) (hv:rdRow P ty cs.toList off=some v:=by kernel_rfl):One P ops Q o K a w:=eL d i off hF hM h ho hi hx hv k
theorem xK (d i off:Nat) {ty t:TypeId} {x:Operand} {b:Nat} {cs:Array Value} (hF:Fr n F a) (k:∀ a',Fr n ((d,some v) :: F) a' → wpQuiet P ops (Mem B w0 L) R rest a') (ho:o.op=.load ty x:=by rfl) (hi:look i L=some (.row b t cs):=by rfl) (h:okO n ops F o d=true:=by kernel_rfl) (hx:evF F x=.pointer (some ⟨b,off,none⟩):=by kernel_rfl) (hv:rdRow P ty cs.toList off=some v:=by kernel_rfl):wpQuiet P ops (Mem B w0 L) R (o :: rest) a:=eQL d i off hF h ho hi hx hv k
theorem xS (i off:Nat) (cs':Array Value) {ty t:TypeId} {x y:Operand} {b:Nat} {cs:Array Value} (hF:Fr n F a) (hM:Mem B w0 L w) (k:∀ w',Mem B w0 ((i,some (.row b t cs')) :: L) w' → K a w') (ho:o.op=.store ty x y:=by rfl) (hi:look i L=some (.row b t cs):=by rfl) (hd:o.dst=none:=by rfl) (hg:wantF ops F o=some true:=by kernel_rfl) (hk:known F o=true:=by kernel_rfl) (hx:evF F x=.pointer (some ⟨b,off,none⟩):=by kernel_rfl) (hv:wrRow P ty cs off (evF F y)=some cs':=by kernel_rfl):One P ops Q o K a w:=sStore hF hM hg hd ho hk hx hi hv k
theorem xN (d k:Nat) {t:Nat} (f:Nat → Value) (cs:Array Value) (hF:Fr n F a) (hM:Mem B w0 L w) (kk:∀ b a' w',Fr n ((d,some (f b)) :: F) a' → Mem B w0 ((k,some (.row b t cs)) :: L) w' → K a' w') (h:okO n ops F o d=true:=by kernel_rfl) (hr:∀ w,(execOp (evF F) o).run P w=.ok (.value (f w.heap.size)) (w.alloc (.cells cs t)):=by intro _; kernel_rfl):One P ops Q o K a w:=eN d k f cs hF hM h hr kk
theorem xB (k:Nat) (ds:List (Nat × Value)) (hF:Fr n F a) (kk:∀ a',Fr n (pushF ds F) a' → wpList P ops Q (l.drop k) a' w) (h:runF P ops n w (l.take k) F=some (pushF ds F,w):=by kernel_rfl):wpList P ops Q l a w:=sB k ds hF h kk
theorem xT {c:Operand} {x y:Code} (hF:Fr n F a) (h:x.wp P Q a w) (hk:knows F c=true:=by kernel_rfl) (hc:evF F c=.bool true:=by kernel_rfl):(Code.cond c x y).wp P Q a w:=cT hF hk hc h
theorem xF {c:Operand} {x y:Code} (hF:Fr n F a) (h:y.wp P Q a w) (hk:knows F c=true:=by kernel_rfl) (hc:evF F c=.bool false:=by kernel_rfl):(Code.cond c x y).wp P Q a w:=cF hF hk hc h
theorem xC (f:FuncId) (args:Array Value) (hF:Fr n F a) (hc:∀ w,Mem B w0 L w → Calls P f args w (Ret w v)) (hk:known F o=true:=by kernel_rfl) (hr:∀ w,(execOp (evF F) o).run P w=.ok (.enter f args) w:=by intro _; kernel_rfl):Yld P o a (Mem B w0 L) v:=yld_call hF hk hr hc
end
def selF {α:Type} (S:List Bool):List (Nat × Nat × Nat) → Nat → Option α → Option α
  | [], _, v => v
  | (d0, i0, c) :: r, d, v => bif Nat.ble d0 d && Nat.ble (d + 1) (d0 + c) then (bif S.getD (i0 + (d - d0)) false then v else none) else selF S r d v
def selO {α:Type} (S:List Bool):List (Nat × Nat × Option α) → Nat → Option α → Option α
  | [], _, v => v
  | (d0, i, x) :: r, d, v => bif Nat.beq d0 d then (bif S.getD i false then v else x) else selO S r d v
def fF {α:Type} (S:List Bool) (tg:List (Nat × Nat × Nat)) (ol:List (Nat × Nat × Option α)) (F:List (Nat × Option α)):List (Nat × Option α):=F.map fun p=>(p.1,selO S ol p.1 (selF S tg p.1 p.2))
section
variable {P:Program} {n:NF} {F F':List (Nat × Option Value)} {L L':List (Nat × Option Ent)} {a:Act} {w w0:World} {B:Nat} {Q:Exit → Act → World → Prop} {l:List Oper} {St:List Bool → Act → World → Prop}
theorem look_pk {α:Type} {F F':List (Nat × Option α)} (e:(F'.map fun p=>(p.1,look p.1 F))=F'):∀ i v,look i F'=some v → look i F=some v:=by
  have hall:∀ p ∈ F',look p.1 F=p.2:=fun p hp=>by
    have h1:∀ (G:List (Nat × Option α)),(G.map fun p=>(p.1,look p.1 F))=G → ∀ p ∈ G,look p.1 F=p.2:=fun G=>by
      induction G with
      | nil => intro _ p hp; cases hp
      | cons x G ih =>
        intro hG p hp
        rw [List.map_cons,List.cons.injEq] at hG
        rcases List.mem_cons.1 hp with rfl | hp
        · exact congrArg Prod.snd hG.1
        · exact ih hG.2 p hp
    exact h1 F' e p hp
  have hmem:∀ (G:List (Nat × Option α)) i v,look i G=some v → (i,some v) ∈ G:=fun G i v=>by
    induction G with
    | nil => intro h; cases h
    | cons x G ih =>
      obtain ⟨j,y⟩:=x
      intro h
      rw [look] at h
      cases hj:Nat.beq j i with
      | true => rw [hj] at h; rw [← Nat.eq_of_beq_eq_true hj]; exact List.mem_cons.2 (.inl (by rw [show y = some v from h]))
      | false => rw [hj] at h; exact List.mem_cons_of_mem _ (ih h)
  exact fun i v h=>hall (i,some v) (hmem _ i v h)
theorem Fr.pk (h:Fr n F a) (e:(F'.map fun p=>(p.1,look p.1 F))=F':=by kernel_rfl):Fr n F' a:=⟨h.sz,h.df,fun i v hv=>h.has i v (look_pk e i v hv)⟩
theorem Mem.pk (h:Mem B w0 L w) (e:(L'.map fun p=>(p.1,look p.1 L))=L':=by kernel_rfl):Mem B w0 L' w:=h.sub fun i v hv=>look_pk e i v hv
theorem Mem.dk (h:Mem B w0 L w) (e:(L'.map fun p=>(p.1,look p.1 L))=L':=by kernel_rfl):Mem B w0 L' { w with drawn:=w.drawn + 1 }:=h.drew.pk e
theorem Fr.k (h:Fr n F a) (e:F=F':=by kernel_rfl):Fr n F' a:=e ▸ h
theorem Mem.k (h:Mem B w0 L w) (e:L=L':=by kernel_rfl):Mem B w0 L' w:=e ▸ h
theorem Fr.rc {c:Option Value} {d:Nat} (h:Fr n ((d,c) :: F) a) (p:Nat) (hp:keyAt p d F=true:=by kernel_rfl) (e:F.set p (d,c)=F':=by kernel_rfl):Fr n F' a:=(h.repl p hp).cast e
theorem Mem.rc {c:Option Ent} {d:Nat} (h:Mem B w0 ((d,c) :: L) w) (p:Nat) (hp:keyAt p d L=true:=by kernel_rfl) (e:L.set p (d,c)=L':=by kernel_rfl):Mem B w0 L' w:=(h.repl p hp).cast e
theorem Fr.fin {m:Nat} {tg:List (Nat × Nat × Nat)} {ol:List (Nat × Nat × Option Value)} (h:Fr n (fF (List.replicate m true) tg ol F) a) (e:fF (List.replicate m true) tg ol F=F:=by kernel_rfl):Fr n F a:=e ▸ h
theorem Mem.fin {m:Nat} {tg:List (Nat × Nat × Nat)} {ol:List (Nat × Nat × Option Ent)} (h:Mem B w0 (fF (List.replicate m true) tg ol L) w) (e:fF (List.replicate m true) tg ol L=L:=by kernel_rfl):Mem B w0 L w:=e ▸ h
end
end Go.Proofs.YtlngflbamkgjlaaGreat
namespace Go.Proofs.YtlngflbamkgjlaaGreat
open Go.RowKit
set_option linter.unusedVariables false
set_option linter.unusedSimpArgs false
section
variable {P:Program} {n:NF} {F:List (Nat × Option Value)} {a:Act} {o:Oper} {C:World → Prop}
end
end Go.Proofs.YtlngflbamkgjlaaGreat
namespace Go.Proofs.YtlngflbamkgjlaaGreat
set_option linter.unusedVariables false
def rc (l:List (List Int)) (k j:Nat):Int:=((l[k]?).getD []).getD j 0
def flatR (l:List (List Int)):List Value:=l.flatMap fun x=>x.map (Value.int .i64)
def WR (n:Nat) (l:List (List Int)):Prop:=∀ x ∈ l,x.length=n
theorem WR.tail {n:Nat} {x:List Int} {l:List (List Int)} (h:WR n (x :: l)):WR n l:=fun y hy=>h y (List.mem_cons_of_mem _ hy)
theorem WR.head {n:Nat} {x:List Int} {l:List (List Int)} (h:WR n (x :: l)):x.length=n:=h x (List.mem_cons_self ..)
theorem flatR_length {n:Nat}:∀ {l:List (List Int)},WR n l → (flatR l).length=l.length * n
  | [], _ => by simp [flatR]
  | x :: r, h => by
    have ih:=flatR_length h.tail
    have h0:=h.head
    simp only [flatR,List.flatMap_cons,List.length_append,List.length_map,List.length_cons] at *
    rw [ih,h0,Nat.succ_mul]
    omega
theorem rc_at {n:Nat}:∀ {l:List (List Int)} {k i:Nat},WR n l → k < l.length → i < n → (flatR l)[k * n + i]?=some (.int .i64 (rc l k i))
  | x :: r, 0, i, h, _, hi => by
    have h0:=h.head
    simp only [flatR,List.flatMap_cons,Nat.zero_mul,Nat.zero_add]
    rw [List.getElem?_append_left (by simp; omega)]
    simp [rc,h0,hi,List.getD_eq_getElem?_getD]
  | x :: r, k + 1, i, h, hk, hi => by
    have h0:=h.head
    have ih:=rc_at (i:=i) h.tail (k:=k) (by simpa using hk) hi
    simp only [flatR,List.flatMap_cons]
    rw [List.getElem?_append_right (by simp; rw [Nat.succ_mul]; omega)]
    rw [show (k + 1) * n + i - (x.map (Value.int .i64)).length=k * n + i by simp; rw [h0,Nat.succ_mul]; omega]
    exact ih
theorem rc_sub {n f m:Nat} {l:List (List Int)} {k:Nat} {us:List Value} (h:WR n l) (hk:k < l.length) (hm:f + m ≤ n) (hu:us=(List.range m).map fun i=>.int .i64 (rc l k (f + i))):∀ i u,us[i]?=some u → (flatR l)[k * n + f + i]?=some u:=fun i u hi=>by
  subst hu
  obtain ⟨hl,e⟩:=List.getElem?_eq_some_iff.1 hi
  simp at hl
  rw [Nat.add_assoc,rc_at h hk (by omega)]
  simpa using e
end Go.Proofs.YtlngflbamkgjlaaGreat
namespace Go.Proofs.YtlngflbamkgjlaaGreat
open Go.RowKit
set_option linter.unusedVariables false
set_option linter.unusedSimpArgs false
def putL:List Value → Nat → List Value → List Value
  | xs, _, [] => xs
  | xs, j, u :: us => putL (xs.set j u) (j + 1) us
theorem putL_eq:∀ (us xs:List Value) (j:Nat),j + us.length ≤ xs.length → putL xs j us=xs.take j ++ (us ++ xs.drop (j + us.length))
  | [], xs, j, _ => by simp [putL]
  | u :: us, xs, j, h => by
    simp only [List.length_cons] at h
    rw [putL,putL_eq us _ _ (by simp; omega)]
    have e1:(xs.set j u).take (j + 1)=xs.take j ++ [u]:=by
      rw [List.take_set,List.take_add_one,List.getElem?_eq_getElem (by omega),List.set_append_right _ _ (by simp; omega)]
      simp [show j - min j xs.length=0 by omega]
    have e2:(xs.set j u).drop (j + 1 + us.length)=xs.drop (j + (u :: us).length):=by
      rw [List.drop_set_of_lt (by omega)]
      congr 1
      simp
      omega
    rw [e1,e2]
    simp
theorem putL_append:∀ (us vs bs:List Value) (j:Nat),putL (vs ++ bs) (vs.length + j) us=vs ++ putL bs j us
  | [], _, _, _ => rfl
  | u :: us, vs, bs, j => by
    rw [putL,putL,List.set_append_right _ _ (by omega),show vs.length + j - vs.length=j by omega,Nat.add_assoc,putL_append us]
theorem WR.nil {n:Nat}:WR n []:=fun y hy=>by cases hy
theorem WR.set {n k:Nat} {l:List (List Int)} {r:List Int} (h:WR n l) (hr:r.length=n):WR n (l.set k r):=fun y hy=>by
  rcases List.mem_or_eq_of_mem_set hy with h1 | rfl
  · exact h y h1
  · exact hr
theorem WR.app {n:Nat} {l m:List (List Int)} (h:WR n l) (hm:WR n m):WR n (l ++ m):=fun y hy=>by
  rcases List.mem_append.1 hy with h1 | h1
  · exact h y h1
  · exact hm y h1
theorem WR.one {n:Nat} {r:List Int} (hr:r.length=n):WR n [r]:=fun y hy=>by
  rw [List.mem_singleton] at hy
  exact hy ▸ hr
theorem WR.take {n m:Nat} {l:List (List Int)} (h:WR n l):WR n (l.take m):=fun y hy=>h y (List.mem_of_mem_take hy)
theorem flatR_append (l m:List (List Int)):flatR (l ++ m)=flatR l ++ flatR m:=by simp [flatR]
section
variable {P:Program} {n:NF} {B:Nat} {F:List (Nat × Option Value)} {L:List (Nat × Option Ent)} {a:Act} {w w0:World} {o:Oper} {ops:Array Oper} {Q:Exit → Act → World → Prop} {K:Act → World → Prop}
theorem own_cellsStored {k e size m cap g j:Nat}:∀ (us:List Value) (i:Nat) {w:World} {L:List (Nat × Option Ent)} {xs:List Value},Mem B w0 L w → look k L=some (.own (.slice (some ⟨g,0,none⟩) m cap) e size m xs) → (∀ u ∈ us,u.oneCell'=true) → j + i + us.length ≤ xs.length →
    ∃ w',(storeCells ⟨g,j,none⟩ us i).run P w=.ok () w' ∧ Mem B w0 ((k,some (.own (.slice (some ⟨g,0,none⟩) m cap) e size m (putL xs (j + i) us))) :: L) w'
  | [], i, w, L, xs, hM, hi, _, _ => ⟨w, rfl, hM.turn hi rfl (grown_refl w _) (hM.ok k _ hi) fun _ hb => .inl hb⟩
  | u :: us, i, w, L, xs, hM, hi, h1, hj => by
    simp only [List.length_cons] at hj
    have hown:w.ownsRow B e size (.slice (some ⟨g,0,none⟩) m cap) m xs:=hM.ok k _ hi
    have hlen:=hown.1
    have hc0:w.cell? ⟨g,j + i,none⟩=some (xs[j + i]'(by omega)):=(hown.cellAt (j + i) (by omega)).trans (List.getElem?_eq_getElem (by omega))
    obtain ⟨hst,hgr⟩:=hown.stored (j + i) u
    have hf0:=hown.frozenAt (j + i)
    have hM1:=hM.turn (e':=.own (.slice (some ⟨g,0,none⟩) m cap) e size m (xs.set (j + i) u)) hi rfl hgr hst fun _ hb=>.inl hb
    obtain ⟨w',hr,hM2⟩:=own_cellsStored (j:=j) (xs:=xs.set (j + i) u) us (i + 1) hM1 (look_self _ _ _) (fun x hx=>h1 x (List.mem_cons_of_mem _ hx)) (by rw [List.length_set]; omega)
    refine ⟨w',?_,hM2.sub (Sub.mid _ _ _)⟩
    have hs1:(store ((⟨g,j,none⟩:Addr).add i) u).run P w=.ok () (w.setCell ⟨g,j + i,none⟩ u):=by rw [add_at]; exact run_store1 (h1 u (List.mem_cons_self ..)) hc0 hf0
    simp only [storeCells,Sem.run_bind,hs1,Result.andThen_ok]
    exact hr
theorem sStoreOM (k:Nat) {ty e size m cap j:Nat} {x y:Operand} {A:Option Addr} {xs:List Value} (us xs':List Value) (hF:Fr n F a) (hM:Mem B w0 L w) (hg:wantF ops F o=some true) (hd:o.dst=none) (ho:o.op=.store ty x y) (hk:known F o=true) (hx:evF F x=.pointer (some (ea A j)))
    (hi:look k L=some (.own (.slice A m cap) e size m xs)) (hs:(P.info? ty).map (·.size)=some us.length) (hc:(evF F y).cells=us.toArray) (h1:∀ u ∈ us,u.oneCell'=true) (hp:0 < us.length) (hj:j + us.length ≤ xs.length) (hxs:putL xs j us=xs')
    (kk:∀ w',Mem B w0 ((k,some (.own (.slice A m cap) e size m xs')) :: L) w' → K a w'):One P ops Q o K a w:=by
  have hown:w.ownsRow B e size (.slice A m cap) m xs:=hM.ok k _ hi
  have hlen:=hown.1
  have hm:0 < m:=by
    rcases Nat.eq_zero_or_pos m with h0 | h0
    · subst h0
      omega
    · exact h0
  obtain ⟨g,hA',_,_,_⟩:=own_cells hown hm
  subst hA'
  have hea:ea (some ⟨g,0,none⟩) j=⟨g,j,none⟩:=by simp [ea,gA]
  rw [hea] at hx
  obtain ⟨w',hr,hM2⟩:=own_cellsStored (P:=P) (j:=j) us 0 hM hi h1 (by omega)
  rw [Nat.add_zero,hxs] at hM2
  refine sW0 hF hg hd hk (w':=w') ?_ (kk _ hM2)
  cases hq:P.info? ty with
  | none => simp [hq] at hs
  | some q =>
    have hz:q.size=us.length:=by simpa [hq] using hs
    have hvar:(storeVar ty ⟨g,j,none⟩ (evF F y)).run P w=.ok () w':=by
      unfold storeVar
      rw [hc]
      simp [sizeOf,typeInfo,hq,hz,hr]
    simp only [execOp,ho,hx,Instr.storeAt,Instr.sureAddr,Sem.run_bind,Sem.run_pure,Result.andThen_ok,hvar]
theorem sCopyO (d k:Nat) {t t2 e size bytes m cap c:Nat} {s x:Operand} {z:Value} {A A2:Option Addr} {xs news:List Value} (hF:Fr n F a) (hM:Mem B w0 L w) (h:okO n ops F o d=true) (ho:o.op=.call { callee:=.builtin .copy,args:=#[s,x],argTypes:=#[t,t2] })
    (hs:evF F s=.slice A m cap) (hx:evF F x=.slice A2 m c) (ht:tyE P t=some (e,size,bytes,z)) (hsz:Nat.blt 0 size=true) (hi:look k L=some (.own (.slice A m cap) e size m xs))
    (hl:news.length=m * size) (hro:∀ w,Mem B w0 L w → Ro w A2 news) (h1:∀ u ∈ news,u.oneCell'=true)
    (kk:∀ a' w',Fr n ((d,some (.int .i64 (m:Int))) :: F) a' → Mem B w0 ((k,some (.own (.slice A m cap) e size m news)) :: L) w' → K a' w'):One P ops Q o K a w:=by
  obtain ⟨h1',h2,h3,h4⟩:=okO_spec h
  obtain ⟨hu,i,hinf,hz,hsize,hbytes⟩:=tyE_spec ht
  have hown:w.ownsRow B e size (.slice A m cap) m xs:=hM.ok k _ hi
  have hlen:=hown.1
  have hread:=hro w hM
  have hpos:0 < size:=Nat.le_of_ble_eq_true hsz
  rcases Nat.eq_zero_or_pos m with h0 | h0
  · subst h0
    have hn:news=[]:=List.length_eq_zero_iff.1 (by rw [hl]; simp)
    have hx0:xs=[]:=List.length_eq_zero_iff.1 (by rw [hlen]; simp)
    subst hn hx0
    refine sW hF h3 h1' h2 h4 (v:=.int .i64 (0:Nat)) (w':=w) ?_ fun a' ha=>kk a' w ha (hM.turn hi rfl (grown_refl w _) hown fun _ hb=>.inl hb)
    have hl0:∀ (y:Addr),(loadCells y 0).run P w=.ok #[] w:=fun y=>by simpa using run_loadCells_list (P:=P) w y [] (by simp)
    have hr:(Builtin.copy_ #[t,t2] o.type #[.slice A 0 cap,.slice A2 0 c]).run P w=.ok (goInt 0) w:=by
      cases A <;> cases A2 <;> simp [Builtin.copy_,run_underlying hu,Builtin.lenOf,Builtin.firstCells,sizeOf,typeInfo,hinf,hl0,storeCells]
    simp [execOp,ho,resolve,invoke,builtin,hs,hx,hr,Result.andThen,goInt]
  · obtain ⟨g,hA',_,_,_⟩:=own_cells hown h0
    subst hA'
    have hn0:0 < news.length:=by rw [hl]; exact Nat.mul_pos h0 hpos
    obtain ⟨b,off,e1,_⟩:=hread 0 _ (List.getElem?_eq_getElem hn0)
    subst e1
    have hload:(loadCells ⟨b,off,none⟩ news.length).run P w=.ok news.toArray w:=run_loadCells_list (P:=P) w ⟨b,off,none⟩ news fun j v hv=>by
      obtain ⟨b',off',e2,hc⟩:=hread j v hv
      injection e2 with e2
      injection e2 with e3 e4
      subst e3 e4
      rw [add_at]
      exact hc
    obtain ⟨w',hr,hM2⟩:=own_cellsStored (P:=P) (j:=0) news 0 hM hi h1 (by omega)
    rw [Nat.add_zero,putL_eq _ _ _ (by omega),List.take_zero,List.nil_append,List.drop_of_length_le (by omega),List.append_nil] at hM2
    refine sW hF h3 h1' h2 h4 (v:=.int .i64 (m:Int)) (w':=w') ?_ fun a' ha=>kk a' w' ha hM2
    have hrun:(Builtin.copy_ #[t,t2] o.type #[.slice (some ⟨g,0,none⟩) m cap,.slice (some ⟨b,off,none⟩) m c]).run P w=.ok (goInt m) w':=by
      rw [hl] at hload
      simp [Builtin.copy_,run_underlying hu,Builtin.lenOf,Builtin.firstCells,sizeOf,typeInfo,hinf,hsize,hload,hr]
    simp [execOp,ho,resolve,invoke,builtin,hs,hx,hrun,Result.andThen,goInt]
end
end Go.Proofs.YtlngflbamkgjlaaGreat
namespace Go.Proofs.YtlngflbamkgjlaaGreat
open Go.RowKit
set_option linter.unusedVariables false
set_option linter.unusedSimpArgs false
def rowE (es:List (Int → Value)) (x:List Int):List Value:=List.zipWith (fun f v=>f v) es x
def flatE (es:List (Int → Value)) (l:List (List Int)):List Value:=l.flatMap (rowE es)
theorem rowE_len {es:List (Int → Value)} {x:List Int} (h:x.length=es.length):(rowE es x).length=es.length:=by simp [rowE,h]
theorem flatE_length {es:List (Int → Value)}:∀ {l:List (List Int)},WR es.length l → (flatE es l).length=l.length * es.length
  | [], _ => by simp [flatE]
  | x :: r, h => by
    have ih:=flatE_length h.tail
    have h0:=rowE_len h.head
    simp only [flatE,List.flatMap_cons,List.length_append,List.length_cons] at *
    rw [ih,h0,Nat.succ_mul]
    omega
theorem flatE_at {es:List (Int → Value)}:∀ {l:List (List Int)} {k i:Nat},WR es.length l → k < l.length → i < es.length → (flatE es l)[k * es.length + i]?=(rowE es ((l[k]?).getD []))[i]?
  | x :: r, 0, i, h, _, hi => by
    have h0:=rowE_len h.head
    simp only [flatE,List.flatMap_cons,Nat.zero_mul,Nat.zero_add]
    rw [List.getElem?_append_left (by omega)]
    rfl
  | x :: r, k + 1, i, h, hk, hi => by
    have h0:=rowE_len h.head
    have ih:=flatE_at (i:=i) h.tail (k:=k) (by simpa using hk) hi
    simp only [flatE,List.flatMap_cons]
    rw [List.getElem?_append_right (by rw [h0,Nat.succ_mul]; omega),show (k + 1) * es.length + i - (rowE es x).length=k * es.length + i by rw [h0,Nat.succ_mul]; omega]
    exact ih
theorem rcE_at {es:List (Int → Value)} {l:List (List Int)} {k i:Nat} {f:Int → Value} (h:WR es.length l) (hk:k < l.length) (hi:es[i]?=some f):(flatE es l)[k * es.length + i]?=some (f (rc l k i)):=by
  have hlt:=(List.getElem?_eq_some_iff.1 hi).1
  rw [flatE_at h hk hlt]
  have hx:=h l[k] (List.getElem_mem hk)
  unfold rowE rc
  rw [List.getElem?_eq_getElem hk,Option.getD_some,List.getElem?_zipWith,hi,List.getElem?_eq_getElem (by omega)]
  simp [List.getD_eq_getElem?_getD,List.getElem?_eq_getElem (show i < l[k].length by omega)]
theorem rcE_sub {es:List (Int → Value)} {l:List (List Int)} {k f m:Nat} {us:List Value} (h:WR es.length l) (hk:k < l.length) (hu:us=((es.drop f).take m).zipIdx.map fun q=>q.1 (rc l k (f + q.2))):∀ i u,us[i]?=some u → (flatE es l)[k * es.length + f + i]?=some u:=fun i u hi=>by
  subst hu
  rw [List.getElem?_map,List.getElem?_zipIdx,List.getElem?_take] at hi
  split at hi
  · rw [List.getElem?_drop] at hi
    cases hg:es[f + i]? with
    | none => rw [hg] at hi; cases hi
    | some g =>
      rw [hg] at hi
      simp at hi
      rw [Nat.add_assoc,rcE_at h hk hg,← hi]
  · cases hi
theorem flatE_append (es:List (Int → Value)) (l m:List (List Int)):flatE es (l ++ m)=flatE es l ++ flatE es m:=by simp [flatE]
theorem flatE_one {es:List (Int → Value)} (he:∀ f ∈ es,∀ x,(f x).oneCell'=true) (l:List (List Int)):∀ u ∈ flatE es l,u.oneCell'=true:=fun u hu=>by
  simp only [flatE,List.mem_flatMap,rowE] at hu
  obtain ⟨x,_,hx⟩:=hu
  obtain ⟨i,hi,rfl⟩:=List.getElem_of_mem hx
  rw [List.getElem_zipWith]
  exact he _ (List.getElem_mem ..) _
theorem flatE_set {es:List (Int → Value)}:∀ {l:List (List Int)} {k:Nat} {r:List Int},WR es.length l → k < l.length → r.length=es.length → putL (flatE es l) (k * es.length) (rowE es r)=flatE es (l.set k r)
  | x :: t, 0, r, h, _, hr => by
    have h0:=rowE_len h.head
    have h1:=rowE_len hr
    simp only [flatE,List.flatMap_cons,List.set_cons_zero,Nat.zero_mul]
    rw [putL_eq _ _ _ (by simp; omega)]
    simp only [List.take_zero,List.nil_append,Nat.zero_add]
    rw [List.drop_append,List.drop_of_length_le (by omega)]
    simp [h0,h1]
  | x :: t, k + 1, r, h, hk, hr => by
    have h0:=rowE_len h.head
    have ih:=flatE_set (l:=t) (k:=k) (r:=r) h.tail (by simpa using hk) hr
    simp only [flatE,List.flatMap_cons,List.set_cons_succ] at *
    rw [← ih,show (k + 1) * es.length=(rowE es x).length + k * es.length by rw [h0,Nat.succ_mul]; omega,putL_append]
def bo (x:Int):Value:=.bool (decide (x=1))
def pE:List (Int → Value):=[.int .i64,.int .i64,.int .i64,.int .i64,.int .i64,.int .i64,bo]
theorem pE_one:∀ f ∈ pE,∀ x,(f x).oneCell'=true:=fun f hf x=>by
  simp only [pE,List.mem_cons,List.not_mem_nil,or_false] at hf
  rcases hf with rfl | rfl | rfl | rfl | rfl | rfl | rfl <;> rfl
end Go.Proofs.YtlngflbamkgjlaaGreat
namespace Go.Proofs.YtlngflbamkgjlaaGreat
open Go.RowKit
set_option linter.unusedVariables false
set_option linter.unusedSimpArgs false
set_option maxRecDepth 100000
theorem run_eqStructD {P:Program} {w:World} (d:Nat) {t:TypeId} {ps qs:List Int} {fs:Array Field} (hu:P.underlying t=some (.struct fs)) (hp:P.stoodInHeld t=false) (hb:flatB P 0 fs.toList=true) (h1:ps.length=fs.toList.length) (h2:qs.length=fs.toList.length) :
    (Op.equalIn (d + 2) t (.agg (ps.map (Value.int .i64)).toArray) (.agg (qs.map (Value.int .i64)).toArray)).run P w=.ok (decide (ps=qs)) w:=by
  have hfs:P.fieldsOf t=fs:=by simp [Program.fieldsOf,hu]
  rw [run_equalIn_struct w (d + 1) t _ _ (by rw [hfs]; exact hu) hp,hfs]
  exact run_eqFields fs.toList 0 ps qs hb h1 h2 (fun j p hp=>by simp [hp]) (fun j p hp=>by simp [hp])
theorem eqB (n:Nat) (b c:Bool) (w:World):(Op.equalIn (n + 1) 4 (.bool b) (.bool c)).run Tryz.prog w=.ok (b == c) w:=by kernel_rfl
theorem eqPart (a0 a1 a2 a3 a4 a5 c0 c1 c2 c3 c4 c5:Int) (b c:Bool) (w:World) :
    (Op.equalIn 10000 50 (.agg #[.int .i64 a0,.int .i64 a1,.int .i64 a2,.int .i64 a3,.int .i64 a4,.int .i64 a5,.bool b]) (.agg #[.int .i64 c0,.int .i64 c1,.int .i64 c2,.int .i64 c3,.int .i64 c4,.int .i64 c5,.bool c])).run Tryz.prog w=.ok (decide ([a0,a1,a2,a3,a4,a5]=[c0,c1,c2,c3,c4,c5]) && (b == c)) w:=by
  obtain ⟨fs,hu⟩:∃ fs,Tryz.prog.underlying 50=some (.struct fs):=⟨_,Tryz.underlying50⟩
  have hfs:Tryz.prog.fieldsOf 50=fs:=by simp [Program.fieldsOf,hu]
  have p1:∀ x0 x1 x2 x3 x4 x5 (y:Bool),(part 48 #[.int .i64 x0,.int .i64 x1,.int .i64 x2,.int .i64 x3,.int .i64 x4,.int .i64 x5,.bool y] 0).run Tryz.prog w=.ok (.agg #[.int .i64 x0,.int .i64 x1,.int .i64 x2,.int .i64 x3,.int .i64 x4]) w:=fun _ _ _ _ _ _ _=>by kernel_rfl
  have p2:∀ x0 x1 x2 x3 x4 x5 (y:Bool),(part 3 #[.int .i64 x0,.int .i64 x1,.int .i64 x2,.int .i64 x3,.int .i64 x4,.int .i64 x5,.bool y] 5).run Tryz.prog w=.ok (.int .i64 x5) w:=fun _ _ _ _ _ _ _=>by kernel_rfl
  have p3:∀ x0 x1 x2 x3 x4 x5 (y:Bool),(part 4 #[.int .i64 x0,.int .i64 x1,.int .i64 x2,.int .i64 x3,.int .i64 x4,.int .i64 x5,.bool y] 6).run Tryz.prog w=.ok (.bool y) w:=fun _ _ _ _ _ _ _=>by kernel_rfl
  have q2:∀ x y,(Op.equalIn 9999 3 (.int .i64 x) (.int .i64 y)).run Tryz.prog w=.ok (decide (x=y)) w:=fun x y=>by
    rw [run_equalIn_int w 9998 3 .i64 .i64 x y (by kernel_rfl)]
    by_cases e:x=y <;> simp [e]
  have e1:=run_eqStructD (P:=Tryz.prog) (w:=w) 9997 (t:=48) (ps:=[a0,a1,a2,a3,a4]) (qs:=[c0,c1,c2,c3,c4]) Tryz.underlying48 (by kernel_rfl) (by kernel_rfl) rfl rfl
  have hl : fs.toList.map (fun f : Field => (f.name != "_", f.type, f.offset)) = [(true, 48, 0), (true, 3, 5), (true, 4, 6)] := by
    rw [← hfs]
    kernel_rfl
  rw [run_equalIn_struct w 9999 50 _ _ (by rw [hfs]; exact hu) (by kernel_rfl),hfs]
  obtain ⟨f0,f1,f2,hfl⟩:∃ f0 f1 f2,fs.toList=[f0,f1,f2]:=by
    have hlen:=congrArg List.length hl
    rw [List.length_map] at hlen
    match h:fs.toList,hlen with
    | [f0, f1, f2], _ => exact ⟨f0, f1, f2, rfl⟩
  rw [hfl] at hl ⊢
  simp only [List.map_cons,List.map_nil,List.cons.injEq,Prod.mk.injEq,and_true,bne_iff_ne] at hl
  obtain ⟨⟨n0,t0,o0⟩,⟨n1,t1,o1⟩,⟨n2,t2,o2⟩⟩:=hl
  have e1':(Op.equalIn 9999 48 (.agg #[.int .i64 a0,.int .i64 a1,.int .i64 a2,.int .i64 a3,.int .i64 a4]) (.agg #[.int .i64 c0,.int .i64 c1,.int .i64 c2,.int .i64 c3,.int .i64 c4])).run Tryz.prog w=.ok (decide ([a0,a1,a2,a3,a4]=[c0,c1,c2,c3,c4])) w:=e1
  have q3:=eqB 9998 b c w
  have q4:=q2 a5 c5
  have hiff:([a0,a1,a2,a3,a4,a5]=[c0,c1,c2,c3,c4,c5]) ↔ ([a0,a1,a2,a3,a4]=[c0,c1,c2,c3,c4] ∧ a5=c5):=by simp [and_assoc]
  rw [show decide ([a0,a1,a2,a3,a4,a5]=[c0,c1,c2,c3,c4,c5])=(decide ([a0,a1,a2,a3,a4]=[c0,c1,c2,c3,c4]) && decide (a5=c5)) from (decide_eq_decide.2 hiff).trans (Bool.decide_and _ _)]
  obtain ⟨x,hx⟩:∃ x,decide ([a0,a1,a2,a3,a4]=[c0,c1,c2,c3,c4])=x:=⟨_,rfl⟩
  obtain ⟨y,hy⟩:∃ y,decide (a5=c5)=y:=⟨_,rfl⟩
  obtain ⟨z,hz⟩:∃ z,(b == c)=z:=⟨_,rfl⟩
  rw [hx] at e1' ⊢
  rw [hy] at q4 ⊢
  rw [hz] at q3 ⊢
  simp only [Op.eqFields,if_pos n0,if_pos n1,if_pos n2,t0,t1,t2,o0,o1,o2,Sem.run_bind,p1,p2,p3,Result.andThen_ok,e1']
  cases x
  · rfl
  · simp only [Bool.not_true,Bool.false_eq_true,if_false,Sem.run_bind,p2,Result.andThen_ok,q4]
    cases y
    · rfl
    · simp only [Bool.not_true,Bool.false_eq_true,if_false,Sem.run_bind,p3,Result.andThen_ok,q3]
      cases z <;> rfl
theorem dec_and {p:Prop} {_:Decidable p} (b c:Bool):(decide p && (b == c))=decide (p ∧ b=c):=by
  by_cases h:p <;> cases b <;> cases c <;> simp [h]
theorem yld_eqlP {n:NF} {F:List (Nat × Option Value)} {a:Act} {o:Oper} {C:World → Prop} {t':TypeId} {x y:Operand} (a0 a1 a2 a3 a4 a5 c0 c1 c2 c3 c4 c5:Int) (b c:Bool) (hF:Fr n F a) (ho:o.op=.binOp .eql 50 x y t') (hk:known F o=true) (hx:evF F x=.agg #[.int .i64 a0,.int .i64 a1,.int .i64 a2,.int .i64 a3,.int .i64 a4,.int .i64 a5,.bool b]) (hy:evF F y=.agg #[.int .i64 c0,.int .i64 c1,.int .i64 c2,.int .i64 c3,.int .i64 c4,.int .i64 c5,.bool c]) :
    Yld Tryz.prog o a C (.bool (decide ([a0,a1,a2,a3,a4,a5]=[c0,c1,c2,c3,c4,c5] ∧ b=c))):=by
  intro w _
  unfold Oper.quietAt
  rw [hF.exec hk]
  have hg:Tryz.prog.eqGuardType Tryz.prog.depth 50=false:=by kernel_rfl
  simp [execOp,ho,hx,hy,run_eqGuard_agg w _ _ _ _ _ _ hg,run_eql_struct,eqPart,dec_and,Oper.quietUpon]
  cases b <;> cases c <;> rfl
theorem yld_neqP {n:NF} {F:List (Nat × Option Value)} {a:Act} {o:Oper} {C:World → Prop} {t':TypeId} {x y:Operand} (a0 a1 a2 a3 a4 a5 c0 c1 c2 c3 c4 c5:Int) (b c:Bool) (hF:Fr n F a) (ho:o.op=.binOp .neq 50 x y t') (hk:known F o=true) (hx:evF F x=.agg #[.int .i64 a0,.int .i64 a1,.int .i64 a2,.int .i64 a3,.int .i64 a4,.int .i64 a5,.bool b]) (hy:evF F y=.agg #[.int .i64 c0,.int .i64 c1,.int .i64 c2,.int .i64 c3,.int .i64 c4,.int .i64 c5,.bool c]) :
    Yld Tryz.prog o a C (.bool (!decide ([a0,a1,a2,a3,a4,a5]=[c0,c1,c2,c3,c4,c5] ∧ b=c))):=by
  intro w _
  unfold Oper.quietAt
  rw [hF.exec hk]
  have hg:Tryz.prog.eqGuardType Tryz.prog.depth 50=false:=by kernel_rfl
  simp [execOp,ho,hx,hy,run_eqGuard_agg w _ _ _ _ _ _ hg,run_neq_struct,eqPart,dec_and,Oper.quietUpon]
  cases b <;> cases c <;> rfl
end Go.Proofs.YtlngflbamkgjlaaGreat
namespace Go.Proofs.YtlngflbamkgjlaaGreat
def trOk:Int → List (Int × Int) → Bool
  | _, [] => true
  | last, x :: r => decide (last ≤ x.1 ∧ x.1 ≤ 1099511627776 ∧ 1 ≤ x.2 ∧ x.2 ≤ 1048576) && trOk x.1 r
def trB (l:List (Int × Int)):Bool:=decide (l.length ≤ 200) && trOk 0 l
def trE (l:List (Int × Int)):Int:=if trB l=true then 0 else 131
theorem trOk_cons (last a s:Int) (r:List (Int × Int)):trOk last ((a,s) :: r)=(decide (last ≤ a ∧ a ≤ 1099511627776 ∧ 1 ≤ s ∧ s ≤ 1048576) && trOk a r):=rfl
theorem drop_at {α:Type} {l:List α} {k:Nat} {x:α} (h:l[k]?=some x):l.drop k=x :: l.drop (k + 1):=by
  obtain ⟨hk,e⟩:=List.getElem?_eq_some_iff.1 h
  rw [List.drop_eq_getElem_cons hk,e]
theorem trE_yes {l:List (Int × Int)} (h1:l.length ≤ 200) (h2:trOk 0 l=true):trE l=0:=by simp [trE,trB,h1,h2]
theorem trE_no {l:List (Int × Int)} (h2:trOk 0 l=false):trE l=131:=by simp [trE,trB,h2]
theorem trE_long {l:List (Int × Int)} (h2:200 < l.length):trE l=131:=by
  have:¬ l.length ≤ 200:=by omega
  simp [trE,trB,this]
theorem trOk_next {l:List (Int × Int)} {k:Nat} {last a s:Int} (hx:l[k]?=some (a,s)) (h:trOk 0 l=trOk last (l.drop k)) (hc:last ≤ a ∧ a ≤ 1099511627776 ∧ 1 ≤ s ∧ s ≤ 1048576):trOk 0 l=trOk a (l.drop (k + 1)):=by
  rw [h,drop_at hx,trOk_cons]; simp [hc]
theorem trOk_stop {l:List (Int × Int)} {k:Nat} {last a s:Int} (hx:l[k]?=some (a,s)) (h:trOk 0 l=trOk last (l.drop k)) (hc:¬ (last ≤ a ∧ a ≤ 1099511627776 ∧ 1 ≤ s ∧ s ≤ 1048576)):trOk 0 l=false:=by
  rw [h,drop_at hx,trOk_cons,decide_eq_false hc]; rfl
theorem trOk_end {l:List (Int × Int)} {k:Nat} {last:Int} (hk:l.length ≤ k) (h:trOk 0 l=trOk last (l.drop k)):trOk 0 l=true:=by
  rw [h,List.drop_eq_nil_of_le hk]; rfl
end Go.Proofs.YtlngflbamkgjlaaGreat
namespace Go.Proofs.YtlngflbamkgjlaaGreat
open Go.RowKit
set_option linter.unusedVariables false
set_option linter.unusedSimpArgs false
set_option maxRecDepth 100000
theorem tr_next {l:List (Int × Int)} {k:Nat} {la:Int} (hk:k < l.length) (h:trOk 0 l=trOk la (l.drop k)) (hc:la ≤ (pr l k).1 ∧ (pr l k).1 ≤ 1099511627776 ∧ 1 ≤ (pr l k).2 ∧ (pr l k).2 ≤ 1048576):trOk 0 l=trOk (pr l k).1 (l.drop (k + 1)) :=
  trOk_next (a:=(pr l k).1) (s:=(pr l k).2) (pr_some hk) h hc
theorem tr_here {l:List (Int × Int)} {k:Nat} {la:Int} (hk:k < l.length) (h:trOk la (l.drop k)=true):la ≤ (pr l k).1 ∧ (pr l k).1 ≤ 1099511627776 ∧ 1 ≤ (pr l k).2 ∧ (pr l k).2 ≤ 1048576 ∧ trOk (pr l k).1 (l.drop (k + 1))=true:=by
  rw [drop_at (pr_some hk),trOk,Bool.and_eq_true,decide_eq_true_eq] at h
  obtain ⟨⟨h1,h2,h3,h4⟩,h5⟩:=h
  exact ⟨h1,h2,h3,h4,h5⟩
theorem trE_ok {l:List (Int × Int)} (h:trE l=0):l.length ≤ 200 ∧ trOk 0 l=true:=by
  unfold trE trB at h
  split at h
  · rename_i hb
    simp only [Bool.and_eq_true,decide_eq_true_eq] at hb
    exact hb
  · cases h
theorem tr_stop {l:List (Int × Int)} {k:Nat} {la:Int} (hk:k < l.length) (h:trOk 0 l=trOk la (l.drop k)) (hc:¬ (la ≤ (pr l k).1 ∧ (pr l k).1 ≤ 1099511627776 ∧ 1 ≤ (pr l k).2 ∧ (pr l k).2 ≤ 1048576)):trOk 0 l=false :=
  trOk_stop (a:=(pr l k).1) (s:=(pr l k).2) (pr_some hk) h hc
theorem inside_yes (x lo hi:Int) (w0:World) (h1:lo ≤ x) (h2:x ≤ hi) :
    Calls Tryz.prog 39 #[iv x,iv lo,iv hi] w0 (Ret w0 (.bool true)):=by
 refine enterK 15 Tryz.func39 rfl rfl rfl ?_
 intro a hF Q0 hR0 hN0
 have hM:=Mem.start w0
 refine wp_seq_k fun K1 hK1=>wp_region_lit (xB 1 [(6,.bool false)] hF fun a hF=>wpList_nil (hK1 _ _ (wp_seq_k fun K2 hK2=>wp_region_lit (xB 2 [(7,iv lo),(8,iv x)] hF fun a hF=>wl (xP 9 (v0:=.bool (decide (lo ≤ x))) (v:=.bool true) hF (bT (by omega)) fun a hF=>xB 3 [(10,.bool true),(11,iv x),(12,iv hi)] hF fun a hF=>wl (xP 13 (v0:=.bool (decide (x ≤ hi))) (v:=.bool true) hF (bT (by omega)) fun a hF=>xB 2 [(14,.bool true),(6,.bool true)] hF fun a hF=>?_))))))
 refine wpList_nil (hK2 _ _ (wp_ret (hR0 _ _ (ret_of hF hM (.tmp rfl (.nil)) (⟨rfl,hM.bel⟩)))))
theorem inside_no (x lo hi:Int) (w0:World) (hx:¬ lo ≤ x ∨ ¬ x ≤ hi) :
    Calls Tryz.prog 39 #[iv x,iv lo,iv hi] w0 (Ret w0 (.bool false)):=by
 refine enterK 15 Tryz.func39 rfl rfl rfl ?_
 intro a hF Q0 hR0 hN0
 have hM:=Mem.start w0
 refine wp_seq_k fun K1 hK1=>wp_region_lit (xB 1 [(6,.bool false)] hF fun a hF=>wpList_nil (hK1 _ _ (wp_seq_k fun K2 hK2=>?_)))
 by_cases hz1:lo ≤ x
 ·refine wp_region_lit (xB 2 [(7,iv lo),(8,iv x)] hF fun a hF=>wl (xP 9 (v0:=.bool (decide (lo ≤ x))) (v:=.bool true) hF (bT hz1) fun a hF=>xB 6 [(10,.bool true),(11,iv x),(12,iv hi),(13,.bool (decide (x ≤ hi))),(14,.bool (decide (x ≤ hi))),(6,.bool (decide (x ≤ hi)))] hF fun a hF=>wpList_nil (hK2 _ _ (wp_ret (hR0 _ _ (ret_of hF hM (.tmp rfl (.nil)) (⟨ret_bool (decide_eq_false (by omega)),hM.bel⟩)))))))
 refine wp_region_lit (xB 2 [(7,iv lo),(8,iv x)] hF fun a hF=>wl (xP 9 (v0:=.bool (decide (lo ≤ x))) (v:=.bool false) hF (bF hz1) fun a hF=>xB 6 [(10,.bool false),(11,undef),(12,undef),(13,undef),(14,.bool false),(6,.bool false)] hF fun a hF=>wpList_nil (hK2 _ _ (wp_ret (hR0 _ _ (ret_of hF hM (.tmp rfl (.nil)) (⟨rfl,hM.bel⟩)))))))
theorem checkTrace_w (A:Option Addr) (l:List (Int × Int)) (c:Nat) (w0:World) (hA:Ro w0 A (flat2 l)) :
    Calls Tryz.prog 65 #[.slice A l.length c] w0 (Ret w0 (.int .i64 (trE l))):=by
 refine enterK 29 Tryz.func65 rfl rfl rfl ?_
 intro a hF Q0 hR0 hN0
 have hM:=Mem.start w0
 replace hM:=hM.addOld 1 hA (Nat.le_refl _)
 refine wp_seq_k fun K1 hK1=>wp_region_lit (xB 1 [(2,iv 0)] hF fun a hF=>wpList_nil (hK1 _ _ (wp_seq_k fun K2 hK2=>wp_seq_k fun K3 hK3=>wp_region_lit (xB 3 [(6,.slice A l.length c),(7,iv (l.length:Int)),(8,.bool (decide (200 < (l.length:Int))))] hF fun a hF=>wpList_nil (hK3 _ _ ?_)))))
 by_cases hz1:200 < (l.length:Int)
 ·replace hF:=hF.c hF (i:=8) (v:=.bool true) rfl (bT hz1)
  refine xT hF (wp_seq_k fun K4 hK4=>wp_region_lit (xB 1 [(2,iv 131)] hF fun a hF=>wpList_nil (hK4 _ _ (wp_ret (hR0 _ _ (ret_of hF hM (.tmp rfl (.nil)) (⟨ret_int (by first | exact (trE_long (by omega)).symm | exact (trE_no (tr_stop (k:=k) (by omega) (by assumption) (by omega))).symm),hM.bel⟩)))))))
 replace hF:=hF.c hF (i:=8) (v:=.bool false) rfl (bF hz1)
 refine xF hF (wp_skip (hK2 _ _ (wp_seq_k fun K5 hK5=>wp_region_lit (xB 1 [(3,iv 0)] hF fun a hF=>wpList_nil (hK5 _ _ (wp_seq_k fun K6 hK6=>wp_seq_k fun K7 hK7=>wp_region_lit (xB 3 [(9,.slice A l.length c),(10,iv (l.length:Int)),(11,iv 0)] hF fun a hF=>?_)))))))
 refine wpList_nil (hK7 _ _ (wp_block (wp_loop_k (G:=Nat × Int) (fun gg a w=>Fr 29 [(3,some (iv gg.2)),(11,some (iv (gg.1:Int))),(9,some (.slice A l.length c)),(10,some (iv (l.length:Int)))] a ∧ Mem w0.heap.size w0 [(1,some (.ro A (flat2 l)))] w ∧ ((gg.1:Int) ≤ (l.length:Int)) ∧ (trOk 0 l=trOk gg.2 (l.drop gg.1))) (fun gg=>l.length - gg.1) (0,0) ?_ ?_)))
 ·refine ⟨(((((Fr.nil hF).c hF (i:=10) rfl rfl).c hF (i:=9) rfl rfl).c hF (i:=11) rfl (vi (show (0:Int)=(0:Int) from by omega))).c hF (i:=3) rfl rfl),(hM.sub (Sub.nil.c (k:=1) rfl rfl)),(show (0:Int) ≤ (l.length:Int) from by omega),(show trOk 0 l=trOk 0 (l.drop 0) from by simp)⟩
 intro gg a w hI
 intro K8 hK8
 obtain ⟨k,la⟩:=gg
 try dsimp only at hI hK8
 obtain ⟨hF,hM,hz2,hz3⟩:=hI
 refine wp_seq_k fun K9 hK9=>wp_region_lit (xB 1 [(12,.bool (decide ((k:Int) < (l.length:Int))))] hF fun a hF=>wpList_nil (hK9 _ _ (wp_seq_k fun K10 hK10=>?_)))
 by_cases hz4:(k:Int) < (l.length:Int)
 ·replace hF:=hF.c hF (i:=12) (v:=.bool true) rfl (bT hz4)
  refine xT hF (wp_skip (hK10 _ _ (wp_seq_k fun K11 hK11=>wp_block (wp_seq_k fun K12 hK12=>wp_region_lit (wl (xM 13 (v:=.pointer (some (ea A (k * 2)))) hF hM (yld_ix (kd:=.i64) (e:=89) (len:=l.length) (cap:=c) (i:=(k:Int)) (size:=2) (A:=A) hF rfl (by kernel_rfl) (by kernel_rfl) (by kernel_rfl) (by kernel_rfl) (by kernel_rfl) (roK 1 rfl) (by omega) (by omega) (by rw [flat2_length]; omega)) fun a w hF hM=>wl (xM 14 (v:=.agg #[iv (pr l k).1,iv (pr l k).2]) hF hM (yld_roM (A:=A) (j:=k * 2) (us:=[iv (pr l k).1,iv (pr l k).2]) hF rfl (by kernel_rfl) (by kernel_rfl) (roK 1 rfl) (by kernel_rfl) rfl (pr_both (k:=k) (by omega) (by omega))) fun a w hF hM=>wl (xN 5 2 (t:=89) (fun b=>.pointer (some ⟨b,0,none⟩)) #[iv 0,iv 0] hF hM fun bb1 a w hF hM=>?_))))))))
  refine wl (xS 2 0 #[iv (pr l k).1,iv (pr l k).2] hF hM fun w hM=>wpList_nil (hK12 _ _ (wp_seq_k fun K13 hK13=>wp_seq_k fun K14 hK14=>?_)))
  by_cases hz5:la ≤ (pr l k).1
  ·by_cases hz6:(pr l k).1 ≤ 1099511627776
   ·by_cases hz7:1 ≤ (pr l k).2
    ·by_cases hz8:(pr l k).2 ≤ 1048576
     ·refine wp_region_lit (xB 1 [(15,pt bb1 0)] hF fun a hF=>wl (xL 16 2 0 (v:=iv (pr l k).1) hF hM fun a w hF hM=>xB 1 [(17,iv la)] hF fun a hF=>wl (xM 18 (v:=.bool true) hF hM (xC 39 #[iv (pr l k).1,iv la,iv 1099511627776] hF (fun w hM=>inside_yes (pr l k).1 la 1099511627776 w hz5 hz6)) fun a w hF hM=>xB 3 [(19,.bool false),(20,.bool false),(21,pt bb1 1)] hF fun a hF=>wl (xL 22 2 1 (v:=iv (pr l k).2) hF hM fun a w hF hM=>wl (xM 23 (v:=.bool true) hF hM (xC 39 #[iv (pr l k).2,iv 1,iv 1048576] hF (fun w hM=>inside_yes (pr l k).2 1 1048576 w hz7 hz8)) fun a w hF hM=>xB 2 [(24,.bool false),(25,.bool false)] hF fun a hF=>wpList_nil (hK14 _ _ (xF hF ?_)))))))
      refine wp_skip (hK13 _ _ (wp_region_lit (xB 1 [(26,pt bb1 0)] hF fun a hF=>wl (xL 27 2 0 (v:=iv (pr l k).1) hF hM fun a w hF hM=>xB 1 [(3,iv (pr l k).1)] hF fun a hF=>wpList_nil (hK11 _ _ (wp_region_lit (wl (xP 28 (v0:=.int .i64 (IntKind.i64.wrap ((k:Int) + 1))) (v:=iv ((k:Int) + 1)) hF (wi (by omega)) fun a hF=>xB 1 [(11,iv ((k:Int) + 1))] hF fun a hF=>wpList_nil ?_))))))))
      refine hK8 _ _ ⟨(k + 1,(pr l k).1),⟨(((((Fr.nil hF).c hF (i:=10) rfl rfl).c hF (i:=9) rfl rfl).c hF (i:=11) rfl (vi (show ((k:Int) + 1:Int)=((k + 1):Int) from by omega))).c hF (i:=3) rfl rfl),(hM.sub (Sub.nil.c (k:=1) rfl rfl)),(show ((k + 1):Int) ≤ (l.length:Int) from by omega),(show trOk 0 l=trOk (pr l k).1 (l.drop (k + 1)) from by exact tr_next (by omega) (by assumption) (by omega))⟩,(show l.length - (k + 1) < l.length - k from by omega)⟩
     refine wp_region_lit (xB 1 [(15,pt bb1 0)] hF fun a hF=>wl (xL 16 2 0 (v:=iv (pr l k).1) hF hM fun a w hF hM=>xB 1 [(17,iv la)] hF fun a hF=>wl (xM 18 (v:=.bool true) hF hM (xC 39 #[iv (pr l k).1,iv la,iv 1099511627776] hF (fun w hM=>inside_yes (pr l k).1 la 1099511627776 w hz5 hz6)) fun a w hF hM=>xB 3 [(19,.bool false),(20,.bool false),(21,pt bb1 1)] hF fun a hF=>wl (xL 22 2 1 (v:=iv (pr l k).2) hF hM fun a w hF hM=>wl (xM 23 (v:=.bool false) hF hM (xC 39 #[iv (pr l k).2,iv 1,iv 1048576] hF (fun w hM=>inside_no (pr l k).2 1 1048576 w (.inr hz8))) fun a w hF hM=>xB 2 [(24,.bool true),(25,.bool true)] hF fun a hF=>wpList_nil (hK14 _ _ (xT hF ?_)))))))
     refine wp_seq_k fun K15 hK15=>wp_region_lit (xB 1 [(2,iv 131)] hF fun a hF=>wpList_nil (hK15 _ _ (wp_ret (hR0 _ _ (ret_of hF hM (.tmp rfl (.nil)) (⟨ret_int (by first | exact (trE_long (by omega)).symm | exact (trE_no (tr_stop (k:=k) (by omega) (by assumption) (by omega))).symm),hM.bel⟩))))))
    refine wp_region_lit (xB 1 [(15,pt bb1 0)] hF fun a hF=>wl (xL 16 2 0 (v:=iv (pr l k).1) hF hM fun a w hF hM=>xB 1 [(17,iv la)] hF fun a hF=>wl (xM 18 (v:=.bool true) hF hM (xC 39 #[iv (pr l k).1,iv la,iv 1099511627776] hF (fun w hM=>inside_yes (pr l k).1 la 1099511627776 w hz5 hz6)) fun a w hF hM=>xB 3 [(19,.bool false),(20,.bool false),(21,pt bb1 1)] hF fun a hF=>wl (xL 22 2 1 (v:=iv (pr l k).2) hF hM fun a w hF hM=>wl (xM 23 (v:=.bool false) hF hM (xC 39 #[iv (pr l k).2,iv 1,iv 1048576] hF (fun w hM=>inside_no (pr l k).2 1 1048576 w (.inl hz7))) fun a w hF hM=>xB 2 [(24,.bool true),(25,.bool true)] hF fun a hF=>wpList_nil (hK14 _ _ (xT hF ?_)))))))
    refine wp_seq_k fun K16 hK16=>wp_region_lit (xB 1 [(2,iv 131)] hF fun a hF=>wpList_nil (hK16 _ _ (wp_ret (hR0 _ _ (ret_of hF hM (.tmp rfl (.nil)) (⟨ret_int (by first | exact (trE_long (by omega)).symm | exact (trE_no (tr_stop (k:=k) (by omega) (by assumption) (by omega))).symm),hM.bel⟩))))))
   refine wp_region_lit (xB 1 [(15,pt bb1 0)] hF fun a hF=>wl (xL 16 2 0 (v:=iv (pr l k).1) hF hM fun a w hF hM=>xB 1 [(17,iv la)] hF fun a hF=>wl (xM 18 (v:=.bool false) hF hM (xC 39 #[iv (pr l k).1,iv la,iv 1099511627776] hF (fun w hM=>inside_no (pr l k).1 la 1099511627776 w (.inr hz6))) fun a w hF hM=>xB 7 [(19,.bool true),(20,.bool true),(21,undef),(22,undef),(23,undef),(24,undef),(25,.bool true)] hF fun a hF=>wpList_nil (hK14 _ _ (xT hF (wp_seq_k fun K17 hK17=>wp_region_lit (xB 1 [(2,iv 131)] hF fun a hF=>?_)))))))
   refine wpList_nil (hK17 _ _ (wp_ret (hR0 _ _ (ret_of hF hM (.tmp rfl (.nil)) (⟨ret_int (by first | exact (trE_long (by omega)).symm | exact (trE_no (tr_stop (k:=k) (by omega) (by assumption) (by omega))).symm),hM.bel⟩)))))
  refine wp_region_lit (xB 1 [(15,pt bb1 0)] hF fun a hF=>wl (xL 16 2 0 (v:=iv (pr l k).1) hF hM fun a w hF hM=>xB 1 [(17,iv la)] hF fun a hF=>wl (xM 18 (v:=.bool false) hF hM (xC 39 #[iv (pr l k).1,iv la,iv 1099511627776] hF (fun w hM=>inside_no (pr l k).1 la 1099511627776 w (.inl hz5))) fun a w hF hM=>xB 7 [(19,.bool true),(20,.bool true),(21,undef),(22,undef),(23,undef),(24,undef),(25,.bool true)] hF fun a hF=>wpList_nil (hK14 _ _ (xT hF (wp_seq_k fun K18 hK18=>wp_region_lit (xB 1 [(2,iv 131)] hF fun a hF=>?_)))))))
  refine wpList_nil (hK18 _ _ (wp_ret (hR0 _ _ (ret_of hF hM (.tmp rfl (.nil)) (⟨ret_int (by first | exact (trE_long (by omega)).symm | exact (trE_no (tr_stop (k:=k) (by omega) (by assumption) (by omega))).symm),hM.bel⟩)))))
 replace hF:=hF.c hF (i:=12) (v:=.bool false) rfl (bF hz4)
 refine xF hF (wp_exit (hK6 _ _ (wp_seq_k fun K19 hK19=>wp_region_lit (xB 1 [(2,iv 0)] hF fun a hF=>wpList_nil (hK19 _ _ (wp_ret (hR0 _ _ (ret_of hF hM (.tmp rfl (.nil)) (⟨ret_int (trE_yes (by omega) (trOk_end (k:=k) (by omega) (by assumption))).symm,hM.bel⟩)))))))))
end Go.Proofs.YtlngflbamkgjlaaGreat
namespace Go.Proofs.YtlngflbamkgjlaaGreat
open Go.RowKit
set_option linter.unusedVariables false
set_option linter.unusedSimpArgs false
set_option maxRecDepth 100000
def ckI (a0 a1 a2 a3 a4:Int):Int:=if (0 ≤ a0 ∧ a0 ≤ 1099511627776) ∧ (0 ≤ a1 ∧ a1 ≤ 1099511627776) ∧ (0 ≤ a4 ∧ a4 ≤ 1099511627776) ∧ (0 ≤ a2 ∧ a2 ≤ 7) ∧ 84 ≤ a3 ∧ a3 ≤ 1542 then 0 else 460
def ckP (a0 a1 a2 a3 a4 a5 r:Int):Int:=if ckI a0 a1 a2 a3 a4=0 ∧ ((a5=a3 ∧ r ≠ 1) ∨ (r=1 ∧ a2 ≤ 5 ∧ 88 ≤ a5 ∧ a5 ≤ a3 - 40)) then 0 else 460
theorem ckI_2 (a0 a1 a2 a3 a4:Int):ckI a0 a1 a2 a3 a4=0 ∨ ckI a0 a1 a2 a3 a4=460:=by
  unfold ckI
  omega
theorem ckI_ok {a0 a1 a2 a3 a4:Int} (h:ckI a0 a1 a2 a3 a4=0):0 ≤ a2 ∧ a2 ≤ 7 ∧ 84 ≤ a3 ∧ a3 ≤ 1542:=by
  unfold ckI at h
  omega
theorem ckP_ok {a0 a1 a2 a3 a4 a5 r:Int} (h:ckP a0 a1 a2 a3 a4 a5 r=0):ckI a0 a1 a2 a3 a4=0 ∧ 84 ≤ a5 ∧ a5 ≤ 1542:=by
  have hi:ckI a0 a1 a2 a3 a4=0:=by unfold ckP at h; omega
  have:=ckI_ok hi
  unfold ckP at h
  omega
theorem isWhole {a0 a1 a2 a3 a4 a5 r:Int}:([a0,a1,a2,a3,a4,a5]=[a0,a1,a2,a3,a4,a3] ∧ (decide (r=1))=false) ↔ (a5=a3 ∧ r ≠ 1):=by simp
theorem within_yes (x lo hi:Int) (w0:World) (h1:lo ≤ x) (h2:x ≤ hi) :
    Calls Tryz.prog 45 #[iv x,iv lo,iv hi] w0 (Ret w0 (.bool true)):=by
 refine enterK 15 Tryz.func45 rfl rfl rfl ?_
 intro a hF Q0 hR0 hN0
 have hM:=Mem.start w0
 refine wp_seq_k fun K1 hK1=>wp_region_lit (xB 1 [(6,.bool false)] hF fun a hF=>wpList_nil (hK1 _ _ (wp_seq_k fun K2 hK2=>wp_region_lit (xB 2 [(7,iv x),(8,iv lo)] hF fun a hF=>wl (xP 9 (v0:=.bool (decide (lo ≤ x))) (v:=.bool true) hF (bT (by omega)) fun a hF=>xB 3 [(10,.bool true),(11,iv x),(12,iv hi)] hF fun a hF=>wl (xP 13 (v0:=.bool (decide (x ≤ hi))) (v:=.bool true) hF (bT (by omega)) fun a hF=>xB 2 [(14,.bool true),(6,.bool true)] hF fun a hF=>?_))))))
 refine wpList_nil (hK2 _ _ (wp_ret (hR0 _ _ (ret_of hF hM (.tmp rfl (.nil)) (⟨rfl,hM.bel⟩)))))
theorem within_no (x lo hi:Int) (w0:World) (hx:¬ lo ≤ x ∨ ¬ x ≤ hi) :
    Calls Tryz.prog 45 #[iv x,iv lo,iv hi] w0 (Ret w0 (.bool false)):=by
 refine enterK 15 Tryz.func45 rfl rfl rfl ?_
 intro a hF Q0 hR0 hN0
 have hM:=Mem.start w0
 refine wp_seq_k fun K1 hK1=>wp_region_lit (xB 1 [(6,.bool false)] hF fun a hF=>wpList_nil (hK1 _ _ (wp_seq_k fun K2 hK2=>?_)))
 by_cases hz1:lo ≤ x
 ·refine wp_region_lit (xB 2 [(7,iv x),(8,iv lo)] hF fun a hF=>wl (xP 9 (v0:=.bool (decide (lo ≤ x))) (v:=.bool true) hF (bT hz1) fun a hF=>xB 6 [(10,.bool true),(11,iv x),(12,iv hi),(13,.bool (decide (x ≤ hi))),(14,.bool (decide (x ≤ hi))),(6,.bool (decide (x ≤ hi)))] hF fun a hF=>wpList_nil (hK2 _ _ (wp_ret (hR0 _ _ (ret_of hF hM (.tmp rfl (.nil)) (⟨ret_bool (decide_eq_false (by omega)),hM.bel⟩)))))))
 refine wp_region_lit (xB 2 [(7,iv x),(8,iv lo)] hF fun a hF=>wl (xP 9 (v0:=.bool (decide (lo ≤ x))) (v:=.bool false) hF (bF hz1) fun a hF=>xB 6 [(10,.bool false),(11,undef),(12,undef),(13,undef),(14,.bool false),(6,.bool false)] hF fun a hF=>wpList_nil (hK2 _ _ (wp_ret (hR0 _ _ (ret_of hF hM (.tmp rfl (.nil)) (⟨rfl,hM.bel⟩)))))))
theorem ckItem_w (a0 a1 a2 a3 a4:Int) (w0:World) :
    Calls Tryz.prog 50 #[.agg #[iv a0,iv a1,iv a2,iv a3,iv a4]] w0 (Ret w0 (.int .i64 (ckI a0 a1 a2 a3 a4))):=by
 refine enterK 31 Tryz.func50 rfl rfl rfl ?_
 intro a hF Q0 hR0 hN0
 have hM:=Mem.start w0
 refine wp_seq_k fun K1 hK1=>wp_region_lit (wl (xN 1 1 (t:=48) (fun b=>.pointer (some ⟨b,0,none⟩)) #[iv a0,iv a1,iv a2,iv a3,iv a4] hF hM fun bb1 a w hF hM=>xB 1 [(2,iv 0)] hF fun a hF=>wpList_nil (hK1 _ _ (wp_seq_k fun K2 hK2=>wp_seq_k fun K3 hK3=>?_))))
 by_cases hz1:0 ≤ a0
 ·by_cases hz2:a0 ≤ 1099511627776
  ·by_cases hz3:0 ≤ a1
   ·by_cases hz4:a1 ≤ 1099511627776
    ·by_cases hz5:0 ≤ a4
     ·by_cases hz6:a4 ≤ 1099511627776
      ·by_cases hz7:0 ≤ a2
       ·by_cases hz8:a2 ≤ 7
        ·by_cases hz9:84 ≤ a3
         ·by_cases hz10:a3 ≤ 1542
          ·refine wp_region_lit (xB 1 [(3,pt bb1 0)] hF fun a hF=>wl (xL 4 1 0 (v:=iv a0) hF hM fun a w hF hM=>wl (xM 5 (v:=.bool true) hF hM (xC 45 #[iv a0,iv 0,iv 1099511627776] hF (fun w hM=>within_yes a0 0 1099511627776 w hz1 hz2)) fun a w hF hM=>xB 3 [(6,.bool false),(7,.bool false),(8,pt bb1 1)] hF fun a hF=>wl (xL 9 1 1 (v:=iv a1) hF hM fun a w hF hM=>wl (xM 10 (v:=.bool true) hF hM (xC 45 #[iv a1,iv 0,iv 1099511627776] hF (fun w hM=>within_yes a1 0 1099511627776 w hz3 hz4)) fun a w hF hM=>xB 4 [(11,.bool false),(12,.bool false),(13,.bool false),(14,pt bb1 4)] hF fun a hF=>wl (xL 15 1 4 (v:=iv a4) hF hM fun a w hF hM=>wl (xM 16 (v:=.bool true) hF hM (xC 45 #[iv a4,iv 0,iv 1099511627776] hF (fun w hM=>within_yes a4 0 1099511627776 w hz5 hz6)) fun a w hF hM=>xB 4 [(17,.bool false),(18,.bool false),(19,.bool false),(20,pt bb1 2)] hF fun a hF=>wl (xL 21 1 2 (v:=iv a2) hF hM fun a w hF hM=>?_))))))))
           refine wl (xM 22 (v:=.bool true) hF hM (xC 45 #[iv a2,iv 0,iv 7] hF (fun w hM=>within_yes a2 0 7 w hz7 hz8)) fun a w hF hM=>xB 4 [(23,.bool false),(24,.bool false),(25,.bool false),(26,pt bb1 3)] hF fun a hF=>wl (xL 27 1 3 (v:=iv a3) hF hM fun a w hF hM=>wl (xM 28 (v:=.bool true) hF hM (xC 45 #[iv a3,iv 84,iv 1542] hF (fun w hM=>within_yes a3 84 1542 w hz9 hz10)) fun a w hF hM=>xB 2 [(29,.bool false),(30,.bool false)] hF fun a hF=>wpList_nil (hK3 _ _ (xF hF (wp_skip (hK2 _ _ (wp_seq_k fun K4 hK4=>wp_region_lit ?_))))))))
           refine xB 1 [(2,iv 0)] hF fun a hF=>wpList_nil (hK4 _ _ (wp_ret (hR0 _ _ (ret_of hF hM (.tmp rfl (.nil)) (⟨ret_int (by unfold ckI; omega),hM.bel⟩)))))
          refine wp_region_lit (xB 1 [(3,pt bb1 0)] hF fun a hF=>wl (xL 4 1 0 (v:=iv a0) hF hM fun a w hF hM=>wl (xM 5 (v:=.bool true) hF hM (xC 45 #[iv a0,iv 0,iv 1099511627776] hF (fun w hM=>within_yes a0 0 1099511627776 w hz1 hz2)) fun a w hF hM=>xB 3 [(6,.bool false),(7,.bool false),(8,pt bb1 1)] hF fun a hF=>wl (xL 9 1 1 (v:=iv a1) hF hM fun a w hF hM=>wl (xM 10 (v:=.bool true) hF hM (xC 45 #[iv a1,iv 0,iv 1099511627776] hF (fun w hM=>within_yes a1 0 1099511627776 w hz3 hz4)) fun a w hF hM=>xB 4 [(11,.bool false),(12,.bool false),(13,.bool false),(14,pt bb1 4)] hF fun a hF=>wl (xL 15 1 4 (v:=iv a4) hF hM fun a w hF hM=>wl (xM 16 (v:=.bool true) hF hM (xC 45 #[iv a4,iv 0,iv 1099511627776] hF (fun w hM=>within_yes a4 0 1099511627776 w hz5 hz6)) fun a w hF hM=>xB 4 [(17,.bool false),(18,.bool false),(19,.bool false),(20,pt bb1 2)] hF fun a hF=>wl (xL 21 1 2 (v:=iv a2) hF hM fun a w hF hM=>?_))))))))
          refine wl (xM 22 (v:=.bool true) hF hM (xC 45 #[iv a2,iv 0,iv 7] hF (fun w hM=>within_yes a2 0 7 w hz7 hz8)) fun a w hF hM=>xB 4 [(23,.bool false),(24,.bool false),(25,.bool false),(26,pt bb1 3)] hF fun a hF=>wl (xL 27 1 3 (v:=iv a3) hF hM fun a w hF hM=>wl (xM 28 (v:=.bool false) hF hM (xC 45 #[iv a3,iv 84,iv 1542] hF (fun w hM=>within_no a3 84 1542 w (.inr hz10))) fun a w hF hM=>xB 2 [(29,.bool true),(30,.bool true)] hF fun a hF=>wpList_nil (hK3 _ _ (xT hF (wp_seq_k fun K5 hK5=>wp_region_lit (xB 1 [(2,iv 460)] hF fun a hF=>wpList_nil ?_)))))))
          refine hK5 _ _ (wp_ret (hR0 _ _ (ret_of hF hM (.tmp rfl (.nil)) (⟨ret_int (by unfold ckI; omega),hM.bel⟩))))
         refine wp_region_lit (xB 1 [(3,pt bb1 0)] hF fun a hF=>wl (xL 4 1 0 (v:=iv a0) hF hM fun a w hF hM=>wl (xM 5 (v:=.bool true) hF hM (xC 45 #[iv a0,iv 0,iv 1099511627776] hF (fun w hM=>within_yes a0 0 1099511627776 w hz1 hz2)) fun a w hF hM=>xB 3 [(6,.bool false),(7,.bool false),(8,pt bb1 1)] hF fun a hF=>wl (xL 9 1 1 (v:=iv a1) hF hM fun a w hF hM=>wl (xM 10 (v:=.bool true) hF hM (xC 45 #[iv a1,iv 0,iv 1099511627776] hF (fun w hM=>within_yes a1 0 1099511627776 w hz3 hz4)) fun a w hF hM=>xB 4 [(11,.bool false),(12,.bool false),(13,.bool false),(14,pt bb1 4)] hF fun a hF=>wl (xL 15 1 4 (v:=iv a4) hF hM fun a w hF hM=>wl (xM 16 (v:=.bool true) hF hM (xC 45 #[iv a4,iv 0,iv 1099511627776] hF (fun w hM=>within_yes a4 0 1099511627776 w hz5 hz6)) fun a w hF hM=>xB 4 [(17,.bool false),(18,.bool false),(19,.bool false),(20,pt bb1 2)] hF fun a hF=>wl (xL 21 1 2 (v:=iv a2) hF hM fun a w hF hM=>?_))))))))
         refine wl (xM 22 (v:=.bool true) hF hM (xC 45 #[iv a2,iv 0,iv 7] hF (fun w hM=>within_yes a2 0 7 w hz7 hz8)) fun a w hF hM=>xB 4 [(23,.bool false),(24,.bool false),(25,.bool false),(26,pt bb1 3)] hF fun a hF=>wl (xL 27 1 3 (v:=iv a3) hF hM fun a w hF hM=>wl (xM 28 (v:=.bool false) hF hM (xC 45 #[iv a3,iv 84,iv 1542] hF (fun w hM=>within_no a3 84 1542 w (.inl hz9))) fun a w hF hM=>xB 2 [(29,.bool true),(30,.bool true)] hF fun a hF=>wpList_nil (hK3 _ _ (xT hF (wp_seq_k fun K6 hK6=>wp_region_lit (xB 1 [(2,iv 460)] hF fun a hF=>wpList_nil ?_)))))))
         refine hK6 _ _ (wp_ret (hR0 _ _ (ret_of hF hM (.tmp rfl (.nil)) (⟨ret_int (by unfold ckI; omega),hM.bel⟩))))
        refine wp_region_lit (xB 1 [(3,pt bb1 0)] hF fun a hF=>wl (xL 4 1 0 (v:=iv a0) hF hM fun a w hF hM=>wl (xM 5 (v:=.bool true) hF hM (xC 45 #[iv a0,iv 0,iv 1099511627776] hF (fun w hM=>within_yes a0 0 1099511627776 w hz1 hz2)) fun a w hF hM=>xB 3 [(6,.bool false),(7,.bool false),(8,pt bb1 1)] hF fun a hF=>wl (xL 9 1 1 (v:=iv a1) hF hM fun a w hF hM=>wl (xM 10 (v:=.bool true) hF hM (xC 45 #[iv a1,iv 0,iv 1099511627776] hF (fun w hM=>within_yes a1 0 1099511627776 w hz3 hz4)) fun a w hF hM=>xB 4 [(11,.bool false),(12,.bool false),(13,.bool false),(14,pt bb1 4)] hF fun a hF=>wl (xL 15 1 4 (v:=iv a4) hF hM fun a w hF hM=>wl (xM 16 (v:=.bool true) hF hM (xC 45 #[iv a4,iv 0,iv 1099511627776] hF (fun w hM=>within_yes a4 0 1099511627776 w hz5 hz6)) fun a w hF hM=>xB 4 [(17,.bool false),(18,.bool false),(19,.bool false),(20,pt bb1 2)] hF fun a hF=>wl (xL 21 1 2 (v:=iv a2) hF hM fun a w hF hM=>?_))))))))
        refine wl (xM 22 (v:=.bool false) hF hM (xC 45 #[iv a2,iv 0,iv 7] hF (fun w hM=>within_no a2 0 7 w (.inr hz8))) fun a w hF hM=>xB 8 [(23,.bool true),(24,.bool true),(25,.bool true),(26,undef),(27,undef),(28,undef),(29,undef),(30,.bool true)] hF fun a hF=>wpList_nil (hK3 _ _ (xT hF (wp_seq_k fun K7 hK7=>wp_region_lit (xB 1 [(2,iv 460)] hF fun a hF=>wpList_nil (hK7 _ _ (wp_ret (hR0 _ _ ?_))))))))
        refine ret_of hF hM (.tmp rfl (.nil)) (⟨ret_int (by unfold ckI; omega),hM.bel⟩)
       refine wp_region_lit (xB 1 [(3,pt bb1 0)] hF fun a hF=>wl (xL 4 1 0 (v:=iv a0) hF hM fun a w hF hM=>wl (xM 5 (v:=.bool true) hF hM (xC 45 #[iv a0,iv 0,iv 1099511627776] hF (fun w hM=>within_yes a0 0 1099511627776 w hz1 hz2)) fun a w hF hM=>xB 3 [(6,.bool false),(7,.bool false),(8,pt bb1 1)] hF fun a hF=>wl (xL 9 1 1 (v:=iv a1) hF hM fun a w hF hM=>wl (xM 10 (v:=.bool true) hF hM (xC 45 #[iv a1,iv 0,iv 1099511627776] hF (fun w hM=>within_yes a1 0 1099511627776 w hz3 hz4)) fun a w hF hM=>xB 4 [(11,.bool false),(12,.bool false),(13,.bool false),(14,pt bb1 4)] hF fun a hF=>wl (xL 15 1 4 (v:=iv a4) hF hM fun a w hF hM=>wl (xM 16 (v:=.bool true) hF hM (xC 45 #[iv a4,iv 0,iv 1099511627776] hF (fun w hM=>within_yes a4 0 1099511627776 w hz5 hz6)) fun a w hF hM=>xB 4 [(17,.bool false),(18,.bool false),(19,.bool false),(20,pt bb1 2)] hF fun a hF=>wl (xL 21 1 2 (v:=iv a2) hF hM fun a w hF hM=>?_))))))))
       refine wl (xM 22 (v:=.bool false) hF hM (xC 45 #[iv a2,iv 0,iv 7] hF (fun w hM=>within_no a2 0 7 w (.inl hz7))) fun a w hF hM=>xB 8 [(23,.bool true),(24,.bool true),(25,.bool true),(26,undef),(27,undef),(28,undef),(29,undef),(30,.bool true)] hF fun a hF=>wpList_nil (hK3 _ _ (xT hF (wp_seq_k fun K8 hK8=>wp_region_lit (xB 1 [(2,iv 460)] hF fun a hF=>wpList_nil (hK8 _ _ (wp_ret (hR0 _ _ ?_))))))))
       refine ret_of hF hM (.tmp rfl (.nil)) (⟨ret_int (by unfold ckI; omega),hM.bel⟩)
      refine wp_region_lit (xB 1 [(3,pt bb1 0)] hF fun a hF=>wl (xL 4 1 0 (v:=iv a0) hF hM fun a w hF hM=>wl (xM 5 (v:=.bool true) hF hM (xC 45 #[iv a0,iv 0,iv 1099511627776] hF (fun w hM=>within_yes a0 0 1099511627776 w hz1 hz2)) fun a w hF hM=>xB 3 [(6,.bool false),(7,.bool false),(8,pt bb1 1)] hF fun a hF=>wl (xL 9 1 1 (v:=iv a1) hF hM fun a w hF hM=>wl (xM 10 (v:=.bool true) hF hM (xC 45 #[iv a1,iv 0,iv 1099511627776] hF (fun w hM=>within_yes a1 0 1099511627776 w hz3 hz4)) fun a w hF hM=>xB 4 [(11,.bool false),(12,.bool false),(13,.bool false),(14,pt bb1 4)] hF fun a hF=>wl (xL 15 1 4 (v:=iv a4) hF hM fun a w hF hM=>wl (xM 16 (v:=.bool false) hF hM (xC 45 #[iv a4,iv 0,iv 1099511627776] hF (fun w hM=>within_no a4 0 1099511627776 w (.inr hz6))) fun a w hF hM=>xB 14 [(17,.bool true),(18,.bool true),(19,.bool true),(20,undef),(21,undef),(22,undef),(23,undef),(24,.bool true),(25,.bool true),(26,undef),(27,undef),(28,undef),(29,undef),(30,.bool true)] hF fun a hF=>wpList_nil ?_)))))))
      refine hK3 _ _ (xT hF (wp_seq_k fun K9 hK9=>wp_region_lit (xB 1 [(2,iv 460)] hF fun a hF=>wpList_nil (hK9 _ _ (wp_ret (hR0 _ _ (ret_of hF hM (.tmp rfl (.nil)) (⟨ret_int (by unfold ckI; omega),hM.bel⟩))))))))
     refine wp_region_lit (xB 1 [(3,pt bb1 0)] hF fun a hF=>wl (xL 4 1 0 (v:=iv a0) hF hM fun a w hF hM=>wl (xM 5 (v:=.bool true) hF hM (xC 45 #[iv a0,iv 0,iv 1099511627776] hF (fun w hM=>within_yes a0 0 1099511627776 w hz1 hz2)) fun a w hF hM=>xB 3 [(6,.bool false),(7,.bool false),(8,pt bb1 1)] hF fun a hF=>wl (xL 9 1 1 (v:=iv a1) hF hM fun a w hF hM=>wl (xM 10 (v:=.bool true) hF hM (xC 45 #[iv a1,iv 0,iv 1099511627776] hF (fun w hM=>within_yes a1 0 1099511627776 w hz3 hz4)) fun a w hF hM=>xB 4 [(11,.bool false),(12,.bool false),(13,.bool false),(14,pt bb1 4)] hF fun a hF=>wl (xL 15 1 4 (v:=iv a4) hF hM fun a w hF hM=>wl (xM 16 (v:=.bool false) hF hM (xC 45 #[iv a4,iv 0,iv 1099511627776] hF (fun w hM=>within_no a4 0 1099511627776 w (.inl hz5))) fun a w hF hM=>xB 14 [(17,.bool true),(18,.bool true),(19,.bool true),(20,undef),(21,undef),(22,undef),(23,undef),(24,.bool true),(25,.bool true),(26,undef),(27,undef),(28,undef),(29,undef),(30,.bool true)] hF fun a hF=>wpList_nil ?_)))))))
     refine hK3 _ _ (xT hF (wp_seq_k fun K10 hK10=>wp_region_lit (xB 1 [(2,iv 460)] hF fun a hF=>wpList_nil (hK10 _ _ (wp_ret (hR0 _ _ (ret_of hF hM (.tmp rfl (.nil)) (⟨ret_int (by unfold ckI; omega),hM.bel⟩))))))))
    refine wp_region_lit (xB 1 [(3,pt bb1 0)] hF fun a hF=>wl (xL 4 1 0 (v:=iv a0) hF hM fun a w hF hM=>wl (xM 5 (v:=.bool true) hF hM (xC 45 #[iv a0,iv 0,iv 1099511627776] hF (fun w hM=>within_yes a0 0 1099511627776 w hz1 hz2)) fun a w hF hM=>xB 3 [(6,.bool false),(7,.bool false),(8,pt bb1 1)] hF fun a hF=>wl (xL 9 1 1 (v:=iv a1) hF hM fun a w hF hM=>wl (xM 10 (v:=.bool false) hF hM (xC 45 #[iv a1,iv 0,iv 1099511627776] hF (fun w hM=>within_no a1 0 1099511627776 w (.inr hz4))) fun a w hF hM=>xB 20 [(11,.bool true),(12,.bool true),(13,.bool true),(14,undef),(15,undef),(16,undef),(17,undef),(18,.bool true),(19,.bool true),(20,undef),(21,undef),(22,undef),(23,undef),(24,.bool true),(25,.bool true),(26,undef),(27,undef),(28,undef),(29,undef),(30,.bool true)] hF fun a hF=>wpList_nil (hK3 _ _ (xT hF (wp_seq_k fun K11 hK11=>?_))))))))
    refine wp_region_lit (xB 1 [(2,iv 460)] hF fun a hF=>wpList_nil (hK11 _ _ (wp_ret (hR0 _ _ (ret_of hF hM (.tmp rfl (.nil)) (⟨ret_int (by unfold ckI; omega),hM.bel⟩))))))
   refine wp_region_lit (xB 1 [(3,pt bb1 0)] hF fun a hF=>wl (xL 4 1 0 (v:=iv a0) hF hM fun a w hF hM=>wl (xM 5 (v:=.bool true) hF hM (xC 45 #[iv a0,iv 0,iv 1099511627776] hF (fun w hM=>within_yes a0 0 1099511627776 w hz1 hz2)) fun a w hF hM=>xB 3 [(6,.bool false),(7,.bool false),(8,pt bb1 1)] hF fun a hF=>wl (xL 9 1 1 (v:=iv a1) hF hM fun a w hF hM=>wl (xM 10 (v:=.bool false) hF hM (xC 45 #[iv a1,iv 0,iv 1099511627776] hF (fun w hM=>within_no a1 0 1099511627776 w (.inl hz3))) fun a w hF hM=>xB 20 [(11,.bool true),(12,.bool true),(13,.bool true),(14,undef),(15,undef),(16,undef),(17,undef),(18,.bool true),(19,.bool true),(20,undef),(21,undef),(22,undef),(23,undef),(24,.bool true),(25,.bool true),(26,undef),(27,undef),(28,undef),(29,undef),(30,.bool true)] hF fun a hF=>wpList_nil (hK3 _ _ (xT hF (wp_seq_k fun K12 hK12=>?_))))))))
   refine wp_region_lit (xB 1 [(2,iv 460)] hF fun a hF=>wpList_nil (hK12 _ _ (wp_ret (hR0 _ _ (ret_of hF hM (.tmp rfl (.nil)) (⟨ret_int (by unfold ckI; omega),hM.bel⟩))))))
  refine wp_region_lit (xB 1 [(3,pt bb1 0)] hF fun a hF=>wl (xL 4 1 0 (v:=iv a0) hF hM fun a w hF hM=>wl (xM 5 (v:=.bool false) hF hM (xC 45 #[iv a0,iv 0,iv 1099511627776] hF (fun w hM=>within_no a0 0 1099511627776 w (.inr hz2))) fun a w hF hM=>xB 25 [(6,.bool true),(7,.bool true),(8,undef),(9,undef),(10,undef),(11,undef),(12,.bool true),(13,.bool true),(14,undef),(15,undef),(16,undef),(17,undef),(18,.bool true),(19,.bool true),(20,undef),(21,undef),(22,undef),(23,undef),(24,.bool true),(25,.bool true),(26,undef),(27,undef),(28,undef),(29,undef),(30,.bool true)] hF fun a hF=>wpList_nil (hK3 _ _ (xT hF (wp_seq_k fun K13 hK13=>wp_region_lit (xB 1 [(2,iv 460)] hF fun a hF=>wpList_nil ?_)))))))
  refine hK13 _ _ (wp_ret (hR0 _ _ (ret_of hF hM (.tmp rfl (.nil)) (⟨ret_int (by unfold ckI; omega),hM.bel⟩))))
 refine wp_region_lit (xB 1 [(3,pt bb1 0)] hF fun a hF=>wl (xL 4 1 0 (v:=iv a0) hF hM fun a w hF hM=>wl (xM 5 (v:=.bool false) hF hM (xC 45 #[iv a0,iv 0,iv 1099511627776] hF (fun w hM=>within_no a0 0 1099511627776 w (.inl hz1))) fun a w hF hM=>xB 25 [(6,.bool true),(7,.bool true),(8,undef),(9,undef),(10,undef),(11,undef),(12,.bool true),(13,.bool true),(14,undef),(15,undef),(16,undef),(17,undef),(18,.bool true),(19,.bool true),(20,undef),(21,undef),(22,undef),(23,undef),(24,.bool true),(25,.bool true),(26,undef),(27,undef),(28,undef),(29,undef),(30,.bool true)] hF fun a hF=>wpList_nil (hK3 _ _ (xT hF (wp_seq_k fun K14 hK14=>wp_region_lit (xB 1 [(2,iv 460)] hF fun a hF=>wpList_nil ?_)))))))
 refine hK14 _ _ (wp_ret (hR0 _ _ (ret_of hF hM (.tmp rfl (.nil)) (⟨ret_int (by unfold ckI; omega),hM.bel⟩))))
theorem whole_w (a0 a1 a2 a3 a4:Int) (w0:World) :
    Calls Tryz.prog 84 #[.agg #[iv a0,iv a1,iv a2,iv a3,iv a4]] w0 (Ret w0 (.agg #[.int .i64 a0,.int .i64 a1,.int .i64 a2,.int .i64 a3,.int .i64 a4,.int .i64 a3,.bool false])):=by
 refine enterK 7 Tryz.func84 rfl rfl rfl ?_
 intro a hF Q0 hR0 hN0
 have hM:=Mem.start w0
 refine wp_seq_k fun K1 hK1=>wp_region_lit (wl (xN 1 1 (t:=48) (fun b=>.pointer (some ⟨b,0,none⟩)) #[iv a0,iv a1,iv a2,iv a3,iv a4] hF hM fun bb1 a w hF hM=>wl (xN 2 2 (t:=50) (fun b=>.pointer (some ⟨b,0,none⟩)) #[iv 0,iv 0,iv 0,iv 0,iv 0,iv 0,.bool false] hF hM fun bb2 a w hF hM=>wpList_nil (hK1 _ _ (wp_seq_k fun K2 hK2=>wp_region_lit (wl (xL 3 1 0 (v:=.agg #[iv a0,iv a1,iv a2,iv a3,iv a4]) hF hM fun a w hF hM=>xB 1 [(4,pt bb1 3)] hF fun a hF=>wl (xL 5 1 3 (v:=iv a3) hF hM fun a w hF hM=>xB 1 [(6,.agg #[iv a0,iv a1,iv a2,iv a3,iv a4,iv a3,.bool false])] hF fun a hF=>?_))))))))
 refine wl (xS 2 0 #[iv a0,iv a1,iv a2,iv a3,iv a4,iv a3,.bool false] hF hM fun w hM=>wpList_nil (hK2 _ _ (wp_ret (hR0 _ _ (ret_of hF hM (.cell (i:=2) rfl rfl (v:=.agg #[iv a0,iv a1,iv a2,iv a3,iv a4,iv a3,.bool false]) (by kernel_rfl) (.nil)) (⟨rfl,hM.bel⟩))))))
theorem ckPart_w (a0 a1 a2 a3 a4 a5 r:Int) (w0:World) :
    Calls Tryz.prog 67 #[.agg #[iv a0,iv a1,iv a2,iv a3,iv a4,iv a5,.bool (decide (r=1))]] w0 (Ret w0 (.int .i64 (ckP a0 a1 a2 a3 a4 a5 r))):=by
 refine enterK 34 Tryz.func67 rfl rfl rfl ?_
 intro a hF Q0 hR0 hN0
 have hM:=Mem.start w0
 refine wp_seq_k fun K1 hK1=>wp_region_lit (wl (xN 1 1 (t:=50) (fun b=>.pointer (some ⟨b,0,none⟩)) #[iv a0,iv a1,iv a2,iv a3,iv a4,iv a5,.bool (decide (r=1))] hF hM fun bb1 a w hF hM=>xB 1 [(2,iv 0)] hF fun a hF=>wpList_nil (hK1 _ _ (wp_seq_k fun K2 hK2=>wp_seq_k fun K3 hK3=>wp_region_lit (xB 1 [(4,pt bb1 0)] hF fun a hF=>wl (xL 5 1 0 (v:=.agg #[iv a0,iv a1,iv a2,iv a3,iv a4]) hF hM fun a w hF hM=>wl (xM 6 (v:=iv (ckI a0 a1 a2 a3 a4)) hF hM (xC 50 #[.agg #[iv a0,iv a1,iv a2,iv a3,iv a4]] hF (fun w hM=>ckItem_w a0 a1 a2 a3 a4 w)) fun a w hF hM=>?_)))))))
 refine xB 1 [(3,iv (ckI a0 a1 a2 a3 a4))] hF fun a hF=>wpList_nil (hK3 _ _ (wp_seq_k fun K4 hK4=>wp_region_lit (xB 2 [(7,iv (ckI a0 a1 a2 a3 a4)),(8,.bool (!decide (ckI a0 a1 a2 a3 a4=0)))] hF fun a hF=>wpList_nil (hK4 _ _ ?_))))
 by_cases hz1:ckI a0 a1 a2 a3 a4=0
 ·have hz2:=ckI_ok hz1
  replace hF:=hF.c hF (i:=8) (v:=.bool false) rfl (nT hz1)
  refine xF hF (wp_skip (hK2 _ _ (wp_seq_k fun K5 hK5=>wp_seq_k fun K6 hK6=>rQ hM (by kernel_rfl) (by kernel_rfl) (xK 10 1 0 (v:=.agg #[iv a0,iv a1,iv a2,iv a3,iv a4,iv a5,.bool (decide (r=1))]) hF fun a hF=>xQ 11 (v0:=pt bb1 0) (v:=pt bb1 0) hF rfl fun a hF=>xK 12 1 0 (v:=.agg #[iv a0,iv a1,iv a2,iv a3,iv a4]) hF fun a hF=>xR 13 (v:=.agg #[iv a0,iv a1,iv a2,iv a3,iv a4,iv a3,.bool false]) hF (xC 84 #[.agg #[iv a0,iv a1,iv a2,iv a3,iv a4]] hF (fun w hM=>whole_w a0 a1 a2 a3 a4 w)) fun a hF=>xR 14 (v:=.bool (decide ([a0,a1,a2,a3,a4,a5]=[a0,a1,a2,a3,a4,a3] ∧ (decide (r=1))=false))) hF (yld_eqlP (C:=Mem _ _ _) a0 a1 a2 a3 a4 a5 a0 a1 a2 a3 a4 a3 (decide (r=1)) false hF rfl (by kernel_rfl) (by kernel_rfl) (by kernel_rfl)) fun a hF=>wpQuiet_nil ?_))))
  intro w hM
  refine hK6 _ _ ?_
  by_cases hz3:[a0,a1,a2,a3,a4,a5]=[a0,a1,a2,a3,a4,a3] ∧ (decide (r=1))=false
  ·replace hF:=hF.c hF (i:=14) (v:=.bool true) rfl (bT hz3)
   refine xT hF (wp_seq_k fun K7 hK7=>wp_region_lit (xB 1 [(2,iv 0)] hF fun a hF=>wpList_nil (hK7 _ _ (wp_ret (hR0 _ _ (ret_of hF hM (.tmp rfl (.nil)) ?_))))))
   have hck:=ckI_2 a0 a1 a2 a3 a4
   rw [isWhole] at hz3
   exact ⟨ret_int (by unfold ckP; omega),hM.bel⟩
  replace hF:=hF.c hF (i:=14) (v:=.bool false) rfl (bF hz3)
  refine xF hF (wp_skip (hK5 _ _ (wp_seq_k fun K8 hK8=>wp_seq_k fun K9 hK9=>?_)))
  by_cases hz4:r=1
  ·by_cases hz5:5 < a2
   ·refine wp_region_lit (xB 1 [(15,pt bb1 6)] hF fun a hF=>wl (xM 16 (v:=.bool true) hF hM (Yld.to (v:=.bool (decide (r=1))) (yld_row (i:=1) (off:=6) hF rfl (by kernel_rfl) (by kernel_rfl) rfl (by kernel_rfl)) (bT hz4)) fun a w hF hM=>xB 4 [(17,.bool false),(18,.bool false),(19,pt bb1 0),(20,pt bb1 2)] hF fun a hF=>wl (xL 21 1 2 (v:=iv a2) hF hM fun a w hF hM=>wl (xP 22 (v0:=.bool (decide (5 < a2))) (v:=.bool true) hF (bT hz5) fun a hF=>xB 11 [(23,.bool true),(24,.bool true),(25,undef),(26,undef),(27,undef),(28,undef),(29,undef),(30,undef),(31,undef),(32,undef),(33,.bool true)] hF fun a hF=>wpList_nil (hK9 _ _ (xT hF (wp_seq_k fun K10 hK10=>wp_region_lit ?_)))))))
    refine xB 1 [(2,iv 460)] hF fun a hF=>wpList_nil (hK10 _ _ (wp_ret (hR0 _ _ (ret_of hF hM (.tmp rfl (.nil)) ?_))))
    have hck:=ckI_2 a0 a1 a2 a3 a4
    rw [isWhole] at hz3
    exact ⟨ret_int (by unfold ckP; omega),hM.bel⟩
   by_cases hz6:88 ≤ a5
   ·by_cases hz7:a5 ≤ a3 - 40
    ·refine wp_region_lit (xB 1 [(15,pt bb1 6)] hF fun a hF=>wl (xM 16 (v:=.bool true) hF hM (Yld.to (v:=.bool (decide (r=1))) (yld_row (i:=1) (off:=6) hF rfl (by kernel_rfl) (by kernel_rfl) rfl (by kernel_rfl)) (bT hz4)) fun a w hF hM=>xB 4 [(17,.bool false),(18,.bool false),(19,pt bb1 0),(20,pt bb1 2)] hF fun a hF=>wl (xL 21 1 2 (v:=iv a2) hF hM fun a w hF hM=>wl (xP 22 (v0:=.bool (decide (5 < a2))) (v:=.bool false) hF (bF hz5) fun a hF=>xB 3 [(23,.bool false),(24,.bool false),(25,pt bb1 5)] hF fun a hF=>wl (xL 26 1 5 (v:=iv a5) hF hM fun a w hF hM=>xB 2 [(27,pt bb1 0),(28,pt bb1 3)] hF fun a hF=>wl (xL 29 1 3 (v:=iv a3) hF hM fun a w hF hM=>wl (xP 30 (v0:=.int .i64 (IntKind.i64.wrap (a3 - 40))) (v:=iv (a3 - 40)) hF (wi (by omega)) fun a hF=>wl (xM 31 (v:=.bool true) hF hM (xC 45 #[iv a5,iv 88,iv (a3 - 40)] hF (fun w hM=>within_yes a5 88 (a3 - 40) w hz6 hz7)) fun a w hF hM=>?_))))))))
     refine xB 2 [(32,.bool false),(33,.bool false)] hF fun a hF=>wpList_nil (hK9 _ _ (xF hF (wp_skip (hK8 _ _ (wp_seq_k fun K11 hK11=>wp_region_lit (xB 1 [(2,iv 0)] hF fun a hF=>wpList_nil (hK11 _ _ (wp_ret ?_))))))))
     refine hR0 _ _ (ret_of hF hM (.tmp rfl (.nil)) ?_)
     have hck:=ckI_2 a0 a1 a2 a3 a4
     rw [isWhole] at hz3
     exact ⟨ret_int (by unfold ckP; omega),hM.bel⟩
    refine wp_region_lit (xB 1 [(15,pt bb1 6)] hF fun a hF=>wl (xM 16 (v:=.bool true) hF hM (Yld.to (v:=.bool (decide (r=1))) (yld_row (i:=1) (off:=6) hF rfl (by kernel_rfl) (by kernel_rfl) rfl (by kernel_rfl)) (bT hz4)) fun a w hF hM=>xB 4 [(17,.bool false),(18,.bool false),(19,pt bb1 0),(20,pt bb1 2)] hF fun a hF=>wl (xL 21 1 2 (v:=iv a2) hF hM fun a w hF hM=>wl (xP 22 (v0:=.bool (decide (5 < a2))) (v:=.bool false) hF (bF hz5) fun a hF=>xB 3 [(23,.bool false),(24,.bool false),(25,pt bb1 5)] hF fun a hF=>wl (xL 26 1 5 (v:=iv a5) hF hM fun a w hF hM=>xB 2 [(27,pt bb1 0),(28,pt bb1 3)] hF fun a hF=>wl (xL 29 1 3 (v:=iv a3) hF hM fun a w hF hM=>wl (xP 30 (v0:=.int .i64 (IntKind.i64.wrap (a3 - 40))) (v:=iv (a3 - 40)) hF (wi (by omega)) fun a hF=>wl (xM 31 (v:=.bool false) hF hM (xC 45 #[iv a5,iv 88,iv (a3 - 40)] hF (fun w hM=>within_no a5 88 (a3 - 40) w (.inr hz7))) fun a w hF hM=>?_))))))))
    refine xB 2 [(32,.bool true),(33,.bool true)] hF fun a hF=>wpList_nil (hK9 _ _ (xT hF (wp_seq_k fun K12 hK12=>wp_region_lit (xB 1 [(2,iv 460)] hF fun a hF=>wpList_nil (hK12 _ _ (wp_ret (hR0 _ _ (ret_of hF hM (.tmp rfl (.nil)) ?_))))))))
    have hck:=ckI_2 a0 a1 a2 a3 a4
    rw [isWhole] at hz3
    exact ⟨ret_int (by unfold ckP; omega),hM.bel⟩
   refine wp_region_lit (xB 1 [(15,pt bb1 6)] hF fun a hF=>wl (xM 16 (v:=.bool true) hF hM (Yld.to (v:=.bool (decide (r=1))) (yld_row (i:=1) (off:=6) hF rfl (by kernel_rfl) (by kernel_rfl) rfl (by kernel_rfl)) (bT hz4)) fun a w hF hM=>xB 4 [(17,.bool false),(18,.bool false),(19,pt bb1 0),(20,pt bb1 2)] hF fun a hF=>wl (xL 21 1 2 (v:=iv a2) hF hM fun a w hF hM=>wl (xP 22 (v0:=.bool (decide (5 < a2))) (v:=.bool false) hF (bF hz5) fun a hF=>xB 3 [(23,.bool false),(24,.bool false),(25,pt bb1 5)] hF fun a hF=>wl (xL 26 1 5 (v:=iv a5) hF hM fun a w hF hM=>xB 2 [(27,pt bb1 0),(28,pt bb1 3)] hF fun a hF=>wl (xL 29 1 3 (v:=iv a3) hF hM fun a w hF hM=>wl (xP 30 (v0:=.int .i64 (IntKind.i64.wrap (a3 - 40))) (v:=iv (a3 - 40)) hF (wi (by omega)) fun a hF=>wl (xM 31 (v:=.bool false) hF hM (xC 45 #[iv a5,iv 88,iv (a3 - 40)] hF (fun w hM=>within_no a5 88 (a3 - 40) w (.inl hz6))) fun a w hF hM=>?_))))))))
   refine xB 2 [(32,.bool true),(33,.bool true)] hF fun a hF=>wpList_nil (hK9 _ _ (xT hF (wp_seq_k fun K13 hK13=>wp_region_lit (xB 1 [(2,iv 460)] hF fun a hF=>wpList_nil (hK13 _ _ (wp_ret (hR0 _ _ (ret_of hF hM (.tmp rfl (.nil)) ?_))))))))
   have hck:=ckI_2 a0 a1 a2 a3 a4
   rw [isWhole] at hz3
   exact ⟨ret_int (by unfold ckP; omega),hM.bel⟩
  refine wp_region_lit (xB 1 [(15,pt bb1 6)] hF fun a hF=>wl (xM 16 (v:=.bool false) hF hM (Yld.to (v:=.bool (decide (r=1))) (yld_row (i:=1) (off:=6) hF rfl (by kernel_rfl) (by kernel_rfl) rfl (by kernel_rfl)) (bF hz4)) fun a w hF hM=>xB 17 [(17,.bool true),(18,.bool true),(19,undef),(20,undef),(21,undef),(22,undef),(23,.bool true),(24,.bool true),(25,undef),(26,undef),(27,undef),(28,undef),(29,undef),(30,undef),(31,undef),(32,undef),(33,.bool true)] hF fun a hF=>wpList_nil (hK9 _ _ (xT hF (wp_seq_k fun K14 hK14=>wp_region_lit (xB 1 [(2,iv 460)] hF fun a hF=>wpList_nil (hK14 _ _ ?_)))))))
  refine wp_ret (hR0 _ _ (ret_of hF hM (.tmp rfl (.nil)) ?_))
  have hck:=ckI_2 a0 a1 a2 a3 a4
  rw [isWhole] at hz3
  exact ⟨ret_int (by unfold ckP; omega),hM.bel⟩
 replace hF:=hF.c hF (i:=8) (v:=.bool true) rfl (nF hz1)
 refine xT hF (wp_seq_k fun K15 hK15=>wp_region_lit (xB 2 [(9,iv (ckI a0 a1 a2 a3 a4)),(2,iv (ckI a0 a1 a2 a3 a4))] hF fun a hF=>wpList_nil (hK15 _ _ (wp_ret (hR0 _ _ (ret_of hF hM (.tmp rfl (.nil)) ?_))))))
 have hck:=ckI_2 a0 a1 a2 a3 a4
 exact ⟨ret_int (by unfold ckP; omega),hM.bel⟩
end Go.Proofs.YtlngflbamkgjlaaGreat
namespace Go.Proofs.YtlngflbamkgjlaaGreat
open Go.RowKit
set_option linter.unusedVariables false
set_option linter.unusedSimpArgs false
section
variable {P:Program} {n:NF} {B:Nat} {F:List (Nat × Option Value)} {L:List (Nat × Option Ent)} {a:Act} {w w0:World} {o:Oper} {ops:Array Oper} {Q:Exit → Act → World → Prop} {K:Act → World → Prop} {C:World → Prop}
theorem yld_slice3 {t e len cap m c:Nat} {x y u:Operand} {A:Option Addr} {i j:Int} (hF:Fr n F a) (ho:o.op=.slice t x none (some y) (some u)) (hk:known F o=true) (hx:evF F x=.slice A len cap) (hy:evF F y=.int .i64 i) (hu':evF F u=.int .i64 j) (hu:P.underlying t=some (.slice e)) (hs:(P.info? e).isSome=true) (hm:i=(m:Int)) (hj:j=(c:Int)) (hmc:m ≤ c) (hc:c ≤ cap):Yld P o a C (.slice A m c):=by
  intro w _
  unfold Oper.quietAt
  rw [hF.exec hk]
  obtain ⟨q,hq⟩:=Option.isSome_iff_exists.1 hs
  have h0:((0:Int) ≤ (m:Int) ∧ (m:Int) ≤ (c:Int)):=by omega
  have h1:((0:Int) ≤ (c:Int) ∧ (c:Int) ≤ (cap:Int)):=by omega
  have hA:(if c=0 then A else A.map (·.add (0 * q.size)))=A:=by
    split
    · rfl
    · cases A <;> simp [Addr.add]
  subst hm hj
  simp [execOp,ho,hx,hy,hu',Instr.sliceAt,Instr.slice,run_underlying hu,Instr.sliceBounds,Instr.sliceBound,asIntOf,h0,h1,hmc,hc,sizeOf,typeInfo,hq,hA,Oper.quietUpon,Addr.add]
theorem grown_own {base e:Nat} {i:TypeInfo} {z:Value} {xs news:List Value} {l m old:Nat} (hzs:z.cells.size=i.size) (hx:xs.length=l * i.size) (hl:news.length=m * i.size) (h63:l + m ≤ maxLen) (hbase:base ≤ w.heap.size) :
    (w.drew.alloc (.cells (xs.toArray ++ news.toArray ++ Builtin.zeroCells z.cells (grownCap w (l + m) old e - (l + m))) e)).ownsRow base e i.size (.slice (some ⟨w.heap.size,0,none⟩) (l + m) (grownCap w (l + m) old e)) (l + m) (xs ++ news) ∧
    w.grownBy (w.drew.alloc (.cells (xs.toArray ++ news.toArray ++ Builtin.zeroCells z.cells (grownCap w (l + m) old e - (l + m))) e)) none:=by
  have hlen:(xs ++ news).length=(l + m) * i.size:=by rw [List.length_append,hx,hl,Nat.add_mul]
  have hge:=grownCap_ge w (l + m) old e
  have hcm:grownCap w (l + m) old e ≤ maxLen:=grownCap_le_maxLen w (l + m) old e h63
  refine ⟨⟨hlen,.inr ⟨w.heap.size,_,_,rfl,hbase,heap_alloc_new w.drew _,hge,hcm,?_,?_⟩⟩,⟨rfl,rfl,rfl,by simp,fun k hk _=>heap_alloc_old w.drew _ hk⟩⟩
  · simp only [Array.size_append,List.size_toArray,size_zeroCells,hzs,hx,hl,← Nat.add_mul]
    congr 1
    omega
  · simp only [Array.toList_append,List.append_assoc]
    rw [← List.append_assoc,← hlen]
    exact List.take_left
theorem sAppG (d k:Nat) {t e size bytes m c l:Nat} {s x:Operand} {z:Value} {A:Option Addr} {ad:Addr} {xs news:List Value} (xs':List Value) (hF:Fr n F a) (hM:Mem B w0 L w) (h:okO n ops F o d=true) (ho:o.op=.call { callee:=.builtin .append,args:=#[s,x],argTypes:=#[t,t] })
    (hs:evF F s=.slice A l l) (hx:evF F x=.slice (some ad) m c) (ht:tyE P t=some (e,size,bytes,z)) (hzs:z.cells.size=size) (hsz:Nat.blt 0 size=true)
    (hxl:xs.length=l * size) (hro0:∀ w,Mem B w0 L w → Ro w A xs) (hn0:A=none → l=0) (hl:news.length=m * size) (hro:∀ w,Mem B w0 L w → Ro w (some ad) news) (hm:0 < m) (hlen:l + m ≤ 1000000) (hby:bytes ≤ 1000000) (hxs:xs ++ news=xs')
    (kk:∀ A' cap' a' w',Fr n ((d,some (.slice A' (l + m) cap')) :: F) a' → Mem B w0 ((k,some (.own (.slice A' (l + m) cap') e size (l + m) xs')) :: L) w' → K a' w'):One P ops Q o K a w:=by
  subst hxs
  obtain ⟨h1',h2,h3,h4⟩:=okO_spec h
  obtain ⟨hu,i,hinf,hz,hsize,hbytes⟩:=tyE_spec ht
  subst hsize
  have hold:=hro0 w hM
  have hread:=hro w hM
  have hprod:(l + m) * bytes ≤ 1000000 * 1000000:=Nat.mul_le_mul hlen hby
  have hn63:l + m ≤ maxLen:=by unfold maxLen; omega
  have hnews:∀ j u,news[j]?=some u → w.cell? (ad.add j)=some u:=fun j u hu=>by
    obtain ⟨b,off,e1,hc⟩:=hread j u hu
    injection e1 with e1
    subst e1
    rw [add_at]
    exact hc
  have fin:∀ old w' v,(Builtin.append_ #[t,t] o.type #[.slice A l l,.slice (some ad) m c]).run P w=.ok v w' → v=.slice (some ⟨w.heap.size,0,none⟩) (l + m) (grownCap w (l + m) old e) → w'=(w.drew.alloc (.cells (xs.toArray ++ news.toArray ++ Builtin.zeroCells z.cells (grownCap w (l + m) old e - (l + m))) e)) → One P ops Q o K a w:=fun old w' v hr hv hw=>by
    subst hv hw
    obtain ⟨hown,hg⟩:=grown_own (w:=w) (base:=w.heap.size) (e:=e) (old:=old) hzs hxl hl hn63 (Nat.le_refl _)
    refine sW hF h3 h1' h2 h4 (v:=.slice (some ⟨w.heap.size,0,none⟩) (l + m) (grownCap w (l + m) old e)) (w':=_) ?_ fun a' ha=>kk _ _ a' _ ha (hM.fresh ⟨hg.os,hg.tape,hg.output,hg.size,fun k hk=>hg.block k hk (by simp)⟩ k (own_base hown hM.lo) fun b hb=>(own_lt hown hb).1)
    simp [execOp,ho,resolve,invoke,builtin,hs,hx,hr]
  cases A with
  | none =>
    have h0:=hn0 rfl
    subst h0
    have hx0:xs=[]:=List.length_eq_zero_iff.1 (by simpa using hxl)
    have hr:=run_append_nil (P:=P) w t o.type e i z hu hinf hz ad m c news hl hnews hm (by omega) (by subst hbytes; simp only [Nat.zero_add] at hprod; omega)
    exact fin 0 _ _ hr (by rw [Nat.zero_add]) (by subst hx0; simp)
  | some a0 =>
    have hb:∀ j v,xs[j]?=some v → w.cell? (a0.add j)=some v:=fun j u hu=>by
      obtain ⟨b,off,e1,hc⟩:=hold j u hu
      injection e1 with e1
      subst e1
      rw [add_at]
      exact hc
    have hr:=run_append_grow (P:=P) w t o.type e i z hu hinf hz a0 l l xs hxl hb ad m c news hl hnews (by omega) (by omega) (growslice_fits (by omega) (by subst hbytes; omega))
    exact fin l _ _ hr rfl rfl
end
end Go.Proofs.YtlngflbamkgjlaaGreat
namespace Go.Proofs.YtlngflbamkgjlaaGreat
open Go.RowKit
set_option linter.unusedVariables false
set_option linter.unusedSimpArgs false
def RF (ro:Option Nat):Fence:={ Fence.wide with round:=ro }
theorem callsIn_RF {ro:Option Nat} {n:Nat} {P:Program} {f:FuncId} {args:Array Value} {w:World} {R:Ending → World → Prop} (h:Calls P f args w R):CallsIn (RF ro) n P f args w R :=
  (callsIn_wide (n:=n)).2 h
theorem rowsIn_RF {ro:Option Nat} {n:Nat} {P:Program} {row:String} {args:Array Value} {w:World} {R:Value → World → Prop} (h:Rows P row args w R):RowsIn (RF ro) n P row args w R:=fun c cs _ =>
  let ⟨v,w',r,s⟩:=h c cs
  ⟨v,w',r,(stepsIn_wide (m:=lone (Frame.ofRow P row args .normal) (c :: cs) w)).2 s⟩
def wpLi (F:Fence) (n:Nat) (P:Program) (ops:Array Oper) (Q:Exit → Act → World → Prop):List Oper → Act → World → Prop
  | [], a, w => Q .normal a w
  | o :: rest, a, w => if Region.wanted o (yielded ops a.tmps) then o.wpIn F n P a w (wpLi F n P ops Q rest) Q else (∀ f, o.about P w a.eval = some f → F.fn f) ∧ wpLi F n P ops Q rest (a.put o.dst undef) w
theorem wpOpsIn_eq {F:Fence} {n:Nat} {P:Program} {ops:Array Oper} {Q:Exit → Act → World → Prop} (l:List Oper):∀ k,(∀ j,l[j]?=ops[k + j]?) → wpOpsIn F n P ops Q (List.range' k l.length)=wpLi F n P ops Q l:=by
  induction l with
  | nil => intro k _; funext a w; simp [wpOpsIn, wpLi]
  | cons o l ih =>
    intro k h
    have h0:ops[k]?=some o:=by simpa using (h 0).symm
    have ih':=ih (k + 1) (fun j=>by have:=h (j + 1); simpa [Nat.add_assoc,Nat.add_comm 1 j] using this)
    funext a w
    simp only [List.length_cons,List.range'_succ,wpOpsIn,h0,wpLi,ih']
theorem wpR_region {F:Fence} {n:Nat} {P:Program} {Q:Exit → Act → World → Prop} {a:Act} {w:World} {id:Nat} {l:List Oper} (h:wpLi F n P l.toArray Q l a w):(Code.region id l.toArray false).wpIn F n P Q a w:=by
  refine wpIn_region ?_
  have:=wpOpsIn_eq (F:=F) (n:=n) (P:=P) (ops:=l.toArray) (Q:=Q) l 0 (by simp)
  rw [List.range_eq_range',show l.toArray.size=l.length by simp,this]
  exact h
def noDefer (o:Oper):Bool:=match o.op with
  | .defer _ => false
  | _ => true
theorem wr {ro:Option Nat} {n:Nat} {P:Program} {ops:Array Oper} {Q:Exit → Act → World → Prop} {o:Oper} {rest:List Oper} {a:Act} {w:World} (h:One P ops Q o (wpLi (RF ro) n P ops Q rest) a w) (hq:¬ LetsOut Q) (hd:noDefer o=true):wpLi (RF ro) n P ops Q (o :: rest) a w:=by
  unfold One at h
  unfold wpLi
  split at h
  · rename_i hw
    rw [if_pos hw]
    rcases h with h | ⟨_,h⟩
    · refine ⟨fun _ _=>trivial,?_⟩
      rw [Oper.semAt_eq _ _ _ fun c e=>by simp [noDefer,e] at hd]
      unfold Oper.wp at h
      generalize (execOp a.eval o).run P w=r at h ⊢
      unfold Oper.upon at h
      unfold Oper.uponIn
      split at h
      · exact h
      · exact h
      · exact h
      · exact ⟨fun e=>(by simp [RF,Fence.wide] at e),callsIn_RF h⟩
      · exact ⟨fun e=>(by simp [RF,Fence.wide] at e),rowsIn_RF h⟩
      · exact h
      · cases h
    · exact absurd h hq
  · rename_i hw
    rw [if_neg hw]
    exact ⟨fun _ _=>trivial,h⟩
theorem Mem.newObj {B:Nat} {w0 w:World} {L:List (Nat × Option Ent)} (h:Mem B w0 L w) (k:Nat) (o:Obj):Mem B w0 ((k,some (.obj w.heap.size o)) :: L) (w.alloc o) :=
  h.fresh ((Below.refl _ _).alloc (Nat.le_refl _) _) k ⟨World.alloc_heap_new w o,h.lo⟩ fun b hb=>by
    cases hb
    exact Nat.le_refl _
theorem Mem.putObj {B b:Nat} {w0 w:World} {L:List (Nat × Option Ent)} (h:Mem B w0 L w) {k:Nat} {o:Obj} (hi:look k L=some (.obj b o)) (o':Obj):Mem B w0 ((k,some (.obj b o')) :: L) (w.putObj b o') :=
  h.turn hi rfl (grownBy_putObj' w b o') ⟨World.putObj_heap_same (Array.getElem?_eq_some_iff.1 (h.ok _ _ hi).1).1,(h.ok _ _ hi).2⟩ fun x hx=>.inl hx
def lpO (s:LoopState) (pe:Option Code) (fn:FuncId) (tm:Array Value) (ps:Array Tmp) (assign body:Code) (D:Nat):Obj :=
  .loop { state:=s,pending:=pe,fn,tmps:=tm,params:=ps,assign,body,defers:=D }
theorem run_resolve_range {P:Program} {l gf:Nat} {lb:Array Value} {a:Act} {g:Operand} (hg:a.eval g=.func (.func gf) #[] lb) (eg:∀ args w,(callFunc gf args).run P w=.ok (.enter gf args) w) (w:World) :
    (resolve a.eval (rangeCall g l) 0).run P w=.ok { target:=.fn (.func gf) lb,args:=#[.func (.yield l) #[] #[]] } w ∧ (invoke (.fn (.func gf) lb) #[.func (.yield l) #[] #[]]).run P w=.ok (.enter gf (#[.func (.yield l) #[] #[]] ++ lb)) w:=by
  constructor
  · simp only [resolve,hg]
    simp [go_sem]
  · simp [invoke,go_sem,eg]
theorem rangeK {P:Program} {g:Operand} {ps:Array Tmp} {assign body:Code} {Q:Exit → Act → World → Prop} {a:Act} {w w0:World} {n:NF} {F:List (Nat × Option Value)} {L:List (Nat × Option Ent)} {B gf:Nat} {lb:Array Value} (m kD kl:Nat)
    (hF:Fr n F a) (hM:Mem B w0 L w) (hk:knows F g=true) (hg:evF F g=.func (.func gf) #[] lb) (eg:∀ args w,(callFunc gf args).run P w=.ok (.enter gf args) w)
    (k:∀ (fn:FuncId) (D l:Nat) (O:LoopState → Option Code → Obj) (hO:∀ s p,O s p=lpO s p fn a.tmps ps assign body D) (w':World),Mem B w0 ((kl,some (.obj l (O .ready none))) :: (kD,some (.obj D (.deferred (some [])))) :: L) w' →
      Calls P gf (#[.func (.yield l) #[] #[]] ++ lb) w' (rangePost Fence.wide m P l Q { a with defers:={ target:=.collected D,args:=#[] } :: a.defers })):(Code.rangeFunc g ps assign body).wp P Q a w:=by
  refine (wpIn_wide (n:=m)).1 (wpIn_rangeFunc fun fn _=>?_)
  have h1:=(hM.newObj kD (.deferred (some []))).newObj kl (lpO .ready none fn a.tmps ps assign body w.heap.size)
  rw [World.size_alloc] at h1
  obtain ⟨e1,e2⟩:=run_resolve_range (P:=P) (l:=w.heap.size + 1) ((hF.eval hk).trans hg) eg ((w.alloc (.deferred (some []))).alloc (lpO .ready none fn a.tmps ps assign body w.heap.size))
  exact ⟨_,_,_,_,_,_,_,_,run_enterLoop_outer fn a.tmps ps assign body,e1,fun _ _=>trivial,e2,fun e=>by simp [Fence.wide] at e,callsIn_wide.2 (k fn _ _ (fun s p=>lpO s p fn a.tmps ps assign body _) (fun _ _=>rfl) _ h1)⟩
theorem Fr.defer {n:NF} {F:List (Nat × Option Value)} {a:Act} (h:Fr n F a) (d:Deferred):Fr ⟨n.n,d :: n.ds⟩ F { a with defers:=d :: a.defers }:=⟨h.sz,by rw [h.df],h.has⟩
theorem rangeEnd {P:Program} {Q:Exit → Act → World → Prop} {a:Act} {w w0:World} {L:List (Nat × Option Ent)} {B m l D:Nat} {v:Value} {kl:Nat} {s:LoopState} {fn:FuncId} {tm:Array Value} {ps:Array Tmp} {assign body:Code}
    (O:LoopState → Option Code → Obj) (hO:∀ s p,O s p=lpO s p fn tm ps assign body D) (hM:Mem B w0 L w) (hi:look kl L=some (.obj l (O s none))) (hs:s ≠ .busy) (k:∀ w',Mem B w0 ((kl,some (.obj l (O .exhausted none))) :: L) w' → Q .normal a w'):rangePost Fence.wide m P l Q a (.returned v) w:=by
  obtain rfl:O=fun s p=>lpO s p fn tm ps assign body D:=funext fun s=>funext fun p=>hO s p
  exact ⟨_,_,run_endLoop (hM.ok _ _ hi).1 hs,k _ (hM.putObj hi _)⟩
theorem rangeEndJ {P:Program} {Q:Exit → Act → World → Prop} {a:Act} {w w0:World} {L:List (Nat × Option Ent)} {B m l D:Nat} {v:Value} {kl:Nat} {s:LoopState} {c:Code} {fn:FuncId} {tm:Array Value} {ps:Array Tmp} {assign body:Code}
    (O:LoopState → Option Code → Obj) (hO:∀ s p,O s p=lpO s p fn tm ps assign body D) (hM:Mem B w0 L w) (hi:look kl L=some (.obj l (O s (some c)))) (hs:s ≠ .busy) (k:∀ w',Mem B w0 ((kl,some (.obj l (O .exhausted (some c)))) :: L) w' → c.wp P Q a w'):rangePost Fence.wide m P l Q a (.returned v) w:=by
  obtain rfl:O=fun s p=>lpO s p fn tm ps assign body D:=funext fun s=>funext fun p=>hO s p
  exact ⟨_,_,run_endLoop (hM.ok _ _ hi).1 hs,wpIn_wide.2 (k _ (hM.putObj hi _))⟩
theorem sYield {P:Program} {ops:Array Oper} {Q:Exit → Act → World → Prop} {o:Oper} {rest:List Oper} {a:Act} {w w0:World} {n:NF} {F:List (Nat × Option Value)} {L:List (Nat × Option Ent)} {B m l D d:Nat} {args:Array Value} (kl:Nat) {fn:FuncId} {tm:Array Value} {ps:Array Tmp} {assign body:Code}
    (hF:Fr n F a) (O:LoopState → Option Code → Obj) (hO:∀ s p,O s p=lpO s p fn tm ps assign body D) (hM:Mem B w0 L w) (hg:wantF ops F o=some true) (hd:o.dst=some d) (hn:d < n) (hk:known F o=true) (hnd:noDefer o=true) (hr:∀ w,(execOp (evF F) o).run P w=(Instr.yield l args).run P w) (hi:look kl L=some (.obj l (O .ready none))) (hs:args.size=ps.size)
    (k:∀ K1:Act → World → Prop,∀ Q1:Exit → Act → World → Prop,
      (∀ L' b w',Mem B w0 L' w' → look kl L'=some (.obj l (O .ready none)) → (∀ w2,Mem B w0 ((kl,some (.obj l (O .busy none))) :: L') w2 → body.wpIn (RF (some l)) (m - 1) P Q1 b w2) → K1 b w') →
      (∀ L' b w',Mem B w0 L' w' → look kl L'=some (.obj l (O .busy none)) → (∀ a' w2,Fr n ((d,some (.bool true)) :: F) a' → Mem B w0 ((kl,some (.obj l (O .ready none))) :: L') w2 → wpLi (RF none) m P ops Q rest a' w2) → Q1 .normal b w') →
      (∀ id L' b w',Mem B w0 L' w' → look kl L'=some (.obj l (O .busy none)) → (∀ a' w2,Fr n ((d,some (.bool false)) :: F) a' → Mem B w0 ((kl,some (.obj l (O .done (some (.exit id))))) :: L') w2 → wpLi (RF none) m P ops Q rest a' w2) → Q1 (.exit id) b w') →
      (∀ L' b w',Mem B w0 L' w' → look kl L'=some (.obj l (O .busy none)) → (∀ a' w2,Fr n ((d,some (.bool false)) :: F) a' → Mem B w0 ((kl,some (.obj l (O .done (some .ret)))) :: L') w2 → wpLi (RF none) m P ops Q rest a' w2) → Q1 .ret b w') →
      ¬ LetsOut Q1 → assign.wpIn (RF (some l)) (m - 1) P (Exit.then K1 (fun _ _ _=>False)) { tmps:=(ps.zip args).foldl (fun t (p,v)=>t.setIfInBounds p v) tm,defers:=[] } w) :
    wpLi (RF none) m P ops Q (o :: rest) a w:=by
  obtain rfl:O=fun s p=>lpO s p fn tm ps assign body D:=funext fun s=>funext fun p=>hO s p
  unfold wpLi
  rw [if_pos (hF.wanted hg)]
  refine ⟨fun _ _=>trivial,?_⟩
  rw [Oper.semAt_eq _ _ _ fun c e=>by simp [noDefer,e] at hnd,hF.exec hk,hr,run_yield (hM.ok _ _ hi).1 (by simpa using hs),Oper.uponIn_round]
  refine ⟨fun e=>by simp [RF,Fence.wide] at e,roundIn_of_wpIn trivial (k _ _ (fun L' b w' hM' hi' h=>⟨_,run_beginRound (hM'.ok _ _ hi').1 rfl,h _ (hM'.putObj hi' _)⟩) ?_ ?_ ?_ (fun ⟨_,_,h⟩=>h))⟩
  · exact fun L' b w' hM' hi' h=>⟨_,_,run_endRound none (hM'.ok _ _ hi').1,h _ _ (by rw [hd]; exact hF.put hn _) (hM'.putObj hi' _)⟩
  · exact fun id L' b w' hM' hi' h=>⟨_,_,run_endRound (some (.exit id)) (hM'.ok _ _ hi').1,h _ _ (by rw [hd]; exact hF.put hn _) (hM'.putObj hi' _)⟩
  · exact fun L' b w' hM' hi' h=>⟨_,_,run_endRound (some .ret) (hM'.ok _ _ hi').1,h _ _ (by rw [hd]; exact hF.put hn _) (hM'.putObj hi' _)⟩
theorem enterKM {P:Program} {f:FuncId} {fn:Func} {c:Code} {args:Array Value} {w:World} {R:Ending → World → Prop} (n:Nat) (hf:P.funcs[f]?=some fn) (hb:fn.body=some c) (hn:fn.ntmps=n) (hle:Nat.ble args.size n=true)
    (k:∀ a,Fr ⟨n,[]⟩ (argF 0 args.toList) a → ∀ Q:Exit → Act → World → Prop,(∀ a w,bodyPostM Fence.wide 9 P fn R .ret a w → Q .ret a w) → (∀ a w,bodyPostM Fence.wide 9 P fn R .normal a w → Q .normal a w) → c.wp P Q a w):Calls P f args w R:=by
  refine (callsIn_wide (n:=9)).1 (callsIn_of_wp_marks hf hb trivial (wpIn_wide.2 (k _ ⟨?_,rfl,fun i v hv=>?_⟩ _ (fun _ _ h=>h) (fun _ _ h=>h))))
  · have:=Nat.le_of_ble_eq_true hle
    simp
    omega
  · obtain ⟨_,h2⟩:=argF_look _ _ _ _ hv
    rw [Nat.sub_zero] at h2
    have hlt:i < args.size:=by
      have:=(List.getElem?_eq_some_iff.1 h2).1
      simpa using this
    simp only [Array.getElem?_append,if_pos hlt]
    simpa using h2
theorem enterKQ {P:Program} {f:FuncId} {fn:Func} {c:Code} {args:Array Value} {w:World} {R:Ending → World → Prop} (n:Nat) (hf:P.funcs[f]?=some fn) (hb:fn.body=some c) (hn:fn.ntmps=n) (hle:Nat.ble args.size n=true)
    (k:∀ a,Fr ⟨n,[]⟩ (argF 0 args.toList) a → ∀ Q:Exit → Act → World → Prop,(∀ a w,bodyPost P fn R .ret a w → Q .ret a w) → (∀ a w,bodyPost P fn R .normal a w → Q .normal a w) → ¬ LetsOut Q → c.wp P Q a w):Calls P f args w R:=by
  refine enter hf hb hn (Nat.le_of_ble_eq_true hle) fun a ha=>wp_mono (k a ha (fun e a w=>e ≠ .outgrown ∧ bodyPost P fn R e a w) (fun _ _ h=>⟨by simp,h⟩) (fun _ _ h=>⟨by simp,h⟩) ?_) fun _ _ _ h=>h.2
  rintro ⟨_,_,h,_⟩
  exact h rfl
theorem run_results {P:Program} {fn:Func} {F:List (Nat × Option Value)} {L:List (Nat × Option Ent)} {n:NF} {B:Nat} {a:Act} {w w0:World} {vs:List Value} (hF:Fr n F a) (hM:Mem B w0 L w) (h:Res P F L fn.results.toList vs):(results fn a.tmps).run P w=.ok (pack vs) w:=by
  have hb:=ret_of (R:=fun e w'=>e=.returned (pack vs) ∧ w'=w) (n:=⟨n.n,[]⟩) (a:={ a with defers:=[] }) ⟨hF.sz,rfl,hF.has⟩ hM h ⟨rfl,rfl⟩ rfl
  obtain ⟨_,v,hv,hr,_⟩:=hb
  injection hr with hr
  subst hr
  exact hv
theorem retM0 {P:Program} {fn:Func} {F:List (Nat × Option Value)} {L:List (Nat × Option Ent)} {n m B:Nat} {a:Act} {w w0:World} {R:Ending → World → Prop} {vs:List Value} (hF:Fr ⟨n,[]⟩ F a) (hM:Mem B w0 L w) (h:Res P F L fn.results.toList vs) (hR:R (.returned (pack vs)) w):bodyPostM Fence.wide m P fn R .ret a w:=by
  show LeavesInM Fence.wide m P fn a.tmps R a.defers .returning w
  rw [hF.df]
  exact ⟨_,run_results hF hM h,hR⟩
theorem retM1 {P:Program} {fn:Func} {F:List (Nat × Option Value)} {L:List (Nat × Option Ent)} {n m B D kD:Nat} {a:Act} {w w0:World} {R:Ending → World → Prop} {vs:List Value} (hF:Fr ⟨n,[{ target:=.collected D,args:=#[] }]⟩ F a) (hM:Mem B w0 L w) (hi:look kD L=some (.obj D (.deferred (some []))))
    (h:Res P F ((kD,some (.obj D (.deferred none))) :: L) fn.results.toList vs) (hR:∀ w',Mem B w0 ((kD,some (.obj D (.deferred none))) :: L) w' → R (.returned (pack vs)) w'):bodyPostM Fence.wide m P fn R .ret a w:=by
  show LeavesInM Fence.wide m P fn a.tmps R a.defers .returning w
  rw [hF.df]
  have hM':=hM.putObj hi (.deferred none)
  exact ⟨by simp,.inl ⟨D,_,rfl,run_takeDeferred (hM.ok _ _ hi).1,_,run_results hF hM' h,hR _ hM'⟩⟩
theorem retM1N {P:Program} {fn:Func} {F:List (Nat × Option Value)} {L:List (Nat × Option Ent)} {n m B D kD:Nat} {a:Act} {w w0:World} {R:Ending → World → Prop} {vs:List Value} (hF:Fr ⟨n,[{ target:=.collected D,args:=#[] }]⟩ F a) (hM:Mem B w0 L w) (hi:look kD L=some (.obj D (.deferred (some []))))
    (h:Res P F ((kD,some (.obj D (.deferred none))) :: L) fn.results.toList vs) (hR:∀ w',Mem B w0 ((kD,some (.obj D (.deferred none))) :: L) w' → R (.returned (pack vs)) w'):bodyPostM Fence.wide m P fn R .normal a w:=by
  show LeavesInM Fence.wide m P fn a.tmps R a.defers .returning w
  rw [hF.df]
  have hM':=hM.putObj hi (.deferred none)
  exact ⟨by simp,.inl ⟨D,_,rfl,run_takeDeferred (hM.ok _ _ hi).1,_,run_results hF hM' h,hR _ hM'⟩⟩
theorem roundsI_k {G:Fence} {m:Nat} {P:Program} {c:Code} {Q:Exit → Act → World → Prop} {n:Nat} {a:Act} {w:World} (h:∀ K:Act → World → Prop,(∀ a w,Code.roundsIn G m P c Q n a w → K a w) → c.wpIn G m P (Exit.then K Q) a w):Code.roundsIn G m P c Q (n + 1) a w:=h _ fun _ _ h=>h
theorem Fr.round1 {n:NF} {F:List (Nat × Option Value)} {a:Act} (h:Fr n F a) {p:Nat} (hp:p < n.n) (v:Value):Fr ⟨n.n,[]⟩ ((p,some v) :: F) { tmps:=((#[p]:Array Tmp).zip #[v]).foldl (fun t (p,v)=>t.setIfInBounds p v) a.tmps,defers:=[] }:=by
  have:=(show Fr ⟨n.n,[]⟩ F { a with defers:=[] } from ⟨h.sz,rfl,h.has⟩).put (d:=p) hp v
  simpa [Act.put] using this
theorem Fr.round2 {n:NF} {F:List (Nat × Option Value)} {a:Act} (h:Fr n F a) {p q:Nat} (hp:p < n.n) (hq:q < n.n) (v u:Value):Fr ⟨n.n,[]⟩ ((q,some u) :: (p,some v) :: F) { tmps:=((#[p,q]:Array Tmp).zip #[v,u]).foldl (fun t (p,v)=>t.setIfInBounds p v) a.tmps,defers:=[] }:=by
  have:=((show Fr ⟨n.n,[]⟩ F { a with defers:=[] } from ⟨h.sz,rfl,h.has⟩).put (d:=p) hp v).put (d:=q) hq u
  simpa [Act.put] using this
theorem cTi {G:Fence} {m:Nat} {P:Program} {Q:Exit → Act → World → Prop} {n:NF} {F:List (Nat × Option Value)} {a:Act} {w:World} {c:Operand} {x y:Code} (hF:Fr n F a) (hk:knows F c=true) (hc:evF F c=.bool true) (h:x.wpIn G m P Q a w):(Code.cond c x y).wpIn G m P Q a w:=wpIn_cond_true ((hF.eval hk).trans hc) h
theorem cFi {G:Fence} {m:Nat} {P:Program} {Q:Exit → Act → World → Prop} {n:NF} {F:List (Nat × Option Value)} {a:Act} {w:World} {c:Operand} {x y:Code} (hF:Fr n F a) (hk:knows F c=true) (hc:evF F c=.bool false) (h:y.wpIn G m P Q a w):(Code.cond c x y).wpIn G m P Q a w:=wpIn_cond_false ((hF.eval hk).trans hc) h
theorem wpLi_nil {G:Fence} {m:Nat} {P:Program} {ops:Array Oper} {Q:Exit → Act → World → Prop} {a:Act} {w:World} (h:Q .normal a w):wpLi G m P ops Q [] a w:=h
end Go.Proofs.YtlngflbamkgjlaaGreat
namespace Go.Proofs.YtlngflbamkgjlaaGreat
open Go.RowKit
set_option linter.unusedVariables false
set_option linter.unusedSimpArgs false
set_option maxRecDepth 100000
def freshL (l:List (List Int)):Nat → Int
  | 0 => 0
  | k + 1 => freshL l k + (if rc l k 6 = 1 then 0 else rc l k 5)
def octL (l:List (List Int)):Nat → Int
  | 0 => 0
  | k + 1 => octL l k + rc l k 5
def qkP (cap:Int) (l:List (List Int)):Prop:=(0 ≤ cap ∧ cap ≤ 65536) ∧ (∀ k,k < l.length → ckP (rc l k 0) (rc l k 1) (rc l k 2) (rc l k 3) (rc l k 4) (rc l k 5) (rc l k 6)=0 ∧ (rc l k 6=1 → k=0)) ∧ freshL l l.length ≤ cap
instance (cap:Int) (l:List (List Int)):Decidable (qkP cap l):=by unfold qkP; infer_instance
def qkE (cap:Int) (l:List (List Int)):Int:=if qkP cap l then 0 else 461
theorem qk_0 {cap:Int} {l:List (List Int)} (h:qkP cap l):0=qkE cap l:=by unfold qkE; rw [if_pos h]
theorem qk_461 {cap:Int} {l:List (List Int)} (h:¬ qkP cap l):461=qkE cap l:=by unfold qkE; rw [if_neg h]
theorem qk_p {cap:Int} {l:List (List Int)} (h:qkE cap l=0):qkP cap l:=by
  unfold qkE at h
  split at h
  · assumption
  · cases h
set_option maxHeartbeats 4000000 in
theorem fresh_w (cap:Int) (A:Option Addr) (l:List (List Int)) (gc:Nat) (w0:World) (hA:Ro w0 A (flatE pE l)) (hW:WR 7 l) (hl:l.length ≤ 1000) (hp:∀ k,k < l.length → 84 ≤ rc l k 5 ∧ rc l k 5 ≤ 1542) :
    Calls Tryz.prog 86 #[.agg #[iv cap,.slice A l.length gc]] w0 (Ret w0 (.int .i64 (freshL l l.length))):=by
 have hs0:freshL l 0=0:=rfl
 refine enterK 7 Tryz.func86 rfl rfl rfl ?_
 intro a hF Q0 hR0 hN0
 have hM:=Mem.start w0
 replace hM:=hM.addOld 1 hA (Nat.le_refl _)
 refine wp_seq_k fun K1 hK1=>wp_region_lit (wl (xN 1 2 (t:=160) (fun b=>.pointer (some ⟨b,0,none⟩)) #[iv cap,.slice A l.length gc] hF hM fun bb1 a w hF hM=>xB 1 [(2,iv 0)] hF fun a hF=>wpList_nil (hK1 _ _ (wp_seq_k fun K2 hK2=>wp_region_lit (xB 2 [(3,pt bb1 0),(4,pt bb1 1)] hF fun a hF=>wl (xL 5 2 1 (v:=.slice A l.length gc) hF hM fun a w hF hM=>wl (sC (f:=105) (args:=#[.slice A l.length gc,.func (.func 106) #[] #[]]) hF (by kernel_rfl) rfl (by decide) (by kernel_rfl) (fun _=>by kernel_rfl) (enterK 21 Tryz.func105 rfl rfl rfl ?_))))))))
 intro a1 hF1 QR3 hR3 hNR3
 refine wp_seq_k fun K4 hK4=>wp_region_lit (xB 1 [(4,iv 0)] hF1 fun a1 hF1=>wpList_nil (hK4 _ _ (wp_seq_k fun K5 hK5=>wp_region_lit (xB 1 [(5,iv 0)] hF1 fun a1 hF1=>wpList_nil (hK5 _ _ (wp_seq_k fun K6 hK6=>wp_seq_k fun K7 hK7=>?_))))))
 refine wp_region_lit (xB 3 [(8,.slice A l.length gc),(9,iv (l.length:Int)),(10,iv 0)] hF1 fun a1 hF1=>wpList_nil (hK7 _ _ (wp_block (wp_loop_k (G:=Nat) (fun gg a w=>Fr 21 [(5,some (iv (freshL l gg))),(10,some (iv (gg:Int))),(1,some (.func (.func 106) #[] #[])),(4,some (iv 0)),(8,some (.slice A l.length gc)),(9,some (iv (l.length:Int)))] a ∧ Mem w0.heap.size w0 [(1,some (.ro A (flatE pE l))),(2,some (.row bb1 160 #[iv cap,.slice A l.length gc]))] w ∧ ((gg:Int) ≤ (l.length:Int)) ∧ (0 ≤ freshL l gg) ∧ (freshL l gg ≤ 1542 * (gg:Int))) (fun gg=>l.length - gg) (0) ?_ ?_))))
 ·refine ⟨(((((((Fr.nil hF1).c hF1 (i:=9) rfl rfl).c hF1 (i:=8) rfl rfl).c hF1 (i:=4) rfl rfl).c hF1 (i:=1) rfl rfl).c hF1 (i:=10) rfl (vi (show (0:Int)=(0:Int) from by omega))).c hF1 (i:=5) rfl (vi (show (0:Int)=freshL l 0 from by omega))),(hM.sub ((Sub.nil.c (k:=2) rfl rfl).c (k:=1) rfl rfl)),(show (0:Int) ≤ (l.length:Int) from by omega),(show 0 ≤ freshL l 0 from by omega),(show freshL l 0 ≤ 1542 * (0:Int) from by omega)⟩
 intro gg a1 w hI
 intro K8 hK8
 obtain ⟨k,rfl⟩:∃ x,x=gg:=⟨_,rfl⟩
 try dsimp only at hI hK8
 obtain ⟨hF1,hM,hz1,hz2,hz3⟩:=hI
 refine wp_seq_k fun K9 hK9=>wp_region_lit (xB 1 [(11,.bool (decide ((k:Int) < (l.length:Int))))] hF1 fun a1 hF1=>wpList_nil (hK9 _ _ (wp_seq_k fun K10 hK10=>?_)))
 by_cases hz4:(k:Int) < (l.length:Int)
 ·replace hF1:=hF1.c hF1 (i:=11) (v:=.bool true) rfl (bT hz4)
  refine xT hF1 (wp_skip (hK10 _ _ (wp_seq_k fun K11 hK11=>wp_block (wp_seq_k fun K12 hK12=>wp_region_lit (wl (xM 12 (v:=.pointer (some (ea A (k * 7)))) hF1 hM (yld_ix (kd:=.i64) (e:=50) (len:=l.length) (cap:=gc) (i:=(k:Int)) (size:=7) (A:=A) hF1 rfl (by kernel_rfl) (by kernel_rfl) (by kernel_rfl) (by kernel_rfl) (by kernel_rfl) (roK 1 rfl) (by omega) (by omega) (by rw [flatE_length (es:=pE) hW,show pE.length=7 from rfl]; (try simp only [List.length_map,List.length_append,List.length_replicate,List.length_set,List.length_cons,List.length_nil,flat2_length,List.length_take]); omega)) fun a1 w hF1 hM=>wl (xM 13 (v:=.agg #[iv (rc l k 0),iv (rc l k 1),iv (rc l k 2),iv (rc l k 3),iv (rc l k 4),iv (rc l k 5),.bool (decide (rc l k 6=1))]) hF1 hM (yld_roM (A:=A) (j:=k * 7) (us:=[iv (rc l k 0),iv (rc l k 1),iv (rc l k 2),iv (rc l k 3),iv (rc l k 4),iv (rc l k 5),.bool (decide (rc l k 6=1))]) hF1 rfl (by kernel_rfl) (by kernel_rfl) (roK 1 rfl) (by kernel_rfl) rfl (rcE_sub (es:=pE) (k:=k) (f:=0) (m:=7) hW (by omega) rfl)) fun a1 w hF1 hM=>?_)))))))
  have:=hp k (by omega)
  refine wl (xN 7 3 (t:=50) (fun b=>.pointer (some ⟨b,0,none⟩)) #[iv 0,iv 0,iv 0,iv 0,iv 0,iv 0,.bool false] hF1 hM fun bb2 a1 w hF1 hM=>?_)
  refine wl (xS 3 0 #[iv (rc l k 0),iv (rc l k 1),iv (rc l k 2),iv (rc l k 3),iv (rc l k 4),iv (rc l k 5),.bool (decide (rc l k 6=1))] hF1 hM fun w hM=>wpList_nil (hK12 _ _ (wp_region_lit (xB 2 [(14,iv (freshL l k)),(15,.func (.func 106) #[] #[])] hF1 fun a1 hF1=>wl (xL 16 3 0 (v:=.agg #[iv (rc l k 0),iv (rc l k 1),iv (rc l k 2),iv (rc l k 3),iv (rc l k 4),iv (rc l k 5),.bool (decide (rc l k 6=1))]) hF1 hM fun a1 w hF1 hM=>wl (sC (f:=106) (args:=#[.agg #[iv (rc l k 0),iv (rc l k 1),iv (rc l k 2),iv (rc l k 3),iv (rc l k 4),iv (rc l k 5),.bool (decide (rc l k 6=1))]]) hF1 (by kernel_rfl) rfl (by decide) (by kernel_rfl) (fun _=>by kernel_rfl) (enterK 7 Tryz.func106 rfl rfl rfl ?_)))))))
  intro a2 hF2 QR13 hR13 hNR13
  refine wp_seq_k fun K14 hK14=>wp_region_lit (wl (xN 1 4 (t:=50) (fun b=>.pointer (some ⟨b,0,none⟩)) #[iv (rc l k 0),iv (rc l k 1),iv (rc l k 2),iv (rc l k 3),iv (rc l k 4),iv (rc l k 5),.bool (decide (rc l k 6=1))] hF2 hM fun bb3 a2 w hF2 hM=>xB 1 [(2,iv 0)] hF2 fun a2 hF2=>wpList_nil (hK14 _ _ (wp_seq_k fun K15 hK15=>wp_seq_k fun K16 hK16=>wp_region_lit (xB 1 [(3,pt bb3 6)] hF2 fun a2 hF2=>wl (xL 4 4 6 (v:=.bool (decide (rc l k 6=1))) hF2 hM fun a2 w hF2 hM=>wpList_nil ?_))))))
  refine hK16 _ _ ?_
  by_cases hz5:rc l k 6=1
  ·replace hF2:=hF2.c hF2 (i:=4) (v:=.bool true) rfl (bT hz5)
   refine xT hF2 (wp_seq_k fun K17 hK17=>wp_region_lit (xB 1 [(2,iv 0)] hF2 fun a2 hF2=>wpList_nil (hK17 _ _ (wp_ret (hR13 _ _ (ret_of hF2 hM (.tmp rfl (.nil)) ⟨_,rfl,?_⟩))))))
   intro a1 hF1
   refine wl (xP 18 (v0:=.int .i64 (IntKind.i64.wrap (freshL l k + 0))) (v:=iv (freshL l k + 0)) hF1 (wi (by omega)) fun a1 hF1=>xB 1 [(5,iv (freshL l k + 0))] hF1 fun a1 hF1=>wpList_nil (hK11 _ _ (wp_region_lit (wl (xP 19 (v0:=.int .i64 (IntKind.i64.wrap ((k:Int) + 1))) (v:=iv ((k:Int) + 1)) hF1 (wi (by omega)) fun a1 hF1=>xB 1 [(10,iv ((k:Int) + 1))] hF1 fun a1 hF1=>wpList_nil ?_)))))
   have hsn:freshL l (k + 1)=freshL l k + (if rc l k 6=1 then 0 else rc l k 5):=rfl
   simp only [*,if_true,if_false] at hsn
   refine hK8 _ _ ⟨(k + 1),⟨(((((((Fr.nil hF1).c hF1 (i:=9) rfl rfl).c hF1 (i:=8) rfl rfl).c hF1 (i:=4) rfl rfl).c hF1 (i:=1) rfl rfl).c hF1 (i:=10) rfl (vi (show ((k:Int) + 1:Int)=((k + 1):Int) from by omega))).c hF1 (i:=5) rfl (vi (show (freshL l k + 0:Int)=freshL l (k + 1) from by omega))),(hM.sub ((Sub.nil.c (k:=2) rfl rfl).c (k:=1) rfl rfl)),(show ((k + 1):Int) ≤ (l.length:Int) from by omega),(show 0 ≤ freshL l (k + 1) from by omega),(show freshL l (k + 1) ≤ 1542 * ((k + 1):Int) from by omega)⟩,(show l.length - (k + 1) < l.length - k from by omega)⟩
  replace hF2:=hF2.c hF2 (i:=4) (v:=.bool false) rfl (bF hz5)
  refine xF hF2 (wp_skip (hK15 _ _ (wp_seq_k fun K18 hK18=>wp_region_lit (xB 1 [(5,pt bb3 5)] hF2 fun a2 hF2=>wl (xL 6 4 5 (v:=iv (rc l k 5)) hF2 hM fun a2 w hF2 hM=>xB 1 [(2,iv (rc l k 5))] hF2 fun a2 hF2=>wpList_nil (hK18 _ _ (wp_ret (hR13 _ _ ?_))))))))
  refine ret_of hF2 hM (.tmp rfl (.nil)) ⟨_,rfl,?_⟩
  intro a1 hF1
  refine wl (xP 18 (v0:=.int .i64 (IntKind.i64.wrap (freshL l k + rc l k 5))) (v:=iv (freshL l k + rc l k 5)) hF1 (wi (by omega)) fun a1 hF1=>xB 1 [(5,iv (freshL l k + rc l k 5))] hF1 fun a1 hF1=>wpList_nil (hK11 _ _ (wp_region_lit (wl (xP 19 (v0:=.int .i64 (IntKind.i64.wrap ((k:Int) + 1))) (v:=iv ((k:Int) + 1)) hF1 (wi (by omega)) fun a1 hF1=>xB 1 [(10,iv ((k:Int) + 1))] hF1 fun a1 hF1=>wpList_nil ?_)))))
  have hsn:freshL l (k + 1)=freshL l k + (if rc l k 6=1 then 0 else rc l k 5):=rfl
  simp only [*,if_true,if_false] at hsn
  refine hK8 _ _ ⟨(k + 1),⟨(((((((Fr.nil hF1).c hF1 (i:=9) rfl rfl).c hF1 (i:=8) rfl rfl).c hF1 (i:=4) rfl rfl).c hF1 (i:=1) rfl rfl).c hF1 (i:=10) rfl (vi (show ((k:Int) + 1:Int)=((k + 1):Int) from by omega))).c hF1 (i:=5) rfl (vi (show (freshL l k + rc l k 5:Int)=freshL l (k + 1) from by omega))),(hM.sub ((Sub.nil.c (k:=2) rfl rfl).c (k:=1) rfl rfl)),(show ((k + 1):Int) ≤ (l.length:Int) from by omega),(show 0 ≤ freshL l (k + 1) from by omega),(show freshL l (k + 1) ≤ 1542 * ((k + 1):Int) from by omega)⟩,(show l.length - (k + 1) < l.length - k from by omega)⟩
 replace hF1:=hF1.c hF1 (i:=11) (v:=.bool false) rfl (bF hz4)
 refine xF hF1 (wp_exit (hK6 _ _ (wp_seq_k fun K19 hK19=>wp_region_lit (xB 2 [(20,iv (freshL l k)),(4,iv (freshL l k))] hF1 fun a1 hF1=>wpList_nil (hK19 _ _ (wp_ret (hR3 _ _ (ret_of hF1 hM (.tmp rfl (.nil)) ⟨_,rfl,?_⟩))))))))
 intro a hF
 refine xB 1 [(2,iv (freshL l k))] hF fun a hF=>wpList_nil (hK2 _ _ (wp_ret (hR0 _ _ (ret_of hF hM (.tmp rfl (.nil)) ?_))))
 obtain rfl:k=l.length:=by omega
 exact ⟨ret_int (by omega),hM.bel⟩
set_option maxHeartbeats 4000000 in
theorem octets_w (cap:Int) (A:Option Addr) (l:List (List Int)) (gc:Nat) (w0:World) (hA:Ro w0 A (flatE pE l)) (hW:WR 7 l) (hl:l.length ≤ 1000) (hp:∀ k,k < l.length → 84 ≤ rc l k 5 ∧ rc l k 5 ≤ 1542) :
    Calls Tryz.prog 87 #[.agg #[iv cap,.slice A l.length gc]] w0 (Ret w0 (.int .i64 (octL l l.length))):=by
 have hs0:octL l 0=0:=rfl
 refine enterK 7 Tryz.func87 rfl rfl rfl ?_
 intro a hF Q0 hR0 hN0
 have hM:=Mem.start w0
 replace hM:=hM.addOld 1 hA (Nat.le_refl _)
 refine wp_seq_k fun K1 hK1=>wp_region_lit (wl (xN 1 2 (t:=160) (fun b=>.pointer (some ⟨b,0,none⟩)) #[iv cap,.slice A l.length gc] hF hM fun bb1 a w hF hM=>xB 1 [(2,iv 0)] hF fun a hF=>wpList_nil (hK1 _ _ (wp_seq_k fun K2 hK2=>wp_region_lit (xB 2 [(3,pt bb1 0),(4,pt bb1 1)] hF fun a hF=>wl (xL 5 2 1 (v:=.slice A l.length gc) hF hM fun a w hF hM=>wl (sC (f:=105) (args:=#[.slice A l.length gc,.func (.func 107) #[] #[]]) hF (by kernel_rfl) rfl (by decide) (by kernel_rfl) (fun _=>by kernel_rfl) (enterK 21 Tryz.func105 rfl rfl rfl ?_))))))))
 intro a1 hF1 QR3 hR3 hNR3
 refine wp_seq_k fun K4 hK4=>wp_region_lit (xB 1 [(4,iv 0)] hF1 fun a1 hF1=>wpList_nil (hK4 _ _ (wp_seq_k fun K5 hK5=>wp_region_lit (xB 1 [(5,iv 0)] hF1 fun a1 hF1=>wpList_nil (hK5 _ _ (wp_seq_k fun K6 hK6=>wp_seq_k fun K7 hK7=>?_))))))
 refine wp_region_lit (xB 3 [(8,.slice A l.length gc),(9,iv (l.length:Int)),(10,iv 0)] hF1 fun a1 hF1=>wpList_nil (hK7 _ _ (wp_block (wp_loop_k (G:=Nat) (fun gg a w=>Fr 21 [(5,some (iv (octL l gg))),(10,some (iv (gg:Int))),(1,some (.func (.func 107) #[] #[])),(4,some (iv 0)),(8,some (.slice A l.length gc)),(9,some (iv (l.length:Int)))] a ∧ Mem w0.heap.size w0 [(1,some (.ro A (flatE pE l))),(2,some (.row bb1 160 #[iv cap,.slice A l.length gc]))] w ∧ ((gg:Int) ≤ (l.length:Int)) ∧ (0 ≤ octL l gg) ∧ (octL l gg ≤ 1542 * (gg:Int))) (fun gg=>l.length - gg) (0) ?_ ?_))))
 ·refine ⟨(((((((Fr.nil hF1).c hF1 (i:=9) rfl rfl).c hF1 (i:=8) rfl rfl).c hF1 (i:=4) rfl rfl).c hF1 (i:=1) rfl rfl).c hF1 (i:=10) rfl (vi (show (0:Int)=(0:Int) from by omega))).c hF1 (i:=5) rfl (vi (show (0:Int)=octL l 0 from by omega))),(hM.sub ((Sub.nil.c (k:=2) rfl rfl).c (k:=1) rfl rfl)),(show (0:Int) ≤ (l.length:Int) from by omega),(show 0 ≤ octL l 0 from by omega),(show octL l 0 ≤ 1542 * (0:Int) from by omega)⟩
 intro gg a1 w hI
 intro K8 hK8
 obtain ⟨k,rfl⟩:∃ x,x=gg:=⟨_,rfl⟩
 try dsimp only at hI hK8
 obtain ⟨hF1,hM,hz1,hz2,hz3⟩:=hI
 refine wp_seq_k fun K9 hK9=>wp_region_lit (xB 1 [(11,.bool (decide ((k:Int) < (l.length:Int))))] hF1 fun a1 hF1=>wpList_nil (hK9 _ _ (wp_seq_k fun K10 hK10=>?_)))
 by_cases hz4:(k:Int) < (l.length:Int)
 ·replace hF1:=hF1.c hF1 (i:=11) (v:=.bool true) rfl (bT hz4)
  refine xT hF1 (wp_skip (hK10 _ _ (wp_seq_k fun K11 hK11=>wp_block (wp_seq_k fun K12 hK12=>wp_region_lit (wl (xM 12 (v:=.pointer (some (ea A (k * 7)))) hF1 hM (yld_ix (kd:=.i64) (e:=50) (len:=l.length) (cap:=gc) (i:=(k:Int)) (size:=7) (A:=A) hF1 rfl (by kernel_rfl) (by kernel_rfl) (by kernel_rfl) (by kernel_rfl) (by kernel_rfl) (roK 1 rfl) (by omega) (by omega) (by rw [flatE_length (es:=pE) hW,show pE.length=7 from rfl]; (try simp only [List.length_map,List.length_append,List.length_replicate,List.length_set,List.length_cons,List.length_nil,flat2_length,List.length_take]); omega)) fun a1 w hF1 hM=>wl (xM 13 (v:=.agg #[iv (rc l k 0),iv (rc l k 1),iv (rc l k 2),iv (rc l k 3),iv (rc l k 4),iv (rc l k 5),.bool (decide (rc l k 6=1))]) hF1 hM (yld_roM (A:=A) (j:=k * 7) (us:=[iv (rc l k 0),iv (rc l k 1),iv (rc l k 2),iv (rc l k 3),iv (rc l k 4),iv (rc l k 5),.bool (decide (rc l k 6=1))]) hF1 rfl (by kernel_rfl) (by kernel_rfl) (roK 1 rfl) (by kernel_rfl) rfl (rcE_sub (es:=pE) (k:=k) (f:=0) (m:=7) hW (by omega) rfl)) fun a1 w hF1 hM=>?_)))))))
  have:=hp k (by omega)
  refine wl (xN 7 3 (t:=50) (fun b=>.pointer (some ⟨b,0,none⟩)) #[iv 0,iv 0,iv 0,iv 0,iv 0,iv 0,.bool false] hF1 hM fun bb2 a1 w hF1 hM=>?_)
  refine wl (xS 3 0 #[iv (rc l k 0),iv (rc l k 1),iv (rc l k 2),iv (rc l k 3),iv (rc l k 4),iv (rc l k 5),.bool (decide (rc l k 6=1))] hF1 hM fun w hM=>wpList_nil (hK12 _ _ (wp_region_lit (xB 2 [(14,iv (octL l k)),(15,.func (.func 107) #[] #[])] hF1 fun a1 hF1=>wl (xL 16 3 0 (v:=.agg #[iv (rc l k 0),iv (rc l k 1),iv (rc l k 2),iv (rc l k 3),iv (rc l k 4),iv (rc l k 5),.bool (decide (rc l k 6=1))]) hF1 hM fun a1 w hF1 hM=>wl (sC (f:=107) (args:=#[.agg #[iv (rc l k 0),iv (rc l k 1),iv (rc l k 2),iv (rc l k 3),iv (rc l k 4),iv (rc l k 5),.bool (decide (rc l k 6=1))]]) hF1 (by kernel_rfl) rfl (by decide) (by kernel_rfl) (fun _=>by kernel_rfl) (enterK 5 Tryz.func107 rfl rfl rfl ?_)))))))
  intro a2 hF2 QR13 hR13 hNR13
  refine wp_seq_k fun K14 hK14=>wp_region_lit (wl (xN 1 4 (t:=50) (fun b=>.pointer (some ⟨b,0,none⟩)) #[iv (rc l k 0),iv (rc l k 1),iv (rc l k 2),iv (rc l k 3),iv (rc l k 4),iv (rc l k 5),.bool (decide (rc l k 6=1))] hF2 hM fun bb3 a2 w hF2 hM=>xB 1 [(2,iv 0)] hF2 fun a2 hF2=>wpList_nil (hK14 _ _ (wp_seq_k fun K15 hK15=>wp_region_lit (xB 1 [(3,pt bb3 5)] hF2 fun a2 hF2=>wl (xL 4 4 5 (v:=iv (rc l k 5)) hF2 hM fun a2 w hF2 hM=>xB 1 [(2,iv (rc l k 5))] hF2 fun a2 hF2=>wpList_nil ?_))))))
  refine hK15 _ _ (wp_ret (hR13 _ _ (ret_of hF2 hM (.tmp rfl (.nil)) ⟨_,rfl,?_⟩)))
  intro a1 hF1
  refine wl (xP 18 (v0:=.int .i64 (IntKind.i64.wrap (octL l k + rc l k 5))) (v:=iv (octL l k + rc l k 5)) hF1 (wi (by omega)) fun a1 hF1=>xB 1 [(5,iv (octL l k + rc l k 5))] hF1 fun a1 hF1=>wpList_nil (hK11 _ _ (wp_region_lit (wl (xP 19 (v0:=.int .i64 (IntKind.i64.wrap ((k:Int) + 1))) (v:=iv ((k:Int) + 1)) hF1 (wi (by omega)) fun a1 hF1=>xB 1 [(10,iv ((k:Int) + 1))] hF1 fun a1 hF1=>wpList_nil ?_)))))
  have hsn:octL l (k + 1)=octL l k + rc l k 5:=rfl
  refine hK8 _ _ ⟨(k + 1),⟨(((((((Fr.nil hF1).c hF1 (i:=9) rfl rfl).c hF1 (i:=8) rfl rfl).c hF1 (i:=4) rfl rfl).c hF1 (i:=1) rfl rfl).c hF1 (i:=10) rfl (vi (show ((k:Int) + 1:Int)=((k + 1):Int) from by omega))).c hF1 (i:=5) rfl (vi (show (octL l k + rc l k 5:Int)=octL l (k + 1) from by omega))),(hM.sub ((Sub.nil.c (k:=2) rfl rfl).c (k:=1) rfl rfl)),(show ((k + 1):Int) ≤ (l.length:Int) from by omega),(show 0 ≤ octL l (k + 1) from by omega),(show octL l (k + 1) ≤ 1542 * ((k + 1):Int) from by omega)⟩,(show l.length - (k + 1) < l.length - k from by omega)⟩
 replace hF1:=hF1.c hF1 (i:=11) (v:=.bool false) rfl (bF hz4)
 refine xF hF1 (wp_exit (hK6 _ _ (wp_seq_k fun K16 hK16=>wp_region_lit (xB 2 [(20,iv (octL l k)),(4,iv (octL l k))] hF1 fun a1 hF1=>wpList_nil (hK16 _ _ (wp_ret (hR3 _ _ (ret_of hF1 hM (.tmp rfl (.nil)) ⟨_,rfl,?_⟩))))))))
 intro a hF
 refine xB 1 [(2,iv (octL l k))] hF fun a hF=>wpList_nil (hK2 _ _ (wp_ret (hR0 _ _ (ret_of hF hM (.tmp rfl (.nil)) ?_))))
 obtain rfl:k=l.length:=by omega
 exact ⟨ret_int (by omega),hM.bel⟩
set_option maxHeartbeats 4000000 in
theorem qCheck_w (cap:Int) (A:Option Addr) (l:List (List Int)) (gc:Nat) (w0:World) (hA:Ro w0 A (flatE pE l)) (hW:WR 7 l) (hl:l.length ≤ 1000) :
    Calls Tryz.prog 69 #[.agg #[iv cap,.slice A l.length gc]] w0 (Ret w0 (.int .i64 (qkE cap l))):=by
 refine enterKM 37 Tryz.func69 rfl rfl rfl ?_
 intro a hF Q0 hR0 hN0
 have hM:=Mem.start w0
 replace hM:=hM.addOld 1 hA (Nat.le_refl _)
 refine wp_seq_k fun K1 hK1=>wp_region_lit (wl (xN 1 2 (t:=82) (fun b=>.pointer (some ⟨b,0,none⟩)) #[iv cap,.slice A l.length gc] hF hM fun bb1 a w hF hM=>xB 1 [(2,iv 0)] hF fun a hF=>wpList_nil (hK1 _ _ (wp_scope_straight (wp_seq_k fun K2 hK2=>wp_seq_k fun K3 hK3=>?_)))))
 by_cases hz1:0 ≤ cap
 ·by_cases hz2:cap ≤ 65536
  ·refine wp_region_lit (xB 1 [(7,pt bb1 0)] hF fun a hF=>wl (xL 8 2 0 (v:=iv cap) hF hM fun a w hF hM=>wl (xM 9 (v:=.bool true) hF hM (xC 45 #[iv cap,iv 0,iv 65536] hF (fun w hM=>within_yes cap 0 65536 w hz1 hz2)) fun a w hF hM=>xB 1 [(10,.bool false)] hF fun a hF=>wpList_nil (hK3 _ _ (xF hF (wp_skip (hK2 _ _ (wp_seq_k fun K4 hK4=>wp_region_lit ?_))))))))
   refine wl (xL 11 2 0 (v:=.agg #[iv cap,.slice A l.length gc]) hF hM fun a w hF hM=>xB 1 [(12,.agg #[iv cap,.slice A l.length gc])] hF fun a hF=>wl (xN 3 3 (t:=160) (fun b=>.pointer (some ⟨b,0,none⟩)) #[iv 0,.slice none 0 0] hF hM fun bb2 a w hF hM=>?_))
   refine wl (xS 3 0 #[iv cap,.slice A l.length gc] hF hM fun w hM=>wpList_nil (hK4 _ _ (wp_seq_k fun K5 hK5=>wp_region_lit (wl (xN 4 4 (t:=4) (fun b=>.pointer (some ⟨b,0,none⟩)) #[.bool false] hF hM fun bb3 a w hF hM=>?_)))))
   refine wl (xS 4 0 #[.bool false] hF hM fun w hM=>wpList_nil (hK5 _ _ (wp_seq_k fun K6 hK6=>wp_label (hK6 _ _ (wp_seq_k fun K7 hK7=>wp_seq_k fun K8 hK8=>wp_region_lit (wl (xL 13 3 0 (v:=.agg #[iv cap,.slice A l.length gc]) hF hM fun a w hF hM=>wl (sC (f:=85) (args:=#[.agg #[iv cap,.slice A l.length gc]]) hF (by kernel_rfl) rfl (by decide) (by kernel_rfl) (fun _=>by kernel_rfl) (enterK 4 Tryz.func85 rfl rfl rfl ?_)))))))))
   intro a1 hF1 QR9 hR9 hNR9
   refine wp_seq_k fun K10 hK10=>wp_region_lit (wl (xN 1 5 (t:=160) (fun b=>.pointer (some ⟨b,0,none⟩)) #[iv cap,.slice A l.length gc] hF1 hM fun bb4 a1 w hF1 hM=>xB 1 [(2,.nilFunc)] hF1 fun a1 hF1=>wpList_nil (hK10 _ _ (wp_seq_k fun K11 hK11=>wp_region_lit (xB 2 [(3,.func (.func 104) #[] #[pt bb4 0]),(2,.func (.func 104) #[] #[pt bb4 0])] hF1 fun a1 hF1=>wpList_nil (hK11 _ _ (wp_ret ?_)))))))
   refine hR9 _ _ (ret_of hF1 hM (.tmp rfl (.nil)) ⟨_,rfl,?_⟩)
   intro a hF
   refine wpList_nil (hK8 _ _ (wp_block (rangeK (gf:=104) (lb:=#[pt bb4 0]) 9 6 7 hF hM (by kernel_rfl) (by kernel_rfl) (enters_of Tryz.func104 (by kernel_rfl) rfl) fun fn5 DD5 ll5 OO5 hO5 w hM=>enterKQ 20 Tryz.func104 rfl rfl rfl ?_)))
   intro a1 hF1 QR12 hR12 hNR12 hqR12
   refine wp_seq_k fun K13 hK13=>wp_region_lit (xB 2 [(5,pt bb4 0),(6,pt bb4 1)] hF1 fun a1 hF1=>wl (xL 7 5 1 (v:=.slice A l.length gc) hF1 hM fun a1 w hF1 hM=>xB 2 [(8,iv (l.length:Int)),(9,iv 0)] hF1 fun a1 hF1=>wpList_nil (hK13 _ _ (wp_block (wp_loop_k (G:=Nat) (fun gg a w=>Fr 20 [(9,some (iv (gg:Int))),(0,some (.func (.yield ll5) #[] #[])),(7,some (.slice A l.length gc)),(8,some (iv (l.length:Int)))] a ∧ Mem w0.heap.size w0 [(1,some (.ro A (flatE pE l))),(2,some (.row bb1 82 #[iv cap,.slice A l.length gc])),(3,some (.row bb2 160 #[iv cap,.slice A l.length gc])),(4,some (.row bb3 4 #[.bool false])),(5,some (.row bb4 160 #[iv cap,.slice A l.length gc])),(6,some (.obj DD5 (.deferred (some [])))),(7,some (.obj ll5 (OO5 .ready none)))] w ∧ ((gg:Int) ≤ (l.length:Int)) ∧ (∀ j,j < gg → ckP (rc l j 0) (rc l j 1) (rc l j 2) (rc l j 3) (rc l j 4) (rc l j 5) (rc l j 6)=0 ∧ (rc l j 6=1 → j=0))) (fun gg=>l.length - gg) (0) ?_ ?_)))))
   ·refine ⟨(((((Fr.nil hF1).c hF1 (i:=8) rfl rfl).c hF1 (i:=7) rfl rfl).c hF1 (i:=0) rfl rfl).c hF1 (i:=9) rfl (vi (show (0:Int)=(0:Int) from by omega))),(hM.sub (((((((Sub.nil.c (k:=7) rfl rfl).c (k:=6) rfl rfl).c (k:=5) rfl rfl).c (k:=4) rfl rfl).c (k:=3) rfl rfl).c (k:=2) rfl rfl).c (k:=1) rfl rfl)),(show (0:Int) ≤ (l.length:Int) from by omega),(show ∀ j,j < 0 → ckP (rc l j 0) (rc l j 1) (rc l j 2) (rc l j 3) (rc l j 4) (rc l j 5) (rc l j 6)=0 ∧ (rc l j 6=1 → j=0) from by exact fun j hj=>by omega)⟩
   intro gg a1 w hI
   intro K14 hK14
   obtain ⟨k,rfl⟩:∃ x,x=gg:=⟨_,rfl⟩
   try dsimp only at hI hK14
   obtain ⟨hF1,hM,hz3,hz4⟩:=hI
   refine wp_seq_k fun K15 hK15=>wp_region_lit (xB 1 [(10,.bool (decide ((k:Int) < (l.length:Int))))] hF1 fun a1 hF1=>wpList_nil (hK15 _ _ (wp_seq_k fun K16 hK16=>?_)))
   by_cases hz5:(k:Int) < (l.length:Int)
   ·replace hF1:=hF1.c hF1 (i:=10) (v:=.bool true) rfl (bT hz5)
    refine xT hF1 (wp_skip (hK16 _ _ (wp_seq_k fun K17 hK17=>wp_block (wp_seq_k fun K18 hK18=>wp_region_lit (xB 1 [(11,iv (k:Int))] hF1 fun a1 hF1=>wl (xM 12 (v:=.pointer (some (ea A (k * 7)))) hF1 hM (yld_ix (kd:=.i64) (e:=50) (len:=l.length) (cap:=gc) (i:=(k:Int)) (size:=7) (A:=A) hF1 rfl (by kernel_rfl) (by kernel_rfl) (by kernel_rfl) (by kernel_rfl) (by kernel_rfl) (roK 1 rfl) (by omega) (by omega) (by rw [flatE_length (es:=pE) hW,show pE.length=7 from rfl]; (try simp only [List.length_map,List.length_append,List.length_replicate,List.length_set,List.length_cons,List.length_nil,flat2_length,List.length_take]); omega)) fun a1 w hF1 hM=>wl (xM 13 (v:=.agg #[iv (rc l k 0),iv (rc l k 1),iv (rc l k 2),iv (rc l k 3),iv (rc l k 4),iv (rc l k 5),.bool (decide (rc l k 6=1))]) hF1 hM (yld_roM (A:=A) (j:=k * 7) (us:=[iv (rc l k 0),iv (rc l k 1),iv (rc l k 2),iv (rc l k 3),iv (rc l k 4),iv (rc l k 5),.bool (decide (rc l k 6=1))]) hF1 rfl (by kernel_rfl) (by kernel_rfl) (roK 1 rfl) (by kernel_rfl) rfl (rcE_sub (es:=pE) (k:=k) (f:=0) (m:=7) hW (by omega) rfl)) fun a1 w hF1 hM=>wl (xN 4 8 (t:=50) (fun b=>.pointer (some ⟨b,0,none⟩)) #[iv 0,iv 0,iv 0,iv 0,iv 0,iv 0,.bool false] hF1 hM fun bb6 a1 w hF1 hM=>xB 1 [(3,iv (k:Int))] hF1 fun a1 hF1=>?_))))))))
    refine wl (xS 8 0 #[iv (rc l k 0),iv (rc l k 1),iv (rc l k 2),iv (rc l k 3),iv (rc l k 4),iv (rc l k 5),.bool (decide (rc l k 6=1))] hF1 hM fun w hM=>wpList_nil (hK18 _ _ (wp_seq_k fun K19 hK19=>(wpIn_wide (n:=9)).1 (wpR_region (wr (xP 14 (v0:=.func (.yield ll5) #[] #[]) (v:=.func (.yield ll5) #[] #[]) hF1 rfl fun a1 hF1=>wr (xP 15 (v0:=iv (k:Int)) (v:=iv (k:Int)) hF1 rfl fun a1 hF1=>wr (xL 16 8 0 (v:=.agg #[iv (rc l k 0),iv (rc l k 1),iv (rc l k 2),iv (rc l k 3),iv (rc l k 4),iv (rc l k 5),.bool (decide (rc l k 6=1))]) hF1 hM fun a1 w hF1 hM=>sYield (n:=20) (d:=17) (args:=#[iv (k:Int),.agg #[iv (rc l k 0),iv (rc l k 1),iv (rc l k 2),iv (rc l k 3),iv (rc l k 4),iv (rc l k 5),.bool (decide (rc l k 6=1))]]) 7 hF1 OO5 hO5 hM (by kernel_rfl) rfl (by decide) (by kernel_rfl) rfl (fun _=>by kernel_rfl) rfl rfl fun KB20 QB20 hB20 hBn20 hBe20 hBr20 hqB20=>?_) hqR12 rfl) hqR12 rfl) hqR12 rfl)))))
    have hF2:=hF.round2 (p:=15) (q:=16) (by decide) (by decide) (iv (k:Int)) (.agg #[iv (rc l k 0),iv (rc l k 1),iv (rc l k 2),iv (rc l k 3),iv (rc l k 4),iv (rc l k 5),.bool (decide (rc l k 6=1))])
    refine wpIn_seq_k fun K21 hK21=>wpR_region (wr (xP 5 (v0:=iv (k:Int)) (v:=iv (k:Int)) hF2 rfl fun a2 hF2=>wpLi_nil (hK21 _ _ (wpR_region (wr (xN 6 9 (t:=50) (fun b=>.pointer (some ⟨b,0,none⟩)) #[iv 0,iv 0,iv 0,iv 0,iv 0,iv 0,.bool false] hF2 hM fun bb7 a2 w hF2 hM=>?_) (fun ⟨_,_,h⟩=>h) rfl)))) (fun ⟨_,_,h⟩=>h) rfl)
    refine wr (xS 9 0 #[iv (rc l k 0),iv (rc l k 1),iv (rc l k 2),iv (rc l k 3),iv (rc l k 4),iv (rc l k 5),.bool (decide (rc l k 6=1))] hF2 hM fun w hM=>wpLi_nil (hB20 _ _ _ hM rfl fun w hM=>wpIn_block (wpIn_seq_k fun K22 hK22=>?_))) (fun ⟨_,_,h⟩=>h) rfl
    by_cases hz6:ckP (rc l k 0) (rc l k 1) (rc l k 2) (rc l k 3) (rc l k 4) (rc l k 5) (rc l k 6)=0
    ·have hz7:=ckP_ok hz6
     have hz8:=hz7.1
     have hz9:=ckI_ok hz8
     by_cases hz10:rc l k 6=1
     ·refine wpR_region (wr (xL 17 9 0 (v:=.agg #[iv (rc l k 0),iv (rc l k 1),iv (rc l k 2),iv (rc l k 3),iv (rc l k 4),iv (rc l k 5),.bool (decide (rc l k 6=1))]) hF2 hM fun a2 w hF2 hM=>wr (xM 18 (v:=iv (ckP (rc l k 0) (rc l k 1) (rc l k 2) (rc l k 3) (rc l k 4) (rc l k 5) (rc l k 6))) hF2 hM (xC 67 #[.agg #[iv (rc l k 0),iv (rc l k 1),iv (rc l k 2),iv (rc l k 3),iv (rc l k 4),iv (rc l k 5),.bool (decide (rc l k 6=1))]] hF2 (fun w hM=>ckPart_w (rc l k 0) (rc l k 1) (rc l k 2) (rc l k 3) (rc l k 4) (rc l k 5) (rc l k 6) w)) fun a2 w hF2 hM=>wr (xP 19 (v0:=.bool (!decide (ckP (rc l k 0) (rc l k 1) (rc l k 2) (rc l k 3) (rc l k 4) (rc l k 5) (rc l k 6)=0))) (v:=.bool false) hF2 (nT hz6) fun a2 hF2=>wr (xP 20 (v0:=.bool false) (v:=.bool false) hF2 rfl fun a2 hF2=>wr (xP 21 (v0:=pt bb7 6) (v:=pt bb7 6) hF2 rfl fun a2 hF2=>wr (xM 22 (v:=.bool true) hF2 hM (Yld.to (v:=.bool (decide (rc l k 6=1))) (yld_row (i:=9) (off:=6) hF2 rfl (by kernel_rfl) (by kernel_rfl) rfl (by kernel_rfl)) (bT hz10)) fun a2 w hF2 hM=>wr (xP 23 (v0:=.bool true) (v:=.bool true) hF2 rfl fun a2 hF2=>wr (xP 24 (v0:=iv (k:Int)) (v:=iv (k:Int)) hF2 rfl fun a2 hF2=>wr (xP 25 (v0:=.bool (decide (0 < (k:Int)))) (v:=.bool (decide (0 < (k:Int)))) hF2 rfl fun a2 hF2=>wr (xP 26 (v0:=.bool (decide (0 < (k:Int)))) (v:=.bool (decide (0 < (k:Int)))) hF2 rfl fun a2 hF2=>wr (xP 27 (v0:=.bool (decide (0 < (k:Int)))) (v:=.bool (decide (0 < (k:Int)))) hF2 rfl fun a2 hF2=>?_) hqB20 rfl) hqB20 rfl) hqB20 rfl) hqB20 rfl) hqB20 rfl) hqB20 rfl) hqB20 rfl) hqB20 rfl) hqB20 rfl) hqB20 rfl) hqB20 rfl)
      refine wpLi_nil (hK22 _ _ ?_)
      by_cases hz11:0 < (k:Int)
      ·replace hF2:=hF2.c hF2 (i:=25) (v:=.bool true) rfl (bT hz11)
       replace hF2:=hF2.c hF2 (i:=26) (v:=.bool true) rfl (bT hz11)
       replace hF2:=hF2.c hF2 (i:=27) (v:=.bool true) rfl (bT hz11)
       refine cTi hF2 (by kernel_rfl) (by kernel_rfl) (wpIn_seq_k fun K23 hK23=>wpR_region (wr (xS 4 0 #[.bool true] hF2 hM fun w hM=>wpLi_nil (hK23 _ _ (wpIn_exit (hBe20 0 _ _ _ hM rfl fun a1 w hF1 hM=>wr (xP 18 (v0:=.bool true) (v:=.bool true) hF1 rfl fun a1 hF1=>wpLi_nil (hK19 _ _ (xT hF1 ?_))) hqR12 rfl)))) hqB20 rfl))
       refine wp_ret (hR12 _ _ (ret_of hF1 hM (.nil) (rangeEndJ (kl:=7) OO5 hO5 hM rfl (by decide) fun w hM=>?_)))
       replace hF:=hF.defer { target:=.collected DD5,args:=#[] }
       refine wp_exit (hK7 _ _ (wp_seq_k fun K24 hK24=>wp_seq_k fun K25 hK25=>rQ hM (by kernel_rfl) (by kernel_rfl) (xK 28 4 0 (v:=.bool true) hF fun a hF=>xQ 29 (v0:=.bool true) (v:=.bool true) hF rfl fun a hF=>qSkip hF (by kernel_rfl) rfl (by (try dsimp only); decide) fun a hF=>qSkip hF (by kernel_rfl) rfl (by (try dsimp only); decide) fun a hF=>qSkip hF (by kernel_rfl) rfl (by (try dsimp only); decide) fun a hF=>qSkip hF (by kernel_rfl) rfl (by (try dsimp only); decide) fun a hF=>qSkip hF (by kernel_rfl) rfl (by (try dsimp only); decide) fun a hF=>?_)))
       refine qSkip hF (by kernel_rfl) rfl (by (try dsimp only); decide) fun a hF=>xQ 36 (v0:=.bool true) (v:=.bool true) hF rfl fun a hF=>wpQuiet_nil ?_
       intro w hM
       refine hK25 _ _ (xT hF (wp_seq_k fun K26 hK26=>wp_region_lit (xB 1 [(2,iv 461)] hF fun a hF=>wpList_nil (hK26 _ _ (wp_ret (hR0 _ _ (retM1 (kD:=6) hF hM rfl (.tmp rfl (.nil)) fun w hM=>⟨ret_int (qk_461 (fun z=>by have h1:=z.2.1 k (by omega); first | exact absurd h1.1 (by assumption) | (have:=h1.2 (by assumption); omega))),hM.bel⟩)))))))
      replace hF2:=hF2.c hF2 (i:=25) (v:=.bool false) rfl (bF hz11)
      replace hF2:=hF2.c hF2 (i:=26) (v:=.bool false) rfl (bF hz11)
      replace hF2:=hF2.c hF2 (i:=27) (v:=.bool false) rfl (bF hz11)
      refine cFi hF2 (by kernel_rfl) (by kernel_rfl) (wpIn_skip (hBn20 _ _ _ hM rfl fun a1 w hF1 hM=>wr (xP 18 (v0:=.bool false) (v:=.bool false) hF1 rfl fun a1 hF1=>wpLi_nil (hK19 _ _ (xF hF1 (wp_skip (hK17 _ _ (wp_region_lit (wl (xP 19 (v0:=.int .i64 (IntKind.i64.wrap ((k:Int) + 1))) (v:=iv ((k:Int) + 1)) hF1 (wi (by omega)) fun a1 hF1=>xB 1 [(9,iv ((k:Int) + 1))] hF1 fun a1 hF1=>?_)))))))) hqR12 rfl))
      refine wpList_nil (hK14 _ _ ⟨(k + 1),⟨(((((Fr.nil hF1).c hF1 (i:=8) rfl rfl).c hF1 (i:=7) rfl rfl).c hF1 (i:=0) rfl rfl).c hF1 (i:=9) rfl (vi (show ((k:Int) + 1:Int)=((k + 1):Int) from by omega))),(hM.sub (((((((Sub.nil.c (k:=7) rfl rfl).c (k:=6) rfl rfl).c (k:=5) rfl rfl).c (k:=4) rfl rfl).c (k:=3) rfl rfl).c (k:=2) rfl rfl).c (k:=1) rfl rfl)),(show ((k + 1):Int) ≤ (l.length:Int) from by omega),(show ∀ j,j < (k + 1) → ckP (rc l j 0) (rc l j 1) (rc l j 2) (rc l j 3) (rc l j 4) (rc l j 5) (rc l j 6)=0 ∧ (rc l j 6=1 → j=0) from by exact fun j hj=>by by_cases e:j=k; (subst e; exact ⟨by assumption,fun _=>by omega⟩); exact ‹∀ j,j < k → ckP (rc l j 0) (rc l j 1) (rc l j 2) (rc l j 3) (rc l j 4) (rc l j 5) (rc l j 6)=0 ∧ (rc l j 6=1 → j=0)› j (by omega))⟩,(show l.length - (k + 1) < l.length - k from by omega)⟩)
     refine wpR_region (wr (xL 17 9 0 (v:=.agg #[iv (rc l k 0),iv (rc l k 1),iv (rc l k 2),iv (rc l k 3),iv (rc l k 4),iv (rc l k 5),.bool (decide (rc l k 6=1))]) hF2 hM fun a2 w hF2 hM=>wr (xM 18 (v:=iv (ckP (rc l k 0) (rc l k 1) (rc l k 2) (rc l k 3) (rc l k 4) (rc l k 5) (rc l k 6))) hF2 hM (xC 67 #[.agg #[iv (rc l k 0),iv (rc l k 1),iv (rc l k 2),iv (rc l k 3),iv (rc l k 4),iv (rc l k 5),.bool (decide (rc l k 6=1))]] hF2 (fun w hM=>ckPart_w (rc l k 0) (rc l k 1) (rc l k 2) (rc l k 3) (rc l k 4) (rc l k 5) (rc l k 6) w)) fun a2 w hF2 hM=>wr (xP 19 (v0:=.bool (!decide (ckP (rc l k 0) (rc l k 1) (rc l k 2) (rc l k 3) (rc l k 4) (rc l k 5) (rc l k 6)=0))) (v:=.bool false) hF2 (nT hz6) fun a2 hF2=>wr (xP 20 (v0:=.bool false) (v:=.bool false) hF2 rfl fun a2 hF2=>wr (xP 21 (v0:=pt bb7 6) (v:=pt bb7 6) hF2 rfl fun a2 hF2=>wr (xM 22 (v:=.bool false) hF2 hM (Yld.to (v:=.bool (decide (rc l k 6=1))) (yld_row (i:=9) (off:=6) hF2 rfl (by kernel_rfl) (by kernel_rfl) rfl (by kernel_rfl)) (bF hz10)) fun a2 w hF2 hM=>wr (xP 23 (v0:=.bool false) (v:=.bool false) hF2 rfl fun a2 hF2=>wr (sSkip hF2 (by kernel_rfl) rfl (by (try dsimp only); decide) fun a2 hF2=>wr (sSkip hF2 (by kernel_rfl) rfl (by (try dsimp only); decide) fun a2 hF2=>wr (xP 26 (v0:=.bool false) (v:=.bool false) hF2 rfl fun a2 hF2=>wr (xP 27 (v0:=.bool false) (v:=.bool false) hF2 rfl fun a2 hF2=>?_) hqB20 rfl) hqB20 rfl) hqB20 rfl) hqB20 rfl) hqB20 rfl) hqB20 rfl) hqB20 rfl) hqB20 rfl) hqB20 rfl) hqB20 rfl) hqB20 rfl)
     refine wpLi_nil (hK22 _ _ (cFi hF2 (by kernel_rfl) (by kernel_rfl) (wpIn_skip (hBn20 _ _ _ hM rfl fun a1 w hF1 hM=>wr (xP 18 (v0:=.bool false) (v:=.bool false) hF1 rfl fun a1 hF1=>wpLi_nil (hK19 _ _ (xF hF1 (wp_skip (hK17 _ _ (wp_region_lit ?_)))))) hqR12 rfl))))
     refine wl (xP 19 (v0:=.int .i64 (IntKind.i64.wrap ((k:Int) + 1))) (v:=iv ((k:Int) + 1)) hF1 (wi (by omega)) fun a1 hF1=>xB 1 [(9,iv ((k:Int) + 1))] hF1 fun a1 hF1=>wpList_nil (hK14 _ _ ⟨(k + 1),⟨(((((Fr.nil hF1).c hF1 (i:=8) rfl rfl).c hF1 (i:=7) rfl rfl).c hF1 (i:=0) rfl rfl).c hF1 (i:=9) rfl (vi (show ((k:Int) + 1:Int)=((k + 1):Int) from by omega))),(hM.sub (((((((Sub.nil.c (k:=7) rfl rfl).c (k:=6) rfl rfl).c (k:=5) rfl rfl).c (k:=4) rfl rfl).c (k:=3) rfl rfl).c (k:=2) rfl rfl).c (k:=1) rfl rfl)),(show ((k + 1):Int) ≤ (l.length:Int) from by omega),(show ∀ j,j < (k + 1) → ckP (rc l j 0) (rc l j 1) (rc l j 2) (rc l j 3) (rc l j 4) (rc l j 5) (rc l j 6)=0 ∧ (rc l j 6=1 → j=0) from by exact fun j hj=>by by_cases e:j=k; (subst e; exact ⟨by assumption,fun _=>by omega⟩); exact ‹∀ j,j < k → ckP (rc l j 0) (rc l j 1) (rc l j 2) (rc l j 3) (rc l j 4) (rc l j 5) (rc l j 6)=0 ∧ (rc l j 6=1 → j=0)› j (by omega))⟩,(show l.length - (k + 1) < l.length - k from by omega)⟩))
    refine wpR_region (wr (xL 17 9 0 (v:=.agg #[iv (rc l k 0),iv (rc l k 1),iv (rc l k 2),iv (rc l k 3),iv (rc l k 4),iv (rc l k 5),.bool (decide (rc l k 6=1))]) hF2 hM fun a2 w hF2 hM=>wr (xM 18 (v:=iv (ckP (rc l k 0) (rc l k 1) (rc l k 2) (rc l k 3) (rc l k 4) (rc l k 5) (rc l k 6))) hF2 hM (xC 67 #[.agg #[iv (rc l k 0),iv (rc l k 1),iv (rc l k 2),iv (rc l k 3),iv (rc l k 4),iv (rc l k 5),.bool (decide (rc l k 6=1))]] hF2 (fun w hM=>ckPart_w (rc l k 0) (rc l k 1) (rc l k 2) (rc l k 3) (rc l k 4) (rc l k 5) (rc l k 6) w)) fun a2 w hF2 hM=>wr (xP 19 (v0:=.bool (!decide (ckP (rc l k 0) (rc l k 1) (rc l k 2) (rc l k 3) (rc l k 4) (rc l k 5) (rc l k 6)=0))) (v:=.bool true) hF2 (nF hz6) fun a2 hF2=>wr (xP 20 (v0:=.bool true) (v:=.bool true) hF2 rfl fun a2 hF2=>wr (sSkip hF2 (by kernel_rfl) rfl (by (try dsimp only); decide) fun a2 hF2=>wr (sSkip hF2 (by kernel_rfl) rfl (by (try dsimp only); decide) fun a2 hF2=>wr (sSkip hF2 (by kernel_rfl) rfl (by (try dsimp only); decide) fun a2 hF2=>wr (sSkip hF2 (by kernel_rfl) rfl (by (try dsimp only); decide) fun a2 hF2=>wr (sSkip hF2 (by kernel_rfl) rfl (by (try dsimp only); decide) fun a2 hF2=>wr (sSkip hF2 (by kernel_rfl) rfl (by (try dsimp only); decide) fun a2 hF2=>wr (xP 27 (v0:=.bool true) (v:=.bool true) hF2 rfl fun a2 hF2=>?_) hqB20 rfl) hqB20 rfl) hqB20 rfl) hqB20 rfl) hqB20 rfl) hqB20 rfl) hqB20 rfl) hqB20 rfl) hqB20 rfl) hqB20 rfl) hqB20 rfl)
    refine wpLi_nil (hK22 _ _ (cTi hF2 (by kernel_rfl) (by kernel_rfl) (wpIn_seq_k fun K27 hK27=>wpR_region (wr (xS 4 0 #[.bool true] hF2 hM fun w hM=>wpLi_nil (hK27 _ _ (wpIn_exit (hBe20 0 _ _ _ hM rfl fun a1 w hF1 hM=>wr (xP 18 (v0:=.bool true) (v:=.bool true) hF1 rfl fun a1 hF1=>wpLi_nil ?_) hqR12 rfl)))) hqB20 rfl))))
    refine hK19 _ _ (xT hF1 (wp_ret (hR12 _ _ (ret_of hF1 hM (.nil) (rangeEndJ (kl:=7) OO5 hO5 hM rfl (by (try dsimp only); decide) fun w hM=>?_)))))
    replace hF:=hF.defer { target:=.collected DD5,args:=#[] }
    refine wp_exit (hK7 _ _ (wp_seq_k fun K28 hK28=>wp_seq_k fun K29 hK29=>rQ hM (by kernel_rfl) (by kernel_rfl) (xK 28 4 0 (v:=.bool true) hF fun a hF=>xQ 29 (v0:=.bool true) (v:=.bool true) hF rfl fun a hF=>qSkip hF (by kernel_rfl) rfl (by (try dsimp only); decide) fun a hF=>qSkip hF (by kernel_rfl) rfl (by (try dsimp only); decide) fun a hF=>qSkip hF (by kernel_rfl) rfl (by (try dsimp only); decide) fun a hF=>qSkip hF (by kernel_rfl) rfl (by (try dsimp only); decide) fun a hF=>qSkip hF (by kernel_rfl) rfl (by (try dsimp only); decide) fun a hF=>?_)))
    refine qSkip hF (by kernel_rfl) rfl (by (try dsimp only); decide) fun a hF=>xQ 36 (v0:=.bool true) (v:=.bool true) hF rfl fun a hF=>wpQuiet_nil ?_
    intro w hM
    refine hK29 _ _ (xT hF (wp_seq_k fun K30 hK30=>wp_region_lit (xB 1 [(2,iv 461)] hF fun a hF=>wpList_nil (hK30 _ _ (wp_ret (hR0 _ _ (retM1 (kD:=6) hF hM rfl (.tmp rfl (.nil)) fun w hM=>⟨ret_int (qk_461 (fun z=>by have h1:=z.2.1 k (by omega); first | exact absurd h1.1 (by assumption) | (have:=h1.2 (by assumption); omega))),hM.bel⟩)))))))
   replace hF1:=hF1.c hF1 (i:=10) (v:=.bool false) rfl (bF hz5)
   refine xF hF1 (wp_exit (hNR12 _ _ (ret_ofN hF1 hM (.nil) (rangeEnd (kl:=7) OO5 hO5 hM rfl (by (try dsimp only); decide) fun w hM=>?_))))
   replace hF:=hF.defer { target:=.collected DD5,args:=#[] }
   refine hK7 _ _ (wp_seq_k fun K31 hK31=>wp_seq_k fun K32 hK32=>rQ hM (by kernel_rfl) (by kernel_rfl) (xK 28 4 0 (v:=.bool false) hF fun a hF=>xQ 29 (v0:=.bool false) (v:=.bool false) hF rfl fun a hF=>xK 30 3 0 (v:=.agg #[iv cap,.slice A l.length gc]) hF fun a hF=>xR 31 (v:=iv (freshL l l.length)) hF (xC 86 #[.agg #[iv cap,.slice A l.length gc]] hF (fun w hM=>fresh_w cap A l gc w (hM.ok 1 _ rfl) hW hl (fun j hj=>(ckP_ok (‹∀ j,j < k → ckP (rc l j 0) (rc l j 1) (rc l j 2) (rc l j 3) (rc l j 4) (rc l j 5) (rc l j 6)=0 ∧ (rc l j 6=1 → j=0)› j (by omega)).1).2))) fun a hF=>xQ 32 (v0:=pt bb2 0) (v:=pt bb2 0) hF rfl fun a hF=>xQ 33 (v0:=pt bb2 0) (v:=pt bb2 0) hF rfl fun a hF=>xK 34 3 0 (v:=iv cap) hF fun a hF=>xQ 35 (v0:=.bool (decide (cap < freshL l l.length))) (v:=.bool (decide (cap < freshL l l.length))) hF rfl fun a hF=>?_))
   refine xQ 36 (v0:=.bool (decide (cap < freshL l l.length))) (v:=.bool (decide (cap < freshL l l.length))) hF rfl fun a hF=>wpQuiet_nil ?_
   intro w hM
   refine hK32 _ _ ?_
   by_cases hz12:cap < freshL l l.length
   ·replace hF:=hF.c hF (i:=35) (v:=.bool true) rfl (bT hz12)
    replace hF:=hF.c hF (i:=36) (v:=.bool true) rfl (bT hz12)
    refine xT hF (wp_seq_k fun K33 hK33=>wp_region_lit (xB 1 [(2,iv 461)] hF fun a hF=>wpList_nil (hK33 _ _ (wp_ret (hR0 _ _ (retM1 (kD:=6) hF hM rfl (.tmp rfl (.nil)) fun w hM=>?_))))))
    obtain rfl:k=l.length:=by omega
    exact ⟨ret_int (qk_461 (fun z=>by have:=z.2.2; omega)),hM.bel⟩
   replace hF:=hF.c hF (i:=35) (v:=.bool false) rfl (bF hz12)
   replace hF:=hF.c hF (i:=36) (v:=.bool false) rfl (bF hz12)
   refine xF hF (wp_skip (hK31 _ _ (wp_seq_k fun K34 hK34=>wp_region_lit (xB 1 [(2,iv 0)] hF fun a hF=>wpList_nil (hK34 _ _ (wp_ret (hR0 _ _ (retM1 (kD:=6) hF hM rfl (.tmp rfl (.nil)) fun w hM=>?_))))))))
   obtain rfl:k=l.length:=by omega
   exact ⟨ret_int (qk_0 ⟨by omega,‹∀ j,j < l.length → _›,by omega⟩),hM.bel⟩
  refine wp_region_lit (xB 1 [(7,pt bb1 0)] hF fun a hF=>wl (xL 8 2 0 (v:=iv cap) hF hM fun a w hF hM=>wl (xM 9 (v:=.bool false) hF hM (xC 45 #[iv cap,iv 0,iv 65536] hF (fun w hM=>within_no cap 0 65536 w (.inr hz2))) fun a w hF hM=>xB 1 [(10,.bool true)] hF fun a hF=>wpList_nil (hK3 _ _ (xT hF (wp_seq_k fun K35 hK35=>wp_region_lit (xB 1 [(2,iv 461)] hF fun a hF=>wpList_nil ?_)))))))
  refine hK35 _ _ (wp_ret (hR0 _ _ (retM0 hF hM (.tmp rfl (.nil)) (⟨ret_int (qk_461 (fun z=>by have:=z.1; omega)),hM.bel⟩))))
 refine wp_region_lit (xB 1 [(7,pt bb1 0)] hF fun a hF=>wl (xL 8 2 0 (v:=iv cap) hF hM fun a w hF hM=>wl (xM 9 (v:=.bool false) hF hM (xC 45 #[iv cap,iv 0,iv 65536] hF (fun w hM=>within_no cap 0 65536 w (.inl hz1))) fun a w hF hM=>xB 1 [(10,.bool true)] hF fun a hF=>wpList_nil (hK3 _ _ (xT hF (wp_seq_k fun K36 hK36=>wp_region_lit (xB 1 [(2,iv 461)] hF fun a hF=>wpList_nil ?_)))))))
 refine hK36 _ _ (wp_ret (hR0 _ _ (retM0 hF hM (.tmp rfl (.nil)) (⟨ret_int (qk_461 (fun z=>by have:=z.1; omega)),hM.bel⟩))))
end Go.Proofs.YtlngflbamkgjlaaGreat
namespace Go.Proofs.YtlngflbamkgjlaaGreat
theorem flat2_cons (x:Int × Int) (t:List (Int × Int)):flat2 (x :: t)=.int .i64 x.1 :: .int .i64 x.2 :: flat2 t:=by simp [flat2]
theorem flat2_one (l:List (Int × Int)):∀ u ∈ flat2 l,u.oneCell'=true:=by
  induction l with
  | nil => intro u h; simp [flat2] at h
  | cons x r ih =>
    intro u h
    rw [flat2_cons] at h
    rcases List.mem_cons.1 h with rfl | h
    · rfl
    · rcases List.mem_cons.1 h with rfl | h
      · rfl
      · exact ih u h
theorem own_nil {B:Nat} {w0 w:World} {L:List (Nat × Option Ent)} (hM:Mem B w0 L w) {k m c e size n:Nat} {A:Option Addr} {xs:List Value} (h:look k L=some (.own (.slice A m c) e size n xs)) (hA:A=none):m=0 ∧ c=0:=by
  subst hA
  have ho:w.ownsRow B e size (.slice none m c) n xs:=hM.ok k _ h
  rcases ho.2 with ⟨h0,_⟩ | ⟨g,cap,cur,hv,_⟩
  · injection h0 with _ h1 h2
    exact ⟨h1,h2⟩
  · cases hv
end Go.Proofs.YtlngflbamkgjlaaGreat
namespace Go.Proofs.YtlngflbamkgjlaaGreat
open Go.RowKit
set_option linter.unusedVariables false
set_option linter.unusedSimpArgs false
def advA (A:Option Addr) (k cap m:Nat):Option Addr:=if cap=m then A else A.map (·.add k)
section
variable {P:Program} {n:NF} {B:Nat} {F:List (Nat × Option Value)} {L:List (Nat × Option Ent)} {a:Act} {w w0:World} {o:Oper} {ops:Array Oper} {Q:Exit → Act → World → Prop} {K:Act → World → Prop} {C:World → Prop}
theorem yld_tail {t e len cap size:Nat} {x y:Operand} {A:Option Addr} (hF:Fr n F a) (ho:o.op=.slice t x (some y) none none) (hk:known F o=true) (hx:evF F x=.slice A len cap) (hy:evF F y=.int .i64 1) (hu:P.underlying t=some (.slice e)) (hs:(P.info? e).map (·.size)=some size) (hm:1 ≤ len) {len':Nat} (hl:len'=len - 1):Yld P o a C (.slice (advA A size cap 1) len' (cap - 1)):=by
  intro w _
  unfold Oper.quietAt
  rw [hF.exec hk]
  obtain ⟨q,hq,hz⟩:=Option.map_eq_some_iff.1 hs
  subst hl hz
  have h0:((0:Int) ≤ (1:Int) ∧ (1:Int) ≤ (len:Int)):=by omega
  simp [execOp,ho,hx,hy,Instr.sliceAt,Instr.slice,run_underlying hu,Instr.sliceBounds,Instr.sliceBound,asIntOf,h0,hm,sizeOf,typeInfo,hq,Oper.quietUpon,advA]
end
theorem Ro.adv {w:World} {A:Option Addr} {xs:List Value} {k cap:Nat} (h:Ro w A xs) (hc:(xs.drop k).length=0 ∨ cap ≠ 1):Ro w (advA A k cap 1) (xs.drop k):=fun j u hu=>by
  have hn:cap ≠ 1:=hc.resolve_left fun e=>by rw [List.length_eq_zero_iff.1 e] at hu; simp at hu
  rw [List.getElem?_drop] at hu
  obtain ⟨b,off,e,hw⟩:=h (k + j) u hu
  subst e
  exact ⟨b,off + k,by simp [advA,hn,Addr.add],by rw [Nat.add_assoc]; exact hw⟩
theorem flatE_tl {es:List (Int → Value)} {l:List (List Int)} (h:WR es.length l) (hl:1 ≤ l.length):flatE es l.tail=(flatE es l).drop es.length:=by
  match l,hl with
  | x :: r, _ =>
    have h0:=rowE_len h.head
    simp only [flatE,List.flatMap_cons,List.tail_cons]
    rw [List.drop_append,List.drop_of_length_le (by omega)]
    simp [h0]
theorem Ent.blk_ro {A:Option Addr} {xs:List Value} {b:Nat} (h:(Ent.ro A xs).blk=some b):A.map (·.block)=some b:=by
  cases xs with
  | nil => cases h
  | cons => exact h
theorem advA_blk {A:Option Addr} {k cap m:Nat}:(advA A k cap m).map (·.block)=A.map (·.block):=by
  unfold advA
  split
  · rfl
  · cases A
    · rfl
    · simp only [Option.map_some,Addr.add]
      split <;> rfl
theorem Mem.roAdv {B:Nat} {w0 w:World} {L:List (Nat × Option Ent)} (h:Mem B w0 L w) (k j:Nat) {A A':Option Addr} {xs xs':List Value} (hj:look j L=some (.ro A xs)) (hb:A'.map (·.block)=A.map (·.block)) (hr:Ro w A' xs') (hx:xs=[] → xs'=[]):Mem B w0 ((k,some (.ro A' xs')) :: L) w:=by
  refine h.add k hr fun i x _ hx' hw b hb'=>?_
  by_cases e:i=j
  · subst e
    rw [hj] at hx'
    injection hx' with hx'
    subst hx'
    rcases hw with hw | hw <;> cases hw
  · replace hb':(Ent.ro A' xs').blk=some b:=hb'.resolve_right fun h=>h
    cases xs with
    | nil => rw [hx rfl] at hb'; cases hb'
    | cons v q => exact h.ap j i _ _ (fun q => e q.symm) hj hx' (hw.imp id id) b (.inl (hb.symm.trans (Ent.blk_ro hb')))
theorem Mem.roTail {B:Nat} {w0 w:World} {L:List (Nat × Option Ent)} {es:List (Int → Value)} {l:List (List Int)} {cap:Nat} (h:Mem B w0 L w) (k j:Nat) {A:Option Addr} (hj:look j L=some (.ro A (flatE es l))) (hW:WR es.length l) (hl:1 ≤ l.length) (hc:l.length ≤ cap):Mem B w0 ((k,some (.ro (advA A es.length cap 1) (flatE es l.tail))) :: L) w:=by
  rw [flatE_tl hW hl]
  have hlen:=flatE_length hW
  refine h.roAdv k j hj advA_blk ((show Ro w A _ from h.ok j _ hj).adv ?_) (fun e=>by rw [e]; simp)
  by_cases q:cap=1
  · left
    have e1:l.length=1:=by omega
    rw [List.length_drop,hlen,e1]
    omega
  · exact .inr q
def qcells (n:Nat) (cap:Nat → Int) (qa:Nat → Option Addr) (Q:Nat → List (List Int)) (qg:Nat → Nat):List Value:=(List.range n).flatMap fun c=>[.int .i64 (cap c),.slice (qa c) (Q c).length (qg c)]
variable {cap:Nat → Int} {qa:Nat → Option Addr} {Q:Nat → List (List Int)} {qg:Nat → Nat}
theorem qcells_succ (n:Nat):qcells (n + 1) cap qa Q qg=qcells n cap qa Q qg ++ [.int .i64 (cap n),.slice (qa n) (Q n).length (qg n)]:=by
  unfold qcells
  rw [List.range_succ,List.flatMap_append]
  simp
theorem qcells_length:∀ n:Nat,(qcells n cap qa Q qg).length=n * 2
  | 0 => rfl
  | n + 1 => by rw [qcells_succ, List.length_append, qcells_length n]; simp; omega
theorem qcells_at:∀ {n k:Nat},k < n → (qcells n cap qa Q qg)[k * 2]?=some (.int .i64 (cap k)) ∧ (qcells n cap qa Q qg)[k * 2 + 1]?=some (.slice (qa k) (Q k).length (qg k))
  | n + 1, k, h => by
    have hl:=qcells_length (cap:=cap) (qa:=qa) (Q:=Q) (qg:=qg) n
    rw [qcells_succ]
    by_cases e:k=n
    · subst e
      rw [List.getElem?_append_right (by omega),List.getElem?_append_right (by omega),hl,Nat.sub_self,show k * 2 + 1 - k * 2=1 by omega]
      exact ⟨rfl,rfl⟩
    · rw [List.getElem?_append_left (by omega),List.getElem?_append_left (by omega)]
      exact qcells_at (by omega)
theorem qcells_sub {n k:Nat} (hk:k < n) {us:List Value} (hu:us=[.int .i64 (cap k),.slice (qa k) (Q k).length (qg k)]):∀ i u,us[i]?=some u → (qcells n cap qa Q qg)[k * 2 + 0 + i]?=some u:=fun i u hi=>by
  subst hu
  obtain ⟨h1,h2⟩:=qcells_at (cap:=cap) (qa:=qa) (Q:=Q) (qg:=qg) hk
  match i,hi with
  | 0, hi => exact h1.trans hi
  | 1, hi => exact h2.trans hi
def lE:List (Int → Value):=[.int .u16,.int .u8,.int .u8]
theorem flatE_cE:∀ {l:List (List Int)},WR 6 l → flatE [.int .i64,.int .i64,.int .i64,.int .i64,.int .i64,.int .i64] l=flatR l
  | [], _ => rfl
  | x :: r, h => by
    have h6:=h.head
    have ih:=flatE_cE h.tail
    match x,h6 with
    | [a, b, c, d, e, f], _ =>
      simp only [flatE,flatR,List.flatMap_cons] at ih ⊢
      rw [ih]
      rfl
def cE:List (Int → Value):=[.int .i64,.int .i64,.int .i64,.int .i64,.int .i64,.int .i64]
def upd {α:Type} (f:Nat → α) (k:Nat) (v:α):Nat → α:=fun i=>if i=k then v else f i
theorem upd_same {α:Type} (f:Nat → α) (k:Nat) (v:α):upd f k v k=v:=if_pos rfl
theorem upd_ne {α:Type} (f:Nat → α) {k i:Nat} (v:α) (h:i ≠ k):upd f k v i=f i:=if_neg h
theorem upd_id {α:Type} (f:Nat → α) (k:Nat):upd f k (f k)=f:=funext fun i=>by
  by_cases e:i=k
  · subst e; exact upd_same ..
  · exact upd_ne _ _ e
theorem qcells_congr {cap':Nat → Int} {qa':Nat → Option Addr} {Q':Nat → List (List Int)} {qg':Nat → Nat}:∀ {n:Nat},(∀ i,i < n → cap i=cap' i ∧ qa i=qa' i ∧ Q i=Q' i ∧ qg i=qg' i) → qcells n cap qa Q qg=qcells n cap' qa' Q' qg'
  | 0, _ => rfl
  | n + 1, h => by
    obtain ⟨h1,h2,h3,h4⟩:=h n (by omega)
    rw [qcells_succ,qcells_succ,qcells_congr fun i hi=>h i (by omega),h1,h2,h3,h4]
theorem qcells_set:∀ {n k:Nat} {x:Int} {A:Option Addr} {l:List (List Int)} {g:Nat},k < n → putL (qcells n cap qa Q qg) (k * 2) [.int .i64 x,.slice A l.length g]=qcells n (upd cap k x) (upd qa k A) (upd Q k l) (upd qg k g)
  | n + 1, k, x, A, l, g, h => by
    have hl:=qcells_length (cap:=cap) (qa:=qa) (Q:=Q) (qg:=qg) n
    rw [qcells_succ,qcells_succ]
    by_cases e:k=n
    · subst e
      have he:=putL_append [.int .i64 x,.slice A l.length g] (qcells k cap qa Q qg) [.int .i64 (cap k),.slice (qa k) (Q k).length (qg k)] 0
      rw [hl,Nat.add_zero] at he
      rw [upd_same,upd_same,upd_same,upd_same,he,qcells_congr fun i hi=>⟨(upd_ne cap x (Nat.ne_of_lt hi)).symm,(upd_ne qa A (Nat.ne_of_lt hi)).symm,(upd_ne Q l (Nat.ne_of_lt hi)).symm,(upd_ne qg g (Nat.ne_of_lt hi)).symm⟩]
      rfl
    · rw [upd_ne _ _ (by omega),upd_ne _ _ (by omega),upd_ne _ _ (by omega),upd_ne _ _ (by omega),← qcells_set (n:=n) (k:=k) (by omega)]
      rw [putL_eq _ _ _ (by rw [List.length_append,hl]; simp; omega),putL_eq _ _ _ (by rw [hl]; simp; omega),List.take_append_of_le_length (by omega),List.drop_append_of_le_length (by rw [hl]; simp; omega)]
      simp only [List.append_assoc]
theorem qcells_one (n:Nat):∀ u ∈ qcells n cap qa Q qg,u.oneCell'=true:=fun u hu=>by
  simp only [qcells,List.mem_flatMap,List.mem_cons,List.not_mem_nil,or_false] at hu
  obtain ⟨_,_,rfl | rfl⟩:=hu <;> rfl
theorem WR.tl {n:Nat} {l:List (List Int)} (h:WR n l):WR n l.tail:=fun y hy=>h y (List.mem_of_mem_tail hy)
theorem cell_heap {w1 w2:World} {b off:Nat} (h:w2.heap[b]?=w1.heap[b]?):w2.cell? ⟨b,off,none⟩=w1.cell? ⟨b,off,none⟩:=by
  unfold World.cell?
  simp only [h]
theorem Ro.same {w1 w2:World} {A:Option Addr} {xs:List Value} (h:Ro w1 A xs) (hs:∀ b,(Ent.ro A xs).blk=some b → w2.heap[b]?=w1.heap[b]?):Ro w2 A xs:=fun j u hu=>by
  obtain ⟨b,off,e,hc⟩:=h j u hu
  refine ⟨b,off,e,(cell_heap (hs b ?_)).trans hc⟩
  subst e
  cases xs with
  | nil => simp at hu
  | cons => rfl
def QS (w:World) (A:Option Addr) (l:List (List Int)) (g:Nat):Prop:=WR 7 l ∧ l.length ≤ g ∧ Ro w A (flatE pE l) ∧ (A=none → g=0)
theorem QS.same {w1 w2:World} {A:Option Addr} {l:List (List Int)} {g:Nat} (h:QS w1 A l g) (hs:∀ b,(Ent.ro A (flatE pE l)).blk=some b → w2.heap[b]?=w1.heap[b]?):QS w2 A l g:=⟨h.1,h.2.1,Ro.same h.2.2.1 hs,h.2.2.2⟩
theorem flatE_pos {es:List (Int → Value)} {l:List (List Int)} (h:WR es.length l) (he:0 < es.length) (hl:1 ≤ l.length):∃ x r,flatE es l=x :: r:=by
  have:=flatE_length h
  have:0 < (flatE es l).length:=by rw [this]; exact Nat.mul_pos hl he
  match h:flatE es l,this with
  | x :: r, _ => exact ⟨x, r, rfl⟩
theorem ro_nil {w:World} {A:Option Addr} {es:List (Int → Value)} {l:List (List Int)} (h:Ro w A (flatE es l)) (hW:WR es.length l) (he:0 < es.length) (hA:A=none):l.length=0:=by
  rcases Nat.eq_zero_or_pos l.length with q | q
  · exact q
  · obtain ⟨x,r,e⟩:=flatE_pos hW he q
    obtain ⟨b,off,e2,_⟩:=h 0 x (by rw [e]; rfl)
    rw [hA] at e2
    cases e2
def RetP (w:World) (mk:Value → Value) (l:List (List Int)) (A0:Option Addr) (xs0:List Value) (en:Ending) (w':World):Prop :=
  ∃ A g,en=.returned (mk (.slice A l.length g)) ∧ QS w' A l g ∧ (∀ b,(Ent.ro A (flatE pE l)).blk=some b → (Ent.ro A0 xs0).blk=some b ∨ w.heap.size ≤ b) ∧ Below w.heap.size w w'
def QM (S:Nat → Prop) (Aq:Option Addr) (cap:Nat → Int) (Q:Nat → List (List Int)) (w:World):Prop:=∃ qa qg,(Ro w Aq (qcells 8 cap qa Q qg) ∧ ∀ b,Aq.map (·.block)=some b → S b) ∧
  ∀ c,c < 8 → QS w (qa c) (Q c) (qg c) ∧ ∀ b,(Ent.ro (qa c) (flatE pE (Q c))).blk=some b → S b
theorem QM.same {S:Nat → Prop} {Aq:Option Addr} {w1 w2:World} (h:QM S Aq cap Q w1) (hs:∀ b,S b → w2.heap[b]?=w1.heap[b]?):QM S Aq cap Q w2:=by
  obtain ⟨qa,qg,⟨h1,h2⟩,h3⟩:=h
  exact ⟨qa,qg,⟨h1.same fun b hb=>hs b (h2 b (Ent.blk_ro hb)),h2⟩,fun c hc=>⟨(h3 c hc).1.same fun b hb=>hs b ((h3 c hc).2 b hb),(h3 c hc).2⟩⟩
theorem QM.mono {S S':Nat → Prop} {Aq:Option Addr} {w:World} (h:QM S Aq cap Q w) (hs:∀ b,b < w.heap.size → S b → S' b):QM S' Aq cap Q w:=by
  obtain ⟨qa,qg,⟨h1,h2⟩,h3⟩:=h
  refine ⟨qa,qg,⟨h1,fun b hb=>hs b ?_ (h2 b hb)⟩,fun c hc=>⟨(h3 c hc).1,fun b hb=>hs b (Ent.blk_lt (B:=0) (e:=.ro _ _) (h3 c hc).1.2.2.1 hb) ((h3 c hc).2 b hb)⟩⟩
  obtain ⟨b',off,e,hc⟩:=h1 0 _ (qcells_at (k:=0) (by omega)).1
  subst e
  simp only [Option.map_some,Option.some.injEq] at hb
  subst hb
  exact cell_lt hc
def RetQ (w:World) (S:Nat → Prop) (mk:Value → Value) (cap':Nat → Int) (Q':Nat → List (List Int)) (en:Ending) (w':World):Prop :=
  ∃ A c,en=.returned (mk (.slice A 8 c)) ∧ QM (fun b=>S b ∨ w.heap.size ≤ b) A cap' Q' w' ∧ Below w.heap.size w w'
section
variable {P:Program} {n:NF} {F:List (Nat × Option Value)} {a:Act} {o:Oper} {w w0:World} {ops:Array Oper} {R:Exit → Act → World → Prop} {B:Nat} {L:List (Nat × Option Ent)} {K:Act → World → Prop} {d f:Nat} {args:Array Value} {mk:Value → Value} {cap':Nat → Int} {Q':Nat → List (List Int)} {S:Nat → Prop} {φ:World → Prop}
theorem Mem.queues (hM:Mem B w0 L w) {w':World} (hb:Below w.heap.size w w') (k:Nat) {A:Option Addr} (hi:look k L=some (.sep S φ)) (hq:QM (fun b=>S b ∨ w.heap.size ≤ b) A cap' Q' w') :
    ∃ S',(∀ b,S' b → S b ∨ B ≤ b) ∧ Mem B w0 ((k,some (.sep S' (QM S' A cap' Q'))) :: L) w':=by
  refine ⟨fun b=>(S b ∨ w.heap.size ≤ b) ∧ b < w'.heap.size,fun b h=>h.1.imp id fun q=>by have:=hM.lo; omega,?_⟩
  refine (hM.below hb).add k ⟨hq.mono fun b h1 h2=>⟨h2,h1⟩,fun b h=>h.2,fun w1 w2 h h1=>h1.same h⟩ fun j x hj hx hw b h1 h2=>?_
  rcases hw with hw | hw
  · cases hw
  · rcases h1 with h1 | h1
    · cases h1
    · rcases h1.1 with h3 | h3
      · exact hM.ap k j _ _ hj hi hx (.inr hw) b (.inr h3) h2
      · have:=Ent.has_lt (hM.ok j x hx) h2
        omega
theorem sQ (k:Nat) (hF:Fr n F a) (hM:Mem B w0 L w) (hi:look k L=some (.sep S φ)) (hg:wantF ops F o=some true) (hd:o.dst=some d) (hn:d < n) (hk:known F o=true) (hr:∀ w,(execOp (evF F) o).run P w=.ok (.enter f args) w)
    (hc:Calls P f args w (RetQ w S mk cap' Q'))
    (kk:∀ A cap S' a' w',(∀ b,S' b → S b ∨ B ≤ b) → Fr n ((d,some (mk (.slice A 8 cap))) :: F) a' → Mem B w0 ((k,some (.sep S' (QM S' A cap' Q'))) :: L) w' → K a' w'):One P ops R o K a w :=
  sC hF hg hd hn hk hr (hc.mono fun _ w' ⟨A,cap,he,hq,hb⟩=>⟨_,he,fun a' ha=>by
    obtain ⟨S',hs,h⟩:=hM.queues hb k hi hq
    exact kk A cap S' a' w' hs ha h⟩)
theorem sRp (k j:Nat) {A0:Option Addr} {xs0:List Value} {l:List (List Int)} (hF:Fr n F a) (hM:Mem B w0 L w) (hi:look j L=some (.ro A0 xs0)) (hg:wantF ops F o=some true) (hd:o.dst=some d) (hn:d < n) (hk:known F o=true) (hr:∀ w,(execOp (evF F) o).run P w=.ok (.enter f args) w)
    (hc:Calls P f args w (RetP w mk l A0 xs0))
    (kk:∀ A g a' w',WR 7 l → l.length ≤ g → (A=none → g=0) → (∀ b,(Ent.ro A (flatE pE l)).blk=some b → (Ent.ro A0 xs0).blk=some b ∨ B ≤ b) → Fr n ((d,some (mk (.slice A l.length g))) :: F) a' → Mem B w0 ((k,some (.ro A (flatE pE l))) :: L) w' → K a' w'):One P ops R o K a w :=
  sC hF hg hd hn hk hr (hc.mono fun _ w' ⟨A,g,he,hq,hs,hb⟩=>⟨_,he,fun a' ha=>by
    refine kk A g a' w' hq.1 hq.2.1 hq.2.2.2 (fun b hb'=>(hs b hb').imp id fun q=>by have:=hM.lo; omega) ha ((hM.below hb).add k hq.2.2.1 fun i x _ hx hw b h1 h2=>?_)
    replace h1:=h1.resolve_right fun h=>h
    rcases hw with hw | hw
    · cases hw
    · rcases hs b h1 with h3 | h3
      · by_cases e:i=j
        · subst e
          rw [hi] at hx
          injection hx with hx
          subst hx
          cases hw
        · exact hM.ap j i _ _ (fun q=>e q.symm) hi hx (.inr hw) b (.inl h3) h2
      · have:=Ent.has_lt (hM.ok i x hx) h2
        omega⟩)
theorem retP_own {w0 w:World} {L:List (Nat × Option Ent)} {k e m:Nat} {l:List (List Int)} {A A0:Option Addr} {g:Nat} {xs0:List Value} {mk:Value → Value} (hM:Mem w0.heap.size w0 L w) (hi:look k L=some (.own (.slice A m g) e 7 m (flatE pE l))) (hW:WR 7 l) (hm:m=l.length):RetP w0 mk l A0 xs0 (.returned (mk (.slice A m g))) w:=by
  subst hm
  have ho:w.ownsRow w0.heap.size e 7 (.slice A l.length g) l.length (flatE pE l):=hM.ok k _ hi
  refine ⟨A,g,rfl,⟨hW,own_cap hM hi,ro_of_own ho,fun h=>(own_nil hM hi h).2⟩,fun b hb=>.inr ?_,hM.bel⟩
  have hb':=Ent.blk_ro hb
  refine (own_lt (g:=b) ho ?_).1
  cases A with
  | none => cases hb'
  | some p => exact hb'
theorem retQ_upd {w0 w:World} {L:List (Nat × Option Ent)} {S:Nat → Prop} {k e c cq g:Nat} {cap:Nat → Int} {qa:Nat → Option Addr} {Q:Nat → List (List Int)} {qg:Nat → Nat} {A A':Option Addr} {l:List (List Int)} {mk:Value → Value} (hM:Mem w0.heap.size w0 L w)
    (hi:look k L=some (.own (.slice A' 8 cq) e 2 8 (qcells 8 (upd cap c (cap c)) (upd qa c A) (upd Q c l) (upd qg c g)))) (hqs:∀ c,c < 8 → QS w0 (qa c) (Q c) (qg c) ∧ ∀ b,(Ent.ro (qa c) (flatE pE (Q c))).blk=some b → S b)
    (hn:QS w A l g) (hb:∀ b,(Ent.ro A (flatE pE l)).blk=some b → (Ent.ro (qa c) (flatE pE (Q c))).blk=some b ∨ w0.heap.size ≤ b) (hc:c < 8):RetQ w0 S mk cap (upd Q c l) (.returned (mk (.slice A' 8 cq))) w:=by
  have ho:w.ownsRow w0.heap.size e 2 (.slice A' 8 cq) 8 _:=hM.ok k _ hi
  rw [upd_id] at ho
  refine ⟨A',cq,rfl,⟨upd qa c A,upd qg c g,⟨ro_of_own ho,fun b hb'=>.inr ?_⟩,fun i hi'=>?_⟩,hM.bel⟩
  · refine (own_lt (g:=b) ho ?_).1
    cases A' with
    | none => cases hb'
    | some p => exact hb'
  · by_cases ei:i=c
    · subst ei
      rw [upd_same,upd_same,upd_same]
      exact ⟨hn,fun b hb'=>(hb b hb').imp ((hqs i hc).2 b) id⟩
    · rw [upd_ne _ _ ei,upd_ne _ _ ei,upd_ne _ _ ei]
      refine ⟨(hqs i hi').1.same fun b hb'=>?_,fun b hb'=>.inl ((hqs i hi').2 b hb')⟩
      have hlt:=Ent.blk_lt (B:=0) (e:=.ro _ _) (hqs i hi').1.2.2.1 hb'
      exact hM.bel.block b hlt
theorem retQ_same {w0 w:World} {L:List (Nat × Option Ent)} {S:Nat → Prop} {k e c cq:Nat} {cap:Nat → Int} {qa:Nat → Option Addr} {Q:Nat → List (List Int)} {qg:Nat → Nat} {A':Option Addr} {mk:Value → Value} (hM:Mem w0.heap.size w0 L w)
    (hi:look k L=some (.own (.slice A' 8 cq) e 2 8 (qcells 8 (upd cap c (cap c)) (upd qa c (qa c)) (upd Q c (Q c)) (upd qg c (qg c))))) (hqs:∀ c,c < 8 → QS w0 (qa c) (Q c) (qg c) ∧ ∀ b,(Ent.ro (qa c) (flatE pE (Q c))).blk=some b → S b) (hc:c < 8):RetQ w0 S mk cap Q (.returned (mk (.slice A' 8 cq))) w:=by
  have:=retQ_upd (mk:=mk) hM hi hqs ((hqs c hc).1.same fun b hb'=>hM.bel.block b (Ent.blk_lt (B:=0) (e:=.ro _ _) (hqs c hc).1.2.2.1 hb')) (fun b hb=>.inl hb) hc
  rw [upd_id] at this
  exact this
theorem QM.below {S:Nat → Prop} {Aq:Option Addr} {cap:Nat → Int} {Q:Nat → List (List Int)} {w0 w:World} (h:QM S Aq cap Q w0) (hb:Below w0.heap.size w0 w):QM S Aq cap Q w:=by
  have h2:=QM.mono (S':=fun b=>S b ∧ b < w0.heap.size) h fun b h1 h2=>⟨h2,h1⟩
  exact QM.mono (h2.same fun b hb'=>hb.block b hb'.2) fun b _ h=>h.1
theorem Mem.addQ {w0 w:World} {L:List (Nat × Option Ent)} {S:Nat → Prop} {Aq:Option Addr} {cap:Nat → Int} {Q:Nat → List (List Int)} (h:Mem w0.heap.size w0 L w) (k:Nat) (hq:QM S Aq cap Q w0) :
    Mem w0.heap.size w0 ((k,some (.sep (fun b=>S b ∧ b < w0.heap.size) (QM (fun b=>S b ∧ b < w0.heap.size) Aq cap Q))) :: L) w:=by
  refine h.add k ⟨(QM.mono hq fun b h1 h2=>⟨h2,h1⟩).same fun b hb=>h.bel.block b hb.2,fun b hb=>?_,fun w1 w2 h h1=>h1.same h⟩ fun j x hj hx hw b h1 h2=>?_
  · have:=h.bel.size
    have:=hb.2
    omega
  · rcases hw with hw | hw
    · cases hw
    · have:=Ent.wr_ge (h.ok j x hx) hw (Ent.has_wr hw h2)
      rcases h1 with h1 | h1
      · cases h1
      · have:=h1.2
        omega
theorem retQ_new {w0 w:World} {L:List (Nat × Option Ent)} {S:Nat → Prop} {k e cq:Nat} {cap:Nat → Int} {A':Option Addr} {mk:Value → Value} (hM:Mem w0.heap.size w0 L w)
    (hi:look k L=some (.own (.slice A' 8 cq) e 2 8 (qcells 8 cap (fun _=>none) (fun _=>[]) (fun _=>0)))):RetQ w0 S mk cap (fun _=>[]) (.returned (mk (.slice A' 8 cq))) w:=by
  have ho:w.ownsRow w0.heap.size e 2 (.slice A' 8 cq) 8 _:=hM.ok k _ hi
  refine ⟨A',cq,rfl,⟨fun _=>none,fun _=>0,⟨ro_of_own ho,fun b hb'=>.inr ?_⟩,fun i hi'=>⟨⟨WR.nil,Nat.le_refl _,Ro.nil,fun _=>rfl⟩,fun b hb'=>by cases hb'⟩⟩,hM.bel⟩
  refine (own_lt (g:=b) ho ?_).1
  cases A' with
  | none => cases hb'
  | some p => exact hb'
theorem own_fresh {w0 w:World} {L:List (Nat × Option Ent)} {k e m size g n:Nat} {xs:List Value} {A:Option Addr} (hM:Mem w0.heap.size w0 L w) (hi:look k L=some (.own (.slice A m g) e size n xs)):Ro w A xs ∧ ∀ b,(Ent.ro A xs).blk=some b → w0.heap.size ≤ b:=by
  have ho:w.ownsRow w0.heap.size e size (.slice A m g) n xs:=hM.ok k _ hi
  have hn:m=n:=by
    rcases ho.2 with ⟨h0,h1⟩ | ⟨g',cap,cur,hv,_⟩
    · injection h0 with _ h2 _; omega
    · injection hv
  subst hn
  refine ⟨ro_of_own ho,fun b hb=>?_⟩
  have hb':=Ent.blk_ro hb
  refine (own_lt (g:=b) ho ?_).1
  cases A with
  | none => cases hb'
  | some p => exact hb'
end
end Go.Proofs.YtlngflbamkgjlaaGreat
