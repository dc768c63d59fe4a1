/-
  TopService returns true for every input, and each argument reads afterwards as it read before. No conditions.
-/
import Derived.Test.YtlngflbamkgjlaaGreatP6
namespace Go.Proofs.YtlngflbamkgjlaaGreat.topService
open Go.ChangeShapes Go.WideShapes Go.ChangeAt Go.RowKit Go.Deep Go.Joins
set_option linter.unusedVariables false
set_option maxRecDepth 100000 in
theorem lifted (os:Os) (started:os.Started) (H:Type) (enc:TypeId × Value → H) :
    ReturnsInHanded {} Tryz.checked os 3 .any (Rows.topServiceSpec.pre6 enc Tryz.prog Tryz.f3 Rows.topServiceRow.domain false) (Rows.topServiceSpec.post enc Tryz.prog Tryz.f3 false true false false):=by
  refine returnsInHanded_of_change (C:=Tryz.checked) Tryz.own started (by kernel_rfl) Tryz.func3
    (ChangeSpec.witness6 (enc:=enc) (C:=Tryz.checked) false ⟨#[],#[.slice none 0 0,.int .u8 0,.int .i16 0,.int .u8 0,.int .u16 0,.slice none 0 0],[]⟩ 8 (by kernel_rfl) (by kernel_rfl) (by kernel_rfl) (by kernel_rfl)) ?_
  intro W base args ds gs before hval0 hW hcnd _
  have hval:∀ (j:Nat) t v,Tryz.f3.params[j]?=some t → args[j]?=some v → Value.okWide Tryz.prog W .any base t v:=hval0
  have hW':=hW
  obtain ⟨p,q,hA0,hV,rfl,hfz,hnd⟩:=hW
  have hA:DataW.TrodAll enc Tryz.prog W 0 (fun _=>true) true Tryz.f3.params.toList args.toList ds p:=hA0
  rw [Tryz.params3] at hA hval
  obtain ⟨v0,vs0,d0,ds0,p0,q0,hargs,rfl,rfl,h0,r0⟩:=trodAll_cons hA
  obtain ⟨v1,vs1,d1,ds1,p1,q1,rfl,rfl,rfl,h1,r1⟩:=trodAll_cons r0
  obtain ⟨v2,vs2,d2,ds2,p2,q2,rfl,rfl,rfl,h2,r2⟩:=trodAll_cons r1
  obtain ⟨v3,vs3,d3,ds3,p3,q3,rfl,rfl,rfl,h3,r3⟩:=trodAll_cons r2
  obtain ⟨v4,vs4,d4,ds4,p4,q4,rfl,rfl,rfl,h4,r4⟩:=trodAll_cons r3
  obtain ⟨v5,vs5,d5,ds5,p5,q5,rfl,rfl,rfl,h5,r5⟩:=trodAll_cons r4
  obtain ⟨rfl,rfl,rfl⟩:=trodAll_nil r5
  obtain rfl:args=#[v0,v1,v2,v3,v4,v5]:=by cases args; simp_all
  obtain ⟨rfl,rfl⟩:=trodVars_none hV
  have lt0:∀ x ∈ p0,x.block < W.heap.size:=by obtain ⟨m,hm⟩:=h0; exact DataW.trod_lt m _ _ _ hm
  have lt1:∀ x ∈ p1,x.block < W.heap.size:=by obtain ⟨m,hm⟩:=h1; exact DataW.trod_lt m _ _ _ hm
  have lt2:∀ x ∈ p2,x.block < W.heap.size:=by obtain ⟨m,hm⟩:=h2; exact DataW.trod_lt m _ _ _ hm
  have lt3:∀ x ∈ p3,x.block < W.heap.size:=by obtain ⟨m,hm⟩:=h3; exact DataW.trod_lt m _ _ _ hm
  have lt4:∀ x ∈ p4,x.block < W.heap.size:=by obtain ⟨m,hm⟩:=h4; exact DataW.trod_lt m _ _ _ hm
  have lt5:∀ x ∈ p5,x.block < W.heap.size:=by obtain ⟨m,hm⟩:=h5; exact DataW.trod_lt m _ _ _ hm
  obtain ⟨sa0,sl0,sc0,rfl⟩:=okWide_slice Tryz.underlying22 (hval 0 _ v0 rfl rfl)
  obtain ⟨A0,l0,c0,e0,hl0,hlc0,hc0,hw0⟩:∃ (A:Option Addr) (l:List Int) (c:Nat),Value.slice sa0 sl0 sc0=.slice A l.length c ∧ Arr1 .u8 W W.heap.size A l ∧ l.length ≤ c ∧ c ≤ 9223372036854775807 ∧ ∀ x ∈ l,(Lit.int .u8 x).wf=true:=by
    obtain ⟨fuel,hf⟩:=h0
    exact open_is Tryz.underlying22 Tryz.underlying5 (by kernel_rfl) hf
  rw [e0] at h0 hW' ⊢
  obtain ⟨py,rfl,wf_py⟩:∃ x,v1=.int .u8 x ∧ (Lit.int .u8 x).wf=true:=by
    obtain ⟨x,hx,_,_,wx⟩:=open_int Tryz.underlying5 (hval 1 _ v1 rfl rfl) h1
    exact ⟨x,hx,wx⟩
  have bd_py:=bounds_u8 wf_py
  obtain ⟨sx,rfl,wf_sx⟩:∃ x,v2=.int .i16 x ∧ (Lit.int .i16 x).wf=true:=by
    obtain ⟨x,hx,_,_,wx⟩:=open_int Tryz.underlying23 (hval 2 _ v2 rfl rfl) h2
    exact ⟨x,hx,wx⟩
  have bd_sx:=bounds_i16 wf_sx
  obtain ⟨bx,rfl,wf_bx⟩:∃ x,v3=.int .u8 x ∧ (Lit.int .u8 x).wf=true:=by
    obtain ⟨x,hx,_,_,wx⟩:=open_int Tryz.underlying5 (hval 3 _ v3 rfl rfl) h3
    exact ⟨x,hx,wx⟩
  have bd_bx:=bounds_u8 wf_bx
  obtain ⟨rx,rfl,wf_rx⟩:∃ x,v4=.int .u16 x ∧ (Lit.int .u16 x).wf=true:=by
    obtain ⟨x,hx,_,_,wx⟩:=open_int Tryz.underlying24 (hval 4 _ v4 rfl rfl) h4
    exact ⟨x,hx,wx⟩
  have bd_rx:=bounds_u16 wf_rx
  obtain ⟨sa5,sl5,sc5,rfl⟩:=okWide_slice Tryz.underlying25 (hval 5 _ v5 rfl rfl)
  obtain ⟨A5,l5,c5,e5,hl5,hw5,hlc5,hc5,hb5,hnl5⟩:∃ (A:Option Addr) (l:List (List Int)) (c:Nat),Value.slice sa5 sl5 sc5=.slice A l.length c ∧ Ro W A (flatK [.u16,.u8,.u8] l) ∧ WR 3 l ∧ l.length ≤ c ∧ c ≤ 9223372036854775807 ∧ (∀ k,k < l.length → ∀ i kd,([.u16,.u8,.u8]:List IntKind)[i]?=some kd → (Lit.int kd (rc l k i)).wf=true) ∧ (A=none → l.length=0 ∧ c=0):=by
    obtain ⟨fuel,hf⟩:=h5
    exact open_kr (ks:=[.u16,.u8,.u8]) Tryz.underlying25 (by kernel_rfl) (by kernel_rfl) (by decide) hf
  rw [e5] at h5 hW' ⊢
  clear hA0 hval0
  refine (topService_all A0 l0 c0 py sx bx rx A5 l5 c5 W hl0 hw0 hl5 hw5 hb5 ⟨bd_py,bd_sx,bd_bx,bd_rx⟩).mono fun e W' ⟨he,bel⟩=>?_
  subst he
  exact ⟨_,rfl,_,_,_,[],_,[],hW',trodAll_mk1 (shut_bool Tryz.underlying4 _),(trodAll_cons_mk (Below.trod Tryz.laidOut (by kernel_rfl) (of_decide_eq_true (by kernel_rfl)) h0 bel lt0) (trodAll_cons_mk (Below.trod Tryz.laidOut (by kernel_rfl) (of_decide_eq_true (by kernel_rfl)) h1 bel lt1) (trodAll_cons_mk (Below.trod Tryz.laidOut (by kernel_rfl) (of_decide_eq_true (by kernel_rfl)) h2 bel lt2) (trodAll_cons_mk (Below.trod Tryz.laidOut (by kernel_rfl) (of_decide_eq_true (by kernel_rfl)) h3 bel lt3) (trodAll_cons_mk (Below.trod Tryz.laidOut (by kernel_rfl) (of_decide_eq_true (by kernel_rfl)) h4 bel lt4) (trodAll_cons_mk (Below.trod Tryz.laidOut (by kernel_rfl) (of_decide_eq_true (by kernel_rfl)) h5 bel lt5) trodAll_mk0)))))),rfl,bel.frame _,fun h=>by cases h⟩
theorem proved:Rows.TopServiceSaid :=
  OpenClaim.holds_of_wide 3 Tryz.f3 rfl rfl rfl rfl rfl rfl rfl ⟨rfl,rfl,rfl,rfl,rfl⟩ rfl rfl rfl rfl rfl (by kernel_rfl) Tryz.func3 (by kernel_rfl)
    (of_decide_eq_true (by kernel_rfl)) (by unfold Func.isWrapper; first | (rw [if_pos (by decide +kernel)]; kernel_rfl) | (rw [if_neg (by decide +kernel)]; exact ⟨rfl,rfl⟩))
    (fun os started H enc _=>lifted os started H enc)
#print axioms proved
end Go.Proofs.YtlngflbamkgjlaaGreat.topService
