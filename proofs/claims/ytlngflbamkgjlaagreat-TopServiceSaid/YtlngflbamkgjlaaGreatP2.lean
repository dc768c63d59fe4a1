/-
  Part 2 of the proof of TopService: TsH, Scope, FirstPlain, TsA, FiMod, TsB, TsC, TsD, GatePlain, TsE, TsI, TsJ, TsK, TsL.
-/
import Derived.ScopeJumps
import Derived.Test.YtlngflbamkgjlaaGreatP1
namespace Go.Proofs.YtlngflbamkgjlaaGreat
open Go.RowKit
set_option linter.unusedVariables false
set_option linter.unusedSimpArgs false
set_option maxRecDepth 100000
theorem qk_len {cap:Int} {l:List (List Int)} (h:qkE cap l=0):l.length ≤ 1000:=by
  obtain ⟨h1,h2,h3⟩:=qk_p h
  have key:∀ k,k < l.length → 84 * (k:Int) ≤ freshL l (k + 1):=by
    intro k
    induction k with
    | zero =>
      intro hk
      have:=(ckP_ok (h2 0 hk).1).2
      simp only [freshL]
      split <;> omega
    | succ k ih =>
      intro hk
      have:=ih (by omega)
      have h5:=(ckP_ok (h2 (k + 1) hk).1).2
      have h6:rc l (k + 1) 6 ≠ 1:=fun e=>by have:=(h2 (k + 1) hk).2 e; omega
      rw [freshL,if_neg h6]
      omega
  rcases Nat.eq_zero_or_pos l.length with q | q
  · omega
  · have:=key (l.length - 1) (by omega)
    rw [show l.length - 1 + 1=l.length by omega] at this
    omega
theorem qk_oct {cap:Int} {l:List (List Int)} (h:qkE cap l=0):∀ k,k < l.length → 84 ≤ rc l k 5 ∧ rc l k 5 ≤ 1542:=fun k hk=>(ckP_ok ((qk_p h).2.1 k hk).1).2
theorem octL_bd {l:List (List Int)} (h:∀ k,k < l.length → 84 ≤ rc l k 5 ∧ rc l k 5 ≤ 1542):∀ k,k ≤ l.length → 0 ≤ octL l k ∧ octL l k ≤ 1542 * (k:Int)
  | 0, _ => by simp [octL]
  | k + 1, hk => by
    have:=octL_bd h k (by omega)
    have:=h k (by omega)
    simp only [octL]
    omega
def zP:List Int:=[0,0,0,0,0,0,0]
def headP:List (List Int) → List Int
  | [] => zP
  | x :: _ => x
theorem headP_rc {l:List (List Int)} (hW:WR 7 l) (h:1 ≤ l.length):headP l=[rc l 0 0,rc l 0 1,rc l 0 2,rc l 0 3,rc l 0 4,rc l 0 5,rc l 0 6]:=by
  match l,h with
  | x :: r, _ =>
    have h7:x.length=7:=hW x (List.mem_cons_self ..)
    match x,h7 with
    | [a, b, c, d, e, f, g], _ => rfl
theorem qChk_w (cap:Int) (A:Option Addr) (l:List (List Int)) (gc:Nat) (w0:World) (hA:Ro w0 A (flatE pE l)) (hW:WR 7 l) (hq:qkE cap l=0):Calls Tryz.prog 69 #[.agg #[.int .i64 cap,.slice A l.length gc]] w0 (Ret w0 (.int .i64 0)):=by
  have:=qCheck_w cap A l gc w0 hA hW (qk_len hq)
  rw [hq] at this
  exact this
set_option maxHeartbeats 4000000 in
theorem push_yes (cap:Int) (A:Option Addr) (l:List (List Int)) (gc:Nat) (a0 a1 a2 a3 a4:Int) (w0:World) (hA:Ro w0 A (flatE pE l)) (hW:WR 7 l) (hgc:l.length ≤ gc) (hnl:A=none → gc=0) (hq:qkE cap l=0) (hi:ckI a0 a1 a2 a3 a4=0) (h:octL l l.length + a3 ≤ cap) :
    Calls Tryz.prog 74 #[.agg #[iv cap,.slice A l.length gc],.agg #[iv a0,iv a1,iv a2,iv a3,iv a4]] w0 (RetP w0 (fun s=>.tuple #[.agg #[.int .i64 cap,s],.bool true,.int .i64 0]) (l ++ [[a0,a1,a2,a3,a4,a3,0]]) A (flatE pE l)):=by
 have hl:=qk_len hq
 have hp:=qk_oct hq
 have hcq:=(qk_p hq).1
 have hob:=octL_bd hp l.length (Nat.le_refl _)
 have hib:=ckI_ok hi
 refine enterK 54 Tryz.func74 rfl rfl rfl ?_
 intro a hF Q0 hR0 hN0
 have hM:=Mem.start w0
 replace hM:=hM.addOld 1 hA (Nat.le_refl _)
 refine wp_seq_k fun K1 hK1=>wp_region_lit (wl (xN 2 2 (t:=82) (fun b=>.pointer (some ⟨b,0,none⟩)) #[iv cap,.slice A l.length gc] hF hM fun bb1 a w hF hM=>wl (xN 3 3 (t:=48) (fun b=>.pointer (some ⟨b,0,none⟩)) #[iv a0,iv a1,iv a2,iv a3,iv a4] hF hM fun bb2 a w hF hM=>wl (xN 4 4 (t:=82) (fun b=>.pointer (some ⟨b,0,none⟩)) #[iv 0,.slice none 0 0] hF hM fun bb3 a w hF hM=>xB 2 [(5,.bool false),(6,iv 0)] hF fun a hF=>wpList_nil (hK1 _ _ (wp_seq_k fun K2 hK2=>wp_seq_k fun K3 hK3=>wp_region_lit (wl (xL 10 2 0 (v:=.agg #[iv cap,.slice A l.length gc]) hF hM fun a w hF hM=>?_))))))))
 refine wl (xM 11 (v:=iv 0) hF hM (xC 69 #[.agg #[iv cap,.slice A l.length gc]] hF (fun w hM=>qChk_w cap A l gc w (hM.ok 1 _ rfl) hW hq)) fun a w hF hM=>xB 1 [(7,iv 0)] hF fun a hF=>wpList_nil (hK3 _ _ (wp_seq_k fun K4 hK4=>wp_region_lit (xB 1 [(12,iv 0)] hF fun a hF=>wl (xP 13 (v0:=.bool (!decide (0=0))) (v:=.bool false) hF (nT (by omega)) fun a hF=>wpList_nil (hK4 _ _ (xF hF (wp_skip ?_))))))))
 refine hK2 _ _ (wp_seq_k fun K5 hK5=>wp_seq_k fun K6 hK6=>wp_region_lit (wl (xL 16 3 0 (v:=.agg #[iv a0,iv a1,iv a2,iv a3,iv a4]) hF hM fun a w hF hM=>wl (xM 17 (v:=iv 0) hF hM (xC 50 #[.agg #[iv a0,iv a1,iv a2,iv a3,iv a4]] hF (fun w hM=>by have:=ckItem_w a0 a1 a2 a3 a4 w; rw [hi] at this; exact this)) fun a w hF hM=>xB 1 [(8,iv 0)] hF fun a hF=>wpList_nil (hK6 _ _ (wp_seq_k fun K7 hK7=>wp_region_lit (xB 1 [(18,iv 0)] hF fun a hF=>?_)))))))
 refine wl (xP 19 (v0:=.bool (!decide (0=0))) (v:=.bool false) hF (nT (by omega)) fun a hF=>wpList_nil (hK7 _ _ (xF hF (wp_skip (hK5 _ _ (wp_seq_k fun K8 hK8=>wp_region_lit (wl (xL 22 2 0 (v:=.agg #[iv cap,.slice A l.length gc]) hF hM fun a w hF hM=>xB 1 [(23,.agg #[iv cap,.slice A l.length gc])] hF fun a hF=>wl (xN 9 5 (t:=160) (fun b=>.pointer (some ⟨b,0,none⟩)) #[iv 0,.slice none 0 0] hF hM fun bb4 a w hF hM=>?_)))))))))
 refine wl (xS 5 0 #[iv cap,.slice A l.length gc] hF hM fun w hM=>wpList_nil (hK8 _ _ (wp_seq_k fun K9 hK9=>wp_seq_k fun K10 hK10=>rQ hM (by kernel_rfl) (by kernel_rfl) (xK 24 5 0 (v:=.agg #[iv cap,.slice A l.length gc]) hF fun a hF=>xR 25 (v:=iv (octL l l.length)) hF (xC 87 #[.agg #[iv cap,.slice A l.length gc]] hF (fun w hM=>octets_w cap A l gc w (hM.ok 1 _ rfl) hW hl hp)) fun a hF=>xQ 26 (v0:=pt bb2 3) (v:=pt bb2 3) hF rfl fun a hF=>xK 27 3 3 (v:=iv a3) hF fun a hF=>xQ 28 (v0:=.int .i64 (IntKind.i64.wrap (octL l l.length + a3))) (v:=iv (octL l l.length + a3)) hF (wi (by omega)) fun a hF=>xQ 29 (v0:=pt bb4 0) (v:=pt bb4 0) hF rfl fun a hF=>?_))))
 refine xQ 30 (v0:=pt bb4 0) (v:=pt bb4 0) hF rfl fun a hF=>xK 31 5 0 (v:=iv cap) hF fun a hF=>xQ 32 (v0:=.bool (decide (cap < octL l l.length + a3))) (v:=.bool false) hF (bF (by omega)) fun a hF=>wpQuiet_nil ?_
 intro w hM
 refine hK10 _ _ (xF hF (wp_skip (hK9 _ _ (wp_seq_k fun K11 hK11=>?_))))
 refine rF (by kernel_rfl) (by kernel_rfl) (fun S a w=>∃ bb5:Nat,∃ AA6:Option Addr,∃ cc6:Nat,Fr 54 [(3,some (pt bb2 0)),(4,some (pt bb3 0)),(5,some (.bool false)),(6,some (iv 0)),(9,some (pt bb4 0)),(34,(cond (S.getD 0 false) (some (pt bb4 0)) none)),(35,(cond (S.getD 1 false) (some (pt bb4 1)) none)),(36,(cond (S.getD 2 false) (some (.slice A l.length gc)) none)),(37,(cond (S.getD 3 false) (some (pt bb4 0)) none)),(38,(cond (S.getD 4 false) (some (pt bb4 1)) none)),(39,(cond (S.getD 5 false) (some (.slice A l.length gc)) none)),(40,(cond (S.getD 6 false) (some (iv (l.length:Int))) none)),(41,(cond (S.getD 7 false) (some (pt bb4 0)) none)),(42,(cond (S.getD 8 false) (some (pt bb4 1)) none)),(43,(cond (S.getD 9 false) (some (.slice A l.length gc)) none)),(44,(cond (S.getD 10 false) (some (iv (l.length:Int))) none)),(45,(cond (S.getD 11 false) (some (.slice A l.length l.length)) none)),(46,(cond (S.getD 12 false) (some (.agg #[iv a0,iv a1,iv a2,iv a3,iv a4])) none)),(47,(cond (S.getD 13 false) (some (.agg #[iv a0,iv a1,iv a2,iv a3,iv a4,iv a3,.bool false])) none)),(48,(cond (S.getD 14 false) (some (.slice (some ⟨bb5,0,none⟩) 1 1)) none)),(49,(cond (S.getD 15 false) (some (.slice AA6 (l.length + 1) cc6)) none)),(50,(cond (S.getD 16 false) (some (pt bb4 0)) none)),(51,(cond (S.getD 17 false) (some (pt bb4 1)) none))] a ∧ Mem w0.heap.size w0 [(1,some (.ro A (flatE pE l))),(3,some (.row bb2 48 #[iv a0,iv a1,iv a2,iv a3,iv a4])),(4,some (.row bb3 82 #[iv 0,.slice none 0 0])),(5,(cond (S.getD 18 false) (some (.row bb4 160 #[iv cap,.slice AA6 (l.length + 1) cc6])) (some (.row bb4 160 #[iv cap,.slice A l.length gc])))),(6,(cond (S.getD 14 false) (some (.row bb5 50 #[iv a0,iv a1,iv a2,iv a3,iv a4,iv a3,.bool false])) none)),(7,(cond (S.getD 15 false) (some (.own (.slice AA6 (l.length + 1) cc6) 50 7 (l.length + 1) (flatE pE (l ++ [[a0,a1,a2,a3,a4,a3,0]])))) none))] w) ?_ ?_ ?_
 ·exact ⟨0,none,0,hF.pk,hM.dk⟩
 ·refine stC ?_ (stC ?_ (stC ?_ (stC ?_ (stC ?_ (stC ?_ (stC ?_ (stC ?_ (stC ?_ (stC ?_ (stC ?_ (stC ?_ (stC ?_ (stC ?_ (stC ?_ (stC ?_ (stC ?_ (stC ?_ (stC ?_ (trivial)))))))))))))))))))
  ·intro s0 s1 s2 s3 s4 s5 s6 s7 s8 s9 s10 s11 s12 s13 s14 s15 s16 s17 s18 hc hi hp a w hS
   obtain rfl:s0=false:=hi
   obtain rfl:s18=false:=hc.f 18 0 (by kernel_rfl) rfl
   obtain ⟨bb5,AA6,cc6,hF,hM⟩:=hS
   refine xP 34 (v0:=pt bb4 0) (v:=pt bb4 0) hF rfl fun a hF=>⟨bb5,AA6,cc6,hF.rc 5,hM.k⟩
  ·intro s0 s1 s2 s3 s4 s5 s6 s7 s8 s9 s10 s11 s12 s13 s14 s15 s16 s17 s18 hc hi hp a w hS
   obtain rfl:s1=false:=hi
   obtain rfl:s0=true:=hp 0 (by kernel_rfl)
   obtain rfl:s18=false:=hc.f 18 1 (by kernel_rfl) rfl
   obtain ⟨bb5,AA6,cc6,hF,hM⟩:=hS
   refine xP 35 (v0:=pt bb4 1) (v:=pt bb4 1) hF rfl fun a hF=>⟨bb5,AA6,cc6,hF.rc 6,hM.k⟩
  ·intro s0 s1 s2 s3 s4 s5 s6 s7 s8 s9 s10 s11 s12 s13 s14 s15 s16 s17 s18 hc hi hp a w hS
   obtain rfl:s2=false:=hi
   obtain rfl:s1=true:=hp 1 (by kernel_rfl)
   obtain rfl:s18=false:=hc.f 18 2 (by kernel_rfl) rfl
   obtain ⟨bb5,AA6,cc6,hF,hM⟩:=hS
   refine xL 36 5 1 (v:=.slice A l.length gc) hF hM fun a w hF hM=>⟨bb5,AA6,cc6,hF.rc 7,hM.k⟩
  ·intro s0 s1 s2 s3 s4 s5 s6 s7 s8 s9 s10 s11 s12 s13 s14 s15 s16 s17 s18 hc hi hp a w hS
   obtain rfl:s3=false:=hi
   obtain rfl:s18=false:=hc.f 18 3 (by kernel_rfl) rfl
   obtain ⟨bb5,AA6,cc6,hF,hM⟩:=hS
   refine xP 37 (v0:=pt bb4 0) (v:=pt bb4 0) hF rfl fun a hF=>⟨bb5,AA6,cc6,hF.rc 8,hM.k⟩
  ·intro s0 s1 s2 s3 s4 s5 s6 s7 s8 s9 s10 s11 s12 s13 s14 s15 s16 s17 s18 hc hi hp a w hS
   obtain rfl:s4=false:=hi
   obtain rfl:s3=true:=hp 3 (by kernel_rfl)
   obtain rfl:s18=false:=hc.f 18 4 (by kernel_rfl) rfl
   obtain ⟨bb5,AA6,cc6,hF,hM⟩:=hS
   refine xP 38 (v0:=pt bb4 1) (v:=pt bb4 1) hF rfl fun a hF=>⟨bb5,AA6,cc6,hF.rc 9,hM.k⟩
  ·intro s0 s1 s2 s3 s4 s5 s6 s7 s8 s9 s10 s11 s12 s13 s14 s15 s16 s17 s18 hc hi hp a w hS
   obtain rfl:s5=false:=hi
   obtain rfl:s4=true:=hp 4 (by kernel_rfl)
   obtain rfl:s18=false:=hc.f 18 5 (by kernel_rfl) rfl
   obtain ⟨bb5,AA6,cc6,hF,hM⟩:=hS
   refine xL 39 5 1 (v:=.slice A l.length gc) hF hM fun a w hF hM=>⟨bb5,AA6,cc6,hF.rc 10,hM.k⟩
  ·intro s0 s1 s2 s3 s4 s5 s6 s7 s8 s9 s10 s11 s12 s13 s14 s15 s16 s17 s18 hc hi hp a w hS
   obtain rfl:s6=false:=hi
   obtain rfl:s5=true:=hp 5 (by kernel_rfl)
   obtain ⟨bb5,AA6,cc6,hF,hM⟩:=hS
   refine xP 40 (v0:=iv (l.length:Int)) (v:=iv (l.length:Int)) hF rfl fun a hF=>⟨bb5,AA6,cc6,hF.rc 11,hM.k⟩
  ·intro s0 s1 s2 s3 s4 s5 s6 s7 s8 s9 s10 s11 s12 s13 s14 s15 s16 s17 s18 hc hi hp a w hS
   obtain rfl:s7=false:=hi
   obtain rfl:s18=false:=hc.f 18 7 (by kernel_rfl) rfl
   obtain ⟨bb5,AA6,cc6,hF,hM⟩:=hS
   refine xP 41 (v0:=pt bb4 0) (v:=pt bb4 0) hF rfl fun a hF=>⟨bb5,AA6,cc6,hF.rc 12,hM.k⟩
  ·intro s0 s1 s2 s3 s4 s5 s6 s7 s8 s9 s10 s11 s12 s13 s14 s15 s16 s17 s18 hc hi hp a w hS
   obtain rfl:s8=false:=hi
   obtain rfl:s7=true:=hp 7 (by kernel_rfl)
   obtain rfl:s18=false:=hc.f 18 8 (by kernel_rfl) rfl
   obtain ⟨bb5,AA6,cc6,hF,hM⟩:=hS
   refine xP 42 (v0:=pt bb4 1) (v:=pt bb4 1) hF rfl fun a hF=>⟨bb5,AA6,cc6,hF.rc 13,hM.k⟩
  ·intro s0 s1 s2 s3 s4 s5 s6 s7 s8 s9 s10 s11 s12 s13 s14 s15 s16 s17 s18 hc hi hp a w hS
   obtain rfl:s9=false:=hi
   obtain rfl:s8=true:=hp 8 (by kernel_rfl)
   obtain rfl:s18=false:=hc.f 18 9 (by kernel_rfl) rfl
   obtain ⟨bb5,AA6,cc6,hF,hM⟩:=hS
   refine xL 43 5 1 (v:=.slice A l.length gc) hF hM fun a w hF hM=>⟨bb5,AA6,cc6,hF.rc 14,hM.k⟩
  ·intro s0 s1 s2 s3 s4 s5 s6 s7 s8 s9 s10 s11 s12 s13 s14 s15 s16 s17 s18 hc hi hp a w hS
   obtain rfl:s10=false:=hi
   obtain rfl:s9=true:=hp 9 (by kernel_rfl)
   obtain ⟨bb5,AA6,cc6,hF,hM⟩:=hS
   refine xP 44 (v0:=iv (l.length:Int)) (v:=iv (l.length:Int)) hF rfl fun a hF=>⟨bb5,AA6,cc6,hF.rc 15,hM.k⟩
  ·intro s0 s1 s2 s3 s4 s5 s6 s7 s8 s9 s10 s11 s12 s13 s14 s15 s16 s17 s18 hc hi hp a w hS
   obtain rfl:s11=false:=hi
   obtain rfl:s10=true:=hp 10 (by kernel_rfl)
   obtain rfl:s6=true:=hp 6 (by kernel_rfl)
   obtain rfl:s2=true:=hp 2 (by kernel_rfl)
   obtain ⟨bb5,AA6,cc6,hF,hM⟩:=hS
   refine xM 45 (v:=.slice A l.length l.length) hF hM (yld_slice3 (e:=50) (len:=l.length) (cap:=gc) (m:=l.length) (c:=l.length) (A:=A) (i:=(l.length:Int)) (j:=(l.length:Int)) hF rfl (by kernel_rfl) (by kernel_rfl) (by kernel_rfl) (by kernel_rfl) (by kernel_rfl) (by kernel_rfl) rfl rfl (Nat.le_refl _) hgc) fun a w hF hM=>⟨bb5,AA6,cc6,hF.rc 16,hM.k⟩
  ·intro s0 s1 s2 s3 s4 s5 s6 s7 s8 s9 s10 s11 s12 s13 s14 s15 s16 s17 s18 hc hi hp a w hS
   obtain rfl:s12=false:=hi
   obtain ⟨bb5,AA6,cc6,hF,hM⟩:=hS
   refine xL 46 3 0 (v:=.agg #[iv a0,iv a1,iv a2,iv a3,iv a4]) hF hM fun a w hF hM=>⟨bb5,AA6,cc6,hF.rc 17,hM.k⟩
  ·intro s0 s1 s2 s3 s4 s5 s6 s7 s8 s9 s10 s11 s12 s13 s14 s15 s16 s17 s18 hc hi hp a w hS
   obtain rfl:s13=false:=hi
   obtain rfl:s12=true:=hp 12 (by kernel_rfl)
   obtain ⟨bb5,AA6,cc6,hF,hM⟩:=hS
   refine xM 47 (v:=.agg #[iv a0,iv a1,iv a2,iv a3,iv a4,iv a3,.bool false]) hF hM (xC 84 #[.agg #[iv a0,iv a1,iv a2,iv a3,iv a4]] hF (fun w hM=>whole_w a0 a1 a2 a3 a4 w)) fun a w hF hM=>⟨bb5,AA6,cc6,hF.rc 18,hM.k⟩
  ·intro s0 s1 s2 s3 s4 s5 s6 s7 s8 s9 s10 s11 s12 s13 s14 s15 s16 s17 s18 hc hi hp a w hS
   obtain rfl:s14=false:=hi
   obtain rfl:s13=true:=hp 13 (by kernel_rfl)
   obtain ⟨bb5,AA6,cc6,hF,hM⟩:=hS
   refine xN 48 6 (t:=50) (fun b=>.slice (some ⟨b,0,none⟩) 1 1) #[iv a0,iv a1,iv a2,iv a3,iv a4,iv a3,.bool false] hF hM fun bb5 a w hF hM=>⟨bb5,AA6,cc6,hF.rc 19,hM.rc 4⟩
  ·intro s0 s1 s2 s3 s4 s5 s6 s7 s8 s9 s10 s11 s12 s13 s14 s15 s16 s17 s18 hc hi hp a w hS
   obtain rfl:s15=false:=hi
   obtain rfl:s14=true:=hp 14 (by kernel_rfl)
   obtain rfl:s11=true:=hp 11 (by kernel_rfl)
   obtain rfl:s18=false:=hc.f 18 15 (by kernel_rfl) rfl
   obtain ⟨bb5,AA6,cc6,hF,hM⟩:=hS
   refine sAppG 49 7 (e:=50) (size:=7) (bytes:=56) (z:=.agg #[iv 0,iv 0,iv 0,iv 0,iv 0,iv 0,.bool false]) (m:=1) (c:=1) (l:=l.length) (A:=A) (xs:=(flatE pE l)) (news:=[iv a0,iv a1,iv a2,iv a3,iv a4,iv a3,.bool false]) (flatE pE (l ++ [[a0,a1,a2,a3,a4,a3,0]])) hF hM (by kernel_rfl) rfl (by kernel_rfl) (by kernel_rfl) (by kernel_rfl) rfl rfl (flatE_length (es:=pE) hW) (roK 1 rfl) (fun h=>ro_nil (es:=pE) (hM.ok 1 _ rfl) hW (by decide) h) rfl (roR 6 rfl) (by decide) (by omega) (by decide) (flatE_append pE l [[a0,a1,a2,a3,a4,a3,0]]).symm fun AA6 cc6 a w hF hM=>⟨bb5,AA6,cc6,hF.rc 20,hM.rc 5⟩
  ·intro s0 s1 s2 s3 s4 s5 s6 s7 s8 s9 s10 s11 s12 s13 s14 s15 s16 s17 s18 hc hi hp a w hS
   obtain rfl:s16=false:=hi
   obtain rfl:s17=false:=hc.f 17 16 (by kernel_rfl) rfl
   obtain rfl:s18=false:=hc.f 18 17 (by kernel_rfl) rfl
   obtain ⟨bb5,AA6,cc6,hF,hM⟩:=hS
   refine xP 50 (v0:=pt bb4 0) (v:=pt bb4 0) hF rfl fun a hF=>⟨bb5,AA6,cc6,hF.rc 21,hM.k⟩
  ·intro s0 s1 s2 s3 s4 s5 s6 s7 s8 s9 s10 s11 s12 s13 s14 s15 s16 s17 s18 hc hi hp a w hS
   obtain rfl:s17=false:=hi
   obtain rfl:s16=true:=hp 16 (by kernel_rfl)
   obtain rfl:s18=false:=hc.f 18 17 (by kernel_rfl) rfl
   obtain ⟨bb5,AA6,cc6,hF,hM⟩:=hS
   refine xP 51 (v0:=pt bb4 1) (v:=pt bb4 1) hF rfl fun a hF=>⟨bb5,AA6,cc6,hF.rc 22,hM.k⟩
  intro s0 s1 s2 s3 s4 s5 s6 s7 s8 s9 s10 s11 s12 s13 s14 s15 s16 s17 s18 hc hi hp a w hS
  obtain rfl:s18=false:=hi
  obtain rfl:s17=true:=hp 17 (by kernel_rfl)
  obtain rfl:s15=true:=hp 15 (by kernel_rfl)
  obtain ⟨bb5,AA6,cc6,hF,hM⟩:=hS
  refine xS 5 1 #[iv cap,.slice AA6 (l.length + 1) cc6] hF hM fun w hM=>⟨bb5,AA6,cc6,hF.k,hM.rc 3⟩
 intro a w hS
 obtain ⟨bb5,AA6,cc6,hF,hM⟩:=hS
 replace hF:Fr 54 [(3,some (pt bb2 0)),(4,some (pt bb3 0)),(5,some (.bool false)),(6,some (iv 0)),(9,some (pt bb4 0)),(34,some (pt bb4 0)),(35,some (pt bb4 1)),(36,some (.slice A l.length gc)),(37,some (pt bb4 0)),(38,some (pt bb4 1)),(39,some (.slice A l.length gc)),(40,some (iv (l.length:Int))),(41,some (pt bb4 0)),(42,some (pt bb4 1)),(43,some (.slice A l.length gc)),(44,some (iv (l.length:Int))),(45,some (.slice A l.length l.length)),(46,some (.agg #[iv a0,iv a1,iv a2,iv a3,iv a4])),(47,some (.agg #[iv a0,iv a1,iv a2,iv a3,iv a4,iv a3,.bool false])),(48,some (.slice (some ⟨bb5,0,none⟩) 1 1)),(49,some (.slice AA6 (l.length + 1) cc6)),(50,some (pt bb4 0)),(51,some (pt bb4 1))] a:=hF.cast (by kernel_rfl)
 replace hM:Mem w0.heap.size w0 [(1,some (.ro A (flatE pE l))),(3,some (.row bb2 48 #[iv a0,iv a1,iv a2,iv a3,iv a4])),(4,some (.row bb3 82 #[iv 0,.slice none 0 0])),(5,some (.row bb4 160 #[iv cap,.slice AA6 (l.length + 1) cc6])),(6,some (.row bb5 50 #[iv a0,iv a1,iv a2,iv a3,iv a4,iv a3,.bool false])),(7,some (.own (.slice AA6 (l.length + 1) cc6) 50 7 (l.length + 1) (flatE pE (l ++ [[a0,a1,a2,a3,a4,a3,0]]))))] w:=hM.cast (by kernel_rfl)
 refine hK11 _ _ (wp_seq_k fun K12 hK12=>wp_region_lit (xB 1 [(52,pt bb4 0)] hF fun a hF=>wl (xL 53 5 0 (v:=.agg #[iv cap,.slice AA6 (l.length + 1) cc6]) hF hM fun a w hF hM=>wl (xS 4 0 #[iv cap,.slice AA6 (l.length + 1) cc6] hF hM fun w hM=>xB 2 [(5,.bool true),(6,iv 0)] hF fun a hF=>wpList_nil (hK12 _ _ (wp_ret (hR0 _ _ (ret_of hF hM (.cell (i:=4) rfl rfl (v:=.agg #[iv cap,.slice AA6 (l.length + 1) cc6]) (by kernel_rfl) (.tmp rfl (.tmp rfl (.nil)))) ?_))))))))
 exact retP_own (mk:=(fun s=>.tuple #[.agg #[.int .i64 cap,s],.bool true,.int .i64 0])) (l:=l ++ [[a0,a1,a2,a3,a4,a3,0]]) (k:=7) hM rfl (WR.app hW (show WR 7 ([[a0,a1,a2,a3,a4,a3,0]]:List (List Int)) from by unfold WR; simp)) (by rw [List.length_append]; rfl)
set_option maxHeartbeats 4000000 in
theorem push_no (cap:Int) (A:Option Addr) (l:List (List Int)) (gc:Nat) (a0 a1 a2 a3 a4:Int) (w0:World) (hA:Ro w0 A (flatE pE l)) (hW:WR 7 l) (hgc:l.length ≤ gc) (hnl:A=none → gc=0) (hq:qkE cap l=0) (hi:ckI a0 a1 a2 a3 a4=0) (h:¬ octL l l.length + a3 ≤ cap) :
    Calls Tryz.prog 74 #[.agg #[iv cap,.slice A l.length gc],.agg #[iv a0,iv a1,iv a2,iv a3,iv a4]] w0 (Ret w0 (.tuple #[.agg #[.int .i64 cap,.slice A l.length gc],.bool false,.int .i64 0])):=by
 have hl:=qk_len hq
 have hp:=qk_oct hq
 have hcq:=(qk_p hq).1
 have hob:=octL_bd hp l.length (Nat.le_refl _)
 have hib:=ckI_ok hi
 refine enterK 54 Tryz.func74 rfl rfl rfl ?_
 intro a hF Q0 hR0 hN0
 have hM:=Mem.start w0
 replace hM:=hM.addOld 1 hA (Nat.le_refl _)
 refine wp_seq_k fun K1 hK1=>wp_region_lit (wl (xN 2 2 (t:=82) (fun b=>.pointer (some ⟨b,0,none⟩)) #[iv cap,.slice A l.length gc] hF hM fun bb1 a w hF hM=>wl (xN 3 3 (t:=48) (fun b=>.pointer (some ⟨b,0,none⟩)) #[iv a0,iv a1,iv a2,iv a3,iv a4] hF hM fun bb2 a w hF hM=>wl (xN 4 4 (t:=82) (fun b=>.pointer (some ⟨b,0,none⟩)) #[iv 0,.slice none 0 0] hF hM fun bb3 a w hF hM=>xB 2 [(5,.bool false),(6,iv 0)] hF fun a hF=>wpList_nil (hK1 _ _ (wp_seq_k fun K2 hK2=>wp_seq_k fun K3 hK3=>wp_region_lit (wl (xL 10 2 0 (v:=.agg #[iv cap,.slice A l.length gc]) hF hM fun a w hF hM=>?_))))))))
 refine wl (xM 11 (v:=iv 0) hF hM (xC 69 #[.agg #[iv cap,.slice A l.length gc]] hF (fun w hM=>qChk_w cap A l gc w (hM.ok 1 _ rfl) hW hq)) fun a w hF hM=>xB 1 [(7,iv 0)] hF fun a hF=>wpList_nil (hK3 _ _ (wp_seq_k fun K4 hK4=>wp_region_lit (xB 1 [(12,iv 0)] hF fun a hF=>wl (xP 13 (v0:=.bool (!decide (0=0))) (v:=.bool false) hF (nT (by omega)) fun a hF=>wpList_nil (hK4 _ _ (xF hF (wp_skip ?_))))))))
 refine hK2 _ _ (wp_seq_k fun K5 hK5=>wp_seq_k fun K6 hK6=>wp_region_lit (wl (xL 16 3 0 (v:=.agg #[iv a0,iv a1,iv a2,iv a3,iv a4]) hF hM fun a w hF hM=>wl (xM 17 (v:=iv 0) hF hM (xC 50 #[.agg #[iv a0,iv a1,iv a2,iv a3,iv a4]] hF (fun w hM=>by have:=ckItem_w a0 a1 a2 a3 a4 w; rw [hi] at this; exact this)) fun a w hF hM=>xB 1 [(8,iv 0)] hF fun a hF=>wpList_nil (hK6 _ _ (wp_seq_k fun K7 hK7=>wp_region_lit (xB 1 [(18,iv 0)] hF fun a hF=>?_)))))))
 refine wl (xP 19 (v0:=.bool (!decide (0=0))) (v:=.bool false) hF (nT (by omega)) fun a hF=>wpList_nil (hK7 _ _ (xF hF (wp_skip (hK5 _ _ (wp_seq_k fun K8 hK8=>wp_region_lit (wl (xL 22 2 0 (v:=.agg #[iv cap,.slice A l.length gc]) hF hM fun a w hF hM=>xB 1 [(23,.agg #[iv cap,.slice A l.length gc])] hF fun a hF=>wl (xN 9 5 (t:=160) (fun b=>.pointer (some ⟨b,0,none⟩)) #[iv 0,.slice none 0 0] hF hM fun bb4 a w hF hM=>?_)))))))))
 refine wl (xS 5 0 #[iv cap,.slice A l.length gc] hF hM fun w hM=>wpList_nil (hK8 _ _ (wp_seq_k fun K9 hK9=>wp_seq_k fun K10 hK10=>rQ hM (by kernel_rfl) (by kernel_rfl) (xK 24 5 0 (v:=.agg #[iv cap,.slice A l.length gc]) hF fun a hF=>xR 25 (v:=iv (octL l l.length)) hF (xC 87 #[.agg #[iv cap,.slice A l.length gc]] hF (fun w hM=>octets_w cap A l gc w (hM.ok 1 _ rfl) hW hl hp)) fun a hF=>xQ 26 (v0:=pt bb2 3) (v:=pt bb2 3) hF rfl fun a hF=>xK 27 3 3 (v:=iv a3) hF fun a hF=>xQ 28 (v0:=.int .i64 (IntKind.i64.wrap (octL l l.length + a3))) (v:=iv (octL l l.length + a3)) hF (wi (by omega)) fun a hF=>xQ 29 (v0:=pt bb4 0) (v:=pt bb4 0) hF rfl fun a hF=>?_))))
 refine xQ 30 (v0:=pt bb4 0) (v:=pt bb4 0) hF rfl fun a hF=>xK 31 5 0 (v:=iv cap) hF fun a hF=>xQ 32 (v0:=.bool (decide (cap < octL l l.length + a3))) (v:=.bool true) hF (bT (by omega)) fun a hF=>wpQuiet_nil ?_
 intro w hM
 refine hK10 _ _ (xT hF (wp_seq_k fun K11 hK11=>wp_region_lit (wl (xL 33 2 0 (v:=.agg #[iv cap,.slice A l.length gc]) hF hM fun a w hF hM=>wl (xS 4 0 #[iv cap,.slice A l.length gc] hF hM fun w hM=>xB 2 [(5,.bool false),(6,iv 0)] hF fun a hF=>wpList_nil (hK11 _ _ (wp_ret (hR0 _ _ (ret_of hF hM (.cell (i:=4) rfl rfl (v:=.agg #[iv cap,.slice A l.length gc]) (by kernel_rfl) (.tmp rfl (.tmp rfl (.nil)))) ?_)))))))))
 exact ⟨rfl,hM.bel⟩
theorem head_some (cap:Int) (A:Option Addr) (l:List (List Int)) (gc:Nat) (w0:World) (hA:Ro w0 A (flatE pE l)) (hW:WR 7 l) (hgc:l.length ≤ gc) (hnl:A=none → gc=0) (hq:qkE cap l=0) (h:1 ≤ l.length) :
    Calls Tryz.prog 92 #[.agg #[iv cap,.slice A l.length gc]] w0 (Ret w0 (.tuple #[.agg #[.int .i64 (rc l 0 0),.int .i64 (rc l 0 1),.int .i64 (rc l 0 2),.int .i64 (rc l 0 3),.int .i64 (rc l 0 4),.int .i64 (rc l 0 5),.bool (decide (rc l 0 6=1))],.bool true])):=by
 have hl:=qk_len hq
 have hp:=qk_oct hq
 have hcq:=(qk_p hq).1
 have hob:=octL_bd hp l.length (Nat.le_refl _)
 refine enterK 18 Tryz.func92 rfl rfl rfl ?_
 intro a hF Q0 hR0 hN0
 have hM:=Mem.start w0
 replace hM:=hM.addOld 1 hA (Nat.le_refl _)
 refine wp_seq_k fun K1 hK1=>wp_region_lit (wl (xN 1 2 (t:=82) (fun b=>.pointer (some ⟨b,0,none⟩)) #[iv cap,.slice A l.length gc] hF hM fun bb1 a w hF hM=>wl (xN 2 3 (t:=50) (fun b=>.pointer (some ⟨b,0,none⟩)) #[iv 0,iv 0,iv 0,iv 0,iv 0,iv 0,.bool false] hF hM fun bb2 a w hF hM=>xB 1 [(3,.bool false)] hF fun a hF=>wpList_nil (hK1 _ _ (wp_seq_k fun K2 hK2=>wp_seq_k fun K3 hK3=>wp_region_lit (wl (xL 4 2 0 (v:=.agg #[iv cap,.slice A l.length gc]) hF hM fun a w hF hM=>wl (xM 5 (v:=iv 0) hF hM (xC 69 #[.agg #[iv cap,.slice A l.length gc]] hF (fun w hM=>qChk_w cap A l gc w (hM.ok 1 _ rfl) hW hq)) fun a w hF hM=>?_))))))))
 refine wl (xP 6 (v0:=.bool (!decide (0=0))) (v:=.bool false) hF (nT (by omega)) fun a hF=>xB 2 [(7,.bool false),(8,pt bb1 1)] hF fun a hF=>wl (xL 9 2 1 (v:=.slice A l.length gc) hF hM fun a w hF hM=>xB 1 [(10,iv (l.length:Int))] hF fun a hF=>wl (xP 11 (v0:=.bool (decide ((l.length:Int)=0))) (v:=.bool false) hF (bF (by omega)) fun a hF=>xB 1 [(12,.bool false)] hF fun a hF=>wpList_nil (hK3 _ _ (xF hF (wp_skip (hK2 _ _ (wp_seq_k fun K4 hK4=>?_))))))))
 refine wp_region_lit (xB 1 [(14,pt bb1 1)] hF fun a hF=>wl (xL 15 2 1 (v:=.slice A l.length gc) hF hM fun a w hF hM=>wl (xM 16 (v:=.pointer (some (ea A (0 * 7)))) hF hM (yld_ix (kd:=.i64) (e:=50) (len:=l.length) (cap:=gc) (i:=0) (size:=7) (A:=A) hF rfl (by kernel_rfl) (by kernel_rfl) (by kernel_rfl) (by kernel_rfl) (by kernel_rfl) (roK 1 rfl) (by omega) (by omega) (by rw [flatE_length (es:=pE) hW,show pE.length=7 from rfl]; (try simp only [List.length_map,List.length_append,List.length_replicate,List.length_set,List.length_cons,List.length_nil,flat2_length,List.length_take]); omega)) fun a w hF hM=>wl (xM 17 (v:=.agg #[iv (rc l 0 0),iv (rc l 0 1),iv (rc l 0 2),iv (rc l 0 3),iv (rc l 0 4),iv (rc l 0 5),.bool (decide (rc l 0 6=1))]) hF hM (yld_roM (A:=A) (j:=0 * 7) (us:=[iv (rc l 0 0),iv (rc l 0 1),iv (rc l 0 2),iv (rc l 0 3),iv (rc l 0 4),iv (rc l 0 5),.bool (decide (rc l 0 6=1))]) hF rfl (by kernel_rfl) (by kernel_rfl) (roK 1 rfl) (by kernel_rfl) rfl (rcE_sub (es:=pE) (k:=0) (f:=0) (m:=7) hW (by omega) rfl)) fun a w hF hM=>?_))))
 have:=hp 0 (by omega)
 refine wl (xS 3 0 #[iv (rc l 0 0),iv (rc l 0 1),iv (rc l 0 2),iv (rc l 0 3),iv (rc l 0 4),iv (rc l 0 5),.bool (decide (rc l 0 6=1))] hF hM fun w hM=>xB 1 [(3,.bool true)] hF fun a hF=>wpList_nil (hK4 _ _ (wp_ret (hR0 _ _ (ret_of hF hM (.cell (i:=3) rfl rfl (v:=.agg #[iv (rc l 0 0),iv (rc l 0 1),iv (rc l 0 2),iv (rc l 0 3),iv (rc l 0 4),iv (rc l 0 5),.bool (decide (rc l 0 6=1))]) (by kernel_rfl) (.tmp rfl (.nil))) (⟨rfl,hM.bel⟩))))))
theorem head_none (cap:Int) (A:Option Addr) (l:List (List Int)) (gc:Nat) (w0:World) (hA:Ro w0 A (flatE pE l)) (hW:WR 7 l) (hgc:l.length ≤ gc) (hnl:A=none → gc=0) (hq:qkE cap l=0) (h:¬ 1 ≤ l.length) :
    Calls Tryz.prog 92 #[.agg #[iv cap,.slice A l.length gc]] w0 (Ret w0 (.tuple #[.agg #[.int .i64 0,.int .i64 0,.int .i64 0,.int .i64 0,.int .i64 0,.int .i64 0,.bool false],.bool false])):=by
 have hl:=qk_len hq
 have hp:=qk_oct hq
 have hcq:=(qk_p hq).1
 have hob:=octL_bd hp l.length (Nat.le_refl _)
 refine enterK 18 Tryz.func92 rfl rfl rfl ?_
 intro a hF Q0 hR0 hN0
 have hM:=Mem.start w0
 replace hM:=hM.addOld 1 hA (Nat.le_refl _)
 refine wp_seq_k fun K1 hK1=>wp_region_lit (wl (xN 1 2 (t:=82) (fun b=>.pointer (some ⟨b,0,none⟩)) #[iv cap,.slice A l.length gc] hF hM fun bb1 a w hF hM=>wl (xN 2 3 (t:=50) (fun b=>.pointer (some ⟨b,0,none⟩)) #[iv 0,iv 0,iv 0,iv 0,iv 0,iv 0,.bool false] hF hM fun bb2 a w hF hM=>xB 1 [(3,.bool false)] hF fun a hF=>wpList_nil (hK1 _ _ (wp_seq_k fun K2 hK2=>wp_seq_k fun K3 hK3=>wp_region_lit (wl (xL 4 2 0 (v:=.agg #[iv cap,.slice A l.length gc]) hF hM fun a w hF hM=>wl (xM 5 (v:=iv 0) hF hM (xC 69 #[.agg #[iv cap,.slice A l.length gc]] hF (fun w hM=>qChk_w cap A l gc w (hM.ok 1 _ rfl) hW hq)) fun a w hF hM=>?_))))))))
 refine wl (xP 6 (v0:=.bool (!decide (0=0))) (v:=.bool false) hF (nT (by omega)) fun a hF=>xB 2 [(7,.bool false),(8,pt bb1 1)] hF fun a hF=>wl (xL 9 2 1 (v:=.slice A l.length gc) hF hM fun a w hF hM=>xB 1 [(10,iv (l.length:Int))] hF fun a hF=>wl (xP 11 (v0:=.bool (decide ((l.length:Int)=0))) (v:=.bool true) hF (bT (by omega)) fun a hF=>xB 1 [(12,.bool true)] hF fun a hF=>wpList_nil (hK3 _ _ (xT hF (wp_seq_k fun K4 hK4=>wp_region_lit (xB 1 [(13,.agg #[iv 0,iv 0,iv 0,iv 0,iv 0,iv 0,.bool false])] hF fun a hF=>?_)))))))
 refine wl (xS 3 0 #[iv 0,iv 0,iv 0,iv 0,iv 0,iv 0,.bool false] hF hM fun w hM=>xB 1 [(3,.bool false)] hF fun a hF=>wpList_nil (hK4 _ _ (wp_ret (hR0 _ _ (ret_of hF hM (.cell (i:=3) rfl rfl (v:=.agg #[iv 0,iv 0,iv 0,iv 0,iv 0,iv 0,.bool false]) (by kernel_rfl) (.tmp rfl (.nil))) (⟨rfl,hM.bel⟩))))))
set_option maxHeartbeats 4000000 in
theorem pop_w (cap:Int) (A:Option Addr) (l:List (List Int)) (gc:Nat) (w0:World) (hA:Ro w0 A (flatE pE l)) (hW:WR 7 l) (hgc:l.length ≤ gc) (hnl:A=none → gc=0) (hq:qkE cap l=0) (h:1 ≤ l.length) :
    Calls Tryz.prog 94 #[.agg #[iv cap,.slice A l.length gc]] w0 (RetP w0 (fun s=>.tuple #[.agg #[.int .i64 cap,s],.agg #[.int .i64 (rc l 0 0),.int .i64 (rc l 0 1),.int .i64 (rc l 0 2),.int .i64 (rc l 0 3),.int .i64 (rc l 0 4),.int .i64 (rc l 0 5),.bool (decide (rc l 0 6=1))],.int .i64 0]) l.tail A (flatE pE l)):=by
 have hl:=qk_len hq
 have hp:=qk_oct hq
 have hcq:=(qk_p hq).1
 have hob:=octL_bd hp l.length (Nat.le_refl _)
 refine enterK 29 Tryz.func94 rfl rfl rfl ?_
 intro a hF Q0 hR0 hN0
 have hM:=Mem.start w0
 replace hM:=hM.addOld 1 hA (Nat.le_refl _)
 refine wp_seq_k fun K1 hK1=>wp_region_lit (wl (xN 1 2 (t:=82) (fun b=>.pointer (some ⟨b,0,none⟩)) #[iv cap,.slice A l.length gc] hF hM fun bb1 a w hF hM=>wl (xN 2 3 (t:=82) (fun b=>.pointer (some ⟨b,0,none⟩)) #[iv 0,.slice none 0 0] hF hM fun bb2 a w hF hM=>wl (xN 3 4 (t:=50) (fun b=>.pointer (some ⟨b,0,none⟩)) #[iv 0,iv 0,iv 0,iv 0,iv 0,iv 0,.bool false] hF hM fun bb3 a w hF hM=>xB 1 [(4,iv 0)] hF fun a hF=>wpList_nil (hK1 _ _ (wp_seq_k fun K2 hK2=>wp_seq_k fun K3 hK3=>wp_region_lit (wl (xL 6 2 0 (v:=.agg #[iv cap,.slice A l.length gc]) hF hM fun a w hF hM=>?_))))))))
 refine wl (xM 7 (v:=iv 0) hF hM (xC 69 #[.agg #[iv cap,.slice A l.length gc]] hF (fun w hM=>qChk_w cap A l gc w (hM.ok 1 _ rfl) hW hq)) fun a w hF hM=>xB 1 [(5,iv 0)] hF fun a hF=>wpList_nil (hK3 _ _ (wp_seq_k fun K4 hK4=>wp_region_lit (xB 1 [(8,iv 0)] hF fun a hF=>wl (xP 9 (v0:=.bool (!decide (0=0))) (v:=.bool false) hF (nT (by omega)) fun a hF=>wpList_nil (hK4 _ _ (xF hF (wp_skip ?_))))))))
 refine hK2 _ _ (wp_seq_k fun K5 hK5=>wp_seq_k fun K6 hK6=>wp_region_lit (xB 1 [(13,pt bb1 1)] hF fun a hF=>wl (xL 14 2 1 (v:=.slice A l.length gc) hF hM fun a w hF hM=>xB 1 [(15,iv (l.length:Int))] hF fun a hF=>wl (xP 16 (v0:=.bool (decide ((l.length:Int)=0))) (v:=.bool false) hF (bF (by omega)) fun a hF=>wpList_nil (hK6 _ _ (xF hF (wp_skip ?_)))))))
 refine hK5 _ _ (wp_seq_k fun K7 hK7=>?_)
 replace hM:=hM.roTail (es:=pE) (cap:=gc) 5 1 rfl hW (by omega) hgc
 have:=hp 0 (by omega)
 refine rF (by kernel_rfl) (by kernel_rfl) (fun S a w=>Fr 29 [(1,some (pt bb1 0)),(2,some (pt bb2 0)),(3,some (pt bb3 0)),(4,(cond (S.getD 12 false) (some (iv 0)) (some (iv 0)))),(19,(cond (S.getD 0 false) (some (pt bb1 0)) none)),(20,(cond (S.getD 1 false) (some (iv cap)) none)),(21,(cond (S.getD 2 false) (some (pt bb1 1)) none)),(22,(cond (S.getD 3 false) (some (.slice A l.length gc)) none)),(23,(cond (S.getD 4 false) (some (.slice (advA A 7 gc 1) l.tail.length (gc - 1))) none)),(24,(cond (S.getD 5 false) (some (.agg #[iv cap,.slice (advA A 7 gc 1) l.tail.length (gc - 1)])) none)),(25,(cond (S.getD 6 false) (some (pt bb1 1)) none)),(26,(cond (S.getD 7 false) (some (.slice A l.length gc)) none)),(27,(cond (S.getD 8 false) (some (.pointer (some (ea A (0 * 7))))) none)),(28,(cond (S.getD 9 false) (some (.agg #[iv (rc l 0 0),iv (rc l 0 1),iv (rc l 0 2),iv (rc l 0 3),iv (rc l 0 4),iv (rc l 0 5),.bool (decide (rc l 0 6=1))])) none))] a ∧ Mem w0.heap.size w0 [(1,some (.ro A (flatE pE l))),(2,some (.row bb1 82 #[iv cap,.slice A l.length gc])),(3,(cond (S.getD 10 false) (some (.row bb2 82 #[iv cap,.slice (advA A 7 gc 1) l.tail.length (gc - 1)])) (some (.row bb2 82 #[iv 0,.slice none 0 0])))),(4,(cond (S.getD 11 false) (some (.row bb3 50 #[iv (rc l 0 0),iv (rc l 0 1),iv (rc l 0 2),iv (rc l 0 3),iv (rc l 0 4),iv (rc l 0 5),.bool (decide (rc l 0 6=1))])) (some (.row bb3 50 #[iv 0,iv 0,iv 0,iv 0,iv 0,iv 0,.bool false])))),(5,some (.ro (advA A 7 gc 1) (flatE pE l.tail)))] w) ?_ ?_ ?_
 ·exact ⟨hF.pk,hM.dk⟩
 ·refine stC ?_ (stC ?_ (stC ?_ (stC ?_ (stC ?_ (stC ?_ (stC ?_ (stC ?_ (stC ?_ (stC ?_ (stC ?_ (stC ?_ (stC ?_ (trivial)))))))))))))
  ·intro s0 s1 s2 s3 s4 s5 s6 s7 s8 s9 s10 s11 s12 hc hi hp a w hS
   obtain rfl:s0=false:=hi
   obtain ⟨hF,hM⟩:=hS
   refine xP 19 (v0:=pt bb1 0) (v:=pt bb1 0) hF rfl fun a hF=>⟨hF.rc 4,hM.k⟩
  ·intro s0 s1 s2 s3 s4 s5 s6 s7 s8 s9 s10 s11 s12 hc hi hp a w hS
   obtain rfl:s1=false:=hi
   obtain rfl:s0=true:=hp 0 (by kernel_rfl)
   obtain ⟨hF,hM⟩:=hS
   refine xL 20 2 0 (v:=iv cap) hF hM fun a w hF hM=>⟨hF.rc 5,hM.k⟩
  ·intro s0 s1 s2 s3 s4 s5 s6 s7 s8 s9 s10 s11 s12 hc hi hp a w hS
   obtain rfl:s2=false:=hi
   obtain ⟨hF,hM⟩:=hS
   refine xP 21 (v0:=pt bb1 1) (v:=pt bb1 1) hF rfl fun a hF=>⟨hF.rc 6,hM.k⟩
  ·intro s0 s1 s2 s3 s4 s5 s6 s7 s8 s9 s10 s11 s12 hc hi hp a w hS
   obtain rfl:s3=false:=hi
   obtain rfl:s2=true:=hp 2 (by kernel_rfl)
   obtain ⟨hF,hM⟩:=hS
   refine xL 22 2 1 (v:=.slice A l.length gc) hF hM fun a w hF hM=>⟨hF.rc 7,hM.k⟩
  ·intro s0 s1 s2 s3 s4 s5 s6 s7 s8 s9 s10 s11 s12 hc hi hp a w hS
   obtain rfl:s4=false:=hi
   obtain rfl:s3=true:=hp 3 (by kernel_rfl)
   obtain ⟨hF,hM⟩:=hS
   refine xM 23 (v:=.slice (advA A 7 gc 1) l.tail.length (gc - 1)) hF hM (yld_tail (e:=50) (len:=l.length) (cap:=gc) (size:=7) (A:=A) hF rfl (by kernel_rfl) (by kernel_rfl) (by kernel_rfl) (by kernel_rfl) (by kernel_rfl) (by omega) (List.length_tail ..)) fun a w hF hM=>⟨hF.rc 8,hM.k⟩
  ·intro s0 s1 s2 s3 s4 s5 s6 s7 s8 s9 s10 s11 s12 hc hi hp a w hS
   obtain rfl:s5=false:=hi
   obtain rfl:s4=true:=hp 4 (by kernel_rfl)
   obtain rfl:s1=true:=hp 1 (by kernel_rfl)
   obtain ⟨hF,hM⟩:=hS
   refine xP 24 (v0:=.agg #[iv cap,.slice (advA A 7 gc 1) l.tail.length (gc - 1)]) (v:=.agg #[iv cap,.slice (advA A 7 gc 1) l.tail.length (gc - 1)]) hF rfl fun a hF=>⟨hF.rc 9,hM.k⟩
  ·intro s0 s1 s2 s3 s4 s5 s6 s7 s8 s9 s10 s11 s12 hc hi hp a w hS
   obtain rfl:s6=false:=hi
   obtain ⟨hF,hM⟩:=hS
   refine xP 25 (v0:=pt bb1 1) (v:=pt bb1 1) hF rfl fun a hF=>⟨hF.rc 10,hM.k⟩
  ·intro s0 s1 s2 s3 s4 s5 s6 s7 s8 s9 s10 s11 s12 hc hi hp a w hS
   obtain rfl:s7=false:=hi
   obtain rfl:s6=true:=hp 6 (by kernel_rfl)
   obtain ⟨hF,hM⟩:=hS
   refine xL 26 2 1 (v:=.slice A l.length gc) hF hM fun a w hF hM=>⟨hF.rc 11,hM.k⟩
  ·intro s0 s1 s2 s3 s4 s5 s6 s7 s8 s9 s10 s11 s12 hc hi hp a w hS
   obtain rfl:s8=false:=hi
   obtain rfl:s7=true:=hp 7 (by kernel_rfl)
   obtain ⟨hF,hM⟩:=hS
   refine xM 27 (v:=.pointer (some (ea A (0 * 7)))) hF hM (yld_ix (kd:=.i64) (e:=50) (len:=l.length) (cap:=gc) (i:=0) (size:=7) (A:=A) hF rfl (by kernel_rfl) (by kernel_rfl) (by kernel_rfl) (by kernel_rfl) (by kernel_rfl) (roK 1 rfl) (by omega) (by omega) (by rw [flatE_length (es:=pE) hW,show pE.length=7 from rfl]; (try simp only [List.length_map,List.length_append,List.length_replicate,List.length_set,List.length_cons,List.length_nil,flat2_length,List.length_take]); omega)) fun a w hF hM=>⟨hF.rc 12,hM.k⟩
  ·intro s0 s1 s2 s3 s4 s5 s6 s7 s8 s9 s10 s11 s12 hc hi hp a w hS
   obtain rfl:s9=false:=hi
   obtain rfl:s8=true:=hp 8 (by kernel_rfl)
   obtain ⟨hF,hM⟩:=hS
   refine xM 28 (v:=.agg #[iv (rc l 0 0),iv (rc l 0 1),iv (rc l 0 2),iv (rc l 0 3),iv (rc l 0 4),iv (rc l 0 5),.bool (decide (rc l 0 6=1))]) hF hM (yld_roM (A:=A) (j:=0 * 7) (us:=[iv (rc l 0 0),iv (rc l 0 1),iv (rc l 0 2),iv (rc l 0 3),iv (rc l 0 4),iv (rc l 0 5),.bool (decide (rc l 0 6=1))]) hF rfl (by kernel_rfl) (by kernel_rfl) (roK 1 rfl) (by kernel_rfl) rfl (rcE_sub (es:=pE) (k:=0) (f:=0) (m:=7) hW (by omega) rfl)) fun a w hF hM=>⟨hF.rc 13,hM.k⟩
  ·intro s0 s1 s2 s3 s4 s5 s6 s7 s8 s9 s10 s11 s12 hc hi hp a w hS
   obtain rfl:s10=false:=hi
   obtain rfl:s5=true:=hp 5 (by kernel_rfl)
   obtain ⟨hF,hM⟩:=hS
   refine xS 3 0 #[iv cap,.slice (advA A 7 gc 1) l.tail.length (gc - 1)] hF hM fun w hM=>⟨hF.k,hM.rc 2⟩
  ·intro s0 s1 s2 s3 s4 s5 s6 s7 s8 s9 s10 s11 s12 hc hi hp a w hS
   obtain rfl:s11=false:=hi
   obtain rfl:s9=true:=hp 9 (by kernel_rfl)
   obtain ⟨hF,hM⟩:=hS
   refine xS 4 0 #[iv (rc l 0 0),iv (rc l 0 1),iv (rc l 0 2),iv (rc l 0 3),iv (rc l 0 4),iv (rc l 0 5),.bool (decide (rc l 0 6=1))] hF hM fun w hM=>⟨hF.k,hM.rc 3⟩
  intro s0 s1 s2 s3 s4 s5 s6 s7 s8 s9 s10 s11 s12 hc hi hp a w hS
  obtain rfl:s12=false:=hi
  obtain ⟨hF,hM⟩:=hS
  refine xP 4 (v0:=iv 0) (v:=iv 0) hF rfl fun a hF=>⟨hF.rc 3,hM.k⟩
 intro a w hS
 obtain ⟨hF,hM⟩:=hS
 replace hF:Fr 29 [(1,some (pt bb1 0)),(2,some (pt bb2 0)),(3,some (pt bb3 0)),(4,some (iv 0)),(19,some (pt bb1 0)),(20,some (iv cap)),(21,some (pt bb1 1)),(22,some (.slice A l.length gc)),(23,some (.slice (advA A 7 gc 1) l.tail.length (gc - 1))),(24,some (.agg #[iv cap,.slice (advA A 7 gc 1) l.tail.length (gc - 1)])),(25,some (pt bb1 1)),(26,some (.slice A l.length gc)),(27,some (.pointer (some (ea A (0 * 7))))),(28,some (.agg #[iv (rc l 0 0),iv (rc l 0 1),iv (rc l 0 2),iv (rc l 0 3),iv (rc l 0 4),iv (rc l 0 5),.bool (decide (rc l 0 6=1))]))] a:=hF.cast (by kernel_rfl)
 replace hM:Mem w0.heap.size w0 [(1,some (.ro A (flatE pE l))),(2,some (.row bb1 82 #[iv cap,.slice A l.length gc])),(3,some (.row bb2 82 #[iv cap,.slice (advA A 7 gc 1) l.tail.length (gc - 1)])),(4,some (.row bb3 50 #[iv (rc l 0 0),iv (rc l 0 1),iv (rc l 0 2),iv (rc l 0 3),iv (rc l 0 4),iv (rc l 0 5),.bool (decide (rc l 0 6=1))])),(5,some (.ro (advA A 7 gc 1) (flatE pE l.tail)))] w:=hM.cast (by kernel_rfl)
 refine hK7 _ _ (wp_ret (hR0 _ _ (ret_of hF hM (.cell (i:=3) rfl rfl (v:=.agg #[iv cap,.slice (advA A 7 gc 1) l.tail.length (gc - 1)]) (by kernel_rfl) (.cell (i:=4) rfl rfl (v:=.agg #[iv (rc l 0 0),iv (rc l 0 1),iv (rc l 0 2),iv (rc l 0 3),iv (rc l 0 4),iv (rc l 0 5),.bool (decide (rc l 0 6=1))]) (by kernel_rfl) (.tmp rfl (.nil)))) (⟨_,_,rfl,⟨WR.tl hW,(by rw [List.length_tail]; have:=hgc; omega),hM.ok 5 _ rfl,fun h0=>?_⟩,fun b hb=>.inl ?_,hM.bel⟩))))
 ·have:=hnl (by cases A with | none=>rfl | some p=>(unfold advA at h0; split at h0 <;> cases h0)); omega
 obtain ⟨x,r,e⟩:=flatE_pos (es:=pE) hW (by decide) h; rw [e]; exact advA_blk.symm.trans (Ent.blk_ro hb)
set_option maxHeartbeats 4000000 in
theorem return_w (cap:Int) (A:Option Addr) (l:List (List Int)) (gc:Nat) (y0 y1 y2 y3 y4 y5:Int) (w0:World) (hA:Ro w0 A (flatE pE l)) (hW:WR 7 l) (hgc:l.length ≤ gc) (hnl:A=none → gc=0) (hq:qkE cap l=0) (hy:ckP y0 y1 y2 y3 y4 y5 1=0) (hr:1 ≤ l.length → rc l 0 6 ≠ 1) :
    Calls Tryz.prog 72 #[.agg #[iv cap,.slice A l.length gc],.agg #[iv y0,iv y1,iv y2,iv y3,iv y4,iv y5,.bool true]] w0 (RetP w0 (fun s=>.tuple #[.agg #[.int .i64 cap,s],.int .i64 0]) ([[y0,y1,y2,y3,y4,y5,1]] ++ l) A (flatE pE l)):=by
 have hl:=qk_len hq
 have hp:=qk_oct hq
 have hcq:=(qk_p hq).1
 have hob:=octL_bd hp l.length (Nat.le_refl _)
 refine enterK 48 Tryz.func72 rfl rfl rfl ?_
 intro a hF Q0 hR0 hN0
 have hM:=Mem.start w0
 replace hM:=hM.addOld 1 hA (Nat.le_refl _)
 refine wp_seq_k fun K1 hK1=>wp_region_lit (wl (xN 2 2 (t:=82) (fun b=>.pointer (some ⟨b,0,none⟩)) #[iv cap,.slice A l.length gc] hF hM fun bb1 a w hF hM=>wl (xN 3 3 (t:=50) (fun b=>.pointer (some ⟨b,0,none⟩)) #[iv y0,iv y1,iv y2,iv y3,iv y4,iv y5,.bool true] hF hM fun bb2 a w hF hM=>wl (xN 4 4 (t:=82) (fun b=>.pointer (some ⟨b,0,none⟩)) #[iv 0,.slice none 0 0] hF hM fun bb3 a w hF hM=>xB 1 [(5,iv 0)] hF fun a hF=>wpList_nil (hK1 _ _ (wp_seq_k fun K2 hK2=>wp_seq_k fun K3 hK3=>wp_region_lit (wl (xL 9 2 0 (v:=.agg #[iv cap,.slice A l.length gc]) hF hM fun a w hF hM=>?_))))))))
 refine wl (xM 10 (v:=iv 0) hF hM (xC 69 #[.agg #[iv cap,.slice A l.length gc]] hF (fun w hM=>qChk_w cap A l gc w (hM.ok 1 _ rfl) hW hq)) fun a w hF hM=>xB 1 [(6,iv 0)] hF fun a hF=>wpList_nil (hK3 _ _ (wp_seq_k fun K4 hK4=>wp_region_lit (xB 1 [(11,iv 0)] hF fun a hF=>wl (xP 12 (v0:=.bool (!decide (0=0))) (v:=.bool false) hF (nT (by omega)) fun a hF=>wpList_nil (hK4 _ _ (xF hF (wp_skip ?_))))))))
 refine hK2 _ _ (wp_seq_k fun K5 hK5=>wp_seq_k fun K6 hK6=>wp_region_lit (wl (xL 15 3 0 (v:=.agg #[iv y0,iv y1,iv y2,iv y3,iv y4,iv y5,.bool true]) hF hM fun a w hF hM=>wl (xM 16 (v:=iv 0) hF hM (xC 67 #[.agg #[iv y0,iv y1,iv y2,iv y3,iv y4,iv y5,.bool true]] hF (fun w hM=>by have:=ckPart_w y0 y1 y2 y3 y4 y5 1 w; rw [hy] at this; exact this)) fun a w hF hM=>xB 1 [(7,iv 0)] hF fun a hF=>wpList_nil (hK6 _ _ (wp_seq_k fun K7 hK7=>wp_region_lit (xB 1 [(17,iv 0)] hF fun a hF=>?_)))))))
 refine wl (xP 18 (v0:=.bool (!decide (0=0))) (v:=.bool false) hF (nT (by omega)) fun a hF=>wpList_nil (hK7 _ _ (xF hF (wp_skip (hK5 _ _ (wp_seq_k fun K8 hK8=>wp_seq_k fun K9 hK9=>?_))))))
 by_cases hz1:0 < (l.length:Int)
 ·refine wp_region_lit (xB 1 [(21,pt bb2 6)] hF fun a hF=>wl (xL 22 3 6 (v:=.bool true) hF hM fun a w hF hM=>xB 3 [(23,.bool false),(24,.bool false),(25,pt bb1 1)] hF fun a hF=>wl (xL 26 2 1 (v:=.slice A l.length gc) hF hM fun a w hF hM=>xB 1 [(27,iv (l.length:Int))] hF fun a hF=>wl (xP 28 (v0:=.bool (decide (0 < (l.length:Int)))) (v:=.bool true) hF (bT hz1) fun a hF=>xB 2 [(29,.bool true),(30,pt bb1 1)] hF fun a hF=>wl (xL 31 2 1 (v:=.slice A l.length gc) hF hM fun a w hF hM=>wl (xM 32 (v:=.pointer (some (ea A (0 * 7)))) hF hM (yld_ix (kd:=.i64) (e:=50) (len:=l.length) (cap:=gc) (i:=0) (size:=7) (A:=A) hF rfl (by kernel_rfl) (by kernel_rfl) (by kernel_rfl) (by kernel_rfl) (by kernel_rfl) (roK 1 rfl) (by omega) (by omega) (by rw [flatE_length (es:=pE) hW,show pE.length=7 from rfl]; (try simp only [List.length_map,List.length_append,List.length_replicate,List.length_set,List.length_cons,List.length_nil,flat2_length,List.length_take]); omega)) fun a w hF hM=>xB 1 [(33,.pointer (some (ea A (0 * 7 + 6))))] hF fun a hF=>wl (xM 34 (v:=.bool (decide (rc l 0 6=1))) hF hM (yld_ro1 (A:=A) (j:=0 * 7 + 6) hF rfl (by kernel_rfl) (by kernel_rfl) (roK 1 rfl) (by kernel_rfl) (rcE_at (es:=pE) (k:=0) (i:=6) hW (by omega) rfl)) fun a w hF hM=>?_)))))))
  have:=hp 0 (by omega)
  refine xB 2 [(35,.bool (decide (rc l 0 6=1))),(36,.bool (decide (rc l 0 6=1)))] hF fun a hF=>wpList_nil (hK9 _ _ ?_)
  by_cases hz2:rc l 0 6=1
  ·exact absurd (by assumption) (hr (by omega))
  replace hF:=hF.c hF (i:=34) (v:=.bool false) rfl (bF hz2)
  replace hF:=hF.c hF (i:=35) (v:=.bool false) rfl (bF hz2)
  replace hF:=hF.c hF (i:=36) (v:=.bool false) rfl (bF hz2)
  refine xF hF (wp_skip (hK8 _ _ (wp_seq_k fun K10 hK10=>wp_region_lit (wl (xL 38 3 0 (v:=.agg #[iv y0,iv y1,iv y2,iv y3,iv y4,iv y5,.bool true]) hF hM fun a w hF hM=>wl (xN 39 5 (t:=50) (fun b=>.slice (some ⟨b,0,none⟩) 1 1) #[iv y0,iv y1,iv y2,iv y3,iv y4,iv y5,.bool true] hF hM fun bb4 a w hF hM=>xB 1 [(8,.slice (some ⟨bb4,0,none⟩) 1 1)] hF fun a hF=>wpList_nil (hK10 _ _ (wp_seq_k fun K11 hK11=>?_))))))))
  refine rF (by kernel_rfl) (by kernel_rfl) (fun S a w=>∃ AA5:Option Addr,∃ cc5:Nat,Fr 48 [(2,some (pt bb1 0)),(4,some (pt bb3 0)),(5,(cond (S.getD 9 false) (some (iv 0)) (some (iv 0)))),(8,some (.slice (some ⟨bb4,0,none⟩) 1 1)),(40,(cond (S.getD 0 false) (some (pt bb1 0)) none)),(41,(cond (S.getD 1 false) (some (iv cap)) none)),(42,(cond (S.getD 2 false) (some (.slice (some ⟨bb4,0,none⟩) 1 1)) none)),(43,(cond (S.getD 3 false) (some (.slice (some ⟨bb4,0,none⟩) 1 1)) none)),(44,(cond (S.getD 4 false) (some (pt bb1 1)) none)),(45,(cond (S.getD 5 false) (some (.slice A l.length gc)) none)),(46,(cond (S.getD 6 false) (some (.slice AA5 (1 + l.length) cc5)) none)),(47,(cond (S.getD 7 false) (some (.agg #[iv cap,.slice AA5 (1 + l.length) cc5])) none))] a ∧ Mem w0.heap.size w0 [(1,some (.ro A (flatE pE l))),(2,some (.row bb1 82 #[iv cap,.slice A l.length gc])),(4,(cond (S.getD 8 false) (some (.row bb3 82 #[iv cap,.slice AA5 (1 + l.length) cc5])) (some (.row bb3 82 #[iv 0,.slice none 0 0])))),(5,(cond (S.getD 6 false) (some (.own (.slice AA5 (1 + l.length) cc5) 50 7 (1 + l.length) (flatE pE (([[y0,y1,y2,y3,y4,y5,1]]:List (List Int)) ++ l)))) (some (.row bb4 50 #[iv y0,iv y1,iv y2,iv y3,iv y4,iv y5,.bool true]))))] w) ?_ ?_ ?_
  ·exact ⟨none,0,hF.pk,hM.dk⟩
  ·refine stC ?_ (stC ?_ (stC ?_ (stC ?_ (stC ?_ (stC ?_ (stC ?_ (stC ?_ (stC ?_ (stC ?_ (trivial))))))))))
   ·intro s0 s1 s2 s3 s4 s5 s6 s7 s8 s9 hc hi hp a w hS
    obtain rfl:s0=false:=hi
    obtain ⟨AA5,cc5,hF,hM⟩:=hS
    refine xP 40 (v0:=pt bb1 0) (v:=pt bb1 0) hF rfl fun a hF=>⟨AA5,cc5,hF.rc 4,hM.k⟩
   ·intro s0 s1 s2 s3 s4 s5 s6 s7 s8 s9 hc hi hp a w hS
    obtain rfl:s1=false:=hi
    obtain rfl:s0=true:=hp 0 (by kernel_rfl)
    obtain ⟨AA5,cc5,hF,hM⟩:=hS
    refine xL 41 2 0 (v:=iv cap) hF hM fun a w hF hM=>⟨AA5,cc5,hF.rc 5,hM.k⟩
   ·intro s0 s1 s2 s3 s4 s5 s6 s7 s8 s9 hc hi hp a w hS
    obtain rfl:s2=false:=hi
    obtain rfl:s3=false:=hc.f 3 2 (by kernel_rfl) rfl
    obtain rfl:s6=false:=hc.f 6 3 (by kernel_rfl) rfl
    obtain ⟨AA5,cc5,hF,hM⟩:=hS
    refine xP 42 (v0:=.slice (some ⟨bb4,0,none⟩) 1 1) (v:=.slice (some ⟨bb4,0,none⟩) 1 1) hF rfl fun a hF=>⟨AA5,cc5,hF.rc 6,hM.k⟩
   ·intro s0 s1 s2 s3 s4 s5 s6 s7 s8 s9 hc hi hp a w hS
    obtain rfl:s3=false:=hi
    obtain rfl:s2=true:=hp 2 (by kernel_rfl)
    obtain rfl:s6=false:=hc.f 6 3 (by kernel_rfl) rfl
    obtain ⟨AA5,cc5,hF,hM⟩:=hS
    refine xM 43 (v:=.slice (some ⟨bb4,0,none⟩) 1 1) hF hM (yld_slice3 (e:=50) (len:=1) (cap:=1) (m:=1) (c:=1) (A:=(some ⟨bb4,0,none⟩)) (i:=1) (j:=1) hF rfl (by kernel_rfl) (by kernel_rfl) (by kernel_rfl) (by kernel_rfl) (by kernel_rfl) (by kernel_rfl) rfl rfl (Nat.le_refl _) (Nat.le_refl _)) fun a w hF hM=>⟨AA5,cc5,hF.rc 7,hM.k⟩
   ·intro s0 s1 s2 s3 s4 s5 s6 s7 s8 s9 hc hi hp a w hS
    obtain rfl:s4=false:=hi
    obtain ⟨AA5,cc5,hF,hM⟩:=hS
    refine xP 44 (v0:=pt bb1 1) (v:=pt bb1 1) hF rfl fun a hF=>⟨AA5,cc5,hF.rc 8,hM.k⟩
   ·intro s0 s1 s2 s3 s4 s5 s6 s7 s8 s9 hc hi hp a w hS
    obtain rfl:s5=false:=hi
    obtain rfl:s4=true:=hp 4 (by kernel_rfl)
    obtain ⟨AA5,cc5,hF,hM⟩:=hS
    refine xL 45 2 1 (v:=.slice A l.length gc) hF hM fun a w hF hM=>⟨AA5,cc5,hF.rc 9,hM.k⟩
   ·intro s0 s1 s2 s3 s4 s5 s6 s7 s8 s9 hc hi hp a w hS
    obtain rfl:s6=false:=hi
    obtain rfl:s5=true:=hp 5 (by kernel_rfl)
    obtain rfl:s3=true:=hp 3 (by kernel_rfl)
    obtain rfl:s7=false:=hc.f 7 6 (by kernel_rfl) rfl
    obtain rfl:s8=false:=hc.f 8 6 (by kernel_rfl) rfl
    obtain ⟨AA5,cc5,hF,hM⟩:=hS
    refine sAppR 46 5 (e:=50) (size:=7) (bytes:=56) (z:=.agg #[iv 0,iv 0,iv 0,iv 0,iv 0,iv 0,.bool false]) (m:=l.length) (c:=gc) (l:=1) (news:=(flatE pE l)) (flatE pE (([[y0,y1,y2,y3,y4,y5,1]]:List (List Int)) ++ l)) hF hM (by kernel_rfl) rfl (by kernel_rfl) (by kernel_rfl) (by kernel_rfl) rfl rfl rfl rfl (flatE_length (es:=pE) hW) (roK 1 rfl) (flatE_one pE_one _) (by omega) (by decide) (flatE_append pE ([[y0,y1,y2,y3,y4,y5,1]]:List (List Int)) l).symm (fun h=>⟨ro_nil (es:=pE) (hM.ok 1 _ rfl) hW (by decide) h,hnl h⟩) fun AA5 cc5 a w hF hM=>⟨AA5,cc5,hF.rc 10,hM.rc 3⟩
   ·intro s0 s1 s2 s3 s4 s5 s6 s7 s8 s9 hc hi hp a w hS
    obtain rfl:s7=false:=hi
    obtain rfl:s6=true:=hp 6 (by kernel_rfl)
    obtain rfl:s1=true:=hp 1 (by kernel_rfl)
    obtain ⟨AA5,cc5,hF,hM⟩:=hS
    refine xP 47 (v0:=.agg #[iv cap,.slice AA5 (1 + l.length) cc5]) (v:=.agg #[iv cap,.slice AA5 (1 + l.length) cc5]) hF rfl fun a hF=>⟨AA5,cc5,hF.rc 11,hM.k⟩
   ·intro s0 s1 s2 s3 s4 s5 s6 s7 s8 s9 hc hi hp a w hS
    obtain rfl:s8=false:=hi
    obtain rfl:s7=true:=hp 7 (by kernel_rfl)
    obtain rfl:s6=true:=hp 6 (by kernel_rfl)
    obtain ⟨AA5,cc5,hF,hM⟩:=hS
    refine xS 4 0 #[iv cap,.slice AA5 (1 + l.length) cc5] hF hM fun w hM=>⟨AA5,cc5,hF.k,hM.rc 2⟩
   intro s0 s1 s2 s3 s4 s5 s6 s7 s8 s9 hc hi hp a w hS
   obtain rfl:s9=false:=hi
   obtain ⟨AA5,cc5,hF,hM⟩:=hS
   refine xP 5 (v0:=iv 0) (v:=iv 0) hF rfl fun a hF=>⟨AA5,cc5,hF.rc 2,hM.k⟩
  intro a w hS
  obtain ⟨AA5,cc5,hF,hM⟩:=hS
  replace hF:Fr 48 [(2,some (pt bb1 0)),(4,some (pt bb3 0)),(5,some (iv 0)),(8,some (.slice (some ⟨bb4,0,none⟩) 1 1)),(40,some (pt bb1 0)),(41,some (iv cap)),(42,some (.slice (some ⟨bb4,0,none⟩) 1 1)),(43,some (.slice (some ⟨bb4,0,none⟩) 1 1)),(44,some (pt bb1 1)),(45,some (.slice A l.length gc)),(46,some (.slice AA5 (1 + l.length) cc5)),(47,some (.agg #[iv cap,.slice AA5 (1 + l.length) cc5]))] a:=hF.cast (by kernel_rfl)
  replace hM:Mem w0.heap.size w0 [(1,some (.ro A (flatE pE l))),(2,some (.row bb1 82 #[iv cap,.slice A l.length gc])),(4,some (.row bb3 82 #[iv cap,.slice AA5 (1 + l.length) cc5])),(5,some (.own (.slice AA5 (1 + l.length) cc5) 50 7 (1 + l.length) (flatE pE (([[y0,y1,y2,y3,y4,y5,1]]:List (List Int)) ++ l))))] w:=hM.cast (by kernel_rfl)
  refine hK11 _ _ (wp_ret (hR0 _ _ (ret_of hF hM (.cell (i:=4) rfl rfl (v:=.agg #[iv cap,.slice AA5 (1 + l.length) cc5]) (by kernel_rfl) (.tmp rfl (.nil))) (retP_own (mk:=(fun s=>.tuple #[.agg #[.int .i64 cap,s],.int .i64 0])) (l:=[[y0,y1,y2,y3,y4,y5,1]] ++ l) (k:=5) hM rfl (WR.app (by unfold WR; simp) hW) (by rw [List.length_append]; first | rfl | (simp; done) | (simp; omega))))))
 refine wp_region_lit (xB 1 [(21,pt bb2 6)] hF fun a hF=>wl (xL 22 3 6 (v:=.bool true) hF hM fun a w hF hM=>xB 3 [(23,.bool false),(24,.bool false),(25,pt bb1 1)] hF fun a hF=>wl (xL 26 2 1 (v:=.slice A l.length gc) hF hM fun a w hF hM=>xB 1 [(27,iv (l.length:Int))] hF fun a hF=>wl (xP 28 (v0:=.bool (decide (0 < (l.length:Int)))) (v:=.bool false) hF (bF hz1) fun a hF=>xB 8 [(29,.bool false),(30,undef),(31,undef),(32,undef),(33,undef),(34,undef),(35,.bool false),(36,.bool false)] hF fun a hF=>wpList_nil (hK9 _ _ (xF hF (wp_skip ?_)))))))
 refine hK8 _ _ (wp_seq_k fun K12 hK12=>wp_region_lit (wl (xL 38 3 0 (v:=.agg #[iv y0,iv y1,iv y2,iv y3,iv y4,iv y5,.bool true]) hF hM fun a w hF hM=>wl (xN 39 6 (t:=50) (fun b=>.slice (some ⟨b,0,none⟩) 1 1) #[iv y0,iv y1,iv y2,iv y3,iv y4,iv y5,.bool true] hF hM fun bb6 a w hF hM=>xB 1 [(8,.slice (some ⟨bb6,0,none⟩) 1 1)] hF fun a hF=>wpList_nil (hK12 _ _ (wp_seq_k fun K13 hK13=>rF (by kernel_rfl) (by kernel_rfl) (fun S a w=>∃ AA7:Option Addr,∃ cc7:Nat,Fr 48 [(2,some (pt bb1 0)),(4,some (pt bb3 0)),(5,(cond (S.getD 9 false) (some (iv 0)) (some (iv 0)))),(8,some (.slice (some ⟨bb6,0,none⟩) 1 1)),(40,(cond (S.getD 0 false) (some (pt bb1 0)) none)),(41,(cond (S.getD 1 false) (some (iv cap)) none)),(42,(cond (S.getD 2 false) (some (.slice (some ⟨bb6,0,none⟩) 1 1)) none)),(43,(cond (S.getD 3 false) (some (.slice (some ⟨bb6,0,none⟩) 1 1)) none)),(44,(cond (S.getD 4 false) (some (pt bb1 1)) none)),(45,(cond (S.getD 5 false) (some (.slice A l.length gc)) none)),(46,(cond (S.getD 6 false) (some (.slice AA7 (1 + l.length) cc7)) none)),(47,(cond (S.getD 7 false) (some (.agg #[iv cap,.slice AA7 (1 + l.length) cc7])) none))] a ∧ Mem w0.heap.size w0 [(1,some (.ro A (flatE pE l))),(2,some (.row bb1 82 #[iv cap,.slice A l.length gc])),(4,(cond (S.getD 8 false) (some (.row bb3 82 #[iv cap,.slice AA7 (1 + l.length) cc7])) (some (.row bb3 82 #[iv 0,.slice none 0 0])))),(6,(cond (S.getD 6 false) (some (.own (.slice AA7 (1 + l.length) cc7) 50 7 (1 + l.length) (flatE pE (([[y0,y1,y2,y3,y4,y5,1]]:List (List Int)) ++ l)))) (some (.row bb6 50 #[iv y0,iv y1,iv y2,iv y3,iv y4,iv y5,.bool true]))))] w) ?_ ?_ ?_))))))
 ·exact ⟨none,0,hF.pk,hM.dk⟩
 ·refine stC ?_ (stC ?_ (stC ?_ (stC ?_ (stC ?_ (stC ?_ (stC ?_ (stC ?_ (stC ?_ (stC ?_ (trivial))))))))))
  ·intro s0 s1 s2 s3 s4 s5 s6 s7 s8 s9 hc hi hp a w hS
   obtain rfl:s0=false:=hi
   obtain ⟨AA7,cc7,hF,hM⟩:=hS
   refine xP 40 (v0:=pt bb1 0) (v:=pt bb1 0) hF rfl fun a hF=>⟨AA7,cc7,hF.rc 4,hM.k⟩
  ·intro s0 s1 s2 s3 s4 s5 s6 s7 s8 s9 hc hi hp a w hS
   obtain rfl:s1=false:=hi
   obtain rfl:s0=true:=hp 0 (by kernel_rfl)
   obtain ⟨AA7,cc7,hF,hM⟩:=hS
   refine xL 41 2 0 (v:=iv cap) hF hM fun a w hF hM=>⟨AA7,cc7,hF.rc 5,hM.k⟩
  ·intro s0 s1 s2 s3 s4 s5 s6 s7 s8 s9 hc hi hp a w hS
   obtain rfl:s2=false:=hi
   obtain rfl:s3=false:=hc.f 3 2 (by kernel_rfl) rfl
   obtain rfl:s6=false:=hc.f 6 3 (by kernel_rfl) rfl
   obtain ⟨AA7,cc7,hF,hM⟩:=hS
   refine xP 42 (v0:=.slice (some ⟨bb6,0,none⟩) 1 1) (v:=.slice (some ⟨bb6,0,none⟩) 1 1) hF rfl fun a hF=>⟨AA7,cc7,hF.rc 6,hM.k⟩
  ·intro s0 s1 s2 s3 s4 s5 s6 s7 s8 s9 hc hi hp a w hS
   obtain rfl:s3=false:=hi
   obtain rfl:s2=true:=hp 2 (by kernel_rfl)
   obtain rfl:s6=false:=hc.f 6 3 (by kernel_rfl) rfl
   obtain ⟨AA7,cc7,hF,hM⟩:=hS
   refine xM 43 (v:=.slice (some ⟨bb6,0,none⟩) 1 1) hF hM (yld_slice3 (e:=50) (len:=1) (cap:=1) (m:=1) (c:=1) (A:=(some ⟨bb6,0,none⟩)) (i:=1) (j:=1) hF rfl (by kernel_rfl) (by kernel_rfl) (by kernel_rfl) (by kernel_rfl) (by kernel_rfl) (by kernel_rfl) rfl rfl (Nat.le_refl _) (Nat.le_refl _)) fun a w hF hM=>⟨AA7,cc7,hF.rc 7,hM.k⟩
  ·intro s0 s1 s2 s3 s4 s5 s6 s7 s8 s9 hc hi hp a w hS
   obtain rfl:s4=false:=hi
   obtain ⟨AA7,cc7,hF,hM⟩:=hS
   refine xP 44 (v0:=pt bb1 1) (v:=pt bb1 1) hF rfl fun a hF=>⟨AA7,cc7,hF.rc 8,hM.k⟩
  ·intro s0 s1 s2 s3 s4 s5 s6 s7 s8 s9 hc hi hp a w hS
   obtain rfl:s5=false:=hi
   obtain rfl:s4=true:=hp 4 (by kernel_rfl)
   obtain ⟨AA7,cc7,hF,hM⟩:=hS
   refine xL 45 2 1 (v:=.slice A l.length gc) hF hM fun a w hF hM=>⟨AA7,cc7,hF.rc 9,hM.k⟩
  ·intro s0 s1 s2 s3 s4 s5 s6 s7 s8 s9 hc hi hp a w hS
   obtain rfl:s6=false:=hi
   obtain rfl:s5=true:=hp 5 (by kernel_rfl)
   obtain rfl:s3=true:=hp 3 (by kernel_rfl)
   obtain rfl:s7=false:=hc.f 7 6 (by kernel_rfl) rfl
   obtain rfl:s8=false:=hc.f 8 6 (by kernel_rfl) rfl
   obtain ⟨AA7,cc7,hF,hM⟩:=hS
   refine sAppR 46 6 (e:=50) (size:=7) (bytes:=56) (z:=.agg #[iv 0,iv 0,iv 0,iv 0,iv 0,iv 0,.bool false]) (m:=l.length) (c:=gc) (l:=1) (news:=(flatE pE l)) (flatE pE (([[y0,y1,y2,y3,y4,y5,1]]:List (List Int)) ++ l)) hF hM (by kernel_rfl) rfl (by kernel_rfl) (by kernel_rfl) (by kernel_rfl) rfl rfl rfl rfl (flatE_length (es:=pE) hW) (roK 1 rfl) (flatE_one pE_one _) (by omega) (by decide) (flatE_append pE ([[y0,y1,y2,y3,y4,y5,1]]:List (List Int)) l).symm (fun h=>⟨ro_nil (es:=pE) (hM.ok 1 _ rfl) hW (by decide) h,hnl h⟩) fun AA7 cc7 a w hF hM=>⟨AA7,cc7,hF.rc 10,hM.rc 3⟩
  ·intro s0 s1 s2 s3 s4 s5 s6 s7 s8 s9 hc hi hp a w hS
   obtain rfl:s7=false:=hi
   obtain rfl:s6=true:=hp 6 (by kernel_rfl)
   obtain rfl:s1=true:=hp 1 (by kernel_rfl)
   obtain ⟨AA7,cc7,hF,hM⟩:=hS
   refine xP 47 (v0:=.agg #[iv cap,.slice AA7 (1 + l.length) cc7]) (v:=.agg #[iv cap,.slice AA7 (1 + l.length) cc7]) hF rfl fun a hF=>⟨AA7,cc7,hF.rc 11,hM.k⟩
  ·intro s0 s1 s2 s3 s4 s5 s6 s7 s8 s9 hc hi hp a w hS
   obtain rfl:s8=false:=hi
   obtain rfl:s7=true:=hp 7 (by kernel_rfl)
   obtain rfl:s6=true:=hp 6 (by kernel_rfl)
   obtain ⟨AA7,cc7,hF,hM⟩:=hS
   refine xS 4 0 #[iv cap,.slice AA7 (1 + l.length) cc7] hF hM fun w hM=>⟨AA7,cc7,hF.k,hM.rc 2⟩
  intro s0 s1 s2 s3 s4 s5 s6 s7 s8 s9 hc hi hp a w hS
  obtain rfl:s9=false:=hi
  obtain ⟨AA7,cc7,hF,hM⟩:=hS
  refine xP 5 (v0:=iv 0) (v:=iv 0) hF rfl fun a hF=>⟨AA7,cc7,hF.rc 2,hM.k⟩
 intro a w hS
 obtain ⟨AA7,cc7,hF,hM⟩:=hS
 replace hF:Fr 48 [(2,some (pt bb1 0)),(4,some (pt bb3 0)),(5,some (iv 0)),(8,some (.slice (some ⟨bb6,0,none⟩) 1 1)),(40,some (pt bb1 0)),(41,some (iv cap)),(42,some (.slice (some ⟨bb6,0,none⟩) 1 1)),(43,some (.slice (some ⟨bb6,0,none⟩) 1 1)),(44,some (pt bb1 1)),(45,some (.slice A l.length gc)),(46,some (.slice AA7 (1 + l.length) cc7)),(47,some (.agg #[iv cap,.slice AA7 (1 + l.length) cc7]))] a:=hF.cast (by kernel_rfl)
 replace hM:Mem w0.heap.size w0 [(1,some (.ro A (flatE pE l))),(2,some (.row bb1 82 #[iv cap,.slice A l.length gc])),(4,some (.row bb3 82 #[iv cap,.slice AA7 (1 + l.length) cc7])),(6,some (.own (.slice AA7 (1 + l.length) cc7) 50 7 (1 + l.length) (flatE pE (([[y0,y1,y2,y3,y4,y5,1]]:List (List Int)) ++ l))))] w:=hM.cast (by kernel_rfl)
 refine hK13 _ _ (wp_ret (hR0 _ _ (ret_of hF hM (.cell (i:=4) rfl rfl (v:=.agg #[iv cap,.slice AA7 (1 + l.length) cc7]) (by kernel_rfl) (.tmp rfl (.nil))) (retP_own (mk:=(fun s=>.tuple #[.agg #[.int .i64 cap,s],.int .i64 0])) (l:=[[y0,y1,y2,y3,y4,y5,1]] ++ l) (k:=6) hM rfl (WR.app (by unfold WR; simp) hW) (by rw [List.length_append]; first | rfl | (simp; done) | (simp; omega))))))
theorem qNew_w (c:Int) (w0:World) (h:0 ≤ c ∧ c ≤ 65536) :
    Calls Tryz.prog 27 #[iv c] w0 (Ret w0 (.tuple #[.agg #[.int .i64 c,.slice none 0 0],.int .i64 0])):=by
 refine enterK 10 Tryz.func27 rfl rfl rfl ?_
 intro a hF Q0 hR0 hN0
 have hM:=Mem.start w0
 refine wp_seq_k fun K1 hK1=>wp_region_lit (wl (xN 2 1 (t:=82) (fun b=>.pointer (some ⟨b,0,none⟩)) #[iv 0,.slice none 0 0] hF hM fun bb1 a w hF hM=>xB 1 [(3,iv 0)] hF fun a hF=>wpList_nil (hK1 _ _ (wp_seq_k fun K2 hK2=>wp_seq_k fun K3 hK3=>wp_region_lit (xB 1 [(4,iv c)] hF fun a hF=>wl (xM 5 (v:=.bool true) hF hM (xC 45 #[iv c,iv 0,iv 65536] hF (fun w hM=>within_yes c 0 65536 w (by omega) (by omega))) fun a w hF hM=>xB 1 [(6,.bool false)] hF fun a hF=>?_))))))
 refine wpList_nil (hK3 _ _ (xF hF (wp_skip (hK2 _ _ (wp_seq_k fun K4 hK4=>wp_region_lit (xB 2 [(8,iv c),(9,.agg #[iv c,.slice none 0 0])] hF fun a hF=>wl (xS 1 0 #[iv c,.slice none 0 0] hF hM fun w hM=>xB 1 [(3,iv 0)] hF fun a hF=>wpList_nil (hK4 _ _ ?_))))))))
 refine wp_ret (hR0 _ _ (ret_of hF hM (.cell (i:=1) rfl rfl (v:=.agg #[iv c,.slice none 0 0]) (by kernel_rfl) (.tmp rfl (.nil))) (⟨rfl,hM.bel⟩)))
end Go.Proofs.YtlngflbamkgjlaaGreat
namespace Go.Proofs.YtlngflbamkgjlaaGreat
open Go.RowKit
set_option linter.unusedVariables false
section
variable {P:Program} {a:Act} {w:World} {Q:Exit → Act → World → Prop}
theorem wp_scope_k {G:Type} {c rest:Code} (l:Nat) (I:G → Act → World → Prop) (μ:G → Nat) (hf:findLabel c l=some rest)
    (first:∀ K:Act → World → Prop,(∀ g a w,I g a w → K a w) → c.wp P (Exit.jump l K Q) a w)
    (pass:∀ g a w,I g a w → ∀ K:Act → World → Prop,(∀ g' a' w',I g' a' w' → μ g' < μ g → K a' w') → rest.wp P (Exit.jump l K Q) a w):(Code.scope c).wp P Q a w:=by
  classical
  let m:Act → World → Nat:=fun a w=>if h:∃ n,∃ g,I g a w ∧ μ g=n then Classical.choose (least_of (p:=fun n=>∃ g,I g a w ∧ μ g=n) _ (Classical.choose_spec h)) else 0
  have hm:∀ a w g,I g a w → (∃ g',I g' a w ∧ μ g'=m a w) ∧ m a w ≤ μ g:=fun a w g hg=>by
    have hex:∃ n,∃ g,I g a w ∧ μ g=n:=⟨_,g,hg,rfl⟩
    have hs:=Classical.choose_spec (least_of (p:=fun n=>∃ g,I g a w ∧ μ g=n) _ (Classical.choose_spec hex))
    have e:m a w=Classical.choose (least_of (p:=fun n=>∃ g,I g a w ∧ μ g=n) _ (Classical.choose_spec hex)):=dif_pos hex
    rw [e]
    exact ⟨hs.1,hs.2 _ ⟨g,hg,rfl⟩⟩
  refine wp_scope_jumps l (fun a w=>∃ g,I g a w) m hf (first _ fun g a w hg=>⟨g,hg⟩) fun a w ⟨g0,hg0⟩=>?_
  obtain ⟨⟨g,hg,e⟩,_⟩:=hm a w g0 hg0
  refine pass g a w hg _ fun g' a' w' hg' hlt=>⟨⟨g',hg'⟩,?_⟩
  have:=(hm a' w' g' hg').2
  omega
end
end Go.Proofs.YtlngflbamkgjlaaGreat
namespace Go.Proofs.YtlngflbamkgjlaaGreat
def laN (l:List (Int × Int)):Nat → Int
  | 0 => 0
  | k + 1 => (pr l k).1
def lvN (b r:Int) (l:List (Int × Int)):Nat → Int
  | 0 => b * 1048576
  | k + 1 => min (b * 1048576) (lvN b r l k + r * ((pr l k).1 - laN l k)) - (pr l k).2 * 1048576
def lvUp (b r:Int) (l:List (Int × Int)) (k:Nat):List (Nat × Int):=(List.range k).map fun j=>(j,lvN b r l (j + 1))
theorem lvUp_succ (b r:Int) (l:List (Int × Int)) (k:Nat):lvUp b r l (k + 1)=lvUp b r l k ++ [(k,lvN b r l (k + 1))]:=by simp [lvUp,List.range_succ]
theorem lvUp_length (b r:Int) (l:List (Int × Int)) (k:Nat):(lvUp b r l k).length=k:=by simp [lvUp]
theorem tr_all {l:List (Int × Int)} (h:trE l=0):∀ k,k < l.length → laN l k ≤ (pr l k).1 ∧ (pr l k).1 ≤ 1099511627776 ∧ 1 ≤ (pr l k).2 ∧ (pr l k).2 ≤ 1048576 ∧ 0 ≤ laN l k:=by
  have h0:=(trE_ok h).2
  have key:∀ k,k < l.length → trOk (laN l k) (l.drop k)=true ∧ 0 ≤ laN l k:=by
    intro k
    induction k with
    | zero => intro _; simpa [laN] using h0
    | succ k ih =>
      intro hk
      obtain ⟨q,q0⟩:=ih (by omega)
      have:=tr_here (l:=l) (k:=k) (la:=laN l k) (by omega) q
      exact ⟨this.2.2.2.2,by simp only [laN]; omega⟩
  intro k hk
  obtain ⟨q,q0⟩:=key k hk
  have:=tr_here (l:=l) (k:=k) (la:=laN l k) hk q
  exact ⟨by omega,by omega,by omega,by omega,q0⟩
theorem lv_bd {b r:Int} {l:List (Int × Int)} (hk:1 ≤ b ∧ b ≤ 1048576 ∧ 1 ≤ r ∧ r ≤ 2097152) (h:trE l=0):∀ k,k ≤ l.length → -(1099511627776 * (k:Int)) ≤ lvN b r l k ∧ lvN b r l k ≤ 1099511627776:=by
  intro k
  induction k with
  | zero => intro _; simp only [lvN]; omega
  | succ k ih =>
    intro hl
    have q:=ih (by omega)
    have t:=tr_all h k (by omega)
    have m:0 ≤ r * ((pr l k).1 - laN l k) ∧ r * ((pr l k).1 - laN l k) ≤ 2305843009213693952:=mul_bd 0 2097152 0 1099511627776 (by omega) (by omega) (by omega) (by omega) (by decide)
    simp only [lvN]
    omega
def firstI (b r:Int) (l:List (Int × Int)):Int:=(((List.range l.length).find? fun j=>decide (lvN b r l (j + 1) < 0)).map fun j:Nat=>(j:Int)).getD (-1)
theorem firstI_none {b r:Int} {l:List (Int × Int)} (h:∀ j,j < l.length → 0 ≤ lvN b r l (j + 1)):firstI b r l=-1:=by
  have:(List.range l.length).find? (fun j=>decide (lvN b r l (j + 1) < 0))=none:=by
    rw [List.find?_eq_none]
    intro j hj
    have:=h j (List.mem_range.1 hj)
    simp
    omega
  unfold firstI
  rw [this]
  rfl
theorem firstI_some {b r:Int} {l:List (Int × Int)} {k:Nat} (hk:k < l.length) (hn:lvN b r l (k + 1) < 0) (h:∀ j,j < k → 0 ≤ lvN b r l (j + 1)):firstI b r l=k:=by
  have:(List.range l.length).find? (fun j=>decide (lvN b r l (j + 1) < 0))=some k:=by
    rw [List.find?_range_eq_some]
    refine ⟨by simpa using hn,List.mem_range.2 hk,fun j hj=>?_⟩
    have:=h j hj
    simp
    omega
  unfold firstI
  rw [this]
  rfl
theorem trOk_ofPr {l:List (Int × Int)} (h:∀ i,i < l.length → laN l i ≤ (pr l i).1 ∧ (pr l i).1 ≤ 1099511627776 ∧ 1 ≤ (pr l i).2 ∧ (pr l i).2 ≤ 1048576):∀ (n k:Nat),k + n=l.length → trOk (laN l k) (l.drop k)=true
  | 0, k, e => by rw [List.drop_eq_nil_of_le (by omega)]; rfl
  | n + 1, k, e => by
    rw [drop_at (pr_some (by omega)),trOk,Bool.and_eq_true,decide_eq_true_eq]
    have:=h k (by omega)
    exact ⟨⟨this.1,this.2.1,this.2.2.1,this.2.2.2⟩,trOk_ofPr h n (k + 1) (by omega)⟩
end Go.Proofs.YtlngflbamkgjlaaGreat
namespace Go.Proofs.YtlngflbamkgjlaaGreat
open Go.RowKit
set_option linter.unusedVariables false
set_option linter.unusedSimpArgs false
set_option maxRecDepth 100000
def sumL (l:List (Int × Int)):Nat → Int
  | 0 => 0
  | k + 1 => sumL l k + (pr l k).2
def gaP (ge:List (Int × Int)) (cyc:Int):Prop:=1 ≤ ge.length ∧ ge.length ≤ 128 ∧ (∀ k,k < ge.length → 0 ≤ (pr ge k).1 ∧ (pr ge k).1 ≤ 255 ∧ 1 ≤ (pr ge k).2 ∧ (pr ge k).2 ≤ 9600000) ∧ sumL ge ge.length=cyc ∧ cyc ≤ 9600000
instance (ge:List (Int × Int)) (cyc:Int):Decidable (gaP ge cyc):=by unfold gaP; infer_instance
def gaE (ge:List (Int × Int)) (cyc:Int):Int:=if gaP ge cyc then 0 else 370
theorem ga_0 {ge:List (Int × Int)} {cyc:Int} (h:gaP ge cyc):0=gaE ge cyc:=by unfold gaE; rw [if_pos h]
theorem ga_370 {ge:List (Int × Int)} {cyc:Int} (h:¬ gaP ge cyc):370=gaE ge cyc:=by unfold gaE; rw [if_neg h]
theorem ga_p {ge:List (Int × Int)} {cyc:Int} (h:gaE ge cyc=0):gaP ge cyc:=by
  unfold gaE at h
  split at h
  · assumption
  · cases h
theorem sumL_nonneg {ge:List (Int × Int)}:∀ k,(∀ j,j < k → 1 ≤ (pr ge j).2) → (k:Int) ≤ sumL ge k
  | 0, _ => by simp [sumL]
  | k + 1, h => by
    have:=sumL_nonneg k fun j hj=>h j (by omega)
    have:=h k (by omega)
    simp only [sumL]
    omega
theorem sumL_mono {ge:List (Int × Int)} {n:Nat} (h:∀ j,j < n → 1 ≤ (pr ge j).2) {i:Nat}:∀ {k:Nat},i ≤ k → k ≤ n → sumL ge i ≤ sumL ge k
  | 0, hik, _ => by obtain rfl : i = 0 := by omega
                    exact Int.le_refl _
  | k + 1, hik, hk => by
    by_cases e:i=k + 1
    · subst e; exact Int.le_refl _
    · have:=sumL_mono h (i:=i) (k:=k) (by omega) (by omega)
      have:=h k (by omega)
      simp only [sumL]
      omega
def fI (ge:List (Int × Int)) (u:Int):Nat:=((List.range ge.length).find? fun i=>decide (u < sumL ge (i + 1))).getD 0
theorem fI_eq {ge:List (Int × Int)} {u:Int} {i:Nat} (hm:∀ j,j < ge.length → 1 ≤ (pr ge j).2) (hi:i < ge.length) (h1:sumL ge i ≤ u) (h2:u < sumL ge (i + 1)):fI ge u=i:=by
  have:(List.range ge.length).find? (fun i=>decide (u < sumL ge (i + 1)))=some i:=by
    rw [List.find?_range_eq_some]
    refine ⟨by simpa using h2,by simpa using hi,fun j hj=>?_⟩
    have:=sumL_mono hm (i:=j + 1) (k:=i) (by omega) (by omega)
    simp
    omega
  unfold fI
  rw [this]
  rfl
set_option maxHeartbeats 4000000 in
theorem gaCheck_w (A:Option Addr) (ge:List (Int × Int)) (gc:Nat) (cyc:Int) (w0:World) (hA:Ro w0 A (flat2 ge)) :
    Calls Tryz.prog 35 #[.agg #[.slice A ge.length gc,iv cyc]] w0 (Ret w0 (.int .i64 (gaE ge cyc))):=by
 have hs0:sumL ge 0=0:=rfl
 refine enterK 54 Tryz.func35 rfl rfl rfl ?_
 intro a hF Q0 hR0 hN0
 have hM:=Mem.start w0
 replace hM:=hM.addOld 1 hA (Nat.le_refl _)
 refine wp_seq_k fun K1 hK1=>wp_region_lit (wl (xN 1 2 (t:=29) (fun b=>.pointer (some ⟨b,0,none⟩)) #[.slice A ge.length gc,iv cyc] hF hM fun bb1 a w hF hM=>xB 1 [(2,iv 0)] hF fun a hF=>wpList_nil (hK1 _ _ (wp_seq_k fun K2 hK2=>wp_seq_k fun K3 hK3=>?_))))
 by_cases hz1:(ge.length:Int) < 1
 ·refine wp_region_lit (xB 1 [(6,pt bb1 0)] hF fun a hF=>wl (xL 7 2 0 (v:=.slice A ge.length gc) hF hM fun a w hF hM=>xB 1 [(8,iv (ge.length:Int))] hF fun a hF=>wl (xP 9 (v0:=.bool (decide ((ge.length:Int) < 1))) (v:=.bool true) hF (bT hz1) fun a hF=>xB 6 [(10,.bool true),(11,undef),(12,undef),(13,undef),(14,undef),(15,.bool true)] hF fun a hF=>wpList_nil (hK3 _ _ (xT hF (wp_seq_k fun K4 hK4=>wp_region_lit (xB 1 [(2,iv 370)] hF fun a hF=>?_)))))))
  refine wpList_nil (hK4 _ _ (wp_ret (hR0 _ _ (ret_of hF hM (.tmp rfl (.nil)) (⟨ret_int (ga_370 (fun z=>by have:=z.1; have:=z.2.1; omega)),hM.bel⟩)))))
 refine wp_region_lit (xB 1 [(6,pt bb1 0)] hF fun a hF=>wl (xL 7 2 0 (v:=.slice A ge.length gc) hF hM fun a w hF hM=>xB 1 [(8,iv (ge.length:Int))] hF fun a hF=>wl (xP 9 (v0:=.bool (decide ((ge.length:Int) < 1))) (v:=.bool false) hF (bF hz1) fun a hF=>xB 2 [(10,.bool false),(11,pt bb1 0)] hF fun a hF=>wl (xL 12 2 0 (v:=.slice A ge.length gc) hF hM fun a w hF hM=>xB 3 [(13,iv (ge.length:Int)),(14,.bool (decide (128 < (ge.length:Int)))),(15,.bool (decide (128 < (ge.length:Int))))] hF fun a hF=>wpList_nil (hK3 _ _ ?_)))))
 by_cases hz2:128 < (ge.length:Int)
 ·replace hF:=hF.c hF (i:=14) (v:=.bool true) rfl (bT hz2)
  replace hF:=hF.c hF (i:=15) (v:=.bool true) rfl (bT hz2)
  refine xT hF (wp_seq_k fun K5 hK5=>wp_region_lit (xB 1 [(2,iv 370)] hF fun a hF=>wpList_nil (hK5 _ _ (wp_ret (hR0 _ _ (ret_of hF hM (.tmp rfl (.nil)) (⟨ret_int (ga_370 (fun z=>by have:=z.1; have:=z.2.1; omega)),hM.bel⟩)))))))
 replace hF:=hF.c hF (i:=14) (v:=.bool false) rfl (bF hz2)
 replace hF:=hF.c hF (i:=15) (v:=.bool false) rfl (bF hz2)
 refine xF hF (wp_skip (hK2 _ _ (wp_seq_k fun K6 hK6=>wp_region_lit (xB 1 [(3,iv 0)] hF fun a hF=>wpList_nil (hK6 _ _ (wp_seq_k fun K7 hK7=>wp_seq_k fun K8 hK8=>wp_region_lit (xB 1 [(16,pt bb1 0)] hF fun a hF=>?_)))))))
 refine wl (xL 17 2 0 (v:=.slice A ge.length gc) hF hM fun a w hF hM=>xB 2 [(18,iv (ge.length:Int)),(19,iv 0)] hF fun a hF=>wpList_nil (hK8 _ _ (wp_block (wp_loop_k (G:=Nat) (fun gg a w=>Fr 54 [(3,some (iv (sumL ge gg))),(19,some (iv (gg:Int))),(1,some (pt bb1 0)),(17,some (.slice A ge.length gc)),(18,some (iv (ge.length:Int)))] a ∧ Mem w0.heap.size w0 [(1,some (.ro A (flat2 ge))),(2,some (.row bb1 29 #[.slice A ge.length gc,iv cyc]))] w ∧ ((gg:Int) ≤ (ge.length:Int)) ∧ (∀ j,j < gg → 0 ≤ (pr ge j).1 ∧ (pr ge j).1 ≤ 255 ∧ 1 ≤ (pr ge j).2 ∧ (pr ge j).2 ≤ 9600000) ∧ (0 ≤ sumL ge gg) ∧ (sumL ge gg ≤ 9600000 * (gg:Int))) (fun gg=>ge.length - gg) (0) ?_ ?_))))
 ·refine ⟨((((((Fr.nil hF).c hF (i:=18) rfl rfl).c hF (i:=17) rfl rfl).c hF (i:=1) rfl rfl).c hF (i:=19) rfl (vi (show (0:Int)=(0:Int) from by omega))).c hF (i:=3) rfl (vi (show (0:Int)=sumL ge 0 from by omega))),(hM.sub ((Sub.nil.c (k:=2) rfl rfl).c (k:=1) rfl rfl)),(show (0:Int) ≤ (ge.length:Int) from by omega),(show ∀ j,j < 0 → 0 ≤ (pr ge j).1 ∧ (pr ge j).1 ≤ 255 ∧ 1 ≤ (pr ge j).2 ∧ (pr ge j).2 ≤ 9600000 from by exact fun j hj=>by omega),(show 0 ≤ sumL ge 0 from by omega),(show sumL ge 0 ≤ 9600000 * (0:Int) from by omega)⟩
 intro gg a w hI
 intro K9 hK9
 obtain ⟨k,rfl⟩:∃ x,x=gg:=⟨_,rfl⟩
 try dsimp only at hI hK9
 obtain ⟨hF,hM,hz3,hz4,hz5,hz6⟩:=hI
 refine wp_seq_k fun K10 hK10=>wp_region_lit (xB 1 [(20,.bool (decide ((k:Int) < (ge.length:Int))))] hF fun a hF=>wpList_nil (hK10 _ _ (wp_seq_k fun K11 hK11=>?_)))
 by_cases hz7:(k:Int) < (ge.length:Int)
 ·replace hF:=hF.c hF (i:=20) (v:=.bool true) rfl (bT hz7)
  refine xT hF (wp_skip (hK11 _ _ (wp_seq_k fun K12 hK12=>wp_block (wp_seq_k fun K13 hK13=>wp_region_lit (wl (xM 21 (v:=.pointer (some (ea A (k * 2)))) hF hM (yld_ix (kd:=.i64) (e:=31) (len:=ge.length) (cap:=gc) (i:=(k:Int)) (size:=2) (A:=A) hF rfl (by kernel_rfl) (by kernel_rfl) (by kernel_rfl) (by kernel_rfl) (by kernel_rfl) (roK 1 rfl) (by omega) (by omega) (by rw [flat2_length]; omega)) fun a w hF hM=>wl (xM 22 (v:=.agg #[iv (pr ge k).1,iv (pr ge k).2]) hF hM (yld_roM (A:=A) (j:=k * 2) (us:=[iv (pr ge k).1,iv (pr ge k).2]) hF rfl (by kernel_rfl) (by kernel_rfl) (roK 1 rfl) (by kernel_rfl) rfl (pr_both (k:=k) (by omega) (by omega))) fun a w hF hM=>wl (xN 5 3 (t:=31) (fun b=>.pointer (some ⟨b,0,none⟩)) #[iv 0,iv 0] hF hM fun bb2 a w hF hM=>?_))))))))
  refine wl (xS 3 0 #[iv (pr ge k).1,iv (pr ge k).2] hF hM fun w hM=>wpList_nil (hK13 _ _ (wp_seq_k fun K14 hK14=>wp_seq_k fun K15 hK15=>?_)))
  by_cases hz8:(pr ge k).1 < 0
  ·refine wp_region_lit (xB 1 [(23,pt bb2 0)] hF fun a hF=>wl (xL 24 3 0 (v:=iv (pr ge k).1) hF hM fun a w hF hM=>wl (xP 25 (v0:=.bool (decide ((pr ge k).1 < 0))) (v:=.bool true) hF (bT hz8) fun a hF=>xB 15 [(26,.bool true),(27,undef),(28,undef),(29,undef),(30,.bool true),(31,.bool true),(32,undef),(33,undef),(34,undef),(35,.bool true),(36,.bool true),(37,undef),(38,undef),(39,undef),(40,.bool true)] hF fun a hF=>wpList_nil (hK15 _ _ (xT hF (wp_seq_k fun K16 hK16=>wp_region_lit (xB 1 [(2,iv 370)] hF fun a hF=>wpList_nil ?_)))))))
   refine hK16 _ _ (wp_ret (hR0 _ _ (ret_of hF hM (.tmp rfl (.nil)) (⟨ret_int (ga_370 (fun z=>by have:=z.2.2.1 k (by omega); omega)),hM.bel⟩))))
  by_cases hz9:255 < (pr ge k).1
  ·refine wp_region_lit (xB 1 [(23,pt bb2 0)] hF fun a hF=>wl (xL 24 3 0 (v:=iv (pr ge k).1) hF hM fun a w hF hM=>wl (xP 25 (v0:=.bool (decide ((pr ge k).1 < 0))) (v:=.bool false) hF (bF hz8) fun a hF=>xB 2 [(26,.bool false),(27,pt bb2 0)] hF fun a hF=>wl (xL 28 3 0 (v:=iv (pr ge k).1) hF hM fun a w hF hM=>wl (xP 29 (v0:=.bool (decide (255 < (pr ge k).1))) (v:=.bool true) hF (bT hz9) fun a hF=>xB 11 [(30,.bool true),(31,.bool true),(32,undef),(33,undef),(34,undef),(35,.bool true),(36,.bool true),(37,undef),(38,undef),(39,undef),(40,.bool true)] hF fun a hF=>wpList_nil (hK15 _ _ (xT hF (wp_seq_k fun K17 hK17=>?_))))))))
   refine wp_region_lit (xB 1 [(2,iv 370)] hF fun a hF=>wpList_nil (hK17 _ _ (wp_ret (hR0 _ _ (ret_of hF hM (.tmp rfl (.nil)) (⟨ret_int (ga_370 (fun z=>by have:=z.2.2.1 k (by omega); omega)),hM.bel⟩))))))
  by_cases hz10:(pr ge k).2 < 1
  ·refine wp_region_lit (xB 1 [(23,pt bb2 0)] hF fun a hF=>wl (xL 24 3 0 (v:=iv (pr ge k).1) hF hM fun a w hF hM=>wl (xP 25 (v0:=.bool (decide ((pr ge k).1 < 0))) (v:=.bool false) hF (bF hz8) fun a hF=>xB 2 [(26,.bool false),(27,pt bb2 0)] hF fun a hF=>wl (xL 28 3 0 (v:=iv (pr ge k).1) hF hM fun a w hF hM=>wl (xP 29 (v0:=.bool (decide (255 < (pr ge k).1))) (v:=.bool false) hF (bF hz9) fun a hF=>xB 3 [(30,.bool false),(31,.bool false),(32,pt bb2 1)] hF fun a hF=>wl (xL 33 3 1 (v:=iv (pr ge k).2) hF hM fun a w hF hM=>wl (xP 34 (v0:=.bool (decide ((pr ge k).2 < 1))) (v:=.bool true) hF (bT hz10) fun a hF=>xB 6 [(35,.bool true),(36,.bool true),(37,undef),(38,undef),(39,undef),(40,.bool true)] hF fun a hF=>wpList_nil ?_)))))))
   refine hK15 _ _ (xT hF (wp_seq_k fun K18 hK18=>wp_region_lit (xB 1 [(2,iv 370)] hF fun a hF=>wpList_nil (hK18 _ _ (wp_ret (hR0 _ _ (ret_of hF hM (.tmp rfl (.nil)) (⟨ret_int (ga_370 (fun z=>by have:=z.2.2.1 k (by omega); omega)),hM.bel⟩))))))))
  refine wp_region_lit (xB 1 [(23,pt bb2 0)] hF fun a hF=>wl (xL 24 3 0 (v:=iv (pr ge k).1) hF hM fun a w hF hM=>wl (xP 25 (v0:=.bool (decide ((pr ge k).1 < 0))) (v:=.bool false) hF (bF hz8) fun a hF=>xB 2 [(26,.bool false),(27,pt bb2 0)] hF fun a hF=>wl (xL 28 3 0 (v:=iv (pr ge k).1) hF hM fun a w hF hM=>wl (xP 29 (v0:=.bool (decide (255 < (pr ge k).1))) (v:=.bool false) hF (bF hz9) fun a hF=>xB 3 [(30,.bool false),(31,.bool false),(32,pt bb2 1)] hF fun a hF=>wl (xL 33 3 1 (v:=iv (pr ge k).2) hF hM fun a w hF hM=>wl (xP 34 (v0:=.bool (decide ((pr ge k).2 < 1))) (v:=.bool false) hF (bF hz10) fun a hF=>xB 3 [(35,.bool false),(36,.bool false),(37,pt bb2 1)] hF fun a hF=>wl (xL 38 3 1 (v:=iv (pr ge k).2) hF hM fun a w hF hM=>?_))))))))
  refine xB 2 [(39,.bool (decide (9600000 < (pr ge k).2))),(40,.bool (decide (9600000 < (pr ge k).2)))] hF fun a hF=>wpList_nil (hK15 _ _ ?_)
  by_cases hz11:9600000 < (pr ge k).2
  ·replace hF:=hF.c hF (i:=39) (v:=.bool true) rfl (bT hz11)
   replace hF:=hF.c hF (i:=40) (v:=.bool true) rfl (bT hz11)
   refine xT hF (wp_seq_k fun K19 hK19=>wp_region_lit (xB 1 [(2,iv 370)] hF fun a hF=>wpList_nil (hK19 _ _ (wp_ret (hR0 _ _ (ret_of hF hM (.tmp rfl (.nil)) (⟨ret_int (ga_370 (fun z=>by have:=z.2.2.1 k (by omega); omega)),hM.bel⟩)))))))
  replace hF:=hF.c hF (i:=39) (v:=.bool false) rfl (bF hz11)
  replace hF:=hF.c hF (i:=40) (v:=.bool false) rfl (bF hz11)
  refine xF hF (wp_skip (hK14 _ _ (wp_region_lit (xB 2 [(41,iv (sumL ge k)),(42,pt bb2 1)] hF fun a hF=>wl (xL 43 3 1 (v:=iv (pr ge k).2) hF hM fun a w hF hM=>wl (xP 44 (v0:=.int .i64 (IntKind.i64.wrap (sumL ge k + (pr ge k).2))) (v:=iv (sumL ge k + (pr ge k).2)) hF (wi (by omega)) fun a hF=>xB 1 [(3,iv (sumL ge k + (pr ge k).2))] hF fun a hF=>wpList_nil (hK12 _ _ (wp_region_lit (wl (xP 45 (v0:=.int .i64 (IntKind.i64.wrap ((k:Int) + 1))) (v:=iv ((k:Int) + 1)) hF (wi (by omega)) fun a hF=>?_))))))))))
  refine xB 1 [(19,iv ((k:Int) + 1))] hF fun a hF=>wpList_nil ?_
  have hsn:sumL ge (k + 1)=sumL ge k + (pr ge k).2:=rfl
  refine hK9 _ _ ⟨(k + 1),⟨((((((Fr.nil hF).c hF (i:=18) rfl rfl).c hF (i:=17) rfl rfl).c hF (i:=1) rfl rfl).c hF (i:=19) rfl (vi (show ((k:Int) + 1:Int)=((k + 1):Int) from by omega))).c hF (i:=3) rfl (vi (show (sumL ge k + (pr ge k).2:Int)=sumL ge (k + 1) from by omega))),(hM.sub ((Sub.nil.c (k:=2) rfl rfl).c (k:=1) rfl rfl)),(show ((k + 1):Int) ≤ (ge.length:Int) from by omega),(show ∀ j,j < (k + 1) → 0 ≤ (pr ge j).1 ∧ (pr ge j).1 ≤ 255 ∧ 1 ≤ (pr ge j).2 ∧ (pr ge j).2 ≤ 9600000 from by exact fun j hj=>by by_cases e:j=k; (subst e; omega); exact ‹∀ j,j < k → 0 ≤ (pr ge j).1 ∧ (pr ge j).1 ≤ 255 ∧ 1 ≤ (pr ge j).2 ∧ (pr ge j).2 ≤ 9600000› j (by omega)),(show 0 ≤ sumL ge (k + 1) from by omega),(show sumL ge (k + 1) ≤ 9600000 * ((k + 1):Int) from by omega)⟩,(show ge.length - (k + 1) < ge.length - k from by omega)⟩
 replace hF:=hF.c hF (i:=20) (v:=.bool false) rfl (bF hz7)
 refine xF hF (wp_exit (hK7 _ _ (wp_seq_k fun K20 hK20=>wp_seq_k fun K21 hK21=>?_)))
 by_cases hz12:sumL ge k=cyc
 ·refine wp_region_lit (xB 2 [(46,iv (sumL ge k)),(47,pt bb1 1)] hF fun a hF=>wl (xL 48 2 1 (v:=iv cyc) hF hM fun a w hF hM=>wl (xP 49 (v0:=.bool (!decide (sumL ge k=cyc))) (v:=.bool false) hF (nT hz12) fun a hF=>xB 4 [(50,.bool false),(51,iv (sumL ge k)),(52,.bool (decide (9600000 < sumL ge k))),(53,.bool (decide (9600000 < sumL ge k)))] hF fun a hF=>wpList_nil (hK21 _ _ ?_))))
  by_cases hz13:9600000 < sumL ge k
  ·replace hF:=hF.c hF (i:=52) (v:=.bool true) rfl (bT hz13)
   replace hF:=hF.c hF (i:=53) (v:=.bool true) rfl (bT hz13)
   refine xT hF (wp_seq_k fun K22 hK22=>wp_region_lit (xB 1 [(2,iv 370)] hF fun a hF=>wpList_nil (hK22 _ _ (wp_ret (hR0 _ _ (ret_of hF hM (.tmp rfl (.nil)) ?_))))))
   obtain rfl:k=ge.length:=by omega
   exact ⟨ret_int (ga_370 (fun z=>by have:=z.2.2.2; omega)),hM.bel⟩
  replace hF:=hF.c hF (i:=52) (v:=.bool false) rfl (bF hz13)
  replace hF:=hF.c hF (i:=53) (v:=.bool false) rfl (bF hz13)
  refine xF hF (wp_skip (hK20 _ _ (wp_seq_k fun K23 hK23=>wp_region_lit (xB 1 [(2,iv 0)] hF fun a hF=>wpList_nil (hK23 _ _ (wp_ret (hR0 _ _ (ret_of hF hM (.tmp rfl (.nil)) ?_))))))))
  obtain rfl:k=ge.length:=by omega
  exact ⟨ret_int (ga_0 ⟨by omega,by omega,‹∀ j,j < ge.length → _›,by omega,by omega⟩),hM.bel⟩
 refine wp_region_lit (xB 2 [(46,iv (sumL ge k)),(47,pt bb1 1)] hF fun a hF=>wl (xL 48 2 1 (v:=iv cyc) hF hM fun a w hF hM=>wl (xP 49 (v0:=.bool (!decide (sumL ge k=cyc))) (v:=.bool true) hF (nF hz12) fun a hF=>xB 4 [(50,.bool true),(51,undef),(52,undef),(53,.bool true)] hF fun a hF=>wpList_nil (hK21 _ _ (xT hF (wp_seq_k fun K24 hK24=>wp_region_lit (xB 1 [(2,iv 370)] hF fun a hF=>wpList_nil ?_)))))))
 refine hK24 _ _ (wp_ret (hR0 _ _ (ret_of hF hM (.tmp rfl (.nil)) ?_)))
 obtain rfl:k=ge.length:=by omega
 exact ⟨ret_int (ga_370 (fun z=>by have:=z.2.2.2; omega)),hM.bel⟩
end Go.Proofs.YtlngflbamkgjlaaGreat
namespace Go.Proofs.YtlngflbamkgjlaaGreat
open Go.RowKit
set_option linter.unusedVariables false
set_option linter.unusedSimpArgs false
set_option maxRecDepth 100000
theorem tmod_bd {p q:Int} (h:0 < q):-q < p.tmod q ∧ p.tmod q < q:=by
  have h1:=Int.tmod_lt_of_pos p h
  constructor
  · rcases Int.le_total 0 p with hp | hp
    · have:=Int.tmod_nonneg q hp
      omega
    · have:=Int.tmod_lt_of_pos (-p) h
      rw [Int.neg_tmod] at this
      omega
  · exact h1
theorem mod_fix {p q:Int} (h:0 < q):(p.tmod q + q) % q=p % q:=by
  rw [Int.add_emod_right,Int.tmod_def,Int.sub_mul_emod_self_left]
end Go.Proofs.YtlngflbamkgjlaaGreat
namespace Go.Proofs.YtlngflbamkgjlaaGreat
open Go.RowKit
set_option linter.unusedVariables false
set_option linter.unusedSimpArgs false
set_option maxRecDepth 100000
theorem ga_pos {ge:List (Int × Int)} {cyc:Int} (h:gaE ge cyc=0):(1 ≤ ge.length ∧ ge.length ≤ 128) ∧ 1 ≤ cyc ∧ cyc ≤ 9600000 ∧ sumL ge ge.length=cyc:=by
  obtain ⟨h1,h2,h3,h4,h5⟩:=ga_p h
  have:=sumL_nonneg (ge:=ge) ge.length fun j hj=>(h3 j hj).2.2.1
  exact ⟨⟨h1,h2⟩,by omega,h5,h4⟩
theorem find_next {ge:List (Int × Int)} {cyc u:Int} {i:Nat} (h:gaE ge cyc=0) (hu:u < cyc) (hi:i < ge.length) (hs:sumL ge (i + 1) ≤ u):i + 1 < ge.length:=by
  rcases Nat.lt_or_ge (i + 1) ge.length with q | q
  · exact q
  · have e:i + 1=ge.length:=by omega
    rw [e,(ga_pos h).2.2.2] at hs
    omega
set_option maxHeartbeats 4000000 in
theorem gaFind_w (A:Option Addr) (ge:List (Int × Int)) (gc:Nat) (cyc:Int) (t:Int) (w0:World) (hA:Ro w0 A (flat2 ge)) (h:gaE ge cyc=0) (ht:-4398046511104 ≤ t ∧ t ≤ 4398046511104) :
    Calls Tryz.prog 116 #[.agg #[.slice A ge.length gc,iv cyc],iv t] w0 (Ret w0 (.tuple #[.int .i64 (fI ge (t % cyc):Nat),.int .i64 (sumL ge (fI ge (t % cyc) + 1) - t % cyc)])):=by
 have hgp:=(ga_p h).2.2.1
 have hgs:=ga_pos h
 have hs0:sumL ge 0=0:=rfl
 obtain ⟨u,hu⟩:∃ z:Int,t % cyc=z:=⟨_,rfl⟩
 have hub:0 ≤ u ∧ u < cyc:=by rw [← hu]; exact ⟨Int.emod_nonneg _ (by omega),Int.emod_lt_of_pos _ (by omega)⟩
 refine enterK 43 Tryz.func116 rfl rfl rfl ?_
 intro a hF Q0 hR0 hN0
 have hM:=Mem.start w0
 replace hM:=hM.addOld 1 hA (Nat.le_refl _)
 refine wp_seq_k fun K1 hK1=>wp_region_lit (wl (xN 2 2 (t:=29) (fun b=>.pointer (some ⟨b,0,none⟩)) #[.slice A ge.length gc,iv cyc] hF hM fun bb1 a w hF hM=>xB 2 [(4,iv 0),(5,iv 0)] hF fun a hF=>wpList_nil (hK1 _ _ (wp_scope_k (G:=Nat) 0 (fun gg a w=>Fr 43 [(1,some (iv (u - sumL ge gg))),(4,some (iv (gg:Int))),(2,some (pt bb1 0))] a ∧ Mem w0.heap.size w0 [(1,some (.ro A (flat2 ge))),(2,some (.row bb1 29 #[.slice A ge.length gc,iv cyc]))] w ∧ ((gg:Int) < (ge.length:Int)) ∧ (sumL ge gg ≤ u) ∧ (0 ≤ sumL ge gg)) (fun gg=>ge.length - gg) rfl ?_ ?_))))
 ·intro K2 hK2
  refine wp_seq_k fun K3 hK3=>rQ hM (by kernel_rfl) (by kernel_rfl) (xQ 6 (v0:=iv t) (v:=iv t) hF rfl fun a hF=>xQ 7 (v0:=pt bb1 1) (v:=pt bb1 1) hF rfl fun a hF=>xK 8 2 1 (v:=iv cyc) hF fun a hF=>?_)
  have htm:=tmod_bd (p:=t) (q:=cyc) (by omega)
  refine xR 9 (v:=iv (t.tmod cyc)) hF (yld_rem t cyc hF rfl (by kernel_rfl) (by kernel_rfl) (by kernel_rfl) (by omega) (rfl)) fun a hF=>xQ 10 (v0:=pt bb1 1) (v:=pt bb1 1) hF rfl fun a hF=>xK 11 2 1 (v:=iv cyc) hF fun a hF=>xQ 12 (v0:=.int .i64 (IntKind.i64.wrap (t.tmod cyc + cyc))) (v:=iv (t.tmod cyc + cyc)) hF (wi (by omega)) fun a hF=>xQ 13 (v0:=pt bb1 1) (v:=pt bb1 1) hF rfl fun a hF=>xK 14 2 1 (v:=iv cyc) hF fun a hF=>xR 15 (v:=iv u) hF (yld_rem (t.tmod cyc + cyc) cyc hF rfl (by kernel_rfl) (by kernel_rfl) (by kernel_rfl) (by omega) ((Int.tmod_eq_emod_of_nonneg (by omega)).trans ((mod_fix (by omega)).trans hu))) fun a hF=>xQ 1 (v0:=iv u) (v:=iv u) hF rfl fun a hF=>wpQuiet_nil ?_
  intro w hM
  refine hK3 _ _ (wp_seq_k fun K4 hK4=>wp_label (hK4 _ _ (wp_seq_k fun K5 hK5=>wp_seq_k fun K6 hK6=>wp_region_lit (xB 2 [(16,iv u),(17,pt bb1 0)] hF fun a hF=>wl (xL 18 2 0 (v:=.slice A ge.length gc) hF hM fun a w hF hM=>xB 1 [(19,iv 0)] hF fun a hF=>wl (xM 20 (v:=.pointer (some (ea A (0 * 2)))) hF hM (yld_ix (kd:=.i64) (e:=31) (len:=ge.length) (cap:=gc) (i:=0) (size:=2) (A:=A) hF rfl (by kernel_rfl) (by kernel_rfl) (by kernel_rfl) (by kernel_rfl) (by kernel_rfl) (roK 1 rfl) (by omega) (by omega) (by rw [flat2_length]; omega)) fun a w hF hM=>xB 1 [(21,.pointer (some (ea A (0 * 2 + 1))))] hF fun a hF=>?_))))))
  refine wl (xM 22 (v:=iv (pr ge 0).2) hF hM (yld_ro1 (A:=A) (j:=0 * 2 + 1) hF rfl (by kernel_rfl) (by kernel_rfl) (roK 1 rfl) (by kernel_rfl) (pr_snd (k:=0) (by omega) (by omega))) fun a w hF hM=>?_)
  have:=hgp 0 (by omega)
  refine xB 1 [(23,.bool (decide ((pr ge 0).2 ≤ u)))] hF fun a hF=>wpList_nil (hK6 _ _ ?_)
  by_cases hz1:(pr ge 0).2 ≤ u
  ·replace hF:=hF.c hF (i:=23) (v:=.bool true) rfl (bT hz1)
   refine xT hF (wp_seq_k fun K7 hK7=>wp_region_lit (xB 2 [(24,iv u),(25,pt bb1 0)] hF fun a hF=>wl (xL 26 2 0 (v:=.slice A ge.length gc) hF hM fun a w hF hM=>xB 1 [(27,iv 0)] hF fun a hF=>wl (xM 28 (v:=.pointer (some (ea A (0 * 2)))) hF hM (yld_ix (kd:=.i64) (e:=31) (len:=ge.length) (cap:=gc) (i:=0) (size:=2) (A:=A) hF rfl (by kernel_rfl) (by kernel_rfl) (by kernel_rfl) (by kernel_rfl) (by kernel_rfl) (roK 1 rfl) (by omega) (by omega) (by rw [flat2_length]; omega)) fun a w hF hM=>xB 1 [(29,.pointer (some (ea A (0 * 2 + 1))))] hF fun a hF=>wl (xM 30 (v:=iv (pr ge 0).2) hF hM (yld_ro1 (A:=A) (j:=0 * 2 + 1) hF rfl (by kernel_rfl) (by kernel_rfl) (roK 1 rfl) (by kernel_rfl) (pr_snd (k:=0) (by omega) (by omega))) fun a w hF hM=>?_)))))
   have:=hgp 0 (by omega)
   refine wl (xP 31 (v0:=.int .i64 (IntKind.i64.wrap (u - (pr ge 0).2))) (v:=iv (u - (pr ge 0).2)) hF (wi (by omega)) fun a hF=>xB 1 [(1,iv (u - (pr ge 0).2))] hF fun a hF=>wpList_nil (hK7 _ _ (wp_seq_k fun K8 hK8=>wp_region_lit (xB 1 [(32,iv 0)] hF fun a hF=>wl (xP 33 (v0:=.int .i64 (IntKind.i64.wrap (0 + 1))) (v:=iv 1) hF (vi (by decide)) fun a hF=>xB 1 [(4,iv 1)] hF fun a hF=>wpList_nil (hK8 _ _ ?_))))))
   have hs1:sumL ge 1=sumL ge 0 + (pr ge 0).2:=rfl
   have hi1:=find_next (i:=0) h hub.2 (by omega) (by rw [hs1]; omega)
   exact wp_goto (And.intro (rfl:0=0) (hK2 (1) _ _ ⟨((((Fr.nil hF).c hF (i:=2) rfl rfl).c hF (i:=4) rfl (vi (show (1:Int)=(1:Int) from by omega))).c hF (i:=1) rfl (vi (show (u - (pr ge 0).2:Int)=u - sumL ge 1 from by omega))),(hM.sub ((Sub.nil.c (k:=2) rfl rfl).c (k:=1) rfl rfl)),(show (1:Int) < (ge.length:Int) from by omega),(show sumL ge 1 ≤ u from by omega),(show 0 ≤ sumL ge 1 from by omega)⟩))
  replace hF:=hF.c hF (i:=23) (v:=.bool false) rfl (bF hz1)
  refine xF hF (wp_skip (hK5 _ _ (wp_seq_k fun K9 hK9=>rQ hM (by kernel_rfl) (by kernel_rfl) (xQ 34 (v0:=iv 0) (v:=iv 0) hF rfl fun a hF=>xQ 35 (v0:=pt bb1 0) (v:=pt bb1 0) hF rfl fun a hF=>xK 36 2 0 (v:=.slice A ge.length gc) hF fun a hF=>xQ 37 (v0:=iv 0) (v:=iv 0) hF rfl fun a hF=>xR 38 (v:=.pointer (some (ea A (0 * 2)))) hF (yld_ix (kd:=.i64) (e:=31) (len:=ge.length) (cap:=gc) (i:=0) (size:=2) (A:=A) hF rfl (by kernel_rfl) (by kernel_rfl) (by kernel_rfl) (by kernel_rfl) (by kernel_rfl) (roK 1 rfl) (by omega) (by omega) (by rw [flat2_length]; omega)) fun a hF=>xQ 39 (v0:=.pointer (some (ea A (0 * 2 + 1)))) (v:=.pointer (some (ea A (0 * 2 + 1)))) hF rfl fun a hF=>xR 40 (v:=iv (pr ge 0).2) hF (yld_ro1 (A:=A) (j:=0 * 2 + 1) hF rfl (by kernel_rfl) (by kernel_rfl) (roK 1 rfl) (by kernel_rfl) (pr_snd (k:=0) (by omega) (by omega))) fun a hF=>?_))))
  have:=hgp 0 (by omega)
  refine xQ 41 (v0:=iv u) (v:=iv u) hF rfl fun a hF=>xQ 42 (v0:=.int .i64 (IntKind.i64.wrap ((pr ge 0).2 - u))) (v:=iv ((pr ge 0).2 - u)) hF (wi (by omega)) fun a hF=>xQ 4 (v0:=iv 0) (v:=iv 0) hF rfl fun a hF=>xQ 5 (v0:=iv ((pr ge 0).2 - u)) (v:=iv ((pr ge 0).2 - u)) hF rfl fun a hF=>wpQuiet_nil ?_
  intro w hM
  refine hK9 _ _ (wp_ret (hR0 _ _ (ret_of hF hM (.tmp rfl (.tmp rfl (.nil))) ?_)))
  have hsn:sumL ge (0 + 1)=sumL ge 0 + (pr ge 0).2:=rfl
  have hf:fI ge u=0:=fI_eq (fun j hj=>(hgp j hj).2.2.1) (by omega) (by omega) (by omega)
  rw [hu]
  exact ⟨ret_eq (by rw [hf,hsn]; exact congrArg (fun z=>Value.tuple #[.int .i64 _,.int .i64 z]) (show _=_ by omega)),hM.bel⟩
 intro gg a w hI K2 hK2
 obtain ⟨i,rfl⟩:∃ x,x=gg:=⟨_,rfl⟩
 try dsimp only at hI hK2
 obtain ⟨hF,hM,hz2,hz3,hz4⟩:=hI
 refine wp_seq_k fun K10 hK10=>wp_skip (hK10 _ _ (wp_seq_k fun K11 hK11=>wp_seq_k fun K12 hK12=>wp_region_lit (xB 2 [(16,iv (u - sumL ge i)),(17,pt bb1 0)] hF fun a hF=>wl (xL 18 2 0 (v:=.slice A ge.length gc) hF hM fun a w hF hM=>xB 1 [(19,iv (i:Int))] hF fun a hF=>wl (xM 20 (v:=.pointer (some (ea A (i * 2)))) hF hM (yld_ix (kd:=.i64) (e:=31) (len:=ge.length) (cap:=gc) (i:=(i:Int)) (size:=2) (A:=A) hF rfl (by kernel_rfl) (by kernel_rfl) (by kernel_rfl) (by kernel_rfl) (by kernel_rfl) (roK 1 rfl) (by omega) (by omega) (by rw [flat2_length]; omega)) fun a w hF hM=>xB 1 [(21,.pointer (some (ea A (i * 2 + 1))))] hF fun a hF=>wl (xM 22 (v:=iv (pr ge i).2) hF hM (yld_ro1 (A:=A) (j:=i * 2 + 1) hF rfl (by kernel_rfl) (by kernel_rfl) (roK 1 rfl) (by kernel_rfl) (pr_snd (k:=i) (by omega) (by omega))) fun a w hF hM=>?_))))))
 have:=hgp i (by omega)
 refine xB 1 [(23,.bool (decide ((pr ge i).2 ≤ u - sumL ge i)))] hF fun a hF=>wpList_nil (hK12 _ _ ?_)
 by_cases hz5:(pr ge i).2 ≤ u - sumL ge i
 ·replace hF:=hF.c hF (i:=23) (v:=.bool true) rfl (bT hz5)
  refine xT hF (wp_seq_k fun K13 hK13=>wp_region_lit (xB 2 [(24,iv (u - sumL ge i)),(25,pt bb1 0)] hF fun a hF=>wl (xL 26 2 0 (v:=.slice A ge.length gc) hF hM fun a w hF hM=>xB 1 [(27,iv (i:Int))] hF fun a hF=>wl (xM 28 (v:=.pointer (some (ea A (i * 2)))) hF hM (yld_ix (kd:=.i64) (e:=31) (len:=ge.length) (cap:=gc) (i:=(i:Int)) (size:=2) (A:=A) hF rfl (by kernel_rfl) (by kernel_rfl) (by kernel_rfl) (by kernel_rfl) (by kernel_rfl) (roK 1 rfl) (by omega) (by omega) (by rw [flat2_length]; omega)) fun a w hF hM=>xB 1 [(29,.pointer (some (ea A (i * 2 + 1))))] hF fun a hF=>wl (xM 30 (v:=iv (pr ge i).2) hF hM (yld_ro1 (A:=A) (j:=i * 2 + 1) hF rfl (by kernel_rfl) (by kernel_rfl) (roK 1 rfl) (by kernel_rfl) (pr_snd (k:=i) (by omega) (by omega))) fun a w hF hM=>?_)))))
  have:=hgp i (by omega)
  refine wl (xP 31 (v0:=.int .i64 (IntKind.i64.wrap (u - sumL ge i - (pr ge i).2))) (v:=iv (u - sumL ge i - (pr ge i).2)) hF (wi (by omega)) fun a hF=>xB 1 [(1,iv (u - sumL ge i - (pr ge i).2))] hF fun a hF=>wpList_nil (hK13 _ _ (wp_seq_k fun K14 hK14=>wp_region_lit (xB 1 [(32,iv (i:Int))] hF fun a hF=>wl (xP 33 (v0:=.int .i64 (IntKind.i64.wrap ((i:Int) + 1))) (v:=iv ((i:Int) + 1)) hF (wi (by omega)) fun a hF=>xB 1 [(4,iv ((i:Int) + 1))] hF fun a hF=>wpList_nil (hK14 _ _ ?_))))))
  have hsn:sumL ge (i + 1)=sumL ge i + (pr ge i).2:=rfl
  have hi1:=find_next (i:=i) h hub.2 (by omega) (by omega)
  exact wp_goto (And.intro (rfl:0=0) (hK2 (i + 1) _ _ ⟨((((Fr.nil hF).c hF (i:=2) rfl rfl).c hF (i:=4) rfl (vi (show ((i:Int) + 1:Int)=((i + 1):Int) from by omega))).c hF (i:=1) rfl (vi (show (u - sumL ge i - (pr ge i).2:Int)=u - sumL ge (i + 1) from by omega))),(hM.sub ((Sub.nil.c (k:=2) rfl rfl).c (k:=1) rfl rfl)),(show ((i + 1):Int) < (ge.length:Int) from by omega),(show sumL ge (i + 1) ≤ u from by omega),(show 0 ≤ sumL ge (i + 1) from by omega)⟩ (show ge.length - (i + 1) < ge.length - i from by omega)))
 replace hF:=hF.c hF (i:=23) (v:=.bool false) rfl (bF hz5)
 refine xF hF (wp_skip (hK11 _ _ (wp_seq_k fun K15 hK15=>rQ hM (by kernel_rfl) (by kernel_rfl) (xQ 34 (v0:=iv (i:Int)) (v:=iv (i:Int)) hF rfl fun a hF=>xQ 35 (v0:=pt bb1 0) (v:=pt bb1 0) hF rfl fun a hF=>xK 36 2 0 (v:=.slice A ge.length gc) hF fun a hF=>xQ 37 (v0:=iv (i:Int)) (v:=iv (i:Int)) hF rfl fun a hF=>xR 38 (v:=.pointer (some (ea A (i * 2)))) hF (yld_ix (kd:=.i64) (e:=31) (len:=ge.length) (cap:=gc) (i:=(i:Int)) (size:=2) (A:=A) hF rfl (by kernel_rfl) (by kernel_rfl) (by kernel_rfl) (by kernel_rfl) (by kernel_rfl) (roK 1 rfl) (by omega) (by omega) (by rw [flat2_length]; omega)) fun a hF=>xQ 39 (v0:=.pointer (some (ea A (i * 2 + 1)))) (v:=.pointer (some (ea A (i * 2 + 1)))) hF rfl fun a hF=>xR 40 (v:=iv (pr ge i).2) hF (yld_ro1 (A:=A) (j:=i * 2 + 1) hF rfl (by kernel_rfl) (by kernel_rfl) (roK 1 rfl) (by kernel_rfl) (pr_snd (k:=i) (by omega) (by omega))) fun a hF=>?_))))
 have:=hgp i (by omega)
 refine xQ 41 (v0:=iv (u - sumL ge i)) (v:=iv (u - sumL ge i)) hF rfl fun a hF=>xQ 42 (v0:=.int .i64 (IntKind.i64.wrap ((pr ge i).2 - (u - sumL ge i)))) (v:=iv ((pr ge i).2 - (u - sumL ge i))) hF (wi (by omega)) fun a hF=>xQ 4 (v0:=iv (i:Int)) (v:=iv (i:Int)) hF rfl fun a hF=>xQ 5 (v0:=iv ((pr ge i).2 - (u - sumL ge i))) (v:=iv ((pr ge i).2 - (u - sumL ge i))) hF rfl fun a hF=>wpQuiet_nil ?_
 intro w hM
 refine hK15 _ _ (wp_ret (hR0 _ _ (ret_of hF hM (.tmp rfl (.tmp rfl (.nil))) ?_)))
 have hsn:sumL ge (i + 1)=sumL ge i + (pr ge i).2:=rfl
 have hf:fI ge u=i:=fI_eq (fun j hj=>(hgp j hj).2.2.1) (by omega) (by omega) (by omega)
 rw [hu]
 exact ⟨ret_eq (by rw [hf,hsn]; exact congrArg (fun z=>Value.tuple #[.int .i64 _,.int .i64 z]) (show _=_ by omega)),hM.bel⟩
end Go.Proofs.YtlngflbamkgjlaaGreat
namespace Go.Proofs.YtlngflbamkgjlaaGreat
open Go.RowKit
set_option linter.unusedVariables false
set_option linter.unusedSimpArgs false
set_option maxRecDepth 100000
def bitI (m c:Int):Int:=m.fdiv (2 ^ min c.toNat 64) % 2
theorem and_one {x:Int} (h0:0 ≤ x) (h1:x < 4611686018427387904):IntKind.i64.wrap ((BitVec.ofInt 64 x &&& BitVec.ofInt 64 1).toNat:Int)=x % 2:=by
  obtain ⟨n,rfl⟩:=Int.eq_ofNat_of_zero_le h0
  have e:((BitVec.ofInt 64 (n:Int) &&& BitVec.ofInt 64 1).toNat:Int)=((n % 2:Nat):Int):=by
    congr 1
    rw [BitVec.toNat_and,BitVec.ofInt_natCast,BitVec.toNat_ofNat,Nat.mod_eq_of_lt (show n < 2 ^ 64 by omega)]
    exact Nat.and_one_is_mod n
  rw [e,w64 (by omega)]
  omega
theorem fdiv_bd {m:Int} (h:0 ≤ m ∧ m ≤ 255) (k:Nat):0 ≤ m.fdiv (2 ^ k) ∧ m.fdiv (2 ^ k) ≤ 255:=by
  have hp:(0:Int) < 2 ^ k:=Int.pow_pos (by decide)
  rw [Int.fdiv_eq_ediv_of_nonneg _ (by omega)]
  exact ⟨Int.ediv_nonneg h.1 (by omega),Int.le_trans (Int.ediv_le_self _ h.1) h.2⟩
theorem modC (i n:Nat):((i:Int) + 1).tmod (n:Int)=(((i + 1) % n:Nat):Int):=by
  rw [Int.tmod_eq_emod_of_nonneg (by omega)]
  simp [Int.natCast_emod]
def strF (ge:List (Int × Int)) (cyc:Int) (p:Int → Bool):Nat → Nat → Int → Int → Int
  | 0, _, _, _ => cyc
  | f + 1, i, l, n => if p (pr ge i).1 = true then strF ge cyc p f ((i + 1) % ge.length) (pr ge ((i + 1) % ge.length)).2 (n + l) else n
def strI (ge:List (Int × Int)) (cyc t:Int) (p:Int → Bool):Int:=strF ge cyc p (ge.length + 1) (fI ge (t % cyc)) (sumL ge (fI ge (t % cyc) + 1) - t % cyc) 0
def opB (c m:Int):Bool:=decide (bitI m c=1)
def clB (c m:Int):Bool:=decide (bitI m c=0)
theorem fI_lt {ge:List (Int × Int)} {cyc u:Int} (h:gaE ge cyc=0) (h0:0 ≤ u) (hu:u < cyc):fI ge u < ge.length ∧ sumL ge (fI ge u) ≤ u ∧ u < sumL ge (fI ge u + 1):=by
  have hg:=(ga_p h).2.2.1
  have hm:∀ j,j < ge.length → 1 ≤ (pr ge j).2:=fun j hj=>(hg j hj).2.2.1
  have key:∀ n:Nat,n ≤ ge.length → u < sumL ge n → ∃ i,i < n ∧ sumL ge i ≤ u ∧ u < sumL ge (i + 1):=by
    intro n
    induction n with
    | zero => intro _ h2; simp [sumL] at h2; omega
    | succ n ih =>
      intro h1 h2
      by_cases q:u < sumL ge n
      · obtain ⟨i,a,b,c⟩:=ih (by omega) q
        exact ⟨i,by omega,b,c⟩
      · exact ⟨n,by omega,by omega,h2⟩
  obtain ⟨i,a,b,c⟩:=key ge.length (Nat.le_refl _) (by rw [(ga_pos h).2.2.2]; exact hu)
  have e:=fI_eq hm a b c
  rw [e]
  exact ⟨a,b,c⟩
theorem str_next {ge:List (Int × Int)} {cyc:Int} {p:Int → Bool} {k i i2:Nat} {x l n:Int} (h:x=strF ge cyc p (ge.length + 1 - k) i l n) (hk:k < ge.length + 1) (hp:p (pr ge i).1=true) (hi:(i + 1) % ge.length=i2):x=strF ge cyc p (ge.length + 1 - (k + 1)) i2 (pr ge i2).2 (n + l):=by
  rw [show ge.length + 1 - k=(ge.length + 1 - (k + 1)) + 1 by omega] at h
  rw [h,strF,if_pos hp,hi]
theorem str_stop {ge:List (Int × Int)} {cyc:Int} {p:Int → Bool} {k i:Nat} {x l n:Int} (h:x=strF ge cyc p (ge.length + 1 - k) i l n) (hk:k < ge.length + 1) (hp:p (pr ge i).1=false):x=n:=by
  rw [show ge.length + 1 - k=(ge.length + 1 - (k + 1)) + 1 by omega] at h
  rw [h,strF,if_neg (by rw [hp]; decide)]
theorem str_end {ge:List (Int × Int)} {cyc:Int} {p:Int → Bool} {k i:Nat} {x l n:Int} (h:x=strF ge cyc p (ge.length + 1 - k) i l n) (hk:ge.length + 1 ≤ k):x=cyc:=by
  rw [show ge.length + 1 - k=0 by omega] at h
  exact h
set_option maxHeartbeats 4000000 in
theorem gaStr_op (A:Option Addr) (ge:List (Int × Int)) (gc:Nat) (cyc:Int) (t c:Int) (D:Nat) (w0:World) (hA:Ro w0 A (flat2 ge)) (hD:Ro w0 (some ⟨D,0,none⟩) [.int .i64 c]) (h:gaE ge cyc=0) (hc:0 ≤ c ∧ c ≤ 7) (ht:-4398046511104 ≤ t ∧ t ≤ 4398046511104) :
    Calls Tryz.prog 101 #[.agg #[.slice A ge.length gc,iv cyc],iv t,.func (.func 102) #[] #[pt D 0]] w0 (Ret w0 (.int .i64 (strI ge cyc t (opB c)))):=by
 have hgp:=(ga_p h).2.2.1
 have hgs:=ga_pos h
 refine enterK 50 Tryz.func101 rfl rfl rfl ?_
 intro a hF Q0 hR0 hN0
 have hM:=Mem.start w0
 replace hM:=hM.addOld 1 hA (Nat.le_refl _)
 replace hM:=hM.addOld 2 hD (Nat.le_refl _)
 refine wp_seq_k fun K1 hK1=>wp_region_lit (wl (xN 3 3 (t:=29) (fun b=>.pointer (some ⟨b,0,none⟩)) #[.slice A ge.length gc,iv cyc] hF hM fun bb1 a w hF hM=>xB 1 [(6,iv 0)] hF fun a hF=>wpList_nil (hK1 _ _ (wp_seq_k fun K2 hK2=>wp_region_lit (wl (xL 11 3 0 (v:=.agg #[.slice A ge.length gc,iv cyc]) hF hM fun a w hF hM=>xB 1 [(12,iv t)] hF fun a hF=>?_))))))
 obtain ⟨i0,hi0⟩:∃ z:Nat,fI ge (t % cyc)=z:=⟨_,rfl⟩
 obtain ⟨l0,hl0⟩:∃ z:Int,sumL ge (i0 + 1) - t % cyc=z:=⟨_,rfl⟩
 refine wl (xM 13 (v:=.tuple #[iv (i0:Int),iv l0]) hF hM (xC 116 #[.agg #[.slice A ge.length gc,iv cyc],iv t] hF (fun w hM=>by have:=gaFind_w A ge gc cyc t w (hM.ok 1 _ rfl) h (by omega); rw [hi0,hl0] at this; exact this)) fun a w hF hM=>xB 5 [(10,.tuple #[iv (i0:Int),iv l0]),(14,iv (i0:Int)),(15,iv l0),(7,iv (i0:Int)),(8,iv l0)] hF fun a hF=>wpList_nil (hK2 _ _ (wp_seq_k fun K3 hK3=>wp_region_lit (xB 1 [(9,iv 0)] hF fun a hF=>wpList_nil (hK3 _ _ (wp_seq_k fun K4 hK4=>wp_seq_k fun K5 hK5=>?_))))))
 have hfl:=fI_lt (u:=t % cyc) h (Int.emod_nonneg _ (by omega)) (Int.emod_lt_of_pos _ (by omega))
 rw [hi0] at hfl
 have hsn0:sumL ge (i0 + 1)=sumL ge i0 + (pr ge i0).2:=rfl
 have hb0:=hgp i0 hfl.1
 have hl1:1 ≤ l0 ∧ l0 ≤ 9600000:=by omega
 refine wp_region_lit (xB 1 [(16,pt bb1 0)] hF fun a hF=>wl (xL 17 3 0 (v:=.slice A ge.length gc) hF hM fun a w hF hM=>xB 1 [(18,iv (ge.length:Int))] hF fun a hF=>wl (xP 19 (v0:=.int .i64 (IntKind.i64.wrap ((ge.length:Int) + 1))) (v:=iv ((ge.length:Int) + 1)) hF (wi (by omega)) fun a hF=>xB 1 [(20,iv 0)] hF fun a hF=>wpList_nil (hK5 _ _ (wp_block (wp_loop_k (G:=Nat × Nat × Int × Int) (fun gg a w=>Fr 50 [(7,some (iv (gg.2.1:Int))),(8,some (iv gg.2.2.1)),(9,some (iv gg.2.2.2)),(20,some (iv (gg.1:Int))),(2,some (.func (.func 102) #[] #[pt D 0])),(3,some (pt bb1 0)),(19,some (iv ((ge.length:Int) + 1)))] a ∧ Mem w0.heap.size w0 [(1,some (.ro A (flat2 ge))),(2,some (.ro (some ⟨D,0,none⟩) [iv c])),(3,some (.row bb1 29 #[.slice A ge.length gc,iv cyc]))] w ∧ ((gg.1:Int) ≤ (ge.length:Int) + 1) ∧ ((gg.2.1:Int) < (ge.length:Int)) ∧ (1 ≤ gg.2.2.1 ∧ gg.2.2.1 ≤ 9600000) ∧ (0 ≤ gg.2.2.2 ∧ gg.2.2.2 ≤ 9600000 * (gg.1:Int)) ∧ (strF ge cyc (opB c) (ge.length + 1) i0 l0 0=strF ge cyc (opB c) (ge.length + 1 - gg.1) gg.2.1 gg.2.2.1 gg.2.2.2)) (fun gg=>ge.length + 1 - gg.1) (0,i0,l0,0) ?_ ?_))))))
 ·refine ⟨((((((((Fr.nil hF).c hF (i:=19) rfl rfl).c hF (i:=3) rfl rfl).c hF (i:=2) rfl rfl).c hF (i:=20) rfl (vi (show (0:Int)=(0:Int) from by omega))).c hF (i:=9) rfl rfl).c hF (i:=8) rfl rfl).c hF (i:=7) rfl rfl),(hM.sub (((Sub.nil.c (k:=3) rfl rfl).c (k:=2) rfl rfl).c (k:=1) rfl rfl)),(show (0:Int) ≤ (ge.length:Int) + 1 from by omega),(show (i0:Int) < (ge.length:Int) from by omega),(show 1 ≤ l0 ∧ l0 ≤ 9600000 from by omega),(show 0 ≤ 0 ∧ 0 ≤ 9600000 * (0:Int) from by omega),(show strF ge cyc (opB c) (ge.length + 1) i0 l0 0=strF ge cyc (opB c) (ge.length + 1 - 0) i0 l0 0 from by rfl)⟩
 intro gg a w hI
 intro K6 hK6
 obtain ⟨k,i,l,n⟩:=gg
 try dsimp only at hI hK6
 obtain ⟨hF,hM,hz1,hz2,hz3,hz4,hz5⟩:=hI
 refine wp_seq_k fun K7 hK7=>wp_region_lit (xB 1 [(21,.bool (decide ((k:Int) < (ge.length:Int) + 1)))] hF fun a hF=>wpList_nil (hK7 _ _ (wp_seq_k fun K8 hK8=>?_)))
 by_cases hz6:(k:Int) < (ge.length:Int) + 1
 ·replace hF:=hF.c hF (i:=21) (v:=.bool true) rfl (bT hz6)
  refine xT hF (wp_skip (hK8 _ _ (wp_seq_k fun K9 hK9=>wp_block (wp_seq_k fun K10 hK10=>wp_seq_k fun K11 hK11=>wp_region_lit (xB 2 [(22,.func (.func 102) #[] #[pt D 0]),(23,pt bb1 0)] hF fun a hF=>wl (xL 24 3 0 (v:=.slice A ge.length gc) hF hM fun a w hF hM=>xB 1 [(25,iv (i:Int))] hF fun a hF=>wl (xM 26 (v:=.pointer (some (ea A (i * 2)))) hF hM (yld_ix (kd:=.i64) (e:=31) (len:=ge.length) (cap:=gc) (i:=(i:Int)) (size:=2) (A:=A) hF rfl (by kernel_rfl) (by kernel_rfl) (by kernel_rfl) (by kernel_rfl) (by kernel_rfl) (roK 1 rfl) (by omega) (by omega) (by rw [flat2_length]; omega)) fun a w hF hM=>?_)))))))
  refine xB 1 [(27,.pointer (some (ea A (i * 2))))] hF fun a hF=>wl (xM 28 (v:=iv (pr ge i).1) hF hM (yld_ro1 (A:=A) (j:=i * 2) hF rfl (by kernel_rfl) (by kernel_rfl) (roK 1 rfl) (by kernel_rfl) (pr_fst (k:=i) (by omega) (by omega))) fun a w hF hM=>?_)
  have:=hgp i (by omega)
  refine wl (sC (f:=102) (args:=#[iv (pr ge i).1,pt D 0]) hF (by kernel_rfl) rfl (by decide) (by kernel_rfl) (fun _=>by kernel_rfl) (enterK 9 Tryz.func102 rfl rfl rfl ?_))
  intro a1 hF1 QR12 hR12 hNR12
  refine wp_seq_k fun K13 hK13=>wp_region_lit (xB 1 [(3,.bool false)] hF1 fun a1 hF1=>wpList_nil (hK13 _ _ (wp_seq_k fun K14 hK14=>wp_region_lit (xB 1 [(4,iv (pr ge i).1)] hF1 fun a1 hF1=>wl (xM 5 (v:=iv c) hF1 hM (yld_ro1 (A:=(some ⟨D,0,none⟩)) (j:=0) hF1 rfl (by kernel_rfl) (by kernel_rfl) (roK 2 rfl) (by kernel_rfl) rfl) fun a1 w hF1 hM=>?_)))))
  have hfd:=fdiv_bd (m:=(pr ge i).1) (by omega) (min c.toNat 64)
  obtain ⟨sb,hsb⟩:∃ z:Int,((pr ge i).1).fdiv (2 ^ min c.toNat 64)=z:=⟨_,rfl⟩
  rw [hsb] at hfd
  refine wl (xM 6 (v:=iv sb) hF1 hM (yld_shr (yk:=.i64) (pr ge i).1 c hF1 rfl (by kernel_rfl) (by kernel_rfl) (by kernel_rfl) (by omega) (hsb)) fun a1 w hF1 hM=>?_)
  obtain ⟨sc,hsc⟩:∃ z:Int,bitI ((pr ge i).1) c=z:=⟨_,rfl⟩
  refine wl (xP 7 (v0:=.int .i64 (IntKind.i64.wrap ((BitVec.ofInt 64 sb &&& BitVec.ofInt 64 1).toNat:Int))) (v:=iv sc) hF1 (vi ((and_one (by omega) (by omega)).trans (by rw [← hsb]; exact hsc))) fun a1 hF1=>xB 2 [(8,.bool (decide (sc=1))),(3,.bool (decide (sc=1)))] hF1 fun a1 hF1=>wpList_nil (hK14 _ _ (wp_ret (hR12 _ _ (ret_of hF1 hM (.tmp rfl (.nil)) ⟨_,rfl,?_⟩)))))
  intro a hF
  refine xB 1 [(30,.bool (!decide (sc=1)))] hF fun a hF=>wpList_nil (hK11 _ _ ?_)
  by_cases hz7:sc=1
  ·replace hF:=hF.c hF (i:=29) (v:=.bool true) rfl (bT hz7)
   replace hF:=hF.c hF (i:=30) (v:=.bool false) rfl (nT hz7)
   refine xF hF (wp_skip (hK10 _ _ (wp_seq_k fun K15 hK15=>wp_region_lit (xB 2 [(32,iv n),(33,iv l)] hF fun a hF=>wl (xP 34 (v0:=.int .i64 (IntKind.i64.wrap (n + l))) (v:=iv (n + l)) hF (wi (by omega)) fun a hF=>xB 1 [(9,iv (n + l))] hF fun a hF=>wpList_nil (hK15 _ _ (wp_seq_k fun K16 hK16=>wp_region_lit ?_)))))))
   refine xB 1 [(35,iv (i:Int))] hF fun a hF=>wl (xP 36 (v0:=.int .i64 (IntKind.i64.wrap ((i:Int) + 1))) (v:=iv ((i:Int) + 1)) hF (wi (by omega)) fun a hF=>xB 1 [(37,pt bb1 0)] hF fun a hF=>wl (xL 38 3 0 (v:=.slice A ge.length gc) hF hM fun a w hF hM=>xB 1 [(39,iv (ge.length:Int))] hF fun a hF=>?_))
   obtain ⟨i2,hi2⟩:∃ z:Nat,(i + 1) % ge.length=z:=⟨_,rfl⟩
   have hi2l:i2 < ge.length:=by rw [← hi2]; exact Nat.mod_lt _ (by omega)
   refine wl (xM 40 (v:=iv (i2:Int)) hF hM (yld_rem ((i:Int) + 1) (ge.length:Int) hF rfl (by kernel_rfl) (by kernel_rfl) (by kernel_rfl) (by omega) ((modC i ge.length).trans (by rw [hi2]))) fun a w hF hM=>xB 1 [(7,iv (i2:Int))] hF fun a hF=>wpList_nil (hK16 _ _ (wp_region_lit (xB 1 [(41,pt bb1 0)] hF fun a hF=>wl (xL 42 3 0 (v:=.slice A ge.length gc) hF hM fun a w hF hM=>xB 1 [(43,iv (i2:Int))] hF fun a hF=>wl (xM 44 (v:=.pointer (some (ea A (i2 * 2)))) hF hM (yld_ix (kd:=.i64) (e:=31) (len:=ge.length) (cap:=gc) (i:=(i2:Int)) (size:=2) (A:=A) hF rfl (by kernel_rfl) (by kernel_rfl) (by kernel_rfl) (by kernel_rfl) (by kernel_rfl) (roK 1 rfl) (by omega) (by omega) (by rw [flat2_length]; omega)) fun a w hF hM=>xB 1 [(45,.pointer (some (ea A (i2 * 2 + 1))))] hF fun a hF=>wl (xM 46 (v:=iv (pr ge i2).2) hF hM (yld_ro1 (A:=A) (j:=i2 * 2 + 1) hF rfl (by kernel_rfl) (by kernel_rfl) (roK 1 rfl) (by kernel_rfl) (pr_snd (k:=i2) (by omega) (by omega))) fun a w hF hM=>?_)))))))
   have:=hgp i2 (by omega)
   refine xB 1 [(8,iv (pr ge i2).2)] hF fun a hF=>wpList_nil (hK9 _ _ (wp_region_lit (wl (xP 47 (v0:=.int .i64 (IntKind.i64.wrap ((k:Int) + 1))) (v:=iv ((k:Int) + 1)) hF (wi (by omega)) fun a hF=>xB 1 [(20,iv ((k:Int) + 1))] hF fun a hF=>wpList_nil (hK6 _ _ ⟨(k + 1,i2,(pr ge i2).2,n + l),⟨((((((((Fr.nil hF).c hF (i:=19) rfl rfl).c hF (i:=3) rfl rfl).c hF (i:=2) rfl rfl).c hF (i:=20) rfl (vi (show ((k:Int) + 1:Int)=((k + 1):Int) from by omega))).c hF (i:=9) rfl rfl).c hF (i:=8) rfl rfl).c hF (i:=7) rfl rfl),(hM.sub (((Sub.nil.c (k:=3) rfl rfl).c (k:=2) rfl rfl).c (k:=1) rfl rfl)),(show ((k + 1):Int) ≤ (ge.length:Int) + 1 from by omega),(show (i2:Int) < (ge.length:Int) from by omega),(show 1 ≤ (pr ge i2).2 ∧ (pr ge i2).2 ≤ 9600000 from by omega),(show 0 ≤ (n + l) ∧ (n + l) ≤ 9600000 * ((k + 1):Int) from by omega),(show strF ge cyc (opB c) (ge.length + 1) i0 l0 0=strF ge cyc (opB c) (ge.length + 1 - (k + 1)) i2 (pr ge i2).2 (n + l) from by exact str_next (by assumption) (by omega) (decide_eq_true (show bitI (pr ge i).1 c=1 by omega)) hi2)⟩,(show ge.length + 1 - (k + 1) < ge.length + 1 - k from by omega)⟩)))))
  replace hF:=hF.c hF (i:=29) (v:=.bool false) rfl (bF hz7)
  replace hF:=hF.c hF (i:=30) (v:=.bool true) rfl (nF hz7)
  refine xT hF (wp_seq_k fun K17 hK17=>wp_region_lit (xB 2 [(31,iv n),(6,iv n)] hF fun a hF=>wpList_nil (hK17 _ _ (wp_ret (hR0 _ _ (ret_of hF hM (.tmp rfl (.nil)) (⟨ret_int (by unfold strI; rw [hi0,hl0]; exact (str_stop (by assumption) (by omega) (decide_eq_false (show ¬ bitI (pr ge i).1 c=1 by omega))).symm),hM.bel⟩)))))))
 replace hF:=hF.c hF (i:=21) (v:=.bool false) rfl (bF hz6)
 refine xF hF (wp_exit (hK4 _ _ (wp_seq_k fun K18 hK18=>wp_region_lit (xB 1 [(48,pt bb1 1)] hF fun a hF=>wl (xL 49 3 1 (v:=iv cyc) hF hM fun a w hF hM=>xB 1 [(6,iv cyc)] hF fun a hF=>wpList_nil (hK18 _ _ (wp_ret (hR0 _ _ ?_))))))))
 refine ret_of hF hM (.tmp rfl (.nil)) (⟨ret_int (by unfold strI; rw [hi0,hl0]; exact (str_end (by assumption) (by omega)).symm),hM.bel⟩)
set_option maxHeartbeats 4000000 in
theorem gaStr_cl (A:Option Addr) (ge:List (Int × Int)) (gc:Nat) (cyc:Int) (t c:Int) (D:Nat) (w0:World) (hA:Ro w0 A (flat2 ge)) (hD:Ro w0 (some ⟨D,0,none⟩) [.int .i64 c]) (h:gaE ge cyc=0) (hc:0 ≤ c ∧ c ≤ 7) (ht:-4398046511104 ≤ t ∧ t ≤ 4398046511104) :
    Calls Tryz.prog 101 #[.agg #[.slice A ge.length gc,iv cyc],iv t,.func (.func 117) #[] #[pt D 0]] w0 (Ret w0 (.int .i64 (strI ge cyc t (clB c)))):=by
 have hgp:=(ga_p h).2.2.1
 have hgs:=ga_pos h
 refine enterK 50 Tryz.func101 rfl rfl rfl ?_
 intro a hF Q0 hR0 hN0
 have hM:=Mem.start w0
 replace hM:=hM.addOld 1 hA (Nat.le_refl _)
 replace hM:=hM.addOld 2 hD (Nat.le_refl _)
 refine wp_seq_k fun K1 hK1=>wp_region_lit (wl (xN 3 3 (t:=29) (fun b=>.pointer (some ⟨b,0,none⟩)) #[.slice A ge.length gc,iv cyc] hF hM fun bb1 a w hF hM=>xB 1 [(6,iv 0)] hF fun a hF=>wpList_nil (hK1 _ _ (wp_seq_k fun K2 hK2=>wp_region_lit (wl (xL 11 3 0 (v:=.agg #[.slice A ge.length gc,iv cyc]) hF hM fun a w hF hM=>xB 1 [(12,iv t)] hF fun a hF=>?_))))))
 obtain ⟨i0,hi0⟩:∃ z:Nat,fI ge (t % cyc)=z:=⟨_,rfl⟩
 obtain ⟨l0,hl0⟩:∃ z:Int,sumL ge (i0 + 1) - t % cyc=z:=⟨_,rfl⟩
 refine wl (xM 13 (v:=.tuple #[iv (i0:Int),iv l0]) hF hM (xC 116 #[.agg #[.slice A ge.length gc,iv cyc],iv t] hF (fun w hM=>by have:=gaFind_w A ge gc cyc t w (hM.ok 1 _ rfl) h (by omega); rw [hi0,hl0] at this; exact this)) fun a w hF hM=>xB 5 [(10,.tuple #[iv (i0:Int),iv l0]),(14,iv (i0:Int)),(15,iv l0),(7,iv (i0:Int)),(8,iv l0)] hF fun a hF=>wpList_nil (hK2 _ _ (wp_seq_k fun K3 hK3=>wp_region_lit (xB 1 [(9,iv 0)] hF fun a hF=>wpList_nil (hK3 _ _ (wp_seq_k fun K4 hK4=>wp_seq_k fun K5 hK5=>?_))))))
 have hfl:=fI_lt (u:=t % cyc) h (Int.emod_nonneg _ (by omega)) (Int.emod_lt_of_pos _ (by omega))
 rw [hi0] at hfl
 have hsn0:sumL ge (i0 + 1)=sumL ge i0 + (pr ge i0).2:=rfl
 have hb0:=hgp i0 hfl.1
 have hl1:1 ≤ l0 ∧ l0 ≤ 9600000:=by omega
 refine wp_region_lit (xB 1 [(16,pt bb1 0)] hF fun a hF=>wl (xL 17 3 0 (v:=.slice A ge.length gc) hF hM fun a w hF hM=>xB 1 [(18,iv (ge.length:Int))] hF fun a hF=>wl (xP 19 (v0:=.int .i64 (IntKind.i64.wrap ((ge.length:Int) + 1))) (v:=iv ((ge.length:Int) + 1)) hF (wi (by omega)) fun a hF=>xB 1 [(20,iv 0)] hF fun a hF=>wpList_nil (hK5 _ _ (wp_block (wp_loop_k (G:=Nat × Nat × Int × Int) (fun gg a w=>Fr 50 [(7,some (iv (gg.2.1:Int))),(8,some (iv gg.2.2.1)),(9,some (iv gg.2.2.2)),(20,some (iv (gg.1:Int))),(2,some (.func (.func 117) #[] #[pt D 0])),(3,some (pt bb1 0)),(19,some (iv ((ge.length:Int) + 1)))] a ∧ Mem w0.heap.size w0 [(1,some (.ro A (flat2 ge))),(2,some (.ro (some ⟨D,0,none⟩) [iv c])),(3,some (.row bb1 29 #[.slice A ge.length gc,iv cyc]))] w ∧ ((gg.1:Int) ≤ (ge.length:Int) + 1) ∧ ((gg.2.1:Int) < (ge.length:Int)) ∧ (1 ≤ gg.2.2.1 ∧ gg.2.2.1 ≤ 9600000) ∧ (0 ≤ gg.2.2.2 ∧ gg.2.2.2 ≤ 9600000 * (gg.1:Int)) ∧ (strF ge cyc (clB c) (ge.length + 1) i0 l0 0=strF ge cyc (clB c) (ge.length + 1 - gg.1) gg.2.1 gg.2.2.1 gg.2.2.2)) (fun gg=>ge.length + 1 - gg.1) (0,i0,l0,0) ?_ ?_))))))
 ·refine ⟨((((((((Fr.nil hF).c hF (i:=19) rfl rfl).c hF (i:=3) rfl rfl).c hF (i:=2) rfl rfl).c hF (i:=20) rfl (vi (show (0:Int)=(0:Int) from by omega))).c hF (i:=9) rfl rfl).c hF (i:=8) rfl rfl).c hF (i:=7) rfl rfl),(hM.sub (((Sub.nil.c (k:=3) rfl rfl).c (k:=2) rfl rfl).c (k:=1) rfl rfl)),(show (0:Int) ≤ (ge.length:Int) + 1 from by omega),(show (i0:Int) < (ge.length:Int) from by omega),(show 1 ≤ l0 ∧ l0 ≤ 9600000 from by omega),(show 0 ≤ 0 ∧ 0 ≤ 9600000 * (0:Int) from by omega),(show strF ge cyc (clB c) (ge.length + 1) i0 l0 0=strF ge cyc (clB c) (ge.length + 1 - 0) i0 l0 0 from by rfl)⟩
 intro gg a w hI
 intro K6 hK6
 obtain ⟨k,i,l,n⟩:=gg
 try dsimp only at hI hK6
 obtain ⟨hF,hM,hz1,hz2,hz3,hz4,hz5⟩:=hI
 refine wp_seq_k fun K7 hK7=>wp_region_lit (xB 1 [(21,.bool (decide ((k:Int) < (ge.length:Int) + 1)))] hF fun a hF=>wpList_nil (hK7 _ _ (wp_seq_k fun K8 hK8=>?_)))
 by_cases hz6:(k:Int) < (ge.length:Int) + 1
 ·replace hF:=hF.c hF (i:=21) (v:=.bool true) rfl (bT hz6)
  refine xT hF (wp_skip (hK8 _ _ (wp_seq_k fun K9 hK9=>wp_block (wp_seq_k fun K10 hK10=>wp_seq_k fun K11 hK11=>wp_region_lit (xB 2 [(22,.func (.func 117) #[] #[pt D 0]),(23,pt bb1 0)] hF fun a hF=>wl (xL 24 3 0 (v:=.slice A ge.length gc) hF hM fun a w hF hM=>xB 1 [(25,iv (i:Int))] hF fun a hF=>wl (xM 26 (v:=.pointer (some (ea A (i * 2)))) hF hM (yld_ix (kd:=.i64) (e:=31) (len:=ge.length) (cap:=gc) (i:=(i:Int)) (size:=2) (A:=A) hF rfl (by kernel_rfl) (by kernel_rfl) (by kernel_rfl) (by kernel_rfl) (by kernel_rfl) (roK 1 rfl) (by omega) (by omega) (by rw [flat2_length]; omega)) fun a w hF hM=>?_)))))))
  refine xB 1 [(27,.pointer (some (ea A (i * 2))))] hF fun a hF=>wl (xM 28 (v:=iv (pr ge i).1) hF hM (yld_ro1 (A:=A) (j:=i * 2) hF rfl (by kernel_rfl) (by kernel_rfl) (roK 1 rfl) (by kernel_rfl) (pr_fst (k:=i) (by omega) (by omega))) fun a w hF hM=>?_)
  have:=hgp i (by omega)
  refine wl (sC (f:=117) (args:=#[iv (pr ge i).1,pt D 0]) hF (by kernel_rfl) rfl (by decide) (by kernel_rfl) (fun _=>by kernel_rfl) (enterK 9 Tryz.func117 rfl rfl rfl ?_))
  intro a1 hF1 QR12 hR12 hNR12
  refine wp_seq_k fun K13 hK13=>wp_region_lit (xB 1 [(3,.bool false)] hF1 fun a1 hF1=>wpList_nil (hK13 _ _ (wp_seq_k fun K14 hK14=>wp_region_lit (xB 1 [(4,iv (pr ge i).1)] hF1 fun a1 hF1=>wl (xM 5 (v:=iv c) hF1 hM (yld_ro1 (A:=(some ⟨D,0,none⟩)) (j:=0) hF1 rfl (by kernel_rfl) (by kernel_rfl) (roK 2 rfl) (by kernel_rfl) rfl) fun a1 w hF1 hM=>?_)))))
  have hfd:=fdiv_bd (m:=(pr ge i).1) (by omega) (min c.toNat 64)
  obtain ⟨sb,hsb⟩:∃ z:Int,((pr ge i).1).fdiv (2 ^ min c.toNat 64)=z:=⟨_,rfl⟩
  rw [hsb] at hfd
  refine wl (xM 6 (v:=iv sb) hF1 hM (yld_shr (yk:=.i64) (pr ge i).1 c hF1 rfl (by kernel_rfl) (by kernel_rfl) (by kernel_rfl) (by omega) (hsb)) fun a1 w hF1 hM=>?_)
  obtain ⟨sc,hsc⟩:∃ z:Int,bitI ((pr ge i).1) c=z:=⟨_,rfl⟩
  refine wl (xP 7 (v0:=.int .i64 (IntKind.i64.wrap ((BitVec.ofInt 64 sb &&& BitVec.ofInt 64 1).toNat:Int))) (v:=iv sc) hF1 (vi ((and_one (by omega) (by omega)).trans (by rw [← hsb]; exact hsc))) fun a1 hF1=>xB 2 [(8,.bool (decide (sc=0))),(3,.bool (decide (sc=0)))] hF1 fun a1 hF1=>wpList_nil (hK14 _ _ (wp_ret (hR12 _ _ (ret_of hF1 hM (.tmp rfl (.nil)) ⟨_,rfl,?_⟩)))))
  intro a hF
  refine xB 1 [(30,.bool (!decide (sc=0)))] hF fun a hF=>wpList_nil (hK11 _ _ ?_)
  by_cases hz7:sc=0
  ·replace hF:=hF.c hF (i:=29) (v:=.bool true) rfl (bT hz7)
   replace hF:=hF.c hF (i:=30) (v:=.bool false) rfl (nT hz7)
   refine xF hF (wp_skip (hK10 _ _ (wp_seq_k fun K15 hK15=>wp_region_lit (xB 2 [(32,iv n),(33,iv l)] hF fun a hF=>wl (xP 34 (v0:=.int .i64 (IntKind.i64.wrap (n + l))) (v:=iv (n + l)) hF (wi (by omega)) fun a hF=>xB 1 [(9,iv (n + l))] hF fun a hF=>wpList_nil (hK15 _ _ (wp_seq_k fun K16 hK16=>wp_region_lit ?_)))))))
   refine xB 1 [(35,iv (i:Int))] hF fun a hF=>wl (xP 36 (v0:=.int .i64 (IntKind.i64.wrap ((i:Int) + 1))) (v:=iv ((i:Int) + 1)) hF (wi (by omega)) fun a hF=>xB 1 [(37,pt bb1 0)] hF fun a hF=>wl (xL 38 3 0 (v:=.slice A ge.length gc) hF hM fun a w hF hM=>xB 1 [(39,iv (ge.length:Int))] hF fun a hF=>?_))
   obtain ⟨i2,hi2⟩:∃ z:Nat,(i + 1) % ge.length=z:=⟨_,rfl⟩
   have hi2l:i2 < ge.length:=by rw [← hi2]; exact Nat.mod_lt _ (by omega)
   refine wl (xM 40 (v:=iv (i2:Int)) hF hM (yld_rem ((i:Int) + 1) (ge.length:Int) hF rfl (by kernel_rfl) (by kernel_rfl) (by kernel_rfl) (by omega) ((modC i ge.length).trans (by rw [hi2]))) fun a w hF hM=>xB 1 [(7,iv (i2:Int))] hF fun a hF=>wpList_nil (hK16 _ _ (wp_region_lit (xB 1 [(41,pt bb1 0)] hF fun a hF=>wl (xL 42 3 0 (v:=.slice A ge.length gc) hF hM fun a w hF hM=>xB 1 [(43,iv (i2:Int))] hF fun a hF=>wl (xM 44 (v:=.pointer (some (ea A (i2 * 2)))) hF hM (yld_ix (kd:=.i64) (e:=31) (len:=ge.length) (cap:=gc) (i:=(i2:Int)) (size:=2) (A:=A) hF rfl (by kernel_rfl) (by kernel_rfl) (by kernel_rfl) (by kernel_rfl) (by kernel_rfl) (roK 1 rfl) (by omega) (by omega) (by rw [flat2_length]; omega)) fun a w hF hM=>xB 1 [(45,.pointer (some (ea A (i2 * 2 + 1))))] hF fun a hF=>wl (xM 46 (v:=iv (pr ge i2).2) hF hM (yld_ro1 (A:=A) (j:=i2 * 2 + 1) hF rfl (by kernel_rfl) (by kernel_rfl) (roK 1 rfl) (by kernel_rfl) (pr_snd (k:=i2) (by omega) (by omega))) fun a w hF hM=>?_)))))))
   have:=hgp i2 (by omega)
   refine xB 1 [(8,iv (pr ge i2).2)] hF fun a hF=>wpList_nil (hK9 _ _ (wp_region_lit (wl (xP 47 (v0:=.int .i64 (IntKind.i64.wrap ((k:Int) + 1))) (v:=iv ((k:Int) + 1)) hF (wi (by omega)) fun a hF=>xB 1 [(20,iv ((k:Int) + 1))] hF fun a hF=>wpList_nil (hK6 _ _ ⟨(k + 1,i2,(pr ge i2).2,n + l),⟨((((((((Fr.nil hF).c hF (i:=19) rfl rfl).c hF (i:=3) rfl rfl).c hF (i:=2) rfl rfl).c hF (i:=20) rfl (vi (show ((k:Int) + 1:Int)=((k + 1):Int) from by omega))).c hF (i:=9) rfl rfl).c hF (i:=8) rfl rfl).c hF (i:=7) rfl rfl),(hM.sub (((Sub.nil.c (k:=3) rfl rfl).c (k:=2) rfl rfl).c (k:=1) rfl rfl)),(show ((k + 1):Int) ≤ (ge.length:Int) + 1 from by omega),(show (i2:Int) < (ge.length:Int) from by omega),(show 1 ≤ (pr ge i2).2 ∧ (pr ge i2).2 ≤ 9600000 from by omega),(show 0 ≤ (n + l) ∧ (n + l) ≤ 9600000 * ((k + 1):Int) from by omega),(show strF ge cyc (clB c) (ge.length + 1) i0 l0 0=strF ge cyc (clB c) (ge.length + 1 - (k + 1)) i2 (pr ge i2).2 (n + l) from by exact str_next (by assumption) (by omega) (decide_eq_true (show bitI (pr ge i).1 c=0 by omega)) hi2)⟩,(show ge.length + 1 - (k + 1) < ge.length + 1 - k from by omega)⟩)))))
  replace hF:=hF.c hF (i:=29) (v:=.bool false) rfl (bF hz7)
  replace hF:=hF.c hF (i:=30) (v:=.bool true) rfl (nF hz7)
  refine xT hF (wp_seq_k fun K17 hK17=>wp_region_lit (xB 2 [(31,iv n),(6,iv n)] hF fun a hF=>wpList_nil (hK17 _ _ (wp_ret (hR0 _ _ (ret_of hF hM (.tmp rfl (.nil)) (⟨ret_int (by unfold strI; rw [hi0,hl0]; exact (str_stop (by assumption) (by omega) (decide_eq_false (show ¬ bitI (pr ge i).1 c=0 by omega))).symm),hM.bel⟩)))))))
 replace hF:=hF.c hF (i:=21) (v:=.bool false) rfl (bF hz6)
 refine xF hF (wp_exit (hK4 _ _ (wp_seq_k fun K18 hK18=>wp_region_lit (xB 1 [(48,pt bb1 1)] hF fun a hF=>wl (xL 49 3 1 (v:=iv cyc) hF hM fun a w hF hM=>xB 1 [(6,iv cyc)] hF fun a hF=>wpList_nil (hK18 _ _ (wp_ret (hR0 _ _ ?_))))))))
 refine ret_of hF hM (.tmp rfl (.nil)) (⟨ret_int (by unfold strI; rw [hi0,hl0]; exact (str_end (by assumption) (by omega)).symm),hM.bel⟩)
end Go.Proofs.YtlngflbamkgjlaaGreat
namespace Go.Proofs.YtlngflbamkgjlaaGreat
open Go.RowKit
set_option linter.unusedVariables false
set_option linter.unusedSimpArgs false
set_option maxRecDepth 100000
def opN (ge:List (Int × Int)) (cyc c t:Int):Int:=if strI ge cyc t (opB c)=cyc then 1099511627776 else strI ge cyc t (opB c)
theorem gaChk_w (A:Option Addr) (ge:List (Int × Int)) (gc:Nat) (cyc:Int) (c t lo:Int) (w0:World) (hA:Ro w0 A (flat2 ge)) (h:gaE ge cyc=0) (hb:(0 ≤ c ∧ c ≤ 7) ∧ (-1099511627776 ≤ t ∧ t ≤ 1099511627776) ∧ 0 ≤ lo ∧ lo ≤ 1099511627776) :
    Calls Tryz.prog 80 #[.agg #[.slice A ge.length gc,iv cyc],iv c,iv t,iv lo] w0 (Ret w0 (.int .i64 0)):=by
 have hgp:=(ga_p h).2.2.1
 have hgs:=ga_pos h
 refine enterK 37 Tryz.func80 rfl rfl rfl ?_
 intro a hF Q0 hR0 hN0
 have hM:=Mem.start w0
 replace hM:=hM.addOld 1 hA (Nat.le_refl _)
 refine wp_seq_k fun K1 hK1=>wp_region_lit (wl (xN 4 2 (t:=29) (fun b=>.pointer (some ⟨b,0,none⟩)) #[.slice A ge.length gc,iv cyc] hF hM fun bb1 a w hF hM=>xB 1 [(8,iv 0)] hF fun a hF=>wpList_nil (hK1 _ _ (wp_seq_k fun K2 hK2=>wp_seq_k fun K3 hK3=>wp_region_lit (wl (xL 10 2 0 (v:=.agg #[.slice A ge.length gc,iv cyc]) hF hM fun a w hF hM=>wl (xM 11 (v:=iv 0) hF hM (xC 35 #[.agg #[.slice A ge.length gc,iv cyc]] hF (fun w hM=>by have:=gaCheck_w A ge gc cyc w (hM.ok 1 _ rfl); rw [h] at this; exact this)) fun a w hF hM=>xB 1 [(9,iv 0)] hF fun a hF=>?_)))))))
 refine wpList_nil (hK3 _ _ (wp_seq_k fun K4 hK4=>wp_region_lit (xB 1 [(12,iv 0)] hF fun a hF=>wl (xP 13 (v0:=.bool (!decide (0=0))) (v:=.bool false) hF (nT (by omega)) fun a hF=>wpList_nil (hK4 _ _ (xF hF (wp_skip (hK2 _ _ (wp_seq_k fun K5 hK5=>?_)))))))))
 refine wp_seq_k fun K6 hK6=>wp_region_lit (xB 1 [(15,iv c)] hF fun a hF=>wl (xP 16 (v0:=.bool (decide (c < 0))) (v:=.bool false) hF (bF (by omega)) fun a hF=>xB 2 [(17,.bool false),(18,iv c)] hF fun a hF=>wl (xP 19 (v0:=.bool (decide (8 ≤ c))) (v:=.bool false) hF (bF (by omega)) fun a hF=>xB 3 [(20,.bool false),(21,.bool false),(22,iv t)] hF fun a hF=>wl (xP 23 (v0:=.bool (decide (t < -1099511627776))) (v:=.bool false) hF (bF (by omega)) fun a hF=>xB 3 [(24,.bool false),(25,.bool false),(26,iv t)] hF fun a hF=>wl (xP 27 (v0:=.bool (decide (1099511627776 < t))) (v:=.bool false) hF (bF (by omega)) fun a hF=>xB 3 [(28,.bool false),(29,.bool false),(30,iv lo)] hF fun a hF=>wl (xP 31 (v0:=.bool (decide (lo < 0))) (v:=.bool false) hF (bF (by omega)) fun a hF=>?_))))))
 refine xB 3 [(32,.bool false),(33,.bool false),(34,iv lo)] hF fun a hF=>wl (xP 35 (v0:=.bool (decide (1099511627776 < lo))) (v:=.bool false) hF (bF (by omega)) fun a hF=>xB 1 [(36,.bool false)] hF fun a hF=>wpList_nil (hK6 _ _ (xF hF (wp_skip (hK5 _ _ (wp_seq_k fun K7 hK7=>wp_region_lit (xB 1 [(8,iv 0)] hF fun a hF=>wpList_nil ?_)))))))
 refine hK7 _ _ (wp_ret (hR0 _ _ (ret_of hF hM (.tmp rfl (.nil)) (⟨rfl,hM.bel⟩))))
theorem gaOpen_w (A:Option Addr) (ge:List (Int × Int)) (gc:Nat) (cyc:Int) (c t:Int) (w0:World) (hA:Ro w0 A (flat2 ge)) (h:gaE ge cyc=0) (hc:0 ≤ c ∧ c ≤ 7) (ht:-2199023255552 ≤ t ∧ t ≤ 2199023255552) :
    Calls Tryz.prog 81 #[.agg #[.slice A ge.length gc,iv cyc],iv c,iv t] w0 (Ret w0 (.int .i64 (opN ge cyc c t))):=by
 have hgp:=(ga_p h).2.2.1
 have hgs:=ga_pos h
 refine enterK 17 Tryz.func81 rfl rfl rfl ?_
 intro a hF Q0 hR0 hN0
 have hM:=Mem.start w0
 replace hM:=hM.addOld 1 hA (Nat.le_refl _)
 refine wp_seq_k fun K1 hK1=>wp_region_lit (wl (xN 3 2 (t:=29) (fun b=>.pointer (some ⟨b,0,none⟩)) #[.slice A ge.length gc,iv cyc] hF hM fun bb1 a w hF hM=>wl (xN 4 3 (t:=3) (fun b=>.pointer (some ⟨b,0,none⟩)) #[iv c] hF hM fun bb2 a w hF hM=>xB 1 [(6,iv 0)] hF fun a hF=>wpList_nil (hK1 _ _ (wp_seq_k fun K2 hK2=>wp_region_lit (wl (xL 8 2 0 (v:=.agg #[.slice A ge.length gc,iv cyc]) hF hM fun a w hF hM=>xB 2 [(9,iv t),(10,.func (.func 102) #[] #[pt bb2 0])] hF fun a hF=>?_)))))))
 obtain ⟨sr_op,hsr_op⟩:∃ z:Int,strI ge cyc t (opB c)=z:=⟨_,rfl⟩
 refine wl (xM 11 (v:=iv sr_op) hF hM (xC 101 #[.agg #[.slice A ge.length gc,iv cyc],iv t,.func (.func 102) #[] #[pt bb2 0]] hF (fun w hM=>by have:=gaStr_op A ge gc cyc t c bb2 w (hM.ok 1 _ rfl) (hM.roRow (k:=3) rfl) h (by omega) (by omega); rw [hsr_op] at this; exact this)) fun a w hF hM=>xB 1 [(7,iv sr_op)] hF fun a hF=>wpList_nil (hK2 _ _ (wp_seq_k fun K3 hK3=>wp_seq_k fun K4 hK4=>wp_region_lit (xB 2 [(12,iv sr_op),(13,pt bb1 1)] hF fun a hF=>wl (xL 14 2 1 (v:=iv cyc) hF hM fun a w hF hM=>xB 1 [(15,.bool (decide (sr_op=cyc)))] hF fun a hF=>wpList_nil (hK4 _ _ ?_))))))
 by_cases hz1:sr_op=cyc
 ·replace hF:=hF.c hF (i:=15) (v:=.bool true) rfl (bT hz1)
  refine xT hF (wp_seq_k fun K5 hK5=>wp_region_lit (xB 1 [(6,iv 1099511627776)] hF fun a hF=>wpList_nil (hK5 _ _ (wp_ret (hR0 _ _ (ret_of hF hM (.tmp rfl (.nil)) (⟨ret_int (by unfold opN; rw [hsr_op]; first | (rw [if_pos (by omega)]; done) | rw [if_neg (by omega)]),hM.bel⟩)))))))
 replace hF:=hF.c hF (i:=15) (v:=.bool false) rfl (bF hz1)
 refine xF hF (wp_skip (hK3 _ _ (wp_seq_k fun K6 hK6=>wp_region_lit (xB 2 [(16,iv sr_op),(6,iv sr_op)] hF fun a hF=>wpList_nil (hK6 _ _ (wp_ret (hR0 _ _ (ret_of hF hM (.tmp rfl (.nil)) (⟨ret_int (by unfold opN; rw [hsr_op]; first | (rw [if_pos (by omega)]; done) | rw [if_neg (by omega)]),hM.bel⟩)))))))))
theorem gaOpenE_w (A:Option Addr) (ge:List (Int × Int)) (gc:Nat) (cyc:Int) (c t:Int) (w0:World) (hA:Ro w0 A (flat2 ge)) (h:gaE ge cyc=0) (hb:(0 ≤ c ∧ c ≤ 7) ∧ -1099511627776 ≤ t ∧ t ≤ 1099511627776) :
    Calls Tryz.prog 56 #[.agg #[.slice A ge.length gc,iv cyc],iv c,iv t] w0 (Ret w0 (.tuple #[.int .i64 (opN ge cyc c t),.int .i64 0])):=by
 have hgp:=(ga_p h).2.2.1
 have hgs:=ga_pos h
 refine enterK 20 Tryz.func56 rfl rfl rfl ?_
 intro a hF Q0 hR0 hN0
 have hM:=Mem.start w0
 replace hM:=hM.addOld 1 hA (Nat.le_refl _)
 refine wp_seq_k fun K1 hK1=>wp_region_lit (wl (xN 3 2 (t:=29) (fun b=>.pointer (some ⟨b,0,none⟩)) #[.slice A ge.length gc,iv cyc] hF hM fun bb1 a w hF hM=>xB 2 [(6,iv 0),(7,iv 0)] hF fun a hF=>wpList_nil (hK1 _ _ (wp_seq_k fun K2 hK2=>wp_seq_k fun K3 hK3=>wp_region_lit (wl (xL 9 2 0 (v:=.agg #[.slice A ge.length gc,iv cyc]) hF hM fun a w hF hM=>xB 2 [(10,iv c),(11,iv t)] hF fun a hF=>wl (xM 12 (v:=iv 0) hF hM (xC 80 #[.agg #[.slice A ge.length gc,iv cyc],iv c,iv t,iv 0] hF (fun w hM=>gaChk_w A ge gc cyc c t 0 w (hM.ok 1 _ rfl) h (by omega))) fun a w hF hM=>?_)))))))
 refine xB 1 [(8,iv 0)] hF fun a hF=>wpList_nil (hK3 _ _ (wp_seq_k fun K4 hK4=>wp_region_lit (xB 1 [(13,iv 0)] hF fun a hF=>wl (xP 14 (v0:=.bool (!decide (0=0))) (v:=.bool false) hF (nT (by omega)) fun a hF=>wpList_nil (hK4 _ _ (xF hF (wp_skip (hK2 _ _ ?_))))))))
 refine wp_seq_k fun K5 hK5=>wp_region_lit (wl (xL 16 2 0 (v:=.agg #[.slice A ge.length gc,iv cyc]) hF hM fun a w hF hM=>xB 2 [(17,iv c),(18,iv t)] hF fun a hF=>?_))
 obtain ⟨on_,hon⟩:∃ z:Int,opN ge cyc c t=z:=⟨_,rfl⟩
 refine wl (xM 19 (v:=iv on_) hF hM (xC 81 #[.agg #[.slice A ge.length gc,iv cyc],iv c,iv t] hF (fun w hM=>by have:=gaOpen_w A ge gc cyc c t w (hM.ok 1 _ rfl) h (by omega) (by omega); rw [hon] at this; exact this)) fun a w hF hM=>xB 2 [(6,iv on_),(7,iv 0)] hF fun a hF=>wpList_nil (hK5 _ _ (wp_ret (hR0 _ _ (ret_of hF hM (.tmp rfl (.tmp rfl (.nil))) (⟨ret_eq (by rw [hon]; rfl),hM.bel⟩))))))
theorem gaFits_w (A:Option Addr) (ge:List (Int × Int)) (gc:Nat) (cyc:Int) (c t lo:Int) (w0:World) (hA:Ro w0 A (flat2 ge)) (h:gaE ge cyc=0) (hb:(0 ≤ c ∧ c ≤ 7) ∧ (-1099511627776 ≤ t ∧ t ≤ 1099511627776) ∧ 0 ≤ lo ∧ lo ≤ 1099511627776) :
    Calls Tryz.prog 113 #[.agg #[.slice A ge.length gc,iv cyc],iv c,iv t,iv lo] w0 (Ret w0 (.tuple #[.bool (decide (lo ≤ opN ge cyc c t)),.int .i64 0])):=by
 have hgp:=(ga_p h).2.2.1
 have hgs:=ga_pos h
 refine enterK 25 Tryz.func113 rfl rfl rfl ?_
 intro a hF Q0 hR0 hN0
 have hM:=Mem.start w0
 replace hM:=hM.addOld 1 hA (Nat.le_refl _)
 refine wp_seq_k fun K1 hK1=>wp_region_lit (wl (xN 4 2 (t:=29) (fun b=>.pointer (some ⟨b,0,none⟩)) #[.slice A ge.length gc,iv cyc] hF hM fun bb1 a w hF hM=>xB 2 [(8,.bool false),(9,iv 0)] hF fun a hF=>wpList_nil (hK1 _ _ (wp_seq_k fun K2 hK2=>wp_seq_k fun K3 hK3=>wp_region_lit (wl (xL 11 2 0 (v:=.agg #[.slice A ge.length gc,iv cyc]) hF hM fun a w hF hM=>xB 3 [(12,iv c),(13,iv t),(14,iv lo)] hF fun a hF=>wl (xM 15 (v:=iv 0) hF hM (xC 80 #[.agg #[.slice A ge.length gc,iv cyc],iv c,iv t,iv lo] hF (fun w hM=>gaChk_w A ge gc cyc c t lo w (hM.ok 1 _ rfl) h (by omega))) fun a w hF hM=>?_)))))))
 refine xB 1 [(10,iv 0)] hF fun a hF=>wpList_nil (hK3 _ _ (wp_seq_k fun K4 hK4=>wp_region_lit (xB 1 [(16,iv 0)] hF fun a hF=>wl (xP 17 (v0:=.bool (!decide (0=0))) (v:=.bool false) hF (nT (by omega)) fun a hF=>wpList_nil (hK4 _ _ (xF hF (wp_skip (hK2 _ _ ?_))))))))
 refine wp_seq_k fun K5 hK5=>wp_region_lit (wl (xL 19 2 0 (v:=.agg #[.slice A ge.length gc,iv cyc]) hF hM fun a w hF hM=>xB 2 [(20,iv c),(21,iv t)] hF fun a hF=>?_))
 obtain ⟨on_,hon⟩:∃ z:Int,opN ge cyc c t=z:=⟨_,rfl⟩
 refine wl (xM 22 (v:=iv on_) hF hM (xC 81 #[.agg #[.slice A ge.length gc,iv cyc],iv c,iv t] hF (fun w hM=>by have:=gaOpen_w A ge gc cyc c t w (hM.ok 1 _ rfl) h (by omega) (by omega); rw [hon] at this; exact this)) fun a w hF hM=>xB 4 [(23,iv lo),(24,.bool (decide (lo ≤ on_))),(8,.bool (decide (lo ≤ on_))),(9,iv 0)] hF fun a hF=>wpList_nil (hK5 _ _ (wp_ret (hR0 _ _ (ret_of hF hM (.tmp rfl (.tmp rfl (.nil))) (⟨ret_eq (by rw [hon]; rfl),hM.bel⟩))))))
end Go.Proofs.YtlngflbamkgjlaaGreat
namespace Go.Proofs.YtlngflbamkgjlaaGreat
set_option linter.unusedVariables false
set_option linter.unusedSimpArgs false
def mkA (ge:List (Int × Int)) (cyc x:Int):Int:=(pr ge (fI ge (x % cyc))).1
theorem mkA_sub {ge:List (Int × Int)} {cyc x:Int}:mkA ge cyc (x - cyc)=mkA ge cyc x:=by unfold mkA; rw [Int.sub_emod_right]
structure Pos (ge:List (Int × Int)) (cyc x:Int) (i:Nat) (l:Int):Prop where
  lt:i < ge.length
  lo:sumL ge i ≤ x % cyc
  hi:x % cyc + l=sumL ge (i + 1)
  one:1 ≤ l
section
variable {ge:List (Int × Int)} {cyc:Int}
theorem ga_one (h:gaE ge cyc=0):∀ j,j < ge.length → 1 ≤ (pr ge j).2:=fun j hj=>((ga_p h).2.2.1 j hj).2.2.1
theorem Pos.start (h:gaE ge cyc=0) (t:Int):Pos ge cyc t (fI ge (t % cyc)) (sumL ge (fI ge (t % cyc) + 1) - t % cyc):=by
  have hp:=(ga_pos h).2.1
  obtain ⟨a,b,c⟩:=fI_lt (u:=t % cyc) h (Int.emod_nonneg _ (by omega)) (Int.emod_lt_of_pos _ (by omega))
  exact ⟨a,b,by omega,by omega⟩
theorem Pos.le (h:gaE ge cyc=0) {x l:Int} {i:Nat} (H:Pos ge cyc x i l):x % cyc + l ≤ cyc:=by
  have h1:=sumL_mono (ga_one h) (i:=i + 1) (k:=ge.length) H.lt (Nat.le_refl _)
  have h2:=(ga_pos h).2.2.2
  have:=H.hi
  omega
theorem emod_shift {x d cyc:Int} (hc:0 < cyc) (h0:0 ≤ d) (h1:x % cyc + d < cyc):(x + d) % cyc=x % cyc + d:=by
  rw [← Int.emod_add_emod]
  exact Int.emod_eq_of_lt (by have:=Int.emod_nonneg x (show cyc ≠ 0 by omega); omega) h1
theorem Pos.mask (h:gaE ge cyc=0) {x l:Int} {i:Nat} (H:Pos ge cyc x i l) {y:Int} (hy:x ≤ y) (hl:y < x + l):mkA ge cyc y=(pr ge i).1:=by
  have hp:=(ga_pos h).2.1
  have hle:=H.le h
  have e:y % cyc=x % cyc + (y - x):=by
    have:=emod_shift (x:=x) (d:=y - x) (cyc:=cyc) (by omega) (by omega) (by omega)
    rw [show x + (y - x)=y by omega] at this
    exact this
  have:=H.lo
  have:=H.hi
  unfold mkA
  rw [fI_eq (ga_one h) H.lt (by omega) (by omega)]
theorem Pos.next (h:gaE ge cyc=0) {x l:Int} {i:Nat} (H:Pos ge cyc x i l):Pos ge cyc (x + l) ((i + 1) % ge.length) (pr ge ((i + 1) % ge.length)).2:=by
  obtain ⟨⟨g1,_⟩,hp,_,hs⟩:=ga_pos h
  have hle:=H.le h
  have hlo:=H.lo
  have hhi:=H.hi
  have hone:=H.one
  have hx0:=Int.emod_nonneg x (show cyc ≠ 0 by omega)
  by_cases e:i + 1=ge.length
  · have e2:(i + 1) % ge.length=0:=by rw [e,Nat.mod_self]
    have e3:(x + l) % cyc=0:=by
      rw [e,hs] at hhi
      rw [← Int.emod_add_emod,hhi,Int.emod_self]
    rw [e2]
    refine ⟨by omega,by rw [e3]; simp [sumL],?_,ga_one h 0 (by omega)⟩
    rw [e3]
    simp [sumL]
  · have hi:i + 1 < ge.length:=by have:=H.lt; omega
    have e2:(i + 1) % ge.length=i + 1:=Nat.mod_eq_of_lt hi
    have hm:=sumL_mono (ga_one h) (i:=i + 2) (k:=ge.length) (by omega) (Nat.le_refl _)
    have h1:=ga_one h (i + 1) hi
    have hsn:sumL ge (i + 2)=sumL ge (i + 1) + (pr ge (i + 1)).2:=rfl
    have e3:(x + l) % cyc=x % cyc + l:=emod_shift (by omega) (by omega) (by omega)
    rw [e2]
    exact ⟨hi,by omega,by rw [e3,hsn]; omega,h1⟩
theorem strF_spec (h:gaE ge cyc=0) {p:Int → Bool} {t:Int}:∀ (f i:Nat) (l n:Int),Pos ge cyc (t + n) i l →
    (∃ n',n ≤ n' ∧ strF ge cyc p f i l n=n' ∧ (∀ x,t + n ≤ x → x < t + n' → p (mkA ge cyc x)=true) ∧ p (mkA ge cyc (t + n'))=false) ∨
    (strF ge cyc p f i l n=cyc ∧ ∀ k,k < f → p (pr ge ((i + k) % ge.length)).1=true)
  | 0, i, l, n, H => .inr ⟨rfl, fun k hk => absurd hk (Nat.not_lt_zero k)⟩
  | f + 1, i, l, n, H => by
    by_cases hp:p (pr ge i).1=true
    · have hn:=H.next h
      rw [Int.add_assoc] at hn
      rw [strF,if_pos hp]
      rcases strF_spec h f _ _ _ hn with ⟨n',h1,h2,h3,h4⟩ | ⟨h1,h2⟩
      · have hone:=H.one
        refine .inl ⟨n',by omega,h2,fun x hx hx2=>?_,h4⟩
        by_cases q:x < t + n + l
        · rw [H.mask h hx q]; exact hp
        · exact h3 x (by omega) hx2
      · refine .inr ⟨h1,fun k hk=>?_⟩
        cases k with
        | zero => rw [Nat.add_zero, Nat.mod_eq_of_lt H.lt]; exact hp
        | succ k =>
          have:=h2 k (by omega)
          rw [Nat.mod_add_mod] at this
          rw [show i + (k + 1)=i + 1 + k by omega]
          exact this
    · rw [strF,if_neg hp]
      have hone:=H.one
      refine .inl ⟨n,Int.le_refl _,rfl,fun x hx hx2=>by omega,?_⟩
      rw [H.mask h (Int.le_refl _) (by omega)]
      simpa using hp
theorem strI_spec (h:gaE ge cyc=0) (p:Int → Bool) (t:Int) :
    (∃ n,strI ge cyc t p=n ∧ 0 ≤ n ∧ n < cyc ∧ (∀ x,t ≤ x → x < t + n → p (mkA ge cyc x)=true) ∧ p (mkA ge cyc (t + n))=false) ∨ (strI ge cyc t p=cyc ∧ ∀ x,p (mkA ge cyc x)=true):=by
  have H:=Pos.start h t
  have H0:Pos ge cyc (t + 0) (fI ge (t % cyc)) (sumL ge (fI ge (t % cyc) + 1) - t % cyc):=by rw [Int.add_zero]; exact H
  have hp:=(ga_pos h).2.1
  rcases strF_spec h (p:=p) (ge.length + 1) _ _ 0 H0 with ⟨n,h1,h2,h3,h4⟩ | ⟨h1,h2⟩
  · refine .inl ⟨n,h2,h1,?_,fun x hx hx2=>h3 x (by omega) hx2,h4⟩
    rcases Int.lt_or_le n cyc with q | q
    · exact q
    · have:=h3 (t + n - cyc) (by omega) (by omega)
      rw [mkA_sub,h4] at this
      cases this
  · refine .inr ⟨h1,fun x=>?_⟩
    have Hx:=Pos.start h x
    have hi:=H.lt
    have hj:=Hx.lt
    unfold mkA
    have e:∃ k,k < ge.length + 1 ∧ (fI ge (t % cyc) + k) % ge.length=fI ge (x % cyc):=by
      rcases Nat.le_total (fI ge (t % cyc)) (fI ge (x % cyc)) with q | q
      · exact ⟨fI ge (x % cyc) - fI ge (t % cyc),by omega,by rw [show fI ge (t % cyc) + (fI ge (x % cyc) - fI ge (t % cyc))=fI ge (x % cyc) by omega]; exact Nat.mod_eq_of_lt hj⟩
      · refine ⟨fI ge (x % cyc) + ge.length - fI ge (t % cyc),by omega,?_⟩
        rw [show fI ge (t % cyc) + (fI ge (x % cyc) + ge.length - fI ge (t % cyc))=fI ge (x % cyc) + ge.length by omega,Nat.add_mod_right]
        exact Nat.mod_eq_of_lt hj
    obtain ⟨k,hk,ek⟩:=e
    have:=h2 k hk
    rw [ek] at this
    exact this
def fitsP (ge:List (Int × Int)) (cyc c t L:Int):Prop:=∀ x,t ≤ x → x < t + L → opB c (mkA ge cyc x)=true
theorem fits_iff (h:gaE ge cyc=0) {c t L:Int} (hL:L ≤ 1099511627776):L ≤ opN ge cyc c t ↔ fitsP ge cyc c t L:=by
  have hp:=ga_pos h
  unfold opN
  rcases strI_spec h (opB c) t with ⟨n,h1,h2,h3,h4,h5⟩ | ⟨h1,h2⟩
  · rw [h1,if_neg (by omega)]
    constructor
    · exact fun q x hx hx2=>h4 x hx (by omega)
    · intro q
      rcases Int.lt_or_le n L with r | r
      · have:=q (t + n) (by omega) (by omega)
        rw [h5] at this
        cases this
      · exact r
  · rw [h1,if_pos rfl]
    exact ⟨fun _ x _ _=>h2 x,fun _=>hL⟩
end
end Go.Proofs.YtlngflbamkgjlaaGreat
namespace Go.Proofs.YtlngflbamkgjlaaGreat
open Go.RowKit
set_option linter.unusedVariables false
set_option linter.unusedSimpArgs false
set_option maxRecDepth 100000
theorem op_cl {c m:Int}:opB c m=true ↔ ¬ clB c m=true:=by
  unfold opB clB bitI
  rw [decide_eq_true_iff,decide_eq_true_iff]
  omega
def fitE (ge:List (Int × Int)) (cyc c t lo:Int):Option Int:=((List.range (2 * cyc).toNat).find? fun k:Nat=>decide (lo ≤ opN ge cyc c (t + (k:Int)))).map fun k:Nat=>t + (k:Int)
def fitT (ge:List (Int × Int)) (cyc c t lo:Int):Int:=(fitE ge cyc c t lo).getD 0
def fitR (ge:List (Int × Int)) (cyc c t lo:Int):Int:=if (fitE ge cyc c t lo).isSome then 0 else 4
theorem fit_some {ge:List (Int × Int)} {cyc c t lo x:Int} (h1:t ≤ x) (h2:x < t + 2 * cyc) (h3:lo ≤ opN ge cyc c x) (h4:∀ y,t ≤ y → y < x → ¬ lo ≤ opN ge cyc c y):fitE ge cyc c t lo=some x:=by
  have e:t + ((x - t).toNat:Int)=x:=by omega
  have:(List.range (2 * cyc).toNat).find? (fun k:Nat=>decide (lo ≤ opN ge cyc c (t + (k:Int))))=some (x - t).toNat:=by
    rw [List.find?_range_eq_some]
    refine ⟨by rw [e]; simpa using h3,by simp; omega,fun j hj=>?_⟩
    have:=h4 (t + (j:Int)) (by omega) (by omega)
    simpa using this
  unfold fitE
  rw [this]
  exact congrArg some e
theorem fit_none {ge:List (Int × Int)} {cyc c t lo x:Int} (h2:t + 2 * cyc ≤ x) (h4:∀ y,t ≤ y → y < x → ¬ lo ≤ opN ge cyc c y):fitE ge cyc c t lo=none:=by
  have:(List.range (2 * cyc).toNat).find? (fun k:Nat=>decide (lo ≤ opN ge cyc c (t + (k:Int))))=none:=by
    rw [List.find?_eq_none]
    intro j hj
    have:=h4 (t + (j:Int)) (by omega) (by have:=List.mem_range.1 hj; omega)
    simpa using this
  unfold fitE
  rw [this]
  rfl
theorem fit_next {ge:List (Int × Int)} {cyc c t lo x n m:Int} (h:gaE ge cyc=0) (hl:1 ≤ lo ∧ lo ≤ 1099511627776) (ho:∀ y,t ≤ y → y < x → ¬ lo ≤ opN ge cyc c y) (hn:opN ge cyc c x=n) (hq:¬ lo ≤ n) (hm:strI ge cyc (x + n) (clB c)=m) :
    (∀ y,t ≤ y → y < x + n + m → ¬ lo ≤ opN ge cyc c y) ∧ 1 ≤ n + m ∧ (0 ≤ n ∧ n ≤ cyc) ∧ 0 ≤ m ∧ m ≤ cyc:=by
  have hp:=ga_pos h
  have hop:∃ n',opN ge cyc c x=n' ∧ 0 ≤ n' ∧ n' < cyc ∧ opB c (mkA ge cyc (x + n'))=false:=by
    unfold opN at hn ⊢
    rcases strI_spec h (opB c) x with ⟨n',h1,h2,h3,h4,h5⟩ | ⟨h1,h2⟩
    · exact ⟨n',by rw [h1,if_neg (by omega)],h2,h3,h5⟩
    · rw [h1,if_pos rfl] at hn
      omega
  obtain ⟨n',e,g1,g2,g3⟩:=hop
  obtain rfl:n'=n:=e.symm.trans hn
  have hcl:(∀ y,x + n' ≤ y → y < x + n' + m → clB c (mkA ge cyc y)=true) ∧ 0 ≤ m ∧ m ≤ cyc ∧ (m=0 → False):=by
    rcases strI_spec h (clB c) (x + n') with ⟨m',h1,h2,h3,h4,h5⟩ | ⟨h1,h2⟩
    · obtain rfl:m'=m:=h1.symm.trans hm
      refine ⟨h4,h2,by omega,fun z=>?_⟩
      subst z
      rw [Int.add_zero] at h5
      have:=(op_cl (c:=c) (m:=mkA ge cyc (x + n'))).2 (by rw [h5]; decide)
      rw [g3] at this
      cases this
    · obtain rfl:cyc=m:=h1.symm.trans hm
      exact ⟨fun y _ _=>h2 y,by omega,Int.le_refl _,fun z=>by omega⟩
  obtain ⟨c1,c2,c3,c4⟩:=hcl
  refine ⟨fun y hy hy2 q=>?_,by rcases Int.lt_or_le 0 m with r | r; omega; exact absurd (show m=0 by omega) c4,⟨g1,by omega⟩,c2,c3⟩
  by_cases r:y < x
  · exact ho y hy r q
  · have hf:=(fits_iff h hl.2).1 q
    by_cases r2:y < x + n'
    · have:=hf (x + n') (by omega) (by omega)
      rw [g3] at this
      cases this
    · have:=hf y (Int.le_refl _) (by omega)
      exact absurd (c1 y (by omega) hy2) (op_cl.1 this)
set_option maxHeartbeats 4000000 in
theorem gaFit_w (A:Option Addr) (ge:List (Int × Int)) (gc:Nat) (cyc:Int) (c t lo:Int) (w0:World) (hA:Ro w0 A (flat2 ge)) (h:gaE ge cyc=0) (hb:(0 ≤ c ∧ c ≤ 7) ∧ -1099511627776 ≤ t ∧ t ≤ 1099511627776) (hlo:1 ≤ lo ∧ lo ≤ 1099511627776) :
    Calls Tryz.prog 114 #[.agg #[.slice A ge.length gc,iv cyc],iv c,iv t,iv lo] w0 (Ret w0 (.tuple #[.int .i64 (fitT ge cyc c t lo),.int .i64 (fitR ge cyc c t lo)])):=by
 have hgp:=(ga_p h).2.2.1
 have hgs:=ga_pos h
 refine enterK 46 Tryz.func114 rfl rfl rfl ?_
 intro a hF Q0 hR0 hN0
 have hM:=Mem.start w0
 replace hM:=hM.addOld 1 hA (Nat.le_refl _)
 refine wp_seq_k fun K1 hK1=>wp_region_lit (wl (xN 4 2 (t:=29) (fun b=>.pointer (some ⟨b,0,none⟩)) #[.slice A ge.length gc,iv cyc] hF hM fun bb1 a w hF hM=>wl (xN 5 3 (t:=3) (fun b=>.pointer (some ⟨b,0,none⟩)) #[iv c] hF hM fun bb2 a w hF hM=>xB 2 [(8,iv 0),(9,iv 0)] hF fun a hF=>wpList_nil (hK1 _ _ (wp_seq_k fun K2 hK2=>wp_seq_k fun K3 hK3=>wp_region_lit (wl (xL 13 2 0 (v:=.agg #[.slice A ge.length gc,iv cyc]) hF hM fun a w hF hM=>wl (xL 14 3 0 (v:=iv c) hF hM fun a w hF hM=>?_))))))))
 refine xB 2 [(15,iv t),(16,iv lo)] hF fun a hF=>wl (xM 17 (v:=iv 0) hF hM (xC 80 #[.agg #[.slice A ge.length gc,iv cyc],iv c,iv t,iv lo] hF (fun w hM=>gaChk_w A ge gc cyc c t lo w (hM.ok 1 _ rfl) h (by omega))) fun a w hF hM=>xB 1 [(10,iv 0)] hF fun a hF=>wpList_nil (hK3 _ _ (wp_seq_k fun K4 hK4=>wp_region_lit (xB 1 [(18,iv 0)] hF fun a hF=>wl (xP 19 (v0:=.bool (!decide (0=0))) (v:=.bool false) hF (nT (by omega)) fun a hF=>wpList_nil (hK4 _ _ (xF hF ?_)))))))
 refine wp_skip (hK2 _ _ (wp_seq_k fun K5 hK5=>wp_seq_k fun K6 hK6=>wp_region_lit (xB 2 [(21,iv t),(11,iv t)] hF fun a hF=>wpList_nil (hK6 _ _ (wp_block (wp_loop_k (G:=Int) (fun gg a w=>Fr 46 [(11,some (iv gg)),(2,some (iv t)),(3,some (iv lo)),(4,some (pt bb1 0)),(5,some (pt bb2 0))] a ∧ Mem w0.heap.size w0 [(1,some (.ro A (flat2 ge))),(2,some (.row bb1 29 #[.slice A ge.length gc,iv cyc])),(3,some (.row bb2 3 #[iv c]))] w ∧ (t ≤ gg) ∧ (gg ≤ t + 4 * cyc) ∧ (∀ y,t ≤ y → y < gg → ¬ lo ≤ opN ge cyc c y)) (fun gg=>(t + 4 * cyc - gg).toNat) (t) ?_ ?_))))))
 ·refine ⟨((((((Fr.nil hF).c hF (i:=5) rfl rfl).c hF (i:=4) rfl rfl).c hF (i:=3) rfl rfl).c hF (i:=2) rfl rfl).c hF (i:=11) rfl rfl),(hM.sub (((Sub.nil.c (k:=3) rfl rfl).c (k:=2) rfl rfl).c (k:=1) rfl rfl)),(show t ≤ t from by omega),(show t ≤ t + 4 * cyc from by omega),(show ∀ y,t ≤ y → y < t → ¬ lo ≤ opN ge cyc c y from by exact fun y h1 h2=>absurd h1 (by omega))⟩
 intro gg a w hI
 intro K7 hK7
 obtain ⟨x,rfl⟩:∃ x,x=gg:=⟨_,rfl⟩
 try dsimp only at hI hK7
 obtain ⟨hF,hM,hz1,hz2,hz3⟩:=hI
 refine wp_seq_k fun K8 hK8=>wp_seq_k fun K9 hK9=>wp_region_lit (xB 3 [(22,iv x),(23,iv t),(24,pt bb1 1)] hF fun a hF=>wl (xL 25 2 1 (v:=iv cyc) hF hM fun a w hF hM=>wl (xP 26 (v0:=.int .i64 (IntKind.i64.wrap (2 * cyc))) (v:=iv (2 * cyc)) hF (wi (by omega)) fun a hF=>wl (xP 27 (v0:=.int .i64 (IntKind.i64.wrap (t + 2 * cyc))) (v:=iv (t + 2 * cyc)) hF (wi (by omega)) fun a hF=>xB 1 [(28,.bool (decide (x < t + 2 * cyc)))] hF fun a hF=>wpList_nil (hK9 _ _ ?_)))))
 by_cases hz4:x < t + 2 * cyc
 ·replace hF:=hF.c hF (i:=28) (v:=.bool true) rfl (bT hz4)
  refine xT hF (wp_skip (hK8 _ _ (wp_block (wp_seq_k fun K10 hK10=>wp_region_lit (wl (xL 29 2 0 (v:=.agg #[.slice A ge.length gc,iv cyc]) hF hM fun a w hF hM=>wl (xL 30 3 0 (v:=iv c) hF hM fun a w hF hM=>xB 1 [(31,iv x)] hF fun a hF=>?_)))))))
  obtain ⟨on_,hon⟩:∃ z:Int,opN ge cyc c x=z:=⟨_,rfl⟩
  refine wl (xM 32 (v:=iv on_) hF hM (xC 81 #[.agg #[.slice A ge.length gc,iv cyc],iv c,iv x] hF (fun w hM=>by have:=gaOpen_w A ge gc cyc c x w (hM.ok 1 _ rfl) h (by omega) (by omega); rw [hon] at this; exact this)) fun a w hF hM=>xB 1 [(12,iv on_)] hF fun a hF=>wpList_nil (hK10 _ _ (wp_seq_k fun K11 hK11=>wp_seq_k fun K12 hK12=>wp_region_lit (xB 3 [(33,iv on_),(34,iv lo),(35,.bool (decide (lo ≤ on_)))] hF fun a hF=>wpList_nil (hK12 _ _ ?_)))))
  by_cases hz5:lo ≤ on_
  ·replace hF:=hF.c hF (i:=35) (v:=.bool true) rfl (bT hz5)
   refine xT hF (wp_seq_k fun K13 hK13=>wp_region_lit (xB 3 [(36,iv x),(8,iv x),(9,iv 0)] hF fun a hF=>wpList_nil (hK13 _ _ (wp_ret (hR0 _ _ (ret_of hF hM (.tmp rfl (.tmp rfl (.nil))) ?_))))))
   have hf:=fit_some (t:=t) (lo:=lo) (c:=c) (ge:=ge) (cyc:=cyc) (by omega) (by omega) (by rw [hon]; omega) (by assumption)
   exact ⟨ret_eq (by unfold fitT fitR; rw [hf]; rfl),hM.bel⟩
  replace hF:=hF.c hF (i:=35) (v:=.bool false) rfl (bF hz5)
  refine xF hF (wp_skip (hK11 _ _ (wp_seq_k fun K14 hK14=>?_)))
  have hfn0:=fit_next h hlo (by assumption) hon (by omega) rfl
  refine wp_region_lit (xB 2 [(37,iv x),(38,iv on_)] hF fun a hF=>wl (xP 39 (v0:=.int .i64 (IntKind.i64.wrap (x + on_))) (v:=iv (x + on_)) hF (wi (by omega)) fun a hF=>xB 1 [(11,iv (x + on_))] hF fun a hF=>wpList_nil (hK14 _ _ (wp_region_lit (xB 1 [(40,iv (x + on_))] hF fun a hF=>wl (xL 41 2 0 (v:=.agg #[.slice A ge.length gc,iv cyc]) hF hM fun a w hF hM=>xB 2 [(42,iv (x + on_)),(43,.func (.func 117) #[] #[pt bb2 0])] hF fun a hF=>?_))))))
  obtain ⟨sm_,hsm⟩:∃ z:Int,strI ge cyc (x + on_) (clB c)=z:=⟨_,rfl⟩
  have hfn:=fit_next h hlo (by assumption) hon (by omega) hsm
  refine wl (xM 44 (v:=iv sm_) hF hM (xC 101 #[.agg #[.slice A ge.length gc,iv cyc],iv (x + on_),.func (.func 117) #[] #[pt bb2 0]] hF (fun w hM=>by have:=gaStr_cl A ge gc cyc (x + on_) c bb2 w (hM.ok 1 _ rfl) (hM.roRow (k:=3) rfl) h (by omega) (by omega); rw [hsm] at this; exact this)) fun a w hF hM=>wl (xP 45 (v0:=.int .i64 (IntKind.i64.wrap (x + on_ + sm_))) (v:=iv (x + on_ + sm_)) hF (wi (by omega)) fun a hF=>xB 1 [(11,iv (x + on_ + sm_))] hF fun a hF=>wpList_nil (hK7 _ _ ⟨(x + on_ + sm_),⟨((((((Fr.nil hF).c hF (i:=5) rfl rfl).c hF (i:=4) rfl rfl).c hF (i:=3) rfl rfl).c hF (i:=2) rfl rfl).c hF (i:=11) rfl rfl),(hM.sub (((Sub.nil.c (k:=3) rfl rfl).c (k:=2) rfl rfl).c (k:=1) rfl rfl)),(show t ≤ (x + on_ + sm_) from by omega),(show (x + on_ + sm_) ≤ t + 4 * cyc from by omega),(show ∀ y,t ≤ y → y < (x + on_ + sm_) → ¬ lo ≤ opN ge cyc c y from by exact hfn.1)⟩,(show (t + 4 * cyc - (x + on_ + sm_)).toNat < (t + 4 * cyc - x).toNat from by omega)⟩)))
 replace hF:=hF.c hF (i:=28) (v:=.bool false) rfl (bF hz4)
 refine xF hF (wp_exit (hK5 _ _ (wp_seq_k fun K15 hK15=>wp_region_lit (xB 2 [(8,iv 0),(9,iv 4)] hF fun a hF=>wpList_nil (hK15 _ _ (wp_ret (hR0 _ _ (ret_of hF hM (.tmp rfl (.tmp rfl (.nil))) ?_))))))))
 have hf:=fit_none (t:=t) (lo:=lo) (c:=c) (ge:=ge) (cyc:=cyc) (x:=x) (by omega) (by assumption)
 exact ⟨ret_eq (by unfold fitT fitR; rw [hf]; rfl),hM.bel⟩
end Go.Proofs.YtlngflbamkgjlaaGreat
namespace Go.Proofs.YtlngflbamkgjlaaGreat
open Go.RowKit
set_option linter.unusedVariables false
set_option linter.unusedSimpArgs false
set_option maxRecDepth 100000
def zH (h:List (List Int)) (c:Nat):Prop:=[rc h c 0,rc h c 1,rc h c 2,rc h c 3,rc h c 4,rc h c 5]=[0,0,0,0,0,0] ∧ decide (rc h c 6=1)=false
instance (h:List (List Int)) (c:Nat):Decidable (zH h c):=by unfold zH; infer_instance
def rsN (h:List (List Int)):Nat → Int
  | 0 => 0
  | k + 1 => rsN h k + if rc h k 6 = 1 then 1 else 0
def hdP (h:List (List Int)):Prop:=h.length=8 ∧ WR 7 h ∧ (∀ c,c < 8 → zH h c ∨ ckP (rc h c 0) (rc h c 1) (rc h c 2) (rc h c 3) (rc h c 4) (rc h c 5) (rc h c 6)=0 ∧ rc h c 2=(c:Int)) ∧ rsN h 8 ≤ 1
def lnP (per sh:Int):Prop:=1 ≤ per ∧ per ≤ 1000 ∧ -1000 ≤ sh ∧ sh ≤ 1000
def freeP (h:List (List Int)) (c:Nat):Prop:=6 ≤ c ∨ ∀ i,i < 8 → i ≠ c → rc h i 6 ≠ 1
instance (h:List (List Int)) (c:Nat):Decidable (freeP h c):=by unfold freeP; infer_instance
def fitP (ge:List (Int × Int)) (cyc per sh:Int) (h:List (List Int)) (c:Nat) (t:Int):Prop:=rc h c 5 * per ≤ opN ge cyc c (t + sh)
instance (ge:List (Int × Int)) (cyc per sh:Int) (h:List (List Int)) (c:Nat) (t:Int):Decidable (fitP ge cyc per sh h c t):=by unfold fitP; infer_instance
def mayP (ge:List (Int × Int)) (cyc per sh:Int) (h:List (List Int)) (c:Nat) (t:Int):Prop:=¬ zH h c ∧ freeP h c ∧ fitP ge cyc per sh h c t
instance (ge:List (Int × Int)) (cyc per sh:Int) (h:List (List Int)) (c:Nat) (t:Int):Decidable (mayP ge cyc per sh h c t):=by unfold mayP; infer_instance
def whnO (ge:List (Int × Int)) (cyc per sh:Int) (h:List (List Int)) (t:Int) (c:Nat):Option Int:=if ¬ zH h c ∧ freeP h c then (fitE ge cyc c (t + sh) (rc h c 5 * per)).map (· - sh) else none
theorem zH_rc {h:List (List Int)} {c:Nat} (hz:zH h c):rc h c 5=0 ∧ rc h c 6 ≠ 1:=by
  obtain ⟨h1,h2⟩:=hz
  simp only [List.cons.injEq] at h1
  exact ⟨h1.2.2.2.2.2.1,of_decide_eq_false h2⟩
theorem hd_full {h:List (List Int)} {c:Nat} (hh:hdP h) (hc:c < 8) (hz:¬ zH h c):ckP (rc h c 0) (rc h c 1) (rc h c 2) (rc h c 3) (rc h c 4) (rc h c 5) (rc h c 6)=0 ∧ rc h c 2=(c:Int):=(hh.2.2.1 c hc).resolve_left hz
theorem hd_left {h:List (List Int)} {c:Nat} (hh:hdP h) (hc:c < 8):0 ≤ rc h c 5 ∧ rc h c 5 ≤ 1542:=by
  by_cases hz:zH h c
  · have:=zH_rc hz; omega
  · have:=(ckP_ok (hd_full hh hc hz).1).2; omega
theorem hd_left1 {h:List (List Int)} {c:Nat} (hh:hdP h) (hc:c < 8) (hz:¬ zH h c):84 ≤ rc h c 5 ∧ rc h c 5 ≤ 1542:=(ckP_ok (hd_full hh hc hz).1).2
theorem zH_not {h:List (List Int)} {c:Nat} (hz:zH h c):rc h c 6 ≠ 1:=(zH_rc hz).2
theorem ckLine_w (A:Option Addr) (ge:List (Int × Int)) (gc:Nat) (cyc:Int) (per sh:Int) (w0:World) (hA:Ro w0 A (flat2 ge)) (hga:gaE ge cyc=0) (hln:lnP per sh) :
    Calls Tryz.prog 26 #[.agg #[.slice A ge.length gc,iv cyc,iv per,iv sh]] w0 (Ret w0 (.int .i64 0)):=by
 obtain ⟨hp1,hp2,hs1,hs2⟩:=hln
 have hgp:=(ga_p hga).2.2.1
 have hgs:=ga_pos hga
 refine enterK 27 Tryz.func26 rfl rfl rfl ?_
 intro a hF Q0 hR0 hN0
 have hM:=Mem.start w0
 replace hM:=hM.addOld 1 hA (Nat.le_refl _)
 refine wp_seq_k fun K1 hK1=>wp_region_lit (wl (xN 1 2 (t:=45) (fun b=>.pointer (some ⟨b,0,none⟩)) #[.slice A ge.length gc,iv cyc,iv per,iv sh] hF hM fun bb1 a w hF hM=>xB 1 [(2,iv 0)] hF fun a hF=>wpList_nil (hK1 _ _ (wp_seq_k fun K2 hK2=>wp_seq_k fun K3 hK3=>wp_region_lit (xB 1 [(3,pt bb1 0)] hF fun a hF=>wl (xL 4 2 0 (v:=.agg #[.slice A ge.length gc,iv cyc]) hF hM fun a w hF hM=>wl (xM 5 (v:=iv 0) hF hM (xC 35 #[.agg #[.slice A ge.length gc,iv cyc]] hF (fun w hM=>by have:=gaCheck_w A ge gc cyc w (hM.ok 1 _ rfl); rw [hga] at this; exact this)) fun a w hF hM=>?_)))))))
 refine wl (xP 6 (v0:=.bool (!decide (0=0))) (v:=.bool false) hF (nT (by omega)) fun a hF=>xB 2 [(7,.bool false),(8,pt bb1 2)] hF fun a hF=>wl (xL 9 2 2 (v:=iv per) hF hM fun a w hF hM=>wl (xP 10 (v0:=.bool (decide (per < 1))) (v:=.bool false) hF (bF (by omega)) fun a hF=>xB 3 [(11,.bool false),(12,.bool false),(13,pt bb1 2)] hF fun a hF=>wl (xL 14 2 2 (v:=iv per) hF hM fun a w hF hM=>wl (xP 15 (v0:=.bool (decide (1000 < per))) (v:=.bool false) hF (bF (by omega)) fun a hF=>xB 3 [(16,.bool false),(17,.bool false),(18,pt bb1 3)] hF fun a hF=>wl (xL 19 2 3 (v:=iv sh) hF hM fun a w hF hM=>wl (xP 20 (v0:=.bool (decide (sh < -1000))) (v:=.bool false) hF (bF (by omega)) fun a hF=>xB 3 [(21,.bool false),(22,.bool false),(23,pt bb1 3)] hF fun a hF=>wl (xL 24 2 3 (v:=iv sh) hF hM fun a w hF hM=>?_))))))))
 refine wl (xP 25 (v0:=.bool (decide (1000 < sh))) (v:=.bool false) hF (bF (by omega)) fun a hF=>xB 1 [(26,.bool false)] hF fun a hF=>wpList_nil (hK3 _ _ (xF hF (wp_skip (hK2 _ _ (wp_seq_k fun K4 hK4=>wp_region_lit (xB 1 [(2,iv 0)] hF fun a hF=>wpList_nil (hK4 _ _ ?_))))))))
 refine wp_ret (hR0 _ _ (ret_of hF hM (.tmp rfl (.nil)) (⟨rfl,hM.bel⟩)))
set_option maxHeartbeats 4000000 in
theorem ckHeads_w  (Ah : Option Addr) (h : List (List Int)) (hc : Nat) (w0 : World) (hH : Ro w0 Ah (flatE pE h)) (hh : hdP h) :
    Calls Tryz.prog 108 #[.slice Ah 8 hc] w0 (Ret w0 (.int .i64 0)):=by
 have h8:=hh.1
 have hWh:=hh.2.1
 have hr0:rsN h 0=0:=rfl
 refine enterK 36 Tryz.func108 rfl rfl rfl ?_
 intro a hF Q0 hR0 hN0
 have hM:=Mem.start w0
 replace hM:=hM.addOld 2 hH (Nat.le_refl _)
 refine wp_seq_k fun K1 hK1=>wp_region_lit (xB 1 [(2,iv 0)] hF fun a hF=>wpList_nil (hK1 _ _ (wp_seq_k fun K2 hK2=>wp_seq_k fun K3 hK3=>wp_region_lit (xB 2 [(6,.slice Ah 8 hc),(7,iv 8)] hF fun a hF=>wl (xP 8 (v0:=.bool (!decide (8=8))) (v:=.bool false) hF (nT (by omega)) fun a hF=>wpList_nil (hK3 _ _ ?_))))))
 refine xF hF (wp_skip (hK2 _ _ (wp_seq_k fun K4 hK4=>wp_region_lit (xB 1 [(3,iv 0)] hF fun a hF=>wpList_nil (hK4 _ _ (wp_seq_k fun K5 hK5=>wp_seq_k fun K6 hK6=>wp_region_lit (xB 3 [(9,.slice Ah 8 hc),(10,iv 8),(11,iv 0)] hF fun a hF=>?_)))))))
 refine wpList_nil (hK6 _ _ (wp_block (wp_loop_k (G:=Nat) (fun gg a w=>Fr 36 [(3,some (iv (rsN h gg))),(11,some (iv (gg:Int))),(9,some (.slice Ah 8 hc)),(10,some (iv 8))] a ∧ Mem w0.heap.size w0 [(2,some (.ro Ah (flatE pE h)))] w ∧ ((gg:Int) ≤ 8) ∧ (0 ≤ rsN h gg) ∧ (rsN h gg ≤ (gg:Int))) (fun gg=>8 - gg) (0) ?_ ?_)))
 ·refine ⟨(((((Fr.nil hF).c hF (i:=10) rfl rfl).c hF (i:=9) rfl rfl).c hF (i:=11) rfl (vi (show (0:Int)=(0:Int) from by omega))).c hF (i:=3) rfl (vi (show (0:Int)=rsN h 0 from by omega))),(hM.sub (Sub.nil.c (k:=2) rfl rfl)),(show (0:Int) ≤ 8 from by omega),(show 0 ≤ rsN h 0 from by exact Int.le_refl _),(show rsN h 0 ≤ (0:Int) from by exact Int.le_refl _)⟩
 intro gg a w hI
 intro K7 hK7
 obtain ⟨k,rfl⟩:∃ x,x=gg:=⟨_,rfl⟩
 try dsimp only at hI hK7
 obtain ⟨hF,hM,hz1,hz2,hz3⟩:=hI
 refine wp_seq_k fun K8 hK8=>wp_region_lit (xB 1 [(12,.bool (decide ((k:Int) < 8)))] hF fun a hF=>wpList_nil (hK8 _ _ (wp_seq_k fun K9 hK9=>?_)))
 by_cases hz4:(k:Int) < 8
 ·replace hF:=hF.c hF (i:=12) (v:=.bool true) rfl (bT hz4)
  refine xT hF (wp_skip (hK9 _ _ (wp_seq_k fun K10 hK10=>wp_block (wp_seq_k fun K11 hK11=>wp_region_lit (xB 1 [(13,iv (k:Int))] hF fun a hF=>wl (xM 14 (v:=.pointer (some (ea Ah (k * 7)))) hF hM (yld_ix (kd:=.i64) (e:=50) (len:=8) (cap:=hc) (i:=(k:Int)) (size:=7) (A:=Ah) hF rfl (by kernel_rfl) (by kernel_rfl) (by kernel_rfl) (by kernel_rfl) (by kernel_rfl) (roK 2 rfl) (by omega) (by omega) (by rw [flatE_length (es:=pE) hWh,show pE.length=7 from rfl,h8]; (try simp only [List.length_map,List.length_append,List.length_replicate,List.length_set,List.length_cons,List.length_nil,flat2_length,List.length_take]); omega)) fun a w hF hM=>wl (xM 15 (v:=.agg #[iv (rc h k 0),iv (rc h k 1),iv (rc h k 2),iv (rc h k 3),iv (rc h k 4),iv (rc h k 5),.bool (decide (rc h k 6=1))]) hF hM (yld_roM (A:=Ah) (j:=k * 7) (us:=[iv (rc h k 0),iv (rc h k 1),iv (rc h k 2),iv (rc h k 3),iv (rc h k 4),iv (rc h k 5),.bool (decide (rc h k 6=1))]) hF rfl (by kernel_rfl) (by kernel_rfl) (roK 2 rfl) (by kernel_rfl) rfl (rcE_sub (es:=pE) (k:=k) (f:=0) (m:=7) hWh (by omega) rfl)) fun a w hF hM=>?_)))))))
  have:=hd_left hh (c:=k) (by omega)
  refine wl (xN 5 3 (t:=50) (fun b=>.pointer (some ⟨b,0,none⟩)) #[iv 0,iv 0,iv 0,iv 0,iv 0,iv 0,.bool false] hF hM fun bb1 a w hF hM=>xB 1 [(4,iv (k:Int))] hF fun a hF=>?_)
  refine wl (xS 3 0 #[iv (rc h k 0),iv (rc h k 1),iv (rc h k 2),iv (rc h k 3),iv (rc h k 4),iv (rc h k 5),.bool (decide (rc h k 6=1))] hF hM fun w hM=>wpList_nil (hK11 _ _ (wp_seq_k fun K12 hK12=>wp_seq_k fun K13 hK13=>wp_region_lit (wl (xL 16 3 0 (v:=.agg #[iv (rc h k 0),iv (rc h k 1),iv (rc h k 2),iv (rc h k 3),iv (rc h k 4),iv (rc h k 5),.bool (decide (rc h k 6=1))]) hF hM fun a w hF hM=>xB 1 [(17,.agg #[iv 0,iv 0,iv 0,iv 0,iv 0,iv 0,.bool false])] hF fun a hF=>wl (xM 18 (v:=.bool (decide ([rc h k 0,rc h k 1,rc h k 2,rc h k 3,rc h k 4,rc h k 5]=[0,0,0,0,0,0] ∧ (decide (rc h k 6=1))=false))) hF hM (yld_eqlP (C:=Mem _ _ _) (rc h k 0) (rc h k 1) (rc h k 2) (rc h k 3) (rc h k 4) (rc h k 5) 0 0 0 0 0 0 (decide (rc h k 6=1)) false hF rfl (by kernel_rfl) (by kernel_rfl) (by kernel_rfl)) fun a w hF hM=>wpList_nil (hK13 _ _ ?_)))))))
  by_cases hz5:[rc h k 0,rc h k 1,rc h k 2,rc h k 3,rc h k 4,rc h k 5]=[0,0,0,0,0,0] ∧ (decide (rc h k 6=1))=false
  ·replace hF:=hF.c hF (i:=18) (v:=.bool true) rfl (bT hz5)
   refine xT hF (wp_exit (hK10 _ _ (wp_region_lit (wl (xP 33 (v0:=.int .i64 (IntKind.i64.wrap ((k:Int) + 1))) (v:=iv ((k:Int) + 1)) hF (wi (by omega)) fun a hF=>xB 1 [(11,iv ((k:Int) + 1))] hF fun a hF=>wpList_nil ?_)))))
   have hsn:rsN h (k + 1)=rsN h k + (if rc h k 6=1 then 1 else 0):=rfl
   first | rw [if_pos (by assumption)] at hsn | rw [if_neg (by first | assumption | exact zH_not (by assumption))] at hsn
   refine hK7 _ _ ⟨(k + 1),⟨(((((Fr.nil hF).c hF (i:=10) rfl rfl).c hF (i:=9) rfl rfl).c hF (i:=11) rfl (vi (show ((k:Int) + 1:Int)=((k + 1):Int) from by omega))).c hF (i:=3) rfl (vi (show (rsN h k:Int)=rsN h (k + 1) from by omega))),(hM.sub (Sub.nil.c (k:=2) rfl rfl)),(show ((k + 1):Int) ≤ 8 from by omega),(show 0 ≤ rsN h (k + 1) from by omega),(show rsN h (k + 1) ≤ ((k + 1):Int) from by omega)⟩,(show 8 - (k + 1) < 8 - k from by omega)⟩
  replace hF:=hF.c hF (i:=18) (v:=.bool false) rfl (bF hz5)
  refine xF hF (wp_skip (hK12 _ _ (wp_seq_k fun K14 hK14=>wp_seq_k fun K15 hK15=>?_)))
  by_cases hz6:ckP (rc h k 0) (rc h k 1) (rc h k 2) (rc h k 3) (rc h k 4) (rc h k 5) (rc h k 6)=0
  ·have hz7:=ckP_ok hz6
   have hz8:=hz7.1
   have hz9:=ckI_ok hz8
   refine wp_region_lit (wl (xL 19 3 0 (v:=.agg #[iv (rc h k 0),iv (rc h k 1),iv (rc h k 2),iv (rc h k 3),iv (rc h k 4),iv (rc h k 5),.bool (decide (rc h k 6=1))]) hF hM fun a w hF hM=>wl (xM 20 (v:=iv (ckP (rc h k 0) (rc h k 1) (rc h k 2) (rc h k 3) (rc h k 4) (rc h k 5) (rc h k 6))) hF hM (xC 67 #[.agg #[iv (rc h k 0),iv (rc h k 1),iv (rc h k 2),iv (rc h k 3),iv (rc h k 4),iv (rc h k 5),.bool (decide (rc h k 6=1))]] hF (fun w hM=>ckPart_w (rc h k 0) (rc h k 1) (rc h k 2) (rc h k 3) (rc h k 4) (rc h k 5) (rc h k 6) w)) fun a w hF hM=>wl (xP 21 (v0:=.bool (!decide (ckP (rc h k 0) (rc h k 1) (rc h k 2) (rc h k 3) (rc h k 4) (rc h k 5) (rc h k 6)=0))) (v:=.bool false) hF (nT hz6) fun a hF=>xB 3 [(22,.bool false),(23,pt bb1 0),(24,pt bb1 2)] hF fun a hF=>wl (xL 25 3 2 (v:=iv (rc h k 2)) hF hM fun a w hF hM=>xB 3 [(26,iv (k:Int)),(27,.bool (!decide (rc h k 2=(k:Int)))),(28,.bool (!decide (rc h k 2=(k:Int))))] hF fun a hF=>wpList_nil (hK15 _ _ ?_))))))
   by_cases hz10:rc h k 2=(k:Int)
   ·replace hF:=hF.c hF (i:=27) (v:=.bool false) rfl (nT hz10)
    replace hF:=hF.c hF (i:=28) (v:=.bool false) rfl (nT hz10)
    refine xF hF (wp_skip (hK14 _ _ (wp_seq_k fun K16 hK16=>wp_region_lit (xB 1 [(29,pt bb1 6)] hF fun a hF=>wl (xL 30 3 6 (v:=.bool (decide (rc h k 6=1))) hF hM fun a w hF hM=>wpList_nil (hK16 _ _ ?_))))))
    by_cases hz11:rc h k 6=1
    ·replace hF:=hF.c hF (i:=30) (v:=.bool true) rfl (bT hz11)
     refine xT hF (wp_region_lit (xB 1 [(31,iv (rsN h k))] hF fun a hF=>wl (xP 32 (v0:=.int .i64 (IntKind.i64.wrap (rsN h k + 1))) (v:=iv (rsN h k + 1)) hF (wi (by omega)) fun a hF=>xB 1 [(3,iv (rsN h k + 1))] hF fun a hF=>wpList_nil (hK10 _ _ (wp_region_lit (wl (xP 33 (v0:=.int .i64 (IntKind.i64.wrap ((k:Int) + 1))) (v:=iv ((k:Int) + 1)) hF (wi (by omega)) fun a hF=>xB 1 [(11,iv ((k:Int) + 1))] hF fun a hF=>wpList_nil ?_)))))))
     have hsn:rsN h (k + 1)=rsN h k + (if rc h k 6=1 then 1 else 0):=rfl
     first | rw [if_pos (by assumption)] at hsn | rw [if_neg (by first | assumption | exact zH_not (by assumption))] at hsn
     refine hK7 _ _ ⟨(k + 1),⟨(((((Fr.nil hF).c hF (i:=10) rfl rfl).c hF (i:=9) rfl rfl).c hF (i:=11) rfl (vi (show ((k:Int) + 1:Int)=((k + 1):Int) from by omega))).c hF (i:=3) rfl (vi (show (rsN h k + 1:Int)=rsN h (k + 1) from by omega))),(hM.sub (Sub.nil.c (k:=2) rfl rfl)),(show ((k + 1):Int) ≤ 8 from by omega),(show 0 ≤ rsN h (k + 1) from by omega),(show rsN h (k + 1) ≤ ((k + 1):Int) from by omega)⟩,(show 8 - (k + 1) < 8 - k from by omega)⟩
    replace hF:=hF.c hF (i:=30) (v:=.bool false) rfl (bF hz11)
    refine xF hF (wp_skip (hK10 _ _ (wp_region_lit (wl (xP 33 (v0:=.int .i64 (IntKind.i64.wrap ((k:Int) + 1))) (v:=iv ((k:Int) + 1)) hF (wi (by omega)) fun a hF=>xB 1 [(11,iv ((k:Int) + 1))] hF fun a hF=>wpList_nil ?_)))))
    have hsn:rsN h (k + 1)=rsN h k + (if rc h k 6=1 then 1 else 0):=rfl
    first | rw [if_pos (by assumption)] at hsn | rw [if_neg (by first | assumption | exact zH_not (by assumption))] at hsn
    refine hK7 _ _ ⟨(k + 1),⟨(((((Fr.nil hF).c hF (i:=10) rfl rfl).c hF (i:=9) rfl rfl).c hF (i:=11) rfl (vi (show ((k:Int) + 1:Int)=((k + 1):Int) from by omega))).c hF (i:=3) rfl (vi (show (rsN h k:Int)=rsN h (k + 1) from by omega))),(hM.sub (Sub.nil.c (k:=2) rfl rfl)),(show ((k + 1):Int) ≤ 8 from by omega),(show 0 ≤ rsN h (k + 1) from by omega),(show rsN h (k + 1) ≤ ((k + 1):Int) from by omega)⟩,(show 8 - (k + 1) < 8 - k from by omega)⟩
   exact absurd (hd_full (c:=k) hh (by omega) (by assumption)).2 (by assumption)
  exact absurd (hd_full (c:=k) hh (by omega) (by assumption)).1 (by assumption)
 replace hF:=hF.c hF (i:=12) (v:=.bool false) rfl (bF hz4)
 refine xF hF (wp_exit (hK5 _ _ (wp_seq_k fun K17 hK17=>wp_seq_k fun K18 hK18=>wp_region_lit (xB 2 [(34,iv (rsN h k)),(35,.bool (decide (1 < rsN h k)))] hF fun a hF=>wpList_nil (hK18 _ _ ?_)))))
 by_cases hz12:1 < rsN h k
 ·replace hF:=hF.c hF (i:=35) (v:=.bool true) rfl (bT hz12)
  refine xT hF (wp_seq_k fun K19 hK19=>wp_region_lit (xB 1 [(2,iv 470)] hF fun a hF=>wpList_nil (hK19 _ _ (wp_ret (hR0 _ _ (ret_of hF hM (.tmp rfl (.nil)) ?_))))))
  obtain rfl:k=8:=by omega
  exact absurd hh.2.2.2 (by omega)
 replace hF:=hF.c hF (i:=35) (v:=.bool false) rfl (bF hz12)
 refine xF hF (wp_skip (hK17 _ _ (wp_seq_k fun K20 hK20=>wp_region_lit (xB 1 [(2,iv 0)] hF fun a hF=>wpList_nil (hK20 _ _ (wp_ret (hR0 _ _ (ret_of hF hM (.tmp rfl (.nil)) (⟨rfl,hM.bel⟩)))))))))
theorem chChk_w (A:Option Addr) (ge:List (Int × Int)) (gc:Nat) (cyc:Int) (per sh:Int) (Ah:Option Addr) (h:List (List Int)) (hc:Nat) (t:Int) (w0:World) (hA:Ro w0 A (flat2 ge)) (hga:gaE ge cyc=0) (hln:lnP per sh) (hH:Ro w0 Ah (flatE pE h)) (hh:hdP h) (ht:0 ≤ t ∧ t ≤ 549755813888) :
    Calls Tryz.prog 88 #[.agg #[.slice A ge.length gc,iv cyc,iv per,iv sh],.slice Ah 8 hc,iv t] w0 (Ret w0 (.int .i64 0)):=by
 obtain ⟨hp1,hp2,hs1,hs2⟩:=hln
 have hgp:=(ga_p hga).2.2.1
 have hgs:=ga_pos hga
 have h8:=hh.1
 have hWh:=hh.2.1
 refine enterK 25 Tryz.func88 rfl rfl rfl ?_
 intro a hF Q0 hR0 hN0
 have hM:=Mem.start w0
 replace hM:=hM.addOld 1 hA (Nat.le_refl _)
 replace hM:=hM.addOld 2 hH (Nat.le_refl _)
 refine wp_seq_k fun K1 hK1=>wp_region_lit (wl (xN 3 3 (t:=45) (fun b=>.pointer (some ⟨b,0,none⟩)) #[.slice A ge.length gc,iv cyc,iv per,iv sh] hF hM fun bb1 a w hF hM=>xB 1 [(6,iv 0)] hF fun a hF=>wpList_nil (hK1 _ _ (wp_seq_k fun K2 hK2=>wp_seq_k fun K3 hK3=>wp_region_lit (wl (xL 9 3 0 (v:=.agg #[.slice A ge.length gc,iv cyc,iv per,iv sh]) hF hM fun a w hF hM=>wl (xM 10 (v:=iv 0) hF hM (xC 26 #[.agg #[.slice A ge.length gc,iv cyc,iv per,iv sh]] hF (fun w hM=>ckLine_w A ge gc cyc per sh w (hM.ok 1 _ rfl) hga ⟨hp1,hp2,hs1,hs2⟩)) fun a w hF hM=>xB 1 [(7,iv 0)] hF fun a hF=>?_)))))))
 refine wpList_nil (hK3 _ _ (wp_seq_k fun K4 hK4=>wp_region_lit (xB 1 [(11,iv 0)] hF fun a hF=>wl (xP 12 (v0:=.bool (!decide (0=0))) (v:=.bool false) hF (nT (by omega)) fun a hF=>wpList_nil (hK4 _ _ (xF hF (wp_skip (hK2 _ _ (wp_seq_k fun K5 hK5=>?_)))))))))
 refine wp_seq_k fun K6 hK6=>wp_region_lit (xB 1 [(14,.slice Ah 8 hc)] hF fun a hF=>wl (xM 15 (v:=iv 0) hF hM (xC 108 #[.slice Ah 8 hc] hF (fun w hM=>ckHeads_w Ah h hc w (hM.ok 2 _ rfl) hh)) fun a w hF hM=>xB 1 [(8,iv 0)] hF fun a hF=>wpList_nil (hK6 _ _ (wp_seq_k fun K7 hK7=>wp_region_lit (xB 1 [(16,iv 0)] hF fun a hF=>wl (xP 17 (v0:=.bool (!decide (0=0))) (v:=.bool false) hF (nT (by omega)) fun a hF=>wpList_nil ?_))))))
 refine hK7 _ _ (xF hF (wp_skip (hK5 _ _ (wp_seq_k fun K8 hK8=>wp_seq_k fun K9 hK9=>wp_region_lit (xB 1 [(19,iv t)] hF fun a hF=>wl (xP 20 (v0:=.bool (decide (t < 0))) (v:=.bool false) hF (bF (by omega)) fun a hF=>xB 2 [(21,.bool false),(22,iv t)] hF fun a hF=>wl (xP 23 (v0:=.bool (decide (549755813888 < t))) (v:=.bool false) hF (bF (by omega)) fun a hF=>xB 1 [(24,.bool false)] hF fun a hF=>?_)))))))
 refine wpList_nil (hK9 _ _ (xF hF (wp_skip (hK8 _ _ (wp_seq_k fun K10 hK10=>wp_region_lit (xB 1 [(6,iv 0)] hF fun a hF=>wpList_nil (hK10 _ _ (wp_ret (hR0 _ _ ?_)))))))))
 refine ret_of hF hM (.tmp rfl (.nil)) (⟨rfl,hM.bel⟩)
theorem full_w (A:Option Addr) (ge:List (Int × Int)) (gc:Nat) (cyc:Int) (per sh:Int) (Ah:Option Addr) (h:List (List Int)) (hc:Nat) (c:Nat) (w0:World) (hA:Ro w0 A (flat2 ge)) (hga:gaE ge cyc=0) (hln:lnP per sh) (hH:Ro w0 Ah (flatE pE h)) (hh:hdP h) (hc8:c < 8) :
    Calls Tryz.prog 97 #[.agg #[.slice A ge.length gc,iv cyc,iv per,iv sh,.slice Ah 8 hc],iv (c:Int)] w0 (Ret w0 (.bool (!decide (zH h c)))):=by
 obtain ⟨hp1,hp2,hs1,hs2⟩:=hln
 have hgp:=(ga_p hga).2.2.1
 have hgs:=ga_pos hga
 have h8:=hh.1
 have hWh:=hh.2.1
 refine enterK 12 Tryz.func97 rfl rfl rfl ?_
 intro a hF Q0 hR0 hN0
 have hM:=Mem.start w0
 replace hM:=hM.addOld 1 hA (Nat.le_refl _)
 replace hM:=hM.addOld 2 hH (Nat.le_refl _)
 refine wp_seq_k fun K1 hK1=>wp_region_lit (wl (xN 2 3 (t:=166) (fun b=>.pointer (some ⟨b,0,none⟩)) #[.slice A ge.length gc,iv cyc,iv per,iv sh,.slice Ah 8 hc] hF hM fun bb1 a w hF hM=>xB 1 [(4,.bool false)] hF fun a hF=>wpList_nil (hK1 _ _ (wp_seq_k fun K2 hK2=>wp_region_lit (xB 1 [(5,pt bb1 4)] hF fun a hF=>wl (xL 6 3 4 (v:=.slice Ah 8 hc) hF hM fun a w hF hM=>xB 1 [(7,iv (c:Int))] hF fun a hF=>wl (xM 8 (v:=.pointer (some (ea Ah (c * 7)))) hF hM (yld_ix (kd:=.i64) (e:=50) (len:=8) (cap:=hc) (i:=(c:Int)) (size:=7) (A:=Ah) hF rfl (by kernel_rfl) (by kernel_rfl) (by kernel_rfl) (by kernel_rfl) (by kernel_rfl) (roK 2 rfl) (by omega) (by omega) (by rw [flatE_length (es:=pE) hWh,show pE.length=7 from rfl,h8]; (try simp only [List.length_map,List.length_append,List.length_replicate,List.length_set,List.length_cons,List.length_nil,flat2_length,List.length_take]); omega)) fun a w hF hM=>?_)))))))
 refine wl (xM 9 (v:=.agg #[iv (rc h c 0),iv (rc h c 1),iv (rc h c 2),iv (rc h c 3),iv (rc h c 4),iv (rc h c 5),.bool (decide (rc h c 6=1))]) hF hM (yld_roM (A:=Ah) (j:=c * 7) (us:=[iv (rc h c 0),iv (rc h c 1),iv (rc h c 2),iv (rc h c 3),iv (rc h c 4),iv (rc h c 5),.bool (decide (rc h c 6=1))]) hF rfl (by kernel_rfl) (by kernel_rfl) (roK 2 rfl) (by kernel_rfl) rfl (rcE_sub (es:=pE) (k:=c) (f:=0) (m:=7) hWh (by omega) rfl)) fun a w hF hM=>?_)
 have:=hd_left hh (c:=c) (by omega)
 refine xB 1 [(10,.agg #[iv 0,iv 0,iv 0,iv 0,iv 0,iv 0,.bool false])] hF fun a hF=>wl (xM 11 (v:=.bool (!decide ([rc h c 0,rc h c 1,rc h c 2,rc h c 3,rc h c 4,rc h c 5]=[0,0,0,0,0,0] ∧ (decide (rc h c 6=1))=false))) hF hM (yld_neqP (C:=Mem _ _ _) (rc h c 0) (rc h c 1) (rc h c 2) (rc h c 3) (rc h c 4) (rc h c 5) 0 0 0 0 0 0 (decide (rc h c 6=1)) false hF rfl (by kernel_rfl) (by kernel_rfl) (by kernel_rfl)) fun a w hF hM=>xB 1 [(4,.bool (!decide ([rc h c 0,rc h c 1,rc h c 2,rc h c 3,rc h c 4,rc h c 5]=[0,0,0,0,0,0] ∧ (decide (rc h c 6=1))=false)))] hF fun a hF=>wpList_nil (hK2 _ _ (wp_ret (hR0 _ _ (ret_of hF hM (.tmp rfl (.nil)) (⟨rfl,hM.bel⟩))))))
set_option maxHeartbeats 4000000 in
theorem free_w (A:Option Addr) (ge:List (Int × Int)) (gc:Nat) (cyc:Int) (per sh:Int) (Ah:Option Addr) (h:List (List Int)) (hc:Nat) (c:Nat) (w0:World) (hA:Ro w0 A (flat2 ge)) (hga:gaE ge cyc=0) (hln:lnP per sh) (hH:Ro w0 Ah (flatE pE h)) (hh:hdP h) (hc8:c < 8) :
    Calls Tryz.prog 111 #[.agg #[.slice A ge.length gc,iv cyc,iv per,iv sh,.slice Ah 8 hc],iv (c:Int)] w0 (Ret w0 (.bool (decide (freeP h c)))):=by
 obtain ⟨hp1,hp2,hs1,hs2⟩:=hln
 have hgp:=(ga_p hga).2.2.1
 have hgs:=ga_pos hga
 have h8:=hh.1
 have hWh:=hh.2.1
 refine enterK 25 Tryz.func111 rfl rfl rfl ?_
 intro a hF Q0 hR0 hN0
 have hM:=Mem.start w0
 replace hM:=hM.addOld 1 hA (Nat.le_refl _)
 replace hM:=hM.addOld 2 hH (Nat.le_refl _)
 refine wp_seq_k fun K1 hK1=>wp_region_lit (wl (xN 2 3 (t:=166) (fun b=>.pointer (some ⟨b,0,none⟩)) #[.slice A ge.length gc,iv cyc,iv per,iv sh,.slice Ah 8 hc] hF hM fun bb1 a w hF hM=>xB 1 [(4,.bool false)] hF fun a hF=>wpList_nil (hK1 _ _ (wp_seq_k fun K2 hK2=>wp_seq_k fun K3 hK3=>wp_region_lit (xB 2 [(7,iv (c:Int)),(8,.bool (decide (6 ≤ (c:Int))))] hF fun a hF=>wpList_nil (hK3 _ _ ?_))))))
 by_cases hz1:6 ≤ (c:Int)
 ·replace hF:=hF.c hF (i:=8) (v:=.bool true) rfl (bT hz1)
  refine xT hF (wp_seq_k fun K4 hK4=>wp_region_lit (xB 1 [(4,.bool true)] hF fun a hF=>wpList_nil (hK4 _ _ (wp_ret (hR0 _ _ (ret_of hF hM (.tmp rfl (.nil)) (⟨ret_bool (decide_eq_true (by first | exact .inl (by omega) | exact .inr (fun i hi hne=>‹∀ j,j < k → j ≠ c → rc h j 6 ≠ 1› i (by omega) hne))).symm,hM.bel⟩)))))))
 replace hF:=hF.c hF (i:=8) (v:=.bool false) rfl (bF hz1)
 refine xF hF (wp_skip (hK2 _ _ (wp_seq_k fun K5 hK5=>wp_seq_k fun K6 hK6=>wp_region_lit (xB 1 [(9,pt bb1 4)] hF fun a hF=>wl (xL 10 3 4 (v:=.slice Ah 8 hc) hF hM fun a w hF hM=>xB 2 [(11,iv 8),(12,iv 0)] hF fun a hF=>wpList_nil (hK6 _ _ (wp_block ?_)))))))
 refine wp_loop_k (G:=Nat) (fun gg a w=>Fr 25 [(12,some (iv (gg:Int))),(1,some (iv (c:Int))),(10,some (.slice Ah 8 hc)),(11,some (iv 8))] a ∧ Mem w0.heap.size w0 [(1,some (.ro A (flat2 ge))),(2,some (.ro Ah (flatE pE h)))] w ∧ ((gg:Int) ≤ 8) ∧ (∀ j,j < gg → j ≠ c → rc h j 6 ≠ 1)) (fun gg=>8 - gg) (0) ?_ ?_
 ·refine ⟨(((((Fr.nil hF).c hF (i:=11) rfl rfl).c hF (i:=10) rfl rfl).c hF (i:=1) rfl rfl).c hF (i:=12) rfl (vi (show (0:Int)=(0:Int) from by omega))),(hM.sub ((Sub.nil.c (k:=2) rfl rfl).c (k:=1) rfl rfl)),(show (0:Int) ≤ 8 from by omega),(show ∀ j,j < 0 → j ≠ c → rc h j 6 ≠ 1 from by exact fun j hj=>by omega)⟩
 intro gg a w hI
 intro K7 hK7
 obtain ⟨k,rfl⟩:∃ x,x=gg:=⟨_,rfl⟩
 try dsimp only at hI hK7
 obtain ⟨hF,hM,hz2,hz3⟩:=hI
 refine wp_seq_k fun K8 hK8=>wp_region_lit (xB 1 [(13,.bool (decide ((k:Int) < 8)))] hF fun a hF=>wpList_nil (hK8 _ _ (wp_seq_k fun K9 hK9=>?_)))
 by_cases hz4:(k:Int) < 8
 ·replace hF:=hF.c hF (i:=13) (v:=.bool true) rfl (bT hz4)
  refine xT hF (wp_skip (hK9 _ _ (wp_seq_k fun K10 hK10=>wp_block (wp_seq_k fun K11 hK11=>wp_region_lit (xB 1 [(14,iv (k:Int))] hF fun a hF=>wl (xM 15 (v:=.pointer (some (ea Ah (k * 7)))) hF hM (yld_ix (kd:=.i64) (e:=50) (len:=8) (cap:=hc) (i:=(k:Int)) (size:=7) (A:=Ah) hF rfl (by kernel_rfl) (by kernel_rfl) (by kernel_rfl) (by kernel_rfl) (by kernel_rfl) (roK 2 rfl) (by omega) (by omega) (by rw [flatE_length (es:=pE) hWh,show pE.length=7 from rfl,h8]; (try simp only [List.length_map,List.length_append,List.length_replicate,List.length_set,List.length_cons,List.length_nil,flat2_length,List.length_take]); omega)) fun a w hF hM=>wl (xM 16 (v:=.agg #[iv (rc h k 0),iv (rc h k 1),iv (rc h k 2),iv (rc h k 3),iv (rc h k 4),iv (rc h k 5),.bool (decide (rc h k 6=1))]) hF hM (yld_roM (A:=Ah) (j:=k * 7) (us:=[iv (rc h k 0),iv (rc h k 1),iv (rc h k 2),iv (rc h k 3),iv (rc h k 4),iv (rc h k 5),.bool (decide (rc h k 6=1))]) hF rfl (by kernel_rfl) (by kernel_rfl) (roK 2 rfl) (by kernel_rfl) rfl (rcE_sub (es:=pE) (k:=k) (f:=0) (m:=7) hWh (by omega) rfl)) fun a w hF hM=>?_)))))))
  have:=hd_left hh (c:=k) (by omega)
  refine wl (xN 6 4 (t:=50) (fun b=>.pointer (some ⟨b,0,none⟩)) #[iv 0,iv 0,iv 0,iv 0,iv 0,iv 0,.bool false] hF hM fun bb2 a w hF hM=>xB 1 [(5,iv (k:Int))] hF fun a hF=>?_)
  refine wl (xS 4 0 #[iv (rc h k 0),iv (rc h k 1),iv (rc h k 2),iv (rc h k 3),iv (rc h k 4),iv (rc h k 5),.bool (decide (rc h k 6=1))] hF hM fun w hM=>wpList_nil (hK11 _ _ (wp_seq_k fun K12 hK12=>?_)))
  by_cases hz5:(k:Int)=(c:Int)
  ·refine wp_region_lit (xB 2 [(17,iv (k:Int)),(18,iv (c:Int))] hF fun a hF=>wl (xP 19 (v0:=.bool (!decide ((k:Int)=(c:Int)))) (v:=.bool false) hF (nT hz5) fun a hF=>xB 4 [(20,.bool false),(21,undef),(22,undef),(23,.bool false)] hF fun a hF=>wpList_nil (hK12 _ _ (xF hF (wp_skip (hK10 _ _ (wp_region_lit (wl (xP 24 (v0:=.int .i64 (IntKind.i64.wrap ((k:Int) + 1))) (v:=iv ((k:Int) + 1)) hF (wi (by omega)) fun a hF=>xB 1 [(12,iv ((k:Int) + 1))] hF fun a hF=>?_)))))))))
   refine wpList_nil (hK7 _ _ ⟨(k + 1),⟨(((((Fr.nil hF).c hF (i:=11) rfl rfl).c hF (i:=10) rfl rfl).c hF (i:=1) rfl rfl).c hF (i:=12) rfl (vi (show ((k:Int) + 1:Int)=((k + 1):Int) from by omega))),(hM.sub ((Sub.nil.c (k:=2) rfl rfl).c (k:=1) rfl rfl)),(show ((k + 1):Int) ≤ 8 from by omega),(show ∀ j,j < (k + 1) → j ≠ c → rc h j 6 ≠ 1 from by exact fun j hj hne=>by by_cases e:j=k; (subst e; first | assumption | exact absurd (by omega) hne); exact ‹∀ j,j < k → j ≠ c → rc h j 6 ≠ 1› j (by omega) hne)⟩,(show 8 - (k + 1) < 8 - k from by omega)⟩)
  refine wp_region_lit (xB 2 [(17,iv (k:Int)),(18,iv (c:Int))] hF fun a hF=>wl (xP 19 (v0:=.bool (!decide ((k:Int)=(c:Int)))) (v:=.bool true) hF (nF hz5) fun a hF=>xB 2 [(20,.bool true),(21,pt bb2 6)] hF fun a hF=>wl (xL 22 4 6 (v:=.bool (decide (rc h k 6=1))) hF hM fun a w hF hM=>xB 1 [(23,.bool (decide (rc h k 6=1)))] hF fun a hF=>wpList_nil (hK12 _ _ ?_))))
  by_cases hz6:rc h k 6=1
  ·replace hF:=hF.c hF (i:=22) (v:=.bool true) rfl (bT hz6)
   replace hF:=hF.c hF (i:=23) (v:=.bool true) rfl (bT hz6)
   refine xT hF (wp_seq_k fun K13 hK13=>wp_region_lit (xB 1 [(4,.bool false)] hF fun a hF=>wpList_nil (hK13 _ _ (wp_ret (hR0 _ _ (ret_of hF hM (.tmp rfl (.nil)) (⟨ret_bool (decide_eq_false (fun z=>by rcases z with z | z; omega; exact z k (by omega) (by omega) (by assumption))).symm,hM.bel⟩)))))))
  replace hF:=hF.c hF (i:=22) (v:=.bool false) rfl (bF hz6)
  replace hF:=hF.c hF (i:=23) (v:=.bool false) rfl (bF hz6)
  refine xF hF (wp_skip (hK10 _ _ (wp_region_lit (wl (xP 24 (v0:=.int .i64 (IntKind.i64.wrap ((k:Int) + 1))) (v:=iv ((k:Int) + 1)) hF (wi (by omega)) fun a hF=>xB 1 [(12,iv ((k:Int) + 1))] hF fun a hF=>wpList_nil (hK7 _ _ ⟨(k + 1),⟨(((((Fr.nil hF).c hF (i:=11) rfl rfl).c hF (i:=10) rfl rfl).c hF (i:=1) rfl rfl).c hF (i:=12) rfl (vi (show ((k:Int) + 1:Int)=((k + 1):Int) from by omega))),(hM.sub ((Sub.nil.c (k:=2) rfl rfl).c (k:=1) rfl rfl)),(show ((k + 1):Int) ≤ 8 from by omega),(show ∀ j,j < (k + 1) → j ≠ c → rc h j 6 ≠ 1 from by exact fun j hj hne=>by by_cases e:j=k; (subst e; first | assumption | exact absurd (by omega) hne); exact ‹∀ j,j < k → j ≠ c → rc h j 6 ≠ 1› j (by omega) hne)⟩,(show 8 - (k + 1) < 8 - k from by omega)⟩))))))
 replace hF:=hF.c hF (i:=13) (v:=.bool false) rfl (bF hz4)
 refine xF hF (wp_exit (hK5 _ _ (wp_seq_k fun K14 hK14=>wp_region_lit (xB 1 [(4,.bool true)] hF fun a hF=>wpList_nil (hK14 _ _ (wp_ret (hR0 _ _ (ret_of hF hM (.tmp rfl (.nil)) (⟨ret_bool (decide_eq_true (by first | exact .inl (by omega) | exact .inr (fun i hi hne=>‹∀ j,j < k → j ≠ c → rc h j 6 ≠ 1› i (by omega) hne))).symm,hM.bel⟩)))))))))
end Go.Proofs.YtlngflbamkgjlaaGreat
namespace Go.Proofs.YtlngflbamkgjlaaGreat
open Go.RowKit
set_option linter.unusedVariables false
set_option linter.unusedSimpArgs false
set_option maxRecDepth 100000
set_option maxHeartbeats 4000000 in
theorem fits_w (A:Option Addr) (ge:List (Int × Int)) (gc:Nat) (cyc:Int) (per sh:Int) (Ah:Option Addr) (h:List (List Int)) (hc:Nat) (c:Nat) (t:Int) (w0:World) (hA:Ro w0 A (flat2 ge)) (hga:gaE ge cyc=0) (hln:lnP per sh) (hH:Ro w0 Ah (flatE pE h)) (hh:hdP h) (hc8:c < 8) (ht:0 ≤ t ∧ t ≤ 1099511600000) :
    Calls Tryz.prog 98 #[.agg #[.slice A ge.length gc,iv cyc,iv per,iv sh,.slice Ah 8 hc],iv (c:Int),iv t] w0 (Ret w0 (.bool (decide (fitP ge cyc per sh h c t)))):=by
 obtain ⟨hp1,hp2,hs1,hs2⟩:=hln
 have hgp:=(ga_p hga).2.2.1
 have hgs:=ga_pos hga
 have h8:=hh.1
 have hWh:=hh.2.1
 have hlb:=hd_left hh (c:=c) (by omega)
 refine enterK 37 Tryz.func98 rfl rfl rfl ?_
 intro a hF Q0 hR0 hN0
 have hM:=Mem.start w0
 replace hM:=hM.addOld 1 hA (Nat.le_refl _)
 replace hM:=hM.addOld 2 hH (Nat.le_refl _)
 refine wp_seq_k fun K1 hK1=>wp_region_lit (wl (xN 3 3 (t:=166) (fun b=>.pointer (some ⟨b,0,none⟩)) #[.slice A ge.length gc,iv cyc,iv per,iv sh,.slice Ah 8 hc] hF hM fun bb1 a w hF hM=>xB 1 [(6,.bool false)] hF fun a hF=>wpList_nil (hK1 _ _ (wp_seq_k fun K2 hK2=>rQ hM (by kernel_rfl) (by kernel_rfl) (xQ 10 (v0:=pt bb1 0) (v:=pt bb1 0) hF rfl fun a hF=>xQ 11 (v0:=pt bb1 0) (v:=pt bb1 0) hF rfl fun a hF=>xK 12 3 0 (v:=.agg #[.slice A ge.length gc,iv cyc]) hF fun a hF=>xQ 13 (v0:=iv (c:Int)) (v:=iv (c:Int)) hF rfl fun a hF=>?_)))))
 refine xQ 14 (v0:=iv t) (v:=iv t) hF rfl fun a hF=>xQ 15 (v0:=pt bb1 0) (v:=pt bb1 0) hF rfl fun a hF=>xQ 16 (v0:=pt bb1 3) (v:=pt bb1 3) hF rfl fun a hF=>xK 17 3 3 (v:=iv sh) hF fun a hF=>xQ 18 (v0:=.int .i64 (IntKind.i64.wrap (t + sh))) (v:=iv (t + sh)) hF (wi (by omega)) fun a hF=>xQ 19 (v0:=pt bb1 4) (v:=pt bb1 4) hF rfl fun a hF=>xK 20 3 4 (v:=.slice Ah 8 hc) hF fun a hF=>xQ 21 (v0:=iv (c:Int)) (v:=iv (c:Int)) hF rfl fun a hF=>xR 22 (v:=.pointer (some (ea Ah (c * 7)))) hF (yld_ix (kd:=.i64) (e:=50) (len:=8) (cap:=hc) (i:=(c:Int)) (size:=7) (A:=Ah) hF rfl (by kernel_rfl) (by kernel_rfl) (by kernel_rfl) (by kernel_rfl) (by kernel_rfl) (roK 2 rfl) (by omega) (by omega) (by rw [flatE_length (es:=pE) hWh,show pE.length=7 from rfl,h8]; (try simp only [List.length_map,List.length_append,List.length_replicate,List.length_set,List.length_cons,List.length_nil,flat2_length,List.length_take]); omega)) fun a hF=>xQ 23 (v0:=.pointer (some (ea Ah (c * 7 + 5)))) (v:=.pointer (some (ea Ah (c * 7 + 5)))) hF rfl fun a hF=>xR 24 (v:=iv (rc h c 5)) hF (yld_ro1 (A:=Ah) (j:=c * 7 + 5) hF rfl (by kernel_rfl) (by kernel_rfl) (roK 2 rfl) (by kernel_rfl) (rcE_at (es:=pE) (k:=c) (i:=5) hWh (by omega) rfl)) fun a hF=>?_
 have:=hd_left hh (c:=c) (by omega)
 refine xQ 25 (v0:=pt bb1 0) (v:=pt bb1 0) hF rfl fun a hF=>xQ 26 (v0:=pt bb1 2) (v:=pt bb1 2) hF rfl fun a hF=>xK 27 3 2 (v:=iv per) hF fun a hF=>?_
 have hz1:0 ≤ rc h c 5 * per ∧ rc h c 5 * per ≤ 1542000:=mul_bd (0) (1542) (1) (1000) (by omega) (by omega) (by omega) (by omega) (by decide)
 refine xQ 28 (v0:=.int .i64 (IntKind.i64.wrap (rc h c 5 * per))) (v:=iv (rc h c 5 * per)) hF (wi (by omega)) fun a hF=>xR 29 (v:=.tuple #[.bool (decide (rc h c 5 * per ≤ opN ge cyc (c:Int) (t + sh))),iv 0]) hF (xC 113 #[.agg #[.slice A ge.length gc,iv cyc],iv (c:Int),iv (t + sh),iv (rc h c 5 * per)] hF (fun w hM=>gaFits_w A ge gc cyc (c:Int) (t + sh) (rc h c 5 * per) w (hM.ok 1 _ rfl) hga (by omega))) fun a hF=>xQ 9 (v0:=.tuple #[.bool (decide (rc h c 5 * per ≤ opN ge cyc (c:Int) (t + sh))),iv 0]) (v:=.tuple #[.bool (decide (rc h c 5 * per ≤ opN ge cyc (c:Int) (t + sh))),iv 0]) hF rfl fun a hF=>xQ 30 (v0:=.bool (decide (rc h c 5 * per ≤ opN ge cyc (c:Int) (t + sh)))) (v:=.bool (decide (rc h c 5 * per ≤ opN ge cyc (c:Int) (t + sh)))) hF rfl fun a hF=>xQ 31 (v0:=iv 0) (v:=iv 0) hF rfl fun a hF=>xQ 7 (v0:=.bool (decide (rc h c 5 * per ≤ opN ge cyc (c:Int) (t + sh)))) (v:=.bool (decide (rc h c 5 * per ≤ opN ge cyc (c:Int) (t + sh)))) hF rfl fun a hF=>xQ 8 (v0:=iv 0) (v:=iv 0) hF rfl fun a hF=>wpQuiet_nil ?_
 intro w hM
 refine hK2 _ _ (wp_seq_k fun K3 hK3=>wp_region_lit (xB 1 [(32,iv 0)] hF fun a hF=>wl (xP 33 (v0:=.bool (decide (0=0))) (v:=.bool true) hF (bT (by omega)) fun a hF=>xB 4 [(34,.bool true),(35,.bool (decide (rc h c 5 * per ≤ opN ge cyc (c:Int) (t + sh)))),(36,.bool (decide (rc h c 5 * per ≤ opN ge cyc (c:Int) (t + sh)))),(6,.bool (decide (rc h c 5 * per ≤ opN ge cyc (c:Int) (t + sh))))] hF fun a hF=>wpList_nil (hK3 _ _ (wp_ret (hR0 _ _ (ret_of hF hM (.tmp rfl (.nil)) (⟨rfl,hM.bel⟩))))))))
set_option maxHeartbeats 4000000 in
theorem may_w (A:Option Addr) (ge:List (Int × Int)) (gc:Nat) (cyc:Int) (per sh:Int) (Ah:Option Addr) (h:List (List Int)) (hc:Nat) (c:Nat) (t:Int) (w0:World) (hA:Ro w0 A (flat2 ge)) (hga:gaE ge cyc=0) (hln:lnP per sh) (hH:Ro w0 Ah (flatE pE h)) (hh:hdP h) (hc8:c < 8) (ht:0 ≤ t ∧ t ≤ 1099511600000) :
    Calls Tryz.prog 89 #[.agg #[.slice A ge.length gc,iv cyc,iv per,iv sh,.slice Ah 8 hc],iv (c:Int),iv t] w0 (Ret w0 (.bool (decide (mayP ge cyc per sh h c t)))):=by
 obtain ⟨hp1,hp2,hs1,hs2⟩:=hln
 have hgp:=(ga_p hga).2.2.1
 have hgs:=ga_pos hga
 have h8:=hh.1
 have hWh:=hh.2.1
 refine enterK 22 Tryz.func89 rfl rfl rfl ?_
 intro a hF Q0 hR0 hN0
 have hM:=Mem.start w0
 replace hM:=hM.addOld 1 hA (Nat.le_refl _)
 replace hM:=hM.addOld 2 hH (Nat.le_refl _)
 refine wp_seq_k fun K1 hK1=>wp_region_lit (wl (xN 3 3 (t:=166) (fun b=>.pointer (some ⟨b,0,none⟩)) #[.slice A ge.length gc,iv cyc,iv per,iv sh,.slice Ah 8 hc] hF hM fun bb1 a w hF hM=>wl (xN 4 4 (t:=3) (fun b=>.pointer (some ⟨b,0,none⟩)) #[iv (c:Int)] hF hM fun bb2 a w hF hM=>wl (xN 5 5 (t:=3) (fun b=>.pointer (some ⟨b,0,none⟩)) #[iv t] hF hM fun bb3 a w hF hM=>xB 1 [(6,.bool false)] hF fun a hF=>wpList_nil (hK1 _ _ (wp_seq_k fun K2 hK2=>wp_region_lit (xB 4 [(10,.func (.func 109) #[] #[pt bb1 0,pt bb2 0]),(11,.func (.func 110) #[] #[pt bb1 0,pt bb2 0]),(12,.func (.func 112) #[] #[pt bb1 0,pt bb2 0,pt bb3 0]),(13,.agg #[.func (.func 109) #[] #[pt bb1 0,pt bb2 0],.func (.func 110) #[] #[pt bb1 0,pt bb2 0],.func (.func 112) #[] #[pt bb1 0,pt bb2 0,pt bb3 0]])] hF fun a hF=>wl (xN 7 6 (t:=185) (fun b=>.pointer (some ⟨b,0,none⟩)) #[.nilFunc,.nilFunc,.nilFunc] hF hM fun bb4 a w hF hM=>?_))))))))
 refine wl (xS 6 0 #[.func (.func 109) #[] #[pt bb1 0,pt bb2 0],.func (.func 110) #[] #[pt bb1 0,pt bb2 0],.func (.func 112) #[] #[pt bb1 0,pt bb2 0,pt bb3 0]] hF hM fun w hM=>wpList_nil (hK2 _ _ (wp_seq_k fun K3 hK3=>wp_seq_k fun K4 hK4=>wp_region_lit (wl (xL 14 6 0 (v:=.agg #[.func (.func 109) #[] #[pt bb1 0,pt bb2 0],.func (.func 110) #[] #[pt bb1 0,pt bb2 0],.func (.func 112) #[] #[pt bb1 0,pt bb2 0,pt bb3 0]]) hF hM fun a w hF hM=>xB 1 [(15,iv 0)] hF fun a hF=>wpList_nil (hK4 _ _ (wp_block (wp_loop_rounds 4 ?_))))))))
 refine rounds_k fun K5 hK5=>wp_seq_k fun K6 hK6=>wp_region_lit (wl (xP 16 (v0:=.bool (decide (0 < 3))) (v:=.bool true) hF (bT (by omega)) fun a hF=>wpList_nil (hK6 _ _ (wp_seq_k fun K7 hK7=>xT hF (wp_skip (hK7 _ _ (wp_seq_k fun K8 hK8=>wp_block ?_)))))))
 refine wp_seq_k fun K9 hK9=>wp_region_lit (xB 2 [(17,.func (.func 109) #[] #[pt bb1 0,pt bb2 0]),(9,.func (.func 109) #[] #[pt bb1 0,pt bb2 0])] hF fun a hF=>wpList_nil (hK9 _ _ (wp_seq_k fun K10 hK10=>wp_region_lit (xB 1 [(18,.func (.func 109) #[] #[pt bb1 0,pt bb2 0])] hF fun a hF=>wl (sC (f:=109) (args:=#[pt bb1 0,pt bb2 0]) hF (by kernel_rfl) rfl (by decide) (by kernel_rfl) (fun _=>by kernel_rfl) (enterK 6 Tryz.func109 rfl rfl rfl ?_))))))
 intro a1 hF1 QR11 hR11 hNR11
 refine wp_seq_k fun K12 hK12=>wp_region_lit (xB 1 [(2,.bool false)] hF1 fun a1 hF1=>wpList_nil (hK12 _ _ (wp_seq_k fun K13 hK13=>wp_region_lit (wl (xL 3 3 0 (v:=.agg #[.slice A ge.length gc,iv cyc,iv per,iv sh,.slice Ah 8 hc]) hF1 hM fun a1 w hF1 hM=>wl (xL 4 4 0 (v:=iv (c:Int)) hF1 hM fun a1 w hF1 hM=>wl (xM 5 (v:=.bool (!decide (zH h c))) hF1 hM (xC 97 #[.agg #[.slice A ge.length gc,iv cyc,iv per,iv sh,.slice Ah 8 hc],iv (c:Int)] hF1 (fun w hM=>full_w A ge gc cyc per sh Ah h hc c w (hM.ok 1 _ rfl) hga ⟨hp1,hp2,hs1,hs2⟩ (hM.ok 2 _ rfl) hh (by omega))) fun a1 w hF1 hM=>xB 1 [(2,.bool (!decide (zH h c)))] hF1 fun a1 hF1=>wpList_nil ?_)))))))
 refine hK13 _ _ (wp_ret (hR11 _ _ (ret_of hF1 hM (.tmp rfl (.nil)) ⟨_,rfl,?_⟩)))
 intro a hF
 refine wl (xP 20 (v0:=.bool (!(!decide (zH h c)))) (v:=.bool (decide (zH h c))) hF (congrArg Value.bool (Bool.not_not _)) fun a hF=>wpList_nil (hK10 _ _ ?_))
 by_cases hz1:zH h c
 ·replace hF:=hF.c hF (i:=19) (v:=.bool false) rfl (nT hz1)
  replace hF:=hF.c hF (i:=20) (v:=.bool true) rfl (bT hz1)
  refine xT hF (wp_seq_k fun K14 hK14=>wp_region_lit (xB 1 [(6,.bool false)] hF fun a hF=>wpList_nil (hK14 _ _ (wp_ret (hR0 _ _ (ret_of hF hM (.tmp rfl (.nil)) (⟨ret_bool (decide_eq_false (fun z:mayP ge cyc per sh h c t=>by first | exact z.1 (by assumption) | exact absurd z.2.1 (by assumption) | exact absurd z.2.2 (by assumption))).symm,hM.bel⟩)))))))
 replace hF:=hF.c hF (i:=19) (v:=.bool true) rfl (nF hz1)
 replace hF:=hF.c hF (i:=20) (v:=.bool false) rfl (bF hz1)
 refine xF hF (wp_skip (hK8 _ _ (wp_region_lit (wl (xP 21 (v0:=.int .i64 (IntKind.i64.wrap (0 + 1))) (v:=iv 1) hF (vi (by decide)) fun a hF=>xB 1 [(15,iv 1)] hF fun a hF=>wpList_nil (hK5 _ _ (rounds_k fun K15 hK15=>wp_seq_k fun K16 hK16=>wp_region_lit (wl (xP 16 (v0:=.bool (decide (1 < 3))) (v:=.bool true) hF (bT (by omega)) fun a hF=>?_)))))))))
 refine wpList_nil (hK16 _ _ (wp_seq_k fun K17 hK17=>xT hF (wp_skip (hK17 _ _ (wp_seq_k fun K18 hK18=>wp_block (wp_seq_k fun K19 hK19=>wp_region_lit (xB 2 [(17,.func (.func 110) #[] #[pt bb1 0,pt bb2 0]),(9,.func (.func 110) #[] #[pt bb1 0,pt bb2 0])] hF fun a hF=>wpList_nil ?_)))))))
 refine hK19 _ _ (wp_seq_k fun K20 hK20=>wp_region_lit (xB 1 [(18,.func (.func 110) #[] #[pt bb1 0,pt bb2 0])] hF fun a hF=>wl (sC (f:=110) (args:=#[pt bb1 0,pt bb2 0]) hF (by kernel_rfl) rfl (by decide) (by kernel_rfl) (fun _=>by kernel_rfl) (enterK 6 Tryz.func110 rfl rfl rfl ?_))))
 intro a1 hF1 QR21 hR21 hNR21
 refine wp_seq_k fun K22 hK22=>wp_region_lit (xB 1 [(2,.bool false)] hF1 fun a1 hF1=>wpList_nil (hK22 _ _ (wp_seq_k fun K23 hK23=>wp_region_lit (wl (xL 3 3 0 (v:=.agg #[.slice A ge.length gc,iv cyc,iv per,iv sh,.slice Ah 8 hc]) hF1 hM fun a1 w hF1 hM=>wl (xL 4 4 0 (v:=iv (c:Int)) hF1 hM fun a1 w hF1 hM=>wl (xM 5 (v:=.bool (decide (freeP h c))) hF1 hM (xC 111 #[.agg #[.slice A ge.length gc,iv cyc,iv per,iv sh,.slice Ah 8 hc],iv (c:Int)] hF1 (fun w hM=>free_w A ge gc cyc per sh Ah h hc c w (hM.ok 1 _ rfl) hga ⟨hp1,hp2,hs1,hs2⟩ (hM.ok 2 _ rfl) hh (by omega))) fun a1 w hF1 hM=>xB 1 [(2,.bool (decide (freeP h c)))] hF1 fun a1 hF1=>wpList_nil ?_)))))))
 refine hK23 _ _ (wp_ret (hR21 _ _ (ret_of hF1 hM (.tmp rfl (.nil)) ⟨_,rfl,?_⟩)))
 intro a hF
 refine xB 1 [(20,.bool (!decide (freeP h c)))] hF fun a hF=>wpList_nil (hK20 _ _ ?_)
 by_cases hz2:freeP h c
 ·replace hF:=hF.c hF (i:=19) (v:=.bool true) rfl (bT hz2)
  replace hF:=hF.c hF (i:=20) (v:=.bool false) rfl (nT hz2)
  refine xF hF (wp_skip (hK18 _ _ (wp_region_lit (wl (xP 21 (v0:=.int .i64 (IntKind.i64.wrap (1 + 1))) (v:=iv 2) hF (vi (by decide)) fun a hF=>xB 1 [(15,iv 2)] hF fun a hF=>wpList_nil (hK15 _ _ (rounds_k fun K24 hK24=>wp_seq_k fun K25 hK25=>wp_region_lit (wl (xP 16 (v0:=.bool (decide (2 < 3))) (v:=.bool true) hF (bT (by omega)) fun a hF=>?_)))))))))
  refine wpList_nil (hK25 _ _ (wp_seq_k fun K26 hK26=>xT hF (wp_skip (hK26 _ _ (wp_seq_k fun K27 hK27=>wp_block (wp_seq_k fun K28 hK28=>wp_region_lit (xB 2 [(17,.func (.func 112) #[] #[pt bb1 0,pt bb2 0,pt bb3 0]),(9,.func (.func 112) #[] #[pt bb1 0,pt bb2 0,pt bb3 0])] hF fun a hF=>wpList_nil ?_)))))))
  refine hK28 _ _ (wp_seq_k fun K29 hK29=>wp_region_lit (xB 1 [(18,.func (.func 112) #[] #[pt bb1 0,pt bb2 0,pt bb3 0])] hF fun a hF=>wl (sC (f:=112) (args:=#[pt bb1 0,pt bb2 0,pt bb3 0]) hF (by kernel_rfl) rfl (by decide) (by kernel_rfl) (fun _=>by kernel_rfl) (enterK 8 Tryz.func112 rfl rfl rfl ?_))))
  intro a1 hF1 QR30 hR30 hNR30
  refine wp_seq_k fun K31 hK31=>wp_region_lit (xB 1 [(3,.bool false)] hF1 fun a1 hF1=>wpList_nil (hK31 _ _ (wp_seq_k fun K32 hK32=>wp_region_lit (wl (xL 4 3 0 (v:=.agg #[.slice A ge.length gc,iv cyc,iv per,iv sh,.slice Ah 8 hc]) hF1 hM fun a1 w hF1 hM=>wl (xL 5 4 0 (v:=iv (c:Int)) hF1 hM fun a1 w hF1 hM=>wl (xL 6 5 0 (v:=iv t) hF1 hM fun a1 w hF1 hM=>wl (xM 7 (v:=.bool (decide (fitP ge cyc per sh h c t))) hF1 hM (xC 98 #[.agg #[.slice A ge.length gc,iv cyc,iv per,iv sh,.slice Ah 8 hc],iv (c:Int),iv t] hF1 (fun w hM=>fits_w A ge gc cyc per sh Ah h hc c t w (hM.ok 1 _ rfl) hga ⟨hp1,hp2,hs1,hs2⟩ (hM.ok 2 _ rfl) hh (by omega) (by omega))) fun a1 w hF1 hM=>xB 1 [(3,.bool (decide (fitP ge cyc per sh h c t)))] hF1 fun a1 hF1=>?_))))))))
  refine wpList_nil (hK32 _ _ (wp_ret (hR30 _ _ (ret_of hF1 hM (.tmp rfl (.nil)) ⟨_,rfl,?_⟩))))
  intro a hF
  refine xB 1 [(20,.bool (!decide (fitP ge cyc per sh h c t)))] hF fun a hF=>wpList_nil (hK29 _ _ ?_)
  by_cases hz3:fitP ge cyc per sh h c t
  ·replace hF:=hF.c hF (i:=19) (v:=.bool true) rfl (bT hz3)
   replace hF:=hF.c hF (i:=20) (v:=.bool false) rfl (nT hz3)
   refine xF hF (wp_skip (hK27 _ _ (wp_region_lit (wl (xP 21 (v0:=.int .i64 (IntKind.i64.wrap (2 + 1))) (v:=iv 3) hF (vi (by decide)) fun a hF=>xB 1 [(15,iv 3)] hF fun a hF=>wpList_nil (hK24 _ _ (rounds_k fun K33 hK33=>wp_seq_k fun K34 hK34=>wp_region_lit (wl (xP 16 (v0:=.bool (decide (3 < 3))) (v:=.bool false) hF (bF (by omega)) fun a hF=>?_)))))))))
   refine wpList_nil (hK34 _ _ (wp_seq_k fun K35 hK35=>xF hF (wp_exit (hK3 _ _ (wp_seq_k fun K36 hK36=>wp_region_lit (xB 1 [(6,.bool true)] hF fun a hF=>wpList_nil (hK36 _ _ (wp_ret ?_))))))))
   refine hR0 _ _ (ret_of hF hM (.tmp rfl (.nil)) (⟨ret_bool (decide_eq_true (show mayP ge cyc per sh h c t from ⟨by assumption,by assumption,by assumption⟩)).symm,hM.bel⟩))
  replace hF:=hF.c hF (i:=19) (v:=.bool false) rfl (bF hz3)
  replace hF:=hF.c hF (i:=20) (v:=.bool true) rfl (nF hz3)
  refine xT hF (wp_seq_k fun K37 hK37=>wp_region_lit (xB 1 [(6,.bool false)] hF fun a hF=>wpList_nil (hK37 _ _ (wp_ret (hR0 _ _ (ret_of hF hM (.tmp rfl (.nil)) (⟨ret_bool (decide_eq_false (fun z:mayP ge cyc per sh h c t=>by first | exact z.1 (by assumption) | exact absurd z.2.1 (by assumption) | exact absurd z.2.2 (by assumption))).symm,hM.bel⟩)))))))
 replace hF:=hF.c hF (i:=19) (v:=.bool false) rfl (bF hz2)
 replace hF:=hF.c hF (i:=20) (v:=.bool true) rfl (nF hz2)
 refine xT hF (wp_seq_k fun K38 hK38=>wp_region_lit (xB 1 [(6,.bool false)] hF fun a hF=>wpList_nil (hK38 _ _ (wp_ret (hR0 _ _ (ret_of hF hM (.tmp rfl (.nil)) (⟨ret_bool (decide_eq_false (fun z:mayP ge cyc per sh h c t=>by first | exact z.1 (by assumption) | exact absurd z.2.1 (by assumption) | exact absurd z.2.2 (by assumption))).symm,hM.bel⟩)))))))
theorem fit_bd {ge:List (Int × Int)} {cyc c t lo:Int} (h:gaE ge cyc=0) (ht:-1099511627776 ≤ t ∧ t ≤ 1099511627776:=by omega):-1099511627776 ≤ fitT ge cyc c t lo ∧ fitT ge cyc c t lo ≤ 2199023255552:=by
  have hp:=ga_pos h
  unfold fitT fitE
  cases hf:(List.range (2 * cyc).toNat).find? (fun k:Nat=>decide (lo ≤ opN ge cyc c (t + (k:Int)))) with
  | none => simp
  | some k =>
    have:=List.mem_range.1 (List.mem_of_find?_eq_some hf)
    simp
    omega
theorem whn_some {ge:List (Int × Int)} {cyc per sh:Int} {h:List (List Int)} {t:Int} {c:Nat} (hz:¬ zH h c) (hf:freeP h c) (hr:fitR ge cyc c (t + sh) (rc h c 5 * per)=0):whnO ge cyc per sh h t c=some (fitT ge cyc c (t + sh) (rc h c 5 * per) - sh):=by
  unfold whnO
  rw [if_pos ⟨hz,hf⟩]
  unfold fitR at hr
  unfold fitT
  cases hx:fitE ge cyc c (t + sh) (rc h c 5 * per) with
  | none => rw [hx] at hr; simp at hr
  | some x => rfl
theorem whn_none {ge:List (Int × Int)} {cyc per sh:Int} {h:List (List Int)} {t:Int} {c:Nat} (hr:fitR ge cyc c (t + sh) (rc h c 5 * per) ≠ 0):whnO ge cyc per sh h t c=none:=by
  unfold whnO
  unfold fitR at hr
  cases hx:fitE ge cyc c (t + sh) (rc h c 5 * per) with
  | none => simp
  | some x => rw [hx] at hr; simp at hr
theorem whn_no {ge:List (Int × Int)} {cyc per sh:Int} {h:List (List Int)} {t:Int} {c:Nat} (hn:¬ (¬ zH h c ∧ freeP h c)):whnO ge cyc per sh h t c=none:=by unfold whnO; rw [if_neg hn]
def eO (o:Option Int):Int:=if o.isSome then 0 else 4
set_option maxHeartbeats 4000000 in
theorem when_w (A:Option Addr) (ge:List (Int × Int)) (gc:Nat) (cyc:Int) (per sh:Int) (Ah:Option Addr) (h:List (List Int)) (hc:Nat) (c:Nat) (t:Int) (w0:World) (hA:Ro w0 A (flat2 ge)) (hga:gaE ge cyc=0) (hln:lnP per sh) (hH:Ro w0 Ah (flatE pE h)) (hh:hdP h) (hc8:c < 8) (ht:0 ≤ t ∧ t ≤ 1099511600000) :
    Calls Tryz.prog 99 #[.agg #[.slice A ge.length gc,iv cyc,iv per,iv sh,.slice Ah 8 hc],iv (c:Int),iv t] w0 (Ret w0 (.tuple #[.int .i64 ((whnO ge cyc per sh h t c).getD 0),.int .i64 (eO (whnO ge cyc per sh h t c))])):=by
 obtain ⟨hp1,hp2,hs1,hs2⟩:=hln
 have hgp:=(ga_p hga).2.2.1
 have hgs:=ga_pos hga
 have h8:=hh.1
 have hWh:=hh.2.1
 refine enterK 50 Tryz.func99 rfl rfl rfl ?_
 intro a hF Q0 hR0 hN0
 have hM:=Mem.start w0
 replace hM:=hM.addOld 1 hA (Nat.le_refl _)
 replace hM:=hM.addOld 2 hH (Nat.le_refl _)
 refine wp_seq_k fun K1 hK1=>wp_region_lit (wl (xN 3 3 (t:=166) (fun b=>.pointer (some ⟨b,0,none⟩)) #[.slice A ge.length gc,iv cyc,iv per,iv sh,.slice Ah 8 hc] hF hM fun bb1 a w hF hM=>xB 2 [(6,iv 0),(7,iv 0)] hF fun a hF=>wpList_nil (hK1 _ _ (wp_seq_k fun K2 hK2=>wp_seq_k fun K3 hK3=>?_))))
 by_cases hz1:zH h c
 ·refine wp_region_lit (wl (xL 10 3 0 (v:=.agg #[.slice A ge.length gc,iv cyc,iv per,iv sh,.slice Ah 8 hc]) hF hM fun a w hF hM=>xB 1 [(11,iv (c:Int))] hF fun a hF=>wl (xM 12 (v:=.bool false) hF hM (Yld.to (xC 97 #[.agg #[.slice A ge.length gc,iv cyc,iv per,iv sh,.slice Ah 8 hc],iv (c:Int)] hF (fun w hM=>full_w A ge gc cyc per sh Ah h hc c w (hM.ok 1 _ rfl) hga ⟨hp1,hp2,hs1,hs2⟩ (hM.ok 2 _ rfl) hh (by omega))) (nT hz1)) fun a w hF hM=>xB 7 [(13,.bool true),(14,.bool true),(15,undef),(16,undef),(17,undef),(18,undef),(19,.bool true)] hF fun a hF=>wpList_nil (hK3 _ _ (xT hF (wp_seq_k fun K4 hK4=>wp_region_lit (xB 2 [(6,iv 0),(7,iv 4)] hF fun a hF=>wpList_nil ?_)))))))
  refine hK4 _ _ (wp_ret (hR0 _ _ (ret_of hF hM (.tmp rfl (.tmp rfl (.nil))) ?_)))
  have hw:=whn_no (ge:=ge) (cyc:=cyc) (per:=per) (sh:=sh) (h:=h) (t:=t) (c:=c) (fun z=>by first | exact z.1 (by assumption) | exact absurd z.2 (by assumption))
  exact ⟨ret_eq (by rw [hw]; rfl),hM.bel⟩
 refine wp_region_lit (wl (xL 10 3 0 (v:=.agg #[.slice A ge.length gc,iv cyc,iv per,iv sh,.slice Ah 8 hc]) hF hM fun a w hF hM=>xB 1 [(11,iv (c:Int))] hF fun a hF=>wl (xM 12 (v:=.bool true) hF hM (Yld.to (xC 97 #[.agg #[.slice A ge.length gc,iv cyc,iv per,iv sh,.slice Ah 8 hc],iv (c:Int)] hF (fun w hM=>full_w A ge gc cyc per sh Ah h hc c w (hM.ok 1 _ rfl) hga ⟨hp1,hp2,hs1,hs2⟩ (hM.ok 2 _ rfl) hh (by omega))) (nF hz1)) fun a w hF hM=>xB 2 [(13,.bool false),(14,.bool false)] hF fun a hF=>wl (xL 15 3 0 (v:=.agg #[.slice A ge.length gc,iv cyc,iv per,iv sh,.slice Ah 8 hc]) hF hM fun a w hF hM=>xB 1 [(16,iv (c:Int))] hF fun a hF=>wl (xM 17 (v:=.bool (decide (freeP h c))) hF hM (xC 111 #[.agg #[.slice A ge.length gc,iv cyc,iv per,iv sh,.slice Ah 8 hc],iv (c:Int)] hF (fun w hM=>free_w A ge gc cyc per sh Ah h hc c w (hM.ok 1 _ rfl) hga ⟨hp1,hp2,hs1,hs2⟩ (hM.ok 2 _ rfl) hh (by omega))) fun a w hF hM=>xB 2 [(18,.bool (!decide (freeP h c))),(19,.bool (!decide (freeP h c)))] hF fun a hF=>wpList_nil (hK3 _ _ ?_))))))
 by_cases hz2:freeP h c
 ·replace hF:=hF.c hF (i:=17) (v:=.bool true) rfl (bT hz2)
  replace hF:=hF.c hF (i:=18) (v:=.bool false) rfl (nT hz2)
  replace hF:=hF.c hF (i:=19) (v:=.bool false) rfl (nT hz2)
  refine xF hF (wp_skip (hK2 _ _ (wp_seq_k fun K5 hK5=>?_)))
  have hlb:=hd_left1 hh (c:=c) (by omega) (by assumption)
  have hlq:84 ≤ rc h c 5 * per:=Int.le_trans hlb.1 (by have:=Int.mul_le_mul_of_nonneg_left hp1 (show 0 ≤ rc h c 5 by omega); omega)
  refine rQ hM (by kernel_rfl) (by kernel_rfl) (xQ 21 (v0:=pt bb1 0) (v:=pt bb1 0) hF rfl fun a hF=>xQ 22 (v0:=pt bb1 0) (v:=pt bb1 0) hF rfl fun a hF=>xK 23 3 0 (v:=.agg #[.slice A ge.length gc,iv cyc]) hF fun a hF=>xQ 24 (v0:=iv (c:Int)) (v:=iv (c:Int)) hF rfl fun a hF=>xQ 25 (v0:=iv t) (v:=iv t) hF rfl fun a hF=>xQ 26 (v0:=pt bb1 0) (v:=pt bb1 0) hF rfl fun a hF=>xQ 27 (v0:=pt bb1 3) (v:=pt bb1 3) hF rfl fun a hF=>xK 28 3 3 (v:=iv sh) hF fun a hF=>xQ 29 (v0:=.int .i64 (IntKind.i64.wrap (t + sh))) (v:=iv (t + sh)) hF (wi (by omega)) fun a hF=>xQ 30 (v0:=pt bb1 4) (v:=pt bb1 4) hF rfl fun a hF=>xK 31 3 4 (v:=.slice Ah 8 hc) hF fun a hF=>?_)
  refine xQ 32 (v0:=iv (c:Int)) (v:=iv (c:Int)) hF rfl fun a hF=>xR 33 (v:=.pointer (some (ea Ah (c * 7)))) hF (yld_ix (kd:=.i64) (e:=50) (len:=8) (cap:=hc) (i:=(c:Int)) (size:=7) (A:=Ah) hF rfl (by kernel_rfl) (by kernel_rfl) (by kernel_rfl) (by kernel_rfl) (by kernel_rfl) (roK 2 rfl) (by omega) (by omega) (by rw [flatE_length (es:=pE) hWh,show pE.length=7 from rfl,h8]; (try simp only [List.length_map,List.length_append,List.length_replicate,List.length_set,List.length_cons,List.length_nil,flat2_length,List.length_take]); omega)) fun a hF=>xQ 34 (v0:=.pointer (some (ea Ah (c * 7 + 5)))) (v:=.pointer (some (ea Ah (c * 7 + 5)))) hF rfl fun a hF=>xR 35 (v:=iv (rc h c 5)) hF (yld_ro1 (A:=Ah) (j:=c * 7 + 5) hF rfl (by kernel_rfl) (by kernel_rfl) (roK 2 rfl) (by kernel_rfl) (rcE_at (es:=pE) (k:=c) (i:=5) hWh (by omega) rfl)) fun a hF=>?_
  have:=hd_left hh (c:=c) (by omega)
  refine xQ 36 (v0:=pt bb1 0) (v:=pt bb1 0) hF rfl fun a hF=>xQ 37 (v0:=pt bb1 2) (v:=pt bb1 2) hF rfl fun a hF=>xK 38 3 2 (v:=iv per) hF fun a hF=>?_
  have hz3:84 ≤ rc h c 5 * per ∧ rc h c 5 * per ≤ 1542000:=mul_bd (84) (1542) (1) (1000) (by omega) (by omega) (by omega) (by omega) (by decide)
  refine xQ 39 (v0:=.int .i64 (IntKind.i64.wrap (rc h c 5 * per))) (v:=iv (rc h c 5 * per)) hF (wi (by omega)) fun a hF=>?_
  have hfb:=fit_bd (c:=(c:Int)) (t:=(t + sh)) (lo:=(rc h c 5 * per)) hga
  refine xR 40 (v:=.tuple #[iv (fitT ge cyc (c:Int) (t + sh) (rc h c 5 * per)),iv (fitR ge cyc (c:Int) (t + sh) (rc h c 5 * per))]) hF (xC 114 #[.agg #[.slice A ge.length gc,iv cyc],iv (c:Int),iv (t + sh),iv (rc h c 5 * per)] hF (fun w hM=>gaFit_w A ge gc cyc (c:Int) (t + sh) (rc h c 5 * per) w (hM.ok 1 _ rfl) hga (by omega) (by omega))) fun a hF=>xQ 20 (v0:=.tuple #[iv (fitT ge cyc (c:Int) (t + sh) (rc h c 5 * per)),iv (fitR ge cyc (c:Int) (t + sh) (rc h c 5 * per))]) (v:=.tuple #[iv (fitT ge cyc (c:Int) (t + sh) (rc h c 5 * per)),iv (fitR ge cyc (c:Int) (t + sh) (rc h c 5 * per))]) hF rfl fun a hF=>xQ 41 (v0:=iv (fitT ge cyc (c:Int) (t + sh) (rc h c 5 * per))) (v:=iv (fitT ge cyc (c:Int) (t + sh) (rc h c 5 * per))) hF rfl fun a hF=>xQ 42 (v0:=iv (fitR ge cyc (c:Int) (t + sh) (rc h c 5 * per))) (v:=iv (fitR ge cyc (c:Int) (t + sh) (rc h c 5 * per))) hF rfl fun a hF=>xQ 8 (v0:=iv (fitT ge cyc (c:Int) (t + sh) (rc h c 5 * per))) (v:=iv (fitT ge cyc (c:Int) (t + sh) (rc h c 5 * per))) hF rfl fun a hF=>xQ 9 (v0:=iv (fitR ge cyc (c:Int) (t + sh) (rc h c 5 * per))) (v:=iv (fitR ge cyc (c:Int) (t + sh) (rc h c 5 * per))) hF rfl fun a hF=>wpQuiet_nil ?_
  intro w hM
  refine hK5 _ _ (wp_seq_k fun K6 hK6=>wp_seq_k fun K7 hK7=>wp_region_lit (xB 2 [(43,iv (fitR ge cyc (c:Int) (t + sh) (rc h c 5 * per))),(44,.bool (!decide (fitR ge cyc (c:Int) (t + sh) (rc h c 5 * per)=0)))] hF fun a hF=>wpList_nil (hK7 _ _ ?_)))
  by_cases hz4:fitR ge cyc (c:Int) (t + sh) (rc h c 5 * per)=0
  ·replace hF:=hF.c hF (i:=44) (v:=.bool false) rfl (nT hz4)
   refine xF hF (wp_skip (hK6 _ _ (wp_seq_k fun K8 hK8=>wp_region_lit (xB 3 [(45,iv (fitT ge cyc (c:Int) (t + sh) (rc h c 5 * per))),(46,pt bb1 0),(47,pt bb1 3)] hF fun a hF=>wl (xL 48 3 3 (v:=iv sh) hF hM fun a w hF hM=>wl (xP 49 (v0:=.int .i64 (IntKind.i64.wrap (fitT ge cyc (c:Int) (t + sh) (rc h c 5 * per) - sh))) (v:=iv (fitT ge cyc (c:Int) (t + sh) (rc h c 5 * per) - sh)) hF (wi (by omega)) fun a hF=>xB 2 [(6,iv (fitT ge cyc (c:Int) (t + sh) (rc h c 5 * per) - sh)),(7,iv 0)] hF fun a hF=>wpList_nil (hK8 _ _ (wp_ret ?_))))))))
   refine hR0 _ _ (ret_of hF hM (.tmp rfl (.tmp rfl (.nil))) ?_)
   have hw:=whn_some (sh:=sh) (t:=t) (by assumption) (by assumption) (by assumption)
   exact ⟨ret_eq (by rw [hw]; rfl),hM.bel⟩
  replace hF:=hF.c hF (i:=44) (v:=.bool true) rfl (nF hz4)
  refine xT hF (wp_seq_k fun K9 hK9=>wp_region_lit (xB 2 [(6,iv 0),(7,iv 4)] hF fun a hF=>wpList_nil (hK9 _ _ (wp_ret (hR0 _ _ (ret_of hF hM (.tmp rfl (.tmp rfl (.nil))) ?_))))))
  have hw:=whn_none (sh:=sh) (t:=t) (by assumption)
  exact ⟨ret_eq (by rw [hw]; rfl),hM.bel⟩
 replace hF:=hF.c hF (i:=17) (v:=.bool false) rfl (bF hz2)
 replace hF:=hF.c hF (i:=18) (v:=.bool true) rfl (nF hz2)
 replace hF:=hF.c hF (i:=19) (v:=.bool true) rfl (nF hz2)
 refine xT hF (wp_seq_k fun K10 hK10=>wp_region_lit (xB 2 [(6,iv 0),(7,iv 4)] hF fun a hF=>wpList_nil (hK10 _ _ (wp_ret (hR0 _ _ (ret_of hF hM (.tmp rfl (.tmp rfl (.nil))) ?_))))))
 have hw:=whn_no (ge:=ge) (cyc:=cyc) (per:=per) (sh:=sh) (h:=h) (t:=t) (c:=c) (fun z=>by first | exact z.1 (by assumption) | exact absurd z.2 (by assumption))
 exact ⟨ret_eq (by rw [hw]; rfl),hM.bel⟩
end Go.Proofs.YtlngflbamkgjlaaGreat
namespace Go.Proofs.YtlngflbamkgjlaaGreat
open Go.RowKit
set_option linter.unusedVariables false
set_option linter.unusedSimpArgs false
set_option maxRecDepth 100000
def stF (p:Nat → Prop) [DecidablePred p]:Nat → Option Nat
  | 0 => none
  | k + 1 => if p k then some k else stF p k
def eK (o:Option Nat):Int:=if o.isSome then 0 else 4
theorem st_yes {p:Nat → Prop} [DecidablePred p] {j:Nat} (hj:j < 8) (h:stF p 8=stF p (8 - j)) (hp:p (7 - j)):stF p 8=some (7 - j):=by
  rw [h,show 8 - j=(7 - j) + 1 by omega,stF,if_pos hp]
theorem st_nx {p:Nat → Prop} [DecidablePred p] {j:Nat} (hj:j < 8) (h:stF p 8=stF p (8 - j)) (hp:¬ p (7 - j)):stF p 8=stF p (8 - (j + 1)):=by
  rw [h,show 8 - j=(7 - j) + 1 by omega,stF,if_neg hp,show 7 - j=8 - (j + 1) by omega]
theorem st_end {p:Nat → Prop} [DecidablePred p] {j:Nat} (hj:8 ≤ j) (h:stF p 8=stF p (8 - j)):stF p 8=none:=by
  rw [h,show 8 - j=0 by omega,stF]
def whG (p:Nat → Option Int):Nat → Option Int
  | 0 => none
  | j + 1 => match whG p j, p (7 - j) with
    | o, none => o
    | none, some x => some x
    | some y, some x => if x < y then some x else some y
theorem eO_0 {o:Option Int} (h:eO o=0):∃ x,o=some x:=by
  cases o with
  | none => simp [eO] at h
  | some x => exact ⟨x, rfl⟩
theorem wh_take {p:Nat → Option Int} {j:Nat} {m f x e:Int} (hm:(whG p j).getD 0=m) (hf:eO (whG p j)=f) (hx:(p (7 - j)).getD 0=x) (he:eO (p (7 - j))=e) (h0:e=0) (hc:f ≠ 0 ∨ x < m):eO (whG p (j + 1))=0 ∧ (whG p (j + 1)).getD 0=x:=by
  subst h0
  obtain ⟨z,hz⟩:=eO_0 he
  rw [hz] at hx
  simp only [Option.getD_some] at hx
  subst hx
  rw [whG,hz]
  cases hw:whG p j with
  | none => exact ⟨rfl, rfl⟩
  | some y =>
    rw [hw] at hm hf
    simp [eO] at hm hf
    have:z < y:=by rcases hc with q | q <;> omega
    simp only [if_pos this]
    exact ⟨rfl,rfl⟩
theorem wh_keep {p:Nat → Option Int} {j:Nat} {m f x e:Int} (hm:(whG p j).getD 0=m) (hf:eO (whG p j)=f) (hx:(p (7 - j)).getD 0=x) (he:eO (p (7 - j))=e) (hc:e ≠ 0 ∨ (f=0 ∧ ¬ x < m)):eO (whG p (j + 1))=f ∧ (whG p (j + 1)).getD 0=m:=by
  rw [whG]
  cases hz:p (7 - j) with
  | none => cases hw : whG p j <;> (rw [hw] at hm hf; exact ⟨hf, hm⟩)
  | some z =>
    rw [hz] at hx he
    simp [eO] at hx he
    rcases hc with q | ⟨q1,q2⟩
    · omega
    · subst q1
      obtain ⟨y,hy⟩:=eO_0 hf
      rw [hy] at hm hf ⊢
      simp at hm
      simp only [if_neg (show ¬ z < y by omega)]
      exact ⟨hf,by simpa using hm⟩
def prK (per bg t:Int):Int:=max 64 ((t - bg + per - 1) / per)
def prE (per bg t:Int):Int:=bg + (prK per bg t + 24) * per
def prP (ge:List (Int × Int)) (cyc per sh:Int) (h:List (List Int)) (oc bg t:Int):Prop:=64 ≤ oc - prK per bg t ∧ ((¬ zH h 7 ∧ fitP ge cyc per sh h 7 (prE per bg t)) ∨ (¬ zH h 6 ∧ fitP ge cyc per sh h 6 (prE per bg t)))
instance (ge:List (Int × Int)) (cyc per sh:Int) (h:List (List Int)) (oc bg t:Int):Decidable (prP ge cyc per sh h oc bg t):=by unfold prP; infer_instance
set_option maxHeartbeats 4000000 in
theorem start_w (A:Option Addr) (ge:List (Int × Int)) (gc:Nat) (cyc:Int) (per sh:Int) (Ah:Option Addr) (h:List (List Int)) (hc:Nat) (t:Int) (w0:World) (hA:Ro w0 A (flat2 ge)) (hga:gaE ge cyc=0) (hln:lnP per sh) (hH:Ro w0 Ah (flatE pE h)) (hh:hdP h) (ht:0 ≤ t ∧ t ≤ 549755813888) :
    Calls Tryz.prog 75 #[.agg #[.slice A ge.length gc,iv cyc,iv per,iv sh],.slice Ah 8 hc,iv t] w0 (Ret w0 (.tuple #[.int .i64 (((stF (fun c=>mayP ge cyc per sh h c t) 8).getD 0:Nat):Int),.int .i64 (eK (stF (fun c=>mayP ge cyc per sh h c t) 8))])):=by
 obtain ⟨hp1,hp2,hs1,hs2⟩:=hln
 have hgp:=(ga_p hga).2.2.1
 have hgs:=ga_pos hga
 have h8:=hh.1
 have hWh:=hh.2.1
 refine enterK 25 Tryz.func75 rfl rfl rfl ?_
 intro a hF Q0 hR0 hN0
 have hM:=Mem.start w0
 replace hM:=hM.addOld 1 hA (Nat.le_refl _)
 replace hM:=hM.addOld 2 hH (Nat.le_refl _)
 refine wp_seq_k fun K1 hK1=>wp_region_lit (wl (xN 3 3 (t:=45) (fun b=>.pointer (some ⟨b,0,none⟩)) #[.slice A ge.length gc,iv cyc,iv per,iv sh] hF hM fun bb1 a w hF hM=>wl (xN 5 4 (t:=3) (fun b=>.pointer (some ⟨b,0,none⟩)) #[iv t] hF hM fun bb2 a w hF hM=>xB 2 [(6,iv 0),(7,iv 0)] hF fun a hF=>wpList_nil (hK1 _ _ (wp_seq_k fun K2 hK2=>wp_seq_k fun K3 hK3=>wp_region_lit (wl (xL 10 3 0 (v:=.agg #[.slice A ge.length gc,iv cyc,iv per,iv sh]) hF hM fun a w hF hM=>xB 1 [(11,.slice Ah 8 hc)] hF fun a hF=>?_)))))))
 refine wl (xL 12 4 0 (v:=iv t) hF hM fun a w hF hM=>wl (xM 13 (v:=iv 0) hF hM (xC 88 #[.agg #[.slice A ge.length gc,iv cyc,iv per,iv sh],.slice Ah 8 hc,iv t] hF (fun w hM=>chChk_w A ge gc cyc per sh Ah h hc t w (hM.ok 1 _ rfl) hga ⟨hp1,hp2,hs1,hs2⟩ (hM.ok 2 _ rfl) hh (by omega))) fun a w hF hM=>xB 1 [(8,iv 0)] hF fun a hF=>wpList_nil (hK3 _ _ (wp_seq_k fun K4 hK4=>wp_region_lit (xB 1 [(14,iv 0)] hF fun a hF=>wl (xP 15 (v0:=.bool (!decide (0=0))) (v:=.bool false) hF (nT (by omega)) fun a hF=>wpList_nil (hK4 _ _ (xF hF ?_))))))))
 refine wp_skip (hK2 _ _ (wp_seq_k fun K5 hK5=>wp_region_lit (wl (xL 17 3 0 (v:=.agg #[.slice A ge.length gc,iv cyc,iv per,iv sh]) hF hM fun a w hF hM=>xB 3 [(18,.slice Ah 8 hc),(19,.agg #[.slice A ge.length gc,iv cyc,iv per,iv sh,.slice Ah 8 hc]),(20,.func (.func 89) #[.agg #[.slice A ge.length gc,iv cyc,iv per,iv sh,.slice Ah 8 hc]] #[])] hF fun a hF=>wl (xN 9 5 (t:=157) (fun b=>.pointer (some ⟨b,0,none⟩)) #[.nilFunc] hF hM fun bb3 a w hF hM=>?_)))))
 refine wl (xS 5 0 #[.func (.func 89) #[.agg #[.slice A ge.length gc,iv cyc,iv per,iv sh,.slice Ah 8 hc]] #[]] hF hM fun w hM=>wpList_nil (hK5 _ _ (wp_seq_k fun K6 hK6=>wp_region_lit (xB 1 [(21,.func (.func 91) #[] #[pt bb3 0,pt bb2 0])] hF fun a hF=>wl (sC (f:=90) (args:=#[iv 0,.func (.func 91) #[] #[pt bb3 0,pt bb2 0]]) hF (by kernel_rfl) rfl (by decide) (by kernel_rfl) (fun _=>by kernel_rfl) (enterKM 25 Tryz.func90 rfl rfl rfl ?_))))))
 intro a1 hF1 QR7 hR7 hNR7
 refine wp_seq_k fun K8 hK8=>wp_region_lit (wl (xN 3 6 (t:=168) (fun b=>.pointer (some ⟨b,0,none⟩)) #[.func (.func 91) #[] #[pt bb3 0,pt bb2 0]] hF1 hM fun bb4 a1 w hF1 hM=>xB 2 [(4,iv 0),(5,iv 0)] hF1 fun a1 hF1=>wpList_nil (hK8 _ _ (wp_scope_straight (wp_seq_k fun K9 hK9=>wp_region_lit (wl (xN 6 7 (t:=3) (fun b=>.pointer (some ⟨b,0,none⟩)) #[iv 0] hF1 hM fun bb5 a1 w hF1 hM=>wpList_nil (hK9 _ _ ?_))))))))
 refine wp_seq_k fun K10 hK10=>wp_region_lit (wl (xN 7 8 (t:=36) (fun b=>.pointer (some ⟨b,0,none⟩)) #[iv 0] hF1 hM fun bb6 a1 w hF1 hM=>?_))
 refine wl (xS 8 0 #[iv 4] hF1 hM fun w hM=>wpList_nil (hK10 _ _ (wp_seq_k fun K11 hK11=>wp_label (hK11 _ _ (wp_seq_k fun K12 hK12=>wp_seq_k fun K13 hK13=>wp_region_lit (xB 1 [(11,iv 0)] hF1 fun a1 hF1=>wl (sC (f:=100) (args:=#[iv 0]) hF1 (by kernel_rfl) rfl (by decide) (by kernel_rfl) (fun _=>by kernel_rfl) (enterK 4 Tryz.func100 rfl rfl rfl ?_))))))))
 intro a2 hF2 QR14 hR14 hNR14
 refine wp_seq_k fun K15 hK15=>wp_region_lit (wl (xN 1 9 (t:=3) (fun b=>.pointer (some ⟨b,0,none⟩)) #[iv 0] hF2 hM fun bb7 a2 w hF2 hM=>xB 1 [(2,.nilFunc)] hF2 fun a2 hF2=>wpList_nil (hK15 _ _ (wp_seq_k fun K16 hK16=>wp_region_lit (xB 2 [(3,.func (.func 115) #[] #[pt bb7 0]),(2,.func (.func 115) #[] #[pt bb7 0])] hF2 fun a2 hF2=>wpList_nil (hK16 _ _ (wp_ret ?_)))))))
 refine hR14 _ _ (ret_of hF2 hM (.tmp rfl (.nil)) ⟨_,rfl,?_⟩)
 intro a1 hF1
 refine wpList_nil (hK13 _ _ (wp_block (rangeK (gf:=115) (lb:=#[pt bb7 0]) 9 10 11 hF1 hM (by kernel_rfl) (by kernel_rfl) (enters_of Tryz.func115 (by kernel_rfl) rfl) fun fn8 DD8 ll8 OO8 hO8 w hM=>enterKQ 13 Tryz.func115 rfl rfl rfl ?_)))
 intro a2 hF2 QR17 hR17 hNR17 hqR17
 refine wp_seq_k fun K18 hK18=>wp_region_lit (xB 1 [(3,iv 7)] hF2 fun a2 hF2=>wpList_nil (hK18 _ _ (wp_block (wp_loop_k (G:=Nat) (fun gg a w=>Fr 13 [(3,some (iv (7 - (gg:Int)))),(0,some (.func (.yield ll8) #[] #[])),(1,some (pt bb7 0))] a ∧ Mem w0.heap.size w0 [(1,some (.ro A (flat2 ge))),(2,some (.ro Ah (flatE pE h))),(3,some (.row bb1 45 #[.slice A ge.length gc,iv cyc,iv per,iv sh])),(4,some (.row bb2 3 #[iv t])),(5,some (.row bb3 157 #[.func (.func 89) #[.agg #[.slice A ge.length gc,iv cyc,iv per,iv sh,.slice Ah 8 hc]] #[]])),(6,some (.row bb4 168 #[.func (.func 91) #[] #[pt bb3 0,pt bb2 0]])),(7,some (.row bb5 3 #[iv 0])),(8,some (.row bb6 36 #[iv 4])),(9,some (.row bb7 3 #[iv 0])),(10,some (.obj DD8 (.deferred (some [])))),(11,some (.obj ll8 (OO8 .ready none)))] w ∧ ((gg:Int) ≤ 8) ∧ (stF (fun c=>mayP ge cyc per sh h c t) 8=stF (fun c=>mayP ge cyc per sh h c t) (8 - gg))) (fun gg=>8 - gg) (0) ?_ ?_))))
 ·refine ⟨((((Fr.nil hF2).c hF2 (i:=1) rfl rfl).c hF2 (i:=0) rfl rfl).c hF2 (i:=3) rfl (vi (show (7:Int)=7 - (0:Int) from by omega))),(hM.sub (((((((((((Sub.nil.c (k:=11) rfl rfl).c (k:=10) rfl rfl).c (k:=9) rfl rfl).c (k:=8) rfl rfl).c (k:=7) rfl rfl).c (k:=6) rfl rfl).c (k:=5) rfl rfl).c (k:=4) rfl rfl).c (k:=3) rfl rfl).c (k:=2) rfl rfl).c (k:=1) rfl rfl)),(show (0:Int) ≤ 8 from by omega),(show stF (fun c=>mayP ge cyc per sh h c t) 8=stF (fun c=>mayP ge cyc per sh h c t) (8 - 0) from by rfl)⟩
 intro gg a2 w hI
 intro K19 hK19
 obtain ⟨j,rfl⟩:∃ x,x=gg:=⟨_,rfl⟩
 try dsimp only at hI hK19
 obtain ⟨hF2,hM,hz1,hz2⟩:=hI
 refine wp_seq_k fun K20 hK20=>wp_seq_k fun K21 hK21=>wp_region_lit (xB 1 [(4,iv (7 - (j:Int)))] hF2 fun a2 hF2=>wl (xL 5 9 0 (v:=iv 0) hF2 hM fun a2 w hF2 hM=>xB 1 [(6,.bool (decide (0 ≤ 7 - (j:Int))))] hF2 fun a2 hF2=>wpList_nil (hK21 _ _ ?_)))
 by_cases hz3:0 ≤ 7 - (j:Int)
 ·replace hF2:=hF2.c hF2 (i:=6) (v:=.bool true) rfl (bT hz3)
  refine xT hF2 (wp_skip (hK20 _ _ (wp_seq_k fun K22 hK22=>wp_block (wp_seq_k fun K23 hK23=>(wpIn_wide (n:=9)).1 (wpR_region (wr (xP 9 (v0:=.func (.yield ll8) #[] #[]) (v:=.func (.yield ll8) #[] #[]) hF2 rfl fun a2 hF2=>wr (xP 10 (v0:=iv (7 - (j:Int))) (v:=iv (7 - (j:Int))) hF2 rfl fun a2 hF2=>sYield (n:=13) (d:=11) (args:=#[iv (7 - (j:Int))]) 11 hF2 OO8 hO8 hM (by kernel_rfl) rfl (by decide) (by kernel_rfl) rfl (fun _=>by kernel_rfl) rfl rfl fun KB24 QB24 hB24 hBn24 hBe24 hBr24 hqB24=>?_) hqR17 rfl) hqR17 rfl))))))
  have hF3:=hF1.round1 (p:=13) (by decide) (iv (7 - (j:Int)))
  refine wpR_region (wr (xP 8 (v0:=iv (7 - (j:Int))) (v:=iv (7 - (j:Int))) hF3 rfl fun a3 hF3=>wpLi_nil (hB24 _ _ _ hM rfl fun w hM=>wpIn_block (wpIn_seq_k fun K25 hK25=>wpR_region (wr (xL 15 6 0 (v:=.func (.func 91) #[] #[pt bb3 0,pt bb2 0]) hF3 hM fun a3 w hF3 hM=>wr (xP 16 (v0:=iv (7 - (j:Int))) (v:=iv (7 - (j:Int))) hF3 rfl fun a3 hF3=>wr (sC (f:=91) (args:=#[iv (7 - (j:Int)),pt bb3 0,pt bb2 0]) hF3 (by kernel_rfl) rfl (by decide) (by kernel_rfl) (fun _=>by kernel_rfl) (enterK 12 Tryz.func91 rfl rfl rfl ?_)) hqB24 rfl) hqB24 rfl) hqB24 rfl)))) (fun ⟨_,_,h⟩=>h) rfl)
  intro a4 hF4 QR26 hR26 hNR26
  refine wp_seq_k fun K27 hK27=>wp_region_lit (xB 2 [(4,iv 0),(5,iv 0)] hF4 fun a4 hF4=>wpList_nil (hK27 _ _ (wp_seq_k fun K28 hK28=>wp_seq_k fun K29 hK29=>wp_region_lit (wl (xL 6 5 0 (v:=.func (.func 89) #[.agg #[.slice A ge.length gc,iv cyc,iv per,iv sh,.slice Ah 8 hc]] #[]) hF4 hM fun a4 w hF4 hM=>xB 1 [(7,iv (7 - (j:Int)))] hF4 fun a4 hF4=>wl (xL 8 4 0 (v:=iv t) hF4 hM fun a4 w hF4 hM=>wl (xM 9 (v:=.bool (decide (mayP ge cyc per sh h (7 - j) t))) hF4 hM (xC 89 #[.agg #[.slice A ge.length gc,iv cyc,iv per,iv sh,.slice Ah 8 hc],iv (7 - (j:Int)),iv t] hF4 (fun w hM=>by have:=may_w A ge gc cyc per sh Ah h hc (7 - j) t w (hM.ok 1 _ rfl) hga ⟨hp1,hp2,hs1,hs2⟩ (hM.ok 2 _ rfl) hh (by omega) (by omega); rw [show (((7 - j:Nat)):Int)=7 - (j:Int) by omega] at this; exact this)) fun a4 w hF4 hM=>?_)))))))
  refine xB 1 [(10,.bool (!decide (mayP ge cyc per sh h (7 - j) t)))] hF4 fun a4 hF4=>wpList_nil (hK29 _ _ ?_)
  by_cases hz4:mayP ge cyc per sh h (7 - j) t
  ·replace hF4:=hF4.c hF4 (i:=9) (v:=.bool true) rfl (bT hz4)
   replace hF4:=hF4.c hF4 (i:=10) (v:=.bool false) rfl (nT hz4)
   refine xF hF4 (wp_skip (hK28 _ _ (wp_seq_k fun K30 hK30=>wp_region_lit (xB 3 [(11,iv (7 - (j:Int))),(4,iv (7 - (j:Int))),(5,iv 0)] hF4 fun a4 hF4=>wpList_nil (hK30 _ _ (wp_ret (hR26 _ _ (ret_of hF4 hM (.tmp rfl (.tmp rfl (.nil))) ⟨_,rfl,?_⟩))))))))
   intro a3 hF3
   refine wr (xP 14 (v0:=.tuple #[iv (7 - (j:Int)),iv 0]) (v:=.tuple #[iv (7 - (j:Int)),iv 0]) hF3 rfl fun a3 hF3=>wr (xP 18 (v0:=iv (7 - (j:Int))) (v:=iv (7 - (j:Int))) hF3 rfl fun a3 hF3=>wr (xP 19 (v0:=iv 0) (v:=iv 0) hF3 rfl fun a3 hF3=>wr (xP 9 (v0:=iv (7 - (j:Int))) (v:=iv (7 - (j:Int))) hF3 rfl fun a3 hF3=>wr (xP 10 (v0:=iv 0) (v:=iv 0) hF3 rfl fun a3 hF3=>wpLi_nil (hK25 _ _ (wpIn_seq_k fun K31 hK31=>wpR_region (wr (xP 20 (v0:=iv 0) (v:=iv 0) hF3 rfl fun a3 hF3=>wr (xP 21 (v0:=.bool (decide (0=0))) (v:=.bool true) hF3 (bT (by omega)) fun a3 hF3=>wpLi_nil ?_) hqB24 rfl) hqB24 rfl)))) hqB24 rfl) hqB24 rfl) hqB24 rfl) hqB24 rfl) hqB24 rfl
   refine hK31 _ _ (cTi hF3 (by kernel_rfl) (by kernel_rfl) (wpIn_seq_k fun K32 hK32=>wpR_region (wr (xP 22 (v0:=iv (7 - (j:Int))) (v:=iv (7 - (j:Int))) hF3 rfl fun a3 hF3=>wr (xS 7 0 #[iv (7 - (j:Int))] hF3 hM fun w hM=>wr (xS 8 0 #[iv 0] hF3 hM fun w hM=>wpLi_nil (hK32 _ _ (wpIn_exit (hBe24 0 _ _ _ hM rfl fun a2 w hF2 hM=>wr (xP 12 (v0:=.bool true) (v:=.bool true) hF2 rfl fun a2 hF2=>?_) hqR17 rfl)))) hqB24 rfl) hqB24 rfl) hqB24 rfl)))
   refine wpLi_nil (hK23 _ _ (xT hF2 (wp_ret (hR17 _ _ (ret_of hF2 hM (.nil) (rangeEndJ (kl:=11) OO8 hO8 hM rfl (by decide) fun w hM=>?_))))))
   replace hF1:=hF1.defer { target:=.collected DD8,args:=#[] }
   refine wp_exit (hK12 _ _ (wp_seq_k fun K33 hK33=>rQ hM (by kernel_rfl) (by kernel_rfl) (xK 23 7 0 (v:=iv (7 - (j:Int))) hF1 fun a1 hF1=>xK 24 8 0 (v:=iv 0) hF1 fun a1 hF1=>xQ 4 (v0:=iv (7 - (j:Int))) (v:=iv (7 - (j:Int))) hF1 rfl fun a1 hF1=>xQ 5 (v0:=iv 0) (v:=iv 0) hF1 rfl fun a1 hF1=>wpQuiet_nil ?_)))
   intro w hM
   refine hK33 _ _ (wp_ret (hR7 _ _ (retM1 (kD:=10) hF1 hM rfl (.tmp rfl (.tmp rfl (.nil))) fun w hM=>⟨_,rfl,?_⟩)))
   intro a hF
   refine xB 4 [(23,iv (7 - (j:Int))),(24,iv 0),(6,iv (7 - (j:Int))),(7,iv 0)] hF fun a hF=>wpList_nil (hK6 _ _ (wp_ret (hR0 _ _ (ret_of hF hM (.tmp rfl (.tmp rfl (.nil))) ?_))))
   have hs:=st_yes (p:=fun c=>mayP ge cyc per sh h c t) (j:=j) (by omega) (by assumption) (by assumption)
   exact ⟨ret_eq (by rw [hs]; exact congrArg (fun z=>Value.tuple #[.int .i64 z,.int .i64 0]) (show _=(((7 - j:Nat)):Int) by omega)),hM.bel⟩
  replace hF4:=hF4.c hF4 (i:=9) (v:=.bool false) rfl (bF hz4)
  replace hF4:=hF4.c hF4 (i:=10) (v:=.bool true) rfl (nF hz4)
  refine xT hF4 (wp_seq_k fun K34 hK34=>wp_region_lit (xB 2 [(4,iv 0),(5,iv 4)] hF4 fun a4 hF4=>wpList_nil (hK34 _ _ (wp_ret (hR26 _ _ (ret_of hF4 hM (.tmp rfl (.tmp rfl (.nil))) ⟨_,rfl,?_⟩))))))
  intro a3 hF3
  refine wr (xP 14 (v0:=.tuple #[iv 0,iv 4]) (v:=.tuple #[iv 0,iv 4]) hF3 rfl fun a3 hF3=>wr (xP 18 (v0:=iv 0) (v:=iv 0) hF3 rfl fun a3 hF3=>wr (xP 19 (v0:=iv 4) (v:=iv 4) hF3 rfl fun a3 hF3=>wr (xP 9 (v0:=iv 0) (v:=iv 0) hF3 rfl fun a3 hF3=>wr (xP 10 (v0:=iv 4) (v:=iv 4) hF3 rfl fun a3 hF3=>wpLi_nil (hK25 _ _ (wpIn_seq_k fun K35 hK35=>wpR_region (wr (xP 20 (v0:=iv 4) (v:=iv 4) hF3 rfl fun a3 hF3=>wr (xP 21 (v0:=.bool (decide (4=0))) (v:=.bool false) hF3 (bF (by omega)) fun a3 hF3=>wpLi_nil ?_) hqB24 rfl) hqB24 rfl)))) hqB24 rfl) hqB24 rfl) hqB24 rfl) hqB24 rfl) hqB24 rfl
  refine hK35 _ _ (cFi hF3 (by kernel_rfl) (by kernel_rfl) (wpIn_skip (hBn24 _ _ _ hM rfl fun a2 w hF2 hM=>wr (xP 12 (v0:=.bool false) (v:=.bool false) hF2 rfl fun a2 hF2=>wpLi_nil (hK23 _ _ (xF hF2 (wp_skip (hK22 _ _ (wp_region_lit (xB 1 [(7,iv (7 - (j:Int)))] hF2 fun a2 hF2=>?_))))))) hqR17 rfl)))
  refine wl (xP 8 (v0:=.int .i64 (IntKind.i64.wrap (7 - (j:Int) - 1))) (v:=iv (7 - (j:Int) - 1)) hF2 (wi (by omega)) fun a2 hF2=>xB 1 [(3,iv (7 - (j:Int) - 1))] hF2 fun a2 hF2=>wpList_nil (hK19 _ _ ⟨(j + 1),⟨((((Fr.nil hF2).c hF2 (i:=1) rfl rfl).c hF2 (i:=0) rfl rfl).c hF2 (i:=3) rfl (vi (show (7 - (j:Int) - 1:Int)=7 - ((j + 1):Int) from by omega))),(hM.sub (((((((((((Sub.nil.c (k:=11) rfl rfl).c (k:=10) rfl rfl).c (k:=9) rfl rfl).c (k:=8) rfl rfl).c (k:=7) rfl rfl).c (k:=6) rfl rfl).c (k:=5) rfl rfl).c (k:=4) rfl rfl).c (k:=3) rfl rfl).c (k:=2) rfl rfl).c (k:=1) rfl rfl)),(show ((j + 1):Int) ≤ 8 from by omega),(show stF (fun c=>mayP ge cyc per sh h c t) 8=stF (fun c=>mayP ge cyc per sh h c t) (8 - (j + 1)) from by exact st_nx (by omega) (by assumption) (by assumption))⟩,(show 8 - (j + 1) < 8 - j from by omega)⟩))
 replace hF2:=hF2.c hF2 (i:=6) (v:=.bool false) rfl (bF hz3)
 refine xF hF2 (wp_exit (hNR17 _ _ (ret_ofN hF2 hM (.nil) (rangeEnd (kl:=11) OO8 hO8 hM rfl (by (try dsimp only); decide) fun w hM=>?_))))
 replace hF1:=hF1.defer { target:=.collected DD8,args:=#[] }
 refine hK12 _ _ (wp_seq_k fun K36 hK36=>rQ hM (by kernel_rfl) (by kernel_rfl) (xK 23 7 0 (v:=iv 0) hF1 fun a1 hF1=>xK 24 8 0 (v:=iv 4) hF1 fun a1 hF1=>xQ 4 (v0:=iv 0) (v:=iv 0) hF1 rfl fun a1 hF1=>xQ 5 (v0:=iv 4) (v:=iv 4) hF1 rfl fun a1 hF1=>wpQuiet_nil ?_))
 intro w hM
 refine hK36 _ _ (wp_ret (hR7 _ _ (retM1 (kD:=10) hF1 hM rfl (.tmp rfl (.tmp rfl (.nil))) fun w hM=>⟨_,rfl,?_⟩)))
 intro a hF
 refine xB 4 [(23,iv 0),(24,iv 4),(6,iv 0),(7,iv 4)] hF fun a hF=>wpList_nil (hK6 _ _ (wp_ret (hR0 _ _ (ret_of hF hM (.tmp rfl (.tmp rfl (.nil))) ?_))))
 have hs:=st_end (p:=fun c=>mayP ge cyc per sh h c t) (j:=j) (by omega) (by assumption)
 exact ⟨ret_eq (by rw [hs]; rfl),hM.bel⟩
set_option maxHeartbeats 4000000 in
theorem whenA_w (A:Option Addr) (ge:List (Int × Int)) (gc:Nat) (cyc:Int) (per sh:Int) (Ah:Option Addr) (h:List (List Int)) (hc:Nat) (t:Int) (w0:World) (hA:Ro w0 A (flat2 ge)) (hga:gaE ge cyc=0) (hln:lnP per sh) (hH:Ro w0 Ah (flatE pE h)) (hh:hdP h) (ht:0 ≤ t ∧ t ≤ 549755813888) :
    Calls Tryz.prog 79 #[.agg #[.slice A ge.length gc,iv cyc,iv per,iv sh],.slice Ah 8 hc,iv t] w0 (Ret w0 (.tuple #[.int .i64 ((whG (fun c=>whnO ge cyc per sh h t c) 8).getD 0),.int .i64 (eO (whG (fun c=>whnO ge cyc per sh h t c) 8))])):=by
 obtain ⟨hp1,hp2,hs1,hs2⟩:=hln
 have hgp:=(ga_p hga).2.2.1
 have hgs:=ga_pos hga
 have h8:=hh.1
 have hWh:=hh.2.1
 refine enterKM 49 Tryz.func79 rfl rfl rfl ?_
 intro a hF Q0 hR0 hN0
 have hM:=Mem.start w0
 replace hM:=hM.addOld 1 hA (Nat.le_refl _)
 replace hM:=hM.addOld 2 hH (Nat.le_refl _)
 refine wp_seq_k fun K1 hK1=>wp_region_lit (wl (xN 3 3 (t:=45) (fun b=>.pointer (some ⟨b,0,none⟩)) #[.slice A ge.length gc,iv cyc,iv per,iv sh] hF hM fun bb1 a w hF hM=>wl (xN 5 4 (t:=3) (fun b=>.pointer (some ⟨b,0,none⟩)) #[iv t] hF hM fun bb2 a w hF hM=>xB 2 [(6,iv 0),(7,iv 0)] hF fun a hF=>wpList_nil (hK1 _ _ (wp_seq_k fun K2 hK2=>wp_seq_k fun K3 hK3=>wp_region_lit (wl (xL 15 3 0 (v:=.agg #[.slice A ge.length gc,iv cyc,iv per,iv sh]) hF hM fun a w hF hM=>xB 1 [(16,.slice Ah 8 hc)] hF fun a hF=>?_)))))))
 refine wl (xL 17 4 0 (v:=iv t) hF hM fun a w hF hM=>wl (xM 18 (v:=iv 0) hF hM (xC 88 #[.agg #[.slice A ge.length gc,iv cyc,iv per,iv sh],.slice Ah 8 hc,iv t] hF (fun w hM=>chChk_w A ge gc cyc per sh Ah h hc t w (hM.ok 1 _ rfl) hga ⟨hp1,hp2,hs1,hs2⟩ (hM.ok 2 _ rfl) hh (by omega))) fun a w hF hM=>xB 1 [(8,iv 0)] hF fun a hF=>wpList_nil (hK3 _ _ (wp_seq_k fun K4 hK4=>wp_region_lit (xB 1 [(19,iv 0)] hF fun a hF=>wl (xP 20 (v0:=.bool (!decide (0=0))) (v:=.bool false) hF (nT (by omega)) fun a hF=>wpList_nil (hK4 _ _ (xF hF ?_))))))))
 refine wp_skip (hK2 _ _ (wp_seq_k fun K5 hK5=>wp_region_lit (wl (xL 22 3 0 (v:=.agg #[.slice A ge.length gc,iv cyc,iv per,iv sh]) hF hM fun a w hF hM=>xB 3 [(23,.slice Ah 8 hc),(24,.agg #[.slice A ge.length gc,iv cyc,iv per,iv sh,.slice Ah 8 hc]),(25,.func (.func 99) #[.agg #[.slice A ge.length gc,iv cyc,iv per,iv sh,.slice Ah 8 hc]] #[])] hF fun a hF=>wl (xN 9 5 (t:=178) (fun b=>.pointer (some ⟨b,0,none⟩)) #[.nilFunc] hF hM fun bb3 a w hF hM=>?_)))))
 refine wl (xS 5 0 #[.func (.func 99) #[.agg #[.slice A ge.length gc,iv cyc,iv per,iv sh,.slice Ah 8 hc]] #[]] hF hM fun w hM=>wpList_nil (hK5 _ _ (wp_seq_k fun K6 hK6=>wp_region_lit (wl (xN 10 6 (t:=3) (fun b=>.pointer (some ⟨b,0,none⟩)) #[iv 0] hF hM fun bb4 a w hF hM=>wl (xN 11 7 (t:=36) (fun b=>.pointer (some ⟨b,0,none⟩)) #[iv 0] hF hM fun bb5 a w hF hM=>?_))))))
 refine wl (xS 6 0 #[iv 0] hF hM fun w hM=>wl (xS 7 0 #[iv 4] hF hM fun w hM=>wpList_nil (hK6 _ _ (wp_seq_k fun K7 hK7=>wp_seq_k fun K8 hK8=>wp_region_lit (wl (sC (f:=100) (args:=#[iv 0]) hF (by kernel_rfl) rfl (by decide) (by kernel_rfl) (fun _=>by kernel_rfl) (enterK 4 Tryz.func100 rfl rfl rfl ?_)))))))
 intro a1 hF1 QR9 hR9 hNR9
 refine wp_seq_k fun K10 hK10=>wp_region_lit (wl (xN 1 8 (t:=3) (fun b=>.pointer (some ⟨b,0,none⟩)) #[iv 0] hF1 hM fun bb6 a1 w hF1 hM=>xB 1 [(2,.nilFunc)] hF1 fun a1 hF1=>wpList_nil (hK10 _ _ (wp_seq_k fun K11 hK11=>wp_region_lit (xB 2 [(3,.func (.func 115) #[] #[pt bb6 0]),(2,.func (.func 115) #[] #[pt bb6 0])] hF1 fun a1 hF1=>wpList_nil (hK11 _ _ (wp_ret ?_)))))))
 refine hR9 _ _ (ret_of hF1 hM (.tmp rfl (.nil)) ⟨_,rfl,?_⟩)
 intro a hF
 refine wpList_nil (hK8 _ _ (wp_block (rangeK (gf:=115) (lb:=#[pt bb6 0]) 9 9 10 hF hM (by kernel_rfl) (by kernel_rfl) (enters_of Tryz.func115 (by kernel_rfl) rfl) fun fn7 DD7 ll7 OO7 hO7 w hM=>enterKQ 13 Tryz.func115 rfl rfl rfl ?_)))
 intro a1 hF1 QR12 hR12 hNR12 hqR12
 refine wp_seq_k fun K13 hK13=>wp_region_lit (xB 1 [(3,iv 7)] hF1 fun a1 hF1=>wpList_nil (hK13 _ _ (wp_block (wp_loop_k (G:=Nat × Int × Int) (fun gg a w=>Fr 13 [(3,some (iv (7 - (gg.1:Int)))),(0,some (.func (.yield ll7) #[] #[])),(1,some (pt bb6 0))] a ∧ Mem w0.heap.size w0 [(1,some (.ro A (flat2 ge))),(2,some (.ro Ah (flatE pE h))),(3,some (.row bb1 45 #[.slice A ge.length gc,iv cyc,iv per,iv sh])),(4,some (.row bb2 3 #[iv t])),(5,some (.row bb3 178 #[.func (.func 99) #[.agg #[.slice A ge.length gc,iv cyc,iv per,iv sh,.slice Ah 8 hc]] #[]])),(6,some (.row bb4 3 #[iv gg.2.1])),(7,some (.row bb5 36 #[iv gg.2.2])),(8,some (.row bb6 3 #[iv 0])),(9,some (.obj DD7 (.deferred (some [])))),(10,some (.obj ll7 (OO7 .ready none)))] w ∧ ((gg.1:Int) ≤ 8) ∧ ((whG (fun c=>whnO ge cyc per sh h t c) gg.1).getD 0=gg.2.1) ∧ (eO (whG (fun c=>whnO ge cyc per sh h t c) gg.1)=gg.2.2)) (fun gg=>8 - gg.1) (0,0,4) ?_ ?_))))
 ·refine ⟨((((Fr.nil hF1).c hF1 (i:=1) rfl rfl).c hF1 (i:=0) rfl rfl).c hF1 (i:=3) rfl (vi (show (7:Int)=7 - (0:Int) from by omega))),(hM.sub ((((((((((Sub.nil.c (k:=10) rfl rfl).c (k:=9) rfl rfl).c (k:=8) rfl rfl).c (k:=7) rfl rfl).c (k:=6) rfl rfl).c (k:=5) rfl rfl).c (k:=4) rfl rfl).c (k:=3) rfl rfl).c (k:=2) rfl rfl).c (k:=1) rfl rfl)),(show (0:Int) ≤ 8 from by omega),(show (whG (fun c=>whnO ge cyc per sh h t c) 0).getD 0=0 from by rfl),(show eO (whG (fun c=>whnO ge cyc per sh h t c) 0)=4 from by rfl)⟩
 intro gg a1 w hI
 intro K14 hK14
 obtain ⟨j,m,f⟩:=gg
 try dsimp only at hI hK14
 obtain ⟨hF1,hM,hz1,hz2,hz3⟩:=hI
 refine wp_seq_k fun K15 hK15=>wp_seq_k fun K16 hK16=>wp_region_lit (xB 1 [(4,iv (7 - (j:Int)))] hF1 fun a1 hF1=>wl (xL 5 8 0 (v:=iv 0) hF1 hM fun a1 w hF1 hM=>xB 1 [(6,.bool (decide (0 ≤ 7 - (j:Int))))] hF1 fun a1 hF1=>wpList_nil (hK16 _ _ ?_)))
 by_cases hz4:0 ≤ 7 - (j:Int)
 ·replace hF1:=hF1.c hF1 (i:=6) (v:=.bool true) rfl (bT hz4)
  refine xT hF1 (wp_skip (hK15 _ _ (wp_seq_k fun K17 hK17=>wp_block (wp_seq_k fun K18 hK18=>(wpIn_wide (n:=9)).1 (wpR_region (wr (xP 9 (v0:=.func (.yield ll7) #[] #[]) (v:=.func (.yield ll7) #[] #[]) hF1 rfl fun a1 hF1=>wr (xP 10 (v0:=iv (7 - (j:Int))) (v:=iv (7 - (j:Int))) hF1 rfl fun a1 hF1=>sYield (n:=13) (d:=11) (args:=#[iv (7 - (j:Int))]) 10 hF1 OO7 hO7 hM (by kernel_rfl) rfl (by decide) (by kernel_rfl) rfl (fun _=>by kernel_rfl) rfl rfl fun KB19 QB19 hB19 hBn19 hBe19 hBr19 hqB19=>?_) hqR12 rfl) hqR12 rfl))))))
  have hF2:=hF.round1 (p:=27) (by decide) (iv (7 - (j:Int)))
  refine wpR_region (wr (xP 12 (v0:=iv (7 - (j:Int))) (v:=iv (7 - (j:Int))) hF2 rfl fun a2 hF2=>wpLi_nil (hB19 _ _ _ hM rfl fun w hM=>wpIn_block (wpIn_seq_k fun K20 hK20=>wpR_region (wr (xL 29 5 0 (v:=.func (.func 99) #[.agg #[.slice A ge.length gc,iv cyc,iv per,iv sh,.slice Ah 8 hc]] #[]) hF2 hM fun a2 w hF2 hM=>wr (xP 30 (v0:=iv (7 - (j:Int))) (v:=iv (7 - (j:Int))) hF2 rfl fun a2 hF2=>wr (xL 31 4 0 (v:=iv t) hF2 hM fun a2 w hF2 hM=>?_) hqB19 rfl) hqB19 rfl) hqB19 rfl)))) (fun ⟨_,_,h⟩=>h) rfl)
  obtain ⟨wx,hwx⟩:∃ z:Int,(whnO ge cyc per sh h t (7 - j)).getD 0=z:=⟨_,rfl⟩
  obtain ⟨we,hwe⟩:∃ z:Int,eO (whnO ge cyc per sh h t (7 - j))=z:=⟨_,rfl⟩
  refine wr (xM 32 (v:=.tuple #[iv wx,iv we]) hF2 hM (xC 99 #[.agg #[.slice A ge.length gc,iv cyc,iv per,iv sh,.slice Ah 8 hc],iv (7 - (j:Int)),iv t] hF2 (fun w hM=>by have:=when_w A ge gc cyc per sh Ah h hc (7 - j) t w (hM.ok 1 _ rfl) hga ⟨hp1,hp2,hs1,hs2⟩ (hM.ok 2 _ rfl) hh (by omega) (by omega); rw [show (((7 - j:Nat)):Int)=7 - (j:Int) by omega,hwx,hwe] at this; exact this)) fun a2 w hF2 hM=>wr (xP 28 (v0:=.tuple #[iv wx,iv we]) (v:=.tuple #[iv wx,iv we]) hF2 rfl fun a2 hF2=>wr (xP 33 (v0:=iv wx) (v:=iv wx) hF2 rfl fun a2 hF2=>wr (xP 34 (v0:=iv we) (v:=iv we) hF2 rfl fun a2 hF2=>wr (xP 13 (v0:=iv wx) (v:=iv wx) hF2 rfl fun a2 hF2=>wr (xP 14 (v0:=iv we) (v:=iv we) hF2 rfl fun a2 hF2=>wpLi_nil (hK20 _ _ (wpIn_seq_k fun K21 hK21=>?_))) hqB19 rfl) hqB19 rfl) hqB19 rfl) hqB19 rfl) hqB19 rfl) hqB19 rfl
  by_cases hz5:we=0
  ·by_cases hz6:f=0
   ·refine wpR_region (wr (xP 35 (v0:=iv we) (v:=iv we) hF2 rfl fun a2 hF2=>wr (xP 36 (v0:=.bool (decide (we=0))) (v:=.bool true) hF2 (bT hz5) fun a2 hF2=>wr (xP 37 (v0:=.bool true) (v:=.bool true) hF2 rfl fun a2 hF2=>wr (xL 38 7 0 (v:=iv f) hF2 hM fun a2 w hF2 hM=>wr (xP 39 (v0:=.bool (!decide (f=0))) (v:=.bool false) hF2 (nT hz6) fun a2 hF2=>wr (xP 40 (v0:=.bool false) (v:=.bool false) hF2 rfl fun a2 hF2=>wr (xP 41 (v0:=iv wx) (v:=iv wx) hF2 rfl fun a2 hF2=>wr (xL 42 6 0 (v:=iv m) hF2 hM fun a2 w hF2 hM=>wr (xP 43 (v0:=.bool (decide (wx < m))) (v:=.bool (decide (wx < m))) hF2 rfl fun a2 hF2=>wr (xP 44 (v0:=.bool (decide (wx < m))) (v:=.bool (decide (wx < m))) hF2 rfl fun a2 hF2=>wr (xP 45 (v0:=.bool (decide (wx < m))) (v:=.bool (decide (wx < m))) hF2 rfl fun a2 hF2=>?_) hqB19 rfl) hqB19 rfl) hqB19 rfl) hqB19 rfl) hqB19 rfl) hqB19 rfl) hqB19 rfl) hqB19 rfl) hqB19 rfl) hqB19 rfl) hqB19 rfl)
    refine wpLi_nil (hK21 _ _ ?_)
    by_cases hz7:wx < m
    ·replace hF2:=hF2.c hF2 (i:=43) (v:=.bool true) rfl (bT hz7)
     replace hF2:=hF2.c hF2 (i:=44) (v:=.bool true) rfl (bT hz7)
     replace hF2:=hF2.c hF2 (i:=45) (v:=.bool true) rfl (bT hz7)
     refine cTi hF2 (by kernel_rfl) (by kernel_rfl) (wpR_region (wr (xP 46 (v0:=iv wx) (v:=iv wx) hF2 rfl fun a2 hF2=>wr (xS 6 0 #[iv wx] hF2 hM fun w hM=>wr (xS 7 0 #[iv 0] hF2 hM fun w hM=>wpLi_nil (hBn19 _ _ _ hM rfl fun a1 w hF1 hM=>wr (xP 12 (v0:=.bool false) (v:=.bool false) hF1 rfl fun a1 hF1=>wpLi_nil (hK18 _ _ (xF hF1 (wp_skip ?_)))) hqR12 rfl)) hqB19 rfl) hqB19 rfl) hqB19 rfl))
     refine hK17 _ _ (wp_region_lit (xB 1 [(7,iv (7 - (j:Int)))] hF1 fun a1 hF1=>wl (xP 8 (v0:=.int .i64 (IntKind.i64.wrap (7 - (j:Int) - 1))) (v:=iv (7 - (j:Int) - 1)) hF1 (wi (by omega)) fun a1 hF1=>xB 1 [(3,iv (7 - (j:Int) - 1))] hF1 fun a1 hF1=>wpList_nil (hK14 _ _ ⟨(j + 1,wx,0),⟨((((Fr.nil hF1).c hF1 (i:=1) rfl rfl).c hF1 (i:=0) rfl rfl).c hF1 (i:=3) rfl (vi (show (7 - (j:Int) - 1:Int)=7 - ((j + 1):Int) from by omega))),(hM.sub ((((((((((Sub.nil.c (k:=10) rfl rfl).c (k:=9) rfl rfl).c (k:=8) rfl rfl).c (k:=7) rfl rfl).c (k:=6) rfl rfl).c (k:=5) rfl rfl).c (k:=4) rfl rfl).c (k:=3) rfl rfl).c (k:=2) rfl rfl).c (k:=1) rfl rfl)),(show ((j + 1):Int) ≤ 8 from by omega),(show (whG (fun c=>whnO ge cyc per sh h t c) (j + 1)).getD 0=wx from by exact (wh_take (p:=fun c=>whnO ge cyc per sh h t c) ‹(whG (fun c=>whnO ge cyc per sh h t c) j).getD 0=m› ‹eO (whG (fun c=>whnO ge cyc per sh h t c) j)=f› hwx hwe (by assumption) (by first | exact .inl (by assumption) | exact .inr (by assumption))).2),(show eO (whG (fun c=>whnO ge cyc per sh h t c) (j + 1))=0 from by exact (wh_take (p:=fun c=>whnO ge cyc per sh h t c) ‹(whG (fun c=>whnO ge cyc per sh h t c) j).getD 0=m› ‹eO (whG (fun c=>whnO ge cyc per sh h t c) j)=f› hwx hwe (by assumption) (by first | exact .inl (by assumption) | exact .inr (by assumption))).1)⟩,(show 8 - (j + 1) < 8 - j from by omega)⟩))))
    replace hF2:=hF2.c hF2 (i:=43) (v:=.bool false) rfl (bF hz7)
    replace hF2:=hF2.c hF2 (i:=44) (v:=.bool false) rfl (bF hz7)
    replace hF2:=hF2.c hF2 (i:=45) (v:=.bool false) rfl (bF hz7)
    refine cFi hF2 (by kernel_rfl) (by kernel_rfl) (wpIn_skip (hBn19 _ _ _ hM rfl fun a1 w hF1 hM=>wr (xP 12 (v0:=.bool false) (v:=.bool false) hF1 rfl fun a1 hF1=>wpLi_nil (hK18 _ _ (xF hF1 (wp_skip (hK17 _ _ (wp_region_lit (xB 1 [(7,iv (7 - (j:Int)))] hF1 fun a1 hF1=>wl (xP 8 (v0:=.int .i64 (IntKind.i64.wrap (7 - (j:Int) - 1))) (v:=iv (7 - (j:Int) - 1)) hF1 (wi (by omega)) fun a1 hF1=>?_)))))))) hqR12 rfl))
    refine xB 1 [(3,iv (7 - (j:Int) - 1))] hF1 fun a1 hF1=>wpList_nil (hK14 _ _ ⟨(j + 1,m,f),⟨((((Fr.nil hF1).c hF1 (i:=1) rfl rfl).c hF1 (i:=0) rfl rfl).c hF1 (i:=3) rfl (vi (show (7 - (j:Int) - 1:Int)=7 - ((j + 1):Int) from by omega))),(hM.sub ((((((((((Sub.nil.c (k:=10) rfl rfl).c (k:=9) rfl rfl).c (k:=8) rfl rfl).c (k:=7) rfl rfl).c (k:=6) rfl rfl).c (k:=5) rfl rfl).c (k:=4) rfl rfl).c (k:=3) rfl rfl).c (k:=2) rfl rfl).c (k:=1) rfl rfl)),(show ((j + 1):Int) ≤ 8 from by omega),(show (whG (fun c=>whnO ge cyc per sh h t c) (j + 1)).getD 0=m from by exact (wh_keep (p:=fun c=>whnO ge cyc per sh h t c) ‹(whG (fun c=>whnO ge cyc per sh h t c) j).getD 0=m› ‹eO (whG (fun c=>whnO ge cyc per sh h t c) j)=f› hwx hwe (by first | exact .inl (by assumption) | exact .inr ⟨by assumption,by assumption⟩)).2),(show eO (whG (fun c=>whnO ge cyc per sh h t c) (j + 1))=f from by exact (wh_keep (p:=fun c=>whnO ge cyc per sh h t c) ‹(whG (fun c=>whnO ge cyc per sh h t c) j).getD 0=m› ‹eO (whG (fun c=>whnO ge cyc per sh h t c) j)=f› hwx hwe (by first | exact .inl (by assumption) | exact .inr ⟨by assumption,by assumption⟩)).1)⟩,(show 8 - (j + 1) < 8 - j from by omega)⟩)
   refine wpR_region (wr (xP 35 (v0:=iv we) (v:=iv we) hF2 rfl fun a2 hF2=>wr (xP 36 (v0:=.bool (decide (we=0))) (v:=.bool true) hF2 (bT hz5) fun a2 hF2=>wr (xP 37 (v0:=.bool true) (v:=.bool true) hF2 rfl fun a2 hF2=>wr (xL 38 7 0 (v:=iv f) hF2 hM fun a2 w hF2 hM=>wr (xP 39 (v0:=.bool (!decide (f=0))) (v:=.bool true) hF2 (nF hz6) fun a2 hF2=>wr (xP 40 (v0:=.bool true) (v:=.bool true) hF2 rfl fun a2 hF2=>wr (sSkip hF2 (by kernel_rfl) rfl (by decide) fun a2 hF2=>wr (sSkip hF2 (by kernel_rfl) rfl (by decide) fun a2 hF2=>wr (sSkip hF2 (by kernel_rfl) rfl (by decide) fun a2 hF2=>wr (xP 44 (v0:=.bool true) (v:=.bool true) hF2 rfl fun a2 hF2=>wr (xP 45 (v0:=.bool true) (v:=.bool true) hF2 rfl fun a2 hF2=>?_) hqB19 rfl) hqB19 rfl) hqB19 rfl) hqB19 rfl) hqB19 rfl) hqB19 rfl) hqB19 rfl) hqB19 rfl) hqB19 rfl) hqB19 rfl) hqB19 rfl)
   refine wpLi_nil (hK21 _ _ (cTi hF2 (by kernel_rfl) (by kernel_rfl) (wpR_region (wr (xP 46 (v0:=iv wx) (v:=iv wx) hF2 rfl fun a2 hF2=>wr (xS 6 0 #[iv wx] hF2 hM fun w hM=>wr (xS 7 0 #[iv 0] hF2 hM fun w hM=>wpLi_nil (hBn19 _ _ _ hM rfl fun a1 w hF1 hM=>wr (xP 12 (v0:=.bool false) (v:=.bool false) hF1 rfl fun a1 hF1=>wpLi_nil (hK18 _ _ ?_)) hqR12 rfl)) hqB19 rfl) hqB19 rfl) hqB19 rfl))))
   refine xF hF1 (wp_skip (hK17 _ _ (wp_region_lit (xB 1 [(7,iv (7 - (j:Int)))] hF1 fun a1 hF1=>wl (xP 8 (v0:=.int .i64 (IntKind.i64.wrap (7 - (j:Int) - 1))) (v:=iv (7 - (j:Int) - 1)) hF1 (wi (by omega)) fun a1 hF1=>xB 1 [(3,iv (7 - (j:Int) - 1))] hF1 fun a1 hF1=>wpList_nil (hK14 _ _ ⟨(j + 1,wx,0),⟨((((Fr.nil hF1).c hF1 (i:=1) rfl rfl).c hF1 (i:=0) rfl rfl).c hF1 (i:=3) rfl (vi (show (7 - (j:Int) - 1:Int)=7 - ((j + 1):Int) from by omega))),(hM.sub ((((((((((Sub.nil.c (k:=10) rfl rfl).c (k:=9) rfl rfl).c (k:=8) rfl rfl).c (k:=7) rfl rfl).c (k:=6) rfl rfl).c (k:=5) rfl rfl).c (k:=4) rfl rfl).c (k:=3) rfl rfl).c (k:=2) rfl rfl).c (k:=1) rfl rfl)),(show ((j + 1):Int) ≤ 8 from by omega),(show (whG (fun c=>whnO ge cyc per sh h t c) (j + 1)).getD 0=wx from by exact (wh_take (p:=fun c=>whnO ge cyc per sh h t c) ‹(whG (fun c=>whnO ge cyc per sh h t c) j).getD 0=m› ‹eO (whG (fun c=>whnO ge cyc per sh h t c) j)=f› hwx hwe (by assumption) (by first | exact .inl (by assumption) | exact .inr (by assumption))).2),(show eO (whG (fun c=>whnO ge cyc per sh h t c) (j + 1))=0 from by exact (wh_take (p:=fun c=>whnO ge cyc per sh h t c) ‹(whG (fun c=>whnO ge cyc per sh h t c) j).getD 0=m› ‹eO (whG (fun c=>whnO ge cyc per sh h t c) j)=f› hwx hwe (by assumption) (by first | exact .inl (by assumption) | exact .inr (by assumption))).1)⟩,(show 8 - (j + 1) < 8 - j from by omega)⟩))))))
  refine wpR_region (wr (xP 35 (v0:=iv we) (v:=iv we) hF2 rfl fun a2 hF2=>wr (xP 36 (v0:=.bool (decide (we=0))) (v:=.bool false) hF2 (bF hz5) fun a2 hF2=>wr (xP 37 (v0:=.bool false) (v:=.bool false) hF2 rfl fun a2 hF2=>wr (sSkip hF2 (by kernel_rfl) rfl (by decide) fun a2 hF2=>wr (sSkip hF2 (by kernel_rfl) rfl (by decide) fun a2 hF2=>wr (sSkip hF2 (by kernel_rfl) rfl (by decide) fun a2 hF2=>wr (sSkip hF2 (by kernel_rfl) rfl (by decide) fun a2 hF2=>wr (sSkip hF2 (by kernel_rfl) rfl (by decide) fun a2 hF2=>wr (sSkip hF2 (by kernel_rfl) rfl (by decide) fun a2 hF2=>wr (sSkip hF2 (by kernel_rfl) rfl (by decide) fun a2 hF2=>wr (xP 45 (v0:=.bool false) (v:=.bool false) hF2 rfl fun a2 hF2=>?_) hqB19 rfl) hqB19 rfl) hqB19 rfl) hqB19 rfl) hqB19 rfl) hqB19 rfl) hqB19 rfl) hqB19 rfl) hqB19 rfl) hqB19 rfl) hqB19 rfl)
  refine wpLi_nil (hK21 _ _ (cFi hF2 (by kernel_rfl) (by kernel_rfl) (wpIn_skip (hBn19 _ _ _ hM rfl fun a1 w hF1 hM=>wr (xP 12 (v0:=.bool false) (v:=.bool false) hF1 rfl fun a1 hF1=>wpLi_nil (hK18 _ _ (xF hF1 (wp_skip (hK17 _ _ (wp_region_lit ?_)))))) hqR12 rfl))))
  refine xB 1 [(7,iv (7 - (j:Int)))] hF1 fun a1 hF1=>wl (xP 8 (v0:=.int .i64 (IntKind.i64.wrap (7 - (j:Int) - 1))) (v:=iv (7 - (j:Int) - 1)) hF1 (wi (by omega)) fun a1 hF1=>xB 1 [(3,iv (7 - (j:Int) - 1))] hF1 fun a1 hF1=>wpList_nil (hK14 _ _ ⟨(j + 1,m,f),⟨((((Fr.nil hF1).c hF1 (i:=1) rfl rfl).c hF1 (i:=0) rfl rfl).c hF1 (i:=3) rfl (vi (show (7 - (j:Int) - 1:Int)=7 - ((j + 1):Int) from by omega))),(hM.sub ((((((((((Sub.nil.c (k:=10) rfl rfl).c (k:=9) rfl rfl).c (k:=8) rfl rfl).c (k:=7) rfl rfl).c (k:=6) rfl rfl).c (k:=5) rfl rfl).c (k:=4) rfl rfl).c (k:=3) rfl rfl).c (k:=2) rfl rfl).c (k:=1) rfl rfl)),(show ((j + 1):Int) ≤ 8 from by omega),(show (whG (fun c=>whnO ge cyc per sh h t c) (j + 1)).getD 0=m from by exact (wh_keep (p:=fun c=>whnO ge cyc per sh h t c) ‹(whG (fun c=>whnO ge cyc per sh h t c) j).getD 0=m› ‹eO (whG (fun c=>whnO ge cyc per sh h t c) j)=f› hwx hwe (by first | exact .inl (by assumption) | exact .inr ⟨by assumption,by assumption⟩)).2),(show eO (whG (fun c=>whnO ge cyc per sh h t c) (j + 1))=f from by exact (wh_keep (p:=fun c=>whnO ge cyc per sh h t c) ‹(whG (fun c=>whnO ge cyc per sh h t c) j).getD 0=m› ‹eO (whG (fun c=>whnO ge cyc per sh h t c) j)=f› hwx hwe (by first | exact .inl (by assumption) | exact .inr ⟨by assumption,by assumption⟩)).1)⟩,(show 8 - (j + 1) < 8 - j from by omega)⟩))
 replace hF1:=hF1.c hF1 (i:=6) (v:=.bool false) rfl (bF hz4)
 refine xF hF1 (wp_exit (hNR12 _ _ (ret_ofN hF1 hM (.nil) (rangeEnd (kl:=10) OO7 hO7 hM rfl (by decide) fun w hM=>?_))))
 replace hF:=hF.defer { target:=.collected DD7,args:=#[] }
 refine hK7 _ _ (wp_seq_k fun K22 hK22=>rQ hM (by kernel_rfl) (by kernel_rfl) (xK 47 6 0 (v:=iv m) hF fun a hF=>xK 48 7 0 (v:=iv f) hF fun a hF=>xQ 6 (v0:=iv m) (v:=iv m) hF rfl fun a hF=>xQ 7 (v0:=iv f) (v:=iv f) hF rfl fun a hF=>wpQuiet_nil ?_))
 intro w hM
 refine hK22 _ _ (wp_ret (hR0 _ _ (retM1 (kD:=9) hF hM rfl (.tmp rfl (.tmp rfl (.nil))) fun w hM=>?_)))
 obtain rfl:j=8:=by omega
 exact ⟨ret_eq (by rw [‹(whG (fun c=>whnO ge cyc per sh h t c) 8).getD 0=m›,‹eO (whG (fun c=>whnO ge cyc per sh h t c) 8)=f›]; rfl),hM.bel⟩
set_option maxHeartbeats 4000000 in
theorem preempt_w (A:Option Addr) (ge:List (Int × Int)) (gc:Nat) (cyc:Int) (per sh:Int) (Ah:Option Addr) (h:List (List Int)) (hc:Nat) (oc bg t:Int) (w0:World) (hA:Ro w0 A (flat2 ge)) (hga:gaE ge cyc=0) (hln:lnP per sh) (hH:Ro w0 Ah (flatE pE h)) (hh:hdP h) (ht:0 ≤ t ∧ t ≤ 549755813888) (hoc:84 ≤ oc ∧ oc ≤ 1542) (hbg:0 ≤ bg ∧ bg ≤ t ∧ t ≤ bg + oc * per) :
    Calls Tryz.prog 78 #[.agg #[.slice A ge.length gc,iv cyc,iv per,iv sh],.slice Ah 8 hc,iv oc,iv bg,iv t] w0 (Ret w0 (.tuple #[.int .i64 (if prP ge cyc per sh h oc bg t then prE per bg t else 0),.int .i64 (if prP ge cyc per sh h oc bg t then oc - prK per bg t + 24 else 0),.int .i64 (if prP ge cyc per sh h oc bg t then 0 else 4)])):=by
 obtain ⟨hp1,hp2,hs1,hs2⟩:=hln
 have hgp:=(ga_p hga).2.2.1
 have hgs:=ga_pos hga
 have h8:=hh.1
 have hWh:=hh.2.1
 refine enterK 87 Tryz.func78 rfl rfl rfl ?_
 intro a hF Q0 hR0 hN0
 have hM:=Mem.start w0
 replace hM:=hM.addOld 1 hA (Nat.le_refl _)
 replace hM:=hM.addOld 2 hH (Nat.le_refl _)
 refine wp_seq_k fun K1 hK1=>wp_region_lit (wl (xN 5 3 (t:=45) (fun b=>.pointer (some ⟨b,0,none⟩)) #[.slice A ge.length gc,iv cyc,iv per,iv sh] hF hM fun bb1 a w hF hM=>wl (xN 7 4 (t:=3) (fun b=>.pointer (some ⟨b,0,none⟩)) #[iv oc] hF hM fun bb2 a w hF hM=>wl (xN 10 5 (t:=3) (fun b=>.pointer (some ⟨b,0,none⟩)) #[iv 0] hF hM fun bb3 a w hF hM=>xB 2 [(11,iv 0),(12,iv 0)] hF fun a hF=>wpList_nil (hK1 _ _ (wp_seq_k fun K2 hK2=>wp_seq_k fun K3 hK3=>wp_region_lit (wl (xL 17 3 0 (v:=.agg #[.slice A ge.length gc,iv cyc,iv per,iv sh]) hF hM fun a w hF hM=>?_))))))))
 refine xB 2 [(18,.slice Ah 8 hc),(19,iv t)] hF fun a hF=>wl (xM 20 (v:=iv 0) hF hM (xC 88 #[.agg #[.slice A ge.length gc,iv cyc,iv per,iv sh],.slice Ah 8 hc,iv t] hF (fun w hM=>chChk_w A ge gc cyc per sh Ah h hc t w (hM.ok 1 _ rfl) hga ⟨hp1,hp2,hs1,hs2⟩ (hM.ok 2 _ rfl) hh (by omega))) fun a w hF hM=>xB 1 [(13,iv 0)] hF fun a hF=>wpList_nil (hK3 _ _ (wp_seq_k fun K4 hK4=>wp_region_lit (xB 1 [(21,iv 0)] hF fun a hF=>wl (xP 22 (v0:=.bool (!decide (0=0))) (v:=.bool false) hF (nT (by omega)) fun a hF=>wpList_nil (hK4 _ _ (xF hF ?_)))))))
 refine wp_skip (hK2 _ _ (wp_seq_k fun K5 hK5=>wp_seq_k fun K6 hK6=>wp_region_lit (wl (xL 24 4 0 (v:=iv oc) hF hM fun a w hF hM=>wl (xP 25 (v0:=.bool (decide (oc < 84))) (v:=.bool false) hF (bF (by omega)) fun a hF=>xB 1 [(26,.bool false)] hF fun a hF=>wl (xL 27 4 0 (v:=iv oc) hF hM fun a w hF hM=>wl (xP 28 (v0:=.bool (decide (1542 < oc))) (v:=.bool false) hF (bF (by omega)) fun a hF=>xB 3 [(29,.bool false),(30,.bool false),(31,iv bg)] hF fun a hF=>wl (xP 32 (v0:=.bool (decide (bg < 0))) (v:=.bool false) hF (bF (by omega)) fun a hF=>?_))))))))
 refine xB 4 [(33,.bool false),(34,.bool false),(35,iv bg),(36,iv t)] hF fun a hF=>wl (xP 37 (v0:=.bool (decide (t < bg))) (v:=.bool false) hF (bF (by omega)) fun a hF=>xB 4 [(38,.bool false),(39,.bool false),(40,iv t),(41,iv bg)] hF fun a hF=>wl (xL 42 4 0 (v:=iv oc) hF hM fun a w hF hM=>xB 1 [(43,pt bb1 2)] hF fun a hF=>wl (xL 44 3 2 (v:=iv per) hF hM fun a w hF hM=>?_)))
 have hz1:84 ≤ oc * per ∧ oc * per ≤ 1542000:=mul_bd (84) (1542) (1) (1000) (by omega) (by omega) (by omega) (by omega) (by decide)
 refine wl (xP 45 (v0:=.int .i64 (IntKind.i64.wrap (oc * per))) (v:=iv (oc * per)) hF (wi (by omega)) fun a hF=>wl (xP 46 (v0:=.int .i64 (IntKind.i64.wrap (bg + oc * per))) (v:=iv (bg + oc * per)) hF (wi (by omega)) fun a hF=>wl (xP 47 (v0:=.bool (decide (bg + oc * per < t))) (v:=.bool false) hF (bF (by omega)) fun a hF=>xB 1 [(48,.bool false)] hF fun a hF=>wpList_nil (hK6 _ _ (xF hF (wp_skip (hK5 _ _ (wp_seq_k fun K7 hK7=>wp_region_lit (wl (xL 49 3 0 (v:=.agg #[.slice A ge.length gc,iv cyc,iv per,iv sh]) hF hM fun a w hF hM=>?_))))))))))
 refine xB 2 [(50,.slice Ah 8 hc),(51,.agg #[.slice A ge.length gc,iv cyc,iv per,iv sh,.slice Ah 8 hc])] hF fun a hF=>wl (xN 14 6 (t:=166) (fun b=>.pointer (some ⟨b,0,none⟩)) #[.slice none 0 0,iv 0,iv 0,iv 0,.slice none 0 0] hF hM fun bb4 a w hF hM=>?_)
 refine wl (xS 6 0 #[.slice A ge.length gc,iv cyc,iv per,iv sh,.slice Ah 8 hc] hF hM fun w hM=>wpList_nil (hK7 _ _ (wp_seq_k fun K8 hK8=>wp_region_lit (xB 2 [(52,iv t),(53,iv bg)] hF fun a hF=>wl (xP 54 (v0:=.int .i64 (IntKind.i64.wrap (t - bg))) (v:=iv (t - bg)) hF (wi (by omega)) fun a hF=>xB 2 [(55,pt bb4 0),(56,pt bb4 2)] hF fun a hF=>wl (xL 57 6 2 (v:=iv per) hF hM fun a w hF hM=>wl (xP 58 (v0:=.int .i64 (IntKind.i64.wrap (t - bg + per))) (v:=iv (t - bg + per)) hF (wi (by omega)) fun a hF=>wl (xP 59 (v0:=.int .i64 (IntKind.i64.wrap (t - bg + per - 1))) (v:=iv (t - bg + per - 1)) hF (wi (by omega)) fun a hF=>xB 2 [(60,pt bb4 0),(61,pt bb4 2)] hF fun a hF=>?_))))))))
 refine wl (xL 62 6 2 (v:=iv per) hF hM fun a w hF hM=>wl (xM 63 (v:=iv ((t - bg + per - 1) / per)) hF hM (yld_quo (t - bg + per - 1) per hF rfl (by kernel_rfl) (by kernel_rfl) (by kernel_rfl) (by omega) (qpos_i64 (by omega) (by omega) (by omega))) fun a w hF hM=>?_))
 have:=ediv_le_self_of (p:=t - bg + per - 1) (q:=per) (by omega) (by omega)
 refine wl (xP 64 (v0:=.int .i64 (if (t - bg + per - 1) / per > 64 then (t - bg + per - 1) / per else 64)) (v:=iv (max 64 ((t - bg + per - 1) / per))) hF (vi (max_if _ _)) fun a hF=>wl (xN 15 7 (t:=3) (fun b=>.pointer (some ⟨b,0,none⟩)) #[iv 0] hF hM fun bb5 a w hF hM=>?_))
 refine wl (xS 7 0 #[iv (max 64 ((t - bg + per - 1) / per))] hF hM fun w hM=>wpList_nil (hK8 _ _ (wp_seq_k fun K9 hK9=>wp_seq_k fun K10 hK10=>wp_region_lit (wl (xL 65 4 0 (v:=iv oc) hF hM fun a w hF hM=>wl (xL 66 7 0 (v:=iv (max 64 ((t - bg + per - 1) / per))) hF hM fun a w hF hM=>wl (xP 67 (v0:=.int .i64 (IntKind.i64.wrap (oc - max 64 ((t - bg + per - 1) / per)))) (v:=iv (oc - max 64 ((t - bg + per - 1) / per))) hF (wi (by omega)) fun a hF=>xB 1 [(68,.bool (decide (oc - max 64 ((t - bg + per - 1) / per) < 64)))] hF fun a hF=>wpList_nil (hK10 _ _ ?_))))))))
 by_cases hz2:oc - max 64 ((t - bg + per - 1) / per) < 64
 ·replace hF:=hF.c hF (i:=68) (v:=.bool true) rfl (bT hz2)
  refine xT hF (wp_seq_k fun K11 hK11=>wp_region_lit (wl (xS 5 0 #[iv 0] hF hM fun w hM=>xB 2 [(11,iv 0),(12,iv 4)] hF fun a hF=>wpList_nil (hK11 _ _ (wp_ret (hR0 _ _ (ret_of hF hM (.cell (i:=5) rfl rfl (v:=iv 0) (by kernel_rfl) (.tmp rfl (.tmp rfl (.nil)))) ?_)))))))
  have hx:¬ prP ge cyc per sh h oc bg t:=fun z=>by have:=z.1; unfold prK at this; omega
  exact ⟨ret_eq (by rw [if_neg hx,if_neg hx,if_neg hx]; rfl),hM.bel⟩
 replace hF:=hF.c hF (i:=68) (v:=.bool false) rfl (bF hz2)
 refine xF hF (wp_skip (hK9 _ _ (wp_seq_k fun K12 hK12=>wp_region_lit (xB 1 [(69,iv bg)] hF fun a hF=>wl (xL 70 7 0 (v:=iv (max 64 ((t - bg + per - 1) / per))) hF hM fun a w hF hM=>wl (xP 71 (v0:=.int .i64 (IntKind.i64.wrap (max 64 ((t - bg + per - 1) / per) + 24))) (v:=iv (max 64 ((t - bg + per - 1) / per) + 24)) hF (wi (by omega)) fun a hF=>xB 2 [(72,pt bb4 0),(73,pt bb4 2)] hF fun a hF=>wl (xL 74 6 2 (v:=iv per) hF hM fun a w hF hM=>?_)))))))
 have hz3:88 ≤ (max 64 ((t - bg + per - 1) / per) + 24) * per ∧ (max 64 ((t - bg + per - 1) / per) + 24) * per ≤ 1502000:=mul_bd (88) (1502) (1) (1000) (by omega) (by omega) (by omega) (by omega) (by decide)
 refine wl (xP 75 (v0:=.int .i64 (IntKind.i64.wrap ((max 64 ((t - bg + per - 1) / per) + 24) * per))) (v:=iv ((max 64 ((t - bg + per - 1) / per) + 24) * per)) hF (wi (by omega)) fun a hF=>wl (xP 76 (v0:=.int .i64 (IntKind.i64.wrap (bg + (max 64 ((t - bg + per - 1) / per) + 24) * per))) (v:=iv (bg + (max 64 ((t - bg + per - 1) / per) + 24) * per)) hF (wi (by omega)) fun a hF=>wl (xS 5 0 #[iv (bg + (max 64 ((t - bg + per - 1) / per) + 24) * per)] hF hM fun w hM=>wpList_nil (hK12 _ _ (wp_seq_k fun K13 hK13=>wp_region_lit (xB 1 [(78,.func (.func 96) #[] #[pt bb4 0,pt bb3 0,pt bb2 0,pt bb5 0])] hF fun a hF=>wl (sC (f:=95) (args:=#[iv 6,.func (.func 96) #[] #[pt bb4 0,pt bb3 0,pt bb2 0,pt bb5 0]]) hF (by kernel_rfl) rfl (by decide) (by kernel_rfl) (fun _=>by kernel_rfl) (enterKM 25 Tryz.func95 rfl rfl rfl ?_))))))))
 intro a1 hF1 QR14 hR14 hNR14
 refine wp_seq_k fun K15 hK15=>wp_region_lit (wl (xN 3 8 (t:=177) (fun b=>.pointer (some ⟨b,0,none⟩)) #[.func (.func 96) #[] #[pt bb4 0,pt bb3 0,pt bb2 0,pt bb5 0]] hF1 hM fun bb6 a1 w hF1 hM=>wl (xN 4 9 (t:=174) (fun b=>.pointer (some ⟨b,0,none⟩)) #[iv 0,iv 0] hF1 hM fun bb7 a1 w hF1 hM=>xB 1 [(5,iv 0)] hF1 fun a1 hF1=>wpList_nil (hK15 _ _ (wp_scope_straight (wp_seq_k fun K16 hK16=>wp_region_lit (wl (xN 6 10 (t:=174) (fun b=>.pointer (some ⟨b,0,none⟩)) #[iv 0,iv 0] hF1 hM fun bb8 a1 w hF1 hM=>wpList_nil ?_))))))))
 refine hK16 _ _ (wp_seq_k fun K17 hK17=>wp_region_lit (wl (xN 7 11 (t:=36) (fun b=>.pointer (some ⟨b,0,none⟩)) #[iv 0] hF1 hM fun bb9 a1 w hF1 hM=>?_)))
 refine wl (xS 11 0 #[iv 4] hF1 hM fun w hM=>wpList_nil (hK17 _ _ (wp_seq_k fun K18 hK18=>wp_label (hK18 _ _ (wp_seq_k fun K19 hK19=>wp_seq_k fun K20 hK20=>wp_region_lit (xB 1 [(11,iv 6)] hF1 fun a1 hF1=>wl (sC (f:=100) (args:=#[iv 6]) hF1 (by kernel_rfl) rfl (by decide) (by kernel_rfl) (fun _=>by kernel_rfl) (enterK 4 Tryz.func100 rfl rfl rfl ?_))))))))
 intro a2 hF2 QR21 hR21 hNR21
 refine wp_seq_k fun K22 hK22=>wp_region_lit (wl (xN 1 12 (t:=3) (fun b=>.pointer (some ⟨b,0,none⟩)) #[iv 6] hF2 hM fun bb10 a2 w hF2 hM=>xB 1 [(2,.nilFunc)] hF2 fun a2 hF2=>wpList_nil (hK22 _ _ (wp_seq_k fun K23 hK23=>wp_region_lit (xB 2 [(3,.func (.func 115) #[] #[pt bb10 0]),(2,.func (.func 115) #[] #[pt bb10 0])] hF2 fun a2 hF2=>wpList_nil (hK23 _ _ (wp_ret ?_)))))))
 refine hR21 _ _ (ret_of hF2 hM (.tmp rfl (.nil)) ⟨_,rfl,?_⟩)
 intro a1 hF1
 refine wpList_nil (hK20 _ _ (wp_block (rangeK (gf:=115) (lb:=#[pt bb10 0]) 9 13 14 hF1 hM (by kernel_rfl) (by kernel_rfl) (enters_of Tryz.func115 (by kernel_rfl) rfl) fun fn11 DD11 ll11 OO11 hO11 w hM=>enterKQ 13 Tryz.func115 rfl rfl rfl ?_)))
 intro a2 hF2 QR24 hR24 hNR24 hqR24
 refine wp_seq_k fun K25 hK25=>wp_region_lit (xB 1 [(3,iv 7)] hF2 fun a2 hF2=>wpList_nil (hK25 _ _ (wp_block (wp_loop_k (G:=Nat) (fun gg a w=>Fr 13 [(3,some (iv (7 - (gg:Int)))),(0,some (.func (.yield ll11) #[] #[])),(1,some (pt bb10 0))] a ∧ Mem w0.heap.size w0 [(1,some (.ro A (flat2 ge))),(2,some (.ro Ah (flatE pE h))),(3,some (.row bb1 45 #[.slice A ge.length gc,iv cyc,iv per,iv sh])),(4,some (.row bb2 3 #[iv oc])),(5,some (.row bb3 3 #[iv (bg + (max 64 ((t - bg + per - 1) / per) + 24) * per)])),(6,some (.row bb4 166 #[.slice A ge.length gc,iv cyc,iv per,iv sh,.slice Ah 8 hc])),(7,some (.row bb5 3 #[iv (max 64 ((t - bg + per - 1) / per))])),(8,some (.row bb6 177 #[.func (.func 96) #[] #[pt bb4 0,pt bb3 0,pt bb2 0,pt bb5 0]])),(9,some (.row bb7 174 #[iv 0,iv 0])),(10,some (.row bb8 174 #[iv 0,iv 0])),(11,some (.row bb9 36 #[iv 4])),(12,some (.row bb10 3 #[iv 6])),(13,some (.obj DD11 (.deferred (some [])))),(14,some (.obj ll11 (OO11 .ready none)))] w ∧ ((gg:Int) ≤ 2) ∧ (∀ c,7 - gg < c → c ≤ 7 → ¬ (¬ zH h c ∧ fitP ge cyc per sh h c (prE per bg t)))) (fun gg=>2 - gg) (0) ?_ ?_))))
 ·refine ⟨((((Fr.nil hF2).c hF2 (i:=1) rfl rfl).c hF2 (i:=0) rfl rfl).c hF2 (i:=3) rfl (vi (show (7:Int)=7 - (0:Int) from by omega))),(hM.sub ((((((((((((((Sub.nil.c (k:=14) rfl rfl).c (k:=13) rfl rfl).c (k:=12) rfl rfl).c (k:=11) rfl rfl).c (k:=10) rfl rfl).c (k:=9) rfl rfl).c (k:=8) rfl rfl).c (k:=7) rfl rfl).c (k:=6) rfl rfl).c (k:=5) rfl rfl).c (k:=4) rfl rfl).c (k:=3) rfl rfl).c (k:=2) rfl rfl).c (k:=1) rfl rfl)),(show (0:Int) ≤ 2 from by omega),(show ∀ c,7 - 0 < c → c ≤ 7 → ¬ (¬ zH h c ∧ fitP ge cyc per sh h c (prE per bg t)) from by exact fun c h1 h2=>by omega)⟩
 intro gg a2 w hI
 intro K26 hK26
 obtain ⟨j,rfl⟩:∃ x,x=gg:=⟨_,rfl⟩
 try dsimp only at hI hK26
 obtain ⟨hF2,hM,hz4,hz5⟩:=hI
 refine wp_seq_k fun K27 hK27=>wp_seq_k fun K28 hK28=>wp_region_lit (xB 1 [(4,iv (7 - (j:Int)))] hF2 fun a2 hF2=>wl (xL 5 12 0 (v:=iv 6) hF2 hM fun a2 w hF2 hM=>xB 1 [(6,.bool (decide (6 ≤ 7 - (j:Int))))] hF2 fun a2 hF2=>wpList_nil (hK28 _ _ ?_)))
 by_cases hz6:6 ≤ 7 - (j:Int)
 ·replace hF2:=hF2.c hF2 (i:=6) (v:=.bool true) rfl (bT hz6)
  refine xT hF2 (wp_skip (hK27 _ _ (wp_seq_k fun K29 hK29=>wp_block (wp_seq_k fun K30 hK30=>(wpIn_wide (n:=9)).1 (wpR_region (wr (xP 9 (v0:=.func (.yield ll11) #[] #[]) (v:=.func (.yield ll11) #[] #[]) hF2 rfl fun a2 hF2=>wr (xP 10 (v0:=iv (7 - (j:Int))) (v:=iv (7 - (j:Int))) hF2 rfl fun a2 hF2=>sYield (n:=13) (d:=11) (args:=#[iv (7 - (j:Int))]) 14 hF2 OO11 hO11 hM (by kernel_rfl) rfl (by decide) (by kernel_rfl) rfl (fun _=>by kernel_rfl) rfl rfl fun KB31 QB31 hB31 hBn31 hBe31 hBr31 hqB31=>?_) hqR24 rfl) hqR24 rfl))))))
  have hF3:=hF1.round1 (p:=13) (by decide) (iv (7 - (j:Int)))
  refine wpR_region (wr (xP 8 (v0:=iv (7 - (j:Int))) (v:=iv (7 - (j:Int))) hF3 rfl fun a3 hF3=>wpLi_nil (hB31 _ _ _ hM rfl fun w hM=>wpIn_block (wpIn_seq_k fun K32 hK32=>wpR_region (wr (xL 15 8 0 (v:=.func (.func 96) #[] #[pt bb4 0,pt bb3 0,pt bb2 0,pt bb5 0]) hF3 hM fun a3 w hF3 hM=>wr (xP 16 (v0:=iv (7 - (j:Int))) (v:=iv (7 - (j:Int))) hF3 rfl fun a3 hF3=>wr (sC (f:=96) (args:=#[iv (7 - (j:Int)),pt bb4 0,pt bb3 0,pt bb2 0,pt bb5 0]) hF3 (by kernel_rfl) rfl (by decide) (by kernel_rfl) (fun _=>by kernel_rfl) (enterK 26 Tryz.func96 rfl rfl rfl ?_)) hqB31 rfl) hqB31 rfl) hqB31 rfl)))) (fun ⟨_,_,h⟩=>h) rfl)
  intro a4 hF4 QR33 hR33 hNR33
  refine wp_seq_k fun K34 hK34=>wp_region_lit (wl (xN 6 15 (t:=174) (fun b=>.pointer (some ⟨b,0,none⟩)) #[iv 0,iv 0] hF4 hM fun bb12 a4 w hF4 hM=>xB 1 [(7,iv 0)] hF4 fun a4 hF4=>wpList_nil (hK34 _ _ (wp_seq_k fun K35 hK35=>wp_seq_k fun K36 hK36=>?_))))
  by_cases hz7:zH h (7 - j)
  ·refine wp_region_lit (wl (xL 8 6 0 (v:=.agg #[.slice A ge.length gc,iv cyc,iv per,iv sh,.slice Ah 8 hc]) hF4 hM fun a4 w hF4 hM=>xB 1 [(9,iv (7 - (j:Int)))] hF4 fun a4 hF4=>wl (xM 10 (v:=.bool false) hF4 hM (Yld.to (xC 97 #[.agg #[.slice A ge.length gc,iv cyc,iv per,iv sh,.slice Ah 8 hc],iv (7 - (j:Int))] hF4 (fun w hM=>by have:=full_w A ge gc cyc per sh Ah h hc (7 - j) w (hM.ok 1 _ rfl) hga ⟨hp1,hp2,hs1,hs2⟩ (hM.ok 2 _ rfl) hh (by omega); rw [show (((7 - j:Nat)):Int)=7 - (j:Int) by omega] at this; exact this)) (nT hz7)) fun a4 w hF4 hM=>xB 8 [(11,.bool true),(12,.bool true),(13,undef),(14,undef),(15,undef),(16,undef),(17,undef),(18,.bool true)] hF4 fun a4 hF4=>wpList_nil (hK36 _ _ (xT hF4 (wp_seq_k fun K37 hK37=>wp_region_lit (xB 1 [(19,.agg #[iv 0,iv 0])] hF4 fun a4 hF4=>wl (xS 15 0 #[iv 0,iv 0] hF4 hM fun w hM=>?_))))))))
   refine xB 1 [(7,iv 4)] hF4 fun a4 hF4=>wpList_nil (hK37 _ _ (wp_ret (hR33 _ _ (ret_of hF4 hM (.cell (i:=15) rfl rfl (v:=.agg #[iv 0,iv 0]) (by kernel_rfl) (.tmp rfl (.nil))) ⟨_,rfl,?_⟩))))
   intro a3 hF3
   refine wr (xP 14 (v0:=.tuple #[.agg #[iv 0,iv 0],iv 4]) (v:=.tuple #[.agg #[iv 0,iv 0],iv 4]) hF3 rfl fun a3 hF3=>wr (xP 18 (v0:=.agg #[iv 0,iv 0]) (v:=.agg #[iv 0,iv 0]) hF3 rfl fun a3 hF3=>wr (xP 19 (v0:=iv 4) (v:=iv 4) hF3 rfl fun a3 hF3=>wr (xN 9 16 (t:=174) (fun b=>.pointer (some ⟨b,0,none⟩)) #[iv 0,iv 0] hF3 hM fun bb13 a3 w hF3 hM=>?_) hqB31 rfl) hqB31 rfl) hqB31 rfl) hqB31 rfl
   refine wr (xS 16 0 #[iv 0,iv 0] hF3 hM fun w hM=>wr (xP 10 (v0:=iv 4) (v:=iv 4) hF3 rfl fun a3 hF3=>wpLi_nil (hK32 _ _ (wpIn_seq_k fun K38 hK38=>wpR_region (wr (xP 20 (v0:=iv 4) (v:=iv 4) hF3 rfl fun a3 hF3=>wr (xP 21 (v0:=.bool (decide (4=0))) (v:=.bool false) hF3 (bF (by omega)) fun a3 hF3=>wpLi_nil (hK38 _ _ (cFi hF3 (by kernel_rfl) (by kernel_rfl) (wpIn_skip ?_)))) hqB31 rfl) hqB31 rfl)))) hqB31 rfl) hqB31 rfl
   refine hBn31 _ _ _ hM rfl fun a2 w hF2 hM=>wr (xP 12 (v0:=.bool false) (v:=.bool false) hF2 rfl fun a2 hF2=>wpLi_nil (hK30 _ _ (xF hF2 (wp_skip (hK29 _ _ (wp_region_lit (xB 1 [(7,iv (7 - (j:Int)))] hF2 fun a2 hF2=>wl (xP 8 (v0:=.int .i64 (IntKind.i64.wrap (7 - (j:Int) - 1))) (v:=iv (7 - (j:Int) - 1)) hF2 (wi (by omega)) fun a2 hF2=>xB 1 [(3,iv (7 - (j:Int) - 1))] hF2 fun a2 hF2=>wpList_nil ?_)))))))) hqR24 rfl
   refine hK26 _ _ ⟨(j + 1),⟨((((Fr.nil hF2).c hF2 (i:=1) rfl rfl).c hF2 (i:=0) rfl rfl).c hF2 (i:=3) rfl (vi (show (7 - (j:Int) - 1:Int)=7 - ((j + 1):Int) from by omega))),(hM.sub ((((((((((((((Sub.nil.c (k:=14) rfl rfl).c (k:=13) rfl rfl).c (k:=12) rfl rfl).c (k:=11) rfl rfl).c (k:=10) rfl rfl).c (k:=9) rfl rfl).c (k:=8) rfl rfl).c (k:=7) rfl rfl).c (k:=6) rfl rfl).c (k:=5) rfl rfl).c (k:=4) rfl rfl).c (k:=3) rfl rfl).c (k:=2) rfl rfl).c (k:=1) rfl rfl)),(show ((j + 1):Int) ≤ 2 from by omega),(show ∀ c,7 - (j + 1) < c → c ≤ 7 → ¬ (¬ zH h c ∧ fitP ge cyc per sh h c (prE per bg t)) from by exact fun c h1 h2=>by by_cases e:c=7 - j; (subst e; exact fun z=>by first | exact z.1 (by assumption) | exact absurd z.2 (by assumption)); exact ‹∀ c,7 - j < c → c ≤ 7 → ¬ (¬ zH h c ∧ fitP ge cyc per sh h c (prE per bg t))› c (by omega) h2)⟩,(show 2 - (j + 1) < 2 - j from by omega)⟩
  refine wp_region_lit (wl (xL 8 6 0 (v:=.agg #[.slice A ge.length gc,iv cyc,iv per,iv sh,.slice Ah 8 hc]) hF4 hM fun a4 w hF4 hM=>xB 1 [(9,iv (7 - (j:Int)))] hF4 fun a4 hF4=>wl (xM 10 (v:=.bool true) hF4 hM (Yld.to (xC 97 #[.agg #[.slice A ge.length gc,iv cyc,iv per,iv sh,.slice Ah 8 hc],iv (7 - (j:Int))] hF4 (fun w hM=>by have:=full_w A ge gc cyc per sh Ah h hc (7 - j) w (hM.ok 1 _ rfl) hga ⟨hp1,hp2,hs1,hs2⟩ (hM.ok 2 _ rfl) hh (by omega); rw [show (((7 - j:Nat)):Int)=7 - (j:Int) by omega] at this; exact this)) (nF hz7)) fun a4 w hF4 hM=>xB 2 [(11,.bool false),(12,.bool false)] hF4 fun a4 hF4=>wl (xL 13 6 0 (v:=.agg #[.slice A ge.length gc,iv cyc,iv per,iv sh,.slice Ah 8 hc]) hF4 hM fun a4 w hF4 hM=>xB 1 [(14,iv (7 - (j:Int)))] hF4 fun a4 hF4=>wl (xL 15 5 0 (v:=iv (bg + (max 64 ((t - bg + per - 1) / per) + 24) * per)) hF4 hM fun a4 w hF4 hM=>wl (xM 16 (v:=.bool (decide (fitP ge cyc per sh h (7 - j) (bg + (max 64 ((t - bg + per - 1) / per) + 24) * per)))) hF4 hM (xC 98 #[.agg #[.slice A ge.length gc,iv cyc,iv per,iv sh,.slice Ah 8 hc],iv (7 - (j:Int)),iv (bg + (max 64 ((t - bg + per - 1) / per) + 24) * per)] hF4 (fun w hM=>by have:=fits_w A ge gc cyc per sh Ah h hc (7 - j) (bg + (max 64 ((t - bg + per - 1) / per) + 24) * per) w (hM.ok 1 _ rfl) hga ⟨hp1,hp2,hs1,hs2⟩ (hM.ok 2 _ rfl) hh (by omega) (by omega); rw [show (((7 - j:Nat)):Int)=7 - (j:Int) by omega] at this; exact this)) fun a4 w hF4 hM=>?_))))))
  refine xB 2 [(17,.bool (!decide (fitP ge cyc per sh h (7 - j) (bg + (max 64 ((t - bg + per - 1) / per) + 24) * per)))),(18,.bool (!decide (fitP ge cyc per sh h (7 - j) (bg + (max 64 ((t - bg + per - 1) / per) + 24) * per))))] hF4 fun a4 hF4=>wpList_nil (hK36 _ _ ?_)
  by_cases hz8:fitP ge cyc per sh h (7 - j) (bg + (max 64 ((t - bg + per - 1) / per) + 24) * per)
  ·replace hF4:=hF4.c hF4 (i:=16) (v:=.bool true) rfl (bT hz8)
   replace hF4:=hF4.c hF4 (i:=17) (v:=.bool false) rfl (nT hz8)
   replace hF4:=hF4.c hF4 (i:=18) (v:=.bool false) rfl (nT hz8)
   refine xF hF4 (wp_skip (hK35 _ _ (wp_seq_k fun K39 hK39=>wp_region_lit (wl (xL 20 5 0 (v:=iv (bg + (max 64 ((t - bg + per - 1) / per) + 24) * per)) hF4 hM fun a4 w hF4 hM=>wl (xL 21 4 0 (v:=iv oc) hF4 hM fun a4 w hF4 hM=>wl (xL 22 7 0 (v:=iv (max 64 ((t - bg + per - 1) / per))) hF4 hM fun a4 w hF4 hM=>wl (xP 23 (v0:=.int .i64 (IntKind.i64.wrap (oc - max 64 ((t - bg + per - 1) / per)))) (v:=iv (oc - max 64 ((t - bg + per - 1) / per))) hF4 (wi (by omega)) fun a4 hF4=>wl (xP 24 (v0:=.int .i64 (IntKind.i64.wrap (oc - max 64 ((t - bg + per - 1) / per) + 24))) (v:=iv (oc - max 64 ((t - bg + per - 1) / per) + 24)) hF4 (wi (by omega)) fun a4 hF4=>xB 1 [(25,.agg #[iv (bg + (max 64 ((t - bg + per - 1) / per) + 24) * per),iv (oc - max 64 ((t - bg + per - 1) / per) + 24)])] hF4 fun a4 hF4=>wl (xS 15 0 #[iv (bg + (max 64 ((t - bg + per - 1) / per) + 24) * per),iv (oc - max 64 ((t - bg + per - 1) / per) + 24)] hF4 hM fun w hM=>?_))))))))))
   refine xB 1 [(7,iv 0)] hF4 fun a4 hF4=>wpList_nil (hK39 _ _ (wp_ret (hR33 _ _ (ret_of hF4 hM (.cell (i:=15) rfl rfl (v:=.agg #[iv (bg + (max 64 ((t - bg + per - 1) / per) + 24) * per),iv (oc - max 64 ((t - bg + per - 1) / per) + 24)]) (by kernel_rfl) (.tmp rfl (.nil))) ⟨_,rfl,?_⟩))))
   intro a3 hF3
   refine wr (xP 14 (v0:=.tuple #[.agg #[iv (bg + (max 64 ((t - bg + per - 1) / per) + 24) * per),iv (oc - max 64 ((t - bg + per - 1) / per) + 24)],iv 0]) (v:=.tuple #[.agg #[iv (bg + (max 64 ((t - bg + per - 1) / per) + 24) * per),iv (oc - max 64 ((t - bg + per - 1) / per) + 24)],iv 0]) hF3 rfl fun a3 hF3=>wr (xP 18 (v0:=.agg #[iv (bg + (max 64 ((t - bg + per - 1) / per) + 24) * per),iv (oc - max 64 ((t - bg + per - 1) / per) + 24)]) (v:=.agg #[iv (bg + (max 64 ((t - bg + per - 1) / per) + 24) * per),iv (oc - max 64 ((t - bg + per - 1) / per) + 24)]) hF3 rfl fun a3 hF3=>wr (xP 19 (v0:=iv 0) (v:=iv 0) hF3 rfl fun a3 hF3=>wr (xN 9 17 (t:=174) (fun b=>.pointer (some ⟨b,0,none⟩)) #[iv 0,iv 0] hF3 hM fun bb14 a3 w hF3 hM=>?_) hqB31 rfl) hqB31 rfl) hqB31 rfl) hqB31 rfl
   refine wr (xS 17 0 #[iv (bg + (max 64 ((t - bg + per - 1) / per) + 24) * per),iv (oc - max 64 ((t - bg + per - 1) / per) + 24)] hF3 hM fun w hM=>wr (xP 10 (v0:=iv 0) (v:=iv 0) hF3 rfl fun a3 hF3=>wpLi_nil (hK32 _ _ (wpIn_seq_k fun K40 hK40=>wpR_region (wr (xP 20 (v0:=iv 0) (v:=iv 0) hF3 rfl fun a3 hF3=>wr (xP 21 (v0:=.bool (decide (0=0))) (v:=.bool true) hF3 (bT (by omega)) fun a3 hF3=>wpLi_nil (hK40 _ _ (cTi hF3 (by kernel_rfl) (by kernel_rfl) (wpIn_seq_k fun K41 hK41=>?_)))) hqB31 rfl) hqB31 rfl)))) hqB31 rfl) hqB31 rfl
   refine wpR_region (wr (xL 22 17 0 (v:=.agg #[iv (bg + (max 64 ((t - bg + per - 1) / per) + 24) * per),iv (oc - max 64 ((t - bg + per - 1) / per) + 24)]) hF3 hM fun a3 w hF3 hM=>wr (xS 10 0 #[iv (bg + (max 64 ((t - bg + per - 1) / per) + 24) * per),iv (oc - max 64 ((t - bg + per - 1) / per) + 24)] hF3 hM fun w hM=>wr (xS 11 0 #[iv 0] hF3 hM fun w hM=>wpLi_nil (hK41 _ _ (wpIn_exit (hBe31 0 _ _ _ hM rfl fun a2 w hF2 hM=>wr (xP 12 (v0:=.bool true) (v:=.bool true) hF2 rfl fun a2 hF2=>wpLi_nil (hK30 _ _ (xT hF2 ?_))) hqR24 rfl)))) hqB31 rfl) hqB31 rfl) hqB31 rfl)
   refine wp_ret (hR24 _ _ (ret_of hF2 hM (.nil) (rangeEndJ (kl:=14) OO11 hO11 hM rfl (by decide) fun w hM=>?_)))
   replace hF1:=hF1.defer { target:=.collected DD11,args:=#[] }
   refine wp_exit (hK19 _ _ (wp_seq_k fun K42 hK42=>rF (by kernel_rfl) (by kernel_rfl) (fun S a w=>Fr (⟨25,[{ target:=.collected DD11,args:=#[] }]⟩:NF) [(4,some (pt bb7 0)),(5,(cond (S.getD 3 false) (some (iv 0)) (some (iv 0)))),(6,some (pt bb8 0)),(7,some (pt bb9 0)),(23,(cond (S.getD 0 false) (some (.agg #[iv (bg + (max 64 ((t - bg + per - 1) / per) + 24) * per),iv (oc - max 64 ((t - bg + per - 1) / per) + 24)])) none)),(24,(cond (S.getD 1 false) (some (iv 0)) none))] a ∧ Mem w0.heap.size w0 [(1,some (.ro A (flat2 ge))),(2,some (.ro Ah (flatE pE h))),(3,some (.row bb1 45 #[.slice A ge.length gc,iv cyc,iv per,iv sh])),(4,some (.row bb2 3 #[iv oc])),(5,some (.row bb3 3 #[iv (bg + (max 64 ((t - bg + per - 1) / per) + 24) * per)])),(6,some (.row bb4 166 #[.slice A ge.length gc,iv cyc,iv per,iv sh,.slice Ah 8 hc])),(7,some (.row bb5 3 #[iv (max 64 ((t - bg + per - 1) / per))])),(9,(cond (S.getD 2 false) (some (.row bb7 174 #[iv (bg + (max 64 ((t - bg + per - 1) / per) + 24) * per),iv (oc - max 64 ((t - bg + per - 1) / per) + 24)])) (some (.row bb7 174 #[iv 0,iv 0])))),(10,some (.row bb8 174 #[iv (bg + (max 64 ((t - bg + per - 1) / per) + 24) * per),iv (oc - max 64 ((t - bg + per - 1) / per) + 24)])),(11,some (.row bb9 36 #[iv 0])),(13,some (.obj DD11 (.deferred (some [])))),(14,some (.obj ll11 (OO11 .exhausted (some (.exit 0)))))] w) ?_ ?_ ?_))
   ·exact ⟨hF1.pk,hM.dk⟩
   ·refine stC ?_ (stC ?_ (stC ?_ (stC ?_ (trivial))))
    ·intro s0 s1 s2 s3 hc hi hp a w hS
     obtain rfl:s0=false:=hi
     obtain ⟨hF1,hM⟩:=hS
     refine xL 23 10 0 (v:=.agg #[iv (bg + (max 64 ((t - bg + per - 1) / per) + 24) * per),iv (oc - max 64 ((t - bg + per - 1) / per) + 24)]) hF1 hM fun a1 w hF1 hM=>⟨hF1.rc 4,hM.k⟩
    ·intro s0 s1 s2 s3 hc hi hp a w hS
     obtain rfl:s1=false:=hi
     obtain ⟨hF1,hM⟩:=hS
     refine xL 24 11 0 (v:=iv 0) hF1 hM fun a1 w hF1 hM=>⟨hF1.rc 5,hM.k⟩
    ·intro s0 s1 s2 s3 hc hi hp a w hS
     obtain rfl:s2=false:=hi
     obtain rfl:s0=true:=hp 0 (by kernel_rfl)
     obtain ⟨hF1,hM⟩:=hS
     refine xS 9 0 #[iv (bg + (max 64 ((t - bg + per - 1) / per) + 24) * per),iv (oc - max 64 ((t - bg + per - 1) / per) + 24)] hF1 hM fun w hM=>⟨hF1.k,hM.rc 7⟩
    intro s0 s1 s2 s3 hc hi hp a w hS
    obtain rfl:s3=false:=hi
    obtain rfl:s1=true:=hp 1 (by kernel_rfl)
    obtain ⟨hF1,hM⟩:=hS
    refine xP 5 (v0:=iv 0) (v:=iv 0) hF1 rfl fun a1 hF1=>⟨hF1.rc 1,hM.k⟩
   intro a1 w hS
   obtain ⟨hF1,hM⟩:=hS
   replace hF1:Fr (⟨25,[{ target:=.collected DD11,args:=#[] }]⟩:NF) [(4,some (pt bb7 0)),(5,some (iv 0)),(6,some (pt bb8 0)),(7,some (pt bb9 0)),(23,some (.agg #[iv (bg + (max 64 ((t - bg + per - 1) / per) + 24) * per),iv (oc - max 64 ((t - bg + per - 1) / per) + 24)])),(24,some (iv 0))] a1:=hF1.cast (by kernel_rfl)
   replace hM:Mem w0.heap.size w0 [(1,some (.ro A (flat2 ge))),(2,some (.ro Ah (flatE pE h))),(3,some (.row bb1 45 #[.slice A ge.length gc,iv cyc,iv per,iv sh])),(4,some (.row bb2 3 #[iv oc])),(5,some (.row bb3 3 #[iv (bg + (max 64 ((t - bg + per - 1) / per) + 24) * per)])),(6,some (.row bb4 166 #[.slice A ge.length gc,iv cyc,iv per,iv sh,.slice Ah 8 hc])),(7,some (.row bb5 3 #[iv (max 64 ((t - bg + per - 1) / per))])),(9,some (.row bb7 174 #[iv (bg + (max 64 ((t - bg + per - 1) / per) + 24) * per),iv (oc - max 64 ((t - bg + per - 1) / per) + 24)])),(10,some (.row bb8 174 #[iv (bg + (max 64 ((t - bg + per - 1) / per) + 24) * per),iv (oc - max 64 ((t - bg + per - 1) / per) + 24)])),(11,some (.row bb9 36 #[iv 0])),(13,some (.obj DD11 (.deferred (some [])))),(14,some (.obj ll11 (OO11 .exhausted (some (.exit 0)))))] w:=hM.cast (by kernel_rfl)
   refine hK42 _ _ (wp_ret (hR14 _ _ (retM1 (kD:=13) hF1 hM rfl (.cell (i:=9) rfl rfl (v:=.agg #[iv (bg + (max 64 ((t - bg + per - 1) / per) + 24) * per),iv (oc - max 64 ((t - bg + per - 1) / per) + 24)]) (by kernel_rfl) (.tmp rfl (.nil))) fun w hM=>⟨_,rfl,?_⟩)))
   intro a hF
   refine xB 3 [(77,.tuple #[.agg #[iv (bg + (max 64 ((t - bg + per - 1) / per) + 24) * per),iv (oc - max 64 ((t - bg + per - 1) / per) + 24)],iv 0]),(80,.agg #[iv (bg + (max 64 ((t - bg + per - 1) / per) + 24) * per),iv (oc - max 64 ((t - bg + per - 1) / per) + 24)]),(81,iv 0)] hF fun a hF=>wl (xN 16 18 (t:=174) (fun b=>.pointer (some ⟨b,0,none⟩)) #[iv 0,iv 0] hF hM fun bb15 a w hF hM=>?_)
   refine wl (xS 18 0 #[iv (bg + (max 64 ((t - bg + per - 1) / per) + 24) * per),iv (oc - max 64 ((t - bg + per - 1) / per) + 24)] hF hM fun w hM=>xB 1 [(12,iv 0)] hF fun a hF=>wpList_nil (hK13 _ _ (wp_seq_k fun K43 hK43=>rF (by kernel_rfl) (by kernel_rfl) (fun S a w=>Fr 87 [(10,some (pt bb3 0)),(11,(cond (S.getD 6 false) (some (iv (oc - max 64 ((t - bg + per - 1) / per) + 24))) (some (iv 0)))),(12,(cond (S.getD 7 false) (some (iv 0)) (some (iv 0)))),(16,some (pt bb15 0)),(82,(cond (S.getD 0 false) (some (pt bb15 0)) none)),(83,(cond (S.getD 1 false) (some (iv (bg + (max 64 ((t - bg + per - 1) / per) + 24) * per))) none)),(84,(cond (S.getD 2 false) (some (pt bb15 1)) none)),(85,(cond (S.getD 3 false) (some (iv (oc - max 64 ((t - bg + per - 1) / per) + 24))) none)),(86,(cond (S.getD 4 false) (some (iv 0)) none))] a ∧ Mem w0.heap.size w0 [(1,some (.ro A (flat2 ge))),(2,some (.ro Ah (flatE pE h))),(5,(cond (S.getD 5 false) (some (.row bb3 3 #[iv (bg + (max 64 ((t - bg + per - 1) / per) + 24) * per)])) (some (.row bb3 3 #[iv (bg + (max 64 ((t - bg + per - 1) / per) + 24) * per)])))),(18,some (.row bb15 174 #[iv (bg + (max 64 ((t - bg + per - 1) / per) + 24) * per),iv (oc - max 64 ((t - bg + per - 1) / per) + 24)]))] w) ?_ ?_ ?_)))
   ·exact ⟨hF.pk,hM.dk⟩
   ·refine stC ?_ (stC ?_ (stC ?_ (stC ?_ (stC ?_ (stC ?_ (stC ?_ (stC ?_ (trivial))))))))
    ·intro s0 s1 s2 s3 s4 s5 s6 s7 hc hi hp a w hS
     obtain rfl:s0=false:=hi
     obtain ⟨hF,hM⟩:=hS
     refine xP 82 (v0:=pt bb15 0) (v:=pt bb15 0) hF rfl fun a hF=>⟨hF.rc 4,hM.k⟩
    ·intro s0 s1 s2 s3 s4 s5 s6 s7 hc hi hp a w hS
     obtain rfl:s1=false:=hi
     obtain rfl:s0=true:=hp 0 (by kernel_rfl)
     obtain ⟨hF,hM⟩:=hS
     refine xL 83 18 0 (v:=iv (bg + (max 64 ((t - bg + per - 1) / per) + 24) * per)) hF hM fun a w hF hM=>⟨hF.rc 5,hM.k⟩
    ·intro s0 s1 s2 s3 s4 s5 s6 s7 hc hi hp a w hS
     obtain rfl:s2=false:=hi
     obtain ⟨hF,hM⟩:=hS
     refine xP 84 (v0:=pt bb15 1) (v:=pt bb15 1) hF rfl fun a hF=>⟨hF.rc 6,hM.k⟩
    ·intro s0 s1 s2 s3 s4 s5 s6 s7 hc hi hp a w hS
     obtain rfl:s3=false:=hi
     obtain rfl:s2=true:=hp 2 (by kernel_rfl)
     obtain ⟨hF,hM⟩:=hS
     refine xL 85 18 1 (v:=iv (oc - max 64 ((t - bg + per - 1) / per) + 24)) hF hM fun a w hF hM=>⟨hF.rc 7,hM.k⟩
    ·intro s0 s1 s2 s3 s4 s5 s6 s7 hc hi hp a w hS
     obtain rfl:s4=false:=hi
     obtain rfl:s7=false:=hc.f 7 4 (by kernel_rfl) rfl
     obtain ⟨hF,hM⟩:=hS
     refine xP 86 (v0:=iv 0) (v:=iv 0) hF rfl fun a hF=>⟨hF.rc 8,hM.k⟩
    ·intro s0 s1 s2 s3 s4 s5 s6 s7 hc hi hp a w hS
     obtain rfl:s5=false:=hi
     obtain rfl:s1=true:=hp 1 (by kernel_rfl)
     obtain ⟨hF,hM⟩:=hS
     refine xS 5 0 #[iv (bg + (max 64 ((t - bg + per - 1) / per) + 24) * per)] hF hM fun w hM=>⟨hF.k,hM.rc 2⟩
    ·intro s0 s1 s2 s3 s4 s5 s6 s7 hc hi hp a w hS
     obtain rfl:s6=false:=hi
     obtain rfl:s3=true:=hp 3 (by kernel_rfl)
     obtain ⟨hF,hM⟩:=hS
     refine xP 11 (v0:=iv (oc - max 64 ((t - bg + per - 1) / per) + 24)) (v:=iv (oc - max 64 ((t - bg + per - 1) / per) + 24)) hF rfl fun a hF=>⟨hF.rc 1,hM.k⟩
    intro s0 s1 s2 s3 s4 s5 s6 s7 hc hi hp a w hS
    obtain rfl:s7=false:=hi
    obtain rfl:s4=true:=hp 4 (by kernel_rfl)
    obtain ⟨hF,hM⟩:=hS
    refine xP 12 (v0:=iv 0) (v:=iv 0) hF rfl fun a hF=>⟨hF.rc 2,hM.k⟩
   intro a w hS
   obtain ⟨hF,hM⟩:=hS
   replace hF:Fr 87 [(10,some (pt bb3 0)),(11,some (iv (oc - max 64 ((t - bg + per - 1) / per) + 24))),(12,some (iv 0)),(16,some (pt bb15 0)),(82,some (pt bb15 0)),(83,some (iv (bg + (max 64 ((t - bg + per - 1) / per) + 24) * per))),(84,some (pt bb15 1)),(85,some (iv (oc - max 64 ((t - bg + per - 1) / per) + 24))),(86,some (iv 0))] a:=hF.cast (by kernel_rfl)
   replace hM:Mem w0.heap.size w0 [(1,some (.ro A (flat2 ge))),(2,some (.ro Ah (flatE pE h))),(5,some (.row bb3 3 #[iv (bg + (max 64 ((t - bg + per - 1) / per) + 24) * per)])),(18,some (.row bb15 174 #[iv (bg + (max 64 ((t - bg + per - 1) / per) + 24) * per),iv (oc - max 64 ((t - bg + per - 1) / per) + 24)]))] w:=hM.cast (by kernel_rfl)
   refine hK43 _ _ (wp_ret (hR0 _ _ (ret_of hF hM (.cell (i:=5) rfl rfl (v:=iv (bg + (max 64 ((t - bg + per - 1) / per) + 24) * per)) (by kernel_rfl) (.tmp rfl (.tmp rfl (.nil)))) ?_)))
   have hx:prP ge cyc per sh h oc bg t:=⟨by unfold prK; omega,by have hz:¬ zH h (7 - j):=(by assumption); have hf:fitP ge cyc per sh h (7 - j) (prE per bg t):=(by assumption); rcases (show j=0 ∨ j=1 by omega) with rfl | rfl; exact .inl ⟨hz,hf⟩; exact .inr ⟨hz,hf⟩⟩
   exact ⟨ret_eq (by rw [if_pos hx,if_pos hx,if_pos hx]; rfl),hM.bel⟩
  replace hF4:=hF4.c hF4 (i:=16) (v:=.bool false) rfl (bF hz8)
  replace hF4:=hF4.c hF4 (i:=17) (v:=.bool true) rfl (nF hz8)
  replace hF4:=hF4.c hF4 (i:=18) (v:=.bool true) rfl (nF hz8)
  refine xT hF4 (wp_seq_k fun K44 hK44=>wp_region_lit (xB 1 [(19,.agg #[iv 0,iv 0])] hF4 fun a4 hF4=>wl (xS 15 0 #[iv 0,iv 0] hF4 hM fun w hM=>xB 1 [(7,iv 4)] hF4 fun a4 hF4=>wpList_nil (hK44 _ _ (wp_ret (hR33 _ _ (ret_of hF4 hM (.cell (i:=15) rfl rfl (v:=.agg #[iv 0,iv 0]) (by kernel_rfl) (.tmp rfl (.nil))) ⟨_,rfl,?_⟩)))))))
  intro a3 hF3
  refine wr (xP 14 (v0:=.tuple #[.agg #[iv 0,iv 0],iv 4]) (v:=.tuple #[.agg #[iv 0,iv 0],iv 4]) hF3 rfl fun a3 hF3=>wr (xP 18 (v0:=.agg #[iv 0,iv 0]) (v:=.agg #[iv 0,iv 0]) hF3 rfl fun a3 hF3=>wr (xP 19 (v0:=iv 4) (v:=iv 4) hF3 rfl fun a3 hF3=>wr (xN 9 19 (t:=174) (fun b=>.pointer (some ⟨b,0,none⟩)) #[iv 0,iv 0] hF3 hM fun bb16 a3 w hF3 hM=>?_) hqB31 rfl) hqB31 rfl) hqB31 rfl) hqB31 rfl
  refine wr (xS 19 0 #[iv 0,iv 0] hF3 hM fun w hM=>wr (xP 10 (v0:=iv 4) (v:=iv 4) hF3 rfl fun a3 hF3=>wpLi_nil (hK32 _ _ (wpIn_seq_k fun K45 hK45=>wpR_region (wr (xP 20 (v0:=iv 4) (v:=iv 4) hF3 rfl fun a3 hF3=>wr (xP 21 (v0:=.bool (decide (4=0))) (v:=.bool false) hF3 (bF (by omega)) fun a3 hF3=>wpLi_nil (hK45 _ _ (cFi hF3 (by kernel_rfl) (by kernel_rfl) (wpIn_skip ?_)))) hqB31 rfl) hqB31 rfl)))) hqB31 rfl) hqB31 rfl
  refine hBn31 _ _ _ hM rfl fun a2 w hF2 hM=>wr (xP 12 (v0:=.bool false) (v:=.bool false) hF2 rfl fun a2 hF2=>wpLi_nil (hK30 _ _ (xF hF2 (wp_skip (hK29 _ _ (wp_region_lit (xB 1 [(7,iv (7 - (j:Int)))] hF2 fun a2 hF2=>wl (xP 8 (v0:=.int .i64 (IntKind.i64.wrap (7 - (j:Int) - 1))) (v:=iv (7 - (j:Int) - 1)) hF2 (wi (by omega)) fun a2 hF2=>xB 1 [(3,iv (7 - (j:Int) - 1))] hF2 fun a2 hF2=>wpList_nil ?_)))))))) hqR24 rfl
  refine hK26 _ _ ⟨(j + 1),⟨((((Fr.nil hF2).c hF2 (i:=1) rfl rfl).c hF2 (i:=0) rfl rfl).c hF2 (i:=3) rfl (vi (show (7 - (j:Int) - 1:Int)=7 - ((j + 1):Int) from by omega))),(hM.sub ((((((((((((((Sub.nil.c (k:=14) rfl rfl).c (k:=13) rfl rfl).c (k:=12) rfl rfl).c (k:=11) rfl rfl).c (k:=10) rfl rfl).c (k:=9) rfl rfl).c (k:=8) rfl rfl).c (k:=7) rfl rfl).c (k:=6) rfl rfl).c (k:=5) rfl rfl).c (k:=4) rfl rfl).c (k:=3) rfl rfl).c (k:=2) rfl rfl).c (k:=1) rfl rfl)),(show ((j + 1):Int) ≤ 2 from by omega),(show ∀ c,7 - (j + 1) < c → c ≤ 7 → ¬ (¬ zH h c ∧ fitP ge cyc per sh h c (prE per bg t)) from by exact fun c h1 h2=>by by_cases e:c=7 - j; (subst e; exact fun z=>by first | exact z.1 (by assumption) | exact absurd z.2 (by assumption)); exact ‹∀ c,7 - j < c → c ≤ 7 → ¬ (¬ zH h c ∧ fitP ge cyc per sh h c (prE per bg t))› c (by omega) h2)⟩,(show 2 - (j + 1) < 2 - j from by omega)⟩
 replace hF2:=hF2.c hF2 (i:=6) (v:=.bool false) rfl (bF hz6)
 refine xF hF2 (wp_exit (hNR24 _ _ (ret_ofN hF2 hM (.nil) (rangeEnd (kl:=14) OO11 hO11 hM rfl (by (try dsimp only); decide) fun w hM=>?_))))
 replace hF1:=hF1.defer { target:=.collected DD11,args:=#[] }
 refine hK19 _ _ (wp_seq_k fun K46 hK46=>rF (by kernel_rfl) (by kernel_rfl) (fun S a w=>Fr (⟨25,[{ target:=.collected DD11,args:=#[] }]⟩:NF) [(4,some (pt bb7 0)),(5,(cond (S.getD 3 false) (some (iv 4)) (some (iv 0)))),(6,some (pt bb8 0)),(7,some (pt bb9 0)),(23,(cond (S.getD 0 false) (some (.agg #[iv 0,iv 0])) none)),(24,(cond (S.getD 1 false) (some (iv 4)) none))] a ∧ Mem w0.heap.size w0 [(1,some (.ro A (flat2 ge))),(2,some (.ro Ah (flatE pE h))),(3,some (.row bb1 45 #[.slice A ge.length gc,iv cyc,iv per,iv sh])),(4,some (.row bb2 3 #[iv oc])),(5,some (.row bb3 3 #[iv (bg + (max 64 ((t - bg + per - 1) / per) + 24) * per)])),(6,some (.row bb4 166 #[.slice A ge.length gc,iv cyc,iv per,iv sh,.slice Ah 8 hc])),(7,some (.row bb5 3 #[iv (max 64 ((t - bg + per - 1) / per))])),(9,(cond (S.getD 2 false) (some (.row bb7 174 #[iv 0,iv 0])) (some (.row bb7 174 #[iv 0,iv 0])))),(10,some (.row bb8 174 #[iv 0,iv 0])),(11,some (.row bb9 36 #[iv 4])),(13,some (.obj DD11 (.deferred (some [])))),(14,some (.obj ll11 (OO11 .exhausted none)))] w) ?_ ?_ ?_)
 ·exact ⟨hF1.pk,hM.dk⟩
 ·refine stC ?_ (stC ?_ (stC ?_ (stC ?_ (trivial))))
  ·intro s0 s1 s2 s3 hc hi hp a w hS
   obtain rfl:s0=false:=hi
   obtain ⟨hF1,hM⟩:=hS
   refine xL 23 10 0 (v:=.agg #[iv 0,iv 0]) hF1 hM fun a1 w hF1 hM=>⟨hF1.rc 4,hM.k⟩
  ·intro s0 s1 s2 s3 hc hi hp a w hS
   obtain rfl:s1=false:=hi
   obtain ⟨hF1,hM⟩:=hS
   refine xL 24 11 0 (v:=iv 4) hF1 hM fun a1 w hF1 hM=>⟨hF1.rc 5,hM.k⟩
  ·intro s0 s1 s2 s3 hc hi hp a w hS
   obtain rfl:s2=false:=hi
   obtain rfl:s0=true:=hp 0 (by kernel_rfl)
   obtain ⟨hF1,hM⟩:=hS
   refine xS 9 0 #[iv 0,iv 0] hF1 hM fun w hM=>⟨hF1.k,hM.rc 7⟩
  intro s0 s1 s2 s3 hc hi hp a w hS
  obtain rfl:s3=false:=hi
  obtain rfl:s1=true:=hp 1 (by kernel_rfl)
  obtain ⟨hF1,hM⟩:=hS
  refine xP 5 (v0:=iv 4) (v:=iv 4) hF1 rfl fun a1 hF1=>⟨hF1.rc 1,hM.k⟩
 intro a1 w hS
 obtain ⟨hF1,hM⟩:=hS
 replace hF1:Fr (⟨25,[{ target:=.collected DD11,args:=#[] }]⟩:NF) [(4,some (pt bb7 0)),(5,some (iv 4)),(6,some (pt bb8 0)),(7,some (pt bb9 0)),(23,some (.agg #[iv 0,iv 0])),(24,some (iv 4))] a1:=hF1.cast (by kernel_rfl)
 replace hM:Mem w0.heap.size w0 [(1,some (.ro A (flat2 ge))),(2,some (.ro Ah (flatE pE h))),(3,some (.row bb1 45 #[.slice A ge.length gc,iv cyc,iv per,iv sh])),(4,some (.row bb2 3 #[iv oc])),(5,some (.row bb3 3 #[iv (bg + (max 64 ((t - bg + per - 1) / per) + 24) * per)])),(6,some (.row bb4 166 #[.slice A ge.length gc,iv cyc,iv per,iv sh,.slice Ah 8 hc])),(7,some (.row bb5 3 #[iv (max 64 ((t - bg + per - 1) / per))])),(9,some (.row bb7 174 #[iv 0,iv 0])),(10,some (.row bb8 174 #[iv 0,iv 0])),(11,some (.row bb9 36 #[iv 4])),(13,some (.obj DD11 (.deferred (some [])))),(14,some (.obj ll11 (OO11 .exhausted none)))] w:=hM.cast (by kernel_rfl)
 refine hK46 _ _ (wp_ret (hR14 _ _ (retM1 (kD:=13) hF1 hM rfl (.cell (i:=9) rfl rfl (v:=.agg #[iv 0,iv 0]) (by kernel_rfl) (.tmp rfl (.nil))) fun w hM=>⟨_,rfl,?_⟩)))
 intro a hF
 refine xB 3 [(77,.tuple #[.agg #[iv 0,iv 0],iv 4]),(80,.agg #[iv 0,iv 0]),(81,iv 4)] hF fun a hF=>wl (xN 16 20 (t:=174) (fun b=>.pointer (some ⟨b,0,none⟩)) #[iv 0,iv 0] hF hM fun bb17 a w hF hM=>?_)
 refine wl (xS 20 0 #[iv 0,iv 0] hF hM fun w hM=>xB 1 [(12,iv 4)] hF fun a hF=>wpList_nil (hK13 _ _ (wp_seq_k fun K47 hK47=>rF (by kernel_rfl) (by kernel_rfl) (fun S a w=>Fr 87 [(10,some (pt bb3 0)),(11,(cond (S.getD 6 false) (some (iv 0)) (some (iv 0)))),(12,(cond (S.getD 7 false) (some (iv 4)) (some (iv 4)))),(16,some (pt bb17 0)),(82,(cond (S.getD 0 false) (some (pt bb17 0)) none)),(83,(cond (S.getD 1 false) (some (iv 0)) none)),(84,(cond (S.getD 2 false) (some (pt bb17 1)) none)),(85,(cond (S.getD 3 false) (some (iv 0)) none)),(86,(cond (S.getD 4 false) (some (iv 4)) none))] a ∧ Mem w0.heap.size w0 [(1,some (.ro A (flat2 ge))),(2,some (.ro Ah (flatE pE h))),(5,(cond (S.getD 5 false) (some (.row bb3 3 #[iv 0])) (some (.row bb3 3 #[iv (bg + (max 64 ((t - bg + per - 1) / per) + 24) * per)])))),(20,some (.row bb17 174 #[iv 0,iv 0]))] w) ?_ ?_ ?_)))
 ·exact ⟨hF.pk,hM.dk⟩
 ·refine stC ?_ (stC ?_ (stC ?_ (stC ?_ (stC ?_ (stC ?_ (stC ?_ (stC ?_ (trivial))))))))
  ·intro s0 s1 s2 s3 s4 s5 s6 s7 hc hi hp a w hS
   obtain rfl:s0=false:=hi
   obtain ⟨hF,hM⟩:=hS
   refine xP 82 (v0:=pt bb17 0) (v:=pt bb17 0) hF rfl fun a hF=>⟨hF.rc 4,hM.k⟩
  ·intro s0 s1 s2 s3 s4 s5 s6 s7 hc hi hp a w hS
   obtain rfl:s1=false:=hi
   obtain rfl:s0=true:=hp 0 (by kernel_rfl)
   obtain ⟨hF,hM⟩:=hS
   refine xL 83 20 0 (v:=iv 0) hF hM fun a w hF hM=>⟨hF.rc 5,hM.k⟩
  ·intro s0 s1 s2 s3 s4 s5 s6 s7 hc hi hp a w hS
   obtain rfl:s2=false:=hi
   obtain ⟨hF,hM⟩:=hS
   refine xP 84 (v0:=pt bb17 1) (v:=pt bb17 1) hF rfl fun a hF=>⟨hF.rc 6,hM.k⟩
  ·intro s0 s1 s2 s3 s4 s5 s6 s7 hc hi hp a w hS
   obtain rfl:s3=false:=hi
   obtain rfl:s2=true:=hp 2 (by kernel_rfl)
   obtain ⟨hF,hM⟩:=hS
   refine xL 85 20 1 (v:=iv 0) hF hM fun a w hF hM=>⟨hF.rc 7,hM.k⟩
  ·intro s0 s1 s2 s3 s4 s5 s6 s7 hc hi hp a w hS
   obtain rfl:s4=false:=hi
   obtain rfl:s7=false:=hc.f 7 4 (by kernel_rfl) rfl
   obtain ⟨hF,hM⟩:=hS
   refine xP 86 (v0:=iv 4) (v:=iv 4) hF rfl fun a hF=>⟨hF.rc 8,hM.k⟩
  ·intro s0 s1 s2 s3 s4 s5 s6 s7 hc hi hp a w hS
   obtain rfl:s5=false:=hi
   obtain rfl:s1=true:=hp 1 (by kernel_rfl)
   obtain ⟨hF,hM⟩:=hS
   refine xS 5 0 #[iv 0] hF hM fun w hM=>⟨hF.k,hM.rc 2⟩
  ·intro s0 s1 s2 s3 s4 s5 s6 s7 hc hi hp a w hS
   obtain rfl:s6=false:=hi
   obtain rfl:s3=true:=hp 3 (by kernel_rfl)
   obtain ⟨hF,hM⟩:=hS
   refine xP 11 (v0:=iv 0) (v:=iv 0) hF rfl fun a hF=>⟨hF.rc 1,hM.k⟩
  intro s0 s1 s2 s3 s4 s5 s6 s7 hc hi hp a w hS
  obtain rfl:s7=false:=hi
  obtain rfl:s4=true:=hp 4 (by kernel_rfl)
  obtain ⟨hF,hM⟩:=hS
  refine xP 12 (v0:=iv 4) (v:=iv 4) hF rfl fun a hF=>⟨hF.rc 2,hM.k⟩
 intro a w hS
 obtain ⟨hF,hM⟩:=hS
 replace hF:Fr 87 [(10,some (pt bb3 0)),(11,some (iv 0)),(12,some (iv 4)),(16,some (pt bb17 0)),(82,some (pt bb17 0)),(83,some (iv 0)),(84,some (pt bb17 1)),(85,some (iv 0)),(86,some (iv 4))] a:=hF.cast (by kernel_rfl)
 replace hM:Mem w0.heap.size w0 [(1,some (.ro A (flat2 ge))),(2,some (.ro Ah (flatE pE h))),(5,some (.row bb3 3 #[iv 0])),(20,some (.row bb17 174 #[iv 0,iv 0]))] w:=hM.cast (by kernel_rfl)
 refine hK47 _ _ (wp_ret (hR0 _ _ (ret_of hF hM (.cell (i:=5) rfl rfl (v:=iv 0) (by kernel_rfl) (.tmp rfl (.tmp rfl (.nil)))) ?_)))
 obtain rfl:j=2:=by omega
 have hx:¬ prP ge cyc per sh h oc bg t:=fun z=>by rcases z.2 with z | z; exact (‹∀ c,7 - 2 < c → c ≤ 7 → ¬ (¬ zH h c ∧ fitP ge cyc per sh h c (prE per bg t))›) 7 (by (try dsimp only); decide) (by (try dsimp only); decide) z; exact (‹∀ c,7 - 2 < c → c ≤ 7 → ¬ (¬ zH h c ∧ fitP ge cyc per sh h c (prE per bg t))›) 6 (by (try dsimp only); decide) (by (try dsimp only); decide) z
 exact ⟨ret_eq (by rw [if_neg hx,if_neg hx,if_neg hx]; rfl),hM.bel⟩
end Go.Proofs.YtlngflbamkgjlaaGreat
namespace Go.Proofs.YtlngflbamkgjlaaGreat
open Go.RowKit
set_option linter.unusedVariables false
set_option linter.unusedSimpArgs false
set_option maxRecDepth 100000
def hdL (Q:Nat → List (List Int)):List (List Int):=(List.range 8).map fun c=>headP (Q c)
def hdK (Q:Nat → List (List Int)) (k:Nat):List (List Int):=(List.range 8).map fun c=>if c < k then headP (Q c) else zP
theorem hdK_0 (Q:Nat → List (List Int)):hdK Q 0=List.replicate 8 zP:=rfl
theorem hdK_8 (Q:Nat → List (List Int)):hdK Q 8=hdL Q:=by
  unfold hdK hdL
  exact List.map_congr_left fun c hc=>if_pos (List.mem_range.1 hc)
theorem hdK_len (Q:Nat → List (List Int)) (k:Nat):(hdK Q k).length=8:=by simp [hdK]
theorem hdK_wr {Q:Nat → List (List Int)} (h:∀ c,c < 8 → WR 7 (Q c)) (k:Nat):WR 7 (hdK Q k):=fun x hx=>by
  simp only [hdK,List.mem_map,List.mem_range] at hx
  obtain ⟨c,hc,rfl⟩:=hx
  split
  · cases hq:Q c with
    | nil => rfl
    | cons y r => exact h c hc y (by rw [hq]; exact List.mem_cons_self ..)
  · rfl
theorem hdK_set {Q:Nat → List (List Int)} {k:Nat} (hW:WR 7 (Q k)) (hk:k < 8) (h:1 ≤ (Q k).length):(hdK Q k).set k [rc (Q k) 0 0,rc (Q k) 0 1,rc (Q k) 0 2,rc (Q k) 0 3,rc (Q k) 0 4,rc (Q k) 0 5,rc (Q k) 0 6]=hdK Q (k + 1):=by
  rw [← headP_rc hW h]
  refine List.ext_getElem (by simp [hdK]) fun i h1 h2=>?_
  simp only [hdK,List.getElem_set,List.getElem_map,List.getElem_range]
  by_cases e:k=i
  · subst e; simp
  · by_cases q:i < k
    · simp [e,q,show i < k + 1 by omega]
    · simp [e,q,show ¬ i < k + 1 by omega]
theorem hdK_nil {Q:Nat → List (List Int)} {k:Nat} (h:¬ 1 ≤ (Q k).length):hdK Q k=hdK Q (k + 1):=by
  have hz:headP (Q k)=zP:=by rw [List.length_eq_zero_iff.1 (by omega:(Q k).length=0)]; rfl
  unfold hdK
  refine List.map_congr_left fun c hc=>?_
  by_cases e:c=k
  · subst e; simp [hz]
  · by_cases q:c < k
    · simp [q,show c < k + 1 by omega]
    · simp [q,show ¬ c < k + 1 by omega]
set_option maxHeartbeats 4000000 in
theorem heads_w (A:Option Addr) (ge:List (Int × Int)) (gc:Nat) (cyc:Int) (per sh:Int) (Sq:Nat → Prop) (Aq:Option Addr) (gq:Nat) (cap:Nat → Int) (Q:Nat → List (List Int)) (now bz x0 x1 x2 x3 x4 x5 x6 bg fn rs:Int) (w0:World) (hA:Ro w0 A (flat2 ge)) (hq:QM Sq Aq cap Q w0) (hv:∀ c,c < 8 → qkE (cap c) (Q c)=0) :
    Calls Tryz.prog 76 #[.agg #[.slice A ge.length gc,iv cyc,iv per,iv sh,iv now,.slice Aq 8 gq,.bool (decide (bz=1)),iv x0,iv x1,iv x2,iv x3,iv x4,iv x5,.bool (decide (x6=1)),iv bg,iv fn,iv rs]] w0 (RetOwn w0 (fun v=>v) 50 7 8 (flatE pE (hdL Q))):=by
 obtain ⟨qa,qg,⟨hqr,hqb⟩,hqf⟩:=hq
 have hqs:∀ c,c < 8 → QS w0 (qa c) (Q c) (qg c):=fun c hc=>(hqf c hc).1
 refine enterK 30 Tryz.func76 rfl rfl rfl ?_
 intro a hF Q0 hR0 hN0
 have hM:=Mem.start w0
 replace hM:=hM.addOld 1 hA (Nat.le_refl _)
 replace hM:=hM.addOld 3 hqr (Nat.le_refl _)
 refine wp_seq_k fun K1 hK1=>wp_region_lit (wl (xN 1 4 (t:=95) (fun b=>.pointer (some ⟨b,0,none⟩)) #[.slice A ge.length gc,iv cyc,iv per,iv sh,iv now,.slice Aq 8 gq,.bool (decide (bz=1)),iv x0,iv x1,iv x2,iv x3,iv x4,iv x5,.bool (decide (x6=1)),iv bg,iv fn,iv rs] hF hM fun bb1 a w hF hM=>xB 1 [(2,.slice none 0 0)] hF fun a hF=>wpList_nil (hK1 _ _ (wp_seq_k fun K2 hK2=>wp_region_lit (wl (sMake 8 5 8 (e:=50) (size:=7) (bytes:=56) (z:=.agg #[iv 0,iv 0,iv 0,iv 0,iv 0,iv 0,.bool false]) (flatE pE (List.replicate 8 [0,0,0,0,0,0,0])) hF hM (by kernel_rfl) rfl (by kernel_rfl) (by kernel_rfl) (by kernel_rfl) (by kernel_rfl) (by omega) (by unfold maxLen; omega) fun bb2 a w hF hM=>xB 1 [(3,.slice (some ⟨bb2,0,none⟩) 8 8)] hF fun a hF=>wpList_nil (hK2 _ _ ?_)))))))
 refine wp_seq_k fun K3 hK3=>wp_seq_k fun K4 hK4=>wp_region_lit (xB 2 [(9,pt bb1 0),(10,pt bb1 5)] hF fun a hF=>wl (xL 11 4 5 (v:=.slice Aq 8 gq) hF hM fun a w hF hM=>xB 2 [(12,iv 8),(13,iv 0)] hF fun a hF=>wpList_nil (hK4 _ _ (wp_block (wp_loop_k (G:=Nat) (fun gg a w=>Fr 30 [(13,some (iv (gg:Int))),(2,some (.slice none 0 0)),(3,some (.slice (some ⟨bb2,0,none⟩) 8 8)),(11,some (.slice Aq 8 gq)),(12,some (iv 8))] a ∧ Mem w0.heap.size w0 [(1,some (.ro A (flat2 ge))),(3,some (.ro Aq (qcells 8 cap qa Q qg))),(5,some (.own (.slice (some ⟨bb2,0,none⟩) 8 8) 50 7 8 (flatE pE (hdK Q gg))))] w ∧ ((gg:Int) ≤ 8)) (fun gg=>8 - gg) (0) ?_ ?_)))))
 ·refine ⟨((((((Fr.nil hF).c hF (i:=12) rfl rfl).c hF (i:=11) rfl rfl).c hF (i:=3) rfl rfl).c hF (i:=2) rfl rfl).c hF (i:=13) rfl (vi (show (0:Int)=(0:Int) from by omega))),(hM.sub (((Sub.nil.c (k:=5) rfl (congrArg (fun x=>Ent.own _ _ _ _ (flatE pE x)) (hdK_0 Q).symm)).c (k:=3) rfl rfl).c (k:=1) rfl rfl)),(show (0:Int) ≤ 8 from by omega)⟩
 intro gg a w hI
 intro K5 hK5
 obtain ⟨k,rfl⟩:∃ x,x=gg:=⟨_,rfl⟩
 try dsimp only at hI hK5
 obtain ⟨hF,hM,hz1⟩:=hI
 refine wp_seq_k fun K6 hK6=>wp_region_lit (xB 1 [(14,.bool (decide ((k:Int) < 8)))] hF fun a hF=>wpList_nil (hK6 _ _ (wp_seq_k fun K7 hK7=>?_)))
 by_cases hz2:(k:Int) < 8
 ·replace hF:=hF.c hF (i:=14) (v:=.bool true) rfl (bT hz2)
  refine xT hF (wp_skip (hK7 _ _ (wp_seq_k fun K8 hK8=>wp_block (wp_seq_k fun K9 hK9=>wp_region_lit (xB 1 [(15,iv (k:Int))] hF fun a hF=>wl (xM 16 (v:=.pointer (some (ea Aq (k * 2)))) hF hM (yld_ix (kd:=.i64) (e:=82) (len:=8) (cap:=gq) (i:=(k:Int)) (size:=2) (A:=Aq) hF rfl (by kernel_rfl) (by kernel_rfl) (by kernel_rfl) (by kernel_rfl) (by kernel_rfl) (roK 3 rfl) (by omega) (by omega) (by rw [qcells_length]; (try simp only [List.length_map,List.length_append,List.length_replicate,List.length_set,List.length_cons,List.length_nil,flat2_length,List.length_take]); omega)) fun a w hF hM=>?_))))))
  replace hM:=hM.addOld 6 (hqs k (by omega)).2.2.1 (Nat.le_refl _)
  refine wl (xM 17 (v:=.agg #[iv (cap k),.slice (qa k) ((Q k).length) (qg k)]) hF hM (yld_roM (A:=Aq) (j:=k * 2) (us:=[iv (cap k),.slice (qa k) ((Q k).length) (qg k)]) hF rfl (by kernel_rfl) (by kernel_rfl) (roK 3 rfl) (by kernel_rfl) rfl (qcells_sub (k:=k) (by omega) rfl)) fun a w hF hM=>wl (xN 5 7 (t:=82) (fun b=>.pointer (some ⟨b,0,none⟩)) #[iv 0,.slice none 0 0] hF hM fun bb3 a w hF hM=>xB 1 [(4,iv (k:Int))] hF fun a hF=>?_))
  refine wl (xS 7 0 #[iv (cap k),.slice (qa k) ((Q k).length) (qg k)] hF hM fun w hM=>wpList_nil (hK9 _ _ (wp_seq_k fun K10 hK10=>?_)))
  by_cases hz3:1 ≤ ((Q k).length:Int)
  ·refine wp_region_lit (wl (xL 19 7 0 (v:=.agg #[iv (cap k),.slice (qa k) ((Q k).length) (qg k)]) hF hM fun a w hF hM=>wl (xM 20 (v:=.tuple #[.agg #[iv (rc (Q k) 0 0),iv (rc (Q k) 0 1),iv (rc (Q k) 0 2),iv (rc (Q k) 0 3),iv (rc (Q k) 0 4),iv (rc (Q k) 0 5),.bool (decide (rc (Q k) 0 6=1))],.bool true]) hF hM (xC 92 #[.agg #[iv (cap k),.slice (qa k) ((Q k).length) (qg k)]] hF (fun w hM=>head_some (cap k) (qa k) (Q k) (qg k) w (hM.ok 6 _ rfl) (hqs k (by omega)).1 (hqs k (by omega)).2.1 (hqs k (by omega)).2.2.2 (hv k (by omega)) (by omega))) fun a w hF hM=>xB 3 [(18,.tuple #[.agg #[iv (rc (Q k) 0 0),iv (rc (Q k) 0 1),iv (rc (Q k) 0 2),iv (rc (Q k) 0 3),iv (rc (Q k) 0 4),iv (rc (Q k) 0 5),.bool (decide (rc (Q k) 0 6=1))],.bool true]),(21,.agg #[iv (rc (Q k) 0 0),iv (rc (Q k) 0 1),iv (rc (Q k) 0 2),iv (rc (Q k) 0 3),iv (rc (Q k) 0 4),iv (rc (Q k) 0 5),.bool (decide (rc (Q k) 0 6=1))]),(22,.bool true)] hF fun a hF=>wl (xN 6 8 (t:=50) (fun b=>.pointer (some ⟨b,0,none⟩)) #[iv 0,iv 0,iv 0,iv 0,iv 0,iv 0,.bool false] hF hM fun bb4 a w hF hM=>?_))))
   refine wl (xS 8 0 #[iv (rc (Q k) 0 0),iv (rc (Q k) 0 1),iv (rc (Q k) 0 2),iv (rc (Q k) 0 3),iv (rc (Q k) 0 4),iv (rc (Q k) 0 5),.bool (decide (rc (Q k) 0 6=1))] hF hM fun w hM=>xB 1 [(7,.bool true)] hF fun a hF=>wpList_nil (hK10 _ _ (wp_seq_k fun K11 hK11=>wp_region_lit (xB 1 [(23,.bool true)] hF fun a hF=>wpList_nil (hK11 _ _ (xT hF (wp_region_lit (xB 2 [(24,.slice (some ⟨bb2,0,none⟩) 8 8),(25,iv (k:Int))] hF fun a hF=>?_))))))))
   refine wl (xL 26 8 0 (v:=.agg #[iv (rc (Q k) 0 0),iv (rc (Q k) 0 1),iv (rc (Q k) 0 2),iv (rc (Q k) 0 3),iv (rc (Q k) 0 4),iv (rc (Q k) 0 5),.bool (decide (rc (Q k) 0 6=1))]) hF hM fun a w hF hM=>wl (xM 27 (v:=.pointer (some (ea (some ⟨bb2,0,none⟩) (k * 7)))) hF hM (yld_ix (kd:=.i64) (e:=50) (len:=8) (cap:=8) (i:=(k:Int)) (size:=7) (A:=(some ⟨bb2,0,none⟩)) hF rfl (by kernel_rfl) (by kernel_rfl) (by kernel_rfl) (by kernel_rfl) (by kernel_rfl) (roO 5 rfl) (by omega) (by omega) (by rw [flatE_length (es:=pE) (hdK_wr (fun c hc=>(hqs c hc).1) k),show pE.length=7 from rfl,hdK_len]; (try simp only [List.length_map,List.length_append,List.length_replicate,List.length_set,List.length_cons,List.length_nil,flat2_length,List.length_take]); omega)) fun a w hF hM=>?_))
   refine wl (sStoreOM 5 (j:=k * 7) (A:=(some ⟨bb2,0,none⟩)) [iv (rc (Q k) 0 0),iv (rc (Q k) 0 1),iv (rc (Q k) 0 2),iv (rc (Q k) 0 3),iv (rc (Q k) 0 4),iv (rc (Q k) 0 5),.bool (decide (rc (Q k) 0 6=1))] (flatE pE ((hdK Q k).set k [rc (Q k) 0 0,rc (Q k) 0 1,rc (Q k) 0 2,rc (Q k) 0 3,rc (Q k) 0 4,rc (Q k) 0 5,rc (Q k) 0 6])) hF hM (by kernel_rfl) rfl rfl (by kernel_rfl) (by kernel_rfl) rfl (by kernel_rfl) rfl (by intro u hu; simp only [List.mem_cons,List.not_mem_nil,or_false] at hu; rcases hu with rfl | rfl | rfl | rfl | rfl | rfl | rfl <;> rfl) (Nat.succ_pos _) (by rw [flatE_length (es:=pE) (hdK_wr (fun c hc=>(hqs c hc).1) k),show pE.length=7 from rfl,hdK_len]; (try simp only [List.length_map,List.length_append,List.length_replicate,List.length_set,List.length_cons,List.length_nil,flat2_length,List.length_take]); omega) (flatE_set (es:=pE) (k:=k) (r:=[rc (Q k) 0 0,rc (Q k) 0 1,rc (Q k) 0 2,rc (Q k) 0 3,rc (Q k) 0 4,rc (Q k) 0 5,rc (Q k) 0 6]) (hdK_wr (fun c hc=>(hqs c hc).1) k) (by rw [hdK_len]; omega) rfl) fun w hM=>wpList_nil (hK8 _ _ (wp_region_lit (wl (xP 28 (v0:=.int .i64 (IntKind.i64.wrap ((k:Int) + 1))) (v:=iv ((k:Int) + 1)) hF (wi (by omega)) fun a hF=>xB 1 [(13,iv ((k:Int) + 1))] hF fun a hF=>wpList_nil ?_)))))
   refine hK5 _ _ ⟨(k + 1),⟨((((((Fr.nil hF).c hF (i:=12) rfl rfl).c hF (i:=11) rfl rfl).c hF (i:=3) rfl rfl).c hF (i:=2) rfl rfl).c hF (i:=13) rfl (vi (show ((k:Int) + 1:Int)=((k + 1):Int) from by omega))),(hM.sub (((Sub.nil.c (k:=5) rfl (congrArg (fun x=>Ent.own _ _ _ _ (flatE pE x)) (hdK_set (hqs k (by omega)).1 (by omega) (by omega)))).c (k:=3) rfl rfl).c (k:=1) rfl rfl)),(show ((k + 1):Int) ≤ 8 from by omega)⟩,(show 8 - (k + 1) < 8 - k from by omega)⟩
  refine wp_region_lit (wl (xL 19 7 0 (v:=.agg #[iv (cap k),.slice (qa k) ((Q k).length) (qg k)]) hF hM fun a w hF hM=>wl (xM 20 (v:=.tuple #[.agg #[iv 0,iv 0,iv 0,iv 0,iv 0,iv 0,.bool false],.bool false]) hF hM (xC 92 #[.agg #[iv (cap k),.slice (qa k) ((Q k).length) (qg k)]] hF (fun w hM=>head_none (cap k) (qa k) (Q k) (qg k) w (hM.ok 6 _ rfl) (hqs k (by omega)).1 (hqs k (by omega)).2.1 (hqs k (by omega)).2.2.2 (hv k (by omega)) (by omega))) fun a w hF hM=>xB 3 [(18,.tuple #[.agg #[iv 0,iv 0,iv 0,iv 0,iv 0,iv 0,.bool false],.bool false]),(21,.agg #[iv 0,iv 0,iv 0,iv 0,iv 0,iv 0,.bool false]),(22,.bool false)] hF fun a hF=>wl (xN 6 9 (t:=50) (fun b=>.pointer (some ⟨b,0,none⟩)) #[iv 0,iv 0,iv 0,iv 0,iv 0,iv 0,.bool false] hF hM fun bb5 a w hF hM=>?_))))
  refine wl (xS 9 0 #[iv 0,iv 0,iv 0,iv 0,iv 0,iv 0,.bool false] hF hM fun w hM=>xB 1 [(7,.bool false)] hF fun a hF=>wpList_nil (hK10 _ _ (wp_seq_k fun K12 hK12=>wp_region_lit (xB 1 [(23,.bool false)] hF fun a hF=>wpList_nil (hK12 _ _ (xF hF (wp_skip (hK8 _ _ ?_))))))))
  refine wp_region_lit (wl (xP 28 (v0:=.int .i64 (IntKind.i64.wrap ((k:Int) + 1))) (v:=iv ((k:Int) + 1)) hF (wi (by omega)) fun a hF=>xB 1 [(13,iv ((k:Int) + 1))] hF fun a hF=>wpList_nil (hK5 _ _ ⟨(k + 1),⟨((((((Fr.nil hF).c hF (i:=12) rfl rfl).c hF (i:=11) rfl rfl).c hF (i:=3) rfl rfl).c hF (i:=2) rfl rfl).c hF (i:=13) rfl (vi (show ((k:Int) + 1:Int)=((k + 1):Int) from by omega))),(hM.sub (((Sub.nil.c (k:=5) rfl (congrArg (fun x=>Ent.own _ _ _ _ (flatE pE x)) (hdK_nil (by omega)))).c (k:=3) rfl rfl).c (k:=1) rfl rfl)),(show ((k + 1):Int) ≤ 8 from by omega)⟩,(show 8 - (k + 1) < 8 - k from by omega)⟩)))
 replace hF:=hF.c hF (i:=14) (v:=.bool false) rfl (bF hz2)
 refine xF hF (wp_exit (hK3 _ _ (wp_seq_k fun K13 hK13=>wp_region_lit (xB 2 [(29,.slice (some ⟨bb2,0,none⟩) 8 8),(2,.slice (some ⟨bb2,0,none⟩) 8 8)] hF fun a hF=>wpList_nil (hK13 _ _ (wp_ret (hR0 _ _ (ret_of hF hM (.tmp rfl (.nil)) ?_))))))))
 obtain rfl:k=8:=by omega
 have ho:=hM.ok 5 _ rfl
 rw [hdK_8] at ho
 exact ⟨_,_,rfl,ho,hM.bel⟩
end Go.Proofs.YtlngflbamkgjlaaGreat
