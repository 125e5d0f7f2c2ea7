/- Right extensions by the reference. -/
import Derived.Test.YtjdjkmgjgghodaaGreatKdx
import Derived.Test.YtjdjkmgjgghodaaGreatB13q
import Derived.Test.YtjdjkmgjgghodaaGreatB16q
set_option linter.unusedSimpArgs false
set_option linter.unusedVariables false
set_option maxRecDepth 100000
set_option maxHeartbeats 16000000
namespace Go.Eng
open Go Go.Proofs Go.Cats
def exTs (k : Fun) (n : Nat) : List (List (List Int)):=(List.range n).map fun y : Nat=>exT k y
def exLs (k : Fun) (f : SF) (n : Nat) : List (List (List Int)):=(List.range n).map fun y : Nat=>exL k f y
section
variable {k : Fun} {f : SF} {n i : Nat}
theorem exTs_zero : exTs k 0 = []:=rfl
theorem exLs_zero : exLs k f 0 = []:=rfl
theorem exTs_succ : exTs k (n + 1) = exTs k n ++ [exT k n]:=by unfold exTs; rw [List.range_succ,List.map_append]; rfl
theorem exLs_succ : exLs k f (n + 1) = exLs k f n ++ [exL k f n]:=by unfold exLs; rw [List.range_succ,List.map_append]; rfl
theorem exTs_len : (exTs k n).length = n:=by simp [exTs]
theorem exLs_len : (exLs k f n).length = n:=by simp [exLs]
theorem exTs_at (h : i < n) : (exTs k n).getD i [] = exT k i:=by simp [exTs,List.getD_eq_getElem?_getD,h]
theorem exLs_at (h : i < n) : (exLs k f n).getD i [] = exL k f i:=by simp [exLs,List.getD_eq_getElem?_getD,h]
end
attribute [local go_sem] exTs_zero exLs_zero exSz_zero exAc_zero exRow_zero one_nilSl5 List.getD_cons_zero List.getD_cons_succ List.set_cons_zero List.set_cons_succ
theorem cal_l23Right : Callable Tryz.prog 50:=⟨_,Tryz.func50,rfl,rfl⟩
theorem sp_l23Right_yes {k : Fun} {f : SF} (hkb : FunB k) (hk : IsFun k) (hf : IsSF f) (he : f.shape = k.src) (hg : ∀ y : Nat,(y : Int) < k.tgt.ob → (exT k y).length ≤ 64 ∧ (exL k f y).length ≤ 16) : Spec Tryz.prog 50 [funV k,sfV f] [] (.agg [iv k.tgt.ob,.sl 0,.sl 1,.sl 2,.sl 3,.sl 4,.sl 5,.sl 6,.sl 7,.v (.bool true)])
    [(0,⟨1,.arr (ints k.tgt.fr)⟩),(1,⟨1,.arr (ints k.tgt.to)⟩),(2,⟨1,.arr (ints k.tgt.id)⟩),(3,⟨1,.arr (intss k.tgt.co)⟩),(4,⟨1,.arr (ints (exF k f).sizes)⟩),(5,⟨1,.arr (intss (exF k f).acts)⟩),(6,⟨1,.arr (intsss (exTs k k.tgt.ob.toNat))⟩),(7,⟨1,.arr (intsss (exLs k f k.tgt.ob.toNat))⟩)]:=by
  refine spec_of_V (E:=TE) 0 Tryz.func50 rfl (by simp [Tryz.f50]) fun X hn hX=>?_
  have ob0:=hk.tgt.ob0
  have ob8:=hk.tgt.ob8
  have m40:=hk.tgt.m40
  have tol:=hk.tgt.tol
  have col:=hk.tgt.col
  have coe:=hk.tgt.coe
  have frw:=hk.tgt.frw
  have tow:=hk.tgt.tow
  have ktb:=hkb.tgt
  repeat' (first | (with_reducible first | refine V_seq ?_ | refine V_block ?_ | refine V_skip ?_ | refine V_ret ?_ | refine V_exit ?_) | ((with_reducible refine V_cond ?_); simp only [go_sem,simprocAttr]) | ((first | refine V_region (by rw [hn]; rfl) ?_ | refine V_drawn hmix (by rw [hn]; rfl) ?_); intro K hK) | ((first | with_reducible refine evOps_n ?_ | ((with_reducible apply evOps_g); rfl) | with_reducible refine evOpsD_n ?_ | ((with_reducible apply evOpsD_g); rfl)); intro K hK; simp (contextual:=true) only [go_sem,simprocAttr]) | with_reducible refine evOps_nil ?_ | ((with_reducible refine evOpsD_nil ?_ ?_); kernel_rfl) | ((with_reducible refine hK _ ?_); clear hK K) | (with_reducible first | refine And.intro ?_ ?_ | refine nxt_n ?_ | refine nxt_r ?_ | refine nxt_e ?_ | refine blk_n ?_ | refine blk_r ?_ | refine blk_same ?_ | refine blk_other (by decide) ?_ | refine noG_n ?_ | refine noG_r ?_ | refine noG_e ?_ | refine inR_mk ?_ ?_) | ((with_reducible refine evCall_at 60 ?_); refine EvCall.rq (a:=(sp_l02Own (c:=k.tgt) ?_)) (b:=cal_l02Own) (c:=?_); all_goals try simp only [go_sem,simprocAttr]) | (refine fun (hc : (_ : Bool) = _)=>?_; try simp only [hcS] at hc))
  all_goals try (first | (with_reducible assumption) | ((try simp only [Cat.F,Cat.T,Cat.I,Cat.C,Fun.O,Fun.A,Cat.Entry,Int.toNat_natCast] at *); omega))
  refine V_imp (Imp.adoptBsss 10 7 _ _ rfl rfl rfl (by rw [hX]; rfl)) ?_
  refine V_imp (Imp.adoptBsss 10 8 _ _ rfl rfl rfl (by rw [hX]; rfl)) ?_
  simp only [List.set_cons_zero,List.set_cons_succ]
  refine V_loopK (G:={y : Nat // y ≤ k.tgt.ob.toNat ∧ (True)}) (fun ⟨y,_⟩=>[(7,iv y),(6,.ptr 10 0)]) [2,3,4,5] (fun ⟨y,_⟩=>[(10,⟨1,.box [iv k.tgt.ob,.sl 4,.sl 5,.sl 6,.sl 7,.sl 8,.sl 9,.sl 11,.sl 12,.v (.bool true)]⟩),(8,⟨1,.arr (ints (exSz k f y))⟩),(11,⟨1,.arr (intsss (exTs k y))⟩),(12,⟨1,.arr (intsss (exLs k f y))⟩)]) [8,10,11,12] (fun zz=>k.tgt.ob.toNat - zz.1) ⟨0,Nat.zero_le _,by first | trivial | simp⟩ ?_ ?_
  · exact Imp.auto hX (by simp [go_sem,simprocAttr])
  rintro ⟨y,hiy,hwy⟩
  simp only [go_sem,simprocAttr]
  rcases Nat.lt_or_ge y k.tgt.ob.toNat with hlt | hge
  · obtain ⟨g1,g2⟩:=hg y (by omega)
    have sp_l23Seats_loc : Spec Tryz.prog 77 [funV k,iv y] [] (.sl 0) [(0,⟨1,.arr (intss (exT k y))⟩)]:=sp_l23Seats hk
    have hli:=sp_l23Lists (y:=(y : Int)) hk hf he g1
    rw [List.take_of_length_le (by show (exL k f y).length ≤ 17; omega)] at hli
    have sp_l23Lists_loc : Spec Tryz.prog 78 [funV k,sfV f,iv y] [] (.sl 0) [(0,⟨1,.arr (intss (exL k f y))⟩)]:=hli
    have s1:=exSz_len (k:=k) (f:=f) (n:=y)
    have s2:=exTs_len (k:=k) (n:=y)
    have s2':=exLs_len (k:=k) (f:=f) (n:=y)
    have s3:=exSz_succ (k:=k) (f:=f) (n:=y)
    have s4:=exTs_succ (k:=k) (n:=y)
    have s5:=exLs_succ (k:=k) (f:=f) (n:=y)
    repeat' (first | (refine V_slName (c:=.region 14 _ _) 8 14 (intss (exL k f y)) rfl rfl (Nat.le_refl 1) ?_; intro x hx1; have hx2:=rawO_ones hx1; simp only [go_sem,simprocAttr]) | (refine V_at 15 (Imp.absorb 8 19 14 _ (.sl 1 (.sl 1 (.v (.int .i64 0)) []) []) ((exLs k f y).map intss) [] (intss (exL k f y)) rfl rfl (Nat.le_refl 1) rfl (by decide)) ?_; simp only [go_sem,simprocAttr,show Dt.sl 1 (.sl 1 (.v (.int .i64 0)) []) [] = intss [] from rfl,rawA_snoc]) | (with_reducible first | refine V_seq ?_ | refine V_block ?_ | refine V_skip ?_ | refine V_ret ?_ | refine V_exit ?_) | ((with_reducible refine V_cond ?_); simp only [go_sem,simprocAttr]) | ((first | refine V_region (by rw [hn]; rfl) ?_ | refine V_drawn hmix (by rw [hn]; rfl) ?_); intro K hK) | ((first | with_reducible refine evOps_n ?_ | ((with_reducible apply evOps_g); rfl) | with_reducible refine evOpsD_n ?_ | ((with_reducible apply evOpsD_g); rfl)); intro K hK; simp (contextual:=true) only [go_sem,simprocAttr]) | with_reducible refine evOps_nil ?_ | ((with_reducible refine evOpsD_nil ?_ ?_); kernel_rfl) | ((with_reducible refine hK _ ?_); clear hK K) | (with_reducible first | refine And.intro ?_ ?_ | refine nxt_n ?_ | refine nxt_r ?_ | refine nxt_e ?_ | refine blk_n ?_ | refine blk_r ?_ | refine blk_same ?_ | refine blk_other (by decide) ?_ | refine noG_n ?_ | refine noG_r ?_ | refine noG_e ?_ | refine inR_mk ?_ ?_) | ((with_reducible refine evCall_at 77 ?_); refine EvCall.rq (a:=(sp_l23Seats_loc)) (b:=cal_l23Seats) (c:=?_); all_goals try simp only [go_sem,simprocAttr]) | ((with_reducible refine evCall_at 78 ?_); refine EvCall.rq (a:=(sp_l23Lists_loc)) (b:=cal_l23Lists) (c:=?_); all_goals try simp only [go_sem,simprocAttr]) | (refine fun (hc : (_ : Bool) = _)=>?_; try simp only [hcS] at hc))
    all_goals try (first | (with_reducible assumption) | ((try simp only [Cat.F,Cat.T,Cat.I,Cat.C,Fun.O,Fun.A,Cat.Entry,Int.toNat_natCast] at *); omega))
    · refine ⟨⟨y + 1,by omega,(by trivial)⟩,by simp only; omega,Imp.auto hX (by simp only [go_sem,simprocAttr,s3,s4,s5])⟩
  · have e1 : y = k.tgt.ob.toNat:=by omega
    subst e1
    obtain ⟨A,hA⟩ : ∃ A,exTs k k.tgt.ob.toNat = A:=⟨_,rfl⟩
    obtain ⟨B,hB⟩ : ∃ B,exLs k f k.tgt.ob.toNat = B:=⟨_,rfl⟩
    have hAt : ∀ i : Nat,(i : Int) < k.tgt.ob → A.getD i [] = exT k i:=fun i hi=>by rw [← hA]; exact exTs_at (by omega)
    have hBt : ∀ i : Nat,(i : Int) < k.tgt.ob → B.getD i [] = exL k f i:=fun i hi=>by rw [← hB]; exact exLs_at (by omega)
    have hAl : A.length = k.tgt.ob.toNat:=by rw [← hA]; exact exTs_len
    have hBl : B.length = k.tgt.ob.toNat:=by rw [← hB]; exact exLs_len
    have hZ : (exF k f).sizes = exSz k f k.tgt.ob.toNat:=rfl
    have hC : (exF k f).acts = exAc k f k.tgt.fr.length:=rfl
    rw [hA,hB,hZ,hC]
    have tbl : ∀ (y : Int) (i : Nat),i < (exT k y).length → ((exT k y).getD i []).length ≤ 1048576:=fun y i hi=>by have:=(seat_ok hk (memL_getD (l:=exT k y) hi)).len; omega
    have lbl : ∀ (y : Int) (i : Nat),(exT k y).length ≤ 64 → i < (exL k f y).length → ((exL k f y).getD i []).length ≤ 1048576:=fun y i h hi=>by have:=exL_len (memL_getD (l:=exL k f y) hi); omega
    repeat' (first | (with_reducible first | refine V_seq ?_ | refine V_block ?_ | refine V_skip ?_ | refine V_ret ?_ | refine V_exit ?_) | ((with_reducible refine V_cond ?_); simp only [go_sem,simprocAttr]) | ((first | refine V_region (by rw [hn]; rfl) ?_ | refine V_drawn hmix (by rw [hn]; rfl) ?_); intro K hK) | ((first | with_reducible refine evOps_n ?_ | ((with_reducible apply evOps_g); rfl) | with_reducible refine evOpsD_n ?_ | ((with_reducible apply evOpsD_g); rfl)); intro K hK; simp (contextual:=true) only [go_sem,simprocAttr]) | with_reducible refine evOps_nil ?_ | ((with_reducible refine evOpsD_nil ?_ ?_); kernel_rfl) | ((with_reducible refine hK _ ?_); clear hK K) | (with_reducible first | refine And.intro ?_ ?_ | refine nxt_n ?_ | refine nxt_r ?_ | refine nxt_e ?_ | refine blk_n ?_ | refine blk_r ?_ | refine blk_same ?_ | refine blk_other (by decide) ?_ | refine noG_n ?_ | refine noG_r ?_ | refine noG_e ?_ | refine inR_mk ?_ ?_) | (refine fun (hc : (_ : Bool) = _)=>?_; try simp only [hcS] at hc))
    all_goals try (first | (with_reducible assumption) | ((try simp only [Cat.F,Cat.T,Cat.I,Cat.C,Fun.O,Fun.A,Cat.Entry,Int.toNat_natCast] at *); omega))
    refine V_loopK (G:={b : Nat // b ≤ k.tgt.fr.length ∧ (True)}) (fun ⟨b,_⟩=>[(9,iv b),(6,.ptr 10 0),(2,.ptr 0 0),(3,.ptr 1 0)]) [4,5] (fun ⟨b,_⟩=>[(10,⟨1,.box [iv k.tgt.ob,.sl 4,.sl 5,.sl 6,.sl 7,.sl 8,.sl 9,.sl 11,.sl 12,.v (.bool true)]⟩),(9,⟨1,.arr (intss (exAc k f b))⟩)]) [9,10] (fun zz=>k.tgt.fr.length - zz.1) ⟨0,Nat.zero_le _,by first | trivial | simp⟩ ?_ ?_
    · exact Imp.auto hX (by simp [go_sem,simprocAttr])
    rintro ⟨b,hib,hwb⟩
    simp only [go_sem,simprocAttr]
    rcases Nat.lt_or_ge b k.tgt.fr.length with hlt2 | hge2
    · have f1:=frw b hlt2
      have f2:=tow b (by omega)
      have cb:=(coe b hlt2).1
      obtain ⟨y1,hy1⟩ : ∃ y1 : Nat,k.tgt.fr.getD b 0 = y1:=⟨_,(Int.toNat_of_nonneg f1.1).symm⟩
      obtain ⟨y2,hy2⟩ : ∃ y2 : Nat,k.tgt.to.getD b 0 = y2:=⟨_,(Int.toNat_of_nonneg f2.1).symm⟩
      have ra1:=hAt y1 (by omega)
      have ra2:=hAt y2 (by omega)
      have rb1:=hBt y1 (by omega)
      have rb2:=hBt y2 (by omega)
      obtain ⟨g1,g2⟩:=hg y1 (by omega)
      obtain ⟨g3,g4⟩:=hg y2 (by omega)
      have tb1:=fun i=>tbl y1 i
      have lb2:=fun i=>lbl y2 i g3
      have xl:=exAc_len (k:=k) (f:=f) (n:=b)
      have xs1:=exAc_succ (k:=k) (f:=f) (n:=b)
      rw [hy1] at xs1
      repeat' (first | (rw [hy1]) | (rw [hy2]) | (with_reducible first | refine V_seq ?_ | refine V_block ?_ | refine V_skip ?_ | refine V_ret ?_ | refine V_exit ?_) | ((with_reducible refine V_cond ?_); simp only [go_sem,simprocAttr]) | ((first | refine V_region (by rw [hn]; rfl) ?_ | refine V_drawn hmix (by rw [hn]; rfl) ?_); intro K hK) | ((first | with_reducible refine evOps_n ?_ | ((with_reducible apply evOps_g); rfl) | with_reducible refine evOpsD_n ?_ | ((with_reducible apply evOpsD_g); rfl)); intro K hK; simp (contextual:=true) only [go_sem,simprocAttr]) | with_reducible refine evOps_nil ?_ | ((with_reducible refine evOpsD_nil ?_ ?_); kernel_rfl) | ((with_reducible refine hK _ ?_); clear hK K) | (with_reducible first | refine And.intro ?_ ?_ | refine nxt_n ?_ | refine nxt_r ?_ | refine nxt_e ?_ | refine blk_n ?_ | refine blk_r ?_ | refine blk_same ?_ | refine blk_other (by decide) ?_ | refine noG_n ?_ | refine noG_r ?_ | refine noG_e ?_ | refine inR_mk ?_ ?_) | (refine fun (hc : (_ : Bool) = _)=>?_; try simp only [hcS] at hc))
      all_goals try (first | (with_reducible assumption) | ((try simp only [Cat.F,Cat.T,Cat.I,Cat.C,Fun.O,Fun.A,Cat.Entry,Int.toNat_natCast] at *); omega))
      refine V_loopK (G:={i : Nat // i ≤ (exL k f y1).length ∧ (True)}) (fun ⟨i,_⟩=>[(13,iv i),(12,.sl 13),(2,.ptr 0 0),(3,.ptr 1 0)]) [4,5,6,9,10,11] (fun ⟨i,_⟩=>[(13,⟨1,.arr (ints (exRow k f b i))⟩)]) [13] (fun zz=>(exL k f y1).length - zz.1) ⟨0,Nat.zero_le _,by first | trivial | simp⟩ ?_ ?_
      · exact Imp.auto hX (by simp [go_sem,simprocAttr])
      rintro ⟨i,hii,hwi⟩
      simp only [go_sem,simprocAttr]
      rcases Nat.lt_or_ge i (exL k f y1).length with hlt3 | hge3
      · obtain ⟨t,ht⟩ : ∃ t,(exL k f y1).getD i [] = t:=⟨_,rfl⟩
        have htm : t ∈ exL k f y1:=by rw [← ht]; exact memL_getD hlt3
        have tl:=exL_len htm
        have rs1:=exRow_succ (k:=k) (f:=f) (b:=b) (n:=i) (by rw [hy1]; exact hlt3)
        have rl:=exRow_len (k:=k) (f:=f) (b:=b) (n:=i)
        have mm:=mv_mem hk hf he hlt2 (t:=t) (by rw [hy1]; exact htm)
        have ml:=mvL_len (k:=k) (b:=b) (t:=t)
        rw [hy1,hy2,ht] at rs1
        rw [hy2] at mm ml
        repeat' (first | (rw [rb1]) | (rw [rb2]) | (rw [ra1]) | (rw [ra2]) | (with_reducible first | refine V_seq ?_ | refine V_block ?_ | refine V_skip ?_ | refine V_ret ?_ | refine V_exit ?_) | ((with_reducible refine V_cond ?_); simp only [go_sem,simprocAttr]) | ((first | refine V_region (by rw [hn]; rfl) ?_ | refine V_drawn hmix (by rw [hn]; rfl) ?_); intro K hK) | ((first | with_reducible refine evOps_n ?_ | ((with_reducible apply evOps_g); rfl) | with_reducible refine evOpsD_n ?_ | ((with_reducible apply evOpsD_g); rfl)); intro K hK; simp (contextual:=true) only [go_sem,simprocAttr]) | with_reducible refine evOps_nil ?_ | ((with_reducible refine evOpsD_nil ?_ ?_); kernel_rfl) | ((with_reducible refine hK _ ?_); clear hK K) | (with_reducible first | refine And.intro ?_ ?_ | refine nxt_n ?_ | refine nxt_r ?_ | refine nxt_e ?_ | refine blk_n ?_ | refine blk_r ?_ | refine blk_same ?_ | refine blk_other (by decide) ?_ | refine noG_n ?_ | refine noG_r ?_ | refine noG_e ?_ | refine inR_mk ?_ ?_) | (refine fun (hc : (_ : Bool) = _)=>?_; try simp only [hcS] at hc))
        all_goals try (first | (with_reducible assumption) | ((try simp only [Cat.F,Cat.T,Cat.I,Cat.C,Fun.O,Fun.A,Cat.Entry,Int.toNat_natCast] at *); omega))
        refine V_loopK (G:={j : Nat // j ≤ (exT k y2).length ∧ (True)}) (fun ⟨j,_⟩=>[(15,iv j),(14,.sl 14),(2,.ptr 0 0),(3,.ptr 1 0)]) [4,5,6,9,10,11,12,13] (fun ⟨j,_⟩=>[(14,⟨1,.arr (ints (((exT k y2).take j).map fun s=>t.getD (mvP k b s) 0))⟩)]) [14] (fun zz=>(exT k y2).length - zz.1) ⟨0,Nat.zero_le _,by first | trivial | simp⟩ ?_ ?_
        · exact Imp.auto hX (by simp [go_sem,simprocAttr])
        rintro ⟨j,hij,hwj⟩
        simp only [go_sem,simprocAttr]
        have mj:=mvL_take (k:=k) (b:=b) (t:=t) (n:=j)
        rw [hy2] at mj
        rcases Nat.lt_or_ge j (exT k y2).length with hlt4 | hge4
        · obtain ⟨s,hs⟩ : ∃ s,(exT k y2).getD j [] = s:=⟨_,rfl⟩
          have hsm : s ∈ exT k y2:=by rw [← hs]; exact memL_getD hlt4
          have ok:=seat_ok hk hsm
          have ok1:=ok.len
          have ok4:=ok.h0
          have ok5:=ok.h1
          obtain ⟨m1,m2,m3,m4⟩:=mv_seat hk hlt2 (s:=s) (by rw [hy2]; exact hsm)
          rw [hy1] at m1 m2 m3 m4
          have mjs:=mj hlt4
          rw [hs] at mjs
          have l2 : ([s.getD 0 0,k.tgt.C b (s.getD 1 0)] : List Int).length ≤ 1048576:=by simp
          repeat' (first | (rw [hs]) | (rw [ht]) | (rw [m2]) | (rw [rb1]) | (rw [rb2]) | (rw [ra1]) | (rw [ra2]) | (with_reducible first | refine V_seq ?_ | refine V_block ?_ | refine V_skip ?_ | refine V_ret ?_ | refine V_exit ?_) | ((with_reducible refine V_cond ?_); simp only [go_sem,simprocAttr]) | ((first | refine V_region (by rw [hn]; rfl) ?_ | refine V_drawn hmix (by rw [hn]; rfl) ?_); intro K hK) | ((first | with_reducible refine evOps_n ?_ | ((with_reducible apply evOps_g); rfl) | with_reducible refine evOpsD_n ?_ | ((with_reducible apply evOpsD_g); rfl)); intro K hK; simp (contextual:=true) only [go_sem,simprocAttr]) | with_reducible refine evOps_nil ?_ | ((with_reducible refine evOpsD_nil ?_ ?_); kernel_rfl) | ((with_reducible refine hK _ ?_); clear hK K) | (with_reducible first | refine And.intro ?_ ?_ | refine nxt_n ?_ | refine nxt_r ?_ | refine nxt_e ?_ | refine blk_n ?_ | refine blk_r ?_ | refine blk_same ?_ | refine blk_other (by decide) ?_ | refine noG_n ?_ | refine noG_r ?_ | refine noG_e ?_ | refine inR_mk ?_ ?_) | ((with_reducible refine evCall_at 79 ?_); refine EvCall.rq (a:=(sp_l02Then (c:=k.tgt) ?_ ?_ ?_ ?_)) (b:=cal_l02Then) (c:=?_); all_goals try simp only [go_sem,simprocAttr]) | ((with_reducible refine evCall_at 51 ?_); refine EvCall.rq (a:=(sp_l09Find (l:=exT k y1) (r:=[s.getD 0 0,k.tgt.C b (s.getD 1 0)]) ?_ ?_ ?_)) (b:=cal_l09Find) (c:=?_); all_goals try simp only [go_sem,simprocAttr]) | (refine fun (hc : (_ : Bool) = _)=>?_; try simp only [hcS] at hc))
          all_goals try (first | (with_reducible assumption) | ((try simp only [Cat.F,Cat.T,Cat.I,Cat.C,Fun.O,Fun.A,Cat.Entry,Int.toNat_natCast] at *); omega))
          · refine ⟨⟨j + 1,by omega,(by trivial)⟩,by simp only; omega,Imp.auto hX (by simp only [go_sem,simprocAttr,mjs])⟩
        · have e1 : (exT k y2).take j = exT k y2:=List.take_of_length_le (by omega)
          have e2 : (exT k y2).map (fun s=>t.getD (mvP k b s) 0) = mvL k b t:=by unfold mvL; rw [hy2]
          rw [e1,e2]
          repeat' (first | (rw [rb1]) | (rw [rb2]) | (rw [ra1]) | (rw [ra2]) | (with_reducible first | refine V_seq ?_ | refine V_block ?_ | refine V_skip ?_ | refine V_ret ?_ | refine V_exit ?_) | ((with_reducible refine V_cond ?_); simp only [go_sem,simprocAttr]) | ((first | refine V_region (by rw [hn]; rfl) ?_ | refine V_drawn hmix (by rw [hn]; rfl) ?_); intro K hK) | ((first | with_reducible refine evOps_n ?_ | ((with_reducible apply evOps_g); rfl) | with_reducible refine evOpsD_n ?_ | ((with_reducible apply evOpsD_g); rfl)); intro K hK; simp (contextual:=true) only [go_sem,simprocAttr]) | with_reducible refine evOps_nil ?_ | ((with_reducible refine evOpsD_nil ?_ ?_); kernel_rfl) | ((with_reducible refine hK _ ?_); clear hK K) | (with_reducible first | refine And.intro ?_ ?_ | refine nxt_n ?_ | refine nxt_r ?_ | refine nxt_e ?_ | refine blk_n ?_ | refine blk_r ?_ | refine blk_same ?_ | refine blk_other (by decide) ?_ | refine noG_n ?_ | refine noG_r ?_ | refine noG_e ?_ | refine inR_mk ?_ ?_) | ((with_reducible refine evCall_at 51 ?_); refine EvCall.rq (a:=(sp_l09Find (l:=exL k f y2) (r:=mvL k b t) ?_ ?_ ?_)) (b:=cal_l09Find) (c:=?_); all_goals try simp only [go_sem,simprocAttr]) | (refine fun (hc : (_ : Bool) = _)=>?_; try simp only [hcS] at hc))
          all_goals try (first | (with_reducible assumption) | ((try simp only [Cat.F,Cat.T,Cat.I,Cat.C,Fun.O,Fun.A,Cat.Entry,Int.toNat_natCast] at *); omega))
          · refine ⟨⟨i + 1,by omega,(by trivial)⟩,by simp only; omega,Imp.auto hX (by simp only [go_sem,simprocAttr,rs1])⟩
      · have e1 : i = (exL k f y1).length:=by omega
        subst e1
        repeat' (first | (rw [rb1]) | (with_reducible first | refine V_seq ?_ | refine V_block ?_ | refine V_skip ?_ | refine V_ret ?_ | refine V_exit ?_) | ((with_reducible refine V_cond ?_); simp only [go_sem,simprocAttr]) | ((first | refine V_region (by rw [hn]; rfl) ?_ | refine V_drawn hmix (by rw [hn]; rfl) ?_); intro K hK) | ((first | with_reducible refine evOps_n ?_ | ((with_reducible apply evOps_g); rfl) | with_reducible refine evOpsD_n ?_ | ((with_reducible apply evOpsD_g); rfl)); intro K hK; simp (contextual:=true) only [go_sem,simprocAttr]) | with_reducible refine evOps_nil ?_ | ((with_reducible refine evOpsD_nil ?_ ?_); kernel_rfl) | ((with_reducible refine hK _ ?_); clear hK K) | (with_reducible first | refine And.intro ?_ ?_ | refine nxt_n ?_ | refine nxt_r ?_ | refine nxt_e ?_ | refine blk_n ?_ | refine blk_r ?_ | refine blk_same ?_ | refine blk_other (by decide) ?_ | refine noG_n ?_ | refine noG_r ?_ | refine noG_e ?_ | refine inR_mk ?_ ?_) | (refine fun (hc : (_ : Bool) = _)=>?_; try simp only [hcS] at hc))
        all_goals try (first | (with_reducible assumption) | ((try simp only [Cat.F,Cat.T,Cat.I,Cat.C,Fun.O,Fun.A,Cat.Entry,Int.toNat_natCast] at *); omega))
        · refine ⟨⟨b + 1,by omega,(by trivial)⟩,by simp only; omega,Imp.auto hX (by simp only [go_sem,simprocAttr,xs1])⟩
    · have e1 : b = k.tgt.fr.length:=by omega
      subst e1
      repeat' (first | (with_reducible first | refine V_seq ?_ | refine V_block ?_ | refine V_skip ?_ | refine V_ret ?_ | refine V_exit ?_) | ((with_reducible refine V_cond ?_); simp only [go_sem,simprocAttr]) | ((first | refine V_region (by rw [hn]; rfl) ?_ | refine V_drawn hmix (by rw [hn]; rfl) ?_); intro K hK) | ((first | with_reducible refine evOps_n ?_ | ((with_reducible apply evOps_g); rfl) | with_reducible refine evOpsD_n ?_ | ((with_reducible apply evOpsD_g); rfl)); intro K hK; simp (contextual:=true) only [go_sem,simprocAttr]) | with_reducible refine evOps_nil ?_ | ((with_reducible refine evOpsD_nil ?_ ?_); kernel_rfl) | ((with_reducible refine hK _ ?_); clear hK K) | (with_reducible first | refine And.intro ?_ ?_ | refine nxt_n ?_ | refine nxt_r ?_ | refine nxt_e ?_ | refine blk_n ?_ | refine blk_r ?_ | refine blk_same ?_ | refine blk_other (by decide) ?_ | refine noG_n ?_ | refine noG_r ?_ | refine noG_e ?_ | refine inR_mk ?_ ?_) | (refine fun (hc : (_ : Bool) = _)=>?_; try simp only [hcS] at hc))
      all_goals try (first | (with_reducible assumption) | ((try simp only [Cat.F,Cat.T,Cat.I,Cat.C,Fun.O,Fun.A,Cat.Entry,Int.toNat_natCast] at *); omega))
      · (first | refine ret_auto ?_ | refine ret_auto' ?_); simp only [go_sem,simprocAttr,Tryz.f50]
end Go.Eng
