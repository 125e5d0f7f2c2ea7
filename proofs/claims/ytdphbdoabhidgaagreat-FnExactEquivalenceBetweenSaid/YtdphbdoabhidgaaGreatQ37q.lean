/- The chosen isomorphisms, the functors to and from a skeleton, by the program and by the reference. -/
import Derived.Test.YtdphbdoabhidgaaGreatKdx
import Derived.Test.YtdphbdoabhidgaaGreatKsx
import Derived.Test.YtdphbdoabhidgaaGreatQ34q
set_option linter.unusedSimpArgs false
set_option linter.unusedVariables false
set_option maxRecDepth 100000
set_option maxHeartbeats 16000000
namespace Go.Eng
open Go Go.Proofs Go.Cats
attribute [local go_sem] List.set_cons_zero List.set_cons_succ chS_zero imS_zero
theorem cal_Category_isomorphic : Callable Tryz.prog 97:=⟨_,Tryz.func97,rfl,rfl⟩
theorem sp_Category_isomorphic {c : Cat} {x y : Int} (s : IsCat c) : Spec Tryz.prog 97 [.bptr [] (catD c),iv x,iv y] [] (iv (lsO c x y)) []:=by
  refine spec_of_V (E:=TE) 0 Tryz.func97 rfl (by simp [Tryz.f97]) fun X hn hX=>?_
  have hI : lsO c x y = fndP (fun f=>0 ≤ c.inv f) (c.hom x y):=rfl
  have h1:=s.toShape.tol
  have h4:=s.toShape.m40
  have hl:=c.homI_len x y c.fr.length
  have hl : (c.hom x y).length ≤ c.fr.length:=hl
  rw [hI]
  repeat' (first|(with_reducible first|refine V_seq ?_|refine V_block ?_|refine V_skip ?_|refine V_ret ?_|refine V_exit ?_)|((with_reducible refine V_cond ?_);simp only [go_sem,simprocAttr])|((refine V_region (by rw [hn];rfl) ?_);intro K hK)|((first|with_reducible refine evOps_n ?_|((with_reducible apply evOps_g);rfl));intro K hK;simp (contextual:=true) only [go_sem,simprocAttr])|with_reducible refine evOps_nil ?_|((with_reducible refine hK _ ?_);clear hK K)|(with_reducible first|refine And.intro ?_ ?_|refine nxt_n ?_|refine nxt_r ?_|refine nxt_e ?_|refine blk_n ?_|refine blk_r ?_|refine blk_same ?_|refine blk_other (by decide) ?_|refine noG_n ?_|refine noG_r ?_|refine noG_e ?_|refine inR_mk ?_ ?_)|((with_reducible refine evCall_at 52 ?_);refine EvCall.rq (a:=(sp_Category_hom ?_ ?_)) (b:=cal_Category_hom) (c:=?_);all_goals try simp only [go_sem,simprocAttr])|(refine fun (hc : (_ : Bool) = _)=>?_;try simp only [hcS] at hc))
  all_goals try (first|(with_reducible assumption)|((try simp only [Cat.F,Cat.T,Cat.I,Cat.C,Fun.O,Fun.A,Cat.Entry,Int.toNat_natCast] at *);omega))
  refine V_loopK (G:={i : Nat // i ≤ (c.hom x y).length ∧ (scan i (fpO (fun f=>0 ≤ c.inv f) (c.hom x y)) = none)}) (fun ⟨i,_⟩=>[(14,iv i),(12,.sl 0)]) [0,13] (fun ⟨i,_⟩=>[(0,⟨1,.arr (ints (c.hom x y))⟩)]) [0] (fun zz=>(c.hom x y).length - zz.1) ⟨0,Nat.zero_le _,by rfl⟩ ?_ ?_
  · exact Imp.auto hX (by simp [go_sem,simprocAttr])
  rintro ⟨i,hii,hwi⟩
  simp only [go_sem,simprocAttr]
  rcases Nat.lt_or_ge i (c.hom x y).length with hlt | hge
  · obtain ⟨g0,g1,g2,g3⟩:=hom_at hlt
    obtain ⟨m,hm⟩ : ∃ m : Nat,(c.hom x y).getD i 0 = m:=⟨((c.hom x y).getD i 0).toNat,by omega⟩
    have hin:=sp_Category_inverse (c:=c) (f:=m) s (by omega)
    rw [← hm] at hin
    repeat' (first|(with_reducible first|refine V_seq ?_|refine V_block ?_|refine V_skip ?_|refine V_ret ?_|refine V_exit ?_)|((with_reducible refine V_cond ?_);simp only [go_sem,simprocAttr])|((refine V_region (by rw [hn];rfl) ?_);intro K hK)|((first|with_reducible refine evOps_n ?_|((with_reducible apply evOps_g);rfl));intro K hK;simp (contextual:=true) only [go_sem,simprocAttr])|with_reducible refine evOps_nil ?_|((with_reducible refine hK _ ?_);clear hK K)|(with_reducible first|refine And.intro ?_ ?_|refine nxt_n ?_|refine nxt_r ?_|refine nxt_e ?_|refine blk_n ?_|refine blk_r ?_|refine blk_same ?_|refine blk_other (by decide) ?_|refine noG_n ?_|refine noG_r ?_|refine noG_e ?_|refine inR_mk ?_ ?_)|((with_reducible refine evCall_at 72 ?_);refine EvCall.mk (hin) cal_Category_inverse [] [] (by simp [go_sem] <;> (repeat' (first|rfl|constructor))) (by simp [go_sem] <;> (repeat' (first|rfl|constructor))) ?_;all_goals try simp only [go_sem,simprocAttr])|(refine fun (hc : (_ : Bool) = _)=>?_;try simp only [hcS] at hc))
    all_goals try (first|(with_reducible assumption)|((try simp only [Cat.F,Cat.T,Cat.I,Cat.C,Fun.O,Fun.A,Cat.Entry,Int.toNat_natCast] at *);omega))
    · (first|refine ret_auto ?_|refine ret_auto' ?_);simp only [go_sem,simprocAttr,Tryz.f97]
      rw [fndP_hit hwi hlt (by assumption)]
    · refine ⟨⟨i + 1,by omega,(by exact scan_next hwi (fpO_f fun q=>absurd q (by omega)))⟩,by simp only;omega,Imp.auto hX (by simp only [go_sem,simprocAttr])⟩
  · have ei : i = (c.hom x y).length:=by omega
    repeat' (first|(with_reducible first|refine V_seq ?_|refine V_block ?_|refine V_skip ?_|refine V_ret ?_|refine V_exit ?_)|((with_reducible refine V_cond ?_);simp only [go_sem,simprocAttr])|((refine V_region (by rw [hn];rfl) ?_);intro K hK)|((first|with_reducible refine evOps_n ?_|((with_reducible apply evOps_g);rfl));intro K hK;simp (contextual:=true) only [go_sem,simprocAttr])|with_reducible refine evOps_nil ?_|((with_reducible refine hK _ ?_);clear hK K)|(with_reducible first|refine And.intro ?_ ?_|refine nxt_n ?_|refine nxt_r ?_|refine nxt_e ?_|refine blk_n ?_|refine blk_r ?_|refine blk_same ?_|refine blk_other (by decide) ?_|refine noG_n ?_|refine noG_r ?_|refine noG_e ?_|refine inR_mk ?_ ?_)|(refine fun (hc : (_ : Bool) = _)=>?_;try simp only [hcS] at hc))
    all_goals try (first|(with_reducible assumption)|((try simp only [Cat.F,Cat.T,Cat.I,Cat.C,Fun.O,Fun.A,Cat.Entry,Int.toNat_natCast] at *);omega))
    · (first|refine ret_auto ?_|refine ret_auto' ?_);simp only [go_sem,simprocAttr,Tryz.f97]
      rw [fndP_none (by rw [← ei];exact hwi)]
theorem cal_l11Least : Callable Tryz.prog 87:=⟨_,Tryz.func87,rfl,rfl⟩
theorem sp_l11Least {c : Cat} {x y : Int} (s : IsCat c) : Spec Tryz.prog 87 [catV c,iv x,iv y] [] (iv (lsO c x y)) []:=by
  refine spec_of_V (E:=TE) 0 Tryz.func87 rfl (by simp [Tryz.f87]) fun X hn hX=>?_
  have hI : lsO c x y = fndP (fun f=>0 ≤ c.inv f) (c.hom x y):=rfl
  have h1:=s.toShape.tol
  have h4:=s.toShape.m40
  have hl:=c.homI_len x y c.fr.length
  have hl : (c.hom x y).length ≤ c.fr.length:=hl
  rw [hI]
  repeat' (first|(with_reducible first|refine V_seq ?_|refine V_block ?_|refine V_skip ?_|refine V_ret ?_|refine V_exit ?_)|((with_reducible refine V_cond ?_);simp only [go_sem,simprocAttr])|((first|refine V_region (by rw [hn];rfl) ?_|refine V_drawn hmix (by rw [hn];rfl) ?_);intro K hK)|((first|with_reducible refine evOps_n ?_|((with_reducible apply evOps_g);rfl)|with_reducible refine evOpsD_n ?_|((with_reducible apply evOpsD_g);rfl));intro K hK;simp (contextual:=true) only [go_sem,simprocAttr])|with_reducible refine evOps_nil ?_|((with_reducible refine evOpsD_nil ?_ ?_);kernel_rfl)|((with_reducible refine hK _ ?_);clear hK K)|(with_reducible first|refine And.intro ?_ ?_|refine nxt_n ?_|refine nxt_r ?_|refine nxt_e ?_|refine blk_n ?_|refine blk_r ?_|refine blk_same ?_|refine blk_other (by decide) ?_|refine noG_n ?_|refine noG_r ?_|refine noG_e ?_|refine inR_mk ?_ ?_)|((with_reducible refine evCall_at 46 ?_);refine EvCall.rq (a:=(sp_l02Hom ?_ ?_)) (b:=cal_l02Hom) (c:=?_);all_goals try simp only [go_sem,simprocAttr])|(refine fun (hc : (_ : Bool) = _)=>?_;try simp only [hcS] at hc))
  all_goals try (first|(with_reducible assumption)|((try simp only [Cat.F,Cat.T,Cat.I,Cat.C,Fun.O,Fun.A,Cat.Entry,Int.toNat_natCast] at *);omega))
  refine V_loopK (G:={i : Nat // i ≤ (c.hom x y).length ∧ (scan i (fpO (fun f=>0 ≤ c.inv f) (c.hom x y)) = none)}) (fun ⟨i,_⟩=>[(8,iv i),(7,.sl 1)]) [3] (fun ⟨i,_⟩=>[(1,⟨1,.arr (ints (c.hom x y))⟩)]) [1] (fun zz=>(c.hom x y).length - zz.1) ⟨0,Nat.zero_le _,by rfl⟩ ?_ ?_
  · exact Imp.auto hX (by simp [go_sem,simprocAttr])
  rintro ⟨i,hii,hwi⟩
  simp only [go_sem,simprocAttr]
  rcases Nat.lt_or_ge i (c.hom x y).length with hlt | hge
  · obtain ⟨g0,g1,g2,g3⟩:=hom_at hlt
    obtain ⟨m,hm⟩ : ∃ m : Nat,(c.hom x y).getD i 0 = m:=⟨((c.hom x y).getD i 0).toNat,by omega⟩
    have hin:=sp_l02Inverse (c:=c) (f:=m) s (by omega)
    rw [← hm] at hin
    repeat' (first|(with_reducible first|refine V_seq ?_|refine V_block ?_|refine V_skip ?_|refine V_ret ?_|refine V_exit ?_)|((with_reducible refine V_cond ?_);simp only [go_sem,simprocAttr])|((first|refine V_region (by rw [hn];rfl) ?_|refine V_drawn hmix (by rw [hn];rfl) ?_);intro K hK)|((first|with_reducible refine evOps_n ?_|((with_reducible apply evOps_g);rfl)|with_reducible refine evOpsD_n ?_|((with_reducible apply evOpsD_g);rfl));intro K hK;simp (contextual:=true) only [go_sem,simprocAttr])|with_reducible refine evOps_nil ?_|((with_reducible refine evOpsD_nil ?_ ?_);kernel_rfl)|((with_reducible refine hK _ ?_);clear hK K)|(with_reducible first|refine And.intro ?_ ?_|refine nxt_n ?_|refine nxt_r ?_|refine nxt_e ?_|refine blk_n ?_|refine blk_r ?_|refine blk_same ?_|refine blk_other (by decide) ?_|refine noG_n ?_|refine noG_r ?_|refine noG_e ?_|refine inR_mk ?_ ?_)|((with_reducible refine evCall_at 61 ?_);refine EvCall.mk (hin) cal_l02Inverse [] [] (by simp [go_sem] <;> (repeat' (first|rfl|constructor))) (by simp [go_sem] <;> (repeat' (first|rfl|constructor))) ?_;all_goals try simp only [go_sem,simprocAttr])|(refine fun (hc : (_ : Bool) = _)=>?_;try simp only [hcS] at hc))
    all_goals try (first|(with_reducible assumption)|((try simp only [Cat.F,Cat.T,Cat.I,Cat.C,Fun.O,Fun.A,Cat.Entry,Int.toNat_natCast] at *);omega))
    · (first|refine ret_auto ?_|refine ret_auto' ?_);simp only [go_sem,simprocAttr,Tryz.f87]
      rw [fndP_hit hwi hlt (by assumption)]
    · refine ⟨⟨i + 1,by omega,(by exact scan_next hwi (fpO_f fun q=>absurd q (by omega)))⟩,by simp only;omega,Imp.auto hX (by simp only [go_sem,simprocAttr])⟩
  · have ei : i = (c.hom x y).length:=by omega
    repeat' (first|(with_reducible first|refine V_seq ?_|refine V_block ?_|refine V_skip ?_|refine V_ret ?_|refine V_exit ?_)|((with_reducible refine V_cond ?_);simp only [go_sem,simprocAttr])|((first|refine V_region (by rw [hn];rfl) ?_|refine V_drawn hmix (by rw [hn];rfl) ?_);intro K hK)|((first|with_reducible refine evOps_n ?_|((with_reducible apply evOps_g);rfl)|with_reducible refine evOpsD_n ?_|((with_reducible apply evOpsD_g);rfl));intro K hK;simp (contextual:=true) only [go_sem,simprocAttr])|with_reducible refine evOps_nil ?_|((with_reducible refine evOpsD_nil ?_ ?_);kernel_rfl)|((with_reducible refine hK _ ?_);clear hK K)|(with_reducible first|refine And.intro ?_ ?_|refine nxt_n ?_|refine nxt_r ?_|refine nxt_e ?_|refine blk_n ?_|refine blk_r ?_|refine blk_same ?_|refine blk_other (by decide) ?_|refine noG_n ?_|refine noG_r ?_|refine noG_e ?_|refine inR_mk ?_ ?_)|(refine fun (hc : (_ : Bool) = _)=>?_;try simp only [hcS] at hc))
    all_goals try (first|(with_reducible assumption)|((try simp only [Cat.F,Cat.T,Cat.I,Cat.C,Fun.O,Fun.A,Cat.Entry,Int.toNat_natCast] at *);omega))
    · (first|refine ret_auto ?_|refine ret_auto' ?_);simp only [go_sem,simprocAttr,Tryz.f87]
      rw [fndP_none (by rw [← ei];exact hwi)]
theorem cal_Category_chosen : Callable Tryz.prog 71:=⟨_,Tryz.func71,rfl,rfl⟩
theorem sp_Category_chosen {c : Cat} (s : IsCat c) : Spec Tryz.prog 71 [.bptr [] (catD c)] [] (.sl 0) [(0,⟨1,.arr (ints (chS c c.ob.toNat))⟩)]:=by
  refine spec_of_V (E:=TE) 0 Tryz.func71 rfl (by simp [Tryz.f71]) fun X hn hX=>?_
  have o0:=s.toShape.ob0
  have o8:=s.toShape.ob8
  have idl:=s.toShape.idl
  have hil:=isoC_len c
  have hkl : (skO c c.ob.toNat).length ≤ c.ob.toNat:=selP_len _ _
  have hcl:=sp_Category_isoClasses s
  have hle : Spec Tryz.prog 95 [.bor [] (ints (isoC c))] [] (.sl 0) [(0,⟨1,.arr (ints (skO c c.ob.toNat))⟩)]:=sp_partition_leaders (n:=c.ob.toNat) (by omega)
  repeat' (first|(with_reducible first|refine V_seq ?_|refine V_block ?_|refine V_skip ?_|refine V_ret ?_|refine V_exit ?_)|((with_reducible refine V_cond ?_);simp only [go_sem,simprocAttr])|((refine V_region (by rw [hn];rfl) ?_);intro K hK)|((first|with_reducible refine evOps_n ?_|((with_reducible apply evOps_g);rfl));intro K hK;simp (contextual:=true) only [go_sem,simprocAttr])|with_reducible refine evOps_nil ?_|((with_reducible refine hK _ ?_);clear hK K)|(with_reducible first|refine And.intro ?_ ?_|refine nxt_n ?_|refine nxt_r ?_|refine nxt_e ?_|refine blk_n ?_|refine blk_r ?_|refine blk_same ?_|refine blk_other (by decide) ?_|refine noG_n ?_|refine noG_r ?_|refine noG_e ?_|refine inR_mk ?_ ?_)|((with_reducible refine evCall_at 75 ?_);refine EvCall.mk (hcl) cal_Category_isoClasses [(0,0)] [] (by simp [go_sem] <;> (repeat' (first|rfl|constructor))) (by simp [go_sem] <;> (repeat' (first|rfl|constructor))) ?_;all_goals try simp only [go_sem,simprocAttr])|((with_reducible refine evCall_at 95 ?_);refine EvCall.mk (hle) cal_partition_leaders [(0,1)] [0] (by simp [go_sem] <;> (repeat' (first|rfl|constructor))) (by simp [go_sem] <;> (repeat' (first|rfl|constructor))) ?_;all_goals try simp only [go_sem,simprocAttr])|(refine fun (hc : (_ : Bool) = _)=>?_;try simp only [hcS] at hc))
  all_goals try (first|(with_reducible assumption)|((try simp only [Cat.F,Cat.T,Cat.I,Cat.C,Fun.O,Fun.A,Cat.Entry,Int.toNat_natCast] at *);omega))
  refine V_loopK (G:={x : Nat // x ≤ c.ob.toNat ∧ (True)}) (fun ⟨x,_⟩=>[(16,iv x),(5,.sl 2)]) [0,2,4,14,15] (fun ⟨x,_⟩=>[(2,⟨1,.arr (ints (chS c x))⟩)]) [2] (fun zz=>c.ob.toNat - zz.1) ⟨0,Nat.zero_le _,by first|trivial|simp⟩ ?_ ?_
  · exact Imp.auto hX (by simp [go_sem,simprocAttr])
  rintro ⟨x,hix,hwx⟩
  simp only [go_sem,simprocAttr]
  have hsl:=chS_len (c:=c) x
  rcases Nat.lt_or_ge x c.ob.toNat with hlt | hge
  · have w:=ldW s hlt
    obtain ⟨w0,w1,w2,w3,w4,w5,w6,w7,w8,w9⟩:=w
    have hls:=sp_Category_isomorphic (c:=c) (x:=(x : Int)) (y:=ldO c x) s
    rw [← w7] at hls
    repeat' (first|(with_reducible first|refine V_seq ?_|refine V_block ?_|refine V_skip ?_|refine V_ret ?_|refine V_exit ?_)|((with_reducible refine V_cond ?_);simp only [go_sem,simprocAttr])|((refine V_region (by rw [hn];rfl) ?_);intro K hK)|((first|with_reducible refine evOps_n ?_|((with_reducible apply evOps_g);rfl));intro K hK;simp (contextual:=true) only [go_sem,simprocAttr])|with_reducible refine evOps_nil ?_|((with_reducible refine hK _ ?_);clear hK K)|(with_reducible first|refine And.intro ?_ ?_|refine nxt_n ?_|refine nxt_r ?_|refine nxt_e ?_|refine blk_n ?_|refine blk_r ?_|refine blk_same ?_|refine blk_other (by decide) ?_|refine noG_n ?_|refine noG_r ?_|refine noG_e ?_|refine inR_mk ?_ ?_)|((with_reducible refine evCall_at 97 ?_);refine EvCall.mk (hls) cal_Category_isomorphic [] [] (by simp [go_sem] <;> (repeat' (first|rfl|constructor))) (by simp [go_sem] <;> (repeat' (first|rfl|constructor))) ?_;all_goals try simp only [go_sem,simprocAttr])|(refine fun (hc : (_ : Bool) = _)=>?_;try simp only [hcS] at hc))
    all_goals try (first|(with_reducible assumption)|((try simp only [Cat.F,Cat.T,Cat.I,Cat.C,Fun.O,Fun.A,Cat.Entry,Int.toNat_natCast] at *);omega))
    · have e1:=chS_yes (c:=c) (x:=x) (by omega)
      refine ⟨⟨x + 1,by omega,(by trivial)⟩,by simp only;omega,Imp.auto hX (by simp only [go_sem,simprocAttr,e1])⟩
    · have e1:=chS_no (c:=c) (x:=x) (by omega)
      rw [← w7] at e1
      refine ⟨⟨x + 1,by omega,(by trivial)⟩,by simp only;omega,Imp.auto hX (by simp only [go_sem,simprocAttr,e1])⟩
  · have ex : x = c.ob.toNat:=by omega
    subst ex
    repeat' (first|(with_reducible first|refine V_seq ?_|refine V_block ?_|refine V_skip ?_|refine V_ret ?_|refine V_exit ?_)|((with_reducible refine V_cond ?_);simp only [go_sem,simprocAttr])|((refine V_region (by rw [hn];rfl) ?_);intro K hK)|((first|with_reducible refine evOps_n ?_|((with_reducible apply evOps_g);rfl));intro K hK;simp (contextual:=true) only [go_sem,simprocAttr])|with_reducible refine evOps_nil ?_|((with_reducible refine hK _ ?_);clear hK K)|(with_reducible first|refine And.intro ?_ ?_|refine nxt_n ?_|refine nxt_r ?_|refine nxt_e ?_|refine blk_n ?_|refine blk_r ?_|refine blk_same ?_|refine blk_other (by decide) ?_|refine noG_n ?_|refine noG_r ?_|refine noG_e ?_|refine inR_mk ?_ ?_)|(refine fun (hc : (_ : Bool) = _)=>?_;try simp only [hcS] at hc))
    all_goals try (first|(with_reducible assumption)|((try simp only [Cat.F,Cat.T,Cat.I,Cat.C,Fun.O,Fun.A,Cat.Entry,Int.toNat_natCast] at *);omega))
    · (first|refine ret_auto ?_|refine ret_auto' ?_);simp only [go_sem,simprocAttr,Tryz.f71]
theorem cal_l11Chosen : Callable Tryz.prog 59:=⟨_,Tryz.func59,rfl,rfl⟩
theorem sp_l11Chosen {c : Cat} (s : IsCat c) : Spec Tryz.prog 59 [catV c] [] (.sl 0) [(0,⟨1,.arr (ints (chS c c.ob.toNat))⟩)]:=by
  refine spec_of_V (E:=TE) 0 Tryz.func59 rfl (by simp [Tryz.f59]) fun X hn hX=>?_
  have o0:=s.toShape.ob0
  have o8:=s.toShape.ob8
  have idl:=s.toShape.idl
  have hil:=isoC_len c
  have hcl:=sp_l11Classes s
  repeat' (first|(with_reducible first|refine V_seq ?_|refine V_block ?_|refine V_skip ?_|refine V_ret ?_|refine V_exit ?_)|((with_reducible refine V_cond ?_);simp only [go_sem,simprocAttr])|((refine V_region (by rw [hn];rfl) ?_);intro K hK)|((first|with_reducible refine evOps_n ?_|((with_reducible apply evOps_g);rfl));intro K hK;simp (contextual:=true) only [go_sem,simprocAttr])|with_reducible refine evOps_nil ?_|((with_reducible refine hK _ ?_);clear hK K)|(with_reducible first|refine And.intro ?_ ?_|refine nxt_n ?_|refine nxt_r ?_|refine nxt_e ?_|refine blk_n ?_|refine blk_r ?_|refine blk_same ?_|refine blk_other (by decide) ?_|refine noG_n ?_|refine noG_r ?_|refine noG_e ?_|refine inR_mk ?_ ?_)|((with_reducible refine evCall_at 62 ?_);refine EvCall.mk (hcl) cal_l11Classes [(0,1)] [] (by simp [go_sem] <;> (repeat' (first|rfl|constructor))) (by simp [go_sem] <;> (repeat' (first|rfl|constructor))) ?_;all_goals try simp only [go_sem,simprocAttr])|(refine fun (hc : (_ : Bool) = _)=>?_;try simp only [hcS] at hc))
  all_goals try (first|(with_reducible assumption)|((try simp only [Cat.F,Cat.T,Cat.I,Cat.C,Fun.O,Fun.A,Cat.Entry,Int.toNat_natCast] at *);omega))
  refine V_loopK (G:={x : Nat // x ≤ c.ob.toNat ∧ (True)}) (fun ⟨x,_⟩=>[(5,iv x),(3,.sl 1),(4,.sl 2)]) [1,2] (fun ⟨x,_⟩=>[(1,⟨1,.arr (ints (isoC c))⟩),(2,⟨1,.arr (ints (chS c x))⟩)]) [1,2] (fun zz=>c.ob.toNat - zz.1) ⟨0,Nat.zero_le _,by first|trivial|simp⟩ ?_ ?_
  · exact Imp.auto hX (by simp [go_sem,simprocAttr])
  rintro ⟨x,hix,hwx⟩
  simp only [go_sem,simprocAttr]
  have hsl:=chS_len (c:=c) x
  rcases Nat.lt_or_ge x c.ob.toNat with hlt | hge
  · have hls:=sp_l11Least (c:=c) (x:=(x : Int)) (y:=ldO c x) s
    have hld : ldO c x = idxOf (isoC c) ((isoC c).getD x 0):=rfl
    rw [hld] at hls
    repeat' (first|(with_reducible first|refine V_seq ?_|refine V_block ?_|refine V_skip ?_|refine V_ret ?_|refine V_exit ?_)|((with_reducible refine V_cond ?_);simp only [go_sem,simprocAttr])|((refine V_region (by rw [hn];rfl) ?_);intro K hK)|((first|with_reducible refine evOps_n ?_|((with_reducible apply evOps_g);rfl));intro K hK;simp (contextual:=true) only [go_sem,simprocAttr])|with_reducible refine evOps_nil ?_|((with_reducible refine hK _ ?_);clear hK K)|(with_reducible first|refine And.intro ?_ ?_|refine nxt_n ?_|refine nxt_r ?_|refine nxt_e ?_|refine blk_n ?_|refine blk_r ?_|refine blk_same ?_|refine blk_other (by decide) ?_|refine noG_n ?_|refine noG_r ?_|refine noG_e ?_|refine inR_mk ?_ ?_)|((with_reducible refine evCall_at 60 ?_);refine EvCall.rq (a:=(sp_l01Index ?_)) (b:=cal_l01Index) (c:=?_);all_goals try simp only [go_sem,simprocAttr])|((with_reducible refine evCall_at 87 ?_);refine EvCall.mk (hls) cal_l11Least [] [] (by simp [go_sem] <;> (repeat' (first|rfl|constructor))) (by simp [go_sem] <;> (repeat' (first|rfl|constructor))) ?_;all_goals try simp only [go_sem,simprocAttr])|(refine fun (hc : (_ : Bool) = _)=>?_;try simp only [hcS] at hc))
    all_goals try (first|(with_reducible assumption)|((try simp only [Cat.F,Cat.T,Cat.I,Cat.C,Fun.O,Fun.A,Cat.Entry,Int.toNat_natCast] at *);omega))
    · have e1:=chS_yes (c:=c) (x:=x) (by assumption)
      refine ⟨⟨x + 1,by omega,(by trivial)⟩,by simp only;omega,Imp.auto hX (by simp only [go_sem,simprocAttr,e1])⟩
    · have e1:=chS_no (c:=c) (x:=x) (by assumption)
      rw [hld] at e1
      refine ⟨⟨x + 1,by omega,(by trivial)⟩,by simp only;omega,Imp.auto hX (by simp only [go_sem,simprocAttr,e1])⟩
  · have ex : x = c.ob.toNat:=by omega
    subst ex
    repeat' (first|(with_reducible first|refine V_seq ?_|refine V_block ?_|refine V_skip ?_|refine V_ret ?_|refine V_exit ?_)|((with_reducible refine V_cond ?_);simp only [go_sem,simprocAttr])|((refine V_region (by rw [hn];rfl) ?_);intro K hK)|((first|with_reducible refine evOps_n ?_|((with_reducible apply evOps_g);rfl));intro K hK;simp (contextual:=true) only [go_sem,simprocAttr])|with_reducible refine evOps_nil ?_|((with_reducible refine hK _ ?_);clear hK K)|(with_reducible first|refine And.intro ?_ ?_|refine nxt_n ?_|refine nxt_r ?_|refine nxt_e ?_|refine blk_n ?_|refine blk_r ?_|refine blk_same ?_|refine blk_other (by decide) ?_|refine noG_n ?_|refine noG_r ?_|refine noG_e ?_|refine inR_mk ?_ ?_)|(refine fun (hc : (_ : Bool) = _)=>?_;try simp only [hcS] at hc))
    all_goals try (first|(with_reducible assumption)|((try simp only [Cat.F,Cat.T,Cat.I,Cat.C,Fun.O,Fun.A,Cat.Entry,Int.toNat_natCast] at *);omega))
    · (first|refine ret_auto ?_|refine ret_auto' ?_);simp only [go_sem,simprocAttr,Tryz.f59]
end Go.Eng
