/- The functors to and from a skeleton, by the program and by the reference. -/
import Derived.Test.YtdphbdoabhidgaaGreatKdx
import Derived.Test.YtdphbdoabhidgaaGreatQ37q
set_option linter.unusedSimpArgs false
set_option linter.unusedVariables false
set_option maxRecDepth 100000
set_option maxHeartbeats 16000000
namespace Go.Eng
open Go Go.Proofs Go.Cats
attribute [local go_sem] List.set_cons_zero List.set_cons_succ imS_zero
theorem cal_Category_toSkeleton : Callable Tryz.prog 37:=⟨_,Tryz.func37,rfl,rfl⟩
theorem sp_Category_toSkeleton {c : Cat} (s : IsCat c) : Spec Tryz.prog 37 [.bptr [] (catD c)] [] (.agg [iv (toS c).src.ob,.sl 0,.sl 1,.sl 2,.sl 3,iv (toS c).tgt.ob,.sl 4,.sl 5,.sl 6,.sl 7,.sl 8,.sl 9]) [(0,⟨1,.arr (ints (toS c).src.fr)⟩),(1,⟨1,.arr (ints (toS c).src.to)⟩),(2,⟨1,.arr (ints (toS c).src.id)⟩),(3,⟨1,.arr (intss (toS c).src.co)⟩),(4,⟨1,.arr (ints (toS c).tgt.fr)⟩),(5,⟨1,.arr (ints (toS c).tgt.to)⟩),(6,⟨1,.arr (ints (toS c).tgt.id)⟩),(7,⟨1,.arr (intss (toS c).tgt.co)⟩),(8,⟨1,.arr (ints (toS c).obs)⟩),(9,⟨1,.arr (ints (toS c).ars)⟩)]:=by
  refine spec_of_V (E:=TE) 0 Tryz.func37 rfl (by simp [Tryz.f37]) fun X hn hX=>?_
  have o0:=s.toShape.ob0
  have o8:=s.toShape.ob8
  have m40:=s.toShape.m40
  have tol:=s.toShape.tol
  have hil:=isoC_len c
  have hcl:=chS_len (c:=c) c.ob.toNat
  have hil2:=imS_len (c:=c) c.fr.length
  have al:=(full_sub s (skO c c.ob.toNat)).len
  have al : (skA c).length ≤ c.fr.length:=al
  have hsa:=sp_Category_skeletonArrows s
  have hsu:=sp_Category_sub (c:=c) (A:=skA c) s (full_sub s _)
  have hch:=sp_Category_chosen s
  have hic:=sp_Category_isoClasses s
  have hfu:=sp_functor (c:=c) (d:=skC c) (p:=isoC c) (q:=imS c c.fr.length) s.catB (skC_cat s).catB (by omega) (by omega)
  repeat' (first|(with_reducible first|refine V_seq ?_|refine V_block ?_|refine V_skip ?_|refine V_ret ?_|refine V_exit ?_)|((with_reducible refine V_cond ?_);simp only [go_sem,simprocAttr])|((first|refine V_region (by rw [hn];rfl) ?_|refine V_drawn hmix (by rw [hn];rfl) ?_);intro K hK)|((first|with_reducible refine evOps_n ?_|((with_reducible apply evOps_g);rfl)|with_reducible refine evOpsD_n ?_|((with_reducible apply evOpsD_g);rfl));intro K hK;simp (contextual:=true) only [go_sem,simprocAttr])|with_reducible refine evOps_nil ?_|((with_reducible refine evOpsD_nil ?_ ?_);kernel_rfl)|((with_reducible refine hK _ ?_);clear hK K)|(with_reducible first|refine And.intro ?_ ?_|refine nxt_n ?_|refine nxt_r ?_|refine nxt_e ?_|refine blk_n ?_|refine blk_r ?_|refine blk_same ?_|refine blk_other (by decide) ?_|refine noG_n ?_|refine noG_r ?_|refine noG_e ?_|refine inR_mk ?_ ?_)|((with_reducible refine evCall_at 69 ?_);refine EvCall.mk (hsa) cal_Category_skeletonArrows [(0,1)] [] (by simp [go_sem] <;> (repeat' (first|rfl|constructor))) (by simp [go_sem] <;> (repeat' (first|rfl|constructor))) ?_;all_goals try simp only [go_sem,simprocAttr])|((with_reducible refine evCall_at 70 ?_);refine EvCall.mk (hsu) cal_Category_sub [(0,2),(1,3),(2,4),(3,5),(4,6)] [1] (by simp [go_sem] <;> (repeat' (first|rfl|constructor))) (by simp [go_sem] <;> (repeat' (first|rfl|constructor))) ?_;all_goals try simp only [go_sem,simprocAttr])|((with_reducible refine evCall_at 71 ?_);refine EvCall.mk (hch) cal_Category_chosen [(0,8)] [] (by simp [go_sem] <;> (repeat' (first|rfl|constructor))) (by simp [go_sem] <;> (repeat' (first|rfl|constructor))) ?_;all_goals try simp only [go_sem,simprocAttr])|(refine fun (hc : (_ : Bool) = _)=>?_;try simp only [hcS] at hc))
  all_goals try (first|(with_reducible assumption)|((try simp only [Cat.F,Cat.T,Cat.I,Cat.C,Fun.O,Fun.A,Cat.Entry,Int.toNat_natCast] at *);omega))
  refine V_loopK (G:={f : Nat // f ≤ c.fr.length ∧ (True)}) (fun ⟨f,_⟩=>[(26,iv f),(3,.sl 1),(4,.ptr 7 0),(5,.sl 6),(6,.sl 8),(7,.sl 9)]) [0,2,25] (fun ⟨f,_⟩=>[(9,⟨1,.arr (ints (imS c f))⟩)]) [9] (fun zz=>c.fr.length - zz.1) ⟨0,Nat.zero_le _,by first|trivial|simp⟩ ?_ ?_
  · exact Imp.auto hX (by simp [go_sem,simprocAttr])
  rintro ⟨f,hif,hwf⟩
  simp only [go_sem,simprocAttr]
  have hif:=imS_len (c:=c) f
  rcases Nat.lt_or_ge f c.fr.length with hlt | hge
  · have hF:=s.toShape.frw f hlt
    have hT:=s.toShape.tow f (by omega)
    have w:=rtW s hlt
    have w2:=chW s (x:=(c.fr.getD f 0).toNat) (by omega)
    have w3:=chW s (x:=(c.to.getD f 0).toNat) (by omega)
    have e1:=imS_succ (c:=c) f
    unfold rtA at e1
    have hu:=chS_at (c:=c) (n:=c.ob.toNat) (x:=(c.fr.getD f 0).toNat) (by omega)
    have hv:=chS_at (c:=c) (n:=c.ob.toNat) (x:=(c.to.getD f 0).toNat) (by omega)
    obtain ⟨i0,i1,iT,m0,m1,mT,mm⟩:=w
    have u0:=w2.lo
    have u1:=w2.hi
    have v0:=w3.lo
    have v1:=w3.hi
    clear w2 w3
    generalize chO c (c.fr.getD f 0).toNat = u at *
    generalize chO c (c.to.getD f 0).toNat = v at *
    obtain ⟨m,hm⟩ : ∃ m : Nat,u = m:=⟨u.toNat,by omega⟩
    have hin:=sp_Category_inverse (c:=c) (f:=m) s (by omega)
    rw [← hm] at hin
    have r1:=row_len s.toShape i0 i1
    have r2:=row_len s.toShape m0 m1
    have col:=s.toShape.col
    repeat' (first|(rw [hu])|(rw [hv])|(with_reducible first|refine V_seq ?_|refine V_block ?_|refine V_skip ?_|refine V_ret ?_|refine V_exit ?_)|((with_reducible refine V_cond ?_);simp only [go_sem,simprocAttr])|((first|refine V_region (by rw [hn];rfl) ?_|refine V_drawn hmix (by rw [hn];rfl) ?_);intro K hK)|((first|with_reducible refine evOps_n ?_|((with_reducible apply evOps_g);rfl)|with_reducible refine evOpsD_n ?_|((with_reducible apply evOpsD_g);rfl));intro K hK;simp (contextual:=true) only [go_sem,simprocAttr])|with_reducible refine evOps_nil ?_|((with_reducible refine evOpsD_nil ?_ ?_);kernel_rfl)|((with_reducible refine hK _ ?_);clear hK K)|(with_reducible first|refine And.intro ?_ ?_|refine nxt_n ?_|refine nxt_r ?_|refine nxt_e ?_|refine blk_n ?_|refine blk_r ?_|refine blk_same ?_|refine blk_other (by decide) ?_|refine noG_n ?_|refine noG_r ?_|refine noG_e ?_|refine inR_mk ?_ ?_)|((with_reducible refine evCall_at 72 ?_);refine EvCall.mk (hin) cal_Category_inverse [] [] (by simp [go_sem] <;> (repeat' (first|rfl|constructor))) (by simp [go_sem] <;> (repeat' (first|rfl|constructor))) ?_;all_goals try simp only [go_sem,simprocAttr])|((with_reducible refine evCall_at 53 ?_);refine EvCall.rq (a:=(sp_Category_then (c:=c) ?_ ?_ ?_ ?_)) (b:=cal_Category_then) (c:=?_);all_goals try simp only [go_sem,simprocAttr])|((with_reducible refine evCall_at 73 ?_);refine EvCall.rq (a:=(sp_index_int64 (l:=skA c) ?_)) (b:=cal_index_int64) (c:=?_);all_goals try simp only [go_sem,simprocAttr])|(refine fun (hc : (_ : Bool) = _)=>?_;try simp only [hcS] at hc))
    all_goals try (first|(with_reducible assumption)|((try simp only [Cat.F,Cat.T,Cat.I,Cat.C,Fun.O,Fun.A,Cat.Entry,Int.toNat_natCast] at *);omega))
    · refine ⟨⟨f + 1,by omega,(by trivial)⟩,by simp only;omega,Imp.auto hX (by simp only [go_sem,simprocAttr,e1])⟩
  · have ei : f = c.fr.length:=by omega
    subst ei
    repeat' (first|(with_reducible first|refine V_seq ?_|refine V_block ?_|refine V_skip ?_|refine V_ret ?_|refine V_exit ?_)|((with_reducible refine V_cond ?_);simp only [go_sem,simprocAttr])|((first|refine V_region (by rw [hn];rfl) ?_|refine V_drawn hmix (by rw [hn];rfl) ?_);intro K hK)|((first|with_reducible refine evOps_n ?_|((with_reducible apply evOps_g);rfl)|with_reducible refine evOpsD_n ?_|((with_reducible apply evOpsD_g);rfl));intro K hK;simp (contextual:=true) only [go_sem,simprocAttr])|with_reducible refine evOps_nil ?_|((with_reducible refine evOpsD_nil ?_ ?_);kernel_rfl)|((with_reducible refine hK _ ?_);clear hK K)|(with_reducible first|refine And.intro ?_ ?_|refine nxt_n ?_|refine nxt_r ?_|refine nxt_e ?_|refine blk_n ?_|refine blk_r ?_|refine blk_same ?_|refine blk_other (by decide) ?_|refine noG_n ?_|refine noG_r ?_|refine noG_e ?_|refine inR_mk ?_ ?_)|((with_reducible refine evCall_at 75 ?_);refine EvCall.mk (hic) cal_Category_isoClasses [(0,12)] [] (by simp [go_sem] <;> (repeat' (first|rfl|constructor))) (by simp [go_sem] <;> (repeat' (first|rfl|constructor))) ?_;all_goals try simp only [go_sem,simprocAttr])|((with_reducible refine evCall_at 74 ?_);refine EvCall.mk (hfu) cal_functor [(0,13),(1,14),(2,15),(3,16),(4,17),(5,18),(6,19),(7,20),(8,21),(9,22)] [7,2,3,4,5,12,9] (by simp [go_sem] <;> (repeat' (first|rfl|constructor))) (by simp [go_sem] <;> (repeat' (first|rfl|constructor))) ?_;all_goals try simp only [go_sem,simprocAttr])|(refine fun (hc : (_ : Bool) = _)=>?_;try simp only [hcS] at hc))
    all_goals try (first|(with_reducible assumption)|((try simp only [Cat.F,Cat.T,Cat.I,Cat.C,Fun.O,Fun.A,Cat.Entry,Int.toNat_natCast] at *);omega))
    · (first|refine ret_auto ?_|refine ret_auto' ?_);simp only [go_sem,simprocAttr,Tryz.f37]
      exact ⟨⟨rfl,rfl,rfl,rfl,rfl,rfl,rfl,rfl,rfl,rfl⟩,rfl⟩
theorem cal_Category_fromSkeleton : Callable Tryz.prog 38:=⟨_,Tryz.func38,rfl,rfl⟩
theorem sp_Category_fromSkeleton {c : Cat} (s : IsCat c) : Spec Tryz.prog 38 [.bptr [] (catD c)] [] (.agg [iv (frS c).src.ob,.sl 0,.sl 1,.sl 2,.sl 3,iv (frS c).tgt.ob,.sl 4,.sl 5,.sl 6,.sl 7,.sl 8,.sl 9]) [(0,⟨1,.arr (ints (frS c).src.fr)⟩),(1,⟨1,.arr (ints (frS c).src.to)⟩),(2,⟨1,.arr (ints (frS c).src.id)⟩),(3,⟨1,.arr (intss (frS c).src.co)⟩),(4,⟨1,.arr (ints (frS c).tgt.fr)⟩),(5,⟨1,.arr (ints (frS c).tgt.to)⟩),(6,⟨1,.arr (ints (frS c).tgt.id)⟩),(7,⟨1,.arr (intss (frS c).tgt.co)⟩),(8,⟨1,.arr (ints (frS c).obs)⟩),(9,⟨1,.arr (ints (frS c).ars)⟩)]:=by
  refine spec_of_V (E:=TE) 0 Tryz.func38 rfl (by simp [Tryz.f38]) fun X hn hX=>?_
  have o0:=s.toShape.ob0
  have o8:=s.toShape.ob8
  have m40:=s.toShape.m40
  have hkl : (obS c (skA c) c.ob.toNat).length ≤ c.ob.toNat:=selP_len _ _
  have al:=(full_sub s (skO c c.ob.toNat)).len
  have al : (skA c).length ≤ c.fr.length:=al
  have hsa:=sp_Category_skeletonArrows s
  have hsu:=sp_Category_sub (c:=c) (A:=skA c) s (full_sub s _)
  have hfu:=sp_functor (c:=skC c) (d:=c) (p:=obS c (skA c) c.ob.toNat) (q:=skA c) (skC_cat s).catB s.catB (by omega) (by omega)
  repeat' (first|(with_reducible first|refine V_seq ?_|refine V_skip ?_|refine V_ret ?_)|((with_reducible refine V_cond ?_);simp only [go_sem,simprocAttr])|((refine V_region (by rw [hn];rfl) ?_);intro K hK)|((first|with_reducible refine evOps_n ?_|((with_reducible apply evOps_g);rfl));intro K hK;simp (contextual:=true) only [go_sem,simprocAttr])|with_reducible refine evOps_nil ?_|((with_reducible refine hK _ ?_);clear hK K)|(with_reducible first|refine And.intro ?_ ?_|refine nxt_n ?_|refine nxt_r ?_|refine inR_mk ?_ ?_)|((with_reducible refine evCall_at 69 ?_);refine EvCall.mk (hsa) cal_Category_skeletonArrows [(0,1)] [] (by simp [go_sem] <;> (repeat' (first|rfl|constructor))) (by simp [go_sem] <;> (repeat' (first|rfl|constructor))) ?_;all_goals try simp only [go_sem,simprocAttr])|((with_reducible refine evCall_at 70 ?_);refine EvCall.mk (hsu) cal_Category_sub [(0,2),(1,3),(2,4),(3,5),(4,6)] [1] (by simp [go_sem] <;> (repeat' (first|rfl|constructor))) (by simp [go_sem] <;> (repeat' (first|rfl|constructor))) ?_;all_goals try simp only [go_sem,simprocAttr])|((with_reducible refine evCall_at 74 ?_);refine EvCall.mk (hfu) cal_functor [(0,8),(1,9),(2,10),(3,11),(4,12),(5,13),(6,14),(7,15),(8,16),(9,17)] [7,2,3,4,5,6,1] (by simp [go_sem] <;> (repeat' (first|rfl|constructor))) (by simp [go_sem] <;> (repeat' (first|rfl|constructor))) ?_;all_goals try simp only [go_sem,simprocAttr])|(refine fun (hc : (_ : Bool) = _)=>?_;try simp only [hcS] at hc))
  all_goals try (first|(with_reducible assumption)|((try simp only [Cat.F,Cat.T,Cat.I,Cat.C,Fun.O,Fun.A,Cat.Entry,Int.toNat_natCast] at *);omega))
  · have e : Rk.arr (ints (obS c (skA c) c.ob.toNat)) = Rk.arr (ints (frS c).obs):=by rw [skO_obs s];rfl
    (first|refine ret_auto ?_|refine ret_auto' ?_);simp only [go_sem,simprocAttr,Tryz.f38]
    exact ⟨⟨rfl,rfl,rfl,rfl,rfl,rfl,rfl,rfl,e,rfl⟩,rfl⟩
noncomputable def _root_.Go.Cats.xsI (c : Cat) (x : Nat) : List Int:=(List.range x).map fun x=>idxOf (skO c c.ob.toNat) (c.T (chO c x))
theorem _root_.Go.Cats.xsI_succ (c : Cat) (x : Nat) : xsI c (x + 1) = xsI c x ++ [idxOf (skO c c.ob.toNat) (c.T (chO c x))]:=by
  unfold xsI
  rw [List.range_succ,List.map_append,List.map_singleton]
theorem _root_.Go.Cats.xsI_zero (c : Cat) : xsI c 0 = []:=rfl
theorem _root_.Go.Cats.xsI_len (c : Cat) (x : Nat) : (xsI c x).length = x:=by unfold xsI;rw [List.length_map,List.length_range]
theorem _root_.Go.Cats.xsI_all {c : Cat} (s : IsCat c) : xsI c c.ob.toNat = isoC c:=xs_isoC s
attribute [local go_sem] xsI_zero
theorem cal_spec_SkeletonFunctor : Callable Tryz.prog 31:=⟨_,Tryz.func31,rfl,rfl⟩
theorem sp_spec_SkeletonFunctor {c : Cat} (s : IsCat c) : Spec Tryz.prog 31 [catV c] [] (.tup [.agg [iv (toS c).src.ob,.sl 0,.sl 1,.sl 2,.sl 3,iv (toS c).tgt.ob,.sl 4,.sl 5,.sl 6,.sl 7,.sl 8,.sl 9],iv 0]) [(0,⟨1,.arr (ints (toS c).src.fr)⟩),(1,⟨1,.arr (ints (toS c).src.to)⟩),(2,⟨1,.arr (ints (toS c).src.id)⟩),(3,⟨1,.arr (intss (toS c).src.co)⟩),(4,⟨1,.arr (ints (toS c).tgt.fr)⟩),(5,⟨1,.arr (ints (toS c).tgt.to)⟩),(6,⟨1,.arr (ints (toS c).tgt.id)⟩),(7,⟨1,.arr (intss (toS c).tgt.co)⟩),(8,⟨1,.arr (ints (toS c).obs)⟩),(9,⟨1,.arr (ints (toS c).ars)⟩)]:=by
  have bc:=s.catB
  have v1:=dec_t s
  have o0:=s.toShape.ob0
  have o8:=s.toShape.ob8
  have m40:=s.toShape.m40
  have tol:=s.toShape.tol
  have col:=s.toShape.col
  have hcl:=chS_len (c:=c) c.ob.toNat
  have hil:=isoC_len c
  have hkl : (skO c c.ob.toNat).length ≤ c.ob.toNat:=selP_len _ _
  have al:=(full_sub s (skO c c.ob.toNat)).len
  have al : (skA c).length ≤ c.fr.length:=al
  have hsk:=sp_l11Skeleton s
  have hfl:=sp_l02Full (c:=c) (O:=skO c c.ob.toNat) (by omega) (by omega) tol
  have hch:=sp_l11Chosen s
  have hpa:=sp_l11Part s
  have hmk:=sp_l06Make (c:=c) (d:=skC c) (p:=isoC c) (q:=imS c c.fr.length) s.catB (skC_cat s).catB (by omega) (by rw [imS_len];omega)
  refine spec_of_V (E:=TE) 0 Tryz.func31 rfl (by simp [Tryz.f31]) fun X hn hX=>?_
  repeat' (first|(with_reducible first|refine V_seq ?_|refine V_block ?_|refine V_skip ?_|refine V_ret ?_|refine V_exit ?_)|((with_reducible refine V_cond ?_);simp only [go_sem,simprocAttr])|((first|refine V_region (by rw [hn];rfl) ?_|refine V_drawn hmix (by rw [hn];rfl) ?_);intro K hK)|((first|with_reducible refine evOps_n ?_|((with_reducible apply evOps_g);rfl)|with_reducible refine evOpsD_n ?_|((with_reducible apply evOpsD_g);rfl));intro K hK;simp (contextual:=true) only [go_sem,simprocAttr])|with_reducible refine evOps_nil ?_|((with_reducible refine evOpsD_nil ?_ ?_);kernel_rfl)|((with_reducible refine hK _ ?_);clear hK K)|(with_reducible first|refine And.intro ?_ ?_|refine nxt_n ?_|refine nxt_r ?_|refine nxt_e ?_|refine blk_n ?_|refine blk_r ?_|refine blk_same ?_|refine blk_other (by decide) ?_|refine noG_n ?_|refine noG_r ?_|refine noG_e ?_|refine inR_mk ?_ ?_)|((with_reducible refine evCall_at 44 ?_);refine EvCall.rq (a:=(sp_l02Is_k (by first|omega|assumption|rfl) (by first|omega|assumption|rfl))) (b:=cal_l02Is) (c:=?_);all_goals try simp only [go_sem,simprocAttr])|((with_reducible refine evCall_at 32 ?_);refine EvCall.mk (hsk) cal_l11Skeleton [(0,2)] [] (by simp [go_sem] <;> (repeat' (first|rfl|constructor))) (by simp [go_sem] <;> (repeat' (first|rfl|constructor))) ?_;all_goals try simp only [go_sem,simprocAttr])|((with_reducible refine evCall_at 34 ?_);refine EvCall.mk (hfl) cal_l02Full [(0,3)] [2] (by simp [go_sem] <;> (repeat' (first|rfl|constructor))) (by simp [go_sem] <;> (repeat' (first|rfl|constructor))) ?_;all_goals try simp only [go_sem,simprocAttr])|((with_reducible refine evCall_at 59 ?_);refine EvCall.mk (hch) cal_l11Chosen [(0,4)] [] (by simp [go_sem] <;> (repeat' (first|rfl|constructor))) (by simp [go_sem] <;> (repeat' (first|rfl|constructor))) ?_;all_goals try simp only [go_sem,simprocAttr])|(refine fun (hc : (_ : Bool) = _)=>?_;try simp only [hcS] at hc))
  all_goals try (first|(with_reducible assumption)|((try simp only [Cat.F,Cat.T,Cat.I,Cat.C,Fun.O,Fun.A,Cat.Entry,Int.toNat_natCast] at *);omega))
  refine V_loopK (G:={x : Nat // x ≤ c.ob.toNat ∧ (True)}) (fun ⟨x,_⟩=>[(9,iv x),(4,.sl 2),(5,.sl 3),(6,.sl 4),(7,.sl 5),(8,.sl 6)]) [1,2,3] (fun ⟨x,_⟩=>[(5,⟨1,.arr (ints (xsI c x))⟩)]) [5] (fun zz=>c.ob.toNat - zz.1) ⟨0,Nat.zero_le _,by first|trivial|simp⟩ ?_ ?_
  · exact Imp.auto hX (by simp [go_sem,simprocAttr])
  rintro ⟨x,hix,hwx⟩
  simp only [go_sem,simprocAttr]
  have hxl:=xsI_len c x
  rcases Nat.lt_or_ge x c.ob.toNat with hlt | hge
  · have w:=chW s hlt
    have hu:=chS_at (c:=c) hlt
    have e1:=xsI_succ c x
    obtain ⟨w0,w1,w2,w3,w4⟩:=w
    generalize chO c x = u at *
    repeat' (first|(rw [hu])|(with_reducible first|refine V_seq ?_|refine V_block ?_|refine V_skip ?_|refine V_ret ?_|refine V_exit ?_)|((with_reducible refine V_cond ?_);simp only [go_sem,simprocAttr])|((first|refine V_region (by rw [hn];rfl) ?_|refine V_drawn hmix (by rw [hn];rfl) ?_);intro K hK)|((first|with_reducible refine evOps_n ?_|((with_reducible apply evOps_g);rfl)|with_reducible refine evOpsD_n ?_|((with_reducible apply evOpsD_g);rfl));intro K hK;simp (contextual:=true) only [go_sem,simprocAttr])|with_reducible refine evOps_nil ?_|((with_reducible refine evOpsD_nil ?_ ?_);kernel_rfl)|((with_reducible refine hK _ ?_);clear hK K)|(with_reducible first|refine And.intro ?_ ?_|refine nxt_n ?_|refine nxt_r ?_|refine nxt_e ?_|refine blk_n ?_|refine blk_r ?_|refine blk_same ?_|refine blk_other (by decide) ?_|refine noG_n ?_|refine noG_r ?_|refine noG_e ?_|refine inR_mk ?_ ?_)|((with_reducible refine evCall_at 60 ?_);refine EvCall.rq (a:=(sp_l01Index (l:=skO c c.ob.toNat) ?_)) (b:=cal_l01Index) (c:=?_);all_goals try simp only [go_sem,simprocAttr])|(refine fun (hc : (_ : Bool) = _)=>?_;try simp only [hcS] at hc))
    all_goals try (first|(with_reducible assumption)|((try simp only [Cat.F,Cat.T,Cat.I,Cat.C,Fun.O,Fun.A,Cat.Entry,Int.toNat_natCast] at *);omega))
    · refine ⟨⟨x + 1,by omega,(by trivial)⟩,by simp only;omega,Imp.auto hX (by simp only [go_sem,simprocAttr,e1])⟩
  · have ex : x = c.ob.toNat:=by omega
    subst ex
    rw [xsI_all s]
    repeat' (first|(with_reducible first|refine V_seq ?_|refine V_block ?_|refine V_skip ?_|refine V_ret ?_|refine V_exit ?_)|((with_reducible refine V_cond ?_);simp only [go_sem,simprocAttr])|((first|refine V_region (by rw [hn];rfl) ?_|refine V_drawn hmix (by rw [hn];rfl) ?_);intro K hK)|((first|with_reducible refine evOps_n ?_|((with_reducible apply evOps_g);rfl)|with_reducible refine evOpsD_n ?_|((with_reducible apply evOpsD_g);rfl));intro K hK;simp (contextual:=true) only [go_sem,simprocAttr])|with_reducible refine evOps_nil ?_|((with_reducible refine evOpsD_nil ?_ ?_);kernel_rfl)|((with_reducible refine hK _ ?_);clear hK K)|(with_reducible first|refine And.intro ?_ ?_|refine nxt_n ?_|refine nxt_r ?_|refine nxt_e ?_|refine blk_n ?_|refine blk_r ?_|refine blk_same ?_|refine blk_other (by decide) ?_|refine noG_n ?_|refine noG_r ?_|refine noG_e ?_|refine inR_mk ?_ ?_)|(refine fun (hc : (_ : Bool) = _)=>?_;try simp only [hcS] at hc))
    all_goals try (first|(with_reducible assumption)|((try simp only [Cat.F,Cat.T,Cat.I,Cat.C,Fun.O,Fun.A,Cat.Entry,Int.toNat_natCast] at *);omega))
    refine V_loopK (G:={f : Nat // f ≤ c.fr.length ∧ (True)}) (fun ⟨f,_⟩=>[(10,iv f),(4,.sl 2),(5,.sl 3),(6,.sl 4),(7,.sl 5),(8,.sl 6)]) [1,2,3] (fun ⟨f,_⟩=>[(6,⟨1,.arr (ints (imS c f))⟩)]) [6] (fun zz=>c.fr.length - zz.1) ⟨0,Nat.zero_le _,by first|trivial|simp⟩ ?_ ?_
    · exact Imp.auto hX (by simp [go_sem,simprocAttr])
    rintro ⟨f,hif,hwf⟩
    simp only [go_sem,simprocAttr]
    have hif:=imS_len (c:=c) f
    rcases Nat.lt_or_ge f c.fr.length with hlt2 | hge2
    · have hF:=s.toShape.frw f hlt2
      have hT:=s.toShape.tow f (by omega)
      have w:=rtW s hlt2
      have w2:=chW s (x:=(c.fr.getD f 0).toNat) (by omega)
      have w3:=chW s (x:=(c.to.getD f 0).toNat) (by omega)
      have e1:=imS_succ (c:=c) f
      unfold rtA at e1
      have hu:=chS_at (c:=c) (n:=c.ob.toNat) (x:=(c.fr.getD f 0).toNat) (by omega)
      have hv:=chS_at (c:=c) (n:=c.ob.toNat) (x:=(c.to.getD f 0).toNat) (by omega)
      obtain ⟨i0,i1,iT,m0,m1,mT,mm⟩:=w
      have u0:=w2.lo
      have u1:=w2.hi
      have v0:=w3.lo
      have v1:=w3.hi
      clear w2 w3
      generalize chO c (c.fr.getD f 0).toNat = u at *
      generalize chO c (c.to.getD f 0).toNat = v at *
      obtain ⟨m,hm⟩ : ∃ m : Nat,u = m:=⟨u.toNat,by omega⟩
      have hin:=sp_l02Inverse (c:=c) (f:=m) s (by omega)
      rw [← hm] at hin
      have r1:=row_len s.toShape i0 i1
      have r2:=row_len s.toShape m0 m1
      repeat' (first|(rw [hu])|(rw [hv])|(with_reducible first|refine V_seq ?_|refine V_block ?_|refine V_skip ?_|refine V_ret ?_|refine V_exit ?_)|((with_reducible refine V_cond ?_);simp only [go_sem,simprocAttr])|((first|refine V_region (by rw [hn];rfl) ?_|refine V_drawn hmix (by rw [hn];rfl) ?_);intro K hK)|((first|with_reducible refine evOps_n ?_|((with_reducible apply evOps_g);rfl)|with_reducible refine evOpsD_n ?_|((with_reducible apply evOpsD_g);rfl));intro K hK;simp (contextual:=true) only [go_sem,simprocAttr])|with_reducible refine evOps_nil ?_|((with_reducible refine evOpsD_nil ?_ ?_);kernel_rfl)|((with_reducible refine hK _ ?_);clear hK K)|(with_reducible first|refine And.intro ?_ ?_|refine nxt_n ?_|refine nxt_r ?_|refine nxt_e ?_|refine blk_n ?_|refine blk_r ?_|refine blk_same ?_|refine blk_other (by decide) ?_|refine noG_n ?_|refine noG_r ?_|refine noG_e ?_|refine inR_mk ?_ ?_)|((with_reducible refine evCall_at 61 ?_);refine EvCall.mk (hin) cal_l02Inverse [] [] (by simp [go_sem] <;> (repeat' (first|rfl|constructor))) (by simp [go_sem] <;> (repeat' (first|rfl|constructor))) ?_;all_goals try simp only [go_sem,simprocAttr])|((with_reducible refine evCall_at 47 ?_);refine EvCall.rq (a:=(sp_l02Then (c:=c) ?_ ?_ ?_ ?_)) (b:=cal_l02Then) (c:=?_);all_goals try simp only [go_sem,simprocAttr])|((with_reducible refine evCall_at 60 ?_);refine EvCall.rq (a:=(sp_l01Index (l:=skA c) ?_)) (b:=cal_l01Index) (c:=?_);all_goals try simp only [go_sem,simprocAttr])|(refine fun (hc : (_ : Bool) = _)=>?_;try simp only [hcS] at hc))
      all_goals try (first|(with_reducible assumption)|((try simp only [Cat.F,Cat.T,Cat.I,Cat.C,Fun.O,Fun.A,Cat.Entry,Int.toNat_natCast] at *);omega))
      · refine ⟨⟨f + 1,by omega,(by (trivial))⟩,by simp only;omega,Imp.auto hX (by simp only [go_sem,simprocAttr,e1])⟩
    · have ei : f = c.fr.length:=by omega
      subst ei
      repeat' (first|(with_reducible first|refine V_seq ?_|refine V_block ?_|refine V_skip ?_|refine V_ret ?_|refine V_exit ?_)|((with_reducible refine V_cond ?_);simp only [go_sem,simprocAttr])|((first|refine V_region (by rw [hn];rfl) ?_|refine V_drawn hmix (by rw [hn];rfl) ?_);intro K hK)|((first|with_reducible refine evOps_n ?_|((with_reducible apply evOps_g);rfl)|with_reducible refine evOpsD_n ?_|((with_reducible apply evOpsD_g);rfl));intro K hK;simp (contextual:=true) only [go_sem,simprocAttr])|with_reducible refine evOps_nil ?_|((with_reducible refine evOpsD_nil ?_ ?_);kernel_rfl)|((with_reducible refine hK _ ?_);clear hK K)|(with_reducible first|refine And.intro ?_ ?_|refine nxt_n ?_|refine nxt_r ?_|refine nxt_e ?_|refine blk_n ?_|refine blk_r ?_|refine blk_same ?_|refine blk_other (by decide) ?_|refine noG_n ?_|refine noG_r ?_|refine noG_e ?_|refine inR_mk ?_ ?_)|((with_reducible refine evCall_at 30 ?_);refine EvCall.mk (hpa) cal_l11Part [(0,12),(1,13),(2,14),(3,15)] [] (by simp [go_sem] <;> (repeat' (first|rfl|constructor))) (by simp [go_sem] <;> (repeat' (first|rfl|constructor))) ?_;all_goals try simp only [go_sem,simprocAttr])|((with_reducible refine evCall_at 33 ?_);refine EvCall.mk (hmk) cal_l06Make [(0,16),(1,17),(2,18),(3,19),(4,20),(5,21),(6,22),(7,23),(8,24),(9,25)] [12,13,14,15,5,6] (by simp [go_sem] <;> (repeat' (first|rfl|constructor))) (by simp [go_sem] <;> (repeat' (first|rfl|constructor))) ?_;all_goals try simp only [go_sem,simprocAttr])|(refine fun (hc : (_ : Bool) = _)=>?_;try simp only [hcS] at hc))
      all_goals try (first|(with_reducible assumption)|((try simp only [Cat.F,Cat.T,Cat.I,Cat.C,Fun.O,Fun.A,Cat.Entry,Int.toNat_natCast] at *);omega))
      · (first|refine ret_auto ?_|refine ret_auto' ?_);simp only [go_sem,simprocAttr,Tryz.f31]
        exact ⟨⟨rfl,rfl,rfl,rfl,rfl,rfl,rfl,rfl,rfl,rfl⟩,rfl⟩
end Go.Eng
