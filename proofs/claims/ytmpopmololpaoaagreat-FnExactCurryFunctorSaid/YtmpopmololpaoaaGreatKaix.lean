/- Several texts in one: R29, R30. -/
import Derived.Test.YtmpopmololpaoaaGreatKahx
set_option linter.unusedSimpArgs false
set_option linter.unusedVariables false
set_option maxRecDepth 100000
set_option maxHeartbeats 16000000
section
namespace Go.Eng
open Go Go.Proofs Go.Cats
theorem go_lt {c d : Cat} {f : Fun} (h : TwoF c d f) {i j : Nat} (hi : i < c.ob.toNat) (hj : j < d.ob.toNat) : 0 ≤ (i : Int) * d.ob ∧ (i : Int) * d.ob ≤ 4096 ∧ (i : Int) * d.ob + j < f.obs.length:=by
  have d0:=h.sd.toShape.ob0
  have d8:=h.sd.toShape.ob8
  have c8:=h.sc.toShape.ob8
  have e:=mul_b (x:=(i : Int)) (n:=d.ob) (by omega) (by omega) d0 (by omega)
  have p:=pair_lt hi hj
  rw [← h.obl] at p
  have q : (i : Int) * d.ob + j = ((i * d.ob.toNat + j : Nat) : Int):=by
    rw [Int.natCast_add,Int.natCast_mul,Int.toNat_of_nonneg d0]
  exact ⟨e.1,e.2,by rw [q];exact Int.ofNat_lt.2 p⟩
theorem ga_lt {c d : Cat} {f : Fun} (h : TwoF c d f) {x : Int} {i j : Nat} (hx : x = i) (hi : i < c.fr.length) (hj : j < d.fr.length) : 0 ≤ x * (d.fr.length : Int) ∧ x * (d.fr.length : Int) ≤ 4096 ∧ x * (d.fr.length : Int) + j < f.ars.length:=by
  subst hx
  have d40:=h.sd.toShape.m40
  have c40:=h.sc.toShape.m40
  have e:=mul_b (x:=(i : Int)) (n:=(d.fr.length : Int)) (by omega) (by omega) (by omega) (by omega)
  have p:=pair_lt hi hj
  rw [← h.arl] at p
  have q : (i : Int) * d.fr.length + j = ((i * d.fr.length + j : Nat) : Int):=by
    rw [Int.natCast_add,Int.natCast_mul]
  exact ⟨e.1,e.2,by rw [q];exact Int.ofNat_lt.2 p⟩
theorem _root_.Go.Cats.TwoF.al {c d : Cat} {f : Fun} (h : TwoF c d f) : f.ars.length ≤ 1600 ∧ f.obs.length ≤ 64:=by
  rw [h.arl,h.obl]
  have c8:=h.sc.toShape.ob8
  have d8:=h.sd.toShape.ob8
  exact ⟨Nat.mul_le_mul h.sc.toShape.m40 h.sd.toShape.m40,Nat.mul_le_mul (show c.ob.toNat ≤ 8 by omega) (show d.ob.toNat ≤ 8 by omega)⟩
attribute [local go_sem] List.set_cons_zero List.set_cons_succ fxO_zero fxA_zero
theorem sp_fixFirst {c d : Cat} {f : Fun} {i : Nat} (h : TwoF c d f) (bc : CatB c) (bd : CatB d) (hb : FunB f) (hi : (i : Int) < c.ob) : Spec Tryz.prog 95 [.bptr [] (catD c),.bptr [] (catD d),.bptr [] (funD f),iv i] [] (.agg [iv (fxF c d f i).src.ob,.sl 0,.sl 1,.sl 2,.sl 3,iv (fxF c d f i).tgt.ob,.sl 4,.sl 5,.sl 6,.sl 7,.sl 8,.sl 9]) [(0,⟨1,.arr (ints (fxF c d f i).src.fr)⟩),(1,⟨1,.arr (ints (fxF c d f i).src.to)⟩),(2,⟨1,.arr (ints (fxF c d f i).src.id)⟩),(3,⟨1,.arr (intss (fxF c d f i).src.co)⟩),(4,⟨1,.arr (ints (fxF c d f i).tgt.fr)⟩),(5,⟨1,.arr (ints (fxF c d f i).tgt.to)⟩),(6,⟨1,.arr (ints (fxF c d f i).tgt.id)⟩),(7,⟨1,.arr (intss (fxF c d f i).tgt.co)⟩),(8,⟨1,.arr (ints (fxF c d f i).obs)⟩),(9,⟨1,.arr (ints (fxF c d f i).ars)⟩)]:=by
  have bt:=hb.tgt
  have d0:=h.sd.toShape.ob0
  have d8:=h.sd.toShape.ob8
  have d40:=h.sd.toShape.m40
  have c0:=h.sc.toShape.ob0
  have c8:=h.sc.toShape.ob8
  have cil:=h.sc.toShape.idl
  have hal:=h.al
  obtain ⟨k,k1,k2,k3,k4⟩:=h.sc.toShape.ii (i:=i) (by omega)
  have eF : fxF c d f i = ⟨d,f.tgt,fxO d f i d.ob.toNat,fxA c d f i d.fr.length⟩:=rfl
  rw [eF]
  have hfu:=sp_functor (c:=d) (d:=f.tgt) (p:=fxO d f i d.ob.toNat) (q:=fxA c d f i d.fr.length) bd bt (by rw [fxO_len];omega) (by rw [fxA_len];omega)
  refine spec_of_V (E:=TE) 0 Tryz.func95 rfl (by simp [Tryz.f95]) fun X hn hX=>?_
  repeat' (first|(with_reducible first|refine V_seq ?_|refine V_block ?_|refine V_skip ?_|refine V_ret ?_|refine V_exit ?_)|((with_reducible refine V_cond ?_);simp only [go_sem,simprocAttr])|((first|refine V_region (by rw [hn];rfl) ?_|refine V_drawn hmix (by rw [hn];rfl) ?_);intro K hK)|((first|with_reducible refine evOps_n ?_|((with_reducible apply evOps_g);rfl)|with_reducible refine evOpsD_n ?_|((with_reducible apply evOpsD_g);rfl));intro K hK;simp (contextual:=true) only [go_sem,simprocAttr])|with_reducible refine evOps_nil ?_|((with_reducible refine evOpsD_nil ?_ ?_);kernel_rfl)|((with_reducible refine hK _ ?_);clear hK K)|(with_reducible first|refine And.intro ?_ ?_|refine nxt_n ?_|refine nxt_r ?_|refine nxt_e ?_|refine blk_n ?_|refine blk_r ?_|refine blk_same ?_|refine blk_other (by decide) ?_|refine noG_n ?_|refine noG_r ?_|refine noG_e ?_|refine inR_mk ?_ ?_)|(refine fun (hc : (_ : Bool) = _)=>?_;try simp only [hcS] at hc))
  all_goals try exact om_
  refine V_loopK (G:={j : Nat // j ≤ d.ob.toNat ∧ (True)}) (fun ⟨j,_⟩=>[(11,iv j),(8,.ptr 0 0),(9,.sl 1),(10,.sl 2)]) [0,1,2,3] (fun ⟨j,_⟩=>[(1,⟨1,.arr (ints (fxO d f i j))⟩),(2,⟨1,.arr (ints [])⟩)]) [1,2] (fun zz=>d.ob.toNat - zz.1) ⟨0,Nat.zero_le _,by first|trivial|simp⟩ ?_ ?_
  · exact Imp.au hX
  rintro ⟨j,hij,hwj⟩
  simp only [go_sem,simprocAttr]
  have hol:=fxO_len (d:=d) (f:=f) (i:=(i : Int)) (k:=j)
  rcases Nat.lt_or_ge j d.ob.toNat with hlj | hgj
  · have hgo:=go_lt h (i:=i) (j:=j) (by omega) hlj
    have e1:=fxO_succ (d:=d) (f:=f) (i:=(i : Int)) (k:=j)
    repeat' (first|(with_reducible first|refine V_seq ?_|refine V_block ?_|refine V_skip ?_|refine V_ret ?_|refine V_exit ?_)|((with_reducible refine V_cond ?_);simp only [go_sem,simprocAttr])|((first|refine V_region (by rw [hn];rfl) ?_|refine V_drawn hmix (by rw [hn];rfl) ?_);intro K hK)|((first|with_reducible refine evOps_n ?_|((with_reducible apply evOps_g);rfl)|with_reducible refine evOpsD_n ?_|((with_reducible apply evOpsD_g);rfl));intro K hK;simp (contextual:=true) only [go_sem,simprocAttr])|with_reducible refine evOps_nil ?_|((with_reducible refine evOpsD_nil ?_ ?_);kernel_rfl)|((with_reducible refine hK _ ?_);clear hK K)|(with_reducible first|refine And.intro ?_ ?_|refine nxt_n ?_|refine nxt_r ?_|refine nxt_e ?_|refine blk_n ?_|refine blk_r ?_|refine blk_same ?_|refine blk_other (by decide) ?_|refine noG_n ?_|refine noG_r ?_|refine noG_e ?_|refine inR_mk ?_ ?_)|(refine fun (hc : (_ : Bool) = _)=>?_;try simp only [hcS] at hc))
    all_goals try exact om_
    · refine ⟨⟨j + 1,by omega,(by trivial)⟩,by simp only;omega,Imp.auto hX (by simp only [go_sem,simprocAttr,e1])⟩
  · have ej : j = d.ob.toNat:=by omega
    subst ej
    repeat' (first|(with_reducible first|refine V_seq ?_|refine V_block ?_|refine V_skip ?_|refine V_ret ?_|refine V_exit ?_)|((with_reducible refine V_cond ?_);simp only [go_sem,simprocAttr])|((first|refine V_region (by rw [hn];rfl) ?_|refine V_drawn hmix (by rw [hn];rfl) ?_);intro K hK)|((first|with_reducible refine evOps_n ?_|((with_reducible apply evOps_g);rfl)|with_reducible refine evOpsD_n ?_|((with_reducible apply evOpsD_g);rfl));intro K hK;simp (contextual:=true) only [go_sem,simprocAttr])|with_reducible refine evOps_nil ?_|((with_reducible refine evOpsD_nil ?_ ?_);kernel_rfl)|((with_reducible refine hK _ ?_);clear hK K)|(with_reducible first|refine And.intro ?_ ?_|refine nxt_n ?_|refine nxt_r ?_|refine nxt_e ?_|refine blk_n ?_|refine blk_r ?_|refine blk_same ?_|refine blk_other (by decide) ?_|refine noG_n ?_|refine noG_r ?_|refine noG_e ?_|refine inR_mk ?_ ?_)|(refine fun (hc : (_ : Bool) = _)=>?_;try simp only [hcS] at hc))
    all_goals try exact om_
    refine V_loopK (G:={b : Nat // b ≤ d.fr.length ∧ (True)}) (fun ⟨b,_⟩=>[(12,iv b),(8,.ptr 0 0),(9,.sl 1),(10,.sl 2)]) [0,1,2,3] (fun ⟨b,_⟩=>[(1,⟨1,.arr (ints (fxO d f i d.ob.toNat))⟩),(2,⟨1,.arr (ints (fxA c d f i b))⟩)]) [1,2] (fun zz=>d.fr.length - zz.1) ⟨0,Nat.zero_le _,by first|trivial|simp⟩ ?_ ?_
    · exact Imp.au hX
    rintro ⟨b,hib,hwb⟩
    simp only [go_sem,simprocAttr]
    have hol:=fxA_len (c:=c) (d:=d) (f:=f) (i:=(i : Int)) (k:=b)
    rcases Nat.lt_or_ge b d.fr.length with hlb | hgb
    · have hga:=ga_lt h (x:=c.id.getD i 0) (i:=k) (j:=b) k1 k2 hlb
      have e1:=fxA_succ (c:=c) (d:=d) (f:=f) (i:=(i : Int)) (k:=b)
      rw [at_I] at e1
      repeat' (first|(with_reducible first|refine V_seq ?_|refine V_block ?_|refine V_skip ?_|refine V_ret ?_|refine V_exit ?_)|((with_reducible refine V_cond ?_);simp only [go_sem,simprocAttr])|((first|refine V_region (by rw [hn];rfl) ?_|refine V_drawn hmix (by rw [hn];rfl) ?_);intro K hK)|((first|with_reducible refine evOps_n ?_|((with_reducible apply evOps_g);rfl)|with_reducible refine evOpsD_n ?_|((with_reducible apply evOpsD_g);rfl));intro K hK;simp (contextual:=true) only [go_sem,simprocAttr])|with_reducible refine evOps_nil ?_|((with_reducible refine evOpsD_nil ?_ ?_);kernel_rfl)|((with_reducible refine hK _ ?_);clear hK K)|(with_reducible first|refine And.intro ?_ ?_|refine nxt_n ?_|refine nxt_r ?_|refine nxt_e ?_|refine blk_n ?_|refine blk_r ?_|refine blk_same ?_|refine blk_other (by decide) ?_|refine noG_n ?_|refine noG_r ?_|refine noG_e ?_|refine inR_mk ?_ ?_)|((with_reducible refine evCall_at 69 ?_);refine EvCall.rq (a:=(sp_Category_arrows)) (b:=cal_Category_arrows) (c:=?_);all_goals try simp only [go_sem,simprocAttr])|(refine fun (hc : (_ : Bool) = _)=>?_;try simp only [hcS] at hc))
      all_goals try exact om_
      · refine ⟨⟨b + 1,by omega,(by trivial)⟩,by simp only;omega,Imp.auto hX (by simp only [go_sem,simprocAttr,e1])⟩
    · have eb : b = d.fr.length:=by omega
      subst eb
      repeat' (first|(with_reducible first|refine V_seq ?_|refine V_block ?_|refine V_skip ?_|refine V_ret ?_|refine V_exit ?_)|((with_reducible refine V_cond ?_);simp only [go_sem,simprocAttr])|((first|refine V_region (by rw [hn];rfl) ?_|refine V_drawn hmix (by rw [hn];rfl) ?_);intro K hK)|((first|with_reducible refine evOps_n ?_|((with_reducible apply evOps_g);rfl)|with_reducible refine evOpsD_n ?_|((with_reducible apply evOpsD_g);rfl));intro K hK;simp (contextual:=true) only [go_sem,simprocAttr])|with_reducible refine evOps_nil ?_|((with_reducible refine evOpsD_nil ?_ ?_);kernel_rfl)|((with_reducible refine hK _ ?_);clear hK K)|(with_reducible first|refine And.intro ?_ ?_|refine nxt_n ?_|refine nxt_r ?_|refine nxt_e ?_|refine blk_n ?_|refine blk_r ?_|refine blk_same ?_|refine blk_other (by decide) ?_|refine noG_n ?_|refine noG_r ?_|refine noG_e ?_|refine inR_mk ?_ ?_)|((with_reducible refine evCall_at 69 ?_);refine EvCall.rq (a:=(sp_Category_arrows)) (b:=cal_Category_arrows) (c:=?_);all_goals try simp only [go_sem,simprocAttr])|((with_reducible refine evCall_at 63 ?_);refine EvCall.mq (hfu) cal_functor [(0,3),(1,4),(2,5),(3,6),(4,7),(5,8),(6,9),(7,10),(8,11),(9,12)] [1,2] ?_;all_goals try simp only [go_sem,simprocAttr])|(refine fun (hc : (_ : Bool) = _)=>?_;try simp only [hcS] at hc))
      all_goals try exact om_
      · (first|refine ret_auto ?_|refine ret_auto' ?_);simp only [go_sem,simprocAttr,Tryz.f95]
theorem sp_l08Fix {c d : Cat} {f : Fun} {i : Nat} (h : TwoF c d f) (bc : CatB c) (bd : CatB d) (hb : FunB f) (hi : (i : Int) < c.ob) : Spec Tryz.prog 92 [catV c,catV d,funV f,iv i] [] (.agg [iv (fxF c d f i).src.ob,.sl 0,.sl 1,.sl 2,.sl 3,iv (fxF c d f i).tgt.ob,.sl 4,.sl 5,.sl 6,.sl 7,.sl 8,.sl 9]) [(0,⟨1,.arr (ints (fxF c d f i).src.fr)⟩),(1,⟨1,.arr (ints (fxF c d f i).src.to)⟩),(2,⟨1,.arr (ints (fxF c d f i).src.id)⟩),(3,⟨1,.arr (intss (fxF c d f i).src.co)⟩),(4,⟨1,.arr (ints (fxF c d f i).tgt.fr)⟩),(5,⟨1,.arr (ints (fxF c d f i).tgt.to)⟩),(6,⟨1,.arr (ints (fxF c d f i).tgt.id)⟩),(7,⟨1,.arr (intss (fxF c d f i).tgt.co)⟩),(8,⟨1,.arr (ints (fxF c d f i).obs)⟩),(9,⟨1,.arr (ints (fxF c d f i).ars)⟩)]:=by
  have bt:=hb.tgt
  have d0:=h.sd.toShape.ob0
  have d8:=h.sd.toShape.ob8
  have d40:=h.sd.toShape.m40
  have c0:=h.sc.toShape.ob0
  have c8:=h.sc.toShape.ob8
  have cil:=h.sc.toShape.idl
  have hal:=h.al
  obtain ⟨k,k1,k2,k3,k4⟩:=h.sc.toShape.ii (i:=i) (by omega)
  have eF : fxF c d f i = ⟨d,f.tgt,fxO d f i d.ob.toNat,fxA c d f i d.fr.length⟩:=rfl
  rw [eF]
  have hfu:=sp_l06Make (c:=d) (d:=f.tgt) (p:=fxO d f i d.ob.toNat) (q:=fxA c d f i d.fr.length) bd bt (by rw [fxO_len];omega) (by rw [fxA_len];omega)
  refine spec_of_V (E:=TE) 0 Tryz.func92 rfl (by simp [Tryz.f92]) fun X hn hX=>?_
  repeat' (first|(with_reducible first|refine V_seq ?_|refine V_block ?_|refine V_skip ?_|refine V_ret ?_|refine V_exit ?_)|((with_reducible refine V_cond ?_);simp only [go_sem,simprocAttr])|((first|refine V_region (by rw [hn];rfl) ?_|refine V_drawn hmix (by rw [hn];rfl) ?_);intro K hK)|((first|with_reducible refine evOps_n ?_|((with_reducible apply evOps_g);rfl)|with_reducible refine evOpsD_n ?_|((with_reducible apply evOpsD_g);rfl));intro K hK;simp (contextual:=true) only [go_sem,simprocAttr])|with_reducible refine evOps_nil ?_|((with_reducible refine evOpsD_nil ?_ ?_);kernel_rfl)|((with_reducible refine hK _ ?_);clear hK K)|(with_reducible first|refine And.intro ?_ ?_|refine nxt_n ?_|refine nxt_r ?_|refine nxt_e ?_|refine blk_n ?_|refine blk_r ?_|refine blk_same ?_|refine blk_other (by decide) ?_|refine noG_n ?_|refine noG_r ?_|refine noG_e ?_|refine inR_mk ?_ ?_)|(refine fun (hc : (_ : Bool) = _)=>?_;try simp only [hcS] at hc))
  all_goals try exact om_
  refine V_loopK (G:={j : Nat // j ≤ d.ob.toNat ∧ (True)}) (fun ⟨j,_⟩=>[(11,iv j),(4,.ptr 0 0),(8,.ptr 3 0),(9,.sl 4),(10,.sl 5)]) [3,5,6] (fun ⟨j,_⟩=>[(4,⟨1,.arr (ints (fxO d f i j))⟩),(5,⟨1,.arr (ints [])⟩)]) [4,5] (fun zz=>d.ob.toNat - zz.1) ⟨0,Nat.zero_le _,by first|trivial|simp⟩ ?_ ?_
  · exact Imp.au hX
  rintro ⟨j,hij,hwj⟩
  simp only [go_sem,simprocAttr]
  have hol:=fxO_len (d:=d) (f:=f) (i:=(i : Int)) (k:=j)
  rcases Nat.lt_or_ge j d.ob.toNat with hlj | hgj
  · have hgo:=go_lt h (i:=i) (j:=j) (by omega) hlj
    have e1:=fxO_succ (d:=d) (f:=f) (i:=(i : Int)) (k:=j)
    repeat' (first|(with_reducible first|refine V_seq ?_|refine V_block ?_|refine V_skip ?_|refine V_ret ?_|refine V_exit ?_)|((with_reducible refine V_cond ?_);simp only [go_sem,simprocAttr])|((first|refine V_region (by rw [hn];rfl) ?_|refine V_drawn hmix (by rw [hn];rfl) ?_);intro K hK)|((first|with_reducible refine evOps_n ?_|((with_reducible apply evOps_g);rfl)|with_reducible refine evOpsD_n ?_|((with_reducible apply evOpsD_g);rfl));intro K hK;simp (contextual:=true) only [go_sem,simprocAttr])|with_reducible refine evOps_nil ?_|((with_reducible refine evOpsD_nil ?_ ?_);kernel_rfl)|((with_reducible refine hK _ ?_);clear hK K)|(with_reducible first|refine And.intro ?_ ?_|refine nxt_n ?_|refine nxt_r ?_|refine nxt_e ?_|refine blk_n ?_|refine blk_r ?_|refine blk_same ?_|refine blk_other (by decide) ?_|refine noG_n ?_|refine noG_r ?_|refine noG_e ?_|refine inR_mk ?_ ?_)|(refine fun (hc : (_ : Bool) = _)=>?_;try simp only [hcS] at hc))
    all_goals try exact om_
    · refine ⟨⟨j + 1,by omega,(by trivial)⟩,by simp only;omega,Imp.auto hX (by simp only [go_sem,simprocAttr,e1])⟩
  · have ej : j = d.ob.toNat:=by omega
    subst ej
    repeat' (first|(with_reducible first|refine V_seq ?_|refine V_block ?_|refine V_skip ?_|refine V_ret ?_|refine V_exit ?_)|((with_reducible refine V_cond ?_);simp only [go_sem,simprocAttr])|((first|refine V_region (by rw [hn];rfl) ?_|refine V_drawn hmix (by rw [hn];rfl) ?_);intro K hK)|((first|with_reducible refine evOps_n ?_|((with_reducible apply evOps_g);rfl)|with_reducible refine evOpsD_n ?_|((with_reducible apply evOpsD_g);rfl));intro K hK;simp (contextual:=true) only [go_sem,simprocAttr])|with_reducible refine evOps_nil ?_|((with_reducible refine evOpsD_nil ?_ ?_);kernel_rfl)|((with_reducible refine hK _ ?_);clear hK K)|(with_reducible first|refine And.intro ?_ ?_|refine nxt_n ?_|refine nxt_r ?_|refine nxt_e ?_|refine blk_n ?_|refine blk_r ?_|refine blk_same ?_|refine blk_other (by decide) ?_|refine noG_n ?_|refine noG_r ?_|refine noG_e ?_|refine inR_mk ?_ ?_)|(refine fun (hc : (_ : Bool) = _)=>?_;try simp only [hcS] at hc))
    all_goals try exact om_
    refine V_loopK (G:={b : Nat // b ≤ d.fr.length ∧ (True)}) (fun ⟨b,_⟩=>[(12,iv b),(8,.ptr 3 0),(9,.sl 4),(10,.sl 5)]) [3,4,5,6] (fun ⟨b,_⟩=>[(4,⟨1,.arr (ints (fxO d f i d.ob.toNat))⟩),(5,⟨1,.arr (ints (fxA c d f i b))⟩)]) [4,5] (fun zz=>d.fr.length - zz.1) ⟨0,Nat.zero_le _,by first|trivial|simp⟩ ?_ ?_
    · exact Imp.au hX
    rintro ⟨b,hib,hwb⟩
    simp only [go_sem,simprocAttr]
    have hol:=fxA_len (c:=c) (d:=d) (f:=f) (i:=(i : Int)) (k:=b)
    rcases Nat.lt_or_ge b d.fr.length with hlb | hgb
    · have hga:=ga_lt h (x:=c.id.getD i 0) (i:=k) (j:=b) k1 k2 hlb
      have e1:=fxA_succ (c:=c) (d:=d) (f:=f) (i:=(i : Int)) (k:=b)
      rw [at_I] at e1
      repeat' (first|(with_reducible first|refine V_seq ?_|refine V_block ?_|refine V_skip ?_|refine V_ret ?_|refine V_exit ?_)|((with_reducible refine V_cond ?_);simp only [go_sem,simprocAttr])|((first|refine V_region (by rw [hn];rfl) ?_|refine V_drawn hmix (by rw [hn];rfl) ?_);intro K hK)|((first|with_reducible refine evOps_n ?_|((with_reducible apply evOps_g);rfl)|with_reducible refine evOpsD_n ?_|((with_reducible apply evOpsD_g);rfl));intro K hK;simp (contextual:=true) only [go_sem,simprocAttr])|with_reducible refine evOps_nil ?_|((with_reducible refine evOpsD_nil ?_ ?_);kernel_rfl)|((with_reducible refine hK _ ?_);clear hK K)|(with_reducible first|refine And.intro ?_ ?_|refine nxt_n ?_|refine nxt_r ?_|refine nxt_e ?_|refine blk_n ?_|refine blk_r ?_|refine blk_same ?_|refine blk_other (by decide) ?_|refine noG_n ?_|refine noG_r ?_|refine noG_e ?_|refine inR_mk ?_ ?_)|(refine fun (hc : (_ : Bool) = _)=>?_;try simp only [hcS] at hc))
      all_goals try exact om_
      · refine ⟨⟨b + 1,by omega,(by trivial)⟩,by simp only;omega,Imp.auto hX (by simp only [go_sem,simprocAttr,e1])⟩
    · have eb : b = d.fr.length:=by omega
      subst eb
      repeat' (first|(with_reducible first|refine V_seq ?_|refine V_block ?_|refine V_skip ?_|refine V_ret ?_|refine V_exit ?_)|((with_reducible refine V_cond ?_);simp only [go_sem,simprocAttr])|((first|refine V_region (by rw [hn];rfl) ?_|refine V_drawn hmix (by rw [hn];rfl) ?_);intro K hK)|((first|with_reducible refine evOps_n ?_|((with_reducible apply evOps_g);rfl)|with_reducible refine evOpsD_n ?_|((with_reducible apply evOpsD_g);rfl));intro K hK;simp (contextual:=true) only [go_sem,simprocAttr])|with_reducible refine evOps_nil ?_|((with_reducible refine evOpsD_nil ?_ ?_);kernel_rfl)|((with_reducible refine hK _ ?_);clear hK K)|(with_reducible first|refine And.intro ?_ ?_|refine nxt_n ?_|refine nxt_r ?_|refine nxt_e ?_|refine blk_n ?_|refine blk_r ?_|refine blk_same ?_|refine blk_other (by decide) ?_|refine noG_n ?_|refine noG_r ?_|refine noG_e ?_|refine inR_mk ?_ ?_)|((with_reducible refine evCall_at 61 ?_);refine EvCall.mq (hfu) cal_l06Make [(0,6),(1,7),(2,8),(3,9),(4,10),(5,11),(6,12),(7,13),(8,14),(9,15)] [4,5] ?_;all_goals try simp only [go_sem,simprocAttr])|(refine fun (hc : (_ : Bool) = _)=>?_;try simp only [hcS] at hc))
      all_goals try exact om_
      · (first|refine ret_auto ?_|refine ret_auto' ?_);simp only [go_sem,simprocAttr,Tryz.f92]
end Go.Eng
end
section
namespace Go.Eng
open Go Go.Proofs Go.Cats
theorem prC_b {c d : Cat} (sc : Shape c) (sd : Shape d) : CatB (prC c d):=by
  have c0:=sc.ob0
  have c8:=sc.ob8
  have d0:=sd.ob0
  have d8:=sd.ob8
  have e0:=mul_b c0 (by omega) d0 (by omega)
  have le:=Nat.mul_le_mul sc.m40 sd.m40
  have cil:=sc.idl
  have dil:=sd.idl
  have li:=Nat.mul_le_mul (show c.id.length ≤ 8 by omega) (show d.id.length ≤ 8 by omega)
  refine ⟨?_,?_,?_,?_,?_,?_,fun k hk=>?_⟩
  · show _ ≤ c.ob * d.ob;omega
  · show c.ob * d.ob ≤ _;omega
  · show (pq _ _ _ _ _).length ≤ _;rw [pq_len];omega
  · show (pq _ _ _ _ _).length ≤ _;rw [pq_len];omega
  · show (pq _ _ _ _ _).length ≤ _;rw [pq_len];omega
  · show (prT _ _ _).length ≤ _;rw [prT_len];omega
  · have hk' : k < c.fr.length * d.fr.length:=by have e : (prT c d (c.fr.length * d.fr.length)).length = _:=prT_len;exact e ▸ hk
    show ((prT c d (c.fr.length * d.fr.length)).getD k []).length ≤ _
    have r1 : (prT c d (c.fr.length * d.fr.length)).getD k [] = prW c d k (c.fr.length * d.fr.length):=by
      unfold prT;rw [List.getD_eq_getElem?_getD,List.getElem?_map,List.getElem?_range hk'];rfl
    rw [r1,prW_len];omega
theorem prS_of {c d : Cat} {s : Cat} (hs : Shape s) (e : s = prC c d) : PrS c d:=by
  subst e
  have h1:=hs.ob8
  have h2:=hs.m40
  have e : (prC c d).fr.length = c.fr.length * d.fr.length:=pq_len
  exact ⟨h1,by omega⟩
theorem cal_product : Callable Tryz.prog 89:=⟨_,Tryz.func89,rfl,rfl⟩
theorem cal_l03Product : Callable Tryz.prog 86:=⟨_,Tryz.func86,rfl,rfl⟩
theorem cal_fixFirst : Callable Tryz.prog 95:=⟨_,Tryz.func95,rfl,rfl⟩
theorem cal_l08Fix : Callable Tryz.prog 92:=⟨_,Tryz.func92,rfl,rfl⟩
theorem cal_twoVariables : Callable Tryz.prog 93:=⟨_,Tryz.func93,rfl,rfl⟩
theorem sp_twoVariables_bad {c d : Cat} {f : Fun} (bc : CatB c) (bd : CatB d) (hb : FunB f) (h : ¬ ((IsCat c ∧ IsCat d) ∧ IsFun f)) : Spec Tryz.prog 93 [.bptr [] (catD c),.bptr [] (catD d),.bptr [] (funD f)] [] (iv 1) []:=by
  by_cases h1 : IsCat c ∧ IsCat d
  · have h2 : ¬ IsFun f:=fun q=>h ⟨h1,q⟩
    have v1:=dec_t h1
    have v2:=is_v hb (dec_f h2)
    have ar:=sp_areCategories_two bc bd
    rw [v1] at ar
    refine spec_of_V (E:=TE) 0 Tryz.func93 rfl (by simp [Tryz.f93]) fun X hn hX=>?_
    repeat' (first|(with_reducible first|refine V_seq ?_|refine V_skip ?_|refine V_ret ?_)|((with_reducible refine V_cond ?_);simp only [go_sem,simprocAttr])|((refine V_region (by rw [hn];rfl) ?_);intro K hK)|((first|with_reducible refine evOps_n ?_|((with_reducible apply evOps_g);rfl));intro K hK;simp (contextual:=true) only [go_sem,simprocAttr])|with_reducible refine evOps_nil ?_|((with_reducible refine hK _ ?_);clear hK K)|(with_reducible first|refine And.intro ?_ ?_|refine nxt_n ?_|refine nxt_r ?_|refine inR_mk ?_ ?_)|((with_reducible refine evCall_at 55 ?_);refine EvCall.mq (ar) cal_areCategories [] [0] ?_;all_goals try simp only [go_sem,simprocAttr])|((with_reducible refine evCall_at 75 ?_);refine EvCall.mq (v2) cal_Functor_isFunctor [] [] ?_;all_goals try simp only [go_sem,simprocAttr])|(refine fun (hc : (_ : Bool) = _)=>?_;try simp only [hcS] at hc))
    all_goals try exact om_
    all_goals ((first|refine ret_auto ?_|refine ret_auto' ?_);simp only [go_sem,simprocAttr,Tryz.f93])
  · have v1:=dec_f h1
    have ar:=sp_areCategories_two bc bd
    rw [v1] at ar
    refine spec_of_V (E:=TE) 0 Tryz.func93 rfl (by simp [Tryz.f93]) fun X hn hX=>?_
    repeat' (first|(with_reducible first|refine V_seq ?_|refine V_skip ?_|refine V_ret ?_)|((with_reducible refine V_cond ?_);simp only [go_sem,simprocAttr])|((refine V_region (by rw [hn];rfl) ?_);intro K hK)|((first|with_reducible refine evOps_n ?_|((with_reducible apply evOps_g);rfl));intro K hK;simp (contextual:=true) only [go_sem,simprocAttr])|with_reducible refine evOps_nil ?_|((with_reducible refine hK _ ?_);clear hK K)|(with_reducible first|refine And.intro ?_ ?_|refine nxt_n ?_|refine nxt_r ?_|refine inR_mk ?_ ?_)|((with_reducible refine evCall_at 55 ?_);refine EvCall.mq (ar) cal_areCategories [] [0] ?_;all_goals try simp only [go_sem,simprocAttr])|(refine fun (hc : (_ : Bool) = _)=>?_;try simp only [hcS] at hc))
    all_goals try exact om_
    all_goals ((first|refine ret_auto ?_|refine ret_auto' ?_);simp only [go_sem,simprocAttr,Tryz.f93])
theorem sp_twoVariables_yes {c d : Cat} {f : Fun} (bc : CatB c) (bd : CatB d) (hb : FunB f) (sc : IsCat c) (sd : IsCat d) (hf : IsFun f) : Spec Tryz.prog 93 [.bptr [] (catD c),.bptr [] (catD d),.bptr [] (funD f)] [] (iv 0) []:=by
  have v1:=dec_t (And.intro sc sd)
  have v2:=is_v hb (dec_t hf)
  have ar:=sp_areCategories_two bc bd
  rw [v1] at ar
  refine spec_of_V (E:=TE) 0 Tryz.func93 rfl (by simp [Tryz.f93]) fun X hn hX=>?_
  repeat' (first|(with_reducible first|refine V_seq ?_|refine V_skip ?_|refine V_ret ?_)|((with_reducible refine V_cond ?_);simp only [go_sem,simprocAttr])|((refine V_region (by rw [hn];rfl) ?_);intro K hK)|((first|with_reducible refine evOps_n ?_|((with_reducible apply evOps_g);rfl));intro K hK;simp (contextual:=true) only [go_sem,simprocAttr])|with_reducible refine evOps_nil ?_|((with_reducible refine hK _ ?_);clear hK K)|(with_reducible first|refine And.intro ?_ ?_|refine nxt_n ?_|refine nxt_r ?_|refine inR_mk ?_ ?_)|((with_reducible refine evCall_at 55 ?_);refine EvCall.mq (ar) cal_areCategories [] [0] ?_;all_goals try simp only [go_sem,simprocAttr])|((with_reducible refine evCall_at 75 ?_);refine EvCall.mq (v2) cal_Functor_isFunctor [] [] ?_;all_goals try simp only [go_sem,simprocAttr])|(refine fun (hc : (_ : Bool) = _)=>?_;try simp only [hcS] at hc))
  all_goals try exact om_
  all_goals ((first|refine ret_auto ?_|refine ret_auto' ?_);simp only [go_sem,simprocAttr,Tryz.f93])
theorem cal_fromProduct : Callable Tryz.prog 94:=⟨_,Tryz.func94,rfl,rfl⟩
theorem sp_fromProduct_v {c d : Cat} {f : Fun} {v : Bool} (sc : IsCat c) (sd : IsCat d) (hb : FunB f) (hf : IsFun f) (hv : dec (f.src = prC c d) = v) : Spec Tryz.prog 94 [.bptr [] (catD c),.bptr [] (catD d),.bptr [] (funD f)] [] (bv v) []:=by
  have bs:=hb.src
  have bp:=prC_b sc.toShape sd.toShape
  by_cases hs : PrS c d
  · have hp:=sp_product_yes sc.toShape sd.toShape hs
    have hsa:=sp_sameCategory bp bs
    have hv2 : dec (prC c d = f.src) = v:=by
      rw [← hv]
      by_cases q : f.src = prC c d
      · rw [dec_t q,dec_t q.symm]
      · rw [dec_f q,dec_f fun z=>q z.symm]
    rw [hv2] at hsa
    refine spec_of_V (E:=TE) 0 Tryz.func94 rfl (by simp [Tryz.f94]) fun X hn hX=>?_
    repeat' (first|(with_reducible first|refine V_seq ?_|refine V_skip ?_|refine V_ret ?_)|((with_reducible refine V_cond ?_);simp only [go_sem,simprocAttr])|((refine V_region (by rw [hn];rfl) ?_);intro K hK)|((first|with_reducible refine evOps_n ?_|((with_reducible apply evOps_g);rfl));intro K hK;simp (contextual:=true) only [go_sem,simprocAttr])|with_reducible refine evOps_nil ?_|((with_reducible refine hK _ ?_);clear hK K)|(with_reducible first|refine And.intro ?_ ?_|refine nxt_n ?_|refine nxt_r ?_|refine inR_mk ?_ ?_)|((with_reducible refine evCall_at 89 ?_);refine EvCall.mq (hp) cal_product [(0,0),(1,1),(2,2),(3,3)] [] ?_;all_goals try simp only [go_sem,simprocAttr])|((with_reducible refine evCall_at 88 ?_);refine EvCall.mq (hsa) cal_sameCategory [] [4,0,1,2,3] ?_;all_goals try simp only [go_sem,simprocAttr])|(refine fun (hc : (_ : Bool) = _)=>?_;try simp only [hcS] at hc))
    all_goals try exact om_
    all_goals ((first|refine ret_auto ?_|refine ret_auto' ?_);simp only [go_sem,simprocAttr,Tryz.f94])
  · have hp:=sp_product_no sc.toShape sd.toShape hs
    have hq : ¬ f.src = prC c d:=fun q=>hs (prS_of hf.src.toShape q)
    rw [dec_f hq] at hv
    subst hv
    refine spec_of_V (E:=TE) 0 Tryz.func94 rfl (by simp [Tryz.f94]) fun X hn hX=>?_
    repeat' (first|(with_reducible first|refine V_seq ?_|refine V_skip ?_|refine V_ret ?_)|((with_reducible refine V_cond ?_);simp only [go_sem,simprocAttr])|((refine V_region (by rw [hn];rfl) ?_);intro K hK)|((first|with_reducible refine evOps_n ?_|((with_reducible apply evOps_g);rfl));intro K hK;simp (contextual:=true) only [go_sem,simprocAttr])|with_reducible refine evOps_nil ?_|((with_reducible refine hK _ ?_);clear hK K)|(with_reducible first|refine And.intro ?_ ?_|refine nxt_n ?_|refine nxt_r ?_|refine inR_mk ?_ ?_)|((with_reducible refine evCall_at 89 ?_);refine EvCall.mq (hp) cal_product [] [] ?_;all_goals try simp only [go_sem,simprocAttr])|(refine fun (hc : (_ : Bool) = _)=>?_;try simp only [hcS] at hc))
    all_goals try exact om_
    all_goals ((first|refine ret_auto ?_|refine ret_auto' ?_);simp only [go_sem,simprocAttr,Tryz.f94])
theorem cal_l08Two : Callable Tryz.prog 91:=⟨_,Tryz.func91,rfl,rfl⟩
def CurB (c d : Cat) (f : Fun) : Prop:=IsCat c ∧ IsCat d ∧ IsFun f
theorem sp_l08Two_bad {c d : Cat} {f : Fun} (bc : CatB c) (bd : CatB d) (hb : FunB f) (h : ¬ CurB c d f) : Spec Tryz.prog 91 [catV c,catV d,funV f,bv true] [] (iv 1) []:=by
  by_cases h1 : IsCat c
  · by_cases h2 : IsCat d
    · have h3 : ¬ IsFun f:=fun q=>h ⟨h1,h2,q⟩
      have v1:=sp_l02Is_v bc (dec_t h1)
      have v2:=sp_l02Is_v bd (dec_t h2)
      have v3:=sp_l06Is_v hb (dec_f h3)
      refine spec_of_V (E:=TE) 0 Tryz.func91 rfl (by simp [Tryz.f91]) fun X hn hX=>?_
      repeat' (first|(with_reducible first|refine V_seq ?_|refine V_block ?_|refine V_skip ?_|refine V_ret ?_|refine V_exit ?_)|((with_reducible refine V_cond ?_);simp only [go_sem,simprocAttr])|((first|refine V_region (by rw [hn];rfl) ?_|refine V_drawn hmix (by rw [hn];rfl) ?_);intro K hK)|((first|with_reducible refine evOps_n ?_|((with_reducible apply evOps_g);rfl)|with_reducible refine evOpsD_n ?_|((with_reducible apply evOpsD_g);rfl));intro K hK;simp (contextual:=true) only [go_sem,simprocAttr])|with_reducible refine evOps_nil ?_|((with_reducible refine evOpsD_nil ?_ ?_);kernel_rfl)|((with_reducible refine hK _ ?_);clear hK K)|(with_reducible first|refine And.intro ?_ ?_|refine nxt_n ?_|refine nxt_r ?_|refine nxt_e ?_|refine blk_n ?_|refine blk_r ?_|refine blk_same ?_|refine blk_other (by decide) ?_|refine noG_n ?_|refine noG_r ?_|refine noG_e ?_|refine inR_mk ?_ ?_)|((with_reducible refine (id ?_ : EvCall _ _ [.agg [iv c.ob,.bor [] (ints c.fr),.bor [] (ints c.to),.bor [] (ints c.id),.bor [] (intss c.co)]] _ _));refine EvCall.mq (v1) cal_l02Is [] [] ?_;all_goals try simp only [go_sem,simprocAttr])|((with_reducible refine (id ?_ : EvCall _ _ [.agg [iv d.ob,.bor [] (ints d.fr),.bor [] (ints d.to),.bor [] (ints d.id),.bor [] (intss d.co)]] _ _));refine EvCall.mq (v2) cal_l02Is [] [] ?_;all_goals try simp only [go_sem,simprocAttr])|((with_reducible refine evCall_at 71 ?_);refine EvCall.mq (v3) cal_l06Is [] [] ?_;all_goals try simp only [go_sem,simprocAttr])|(refine fun (hc : (_ : Bool) = _)=>?_;try simp only [hcS] at hc))
      all_goals try exact om_
      all_goals ((first|refine ret_auto ?_|refine ret_auto' ?_);simp only [go_sem,simprocAttr,Tryz.f91])
    · have v1:=sp_l02Is_v bc (dec_t h1)
      have v2:=sp_l02Is_v bd (dec_f h2)
      refine spec_of_V (E:=TE) 0 Tryz.func91 rfl (by simp [Tryz.f91]) fun X hn hX=>?_
      repeat' (first|(with_reducible first|refine V_seq ?_|refine V_block ?_|refine V_skip ?_|refine V_ret ?_|refine V_exit ?_)|((with_reducible refine V_cond ?_);simp only [go_sem,simprocAttr])|((first|refine V_region (by rw [hn];rfl) ?_|refine V_drawn hmix (by rw [hn];rfl) ?_);intro K hK)|((first|with_reducible refine evOps_n ?_|((with_reducible apply evOps_g);rfl)|with_reducible refine evOpsD_n ?_|((with_reducible apply evOpsD_g);rfl));intro K hK;simp (contextual:=true) only [go_sem,simprocAttr])|with_reducible refine evOps_nil ?_|((with_reducible refine evOpsD_nil ?_ ?_);kernel_rfl)|((with_reducible refine hK _ ?_);clear hK K)|(with_reducible first|refine And.intro ?_ ?_|refine nxt_n ?_|refine nxt_r ?_|refine nxt_e ?_|refine blk_n ?_|refine blk_r ?_|refine blk_same ?_|refine blk_other (by decide) ?_|refine noG_n ?_|refine noG_r ?_|refine noG_e ?_|refine inR_mk ?_ ?_)|((with_reducible refine (id ?_ : EvCall _ _ [.agg [iv c.ob,.bor [] (ints c.fr),.bor [] (ints c.to),.bor [] (ints c.id),.bor [] (intss c.co)]] _ _));refine EvCall.mq (v1) cal_l02Is [] [] ?_;all_goals try simp only [go_sem,simprocAttr])|((with_reducible refine (id ?_ : EvCall _ _ [.agg [iv d.ob,.bor [] (ints d.fr),.bor [] (ints d.to),.bor [] (ints d.id),.bor [] (intss d.co)]] _ _));refine EvCall.mq (v2) cal_l02Is [] [] ?_;all_goals try simp only [go_sem,simprocAttr])|(refine fun (hc : (_ : Bool) = _)=>?_;try simp only [hcS] at hc))
      all_goals try exact om_
      all_goals ((first|refine ret_auto ?_|refine ret_auto' ?_);simp only [go_sem,simprocAttr,Tryz.f91])
  · have v1:=sp_l02Is_v bc (dec_f h1)
    refine spec_of_V (E:=TE) 0 Tryz.func91 rfl (by simp [Tryz.f91]) fun X hn hX=>?_
    repeat' (first|(with_reducible first|refine V_seq ?_|refine V_block ?_|refine V_skip ?_|refine V_ret ?_|refine V_exit ?_)|((with_reducible refine V_cond ?_);simp only [go_sem,simprocAttr])|((first|refine V_region (by rw [hn];rfl) ?_|refine V_drawn hmix (by rw [hn];rfl) ?_);intro K hK)|((first|with_reducible refine evOps_n ?_|((with_reducible apply evOps_g);rfl)|with_reducible refine evOpsD_n ?_|((with_reducible apply evOpsD_g);rfl));intro K hK;simp (contextual:=true) only [go_sem,simprocAttr])|with_reducible refine evOps_nil ?_|((with_reducible refine evOpsD_nil ?_ ?_);kernel_rfl)|((with_reducible refine hK _ ?_);clear hK K)|(with_reducible first|refine And.intro ?_ ?_|refine nxt_n ?_|refine nxt_r ?_|refine nxt_e ?_|refine blk_n ?_|refine blk_r ?_|refine blk_same ?_|refine blk_other (by decide) ?_|refine noG_n ?_|refine noG_r ?_|refine noG_e ?_|refine inR_mk ?_ ?_)|((with_reducible refine (id ?_ : EvCall _ _ [.agg [iv c.ob,.bor [] (ints c.fr),.bor [] (ints c.to),.bor [] (ints c.id),.bor [] (intss c.co)]] _ _));refine EvCall.mq (v1) cal_l02Is [] [] ?_;all_goals try simp only [go_sem,simprocAttr])|(refine fun (hc : (_ : Bool) = _)=>?_;try simp only [hcS] at hc))
    all_goals try exact om_
    all_goals ((first|refine ret_auto ?_|refine ret_auto' ?_);simp only [go_sem,simprocAttr,Tryz.f91])
theorem sp_l08Two_ok {c d : Cat} {f : Fun} (bc : CatB c) (bd : CatB d) (hb : FunB f) (sc : IsCat c) (sd : IsCat d) (hf : IsFun f) {z : Int} (hz : (f.src = prC c d ∧ z = 0) ∨ (¬ f.src = prC c d ∧ z = 5)) : Spec Tryz.prog 91 [catV c,catV d,funV f,bv true] [] (iv z) []:=by
  have v1:=sp_l02Is_v bc (dec_t sc)
  have v2:=sp_l02Is_v bd (dec_t sd)
  have v3:=sp_l06Is_v hb (dec_t hf)
  have bs:=hb.src
  have bp:=prC_b sc.toShape sd.toShape
  have hp:=sp_l03Product sc.toShape sd.toShape
  have hsa:=sp_l02Same bs bp
  rcases hz with ⟨e,rfl⟩|⟨e,rfl⟩
  · rw [dec_t e] at hsa
    refine spec_of_V (E:=TE) 0 Tryz.func91 rfl (by simp [Tryz.f91]) fun X hn hX=>?_
    repeat' (first|(with_reducible first|refine V_seq ?_|refine V_block ?_|refine V_skip ?_|refine V_ret ?_|refine V_exit ?_)|((with_reducible refine V_cond ?_);simp only [go_sem,simprocAttr])|((first|refine V_region (by rw [hn];rfl) ?_|refine V_drawn hmix (by rw [hn];rfl) ?_);intro K hK)|((first|with_reducible refine evOps_n ?_|((with_reducible apply evOps_g);rfl)|with_reducible refine evOpsD_n ?_|((with_reducible apply evOpsD_g);rfl));intro K hK;simp (contextual:=true) only [go_sem,simprocAttr])|with_reducible refine evOps_nil ?_|((with_reducible refine evOpsD_nil ?_ ?_);kernel_rfl)|((with_reducible refine hK _ ?_);clear hK K)|(with_reducible first|refine And.intro ?_ ?_|refine nxt_n ?_|refine nxt_r ?_|refine nxt_e ?_|refine blk_n ?_|refine blk_r ?_|refine blk_same ?_|refine blk_other (by decide) ?_|refine noG_n ?_|refine noG_r ?_|refine noG_e ?_|refine inR_mk ?_ ?_)|((with_reducible refine (id ?_ : EvCall _ _ [.agg [iv c.ob,.bor [] (ints c.fr),.bor [] (ints c.to),.bor [] (ints c.id),.bor [] (intss c.co)]] _ _));refine EvCall.mq (v1) cal_l02Is [] [] ?_;all_goals try simp only [go_sem,simprocAttr])|((with_reducible refine (id ?_ : EvCall _ _ [.agg [iv d.ob,.bor [] (ints d.fr),.bor [] (ints d.to),.bor [] (ints d.id),.bor [] (intss d.co)]] _ _));refine EvCall.mq (v2) cal_l02Is [] [] ?_;all_goals try simp only [go_sem,simprocAttr])|((with_reducible refine evCall_at 71 ?_);refine EvCall.mq (v3) cal_l06Is [] [] ?_;all_goals try simp only [go_sem,simprocAttr])|((with_reducible refine evCall_at 86 ?_);refine EvCall.mq (hp) cal_l03Product [(0,3),(1,4),(2,5),(3,6)] [] ?_;all_goals try simp only [go_sem,simprocAttr])|((with_reducible refine evCall_at 84 ?_);refine EvCall.mq (hsa) cal_l02Same [] [3,4,5,6] ?_;all_goals try simp only [go_sem,simprocAttr])|(refine fun (hc : (_ : Bool) = _)=>?_;try simp only [hcS] at hc))
    all_goals try exact om_
    all_goals ((first|refine ret_auto ?_|refine ret_auto' ?_);simp only [go_sem,simprocAttr,Tryz.f91])
  · rw [dec_f e] at hsa
    refine spec_of_V (E:=TE) 0 Tryz.func91 rfl (by simp [Tryz.f91]) fun X hn hX=>?_
    repeat' (first|(with_reducible first|refine V_seq ?_|refine V_block ?_|refine V_skip ?_|refine V_ret ?_|refine V_exit ?_)|((with_reducible refine V_cond ?_);simp only [go_sem,simprocAttr])|((first|refine V_region (by rw [hn];rfl) ?_|refine V_drawn hmix (by rw [hn];rfl) ?_);intro K hK)|((first|with_reducible refine evOps_n ?_|((with_reducible apply evOps_g);rfl)|with_reducible refine evOpsD_n ?_|((with_reducible apply evOpsD_g);rfl));intro K hK;simp (contextual:=true) only [go_sem,simprocAttr])|with_reducible refine evOps_nil ?_|((with_reducible refine evOpsD_nil ?_ ?_);kernel_rfl)|((with_reducible refine hK _ ?_);clear hK K)|(with_reducible first|refine And.intro ?_ ?_|refine nxt_n ?_|refine nxt_r ?_|refine nxt_e ?_|refine blk_n ?_|refine blk_r ?_|refine blk_same ?_|refine blk_other (by decide) ?_|refine noG_n ?_|refine noG_r ?_|refine noG_e ?_|refine inR_mk ?_ ?_)|((with_reducible refine (id ?_ : EvCall _ _ [.agg [iv c.ob,.bor [] (ints c.fr),.bor [] (ints c.to),.bor [] (ints c.id),.bor [] (intss c.co)]] _ _));refine EvCall.mq (v1) cal_l02Is [] [] ?_;all_goals try simp only [go_sem,simprocAttr])|((with_reducible refine (id ?_ : EvCall _ _ [.agg [iv d.ob,.bor [] (ints d.fr),.bor [] (ints d.to),.bor [] (ints d.id),.bor [] (intss d.co)]] _ _));refine EvCall.mq (v2) cal_l02Is [] [] ?_;all_goals try simp only [go_sem,simprocAttr])|((with_reducible refine evCall_at 71 ?_);refine EvCall.mq (v3) cal_l06Is [] [] ?_;all_goals try simp only [go_sem,simprocAttr])|((with_reducible refine evCall_at 86 ?_);refine EvCall.mq (hp) cal_l03Product [(0,3),(1,4),(2,5),(3,6)] [] ?_;all_goals try simp only [go_sem,simprocAttr])|((with_reducible refine evCall_at 84 ?_);refine EvCall.mq (hsa) cal_l02Same [] [3,4,5,6] ?_;all_goals try simp only [go_sem,simprocAttr])|(refine fun (hc : (_ : Bool) = _)=>?_;try simp only [hcS] at hc))
    all_goals try exact om_
    all_goals ((first|refine ret_auto ?_|refine ret_auto' ?_);simp only [go_sem,simprocAttr,Tryz.f91])
end Go.Eng
end
