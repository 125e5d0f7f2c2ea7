/- Several texts in one: R31, R32. -/
import Derived.Test.YtmpopmololpaoaaGreatKaix
set_option linter.unusedSimpArgs false
set_option linter.unusedVariables false
set_option maxRecDepth 100000
set_option maxHeartbeats 16000000
section
namespace Go.Eng
open Go Go.Proofs Go.Cats
noncomputable def cuI (c d : Cat) (f : Fun) (i : Nat) : Nat:=fcAt (fcL d f.tgt) (fxF c d f i).obs (fxF c d f i).ars
noncomputable def cuO (c d : Cat) (f : Fun) (i : Nat) : List Int:=(List.range i).map fun i=>(cuI c d f i : Int)
noncomputable def cuK (c d : Cat) (f : Fun) (a : Nat) : List Int:=(cuI c d f (c.fr.getD a 0).toNat : Int) :: (cuI c d f (c.to.getD a 0).toNat : Int) :: cuC d f a d.ob.toNat
noncomputable def cuA (c d : Cat) (f : Fun) (a : Nat) : List Int:=(List.range a).map fun a=>fnd (fcA (fcL d f.tgt)) (cuK c d f a)
noncomputable def cuF (c d : Cat) (f : Fun) : Fun:=⟨c,fcK f.tgt (fcL d f.tgt),cuO c d f c.ob.toNat,cuA c d f c.fr.length⟩
section
variable {c d : Cat} {f : Fun} {i a : Nat}
theorem cuO_zero (c d f) : cuO c d f 0 = []:=rfl
theorem cuA_zero (c d f) : cuA c d f 0 = []:=rfl
theorem cuO_len : (cuO c d f i).length = i:=by unfold cuO;rw [List.length_map,List.length_range]
theorem cuA_len : (cuA c d f a).length = a:=by unfold cuA;rw [List.length_map,List.length_range]
theorem cuO_succ : cuO c d f (i + 1) = cuO c d f i ++ [(cuI c d f i : Int)]:=by unfold cuO;rw [List.range_succ,List.map_append,List.map_singleton]
theorem cuA_succ : cuA c d f (a + 1) = cuA c d f a ++ [fnd (fcA (fcL d f.tgt)) (cuK c d f a)]:=by unfold cuA;rw [List.range_succ,List.map_append,List.map_singleton]
theorem cuO_at {n : Nat} (h : i < n) : (cuO c d f n).getD i 0 = (cuI c d f i : Int):=by
  unfold cuO;rw [List.getD_eq_getElem?_getD,List.getElem?_map,List.getElem?_range h];rfl
theorem cu_ob (h : TwoF c d f) (hL : (fcL d f.tgt).length ≤ 8) (hi : (i : Int) < c.ob) : ObOK (fcL d f.tgt) (fxF c d f i).obs (fxF c d f i).ars (cuI c d f i):=fc_ob h.sd.toShape h.tg.toShape hL (fx_fits h hi)
theorem cu_fun (h : TwoF c d f) (hL : (fcL d f.tgt).length ≤ 8) (hi : (i : Int) < c.ob) : (fcL d f.tgt).getD (cuI c d f i) default = fxF c d f i:=by
  have o:=cu_ob h hL hi
  have hfl : FL d f.tgt (fcL d f.tgt):=FL.of_funX
  obtain ⟨g1,g2,g3⟩:=hfl _ o.lt
  have po:=o.po
  have qo:=o.qo
  revert g1 g2 po qo
  generalize (fcL d f.tgt).getD (cuI c d f i) default = g
  intro g1 g2 po qo
  cases g
  simp only at g1 g2 po qo
  subst g1 g2 po qo
  rfl
theorem cuK_mem (h : TwoF c d f) (hL : (fcL d f.tgt).length ≤ 8) (ha : a < c.fr.length) : cuK c d f a ∈ fcA (fcL d f.tgt):=by
  have f1:=h.sc.toShape.frw a ha
  have f2:=h.sc.toShape.tow a (by rw [h.sc.toShape.tol];exact ha)
  have o1:=cu_ob (i:=(c.fr.getD a 0).toNat) h hL (by omega)
  have o2:=cu_ob (i:=(c.to.getD a 0).toNat) h hL (by omega)
  refine mem_fcA.2 ⟨_,_,_,o1.lt,o2.lt,?_,rfl⟩
  rw [cu_fun h hL (by omega),cu_fun h hL (by omega),Int.toNat_of_nonneg f1.1,Int.toNat_of_nonneg f2.1]
  exact mem_natA.2 ⟨cuC_len,cu_nat h ha⟩
end
def CuOut (c d : Cat) (f : Fun) (g : Fun) (code : Int) : Prop :=
  (¬ CurB c d f ∧ g = nilF ∧ code = 1) ∨ (CurB c d f ∧ ((¬ f.src = prC c d ∧ g = nilF ∧ code = 5) ∨ (f.src = prC c d ∧ ((¬ FcY d f.tgt ∧ g = nilF ∧ code = 3) ∨ (FcY d f.tgt ∧ g = cuF c d f ∧ code = 0)))))
theorem CuOut.ex (c d : Cat) (f : Fun) : ∃ g code,CuOut c d f g code:=by
  by_cases h : CurB c d f
  · by_cases h2 : f.src = prC c d
    · by_cases h3 : FcY d f.tgt
      · exact ⟨_,_,.inr ⟨h,.inr ⟨h2,.inr ⟨h3,rfl,rfl⟩⟩⟩⟩
      · exact ⟨_,_,.inr ⟨h,.inr ⟨h2,.inl ⟨h3,rfl,rfl⟩⟩⟩⟩
    · exact ⟨_,_,.inr ⟨h,.inl ⟨h2,rfl,rfl⟩⟩⟩
  · exact ⟨_,_,.inl ⟨h,rfl,rfl⟩⟩
theorem cuF_b {c d : Cat} {f : Fun} (sc : Shape c) (bc : CatB c) (hy : FcY d f.tgt) : FunB (cuF c d f):=by
  have c8:=sc.ob8
  have m40:=sc.m40
  refine ⟨bc,fcK_b f.tgt hy.2.1 hy.2.2,?_,?_⟩
  · show (cuO _ _ _ _).length ≤ 1048576;rw [cuO_len];omega
  · show (cuA _ _ _ _).length ≤ 1048576;rw [cuA_len];omega
attribute [local go_sem] List.set_cons_zero List.set_cons_succ cuO_zero cuA_zero cuC_zero
theorem cal_CurryFunctor : Callable Tryz.prog 41:=⟨_,Tryz.func41,rfl,rfl⟩
theorem sp_CurryFunctor_bad {c d : Cat} {f : Fun} (hc : CatB c) (hd : CatB d) (hb : FunB f) (h : ¬ CurB c d f) : Spec Tryz.prog 41 [catV c,catV d,funV f] [] (.tup [.agg [iv 0,.v (.slice none 0 0),.v (.slice none 0 0),.v (.slice none 0 0),.v (.slice none 0 0),iv 0,.v (.slice none 0 0),.v (.slice none 0 0),.v (.slice none 0 0),.v (.slice none 0 0),.v (.slice none 0 0),.v (.slice none 0 0)],iv 1]) []:=by
  have tv:=sp_twoVariables_bad hc hd hb (fun q=>h ⟨q.1.1,q.1.2,q.2⟩)
  refine spec_of_V (E:=TE) 0 Tryz.func41 rfl (by simp [Tryz.f41]) fun X hn hX=>?_
  repeat' (first|(with_reducible first|refine V_seq ?_|refine V_block ?_|refine V_skip ?_|refine V_ret ?_|refine V_exit ?_)|((with_reducible refine V_cond ?_);simp only [go_sem,simprocAttr])|((first|refine V_region (by rw [hn];rfl) ?_|refine V_drawn hmix (by rw [hn];rfl) ?_);intro K hK)|((first|with_reducible refine evOps_n ?_|((with_reducible apply evOps_g);rfl)|with_reducible refine evOpsD_n ?_|((with_reducible apply evOpsD_g);rfl));intro K hK;simp (contextual:=true) only [go_sem,simprocAttr])|with_reducible refine evOps_nil ?_|((with_reducible refine evOpsD_nil ?_ ?_);kernel_rfl)|((with_reducible refine hK _ ?_);clear hK K)|(with_reducible first|refine And.intro ?_ ?_|refine nxt_n ?_|refine nxt_r ?_|refine nxt_e ?_|refine blk_n ?_|refine blk_r ?_|refine blk_same ?_|refine blk_other (by decide) ?_|refine noG_n ?_|refine noG_r ?_|refine noG_e ?_|refine inR_mk ?_ ?_)|((with_reducible refine evCall_at 93 ?_);refine EvCall.mq (tv) cal_twoVariables [] [0,1,2] ?_;all_goals try simp only [go_sem,simprocAttr])|(refine fun (hc : (_ : Bool) = _)=>?_;try simp only [hcS] at hc))
  all_goals try exact om_
  all_goals ((first|refine ret_auto ?_|refine ret_auto' ?_);simp only [go_sem,simprocAttr,Tryz.f41])
theorem sp_CurryFunctor_else {c d : Cat} {f : Fun} (hc : CatB c) (hd : CatB d) (hb : FunB f) (h : CurB c d f) (h2 : ¬ f.src = prC c d) : Spec Tryz.prog 41 [catV c,catV d,funV f] [] (.tup [.agg [iv 0,.v (.slice none 0 0),.v (.slice none 0 0),.v (.slice none 0 0),.v (.slice none 0 0),iv 0,.v (.slice none 0 0),.v (.slice none 0 0),.v (.slice none 0 0),.v (.slice none 0 0),.v (.slice none 0 0),.v (.slice none 0 0)],iv 5]) []:=by
  obtain ⟨sc,sd,hf⟩:=h
  have tv:=sp_twoVariables_yes hc hd hb sc sd hf
  have fp:=sp_fromProduct_v sc sd hb hf (dec_f h2)
  refine spec_of_V (E:=TE) 0 Tryz.func41 rfl (by simp [Tryz.f41]) fun X hn hX=>?_
  repeat' (first|(with_reducible first|refine V_seq ?_|refine V_block ?_|refine V_skip ?_|refine V_ret ?_|refine V_exit ?_)|((with_reducible refine V_cond ?_);simp only [go_sem,simprocAttr])|((first|refine V_region (by rw [hn];rfl) ?_|refine V_drawn hmix (by rw [hn];rfl) ?_);intro K hK)|((first|with_reducible refine evOps_n ?_|((with_reducible apply evOps_g);rfl)|with_reducible refine evOpsD_n ?_|((with_reducible apply evOpsD_g);rfl));intro K hK;simp (contextual:=true) only [go_sem,simprocAttr])|with_reducible refine evOps_nil ?_|((with_reducible refine evOpsD_nil ?_ ?_);kernel_rfl)|((with_reducible refine hK _ ?_);clear hK K)|(with_reducible first|refine And.intro ?_ ?_|refine nxt_n ?_|refine nxt_r ?_|refine nxt_e ?_|refine blk_n ?_|refine blk_r ?_|refine blk_same ?_|refine blk_other (by decide) ?_|refine noG_n ?_|refine noG_r ?_|refine noG_e ?_|refine inR_mk ?_ ?_)|((with_reducible refine evCall_at 93 ?_);refine EvCall.mq (tv) cal_twoVariables [] [0,1,2] ?_;all_goals try simp only [go_sem,simprocAttr])|((with_reducible refine evCall_at 94 ?_);refine EvCall.mq (fp) cal_fromProduct [] [0,1,2] ?_;all_goals try simp only [go_sem,simprocAttr])|(refine fun (hc : (_ : Bool) = _)=>?_;try simp only [hcS] at hc))
  all_goals try exact om_
  all_goals ((first|refine ret_auto ?_|refine ret_auto' ?_);simp only [go_sem,simprocAttr,Tryz.f41])
theorem sp_CurryFunctor_no {c d : Cat} {f : Fun} (hc : CatB c) (hd : CatB d) (hb : FunB f) (h : CurB c d f) (h2 : f.src = prC c d) (h3 : ¬ FcY d f.tgt) : Spec Tryz.prog 41 [catV c,catV d,funV f] [] (.tup [.agg [iv 0,.v (.slice none 0 0),.v (.slice none 0 0),.v (.slice none 0 0),.v (.slice none 0 0),iv 0,.v (.slice none 0 0),.v (.slice none 0 0),.v (.slice none 0 0),.v (.slice none 0 0),.v (.slice none 0 0),.v (.slice none 0 0)],iv 3]) []:=by
  obtain ⟨sc,sd,hf⟩:=h
  have tv:=sp_twoVariables_yes hc hd hb sc sd hf
  have fp:=sp_fromProduct_v sc sd hb hf (dec_t h2)
  have h1:=sp_functors_o sd hf.tgt hd hb.tgt (.inr ⟨h3,rfl,rfl⟩)
  refine spec_of_V (E:=TE) 0 Tryz.func41 rfl (by simp [Tryz.f41]) fun X hn hX=>?_
  repeat' (first|(with_reducible first|refine V_seq ?_|refine V_block ?_|refine V_skip ?_|refine V_ret ?_|refine V_exit ?_)|((with_reducible refine V_cond ?_);simp only [go_sem,simprocAttr])|((first|refine V_region (by rw [hn];rfl) ?_|refine V_drawn hmix (by rw [hn];rfl) ?_);intro K hK)|((first|with_reducible refine evOps_n ?_|((with_reducible apply evOps_g);rfl)|with_reducible refine evOpsD_n ?_|((with_reducible apply evOpsD_g);rfl));intro K hK;simp (contextual:=true) only [go_sem,simprocAttr])|with_reducible refine evOps_nil ?_|((with_reducible refine evOpsD_nil ?_ ?_);kernel_rfl)|((with_reducible refine hK _ ?_);clear hK K)|(with_reducible first|refine And.intro ?_ ?_|refine nxt_n ?_|refine nxt_r ?_|refine nxt_e ?_|refine blk_n ?_|refine blk_r ?_|refine blk_same ?_|refine blk_other (by decide) ?_|refine noG_n ?_|refine noG_r ?_|refine noG_e ?_|refine inR_mk ?_ ?_)|((with_reducible refine evCall_at 93 ?_);refine EvCall.mq (tv) cal_twoVariables [] [0,1,2] ?_;all_goals try simp only [go_sem,simprocAttr])|((with_reducible refine evCall_at 94 ?_);refine EvCall.mq (fp) cal_fromProduct [] [0,1,2] ?_;all_goals try simp only [go_sem,simprocAttr])|((with_reducible refine evCall_at 56 ?_);refine EvCall.mq (h1) cal_functors [] [1,2] ?_;all_goals try simp only [go_sem,simprocAttr])|(refine fun (hc : (_ : Bool) = _)=>?_;try simp only [hcS] at hc))
  all_goals try exact om_
  all_goals ((first|refine ret_auto ?_|refine ret_auto' ?_);simp only [go_sem,simprocAttr,Tryz.f41])
theorem sp_CurryFunctor_yes {c d : Cat} {f : Fun} (hc : CatB c) (hd : CatB d) (hb : FunB f) (h : CurB c d f) (h2 : f.src = prC c d) (hy : FcY d f.tgt) : Spec Tryz.prog 41 [catV c,catV d,funV f] [] (.tup [.agg [iv (cuF c d f).src.ob,.sl 0,.sl 1,.sl 2,.sl 3,iv (cuF c d f).tgt.ob,.sl 4,.sl 5,.sl 6,.sl 7,.sl 8,.sl 9],iv 0]) [(0,⟨1,.arr (ints (cuF c d f).src.fr)⟩),(1,⟨1,.arr (ints (cuF c d f).src.to)⟩),(2,⟨1,.arr (ints (cuF c d f).src.id)⟩),(3,⟨1,.arr (intss (cuF c d f).src.co)⟩),(4,⟨1,.arr (ints (cuF c d f).tgt.fr)⟩),(5,⟨1,.arr (ints (cuF c d f).tgt.to)⟩),(6,⟨1,.arr (ints (cuF c d f).tgt.id)⟩),(7,⟨1,.arr (intss (cuF c d f).tgt.co)⟩),(8,⟨1,.arr (ints (cuF c d f).obs)⟩),(9,⟨1,.arr (ints (cuF c d f).ars)⟩)]:=by
  obtain ⟨sc,sd,hf⟩:=h
  have bc:=hc
  have tw:=TwoF.mk' sc sd hf h2
  have tv:=sp_twoVariables_yes hc hd hb sc sd hf
  have fp:=sp_fromProduct_v sc sd hb hf (dec_t h2)
  have c0:=sc.toShape.ob0
  have c8:=sc.toShape.ob8
  have c40:=sc.toShape.m40
  have ctl:=sc.toShape.tol
  have d0:=sd.toShape.ob0
  have d8:=sd.toShape.ob8
  have d40:=sd.toShape.m40
  have dil:=sd.toShape.idl
  have hal:=tw.al
  have h1:=sp_functors_o sd hf.tgt hd hb.tgt (.inl ⟨hy,rfl,rfl⟩)
  have hL:=hy.2.1
  have hA:=hy.2.2
  have hfl : FL d f.tgt (fcL d f.tgt):=FL.of_funX
  have hKb:=fcK_b f.tgt hL hA
  have hk:=fc_key hfl hL hf.tgt.toShape
  have hfu:=sp_functor (c:=c) (d:=fcK f.tgt (fcL d f.tgt)) (p:=cuO c d f c.ob.toNat) (q:=cuA c d f c.fr.length) hc hKb (by rw [cuO_len];omega) (by rw [cuA_len];omega)
  have eF : cuF c d f = ⟨c,fcK f.tgt (fcL d f.tgt),cuO c d f c.ob.toNat,cuA c d f c.fr.length⟩:=rfl
  rw [eF]
  refine spec_of_V (E:=TE) 0 Tryz.func41 rfl (by simp [Tryz.f41]) fun X hn hX=>?_
  repeat' (first|(with_reducible first|refine V_seq ?_|refine V_block ?_|refine V_skip ?_|refine V_ret ?_|refine V_exit ?_)|((with_reducible refine V_cond ?_);simp only [go_sem,simprocAttr])|((first|refine V_region (by rw [hn];rfl) ?_|refine V_drawn hmix (by rw [hn];rfl) ?_);intro K hK)|((first|with_reducible refine evOps_n ?_|((with_reducible apply evOps_g);rfl)|with_reducible refine evOpsD_n ?_|((with_reducible apply evOpsD_g);rfl));intro K hK;simp (contextual:=true) only [go_sem,simprocAttr])|with_reducible refine evOps_nil ?_|((with_reducible refine evOpsD_nil ?_ ?_);kernel_rfl)|((with_reducible refine hK _ ?_);clear hK K)|(with_reducible first|refine And.intro ?_ ?_|refine nxt_n ?_|refine nxt_r ?_|refine nxt_e ?_|refine blk_n ?_|refine blk_r ?_|refine blk_same ?_|refine blk_other (by decide) ?_|refine noG_n ?_|refine noG_r ?_|refine noG_e ?_|refine inR_mk ?_ ?_)|((with_reducible refine evCall_at 93 ?_);refine EvCall.mq (tv) cal_twoVariables [] [0,1,2] ?_;all_goals try simp only [go_sem,simprocAttr])|((with_reducible refine evCall_at 94 ?_);refine EvCall.mq (fp) cal_fromProduct [] [0,1,2] ?_;all_goals try simp only [go_sem,simprocAttr])|((with_reducible refine evCall_at 56 ?_);refine EvCall.mq (h1) cal_functors [(0,4),(1,5),(2,6),(3,7),(4,8),(5,9),(6,10),(7,11)] [1,2] ?_;all_goals try simp only [go_sem,simprocAttr])|(refine fun (hc : (_ : Bool) = _)=>?_;try simp only [hcS] at hc))
  all_goals try exact om_
  refine V_loopK (G:={i : Nat // i ≤ c.ob.toNat ∧ (True)}) (fun ⟨i,_⟩=>[(13,iv i),(9,.ptr 4 0),(11,.sl 12),(12,.sl 13)]) [3,4,5,6,7] (fun ⟨i,_⟩=>[(12,⟨1,.arr (ints (cuO c d f i))⟩),(13,⟨1,.arr (ints [])⟩)]) [12,13] (fun zz=>c.ob.toNat - zz.1) ⟨0,Nat.zero_le _,by first|trivial|simp⟩ ?_ ?_
  · exact Imp.au hX
  rintro ⟨i,hii,hwi⟩
  simp only [go_sem,simprocAttr]
  have hol:=cuO_len (c:=c) (d:=d) (f:=f) (i:=i)
  rcases Nat.lt_or_ge i c.ob.toNat with hli | hgi
  · have hob:=cu_ob (i:=i) tw hL (by omega)
    have hfx:=sp_fixFirst (i:=i) tw bc hd hb (by omega)
    have ho:=sp_functorCategory_object (a0:=.v (.int .i64 (fcL d f.tgt).length)) (a1:=ints (fcK f.tgt (fcL d f.tgt)).fr) (a2:=ints (fcK f.tgt (fcL d f.tgt)).to) (a3:=ints (fcK f.tgt (fcL d f.tgt)).id) (a4:=intss (fcK f.tgt (fcL d f.tgt)).co) (a6:=intss (fcA (fcL d f.tgt))) (a7:=mapD Tryz.prog 9 2 (fcA (fcL d f.tgt)).length (pm (fcA (fcL d f.tgt)) (fcA (fcL d f.tgt)).length)) hob
    have e1:=cuO_succ (c:=c) (d:=d) (f:=f) (i:=i)
    repeat' (first|(with_reducible first|refine V_seq ?_|refine V_block ?_|refine V_skip ?_|refine V_ret ?_|refine V_exit ?_)|((with_reducible refine V_cond ?_);simp only [go_sem,simprocAttr])|((first|refine V_region (by rw [hn];rfl) ?_|refine V_drawn hmix (by rw [hn];rfl) ?_);intro K hK)|((first|with_reducible refine evOps_n ?_|((with_reducible apply evOps_g);rfl)|with_reducible refine evOpsD_n ?_|((with_reducible apply evOpsD_g);rfl));intro K hK;simp (contextual:=true) only [go_sem,simprocAttr])|with_reducible refine evOps_nil ?_|((with_reducible refine evOpsD_nil ?_ ?_);kernel_rfl)|((with_reducible refine hK _ ?_);clear hK K)|(with_reducible first|refine And.intro ?_ ?_|refine nxt_n ?_|refine nxt_r ?_|refine nxt_e ?_|refine blk_n ?_|refine blk_r ?_|refine blk_same ?_|refine blk_other (by decide) ?_|refine noG_n ?_|refine noG_r ?_|refine noG_e ?_|refine inR_mk ?_ ?_)|((with_reducible refine evCall_at 95 ?_);refine EvCall.mq (hfx) cal_fixFirst [(0,14),(1,15),(2,16),(3,17),(4,18),(5,19),(6,20),(7,21),(8,22),(9,23)] [0,1,2] ?_;all_goals try simp only [go_sem,simprocAttr])|((with_reducible refine evCall_at 67 ?_);refine EvCall.mq (ho) cal_functorCategory_object [] [4,5,6,7,8,9,10,11,22,23] ?_;all_goals try simp only [go_sem,simprocAttr])|(refine fun (hc : (_ : Bool) = _)=>?_;try simp only [hcS] at hc))
    all_goals try exact om_
    · refine ⟨⟨i + 1,by omega,(by trivial)⟩,by simp only;omega,Imp.auto hX (by simp only [go_sem,simprocAttr,e1])⟩
  · have ei : i = c.ob.toNat:=by omega
    subst ei
    repeat' (first|(with_reducible first|refine V_seq ?_|refine V_block ?_|refine V_skip ?_|refine V_ret ?_|refine V_exit ?_)|((with_reducible refine V_cond ?_);simp only [go_sem,simprocAttr])|((first|refine V_region (by rw [hn];rfl) ?_|refine V_drawn hmix (by rw [hn];rfl) ?_);intro K hK)|((first|with_reducible refine evOps_n ?_|((with_reducible apply evOps_g);rfl)|with_reducible refine evOpsD_n ?_|((with_reducible apply evOpsD_g);rfl));intro K hK;simp (contextual:=true) only [go_sem,simprocAttr])|with_reducible refine evOps_nil ?_|((with_reducible refine evOpsD_nil ?_ ?_);kernel_rfl)|((with_reducible refine hK _ ?_);clear hK K)|(with_reducible first|refine And.intro ?_ ?_|refine nxt_n ?_|refine nxt_r ?_|refine nxt_e ?_|refine blk_n ?_|refine blk_r ?_|refine blk_same ?_|refine blk_other (by decide) ?_|refine noG_n ?_|refine noG_r ?_|refine noG_e ?_|refine inR_mk ?_ ?_)|(refine fun (hc : (_ : Bool) = _)=>?_;try simp only [hcS] at hc))
    all_goals try exact om_
    refine V_loopK (G:={a : Nat // a ≤ c.fr.length ∧ (True)}) (fun ⟨a,_⟩=>[(15,iv a),(9,.ptr 4 0),(11,.sl 12),(12,.sl 13)]) [3,4,5,6,7] (fun ⟨a,_⟩=>[(12,⟨1,.arr (ints (cuO c d f c.ob.toNat))⟩),(13,⟨1,.arr (ints (cuA c d f a))⟩)]) [12,13] (fun zz=>c.fr.length - zz.1) ⟨0,Nat.zero_le _,by first|trivial|simp⟩ ?_ ?_
    · exact Imp.au hX
    rintro ⟨a,hia,hwa⟩
    simp only [go_sem,simprocAttr]
    have hal2:=cuA_len (c:=c) (d:=d) (f:=f) (a:=a)
    rcases Nat.lt_or_ge a c.fr.length with hla | hga
    · repeat' (first|(with_reducible first|refine V_seq ?_|refine V_block ?_|refine V_skip ?_|refine V_ret ?_|refine V_exit ?_)|((with_reducible refine V_cond ?_);simp only [go_sem,simprocAttr])|((first|refine V_region (by rw [hn];rfl) ?_|refine V_drawn hmix (by rw [hn];rfl) ?_);intro K hK)|((first|with_reducible refine evOps_n ?_|((with_reducible apply evOps_g);rfl)|with_reducible refine evOpsD_n ?_|((with_reducible apply evOpsD_g);rfl));intro K hK;simp (contextual:=true) only [go_sem,simprocAttr])|with_reducible refine evOps_nil ?_|((with_reducible refine evOpsD_nil ?_ ?_);kernel_rfl)|((with_reducible refine hK _ ?_);clear hK K)|(with_reducible first|refine And.intro ?_ ?_|refine nxt_n ?_|refine nxt_r ?_|refine nxt_e ?_|refine blk_n ?_|refine blk_r ?_|refine blk_same ?_|refine blk_other (by decide) ?_|refine noG_n ?_|refine noG_r ?_|refine noG_e ?_|refine inR_mk ?_ ?_)|((with_reducible refine evCall_at 69 ?_);refine EvCall.rq (a:=(sp_Category_arrows)) (b:=cal_Category_arrows) (c:=?_);all_goals try simp only [go_sem,simprocAttr])|(refine fun (hc : (_ : Bool) = _)=>?_;try simp only [hcS] at hc))
      all_goals try exact om_
      refine V_loopK (G:={x : Nat // x ≤ d.id.length ∧ (True)}) (fun ⟨x,_⟩=>[(63,iv x),(9,.ptr 4 0),(11,.sl 12),(12,.sl 13),(15,iv a),(16,.sl 14)]) [3,4,5,6,7,61,62] (fun ⟨x,_⟩=>[(12,⟨1,.arr (ints (cuO c d f c.ob.toNat))⟩),(13,⟨1,.arr (ints (cuA c d f a))⟩),(14,⟨1,.arr (ints (cuC d f a x))⟩)]) [12,13,14] (fun zz=>d.id.length - zz.1) ⟨0,Nat.zero_le _,by first|trivial|simp⟩ ?_ ?_
      · exact Imp.au hX
      rintro ⟨x,hix,hwx⟩
      simp only [go_sem,simprocAttr]
      have hcl:=cuC_len (d:=d) (f:=f) (a:=a) (k:=x)
      rcases Nat.lt_or_ge x d.id.length with hlx | hgx
      · obtain ⟨k,k1,k2,k3,k4⟩:=sd.toShape.ii (i:=x) hlx
        have hga:=ga_lt tw (x:=(a : Int)) (i:=a) (j:=k) rfl hla k2
        have e1:=cuC_succ (d:=d) (f:=f) (a:=a) (k:=x)
        repeat' (first|(with_reducible first|refine V_seq ?_|refine V_block ?_|refine V_skip ?_|refine V_ret ?_|refine V_exit ?_)|((with_reducible refine V_cond ?_);simp only [go_sem,simprocAttr])|((first|refine V_region (by rw [hn];rfl) ?_|refine V_drawn hmix (by rw [hn];rfl) ?_);intro K hK)|((first|with_reducible refine evOps_n ?_|((with_reducible apply evOps_g);rfl)|with_reducible refine evOpsD_n ?_|((with_reducible apply evOpsD_g);rfl));intro K hK;simp (contextual:=true) only [go_sem,simprocAttr])|with_reducible refine evOps_nil ?_|((with_reducible refine evOpsD_nil ?_ ?_);kernel_rfl)|((with_reducible refine hK _ ?_);clear hK K)|(with_reducible first|refine And.intro ?_ ?_|refine nxt_n ?_|refine nxt_r ?_|refine nxt_e ?_|refine blk_n ?_|refine blk_r ?_|refine blk_same ?_|refine blk_other (by decide) ?_|refine noG_n ?_|refine noG_r ?_|refine noG_e ?_|refine inR_mk ?_ ?_)|((with_reducible refine evCall_at 69 ?_);refine EvCall.rq (a:=(sp_Category_arrows)) (b:=cal_Category_arrows) (c:=?_);all_goals try simp only [go_sem,simprocAttr])|(refine fun (hc : (_ : Bool) = _)=>?_;try simp only [hcS] at hc))
        all_goals try exact om_
        · refine ⟨⟨x + 1,by omega,(by trivial)⟩,by simp only;omega,Imp.auto hX (by simp only [go_sem,simprocAttr,e1])⟩
      · have ex : x = d.id.length:=by omega
        subst ex
        have el : d.id.length = d.ob.toNat:=by omega
        have f1:=sc.toShape.frw a hla
        have f2:=sc.toShape.tow a (by omega)
        have o1:=cuO_at (c:=c) (d:=d) (f:=f) (i:=(c.fr.getD a 0).toNat) (n:=c.ob.toNat) (by omega)
        have o2:=cuO_at (c:=c) (d:=d) (f:=f) (i:=(c.to.getD a 0).toNat) (n:=c.ob.toNat) (by omega)
        have hol2:=cuO_len (c:=c) (d:=d) (f:=f) (i:=c.ob.toNat)
        have hm:=cuK_mem tw hL hla
        have har:=sp_functorCategory_arrow (a0:=.v (.int .i64 (fcL d f.tgt).length)) (a1:=ints (fcK f.tgt (fcL d f.tgt)).fr) (a2:=ints (fcK f.tgt (fcL d f.tgt)).to) (a3:=ints (fcK f.tgt (fcL d f.tgt)).id) (a4:=intss (fcK f.tgt (fcL d f.tgt)).co) (a5:=funsD (fcL d f.tgt)) (a6:=intss (fcA (fcL d f.tgt))) hk hm (by rw [cuC_len];omega)
        have e2 : cuA c d f (a + 1) = cuA c d f a ++ [fnd (fcA (fcL d f.tgt)) ((cuI c d f (c.fr.getD a 0).toNat : Int) :: (cuI c d f (c.to.getD a 0).toNat : Int) :: cuC d f a d.ob.toNat)]:=cuA_succ
        rw [el]
        repeat' (first|(rw [o1];simp only [go_sem,simprocAttr])|(rw [o2];simp only [go_sem,simprocAttr])|(with_reducible first|refine V_seq ?_|refine V_block ?_|refine V_skip ?_|refine V_ret ?_|refine V_exit ?_)|((with_reducible refine V_cond ?_);simp only [go_sem,simprocAttr])|((first|refine V_region (by rw [hn];rfl) ?_|refine V_drawn hmix (by rw [hn];rfl) ?_);intro K hK)|((first|with_reducible refine evOps_n ?_|((with_reducible apply evOps_g);rfl)|with_reducible refine evOpsD_n ?_|((with_reducible apply evOpsD_g);rfl));intro K hK;simp (contextual:=true) only [go_sem,simprocAttr])|with_reducible refine evOps_nil ?_|((with_reducible refine evOpsD_nil ?_ ?_);kernel_rfl)|((with_reducible refine hK _ ?_);clear hK K)|(with_reducible first|refine And.intro ?_ ?_|refine nxt_n ?_|refine nxt_r ?_|refine nxt_e ?_|refine blk_n ?_|refine blk_r ?_|refine blk_same ?_|refine blk_other (by decide) ?_|refine noG_n ?_|refine noG_r ?_|refine noG_e ?_|refine inR_mk ?_ ?_)|((with_reducible refine evCall_at 70 ?_);refine EvCall.mq (har) cal_functorCategory_arrow [] [4,5,6,7,8,9,10,11,14] ?_;all_goals try simp only [go_sem,simprocAttr])|(refine fun (hc : (_ : Bool) = _)=>?_;try simp only [hcS] at hc))
        all_goals try exact om_
        · refine ⟨⟨a + 1,by omega,(by (trivial))⟩,by simp only;omega,Imp.auto hX (by simp only [go_sem,simprocAttr,e2])⟩
    · have ea : a = c.fr.length:=by omega
      subst ea
      repeat' (first|(with_reducible first|refine V_seq ?_|refine V_block ?_|refine V_skip ?_|refine V_ret ?_|refine V_exit ?_)|((with_reducible refine V_cond ?_);simp only [go_sem,simprocAttr])|((first|refine V_region (by rw [hn];rfl) ?_|refine V_drawn hmix (by rw [hn];rfl) ?_);intro K hK)|((first|with_reducible refine evOps_n ?_|((with_reducible apply evOps_g);rfl)|with_reducible refine evOpsD_n ?_|((with_reducible apply evOpsD_g);rfl));intro K hK;simp (contextual:=true) only [go_sem,simprocAttr])|with_reducible refine evOps_nil ?_|((with_reducible refine evOpsD_nil ?_ ?_);kernel_rfl)|((with_reducible refine hK _ ?_);clear hK K)|(with_reducible first|refine And.intro ?_ ?_|refine nxt_n ?_|refine nxt_r ?_|refine nxt_e ?_|refine blk_n ?_|refine blk_r ?_|refine blk_same ?_|refine blk_other (by decide) ?_|refine noG_n ?_|refine noG_r ?_|refine noG_e ?_|refine inR_mk ?_ ?_)|((with_reducible refine evCall_at 69 ?_);refine EvCall.rq (a:=(sp_Category_arrows)) (b:=cal_Category_arrows) (c:=?_);all_goals try simp only [go_sem,simprocAttr])|((with_reducible refine evCall_at 63 ?_);refine EvCall.mq (hfu) cal_functor [(0,14),(1,15),(2,16),(3,17),(4,18),(5,19),(6,20),(7,21),(8,22),(9,23)] [0,4,5,6,7,8,12,13] ?_;all_goals try simp only [go_sem,simprocAttr])|(refine fun (hc : (_ : Bool) = _)=>?_;try simp only [hcS] at hc))
      all_goals try exact om_
      · (first|refine ret_auto ?_|refine ret_auto' ?_);simp only [go_sem,simprocAttr,Tryz.f41]
end Go.Eng
end
section
namespace Go.Eng
open Go Go.Proofs Go.Cats
attribute [local go_sem] List.set_cons_zero List.set_cons_succ cuO_zero cuA_zero cuC_zero
theorem cal_spec_CurryFunctor : Callable Tryz.prog 40:=⟨_,Tryz.func40,rfl,rfl⟩
theorem sp_spec_CurryFunctor_bad {c d : Cat} {f : Fun} (hc : CatB c) (hd : CatB d) (hb : FunB f) (h : ¬ CurB c d f) : Spec Tryz.prog 40 [catV c,catV d,funV f] [] (.tup [.agg [iv 0,.v (.slice none 0 0),.v (.slice none 0 0),.v (.slice none 0 0),.v (.slice none 0 0),iv 0,.v (.slice none 0 0),.v (.slice none 0 0),.v (.slice none 0 0),.v (.slice none 0 0),.v (.slice none 0 0),.v (.slice none 0 0)],iv 1]) []:=by
  have tv:=sp_l08Two_bad hc hd hb h
  refine spec_of_V (E:=TE) 0 Tryz.func40 rfl (by simp [Tryz.f40]) fun X hn hX=>?_
  repeat' (first|(with_reducible first|refine V_seq ?_|refine V_block ?_|refine V_skip ?_|refine V_ret ?_|refine V_exit ?_)|((with_reducible refine V_cond ?_);simp only [go_sem,simprocAttr])|((first|refine V_region (by rw [hn];rfl) ?_|refine V_drawn hmix (by rw [hn];rfl) ?_);intro K hK)|((first|with_reducible refine evOps_n ?_|((with_reducible apply evOps_g);rfl)|with_reducible refine evOpsD_n ?_|((with_reducible apply evOpsD_g);rfl));intro K hK;simp (contextual:=true) only [go_sem,simprocAttr])|with_reducible refine evOps_nil ?_|((with_reducible refine evOpsD_nil ?_ ?_);kernel_rfl)|((with_reducible refine hK _ ?_);clear hK K)|(with_reducible first|refine And.intro ?_ ?_|refine nxt_n ?_|refine nxt_r ?_|refine nxt_e ?_|refine blk_n ?_|refine blk_r ?_|refine blk_same ?_|refine blk_other (by decide) ?_|refine noG_n ?_|refine noG_r ?_|refine noG_e ?_|refine inR_mk ?_ ?_)|((with_reducible refine evCall_at 91 ?_);refine EvCall.mq (tv) cal_l08Two [] [] ?_;all_goals try simp only [go_sem,simprocAttr])|(refine fun (hc : (_ : Bool) = _)=>?_;try simp only [hcS] at hc))
  all_goals try exact om_
  all_goals ((first|refine ret_auto ?_|refine ret_auto' ?_);simp only [go_sem,simprocAttr,Tryz.f40])
theorem sp_spec_CurryFunctor_else {c d : Cat} {f : Fun} (hc : CatB c) (hd : CatB d) (hb : FunB f) (h : CurB c d f) (h2 : ¬ f.src = prC c d) : Spec Tryz.prog 40 [catV c,catV d,funV f] [] (.tup [.agg [iv 0,.v (.slice none 0 0),.v (.slice none 0 0),.v (.slice none 0 0),.v (.slice none 0 0),iv 0,.v (.slice none 0 0),.v (.slice none 0 0),.v (.slice none 0 0),.v (.slice none 0 0),.v (.slice none 0 0),.v (.slice none 0 0)],iv 5]) []:=by
  obtain ⟨sc,sd,hf⟩:=h
  have tv:=sp_l08Two_ok hc hd hb sc sd hf (.inr ⟨h2,rfl⟩)
  refine spec_of_V (E:=TE) 0 Tryz.func40 rfl (by simp [Tryz.f40]) fun X hn hX=>?_
  repeat' (first|(with_reducible first|refine V_seq ?_|refine V_block ?_|refine V_skip ?_|refine V_ret ?_|refine V_exit ?_)|((with_reducible refine V_cond ?_);simp only [go_sem,simprocAttr])|((first|refine V_region (by rw [hn];rfl) ?_|refine V_drawn hmix (by rw [hn];rfl) ?_);intro K hK)|((first|with_reducible refine evOps_n ?_|((with_reducible apply evOps_g);rfl)|with_reducible refine evOpsD_n ?_|((with_reducible apply evOpsD_g);rfl));intro K hK;simp (contextual:=true) only [go_sem,simprocAttr])|with_reducible refine evOps_nil ?_|((with_reducible refine evOpsD_nil ?_ ?_);kernel_rfl)|((with_reducible refine hK _ ?_);clear hK K)|(with_reducible first|refine And.intro ?_ ?_|refine nxt_n ?_|refine nxt_r ?_|refine nxt_e ?_|refine blk_n ?_|refine blk_r ?_|refine blk_same ?_|refine blk_other (by decide) ?_|refine noG_n ?_|refine noG_r ?_|refine noG_e ?_|refine inR_mk ?_ ?_)|((with_reducible refine evCall_at 91 ?_);refine EvCall.mq (tv) cal_l08Two [] [] ?_;all_goals try simp only [go_sem,simprocAttr])|(refine fun (hc : (_ : Bool) = _)=>?_;try simp only [hcS] at hc))
  all_goals try exact om_
  all_goals ((first|refine ret_auto ?_|refine ret_auto' ?_);simp only [go_sem,simprocAttr,Tryz.f40])
theorem sp_spec_CurryFunctor_no {c d : Cat} {f : Fun} (hc : CatB c) (hd : CatB d) (hb : FunB f) (h : CurB c d f) (h2 : f.src = prC c d) (h3 : ¬ FcY d f.tgt) : Spec Tryz.prog 40 [catV c,catV d,funV f] [] (.tup [.agg [iv 0,.v (.slice none 0 0),.v (.slice none 0 0),.v (.slice none 0 0),.v (.slice none 0 0),iv 0,.v (.slice none 0 0),.v (.slice none 0 0),.v (.slice none 0 0),.v (.slice none 0 0),.v (.slice none 0 0),.v (.slice none 0 0)],iv 3]) []:=by
  obtain ⟨sc,sd,hf⟩:=h
  have tv:=sp_l08Two_ok hc hd hb sc sd hf (.inl ⟨h2,rfl⟩)
  have h1:=sp_l08Make_o sd hf.tgt hd hb.tgt (.inr ⟨h3,rfl,rfl⟩)
  refine spec_of_V (E:=TE) 0 Tryz.func40 rfl (by simp [Tryz.f40]) fun X hn hX=>?_
  repeat' (first|(with_reducible first|refine V_seq ?_|refine V_block ?_|refine V_skip ?_|refine V_ret ?_|refine V_exit ?_)|((with_reducible refine V_cond ?_);simp only [go_sem,simprocAttr])|((first|refine V_region (by rw [hn];rfl) ?_|refine V_drawn hmix (by rw [hn];rfl) ?_);intro K hK)|((first|with_reducible refine evOps_n ?_|((with_reducible apply evOps_g);rfl)|with_reducible refine evOpsD_n ?_|((with_reducible apply evOpsD_g);rfl));intro K hK;simp (contextual:=true) only [go_sem,simprocAttr])|with_reducible refine evOps_nil ?_|((with_reducible refine evOpsD_nil ?_ ?_);kernel_rfl)|((with_reducible refine hK _ ?_);clear hK K)|(with_reducible first|refine And.intro ?_ ?_|refine nxt_n ?_|refine nxt_r ?_|refine nxt_e ?_|refine blk_n ?_|refine blk_r ?_|refine blk_same ?_|refine blk_other (by decide) ?_|refine noG_n ?_|refine noG_r ?_|refine noG_e ?_|refine inR_mk ?_ ?_)|((with_reducible refine evCall_at 91 ?_);refine EvCall.mq (tv) cal_l08Two [] [] ?_;all_goals try simp only [go_sem,simprocAttr])|((with_reducible refine evCall_at 52 ?_);refine EvCall.mq (h1) cal_l08Make [] [] ?_;all_goals try simp only [go_sem,simprocAttr])|(refine fun (hc : (_ : Bool) = _)=>?_;try simp only [hcS] at hc))
  all_goals try exact om_
  all_goals ((first|refine ret_auto ?_|refine ret_auto' ?_);simp only [go_sem,simprocAttr,Tryz.f40])
theorem sp_spec_CurryFunctor_yes {c d : Cat} {f : Fun} (hc : CatB c) (hd : CatB d) (hb : FunB f) (h : CurB c d f) (h2 : f.src = prC c d) (hy : FcY d f.tgt) : Spec Tryz.prog 40 [catV c,catV d,funV f] [] (.tup [.agg [iv (cuF c d f).src.ob,.sl 0,.sl 1,.sl 2,.sl 3,iv (cuF c d f).tgt.ob,.sl 4,.sl 5,.sl 6,.sl 7,.sl 8,.sl 9],iv 0]) [(0,⟨1,.arr (ints (cuF c d f).src.fr)⟩),(1,⟨1,.arr (ints (cuF c d f).src.to)⟩),(2,⟨1,.arr (ints (cuF c d f).src.id)⟩),(3,⟨1,.arr (intss (cuF c d f).src.co)⟩),(4,⟨1,.arr (ints (cuF c d f).tgt.fr)⟩),(5,⟨1,.arr (ints (cuF c d f).tgt.to)⟩),(6,⟨1,.arr (ints (cuF c d f).tgt.id)⟩),(7,⟨1,.arr (intss (cuF c d f).tgt.co)⟩),(8,⟨1,.arr (ints (cuF c d f).obs)⟩),(9,⟨1,.arr (ints (cuF c d f).ars)⟩)]:=by
  obtain ⟨sc,sd,hf⟩:=h
  have bc:=hc
  have tw:=TwoF.mk' sc sd hf h2
  have tv:=sp_l08Two_ok hc hd hb sc sd hf (.inl ⟨h2,rfl⟩)
  have c0:=sc.toShape.ob0
  have c8:=sc.toShape.ob8
  have c40:=sc.toShape.m40
  have ctl:=sc.toShape.tol
  have d0:=sd.toShape.ob0
  have d8:=sd.toShape.ob8
  have d40:=sd.toShape.m40
  have dil:=sd.toShape.idl
  have hal:=tw.al
  have h1:=sp_l08Make_o sd hf.tgt hd hb.tgt (.inl ⟨hy,rfl,rfl⟩)
  have hL:=hy.2.1
  have hA:=hy.2.2
  have hfl : FL d f.tgt (fcL d f.tgt):=FL.of_funX
  have hKb:=fcK_b f.tgt hL hA
  have hrw : ∀ a,a < (fcA (fcL d f.tgt)).length → ((fcA (fcL d f.tgt)).getD a []).length ≤ 1048576:=fun a ha=>by have:=(hfl.arr (getD_mem (d:=[]) ha)).len;omega
  have hfu:=sp_l06Make (c:=c) (d:=fcK f.tgt (fcL d f.tgt)) (p:=cuO c d f c.ob.toNat) (q:=cuA c d f c.fr.length) hc hKb (by rw [cuO_len];omega) (by rw [cuA_len];omega)
  have eF : cuF c d f = ⟨c,fcK f.tgt (fcL d f.tgt),cuO c d f c.ob.toNat,cuA c d f c.fr.length⟩:=rfl
  rw [eF]
  refine spec_of_V (E:=TE) 0 Tryz.func40 rfl (by simp [Tryz.f40]) fun X hn hX=>?_
  repeat' (first|(with_reducible first|refine V_seq ?_|refine V_block ?_|refine V_skip ?_|refine V_ret ?_|refine V_exit ?_)|((with_reducible refine V_cond ?_);simp only [go_sem,simprocAttr])|((first|refine V_region (by rw [hn];rfl) ?_|refine V_drawn hmix (by rw [hn];rfl) ?_);intro K hK)|((first|with_reducible refine evOps_n ?_|((with_reducible apply evOps_g);rfl)|with_reducible refine evOpsD_n ?_|((with_reducible apply evOpsD_g);rfl));intro K hK;simp (contextual:=true) only [go_sem,simprocAttr])|with_reducible refine evOps_nil ?_|((with_reducible refine evOpsD_nil ?_ ?_);kernel_rfl)|((with_reducible refine hK _ ?_);clear hK K)|(with_reducible first|refine And.intro ?_ ?_|refine nxt_n ?_|refine nxt_r ?_|refine nxt_e ?_|refine blk_n ?_|refine blk_r ?_|refine blk_same ?_|refine blk_other (by decide) ?_|refine noG_n ?_|refine noG_r ?_|refine noG_e ?_|refine inR_mk ?_ ?_)|((with_reducible refine evCall_at 91 ?_);refine EvCall.mq (tv) cal_l08Two [] [] ?_;all_goals try simp only [go_sem,simprocAttr])|((with_reducible refine evCall_at 52 ?_);refine EvCall.mq (h1) cal_l08Make [(0,4),(1,5),(2,6),(3,7),(4,8),(5,9)] [] ?_;all_goals try simp only [go_sem,simprocAttr])|(refine fun (hc : (_ : Bool) = _)=>?_;try simp only [hcS] at hc))
  all_goals try exact om_
  refine V_loopK (G:={i : Nat // i ≤ c.ob.toNat ∧ (True)}) (fun ⟨i,_⟩=>[(13,iv i),(9,.ptr 10 0),(11,.sl 11),(12,.sl 12)]) [3,4,5,6,7] (fun ⟨i,_⟩=>[(11,⟨1,.arr (ints (cuO c d f i))⟩),(12,⟨1,.arr (ints [])⟩)]) [11,12] (fun zz=>c.ob.toNat - zz.1) ⟨0,Nat.zero_le _,by first|trivial|simp⟩ ?_ ?_
  · exact Imp.au hX
  rintro ⟨i,hii,hwi⟩
  simp only [go_sem,simprocAttr]
  have hol:=cuO_len (c:=c) (d:=d) (f:=f) (i:=i)
  rcases Nat.lt_or_ge i c.ob.toNat with hli | hgi
  · have hob:=cu_ob (i:=i) tw hL (by omega)
    have hfx:=sp_l08Fix (i:=i) tw bc hd hb (by omega)
    have ho:=sp_l08Object (ob:=((fcL d f.tgt).length : Int)) (fr:=(fcK f.tgt (fcL d f.tgt)).fr) (to:=(fcK f.tgt (fcL d f.tgt)).to) (id:=(fcK f.tgt (fcL d f.tgt)).id) (co:=(fcK f.tgt (fcL d f.tgt)).co) (A:=fcA (fcL d f.tgt)) (L:=fcL d f.tgt) (g:=fxF c d f i) (i:=cuI c d f i) hob (by show (fxA _ _ _ _ _).length ≤ 64;rw [fxA_len];omega)
    have e1:=cuO_succ (c:=c) (d:=d) (f:=f) (i:=i)
    repeat' (first|(with_reducible first|refine V_seq ?_|refine V_block ?_|refine V_skip ?_|refine V_ret ?_|refine V_exit ?_)|((with_reducible refine V_cond ?_);simp only [go_sem,simprocAttr])|((first|refine V_region (by rw [hn];rfl) ?_|refine V_drawn hmix (by rw [hn];rfl) ?_);intro K hK)|((first|with_reducible refine evOps_n ?_|((with_reducible apply evOps_g);rfl)|with_reducible refine evOpsD_n ?_|((with_reducible apply evOpsD_g);rfl));intro K hK;simp (contextual:=true) only [go_sem,simprocAttr])|with_reducible refine evOps_nil ?_|((with_reducible refine evOpsD_nil ?_ ?_);kernel_rfl)|((with_reducible refine hK _ ?_);clear hK K)|(with_reducible first|refine And.intro ?_ ?_|refine nxt_n ?_|refine nxt_r ?_|refine nxt_e ?_|refine blk_n ?_|refine blk_r ?_|refine blk_same ?_|refine blk_other (by decide) ?_|refine noG_n ?_|refine noG_r ?_|refine noG_e ?_|refine inR_mk ?_ ?_)|((with_reducible refine evCall_at 92 ?_);refine EvCall.mq (hfx) cal_l08Fix [(0,13),(1,14),(2,15),(3,16),(4,17),(5,18),(6,19),(7,20),(8,21),(9,22)] [] ?_;all_goals try simp only [go_sem,simprocAttr])|((with_reducible refine evCall_at 64 ?_);refine EvCall.mq (ho) cal_l08Object [] [4,5,6,7,8,9,13,14,15,16,17,18,19,20,21,22] ?_;all_goals try simp only [go_sem,simprocAttr])|(refine fun (hc : (_ : Bool) = _)=>?_;try simp only [hcS] at hc))
    all_goals try exact om_
    · refine ⟨⟨i + 1,by omega,(by trivial)⟩,by simp only;omega,Imp.auto hX (by simp only [go_sem,simprocAttr,e1])⟩
  · have ei : i = c.ob.toNat:=by omega
    subst ei
    repeat' (first|(with_reducible first|refine V_seq ?_|refine V_block ?_|refine V_skip ?_|refine V_ret ?_|refine V_exit ?_)|((with_reducible refine V_cond ?_);simp only [go_sem,simprocAttr])|((first|refine V_region (by rw [hn];rfl) ?_|refine V_drawn hmix (by rw [hn];rfl) ?_);intro K hK)|((first|with_reducible refine evOps_n ?_|((with_reducible apply evOps_g);rfl)|with_reducible refine evOpsD_n ?_|((with_reducible apply evOpsD_g);rfl));intro K hK;simp (contextual:=true) only [go_sem,simprocAttr])|with_reducible refine evOps_nil ?_|((with_reducible refine evOpsD_nil ?_ ?_);kernel_rfl)|((with_reducible refine hK _ ?_);clear hK K)|(with_reducible first|refine And.intro ?_ ?_|refine nxt_n ?_|refine nxt_r ?_|refine nxt_e ?_|refine blk_n ?_|refine blk_r ?_|refine blk_same ?_|refine blk_other (by decide) ?_|refine noG_n ?_|refine noG_r ?_|refine noG_e ?_|refine inR_mk ?_ ?_)|(refine fun (hc : (_ : Bool) = _)=>?_;try simp only [hcS] at hc))
    all_goals try exact om_
    refine V_loopK (G:={a : Nat // a ≤ c.fr.length ∧ (True)}) (fun ⟨a,_⟩=>[(14,iv a),(9,.ptr 10 0),(11,.sl 11),(12,.sl 12)]) [3,4,5,6,7] (fun ⟨a,_⟩=>[(11,⟨1,.arr (ints (cuO c d f c.ob.toNat))⟩),(12,⟨1,.arr (ints (cuA c d f a))⟩)]) [11,12] (fun zz=>c.fr.length - zz.1) ⟨0,Nat.zero_le _,by first|trivial|simp⟩ ?_ ?_
    · exact Imp.au hX
    rintro ⟨a,hia,hwa⟩
    simp only [go_sem,simprocAttr]
    have hal2:=cuA_len (c:=c) (d:=d) (f:=f) (a:=a)
    rcases Nat.lt_or_ge a c.fr.length with hla | hga
    · repeat' (first|(with_reducible first|refine V_seq ?_|refine V_block ?_|refine V_skip ?_|refine V_ret ?_|refine V_exit ?_)|((with_reducible refine V_cond ?_);simp only [go_sem,simprocAttr])|((first|refine V_region (by rw [hn];rfl) ?_|refine V_drawn hmix (by rw [hn];rfl) ?_);intro K hK)|((first|with_reducible refine evOps_n ?_|((with_reducible apply evOps_g);rfl)|with_reducible refine evOpsD_n ?_|((with_reducible apply evOpsD_g);rfl));intro K hK;simp (contextual:=true) only [go_sem,simprocAttr])|with_reducible refine evOps_nil ?_|((with_reducible refine evOpsD_nil ?_ ?_);kernel_rfl)|((with_reducible refine hK _ ?_);clear hK K)|(with_reducible first|refine And.intro ?_ ?_|refine nxt_n ?_|refine nxt_r ?_|refine nxt_e ?_|refine blk_n ?_|refine blk_r ?_|refine blk_same ?_|refine blk_other (by decide) ?_|refine noG_n ?_|refine noG_r ?_|refine noG_e ?_|refine inR_mk ?_ ?_)|(refine fun (hc : (_ : Bool) = _)=>?_;try simp only [hcS] at hc))
      all_goals try exact om_
      refine V_loopK (G:={x : Nat // x ≤ d.id.length ∧ (True)}) (fun ⟨x,_⟩=>[(16,iv x),(9,.ptr 10 0),(11,.sl 11),(12,.sl 12),(14,iv a),(15,.sl 13)]) [3,4,5,6,7] (fun ⟨x,_⟩=>[(11,⟨1,.arr (ints (cuO c d f c.ob.toNat))⟩),(12,⟨1,.arr (ints (cuA c d f a))⟩),(13,⟨1,.arr (ints (cuC d f a x))⟩)]) [11,12,13] (fun zz=>d.id.length - zz.1) ⟨0,Nat.zero_le _,by first|trivial|simp⟩ ?_ ?_
      · exact Imp.au hX
      rintro ⟨x,hix,hwx⟩
      simp only [go_sem,simprocAttr]
      have hcl:=cuC_len (d:=d) (f:=f) (a:=a) (k:=x)
      rcases Nat.lt_or_ge x d.id.length with hlx | hgx
      · obtain ⟨k,k1,k2,k3,k4⟩:=sd.toShape.ii (i:=x) hlx
        have hga:=ga_lt tw (x:=(a : Int)) (i:=a) (j:=k) rfl hla k2
        have e1:=cuC_succ (d:=d) (f:=f) (a:=a) (k:=x)
        repeat' (first|(with_reducible first|refine V_seq ?_|refine V_block ?_|refine V_skip ?_|refine V_ret ?_|refine V_exit ?_)|((with_reducible refine V_cond ?_);simp only [go_sem,simprocAttr])|((first|refine V_region (by rw [hn];rfl) ?_|refine V_drawn hmix (by rw [hn];rfl) ?_);intro K hK)|((first|with_reducible refine evOps_n ?_|((with_reducible apply evOps_g);rfl)|with_reducible refine evOpsD_n ?_|((with_reducible apply evOpsD_g);rfl));intro K hK;simp (contextual:=true) only [go_sem,simprocAttr])|with_reducible refine evOps_nil ?_|((with_reducible refine evOpsD_nil ?_ ?_);kernel_rfl)|((with_reducible refine hK _ ?_);clear hK K)|(with_reducible first|refine And.intro ?_ ?_|refine nxt_n ?_|refine nxt_r ?_|refine nxt_e ?_|refine blk_n ?_|refine blk_r ?_|refine blk_same ?_|refine blk_other (by decide) ?_|refine noG_n ?_|refine noG_r ?_|refine noG_e ?_|refine inR_mk ?_ ?_)|(refine fun (hc : (_ : Bool) = _)=>?_;try simp only [hcS] at hc))
        all_goals try exact om_
        · refine ⟨⟨x + 1,by omega,(by trivial)⟩,by simp only;omega,Imp.auto hX (by simp only [go_sem,simprocAttr,e1])⟩
      · have ex : x = d.id.length:=by omega
        subst ex
        have el : d.id.length = d.ob.toNat:=by omega
        have f1:=sc.toShape.frw a hla
        have f2:=sc.toShape.tow a (by omega)
        have o1:=cuO_at (c:=c) (d:=d) (f:=f) (i:=(c.fr.getD a 0).toNat) (n:=c.ob.toNat) (by omega)
        have o2:=cuO_at (c:=c) (d:=d) (f:=f) (i:=(c.to.getD a 0).toNat) (n:=c.ob.toNat) (by omega)
        have hol2:=cuO_len (c:=c) (d:=d) (f:=f) (i:=c.ob.toNat)
        have har:=sp_l08Arrow (ob:=((fcL d f.tgt).length : Int)) (fr:=(fcK f.tgt (fcL d f.tgt)).fr) (to:=(fcK f.tgt (fcL d f.tgt)).to) (id:=(fcK f.tgt (fcL d f.tgt)).id) (co:=(fcK f.tgt (fcL d f.tgt)).co) (L:=fcA (fcL d f.tgt)) (F:=fcL d f.tgt) (i:=(cuI c d f (c.fr.getD a 0).toNat : Int)) (j:=(cuI c d f (c.to.getD a 0).toNat : Int)) (p:=cuC d f a d.ob.toNat) (by omega) hrw (by rw [cuC_len];omega)
        have e2 : cuA c d f (a + 1) = cuA c d f a ++ [fnd (fcA (fcL d f.tgt)) ((cuI c d f (c.fr.getD a 0).toNat : Int) :: (cuI c d f (c.to.getD a 0).toNat : Int) :: cuC d f a d.ob.toNat)]:=cuA_succ
        rw [el]
        repeat' (first|(rw [o1];simp only [go_sem,simprocAttr])|(rw [o2];simp only [go_sem,simprocAttr])|(with_reducible first|refine V_seq ?_|refine V_block ?_|refine V_skip ?_|refine V_ret ?_|refine V_exit ?_)|((with_reducible refine V_cond ?_);simp only [go_sem,simprocAttr])|((first|refine V_region (by rw [hn];rfl) ?_|refine V_drawn hmix (by rw [hn];rfl) ?_);intro K hK)|((first|with_reducible refine evOps_n ?_|((with_reducible apply evOps_g);rfl)|with_reducible refine evOpsD_n ?_|((with_reducible apply evOpsD_g);rfl));intro K hK;simp (contextual:=true) only [go_sem,simprocAttr])|with_reducible refine evOps_nil ?_|((with_reducible refine evOpsD_nil ?_ ?_);kernel_rfl)|((with_reducible refine hK _ ?_);clear hK K)|(with_reducible first|refine And.intro ?_ ?_|refine nxt_n ?_|refine nxt_r ?_|refine nxt_e ?_|refine blk_n ?_|refine blk_r ?_|refine blk_same ?_|refine blk_other (by decide) ?_|refine noG_n ?_|refine noG_r ?_|refine noG_e ?_|refine inR_mk ?_ ?_)|((with_reducible refine evCall_at 66 ?_);refine EvCall.mq (har) cal_l08Arrow [] [4,5,6,7,8,9,13] ?_;all_goals try simp only [go_sem,simprocAttr])|(refine fun (hc : (_ : Bool) = _)=>?_;try simp only [hcS] at hc))
        all_goals try exact om_
        · refine ⟨⟨a + 1,by omega,(by (trivial))⟩,by simp only;omega,Imp.auto hX (by simp only [go_sem,simprocAttr,e2])⟩
    · have ea : a = c.fr.length:=by omega
      subst ea
      repeat' (first|(with_reducible first|refine V_seq ?_|refine V_block ?_|refine V_skip ?_|refine V_ret ?_|refine V_exit ?_)|((with_reducible refine V_cond ?_);simp only [go_sem,simprocAttr])|((first|refine V_region (by rw [hn];rfl) ?_|refine V_drawn hmix (by rw [hn];rfl) ?_);intro K hK)|((first|with_reducible refine evOps_n ?_|((with_reducible apply evOps_g);rfl)|with_reducible refine evOpsD_n ?_|((with_reducible apply evOpsD_g);rfl));intro K hK;simp (contextual:=true) only [go_sem,simprocAttr])|with_reducible refine evOps_nil ?_|((with_reducible refine evOpsD_nil ?_ ?_);kernel_rfl)|((with_reducible refine hK _ ?_);clear hK K)|(with_reducible first|refine And.intro ?_ ?_|refine nxt_n ?_|refine nxt_r ?_|refine nxt_e ?_|refine blk_n ?_|refine blk_r ?_|refine blk_same ?_|refine blk_other (by decide) ?_|refine noG_n ?_|refine noG_r ?_|refine noG_e ?_|refine inR_mk ?_ ?_)|((with_reducible refine evCall_at 61 ?_);refine EvCall.mq (hfu) cal_l06Make [(0,13),(1,14),(2,15),(3,16),(4,17),(5,18),(6,19),(7,20),(8,21),(9,22)] [4,5,6,7,11,12] ?_;all_goals try simp only [go_sem,simprocAttr])|(refine fun (hc : (_ : Bool) = _)=>?_;try simp only [hcS] at hc))
      all_goals try exact om_
      · (first|refine ret_auto ?_|refine ret_auto' ?_);simp only [go_sem,simprocAttr,Tryz.f40]
end Go.Eng
end
