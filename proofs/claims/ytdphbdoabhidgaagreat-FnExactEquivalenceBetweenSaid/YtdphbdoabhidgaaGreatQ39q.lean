/- EquivalenceBetween, by the program and by the reference. -/
import Derived.Test.YtdphbdoabhidgaaGreatKdx
import Derived.Test.YtdphbdoabhidgaaGreatC02q
import Derived.Test.YtdphbdoabhidgaaGreatQ38q
set_option linter.unusedSimpArgs false
set_option linter.unusedVariables false
set_option maxRecDepth 100000
set_option maxHeartbeats 16000000
namespace Go.Eng
open Go Go.Proofs Go.Cats
attribute [local go_sem] List.set_cons_zero List.set_cons_succ
theorem _root_.Go.Cats.IYes.fun_ {a b : Cat} {g : Fun} (h : IYes a b g) : g.src = a ∧ g.tgt = b ∧ Fits g:=by
  obtain ⟨D,hD⟩:=h.fst
  have hm:=mem_funX (c:=a) (d:=b) (g:=g) (by rw [hD];exact List.mem_cons_self ..)
  obtain ⟨m1,m2,_,m4⟩:=hm
  have hi:=iso_of h.src h.tgt h.ob h.ar m4
  have hf : Fits ⟨a,b,g.obs,g.ars⟩:=hi.fit
  refine ⟨m1,m2,?_⟩
  have : g = ⟨a,b,g.obs,g.ars⟩:=by rw [← m1,← m2]
  rw [this];exact hf
noncomputable def _root_.Go.Cats.eqF (c d : Cat) (i : Fun) : Fun:=thF (thF (toS c) i) (frS d)
structure EqW (c d : Cat) (i : Fun) : Prop where
  one : ThF (toS c) i
  two : ThF (thF (toS c) i) (frS d)
  b : FunB (eqF c d i)
theorem eqW {c d : Cat} {i : Fun} (sc : IsCat c) (sd : IsCat d) (h : IYes (skC c) (skC d) i) : EqW c d i:=by
  obtain ⟨h1,h2,h3⟩:=h.fun_
  have b1:=(skC_cat sc).catB
  have b2:=(skC_cat sd).catB
  have o1:=h3.obl
  have o2:=h3.arl
  have o3:=h3.obw
  have o4:=h3.arw
  rw [h1] at o1 o2
  rw [h2] at o3 o4
  have l1:=isoC_len c
  have l2:=imS_len (c:=c) c.fr.length
  have w1:=isoC_in sc
  have w2:=imS_in sc
  have c8:=sc.toShape.ob8
  have c40:=sc.toShape.m40
  have d8:=sd.toShape.ob8
  have d40:=sd.toShape.m40
  have k8:=(skC_cat sc).toShape.ob8
  have k40:=(skC_cat sc).toShape.m40
  have hkl : (skO d d.ob.toNat).length ≤ d.ob.toNat:=selP_len _ _
  have al:=(full_sub sd (skO d d.ob.toNat)).len
  have al : (skA d).length ≤ d.fr.length:=al
  have e1 : (skC d).ob = ((skO d d.ob.toNat).length : Int):=by rw [← skO_obs sd];rfl
  have e2 : (skC d).fr.length = (skA d).length:=by show ((skA d).map _).length = _;rw [List.length_map]
  have t1 : Within (thn (isoC c) i.obs) (skC d).ob:=thn_in (by rw [o1];exact w1) o3
  have t2 : Within (thn (imS c c.fr.length) i.ars) ((skC d).fr.length : Int):=thn_in (by rw [o2];exact w2) o4
  have n1:=thn_len (isoC c) i.obs
  have n2:=thn_len (imS c c.fr.length) i.ars
  have n3:=thn_len (thn (isoC c) i.obs) (skO d d.ob.toNat)
  have n4:=thn_len (thn (imS c c.fr.length) i.ars) (skA d)
  refine ⟨⟨sc.catB,by rw [h2];exact b2,?_,?_,by omega,by omega,?_,?_⟩,⟨sc.catB,sd.catB,?_,?_,?_,?_,?_,?_⟩,⟨sc.catB,sd.catB,?_,?_⟩⟩
  · show (isoC c).length ≤ _;omega
  · show (imS c c.fr.length).length ≤ _;omega
  · show Within (isoC c) _;rw [o1];exact w1
  · show Within (imS c c.fr.length) _;rw [o2];exact w2
  · show (thn (isoC c) i.obs).length ≤ _;omega
  · show (thn (imS c c.fr.length) i.ars).length ≤ _;omega
  · show (skO d d.ob.toNat).length ≤ _;omega
  · show (skA d).length ≤ _;omega
  · show Within (thn (isoC c) i.obs) ((skO d d.ob.toNat).length : Int);rw [← e1];exact t1
  · show Within (thn (imS c c.fr.length) i.ars) ((skA d).length : Int);rw [← e2];exact t2
  · show (thn (thn (isoC c) i.obs) (skO d d.ob.toNat)).length ≤ _;omega
  · show (thn (thn (imS c c.fr.length) i.ars) (skA d)).length ≤ _;omega
def _root_.Go.Cats.EbO (c d : Cat) (g : Fun) (code : Int) : Prop :=
  (¬ (IsCat c ∧ IsCat d) ∧ g = nilF ∧ code = 1) ∨ (IsCat c ∧ IsCat d ∧ ((INo (skC c) (skC d) code ∧ code ≠ 0 ∧ code ≠ 1 ∧ g = nilF) ∨ ∃ i,IYes (skC c) (skC d) i ∧ g = eqF c d i ∧ code = 0))
theorem _root_.Go.Cats.EbO.ex (c d : Cat) : ∃ g code,EbO c d g code:=by
  by_cases h : IsCat c ∧ IsCat d
  · obtain ⟨sc,sd⟩:=h
    obtain ⟨i,k,hk⟩:=FIOut.ex (skC c) (skC d)
    rcases hk with ⟨hk,rfl⟩|⟨hk,rfl⟩
    · refine ⟨nilF,k,.inr ⟨sc,sd,.inl ⟨hk,?_,?_,rfl⟩⟩⟩
      · rcases hk with ⟨h,_⟩|⟨_,_,_,rfl⟩|⟨_,_,_,_,rfl⟩
        · exact absurd ⟨skC_cat sc,skC_cat sd⟩ h
        · decide
        · decide
      · rcases hk with ⟨h,_⟩|⟨_,_,_,rfl⟩|⟨_,_,_,_,rfl⟩
        · exact absurd ⟨skC_cat sc,skC_cat sd⟩ h
        · decide
        · decide
    · exact ⟨_,0,.inr ⟨sc,sd,.inr ⟨i,hk,rfl,rfl⟩⟩⟩
  · exact ⟨nilF,1,.inl ⟨h,rfl,rfl⟩⟩
theorem cal_EquivalenceBetween : Callable Tryz.prog 11:=⟨_,Tryz.func11,rfl,rfl⟩
theorem sp_EquivalenceBetween_bad {c d : Cat} (hc : CatB c) (hd : CatB d) (h : ¬ (IsCat c ∧ IsCat d)) : Spec Tryz.prog 11 [catV c,catV d] [] (.tup [.agg [iv 0,.v (.slice none 0 0),.v (.slice none 0 0),.v (.slice none 0 0),.v (.slice none 0 0),iv 0,.v (.slice none 0 0),.v (.slice none 0 0),.v (.slice none 0 0),.v (.slice none 0 0),.v (.slice none 0 0),.v (.slice none 0 0)],iv 1]) []:=by
  have v1:=dec_f h
  refine spec_of_V (E:=TE) 0 Tryz.func11 rfl (by simp [Tryz.f11]) fun X hn hX=>?_
  repeat' (first|(refine V_at 1 (Imp.trans (Imp.lendCat 2 0 1 c rfl rfl (Nat.le_refl 1)) (Imp.lendCat 3 1 1 d rfl rfl (Nat.le_refl 1))) ?_;simp only [go_sem,simprocAttr])|(exact absurd (by assumption) h)|(with_reducible first|refine V_seq ?_|refine V_skip ?_|refine V_ret ?_)|((with_reducible refine V_cond ?_);simp only [go_sem,simprocAttr])|((refine V_region (by rw [hn];rfl) ?_);intro K hK)|((first|with_reducible refine evOps_n ?_|((with_reducible apply evOps_g);rfl));intro K hK;simp (contextual:=true) only [go_sem,simprocAttr])|with_reducible refine evOps_nil ?_|((with_reducible refine hK _ ?_);clear hK K)|(with_reducible first|refine And.intro ?_ ?_|refine nxt_n ?_|refine nxt_r ?_|refine inR_mk ?_ ?_)|((with_reducible refine evCall_at 24 ?_);refine EvCall.rq (a:=(sp_areCategories_two (by first|omega|assumption|rfl) (by first|omega|assumption|rfl))) (b:=cal_areCategories) (c:=?_);all_goals try simp only [go_sem,simprocAttr])|(refine fun (hc : (_ : Bool) = _)=>?_;try simp only [hcS] at hc))
  all_goals try (first|(with_reducible assumption)|((try simp only [Cat.F,Cat.T,Cat.I,Cat.C,Fun.O,Fun.A,Cat.Entry,Int.toNat_natCast] at *);omega))
  all_goals ((first|refine ret_auto ?_|refine ret_auto' ?_);simp only [go_sem,simprocAttr,Tryz.f11])
theorem sp_EquivalenceBetween_no {c d : Cat} {code : Int} (sc : IsCat c) (sd : IsCat d) (h : INo (skC c) (skC d) code) (h0 : code ≠ 0) : Spec Tryz.prog 11 [catV c,catV d] [] (.tup [.agg [iv 0,.v (.slice none 0 0),.v (.slice none 0 0),.v (.slice none 0 0),.v (.slice none 0 0),iv 0,.v (.slice none 0 0),.v (.slice none 0 0),.v (.slice none 0 0),.v (.slice none 0 0),.v (.slice none 0 0),.v (.slice none 0 0)],iv code]) []:=by
  have hc:=sc.catB
  have hd:=sd.catB
  have v1:=dec_t (And.intro sc sd)
  obtain ⟨g,hg⟩ : ∃ g,FIOut (skC c) (skC d) g code:=⟨nilF,.inl ⟨h,rfl⟩⟩
  have h1:=sp_skeletonIso_o sc sd hg
  refine spec_of_V (E:=TE) 0 Tryz.func11 rfl (by simp [Tryz.f11]) fun X hn hX=>?_
  repeat' (first|(refine V_at 1 (Imp.trans (Imp.lendCat 2 0 1 c rfl rfl (Nat.le_refl 1)) (Imp.lendCat 3 1 1 d rfl rfl (Nat.le_refl 1))) ?_;simp only [go_sem,simprocAttr])|(exact absurd (And.intro sc sd) (by assumption))|(with_reducible first|refine V_seq ?_|refine V_skip ?_|refine V_ret ?_)|((with_reducible refine V_cond ?_);simp only [go_sem,simprocAttr])|((refine V_region (by rw [hn];rfl) ?_);intro K hK)|((first|with_reducible refine evOps_n ?_|((with_reducible apply evOps_g);rfl));intro K hK;simp (contextual:=true) only [go_sem,simprocAttr])|with_reducible refine evOps_nil ?_|((with_reducible refine hK _ ?_);clear hK K)|(with_reducible first|refine And.intro ?_ ?_|refine nxt_n ?_|refine nxt_r ?_|refine inR_mk ?_ ?_)|((with_reducible refine evCall_at 24 ?_);refine EvCall.rq (a:=(sp_areCategories_two (by first|omega|assumption|rfl) (by first|omega|assumption|rfl))) (b:=cal_areCategories) (c:=?_);all_goals try simp only [go_sem,simprocAttr])|((with_reducible refine evCall_at 36 ?_);refine EvCall.mk (h1) cal_skeletonIso [(0,4),(1,5),(2,6),(3,7),(4,8),(5,9),(6,10),(7,11),(8,12),(9,13)] [0,1] (by simp [go_sem] <;> (repeat' (first|rfl|constructor))) (by simp [go_sem] <;> (repeat' (first|rfl|constructor))) ?_;all_goals try simp only [go_sem,simprocAttr])|(refine fun (hc : (_ : Bool) = _)=>?_;try simp only [hcS] at hc))
  all_goals try (first|(with_reducible assumption)|((try simp only [Cat.F,Cat.T,Cat.I,Cat.C,Fun.O,Fun.A,Cat.Entry,Int.toNat_natCast] at *);omega))
  all_goals ((first|refine ret_auto ?_|refine ret_auto' ?_);simp only [go_sem,simprocAttr,Tryz.f11])
theorem sp_EquivalenceBetween_yes {c d : Cat} {i : Fun} (sc : IsCat c) (sd : IsCat d) (h : IYes (skC c) (skC d) i) : Spec Tryz.prog 11 [catV c,catV d] [] (.tup [.agg [iv (eqF c d i).src.ob,.sl 0,.sl 1,.sl 2,.sl 3,iv (eqF c d i).tgt.ob,.sl 4,.sl 5,.sl 6,.sl 7,.sl 8,.sl 9],iv 0]) [(0,⟨1,.arr (ints (eqF c d i).src.fr)⟩),(1,⟨1,.arr (ints (eqF c d i).src.to)⟩),(2,⟨1,.arr (ints (eqF c d i).src.id)⟩),(3,⟨1,.arr (intss (eqF c d i).src.co)⟩),(4,⟨1,.arr (ints (eqF c d i).tgt.fr)⟩),(5,⟨1,.arr (ints (eqF c d i).tgt.to)⟩),(6,⟨1,.arr (ints (eqF c d i).tgt.id)⟩),(7,⟨1,.arr (intss (eqF c d i).tgt.co)⟩),(8,⟨1,.arr (ints (eqF c d i).obs)⟩),(9,⟨1,.arr (ints (eqF c d i).ars)⟩)]:=by
  have hc:=sc.catB
  have hd:=sd.catB
  have v1:=dec_t (And.intro sc sd)
  have h1:=sp_skeletonIso_o sc sd (.inr ⟨h,rfl⟩)
  have h2 : Spec Tryz.prog 37 [.bptr [] (catD c)] [] (.agg [iv c.ob,.sl 0,.sl 1,.sl 2,.sl 3,iv (skC c).ob,.sl 4,.sl 5,.sl 6,.sl 7,.sl 8,.sl 9]) [(0,⟨1,.arr (ints c.fr)⟩),(1,⟨1,.arr (ints c.to)⟩),(2,⟨1,.arr (ints c.id)⟩),(3,⟨1,.arr (intss c.co)⟩),(4,⟨1,.arr (ints (skC c).fr)⟩),(5,⟨1,.arr (ints (skC c).to)⟩),(6,⟨1,.arr (ints (skC c).id)⟩),(7,⟨1,.arr (intss (skC c).co)⟩),(8,⟨1,.arr (ints (isoC c))⟩),(9,⟨1,.arr (ints (imS c c.fr.length))⟩)]:=sp_Category_toSkeleton sc
  have h3 : Spec Tryz.prog 38 [.bptr [] (catD d)] [] (.agg [iv (skC d).ob,.sl 0,.sl 1,.sl 2,.sl 3,iv d.ob,.sl 4,.sl 5,.sl 6,.sl 7,.sl 8,.sl 9]) [(0,⟨1,.arr (ints (skC d).fr)⟩),(1,⟨1,.arr (ints (skC d).to)⟩),(2,⟨1,.arr (ints (skC d).id)⟩),(3,⟨1,.arr (intss (skC d).co)⟩),(4,⟨1,.arr (ints d.fr)⟩),(5,⟨1,.arr (ints d.to)⟩),(6,⟨1,.arr (ints d.id)⟩),(7,⟨1,.arr (intss d.co)⟩),(8,⟨1,.arr (ints (skO d d.ob.toNat))⟩),(9,⟨1,.arr (ints (skA d))⟩)]:=sp_Category_fromSkeleton sd
  obtain ⟨w1,w2,w3⟩:=eqW sc sd h
  have h4 : Spec Tryz.prog 39 [.bptr [] [.v (.int .i64 c.ob),ints c.fr,ints c.to,ints c.id,intss c.co,.v (.int .i64 (skC c).ob),ints (skC c).fr,ints (skC c).to,ints (skC c).id,intss (skC c).co,ints (isoC c),ints (imS c c.fr.length)],.bptr [] [.v (.int .i64 i.src.ob),ints i.src.fr,ints i.src.to,ints i.src.id,intss i.src.co,.v (.int .i64 i.tgt.ob),ints i.tgt.fr,ints i.tgt.to,ints i.tgt.id,intss i.tgt.co,ints i.obs,ints i.ars]] [] (.agg [iv c.ob,.sl 0,.sl 1,.sl 2,.sl 3,iv i.tgt.ob,.sl 4,.sl 5,.sl 6,.sl 7,.sl 8,.sl 9]) [(0,⟨1,.arr (ints c.fr)⟩),(1,⟨1,.arr (ints c.to)⟩),(2,⟨1,.arr (ints c.id)⟩),(3,⟨1,.arr (intss c.co)⟩),(4,⟨1,.arr (ints i.tgt.fr)⟩),(5,⟨1,.arr (ints i.tgt.to)⟩),(6,⟨1,.arr (ints i.tgt.id)⟩),(7,⟨1,.arr (intss i.tgt.co)⟩),(8,⟨1,.arr (ints (thn (isoC c) i.obs))⟩),(9,⟨1,.arr (ints (thn (imS c c.fr.length) i.ars))⟩)]:=sp_Functor_then w1
  have h5 : Spec Tryz.prog 39 [.bptr [] [.v (.int .i64 c.ob),ints c.fr,ints c.to,ints c.id,intss c.co,.v (.int .i64 i.tgt.ob),ints i.tgt.fr,ints i.tgt.to,ints i.tgt.id,intss i.tgt.co,ints (thn (isoC c) i.obs),ints (thn (imS c c.fr.length) i.ars)],.bptr [] [.v (.int .i64 (skC d).ob),ints (skC d).fr,ints (skC d).to,ints (skC d).id,intss (skC d).co,.v (.int .i64 d.ob),ints d.fr,ints d.to,ints d.id,intss d.co,ints (skO d d.ob.toNat),ints (skA d)]] [] (.agg [iv c.ob,.sl 0,.sl 1,.sl 2,.sl 3,iv d.ob,.sl 4,.sl 5,.sl 6,.sl 7,.sl 8,.sl 9]) [(0,⟨1,.arr (ints c.fr)⟩),(1,⟨1,.arr (ints c.to)⟩),(2,⟨1,.arr (ints c.id)⟩),(3,⟨1,.arr (intss c.co)⟩),(4,⟨1,.arr (ints d.fr)⟩),(5,⟨1,.arr (ints d.to)⟩),(6,⟨1,.arr (ints d.id)⟩),(7,⟨1,.arr (intss d.co)⟩),(8,⟨1,.arr (ints (thn (thn (isoC c) i.obs) (skO d d.ob.toNat)))⟩),(9,⟨1,.arr (ints (thn (thn (imS c c.fr.length) i.ars) (skA d)))⟩)]:=sp_Functor_then w2
  refine spec_of_V (E:=TE) 0 Tryz.func11 rfl (by simp [Tryz.f11]) fun X hn hX=>?_
  repeat' (first|(refine V_at 1 (Imp.trans (Imp.lendCat 2 0 1 c rfl rfl (Nat.le_refl 1)) (Imp.lendCat 3 1 1 d rfl rfl (Nat.le_refl 1))) ?_;simp only [go_sem,simprocAttr])|(exact absurd (And.intro sc sd) (by assumption))|(with_reducible first|refine V_seq ?_|refine V_skip ?_|refine V_ret ?_)|((with_reducible refine V_cond ?_);simp only [go_sem,simprocAttr])|((refine V_region (by rw [hn];rfl) ?_);intro K hK)|((first|with_reducible refine evOps_n ?_|((with_reducible apply evOps_g);rfl));intro K hK;simp (contextual:=true) only [go_sem,simprocAttr])|with_reducible refine evOps_nil ?_|((with_reducible refine hK _ ?_);clear hK K)|(with_reducible first|refine And.intro ?_ ?_|refine nxt_n ?_|refine nxt_r ?_|refine inR_mk ?_ ?_)|((with_reducible refine evCall_at 24 ?_);refine EvCall.rq (a:=(sp_areCategories_two (by first|omega|assumption|rfl) (by first|omega|assumption|rfl))) (b:=cal_areCategories) (c:=?_);all_goals try simp only [go_sem,simprocAttr])|((with_reducible refine evCall_at 36 ?_);refine EvCall.mk (h1) cal_skeletonIso [(0,4),(1,5),(2,6),(3,7),(4,8),(5,9),(6,10),(7,11),(8,12),(9,13)] [0,1] (by simp [go_sem] <;> (repeat' (first|rfl|constructor))) (by simp [go_sem] <;> (repeat' (first|rfl|constructor))) ?_;all_goals try simp only [go_sem,simprocAttr])|((with_reducible refine evCall_at 37 ?_);refine EvCall.mk (h2) cal_Category_toSkeleton [(0,15),(1,16),(2,17),(3,18),(4,19),(5,20),(6,21),(7,22),(8,23),(9,24)] [0] (by simp [go_sem] <;> (repeat' (first|rfl|constructor))) (by simp [go_sem] <;> (repeat' (first|rfl|constructor))) ?_;all_goals try simp only [go_sem,simprocAttr])|((with_reducible refine evCall_at 38 ?_);refine EvCall.mk (h3) cal_Category_fromSkeleton [(0,25),(1,26),(2,27),(3,28),(4,29),(5,30),(6,31),(7,32),(8,33),(9,34)] [1] (by simp [go_sem] <;> (repeat' (first|rfl|constructor))) (by simp [go_sem] <;> (repeat' (first|rfl|constructor))) ?_;all_goals try simp only [go_sem,simprocAttr])|((with_reducible refine (id ?_ : EvCall _ _ [.ptr 35 0,.ptr 14 0] _ _));refine EvCall.mk (h4) cal_Functor_then [(0,37),(1,38),(2,39),(3,40),(4,41),(5,42),(6,43),(7,44),(8,45),(9,46)] [35,15,16,17,18,19,20,21,22,23,24,14,4,5,6,7,8,9,10,11,12,13] (by simp [go_sem] <;> (repeat' (first|rfl|constructor))) (by simp [go_sem] <;> (repeat' (first|rfl|constructor))) ?_;all_goals try simp only [go_sem,simprocAttr])|((with_reducible refine (id ?_ : EvCall _ _ [.ptr 47 0,.ptr 36 0] _ _));refine EvCall.mk (h5) cal_Functor_then [(0,48),(1,49),(2,50),(3,51),(4,52),(5,53),(6,54),(7,55),(8,56),(9,57)] [47,37,38,39,40,41,42,43,44,45,46,36,25,26,27,28,29,30,31,32,33,34] (by simp [go_sem] <;> (repeat' (first|rfl|constructor))) (by simp [go_sem] <;> (repeat' (first|rfl|constructor))) ?_;all_goals try simp only [go_sem,simprocAttr])|(refine fun (hc : (_ : Bool) = _)=>?_;try simp only [hcS] at hc))
  all_goals try (first|(with_reducible assumption)|((try simp only [Cat.F,Cat.T,Cat.I,Cat.C,Fun.O,Fun.A,Cat.Entry,Int.toNat_natCast] at *);omega))
  · (first|refine ret_auto ?_|refine ret_auto' ?_);simp only [go_sem,simprocAttr,Tryz.f11]
    exact ⟨⟨rfl,rfl,rfl,rfl,rfl,rfl,rfl,rfl,rfl,rfl⟩,rfl⟩
theorem cal_spec_EquivalenceBetween : Callable Tryz.prog 10:=⟨_,Tryz.func10,rfl,rfl⟩
theorem sp_spec_EquivalenceBetween_bad {c d : Cat} (hc : CatB c) (hd : CatB d) (h : ¬ (IsCat c ∧ IsCat d)) : Spec Tryz.prog 10 [catV c,catV d] [] (.tup [.agg [iv 0,.v (.slice none 0 0),.v (.slice none 0 0),.v (.slice none 0 0),.v (.slice none 0 0),iv 0,.v (.slice none 0 0),.v (.slice none 0 0),.v (.slice none 0 0),.v (.slice none 0 0),.v (.slice none 0 0),.v (.slice none 0 0)],iv 1]) []:=by
  have hcd:=sp_l03Two_k hc hd (.inl ⟨h,rfl⟩)
  refine spec_of_V (E:=TE) 0 Tryz.func10 rfl (by simp [Tryz.f10]) fun X hn hX=>?_
  repeat' (first|(with_reducible first|refine V_seq ?_|refine V_skip ?_|refine V_ret ?_)|((with_reducible refine V_cond ?_);simp only [go_sem,simprocAttr])|((first|refine V_region (by rw [hn];rfl) ?_|refine V_drawn hmix (by rw [hn];rfl) ?_);intro K hK)|((first|with_reducible refine evOps_n ?_|((with_reducible apply evOps_g);rfl)|with_reducible refine evOpsD_n ?_|((with_reducible apply evOpsD_g);rfl));intro K hK;simp (contextual:=true) only [go_sem,simprocAttr])|with_reducible refine evOps_nil ?_|((with_reducible refine evOpsD_nil ?_ ?_);kernel_rfl)|((with_reducible refine hK _ ?_);clear hK K)|(with_reducible first|refine And.intro ?_ ?_|refine nxt_n ?_|refine nxt_r ?_|refine inR_mk ?_ ?_)|((with_reducible refine evCall_at 18 ?_);refine EvCall.mk (hcd) cal_l03Two [] [] (by simp [go_sem] <;> (repeat' (first|rfl|constructor))) (by simp [go_sem] <;> (repeat' (first|rfl|constructor))) ?_;all_goals try simp only [go_sem,simprocAttr])|(refine fun (hc : (_ : Bool) = _)=>?_;try simp only [hcS] at hc))
  all_goals try (first|(with_reducible assumption)|((try simp only [Cat.F,Cat.T,Cat.I,Cat.C,Fun.O,Fun.A,Cat.Entry,Int.toNat_natCast] at *);omega))
  all_goals ((first|refine ret_auto ?_|refine ret_auto' ?_);simp only [go_sem,simprocAttr,Tryz.f10])
theorem sp_spec_EquivalenceBetween_no {c d : Cat} {code : Int} (sc : IsCat c) (sd : IsCat d) (h : INo (skC c) (skC d) code) (h0 : code ≠ 0) : Spec Tryz.prog 10 [catV c,catV d] [] (.tup [.agg [iv 0,.v (.slice none 0 0),.v (.slice none 0 0),.v (.slice none 0 0),.v (.slice none 0 0),iv 0,.v (.slice none 0 0),.v (.slice none 0 0),.v (.slice none 0 0),.v (.slice none 0 0),.v (.slice none 0 0),.v (.slice none 0 0)],iv code]) []:=by
  have hcd:=sp_l03Two_k sc.catB sd.catB (.inr ⟨sc,sd,rfl⟩)
  rcases h with ⟨h,_⟩|⟨_,_,h,rfl⟩|⟨_,_,h,h2,rfl⟩
  · exact absurd ⟨skC_cat sc,skC_cat sd⟩ h
  · have h1:=sp_l11Alike_o sc sd (v:=false) (code:=3) (.inl ⟨h,rfl,rfl⟩)
    refine spec_of_V (E:=TE) 0 Tryz.func10 rfl (by simp [Tryz.f10]) fun X hn hX=>?_
    repeat' (first|(with_reducible first|refine V_seq ?_|refine V_skip ?_|refine V_ret ?_)|((with_reducible refine V_cond ?_);simp only [go_sem,simprocAttr])|((first|refine V_region (by rw [hn];rfl) ?_|refine V_drawn hmix (by rw [hn];rfl) ?_);intro K hK)|((first|with_reducible refine evOps_n ?_|((with_reducible apply evOps_g);rfl)|with_reducible refine evOpsD_n ?_|((with_reducible apply evOpsD_g);rfl));intro K hK;simp (contextual:=true) only [go_sem,simprocAttr])|with_reducible refine evOps_nil ?_|((with_reducible refine evOpsD_nil ?_ ?_);kernel_rfl)|((with_reducible refine hK _ ?_);clear hK K)|(with_reducible first|refine And.intro ?_ ?_|refine nxt_n ?_|refine nxt_r ?_|refine inR_mk ?_ ?_)|((with_reducible refine evCall_at 18 ?_);refine EvCall.mk (hcd) cal_l03Two [] [] (by simp [go_sem] <;> (repeat' (first|rfl|constructor))) (by simp [go_sem] <;> (repeat' (first|rfl|constructor))) ?_;all_goals try simp only [go_sem,simprocAttr])|((with_reducible refine evCall_at 21 ?_);refine EvCall.mk (h1) cal_l11Alike [] [] (by simp [go_sem] <;> (repeat' (first|rfl|constructor))) (by simp [go_sem] <;> (repeat' (first|rfl|constructor))) ?_;all_goals try simp only [go_sem,simprocAttr])|(refine fun (hc : (_ : Bool) = _)=>?_;try simp only [hcS] at hc))
    all_goals try (first|(with_reducible assumption)|((try simp only [Cat.F,Cat.T,Cat.I,Cat.C,Fun.O,Fun.A,Cat.Entry,Int.toNat_natCast] at *);omega))
    all_goals ((first|refine ret_auto ?_|refine ret_auto' ?_);simp only [go_sem,simprocAttr,Tryz.f10])
  · have h1:=sp_l11Alike_o sc sd (v:=false) (code:=0) (.inr ⟨h,⟨nilF,.inl ⟨by
      unfold allI
      rcases h2 with h2 | h2
      · rw [if_neg h2]
      · rw [h2];split <;> rfl,rfl,rfl⟩⟩,rfl⟩)
    refine spec_of_V (E:=TE) 0 Tryz.func10 rfl (by simp [Tryz.f10]) fun X hn hX=>?_
    repeat' (first|(with_reducible first|refine V_seq ?_|refine V_skip ?_|refine V_ret ?_)|((with_reducible refine V_cond ?_);simp only [go_sem,simprocAttr])|((first|refine V_region (by rw [hn];rfl) ?_|refine V_drawn hmix (by rw [hn];rfl) ?_);intro K hK)|((first|with_reducible refine evOps_n ?_|((with_reducible apply evOps_g);rfl)|with_reducible refine evOpsD_n ?_|((with_reducible apply evOpsD_g);rfl));intro K hK;simp (contextual:=true) only [go_sem,simprocAttr])|with_reducible refine evOps_nil ?_|((with_reducible refine evOpsD_nil ?_ ?_);kernel_rfl)|((with_reducible refine hK _ ?_);clear hK K)|(with_reducible first|refine And.intro ?_ ?_|refine nxt_n ?_|refine nxt_r ?_|refine inR_mk ?_ ?_)|((with_reducible refine evCall_at 18 ?_);refine EvCall.mk (hcd) cal_l03Two [] [] (by simp [go_sem] <;> (repeat' (first|rfl|constructor))) (by simp [go_sem] <;> (repeat' (first|rfl|constructor))) ?_;all_goals try simp only [go_sem,simprocAttr])|((with_reducible refine evCall_at 21 ?_);refine EvCall.mk (h1) cal_l11Alike [] [] (by simp [go_sem] <;> (repeat' (first|rfl|constructor))) (by simp [go_sem] <;> (repeat' (first|rfl|constructor))) ?_;all_goals try simp only [go_sem,simprocAttr])|(refine fun (hc : (_ : Bool) = _)=>?_;try simp only [hcS] at hc))
    all_goals try (first|(with_reducible assumption)|((try simp only [Cat.F,Cat.T,Cat.I,Cat.C,Fun.O,Fun.A,Cat.Entry,Int.toNat_natCast] at *);omega))
    all_goals ((first|refine ret_auto ?_|refine ret_auto' ?_);simp only [go_sem,simprocAttr,Tryz.f10])
theorem sp_spec_EquivalenceBetween_yes {c d : Cat} {i : Fun} (sc : IsCat c) (sd : IsCat d) (h : IYes (skC c) (skC d) i) : Spec Tryz.prog 10 [catV c,catV d] [] (.tup [.agg [iv (eqF c d i).src.ob,.sl 0,.sl 1,.sl 2,.sl 3,iv (eqF c d i).tgt.ob,.sl 4,.sl 5,.sl 6,.sl 7,.sl 8,.sl 9],iv 0]) [(0,⟨1,.arr (ints (eqF c d i).src.fr)⟩),(1,⟨1,.arr (ints (eqF c d i).src.to)⟩),(2,⟨1,.arr (ints (eqF c d i).src.id)⟩),(3,⟨1,.arr (intss (eqF c d i).src.co)⟩),(4,⟨1,.arr (ints (eqF c d i).tgt.fr)⟩),(5,⟨1,.arr (ints (eqF c d i).tgt.to)⟩),(6,⟨1,.arr (ints (eqF c d i).tgt.id)⟩),(7,⟨1,.arr (intss (eqF c d i).tgt.co)⟩),(8,⟨1,.arr (ints (eqF c d i).obs)⟩),(9,⟨1,.arr (ints (eqF c d i).ars)⟩)]:=by
  have hc:=sc.catB
  have hd:=sd.catB
  have o0:=sd.toShape.ob0
  have o8:=sd.toShape.ob8
  have m40:=sd.toShape.m40
  have tol:=sd.toShape.tol
  have hkl : (skO d d.ob.toNat).length ≤ d.ob.toNat:=selP_len _ _
  have al:=(full_sub sd (skO d d.ob.toNat)).len
  have al : (skA d).length ≤ d.fr.length:=al
  have hcd:=sp_l03Two_k hc hd (.inr ⟨sc,sd,rfl⟩)
  have hF : allI (skC c) (skC d) 1 = [i]:=by
    unfold allI
    obtain ⟨D,hD⟩:=h.fst
    rw [if_pos ⟨h.ob,h.ar⟩,hD];rfl
  have h1:=sp_l11Alike_o sc sd (v:=true) (code:=0) (.inr ⟨h.small,⟨i,.inr ⟨hF,rfl⟩⟩,rfl⟩)
  have p1:=sp_l11Part sc
  have p2:=sp_l11Part sd
  have h2:=sp_l10Find_yes (skC_cat sc) (skC_cat sd) (skC_cat sc).catB (skC_cat sd).catB hF
  have h3 : Spec Tryz.prog 31 [catV c] [] (.tup [.agg [iv c.ob,.sl 0,.sl 1,.sl 2,.sl 3,iv (skC c).ob,.sl 4,.sl 5,.sl 6,.sl 7,.sl 8,.sl 9],iv 0]) [(0,⟨1,.arr (ints c.fr)⟩),(1,⟨1,.arr (ints c.to)⟩),(2,⟨1,.arr (ints c.id)⟩),(3,⟨1,.arr (intss c.co)⟩),(4,⟨1,.arr (ints (skC c).fr)⟩),(5,⟨1,.arr (ints (skC c).to)⟩),(6,⟨1,.arr (ints (skC c).id)⟩),(7,⟨1,.arr (intss (skC c).co)⟩),(8,⟨1,.arr (ints (isoC c))⟩),(9,⟨1,.arr (ints (imS c c.fr.length))⟩)]:=sp_spec_SkeletonFunctor sc
  have h4:=sp_l11Skeleton sd
  have h5:=sp_l02Full (c:=d) (O:=skO d d.ob.toNat) (by omega) (by omega) tol
  have h6:=sp_l06Make (c:=skC d) (d:=d) (p:=skO d d.ob.toNat) (q:=skA d) (skC_cat sd).catB sd.catB (by omega) (by omega)
  obtain ⟨w1,w2,w3⟩:=eqW sc sd h
  have h7 : Spec Tryz.prog 35 [.agg [iv c.ob,.bor [] (ints c.fr),.bor [] (ints c.to),.bor [] (ints c.id),.bor [] (intss c.co),iv (skC c).ob,.bor [] (ints (skC c).fr),.bor [] (ints (skC c).to),.bor [] (ints (skC c).id),.bor [] (intss (skC c).co),.bor [] (ints (isoC c)),.bor [] (ints (imS c c.fr.length))],.agg [iv i.src.ob,.bor [] (ints i.src.fr),.bor [] (ints i.src.to),.bor [] (ints i.src.id),.bor [] (intss i.src.co),iv i.tgt.ob,.bor [] (ints i.tgt.fr),.bor [] (ints i.tgt.to),.bor [] (ints i.tgt.id),.bor [] (intss i.tgt.co),.bor [] (ints i.obs),.bor [] (ints i.ars)]] [] (.agg [iv c.ob,.sl 0,.sl 1,.sl 2,.sl 3,iv i.tgt.ob,.sl 4,.sl 5,.sl 6,.sl 7,.sl 8,.sl 9]) [(0,⟨1,.arr (ints c.fr)⟩),(1,⟨1,.arr (ints c.to)⟩),(2,⟨1,.arr (ints c.id)⟩),(3,⟨1,.arr (intss c.co)⟩),(4,⟨1,.arr (ints i.tgt.fr)⟩),(5,⟨1,.arr (ints i.tgt.to)⟩),(6,⟨1,.arr (ints i.tgt.id)⟩),(7,⟨1,.arr (intss i.tgt.co)⟩),(8,⟨1,.arr (ints (thn (isoC c) i.obs))⟩),(9,⟨1,.arr (ints (thn (imS c c.fr.length) i.ars))⟩)]:=sp_l06Then w1
  have h8 : Spec Tryz.prog 35 [.agg [iv c.ob,.bor [] (ints c.fr),.bor [] (ints c.to),.bor [] (ints c.id),.bor [] (intss c.co),iv i.tgt.ob,.bor [] (ints i.tgt.fr),.bor [] (ints i.tgt.to),.bor [] (ints i.tgt.id),.bor [] (intss i.tgt.co),.bor [] (ints (thn (isoC c) i.obs)),.bor [] (ints (thn (imS c c.fr.length) i.ars))],.agg [iv (skC d).ob,.bor [] (ints (skC d).fr),.bor [] (ints (skC d).to),.bor [] (ints (skC d).id),.bor [] (intss (skC d).co),iv d.ob,.bor [] (ints d.fr),.bor [] (ints d.to),.bor [] (ints d.id),.bor [] (intss d.co),.bor [] (ints (skO d d.ob.toNat)),.bor [] (ints (skA d))]] [] (.agg [iv c.ob,.sl 0,.sl 1,.sl 2,.sl 3,iv d.ob,.sl 4,.sl 5,.sl 6,.sl 7,.sl 8,.sl 9]) [(0,⟨1,.arr (ints c.fr)⟩),(1,⟨1,.arr (ints c.to)⟩),(2,⟨1,.arr (ints c.id)⟩),(3,⟨1,.arr (intss c.co)⟩),(4,⟨1,.arr (ints d.fr)⟩),(5,⟨1,.arr (ints d.to)⟩),(6,⟨1,.arr (ints d.id)⟩),(7,⟨1,.arr (intss d.co)⟩),(8,⟨1,.arr (ints (thn (thn (isoC c) i.obs) (skO d d.ob.toNat)))⟩),(9,⟨1,.arr (ints (thn (thn (imS c c.fr.length) i.ars) (skA d)))⟩)]:=sp_l06Then w2
  refine spec_of_V (E:=TE) 0 Tryz.func10 rfl (by simp [Tryz.f10]) fun X hn hX=>?_
  repeat' (first|(with_reducible first|refine V_seq ?_|refine V_skip ?_|refine V_ret ?_)|((with_reducible refine V_cond ?_);simp only [go_sem,simprocAttr])|((first|refine V_region (by rw [hn];rfl) ?_|refine V_drawn hmix (by rw [hn];rfl) ?_);intro K hK)|((first|with_reducible refine evOps_n ?_|((with_reducible apply evOps_g);rfl)|with_reducible refine evOpsD_n ?_|((with_reducible apply evOpsD_g);rfl));intro K hK;simp (contextual:=true) only [go_sem,simprocAttr])|with_reducible refine evOps_nil ?_|((with_reducible refine evOpsD_nil ?_ ?_);kernel_rfl)|((with_reducible refine hK _ ?_);clear hK K)|(with_reducible first|refine And.intro ?_ ?_|refine nxt_n ?_|refine nxt_r ?_|refine inR_mk ?_ ?_)|((with_reducible refine evCall_at 18 ?_);refine EvCall.mk (hcd) cal_l03Two [] [] (by simp [go_sem] <;> (repeat' (first|rfl|constructor))) (by simp [go_sem] <;> (repeat' (first|rfl|constructor))) ?_;all_goals try simp only [go_sem,simprocAttr])|((with_reducible refine evCall_at 21 ?_);refine EvCall.mk (h1) cal_l11Alike [] [] (by simp [go_sem] <;> (repeat' (first|rfl|constructor))) (by simp [go_sem] <;> (repeat' (first|rfl|constructor))) ?_;all_goals try simp only [go_sem,simprocAttr])|((with_reducible refine (id ?_ : EvCall _ _ [(.agg [iv c.ob,.bor [] (ints c.fr),.bor [] (ints c.to),.bor [] (ints c.id),.bor [] (intss c.co)])] _ _));refine EvCall.mk (p1) cal_l11Part [(0,3),(1,4),(2,5),(3,6)] [] (by simp [go_sem] <;> (repeat' (first|rfl|constructor))) (by simp [go_sem] <;> (repeat' (first|rfl|constructor))) ?_;all_goals try simp only [go_sem,simprocAttr])|(refine fun (hc : (_ : Bool) = _)=>?_;try simp only [hcS] at hc))
  all_goals try (first|(with_reducible assumption)|((try simp only [Cat.F,Cat.T,Cat.I,Cat.C,Fun.O,Fun.A,Cat.Entry,Int.toNat_natCast] at *);omega))
  repeat' (first|(with_reducible first|refine V_seq ?_|refine V_skip ?_|refine V_ret ?_)|((with_reducible refine V_cond ?_);simp only [go_sem,simprocAttr])|((first|refine V_region (by rw [hn];rfl) ?_|refine V_drawn hmix (by rw [hn];rfl) ?_);intro K hK)|((first|with_reducible refine evOps_n ?_|((with_reducible apply evOps_g);rfl)|with_reducible refine evOpsD_n ?_|((with_reducible apply evOpsD_g);rfl));intro K hK;simp (contextual:=true) only [go_sem,simprocAttr])|with_reducible refine evOps_nil ?_|((with_reducible refine evOpsD_nil ?_ ?_);kernel_rfl)|((with_reducible refine hK _ ?_);clear hK K)|(with_reducible first|refine And.intro ?_ ?_|refine nxt_n ?_|refine nxt_r ?_|refine inR_mk ?_ ?_)|((with_reducible refine (id ?_ : EvCall _ _ [(.agg [iv d.ob,.bor [] (ints d.fr),.bor [] (ints d.to),.bor [] (ints d.id),.bor [] (intss d.co)])] _ _));refine EvCall.mk (p2) cal_l11Part [(0,7),(1,8),(2,9),(3,10)] [] (by simp [go_sem] <;> (repeat' (first|rfl|constructor))) (by simp [go_sem] <;> (repeat' (first|rfl|constructor))) ?_;all_goals try simp only [go_sem,simprocAttr])|(refine fun (hc : (_ : Bool) = _)=>?_;try simp only [hcS] at hc))
  all_goals try (first|(with_reducible assumption)|((try simp only [Cat.F,Cat.T,Cat.I,Cat.C,Fun.O,Fun.A,Cat.Entry,Int.toNat_natCast] at *);omega))
  repeat' (first|(with_reducible first|refine V_seq ?_|refine V_skip ?_|refine V_ret ?_)|((with_reducible refine V_cond ?_);simp only [go_sem,simprocAttr])|((first|refine V_region (by rw [hn];rfl) ?_|refine V_drawn hmix (by rw [hn];rfl) ?_);intro K hK)|((first|with_reducible refine evOps_n ?_|((with_reducible apply evOps_g);rfl)|with_reducible refine evOpsD_n ?_|((with_reducible apply evOpsD_g);rfl));intro K hK;simp (contextual:=true) only [go_sem,simprocAttr])|with_reducible refine evOps_nil ?_|((with_reducible refine evOpsD_nil ?_ ?_);kernel_rfl)|((with_reducible refine hK _ ?_);clear hK K)|(with_reducible first|refine And.intro ?_ ?_|refine nxt_n ?_|refine nxt_r ?_|refine inR_mk ?_ ?_)|((with_reducible refine evCall_at 29 ?_);refine EvCall.mk (h2) cal_l10Find [(0,11),(1,12),(2,13),(3,14),(4,15),(5,16),(6,17),(7,18),(8,19),(9,20)] [3,4,5,6,7,8,9,10] (by simp [go_sem] <;> (repeat' (first|rfl|constructor))) (by simp [go_sem] <;> (repeat' (first|rfl|constructor))) ?_;all_goals try simp only [go_sem,simprocAttr])|((with_reducible refine evCall_at 31 ?_);refine EvCall.mk (h3) cal_spec_SkeletonFunctor [(0,22),(1,23),(2,24),(3,25),(4,26),(5,27),(6,28),(7,29),(8,30),(9,31)] [] (by simp [go_sem] <;> (repeat' (first|rfl|constructor))) (by simp [go_sem] <;> (repeat' (first|rfl|constructor))) ?_;all_goals try simp only [go_sem,simprocAttr])|((with_reducible refine evCall_at 32 ?_);refine EvCall.mk (h4) cal_l11Skeleton [(0,33)] [] (by simp [go_sem] <;> (repeat' (first|rfl|constructor))) (by simp [go_sem] <;> (repeat' (first|rfl|constructor))) ?_;all_goals try simp only [go_sem,simprocAttr])|(refine fun (hc : (_ : Bool) = _)=>?_;try simp only [hcS] at hc))
  all_goals try (first|(with_reducible assumption)|((try simp only [Cat.F,Cat.T,Cat.I,Cat.C,Fun.O,Fun.A,Cat.Entry,Int.toNat_natCast] at *);omega))
  repeat' (first|(with_reducible first|refine V_seq ?_|refine V_skip ?_|refine V_ret ?_)|((with_reducible refine V_cond ?_);simp only [go_sem,simprocAttr])|((first|refine V_region (by rw [hn];rfl) ?_|refine V_drawn hmix (by rw [hn];rfl) ?_);intro K hK)|((first|with_reducible refine evOps_n ?_|((with_reducible apply evOps_g);rfl)|with_reducible refine evOpsD_n ?_|((with_reducible apply evOpsD_g);rfl));intro K hK;simp (contextual:=true) only [go_sem,simprocAttr])|with_reducible refine evOps_nil ?_|((with_reducible refine evOpsD_nil ?_ ?_);kernel_rfl)|((with_reducible refine hK _ ?_);clear hK K)|(with_reducible first|refine And.intro ?_ ?_|refine nxt_n ?_|refine nxt_r ?_|refine inR_mk ?_ ?_)|((with_reducible refine (id ?_ : EvCall _ _ [(.agg [iv d.ob,.bor [] (ints d.fr),.bor [] (ints d.to),.bor [] (ints d.id),.bor [] (intss d.co)])] _ _));refine EvCall.mk (p2) cal_l11Part [(0,34),(1,35),(2,36),(3,37)] [] (by simp [go_sem] <;> (repeat' (first|rfl|constructor))) (by simp [go_sem] <;> (repeat' (first|rfl|constructor))) ?_;all_goals try simp only [go_sem,simprocAttr])|((with_reducible refine evCall_at 34 ?_);refine EvCall.mk (h5) cal_l02Full [(0,38)] [33] (by simp [go_sem] <;> (repeat' (first|rfl|constructor))) (by simp [go_sem] <;> (repeat' (first|rfl|constructor))) ?_;all_goals try simp only [go_sem,simprocAttr])|((with_reducible refine evCall_at 33 ?_);refine EvCall.mk (h6) cal_l06Make [(0,39),(1,40),(2,41),(3,42),(4,43),(5,44),(6,45),(7,46),(8,47),(9,48)] [34,35,36,37,33,38] (by simp [go_sem] <;> (repeat' (first|rfl|constructor))) (by simp [go_sem] <;> (repeat' (first|rfl|constructor))) ?_;all_goals try simp only [go_sem,simprocAttr])|(refine fun (hc : (_ : Bool) = _)=>?_;try simp only [hcS] at hc))
  all_goals try (first|(with_reducible assumption)|((try simp only [Cat.F,Cat.T,Cat.I,Cat.C,Fun.O,Fun.A,Cat.Entry,Int.toNat_natCast] at *);omega))
  repeat' (first|(with_reducible first|refine V_seq ?_|refine V_skip ?_|refine V_ret ?_)|((with_reducible refine V_cond ?_);simp only [go_sem,simprocAttr])|((first|refine V_region (by rw [hn];rfl) ?_|refine V_drawn hmix (by rw [hn];rfl) ?_);intro K hK)|((first|with_reducible refine evOps_n ?_|((with_reducible apply evOps_g);rfl)|with_reducible refine evOpsD_n ?_|((with_reducible apply evOpsD_g);rfl));intro K hK;simp (contextual:=true) only [go_sem,simprocAttr])|with_reducible refine evOps_nil ?_|((with_reducible refine evOpsD_nil ?_ ?_);kernel_rfl)|((with_reducible refine hK _ ?_);clear hK K)|(with_reducible first|refine And.intro ?_ ?_|refine nxt_n ?_|refine nxt_r ?_|refine inR_mk ?_ ?_)|((with_reducible refine (id ?_ : EvCall _ _ [.agg (_ :: .sl 22 :: _),_] _ _));refine EvCall.mk (h7) cal_l06Then [(0,50),(1,51),(2,52),(3,53),(4,54),(5,55),(6,56),(7,57),(8,58),(9,59)] [22,23,24,25,26,27,28,29,30,31,11,12,13,14,15,16,17,18,19,20] (by simp [go_sem] <;> (repeat' (first|rfl|constructor))) (by simp [go_sem] <;> (repeat' (first|rfl|constructor))) ?_;all_goals try simp only [go_sem,simprocAttr])|((with_reducible refine (id ?_ : EvCall _ _ [.agg (_ :: .sl 50 :: _),_] _ _));refine EvCall.mk (h8) cal_l06Then [(0,60),(1,61),(2,62),(3,63),(4,64),(5,65),(6,66),(7,67),(8,68),(9,69)] [50,51,52,53,54,55,56,57,58,59,39,40,41,42,43,44,45,46,47,48] (by simp [go_sem] <;> (repeat' (first|rfl|constructor))) (by simp [go_sem] <;> (repeat' (first|rfl|constructor))) ?_;all_goals try simp only [go_sem,simprocAttr])|(refine fun (hc : (_ : Bool) = _)=>?_;try simp only [hcS] at hc))
  all_goals try (first|(with_reducible assumption)|((try simp only [Cat.F,Cat.T,Cat.I,Cat.C,Fun.O,Fun.A,Cat.Entry,Int.toNat_natCast] at *);omega))
  · (first|refine ret_auto ?_|refine ret_auto' ?_);simp only [go_sem,simprocAttr,Tryz.f10]
    exact ⟨⟨rfl,rfl,rfl,rfl,rfl,rfl,rfl,rfl,rfl,rfl⟩,rfl⟩
theorem sp_EquivalenceBetween_o {c d : Cat} {g : Fun} {code : Int} (hc : CatB c) (hd : CatB d) (h : EbO c d g code) : Spec Tryz.prog 11 [catV c,catV d] [] (.tup [.agg [iv g.src.ob,.sl 0,.sl 1,.sl 2,.sl 3,iv g.tgt.ob,.sl 4,.sl 5,.sl 6,.sl 7,.sl 8,.sl 9],iv code]) [(0,⟨1,.arr (ints g.src.fr)⟩),(1,⟨1,.arr (ints g.src.to)⟩),(2,⟨1,.arr (ints g.src.id)⟩),(3,⟨1,.arr (intss g.src.co)⟩),(4,⟨1,.arr (ints g.tgt.fr)⟩),(5,⟨1,.arr (ints g.tgt.to)⟩),(6,⟨1,.arr (ints g.tgt.id)⟩),(7,⟨1,.arr (intss g.tgt.co)⟩),(8,⟨1,.arr (ints g.obs)⟩),(9,⟨1,.arr (ints g.ars)⟩)]:=by
  rcases h with ⟨h,rfl,rfl⟩|⟨sc,sd,⟨h,h0,h1,rfl⟩|⟨i,h,rfl,rfl⟩⟩
  · exact adoptF (sp_EquivalenceBetween_bad hc hd h)
  · exact adoptF (sp_EquivalenceBetween_no sc sd h h0)
  · exact sp_EquivalenceBetween_yes sc sd h
theorem sp_spec_EquivalenceBetween_o {c d : Cat} {g : Fun} {code : Int} (hc : CatB c) (hd : CatB d) (h : EbO c d g code) : Spec Tryz.prog 10 [catV c,catV d] [] (.tup [.agg [iv g.src.ob,.sl 0,.sl 1,.sl 2,.sl 3,iv g.tgt.ob,.sl 4,.sl 5,.sl 6,.sl 7,.sl 8,.sl 9],iv code]) [(0,⟨1,.arr (ints g.src.fr)⟩),(1,⟨1,.arr (ints g.src.to)⟩),(2,⟨1,.arr (ints g.src.id)⟩),(3,⟨1,.arr (intss g.src.co)⟩),(4,⟨1,.arr (ints g.tgt.fr)⟩),(5,⟨1,.arr (ints g.tgt.to)⟩),(6,⟨1,.arr (ints g.tgt.id)⟩),(7,⟨1,.arr (intss g.tgt.co)⟩),(8,⟨1,.arr (ints g.obs)⟩),(9,⟨1,.arr (ints g.ars)⟩)]:=by
  rcases h with ⟨h,rfl,rfl⟩|⟨sc,sd,⟨h,h0,h1,rfl⟩|⟨i,h,rfl,rfl⟩⟩
  · exact adoptF (sp_spec_EquivalenceBetween_bad hc hd h)
  · exact adoptF (sp_spec_EquivalenceBetween_no sc sd h h0)
  · exact sp_spec_EquivalenceBetween_yes sc sd h
theorem _root_.Go.Cats.EbO.b {c d : Cat} {g : Fun} {code : Int} (h : EbO c d g code) : FunB g:=by
  rcases h with ⟨h,rfl,rfl⟩|⟨sc,sd,⟨h,h0,h1,rfl⟩|⟨i,h,rfl,rfl⟩⟩
  · exact nilF_b
  · exact nilF_b
  · exact (eqW sc sd h).b
end Go.Eng
