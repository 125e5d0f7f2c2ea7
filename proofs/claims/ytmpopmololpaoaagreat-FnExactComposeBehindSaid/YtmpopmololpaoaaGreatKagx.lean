/- Several texts in one: R25, R26. -/
import Derived.Test.YtmpopmololpaoaaGreatKdx
import Derived.Test.YtmpopmololpaoaaGreatKaex
set_option linter.unusedSimpArgs false
set_option linter.unusedVariables false
set_option maxRecDepth 100000
set_option maxHeartbeats 16000000
section
namespace Go.Eng
open Go Go.Proofs Go.Cats
noncomputable def chP (c : Cat) (g : Fun) (i : Nat) : List Int:=thn ((fcL c g.src).getD i default).obs g.obs
noncomputable def chQ (c : Cat) (g : Fun) (i : Nat) : List Int:=thn ((fcL c g.src).getD i default).ars g.ars
noncomputable def chF (c : Cat) (g : Fun) : Fun:=⟨fcK g.src (fcL c g.src),fcK g.tgt (fcL c g.tgt),btO (fun i=>fcAt (fcL c g.tgt) (chP c g i) (chQ c g i)) (fcL c g.src).length,btA (fun i=>fcAt (fcL c g.tgt) (chP c g i) (chQ c g i)) (fcA (fcL c g.src)) (fcA (fcL c g.tgt)) (fun a=>thn (((fcA (fcL c g.src)).getD a []).drop 2) g.ars) (fcA (fcL c g.src)).length⟩
theorem ch_fits {c : Cat} {g : Fun} (sc : IsCat c) (hg : IsFun g) {i : Nat} (hi : i < (fcL c g.src).length) : Fits ⟨c,g.tgt,chP c g i,chQ c g i⟩:=by
  have hfl : FL c g.src (fcL c g.src):=FL.of_funX
  obtain ⟨g1,g2,g3⟩:=hfl i hi
  have:=thF_fits (f:=(fcL c g.src).getD i default) (g:=g) (by rw [g1];exact sc.toShape) (by rw [g2];exact hg.src.toShape) g3 hg.fits g2.symm
  unfold thF at this
  rw [g1] at this
  exact this
theorem ch_w {c : Cat} {g : Fun} (sc : IsCat c) (hg : IsFun g) (hy : FcY c g.src) (hy' : FcY c g.tgt) : BtW (fcL c g.src) (fcL c g.tgt) (fcA (fcL c g.src)) (fcA (fcL c g.tgt)) (fun i=>fcAt (fcL c g.tgt) (chP c g i) (chQ c g i)) (fun a=>thn (((fcA (fcL c g.src)).getD a []).drop 2) g.ars) (fun i=>thF ((fcL c g.src).getD i default) g):=by
  have hfl : FL c g.src (fcL c g.src):=FL.of_funX
  refine bt_mk (T:=fun t=>thn t g.ars) sc hg.src sc hg.tgt hy hy' (fun i=>⟨rfl,rfl⟩) (fun i hi=>ch_fits sc hg hi) fun i j t hi hj ht=>?_
  obtain ⟨g1,g2,g3⟩:=hfl i hi
  obtain ⟨k1,k2,k3⟩:=hfl j hj
  have:=nat_behind (hfl.par sc hg.src hi hj) hg.fits g2.symm ht
  unfold thF at this
  rw [g1,k1] at this
  exact this
theorem ch_th {c : Cat} {g : Fun} (sc : IsCat c) (hg : IsFun g) (bc : CatB c) (bt : CatB g.tgt) {i : Nat} (hi : i < (fcL c g.src).length) : ThF ((fcL c g.src).getD i default) g:=by
  have hfl : FL c g.src (fcL c g.src):=FL.of_funX
  obtain ⟨g1,g2,g3⟩:=hfl i hi
  have o1:=hg.fits.obl
  have o2:=hg.fits.arl
  have p1:=g3.obl
  have p2:=g3.arl
  have p3:=g3.obw
  have p4:=g3.arw
  rw [g1] at p1 p2
  rw [g2] at p3 p4
  have s8:=hg.src.toShape.ob8
  have s40:=hg.src.toShape.m40
  have t8:=sc.toShape.ob8
  have t40:=sc.toShape.m40
  exact ⟨by rw [g1];exact bc,bt,by omega,by omega,by omega,by omega,by rw [o1];exact p3,by rw [o2];exact p4⟩
attribute [local go_sem] List.set_cons_zero List.set_cons_succ
theorem cal_ComposeBehind_1 : Callable Tryz.prog 82:=⟨_,Tryz.func82,rfl,rfl⟩
theorem cal_ComposeBehind_2 : Callable Tryz.prog 83:=⟨_,Tryz.func83,rfl,rfl⟩
theorem sp_ComposeBehind_1 {f g : Fun} (h : ThF f g) : Spec Tryz.prog 82 ([.bptr [] (funD f)] ++ (CbLC g).l) [] (.agg [iv (thF f g).src.ob,.sl 0,.sl 1,.sl 2,.sl 3,iv (thF f g).tgt.ob,.sl 4,.sl 5,.sl 6,.sl 7,.sl 8,.sl 9]) [(0,⟨1,.arr (ints (thF f g).src.fr)⟩),(1,⟨1,.arr (ints (thF f g).src.to)⟩),(2,⟨1,.arr (ints (thF f g).src.id)⟩),(3,⟨1,.arr (intss (thF f g).src.co)⟩),(4,⟨1,.arr (ints (thF f g).tgt.fr)⟩),(5,⟨1,.arr (ints (thF f g).tgt.to)⟩),(6,⟨1,.arr (ints (thF f g).tgt.id)⟩),(7,⟨1,.arr (intss (thF f g).tgt.co)⟩),(8,⟨1,.arr (ints (thF f g).obs)⟩),(9,⟨1,.arr (ints (thF f g).ars)⟩)]:=by
  have ht:=sp_Functor_then h
  show Spec Tryz.prog 82 [.bptr [] (funD f),.bptr [] (funD g)] [] (.agg [iv (thF f g).src.ob,.sl 0,.sl 1,.sl 2,.sl 3,iv (thF f g).tgt.ob,.sl 4,.sl 5,.sl 6,.sl 7,.sl 8,.sl 9]) [(0,⟨1,.arr (ints (thF f g).src.fr)⟩),(1,⟨1,.arr (ints (thF f g).src.to)⟩),(2,⟨1,.arr (ints (thF f g).src.id)⟩),(3,⟨1,.arr (intss (thF f g).src.co)⟩),(4,⟨1,.arr (ints (thF f g).tgt.fr)⟩),(5,⟨1,.arr (ints (thF f g).tgt.to)⟩),(6,⟨1,.arr (ints (thF f g).tgt.id)⟩),(7,⟨1,.arr (intss (thF f g).tgt.co)⟩),(8,⟨1,.arr (ints (thF f g).obs)⟩),(9,⟨1,.arr (ints (thF f g).ars)⟩)]
  refine spec_of_V (E:=TE) 0 Tryz.func82 rfl (by simp [Tryz.f82]) fun X hn hX=>?_
  repeat' (first|(with_reducible first|refine V_seq ?_|refine V_skip ?_|refine V_ret ?_)|((with_reducible refine V_cond ?_);simp only [go_sem,simprocAttr])|((refine V_region (by rw [hn];rfl) ?_);intro K hK)|((first|with_reducible refine evOps_n ?_|((with_reducible apply evOps_g);rfl));intro K hK;simp (contextual:=true) only [go_sem,simprocAttr])|with_reducible refine evOps_nil ?_|((with_reducible refine hK _ ?_);clear hK K)|(with_reducible first|refine And.intro ?_ ?_|refine nxt_n ?_|refine nxt_r ?_|refine inR_mk ?_ ?_)|((with_reducible refine evCall_at 79 ?_);refine EvCall.mk (ht) cal_Functor_then [(0,1),(1,2),(2,3),(3,4),(4,5),(5,6),(6,7),(7,8),(8,9),(9,10)] [] (by simp [go_sem] <;> (repeat' (first|rfl|constructor))) (by simp [go_sem] <;> (repeat' (first|rfl|constructor))) ?_;all_goals try simp only [go_sem,simprocAttr])|(refine fun (hc : (_ : Bool) = _)=>?_;try simp only [hcS] at hc))
  all_goals try (first|(with_reducible assumption)|((try simp only [Cat.F,Cat.T,Cat.I,Cat.C,Fun.O,Fun.A,Cat.Entry,Int.toNat_natCast] at *);omega))
  (first|refine ret_auto ?_|refine ret_auto' ?_);simp only [go_sem,simprocAttr,Tryz.f82]
theorem sp_ComposeBehind_2 {g : Fun} {t : List Int} (h1 : t.length ≤ 1048576) (h2 : g.ars.length ≤ 1048576) (h3 : Within t g.ars.length) : Spec Tryz.prog 83 ([.bor [] (ints t)] ++ (CbLC g).l) [] (.sl 0) [(0,⟨1,.arr (ints (thn t g.ars))⟩)]:=by
  have ht:=sp_then h1 h2 h3
  show Spec Tryz.prog 83 [.bor [] (ints t),.bptr [] (funD g)] [] (.sl 0) [(0,⟨1,.arr (ints (thn t g.ars))⟩)]
  refine spec_of_V (E:=TE) 0 Tryz.func83 rfl (by simp [Tryz.f83]) fun X hn hX=>?_
  repeat' (first|(with_reducible first|refine V_seq ?_|refine V_skip ?_|refine V_ret ?_)|((with_reducible refine V_cond ?_);simp only [go_sem,simprocAttr])|((refine V_region (by rw [hn];rfl) ?_);intro K hK)|((first|with_reducible refine evOps_n ?_|((with_reducible apply evOps_g);rfl));intro K hK;simp (contextual:=true) only [go_sem,simprocAttr])|with_reducible refine evOps_nil ?_|((with_reducible refine hK _ ?_);clear hK K)|(with_reducible first|refine And.intro ?_ ?_|refine nxt_n ?_|refine nxt_r ?_|refine inR_mk ?_ ?_)|((with_reducible refine evCall_at 81 ?_);refine EvCall.mk (ht) cal_then [(0,0)] [] (by simp [go_sem] <;> (repeat' (first|rfl|constructor))) (by simp [go_sem] <;> (repeat' (first|rfl|constructor))) ?_;all_goals try simp only [go_sem,simprocAttr])|(refine fun (hc : (_ : Bool) = _)=>?_;try simp only [hcS] at hc))
  all_goals try (first|(with_reducible assumption)|((try simp only [Cat.F,Cat.T,Cat.I,Cat.C,Fun.O,Fun.A,Cat.Entry,Int.toNat_natCast] at *);omega))
  (first|refine ret_auto ?_|refine ret_auto' ?_);simp only [go_sem,simprocAttr,Tryz.f83]
def ChOut (c : Cat) (g : Fun) (k : Fun) (code : Int) : Prop :=
  (¬ (IsCat c ∧ IsFun g) ∧ k = nilF ∧ code = 1) ∨ (IsCat c ∧ IsFun g ∧ ((¬ (FcY c g.src ∧ FcY c g.tgt) ∧ k = nilF ∧ code = 3) ∨ (FcY c g.src ∧ FcY c g.tgt ∧ k = chF c g ∧ code = 0)))
theorem ChOut.ex (c : Cat) (g : Fun) : ∃ k code,ChOut c g k code:=by
  by_cases h : IsCat c ∧ IsFun g
  · by_cases h3 : FcY c g.src ∧ FcY c g.tgt
    · exact ⟨_,_,.inr ⟨h.1,h.2,.inr ⟨h3.1,h3.2,rfl,rfl⟩⟩⟩
    · exact ⟨_,_,.inr ⟨h.1,h.2,.inl ⟨h3,rfl,rfl⟩⟩⟩
  · exact ⟨_,_,.inl ⟨h,rfl,rfl⟩⟩
theorem chF_b {c : Cat} {g : Fun} (hy : FcY c g.src) (hy' : FcY c g.tgt) : FunB (chF c g):=by
  have h1:=hy.2.1
  have h2:=hy.2.2
  refine ⟨fcK_b g.src hy.2.1 hy.2.2,fcK_b g.tgt hy'.2.1 hy'.2.2,?_,?_⟩
  · show (btO _ _).length ≤ 1048576;rw [btO_len];omega
  · show (btA _ _ _ _ _).length ≤ 1048576;rw [btA_len];omega
theorem cal_ComposeBehind : Callable Tryz.prog 37:=⟨_,Tryz.func37,rfl,rfl⟩
theorem sp_ComposeBehind_bad {c : Cat} {g : Fun} (hc : CatB c) (hb : FunB g) (h : ¬ (IsCat c ∧ IsFun g)) : Spec Tryz.prog 37 [catV c,funV g] [] (.tup [.agg [iv 0,.v (.slice none 0 0),.v (.slice none 0 0),.v (.slice none 0 0),.v (.slice none 0 0),iv 0,.v (.slice none 0 0),.v (.slice none 0 0),.v (.slice none 0 0),.v (.slice none 0 0),.v (.slice none 0 0),.v (.slice none 0 0)],iv 1]) []:=by
  by_cases h1 : IsCat c
  · have h2 : ¬ IsFun g:=fun q=>h ⟨h1,q⟩
    have v1:=ic_v hc (dec_t h1)
    have v2:=is_v hb (dec_f h2)
    refine spec_of_V (E:=TE) 0 Tryz.func37 rfl (by simp [Tryz.f37]) fun X hn hX=>?_
    repeat' (first|(with_reducible first|refine V_seq ?_|refine V_skip ?_|refine V_ret ?_)|((with_reducible refine V_cond ?_);simp only [go_sem,simprocAttr])|((refine V_region (by rw [hn];rfl) ?_);intro K hK)|((first|with_reducible refine evOps_n ?_|((with_reducible apply evOps_g);rfl));intro K hK;simp (contextual:=true) only [go_sem,simprocAttr])|with_reducible refine evOps_nil ?_|((with_reducible refine hK _ ?_);clear hK K)|(with_reducible first|refine And.intro ?_ ?_|refine nxt_n ?_|refine nxt_r ?_|refine inR_mk ?_ ?_)|((with_reducible refine evCall_at 76 ?_);refine EvCall.mk (v1) cal_Category_isCategory [] [0] (by simp [go_sem] <;> (repeat' (first|rfl|constructor))) (by simp [go_sem] <;> (repeat' (first|rfl|constructor))) ?_;all_goals try simp only [go_sem,simprocAttr])|((with_reducible refine evCall_at 75 ?_);refine EvCall.mk (v2) cal_Functor_isFunctor [] [1] (by simp [go_sem] <;> (repeat' (first|rfl|constructor))) (by simp [go_sem] <;> (repeat' (first|rfl|constructor))) ?_;all_goals try simp only [go_sem,simprocAttr])|(refine fun (hc : (_ : Bool) = _)=>?_;try simp only [hcS] at hc))
    all_goals try (first|(with_reducible assumption)|((try simp only [Cat.F,Cat.T,Cat.I,Cat.C,Fun.O,Fun.A,Cat.Entry,Int.toNat_natCast] at *);omega))
    all_goals ((first|refine ret_auto ?_|refine ret_auto' ?_);simp only [go_sem,simprocAttr,Tryz.f37])
  · have v1:=ic_v hc (dec_f h1)
    refine spec_of_V (E:=TE) 0 Tryz.func37 rfl (by simp [Tryz.f37]) fun X hn hX=>?_
    repeat' (first|(with_reducible first|refine V_seq ?_|refine V_skip ?_|refine V_ret ?_)|((with_reducible refine V_cond ?_);simp only [go_sem,simprocAttr])|((refine V_region (by rw [hn];rfl) ?_);intro K hK)|((first|with_reducible refine evOps_n ?_|((with_reducible apply evOps_g);rfl));intro K hK;simp (contextual:=true) only [go_sem,simprocAttr])|with_reducible refine evOps_nil ?_|((with_reducible refine hK _ ?_);clear hK K)|(with_reducible first|refine And.intro ?_ ?_|refine nxt_n ?_|refine nxt_r ?_|refine inR_mk ?_ ?_)|((with_reducible refine evCall_at 76 ?_);refine EvCall.mk (v1) cal_Category_isCategory [] [0] (by simp [go_sem] <;> (repeat' (first|rfl|constructor))) (by simp [go_sem] <;> (repeat' (first|rfl|constructor))) ?_;all_goals try simp only [go_sem,simprocAttr])|(refine fun (hc : (_ : Bool) = _)=>?_;try simp only [hcS] at hc))
    all_goals try (first|(with_reducible assumption)|((try simp only [Cat.F,Cat.T,Cat.I,Cat.C,Fun.O,Fun.A,Cat.Entry,Int.toNat_natCast] at *);omega))
    all_goals ((first|refine ret_auto ?_|refine ret_auto' ?_);simp only [go_sem,simprocAttr,Tryz.f37])
theorem sp_ComposeBehind_no {c : Cat} {g : Fun} (hc : CatB c) (hb : FunB g) (sc : IsCat c) (hg : IsFun g) (h : ¬ (FcY c g.src ∧ FcY c g.tgt)) : Spec Tryz.prog 37 [catV c,funV g] [] (.tup [.agg [iv 0,.v (.slice none 0 0),.v (.slice none 0 0),.v (.slice none 0 0),.v (.slice none 0 0),iv 0,.v (.slice none 0 0),.v (.slice none 0 0),.v (.slice none 0 0),.v (.slice none 0 0),.v (.slice none 0 0),.v (.slice none 0 0)],iv 3]) []:=by
  have v1:=ic_v hc (dec_t sc)
  have v2:=is_v hb (dec_t hg)
  by_cases y1 : FcY c g.src
  · have y2 : ¬ FcY c g.tgt:=fun q=>h ⟨y1,q⟩
    have h1:=sp_functors_o sc hg.src hc hb.src (.inl ⟨y1,rfl,rfl⟩)
    have h2:=sp_functors_o sc hg.tgt hc hb.tgt (.inr ⟨y2,rfl,rfl⟩)
    refine spec_of_V (E:=TE) 0 Tryz.func37 rfl (by simp [Tryz.f37]) fun X hn hX=>?_
    repeat' (first|(with_reducible first|refine V_seq ?_|refine V_skip ?_|refine V_ret ?_)|((with_reducible refine V_cond ?_);simp only [go_sem,simprocAttr])|((refine V_region (by rw [hn];rfl) ?_);intro K hK)|((first|with_reducible refine evOps_n ?_|((with_reducible apply evOps_g);rfl));intro K hK;simp (contextual:=true) only [go_sem,simprocAttr])|with_reducible refine evOps_nil ?_|((with_reducible refine hK _ ?_);clear hK K)|(with_reducible first|refine And.intro ?_ ?_|refine nxt_n ?_|refine nxt_r ?_|refine inR_mk ?_ ?_)|((with_reducible refine evCall_at 76 ?_);refine EvCall.mk (v1) cal_Category_isCategory [] [0] (by simp [go_sem] <;> (repeat' (first|rfl|constructor))) (by simp [go_sem] <;> (repeat' (first|rfl|constructor))) ?_;all_goals try simp only [go_sem,simprocAttr])|((with_reducible refine evCall_at 75 ?_);refine EvCall.mk (v2) cal_Functor_isFunctor [] [1] (by simp [go_sem] <;> (repeat' (first|rfl|constructor))) (by simp [go_sem] <;> (repeat' (first|rfl|constructor))) ?_;all_goals try simp only [go_sem,simprocAttr])|((with_reducible refine (id ?_ : EvCall _ _ [.ptr 0 0,.ptr 1 0] _ _));refine EvCall.mk (h1) cal_functors [(0,3),(1,4),(2,5),(3,6),(4,7),(5,8),(6,9),(7,10)] [0,1] (by simp [go_sem] <;> (repeat' (first|rfl|constructor))) (by simp [go_sem] <;> (repeat' (first|rfl|constructor))) ?_;all_goals try simp only [go_sem,simprocAttr])|((with_reducible refine (id ?_ : EvCall _ _ [.ptr 0 0,.ptr 1 5] _ _));refine EvCall.mk (h2) cal_functors [] [0,1] (by simp [go_sem] <;> (repeat' (first|rfl|constructor))) (by simp [go_sem] <;> (repeat' (first|rfl|constructor))) ?_;all_goals try simp only [go_sem,simprocAttr])|(refine fun (hc : (_ : Bool) = _)=>?_;try simp only [hcS] at hc))
    all_goals try (first|(with_reducible assumption)|((try simp only [Cat.F,Cat.T,Cat.I,Cat.C,Fun.O,Fun.A,Cat.Entry,Int.toNat_natCast] at *);omega))
    all_goals ((first|refine ret_auto ?_|refine ret_auto' ?_);simp only [go_sem,simprocAttr,Tryz.f37])
  · have h1:=sp_functors_o sc hg.src hc hb.src (.inr ⟨y1,rfl,rfl⟩)
    by_cases y2 : FcY c g.tgt
    · have h2:=sp_functors_o sc hg.tgt hc hb.tgt (.inl ⟨y2,rfl,rfl⟩)
      refine spec_of_V (E:=TE) 0 Tryz.func37 rfl (by simp [Tryz.f37]) fun X hn hX=>?_
      repeat' (first|(with_reducible first|refine V_seq ?_|refine V_skip ?_|refine V_ret ?_)|((with_reducible refine V_cond ?_);simp only [go_sem,simprocAttr])|((refine V_region (by rw [hn];rfl) ?_);intro K hK)|((first|with_reducible refine evOps_n ?_|((with_reducible apply evOps_g);rfl));intro K hK;simp (contextual:=true) only [go_sem,simprocAttr])|with_reducible refine evOps_nil ?_|((with_reducible refine hK _ ?_);clear hK K)|(with_reducible first|refine And.intro ?_ ?_|refine nxt_n ?_|refine nxt_r ?_|refine inR_mk ?_ ?_)|((with_reducible refine evCall_at 76 ?_);refine EvCall.mk (v1) cal_Category_isCategory [] [0] (by simp [go_sem] <;> (repeat' (first|rfl|constructor))) (by simp [go_sem] <;> (repeat' (first|rfl|constructor))) ?_;all_goals try simp only [go_sem,simprocAttr])|((with_reducible refine evCall_at 75 ?_);refine EvCall.mk (v2) cal_Functor_isFunctor [] [1] (by simp [go_sem] <;> (repeat' (first|rfl|constructor))) (by simp [go_sem] <;> (repeat' (first|rfl|constructor))) ?_;all_goals try simp only [go_sem,simprocAttr])|((with_reducible refine (id ?_ : EvCall _ _ [.ptr 0 0,.ptr 1 0] _ _));refine EvCall.mk (h1) cal_functors [] [0,1] (by simp [go_sem] <;> (repeat' (first|rfl|constructor))) (by simp [go_sem] <;> (repeat' (first|rfl|constructor))) ?_;all_goals try simp only [go_sem,simprocAttr])|((with_reducible refine (id ?_ : EvCall _ _ [.ptr 0 0,.ptr 1 5] _ _));refine EvCall.mk (h2) cal_functors [(0,3),(1,4),(2,5),(3,6),(4,7),(5,8),(6,9),(7,10)] [0,1] (by simp [go_sem] <;> (repeat' (first|rfl|constructor))) (by simp [go_sem] <;> (repeat' (first|rfl|constructor))) ?_;all_goals try simp only [go_sem,simprocAttr])|(refine fun (hc : (_ : Bool) = _)=>?_;try simp only [hcS] at hc))
      all_goals try (first|(with_reducible assumption)|((try simp only [Cat.F,Cat.T,Cat.I,Cat.C,Fun.O,Fun.A,Cat.Entry,Int.toNat_natCast] at *);omega))
      all_goals ((first|refine ret_auto ?_|refine ret_auto' ?_);simp only [go_sem,simprocAttr,Tryz.f37])
    · have h2:=sp_functors_o sc hg.tgt hc hb.tgt (.inr ⟨y2,rfl,rfl⟩)
      refine spec_of_V (E:=TE) 0 Tryz.func37 rfl (by simp [Tryz.f37]) fun X hn hX=>?_
      repeat' (first|(with_reducible first|refine V_seq ?_|refine V_skip ?_|refine V_ret ?_)|((with_reducible refine V_cond ?_);simp only [go_sem,simprocAttr])|((refine V_region (by rw [hn];rfl) ?_);intro K hK)|((first|with_reducible refine evOps_n ?_|((with_reducible apply evOps_g);rfl));intro K hK;simp (contextual:=true) only [go_sem,simprocAttr])|with_reducible refine evOps_nil ?_|((with_reducible refine hK _ ?_);clear hK K)|(with_reducible first|refine And.intro ?_ ?_|refine nxt_n ?_|refine nxt_r ?_|refine inR_mk ?_ ?_)|((with_reducible refine evCall_at 76 ?_);refine EvCall.mk (v1) cal_Category_isCategory [] [0] (by simp [go_sem] <;> (repeat' (first|rfl|constructor))) (by simp [go_sem] <;> (repeat' (first|rfl|constructor))) ?_;all_goals try simp only [go_sem,simprocAttr])|((with_reducible refine evCall_at 75 ?_);refine EvCall.mk (v2) cal_Functor_isFunctor [] [1] (by simp [go_sem] <;> (repeat' (first|rfl|constructor))) (by simp [go_sem] <;> (repeat' (first|rfl|constructor))) ?_;all_goals try simp only [go_sem,simprocAttr])|((with_reducible refine (id ?_ : EvCall _ _ [.ptr 0 0,.ptr 1 0] _ _));refine EvCall.mk (h1) cal_functors [] [0,1] (by simp [go_sem] <;> (repeat' (first|rfl|constructor))) (by simp [go_sem] <;> (repeat' (first|rfl|constructor))) ?_;all_goals try simp only [go_sem,simprocAttr])|((with_reducible refine (id ?_ : EvCall _ _ [.ptr 0 0,.ptr 1 5] _ _));refine EvCall.mk (h2) cal_functors [] [0,1] (by simp [go_sem] <;> (repeat' (first|rfl|constructor))) (by simp [go_sem] <;> (repeat' (first|rfl|constructor))) ?_;all_goals try simp only [go_sem,simprocAttr])|(refine fun (hc : (_ : Bool) = _)=>?_;try simp only [hcS] at hc))
      all_goals try (first|(with_reducible assumption)|((try simp only [Cat.F,Cat.T,Cat.I,Cat.C,Fun.O,Fun.A,Cat.Entry,Int.toNat_natCast] at *);omega))
      all_goals ((first|refine ret_auto ?_|refine ret_auto' ?_);simp only [go_sem,simprocAttr,Tryz.f37])
theorem sp_ComposeBehind_yes {c : Cat} {g : Fun} (hc : CatB c) (hb : FunB g) (sc : IsCat c) (hg : IsFun g) (y1 : FcY c g.src) (y2 : FcY c g.tgt) : Spec Tryz.prog 37 [catV c,funV g] [] (.tup [.agg [iv (chF c g).src.ob,.sl 0,.sl 1,.sl 2,.sl 3,iv (chF c g).tgt.ob,.sl 4,.sl 5,.sl 6,.sl 7,.sl 8,.sl 9],iv 0]) [(0,⟨1,.arr (ints (chF c g).src.fr)⟩),(1,⟨1,.arr (ints (chF c g).src.to)⟩),(2,⟨1,.arr (ints (chF c g).src.id)⟩),(3,⟨1,.arr (intss (chF c g).src.co)⟩),(4,⟨1,.arr (ints (chF c g).tgt.fr)⟩),(5,⟨1,.arr (ints (chF c g).tgt.to)⟩),(6,⟨1,.arr (ints (chF c g).tgt.id)⟩),(7,⟨1,.arr (intss (chF c g).tgt.co)⟩),(8,⟨1,.arr (ints (chF c g).obs)⟩),(9,⟨1,.arr (ints (chF c g).ars)⟩)]:=by
  have v1:=ic_v hc (dec_t sc)
  have v2:=is_v hb (dec_t hg)
  have h1:=sp_functors_o sc hg.src hc hb.src (.inl ⟨y1,rfl,rfl⟩)
  have h2:=sp_functors_o sc hg.tgt hc hb.tgt (.inl ⟨y2,rfl,rfl⟩)
  have hfl : FL c g.src (fcL c g.src):=FL.of_funX
  have hbt:=sp_functorCategory_between (a7:=mapD Tryz.prog 9 2 (fcA (fcL c g.src)).length (pm (fcA (fcL c g.src)) (fcA (fcL c g.src)).length)) (F1:=82) (F2:=83) (cp1:=CbLC g) (cp2:=CbLC g) (fcK_b g.src y1.2.1 y1.2.2) (fcK_b g.tgt y2.2.1 y2.2.2) (ch_w sc hg y1 y2) cal_ComposeBehind_1 cal_ComposeBehind_2 (fun i hi=>sp_ComposeBehind_1 (ch_th sc hg hc hb.tgt hi)) (fun a ha=>by
    have hr:=hfl.arr (getD_mem (d:=[]) ha)
    have hw:=hfl.comp_d (getD_mem (d:=[]) ha)
    have o2:=hg.fits.arl
    have s40:=hg.src.toShape.m40
    have c8:=sc.toShape.ob8
    have hl:=hr.len
    have hd2 : (((fcA (fcL c g.src)).getD a []).drop 2).length = c.ob.toNat:=by rw [List.length_drop];omega
    exact sp_ComposeBehind_2 (by omega) (by omega) (by rw [o2];exact hw))
  rw [CbLC_l] at hbt
  have eF : chF c g = ⟨fcK g.src (fcL c g.src),fcK g.tgt (fcL c g.tgt),btO (fun i=>fcAt (fcL c g.tgt) (chP c g i) (chQ c g i)) (fcL c g.src).length,btA (fun i=>fcAt (fcL c g.tgt) (chP c g i) (chQ c g i)) (fcA (fcL c g.src)) (fcA (fcL c g.tgt)) (fun a=>thn (((fcA (fcL c g.src)).getD a []).drop 2) g.ars) (fcA (fcL c g.src)).length⟩:=rfl
  rw [eF]
  refine spec_of_V (E:=TE) 0 Tryz.func37 rfl (by simp [Tryz.f37]) fun X hn hX=>?_
  repeat' (first|(with_reducible first|refine V_seq ?_|refine V_skip ?_|refine V_ret ?_)|((with_reducible refine V_cond ?_);simp only [go_sem,simprocAttr])|((refine V_region (by rw [hn];rfl) ?_);intro K hK)|((first|with_reducible refine evOps_n ?_|((with_reducible apply evOps_g);rfl));intro K hK;simp (contextual:=true) only [go_sem,simprocAttr])|with_reducible refine evOps_nil ?_|((with_reducible refine hK _ ?_);clear hK K)|(with_reducible first|refine And.intro ?_ ?_|refine nxt_n ?_|refine nxt_r ?_|refine inR_mk ?_ ?_)|((with_reducible refine evCall_at 76 ?_);refine EvCall.mk (v1) cal_Category_isCategory [] [0] (by simp [go_sem] <;> (repeat' (first|rfl|constructor))) (by simp [go_sem] <;> (repeat' (first|rfl|constructor))) ?_;all_goals try simp only [go_sem,simprocAttr])|((with_reducible refine evCall_at 75 ?_);refine EvCall.mk (v2) cal_Functor_isFunctor [] [1] (by simp [go_sem] <;> (repeat' (first|rfl|constructor))) (by simp [go_sem] <;> (repeat' (first|rfl|constructor))) ?_;all_goals try simp only [go_sem,simprocAttr])|((with_reducible refine (id ?_ : EvCall _ _ [.ptr 0 0,.ptr 1 0] _ _));refine EvCall.mk (h1) cal_functors [(0,3),(1,4),(2,5),(3,6),(4,7),(5,8),(6,9),(7,10)] [0,1] (by simp [go_sem] <;> (repeat' (first|rfl|constructor))) (by simp [go_sem] <;> (repeat' (first|rfl|constructor))) ?_;all_goals try simp only [go_sem,simprocAttr])|((with_reducible refine (id ?_ : EvCall _ _ [.ptr 0 0,.ptr 1 5] _ _));refine EvCall.mk (h2) cal_functors [(0,11),(1,12),(2,13),(3,14),(4,15),(5,16),(6,17),(7,18)] [0,1] (by simp [go_sem] <;> (repeat' (first|rfl|constructor))) (by simp [go_sem] <;> (repeat' (first|rfl|constructor))) ?_;all_goals try simp only [go_sem,simprocAttr])|((with_reducible refine evCall_at 77 ?_);refine EvCall.mk (hbt) cal_functorCategory_between [(0,19),(1,20),(2,21),(3,22),(4,23),(5,24),(6,25),(7,26),(8,27),(9,28)] [1,3,4,5,6,7,8,9,10,11,12,13,14,15,16,17,18] (by simp [go_sem] <;> (repeat' (first|rfl|constructor))) (by simp [go_sem] <;> (repeat' (first|rfl|constructor))) ?_;all_goals try simp only [go_sem,simprocAttr])|(refine fun (hc : (_ : Bool) = _)=>?_;try simp only [hcS] at hc))
  all_goals try (first|(with_reducible assumption)|((try simp only [Cat.F,Cat.T,Cat.I,Cat.C,Fun.O,Fun.A,Cat.Entry,Int.toNat_natCast] at *);omega))
  (first|refine ret_auto ?_|refine ret_auto' ?_);simp only [go_sem,simprocAttr,Tryz.f37]
end Go.Eng
end
section
namespace Go.Eng
open Go Go.Proofs Go.Cats
attribute [local go_sem] List.set_cons_zero List.set_cons_succ btO_zero btA_zero
theorem cal_spec_ComposeBehind : Callable Tryz.prog 36:=⟨_,Tryz.func36,rfl,rfl⟩
theorem sp_spec_ComposeBehind_bad {c : Cat} {g : Fun} (hc : CatB c) (hb : FunB g) (h : ¬ (IsCat c ∧ IsFun g)) : Spec Tryz.prog 36 [catV c,funV g] [] (.tup [.agg [iv 0,.v (.slice none 0 0),.v (.slice none 0 0),.v (.slice none 0 0),.v (.slice none 0 0),iv 0,.v (.slice none 0 0),.v (.slice none 0 0),.v (.slice none 0 0),.v (.slice none 0 0),.v (.slice none 0 0),.v (.slice none 0 0)],iv 1]) []:=by
  by_cases h1 : IsCat c
  · have h2 : ¬ IsFun g:=fun q=>h ⟨h1,q⟩
    have v1:=sp_l02Is_v hc (dec_t h1)
    have v2:=sp_l06Is_v hb (dec_f h2)
    refine spec_of_V (E:=TE) 0 Tryz.func36 rfl (by simp [Tryz.f36]) fun X hn hX=>?_
    repeat' (first|(with_reducible first|refine V_seq ?_|refine V_block ?_|refine V_skip ?_|refine V_ret ?_|refine V_exit ?_)|((with_reducible refine V_cond ?_);simp only [go_sem,simprocAttr])|((first|refine V_region (by rw [hn];rfl) ?_|refine V_drawn hmix (by rw [hn];rfl) ?_);intro K hK)|((first|with_reducible refine evOps_n ?_|((with_reducible apply evOps_g);rfl)|with_reducible refine evOpsD_n ?_|((with_reducible apply evOpsD_g);rfl));intro K hK;simp (contextual:=true) only [go_sem,simprocAttr])|with_reducible refine evOps_nil ?_|((with_reducible refine evOpsD_nil ?_ ?_);kernel_rfl)|((with_reducible refine hK _ ?_);clear hK K)|(with_reducible first|refine And.intro ?_ ?_|refine nxt_n ?_|refine nxt_r ?_|refine nxt_e ?_|refine blk_n ?_|refine blk_r ?_|refine blk_same ?_|refine blk_other (by decide) ?_|refine noG_n ?_|refine noG_r ?_|refine noG_e ?_|refine inR_mk ?_ ?_)|((with_reducible refine evCall_at 51 ?_);refine EvCall.mk (v1) cal_l02Is [] [] (by simp [go_sem] <;> (repeat' (first|rfl|constructor))) (by simp [go_sem] <;> (repeat' (first|rfl|constructor))) ?_;all_goals try simp only [go_sem,simprocAttr])|((with_reducible refine evCall_at 71 ?_);refine EvCall.mk (v2) cal_l06Is [] [] (by simp [go_sem] <;> (repeat' (first|rfl|constructor))) (by simp [go_sem] <;> (repeat' (first|rfl|constructor))) ?_;all_goals try simp only [go_sem,simprocAttr])|(refine fun (hc : (_ : Bool) = _)=>?_;try simp only [hcS] at hc))
    all_goals try (first|(with_reducible assumption)|((try simp only [Cat.F,Cat.T,Cat.I,Cat.C,Fun.O,Fun.A,Cat.Entry,Int.toNat_natCast] at *);omega))
    all_goals ((first|refine ret_auto ?_|refine ret_auto' ?_);simp only [go_sem,simprocAttr,Tryz.f36])
  · have v1:=sp_l02Is_v hc (dec_f h1)
    refine spec_of_V (E:=TE) 0 Tryz.func36 rfl (by simp [Tryz.f36]) fun X hn hX=>?_
    repeat' (first|(with_reducible first|refine V_seq ?_|refine V_block ?_|refine V_skip ?_|refine V_ret ?_|refine V_exit ?_)|((with_reducible refine V_cond ?_);simp only [go_sem,simprocAttr])|((first|refine V_region (by rw [hn];rfl) ?_|refine V_drawn hmix (by rw [hn];rfl) ?_);intro K hK)|((first|with_reducible refine evOps_n ?_|((with_reducible apply evOps_g);rfl)|with_reducible refine evOpsD_n ?_|((with_reducible apply evOpsD_g);rfl));intro K hK;simp (contextual:=true) only [go_sem,simprocAttr])|with_reducible refine evOps_nil ?_|((with_reducible refine evOpsD_nil ?_ ?_);kernel_rfl)|((with_reducible refine hK _ ?_);clear hK K)|(with_reducible first|refine And.intro ?_ ?_|refine nxt_n ?_|refine nxt_r ?_|refine nxt_e ?_|refine blk_n ?_|refine blk_r ?_|refine blk_same ?_|refine blk_other (by decide) ?_|refine noG_n ?_|refine noG_r ?_|refine noG_e ?_|refine inR_mk ?_ ?_)|((with_reducible refine evCall_at 51 ?_);refine EvCall.mk (v1) cal_l02Is [] [] (by simp [go_sem] <;> (repeat' (first|rfl|constructor))) (by simp [go_sem] <;> (repeat' (first|rfl|constructor))) ?_;all_goals try simp only [go_sem,simprocAttr])|(refine fun (hc : (_ : Bool) = _)=>?_;try simp only [hcS] at hc))
    all_goals try (first|(with_reducible assumption)|((try simp only [Cat.F,Cat.T,Cat.I,Cat.C,Fun.O,Fun.A,Cat.Entry,Int.toNat_natCast] at *);omega))
    all_goals ((first|refine ret_auto ?_|refine ret_auto' ?_);simp only [go_sem,simprocAttr,Tryz.f36])
theorem sp_spec_ComposeBehind_no {c : Cat} {g : Fun} (hc : CatB c) (hb : FunB g) (sc : IsCat c) (hg : IsFun g) (h : ¬ (FcY c g.src ∧ FcY c g.tgt)) : Spec Tryz.prog 36 [catV c,funV g] [] (.tup [.agg [iv 0,.v (.slice none 0 0),.v (.slice none 0 0),.v (.slice none 0 0),.v (.slice none 0 0),iv 0,.v (.slice none 0 0),.v (.slice none 0 0),.v (.slice none 0 0),.v (.slice none 0 0),.v (.slice none 0 0),.v (.slice none 0 0)],iv 3]) []:=by
  have v1:=sp_l02Is_v hc (dec_t sc)
  have v2:=sp_l06Is_v hb (dec_t hg)
  have hbo:=sp_l08Both_no sc hg.src sc hg.tgt hc hb.src hc hb.tgt h
  refine spec_of_V (E:=TE) 0 Tryz.func36 rfl (by simp [Tryz.f36]) fun X hn hX=>?_
  repeat' (first|(with_reducible first|refine V_seq ?_|refine V_block ?_|refine V_skip ?_|refine V_ret ?_|refine V_exit ?_)|((with_reducible refine V_cond ?_);simp only [go_sem,simprocAttr])|((first|refine V_region (by rw [hn];rfl) ?_|refine V_drawn hmix (by rw [hn];rfl) ?_);intro K hK)|((first|with_reducible refine evOps_n ?_|((with_reducible apply evOps_g);rfl)|with_reducible refine evOpsD_n ?_|((with_reducible apply evOpsD_g);rfl));intro K hK;simp (contextual:=true) only [go_sem,simprocAttr])|with_reducible refine evOps_nil ?_|((with_reducible refine evOpsD_nil ?_ ?_);kernel_rfl)|((with_reducible refine hK _ ?_);clear hK K)|(with_reducible first|refine And.intro ?_ ?_|refine nxt_n ?_|refine nxt_r ?_|refine nxt_e ?_|refine blk_n ?_|refine blk_r ?_|refine blk_same ?_|refine blk_other (by decide) ?_|refine noG_n ?_|refine noG_r ?_|refine noG_e ?_|refine inR_mk ?_ ?_)|((with_reducible refine evCall_at 51 ?_);refine EvCall.mk (v1) cal_l02Is [] [] (by simp [go_sem] <;> (repeat' (first|rfl|constructor))) (by simp [go_sem] <;> (repeat' (first|rfl|constructor))) ?_;all_goals try simp only [go_sem,simprocAttr])|((with_reducible refine evCall_at 71 ?_);refine EvCall.mk (v2) cal_l06Is [] [] (by simp [go_sem] <;> (repeat' (first|rfl|constructor))) (by simp [go_sem] <;> (repeat' (first|rfl|constructor))) ?_;all_goals try simp only [go_sem,simprocAttr])|((with_reducible refine evCall_at 72 ?_);refine EvCall.mk (hbo) cal_l08Both [] [] (by simp [go_sem] <;> (repeat' (first|rfl|constructor))) (by simp [go_sem] <;> (repeat' (first|rfl|constructor))) ?_;all_goals try simp only [go_sem,simprocAttr])|(refine fun (hc : (_ : Bool) = _)=>?_;try simp only [hcS] at hc))
  all_goals try (first|(with_reducible assumption)|((try simp only [Cat.F,Cat.T,Cat.I,Cat.C,Fun.O,Fun.A,Cat.Entry,Int.toNat_natCast] at *);omega))
  all_goals ((first|refine ret_auto ?_|refine ret_auto' ?_);simp only [go_sem,simprocAttr,Tryz.f36])
theorem sp_spec_ComposeBehind_yes {c : Cat} {g : Fun} (hc : CatB c) (hb : FunB g) (sc : IsCat c) (hg : IsFun g) (y1 : FcY c g.src) (y2 : FcY c g.tgt) : Spec Tryz.prog 36 [catV c,funV g] [] (.tup [.agg [iv (chF c g).src.ob,.sl 0,.sl 1,.sl 2,.sl 3,iv (chF c g).tgt.ob,.sl 4,.sl 5,.sl 6,.sl 7,.sl 8,.sl 9],iv 0]) [(0,⟨1,.arr (ints (chF c g).src.fr)⟩),(1,⟨1,.arr (ints (chF c g).src.to)⟩),(2,⟨1,.arr (ints (chF c g).src.id)⟩),(3,⟨1,.arr (intss (chF c g).src.co)⟩),(4,⟨1,.arr (ints (chF c g).tgt.fr)⟩),(5,⟨1,.arr (ints (chF c g).tgt.to)⟩),(6,⟨1,.arr (ints (chF c g).tgt.id)⟩),(7,⟨1,.arr (intss (chF c g).tgt.co)⟩),(8,⟨1,.arr (ints (chF c g).obs)⟩),(9,⟨1,.arr (ints (chF c g).ars)⟩)]:=by
  have v1:=sp_l02Is_v hc (dec_t sc)
  have v2:=sp_l06Is_v hb (dec_t hg)
  have hbo:=sp_l08Both_yes sc hg.src sc hg.tgt hc hb.src hc hb.tgt y1 y2
  have bc:=hc
  have bt:=hb.tgt
  have hfl : FL c g.src (fcL c g.src):=FL.of_funX
  have hfl2 : FL c g.tgt (fcL c g.tgt):=FL.of_funX
  have hw:=ch_w sc hg y1 y2
  have o2:=hg.fits.arl
  have o3:=hg.fits.arw
  have s8:=sc.toShape.ob8
  have s0:=sc.toShape.ob0
  have s40:=hg.src.toShape.m40
  have hrw : ∀ a,a < (fcA (fcL c g.tgt)).length → ((fcA (fcL c g.tgt)).getD a []).length ≤ 1048576:=fun a ha=>by have:=(hfl2.arr (getD_mem (d:=[]) ha)).len;omega
  have hcw : ∀ a,a < (fcA (fcL c g.src)).length → Within (((fcA (fcL c g.src)).getD a []).drop 2) g.ars.length:=fun a ha=>by rw [o2];exact hfl.comp_d (getD_mem (d:=[]) ha)
  have hfu:=sp_l06Make (c:=fcK g.src (fcL c g.src)) (d:=fcK g.tgt (fcL c g.tgt)) (p:=btO (fun i=>fcAt (fcL c g.tgt) (chP c g i) (chQ c g i)) (fcL c g.src).length) (q:=btA (fun i=>fcAt (fcL c g.tgt) (chP c g i) (chQ c g i)) (fcA (fcL c g.src)) (fcA (fcL c g.tgt)) (fun a=>thn (((fcA (fcL c g.src)).getD a []).drop 2) g.ars) (fcA (fcL c g.src)).length) (fcK_b g.src y1.2.1 y1.2.2) (fcK_b g.tgt y2.2.1 y2.2.2) (by rw [btO_len];have:=y1.2.1;omega) (by rw [btA_len];have:=y1.2.2;omega)
  have hth : ∀ i,i < (fcL c g.src).length → ThF ((fcL c g.src).getD i default) g:=fun i hi=>ch_th sc hg bc bt hi
  have eF : chF c g = ⟨fcK g.src (fcL c g.src),fcK g.tgt (fcL c g.tgt),btO (fun i=>fcAt (fcL c g.tgt) (chP c g i) (chQ c g i)) (fcL c g.src).length,btA (fun i=>fcAt (fcL c g.tgt) (chP c g i) (chQ c g i)) (fcA (fcL c g.src)) (fcA (fcL c g.tgt)) (fun a=>thn (((fcA (fcL c g.src)).getD a []).drop 2) g.ars) (fcA (fcL c g.src)).length⟩:=rfl
  rw [eF]
  obtain ⟨pl,hpl⟩ : ∃ pl : Nat → Nat,(fun i=>fcAt (fcL c g.tgt) (chP c g i) (chQ c g i)) = pl:=⟨_,rfl⟩
  rw [hpl] at hw hfu ⊢
  obtain ⟨L,hL⟩ : ∃ L,fcL c g.src = L:=⟨_,rfl⟩
  rw [hL] at hfl hw hfu hth hbo hcw ⊢
  have hL8:=hw.l8
  have hA40:=hw.a40
  have hA2:=y2.2.2
  have hpart : ∀ i,i < L.length → (funsD L).part (i * 12) 12 = [.v (.int .i64 (L.getD i default).src.ob),ints (L.getD i default).src.fr,ints (L.getD i default).src.to,ints (L.getD i default).src.id,intss (L.getD i default).src.co,.v (.int .i64 (L.getD i default).tgt.ob),ints (L.getD i default).tgt.fr,ints (L.getD i default).tgt.to,ints (L.getD i default).tgt.id,intss (L.getD i default).tgt.co,ints (L.getD i default).obs,ints (L.getD i default).ars]:=fun i hi=>funs_part L i hi
  refine spec_of_V (E:=TE) 0 Tryz.func36 rfl (by simp [Tryz.f36]) fun X hn hX=>?_
  repeat' (first|(with_reducible first|refine V_seq ?_|refine V_block ?_|refine V_skip ?_|refine V_ret ?_|refine V_exit ?_)|((with_reducible refine V_cond ?_);simp only [go_sem,simprocAttr])|((first|refine V_region (by rw [hn];rfl) ?_|refine V_drawn hmix (by rw [hn];rfl) ?_);intro K hK)|((first|with_reducible refine evOps_n ?_|((with_reducible apply evOps_g);rfl)|with_reducible refine evOpsD_n ?_|((with_reducible apply evOpsD_g);rfl));intro K hK;simp (contextual:=true) only [go_sem,simprocAttr])|with_reducible refine evOps_nil ?_|((with_reducible refine evOpsD_nil ?_ ?_);kernel_rfl)|((with_reducible refine hK _ ?_);clear hK K)|(with_reducible first|refine And.intro ?_ ?_|refine nxt_n ?_|refine nxt_r ?_|refine nxt_e ?_|refine blk_n ?_|refine blk_r ?_|refine blk_same ?_|refine blk_other (by decide) ?_|refine noG_n ?_|refine noG_r ?_|refine noG_e ?_|refine inR_mk ?_ ?_)|((with_reducible refine evCall_at 51 ?_);refine EvCall.mk (v1) cal_l02Is [] [] (by simp [go_sem] <;> (repeat' (first|rfl|constructor))) (by simp [go_sem] <;> (repeat' (first|rfl|constructor))) ?_;all_goals try simp only [go_sem,simprocAttr])|((with_reducible refine evCall_at 71 ?_);refine EvCall.mk (v2) cal_l06Is [] [] (by simp [go_sem] <;> (repeat' (first|rfl|constructor))) (by simp [go_sem] <;> (repeat' (first|rfl|constructor))) ?_;all_goals try simp only [go_sem,simprocAttr])|((with_reducible refine evCall_at 72 ?_);refine EvCall.mk (hbo) cal_l08Both [(0,3),(1,4),(2,5),(3,6),(4,7),(5,8),(6,9),(7,10),(8,11),(9,12),(10,13),(11,14)] [] (by simp [go_sem] <;> (repeat' (first|rfl|constructor))) (by simp [go_sem] <;> (repeat' (first|rfl|constructor))) ?_;all_goals try simp only [go_sem,simprocAttr])|(refine fun (hc : (_ : Bool) = _)=>?_;try simp only [hcS] at hc))
  all_goals try (first|(with_reducible assumption)|((try simp only [Cat.F,Cat.T,Cat.I,Cat.C,Fun.O,Fun.A,Cat.Entry,Int.toNat_natCast] at *);omega))
  refine V_loopK (G:={i : Nat // i ≤ L.length ∧ (True)}) (fun ⟨i,_⟩=>[(11,iv i),(2,.ptr 0 0),(6,.ptr 15 0),(7,.ptr 16 0),(9,.sl 17),(10,.sl 18)]) [3,4,5] (fun ⟨i,_⟩=>[(17,⟨1,.arr (ints (btO pl i))⟩),(18,⟨1,.arr (ints [])⟩)]) [17,18] (fun zz=>L.length - zz.1) ⟨0,Nat.zero_le _,by first|trivial|simp⟩ ?_ ?_
  · exact Imp.auto hX (by simp [go_sem,simprocAttr])
  rintro ⟨i,hii,hwi⟩
  simp only [go_sem,simprocAttr]
  have hol:=btO_len (pl:=pl) (i:=i)
  rcases Nat.lt_or_ge i L.length with hli | hgi
  · have hpi:=hpart i hli
    have h1i:=sp_l06Then (hth i hli)
    have e1:=btO_succ (pl:=pl) (i:=i)
    have hal : (thF (L.getD i default) g).ars.length ≤ 64:=by show (thn (L.getD i default).ars g.ars).length ≤ 64;rw [thn_len];have:=(hfl i hli).2.2.arl;rw [(hfl i hli).1] at this;have:=sc.toShape.m40;omega
    have ho:=sp_l08Object (ob:=((fcL c g.tgt).length : Int)) (fr:=(fcK g.tgt (fcL c g.tgt)).fr) (to:=(fcK g.tgt (fcL c g.tgt)).to) (id:=(fcK g.tgt (fcL c g.tgt)).id) (co:=(fcK g.tgt (fcL c g.tgt)).co) (A:=fcA (fcL c g.tgt)) (g:=thF (L.getD i default) g) (hw.ob i hli) hal
    repeat' (first|(rw [hpi];simp only [go_sem,simprocAttr])|(with_reducible first|refine V_seq ?_|refine V_block ?_|refine V_skip ?_|refine V_ret ?_|refine V_exit ?_)|((with_reducible refine V_cond ?_);simp only [go_sem,simprocAttr])|((first|refine V_region (by rw [hn];rfl) ?_|refine V_drawn hmix (by rw [hn];rfl) ?_);intro K hK)|((first|with_reducible refine evOps_n ?_|((with_reducible apply evOps_g);rfl)|with_reducible refine evOpsD_n ?_|((with_reducible apply evOpsD_g);rfl));intro K hK;simp (contextual:=true) only [go_sem,simprocAttr])|with_reducible refine evOps_nil ?_|((with_reducible refine evOpsD_nil ?_ ?_);kernel_rfl)|((with_reducible refine hK _ ?_);clear hK K)|(with_reducible first|refine And.intro ?_ ?_|refine nxt_n ?_|refine nxt_r ?_|refine nxt_e ?_|refine blk_n ?_|refine blk_r ?_|refine blk_same ?_|refine blk_other (by decide) ?_|refine noG_n ?_|refine noG_r ?_|refine noG_e ?_|refine inR_mk ?_ ?_)|((with_reducible refine evCall_at 73 ?_);refine EvCall.mk (h1i) cal_l06Then [(0,19),(1,20),(2,21),(3,22),(4,23),(5,24),(6,25),(7,26),(8,27),(9,28)] [7] (by simp [go_sem] <;> (repeat' (first|rfl|constructor))) (by simp [go_sem] <;> (repeat' (first|rfl|constructor))) ?_;all_goals try simp only [go_sem,simprocAttr])|((with_reducible refine evCall_at 64 ?_);refine EvCall.mk (ho) cal_l08Object [] [9,10,11,12,13,14,19,20,21,22,23,24,25,26,27,28] (by simp [go_sem] <;> (repeat' (first|rfl|constructor))) (by simp [go_sem] <;> (repeat' (first|rfl|constructor))) ?_;all_goals try simp only [go_sem,simprocAttr])|(refine fun (hc : (_ : Bool) = _)=>?_;try simp only [hcS] at hc))
    all_goals try (first|(with_reducible assumption)|((try simp only [Cat.F,Cat.T,Cat.I,Cat.C,Fun.O,Fun.A,Cat.Entry,Int.toNat_natCast] at *);omega))
    · refine ⟨⟨i + 1,by omega,(by trivial)⟩,by simp only;omega,Imp.auto hX (by simp only [go_sem,simprocAttr,e1])⟩
  · have ei : i = L.length:=by omega
    subst ei
    repeat' (first|(with_reducible first|refine V_seq ?_|refine V_block ?_|refine V_skip ?_|refine V_ret ?_|refine V_exit ?_)|((with_reducible refine V_cond ?_);simp only [go_sem,simprocAttr])|((first|refine V_region (by rw [hn];rfl) ?_|refine V_drawn hmix (by rw [hn];rfl) ?_);intro K hK)|((first|with_reducible refine evOps_n ?_|((with_reducible apply evOps_g);rfl)|with_reducible refine evOpsD_n ?_|((with_reducible apply evOpsD_g);rfl));intro K hK;simp (contextual:=true) only [go_sem,simprocAttr])|with_reducible refine evOps_nil ?_|((with_reducible refine evOpsD_nil ?_ ?_);kernel_rfl)|((with_reducible refine hK _ ?_);clear hK K)|(with_reducible first|refine And.intro ?_ ?_|refine nxt_n ?_|refine nxt_r ?_|refine nxt_e ?_|refine blk_n ?_|refine blk_r ?_|refine blk_same ?_|refine blk_other (by decide) ?_|refine noG_n ?_|refine noG_r ?_|refine noG_e ?_|refine inR_mk ?_ ?_)|(refine fun (hc : (_ : Bool) = _)=>?_;try simp only [hcS] at hc))
    all_goals try (first|(with_reducible assumption)|((try simp only [Cat.F,Cat.T,Cat.I,Cat.C,Fun.O,Fun.A,Cat.Entry,Int.toNat_natCast] at *);omega))
    refine V_loopK (G:={a : Nat // a ≤ (fcA L).length ∧ (True)}) (fun ⟨a,_⟩=>[(12,iv a),(2,.ptr 0 0),(6,.ptr 15 0),(7,.ptr 16 0),(9,.sl 17),(10,.sl 18)]) [3,4,5] (fun ⟨a,_⟩=>[(17,⟨1,.arr (ints (btO pl L.length))⟩),(18,⟨1,.arr (ints (btA pl (fcA L) (fcA (fcL c g.tgt)) (fun a=>thn (((fcA L).getD a []).drop 2) g.ars) a))⟩)]) [17,18] (fun zz=>(fcA L).length - zz.1) ⟨0,Nat.zero_le _,by first|trivial|simp⟩ ?_ ?_
    · exact Imp.auto hX (by simp [go_sem,simprocAttr])
    rintro ⟨a,hia,hwa⟩
    simp only [go_sem,simprocAttr]
    have hal:=btA_len (pl:=pl) (A:=fcA L) (A2:=fcA (fcL c g.tgt)) (cm:=fun a=>thn (((fcA L).getD a []).drop 2) g.ars) (a:=a)
    rcases Nat.lt_or_ge a (fcA L).length with hla | hga
    · obtain ⟨a1,a2,a3,a4⟩:=hw.ar a hla
      have hr:=hfl.arr (getD_mem (d:=[]) hla)
      have hlen:=hr.len
      have hd2 : (((fcA L).getD a []).drop 2).length = c.ob.toNat:=by rw [List.length_drop];omega
      have p1:=btO_at (pl:=pl) a3.2
      have p2:=btO_at (pl:=pl) a4.2
      have hth2:=sp_l01Then (f:=((fcA L).getD a []).drop 2) (g:=g.ars) (by omega) (by omega) (hcw a hla)
      have htl:=thn_len (((fcA L).getD a []).drop 2) g.ars
      have har:=sp_l08Arrow (ob:=((fcL c g.tgt).length : Int)) (fr:=(fcK g.tgt (fcL c g.tgt)).fr) (to:=(fcK g.tgt (fcL c g.tgt)).to) (id:=(fcK g.tgt (fcL c g.tgt)).id) (co:=(fcK g.tgt (fcL c g.tgt)).co) (L:=fcA (fcL c g.tgt)) (F:=fcL c g.tgt) (i:=(pl (((fcA L).getD a []).getD 0 0).toNat : Int)) (j:=(pl (((fcA L).getD a []).getD 1 0).toNat : Int)) (p:=thn (((fcA L).getD a []).drop 2) g.ars) (by omega) hrw (by omega)
      have e2 : btA pl (fcA L) (fcA (fcL c g.tgt)) (fun a=>thn (((fcA L).getD a []).drop 2) g.ars) (a + 1) = btA pl (fcA L) (fcA (fcL c g.tgt)) (fun a=>thn (((fcA L).getD a []).drop 2) g.ars) a ++ [fnd (fcA (fcL c g.tgt)) ((pl (((fcA L).getD a []).getD 0 0).toNat : Int) :: (pl (((fcA L).getD a []).getD 1 0).toNat : Int) :: thn (((fcA L).getD a []).drop 2) g.ars)]:=btA_succ
      repeat' (first|(rw [p1];simp only [go_sem,simprocAttr])|(rw [p2];simp only [go_sem,simprocAttr])|(with_reducible first|refine V_seq ?_|refine V_block ?_|refine V_skip ?_|refine V_ret ?_|refine V_exit ?_)|((with_reducible refine V_cond ?_);simp only [go_sem,simprocAttr])|((first|refine V_region (by rw [hn];rfl) ?_|refine V_drawn hmix (by rw [hn];rfl) ?_);intro K hK)|((first|with_reducible refine evOps_n ?_|((with_reducible apply evOps_g);rfl)|with_reducible refine evOpsD_n ?_|((with_reducible apply evOpsD_g);rfl));intro K hK;simp (contextual:=true) only [go_sem,simprocAttr])|with_reducible refine evOps_nil ?_|((with_reducible refine evOpsD_nil ?_ ?_);kernel_rfl)|((with_reducible refine hK _ ?_);clear hK K)|(with_reducible first|refine And.intro ?_ ?_|refine nxt_n ?_|refine nxt_r ?_|refine nxt_e ?_|refine blk_n ?_|refine blk_r ?_|refine blk_same ?_|refine blk_other (by decide) ?_|refine noG_n ?_|refine noG_r ?_|refine noG_e ?_|refine inR_mk ?_ ?_)|((with_reducible refine evCall_at 74 ?_);refine EvCall.mk (hth2) cal_l01Then [(0,19)] [8] (by simp [go_sem] <;> (repeat' (first|rfl|constructor))) (by simp [go_sem] <;> (repeat' (first|rfl|constructor))) ?_;all_goals try simp only [go_sem,simprocAttr])|((with_reducible refine evCall_at 66 ?_);refine EvCall.mk (har) cal_l08Arrow [] [9,10,11,12,13,14,19] (by simp [go_sem] <;> (repeat' (first|rfl|constructor))) (by simp [go_sem] <;> (repeat' (first|rfl|constructor))) ?_;all_goals try simp only [go_sem,simprocAttr])|(refine hook_drop (n:=2) rfl rfl (by simp [go_sem,simprocAttr]) rfl (by omega) ?_;simp only [go_sem,simprocAttr])|(refine fun (hc : (_ : Bool) = _)=>?_;try simp only [hcS] at hc))
      all_goals try (first|(with_reducible assumption)|((try simp only [Cat.F,Cat.T,Cat.I,Cat.C,Fun.O,Fun.A,Cat.Entry,Int.toNat_natCast] at *);omega))
      · refine ⟨⟨a + 1,by omega,(by trivial)⟩,by simp only;omega,Imp.auto hX (by simp only [go_sem,simprocAttr,e2])⟩
    · have ea : a = (fcA L).length:=by omega
      subst ea
      repeat' (first|(with_reducible first|refine V_seq ?_|refine V_block ?_|refine V_skip ?_|refine V_ret ?_|refine V_exit ?_)|((with_reducible refine V_cond ?_);simp only [go_sem,simprocAttr])|((first|refine V_region (by rw [hn];rfl) ?_|refine V_drawn hmix (by rw [hn];rfl) ?_);intro K hK)|((first|with_reducible refine evOps_n ?_|((with_reducible apply evOps_g);rfl)|with_reducible refine evOpsD_n ?_|((with_reducible apply evOpsD_g);rfl));intro K hK;simp (contextual:=true) only [go_sem,simprocAttr])|with_reducible refine evOps_nil ?_|((with_reducible refine evOpsD_nil ?_ ?_);kernel_rfl)|((with_reducible refine hK _ ?_);clear hK K)|(with_reducible first|refine And.intro ?_ ?_|refine nxt_n ?_|refine nxt_r ?_|refine nxt_e ?_|refine blk_n ?_|refine blk_r ?_|refine blk_same ?_|refine blk_other (by decide) ?_|refine noG_n ?_|refine noG_r ?_|refine noG_e ?_|refine inR_mk ?_ ?_)|((with_reducible refine evCall_at 61 ?_);refine EvCall.mk (hfu) cal_l06Make [(0,19),(1,20),(2,21),(3,22),(4,23),(5,24),(6,25),(7,26),(8,27),(9,28)] [3,4,5,6,9,10,11,12,17,18] (by simp [go_sem] <;> (repeat' (first|rfl|constructor))) (by simp [go_sem] <;> (repeat' (first|rfl|constructor))) ?_;all_goals try simp only [go_sem,simprocAttr])|(refine fun (hc : (_ : Bool) = _)=>?_;try simp only [hcS] at hc))
      all_goals try (first|(with_reducible assumption)|((try simp only [Cat.F,Cat.T,Cat.I,Cat.C,Fun.O,Fun.A,Cat.Entry,Int.toNat_natCast] at *);omega))
      · (first|refine ret_auto ?_|refine ret_auto' ?_);simp only [go_sem,simprocAttr,Tryz.f36]
end Go.Eng
end
