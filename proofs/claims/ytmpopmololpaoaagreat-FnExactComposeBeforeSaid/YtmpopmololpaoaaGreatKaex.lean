/- Several texts in one: R23, R24. -/
import Derived.Test.YtmpopmololpaoaaGreatKdx
import Derived.Test.YtmpopmololpaoaaGreatKadx
set_option linter.unusedSimpArgs false
set_option linter.unusedVariables false
set_option maxRecDepth 100000
set_option maxHeartbeats 16000000
section
namespace Go.Eng
open Go Go.Proofs Go.Cats
theorem fc_at {c d : Cat} {p q : List Int} {i : Nat} (h : ObOK (fcL c d) p q i) : (fcL c d).getD i default = ⟨c,d,p,q⟩:=by
  have hfl : FL c d (fcL c d):=FL.of_funX
  obtain ⟨h1,h2,_⟩:=hfl i h.lt
  rw [← Fun.eta h1 h2,h.po,h.qo]
theorem bt_mk {c d c' d' : Cat} (sc : IsCat c) (sd : IsCat d) (sc' : IsCat c') (sd' : IsCat d') (hy : FcY c d) (hy' : FcY c' d') {P Q : Nat → List Int} {T : List Int → List Int} {img : Nat → Fun}
    (hi : ∀ i,(img i).obs = P i ∧ (img i).ars = Q i) (hf : ∀ i,i < (fcL c d).length → Fits ⟨c',d',P i,Q i⟩)
    (hn : ∀ i j t,i < (fcL c d).length → j < (fcL c d).length → t ∈ natA ((fcL c d).getD i default) ((fcL c d).getD j default) → T t ∈ natA ⟨c',d',P i,Q i⟩ ⟨c',d',P j,Q j⟩) :
    BtW (fcL c d) (fcL c' d') (fcA (fcL c d)) (fcA (fcL c' d')) (fun i=>fcAt (fcL c' d') (P i) (Q i)) (fun a=>T (((fcA (fcL c d)).getD a []).drop 2)) img:=by
  have hfl : FL c d (fcL c d):=FL.of_funX
  have hfl' : FL c' d' (fcL c' d'):=FL.of_funX
  have c8:=sc.toShape.ob8
  have c8':=sc'.toShape.ob8
  have hob : ∀ i,i < (fcL c d).length → ObOK (fcL c' d') (P i) (Q i) (fcAt (fcL c' d') (P i) (Q i)):=fun i hli=>fc_ob sc'.toShape sd'.toShape hy'.2.1 (hf i hli)
  have hmm : ∀ a,a < (fcA (fcL c d)).length → T (((fcA (fcL c d)).getD a []).drop 2) ∈ natA ⟨c',d',P (((fcA (fcL c d)).getD a []).getD 0 0).toNat,Q (((fcA (fcL c d)).getD a []).getD 0 0).toNat⟩ ⟨c',d',P (((fcA (fcL c d)).getD a []).getD 1 0).toNat,Q (((fcA (fcL c d)).getD a []).getD 1 0).toNat⟩:=fun a ha=>by
    have hr:=hfl.arr (getD_mem (d:=[]) ha)
    exact hn _ _ _ hr.i1 hr.j1 hr.nat
  refine ⟨fun i hli=>?_,fc_key hfl' hy'.2.1 sd'.toShape,fun a ha=>?_,fun a ha=>?_,hy.2.2,hy.2.1,fun a ha=>?_⟩
  · rw [(hi i).1,(hi i).2];exact hob i hli
  · have hr:=hfl.arr (getD_mem (d:=[]) ha)
    have o1:=hob _ hr.i1
    have o2:=hob _ hr.j1
    refine mem_fcA.2 ⟨_,_,_,o1.lt,o2.lt,?_,rfl⟩
    rw [fc_at o1,fc_at o2]
    exact hmm a ha
  · have:=(mem_natA.1 (hmm a ha)).1
    have e : (⟨c',d',P (((fcA (fcL c d)).getD a []).getD 0 0).toNat,Q (((fcA (fcL c d)).getD a []).getD 0 0).toNat⟩ : Fun).src.ob.toNat = c'.ob.toNat:=rfl
    rw [e] at this
    omega
  · have hr:=hfl.arr (getD_mem (d:=[]) ha)
    have:=hr.len
    exact ⟨by omega,by omega,⟨hr.i0,hr.i1⟩,hr.j0,hr.j1⟩
noncomputable def cbP (f : Fun) (d : Cat) (i : Nat) : List Int:=thn f.obs ((fcL f.tgt d).getD i default).obs
noncomputable def cbQ (f : Fun) (d : Cat) (i : Nat) : List Int:=thn f.ars ((fcL f.tgt d).getD i default).ars
noncomputable def cbF (f : Fun) (d : Cat) : Fun:=⟨fcK d (fcL f.tgt d),fcK d (fcL f.src d),btO (fun i=>fcAt (fcL f.src d) (cbP f d i) (cbQ f d i)) (fcL f.tgt d).length,btA (fun i=>fcAt (fcL f.src d) (cbP f d i) (cbQ f d i)) (fcA (fcL f.tgt d)) (fcA (fcL f.src d)) (fun a=>thn f.obs (((fcA (fcL f.tgt d)).getD a []).drop 2)) (fcA (fcL f.tgt d)).length⟩
theorem cb_fits {f : Fun} {d : Cat} (hf : IsFun f) (sd : IsCat d) {i : Nat} (hi : i < (fcL f.tgt d).length) : Fits ⟨f.src,d,cbP f d i,cbQ f d i⟩:=by
  have hfl : FL f.tgt d (fcL f.tgt d):=FL.of_funX
  obtain ⟨g1,g2,g3⟩:=hfl i hi
  have:=thF_fits hf.src.toShape hf.tgt.toShape hf.fits g3 g1
  unfold thF at this
  rw [g2] at this
  exact this
theorem cb_w {f : Fun} {d : Cat} (hf : IsFun f) (sd : IsCat d) (hy : FcY f.tgt d) (hy' : FcY f.src d) : BtW (fcL f.tgt d) (fcL f.src d) (fcA (fcL f.tgt d)) (fcA (fcL f.src d)) (fun i=>fcAt (fcL f.src d) (cbP f d i) (cbQ f d i)) (fun a=>thn f.obs (((fcA (fcL f.tgt d)).getD a []).drop 2)) (fun i=>thF f ((fcL f.tgt d).getD i default)):=by
  have hfl : FL f.tgt d (fcL f.tgt d):=FL.of_funX
  refine bt_mk hf.tgt sd hf.src sd hy hy' (fun i=>⟨rfl,rfl⟩) (fun i hi=>cb_fits hf sd hi) fun i j t hi hj ht=>?_
  obtain ⟨g1,g2,g3⟩:=hfl i hi
  obtain ⟨k1,k2,k3⟩:=hfl j hj
  have:=nat_before hf.src.toShape hf.tgt.toShape hf.fits g3 k3 g1 k1 (k2.trans g2.symm) ht
  unfold thF at this
  rw [g2,k2] at this
  exact this
theorem cb_th {f : Fun} {d : Cat} (hf : IsFun f) (bf : CatB f.src) (bd : CatB d) {i : Nat} (hi : i < (fcL f.tgt d).length) : ThF f ((fcL f.tgt d).getD i default):=by
  have hfl : FL f.tgt d (fcL f.tgt d):=FL.of_funX
  obtain ⟨g1,g2,g3⟩:=hfl i hi
  have o1:=hf.fits.obl
  have o2:=hf.fits.arl
  have o3:=hf.fits.obw
  have o4:=hf.fits.arw
  have p1:=g3.obl
  have p2:=g3.arl
  rw [g1] at p1 p2
  have s8:=hf.src.toShape.ob8
  have s40:=hf.src.toShape.m40
  have t8:=hf.tgt.toShape.ob8
  have t40:=hf.tgt.toShape.m40
  exact ⟨bf,by rw [g2];exact bd,by omega,by omega,by omega,by omega,by rw [p1];exact o3,by rw [p2];exact o4⟩
def CbLC (f : Fun) : LC:=⟨[.bptr [] (funD f)],rfl⟩
@[go_sem] theorem CbLC_l (f : Fun) : (CbLC f).l = [.bptr [] (funD f)]:=rfl
attribute [local go_sem] List.set_cons_zero List.set_cons_succ
theorem cal_ComposeBefore_1 : Callable Tryz.prog 78:=⟨_,Tryz.func78,rfl,rfl⟩
theorem cal_ComposeBefore_2 : Callable Tryz.prog 80:=⟨_,Tryz.func80,rfl,rfl⟩
theorem sp_ComposeBefore_1 {f g : Fun} (h : ThF f g) : Spec Tryz.prog 78 ([.bptr [] (funD g)] ++ (CbLC f).l) [] (.agg [iv (thF f g).src.ob,.sl 0,.sl 1,.sl 2,.sl 3,iv (thF f g).tgt.ob,.sl 4,.sl 5,.sl 6,.sl 7,.sl 8,.sl 9]) [(0,⟨1,.arr (ints (thF f g).src.fr)⟩),(1,⟨1,.arr (ints (thF f g).src.to)⟩),(2,⟨1,.arr (ints (thF f g).src.id)⟩),(3,⟨1,.arr (intss (thF f g).src.co)⟩),(4,⟨1,.arr (ints (thF f g).tgt.fr)⟩),(5,⟨1,.arr (ints (thF f g).tgt.to)⟩),(6,⟨1,.arr (ints (thF f g).tgt.id)⟩),(7,⟨1,.arr (intss (thF f g).tgt.co)⟩),(8,⟨1,.arr (ints (thF f g).obs)⟩),(9,⟨1,.arr (ints (thF f g).ars)⟩)]:=by
  have ht:=sp_Functor_then h
  show Spec Tryz.prog 78 [.bptr [] (funD g),.bptr [] (funD f)] [] (.agg [iv (thF f g).src.ob,.sl 0,.sl 1,.sl 2,.sl 3,iv (thF f g).tgt.ob,.sl 4,.sl 5,.sl 6,.sl 7,.sl 8,.sl 9]) [(0,⟨1,.arr (ints (thF f g).src.fr)⟩),(1,⟨1,.arr (ints (thF f g).src.to)⟩),(2,⟨1,.arr (ints (thF f g).src.id)⟩),(3,⟨1,.arr (intss (thF f g).src.co)⟩),(4,⟨1,.arr (ints (thF f g).tgt.fr)⟩),(5,⟨1,.arr (ints (thF f g).tgt.to)⟩),(6,⟨1,.arr (ints (thF f g).tgt.id)⟩),(7,⟨1,.arr (intss (thF f g).tgt.co)⟩),(8,⟨1,.arr (ints (thF f g).obs)⟩),(9,⟨1,.arr (ints (thF f g).ars)⟩)]
  refine spec_of_V (E:=TE) 0 Tryz.func78 rfl (by simp [Tryz.f78]) fun X hn hX=>?_
  repeat' (first|(with_reducible first|refine V_seq ?_|refine V_skip ?_|refine V_ret ?_)|((with_reducible refine V_cond ?_);simp only [go_sem,simprocAttr])|((refine V_region (by rw [hn];rfl) ?_);intro K hK)|((first|with_reducible refine evOps_n ?_|((with_reducible apply evOps_g);rfl));intro K hK;simp (contextual:=true) only [go_sem,simprocAttr])|with_reducible refine evOps_nil ?_|((with_reducible refine hK _ ?_);clear hK K)|(with_reducible first|refine And.intro ?_ ?_|refine nxt_n ?_|refine nxt_r ?_|refine inR_mk ?_ ?_)|((with_reducible refine evCall_at 79 ?_);refine EvCall.mk (ht) cal_Functor_then [(0,1),(1,2),(2,3),(3,4),(4,5),(5,6),(6,7),(7,8),(8,9),(9,10)] [] (by simp [go_sem] <;> (repeat' (first|rfl|constructor))) (by simp [go_sem] <;> (repeat' (first|rfl|constructor))) ?_;all_goals try simp only [go_sem,simprocAttr])|(refine fun (hc : (_ : Bool) = _)=>?_;try simp only [hcS] at hc))
  all_goals try (first|(with_reducible assumption)|((try simp only [Cat.F,Cat.T,Cat.I,Cat.C,Fun.O,Fun.A,Cat.Entry,Int.toNat_natCast] at *);omega))
  (first|refine ret_auto ?_|refine ret_auto' ?_);simp only [go_sem,simprocAttr,Tryz.f78]
theorem sp_ComposeBefore_2 {f : Fun} {t : List Int} (h1 : f.obs.length ≤ 1048576) (h2 : t.length ≤ 1048576) (h3 : Within f.obs t.length) : Spec Tryz.prog 80 ([.bor [] (ints t)] ++ (CbLC f).l) [] (.sl 0) [(0,⟨1,.arr (ints (thn f.obs t))⟩)]:=by
  have ht:=sp_then h1 h2 h3
  show Spec Tryz.prog 80 [.bor [] (ints t),.bptr [] (funD f)] [] (.sl 0) [(0,⟨1,.arr (ints (thn f.obs t))⟩)]
  refine spec_of_V (E:=TE) 0 Tryz.func80 rfl (by simp [Tryz.f80]) fun X hn hX=>?_
  repeat' (first|(with_reducible first|refine V_seq ?_|refine V_skip ?_|refine V_ret ?_)|((with_reducible refine V_cond ?_);simp only [go_sem,simprocAttr])|((refine V_region (by rw [hn];rfl) ?_);intro K hK)|((first|with_reducible refine evOps_n ?_|((with_reducible apply evOps_g);rfl));intro K hK;simp (contextual:=true) only [go_sem,simprocAttr])|with_reducible refine evOps_nil ?_|((with_reducible refine hK _ ?_);clear hK K)|(with_reducible first|refine And.intro ?_ ?_|refine nxt_n ?_|refine nxt_r ?_|refine inR_mk ?_ ?_)|((with_reducible refine evCall_at 81 ?_);refine EvCall.mk (ht) cal_then [(0,0)] [] (by simp [go_sem] <;> (repeat' (first|rfl|constructor))) (by simp [go_sem] <;> (repeat' (first|rfl|constructor))) ?_;all_goals try simp only [go_sem,simprocAttr])|(refine fun (hc : (_ : Bool) = _)=>?_;try simp only [hcS] at hc))
  all_goals try (first|(with_reducible assumption)|((try simp only [Cat.F,Cat.T,Cat.I,Cat.C,Fun.O,Fun.A,Cat.Entry,Int.toNat_natCast] at *);omega))
  (first|refine ret_auto ?_|refine ret_auto' ?_);simp only [go_sem,simprocAttr,Tryz.f80]
def CbOut (f : Fun) (d : Cat) (g : Fun) (code : Int) : Prop :=
  (¬ (IsFun f ∧ IsCat d) ∧ g = nilF ∧ code = 1) ∨ (IsFun f ∧ IsCat d ∧ ((¬ (FcY f.tgt d ∧ FcY f.src d) ∧ g = nilF ∧ code = 3) ∨ (FcY f.tgt d ∧ FcY f.src d ∧ g = cbF f d ∧ code = 0)))
theorem CbOut.ex (f : Fun) (d : Cat) : ∃ g code,CbOut f d g code:=by
  by_cases h : IsFun f ∧ IsCat d
  · by_cases h3 : FcY f.tgt d ∧ FcY f.src d
    · exact ⟨_,_,.inr ⟨h.1,h.2,.inr ⟨h3.1,h3.2,rfl,rfl⟩⟩⟩
    · exact ⟨_,_,.inr ⟨h.1,h.2,.inl ⟨h3,rfl,rfl⟩⟩⟩
  · exact ⟨_,_,.inl ⟨h,rfl,rfl⟩⟩
theorem cbF_b {f : Fun} {d : Cat} (hy : FcY f.tgt d) (hy' : FcY f.src d) : FunB (cbF f d):=by
  have h1:=hy.2.1
  have h2:=hy.2.2
  refine ⟨fcK_b d hy.2.1 hy.2.2,fcK_b d hy'.2.1 hy'.2.2,?_,?_⟩
  · show (btO _ _).length ≤ 1048576;rw [btO_len];omega
  · show (btA _ _ _ _ _).length ≤ 1048576;rw [btA_len];omega
theorem is_v {f : Fun} {v : Bool} (hb : FunB f) (h : dec (IsFun f) = v) : Spec Tryz.prog 75 [.bptr [] (funD f)] [] (bv v) []:=by
  subst h
  exact sp_Functor_isFunctor hb
theorem ic_v {c : Cat} {v : Bool} (hb : CatB c) (h : dec (IsCat c) = v) : Spec Tryz.prog 76 [.bptr [] (catD c)] [] (bv v) []:=by
  subst h
  exact sp_Category_isCategory hb
theorem cal_ComposeBefore : Callable Tryz.prog 35:=⟨_,Tryz.func35,rfl,rfl⟩
theorem sp_ComposeBefore_bad {f : Fun} {d : Cat} (hb : FunB f) (hd : CatB d) (h : ¬ (IsFun f ∧ IsCat d)) : Spec Tryz.prog 35 [funV f,catV d] [] (.tup [.agg [iv 0,.v (.slice none 0 0),.v (.slice none 0 0),.v (.slice none 0 0),.v (.slice none 0 0),iv 0,.v (.slice none 0 0),.v (.slice none 0 0),.v (.slice none 0 0),.v (.slice none 0 0),.v (.slice none 0 0),.v (.slice none 0 0)],iv 1]) []:=by
  by_cases h1 : IsFun f
  · have h2 : ¬ IsCat d:=fun q=>h ⟨h1,q⟩
    have v1:=is_v hb (dec_t h1)
    have v2:=ic_v hd (dec_f h2)
    refine spec_of_V (E:=TE) 0 Tryz.func35 rfl (by simp [Tryz.f35]) fun X hn hX=>?_
    repeat' (first|(with_reducible first|refine V_seq ?_|refine V_skip ?_|refine V_ret ?_)|((with_reducible refine V_cond ?_);simp only [go_sem,simprocAttr])|((refine V_region (by rw [hn];rfl) ?_);intro K hK)|((first|with_reducible refine evOps_n ?_|((with_reducible apply evOps_g);rfl));intro K hK;simp (contextual:=true) only [go_sem,simprocAttr])|with_reducible refine evOps_nil ?_|((with_reducible refine hK _ ?_);clear hK K)|(with_reducible first|refine And.intro ?_ ?_|refine nxt_n ?_|refine nxt_r ?_|refine inR_mk ?_ ?_)|((with_reducible refine evCall_at 75 ?_);refine EvCall.mk (v1) cal_Functor_isFunctor [] [0] (by simp [go_sem] <;> (repeat' (first|rfl|constructor))) (by simp [go_sem] <;> (repeat' (first|rfl|constructor))) ?_;all_goals try simp only [go_sem,simprocAttr])|((with_reducible refine evCall_at 76 ?_);refine EvCall.mk (v2) cal_Category_isCategory [] [1] (by simp [go_sem] <;> (repeat' (first|rfl|constructor))) (by simp [go_sem] <;> (repeat' (first|rfl|constructor))) ?_;all_goals try simp only [go_sem,simprocAttr])|(refine fun (hc : (_ : Bool) = _)=>?_;try simp only [hcS] at hc))
    all_goals try (first|(with_reducible assumption)|((try simp only [Cat.F,Cat.T,Cat.I,Cat.C,Fun.O,Fun.A,Cat.Entry,Int.toNat_natCast] at *);omega))
    all_goals ((first|refine ret_auto ?_|refine ret_auto' ?_);simp only [go_sem,simprocAttr,Tryz.f35])
  · have v1:=is_v hb (dec_f h1)
    refine spec_of_V (E:=TE) 0 Tryz.func35 rfl (by simp [Tryz.f35]) fun X hn hX=>?_
    repeat' (first|(with_reducible first|refine V_seq ?_|refine V_skip ?_|refine V_ret ?_)|((with_reducible refine V_cond ?_);simp only [go_sem,simprocAttr])|((refine V_region (by rw [hn];rfl) ?_);intro K hK)|((first|with_reducible refine evOps_n ?_|((with_reducible apply evOps_g);rfl));intro K hK;simp (contextual:=true) only [go_sem,simprocAttr])|with_reducible refine evOps_nil ?_|((with_reducible refine hK _ ?_);clear hK K)|(with_reducible first|refine And.intro ?_ ?_|refine nxt_n ?_|refine nxt_r ?_|refine inR_mk ?_ ?_)|((with_reducible refine evCall_at 75 ?_);refine EvCall.mk (v1) cal_Functor_isFunctor [] [0] (by simp [go_sem] <;> (repeat' (first|rfl|constructor))) (by simp [go_sem] <;> (repeat' (first|rfl|constructor))) ?_;all_goals try simp only [go_sem,simprocAttr])|(refine fun (hc : (_ : Bool) = _)=>?_;try simp only [hcS] at hc))
    all_goals try (first|(with_reducible assumption)|((try simp only [Cat.F,Cat.T,Cat.I,Cat.C,Fun.O,Fun.A,Cat.Entry,Int.toNat_natCast] at *);omega))
    all_goals ((first|refine ret_auto ?_|refine ret_auto' ?_);simp only [go_sem,simprocAttr,Tryz.f35])
theorem sp_ComposeBefore_no {f : Fun} {d : Cat} (hb : FunB f) (hd : CatB d) (hf : IsFun f) (sd : IsCat d) (h : ¬ (FcY f.tgt d ∧ FcY f.src d)) : Spec Tryz.prog 35 [funV f,catV d] [] (.tup [.agg [iv 0,.v (.slice none 0 0),.v (.slice none 0 0),.v (.slice none 0 0),.v (.slice none 0 0),iv 0,.v (.slice none 0 0),.v (.slice none 0 0),.v (.slice none 0 0),.v (.slice none 0 0),.v (.slice none 0 0),.v (.slice none 0 0)],iv 3]) []:=by
  have v1:=is_v hb (dec_t hf)
  have v2:=ic_v hd (dec_t sd)
  by_cases y1 : FcY f.tgt d
  · have y2 : ¬ FcY f.src d:=fun q=>h ⟨y1,q⟩
    have h1:=sp_functors_o hf.tgt sd hb.tgt hd (.inl ⟨y1,rfl,rfl⟩)
    have h2:=sp_functors_o hf.src sd hb.src hd (.inr ⟨y2,rfl,rfl⟩)
    refine spec_of_V (E:=TE) 0 Tryz.func35 rfl (by simp [Tryz.f35]) fun X hn hX=>?_
    repeat' (first|(with_reducible first|refine V_seq ?_|refine V_skip ?_|refine V_ret ?_)|((with_reducible refine V_cond ?_);simp only [go_sem,simprocAttr])|((refine V_region (by rw [hn];rfl) ?_);intro K hK)|((first|with_reducible refine evOps_n ?_|((with_reducible apply evOps_g);rfl));intro K hK;simp (contextual:=true) only [go_sem,simprocAttr])|with_reducible refine evOps_nil ?_|((with_reducible refine hK _ ?_);clear hK K)|(with_reducible first|refine And.intro ?_ ?_|refine nxt_n ?_|refine nxt_r ?_|refine inR_mk ?_ ?_)|((with_reducible refine evCall_at 75 ?_);refine EvCall.mk (v1) cal_Functor_isFunctor [] [0] (by simp [go_sem] <;> (repeat' (first|rfl|constructor))) (by simp [go_sem] <;> (repeat' (first|rfl|constructor))) ?_;all_goals try simp only [go_sem,simprocAttr])|((with_reducible refine evCall_at 76 ?_);refine EvCall.mk (v2) cal_Category_isCategory [] [1] (by simp [go_sem] <;> (repeat' (first|rfl|constructor))) (by simp [go_sem] <;> (repeat' (first|rfl|constructor))) ?_;all_goals try simp only [go_sem,simprocAttr])|((with_reducible refine (id ?_ : EvCall _ _ [.ptr 0 5,.ptr 1 0] _ _));refine EvCall.mk (h1) cal_functors [(0,3),(1,4),(2,5),(3,6),(4,7),(5,8),(6,9),(7,10)] [0,1] (by simp [go_sem] <;> (repeat' (first|rfl|constructor))) (by simp [go_sem] <;> (repeat' (first|rfl|constructor))) ?_;all_goals try simp only [go_sem,simprocAttr])|((with_reducible refine (id ?_ : EvCall _ _ [.ptr 0 0,.ptr 1 0] _ _));refine EvCall.mk (h2) cal_functors [] [0,1] (by simp [go_sem] <;> (repeat' (first|rfl|constructor))) (by simp [go_sem] <;> (repeat' (first|rfl|constructor))) ?_;all_goals try simp only [go_sem,simprocAttr])|(refine fun (hc : (_ : Bool) = _)=>?_;try simp only [hcS] at hc))
    all_goals try (first|(with_reducible assumption)|((try simp only [Cat.F,Cat.T,Cat.I,Cat.C,Fun.O,Fun.A,Cat.Entry,Int.toNat_natCast] at *);omega))
    all_goals ((first|refine ret_auto ?_|refine ret_auto' ?_);simp only [go_sem,simprocAttr,Tryz.f35])
  · have h1:=sp_functors_o hf.tgt sd hb.tgt hd (.inr ⟨y1,rfl,rfl⟩)
    by_cases y2 : FcY f.src d
    · have h2:=sp_functors_o hf.src sd hb.src hd (.inl ⟨y2,rfl,rfl⟩)
      refine spec_of_V (E:=TE) 0 Tryz.func35 rfl (by simp [Tryz.f35]) fun X hn hX=>?_
      repeat' (first|(with_reducible first|refine V_seq ?_|refine V_skip ?_|refine V_ret ?_)|((with_reducible refine V_cond ?_);simp only [go_sem,simprocAttr])|((refine V_region (by rw [hn];rfl) ?_);intro K hK)|((first|with_reducible refine evOps_n ?_|((with_reducible apply evOps_g);rfl));intro K hK;simp (contextual:=true) only [go_sem,simprocAttr])|with_reducible refine evOps_nil ?_|((with_reducible refine hK _ ?_);clear hK K)|(with_reducible first|refine And.intro ?_ ?_|refine nxt_n ?_|refine nxt_r ?_|refine inR_mk ?_ ?_)|((with_reducible refine evCall_at 75 ?_);refine EvCall.mk (v1) cal_Functor_isFunctor [] [0] (by simp [go_sem] <;> (repeat' (first|rfl|constructor))) (by simp [go_sem] <;> (repeat' (first|rfl|constructor))) ?_;all_goals try simp only [go_sem,simprocAttr])|((with_reducible refine evCall_at 76 ?_);refine EvCall.mk (v2) cal_Category_isCategory [] [1] (by simp [go_sem] <;> (repeat' (first|rfl|constructor))) (by simp [go_sem] <;> (repeat' (first|rfl|constructor))) ?_;all_goals try simp only [go_sem,simprocAttr])|((with_reducible refine (id ?_ : EvCall _ _ [.ptr 0 5,.ptr 1 0] _ _));refine EvCall.mk (h1) cal_functors [] [0,1] (by simp [go_sem] <;> (repeat' (first|rfl|constructor))) (by simp [go_sem] <;> (repeat' (first|rfl|constructor))) ?_;all_goals try simp only [go_sem,simprocAttr])|((with_reducible refine (id ?_ : EvCall _ _ [.ptr 0 0,.ptr 1 0] _ _));refine EvCall.mk (h2) cal_functors [(0,3),(1,4),(2,5),(3,6),(4,7),(5,8),(6,9),(7,10)] [0,1] (by simp [go_sem] <;> (repeat' (first|rfl|constructor))) (by simp [go_sem] <;> (repeat' (first|rfl|constructor))) ?_;all_goals try simp only [go_sem,simprocAttr])|(refine fun (hc : (_ : Bool) = _)=>?_;try simp only [hcS] at hc))
      all_goals try (first|(with_reducible assumption)|((try simp only [Cat.F,Cat.T,Cat.I,Cat.C,Fun.O,Fun.A,Cat.Entry,Int.toNat_natCast] at *);omega))
      all_goals ((first|refine ret_auto ?_|refine ret_auto' ?_);simp only [go_sem,simprocAttr,Tryz.f35])
    · have h2:=sp_functors_o hf.src sd hb.src hd (.inr ⟨y2,rfl,rfl⟩)
      refine spec_of_V (E:=TE) 0 Tryz.func35 rfl (by simp [Tryz.f35]) fun X hn hX=>?_
      repeat' (first|(with_reducible first|refine V_seq ?_|refine V_skip ?_|refine V_ret ?_)|((with_reducible refine V_cond ?_);simp only [go_sem,simprocAttr])|((refine V_region (by rw [hn];rfl) ?_);intro K hK)|((first|with_reducible refine evOps_n ?_|((with_reducible apply evOps_g);rfl));intro K hK;simp (contextual:=true) only [go_sem,simprocAttr])|with_reducible refine evOps_nil ?_|((with_reducible refine hK _ ?_);clear hK K)|(with_reducible first|refine And.intro ?_ ?_|refine nxt_n ?_|refine nxt_r ?_|refine inR_mk ?_ ?_)|((with_reducible refine evCall_at 75 ?_);refine EvCall.mk (v1) cal_Functor_isFunctor [] [0] (by simp [go_sem] <;> (repeat' (first|rfl|constructor))) (by simp [go_sem] <;> (repeat' (first|rfl|constructor))) ?_;all_goals try simp only [go_sem,simprocAttr])|((with_reducible refine evCall_at 76 ?_);refine EvCall.mk (v2) cal_Category_isCategory [] [1] (by simp [go_sem] <;> (repeat' (first|rfl|constructor))) (by simp [go_sem] <;> (repeat' (first|rfl|constructor))) ?_;all_goals try simp only [go_sem,simprocAttr])|((with_reducible refine (id ?_ : EvCall _ _ [.ptr 0 5,.ptr 1 0] _ _));refine EvCall.mk (h1) cal_functors [] [0,1] (by simp [go_sem] <;> (repeat' (first|rfl|constructor))) (by simp [go_sem] <;> (repeat' (first|rfl|constructor))) ?_;all_goals try simp only [go_sem,simprocAttr])|((with_reducible refine (id ?_ : EvCall _ _ [.ptr 0 0,.ptr 1 0] _ _));refine EvCall.mk (h2) cal_functors [] [0,1] (by simp [go_sem] <;> (repeat' (first|rfl|constructor))) (by simp [go_sem] <;> (repeat' (first|rfl|constructor))) ?_;all_goals try simp only [go_sem,simprocAttr])|(refine fun (hc : (_ : Bool) = _)=>?_;try simp only [hcS] at hc))
      all_goals try (first|(with_reducible assumption)|((try simp only [Cat.F,Cat.T,Cat.I,Cat.C,Fun.O,Fun.A,Cat.Entry,Int.toNat_natCast] at *);omega))
      all_goals ((first|refine ret_auto ?_|refine ret_auto' ?_);simp only [go_sem,simprocAttr,Tryz.f35])
theorem sp_ComposeBefore_yes {f : Fun} {d : Cat} (hb : FunB f) (hd : CatB d) (hf : IsFun f) (sd : IsCat d) (y1 : FcY f.tgt d) (y2 : FcY f.src d) : Spec Tryz.prog 35 [funV f,catV d] [] (.tup [.agg [iv (cbF f d).src.ob,.sl 0,.sl 1,.sl 2,.sl 3,iv (cbF f d).tgt.ob,.sl 4,.sl 5,.sl 6,.sl 7,.sl 8,.sl 9],iv 0]) [(0,⟨1,.arr (ints (cbF f d).src.fr)⟩),(1,⟨1,.arr (ints (cbF f d).src.to)⟩),(2,⟨1,.arr (ints (cbF f d).src.id)⟩),(3,⟨1,.arr (intss (cbF f d).src.co)⟩),(4,⟨1,.arr (ints (cbF f d).tgt.fr)⟩),(5,⟨1,.arr (ints (cbF f d).tgt.to)⟩),(6,⟨1,.arr (ints (cbF f d).tgt.id)⟩),(7,⟨1,.arr (intss (cbF f d).tgt.co)⟩),(8,⟨1,.arr (ints (cbF f d).obs)⟩),(9,⟨1,.arr (ints (cbF f d).ars)⟩)]:=by
  have v1:=is_v hb (dec_t hf)
  have v2:=ic_v hd (dec_t sd)
  have h1:=sp_functors_o hf.tgt sd hb.tgt hd (.inl ⟨y1,rfl,rfl⟩)
  have h2:=sp_functors_o hf.src sd hb.src hd (.inl ⟨y2,rfl,rfl⟩)
  have hfl : FL f.tgt d (fcL f.tgt d):=FL.of_funX
  have hbt:=sp_functorCategory_between (a7:=mapD Tryz.prog 9 2 (fcA (fcL f.tgt d)).length (pm (fcA (fcL f.tgt d)) (fcA (fcL f.tgt d)).length)) (F1:=78) (F2:=80) (cp1:=CbLC f) (cp2:=CbLC f) (fcK_b d y1.2.1 y1.2.2) (fcK_b d y2.2.1 y2.2.2) (cb_w hf sd y1 y2) cal_ComposeBefore_1 cal_ComposeBefore_2 (fun i hi=>sp_ComposeBefore_1 (cb_th hf hb.src hd hi)) (fun a ha=>by
    have hr:=hfl.arr (getD_mem (d:=[]) ha)
    have o1:=hf.fits.obl
    have o3:=hf.fits.obw
    have s8:=hf.src.toShape.ob8
    have t8:=hf.tgt.toShape.ob8
    have t0:=hf.tgt.toShape.ob0
    have hl:=hr.len
    have hd2 : (((fcA (fcL f.tgt d)).getD a []).drop 2).length = f.tgt.ob.toNat:=by rw [List.length_drop];omega
    exact sp_ComposeBefore_2 (by omega) (by omega) (fun i hi=>by have:=o3 i hi;omega))
  rw [CbLC_l] at hbt
  have eF : cbF f d = ⟨fcK d (fcL f.tgt d),fcK d (fcL f.src d),btO (fun i=>fcAt (fcL f.src d) (cbP f d i) (cbQ f d i)) (fcL f.tgt d).length,btA (fun i=>fcAt (fcL f.src d) (cbP f d i) (cbQ f d i)) (fcA (fcL f.tgt d)) (fcA (fcL f.src d)) (fun a=>thn f.obs (((fcA (fcL f.tgt d)).getD a []).drop 2)) (fcA (fcL f.tgt d)).length⟩:=rfl
  rw [eF]
  refine spec_of_V (E:=TE) 0 Tryz.func35 rfl (by simp [Tryz.f35]) fun X hn hX=>?_
  repeat' (first|(with_reducible first|refine V_seq ?_|refine V_skip ?_|refine V_ret ?_)|((with_reducible refine V_cond ?_);simp only [go_sem,simprocAttr])|((refine V_region (by rw [hn];rfl) ?_);intro K hK)|((first|with_reducible refine evOps_n ?_|((with_reducible apply evOps_g);rfl));intro K hK;simp (contextual:=true) only [go_sem,simprocAttr])|with_reducible refine evOps_nil ?_|((with_reducible refine hK _ ?_);clear hK K)|(with_reducible first|refine And.intro ?_ ?_|refine nxt_n ?_|refine nxt_r ?_|refine inR_mk ?_ ?_)|((with_reducible refine evCall_at 75 ?_);refine EvCall.mk (v1) cal_Functor_isFunctor [] [0] (by simp [go_sem] <;> (repeat' (first|rfl|constructor))) (by simp [go_sem] <;> (repeat' (first|rfl|constructor))) ?_;all_goals try simp only [go_sem,simprocAttr])|((with_reducible refine evCall_at 76 ?_);refine EvCall.mk (v2) cal_Category_isCategory [] [1] (by simp [go_sem] <;> (repeat' (first|rfl|constructor))) (by simp [go_sem] <;> (repeat' (first|rfl|constructor))) ?_;all_goals try simp only [go_sem,simprocAttr])|((with_reducible refine (id ?_ : EvCall _ _ [.ptr 0 5,.ptr 1 0] _ _));refine EvCall.mk (h1) cal_functors [(0,3),(1,4),(2,5),(3,6),(4,7),(5,8),(6,9),(7,10)] [0,1] (by simp [go_sem] <;> (repeat' (first|rfl|constructor))) (by simp [go_sem] <;> (repeat' (first|rfl|constructor))) ?_;all_goals try simp only [go_sem,simprocAttr])|((with_reducible refine (id ?_ : EvCall _ _ [.ptr 0 0,.ptr 1 0] _ _));refine EvCall.mk (h2) cal_functors [(0,11),(1,12),(2,13),(3,14),(4,15),(5,16),(6,17),(7,18)] [0,1] (by simp [go_sem] <;> (repeat' (first|rfl|constructor))) (by simp [go_sem] <;> (repeat' (first|rfl|constructor))) ?_;all_goals try simp only [go_sem,simprocAttr])|((with_reducible refine evCall_at 77 ?_);refine EvCall.mk (hbt) cal_functorCategory_between [(0,19),(1,20),(2,21),(3,22),(4,23),(5,24),(6,25),(7,26),(8,27),(9,28)] [0,3,4,5,6,7,8,9,10,11,12,13,14,15,16,17,18] (by simp [go_sem] <;> (repeat' (first|rfl|constructor))) (by simp [go_sem] <;> (repeat' (first|rfl|constructor))) ?_;all_goals try simp only [go_sem,simprocAttr])|(refine fun (hc : (_ : Bool) = _)=>?_;try simp only [hcS] at hc))
  all_goals try (first|(with_reducible assumption)|((try simp only [Cat.F,Cat.T,Cat.I,Cat.C,Fun.O,Fun.A,Cat.Entry,Int.toNat_natCast] at *);omega))
  (first|refine ret_auto ?_|refine ret_auto' ?_);simp only [go_sem,simprocAttr,Tryz.f35]
end Go.Eng
end
section
namespace Go.Eng
open Go Go.Proofs Go.Cats
attribute [local go_sem] List.set_cons_zero List.set_cons_succ btO_zero btA_zero
theorem cal_l08Both : Callable Tryz.prog 72:=⟨_,Tryz.func72,rfl,rfl⟩
theorem sp_l08Both_no {c d e f : Cat} (sc : IsCat c) (sd : IsCat d) (se : IsCat e) (sf : IsCat f) (bc : CatB c) (bd : CatB d) (be : CatB e) (bf : CatB f) (h : ¬ (FcY c d ∧ FcY e f)) : Spec Tryz.prog 72 [catV c,catV d,catV e,catV f] [] (.tup [.agg [iv 0,.v (.slice none 0 0),.v (.slice none 0 0),.v (.slice none 0 0),.v (.slice none 0 0),.v (.slice none 0 0),.v (.slice none 0 0)],.agg [iv 0,.v (.slice none 0 0),.v (.slice none 0 0),.v (.slice none 0 0),.v (.slice none 0 0),.v (.slice none 0 0),.v (.slice none 0 0)],iv 3]) []:=by
  by_cases y1 : FcY c d
  · have y2 : ¬ FcY e f:=fun q=>h ⟨y1,q⟩
    have h1:=sp_l08Make_o sc sd bc bd (.inl ⟨y1,rfl,rfl⟩)
    have h2:=sp_l08Make_o se sf be bf (.inr ⟨y2,rfl,rfl⟩)
    refine spec_of_V (E:=TE) 0 Tryz.func72 rfl (by simp [Tryz.f72]) fun X hn hX=>?_
    repeat' (first|(with_reducible first|refine V_seq ?_|refine V_skip ?_|refine V_ret ?_)|((with_reducible refine V_cond ?_);simp only [go_sem,simprocAttr])|((first|refine V_region (by rw [hn];rfl) ?_|refine V_drawn hmix (by rw [hn];rfl) ?_);intro K hK)|((first|with_reducible refine evOps_n ?_|((with_reducible apply evOps_g);rfl)|with_reducible refine evOpsD_n ?_|((with_reducible apply evOpsD_g);rfl));intro K hK;simp (contextual:=true) only [go_sem,simprocAttr])|with_reducible refine evOps_nil ?_|((with_reducible refine evOpsD_nil ?_ ?_);kernel_rfl)|((with_reducible refine hK _ ?_);clear hK K)|(with_reducible first|refine And.intro ?_ ?_|refine nxt_n ?_|refine nxt_r ?_|refine inR_mk ?_ ?_)|((with_reducible refine (id ?_ : EvCall _ _ [.agg [iv c.ob,.bor [] (ints c.fr),.bor [] (ints c.to),.bor [] (ints c.id),.bor [] (intss c.co)],.agg [iv d.ob,.bor [] (ints d.fr),.bor [] (ints d.to),.bor [] (ints d.id),.bor [] (intss d.co)]] _ _));refine EvCall.mk (h1) cal_l08Make [(0,6),(1,7),(2,8),(3,9),(4,10),(5,11)] [] (by simp [go_sem] <;> (repeat' (first|rfl|constructor))) (by simp [go_sem] <;> (repeat' (first|rfl|constructor))) ?_;all_goals try simp only [go_sem,simprocAttr])|((with_reducible refine evCall_at 52 ?_);refine EvCall.mk (h2) cal_l08Make [] [] (by simp [go_sem] <;> (repeat' (first|rfl|constructor))) (by simp [go_sem] <;> (repeat' (first|rfl|constructor))) ?_;all_goals try simp only [go_sem,simprocAttr])|(refine fun (hc : (_ : Bool) = _)=>?_;try simp only [hcS] at hc))
    all_goals try (first|(with_reducible assumption)|((try simp only [Cat.F,Cat.T,Cat.I,Cat.C,Fun.O,Fun.A,Cat.Entry,Int.toNat_natCast] at *);omega))
    all_goals ((first|refine ret_auto ?_|refine ret_auto' ?_);simp only [go_sem,simprocAttr,Tryz.f72])
  · have h1:=sp_l08Make_o sc sd bc bd (.inr ⟨y1,rfl,rfl⟩)
    refine spec_of_V (E:=TE) 0 Tryz.func72 rfl (by simp [Tryz.f72]) fun X hn hX=>?_
    repeat' (first|(with_reducible first|refine V_seq ?_|refine V_skip ?_|refine V_ret ?_)|((with_reducible refine V_cond ?_);simp only [go_sem,simprocAttr])|((first|refine V_region (by rw [hn];rfl) ?_|refine V_drawn hmix (by rw [hn];rfl) ?_);intro K hK)|((first|with_reducible refine evOps_n ?_|((with_reducible apply evOps_g);rfl)|with_reducible refine evOpsD_n ?_|((with_reducible apply evOpsD_g);rfl));intro K hK;simp (contextual:=true) only [go_sem,simprocAttr])|with_reducible refine evOps_nil ?_|((with_reducible refine evOpsD_nil ?_ ?_);kernel_rfl)|((with_reducible refine hK _ ?_);clear hK K)|(with_reducible first|refine And.intro ?_ ?_|refine nxt_n ?_|refine nxt_r ?_|refine inR_mk ?_ ?_)|((with_reducible refine evCall_at 52 ?_);refine EvCall.mk (h1) cal_l08Make [] [] (by simp [go_sem] <;> (repeat' (first|rfl|constructor))) (by simp [go_sem] <;> (repeat' (first|rfl|constructor))) ?_;all_goals try simp only [go_sem,simprocAttr])|(refine fun (hc : (_ : Bool) = _)=>?_;try simp only [hcS] at hc))
    all_goals try (first|(with_reducible assumption)|((try simp only [Cat.F,Cat.T,Cat.I,Cat.C,Fun.O,Fun.A,Cat.Entry,Int.toNat_natCast] at *);omega))
    all_goals ((first|refine ret_auto ?_|refine ret_auto' ?_);simp only [go_sem,simprocAttr,Tryz.f72])
theorem sp_l08Both_yes {c d e f : Cat} (sc : IsCat c) (sd : IsCat d) (se : IsCat e) (sf : IsCat f) (bc : CatB c) (bd : CatB d) (be : CatB e) (bf : CatB f) (y1 : FcY c d) (y2 : FcY e f) : Spec Tryz.prog 72 [catV c,catV d,catV e,catV f] [] (.tup [.agg [iv ((fcL c d).length : Int),.sl 0,.sl 1,.sl 2,.sl 3,.sl 4,.sl 5],.agg [iv ((fcL e f).length : Int),.sl 6,.sl 7,.sl 8,.sl 9,.sl 10,.sl 11],iv 0])
    [(0,⟨1,.arr (ints (fcK d (fcL c d)).fr)⟩),(1,⟨1,.arr (ints (fcK d (fcL c d)).to)⟩),(2,⟨1,.arr (ints (fcK d (fcL c d)).id)⟩),(3,⟨1,.arr (intss (fcK d (fcL c d)).co)⟩),(4,⟨1,.arr (funsD (fcL c d))⟩),(5,⟨1,.arr (intss (fcA (fcL c d)))⟩),(6,⟨1,.arr (ints (fcK f (fcL e f)).fr)⟩),(7,⟨1,.arr (ints (fcK f (fcL e f)).to)⟩),(8,⟨1,.arr (ints (fcK f (fcL e f)).id)⟩),(9,⟨1,.arr (intss (fcK f (fcL e f)).co)⟩),(10,⟨1,.arr (funsD (fcL e f))⟩),(11,⟨1,.arr (intss (fcA (fcL e f)))⟩)]:=by
  have h1:=sp_l08Make_o sc sd bc bd (.inl ⟨y1,rfl,rfl⟩)
  have h2:=sp_l08Make_o se sf be bf (.inl ⟨y2,rfl,rfl⟩)
  refine spec_of_V (E:=TE) 0 Tryz.func72 rfl (by simp [Tryz.f72]) fun X hn hX=>?_
  repeat' (first|(with_reducible first|refine V_seq ?_|refine V_skip ?_|refine V_ret ?_)|((with_reducible refine V_cond ?_);simp only [go_sem,simprocAttr])|((first|refine V_region (by rw [hn];rfl) ?_|refine V_drawn hmix (by rw [hn];rfl) ?_);intro K hK)|((first|with_reducible refine evOps_n ?_|((with_reducible apply evOps_g);rfl)|with_reducible refine evOpsD_n ?_|((with_reducible apply evOpsD_g);rfl));intro K hK;simp (contextual:=true) only [go_sem,simprocAttr])|with_reducible refine evOps_nil ?_|((with_reducible refine evOpsD_nil ?_ ?_);kernel_rfl)|((with_reducible refine hK _ ?_);clear hK K)|(with_reducible first|refine And.intro ?_ ?_|refine nxt_n ?_|refine nxt_r ?_|refine inR_mk ?_ ?_)|((with_reducible refine (id ?_ : EvCall _ _ [.agg [iv c.ob,.bor [] (ints c.fr),.bor [] (ints c.to),.bor [] (ints c.id),.bor [] (intss c.co)],.agg [iv d.ob,.bor [] (ints d.fr),.bor [] (ints d.to),.bor [] (ints d.id),.bor [] (intss d.co)]] _ _));refine EvCall.mk (h1) cal_l08Make [(0,6),(1,7),(2,8),(3,9),(4,10),(5,11)] [] (by simp [go_sem] <;> (repeat' (first|rfl|constructor))) (by simp [go_sem] <;> (repeat' (first|rfl|constructor))) ?_;all_goals try simp only [go_sem,simprocAttr])|((with_reducible refine evCall_at 52 ?_);refine EvCall.mk (h2) cal_l08Make [(0,13),(1,14),(2,15),(3,16),(4,17),(5,18)] [] (by simp [go_sem] <;> (repeat' (first|rfl|constructor))) (by simp [go_sem] <;> (repeat' (first|rfl|constructor))) ?_;all_goals try simp only [go_sem,simprocAttr])|(refine fun (hc : (_ : Bool) = _)=>?_;try simp only [hcS] at hc))
  all_goals try (first|(with_reducible assumption)|((try simp only [Cat.F,Cat.T,Cat.I,Cat.C,Fun.O,Fun.A,Cat.Entry,Int.toNat_natCast] at *);omega))
  all_goals ((first|refine ret_auto ?_|refine ret_auto' ?_);simp only [go_sem,simprocAttr,Tryz.f72])
theorem sp_l06Is_v {f : Fun} {v : Bool} (hb : FunB f) (h : dec (IsFun f) = v) : Spec Tryz.prog 71 [funV f] [] (bv v) []:=by
  subst h
  exact sp_l06Is hb
theorem cal_spec_ComposeBefore : Callable Tryz.prog 33:=⟨_,Tryz.func33,rfl,rfl⟩
theorem sp_spec_ComposeBefore_bad {f : Fun} {d : Cat} (hb : FunB f) (hd : CatB d) (h : ¬ (IsFun f ∧ IsCat d)) : Spec Tryz.prog 33 [funV f,catV d] [] (.tup [.agg [iv 0,.v (.slice none 0 0),.v (.slice none 0 0),.v (.slice none 0 0),.v (.slice none 0 0),iv 0,.v (.slice none 0 0),.v (.slice none 0 0),.v (.slice none 0 0),.v (.slice none 0 0),.v (.slice none 0 0),.v (.slice none 0 0)],iv 1]) []:=by
  by_cases h1 : IsFun f
  · have h2 : ¬ IsCat d:=fun q=>h ⟨h1,q⟩
    have v1:=sp_l06Is_v hb (dec_t h1)
    have v2:=sp_l02Is_v hd (dec_f h2)
    refine spec_of_V (E:=TE) 0 Tryz.func33 rfl (by simp [Tryz.f33]) fun X hn hX=>?_
    repeat' (first|(with_reducible first|refine V_seq ?_|refine V_block ?_|refine V_skip ?_|refine V_ret ?_|refine V_exit ?_)|((with_reducible refine V_cond ?_);simp only [go_sem,simprocAttr])|((first|refine V_region (by rw [hn];rfl) ?_|refine V_drawn hmix (by rw [hn];rfl) ?_);intro K hK)|((first|with_reducible refine evOps_n ?_|((with_reducible apply evOps_g);rfl)|with_reducible refine evOpsD_n ?_|((with_reducible apply evOpsD_g);rfl));intro K hK;simp (contextual:=true) only [go_sem,simprocAttr])|with_reducible refine evOps_nil ?_|((with_reducible refine evOpsD_nil ?_ ?_);kernel_rfl)|((with_reducible refine hK _ ?_);clear hK K)|(with_reducible first|refine And.intro ?_ ?_|refine nxt_n ?_|refine nxt_r ?_|refine nxt_e ?_|refine blk_n ?_|refine blk_r ?_|refine blk_same ?_|refine blk_other (by decide) ?_|refine noG_n ?_|refine noG_r ?_|refine noG_e ?_|refine inR_mk ?_ ?_)|((with_reducible refine evCall_at 71 ?_);refine EvCall.mk (v1) cal_l06Is [] [] (by simp [go_sem] <;> (repeat' (first|rfl|constructor))) (by simp [go_sem] <;> (repeat' (first|rfl|constructor))) ?_;all_goals try simp only [go_sem,simprocAttr])|((with_reducible refine evCall_at 51 ?_);refine EvCall.mk (v2) cal_l02Is [] [] (by simp [go_sem] <;> (repeat' (first|rfl|constructor))) (by simp [go_sem] <;> (repeat' (first|rfl|constructor))) ?_;all_goals try simp only [go_sem,simprocAttr])|(refine fun (hc : (_ : Bool) = _)=>?_;try simp only [hcS] at hc))
    all_goals try (first|(with_reducible assumption)|((try simp only [Cat.F,Cat.T,Cat.I,Cat.C,Fun.O,Fun.A,Cat.Entry,Int.toNat_natCast] at *);omega))
    all_goals ((first|refine ret_auto ?_|refine ret_auto' ?_);simp only [go_sem,simprocAttr,Tryz.f33])
  · have v1:=sp_l06Is_v hb (dec_f h1)
    refine spec_of_V (E:=TE) 0 Tryz.func33 rfl (by simp [Tryz.f33]) fun X hn hX=>?_
    repeat' (first|(with_reducible first|refine V_seq ?_|refine V_block ?_|refine V_skip ?_|refine V_ret ?_|refine V_exit ?_)|((with_reducible refine V_cond ?_);simp only [go_sem,simprocAttr])|((first|refine V_region (by rw [hn];rfl) ?_|refine V_drawn hmix (by rw [hn];rfl) ?_);intro K hK)|((first|with_reducible refine evOps_n ?_|((with_reducible apply evOps_g);rfl)|with_reducible refine evOpsD_n ?_|((with_reducible apply evOpsD_g);rfl));intro K hK;simp (contextual:=true) only [go_sem,simprocAttr])|with_reducible refine evOps_nil ?_|((with_reducible refine evOpsD_nil ?_ ?_);kernel_rfl)|((with_reducible refine hK _ ?_);clear hK K)|(with_reducible first|refine And.intro ?_ ?_|refine nxt_n ?_|refine nxt_r ?_|refine nxt_e ?_|refine blk_n ?_|refine blk_r ?_|refine blk_same ?_|refine blk_other (by decide) ?_|refine noG_n ?_|refine noG_r ?_|refine noG_e ?_|refine inR_mk ?_ ?_)|((with_reducible refine evCall_at 71 ?_);refine EvCall.mk (v1) cal_l06Is [] [] (by simp [go_sem] <;> (repeat' (first|rfl|constructor))) (by simp [go_sem] <;> (repeat' (first|rfl|constructor))) ?_;all_goals try simp only [go_sem,simprocAttr])|(refine fun (hc : (_ : Bool) = _)=>?_;try simp only [hcS] at hc))
    all_goals try (first|(with_reducible assumption)|((try simp only [Cat.F,Cat.T,Cat.I,Cat.C,Fun.O,Fun.A,Cat.Entry,Int.toNat_natCast] at *);omega))
    all_goals ((first|refine ret_auto ?_|refine ret_auto' ?_);simp only [go_sem,simprocAttr,Tryz.f33])
theorem sp_spec_ComposeBefore_no {f : Fun} {d : Cat} (hb : FunB f) (hd : CatB d) (hf : IsFun f) (sd : IsCat d) (h : ¬ (FcY f.tgt d ∧ FcY f.src d)) : Spec Tryz.prog 33 [funV f,catV d] [] (.tup [.agg [iv 0,.v (.slice none 0 0),.v (.slice none 0 0),.v (.slice none 0 0),.v (.slice none 0 0),iv 0,.v (.slice none 0 0),.v (.slice none 0 0),.v (.slice none 0 0),.v (.slice none 0 0),.v (.slice none 0 0),.v (.slice none 0 0)],iv 3]) []:=by
  have v1:=sp_l06Is_v hb (dec_t hf)
  have v2:=sp_l02Is_v hd (dec_t sd)
  have hbo:=sp_l08Both_no hf.tgt sd hf.src sd hb.tgt hd hb.src hd h
  refine spec_of_V (E:=TE) 0 Tryz.func33 rfl (by simp [Tryz.f33]) fun X hn hX=>?_
  repeat' (first|(with_reducible first|refine V_seq ?_|refine V_block ?_|refine V_skip ?_|refine V_ret ?_|refine V_exit ?_)|((with_reducible refine V_cond ?_);simp only [go_sem,simprocAttr])|((first|refine V_region (by rw [hn];rfl) ?_|refine V_drawn hmix (by rw [hn];rfl) ?_);intro K hK)|((first|with_reducible refine evOps_n ?_|((with_reducible apply evOps_g);rfl)|with_reducible refine evOpsD_n ?_|((with_reducible apply evOpsD_g);rfl));intro K hK;simp (contextual:=true) only [go_sem,simprocAttr])|with_reducible refine evOps_nil ?_|((with_reducible refine evOpsD_nil ?_ ?_);kernel_rfl)|((with_reducible refine hK _ ?_);clear hK K)|(with_reducible first|refine And.intro ?_ ?_|refine nxt_n ?_|refine nxt_r ?_|refine nxt_e ?_|refine blk_n ?_|refine blk_r ?_|refine blk_same ?_|refine blk_other (by decide) ?_|refine noG_n ?_|refine noG_r ?_|refine noG_e ?_|refine inR_mk ?_ ?_)|((with_reducible refine evCall_at 71 ?_);refine EvCall.mk (v1) cal_l06Is [] [] (by simp [go_sem] <;> (repeat' (first|rfl|constructor))) (by simp [go_sem] <;> (repeat' (first|rfl|constructor))) ?_;all_goals try simp only [go_sem,simprocAttr])|((with_reducible refine evCall_at 51 ?_);refine EvCall.mk (v2) cal_l02Is [] [] (by simp [go_sem] <;> (repeat' (first|rfl|constructor))) (by simp [go_sem] <;> (repeat' (first|rfl|constructor))) ?_;all_goals try simp only [go_sem,simprocAttr])|((with_reducible refine evCall_at 72 ?_);refine EvCall.mk (hbo) cal_l08Both [] [] (by simp [go_sem] <;> (repeat' (first|rfl|constructor))) (by simp [go_sem] <;> (repeat' (first|rfl|constructor))) ?_;all_goals try simp only [go_sem,simprocAttr])|(refine fun (hc : (_ : Bool) = _)=>?_;try simp only [hcS] at hc))
  all_goals try (first|(with_reducible assumption)|((try simp only [Cat.F,Cat.T,Cat.I,Cat.C,Fun.O,Fun.A,Cat.Entry,Int.toNat_natCast] at *);omega))
  all_goals ((first|refine ret_auto ?_|refine ret_auto' ?_);simp only [go_sem,simprocAttr,Tryz.f33])
theorem sp_spec_ComposeBefore_yes {f : Fun} {d : Cat} (hb : FunB f) (hd : CatB d) (hf : IsFun f) (sd : IsCat d) (y1 : FcY f.tgt d) (y2 : FcY f.src d) : Spec Tryz.prog 33 [funV f,catV d] [] (.tup [.agg [iv (cbF f d).src.ob,.sl 0,.sl 1,.sl 2,.sl 3,iv (cbF f d).tgt.ob,.sl 4,.sl 5,.sl 6,.sl 7,.sl 8,.sl 9],iv 0]) [(0,⟨1,.arr (ints (cbF f d).src.fr)⟩),(1,⟨1,.arr (ints (cbF f d).src.to)⟩),(2,⟨1,.arr (ints (cbF f d).src.id)⟩),(3,⟨1,.arr (intss (cbF f d).src.co)⟩),(4,⟨1,.arr (ints (cbF f d).tgt.fr)⟩),(5,⟨1,.arr (ints (cbF f d).tgt.to)⟩),(6,⟨1,.arr (ints (cbF f d).tgt.id)⟩),(7,⟨1,.arr (intss (cbF f d).tgt.co)⟩),(8,⟨1,.arr (ints (cbF f d).obs)⟩),(9,⟨1,.arr (ints (cbF f d).ars)⟩)]:=by
  have v1:=sp_l06Is_v hb (dec_t hf)
  have v2:=sp_l02Is_v hd (dec_t sd)
  have hbo:=sp_l08Both_yes hf.tgt sd hf.src sd hb.tgt hd hb.src hd y1 y2
  have bs:=hb.src
  have bd:=hd
  have hfl : FL f.tgt d (fcL f.tgt d):=FL.of_funX
  have hfl2 : FL f.src d (fcL f.src d):=FL.of_funX
  have hw:=cb_w hf sd y1 y2
  have o1:=hf.fits.obl
  have o2:=hf.fits.arl
  have o3:=hf.fits.obw
  have s8:=hf.src.toShape.ob8
  have s40:=hf.src.toShape.m40
  have t8:=hf.tgt.toShape.ob8
  have t0:=hf.tgt.toShape.ob0
  have hrw : ∀ a,a < (fcA (fcL f.src d)).length → ((fcA (fcL f.src d)).getD a []).length ≤ 1048576:=fun a ha=>by have:=(hfl2.arr (getD_mem (d:=[]) ha)).len;omega
  have hfu:=sp_l06Make (c:=fcK d (fcL f.tgt d)) (d:=fcK d (fcL f.src d)) (p:=btO (fun i=>fcAt (fcL f.src d) (cbP f d i) (cbQ f d i)) (fcL f.tgt d).length) (q:=btA (fun i=>fcAt (fcL f.src d) (cbP f d i) (cbQ f d i)) (fcA (fcL f.tgt d)) (fcA (fcL f.src d)) (fun a=>thn f.obs (((fcA (fcL f.tgt d)).getD a []).drop 2)) (fcA (fcL f.tgt d)).length) (fcK_b d y1.2.1 y1.2.2) (fcK_b d y2.2.1 y2.2.2) (by rw [btO_len];have:=y1.2.1;omega) (by rw [btA_len];have:=y1.2.2;omega)
  have hth : ∀ i,i < (fcL f.tgt d).length → ThF f ((fcL f.tgt d).getD i default):=fun i hi=>cb_th hf bs bd hi
  have eF : cbF f d = ⟨fcK d (fcL f.tgt d),fcK d (fcL f.src d),btO (fun i=>fcAt (fcL f.src d) (cbP f d i) (cbQ f d i)) (fcL f.tgt d).length,btA (fun i=>fcAt (fcL f.src d) (cbP f d i) (cbQ f d i)) (fcA (fcL f.tgt d)) (fcA (fcL f.src d)) (fun a=>thn f.obs (((fcA (fcL f.tgt d)).getD a []).drop 2)) (fcA (fcL f.tgt d)).length⟩:=rfl
  rw [eF]
  have eP : ∀ i,thn f.obs ((fcL f.tgt d).getD i default).obs = cbP f d i:=fun i=>rfl
  have eQ : ∀ i,thn f.ars ((fcL f.tgt d).getD i default).ars = cbQ f d i:=fun i=>rfl
  obtain ⟨pl,hpl⟩ : ∃ pl : Nat → Nat,(fun i=>fcAt (fcL f.src d) (cbP f d i) (cbQ f d i)) = pl:=⟨_,rfl⟩
  rw [hpl] at hw hfu ⊢
  obtain ⟨L,hL⟩ : ∃ L,fcL f.tgt d = L:=⟨_,rfl⟩
  rw [hL] at hfl hw hfu hth hbo ⊢
  have hL8:=hw.l8
  have hA40:=hw.a40
  have hA2:=y2.2.2
  have hpart : ∀ i,i < L.length → (funsD L).part (i * 12) 12 = [.v (.int .i64 (L.getD i default).src.ob),ints (L.getD i default).src.fr,ints (L.getD i default).src.to,ints (L.getD i default).src.id,intss (L.getD i default).src.co,.v (.int .i64 (L.getD i default).tgt.ob),ints (L.getD i default).tgt.fr,ints (L.getD i default).tgt.to,ints (L.getD i default).tgt.id,intss (L.getD i default).tgt.co,ints (L.getD i default).obs,ints (L.getD i default).ars]:=fun i hi=>funs_part L i hi
  refine spec_of_V (E:=TE) 0 Tryz.func33 rfl (by simp [Tryz.f33]) fun X hn hX=>?_
  repeat' (first|(with_reducible first|refine V_seq ?_|refine V_block ?_|refine V_skip ?_|refine V_ret ?_|refine V_exit ?_)|((with_reducible refine V_cond ?_);simp only [go_sem,simprocAttr])|((first|refine V_region (by rw [hn];rfl) ?_|refine V_drawn hmix (by rw [hn];rfl) ?_);intro K hK)|((first|with_reducible refine evOps_n ?_|((with_reducible apply evOps_g);rfl)|with_reducible refine evOpsD_n ?_|((with_reducible apply evOpsD_g);rfl));intro K hK;simp (contextual:=true) only [go_sem,simprocAttr])|with_reducible refine evOps_nil ?_|((with_reducible refine evOpsD_nil ?_ ?_);kernel_rfl)|((with_reducible refine hK _ ?_);clear hK K)|(with_reducible first|refine And.intro ?_ ?_|refine nxt_n ?_|refine nxt_r ?_|refine nxt_e ?_|refine blk_n ?_|refine blk_r ?_|refine blk_same ?_|refine blk_other (by decide) ?_|refine noG_n ?_|refine noG_r ?_|refine noG_e ?_|refine inR_mk ?_ ?_)|((with_reducible refine evCall_at 71 ?_);refine EvCall.mk (v1) cal_l06Is [] [] (by simp [go_sem] <;> (repeat' (first|rfl|constructor))) (by simp [go_sem] <;> (repeat' (first|rfl|constructor))) ?_;all_goals try simp only [go_sem,simprocAttr])|((with_reducible refine evCall_at 51 ?_);refine EvCall.mk (v2) cal_l02Is [] [] (by simp [go_sem] <;> (repeat' (first|rfl|constructor))) (by simp [go_sem] <;> (repeat' (first|rfl|constructor))) ?_;all_goals try simp only [go_sem,simprocAttr])|((with_reducible refine evCall_at 72 ?_);refine EvCall.mk (hbo) cal_l08Both [(0,3),(1,4),(2,5),(3,6),(4,7),(5,8),(6,9),(7,10),(8,11),(9,12),(10,13),(11,14)] [] (by simp [go_sem] <;> (repeat' (first|rfl|constructor))) (by simp [go_sem] <;> (repeat' (first|rfl|constructor))) ?_;all_goals try simp only [go_sem,simprocAttr])|(refine fun (hc : (_ : Bool) = _)=>?_;try simp only [hcS] at hc))
  all_goals try (first|(with_reducible assumption)|((try simp only [Cat.F,Cat.T,Cat.I,Cat.C,Fun.O,Fun.A,Cat.Entry,Int.toNat_natCast] at *);omega))
  refine V_loopK (G:={i : Nat // i ≤ L.length ∧ (True)}) (fun ⟨i,_⟩=>[(11,iv i),(3,.ptr 1 0),(6,.ptr 15 0),(7,.ptr 16 0),(9,.sl 17),(10,.sl 18)]) [2,4,5] (fun ⟨i,_⟩=>[(17,⟨1,.arr (ints (btO pl i))⟩),(18,⟨1,.arr (ints [])⟩)]) [17,18] (fun zz=>L.length - zz.1) ⟨0,Nat.zero_le _,by first|trivial|simp⟩ ?_ ?_
  · exact Imp.auto hX (by simp [go_sem,simprocAttr])
  rintro ⟨i,hii,hwi⟩
  simp only [go_sem,simprocAttr]
  have hol:=btO_len (pl:=pl) (i:=i)
  rcases Nat.lt_or_ge i L.length with hli | hgi
  · have hpi:=hpart i hli
    have h1i:=sp_l06Then (hth i hli)
    have e1:=btO_succ (pl:=pl) (i:=i)
    have hal : (thF f (L.getD i default)).ars.length ≤ 64:=by show (thn f.ars (L.getD i default).ars).length ≤ 64;rw [thn_len];omega
    have ho:=sp_l08Object (ob:=((fcL f.src d).length : Int)) (fr:=(fcK d (fcL f.src d)).fr) (to:=(fcK d (fcL f.src d)).to) (id:=(fcK d (fcL f.src d)).id) (co:=(fcK d (fcL f.src d)).co) (A:=fcA (fcL f.src d)) (g:=thF f (L.getD i default)) (hw.ob i hli) hal
    repeat' (first|(rw [hpi];simp only [go_sem,simprocAttr])|(with_reducible first|refine V_seq ?_|refine V_block ?_|refine V_skip ?_|refine V_ret ?_|refine V_exit ?_)|((with_reducible refine V_cond ?_);simp only [go_sem,simprocAttr])|((first|refine V_region (by rw [hn];rfl) ?_|refine V_drawn hmix (by rw [hn];rfl) ?_);intro K hK)|((first|with_reducible refine evOps_n ?_|((with_reducible apply evOps_g);rfl)|with_reducible refine evOpsD_n ?_|((with_reducible apply evOpsD_g);rfl));intro K hK;simp (contextual:=true) only [go_sem,simprocAttr])|with_reducible refine evOps_nil ?_|((with_reducible refine evOpsD_nil ?_ ?_);kernel_rfl)|((with_reducible refine hK _ ?_);clear hK K)|(with_reducible first|refine And.intro ?_ ?_|refine nxt_n ?_|refine nxt_r ?_|refine nxt_e ?_|refine blk_n ?_|refine blk_r ?_|refine blk_same ?_|refine blk_other (by decide) ?_|refine noG_n ?_|refine noG_r ?_|refine noG_e ?_|refine inR_mk ?_ ?_)|((with_reducible refine evCall_at 73 ?_);refine EvCall.mk (h1i) cal_l06Then [(0,19),(1,20),(2,21),(3,22),(4,23),(5,24),(6,25),(7,26),(8,27),(9,28)] [7] (by simp [go_sem] <;> (repeat' (first|rfl|constructor))) (by simp [go_sem] <;> (repeat' (first|rfl|constructor))) ?_;all_goals try simp only [go_sem,simprocAttr])|((with_reducible refine evCall_at 64 ?_);refine EvCall.mk (ho) cal_l08Object [] [9,10,11,12,13,14,19,20,21,22,23,24,25,26,27,28] (by simp [go_sem] <;> (repeat' (first|rfl|constructor))) (by simp [go_sem] <;> (repeat' (first|rfl|constructor))) ?_;all_goals try simp only [go_sem,simprocAttr])|(refine fun (hc : (_ : Bool) = _)=>?_;try simp only [hcS] at hc))
    all_goals try (first|(with_reducible assumption)|((try simp only [Cat.F,Cat.T,Cat.I,Cat.C,Fun.O,Fun.A,Cat.Entry,Int.toNat_natCast] at *);omega))
    · refine ⟨⟨i + 1,by omega,(by trivial)⟩,by simp only;omega,Imp.auto hX (by simp only [go_sem,simprocAttr,e1])⟩
  · have ei : i = L.length:=by omega
    subst ei
    repeat' (first|(with_reducible first|refine V_seq ?_|refine V_block ?_|refine V_skip ?_|refine V_ret ?_|refine V_exit ?_)|((with_reducible refine V_cond ?_);simp only [go_sem,simprocAttr])|((first|refine V_region (by rw [hn];rfl) ?_|refine V_drawn hmix (by rw [hn];rfl) ?_);intro K hK)|((first|with_reducible refine evOps_n ?_|((with_reducible apply evOps_g);rfl)|with_reducible refine evOpsD_n ?_|((with_reducible apply evOpsD_g);rfl));intro K hK;simp (contextual:=true) only [go_sem,simprocAttr])|with_reducible refine evOps_nil ?_|((with_reducible refine evOpsD_nil ?_ ?_);kernel_rfl)|((with_reducible refine hK _ ?_);clear hK K)|(with_reducible first|refine And.intro ?_ ?_|refine nxt_n ?_|refine nxt_r ?_|refine nxt_e ?_|refine blk_n ?_|refine blk_r ?_|refine blk_same ?_|refine blk_other (by decide) ?_|refine noG_n ?_|refine noG_r ?_|refine noG_e ?_|refine inR_mk ?_ ?_)|(refine fun (hc : (_ : Bool) = _)=>?_;try simp only [hcS] at hc))
    all_goals try (first|(with_reducible assumption)|((try simp only [Cat.F,Cat.T,Cat.I,Cat.C,Fun.O,Fun.A,Cat.Entry,Int.toNat_natCast] at *);omega))
    refine V_loopK (G:={a : Nat // a ≤ (fcA L).length ∧ (True)}) (fun ⟨a,_⟩=>[(12,iv a),(3,.ptr 1 0),(6,.ptr 15 0),(7,.ptr 16 0),(9,.sl 17),(10,.sl 18)]) [2,4,5] (fun ⟨a,_⟩=>[(17,⟨1,.arr (ints (btO pl L.length))⟩),(18,⟨1,.arr (ints (btA pl (fcA L) (fcA (fcL f.src d)) (fun a=>thn f.obs (((fcA L).getD a []).drop 2)) a))⟩)]) [17,18] (fun zz=>(fcA L).length - zz.1) ⟨0,Nat.zero_le _,by first|trivial|simp⟩ ?_ ?_
    · exact Imp.auto hX (by simp [go_sem,simprocAttr])
    rintro ⟨a,hia,hwa⟩
    simp only [go_sem,simprocAttr]
    have hal:=btA_len (pl:=pl) (A:=fcA L) (A2:=fcA (fcL f.src d)) (cm:=fun a=>thn f.obs (((fcA L).getD a []).drop 2)) (a:=a)
    rcases Nat.lt_or_ge a (fcA L).length with hla | hga
    · obtain ⟨a1,a2,a3,a4⟩:=hw.ar a hla
      have hr:=hfl.arr (getD_mem (d:=[]) hla)
      have hlen:=hr.len
      have hd2 : (((fcA L).getD a []).drop 2).length = f.tgt.ob.toNat:=by rw [List.length_drop];omega
      have p1:=btO_at (pl:=pl) a3.2
      have p2:=btO_at (pl:=pl) a4.2
      have hth2:=sp_l01Then (f:=f.obs) (g:=((fcA L).getD a []).drop 2) (by omega) (by omega) (fun i hi=>by have:=o3 i hi;omega)
      have htl:=thn_len f.obs (((fcA L).getD a []).drop 2)
      have har:=sp_l08Arrow (ob:=((fcL f.src d).length : Int)) (fr:=(fcK d (fcL f.src d)).fr) (to:=(fcK d (fcL f.src d)).to) (id:=(fcK d (fcL f.src d)).id) (co:=(fcK d (fcL f.src d)).co) (L:=fcA (fcL f.src d)) (F:=fcL f.src d) (i:=(pl (((fcA L).getD a []).getD 0 0).toNat : Int)) (j:=(pl (((fcA L).getD a []).getD 1 0).toNat : Int)) (p:=thn f.obs (((fcA L).getD a []).drop 2)) (by omega) hrw (by omega)
      have e2 : btA pl (fcA L) (fcA (fcL f.src d)) (fun a=>thn f.obs (((fcA L).getD a []).drop 2)) (a + 1) = btA pl (fcA L) (fcA (fcL f.src d)) (fun a=>thn f.obs (((fcA L).getD a []).drop 2)) a ++ [fnd (fcA (fcL f.src d)) ((pl (((fcA L).getD a []).getD 0 0).toNat : Int) :: (pl (((fcA L).getD a []).getD 1 0).toNat : Int) :: thn f.obs (((fcA L).getD a []).drop 2))]:=btA_succ
      repeat' (first|(rw [p1];simp only [go_sem,simprocAttr])|(rw [p2];simp only [go_sem,simprocAttr])|(with_reducible first|refine V_seq ?_|refine V_block ?_|refine V_skip ?_|refine V_ret ?_|refine V_exit ?_)|((with_reducible refine V_cond ?_);simp only [go_sem,simprocAttr])|((first|refine V_region (by rw [hn];rfl) ?_|refine V_drawn hmix (by rw [hn];rfl) ?_);intro K hK)|((first|with_reducible refine evOps_n ?_|((with_reducible apply evOps_g);rfl)|with_reducible refine evOpsD_n ?_|((with_reducible apply evOpsD_g);rfl));intro K hK;simp (contextual:=true) only [go_sem,simprocAttr])|with_reducible refine evOps_nil ?_|((with_reducible refine evOpsD_nil ?_ ?_);kernel_rfl)|((with_reducible refine hK _ ?_);clear hK K)|(with_reducible first|refine And.intro ?_ ?_|refine nxt_n ?_|refine nxt_r ?_|refine nxt_e ?_|refine blk_n ?_|refine blk_r ?_|refine blk_same ?_|refine blk_other (by decide) ?_|refine noG_n ?_|refine noG_r ?_|refine noG_e ?_|refine inR_mk ?_ ?_)|((with_reducible refine evCall_at 74 ?_);refine EvCall.mk (hth2) cal_l01Then [(0,19)] [8] (by simp [go_sem] <;> (repeat' (first|rfl|constructor))) (by simp [go_sem] <;> (repeat' (first|rfl|constructor))) ?_;all_goals try simp only [go_sem,simprocAttr])|((with_reducible refine evCall_at 66 ?_);refine EvCall.mk (har) cal_l08Arrow [] [9,10,11,12,13,14,19] (by simp [go_sem] <;> (repeat' (first|rfl|constructor))) (by simp [go_sem] <;> (repeat' (first|rfl|constructor))) ?_;all_goals try simp only [go_sem,simprocAttr])|(refine hook_drop (n:=2) rfl rfl (by simp [go_sem,simprocAttr]) rfl (by omega) ?_;simp only [go_sem,simprocAttr])|(refine fun (hc : (_ : Bool) = _)=>?_;try simp only [hcS] at hc))
      all_goals try (first|(with_reducible assumption)|((try simp only [Cat.F,Cat.T,Cat.I,Cat.C,Fun.O,Fun.A,Cat.Entry,Int.toNat_natCast] at *);omega))
      · refine ⟨⟨a + 1,by omega,(by trivial)⟩,by simp only;omega,Imp.auto hX (by simp only [go_sem,simprocAttr,e2])⟩
    · have ea : a = (fcA L).length:=by omega
      subst ea
      repeat' (first|(with_reducible first|refine V_seq ?_|refine V_block ?_|refine V_skip ?_|refine V_ret ?_|refine V_exit ?_)|((with_reducible refine V_cond ?_);simp only [go_sem,simprocAttr])|((first|refine V_region (by rw [hn];rfl) ?_|refine V_drawn hmix (by rw [hn];rfl) ?_);intro K hK)|((first|with_reducible refine evOps_n ?_|((with_reducible apply evOps_g);rfl)|with_reducible refine evOpsD_n ?_|((with_reducible apply evOpsD_g);rfl));intro K hK;simp (contextual:=true) only [go_sem,simprocAttr])|with_reducible refine evOps_nil ?_|((with_reducible refine evOpsD_nil ?_ ?_);kernel_rfl)|((with_reducible refine hK _ ?_);clear hK K)|(with_reducible first|refine And.intro ?_ ?_|refine nxt_n ?_|refine nxt_r ?_|refine nxt_e ?_|refine blk_n ?_|refine blk_r ?_|refine blk_same ?_|refine blk_other (by decide) ?_|refine noG_n ?_|refine noG_r ?_|refine noG_e ?_|refine inR_mk ?_ ?_)|((with_reducible refine evCall_at 61 ?_);refine EvCall.mk (hfu) cal_l06Make [(0,19),(1,20),(2,21),(3,22),(4,23),(5,24),(6,25),(7,26),(8,27),(9,28)] [3,4,5,6,9,10,11,12,17,18] (by simp [go_sem] <;> (repeat' (first|rfl|constructor))) (by simp [go_sem] <;> (repeat' (first|rfl|constructor))) ?_;all_goals try simp only [go_sem,simprocAttr])|(refine fun (hc : (_ : Bool) = _)=>?_;try simp only [hcS] at hc))
      all_goals try (first|(with_reducible assumption)|((try simp only [Cat.F,Cat.T,Cat.I,Cat.C,Fun.O,Fun.A,Cat.Entry,Int.toNat_natCast] at *);omega))
      · (first|refine ret_auto ?_|refine ret_auto' ?_);simp only [go_sem,simprocAttr,Tryz.f33]
end Go.Eng
end
