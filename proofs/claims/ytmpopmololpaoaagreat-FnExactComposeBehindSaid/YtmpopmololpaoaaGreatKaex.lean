/- Several texts in one: R23, R24. -/
import Derived.Test.YtmpopmololpaoaaGreatKdx
import Derived.Test.YtmpopmololpaoaaGreatKadx
set_option linter.unusedSimpArgs false
set_option linter.unusedVariables false
set_option maxRecDepth 100000
set_option maxHeartbeats 16000000
section
namespace Go.Eng
open Go Go.Proofs Go.Cats
theorem fc_at {c d : Cat} {p q : List Int} {i : Nat} (h : ObOK (fcL c d) p q i) : (fcL c d).getD i default = ⟨c,d,p,q⟩:=by
  have hfl : FL c d (fcL c d):=FL.of_funX
  obtain ⟨h1,h2,_⟩:=hfl i h.lt
  rw [← Fun.eta h1 h2,h.po,h.qo]
theorem bt_mk {c d c' d' : Cat} (sc : IsCat c) (sd : IsCat d) (sc' : IsCat c') (sd' : IsCat d') (hy : FcY c d) (hy' : FcY c' d') {P Q : Nat → List Int} {T : List Int → List Int} {img : Nat → Fun}
    (hi : ∀ i,(img i).obs = P i ∧ (img i).ars = Q i) (hf : ∀ i,i < (fcL c d).length → Fits ⟨c',d',P i,Q i⟩)
    (hn : ∀ i j t,i < (fcL c d).length → j < (fcL c d).length → t ∈ natA ((fcL c d).getD i default) ((fcL c d).getD j default) → T t ∈ natA ⟨c',d',P i,Q i⟩ ⟨c',d',P j,Q j⟩) :
    BtW (fcL c d) (fcL c' d') (fcA (fcL c d)) (fcA (fcL c' d')) (fun i=>fcAt (fcL c' d') (P i) (Q i)) (fun a=>T (((fcA (fcL c d)).getD a []).drop 2)) img:=by
  have hfl : FL c d (fcL c d):=FL.of_funX
  have hfl' : FL c' d' (fcL c' d'):=FL.of_funX
  have c8:=sc.toShape.ob8
  have c8':=sc'.toShape.ob8
  have hob : ∀ i,i < (fcL c d).length → ObOK (fcL c' d') (P i) (Q i) (fcAt (fcL c' d') (P i) (Q i)):=fun i hli=>fc_ob sc'.toShape sd'.toShape hy'.2.1 (hf i hli)
  have hmm : ∀ a,a < (fcA (fcL c d)).length → T (((fcA (fcL c d)).getD a []).drop 2) ∈ natA ⟨c',d',P (((fcA (fcL c d)).getD a []).getD 0 0).toNat,Q (((fcA (fcL c d)).getD a []).getD 0 0).toNat⟩ ⟨c',d',P (((fcA (fcL c d)).getD a []).getD 1 0).toNat,Q (((fcA (fcL c d)).getD a []).getD 1 0).toNat⟩:=fun a ha=>by
    have hr:=hfl.arr (getD_mem (d:=[]) ha)
    exact hn _ _ _ hr.i1 hr.j1 hr.nat
  refine ⟨fun i hli=>?_,fc_key hfl' hy'.2.1 sd'.toShape,fun a ha=>?_,fun a ha=>?_,hy.2.2,hy.2.1,fun a ha=>?_⟩
  · rw [(hi i).1,(hi i).2];exact hob i hli
  · have hr:=hfl.arr (getD_mem (d:=[]) ha)
    have o1:=hob _ hr.i1
    have o2:=hob _ hr.j1
    refine mem_fcA.2 ⟨_,_,_,o1.lt,o2.lt,?_,rfl⟩
    rw [fc_at o1,fc_at o2]
    exact hmm a ha
  · have:=(mem_natA.1 (hmm a ha)).1
    have e : (⟨c',d',P (((fcA (fcL c d)).getD a []).getD 0 0).toNat,Q (((fcA (fcL c d)).getD a []).getD 0 0).toNat⟩ : Fun).src.ob.toNat = c'.ob.toNat:=rfl
    rw [e] at this
    omega
  · have hr:=hfl.arr (getD_mem (d:=[]) ha)
    have:=hr.len
    exact ⟨by omega,by omega,⟨hr.i0,hr.i1⟩,hr.j0,hr.j1⟩
noncomputable def cbP (f : Fun) (d : Cat) (i : Nat) : List Int:=thn f.obs ((fcL f.tgt d).getD i default).obs
noncomputable def cbQ (f : Fun) (d : Cat) (i : Nat) : List Int:=thn f.ars ((fcL f.tgt d).getD i default).ars
noncomputable def cbF (f : Fun) (d : Cat) : Fun:=⟨fcK d (fcL f.tgt d),fcK d (fcL f.src d),btO (fun i=>fcAt (fcL f.src d) (cbP f d i) (cbQ f d i)) (fcL f.tgt d).length,btA (fun i=>fcAt (fcL f.src d) (cbP f d i) (cbQ f d i)) (fcA (fcL f.tgt d)) (fcA (fcL f.src d)) (fun a=>thn f.obs (((fcA (fcL f.tgt d)).getD a []).drop 2)) (fcA (fcL f.tgt d)).length⟩
def CbLC (f : Fun) : LC:=⟨[.bptr [] (funD f)],rfl⟩
@[go_sem] theorem CbLC_l (f : Fun) : (CbLC f).l = [.bptr [] (funD f)]:=rfl
attribute [local go_sem] List.set_cons_zero List.set_cons_succ
def CbOut (f : Fun) (d : Cat) (g : Fun) (code : Int) : Prop :=
  (¬ (IsFun f ∧ IsCat d) ∧ g = nilF ∧ code = 1) ∨ (IsFun f ∧ IsCat d ∧ ((¬ (FcY f.tgt d ∧ FcY f.src d) ∧ g = nilF ∧ code = 3) ∨ (FcY f.tgt d ∧ FcY f.src d ∧ g = cbF f d ∧ code = 0)))
theorem CbOut.ex (f : Fun) (d : Cat) : ∃ g code,CbOut f d g code:=by
  by_cases h : IsFun f ∧ IsCat d
  · by_cases h3 : FcY f.tgt d ∧ FcY f.src d
    · exact ⟨_,_,.inr ⟨h.1,h.2,.inr ⟨h3.1,h3.2,rfl,rfl⟩⟩⟩
    · exact ⟨_,_,.inr ⟨h.1,h.2,.inl ⟨h3,rfl,rfl⟩⟩⟩
  · exact ⟨_,_,.inl ⟨h,rfl,rfl⟩⟩
theorem is_v {f : Fun} {v : Bool} (hb : FunB f) (h : dec (IsFun f) = v) : Spec Tryz.prog 75 [.bptr [] (funD f)] [] (bv v) []:=by
  subst h
  exact sp_Functor_isFunctor hb
theorem ic_v {c : Cat} {v : Bool} (hb : CatB c) (h : dec (IsCat c) = v) : Spec Tryz.prog 76 [.bptr [] (catD c)] [] (bv v) []:=by
  subst h
  exact sp_Category_isCategory hb
end Go.Eng
end
section
namespace Go.Eng
open Go Go.Proofs Go.Cats
attribute [local go_sem] List.set_cons_zero List.set_cons_succ btO_zero btA_zero
theorem cal_l08Both : Callable Tryz.prog 72:=⟨_,Tryz.func72,rfl,rfl⟩
theorem sp_l08Both_no {c d e f : Cat} (sc : IsCat c) (sd : IsCat d) (se : IsCat e) (sf : IsCat f) (bc : CatB c) (bd : CatB d) (be : CatB e) (bf : CatB f) (h : ¬ (FcY c d ∧ FcY e f)) : Spec Tryz.prog 72 [catV c,catV d,catV e,catV f] [] (.tup [.agg [iv 0,.v (.slice none 0 0),.v (.slice none 0 0),.v (.slice none 0 0),.v (.slice none 0 0),.v (.slice none 0 0),.v (.slice none 0 0)],.agg [iv 0,.v (.slice none 0 0),.v (.slice none 0 0),.v (.slice none 0 0),.v (.slice none 0 0),.v (.slice none 0 0),.v (.slice none 0 0)],iv 3]) []:=by
  by_cases y1 : FcY c d
  · have y2 : ¬ FcY e f:=fun q=>h ⟨y1,q⟩
    have h1:=sp_l08Make_o sc sd bc bd (.inl ⟨y1,rfl,rfl⟩)
    have h2:=sp_l08Make_o se sf be bf (.inr ⟨y2,rfl,rfl⟩)
    refine spec_of_V (E:=TE) 0 Tryz.func72 rfl (by simp [Tryz.f72]) fun X hn hX=>?_
    repeat' (first|(with_reducible first|refine V_seq ?_|refine V_skip ?_|refine V_ret ?_)|((with_reducible refine V_cond ?_);simp only [go_sem,simprocAttr])|((first|refine V_region (by rw [hn];rfl) ?_|refine V_drawn hmix (by rw [hn];rfl) ?_);intro K hK)|((first|with_reducible refine evOps_n ?_|((with_reducible apply evOps_g);rfl)|with_reducible refine evOpsD_n ?_|((with_reducible apply evOpsD_g);rfl));intro K hK;simp (contextual:=true) only [go_sem,simprocAttr])|with_reducible refine evOps_nil ?_|((with_reducible refine evOpsD_nil ?_ ?_);kernel_rfl)|((with_reducible refine hK _ ?_);clear hK K)|(with_reducible first|refine And.intro ?_ ?_|refine nxt_n ?_|refine nxt_r ?_|refine inR_mk ?_ ?_)|((with_reducible refine (id ?_ : EvCall _ _ [.agg [iv c.ob,.bor [] (ints c.fr),.bor [] (ints c.to),.bor [] (ints c.id),.bor [] (intss c.co)],.agg [iv d.ob,.bor [] (ints d.fr),.bor [] (ints d.to),.bor [] (ints d.id),.bor [] (intss d.co)]] _ _));refine EvCall.mk (h1) cal_l08Make [(0,6),(1,7),(2,8),(3,9),(4,10),(5,11)] [] (by simp [go_sem] <;> (repeat' (first|rfl|constructor))) (by simp [go_sem] <;> (repeat' (first|rfl|constructor))) ?_;all_goals try simp only [go_sem,simprocAttr])|((with_reducible refine evCall_at 52 ?_);refine EvCall.mk (h2) cal_l08Make [] [] (by simp [go_sem] <;> (repeat' (first|rfl|constructor))) (by simp [go_sem] <;> (repeat' (first|rfl|constructor))) ?_;all_goals try simp only [go_sem,simprocAttr])|(refine fun (hc : (_ : Bool) = _)=>?_;try simp only [hcS] at hc))
    all_goals try (first|(with_reducible assumption)|((try simp only [Cat.F,Cat.T,Cat.I,Cat.C,Fun.O,Fun.A,Cat.Entry,Int.toNat_natCast] at *);omega))
    all_goals ((first|refine ret_auto ?_|refine ret_auto' ?_);simp only [go_sem,simprocAttr,Tryz.f72])
  · have h1:=sp_l08Make_o sc sd bc bd (.inr ⟨y1,rfl,rfl⟩)
    refine spec_of_V (E:=TE) 0 Tryz.func72 rfl (by simp [Tryz.f72]) fun X hn hX=>?_
    repeat' (first|(with_reducible first|refine V_seq ?_|refine V_skip ?_|refine V_ret ?_)|((with_reducible refine V_cond ?_);simp only [go_sem,simprocAttr])|((first|refine V_region (by rw [hn];rfl) ?_|refine V_drawn hmix (by rw [hn];rfl) ?_);intro K hK)|((first|with_reducible refine evOps_n ?_|((with_reducible apply evOps_g);rfl)|with_reducible refine evOpsD_n ?_|((with_reducible apply evOpsD_g);rfl));intro K hK;simp (contextual:=true) only [go_sem,simprocAttr])|with_reducible refine evOps_nil ?_|((with_reducible refine evOpsD_nil ?_ ?_);kernel_rfl)|((with_reducible refine hK _ ?_);clear hK K)|(with_reducible first|refine And.intro ?_ ?_|refine nxt_n ?_|refine nxt_r ?_|refine inR_mk ?_ ?_)|((with_reducible refine evCall_at 52 ?_);refine EvCall.mk (h1) cal_l08Make [] [] (by simp [go_sem] <;> (repeat' (first|rfl|constructor))) (by simp [go_sem] <;> (repeat' (first|rfl|constructor))) ?_;all_goals try simp only [go_sem,simprocAttr])|(refine fun (hc : (_ : Bool) = _)=>?_;try simp only [hcS] at hc))
    all_goals try (first|(with_reducible assumption)|((try simp only [Cat.F,Cat.T,Cat.I,Cat.C,Fun.O,Fun.A,Cat.Entry,Int.toNat_natCast] at *);omega))
    all_goals ((first|refine ret_auto ?_|refine ret_auto' ?_);simp only [go_sem,simprocAttr,Tryz.f72])
theorem sp_l08Both_yes {c d e f : Cat} (sc : IsCat c) (sd : IsCat d) (se : IsCat e) (sf : IsCat f) (bc : CatB c) (bd : CatB d) (be : CatB e) (bf : CatB f) (y1 : FcY c d) (y2 : FcY e f) : Spec Tryz.prog 72 [catV c,catV d,catV e,catV f] [] (.tup [.agg [iv ((fcL c d).length : Int),.sl 0,.sl 1,.sl 2,.sl 3,.sl 4,.sl 5],.agg [iv ((fcL e f).length : Int),.sl 6,.sl 7,.sl 8,.sl 9,.sl 10,.sl 11],iv 0])
    [(0,⟨1,.arr (ints (fcK d (fcL c d)).fr)⟩),(1,⟨1,.arr (ints (fcK d (fcL c d)).to)⟩),(2,⟨1,.arr (ints (fcK d (fcL c d)).id)⟩),(3,⟨1,.arr (intss (fcK d (fcL c d)).co)⟩),(4,⟨1,.arr (funsD (fcL c d))⟩),(5,⟨1,.arr (intss (fcA (fcL c d)))⟩),(6,⟨1,.arr (ints (fcK f (fcL e f)).fr)⟩),(7,⟨1,.arr (ints (fcK f (fcL e f)).to)⟩),(8,⟨1,.arr (ints (fcK f (fcL e f)).id)⟩),(9,⟨1,.arr (intss (fcK f (fcL e f)).co)⟩),(10,⟨1,.arr (funsD (fcL e f))⟩),(11,⟨1,.arr (intss (fcA (fcL e f)))⟩)]:=by
  have h1:=sp_l08Make_o sc sd bc bd (.inl ⟨y1,rfl,rfl⟩)
  have h2:=sp_l08Make_o se sf be bf (.inl ⟨y2,rfl,rfl⟩)
  refine spec_of_V (E:=TE) 0 Tryz.func72 rfl (by simp [Tryz.f72]) fun X hn hX=>?_
  repeat' (first|(with_reducible first|refine V_seq ?_|refine V_skip ?_|refine V_ret ?_)|((with_reducible refine V_cond ?_);simp only [go_sem,simprocAttr])|((first|refine V_region (by rw [hn];rfl) ?_|refine V_drawn hmix (by rw [hn];rfl) ?_);intro K hK)|((first|with_reducible refine evOps_n ?_|((with_reducible apply evOps_g);rfl)|with_reducible refine evOpsD_n ?_|((with_reducible apply evOpsD_g);rfl));intro K hK;simp (contextual:=true) only [go_sem,simprocAttr])|with_reducible refine evOps_nil ?_|((with_reducible refine evOpsD_nil ?_ ?_);kernel_rfl)|((with_reducible refine hK _ ?_);clear hK K)|(with_reducible first|refine And.intro ?_ ?_|refine nxt_n ?_|refine nxt_r ?_|refine inR_mk ?_ ?_)|((with_reducible refine (id ?_ : EvCall _ _ [.agg [iv c.ob,.bor [] (ints c.fr),.bor [] (ints c.to),.bor [] (ints c.id),.bor [] (intss c.co)],.agg [iv d.ob,.bor [] (ints d.fr),.bor [] (ints d.to),.bor [] (ints d.id),.bor [] (intss d.co)]] _ _));refine EvCall.mk (h1) cal_l08Make [(0,6),(1,7),(2,8),(3,9),(4,10),(5,11)] [] (by simp [go_sem] <;> (repeat' (first|rfl|constructor))) (by simp [go_sem] <;> (repeat' (first|rfl|constructor))) ?_;all_goals try simp only [go_sem,simprocAttr])|((with_reducible refine evCall_at 52 ?_);refine EvCall.mk (h2) cal_l08Make [(0,13),(1,14),(2,15),(3,16),(4,17),(5,18)] [] (by simp [go_sem] <;> (repeat' (first|rfl|constructor))) (by simp [go_sem] <;> (repeat' (first|rfl|constructor))) ?_;all_goals try simp only [go_sem,simprocAttr])|(refine fun (hc : (_ : Bool) = _)=>?_;try simp only [hcS] at hc))
  all_goals try (first|(with_reducible assumption)|((try simp only [Cat.F,Cat.T,Cat.I,Cat.C,Fun.O,Fun.A,Cat.Entry,Int.toNat_natCast] at *);omega))
  all_goals ((first|refine ret_auto ?_|refine ret_auto' ?_);simp only [go_sem,simprocAttr,Tryz.f72])
theorem sp_l06Is_v {f : Fun} {v : Bool} (hb : FunB f) (h : dec (IsFun f) = v) : Spec Tryz.prog 71 [funV f] [] (bv v) []:=by
  subst h
  exact sp_l06Is hb
end Go.Eng
end
