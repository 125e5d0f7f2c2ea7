/- The law FnExactComposeBehind is true of the given program: for every category and every functor the call returns true, and both read behind it as they did. No condition. -/
import Derived.Test.YtmpopmololpaoaaGreatKdx
import Derived.Test.YtmpopmololpaoaaGreatKagx
import Derived.Test.YtmpopmololpaoaaGreatRows
import Derived.JoinedOf
import Derived.ProofKit
set_option linter.unusedSimpArgs false
set_option linter.unusedVariables false
set_option maxRecDepth 100000
set_option maxHeartbeats 16000000
namespace Go.Eng
open Go Go.Proofs Go.Cats
theorem ChOut.b {c : Cat} {g : Fun} {k : Fun} {code : Int} (h : ChOut c g k code) : FunB k:=by
  rcases h with ⟨_,rfl,_⟩|⟨_,_,⟨_,rfl,_⟩|⟨y1,y2,rfl,_⟩⟩
  · exact nilF_b
  · exact nilF_b
  · exact chF_b y1 y2
theorem sp_ComposeBehind_at {c : Cat} {g : Fun} {k : Fun} {code : Int} (hc : CatB c) (hb : FunB g) (h : ChOut c g k code) : Spec Tryz.prog 37 [catV c,funV g] [] (.tup [.agg [iv k.src.ob,.sl 0,.sl 1,.sl 2,.sl 3,iv k.tgt.ob,.sl 4,.sl 5,.sl 6,.sl 7,.sl 8,.sl 9],iv code]) [(0,⟨1,.arr (ints k.src.fr)⟩),(1,⟨1,.arr (ints k.src.to)⟩),(2,⟨1,.arr (ints k.src.id)⟩),(3,⟨1,.arr (intss k.src.co)⟩),(4,⟨1,.arr (ints k.tgt.fr)⟩),(5,⟨1,.arr (ints k.tgt.to)⟩),(6,⟨1,.arr (ints k.tgt.id)⟩),(7,⟨1,.arr (intss k.tgt.co)⟩),(8,⟨1,.arr (ints k.obs)⟩),(9,⟨1,.arr (ints k.ars)⟩)]:=by
  rcases h with ⟨h,rfl,rfl⟩|⟨sc,hg,⟨h,rfl,rfl⟩|⟨y1,y2,rfl,rfl⟩⟩
  · exact adoptF (sp_ComposeBehind_bad hc hb h)
  · exact adoptF (sp_ComposeBehind_no hc hb sc hg h)
  · exact sp_ComposeBehind_yes hc hb sc hg y1 y2
theorem sp_spec_ComposeBehind_at {c : Cat} {g : Fun} {k : Fun} {code : Int} (hc : CatB c) (hb : FunB g) (h : ChOut c g k code) : Spec Tryz.prog 36 [catV c,funV g] [] (.tup [.agg [iv k.src.ob,.sl 0,.sl 1,.sl 2,.sl 3,iv k.tgt.ob,.sl 4,.sl 5,.sl 6,.sl 7,.sl 8,.sl 9],iv code]) [(0,⟨1,.arr (ints k.src.fr)⟩),(1,⟨1,.arr (ints k.src.to)⟩),(2,⟨1,.arr (ints k.src.id)⟩),(3,⟨1,.arr (intss k.src.co)⟩),(4,⟨1,.arr (ints k.tgt.fr)⟩),(5,⟨1,.arr (ints k.tgt.to)⟩),(6,⟨1,.arr (ints k.tgt.id)⟩),(7,⟨1,.arr (intss k.tgt.co)⟩),(8,⟨1,.arr (ints k.obs)⟩),(9,⟨1,.arr (ints k.ars)⟩)]:=by
  rcases h with ⟨h,rfl,rfl⟩|⟨sc,hg,⟨h,rfl,rfl⟩|⟨y1,y2,rfl,rfl⟩⟩
  · exact adoptF (sp_spec_ComposeBehind_bad hc hb h)
  · exact adoptF (sp_spec_ComposeBehind_no hc hb sc hg h)
  · exact sp_spec_ComposeBehind_yes hc hb sc hg y1 y2
theorem cal_FnExactComposeBehind : Callable Tryz.prog 7:=⟨_,Tryz.func7,rfl,rfl⟩
theorem sp_FnExactComposeBehind {a0 : Cat} {a1 : Fun} (td : CatT a0) (t0 : FunT a1) : Spec Tryz.prog 7 [catV a0,funV a1] [] (bv true) []:=by
  refine spec_of_V (E:=TE) 0 Tryz.func7 rfl (by simp [Tryz.f7]) fun X hn hX=>?_
  have l0:=t0.l
  have ld:=td.len
  by_cases hz : (catSz a0 : Int) ≤ 1048576
  · by_cases hz2 : (funSz a1 : Int) ≤ 1048576 - catSz a0
    · have hb:=td.b1 (by omega)
      have hb2:=t0.b (by omega)
      obtain ⟨g,code,ho⟩:=ChOut.ex a0 a1
      have hg:=ho.b
      have k1:=hb.mkn
      have k3:=hb2.mkn
      have k2:=hg.mkn
      have sp_ComposeBehind_loc:=sp_ComposeBehind_at hb hb2 ho
      have sp_spec_ComposeBehind_loc:=sp_spec_ComposeBehind_at hb hb2 ho
      repeat' (first|(with_reducible first|refine V_seq ?_|refine V_skip ?_|refine V_ret ?_)|((with_reducible refine V_cond ?_);simp only [go_sem,simprocAttr])|((first|refine V_region (by rw [hn];rfl) ?_|refine V_drawn hmix (by rw [hn];rfl) ?_);intro K hK)|((first|with_reducible refine evOps_n ?_|((with_reducible apply evOps_g);rfl)|with_reducible refine evOpsD_n ?_|((with_reducible apply evOpsD_g);rfl));intro K hK;simp (contextual:=true) only [go_sem,simprocAttr])|with_reducible refine evOps_nil ?_|((with_reducible refine evOpsD_nil ?_ ?_);kernel_rfl)|((with_reducible refine hK _ ?_);clear hK K)|(with_reducible first|refine And.intro ?_ ?_|refine nxt_n ?_|refine nxt_r ?_|refine inR_mk ?_ ?_)|((with_reducible refine evCall_at 12 ?_);refine EvCall.rq (a:=(sp_szCategory_ok (c:=a0) (by first|omega|assumption|rfl) (by first|omega|assumption|rfl))) (b:=cal_szCategory) (c:=?_);all_goals try simp only [go_sem,simprocAttr])|((with_reducible refine evCall_at 32 ?_);refine EvCall.rq (a:=(sp_szFunctor_yes (f:=a1) (by first|omega|assumption|rfl) (by first|omega|assumption|rfl))) (b:=cal_szFunctor) (c:=?_);all_goals try simp only [go_sem,simprocAttr])|((with_reducible refine evCall_at 14 ?_);refine EvCall.rq (a:=(sp_toCategory (c:=a0) ?_)) (b:=cal_toCategory) (c:=?_);all_goals try simp only [go_sem,simprocAttr])|((with_reducible refine evCall_at 34 ?_);refine EvCall.rq (a:=(sp_toFunctor (f:=a1) ?_)) (b:=cal_toFunctor) (c:=?_);all_goals try simp only [go_sem,simprocAttr])|((with_reducible refine evCall_at 36 ?_);refine EvCall.rq (a:=(sp_spec_ComposeBehind_loc)) (b:=cal_spec_ComposeBehind) (c:=?_);all_goals try simp only [go_sem,simprocAttr])|((with_reducible refine evCall_at 37 ?_);refine EvCall.rq (a:=(sp_ComposeBehind_loc)) (b:=cal_ComposeBehind) (c:=?_);all_goals try simp only [go_sem,simprocAttr])|((with_reducible refine evCall_at 27 ?_);refine EvCall.rq (a:=(sp_eqFunctor (f:=g) (g:=g) ?_ ?_)) (b:=cal_eqFunctor) (c:=?_);all_goals try simp only [go_sem,simprocAttr])|((with_reducible refine evCall_at 16 ?_);refine EvCall.rq (a:=(sp_eqCategory (a:=a0) (b:=a0) ?_ ?_)) (b:=cal_eqCategory) (c:=?_);all_goals try simp only [go_sem,simprocAttr])|((with_reducible refine evCall_at 27 ?_);refine EvCall.rq (a:=(sp_eqFunctor (f:=a1) (g:=a1) ?_ ?_)) (b:=cal_eqFunctor) (c:=?_);all_goals try simp only [go_sem,simprocAttr])|((with_reducible refine evCall_at 19 ?_);refine EvCall.mu (by first|(simp only [go_sem,simprocAttr];rfl)|rfl) (by first|(simp only [go_sem,simprocAttr];rfl)|rfl) (by first|(simp only [go_sem,simprocAttr];rfl)|rfl) (sp_markCategory (c:=a0) ?_ ?_ ?_) cal_markCategory (by first|(simp only [go_sem,simprocAttr];rfl)|rfl) (by first|(simp only [go_sem,simprocAttr];rfl)|rfl) (by simp [go_sem]) (by simp [go_sem]) ?_;all_goals try simp only [go_sem,simprocAttr])|((with_reducible refine evCall_at 28 ?_);refine EvCall.mu (by first|(simp only [go_sem,simprocAttr];rfl)|rfl) (by first|(simp only [go_sem,simprocAttr];rfl)|rfl) (by first|(simp only [go_sem,simprocAttr];rfl)|rfl) (sp_markFunctor (f:=a1) ?_ ?_ ?_) cal_markFunctor (by first|(simp only [go_sem,simprocAttr];rfl)|rfl) (by first|(simp only [go_sem,simprocAttr];rfl)|rfl) (by simp [go_sem]) (by simp [go_sem]) ?_;all_goals try simp only [go_sem,simprocAttr])|((with_reducible refine evCall_at 28 ?_);refine EvCall.mu (by first|(simp only [go_sem,simprocAttr];rfl)|rfl) (by first|(simp only [go_sem,simprocAttr];rfl)|rfl) (by first|(simp only [go_sem,simprocAttr];rfl)|rfl) (sp_markFunctor (f:=g) ?_ ?_ ?_) cal_markFunctor (by first|(simp only [go_sem,simprocAttr];rfl)|rfl) (by first|(simp only [go_sem,simprocAttr];rfl)|rfl) (by simp [go_sem]) (by simp [go_sem]) ?_;all_goals try simp only [go_sem,simprocAttr])|((with_reducible refine evCall_at 29 ?_);refine EvCall.rq (a:=(sp_heldFunctor_at (d:=g.mk_ 1) (f:=g) (k:=1) (by first|omega|assumption|rfl) (by first|omega|assumption|rfl) (by first|omega|assumption|rfl) (by first|omega|assumption|rfl))) (b:=cal_heldFunctor) (c:=?_);all_goals try simp only [go_sem,simprocAttr])|(refine fun (hc : (_ : Bool) = _)=>?_;try simp only [hcS] at hc))
      all_goals try (first|(with_reducible assumption)|((try simp only [Cat.F,Cat.T,Cat.I,Cat.C,Fun.O,Fun.A,Cat.Entry,Int.toNat_natCast] at *);omega))
      (first|refine ret_auto ?_|refine ret_auto' ?_);simp only [go_sem,simprocAttr,Tryz.f7]
    · have hb:=td.b1 (by omega)
      repeat' (first|(with_reducible first|refine V_seq ?_|refine V_skip ?_|refine V_ret ?_)|((with_reducible refine V_cond ?_);simp only [go_sem,simprocAttr])|((first|refine V_region (by rw [hn];rfl) ?_|refine V_drawn hmix (by rw [hn];rfl) ?_);intro K hK)|((first|with_reducible refine evOps_n ?_|((with_reducible apply evOps_g);rfl)|with_reducible refine evOpsD_n ?_|((with_reducible apply evOpsD_g);rfl));intro K hK;simp (contextual:=true) only [go_sem,simprocAttr])|with_reducible refine evOps_nil ?_|((with_reducible refine evOpsD_nil ?_ ?_);kernel_rfl)|((with_reducible refine hK _ ?_);clear hK K)|(with_reducible first|refine And.intro ?_ ?_|refine nxt_n ?_|refine nxt_r ?_|refine inR_mk ?_ ?_)|((with_reducible refine evCall_at 12 ?_);refine EvCall.rq (a:=(sp_szCategory_ok (c:=a0) (by first|omega|assumption|rfl) (by first|omega|assumption|rfl))) (b:=cal_szCategory) (c:=?_);all_goals try simp only [go_sem,simprocAttr])|((with_reducible refine evCall_at 32 ?_);refine EvCall.rq (a:=(sp_szFunctor_no (f:=a1) (by first|omega|assumption|rfl) (by first|omega|assumption|rfl) (by first|omega|assumption|rfl) (by first|omega|assumption|rfl))) (b:=cal_szFunctor) (c:=?_);all_goals try simp only [go_sem,simprocAttr])|(refine fun (hc : (_ : Bool) = _)=>?_;try simp only [hcS] at hc))
      all_goals try (first|(with_reducible assumption)|((try simp only [Cat.F,Cat.T,Cat.I,Cat.C,Fun.O,Fun.A,Cat.Entry,Int.toNat_natCast] at *);omega))
      (first|refine ret_auto ?_|refine ret_auto' ?_);simp only [go_sem,simprocAttr,Tryz.f7]
  · repeat' (first|(with_reducible first|refine V_seq ?_|refine V_skip ?_|refine V_ret ?_)|((with_reducible refine V_cond ?_);simp only [go_sem,simprocAttr])|((first|refine V_region (by rw [hn];rfl) ?_|refine V_drawn hmix (by rw [hn];rfl) ?_);intro K hK)|((first|with_reducible refine evOps_n ?_|((with_reducible apply evOps_g);rfl)|with_reducible refine evOpsD_n ?_|((with_reducible apply evOpsD_g);rfl));intro K hK;simp (contextual:=true) only [go_sem,simprocAttr])|with_reducible refine evOps_nil ?_|((with_reducible refine evOpsD_nil ?_ ?_);kernel_rfl)|((with_reducible refine hK _ ?_);clear hK K)|(with_reducible first|refine And.intro ?_ ?_|refine nxt_n ?_|refine nxt_r ?_|refine inR_mk ?_ ?_)|((with_reducible refine evCall_at 12 ?_);refine EvCall.rq (a:=(sp_szCategory_no (c:=a0) (by first|omega|assumption|rfl) (by first|omega|assumption|rfl) (by first|omega|assumption|rfl) (by first|omega|assumption|rfl))) (b:=cal_szCategory) (c:=?_);all_goals try simp only [go_sem,simprocAttr])|(refine fun (hc : (_ : Bool) = _)=>?_;try simp only [hcS] at hc))
    all_goals try (first|(with_reducible assumption)|((try simp only [Cat.F,Cat.T,Cat.I,Cat.C,Fun.O,Fun.A,Cat.Entry,Int.toNat_natCast] at *);omega))
    (first|refine ret_auto ?_|refine ret_auto' ?_);simp only [go_sem,simprocAttr,Tryz.f7]
end Go.Eng
namespace Go.Proofs.YtmpopmololpaoaaGreat
open Go Go.Eng Go.Cats Go.ChangeShapes Go.WideShapes Go.RowKit
theorem Tryz.own27_ : ownKnob Tryz.checked.prog.godebug = none:=by kernel_rfl
theorem Tryz.laidOut27_ : laidOutB Tryz.prog = true:=by kernel_rfl
theorem composeBehind_lifted (os : Os) (started : os.Started) (H : Type) (enc : TypeId × Value → H) :
    ReturnsInHanded {} Tryz.checked os 7 .any (Rows.fnExactComposeBehindSpec.pre6 enc Tryz.prog Tryz.f7 Rows.fnExactComposeBehindRow.domain Rows.fnExactComposeBehindRow.apart) (Rows.fnExactComposeBehindSpec.post enc Tryz.prog Tryz.f7 Rows.fnExactComposeBehindRow.apart Rows.fnExactComposeBehindRow.fresh Rows.fnExactComposeBehindRow.handsOn Rows.fnExactComposeBehindRow.again):=by
  refine returnsInHanded_of_change (C:=Tryz.checked) Tryz.own27_ started (by kernel_rfl) Tryz.func7
    (ChangeSpec.witness6 (enc:=enc) (C:=Tryz.checked) false ⟨#[],#[.agg #[.int .i64 0,.slice none 0 0,.slice none 0 0,.slice none 0 0,.slice none 0 0],.agg #[.int .i64 0,.slice none 0 0,.slice none 0 0,.slice none 0 0,.slice none 0 0,.int .i64 0,.slice none 0 0,.slice none 0 0,.slice none 0 0,.slice none 0 0,.slice none 0 0,.slice none 0 0]],[]⟩ 8 (by kernel_rfl) (by kernel_rfl) (by kernel_rfl) (by kernel_rfl)) ?_
  intro W base args ds gs before hval0 hW hcnd _
  have hval : ∀ (j : Nat) t v,Tryz.f7.params[j]? = some t → args[j]? = some v → Value.okWide Tryz.prog W .any base t v:=hval0
  have hW':=hW
  obtain ⟨p,q,hA0,hV,rfl,hfz,hnd⟩:=hW
  obtain ⟨rfl,rfl⟩:=trodVars_none hV
  have hA : DataW.TrodAll enc Tryz.prog W 0 (fun _=>true) true [25,48] args.toList ds p:=hA0
  obtain ⟨v0,v1,d0,d1,p0,p1,rfl,rfl,rfl,h0,h1⟩:=trodAll_two hA
  obtain ⟨cs0,rfl,_⟩:=okWide_struct Tryz.underlying25 (hval 0 25 v0 rfl rfl)
  obtain ⟨fuel0,hf0⟩:=h0
  have hg0:=hf0
  rw [show (Value.agg cs0).cells.toList = cs0.toList from rfl] at hf0
  obtain ⟨a0,hm0,hok0⟩:=rd_cat hf0
  obtain ⟨cs1,rfl,_⟩:=okWide_struct Tryz.underlying48 (hval 1 48 v1 rfl rfl)
  obtain ⟨fuel1,hf1⟩:=h1
  have hg1:=hf1
  rw [show (Value.agg cs1).cells.toList = cs1.toList from rfl] at hf1
  obtain ⟨a1,hm1,hok1⟩:=rd_fun hf1
  have hlt : ∀ y ∈ p0 ++ p1,y.block < W.heap.size:=fun y hy=>hW'.lt y (by simpa using hy)
  refine (sp_FnExactComposeBehind (a0:=a0) (a1:=a1) hm0 hm1 W (Old W) (Old W) _ [.agg cs0,.agg cs1] (hp_start W) ?_).mono fun ed W' ⟨v,c1,he,hp,hv,_⟩=>?_
  · simp only [Sv.okL,Sv.ok]
    exact ⟨_,_,rfl,⟨cs0.toList,by simp,hok0 _ _⟩,_,_,rfl,⟨cs1.toList,by simp,hok1 _ _⟩,rfl⟩
  · simp only [Sv.ok] at hv
    subst hv
    subst he
    have hb:=below_of_hp hp
    refine ⟨_,rfl,post_law hW' rfl rfl Tryz.underlying4 rfl hb ?_⟩
    rw [List.append_nil]
    exact trodAll_mk2 (Below.trod Tryz.laidOut27_ (by kernel_rfl) (of_decide_eq_true (by kernel_rfl)) ⟨fuel0,hg0⟩ hb (fun y hy=>hlt y (by simp [hy]))) (Below.trod Tryz.laidOut27_ (by kernel_rfl) (of_decide_eq_true (by kernel_rfl)) ⟨fuel1,hg1⟩ hb (fun y hy=>hlt y (by simp [hy])))
theorem composeBehind_holds : Rows.FnExactComposeBehindSaid :=
  OpenClaim.holds_of_wide 7 Tryz.f7 rfl rfl rfl rfl rfl rfl rfl ⟨rfl,rfl,rfl,rfl,rfl⟩ rfl rfl rfl rfl rfl (by kernel_rfl) Tryz.func7 (by kernel_rfl)
    (of_decide_eq_true (by kernel_rfl)) (by unfold Func.isWrapper;first|(rw [if_pos (by decide +kernel)];kernel_rfl)|(rw [if_neg (by decide +kernel)];exact ⟨rfl,rfl⟩))
    (fun os started H enc _=>composeBehind_lifted os started H enc)
#print axioms composeBehind_holds
end Go.Proofs.YtmpopmololpaoaaGreat
