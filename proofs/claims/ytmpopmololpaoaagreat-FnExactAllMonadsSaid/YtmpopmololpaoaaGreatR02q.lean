/- Transformations, by the reference: the square of an arrow; the choices of a component. -/
import Derived.Test.YtmpopmololpaoaaGreatR01q
set_option linter.unusedSimpArgs false
set_option linter.unusedVariables false
set_option maxRecDepth 100000
set_option maxHeartbeats 16000000
namespace Go.Eng
open Go Go.Proofs Go.Cats
def stD (f g : Fun) (b : Bool) (m : Int) (F : List (List Int)) : List Dt:=funD f ++ (funD g ++ [.v (.bool b),.v (.int .i64 m),intss F])
section
variable {f g : Fun} {b : Bool} {m : Int} {F : List (List Int)}
@[go_sem] theorem stD_0 : (stD f g b m F).take 12 = funD f:=rfl
@[go_sem] theorem stD_1 : ((stD f g b m F).drop 12).take 12 = funD g:=rfl
@[go_sem] theorem stD_2 : ((stD f g b m F).drop 24).take 1 = [.v (.bool b)]:=rfl
@[go_sem] theorem stD_3 : ((stD f g b m F).drop 25).take 1 = [.v (.int .i64 m)]:=rfl
@[go_sem] theorem stD_4 : ((stD f g b m F).drop 26).take 1 = [intss F]:=rfl
@[go_sem] theorem stD_l : (stD f g b m F).length = 27:=rfl
end
noncomputable def fitB (f g : Fun) (B : List Int) (x a : Nat) : Bool:=dec (∀ c,c < a → FitO f g B x c)
theorem fitB_zero (f g : Fun) (B : List Int) (x : Nat) : fitB f g B x 0 = true:=dec_t fun c hc=>absurd hc (Nat.not_lt_zero c)
theorem fitB_succ {f g : Fun} {B : List Int} {x a : Nat} (h : fitB f g B x a = true) : fitB f g B x (a + 1) = dec (FitO f g B x a):=dec_congr ⟨fun q=>q a (Nat.lt_succ_self a),fun q c hc=>by
  by_cases e : c = a
  · subst e;exact q
  · exact dec_iff.1 h c (by omega)⟩
attribute [local go_sem] List.set_cons_zero List.set_cons_succ fitB_zero nChk_zero
theorem cal_l07Square : Callable Tryz.prog 197:=⟨_,Tryz.func197,rfl,rfl⟩
theorem sp_l07Square {f g : Fun} {A : List Int} {a : Nat} (h : Par f g) (ha : a < f.src.fr.length) (hA : A.length = f.src.ob.toNat) (c1 : 0 ≤ A.getD (f.src.fr.getD a 0).toNat 0 ∧ A.getD (f.src.fr.getD a 0).toNat 0 < f.tgt.fr.length) (c2 : 0 ≤ A.getD (f.src.to.getD a 0).toNat 0 ∧ A.getD (f.src.to.getD a 0).toNat 0 < f.tgt.fr.length) : Spec Tryz.prog 197 [funV f,funV g,.bor [] (ints A),iv a] [] (bv (dec (SqP f g A a))) []:=by
  refine spec_of_V (E:=TE) 0 Tryz.func197 rfl (by simp [Tryz.f197]) fun X hn hX=>?_
  have s1:=h.src.toShape.frw a ha
  have s0:=h.src.toShape.tol
  have s2:=h.src.toShape.tow a (by omega)
  have l1:=h.fit.arl
  have l2:=h.fit2.arl
  rw [h.es] at l2
  have w1:=h.fit.arw a (by omega)
  have w2:=h.fit2.arw a (by omega)
  rw [h.et] at w2
  have r1:=rows_len h.tgt.toShape w1.1 w1.2
  have r2:=rows_len h.tgt.toShape c1.1 c1.2
  repeat' (first|(with_reducible first|refine V_seq ?_|refine V_skip ?_|refine V_ret ?_)|((with_reducible refine V_cond ?_);simp only [go_sem,simprocAttr])|((first|refine V_region (by rw [hn];rfl) ?_|refine V_drawn hmix (by rw [hn];rfl) ?_);intro K hK)|((first|with_reducible refine evOps_n ?_|((with_reducible apply evOps_g);rfl)|with_reducible refine evOpsD_n ?_|((with_reducible apply evOpsD_g);rfl));intro K hK;simp (contextual:=true) only [go_sem,simprocAttr])|with_reducible refine evOps_nil ?_|((with_reducible refine evOpsD_nil ?_ ?_);kernel_rfl)|((with_reducible refine hK _ ?_);clear hK K)|(with_reducible first|refine And.intro ?_ ?_|refine nxt_n ?_|refine nxt_r ?_|refine inR_mk ?_ ?_)|(refine fun (hc : (_ : Bool) = _)=>?_;try simp only [hcS] at hc))
  all_goals try exact om_
  · (first|refine ret_auto ?_|refine ret_auto' ?_);simp only [go_sem,simprocAttr,Tryz.f197]
    rw [← dec_eq];rfl
theorem cal_l07Choices : Callable Tryz.prog 191:=⟨_,Tryz.func191,rfl,rfl⟩
theorem sp_l07Choices_n {f g : Fun} {A : List Int} {m : Int} {x : Nat} {F : List (List Int)} (h : Par f g) (hA : A.length = f.src.ob.toNat) (hr : ∀ j : Nat,j < A.length → A.getD j 0 < f.tgt.fr.length) (hx : x < f.src.ob.toNat) :
    Spec Tryz.prog 191 [.bptr [] (stD f g false m F),.bor [] (ints A),iv x] [] (.sl 0) [(0,⟨1,.arr (ints (nCh f g A x))⟩)]:=by
  have o0:=h.src.toShape.ob0
  have o8:=h.src.toShape.ob8
  have m40:=h.tgt.toShape.m40
  have tol:=h.tgt.toShape.tol
  have sol:=h.src.toShape.tol
  have sm40:=h.src.toShape.m40
  have obl:=h.fit.obl
  have arl:=h.fit.arl
  have obl2:=h.fit2.obl
  rw [h.es] at obl2
  have hl:=f.tgt.homI_len (f.obs.getD x 0) (g.obs.getD x 0) f.tgt.fr.length
  have hl : (f.tgt.hom (f.obs.getD x 0) (g.obs.getD x 0)).length ≤ f.tgt.fr.length:=hl
  have hyes:=fun k=>nChk_yes (f:=f) (g:=g) (A:=A) (x:=x) (k:=k)
  have hno:=fun k=>nChk_no (f:=f) (g:=g) (A:=A) (x:=x) (k:=k)
  have hall:=nChk_all (f:=f) (g:=g) (A:=A) (x:=x)
  have hlen:=fun k=>nChk_len (f:=f) (g:=g) (A:=A) (x:=x) (k:=k)
  have hmem : ∀ k,k < (f.tgt.hom (f.obs.getD x 0) (g.obs.getD x 0)).length → 0 ≤ (f.tgt.hom (f.obs.getD x 0) (g.obs.getD x 0)).getD k 0 ∧ (f.tgt.hom (f.obs.getD x 0) (g.obs.getD x 0)).getD k 0 < f.tgt.fr.length:=fun k hk=>by
    have:=Cat.mem_hom.1 (getD_mem (d:=(0 : Int)) hk)
    exact ⟨this.1,this.2.1⟩
  rw [← hall]
  obtain ⟨C,hC⟩ : ∃ C,f.tgt.hom (f.obs.getD x 0) (g.obs.getD x 0) = C:=⟨_,rfl⟩
  rw [hC] at hl hyes hno hmem ⊢
  refine spec_of_V (E:=TE) 0 Tryz.func191 rfl (by simp [Tryz.f191]) fun X hn hX=>?_
  repeat' (first|(rw [hC])|(with_reducible first|refine V_seq ?_|refine V_block ?_|refine V_skip ?_|refine V_ret ?_|refine V_exit ?_)|((with_reducible refine V_cond ?_);simp only [go_sem,simprocAttr])|((first|refine V_region (by rw [hn];rfl) ?_|refine V_drawn hmix (by rw [hn];rfl) ?_);intro K hK)|((first|with_reducible refine evOps_n ?_|((with_reducible apply evOps_g);rfl)|with_reducible refine evOpsD_n ?_|((with_reducible apply evOpsD_g);rfl));intro K hK;simp (contextual:=true) only [go_sem,simprocAttr])|with_reducible refine evOps_nil ?_|((with_reducible refine evOpsD_nil ?_ ?_);kernel_rfl)|((with_reducible refine hK _ ?_);clear hK K)|(with_reducible first|refine And.intro ?_ ?_|refine nxt_n ?_|refine nxt_r ?_|refine nxt_e ?_|refine blk_n ?_|refine blk_r ?_|refine blk_same ?_|refine blk_other (by decide) ?_|refine noG_n ?_|refine noG_r ?_|refine noG_e ?_|refine inR_mk ?_ ?_)|((with_reducible refine evCall_at 186 ?_);refine EvCall.rq (a:=(sp_l02Hom (c:=f.tgt) ?_ ?_)) (b:=cal_l02Hom) (c:=?_);all_goals try simp only [go_sem,simprocAttr])|(refine fun (hc : (_ : Bool) = _)=>?_;try simp only [hcS] at hc))
  all_goals try exact om_
  refine V_loopK (G:={k : Nat // k ≤ C.length ∧ (True)}) (fun ⟨k,_⟩=>[(11,iv k),(10,.sl 3),(9,.sl 2),(8,.ptr 1 0),(7,.ptr 0 0)]) [0,1,2,6] (fun ⟨k,_⟩=>[(3,⟨1,.arr (ints (nChk f g A x k))⟩)]) [3] (fun zz=>C.length - zz.1) ⟨0,Nat.zero_le _,by first|trivial|simp⟩ ?_ ?_
  · exact Imp.au hX
  rintro ⟨k,hik,hwk⟩
  simp only [go_sem,simprocAttr]
  have hlk:=hlen k
  rcases Nat.lt_or_ge k C.length with hlt | hge
  · have hm:=hmem k hlt
    have hy:=hyes k hlt
    have hn1:=hno k hlt
    obtain ⟨B,hB⟩ : ∃ B,A.set x (C.getD k 0) = B:=⟨_,rfl⟩
    have hBl : B.length = f.src.ob.toNat:=by rw [← hB,List.length_set];exact hA
    have hBr : ∀ j : Nat,j < B.length → B.getD j 0 < f.tgt.fr.length:=fun j hj=>by
      rw [← hB,set_getD (by omega)]
      split
      · exact hm.2
      · exact hr j (by omega)
    repeat' (first|(rw [hB])|(with_reducible first|refine V_seq ?_|refine V_block ?_|refine V_skip ?_|refine V_ret ?_|refine V_exit ?_)|((with_reducible refine V_cond ?_);simp only [go_sem,simprocAttr])|((first|refine V_region (by rw [hn];rfl) ?_|refine V_drawn hmix (by rw [hn];rfl) ?_);intro K hK)|((first|with_reducible refine evOps_n ?_|((with_reducible apply evOps_g);rfl)|with_reducible refine evOpsD_n ?_|((with_reducible apply evOpsD_g);rfl));intro K hK;simp (contextual:=true) only [go_sem,simprocAttr])|with_reducible refine evOps_nil ?_|((with_reducible refine evOpsD_nil ?_ ?_);kernel_rfl)|((with_reducible refine hK _ ?_);clear hK K)|(with_reducible first|refine And.intro ?_ ?_|refine nxt_n ?_|refine nxt_r ?_|refine nxt_e ?_|refine blk_n ?_|refine blk_r ?_|refine blk_same ?_|refine blk_other (by decide) ?_|refine noG_n ?_|refine noG_r ?_|refine noG_e ?_|refine inR_mk ?_ ?_)|((with_reducible refine evCall_at 119 ?_);refine EvCall.rq (a:=(sp_l01Own ?_)) (b:=cal_l01Own) (c:=?_);all_goals try simp only [go_sem,simprocAttr])|(refine fun (hc : (_ : Bool) = _)=>?_;try simp only [hcS] at hc))
    all_goals try exact om_
    refine V_loopK (G:={a : Nat // a ≤ f.src.fr.length ∧ (True)}) (fun ⟨a,_⟩=>[(14,iv a),(13,.v (.bool (fitB f g B x a))),(12,.sl 4),(11,iv k),(10,.sl 3),(9,.sl 2),(8,.ptr 1 0),(7,.ptr 0 0)]) [0,1,2,6,57,58,59,60,61,62,63] (fun ⟨a,_⟩=>[(4,⟨1,.arr (ints B)⟩)]) [4] (fun zz=>f.src.fr.length - zz.1) ⟨0,Nat.zero_le _,by first|trivial|simp⟩ ?_ ?_
    · exact Imp.au hX
    rintro ⟨a,hia,hwa⟩
    simp only [go_sem,simprocAttr]
    have hFN : FitN f g A x (C.getD k 0) ↔ ∀ c,c < f.src.fr.length → FitO f g B x c:=by unfold FitN;rw [hB]
    rcases Nat.lt_or_ge a f.src.fr.length with hla | hga
    · cases hf : fitB f g B x a with
      | false =>
        have e1:=hn1 fun q=>dec_not.1 hf fun c hc=>hFN.1 q c (by omega)
        repeat' (first|(with_reducible first|refine V_seq ?_|refine V_block ?_|refine V_skip ?_|refine V_ret ?_|refine V_exit ?_)|((with_reducible refine V_cond ?_);simp only [go_sem,simprocAttr])|((first|refine V_region (by rw [hn];rfl) ?_|refine V_drawn hmix (by rw [hn];rfl) ?_);intro K hK)|((first|with_reducible refine evOps_n ?_|((with_reducible apply evOps_g);rfl)|with_reducible refine evOpsD_n ?_|((with_reducible apply evOpsD_g);rfl));intro K hK;simp (contextual:=true) only [go_sem,simprocAttr])|with_reducible refine evOps_nil ?_|((with_reducible refine evOpsD_nil ?_ ?_);kernel_rfl)|((with_reducible refine hK _ ?_);clear hK K)|(with_reducible first|refine And.intro ?_ ?_|refine nxt_n ?_|refine nxt_r ?_|refine nxt_e ?_|refine blk_n ?_|refine blk_r ?_|refine blk_same ?_|refine blk_other (by decide) ?_|refine noG_n ?_|refine noG_r ?_|refine noG_e ?_|refine inR_mk ?_ ?_)|(refine fun (hc : (_ : Bool) = _)=>?_;try simp only [hcS] at hc))
        all_goals try exact om_
        · refine ⟨⟨k + 1,by omega,(by (trivial))⟩,by simp only;omega,Imp.auto hX (by simp only [go_sem,simprocAttr,e1])⟩
      | true =>
        have hs:=fitB_succ hf
        have f1:=h.src.toShape.frw a hla
        have f2:=h.src.toShape.tow a (by omega)
        have fo1 : ¬ f.src.fr.getD a 0 = x → ¬ f.src.to.getD a 0 = x → dec (FitO f g B x a) = true:=fun p q=>dec_t (.inl ⟨p,q⟩)
        have fo2 : B.getD (f.src.fr.getD a 0).toNat 0 < 0 → dec (FitO f g B x a) = true:=fun p=>dec_t (.inr (.inl p))
        have fo3 : B.getD (f.src.to.getD a 0).toNat 0 < 0 → dec (FitO f g B x a) = true:=fun p=>dec_t (.inr (.inr (.inl p)))
        have fo4 : (f.src.fr.getD a 0 = x ∨ f.src.to.getD a 0 = x) → 0 ≤ B.getD (f.src.fr.getD a 0).toNat 0 → 0 ≤ B.getD (f.src.to.getD a 0).toNat 0 → dec (FitO f g B x a) = dec (SqP f g B a):=fun p q r=>dec_congr ⟨fun o=>by
          rcases o with o | o | o | o
          · exact absurd p (fun p=>by omega)
          · omega
          · omega
          · exact o,fun o=>.inr (.inr (.inr o))⟩
        have hsq : 0 ≤ B.getD (f.src.fr.getD a 0).toNat 0 → 0 ≤ B.getD (f.src.to.getD a 0).toNat 0 → Spec Tryz.prog 197 [funV f,funV g,.bor [] (ints B),iv a] [] (bv (dec (SqP f g B a))) []:=fun p q =>
          sp_l07Square h hla hBl ⟨p,hBr _ (by omega)⟩ ⟨q,hBr _ (by omega)⟩
        repeat' (first|(with_reducible first|refine V_seq ?_|refine V_block ?_|refine V_skip ?_|refine V_ret ?_|refine V_exit ?_)|((with_reducible refine V_cond ?_);simp only [go_sem,simprocAttr])|((first|refine V_region (by rw [hn];rfl) ?_|refine V_drawn hmix (by rw [hn];rfl) ?_);intro K hK)|((first|with_reducible refine evOps_n ?_|((with_reducible apply evOps_g);rfl)|with_reducible refine evOpsD_n ?_|((with_reducible apply evOpsD_g);rfl));intro K hK;simp (contextual:=true) only [go_sem,simprocAttr])|with_reducible refine evOps_nil ?_|((with_reducible refine evOpsD_nil ?_ ?_);kernel_rfl)|((with_reducible refine hK _ ?_);clear hK K)|(with_reducible first|refine And.intro ?_ ?_|refine nxt_n ?_|refine nxt_r ?_|refine nxt_e ?_|refine blk_n ?_|refine blk_r ?_|refine blk_same ?_|refine blk_other (by decide) ?_|refine noG_n ?_|refine noG_r ?_|refine noG_e ?_|refine inR_mk ?_ ?_)|((with_reducible refine evCall_at 197 ?_);refine EvCall.mk ((hsq (by assumption) (by assumption))) cal_l07Square [] [4] (by simp [go_sem] <;> (repeat' (first|rfl|constructor))) (by simp [go_sem] <;> (repeat' (first|rfl|constructor))) ?_;all_goals try simp only [go_sem,simprocAttr])|(refine fun (hc : (_ : Bool) = _)=>?_;try simp only [hcS] at hc))
        all_goals try exact om_
        all_goals first
          | (have e1:=fo1 (by assumption) (by assumption);refine ⟨⟨a + 1,by omega,trivial⟩,by simp only;omega,Imp.auto hX (by simp only [go_sem,simprocAttr,hs,e1])⟩)
          | (have e1:=fo4 (by omega) (by assumption) (by assumption);refine ⟨⟨a + 1,by omega,trivial⟩,by simp only;omega,Imp.auto hX (by simp only [go_sem,simprocAttr,hs,e1])⟩)
          | (have e1:=fo2 (by assumption);refine ⟨⟨a + 1,by omega,trivial⟩,by simp only;omega,Imp.auto hX (by simp only [go_sem,simprocAttr,hs,e1])⟩)
          | (have e1:=fo3 (by assumption);refine ⟨⟨a + 1,by omega,trivial⟩,by simp only;omega,Imp.auto hX (by simp only [go_sem,simprocAttr,hs,e1])⟩)
    · have ea : a = f.src.fr.length:=by omega
      subst ea
      cases hf : fitB f g B x f.src.fr.length with
      | false =>
        have e1:=hn1 fun q=>dec_not.1 hf (hFN.1 q)
        repeat' (first|(with_reducible first|refine V_seq ?_|refine V_block ?_|refine V_skip ?_|refine V_ret ?_|refine V_exit ?_)|((with_reducible refine V_cond ?_);simp only [go_sem,simprocAttr])|((first|refine V_region (by rw [hn];rfl) ?_|refine V_drawn hmix (by rw [hn];rfl) ?_);intro K hK)|((first|with_reducible refine evOps_n ?_|((with_reducible apply evOps_g);rfl)|with_reducible refine evOpsD_n ?_|((with_reducible apply evOpsD_g);rfl));intro K hK;simp (contextual:=true) only [go_sem,simprocAttr])|with_reducible refine evOps_nil ?_|((with_reducible refine evOpsD_nil ?_ ?_);kernel_rfl)|((with_reducible refine hK _ ?_);clear hK K)|(with_reducible first|refine And.intro ?_ ?_|refine nxt_n ?_|refine nxt_r ?_|refine nxt_e ?_|refine blk_n ?_|refine blk_r ?_|refine blk_same ?_|refine blk_other (by decide) ?_|refine noG_n ?_|refine noG_r ?_|refine noG_e ?_|refine inR_mk ?_ ?_)|(refine fun (hc : (_ : Bool) = _)=>?_;try simp only [hcS] at hc))
        all_goals try exact om_
        · refine ⟨⟨k + 1,by omega,(by (trivial))⟩,by simp only;omega,Imp.auto hX (by simp only [go_sem,simprocAttr,e1])⟩
      | true =>
        have e1:=hy (hFN.2 (dec_iff.1 hf))
        repeat' (first|(with_reducible first|refine V_seq ?_|refine V_block ?_|refine V_skip ?_|refine V_ret ?_|refine V_exit ?_)|((with_reducible refine V_cond ?_);simp only [go_sem,simprocAttr])|((first|refine V_region (by rw [hn];rfl) ?_|refine V_drawn hmix (by rw [hn];rfl) ?_);intro K hK)|((first|with_reducible refine evOps_n ?_|((with_reducible apply evOps_g);rfl)|with_reducible refine evOpsD_n ?_|((with_reducible apply evOpsD_g);rfl));intro K hK;simp (contextual:=true) only [go_sem,simprocAttr])|with_reducible refine evOps_nil ?_|((with_reducible refine evOpsD_nil ?_ ?_);kernel_rfl)|((with_reducible refine hK _ ?_);clear hK K)|(with_reducible first|refine And.intro ?_ ?_|refine nxt_n ?_|refine nxt_r ?_|refine nxt_e ?_|refine blk_n ?_|refine blk_r ?_|refine blk_same ?_|refine blk_other (by decide) ?_|refine noG_n ?_|refine noG_r ?_|refine noG_e ?_|refine inR_mk ?_ ?_)|(refine fun (hc : (_ : Bool) = _)=>?_;try simp only [hcS] at hc))
        all_goals try exact om_
        · refine ⟨⟨k + 1,by omega,(by (trivial))⟩,by simp only;omega,Imp.auto hX (by simp only [go_sem,simprocAttr,e1])⟩
  · have ek : k = C.length:=by omega
    subst ek
    repeat' (first|(with_reducible first|refine V_seq ?_|refine V_block ?_|refine V_skip ?_|refine V_ret ?_|refine V_exit ?_)|((with_reducible refine V_cond ?_);simp only [go_sem,simprocAttr])|((first|refine V_region (by rw [hn];rfl) ?_|refine V_drawn hmix (by rw [hn];rfl) ?_);intro K hK)|((first|with_reducible refine evOps_n ?_|((with_reducible apply evOps_g);rfl)|with_reducible refine evOpsD_n ?_|((with_reducible apply evOpsD_g);rfl));intro K hK;simp (contextual:=true) only [go_sem,simprocAttr])|with_reducible refine evOps_nil ?_|((with_reducible refine evOpsD_nil ?_ ?_);kernel_rfl)|((with_reducible refine hK _ ?_);clear hK K)|(with_reducible first|refine And.intro ?_ ?_|refine nxt_n ?_|refine nxt_r ?_|refine nxt_e ?_|refine blk_n ?_|refine blk_r ?_|refine blk_same ?_|refine blk_other (by decide) ?_|refine noG_n ?_|refine noG_r ?_|refine noG_e ?_|refine inR_mk ?_ ?_)|(refine fun (hc : (_ : Bool) = _)=>?_;try simp only [hcS] at hc))
    all_goals try exact om_
    · (first|refine ret_auto ?_|refine ret_auto' ?_);simp only [go_sem,simprocAttr,Tryz.f191]
end Go.Eng
