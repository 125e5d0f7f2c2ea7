/- Equivalence of two categories: the first isomorphism of the skeletons, by the program and by the reference. -/
import Derived.Test.YtgbjgeignbjjnaaGreatQ33q
import Derived.Test.YtgbjgeignbjjnaaGreatKrx
set_option linter.unusedSimpArgs false
set_option linter.unusedVariables false
set_option maxRecDepth 100000
set_option maxHeartbeats 16000000
namespace Go.Eng
open Go Go.Proofs Go.Cats
attribute [local go_sem] List.set_cons_zero List.set_cons_succ
theorem _root_.Go.Cats.IsCat.catB {c : Cat} (s : IsCat c) : CatB c:=by
  have h:=s.toShape
  have h0:=h.ob0
  have h8:=h.ob8
  have h1:=h.tol
  have h2:=h.idl
  have h3:=h.col
  have h4:=h.m40
  exact ⟨by omega,by omega,by omega,by omega,by omega,by omega,fun f hf=>by have:=(h.coe f (by omega)).1;omega⟩
def _root_.Go.Cats.EqO (a b : Cat) (v : Bool) (code : Int) : Prop:=(¬ (a.fr.length ≤ 16 ∧ b.fr.length ≤ 16) ∧ v = false ∧ code = 3) ∨ ((a.fr.length ≤ 16 ∧ b.fr.length ≤ 16) ∧ (∃ g,F1Out a b g v) ∧ code = 0)
theorem _root_.Go.Cats.EqO.ex (a b : Cat) : ∃ v code,EqO a b v code:=by
  by_cases h : a.fr.length ≤ 16 ∧ b.fr.length ≤ 16
  · obtain ⟨g,v,hv⟩:=F1Out.ex a b
    exact ⟨v,0,.inr ⟨h,⟨g,hv⟩,rfl⟩⟩
  · exact ⟨false,3,.inl ⟨h,rfl,rfl⟩⟩
theorem _root_.Go.Cats.EqO.to {a b : Cat} {v : Bool} {code : Int} (h : EqO a b v code) (sa : IsCat a) (sb : IsCat b) : ∃ g k,FIOut a b g k ∧ ((k = 4 ∧ v = false ∧ code = 0) ∨ (k = 3 ∧ v = false ∧ code = 3) ∨ (k = 0 ∧ v = true ∧ code = 0)):=by
  rcases h with ⟨h,rfl,rfl⟩|⟨h,⟨g,hg⟩,rfl⟩
  · exact ⟨nilF,3,.inl ⟨.inr (.inl ⟨sa,sb,h,rfl⟩),rfl⟩,.inr (.inl ⟨rfl,rfl,rfl⟩)⟩
  · unfold F1Out allI at hg
    by_cases h3 : a.ob = b.ob ∧ a.fr.length = b.fr.length
    · rw [if_pos h3] at hg
      rcases hg with ⟨hg,rfl,rfl⟩|⟨hg,rfl⟩
      · refine ⟨nilF,4,.inl ⟨.inr (.inr ⟨sa,sb,h,.inr ?_,rfl⟩),rfl⟩,.inl ⟨rfl,rfl,rfl⟩⟩
        cases hF : funX a b true a.ob.toNat [] with
        | nil=>rfl
        | cons g D=>rw [hF] at hg;cases hg
      · refine ⟨g,0,.inr ⟨⟨sa,sb,h,h3.1,h3.2,?_⟩,rfl⟩,.inr (.inr ⟨rfl,rfl,rfl⟩)⟩
        cases hF : funX a b true a.ob.toNat [] with
        | nil=>rw [hF] at hg;cases hg
        | cons g' D =>
          rw [hF] at hg
          have : g' = g:=by simpa using hg
          exact ⟨D,by rw [this]⟩
    · rw [if_neg h3] at hg
      rcases hg with ⟨_,rfl,rfl⟩|⟨hg,_⟩
      · exact ⟨nilF,4,.inl ⟨.inr (.inr ⟨sa,sb,h,.inl h3,rfl⟩),rfl⟩,.inl ⟨rfl,rfl,rfl⟩⟩
      · cases hg
theorem cal_skeletonIso : Callable Tryz.prog 37:=⟨_,Tryz.func37,rfl,rfl⟩
theorem sp_skeletonIso_o {c d : Cat} {g : Fun} {code : Int} (sc : IsCat c) (sd : IsCat d) (h : FIOut (skC c) (skC d) g code) : Spec Tryz.prog 37 [.bptr [] (catD c),.bptr [] (catD d)] [] (.tup [.agg [iv g.src.ob,.sl 0,.sl 1,.sl 2,.sl 3,iv g.tgt.ob,.sl 4,.sl 5,.sl 6,.sl 7,.sl 8,.sl 9],iv code]) [(0,⟨1,.arr (ints g.src.fr)⟩),(1,⟨1,.arr (ints g.src.to)⟩),(2,⟨1,.arr (ints g.src.id)⟩),(3,⟨1,.arr (intss g.src.co)⟩),(4,⟨1,.arr (ints g.tgt.fr)⟩),(5,⟨1,.arr (ints g.tgt.to)⟩),(6,⟨1,.arr (ints g.tgt.id)⟩),(7,⟨1,.arr (intss g.tgt.co)⟩),(8,⟨1,.arr (ints g.obs)⟩),(9,⟨1,.arr (ints g.ars)⟩)]:=by
  refine spec_of_V (E:=TE) 0 Tryz.func37 rfl (by simp [Tryz.f37]) fun X hn hX=>?_
  have h1:=sp_Category_skeleton sc
  have h2:=sp_Category_skeleton sd
  have h3:=sp_FindIsomorphism_o (skC_cat sc).catB (skC_cat sd).catB h
  repeat' (first|(with_reducible first|refine V_seq ?_|refine V_skip ?_|refine V_ret ?_)|((with_reducible refine V_cond ?_);simp only [go_sem,simprocAttr])|((refine V_region (by rw [hn];rfl) ?_);intro K hK)|((first|with_reducible refine evOps_n ?_|((with_reducible apply evOps_g);rfl));intro K hK;simp (contextual:=true) only [go_sem,simprocAttr])|with_reducible refine evOps_nil ?_|((with_reducible refine hK _ ?_);clear hK K)|(with_reducible first|refine And.intro ?_ ?_|refine nxt_n ?_|refine nxt_r ?_|refine inR_mk ?_ ?_)|((with_reducible refine (id ?_ : EvCall _ _ [.bptr [] (catD c)] _ _));refine EvCall.mk (h1) cal_Category_skeleton [(0,1),(1,2),(2,3),(3,4)] [] (by simp [go_sem] <;> (repeat' (first|rfl|constructor))) (by simp [go_sem] <;> (repeat' (first|rfl|constructor))) ?_;all_goals try simp only [go_sem,simprocAttr])|((with_reducible refine (id ?_ : EvCall _ _ [.bptr [] (catD d)] _ _));refine EvCall.mk (h2) cal_Category_skeleton [(0,5),(1,6),(2,7),(3,8)] [] (by simp [go_sem] <;> (repeat' (first|rfl|constructor))) (by simp [go_sem] <;> (repeat' (first|rfl|constructor))) ?_;all_goals try simp only [go_sem,simprocAttr])|((with_reducible refine evCall_at 49 ?_);refine EvCall.mk (h3) cal_FindIsomorphism [(0,9),(1,10),(2,11),(3,12),(4,13),(5,14),(6,15),(7,16),(8,17),(9,18)] [1,2,3,4,5,6,7,8] (by simp [go_sem] <;> (repeat' (first|rfl|constructor))) (by simp [go_sem] <;> (repeat' (first|rfl|constructor))) ?_;all_goals try simp only [go_sem,simprocAttr])|(refine fun (hc : (_ : Bool) = _)=>?_;try simp only [hcS] at hc))
  all_goals try exact om_
  · (first|refine ret_auto ?_|refine ret_auto' ?_);simp only [go_sem,simprocAttr,Tryz.f37]
theorem cal_equivalent : Callable Tryz.prog 19:=⟨_,Tryz.func19,rfl,rfl⟩
theorem sp_equivalent_o {c d : Cat} {v : Bool} {code : Int} (sc : IsCat c) (sd : IsCat d) (h : EqO (skC c) (skC d) v code) : Spec Tryz.prog 19 [.bptr [] (catD c),.bptr [] (catD d)] [] (.tup [bv v,iv code]) []:=by
  refine spec_of_V (E:=TE) 0 Tryz.func19 rfl (by simp [Tryz.f19]) fun X hn hX=>?_
  obtain ⟨g,k,hg,hk⟩:=h.to (skC_cat sc) (skC_cat sd)
  have h1:=sp_skeletonIso_o sc sd hg
  rcases hk with ⟨rfl,rfl,rfl⟩|⟨rfl,rfl,rfl⟩|⟨rfl,rfl,rfl⟩
  all_goals (repeat' (first|(with_reducible first|refine V_seq ?_|refine V_skip ?_|refine V_ret ?_)|((with_reducible refine V_cond ?_);simp only [go_sem,simprocAttr])|((refine V_region (by rw [hn];rfl) ?_);intro K hK)|((first|with_reducible refine evOps_n ?_|((with_reducible apply evOps_g);rfl));intro K hK;simp (contextual:=true) only [go_sem,simprocAttr])|with_reducible refine evOps_nil ?_|((with_reducible refine hK _ ?_);clear hK K)|(with_reducible first|refine And.intro ?_ ?_|refine nxt_n ?_|refine nxt_r ?_|refine inR_mk ?_ ?_)|((with_reducible refine evCall_at 37 ?_);refine EvCall.mk (h1) cal_skeletonIso [(0,0),(1,1),(2,2),(3,3),(4,4),(5,5),(6,6),(7,7),(8,8),(9,9)] [] (by simp [go_sem] <;> (repeat' (first|rfl|constructor))) (by simp [go_sem] <;> (repeat' (first|rfl|constructor))) ?_;all_goals try simp only [go_sem,simprocAttr])|(refine fun (hc : (_ : Bool) = _)=>?_;try simp only [hcS] at hc)))
  all_goals try exact om_
  all_goals ((first|refine ret_auto ?_|refine ret_auto' ?_);simp only [go_sem,simprocAttr,Tryz.f19])
  all_goals simp
theorem cal_l11Alike : Callable Tryz.prog 14:=⟨_,Tryz.func14,rfl,rfl⟩
theorem sp_l11Alike_o {c d : Cat} {v : Bool} {code : Int} (sc : IsCat c) (sd : IsCat d) (h : EqO (skC c) (skC d) v code) : Spec Tryz.prog 14 [catV c,catV d] [] (.tup [bv v,iv code]) []:=by
  refine spec_of_V (E:=TE) 0 Tryz.func14 rfl (by simp [Tryz.f14]) fun X hn hX=>?_
  have h1:=sp_l11Part sc
  have h2:=sp_l11Part sd
  have m1:=(skC_cat sc).catB.fr
  have m2:=(skC_cat sd).catB.fr
  rcases h with ⟨h,rfl,rfl⟩|⟨⟨a,b⟩,⟨g,hg⟩,rfl⟩
  · repeat' (first|(with_reducible first|refine V_seq ?_|refine V_skip ?_|refine V_ret ?_)|((with_reducible refine V_cond ?_);simp only [go_sem,simprocAttr])|((first|refine V_region (by rw [hn];rfl) ?_|refine V_drawn hmix (by rw [hn];rfl) ?_);intro K hK)|((first|with_reducible refine evOps_n ?_|((with_reducible apply evOps_g);rfl)|with_reducible refine evOpsD_n ?_|((with_reducible apply evOpsD_g);rfl));intro K hK;simp (contextual:=true) only [go_sem,simprocAttr])|with_reducible refine evOps_nil ?_|((with_reducible refine evOpsD_nil ?_ ?_);kernel_rfl)|((with_reducible refine hK _ ?_);clear hK K)|(with_reducible first|refine And.intro ?_ ?_|refine nxt_n ?_|refine nxt_r ?_|refine inR_mk ?_ ?_)|((with_reducible refine (id ?_ : EvCall _ _ [(.agg [iv c.ob,.bor [] (ints c.fr),.bor [] (ints c.to),.bor [] (ints c.id),.bor [] (intss c.co)])] _ _));refine EvCall.mk (h1) cal_l11Part [(0,2),(1,3),(2,4),(3,5)] [] (by simp [go_sem] <;> (repeat' (first|rfl|constructor))) (by simp [go_sem] <;> (repeat' (first|rfl|constructor))) ?_;all_goals try simp only [go_sem,simprocAttr])|((with_reducible refine (id ?_ : EvCall _ _ [(.agg [iv d.ob,.bor [] (ints d.fr),.bor [] (ints d.to),.bor [] (ints d.id),.bor [] (intss d.co)])] _ _));refine EvCall.mk (h2) cal_l11Part [(0,6),(1,7),(2,8),(3,9)] [] (by simp [go_sem] <;> (repeat' (first|rfl|constructor))) (by simp [go_sem] <;> (repeat' (first|rfl|constructor))) ?_;all_goals try simp only [go_sem,simprocAttr])|(refine fun (hc : (_ : Bool) = _)=>?_;try simp only [hcS] at hc))
    all_goals try exact om_
    all_goals ((first|refine ret_auto ?_|refine ret_auto' ?_);simp only [go_sem,simprocAttr,Tryz.f14])
  · have h3:=sp_l10Find_o (skC_cat sc) (skC_cat sd) (skC_cat sc).catB (skC_cat sd).catB hg
    repeat' (first|(with_reducible first|refine V_seq ?_|refine V_skip ?_|refine V_ret ?_)|((with_reducible refine V_cond ?_);simp only [go_sem,simprocAttr])|((first|refine V_region (by rw [hn];rfl) ?_|refine V_drawn hmix (by rw [hn];rfl) ?_);intro K hK)|((first|with_reducible refine evOps_n ?_|((with_reducible apply evOps_g);rfl)|with_reducible refine evOpsD_n ?_|((with_reducible apply evOpsD_g);rfl));intro K hK;simp (contextual:=true) only [go_sem,simprocAttr])|with_reducible refine evOps_nil ?_|((with_reducible refine evOpsD_nil ?_ ?_);kernel_rfl)|((with_reducible refine hK _ ?_);clear hK K)|(with_reducible first|refine And.intro ?_ ?_|refine nxt_n ?_|refine nxt_r ?_|refine inR_mk ?_ ?_)|((with_reducible refine (id ?_ : EvCall _ _ [(.agg [iv c.ob,.bor [] (ints c.fr),.bor [] (ints c.to),.bor [] (ints c.id),.bor [] (intss c.co)])] _ _));refine EvCall.mk (h1) cal_l11Part [(0,2),(1,3),(2,4),(3,5)] [] (by simp [go_sem] <;> (repeat' (first|rfl|constructor))) (by simp [go_sem] <;> (repeat' (first|rfl|constructor))) ?_;all_goals try simp only [go_sem,simprocAttr])|((with_reducible refine (id ?_ : EvCall _ _ [(.agg [iv d.ob,.bor [] (ints d.fr),.bor [] (ints d.to),.bor [] (ints d.id),.bor [] (intss d.co)])] _ _));refine EvCall.mk (h2) cal_l11Part [(0,6),(1,7),(2,8),(3,9)] [] (by simp [go_sem] <;> (repeat' (first|rfl|constructor))) (by simp [go_sem] <;> (repeat' (first|rfl|constructor))) ?_;all_goals try simp only [go_sem,simprocAttr])|((with_reducible refine evCall_at 29 ?_);refine EvCall.mk (h3) cal_l10Find [(0,12),(1,13),(2,14),(3,15),(4,16),(5,17),(6,18),(7,19),(8,20),(9,21)] [2,3,4,5,6,7,8,9] (by simp [go_sem] <;> (repeat' (first|rfl|constructor))) (by simp [go_sem] <;> (repeat' (first|rfl|constructor))) ?_;all_goals try simp only [go_sem,simprocAttr])|(refine fun (hc : (_ : Bool) = _)=>?_;try simp only [hcS] at hc))
    all_goals try exact om_
    all_goals ((first|refine ret_auto ?_|refine ret_auto' ?_);simp only [go_sem,simprocAttr,Tryz.f14])
theorem cal_l03Two : Callable Tryz.prog 11:=⟨_,Tryz.func11,rfl,rfl⟩
theorem sp_l03Two_k {c d : Cat} {code : Int} (hc : CatB c) (hd : CatB d) (h : (¬ (IsCat c ∧ IsCat d) ∧ code = 1) ∨ (IsCat c ∧ IsCat d ∧ code = 0)) : Spec Tryz.prog 11 [catV c,catV d] [] (iv code) []:=by
  refine spec_of_V (E:=TE) 0 Tryz.func11 rfl (by simp [Tryz.f11]) fun X hn hX=>?_
  rcases h with ⟨h,rfl⟩|⟨h1,h2,rfl⟩
  · by_cases h1 : IsCat c
    · have v1:=dec_t h1
      have v2:=dec_f fun h2 : IsCat d=>h ⟨h1,h2⟩
      repeat' (first|(with_reducible first|refine V_seq ?_|refine V_skip ?_|refine V_ret ?_)|((with_reducible refine V_cond ?_);simp only [go_sem,simprocAttr])|((refine V_region (by rw [hn];rfl) ?_);intro K hK)|((first|with_reducible refine evOps_n ?_|((with_reducible apply evOps_g);rfl));intro K hK;simp (contextual:=true) only [go_sem,simprocAttr])|with_reducible refine evOps_nil ?_|((with_reducible refine hK _ ?_);clear hK K)|(with_reducible first|refine And.intro ?_ ?_|refine nxt_n ?_|refine nxt_r ?_|refine inR_mk ?_ ?_)|((with_reducible refine evCall_at 22 ?_);refine EvCall.rq (a:=(sp_l02Is_k (by first|omega|assumption|rfl) (by first|omega|assumption|rfl))) (b:=cal_l02Is) (c:=?_);all_goals try simp only [go_sem,simprocAttr])|(refine fun (hc : (_ : Bool) = _)=>?_;try simp only [hcS] at hc))
      all_goals try exact om_
      · (first|refine ret_auto ?_|refine ret_auto' ?_);simp only [go_sem,simprocAttr,Tryz.f11]
    · have v1:=dec_f h1
      repeat' (first|(with_reducible first|refine V_seq ?_|refine V_skip ?_|refine V_ret ?_)|((with_reducible refine V_cond ?_);simp only [go_sem,simprocAttr])|((refine V_region (by rw [hn];rfl) ?_);intro K hK)|((first|with_reducible refine evOps_n ?_|((with_reducible apply evOps_g);rfl));intro K hK;simp (contextual:=true) only [go_sem,simprocAttr])|with_reducible refine evOps_nil ?_|((with_reducible refine hK _ ?_);clear hK K)|(with_reducible first|refine And.intro ?_ ?_|refine nxt_n ?_|refine nxt_r ?_|refine inR_mk ?_ ?_)|((with_reducible refine evCall_at 22 ?_);refine EvCall.rq (a:=(sp_l02Is_k (by first|omega|assumption|rfl) (by first|omega|assumption|rfl))) (b:=cal_l02Is) (c:=?_);all_goals try simp only [go_sem,simprocAttr])|(refine fun (hc : (_ : Bool) = _)=>?_;try simp only [hcS] at hc))
      all_goals try exact om_
      · (first|refine ret_auto ?_|refine ret_auto' ?_);simp only [go_sem,simprocAttr,Tryz.f11]
  · have v1:=dec_t h1
    have v2:=dec_t h2
    repeat' (first|(with_reducible first|refine V_seq ?_|refine V_skip ?_|refine V_ret ?_)|((with_reducible refine V_cond ?_);simp only [go_sem,simprocAttr])|((refine V_region (by rw [hn];rfl) ?_);intro K hK)|((first|with_reducible refine evOps_n ?_|((with_reducible apply evOps_g);rfl));intro K hK;simp (contextual:=true) only [go_sem,simprocAttr])|with_reducible refine evOps_nil ?_|((with_reducible refine hK _ ?_);clear hK K)|(with_reducible first|refine And.intro ?_ ?_|refine nxt_n ?_|refine nxt_r ?_|refine inR_mk ?_ ?_)|((with_reducible refine evCall_at 22 ?_);refine EvCall.rq (a:=(sp_l02Is_k (by first|omega|assumption|rfl) (by first|omega|assumption|rfl))) (b:=cal_l02Is) (c:=?_);all_goals try simp only [go_sem,simprocAttr])|(refine fun (hc : (_ : Bool) = _)=>?_;try simp only [hcS] at hc))
    all_goals try exact om_
    all_goals ((first|refine ret_auto ?_|refine ret_auto' ?_);simp only [go_sem,simprocAttr,Tryz.f11])
end Go.Eng
