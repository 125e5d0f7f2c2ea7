/- Several texts in one: Q04, Q05. -/
import Derived.Test.YtgbjgeignbjjnaaGreatKalx
import Derived.Test.YtgbjgeignbjjnaaGreatQ03q
set_option linter.unusedSimpArgs false
set_option linter.unusedVariables false
set_option maxRecDepth 100000
set_option maxHeartbeats 16000000
section
namespace Go.Eng
open Go Go.Proofs Go.Cats
attribute [local go_sem] List.set_cons_zero List.set_cons_succ
theorem cal_searchFor : Callable Tryz.prog 87:=⟨_,Tryz.func87,rfl,rfl⟩
theorem sp_searchFor {c d : Cat} {b : Bool} {F : List Fun} {M : Nat} (sc : Shape c) : Spec Tryz.prog 87 [.bptr [] (catD c),.bptr [] (catD d),.v (.bool b),.fn 88 [.ptr 3 0,.ptr 4 0,.ptr 5 0,.ptr 6 0]] [(3,⟨1,.bx [.dead] 0 (funsD (F))⟩),(4,⟨1,.box [.bptr [] (catD c)]⟩),(5,⟨1,.box [.bptr [] (catD d)]⟩),(6,⟨1,.box [iv M]⟩)] (.ptr 0 0) [(0,⟨1,.box [.bptr [] (catD c),.bptr [] (catD d),.sl 1,.sl 2,.v (.bool b),.fn 88 [.ptr 3 0,.ptr 4 0,.ptr 5 0,.ptr 6 0]]⟩),(1,⟨1,.arr (ints (List.replicate c.ob.toNat 0))⟩),(2,⟨1,.arr (ints (List.replicate c.fr.length 0))⟩),(3,⟨1,.bx [.dead] 0 (funsD (F))⟩),(4,⟨1,.box [.bptr [] (catD c)]⟩),(5,⟨1,.box [.bptr [] (catD d)]⟩),(6,⟨1,.box [iv M]⟩)]:=by
  refine spec_of_V (E:=TE) 7 Tryz.func87 rfl (by simp [Tryz.f87]) fun X hn hX=>?_
  have m40:=sc.m40
  have n8:=sc.ob8
  have o0:=sc.ob0
  repeat' (first|(with_reducible first|refine V_seq ?_|refine V_skip ?_|refine V_ret ?_)|((with_reducible refine V_cond ?_);simp only [go_sem,simprocAttr])|((first|refine V_region (by rw [hn];rfl) ?_|refine V_drawn hmix (by rw [hn];rfl) ?_);intro K hK)|((first|with_reducible refine evOps_n ?_|((with_reducible apply evOps_g);rfl)|with_reducible refine evOpsD_n ?_|((with_reducible apply evOpsD_g);rfl));intro K hK;simp (contextual:=true) only [go_sem,simprocAttr])|with_reducible refine evOps_nil ?_|((with_reducible refine evOpsD_nil ?_ ?_);kernel_rfl)|((with_reducible refine hK _ ?_);clear hK K)|(with_reducible first|refine And.intro ?_ ?_|refine nxt_n ?_|refine nxt_r ?_|refine inR_mk ?_ ?_)|((with_reducible refine evCall_at 48 ?_);refine EvCall.rq (a:=(sp_Category_arrows)) (b:=cal_Category_arrows) (c:=?_);all_goals try simp only [go_sem,simprocAttr])|(refine fun (hc : (_ : Bool) = _)=>?_;try simp only [hcS] at hc))
  all_goals try exact om_
  · (first|refine ret_auto ?_|refine ret_auto' ?_);simp only [go_sem,simprocAttr,Tryz.f87]
theorem cal_allFunctors : Callable Tryz.prog 75:=⟨_,Tryz.func75,rfl,rfl⟩
theorem sp_allFunctors {c d : Cat} {b : Bool} {M : Nat} (sc : IsCat c) (sd : IsCat d) (bc : CatB c) (bd : CatB d) (hM : M ≤ 4096) : Spec Tryz.prog 75 [.bptr [] (catD c),.bptr [] (catD d),.v (.bool b),iv M] [] (.tup [.sl 0,bv (eat (stL M) [] (funX c d b c.ob.toNat [])).1]) [(0,⟨1,.arr (funsD (eat (stL M) [] (funX c d b c.ob.toNat [])).2)⟩)]:=by
  refine spec_of_V (E:=TE) 0 Tryz.func75 rfl (by simp [Tryz.f75]) fun X hn hX=>?_
  have o0:=sc.toShape.ob0
  have hfor:=sp_searchFor (d:=d) (b:=b) (F:=[]) (M:=M) sc.toShape
  have hrun:=sp_search_run_n (b:=b) (M:=M) sc sd bc bd hM c.ob.toNat 0 (List.replicate c.ob.toNat 0) (List.replicate c.fr.length 0) [] (by rw [List.length_replicate];omega) (by rw [List.length_replicate];omega) (fun i hi=>by simp at hi) (fun _ i j _ hj=>by simp at hj) (by rw [List.length_replicate]) (Nat.zero_le _)
  rw [List.take_zero] at hrun
  repeat' (first|(refine V_at 2 (Imp.closeB 4 3 0 _ _ rfl rfl rfl (by decide)) ?_;simp only [go_sem,simprocAttr])|(refine V_at 4 (Imp.openB 4 0 _ _ rfl (Nat.succ_le_succ (Nat.zero_le _)) rfl rfl) ?_;simp only [go_sem,simprocAttr])|(with_reducible first|refine V_seq ?_|refine V_skip ?_|refine V_ret ?_)|((with_reducible refine V_cond ?_);simp only [go_sem,simprocAttr])|((refine V_region (by rw [hn];rfl) ?_);intro K hK)|((first|with_reducible refine evOps_n ?_|((with_reducible apply evOps_g);rfl));intro K hK;simp (contextual:=true) only [go_sem,simprocAttr])|with_reducible refine evOps_nil ?_|((with_reducible refine hK _ ?_);clear hK K)|(with_reducible first|refine And.intro ?_ ?_|refine nxt_n ?_|refine nxt_r ?_|refine inR_mk ?_ ?_)|((with_reducible refine evCall_at 87 ?_);refine EvCall.mk (hfor) cal_searchFor [(3,4),(4,0),(5,1),(6,2),(0,5),(1,6),(2,7)] [] (by simp [go_sem] <;> (repeat' (first|rfl|constructor))) (by simp [go_sem] <;> (repeat' (first|rfl|constructor))) ?_;all_goals try simp only [go_sem,simprocAttr])|((with_reducible refine evCall_at 90 ?_);refine EvCall.mk (hrun) cal_search_run [(0,5),(1,6),(2,7),(3,4),(4,0),(5,1),(6,2)] [] (by simp [go_sem] <;> (repeat' (first|rfl|constructor))) (by simp [go_sem] <;> (repeat' (first|rfl|constructor))) ?_;all_goals try simp only [go_sem,simprocAttr])|(refine fun (hc : (_ : Bool) = _)=>?_;try simp only [hcS] at hc))
  all_goals try exact om_
  · (first|refine ret_auto ?_|refine ret_auto' ?_);simp only [go_sem,simprocAttr,Tryz.f75]
end Go.Eng
end
section
namespace Go.Eng
open Go Go.Proofs Go.Cats
attribute [local go_sem] List.set_cons_zero List.set_cons_succ
theorem cal_searchable : Callable Tryz.prog 63:=⟨_,Tryz.func63,rfl,rfl⟩
theorem sp_searchable_yes {c d : Cat} (hc : CatB c) (hd : CatB d) (h1 : c.fr.length ≤ 16) (h2 : d.fr.length ≤ 16) : Spec Tryz.prog 63 [.bptr [] (catD c),.bptr [] (catD d)] [] (bv true) []:=by
  refine spec_of_V (E:=TE) 0 Tryz.func63 rfl (by simp [Tryz.f63]) fun X hn hX=>?_
  repeat' (first|(with_reducible first|refine V_seq ?_|refine V_skip ?_|refine V_ret ?_)|((with_reducible refine V_cond ?_);simp only [go_sem,simprocAttr])|((refine V_region (by rw [hn];rfl) ?_);intro K hK)|((first|with_reducible refine evOps_n ?_|((with_reducible apply evOps_g);rfl));intro K hK;simp (contextual:=true) only [go_sem,simprocAttr])|with_reducible refine evOps_nil ?_|((with_reducible refine hK _ ?_);clear hK K)|(with_reducible first|refine And.intro ?_ ?_|refine nxt_n ?_|refine nxt_r ?_|refine inR_mk ?_ ?_)|((with_reducible refine evCall_at 48 ?_);refine EvCall.rq (a:=(sp_Category_arrows)) (b:=cal_Category_arrows) (c:=?_);all_goals try simp only [go_sem,simprocAttr])|(refine fun (hc : (_ : Bool) = _)=>?_;try simp only [hcS] at hc))
  all_goals try exact om_
  · (first|refine ret_auto ?_|refine ret_auto' ?_);simp only [go_sem,simprocAttr,Tryz.f63]
    rw [decide_eq_true (show (d.fr.length : Int) ≤ 16 by omega)]
theorem sp_searchable_no {c d : Cat} (hc : CatB c) (hd : CatB d) (h : ¬ (c.fr.length ≤ 16 ∧ d.fr.length ≤ 16)) : Spec Tryz.prog 63 [.bptr [] (catD c),.bptr [] (catD d)] [] (bv false) []:=by
  refine spec_of_V (E:=TE) 0 Tryz.func63 rfl (by simp [Tryz.f63]) fun X hn hX=>?_
  repeat' (first|(with_reducible first|refine V_seq ?_|refine V_skip ?_|refine V_ret ?_)|((with_reducible refine V_cond ?_);simp only [go_sem,simprocAttr])|((refine V_region (by rw [hn];rfl) ?_);intro K hK)|((first|with_reducible refine evOps_n ?_|((with_reducible apply evOps_g);rfl));intro K hK;simp (contextual:=true) only [go_sem,simprocAttr])|with_reducible refine evOps_nil ?_|((with_reducible refine hK _ ?_);clear hK K)|(with_reducible first|refine And.intro ?_ ?_|refine nxt_n ?_|refine nxt_r ?_|refine inR_mk ?_ ?_)|((with_reducible refine evCall_at 48 ?_);refine EvCall.rq (a:=(sp_Category_arrows)) (b:=cal_Category_arrows) (c:=?_);all_goals try simp only [go_sem,simprocAttr])|(refine fun (hc : (_ : Bool) = _)=>?_;try simp only [hcS] at hc))
  all_goals try exact om_
  · (first|refine ret_auto ?_|refine ret_auto' ?_);simp only [go_sem,simprocAttr,Tryz.f63]
    rw [decide_eq_false (show ¬ (d.fr.length : Int) ≤ 16 by omega)]
  · (first|refine ret_auto ?_|refine ret_auto' ?_);simp only [go_sem,simprocAttr,Tryz.f63]
theorem cal_isomorphisms : Callable Tryz.prog 64:=⟨_,Tryz.func64,rfl,rfl⟩
theorem sp_isomorphisms_ne {c d : Cat} {m : Int} (hc : CatB c) (hd : CatB d) (h : ¬ (c.ob = d.ob ∧ c.fr.length = d.fr.length)) : Spec Tryz.prog 64 [.bptr [] (catD c),.bptr [] (catD d),iv m] [] (.tup [.v (.slice none 0 0),bv true]) []:=by
  refine spec_of_V (E:=TE) 0 Tryz.func64 rfl (by simp [Tryz.f64]) fun X hn hX=>?_
  repeat' (first|(with_reducible first|refine V_seq ?_|refine V_skip ?_|refine V_ret ?_)|((with_reducible refine V_cond ?_);simp only [go_sem,simprocAttr])|((first|refine V_region (by rw [hn];rfl) ?_|refine V_drawn hmix (by rw [hn];rfl) ?_);intro K hK)|((first|with_reducible refine evOps_n ?_|((with_reducible apply evOps_g);rfl)|with_reducible refine evOpsD_n ?_|((with_reducible apply evOpsD_g);rfl));intro K hK;simp (contextual:=true) only [go_sem,simprocAttr])|with_reducible refine evOps_nil ?_|((with_reducible refine evOpsD_nil ?_ ?_);kernel_rfl)|((with_reducible refine hK _ ?_);clear hK K)|(with_reducible first|refine And.intro ?_ ?_|refine nxt_n ?_|refine nxt_r ?_|refine inR_mk ?_ ?_)|((with_reducible refine evCall_at 48 ?_);refine EvCall.rq (a:=(sp_Category_arrows)) (b:=cal_Category_arrows) (c:=?_);all_goals try simp only [go_sem,simprocAttr])|(refine fun (hc : (_ : Bool) = _)=>?_;try simp only [hcS] at hc))
  all_goals try exact om_
  all_goals ((first|refine ret_auto ?_|refine ret_auto' ?_);simp only [go_sem,simprocAttr,Tryz.f64])
theorem sp_isomorphisms_eq {c d : Cat} {M : Nat} {r : Bool × List Fun} (hc : CatB c) (hd : CatB d) (sc : IsCat c) (sd : IsCat d) (hM : M ≤ 4096) (h1 : c.ob = d.ob) (h2 : c.fr.length = d.fr.length) (hr : eat (stL M) [] (funX c d true c.ob.toNat []) = r) : Spec Tryz.prog 64 [.bptr [] (catD c),.bptr [] (catD d),iv M] [] (.tup [.sl 0,bv r.1]) [(0,⟨1,.arr (funsD r.2)⟩)]:=by
  subst hr
  refine spec_of_V (E:=TE) 0 Tryz.func64 rfl (by simp [Tryz.f64]) fun X hn hX=>?_
  repeat' (first|(with_reducible first|refine V_seq ?_|refine V_skip ?_|refine V_ret ?_)|((with_reducible refine V_cond ?_);simp only [go_sem,simprocAttr])|((first|refine V_region (by rw [hn];rfl) ?_|refine V_drawn hmix (by rw [hn];rfl) ?_);intro K hK)|((first|with_reducible refine evOps_n ?_|((with_reducible apply evOps_g);rfl)|with_reducible refine evOpsD_n ?_|((with_reducible apply evOpsD_g);rfl));intro K hK;simp (contextual:=true) only [go_sem,simprocAttr])|with_reducible refine evOps_nil ?_|((with_reducible refine evOpsD_nil ?_ ?_);kernel_rfl)|((with_reducible refine hK _ ?_);clear hK K)|(with_reducible first|refine And.intro ?_ ?_|refine nxt_n ?_|refine nxt_r ?_|refine inR_mk ?_ ?_)|((with_reducible refine evCall_at 48 ?_);refine EvCall.rq (a:=(sp_Category_arrows)) (b:=cal_Category_arrows) (c:=?_);all_goals try simp only [go_sem,simprocAttr])|((with_reducible refine evCall_at 75 ?_);refine EvCall.rq (a:=(sp_allFunctors (c:=c) (d:=d) ?_ ?_ ?_ ?_ ?_)) (b:=cal_allFunctors) (c:=?_);all_goals try simp only [go_sem,simprocAttr])|(refine fun (hc : (_ : Bool) = _)=>?_;try simp only [hcS] at hc))
  all_goals try exact om_
  all_goals ((first|refine ret_auto ?_|refine ret_auto' ?_);simp only [go_sem,simprocAttr,Tryz.f64])
theorem sp_isomorphisms_one {c d : Cat} {r : Bool × List Fun} (hc : CatB c) (hd : CatB d) (sc : IsCat c) (sd : IsCat d) (h1 : c.ob = d.ob) (h2 : c.fr.length = d.fr.length) (hr : eat (stL 0) [] (funX c d true c.ob.toNat []) = r) : Spec Tryz.prog 64 [.bptr [] (catD c),.bptr [] (catD d),iv 0] [] (.tup [.sl 0,bv r.1]) [(0,⟨1,.arr (funsD r.2)⟩)] :=
  sp_isomorphisms_eq (M:=0) hc hd sc sd (Nat.zero_le _) h1 h2 hr
theorem view0L_cat (c : Cat) {V : List Nat} {rs : Nat → Rs} : view0L V rs [iv c.ob,.bor [] (ints c.fr),.bor [] (ints c.to),.bor [] (ints c.id),.bor [] (intss c.co)] (catD c) :=
  ⟨_,_,rfl,.inl rfl,_,_,rfl,⟨rfl,tagV_nil _,fun p hp=>by cases hp⟩,_,_,rfl,⟨rfl,tagV_nil _,fun p hp=>by cases hp⟩,_,_,rfl,⟨rfl,tagV_nil _,fun p hp=>by cases hp⟩,_,_,rfl,⟨rfl,tagV_nil _,fun p hp=>by cases hp⟩,rfl⟩
theorem Imp.lendCat {X : Cx} {σ : Ss} (k i cv : Nat) (c : Cat) (hk : lk σ.tm k = .ptr i 0) (hi : rsL σ.rs i = ⟨cv,.box [iv c.ob,.bor [] (ints c.fr),.bor [] (ints c.to),.bor [] (ints c.id),.bor [] (intss c.co)]⟩) (hcv : 1 ≤ cv) : Imp X σ ⟨(k,.bptr [(i,cv)] (catD c)) :: σ.tm,σ.rs,σ.nx⟩:=by
  have h:=Imp.lendPtr (X:=X) (σ:=σ) k i 0 (catD c) [i] hk ⟨List.mem_singleton.2 rfl,.inl ⟨_,by rw [hi],view0L_cat c⟩⟩ (fun j hj=>by rw [List.mem_singleton.1 hj,hi];exact hcv)
  rw [List.map_cons,List.map_nil,hi] at h
  exact h
def _root_.Go.Cats.INo (c d : Cat) (code : Int) : Prop:=(¬ (IsCat c ∧ IsCat d) ∧ code = 1) ∨ (IsCat c ∧ IsCat d ∧ ¬ (c.fr.length ≤ 16 ∧ d.fr.length ≤ 16) ∧ code = 3) ∨ (IsCat c ∧ IsCat d ∧ (c.fr.length ≤ 16 ∧ d.fr.length ≤ 16) ∧ (¬ (c.ob = d.ob ∧ c.fr.length = d.fr.length) ∨ funX c d true c.ob.toNat [] = []) ∧ code = 4)
structure _root_.Go.Cats.IYes (c d : Cat) (g : Fun) : Prop where
  src : IsCat c
  tgt : IsCat d
  small : c.fr.length ≤ 16 ∧ d.fr.length ≤ 16
  ob : c.ob = d.ob
  ar : c.fr.length = d.fr.length
  fst : ∃ D,funX c d true c.ob.toNat [] = g :: D
theorem cal_FindIsomorphism : Callable Tryz.prog 49:=⟨_,Tryz.func49,rfl,rfl⟩
theorem sp_FindIsomorphism_no {c d : Cat} {code : Int} (hc : CatB c) (hd : CatB d) (h : INo c d code) : Spec Tryz.prog 49 [catV c,catV d] [] (.tup [.agg [iv 0,.v (.slice none 0 0),.v (.slice none 0 0),.v (.slice none 0 0),.v (.slice none 0 0),iv 0,.v (.slice none 0 0),.v (.slice none 0 0),.v (.slice none 0 0),.v (.slice none 0 0),.v (.slice none 0 0),.v (.slice none 0 0)],iv code]) []:=by
  rcases h with ⟨h,rfl⟩|⟨h1,h2,h,rfl⟩|⟨h1,h2,h3,h|h,rfl⟩
  · refine spec_of_V (E:=TE) 0 Tryz.func49 rfl (by simp [Tryz.f49]) fun X hn hX=>?_
    repeat' (first|(refine V_at 1 (Imp.trans (Imp.lendCat 2 0 1 c rfl rfl (Nat.le_refl 1)) (Imp.lendCat 3 1 1 d rfl rfl (Nat.le_refl 1))) ?_;simp only [go_sem,simprocAttr])|(with_reducible first|refine V_seq ?_|refine V_skip ?_|refine V_ret ?_)|((with_reducible refine V_cond ?_);simp only [go_sem,simprocAttr])|((refine V_region (by rw [hn];rfl) ?_);intro K hK)|((first|with_reducible refine evOps_n ?_|((with_reducible apply evOps_g);rfl));intro K hK;simp (contextual:=true) only [go_sem,simprocAttr])|with_reducible refine evOps_nil ?_|((with_reducible refine hK _ ?_);clear hK K)|(with_reducible first|refine And.intro ?_ ?_|refine nxt_n ?_|refine nxt_r ?_|refine inR_mk ?_ ?_)|((with_reducible refine evCall_at 17 ?_);refine EvCall.rq (a:=(sp_areCategories_two (by first|omega|assumption|rfl) (by first|omega|assumption|rfl))) (b:=cal_areCategories) (c:=?_);all_goals try simp only [go_sem,simprocAttr])|(refine fun (hc : (_ : Bool) = _)=>?_;try simp only [hcS] at hc))
    all_goals try exact om_
    · (first|refine ret_auto ?_|refine ret_auto' ?_);simp only [go_sem,simprocAttr,Tryz.f49]
    all_goals exact absurd (by assumption) h
  · refine spec_of_V (E:=TE) 0 Tryz.func49 rfl (by simp [Tryz.f49]) fun X hn hX=>?_
    have h0 : IsCat c ∧ IsCat d:=⟨h1,h2⟩
    repeat' (first|(refine V_at 1 (Imp.trans (Imp.lendCat 2 0 1 c rfl rfl (Nat.le_refl 1)) (Imp.lendCat 3 1 1 d rfl rfl (Nat.le_refl 1))) ?_;simp only [go_sem,simprocAttr])|(with_reducible first|refine V_seq ?_|refine V_skip ?_|refine V_ret ?_)|((with_reducible refine V_cond ?_);simp only [go_sem,simprocAttr])|((refine V_region (by rw [hn];rfl) ?_);intro K hK)|((first|with_reducible refine evOps_n ?_|((with_reducible apply evOps_g);rfl));intro K hK;simp (contextual:=true) only [go_sem,simprocAttr])|with_reducible refine evOps_nil ?_|((with_reducible refine hK _ ?_);clear hK K)|(with_reducible first|refine And.intro ?_ ?_|refine nxt_n ?_|refine nxt_r ?_|refine inR_mk ?_ ?_)|((with_reducible refine evCall_at 17 ?_);refine EvCall.rq (a:=(sp_areCategories_two (by first|omega|assumption|rfl) (by first|omega|assumption|rfl))) (b:=cal_areCategories) (c:=?_);all_goals try simp only [go_sem,simprocAttr])|((with_reducible refine evCall_at 63 ?_);refine EvCall.rq (a:=(sp_searchable_no (by first|omega|assumption|rfl) (by first|omega|assumption|rfl) (by first|omega|assumption|rfl))) (b:=cal_searchable) (c:=?_);all_goals try simp only [go_sem,simprocAttr])|(refine fun (hc : (_ : Bool) = _)=>?_;try simp only [hcS] at hc))
    all_goals try exact om_
    · exact absurd h0 (by assumption)
    · (first|refine ret_auto ?_|refine ret_auto' ?_);simp only [go_sem,simprocAttr,Tryz.f49]
  · refine spec_of_V (E:=TE) 0 Tryz.func49 rfl (by simp [Tryz.f49]) fun X hn hX=>?_
    have h0 : IsCat c ∧ IsCat d:=⟨h1,h2⟩
    obtain ⟨h4,h5⟩:=h3
    repeat' (first|(refine V_at 1 (Imp.trans (Imp.lendCat 2 0 1 c rfl rfl (Nat.le_refl 1)) (Imp.lendCat 3 1 1 d rfl rfl (Nat.le_refl 1))) ?_;simp only [go_sem,simprocAttr])|(with_reducible first|refine V_seq ?_|refine V_skip ?_|refine V_ret ?_)|((with_reducible refine V_cond ?_);simp only [go_sem,simprocAttr])|((refine V_region (by rw [hn];rfl) ?_);intro K hK)|((first|with_reducible refine evOps_n ?_|((with_reducible apply evOps_g);rfl));intro K hK;simp (contextual:=true) only [go_sem,simprocAttr])|with_reducible refine evOps_nil ?_|((with_reducible refine hK _ ?_);clear hK K)|(with_reducible first|refine And.intro ?_ ?_|refine nxt_n ?_|refine nxt_r ?_|refine inR_mk ?_ ?_)|((with_reducible refine evCall_at 17 ?_);refine EvCall.rq (a:=(sp_areCategories_two (by first|omega|assumption|rfl) (by first|omega|assumption|rfl))) (b:=cal_areCategories) (c:=?_);all_goals try simp only [go_sem,simprocAttr])|((with_reducible refine evCall_at 63 ?_);refine EvCall.rq (a:=(sp_searchable_yes (by first|omega|assumption|rfl) (by first|omega|assumption|rfl) (by first|omega|assumption|rfl) (by first|omega|assumption|rfl))) (b:=cal_searchable) (c:=?_);all_goals try simp only [go_sem,simprocAttr])|((with_reducible refine evCall_at 64 ?_);refine EvCall.rq (a:=(sp_isomorphisms_ne (by first|omega|assumption|rfl) (by first|omega|assumption|rfl) (by first|omega|assumption|rfl))) (b:=cal_isomorphisms) (c:=?_);all_goals try simp only [go_sem,simprocAttr])|(refine fun (hc : (_ : Bool) = _)=>?_;try simp only [hcS] at hc))
    all_goals try exact om_
    · exact absurd h0 (by assumption)
    · (first|refine ret_auto ?_|refine ret_auto' ?_);simp only [go_sem,simprocAttr,Tryz.f49]
  · refine spec_of_V (E:=TE) 0 Tryz.func49 rfl (by simp [Tryz.f49]) fun X hn hX=>?_
    have h0 : IsCat c ∧ IsCat d:=⟨h1,h2⟩
    obtain ⟨h4,h5⟩:=h3
    by_cases he : c.ob = d.ob ∧ c.fr.length = d.fr.length
    · obtain ⟨e1,e2⟩:=he
      have hr : eat (stL 0) [] (funX c d true c.ob.toNat []) = (true,[]):=by rw [h];rfl
      repeat' (first|(refine V_at 1 (Imp.trans (Imp.lendCat 2 0 1 c rfl rfl (Nat.le_refl 1)) (Imp.lendCat 3 1 1 d rfl rfl (Nat.le_refl 1))) ?_;simp only [go_sem,simprocAttr])|(with_reducible first|refine V_seq ?_|refine V_skip ?_|refine V_ret ?_)|((with_reducible refine V_cond ?_);simp only [go_sem,simprocAttr])|((refine V_region (by rw [hn];rfl) ?_);intro K hK)|((first|with_reducible refine evOps_n ?_|((with_reducible apply evOps_g);rfl));intro K hK;simp (contextual:=true) only [go_sem,simprocAttr])|with_reducible refine evOps_nil ?_|((with_reducible refine hK _ ?_);clear hK K)|(with_reducible first|refine And.intro ?_ ?_|refine nxt_n ?_|refine nxt_r ?_|refine inR_mk ?_ ?_)|((with_reducible refine evCall_at 17 ?_);refine EvCall.rq (a:=(sp_areCategories_two (by first|omega|assumption|rfl) (by first|omega|assumption|rfl))) (b:=cal_areCategories) (c:=?_);all_goals try simp only [go_sem,simprocAttr])|((with_reducible refine evCall_at 63 ?_);refine EvCall.rq (a:=(sp_searchable_yes (by first|omega|assumption|rfl) (by first|omega|assumption|rfl) (by first|omega|assumption|rfl) (by first|omega|assumption|rfl))) (b:=cal_searchable) (c:=?_);all_goals try simp only [go_sem,simprocAttr])|((with_reducible refine evCall_at 64 ?_);refine EvCall.rq (a:=(sp_isomorphisms_one (r:=(true,[])) (by first|omega|assumption|rfl) (by first|omega|assumption|rfl) (by first|omega|assumption|rfl) (by first|omega|assumption|rfl) (by first|omega|assumption|rfl) (by first|omega|assumption|rfl) (by first|omega|assumption|rfl))) (b:=cal_isomorphisms) (c:=?_);all_goals try simp only [go_sem,simprocAttr])|(refine fun (hc : (_ : Bool) = _)=>?_;try simp only [hcS] at hc))
      all_goals try exact om_
      · exact absurd h0 (by assumption)
      · (first|refine ret_auto ?_|refine ret_auto' ?_);simp only [go_sem,simprocAttr,Tryz.f49]
    · repeat' (first|(refine V_at 1 (Imp.trans (Imp.lendCat 2 0 1 c rfl rfl (Nat.le_refl 1)) (Imp.lendCat 3 1 1 d rfl rfl (Nat.le_refl 1))) ?_;simp only [go_sem,simprocAttr])|(with_reducible first|refine V_seq ?_|refine V_skip ?_|refine V_ret ?_)|((with_reducible refine V_cond ?_);simp only [go_sem,simprocAttr])|((refine V_region (by rw [hn];rfl) ?_);intro K hK)|((first|with_reducible refine evOps_n ?_|((with_reducible apply evOps_g);rfl));intro K hK;simp (contextual:=true) only [go_sem,simprocAttr])|with_reducible refine evOps_nil ?_|((with_reducible refine hK _ ?_);clear hK K)|(with_reducible first|refine And.intro ?_ ?_|refine nxt_n ?_|refine nxt_r ?_|refine inR_mk ?_ ?_)|((with_reducible refine evCall_at 17 ?_);refine EvCall.rq (a:=(sp_areCategories_two (by first|omega|assumption|rfl) (by first|omega|assumption|rfl))) (b:=cal_areCategories) (c:=?_);all_goals try simp only [go_sem,simprocAttr])|((with_reducible refine evCall_at 63 ?_);refine EvCall.rq (a:=(sp_searchable_yes (by first|omega|assumption|rfl) (by first|omega|assumption|rfl) (by first|omega|assumption|rfl) (by first|omega|assumption|rfl))) (b:=cal_searchable) (c:=?_);all_goals try simp only [go_sem,simprocAttr])|((with_reducible refine evCall_at 64 ?_);refine EvCall.rq (a:=(sp_isomorphisms_ne (by first|omega|assumption|rfl) (by first|omega|assumption|rfl) (by first|omega|assumption|rfl))) (b:=cal_isomorphisms) (c:=?_);all_goals try simp only [go_sem,simprocAttr])|(refine fun (hc : (_ : Bool) = _)=>?_;try simp only [hcS] at hc))
      all_goals try exact om_
      · exact absurd h0 (by assumption)
      · (first|refine ret_auto ?_|refine ret_auto' ?_);simp only [go_sem,simprocAttr,Tryz.f49]
theorem sp_FindIsomorphism_yes {c d : Cat} {g : Fun} (hc : CatB c) (hd : CatB d) (h : IYes c d g) : Spec Tryz.prog 49 [catV c,catV d] [] (.tup [.agg [iv g.src.ob,.sl 0,.sl 1,.sl 2,.sl 3,iv g.tgt.ob,.sl 4,.sl 5,.sl 6,.sl 7,.sl 8,.sl 9],iv 0]) [(0,⟨1,.arr (ints g.src.fr)⟩),(1,⟨1,.arr (ints g.src.to)⟩),(2,⟨1,.arr (ints g.src.id)⟩),(3,⟨1,.arr (intss g.src.co)⟩),(4,⟨1,.arr (ints g.tgt.fr)⟩),(5,⟨1,.arr (ints g.tgt.to)⟩),(6,⟨1,.arr (ints g.tgt.id)⟩),(7,⟨1,.arr (intss g.tgt.co)⟩),(8,⟨1,.arr (ints g.obs)⟩),(9,⟨1,.arr (ints g.ars)⟩)]:=by
  have h0 : IsCat c ∧ IsCat d:=⟨h.src,h.tgt⟩
  have h1:=h.src
  have h2:=h.tgt
  have e1:=h.ob
  have e2:=h.ar
  obtain ⟨h4,h5⟩:=h.small
  obtain ⟨D,hD⟩:=h.fst
  have hr : eat (stL 0) [] (funX c d true c.ob.toNat []) = (false,[g]):=by rw [hD,eat_L _ _ (Nat.le_refl 0)];simp
  refine spec_of_V (E:=TE) 0 Tryz.func49 rfl (by simp [Tryz.f49]) fun X hn hX=>?_
  repeat' (first|(refine V_at 1 (Imp.trans (Imp.lendCat 2 0 1 c rfl rfl (Nat.le_refl 1)) (Imp.lendCat 3 1 1 d rfl rfl (Nat.le_refl 1))) ?_;simp only [go_sem,simprocAttr])|(refine V_at 8 (Imp.takeFun 4 1 g rfl (Nat.le_refl 1) (fun k _=>rsL_free rfl k)) ?_;simp only [go_sem,simprocAttr,takeL])|(refine V_regionH 8 (by rw [hn];rfl) ?_;intro K hK)|(refine evOpsH_h ?_;refine hook_takeFun (i:=4) (cv:=11) (j:=5) (g:=g) rfl rfl rfl (by simp only [go_sem,simprocAttr]) (by simp only [go_sem,simprocAttr]) ?_;simp only [go_sem,simprocAttr])|((with_reducible refine evOpsH_n ?_);simp only [go_sem,simprocAttr])|(with_reducible refine evOpsH_e ?_)|(with_reducible first|refine V_seq ?_|refine V_skip ?_|refine V_ret ?_)|((with_reducible refine V_cond ?_);simp only [go_sem,simprocAttr])|((refine V_region (by rw [hn];rfl) ?_);intro K hK)|((first|with_reducible refine evOps_n ?_|((with_reducible apply evOps_g);rfl));intro K hK;simp (contextual:=true) only [go_sem,simprocAttr])|with_reducible refine evOps_nil ?_|((with_reducible refine hK _ ?_);clear hK K)|(with_reducible first|refine And.intro ?_ ?_|refine nxt_n ?_|refine nxt_r ?_|refine inR_mk ?_ ?_)|((with_reducible refine evCall_at 17 ?_);refine EvCall.rq (a:=(sp_areCategories_two (by first|omega|assumption|rfl) (by first|omega|assumption|rfl))) (b:=cal_areCategories) (c:=?_);all_goals try simp only [go_sem,simprocAttr])|((with_reducible refine evCall_at 63 ?_);refine EvCall.rq (a:=(sp_searchable_yes (by first|omega|assumption|rfl) (by first|omega|assumption|rfl) (by first|omega|assumption|rfl) (by first|omega|assumption|rfl))) (b:=cal_searchable) (c:=?_);all_goals try simp only [go_sem,simprocAttr])|((with_reducible refine evCall_at 64 ?_);refine EvCall.rq (a:=(sp_isomorphisms_one (r:=(false,[g])) (by first|omega|assumption|rfl) (by first|omega|assumption|rfl) (by first|omega|assumption|rfl) (by first|omega|assumption|rfl) (by first|omega|assumption|rfl) (by first|omega|assumption|rfl) (by first|omega|assumption|rfl))) (b:=cal_isomorphisms) (c:=?_);all_goals try simp only [go_sem,simprocAttr])|(refine fun (hc : (_ : Bool) = _)=>?_;try simp only [hcS] at hc))
  all_goals try exact om_
  · exact absurd h0 (by assumption)
  · (first|refine ret_auto ?_|refine ret_auto' ?_);simp only [go_sem,simprocAttr,Tryz.f49]
end Go.Eng
end
