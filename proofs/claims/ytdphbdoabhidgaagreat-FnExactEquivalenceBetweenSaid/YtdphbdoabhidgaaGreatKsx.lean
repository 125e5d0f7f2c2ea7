/- Several texts in one: T01, Q36. -/
import Derived.Test.YtdphbdoabhidgaaGreatKdx
import Derived.Test.YtdphbdoabhidgaaGreatG11q
import Derived.Test.YtdphbdoabhidgaaGreatC18q
import Derived.Test.YtdphbdoabhidgaaGreatQ30q
set_option linter.unusedSimpArgs false
set_option linter.unusedVariables false
set_option maxRecDepth 100000
set_option maxHeartbeats 16000000
section
namespace Go.Eng
open Go Go.Proofs Go.Cats
def _root_.Go.Cats.thn (f g : List Int) : List Int:=f.map fun y=>g.getD y.toNat 0
def _root_.Go.Cats.thF (f g : Fun) : Fun:=⟨f.src,g.tgt,thn f.obs g.obs,thn f.ars g.ars⟩
theorem _root_.Go.Cats.thn_len (f g : List Int) : (thn f g).length = f.length:=by unfold thn;rw [List.length_map]
theorem _root_.Go.Cats.thn_at {f g : List Int} {i : Nat} (hi : i < f.length) : (thn f g).getD i 0 = g.getD (f.getD i 0).toNat 0:=by
  unfold thn
  rw [List.getD_eq_getElem?_getD,List.getElem?_map,List.getElem?_eq_getElem hi,List.getD_eq_getElem?_getD (l:=f),List.getElem?_eq_getElem hi];rfl
theorem _root_.Go.Cats.thn_in {f g : List Int} {n : Int} (h : Within f g.length) (k : Within g n) : Within (thn f g) n:=fun i hi=>by
  rw [thn_len] at hi
  rw [thn_at hi]
  have:=h i hi
  exact k _ (by omega)
theorem thn_fill {f g : List Int} {i : Nat} (hi : i < f.length) : (thn (f.take (i + 1)) g) = thn (f.take i) g ++ [g.getD (f.getD i 0).toNat 0]:=by
  unfold thn
  rw [List.take_succ_eq_append_getElem hi,List.map_append,List.getD_eq_getElem?_getD (l:=f),List.getElem?_eq_getElem hi];rfl
theorem thn_nil (g : List Int) : thn [] g = []:=rfl
attribute [local go_sem] List.set_cons_zero List.set_cons_succ thn_nil
theorem cal_then : Callable Tryz.prog 76:=⟨_,Tryz.func76,rfl,rfl⟩
theorem sp_then {f g : List Int} (hf : f.length ≤ 1048576) (hg : g.length ≤ 1048576) (hw : Within f g.length) : Spec Tryz.prog 76 [.bor [] (ints f),.bor [] (ints g)] [] (.sl 0) [(0,⟨1,.arr (ints (thn f g))⟩)]:=by
  refine spec_of_V (E:=TE) 0 Tryz.func76 rfl (by simp [Tryz.f76]) fun X hn hX=>?_
  obtain ⟨p,hp⟩ : ∃ p,thn f g = p:=⟨_,rfl⟩
  have hpl : p.length = f.length:=by rw [← hp,thn_len]
  have hpa : ∀ i,i < f.length → p.getD i 0 = g.getD (f.getD i 0).toNat 0:=fun i hi=>by rw [← hp,thn_at hi]
  rw [hp]
  repeat' (first|(with_reducible first|refine V_seq ?_|refine V_block ?_|refine V_skip ?_|refine V_ret ?_|refine V_exit ?_)|((with_reducible refine V_cond ?_);simp only [go_sem,simprocAttr])|((refine V_region (by rw [hn];rfl) ?_);intro K hK)|((first|with_reducible refine evOps_n ?_|((with_reducible apply evOps_g);rfl));intro K hK;simp (contextual:=true) only [go_sem,simprocAttr])|with_reducible refine evOps_nil ?_|((with_reducible refine hK _ ?_);clear hK K)|(with_reducible first|refine And.intro ?_ ?_|refine nxt_n ?_|refine nxt_r ?_|refine nxt_e ?_|refine blk_n ?_|refine blk_r ?_|refine blk_same ?_|refine blk_other (by decide) ?_|refine noG_n ?_|refine noG_r ?_|refine noG_e ?_|refine inR_mk ?_ ?_)|(refine fun (hc : (_ : Bool) = _)=>?_;try simp only [hcS] at hc))
  all_goals try (first|(with_reducible assumption)|((try simp only [Cat.F,Cat.T,Cat.I,Cat.C,Fun.O,Fun.A,Cat.Entry,Int.toNat_natCast] at *);omega))
  refine V_loopK (G:={i : Nat // i ≤ f.length ∧ (True)}) (fun ⟨i,_⟩=>[(13,iv i),(5,.sl 0)]) [1,4,11,12] (fun ⟨i,_⟩=>[(0,⟨1,.arr (ints (p.take i ++ List.replicate (f.length - i) 0))⟩)]) [0] (fun zz=>f.length - zz.1) ⟨0,Nat.zero_le _,by first|trivial|simp⟩ ?_ ?_
  · exact Imp.auto hX (by simp [go_sem,simprocAttr])
  rintro ⟨i,hii,hwi⟩
  simp only [go_sem,simprocAttr]
  have h1:=hw i
  have h2:=hpa i
  have h3:=fill_step p i
  rw [hpl] at h3
  repeat' (first|(with_reducible first|refine V_seq ?_|refine V_block ?_|refine V_skip ?_|refine V_ret ?_|refine V_exit ?_)|((with_reducible refine V_cond ?_);simp only [go_sem,simprocAttr])|((refine V_region (by rw [hn];rfl) ?_);intro K hK)|((first|with_reducible refine evOps_n ?_|((with_reducible apply evOps_g);rfl));intro K hK;simp (contextual:=true) only [go_sem,simprocAttr])|with_reducible refine evOps_nil ?_|((with_reducible refine hK _ ?_);clear hK K)|(with_reducible first|refine And.intro ?_ ?_|refine nxt_n ?_|refine nxt_r ?_|refine nxt_e ?_|refine blk_n ?_|refine blk_r ?_|refine blk_same ?_|refine blk_other (by decide) ?_|refine noG_n ?_|refine noG_r ?_|refine noG_e ?_|refine inR_mk ?_ ?_)|(refine fun (hc : (_ : Bool) = _)=>?_;try simp only [hcS] at hc))
  all_goals try (first|(with_reducible assumption)|((try simp only [Cat.F,Cat.T,Cat.I,Cat.C,Fun.O,Fun.A,Cat.Entry,Int.toNat_natCast] at *);omega))
  · refine ⟨⟨i + 1,by omega,(by trivial)⟩,by simp only;omega,Imp.auto hX (by simp only [go_sem,simprocAttr,← h2 (by omega),h3 (show i < f.length by omega)])⟩
  · (first|refine ret_auto ?_|refine ret_auto' ?_);simp only [go_sem,simprocAttr,Tryz.f76]
    rw [show i = f.length by omega];simp [← hpl]
theorem cal_l01Then : Callable Tryz.prog 66:=⟨_,Tryz.func66,rfl,rfl⟩
theorem sp_l01Then {f g : List Int} (hf : f.length ≤ 1048576) (hg : g.length ≤ 1048576) (hw : Within f g.length) : Spec Tryz.prog 66 [.bor [] (ints f),.bor [] (ints g)] [] (.sl 0) [(0,⟨1,.arr (ints (thn f g))⟩)]:=by
  refine spec_of_V (E:=TE) 0 Tryz.func66 rfl (by simp [Tryz.f66]) fun X hn hX=>?_
  repeat' (first|(with_reducible first|refine V_seq ?_|refine V_block ?_|refine V_skip ?_|refine V_ret ?_|refine V_exit ?_)|((with_reducible refine V_cond ?_);simp only [go_sem,simprocAttr])|((refine V_region (by rw [hn];rfl) ?_);intro K hK)|((first|with_reducible refine evOps_n ?_|((with_reducible apply evOps_g);rfl));intro K hK;simp (contextual:=true) only [go_sem,simprocAttr])|with_reducible refine evOps_nil ?_|((with_reducible refine hK _ ?_);clear hK K)|(with_reducible first|refine And.intro ?_ ?_|refine nxt_n ?_|refine nxt_r ?_|refine nxt_e ?_|refine blk_n ?_|refine blk_r ?_|refine blk_same ?_|refine blk_other (by decide) ?_|refine noG_n ?_|refine noG_r ?_|refine noG_e ?_|refine inR_mk ?_ ?_)|(refine fun (hc : (_ : Bool) = _)=>?_;try simp only [hcS] at hc))
  all_goals try (first|(with_reducible assumption)|((try simp only [Cat.F,Cat.T,Cat.I,Cat.C,Fun.O,Fun.A,Cat.Entry,Int.toNat_natCast] at *);omega))
  refine V_loopK (G:={i : Nat // i ≤ f.length ∧ (True)}) (fun ⟨i,_⟩=>[(6,iv i),(5,.sl 0)]) [0,1,4] (fun ⟨i,_⟩=>[(0,⟨1,.arr (ints (thn (f.take i) g))⟩)]) [0] (fun zz=>f.length - zz.1) ⟨0,Nat.zero_le _,by first|trivial|simp⟩ ?_ ?_
  · exact Imp.auto hX (by simp [go_sem,simprocAttr])
  rintro ⟨i,hii,hwi⟩
  simp only [go_sem,simprocAttr]
  have h1:=hw i
  have hl : (thn (f.take i) g).length ≤ i:=by rw [thn_len,List.length_take];omega
  rcases Nat.lt_or_ge i f.length with hlt | hge
  · have h2:=h1 hlt
    have e1:=thn_fill (g:=g) hlt
    repeat' (first|(with_reducible first|refine V_seq ?_|refine V_block ?_|refine V_skip ?_|refine V_ret ?_|refine V_exit ?_)|((with_reducible refine V_cond ?_);simp only [go_sem,simprocAttr])|((refine V_region (by rw [hn];rfl) ?_);intro K hK)|((first|with_reducible refine evOps_n ?_|((with_reducible apply evOps_g);rfl));intro K hK;simp (contextual:=true) only [go_sem,simprocAttr])|with_reducible refine evOps_nil ?_|((with_reducible refine hK _ ?_);clear hK K)|(with_reducible first|refine And.intro ?_ ?_|refine nxt_n ?_|refine nxt_r ?_|refine nxt_e ?_|refine blk_n ?_|refine blk_r ?_|refine blk_same ?_|refine blk_other (by decide) ?_|refine noG_n ?_|refine noG_r ?_|refine noG_e ?_|refine inR_mk ?_ ?_)|(refine fun (hc : (_ : Bool) = _)=>?_;try simp only [hcS] at hc))
    all_goals try (first|(with_reducible assumption)|((try simp only [Cat.F,Cat.T,Cat.I,Cat.C,Fun.O,Fun.A,Cat.Entry,Int.toNat_natCast] at *);omega))
    · refine ⟨⟨i + 1,by omega,(by trivial)⟩,by simp only;omega,Imp.auto hX (by simp only [go_sem,simprocAttr,e1])⟩
  · have e1 : thn (f.take i) g = thn f g:=by rw [List.take_of_length_le hge]
    repeat' (first|(with_reducible first|refine V_seq ?_|refine V_block ?_|refine V_skip ?_|refine V_ret ?_|refine V_exit ?_)|((with_reducible refine V_cond ?_);simp only [go_sem,simprocAttr])|((refine V_region (by rw [hn];rfl) ?_);intro K hK)|((first|with_reducible refine evOps_n ?_|((with_reducible apply evOps_g);rfl));intro K hK;simp (contextual:=true) only [go_sem,simprocAttr])|with_reducible refine evOps_nil ?_|((with_reducible refine hK _ ?_);clear hK K)|(with_reducible first|refine And.intro ?_ ?_|refine nxt_n ?_|refine nxt_r ?_|refine nxt_e ?_|refine blk_n ?_|refine blk_r ?_|refine blk_same ?_|refine blk_other (by decide) ?_|refine noG_n ?_|refine noG_r ?_|refine noG_e ?_|refine inR_mk ?_ ?_)|(refine fun (hc : (_ : Bool) = _)=>?_;try simp only [hcS] at hc))
    all_goals try (first|(with_reducible assumption)|((try simp only [Cat.F,Cat.T,Cat.I,Cat.C,Fun.O,Fun.A,Cat.Entry,Int.toNat_natCast] at *);omega))
    · (first|refine ret_auto ?_|refine ret_auto' ?_);simp only [go_sem,simprocAttr,Tryz.f66]
      rw [e1]
structure ThF (f g : Fun) : Prop where
  src : CatB f.src
  tgt : CatB g.tgt
  lo : f.obs.length ≤ 1048576
  la : f.ars.length ≤ 1048576
  go : g.obs.length ≤ 1048576
  ga : g.ars.length ≤ 1048576
  wo : Within f.obs g.obs.length
  wa : Within f.ars g.ars.length
theorem cal_Functor_then : Callable Tryz.prog 39:=⟨_,Tryz.func39,rfl,rfl⟩
theorem sp_Functor_then {f g : Fun} (h : ThF f g) : Spec Tryz.prog 39 [.bptr [] (funD f),.bptr [] (funD g)] [] (.agg [iv (thF f g).src.ob,.sl 0,.sl 1,.sl 2,.sl 3,iv (thF f g).tgt.ob,.sl 4,.sl 5,.sl 6,.sl 7,.sl 8,.sl 9]) [(0,⟨1,.arr (ints (thF f g).src.fr)⟩),(1,⟨1,.arr (ints (thF f g).src.to)⟩),(2,⟨1,.arr (ints (thF f g).src.id)⟩),(3,⟨1,.arr (intss (thF f g).src.co)⟩),(4,⟨1,.arr (ints (thF f g).tgt.fr)⟩),(5,⟨1,.arr (ints (thF f g).tgt.to)⟩),(6,⟨1,.arr (ints (thF f g).tgt.id)⟩),(7,⟨1,.arr (intss (thF f g).tgt.co)⟩),(8,⟨1,.arr (ints (thF f g).obs)⟩),(9,⟨1,.arr (ints (thF f g).ars)⟩)]:=by
  refine spec_of_V (E:=TE) 0 Tryz.func39 rfl (by simp [Tryz.f39]) fun X hn hX=>?_
  obtain ⟨b1,b2,b3,b4,b5,b6,b7,b8⟩:=h
  have l1:=thn_len f.obs g.obs
  have l2:=thn_len f.ars g.ars
  repeat' (first|(with_reducible first|refine V_seq ?_|refine V_skip ?_|refine V_ret ?_)|((with_reducible refine V_cond ?_);simp only [go_sem,simprocAttr])|((first|refine V_region (by rw [hn];rfl) ?_|refine V_drawn hmix (by rw [hn];rfl) ?_);intro K hK)|((first|with_reducible refine evOps_n ?_|((with_reducible apply evOps_g);rfl)|with_reducible refine evOpsD_n ?_|((with_reducible apply evOpsD_g);rfl));intro K hK;simp (contextual:=true) only [go_sem,simprocAttr])|with_reducible refine evOps_nil ?_|((with_reducible refine evOpsD_nil ?_ ?_);kernel_rfl)|((with_reducible refine hK _ ?_);clear hK K)|(with_reducible first|refine And.intro ?_ ?_|refine nxt_n ?_|refine nxt_r ?_|refine inR_mk ?_ ?_)|((with_reducible refine evCall_at 76 ?_);refine EvCall.rq (a:=(sp_then (f:=f.obs) (g:=g.obs) ?_ ?_ ?_)) (b:=cal_then) (c:=?_);all_goals try simp only [go_sem,simprocAttr])|((with_reducible refine evCall_at 76 ?_);refine EvCall.rq (a:=(sp_then (f:=f.ars) (g:=g.ars) ?_ ?_ ?_)) (b:=cal_then) (c:=?_);all_goals try simp only [go_sem,simprocAttr])|((with_reducible refine evCall_at 74 ?_);refine EvCall.rq (a:=(sp_functor (c:=f.src) (d:=g.tgt) (p:=thn f.obs g.obs) (q:=thn f.ars g.ars) ?_ ?_ ?_ ?_)) (b:=cal_functor) (c:=?_);all_goals try simp only [go_sem,simprocAttr])|(refine fun (hc : (_ : Bool) = _)=>?_;try simp only [hcS] at hc))
  all_goals try (first|(with_reducible assumption)|((try simp only [Cat.F,Cat.T,Cat.I,Cat.C,Fun.O,Fun.A,Cat.Entry,Int.toNat_natCast] at *);omega))
  all_goals ((first|refine ret_auto ?_|refine ret_auto' ?_);simp only [go_sem,simprocAttr,Tryz.f39])
  all_goals exact ⟨⟨rfl,rfl,rfl,rfl,rfl,rfl,rfl,rfl,rfl,rfl⟩,rfl⟩
theorem cal_l06Then : Callable Tryz.prog 35:=⟨_,Tryz.func35,rfl,rfl⟩
theorem sp_l06Then {f g : Fun} (h : ThF f g) : Spec Tryz.prog 35 [funV f,funV g] [] (.agg [iv (thF f g).src.ob,.sl 0,.sl 1,.sl 2,.sl 3,iv (thF f g).tgt.ob,.sl 4,.sl 5,.sl 6,.sl 7,.sl 8,.sl 9]) [(0,⟨1,.arr (ints (thF f g).src.fr)⟩),(1,⟨1,.arr (ints (thF f g).src.to)⟩),(2,⟨1,.arr (ints (thF f g).src.id)⟩),(3,⟨1,.arr (intss (thF f g).src.co)⟩),(4,⟨1,.arr (ints (thF f g).tgt.fr)⟩),(5,⟨1,.arr (ints (thF f g).tgt.to)⟩),(6,⟨1,.arr (ints (thF f g).tgt.id)⟩),(7,⟨1,.arr (intss (thF f g).tgt.co)⟩),(8,⟨1,.arr (ints (thF f g).obs)⟩),(9,⟨1,.arr (ints (thF f g).ars)⟩)]:=by
  refine spec_of_V (E:=TE) 0 Tryz.func35 rfl (by simp [Tryz.f35]) fun X hn hX=>?_
  obtain ⟨b1,b2,b3,b4,b5,b6,b7,b8⟩:=h
  have l1:=thn_len f.obs g.obs
  have l2:=thn_len f.ars g.ars
  repeat' (first|(with_reducible first|refine V_seq ?_|refine V_skip ?_|refine V_ret ?_)|((with_reducible refine V_cond ?_);simp only [go_sem,simprocAttr])|((first|refine V_region (by rw [hn];rfl) ?_|refine V_drawn hmix (by rw [hn];rfl) ?_);intro K hK)|((first|with_reducible refine evOps_n ?_|((with_reducible apply evOps_g);rfl)|with_reducible refine evOpsD_n ?_|((with_reducible apply evOpsD_g);rfl));intro K hK;simp (contextual:=true) only [go_sem,simprocAttr])|with_reducible refine evOps_nil ?_|((with_reducible refine evOpsD_nil ?_ ?_);kernel_rfl)|((with_reducible refine hK _ ?_);clear hK K)|(with_reducible first|refine And.intro ?_ ?_|refine nxt_n ?_|refine nxt_r ?_|refine inR_mk ?_ ?_)|((with_reducible refine evCall_at 66 ?_);refine EvCall.rq (a:=(sp_l01Then (f:=f.obs) (g:=g.obs) ?_ ?_ ?_)) (b:=cal_l01Then) (c:=?_);all_goals try simp only [go_sem,simprocAttr])|((with_reducible refine evCall_at 66 ?_);refine EvCall.rq (a:=(sp_l01Then (f:=f.ars) (g:=g.ars) ?_ ?_ ?_)) (b:=cal_l01Then) (c:=?_);all_goals try simp only [go_sem,simprocAttr])|((with_reducible refine evCall_at 33 ?_);refine EvCall.rq (a:=(sp_l06Make (c:=f.src) (d:=g.tgt) (p:=thn f.obs g.obs) (q:=thn f.ars g.ars) ?_ ?_ ?_ ?_)) (b:=cal_l06Make) (c:=?_);all_goals try simp only [go_sem,simprocAttr])|(refine fun (hc : (_ : Bool) = _)=>?_;try simp only [hcS] at hc))
  all_goals try (first|(with_reducible assumption)|((try simp only [Cat.F,Cat.T,Cat.I,Cat.C,Fun.O,Fun.A,Cat.Entry,Int.toNat_natCast] at *);omega))
  all_goals ((first|refine ret_auto ?_|refine ret_auto' ?_);simp only [go_sem,simprocAttr,Tryz.f35])
  all_goals exact ⟨⟨rfl,rfl,rfl,rfl,rfl,rfl,rfl,rfl,rfl,rfl⟩,rfl⟩
end Go.Eng
end
section
namespace Go.Cats
open Go.Eng
theorem clsI_val (l : List Int) : ∀ i j : Nat,j < i → (clsI l i).2.getD ((clsI l i).1.getD j 0).toNat 0 = l.getD j 0
  | 0,j,hj=>by omega
  | i + 1,j,hj=>by
    have hl:=(clsI_facts l i).1
    have hf:=(cls_first l (n:=i) i (Nat.le_refl _)).1
    have ap1 : ∀ v : Int,j < i → ((clsI l i).1 ++ [v]).getD j 0 = (clsI l i).1.getD j 0:=fun v q=>by
      rw [List.getD_eq_getElem?_getD,List.getElem?_append_left (by omega),← List.getD_eq_getElem?_getD]
    have ap2 : ∀ v : Int,((clsI l i).1 ++ [v]).getD i 0 = v:=fun v=>by
      rw [List.getD_eq_getElem?_getD,List.getElem?_append_right (by omega),hl,Nat.sub_self];rfl
    by_cases q : idxOf (clsI l i).2 (l.getD i 0) < 0
    · rw [clsI_new q]
      simp only
      by_cases e : j = i
      · rw [e,ap2,Int.toNat_natCast,List.getD_eq_getElem?_getD,List.getElem?_append_right (Nat.le_refl _),Nat.sub_self];rfl
      · rw [ap1 _ (by omega)]
        have h1:=hf j (by omega)
        rw [List.getD_eq_getElem?_getD,List.getElem?_append_left (by omega),← List.getD_eq_getElem?_getD]
        exact clsI_val l i j (by omega)
    · rw [clsI_old q]
      simp only
      by_cases e : j = i
      · rw [e,ap2]
        exact (idxOf_of (by omega)).2.2
      · rw [ap1 _ (by omega)]
        exact clsI_val l i j (by omega)
theorem cls_same {l : List Int} {n i j : Nat} (hi : i < n) (hj : j < n) (e : (clsI l n).1.getD i 0 = (clsI l n).1.getD j 0) : l.getD i 0 = l.getD j 0:=by
  have h1:=clsI_val l n i hi
  have h2:=clsI_val l n j hj
  rw [e] at h1
  exact h1.symm.trans h2
section
variable {c : Cat} {x : Nat} {f : Int}
noncomputable def ldO (c : Cat) (x : Nat) : Int:=idxOf (isoC c) ((isoC c).getD x 0)
structure LdW (c : Cat) (x : Nat) : Prop where
  lo : 0 ≤ ldO c x
  hi : ldO c x < c.ob
  same : (isoC c).getD (ldO c x).toNat 0 = (isoC c).getD x 0
  fst : Fst (isoC c) (ldO c x).toNat
  iso : c.IsoO x (ldO c x)
  cls0 : 0 ≤ (isoC c).getD x 0
  cls1 : (isoC c).getD x 0 < (skO c c.ob.toNat).length
  at_ : (skO c c.ob.toNat).getD ((isoC c).getD x 0).toNat 0 = ldO c x
  idx : idxOf (skO c c.ob.toNat) (ldO c x) = (isoC c).getD x 0
  mem : ldO c x ∈ skO c c.ob.toNat
theorem ldW (s : IsCat c) (hx : x < c.ob.toNat) : LdW c x:=by
  have o0:=s.toShape.ob0
  have hlen:=isoC_len c
  have hm : (isoC c).getD x 0 ∈ isoC c:=by rw [List.getD_eq_getElem?_getD,List.getElem?_eq_getElem (by omega)];exact List.getElem_mem _
  obtain ⟨h1,h2,h3⟩:=idxOf_mem hm
  have h1 : 0 ≤ ldO c x:=h1
  have h2 : ldO c x < (isoC c).length:=h2
  have h3 : (isoC c).getD (ldO c x).toNat 0 = (isoC c).getD x 0:=h3
  have hf : Fst (isoC c) (ldO c x).toNat:=by
    refine (fst_idx (by omega)).1 ?_
    rw [h3]
    show ldO c x = _
    omega
  have hld:=(cls_lead _ (n:=c.ob.toNat) (i:=(ldO c x).toNat) (by omega)).2 hf
  have hld : (isoC c).getD (ldO c x).toNat 0 = ((skO c (ldO c x).toNat).length : Int):=hld
  obtain ⟨a1,a2⟩:=selP_at (P:=Fst (isoC c)) (n:=c.ob.toNat) (x:=(ldO c x).toNat) (by omega) hf
  have a1 : (skO c (ldO c x).toNat).length < (skO c c.ob.toNat).length:=a1
  have a2 : (skO c c.ob.toNat).getD (skO c (ldO c x).toNat).length 0 = ((ldO c x).toNat : Int):=a2
  have hix:=selP_idx (P:=Fst (isoC c)) (n:=c.ob.toNat) (x:=(ldO c x).toNat) (by omega) hf
  have hix : idxOf (skO c c.ob.toNat) ((ldO c x).toNat : Int) = ((skO c (ldO c x).toNat).length : Int):=hix
  rw [Int.toNat_of_nonneg h1] at a2 hix
  refine ⟨h1,by omega,h3,hf,?_,by omega,by omega,?_,by omega,mem_selP.2 ⟨(ldO c x).toNat,by omega,hf,by omega⟩⟩
  · have:=cls_same (l:=joK c.ob.toNat (isoP c c.fr.length) (isoP c c.fr.length).length) (n:=c.ob.toNat) (i:=x) (j:=(ldO c x).toNat) (by omega) (by omega) h3.symm
    have:=((isoP_gen s).iff (x:=x) (y:=(ldO c x).toNat) (by omega) (by omega)).1 this
    rw [Int.toNat_of_nonneg h1] at this
    exact this
  · rw [← h3,hld,Int.toNat_natCast];exact a2
noncomputable def lsO (c : Cat) (x y : Int) : Int:=fndP (fun f=>0 ≤ c.inv f) (c.hom x y)
theorem lsO_iso {x y : Int} (h : c.IsoO x y) : lsO c x y ∈ c.hom x y ∧ 0 ≤ c.inv (lsO c x y):=by
  rcases fndP_cases (fun f=>0 ≤ c.inv f) (c.hom x y) with ⟨_,h2⟩|h2
  · obtain ⟨f,hf,hi⟩:=h
    exact absurd hi (h2 f hf)
  · exact h2
open Classical in
noncomputable def chO (c : Cat) (x : Nat) : Int:=if (x : Int) = ldO c x then c.id.getD x 0 else lsO c x (ldO c x)
noncomputable def chS (c : Cat) (i : Nat) : List Int:=(List.range i).map (chO c)
theorem chS_zero : chS c 0 = []:=rfl
theorem chS_len (i : Nat) : (chS c i).length = i:=by unfold chS;rw [List.length_map,List.length_range]
theorem chS_yes (h : (x : Int) = ldO c x) : chS c (x + 1) = chS c x ++ [c.id.getD x 0]:=by
  unfold chS;rw [List.range_succ,List.map_append,List.map_singleton,chO,if_pos h]
theorem chS_no (h : ¬ (x : Int) = ldO c x) : chS c (x + 1) = chS c x ++ [lsO c x (ldO c x)]:=by
  unfold chS;rw [List.range_succ,List.map_append,List.map_singleton,chO,if_neg h]
theorem chS_at {n : Nat} (h : x < n) : (chS c n).getD x 0 = chO c x:=by
  unfold chS;rw [List.getD_eq_getElem?_getD,List.getElem?_map,List.getElem?_range h];rfl
structure ChO (c : Cat) (x : Nat) : Prop where
  lo : 0 ≤ chO c x
  hi : chO c x < c.fr.length
  F : c.F (chO c x) = x
  T : c.T (chO c x) = ldO c x
  inv : 0 ≤ c.inv (chO c x)
theorem chW (s : IsCat c) (hx : x < c.ob.toNat) : ChO c x:=by
  have hw:=ldW s hx
  by_cases e : (x : Int) = ldO c x
  · obtain ⟨a,b,d,g⟩:=s.toShape.unitI (x:=(x : Int)) (by omega) (by omega)
    have hc : chO c x = c.I x:=by unfold chO;rw [if_pos e];simp [Cat.I]
    have hm : c.I x ∈ c.hom x x:=Cat.mem_hom.2 ⟨a,b,d,g⟩
    have hu:=s.unlI a b
    rw [d] at hu
    refine ⟨by rw [hc];exact a,by rw [hc];exact b,by rw [hc];exact d,by rw [hc,← e];exact g,?_⟩
    rw [hc]
    refine Cat.inv_ge.2 ⟨c.I x,by rw [d,g];exact hm,?_,?_⟩
    · rw [d];exact hu
    · rw [g];exact hu
  · have hc : chO c x = lsO c x (ldO c x):=by unfold chO;rw [if_neg e]
    obtain ⟨h1,h2⟩:=lsO_iso hw.iso
    obtain ⟨a,b,d,g⟩:=Cat.mem_hom.1 h1
    exact ⟨by rw [hc];exact a,by rw [hc];exact b,by rw [hc];exact d,by rw [hc];exact g,by rw [hc];exact h2⟩
noncomputable def rtA (c : Cat) (f : Nat) : Int:=c.C (c.C (c.inv (chO c (c.fr.getD f 0).toNat)) f) (chO c (c.to.getD f 0).toNat)
structure RtW (c : Cat) (f : Nat) : Prop where
  i0 : 0 ≤ c.inv (chO c (c.fr.getD f 0).toNat)
  i1 : c.inv (chO c (c.fr.getD f 0).toNat) < c.fr.length
  iT : c.T (c.inv (chO c (c.fr.getD f 0).toNat)) = c.fr.getD f 0
  m0 : 0 ≤ c.C (c.inv (chO c (c.fr.getD f 0).toNat)) f
  m1 : c.C (c.inv (chO c (c.fr.getD f 0).toNat)) f < c.fr.length
  mT : c.T (c.C (c.inv (chO c (c.fr.getD f 0).toNat)) f) = c.to.getD f 0
  mem : rtA c f ∈ skA c
theorem rtW (s : IsCat c) {f : Nat} (hf : f < c.fr.length) : RtW c f:=by
  have hF:=s.toShape.frw f hf
  have hT:=s.toShape.tow f (by rw [s.toShape.tol];exact hf)
  have w1:=chW s (x:=(c.fr.getD f 0).toNat) (by omega)
  have w2:=chW s (x:=(c.to.getD f 0).toNat) (by omega)
  have l1:=ldW s (x:=(c.fr.getD f 0).toNat) (by omega)
  have l2:=ldW s (x:=(c.to.getD f 0).toNat) (by omega)
  have hm : c.inv (chO c (c.fr.getD f 0).toNat) ∈ c.hom (c.T (chO c (c.fr.getD f 0).toNat)) (c.F (chO c (c.fr.getD f 0).toNat)):=by
    rcases fndP_cases (c.InvP (chO c (c.fr.getD f 0).toNat)) (c.hom (c.T (chO c (c.fr.getD f 0).toNat)) (c.F (chO c (c.fr.getD f 0).toNat))) with ⟨h1,_⟩|h1
    · have:=w1.inv
      have e : c.inv (chO c (c.fr.getD f 0).toNat) = -1:=h1
      omega
    · exact h1.1
  obtain ⟨i0,i1,i2,i3⟩:=Cat.mem_hom.1 hm
  rw [w1.F,Int.toNat_of_nonneg hF.1] at i3
  obtain ⟨a0,a1,a2,a3⟩:=s.toShape.compI (g:=(f : Int)) i0 i1 (by omega) (by omega) (by rw [i3];rfl)
  have a3 : c.T (c.C (c.inv (chO c (c.fr.getD f 0).toNat)) f) = c.to.getD f 0:=a3
  obtain ⟨b0,b1,b2,b3⟩:=s.toShape.compI a0 a1 w2.lo w2.hi (by rw [a3,w2.F,Int.toNat_of_nonneg hT.1])
  refine ⟨i0,i1,i3,a0,a1,a3,mem_full.2 ⟨b0,b1,?_,?_⟩⟩
  · unfold rtA;rw [b2,a2,i2,w1.T];exact l1.mem
  · unfold rtA;rw [b3,w2.T];exact l2.mem
noncomputable def imS (c : Cat) (i : Nat) : List Int:=(List.range i).map fun f=>idxOf (skA c) (rtA c f)
theorem imS_zero : imS c 0 = []:=rfl
theorem imS_len (i : Nat) : (imS c i).length = i:=by unfold imS;rw [List.length_map,List.length_range]
theorem imS_succ (i : Nat) : imS c (i + 1) = imS c i ++ [idxOf (skA c) (rtA c i)]:=by unfold imS;rw [List.range_succ,List.map_append,List.map_singleton]
theorem imS_at {n i : Nat} (h : i < n) : (imS c n).getD i 0 = idxOf (skA c) (rtA c i):=by
  unfold imS;rw [List.getD_eq_getElem?_getD,List.getElem?_map,List.getElem?_range h];rfl
theorem imS_in (s : IsCat c) : Within (imS c c.fr.length) (skC c).fr.length:=fun i hi=>by
  rw [imS_len] at hi
  rw [imS_at hi]
  obtain ⟨h1,h2,_⟩:=idxOf_mem (rtW s hi).mem
  refine ⟨h1,?_⟩
  show _ < (((skA c).map _).length : Int)
  rw [List.length_map];exact h2
theorem isoC_in (s : IsCat c) : Within (isoC c) (skC c).ob:=fun i hi=>by
  rw [isoC_len] at hi
  have w:=ldW s hi
  refine ⟨w.cls0,?_⟩
  show _ < ((obS c (skA c) c.ob.toNat).length : Int)
  rw [skO_obs s];exact w.cls1
noncomputable def toS (c : Cat) : Fun:=⟨c,skC c,isoC c,imS c c.fr.length⟩
noncomputable def frS (c : Cat) : Fun:=⟨skC c,c,skO c c.ob.toNat,skA c⟩
theorem xs_isoC (s : IsCat c) : ((List.range c.ob.toNat).map fun x=>idxOf (skO c c.ob.toNat) (c.T (chO c x))) = isoC c:=by
  apply List.ext_getElem
  · rw [List.length_map,List.length_range,isoC_len]
  · intro i h1 h2
    rw [List.getElem_map,List.getElem_range]
    have hi : i < c.ob.toNat:=by rw [isoC_len] at h2;exact h2
    rw [(chW s hi).T,(ldW s hi).idx,List.getD_eq_getElem?_getD,List.getElem?_eq_getElem h2];rfl
end
end Go.Cats
end
