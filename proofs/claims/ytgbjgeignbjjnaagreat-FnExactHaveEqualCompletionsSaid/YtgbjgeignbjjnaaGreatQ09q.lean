/- Small functions of the reference: lists in the order of the dictionary; a list's place; units; which arrow a composite is; each number as often. -/
import Derived.Test.YtgbjgeignbjjnaaGreatQ08q
set_option linter.unusedSimpArgs false
set_option linter.unusedVariables false
set_option maxRecDepth 100000
set_option maxHeartbeats 16000000
namespace Go.Eng
open Go Go.Proofs Go.Cats
attribute [local go_sem] List.set_cons_zero List.set_cons_succ
theorem lessL_drop : ∀ (a b : List Int) (i : Nat),a.take i = b.take i → i ≤ a.length → i ≤ b.length → lessL a b = lessL (a.drop i) (b.drop i)
  | a,b,0,_,_,_=>rfl
  | [],_,i + 1,_,h,_=>by simp at h
  | _ :: _,[],i + 1,_,_,h=>by simp at h
  | x :: a,y :: b,i + 1,h,h1,h2=>by
    simp only [List.take_succ_cons,List.cons.injEq] at h
    obtain ⟨rfl,h⟩:=h
    rw [lessL,if_pos rfl]
    exact lessL_drop a b i h (by simpa using h1) (by simpa using h2)
theorem lessL_at {a b : List Int} {i : Nat} (h : a.take i = b.take i) (ha : i < a.length) (hb : i < b.length) (hne : ¬ a.getD i 0 = b.getD i 0) : lessL a b = decide (a.getD i 0 < b.getD i 0):=by
  rw [lessL_drop a b i h (by omega) (by omega),List.drop_eq_getElem_cons ha,List.drop_eq_getElem_cons hb]
  rw [List.getD_eq_getElem?_getD,List.getElem?_eq_getElem ha,List.getD_eq_getElem?_getD,List.getElem?_eq_getElem hb] at hne ⊢
  simp only [Option.getD_some] at hne ⊢
  rw [lessL,if_neg hne]
theorem lessL_end {a b : List Int} {i : Nat} (h : a.take i = b.take i) (ha : i ≤ a.length) (hb : i ≤ b.length) (he : i = a.length ∨ i = b.length) : lessL a b = decide (a.length < b.length):=by
  rw [lessL_drop a b i h ha hb]
  rcases he with rfl | rfl
  · rw [List.drop_length]
    by_cases q : a.length < b.length
    · rw [decide_eq_true q,List.drop_eq_getElem_cons q];rfl
    · rw [decide_eq_false q,List.drop_eq_nil_of_le (by omega)];rfl
  · rw [List.drop_length (l:=b)]
    have : ¬ a.length < b.length:=by omega
    rw [decide_eq_false this]
    cases a.drop b.length <;> rfl
theorem cal_l01Less : Callable Tryz.prog 96:=⟨_,Tryz.func96,rfl,rfl⟩
theorem sp_l01Less {a b : List Int} (ha : a.length ≤ 1048576) (hb : b.length ≤ 1048576) : Spec Tryz.prog 96 [.bor [] (ints a),.bor [] (ints b)] [] (bv (lessL a b)) []:=by
  refine spec_of_V (E:=TE) 0 Tryz.func96 rfl (by simp [Tryz.f96]) fun X hn hX=>?_
  repeat' (first|(with_reducible first|refine V_seq ?_|refine V_block ?_|refine V_skip ?_|refine V_ret ?_|refine V_exit ?_)|((with_reducible refine V_cond ?_);simp only [go_sem,simprocAttr])|((first|refine V_region (by rw [hn];rfl) ?_|refine V_drawn hmix (by rw [hn];rfl) ?_);intro K hK)|((first|with_reducible refine evOps_n ?_|((with_reducible apply evOps_g);rfl)|with_reducible refine evOpsD_n ?_|((with_reducible apply evOpsD_g);rfl));intro K hK;simp (contextual:=true) only [go_sem,simprocAttr])|with_reducible refine evOps_nil ?_|((with_reducible refine evOpsD_nil ?_ ?_);kernel_rfl)|((with_reducible refine hK _ ?_);clear hK K)|(with_reducible first|refine And.intro ?_ ?_|refine nxt_n ?_|refine nxt_r ?_|refine nxt_e ?_|refine blk_n ?_|refine blk_r ?_|refine blk_same ?_|refine blk_other (by decide) ?_|refine noG_n ?_|refine noG_r ?_|refine noG_e ?_|refine inR_mk ?_ ?_)|(refine fun (hc : (_ : Bool) = _)=>?_;try simp only [hcS] at hc))
  all_goals try exact om_
  refine V_loopK (G:={i : Nat // i ≤ a.length ∧ (a.take i = b.take i ∧ i ≤ b.length)}) (fun ⟨i,_⟩=>[(5,iv i)]) [0,1] (fun ⟨i,_⟩=>[]) [] (fun zz=>a.length - zz.1) ⟨0,Nat.zero_le _,(⟨rfl,Nat.zero_le _⟩)⟩ ?_ ?_
  · exact Imp.au hX
  rintro ⟨i,hii,hwi⟩
  simp only [go_sem,simprocAttr]
  obtain ⟨hw1,hw2⟩:=hwi
  repeat' (first|(with_reducible first|refine V_seq ?_|refine V_block ?_|refine V_skip ?_|refine V_ret ?_|refine V_exit ?_)|((with_reducible refine V_cond ?_);simp only [go_sem,simprocAttr])|((first|refine V_region (by rw [hn];rfl) ?_|refine V_drawn hmix (by rw [hn];rfl) ?_);intro K hK)|((first|with_reducible refine evOps_n ?_|((with_reducible apply evOps_g);rfl)|with_reducible refine evOpsD_n ?_|((with_reducible apply evOpsD_g);rfl));intro K hK;simp (contextual:=true) only [go_sem,simprocAttr])|with_reducible refine evOps_nil ?_|((with_reducible refine evOpsD_nil ?_ ?_);kernel_rfl)|((with_reducible refine hK _ ?_);clear hK K)|(with_reducible first|refine And.intro ?_ ?_|refine nxt_n ?_|refine nxt_r ?_|refine nxt_e ?_|refine blk_n ?_|refine blk_r ?_|refine blk_same ?_|refine blk_other (by decide) ?_|refine noG_n ?_|refine noG_r ?_|refine noG_e ?_|refine inR_mk ?_ ?_)|(refine fun (hc : (_ : Bool) = _)=>?_;try simp only [hcS] at hc))
  all_goals try exact om_
  · (first|refine ret_auto ?_|refine ret_auto' ?_);simp only [go_sem,simprocAttr,Tryz.f96]
    rw [lessL_at hw1 (by omega) (by omega) hc]
  · refine ⟨⟨i + 1,by omega,(by exact ⟨take_snoc hw1 (by omega) (by omega) hc,by omega⟩)⟩,by simp only;omega,Imp.ao hX⟩
  all_goals ((first|refine ret_auto ?_|refine ret_auto' ?_);simp only [go_sem,simprocAttr,Tryz.f96];rw [lessL_end hw1 (by omega) (by omega) (by omega),show decide ((a.length : Int) < (b.length : Int)) = decide (a.length < b.length) from by rw [decide_eq_decide];omega])
theorem flat_le {L : List (List Int)} (hr : ∀ i,i < L.length → (L.getD i []).length ≤ 4096) : ∀ i,i ≤ L.length → (L.take i).flatten.length ≤ i * 4096
  | 0,_=>by simp
  | i + 1,h=>by
    have h1:=flat_le hr i (by omega)
    have h2:=hr i (by omega)
    rw [List.take_add_one,List.getElem?_eq_getElem (by omega)]
    rw [List.getD_eq_getElem?_getD,List.getElem?_eq_getElem (by omega)] at h2
    simp only [Option.toList_some,List.flatten_append,List.length_append,List.flatten_cons,List.flatten_nil,List.append_nil,Option.getD_some] at h2 ⊢
    omega
theorem cal_l01Flat : Callable Tryz.prog 83:=⟨_,Tryz.func83,rfl,rfl⟩
theorem sp_l01Flat {L : List (List Int)} (hl : L.length ≤ 4096) (hr : ∀ i,i < L.length → (L.getD i []).length ≤ 4096) : Spec Tryz.prog 83 [.bor [] (intss L)] [] (.sl 0) [(0,⟨1,.arr (ints L.flatten)⟩)]:=by
  refine spec_of_V (E:=TE) 0 Tryz.func83 rfl (by simp [Tryz.f83]) fun X hn hX=>?_
  repeat' (first|(with_reducible first|refine V_seq ?_|refine V_block ?_|refine V_skip ?_|refine V_ret ?_|refine V_exit ?_)|((with_reducible refine V_cond ?_);simp only [go_sem,simprocAttr])|((refine V_region (by rw [hn];rfl) ?_);intro K hK)|((first|with_reducible refine evOps_n ?_|((with_reducible apply evOps_g);rfl));intro K hK;simp (contextual:=true) only [go_sem,simprocAttr])|with_reducible refine evOps_nil ?_|((with_reducible refine hK _ ?_);clear hK K)|(with_reducible first|refine And.intro ?_ ?_|refine nxt_n ?_|refine nxt_r ?_|refine nxt_e ?_|refine blk_n ?_|refine blk_r ?_|refine blk_same ?_|refine blk_other (by decide) ?_|refine noG_n ?_|refine noG_r ?_|refine noG_e ?_|refine inR_mk ?_ ?_)|(refine fun (hc : (_ : Bool) = _)=>?_;try simp only [hcS] at hc))
  all_goals try exact om_
  refine V_loopK (G:={i : Nat // i ≤ L.length ∧ (True)}) (fun ⟨i,_⟩=>[(4,iv i),(3,.sl 0)]) [0,2] (fun ⟨i,_⟩=>[(0,⟨1,.arr (ints (L.take i).flatten)⟩)]) [0] (fun zz=>L.length - zz.1) ⟨0,Nat.zero_le _,by first|trivial|simp⟩ ?_ ?_
  · exact Imp.au hX
  rintro ⟨i,hii,hwi⟩
  simp only [go_sem,simprocAttr]
  have h1:=hr i
  have h2:=flat_le hr i (by omega)
  have e1 : i < L.length → (L.take (i + 1)).flatten = (L.take i).flatten ++ L.getD i []:=fun h=>by
    rw [List.take_add_one,List.getElem?_eq_getElem h,List.getD_eq_getElem?_getD,List.getElem?_eq_getElem h]
    simp only [Option.toList_some,List.flatten_append,List.flatten_cons,List.flatten_nil,List.append_nil,Option.getD_some]
  repeat' (first|(with_reducible first|refine V_seq ?_|refine V_block ?_|refine V_skip ?_|refine V_ret ?_|refine V_exit ?_)|((with_reducible refine V_cond ?_);simp only [go_sem,simprocAttr])|((refine V_region (by rw [hn];rfl) ?_);intro K hK)|((first|with_reducible refine evOps_n ?_|((with_reducible apply evOps_g);rfl));intro K hK;simp (contextual:=true) only [go_sem,simprocAttr])|with_reducible refine evOps_nil ?_|((with_reducible refine hK _ ?_);clear hK K)|(with_reducible first|refine And.intro ?_ ?_|refine nxt_n ?_|refine nxt_r ?_|refine nxt_e ?_|refine blk_n ?_|refine blk_r ?_|refine blk_same ?_|refine blk_other (by decide) ?_|refine noG_n ?_|refine noG_r ?_|refine noG_e ?_|refine inR_mk ?_ ?_)|(refine fun (hc : (_ : Bool) = _)=>?_;try simp only [hcS] at hc))
  all_goals try exact om_
  · refine ⟨⟨i + 1,by omega,(by trivial)⟩,by simp only;omega,Imp.auto hX (by simp only [go_sem,simprocAttr,e1 (by omega)])⟩
  · (first|refine ret_auto ?_|refine ret_auto' ?_);simp only [go_sem,simprocAttr,Tryz.f83]
    rw [show i = L.length by omega,List.take_length]
theorem cal_l05Place : Callable Tryz.prog 71:=⟨_,Tryz.func71,rfl,rfl⟩
theorem sp_l05Place {l : List (List Int)} {r : List Int} (hl : l.length ≤ 1048576) (hr : r.length ≤ 1048576) (hk : ∀ i,i < l.length → (l.getD i []).length ≤ 1048576) : Spec Tryz.prog 71 [.bor [] (intss l),.bor [] (ints r)] [] (iv (fnd l r)) []:=by
  refine spec_of_V (E:=TE) 0 Tryz.func71 rfl (by simp [Tryz.f71]) fun X hn hX=>?_
  repeat' (first|(with_reducible first|refine V_seq ?_|refine V_block ?_|refine V_skip ?_|refine V_ret ?_|refine V_exit ?_)|((with_reducible refine V_cond ?_);simp only [go_sem,simprocAttr])|((refine V_region (by rw [hn];rfl) ?_);intro K hK)|((first|with_reducible refine evOps_n ?_|((with_reducible apply evOps_g);rfl));intro K hK;simp (contextual:=true) only [go_sem,simprocAttr])|with_reducible refine evOps_nil ?_|((with_reducible refine hK _ ?_);clear hK K)|(with_reducible first|refine And.intro ?_ ?_|refine nxt_n ?_|refine nxt_r ?_|refine nxt_e ?_|refine blk_n ?_|refine blk_r ?_|refine blk_same ?_|refine blk_other (by decide) ?_|refine noG_n ?_|refine noG_r ?_|refine noG_e ?_|refine inR_mk ?_ ?_)|(refine fun (hc : (_ : Bool) = _)=>?_;try simp only [hcS] at hc))
  all_goals try exact om_
  refine V_loopK (G:={i : Nat // i ≤ l.length ∧ (scan i (fndO l r) = none)}) (fun ⟨i,_⟩=>[(5,iv i)]) [0,1] (fun ⟨i,_⟩=>[]) [] (fun zz=>l.length - zz.1) ⟨0,Nat.zero_le _,by rfl⟩ ?_ ?_
  · exact Imp.au hX
  rintro ⟨i,hii,hwi⟩
  simp only [go_sem,simprocAttr]
  have hki:=hk i
  repeat' (first|(with_reducible first|refine V_seq ?_|refine V_block ?_|refine V_skip ?_|refine V_ret ?_|refine V_exit ?_)|((with_reducible refine V_cond ?_);simp only [go_sem,simprocAttr])|((refine V_region (by rw [hn];rfl) ?_);intro K hK)|((first|with_reducible refine evOps_n ?_|((with_reducible apply evOps_g);rfl));intro K hK;simp (contextual:=true) only [go_sem,simprocAttr])|with_reducible refine evOps_nil ?_|((with_reducible refine hK _ ?_);clear hK K)|(with_reducible first|refine And.intro ?_ ?_|refine nxt_n ?_|refine nxt_r ?_|refine nxt_e ?_|refine blk_n ?_|refine blk_r ?_|refine blk_same ?_|refine blk_other (by decide) ?_|refine noG_n ?_|refine noG_r ?_|refine noG_e ?_|refine inR_mk ?_ ?_)|((with_reducible refine evCall_at 40 ?_);refine EvCall.rq (a:=(sp_l01Same ?_ ?_)) (b:=cal_l01Same) (c:=?_);all_goals try simp only [go_sem,simprocAttr])|(refine fun (hc : (_ : Bool) = _)=>?_;try simp only [hcS] at hc))
  all_goals try exact om_
  · (first|refine ret_auto ?_|refine ret_auto' ?_);simp only [go_sem,simprocAttr,Tryz.f71]
    rw [fnd_hit hwi (by omega) hc]
  · refine ⟨⟨i + 1,by omega,(by exact scan_next hwi (fndO_f hc))⟩,by simp only;omega,Imp.ao hX⟩
  · (first|refine ret_auto ?_|refine ret_auto' ?_);simp only [go_sem,simprocAttr,Tryz.f71]
    rw [fnd_none (by rw [show l.length = i by omega];exact hwi)]
theorem cal_l02Unit : Callable Tryz.prog 69:=⟨_,Tryz.func69,rfl,rfl⟩
theorem sp_l02Unit {c : Cat} {f : Nat} (hs : Shape c) (hf : f < c.fr.length) : Spec Tryz.prog 69 [catV c,iv f] [] (bv (decide (c.id.getD (c.fr.getD f 0).toNat 0 = f))) []:=by
  refine spec_of_V (E:=TE) 0 Tryz.func69 rfl (by simp [Tryz.f69]) fun X hn hX=>?_
  have f1:=hs.frw f hf
  have f2:=hs.idl
  repeat' (first|(with_reducible first|refine V_seq ?_|refine V_skip ?_|refine V_ret ?_)|((with_reducible refine V_cond ?_);simp only [go_sem,simprocAttr])|((first|refine V_region (by rw [hn];rfl) ?_|refine V_drawn hmix (by rw [hn];rfl) ?_);intro K hK)|((first|with_reducible refine evOps_n ?_|((with_reducible apply evOps_g);rfl)|with_reducible refine evOpsD_n ?_|((with_reducible apply evOpsD_g);rfl));intro K hK;simp (contextual:=true) only [go_sem,simprocAttr])|with_reducible refine evOps_nil ?_|((with_reducible refine evOpsD_nil ?_ ?_);kernel_rfl)|((with_reducible refine hK _ ?_);clear hK K)|(with_reducible first|refine And.intro ?_ ?_|refine nxt_n ?_|refine nxt_r ?_|refine inR_mk ?_ ?_)|(refine fun (hc : (_ : Bool) = _)=>?_;try simp only [hcS] at hc))
  all_goals try exact om_
  · (first|refine ret_auto ?_|refine ret_auto' ?_);simp only [go_sem,simprocAttr,Tryz.f69]
theorem cal_l10Which : Callable Tryz.prog 82:=⟨_,Tryz.func82,rfl,rfl⟩
theorem sp_l10Which {h f g : Int} : Spec Tryz.prog 82 [iv h,iv f,iv g] [] (iv (whi h f g)) []:=by
  refine spec_of_V (E:=TE) 0 Tryz.func82 rfl (by simp [Tryz.f82]) fun X hn hX=>?_
  repeat' (first|(with_reducible first|refine V_seq ?_|refine V_skip ?_|refine V_ret ?_)|((with_reducible refine V_cond ?_);simp only [go_sem,simprocAttr])|((refine V_region (by rw [hn];rfl) ?_);intro K hK)|((first|with_reducible refine evOps_n ?_|((with_reducible apply evOps_g);rfl));intro K hK;simp (contextual:=true) only [go_sem,simprocAttr])|with_reducible refine evOps_nil ?_|((with_reducible refine hK _ ?_);clear hK K)|(with_reducible first|refine And.intro ?_ ?_|refine nxt_n ?_|refine nxt_r ?_|refine inR_mk ?_ ?_)|(refine fun (hc : (_ : Bool) = _)=>?_;try simp only [hcS] at hc))
  all_goals try exact om_
  all_goals ((first|refine ret_auto ?_|refine ret_auto' ?_);simp only [go_sem,simprocAttr,Tryz.f82];exact iv_eq (by unfold whi;(repeat' split) <;> omega))
end Go.Eng
