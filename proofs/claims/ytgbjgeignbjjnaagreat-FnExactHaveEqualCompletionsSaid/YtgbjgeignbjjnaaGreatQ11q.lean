/- The reference: what an arrow looks like; each number as often. -/
import Derived.Test.YtgbjgeignbjjnaaGreatQ10q
set_option linter.unusedSimpArgs false
set_option linter.unusedVariables false
set_option maxRecDepth 100000
set_option maxHeartbeats 16000000
namespace Go.Eng
open Go Go.Proofs Go.Cats
attribute [local go_sem] List.set_cons_zero List.set_cons_succ
theorem lookE_len (c : Cat) (col : List Int) (f g : Nat) : (lookE c col f g).length ≤ 2:=by
  unfold lookE;(repeat' split) <;> simp
theorem lookE_row {c : Cat} {col : List Int} {f g : Nat} {r : List Int} (h : r ∈ lookE c col f g) : r.length = 4:=by
  unfold lookE at h
  rcases List.mem_append.1 h with h | h <;> (split at h <;> simp at h <;> subst h <;> rfl)
theorem lookE_rows {c : Cat} {col : List Int} {n f : Nat} {r : List Int} (h : r ∈ coll n (lookE c col f)) : r.length = 4:=by
  unfold coll at h
  obtain ⟨g,_,hg⟩:=List.mem_flatMap.1 h
  exact lookE_row hg
theorem cal_l10Look : Callable Tryz.prog 70:=⟨_,Tryz.func70,rfl,rfl⟩
theorem sp_l10Look {c : Cat} {col : List Int} {f : Nat} (sc : Shape c) (hl : col.length = c.fr.length) (hf : f < c.fr.length) : Spec Tryz.prog 70 [catV c,.bor [] (ints col),iv f] [] (.sl 0) [(0,⟨1,.arr (ints (Go.Cats.look c col f))⟩)]:=by
  refine spec_of_V (E:=TE) 0 Tryz.func70 rfl (by simp [Tryz.f70]) fun X hn hX=>?_
  have m40:=sc.m40
  have ccol:=sc.col
  have rowf:=(sc.coe f (by omega)).1
  repeat' (first|(with_reducible first|refine V_seq ?_|refine V_block ?_|refine V_skip ?_|refine V_ret ?_|refine V_exit ?_)|((with_reducible refine V_cond ?_);simp only [go_sem,simprocAttr])|((first|refine V_region (by rw [hn];rfl) ?_|refine V_drawn hmix (by rw [hn];rfl) ?_);intro K hK)|((first|with_reducible refine evOps_n ?_|((with_reducible apply evOps_g);rfl)|with_reducible refine evOpsD_n ?_|((with_reducible apply evOpsD_g);rfl));intro K hK;simp (contextual:=true) only [go_sem,simprocAttr])|with_reducible refine evOps_nil ?_|((with_reducible refine evOpsD_nil ?_ ?_);kernel_rfl)|((with_reducible refine hK _ ?_);clear hK K)|(with_reducible first|refine And.intro ?_ ?_|refine nxt_n ?_|refine nxt_r ?_|refine nxt_e ?_|refine blk_n ?_|refine blk_r ?_|refine blk_same ?_|refine blk_other (by decide) ?_|refine noG_n ?_|refine noG_r ?_|refine noG_e ?_|refine inR_mk ?_ ?_)|(refine fun (hc : (_ : Bool) = _)=>?_;try simp only [hcS] at hc))
  all_goals try exact om_
  refine V_loopK (G:={g : Nat // g ≤ c.fr.length ∧ (True)}) (fun ⟨g,_⟩=>[(8,iv g),(7,.sl 1)]) [1,2,3,6] (fun ⟨g,_⟩=>[(1,⟨1,.arr (intss (coll g (lookE c col f)))⟩)]) [1] (fun zz=>c.fr.length - zz.1) ⟨0,Nat.zero_le _,by first|trivial|simp⟩ ?_ ?_
  · exact Imp.au hX
  rintro ⟨g,hig,hwg⟩
  simp only [go_sem,simprocAttr]
  have gl : (coll g (lookE c col f)).length ≤ g * 2:=coll_length_le fun i _=>lookE_len c col f i
  rcases Nat.lt_or_ge g c.fr.length with hlt | hge
  · have rowg:=(sc.coe g (by omega)).1
    have c1 : 0 ≤ (c.co.getD f []).getD g 0 → ((c.co.getD f []).getD g 0).toNat < c.fr.length:=fun h=>(comp_ent sc (by omega) (by omega) h).2.1
    have c2 : 0 ≤ (c.co.getD g []).getD f 0 → ((c.co.getD g []).getD f 0).toNat < c.fr.length:=fun h=>(comp_ent sc (by omega) (by omega) h).2.1
    have e0 : coll (g + 1) (lookE c col f) = coll g (lookE c col f) ++ ((if 0 ≤ (c.co.getD f []).getD g 0 then [[0,col.getD g 0,col.getD ((c.co.getD f []).getD g 0).toNat 0,whi ((c.co.getD f []).getD g 0) f g]] else []) ++ (if 0 ≤ (c.co.getD g []).getD f 0 then [[1,col.getD g 0,col.getD ((c.co.getD g []).getD f 0).toNat 0,whi ((c.co.getD g []).getD f 0) f g]] else [])):=coll_succ ..
    by_cases q1 : 0 ≤ (c.co.getD f []).getD g 0
    · by_cases q2 : 0 ≤ (c.co.getD g []).getD f 0
      · rw [if_pos q1,if_pos q2,← List.append_assoc] at e0
        repeat' (first|(with_reducible first|refine V_seq ?_|refine V_block ?_|refine V_skip ?_|refine V_ret ?_|refine V_exit ?_)|((with_reducible refine V_cond ?_);simp only [go_sem,simprocAttr])|((first|refine V_region (by rw [hn];rfl) ?_|refine V_drawn hmix (by rw [hn];rfl) ?_);intro K hK)|((first|with_reducible refine evOps_n ?_|((with_reducible apply evOps_g);rfl)|with_reducible refine evOpsD_n ?_|((with_reducible apply evOpsD_g);rfl));intro K hK;simp (contextual:=true) only [go_sem,simprocAttr])|with_reducible refine evOps_nil ?_|((with_reducible refine evOpsD_nil ?_ ?_);kernel_rfl)|((with_reducible refine hK _ ?_);clear hK K)|(with_reducible first|refine And.intro ?_ ?_|refine nxt_n ?_|refine nxt_r ?_|refine nxt_e ?_|refine blk_n ?_|refine blk_r ?_|refine blk_same ?_|refine blk_other (by decide) ?_|refine noG_n ?_|refine noG_r ?_|refine noG_e ?_|refine inR_mk ?_ ?_)|((with_reducible refine evCall_at 82 ?_);refine EvCall.rq (a:=(sp_l10Which)) (b:=cal_l10Which) (c:=?_);all_goals try simp only [go_sem,simprocAttr])|(refine fun (hc : (_ : Bool) = _)=>?_;try simp only [hcS] at hc))
        all_goals try exact om_
        · refine ⟨⟨g + 1,by omega,(by trivial)⟩,by simp only;omega,Imp.auto hX (by simp only [go_sem,simprocAttr,e0])⟩
      · rw [if_pos q1,if_neg q2,List.append_nil] at e0
        repeat' (first|(with_reducible first|refine V_seq ?_|refine V_block ?_|refine V_skip ?_|refine V_ret ?_|refine V_exit ?_)|((with_reducible refine V_cond ?_);simp only [go_sem,simprocAttr])|((first|refine V_region (by rw [hn];rfl) ?_|refine V_drawn hmix (by rw [hn];rfl) ?_);intro K hK)|((first|with_reducible refine evOps_n ?_|((with_reducible apply evOps_g);rfl)|with_reducible refine evOpsD_n ?_|((with_reducible apply evOpsD_g);rfl));intro K hK;simp (contextual:=true) only [go_sem,simprocAttr])|with_reducible refine evOps_nil ?_|((with_reducible refine evOpsD_nil ?_ ?_);kernel_rfl)|((with_reducible refine hK _ ?_);clear hK K)|(with_reducible first|refine And.intro ?_ ?_|refine nxt_n ?_|refine nxt_r ?_|refine nxt_e ?_|refine blk_n ?_|refine blk_r ?_|refine blk_same ?_|refine blk_other (by decide) ?_|refine noG_n ?_|refine noG_r ?_|refine noG_e ?_|refine inR_mk ?_ ?_)|((with_reducible refine evCall_at 82 ?_);refine EvCall.rq (a:=(sp_l10Which)) (b:=cal_l10Which) (c:=?_);all_goals try simp only [go_sem,simprocAttr])|(refine fun (hc : (_ : Bool) = _)=>?_;try simp only [hcS] at hc))
        all_goals try exact om_
        · refine ⟨⟨g + 1,by omega,(by trivial)⟩,by simp only;omega,Imp.auto hX (by simp only [go_sem,simprocAttr,e0])⟩
    · by_cases q2 : 0 ≤ (c.co.getD g []).getD f 0
      · rw [if_neg q1,if_pos q2,List.nil_append] at e0
        repeat' (first|(with_reducible first|refine V_seq ?_|refine V_block ?_|refine V_skip ?_|refine V_ret ?_|refine V_exit ?_)|((with_reducible refine V_cond ?_);simp only [go_sem,simprocAttr])|((first|refine V_region (by rw [hn];rfl) ?_|refine V_drawn hmix (by rw [hn];rfl) ?_);intro K hK)|((first|with_reducible refine evOps_n ?_|((with_reducible apply evOps_g);rfl)|with_reducible refine evOpsD_n ?_|((with_reducible apply evOpsD_g);rfl));intro K hK;simp (contextual:=true) only [go_sem,simprocAttr])|with_reducible refine evOps_nil ?_|((with_reducible refine evOpsD_nil ?_ ?_);kernel_rfl)|((with_reducible refine hK _ ?_);clear hK K)|(with_reducible first|refine And.intro ?_ ?_|refine nxt_n ?_|refine nxt_r ?_|refine nxt_e ?_|refine blk_n ?_|refine blk_r ?_|refine blk_same ?_|refine blk_other (by decide) ?_|refine noG_n ?_|refine noG_r ?_|refine noG_e ?_|refine inR_mk ?_ ?_)|((with_reducible refine evCall_at 82 ?_);refine EvCall.rq (a:=(sp_l10Which)) (b:=cal_l10Which) (c:=?_);all_goals try simp only [go_sem,simprocAttr])|(refine fun (hc : (_ : Bool) = _)=>?_;try simp only [hcS] at hc))
        all_goals try exact om_
        · refine ⟨⟨g + 1,by omega,(by trivial)⟩,by simp only;omega,Imp.auto hX (by simp only [go_sem,simprocAttr,e0])⟩
      · rw [if_neg q1,if_neg q2,List.nil_append,List.append_nil] at e0
        repeat' (first|(with_reducible first|refine V_seq ?_|refine V_block ?_|refine V_skip ?_|refine V_ret ?_|refine V_exit ?_)|((with_reducible refine V_cond ?_);simp only [go_sem,simprocAttr])|((first|refine V_region (by rw [hn];rfl) ?_|refine V_drawn hmix (by rw [hn];rfl) ?_);intro K hK)|((first|with_reducible refine evOps_n ?_|((with_reducible apply evOps_g);rfl)|with_reducible refine evOpsD_n ?_|((with_reducible apply evOpsD_g);rfl));intro K hK;simp (contextual:=true) only [go_sem,simprocAttr])|with_reducible refine evOps_nil ?_|((with_reducible refine evOpsD_nil ?_ ?_);kernel_rfl)|((with_reducible refine hK _ ?_);clear hK K)|(with_reducible first|refine And.intro ?_ ?_|refine nxt_n ?_|refine nxt_r ?_|refine nxt_e ?_|refine blk_n ?_|refine blk_r ?_|refine blk_same ?_|refine blk_other (by decide) ?_|refine noG_n ?_|refine noG_r ?_|refine noG_e ?_|refine inR_mk ?_ ?_)|((with_reducible refine evCall_at 82 ?_);refine EvCall.rq (a:=(sp_l10Which)) (b:=cal_l10Which) (c:=?_);all_goals try simp only [go_sem,simprocAttr])|(refine fun (hc : (_ : Bool) = _)=>?_;try simp only [hcS] at hc))
        all_goals try exact om_
        · refine ⟨⟨g + 1,by omega,(by trivial)⟩,by simp only;omega,Imp.auto hX (by simp only [go_sem,simprocAttr,e0])⟩
  · have eg : g = c.fr.length:=by omega
    subst eg
    have hs:=sp_l25Sorted (L:=coll c.fr.length (lookE c col f)) (by omega) (fun i hi=>by rw [lookE_rows (getD_mem (d:=[]) hi)];omega)
    have hsl:=srt_len (coll c.fr.length (lookE c col f))
    have hsr : ∀ i,i < (srt (coll c.fr.length (lookE c col f))).length → ((srt (coll c.fr.length (lookE c col f))).getD i []).length ≤ 4096:=fun i hi=>by rw [lookE_rows ((srt_perm _).mem_iff.1 (getD_mem (d:=[]) hi))];omega
    have hfl:=flat_le hsr _ (Nat.le_refl _)
    rw [List.take_length] at hfl
    repeat' (first|(with_reducible first|refine V_seq ?_|refine V_block ?_|refine V_skip ?_|refine V_ret ?_|refine V_exit ?_)|((with_reducible refine V_cond ?_);simp only [go_sem,simprocAttr])|((first|refine V_region (by rw [hn];rfl) ?_|refine V_drawn hmix (by rw [hn];rfl) ?_);intro K hK)|((first|with_reducible refine evOps_n ?_|((with_reducible apply evOps_g);rfl)|with_reducible refine evOpsD_n ?_|((with_reducible apply evOpsD_g);rfl));intro K hK;simp (contextual:=true) only [go_sem,simprocAttr])|with_reducible refine evOps_nil ?_|((with_reducible refine evOpsD_nil ?_ ?_);kernel_rfl)|((with_reducible refine hK _ ?_);clear hK K)|(with_reducible first|refine And.intro ?_ ?_|refine nxt_n ?_|refine nxt_r ?_|refine nxt_e ?_|refine blk_n ?_|refine blk_r ?_|refine blk_same ?_|refine blk_other (by decide) ?_|refine noG_n ?_|refine noG_r ?_|refine noG_e ?_|refine inR_mk ?_ ?_)|((with_reducible refine evCall_at 84 ?_);refine EvCall.mk (hs) cal_l25Sorted [(0,1),(1,6)] [] (by simp [go_sem] <;> (repeat' (first|rfl|constructor))) (by simp [go_sem] <;> (repeat' (first|rfl|constructor))) ?_;all_goals try simp only [go_sem,simprocAttr])|((with_reducible refine evCall_at 83 ?_);refine EvCall.rq (a:=(sp_l01Flat ?_ ?_)) (b:=cal_l01Flat) (c:=?_);all_goals try simp only [go_sem,simprocAttr])|(refine fun (hc : (_ : Bool) = _)=>?_;try simp only [hcS] at hc))
    all_goals try exact om_
    · (first|refine ret_auto ?_|refine ret_auto' ?_);simp only [go_sem,simprocAttr,Tryz.f70]
      rfl
end Go.Eng
