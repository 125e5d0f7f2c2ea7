/- The reference sorts lists. -/
import Derived.Test.YtgbjgeignbjjnaaGreatQ09q
set_option linter.unusedSimpArgs false
set_option linter.unusedVariables false
set_option maxRecDepth 100000
set_option maxHeartbeats 16000000
namespace Go.Eng
open Go Go.Proofs Go.Cats
attribute [local go_sem] List.set_cons_zero List.set_cons_succ
def swZ (Y : Zs) (k : Nat) : Zs:=(Y.set (k + 1) (Y.getD k (.slice none 0 0,[]))).set k (Y.getD (k + 1) (.slice none 0 0,[]))
theorem swZ_eq {Y : Zs} {k : Nat} (h : k + 1 < Y.length) : ∃ T a b R,Y = T ++ a :: b :: R ∧ T.length = k ∧ swZ Y k = T ++ b :: a :: R:=by
  refine ⟨Y.take k,Y[k],Y[k + 1],Y.drop (k + 2),?_,by rw [List.length_take];omega,?_⟩
  · have e1 : Y.drop k = Y[k] :: Y[k + 1] :: Y.drop (k + 2):=by rw [List.drop_eq_getElem_cons (by omega),List.drop_eq_getElem_cons h]
    rw [← e1,List.take_append_drop]
  · have e0 : Y = Y.take k ++ Y[k] :: Y[k + 1] :: Y.drop (k + 2):=by
      have e1 : Y.drop k = Y[k] :: Y[k + 1] :: Y.drop (k + 2):=by rw [List.drop_eq_getElem_cons (by omega),List.drop_eq_getElem_cons h]
      rw [← e1,List.take_append_drop]
    have l1 : (Y.take k).length = k:=by rw [List.length_take];omega
    unfold swZ
    rw [List.getD_eq_getElem?_getD,List.getElem?_eq_getElem (show k < Y.length by omega),List.getD_eq_getElem?_getD,List.getElem?_eq_getElem h]
    simp only [Option.getD_some]
    generalize Y[k] = a at *
    generalize Y[k + 1] = b at *
    generalize Y.take k = T at *
    generalize Y.drop (k + 2) = R at *
    subst e0
    rw [List.set_append_right _ _ (by omega),l1,show k + 1 - k = 1 by omega]
    simp only [List.set_cons_succ,List.set_cons_zero]
    rw [List.set_append_right _ _ (by omega),l1,Nat.sub_self,List.set_cons_zero]
theorem swZ_perm {Y : Zs} {k : Nat} (h : k + 1 < Y.length) : Y.Perm (swZ Y k):=by
  obtain ⟨T,a,b,R,e1,_,e2⟩:=swZ_eq h
  rw [e2,e1]
  exact List.Perm.append_left T (List.Perm.swap ..)
theorem swZ_fst (Y : Zs) (k : Nat) : (swZ Y k).map (·.1) = ((Y.map (·.1)).set (k + 1) ((Y.map (·.1)).getD k (.slice none 0 0))).set k ((Y.map (·.1)).getD (k + 1) (.slice none 0 0)):=by
  unfold swZ
  rw [List.map_set,List.map_set]
  have g : ∀ j,(Y.getD j (.slice none 0 0,[])).1 = (Y.map (·.1)).getD j (.slice none 0 0):=fun j=>by
    simp only [List.getD_eq_getElem?_getD,List.getElem?_map];cases Y[j]? <;> rfl
  rw [g,g]
theorem swZ_snd (Y : Zs) (k : Nat) : (swZ Y k).map (·.2) = ((Y.map (·.2)).set (k + 1) ((Y.map (·.2)).getD k [])).set k ((Y.map (·.2)).getD (k + 1) []):=by
  unfold swZ
  rw [List.map_set,List.map_set]
  have g : ∀ j,(Y.getD j (.slice none 0 0,[])).2 = (Y.map (·.2)).getD j []:=fun j=>by
    simp only [List.getD_eq_getElem?_getD,List.getElem?_map];cases Y[j]? <;> rfl
  rw [g,g]
theorem zs_at {Y : Zs} {k : Nat} (h : k < Y.length) : ((Y.map (·.1)).getD k (.slice none 0 0),(Y.map (·.2)).getD k []) ∈ Y:=by
  have : ((Y.map (·.1)).getD k (.slice none 0 0),(Y.map (·.2)).getD k []) = Y[k]:=by
    simp only [List.getD_eq_getElem?_getD,List.getElem?_map,List.getElem?_eq_getElem h,Option.map_some,Option.getD_some]
  rw [this]
  exact List.getElem_mem h
theorem srt_one (L : List (List Int)) : srt (L.take 1) ++ L.drop 1 = L:=by
  cases L with
  | nil=>simp [srt_nil]
  | cons x L=>rw [show (x :: L).take 1 = [x] from rfl,srt_of (List.Perm.refl [x]) (List.pairwise_singleton ..)];rfl
theorem cal_l25Sorted : Callable Tryz.prog 84:=⟨_,Tryz.func84,rfl,rfl⟩
theorem sp_l25Sorted {L : List (List Int)} (hl : L.length ≤ 1048576) (hr : ∀ i,i < L.length → (L.getD i []).length ≤ 1048576) : Spec Tryz.prog 84 [.sl 0] [(0,⟨1,.arr (intss L)⟩)] (.sl 1) [(0,⟨1,.gone⟩),(1,⟨1,.arr (intss (srt L))⟩)]:=by
  refine spec_of_V (E:=TE) 1 Tryz.func84 rfl (by simp [Tryz.f84]) fun X hn hX=>?_
  refine V_bag 0 1 L rfl (Nat.le_refl 1) rfl fun Z hZ hZ1=>?_
  simp only [go_sem,simprocAttr]
  have hZl : Z.length = L.length:=by rw [← hZ,List.length_map]
  have hbl : (Z.map (·.1)).length = L.length:=by rw [List.length_map];exact hZl
  have h1s : ∀ Y : Zs,Z.Perm Y → (rawsV (Y.map (·.1))).ones = true:=fun Y hY=>rawsV_ones fun x hx=>by
    obtain ⟨p,hp,rfl⟩:=List.mem_map.1 hx
    exact hZ1 p (hY.mem_iff.2 hp)
  have h1z:=h1s Z (List.Perm.refl _)
  repeat' (first|(exact h1z)|(refine V_at 2 (Imp.dropL 0 _ _ rfl (Nat.succ_le_succ (Nat.zero_le _))) ?_;simp only [go_sem,simprocAttr])|(with_reducible first|refine V_seq ?_|refine V_block ?_|refine V_skip ?_|refine V_ret ?_|refine V_exit ?_)|((with_reducible refine V_cond ?_);simp only [go_sem,simprocAttr])|((first|refine V_region (by rw [hn];rfl) ?_|refine V_drawn hmix (by rw [hn];rfl) ?_);intro K hK)|((first|with_reducible refine evOps_n ?_|((with_reducible apply evOps_g);rfl)|with_reducible refine evOpsD_n ?_|((with_reducible apply evOpsD_g);rfl));intro K hK;simp (contextual:=true) only [go_sem,simprocAttr])|with_reducible refine evOps_nil ?_|((with_reducible refine evOpsD_nil ?_ ?_);kernel_rfl)|((with_reducible refine hK _ ?_);clear hK K)|(with_reducible first|refine And.intro ?_ ?_|refine nxt_n ?_|refine nxt_r ?_|refine nxt_e ?_|refine blk_n ?_|refine blk_r ?_|refine blk_same ?_|refine blk_other (by decide) ?_|refine noG_n ?_|refine noG_r ?_|refine noG_e ?_|refine inR_mk ?_ ?_)|(refine fun (hc : (_ : Bool) = _)=>?_;try simp only [hcS] at hc))
  all_goals try exact om_
  refine V_loopK (G:={p : Nat × Zs // 1 ≤ p.1 ∧ (p.1 ≤ L.length ∨ L.length = 0) ∧ Z.Perm p.2 ∧ p.2.map (·.2) = srt (L.take p.1) ++ L.drop p.1}) (fun p=>[(4,iv p.1.1),(3,.sl 3)]) [2] (fun p=>[(0,⟨3,.gone⟩),(1,⟨1,.arr (bagD Z)⟩),(3,⟨1,.arr (rawsV (p.1.2.map (·.1)))⟩)]) [0,1,3] (fun p=>L.length - p.1.1) ⟨(1,Z),Nat.le_refl 1,by omega,List.Perm.refl _,by rw [hZ];exact (srt_one L).symm⟩ ?_ ?_
  · exact Imp.sub hX [(0,0),(1,1),(3,3)] (by simp [go_sem,simprocAttr])
  rintro ⟨⟨i,Y⟩,hi1,hi2,hY,hYs⟩
  simp only at hi1 hi2 hY hYs
  have hYl : Y.length = L.length:=by rw [← hY.length_eq];exact hZl
  have hYm : (Y.map (·.1)).length = L.length:=by rw [List.length_map];exact hYl
  simp only [go_sem,simprocAttr]
  rcases Nat.lt_or_ge i L.length with hlt | hge
  · have hSl : (srt (L.take i)).length = i:=by rw [srt_len,List.length_take];omega
    have hst : L.drop i = L.getD i [] :: L.drop (i + 1):=by
      rw [List.drop_eq_getElem_cons hlt,List.getD_eq_getElem?_getD,List.getElem?_eq_getElem hlt];rfl
    obtain ⟨x,hx⟩ : ∃ x,L.getD i [] = x:=⟨_,rfl⟩
    obtain ⟨T,hT⟩ : ∃ T,srt (L.take i) = T:=⟨_,rfl⟩
    rw [hT] at hSl
    rw [hst,hx,hT] at hYs
    repeat' (first|(with_reducible first|refine V_seq ?_|refine V_block ?_|refine V_skip ?_|refine V_ret ?_|refine V_exit ?_)|((with_reducible refine V_cond ?_);simp only [go_sem,simprocAttr])|((first|refine V_region (by rw [hn];rfl) ?_|refine V_drawn hmix (by rw [hn];rfl) ?_);intro K hK)|((first|with_reducible refine evOps_n ?_|((with_reducible apply evOps_g);rfl)|with_reducible refine evOpsD_n ?_|((with_reducible apply evOpsD_g);rfl));intro K hK;simp (contextual:=true) only [go_sem,simprocAttr])|with_reducible refine evOps_nil ?_|((with_reducible refine evOpsD_nil ?_ ?_);kernel_rfl)|((with_reducible refine hK _ ?_);clear hK K)|(with_reducible first|refine And.intro ?_ ?_|refine nxt_n ?_|refine nxt_r ?_|refine nxt_e ?_|refine blk_n ?_|refine blk_r ?_|refine blk_same ?_|refine blk_other (by decide) ?_|refine noG_n ?_|refine noG_r ?_|refine noG_e ?_|refine inR_mk ?_ ?_)|(refine fun (hc : (_ : Bool) = _)=>?_;try simp only [hcS] at hc))
    all_goals try exact om_
    refine V_loopK (G:={q : Nat × Zs // q.1 ≤ i ∧ Z.Perm q.2 ∧ q.2.map (·.2) = insAt T x q.1 (L.drop (i + 1)) ∧ ∀ y ∈ T.drop q.1,lessL x y = true}) (fun q=>[(5,iv q.1.1)]) [2,3,4] (fun q=>[(3,⟨1,.arr (rawsV (q.1.2.map (·.1)))⟩)]) [3] (fun q=>q.1.1) ⟨(i,Y),Nat.le_refl i,hY,by rw [hYs,← hSl,ins_start],fun y hy=>by rw [← hSl,List.drop_length] at hy;cases hy⟩ ?_ ?_
    · exact Imp.sub hX [(0,0),(1,1),(3,3)] (by simp [go_sem,simprocAttr])
    rintro ⟨⟨k,W⟩,hk1,hW,hWs,hWl⟩
    simp only at hk1 hW hWs hWl
    have hWn : W.length = L.length:=by rw [← hW.length_eq];exact hZl
    have hWm : (W.map (·.1)).length = L.length:=by rw [List.length_map];exact hWn
    simp only [go_sem,simprocAttr]
    cases k with
    | zero =>
      have hfin : W.map (·.2) = srt (L.take (i + 1)) ++ L.drop (i + 1):=by
        rw [hWs,← hx,← hT]
        exact srt_ins hlt (Nat.zero_le _) (by rw [hT,hx];exact hWl) (.inl rfl)
      repeat' (first|((refine V_drawnX (id:=6) hmix (by rw [hn];rfl) ?_);intro K hK)|((with_reducible refine evOpsDX_nil ?_ ?_);kernel_rfl)|(rw [e1k])|(rw [e0k])|(rw [ha1];simp only [go_sem,simprocAttr])|(rw [ha0];simp only [go_sem,simprocAttr])|(refine evOpsDX_gh (b:=true) rfl (by simp only [go_sem,simprocAttr]) rfl ?_;intro K hK;refine HkX.callS (f:=96) hless cal_l01Less [1] (by simp only [go_sem,simprocAttr]) (by simp [go_sem]) ⟨shows_row (n:=1) rfl (by simp) m1 rfl rfl,shows_row (n:=1) rfl (by simp) m0 rfl rfl,trivial⟩ ?_;simp only [go_sem,simprocAttr])|(((with_reducible apply evOpsDX_g);rfl);intro K hK;simp (contextual:=true) only [go_sem,simprocAttr])|((with_reducible refine evOpsDX_n ?_);intro K hK;simp (contextual:=true) only [go_sem,simprocAttr])|(with_reducible first|refine V_seq ?_|refine V_block ?_|refine V_skip ?_|refine V_ret ?_|refine V_exit ?_)|((with_reducible refine V_cond ?_);simp only [go_sem,simprocAttr])|((first|refine V_region (by rw [hn];rfl) ?_|refine V_drawn hmix (by rw [hn];rfl) ?_);intro K hK)|((first|with_reducible refine evOps_n ?_|((with_reducible apply evOps_g);rfl)|with_reducible refine evOpsD_n ?_|((with_reducible apply evOpsD_g);rfl));intro K hK;simp (contextual:=true) only [go_sem,simprocAttr])|with_reducible refine evOps_nil ?_|((with_reducible refine evOpsD_nil ?_ ?_);kernel_rfl)|((with_reducible refine hK _ ?_);clear hK K)|(with_reducible first|refine And.intro ?_ ?_|refine nxt_n ?_|refine nxt_r ?_|refine nxt_e ?_|refine blk_n ?_|refine blk_r ?_|refine blk_same ?_|refine blk_other (by decide) ?_|refine noG_n ?_|refine noG_r ?_|refine noG_e ?_|refine inR_mk ?_ ?_)|(refine fun (hc : (_ : Bool) = _)=>?_;try simp only [hcS] at hc))
      all_goals try exact om_
      exact ⟨⟨(i + 1,W),by omega,by omega,hW,hfin⟩,by simp only;omega,Imp.sub hX [(0,0),(1,1),(3,3)] (by simp [go_sem,simprocAttr])⟩
    | succ k =>
      have h1 : (W.map (·.2)).getD (k + 1) [] = x:=by rw [hWs,ins_at (by omega)]
      have h0 : (W.map (·.2)).getD k [] = T.getD k []:=by rw [hWs,ins_before (by omega)]
      have e1k : ((k : Int) + 1).toNat = k + 1:=by omega
      have e0k : ((k : Int) + 1 - 1).toNat = k:=by omega
      have ha1:=rawsV_at (l:=W.map (·.1)) (k:=k + 1) (by omega) (.slice none 0 0)
      have ha0:=rawsV_at (l:=W.map (·.1)) (k:=k) (by omega) (.slice none 0 0)
      have m1:=hW.mem_iff.2 (zs_at (Y:=W) (k:=k + 1) (by omega))
      have m0:=hW.mem_iff.2 (zs_at (Y:=W) (k:=k) (by omega))
      rw [h1] at m1
      have o1:=hZ1 _ m1
      rw [h0] at m0
      have o0:=hZ1 _ m0
      have hless:=sp_l01Less (a:=x) (b:=T.getD k []) (by rw [← hx];exact hr i hlt) (by
        obtain ⟨j,hj,e⟩:=mem_getD (d:=[]) ((srt_perm (L.take i)).mem_iff.1 (by rw [hT];exact getD_mem (d:=[]) (by omega : k < T.length)))
        rw [List.length_take] at hj
        rw [← e,List.getD_eq_getElem?_getD,List.getElem?_take,if_pos (by omega),← List.getD_eq_getElem?_getD]
        exact hr j (by omega))
      cases hg : lessL x (T.getD k []) with
      | false =>
        rw [hg] at hless
        have hfin : W.map (·.2) = srt (L.take (i + 1)) ++ L.drop (i + 1):=by
          rw [hWs,← hx,← hT]
          exact srt_ins hlt hk1 (by rw [hT,hx];exact hWl) (.inr (by rw [hT,hx];exact hg))
        repeat' (first|((refine V_drawnX (id:=6) hmix (by rw [hn];rfl) ?_);intro K hK)|((with_reducible refine evOpsDX_nil ?_ ?_);kernel_rfl)|(rw [e1k])|(rw [e0k])|(rw [ha1];simp only [go_sem,simprocAttr])|(rw [ha0];simp only [go_sem,simprocAttr])|(refine evOpsDX_gh (b:=true) rfl (by simp only [go_sem,simprocAttr]) rfl ?_;intro K hK;refine HkX.callS (f:=96) hless cal_l01Less [1] (by simp only [go_sem,simprocAttr]) (by simp [go_sem]) ⟨shows_row (n:=1) rfl (by simp) m1 rfl rfl,shows_row (n:=1) rfl (by simp) m0 rfl rfl,trivial⟩ ?_;simp only [go_sem,simprocAttr])|(((with_reducible apply evOpsDX_g);rfl);intro K hK;simp (contextual:=true) only [go_sem,simprocAttr])|((with_reducible refine evOpsDX_n ?_);intro K hK;simp (contextual:=true) only [go_sem,simprocAttr])|(with_reducible first|refine V_seq ?_|refine V_block ?_|refine V_skip ?_|refine V_ret ?_|refine V_exit ?_)|((with_reducible refine V_cond ?_);simp only [go_sem,simprocAttr])|((first|refine V_region (by rw [hn];rfl) ?_|refine V_drawn hmix (by rw [hn];rfl) ?_);intro K hK)|((first|with_reducible refine evOps_n ?_|((with_reducible apply evOps_g);rfl)|with_reducible refine evOpsD_n ?_|((with_reducible apply evOpsD_g);rfl));intro K hK;simp (contextual:=true) only [go_sem,simprocAttr])|with_reducible refine evOps_nil ?_|((with_reducible refine evOpsD_nil ?_ ?_);kernel_rfl)|((with_reducible refine hK _ ?_);clear hK K)|(with_reducible first|refine And.intro ?_ ?_|refine nxt_n ?_|refine nxt_r ?_|refine nxt_e ?_|refine blk_n ?_|refine blk_r ?_|refine blk_same ?_|refine blk_other (by decide) ?_|refine noG_n ?_|refine noG_r ?_|refine noG_e ?_|refine inR_mk ?_ ?_)|(refine fun (hc : (_ : Bool) = _)=>?_;try simp only [hcS] at hc))
        all_goals try exact om_
        exact ⟨⟨(i + 1,W),by omega,by omega,hW,hfin⟩,by simp only;omega,Imp.sub hX [(0,0),(1,1),(3,3)] (by simp [go_sem,simprocAttr])⟩
      | true =>
        rw [hg] at hless
        have hfst:=swZ_fst W k
        have hsnd : (swZ W k).map (·.2) = insAt T x k (L.drop (i + 1)):=by
          rw [swZ_snd,h1,h0,hWs]
          exact ins_step (by omega)
        have hwl : ∀ y ∈ T.drop k,lessL x y = true:=fun y hy=>by
          rw [List.drop_eq_getElem_cons (by omega)] at hy
          rcases List.mem_cons.1 hy with rfl | hy
          · rw [List.getD_eq_getElem?_getD,List.getElem?_eq_getElem (by omega)] at hg;exact hg
          · exact hWl y hy
        repeat' (first|(exact o1)|(exact o0)|((refine V_drawnX (id:=6) hmix (by rw [hn];rfl) ?_);intro K hK)|((with_reducible refine evOpsDX_nil ?_ ?_);kernel_rfl)|(rw [e1k])|(rw [e0k])|(rw [ha1];simp only [go_sem,simprocAttr])|(rw [ha0];simp only [go_sem,simprocAttr])|(refine evOpsDX_gh (b:=true) rfl (by simp only [go_sem,simprocAttr]) rfl ?_;intro K hK;refine HkX.callS (f:=96) hless cal_l01Less [1] (by simp only [go_sem,simprocAttr]) (by simp [go_sem]) ⟨shows_row (n:=1) rfl (by simp) m1 rfl rfl,shows_row (n:=1) rfl (by simp) m0 rfl rfl,trivial⟩ ?_;simp only [go_sem,simprocAttr])|(((with_reducible apply evOpsDX_g);rfl);intro K hK;simp (contextual:=true) only [go_sem,simprocAttr])|((with_reducible refine evOpsDX_n ?_);intro K hK;simp (contextual:=true) only [go_sem,simprocAttr])|(with_reducible first|refine V_seq ?_|refine V_block ?_|refine V_skip ?_|refine V_ret ?_|refine V_exit ?_)|((with_reducible refine V_cond ?_);simp only [go_sem,simprocAttr])|((first|refine V_region (by rw [hn];rfl) ?_|refine V_drawn hmix (by rw [hn];rfl) ?_);intro K hK)|((first|with_reducible refine evOps_n ?_|((with_reducible apply evOps_g);rfl)|with_reducible refine evOpsD_n ?_|((with_reducible apply evOpsD_g);rfl));intro K hK;simp (contextual:=true) only [go_sem,simprocAttr])|with_reducible refine evOps_nil ?_|((with_reducible refine evOpsD_nil ?_ ?_);kernel_rfl)|((with_reducible refine hK _ ?_);clear hK K)|(with_reducible first|refine And.intro ?_ ?_|refine nxt_n ?_|refine nxt_r ?_|refine nxt_e ?_|refine blk_n ?_|refine blk_r ?_|refine blk_same ?_|refine blk_other (by decide) ?_|refine noG_n ?_|refine noG_r ?_|refine noG_e ?_|refine inR_mk ?_ ?_)|(refine fun (hc : (_ : Bool) = _)=>?_;try simp only [hcS] at hc))
        all_goals try exact om_
        exact ⟨⟨(k,swZ W k),by omega,hW.trans (swZ_perm (by omega)),hsnd,hwl⟩,by simp only;omega,Imp.sub hX [(0,0),(1,1),(3,3)] (by simp only [hfst];simp [go_sem,simprocAttr])⟩
  · have hend : i = L.length ∨ L = []:=by
      rcases hi2 with q | q
      · exact .inl (by omega)
      · exact .inr (List.length_eq_zero_iff.1 q)
    have hYe : Y.map (·.2) = srt L:=by
      rcases hend with rfl | rfl
      · rw [hYs,List.take_length,List.drop_length,List.append_nil]
      · rw [hYs];simp
    repeat' (first|(refine V_at 11 (Imp.unbag 3 1 1 1 Z Y rfl rfl (Nat.le_refl 1) (by decide) hY) ?_;rw [hYe];simp only [go_sem,simprocAttr])|(with_reducible first|refine V_seq ?_|refine V_block ?_|refine V_skip ?_|refine V_ret ?_|refine V_exit ?_)|((with_reducible refine V_cond ?_);simp only [go_sem,simprocAttr])|((first|refine V_region (by rw [hn];rfl) ?_|refine V_drawn hmix (by rw [hn];rfl) ?_);intro K hK)|((first|with_reducible refine evOps_n ?_|((with_reducible apply evOps_g);rfl)|with_reducible refine evOpsD_n ?_|((with_reducible apply evOpsD_g);rfl));intro K hK;simp (contextual:=true) only [go_sem,simprocAttr])|with_reducible refine evOps_nil ?_|((with_reducible refine evOpsD_nil ?_ ?_);kernel_rfl)|((with_reducible refine hK _ ?_);clear hK K)|(with_reducible first|refine And.intro ?_ ?_|refine nxt_n ?_|refine nxt_r ?_|refine nxt_e ?_|refine blk_n ?_|refine blk_r ?_|refine blk_same ?_|refine blk_other (by decide) ?_|refine noG_n ?_|refine noG_r ?_|refine noG_e ?_|refine inR_mk ?_ ?_)|(refine fun (hc : (_ : Bool) = _)=>?_;try simp only [hcS] at hc))
    all_goals try exact om_
    (first|refine ret_auto ?_|refine ret_auto' ?_);simp only [go_sem,simprocAttr,Tryz.f84]
end Go.Eng
