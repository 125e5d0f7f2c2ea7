/- The reference's search of isomorphisms: whether an arrow's image fits. -/
import Derived.Test.YtgbjgeignbjjnaaGreatKamx
set_option linter.unusedSimpArgs false
set_option linter.unusedVariables false
set_option maxRecDepth 100000
set_option maxHeartbeats 16000000
namespace Go.Eng
open Go Go.Proofs Go.Cats
attribute [local go_sem] List.set_cons_zero List.set_cons_succ
theorem cal_l10Fits : Callable Tryz.prog 86:=⟨_,Tryz.func86,rfl,rfl⟩
theorem sp_l10Fits {c d : Cat} {cc dd P A : List Int} {m : Int} {F : List Fun} {f : Nat} (sc : Shape c) (sd : Shape d) (hA : VA c d P A) (hf : f < A.length) (h0 : 0 ≤ A.getD f 0) : Spec Tryz.prog 86 [.bptr [] [.v (.int .i64 c.ob),ints c.fr,ints c.to,ints c.id,intss c.co,.v (.int .i64 d.ob),ints d.fr,ints d.to,ints d.id,intss d.co,ints cc,ints dd,.v (.int .i64 m),funsD F],.bor [] (ints A),iv f] [] (bv (dec (FitP c d A f))) []:=by
  refine spec_of_V (E:=TE) 0 Tryz.func86 rfl (by simp [Tryz.f86]) fun X hn hX=>?_
  have m40:=sc.m40
  have n40:=sd.m40
  have ccol:=sc.col
  have dcol:=sd.col
  have hl:=hA.len
  have rowf:=(sc.coe f (by omega)).1
  have rowd:=fun (j : Nat) (hj : j < d.fr.length)=>(sd.coe j hj).1
  have df:=(hA.hi f hf h0).1
  have rdf:=rowd (A.getD f 0).toNat (by omega)
  repeat' (first|(with_reducible first|refine V_seq ?_|refine V_block ?_|refine V_skip ?_|refine V_ret ?_|refine V_exit ?_)|((with_reducible refine V_cond ?_);simp only [go_sem,simprocAttr])|((first|refine V_region (by rw [hn];rfl) ?_|refine V_drawn hmix (by rw [hn];rfl) ?_);intro K hK)|((first|with_reducible refine evOps_n ?_|((with_reducible apply evOps_g);rfl)|with_reducible refine evOpsD_n ?_|((with_reducible apply evOpsD_g);rfl));intro K hK;simp (contextual:=true) only [go_sem,simprocAttr])|with_reducible refine evOps_nil ?_|((with_reducible refine evOpsD_nil ?_ ?_);kernel_rfl)|((with_reducible refine hK _ ?_);clear hK K)|(with_reducible first|refine And.intro ?_ ?_|refine nxt_n ?_|refine nxt_r ?_|refine nxt_e ?_|refine blk_n ?_|refine blk_r ?_|refine blk_same ?_|refine blk_other (by decide) ?_|refine noG_n ?_|refine noG_r ?_|refine noG_e ?_|refine inR_mk ?_ ?_)|(refine fun (hc : (_ : Bool) = _)=>?_;try simp only [hcS] at hc))
  all_goals try exact om_
  refine V_loopK (G:={g : Nat // g ≤ A.length ∧ (∀ j,j < g → 0 ≤ A.getD j 0 → (0 ≤ c.cp f j → 0 ≤ A.getD (c.cp f j).toNat 0 → d.C (A.getD f 0) (A.getD j 0) = A.getD (c.cp f j).toNat 0) ∧ (0 ≤ c.cp j f → 0 ≤ A.getD (c.cp j f).toNat 0 → d.C (A.getD j 0) (A.getD f 0) = A.getD (c.cp j f).toNat 0))}) (fun ⟨g,_⟩=>[(7,iv g)]) [0,1,2] (fun ⟨g,_⟩=>[]) [] (fun zz=>A.length - zz.1) ⟨0,Nat.zero_le _,by omega⟩ ?_ ?_
  · exact Imp.au hX
  rintro ⟨g,hig,hwg⟩
  simp only [go_sem,simprocAttr]
  rcases Nat.lt_or_ge g A.length with hlt | hge
  · have rowg:=(sc.coe g (by omega)).1
    have dg : 0 ≤ A.getD g 0 → A.getD g 0 < d.fr.length:=fun h=>(hA.hi g hlt h).1
    have rdg : 0 ≤ A.getD g 0 → (d.co.getD (A.getD g 0).toNat []).length = d.fr.length:=fun h=>rowd _ (by have:=dg h;omega)
    have c1 : 0 ≤ (c.co.getD f []).getD g 0 → ((c.co.getD f []).getD g 0).toNat < c.fr.length:=fun h=>(comp_ent sc (by omega) (by omega) h).2.1
    have c2 : 0 ≤ (c.co.getD g []).getD f 0 → ((c.co.getD g []).getD f 0).toNat < c.fr.length:=fun h=>(comp_ent sc (by omega) (by omega) h).2.1
    repeat' (first|(with_reducible first|refine V_seq ?_|refine V_block ?_|refine V_skip ?_|refine V_ret ?_|refine V_exit ?_)|((with_reducible refine V_cond ?_);simp only [go_sem,simprocAttr])|((first|refine V_region (by rw [hn];rfl) ?_|refine V_drawn hmix (by rw [hn];rfl) ?_);intro K hK)|((first|with_reducible refine evOps_n ?_|((with_reducible apply evOps_g);rfl)|with_reducible refine evOpsD_n ?_|((with_reducible apply evOpsD_g);rfl));intro K hK;simp (contextual:=true) only [go_sem,simprocAttr])|with_reducible refine evOps_nil ?_|((with_reducible refine evOpsD_nil ?_ ?_);kernel_rfl)|((with_reducible refine hK _ ?_);clear hK K)|(with_reducible first|refine And.intro ?_ ?_|refine nxt_n ?_|refine nxt_r ?_|refine nxt_e ?_|refine blk_n ?_|refine blk_r ?_|refine blk_same ?_|refine blk_other (by decide) ?_|refine noG_n ?_|refine noG_r ?_|refine noG_e ?_|refine inR_mk ?_ ?_)|(refine fun (hc : (_ : Bool) = _)=>?_;try simp only [hcS] at hc))
    all_goals try exact om_
    all_goals try (refine ⟨⟨g + 1,by omega,(by exact all_succ hwg (fun h0=>⟨fun (k1 : 0 ≤ (c.co.getD f []).getD g 0) (k2 : 0 ≤ A.getD ((c.co.getD f []).getD g 0).toNat 0)=>by first|assumption|omega,fun (k1 : 0 ≤ (c.co.getD g []).getD f 0) (k2 : 0 ≤ A.getD ((c.co.getD g []).getD f 0).toNat 0)=>by first|assumption|omega⟩))⟩,by simp only;omega,Imp.ao hX⟩)
    all_goals ((first|refine ret_auto ?_|refine ret_auto' ?_);simp only [go_sem,simprocAttr,Tryz.f86];exact bv_f (fun e=>by have h:=e.1 g (by omega) (by omega);first|exact hc (h.1 (by assumption) (by assumption))|exact hc (h.2 (by assumption) (by assumption))))
  · have hpa:=hwg
    clear hwg
    repeat' (first|(with_reducible first|refine V_seq ?_|refine V_block ?_|refine V_skip ?_|refine V_ret ?_|refine V_exit ?_)|((with_reducible refine V_cond ?_);simp only [go_sem,simprocAttr])|((first|refine V_region (by rw [hn];rfl) ?_|refine V_drawn hmix (by rw [hn];rfl) ?_);intro K hK)|((first|with_reducible refine evOps_n ?_|((with_reducible apply evOps_g);rfl)|with_reducible refine evOpsD_n ?_|((with_reducible apply evOpsD_g);rfl));intro K hK;simp (contextual:=true) only [go_sem,simprocAttr])|with_reducible refine evOps_nil ?_|((with_reducible refine evOpsD_nil ?_ ?_);kernel_rfl)|((with_reducible refine hK _ ?_);clear hK K)|(with_reducible first|refine And.intro ?_ ?_|refine nxt_n ?_|refine nxt_r ?_|refine nxt_e ?_|refine blk_n ?_|refine blk_r ?_|refine blk_same ?_|refine blk_other (by decide) ?_|refine noG_n ?_|refine noG_r ?_|refine noG_e ?_|refine inR_mk ?_ ?_)|(refine fun (hc : (_ : Bool) = _)=>?_;try simp only [hcS] at hc))
    all_goals try exact om_
    refine V_loopK (G:={g2 : Nat // g2 ≤ A.length ∧ (∀ p,p < g2 → ∀ h,h < A.length → 0 ≤ A.getD p 0 → 0 ≤ A.getD h 0 → c.cp p h = f → d.C (A.getD p 0) (A.getD h 0) = A.getD f 0)}) (fun ⟨g2,_⟩=>[(9,iv g2)]) [0,1,2] (fun ⟨g2,_⟩=>[]) [] (fun zz=>A.length - zz.1) ⟨0,Nat.zero_le _,by omega⟩ ?_ ?_
    · exact Imp.au hX
    rintro ⟨g2,hig2,hwg2⟩
    simp only [go_sem,simprocAttr]
    rcases Nat.lt_or_ge g2 A.length with hlt2 | hge2
    · have rowg:=(sc.coe g2 (by omega)).1
      have dg : 0 ≤ A.getD g2 0 → A.getD g2 0 < d.fr.length:=fun h=>(hA.hi g2 hlt2 h).1
      have rdg : 0 ≤ A.getD g2 0 → (d.co.getD (A.getD g2 0).toNat []).length = d.fr.length:=fun h=>rowd _ (by have:=dg h;omega)
      repeat' (first|(with_reducible first|refine V_seq ?_|refine V_block ?_|refine V_skip ?_|refine V_ret ?_|refine V_exit ?_)|((with_reducible refine V_cond ?_);simp only [go_sem,simprocAttr])|((first|refine V_region (by rw [hn];rfl) ?_|refine V_drawn hmix (by rw [hn];rfl) ?_);intro K hK)|((first|with_reducible refine evOps_n ?_|((with_reducible apply evOps_g);rfl)|with_reducible refine evOpsD_n ?_|((with_reducible apply evOpsD_g);rfl));intro K hK;simp (contextual:=true) only [go_sem,simprocAttr])|with_reducible refine evOps_nil ?_|((with_reducible refine evOpsD_nil ?_ ?_);kernel_rfl)|((with_reducible refine hK _ ?_);clear hK K)|(with_reducible first|refine And.intro ?_ ?_|refine nxt_n ?_|refine nxt_r ?_|refine nxt_e ?_|refine blk_n ?_|refine blk_r ?_|refine blk_same ?_|refine blk_other (by decide) ?_|refine noG_n ?_|refine noG_r ?_|refine noG_e ?_|refine inR_mk ?_ ?_)|(refine fun (hc : (_ : Bool) = _)=>?_;try simp only [hcS] at hc))
      all_goals try exact om_
      refine V_loopK (G:={h : Nat // h ≤ A.length ∧ (∀ q,q < h → 0 ≤ A.getD g2 0 → 0 ≤ A.getD q 0 → c.cp g2 q = f → d.C (A.getD g2 0) (A.getD q 0) = A.getD f 0)}) (fun ⟨h,_⟩=>[(10,iv h)]) [0,1,2,9] (fun ⟨h,_⟩=>[]) [] (fun zz=>A.length - zz.1) ⟨0,Nat.zero_le _,by omega⟩ ?_ ?_
      · exact Imp.au hX
      rintro ⟨h,hih,hwh⟩
      simp only [go_sem,simprocAttr]
      rcases Nat.lt_or_ge h A.length with hlt3 | hge3
      · have dh : 0 ≤ A.getD h 0 → A.getD h 0 < d.fr.length:=fun k=>(hA.hi h hlt3 k).1
        repeat' (first|(with_reducible first|refine V_seq ?_|refine V_block ?_|refine V_skip ?_|refine V_ret ?_|refine V_exit ?_)|((with_reducible refine V_cond ?_);simp only [go_sem,simprocAttr])|((first|refine V_region (by rw [hn];rfl) ?_|refine V_drawn hmix (by rw [hn];rfl) ?_);intro K hK)|((first|with_reducible refine evOps_n ?_|((with_reducible apply evOps_g);rfl)|with_reducible refine evOpsD_n ?_|((with_reducible apply evOpsD_g);rfl));intro K hK;simp (contextual:=true) only [go_sem,simprocAttr])|with_reducible refine evOps_nil ?_|((with_reducible refine evOpsD_nil ?_ ?_);kernel_rfl)|((with_reducible refine hK _ ?_);clear hK K)|(with_reducible first|refine And.intro ?_ ?_|refine nxt_n ?_|refine nxt_r ?_|refine nxt_e ?_|refine blk_n ?_|refine blk_r ?_|refine blk_same ?_|refine blk_other (by decide) ?_|refine noG_n ?_|refine noG_r ?_|refine noG_e ?_|refine inR_mk ?_ ?_)|(refine fun (hc : (_ : Bool) = _)=>?_;try simp only [hcS] at hc))
        all_goals try exact om_
        all_goals try (refine ⟨⟨h + 1,by omega,(by exact all_succ hwh (fun _ _ (k1 : (c.co.getD g2 []).getD h 0 = f)=>by first|assumption|omega))⟩,by simp only;omega,Imp.ao hX⟩)
        all_goals ((first|refine ret_auto ?_|refine ret_auto' ?_);simp only [go_sem,simprocAttr,Tryz.f86];exact bv_f (fun e=>hc (e.2 g2 (by omega) h (by omega) (by assumption) (by assumption) (by assumption))))
      · repeat' (first|(with_reducible first|refine V_seq ?_|refine V_block ?_|refine V_skip ?_|refine V_ret ?_|refine V_exit ?_)|((with_reducible refine V_cond ?_);simp only [go_sem,simprocAttr])|((first|refine V_region (by rw [hn];rfl) ?_|refine V_drawn hmix (by rw [hn];rfl) ?_);intro K hK)|((first|with_reducible refine evOps_n ?_|((with_reducible apply evOps_g);rfl)|with_reducible refine evOpsD_n ?_|((with_reducible apply evOpsD_g);rfl));intro K hK;simp (contextual:=true) only [go_sem,simprocAttr])|with_reducible refine evOps_nil ?_|((with_reducible refine evOpsD_nil ?_ ?_);kernel_rfl)|((with_reducible refine hK _ ?_);clear hK K)|(with_reducible first|refine And.intro ?_ ?_|refine nxt_n ?_|refine nxt_r ?_|refine nxt_e ?_|refine blk_n ?_|refine blk_r ?_|refine blk_same ?_|refine blk_other (by decide) ?_|refine noG_n ?_|refine noG_r ?_|refine noG_e ?_|refine inR_mk ?_ ?_)|(refine fun (hc : (_ : Bool) = _)=>?_;try simp only [hcS] at hc))
        all_goals try exact om_
        · refine ⟨⟨g2 + 1,by omega,(by exact all_succ hwg2 (fun q hq=>hwh q (by omega)))⟩,by simp only;omega,Imp.ao hX⟩
    · repeat' (first|(with_reducible first|refine V_seq ?_|refine V_block ?_|refine V_skip ?_|refine V_ret ?_|refine V_exit ?_)|((with_reducible refine V_cond ?_);simp only [go_sem,simprocAttr])|((first|refine V_region (by rw [hn];rfl) ?_|refine V_drawn hmix (by rw [hn];rfl) ?_);intro K hK)|((first|with_reducible refine evOps_n ?_|((with_reducible apply evOps_g);rfl)|with_reducible refine evOpsD_n ?_|((with_reducible apply evOpsD_g);rfl));intro K hK;simp (contextual:=true) only [go_sem,simprocAttr])|with_reducible refine evOps_nil ?_|((with_reducible refine evOpsD_nil ?_ ?_);kernel_rfl)|((with_reducible refine hK _ ?_);clear hK K)|(with_reducible first|refine And.intro ?_ ?_|refine nxt_n ?_|refine nxt_r ?_|refine nxt_e ?_|refine blk_n ?_|refine blk_r ?_|refine blk_same ?_|refine blk_other (by decide) ?_|refine noG_n ?_|refine noG_r ?_|refine noG_e ?_|refine inR_mk ?_ ?_)|(refine fun (hc : (_ : Bool) = _)=>?_;try simp only [hcS] at hc))
      all_goals try exact om_
      · (first|refine ret_auto ?_|refine ret_auto' ?_);simp only [go_sem,simprocAttr,Tryz.f86]
        exact bv_t ⟨fun j hj h1=>hpa j (by omega) h1,fun p hp q hq h1 h2 h3=>hwg2 p (by omega) q (by omega) h1 h2 h3⟩
end Go.Eng
