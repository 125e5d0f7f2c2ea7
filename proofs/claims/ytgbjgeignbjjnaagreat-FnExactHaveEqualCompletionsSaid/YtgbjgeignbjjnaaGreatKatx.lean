/- Several texts in one: W01, W02. -/
import Derived.Test.YtgbjgeignbjjnaaGreatKasx
import Derived.Test.YtgbjgeignbjjnaaGreatKix
import Derived.Test.YtgbjgeignbjjnaaGreatKzx
set_option linter.unusedSimpArgs false
set_option linter.unusedVariables false
set_option maxRecDepth 100000
set_option maxHeartbeats 16000000
section
namespace Go.Eng
open Go Go.Proofs Go.Cats
theorem eq_tri : EqA3 TE.P 67:=eqA3_mk Tryz.underlying67 Tryz.type2 Tryz.underlying2 (by kernel_rfl) (by first|exact Tryz.eqGuardType67|kernel_rfl)
theorem tri_eta {r : List Int} (h : r.length = 3) : r = [r.getD 0 0,r.getD 1 0,r.getD 2 0]:=by
  obtain _|⟨a,_|⟨b,_|⟨c,_|⟨d,l⟩⟩⟩⟩:=r <;> simp at h
  rfl
theorem ko_rows {c : Cat} (s : Shape c) {g : Int} (h0 : 0 ≤ g) (h1 : g < c.fr.length) : g < c.co.length ∧ (c.co.getD g.toNat []).length = c.fr.length:=⟨by rw [s.col];exact h1,(s.coe g.toNat (by omega)).1⟩
def Tri (A : List (List Int)) : Prop:=∀ i,i < A.length → (A.getD i []).length = 3
attribute [local go_sem] triC
theorem cal_Index_3_int64_3_int64 : Callable Tryz.prog 62:=⟨_,Tryz.func62,rfl,rfl⟩
theorem sp_Index_3_int64_3_int64 {A : List (List Int)} {a b c : Int} (hl : A.length ≤ 1048576) (h3 : Tri A) : Spec Tryz.prog 62 [.bor [] (triD A),.agg [iv a,iv b,iv c]] [] (iv (fnd A [a,b,c])) []:=by
  refine spec_of_V (E:=TE) 0 Tryz.func62 rfl (by simp [Tryz.f62]) fun X hn hX=>?_
  repeat' (first|(with_reducible first|refine V_seq ?_|refine V_block ?_|refine V_skip ?_|refine V_ret ?_|refine V_exit ?_)|((with_reducible refine V_cond ?_);simp only [go_sem,simprocAttr])|((first|refine V_region (by rw [hn];rfl) ?_|refine V_drawn hmix (by rw [hn];rfl) ?_);intro K hK)|((first|with_reducible refine evOps_n ?_|((with_reducible apply evOps_g);rfl)|with_reducible refine evOpsD_n ?_|((with_reducible apply evOpsD_g);rfl));intro K hK;simp (contextual:=true) only [go_sem,simprocAttr])|with_reducible refine evOps_nil ?_|((with_reducible refine evOpsD_nil ?_ ?_);kernel_rfl)|((with_reducible refine hK _ ?_);clear hK K)|(with_reducible first|refine And.intro ?_ ?_|refine nxt_n ?_|refine nxt_r ?_|refine nxt_e ?_|refine blk_n ?_|refine blk_r ?_|refine blk_same ?_|refine blk_other (by decide) ?_|refine noG_n ?_|refine noG_r ?_|refine noG_e ?_|refine inR_mk ?_ ?_)|(refine fun (hc : (_ : Bool) = _)=>?_;try simp only [hcS] at hc))
  all_goals try exact om_
  refine V_loopK (G:={i : Nat // i ≤ A.length ∧ (scan i (fndO A [a,b,c]) = none)}) (fun ⟨i,_⟩=>[(8,iv i),(3,.ptr 0 0)]) [0,7] (fun ⟨i,_⟩=>[(0,⟨1,.box [iv a,iv b,iv c]⟩)]) [0] (fun zz=>A.length - zz.1) ⟨0,Nat.zero_le _,by rfl⟩ ?_ ?_
  · exact Imp.au hX
  rintro ⟨i,hii,hwi⟩
  simp only [go_sem,simprocAttr]
  rcases Nat.lt_or_ge i A.length with hlt | hge
  · have hp:=tri_part A i hlt
    have he:=tri_eta (h3 i hlt)
    repeat' (first|(rw [hp];simp only [go_sem,simprocAttr])|(with_reducible first|refine V_seq ?_|refine V_block ?_|refine V_skip ?_|refine V_ret ?_|refine V_exit ?_)|((with_reducible refine V_cond ?_);simp only [go_sem,simprocAttr])|((first|refine V_region (by rw [hn];rfl) ?_|refine V_drawn hmix (by rw [hn];rfl) ?_);intro K hK)|((first|with_reducible refine evOps_n ?_|((with_reducible apply evOps_g);rfl)|with_reducible refine evOpsD_n ?_|((with_reducible apply evOpsD_g);rfl));intro K hK;simp (contextual:=true) only [go_sem,simprocAttr])|with_reducible refine evOps_nil ?_|((with_reducible refine evOpsD_nil ?_ ?_);kernel_rfl)|((with_reducible refine hK _ ?_);clear hK K)|(with_reducible first|refine And.intro ?_ ?_|refine nxt_n ?_|refine nxt_r ?_|refine nxt_e ?_|refine blk_n ?_|refine blk_r ?_|refine blk_same ?_|refine blk_other (by decide) ?_|refine noG_n ?_|refine noG_r ?_|refine noG_e ?_|refine inR_mk ?_ ?_)|(refine hook_eq3 eq_tri (by simp only [go_sem,simprocAttr];rfl) (by simp only [go_sem,simprocAttr];rfl) ?_;simp only [go_sem,simprocAttr])|(refine fun (hc : (_ : Bool) = _)=>?_;try simp only [hcS] at hc))
    all_goals try exact om_
    · (first|refine ret_auto ?_|refine ret_auto' ?_);simp only [go_sem,simprocAttr,Tryz.f62]
      rw [fnd_hit hwi (by omega) (by rw [he];exact hc.symm)]
    · refine ⟨⟨i + 1,by omega,(by exact scan_next hwi (fndO_f fun q=>hc (by rw [← he,q])))⟩,by simp only;omega,Imp.ao hX⟩
  · have ei : i = A.length:=by omega
    subst ei
    repeat' (first|(with_reducible first|refine V_seq ?_|refine V_block ?_|refine V_skip ?_|refine V_ret ?_|refine V_exit ?_)|((with_reducible refine V_cond ?_);simp only [go_sem,simprocAttr])|((first|refine V_region (by rw [hn];rfl) ?_|refine V_drawn hmix (by rw [hn];rfl) ?_);intro K hK)|((first|with_reducible refine evOps_n ?_|((with_reducible apply evOps_g);rfl)|with_reducible refine evOpsD_n ?_|((with_reducible apply evOpsD_g);rfl));intro K hK;simp (contextual:=true) only [go_sem,simprocAttr])|with_reducible refine evOps_nil ?_|((with_reducible refine evOpsD_nil ?_ ?_);kernel_rfl)|((with_reducible refine hK _ ?_);clear hK K)|(with_reducible first|refine And.intro ?_ ?_|refine nxt_n ?_|refine nxt_r ?_|refine nxt_e ?_|refine blk_n ?_|refine blk_r ?_|refine blk_same ?_|refine blk_other (by decide) ?_|refine noG_n ?_|refine noG_r ?_|refine noG_e ?_|refine inR_mk ?_ ?_)|(refine fun (hc : (_ : Bool) = _)=>?_;try simp only [hcS] at hc))
    all_goals try exact om_
    · (first|refine ret_auto ?_|refine ret_auto' ?_);simp only [go_sem,simprocAttr,Tryz.f62]
      rw [fnd_none hwi]
theorem cal_index_3_int64 : Callable Tryz.prog 47:=⟨_,Tryz.func47,rfl,rfl⟩
theorem sp_index_3_int64 {A : List (List Int)} {a b c : Int} (hl : A.length ≤ 1048576) (h3 : Tri A) : Spec Tryz.prog 47 [.bor [] (triD A),.agg [iv a,iv b,iv c]] [] (iv (fnd A [a,b,c])) []:=by
  refine spec_of_V (E:=TE) 0 Tryz.func47 rfl (by simp [Tryz.f47]) fun X hn hX=>?_
  repeat' (first|(with_reducible first|refine V_seq ?_|refine V_skip ?_|refine V_ret ?_)|((with_reducible refine V_cond ?_);simp only [go_sem,simprocAttr])|((refine V_region (by rw [hn];rfl) ?_);intro K hK)|((first|with_reducible refine evOps_n ?_|((with_reducible apply evOps_g);rfl));intro K hK;simp (contextual:=true) only [go_sem,simprocAttr])|with_reducible refine evOps_nil ?_|((with_reducible refine hK _ ?_);clear hK K)|(with_reducible first|refine And.intro ?_ ?_|refine nxt_n ?_|refine nxt_r ?_|refine inR_mk ?_ ?_)|((with_reducible refine evCall_at 62 ?_);refine EvCall.rq (a:=(sp_Index_3_int64_3_int64 ?_ ?_)) (b:=cal_Index_3_int64_3_int64) (c:=?_);all_goals try simp only [go_sem,simprocAttr])|(refine fun (hc : (_ : Bool) = _)=>?_;try simp only [hcS] at hc))
  all_goals try exact om_
  (first|refine ret_auto ?_|refine ret_auto' ?_);simp only [go_sem,simprocAttr,Tryz.f47]
theorem cal_completion_arrow : Callable Tryz.prog 34:=⟨_,Tryz.func34,rfl,rfl⟩
theorem sp_completion_arrow {a0 a1 a2 a3 a4 a5 : Dt} {A : List (List Int)} {i j f : Int} (hl : A.length ≤ 1048576) (h3 : Tri A) : Spec Tryz.prog 34 [.bptr [] [a0,a1,a2,a3,a4,a5,triD A],iv i,iv j,iv f] [] (iv (fnd A [i,j,f])) []:=by
  refine spec_of_V (E:=TE) 0 Tryz.func34 rfl (by simp [Tryz.f34]) fun X hn hX=>?_
  repeat' (first|(with_reducible first|refine V_seq ?_|refine V_skip ?_|refine V_ret ?_)|((with_reducible refine V_cond ?_);simp only [go_sem,simprocAttr])|((refine V_region (by rw [hn];rfl) ?_);intro K hK)|((first|with_reducible refine evOps_n ?_|((with_reducible apply evOps_g);rfl));intro K hK;simp (contextual:=true) only [go_sem,simprocAttr])|with_reducible refine evOps_nil ?_|((with_reducible refine hK _ ?_);clear hK K)|(with_reducible first|refine And.intro ?_ ?_|refine nxt_n ?_|refine nxt_r ?_|refine inR_mk ?_ ?_)|((with_reducible refine evCall_at 47 ?_);refine EvCall.rq (a:=(sp_index_3_int64 ?_ ?_)) (b:=cal_index_3_int64) (c:=?_);all_goals try simp only [go_sem,simprocAttr])|(refine fun (hc : (_ : Bool) = _)=>?_;try simp only [hcS] at hc))
  all_goals try exact om_
  (first|refine ret_auto ?_|refine ret_auto' ?_);simp only [go_sem,simprocAttr,Tryz.f34]
theorem cal_Category_idempotents : Callable Tryz.prog 31:=⟨_,Tryz.func31,rfl,rfl⟩
theorem sp_Category_idempotents {c : Cat} (sc : Shape c) : Spec Tryz.prog 31 [.bptr [] (catD c)] [] (.sl 0) [(0,⟨1,.arr (ints (idemL c c.fr.length))⟩)]:=by
  refine spec_of_V (E:=TE) 0 Tryz.func31 rfl (by simp [Tryz.f31]) fun X hn hX=>?_
  have m40:=sc.m40
  have col:=sc.col
  repeat' (first|(with_reducible first|refine V_seq ?_|refine V_block ?_|refine V_skip ?_|refine V_ret ?_|refine V_exit ?_)|((with_reducible refine V_cond ?_);simp only [go_sem,simprocAttr])|((refine V_region (by rw [hn];rfl) ?_);intro K hK)|((first|with_reducible refine evOps_n ?_|((with_reducible apply evOps_g);rfl));intro K hK;simp (contextual:=true) only [go_sem,simprocAttr])|with_reducible refine evOps_nil ?_|((with_reducible refine hK _ ?_);clear hK K)|(with_reducible first|refine And.intro ?_ ?_|refine nxt_n ?_|refine nxt_r ?_|refine nxt_e ?_|refine blk_n ?_|refine blk_r ?_|refine blk_same ?_|refine blk_other (by decide) ?_|refine noG_n ?_|refine noG_r ?_|refine noG_e ?_|refine inR_mk ?_ ?_)|(refine fun (hc : (_ : Bool) = _)=>?_;try simp only [hcS] at hc))
  all_goals try exact om_
  refine V_loopK (G:={e : Nat // e ≤ c.fr.length ∧ (True)}) (fun ⟨e,_⟩=>[(11,iv e),(3,.sl 0)]) [0,2,10] (fun ⟨e,_⟩=>[(0,⟨1,.arr (ints (idemL c e))⟩)]) [0] (fun zz=>c.fr.length - zz.1) ⟨0,Nat.zero_le _,by first|trivial|simp⟩ ?_ ?_
  · exact Imp.auto hX (by simp [go_sem,simprocAttr,idemL_zero])
  rintro ⟨e,hie,hwe⟩
  simp only [go_sem,simprocAttr]
  have hlen:=idemL_len (c:=c) (k:=e)
  rcases Nat.lt_or_ge e c.fr.length with hlt | hge
  · have rl:=ko_rows sc (g:=(e : Int)) (by omega) (by omega)
    repeat' (first|(with_reducible first|refine V_seq ?_|refine V_block ?_|refine V_skip ?_|refine V_ret ?_|refine V_exit ?_)|((with_reducible refine V_cond ?_);simp only [go_sem,simprocAttr])|((refine V_region (by rw [hn];rfl) ?_);intro K hK)|((first|with_reducible refine evOps_n ?_|((with_reducible apply evOps_g);rfl));intro K hK;simp (contextual:=true) only [go_sem,simprocAttr])|with_reducible refine evOps_nil ?_|((with_reducible refine hK _ ?_);clear hK K)|(with_reducible first|refine And.intro ?_ ?_|refine nxt_n ?_|refine nxt_r ?_|refine nxt_e ?_|refine blk_n ?_|refine blk_r ?_|refine blk_same ?_|refine blk_other (by decide) ?_|refine noG_n ?_|refine noG_r ?_|refine noG_e ?_|refine inR_mk ?_ ?_)|(refine fun (hc : (_ : Bool) = _)=>?_;try simp only [hcS] at hc))
    all_goals try exact om_
    · have e1:=idemL_yes (c:=c) (k:=e) hc
      refine ⟨⟨e + 1,by omega,(by trivial)⟩,by simp only;omega,Imp.auto hX (by simp only [go_sem,simprocAttr,e1])⟩
    · have e1:=idemL_no (c:=c) (k:=e) hc
      refine ⟨⟨e + 1,by omega,(by trivial)⟩,by simp only;omega,Imp.auto hX (by simp only [go_sem,simprocAttr,e1])⟩
  · have ee : e = c.fr.length:=by omega
    subst ee
    repeat' (first|(with_reducible first|refine V_seq ?_|refine V_block ?_|refine V_skip ?_|refine V_ret ?_|refine V_exit ?_)|((with_reducible refine V_cond ?_);simp only [go_sem,simprocAttr])|((refine V_region (by rw [hn];rfl) ?_);intro K hK)|((first|with_reducible refine evOps_n ?_|((with_reducible apply evOps_g);rfl));intro K hK;simp (contextual:=true) only [go_sem,simprocAttr])|with_reducible refine evOps_nil ?_|((with_reducible refine hK _ ?_);clear hK K)|(with_reducible first|refine And.intro ?_ ?_|refine nxt_n ?_|refine nxt_r ?_|refine nxt_e ?_|refine blk_n ?_|refine blk_r ?_|refine blk_same ?_|refine blk_other (by decide) ?_|refine noG_n ?_|refine noG_r ?_|refine noG_e ?_|refine inR_mk ?_ ?_)|(refine fun (hc : (_ : Bool) = _)=>?_;try simp only [hcS] at hc))
    all_goals try exact om_
    · (first|refine ret_auto ?_|refine ret_auto' ?_);simp only [go_sem,simprocAttr,Tryz.f31]
theorem cal_l11Idempotents : Callable Tryz.prog 23:=⟨_,Tryz.func23,rfl,rfl⟩
theorem sp_l11Idempotents {c : Cat} (sc : Shape c) : Spec Tryz.prog 23 [catV c] [] (.sl 0) [(0,⟨1,.arr (ints (idemL c c.fr.length))⟩)]:=by
  refine spec_of_V (E:=TE) 0 Tryz.func23 rfl (by simp [Tryz.f23]) fun X hn hX=>?_
  have m40:=sc.m40
  have col:=sc.col
  have tol:=sc.tol
  repeat' (first|(with_reducible first|refine V_seq ?_|refine V_block ?_|refine V_skip ?_|refine V_ret ?_|refine V_exit ?_)|((with_reducible refine V_cond ?_);simp only [go_sem,simprocAttr])|((first|refine V_region (by rw [hn];rfl) ?_|refine V_drawn hmix (by rw [hn];rfl) ?_);intro K hK)|((first|with_reducible refine evOps_n ?_|((with_reducible apply evOps_g);rfl)|with_reducible refine evOpsD_n ?_|((with_reducible apply evOpsD_g);rfl));intro K hK;simp (contextual:=true) only [go_sem,simprocAttr])|with_reducible refine evOps_nil ?_|((with_reducible refine evOpsD_nil ?_ ?_);kernel_rfl)|((with_reducible refine hK _ ?_);clear hK K)|(with_reducible first|refine And.intro ?_ ?_|refine nxt_n ?_|refine nxt_r ?_|refine nxt_e ?_|refine blk_n ?_|refine blk_r ?_|refine blk_same ?_|refine blk_other (by decide) ?_|refine noG_n ?_|refine noG_r ?_|refine noG_e ?_|refine inR_mk ?_ ?_)|(refine fun (hc : (_ : Bool) = _)=>?_;try simp only [hcS] at hc))
  all_goals try exact om_
  refine V_loopK (G:={e : Nat // e ≤ c.fr.length ∧ (True)}) (fun ⟨e,_⟩=>[(4,iv e),(3,.sl 1)]) [1,2] (fun ⟨e,_⟩=>[(1,⟨1,.arr (ints (idemL c e))⟩)]) [1] (fun zz=>c.fr.length - zz.1) ⟨0,Nat.zero_le _,by first|trivial|simp⟩ ?_ ?_
  · exact Imp.auto hX (by simp [go_sem,simprocAttr,idemL_zero])
  rintro ⟨e,hie,hwe⟩
  simp only [go_sem,simprocAttr]
  have hlen:=idemL_len (c:=c) (k:=e)
  rcases Nat.lt_or_ge e c.fr.length with hlt | hge
  · have rl:=ko_rows sc (g:=(e : Int)) (by omega) (by omega)
    have ht:=sp_l02Then (c:=c) (f:=(e : Int)) (g:=(e : Int)) (by omega) (by omega) (by omega) (by omega)
    repeat' (first|(with_reducible first|refine V_seq ?_|refine V_block ?_|refine V_skip ?_|refine V_ret ?_|refine V_exit ?_)|((with_reducible refine V_cond ?_);simp only [go_sem,simprocAttr])|((first|refine V_region (by rw [hn];rfl) ?_|refine V_drawn hmix (by rw [hn];rfl) ?_);intro K hK)|((first|with_reducible refine evOps_n ?_|((with_reducible apply evOps_g);rfl)|with_reducible refine evOpsD_n ?_|((with_reducible apply evOpsD_g);rfl));intro K hK;simp (contextual:=true) only [go_sem,simprocAttr])|with_reducible refine evOps_nil ?_|((with_reducible refine evOpsD_nil ?_ ?_);kernel_rfl)|((with_reducible refine hK _ ?_);clear hK K)|(with_reducible first|refine And.intro ?_ ?_|refine nxt_n ?_|refine nxt_r ?_|refine nxt_e ?_|refine blk_n ?_|refine blk_r ?_|refine blk_same ?_|refine blk_other (by decide) ?_|refine noG_n ?_|refine noG_r ?_|refine noG_e ?_|refine inR_mk ?_ ?_)|((with_reducible refine evCall_at 25 ?_);refine EvCall.mk (ht) cal_l02Then [] [] (by simp [go_sem] <;> (repeat' (first|rfl|constructor))) (by simp [go_sem] <;> (repeat' (first|rfl|constructor))) ?_;all_goals try simp only [go_sem,simprocAttr])|(refine fun (hc : (_ : Bool) = _)=>?_;try simp only [hcS] at hc))
    all_goals try exact om_
    · have e1:=idemL_yes (c:=c) (k:=e) (by assumption)
      refine ⟨⟨e + 1,by omega,(by trivial)⟩,by simp only;omega,Imp.auto hX (by simp only [go_sem,simprocAttr,e1])⟩
    · have e1:=idemL_no (c:=c) (k:=e) (by assumption)
      refine ⟨⟨e + 1,by omega,(by trivial)⟩,by simp only;omega,Imp.auto hX (by simp only [go_sem,simprocAttr,e1])⟩
    · have e1:=idemL_no (c:=c) (k:=e) (fun q=>by
        have hn:=sc.neg (f:=e) (g:=e) (by omega) (by omega)
        rw [q] at hn
        have : ¬ c.T e ≠ c.F e:=fun q=>absurd (hn.2 q) (by omega)
        exact hc ((Classical.not_not.1 this).symm))
      refine ⟨⟨e + 1,by omega,(by trivial)⟩,by simp only;omega,Imp.auto hX (by simp only [go_sem,simprocAttr,e1])⟩
  · have ee : e = c.fr.length:=by omega
    subst ee
    repeat' (first|(with_reducible first|refine V_seq ?_|refine V_block ?_|refine V_skip ?_|refine V_ret ?_|refine V_exit ?_)|((with_reducible refine V_cond ?_);simp only [go_sem,simprocAttr])|((first|refine V_region (by rw [hn];rfl) ?_|refine V_drawn hmix (by rw [hn];rfl) ?_);intro K hK)|((first|with_reducible refine evOps_n ?_|((with_reducible apply evOps_g);rfl)|with_reducible refine evOpsD_n ?_|((with_reducible apply evOpsD_g);rfl));intro K hK;simp (contextual:=true) only [go_sem,simprocAttr])|with_reducible refine evOps_nil ?_|((with_reducible refine evOpsD_nil ?_ ?_);kernel_rfl)|((with_reducible refine hK _ ?_);clear hK K)|(with_reducible first|refine And.intro ?_ ?_|refine nxt_n ?_|refine nxt_r ?_|refine nxt_e ?_|refine blk_n ?_|refine blk_r ?_|refine blk_same ?_|refine blk_other (by decide) ?_|refine noG_n ?_|refine noG_r ?_|refine noG_e ?_|refine inR_mk ?_ ?_)|(refine fun (hc : (_ : Bool) = _)=>?_;try simp only [hcS] at hc))
    all_goals try exact om_
    · (first|refine ret_auto ?_|refine ret_auto' ?_);simp only [go_sem,simprocAttr,Tryz.f23]
end Go.Eng
end
section
namespace Go.Eng
open Go Go.Proofs Go.Cats
noncomputable def koD (A : List (List Int)) : List Dt:=[unD,unD,unD,unD,unD,unD,triD A]
section
variable {A : List (List Int)}
@[go_sem] theorem koD_6 : ((koD A).drop 6).take 1 = [triD A]:=rfl
@[go_sem] theorem koD_l : (koD A).length = 7:=rfl
@[go_sem] theorem koD_a : (koD A).take 7 = koD A:=rfl
end
def TriA (A : List (List Int)) (m : Nat) : Prop:=∀ a,a < A.length → (A.getD a []).length = 3 ∧ 0 ≤ (A.getD a []).getD 2 0 ∧ (A.getD a []).getD 2 0 < m
attribute [local go_sem] triC List.set_cons_zero List.set_cons_succ
theorem sp_Category_completed_1 {c : Cat} {A : List (List Int)} {a b : Nat} (sc : Shape c) (hA : A.length ≤ 4096) (h : TriA A c.fr.length) (ha : a < A.length) (hb : b < A.length) : Spec Tryz.prog 36 [iv a,iv b,.bptr [] [.pt (koD A)],.bptr [] [.pt (catD c)]] [] (iv (fnd A (koM c (A.getD a []) (A.getD b [])))) []:=by
  have ka:=h a ha
  have kb:=h b hb
  have pa:=tri_part A a ha
  have pb:=tri_part A b hb
  have m40:=sc.m40
  have rl:=ko_rows sc (g:=(A.getD a []).getD 2 0) ka.2.1 ka.2.2
  have ht:=sp_Category_then (c:=c) (f:=(A.getD a []).getD 2 0) (g:=(A.getD b []).getD 2 0) ka.2.1 rl.1 kb.2.1 (by omega)
  have har:=sp_completion_arrow (a0:=unD) (a1:=unD) (a2:=unD) (a3:=unD) (a4:=unD) (a5:=unD) (A:=A) (i:=(A.getD a []).getD 0 0) (j:=(A.getD b []).getD 1 0) (f:=c.C ((A.getD a []).getD 2 0) ((A.getD b []).getD 2 0)) (by omega) (fun i hi=>(h i hi).1)
  refine spec_of_V (E:=TE) 0 Tryz.func36 rfl (by simp [Tryz.f36]) fun X hn hX=>?_
  repeat' (first|(rw [pa];simp only [go_sem,simprocAttr])|(rw [pb];simp only [go_sem,simprocAttr])|(with_reducible first|refine V_seq ?_|refine V_skip ?_|refine V_ret ?_)|((with_reducible refine V_cond ?_);simp only [go_sem,simprocAttr])|((first|refine V_region (by rw [hn];rfl) ?_|refine V_drawn hmix (by rw [hn];rfl) ?_);intro K hK)|((first|with_reducible refine evOps_n ?_|((with_reducible apply evOps_g);rfl)|with_reducible refine evOpsD_n ?_|((with_reducible apply evOpsD_g);rfl));intro K hK;simp (contextual:=true) only [go_sem,simprocAttr])|with_reducible refine evOps_nil ?_|((with_reducible refine evOpsD_nil ?_ ?_);kernel_rfl)|((with_reducible refine hK _ ?_);clear hK K)|(with_reducible first|refine And.intro ?_ ?_|refine nxt_n ?_|refine nxt_r ?_|refine inR_mk ?_ ?_)|((with_reducible refine evCall_at 33 ?_);refine EvCall.mk (ht) cal_Category_then [] [] (by simp [go_sem] <;> (repeat' (first|rfl|constructor))) (by simp [go_sem] <;> (repeat' (first|rfl|constructor))) ?_;all_goals try simp only [go_sem,simprocAttr])|((with_reducible refine evCall_at 34 ?_);refine EvCall.mk (har) cal_completion_arrow [] [] (by simp [go_sem] <;> (repeat' (first|rfl|constructor))) (by simp [go_sem] <;> (repeat' (first|rfl|constructor))) ?_;all_goals try simp only [go_sem,simprocAttr])|(refine fun (hc : (_ : Bool) = _)=>?_;try simp only [hcS] at hc))
  all_goals try exact om_
  (first|refine ret_auto ?_|refine ret_auto' ?_);simp only [go_sem,simprocAttr,Tryz.f36]
  rfl
theorem cal_Category_completed_1 : Callable Tryz.prog 36:=⟨_,Tryz.func36,rfl,rfl⟩
theorem sp_Category_table_ko {ob : Int} {fr to id E : List Int} {c : Cat} {A : List (List Int)} {h : Nat → Nat → Int} (hS : ∀ a b : Nat,a < fr.length → b < fr.length → to.getD a 0 = fr.getD b 0 → Spec Tryz.prog 36 [iv a,iv b,.bptr [] [.pt (koD A)],.bptr [] [.pt (catD c)]] [] (iv (h a b)) []) (hlen : fr.length ≤ 1048576) (hto : to.length = fr.length) (hob : 0 ≤ ob) :
    Spec Tryz.prog 35 [.ptr 0 0,.fn 36 [.ptr 6 0,.ptr 7 0]] [(0,⟨1,.box [iv ob,.sl 1,.sl 2,.sl 3,.v (.slice none 0 0),.sl 4,.sl 5]⟩),(1,⟨1,.arr (ints fr)⟩),(2,⟨1,.arr (ints to)⟩),(3,⟨1,.arr (ints id)⟩),(4,⟨1,.arr (ints E)⟩),(5,⟨1,.arr (triD A)⟩),(6,⟨1,.box [.ptr 0 0]⟩),(7,⟨1,.box [.bptr [] (catD c)]⟩)] (.tup []) [(0,⟨1,.box [iv ob,.sl 1,.sl 2,.sl 3,.sl 8,.sl 4,.sl 5]⟩),(1,⟨1,.arr (ints fr)⟩),(2,⟨1,.arr (ints to)⟩),(3,⟨1,.arr (ints id)⟩),(4,⟨1,.arr (ints E)⟩),(5,⟨1,.arr (triD A)⟩),(6,⟨1,.box [.ptr 0 0]⟩),(7,⟨1,.box [.bptr [] (catD c)]⟩),(8,⟨1,.arr (intss (tRows fr to h fr.length))⟩)]:=by
  refine spec_of_V (E:=TE) 8 Tryz.func35 rfl (by simp [Tryz.f35]) fun X hn hX=>?_
  repeat' (first|(with_reducible first|refine V_seq ?_|refine V_block ?_|refine V_skip ?_|refine V_ret ?_|refine V_exit ?_)|((with_reducible refine V_cond ?_);simp only [go_sem,simprocAttr])|((first|refine V_region (by rw [hn];rfl) ?_|refine V_drawn hmix (by rw [hn];rfl) ?_);intro K hK)|((first|with_reducible refine evOps_n ?_|((with_reducible apply evOps_g);rfl)|with_reducible refine evOpsD_n ?_|((with_reducible apply evOpsD_g);rfl));intro K hK;simp (contextual:=true) only [go_sem,simprocAttr])|with_reducible refine evOps_nil ?_|((with_reducible refine evOpsD_nil ?_ ?_);kernel_rfl)|((with_reducible refine hK _ ?_);clear hK K)|(with_reducible first|refine And.intro ?_ ?_|refine nxt_n ?_|refine nxt_r ?_|refine nxt_e ?_|refine blk_n ?_|refine blk_r ?_|refine blk_same ?_|refine blk_other (by decide) ?_|refine noG_n ?_|refine noG_r ?_|refine noG_e ?_|refine inR_mk ?_ ?_)|((with_reducible refine evCall_at 48 ?_);refine EvCall.mk (sp_Category_arrows_tb (ob:=ob) (fr:=fr) (to:=to) (id:=id)) cal_Category_arrows [] [0,1,2,3] (by simp [go_sem] <;> (repeat' (first|rfl|constructor))) (by simp [go_sem] <;> (repeat' (first|rfl|constructor))) ?_;all_goals try simp only [go_sem,simprocAttr])|(refine fun (hc : (_ : Bool) = _)=>?_;try simp only [hcS] at hc))
  all_goals try exact om_
  refine V_loopK (G:={i : Nat // i ≤ fr.length ∧ (True)}) (fun ⟨i,_⟩=>[(19,iv i)]) [0,1,4,18] (fun ⟨i,_⟩=>[(0,⟨1,.box [iv ob,.sl 1,.sl 2,.sl 3,.sl 8,.sl 4,.sl 5]⟩),(1,⟨1,.arr (ints fr)⟩),(2,⟨1,.arr (ints to)⟩),(3,⟨1,.arr (ints id)⟩),(4,⟨1,.arr (ints E)⟩),(5,⟨1,.arr (triD A)⟩),(6,⟨1,.box [.ptr 0 0]⟩),(7,⟨1,.box [.bptr [] (catD c)]⟩),(8,⟨1,.arr (intsN (tRows fr to h i) (fr.length - i))⟩)]) [0,1,2,3,4,5,6,7,8] (fun zz=>fr.length - zz.1) ⟨0,Nat.zero_le _,by simp⟩ ?_ ?_
  · exact Imp.au hX
  rintro ⟨i,hii,hwi⟩
  simp only [go_sem,simprocAttr]
  have l1:=tRows_len (fr:=fr) (to:=to) (h:=h) (i:=i)
  have e3:=fun h0=>tb_new (fr:=fr) (to:=to) (h:=h) (i:=i) h0
  have e4:=tb_at (fr:=fr) (to:=to) (h:=h) (i:=i) (m:=fr.length - (i + 1)) (x:=tRow fr to h i 0)
  repeat' (first|(refine V_at 6 (Imp.refl _ _) ?_;rw [e3 (by omega)])|(with_reducible first|refine V_seq ?_|refine V_block ?_|refine V_skip ?_|refine V_ret ?_|refine V_exit ?_)|((with_reducible refine V_cond ?_);simp only [go_sem,simprocAttr])|((first|refine V_region (by rw [hn];rfl) ?_|refine V_drawn hmix (by rw [hn];rfl) ?_);intro K hK)|((first|with_reducible refine evOps_n ?_|((with_reducible apply evOps_g);rfl)|with_reducible refine evOpsD_n ?_|((with_reducible apply evOpsD_g);rfl));intro K hK;simp (contextual:=true) only [go_sem,simprocAttr])|with_reducible refine evOps_nil ?_|((with_reducible refine evOpsD_nil ?_ ?_);kernel_rfl)|((with_reducible refine hK _ ?_);clear hK K)|(with_reducible first|refine And.intro ?_ ?_|refine nxt_n ?_|refine nxt_r ?_|refine nxt_e ?_|refine blk_n ?_|refine blk_r ?_|refine blk_same ?_|refine blk_other (by decide) ?_|refine noG_n ?_|refine noG_r ?_|refine noG_e ?_|refine inR_mk ?_ ?_)|(rw [e4];simp only [go_sem,simprocAttr])|(refine fun (hc : (_ : Bool) = _)=>?_;try simp only [hcS] at hc))
  all_goals try exact om_
  · refine V_loopK (G:={j : Nat // j ≤ fr.length ∧ (True)}) (fun ⟨j,_⟩=>[(38,iv j)]) [0,1,4,5,18,19,37] (fun ⟨j,_⟩=>[(0,⟨1,.box [iv ob,.sl 1,.sl 2,.sl 3,.sl 8,.sl 4,.sl 5]⟩),(1,⟨1,.arr (ints fr)⟩),(2,⟨1,.arr (ints to)⟩),(3,⟨1,.arr (ints id)⟩),(4,⟨1,.arr (ints E)⟩),(5,⟨1,.arr (triD A)⟩),(6,⟨1,.box [.ptr 0 0]⟩),(7,⟨1,.box [.bptr [] (catD c)]⟩),(8,⟨1,.arr (intsN (tRows fr to h i ++ [tRow fr to h i j]) (fr.length - (i + 1)))⟩)]) [0,1,2,3,4,5,6,7,8] (fun zz=>fr.length - zz.1) ⟨0,Nat.zero_le _,by first|trivial|simp⟩ ?_ ?_
    · exact Imp.au hX
    rintro ⟨j,hij,hwj⟩
    simp only [go_sem,simprocAttr]
    have l0:=tRow_len (fr:=fr) (to:=to) (h:=h) (i:=i) (j:=0) (Nat.zero_le _)
    have l2:=tRow_len (fr:=fr) (to:=to) (h:=h) (i:=i) (j:=j) (by omega)
    have e2:=tb_at (fr:=fr) (to:=to) (h:=h) (i:=i) (m:=fr.length - (i + 1)) (x:=tRow fr to h i j)
    repeat' (first|(refine V_at 9 (Imp.open_ 8 i _ [] (.inr ⟨rfl,rfl⟩) (by simp [go_sem,simprocAttr]) (by simp [go_sem,simprocAttr,l1];omega) rfl (by rw [e2];rfl) rfl) ?_;rw [e2])|refine V_at 12 (Imp.closeA 8 10 i _ _ rfl rfl (by decide) (by simp [go_sem,simprocAttr,l1];omega)) ?_|((refine V_drawnX (id:=11) hmix (by rw [hn];rfl) ?_);intro K hK)|((with_reducible refine evOpsDX_nil ?_ ?_);kernel_rfl)|(refine evOpsDX_h ?_;intro K hK;refine (HkX.callC (E:=TE) (f:=36) (caps:=[.ptr 6 0,.ptr 7 0]) (hS i j ?_ ?_ ?_) cal_Category_completed_1 [6,0,5,7] ?_ ?_ ?_ ?_ ?_))|(((with_reducible apply evOpsDX_g);rfl);intro K hK;simp (contextual:=true) only [go_sem,simprocAttr])|((with_reducible refine evOpsDX_n ?_);intro K hK;simp (contextual:=true) only [go_sem,simprocAttr])|(with_reducible first|refine V_seq ?_|refine V_block ?_|refine V_skip ?_|refine V_ret ?_|refine V_exit ?_)|((with_reducible refine V_cond ?_);simp only [go_sem,simprocAttr])|((first|refine V_region (by rw [hn];rfl) ?_|refine V_drawn hmix (by rw [hn];rfl) ?_);intro K hK)|((first|with_reducible refine evOps_n ?_|((with_reducible apply evOps_g);rfl)|with_reducible refine evOpsD_n ?_|((with_reducible apply evOpsD_g);rfl));intro K hK;simp (contextual:=true) only [go_sem,simprocAttr])|with_reducible refine evOps_nil ?_|((with_reducible refine evOpsD_nil ?_ ?_);kernel_rfl)|((with_reducible refine hK _ ?_);clear hK K)|(with_reducible first|refine And.intro ?_ ?_|refine nxt_n ?_|refine nxt_r ?_|refine nxt_e ?_|refine blk_n ?_|refine blk_r ?_|refine blk_same ?_|refine blk_other (by decide) ?_|refine noG_n ?_|refine noG_r ?_|refine noG_e ?_|refine inR_mk ?_ ?_)|(refine fun (hc : (_ : Bool) = _)=>?_;try simp only [hcS] at hc))
    all_goals try exact om_
    · simp only [go_sem,simprocAttr]
    · simp [go_sem]
    · simp [go_sem,reach]
    · exact ⟨shows_v _,shows_v _,shows_cap (i:=6) (m:=0) rfl rfl (by simp) (by simp) (viewA_any rfl (viewA_any rfl (viewA_any rfl (viewA_any rfl (viewA_any rfl (viewA_any rfl (viewA_sl (by simp) rfl viewA_nil))))))),shows_box (i:=7) rfl (by simp) (viewA_rd ⟨_,rfl,List.take_length,fun p hp=>(nomatch hp),fun p hp=>(nomatch hp)⟩ viewA_nil),trivial⟩
    · have e5:=tRow_yes (fr:=fr) (to:=to) (h:=h) (i:=i) (j:=j) (by omega) (by assumption)
      have e6:=tb_put (fr:=fr) (to:=to) (h:=h) (i:=i) (m:=fr.length - (i + 1)) (x:=tRow fr to h i j) (r:=tRow fr to h i (j + 1))
      refine ⟨⟨j + 1,by omega,(by trivial)⟩,by simp only;omega,Imp.auto hX (by simp only [go_sem,simprocAttr,e5,e6])⟩
    · have e5:=tRow_no (fr:=fr) (to:=to) (h:=h) (i:=i) (j:=j) (by omega) (by assumption)
      have e6:=tb_put (fr:=fr) (to:=to) (h:=h) (i:=i) (m:=fr.length - (i + 1)) (x:=tRow fr to h i j) (r:=tRow fr to h i (j + 1))
      refine ⟨⟨j + 1,by omega,(by trivial)⟩,by simp only;omega,Imp.auto hX (by simp only [go_sem,simprocAttr,e5,e6])⟩
    · have e : j = fr.length:=by omega
      subst e
      have e5:=tRows_succ (fr:=fr) (to:=to) (h:=h) (i:=i)
      refine ⟨⟨i + 1,by omega,(by trivial)⟩,by simp only;omega,Imp.auto hX (by simp only [go_sem,simprocAttr,e5])⟩
  · have e : i = fr.length:=by omega
    subst e
    (first|refine ret_auto ?_|refine ret_auto' ?_);simp only [go_sem,simprocAttr,Tryz.f35]
    simp [go_sem,simprocAttr]
end Go.Eng
end
