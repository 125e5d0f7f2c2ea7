/- Functions of the program: natural maps. -/
import Derived.Test.YtjdjkmgjgghodaaGreatKdx
import Derived.Test.YtjdjkmgjgghodaaGreatG07q
set_option linter.unusedSimpArgs false
set_option linter.unusedVariables false
set_option maxRecDepth 100000
set_option maxHeartbeats 8000000
namespace Go.Eng
open Go Go.Proofs Go.Cats
def smD (m : SM) : List Dt:=sfD m.src ++ sfD m.tgt ++ [intss m.parts]
def smS (ts : List (Nat × Nat)) (m : SM) : List Sv:=sfS ts m.src ++ sfS ts m.tgt ++ [.bor ts (intss m.parts)]
abbrev smV (m : SM) : Sv:=.agg (smS [] m)
section
variable (m : SM) (ts : List (Nat × Nat))
@[go_sem] theorem smD_s : (smD m).take 7 = sfD m.src:=rfl
@[go_sem] theorem smD_t : ((smD m).drop 7).take 7 = sfD m.tgt:=rfl
@[go_sem] theorem smD_p : ((smD m).drop 14).take 1 = [intss m.parts]:=rfl
@[go_sem] theorem smD_all : (smD m).take 15 = smD m:=rfl
@[go_sem] theorem smD_l : (smD m).length = 15:=rfl
@[go_sem] theorem smD_map : (smD m).map (Sv.ofDt ts) = smS ts m:=rfl
attribute [go_sem] smS
end
theorem cal_SetMap_fits : Callable Tryz.prog 121:=⟨_,Tryz.func121,rfl,rfl⟩
theorem sp_SetMap_fits {m : SM} (hb : SMB m) (s1 : IsSF m.src) (s2 : IsSF m.tgt) (hs : m.src.shape = m.tgt.shape) : Spec Tryz.prog 121 [.bptr [] (smD m)] [] (bv (dec (SMFits m))) []:=by
  refine spec_of_V (E:=TE) 0 Tryz.func121 rfl (by simp [Tryz.f121]) fun X hn hX=>?_
  obtain ⟨b1,b2,b3,b4⟩:=hb
  have hz1:=s1.szl
  have hz2:=s2.szl
  have hw2:=s2.szw
  rw [← hs] at hz2
  repeat' (first | (with_reducible first | refine V_seq ?_ | refine V_block ?_ | refine V_skip ?_ | refine V_ret ?_ | refine V_exit ?_) | ((with_reducible refine V_cond ?_); simp only [go_sem,simprocAttr]) | ((first | refine V_region (by rw [hn]; rfl) ?_ | refine V_drawn hmix (by rw [hn]; rfl) ?_); intro K hK) | ((first | with_reducible refine evOps_n ?_ | ((with_reducible apply evOps_g); rfl) | with_reducible refine evOpsD_n ?_ | ((with_reducible apply evOpsD_g); rfl)); intro K hK; simp (contextual:=true) only [go_sem,simprocAttr]) | with_reducible refine evOps_nil ?_ | ((with_reducible refine evOpsD_nil ?_ ?_); kernel_rfl) | ((with_reducible refine hK _ ?_); clear hK K) | (with_reducible first | refine And.intro ?_ ?_ | refine nxt_n ?_ | refine nxt_r ?_ | refine nxt_e ?_ | refine blk_n ?_ | refine blk_r ?_ | refine blk_same ?_ | refine blk_other (by decide) ?_ | refine noG_n ?_ | refine noG_r ?_ | refine noG_e ?_ | refine inR_mk ?_ ?_) | (refine fun (hc : (_ : Bool) = _)=>?_; try simp only [hcS] at hc))
  all_goals try (first | (with_reducible assumption) | ((try simp only [Cat.F,Cat.T,Cat.I,Cat.C,Fun.O,Fun.A,Cat.Entry,Int.toNat_natCast] at *); omega))
  · (first | refine ret_auto ?_ | refine ret_auto' ?_); simp only [go_sem,simprocAttr,Tryz.f121]
    exact bv_f (fun s=>by have:=s.len; omega)
  refine V_loopK (G:={i : Nat // i ≤ m.parts.length ∧ (∀ x,x < i → ((m.parts.getD x []).length : Int) = m.src.sizes.getD x 0 ∧ Within (m.parts.getD x []) (m.tgt.sizes.getD x 0))}) (fun ⟨i,_⟩=>[(22,iv i)]) [0,20,21] (fun ⟨i,_⟩=>[]) [] (fun zz=>m.parts.length - zz.1) ⟨0,Nat.zero_le _,by omega⟩ ?_ ?_
  · exact Imp.auto hX (by simp [go_sem,simprocAttr])
  rintro ⟨i,hii,hwi⟩
  simp only [go_sem,simprocAttr]
  have h1:=b4 i
  have h2:=hw2 i
  repeat' (first | (with_reducible first | refine V_seq ?_ | refine V_block ?_ | refine V_skip ?_ | refine V_ret ?_ | refine V_exit ?_) | ((with_reducible refine V_cond ?_); simp only [go_sem,simprocAttr]) | ((first | refine V_region (by rw [hn]; rfl) ?_ | refine V_drawn hmix (by rw [hn]; rfl) ?_); intro K hK) | ((first | with_reducible refine evOps_n ?_ | ((with_reducible apply evOps_g); rfl) | with_reducible refine evOpsD_n ?_ | ((with_reducible apply evOpsD_g); rfl)); intro K hK; simp (contextual:=true) only [go_sem,simprocAttr]) | with_reducible refine evOps_nil ?_ | ((with_reducible refine evOpsD_nil ?_ ?_); kernel_rfl) | ((with_reducible refine hK _ ?_); clear hK K) | (with_reducible first | refine And.intro ?_ ?_ | refine nxt_n ?_ | refine nxt_r ?_ | refine nxt_e ?_ | refine blk_n ?_ | refine blk_r ?_ | refine blk_same ?_ | refine blk_other (by decide) ?_ | refine noG_n ?_ | refine noG_r ?_ | refine noG_e ?_ | refine inR_mk ?_ ?_) | ((with_reducible refine evCall_at 110 ?_); refine EvCall.rq (a:=(sp_isMapOf ?_ ?_)) (b:=cal_isMapOf) (c:=?_); all_goals try simp only [go_sem,simprocAttr]) | (refine fun (hc : (_ : Bool) = _)=>?_; try simp only [hcS] at hc))
  all_goals try (first | (with_reducible assumption) | ((try simp only [Cat.F,Cat.T,Cat.I,Cat.C,Fun.O,Fun.A,Cat.Entry,Int.toNat_natCast] at *); omega))
  · (first | refine ret_auto ?_ | refine ret_auto' ?_); simp only [go_sem,simprocAttr,Tryz.f121]
    exact bv_f (fun s=>hc (s.map i (by omega)))
  · refine ⟨⟨i + 1,by omega,(by exact all_succ hwi hc)⟩,by simp only; omega,Imp.auto hX (by simp only [go_sem,simprocAttr])⟩
  · (first | refine ret_auto ?_ | refine ret_auto' ?_); simp only [go_sem,simprocAttr,Tryz.f121]
    exact bv_t ⟨by omega,fun a ha=>hwi a (by omega)⟩
theorem cal_SetMap_isShape : Callable Tryz.prog 103:=⟨_,Tryz.func103,rfl,rfl⟩
theorem sp_SetMap_isShape {m : SM} (hb : SMB m) : Spec Tryz.prog 103 [.bptr [] (smD m)] [] (bv (dec (SMShape m))) []:=by
  refine spec_of_V (E:=TE) 0 Tryz.func103 rfl (by simp [Tryz.f103]) fun X hn hX=>?_
  have hb1:=hb.src
  have hb2:=hb.tgt
  have hb3:=hb1.shape
  have hb4:=hb2.shape
  repeat' (first | (with_reducible first | refine V_seq ?_ | refine V_skip ?_ | refine V_ret ?_) | ((with_reducible refine V_cond ?_); simp only [go_sem,simprocAttr]) | ((first | refine V_region (by rw [hn]; rfl) ?_ | refine V_drawn hmix (by rw [hn]; rfl) ?_); intro K hK) | ((first | with_reducible refine evOps_n ?_ | ((with_reducible apply evOps_g); rfl) | with_reducible refine evOpsD_n ?_ | ((with_reducible apply evOpsD_g); rfl)); intro K hK; simp (contextual:=true) only [go_sem,simprocAttr]) | with_reducible refine evOps_nil ?_ | ((with_reducible refine evOpsD_nil ?_ ?_); kernel_rfl) | ((with_reducible refine hK _ ?_); clear hK K) | (with_reducible first | refine And.intro ?_ ?_ | refine nxt_n ?_ | refine nxt_r ?_ | refine inR_mk ?_ ?_) | ((with_reducible refine evCall_at 120 ?_); refine EvCall.rq (a:=(sp_areSetFunctors_two (by first | omega | assumption | rfl | exact (by assumption : SMB _).src | exact (by assumption : SMB _).tgt) (by first | omega | assumption | rfl | exact (by assumption : SMB _).src | exact (by assumption : SMB _).tgt))) (b:=cal_areSetFunctors) (c:=?_); all_goals try simp only [go_sem,simprocAttr]) | ((with_reducible refine evCall_at 64 ?_); refine EvCall.rq (a:=(sp_sameCategory ?_ ?_)) (b:=cal_sameCategory) (c:=?_); all_goals try simp only [go_sem,simprocAttr]) | ((with_reducible refine evCall_at 121 ?_); refine EvCall.rq (a:=(sp_SetMap_fits ?_ ?_ ?_ ?_)) (b:=cal_SetMap_fits) (c:=?_); all_goals try simp only [go_sem,simprocAttr]) | (refine fun (hc : (_ : Bool) = _)=>?_; try simp only [hcS] at hc))
  all_goals try (first | (with_reducible assumption) | ((try simp only [Cat.F,Cat.T,Cat.I,Cat.C,Fun.O,Fun.A,Cat.Entry,Int.toNat_natCast] at *); omega))
  · exact (‹IsSF m.src ∧ IsSF m.tgt›).1
  · exact (‹IsSF m.src ∧ IsSF m.tgt›).2
  · (first | refine ret_auto ?_ | refine ret_auto' ?_); simp only [go_sem,simprocAttr,Tryz.f103]
    exact congrArg (fun b=>Sv.v (.bool b)) (dec_congr ⟨fun h=>⟨(‹IsSF m.src ∧ IsSF m.tgt›).1,(‹IsSF m.src ∧ IsSF m.tgt›).2,hc,h⟩,fun h=>h.fits⟩)
  · (first | refine ret_auto ?_ | refine ret_auto' ?_); simp only [go_sem,simprocAttr,Tryz.f103]
    exact bv_f (fun s=>hc s.same)
  · (first | refine ret_auto ?_ | refine ret_auto' ?_); simp only [go_sem,simprocAttr,Tryz.f103]
    exact bv_f (fun s=>hc ⟨s.src,s.tgt⟩)
theorem cal_SetMap_unnatural : Callable Tryz.prog 104:=⟨_,Tryz.func104,rfl,rfl⟩
theorem sp_SetMap_unnatural {m : SM} (s : SMShape m) : Spec Tryz.prog 104 [.bptr [] (smD m)] [] (.tup [iv m.unnat.1,iv m.unnat.2]) []:=by
  refine spec_of_V (E:=TE) 0 Tryz.func104 rfl (by simp [Tryz.f104]) fun X hn hX=>?_
  obtain ⟨g1,g2,g3,g4⟩:=s
  obtain ⟨g4,g5⟩:=g4
  have hC:=g1.cat
  have hl:=g1.szl
  have hz:=g1.szw
  have ha:=g1.acl
  have hact:=g1.act
  have hl2:=g2.szl
  have ha2:=g2.acl
  have hact2:=g2.act
  rw [← g3] at hl2 ha2 hact2
  obtain ⟨s1,s2,s3,s4,s5,s6,s7,s8,s9,s10,s11⟩:=hC.toShape
  repeat' (first | (with_reducible first | refine V_seq ?_ | refine V_block ?_ | refine V_skip ?_ | refine V_ret ?_ | refine V_exit ?_) | ((with_reducible refine V_cond ?_); simp only [go_sem,simprocAttr]) | ((first | refine V_region (by rw [hn]; rfl) ?_ | refine V_drawn hmix (by rw [hn]; rfl) ?_); intro K hK) | ((first | with_reducible refine evOps_n ?_ | ((with_reducible apply evOps_g); rfl) | with_reducible refine evOpsD_n ?_ | ((with_reducible apply evOpsD_g); rfl)); intro K hK; simp (contextual:=true) only [go_sem,simprocAttr]) | with_reducible refine evOps_nil ?_ | ((with_reducible refine evOpsD_nil ?_ ?_); kernel_rfl) | ((with_reducible refine hK _ ?_); clear hK K) | (with_reducible first | refine And.intro ?_ ?_ | refine nxt_n ?_ | refine nxt_r ?_ | refine nxt_e ?_ | refine blk_n ?_ | refine blk_r ?_ | refine blk_same ?_ | refine blk_other (by decide) ?_ | refine noG_n ?_ | refine noG_r ?_ | refine noG_e ?_ | refine inR_mk ?_ ?_) | (refine fun (hc : (_ : Bool) = _)=>?_; try simp only [hcS] at hc))
  all_goals try (first | (with_reducible assumption) | ((try simp only [Cat.F,Cat.T,Cat.I,Cat.C,Fun.O,Fun.A,Cat.Entry,Int.toNat_natCast] at *); omega))
  refine V_loopK (G:={a : Nat // a ≤ m.src.shape.fr.length ∧ (scan a m.bada = none)}) (fun ⟨a,_⟩=>[(17,iv a)]) [0,4,16] (fun ⟨a,_⟩=>[]) [] (fun zz=>m.src.shape.fr.length - zz.1) ⟨0,Nat.zero_le _,by rfl⟩ ?_ ?_
  · exact Imp.auto hX (by simp [go_sem,simprocAttr])
  rintro ⟨a,hia,hwa⟩
  simp only [go_sem,simprocAttr]
  have h1:=hact a
  have h2:=s5 a
  have h3:=s6 a
  have h4:=hz (m.src.shape.fr.getD a 0).toNat
  repeat' (first | (with_reducible first | refine V_seq ?_ | refine V_block ?_ | refine V_skip ?_ | refine V_ret ?_ | refine V_exit ?_) | ((with_reducible refine V_cond ?_); simp only [go_sem,simprocAttr]) | ((first | refine V_region (by rw [hn]; rfl) ?_ | refine V_drawn hmix (by rw [hn]; rfl) ?_); intro K hK) | ((first | with_reducible refine evOps_n ?_ | ((with_reducible apply evOps_g); rfl) | with_reducible refine evOpsD_n ?_ | ((with_reducible apply evOpsD_g); rfl)); intro K hK; simp (contextual:=true) only [go_sem,simprocAttr]) | with_reducible refine evOps_nil ?_ | ((with_reducible refine evOpsD_nil ?_ ?_); kernel_rfl) | ((with_reducible refine hK _ ?_); clear hK K) | (with_reducible first | refine And.intro ?_ ?_ | refine nxt_n ?_ | refine nxt_r ?_ | refine nxt_e ?_ | refine blk_n ?_ | refine blk_r ?_ | refine blk_same ?_ | refine blk_other (by decide) ?_ | refine noG_n ?_ | refine noG_r ?_ | refine noG_e ?_ | refine inR_mk ?_ ?_) | (refine fun (hc : (_ : Bool) = _)=>?_; try simp only [hcS] at hc))
  all_goals try (first | (with_reducible assumption) | ((try simp only [Cat.F,Cat.T,Cat.I,Cat.C,Fun.O,Fun.A,Cat.Entry,Int.toNat_natCast] at *); omega))
  have k1:=h1 (by omega)
  have k2:=g5 (m.src.shape.fr.getD a 0).toNat (by omega)
  have k3:=g5 (m.src.shape.to.getD a 0).toNat (by omega)
  have k4:=hact2 a (by omega)
  refine V_loopK (G:={e : Nat // e ≤ (m.src.acts.getD a []).length ∧ ((scan e fun e=>m.bad a e) = none)}) (fun ⟨e,_⟩=>[(29,iv e)]) [0,4,5,16,17,27,28] (fun ⟨e,_⟩=>[]) [] (fun zz=>(m.src.acts.getD a []).length - zz.1) ⟨0,Nat.zero_le _,by rfl⟩ ?_ ?_
  · exact Imp.auto hX (by simp [go_sem,simprocAttr])
  rintro ⟨e,hie,hwe⟩
  simp only [go_sem,simprocAttr]
  have m1:=k1.2 e
  have m2:=k2.2 e
  repeat' (first | (with_reducible first | refine V_seq ?_ | refine V_block ?_ | refine V_skip ?_ | refine V_ret ?_ | refine V_exit ?_) | ((with_reducible refine V_cond ?_); simp only [go_sem,simprocAttr]) | ((first | refine V_region (by rw [hn]; rfl) ?_ | refine V_drawn hmix (by rw [hn]; rfl) ?_); intro K hK) | ((first | with_reducible refine evOps_n ?_ | ((with_reducible apply evOps_g); rfl) | with_reducible refine evOpsD_n ?_ | ((with_reducible apply evOpsD_g); rfl)); intro K hK; simp (contextual:=true) only [go_sem,simprocAttr]) | with_reducible refine evOps_nil ?_ | ((with_reducible refine evOpsD_nil ?_ ?_); kernel_rfl) | ((with_reducible refine hK _ ?_); clear hK K) | (with_reducible first | refine And.intro ?_ ?_ | refine nxt_n ?_ | refine nxt_r ?_ | refine nxt_e ?_ | refine blk_n ?_ | refine blk_r ?_ | refine blk_same ?_ | refine blk_other (by decide) ?_ | refine noG_n ?_ | refine noG_r ?_ | refine noG_e ?_ | refine inR_mk ?_ ?_) | (refine fun (hc : (_ : Bool) = _)=>?_; try simp only [hcS] at hc))
  all_goals try (first | (with_reducible assumption) | ((try simp only [Cat.F,Cat.T,Cat.I,Cat.C,Fun.O,Fun.A,Cat.Entry,Int.toNat_natCast] at *); omega))
  · (first | refine ret_auto ?_ | refine ret_auto' ?_); simp only [go_sem,simprocAttr,Tryz.f104]
    rw [SM.unnat_1 hwa (by omega) hwe (by omega) (SM.bad_t hc)]
  · refine ⟨⟨e + 1,by omega,(by exact scan_next hwe (SM.bad_f hc))⟩,by simp only; omega,Imp.auto hX (by simp only [go_sem,simprocAttr])⟩
  · refine ⟨⟨a + 1,by omega,(by exact scan_next hwa (scan_end hwe hie (by omega)))⟩,by simp only; omega,Imp.auto hX (by simp only [go_sem,simprocAttr])⟩
  · (first | refine ret_auto ?_ | refine ret_auto' ?_); simp only [go_sem,simprocAttr,Tryz.f104]
    rw [SM.unnat_0 (scan_end hwa hia (by omega))]
theorem cal_SetMap_isNatural : Callable Tryz.prog 81:=⟨_,Tryz.func81,rfl,rfl⟩
theorem sp_SetMap_isNatural {m : SM} (hb : SMB m) : Spec Tryz.prog 81 [.bptr [] (smD m)] [] (bv (dec (IsSM m))) []:=by
  refine spec_of_V (E:=TE) 0 Tryz.func81 rfl (by simp [Tryz.f81]) fun X hn hX=>?_
  repeat' (first | (with_reducible first | refine V_seq ?_ | refine V_skip ?_ | refine V_ret ?_) | ((with_reducible refine V_cond ?_); simp only [go_sem,simprocAttr]) | ((refine V_region (by rw [hn]; rfl) ?_); intro K hK) | ((first | with_reducible refine evOps_n ?_ | ((with_reducible apply evOps_g); rfl)); intro K hK; simp (contextual:=true) only [go_sem,simprocAttr]) | with_reducible refine evOps_nil ?_ | ((with_reducible refine hK _ ?_); clear hK K) | (with_reducible first | refine And.intro ?_ ?_ | refine nxt_n ?_ | refine nxt_r ?_ | refine inR_mk ?_ ?_) | ((with_reducible refine evCall_at 103 ?_); refine EvCall.rq (a:=(sp_SetMap_isShape ?_)) (b:=cal_SetMap_isShape) (c:=?_); all_goals try simp only [go_sem,simprocAttr]) | ((with_reducible refine evCall_at 104 ?_); refine EvCall.rq (a:=(sp_SetMap_unnatural ?_)) (b:=cal_SetMap_unnatural) (c:=?_); all_goals try simp only [go_sem,simprocAttr]) | (refine fun (hc : (_ : Bool) = _)=>?_; try simp only [hcS] at hc))
  all_goals try (first | (with_reducible assumption) | ((try simp only [Cat.F,Cat.T,Cat.I,Cat.C,Fun.O,Fun.A,Cat.Entry,Int.toNat_natCast] at *); omega))
  · (first | refine ret_auto ?_ | refine ret_auto' ?_); simp only [go_sem,simprocAttr,Tryz.f81]
    exact bv_f (fun s=>hc s.toSMShape)
  · (first | refine ret_auto ?_ | refine ret_auto' ?_); simp only [go_sem,simprocAttr,Tryz.f81]
    rw [← dec_eq,dec_congr hc.unnat_neg]
theorem cal_sameSets : Callable Tryz.prog 84:=⟨_,Tryz.func84,rfl,rfl⟩
theorem sp_sameSets {f g : SF} (hf : SFB f) (hg : SFB g) : Spec Tryz.prog 84 [.bptr [] (sfD f),.bptr [] (sfD g)] [] (bv (dec (f = g))) []:=by
  refine spec_of_V (E:=TE) 0 Tryz.func84 rfl (by simp [Tryz.f84]) fun X hn hX=>?_
  obtain ⟨a1,a2,a3,a4⟩:=hf
  obtain ⟨b1,b2,b3,b4⟩:=hg
  repeat' (first | (with_reducible first | refine V_seq ?_ | refine V_block ?_ | refine V_skip ?_ | refine V_ret ?_ | refine V_exit ?_) | ((with_reducible refine V_cond ?_); simp only [go_sem,simprocAttr]) | ((first | refine V_region (by rw [hn]; rfl) ?_ | refine V_drawn hmix (by rw [hn]; rfl) ?_); intro K hK) | ((first | with_reducible refine evOps_n ?_ | ((with_reducible apply evOps_g); rfl) | with_reducible refine evOpsD_n ?_ | ((with_reducible apply evOpsD_g); rfl)); intro K hK; simp (contextual:=true) only [go_sem,simprocAttr]) | with_reducible refine evOps_nil ?_ | ((with_reducible refine evOpsD_nil ?_ ?_); kernel_rfl) | ((with_reducible refine hK _ ?_); clear hK K) | (with_reducible first | refine And.intro ?_ ?_ | refine nxt_n ?_ | refine nxt_r ?_ | refine nxt_e ?_ | refine blk_n ?_ | refine blk_r ?_ | refine blk_same ?_ | refine blk_other (by decide) ?_ | refine noG_n ?_ | refine noG_r ?_ | refine noG_e ?_ | refine inR_mk ?_ ?_) | ((with_reducible refine evCall_at 64 ?_); refine EvCall.rq (a:=(sp_sameCategory ?_ ?_)) (b:=cal_sameCategory) (c:=?_); all_goals try simp only [go_sem,simprocAttr]) | ((with_reducible refine evCall_at 89 ?_); refine EvCall.rq (a:=(sp_same ?_ ?_)) (b:=cal_same) (c:=?_); all_goals try simp only [go_sem,simprocAttr]) | (refine fun (hc : (_ : Bool) = _)=>?_; try simp only [hcS] at hc))
  all_goals try (first | (with_reducible assumption) | ((try simp only [Cat.F,Cat.T,Cat.I,Cat.C,Fun.O,Fun.A,Cat.Entry,Int.toNat_natCast] at *); omega))
  all_goals try ((first | refine ret_auto ?_ | refine ret_auto' ?_); simp only [go_sem,simprocAttr,Tryz.f84]; exact bv_f (fun s=>by subst s; first | contradiction | omega))
  refine V_loopK (G:={i : Nat // i ≤ f.acts.length ∧ (f.acts.take i = g.acts.take i)}) (fun ⟨i,_⟩=>[(44,iv i)]) [0,1,43] (fun ⟨i,_⟩=>[]) [] (fun zz=>f.acts.length - zz.1) ⟨0,Nat.zero_le _,by simp⟩ ?_ ?_
  · exact Imp.auto hX (by simp [go_sem,simprocAttr])
  rintro ⟨i,hii,hwi⟩
  simp only [go_sem,simprocAttr]
  have h7:=a4 i
  have h8:=b4 i
  repeat' (first | (with_reducible first | refine V_seq ?_ | refine V_block ?_ | refine V_skip ?_ | refine V_ret ?_ | refine V_exit ?_) | ((with_reducible refine V_cond ?_); simp only [go_sem,simprocAttr]) | ((first | refine V_region (by rw [hn]; rfl) ?_ | refine V_drawn hmix (by rw [hn]; rfl) ?_); intro K hK) | ((first | with_reducible refine evOps_n ?_ | ((with_reducible apply evOps_g); rfl) | with_reducible refine evOpsD_n ?_ | ((with_reducible apply evOpsD_g); rfl)); intro K hK; simp (contextual:=true) only [go_sem,simprocAttr]) | with_reducible refine evOps_nil ?_ | ((with_reducible refine evOpsD_nil ?_ ?_); kernel_rfl) | ((with_reducible refine hK _ ?_); clear hK K) | (with_reducible first | refine And.intro ?_ ?_ | refine nxt_n ?_ | refine nxt_r ?_ | refine nxt_e ?_ | refine blk_n ?_ | refine blk_r ?_ | refine blk_same ?_ | refine blk_other (by decide) ?_ | refine noG_n ?_ | refine noG_r ?_ | refine noG_e ?_ | refine inR_mk ?_ ?_) | ((with_reducible refine evCall_at 89 ?_); refine EvCall.rq (a:=(sp_same ?_ ?_)) (b:=cal_same) (c:=?_); all_goals try simp only [go_sem,simprocAttr]) | (refine fun (hc : (_ : Bool) = _)=>?_; try simp only [hcS] at hc))
  all_goals try (first | (with_reducible assumption) | ((try simp only [Cat.F,Cat.T,Cat.I,Cat.C,Fun.O,Fun.A,Cat.Entry,Int.toNat_natCast] at *); omega))
  · (first | refine ret_auto ?_ | refine ret_auto' ?_); simp only [go_sem,simprocAttr,Tryz.f84]
    exact bv_f (fun s=>by subst s; exact hc rfl)
  · refine ⟨⟨i + 1,by omega,(by exact take_snoc hwi (by omega) (by omega) hc)⟩,by simp only; omega,Imp.auto hX (by simp only [go_sem,simprocAttr])⟩
  · (first | refine ret_auto ?_ | refine ret_auto' ?_); simp only [go_sem,simprocAttr,Tryz.f84]
    exact bv_t (SF.eq (by assumption) (by assumption) (take_end hwi (by omega) (by omega)))
end Go.Eng
