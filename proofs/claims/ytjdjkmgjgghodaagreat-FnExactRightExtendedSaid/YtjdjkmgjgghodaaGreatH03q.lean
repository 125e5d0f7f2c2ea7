/- Natural maps: by the reference; copies of set functors and natural maps. -/
import Derived.Test.YtjdjkmgjgghodaaGreatKmx
import Derived.Test.YtjdjkmgjgghodaaGreatKdx
import Derived.Test.YtjdjkmgjgghodaaGreatKhx
import Derived.Test.YtjdjkmgjgghodaaGreatG11q
import Derived.Test.YtjdjkmgjgghodaaGreatC18q
import Derived.Test.YtjdjkmgjgghodaaGreatH01q
set_option linter.unusedSimpArgs false
set_option linter.unusedVariables false
set_option maxRecDepth 100000
set_option maxHeartbeats 16000000
namespace Go.Eng
open Go Go.Proofs Go.Cats
theorem cal_l19Between : Callable Tryz.prog 96:=⟨_,Tryz.func96,rfl,rfl⟩
theorem sp_l19Between {f g : SF} (hf : SFB f) (hg : SFB g) : Spec Tryz.prog 96 [sfV f,sfV g] [] (bv (dec ((IsSF f ∧ IsSF g) ∧ f.shape = g.shape))) []:=by
  refine spec_of_V (E:=TE) 0 Tryz.func96 rfl (by simp [Tryz.f96]) fun X hn hX=>?_
  have hf1:=hf.shape
  have hg1:=hg.shape
  repeat' (first | (with_reducible first | refine V_seq ?_ | refine V_skip ?_ | refine V_ret ?_) | ((with_reducible refine V_cond ?_); simp only [go_sem,simprocAttr]) | ((refine V_region (by rw [hn]; rfl) ?_); intro K hK) | ((first | with_reducible refine evOps_n ?_ | ((with_reducible apply evOps_g); rfl)); intro K hK; simp (contextual:=true) only [go_sem,simprocAttr]) | with_reducible refine evOps_nil ?_ | ((with_reducible refine hK _ ?_); clear hK K) | (with_reducible first | refine And.intro ?_ ?_ | refine nxt_n ?_ | refine nxt_r ?_ | refine inR_mk ?_ ?_) | ((with_reducible refine evCall_at 82 ?_); refine EvCall.rq (a:=(sp_l19Is ?_)) (b:=cal_l19Is) (c:=?_); all_goals try simp only [go_sem,simprocAttr]) | ((with_reducible refine evCall_at 76 ?_); refine EvCall.rq (a:=(sp_l02Same ?_ ?_)) (b:=cal_l02Same) (c:=?_); all_goals try simp only [go_sem,simprocAttr]) | (refine fun (hc : (_ : Bool) = _)=>?_; try simp only [hcS] at hc))
  all_goals try (first | (with_reducible assumption) | ((try simp only [Cat.F,Cat.T,Cat.I,Cat.C,Fun.O,Fun.A,Cat.Entry,Int.toNat_natCast] at *); omega))
  · (first | refine ret_auto ?_ | refine ret_auto' ?_); simp only [go_sem,simprocAttr,Tryz.f96]
    exact congrArg (fun b=>Sv.v (.bool b)) (dec_congr ⟨fun h=>⟨⟨by assumption,hc⟩,h⟩,fun h=>h.2⟩)
  · (first | refine ret_auto ?_ | refine ret_auto' ?_); simp only [go_sem,simprocAttr,Tryz.f96]
    exact bv_f (fun s=>hc s.1.2)
  · (first | refine ret_auto ?_ | refine ret_auto' ?_); simp only [go_sem,simprocAttr,Tryz.f96]
    exact bv_f (fun s=>hc s.1.1)
theorem cal_l19Parts : Callable Tryz.prog 97:=⟨_,Tryz.func97,rfl,rfl⟩
theorem sp_l19Parts {m : SM} (hb : SMB m) (s1 : IsSF m.src) (s2 : IsSF m.tgt) (hs : m.src.shape = m.tgt.shape) : Spec Tryz.prog 97 [sfV m.src,sfV m.tgt,.bor [] (intss m.parts)] [] (bv (dec (SMFits m))) []:=by
  refine spec_of_V (E:=TE) 0 Tryz.func97 rfl (by simp [Tryz.f97]) fun X hn hX=>?_
  obtain ⟨b1,b2,b3,b4⟩:=hb
  have hz1:=s1.szl
  have hz2:=s2.szl
  have hw2:=s2.szw
  rw [← hs] at hz2
  repeat' (first | (with_reducible first | refine V_seq ?_ | refine V_block ?_ | refine V_skip ?_ | refine V_ret ?_ | refine V_exit ?_) | ((with_reducible refine V_cond ?_); simp only [go_sem,simprocAttr]) | ((first | refine V_region (by rw [hn]; rfl) ?_ | refine V_drawn hmix (by rw [hn]; rfl) ?_); intro K hK) | ((first | with_reducible refine evOps_n ?_ | ((with_reducible apply evOps_g); rfl) | with_reducible refine evOpsD_n ?_ | ((with_reducible apply evOpsD_g); rfl)); intro K hK; simp (contextual:=true) only [go_sem,simprocAttr]) | with_reducible refine evOps_nil ?_ | ((with_reducible refine evOpsD_nil ?_ ?_); kernel_rfl) | ((with_reducible refine hK _ ?_); clear hK K) | (with_reducible first | refine And.intro ?_ ?_ | refine nxt_n ?_ | refine nxt_r ?_ | refine nxt_e ?_ | refine blk_n ?_ | refine blk_r ?_ | refine blk_same ?_ | refine blk_other (by decide) ?_ | refine noG_n ?_ | refine noG_r ?_ | refine noG_e ?_ | refine inR_mk ?_ ?_) | (refine fun (hc : (_ : Bool) = _)=>?_; try simp only [hcS] at hc))
  all_goals try (first | (with_reducible assumption) | ((try simp only [Cat.F,Cat.T,Cat.I,Cat.C,Fun.O,Fun.A,Cat.Entry,Int.toNat_natCast] at *); omega))
  · (first | refine ret_auto ?_ | refine ret_auto' ?_); simp only [go_sem,simprocAttr,Tryz.f97]
    exact bv_f (fun s=>by have:=s.len; omega)
  refine V_loopK (G:={i : Nat // i ≤ m.parts.length ∧ (∀ x,x < i → ((m.parts.getD x []).length : Int) = m.src.sizes.getD x 0 ∧ Within (m.parts.getD x []) (m.tgt.sizes.getD x 0))}) (fun ⟨i,_⟩=>[(7,iv i)]) [2,3,4] (fun ⟨i,_⟩=>[]) [] (fun zz=>m.parts.length - zz.1) ⟨0,Nat.zero_le _,by omega⟩ ?_ ?_
  · exact Imp.auto hX (by simp [go_sem,simprocAttr])
  rintro ⟨i,hii,hwi⟩
  simp only [go_sem,simprocAttr]
  have h1:=b4 i
  have h2:=hw2 i
  repeat' (first | (with_reducible first | refine V_seq ?_ | refine V_block ?_ | refine V_skip ?_ | refine V_ret ?_ | refine V_exit ?_) | ((with_reducible refine V_cond ?_); simp only [go_sem,simprocAttr]) | ((first | refine V_region (by rw [hn]; rfl) ?_ | refine V_drawn hmix (by rw [hn]; rfl) ?_); intro K hK) | ((first | with_reducible refine evOps_n ?_ | ((with_reducible apply evOps_g); rfl) | with_reducible refine evOpsD_n ?_ | ((with_reducible apply evOpsD_g); rfl)); intro K hK; simp (contextual:=true) only [go_sem,simprocAttr]) | with_reducible refine evOps_nil ?_ | ((with_reducible refine evOpsD_nil ?_ ?_); kernel_rfl) | ((with_reducible refine hK _ ?_); clear hK K) | (with_reducible first | refine And.intro ?_ ?_ | refine nxt_n ?_ | refine nxt_r ?_ | refine nxt_e ?_ | refine blk_n ?_ | refine blk_r ?_ | refine blk_same ?_ | refine blk_other (by decide) ?_ | refine noG_n ?_ | refine noG_r ?_ | refine noG_e ?_ | refine inR_mk ?_ ?_) | ((with_reducible refine evCall_at 95 ?_); refine EvCall.rq (a:=(sp_l01Map ?_)) (b:=cal_l01Map) (c:=?_); all_goals try simp only [go_sem,simprocAttr]) | (refine fun (hc : (_ : Bool) = _)=>?_; try simp only [hcS] at hc))
  all_goals try (first | (with_reducible assumption) | ((try simp only [Cat.F,Cat.T,Cat.I,Cat.C,Fun.O,Fun.A,Cat.Entry,Int.toNat_natCast] at *); omega))
  all_goals try ((first | refine ret_auto ?_ | refine ret_auto' ?_); simp only [go_sem,simprocAttr,Tryz.f97]; exact bv_f (fun s=>by have:=s.map i (by omega); first | omega | exact hc this.2))
  · refine ⟨⟨i + 1,by omega,(by exact all_succ hwi ⟨by assumption,hc⟩)⟩,by simp only; omega,Imp.auto hX (by simp only [go_sem,simprocAttr])⟩
  · (first | refine ret_auto ?_ | refine ret_auto' ?_); simp only [go_sem,simprocAttr,Tryz.f97]
    exact bv_t ⟨by omega,fun a ha=>hwi a (by omega)⟩
theorem cal_l19Unnatural : Callable Tryz.prog 98:=⟨_,Tryz.func98,rfl,rfl⟩
theorem sp_l19Unnatural {m : SM} (s : SMShape m) : Spec Tryz.prog 98 [sfV m.src,sfV m.tgt,.bor [] (intss m.parts)] [] (.tup [iv m.unnat.1,iv m.unnat.2]) []:=by
  refine spec_of_V (E:=TE) 0 Tryz.func98 rfl (by simp [Tryz.f98]) fun X hn hX=>?_
  obtain ⟨g1,g2,g3,g4⟩:=s
  obtain ⟨g4,g5⟩:=g4
  have hC:=g1.cat
  have hl:=g1.szl
  have hz:=g1.szw
  have ha:=g1.acl
  have hact:=g1.act
  have hl2:=g2.szl
  have ha2:=g2.acl
  have hact2:=g2.act
  rw [← g3] at hl2 ha2 hact2
  obtain ⟨s1,s2,s3,s4,s5,s6,s7,s8,s9,s10,s11⟩:=hC.toShape
  repeat' (first | (with_reducible first | refine V_seq ?_ | refine V_block ?_ | refine V_skip ?_ | refine V_ret ?_ | refine V_exit ?_) | ((with_reducible refine V_cond ?_); simp only [go_sem,simprocAttr]) | ((first | refine V_region (by rw [hn]; rfl) ?_ | refine V_drawn hmix (by rw [hn]; rfl) ?_); intro K hK) | ((first | with_reducible refine evOps_n ?_ | ((with_reducible apply evOps_g); rfl) | with_reducible refine evOpsD_n ?_ | ((with_reducible apply evOpsD_g); rfl)); intro K hK; simp (contextual:=true) only [go_sem,simprocAttr]) | with_reducible refine evOps_nil ?_ | ((with_reducible refine evOpsD_nil ?_ ?_); kernel_rfl) | ((with_reducible refine hK _ ?_); clear hK K) | (with_reducible first | refine And.intro ?_ ?_ | refine nxt_n ?_ | refine nxt_r ?_ | refine nxt_e ?_ | refine blk_n ?_ | refine blk_r ?_ | refine blk_same ?_ | refine blk_other (by decide) ?_ | refine noG_n ?_ | refine noG_r ?_ | refine noG_e ?_ | refine inR_mk ?_ ?_) | (refine fun (hc : (_ : Bool) = _)=>?_; try simp only [hcS] at hc))
  all_goals try (first | (with_reducible assumption) | ((try simp only [Cat.F,Cat.T,Cat.I,Cat.C,Fun.O,Fun.A,Cat.Entry,Int.toNat_natCast] at *); omega))
  refine V_loopK (G:={a : Nat // a ≤ m.src.shape.fr.length ∧ (scan a m.bada = none)}) (fun ⟨a,_⟩=>[(8,iv a)]) [2,3,4] (fun ⟨a,_⟩=>[]) [] (fun zz=>m.src.shape.fr.length - zz.1) ⟨0,Nat.zero_le _,by rfl⟩ ?_ ?_
  · exact Imp.auto hX (by simp [go_sem,simprocAttr])
  rintro ⟨a,hia,hwa⟩
  simp only [go_sem,simprocAttr]
  have h1:=hact a
  have h2:=s5 a
  have h3:=s6 a
  have h4:=hz (m.src.shape.fr.getD a 0).toNat
  repeat' (first | (with_reducible first | refine V_seq ?_ | refine V_block ?_ | refine V_skip ?_ | refine V_ret ?_ | refine V_exit ?_) | ((with_reducible refine V_cond ?_); simp only [go_sem,simprocAttr]) | ((first | refine V_region (by rw [hn]; rfl) ?_ | refine V_drawn hmix (by rw [hn]; rfl) ?_); intro K hK) | ((first | with_reducible refine evOps_n ?_ | ((with_reducible apply evOps_g); rfl) | with_reducible refine evOpsD_n ?_ | ((with_reducible apply evOpsD_g); rfl)); intro K hK; simp (contextual:=true) only [go_sem,simprocAttr]) | with_reducible refine evOps_nil ?_ | ((with_reducible refine evOpsD_nil ?_ ?_); kernel_rfl) | ((with_reducible refine hK _ ?_); clear hK K) | (with_reducible first | refine And.intro ?_ ?_ | refine nxt_n ?_ | refine nxt_r ?_ | refine nxt_e ?_ | refine blk_n ?_ | refine blk_r ?_ | refine blk_same ?_ | refine blk_other (by decide) ?_ | refine noG_n ?_ | refine noG_r ?_ | refine noG_e ?_ | refine inR_mk ?_ ?_) | (refine fun (hc : (_ : Bool) = _)=>?_; try simp only [hcS] at hc))
  all_goals try (first | (with_reducible assumption) | ((try simp only [Cat.F,Cat.T,Cat.I,Cat.C,Fun.O,Fun.A,Cat.Entry,Int.toNat_natCast] at *); omega))
  have k1:=h1 (by omega)
  have k2:=g5 (m.src.shape.fr.getD a 0).toNat (by omega)
  have k3:=g5 (m.src.shape.to.getD a 0).toNat (by omega)
  have k4:=hact2 a (by omega)
  refine V_loopK (G:={e : Nat // e ≤ (m.src.acts.getD a []).length ∧ ((scan e fun e=>m.bad a e) = none)}) (fun ⟨e,_⟩=>[(11,iv e)]) [2,3,4,8,9,10] (fun ⟨e,_⟩=>[]) [] (fun zz=>(m.src.acts.getD a []).length - zz.1) ⟨0,Nat.zero_le _,by rfl⟩ ?_ ?_
  · exact Imp.auto hX (by simp [go_sem,simprocAttr])
  rintro ⟨e,hie,hwe⟩
  simp only [go_sem,simprocAttr]
  have m1:=k1.2 e
  have m2:=k2.2 e
  repeat' (first | (with_reducible first | refine V_seq ?_ | refine V_block ?_ | refine V_skip ?_ | refine V_ret ?_ | refine V_exit ?_) | ((with_reducible refine V_cond ?_); simp only [go_sem,simprocAttr]) | ((first | refine V_region (by rw [hn]; rfl) ?_ | refine V_drawn hmix (by rw [hn]; rfl) ?_); intro K hK) | ((first | with_reducible refine evOps_n ?_ | ((with_reducible apply evOps_g); rfl) | with_reducible refine evOpsD_n ?_ | ((with_reducible apply evOpsD_g); rfl)); intro K hK; simp (contextual:=true) only [go_sem,simprocAttr]) | with_reducible refine evOps_nil ?_ | ((with_reducible refine evOpsD_nil ?_ ?_); kernel_rfl) | ((with_reducible refine hK _ ?_); clear hK K) | (with_reducible first | refine And.intro ?_ ?_ | refine nxt_n ?_ | refine nxt_r ?_ | refine nxt_e ?_ | refine blk_n ?_ | refine blk_r ?_ | refine blk_same ?_ | refine blk_other (by decide) ?_ | refine noG_n ?_ | refine noG_r ?_ | refine noG_e ?_ | refine inR_mk ?_ ?_) | (refine fun (hc : (_ : Bool) = _)=>?_; try simp only [hcS] at hc))
  all_goals try (first | (with_reducible assumption) | ((try simp only [Cat.F,Cat.T,Cat.I,Cat.C,Fun.O,Fun.A,Cat.Entry,Int.toNat_natCast] at *); omega))
  · (first | refine ret_auto ?_ | refine ret_auto' ?_); simp only [go_sem,simprocAttr,Tryz.f98]
    rw [SM.unnat_1 hwa (by omega) hwe (by omega) (SM.bad_t hc)]
  · refine ⟨⟨e + 1,by omega,(by exact scan_next hwe (SM.bad_f hc))⟩,by simp only; omega,Imp.auto hX (by simp only [go_sem,simprocAttr])⟩
  · refine ⟨⟨a + 1,by omega,(by exact scan_next hwa (scan_end hwe hie (by omega)))⟩,by simp only; omega,Imp.auto hX (by simp only [go_sem,simprocAttr])⟩
  · (first | refine ret_auto ?_ | refine ret_auto' ?_); simp only [go_sem,simprocAttr,Tryz.f98]
    rw [SM.unnat_0 (scan_end hwa hia (by omega))]
theorem cal_l19IsMap : Callable Tryz.prog 75:=⟨_,Tryz.func75,rfl,rfl⟩
theorem sp_l19IsMap {m : SM} (hb : SMB m) : Spec Tryz.prog 75 [smV m] [] (bv (dec (IsSM m))) []:=by
  refine spec_of_V (E:=TE) 0 Tryz.func75 rfl (by simp [Tryz.f75]) fun X hn hX=>?_
  have hb1:=hb.src
  have hb2:=hb.tgt
  repeat' (first | (with_reducible first | refine V_seq ?_ | refine V_skip ?_ | refine V_ret ?_) | ((with_reducible refine V_cond ?_); simp only [go_sem,simprocAttr]) | ((refine V_region (by rw [hn]; rfl) ?_); intro K hK) | ((first | with_reducible refine evOps_n ?_ | ((with_reducible apply evOps_g); rfl)); intro K hK; simp (contextual:=true) only [go_sem,simprocAttr]) | with_reducible refine evOps_nil ?_ | ((with_reducible refine hK _ ?_); clear hK K) | (with_reducible first | refine And.intro ?_ ?_ | refine nxt_n ?_ | refine nxt_r ?_ | refine inR_mk ?_ ?_) | ((with_reducible refine evCall_at 96 ?_); refine EvCall.rq (a:=(sp_l19Between ?_ ?_)) (b:=cal_l19Between) (c:=?_); all_goals try simp only [go_sem,simprocAttr]) | ((with_reducible refine evCall_at 97 ?_); refine EvCall.rq (a:=(sp_l19Parts ?_ ?_ ?_ ?_)) (b:=cal_l19Parts) (c:=?_); all_goals try simp only [go_sem,simprocAttr]) | ((with_reducible refine evCall_at 98 ?_); refine EvCall.rq (a:=(sp_l19Unnatural ?_)) (b:=cal_l19Unnatural) (c:=?_); all_goals try simp only [go_sem,simprocAttr]) | (refine fun (hc : (_ : Bool) = _)=>?_; try simp only [hcS] at hc))
  all_goals try (first | (with_reducible assumption) | ((try simp only [Cat.F,Cat.T,Cat.I,Cat.C,Fun.O,Fun.A,Cat.Entry,Int.toNat_natCast] at *); omega))
  · exact (‹(IsSF m.src ∧ IsSF m.tgt) ∧ m.src.shape = m.tgt.shape›).1.1
  · exact (‹(IsSF m.src ∧ IsSF m.tgt) ∧ m.src.shape = m.tgt.shape›).1.2
  · exact (‹(IsSF m.src ∧ IsSF m.tgt) ∧ m.src.shape = m.tgt.shape›).2
  · (first | refine ret_auto ?_ | refine ret_auto' ?_); simp only [go_sem,simprocAttr,Tryz.f75]
    exact bv_f (fun s=>hc s.fits)
  · exact ⟨(‹(IsSF m.src ∧ IsSF m.tgt) ∧ m.src.shape = m.tgt.shape›).1.1,(‹(IsSF m.src ∧ IsSF m.tgt) ∧ m.src.shape = m.tgt.shape›).1.2,(‹(IsSF m.src ∧ IsSF m.tgt) ∧ m.src.shape = m.tgt.shape›).2,by assumption⟩
  · have hS : SMShape m:=⟨(‹(IsSF m.src ∧ IsSF m.tgt) ∧ m.src.shape = m.tgt.shape›).1.1,(‹(IsSF m.src ∧ IsSF m.tgt) ∧ m.src.shape = m.tgt.shape›).1.2,(‹(IsSF m.src ∧ IsSF m.tgt) ∧ m.src.shape = m.tgt.shape›).2,hc⟩
    (first | refine ret_auto ?_ | refine ret_auto' ?_); simp only [go_sem,simprocAttr,Tryz.f75]
    rw [← dec_eq,dec_congr hS.unnat_neg]
  · (first | refine ret_auto ?_ | refine ret_auto' ?_); simp only [go_sem,simprocAttr,Tryz.f75]
    exact bv_f (fun s=>hc ⟨⟨s.src,s.tgt⟩,s.same⟩)
theorem cal_l19Same : Callable Tryz.prog 55:=⟨_,Tryz.func55,rfl,rfl⟩
theorem sp_l19Same {f g : SF} (hf : SFB f) (hg : SFB g) : Spec Tryz.prog 55 [sfV f,sfV g] [] (bv (dec (f = g))) []:=by
  refine spec_of_V (E:=TE) 0 Tryz.func55 rfl (by simp [Tryz.f55]) fun X hn hX=>?_
  obtain ⟨a1,a2,a3,a4⟩:=hf
  obtain ⟨b1,b2,b3,b4⟩:=hg
  repeat' (first | (with_reducible first | refine V_seq ?_ | refine V_skip ?_ | refine V_ret ?_) | ((with_reducible refine V_cond ?_); simp only [go_sem,simprocAttr]) | ((refine V_region (by rw [hn]; rfl) ?_); intro K hK) | ((first | with_reducible refine evOps_n ?_ | ((with_reducible apply evOps_g); rfl)); intro K hK; simp (contextual:=true) only [go_sem,simprocAttr]) | with_reducible refine evOps_nil ?_ | ((with_reducible refine hK _ ?_); clear hK K) | (with_reducible first | refine And.intro ?_ ?_ | refine nxt_n ?_ | refine nxt_r ?_ | refine inR_mk ?_ ?_) | ((with_reducible refine evCall_at 76 ?_); refine EvCall.rq (a:=(sp_l02Same ?_ ?_)) (b:=cal_l02Same) (c:=?_); all_goals try simp only [go_sem,simprocAttr]) | ((with_reducible refine evCall_at 80 ?_); refine EvCall.rq (a:=(sp_l01Same ?_ ?_)) (b:=cal_l01Same) (c:=?_); all_goals try simp only [go_sem,simprocAttr]) | ((with_reducible refine evCall_at 83 ?_); refine EvCall.rq (a:=(sp_l01Same2 ?_ ?_ ?_ ?_)) (b:=cal_l01Same2) (c:=?_); all_goals try simp only [go_sem,simprocAttr]) | (refine fun (hc : (_ : Bool) = _)=>?_; try simp only [hcS] at hc))
  all_goals try (first | (with_reducible assumption) | ((try simp only [Cat.F,Cat.T,Cat.I,Cat.C,Fun.O,Fun.A,Cat.Entry,Int.toNat_natCast] at *); omega))
  · (first | refine ret_auto ?_ | refine ret_auto' ?_); simp only [go_sem,simprocAttr,Tryz.f55]
    exact congrArg (fun b=>Sv.v (.bool b)) (dec_congr ⟨fun h=>SF.eq (by assumption) hc h,fun e=>by rw [e]⟩)
  all_goals ((first | refine ret_auto ?_ | refine ret_auto' ?_); simp only [go_sem,simprocAttr,Tryz.f55]; exact bv_f (fun e=>hc (by rw [e])))
theorem cal_l19Own : Callable Tryz.prog 58:=⟨_,Tryz.func58,rfl,rfl⟩
theorem sp_l19Own {f : SF} (hb : SFB f) : Spec Tryz.prog 58 [sfV f] [] (.agg [iv f.shape.ob,.sl 0,.sl 1,.sl 2,.sl 3,.sl 4,.sl 5]) [(0,⟨1,.arr (ints f.shape.fr)⟩),(1,⟨1,.arr (ints f.shape.to)⟩),(2,⟨1,.arr (ints f.shape.id)⟩),(3,⟨1,.arr (intss f.shape.co)⟩),(4,⟨1,.arr (ints f.sizes)⟩),(5,⟨1,.arr (intss f.acts)⟩)]:=by
  refine spec_of_V (E:=TE) 0 Tryz.func58 rfl (by simp [Tryz.f58]) fun X hn hX=>?_
  obtain ⟨b1,b2,b3,b4⟩:=hb
  repeat' (first | (with_reducible first | refine V_seq ?_ | refine V_skip ?_ | refine V_ret ?_) | ((with_reducible refine V_cond ?_); simp only [go_sem,simprocAttr]) | ((first | refine V_region (by rw [hn]; rfl) ?_ | refine V_drawn hmix (by rw [hn]; rfl) ?_); intro K hK) | ((first | with_reducible refine evOps_n ?_ | ((with_reducible apply evOps_g); rfl) | with_reducible refine evOpsD_n ?_ | ((with_reducible apply evOpsD_g); rfl)); intro K hK; simp (contextual:=true) only [go_sem,simprocAttr]) | with_reducible refine evOps_nil ?_ | ((with_reducible refine evOpsD_nil ?_ ?_); kernel_rfl) | ((with_reducible refine hK _ ?_); clear hK K) | (with_reducible first | refine And.intro ?_ ?_ | refine nxt_n ?_ | refine nxt_r ?_ | refine inR_mk ?_ ?_) | ((with_reducible refine evCall_at 60 ?_); refine EvCall.rq (a:=(sp_l02Own ?_)) (b:=cal_l02Own) (c:=?_); all_goals try simp only [go_sem,simprocAttr]) | ((with_reducible refine evCall_at 61 ?_); refine EvCall.rq (a:=(sp_l01Own ?_)) (b:=cal_l01Own) (c:=?_); all_goals try simp only [go_sem,simprocAttr]) | ((with_reducible refine evCall_at 59 ?_); refine EvCall.rq (a:=(sp_l01Own2 ?_ ?_)) (b:=cal_l01Own2) (c:=?_); all_goals try simp only [go_sem,simprocAttr]) | (refine fun (hc : (_ : Bool) = _)=>?_; try simp only [hcS] at hc))
  all_goals try (first | (with_reducible assumption) | ((try simp only [Cat.F,Cat.T,Cat.I,Cat.C,Fun.O,Fun.A,Cat.Entry,Int.toNat_natCast] at *); omega))
  (first | refine ret_auto ?_ | refine ret_auto' ?_); simp only [go_sem,simprocAttr,Tryz.f58]
theorem cal_l19Make : Callable Tryz.prog 29:=⟨_,Tryz.func29,rfl,rfl⟩
theorem sp_l19Make {f g : SF} {p : List (List Int)} (hf : SFB f) (hg : SFB g) (hp : p.length ≤ 1048576) (hr : ∀ i,i < p.length → (p.getD i []).length ≤ 1048576) : Spec Tryz.prog 29 [sfV f,sfV g,.bor [] (intss p)] [] (.agg [iv f.shape.ob,.sl 0,.sl 1,.sl 2,.sl 3,.sl 4,.sl 5,iv g.shape.ob,.sl 6,.sl 7,.sl 8,.sl 9,.sl 10,.sl 11,.sl 12]) [(0,⟨1,.arr (ints f.shape.fr)⟩),(1,⟨1,.arr (ints f.shape.to)⟩),(2,⟨1,.arr (ints f.shape.id)⟩),(3,⟨1,.arr (intss f.shape.co)⟩),(4,⟨1,.arr (ints f.sizes)⟩),(5,⟨1,.arr (intss f.acts)⟩),(6,⟨1,.arr (ints g.shape.fr)⟩),(7,⟨1,.arr (ints g.shape.to)⟩),(8,⟨1,.arr (ints g.shape.id)⟩),(9,⟨1,.arr (intss g.shape.co)⟩),(10,⟨1,.arr (ints g.sizes)⟩),(11,⟨1,.arr (intss g.acts)⟩),(12,⟨1,.arr (intss p)⟩)]:=by
  refine spec_of_V (E:=TE) 0 Tryz.func29 rfl (by simp [Tryz.f29]) fun X hn hX=>?_
  repeat' (first | (with_reducible first | refine V_seq ?_ | refine V_skip ?_ | refine V_ret ?_) | ((with_reducible refine V_cond ?_); simp only [go_sem,simprocAttr]) | ((first | refine V_region (by rw [hn]; rfl) ?_ | refine V_drawn hmix (by rw [hn]; rfl) ?_); intro K hK) | ((first | with_reducible refine evOps_n ?_ | ((with_reducible apply evOps_g); rfl) | with_reducible refine evOpsD_n ?_ | ((with_reducible apply evOpsD_g); rfl)); intro K hK; simp (contextual:=true) only [go_sem,simprocAttr]) | with_reducible refine evOps_nil ?_ | ((with_reducible refine evOpsD_nil ?_ ?_); kernel_rfl) | ((with_reducible refine hK _ ?_); clear hK K) | (with_reducible first | refine And.intro ?_ ?_ | refine nxt_n ?_ | refine nxt_r ?_ | refine inR_mk ?_ ?_) | ((with_reducible refine evCall_at 58 ?_); refine EvCall.rq (a:=(sp_l19Own ?_)) (b:=cal_l19Own) (c:=?_); all_goals try simp only [go_sem,simprocAttr]) | ((with_reducible refine evCall_at 59 ?_); refine EvCall.rq (a:=(sp_l01Own2 ?_ ?_)) (b:=cal_l01Own2) (c:=?_); all_goals try simp only [go_sem,simprocAttr]) | (refine fun (hc : (_ : Bool) = _)=>?_; try simp only [hcS] at hc))
  all_goals try (first | (with_reducible assumption) | ((try simp only [Cat.F,Cat.T,Cat.I,Cat.C,Fun.O,Fun.A,Cat.Entry,Int.toNat_natCast] at *); omega))
  (first | refine ret_auto ?_ | refine ret_auto' ?_); simp only [go_sem,simprocAttr,Tryz.f29]
theorem cal_SetFunctor_copy : Callable Tryz.prog 70:=⟨_,Tryz.func70,rfl,rfl⟩
theorem sp_SetFunctor_copy {f : SF} (hb : SFB f) : Spec Tryz.prog 70 [.bptr [] (sfD f)] [] (.agg [iv f.shape.ob,.sl 0,.sl 1,.sl 2,.sl 3,.sl 4,.sl 5]) [(0,⟨1,.arr (ints f.shape.fr)⟩),(1,⟨1,.arr (ints f.shape.to)⟩),(2,⟨1,.arr (ints f.shape.id)⟩),(3,⟨1,.arr (intss f.shape.co)⟩),(4,⟨1,.arr (ints f.sizes)⟩),(5,⟨1,.arr (intss f.acts)⟩)]:=by
  refine spec_of_V (E:=TE) 0 Tryz.func70 rfl (by simp [Tryz.f70]) fun X hn hX=>?_
  obtain ⟨b1,b2,b3,b4⟩:=hb
  repeat' (first | (with_reducible first | refine V_seq ?_ | refine V_skip ?_ | refine V_ret ?_) | ((with_reducible refine V_cond ?_); simp only [go_sem,simprocAttr]) | ((first | refine V_region (by rw [hn]; rfl) ?_ | refine V_drawn hmix (by rw [hn]; rfl) ?_); intro K hK) | ((first | with_reducible refine evOps_n ?_ | ((with_reducible apply evOps_g); rfl) | with_reducible refine evOpsD_n ?_ | ((with_reducible apply evOpsD_g); rfl)); intro K hK; simp (contextual:=true) only [go_sem,simprocAttr]) | with_reducible refine evOps_nil ?_ | ((with_reducible refine evOpsD_nil ?_ ?_); kernel_rfl) | ((with_reducible refine hK _ ?_); clear hK K) | (with_reducible first | refine And.intro ?_ ?_ | refine nxt_n ?_ | refine nxt_r ?_ | refine inR_mk ?_ ?_) | ((with_reducible refine evCall_at 65 ?_); refine EvCall.rq (a:=(sp_Category_copy ?_)) (b:=cal_Category_copy) (c:=?_); all_goals try simp only [go_sem,simprocAttr]) | ((with_reducible refine evCall_at 69 ?_); refine EvCall.rq (a:=(sp_clone ?_)) (b:=cal_clone) (c:=?_); all_goals try simp only [go_sem,simprocAttr]) | ((with_reducible refine evCall_at 71 ?_); refine EvCall.rq (a:=(sp_clones ?_ ?_)) (b:=cal_clones) (c:=?_); all_goals try simp only [go_sem,simprocAttr]) | (refine fun (hc : (_ : Bool) = _)=>?_; try simp only [hcS] at hc))
  all_goals try (first | (with_reducible assumption) | ((try simp only [Cat.F,Cat.T,Cat.I,Cat.C,Fun.O,Fun.A,Cat.Entry,Int.toNat_natCast] at *); omega))
  (first | refine ret_auto ?_ | refine ret_auto' ?_); simp only [go_sem,simprocAttr,Tryz.f70]
theorem cal_setMap : Callable Tryz.prog 40:=⟨_,Tryz.func40,rfl,rfl⟩
theorem sp_setMap {f g : SF} {p : List (List Int)} (hf : SFB f) (hg : SFB g) (hp : p.length ≤ 1048576) (hr : ∀ i,i < p.length → (p.getD i []).length ≤ 1048576) : Spec Tryz.prog 40 [.bptr [] (sfD f),.bptr [] (sfD g),.bor [] (intss p)] [] (.agg [iv f.shape.ob,.sl 0,.sl 1,.sl 2,.sl 3,.sl 4,.sl 5,iv g.shape.ob,.sl 6,.sl 7,.sl 8,.sl 9,.sl 10,.sl 11,.sl 12]) [(0,⟨1,.arr (ints f.shape.fr)⟩),(1,⟨1,.arr (ints f.shape.to)⟩),(2,⟨1,.arr (ints f.shape.id)⟩),(3,⟨1,.arr (intss f.shape.co)⟩),(4,⟨1,.arr (ints f.sizes)⟩),(5,⟨1,.arr (intss f.acts)⟩),(6,⟨1,.arr (ints g.shape.fr)⟩),(7,⟨1,.arr (ints g.shape.to)⟩),(8,⟨1,.arr (ints g.shape.id)⟩),(9,⟨1,.arr (intss g.shape.co)⟩),(10,⟨1,.arr (ints g.sizes)⟩),(11,⟨1,.arr (intss g.acts)⟩),(12,⟨1,.arr (intss p)⟩)]:=by
  refine spec_of_V (E:=TE) 0 Tryz.func40 rfl (by simp [Tryz.f40]) fun X hn hX=>?_
  repeat' (first | (with_reducible first | refine V_seq ?_ | refine V_skip ?_ | refine V_ret ?_) | ((with_reducible refine V_cond ?_); simp only [go_sem,simprocAttr]) | ((refine V_region (by rw [hn]; rfl) ?_); intro K hK) | ((first | with_reducible refine evOps_n ?_ | ((with_reducible apply evOps_g); rfl)); intro K hK; simp (contextual:=true) only [go_sem,simprocAttr]) | with_reducible refine evOps_nil ?_ | ((with_reducible refine hK _ ?_); clear hK K) | (with_reducible first | refine And.intro ?_ ?_ | refine nxt_n ?_ | refine nxt_r ?_ | refine inR_mk ?_ ?_) | ((with_reducible refine evCall_at 70 ?_); refine EvCall.rq (a:=(sp_SetFunctor_copy ?_)) (b:=cal_SetFunctor_copy) (c:=?_); all_goals try simp only [go_sem,simprocAttr]) | ((with_reducible refine evCall_at 71 ?_); refine EvCall.rq (a:=(sp_clones ?_ ?_)) (b:=cal_clones) (c:=?_); all_goals try simp only [go_sem,simprocAttr]) | (refine fun (hc : (_ : Bool) = _)=>?_; try simp only [hcS] at hc))
  all_goals try (first | (with_reducible assumption) | ((try simp only [Cat.F,Cat.T,Cat.I,Cat.C,Fun.O,Fun.A,Cat.Entry,Int.toNat_natCast] at *); omega))
  (first | refine ret_auto ?_ | refine ret_auto' ?_); simp only [go_sem,simprocAttr,Tryz.f40]
end Go.Eng
