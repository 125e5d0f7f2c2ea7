/- The law's own functions on natural maps: the door, copies, comparisons, marks. -/
import Derived.Test.YtjdjkmgjgghodaaGreatKdx
import Derived.Test.YtjdjkmgjgghodaaGreatD01q
import Derived.Test.YtjdjkmgjgghodaaGreatH03q
import Derived.Test.YtjdjkmgjgghodaaGreatA16q
set_option linter.unusedSimpArgs false
set_option linter.unusedVariables false
set_option maxRecDepth 100000
set_option maxHeartbeats 16000000
namespace Go.Eng
open Go Go.Proofs Go.Cats Go.ChangeShapes
structure SMT (m : SM) : Prop where
  src : SFT m.src
  tgt : SFT m.tgt
  bpa : (m.parts.length : Int) ≤ 9223372036854775807
  row : ∀ a,a < m.parts.length → ((m.parts.getD a []).length : Int) ≤ 9223372036854775807
  parts : ∀ r ∈ m.parts,∀ n ∈ r,In64 n
section
variable {H : Type} {enc : TypeId × Value → H} {w : World} {held : Bool} {cn : Nat → Cn} {rs : Nat → Rs}
theorem rd_sm {fuel : Nat} {cs : List Value} {x : DataW H × List MemPlace} (h : DataW.trod enc Tryz.prog w 0 (fun _=>true) held fuel 51 cs = some x) :
    ∃ f,SMT f ∧ ∀ cn rs,Sv.okL w (Old w) cn rs (smS [] f) cs:=by
  obtain ⟨hl,m,hf⟩:=fld Tryz.underlying51 h
  have h15 : Tryz.prog.cellsOf 51 = 15:=by kernel_rfl
  have h7 : Tryz.prog.cellsOf 29 = 7:=by kernel_rfl
  have c1 : Tryz.prog.cellsOf 2 = 1:=by kernel_rfl
  have c2 : Tryz.prog.cellsOf 22 = 1:=by kernel_rfl
  have c3 : Tryz.prog.cellsOf 23 = 1:=by kernel_rfl
  rw [h15] at hl
  obtain ⟨y0,g0⟩:=hf 0 29 0 rfl
  obtain ⟨y1,g1⟩:=hf 1 29 7 rfl
  obtain ⟨y2,g2⟩:=hf 2 23 14 rfl
  rw [h7] at g0 g1; rw [c3] at g2
  obtain ⟨a,ha,ka⟩:=rd_sf g0
  obtain ⟨b,hb,kb⟩:=rd_sf g1
  obtain ⟨u4,l4,k4,o4,r4,b4,b5,e4⟩:=rd_intss Tryz.underlying23 Tryz.underlying22 c2 Tryz.underlying2 c1 g2
  refine ⟨⟨a,b,l4⟩,⟨ha,hb,b4,b5,e4⟩,fun cn rs=>?_⟩
  have q : cs = (cs.drop 0).take 7 ++ ((cs.drop 7).take 7 ++ ([u4] ++ [])):=by
    rw [← k4]
    have q0:=dropTake cs 0 7
    have q1:=dropTake cs 7 7
    have q2:=dropTake cs 14 1
    have q3 : cs.drop 15 = []:=List.drop_eq_nil_of_le (by omega)
    simp only [Nat.zero_add,Nat.reduceAdd] at q0 q1 q2
    rw [q3] at q2
    rw [← q2,← q1,← q0,List.drop_zero]
  rw [q]
  exact Sv.okL.append (l:=sfS [] a) (ka cn rs) (Sv.okL.append (l:=sfS [] b) (kb cn rs) (Sv.okL.append (l:=[_]) (okL_bor o4 r4) (by simp [Sv.okL])))
end
theorem SM.same {f g : SM} (h1 : f.src = g.src) (h2 : f.tgt = g.tgt) (h3 : f.parts = g.parts) : f = g:=by cases f; cases g; simp_all
theorem cal_toSetMap : Callable Tryz.prog 21:=⟨_,Tryz.func21,rfl,rfl⟩
theorem sp_toSetMap {m : SM} (hb : SMB m) : Spec Tryz.prog 21 [smV m] [] (.agg [iv m.src.shape.ob,.sl 0,.sl 1,.sl 2,.sl 3,.sl 4,.sl 5,iv m.tgt.shape.ob,.sl 6,.sl 7,.sl 8,.sl 9,.sl 10,.sl 11,.sl 12]) [(0,⟨1,.arr (ints m.src.shape.fr)⟩),(1,⟨1,.arr (ints m.src.shape.to)⟩),(2,⟨1,.arr (ints m.src.shape.id)⟩),(3,⟨1,.arr (intss m.src.shape.co)⟩),(4,⟨1,.arr (ints m.src.sizes)⟩),(5,⟨1,.arr (intss m.src.acts)⟩),(6,⟨1,.arr (ints m.tgt.shape.fr)⟩),(7,⟨1,.arr (ints m.tgt.shape.to)⟩),(8,⟨1,.arr (ints m.tgt.shape.id)⟩),(9,⟨1,.arr (intss m.tgt.shape.co)⟩),(10,⟨1,.arr (ints m.tgt.sizes)⟩),(11,⟨1,.arr (intss m.tgt.acts)⟩),(12,⟨1,.arr (intss m.parts)⟩)]:=by
  refine spec_of_V (E:=TE) 0 Tryz.func21 rfl (by simp [Tryz.f21]) fun X hn hX=>?_
  obtain ⟨b1,b2,b3,b4⟩:=hb
  repeat' (first | (with_reducible first | refine V_seq ?_ | refine V_skip ?_ | refine V_ret ?_) | ((with_reducible refine V_cond ?_); simp only [go_sem,simprocAttr]) | ((refine V_region (by rw [hn]; rfl) ?_); intro K hK) | ((first | with_reducible refine evOps_n ?_ | ((with_reducible apply evOps_g); rfl)); intro K hK; simp (contextual:=true) only [go_sem,simprocAttr]) | with_reducible refine evOps_nil ?_ | ((with_reducible refine hK _ ?_); clear hK K) | (with_reducible first | refine And.intro ?_ ?_ | refine nxt_n ?_ | refine nxt_r ?_ | refine inR_mk ?_ ?_) | ((with_reducible refine evCall_at 10 ?_); refine EvCall.rq (a:=(sp_toSetFunctor ?_)) (b:=cal_toSetFunctor) (c:=?_); all_goals try simp only [go_sem,simprocAttr]) | ((with_reducible refine evCall_at 34 ?_); refine EvCall.rq (a:=(sp_toInt64SS ?_ ?_)) (b:=cal_toInt64SS) (c:=?_); all_goals try simp only [go_sem,simprocAttr]) | (refine fun (hc : (_ : Bool) = _)=>?_; try simp only [hcS] at hc))
  all_goals try (first | (with_reducible assumption) | ((try simp only [Cat.F,Cat.T,Cat.I,Cat.C,Fun.O,Fun.A,Cat.Entry,Int.toNat_natCast] at *); omega))
  (first | refine ret_auto ?_ | refine ret_auto' ?_); simp only [go_sem,simprocAttr,Tryz.f21]
theorem cal_eqSetMap : Callable Tryz.prog 12:=⟨_,Tryz.func12,rfl,rfl⟩
theorem sp_eqSetMap {f g : SM} (hf : SMB f) (hg : SMB g) : Spec Tryz.prog 12 [smV f,smV g] [] (bv (dec (f = g))) []:=by
  refine spec_of_V (E:=TE) 0 Tryz.func12 rfl (by simp [Tryz.f12]) fun X hn hX=>?_
  obtain ⟨a1,a2,a3,a4⟩:=hf
  obtain ⟨b1,b2,b3,b4⟩:=hg
  repeat' (first | (with_reducible first | refine V_seq ?_ | refine V_skip ?_ | refine V_ret ?_) | ((with_reducible refine V_cond ?_); simp only [go_sem,simprocAttr]) | ((refine V_region (by rw [hn]; rfl) ?_); intro K hK) | ((first | with_reducible refine evOps_n ?_ | ((with_reducible apply evOps_g); rfl)); intro K hK; simp (contextual:=true) only [go_sem,simprocAttr]) | with_reducible refine evOps_nil ?_ | ((with_reducible refine hK _ ?_); clear hK K) | (with_reducible first | refine And.intro ?_ ?_ | refine nxt_n ?_ | refine nxt_r ?_ | refine inR_mk ?_ ?_) | ((with_reducible refine evCall_at 14 ?_); refine EvCall.rq (a:=(sp_eqSetFunctor ?_ ?_)) (b:=cal_eqSetFunctor) (c:=?_); all_goals try simp only [go_sem,simprocAttr]) | ((with_reducible refine evCall_at 41 ?_); refine EvCall.rq (a:=(sp_eqInt64SS ?_ ?_ ?_ ?_)) (b:=cal_eqInt64SS) (c:=?_); all_goals try simp only [go_sem,simprocAttr]) | (refine fun (hc : (_ : Bool) = _)=>?_; try simp only [hcS] at hc))
  all_goals try (first | (with_reducible assumption) | ((try simp only [Cat.F,Cat.T,Cat.I,Cat.C,Fun.O,Fun.A,Cat.Entry,Int.toNat_natCast] at *); omega))
  all_goals try ((first | refine ret_auto ?_ | refine ret_auto' ?_); simp only [go_sem,simprocAttr,Tryz.f12]; exact bv_f (fun s=>by subst s; contradiction))
  (first | refine ret_auto ?_ | refine ret_auto' ?_); simp only [go_sem,simprocAttr,Tryz.f12]
  exact bv_t (SM.same (by assumption) (by assumption) (by assumption))
def smSz (m : SM) : Nat:=sfSz m.src + sfSz m.tgt + (m.parts.length + sumLen m.parts)
structure SML (m : SM) : Prop where
  src : SFL m.src
  tgt : SFL m.tgt
  parts : (m.parts.length : Int) ≤ 9223372036854775807
  row : ∀ a,a < m.parts.length → ((m.parts.getD a []).length : Int) ≤ 9223372036854775807
theorem cal_szSetMap : Callable Tryz.prog 19:=⟨_,Tryz.func19,rfl,rfl⟩
theorem sp_szSetMap_yes {m : SM} {k : Int} (h : (smSz m : Int) ≤ k) (hk : k ≤ 9223372036854775807) : Spec Tryz.prog 19 [smV m,iv k] [] (iv (k - smSz m)) []:=by
  unfold smSz at h ⊢
  refine spec_of_V (E:=TE) 0 Tryz.func19 rfl (by simp [Tryz.f19]) fun X hn hX=>?_
  repeat' (first | (with_reducible first | refine V_seq ?_ | refine V_skip ?_ | refine V_ret ?_) | ((with_reducible refine V_cond ?_); simp only [go_sem,simprocAttr]) | ((refine V_region (by rw [hn]; rfl) ?_); intro K hK) | ((first | with_reducible refine evOps_n ?_ | ((with_reducible apply evOps_g); rfl)); intro K hK; simp (contextual:=true) only [go_sem,simprocAttr]) | with_reducible refine evOps_nil ?_ | ((with_reducible refine hK _ ?_); clear hK K) | (with_reducible first | refine And.intro ?_ ?_ | refine nxt_n ?_ | refine nxt_r ?_ | refine inR_mk ?_ ?_) | ((with_reducible refine evCall_at 7 ?_); refine EvCall.rq (a:=(sp_szSetFunctor_yes (by first | omega | assumption | rfl | exact (by assumption : SMB _).src | exact (by assumption : SMB _).tgt) (by first | omega | assumption | rfl | exact (by assumption : SMB _).src | exact (by assumption : SMB _).tgt))) (b:=cal_szSetFunctor) (c:=?_); all_goals try simp only [go_sem,simprocAttr]) | ((with_reducible refine evCall_at 27 ?_); refine EvCall.rq (a:=(sp_szInt64SS_ok (by first | omega | assumption | rfl | exact (by assumption : SMB _).src | exact (by assumption : SMB _).tgt) (by first | omega | assumption | rfl | exact (by assumption : SMB _).src | exact (by assumption : SMB _).tgt))) (b:=cal_szInt64SS) (c:=?_); all_goals try simp only [go_sem,simprocAttr]) | (refine fun (hc : (_ : Bool) = _)=>?_; try simp only [hcS] at hc))
  all_goals try (first | (with_reducible assumption) | ((try simp only [Cat.F,Cat.T,Cat.I,Cat.C,Fun.O,Fun.A,Cat.Entry,Int.toNat_natCast] at *); omega))
  (first | refine ret_auto ?_ | refine ret_auto' ?_); simp only [go_sem,simprocAttr,Tryz.f19]
  exact iv_eq (by omega)
theorem sp_szSetMap_no {m : SM} {k : Int} (h : k < (smSz m : Int)) (h0 : 0 ≤ k) (hk : k ≤ 9223372036854775807) (hm : SML m) : Spec Tryz.prog 19 [smV m,iv k] [] (iv (-1)) []:=by
  unfold smSz at h
  obtain ⟨l1,l2,l3,l4⟩:=hm
  refine spec_of_V (E:=TE) 0 Tryz.func19 rfl (by simp [Tryz.f19]) fun X hn hX=>?_
  by_cases h1 : (sfSz m.src : Int) ≤ k
  · by_cases h2 : (sfSz m.src + sfSz m.tgt : Int) ≤ k
    · repeat' (first | (with_reducible first | refine V_seq ?_ | refine V_skip ?_ | refine V_ret ?_) | ((with_reducible refine V_cond ?_); simp only [go_sem,simprocAttr]) | ((refine V_region (by rw [hn]; rfl) ?_); intro K hK) | ((first | with_reducible refine evOps_n ?_ | ((with_reducible apply evOps_g); rfl)); intro K hK; simp (contextual:=true) only [go_sem,simprocAttr]) | with_reducible refine evOps_nil ?_ | ((with_reducible refine hK _ ?_); clear hK K) | (with_reducible first | refine And.intro ?_ ?_ | refine nxt_n ?_ | refine nxt_r ?_ | refine inR_mk ?_ ?_) | ((with_reducible refine evCall_at 7 ?_); refine EvCall.rq (a:=(sp_szSetFunctor_yes (by first | omega | assumption | rfl | exact (by assumption : SMB _).src | exact (by assumption : SMB _).tgt) (by first | omega | assumption | rfl | exact (by assumption : SMB _).src | exact (by assumption : SMB _).tgt))) (b:=cal_szSetFunctor) (c:=?_); all_goals try simp only [go_sem,simprocAttr]) | ((with_reducible refine evCall_at 27 ?_); refine EvCall.rq (a:=(sp_szInt64SS_no (by first | omega | assumption | rfl | exact (by assumption : SMB _).src | exact (by assumption : SMB _).tgt) (by first | omega | assumption | rfl | exact (by assumption : SMB _).src | exact (by assumption : SMB _).tgt) (by first | omega | assumption | rfl | exact (by assumption : SMB _).src | exact (by assumption : SMB _).tgt) (by first | omega | assumption | rfl | exact (by assumption : SMB _).src | exact (by assumption : SMB _).tgt) (by first | omega | assumption | rfl | exact (by assumption : SMB _).src | exact (by assumption : SMB _).tgt))) (b:=cal_szInt64SS) (c:=?_); all_goals try simp only [go_sem,simprocAttr]) | (refine fun (hc : (_ : Bool) = _)=>?_; try simp only [hcS] at hc))
      all_goals try (first | (with_reducible assumption) | ((try simp only [Cat.F,Cat.T,Cat.I,Cat.C,Fun.O,Fun.A,Cat.Entry,Int.toNat_natCast] at *); omega))
      all_goals ((first | refine ret_auto ?_ | refine ret_auto' ?_); simp only [go_sem,simprocAttr,Tryz.f19])
    · repeat' (first | (with_reducible first | refine V_seq ?_ | refine V_skip ?_ | refine V_ret ?_) | ((with_reducible refine V_cond ?_); simp only [go_sem,simprocAttr]) | ((refine V_region (by rw [hn]; rfl) ?_); intro K hK) | ((first | with_reducible refine evOps_n ?_ | ((with_reducible apply evOps_g); rfl)); intro K hK; simp (contextual:=true) only [go_sem,simprocAttr]) | with_reducible refine evOps_nil ?_ | ((with_reducible refine hK _ ?_); clear hK K) | (with_reducible first | refine And.intro ?_ ?_ | refine nxt_n ?_ | refine nxt_r ?_ | refine inR_mk ?_ ?_) | ((with_reducible refine evCall_at 7 ?_); refine EvCall.rq (a:=(sp_szSetFunctor_yes (by first | omega | assumption | rfl | exact (by assumption : SMB _).src | exact (by assumption : SMB _).tgt) (by first | omega | assumption | rfl | exact (by assumption : SMB _).src | exact (by assumption : SMB _).tgt))) (b:=cal_szSetFunctor) (c:=?_); all_goals try simp only [go_sem,simprocAttr]) | ((with_reducible refine evCall_at 7 ?_); refine EvCall.rq (a:=(sp_szSetFunctor_no (by first | omega | assumption | rfl | exact (by assumption : SMB _).src | exact (by assumption : SMB _).tgt) (by first | omega | assumption | rfl | exact (by assumption : SMB _).src | exact (by assumption : SMB _).tgt) (by first | omega | assumption | rfl | exact (by assumption : SMB _).src | exact (by assumption : SMB _).tgt) (by first | omega | assumption | rfl | exact (by assumption : SMB _).src | exact (by assumption : SMB _).tgt))) (b:=cal_szSetFunctor) (c:=?_); all_goals try simp only [go_sem,simprocAttr]) | (refine fun (hc : (_ : Bool) = _)=>?_; try simp only [hcS] at hc))
      all_goals try (first | (with_reducible assumption) | ((try simp only [Cat.F,Cat.T,Cat.I,Cat.C,Fun.O,Fun.A,Cat.Entry,Int.toNat_natCast] at *); omega))
      all_goals ((first | refine ret_auto ?_ | refine ret_auto' ?_); simp only [go_sem,simprocAttr,Tryz.f19])
  · repeat' (first | (with_reducible first | refine V_seq ?_ | refine V_skip ?_ | refine V_ret ?_) | ((with_reducible refine V_cond ?_); simp only [go_sem,simprocAttr]) | ((refine V_region (by rw [hn]; rfl) ?_); intro K hK) | ((first | with_reducible refine evOps_n ?_ | ((with_reducible apply evOps_g); rfl)); intro K hK; simp (contextual:=true) only [go_sem,simprocAttr]) | with_reducible refine evOps_nil ?_ | ((with_reducible refine hK _ ?_); clear hK K) | (with_reducible first | refine And.intro ?_ ?_ | refine nxt_n ?_ | refine nxt_r ?_ | refine inR_mk ?_ ?_) | ((with_reducible refine evCall_at 7 ?_); refine EvCall.rq (a:=(sp_szSetFunctor_no (by first | omega | assumption | rfl | exact (by assumption : SMB _).src | exact (by assumption : SMB _).tgt) (by first | omega | assumption | rfl | exact (by assumption : SMB _).src | exact (by assumption : SMB _).tgt) (by first | omega | assumption | rfl | exact (by assumption : SMB _).src | exact (by assumption : SMB _).tgt) (by first | omega | assumption | rfl | exact (by assumption : SMB _).src | exact (by assumption : SMB _).tgt))) (b:=cal_szSetFunctor) (c:=?_); all_goals try simp only [go_sem,simprocAttr]) | (refine fun (hc : (_ : Bool) = _)=>?_; try simp only [hcS] at hc))
    all_goals try (first | (with_reducible assumption) | ((try simp only [Cat.F,Cat.T,Cat.I,Cat.C,Fun.O,Fun.A,Cat.Entry,Int.toNat_natCast] at *); omega))
    all_goals ((first | refine ret_auto ?_ | refine ret_auto' ?_); simp only [go_sem,simprocAttr,Tryz.f19])
def _root_.Go.Cats.SM.mk_ (k : Int) (m : SM) : SM:=⟨m.src.mk_ k,m.tgt.mk_ (k + m.src.mkn),marksS (k + m.src.mkn + m.tgt.mkn) m.parts⟩
def _root_.Go.Cats.SM.mkn (m : SM) : Nat:=m.src.mkn + m.tgt.mkn + sumLen m.parts
theorem _root_.Go.Cats.SMB.mkn {m : SM} (h : SMB m) : m.mkn ≤ 5497566527488:=by
  have h0:=h.src.mkn
  have h1:=h.tgt.mkn
  have h2:=sumLen_le_of h.parts h.row
  unfold Go.Cats.SM.mkn; omega
theorem SMT.b {m : SM} (h : SMT m) (k : smSz m ≤ 1048576) : SMB m:=by
  unfold smSz at k
  exact ⟨h.src.b (by omega),h.tgt.b (by omega),by omega,fun a ha=>by have:=sumLen_get m.parts a ha; omega⟩
theorem SMT.l {m : SM} (h : SMT m) : SML m:=⟨h.src.l,h.tgt.l,h.bpa,h.row⟩
theorem cal_markSetMap : Callable Tryz.prog 17:=⟨_,Tryz.func17,rfl,rfl⟩
theorem sp_markSetMap {m : SM} {k : Int} (hk : 0 ≤ k) (hl : k + m.mkn ≤ 9223372036854775807) (hb : SMB m) : Spec Tryz.prog 17 [.agg [iv m.src.shape.ob,.sl 0,.sl 1,.sl 2,.sl 3,.sl 4,.sl 5,iv m.tgt.shape.ob,.sl 6,.sl 7,.sl 8,.sl 9,.sl 10,.sl 11,.sl 12],iv k] [(0,⟨1,.arr (ints m.src.shape.fr)⟩),(1,⟨1,.arr (ints m.src.shape.to)⟩),(2,⟨1,.arr (ints m.src.shape.id)⟩),(3,⟨1,.arr (intss m.src.shape.co)⟩),(4,⟨1,.arr (ints m.src.sizes)⟩),(5,⟨1,.arr (intss m.src.acts)⟩),(6,⟨1,.arr (ints m.tgt.shape.fr)⟩),(7,⟨1,.arr (ints m.tgt.shape.to)⟩),(8,⟨1,.arr (ints m.tgt.shape.id)⟩),(9,⟨1,.arr (intss m.tgt.shape.co)⟩),(10,⟨1,.arr (ints m.tgt.sizes)⟩),(11,⟨1,.arr (intss m.tgt.acts)⟩),(12,⟨1,.arr (intss m.parts)⟩)] (iv (k + m.mkn)) [(0,⟨1,.arr (ints (m.mk_ k).src.shape.fr)⟩),(1,⟨1,.arr (ints (m.mk_ k).src.shape.to)⟩),(2,⟨1,.arr (ints (m.mk_ k).src.shape.id)⟩),(3,⟨1,.arr (intss (m.mk_ k).src.shape.co)⟩),(4,⟨1,.arr (ints (m.mk_ k).src.sizes)⟩),(5,⟨1,.arr (intss (m.mk_ k).src.acts)⟩),(6,⟨1,.arr (ints (m.mk_ k).tgt.shape.fr)⟩),(7,⟨1,.arr (ints (m.mk_ k).tgt.shape.to)⟩),(8,⟨1,.arr (ints (m.mk_ k).tgt.shape.id)⟩),(9,⟨1,.arr (intss (m.mk_ k).tgt.shape.co)⟩),(10,⟨1,.arr (ints (m.mk_ k).tgt.sizes)⟩),(11,⟨1,.arr (intss (m.mk_ k).tgt.acts)⟩),(12,⟨1,.arr (intss (m.mk_ k).parts)⟩)]:=by
  refine spec_of_V (E:=TE) 13 Tryz.func17 rfl (by simp [Tryz.f17]) fun X hn hX=>?_
  unfold Go.Cats.SM.mkn at hl
  obtain ⟨b1,b2,b3,b4⟩:=hb
  repeat' (first | (with_reducible first | refine V_seq ?_ | refine V_skip ?_ | refine V_ret ?_) | ((with_reducible refine V_cond ?_); simp only [go_sem,simprocAttr]) | ((refine V_region (by rw [hn]; rfl) ?_); intro K hK) | ((first | with_reducible refine evOps_n ?_ | ((with_reducible apply evOps_g); rfl)); intro K hK; simp (contextual:=true) only [go_sem,simprocAttr]) | with_reducible refine evOps_nil ?_ | ((with_reducible refine hK _ ?_); clear hK K) | (with_reducible first | refine And.intro ?_ ?_ | refine nxt_n ?_ | refine nxt_r ?_ | refine inR_mk ?_ ?_) | ((with_reducible refine evCall_at 16 ?_); refine EvCall.mu (by first | (simp only [go_sem,simprocAttr]; rfl) | rfl) (by first | (simp only [go_sem,simprocAttr]; rfl) | rfl) (by first | (simp only [go_sem,simprocAttr]; rfl) | rfl) (sp_markSetFunctor ?_ ?_ ?_) cal_markSetFunctor (by first | (simp only [go_sem,simprocAttr]; rfl) | rfl) (by first | (simp only [go_sem,simprocAttr]; rfl) | rfl) (by simp [go_sem]) (by simp [go_sem]) ?_; all_goals try simp only [go_sem,simprocAttr]) | ((with_reducible refine evCall_at 46 ?_); refine EvCall.mu (by first | (simp only [go_sem,simprocAttr]; rfl) | rfl) (by first | (simp only [go_sem,simprocAttr]; rfl) | rfl) (by first | (simp only [go_sem,simprocAttr]; rfl) | rfl) (sp_markInt64SS ?_ ?_ ?_) cal_markInt64SS (by first | (simp only [go_sem,simprocAttr]; rfl) | rfl) (by first | (simp only [go_sem,simprocAttr]; rfl) | rfl) (by simp [go_sem]) (by simp [go_sem]) ?_; all_goals try simp only [go_sem,simprocAttr]) | (refine fun (hc : (_ : Bool) = _)=>?_; try simp only [hcS] at hc))
  all_goals try (first | (with_reducible assumption) | ((try simp only [Cat.F,Cat.T,Cat.I,Cat.C,Fun.O,Fun.A,Cat.Entry,Int.toNat_natCast] at *); omega))
  (first | refine ret_auto ?_ | refine ret_auto' ?_); simp only [go_sem,simprocAttr,Tryz.f17]
  exact ⟨⟨rfl,rfl,rfl,rfl,rfl,rfl,rfl,rfl,rfl,rfl,rfl,rfl,rfl⟩,iv_eq (by unfold Go.Cats.SM.mkn; omega)⟩
theorem cal_heldSetFunctor : Callable Tryz.prog 47:=⟨_,Tryz.func47,rfl,rfl⟩
theorem sp_heldSetFunctor_at {d f : SF} {k : Int} (h : d = f.mk_ k) (hk : 0 ≤ k) (hl : k + f.mkn ≤ 9223372036854775807) (hb : SFB f) : Spec Tryz.prog 47 [sfV d,iv k] [] (iv (k + f.mkn)) []:=by
  subst h
  unfold Go.Cats.SF.mkn at hl
  obtain ⟨b1,b2,b3,b4⟩:=hb
  have e0 : (f.mk_ k).shape = f.shape.mk_ k:=rfl
  have e1 : (f.mk_ k).sizes = marks (k + f.shape.mkn) f.sizes.length:=rfl
  have e2 : (f.mk_ k).acts = marksS (k + f.shape.mkn + f.sizes.length) f.acts:=rfl
  refine spec_of_V (E:=TE) 0 Tryz.func47 rfl (by simp [Tryz.f47]) fun X hn hX=>?_
  repeat' (first | (with_reducible first | refine V_seq ?_ | refine V_skip ?_ | refine V_ret ?_) | ((with_reducible refine V_cond ?_); simp only [go_sem,simprocAttr]) | ((refine V_region (by rw [hn]; rfl) ?_); intro K hK) | ((first | with_reducible refine evOps_n ?_ | ((with_reducible apply evOps_g); rfl)); intro K hK; simp (contextual:=true) only [go_sem,simprocAttr]) | with_reducible refine evOps_nil ?_ | ((with_reducible refine hK _ ?_); clear hK K) | (with_reducible first | refine And.intro ?_ ?_ | refine nxt_n ?_ | refine nxt_r ?_ | refine inR_mk ?_ ?_) | ((with_reducible refine evCall_at 72 ?_); refine EvCall.rq (a:=(sp_heldCategory_at (by first | omega | assumption | rfl | exact (by assumption : SMB _).src | exact (by assumption : SMB _).tgt) (by first | omega | assumption | rfl | exact (by assumption : SMB _).src | exact (by assumption : SMB _).tgt) (by first | omega | assumption | rfl | exact (by assumption : SMB _).src | exact (by assumption : SMB _).tgt) (by first | omega | assumption | rfl | exact (by assumption : SMB _).src | exact (by assumption : SMB _).tgt))) (b:=cal_heldCategory) (c:=?_); all_goals try simp only [go_sem,simprocAttr]) | ((with_reducible refine evCall_at 73 ?_); refine EvCall.rq (a:=(sp_heldInt64S_at (by first | omega | assumption | rfl | exact (by assumption : SMB _).src | exact (by assumption : SMB _).tgt) (by first | omega | assumption | rfl | exact (by assumption : SMB _).src | exact (by assumption : SMB _).tgt) (by first | omega | assumption | rfl | exact (by assumption : SMB _).src | exact (by assumption : SMB _).tgt))) (b:=cal_heldInt64S) (c:=?_); all_goals try simp only [go_sem,simprocAttr]) | ((with_reducible refine evCall_at 48 ?_); refine EvCall.rq (a:=(sp_heldInt64SS_at (by first | omega | assumption | rfl | exact (by assumption : SMB _).src | exact (by assumption : SMB _).tgt) (by first | omega | assumption | rfl | exact (by assumption : SMB _).src | exact (by assumption : SMB _).tgt) (by first | omega | assumption | rfl | exact (by assumption : SMB _).src | exact (by assumption : SMB _).tgt) (by first | omega | assumption | rfl | exact (by assumption : SMB _).src | exact (by assumption : SMB _).tgt))) (b:=cal_heldInt64SS) (c:=?_); all_goals try simp only [go_sem,simprocAttr]) | (refine fun (hc : (_ : Bool) = _)=>?_; try simp only [hcS] at hc))
  all_goals try (first | (with_reducible assumption) | ((try simp only [Cat.F,Cat.T,Cat.I,Cat.C,Fun.O,Fun.A,Cat.Entry,Int.toNat_natCast] at *); omega))
  (first | refine ret_auto ?_ | refine ret_auto' ?_); simp only [go_sem,simprocAttr,Tryz.f47]
  exact iv_eq (by unfold Go.Cats.SF.mkn; omega)
theorem cal_heldSetMap : Callable Tryz.prog 18:=⟨_,Tryz.func18,rfl,rfl⟩
theorem sp_heldSetMap_at {d m : SM} {k : Int} (h : d = m.mk_ k) (hk : 0 ≤ k) (hl : k + m.mkn ≤ 9223372036854775807) (hb : SMB m) : Spec Tryz.prog 18 [smV d,iv k] [] (iv (k + m.mkn)) []:=by
  subst h
  unfold Go.Cats.SM.mkn at hl
  obtain ⟨b1,b2,b3,b4⟩:=hb
  have e0 : (m.mk_ k).src = m.src.mk_ k:=rfl
  have e1 : (m.mk_ k).tgt = m.tgt.mk_ (k + m.src.mkn):=rfl
  have e2 : (m.mk_ k).parts = marksS (k + m.src.mkn + m.tgt.mkn) m.parts:=rfl
  refine spec_of_V (E:=TE) 0 Tryz.func18 rfl (by simp [Tryz.f18]) fun X hn hX=>?_
  repeat' (first | (with_reducible first | refine V_seq ?_ | refine V_skip ?_ | refine V_ret ?_) | ((with_reducible refine V_cond ?_); simp only [go_sem,simprocAttr]) | ((refine V_region (by rw [hn]; rfl) ?_); intro K hK) | ((first | with_reducible refine evOps_n ?_ | ((with_reducible apply evOps_g); rfl)); intro K hK; simp (contextual:=true) only [go_sem,simprocAttr]) | with_reducible refine evOps_nil ?_ | ((with_reducible refine hK _ ?_); clear hK K) | (with_reducible first | refine And.intro ?_ ?_ | refine nxt_n ?_ | refine nxt_r ?_ | refine inR_mk ?_ ?_) | ((with_reducible refine evCall_at 47 ?_); refine EvCall.rq (a:=(sp_heldSetFunctor_at (by first | omega | assumption | rfl | exact (by assumption : SMB _).src | exact (by assumption : SMB _).tgt) (by first | omega | assumption | rfl | exact (by assumption : SMB _).src | exact (by assumption : SMB _).tgt) (by first | omega | assumption | rfl | exact (by assumption : SMB _).src | exact (by assumption : SMB _).tgt) (by first | omega | assumption | rfl | exact (by assumption : SMB _).src | exact (by assumption : SMB _).tgt))) (b:=cal_heldSetFunctor) (c:=?_); all_goals try simp only [go_sem,simprocAttr]) | ((with_reducible refine evCall_at 48 ?_); refine EvCall.rq (a:=(sp_heldInt64SS_at (by first | omega | assumption | rfl | exact (by assumption : SMB _).src | exact (by assumption : SMB _).tgt) (by first | omega | assumption | rfl | exact (by assumption : SMB _).src | exact (by assumption : SMB _).tgt) (by first | omega | assumption | rfl | exact (by assumption : SMB _).src | exact (by assumption : SMB _).tgt) (by first | omega | assumption | rfl | exact (by assumption : SMB _).src | exact (by assumption : SMB _).tgt))) (b:=cal_heldInt64SS) (c:=?_); all_goals try simp only [go_sem,simprocAttr]) | (refine fun (hc : (_ : Bool) = _)=>?_; try simp only [hcS] at hc))
  all_goals try (first | (with_reducible assumption) | ((try simp only [Cat.F,Cat.T,Cat.I,Cat.C,Fun.O,Fun.A,Cat.Entry,Int.toNat_natCast] at *); omega))
  (first | refine ret_auto ?_ | refine ret_auto' ?_); simp only [go_sem,simprocAttr,Tryz.f18]
  exact iv_eq (by unfold Go.Cats.SM.mkn; omega)
end Go.Eng
