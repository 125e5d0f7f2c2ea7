/- Several texts in one: U06, U07. -/
import Derived.Test.YtmpopmololpaoaaGreatKaox
set_option linter.unusedSimpArgs false
set_option linter.unusedVariables false
set_option maxRecDepth 100000
set_option maxHeartbeats 16000000
section
namespace Go.Eng
open Go Go.Proofs Go.Cats
theorem _root_.Go.Cats.EndF.th {f : Fun} (h : EndF f.src f) (hb : FunB f) : ThF f f:=by
  have ol:=h.ol
  have al:=h.al
  have c8:=h.sc.toShape.ob8
  have c40:=h.sc.toShape.m40
  have wo:=h.fit.obw
  have wa:=h.fit.arw
  have et:=h.et
  rw [et] at wo wa
  refine ⟨hb.src,hb.tgt,by omega,by omega,by omega,by omega,fun i hi=>?_,fun i hi=>?_⟩
  · have:=wo i hi;omega
  · have:=wa i hi;omega
def MnO (f : Fun) (r : Sv) (L1 : List (Nat × Rs)) : Prop :=
  (((unitsL f.src f).length ≤ 200 ∧ (joinsL f).length ≤ 200) ∧ r = .tup [.sl 0,bv true] ∧ L1 = [(0,⟨1,.arr (monsD (moF f.src f))⟩)]) ∨ (¬ ((unitsL f.src f).length ≤ 200 ∧ (joinsL f).length ≤ 200) ∧ r = .tup [.v (.slice none 0 0),bv false] ∧ L1 = [])
attribute [local go_sem] List.set_cons_zero List.set_cons_succ moU_zero
theorem cal_monadsOn : Callable Tryz.prog 102:=⟨_,Tryz.func102,rfl,rfl⟩
theorem sp_monadsOn_o {f : Fun} {r : Sv} {L1 : List (Nat × Rs)} (h : EndF f.src f) (hb : FunB f) (ho : MnO f r L1) : Spec Tryz.prog 102 [.bptr [] (funD f)] [] r L1:=by
  have sc:=h.sc.toShape
  have c0:=sc.ob0
  have c8:=sc.ob8
  have c40:=sc.m40
  have ol:=h.ol
  have al:=h.al
  have hid:=sp_identity (c:=f.src) hb.src c0 (by omega)
  have hth:=sp_Functor_then (h.th hb)
  have hu:=sp_allNatural (M:=200) h.self (by decide)
  have hj:=sp_allNatural (M:=200) h.twice (by decide)
  rw [eat_L (M:=200) _ _ (Nat.zero_le _),List.nil_append,show natA (selfF f.src) f = unitsL f.src f from rfl] at hu
  rw [eat_L (M:=200) _ _ (Nat.zero_le _),List.nil_append,show natA (thF f f) f = joinsL f from rfl] at hj
  have hum : ∀ i,i < (unitsL f.src f).length → (unitsL f.src f).getD i [] ∈ unitsL f.src f:=fun i hi=>getD_mem hi
  have hjm : ∀ i,i < (joinsL f).length → (joinsL f).getD i [] ∈ joinsL f:=fun i hi=>getD_mem hi
  have hlaw : ∀ i k,i < (unitsL f.src f).length → k < (joinsL f).length → Spec Tryz.prog 144 _ _ _ _:=fun i k hi hk=>sp_Monad_isLawful (m:=⟨f,(unitsL f.src f).getD i [],(joinsL f).getD k []⟩) h (hum i hi) (hjm k hk)
  have hul : ∀ i,i < (unitsL f.src f).length → ((unitsL f.src f).getD i []).length = f.src.ob.toNat:=fun i hi=>(h.unit (hum i hi)).1
  have hjl : ∀ i,i < (joinsL f).length → ((joinsL f).getD i []).length = f.src.ob.toNat:=fun i hi=>(h.join (hjm i hi)).1
  unfold MnO moF at ho
  obtain ⟨U,hU⟩ : ∃ U,unitsL f.src f = U:=⟨_,rfl⟩
  obtain ⟨J,hJ⟩ : ∃ J,joinsL f = J:=⟨_,rfl⟩
  simp only [hU,hJ] at hu hj hlaw hul hjl ho
  by_cases hU2 : U.length ≤ 200
  · rw [decide_eq_true hU2,List.take_of_length_le (by omega)] at hu
    by_cases hJ2 : J.length ≤ 200
    · rw [decide_eq_true hJ2,List.take_of_length_le (by omega)] at hj
      rcases ho with ⟨_,rfl,rfl⟩|⟨ho,_,_⟩
      · refine spec_of_V (E:=TE) 0 Tryz.func102 rfl (by simp [Tryz.f102]) fun X hn hX=>?_
        repeat' (first|(with_reducible first|refine V_seq ?_|refine V_block ?_|refine V_skip ?_|refine V_ret ?_|refine V_exit ?_)|((with_reducible refine V_cond ?_);simp only [go_sem,simprocAttr])|((refine V_region (by rw [hn];rfl) ?_);intro K hK)|((first|with_reducible refine evOps_n ?_|((with_reducible apply evOps_g);rfl));intro K hK;simp (contextual:=true) only [go_sem,simprocAttr])|with_reducible refine evOps_nil ?_|((with_reducible refine hK _ ?_);clear hK K)|(with_reducible first|refine And.intro ?_ ?_|refine nxt_n ?_|refine nxt_r ?_|refine nxt_e ?_|refine blk_n ?_|refine blk_r ?_|refine blk_same ?_|refine blk_other (by decide) ?_|refine noG_n ?_|refine noG_r ?_|refine noG_e ?_|refine inR_mk ?_ ?_)|((with_reducible refine evCall_at 143 ?_);refine EvCall.mk (hid) cal_identity [(0,0),(1,1),(2,2),(3,3),(4,4),(5,5),(6,6),(7,7),(8,8),(9,9)] [] (by simp [go_sem] <;> (repeat' (first|rfl|constructor))) (by simp [go_sem] <;> (repeat' (first|rfl|constructor))) ?_;all_goals try simp only [go_sem,simprocAttr])|((with_reducible refine evCall_at 79 ?_);refine EvCall.mk (hth) cal_Functor_then [(0,10),(1,11),(2,12),(3,13),(4,14),(5,15),(6,16),(7,17),(8,18),(9,19)] [] (by simp [go_sem] <;> (repeat' (first|rfl|constructor))) (by simp [go_sem] <;> (repeat' (first|rfl|constructor))) ?_;all_goals try simp only [go_sem,simprocAttr])|((with_reducible refine (id ?_ : EvCall _ _ [.ptr 20 0,_,_] _ _));refine EvCall.mk (hu) cal_allNatural [(0,22)] [20,0,1,2,3,4,5,6,7,8,9] (by simp [go_sem] <;> (repeat' (first|rfl|constructor))) (by simp [go_sem] <;> (repeat' (first|rfl|constructor))) ?_;all_goals try simp only [go_sem,simprocAttr])|((with_reducible refine (id ?_ : EvCall _ _ [.ptr 21 0,_,_] _ _));refine EvCall.mk (hj) cal_allNatural [(0,23)] [21,10,11,12,13,14,15,16,17,18,19] (by simp [go_sem] <;> (repeat' (first|rfl|constructor))) (by simp [go_sem] <;> (repeat' (first|rfl|constructor))) ?_;all_goals try simp only [go_sem,simprocAttr])|(refine fun (hc : (_ : Bool) = _)=>?_;try simp only [hcS] at hc))
        all_goals try exact om_
        refine V_loopK (G:={i : Nat // i ≤ U.length ∧ (True)}) (fun ⟨i,_⟩=>[(42,iv i),(4,.ptr 20 0),(5,.ptr 21 0),(40,.sl 22),(8,.sl 23),(10,.sl 24)]) [0,2,3,41] (fun ⟨i,_⟩=>[(22,⟨1,.arr (intss U)⟩),(23,⟨1,.arr (intss J)⟩),(24,⟨1,.arr (monsD (moU f.src f U J i 0))⟩)]) [22,23,24] (fun zz=>U.length - zz.1) ⟨0,Nat.zero_le _,by first|trivial|simp⟩ ?_ ?_
        · exact Imp.au hX
        rintro ⟨i,hii,hwi⟩
        simp only [go_sem,simprocAttr]
        rcases Nat.lt_or_ge i U.length with hli | hgi
        · have ul:=hul i hli
          repeat' (first|(with_reducible first|refine V_seq ?_|refine V_block ?_|refine V_skip ?_|refine V_ret ?_|refine V_exit ?_)|((with_reducible refine V_cond ?_);simp only [go_sem,simprocAttr])|((refine V_region (by rw [hn];rfl) ?_);intro K hK)|((first|with_reducible refine evOps_n ?_|((with_reducible apply evOps_g);rfl));intro K hK;simp (contextual:=true) only [go_sem,simprocAttr])|with_reducible refine evOps_nil ?_|((with_reducible refine hK _ ?_);clear hK K)|(with_reducible first|refine And.intro ?_ ?_|refine nxt_n ?_|refine nxt_r ?_|refine nxt_e ?_|refine blk_n ?_|refine blk_r ?_|refine blk_same ?_|refine blk_other (by decide) ?_|refine noG_n ?_|refine noG_r ?_|refine noG_e ?_|refine inR_mk ?_ ?_)|(refine fun (hc : (_ : Bool) = _)=>?_;try simp only [hcS] at hc))
          all_goals try exact om_
          refine V_loopK (G:={k : Nat // k ≤ J.length ∧ (True)}) (fun ⟨k,_⟩=>[(48,iv k),(4,.ptr 20 0),(5,.ptr 21 0),(46,.sl 23),(42,iv i),(40,.sl 22),(12,.bor [(22,1)] (ints (U.getD i []))),(8,.sl 23),(10,.sl 24)]) [0,2,3,41,47] (fun ⟨k,_⟩=>[(22,⟨1,.arr (intss U)⟩),(23,⟨1,.arr (intss J)⟩),(24,⟨1,.arr (monsD (moU f.src f U J i k))⟩)]) [22,23,24] (fun zz=>J.length - zz.1) ⟨0,Nat.zero_le _,by first|trivial|simp⟩ ?_ ?_
          · exact Imp.au hX
          rintro ⟨k,hik,hwk⟩
          simp only [go_sem,simprocAttr]
          rcases Nat.lt_or_ge k J.length with hlk | hgk
          · have jl:=hjl k hlk
            have hlw:=hlaw i k hli hlk
            have hml : (moU f.src f U J i k).length ≤ 40200:=by
              have h1:=moU_len (c:=f.src) (f:=f) (U:=U) (J:=J) (i:=i) (k:=k)
              have h2:=Nat.mul_le_mul (show i ≤ 200 by omega) hJ2
              omega
            by_cases hq : LawP f.src f (U.getD i []) (J.getD k [])
            · rw [dec_t hq] at hlw
              have hmo:=sp_monad (f:=f) (u:=U.getD i []) (j:=J.getD k []) hb (by omega) (by omega)
              have e1:=moU_yes hlk hq
              repeat' (first|(with_reducible first|refine V_seq ?_|refine V_block ?_|refine V_skip ?_|refine V_ret ?_|refine V_exit ?_)|((with_reducible refine V_cond ?_);simp only [go_sem,simprocAttr])|((refine V_region (by rw [hn];rfl) ?_);intro K hK)|((first|with_reducible refine evOps_n ?_|((with_reducible apply evOps_g);rfl));intro K hK;simp (contextual:=true) only [go_sem,simprocAttr])|with_reducible refine evOps_nil ?_|((with_reducible refine hK _ ?_);clear hK K)|(with_reducible first|refine And.intro ?_ ?_|refine nxt_n ?_|refine nxt_r ?_|refine nxt_e ?_|refine blk_n ?_|refine blk_r ?_|refine blk_same ?_|refine blk_other (by decide) ?_|refine noG_n ?_|refine noG_r ?_|refine noG_e ?_|refine inR_mk ?_ ?_)|((with_reducible refine evCall_at 144 ?_);refine EvCall.mk (hlw) cal_Monad_isLawful [] [25,22,23] (by simp [go_sem] <;> (repeat' (first|rfl|constructor))) (by simp [go_sem] <;> (repeat' (first|rfl|constructor))) ?_;all_goals try simp only [go_sem,simprocAttr])|((with_reducible refine evCall_at 145 ?_);refine EvCall.mk (hmo) cal_monad [(0,26),(1,27),(2,28),(3,29),(4,30),(5,31),(6,32),(7,33),(8,34),(9,35),(10,36),(11,37)] [22,23] (by simp [go_sem] <;> (repeat' (first|rfl|constructor))) (by simp [go_sem] <;> (repeat' (first|rfl|constructor))) ?_;all_goals try simp only [go_sem,simprocAttr])|(refine fun (hc : (_ : Bool) = _)=>?_;try simp only [hcS] at hc))
              all_goals try exact om_
              · refine ⟨⟨k + 1,by omega,(by trivial)⟩,by simp only;omega,Imp.auto hX (by simp only [go_sem,simprocAttr,e1])⟩
            · rw [dec_f hq] at hlw
              have e1:=moU_no hlk hq
              repeat' (first|(with_reducible first|refine V_seq ?_|refine V_block ?_|refine V_skip ?_|refine V_ret ?_|refine V_exit ?_)|((with_reducible refine V_cond ?_);simp only [go_sem,simprocAttr])|((refine V_region (by rw [hn];rfl) ?_);intro K hK)|((first|with_reducible refine evOps_n ?_|((with_reducible apply evOps_g);rfl));intro K hK;simp (contextual:=true) only [go_sem,simprocAttr])|with_reducible refine evOps_nil ?_|((with_reducible refine hK _ ?_);clear hK K)|(with_reducible first|refine And.intro ?_ ?_|refine nxt_n ?_|refine nxt_r ?_|refine nxt_e ?_|refine blk_n ?_|refine blk_r ?_|refine blk_same ?_|refine blk_other (by decide) ?_|refine noG_n ?_|refine noG_r ?_|refine noG_e ?_|refine inR_mk ?_ ?_)|((with_reducible refine evCall_at 144 ?_);refine EvCall.mk (hlw) cal_Monad_isLawful [] [25,22,23] (by simp [go_sem] <;> (repeat' (first|rfl|constructor))) (by simp [go_sem] <;> (repeat' (first|rfl|constructor))) ?_;all_goals try simp only [go_sem,simprocAttr])|(refine fun (hc : (_ : Bool) = _)=>?_;try simp only [hcS] at hc))
              all_goals try exact om_
              · refine ⟨⟨k + 1,by omega,(by trivial)⟩,by simp only;omega,Imp.auto hX (by simp only [go_sem,simprocAttr,e1])⟩
          · have ek : k = J.length:=by omega
            subst ek
            have e2:=moU_next (c:=f.src) (f:=f) (U:=U) (J:=J) (i:=i)
            repeat' (first|(with_reducible first|refine V_seq ?_|refine V_block ?_|refine V_skip ?_|refine V_ret ?_|refine V_exit ?_)|((with_reducible refine V_cond ?_);simp only [go_sem,simprocAttr])|((refine V_region (by rw [hn];rfl) ?_);intro K hK)|((first|with_reducible refine evOps_n ?_|((with_reducible apply evOps_g);rfl));intro K hK;simp (contextual:=true) only [go_sem,simprocAttr])|with_reducible refine evOps_nil ?_|((with_reducible refine hK _ ?_);clear hK K)|(with_reducible first|refine And.intro ?_ ?_|refine nxt_n ?_|refine nxt_r ?_|refine nxt_e ?_|refine blk_n ?_|refine blk_r ?_|refine blk_same ?_|refine blk_other (by decide) ?_|refine noG_n ?_|refine noG_r ?_|refine noG_e ?_|refine inR_mk ?_ ?_)|(refine fun (hc : (_ : Bool) = _)=>?_;try simp only [hcS] at hc))
            all_goals try exact om_
            · refine ⟨⟨i + 1,by omega,(by (trivial))⟩,by simp only;omega,Imp.auto hX (by simp only [go_sem,simprocAttr,e2])⟩
        · have ei : i = U.length:=by omega
          subst ei
          repeat' (first|(with_reducible first|refine V_seq ?_|refine V_block ?_|refine V_skip ?_|refine V_ret ?_|refine V_exit ?_)|((with_reducible refine V_cond ?_);simp only [go_sem,simprocAttr])|((refine V_region (by rw [hn];rfl) ?_);intro K hK)|((first|with_reducible refine evOps_n ?_|((with_reducible apply evOps_g);rfl));intro K hK;simp (contextual:=true) only [go_sem,simprocAttr])|with_reducible refine evOps_nil ?_|((with_reducible refine hK _ ?_);clear hK K)|(with_reducible first|refine And.intro ?_ ?_|refine nxt_n ?_|refine nxt_r ?_|refine nxt_e ?_|refine blk_n ?_|refine blk_r ?_|refine blk_same ?_|refine blk_other (by decide) ?_|refine noG_n ?_|refine noG_r ?_|refine noG_e ?_|refine inR_mk ?_ ?_)|(refine fun (hc : (_ : Bool) = _)=>?_;try simp only [hcS] at hc))
          all_goals try exact om_
          · (first|refine ret_auto ?_|refine ret_auto' ?_);simp only [go_sem,simprocAttr,Tryz.f102]
      · exact absurd ⟨hU2,hJ2⟩ ho
    · rw [decide_eq_false hJ2] at hj
      rcases ho with ⟨ho,_,_⟩|⟨_,rfl,rfl⟩
      · exact absurd ho.2 hJ2
      · refine spec_of_V (E:=TE) 0 Tryz.func102 rfl (by simp [Tryz.f102]) fun X hn hX=>?_
        repeat' (first|(with_reducible first|refine V_seq ?_|refine V_block ?_|refine V_skip ?_|refine V_ret ?_|refine V_exit ?_)|((with_reducible refine V_cond ?_);simp only [go_sem,simprocAttr])|((refine V_region (by rw [hn];rfl) ?_);intro K hK)|((first|with_reducible refine evOps_n ?_|((with_reducible apply evOps_g);rfl));intro K hK;simp (contextual:=true) only [go_sem,simprocAttr])|with_reducible refine evOps_nil ?_|((with_reducible refine hK _ ?_);clear hK K)|(with_reducible first|refine And.intro ?_ ?_|refine nxt_n ?_|refine nxt_r ?_|refine nxt_e ?_|refine blk_n ?_|refine blk_r ?_|refine blk_same ?_|refine blk_other (by decide) ?_|refine noG_n ?_|refine noG_r ?_|refine noG_e ?_|refine inR_mk ?_ ?_)|((with_reducible refine evCall_at 143 ?_);refine EvCall.mk (hid) cal_identity [(0,0),(1,1),(2,2),(3,3),(4,4),(5,5),(6,6),(7,7),(8,8),(9,9)] [] (by simp [go_sem] <;> (repeat' (first|rfl|constructor))) (by simp [go_sem] <;> (repeat' (first|rfl|constructor))) ?_;all_goals try simp only [go_sem,simprocAttr])|((with_reducible refine evCall_at 79 ?_);refine EvCall.mk (hth) cal_Functor_then [(0,10),(1,11),(2,12),(3,13),(4,14),(5,15),(6,16),(7,17),(8,18),(9,19)] [] (by simp [go_sem] <;> (repeat' (first|rfl|constructor))) (by simp [go_sem] <;> (repeat' (first|rfl|constructor))) ?_;all_goals try simp only [go_sem,simprocAttr])|((with_reducible refine (id ?_ : EvCall _ _ [.ptr 20 0,_,_] _ _));refine EvCall.mk (hu) cal_allNatural [(0,22)] [20,0,1,2,3,4,5,6,7,8,9] (by simp [go_sem] <;> (repeat' (first|rfl|constructor))) (by simp [go_sem] <;> (repeat' (first|rfl|constructor))) ?_;all_goals try simp only [go_sem,simprocAttr])|((with_reducible refine (id ?_ : EvCall _ _ [.ptr 21 0,_,_] _ _));refine EvCall.mk (hj) cal_allNatural [(0,23)] [21,10,11,12,13,14,15,16,17,18,19] (by simp [go_sem] <;> (repeat' (first|rfl|constructor))) (by simp [go_sem] <;> (repeat' (first|rfl|constructor))) ?_;all_goals try simp only [go_sem,simprocAttr])|(refine fun (hc : (_ : Bool) = _)=>?_;try simp only [hcS] at hc))
        all_goals try exact om_
        all_goals ((first|refine ret_auto ?_|refine ret_auto' ?_);simp only [go_sem,simprocAttr,Tryz.f102])
  · rw [decide_eq_false hU2] at hu
    rcases ho with ⟨ho,_,_⟩|⟨_,rfl,rfl⟩
    · exact absurd ho.1 hU2
    · refine spec_of_V (E:=TE) 0 Tryz.func102 rfl (by simp [Tryz.f102]) fun X hn hX=>?_
      repeat' (first|(with_reducible first|refine V_seq ?_|refine V_block ?_|refine V_skip ?_|refine V_ret ?_|refine V_exit ?_)|((with_reducible refine V_cond ?_);simp only [go_sem,simprocAttr])|((refine V_region (by rw [hn];rfl) ?_);intro K hK)|((first|with_reducible refine evOps_n ?_|((with_reducible apply evOps_g);rfl));intro K hK;simp (contextual:=true) only [go_sem,simprocAttr])|with_reducible refine evOps_nil ?_|((with_reducible refine hK _ ?_);clear hK K)|(with_reducible first|refine And.intro ?_ ?_|refine nxt_n ?_|refine nxt_r ?_|refine nxt_e ?_|refine blk_n ?_|refine blk_r ?_|refine blk_same ?_|refine blk_other (by decide) ?_|refine noG_n ?_|refine noG_r ?_|refine noG_e ?_|refine inR_mk ?_ ?_)|((with_reducible refine evCall_at 143 ?_);refine EvCall.mk (hid) cal_identity [(0,0),(1,1),(2,2),(3,3),(4,4),(5,5),(6,6),(7,7),(8,8),(9,9)] [] (by simp [go_sem] <;> (repeat' (first|rfl|constructor))) (by simp [go_sem] <;> (repeat' (first|rfl|constructor))) ?_;all_goals try simp only [go_sem,simprocAttr])|((with_reducible refine evCall_at 79 ?_);refine EvCall.mk (hth) cal_Functor_then [(0,10),(1,11),(2,12),(3,13),(4,14),(5,15),(6,16),(7,17),(8,18),(9,19)] [] (by simp [go_sem] <;> (repeat' (first|rfl|constructor))) (by simp [go_sem] <;> (repeat' (first|rfl|constructor))) ?_;all_goals try simp only [go_sem,simprocAttr])|((with_reducible refine (id ?_ : EvCall _ _ [.ptr 20 0,_,_] _ _));refine EvCall.mk (hu) cal_allNatural [(0,22)] [20,0,1,2,3,4,5,6,7,8,9] (by simp [go_sem] <;> (repeat' (first|rfl|constructor))) (by simp [go_sem] <;> (repeat' (first|rfl|constructor))) ?_;all_goals try simp only [go_sem,simprocAttr])|((with_reducible refine (id ?_ : EvCall _ _ [.ptr 21 0,_,_] _ _));refine EvCall.mk (hj) cal_allNatural [(0,23)] [21,10,11,12,13,14,15,16,17,18,19] (by simp [go_sem] <;> (repeat' (first|rfl|constructor))) (by simp [go_sem] <;> (repeat' (first|rfl|constructor))) ?_;all_goals try simp only [go_sem,simprocAttr])|(refine fun (hc : (_ : Bool) = _)=>?_;try simp only [hcS] at hc))
      all_goals try exact om_
      all_goals ((first|refine ret_auto ?_|refine ret_auto' ?_);simp only [go_sem,simprocAttr,Tryz.f102])
end Go.Eng
end
section
namespace Go.Eng
open Go Go.Proofs Go.Cats
attribute [local go_sem] List.set_cons_zero List.set_cons_succ moA_zero
def AfO (c d : Cat) (r : Sv) (L1 : List (Nat × Rs)) : Prop :=
  ((MovP c d ∧ (fcL c d).length ≤ 200) ∧ r = .tup [.sl 0,iv 0] ∧ L1 = [(0,⟨1,.arr (funsD (fcL c d))⟩)]) ∨ (¬ (MovP c d ∧ (fcL c d).length ≤ 200) ∧ r = .tup [.v (.slice none 0 0),iv 3] ∧ L1 = [])
theorem cal_AllFunctors : Callable Tryz.prog 98:=⟨_,Tryz.func98,rfl,rfl⟩
theorem sp_AllFunctors_o {c d : Cat} {r : Sv} {L1 : List (Nat × Rs)} (sc : IsCat c) (sd : IsCat d) (bc : CatB c) (bd : CatB d) (ho : AfO c d r L1) : Spec Tryz.prog 98 [catV c,catV d] [] r L1:=by
  have hmo:=sp_movable bc bd sc.toShape sd.toShape
  have hall:=sp_allFunctors (b:=false) (M:=200) sc sd bc bd (by decide)
  rw [eat_L (M:=200) _ _ (Nat.zero_le _),List.nil_append,show funX c d false c.ob.toNat [] = fcL c d from rfl] at hall
  have ar:=sp_areCategories_two bc bd
  rw [dec_t (And.intro sc sd)] at ar
  by_cases hM : MovP c d
  · rw [dec_t hM] at hmo
    by_cases hL : (fcL c d).length ≤ 200
    · rw [decide_eq_true hL,List.take_of_length_le (by omega)] at hall
      rcases ho with ⟨_,rfl,rfl⟩|⟨ho,_,_⟩
      · refine spec_of_V (E:=TE) 0 Tryz.func98 rfl (by simp [Tryz.f98]) fun X hn hX=>?_
        repeat' (first|(refine V_at 1 (Imp.trans (Imp.lendCat 2 0 1 c rfl rfl (Nat.le_refl 1)) (Imp.lendCat 3 1 1 d rfl rfl (Nat.le_refl 1))) ?_;simp only [go_sem,simprocAttr])|(with_reducible first|refine V_seq ?_|refine V_skip ?_|refine V_ret ?_)|((with_reducible refine V_cond ?_);simp only [go_sem,simprocAttr])|((refine V_region (by rw [hn];rfl) ?_);intro K hK)|((first|with_reducible refine evOps_n ?_|((with_reducible apply evOps_g);rfl));intro K hK;simp (contextual:=true) only [go_sem,simprocAttr])|with_reducible refine evOps_nil ?_|((with_reducible refine hK _ ?_);clear hK K)|(with_reducible first|refine And.intro ?_ ?_|refine nxt_n ?_|refine nxt_r ?_|refine inR_mk ?_ ?_)|((with_reducible refine evCall_at 55 ?_);refine EvCall.mk (ar) cal_areCategories [] [2,0,1] (by simp [go_sem] <;> (repeat' (first|rfl|constructor))) (by simp [go_sem] <;> (repeat' (first|rfl|constructor))) ?_;all_goals try simp only [go_sem,simprocAttr])|((with_reducible refine evCall_at 111 ?_);refine EvCall.mk (hmo) cal_movable [] [0,1] (by simp [go_sem] <;> (repeat' (first|rfl|constructor))) (by simp [go_sem] <;> (repeat' (first|rfl|constructor))) ?_;all_goals try simp only [go_sem,simprocAttr])|((with_reducible refine evCall_at 112 ?_);refine EvCall.mk (hall) cal_allFunctors [(0,3)] [0,1] (by simp [go_sem] <;> (repeat' (first|rfl|constructor))) (by simp [go_sem] <;> (repeat' (first|rfl|constructor))) ?_;all_goals try simp only [go_sem,simprocAttr])|(refine fun (hc : (_ : Bool) = _)=>?_;try simp only [hcS] at hc))
        all_goals try exact om_
        all_goals ((first|refine ret_auto ?_|refine ret_auto' ?_);simp only [go_sem,simprocAttr,Tryz.f98])
      · exact absurd ⟨hM,hL⟩ ho
    · rw [decide_eq_false hL] at hall
      rcases ho with ⟨ho,_,_⟩|⟨_,rfl,rfl⟩
      · exact absurd ho.2 hL
      · refine spec_of_V (E:=TE) 0 Tryz.func98 rfl (by simp [Tryz.f98]) fun X hn hX=>?_
        repeat' (first|(refine V_at 1 (Imp.trans (Imp.lendCat 2 0 1 c rfl rfl (Nat.le_refl 1)) (Imp.lendCat 3 1 1 d rfl rfl (Nat.le_refl 1))) ?_;simp only [go_sem,simprocAttr])|(with_reducible first|refine V_seq ?_|refine V_skip ?_|refine V_ret ?_)|((with_reducible refine V_cond ?_);simp only [go_sem,simprocAttr])|((refine V_region (by rw [hn];rfl) ?_);intro K hK)|((first|with_reducible refine evOps_n ?_|((with_reducible apply evOps_g);rfl));intro K hK;simp (contextual:=true) only [go_sem,simprocAttr])|with_reducible refine evOps_nil ?_|((with_reducible refine hK _ ?_);clear hK K)|(with_reducible first|refine And.intro ?_ ?_|refine nxt_n ?_|refine nxt_r ?_|refine inR_mk ?_ ?_)|((with_reducible refine evCall_at 55 ?_);refine EvCall.mk (ar) cal_areCategories [] [2,0,1] (by simp [go_sem] <;> (repeat' (first|rfl|constructor))) (by simp [go_sem] <;> (repeat' (first|rfl|constructor))) ?_;all_goals try simp only [go_sem,simprocAttr])|((with_reducible refine evCall_at 111 ?_);refine EvCall.mk (hmo) cal_movable [] [0,1] (by simp [go_sem] <;> (repeat' (first|rfl|constructor))) (by simp [go_sem] <;> (repeat' (first|rfl|constructor))) ?_;all_goals try simp only [go_sem,simprocAttr])|((with_reducible refine evCall_at 112 ?_);refine EvCall.mk (hall) cal_allFunctors [(0,3)] [0,1] (by simp [go_sem] <;> (repeat' (first|rfl|constructor))) (by simp [go_sem] <;> (repeat' (first|rfl|constructor))) ?_;all_goals try simp only [go_sem,simprocAttr])|(refine fun (hc : (_ : Bool) = _)=>?_;try simp only [hcS] at hc))
        all_goals try exact om_
        all_goals ((first|refine ret_auto ?_|refine ret_auto' ?_);simp only [go_sem,simprocAttr,Tryz.f98])
  · rw [dec_f hM] at hmo
    rcases ho with ⟨ho,_,_⟩|⟨_,rfl,rfl⟩
    · exact absurd ho.1 hM
    · refine spec_of_V (E:=TE) 0 Tryz.func98 rfl (by simp [Tryz.f98]) fun X hn hX=>?_
      repeat' (first|(refine V_at 1 (Imp.trans (Imp.lendCat 2 0 1 c rfl rfl (Nat.le_refl 1)) (Imp.lendCat 3 1 1 d rfl rfl (Nat.le_refl 1))) ?_;simp only [go_sem,simprocAttr])|(with_reducible first|refine V_seq ?_|refine V_skip ?_|refine V_ret ?_)|((with_reducible refine V_cond ?_);simp only [go_sem,simprocAttr])|((refine V_region (by rw [hn];rfl) ?_);intro K hK)|((first|with_reducible refine evOps_n ?_|((with_reducible apply evOps_g);rfl));intro K hK;simp (contextual:=true) only [go_sem,simprocAttr])|with_reducible refine evOps_nil ?_|((with_reducible refine hK _ ?_);clear hK K)|(with_reducible first|refine And.intro ?_ ?_|refine nxt_n ?_|refine nxt_r ?_|refine inR_mk ?_ ?_)|((with_reducible refine evCall_at 55 ?_);refine EvCall.mk (ar) cal_areCategories [] [2,0,1] (by simp [go_sem] <;> (repeat' (first|rfl|constructor))) (by simp [go_sem] <;> (repeat' (first|rfl|constructor))) ?_;all_goals try simp only [go_sem,simprocAttr])|((with_reducible refine evCall_at 111 ?_);refine EvCall.mk (hmo) cal_movable [] [0,1] (by simp [go_sem] <;> (repeat' (first|rfl|constructor))) (by simp [go_sem] <;> (repeat' (first|rfl|constructor))) ?_;all_goals try simp only [go_sem,simprocAttr])|(refine fun (hc : (_ : Bool) = _)=>?_;try simp only [hcS] at hc))
      all_goals try exact om_
      all_goals ((first|refine ret_auto ?_|refine ret_auto' ?_);simp only [go_sem,simprocAttr,Tryz.f98])
theorem mons_flat (F : List Mon) (h : F ≠ []) : (monsD F).flat = false:=by
  cases F with
  | nil=>exact absurd rfl h
  | cons f F=>rfl
theorem adoptMn {P : Program} {F : FuncId} {args : List Sv} {y : Value} (h : Spec P F args [] (.tup [.v (.slice none 0 0),.v y]) []) : Spec P F args [] (.tup [.sl 0,.v y]) [(0,⟨1,.arr (monsD [])⟩)]:=by
  refine Spec.adopt h (fun p hp=>?_) fun w S v cn h=>?_
  · rw [List.mem_singleton] at hp;subst hp
    exact ⟨14,.v (.int .i64 0),by decide,rfl⟩
  · simp only [Sv.ok,Sv.okL] at h ⊢
    obtain ⟨vs,rfl,x,r,rfl,e,hr⟩:=h
    exact ⟨_,rfl,_,_,rfl,⟨Nat.le_refl 1,e⟩,hr⟩
def MaO (c : Cat) (r : Sv) (L1 : List (Nat × Rs)) : Prop :=
  ((c.fr.length ≤ 6 ∧ (fcL c c).length ≤ 200 ∧ MoOK c (fcL c c) (fcL c c).length) ∧ r = .tup [.sl 0,iv 0] ∧ L1 = [(0,⟨1,.arr (monsD (moA c (fcL c c) (fcL c c).length))⟩)]) ∨ (¬ (c.fr.length ≤ 6 ∧ (fcL c c).length ≤ 200 ∧ MoOK c (fcL c c) (fcL c c).length) ∧ r = .tup [.v (.slice none 0 0),iv 3] ∧ L1 = [])
theorem mov6 {c : Cat} (s : Shape c) (h : c.fr.length ≤ 6) : MovP c c:=by
  have:=s.ob0
  unfold MovP
  omega
theorem end_of {c : Cat} {i : Nat} (sc : IsCat c) (hi : i < (fcL c c).length) : EndF c ((fcL c c).getD i default):=by
  have hfl : FL c c (fcL c c):=FL.of_funX
  obtain ⟨h1,h2,h3⟩:=hfl i hi
  exact ⟨sc,h1,h2,h3⟩
theorem end_b {c : Cat} {f : Fun} (h : EndF c f) (bc : CatB c) : FunB f:=by
  have ol:=h.ol
  have al:=h.al
  have c8:=h.sc.toShape.ob8
  have c40:=h.sc.toShape.m40
  exact ⟨by rw [h.es];exact bc,by rw [h.et];exact bc,by omega,by omega⟩
theorem mo_ok0 {c : Cat} {L : List Fun} : MoOK c L 0:=⟨fun k hk=>absurd hk (Nat.not_lt_zero k),Nat.zero_le _⟩
theorem mo_ok1 {c : Cat} {L : List Fun} {i : Nat} (h : MoOK c L i) (ho : (unitsL c (L.getD i default)).length ≤ 200 ∧ (joinsL (L.getD i default)).length ≤ 200) (hl : (moA c L (i + 1)).length ≤ 200) : MoOK c L (i + 1) :=
  ⟨fun k hk=>by
    by_cases e : k = i
    · subst e;exact ho
    · exact h.1 k (by omega),hl⟩
theorem cal_AllMonads : Callable Tryz.prog 45:=⟨_,Tryz.func45,rfl,rfl⟩
theorem sp_AllMonads_bad {c : Cat} (bc : CatB c) (h : ¬ IsCat c) : Spec Tryz.prog 45 [catV c] [] (.tup [.v (.slice none 0 0),iv 1]) []:=by
  have hic:=sp_Category_isCategory bc
  rw [dec_f h] at hic
  refine spec_of_V (E:=TE) 0 Tryz.func45 rfl (by simp [Tryz.f45]) fun X hn hX=>?_
  repeat' (first|(with_reducible first|refine V_seq ?_|refine V_block ?_|refine V_skip ?_|refine V_ret ?_|refine V_exit ?_)|((with_reducible refine V_cond ?_);simp only [go_sem,simprocAttr])|((refine V_region (by rw [hn];rfl) ?_);intro K hK)|((first|with_reducible refine evOps_n ?_|((with_reducible apply evOps_g);rfl));intro K hK;simp (contextual:=true) only [go_sem,simprocAttr])|with_reducible refine evOps_nil ?_|((with_reducible refine hK _ ?_);clear hK K)|(with_reducible first|refine And.intro ?_ ?_|refine nxt_n ?_|refine nxt_r ?_|refine nxt_e ?_|refine blk_n ?_|refine blk_r ?_|refine blk_same ?_|refine blk_other (by decide) ?_|refine noG_n ?_|refine noG_r ?_|refine noG_e ?_|refine inR_mk ?_ ?_)|((with_reducible refine evCall_at 76 ?_);refine EvCall.mk (hic) cal_Category_isCategory [] [0] (by simp [go_sem] <;> (repeat' (first|rfl|constructor))) (by simp [go_sem] <;> (repeat' (first|rfl|constructor))) ?_;all_goals try simp only [go_sem,simprocAttr])|(refine fun (hc : (_ : Bool) = _)=>?_;try simp only [hcS] at hc))
  all_goals try exact om_
  all_goals ((first|refine ret_auto ?_|refine ret_auto' ?_);simp only [go_sem,simprocAttr,Tryz.f45])
theorem sp_AllMonads_o {c : Cat} {r : Sv} {L1 : List (Nat × Rs)} (bc : CatB c) (sc : IsCat c) (ho : MaO c r L1) : Spec Tryz.prog 45 [catV c] [] r L1:=by
  have hic:=sp_Category_isCategory bc
  rw [dec_t sc] at hic
  by_cases h6 : c.fr.length ≤ 6
  · have hM:=mov6 sc.toShape h6
    by_cases hL : (fcL c c).length ≤ 200
    · have haf:=sp_AllFunctors_o sc sc bc bc (.inl ⟨⟨hM,hL⟩,rfl,rfl⟩)
      have hend : ∀ i,i < (fcL c c).length → EndF c ((fcL c c).getD i default):=fun i hi=>end_of sc hi
      unfold MaO at ho
      obtain ⟨L,hLd⟩ : ∃ L,fcL c c = L:=⟨_,rfl⟩
      rw [hLd] at haf hL ho hend
      refine spec_of_V (E:=TE) 0 Tryz.func45 rfl (by simp [Tryz.f45]) fun X hn hX=>?_
      repeat' (first|(with_reducible first|refine V_seq ?_|refine V_block ?_|refine V_skip ?_|refine V_ret ?_|refine V_exit ?_)|((with_reducible refine V_cond ?_);simp only [go_sem,simprocAttr])|((refine V_region (by rw [hn];rfl) ?_);intro K hK)|((first|with_reducible refine evOps_n ?_|((with_reducible apply evOps_g);rfl));intro K hK;simp (contextual:=true) only [go_sem,simprocAttr])|with_reducible refine evOps_nil ?_|((with_reducible refine hK _ ?_);clear hK K)|(with_reducible first|refine And.intro ?_ ?_|refine nxt_n ?_|refine nxt_r ?_|refine nxt_e ?_|refine blk_n ?_|refine blk_r ?_|refine blk_same ?_|refine blk_other (by decide) ?_|refine noG_n ?_|refine noG_r ?_|refine noG_e ?_|refine inR_mk ?_ ?_)|((with_reducible refine evCall_at 76 ?_);refine EvCall.mk (hic) cal_Category_isCategory [] [0] (by simp [go_sem] <;> (repeat' (first|rfl|constructor))) (by simp [go_sem] <;> (repeat' (first|rfl|constructor))) ?_;all_goals try simp only [go_sem,simprocAttr])|((with_reducible refine evCall_at 69 ?_);refine EvCall.rq (a:=(sp_Category_arrows)) (b:=cal_Category_arrows) (c:=?_);all_goals try simp only [go_sem,simprocAttr])|((with_reducible refine evCall_at 98 ?_);refine EvCall.mk (haf) cal_AllFunctors [(0,1)] [] (by simp [go_sem] <;> (repeat' (first|rfl|constructor))) (by simp [go_sem] <;> (repeat' (first|rfl|constructor))) ?_;all_goals try simp only [go_sem,simprocAttr])|(refine fun (hc : (_ : Bool) = _)=>?_;try simp only [hcS] at hc))
      all_goals try exact om_
      refine V_loopK (G:={i : Nat // i ≤ L.length ∧ (MoOK c L i)}) (fun ⟨i,_⟩=>[(26,iv i),(1,.ptr 0 0),(4,.sl 1),(24,.sl 1),(6,.sl 2)]) [25] (fun ⟨i,_⟩=>[(1,⟨1,.arr (funsD L)⟩),(2,⟨1,.arr (monsD (moA c L i))⟩)]) [1,2] (fun zz=>L.length - zz.1) ⟨0,Nat.zero_le _,by exact mo_ok0⟩ ?_ ?_
      · exact Imp.au hX
      rintro ⟨i,hii,hwi⟩
      simp only [go_sem,simprocAttr]
      have hml:=hwi.2
      rcases Nat.lt_or_ge i L.length with hli | hgi
      · have hE:=hend i hli
        have hB:=end_b hE bc
        have es:=hE.es
        have hE2 : EndF (L.getD i default).src (L.getD i default):=by rw [es];exact hE
        have hpi:=funs_part L i hli
        by_cases ho1 : (unitsL c (L.getD i default)).length ≤ 200 ∧ (joinsL (L.getD i default)).length ≤ 200
        · have hmn:=sp_monadsOn_o hE2 hB (.inl ⟨by rw [es];exact ho1,rfl,rfl⟩)
          rw [es] at hmn
          have e1:=moA_succ (c:=c) (L:=L) (i:=i)
          have hxl : (moF c (L.getD i default)).length ≤ 40200:=by
            have h1:=moU_len (c:=c) (f:=L.getD i default) (U:=unitsL c (L.getD i default)) (J:=joinsL (L.getD i default)) (i:=(unitsL c (L.getD i default)).length) (k:=0)
            have h2:=Nat.mul_le_mul ho1.1 ho1.2
            have h3:=ho1.2
            unfold moF
            omega
          obtain ⟨G,hG⟩ : ∃ G,moF c (L.getD i default) = G:=⟨_,rfl⟩
          rw [hG] at hmn e1 hxl
          have el : (moA c L i ++ G).length = (moA c L i).length + G.length:=List.length_append
          by_cases h200 : (moA c L i).length + G.length ≤ 200
          · have hk1:=mo_ok1 hwi ho1 (by rw [e1,el];exact h200)
            by_cases hG0 : G = []
            · have hfl : (monsD G).flat = true:=by rw [hG0];rfl
              repeat' (first|(exfalso;omega)|(rw [hfl];simp only [go_sem,simprocAttr])|(with_reducible first|refine V_seq ?_|refine V_block ?_|refine V_skip ?_|refine V_ret ?_|refine V_exit ?_)|((with_reducible refine V_cond ?_);simp only [go_sem,simprocAttr])|((refine V_region (by rw [hn];rfl) ?_);intro K hK)|((first|with_reducible refine evOps_n ?_|((with_reducible apply evOps_g);rfl));intro K hK;simp (contextual:=true) only [go_sem,simprocAttr])|with_reducible refine evOps_nil ?_|((with_reducible refine hK _ ?_);clear hK K)|(with_reducible first|refine And.intro ?_ ?_|refine nxt_n ?_|refine nxt_r ?_|refine nxt_e ?_|refine blk_n ?_|refine blk_r ?_|refine blk_same ?_|refine blk_other (by decide) ?_|refine noG_n ?_|refine noG_r ?_|refine noG_e ?_|refine inR_mk ?_ ?_)|((with_reducible refine evCall_at 102 ?_);refine EvCall.mk hmn cal_monadsOn [(0,3)] [1] (by simp [go_sem] <;> (repeat' (first|rfl|constructor))) (by simp only [List.append_nil,Sv.mtL,Sv.mt,Sv.viewP];exact ⟨⟨trivial,by simp,.inr ⟨12,_,_,rfl,hpi⟩⟩,trivial⟩) ?_;all_goals try simp only [go_sem,simprocAttr])|(refine fun (hc : (_ : Bool) = _)=>?_;try simp only [hcS] at hc))
              all_goals try exact om_
              · refine ⟨⟨i + 1,by omega,(by exact hk1)⟩,by simp only;omega,Imp.auto hX (by simp only [go_sem,simprocAttr,e1])⟩
            · have hfl:=mons_flat G hG0
              repeat' (first|(exfalso;omega)|(rw [hfl];simp only [go_sem,simprocAttr])|(with_reducible first|refine V_seq ?_|refine V_block ?_|refine V_skip ?_|refine V_ret ?_|refine V_exit ?_)|((with_reducible refine V_cond ?_);simp only [go_sem,simprocAttr])|((refine V_region (by rw [hn];rfl) ?_);intro K hK)|((first|with_reducible refine evOps_n ?_|((with_reducible apply evOps_g);rfl));intro K hK;simp (contextual:=true) only [go_sem,simprocAttr])|with_reducible refine evOps_nil ?_|((with_reducible refine hK _ ?_);clear hK K)|(with_reducible first|refine And.intro ?_ ?_|refine nxt_n ?_|refine nxt_r ?_|refine nxt_e ?_|refine blk_n ?_|refine blk_r ?_|refine blk_same ?_|refine blk_other (by decide) ?_|refine noG_n ?_|refine noG_r ?_|refine noG_e ?_|refine inR_mk ?_ ?_)|((with_reducible refine evCall_at 102 ?_);refine EvCall.mk hmn cal_monadsOn [(0,3)] [1] (by simp [go_sem] <;> (repeat' (first|rfl|constructor))) (by simp only [List.append_nil,Sv.mtL,Sv.mt,Sv.viewP];exact ⟨⟨trivial,by simp,.inr ⟨12,_,_,rfl,hpi⟩⟩,trivial⟩) ?_;all_goals try simp only [go_sem,simprocAttr])|(refine fun (hc : (_ : Bool) = _)=>?_;try simp only [hcS] at hc))
              all_goals try exact om_
              · refine ⟨⟨i + 1,by omega,(by exact hk1)⟩,by simp only;omega,Imp.auto hX (by simp only [go_sem,simprocAttr,e1])⟩
          · rcases ho with ⟨hy,_,_⟩|⟨_,rfl,rfl⟩
            · have:=(hy.2.2.pre (i:=i + 1) (by omega)).2
              rw [e1,el] at this
              exact absurd this h200
            · by_cases hG0 : G = []
              · exfalso
                rw [hG0] at h200
                exact h200 hml
              · have hfl:=mons_flat G hG0
                repeat' (first|(exfalso;omega)|(rw [hfl];simp only [go_sem,simprocAttr])|(with_reducible first|refine V_seq ?_|refine V_block ?_|refine V_skip ?_|refine V_ret ?_|refine V_exit ?_)|((with_reducible refine V_cond ?_);simp only [go_sem,simprocAttr])|((refine V_region (by rw [hn];rfl) ?_);intro K hK)|((first|with_reducible refine evOps_n ?_|((with_reducible apply evOps_g);rfl));intro K hK;simp (contextual:=true) only [go_sem,simprocAttr])|with_reducible refine evOps_nil ?_|((with_reducible refine hK _ ?_);clear hK K)|(with_reducible first|refine And.intro ?_ ?_|refine nxt_n ?_|refine nxt_r ?_|refine nxt_e ?_|refine blk_n ?_|refine blk_r ?_|refine blk_same ?_|refine blk_other (by decide) ?_|refine noG_n ?_|refine noG_r ?_|refine noG_e ?_|refine inR_mk ?_ ?_)|((with_reducible refine evCall_at 102 ?_);refine EvCall.mk hmn cal_monadsOn [(0,3)] [1] (by simp [go_sem] <;> (repeat' (first|rfl|constructor))) (by simp only [List.append_nil,Sv.mtL,Sv.mt,Sv.viewP];exact ⟨⟨trivial,by simp,.inr ⟨12,_,_,rfl,hpi⟩⟩,trivial⟩) ?_;all_goals try simp only [go_sem,simprocAttr])|(refine fun (hc : (_ : Bool) = _)=>?_;try simp only [hcS] at hc))
                all_goals try exact om_
                all_goals ((first|refine ret_auto ?_|refine ret_auto' ?_);simp only [go_sem,simprocAttr,Tryz.f45])
        · have hmn:=sp_monadsOn_o hE2 hB (.inr ⟨by rw [es];exact ho1,rfl,rfl⟩)
          rcases ho with ⟨hy,_,_⟩|⟨_,rfl,rfl⟩
          · exact absurd (hy.2.2.1 i hli) ho1
          · repeat' (first|(exfalso;omega)|(with_reducible first|refine V_seq ?_|refine V_block ?_|refine V_skip ?_|refine V_ret ?_|refine V_exit ?_)|((with_reducible refine V_cond ?_);simp only [go_sem,simprocAttr])|((refine V_region (by rw [hn];rfl) ?_);intro K hK)|((first|with_reducible refine evOps_n ?_|((with_reducible apply evOps_g);rfl));intro K hK;simp (contextual:=true) only [go_sem,simprocAttr])|with_reducible refine evOps_nil ?_|((with_reducible refine hK _ ?_);clear hK K)|(with_reducible first|refine And.intro ?_ ?_|refine nxt_n ?_|refine nxt_r ?_|refine nxt_e ?_|refine blk_n ?_|refine blk_r ?_|refine blk_same ?_|refine blk_other (by decide) ?_|refine noG_n ?_|refine noG_r ?_|refine noG_e ?_|refine inR_mk ?_ ?_)|((with_reducible refine evCall_at 102 ?_);refine EvCall.mk hmn cal_monadsOn [] [1] (by simp [go_sem] <;> (repeat' (first|rfl|constructor))) (by simp only [List.append_nil,Sv.mtL,Sv.mt,Sv.viewP];exact ⟨⟨trivial,by simp,.inr ⟨12,_,_,rfl,hpi⟩⟩,trivial⟩) ?_;all_goals try simp only [go_sem,simprocAttr])|(refine fun (hc : (_ : Bool) = _)=>?_;try simp only [hcS] at hc))
            all_goals try exact om_
            all_goals ((first|refine ret_auto ?_|refine ret_auto' ?_);simp only [go_sem,simprocAttr,Tryz.f45])
      · have ei : i = L.length:=by omega
        subst ei
        rcases ho with ⟨_,rfl,rfl⟩|⟨hn2,_,_⟩
        · repeat' (first|(with_reducible first|refine V_seq ?_|refine V_block ?_|refine V_skip ?_|refine V_ret ?_|refine V_exit ?_)|((with_reducible refine V_cond ?_);simp only [go_sem,simprocAttr])|((refine V_region (by rw [hn];rfl) ?_);intro K hK)|((first|with_reducible refine evOps_n ?_|((with_reducible apply evOps_g);rfl));intro K hK;simp (contextual:=true) only [go_sem,simprocAttr])|with_reducible refine evOps_nil ?_|((with_reducible refine hK _ ?_);clear hK K)|(with_reducible first|refine And.intro ?_ ?_|refine nxt_n ?_|refine nxt_r ?_|refine nxt_e ?_|refine blk_n ?_|refine blk_r ?_|refine blk_same ?_|refine blk_other (by decide) ?_|refine noG_n ?_|refine noG_r ?_|refine noG_e ?_|refine inR_mk ?_ ?_)|(refine fun (hc : (_ : Bool) = _)=>?_;try simp only [hcS] at hc))
          all_goals try exact om_
          · (first|refine ret_auto ?_|refine ret_auto' ?_);simp only [go_sem,simprocAttr,Tryz.f45]
        · exact absurd ⟨h6,hL,hwi⟩ hn2
    · have haf:=sp_AllFunctors_o sc sc bc bc (.inr ⟨fun q=>hL q.2,rfl,rfl⟩)
      rcases ho with ⟨ho,_,_⟩|⟨_,rfl,rfl⟩
      · exact absurd ho.2.1 hL
      · refine spec_of_V (E:=TE) 0 Tryz.func45 rfl (by simp [Tryz.f45]) fun X hn hX=>?_
        repeat' (first|(with_reducible first|refine V_seq ?_|refine V_block ?_|refine V_skip ?_|refine V_ret ?_|refine V_exit ?_)|((with_reducible refine V_cond ?_);simp only [go_sem,simprocAttr])|((refine V_region (by rw [hn];rfl) ?_);intro K hK)|((first|with_reducible refine evOps_n ?_|((with_reducible apply evOps_g);rfl));intro K hK;simp (contextual:=true) only [go_sem,simprocAttr])|with_reducible refine evOps_nil ?_|((with_reducible refine hK _ ?_);clear hK K)|(with_reducible first|refine And.intro ?_ ?_|refine nxt_n ?_|refine nxt_r ?_|refine nxt_e ?_|refine blk_n ?_|refine blk_r ?_|refine blk_same ?_|refine blk_other (by decide) ?_|refine noG_n ?_|refine noG_r ?_|refine noG_e ?_|refine inR_mk ?_ ?_)|((with_reducible refine evCall_at 76 ?_);refine EvCall.mk (hic) cal_Category_isCategory [] [0] (by simp [go_sem] <;> (repeat' (first|rfl|constructor))) (by simp [go_sem] <;> (repeat' (first|rfl|constructor))) ?_;all_goals try simp only [go_sem,simprocAttr])|((with_reducible refine evCall_at 69 ?_);refine EvCall.rq (a:=(sp_Category_arrows)) (b:=cal_Category_arrows) (c:=?_);all_goals try simp only [go_sem,simprocAttr])|((with_reducible refine evCall_at 98 ?_);refine EvCall.mk (haf) cal_AllFunctors [] [] (by simp [go_sem] <;> (repeat' (first|rfl|constructor))) (by simp [go_sem] <;> (repeat' (first|rfl|constructor))) ?_;all_goals try simp only [go_sem,simprocAttr])|(refine fun (hc : (_ : Bool) = _)=>?_;try simp only [hcS] at hc))
        all_goals try exact om_
        all_goals ((first|refine ret_auto ?_|refine ret_auto' ?_);simp only [go_sem,simprocAttr,Tryz.f45])
  · rcases ho with ⟨ho,_,_⟩|⟨_,rfl,rfl⟩
    · exact absurd ho.1 h6
    · refine spec_of_V (E:=TE) 0 Tryz.func45 rfl (by simp [Tryz.f45]) fun X hn hX=>?_
      repeat' (first|(with_reducible first|refine V_seq ?_|refine V_block ?_|refine V_skip ?_|refine V_ret ?_|refine V_exit ?_)|((with_reducible refine V_cond ?_);simp only [go_sem,simprocAttr])|((refine V_region (by rw [hn];rfl) ?_);intro K hK)|((first|with_reducible refine evOps_n ?_|((with_reducible apply evOps_g);rfl));intro K hK;simp (contextual:=true) only [go_sem,simprocAttr])|with_reducible refine evOps_nil ?_|((with_reducible refine hK _ ?_);clear hK K)|(with_reducible first|refine And.intro ?_ ?_|refine nxt_n ?_|refine nxt_r ?_|refine nxt_e ?_|refine blk_n ?_|refine blk_r ?_|refine blk_same ?_|refine blk_other (by decide) ?_|refine noG_n ?_|refine noG_r ?_|refine noG_e ?_|refine inR_mk ?_ ?_)|((with_reducible refine evCall_at 76 ?_);refine EvCall.mk (hic) cal_Category_isCategory [] [0] (by simp [go_sem] <;> (repeat' (first|rfl|constructor))) (by simp [go_sem] <;> (repeat' (first|rfl|constructor))) ?_;all_goals try simp only [go_sem,simprocAttr])|((with_reducible refine evCall_at 69 ?_);refine EvCall.rq (a:=(sp_Category_arrows)) (b:=cal_Category_arrows) (c:=?_);all_goals try simp only [go_sem,simprocAttr])|(refine fun (hc : (_ : Bool) = _)=>?_;try simp only [hcS] at hc))
      all_goals try exact om_
      all_goals ((first|refine ret_auto ?_|refine ret_auto' ?_);simp only [go_sem,simprocAttr,Tryz.f45])
end Go.Eng
end
