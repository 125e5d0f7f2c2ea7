/- Several texts in one: R27, R28. -/
import Derived.Test.YtmpopmololpaoaaGreatKaex
set_option linter.unusedSimpArgs false
set_option linter.unusedVariables false
set_option maxRecDepth 100000
set_option maxHeartbeats 16000000
section
namespace Go.Eng
open Go Go.Proofs Go.Cats
theorem mul_b {x n : Int} (h0 : 0 ≤ x) (h1 : x ≤ 64) (h2 : 0 ≤ n) (h3 : n ≤ 64) : 0 ≤ x * n ∧ x * n ≤ 4096 :=
  ⟨Int.mul_nonneg h0 h2,Int.mul_le_mul h1 h3 h2 (by omega)⟩
attribute [local go_sem] List.set_cons_zero List.set_cons_succ pq_zero prW_zero prT_zero
theorem sp_l03Product {c d : Cat} (sc : Shape c) (sd : Shape d) : Spec Tryz.prog 86 [catV c,catV d] [] (.agg [iv (prC c d).ob,.sl 0,.sl 1,.sl 2,.sl 3]) [(0,⟨1,.arr (ints (prC c d).fr)⟩),(1,⟨1,.arr (ints (prC c d).to)⟩),(2,⟨1,.arr (ints (prC c d).id)⟩),(3,⟨1,.arr (intss (prC c d).co)⟩)]:=by
  have c0:=sc.ob0
  have c8:=sc.ob8
  have c40:=sc.m40
  have ctl:=sc.tol
  have cil:=sc.idl
  have ccl:=sc.col
  have d0:=sd.ob0
  have d8:=sd.ob8
  have d40:=sd.m40
  have dtl:=sd.tol
  have dil:=sd.idl
  have dcl:=sd.col
  have e0:=mul_b c0 (by omega) d0 (by omega)
  have eP : prC c d = ⟨c.ob * d.ob,pq d.fr.length c.fr d.fr d.ob (c.fr.length * d.fr.length),pq d.fr.length c.to d.to d.ob (c.fr.length * d.fr.length),pq d.id.length c.id d.id d.fr.length (c.id.length * d.id.length),prT c d (c.fr.length * d.fr.length)⟩:=rfl
  rw [eP]
  refine spec_of_V (E:=TE) 0 Tryz.func86 rfl (by simp [Tryz.f86]) fun X hn hX=>?_
  repeat' (first|(with_reducible first|refine V_seq ?_|refine V_block ?_|refine V_skip ?_|refine V_ret ?_|refine V_exit ?_)|((with_reducible refine V_cond ?_);simp only [go_sem,simprocAttr])|((first|refine V_region (by rw [hn];rfl) ?_|refine V_drawn hmix (by rw [hn];rfl) ?_);intro K hK)|((first|with_reducible refine evOps_n ?_|((with_reducible apply evOps_g);rfl)|with_reducible refine evOpsD_n ?_|((with_reducible apply evOpsD_g);rfl));intro K hK;simp (contextual:=true) only [go_sem,simprocAttr])|with_reducible refine evOps_nil ?_|((with_reducible refine evOpsD_nil ?_ ?_);kernel_rfl)|((with_reducible refine hK _ ?_);clear hK K)|(with_reducible first|refine And.intro ?_ ?_|refine nxt_n ?_|refine nxt_r ?_|refine nxt_e ?_|refine blk_n ?_|refine blk_r ?_|refine blk_same ?_|refine blk_other (by decide) ?_|refine noG_n ?_|refine noG_r ?_|refine noG_e ?_|refine inR_mk ?_ ?_)|(refine fun (hc : (_ : Bool) = _)=>?_;try simp only [hcS] at hc))
  all_goals try exact om_
  refine V_loopK (G:={i : Nat // i ≤ c.ob.toNat ∧ (True)}) (fun ⟨i,_⟩=>[(8,iv i),(4,.ptr 2 0),(7,.ptr 7 0)]) [2,3,5,6] (fun ⟨i,_⟩=>[(7,⟨1,.box [iv (c.ob * d.ob),.sl 3,.sl 4,.sl 5,.sl 6]⟩),(3,⟨1,.arr (ints [])⟩),(4,⟨1,.arr (ints [])⟩),(5,⟨1,.arr (ints (pq d.id.length c.id d.id d.fr.length (i * d.id.length)))⟩),(6,⟨1,.arr (intss [])⟩)]) [3,4,5,6,7] (fun zz=>c.ob.toNat - zz.1) ⟨0,Nat.zero_le _,by trivial⟩ ?_ ?_
  · exact Imp.auto hX (by simp [go_sem,simprocAttr,Nat.zero_mul])
  rintro ⟨i,hii,hwi⟩
  simp only [go_sem,simprocAttr]
  rcases Nat.lt_or_ge i c.ob.toNat with hli | hgi
  · repeat' (first|(with_reducible first|refine V_seq ?_|refine V_block ?_|refine V_skip ?_|refine V_ret ?_|refine V_exit ?_)|((with_reducible refine V_cond ?_);simp only [go_sem,simprocAttr])|((first|refine V_region (by rw [hn];rfl) ?_|refine V_drawn hmix (by rw [hn];rfl) ?_);intro K hK)|((first|with_reducible refine evOps_n ?_|((with_reducible apply evOps_g);rfl)|with_reducible refine evOpsD_n ?_|((with_reducible apply evOpsD_g);rfl));intro K hK;simp (contextual:=true) only [go_sem,simprocAttr])|with_reducible refine evOps_nil ?_|((with_reducible refine evOpsD_nil ?_ ?_);kernel_rfl)|((with_reducible refine hK _ ?_);clear hK K)|(with_reducible first|refine And.intro ?_ ?_|refine nxt_n ?_|refine nxt_r ?_|refine nxt_e ?_|refine blk_n ?_|refine blk_r ?_|refine blk_same ?_|refine blk_other (by decide) ?_|refine noG_n ?_|refine noG_r ?_|refine noG_e ?_|refine inR_mk ?_ ?_)|(refine fun (hc : (_ : Bool) = _)=>?_;try simp only [hcS] at hc))
    all_goals try exact om_
    refine V_loopK (G:={j : Nat // j ≤ d.ob.toNat ∧ (True)}) (fun ⟨j,_⟩=>[(9,iv j),(4,.ptr 2 0),(7,.ptr 7 0),(8,iv i)]) [2,3,5,6] (fun ⟨j,_⟩=>[(7,⟨1,.box [iv (c.ob * d.ob),.sl 3,.sl 4,.sl 5,.sl 6]⟩),(3,⟨1,.arr (ints [])⟩),(4,⟨1,.arr (ints [])⟩),(5,⟨1,.arr (ints (pq d.id.length c.id d.id d.fr.length (i * d.id.length + j)))⟩),(6,⟨1,.arr (intss [])⟩)]) [3,4,5,6,7] (fun zz=>d.ob.toNat - zz.1) ⟨0,Nat.zero_le _,by first|trivial|simp⟩ ?_ ?_
    · exact Imp.au hX
    rintro ⟨j,hij,hwj⟩
    simp only [go_sem,simprocAttr]
    have hln:=pq_len (n:=d.id.length) (x:=c.id) (y:=d.id) (w:=(d.fr.length : Int)) (k:=i * d.id.length + j)
    have hle : i * d.id.length + j ≤ 64:=by
      have:=Nat.mul_le_mul_right d.id.length (show i + 1 ≤ 8 by omega)
      rw [Nat.succ_mul] at this
      omega
    rcases Nat.lt_or_ge j d.ob.toNat with hlj | hgj
    · have w1:=sc.idw i (by omega)
      have w2:=sd.idw j (by omega)
      have e1:=mul_b (x:=c.id.getD i 0) (n:=(d.fr.length : Int)) w1.1 (by omega) (by omega) (by omega)
      have e2:=pq_succ (n:=d.id.length) (x:=c.id) (y:=d.id) (w:=(d.fr.length : Int)) (i:=i) (j:=j) (by omega)
      repeat' (first|(with_reducible first|refine V_seq ?_|refine V_block ?_|refine V_skip ?_|refine V_ret ?_|refine V_exit ?_)|((with_reducible refine V_cond ?_);simp only [go_sem,simprocAttr])|((first|refine V_region (by rw [hn];rfl) ?_|refine V_drawn hmix (by rw [hn];rfl) ?_);intro K hK)|((first|with_reducible refine evOps_n ?_|((with_reducible apply evOps_g);rfl)|with_reducible refine evOpsD_n ?_|((with_reducible apply evOpsD_g);rfl));intro K hK;simp (contextual:=true) only [go_sem,simprocAttr])|with_reducible refine evOps_nil ?_|((with_reducible refine evOpsD_nil ?_ ?_);kernel_rfl)|((with_reducible refine hK _ ?_);clear hK K)|(with_reducible first|refine And.intro ?_ ?_|refine nxt_n ?_|refine nxt_r ?_|refine nxt_e ?_|refine blk_n ?_|refine blk_r ?_|refine blk_same ?_|refine blk_other (by decide) ?_|refine noG_n ?_|refine noG_r ?_|refine noG_e ?_|refine inR_mk ?_ ?_)|(refine fun (hc : (_ : Bool) = _)=>?_;try simp only [hcS] at hc))
      all_goals try exact om_
      · refine ⟨⟨j + 1,by omega,(by trivial)⟩,by simp only;omega,Imp.auto hX (by simp only [go_sem,simprocAttr,e2])⟩
    · have ej : j = d.id.length:=by omega
      subst ej
      have e3 : i * d.id.length + d.id.length = (i + 1) * d.id.length:=(Nat.succ_mul _ _).symm
      repeat' (first|(with_reducible first|refine V_seq ?_|refine V_block ?_|refine V_skip ?_|refine V_ret ?_|refine V_exit ?_)|((with_reducible refine V_cond ?_);simp only [go_sem,simprocAttr])|((first|refine V_region (by rw [hn];rfl) ?_|refine V_drawn hmix (by rw [hn];rfl) ?_);intro K hK)|((first|with_reducible refine evOps_n ?_|((with_reducible apply evOps_g);rfl)|with_reducible refine evOpsD_n ?_|((with_reducible apply evOpsD_g);rfl));intro K hK;simp (contextual:=true) only [go_sem,simprocAttr])|with_reducible refine evOps_nil ?_|((with_reducible refine evOpsD_nil ?_ ?_);kernel_rfl)|((with_reducible refine hK _ ?_);clear hK K)|(with_reducible first|refine And.intro ?_ ?_|refine nxt_n ?_|refine nxt_r ?_|refine nxt_e ?_|refine blk_n ?_|refine blk_r ?_|refine blk_same ?_|refine blk_other (by decide) ?_|refine noG_n ?_|refine noG_r ?_|refine noG_e ?_|refine inR_mk ?_ ?_)|(refine fun (hc : (_ : Bool) = _)=>?_;try simp only [hcS] at hc))
      all_goals try exact om_
      · refine ⟨⟨i + 1,by omega,(by (trivial))⟩,by simp only;omega,Imp.auto hX (by simp only [go_sem,simprocAttr,e3])⟩
  · have ei : i = c.ob.toNat:=by omega
    subst ei
    repeat' (first|(with_reducible first|refine V_seq ?_|refine V_block ?_|refine V_skip ?_|refine V_ret ?_|refine V_exit ?_)|((with_reducible refine V_cond ?_);simp only [go_sem,simprocAttr])|((first|refine V_region (by rw [hn];rfl) ?_|refine V_drawn hmix (by rw [hn];rfl) ?_);intro K hK)|((first|with_reducible refine evOps_n ?_|((with_reducible apply evOps_g);rfl)|with_reducible refine evOpsD_n ?_|((with_reducible apply evOpsD_g);rfl));intro K hK;simp (contextual:=true) only [go_sem,simprocAttr])|with_reducible refine evOps_nil ?_|((with_reducible refine evOpsD_nil ?_ ?_);kernel_rfl)|((with_reducible refine hK _ ?_);clear hK K)|(with_reducible first|refine And.intro ?_ ?_|refine nxt_n ?_|refine nxt_r ?_|refine nxt_e ?_|refine blk_n ?_|refine blk_r ?_|refine blk_same ?_|refine blk_other (by decide) ?_|refine noG_n ?_|refine noG_r ?_|refine noG_e ?_|refine inR_mk ?_ ?_)|(refine fun (hc : (_ : Bool) = _)=>?_;try simp only [hcS] at hc))
    all_goals try exact om_
    refine V_loopK (G:={a : Nat // a ≤ c.fr.length ∧ (True)}) (fun ⟨a,_⟩=>[(10,iv a),(4,.ptr 2 0),(7,.ptr 7 0)]) [2,3,5,6] (fun ⟨a,_⟩=>[(7,⟨1,.box [iv (c.ob * d.ob),.sl 3,.sl 4,.sl 5,.sl 6]⟩),(3,⟨1,.arr (ints (pq d.fr.length c.fr d.fr d.ob (a * d.fr.length)))⟩),(4,⟨1,.arr (ints (pq d.fr.length c.to d.to d.ob (a * d.fr.length)))⟩),(5,⟨1,.arr (ints (pq d.id.length c.id d.id d.fr.length (c.ob.toNat * d.id.length)))⟩),(6,⟨1,.arr (intss (prT c d (a * d.fr.length)))⟩)]) [3,4,5,6,7] (fun zz=>c.fr.length - zz.1) ⟨0,Nat.zero_le _,by trivial⟩ ?_ ?_
    · exact Imp.auto hX (by simp [go_sem,simprocAttr,Nat.zero_mul])
    rintro ⟨a,hia,hwa⟩
    simp only [go_sem,simprocAttr]
    rcases Nat.lt_or_ge a c.fr.length with hla | hga
    · repeat' (first|(with_reducible first|refine V_seq ?_|refine V_block ?_|refine V_skip ?_|refine V_ret ?_|refine V_exit ?_)|((with_reducible refine V_cond ?_);simp only [go_sem,simprocAttr])|((first|refine V_region (by rw [hn];rfl) ?_|refine V_drawn hmix (by rw [hn];rfl) ?_);intro K hK)|((first|with_reducible refine evOps_n ?_|((with_reducible apply evOps_g);rfl)|with_reducible refine evOpsD_n ?_|((with_reducible apply evOpsD_g);rfl));intro K hK;simp (contextual:=true) only [go_sem,simprocAttr])|with_reducible refine evOps_nil ?_|((with_reducible refine evOpsD_nil ?_ ?_);kernel_rfl)|((with_reducible refine hK _ ?_);clear hK K)|(with_reducible first|refine And.intro ?_ ?_|refine nxt_n ?_|refine nxt_r ?_|refine nxt_e ?_|refine blk_n ?_|refine blk_r ?_|refine blk_same ?_|refine blk_other (by decide) ?_|refine noG_n ?_|refine noG_r ?_|refine noG_e ?_|refine inR_mk ?_ ?_)|(refine fun (hc : (_ : Bool) = _)=>?_;try simp only [hcS] at hc))
      all_goals try exact om_
      refine V_loopK (G:={b : Nat // b ≤ d.fr.length ∧ (True)}) (fun ⟨b,_⟩=>[(11,iv b),(4,.ptr 2 0),(7,.ptr 7 0),(10,iv a)]) [2,3,5,6] (fun ⟨b,_⟩=>[(7,⟨1,.box [iv (c.ob * d.ob),.sl 3,.sl 4,.sl 5,.sl 6]⟩),(3,⟨1,.arr (ints (pq d.fr.length c.fr d.fr d.ob (a * d.fr.length + b)))⟩),(4,⟨1,.arr (ints (pq d.fr.length c.to d.to d.ob (a * d.fr.length + b)))⟩),(5,⟨1,.arr (ints (pq d.id.length c.id d.id d.fr.length (c.ob.toNat * d.id.length)))⟩),(6,⟨1,.arr (intss (prT c d (a * d.fr.length + b)))⟩)]) [3,4,5,6,7] (fun zz=>d.fr.length - zz.1) ⟨0,Nat.zero_le _,by first|trivial|simp⟩ ?_ ?_
      · exact Imp.au hX
      rintro ⟨b,hib,hwb⟩
      simp only [go_sem,simprocAttr]
      have hle : a * d.fr.length + b ≤ 1640:=by
        have:=Nat.mul_le_mul hla d40
        rw [Nat.succ_mul] at this
        omega
      have l1:=pq_len (n:=d.fr.length) (x:=c.fr) (y:=d.fr) (w:=d.ob) (k:=a * d.fr.length + b)
      have l2:=pq_len (n:=d.fr.length) (x:=c.to) (y:=d.to) (w:=d.ob) (k:=a * d.fr.length + b)
      have l3:=prT_len (c:=c) (d:=d) (k:=a * d.fr.length + b)
      rcases Nat.lt_or_ge b d.fr.length with hlb | hgb
      · have w1:=sc.frw a hla
        have w2:=sd.frw b hlb
        have w3:=sc.tow a (by omega)
        have w4:=sd.tow b (by omega)
        have e1:=mul_b (x:=c.fr.getD a 0) (n:=d.ob) w1.1 (by omega) (by omega) (by omega)
        have e2:=mul_b (x:=c.to.getD a 0) (n:=d.ob) w3.1 (by omega) (by omega) (by omega)
        have p1:=pq_succ (n:=d.fr.length) (x:=c.fr) (y:=d.fr) (w:=d.ob) (i:=a) (j:=b) hlb
        have p2:=pq_succ (n:=d.fr.length) (x:=c.to) (y:=d.to) (w:=d.ob) (i:=a) (j:=b) hlb
        have r1:=(sc.coe a hla).1
        have r2:=(sd.coe b hlb).1
        repeat' (first|(with_reducible first|refine V_seq ?_|refine V_block ?_|refine V_skip ?_|refine V_ret ?_|refine V_exit ?_)|((with_reducible refine V_cond ?_);simp only [go_sem,simprocAttr])|((first|refine V_region (by rw [hn];rfl) ?_|refine V_drawn hmix (by rw [hn];rfl) ?_);intro K hK)|((first|with_reducible refine evOps_n ?_|((with_reducible apply evOps_g);rfl)|with_reducible refine evOpsD_n ?_|((with_reducible apply evOpsD_g);rfl));intro K hK;simp (contextual:=true) only [go_sem,simprocAttr])|with_reducible refine evOps_nil ?_|((with_reducible refine evOpsD_nil ?_ ?_);kernel_rfl)|((with_reducible refine hK _ ?_);clear hK K)|(with_reducible first|refine And.intro ?_ ?_|refine nxt_n ?_|refine nxt_r ?_|refine nxt_e ?_|refine blk_n ?_|refine blk_r ?_|refine blk_same ?_|refine blk_other (by decide) ?_|refine noG_n ?_|refine noG_r ?_|refine noG_e ?_|refine inR_mk ?_ ?_)|(refine fun (hc : (_ : Bool) = _)=>?_;try simp only [hcS] at hc))
        all_goals try exact om_
        refine V_loopK (G:={k : Nat // k ≤ c.fr.length ∧ (True)}) (fun ⟨k,_⟩=>[(13,iv k),(4,.ptr 2 0),(7,.ptr 7 0),(10,iv a),(11,iv b),(12,.sl 12),(88,.sl 8),(106,.sl 10)]) [2,3,5,6] (fun ⟨k,_⟩=>[(7,⟨1,.box [iv (c.ob * d.ob),.sl 9,.sl 11,.sl 5,.sl 6]⟩),(9,⟨1,.arr (ints (pq d.fr.length c.fr d.fr d.ob (a * d.fr.length + (b + 1))))⟩),(11,⟨1,.arr (ints (pq d.fr.length c.to d.to d.ob (a * d.fr.length + (b + 1))))⟩),(5,⟨1,.arr (ints (pq d.id.length c.id d.id d.fr.length (c.ob.toNat * d.id.length)))⟩),(6,⟨1,.arr (intss (prT c d (a * d.fr.length + b)))⟩),(12,⟨1,.arr (ints (prW c d (a * d.fr.length + b) (k * d.fr.length)))⟩)]) [5,6,7,9,11,12] (fun zz=>c.fr.length - zz.1) ⟨0,Nat.zero_le _,by trivial⟩ ?_ ?_
        · exact Imp.auto hX (by simp [go_sem,simprocAttr,Nat.zero_mul,p1,p2])
        rintro ⟨k,hik,hwk⟩
        simp only [go_sem,simprocAttr]
        rcases Nat.lt_or_ge k c.fr.length with hlk | hgk
        · repeat' (first|(with_reducible first|refine V_seq ?_|refine V_block ?_|refine V_skip ?_|refine V_ret ?_|refine V_exit ?_)|((with_reducible refine V_cond ?_);simp only [go_sem,simprocAttr])|((first|refine V_region (by rw [hn];rfl) ?_|refine V_drawn hmix (by rw [hn];rfl) ?_);intro K hK)|((first|with_reducible refine evOps_n ?_|((with_reducible apply evOps_g);rfl)|with_reducible refine evOpsD_n ?_|((with_reducible apply evOpsD_g);rfl));intro K hK;simp (contextual:=true) only [go_sem,simprocAttr])|with_reducible refine evOps_nil ?_|((with_reducible refine evOpsD_nil ?_ ?_);kernel_rfl)|((with_reducible refine hK _ ?_);clear hK K)|(with_reducible first|refine And.intro ?_ ?_|refine nxt_n ?_|refine nxt_r ?_|refine nxt_e ?_|refine blk_n ?_|refine blk_r ?_|refine blk_same ?_|refine blk_other (by decide) ?_|refine noG_n ?_|refine noG_r ?_|refine noG_e ?_|refine inR_mk ?_ ?_)|(refine fun (hc : (_ : Bool) = _)=>?_;try simp only [hcS] at hc))
          all_goals try exact om_
          refine V_loopK (G:={l : Nat // l ≤ d.fr.length ∧ (True)}) (fun ⟨l,_⟩=>[(14,iv l),(4,.ptr 2 0),(7,.ptr 7 0),(10,iv a),(11,iv b),(12,.sl 12),(13,iv k),(88,.sl 8),(106,.sl 10)]) [2,3,5,6] (fun ⟨l,_⟩=>[(7,⟨1,.box [iv (c.ob * d.ob),.sl 9,.sl 11,.sl 5,.sl 6]⟩),(9,⟨1,.arr (ints (pq d.fr.length c.fr d.fr d.ob (a * d.fr.length + (b + 1))))⟩),(11,⟨1,.arr (ints (pq d.fr.length c.to d.to d.ob (a * d.fr.length + (b + 1))))⟩),(5,⟨1,.arr (ints (pq d.id.length c.id d.id d.fr.length (c.ob.toNat * d.id.length)))⟩),(6,⟨1,.arr (intss (prT c d (a * d.fr.length + b)))⟩),(12,⟨1,.arr (ints (prW c d (a * d.fr.length + b) (k * d.fr.length + l)))⟩)]) [5,6,7,9,11,12] (fun zz=>d.fr.length - zz.1) ⟨0,Nat.zero_le _,by first|trivial|simp⟩ ?_ ?_
          · exact Imp.au hX
          rintro ⟨l,hil,hwl⟩
          simp only [go_sem,simprocAttr]
          have l4:=prW_len (c:=c) (d:=d) (k:=a * d.fr.length + b) (l:=k * d.fr.length + l)
          have hke : k * d.fr.length + l ≤ 1640:=by
            have:=Nat.mul_le_mul hlk d40
            rw [Nat.succ_mul] at this
            omega
          rcases Nat.lt_or_ge l d.fr.length with hll | hgl
          · have x1:=(sc.coe a hla).2 k hlk
            have x2:=(sd.coe b hlb).2 l hll
            have p3:=prW_succ (c:=c) (d:=d) (i:=a) (j:=b) (a:=k) (b:=l) hlb hll
            simp only [Cat.Entry,Cat.F,Cat.T,Cat.C,Int.toNat_natCast] at x1 x2 p3
            by_cases q : 0 ≤ (c.co.getD a []).getD k 0 ∧ 0 ≤ (d.co.getD b []).getD l 0
            · rw [if_pos q] at p3
              have e3:=mul_b (x:=(c.co.getD a []).getD k 0) (n:=(d.fr.length : Int)) q.1 (by omega) (by omega) (by omega)
              repeat' (first|(exfalso;omega)|(with_reducible first|refine V_seq ?_|refine V_block ?_|refine V_skip ?_|refine V_ret ?_|refine V_exit ?_)|((with_reducible refine V_cond ?_);simp only [go_sem,simprocAttr])|((first|refine V_region (by rw [hn];rfl) ?_|refine V_drawn hmix (by rw [hn];rfl) ?_);intro K hK)|((first|with_reducible refine evOps_n ?_|((with_reducible apply evOps_g);rfl)|with_reducible refine evOpsD_n ?_|((with_reducible apply evOpsD_g);rfl));intro K hK;simp (contextual:=true) only [go_sem,simprocAttr])|with_reducible refine evOps_nil ?_|((with_reducible refine evOpsD_nil ?_ ?_);kernel_rfl)|((with_reducible refine hK _ ?_);clear hK K)|(with_reducible first|refine And.intro ?_ ?_|refine nxt_n ?_|refine nxt_r ?_|refine nxt_e ?_|refine blk_n ?_|refine blk_r ?_|refine blk_same ?_|refine blk_other (by decide) ?_|refine noG_n ?_|refine noG_r ?_|refine noG_e ?_|refine inR_mk ?_ ?_)|(refine fun (hc : (_ : Bool) = _)=>?_;try simp only [hcS] at hc))
              all_goals try exact om_
              · refine ⟨⟨l + 1,by omega,(by trivial)⟩,by simp only;omega,Imp.auto hX (by simp only [go_sem,simprocAttr,p3])⟩
            · rw [if_neg q] at p3
              repeat' (first|(exfalso;omega)|(with_reducible first|refine V_seq ?_|refine V_block ?_|refine V_skip ?_|refine V_ret ?_|refine V_exit ?_)|((with_reducible refine V_cond ?_);simp only [go_sem,simprocAttr])|((first|refine V_region (by rw [hn];rfl) ?_|refine V_drawn hmix (by rw [hn];rfl) ?_);intro K hK)|((first|with_reducible refine evOps_n ?_|((with_reducible apply evOps_g);rfl)|with_reducible refine evOpsD_n ?_|((with_reducible apply evOpsD_g);rfl));intro K hK;simp (contextual:=true) only [go_sem,simprocAttr])|with_reducible refine evOps_nil ?_|((with_reducible refine evOpsD_nil ?_ ?_);kernel_rfl)|((with_reducible refine hK _ ?_);clear hK K)|(with_reducible first|refine And.intro ?_ ?_|refine nxt_n ?_|refine nxt_r ?_|refine nxt_e ?_|refine blk_n ?_|refine blk_r ?_|refine blk_same ?_|refine blk_other (by decide) ?_|refine noG_n ?_|refine noG_r ?_|refine noG_e ?_|refine inR_mk ?_ ?_)|(refine fun (hc : (_ : Bool) = _)=>?_;try simp only [hcS] at hc))
              all_goals try exact om_
              all_goals (refine ⟨⟨l + 1,by omega,(by trivial)⟩,by simp only;omega,Imp.auto hX (by simp only [go_sem,simprocAttr,p3])⟩)
          · have el : l = d.fr.length:=by omega
            subst el
            have e3 : k * d.fr.length + d.fr.length = (k + 1) * d.fr.length:=(Nat.succ_mul _ _).symm
            repeat' (first|(with_reducible first|refine V_seq ?_|refine V_block ?_|refine V_skip ?_|refine V_ret ?_|refine V_exit ?_)|((with_reducible refine V_cond ?_);simp only [go_sem,simprocAttr])|((first|refine V_region (by rw [hn];rfl) ?_|refine V_drawn hmix (by rw [hn];rfl) ?_);intro K hK)|((first|with_reducible refine evOps_n ?_|((with_reducible apply evOps_g);rfl)|with_reducible refine evOpsD_n ?_|((with_reducible apply evOpsD_g);rfl));intro K hK;simp (contextual:=true) only [go_sem,simprocAttr])|with_reducible refine evOps_nil ?_|((with_reducible refine evOpsD_nil ?_ ?_);kernel_rfl)|((with_reducible refine hK _ ?_);clear hK K)|(with_reducible first|refine And.intro ?_ ?_|refine nxt_n ?_|refine nxt_r ?_|refine nxt_e ?_|refine blk_n ?_|refine blk_r ?_|refine blk_same ?_|refine blk_other (by decide) ?_|refine noG_n ?_|refine noG_r ?_|refine noG_e ?_|refine inR_mk ?_ ?_)|(refine fun (hc : (_ : Bool) = _)=>?_;try simp only [hcS] at hc))
            all_goals try exact om_
            · refine ⟨⟨k + 1,by omega,(by (trivial))⟩,by simp only;omega,Imp.auto hX (by simp only [go_sem,simprocAttr,e3])⟩
        · have ek : k = c.fr.length:=by omega
          subst ek
          have p4:=prT_succ (c:=c) (d:=d) (i:=a) (j:=b)
          repeat' (first|(with_reducible first|refine V_seq ?_|refine V_block ?_|refine V_skip ?_|refine V_ret ?_|refine V_exit ?_)|((with_reducible refine V_cond ?_);simp only [go_sem,simprocAttr])|((first|refine V_region (by rw [hn];rfl) ?_|refine V_drawn hmix (by rw [hn];rfl) ?_);intro K hK)|((first|with_reducible refine evOps_n ?_|((with_reducible apply evOps_g);rfl)|with_reducible refine evOpsD_n ?_|((with_reducible apply evOpsD_g);rfl));intro K hK;simp (contextual:=true) only [go_sem,simprocAttr])|with_reducible refine evOps_nil ?_|((with_reducible refine evOpsD_nil ?_ ?_);kernel_rfl)|((with_reducible refine hK _ ?_);clear hK K)|(with_reducible first|refine And.intro ?_ ?_|refine nxt_n ?_|refine nxt_r ?_|refine nxt_e ?_|refine blk_n ?_|refine blk_r ?_|refine blk_same ?_|refine blk_other (by decide) ?_|refine noG_n ?_|refine noG_r ?_|refine noG_e ?_|refine inR_mk ?_ ?_)|(refine fun (hc : (_ : Bool) = _)=>?_;try simp only [hcS] at hc))
          all_goals try exact om_
          · refine ⟨⟨b + 1,by omega,(by (trivial))⟩,by simp only;omega,Imp.auto hX (by simp only [go_sem,simprocAttr,p4])⟩
      · have eb : b = d.fr.length:=by omega
        subst eb
        have e3 : a * d.fr.length + d.fr.length = (a + 1) * d.fr.length:=(Nat.succ_mul _ _).symm
        repeat' (first|(with_reducible first|refine V_seq ?_|refine V_block ?_|refine V_skip ?_|refine V_ret ?_|refine V_exit ?_)|((with_reducible refine V_cond ?_);simp only [go_sem,simprocAttr])|((first|refine V_region (by rw [hn];rfl) ?_|refine V_drawn hmix (by rw [hn];rfl) ?_);intro K hK)|((first|with_reducible refine evOps_n ?_|((with_reducible apply evOps_g);rfl)|with_reducible refine evOpsD_n ?_|((with_reducible apply evOpsD_g);rfl));intro K hK;simp (contextual:=true) only [go_sem,simprocAttr])|with_reducible refine evOps_nil ?_|((with_reducible refine evOpsD_nil ?_ ?_);kernel_rfl)|((with_reducible refine hK _ ?_);clear hK K)|(with_reducible first|refine And.intro ?_ ?_|refine nxt_n ?_|refine nxt_r ?_|refine nxt_e ?_|refine blk_n ?_|refine blk_r ?_|refine blk_same ?_|refine blk_other (by decide) ?_|refine noG_n ?_|refine noG_r ?_|refine noG_e ?_|refine inR_mk ?_ ?_)|(refine fun (hc : (_ : Bool) = _)=>?_;try simp only [hcS] at hc))
        all_goals try exact om_
        · refine ⟨⟨a + 1,by omega,(by (trivial))⟩,by simp only;omega,Imp.auto hX (by simp only [go_sem,simprocAttr,e3])⟩
    · have ea : a = c.fr.length:=by omega
      subst ea
      have ei2 : c.ob.toNat = c.id.length:=by omega
      rw [ei2]
      repeat' (first|(with_reducible first|refine V_seq ?_|refine V_block ?_|refine V_skip ?_|refine V_ret ?_|refine V_exit ?_)|((with_reducible refine V_cond ?_);simp only [go_sem,simprocAttr])|((first|refine V_region (by rw [hn];rfl) ?_|refine V_drawn hmix (by rw [hn];rfl) ?_);intro K hK)|((first|with_reducible refine evOps_n ?_|((with_reducible apply evOps_g);rfl)|with_reducible refine evOpsD_n ?_|((with_reducible apply evOpsD_g);rfl));intro K hK;simp (contextual:=true) only [go_sem,simprocAttr])|with_reducible refine evOps_nil ?_|((with_reducible refine evOpsD_nil ?_ ?_);kernel_rfl)|((with_reducible refine hK _ ?_);clear hK K)|(with_reducible first|refine And.intro ?_ ?_|refine nxt_n ?_|refine nxt_r ?_|refine nxt_e ?_|refine blk_n ?_|refine blk_r ?_|refine blk_same ?_|refine blk_other (by decide) ?_|refine noG_n ?_|refine noG_r ?_|refine noG_e ?_|refine inR_mk ?_ ?_)|(refine fun (hc : (_ : Bool) = _)=>?_;try simp only [hcS] at hc))
      all_goals try exact om_
      · (first|refine ret_auto ?_|refine ret_auto' ?_);simp only [go_sem,simprocAttr,Tryz.f86]
end Go.Eng
end
section
namespace Go.Eng
open Go Go.Proofs Go.Cats
theorem nat_tdiv (a b : Nat) : ((a : Int)).tdiv (b : Int) = ((a / b : Nat) : Int):=(Int.ofNat_tdiv a b).symm
theorem nat_tmod (a b : Nat) : ((a : Int)).tmod (b : Int) = ((a % b : Nat) : Int):=(Int.ofNat_tmod a b).symm
attribute [local go_sem] List.set_cons_zero List.set_cons_succ pq_zero
def prLC (c d : Cat) : LC:=⟨[.bptr [] [.pt (catD c)],.bptr [] [.v (.int .i64 d.fr.length)],.bptr [] [.pt (catD d)]],rfl⟩
@[go_sem] theorem prLC_l (c d : Cat) : (prLC c d).l = [.bptr [] [.pt (catD c)],.bptr [] [.v (.int .i64 d.fr.length)],.bptr [] [.pt (catD d)]]:=rfl
theorem cal_product_1 : Callable Tryz.prog 131:=⟨_,Tryz.func131,rfl,rfl⟩
theorem sp_product_1 {c d : Cat} (sc : Shape c) (sd : Shape d) {a b : Nat} (ha : a < c.fr.length * d.fr.length) (hb : b < c.fr.length * d.fr.length) (hm : (prC c d).to.getD a 0 = (prC c d).fr.getD b 0) : Spec Tryz.prog 131 ([iv a,iv b] ++ (prLC c d).l) [] (iv (c.C (a / d.fr.length : Nat) (b / d.fr.length : Nat) * d.fr.length + d.C (a % d.fr.length : Nat) (b % d.fr.length : Nat))) []:=by
  obtain ⟨k1,k2⟩:=div_mod_lt ha
  obtain ⟨l1,l2⟩:=div_mod_lt hb
  have e0:=prE_meet sc sd ha hb
  rw [if_pos hm] at e0
  have c40:=sc.m40
  have d40:=sd.m40
  have ccl:=sc.col
  have dcl:=sd.col
  have r1:=(sc.coe _ k1).1
  have r2:=(sd.coe _ k2).1
  have x1:=(sc.coe _ k1).2 _ l1
  have x2:=(sd.coe _ k2).2 _ l2
  have le:=Nat.mul_le_mul c40 d40
  have h0 : d.fr.length ≠ 0:=by omega
  have hq : 0 ≤ c.C (a / d.fr.length : Nat) (b / d.fr.length : Nat) ∧ 0 ≤ d.C (a % d.fr.length : Nat) (b % d.fr.length : Nat):=by
    refine Classical.byContradiction fun q=>?_
    unfold prE at e0
    rw [if_neg q] at e0
    have t1:=sd.tow (a % d.fr.length) (by rw [sd.tol];exact k2)
    have t2:=sd.frw (b % d.fr.length) l2
    have e1 : (prC c d).to.getD a 0 = c.to.getD (a / d.fr.length) 0 * d.ob + d.to.getD (a % d.fr.length) 0:=pq_at ha
    have e2 : (prC c d).fr.getD b 0 = c.fr.getD (b / d.fr.length) 0 * d.ob + d.fr.getD (b % d.fr.length) 0:=pq_at hb
    rw [e1,e2] at hm
    obtain ⟨m1,m2⟩:=(two_eq t1.1 t1.2 t2.1 t2.2).1 hm
    have n1:=sc.neg k1 l1
    have n2:=sd.neg k2 l2
    simp only [Cat.T,Cat.F,Int.toNat_natCast] at n1 n2
    exact q ⟨Int.not_lt.1 fun z=>n1.1 z m1,Int.not_lt.1 fun z=>n2.1 z m2⟩
  have y1 : c.C (a / d.fr.length : Nat) (b / d.fr.length : Nat) < 40:=by
    unfold Cat.Entry at x1;omega
  have y2 : d.C (a % d.fr.length : Nat) (b % d.fr.length : Nat) < 40:=by
    unfold Cat.Entry at x2;omega
  have e1:=mul_b (x:=c.C (a / d.fr.length : Nat) (b / d.fr.length : Nat)) (n:=(d.fr.length : Int)) hq.1 (by omega) (by omega) (by omega)
  clear e0 hm x1 x2
  show Spec Tryz.prog 131 [iv a,iv b,.bptr [] [.pt (catD c)],.bptr [] [.v (.int .i64 d.fr.length)],.bptr [] [.pt (catD d)]] [] _ []
  have qa:=nat_tdiv a d.fr.length
  have qb:=nat_tdiv b d.fr.length
  have ma:=nat_tmod a d.fr.length
  have mb:=nat_tmod b d.fr.length
  have z1 : a / d.fr.length ≤ a:=Nat.div_le_self _ _
  have z2 : b / d.fr.length ≤ b:=Nat.div_le_self _ _
  obtain ⟨p,hp⟩ : ∃ p,a / d.fr.length = p:=⟨_,rfl⟩
  obtain ⟨q,hq2⟩ : ∃ q,b / d.fr.length = q:=⟨_,rfl⟩
  obtain ⟨p',hp'⟩ : ∃ q,a % d.fr.length = q:=⟨_,rfl⟩
  obtain ⟨q',hq'⟩ : ∃ q,b % d.fr.length = q:=⟨_,rfl⟩
  simp only [hp,hq2,hp',hq'] at *
  have t1:=sp_Category_then (c:=c) (f:=(p : Int)) (g:=(q : Int)) (by omega) (by omega) (by omega) (by rw [Int.toNat_natCast];omega)
  have t2:=sp_Category_then (c:=d) (f:=(p' : Int)) (g:=(q' : Int)) (by omega) (by omega) (by omega) (by rw [Int.toNat_natCast];omega)
  obtain ⟨u,hu⟩ : ∃ u,c.C (p : Int) (q : Int) = u:=⟨_,rfl⟩
  obtain ⟨v,hv⟩ : ∃ v,d.C (p' : Int) (q' : Int) = v:=⟨_,rfl⟩
  rw [hu] at t1 e1 hq ⊢
  rw [hv] at t2 hq y2 ⊢
  refine spec_of_V (E:=TE) 0 Tryz.func131 rfl (by simp [Tryz.f131]) fun X hn hX=>?_
  repeat' (first|(simp only [qa,qb,ma,mb])|(with_reducible first|refine V_seq ?_|refine V_skip ?_|refine V_ret ?_)|((with_reducible refine V_cond ?_);simp only [go_sem,simprocAttr])|((first|refine V_region (by rw [hn];rfl) ?_|refine V_drawn hmix (by rw [hn];rfl) ?_);intro K hK)|((first|with_reducible refine evOps_n ?_|((with_reducible apply evOps_g);rfl)|with_reducible refine evOpsD_n ?_|((with_reducible apply evOpsD_g);rfl));intro K hK;simp (contextual:=true) only [go_sem,simprocAttr])|with_reducible refine evOps_nil ?_|((with_reducible refine evOpsD_nil ?_ ?_);kernel_rfl)|((with_reducible refine hK _ ?_);clear hK K)|(with_reducible first|refine And.intro ?_ ?_|refine nxt_n ?_|refine nxt_r ?_|refine inR_mk ?_ ?_)|((with_reducible refine (id ?_ : EvCall _ _ [.bptr [] (catD c),_,_] _ _));refine EvCall.mk (t1) cal_Category_then [] [] (by simp [go_sem] <;> (repeat' (first|rfl|constructor))) (by simp [go_sem] <;> (repeat' (first|rfl|constructor))) ?_;all_goals try simp only [go_sem,simprocAttr])|((with_reducible refine (id ?_ : EvCall _ _ [.bptr [] (catD d),_,_] _ _));refine EvCall.mk (t2) cal_Category_then [] [] (by simp [go_sem] <;> (repeat' (first|rfl|constructor))) (by simp [go_sem] <;> (repeat' (first|rfl|constructor))) ?_;all_goals try simp only [go_sem,simprocAttr])|(refine fun (hc : (_ : Bool) = _)=>?_;try simp only [hcS] at hc))
  all_goals try exact om_
  (first|refine ret_auto ?_|refine ret_auto' ?_);simp only [go_sem,simprocAttr,Tryz.f131]
def PrS (c d : Cat) : Prop:=c.ob * d.ob ≤ 8 ∧ c.fr.length * d.fr.length ≤ 40
theorem pr_tab {c d : Cat} (sc : Shape c) (sd : Shape d) {h : Nat → Nat → Int} (hh : ∀ a b,h a b = c.C (a / d.fr.length : Nat) (b / d.fr.length : Nat) * d.fr.length + d.C (a % d.fr.length : Nat) (b % d.fr.length : Nat)) : tRows (prC c d).fr (prC c d).to h (c.fr.length * d.fr.length) = prT c d (c.fr.length * d.fr.length):=by
  have el : (prC c d).fr.length = c.fr.length * d.fr.length:=pq_len
  unfold tRows prT prW
  refine List.map_congr_left fun k hk=>?_
  rw [el]
  refine List.map_congr_left fun l hl=>?_
  rw [List.mem_range] at hk hl
  rw [prE_meet sc sd hk hl,tEnt,hh]
theorem sp_product_no {c d : Cat} (sc : Shape c) (sd : Shape d) (h : ¬ PrS c d) : Spec Tryz.prog 89 [.bptr [] (catD c),.bptr [] (catD d)] [] (.tup [.agg [iv 0,.v (.slice none 0 0),.v (.slice none 0 0),.v (.slice none 0 0),.v (.slice none 0 0)],bv false]) []:=by
  have c0:=sc.ob0
  have c8:=sc.ob8
  have c40:=sc.m40
  have d0:=sd.ob0
  have d8:=sd.ob8
  have d40:=sd.m40
  have e0:=mul_b c0 (by omega) d0 (by omega)
  have e1:=mul_b (x:=(c.fr.length : Int)) (n:=(d.fr.length : Int)) (by omega) (by omega) (by omega) (by omega)
  have h2 : ¬ (c.ob * d.ob ≤ 8 ∧ (c.fr.length : Int) * d.fr.length ≤ 40):=fun q=>h ⟨q.1,by have:=q.2;rw [← Int.natCast_mul] at this;omega⟩
  refine spec_of_V (E:=TE) 0 Tryz.func89 rfl (by simp [Tryz.f89]) fun X hn hX=>?_
  repeat' (first|(exfalso;omega)|(with_reducible first|refine V_seq ?_|refine V_block ?_|refine V_skip ?_|refine V_ret ?_|refine V_exit ?_)|((with_reducible refine V_cond ?_);simp only [go_sem,simprocAttr])|((first|refine V_region (by rw [hn];rfl) ?_|refine V_drawn hmix (by rw [hn];rfl) ?_);intro K hK)|((first|with_reducible refine evOps_n ?_|((with_reducible apply evOps_g);rfl)|with_reducible refine evOpsD_n ?_|((with_reducible apply evOpsD_g);rfl));intro K hK;simp (contextual:=true) only [go_sem,simprocAttr])|with_reducible refine evOps_nil ?_|((with_reducible refine evOpsD_nil ?_ ?_);kernel_rfl)|((with_reducible refine hK _ ?_);clear hK K)|(with_reducible first|refine And.intro ?_ ?_|refine nxt_n ?_|refine nxt_r ?_|refine nxt_e ?_|refine blk_n ?_|refine blk_r ?_|refine blk_same ?_|refine blk_other (by decide) ?_|refine noG_n ?_|refine noG_r ?_|refine noG_e ?_|refine inR_mk ?_ ?_)|((with_reducible refine evCall_at 69 ?_);refine EvCall.rq (a:=(sp_Category_arrows)) (b:=cal_Category_arrows) (c:=?_);all_goals try simp only [go_sem,simprocAttr])|(refine fun (hc : (_ : Bool) = _)=>?_;try simp only [hcS] at hc))
  all_goals try exact om_
  all_goals ((first|refine ret_auto ?_|refine ret_auto' ?_);simp only [go_sem,simprocAttr,Tryz.f89])
theorem sp_product_yes {c d : Cat} (sc : Shape c) (sd : Shape d) (h : PrS c d) : Spec Tryz.prog 89 [.bptr [] (catD c),.bptr [] (catD d)] [] (.tup [.agg [iv (prC c d).ob,.sl 0,.sl 1,.sl 2,.sl 3],bv true]) [(0,⟨1,.arr (ints (prC c d).fr)⟩),(1,⟨1,.arr (ints (prC c d).to)⟩),(2,⟨1,.arr (ints (prC c d).id)⟩),(3,⟨1,.arr (intss (prC c d).co)⟩)]:=by
  have c0:=sc.ob0
  have c8:=sc.ob8
  have c40:=sc.m40
  have ctl:=sc.tol
  have cil:=sc.idl
  have d0:=sd.ob0
  have d8:=sd.ob8
  have d40:=sd.m40
  have dtl:=sd.tol
  have dil:=sd.idl
  have e0:=mul_b c0 (by omega) d0 (by omega)
  have h1:=h.1
  have h2 : (c.fr.length : Int) * d.fr.length ≤ 40:=by rw [← Int.natCast_mul];exact Int.ofNat_le.2 h.2
  have h3 : 0 ≤ (c.fr.length : Int) * d.fr.length:=Int.mul_nonneg (by omega) (by omega)
  have eP : prC c d = ⟨c.ob * d.ob,pq d.fr.length c.fr d.fr d.ob (c.fr.length * d.fr.length),pq d.fr.length c.to d.to d.ob (c.fr.length * d.fr.length),pq d.id.length c.id d.id d.fr.length (c.id.length * d.id.length),prT c d (c.fr.length * d.fr.length)⟩:=rfl
  have lf : (prC c d).fr.length = c.fr.length * d.fr.length:=pq_len
  have lt : (prC c d).to.length = c.fr.length * d.fr.length:=pq_len
  have T:=sp_Category_table (ob:=c.ob * d.ob) (fr:=(prC c d).fr) (to:=(prC c d).to) (id:=(prC c d).id) (F:=131) (cp:=prLC c d) (h:=fun a b=>c.C (a / d.fr.length : Nat) (b / d.fr.length : Nat) * d.fr.length + d.C (a % d.fr.length : Nat) (b % d.fr.length : Nat)) cal_product_1 (fun a b ha hb hc=>sp_product_1 sc sd (by omega) (by omega) hc) (by have:=h.2;omega) (by omega) e0.1
  rw [lf,pr_tab sc sd fun a b=>rfl,prLC_l] at T
  rw [eP] at T ⊢
  refine spec_of_V (E:=TE) 0 Tryz.func89 rfl (by simp [Tryz.f89]) fun X hn hX=>?_
  repeat' (first|(exfalso;omega)|(refine V_at 5 (Imp.adoptI 4 1 _ _ rfl rfl rfl (by rw [hX];rfl)) ?_;refine V_at 5 (Imp.adoptI 4 2 _ _ rfl rfl rfl (by rw [hX];rfl)) ?_;refine V_at 5 (Imp.adoptI 4 3 _ _ rfl rfl rfl (by rw [hX];rfl)) ?_;simp only [List.set_cons_succ,List.set_cons_zero])|(with_reducible first|refine V_seq ?_|refine V_block ?_|refine V_skip ?_|refine V_ret ?_|refine V_exit ?_)|((with_reducible refine V_cond ?_);simp only [go_sem,simprocAttr])|((first|refine V_region (by rw [hn];rfl) ?_|refine V_drawn hmix (by rw [hn];rfl) ?_);intro K hK)|((first|with_reducible refine evOps_n ?_|((with_reducible apply evOps_g);rfl)|with_reducible refine evOpsD_n ?_|((with_reducible apply evOpsD_g);rfl));intro K hK;simp (contextual:=true) only [go_sem,simprocAttr])|with_reducible refine evOps_nil ?_|((with_reducible refine evOpsD_nil ?_ ?_);kernel_rfl)|((with_reducible refine hK _ ?_);clear hK K)|(with_reducible first|refine And.intro ?_ ?_|refine nxt_n ?_|refine nxt_r ?_|refine nxt_e ?_|refine blk_n ?_|refine blk_r ?_|refine blk_same ?_|refine blk_other (by decide) ?_|refine noG_n ?_|refine noG_r ?_|refine noG_e ?_|refine inR_mk ?_ ?_)|((with_reducible refine evCall_at 69 ?_);refine EvCall.rq (a:=(sp_Category_arrows)) (b:=cal_Category_arrows) (c:=?_);all_goals try simp only [go_sem,simprocAttr])|(refine fun (hc : (_ : Bool) = _)=>?_;try simp only [hcS] at hc))
  all_goals try exact om_
  refine V_loopK (G:={a : Nat // a ≤ c.fr.length ∧ (True)}) (fun ⟨a,_⟩=>[(48,iv a),(2,.ptr 0 0),(3,.ptr 1 0),(4,.ptr 2 0),(7,.ptr 3 0),(8,.ptr 4 0)]) [5,6,47] (fun ⟨a,_⟩=>[(4,⟨1,.box [iv (c.ob * d.ob),.sl 5,.sl 6,.sl 7,.v (.slice none 0 0)]⟩),(5,⟨1,.arr (ints (pq d.fr.length c.fr d.fr d.ob (a * d.fr.length)))⟩),(6,⟨1,.arr (ints (pq d.fr.length c.to d.to d.ob (a * d.fr.length)))⟩),(7,⟨1,.arr (ints (pq d.id.length c.id d.id d.fr.length (0)))⟩)]) [4,5,6,7] (fun zz=>c.fr.length - zz.1) ⟨0,Nat.zero_le _,by trivial⟩ ?_ ?_
  · exact Imp.auto hX (by simp [go_sem,simprocAttr,Nat.zero_mul])
  rintro ⟨a,hia,hwa⟩
  simp only [go_sem,simprocAttr]
  rcases Nat.lt_or_ge a c.fr.length with hla | hga
  · repeat' (first|(with_reducible first|refine V_seq ?_|refine V_block ?_|refine V_skip ?_|refine V_ret ?_|refine V_exit ?_)|((with_reducible refine V_cond ?_);simp only [go_sem,simprocAttr])|((first|refine V_region (by rw [hn];rfl) ?_|refine V_drawn hmix (by rw [hn];rfl) ?_);intro K hK)|((first|with_reducible refine evOps_n ?_|((with_reducible apply evOps_g);rfl)|with_reducible refine evOpsD_n ?_|((with_reducible apply evOpsD_g);rfl));intro K hK;simp (contextual:=true) only [go_sem,simprocAttr])|with_reducible refine evOps_nil ?_|((with_reducible refine evOpsD_nil ?_ ?_);kernel_rfl)|((with_reducible refine hK _ ?_);clear hK K)|(with_reducible first|refine And.intro ?_ ?_|refine nxt_n ?_|refine nxt_r ?_|refine nxt_e ?_|refine blk_n ?_|refine blk_r ?_|refine blk_same ?_|refine blk_other (by decide) ?_|refine noG_n ?_|refine noG_r ?_|refine noG_e ?_|refine inR_mk ?_ ?_)|(refine fun (hc : (_ : Bool) = _)=>?_;try simp only [hcS] at hc))
    all_goals try exact om_
    refine V_loopK (G:={b : Nat // b ≤ d.fr.length ∧ (True)}) (fun ⟨b,_⟩=>[(56,iv b),(9,iv a),(48,iv a),(2,.ptr 0 0),(3,.ptr 1 0),(4,.ptr 2 0),(7,.ptr 3 0),(8,.ptr 4 0)]) [5,6,47,55] (fun ⟨b,_⟩=>[(4,⟨1,.box [iv (c.ob * d.ob),.sl 5,.sl 6,.sl 7,.v (.slice none 0 0)]⟩),(5,⟨1,.arr (ints (pq d.fr.length c.fr d.fr d.ob (a * d.fr.length + b)))⟩),(6,⟨1,.arr (ints (pq d.fr.length c.to d.to d.ob (a * d.fr.length + b)))⟩),(7,⟨1,.arr (ints (pq d.id.length c.id d.id d.fr.length (0)))⟩)]) [4,5,6,7] (fun zz=>d.fr.length - zz.1) ⟨0,Nat.zero_le _,by first|trivial|simp⟩ ?_ ?_
    · exact Imp.au hX
    rintro ⟨b,hib,hwb⟩
    simp only [go_sem,simprocAttr]
    have hle : a * d.fr.length + b ≤ 1640:=by
      have:=Nat.mul_le_mul hla d40
      rw [Nat.succ_mul] at this
      omega
    have l1:=pq_len (n:=d.fr.length) (x:=c.fr) (y:=d.fr) (w:=d.ob) (k:=a * d.fr.length + b)
    have l2:=pq_len (n:=d.fr.length) (x:=c.to) (y:=d.to) (w:=d.ob) (k:=a * d.fr.length + b)
    rcases Nat.lt_or_ge b d.fr.length with hlb | hgb
    · have w1:=sc.frw a hla
      have w2:=sd.frw b hlb
      have w3:=sc.tow a (by omega)
      have w4:=sd.tow b (by omega)
      have e1:=mul_b (x:=c.fr.getD a 0) (n:=d.ob) w1.1 (by omega) (by omega) (by omega)
      have e2:=mul_b (x:=c.to.getD a 0) (n:=d.ob) w3.1 (by omega) (by omega) (by omega)
      have p1:=pq_succ (n:=d.fr.length) (x:=c.fr) (y:=d.fr) (w:=d.ob) (i:=a) (j:=b) hlb
      have p2:=pq_succ (n:=d.fr.length) (x:=c.to) (y:=d.to) (w:=d.ob) (i:=a) (j:=b) hlb
      repeat' (first|(with_reducible first|refine V_seq ?_|refine V_block ?_|refine V_skip ?_|refine V_ret ?_|refine V_exit ?_)|((with_reducible refine V_cond ?_);simp only [go_sem,simprocAttr])|((first|refine V_region (by rw [hn];rfl) ?_|refine V_drawn hmix (by rw [hn];rfl) ?_);intro K hK)|((first|with_reducible refine evOps_n ?_|((with_reducible apply evOps_g);rfl)|with_reducible refine evOpsD_n ?_|((with_reducible apply evOpsD_g);rfl));intro K hK;simp (contextual:=true) only [go_sem,simprocAttr])|with_reducible refine evOps_nil ?_|((with_reducible refine evOpsD_nil ?_ ?_);kernel_rfl)|((with_reducible refine hK _ ?_);clear hK K)|(with_reducible first|refine And.intro ?_ ?_|refine nxt_n ?_|refine nxt_r ?_|refine nxt_e ?_|refine blk_n ?_|refine blk_r ?_|refine blk_same ?_|refine blk_other (by decide) ?_|refine noG_n ?_|refine noG_r ?_|refine noG_e ?_|refine inR_mk ?_ ?_)|(refine fun (hc : (_ : Bool) = _)=>?_;try simp only [hcS] at hc))
      all_goals try exact om_
      · refine ⟨⟨b + 1,by omega,(by trivial)⟩,by simp only;omega,Imp.auto hX (by simp only [go_sem,simprocAttr,p1,p2])⟩
    · have eb : b = d.fr.length:=by omega
      subst eb
      have e3 : a * d.fr.length + d.fr.length = (a + 1) * d.fr.length:=(Nat.succ_mul _ _).symm
      repeat' (first|(with_reducible first|refine V_seq ?_|refine V_block ?_|refine V_skip ?_|refine V_ret ?_|refine V_exit ?_)|((with_reducible refine V_cond ?_);simp only [go_sem,simprocAttr])|((first|refine V_region (by rw [hn];rfl) ?_|refine V_drawn hmix (by rw [hn];rfl) ?_);intro K hK)|((first|with_reducible refine evOps_n ?_|((with_reducible apply evOps_g);rfl)|with_reducible refine evOpsD_n ?_|((with_reducible apply evOpsD_g);rfl));intro K hK;simp (contextual:=true) only [go_sem,simprocAttr])|with_reducible refine evOps_nil ?_|((with_reducible refine evOpsD_nil ?_ ?_);kernel_rfl)|((with_reducible refine hK _ ?_);clear hK K)|(with_reducible first|refine And.intro ?_ ?_|refine nxt_n ?_|refine nxt_r ?_|refine nxt_e ?_|refine blk_n ?_|refine blk_r ?_|refine blk_same ?_|refine blk_other (by decide) ?_|refine noG_n ?_|refine noG_r ?_|refine noG_e ?_|refine inR_mk ?_ ?_)|(refine fun (hc : (_ : Bool) = _)=>?_;try simp only [hcS] at hc))
      all_goals try exact om_
      · refine ⟨⟨a + 1,by omega,(by (trivial))⟩,by simp only;omega,Imp.auto hX (by simp only [go_sem,simprocAttr,e3])⟩
  · have ea : a = c.fr.length:=by omega
    subst ea
    repeat' (first|(with_reducible first|refine V_seq ?_|refine V_block ?_|refine V_skip ?_|refine V_ret ?_|refine V_exit ?_)|((with_reducible refine V_cond ?_);simp only [go_sem,simprocAttr])|((first|refine V_region (by rw [hn];rfl) ?_|refine V_drawn hmix (by rw [hn];rfl) ?_);intro K hK)|((first|with_reducible refine evOps_n ?_|((with_reducible apply evOps_g);rfl)|with_reducible refine evOpsD_n ?_|((with_reducible apply evOpsD_g);rfl));intro K hK;simp (contextual:=true) only [go_sem,simprocAttr])|with_reducible refine evOps_nil ?_|((with_reducible refine evOpsD_nil ?_ ?_);kernel_rfl)|((with_reducible refine hK _ ?_);clear hK K)|(with_reducible first|refine And.intro ?_ ?_|refine nxt_n ?_|refine nxt_r ?_|refine nxt_e ?_|refine blk_n ?_|refine blk_r ?_|refine blk_same ?_|refine blk_other (by decide) ?_|refine noG_n ?_|refine noG_r ?_|refine noG_e ?_|refine inR_mk ?_ ?_)|(refine fun (hc : (_ : Bool) = _)=>?_;try simp only [hcS] at hc))
    all_goals try exact om_
    refine V_loopK (G:={i : Nat // i ≤ c.id.length ∧ (True)}) (fun ⟨i,_⟩=>[(110,iv i),(2,.ptr 0 0),(3,.ptr 1 0),(4,.ptr 2 0),(7,.ptr 3 0),(8,.ptr 4 0)]) [5,108,109] (fun ⟨i,_⟩=>[(4,⟨1,.box [iv (c.ob * d.ob),.sl 5,.sl 6,.sl 7,.v (.slice none 0 0)]⟩),(5,⟨1,.arr (ints (pq d.fr.length c.fr d.fr d.ob (c.fr.length * d.fr.length)))⟩),(6,⟨1,.arr (ints (pq d.fr.length c.to d.to d.ob (c.fr.length * d.fr.length)))⟩),(7,⟨1,.arr (ints (pq d.id.length c.id d.id d.fr.length (i * d.id.length)))⟩)]) [4,5,6,7] (fun zz=>c.id.length - zz.1) ⟨0,Nat.zero_le _,by trivial⟩ ?_ ?_
    · exact Imp.auto hX (by simp [go_sem,simprocAttr,Nat.zero_mul])
    rintro ⟨i,hii,hwi⟩
    simp only [go_sem,simprocAttr]
    rcases Nat.lt_or_ge i c.id.length with hli | hgi
    · repeat' (first|(with_reducible first|refine V_seq ?_|refine V_block ?_|refine V_skip ?_|refine V_ret ?_|refine V_exit ?_)|((with_reducible refine V_cond ?_);simp only [go_sem,simprocAttr])|((first|refine V_region (by rw [hn];rfl) ?_|refine V_drawn hmix (by rw [hn];rfl) ?_);intro K hK)|((first|with_reducible refine evOps_n ?_|((with_reducible apply evOps_g);rfl)|with_reducible refine evOpsD_n ?_|((with_reducible apply evOpsD_g);rfl));intro K hK;simp (contextual:=true) only [go_sem,simprocAttr])|with_reducible refine evOps_nil ?_|((with_reducible refine evOpsD_nil ?_ ?_);kernel_rfl)|((with_reducible refine hK _ ?_);clear hK K)|(with_reducible first|refine And.intro ?_ ?_|refine nxt_n ?_|refine nxt_r ?_|refine nxt_e ?_|refine blk_n ?_|refine blk_r ?_|refine blk_same ?_|refine blk_other (by decide) ?_|refine noG_n ?_|refine noG_r ?_|refine noG_e ?_|refine inR_mk ?_ ?_)|(refine fun (hc : (_ : Bool) = _)=>?_;try simp only [hcS] at hc))
      all_goals try exact om_
      refine V_loopK (G:={j : Nat // j ≤ d.id.length ∧ (True)}) (fun ⟨j,_⟩=>[(119,iv j),(12,iv (c.id.getD i 0)),(110,iv i),(2,.ptr 0 0),(3,.ptr 1 0),(4,.ptr 2 0),(7,.ptr 3 0),(8,.ptr 4 0)]) [5,108,109,117,118] (fun ⟨j,_⟩=>[(4,⟨1,.box [iv (c.ob * d.ob),.sl 5,.sl 6,.sl 7,.v (.slice none 0 0)]⟩),(5,⟨1,.arr (ints (pq d.fr.length c.fr d.fr d.ob (c.fr.length * d.fr.length)))⟩),(6,⟨1,.arr (ints (pq d.fr.length c.to d.to d.ob (c.fr.length * d.fr.length)))⟩),(7,⟨1,.arr (ints (pq d.id.length c.id d.id d.fr.length (i * d.id.length + j)))⟩)]) [4,5,6,7] (fun zz=>d.id.length - zz.1) ⟨0,Nat.zero_le _,by first|trivial|simp⟩ ?_ ?_
      · exact Imp.au hX
      rintro ⟨j,hij,hwj⟩
      simp only [go_sem,simprocAttr]
      have hln:=pq_len (n:=d.id.length) (x:=c.id) (y:=d.id) (w:=(d.fr.length : Int)) (k:=i * d.id.length + j)
      have hle : i * d.id.length + j ≤ 64:=by
        have:=Nat.mul_le_mul_right d.id.length (show i + 1 ≤ 8 by omega)
        rw [Nat.succ_mul] at this
        omega
      rcases Nat.lt_or_ge j d.id.length with hlj | hgj
      · have w1:=sc.idw i (by omega)
        have w2:=sd.idw j (by omega)
        have e1:=mul_b (x:=c.id.getD i 0) (n:=(d.fr.length : Int)) w1.1 (by omega) (by omega) (by omega)
        have e2:=pq_succ (n:=d.id.length) (x:=c.id) (y:=d.id) (w:=(d.fr.length : Int)) (i:=i) (j:=j) (by omega)
        repeat' (first|(with_reducible first|refine V_seq ?_|refine V_block ?_|refine V_skip ?_|refine V_ret ?_|refine V_exit ?_)|((with_reducible refine V_cond ?_);simp only [go_sem,simprocAttr])|((first|refine V_region (by rw [hn];rfl) ?_|refine V_drawn hmix (by rw [hn];rfl) ?_);intro K hK)|((first|with_reducible refine evOps_n ?_|((with_reducible apply evOps_g);rfl)|with_reducible refine evOpsD_n ?_|((with_reducible apply evOpsD_g);rfl));intro K hK;simp (contextual:=true) only [go_sem,simprocAttr])|with_reducible refine evOps_nil ?_|((with_reducible refine evOpsD_nil ?_ ?_);kernel_rfl)|((with_reducible refine hK _ ?_);clear hK K)|(with_reducible first|refine And.intro ?_ ?_|refine nxt_n ?_|refine nxt_r ?_|refine nxt_e ?_|refine blk_n ?_|refine blk_r ?_|refine blk_same ?_|refine blk_other (by decide) ?_|refine noG_n ?_|refine noG_r ?_|refine noG_e ?_|refine inR_mk ?_ ?_)|(refine fun (hc : (_ : Bool) = _)=>?_;try simp only [hcS] at hc))
        all_goals try exact om_
        · refine ⟨⟨j + 1,by omega,(by trivial)⟩,by simp only;omega,Imp.auto hX (by simp only [go_sem,simprocAttr,e2])⟩
      · have ej : j = d.id.length:=by omega
        subst ej
        have e3 : i * d.id.length + d.id.length = (i + 1) * d.id.length:=(Nat.succ_mul _ _).symm
        repeat' (first|(with_reducible first|refine V_seq ?_|refine V_block ?_|refine V_skip ?_|refine V_ret ?_|refine V_exit ?_)|((with_reducible refine V_cond ?_);simp only [go_sem,simprocAttr])|((first|refine V_region (by rw [hn];rfl) ?_|refine V_drawn hmix (by rw [hn];rfl) ?_);intro K hK)|((first|with_reducible refine evOps_n ?_|((with_reducible apply evOps_g);rfl)|with_reducible refine evOpsD_n ?_|((with_reducible apply evOpsD_g);rfl));intro K hK;simp (contextual:=true) only [go_sem,simprocAttr])|with_reducible refine evOps_nil ?_|((with_reducible refine evOpsD_nil ?_ ?_);kernel_rfl)|((with_reducible refine hK _ ?_);clear hK K)|(with_reducible first|refine And.intro ?_ ?_|refine nxt_n ?_|refine nxt_r ?_|refine nxt_e ?_|refine blk_n ?_|refine blk_r ?_|refine blk_same ?_|refine blk_other (by decide) ?_|refine noG_n ?_|refine noG_r ?_|refine noG_e ?_|refine inR_mk ?_ ?_)|(refine fun (hc : (_ : Bool) = _)=>?_;try simp only [hcS] at hc))
        all_goals try exact om_
        · refine ⟨⟨i + 1,by omega,(by (trivial))⟩,by simp only;omega,Imp.auto hX (by simp only [go_sem,simprocAttr,e3])⟩
    · have ei : i = c.id.length:=by omega
      subst ei
      repeat' (first|(with_reducible first|refine V_seq ?_|refine V_block ?_|refine V_skip ?_|refine V_ret ?_|refine V_exit ?_)|((with_reducible refine V_cond ?_);simp only [go_sem,simprocAttr])|((first|refine V_region (by rw [hn];rfl) ?_|refine V_drawn hmix (by rw [hn];rfl) ?_);intro K hK)|((first|with_reducible refine evOps_n ?_|((with_reducible apply evOps_g);rfl)|with_reducible refine evOpsD_n ?_|((with_reducible apply evOpsD_g);rfl));intro K hK;simp (contextual:=true) only [go_sem,simprocAttr])|with_reducible refine evOps_nil ?_|((with_reducible refine evOpsD_nil ?_ ?_);kernel_rfl)|((with_reducible refine hK _ ?_);clear hK K)|(with_reducible first|refine And.intro ?_ ?_|refine nxt_n ?_|refine nxt_r ?_|refine nxt_e ?_|refine blk_n ?_|refine blk_r ?_|refine blk_same ?_|refine blk_other (by decide) ?_|refine noG_n ?_|refine noG_r ?_|refine noG_e ?_|refine inR_mk ?_ ?_)|((with_reducible refine evCall_at 115 ?_);refine EvCall.mk (T) cal_Category_table [(0,4),(1,5),(2,6),(3,7),(4,8)] [0,3,1] (by simp [go_sem] <;> (repeat' (first|rfl|constructor))) (by simp [go_sem] <;> (repeat' (first|rfl|constructor))) ?_;all_goals try simp only [go_sem,simprocAttr])|(refine fun (hc : (_ : Bool) = _)=>?_;try simp only [hcS] at hc))
      all_goals try exact om_
      · (first|refine ret_auto ?_|refine ret_auto' ?_);simp only [go_sem,simprocAttr,Tryz.f89]
end Go.Eng
end
