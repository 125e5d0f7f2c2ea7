/- Several texts in one: Q09, Q12. -/
import Derived.Test.YthgijhnmcglppaaGreatQ08q
set_option linter.unusedSimpArgs false
set_option linter.unusedVariables false
set_option maxRecDepth 100000
set_option maxHeartbeats 16000000
section
namespace Go.Eng
open Go Go.Proofs Go.Cats
attribute [local go_sem] List.set_cons_zero List.set_cons_succ
theorem iQ:∀(a b:List Int) (i:Nat),a.take i=b.take i→i≤a.length→i≤b.length→dB a b=dB (a.drop i) (b.drop i)
 |a,b,0,_,_,_=>rfl
 |[],_,i+1,_,h,_=>by simp at h
 |_::_,[],i+1,_,_,h=>by simp at h
 |x::a,y::b,i+1,h,h1,h2=>by
  simp only [List.take_succ_cons,List.cons.injEq]at h
  obtain⟨rfl,h⟩:=h
  rw [dB,if_pos rfl]
  exact iQ a b i h (by simpa using h1) (by simpa using h2)
theorem aB0 {a b:List Int} {i:Nat} (h:a.take i=b.take i) (ha:i<a.length) (hb:i<b.length) (hne:¬a.getD i 0=b.getD i 0):dB a b=decide (a.getD i 0<b.getD i 0):=by
 rw [iQ a b i h (by omega) (by omega),List.drop_eq_getElem_cons ha,List.drop_eq_getElem_cons hb]
 rw [List.getD_eq_getElem?_getD,List.getElem?_eq_getElem ha,List.getD_eq_getElem?_getD,List.getElem?_eq_getElem hb]at hne⊢
 simp only [Option.getD_some]at hne⊢
 rw [dB,if_neg hne]
theorem yV {a b:List Int} {i:Nat} (h:a.take i=b.take i) (ha:i≤a.length) (hb:i≤b.length) (he:i=a.length∨i=b.length):dB a b=decide (a.length<b.length):=by
 rw [iQ a b i h ha hb]
 rcases he with rfl|rfl
 ·rw [List.drop_length]
  by_cases q:a.length<b.length
  ·rw [decide_eq_true q,List.drop_eq_getElem_cons q];rfl
  ·rw [decide_eq_false q,List.drop_eq_nil_of_le (by omega)];rfl
 ·rw [List.drop_length (l:=b)]
  have:¬a.length<b.length:=by omega
  rw [decide_eq_false this]
  cases a.drop b.length<;>rfl
theorem iX:aD Tryz.prog 357:=⟨_,Tryz.func357,rfl,rfl⟩
theorem sp_l01Less {a b:List Int} (ha:a.length≤1048576) (hb:b.length≤1048576):Spec Tryz.prog 357 [.bor [] (ints a), .bor [] (ints b)] [] (bv (dB a b)) []:=by
 refine aC (E:=TE) 0 Tryz.func357 rfl (by simp [Tryz.f357]) fun X hn hX=>?_
 repeat'(first|refine wkQ ?_|refine Tw.f ?_ ?_|(refine fun(hc:(_:Bool)=_)=>?_;try simp only [hcS]at hc))
 all_goals try exact om_
 refine aG (G:={i:Nat//i≤a.length∧(a.take i=b.take i∧i≤b.length)}) (fun⟨i,_⟩=>[(5,iv i)]) [0,1] (fun⟨i,_⟩=>[]) [] (fun zz=>a.length-zz.1) ⟨0,Nat.zero_le _,(⟨rfl,Nat.zero_le _⟩)⟩ ?_ ?_
 ·exact Imp.au hX
 rintro⟨i,hii,hwi⟩
 simp only [go_sem,simprocAttr]
 obtain⟨hw1,hw2⟩:=hwi
 repeat'(first|refine wkQ ?_|refine Tw.f ?_ ?_|(refine fun(hc:(_:Bool)=_)=>?_;try simp only [hcS]at hc))
 all_goals try exact om_
 ·(first|refine aB ?_|refine aA ?_);simp only [go_sem,simprocAttr,Tryz.f357]
  rw [aB0 hw1 (by omega) (by omega) hc]
 ·refine⟨⟨i+1,by omega,(by exact⟨kN hw1 (by omega) (by omega) hc,by omega⟩)⟩,by simp only;omega,Imp.ao hX⟩
 all_goals((first|refine aB ?_|refine aA ?_);simp only [go_sem,simprocAttr,Tryz.f357];rw [yV hw1 (by omega) (by omega) (by omega),show decide ((a.length:Int)<(b.length:Int))=decide (a.length<b.length) from by rw [decide_eq_decide];omega])
theorem aAX {L:List (List Int)} (hr:∀i,i<L.length→(L.getD i []).length≤4096):∀i,i≤L.length→(L.take i).flatten.length≤i*4096
 |0,_=>by simp
 |i+1,h=>by
  have h1:=aAX hr i (by omega)
  have h2:=hr i (by omega)
  rw [List.take_add_one,List.getElem?_eq_getElem (by omega)]
  rw [List.getD_eq_getElem?_getD,List.getElem?_eq_getElem (by omega)]at h2
  simp only [Option.toList_some,List.flatten_append,List.length_append,List.flatten_cons,List.flatten_nil,List.append_nil,Option.getD_some]at h2⊢
  omega
theorem aFE:aD Tryz.prog 343:=⟨_,Tryz.func343,rfl,rfl⟩
theorem aH4 {L:List (List Int)} (hl:L.length≤4096) (hr:∀i,i<L.length→(L.getD i []).length≤4096):Spec Tryz.prog 343 [.bor [] (aF L)] [] (.sl 0) [(0,⟨1, .arr (ints L.flatten)⟩)]:=by
 refine aC (E:=TE) 0 Tryz.func343 rfl (by simp [Tryz.f343]) fun X hn hX=>?_
 repeat'(first|refine wkQ ?_|refine Tw.f ?_ ?_|(refine fun(hc:(_:Bool)=_)=>?_;try simp only [hcS]at hc))
 all_goals try exact om_
 refine aG (G:={i:Nat//i≤L.length∧(True)}) (fun⟨i,_⟩=>[(4,iv i),(3, .sl 0)]) [0,2] (fun⟨i,_⟩=>[(0,⟨1, .arr (ints (L.take i).flatten)⟩)]) [0] (fun zz=>L.length-zz.1) ⟨0,Nat.zero_le _,by first|trivial|simp⟩ ?_ ?_
 ·exact Imp.au hX
 rintro⟨i,hii,hwi⟩
 simp only [go_sem,simprocAttr]
 have h1:=hr i
 have h2:=aAX hr i (by omega)
 have e1:i<L.length→(L.take (i+1)).flatten=(L.take i).flatten++L.getD i []:=fun h=>by
  rw [List.take_add_one,List.getElem?_eq_getElem h,List.getD_eq_getElem?_getD,List.getElem?_eq_getElem h]
  simp only [Option.toList_some,List.flatten_append,List.flatten_cons,List.flatten_nil,List.append_nil,Option.getD_some]
 repeat'(first|refine wkQ ?_|refine Tw.f ?_ ?_|(refine fun(hc:(_:Bool)=_)=>?_;try simp only [hcS]at hc))
 all_goals try exact om_
 ·refine⟨⟨i+1,by omega,(by trivial)⟩,by simp only;omega,Imp.auto hX (by simp only [go_sem,simprocAttr,e1 (by omega)])⟩
 ·(first|refine aB ?_|refine aA ?_);simp only [go_sem,simprocAttr,Tryz.f343]
  rw [show i=L.length by omega,List.take_length]
theorem gX:aD Tryz.prog 192:=⟨_,Tryz.func192,rfl,rfl⟩
theorem nR {l:List (List Int)} {r:List Int} (hl:l.length≤1048576) (hr:r.length≤1048576) (hk:∀i,i<l.length→(l.getD i []).length≤1048576):Spec Tryz.prog 192 [.bor [] (aF l), .bor [] (ints r)] [] (iv (fnd l r)) []:=by
 refine aC (E:=TE) 0 Tryz.func192 rfl (by simp [Tryz.f192]) fun X hn hX=>?_
 repeat'(first|refine wkQ ?_|refine Tw.f ?_ ?_|(refine fun(hc:(_:Bool)=_)=>?_;try simp only [hcS]at hc))
 all_goals try exact om_
 refine aG (G:={i:Nat//i≤l.length∧(aZ i (aC4 l r)=none)}) (fun⟨i,_⟩=>[(5,iv i)]) [0,1] (fun⟨i,_⟩=>[]) [] (fun zz=>l.length-zz.1) ⟨0,Nat.zero_le _,by rfl⟩ ?_ ?_
 ·exact Imp.au hX
 rintro⟨i,hii,hwi⟩
 simp only [go_sem,simprocAttr]
 have hki:=hk i
 repeat'(first|refine wkQ ?_|refine Tw.f ?_ ?_|(refine kcQ kS ?_;refine krQ (vH ?_ ?_) ?_)|(refine fun(hc:(_:Bool)=_)=>?_;try simp only [hcS]at hc))
 all_goals try exact om_
 ·(first|refine aB ?_|refine aA ?_);simp only [go_sem,simprocAttr,Tryz.f192]
  rw [aOF hwi (by omega) hc]
 ·refine⟨⟨i+1,by omega,(by exact bJ hwi (aLX hc))⟩,by simp only;omega,Imp.ao hX⟩
 ·(first|refine aB ?_|refine aA ?_);simp only [go_sem,simprocAttr,Tryz.f192]
  rw [aFV (by rw [show l.length=i by omega];exact hwi)]
theorem nM:aD Tryz.prog 310:=⟨_,Tryz.func310,rfl,rfl⟩
theorem aH8 {c:Cat} {f:Nat} (hs:Shape c) (hf:f<c.fr.length):Spec Tryz.prog 310 [cK c,iv f] [] (bv (decide (c.id.getD (c.fr.getD f 0).toNat 0=f))) []:=by
 refine aC (E:=TE) 0 Tryz.func310 rfl (by simp [Tryz.f310]) fun X hn hX=>?_
 have f1:=hs.frw f hf
 have f2:=hs.idl
 repeat'(first|refine wkQ ?_|refine Tw.f ?_ ?_|(refine fun(hc:(_:Bool)=_)=>?_;try simp only [hcS]at hc))
 all_goals try exact om_
 ·(first|refine aB ?_|refine aA ?_);simp only [go_sem,simprocAttr,Tryz.f310]
theorem lJ:aD Tryz.prog 342:=⟨_,Tryz.func342,rfl,rfl⟩
theorem nS {h f g:Int}:Spec Tryz.prog 342 [iv h,iv f,iv g] [] (iv (whi h f g)) []:=by
 refine aC (E:=TE) 0 Tryz.func342 rfl (by simp [Tryz.f342]) fun X hn hX=>?_
 repeat'(first|refine wkQ ?_|refine Tw.f ?_ ?_|(refine fun(hc:(_:Bool)=_)=>?_;try simp only [hcS]at hc))
 all_goals try exact om_
 all_goals((first|refine aB ?_|refine aA ?_);simp only [go_sem,simprocAttr,Tryz.f342];exact aT1 (by unfold whi;(repeat' split)<;>omega))
end Go.Eng
end
section
namespace Go.Eng
open Go Go.Proofs Go.Cats
attribute [local go_sem] List.set_cons_zero List.set_cons_succ
theorem aBI {l:List Int} {i:Nat} (v:Int) (h:i<l.length):(l.take (i+1)).count v=(l.take i).count v+if l.getD i 0=v then 1 else 0:=by
 rw [List.take_add_one,List.getElem?_eq_getElem h,List.getD_eq_getElem?_getD,List.getElem?_eq_getElem h,List.count_append]
 simp only [Option.toList_some,Option.getD_some,List.count_cons,List.count_nil,Nat.zero_add,beq_iff_eq]
def dz (a b:List Int) (v:Int):Nat→Int
 |0=>0
 |i+1=>dz a b v i+(if a.getD i 0=v then 1 else 0)-(if b.getD i 0=v then 1 else 0)
@[go_sem] theorem aWN (a b:List Int) (v:Int):dz a b v 0=0:=rfl
theorem aLQ {a b:List Int} (v:Int):∀i,i≤a.length→i≤b.length→dz a b v i=((a.take i).count v:Int)-(b.take i).count v
 |0,_,_=>by simp [dz]
 |i+1,h1,h2=>by
  rw [dz,aLQ v i (by omega) (by omega),aBI v (by omega),aBI v (by omega)]
  split<;>split<;>omega
theorem vR:aD Tryz.prog 312:=⟨_,Tryz.func312,rfl,rfl⟩
theorem aGT {a b:List Int} (ha:a.length≤1048576) (hb:b.length≤1048576):Spec Tryz.prog 312 [.bor [] (ints a), .bor [] (ints b)] [] (bv (dec (qN a b))) []:=by
 refine aC (E:=TE) 0 Tryz.func312 rfl (by simp [Tryz.f312]) fun X hn hX=>?_
 by_cases hab:a.length=b.length
 ·repeat'(first|refine wkQ ?_|refine Tw.f ?_ ?_|(refine fun(hc:(_:Bool)=_)=>?_;try simp only [hcS]at hc))
  all_goals try exact om_
  refine aG (G:={k:Nat//k≤a.length∧(∀j,j<k→a.count (a.getD j 0)=b.count (a.getD j 0))}) (fun⟨k,_⟩=>[(5,iv k)]) [0,1] (fun⟨k,_⟩=>[]) [] (fun zz=>a.length-zz.1) ⟨0,Nat.zero_le _,by omega⟩ ?_ ?_
  ·exact Imp.au hX
  rintro⟨k,hik,hwk⟩
  simp only [go_sem,simprocAttr]
  have zn:=aLQ (a:=a) (b:=b) (a.getD k 0) a.length (Nat.le_refl _) (by omega)
  rw [List.take_length,List.take_of_length_le (show b.length≤a.length by omega)]at zn
  have zb:∀i,i≤a.length→-1048576≤dz a b (a.getD k 0) i∧dz a b (a.getD k 0) i≤1048576:=fun i hi=>by
   rw [aLQ _ i hi (by omega)]
   have h1:=List.count_le_length (a:=a.getD k 0) (l:=a.take i)
   have h2:=List.count_le_length (a:=a.getD k 0) (l:=b.take i)
   rw [List.length_take]at h1 h2
   omega
  repeat'(first|refine wkQ ?_|refine Tw.f ?_ ?_|(refine fun(hc:(_:Bool)=_)=>?_;try simp only [hcS]at hc))
  all_goals try exact om_
  ·refine aG (G:={i:Nat//i≤a.length∧(True)}) (fun⟨i,_⟩=>[(7,iv i),(6,iv (dz a b (a.getD k 0) i))]) [0,1,4,5] (fun⟨i,_⟩=>[]) [] (fun zz=>a.length-zz.1) ⟨0,Nat.zero_le _,by first|trivial|simp⟩ ?_ ?_
   ·exact Imp.au hX
   rintro⟨i,hii,hwi⟩
   simp only [go_sem,simprocAttr]
   have zbi:=zb i (by omega)
   rcases Nat.lt_or_ge i a.length with hlt|hge
   ·have zs:dz a b (a.getD k 0) (i+1)=dz a b (a.getD k 0) i+(if a.getD i 0=a.getD k 0 then 1 else 0)-(if b.getD i 0=a.getD k 0 then 1 else 0):=rfl
    by_cases q1:a.getD i 0=a.getD k 0
    ·by_cases q2:b.getD i 0=a.getD k 0
     ·rw [if_pos q1,if_pos q2]at zs
      repeat'(first|refine wkQ ?_|refine Tw.f ?_ ?_|(refine fun(hc:(_:Bool)=_)=>?_;try simp only [hcS]at hc))
      all_goals try exact om_
      all_goals(refine⟨⟨i+1,by omega,(by trivial)⟩,by simp only;omega,Imp.auto hX (by simp only [go_sem,simprocAttr,zs])⟩)
     ·rw [if_pos q1,if_neg q2,Int.sub_zero]at zs
      repeat'(first|refine wkQ ?_|refine Tw.f ?_ ?_|(refine fun(hc:(_:Bool)=_)=>?_;try simp only [hcS]at hc))
      all_goals try exact om_
      all_goals(refine⟨⟨i+1,by omega,(by trivial)⟩,by simp only;omega,Imp.auto hX (by simp only [go_sem,simprocAttr,zs])⟩)
    ·by_cases q2:b.getD i 0=a.getD k 0
     ·rw [if_neg q1,if_pos q2,Int.add_zero]at zs
      repeat'(first|refine wkQ ?_|refine Tw.f ?_ ?_|(refine fun(hc:(_:Bool)=_)=>?_;try simp only [hcS]at hc))
      all_goals try exact om_
      all_goals(refine⟨⟨i+1,by omega,(by trivial)⟩,by simp only;omega,Imp.auto hX (by simp only [go_sem,simprocAttr,zs])⟩)
     ·rw [if_neg q1,if_neg q2,Int.add_zero,Int.sub_zero]at zs
      repeat'(first|refine wkQ ?_|refine Tw.f ?_ ?_|(refine fun(hc:(_:Bool)=_)=>?_;try simp only [hcS]at hc))
      all_goals try exact om_
      all_goals(refine⟨⟨i+1,by omega,(by trivial)⟩,by simp only;omega,Imp.auto hX (by simp only [go_sem,simprocAttr,zs])⟩)
   ·rw [show i=a.length by omega]
    repeat'(first|refine wkQ ?_|refine Tw.f ?_ ?_|(refine fun(hc:(_:Bool)=_)=>?_;try simp only [hcS]at hc))
    all_goals try exact om_
    ·(first|refine aB ?_|refine aA ?_);simp only [go_sem,simprocAttr,Tryz.f312]
     exact cD fun e=>by have:=e.2 k (by omega);omega
    ·refine⟨⟨k+1,by omega,(by exact bB hwk (by omega))⟩,by simp only;omega,Imp.ao hX⟩
  ·(first|refine aB ?_|refine aA ?_);simp only [go_sem,simprocAttr,Tryz.f312]
   exact nD ⟨hab,fun j hj=>hwk j (by omega)⟩
 ·repeat'(first|refine wkQ ?_|refine Tw.f ?_ ?_|(refine fun(hc:(_:Bool)=_)=>?_;try simp only [hcS]at hc))
  all_goals try exact om_
  ·(first|refine aB ?_|refine aA ?_);simp only [go_sem,simprocAttr,Tryz.f312]
   exact cD fun e=>hab e.1
end Go.Eng
end
