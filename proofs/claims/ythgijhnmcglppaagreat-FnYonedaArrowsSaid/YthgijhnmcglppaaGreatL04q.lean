/- The dice of the laws: the like of the reference's sources. -/
import Derived.Test.YthgijhnmcglppaaGreatKcax
set_option linter.unusedSimpArgs false
set_option linter.unusedVariables false
set_option maxRecDepth 100000
set_option maxHeartbeats 16000000
namespace Go.Eng
open Go Go.Proofs Go.Cats
theorem gP:aD Tryz.prog 19:=⟨_,Tryz.func19,rfl,rfl⟩
theorem oD {s:RnS} {n:Int} (hs:RnOk s):Spec Tryz.prog 19 [.ptr 0 0,iv n] [(0,bQ s)] (iv (aK s n)) [(0,bQ (aL s n))]:=by
 refine aC (E:=TE) 1 Tryz.func19 rfl (by simp [Tryz.f19]) fun X hn hX=>?_
 by_cases h1:n<1
 ·rw [aIV h1,show aL s n=s from by unfold aL;rw [if_pos h1]]
  repeat'(first|(with_reducible first|refine St.f ?_|refine V_c ?_|refine eDn ?_|refine And.intro ?_ ?_|refine aJ ?_ ?_)|((refine aV ?_);intro K hK)|((with_reducible refine So.f ?_);intro K hK;simp(contextual:=true)only [go_sem,simprocAttr])|((with_reducible refine hK _ ?_);clear hK K)|(refine fun(hc:(_:Bool)=_)=>?_;try simp only [hcS]at hc))
  all_goals try exact om_
  all_goals try(exfalso;omega)
  (first|refine aB ?_|refine aA ?_);simp only [go_sem,simprocAttr,Tryz.f19]
 ·have hx:=aRJ s.hash
  have hw:=aFq hx.1 hx.2
  by_cases h2:s.at_<s.code.length
  ·have hb:=hs.b _ h2
   have hw2:=aFq (z:=s.code.getD s.at_ 0) hb.1 (by omega)
   have eX:qF s=rx s.hash+s.code.getD s.at_ 0:=by unfold qF;rw [if_pos h2]
   have eF:aK s n=(rx s.hash+s.code.getD s.at_ 0).tmod n:=by unfold aK;rw [if_neg h1,eX]
   have eS:aL s n=⟨s.code,s.at_+1,hz s.hash⟩:=by unfold aL;rw [if_neg h1,if_pos h2]
   have hl:=hs.len
   rw [eF,eS]
   repeat'(first|(refine(id ?_:V _ _ (Code.region 4 _ _) _ _);refine iV 4 (by rw [hn];rfl) ?_;intro K hK)|(refine dN ?_;refine wU (k:= .u64) (a:=hz s.hash) (b:=33) (by first|(simp only [go_sem,simprocAttr];done)|(simp only [go_sem,simprocAttr];rfl)) (by first|(simp only [go_sem,simprocAttr];done)|(simp only [go_sem,simprocAttr];rfl)) (by decide) ?_;simp only [go_sem,simprocAttr])|(refine dN ?_;refine wQ (k:= .u64) (a:=(hz s.hash).fdiv (2^min (33:Int).toNat IntKind.u64.bits)) (b:=16777215) (by first|(simp only [go_sem,simprocAttr];done)|(simp only [go_sem,simprocAttr];rfl)) (by first|(simp only [go_sem,simprocAttr];done)|(simp only [go_sem,simprocAttr];rfl)) ?_;simp only [go_sem,simprocAttr])|(refine dN ?_;refine iI (x:= .tmp 22) (k:= .i64) (q:= .u64) (n:=rx s.hash) ty_n.1.1 ty_n.1.2 (by first|(simp only [go_sem,simprocAttr];done)|(simp only [go_sem,simprocAttr];rfl)) ?_;rw [hw];simp only [go_sem,simprocAttr])|((with_reducible refine oO ?_);simp only [go_sem,simprocAttr])|(with_reducible refine oN ?_)|(with_reducible first|refine St.f ?_|refine V_c ?_|refine eDn ?_|refine And.intro ?_ ?_|refine aJ ?_ ?_)|((refine aV ?_);intro K hK)|((with_reducible refine So.f ?_);intro K hK;simp(contextual:=true)only [go_sem,simprocAttr])|((with_reducible refine hK _ ?_);clear hK K)|(refine iI (x:= .tmp 44) (k:= .i64) (q:= .u8) (n:=s.code.getD s.at_ 0) ty_n.2.1.1 ty_n.1.2 (by simp only [go_sem,simprocAttr]) ?_;rw [hw2];simp only [go_sem,simprocAttr])|(refine fun(hc:(_:Bool)=_)=>?_;try simp only [hcS]at hc))
   all_goals try exact om_
   all_goals try(exfalso;omega)
   (first|refine aB ?_|refine aA ?_);simp only [go_sem,simprocAttr,Tryz.f19]
   rfl
  ·have eX:qF s=rx s.hash:=by unfold qF;rw [if_neg h2];omega
   have eF:aK s n=(rx s.hash).tmod n:=by unfold aK;rw [if_neg h1,eX]
   have eS:aL s n=⟨s.code,s.at_,hz s.hash⟩:=by unfold aL;rw [if_neg h1,if_neg h2]
   rw [eF,eS]
   repeat'(first|(refine(id ?_:V _ _ (Code.region 4 _ _) _ _);refine iV 4 (by rw [hn];rfl) ?_;intro K hK)|(refine dN ?_;refine wU (k:= .u64) (a:=hz s.hash) (b:=33) (by first|(simp only [go_sem,simprocAttr];done)|(simp only [go_sem,simprocAttr];rfl)) (by first|(simp only [go_sem,simprocAttr];done)|(simp only [go_sem,simprocAttr];rfl)) (by decide) ?_;simp only [go_sem,simprocAttr])|(refine dN ?_;refine wQ (k:= .u64) (a:=(hz s.hash).fdiv (2^min (33:Int).toNat IntKind.u64.bits)) (b:=16777215) (by first|(simp only [go_sem,simprocAttr];done)|(simp only [go_sem,simprocAttr];rfl)) (by first|(simp only [go_sem,simprocAttr];done)|(simp only [go_sem,simprocAttr];rfl)) ?_;simp only [go_sem,simprocAttr])|(refine dN ?_;refine iI (x:= .tmp 22) (k:= .i64) (q:= .u64) (n:=rx s.hash) ty_n.1.1 ty_n.1.2 (by first|(simp only [go_sem,simprocAttr];done)|(simp only [go_sem,simprocAttr];rfl)) ?_;rw [hw];simp only [go_sem,simprocAttr])|((with_reducible refine oO ?_);simp only [go_sem,simprocAttr])|(with_reducible refine oN ?_)|(with_reducible first|refine St.f ?_|refine V_c ?_|refine eDn ?_|refine And.intro ?_ ?_|refine aJ ?_ ?_)|((refine aV ?_);intro K hK)|((with_reducible refine So.f ?_);intro K hK;simp(contextual:=true)only [go_sem,simprocAttr])|((with_reducible refine hK _ ?_);clear hK K)|(refine fun(hc:(_:Bool)=_)=>?_;try simp only [hcS]at hc))
   all_goals try exact om_
   all_goals try(exfalso;omega)
   (first|refine aB ?_|refine aA ?_);simp only [go_sem,simprocAttr,Tryz.f19]
   rfl
def dF (l:List Int) (z:Int):Nat→Int
 |0=>IntKind.u64.wrap (IntKind.u64.wrap (z*7681)+IntKind.u64.wrap (l.length:Int))
 |i+1=>IntKind.u64.wrap (IntKind.u64.wrap (IntKind.u64.wrap (dF l z i*1099511628211)+IntKind.u64.wrap (l.getD i 0))+5)
def aJg (l:List Int) (z:Int):RnS:=⟨l,0,dF l z l.length⟩
theorem aJi {l:List Int} {z:Int} (hl:l.length≤4096) (hb:∀i,i<l.length→0≤l.getD i 0∧l.getD i 0<256):RnOk (aJg l z):=⟨hl,Nat.zero_le _,hb⟩
theorem aOt (l:List Int) (z:Int):dF l z 0=IntKind.u64.wrap (IntKind.u64.wrap (z*7681)+IntKind.u64.wrap (l.length:Int)):=rfl
attribute [local go_sem] aOt
theorem vS:aD Tryz.prog 17:=⟨_,Tryz.func17,rfl,rfl⟩
theorem aJu {l:List Int} {z:Int} (hl:l.length≤4096):Spec Tryz.prog 17 [.bor [] (bys l), .v (.int .u64 z)] [] (.ptr 0 0) [(0,bQ (aJg l z))]:=by
 refine aC (E:=TE) 0 Tryz.func17 rfl (by simp [Tryz.f17]) fun X hn hX=>?_
 repeat'(first|(with_reducible first|refine St.f ?_|refine V_c ?_|refine eDn ?_|refine And.intro ?_ ?_|refine aJ ?_ ?_|refine aO ?_)|((refine aV ?_);intro K hK)|((with_reducible refine So.f ?_);intro K hK;simp(contextual:=true)only [go_sem,simprocAttr])|((with_reducible refine hK _ ?_);clear hK K)|(refine iI (x:= .tmp 11) (k:= .u64) (q:= .i64) (n:=(l.length:Int)) ty_m.1 ty_m.2 (by simp only [go_sem,simprocAttr]) ?_;simp only [go_sem,simprocAttr])|(refine fun(hc:(_:Bool)=_)=>?_;try simp only [hcS]at hc))
 all_goals try exact om_
 refine aG (G:={i:Nat//i≤l.length∧(True)}) (fun⟨i,_⟩=>[(6,iv i),(5, .ptr 0 0)]) [0,4] (fun⟨i,_⟩=>[(0,⟨1, .box [.bor [] (bys l),iv 0, .v (.int .u64 (dF l z i))]⟩)]) [0] (fun zz=>l.length-zz.1) ⟨0,Nat.zero_le _,by first|trivial|simp⟩ ?_ ?_
 ·exact Imp.au hX
 rintro⟨i,hii,hwi⟩
 simp only [go_sem,simprocAttr]
 rcases Nat.lt_or_ge i l.length with hlt|hge
 ·have e1:dF l z (i+1)=IntKind.u64.wrap (IntKind.u64.wrap (IntKind.u64.wrap (dF l z i*1099511628211)+IntKind.u64.wrap (l.getD i 0))+5):=rfl
  repeat'(first|(with_reducible first|refine St.f ?_|refine V_c ?_|refine eDn ?_|refine And.intro ?_ ?_|refine aJ ?_ ?_|refine aO ?_)|((refine aV ?_);intro K hK)|((with_reducible refine So.f ?_);intro K hK;simp(contextual:=true)only [go_sem,simprocAttr])|((with_reducible refine hK _ ?_);clear hK K)|(refine iI (x:= .tmp 31) (k:= .u64) (q:= .u8) (n:=l.getD i 0) ty_n.2.1.1 ty_n.2.1.2 (by simp only [go_sem,simprocAttr]) ?_;simp only [go_sem,simprocAttr])|(refine fun(hc:(_:Bool)=_)=>?_;try simp only [hcS]at hc))
  all_goals try exact om_
  all_goals try(exfalso;omega)
  refine⟨⟨i+1,by omega,(by trivial)⟩,by simp only;omega,Imp.auto hX (by simp only [go_sem,simprocAttr,e1])⟩
 ·obtain rfl:i=l.length:=by omega
  repeat'(first|(with_reducible first|refine St.f ?_|refine V_c ?_|refine eDn ?_|refine And.intro ?_ ?_|refine aJ ?_ ?_|refine aO ?_)|((refine aV ?_);intro K hK)|((with_reducible refine So.f ?_);intro K hK;simp(contextual:=true)only [go_sem,simprocAttr])|((with_reducible refine hK _ ?_);clear hK K)|(refine fun(hc:(_:Bool)=_)=>?_;try simp only [hcS]at hc))
  all_goals try exact om_
  all_goals try(exfalso;omega)
  (first|refine aB ?_|refine aA ?_);simp only [go_sem,simprocAttr,Tryz.f17]
  rfl
end Go.Eng
