/- Several texts in one: R08, R09, R10. -/
import Derived.Test.YthgijhnmcglppaaGreatKaax
import Derived.Test.YthgijhnmcglppaaGreatR04q
set_option linter.unusedSimpArgs false
set_option linter.unusedVariables false
set_option maxRecDepth 100000
set_option maxHeartbeats 16000000
section
namespace Go.Eng
open Go Go.Proofs Go.Cats
attribute [local go_sem] List.set_cons_zero List.set_cons_succ kV aDC List.map_nil
theorem aPC {α β:Type} {F:List β} {A:List α} {f:α→β} {n:Nat}:(F++(A.take n).map f).take n=(F++A.map f).take n:=by
 rw [List.map_take,List.take_append,List.take_append (l₂:=A.map f),List.take_take,Nat.min_eq_left (by omega)]
theorem aOq {c d:Cat} {P:List Int}:dU c d false 0 P=(aAb c d false P).map (mkF c d P):=rfl
theorem tJ:aE Tryz.prog 273:=⟨_,Tryz.func273,rfl,rfl⟩
theorem pV {c d:Cat} {r:Nat} {P:List Int} {F:List Fun} (sc:Shape c) (sd:Shape d) (hPl:P.length≤1048576) (hF:F.length≤200) (hR:¬yY c d P):
  Spec Tryz.prog 273 [bK c,bK d, .bor [] (ints P), .sl 0] [(0,⟨1, .arr (aS F)⟩)] (.sl 1) [(0,⟨1, .gone⟩),(1,⟨1, .arr (aS ((F++dU c d false r P).take 201))⟩)]:=by
 have m40:=sc.m40
 have n40:=sd.m40
 have hro:=rS (P:=P) sc sd hPl
 rw [eD hR]at hro
 have hno:=aMZ (d:=d) (r:=r) sc hR
 rw [hno,List.append_nil,List.take_of_length_le (by omega)]
 refine aD (E:=TE) 1 Tryz.func273 rfl (by simp [Tryz.f273]) fun X hn hX=>?_
 repeat'(first|(refine bU 0 (Imp.mv 3 0 1 (aS F) rfl rfl (Nat.le_refl 1) rfl (by rw [hX];rfl)) ?_;simp only [go_sem,simprocAttr])|(with_reducible first|refine St.f ?_|refine V_c ?_|refine eDn ?_|refine And.intro ?_ ?_|refine aH ?_ ?_|refine aK ?_)|((refine aN ?_);intro K hK)|((with_reducible refine So.f ?_);intro K hK;simp(contextual:=true)only [go_sem,simprocAttr])|((with_reducible refine hK _ ?_);clear hK K)|((with_reducible refine aC 327 ?_);refine EvCall.mr (hro) oI [] [] ?_)|(refine fun(hc:(_:Bool)=_)=>?_;try simp only [hcS]at hc))
 all_goals try exact om_
 ·(first|refine aB ?_|refine aA ?_);simp only [go_sem,simprocAttr,Tryz.f273]
theorem aBT {c d:Cat} {P:List Int} {F:List Fun} (sc:IsCat c) (sd:IsCat d) (bc:CatB c) (bd:CatB d) (hPl:(P.length:Int)=c.ob) (hw:Within P d.ob) (hF:F.length≤200) (hR:yY c d P):
  Spec Tryz.prog 273 [bK c,bK d, .bor [] (ints P), .sl 0] [(0,⟨1, .arr (aS F)⟩)] (.sl 1) [(0,⟨1, .gone⟩),(1,⟨1, .arr (aS ((F++dU c d false 0 P).take 201))⟩)]:=by
 have m40:=sc.toShape.m40
 have n40:=sd.toShape.m40
 have tol:=sc.toShape.tol
 have dol:=sd.toShape.tol
 have c0:=sc.toShape.ob0
 have c8:=sc.toShape.ob8
 have d0:=sd.toShape.ob0
 have d8:=sd.toShape.ob8
 have cil:=sc.toShape.idl
 have dil:=sd.toShape.idl
 have hro:=rS (P:=P) sc.toShape sd.toShape (by omega)
 rw [bH hR]at hro
 have hP:XOK c d false P:=⟨by omega,hw,fun h=>by cases h⟩
 refine aD (E:=TE) 1 Tryz.func273 rfl (by simp [Tryz.f273]) fun X hn hX=>?_
 repeat'(first|(refine bU 0 (Imp.mv 3 0 1 (aS F) rfl rfl (Nat.le_refl 1) rfl (by rw [hX];rfl)) ?_;simp only [go_sem,simprocAttr])|(with_reducible first|refine St.f ?_|refine V_c ?_|refine eDn ?_|refine And.intro ?_ ?_|refine aH ?_ ?_|refine aK ?_)|((refine aN ?_);intro K hK)|((with_reducible refine So.f ?_);intro K hK;simp(contextual:=true)only [go_sem,simprocAttr])|((with_reducible refine hK _ ?_);clear hK K)|((with_reducible refine aC 327 ?_);refine EvCall.mr (hro) oI [] [] ?_)|(refine fun(hc:(_:Bool)=_)=>?_;try simp only [hcS]at hc))
 all_goals try exact om_
 refine aG (G:={a:Nat//a≤c.fr.length∧(True)}) (fun⟨a,_⟩=>[(10,iv a),(9, .sl 4),(3, .sl 1)]) [2,4,5,8] (fun⟨a,_⟩=>[(1,⟨1, .arr (aS F)⟩),(4,⟨1, .arr (ints (List.replicate a (-1)))⟩)]) [1,4] (fun zz=>c.fr.length-zz.1) ⟨0,Nat.zero_le _,by first|trivial|simp⟩ ?_ ?_
 ·exact Imp.au hX
 rintro⟨a,hia,hwa⟩
 simp only [go_sem,simprocAttr]
 rcases Nat.lt_or_ge a c.fr.length with hlt|hge
 ·have e1:=aDB a
  repeat'(first|refine wkQ ?_|refine Tw.f ?_ ?_|(refine fun(hc:(_:Bool)=_)=>?_;try simp only [hcS]at hc))
  all_goals try exact om_
  ·refine⟨⟨a+1,by omega,(by trivial)⟩,by simp only;omega,Imp.auto hX (by simp only [go_sem,simprocAttr,e1])⟩
 ·have ea:List.replicate a (-1:Int)=bR c d P 0:=by rw [show a=c.fr.length by omega];rfl
  rw [ea]
  repeat'(first|refine wkQ ?_|refine Tw.f ?_ ?_|(refine fun(hc:(_:Bool)=_)=>?_;try simp only [hcS]at hc))
  all_goals try exact om_
  refine aG (G:={y:Nat//y≤P.length∧(True)}) (fun⟨y,_⟩=>[(11,iv y),(9, .sl 4),(3, .sl 1)]) [2,4,5,8] (fun⟨y,_⟩=>[(1,⟨1, .arr (aS F)⟩),(4,⟨1, .arr (ints (bR c d P y))⟩)]) [1,4] (fun zz=>P.length-zz.1) ⟨0,Nat.zero_le _,by first|trivial|simp⟩ ?_ ?_
  ·exact Imp.au hX
  rintro⟨y,hiy,hwy⟩
  simp only [go_sem,simprocAttr]
  have sl:=eB (c:=c) (d:=d) (X:=P) y
  rcases Nat.lt_or_ge y P.length with hly|hgy
  ·have i1:=mG sc.toShape (x:=y) (by omega)
   have i2:=pO sc.toShape sd.toShape hP (x:=y) (by omega)
   repeat'(first|refine wkQ ?_|refine Tw.f ?_ ?_|(refine fun(hc:(_:Bool)=_)=>?_;try simp only [hcS]at hc))
   all_goals try exact om_
   ·refine⟨⟨y+1,by omega,(by trivial)⟩,by simp only;omega,Imp.auto hX (by simp only [go_sem,simprocAttr,show(bR c d P y).set (c.id.getD y 0).toNat (d.id.getD (P.getD y 0).toNat 0)=bR c d P (y+1) from rfl])⟩
  ·have ey:bR c d P y=fL c d P:=by rw [show y=c.id.length by omega];rfl
   rw [ey]
   have hnx:=aNv (b:=false) sc sd hP (fun h=>by cases h)
   have hun:=vB (fL c d P)
   have hal:=rR sc.toShape sd.toShape hP (uns (fL c d P)+1) [] (fL c d P) 0 hnx (Nat.lt_succ_self _) (fun j hj=>absurd hj (Nat.not_lt_zero j)) (Nat.zero_le _) (by decide)
   rw [List.nil_append,←aG3 sc.toShape]at hal
   have hLl:((aAb c d false P).take 201).length≤201:=by rw [List.length_take];omega
   have hfin:dU c d false 0 P=(aAb c d false P).map (mkF c d P):=aOq
   rw [hfin,←aPC]
   obtain⟨L,hL⟩:∃L,(aAb c d false P).take 201=L:=⟨_,rfl⟩
   have hrow:∀k,k<L.length→(L.getD k []).length=c.fr.length:=fun k hk=>by
    have hm:L.getD k []∈aAb c d false P:=by rw [←hL]at hk⊢;exact List.mem_of_mem_take (bI hk)
    have:=(mem_lexP.1 (mem_extW.1 hm).1).1
    rw [this];exact List.length_replicate
   rw [hL]at hal hLl⊢
   obtain⟨fd,hfd⟩:∃fd:Nat→List Fun,∀k,fd k=(F++(L.take k).map (mkF c d P)).take 201:=⟨_,fun _=>rfl⟩
   have fd0:fd 0=F:=by rw [hfd,List.take_zero,List.map_nil,List.append_nil,List.take_of_length_le (by omega)]
   have fdl:∀k,(fd k).length≤201:=fun k=>by rw [hfd];simp only [List.length_take];omega
   have fdE:∀k,L.length≤k→fd k=(F++L.map (mkF c d P)).take 201:=fun k hk=>by rw [hfd,List.take_of_length_le hk]
   have fdS:∀k,¬(fd k).length≤200→fd k=(F++L.map (mkF c d P)).take 201:=fun k hk=>by
    rw [hfd]at hk⊢
    have e2:L.map (mkF c d P)=(L.take k).map (mkF c d P)++(L.drop k).map (mkF c d P):=by rw [←List.map_append,List.take_append_drop]
    rw [e2,←List.append_assoc,aP0 (B:=(L.drop k).map (mkF c d P))]
    rw [List.length_take]at hk
    omega
   have fdn:∀k,k<L.length→(fd k).length≤200→fd (k+1)=fd k++[mkF c d P (L.getD k [])]:=fun k hk h2=>by
    have e3:fd (k+1)=(fd k++[mkF c d P (L.getD k [])]).take 201:=by
     have e4:L.take (k+1)=L.take k++[L.getD k []]:=by
      rw [List.take_add_one,List.getElem?_eq_getElem hk,List.getD_eq_getElem?_getD,List.getElem?_eq_getElem hk]
      rfl
     rw [hfd,hfd,aAI,e4,List.map_append]
     rfl
    rw [e3,List.take_of_length_le (by simp;omega)]
   have hPb:P.length≤1048576:=by omega
   repeat'(first|refine wkQ ?_|refine Tw.f ?_ ?_|(refine kcQ tI ?_;refine kwQ (hal) [(0,5),(1,6)] [4] ?_)|(refine fun(hc:(_:Bool)=_)=>?_;try simp only [hcS]at hc))
   all_goals try exact om_
   refine aG (G:={k:Nat//k≤L.length∧(True)}) (fun⟨k,_⟩=>[(13,iv k),(12, .sl 6),(9, .sl 4),(3, .sl 1)]) [2,4,5,8] (fun⟨k,_⟩=>[(4,⟨1, .arr (ints (fL c d P))⟩),(1,⟨1, .arr (aS (fd k))⟩),(6,⟨1, .arr (aF L)⟩)]) [1,4,6] (fun zz=>L.length-zz.1) ⟨0,Nat.zero_le _,by first|trivial|simp⟩ ?_ ?_
   ·exact Imp.auto hX (by simp [go_sem,simprocAttr,fd0])
   rintro⟨k,hik,hwk⟩
   simp only [go_sem,simprocAttr]
   have l1:=fdl k
   rcases Nat.lt_or_ge k L.length with hlk|hgk
   ·rcases Nat.lt_or_ge 200 (fd k).length with hg2|hl2
    ·repeat'(first|refine wkQ ?_|refine Tw.f ?_ ?_|(refine fun(hc:(_:Bool)=_)=>?_;try simp only [hcS]at hc))
     all_goals try exact om_
     ·rw [←fdS k (by omega)]
      (first|refine aB ?_|refine aA ?_);simp only [go_sem,simprocAttr,Tryz.f273]
    ·have rl:=hrow k hlk
     have e1:fd (k+1)=fd k++[⟨⟨c.ob,c.fr,c.to,c.id,c.co⟩,⟨d.ob,d.fr,d.to,d.id,d.co⟩,P,L.getD k []⟩]:=fdn k hlk hl2
     repeat'(first|refine wkQ ?_|refine Tw.f ?_ ?_|(refine kcQ mD ?_;refine krQ (pL (c:=c) (d:=d) (p:=P) (q:=(L.getD k [])) ?_ ?_ ?_ ?_) ?_)|(refine fun(hc:(_:Bool)=_)=>?_;try simp only [hcS]at hc))
     all_goals try exact om_
     ·refine⟨⟨k+1,by omega,(by trivial)⟩,by simp only;omega,Imp.auto hX (by simp only [go_sem,simprocAttr,e1])⟩
   ·repeat'(first|refine wkQ ?_|refine Tw.f ?_ ?_|(refine fun(hc:(_:Bool)=_)=>?_;try simp only [hcS]at hc))
    all_goals try exact om_
    ·rw [←fdE k (by omega)]
     (first|refine aB ?_|refine aA ?_);simp only [go_sem,simprocAttr,Tryz.f273]
theorem rT {c d:Cat} (sc:IsCat c) (sd:IsCat d) (bc:CatB c) (bd:CatB d):∀(r:Nat) (P:List Int) (F:List Fun),(P.length:Int)+r=c.ob→Within P d.ob→F.length≤200→
  Spec Tryz.prog 273 [bK c,bK d, .bor [] (ints P), .sl 0] [(0,⟨1, .arr (aS F)⟩)] (.sl 1) [(0,⟨1, .gone⟩),(1,⟨1, .arr (aS ((F++dU c d false r P).take 201))⟩)]
 |0,P,F,hPl,hw,hF=>by
  have c8:=sc.toShape.ob8
  by_cases hR:yY c d P
  ·exact aBT sc sd bc bd (by omega) hw hF hR
  ·exact pV sc.toShape sd.toShape (by omega) hF hR
 |r+1,P,F,hPl,hw,hF=>by
  have m40:=sc.toShape.m40
  have n40:=sd.toShape.m40
  have tol:=sc.toShape.tol
  have dol:=sd.toShape.tol
  have c0:=sc.toShape.ob0
  have c8:=sc.toShape.ob8
  have d0:=sd.toShape.ob0
  have d8:=sd.toShape.ob8
  have cil:=sc.toShape.idl
  have dil:=sd.toShape.idl
  have hro:=rS (P:=P) sc.toShape sd.toShape (by omega)
  by_cases hR:yY c d P
  ·rw [bH hR]at hro
   rw [aFo]
   obtain⟨fd,hfd⟩:∃fd:Nat→List Fun,∀k,fd k=(F++fG c d false r P k).take 201:=⟨_,fun _=>rfl⟩
   have fd0:fd 0=F:=by rw [hfd,zC,List.append_nil,List.take_of_length_le (by omega)]
   have fdl:∀k,(fd k).length≤201:=fun k=>by rw [hfd];simp only [List.length_take];omega
   have fdE:fd d.ob.toNat=(F++fG c d false r P d.ob.toNat).take 201:=hfd _
   have fdS:∀y,y≤d.ob.toNat→¬(fd y).length≤200→fd y=(F++fG c d false r P d.ob.toNat).take 201:=fun y hy hk=>by
    have e1:∃R,fG c d false r P d.ob.toNat=fG c d false r P y++R:=by
     rcases Nat.lt_or_ge y d.ob.toNat with q|q
     ·obtain⟨R,hR⟩:=vD (c:=c) (d:=d) (b:=false) (r:=r) (X:=P) q
      rw [mB,List.append_assoc]at hR
      exact⟨_,hR⟩
     ·exact⟨[],by rw [List.append_nil,show y=d.ob.toNat by omega]⟩
    obtain⟨R,hR⟩:=e1
    rw [hR,←aAI,←hfd,List.take_append_of_le_length (by omega),List.take_of_length_le (fdl y)]
   have fdn:∀y:Nat,(fd y++dU c d false r (P++[(y:Int)])).take 201=fd (y+1):=fun y=>by rw [hfd,hfd,mB,aAI]
   refine aD (E:=TE) 1 Tryz.func273 rfl (by simp [Tryz.f273]) fun X hn hX=>?_
   repeat'(first|(refine bU 0 (Imp.mv 3 0 1 (aS F) rfl rfl (Nat.le_refl 1) rfl (by rw [hX];rfl)) ?_;simp only [go_sem,simprocAttr])|(with_reducible first|refine St.f ?_|refine V_c ?_|refine eDn ?_|refine And.intro ?_ ?_|refine aH ?_ ?_|refine aK ?_)|((refine aN ?_);intro K hK)|((with_reducible refine So.f ?_);intro K hK;simp(contextual:=true)only [go_sem,simprocAttr])|((with_reducible refine hK _ ?_);clear hK K)|((with_reducible refine aC 327 ?_);refine EvCall.mr (hro) oI [] [] ?_)|(refine fun(hc:(_:Bool)=_)=>?_;try simp only [hcS]at hc))
   all_goals try exact om_
   refine aG (G:={y:Nat//y≤d.ob.toNat∧(True)}) (fun⟨y,_⟩=>[(14,iv y),(3, .sl 1)]) [2,4,5,8] (fun⟨y,_⟩=>[(1,⟨1, .arr (aS (fd y))⟩)]) [1] (fun zz=>d.ob.toNat-zz.1) ⟨0,Nat.zero_le _,by first|trivial|simp⟩ ?_ ?_
   ·exact Imp.auto hX (by simp [go_sem,simprocAttr,fd0])
   rintro⟨y,hiy,hwy⟩
   simp only [go_sem,simprocAttr]
   have l1:=fdl y
   rcases Nat.lt_or_ge y d.ob.toNat with hlt|hge
   ·rcases Nat.lt_or_ge 200 (fd y).length with hg2|hl2
    ·repeat'(first|refine wkQ ?_|refine Tw.f ?_ ?_|(refine fun(hc:(_:Bool)=_)=>?_;try simp only [hcS]at hc))
     all_goals try exact om_
     ·rw [←fdS y (by omega) (by omega)]
      (first|refine aB ?_|refine aA ?_);simp only [go_sem,simprocAttr,Tryz.f273]
    ·have hrec:=rT sc sd bc bd r (P++[(y:Int)]) (fd y) (by rw [List.length_append,List.length_singleton];omega) (zX hw (by omega)) hl2
     rw [fdn]at hrec
     repeat'(first|refine wkQ ?_|refine Tw.f ?_ ?_|(refine kcQ bZ ?_;refine krQ (cP ?_) ?_)|(refine kcQ tJ ?_;refine kwQ (hrec) [(0,1),(1,7)] [6] ?_)|(refine fun(hc:(_:Bool)=_)=>?_;try simp only [hcS]at hc))
     all_goals try exact om_
     ·refine⟨⟨y+1,by omega,(by trivial)⟩,by simp only;omega,Imp.ao hX⟩
   ·have ey:y=d.ob.toNat:=by omega
    subst ey
    rw [←fdE]
    repeat'(first|refine wkQ ?_|refine Tw.f ?_ ?_|(refine fun(hc:(_:Bool)=_)=>?_;try simp only [hcS]at hc))
    all_goals try exact om_
    ·(first|refine aB ?_|refine aA ?_);simp only [go_sem,simprocAttr,Tryz.f273]
  ·exact pV sc.toShape sd.toShape (by omega) hF hR
end Go.Eng
end
section
namespace Go.Eng
open Go Go.Proofs Go.Cats
noncomputable def aQO (c d:Cat):List Fun:=(dU c d false c.ob.toNat []).take 201
theorem aAV:aE Tryz.prog 188:=⟨_,Tryz.func188,rfl,rfl⟩
theorem aKm {c d:Cat} (sc:IsCat c) (sd:IsCat d) (bc:CatB c) (bd:CatB d):Spec Tryz.prog 188 [bK c,bK d] [] (.sl 0) [(0,⟨1, .arr (aS (aQO c d))⟩)]:=by
 refine aD (E:=TE) 0 Tryz.func188 rfl (by simp [Tryz.f188]) fun X hn hX=>?_
 have c0:=sc.toShape.ob0
 have hse:=rT sc sd bc bd c.ob.toNat [] [] (by simp;omega) (fun i hi=>absurd hi (Nat.not_lt_zero i)) (by decide)
 rw [List.nil_append,show(dU c d false c.ob.toNat []).take 201=aQO c d from rfl]at hse
 repeat'(first|refine wkQ ?_|refine Tw.f ?_ ?_|(refine kcQ tJ ?_;refine kwQ (hse) [(0,3),(1,4)] [2] ?_)|(refine fun(hc:(_:Bool)=_)=>?_;try simp only [hcS]at hc))
 all_goals try exact om_
 ·(first|refine aB ?_|refine aA ?_);simp only [go_sem,simprocAttr,Tryz.f188]
def wN (c:Cat) (f:Nat):List Int:=((List.range f).filter fun f=> !decide (c.id.getD (c.fr.getD f 0).toNat 0=f)).map fun f:Nat=>(f:Int)
theorem aJJ (c:Cat):wN c 0=[]:=rfl
theorem aJI {c:Cat} {f:Nat} (h:c.id.getD (c.fr.getD f 0).toNat 0=f):wN c (f+1)=wN c f:=by
 unfold wN
 rw [List.range_succ,List.filter_append,List.filter_cons_of_neg (by rw [decide_eq_true h];decide),List.filter_nil,List.append_nil]
theorem aJH {c:Cat} {f:Nat} (h:¬c.id.getD (c.fr.getD f 0).toNat 0=f):wN c (f+1)=wN c f++[(f:Int)]:=by
 unfold wN
 rw [List.range_succ,List.filter_append,List.filter_cons_of_pos (by rw [decide_eq_false h];decide),List.filter_nil,List.map_append]
 rfl
theorem aOJ (c:Cat) (f:Nat):(wN c f).length≤f:=by
 unfold wN
 rw [List.length_map]
 exact Nat.le_trans (List.length_filter_le _ _) (by rw [List.length_range];exact Nat.le_refl _)
attribute [local go_sem] aJJ
theorem zJ:aE Tryz.prog 310:=⟨_,Tryz.func310,rfl,rfl⟩
theorem aHC {c:Cat} {f:Nat} (hs:Shape c) (hf:f<c.fr.length):Spec Tryz.prog 310 [bK c,iv f] [] (bv (decide (c.id.getD (c.fr.getD f 0).toNat 0=f))) []:=by
 refine aD (E:=TE) 0 Tryz.func310 rfl (by simp [Tryz.f310]) fun X hn hX=>?_
 have f1:=hs.frw f hf
 have f2:=hs.idl
 repeat'(first|refine wkQ ?_|refine Tw.f ?_ ?_|(refine fun(hc:(_:Bool)=_)=>?_;try simp only [hcS]at hc))
 all_goals try exact om_
 ·(first|refine aB ?_|refine aA ?_);simp only [go_sem,simprocAttr,Tryz.f310]
theorem mS:aE Tryz.prog 272:=⟨_,Tryz.func272,rfl,rfl⟩
theorem aEx {c:Cat} (sc:Shape c):Spec Tryz.prog 272 [bK c] [] (.sl 0) [(0,⟨1, .arr (ints (wN c c.fr.length))⟩)]:=by
 refine aD (E:=TE) 0 Tryz.func272 rfl (by simp [Tryz.f272]) fun X hn hX=>?_
 have m40:=sc.m40
 repeat'(first|refine wkQ ?_|refine Tw.f ?_ ?_|(refine fun(hc:(_:Bool)=_)=>?_;try simp only [hcS]at hc))
 all_goals try exact om_
 refine aG (G:={f:Nat//f≤c.fr.length∧(True)}) (fun⟨f,_⟩=>[(4,iv f),(3, .sl 1)]) [1,2] (fun⟨f,_⟩=>[(1,⟨1, .arr (ints (wN c f))⟩)]) [1] (fun zz=>c.fr.length-zz.1) ⟨0,Nat.zero_le _,by first|trivial|simp⟩ ?_ ?_
 ·exact Imp.au hX
 rintro⟨f,hif,hwf⟩
 simp only [go_sem,simprocAttr]
 have ml:=aOJ c f
 rcases Nat.lt_or_ge f c.fr.length with hlt|hge
 ·have hu:=aHC sc hlt
  by_cases h:c.id.getD (c.fr.getD f 0).toNat 0=f
  ·have e1:=aJI h
   rw [decide_eq_true h]at hu
   repeat'(first|refine wkQ ?_|refine Tw.f ?_ ?_|(refine kcQ zJ ?_;refine kwQ (hu) [] [] ?_)|(refine fun(hc:(_:Bool)=_)=>?_;try simp only [hcS]at hc))
   all_goals try exact om_
   ·refine⟨⟨f+1,by omega,(by trivial)⟩,by simp only;omega,Imp.auto hX (by simp only [go_sem,simprocAttr,e1])⟩
  ·have e1:=aJH h
   rw [decide_eq_false h]at hu
   repeat'(first|refine wkQ ?_|refine Tw.f ?_ ?_|(refine kcQ zJ ?_;refine kwQ (hu) [] [] ?_)|(refine fun(hc:(_:Bool)=_)=>?_;try simp only [hcS]at hc))
   all_goals try exact om_
   ·refine⟨⟨f+1,by omega,(by trivial)⟩,by simp only;omega,Imp.auto hX (by simp only [go_sem,simprocAttr,e1])⟩
 ·have ef:f=c.fr.length:=by omega
  subst ef
  repeat'(first|refine wkQ ?_|refine Tw.f ?_ ?_|(refine fun(hc:(_:Bool)=_)=>?_;try simp only [hcS]at hc))
  all_goals try exact om_
  ·(first|refine aB ?_|refine aA ?_);simp only [go_sem,simprocAttr,Tryz.f272]
end Go.Eng
end
section
namespace Go.Eng
open Go Go.Proofs Go.Cats
theorem aMn {α:Type} {A B:List α} (h1:A.Nodup) (h2:B.Nodup) (h:∀x,x∈A↔x∈B):A.length=B.length:=((List.perm_ext_iff_of_nodup h1 h2).2 h).length_eq
theorem aDm (p:Nat→Bool):∀l:List Nat,l.length=(l.filter p).length+(l.filter fun x=> !p x).length
 |[]=>rfl
 |a::l=>by
  have:=aDm p l
  cases h:p a
  ·rw [List.filter_cons_of_neg (by rw [h];decide),List.filter_cons_of_pos (by rw [h];rfl),List.length_cons,List.length_cons];omega
  ·rw [List.filter_cons_of_pos h,List.filter_cons_of_neg (by rw [h];decide),List.length_cons,List.length_cons];omega
theorem aL5 {c:Cat} (sc:Shape c):((wN c c.fr.length).length:Int)=c.fr.length-c.ob:=by
 have c0:=sc.ob0
 have cil:=sc.idl
 have e1:((List.range c.fr.length).filter fun f=>decide (c.id.getD (c.fr.getD f 0).toNat 0=f)).length=((List.range c.id.length).map fun x=>(c.id.getD x 0).toNat).length:=by
  refine aMn (List.nodup_range.filter _) ?_ fun f=>?_
  ·refine List.Pairwise.map _ (R:=fun a b=>a<c.id.length∧b<c.id.length∧a≠b) ?_ ?_
   ·rintro a b ⟨ha,hb,hn⟩ e
    have h1:=mG sc ha
    have h2:=mG sc hb
    rw [e]at h1
    have:=h1.2.2.1
    have:=h2.2.2.1
    omega
   ·exact(List.nodup_range (n:=c.id.length)).imp_of_mem fun ha hb hn=>⟨List.mem_range.1 ha,List.mem_range.1 hb,hn⟩
  ·rw [List.mem_filter,List.mem_range,List.mem_map,decide_eq_true_iff]
   constructor
   ·rintro⟨hf,he⟩
    have f1:=sc.frw f hf
    exact⟨(c.fr.getD f 0).toNat,List.mem_range.2 (by omega),by omega⟩
   ·rintro⟨x,hx,rfl⟩
    have h1:=mG sc (List.mem_range.1 hx)
    exact⟨h1.1,by rw [h1.2.2.1,Int.toNat_natCast];omega⟩
 rw [List.length_map,List.length_range]at e1
 have e2:=aDm (fun f=>decide (c.id.getD (c.fr.getD f 0).toNat 0=f)) (List.range c.fr.length)
 rw [List.length_range]at e2
 unfold wN
 rw [List.length_map]
 omega
def sX (c d:Cat):Prop:=(c.fr.length:Int)-c.ob≤8∧d.fr.length≤16
theorem oJ:aE Tryz.prog 187:=⟨_,Tryz.func187,rfl,rfl⟩
theorem aGd {c d:Cat} (sc:Shape c) (sd:Shape d):Spec Tryz.prog 187 [bK c,bK d] [] (bv (dec (sX c d))) []:=by
 refine aD (E:=TE) 0 Tryz.func187 rfl (by simp [Tryz.f187]) fun X hn hX=>?_
 have m40:=sc.m40
 have n40:=sd.m40
 have hl:=aL5 sc
 have hmo:=aEx sc
 generalize wN c c.fr.length=L at hl hmo
 by_cases h1:(L.length:Int)≤8
 ·by_cases h2:(d.fr.length:Int)≤16
  ·rw [show dec (sX c d)=true from bH ⟨by omega,by omega⟩]
   repeat'(first|refine wkQ ?_|refine Tw.f ?_ ?_|(refine kcQ mS ?_;refine kwQ (hmo) [(0,2)] [] ?_)|(refine fun(hc:(_:Bool)=_)=>?_;try simp only [hcS]at hc))
   all_goals try exact om_
   ·(first|refine aB ?_|refine aA ?_);simp only [go_sem,simprocAttr,Tryz.f187]
    exact congrArg (fun b=>Sv.v (Value.bool b)) (decide_eq_true h2)
  ·rw [show dec (sX c d)=false from eD fun h=>by have:=h.2;omega]
   repeat'(first|refine wkQ ?_|refine Tw.f ?_ ?_|(refine kcQ mS ?_;refine kwQ (hmo) [(0,2)] [] ?_)|(refine fun(hc:(_:Bool)=_)=>?_;try simp only [hcS]at hc))
   all_goals try exact om_
   ·(first|refine aB ?_|refine aA ?_);simp only [go_sem,simprocAttr,Tryz.f187]
    exact congrArg (fun b=>Sv.v (Value.bool b)) (decide_eq_false h2)
 ·rw [show dec (sX c d)=false from eD fun h=>by have:=h.1;omega]
  repeat'(first|refine wkQ ?_|refine Tw.f ?_ ?_|(refine kcQ mS ?_;refine kwQ (hmo) [(0,2)] [] ?_)|(refine fun(hc:(_:Bool)=_)=>?_;try simp only [hcS]at hc))
  all_goals try exact om_
  ·(first|refine aB ?_|refine aA ?_);simp only [go_sem,simprocAttr,Tryz.f187]
theorem iH:aE Tryz.prog 162:=⟨_,Tryz.func162,rfl,rfl⟩
theorem aBV {c d:Cat} (bc:CatB c) (bd:CatB d) (sc:Shape c) (sd:Shape d):Spec Tryz.prog 162 [.bptr [] (aU c), .bptr [] (aU d)] [] (bv (dec (sX c d))) []:=by
 refine aD (E:=TE) 0 Tryz.func162 rfl (by simp [Tryz.f162]) fun X hn hX=>?_
 have m40:=sc.m40
 have n40:=sd.m40
 have c0:=sc.ob0
 have c8:=sc.ob8
 have d0:=sd.ob0
 by_cases h1:(c.fr.length:Int)-c.ob≤8
 ·by_cases h2:(d.fr.length:Int)≤16
  ·rw [show dec (sX c d)=true from bH ⟨by omega,by omega⟩]
   repeat'(first|refine wkQ ?_|refine Tw.f ?_ ?_|(refine kcQ aT ?_;refine krQ (aX) ?_)|(refine fun(hc:(_:Bool)=_)=>?_;try simp only [hcS]at hc))
   all_goals try exact om_
   ·(first|refine aB ?_|refine aA ?_);simp only [go_sem,simprocAttr,Tryz.f162]
    exact congrArg (fun b=>Sv.v (Value.bool b)) (decide_eq_true h2)
  ·rw [show dec (sX c d)=false from eD fun h=>by have:=h.2;omega]
   repeat'(first|refine wkQ ?_|refine Tw.f ?_ ?_|(refine kcQ aT ?_;refine krQ (aX) ?_)|(refine fun(hc:(_:Bool)=_)=>?_;try simp only [hcS]at hc))
   all_goals try exact om_
   ·(first|refine aB ?_|refine aA ?_);simp only [go_sem,simprocAttr,Tryz.f162]
    exact congrArg (fun b=>Sv.v (Value.bool b)) (decide_eq_false h2)
 ·rw [show dec (sX c d)=false from eD fun h=>by have:=h.1;omega]
  repeat'(first|refine wkQ ?_|refine Tw.f ?_ ?_|(refine kcQ aT ?_;refine krQ (aX) ?_)|(refine fun(hc:(_:Bool)=_)=>?_;try simp only [hcS]at hc))
  all_goals try exact om_
  ·(first|refine aB ?_|refine aA ?_);simp only [go_sem,simprocAttr,Tryz.f162]
end Go.Eng
end
