/- The reference's search of isomorphisms: arrow by arrow. -/
import Derived.Test.YthgijhnmcglppaaGreatKamy
set_option linter.unusedSimpArgs false
set_option linter.unusedVariables false
set_option maxRecDepth 100000
set_option maxHeartbeats 16000000
namespace Go.Eng
open Go Go.Proofs Go.Cats
attribute [local go_sem] List.set_cons_zero List.set_cons_succ
theorem jD {l:List Int} {n:Int} {v:Bool} (hl:l.length≤1048576) (h:dec (n∈l)=v):Spec Tryz.prog 290 [.bor [] (ints l),iv n] [] (bv v) []:=by
 subst h
 exact aKP hl
theorem xR {c d:Cat} {cc dd P A:List Int} {m:Int} {F:List Fun} {f:Nat} {v:Bool} (sc:Shape c) (sd:Shape d) (hA:VA c d P A) (hf:f<A.length) (h0:0≤A.getD f 0) (h:dec (aFr c d A f)=v):Spec Tryz.prog 345 [.bptr [] [.v (.int .i64 c.ob),ints c.fr,ints c.to,ints c.id,aF c.co, .v (.int .i64 d.ob),ints d.fr,ints d.to,ints d.id,aF d.co,ints cc,ints dd, .v (.int .i64 m),bM F], .bor [] (ints A),iv f] [] (bv v) []:=by
 subst h
 exact aIa sc sd hA hf h0
theorem tO:aD Tryz.prog 313:=⟨_,Tryz.func313,rfl,rfl⟩
theorem sD {c d:Cat} {cc dd P:List Int} {m:Nat} (sc:IsCat c) (sd:IsCat d) (bc:CatB c) (bd:CatB d) (ho:c.ob=d.ob) (ha:c.fr.length=d.fr.length) (hk:aBk c d cc dd) (h1:cc.length=c.fr.length) (h2:dd.length=d.fr.length) (hP:XOK c d true P) (hm:m≤4096):∀(n:Nat) (F:List Fun) (A:List Int),NY c d P A→uns A<n→F.length<m→
  Spec Tryz.prog 313 [.ptr 0 0, .sl 3, .sl 4] [(0,⟨1, .bx [iv c.ob, .bor [] (ints c.fr), .bor [] (ints c.to), .bor [] (ints c.id), .bor [] (aF c.co),iv d.ob, .bor [] (ints d.fr), .bor [] (ints d.to), .bor [] (ints d.id), .bor [] (aF d.co), .sl 1, .sl 2,iv m, .dead] 13 (bM (F))⟩),(1,⟨1, .arr (ints cc)⟩),(2,⟨1, .arr (ints dd)⟩),(3,⟨1, .arr (ints P)⟩),(4,⟨1, .arr (ints (A))⟩)] (.tup []) [(0,⟨1, .bx [iv c.ob, .bor [] (ints c.fr), .bor [] (ints c.to), .bor [] (ints c.id), .bor [] (aF c.co),iv d.ob, .bor [] (ints d.fr), .bor [] (ints d.to), .bor [] (ints d.id), .bor [] (aF d.co), .sl 1, .sl 2,iv m, .dead] 13 (bM ((F++(dO (WA c d true P) (sA c d) A).map (mkF c d P)).take m))⟩),(1,⟨1, .arr (ints cc)⟩),(2,⟨1, .arr (ints dd)⟩),(3,⟨1, .arr (ints P)⟩),(4,⟨1, .arr (ints (A))⟩)]
 |0,_,_,_,hu,_=>by omega
 |n+1,F,A,hA,hu,hF=>by
  have hAl:=hA.va.len
  have m40:=sc.toShape.m40
  have n40:=sd.toShape.m40
  have n8:=sc.toShape.ob8
  have tol:=sc.toShape.tol
  have nol:=sd.toShape.tol
  have hPl:=hP.len
  refine aC (E:=TE) 5 Tryz.func313 rfl (by simp [Tryz.f313]) fun X hn hX=>?_
  refine aHf ?_
  rcases aDP hA.va.rng with⟨hk1,hfull⟩|⟨i,hk1,hi,hi1,hi2⟩
  ·rw [hA.leaf sc.toShape hP hfull,List.map_cons,List.map_nil,List.take_of_length_le (show(F++[mkF c d P A]).length≤m by simp;omega)]
   repeat'(first|(refine dM 0 (Imp.openB 0 13 _ _ rfl (Nat.le_refl 1) rfl rfl) ?_;simp only [go_sem,simprocAttr])|(with_reducible first|refine St.f ?_|refine V_c ?_|refine eDn ?_|refine And.intro ?_ ?_|refine aJ ?_ ?_|refine aO ?_)|((refine aV ?_);intro K hK)|((with_reducible refine So.f ?_);intro K hK;simp(contextual:=true)only [go_sem,simprocAttr])|((with_reducible refine hK _ ?_);clear hK K)|(refine fun(hc:(_:Bool)=_)=>?_;try simp only [hcS]at hc))
   all_goals try exact om_
   refine aG (G:={q:Nat//q≤A.length∧(True)}) (fun⟨q,_⟩=>[(6,iv q)]) [0,1,2] (fun⟨q,_⟩=>[]) [] (fun zz=>A.length-zz.1) ⟨0,Nat.zero_le _,by first|trivial|simp⟩ ?_ ?_
   ·exact Imp.au hX
   rintro⟨q,hiq,hwq⟩
   simp only [go_sem,simprocAttr]
   have hq:=hfull q
   repeat'(first|refine wkQ ?_|refine Tw.f ?_ ?_|(refine kcQ aFH ?_;refine krQ (aH9 (c:=c) (d:=d) (p:=P) (q:=A) ?_ ?_ ?_ ?_) ?_)|(refine fun(hc:(_:Bool)=_)=>?_;try simp only [hcS]at hc))
   all_goals try exact om_
   ·refine⟨⟨q+1,by omega,(by trivial)⟩,by simp only;omega,Imp.ao hX⟩
   ·refine sR (Imp.closeB 0 17 13 _ _ rfl rfl rfl (by decide)) ?_
    (first|refine aB ?_|refine aA ?_);simp only [go_sem,simprocAttr,Tryz.f313]
    rfl
  ·rw [aBt hA.va hi hi1 hi2]
   have f1:=sc.toShape.frw i (by omega)
   have f2:=sc.toShape.tow i (by omega)
   have hhom:∀v∈d.hom (P.getD (c.fr.getD i 0).toNat 0) (P.getD (c.to.getD i 0).toNat 0),0≤v∧v<d.fr.length:=fun v hv=>by have:=Cat.mem_hom.1 hv;exact⟨this.1,this.2.1⟩
   have hvs:∀v,v∈d.hom (P.getD (c.fr.getD i 0).toNat 0) (P.getD (c.to.getD i 0).toNat 0)→v∉A→aFr c d (A.set i v) i→NY c d P (A.set i v)∧uns (A.set i v)<uns A:=fun v hv hn hf=>hA.set sc.toShape sd.toShape hP hi hi1 hv hn hf
   have hva:∀v,v∈d.hom (P.getD (c.fr.getD i 0).toNat 0) (P.getD (c.to.getD i 0).toNat 0)→VA c d P (A.set i v):=fun v hv=>aA0 hA.va hi hv
   obtain⟨L,hL⟩:∃L,d.hom (P.getD (c.fr.getD i 0).toNat 0) (P.getD (c.to.getD i 0).toNat 0)=L:=⟨_,rfl⟩
   have hLl:L.length≤40:=by rw [←hL];exact Nat.le_trans (Cat.hom_len _ _ _) n40
   rw [hL]at hhom hvs hva⊢
   obtain⟨fd,hfd⟩:∃fd:Nat→List Fun,∀k,fd k=(F++(dQ (WA c d true P) (sA c d) A i (L.take k)).map (mkF c d P)).take m:=⟨_,fun _=>rfl⟩
   have fd0:fd 0=F:=by rw [hfd,List.take_zero,tZ,List.map_nil,List.append_nil,List.take_of_length_le (by omega)]
   have fdl:∀k,(fd k).length≤m:=fun k=>by rw [hfd];simp only [List.length_take];omega
   have fdE:∀k,L.length≤k→fd k=(F++(dQ (WA c d true P) (sA c d) A i L).map (mkF c d P)).take m:=fun k hk=>by rw [hfd,List.take_of_length_le hk]
   have fdn:∀k,k<L.length→fd (k+1)=(fd k++(dO (WA c d true P) (sA c d) (A.set i (L.getD k 0))).map (mkF c d P)).take m:=fun k hk=>by
    rw [hfd,hfd,zR hk,List.map_append,aBi]
   have fdS:∀k,¬(fd k).length<m→fd k=(F++(dQ (WA c d true P) (sA c d) A i L).map (mkF c d P)).take m:=fun k hk=>by
    have e1:dQ (WA c d true P) (sA c d) A i L=dQ (WA c d true P) (sA c d) A i (L.take k)++dQ (WA c d true P) (sA c d) A i (L.drop k):=by
     unfold dQ
     rw [←List.flatMap_append,List.take_append_drop]
    rw [e1,List.map_append,←aBi,←hfd,List.take_append_of_le_length (by omega),List.take_of_length_le (fdl k)]
   repeat'(first|(refine dM 0 (Imp.openB 0 13 _ _ rfl (Nat.le_refl 1) rfl rfl) ?_;simp only [go_sem,simprocAttr])|(with_reducible first|refine St.f ?_|refine V_c ?_|refine eDn ?_|refine And.intro ?_ ?_|refine aJ ?_ ?_|refine aO ?_)|((refine aV ?_);intro K hK)|((with_reducible refine So.f ?_);intro K hK;simp(contextual:=true)only [go_sem,simprocAttr])|((with_reducible refine hK _ ?_);clear hK K)|(refine fun(hc:(_:Bool)=_)=>?_;try simp only [hcS]at hc))
   all_goals try exact om_
   refine aG (G:={q:Nat//q≤A.length∧(∀j,j<q→0≤A.getD j 0)}) (fun⟨q,_⟩=>[(6,iv q)]) [0,1,2] (fun⟨q,_⟩=>[]) [] (fun zz=>A.length-zz.1) ⟨0,Nat.zero_le _,by omega⟩ ?_ ?_
   ·exact Imp.au hX
   rintro⟨q,hiq,hwq⟩
   simp only [go_sem,simprocAttr]
   have hqi:q≤i:=by
    refine Nat.le_of_not_lt fun h=>?_
    have:=hwq i h
    omega
   rcases Nat.lt_or_ge q i with hlt|hge
   ·have hq:=hi2 q hlt
    repeat'(first|refine wkQ ?_|refine Tw.f ?_ ?_|(refine fun(hc:(_:Bool)=_)=>?_;try simp only [hcS]at hc))
    all_goals try exact om_
    ·refine⟨⟨q+1,by omega,(by exact bB hwq hq)⟩,by simp only;omega,Imp.ao hX⟩
   ·have eq:q=i:=by omega
    subst eq
    repeat'(first|refine wkQ ?_|refine Tw.f ?_ ?_|(refine kcQ kE ?_;refine krQ (mB (c:=d) ?_ ?_) ?_)|(refine fun(hc:(_:Bool)=_)=>?_;try simp only [hcS]at hc))
    all_goals try exact om_
    rw [hL,←fd0]
    refine aG (G:={k:Nat//k≤L.length∧(True)}) (fun⟨k,_⟩=>[(8,iv k)]) [0,1,2,6,7] (fun⟨k,_⟩=>[(5,⟨1, .arr (bM (fd k))⟩)]) [5] (fun zz=>L.length-zz.1) ⟨0,Nat.zero_le _,by first|trivial|simp⟩ ?_ ?_
    ·exact Imp.au hX
    rintro⟨k,hik,hwk⟩
    simp only [go_sem,simprocAttr]
    have l1:=fdl k
    rcases Nat.lt_or_ge k L.length with hlt2|hge2
    ·rcases Nat.lt_or_ge (fd k).length m with hl2|hg2
     ·have hv:L.getD k 0∈L:=aX hlt2
      have v0:=hhom _ hv
      have en:=fdn k hlt2
      have hAl2:A.length≤1048576:=by omega
      by_cases hm1:L.getD k 0∈A
      ·have hm2:dec (L.getD k 0∈A)=true:=cV hm1
       rw [aQV hA.va hi hi1 v0.1 hm1,List.map_nil,List.append_nil,List.take_of_length_le l1]at en
       repeat'(first|refine wkQ ?_|refine Tw.f ?_ ?_|(refine kcQ kD ?_;refine ksQ (a:=jD (v:=true) (by first|omega|assumption|rfl) (by first|omega|assumption|rfl)) (c:=?_))|(refine fun(hc:(_:Bool)=_)=>?_;try simp only [hcS]at hc))
       all_goals try exact om_
       ·refine⟨⟨k+1,by omega,(by trivial)⟩,by simp only;omega,Imp.auto hX (by simp only [go_sem,simprocAttr,en])⟩
      ·have hm2:dec (L.getD k 0∈A)=false:=iZ hm1
       by_cases hcl:cc.getD q 0=dd.getD (L.getD k 0).toNat 0
       ·have hfit0:0≤(A.set q (L.getD k 0)).getD q 0:=by rw [bV hi,if_pos rfl];exact v0.1
        have hfl:q<(A.set q (L.getD k 0)).length:=by simpa using hi
        have hvv:=hva _ hv
        have sc':=sc.toShape
        have sd':=sd.toShape
        by_cases hft:aFr c d (A.set q (L.getD k 0)) q
        ·have hm3:dec (aFr c d (A.set q (L.getD k 0)) q)=true:=cV hft
         obtain⟨g1,g2⟩:=hvs _ hv hm1 hft
         have hrec:=sD sc sd bc bd ho ha hk h1 h2 hP hm n (fd k) (A.set q (L.getD k 0)) g1 (by omega) hl2
         rw [←en]at hrec
         repeat'(first|(refine dM 13 (Imp.closeB 0 5 13 _ _ rfl rfl rfl (by decide)) ?_;simp only [go_sem,simprocAttr])|(refine dM 8 (Imp.trans (Imp.openB 0 13 _ _ rfl (Nat.succ_le_succ (Nat.zero_le _)) rfl rfl) (Imp.drop 7 (Nat.succ_le_succ (Nat.zero_le _)))) ?_;simp only [go_sem,simprocAttr])|(with_reducible first|refine St.f ?_|refine V_c ?_|refine eDn ?_|refine And.intro ?_ ?_|refine aJ ?_ ?_|refine aO ?_)|((refine aV ?_);intro K hK)|((with_reducible refine So.f ?_);intro K hK;simp(contextual:=true)only [go_sem,simprocAttr])|((with_reducible refine hK _ ?_);clear hK K)|((with_reducible refine aE 290 ?_);refine EvCall.rq (a:=(jD (v:=false) (by first|omega|assumption|rfl) (by first|omega|assumption|rfl))) (b:=kD) (c:=?_);all_goals try simp only [go_sem,simprocAttr])|((with_reducible refine aE 194 ?_);refine EvCall.rr (eQ ?_) dK ?_)|((with_reducible refine aE 345 ?_);refine EvCall.rq (a:=(xR (v:=true) (by first|omega|assumption|rfl) (by first|omega|assumption|rfl) (by first|omega|assumption|rfl) (by first|omega|assumption|rfl) (by first|omega|assumption|rfl) (by first|omega|assumption|rfl))) (b:=aAc) (c:=?_);all_goals try simp only [go_sem,simprocAttr])|((with_reducible refine aE 313 ?_);refine EvCall.mr (hrec) tO [(0,0),(1,1),(2,2),(3,3),(4,7)] [] ?_)|(refine fun(hc:(_:Bool)=_)=>?_;try simp only [hcS]at hc))
         all_goals try exact om_
         ·refine⟨⟨k+1,by omega,(by trivial)⟩,by simp only;omega,Imp.ao hX⟩
        ·have hm3:dec (aFr c d (A.set q (L.getD k 0)) q)=false:=iZ hft
         rw [aQR sc.toShape hA.va hi v0.1 hft,List.map_nil,List.append_nil,List.take_of_length_le l1]at en
         repeat'(first|(refine dM 8 (Imp.dropL 7 _ _ rfl (Nat.succ_le_succ (Nat.zero_le _))) ?_;simp only [go_sem,simprocAttr])|(with_reducible first|refine St.f ?_|refine V_c ?_|refine eDn ?_|refine And.intro ?_ ?_|refine aJ ?_ ?_|refine aO ?_)|((refine aV ?_);intro K hK)|((with_reducible refine So.f ?_);intro K hK;simp(contextual:=true)only [go_sem,simprocAttr])|((with_reducible refine hK _ ?_);clear hK K)|((with_reducible refine aE 290 ?_);refine EvCall.rq (a:=(jD (v:=false) (by first|omega|assumption|rfl) (by first|omega|assumption|rfl))) (b:=kD) (c:=?_);all_goals try simp only [go_sem,simprocAttr])|((with_reducible refine aE 194 ?_);refine EvCall.rr (eQ ?_) dK ?_)|((with_reducible refine aE 345 ?_);refine EvCall.rq (a:=(xR (v:=false) (by first|omega|assumption|rfl) (by first|omega|assumption|rfl) (by first|omega|assumption|rfl) (by first|omega|assumption|rfl) (by first|omega|assumption|rfl) (by first|omega|assumption|rfl))) (b:=aAc) (c:=?_);all_goals try simp only [go_sem,simprocAttr])|(refine fun(hc:(_:Bool)=_)=>?_;try simp only [hcS]at hc))
         all_goals try exact om_
         ·refine⟨⟨k+1,by omega,(by trivial)⟩,by simp only;omega,Imp.auto hX (by simp only [go_sem,simprocAttr,en])⟩
       ·rw [aJT sc sd ho ha hk hA.va hi v0.1 hcl,List.map_nil,List.append_nil,List.take_of_length_le l1]at en
        repeat'(first|refine wkQ ?_|refine Tw.f ?_ ?_|(refine kcQ kD ?_;refine ksQ (a:=jD (v:=false) (by first|omega|assumption|rfl) (by first|omega|assumption|rfl)) (c:=?_))|(refine fun(hc:(_:Bool)=_)=>?_;try simp only [hcS]at hc))
        all_goals try exact om_
        ·refine⟨⟨k+1,by omega,(by trivial)⟩,by simp only;omega,Imp.auto hX (by simp only [go_sem,simprocAttr,en])⟩
     ·repeat'(first|refine wkQ ?_|refine Tw.f ?_ ?_|(refine fun(hc:(_:Bool)=_)=>?_;try simp only [hcS]at hc))
      all_goals try exact om_
      ·refine sR (Imp.closeB 0 5 13 _ _ rfl rfl rfl (by decide)) ?_
       rw [fd0,←fdS k (by omega)]
       (first|refine aB ?_|refine aA ?_);simp only [go_sem,simprocAttr,Tryz.f313]
    ·repeat'(first|refine wkQ ?_|refine Tw.f ?_ ?_|(refine fun(hc:(_:Bool)=_)=>?_;try simp only [hcS]at hc))
     all_goals try exact om_
     ·refine sR (Imp.closeB 0 5 13 _ _ rfl rfl rfl (by decide)) ?_
      rw [fd0,←fdE k (by omega)]
      (first|refine aB ?_|refine aA ?_);simp only [go_sem,simprocAttr,Tryz.f313]
end Go.Eng
