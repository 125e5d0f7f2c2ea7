/- Several texts in one: Q04, Q05, Q06. -/
import Derived.Test.YthgijhnmcglppaaGreatKalx
import Derived.Test.YthgijhnmcglppaaGreatQ03q
set_option linter.unusedSimpArgs false
set_option linter.unusedVariables false
set_option maxRecDepth 100000
set_option maxHeartbeats 16000000
section
namespace Go.Eng
open Go Go.Proofs Go.Cats
attribute [local go_sem] List.set_cons_zero List.set_cons_succ
theorem aC2:aD Tryz.prog 251:=⟨_,Tryz.func251,rfl,rfl⟩
theorem aE7 {c d:Cat} {b:Bool} {F:List Fun} {M:Nat} (sc:Shape c):Spec Tryz.prog 251 [.bptr [] (aW c), .bptr [] (aW d), .v (.bool b), .fn 252 [.ptr 3 0, .ptr 4 0, .ptr 5 0, .ptr 6 0]] [(3,⟨1, .bx [.dead] 0 (bM (F))⟩),(4,⟨1, .box [.bptr [] (aW c)]⟩),(5,⟨1, .box [.bptr [] (aW d)]⟩),(6,⟨1, .box [iv M]⟩)] (.ptr 0 0) [(0,⟨1, .box [.bptr [] (aW c), .bptr [] (aW d), .sl 1, .sl 2, .v (.bool b), .fn 252 [.ptr 3 0, .ptr 4 0, .ptr 5 0, .ptr 6 0]]⟩),(1,⟨1, .arr (ints (List.replicate c.ob.toNat 0))⟩),(2,⟨1, .arr (ints (List.replicate c.fr.length 0))⟩),(3,⟨1, .bx [.dead] 0 (bM (F))⟩),(4,⟨1, .box [.bptr [] (aW c)]⟩),(5,⟨1, .box [.bptr [] (aW d)]⟩),(6,⟨1, .box [iv M]⟩)]:=by
 refine aC (E:=TE) 7 Tryz.func251 rfl (by simp [Tryz.f251]) fun X hn hX=>?_
 have m40:=sc.m40
 have n8:=sc.ob8
 have o0:=sc.ob0
 repeat'(first|refine wkQ ?_|refine Tw.f ?_ ?_|(refine kcQ aQ ?_;refine krQ (aS) ?_)|(refine fun(hc:(_:Bool)=_)=>?_;try simp only [hcS]at hc))
 all_goals try exact om_
 ·(first|refine aB ?_|refine aA ?_);simp only [go_sem,simprocAttr,Tryz.f251]
theorem aAv:aD Tryz.prog 163:=⟨_,Tryz.func163,rfl,rfl⟩
theorem aCp {c d:Cat} {b:Bool} {M:Nat} (sc:IsCat c) (sd:IsCat d) (bc:CatB c) (bd:CatB d) (hM:M≤4096):Spec Tryz.prog 163 [.bptr [] (aW c), .bptr [] (aW d), .v (.bool b),iv M] [] (.tup [.sl 0,bv (eat (stL M) [] (cZ c d b c.ob.toNat [])).1]) [(0,⟨1, .arr (bM (eat (stL M) [] (cZ c d b c.ob.toNat [])).2)⟩)]:=by
 refine aC (E:=TE) 0 Tryz.func163 rfl (by simp [Tryz.f163]) fun X hn hX=>?_
 have o0:=sc.toShape.ob0
 have hfor:=aE7 (d:=d) (b:=b) (F:=[]) (M:=M) sc.toShape
 have hrun:=qH (b:=b) (M:=M) sc sd bc bd hM c.ob.toNat 0 (List.replicate c.ob.toNat 0) (List.replicate c.fr.length 0) [] (by rw [List.length_replicate];omega) (by rw [List.length_replicate];omega) (fun i hi=>by simp at hi) (fun _ i j _ hj=>by simp at hj) (by rw [List.length_replicate]) (Nat.zero_le _)
 rw [List.take_zero]at hrun
 repeat'(first|(refine dM 2 (Imp.closeB 4 3 0 _ _ rfl rfl rfl (by decide)) ?_;simp only [go_sem,simprocAttr])|(refine dM 4 (Imp.openB 4 0 _ _ rfl (Nat.succ_le_succ (Nat.zero_le _)) rfl rfl) ?_;simp only [go_sem,simprocAttr])|(with_reducible first|refine St.f ?_|refine V_c ?_|refine And.intro ?_ ?_|refine aJ ?_ ?_)|((refine aV ?_);intro K hK)|((with_reducible refine So.f ?_);intro K hK;simp(contextual:=true)only [go_sem,simprocAttr])|((with_reducible refine hK _ ?_);clear hK K)|((with_reducible refine aE 251 ?_);refine EvCall.mr (hfor) aC2 [(3,4),(4,0),(5,1),(6,2),(0,5),(1,6),(2,7)] [] ?_)|((with_reducible refine aE 253 ?_);refine EvCall.mr (hrun) mH [(0,5),(1,6),(2,7),(3,4),(4,0),(5,1),(6,2)] [] ?_)|(refine fun(hc:(_:Bool)=_)=>?_;try simp only [hcS]at hc))
 all_goals try exact om_
 ·(first|refine aB ?_|refine aA ?_);simp only [go_sem,simprocAttr,Tryz.f163]
end Go.Eng
end
section
namespace Go.Eng
open Go Go.Proofs Go.Cats
attribute [local go_sem] List.set_cons_zero List.set_cons_succ
theorem jN:aD Tryz.prog 166:=⟨_,Tryz.func166,rfl,rfl⟩
theorem jW {c d:Cat} (hc:CatB c) (hd:CatB d) (h1:c.fr.length≤16) (h2:d.fr.length≤16):Spec Tryz.prog 166 [.bptr [] (aW c), .bptr [] (aW d)] [] (bv true) []:=by
 refine aC (E:=TE) 0 Tryz.func166 rfl (by simp [Tryz.f166]) fun X hn hX=>?_
 repeat'(first|refine wkQ ?_|refine Tw.f ?_ ?_|(refine kcQ aQ ?_;refine krQ (aS) ?_)|(refine fun(hc:(_:Bool)=_)=>?_;try simp only [hcS]at hc))
 all_goals try exact om_
 ·(first|refine aB ?_|refine aA ?_);simp only [go_sem,simprocAttr,Tryz.f166]
  rw [decide_eq_true (show(d.fr.length:Int)≤16 by omega)]
theorem zK {c d:Cat} (hc:CatB c) (hd:CatB d) (h:¬(c.fr.length≤16∧d.fr.length≤16)):Spec Tryz.prog 166 [.bptr [] (aW c), .bptr [] (aW d)] [] (bv false) []:=by
 refine aC (E:=TE) 0 Tryz.func166 rfl (by simp [Tryz.f166]) fun X hn hX=>?_
 repeat'(first|refine wkQ ?_|refine Tw.f ?_ ?_|(refine kcQ aQ ?_;refine krQ (aS) ?_)|(refine fun(hc:(_:Bool)=_)=>?_;try simp only [hcS]at hc))
 all_goals try exact om_
 ·(first|refine aB ?_|refine aA ?_);simp only [go_sem,simprocAttr,Tryz.f166]
  rw [decide_eq_false (show¬(d.fr.length:Int)≤16 by omega)]
 ·(first|refine aB ?_|refine aA ?_);simp only [go_sem,simprocAttr,Tryz.f166]
theorem kC:aD Tryz.prog 167:=⟨_,Tryz.func167,rfl,rfl⟩
theorem vG {c d:Cat} {m:Int} (hc:CatB c) (hd:CatB d) (h:¬(c.ob=d.ob∧c.fr.length=d.fr.length)):Spec Tryz.prog 167 [.bptr [] (aW c), .bptr [] (aW d),iv m] [] (.tup [.v (.slice none 0 0),bv true]) []:=by
 refine aC (E:=TE) 0 Tryz.func167 rfl (by simp [Tryz.f167]) fun X hn hX=>?_
 repeat'(first|refine wkQ ?_|refine Tw.f ?_ ?_|(refine kcQ aQ ?_;refine krQ (aS) ?_)|(refine fun(hc:(_:Bool)=_)=>?_;try simp only [hcS]at hc))
 all_goals try exact om_
 all_goals((first|refine aB ?_|refine aA ?_);simp only [go_sem,simprocAttr,Tryz.f167])
theorem mV {c d:Cat} {M:Nat} {r:Bool×List Fun} (hc:CatB c) (hd:CatB d) (sc:IsCat c) (sd:IsCat d) (hM:M≤4096) (h1:c.ob=d.ob) (h2:c.fr.length=d.fr.length) (hr:eat (stL M) [] (cZ c d true c.ob.toNat [])=r):Spec Tryz.prog 167 [.bptr [] (aW c), .bptr [] (aW d),iv M] [] (.tup [.sl 0,bv r.1]) [(0,⟨1, .arr (bM r.2)⟩)]:=by
 subst hr
 refine aC (E:=TE) 0 Tryz.func167 rfl (by simp [Tryz.f167]) fun X hn hX=>?_
 repeat'(first|refine wkQ ?_|refine Tw.f ?_ ?_|(refine kcQ aQ ?_;refine krQ (aS) ?_)|(refine kcQ aAv ?_;refine krQ (aCp (c:=c) (d:=d) ?_ ?_ ?_ ?_ ?_) ?_)|(refine fun(hc:(_:Bool)=_)=>?_;try simp only [hcS]at hc))
 all_goals try exact om_
 all_goals((first|refine aB ?_|refine aA ?_);simp only [go_sem,simprocAttr,Tryz.f167])
structure _root_.Go.Cats.IYes (c d:Cat) (g:Fun):Prop where
 src:IsCat c
 tgt:IsCat d
 small:c.fr.length≤16∧d.fr.length≤16
 ob:c.ob=d.ob
 ar:c.fr.length=d.fr.length
 fst:∃D,cZ c d true c.ob.toNat []=g::D
end Go.Eng
end
section
namespace Go.Eng
open Go Go.Proofs Go.Cats
attribute [local go_sem] List.set_cons_zero List.set_cons_succ
theorem aAc:aD Tryz.prog 345:=⟨_,Tryz.func345,rfl,rfl⟩
theorem aIa {c d:Cat} {cc dd P A:List Int} {m:Int} {F:List Fun} {f:Nat} (sc:Shape c) (sd:Shape d) (hA:VA c d P A) (hf:f<A.length) (h0:0≤A.getD f 0):Spec Tryz.prog 345 [.bptr [] [.v (.int .i64 c.ob),ints c.fr,ints c.to,ints c.id,aF c.co, .v (.int .i64 d.ob),ints d.fr,ints d.to,ints d.id,aF d.co,ints cc,ints dd, .v (.int .i64 m),bM F], .bor [] (ints A),iv f] [] (bv (dec (aFr c d A f))) []:=by
 refine aC (E:=TE) 0 Tryz.func345 rfl (by simp [Tryz.f345]) fun X hn hX=>?_
 have m40:=sc.m40
 have n40:=sd.m40
 have ccol:=sc.col
 have dcol:=sd.col
 have hl:=hA.len
 have rowf:=(sc.coe f (by omega)).1
 have rowd:=fun(j:Nat) (hj:j<d.fr.length)=>(sd.coe j hj).1
 have df:=(hA.hi f hf h0).1
 have rdf:=rowd (A.getD f 0).toNat (by omega)
 repeat'(first|refine wkQ ?_|refine Tw.f ?_ ?_|(refine fun(hc:(_:Bool)=_)=>?_;try simp only [hcS]at hc))
 all_goals try exact om_
 refine aG (G:={g:Nat//g≤A.length∧(∀j,j<g→0≤A.getD j 0→(0≤c.cp f j→0≤A.getD (c.cp f j).toNat 0→d.C (A.getD f 0) (A.getD j 0)=A.getD (c.cp f j).toNat 0)∧(0≤c.cp j f→0≤A.getD (c.cp j f).toNat 0→d.C (A.getD j 0) (A.getD f 0)=A.getD (c.cp j f).toNat 0))}) (fun⟨g,_⟩=>[(7,iv g)]) [0,1,2] (fun⟨g,_⟩=>[]) [] (fun zz=>A.length-zz.1) ⟨0,Nat.zero_le _,by omega⟩ ?_ ?_
 ·exact Imp.au hX
 rintro⟨g,hig,hwg⟩
 simp only [go_sem,simprocAttr]
 rcases Nat.lt_or_ge g A.length with hlt|hge
 ·have rowg:=(sc.coe g (by omega)).1
  have dg:0≤A.getD g 0→A.getD g 0<d.fr.length:=fun h=>(hA.hi g hlt h).1
  have rdg:0≤A.getD g 0→(d.co.getD (A.getD g 0).toNat []).length=d.fr.length:=fun h=>rowd _ (by have:=dg h;omega)
  have c1:0≤(c.co.getD f []).getD g 0→((c.co.getD f []).getD g 0).toNat<c.fr.length:=fun h=>(fL sc (by omega) (by omega) h).2.1
  have c2:0≤(c.co.getD g []).getD f 0→((c.co.getD g []).getD f 0).toNat<c.fr.length:=fun h=>(fL sc (by omega) (by omega) h).2.1
  repeat'(first|refine wkQ ?_|refine Tw.f ?_ ?_|(refine fun(hc:(_:Bool)=_)=>?_;try simp only [hcS]at hc))
  all_goals try exact om_
  all_goals try(refine⟨⟨g+1,by omega,(by exact bB hwg (fun h0=>⟨fun(k1:0≤(c.co.getD f []).getD g 0) (k2:0≤A.getD ((c.co.getD f []).getD g 0).toNat 0)=>by first|assumption|omega,fun(k1:0≤(c.co.getD g []).getD f 0) (k2:0≤A.getD ((c.co.getD g []).getD f 0).toNat 0)=>by first|assumption|omega⟩))⟩,by simp only;omega,Imp.ao hX⟩)
  all_goals((first|refine aB ?_|refine aA ?_);simp only [go_sem,simprocAttr,Tryz.f345];exact cD (fun e=>by have h:=e.1 g (by omega) (by omega);first|exact hc (h.1 (by assumption) (by assumption))|exact hc (h.2 (by assumption) (by assumption))))
 ·have hpa:=hwg
  clear hwg
  repeat'(first|refine wkQ ?_|refine Tw.f ?_ ?_|(refine fun(hc:(_:Bool)=_)=>?_;try simp only [hcS]at hc))
  all_goals try exact om_
  refine aG (G:={g2:Nat//g2≤A.length∧(∀p,p<g2→∀h,h<A.length→0≤A.getD p 0→0≤A.getD h 0→c.cp p h=f→d.C (A.getD p 0) (A.getD h 0)=A.getD f 0)}) (fun⟨g2,_⟩=>[(9,iv g2)]) [0,1,2] (fun⟨g2,_⟩=>[]) [] (fun zz=>A.length-zz.1) ⟨0,Nat.zero_le _,by omega⟩ ?_ ?_
  ·exact Imp.au hX
  rintro⟨g2,hig2,hwg2⟩
  simp only [go_sem,simprocAttr]
  rcases Nat.lt_or_ge g2 A.length with hlt2|hge2
  ·have rowg:=(sc.coe g2 (by omega)).1
   have dg:0≤A.getD g2 0→A.getD g2 0<d.fr.length:=fun h=>(hA.hi g2 hlt2 h).1
   have rdg:0≤A.getD g2 0→(d.co.getD (A.getD g2 0).toNat []).length=d.fr.length:=fun h=>rowd _ (by have:=dg h;omega)
   repeat'(first|refine wkQ ?_|refine Tw.f ?_ ?_|(refine fun(hc:(_:Bool)=_)=>?_;try simp only [hcS]at hc))
   all_goals try exact om_
   refine aG (G:={h:Nat//h≤A.length∧(∀q,q<h→0≤A.getD g2 0→0≤A.getD q 0→c.cp g2 q=f→d.C (A.getD g2 0) (A.getD q 0)=A.getD f 0)}) (fun⟨h,_⟩=>[(10,iv h)]) [0,1,2,9] (fun⟨h,_⟩=>[]) [] (fun zz=>A.length-zz.1) ⟨0,Nat.zero_le _,by omega⟩ ?_ ?_
   ·exact Imp.au hX
   rintro⟨h,hih,hwh⟩
   simp only [go_sem,simprocAttr]
   rcases Nat.lt_or_ge h A.length with hlt3|hge3
   ·have dh:0≤A.getD h 0→A.getD h 0<d.fr.length:=fun k=>(hA.hi h hlt3 k).1
    repeat'(first|refine wkQ ?_|refine Tw.f ?_ ?_|(refine fun(hc:(_:Bool)=_)=>?_;try simp only [hcS]at hc))
    all_goals try exact om_
    all_goals try(refine⟨⟨h+1,by omega,(by exact bB hwh (fun _ _ (k1:(c.co.getD g2 []).getD h 0=f)=>by first|assumption|omega))⟩,by simp only;omega,Imp.ao hX⟩)
    all_goals((first|refine aB ?_|refine aA ?_);simp only [go_sem,simprocAttr,Tryz.f345];exact cD (fun e=>hc (e.2 g2 (by omega) h (by omega) (by assumption) (by assumption) (by assumption))))
   ·repeat'(first|refine wkQ ?_|refine Tw.f ?_ ?_|(refine fun(hc:(_:Bool)=_)=>?_;try simp only [hcS]at hc))
    all_goals try exact om_
    ·refine⟨⟨g2+1,by omega,(by exact bB hwg2 (fun q hq=>hwh q (by omega)))⟩,by simp only;omega,Imp.ao hX⟩
  ·repeat'(first|refine wkQ ?_|refine Tw.f ?_ ?_|(refine fun(hc:(_:Bool)=_)=>?_;try simp only [hcS]at hc))
   all_goals try exact om_
   ·(first|refine aB ?_|refine aA ?_);simp only [go_sem,simprocAttr,Tryz.f345]
    exact nD ⟨fun j hj h1=>hpa j (by omega) h1,fun p hp q hq h1 h2 h3=>hwg2 p (by omega) q (by omega) h1 h2 h3⟩
end Go.Eng
end
