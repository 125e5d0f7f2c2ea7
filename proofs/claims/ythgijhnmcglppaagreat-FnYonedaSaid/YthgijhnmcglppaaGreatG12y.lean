/- Several texts in one: G11, G12, H02, O05. -/
import Derived.Test.YthgijhnmcglppaaGreatKhx
import Derived.Test.YthgijhnmcglppaaGreatKex
import Derived.Test.YthgijhnmcglppaaGreatH01q
set_option linter.unusedSimpArgs false
set_option linter.unusedVariables false
set_option maxRecDepth 100000
set_option maxHeartbeats 16000000
section
namespace Go.Eng
open Go Go.Proofs Go.Cats
theorem nS:aE Tryz.prog 217:=⟨_,Tryz.func217,rfl,rfl⟩
theorem oP {l:List Int} {n:Int} (hl:l.length≤1048576):Spec Tryz.prog 217 [.bor [] (ints l),iv n] [] (iv (idxOf l n)) []:=by
 refine aD (E:=TE) 0 Tryz.func217 rfl (by simp [Tryz.f217]) fun X hn hX=>?_
 repeat'(first|refine wkQ ?_|refine Tw.f ?_ ?_|(refine fun(hc:(_:Bool)=_)=>?_;try simp only [hcS]at hc))
 refine aH (G:={i:Nat//i≤l.length∧(aW i (gY l n)=none)}) (fun⟨i,_⟩=>[(8,iv i)]) [0,1,7] (fun⟨i,_⟩=>[]) [] (fun zz=>l.length-zz.1) ⟨0,Nat.zero_le _,by rfl⟩ ?_ ?_
 ·exact Imp.au hX
 rintro⟨i,hii,hwi⟩
 simp only [go_sem,simprocAttr]
 repeat'(first|refine wkQ ?_|refine Tw.f ?_ ?_|(refine fun(hc:(_:Bool)=_)=>?_;try simp only [hcS]at hc))
 all_goals try exact om_
 ·(first|refine aB ?_|refine aA ?_);simp only [go_sem,simprocAttr,Tryz.f217]
  rw [idxOf_hit hwi (by omega) hc.symm]
 ·refine⟨⟨i+1,by omega,(by exact aY hwi (aEF fun q=>hc q.symm))⟩,by simp only;omega,Imp.ao hX⟩
 ·(first|refine aB ?_|refine aA ?_);simp only [go_sem,simprocAttr,Tryz.f217]
  rw [qQ (bI hwi hii (by omega))]
theorem fS:aE Tryz.prog 123:=⟨_,Tryz.func123,rfl,rfl⟩
theorem kO {l:List Int} {n:Int} (hl:l.length≤1048576):Spec Tryz.prog 123 [.bor [] (ints l),iv n] [] (iv (idxOf l n)) []:=by
 refine aD (E:=TE) 0 Tryz.func123 rfl (by simp [Tryz.f123]) fun X hn hX=>?_
 repeat'(first|refine wkQ ?_|refine Tw.f ?_ ?_|(refine kcQ nS ?_;refine krQ (oP ?_) ?_)|(refine fun(hc:(_:Bool)=_)=>?_;try simp only [hcS]at hc))
 all_goals try exact om_
 (first|refine aB ?_|refine aA ?_);simp only [go_sem,simprocAttr,Tryz.f123]
theorem fA:aE Tryz.prog 194:=⟨_,Tryz.func194,rfl,rfl⟩
theorem gI {l:List Int} (hl:l.length≤1048576):Spec Tryz.prog 194 [.bor [] (ints l)] [] (.sl 0) [(0,⟨1, .arr (ints l)⟩)]:=by
 refine aD (E:=TE) 0 Tryz.func194 rfl (by simp [Tryz.f194]) fun X hn hX=>?_
 repeat'(first|refine wkQ ?_|refine Tw.f ?_ ?_|(refine fun(hc:(_:Bool)=_)=>?_;try simp only [hcS]at hc))
 all_goals try exact om_
 (first|refine aB ?_|refine aA ?_);simp only [go_sem,simprocAttr,Tryz.f194]
theorem kZ:aE Tryz.prog 213:=⟨_,Tryz.func213,rfl,rfl⟩
theorem nH {l:List (List Int)} (hl:l.length≤1048576) (hr:∀i,i<l.length→(l.getD i []).length≤1048576):Spec Tryz.prog 213 [.bor [] (aC l)] [] (.sl 0) [(0,⟨1, .arr (aC l)⟩)]:=by
 refine aD (E:=TE) 0 Tryz.func213 rfl (by simp [Tryz.f213]) fun X hn hX=>?_
 repeat'(first|refine wkQ ?_|refine Tw.f ?_ ?_|(refine fun(hc:(_:Bool)=_)=>?_;try simp only [hcS]at hc))
 all_goals try exact om_
 refine aH (G:={i:Nat//i≤l.length∧(True)}) (fun⟨i,_⟩=>[(4,iv i),(3, .sl 0)]) [0,2] (fun⟨i,_⟩=>[(0,⟨1, .arr (aC (l.take i))⟩)]) [0] (fun zz=>l.length-zz.1) ⟨0,Nat.zero_le _,by first|trivial|simp⟩ ?_ ?_
 ·exact Imp.au hX
 rintro⟨i,hii,hwi⟩
 simp only [go_sem,simprocAttr]
 have h1:=hr i
 have h2:(l.take i).length≤i:=by simp;omega
 repeat'(first|refine wkQ ?_|refine Tw.f ?_ ?_|(refine kcQ fA ?_;refine krQ (gI ?_) ?_)|(refine fun(hc:(_:Bool)=_)=>?_;try simp only [hcS]at hc))
 all_goals try exact om_
 ·refine⟨⟨i+1,by omega,(by trivial)⟩,by simp only;omega,Imp.auto hX (by simp only [go_sem,simprocAttr,aBw (d:=[]) (show i<l.length by omega)])⟩
 ·(first|refine aB ?_|refine aA ?_);simp only [go_sem,simprocAttr,Tryz.f213]
  rw [List.take_of_length_le (by omega)]
theorem fV:aE Tryz.prog 193:=⟨_,Tryz.func193,rfl,rfl⟩
theorem iR {c:Cat} (hb:CatB c):Spec Tryz.prog 193 [iE c] [] (.agg [iv c.ob, .sl 0, .sl 1, .sl 2, .sl 3]) [(0,⟨1, .arr (ints c.fr)⟩),(1,⟨1, .arr (ints c.to)⟩),(2,⟨1, .arr (ints c.id)⟩),(3,⟨1, .arr (aC c.co)⟩)]:=by
 refine aD (E:=TE) 0 Tryz.func193 rfl (by simp [Tryz.f193]) fun X hn hX=>?_
 obtain⟨b1,b2,b3,b4,b5,b6,b7⟩:=hb
 repeat'(first|refine wkQ ?_|refine Tw.f ?_ ?_|(refine kcQ fA ?_;refine krQ (gI ?_) ?_)|(refine kcQ kZ ?_;refine krQ (nH ?_ ?_) ?_)|(refine fun(hc:(_:Bool)=_)=>?_;try simp only [hcS]at hc))
 all_goals try exact om_
 (first|refine aB ?_|refine aA ?_);simp only [go_sem,simprocAttr,Tryz.f193]
theorem uY:aE Tryz.prog 118:=⟨_,Tryz.func118,rfl,rfl⟩
theorem aAd {c:Cat} {f g:Int} (h0:0≤f) (h1:f<c.co.length) (h2:0≤g) (h3:g<(c.co.getD f.toNat []).length):Spec Tryz.prog 118 [iE c,iv f,iv g] [] (iv (c.C f g)) []:=by
 refine aD (E:=TE) 0 Tryz.func118 rfl (by simp [Tryz.f118]) fun X hn hX=>?_
 repeat'(first|refine wkQ ?_|refine Tw.f ?_ ?_|(refine fun(hc:(_:Bool)=_)=>?_;try simp only [hcS]at hc))
 all_goals try exact om_
 (first|refine aB ?_|refine aA ?_);simp only [go_sem,simprocAttr,Tryz.f118]
def aQr (f:SF):Nat:=aAR f.shape+f.sizes.length+(f.acts.length+dY f.acts)
structure SFL (f:SF):Prop where
 shape:CatL f.shape
 sizes:(f.sizes.length:Int)≤9223372036854775807
 acts:(f.acts.length:Int)≤9223372036854775807
 row:∀a,a<f.acts.length→((f.acts.getD a []).length:Int)≤9223372036854775807
end Go.Eng
end
section
namespace Go.Eng
open Go Go.Proofs Go.Cats
theorem xO:aE Tryz.prog 116:=⟨_,Tryz.func116,rfl,rfl⟩
theorem aBs {c:Cat} {x y:Int} (hl:c.fr.length≤1048576) (ht:c.to.length=c.fr.length):Spec Tryz.prog 116 [iE c,iv x,iv y] [] (.sl 0) [(0,⟨1, .arr (ints (c.hom x y))⟩)]:=by
 refine aD (E:=TE) 0 Tryz.func116 rfl (by simp [Tryz.f116]) fun X hn hX=>?_
 repeat'(first|refine wkQ ?_|refine Tw.f ?_ ?_|(refine fun(hc:(_:Bool)=_)=>?_;try simp only [hcS]at hc))
 all_goals try exact om_
 refine aH (G:={i:Nat//i≤c.fr.length∧(True)}) (fun⟨i,_⟩=>[(8,iv i),(7, .sl 1)]) [1,2,3,6] (fun⟨i,_⟩=>[(1,⟨1, .arr (ints (c.homI x y i))⟩)]) [1] (fun zz=>c.fr.length-zz.1) ⟨0,Nat.zero_le _,by first|trivial|simp⟩ ?_ ?_
 ·exact Imp.au hX
 rintro⟨i,hii,hwi⟩
 simp only [go_sem,simprocAttr]
 have hlen:=c.homI_len x y i
 repeat'(first|refine wkQ ?_|refine Tw.f ?_ ?_|(refine fun(hc:(_:Bool)=_)=>?_;try simp only [hcS]at hc))
 all_goals try exact om_
 all_goals try(refine⟨⟨i+1,by omega,(by trivial)⟩,by simp only;omega,Imp.auto hX (by simp only [go_sem,simprocAttr,Cat.homI_succ, *])⟩)
 ·(first|refine aB ?_|refine aA ?_);simp only [go_sem,simprocAttr,Tryz.f116]
  have:i=c.fr.length:=by omega
  subst this
  simp [Cat.hom]
theorem gM:aE Tryz.prog 183:=⟨_,Tryz.func183,rfl,rfl⟩
theorem iQ {c:Cat} (hb:CatB c):Spec Tryz.prog 183 [.bptr [] (fP c)] [] (.agg [iv c.ob, .sl 0, .sl 1, .sl 2, .sl 3]) [(0,⟨1, .arr (ints c.fr)⟩),(1,⟨1, .arr (ints c.to)⟩),(2,⟨1, .arr (ints c.id)⟩),(3,⟨1, .arr (aC c.co)⟩)]:=by
 refine aD (E:=TE) 0 Tryz.func183 rfl (by simp [Tryz.f183]) fun X hn hX=>?_
 obtain⟨b1,b2,b3,b4,b5,b6,b7⟩:=hb
 repeat'(first|refine wkQ ?_|refine Tw.f ?_ ?_|(refine kcQ tN ?_;refine krQ (zM ?_) ?_)|(refine kcQ mR ?_;refine krQ (pM ?_ ?_) ?_)|(refine fun(hc:(_:Bool)=_)=>?_;try simp only [hcS]at hc))
 all_goals try exact om_
 (first|refine aB ?_|refine aA ?_);simp only [go_sem,simprocAttr,Tryz.f183]
end Go.Eng
end
section
namespace Go.Eng
open Go Go.Proofs Go.Cats
theorem lS:aE Tryz.prog 107:=⟨_,Tryz.func107,rfl,rfl⟩
theorem nJ {c:Cat} {x:Int}:Spec Tryz.prog 107 [iE c,iv x] [] (bv (dec (0≤x∧x<c.ob))) []:=by
 refine aD (E:=TE) 0 Tryz.func107 rfl (by simp [Tryz.f107]) fun X hn hX=>?_
 repeat'(first|refine wkQ ?_|refine Tw.f ?_ ?_|(refine fun(hc:(_:Bool)=_)=>?_;try simp only [hcS]at hc))
 ·(first|refine aB ?_|refine aA ?_);simp only [go_sem,simprocAttr,Tryz.f107]
  exact congrArg (fun b=>Sv.v (.bool b)) (by rw [←jC];exact bW ⟨fun h=>⟨hc,h⟩,fun h=>h.2⟩)
 ·(first|refine aB ?_|refine aA ?_);simp only [go_sem,simprocAttr,Tryz.f107]
  exact cK (fun e=>by omega)
theorem jH:aE Tryz.prog 117:=⟨_,Tryz.func117,rfl,rfl⟩
theorem lN {l:List Int} {n:Int} (hl:l.length≤1048576):Spec Tryz.prog 117 [.bor [] (ints l),iv n] [] (iv (idxOf l n)) []:=by
 refine aD (E:=TE) 0 Tryz.func117 rfl (by simp [Tryz.f117]) fun X hn hX=>?_
 repeat'(first|refine wkQ ?_|refine Tw.f ?_ ?_|(refine fun(hc:(_:Bool)=_)=>?_;try simp only [hcS]at hc))
 refine aH (G:={i:Nat//i≤l.length∧(aW i (gY l n)=none)}) (fun⟨i,_⟩=>[(5,iv i)]) [0,1] (fun⟨i,_⟩=>[]) [] (fun zz=>l.length-zz.1) ⟨0,Nat.zero_le _,by rfl⟩ ?_ ?_
 ·exact Imp.au hX
 rintro⟨i,hii,hwi⟩
 simp only [go_sem,simprocAttr]
 repeat'(first|refine wkQ ?_|refine Tw.f ?_ ?_|(refine fun(hc:(_:Bool)=_)=>?_;try simp only [hcS]at hc))
 all_goals try exact om_
 ·(first|refine aB ?_|refine aA ?_);simp only [go_sem,simprocAttr,Tryz.f117]
  rw [idxOf_hit hwi (by omega) hc]
 ·refine⟨⟨i+1,by omega,(by exact aY hwi (aEF hc))⟩,by simp only;omega,Imp.ao hX⟩
 ·(first|refine aB ?_|refine aA ?_);simp only [go_sem,simprocAttr,Tryz.f117]
  rw [qQ (bI hwi hii (by omega))]
theorem rP:aE Tryz.prog 115:=⟨_,Tryz.func115,rfl,rfl⟩
theorem vN {c:Cat} {x:Int} (hs:Shape c):Spec Tryz.prog 115 [iE c,iv x] [] (bv (dec (c.small x))) []:=by
 refine aD (E:=TE) 0 Tryz.func115 rfl (by simp [Tryz.f115]) fun X hn hX=>?_
 have ⟨s1,s2,s3,s4,s5,s6,s7,s8,s9,s10,s11⟩:=hs
 repeat'(first|refine wkQ ?_|refine Tw.f ?_ ?_|(refine fun(hc:(_:Bool)=_)=>?_;try simp only [hcS]at hc))
 refine aH (G:={i:Nat//i≤c.id.length∧(∀y:Nat,y<i→(c.hom x y).length≤16)}) (fun⟨i,_⟩=>[(5,iv i)]) [1,2] (fun⟨i,_⟩=>[]) [] (fun zz=>c.id.length-zz.1) ⟨0,Nat.zero_le _,by omega⟩ ?_ ?_
 ·exact Imp.au hX
 rintro⟨i,hii,hwi⟩
 simp only [go_sem,simprocAttr]
 have hlen:=c.hom_len x i
 repeat'(first|refine wkQ ?_|refine Tw.f ?_ ?_|(refine kcQ xO ?_;refine krQ (aBs ?_ ?_) ?_)|(refine fun(hc:(_:Bool)=_)=>?_;try simp only [hcS]at hc))
 all_goals try exact om_
 ·(first|refine aB ?_|refine aA ?_);simp only [go_sem,simprocAttr,Tryz.f115]
  exact cK (fun s=>by have:=s i (by omega);omega)
 ·refine⟨⟨i+1,by omega,(by exact bU hwi (by omega))⟩,by simp only;omega,Imp.ao hX⟩
 ·(first|refine aB ?_|refine aA ?_);simp only [go_sem,simprocAttr,Tryz.f115]
  exact rK (fun y hy=>hwi y (by omega))
end Go.Eng
end
section
namespace Go.Eng
open Go Go.Proofs Go.Cats
theorem SM.same {f g:SM} (h1:f.src=g.src) (h2:f.tgt=g.tgt) (h3:f.parts=g.parts):f=g:=by cases f;cases g;simp_all
structure SML (m:SM):Prop where
 src:SFL m.src
 tgt:SFL m.tgt
 parts:(m.parts.length:Int)≤9223372036854775807
 row:∀a,a<m.parts.length→((m.parts.getD a []).length:Int)≤9223372036854775807
def oI (l:List (List Int)) (x:List Int) (i:Nat):Option Int:=if l.getD i []=x then some (i:Int)else none
def pS (l:List (List Int)) (x:List Int):Int:=(aW l.length (oI l x)).getD (-1)
theorem aIA {l:List (List Int)} {x:List Int} {i:Nat} (h:aW i (oI l x)=none) (hi:i<l.length) (k:l.getD i []=x):pS l x=i:=by
 unfold pS
 rw [dG hi h (show oI l x i=some (i:Int) from if_pos k)];rfl
theorem aGO {l:List (List Int)} {x:List Int} (h:aW l.length (oI l x)=none):pS l x= -1:=by
 unfold pS
 rw [h];rfl
theorem aLd {l:List (List Int)} {x:List Int} {i:Nat} (k:¬l.getD i []=x):oI l x i=none:=if_neg k
theorem rN:aE Tryz.prog 192:=⟨_,Tryz.func192,rfl,rfl⟩
theorem vM {l:List (List Int)} {x:List Int} (hl:l.length≤1048576) (hr:∀i,i<l.length→(l.getD i []).length≤1048576) (hx:x.length≤1048576):Spec Tryz.prog 192 [.bor [] (aC l), .bor [] (ints x)] [] (iv (pS l x)) []:=by
 refine aD (E:=TE) 0 Tryz.func192 rfl (by simp [Tryz.f192]) fun X hn hX=>?_
 repeat'(first|refine wkQ ?_|refine Tw.f ?_ ?_|(refine fun(hc:(_:Bool)=_)=>?_;try simp only [hcS]at hc))
 refine aH (G:={i:Nat//i≤l.length∧(aW i (oI l x)=none)}) (fun⟨i,_⟩=>[(5,iv i)]) [0,1] (fun⟨i,_⟩=>[]) [] (fun zz=>l.length-zz.1) ⟨0,Nat.zero_le _,by rfl⟩ ?_ ?_
 ·exact Imp.au hX
 rintro⟨i,hii,hwi⟩
 simp only [go_sem,simprocAttr]
 have h1:=hr i
 repeat'(first|refine wkQ ?_|refine Tw.f ?_ ?_|(refine kcQ lB ?_;refine krQ (zP ?_ ?_) ?_)|(refine fun(hc:(_:Bool)=_)=>?_;try simp only [hcS]at hc))
 all_goals try exact om_
 ·(first|refine aB ?_|refine aA ?_);simp only [go_sem,simprocAttr,Tryz.f192]
  rw [aIA hwi (by omega) hc]
 ·refine⟨⟨i+1,by omega,(by exact aY hwi (aLd hc))⟩,by simp only;omega,Imp.ao hX⟩
 ·(first|refine aB ?_|refine aA ?_);simp only [go_sem,simprocAttr,Tryz.f192]
  rw [aGO (bI hwi hii (by omega))]
end Go.Eng
end
