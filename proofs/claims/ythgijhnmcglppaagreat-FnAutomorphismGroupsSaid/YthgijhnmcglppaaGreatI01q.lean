/- Marked places, bijections and the inverse functor, by the program. -/
import Derived.Test.YthgijhnmcglppaaGreatKasy
import Derived.Test.YthgijhnmcglppaaGreatKqy
set_option linter.unusedSimpArgs false
set_option linter.unusedVariables false
set_option maxRecDepth 100000
set_option maxHeartbeats 16000000
namespace Go.Eng
open Go Go.Proofs Go.Cats
noncomputable def mrk (B:List Bool) (i:Nat):List Int:=aEW (fun k=>B.getD k false=true) i
theorem aGf (B:List Bool):mrk B 0=[]:=aKF
theorem aIT {B:List Bool} {i:Nat} (h:B.getD i false=true):mrk B (i+1)=mrk B i++[(i:Int)]:=aGM h
theorem aRa {B:List Bool} {i:Nat} (h:B.getD i false=false):mrk B (i+1)=mrk B i:=aJo (by rw [h];exact Bool.false_ne_true)
theorem aOT (B:List Bool) (i:Nat):(mrk B i).length≤i:=aGL _ i
theorem aIS {B:List Bool}:∀{n:Nat},(∀k,k<n→B.getD k false=true)→(mrk B n).length=n
 |0,_=>by rw [aGf];rfl
 |n+1,h=>by rw [aIT (h n (Nat.lt_succ_self n)),List.length_append,aIS fun k hk=>h k (by omega)];rfl
theorem aMC (A:List Int) (m:Nat):mkA A m 0=List.replicate m false:=rfl
attribute [local go_sem] List.set_cons_zero List.set_cons_succ aGf aMC
theorem aHm:aD Tryz.prog 288:=⟨_,Tryz.func288,rfl,rfl⟩
theorem aKT {B:List Bool} (hB:B.length≤1048576):Spec Tryz.prog 288 [.bor [] (nC B)] [] (.sl 0) [(0,⟨1, .arr (ints (mrk B B.length))⟩)]:=by
 refine aC (E:=TE) 0 Tryz.func288 rfl (by simp [Tryz.f288]) fun X hn hX=>?_
 repeat'(first|refine wkQ ?_|refine Tw.f ?_ ?_|(refine fun(hc:(_:Bool)=_)=>?_;try simp only [hcS]at hc))
 all_goals try exact om_
 refine aG (G:={i:Nat//i≤B.length∧(True)}) (fun⟨i,_⟩=>[(9,iv i),(3, .sl 0)]) [2,7,8] (fun⟨i,_⟩=>[(0,⟨1, .arr (ints (mrk B i))⟩)]) [0] (fun zz=>B.length-zz.1) ⟨0,Nat.zero_le _,by first|trivial|simp⟩ ?_ ?_
 ·exact Imp.au hX
 rintro⟨i,hii,hwi⟩
 simp only [go_sem,simprocAttr]
 have hml:=aOT B i
 repeat'(first|refine wkQ ?_|refine Tw.f ?_ ?_|(refine fun(hc:(_:Bool)=_)=>?_;try simp only [hcS]at hc))
 all_goals try exact om_
 ·refine⟨⟨i+1,by omega,(by trivial)⟩,by simp only;omega,Imp.auto hX (by simp only [go_sem,simprocAttr,aIT hc])⟩
 ·refine⟨⟨i+1,by omega,(by trivial)⟩,by simp only;omega,Imp.auto hX (by simp only [go_sem,simprocAttr,aRa hc])⟩
 ·obtain rfl:i=B.length:=by omega
  (first|refine aB ?_|refine aA ?_);simp only [go_sem,simprocAttr,Tryz.f288]
theorem aJO:aD Tryz.prog 231:=⟨_,Tryz.func231,rfl,rfl⟩
theorem aNI {l:List Int} {n:Int} {m:Nat} (e:n=m) (hm:m≤1048576) (hl:Within l m) (hk:l.length≤1048576):Spec Tryz.prog 231 [iv n, .bor [] (ints l)] [] (.sl 0) [(0,⟨1, .arr (ints (mrk (mkA l m l.length) m))⟩)]:=by
 refine aC (E:=TE) 0 Tryz.func231 rfl (by simp [Tryz.f231]) fun X hn hX=>?_
 subst e
 have hlm:=aA4 l m l.length
 have hM:=aKT (B:=mkA l m l.length) (by omega)
 rw [hlm]at hM
 repeat'(first|refine wkQ ?_|refine Tw.f ?_ ?_|(refine fun(hc:(_:Bool)=_)=>?_;try simp only [hcS]at hc))
 all_goals try exact om_
 refine aG (G:={i:Nat//i≤l.length∧(True)}) (fun⟨i,_⟩=>[(12,iv i),(5, .sl 0)]) [4,10,11] (fun⟨i,_⟩=>[(0,⟨1, .arr (nC (mkA l m i))⟩)]) [0] (fun zz=>l.length-zz.1) ⟨0,Nat.zero_le _,by first|trivial|simp⟩ ?_ ?_
 ·exact Imp.au hX
 rintro⟨i,hii,hwi⟩
 simp only [go_sem,simprocAttr]
 have hml:=aA4 l m i
 rcases Nat.lt_or_ge i l.length with hlt|hge
 ·have h1:=hl i hlt
  have e1:mkA l m (i+1)=(mkA l m i).set (l.getD i 0).toNat true:=rfl
  repeat'(first|refine wkQ ?_|refine Tw.f ?_ ?_|(refine fun(hc:(_:Bool)=_)=>?_;try simp only [hcS]at hc))
  all_goals try exact om_
  ·refine⟨⟨i+1,by omega,(by trivial)⟩,by simp only;omega,Imp.auto hX (by simp only [go_sem,simprocAttr,e1])⟩
 ·obtain rfl:i=l.length:=by omega
  repeat'(first|refine wkQ ?_|refine Tw.f ?_ ?_|(refine kcQ aHm ?_;refine kwQ (hM) [(0,1)] [0] ?_)|(refine fun(hc:(_:Bool)=_)=>?_;try simp only [hcS]at hc))
  all_goals try exact om_
  ·(first|refine aB ?_|refine aA ?_);simp only [go_sem,simprocAttr,Tryz.f231]
theorem _root_.Go.Cats.Bij.img {n:Nat} {l:List Int} (h:Bij n l):(mrk (mkA l n l.length) n).length=n:=aIS fun k hk=>by
 obtain⟨x,hx,e⟩:=h.surj hk
 have hr:∀f∈l,0≤f∧f<n:=fun f hf=>by
  obtain⟨i,hi,rfl⟩:=fX (d:=0) hf
  exact h.win i hi
 have:=(aMB hr (i:=l.length) (Nat.le_refl _) (k:Int) (by omega) (by omega)).2 (by
  rw [List.take_length,←e]
  exact aX (by rw [h.len];exact hx))
 rw [Int.toNat_natCast]at this
 exact this
theorem qC:aD Tryz.prog 173:=⟨_,Tryz.func173,rfl,rfl⟩
theorem rW {l:List Int} {n:Int} {m:Nat} (e:n=m) (h:Bij m l) (hm:m≤1048576):Spec Tryz.prog 173 [.bor [] (ints l),iv n] [] (bv true) []:=by
 refine aC (E:=TE) 0 Tryz.func173 rfl (by simp [Tryz.f173]) fun X hn hX=>?_
 subst e
 have hk:=h.len
 have hw:=h.win
 have hI:=aNI (l:=l) (n:=m) (m:=m) rfl hm hw (by omega)
 have hg:=h.img
 generalize mrk (mkA l m l.length) m=I at hI hg
 have hW:=dJ (l:=l) (n:=m) (by unfold inR;omega) (by omega)
 rw [cV hw]at hW
 repeat'(first|refine wkQ ?_|refine Tw.f ?_ ?_|(refine kcQ cM ?_;refine kwQ (hW) [] [] ?_)|(refine kcQ aJO ?_;refine kwQ (hI) [(0,0)] [] ?_)|(refine fun(hc:(_:Bool)=_)=>?_;try simp only [hcS]at hc))
 all_goals try exact om_
 (first|refine aB ?_|refine aA ?_);simp only [go_sem,simprocAttr,Tryz.f173]
 exact congrArg (fun b=>Sv.v (.bool b)) (decide_eq_true (by rw [hg]))
theorem tN:aD Tryz.prog 105:=⟨_,Tryz.func105,rfl,rfl⟩
theorem xO {l:List Int} {n:Nat} (h:Bij n l) (hm:n≤1048576):Spec Tryz.prog 105 [.bor [] (ints l)] [] (.sl 0) [(0,⟨1, .arr (ints (bwL l l.length))⟩)]:=by
 refine aC (E:=TE) 0 Tryz.func105 rfl (by simp [Tryz.f105]) fun X hn hX=>?_
 have hk:=h.len
 have hw:=h.win
 have hz:=aFB (l:=l)
 repeat'(first|refine wkQ ?_|refine Tw.f ?_ ?_|(refine fun(hc:(_:Bool)=_)=>?_;try simp only [hcS]at hc))
 all_goals try exact om_
 refine aG (G:={i:Nat//i≤l.length∧(True)}) (fun⟨i,_⟩=>[(11,iv i),(3, .sl 0)]) [2,9,10] (fun⟨i,_⟩=>[(0,⟨1, .arr (ints (bwL l i))⟩)]) [0] (fun zz=>l.length-zz.1) ⟨0,Nat.zero_le _,by trivial⟩ ?_ ?_
 ·exact Imp.auto hX (by simp [go_sem,simprocAttr,hz])
 rintro⟨i,hii,hwi⟩
 simp only [go_sem,simprocAttr]
 have hml:=jJ (l:=l) i
 have h1:=hw i
 have e1:=aBu (l:=l) (i:=i)
 repeat'(first|refine wkQ ?_|refine Tw.f ?_ ?_|(refine fun(hc:(_:Bool)=_)=>?_;try simp only [hcS]at hc))
 all_goals try exact om_
 ·refine⟨⟨i+1,by omega,(by trivial)⟩,by simp only;omega,Imp.auto hX (by simp only [go_sem,simprocAttr,e1])⟩
 ·obtain rfl:i=l.length:=by omega
  (first|refine aB ?_|refine aA ?_);simp only [go_sem,simprocAttr,Tryz.f105]
theorem nE:aD Tryz.prog 104:=⟨_,Tryz.func104,rfl,rfl⟩
theorem oC {f:Fun} (h:IsoQ f.src f.tgt f.obs f.ars) (hb:FunB f):Spec Tryz.prog 104 [.bptr [] (lO f)] [] (bv true) []:=by
 refine aC (E:=TE) 0 Tryz.func104 rfl (by simp [Tryz.f104]) fun X hn hX=>?_
 have s0:=h.hc.toShape.ob0
 have s8:=h.hc.toShape.ob8
 have s9:=h.hc.toShape.m40
 have ho:=h.ob
 have ha:=h.ar
 have hA:=rW (l:=f.obs) (n:=f.tgt.ob) (m:=f.src.ob.toNat) (by omega) h.bo (by omega)
 have hB:=rW (l:=f.ars) (n:=(f.tgt.fr.length:Int)) (m:=f.src.fr.length) (by omega) h.bq (by omega)
 repeat'(first|refine wkQ ?_|refine Tw.f ?_ ?_|((with_reducible refine kaQ [_,iv f.tgt.ob] ?_);refine kcQ qC ?_;refine kwQ (hA) [] [] ?_)|((with_reducible refine kaQ [_,iv f.tgt.fr.length] ?_);refine kcQ qC ?_;refine kwQ (hB) [] [] ?_)|(refine kcQ aQ ?_;refine krQ (aS (c:=f.tgt)) ?_)|(refine fun(hc:(_:Bool)=_)=>?_;try simp only [hcS]at hc))
 all_goals try exact om_
 (first|refine aB ?_|refine aA ?_);simp only [go_sem,simprocAttr,Tryz.f104]
theorem uC:aD Tryz.prog 27:=⟨_,Tryz.func27,rfl,rfl⟩
theorem rT {f:Fun} (hf:IsFun f) (h:IsoQ f.src f.tgt f.obs f.ars) (hb:FunB f):Spec Tryz.prog 27 [aL0 f] [] (.tup [fnO 0 (bwF f),iv 0]) (fnQ 0 (bwF f)):=by
 refine aC (E:=TE) 0 Tryz.func27 rfl (by simp [Tryz.f27]) fun X hn hX=>?_
 have s8:=h.hc.toShape.ob8
 have s9:=h.hc.toShape.m40
 have hA:=xO h.bo (by omega)
 have hB:=xO h.bq (by omega)
 have b1:=hb.src
 have b2:=hb.tgt
 have b3:=hb.obs
 have b4:=hb.ars
 have l1:=jJ (l:=f.obs) f.obs.length
 have l2:=jJ (l:=f.ars) f.ars.length
 have hM:=pU (c:=f.tgt) (d:=f.src) (p:=bwL f.obs f.obs.length) (q:=bwL f.ars f.ars.length) b2 b1 (by omega) (by omega)
 generalize hp:bwL f.obs f.obs.length=p at *
 generalize hq:bwL f.ars f.ars.length=q at *
 have e:bwF f=⟨f.tgt,f.src,p,q⟩:=by unfold bwF;rw [hp,hq]
 rw [e]
 repeat'(first|(refine dM 5 (Imp.lendFn 1 0 1 f rfl rfl (Nat.le_refl 1)) ?_;simp only [go_sem,simprocAttr])|(with_reducible first|refine St.f ?_|refine V_c ?_|refine eDn ?_|refine And.intro ?_ ?_|refine aJ ?_ ?_)|((refine aV ?_);intro K hK)|((with_reducible refine So.f ?_);intro K hK;simp(contextual:=true)only [go_sem,simprocAttr])|((with_reducible refine hK _ ?_);clear hK K)|((with_reducible refine aE 103 ?_);refine EvCall.rr (kV (f:=f) ?_) jY ?_)|((with_reducible refine aE 104 ?_);refine EvCall.rr (oC (f:=f) ?_ ?_) nE ?_)|((with_reducible refine(id ?_:EvCall _ _ [.bor _ (ints f.obs)] _ _));refine EvCall.mr (hA) tN [(0,2)] [0] ?_)|((with_reducible refine(id ?_:EvCall _ _ [.bor _ (ints f.ars)] _ _));refine EvCall.mr (hB) tN [(0,3)] [0] ?_)|((with_reducible refine aE 84 ?_);refine EvCall.rr (pU (c:=f.tgt) (d:=f.src) (p:=p) (q:=q) ?_ ?_ ?_ ?_) qV ?_)|(refine fun(hc:(_:Bool)=_)=>?_;try simp only [hcS]at hc))
 all_goals try exact om_
 all_goals try exact absurd hf (by assumption)
 (first|refine aB ?_|refine aA ?_);simp only [go_sem,simprocAttr,Tryz.f27]
end Go.Eng
