/- Several texts in one: Q41, E19. -/
import Derived.Test.YtipohdpnhodnmaaGreatKuy
import Derived.Test.YtipohdpnhodnmaaGreatA01y
set_option linter.unusedSimpArgs false
set_option linter.unusedVariables false
set_option maxRecDepth 100000
set_option maxHeartbeats 16000000
section
namespace Go.Eng
open Go Go.Proofs Go.Cats
noncomputable def mrk (B:List Bool) (i:Nat):List Int:=aCz (fun k=>B.getD k false=true) i
theorem aDJ (B:List Bool):mrk B 0=[]:=aHP
theorem aCp {B:List Bool} {i:Nat} (h:B.getD i false=true):mrk B (i+1)=mrk B i++[(i:Int)]:=aD7 h
theorem aFa {B:List Bool} {i:Nat} (h:B.getD i false=false):mrk B (i+1)=mrk B i:=aGH (by rw [h];exact Bool.false_ne_true)
theorem aGp (B:List Bool) (i:Nat):(mrk B i).length≤i:=aD6 _ i
theorem aGo {B:List Bool}:∀{n:Nat},(∀k,k<n→B.getD k false=true)→(mrk B n).length=n
 |0,_=>by rw [aDJ];rfl
 |n+1,h=>by rw [aCp (h n (Nat.lt_succ_self n)),List.length_append,aGo fun k hk=>h k (by omega)];rfl
theorem aJS (A:List Int) (m:Nat):mkA A m 0=List.replicate m false:=rfl
attribute [local go_sem] List.set_cons_zero List.set_cons_succ aDJ aJS
theorem aEN:aF Tryz.prog 189:=⟨_,Tryz.func189,rfl,rfl⟩
theorem aH5 {B:List Bool} (hB:B.length≤1048576):Spec Tryz.prog 189 [.bor [] (lO B)] [] (.sl 0) [(0,⟨1, .arr (ints (mrk B B.length))⟩)]:=by
 refine aD (E:=TE) 0 Tryz.func189 rfl (by simp [Tryz.f189]) fun X hn hX=>?_
 repeat'(first|refine wkQ ?_|refine Tw.f ?_ ?_|(refine fun(hc:(_:Bool)=_)=>?_;try simp only [hcS]at hc))
 all_goals try exact om_
 refine aG (G:={i:Nat//i≤B.length∧(True)}) (fun⟨i,_⟩=>[(9,iv i),(3, .sl 0)]) [2,7,8] (fun⟨i,_⟩=>[(0,⟨1, .arr (ints (mrk B i))⟩)]) [0] (fun zz=>B.length-zz.1) ⟨0,Nat.zero_le _,by first|trivial|simp⟩ ?_ ?_
 ·exact Imp.au hX
 rintro⟨i,hii,hwi⟩
 simp only [go_sem,simprocAttr]
 have hml:=aGp B i
 repeat'(first|refine wkQ ?_|refine Tw.f ?_ ?_|(refine fun(hc:(_:Bool)=_)=>?_;try simp only [hcS]at hc))
 all_goals try exact om_
 ·refine⟨⟨i+1,by omega,(by trivial)⟩,by simp only;omega,Imp.auto hX (by simp only [go_sem,simprocAttr,aCp hc])⟩
 ·refine⟨⟨i+1,by omega,(by trivial)⟩,by simp only;omega,Imp.auto hX (by simp only [go_sem,simprocAttr,aFa hc])⟩
 ·obtain rfl:i=B.length:=by omega
  (first|refine aB ?_|refine aA ?_);simp only [go_sem,simprocAttr,Tryz.f189]
theorem tJ:aF Tryz.prog 116:=⟨_,Tryz.func116,rfl,rfl⟩
theorem zT {l:List Int} {n:Int} {m:Nat} (e:n=m) (hm:m≤1048576) (hl:Within l m) (hk:l.length≤1048576):Spec Tryz.prog 116 [iv n, .bor [] (ints l)] [] (.sl 0) [(0,⟨1, .arr (ints (mrk (mkA l m l.length) m))⟩)]:=by
 refine aD (E:=TE) 0 Tryz.func116 rfl (by simp [Tryz.f116]) fun X hn hX=>?_
 subst e
 have hlm:=wZ l m l.length
 have hM:=aH5 (B:=mkA l m l.length) (by omega)
 rw [hlm]at hM
 repeat'(first|refine wkQ ?_|refine Tw.f ?_ ?_|(refine fun(hc:(_:Bool)=_)=>?_;try simp only [hcS]at hc))
 all_goals try exact om_
 refine aG (G:={i:Nat//i≤l.length∧(True)}) (fun⟨i,_⟩=>[(12,iv i),(5, .sl 0)]) [4,10,11] (fun⟨i,_⟩=>[(0,⟨1, .arr (lO (mkA l m i))⟩)]) [0] (fun zz=>l.length-zz.1) ⟨0,Nat.zero_le _,by first|trivial|simp⟩ ?_ ?_
 ·exact Imp.au hX
 rintro⟨i,hii,hwi⟩
 simp only [go_sem,simprocAttr]
 have hml:=wZ l m i
 rcases Nat.lt_or_ge i l.length with hlt|hge
 ·have h1:=hl i hlt
  have e1:mkA l m (i+1)=(mkA l m i).set (l.getD i 0).toNat true:=rfl
  repeat'(first|refine wkQ ?_|refine Tw.f ?_ ?_|(refine fun(hc:(_:Bool)=_)=>?_;try simp only [hcS]at hc))
  all_goals try exact om_
  ·refine⟨⟨i+1,by omega,(by trivial)⟩,by simp only;omega,Imp.auto hX (by simp only [go_sem,simprocAttr,e1])⟩
 ·obtain rfl:i=l.length:=by omega
  repeat'(first|refine wkQ ?_|refine Tw.f ?_ ?_|(refine kcQ aEN ?_;refine kwQ (hM) [(0,1)] [0] ?_)|(refine fun(hc:(_:Bool)=_)=>?_;try simp only [hcS]at hc))
  all_goals try exact om_
  ·(first|refine aB ?_|refine aA ?_);simp only [go_sem,simprocAttr,Tryz.f116]
theorem _root_.Go.Cats.Bij.img {n:Nat} {l:List Int} (h:Bij n l):(mrk (mkA l n l.length) n).length=n:=aGo fun k hk=>by
 obtain⟨x,hx,e⟩:=h.surj hk
 have hr:∀f∈l,0≤f∧f<n:=fun f hf=>by
  obtain⟨i,hi,rfl⟩:=fB (d:=0) hf
  exact h.win i hi
 have:=(aE8 hr (i:=l.length) (Nat.le_refl _) (k:Int) (by omega) (by omega)).2 (by
  rw [List.take_length,←e]
  exact aT (by rw [h.len];exact hx))
 rw [Int.toNat_natCast]at this
 exact this
theorem aAL:aF Tryz.prog 54:=⟨_,Tryz.func54,rfl,rfl⟩
theorem aCE {l:List Int} {n:Nat} (h:Bij n l) (hm:n≤1048576):Spec Tryz.prog 54 [.bor [] (ints l)] [] (.sl 0) [(0,⟨1, .arr (ints (bwL l l.length))⟩)]:=by
 refine aD (E:=TE) 0 Tryz.func54 rfl (by simp [Tryz.f54]) fun X hn hX=>?_
 have hk:=h.len
 have hw:=h.win
 have hz:=aC0 (l:=l)
 repeat'(first|refine wkQ ?_|refine Tw.f ?_ ?_|(refine fun(hc:(_:Bool)=_)=>?_;try simp only [hcS]at hc))
 all_goals try exact om_
 refine aG (G:={i:Nat//i≤l.length∧(True)}) (fun⟨i,_⟩=>[(11,iv i),(3, .sl 0)]) [2,9,10] (fun⟨i,_⟩=>[(0,⟨1, .arr (ints (bwL l i))⟩)]) [0] (fun zz=>l.length-zz.1) ⟨0,Nat.zero_le _,by trivial⟩ ?_ ?_
 ·exact Imp.auto hX (by simp [go_sem,simprocAttr,hz])
 rintro⟨i,hii,hwi⟩
 simp only [go_sem,simprocAttr]
 have hml:=iR (l:=l) i
 have h1:=hw i
 have e1:=xV (l:=l) (i:=i)
 repeat'(first|refine wkQ ?_|refine Tw.f ?_ ?_|(refine fun(hc:(_:Bool)=_)=>?_;try simp only [hcS]at hc))
 all_goals try exact om_
 ·refine⟨⟨i+1,by omega,(by trivial)⟩,by simp only;omega,Imp.auto hX (by simp only [go_sem,simprocAttr,e1])⟩
 ·obtain rfl:i=l.length:=by omega
  (first|refine aB ?_|refine aA ?_);simp only [go_sem,simprocAttr,Tryz.f54]
end Go.Eng
end
section
namespace Go.Eng
open Go Go.Proofs Go.Cats
theorem aDI {B:List Bool}:∀{n k:Nat},k<n→B.getD k false=false→(mrk B n).length<n
 |0,_,h,_=>absurd h (Nat.not_lt_zero _)
 |n+1,k,h,hb=>by
  by_cases e:k=n
  ·subst e
   rw [aFa hb]
   have:=aGp B k
   omega
  ·have:=aDI (B:=B) (n:=n) (k:=k) (by omega) hb
   by_cases q:B.getD n false=true
   ·rw [aCp q,List.length_append];simp;omega
   ·rw [aFa (by simpa using q)];omega
theorem aEI {n:Nat} {l:List Int} (hl:l.length=n) (hw:Within l n) (h:(mrk (mkA l n l.length) n).length=n):Bij n l:=by
 refine⟨hl,hw,fun i j hij hj h0 e=>?_⟩
 have hr:∀f∈l,0≤f∧f<n:=fun f hf=>by
  obtain⟨i,hi,rfl⟩:=fB (d:=0) hf
  exact hw i hi
 have hall:∀k:Nat,k<n→(k:Int)∈l:=fun k hk=>by
  refine Classical.byContradiction fun q=>?_
  have hm:=aE8 hr (i:=l.length) (Nat.le_refl _) (k:Int) (by omega) (by omega)
  rw [Int.toNat_natCast,List.take_length]at hm
  have hb:(mkA l n l.length).getD k false=false:=by
   cases hc:(mkA l n l.length).getD k false with
   |false=>rfl
   |true=>exact absurd (hm.1 hc) q
  have:=aDI hk hb
  omega
 have hsub:∀z∈(List.range n).map fun k:Nat=>(k:Int),z∈l.eraseIdx j:=fun z hz=>by
  obtain⟨k,hk,rfl⟩:=List.mem_map.1 hz
  have hk:=List.mem_range.1 hk
  obtain⟨m,hm,em⟩:=fB (d:=0) (hall k hk)
  rw [List.mem_eraseIdx_iff_getElem]
  by_cases q:m=j
  ·subst q
   refine⟨i,by omega,by omega,?_⟩
   rw [List.getD_eq_getElem?_getD,List.getElem?_eq_getElem (by omega)]at e
   rw [←e]at em
   exact em
  ·refine⟨m,hm,q,?_⟩
   rw [List.getD_eq_getElem?_getD,List.getElem?_eq_getElem hm]at em
   exact em
 have hnd:((List.range n).map fun k:Nat=>(k:Int)).Nodup:=by
  unfold List.Nodup
  rw [List.pairwise_map]
  refine List.Pairwise.imp (fun {a b} (q:a<b)=>?_) List.pairwise_lt_range
  omega
 have:=List.Nodup.length_le_of_subset hnd hsub
 rw [List.length_map,List.length_range,List.length_eraseIdx_of_lt hj]at this
 omega
attribute [local go_sem] List.set_cons_zero List.set_cons_succ
theorem vQ:aF Tryz.prog 83:=⟨_,Tryz.func83,rfl,rfl⟩
theorem rH {l:List Int} {n:Int} {m:Nat} (e:n=m) (hm:m≤1048576) (hk:l.length≤1048576):Spec Tryz.prog 83 [.bor [] (ints l),iv n] [] (bv (dec (Bij m l))) []:=by
 refine aD (E:=TE) 0 Tryz.func83 rfl (by simp [Tryz.f83]) fun X hn hX=>?_
 subst e
 by_cases h1:l.length=m
 ·by_cases h2:Within l m
  ·have hI:=zT (l:=l) (n:=m) (m:=m) rfl hm h2 (by omega)
   have hW:=gB (l:=l) (n:=m) (by unfold inR;omega) (by omega)
   rw [lE h2]at hW
   have hB:Bij m l↔(mrk (mkA l m l.length) m).length=m:=⟨fun h=>h.img,fun h=>aEI h1 h2 h⟩
   rw [cB hB]
   generalize mrk (mkA l m l.length) m=I at hI
   repeat'(first|refine wkQ ?_|refine Tw.f ?_ ?_|(refine kcQ eV ?_;refine kwQ (hW) [] [] ?_)|(refine kcQ tJ ?_;refine kwQ (hI) [(0,0)] [] ?_)|(refine fun(hc:(_:Bool)=_)=>?_;try simp only [hcS]at hc))
   all_goals try exact om_
   all_goals try(exfalso;omega)
   all_goals((first|refine aB ?_|refine aA ?_);simp only [go_sem,simprocAttr,Tryz.f83])
   all_goals exact congrArg (fun b=>Sv.v (.bool b)) (by rw [←jC];exact cB ⟨fun h=>by omega,fun h=>by omega⟩)
  ·have hW:=gB (l:=l) (n:=m) (by unfold inR;omega) (by omega)
   rw [mF h2]at hW
   rw [mF (fun h:Bij m l=>h2 h.win)]
   repeat'(first|refine wkQ ?_|refine Tw.f ?_ ?_|(refine kcQ eV ?_;refine kwQ (hW) [] [] ?_)|(refine fun(hc:(_:Bool)=_)=>?_;try simp only [hcS]at hc))
   all_goals try exact om_
   all_goals try(exfalso;omega)
   all_goals((first|refine aB ?_|refine aA ?_);simp only [go_sem,simprocAttr,Tryz.f83])
 ·rw [mF (fun h:Bij m l=>h1 h.len)]
  repeat'(first|refine wkQ ?_|refine Tw.f ?_ ?_|(refine fun(hc:(_:Bool)=_)=>?_;try simp only [hcS]at hc))
  all_goals try exact om_
  all_goals try(exfalso;omega)
  all_goals((first|refine aB ?_|refine aA ?_);simp only [go_sem,simprocAttr,Tryz.f83])
end Go.Eng
end
