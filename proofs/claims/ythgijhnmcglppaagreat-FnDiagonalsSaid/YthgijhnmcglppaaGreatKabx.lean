/- Several texts in one: R16, R17, R18, R19, R20. -/
import Derived.Test.YthgijhnmcglppaaGreatKbbx
set_option linter.unusedSimpArgs false
set_option linter.unusedVariables false
set_option maxRecDepth 100000
set_option maxHeartbeats 16000000
section
namespace Go.Eng
open Go Go.Proofs Go.Cats
theorem fK {c:Cat} {v:Bool} (hb:CatB c) (h:dec (IsCat c)=v):Spec Tryz.prog 85 [bK c] [] (bv v) []:=by
 subst h
 exact aNq hb
def FcOut (c d K:Cat) (L:List Fun) (A:List (List Int)) (code:Int):Prop:=
 (¬(IsCat c∧IsCat d)∧K=Cat.nil∧L=[]∧A=[]∧code=1)∨(IsCat c∧IsCat d∧¬FcY c d∧K=Cat.nil∧L=[]∧A=[]∧code=3)∨(IsCat c∧IsCat d∧FcY c d∧K=fcK d (fcL c d)∧L=fcL c d∧A=fcA (fcL c d)∧code=0)
theorem FcOut.ex (c d:Cat):∃K L A code,FcOut c d K L A code:=by
 by_cases h:IsCat c∧IsCat d
 ·by_cases h2:FcY c d
  ·exact⟨_,_,_,_, .inr (.inr ⟨h.1,h.2,h2,rfl,rfl,rfl,rfl⟩)⟩
  ·exact⟨_,_,_,_, .inr (.inl ⟨h.1,h.2,h2,rfl,rfl,rfl,rfl⟩)⟩
 ·exact⟨_,_,_,_, .inl ⟨h,rfl,rfl,rfl,rfl⟩⟩
theorem sZ:aE Tryz.prog 30:=⟨_,Tryz.func30,rfl,rfl⟩
theorem pE {c d:Cat} (hc:CatB c) (hd:CatB d) (sc:IsCat c) (sd:IsCat d) (h:FcY c d):Spec Tryz.prog 30 [bK c,bK d] [] (.tup [.agg [iv (fcK d (fcL c d)).ob, .sl 0, .sl 1, .sl 2, .sl 3], .sl 4, .sl 5,iv 0]) [(0,⟨1, .arr (ints (fcK d (fcL c d)).fr)⟩),(1,⟨1, .arr (ints (fcK d (fcL c d)).to)⟩),(2,⟨1, .arr (ints (fcK d (fcL c d)).id)⟩),(3,⟨1, .arr (aF (fcK d (fcL c d)).co)⟩),(4,⟨1, .arr (aS (fcL c d))⟩),(5,⟨1, .arr (aF (fcA (fcL c d)))⟩)]:=by
 have v1:=bH (And.intro sc sd)
 have h1:=gR sc sd hc hd (.inl ⟨h,rfl,rfl⟩)
 refine aD (E:=TE) 0 Tryz.func30 rfl (by simp [Tryz.f30]) fun X hn hX=>?_
 repeat'(first|(refine bU 1 (Imp.trans (Imp.lendCat 2 0 1 c rfl rfl (Nat.le_refl 1)) (Imp.lendCat 3 1 1 d rfl rfl (Nat.le_refl 1))) ?_;simp only [go_sem,simprocAttr])|(exact absurd (And.intro sc sd) (by assumption))|(with_reducible first|refine St.f ?_|refine V_c ?_|refine eDn ?_|refine And.intro ?_ ?_|refine aH ?_ ?_)|((refine aN ?_);intro K hK)|((with_reducible refine So.f ?_);intro K hK;simp(contextual:=true)only [go_sem,simprocAttr])|((with_reducible refine hK _ ?_);clear hK K)|((with_reducible refine aC 78 ?_);refine EvCall.rq (a:=(bA (by first|omega|assumption|rfl) (by first|omega|assumption|rfl))) (b:=bB) (c:=?_);all_goals try simp only [go_sem,simprocAttr])|((with_reducible refine aC 79 ?_);refine EvCall.mr (h1) iP [(0,4),(1,5),(2,6),(3,7),(4,8),(5,9),(6,10),(7,11)] [0,1] ?_)|(refine fun(hc:(_:Bool)=_)=>?_;try simp only [hcS]at hc))
 all_goals try exact om_
 ·(first|refine aB ?_|refine aA ?_);simp only [go_sem,simprocAttr,Tryz.f30]
  rfl
end Go.Eng
end
section
namespace Go.Eng
open Go Go.Proofs Go.Cats
theorem aC9 (d:Cat) {L:List Fun} (hL:L.length≤8) (hA:(fcA L).length≤40):CatB (fcK d L):=by
 refine⟨?_,?_,?_,?_,?_,?_,fun f hf=>?_⟩
 ·show(-9223372036854775808:Int)≤(L.length:Int);omega
 ·show(L.length:Int)≤9223372036854775807;omega
 ·show(((fcA L).take (fcA L).length).map _).length≤1048576;rw [List.length_map,List.take_length];omega
 ·show(((fcA L).take (fcA L).length).map _).length≤1048576;rw [List.length_map,List.take_length];omega
 ·show((List.range L.length).map _).length≤1048576;rw [List.length_map,List.length_range];omega
 ·show((List.range (fcA L).length).map _).length≤1048576;rw [List.length_map,List.length_range];omega
 ·have hf2:f<(fcA L).length:=by
   have:f<((List.range (fcA L).length).map _).length:=hf
   rwa [List.length_map,List.length_range]at this
  have e:(fcK d L).co.getD f []=cL d (fcA L) f (fcA L).length:=by
   show((List.range (fcA L).length).map _).getD f []=_
   rw [List.getD_eq_getElem?_getD,List.getElem?_map,List.getElem?_range hf2];rfl
  rw [e,aF1];omega
def qP (L:List Fun) (x:Int) (i:Nat):List Int:=(L.take i).map fun f=>f.obs.getD x.toNat 0
def uB (A:List (List Int)) (x:Int) (a:Nat):List Int:=(A.take a).map fun t=>t.getD (2+x).toNat 0
noncomputable def evF (c d:Cat) (x:Int):Fun:=⟨fcK d (fcL c d),d,qP (fcL c d) x (fcL c d).length,uB (fcA (fcL c d)) x (fcA (fcL c d)).length⟩
theorem aJg (L x):qP L x 0=[]:=rfl
theorem aJf (A x):uB A x 0=[]:=rfl
theorem qQ {L x} {i:Nat} (h:i≤L.length):(qP L x i).length=i:=by unfold qP;rw [List.length_map,List.length_take];omega
theorem qO {A x} {i:Nat} (h:i≤A.length):(uB A x i).length=i:=by unfold uB;rw [List.length_map,List.length_take];omega
theorem aC6 {L:List Fun} {x:Int} {i:Nat} (h:i<L.length):qP L x (i+1)=qP L x i++[(L.getD i default).obs.getD x.toNat 0]:=by
 unfold qP;rw [List.take_succ_eq_append_getElem h,List.map_append,List.map_singleton,List.getD_eq_getElem?_getD (l:=L),List.getElem?_eq_getElem h];rfl
theorem aC5 {A:List (List Int)} {x:Int} {i:Nat} (h:i<A.length):uB A x (i+1)=uB A x i++[(A.getD i []).getD (2+x).toNat 0]:=by
 unfold uB;rw [List.take_succ_eq_append_getElem h,List.map_append,List.map_singleton,List.getD_eq_getElem?_getD (l:=A),List.getElem?_eq_getElem h];rfl
def EvOut (c d:Cat) (x:Int) (g:Fun) (code:Int):Prop:=
 (¬(IsCat c∧IsCat d)∧g=nilF∧code=1)∨(IsCat c∧IsCat d∧((¬(0≤x∧x<c.ob)∧g=nilF∧code=2)∨((0≤x∧x<c.ob)∧((¬FcY c d∧g=nilF∧code=3)∨(FcY c d∧g=evF c d x∧code=0)))))
theorem EvOut.ex (c d:Cat) (x:Int):∃g code,EvOut c d x g code:=by
 by_cases h:IsCat c∧IsCat d
 ·by_cases h2:0≤x∧x<c.ob
  ·by_cases h3:FcY c d
   ·exact⟨_,_, .inr ⟨h.1,h.2, .inr ⟨h2, .inr ⟨h3,rfl,rfl⟩⟩⟩⟩
   ·exact⟨_,_, .inr ⟨h.1,h.2, .inr ⟨h2, .inl ⟨h3,rfl,rfl⟩⟩⟩⟩
  ·exact⟨_,_, .inr ⟨h.1,h.2, .inl ⟨h2,rfl,rfl⟩⟩⟩
 ·exact⟨_,_, .inl ⟨h,rfl,rfl⟩⟩
theorem aTu {c d:Cat} {x:Int} (hd:CatB d) (hy:FcY c d):FunB (evF c d x):=by
 have h1:=hy.2.1
 have h2:=hy.2.2
 refine⟨aC9 d h1 h2,hd,?_,?_⟩
 ·show(qP _ _ _).length≤1048576;rw [qQ (Nat.le_refl _)];omega
 ·show(uB _ _ _).length≤1048576;rw [qO (Nat.le_refl _)];omega
attribute [local go_sem] List.set_cons_zero List.set_cons_succ aJg aJf
theorem fU:aE Tryz.prog 18:=⟨_,Tryz.func18,rfl,rfl⟩
theorem mY {c d:Cat} {x:Int} (hc:CatB c) (hd:CatB d) (h:¬(IsCat c∧IsCat d)):Spec Tryz.prog 18 [bK c,bK d,iv x] [] (.tup [.agg [iv 0, .v (.slice none 0 0), .v (.slice none 0 0), .v (.slice none 0 0), .v (.slice none 0 0),iv 0, .v (.slice none 0 0), .v (.slice none 0 0), .v (.slice none 0 0), .v (.slice none 0 0), .v (.slice none 0 0), .v (.slice none 0 0)],iv 1]) []:=by
 have v1:=eD h
 refine aD (E:=TE) 0 Tryz.func18 rfl (by simp [Tryz.f18]) fun X hn hX=>?_
 repeat'(first|(refine bU 1 (Imp.trans (Imp.lendCat 3 0 1 c rfl rfl (Nat.le_refl 1)) (Imp.lendCat 4 1 1 d rfl rfl (Nat.le_refl 1))) ?_;simp only [go_sem,simprocAttr])|(exact absurd (by assumption) h)|(with_reducible first|refine St.f ?_|refine V_c ?_|refine And.intro ?_ ?_|refine aH ?_ ?_|refine aK ?_)|((refine aN ?_);intro K hK)|((with_reducible refine So.f ?_);intro K hK;simp(contextual:=true)only [go_sem,simprocAttr])|((with_reducible refine hK _ ?_);clear hK K)|((with_reducible refine aC 78 ?_);refine EvCall.rq (a:=(bA (by first|omega|assumption|rfl) (by first|omega|assumption|rfl))) (b:=bB) (c:=?_);all_goals try simp only [go_sem,simprocAttr])|(refine fun(hc:(_:Bool)=_)=>?_;try simp only [hcS]at hc))
 all_goals try exact om_
 all_goals((first|refine aB ?_|refine aA ?_);simp only [go_sem,simprocAttr,Tryz.f18])
theorem mZ {c d:Cat} {x:Int} (hc:CatB c) (hd:CatB d) (sc:IsCat c) (sd:IsCat d) (h:¬(0≤x∧x<c.ob)):Spec Tryz.prog 18 [bK c,bK d,iv x] [] (.tup [.agg [iv 0, .v (.slice none 0 0), .v (.slice none 0 0), .v (.slice none 0 0), .v (.slice none 0 0),iv 0, .v (.slice none 0 0), .v (.slice none 0 0), .v (.slice none 0 0), .v (.slice none 0 0), .v (.slice none 0 0), .v (.slice none 0 0)],iv 2]) []:=by
 have v1:=bH (And.intro sc sd)
 have c0:=sc.toShape.ob0
 have c8:=sc.toShape.ob8
 have hin:Spec Tryz.prog 91 [iv x,iv 0,iv (c.ob-1)] [] (bv false) []:=by
  have:=gF (n:=x) (lo:=0) (hi:=c.ob-1)
  rwa [eD (by omega)]at this
 refine aD (E:=TE) 0 Tryz.func18 rfl (by simp [Tryz.f18]) fun X hn hX=>?_
 repeat'(first|(refine bU 1 (Imp.trans (Imp.lendCat 3 0 1 c rfl rfl (Nat.le_refl 1)) (Imp.lendCat 4 1 1 d rfl rfl (Nat.le_refl 1))) ?_;simp only [go_sem,simprocAttr])|(exact absurd (And.intro sc sd) (by assumption))|(with_reducible first|refine St.f ?_|refine V_c ?_|refine And.intro ?_ ?_|refine aH ?_ ?_|refine aK ?_)|((refine aN ?_);intro K hK)|((with_reducible refine So.f ?_);intro K hK;simp(contextual:=true)only [go_sem,simprocAttr])|((with_reducible refine hK _ ?_);clear hK K)|((with_reducible refine aC 78 ?_);refine EvCall.rq (a:=(bA (by first|omega|assumption|rfl) (by first|omega|assumption|rfl))) (b:=bB) (c:=?_);all_goals try simp only [go_sem,simprocAttr])|((with_reducible refine aC 91 ?_);refine EvCall.mr (hin) fC [] [] ?_)|(refine fun(hc:(_:Bool)=_)=>?_;try simp only [hcS]at hc))
 all_goals try exact om_
 all_goals((first|refine aB ?_|refine aA ?_);simp only [go_sem,simprocAttr,Tryz.f18])
theorem nU {c d:Cat} {x:Int} (hc:CatB c) (hd:CatB d) (sc:IsCat c) (sd:IsCat d) (hx:0≤x∧x<c.ob) (h:¬FcY c d):Spec Tryz.prog 18 [bK c,bK d,iv x] [] (.tup [.agg [iv 0, .v (.slice none 0 0), .v (.slice none 0 0), .v (.slice none 0 0), .v (.slice none 0 0),iv 0, .v (.slice none 0 0), .v (.slice none 0 0), .v (.slice none 0 0), .v (.slice none 0 0), .v (.slice none 0 0), .v (.slice none 0 0)],iv 3]) []:=by
 have v1:=bH (And.intro sc sd)
 have c0:=sc.toShape.ob0
 have c8:=sc.toShape.ob8
 have h1:=gR sc sd hc hd (.inr ⟨h,rfl,rfl⟩)
 have hin:Spec Tryz.prog 91 [iv x,iv 0,iv (c.ob-1)] [] (bv true) []:=by
  have:=gF (n:=x) (lo:=0) (hi:=c.ob-1)
  rwa [bH (by omega)]at this
 refine aD (E:=TE) 0 Tryz.func18 rfl (by simp [Tryz.f18]) fun X hn hX=>?_
 repeat'(first|(refine bU 1 (Imp.trans (Imp.lendCat 3 0 1 c rfl rfl (Nat.le_refl 1)) (Imp.lendCat 4 1 1 d rfl rfl (Nat.le_refl 1))) ?_;simp only [go_sem,simprocAttr])|(exact absurd (And.intro sc sd) (by assumption))|(with_reducible first|refine St.f ?_|refine V_c ?_|refine And.intro ?_ ?_|refine aH ?_ ?_|refine aK ?_)|((refine aN ?_);intro K hK)|((with_reducible refine So.f ?_);intro K hK;simp(contextual:=true)only [go_sem,simprocAttr])|((with_reducible refine hK _ ?_);clear hK K)|((with_reducible refine aC 78 ?_);refine EvCall.rq (a:=(bA (by first|omega|assumption|rfl) (by first|omega|assumption|rfl))) (b:=bB) (c:=?_);all_goals try simp only [go_sem,simprocAttr])|((with_reducible refine aC 91 ?_);refine EvCall.mr (hin) fC [] [] ?_)|((with_reducible refine aC 79 ?_);refine EvCall.mr (h1) iP [] [0,1] ?_)|(refine fun(hc:(_:Bool)=_)=>?_;try simp only [hcS]at hc))
 all_goals try exact om_
 all_goals((first|refine aB ?_|refine aA ?_);simp only [go_sem,simprocAttr,Tryz.f18])
theorem nA {c d:Cat} {x:Int} (hc:CatB c) (hd:CatB d) (sc:IsCat c) (sd:IsCat d) (hx:0≤x∧x<c.ob) (hy:FcY c d):Spec Tryz.prog 18 [bK c,bK d,iv x] [] (.tup [.agg [iv (evF c d x).src.ob, .sl 0, .sl 1, .sl 2, .sl 3,iv (evF c d x).tgt.ob, .sl 4, .sl 5, .sl 6, .sl 7, .sl 8, .sl 9],iv 0]) [(0,⟨1, .arr (ints (evF c d x).src.fr)⟩),(1,⟨1, .arr (ints (evF c d x).src.to)⟩),(2,⟨1, .arr (ints (evF c d x).src.id)⟩),(3,⟨1, .arr (aF (evF c d x).src.co)⟩),(4,⟨1, .arr (ints (evF c d x).tgt.fr)⟩),(5,⟨1, .arr (ints (evF c d x).tgt.to)⟩),(6,⟨1, .arr (ints (evF c d x).tgt.id)⟩),(7,⟨1, .arr (aF (evF c d x).tgt.co)⟩),(8,⟨1, .arr (ints (evF c d x).obs)⟩),(9,⟨1, .arr (ints (evF c d x).ars)⟩)]:=by
 have v1:=bH (And.intro sc sd)
 obtain⟨x0,x1⟩:=hx
 have c0:=sc.toShape.ob0
 have c8:=sc.toShape.ob8
 have h1:=gR sc sd hc hd (.inl ⟨hy,rfl,rfl⟩)
 have hL:=hy.2.1
 have hA:=hy.2.2
 have hfl:FL c d (fcL c d):=FL.of_funX
 have hKb:=aC9 d hL hA
 have hin:Spec Tryz.prog 91 [iv x,iv 0,iv (c.ob-1)] [] (bv true) []:=by
  have:=gF (n:=x) (lo:=0) (hi:=c.ob-1)
  rwa [bH (by omega)]at this
 have hfu:=lO (c:=fcK d (fcL c d)) (d:=d) (p:=qP (fcL c d) x (fcL c d).length) (q:=uB (fcA (fcL c d)) x (fcA (fcL c d)).length) hKb hd (by rw [qQ (Nat.le_refl _)];omega) (by rw [qO (Nat.le_refl _)];omega)
 obtain⟨L,hLd⟩:∃L,fcL c d=L:=⟨_,rfl⟩
 rw [hLd]at h1 hL hA hfl hKb hfu
 have eF:evF c d x=⟨fcK d L,d,qP L x L.length,uB (fcA L) x (fcA L).length⟩:=by unfold evF;rw [hLd]
 rw [eF]
 refine aD (E:=TE) 0 Tryz.func18 rfl (by simp [Tryz.f18]) fun X hn hX=>?_
 repeat'(first|(refine bU 1 (Imp.trans (Imp.lendCat 3 0 1 c rfl rfl (Nat.le_refl 1)) (Imp.lendCat 4 1 1 d rfl rfl (Nat.le_refl 1))) ?_;simp only [go_sem,simprocAttr])|(exact absurd (And.intro sc sd) (by assumption))|(with_reducible first|refine St.f ?_|refine V_c ?_|refine And.intro ?_ ?_|refine aH ?_ ?_|refine aK ?_)|((refine aN ?_);intro K hK)|((with_reducible refine So.f ?_);intro K hK;simp(contextual:=true)only [go_sem,simprocAttr])|((with_reducible refine hK _ ?_);clear hK K)|((with_reducible refine aC 78 ?_);refine EvCall.rq (a:=(bA (by first|omega|assumption|rfl) (by first|omega|assumption|rfl))) (b:=bB) (c:=?_);all_goals try simp only [go_sem,simprocAttr])|((with_reducible refine aC 91 ?_);refine EvCall.mr (hin) fC [] [] ?_)|((with_reducible refine aC 79 ?_);refine EvCall.mr (h1) iP [(0,4),(1,5),(2,6),(3,7),(4,8),(5,9),(6,10),(7,11)] [0,1] ?_)|(refine fun(hc:(_:Bool)=_)=>?_;try simp only [hcS]at hc))
 all_goals try exact om_
 have hpart:∀i,i<L.length→(aS L).part (i*12) 12=[.v (.int .i64 (L.getD i default).src.ob),ints (L.getD i default).src.fr,ints (L.getD i default).src.to,ints (L.getD i default).src.id,aF (L.getD i default).src.co, .v (.int .i64 (L.getD i default).tgt.ob),ints (L.getD i default).tgt.fr,ints (L.getD i default).tgt.to,ints (L.getD i default).tgt.id,aF (L.getD i default).tgt.co,ints (L.getD i default).obs,ints (L.getD i default).ars]:=fun i hi=>iK L i hi
 refine aG (G:={i:Nat//i≤L.length∧(True)}) (fun⟨i,_⟩=>[(41,iv i),(8, .ptr 4 0),(10, .sl 12),(11, .sl 13),(16, .bsl 3 2),(39, .sl 9)]) [2,4,6,7,40] (fun⟨i,_⟩=>[(12,⟨1, .arr (ints (qP L x i))⟩),(13,⟨1, .arr (ints [])⟩)]) [12,13] (fun zz=>L.length-zz.1) ⟨0,Nat.zero_le _,by first|trivial|simp⟩ ?_ ?_
 ·exact Imp.au hX
 rintro⟨i,hii,hwi⟩
 simp only [go_sem,simprocAttr]
 have hol:=qQ (L:=L) (x:=x) hii
 rcases Nat.lt_or_ge i L.length with hli|hgi
 ·have hpi:=hpart i hli
  have hfo:=(hfl i hli).2.2.obl
  rw [(hfl i hli).1]at hfo
  have e1:=aC6 (x:=x) hli
  repeat'(first|(rw [hpi];simp only [go_sem,simprocAttr])|(with_reducible first|refine St.f ?_|refine V_c ?_|refine And.intro ?_ ?_|refine aH ?_ ?_|refine aK ?_)|((refine aN ?_);intro K hK)|((with_reducible refine So.f ?_);intro K hK;simp(contextual:=true)only [go_sem,simprocAttr])|((with_reducible refine hK _ ?_);clear hK K)|(refine fun(hc:(_:Bool)=_)=>?_;try simp only [hcS]at hc))
  all_goals try exact om_
  ·refine⟨⟨i+1,by omega,(by trivial)⟩,by simp only;omega,Imp.auto hX (by simp only [go_sem,simprocAttr,e1])⟩
 ·have ei:i=L.length:=by omega
  subst ei
  repeat'(first|(with_reducible first|refine St.f ?_|refine V_c ?_|refine And.intro ?_ ?_|refine aH ?_ ?_|refine aK ?_)|((refine aN ?_);intro K hK)|((with_reducible refine So.f ?_);intro K hK;simp(contextual:=true)only [go_sem,simprocAttr])|((with_reducible refine hK _ ?_);clear hK K)|(refine fun(hc:(_:Bool)=_)=>?_;try simp only [hcS]at hc))
  all_goals try exact om_
  refine aG (G:={a:Nat//a≤(fcA L).length∧(True)}) (fun⟨a,_⟩=>[(59,iv a),(8, .ptr 4 0),(10, .sl 12),(11, .sl 13),(16, .bsl 3 2),(57, .sl 10)]) [2,4,6,7,58] (fun⟨a,_⟩=>[(12,⟨1, .arr (ints (qP L x L.length))⟩),(13,⟨1, .arr (ints (uB (fcA L) x a))⟩)]) [12,13] (fun zz=>(fcA L).length-zz.1) ⟨0,Nat.zero_le _,by first|trivial|simp⟩ ?_ ?_
  ·exact Imp.au hX
  rintro⟨a,hia,hwa⟩
  simp only [go_sem,simprocAttr]
  have hal:=qO (A:=fcA L) (x:=x) hia
  rcases Nat.lt_or_ge a (fcA L).length with hla|hga
  ·have hal2:=(hfl.arr (bI (d:=[]) hla)).len
   have e2:=aC5 (x:=x) hla
   repeat'(first|(with_reducible first|refine St.f ?_|refine V_c ?_|refine And.intro ?_ ?_|refine aH ?_ ?_|refine aK ?_)|((refine aN ?_);intro K hK)|((with_reducible refine So.f ?_);intro K hK;simp(contextual:=true)only [go_sem,simprocAttr])|((with_reducible refine hK _ ?_);clear hK K)|(refine fun(hc:(_:Bool)=_)=>?_;try simp only [hcS]at hc))
   all_goals try exact om_
   ·refine⟨⟨a+1,by omega,(by trivial)⟩,by simp only;omega,Imp.auto hX (by simp only [go_sem,simprocAttr,e2])⟩
  ·have ea:a=(fcA L).length:=by omega
   subst ea
   repeat'(first|(with_reducible first|refine St.f ?_|refine V_c ?_|refine And.intro ?_ ?_|refine aH ?_ ?_|refine aK ?_)|((refine aN ?_);intro K hK)|((with_reducible refine So.f ?_);intro K hK;simp(contextual:=true)only [go_sem,simprocAttr])|((with_reducible refine hK _ ?_);clear hK K)|((with_reducible refine aC 84 ?_);refine EvCall.mr (hfu) jP [(0,14),(1,15),(2,16),(3,17),(4,18),(5,19),(6,20),(7,21),(8,22),(9,23)] [4,5,6,7,8,1,12,13] ?_)|(refine fun(hc:(_:Bool)=_)=>?_;try simp only [hcS]at hc))
   all_goals try exact om_
   ·(first|refine aB ?_|refine aA ?_);simp only [go_sem,simprocAttr,Tryz.f18]
theorem mQ:aE Tryz.prog 107:=⟨_,Tryz.func107,rfl,rfl⟩
theorem pJ {c:Cat} {x:Int}:Spec Tryz.prog 107 [bK c,iv x] [] (bv (dec (0≤x∧x<c.ob))) []:=by
 refine aD (E:=TE) 0 Tryz.func107 rfl (by simp [Tryz.f107]) fun X hn hX=>?_
 repeat'(first|refine wkQ ?_|refine Tw.f ?_ ?_|(refine fun(hc:(_:Bool)=_)=>?_;try simp only [hcS]at hc))
 ·(first|refine aB ?_|refine aA ?_);simp only [go_sem,simprocAttr,Tryz.f107]
  exact congrArg (fun b=>Sv.v (.bool b)) (by rw [←mU];exact cV ⟨fun h=>⟨hc,h⟩,fun h=>h.2⟩)
 ·(first|refine aB ?_|refine aA ?_);simp only [go_sem,simprocAttr,Tryz.f107]
  exact fH (fun e=>by omega)
theorem gA:aE Tryz.prog 29:=⟨_,Tryz.func29,rfl,rfl⟩
theorem jX {c d:Cat} {x:Int} (hc:CatB c) (hd:CatB d) (h:¬(IsCat c∧IsCat d)):Spec Tryz.prog 29 [bK c,bK d,iv x] [] (.tup [.agg [iv 0, .v (.slice none 0 0), .v (.slice none 0 0), .v (.slice none 0 0), .v (.slice none 0 0),iv 0, .v (.slice none 0 0), .v (.slice none 0 0), .v (.slice none 0 0), .v (.slice none 0 0), .v (.slice none 0 0), .v (.slice none 0 0)],iv 1]) []:=by
 by_cases h1:IsCat c
 ·have h2:¬IsCat d:=fun q=>h ⟨h1,q⟩
  have v1:=bH h1
  have v2:=eD h2
  refine aD (E:=TE) 0 Tryz.func29 rfl (by simp [Tryz.f29]) fun X hn hX=>?_
  repeat'(first|refine wkQ ?_|refine Tw.f ?_ ?_|(refine kcQ gI ?_;refine ksQ (a:=fK (by first|omega|assumption|rfl) (by first|omega|assumption|rfl)) (c:=?_))|(refine fun(hc:(_:Bool)=_)=>?_;try simp only [hcS]at hc))
  all_goals try exact om_
  all_goals((first|refine aB ?_|refine aA ?_);simp only [go_sem,simprocAttr,Tryz.f29])
 ·have v1:=eD h1
  refine aD (E:=TE) 0 Tryz.func29 rfl (by simp [Tryz.f29]) fun X hn hX=>?_
  repeat'(first|refine wkQ ?_|refine Tw.f ?_ ?_|(refine kcQ gI ?_;refine ksQ (a:=fK (by first|omega|assumption|rfl) (by first|omega|assumption|rfl)) (c:=?_))|(refine fun(hc:(_:Bool)=_)=>?_;try simp only [hcS]at hc))
  all_goals try exact om_
  all_goals((first|refine aB ?_|refine aA ?_);simp only [go_sem,simprocAttr,Tryz.f29])
theorem jY {c d:Cat} {x:Int} (hc:CatB c) (hd:CatB d) (sc:IsCat c) (sd:IsCat d) (h:¬(0≤x∧x<c.ob)):Spec Tryz.prog 29 [bK c,bK d,iv x] [] (.tup [.agg [iv 0, .v (.slice none 0 0), .v (.slice none 0 0), .v (.slice none 0 0), .v (.slice none 0 0),iv 0, .v (.slice none 0 0), .v (.slice none 0 0), .v (.slice none 0 0), .v (.slice none 0 0), .v (.slice none 0 0), .v (.slice none 0 0)],iv 2]) []:=by
 have v1:=bH sc
 have v2:=bH sd
 have hin:=pJ (c:=c) (x:=x)
 rw [eD h]at hin
 refine aD (E:=TE) 0 Tryz.func29 rfl (by simp [Tryz.f29]) fun X hn hX=>?_
 repeat'(first|refine wkQ ?_|refine Tw.f ?_ ?_|(refine kcQ gI ?_;refine ksQ (a:=fK (by first|omega|assumption|rfl) (by first|omega|assumption|rfl)) (c:=?_))|(refine kcQ mQ ?_;refine kwQ (hin) [] [] ?_)|(refine fun(hc:(_:Bool)=_)=>?_;try simp only [hcS]at hc))
 all_goals try exact om_
 all_goals((first|refine aB ?_|refine aA ?_);simp only [go_sem,simprocAttr,Tryz.f29])
theorem kG {c d:Cat} {x:Int} (hc:CatB c) (hd:CatB d) (sc:IsCat c) (sd:IsCat d) (hx:0≤x∧x<c.ob) (h:¬FcY c d):Spec Tryz.prog 29 [bK c,bK d,iv x] [] (.tup [.agg [iv 0, .v (.slice none 0 0), .v (.slice none 0 0), .v (.slice none 0 0), .v (.slice none 0 0),iv 0, .v (.slice none 0 0), .v (.slice none 0 0), .v (.slice none 0 0), .v (.slice none 0 0), .v (.slice none 0 0), .v (.slice none 0 0)],iv 3]) []:=by
 have v1:=bH sc
 have v2:=bH sd
 have hin:=pJ (c:=c) (x:=x)
 rw [bH hx]at hin
 have h1:=gM sc sd hc hd (.inr ⟨h,rfl,rfl⟩)
 refine aD (E:=TE) 0 Tryz.func29 rfl (by simp [Tryz.f29]) fun X hn hX=>?_
 repeat'(first|refine wkQ ?_|refine Tw.f ?_ ?_|(refine kcQ gI ?_;refine ksQ (a:=fK (by first|omega|assumption|rfl) (by first|omega|assumption|rfl)) (c:=?_))|(refine kcQ mQ ?_;refine kwQ (hin) [] [] ?_)|(refine kcQ iG ?_;refine kwQ (h1) [] [] ?_)|(refine fun(hc:(_:Bool)=_)=>?_;try simp only [hcS]at hc))
 all_goals try exact om_
 all_goals((first|refine aB ?_|refine aA ?_);simp only [go_sem,simprocAttr,Tryz.f29])
theorem jZ {c d:Cat} {x:Int} (hc:CatB c) (hd:CatB d) (sc:IsCat c) (sd:IsCat d) (hx:0≤x∧x<c.ob) (hy:FcY c d):Spec Tryz.prog 29 [bK c,bK d,iv x] [] (.tup [.agg [iv (evF c d x).src.ob, .sl 0, .sl 1, .sl 2, .sl 3,iv (evF c d x).tgt.ob, .sl 4, .sl 5, .sl 6, .sl 7, .sl 8, .sl 9],iv 0]) [(0,⟨1, .arr (ints (evF c d x).src.fr)⟩),(1,⟨1, .arr (ints (evF c d x).src.to)⟩),(2,⟨1, .arr (ints (evF c d x).src.id)⟩),(3,⟨1, .arr (aF (evF c d x).src.co)⟩),(4,⟨1, .arr (ints (evF c d x).tgt.fr)⟩),(5,⟨1, .arr (ints (evF c d x).tgt.to)⟩),(6,⟨1, .arr (ints (evF c d x).tgt.id)⟩),(7,⟨1, .arr (aF (evF c d x).tgt.co)⟩),(8,⟨1, .arr (ints (evF c d x).obs)⟩),(9,⟨1, .arr (ints (evF c d x).ars)⟩)]:=by
 have v1:=bH sc
 have v2:=bH sd
 have hin:=pJ (c:=c) (x:=x)
 rw [bH hx]at hin
 obtain⟨x0,x1⟩:=hx
 have c8:=sc.toShape.ob8
 have h1:=gM sc sd hc hd (.inl ⟨hy,rfl,rfl⟩)
 have hL:=hy.2.1
 have hA:=hy.2.2
 have hfl:FL c d (fcL c d):=FL.of_funX
 have hKb:=aC9 d hL hA
 have hfu:=pL (c:=fcK d (fcL c d)) (d:=d) (p:=qP (fcL c d) x (fcL c d).length) (q:=uB (fcA (fcL c d)) x (fcA (fcL c d)).length) hKb hd (by rw [qQ (Nat.le_refl _)];omega) (by rw [qO (Nat.le_refl _)];omega)
 obtain⟨L,hLd⟩:∃L,fcL c d=L:=⟨_,rfl⟩
 rw [hLd]at h1 hL hA hfl hKb hfu
 have eF:evF c d x=⟨fcK d L,d,qP L x L.length,uB (fcA L) x (fcA L).length⟩:=by unfold evF;rw [hLd]
 rw [eF]
 refine aD (E:=TE) 0 Tryz.func29 rfl (by simp [Tryz.f29]) fun X hn hX=>?_
 repeat'(first|(with_reducible first|refine St.f ?_|refine V_c ?_|refine And.intro ?_ ?_|refine aH ?_ ?_|refine aK ?_)|((refine aN ?_);intro K hK)|((with_reducible refine So.f ?_);intro K hK;simp(contextual:=true)only [go_sem,simprocAttr])|((with_reducible refine hK _ ?_);clear hK K)|((with_reducible refine aC 85 ?_);refine EvCall.rq (a:=(fK (by first|omega|assumption|rfl) (by first|omega|assumption|rfl))) (b:=gI) (c:=?_);all_goals try simp only [go_sem,simprocAttr])|((with_reducible refine aC 107 ?_);refine EvCall.mr (hin) mQ [] [] ?_)|((with_reducible refine aC 86 ?_);refine EvCall.mr (h1) iG [(0,3),(1,4),(2,5),(3,6),(4,7),(5,8)] [] ?_)|(refine fun(hc:(_:Bool)=_)=>?_;try simp only [hcS]at hc))
 all_goals try exact om_
 refine aG (G:={i:Nat//i≤L.length∧(True)}) (fun⟨i,_⟩=>[(12,iv i),(3, .ptr 0 0),(8, .ptr 9 0),(10, .sl 10),(11, .sl 11)]) [2,4,6,7] (fun⟨i,_⟩=>[(10,⟨1, .arr (ints (qP L x i))⟩),(11,⟨1, .arr (ints [])⟩)]) [10,11] (fun zz=>L.length-zz.1) ⟨0,Nat.zero_le _,by first|trivial|simp⟩ ?_ ?_
 ·exact Imp.au hX
 rintro⟨i,hii,hwi⟩
 simp only [go_sem,simprocAttr]
 have hol:=qQ (L:=L) (x:=x) hii
 rcases Nat.lt_or_ge i L.length with hli|hgi
 ·have hfo:=(hfl i hli).2.2.obl
  rw [(hfl i hli).1]at hfo
  have hat:(aS L).at (i*12+10)=ints (L.getD i default).obs:=aIg L i 10 hli (by decide)
  have e1:=aC6 (x:=x) hli
  repeat'(first|(rw [hat];simp only [go_sem,simprocAttr])|(with_reducible first|refine St.f ?_|refine V_c ?_|refine And.intro ?_ ?_|refine aH ?_ ?_|refine aK ?_)|((refine aN ?_);intro K hK)|((with_reducible refine So.f ?_);intro K hK;simp(contextual:=true)only [go_sem,simprocAttr])|((with_reducible refine hK _ ?_);clear hK K)|(refine fun(hc:(_:Bool)=_)=>?_;try simp only [hcS]at hc))
  all_goals try exact om_
  ·refine⟨⟨i+1,by omega,(by trivial)⟩,by simp only;omega,Imp.auto hX (by simp only [go_sem,simprocAttr,e1])⟩
 ·have ei:i=L.length:=by omega
  subst ei
  repeat'(first|(with_reducible first|refine St.f ?_|refine V_c ?_|refine And.intro ?_ ?_|refine aH ?_ ?_|refine aK ?_)|((refine aN ?_);intro K hK)|((with_reducible refine So.f ?_);intro K hK;simp(contextual:=true)only [go_sem,simprocAttr])|((with_reducible refine hK _ ?_);clear hK K)|(refine fun(hc:(_:Bool)=_)=>?_;try simp only [hcS]at hc))
  all_goals try exact om_
  refine aG (G:={a:Nat//a≤(fcA L).length∧(True)}) (fun⟨a,_⟩=>[(13,iv a),(3, .ptr 0 0),(8, .ptr 9 0),(10, .sl 10),(11, .sl 11)]) [2,4,6,7] (fun⟨a,_⟩=>[(10,⟨1, .arr (ints (qP L x L.length))⟩),(11,⟨1, .arr (ints (uB (fcA L) x a))⟩)]) [10,11] (fun zz=>(fcA L).length-zz.1) ⟨0,Nat.zero_le _,by first|trivial|simp⟩ ?_ ?_
  ·exact Imp.au hX
  rintro⟨a,hia,hwa⟩
  simp only [go_sem,simprocAttr]
  have hal:=qO (A:=fcA L) (x:=x) hia
  rcases Nat.lt_or_ge a (fcA L).length with hla|hga
  ·have hal2:=(hfl.arr (bI (d:=[]) hla)).len
   have e2:=aC5 (x:=x) hla
   repeat'(first|(with_reducible first|refine St.f ?_|refine V_c ?_|refine And.intro ?_ ?_|refine aH ?_ ?_|refine aK ?_)|((refine aN ?_);intro K hK)|((with_reducible refine So.f ?_);intro K hK;simp(contextual:=true)only [go_sem,simprocAttr])|((with_reducible refine hK _ ?_);clear hK K)|(refine fun(hc:(_:Bool)=_)=>?_;try simp only [hcS]at hc))
   all_goals try exact om_
   ·refine⟨⟨a+1,by omega,(by trivial)⟩,by simp only;omega,Imp.auto hX (by simp only [go_sem,simprocAttr,e2])⟩
  ·have ea:a=(fcA L).length:=by omega
   subst ea
   repeat'(first|(with_reducible first|refine St.f ?_|refine V_c ?_|refine And.intro ?_ ?_|refine aH ?_ ?_|refine aK ?_)|((refine aN ?_);intro K hK)|((with_reducible refine So.f ?_);intro K hK;simp(contextual:=true)only [go_sem,simprocAttr])|((with_reducible refine hK _ ?_);clear hK K)|((with_reducible refine aC 90 ?_);refine EvCall.mr (hfu) mD [(0,12),(1,13),(2,14),(3,15),(4,16),(5,17),(6,18),(7,19),(8,20),(9,21)] [3,4,5,6,10,11] ?_)|(refine fun(hc:(_:Bool)=_)=>?_;try simp only [hcS]at hc))
   all_goals try exact om_
   ·(first|refine aB ?_|refine aA ?_);simp only [go_sem,simprocAttr,Tryz.f29]
end Go.Eng
end
section
namespace Go.Eng
open Go Go.Proofs Go.Cats
def kO (p q:List Int):Lit:= .string (tC [p,q]).data.toList
def pmO (L:List Fun):Nat→DataW Unit
 |0=> .map []
 |i+1=>(pmO L i).put (kO (L.getD i default).obs (L.getD i default).ars) (.lit (.int .i64 i))
theorem aIv (L:List Fun):∀i,Go.Maps.IsMap (pmO L i)
 |0=>Go.Maps.isMap_empty
 |i+1=>(aIv L i).put _ _
theorem aMp (L:List Fun):pmO L 0= .map []:=rfl
theorem aQ2 {p q p' q':List Int} (hl:p.length=p'.length) (h1:∀x∈p,0≤x∧x<256) (h2:∀x∈q,0≤x∧x<256) (h3:∀x∈p',0≤x∧x<256) (h4:∀x∈q',0≤x∧x<256) (h:kO p q=kO p' q'):p=p'∧q=q':=by
 unfold kO at h
 simp only [Lit.string.injEq,tC,strOfNums_data,uF,List.flatMap_cons,List.flatMap_nil,List.append_nil]at h
 have hb:∀{a b:List Int},(∀x∈a,0≤x∧x<256)→(∀x∈b,0≤x∧x<256)→∀x∈a++[255]++(b++[255]),0≤x∧x<256:=fun ha hb x hx=>by
  rcases List.mem_append.1 hx with hx|hx
  ·rcases List.mem_append.1 hx with hx|hx
   ·exact ha x hx
   ·simp at hx;omega
  ·rcases List.mem_append.1 hx with hx|hx
   ·exact hb x hx
   ·simp at hx;omega
 have h5:p++[255]++(q++[255])=p'++[255]++(q'++[255]):=mX (hb h1 h2) (hb h3 h4) h
 have h6:=List.append_inj h5 (by simp [hl])
 exact⟨List.append_cancel_right h6.1,List.append_cancel_right h6.2⟩
theorem aT1 {p q:List Int} {s:ByteArray} (h:¬s=tC [p,q]):kO p q≠ .string s.data.toList:=fun e=>by
 unfold kO at e
 injection e with e
 exact h (Go.WideShapes.bytes_inj e.symm)
structure ObOK (L:List Fun) (p q:List Int) (i:Nat):Prop where
 n8:L.length≤8
 lt:i<L.length
 ol:∀j,j<L.length→(L.getD j default).obs.length=p.length
 ob:∀j,j<L.length→∀x∈(L.getD j default).obs,0≤x∧x<256
 ar:∀j,j<L.length→∀x∈(L.getD j default).ars,0≤x∧x<256
 al:∀j,j<L.length→(L.getD j default).ars.length≤64
 pl:p.length≤64
 po:(L.getD i default).obs=p
 qo:(L.getD i default).ars=q
 un:∀j,j<L.length→(L.getD j default).obs=p→(L.getD j default).ars=q→j=i
theorem aMo {L:List Fun} {p q:List Int} {i:Nat} (h:ObOK L p q i) (z:DataW Unit):∀{j:Nat},i<j→j≤L.length→(pmO L j).atKey (kO p q) z= .lit (.int .i64 i)
 |0,hj,_=>by omega
 |j+1,hij,hj=>by
  by_cases e:j=i
  ·subst e
   rw [pmO,h.po,h.qo]
   exact Go.Maps.atKey_put_same (aIv L j) (show Go.WideAt.IsKeyLit (.string _) by simp [Go.WideAt.IsKeyLit]) _ _
  ·rw [pmO,Go.Maps.atKey_put_other,aMo h z (by omega) (by omega)]
   intro hh
   have h1:=h.ob i h.lt
   have h2:=h.ar i h.lt
   rw [h.po]at h1
   rw [h.qo]at h2
   obtain⟨e1,e2⟩:=aQ2 (h.ol j (by omega)).symm h1 h2 (h.ob j (by omega)) (h.ar j (by omega)) hh
   exact e (h.un j (by omega) e1.symm e2.symm)
theorem aDj {p q:List Int} (hp:p.length≤64) (hq:q.length≤64):(tC [p,q]).size≤maxLen:=by
 unfold tC
 rw [strOfNums_size]
 simp only [uF,List.flatMap_cons,List.flatMap_nil,List.length_append,List.length_cons,List.length_nil]
 unfold maxLen;omega
theorem aBD {p q:List Int} (hp:p.length≤64) (hq:q.length≤64) (h1:∀x∈p,0≤x∧x<256) (h2:∀x∈q,0≤x∧x<256):Spec Tryz.prog 182 [.bor [] (aF [p,q])] [] (.v (.string (tC [p,q]))) []:=by
 refine aNo (ls:=[p,q]) (by simp) (fun i hi=>?_) fun i j hi hj=>?_
 ·have hi:i<2:=hi
  rcases i with _|_|i
  ·exact hp
  ·exact hq
  ·omega
 ·have hi:i<2:=hi
  rcases i with _|_|i
  ·exact h1 _ (aBk hj)
  ·exact h2 _ (aBk hj)
  ·omega
attribute [local go_sem] List.set_cons_zero List.set_cons_succ aMp
theorem kY:aE Tryz.prog 80:=⟨_,Tryz.func80,rfl,rfl⟩
theorem lY {a0 a1 a2 a3 a4 a6 a7:Dt} {L:List Fun} {p q:List Int} {i:Nat} (h:ObOK L p q i):Spec Tryz.prog 80 [.bptr [] [a0,a1,a2,a3,a4,aS L,a6,a7], .bor [] (ints p), .bor [] (ints q)] [] (iv i) []:=by
 refine aD (E:=TE) 0 Tryz.func80 rfl (by simp [Tryz.f80]) fun X hn hX=>?_
 have hn8:=h.n8
 have hpart:∀i,i<L.length→(aS L).part (i*12) 12=[.v (.int .i64 (L.getD i default).src.ob),ints (L.getD i default).src.fr,ints (L.getD i default).src.to,ints (L.getD i default).src.id,aF (L.getD i default).src.co, .v (.int .i64 (L.getD i default).tgt.ob),ints (L.getD i default).tgt.fr,ints (L.getD i default).tgt.to,ints (L.getD i default).tgt.id,aF (L.getD i default).tgt.co,ints (L.getD i default).obs,ints (L.getD i default).ars]:=fun i hi=>iK L i hi
 have hat:=aMo h (.lit (.int .i64 0)) h.lt (Nat.le_refl _)
 have hpp:=h.ob i h.lt
 have hqq:=h.ar i h.lt
 have hql:=h.al i h.lt
 rw [h.po]at hpp
 rw [h.qo]at hqq hql
 have hpq:=aBD h.pl hql hpp hqq
 have hks:=aDj h.pl hql
 repeat'(first|(with_reducible first|refine St.f ?_|refine V_c ?_|refine And.intro ?_ ?_|refine aH ?_ ?_|refine aK ?_)|((refine aN ?_);intro K hK)|((with_reducible refine So.f ?_);intro K hK;simp(contextual:=true)only [go_sem,simprocAttr])|((with_reducible refine hK _ ?_);clear hK K)|(refine wE (k:=9) (e:=2) (by simp only [go_sem,simprocAttr]) ?_;simp only [go_sem,simprocAttr])|(refine fun(hc:(_:Bool)=_)=>?_;try simp only [hcS]at hc))
 all_goals try exact om_
 refine aG (G:={j:Nat//j≤L.length∧(True)}) (fun⟨j,_⟩=>[(18,iv j),(7, .sl 0)]) [1,2,6,16,17] (fun⟨j,_⟩=>[(0,⟨1, .arr (mapD Tryz.prog 9 2 j (pmO L j))⟩)]) [0] (fun zz=>L.length-zz.1) ⟨0,Nat.zero_le _,by first|trivial|simp⟩ ?_ ?_
 ·exact Imp.au hX
 rintro⟨j,hij,hwj⟩
 simp only [go_sem,simprocAttr]
 rcases Nat.lt_or_ge j L.length with hlj|hgj
 ·have hpj:=hpart j hlj
  have hpl:(L.getD j default).obs.length≤64:=by rw [h.ol j hlj];exact h.pl
  have hkj:=aBD hpl (h.al j hlj) (h.ob j hlj) (h.ar j hlj)
  have hkz:=aDj hpl (h.al j hlj)
  have e9:pmO L (j+1)=(pmO L j).put (.string (tC [(L.getD j default).obs,(L.getD j default).ars]).data.toList) (.lit (.int .i64 j)):=rfl
  repeat'(first|(rw [hpj];simp only [go_sem,simprocAttr])|(with_reducible first|refine St.f ?_|refine V_c ?_|refine And.intro ?_ ?_|refine aH ?_ ?_|refine aK ?_)|((refine aN ?_);intro K hK)|((with_reducible refine So.f ?_);intro K hK;simp(contextual:=true)only [go_sem,simprocAttr])|((with_reducible refine hK _ ?_);clear hK K)|((with_reducible refine(id ?_:EvCall _ _ [.bsl 2 2] _ _));refine EvCall.mr (hkj) aAv [] [2] ?_)|(refine qU (i:=0) (cv:=1) (n:=j) (z:=(j:Int)) (D:=pmO L j) aJF rfl (by simp only [go_sem,simprocAttr]) (by simp only [go_sem,simprocAttr]) (by simp only [go_sem,simprocAttr]) hkz (by simp only [go_sem,simprocAttr]) ⟨by omega,by omega⟩ (by unfold maxLen;omega) ?_;simp only [go_sem,simprocAttr])|(refine fun(hc:(_:Bool)=_)=>?_;try simp only [hcS]at hc))
  all_goals try exact om_
  ·refine⟨⟨j+1,by omega,(by trivial)⟩,by simp only;omega,Imp.auto hX (by simp only [go_sem,simprocAttr,e9])⟩
 ·have ej:j=L.length:=by omega
  subst ej
  repeat'(first|(refine bU 8 (Imp.drop 1 (Nat.le_refl 1)) ?_;refine aNX 7 0 1 rfl rfl (Nat.le_refl 1) fun mv=>?_;simp only [go_sem,simprocAttr])|(with_reducible first|refine St.f ?_|refine V_c ?_|refine And.intro ?_ ?_|refine aH ?_ ?_|refine aK ?_)|((refine aN ?_);intro K hK)|((with_reducible refine So.f ?_);intro K hK;simp(contextual:=true)only [go_sem,simprocAttr])|((with_reducible refine hK _ ?_);clear hK K)|((with_reducible refine(id ?_:EvCall _ _ [.bsl 1 2] _ _));refine EvCall.mr (hpq) aAv [] [1] ?_)|(refine aHa (i:=0) (cv:=2) (k:=9) (e:=2) (n:=L.length) (D:=pmO L L.length) (mv:=mv) (W:=kO p q) (z:=(i:Int)) (m:=Go.Maps.size (pmO L L.length)) aJF (by simp only [go_sem,simprocAttr]) (by simp only [go_sem,simprocAttr]) (by simp only [go_sem,simprocAttr]) (show(2:Nat)≠0 by decide) hat (Nat.le_refl _) ?_;simp only [go_sem,simprocAttr])|(refine fun(hc:(_:Bool)=_)=>?_;try simp only [hcS]at hc))
  all_goals try exact om_
  have hWk:kO p q= .string (tC [p,q]).data.toList:=rfl
  refine aG (G:=Nat) (fun m=>[(37, .sl 2),(7, .v mv)]) [6,10] (fun m=>[(0,⟨2, .gone⟩),(1,⟨2, .gone⟩),(2,⟨1, .arr (.ab (tE Tryz.prog 9 2 L.length mv (kO p q) (i:Int) (·≤m)))⟩)]) [0,1,2] (fun m=>m) (Go.Maps.size (pmO L L.length)) ?_ ?_
  ·exact Imp.sub hX [(0,0),(1,1),(2,2)] (by simp [go_sem,simprocAttr])
  intro m
  simp only [go_sem,simprocAttr]
  refine aNZ 2 1 m rfl (Nat.le_refl 1) ?_ ?_
  ·repeat'(first|(with_reducible first|refine St.f ?_|refine V_c ?_|refine And.intro ?_ ?_|refine aH ?_ ?_|refine aK ?_)|((refine aN ?_);intro K hK)|((with_reducible refine So.f ?_);intro K hK;simp(contextual:=true)only [go_sem,simprocAttr])|((with_reducible refine hK _ ?_);clear hK K)|(refine aG8 (j:=2) (cv:=2) (k:=9) (e:=2) (n:=L.length) (mv:=mv) (W:=kO p q) (z:=(i:Int)) (φ:=(· =0)) (by simp only [go_sem,simprocAttr]) (by simp only [go_sem,simprocAttr]) Tryz.underlying9 (fun c h=>h) ?_;simp only [go_sem,simprocAttr])|(refine aCs (j:=2) (cv:=2) (k:=9) (e:=2) (n:=L.length) (mv:=mv) (W:=kO p q) (z:=(i:Int)) (φ:=(· =0)) aJF (by simp only [go_sem,simprocAttr]) (by simp only [go_sem,simprocAttr]) hks (by simp only [go_sem,simprocAttr]) hWk ?_ (by decide);simp only [go_sem,simprocAttr])|(refine fun(hc:(_:Bool)=_)=>?_;try simp only [hcS]at hc))
   all_goals try exact om_
   ·(first|refine aB ?_|refine aA ?_);simp only [go_sem,simprocAttr,Tryz.f80]
  ·intro m' hm
   subst hm
   repeat'(first|(refine(id ?_:V _ _ (Code.region 10 _ _) _ _);refine aNY 2 3 m' rfl (by decide) fun s hs=>?_)|((refine aIX (id:=11) (by rw [hn];rfl) ?_);intro K hK)|(refine aLl ?_;intro K hK;refine HkX.nes (a:=s) (b:=tC [p,q]) Tryz.underlying9 (by simp only [go_sem,simprocAttr]) (by simp only [go_sem,simprocAttr]) ?_;simp only [go_sem,simprocAttr])|((with_reducible refine aLm ?_);intro K hK;simp(contextual:=true)only [go_sem,simprocAttr])|(with_reducible refine aGV ?_)|(with_reducible first|refine St.f ?_|refine V_c ?_|refine And.intro ?_ ?_|refine aH ?_ ?_|refine aK ?_)|((refine aN ?_);intro K hK)|((with_reducible refine So.f ?_);intro K hK;simp(contextual:=true)only [go_sem,simprocAttr])|((with_reducible refine hK _ ?_);clear hK K)|(refine aG9 (j:=2) (cv:=2) (m:=m') (k:=9) (e:=2) (n:=L.length) (mv:=mv) (W:=kO p q) (z:=(i:Int)) (φ:=fun c=>1≤c∧c≤m'+1) (by simp only [go_sem,simprocAttr]) (by simp only [go_sem,simprocAttr]) Tryz.underlying9 (fun c h=>h) ?_;simp only [go_sem,simprocAttr])|(refine aG7 (s:=s) (j:=2) (cv:=4) (m:=m') (k:=9) (e:=2) (n:=L.length) (mv:=mv) (W:=kO p q) (z:=(i:Int)) (by simp only [go_sem,simprocAttr]) (by simp only [go_sem,simprocAttr]) ?_;simp only [go_sem,simprocAttr])|(refine aFw (s:=s) (j:=2) (cv:=5) (m:=m') (k:=9) (e:=2) (n:=L.length) (mv:=mv) (W:=kO p q) (z:=(i:Int)) aJF (by simp only [go_sem,simprocAttr]) (by simp only [go_sem,simprocAttr]) hs (by simp only [go_sem,simprocAttr]) (by decide) (aT1 (by assumption)) ?_;simp only [go_sem,simprocAttr])|(refine fun(hc:(_:Bool)=_)=>?_;try simp only [hcS]at hc))
   all_goals try exact om_
   all_goals exact⟨m',Nat.lt_succ_self _,Imp.sub hX [(0,0),(1,1),(2,2)] (by simp [go_sem,simprocAttr])⟩
theorem aCo:aE Tryz.prog 87:=⟨_,Tryz.func87,rfl,rfl⟩
theorem aEA {ob:Int} {fr to id:List Int} {co A:List (List Int)} {L:List Fun} {g:Fun} {i:Nat} (h:ObOK L g.obs g.ars i) (hq:g.ars.length≤64):Spec Tryz.prog 87 [.agg [iv ob, .bor [] (ints fr), .bor [] (ints to), .bor [] (ints id), .bor [] (aF co), .bor [] (aS L), .bor [] (aF A)],qS g] [] (iv i) []:=by
 refine aD (E:=TE) 0 Tryz.func87 rfl (by simp [Tryz.f87]) fun X hn hX=>?_
 have hn8:=h.n8
 have hpl:=h.pl
 repeat'(first|refine wkQ ?_|refine Tw.f ?_ ?_|(refine fun(hc:(_:Bool)=_)=>?_;try simp only [hcS]at hc))
 all_goals try exact om_
 refine aG (G:={j:Nat//j≤L.length∧(j≤i)}) (fun⟨j,_⟩=>[(5,iv j)]) [2,3] (fun⟨j,_⟩=>[]) [] (fun zz=>L.length-zz.1) ⟨0,Nat.zero_le _,by exact Nat.zero_le _⟩ ?_ ?_
 ·exact Imp.au hX
 rintro⟨j,hij,hwj⟩
 simp only [go_sem,simprocAttr]
 rcases Nat.lt_or_ge j L.length with hlj|hgj
 ·have hpj:(aS L).part (j*12) 12=[.v (.int .i64 (L.getD j default).src.ob),ints (L.getD j default).src.fr,ints (L.getD j default).src.to,ints (L.getD j default).src.id,aF (L.getD j default).src.co, .v (.int .i64 (L.getD j default).tgt.ob),ints (L.getD j default).tgt.fr,ints (L.getD j default).tgt.to,ints (L.getD j default).tgt.id,aF (L.getD j default).tgt.co,ints (L.getD j default).obs,ints (L.getD j default).ars]:=iK L j hlj
  have ol:=h.ol j hlj
  have al:=h.al j hlj
  have hun:=h.un j hlj
  have hpo:=h.po
  have hqo:=h.qo
  by_cases hji:j=i
  ·subst hji
   rw [hpo,hqo]at hpj
   repeat'(first|(rw [hpj];simp only [go_sem,simprocAttr])|(with_reducible first|refine St.f ?_|refine V_c ?_|refine eDn ?_|refine And.intro ?_ ?_|refine aH ?_ ?_|refine aK ?_)|((refine aN ?_);intro K hK)|((with_reducible refine So.f ?_);intro K hK;simp(contextual:=true)only [go_sem,simprocAttr])|((with_reducible refine hK _ ?_);clear hK K)|((with_reducible refine aC 144 ?_);refine EvCall.rr (pG ?_ ?_) iE ?_)|(refine fun(hc:(_:Bool)=_)=>?_;try simp only [hcS]at hc))
   all_goals try exact om_
   ·(first|refine aB ?_|refine aA ?_);simp only [go_sem,simprocAttr,Tryz.f87]
  ·repeat'(first|(rw [hpj];simp only [go_sem,simprocAttr])|(with_reducible first|refine St.f ?_|refine V_c ?_|refine eDn ?_|refine And.intro ?_ ?_|refine aH ?_ ?_|refine aK ?_)|((refine aN ?_);intro K hK)|((with_reducible refine So.f ?_);intro K hK;simp(contextual:=true)only [go_sem,simprocAttr])|((with_reducible refine hK _ ?_);clear hK K)|((with_reducible refine aC 144 ?_);refine EvCall.rr (pG ?_ ?_) iE ?_)|(refine fun(hc:(_:Bool)=_)=>?_;try simp only [hcS]at hc))
   all_goals try exact om_
   ·exact absurd (hun (by assumption) (by assumption)) hji
   ·refine⟨⟨j+1,by omega,(by omega)⟩,by simp only;omega,Imp.ao hX⟩
   ·refine⟨⟨j+1,by omega,(by omega)⟩,by simp only;omega,Imp.ao hX⟩
 ·exfalso
  have:=h.lt
  omega
end Go.Eng
end
section
namespace Go.Eng
open Go Go.Proofs Go.Cats
open Classical in
noncomputable def aLo (L:List Fun) (p q:List Int):Nat:=if h:∃i,i<L.length∧(L.getD i default).obs=p∧(L.getD i default).ars=q then h.choose else 0
theorem aTA {c d:Cat} {p q:List Int} (sc:Shape c) (sd:Shape d) (hL:(fcL c d).length≤8) (hf:Fits ⟨c,d,p,q⟩):ObOK (fcL c d) p q (aLo (fcL c d) p q):=by
 have hfl:FL c d (fcL c d):=FL.of_funX
 have o1:(p.length:Int)=c.ob:=hf.obl
 have o2:q.length=c.fr.length:=hf.arl
 have o3:Within p d.ob:=hf.obw
 have o4:Within q d.fr.length:=hf.arw
 have c8:=sc.ob8
 have c40:=sc.m40
 have d8:=sd.ob8
 have d40:=sd.m40
 have hm:(⟨c,d,p,q⟩:Fun)∈fcL c d:=aFp (WA_iff.2 ⟨hf,fun h=>by cases h⟩) o3 o2 o4 _ [] rfl (by simp;omega)
 obtain⟨k,hk,ek⟩:=qX (d:=default) hm
 have hex:∃i,i<(fcL c d).length∧((fcL c d).getD i default).obs=p∧((fcL c d).getD i default).ars=q:=⟨k,hk,by rw [ek],by rw [ek]⟩
 have hch:aLo (fcL c d) p q=hex.choose:=by unfold aLo;rw [dif_pos hex]
 have hsp:=hex.choose_spec
 rw [←hch]at hsp
 obtain⟨h1,h2,h3⟩:=hsp
 have hob:=fun j (hj:j<(fcL c d).length)=>(hfl j hj).2.2
 refine⟨hL,h1,fun j hj=>?_,fun j hj x hx=>?_,fun j hj x hx=>?_,fun j hj=>?_,by omega,h2,h3,fun j hj e1 e2=>?_⟩
 ·have:=(hob j hj).obl
  rw [(hfl j hj).1]at this
  omega
 ·have:=(hob j hj).obw.mem hx
  rw [(hfl j hj).2.1]at this
  omega
 ·have:=(hob j hj).arw.mem hx
  rw [(hfl j hj).2.1]at this
  omega
 ·have:=(hob j hj).arl
  rw [(hfl j hj).1]at this
  omega
 ·refine aMb (aBd _ _) hj h1 (x:=default) ?_
  have a:=Fun.eta (hfl j hj).1 (hfl j hj).2.1
  have b:=Fun.eta (hfl _ h1).1 (hfl _ h1).2.1
  show(fcL c d).getD j default=(fcL c d).getD (aLo (fcL c d) p q) default
  rw [←a,←b,e1,e2,h2,h3]
theorem aGR {c d:Cat} (sc:IsCat c) (sd:IsCat d) {y:Nat} (hy:(y:Int)<d.ob):Fits ⟨c,d,List.replicate c.ob.toNat (y:Int),List.replicate c.fr.length (d.id.getD y 0)⟩:=by
 have c0:=sc.toShape.ob0
 have dil:=sd.toShape.idl
 have hy2:y<d.id.length:=by omega
 have i1:=sd.toShape.idw y hy2
 have i2:=sd.toShape.ide y hy2
 have ro:∀x:Int,0≤x→x<c.ob→(List.replicate c.ob.toNat (y:Int)).getD x.toNat 0=y:=fun x h0 h1=>by
  rw [List.getD_eq_getElem?_getD,List.getElem?_replicate,if_pos (by omega)];rfl
 have ra:∀x:Nat,x<c.fr.length→(List.replicate c.fr.length (d.id.getD y 0)).getD x 0=d.id.getD y 0:=fun x h1=>by
  rw [List.getD_eq_getElem?_getD,List.getElem?_replicate,if_pos h1];rfl
 refine⟨?_,?_,fun x hx=>?_,fun x hx=>?_,fun a ha=>?_,fun x hx=>?_,fun a b ha hb h0=>?_⟩
 ·show((List.replicate c.ob.toNat (y:Int)).length:Int)=c.ob;rw [List.length_replicate];omega
 ·show(List.replicate c.fr.length (d.id.getD y 0)).length=c.fr.length;rw [List.length_replicate]
 ·have hx:x<c.ob.toNat:=by have:x<(List.replicate c.ob.toNat (y:Int)).length:=hx;rwa [List.length_replicate]at this
  show 0≤(List.replicate c.ob.toNat (y:Int)).getD x 0∧(List.replicate c.ob.toNat (y:Int)).getD x 0<d.ob
  rw [List.getD_eq_getElem?_getD,List.getElem?_replicate,if_pos hx]
  exact⟨by simp,by simpa using hy⟩
 ·have hx:x<c.fr.length:=by have:x<(List.replicate c.fr.length (d.id.getD y 0)).length:=hx;rwa [List.length_replicate]at this
  show 0≤(List.replicate c.fr.length (d.id.getD y 0)).getD x 0∧(List.replicate c.fr.length (d.id.getD y 0)).getD x 0<d.fr.length
  rw [ra x hx];exact i1
 ·have ha:a<c.fr.length:=by have:a<(List.replicate c.fr.length (d.id.getD y 0)).length:=ha;rwa [List.length_replicate]at this
  have f1:=sc.toShape.frw a ha
  have f2:=sc.toShape.tow a (by rw [sc.toShape.tol];exact ha)
  show d.F ((List.replicate c.fr.length (d.id.getD y 0)).getD a 0)=(List.replicate c.ob.toNat (y:Int)).getD (c.F (a:Int)).toNat 0∧d.T ((List.replicate c.fr.length (d.id.getD y 0)).getD a 0)=(List.replicate c.ob.toNat (y:Int)).getD (c.T (a:Int)).toNat 0
  rw [ra a ha,ro _ (by simpa [Cat.F]using f1.1) (by simpa [Cat.F]using f1.2),ro _ (by simpa [Cat.T]using f2.1) (by simpa [Cat.T]using f2.2)]
  exact i2
 ·have hx:x<c.id.length:=hx
  have j1:=sc.toShape.idw x hx
  have cil:=sc.toShape.idl
  show(List.replicate c.fr.length (d.id.getD y 0)).getD (c.id.getD x 0).toNat 0=d.id.getD ((List.replicate c.ob.toNat (y:Int)).getD ((x:Int)).toNat 0).toNat 0
  rw [ra _ (by omega),ro _ (by omega) (by omega),Int.toNat_natCast]
 ·have ha:a<c.fr.length:=ha
  have hb:b<c.fr.length:=hb
  have h0:0≤c.C a b:=h0
  have hc:c.C a b<c.fr.length:=by
   have:=(sc.toShape.coe a ha).2 b hb
   unfold Cat.Entry at this
   rcases this with⟨_,h,_⟩|⟨_,h⟩
   ·exact h.2
   ·omega
  show(List.replicate c.fr.length (d.id.getD y 0)).getD (c.C a b).toNat 0=d.C ((List.replicate c.fr.length (d.id.getD y 0)).getD ((a:Int)).toNat 0) ((List.replicate c.fr.length (d.id.getD y 0)).getD ((b:Int)).toNat 0)
  rw [ra _ (by omega),Int.toNat_natCast,Int.toNat_natCast,ra _ ha,ra _ hb]
  have:=sd.unl (d.id.getD y 0).toNat (by omega)
  rw [Int.toNat_of_nonneg i1.1,i2.1]at this
  have e:d.I (y:Int)=d.id.getD y 0:=by show d.id.getD ((y:Int)).toNat 0=_;rw [Int.toNat_natCast]
  rw [e]at this
  exact this.symm
end Go.Eng
end
section
namespace Go.Eng
open Go Go.Proofs Go.Cats
def cnO (c:Cat) (y:Nat):List Int:=List.replicate c.ob.toNat (y:Int)
def cnA (c d:Cat) (y:Nat):List Int:=List.replicate c.fr.length (d.id.getD y 0)
noncomputable def cnI (c d:Cat) (y:Nat):Nat:=aLo (fcL c d) (cnO c y) (cnA c d y)
noncomputable def diO (c d:Cat) (y:Nat):List Int:=(List.range y).map fun y=>(cnI c d y:Int)
noncomputable def diK (c d:Cat) (a:Nat):List Int:=(cnI c d (d.fr.getD a 0).toNat:Int)::(cnI c d (d.to.getD a 0).toNat:Int)::List.replicate c.ob.toNat (a:Int)
noncomputable def diA (c d:Cat) (a:Nat):List Int:=(List.range a).map fun a=>fnd (fcA (fcL c d)) (diK c d a)
noncomputable def diF (c d:Cat):Fun:=⟨d,fcK d (fcL c d),diO c d d.ob.toNat,diA c d d.fr.length⟩
section
variable {c d:Cat} {y a:Nat}
theorem aLf (c d):diO c d 0=[]:=rfl
theorem aLe (c d):diA c d 0=[]:=rfl
theorem iT:(diO c d y).length=y:=by unfold diO;rw [List.length_map,List.length_range]
theorem iS:(diA c d a).length=a:=by unfold diA;rw [List.length_map,List.length_range]
theorem aFf:diO c d (y+1)=diO c d y++[(cnI c d y:Int)]:=by unfold diO;rw [List.range_succ,List.map_append,List.map_singleton]
theorem aFe:diA c d (a+1)=diA c d a++[fnd (fcA (fcL c d)) (diK c d a)]:=by unfold diA;rw [List.range_succ,List.map_append,List.map_singleton]
theorem qM {n:Nat} (h:y<n):(diO c d n).getD y 0=(cnI c d y:Int):=by
 unfold diO;rw [List.getD_eq_getElem?_getD,List.getElem?_map,List.getElem?_range h];rfl
theorem aCR (sc:IsCat c) (sd:IsCat d) (hL:(fcL c d).length≤8) (hy:(y:Int)<d.ob):ObOK (fcL c d) (cnO c y) (cnA c d y) (cnI c d y):=aTA sc.toShape sd.toShape hL (aGR sc sd hy)
theorem aH7 (sc:IsCat c) (sd:IsCat d) (hL:(fcL c d).length≤8) (ha:a<d.fr.length):diK c d a∈fcA (fcL c d):=by
 have c0:=sc.toShape.ob0
 have f1:=sd.toShape.frw a ha
 have f2:=sd.toShape.tow a (by rw [sd.toShape.tol];exact ha)
 have o1:=aCR (y:=(d.fr.getD a 0).toNat) sc sd hL (by omega)
 have o2:=aCR (y:=(d.to.getD a 0).toNat) sc sd hL (by omega)
 have hfl:FL c d (fcL c d):=FL.of_funX
 refine mem_fcA.2 ⟨_,_,_,o1.lt,o2.lt,?_,rfl⟩
 obtain⟨g1,g2,g3⟩:=hfl _ o1.lt
 obtain⟨k1,k2,k3⟩:=hfl _ o2.lt
 have ea:(a:Int)∈d.hom (d.fr.getD a 0) (d.to.getD a 0):=Cat.mem_hom.2 ⟨by omega,by omega,by simp [Cat.F],by simp [Cat.T]⟩
 have ro:∀(z:Int) (x:Nat),x<c.ob.toNat→(List.replicate c.ob.toNat z).getD x 0=z:=fun z x h1=>by
  rw [List.getD_eq_getElem?_getD,List.getElem?_replicate,if_pos h1];rfl
 have ra:∀(z:Int) (x:Nat),x<c.fr.length→(List.replicate c.fr.length z).getD x 0=z:=fun z x h1=>by
  rw [List.getD_eq_getElem?_getD,List.getElem?_replicate,if_pos h1];rfl
 refine mem_natA.2 ⟨by rw [List.length_replicate,g1],fun x hx=>?_,fun b hb=>?_⟩
 ·rw [List.length_replicate]at hx
  rw [g2,o1.po,o2.po]
  unfold cnO
  rw [ro _ _ hx,ro _ _ hx,ro _ _ hx,Int.toNat_of_nonneg f1.1,Int.toNat_of_nonneg f2.1]
  exact ea
 ·rw [g1]at hb
  have b1:=sc.toShape.frw b hb
  have b2:=sc.toShape.tow b (by rw [sc.toShape.tol];exact hb)
  unfold SqP
  rw [g1,g2,o1.qo,o2.qo]
  unfold cnA
  rw [ra _ _ hb,ra _ _ hb,ro _ _ (by omega),ro _ _ (by omega)]
  have u1:=sd.unl a ha
  have u2:=sd.unr a ha
  have e1:d.I (d.F (a:Int))=d.id.getD (d.fr.getD a 0).toNat 0:=by simp [Cat.I,Cat.F]
  have e2:d.I (d.T (a:Int))=d.id.getD (d.to.getD a 0).toNat 0:=by simp [Cat.I,Cat.T]
  rw [e1]at u1
  rw [e2]at u2
  rw [u1,u2]
end
def DiOut (c d:Cat) (g:Fun) (code:Int):Prop:=
 (¬(IsCat c∧IsCat d)∧g=nilF∧code=1)∨(IsCat c∧IsCat d∧((¬FcY c d∧g=nilF∧code=3)∨(FcY c d∧g=diF c d∧code=0)))
theorem DiOut.ex (c d:Cat):∃g code,DiOut c d g code:=by
 by_cases h:IsCat c∧IsCat d
 ·by_cases h3:FcY c d
  ·exact⟨_,_, .inr ⟨h.1,h.2, .inr ⟨h3,rfl,rfl⟩⟩⟩
  ·exact⟨_,_, .inr ⟨h.1,h.2, .inl ⟨h3,rfl,rfl⟩⟩⟩
 ·exact⟨_,_, .inl ⟨h,rfl,rfl⟩⟩
theorem aTq {c d:Cat} (sd:Shape d) (hd:CatB d) (hy:FcY c d):FunB (diF c d):=by
 have d8:=sd.ob8
 have m40:=sd.m40
 refine⟨hd,aC9 d hy.2.1 hy.2.2,?_,?_⟩
 ·show(diO _ _ _).length≤1048576;rw [iT];omega
 ·show(diA _ _ _).length≤1048576;rw [iS];omega
attribute [local go_sem] List.set_cons_zero List.set_cons_succ aLf aLe
theorem gN:aE Tryz.prog 14:=⟨_,Tryz.func14,rfl,rfl⟩
theorem pC {c d:Cat} (hc:CatB c) (hd:CatB d) (h:¬(IsCat c∧IsCat d)):Spec Tryz.prog 14 [bK c,bK d] [] (.tup [.agg [iv 0, .v (.slice none 0 0), .v (.slice none 0 0), .v (.slice none 0 0), .v (.slice none 0 0),iv 0, .v (.slice none 0 0), .v (.slice none 0 0), .v (.slice none 0 0), .v (.slice none 0 0), .v (.slice none 0 0), .v (.slice none 0 0)],iv 1]) []:=by
 have v1:=eD h
 refine aD (E:=TE) 0 Tryz.func14 rfl (by simp [Tryz.f14]) fun X hn hX=>?_
 repeat'(first|(refine bU 1 (Imp.trans (Imp.lendCat 2 0 1 c rfl rfl (Nat.le_refl 1)) (Imp.lendCat 3 1 1 d rfl rfl (Nat.le_refl 1))) ?_;simp only [go_sem,simprocAttr])|(exact absurd (by assumption) h)|(with_reducible first|refine St.f ?_|refine V_c ?_|refine eDn ?_|refine And.intro ?_ ?_|refine aH ?_ ?_|refine aK ?_)|((refine aN ?_);intro K hK)|((with_reducible refine So.f ?_);intro K hK;simp(contextual:=true)only [go_sem,simprocAttr])|((with_reducible refine hK _ ?_);clear hK K)|((with_reducible refine aC 78 ?_);refine EvCall.rq (a:=(bA (by first|omega|assumption|rfl) (by first|omega|assumption|rfl))) (b:=bB) (c:=?_);all_goals try simp only [go_sem,simprocAttr])|(refine fun(hc:(_:Bool)=_)=>?_;try simp only [hcS]at hc))
 all_goals try exact om_
 all_goals((first|refine aB ?_|refine aA ?_);simp only [go_sem,simprocAttr,Tryz.f14])
theorem qD {c d:Cat} (hc:CatB c) (hd:CatB d) (sc:IsCat c) (sd:IsCat d) (h:¬FcY c d):Spec Tryz.prog 14 [bK c,bK d] [] (.tup [.agg [iv 0, .v (.slice none 0 0), .v (.slice none 0 0), .v (.slice none 0 0), .v (.slice none 0 0),iv 0, .v (.slice none 0 0), .v (.slice none 0 0), .v (.slice none 0 0), .v (.slice none 0 0), .v (.slice none 0 0), .v (.slice none 0 0)],iv 3]) []:=by
 have v1:=bH (And.intro sc sd)
 have h1:=gR sc sd hc hd (.inr ⟨h,rfl,rfl⟩)
 refine aD (E:=TE) 0 Tryz.func14 rfl (by simp [Tryz.f14]) fun X hn hX=>?_
 repeat'(first|(refine bU 1 (Imp.trans (Imp.lendCat 2 0 1 c rfl rfl (Nat.le_refl 1)) (Imp.lendCat 3 1 1 d rfl rfl (Nat.le_refl 1))) ?_;simp only [go_sem,simprocAttr])|(exact absurd (And.intro sc sd) (by assumption))|(with_reducible first|refine St.f ?_|refine V_c ?_|refine eDn ?_|refine And.intro ?_ ?_|refine aH ?_ ?_|refine aK ?_)|((refine aN ?_);intro K hK)|((with_reducible refine So.f ?_);intro K hK;simp(contextual:=true)only [go_sem,simprocAttr])|((with_reducible refine hK _ ?_);clear hK K)|((with_reducible refine aC 78 ?_);refine EvCall.rq (a:=(bA (by first|omega|assumption|rfl) (by first|omega|assumption|rfl))) (b:=bB) (c:=?_);all_goals try simp only [go_sem,simprocAttr])|((with_reducible refine aC 79 ?_);refine EvCall.mr (h1) iP [] [0,1] ?_)|(refine fun(hc:(_:Bool)=_)=>?_;try simp only [hcS]at hc))
 all_goals try exact om_
 all_goals((first|refine aB ?_|refine aA ?_);simp only [go_sem,simprocAttr,Tryz.f14])
theorem pD {c d:Cat} (hc:CatB c) (hd:CatB d) (sc:IsCat c) (sd:IsCat d) (hy:FcY c d):Spec Tryz.prog 14 [bK c,bK d] [] (.tup [.agg [iv (diF c d).src.ob, .sl 0, .sl 1, .sl 2, .sl 3,iv (diF c d).tgt.ob, .sl 4, .sl 5, .sl 6, .sl 7, .sl 8, .sl 9],iv 0]) [(0,⟨1, .arr (ints (diF c d).src.fr)⟩),(1,⟨1, .arr (ints (diF c d).src.to)⟩),(2,⟨1, .arr (ints (diF c d).src.id)⟩),(3,⟨1, .arr (aF (diF c d).src.co)⟩),(4,⟨1, .arr (ints (diF c d).tgt.fr)⟩),(5,⟨1, .arr (ints (diF c d).tgt.to)⟩),(6,⟨1, .arr (ints (diF c d).tgt.id)⟩),(7,⟨1, .arr (aF (diF c d).tgt.co)⟩),(8,⟨1, .arr (ints (diF c d).obs)⟩),(9,⟨1, .arr (ints (diF c d).ars)⟩)]:=by
 have v1:=bH (And.intro sc sd)
 have c0:=sc.toShape.ob0
 have c8:=sc.toShape.ob8
 have c40:=sc.toShape.m40
 have d0:=sd.toShape.ob0
 have d8:=sd.toShape.ob8
 have d40:=sd.toShape.m40
 have dtl:=sd.toShape.tol
 have dil:=sd.toShape.idl
 have h1:=gR sc sd hc hd (.inl ⟨hy,rfl,rfl⟩)
 have hL:=hy.2.1
 have hA:=hy.2.2
 have hfl:FL c d (fcL c d):=FL.of_funX
 have hKb:=aC9 d hL hA
 have hk:=aD8 hfl hL sd.toShape
 have hfu:=lO (c:=d) (d:=fcK d (fcL c d)) (p:=diO c d d.ob.toNat) (q:=diA c d d.fr.length) hd hKb (by rw [iT];omega) (by rw [iS];omega)
 have hrc:=mL (n:=c.ob) (x:=0) c0 (by omega)
 have eF:diF c d=⟨d,fcK d (fcL c d),diO c d d.ob.toNat,diA c d d.fr.length⟩:=rfl
 rw [eF]
 refine aD (E:=TE) 0 Tryz.func14 rfl (by simp [Tryz.f14]) fun X hn hX=>?_
 repeat'(first|(refine bU 1 (Imp.trans (Imp.lendCat 2 0 1 c rfl rfl (Nat.le_refl 1)) (Imp.lendCat 3 1 1 d rfl rfl (Nat.le_refl 1))) ?_;simp only [go_sem,simprocAttr])|(exact absurd (And.intro sc sd) (by assumption))|(with_reducible first|refine St.f ?_|refine V_c ?_|refine eDn ?_|refine And.intro ?_ ?_|refine aH ?_ ?_|refine aK ?_)|((refine aN ?_);intro K hK)|((with_reducible refine So.f ?_);intro K hK;simp(contextual:=true)only [go_sem,simprocAttr])|((with_reducible refine hK _ ?_);clear hK K)|((with_reducible refine aC 78 ?_);refine EvCall.rq (a:=(bA (by first|omega|assumption|rfl) (by first|omega|assumption|rfl))) (b:=bB) (c:=?_);all_goals try simp only [go_sem,simprocAttr])|((with_reducible refine aC 79 ?_);refine EvCall.mr (h1) iP [(0,4),(1,5),(2,6),(3,7),(4,8),(5,9),(6,10),(7,11)] [0,1] ?_)|(refine fun(hc:(_:Bool)=_)=>?_;try simp only [hcS]at hc))
 all_goals try exact om_
 refine aG (G:={y:Nat//y≤d.ob.toNat∧(True)}) (fun⟨y,_⟩=>[(10,iv y),(6, .ptr 4 0),(8, .sl 12),(9, .sl 13),(12, .bsl 3 2)]) [2,3,4,5] (fun⟨y,_⟩=>[(12,⟨1, .arr (ints (diO c d y))⟩),(13,⟨1, .arr (ints [])⟩)]) [12,13] (fun zz=>d.ob.toNat-zz.1) ⟨0,Nat.zero_le _,by first|trivial|simp⟩ ?_ ?_
 ·exact Imp.au hX
 rintro⟨y,hiy,hwy⟩
 simp only [go_sem,simprocAttr]
 have hol:=iT (c:=c) (d:=d) (y:=y)
 rcases Nat.lt_or_ge y d.ob.toNat with hly|hgy
 ·have hob:=aCR (y:=y) sc sd hL (by omega)
  have r1:=mL (x:=(y:Int)) (n:=c.ob) c0 (by omega)
  have r2:=mL (x:=d.id.getD y 0) (n:=(c.fr.length:Int)) (by omega) (by omega)
  rw [Int.toNat_natCast]at r2
  rw [show List.replicate c.ob.toNat (y:Int)=cnO c y from rfl]at r1
  rw [show List.replicate c.fr.length (d.id.getD y 0)=cnA c d y from rfl]at r2
  have ho:=lY (a0:= .v (.int .i64 (fcL c d).length)) (a1:=ints (fcK d (fcL c d)).fr) (a2:=ints (fcK d (fcL c d)).to) (a3:=ints (fcK d (fcL c d)).id) (a4:=aF (fcK d (fcL c d)).co) (a6:=aF (fcA (fcL c d))) (a7:=mapD Tryz.prog 9 2 (fcA (fcL c d)).length (pm (fcA (fcL c d)) (fcA (fcL c d)).length)) hob
  have e1:=aFf (c:=c) (d:=d) (y:=y)
  repeat'(first|(with_reducible first|refine St.f ?_|refine V_c ?_|refine eDn ?_|refine And.intro ?_ ?_|refine aH ?_ ?_|refine aK ?_)|((refine aN ?_);intro K hK)|((with_reducible refine So.f ?_);intro K hK;simp(contextual:=true)only [go_sem,simprocAttr])|((with_reducible refine hK _ ?_);clear hK K)|((with_reducible refine(id ?_:EvCall _ _ [iv y,iv c.ob] _ _));refine EvCall.mr (r1) oM [(0,14)] [] ?_)|((with_reducible refine aC 81 ?_);refine EvCall.mr (r2) oM [(0,15)] [] ?_)|((with_reducible refine aC 82 ?_);refine EvCall.rr (aX) aT ?_)|((with_reducible refine aC 80 ?_);refine EvCall.mr (ho) kY [] [4,5,6,7,8,9,10,11,14,15] ?_)|(refine fun(hc:(_:Bool)=_)=>?_;try simp only [hcS]at hc))
  all_goals try exact om_
  ·refine⟨⟨y+1,by omega,(by trivial)⟩,by simp only;omega,Imp.auto hX (by simp only [go_sem,simprocAttr,e1])⟩
 ·have ey:y=d.ob.toNat:=by omega
  subst ey
  repeat'(first|(with_reducible first|refine St.f ?_|refine V_c ?_|refine eDn ?_|refine And.intro ?_ ?_|refine aH ?_ ?_|refine aK ?_)|((refine aN ?_);intro K hK)|((with_reducible refine So.f ?_);intro K hK;simp(contextual:=true)only [go_sem,simprocAttr])|((with_reducible refine hK _ ?_);clear hK K)|(refine fun(hc:(_:Bool)=_)=>?_;try simp only [hcS]at hc))
  all_goals try exact om_
  refine aG (G:={a:Nat//a≤d.fr.length∧(True)}) (fun⟨a,_⟩=>[(50,iv a),(6, .ptr 4 0),(8, .sl 12),(9, .sl 13),(12, .bsl 3 2)]) [2,3,4,5,49] (fun⟨a,_⟩=>[(12,⟨1, .arr (ints (diO c d d.ob.toNat))⟩),(13,⟨1, .arr (ints (diA c d a))⟩)]) [12,13] (fun zz=>d.fr.length-zz.1) ⟨0,Nat.zero_le _,by first|trivial|simp⟩ ?_ ?_
  ·exact Imp.au hX
  rintro⟨a,hia,hwa⟩
  simp only [go_sem,simprocAttr]
  have hal:=iS (c:=c) (d:=d) (a:=a)
  rcases Nat.lt_or_ge a d.fr.length with hla|hga
  ·have f1:=sd.toShape.frw a hla
   have f2:=sd.toShape.tow a (by omega)
   have o1:=qM (c:=c) (d:=d) (y:=(d.fr.getD a 0).toNat) (n:=d.ob.toNat) (by omega)
   have o2:=qM (c:=c) (d:=d) (y:=(d.to.getD a 0).toNat) (n:=d.ob.toNat) (by omega)
   have hm:=aH7 sc sd hL hla
   have r1:=mL (x:=(a:Int)) (n:=c.ob) c0 (by omega)
   have har:=dZ (a0:= .v (.int .i64 (fcL c d).length)) (a1:=ints (fcK d (fcL c d)).fr) (a2:=ints (fcK d (fcL c d)).to) (a3:=ints (fcK d (fcL c d)).id) (a4:=aF (fcK d (fcL c d)).co) (a5:=aS (fcL c d)) (a6:=aF (fcA (fcL c d))) hk hm (by rw [List.length_replicate];omega)
   have e2:diA c d (a+1)=diA c d a++[fnd (fcA (fcL c d)) ((cnI c d (d.fr.getD a 0).toNat:Int)::(cnI c d (d.to.getD a 0).toNat:Int)::List.replicate c.ob.toNat (a:Int))]:=aFe
   repeat'(first|(rw [o1];simp only [go_sem,simprocAttr])|(rw [o2];simp only [go_sem,simprocAttr])|(with_reducible first|refine St.f ?_|refine V_c ?_|refine eDn ?_|refine And.intro ?_ ?_|refine aH ?_ ?_|refine aK ?_)|((refine aN ?_);intro K hK)|((with_reducible refine So.f ?_);intro K hK;simp(contextual:=true)only [go_sem,simprocAttr])|((with_reducible refine hK _ ?_);clear hK K)|((with_reducible refine aC 81 ?_);refine EvCall.mr (r1) oM [(0,14)] [] ?_)|((with_reducible refine aC 83 ?_);refine EvCall.mr (har) dO [] [4,5,6,7,8,9,10,11,14] ?_)|(refine fun(hc:(_:Bool)=_)=>?_;try simp only [hcS]at hc))
   all_goals try exact om_
   ·refine⟨⟨a+1,by omega,(by trivial)⟩,by simp only;omega,Imp.auto hX (by simp only [go_sem,simprocAttr,e2])⟩
  ·have ea:a=d.fr.length:=by omega
   subst ea
   repeat'(first|(with_reducible first|refine St.f ?_|refine V_c ?_|refine eDn ?_|refine And.intro ?_ ?_|refine aH ?_ ?_|refine aK ?_)|((refine aN ?_);intro K hK)|((with_reducible refine So.f ?_);intro K hK;simp(contextual:=true)only [go_sem,simprocAttr])|((with_reducible refine hK _ ?_);clear hK K)|((with_reducible refine aC 84 ?_);refine EvCall.mr (hfu) jP [(0,14),(1,15),(2,16),(3,17),(4,18),(5,19),(6,20),(7,21),(8,22),(9,23)] [4,5,6,7,8,1,12,13] ?_)|(refine fun(hc:(_:Bool)=_)=>?_;try simp only [hcS]at hc))
   all_goals try exact om_
   ·(first|refine aB ?_|refine aA ?_);simp only [go_sem,simprocAttr,Tryz.f14]
theorem wV (x:Int) (n:Nat):List.replicate (n+1) x=List.replicate n x++[x]:=List.replicate_succ'
theorem aPe (x:Int):List.replicate 0 x=[]:=rfl
attribute [local go_sem] aPe
theorem yP {c d:Cat} {y:Nat} (hc:CatB c) (hd:CatB d) (sc:Shape c) (sd:Shape d) (hy:(y:Int)<d.ob):Spec Tryz.prog 88 [bK c,bK d,iv y] [] (.agg [iv (⟨c,d,cnO c y,cnA c d y⟩:Fun).src.ob, .sl 0, .sl 1, .sl 2, .sl 3,iv (⟨c,d,cnO c y,cnA c d y⟩:Fun).tgt.ob, .sl 4, .sl 5, .sl 6, .sl 7, .sl 8, .sl 9]) [(0,⟨1, .arr (ints (⟨c,d,cnO c y,cnA c d y⟩:Fun).src.fr)⟩),(1,⟨1, .arr (ints (⟨c,d,cnO c y,cnA c d y⟩:Fun).src.to)⟩),(2,⟨1, .arr (ints (⟨c,d,cnO c y,cnA c d y⟩:Fun).src.id)⟩),(3,⟨1, .arr (aF (⟨c,d,cnO c y,cnA c d y⟩:Fun).src.co)⟩),(4,⟨1, .arr (ints (⟨c,d,cnO c y,cnA c d y⟩:Fun).tgt.fr)⟩),(5,⟨1, .arr (ints (⟨c,d,cnO c y,cnA c d y⟩:Fun).tgt.to)⟩),(6,⟨1, .arr (ints (⟨c,d,cnO c y,cnA c d y⟩:Fun).tgt.id)⟩),(7,⟨1, .arr (aF (⟨c,d,cnO c y,cnA c d y⟩:Fun).tgt.co)⟩),(8,⟨1, .arr (ints (⟨c,d,cnO c y,cnA c d y⟩:Fun).obs)⟩),(9,⟨1, .arr (ints (⟨c,d,cnO c y,cnA c d y⟩:Fun).ars)⟩)]:=by
 have c0:=sc.ob0
 have c8:=sc.ob8
 have c40:=sc.m40
 have dil:=sd.idl
 have hmk:=pL (c:=c) (d:=d) (p:=cnO c y) (q:=cnA c d y) hc hd (by unfold cnO;rw [List.length_replicate];omega) (by unfold cnA;rw [List.length_replicate];omega)
 refine aD (E:=TE) 0 Tryz.func88 rfl (by simp [Tryz.f88]) fun X hn hX=>?_
 repeat'(first|refine wkQ ?_|refine Tw.f ?_ ?_|(refine fun(hc:(_:Bool)=_)=>?_;try simp only [hcS]at hc))
 all_goals try exact om_
 refine aG (G:={x:Nat//x≤c.ob.toNat∧(True)}) (fun⟨x,_⟩=>[(9,iv x),(7, .sl 3),(8, .sl 4)]) [2,3,4,6] (fun⟨x,_⟩=>[(3,⟨1, .arr (ints (List.replicate x (y:Int)))⟩),(4,⟨1, .arr (ints [])⟩)]) [3,4] (fun zz=>c.ob.toNat-zz.1) ⟨0,Nat.zero_le _,by first|trivial|simp⟩ ?_ ?_
 ·exact Imp.au hX
 rintro⟨x,hix,hwx⟩
 simp only [go_sem,simprocAttr]
 rcases Nat.lt_or_ge x c.ob.toNat with hlx|hgx
 ·have e1:=wV (y:Int) x
  repeat'(first|refine wkQ ?_|refine Tw.f ?_ ?_|(refine fun(hc:(_:Bool)=_)=>?_;try simp only [hcS]at hc))
  all_goals try exact om_
  ·refine⟨⟨x+1,by omega,(by trivial)⟩,by simp only;omega,Imp.auto hX (by simp only [go_sem,simprocAttr,e1])⟩
 ·have ex:x=c.ob.toNat:=by omega
  subst ex
  rw [show List.replicate c.ob.toNat (y:Int)=cnO c y from rfl]
  repeat'(first|refine wkQ ?_|refine Tw.f ?_ ?_|(refine fun(hc:(_:Bool)=_)=>?_;try simp only [hcS]at hc))
  all_goals try exact om_
  refine aG (G:={a:Nat//a≤c.fr.length∧(True)}) (fun⟨a,_⟩=>[(10,iv a),(7, .sl 3),(8, .sl 4)]) [2,3,4,6] (fun⟨a,_⟩=>[(3,⟨1, .arr (ints (cnO c y))⟩),(4,⟨1, .arr (ints (List.replicate a (d.id.getD y 0)))⟩)]) [3,4] (fun zz=>c.fr.length-zz.1) ⟨0,Nat.zero_le _,by first|trivial|simp⟩ ?_ ?_
  ·exact Imp.au hX
  rintro⟨a,hia,hwa⟩
  simp only [go_sem,simprocAttr]
  rcases Nat.lt_or_ge a c.fr.length with hla|hga
  ·have e1:=wV (d.id.getD y 0) a
   repeat'(first|refine wkQ ?_|refine Tw.f ?_ ?_|(refine fun(hc:(_:Bool)=_)=>?_;try simp only [hcS]at hc))
   all_goals try exact om_
   ·refine⟨⟨a+1,by omega,(by trivial)⟩,by simp only;omega,Imp.auto hX (by simp only [go_sem,simprocAttr,e1])⟩
  ·have ea:a=c.fr.length:=by omega
   subst ea
   rw [show List.replicate c.fr.length (d.id.getD y 0)=cnA c d y from rfl]
   repeat'(first|refine wkQ ?_|refine Tw.f ?_ ?_|(refine kcQ mD ?_;refine kwQ (hmk) [(0,5),(1,6),(2,7),(3,8),(4,9),(5,10),(6,11),(7,12),(8,13),(9,14)] [3,4] ?_)|(refine fun(hc:(_:Bool)=_)=>?_;try simp only [hcS]at hc))
   all_goals try exact om_
   ·(first|refine aB ?_|refine aA ?_);simp only [go_sem,simprocAttr,Tryz.f88]
theorem dV:aE Tryz.prog 15:=⟨_,Tryz.func15,rfl,rfl⟩
theorem kM {c d:Cat} (hc:CatB c) (hd:CatB d) (h:¬(IsCat c∧IsCat d)):Spec Tryz.prog 15 [bK c,bK d] [] (.tup [.agg [iv 0, .v (.slice none 0 0), .v (.slice none 0 0), .v (.slice none 0 0), .v (.slice none 0 0),iv 0, .v (.slice none 0 0), .v (.slice none 0 0), .v (.slice none 0 0), .v (.slice none 0 0), .v (.slice none 0 0), .v (.slice none 0 0)],iv 1]) []:=by
 by_cases h1:IsCat c
 ·have h2:¬IsCat d:=fun q=>h ⟨h1,q⟩
  have v1:=bH h1
  have v2:=eD h2
  refine aD (E:=TE) 0 Tryz.func15 rfl (by simp [Tryz.f15]) fun X hn hX=>?_
  repeat'(first|refine wkQ ?_|refine Tw.f ?_ ?_|(refine kcQ gI ?_;refine ksQ (a:=fK (by first|omega|assumption|rfl) (by first|omega|assumption|rfl)) (c:=?_))|(refine fun(hc:(_:Bool)=_)=>?_;try simp only [hcS]at hc))
  all_goals try exact om_
  all_goals((first|refine aB ?_|refine aA ?_);simp only [go_sem,simprocAttr,Tryz.f15])
 ·have v1:=eD h1
  refine aD (E:=TE) 0 Tryz.func15 rfl (by simp [Tryz.f15]) fun X hn hX=>?_
  repeat'(first|refine wkQ ?_|refine Tw.f ?_ ?_|(refine kcQ gI ?_;refine ksQ (a:=fK (by first|omega|assumption|rfl) (by first|omega|assumption|rfl)) (c:=?_))|(refine fun(hc:(_:Bool)=_)=>?_;try simp only [hcS]at hc))
  all_goals try exact om_
  all_goals((first|refine aB ?_|refine aA ?_);simp only [go_sem,simprocAttr,Tryz.f15])
theorem lP {c d:Cat} (hc:CatB c) (hd:CatB d) (sc:IsCat c) (sd:IsCat d) (h:¬FcY c d):Spec Tryz.prog 15 [bK c,bK d] [] (.tup [.agg [iv 0, .v (.slice none 0 0), .v (.slice none 0 0), .v (.slice none 0 0), .v (.slice none 0 0),iv 0, .v (.slice none 0 0), .v (.slice none 0 0), .v (.slice none 0 0), .v (.slice none 0 0), .v (.slice none 0 0), .v (.slice none 0 0)],iv 3]) []:=by
 have v1:=bH sc
 have v2:=bH sd
 have h1:=gM sc sd hc hd (.inr ⟨h,rfl,rfl⟩)
 refine aD (E:=TE) 0 Tryz.func15 rfl (by simp [Tryz.f15]) fun X hn hX=>?_
 repeat'(first|refine wkQ ?_|refine Tw.f ?_ ?_|(refine kcQ gI ?_;refine ksQ (a:=fK (by first|omega|assumption|rfl) (by first|omega|assumption|rfl)) (c:=?_))|(refine kcQ iG ?_;refine kwQ (h1) [] [] ?_)|(refine fun(hc:(_:Bool)=_)=>?_;try simp only [hcS]at hc))
 all_goals try exact om_
 all_goals((first|refine aB ?_|refine aA ?_);simp only [go_sem,simprocAttr,Tryz.f15])
theorem kN {c d:Cat} (hc:CatB c) (hd:CatB d) (sc:IsCat c) (sd:IsCat d) (hy:FcY c d):Spec Tryz.prog 15 [bK c,bK d] [] (.tup [.agg [iv (diF c d).src.ob, .sl 0, .sl 1, .sl 2, .sl 3,iv (diF c d).tgt.ob, .sl 4, .sl 5, .sl 6, .sl 7, .sl 8, .sl 9],iv 0]) [(0,⟨1, .arr (ints (diF c d).src.fr)⟩),(1,⟨1, .arr (ints (diF c d).src.to)⟩),(2,⟨1, .arr (ints (diF c d).src.id)⟩),(3,⟨1, .arr (aF (diF c d).src.co)⟩),(4,⟨1, .arr (ints (diF c d).tgt.fr)⟩),(5,⟨1, .arr (ints (diF c d).tgt.to)⟩),(6,⟨1, .arr (ints (diF c d).tgt.id)⟩),(7,⟨1, .arr (aF (diF c d).tgt.co)⟩),(8,⟨1, .arr (ints (diF c d).obs)⟩),(9,⟨1, .arr (ints (diF c d).ars)⟩)]:=by
 have bc:=hc
 have v1:=bH sc
 have v2:=bH sd
 have c0:=sc.toShape.ob0
 have c8:=sc.toShape.ob8
 have c40:=sc.toShape.m40
 have d0:=sd.toShape.ob0
 have d8:=sd.toShape.ob8
 have d40:=sd.toShape.m40
 have dtl:=sd.toShape.tol
 have h1:=gM sc sd hc hd (.inl ⟨hy,rfl,rfl⟩)
 have hL:=hy.2.1
 have hA:=hy.2.2
 have hfl:FL c d (fcL c d):=FL.of_funX
 have hKb:=aC9 d hL hA
 have hrw:∀a,a<(fcA (fcL c d)).length→((fcA (fcL c d)).getD a []).length≤1048576:=fun a ha=>by have:=(hfl.arr (bI (d:=[]) ha)).len;omega
 have hfu:=pL (c:=d) (d:=fcK d (fcL c d)) (p:=diO c d d.ob.toNat) (q:=diA c d d.fr.length) hd hKb (by rw [iT];omega) (by rw [iS];omega)
 have eF:diF c d=⟨d,fcK d (fcL c d),diO c d d.ob.toNat,diA c d d.fr.length⟩:=rfl
 rw [eF]
 refine aD (E:=TE) 0 Tryz.func15 rfl (by simp [Tryz.f15]) fun X hn hX=>?_
 repeat'(first|(with_reducible first|refine St.f ?_|refine V_c ?_|refine eDn ?_|refine And.intro ?_ ?_|refine aH ?_ ?_|refine aK ?_)|((refine aN ?_);intro K hK)|((with_reducible refine So.f ?_);intro K hK;simp(contextual:=true)only [go_sem,simprocAttr])|((with_reducible refine hK _ ?_);clear hK K)|((with_reducible refine aC 85 ?_);refine EvCall.rq (a:=(fK (by first|omega|assumption|rfl) (by first|omega|assumption|rfl))) (b:=gI) (c:=?_);all_goals try simp only [go_sem,simprocAttr])|((with_reducible refine aC 86 ?_);refine EvCall.mr (h1) iG [(0,3),(1,4),(2,5),(3,6),(4,7),(5,8)] [] ?_)|(refine fun(hc:(_:Bool)=_)=>?_;try simp only [hcS]at hc))
 all_goals try exact om_
 refine aG (G:={y:Nat//y≤d.ob.toNat∧(True)}) (fun⟨y,_⟩=>[(10,iv y),(6, .ptr 9 0),(8, .sl 10),(9, .sl 11)]) [2,3,4,5] (fun⟨y,_⟩=>[(10,⟨1, .arr (ints (diO c d y))⟩),(11,⟨1, .arr (ints [])⟩)]) [10,11] (fun zz=>d.ob.toNat-zz.1) ⟨0,Nat.zero_le _,by first|trivial|simp⟩ ?_ ?_
 ·exact Imp.au hX
 rintro⟨y,hiy,hwy⟩
 simp only [go_sem,simprocAttr]
 have hol:=iT (c:=c) (d:=d) (y:=y)
 rcases Nat.lt_or_ge y d.ob.toNat with hly|hgy
 ·have hob:=aCR (y:=y) sc sd hL (by omega)
  have hcn:=yP (y:=y) bc hd sc.toShape sd.toShape (by omega)
  have ho:=aEA (ob:=((fcL c d).length:Int)) (fr:=(fcK d (fcL c d)).fr) (to:=(fcK d (fcL c d)).to) (id:=(fcK d (fcL c d)).id) (co:=(fcK d (fcL c d)).co) (A:=fcA (fcL c d)) (L:=fcL c d) (g:=⟨c,d,cnO c y,cnA c d y⟩) (i:=cnI c d y) hob (by show(cnA c d y).length≤64;unfold cnA;rw [List.length_replicate];omega)
  have e1:=aFf (c:=c) (d:=d) (y:=y)
  repeat'(first|(with_reducible first|refine St.f ?_|refine V_c ?_|refine eDn ?_|refine And.intro ?_ ?_|refine aH ?_ ?_|refine aK ?_)|((refine aN ?_);intro K hK)|((with_reducible refine So.f ?_);intro K hK;simp(contextual:=true)only [go_sem,simprocAttr])|((with_reducible refine hK _ ?_);clear hK K)|((with_reducible refine aC 88 ?_);refine EvCall.mr (hcn) zZ [(0,12),(1,13),(2,14),(3,15),(4,16),(5,17),(6,18),(7,19),(8,20),(9,21)] [] ?_)|((with_reducible refine aC 87 ?_);refine EvCall.mr (ho) aCo [] [3,4,5,6,7,8,12,13,14,15,16,17,18,19,20,21] ?_)|(refine fun(hc:(_:Bool)=_)=>?_;try simp only [hcS]at hc))
  all_goals try exact om_
  ·refine⟨⟨y+1,by omega,(by trivial)⟩,by simp only;omega,Imp.auto hX (by simp only [go_sem,simprocAttr,e1])⟩
 ·have ey:y=d.ob.toNat:=by omega
  subst ey
  repeat'(first|(with_reducible first|refine St.f ?_|refine V_c ?_|refine eDn ?_|refine And.intro ?_ ?_|refine aH ?_ ?_|refine aK ?_)|((refine aN ?_);intro K hK)|((with_reducible refine So.f ?_);intro K hK;simp(contextual:=true)only [go_sem,simprocAttr])|((with_reducible refine hK _ ?_);clear hK K)|(refine fun(hc:(_:Bool)=_)=>?_;try simp only [hcS]at hc))
  all_goals try exact om_
  refine aG (G:={a:Nat//a≤d.fr.length∧(True)}) (fun⟨a,_⟩=>[(11,iv a),(6, .ptr 9 0),(8, .sl 10),(9, .sl 11)]) [2,3,4,5] (fun⟨a,_⟩=>[(10,⟨1, .arr (ints (diO c d d.ob.toNat))⟩),(11,⟨1, .arr (ints (diA c d a))⟩)]) [10,11] (fun zz=>d.fr.length-zz.1) ⟨0,Nat.zero_le _,by first|trivial|simp⟩ ?_ ?_
  ·exact Imp.au hX
  rintro⟨a,hia,hwa⟩
  simp only [go_sem,simprocAttr]
  have hal:=iS (c:=c) (d:=d) (a:=a)
  rcases Nat.lt_or_ge a d.fr.length with hla|hga
  ·repeat'(first|(with_reducible first|refine St.f ?_|refine V_c ?_|refine eDn ?_|refine And.intro ?_ ?_|refine aH ?_ ?_|refine aK ?_)|((refine aN ?_);intro K hK)|((with_reducible refine So.f ?_);intro K hK;simp(contextual:=true)only [go_sem,simprocAttr])|((with_reducible refine hK _ ?_);clear hK K)|(refine fun(hc:(_:Bool)=_)=>?_;try simp only [hcS]at hc))
   all_goals try exact om_
   refine aG (G:={x:Nat//x≤c.ob.toNat∧(True)}) (fun⟨x,_⟩=>[(13,iv x),(6, .ptr 9 0),(8, .sl 10),(9, .sl 11),(11,iv a),(12, .sl 12)]) [2,3,4,5] (fun⟨x,_⟩=>[(10,⟨1, .arr (ints (diO c d d.ob.toNat))⟩),(11,⟨1, .arr (ints (diA c d a))⟩),(12,⟨1, .arr (ints (List.replicate x (a:Int)))⟩)]) [10,11,12] (fun zz=>c.ob.toNat-zz.1) ⟨0,Nat.zero_le _,by first|trivial|simp⟩ ?_ ?_
   ·exact Imp.au hX
   rintro⟨x,hix,hwx⟩
   simp only [go_sem,simprocAttr]
   rcases Nat.lt_or_ge x c.ob.toNat with hlx|hgx
   ·have e1:=wV (a:Int) x
    repeat'(first|(with_reducible first|refine St.f ?_|refine V_c ?_|refine eDn ?_|refine And.intro ?_ ?_|refine aH ?_ ?_|refine aK ?_)|((refine aN ?_);intro K hK)|((with_reducible refine So.f ?_);intro K hK;simp(contextual:=true)only [go_sem,simprocAttr])|((with_reducible refine hK _ ?_);clear hK K)|(refine fun(hc:(_:Bool)=_)=>?_;try simp only [hcS]at hc))
    all_goals try exact om_
    ·refine⟨⟨x+1,by omega,(by trivial)⟩,by simp only;omega,Imp.auto hX (by simp only [go_sem,simprocAttr,e1])⟩
   ·have ex:x=c.ob.toNat:=by omega
    subst ex
    have f1:=sd.toShape.frw a hla
    have f2:=sd.toShape.tow a (by omega)
    have o1:=qM (c:=c) (d:=d) (y:=(d.fr.getD a 0).toNat) (n:=d.ob.toNat) (by omega)
    have o2:=qM (c:=c) (d:=d) (y:=(d.to.getD a 0).toNat) (n:=d.ob.toNat) (by omega)
    have hol2:=iT (c:=c) (d:=d) (y:=d.ob.toNat)
    have har:=rU (ob:=((fcL c d).length:Int)) (fr:=(fcK d (fcL c d)).fr) (to:=(fcK d (fcL c d)).to) (id:=(fcK d (fcL c d)).id) (co:=(fcK d (fcL c d)).co) (L:=fcA (fcL c d)) (F:=fcL c d) (i:=(cnI c d (d.fr.getD a 0).toNat:Int)) (j:=(cnI c d (d.to.getD a 0).toNat:Int)) (p:=List.replicate c.ob.toNat (a:Int)) (by omega) hrw (by rw [List.length_replicate];omega)
    have e2:diA c d (a+1)=diA c d a++[fnd (fcA (fcL c d)) ((cnI c d (d.fr.getD a 0).toNat:Int)::(cnI c d (d.to.getD a 0).toNat:Int)::List.replicate c.ob.toNat (a:Int))]:=aFe
    repeat'(first|(rw [o1];simp only [go_sem,simprocAttr])|(rw [o2];simp only [go_sem,simprocAttr])|(with_reducible first|refine St.f ?_|refine V_c ?_|refine eDn ?_|refine And.intro ?_ ?_|refine aH ?_ ?_|refine aK ?_)|((refine aN ?_);intro K hK)|((with_reducible refine So.f ?_);intro K hK;simp(contextual:=true)only [go_sem,simprocAttr])|((with_reducible refine hK _ ?_);clear hK K)|((with_reducible refine aC 89 ?_);refine EvCall.mr (har) oK [] [3,4,5,6,7,8,12] ?_)|(refine fun(hc:(_:Bool)=_)=>?_;try simp only [hcS]at hc))
    all_goals try exact om_
    ·refine⟨⟨a+1,by omega,(by(trivial))⟩,by simp only;omega,Imp.auto hX (by simp only [go_sem,simprocAttr,e2])⟩
  ·have ea:a=d.fr.length:=by omega
   subst ea
   repeat'(first|(with_reducible first|refine St.f ?_|refine V_c ?_|refine eDn ?_|refine And.intro ?_ ?_|refine aH ?_ ?_|refine aK ?_)|((refine aN ?_);intro K hK)|((with_reducible refine So.f ?_);intro K hK;simp(contextual:=true)only [go_sem,simprocAttr])|((with_reducible refine hK _ ?_);clear hK K)|((with_reducible refine aC 90 ?_);refine EvCall.mr (hfu) mD [(0,12),(1,13),(2,14),(3,15),(4,16),(5,17),(6,18),(7,19),(8,20),(9,21)] [3,4,5,6,10,11] ?_)|(refine fun(hc:(_:Bool)=_)=>?_;try simp only [hcS]at hc))
   all_goals try exact om_
   ·(first|refine aB ?_|refine aA ?_);simp only [go_sem,simprocAttr,Tryz.f15]
end Go.Eng
end
